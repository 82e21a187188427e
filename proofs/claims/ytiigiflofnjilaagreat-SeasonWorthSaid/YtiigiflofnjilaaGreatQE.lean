/- Walks and plain laws that lead to the given statement, part 5 of 9. -/
import Derived.Test.YtiigiflofnjilaaGreatQD
import Derived.Test.YtiigiflofnjilaaGreatProg
set_option maxRecDepth 100000
set_option linter.all false
open Nat renaming reduceAdd->rA,reduceMul->rM,reduceSub->rS,beq_refl->nbr
namespace Go.Sx
def m1 (d t:Nat):Ins:=⟨some d,.mv (.t t),none,[]⟩
def o1 (d:Nat) (i:SI):Ins:=⟨some d,i,none,[]⟩
attribute [go_sem] m1 o1
open Go
structure Qt1 (P:Program) (f:FuncId) (c:SC) (r:List RV) (N:Nat):Prop where
 h:∀ {args:List SV} {res:SV},KFL args->KF res->sx P Y0 0 c (st0 args N) (Zwj r res)->(hA:Nat.ble args.length N=true:=by rfl)->Ct P f args res
theorem ZT {P:Program} {f:FuncId} {fn:Func} {c:SC} {r:List RV} {N:Nat} (hf:P.funcs[f]?=some fn) (hd:fn.body.isSome=true) (hb:YO P f=true) (hc:Xv P c (fn.body.getD .skip)=true) (hr:Ww P r fn.results.toList=true) (hN:fn.ntmps=N):Qt1 P f c r N:=⟨fun {args res} ka kr h hA=>by
 cases hq:fn.body with
 | none=>rw [hq] at hd;cases hd
 | some code=>rw [hq] at hc;exact Zmf hf hq hb hc hr hN (Nat.le_of_ble_eq_true hA) ka kr h⟩
def zv0:List Value:=[.int .i64 0,.int .i64 0,.int .i64 0,.int .i64 0,.int .i64 0,.int .i64 0,.bool false]
def zv1:List Value:=[.int .i64 0,.int .i64 0,.int .i64 0,.int .i64 0,.int .i64 0,.int .i64 0,.int .i64 0,.int .i64 0,.int .i64 0,.int .i64 0,.int .i64 0,.int .i64 0,.int .i64 0,.int .i64 0,.int .i64 0,.int .i64 0,.int .i64 0,.int .i64 0,.int .i64 0,.int .i64 0,.int .i64 0,.int .i64 0,.int .i64 0,.bool false]
def zv2:List Value:=[.slice none 0 0,.slice none 0 0,.int .i64 0,.int .i64 0,.int .i64 0,.int .i64 0,.int .i64 0,.int .i64 0,.int .i64 0,.int .i64 0,.int .i64 0,.int .i64 0,.int .i64 0,.int .i64 0,.int .i64 0,.int .i64 0,.int .i64 0,.int .i64 0,.int .i64 0,.int .i64 0,.int .i64 0,.int .i64 0,.int .i64 0,.int .i64 0,.int .i64 0,.int .i64 0,.int .i64 0,.bool false,.int .i64 0,.int .i64 0,.int .i64 0,.int .i64 0,.int .i64 0,.int .i64 0,.int .i64 0,.int .i64 0,.slice none 0 0,.int .i64 0]
def zv3:List Value:=[.int .i64 0,.int .i64 0,.int .i64 0,.int .i64 0,.int .i64 0,.int .i64 0,.int .i64 0,.int .i64 0]
def zv5:List Value:=[.int .i64 0,.int .i64 0,.int .i64 0,.int .i64 0,.slice none 0 0,.slice none 0 0]
def zv6:List Value:=[.int .i64 0,.int .i64 0,.int .i64 0,.int .i64 0,.int .i64 0,.int .i64 0]
def zv7:List Value:=[.int .i64 0,.int .i64 0,.int .i64 0,.int .i64 0,.int .i64 0,.int .i64 0,.int .i64 0,.int .i64 0,.int .i64 0]
def zv8:List Value:=[.int .i64 0,.int .i64 0,.int .i64 0,.int .i64 0,.slice none 0 0]
attribute [go_sem] zv0 zv1 zv2 zv3 zv5 zv6 zv7 zv8
end Go.Sx
namespace Go.Proofs.YtiigiflofnjilaaGreat
open Go Go.Sx
def c12:SC:=(.seq (.reg [
 o1 1 (.box (.t 0) 0 34),
 o1 2 (.mv (.c (.bool false)))])
 (.seq (.seq (.reg [
 o1 4 (.addo (.t 1) 0),
 o1 5 (.ld (.t 4) 2 true),
 o1 6 (.call 46 [.t 5]),
 m1 7 6,
 ⟨some 8,.addo (.t 1) 36,some (7,false),[]⟩,
 ⟨some 9,.ld (.t 8) 1 false,some (7,false),[]⟩,
 ⟨some 10,.len (.t 9),some (7,false),[]⟩,
 ⟨some 11,.bin .gtr (.t 10) (.c (.int .i64 8)),some (7,false),[]⟩,
 o1 12 (.pick (.t 7) (.c (.bool true)) (.t 11))])
 (.cond (.t 12)
 (.seq (.reg [
  o1 2 (.mv (.c (.bool true)))])
  .ret)
 .skip))
 (.seq (.seq (.reg [
 o1 3 (.mv (.c (.int .i64 0)))])
 (.block 0 (.loop (.seq (.seq (.reg [
  m1 13 3,
  o1 14 (.addo (.t 1) 36),
  o1 15 (.ld (.t 14) 1 false),
  o1 16 (.len (.t 15)),
  o1 17 (.bin .lss (.t 13) (.t 16))])
  (.cond (.t 17)
  .skip
  (.exit 0)))
  (.seq (.block 1 (.seq (.reg [
   o1 20 (.addo (.t 1) 36),
   o1 21 (.ld (.t 20) 1 false),
   m1 22 3,
   o1 23 (.ixs (.t 21) (.t 22) 6),
   o1 24 (.addo (.t 23) 4),
   o1 25 (.ld (.t 24) 1 false),
   o1 26 (.len (.t 25)),
   o1 27 (.bin .gtr (.t 26) (.c (.int .i64 20))),
   m1 28 27,
   ⟨some 29,.addo (.t 1) 36,some (28,false),[]⟩,
   ⟨some 30,.ld (.t 29) 1 false,some (28,false),[]⟩,
   ⟨some 31,.mv (.t 3),some (28,false),[]⟩,
   ⟨some 32,.ixs (.t 30) (.t 31) 6,some (28,false),[]⟩,
   ⟨some 33,.addo (.t 32) 5,some (28,false),[]⟩,
   ⟨some 34,.ld (.t 33) 1 false,some (28,false),[]⟩,
   ⟨some 35,.len (.t 34),some (28,false),[]⟩,
   ⟨some 36,.bin .gtr (.t 35) (.c (.int .i64 20)),some (28,false),[]⟩,
   o1 37 (.pick (.t 28) (.c (.bool true)) (.t 36))])
   (.cond (.t 37)
   (.seq (.reg [
    o1 2 (.mv (.c (.bool true)))])
    .ret)
   .skip)))
  (.reg [
  m1 18 3,
  o1 19 (.bin .add (.t 18) (.c (.int .i64 1))),
  m1 3 19]))))))
 (.seq (.reg [
 o1 2 (.mv (.c (.bool false)))])
 .ret))))
def r12:List RV:=[.tmp 2]
theorem t12:Qt1 Tryz.prog 12 c12 r12 38:=ZT Tryz.func12 rfl (by kernel_rfl) (by kernel_rfl) (by kernel_rfl) (by kernel_rfl)
def c16:SC:=(.seq (.reg [
 o1 1 (.box (.t 0) 0 34),
 o1 2 (.mv (.c (.int .i64 0)))])
 (.seq (.reg [
 o1 9 (.addo (.t 1) 0),
 o1 10 (.addo (.t 9) 0),
 o1 11 (.ld (.t 10) 1 false),
 o1 12 (.len (.t 11)),
 m1 3 12])
 (.seq (.reg [
 o1 14 (.addo (.t 1) 0),
 o1 15 (.ld (.t 14) 2 true),
 o1 16 (.addo (.t 1) 33),
 o1 17 (.ld (.t 16) 1 false),
 o1 18 (.addo (.t 1) 34),
 o1 19 (.ld (.t 18) 1 false),
 o1 20 (.addo (.t 1) 2),
 o1 21 (.ld (.t 20) 2 true),
 o1 22 (.call 52 [.t 15,.t 17,.t 19,.t 21]),
 m1 13 22,
 o1 23 (.ext (.t 13) 0),
 o1 24 (.ext (.t 13) 1),
 m1 4 23,
 m1 5 24])
 (.seq (.reg [
 o1 25 (.addo (.t 1) 28),
 o1 26 (.ld (.t 25) 1 false),
 o1 27 (.bsl 1 3 [.t 26]),
 o1 28 (.call 53 [.c (.int .i64 1),.c (.int .i64 30),.t 27]),
 m1 29 28,
 ⟨some 30,.addo (.t 1) 29,some (29,true),[]⟩,
 ⟨some 31,.ld (.t 30) 1 false,some (29,true),[]⟩,
 ⟨some 32,.bsl 1 3 [.t 31],some (29,true),[]⟩,
 ⟨some 33,.call 53 [.c (.int .i64 1),.c (.int .i64 24),.t 32],some (29,true),[]⟩,
 o1 34 (.pick (.t 29) (.t 33) (.c (.bool false))),
 m1 35 34,
 ⟨some 36,.addo (.t 1) 30,some (35,true),[]⟩,
 ⟨some 37,.ld (.t 36) 1 false,some (35,true),[]⟩,
 ⟨some 38,.bsl 1 3 [.t 37],some (35,true),[]⟩,
 ⟨some 39,.call 53 [.c (.int .i64 1),.c (.int .i64 1000000),.t 38],some (35,true),[]⟩,
 o1 40 (.pick (.t 35) (.t 39) (.c (.bool false))),
 m1 41 40,
 ⟨some 42,.addo (.t 1) 31,some (41,true),[]⟩,
 ⟨some 43,.ld (.t 42) 1 false,some (41,true),[]⟩,
 ⟨some 44,.addo (.t 1) 32,some (41,true),[]⟩,
 ⟨some 45,.ld (.t 44) 1 false,some (41,true),[]⟩,
 ⟨some 46,.bsl 1 3 [.t 43,.t 45],some (41,true),[]⟩,
 ⟨some 47,.call 53 [.c (.int .i64 0),.c (.int .i64 1000000),.t 46],some (41,true),[]⟩,
 o1 48 (.pick (.t 41) (.t 47) (.c (.bool false))),
 m1 49 48,
 ⟨some 50,.addo (.t 1) 35,some (49,true),[]⟩,
 ⟨some 51,.ld (.t 50) 1 false,some (49,true),[]⟩,
 ⟨some 52,.addo (.t 1) 34,some (49,true),[]⟩,
 ⟨some 53,.ld (.t 52) 1 false,some (49,true),[]⟩,
 ⟨some 54,.bsl 1 3 [.t 53],some (49,true),[]⟩,
 ⟨some 55,.call 53 [.c (.int .i64 0),.t 51,.t 54],some (49,true),[]⟩,
 o1 56 (.pick (.t 49) (.t 55) (.c (.bool false))),
 m1 57 56,
 ⟨some 58,.addo (.t 1) 35,some (57,true),[]⟩,
 ⟨some 59,.ld (.t 58) 1 false,some (57,true),[]⟩,
 ⟨some 60,.bin .leq (.t 59) (.c (.int .i64 100000)),some (57,true),[]⟩,
 o1 61 (.pick (.t 57) (.t 60) (.c (.bool false))),
 m1 6 61])
 (.seq (.seq (.reg [
 m1 62 5,
 o1 63 (.bin .neq (.t 62) (.c (.int .i64 0))),
 m1 64 63,
 ⟨some 65,.addo (.t 1) 4,some (64,false),[]⟩,
 ⟨some 66,.ld (.t 65) 17 true,some (64,false),[]⟩,
 ⟨some 67,.addo (.t 1) 21,some (64,false),[]⟩,
 ⟨some 68,.ld (.t 67) 7 true,some (64,false),[]⟩,
 ⟨some 69,.call 54 [.t 66,.t 68],some (64,false),[]⟩,
 ⟨some 70,.bin .neq (.t 69) (.c (.int .i64 0)),some (64,false),[]⟩,
 o1 71 (.pick (.t 64) (.c (.bool true)) (.t 70)),
 m1 72 71,
 ⟨some 73,.mv (.t 6),some (72,false),[]⟩,
 ⟨some 74,.un .not (.t 73),some (72,false),[]⟩,
 o1 75 (.pick (.t 72) (.c (.bool true)) (.t 74)),
 m1 76 75,
 ⟨some 77,.addo (.t 1) 36,some (76,false),[]⟩,
 ⟨some 78,.ld (.t 77) 1 false,some (76,false),[]⟩,
 ⟨some 79,.len (.t 78),some (76,false),[]⟩,
 ⟨some 80,.bsl 1 3 [.t 79],some (76,false),[]⟩,
 ⟨some 81,.call 53 [.c (.int .i64 1),.c (.int .i64 4),.t 80],some (76,false),[]⟩,
 ⟨some 82,.un .not (.t 81),some (76,false),[]⟩,
 o1 83 (.pick (.t 76) (.c (.bool true)) (.t 82))])
 (.cond (.t 83)
 (.seq (.reg [
  o1 2 (.mv (.c (.int .i64 90)))])
  .ret)
 .skip))
 (.seq (.seq (.reg [
 o1 84 (.addo (.t 1) 36),
 o1 85 (.ld (.t 84) 1 false),
 o1 86 (.len (.t 85)),
 o1 87 (.mv (.c (.int .i64 0)))])
 (.block 0 (.loop (.seq (.reg [
  o1 88 (.bin .lss (.t 87) (.t 86))])
  (.seq (.cond (.t 88)
  .skip
  (.exit 0))
  (.seq (.block 1 (.seq (.reg [
   o1 89 (.ixs (.t 85) (.t 87) 6),
   o1 90 (.ld (.t 89) 6 true),
   o1 8 (.alloc zv5 72),
   ⟨none,.st (.t 8) (.t 90) 6,none,[]⟩])
   (.seq (.reg [
   o1 91 (.addo (.t 8) 0),
   o1 92 (.ld (.t 91) 2 true),
   o1 93 (.bsl 2 27 [.t 92]),
   o1 94 (.call 55 [.c (.int .i64 0),.c (.int .i64 60),.t 93]),
   o1 95 (.un .not (.t 94)),
   m1 96 95,
   ⟨some 97,.addo (.t 8) 2,some (96,false),[]⟩,
   ⟨some 98,.ld (.t 97) 2 true,some (96,false),[]⟩,
   ⟨some 99,.bsl 2 27 [.t 98],some (96,false),[]⟩,
   ⟨some 100,.call 55 [.c (.int .i64 0),.c (.int .i64 1000000),.t 99],some (96,false),[]⟩,
   ⟨some 101,.un .not (.t 100),some (96,false),[]⟩,
   o1 102 (.pick (.t 96) (.c (.bool true)) (.t 101)),
   m1 103 102,
   ⟨some 104,.addo (.t 8) 4,some (103,false),[]⟩,
   ⟨some 105,.ld (.t 104) 1 false,some (103,false),[]⟩,
   ⟨some 106,.len (.t 105),some (103,false),[]⟩,
   ⟨some 107,.mv (.t 3),some (103,false),[]⟩,
   ⟨some 108,.bin .neq (.t 106) (.t 107),some (103,false),[]⟩,
   o1 109 (.pick (.t 103) (.c (.bool true)) (.t 108)),
   m1 110 109,
   ⟨some 111,.addo (.t 8) 4,some (110,false),[]⟩,
   ⟨some 112,.ld (.t 111) 1 false,some (110,false),[]⟩,
   ⟨some 113,.call 55 [.c (.int .i64 0),.c (.int .i64 10000000),.t 112],some (110,false),[]⟩,
   ⟨some 114,.un .not (.t 113),some (110,false),[]⟩,
   o1 115 (.pick (.t 110) (.c (.bool true)) (.t 114)),
   m1 116 115,
   ⟨some 117,.addo (.t 8) 5,some (116,false),[]⟩,
   ⟨some 118,.ld (.t 117) 1 false,some (116,false),[]⟩,
   ⟨some 119,.len (.t 118),some (116,false),[]⟩,
   ⟨some 120,.mv (.t 3),some (116,false),[]⟩,
   ⟨some 121,.bin .neq (.t 119) (.t 120),some (116,false),[]⟩,
   o1 122 (.pick (.t 116) (.c (.bool true)) (.t 121)),
   m1 123 122,
   ⟨some 124,.addo (.t 8) 5,some (123,false),[]⟩,
   ⟨some 125,.ld (.t 124) 1 false,some (123,false),[]⟩,
   ⟨some 126,.call 53 [.c (.int .i64 0),.c (.int .i64 1000000),.t 125],some (123,false),[]⟩,
   ⟨some 127,.un .not (.t 126),some (123,false),[]⟩,
   o1 128 (.pick (.t 123) (.c (.bool true)) (.t 127))])
   (.cond (.t 128)
   (.seq (.reg [
    o1 2 (.mv (.c (.int .i64 90)))])
    .ret)
   .skip))))
  (.reg [
  o1 129 (.bin .add (.t 87) (.c (.int .i64 1))),
  m1 87 129])))))))
 (.seq (.reg [
 o1 2 (.mv (.c (.int .i64 0)))])
 .ret)))))))
def r16:List RV:=[.tmp 2]
theorem t16:Qt1 Tryz.prog 16 c16 r16 130:=ZT Tryz.func16 rfl (by kernel_rfl) (by kernel_rfl) (by kernel_rfl) (by kernel_rfl)
def c48:SC:=(.seq (.reg [
 o1 2 (.box (.t 0) 0 34),
 o1 3 (.box (.t 1) 0 37),
 o1 4 (.mv (.c (.int .i64 0)))])
 (.seq (.seq (.reg [
 o1 8 (.ld (.t 2) 37 true),
 o1 9 (.call 16 [.t 8]),
 m1 5 9])
 (.seq (.reg [
 m1 10 5,
 o1 11 (.bin .neq (.t 10) (.c (.int .i64 0)))])
 (.cond (.t 11)
 (.seq (.reg [
  m1 12 5,
  m1 4 12])
  .ret)
 .skip)))
 (.seq (.seq (.reg [
 o1 14 (.ld (.t 2) 37 true),
 o1 15 (.addo (.t 3) 0),
 o1 16 (.ld (.t 15) 1 false),
 o1 17 (.call 58 [.t 14,.t 16]),
 m1 13 17,
 o1 18 (.ext (.t 13) 0),
 o1 19 (.ext (.t 13) 1),
 m1 6 18,
 m1 7 19])
 (.seq (.reg [
 m1 20 7,
 o1 21 (.un .not (.t 20)),
 m1 22 21,
 ⟨some 23,.addo (.t 2) 28,some (22,false),[]⟩,
 ⟨some 24,.ld (.t 23) 1 false,some (22,false),[]⟩,
 ⟨some 25,.addo (.t 3) 1,some (22,false),[]⟩,
 ⟨some 26,.ld (.t 25) 1 false,some (22,false),[]⟩,
 ⟨some 27,.bsl 1 3 [.t 26],some (22,false),[]⟩,
 ⟨some 28,.call 53 [.c (.int .i64 0),.t 24,.t 27],some (22,false),[]⟩,
 ⟨some 29,.un .not (.t 28),some (22,false),[]⟩,
 o1 30 (.pick (.t 22) (.c (.bool true)) (.t 29)),
 m1 31 30,
 ⟨some 32,.addo (.t 3) 2,some (31,false),[]⟩,
 ⟨some 33,.ld (.t 32) 1 false,some (31,false),[]⟩,
 ⟨some 34,.bsl 1 3 [.t 33],some (31,false),[]⟩,
 ⟨some 35,.call 53 [.c (.int .i64 0),.c (.int .i64 12),.t 34],some (31,false),[]⟩,
 ⟨some 36,.un .not (.t 35),some (31,false),[]⟩,
 o1 37 (.pick (.t 31) (.c (.bool true)) (.t 36))])
 (.cond (.t 37)
 (.seq (.reg [
  o1 4 (.mv (.c (.int .i64 91)))])
  .ret)
 .skip)))
 (.seq (.reg [
 o1 4 (.mv (.c (.int .i64 0)))])
 .ret))))
def r48:List RV:=[.tmp 4]
theorem t48:Qt1 Tryz.prog 48 c48 r48 38:=ZT Tryz.func48 rfl (by kernel_rfl) (by kernel_rfl) (by kernel_rfl) (by kernel_rfl)
def c50:SC:=(.seq (.reg [
 o1 1 (.box (.t 0) 0 34),
 o1 2 (.mv (.c (.bool false)))])
 (.seq (.seq (.reg [
 o1 6 (.addo (.t 1) 0),
 o1 7 (.ld (.t 6) 2 true),
 o1 8 (.call 93 [.t 7]),
 o1 9 (.bin .neq (.t 8) (.c (.int .i64 0))),
 m1 10 9,
 ⟨some 11,.addo (.t 1) 2,some (10,false),[]⟩,
 ⟨some 12,.ld (.t 11) 2 true,some (10,false),[]⟩,
 ⟨some 13,.call 94 [.t 12],some (10,false),[]⟩,
 ⟨some 14,.un .not (.t 13),some (10,false),[]⟩,
 o1 15 (.pick (.t 10) (.c (.bool true)) (.t 14)),
 m1 16 15,
 ⟨some 17,.addo (.t 1) 4,some (16,false),[]⟩,
 ⟨some 18,.ld (.t 17) 17 true,some (16,false),[]⟩,
 ⟨some 19,.addo (.t 1) 21,some (16,false),[]⟩,
 ⟨some 20,.ld (.t 19) 7 true,some (16,false),[]⟩,
 ⟨some 21,.call 95 [.t 18,.t 20],some (16,false),[]⟩,
 ⟨some 22,.bin .neq (.t 21) (.c (.int .i64 0)),some (16,false),[]⟩,
 o1 23 (.pick (.t 16) (.c (.bool true)) (.t 22))])
 (.cond (.t 23)
 (.seq (.reg [
  o1 2 (.mv (.c (.bool false)))])
  .ret)
 .skip))
 (.seq (.seq (.reg [
 o1 24 (.addo (.t 1) 28),
 o1 25 (.ld (.t 24) 1 false),
 o1 26 (.call 61 [.t 25,.c (.int .i64 1),.c (.int .i64 30)]),
 o1 27 (.un .not (.t 26)),
 m1 28 27,
 ⟨some 29,.addo (.t 1) 29,some (28,false),[]⟩,
 ⟨some 30,.ld (.t 29) 1 false,some (28,false),[]⟩,
 ⟨some 31,.call 61 [.t 30,.c (.int .i64 1),.c (.int .i64 24)],some (28,false),[]⟩,
 ⟨some 32,.un .not (.t 31),some (28,false),[]⟩,
 o1 33 (.pick (.t 28) (.c (.bool true)) (.t 32)),
 m1 34 33,
 ⟨some 35,.addo (.t 1) 30,some (34,false),[]⟩,
 ⟨some 36,.ld (.t 35) 1 false,some (34,false),[]⟩,
 ⟨some 37,.call 61 [.t 36,.c (.int .i64 1),.c (.int .i64 1000000)],some (34,false),[]⟩,
 ⟨some 38,.un .not (.t 37),some (34,false),[]⟩,
 o1 39 (.pick (.t 34) (.c (.bool true)) (.t 38)),
 m1 40 39,
 ⟨some 41,.addo (.t 1) 31,some (40,false),[]⟩,
 ⟨some 42,.ld (.t 41) 1 false,some (40,false),[]⟩,
 ⟨some 43,.call 61 [.t 42,.c (.int .i64 0),.c (.int .i64 1000000)],some (40,false),[]⟩,
 ⟨some 44,.un .not (.t 43),some (40,false),[]⟩,
 o1 45 (.pick (.t 40) (.c (.bool true)) (.t 44)),
 m1 46 45,
 ⟨some 47,.addo (.t 1) 32,some (46,false),[]⟩,
 ⟨some 48,.ld (.t 47) 1 false,some (46,false),[]⟩,
 ⟨some 49,.call 61 [.t 48,.c (.int .i64 0),.c (.int .i64 1000000)],some (46,false),[]⟩,
 ⟨some 50,.un .not (.t 49),some (46,false),[]⟩,
 o1 51 (.pick (.t 46) (.c (.bool true)) (.t 50))])
 (.cond (.t 51)
 (.seq (.reg [
  o1 2 (.mv (.c (.bool false)))])
  .ret)
 .skip))
 (.seq (.seq (.reg [
 o1 52 (.addo (.t 1) 33),
 o1 53 (.ld (.t 52) 1 false),
 o1 54 (.addo (.t 1) 0),
 o1 55 (.addo (.t 54) 0),
 o1 56 (.ld (.t 55) 1 false),
 o1 57 (.len (.t 56)),
 o1 58 (.bin .sub (.t 57) (.c (.int .i64 1))),
 o1 59 (.call 61 [.t 53,.c (.int .i64 0),.t 58]),
 o1 60 (.un .not (.t 59)),
 m1 61 60,
 ⟨some 62,.addo (.t 1) 34,some (61,false),[]⟩,
 ⟨some 63,.ld (.t 62) 1 false,some (61,false),[]⟩,
 ⟨some 64,.addo (.t 1) 35,some (61,false),[]⟩,
 ⟨some 65,.ld (.t 64) 1 false,some (61,false),[]⟩,
 ⟨some 66,.call 61 [.t 63,.c (.int .i64 0),.t 65],some (61,false),[]⟩,
 ⟨some 67,.un .not (.t 66),some (61,false),[]⟩,
 o1 68 (.pick (.t 61) (.c (.bool true)) (.t 67)),
 m1 69 68,
 ⟨some 70,.addo (.t 1) 35,some (69,false),[]⟩,
 ⟨some 71,.ld (.t 70) 1 false,some (69,false),[]⟩,
 ⟨some 72,.bin .gtr (.t 71) (.c (.int .i64 100000)),some (69,false),[]⟩,
 o1 73 (.pick (.t 69) (.c (.bool true)) (.t 72)),
 m1 74 73,
 ⟨some 75,.addo (.t 1) 36,some (74,false),[]⟩,
 ⟨some 76,.ld (.t 75) 1 false,some (74,false),[]⟩,
 ⟨some 77,.len (.t 76),some (74,false),[]⟩,
 ⟨some 78,.call 61 [.t 77,.c (.int .i64 1),.c (.int .i64 4)],some (74,false),[]⟩,
 ⟨some 79,.un .not (.t 78),some (74,false),[]⟩,
 o1 80 (.pick (.t 74) (.c (.bool true)) (.t 79))])
 (.cond (.t 80)
 (.seq (.reg [
  o1 2 (.mv (.c (.bool false)))])
  .ret)
 .skip))
 (.seq (.seq (.reg [
 o1 3 (.mv (.c (.int .i64 0)))])
 (.block 0 (.loop (.seq (.seq (.reg [
  m1 81 3,
  o1 82 (.addo (.t 1) 36),
  o1 83 (.ld (.t 82) 1 false),
  o1 84 (.len (.t 83)),
  o1 85 (.bin .lss (.t 81) (.t 84))])
  (.cond (.t 85)
  .skip
  (.exit 0)))
  (.seq (.block 1 (.seq (.reg [
   o1 88 (.addo (.t 1) 36),
   o1 89 (.ld (.t 88) 1 false),
   m1 90 3,
   o1 91 (.ixs (.t 89) (.t 90) 6),
   o1 92 (.ld (.t 91) 6 true),
   o1 4 (.alloc zv5 72),
   ⟨none,.st (.t 4) (.t 92) 6,none,[]⟩])
   (.seq (.seq (.reg [
   o1 93 (.addo (.t 4) 0),
   o1 94 (.ld (.t 93) 2 true),
   o1 95 (.call 96 [.t 94,.c (.int .i64 0),.c (.int .i64 60)]),
   o1 96 (.un .not (.t 95)),
   m1 97 96,
   ⟨some 98,.addo (.t 4) 2,some (97,false),[]⟩,
   ⟨some 99,.ld (.t 98) 2 true,some (97,false),[]⟩,
   ⟨some 100,.call 96 [.t 99,.c (.int .i64 0),.c (.int .i64 1000000)],some (97,false),[]⟩,
   ⟨some 101,.un .not (.t 100),some (97,false),[]⟩,
   o1 102 (.pick (.t 97) (.c (.bool true)) (.t 101)),
   m1 103 102,
   ⟨some 104,.addo (.t 4) 4,some (103,false),[]⟩,
   ⟨some 105,.ld (.t 104) 1 false,some (103,false),[]⟩,
   ⟨some 106,.len (.t 105),some (103,false),[]⟩,
   ⟨some 107,.addo (.t 1) 0,some (103,false),[]⟩,
   ⟨some 108,.addo (.t 107) 0,some (103,false),[]⟩,
   ⟨some 109,.ld (.t 108) 1 false,some (103,false),[]⟩,
   ⟨some 110,.len (.t 109),some (103,false),[]⟩,
   ⟨some 111,.bin .neq (.t 106) (.t 110),some (103,false),[]⟩,
   o1 112 (.pick (.t 103) (.c (.bool true)) (.t 111)),
   m1 113 112,
   ⟨some 114,.addo (.t 4) 5,some (113,false),[]⟩,
   ⟨some 115,.ld (.t 114) 1 false,some (113,false),[]⟩,
   ⟨some 116,.len (.t 115),some (113,false),[]⟩,
   ⟨some 117,.addo (.t 1) 0,some (113,false),[]⟩,
   ⟨some 118,.addo (.t 117) 0,some (113,false),[]⟩,
   ⟨some 119,.ld (.t 118) 1 false,some (113,false),[]⟩,
   ⟨some 120,.len (.t 119),some (113,false),[]⟩,
   ⟨some 121,.bin .neq (.t 116) (.t 120),some (113,false),[]⟩,
   o1 122 (.pick (.t 113) (.c (.bool true)) (.t 121))])
   (.cond (.t 122)
   (.seq (.reg [
    o1 2 (.mv (.c (.bool false)))])
    .ret)
   .skip))
   (.seq (.reg [
   o1 5 (.mv (.c (.int .i64 0)))])
   (.block 2 (.loop (.seq (.seq (.reg [
    m1 123 5,
    o1 124 (.addo (.t 4) 4),
    o1 125 (.ld (.t 124) 1 false),
    o1 126 (.len (.t 125)),
    o1 127 (.bin .lss (.t 123) (.t 126))])
    (.cond (.t 127)
    .skip
    (.exit 2)))
    (.seq (.block 3 (.seq (.reg [
     o1 130 (.addo (.t 4) 4),
     o1 131 (.ld (.t 130) 1 false),
     m1 132 5,
     o1 133 (.ixs (.t 131) (.t 132) 2),
     o1 134 (.ld (.t 133) 2 true),
     o1 135 (.call 96 [.t 134,.c (.int .i64 0),.c (.int .i64 10000000)]),
     o1 136 (.un .not (.t 135)),
     m1 137 136,
     ⟨some 138,.addo (.t 4) 5,some (137,false),[]⟩,
     ⟨some 139,.ld (.t 138) 1 false,some (137,false),[]⟩,
     ⟨some 140,.mv (.t 5),some (137,false),[]⟩,
     ⟨some 141,.ixs (.t 139) (.t 140) 1,some (137,false),[]⟩,
     ⟨some 142,.ld (.t 141) 1 false,some (137,false),[]⟩,
     ⟨some 143,.call 61 [.t 142,.c (.int .i64 0),.c (.int .i64 1000000)],some (137,false),[]⟩,
     ⟨some 144,.un .not (.t 143),some (137,false),[]⟩,
     o1 145 (.pick (.t 137) (.c (.bool true)) (.t 144))])
     (.cond (.t 145)
     (.seq (.reg [
      o1 2 (.mv (.c (.bool false)))])
      .ret)
     .skip)))
    (.reg [
    m1 128 5,
    o1 129 (.bin .add (.t 128) (.c (.int .i64 1))),
    m1 5 129])))))))))
  (.reg [
  m1 86 3,
  o1 87 (.bin .add (.t 86) (.c (.int .i64 1))),
  m1 3 87]))))))
 (.seq (.reg [
 o1 2 (.mv (.c (.bool true)))])
 .ret))))))
def r50:List RV:=[.tmp 2]
theorem t50:Qt1 Tryz.prog 50 c50 r50 146:=ZT Tryz.func50 rfl (by kernel_rfl) (by kernel_rfl) (by kernel_rfl) (by kernel_rfl)
def c53:SC:=(.seq (.reg [
 o1 3 (.box (.t 0) 0 3),
 o1 4 (.box (.t 1) 0 3),
 o1 6 (.mv (.c (.bool false)))])
 (.seq (.reg [
 m1 7 2,
 o1 8 (.mkf 99 [.t 3,.t 4]),
 o1 9 (.call 98 [.t 7,.t 8]),
 o1 10 (.un .not (.t 9)),
 m1 6 10])
 .ret))
def r53:List RV:=[.tmp 6]
theorem t53:Qt1 Tryz.prog 53 c53 r53 11:=ZT Tryz.func53 rfl (by kernel_rfl) (by kernel_rfl) (by kernel_rfl) (by kernel_rfl)
def c55:SC:=(.seq (.reg [
 o1 3 (.box (.t 0) 0 3),
 o1 4 (.box (.t 1) 0 3),
 o1 6 (.mv (.c (.bool false)))])
 (.seq (.reg [
 m1 7 2,
 o1 8 (.mkf 103 [.t 3,.t 4]),
 o1 9 (.call 102 [.t 7,.t 8]),
 o1 10 (.un .not (.t 9)),
 m1 6 10])
 .ret))
def r55:List RV:=[.tmp 6]
theorem t55:Qt1 Tryz.prog 55 c55 r55 11:=ZT Tryz.func55 rfl (by kernel_rfl) (by kernel_rfl) (by kernel_rfl) (by kernel_rfl)
def c58:SC:=(.seq (.reg [
 o1 2 (.box (.t 0) 0 34),
 o1 4 (.mv (.c (.int .i64 0))),
 o1 5 (.mv (.c (.bool false)))])
 (.seq (.reg [
 o1 10 (.raw (Go.Op.makeMap 189 Option.none) 189),
 o1 11 (.addo (.t 2) 33),
 o1 12 (.ld (.t 11) 1 false),
 ⟨none,.raw (Go.Op.insert 189 (Go.Operand.tmp 10) (Go.Operand.tmp 12) (Go.Operand.const (Go.Value.bool Bool.true))) 0,none,[]⟩,
 m1 13 10,
 m1 6 13])
 (.seq (.reg [
 o1 14 (.addo (.t 2) 33),
 o1 15 (.ld (.t 14) 1 false),
 m1 4 15])
 (.seq (.seq (.reg [
 m1 16 1,
 o1 17 (.len (.t 16)),
 o1 18 (.mv (.c (.int .i64 0)))])
 (.block 0 (.loop (.seq (.reg [
  o1 19 (.bin .lss (.t 18) (.t 17))])
  (.seq (.cond (.t 19)
  .skip
  (.exit 0))
  (.seq (.block 1 (.seq (.reg [
   o1 20 (.ixs (.t 16) (.t 18) 1),
   o1 21 (.ld (.t 20) 1 false),
   m1 8 21])
   (.seq (.seq (.reg [
   o1 22 (.addo (.t 2) 0),
   o1 23 (.addo (.t 22) 1),
   o1 24 (.ld (.t 23) 1 false),
   o1 25 (.len (.t 24)),
   o1 26 (.bin .sub (.t 25) (.c (.int .i64 1))),
   m1 27 8,
   o1 28 (.bsl 1 3 [.t 27]),
   o1 29 (.call 53 [.c (.int .i64 0),.t 26,.t 28]),
   o1 30 (.un .not (.t 29))])
   (.cond (.t 30)
   (.seq (.reg [
    o1 4 (.mv (.c (.int .i64 0))),
    o1 5 (.mv (.c (.bool false)))])
    .ret)
   .skip))
   (.seq (.reg [
   o1 31 (.addo (.t 2) 0),
   o1 32 (.addo (.t 31) 1),
   o1 33 (.ld (.t 32) 1 false),
   m1 34 8,
   o1 35 (.ixs (.t 33) (.t 34) 5),
   o1 36 (.ld (.t 35) 5 true),
   o1 9 (.alloc zv8 83),
   ⟨none,.st (.t 9) (.t 36) 5,none,[]⟩])
   (.seq (.seq (.reg [
   m1 37 4,
   o1 38 (.addo (.t 9) 0),
   o1 39 (.ld (.t 38) 1 false),
   o1 40 (.bin .neq (.t 37) (.t 39)),
   m1 41 40,
   ⟨some 42,.mv (.t 4),some (41,true),[]⟩,
   ⟨some 43,.addo (.t 9) 1,some (41,true),[]⟩,
   ⟨some 44,.ld (.t 43) 1 false,some (41,true),[]⟩,
   ⟨some 45,.bin .neq (.t 42) (.t 44),some (41,true),[]⟩,
   o1 46 (.pick (.t 41) (.t 45) (.c (.bool false)))])
   (.cond (.t 46)
   (.seq (.reg [
    o1 4 (.mv (.c (.int .i64 0))),
    o1 5 (.mv (.c (.bool false)))])
    .ret)
   .skip))
   (.seq (.reg [
   o1 47 (.addo (.t 9) 0),
   o1 48 (.ld (.t 47) 1 false),
   o1 49 (.addo (.t 9) 1),
   o1 50 (.ld (.t 49) 1 false),
   o1 51 (.bin .add (.t 48) (.t 50)),
   m1 52 4,
   o1 53 (.bin .sub (.t 51) (.t 52)),
   m1 4 53])
   (.seq (.seq (.reg [
   m1 54 6,
   m1 55 4,
   o1 56 (.raw (Go.Op.lookup 189 (Go.Operand.tmp 54) (Go.Operand.tmp 55) Bool.false) 4)])
   (.cond (.t 56)
   (.seq (.reg [
    o1 4 (.mv (.c (.int .i64 0))),
    o1 5 (.mv (.c (.bool false)))])
    .ret)
   .skip))
   (.reg [
   m1 57 6,
   m1 58 4,
   ⟨none,.raw (Go.Op.mapUpdate 189 (Go.Operand.tmp 57) (Go.Operand.tmp 58) (Go.Operand.const (Go.Value.bool Bool.true))) 0,none,[]⟩]))))))))
  (.reg [
  o1 59 (.bin .add (.t 18) (.c (.int .i64 1))),
  m1 18 59])))))))
 (.seq (.reg [
 m1 60 4,
 m1 4 60,
 o1 5 (.mv (.c (.bool true)))])
 .ret)))))
def r58:List RV:=[.tmp 4,.tmp 5]
theorem t58:Qt1 Tryz.prog 58 c58 r58 61:=ZT Tryz.func58 rfl (by kernel_rfl) (by kernel_rfl) (by kernel_rfl) (by kernel_rfl)
def c61:SC:=(.seq (.reg [
 o1 6 (.mv (.c (.bool false)))])
 (.seq (.reg [
 m1 7 0,
 m1 8 1,
 o1 9 (.bin .geq (.t 7) (.t 8)),
 m1 10 9,
 ⟨some 11,.mv (.t 0),some (10,true),[]⟩,
 ⟨some 12,.mv (.t 2),some (10,true),[]⟩,
 ⟨some 13,.bin .leq (.t 11) (.t 12),some (10,true),[]⟩,
 o1 14 (.pick (.t 10) (.t 13) (.c (.bool false))),
 m1 6 14])
 .ret))
def r61:List RV:=[.tmp 6]
theorem t61:Qt1 Tryz.prog 61 c61 r61 15:=ZT Tryz.func61 rfl (by kernel_rfl) (by kernel_rfl) (by kernel_rfl) (by kernel_rfl)
def c62:SC:=(.seq (.reg [
 o1 2 (.box (.t 0) 0 34),
 o1 4 (.mv (.c (.slice none 0 0))),
 o1 5 (.mv (.c (.bool false)))])
 (.seq (.reg [
 o1 10 (.addo (.t 2) 0),
 o1 11 (.ld (.t 10) 2 true),
 o1 12 (.addo (.t 2) 33),
 o1 13 (.ld (.t 12) 1 false),
 o1 14 (.addo (.t 2) 34),
 o1 15 (.ld (.t 14) 1 false),
 o1 16 (.addo (.t 2) 2),
 o1 17 (.ld (.t 16) 2 true),
 m1 18 1,
 o1 19 (.call 104 [.t 11,.t 13,.t 15,.t 17,.t 18]),
 m1 9 19,
 o1 20 (.ext (.t 9) 0),
 o1 21 (.ext (.t 9) 1),
 o1 22 (.ext (.t 9) 2),
 m1 6 20,
 m1 7 21,
 m1 8 22])
 (.seq (.regd [0,1,2,3,4,5,6,7,8,9,10,11,12,13,14,15,16,17,18,19,20,21,22] [
 .op (m1 23 6),
 .op (m1 24 8),
 .op ⟨some 25,.bin .eql (.t 24) (.c (.int .i64 0)),none,[1]⟩,
 .op ⟨some 26,.mv (.t 25),none,[2]⟩,
 .op ⟨some 27,.mv (.t 6),some (26,true),[3]⟩,
 .op ⟨some 28,.len (.t 27),some (26,true),[3,4]⟩,
 .op ⟨some 29,.bin .eql (.t 28) (.c (.int .i64 0)),some (26,true),[3,5]⟩,
 .op ⟨some 30,.mv (.t 29),some (26,true),[3,6]⟩,
 .op ⟨some 31,.mv (.t 6),some (30,false),[7]⟩,
 .op ⟨some 32,.mv (.t 6),some (30,false),[7]⟩,
 .op ⟨some 33,.len (.t 32),some (30,false),[7,9]⟩,
 .op ⟨some 34,.bin .sub (.t 33) (.c (.int .i64 1)),some (30,false),[7,10]⟩,
 .op ⟨some 35,.ixs (.t 31) (.t 34) 6,some (30,false),[7,8,11]⟩,
 .op ⟨some 36,.addo (.t 35) 4,some (30,false),[7,12]⟩,
 .op ⟨some 37,.addo (.t 36) 1,some (30,false),[7,13]⟩,
 .op ⟨some 38,.ld (.t 37) 1 false,some (30,false),[7,14]⟩,
 .op ⟨some 39,.addo (.t 2) 35,some (30,false),[7]⟩,
 .op ⟨some 40,.ld (.t 39) 1 false,some (30,false),[7,16]⟩,
 .op ⟨some 41,.bin .leq (.t 38) (.t 40),some (30,false),[7,15,17]⟩,
 .op ⟨some 42,.pick (.t 30) (.c (.bool true)) (.t 41),some (26,true),[3,7,18]⟩,
 .op ⟨some 43,.pick (.t 26) (.t 42) (.c (.bool false)),none,[3,19]⟩,
 .op ⟨some 4,.mv (.t 23),none,[0,7]⟩,
 .op ⟨some 5,.mv (.t 43),none,[0,1,2,3,4,5,6,7,8,9,10,11,12,13,14,15,16,17,18,19,20,21]⟩] 0 0 [
])
 .ret)))
def r62:List RV:=[.tmp 4,.tmp 5]
theorem t62:Qt1 Tryz.prog 62 c62 r62 44:=ZT Tryz.func62 rfl (by kernel_rfl) (by kernel_rfl) (by kernel_rfl) (by kernel_rfl)
def c87:SC:=(.seq (.reg [
 o1 2 (.box (.t 0) 0 34),
 o1 4 (.mv (.c (.int .i64 0)))])
 (.seq (.reg [
 o1 9 (.addo (.t 2) 0),
 o1 10 (.addo (.t 9) 0),
 o1 11 (.ld (.t 10) 1 false),
 o1 12 (.len (.t 11)),
 o1 13 (.mks 1 1 [.bool false] 4 (.t 12)),
 m1 5 13])
 (.seq (.reg [
 o1 14 (.addo (.t 2) 33),
 o1 15 (.ld (.t 14) 1 false),
 m1 6 15])
 (.seq (.reg [
 m1 16 5,
 m1 17 6,
 o1 18 (.ixs (.t 16) (.t 17) 1),
 ⟨none,.st (.t 18) (.c (.bool true)) 1,none,[]⟩])
 (.seq (.seq (.reg [
 o1 7 (.mv (.c (.int .i64 0)))])
 (.block 0 (.loop (.seq (.seq (.reg [
  m1 19 7,
  m1 20 1,
  o1 21 (.len (.t 20)),
  o1 22 (.bin .lss (.t 19) (.t 21))])
  (.cond (.t 22)
  .skip
  (.exit 0)))
  (.seq (.block 1 (.seq (.seq (.regd [0,1,2,3,4,5,6,7,8,9,10] [
   .op (m1 25 1),
   .op (m1 26 7),
   .op ⟨some 27,.ixs (.t 25) (.t 26) 1,none,[0,1]⟩,
   .op ⟨some 28,.ld (.t 27) 1 false,none,[2]⟩,
   .op (o1 29 (.addo (.t 2) 0)),
   .op ⟨some 30,.addo (.t 29) 1,none,[4]⟩,
   .op ⟨some 31,.ld (.t 30) 1 false,none,[5]⟩,
   .op ⟨some 32,.len (.t 31),none,[6]⟩,
   .op ⟨some 33,.bin .sub (.t 32) (.c (.int .i64 1)),none,[7]⟩,
   .op ⟨some 34,.call 61 [.t 28,.c (.int .i64 0),.t 33],none,[3,8]⟩,
   .op ⟨some 35,.un .not (.t 34),none,[9]⟩] 0 0 [
])
 (.cond (.t 35)
 (.seq (.reg [
  o1 4 (.mv (.c (.int .i64 (-1))))])
  .ret)
 .skip))
 (.seq (.regd [0,1,2,3,4,5,6,7,8,9,10] [
 .op (o1 36 (.addo (.t 2) 0)),
 .op ⟨some 37,.addo (.t 36) 1,none,[0]⟩,
 .op ⟨some 38,.ld (.t 37) 1 false,none,[1]⟩,
 .op (m1 39 1),
 .op (m1 40 7),
 .op ⟨some 41,.ixs (.t 39) (.t 40) 1,none,[3,4]⟩,
 .op ⟨some 42,.ld (.t 41) 1 false,none,[5]⟩,
 .op ⟨some 43,.ixs (.t 38) (.t 42) 5,none,[2,6]⟩,
 .op ⟨some 44,.ld (.t 43) 5 true,none,[7]⟩] 1 1 [
 o1 8 (.alloc zv8 83),
 ⟨none,.st (.t 8) (.t 44) 5,none,[0,1,2,3,4,5,6,7,8,9]⟩])
 (.seq (.seq (.reg [
 m1 45 6])
 (.block 2 (.seq (.reg [
  o1 47 (.addo (.t 8) 0),
  o1 48 (.ld (.t 47) 1 false),
  o1 49 (.bin .eql (.t 45) (.t 48)),
  m1 46 49])
  (.cond (.t 46)
  (.reg [
   o1 50 (.addo (.t 8) 1),
   o1 51 (.ld (.t 50) 1 false),
   m1 6 51])
  (.seq (.reg [
   o1 53 (.addo (.t 8) 1),
   o1 54 (.ld (.t 53) 1 false),
   o1 55 (.bin .eql (.t 45) (.t 54)),
   m1 52 55])
   (.cond (.t 52)
   (.reg [
    o1 56 (.addo (.t 8) 0),
    o1 57 (.ld (.t 56) 1 false),
    m1 6 57])
   (.seq (.reg [
    o1 4 (.mv (.c (.int .i64 (-1))))])
    .ret)))))))
 (.seq (.seq (.reg [
 m1 58 5,
 m1 59 6,
 o1 60 (.ixs (.t 58) (.t 59) 1),
 o1 61 (.ld (.t 60) 1 false)])
 (.cond (.t 61)
 (.seq (.reg [
  o1 4 (.mv (.c (.int .i64 (-1))))])
  .ret)
 .skip))
 (.reg [
 m1 62 5,
 m1 63 6,
 o1 64 (.ixs (.t 62) (.t 63) 1),
 ⟨none,.st (.t 64) (.c (.bool true)) 1,none,[]⟩]))))))
 (.reg [
 m1 23 7,
 o1 24 (.bin .add (.t 23) (.c (.int .i64 1))),
 m1 7 24]))))))
 (.seq (.reg [
 m1 65 6,
 m1 4 65])
 .ret))))))
def r87:List RV:=[.tmp 4]
theorem t87:Qt1 Tryz.prog 87 c87 r87 66:=ZT Tryz.func87 rfl (by kernel_rfl) (by kernel_rfl) (by kernel_rfl) (by kernel_rfl)
def c96:SC:=(.seq (.reg [
 o1 3 (.box (.t 0) 0 27),
 o1 6 (.mv (.c (.bool false)))])
 (.seq (.reg [
 o1 7 (.addo (.t 3) 0),
 o1 8 (.ld (.t 7) 1 false),
 m1 9 1,
 o1 10 (.addo (.t 3) 1),
 o1 11 (.ld (.t 10) 1 false),
 o1 12 (.call 61 [.t 8,.t 9,.t 11]),
 m1 13 12,
 ⟨some 14,.addo (.t 3) 1,some (13,true),[]⟩,
 ⟨some 15,.ld (.t 14) 1 false,some (13,true),[]⟩,
 ⟨some 16,.mv (.t 2),some (13,true),[]⟩,
 ⟨some 17,.bin .leq (.t 15) (.t 16),some (13,true),[]⟩,
 o1 18 (.pick (.t 13) (.t 17) (.c (.bool false))),
 m1 6 18])
 .ret))
def r96:List RV:=[.tmp 6]
theorem t96:Qt1 Tryz.prog 96 c96 r96 19:=ZT Tryz.func96 rfl (by kernel_rfl) (by kernel_rfl) (by kernel_rfl) (by kernel_rfl)
def c99:SC:=(.seq (.reg [
 o1 4 (.mv (.c (.bool false)))])
 (.seq (.reg [
 m1 5 0,
 o1 6 (.ld (.t 1) 1 false),
 o1 7 (.bin .lss (.t 5) (.t 6)),
 m1 8 7,
 ⟨some 9,.mv (.t 0),some (8,false),[]⟩,
 ⟨some 10,.ld (.t 2) 1 false,some (8,false),[]⟩,
 ⟨some 11,.bin .gtr (.t 9) (.t 10),some (8,false),[]⟩,
 o1 12 (.pick (.t 8) (.c (.bool true)) (.t 11)),
 m1 4 12])
 .ret))
def r99:List RV:=[.tmp 4]
theorem t99:Qt1 Tryz.prog 99 c99 r99 13:=ZT Tryz.func99 rfl (by kernel_rfl) (by kernel_rfl) (by kernel_rfl) (by kernel_rfl)
def c103:SC:=(.seq (.reg [
 o1 3 (.box (.t 0) 0 27),
 o1 4 (.mv (.c (.bool false)))])
 (.seq (.reg [
 o1 5 (.addo (.t 3) 0),
 o1 6 (.ld (.t 5) 1 false),
 o1 7 (.addo (.t 3) 1),
 o1 8 (.ld (.t 7) 1 false),
 o1 9 (.bin .gtr (.t 6) (.t 8)),
 m1 10 9,
 ⟨some 11,.ld (.t 1) 1 false,some (10,false),[]⟩,
 ⟨some 12,.ld (.t 2) 1 false,some (10,false),[]⟩,
 ⟨some 13,.addo (.t 3) 0,some (10,false),[]⟩,
 ⟨some 14,.ld (.t 13) 1 false,some (10,false),[]⟩,
 ⟨some 15,.addo (.t 3) 1,some (10,false),[]⟩,
 ⟨some 16,.ld (.t 15) 1 false,some (10,false),[]⟩,
 ⟨some 17,.bsl 1 3 [.t 14,.t 16],some (10,false),[]⟩,
 ⟨some 18,.call 53 [.t 11,.t 12,.t 17],some (10,false),[]⟩,
 ⟨some 19,.un .not (.t 18),some (10,false),[]⟩,
 o1 20 (.pick (.t 10) (.c (.bool true)) (.t 19)),
 m1 4 20])
 .ret))
def r103:List RV:=[.tmp 4]
theorem t103:Qt1 Tryz.prog 103 c103 r103 21:=ZT Tryz.func103 rfl (by kernel_rfl) (by kernel_rfl) (by kernel_rfl) (by kernel_rfl)
def c44:SC:=(.seq (.reg [
 o1 2 (.box (.t 0) 0 34),
 o1 3 (.box (.t 1) 0 37),
 o1 4 (.mv (.c (.bool false)))])
 (.seq (.reg [
 o1 5 (.ld (.t 2) 37 true),
 o1 6 (.addo (.t 3) 0),
 o1 7 (.ld (.t 6) 1 false),
 o1 8 (.call 87 [.t 5,.t 7]),
 o1 9 (.bin .geq (.t 8) (.c (.int .i64 0))),
 m1 10 9,
 ⟨some 11,.addo (.t 3) 1,some (10,true),[]⟩,
 ⟨some 12,.ld (.t 11) 1 false,some (10,true),[]⟩,
 ⟨some 13,.addo (.t 2) 28,some (10,true),[]⟩,
 ⟨some 14,.ld (.t 13) 1 false,some (10,true),[]⟩,
 ⟨some 15,.call 61 [.t 12,.c (.int .i64 0),.t 14],some (10,true),[]⟩,
 o1 16 (.pick (.t 10) (.t 15) (.c (.bool false))),
 m1 17 16,
 ⟨some 18,.addo (.t 3) 2,some (17,true),[]⟩,
 ⟨some 19,.ld (.t 18) 1 false,some (17,true),[]⟩,
 ⟨some 20,.call 61 [.t 19,.c (.int .i64 0),.c (.int .i64 12)],some (17,true),[]⟩,
 o1 21 (.pick (.t 17) (.t 20) (.c (.bool false))),
 m1 4 21])
 .ret))
def r44:List RV:=[.tmp 4]
theorem t44:Qt1 Tryz.prog 44 c44 r44 22:=ZT Tryz.func44 rfl (by kernel_rfl) (by kernel_rfl) (by kernel_rfl) (by kernel_rfl)
def c15:SC:=(.seq (.reg [
 o1 2 (.box (.t 0) 0 34),
 o1 3 (.box (.t 1) 0 37),
 o1 4 (.mv (.c (.int .u8 0))),
 o1 5 (.mv (.c (.int .i64 0))),
 o1 6 (.mv (.c (.int .i64 0))),
 o1 7 (.mv (.c (.int .i64 0)))])
 (.seq (.seq (.reg [
 o1 11 (.ld (.t 2) 37 true),
 o1 12 (.call 50 [.t 11]),
 o1 13 (.un .not (.t 12))])
 (.cond (.t 13)
 (.seq (.reg [
  o1 4 (.mv (.c (.int .u8 0))),
  o1 5 (.mv (.c (.int .i64 0))),
  o1 6 (.mv (.c (.int .i64 0))),
  o1 7 (.mv (.c (.int .i64 90)))])
  .ret)
 .skip))
 (.seq (.seq (.reg [
 o1 14 (.ld (.t 2) 37 true),
 o1 15 (.ld (.t 3) 3 true),
 o1 16 (.call 44 [.t 14,.t 15]),
 o1 17 (.un .not (.t 16))])
 (.cond (.t 17)
 (.seq (.reg [
  o1 4 (.mv (.c (.int .u8 0))),
  o1 5 (.mv (.c (.int .i64 0))),
  o1 6 (.mv (.c (.int .i64 0))),
  o1 7 (.mv (.c (.int .i64 91)))])
  .ret)
 .skip))
 (.seq (.seq (.reg [
 o1 8 (.mv (.c (.int .i64 0)))])
 (.block 0 (.loop (.seq (.seq (.reg [
  m1 18 8,
  o1 19 (.addo (.t 2) 36),
  o1 20 (.ld (.t 19) 1 false),
  o1 21 (.len (.t 20)),
  o1 22 (.bin .lss (.t 18) (.t 21))])
  (.cond (.t 22)
  .skip
  (.exit 0)))
  (.seq (.block 1 (.seq (.reg [
   o1 26 (.ld (.t 2) 37 true),
   o1 27 (.ld (.t 3) 3 true),
   m1 28 8,
   o1 29 (.call 51 [.t 26,.t 27,.t 28]),
   m1 25 29,
   o1 30 (.ext (.t 25) 0),
   o1 31 (.ext (.t 25) 1),
   m1 9 30,
   m1 10 31])
   (.seq (.reg [
   m1 32 9,
   o1 33 (.bin .neq (.t 32) (.c (.int .u8 0)))])
   (.cond (.t 33)
   (.seq (.reg [
    m1 34 9,
    m1 35 8,
    m1 36 10,
    m1 4 34,
    m1 5 35,
    m1 6 36,
    o1 7 (.mv (.c (.int .i64 0)))])
    .ret)
   .skip))))
  (.reg [
  m1 23 8,
  o1 24 (.bin .add (.t 23) (.c (.int .i64 1))),
  m1 8 24]))))))
 (.seq (.reg [
 o1 4 (.mv (.c (.int .u8 0))),
 o1 5 (.mv (.c (.int .i64 0))),
 o1 6 (.mv (.c (.int .i64 0))),
 o1 7 (.mv (.c (.int .i64 0)))])
 .ret)))))
def r15:List RV:=[.tmp 4,.tmp 5,.tmp 6,.tmp 7]
theorem t15:Qt1 Tryz.prog 15 c15 r15 37:=ZT Tryz.func15 rfl (by kernel_rfl) (by kernel_rfl) (by kernel_rfl) (by kernel_rfl)
def c51:SC:=(.seq (.reg [
 o1 3 (.box (.t 0) 0 34),
 o1 4 (.box (.t 1) 0 37),
 o1 6 (.mv (.c (.int .u8 0))),
 o1 7 (.mv (.c (.int .i64 0)))])
 (.seq (.reg [
 o1 13 (.ld (.t 3) 37 true),
 o1 14 (.addo (.t 4) 0),
 o1 15 (.ld (.t 14) 1 false),
 o1 16 (.call 62 [.t 13,.t 15]),
 m1 12 16,
 o1 17 (.ext (.t 12) 0),
 o1 18 (.ext (.t 12) 1),
 m1 8 17,
 m1 9 18])
 (.seq (.seq (.reg [
 m1 19 9,
 o1 20 (.un .not (.t 19))])
 (.cond (.t 20)
 (.seq (.reg [
  o1 6 (.mv (.c (.int .u8 1))),
  o1 7 (.mv (.c (.int .i64 0)))])
  .ret)
 .skip))
 (.seq (.seq (.reg [
 o1 21 (.addo (.t 4) 1),
 o1 22 (.ld (.t 21) 1 false),
 o1 23 (.bin .eql (.t 22) (.c (.int .i64 0)))])
 (.cond (.t 23)
 (.seq (.reg [
  o1 6 (.mv (.c (.int .u8 0))),
  o1 7 (.mv (.c (.int .i64 0)))])
  .ret)
 .skip))
 (.seq (.reg [
 o1 24 (.ld (.t 3) 37 true),
 m1 25 2,
 o1 26 (.addo (.t 4) 0),
 o1 27 (.ld (.t 26) 1 false),
 m1 28 8,
 o1 29 (.addo (.t 4) 2),
 o1 30 (.ld (.t 29) 1 false),
 o1 31 (.call 63 [.t 24,.t 25,.t 27,.t 28,.t 30]),
 o1 10 (.alloc [.int .u8 0,.int .i64 0,.slice none 0 0,.slice none 0 0] 139),
 ⟨none,.st (.t 10) (.t 31) 4,none,[]⟩])
 (.seq (.seq (.reg [
 o1 11 (.mv (.c (.int .i64 0)))])
 (.block 0 (.loop (.seq (.seq (.reg [
  m1 32 11,
  o1 33 (.addo (.t 10) 2),
  o1 34 (.ld (.t 33) 1 false),
  o1 35 (.len (.t 34)),
  o1 36 (.bin .lss (.t 32) (.t 35))])
  (.cond (.t 36)
  .skip
  (.exit 0)))
  (.seq (.block 1 (.seq (.regd [0,1,2,3,4,5,6,7,8,9,10,11,12,13] [
   .op (o1 39 (.addo (.t 4) 1)),
   .op ⟨some 40,.ld (.t 39) 1 false,none,[0]⟩,
   .op (o1 41 (.addo (.t 10) 2)),
   .op ⟨some 42,.ld (.t 41) 1 false,none,[2]⟩,
   .op (m1 43 11),
   .op ⟨some 44,.ixs (.t 42) (.t 43) 1,none,[3,4]⟩,
   .op ⟨some 45,.ld (.t 44) 1 false,none,[5]⟩,
   .op ⟨some 46,.bin .mul (.t 40) (.t 45),none,[1,6]⟩,
   .op (o1 47 (.addo (.t 10) 3)),
   .op ⟨some 48,.ld (.t 47) 1 false,none,[8]⟩,
   .op (m1 49 11),
   .op ⟨some 50,.ixs (.t 48) (.t 49) 1,none,[9,10]⟩,
   .op ⟨some 51,.ld (.t 50) 1 false,none,[11]⟩,
   .op ⟨some 52,.bin .gtr (.t 46) (.t 51),none,[7,12]⟩] 0 0 [
])
 (.cond (.t 52)
 (.seq (.reg [
  m1 53 11,
  o1 6 (.mv (.c (.int .u8 4))),
  m1 7 53])
  .ret)
 .skip)))
 (.reg [
 m1 37 11,
 o1 38 (.bin .add (.t 37) (.c (.int .i64 1))),
 m1 11 38]))))))
 (.seq (.regd [0,1,2,3,4,5] [
 .op (o1 54 (.addo (.t 10) 0)),
 .op ⟨some 55,.ld (.t 54) 1 false,none,[0]⟩,
 .op (o1 56 (.addo (.t 10) 1)),
 .op ⟨some 57,.ld (.t 56) 1 false,none,[2]⟩,
 .op ⟨some 6,.mv (.t 55),none,[0,1]⟩,
 .op ⟨some 7,.mv (.t 57),none,[0,1,2,3,4]⟩] 0 0 [
])
 .ret)))))))
def r51:List RV:=[.tmp 6,.tmp 7]
theorem t51:Qt1 Tryz.prog 51 c51 r51 58:=ZT Tryz.func51 rfl (by kernel_rfl) (by kernel_rfl) (by kernel_rfl) (by kernel_rfl)
def c63:SC:=(.seq (.reg [
 o1 5 (.box (.t 0) 0 34),
 o1 10 (.alloc [.int .u8 0,.int .i64 0,.slice none 0 0,.slice none 0 0] 139)])
 (.seq (.reg [
 o1 11 (.alloc [.int .u8 0,.int .i64 0,.slice none 0 0,.slice none 0 0] 139)])
 (.seq (.reg [
 o1 25 (.addo (.t 5) 36),
 o1 26 (.ld (.t 25) 1 false),
 m1 27 1,
 o1 28 (.ixs (.t 26) (.t 27) 6),
 o1 29 (.ld (.t 28) 6 true),
 o1 12 (.alloc zv5 72),
 ⟨none,.st (.t 12) (.t 29) 6,none,[]⟩])
 (.seq (.reg [
 o1 30 (.addo (.t 5) 21),
 o1 31 (.ld (.t 30) 7 true),
 o1 13 (.alloc zv0 31),
 ⟨none,.st (.t 13) (.t 31) 7,none,[]⟩])
 (.seq (.seq (.reg [
 m1 32 2,
 o1 33 (.len (.t 32)),
 o1 34 (.bin .eql (.t 33) (.c (.int .i64 0)))])
 (.cond (.t 34)
 (.seq (.seq (.reg [
  o1 36 (.addo (.t 5) 4),
  o1 37 (.ld (.t 36) 17 true),
  o1 38 (.ld (.t 13) 7 true),
  o1 39 (.call 105 [.t 37,.t 38]),
  m1 35 39,
  o1 40 (.ext (.t 35) 0),
  o1 41 (.ext (.t 35) 1),
  o1 14 (.alloc [.int .i64 0,.int .i64 0] 27),
  ⟨none,.st (.t 14) (.t 40) 2,none,[]⟩,
  m1 15 41])
  (.seq (.reg [
  m1 42 4,
  o1 43 (.addo (.t 5) 30),
  o1 44 (.ld (.t 43) 1 false),
  o1 45 (.bin .mul (.t 42) (.t 44)),
  o1 46 (.addo (.t 14) 0),
  o1 47 (.ld (.t 46) 1 false),
  o1 48 (.bin .gtr (.t 45) (.t 47))])
  (.cond (.t 48)
  (.reg [
   o1 49 (.addo (.t 11) 0),
   ⟨none,.st (.t 49) (.c (.int .u8 2)) 1,none,[]⟩])
  .skip)))
  (.seq (.reg [
  o1 50 (.ld (.t 11) 4 true),
  ⟨none,.st (.t 10) (.t 50) 4,none,[]⟩])
  .ret))
 .skip))
 (.seq (.reg [
 o1 51 (.ld (.t 5) 37 true),
 m1 52 1,
 o1 53 (.call 38 [.t 51,.t 52]),
 o1 16 (.alloc [.slice none 0 0,.slice none 0 0] 25),
 ⟨none,.st (.t 16) (.t 53) 2,none,[]⟩])
 (.seq (.seq (.reg [
 o1 17 (.mv (.c (.int .i64 0)))])
 (.block 0 (.loop (.seq (.seq (.reg [
  m1 54 17,
  m1 55 2,
  o1 56 (.len (.t 55)),
  o1 57 (.bin .lss (.t 54) (.t 56))])
  (.cond (.t 57)
  .skip
  (.exit 0)))
  (.seq (.block 1 (.seq (.regd [0,1,2,3,4,5,6,7,8,9,10,11,12,13,14] [
   .op (o1 61 (.addo (.t 5) 0)),
   .op ⟨some 62,.ld (.t 61) 2 true,none,[0]⟩,
   .op (m1 63 2),
   .op (m1 64 17),
   .op ⟨some 65,.ixs (.t 63) (.t 64) 1,none,[2,3]⟩,
   .op ⟨some 66,.ld (.t 65) 1 false,none,[4]⟩,
   .op (o1 67 (.addo (.t 5) 2)),
   .op ⟨some 68,.ld (.t 67) 2 true,none,[6]⟩,
   .op ⟨some 69,.call 106 [.t 62,.t 66,.t 68],none,[1,5,7]⟩,
   .op ⟨some 60,.mv (.t 69),none,[8]⟩,
   .op ⟨some 70,.ext (.t 60) 0,none,[9]⟩,
   .op ⟨some 71,.ext (.t 60) 1,none,[9]⟩] 1 2 [
   o1 18 (.alloc [.int .i64 0,.int .i64 0] 27),
   ⟨none,.st (.t 18) (.t 70) 2,none,[0,1,2,3,4,5,6,7,8,9,10,12]⟩,
   ⟨some 19,.mv (.t 71),none,[0,1,2,3,4,5,6,7,8,9,10,11,12,13]⟩])
   (.seq (.reg [
   o1 73 (.ld (.t 5) 37 true),
   o1 74 (.ld (.t 12) 6 true),
   o1 75 (.ld (.t 13) 7 true),
   o1 76 (.ld (.t 18) 2 true),
   m1 77 4,
   o1 78 (.call 107 [.t 73,.t 74,.t 75,.t 76,.t 77]),
   m1 72 78,
   o1 79 (.ext (.t 72) 0),
   o1 80 (.ext (.t 72) 1),
   o1 20 (.alloc zv0 31),
   ⟨none,.st (.t 20) (.t 79) 7,none,[]⟩,
   m1 21 80])
   (.seq (.seq (.reg [
   m1 81 21,
   o1 82 (.bin .neq (.t 81) (.c (.int .u8 0)))])
   (.cond (.t 82)
   (.seq (.reg [
    m1 83 21,
    m1 84 17,
    o1 85 (.addo (.t 11) 0),
    ⟨none,.st (.t 85) (.t 83) 1,none,[]⟩,
    o1 86 (.addo (.t 11) 1),
    ⟨none,.st (.t 86) (.t 84) 1,none,[]⟩])
    (.seq (.reg [
    o1 87 (.ld (.t 11) 4 true),
    ⟨none,.st (.t 10) (.t 87) 4,none,[]⟩])
    .ret))
   .skip))
   (.seq (.seq (.reg [
   m1 88 17,
   o1 89 (.bin .add (.t 88) (.c (.int .i64 1))),
   m1 90 2,
   o1 91 (.len (.t 90)),
   o1 92 (.bin .lss (.t 89) (.t 91))])
   (.cond (.t 92)
   (.seq (.regd [0,1,2,3,4,5,6,7,8,9,10,11,12,13,14,15,16,17,18,19,20] [
    .op (o1 94 (.ld (.t 16) 2 true)),
    .op (m1 95 3),
    .op (m1 96 17),
    .op ⟨some 97,.ixs (.t 95) (.t 96) 6,none,[1,2]⟩,
    .op ⟨some 98,.addo (.t 97) 1,none,[3]⟩,
    .op ⟨some 99,.ld (.t 98) 1 false,none,[4]⟩,
    .op (m1 100 3),
    .op (m1 101 17),
    .op ⟨some 102,.ixs (.t 100) (.t 101) 6,none,[6,7]⟩,
    .op ⟨some 103,.addo (.t 102) 4,none,[8]⟩,
    .op ⟨some 104,.addo (.t 103) 0,none,[9]⟩,
    .op ⟨some 105,.ld (.t 104) 1 false,none,[10]⟩,
    .op ⟨some 106,.call 108 [.t 94,.t 99,.c (.slice none 0 0),.t 105],none,[0,5,11]⟩,
    .op ⟨some 93,.mv (.t 106),none,[12]⟩,
    .op ⟨some 107,.ext (.t 93) 0,none,[13]⟩,
    .op ⟨some 108,.ext (.t 93) 1,none,[13]⟩,
    .op ⟨some 109,.ext (.t 93) 2,none,[13]⟩] 1 3 [
    o1 22 (.alloc [.int .i64 0,.int .i64 0] 27),
    ⟨none,.st (.t 22) (.t 107) 2,none,[0,1,2,3,4,5,6,7,8,9,10,11,12,13,14,17]⟩,
    ⟨some 23,.mv (.t 108),none,[0,1,2,3,4,5,6,7,8,9,10,11,12,13,14,15,17,18]⟩,
    ⟨some 24,.mv (.t 109),none,[0,1,2,3,4,5,6,7,8,9,10,11,12,13,14,15,16,17,18,19]⟩])
    (.seq (.reg [
    o1 110 (.addo (.t 11) 2),
    o1 111 (.ld (.t 110) 1 false),
    o1 112 (.addo (.t 5) 4),
    o1 113 (.addo (.t 112) 0),
    o1 114 (.ld (.t 113) 1 false),
    o1 115 (.addo (.t 20) 0),
    o1 116 (.addo (.t 115) 0),
    o1 117 (.ld (.t 116) 1 false),
    o1 118 (.bin .sub (.t 114) (.t 117)),
    o1 119 (.bsl 1 3 [.t 118]),
    o1 120 (.appm 1 8 3 (.t 111) (.t 119)),
    o1 121 (.addo (.t 11) 2),
    ⟨none,.st (.t 121) (.t 120) 1,none,[]⟩])
    (.reg [
    o1 122 (.addo (.t 11) 3),
    o1 123 (.ld (.t 122) 1 false),
    o1 124 (.addo (.t 22) 0),
    o1 125 (.ld (.t 124) 1 false),
    o1 126 (.bsl 1 3 [.t 125]),
    o1 127 (.appm 1 8 3 (.t 123) (.t 126)),
    o1 128 (.addo (.t 11) 3),
    ⟨none,.st (.t 128) (.t 127) 1,none,[]⟩])))
   .skip))
   (.seq (.reg [
   o1 129 (.ld (.t 20) 7 true),
   ⟨none,.st (.t 13) (.t 129) 7,none,[]⟩])
   (.reg [
   o1 130 (.addo (.t 5) 4),
   o1 131 (.addo (.t 130) 0),
   o1 132 (.ld (.t 131) 1 false),
   o1 133 (.addo (.t 5) 4),
   o1 134 (.addo (.t 133) 0),
   o1 135 (.ld (.t 134) 1 false),
   o1 136 (.build [.int .i64 0,.int .i64 0] [(0,1,.t 132),(1,1,.t 135)]),
   o1 137 (.addo (.t 13) 0),
   ⟨none,.st (.t 137) (.t 136) 2,none,[]⟩])))))))
  (.reg [
  m1 58 17,
  o1 59 (.bin .add (.t 58) (.c (.int .i64 1))),
  m1 17 59]))))))
 (.seq (.reg [
 o1 138 (.ld (.t 11) 4 true),
 ⟨none,.st (.t 10) (.t 138) 4,none,[]⟩])
 .ret))))))))
def r63:List RV:=[.cell 10 4 true]
theorem n63:Tryz.f63.ntmps=139:=by kernel_rfl
theorem b63:YO Tryz.prog 63=true:=by kernel_rfl
theorem Zuq:Xv Tryz.prog c63 ((Tryz.f63.body).getD .skip)=true:=by kernel_rfl
theorem ZuA:Ww Tryz.prog r63 Tryz.f63.results.toList=true:=by kernel_rfl
def c107:SC:=(.seq (.reg [
 o1 5 (.box (.t 0) 0 34),
 o1 6 (.box (.t 1) 0 72),
 o1 7 (.box (.t 2) 0 31),
 o1 8 (.box (.t 3) 0 27),
 o1 10 (.alloc zv0 31),
 o1 11 (.mv (.c (.int .u8 0)))])
 (.seq (.reg [
 o1 20 (.addo (.t 5) 29),
 o1 21 (.ld (.t 20) 1 false),
 m1 22 4,
 o1 23 (.addo (.t 5) 30),
 o1 24 (.ld (.t 23) 1 false),
 o1 25 (.bin .mul (.t 22) (.t 24)),
 o1 26 (.addo (.t 6) 0),
 o1 27 (.ld (.t 26) 2 true),
 o1 28 (.addo (.t 6) 2),
 o1 29 (.ld (.t 28) 2 true),
 o1 30 (.build zv3 [(0,1,.t 21),(1,1,.t 25),(2,2,.t 27),(4,2,.t 29)]),
 o1 12 (.alloc zv3 80),
 ⟨none,.st (.t 12) (.t 30) 8,none,[]⟩])
 (.seq (.reg [
 o1 13 (.alloc zv0 31)])
 (.seq (.seq (.reg [
 o1 14 (.mv (.c (.int .i64 1)))])
 (.block 0 (.loop (.seq (.seq (.reg [
  m1 31 14,
  o1 32 (.addo (.t 8) 1),
  o1 33 (.ld (.t 32) 1 false),
  o1 34 (.bin .leq (.t 31) (.t 33))])
  (.cond (.t 34)
  .skip
  (.exit 0)))
  (.seq (.block 1 (.seq (.reg [
   o1 38 (.addo (.t 5) 4),
   o1 39 (.ld (.t 38) 17 true),
   o1 40 (.ld (.t 7) 7 true),
   o1 41 (.call 105 [.t 39,.t 40]),
   m1 37 41,
   o1 42 (.ext (.t 37) 0),
   o1 43 (.ext (.t 37) 1),
   o1 15 (.alloc [.int .i64 0,.int .i64 0] 27),
   ⟨none,.st (.t 15) (.t 42) 2,none,[]⟩,
   m1 16 43])
   (.seq (.seq (.reg [
   o1 44 (.addo (.t 12) 1),
   o1 45 (.ld (.t 44) 1 false),
   o1 46 (.addo (.t 15) 0),
   o1 47 (.ld (.t 46) 1 false),
   o1 48 (.bin .gtr (.t 45) (.t 47))])
   (.cond (.t 48)
   (.seq (.reg [
    o1 49 (.build zv0 []),
    ⟨none,.st (.t 10) (.t 49) 7,none,[]⟩,
    o1 11 (.mv (.c (.int .u8 2)))])
    .ret)
   .skip))
   (.seq (.reg [
   o1 51 (.addo (.t 5) 4),
   o1 52 (.ld (.t 51) 17 true),
   o1 53 (.ld (.t 7) 7 true),
   o1 54 (.ld (.t 12) 8 true),
   o1 55 (.call 150 [.t 52,.t 53,.t 54]),
   m1 50 55,
   o1 56 (.ext (.t 50) 0),
   o1 57 (.ext (.t 50) 1),
   o1 58 (.ext (.t 50) 2),
   o1 17 (.alloc zv0 31),
   ⟨none,.st (.t 17) (.t 56) 7,none,[]⟩,
   m1 18 57,
   m1 19 58])
   (.seq (.seq (.reg [
   m1 59 19,
   o1 60 (.bin .neq (.t 59) (.c (.int .i64 0))),
   m1 61 60,
   ⟨some 62,.mv (.t 18),some (61,false),[]⟩,
   ⟨some 63,.bin .neq (.t 62) (.c (.int .i64 0)),some (61,false),[]⟩,
   o1 64 (.pick (.t 61) (.c (.bool true)) (.t 63))])
   (.cond (.t 64)
   (.seq (.reg [
    o1 65 (.build zv0 []),
    ⟨none,.st (.t 10) (.t 65) 7,none,[]⟩,
    o1 11 (.mv (.c (.int .u8 3)))])
    .ret)
   .skip))
   (.seq (.reg [
   o1 66 (.ld (.t 17) 7 true),
   ⟨none,.st (.t 7) (.t 66) 7,none,[]⟩])
   (.seq (.seq (.reg [
   m1 67 14,
   o1 68 (.addo (.t 8) 0),
   o1 69 (.ld (.t 68) 1 false),
   o1 70 (.bin .eql (.t 67) (.t 69))])
   (.cond (.t 70)
   (.reg [
    o1 71 (.ld (.t 7) 7 true),
    ⟨none,.st (.t 13) (.t 71) 7,none,[]⟩])
   .skip))
   (.seq (.reg [
   m1 72 14,
   o1 73 (.addo (.t 8) 0),
   o1 74 (.ld (.t 73) 1 false),
   o1 75 (.bin .gtr (.t 72) (.t 74))])
   (.cond (.t 75)
   (.regd [0,1,2,3,4,5,6,7,8,9,10,11,12,13,14,15,16,17,18,19,20] [
    .op (o1 76 (.addo (.t 13) 0)),
    .op ⟨some 77,.ld (.t 76) 2 true,none,[0]⟩,
    .op (o1 78 (.addo (.t 7) 0)),
    .op ⟨some 79,.ld (.t 78) 2 true,none,[2]⟩,
    .op ⟨some 80,.call 151 [.t 77,.t 79],none,[1,3]⟩,
    .op (o1 81 (.addo (.t 13) 2)),
    .op ⟨some 82,.ld (.t 81) 2 true,none,[5]⟩,
    .op (o1 83 (.addo (.t 7) 2)),
    .op ⟨some 84,.ld (.t 83) 2 true,none,[7]⟩,
    .op ⟨some 85,.call 151 [.t 82,.t 84],none,[4,6,8]⟩,
    .op (o1 86 (.addo (.t 13) 4)),
    .op ⟨some 87,.ld (.t 86) 2 true,none,[10]⟩,
    .op (o1 88 (.addo (.t 7) 4)),
    .op ⟨some 89,.ld (.t 88) 2 true,none,[12]⟩,
    .op ⟨some 90,.call 151 [.t 87,.t 89],none,[9,11,13]⟩,
    .op ⟨some 91,.addo (.t 13) 0,none,[0,1,2,3,4,5,6,10,11]⟩] 0 1 [
    ⟨none,.st (.t 91) (.t 80) 2,none,[0,1,2,3,4,5,6,10,11,14,15]⟩,
    ⟨some 92,.addo (.t 13) 2,none,[0,1,2,3,4,5,6,7,8,9,10,11,15,16]⟩,
    ⟨none,.st (.t 92) (.t 85) 2,none,[0,1,2,3,4,5,6,7,8,9,10,11,15,16,17]⟩,
    ⟨some 93,.addo (.t 13) 4,none,[0,1,2,3,4,5,6,7,8,9,10,11,12,13,14,15,16,17,18]⟩,
    ⟨none,.st (.t 93) (.t 90) 2,none,[0,1,2,3,4,5,6,7,8,9,10,11,12,13,14,15,16,17,18,19]⟩])
   .skip)))))))))
  (.reg [
  m1 35 14,
  o1 36 (.bin .add (.t 35) (.c (.int .i64 1))),
  m1 14 36]))))))
 (.seq (.reg [
 o1 94 (.ld (.t 13) 7 true),
 ⟨none,.st (.t 10) (.t 94) 7,none,[]⟩,
 o1 11 (.mv (.c (.int .u8 0)))])
 .ret)))))
def r107:List RV:=[.cell 10 7 true,.tmp 11]
theorem t107:Qt1 Tryz.prog 107 c107 r107 95:=ZT Tryz.func107 rfl (by kernel_rfl) (by kernel_rfl) (by kernel_rfl) (by kernel_rfl)
def c151:SC:=(.seq (.reg [
 o1 2 (.box (.t 0) 0 27),
 o1 3 (.box (.t 1) 0 27),
 o1 4 (.alloc [.int .i64 0,.int .i64 0] 27)])
 (.seq (.reg [
 o1 5 (.addo (.t 2) 0),
 o1 6 (.ld (.t 5) 1 false),
 o1 7 (.addo (.t 3) 0),
 o1 8 (.ld (.t 7) 1 false),
 o1 9 (.mm false [.t 6,.t 8]),
 o1 10 (.addo (.t 2) 1),
 o1 11 (.ld (.t 10) 1 false),
 o1 12 (.addo (.t 3) 1),
 o1 13 (.ld (.t 12) 1 false),
 o1 14 (.mm true [.t 11,.t 13]),
 o1 15 (.build [.int .i64 0,.int .i64 0] [(0,1,.t 9),(1,1,.t 14)]),
 ⟨none,.st (.t 4) (.t 15) 2,none,[]⟩])
 .ret))
def r151:List RV:=[.cell 4 2 true]
theorem t151:Qt1 Tryz.prog 151 c151 r151 16:=ZT Tryz.func151 rfl (by kernel_rfl) (by kernel_rfl) (by kernel_rfl) (by kernel_rfl)
def c91:SC:=(.seq (.reg [
 m1 6 0,
 o1 7 (.un .not (.t 6))])
 (.cond (.t 7)
 (.reg [
  m1 8 1,
  m1 9 2,
  o1 10 (.build [.int .u8 0,.int .i64 0] [(0,1,.t 8),(1,1,.t 9)]),
  o1 11 (.raw (Go.Op.makeInterface 117 (Go.Operand.tmp 10)) 20),
  ⟨none,.raw (Go.Op.panic (Go.Operand.tmp 11)) 0,none,[]⟩])
 .skip))
def r91:List RV:=[]
theorem n91:Tryz.f91.ntmps=12:=by kernel_rfl
theorem b91:YO Tryz.prog 91=true:=by kernel_rfl
theorem ZvU:Xv Tryz.prog c91 ((Tryz.f91.body).getD .skip)=true:=by kernel_rfl
theorem Zu7:Ww Tryz.prog r91 Tryz.f91.results.toList=true:=by kernel_rfl
theorem m91 {n0:Nat} {hp0:List (Nat × HB)} {args:List SV} {ZV:Ot->Prop} (hh:hpb n0 hp0) (hx:∀ o,ZV o->KX o.res/\KXP o.hp) (h:sx Tryz.prog Y0 n0 c91 ⟨enum 0 args,hp0,n0,12,[]⟩ (retM r91 fun o=>∃ o',ZV o'/\ZdT n0 o o')) (hA:Nat.ble args.length 12=true:=by rfl):CtM Tryz.prog 91 hp0 n0 args ZV:=Y9 Tryz.func91 rfl b91 ZvU Zu7 n91 (Nat.le_of_ble_eq_true hA) hh hx h
def c92:SC:=(.seq (.reg [
 o1 4 (.box (.t 0) 0 120),
 o1 5 (.box (.t 1) 0 90),
 o1 6 (.box (.t 2) 0 3),
 o1 8 (.mv (.c (.slice none 0 0)))])
 (.seq (.seq (.reg [
 o1 17 (.ld (.t 5) 1 false),
 o1 18 (.len (.t 17)),
 o1 19 (.bin .eql (.t 18) (.c (.int .i64 0)))])
 (.cond (.t 19)
 (.seq (.reg [
  o1 21 (.addo (.t 4) 0),
  o1 22 (.addo (.t 21) 4),
  o1 23 (.ld (.t 22) 17 true),
  o1 24 (.addo (.t 4) 0),
  o1 25 (.addo (.t 24) 21),
  o1 26 (.ld (.t 25) 7 true),
  o1 27 (.call 37 [.t 23,.t 26]),
  m1 20 27,
  o1 28 (.ext (.t 20) 0),
  o1 29 (.ext (.t 20) 1),
  o1 9 (.alloc [.int .i64 0,.int .i64 0] 27),
  ⟨none,.st (.t 9) (.t 28) 2,none,[]⟩,
  m1 10 29])
  (.seq (.reg [
  o1 30 (.ld (.t 6) 1 false),
  o1 31 (.bin .eql (.t 30) (.c (.int .i64 0))),
  m1 32 31,
  ⟨some 33,.mv (.t 3),some (32,false),[]⟩,
  ⟨some 34,.addo (.t 4) 0,some (32,false),[]⟩,
  ⟨some 35,.addo (.t 34) 30,some (32,false),[]⟩,
  ⟨some 36,.ld (.t 35) 1 false,some (32,false),[]⟩,
  ⟨some 37,.bin .mul (.t 33) (.t 36),some (32,false),[]⟩,
  ⟨some 38,.addo (.t 9) 0,some (32,false),[]⟩,
  ⟨some 39,.ld (.t 38) 1 false,some (32,false),[]⟩,
  ⟨some 40,.bin .leq (.t 37) (.t 39),some (32,false),[]⟩,
  o1 41 (.pick (.t 32) (.c (.bool true)) (.t 40)),
  o1 42 (.callm 91 [.t 41,.c (.int .u8 2),.c (.int .i64 0)])])
  (.seq (.reg [
  o1 8 (.mv (.c (.slice none 0 0)))])
  .ret)))
 .skip))
 (.seq (.reg [
 o1 11 (.alloc [.slice none 0 0] 54)])
 (.seq (.seq (.reg [
 o1 43 (.ld (.t 6) 1 false),
 o1 44 (.bin .eql (.t 43) (.c (.int .i64 0)))])
 (.cond (.t 44)
 (.seq (.seq (.reg [
  o1 45 (.ld (.t 5) 1 false),
  o1 46 (.ld (.t 5) 1 false),
  o1 47 (.len (.t 46)),
  o1 48 (.bin .sub (.t 47) (.c (.int .i64 1))),
  o1 49 (.sub 6 (.t 45) none (some (.t 48))),
  o1 50 (.len (.t 49)),
  o1 51 (.mv (.c (.int .i64 0)))])
  (.block 0 (.loop (.seq (.reg [
   o1 52 (.bin .lss (.t 51) (.t 50))])
   (.seq (.cond (.t 52)
   .skip
   (.exit 0))
   (.seq (.block 1 (.seq (.reg [
    o1 53 (.ixs (.t 49) (.t 51) 6),
    o1 54 (.ld (.t 53) 6 true),
    o1 13 (.alloc zv6 94),
    ⟨none,.st (.t 13) (.t 54) 6,none,[]⟩])
    (.reg [
    o1 55 (.ld (.t 11) 1 false),
    o1 56 (.addo (.t 13) 1),
    o1 57 (.ld (.t 56) 1 false),
    o1 58 (.addo (.t 13) 4),
    o1 59 (.addo (.t 58) 0),
    o1 60 (.ld (.t 59) 1 false),
    o1 61 (.build [.int .i64 0,.int .i64 0,.int .i64 0] [(0,1,.t 57),(1,1,.t 60)]),
    o1 62 (.bsl 3 111 [.t 61]),
    o1 63 (.appm 3 24 111 (.t 55) (.t 62)),
    ⟨none,.st (.t 11) (.t 63) 1,none,[]⟩])))
   (.reg [
   o1 64 (.bin .add (.t 51) (.c (.int .i64 1))),
   m1 51 64])))))))
  (.seq (.reg [
  o1 65 (.ld (.t 11) 1 false),
  m1 8 65])
  .ret))
 .skip))
 (.seq (.seq (.reg [
 o1 66 (.ld (.t 4) 38 true),
 o1 67 (.ld (.t 5) 1 false),
 m1 68 3,
 o1 69 (.callm 135 [.t 66,.t 67,.t 68])])
 (.block 2 (.gh (.rfun (.t 69) [70,71] (.seq (.reg [
  m1 14 70])
  (.reg [
  o1 15 (.alloc zv0 31),
  ⟨none,.st (.t 15) (.t 71) 7,none,[]⟩]))
  (.block 3 (.seq (.seq (.reg [
   m1 72 14,
   o1 73 (.bin .add (.t 72) (.c (.int .i64 1))),
   o1 74 (.ld (.t 5) 1 false),
   o1 75 (.len (.t 74)),
   o1 76 (.bin .eql (.t 73) (.t 75))])
   (.cond (.t 76)
   (.exit 2)
   .skip))
   (.seq (.regd [0,1,2,3,4,5,6,7,8,9,10,11,12,13,14,15,16,17,18,19,20,21,22,23] [
   .op (o1 77 (.ld (.t 5) 1 false)),
   .op (m1 78 14),
   .op ⟨some 79,.ixs (.t 77) (.t 78) 6,none,[0,1]⟩,
   .op ⟨some 80,.addo (.t 79) 1,none,[2]⟩,
   .op ⟨some 81,.ld (.t 80) 1 false,none,[3]⟩,
   .op (o1 82 (.ld (.t 5) 1 false)),
   .op (m1 83 14),
   .op ⟨some 84,.ixs (.t 82) (.t 83) 6,none,[5,6]⟩,
   .op ⟨some 85,.addo (.t 84) 4,none,[7]⟩,
   .op ⟨some 86,.addo (.t 85) 0,none,[8]⟩,
   .op ⟨some 87,.ld (.t 86) 1 false,none,[9]⟩,
   .op (o1 88 (.ld (.t 6) 1 false)),
   .op (o1 89 (.addo (.t 4) 0)),
   .op ⟨some 90,.addo (.t 89) 4,none,[12]⟩,
   .op ⟨some 91,.addo (.t 90) 0,none,[13]⟩,
   .op ⟨some 92,.ld (.t 91) 1 false,none,[14]⟩,
   .op (o1 93 (.addo (.t 15) 0)),
   .op ⟨some 94,.addo (.t 93) 0,none,[16]⟩,
   .op ⟨some 95,.ld (.t 94) 1 false,none,[17]⟩,
   .op ⟨some 96,.bin .sub (.t 92) (.t 95),none,[15,18]⟩,
   .op ⟨some 97,.bin .mul (.t 88) (.t 96),none,[11,19]⟩,
   .op ⟨some 98,.build [.int .i64 0,.int .i64 0,.int .i64 0] [(0,1,.t 81),(1,1,.t 87),(2,1,.t 97)],none,[4,10,20]⟩] 1 1 [
   o1 16 (.alloc [.int .i64 0,.int .i64 0,.int .i64 0] 111),
   ⟨none,.st (.t 16) (.t 98) 3,none,[0,1,2,3,4,5,6,7,8,9,10,11,12,13,14,15,16,17,18,19,20,21,22]⟩])
   (.seq (.regd [0,1,2,3,4,5,6,7,8,9,10] [
   .op (o1 99 (.addo (.t 16) 2)),
   .op ⟨some 100,.ld (.t 99) 1 false,none,[0]⟩,
   .op (o1 101 (.ld (.t 4) 38 true)),
   .op (o1 102 (.ld (.t 5) 1 false)),
   .op (m1 103 14),
   .op ⟨some 104,.ixs (.t 102) (.t 103) 6,none,[3,4]⟩,
   .op ⟨some 105,.ld (.t 104) 6 true,none,[5]⟩,
   .op ⟨some 106,.call 113 [.t 101,.t 105],none,[2,6]⟩,
   .op ⟨some 107,.bin .leq (.t 100) (.t 106),none,[1,7]⟩,
   .op (m1 108 14)] 0 0 [
   ⟨some 109,.callm 91 [.t 107,.c (.int .u8 4),.t 108],none,[7,8,9]⟩])
   (.reg [
   o1 110 (.ld (.t 11) 1 false),
   o1 111 (.ld (.t 16) 3 true),
   o1 112 (.bsl 3 111 [.t 111]),
   o1 113 (.appm 3 24 111 (.t 110) (.t 112)),
   ⟨none,.st (.t 11) (.t 113) 1,none,[]⟩])))))))))
 (.seq (.reg [
 o1 114 (.ld (.t 11) 1 false),
 m1 8 114])
 .ret))))))
def r92:List RV:=[.tmp 8]
theorem n92:Tryz.f92.ntmps=115:=by kernel_rfl
theorem b92:YO Tryz.prog 92=true:=by kernel_rfl
theorem Zun:Xv Tryz.prog c92 ((Tryz.f92.body).getD .skip)=true:=by kernel_rfl
theorem ZvM:Ww Tryz.prog r92 Tryz.f92.results.toList=true:=by kernel_rfl
theorem m92 {n0:Nat} {hp0:List (Nat × HB)} {args:List SV} {ZV:Ot->Prop} (hh:hpb n0 hp0) (hx:∀ o,ZV o->KX o.res/\KXP o.hp) (h:sx Tryz.prog Y0 n0 c92 ⟨enum 0 args,hp0,n0,115,[]⟩ (retM r92 fun o=>∃ o',ZV o'/\ZdT n0 o o')) (hA:Nat.ble args.length 115=true:=by rfl):CtM Tryz.prog 92 hp0 n0 args ZV:=Y9 Tryz.func92 rfl b92 Zun ZvM n92 (Nat.le_of_ble_eq_true hA) hh hx h
def c135:SC:=(.seq (.reg [
 o1 3 (.box (.t 0) 0 120),
 o1 4 (.box (.t 1) 0 90),
 o1 5 (.box (.t 2) 0 3),
 o1 6 (.mv (.c (.nilFunc)))])
 (.seq (.reg [
 o1 7 (.mkf 163 [.t 3,.t 4,.t 5]),
 m1 6 7])
 .ret))
def r135:List RV:=[.tmp 6]
theorem n135:Tryz.f135.ntmps=8:=by kernel_rfl
theorem b135:YO Tryz.prog 135=true:=by kernel_rfl
theorem Zqt:Xv Tryz.prog c135 ((Tryz.f135.body).getD .skip)=true:=by kernel_rfl
theorem Zqg:Ww Tryz.prog r135 Tryz.f135.results.toList=true:=by kernel_rfl
theorem m135 {n0:Nat} {hp0:List (Nat × HB)} {args:List SV} {ZV:Ot->Prop} (hh:hpb n0 hp0) (hx:∀ o,ZV o->KX o.res/\KXP o.hp) (h:sx Tryz.prog Y0 n0 c135 ⟨enum 0 args,hp0,n0,8,[]⟩ (retM r135 fun o=>∃ o',ZV o'/\ZdT n0 o o')) (hA:Nat.ble args.length 8=true:=by rfl):CtM Tryz.prog 135 hp0 n0 args ZV:=Y9 Tryz.func135 rfl b135 Zqt Zqg n135 (Nat.le_of_ble_eq_true hA) hh hx h
def c156:SC:=(.seq (.reg [
 o1 1 (.box (.t 0) 0 120),
 o1 2 (.alloc zv5 72)])
 (.seq (.reg [
 o1 3 (.addo (.t 1) 0),
 o1 4 (.addo (.t 3) 36),
 o1 5 (.ld (.t 4) 1 false),
 o1 6 (.addo (.t 1) 37),
 o1 7 (.ld (.t 6) 1 false),
 o1 8 (.ixs (.t 5) (.t 7) 6),
 o1 9 (.ld (.t 8) 6 true),
 ⟨none,.st (.t 2) (.t 9) 6,none,[]⟩])
 .ret))
def r156:List RV:=[.cell 2 6 true]
theorem t156:Qt1 Tryz.prog 156 c156 r156 10:=ZT Tryz.func156 rfl (by kernel_rfl) (by kernel_rfl) (by kernel_rfl) (by kernel_rfl)
def c163:SC:=(.seq (.reg [
 o1 10 (.addo (.t 1) 0),
 o1 11 (.addo (.t 10) 21),
 o1 12 (.ld (.t 11) 7 true),
 o1 5 (.alloc zv0 31),
 ⟨none,.st (.t 5) (.t 12) 7,none,[]⟩])
 (.seq (.reg [
 o1 13 (.ld (.t 2) 1 false),
 o1 14 (.len (.t 13)),
 o1 15 (.mv (.c (.int .i64 0)))])
 (.block 0 (.loop (.seq (.reg [
  o1 16 (.bin .lss (.t 15) (.t 14))])
  (.seq (.cond (.t 16)
  .skip
  (.exit 0))
  (.seq (.block 1 (.seq (.reg [
   m1 17 15,
   o1 18 (.ixs (.t 13) (.t 15) 6),
   o1 19 (.ld (.t 18) 6 true),
   o1 7 (.alloc zv6 94),
   m1 6 17,
   ⟨none,.st (.t 7) (.t 19) 6,none,[]⟩])
   (.seq (.reg [
   o1 21 (.addo (.t 1) 0),
   o1 22 (.addo (.t 21) 0),
   o1 23 (.ld (.t 22) 2 true),
   o1 24 (.addo (.t 7) 0),
   o1 25 (.ld (.t 24) 1 false),
   o1 26 (.addo (.t 1) 0),
   o1 27 (.addo (.t 26) 2),
   o1 28 (.ld (.t 27) 2 true),
   o1 29 (.call 39 [.t 23,.t 25,.t 28]),
   m1 20 29,
   o1 30 (.ext (.t 20) 0),
   o1 31 (.ext (.t 20) 1),
   o1 8 (.alloc [.int .i64 0,.int .i64 0] 27),
   ⟨none,.st (.t 8) (.t 30) 2,none,[]⟩,
   m1 9 31])
   (.seq (.seq (.reg [
   o1 32 (.ld (.t 1) 38 true),
   m1 33 6,
   o1 34 (.ld (.t 5) 7 true),
   o1 35 (.ld (.t 8) 2 true),
   o1 36 (.ld (.t 3) 1 false),
   o1 37 (.callm 164 [.t 32,.t 33,.t 34,.t 35,.t 36]),
   ⟨none,.st (.t 5) (.t 37) 7,none,[]⟩])
   (.seq (.reg [
   m1 38 0,
   m1 39 6,
   o1 40 (.ld (.t 5) 7 true),
   o1 41 (.calvm (.t 38) [.t 39,.t 40]),
   o1 42 (.un .not (.t 41))])
   (.cond (.t 42)
   .ret
   .skip)))
   (.reg [
   o1 43 (.addo (.t 1) 0),
   o1 44 (.addo (.t 43) 4),
   o1 45 (.addo (.t 44) 0),
   o1 46 (.ld (.t 45) 1 false),
   o1 47 (.addo (.t 1) 0),
   o1 48 (.addo (.t 47) 4),
   o1 49 (.addo (.t 48) 0),
   o1 50 (.ld (.t 49) 1 false),
   o1 51 (.build [.int .i64 0,.int .i64 0] [(0,1,.t 46),(1,1,.t 50)]),
   o1 52 (.addo (.t 5) 0),
   ⟨none,.st (.t 52) (.t 51) 2,none,[]⟩])))))
  (.reg [
  o1 53 (.bin .add (.t 15) (.c (.int .i64 1))),
  m1 15 53]))))))))
def r163:List RV:=[]
theorem n163:Tryz.f163.ntmps=54:=by kernel_rfl
theorem b163:YO Tryz.prog 163=true:=by kernel_rfl
theorem Zqp:Xv Tryz.prog c163 ((Tryz.f163.body).getD .skip)=true:=by kernel_rfl
theorem Zsw:Ww Tryz.prog r163 Tryz.f163.results.toList=true:=by kernel_rfl
theorem y163 {Y:Hd} {n0:Nat} {hp0:List (Nat × HB)} {args:List SV} {ZV:Ot->Prop} (h:sx Tryz.prog Y n0 c163 ⟨enum 0 args,hp0,n0,54,[]⟩ (retM r163 ZV)) (hA:Nat.ble args.length 54=true:=by rfl):CtY Tryz.prog Y 163 hp0 n0 args ZV:=Za2 Tryz.func163 rfl Zqp Zsw n163 (Nat.le_of_ble_eq_true hA) h
def c164:SC:=(.seq (.reg [
 o1 5 (.box (.t 0) 0 120),
 o1 7 (.box (.t 2) 0 31),
 o1 8 (.box (.t 3) 0 27),
 o1 10 (.alloc zv0 31)])
 (.seq (.regd [0,1,2,3,4,5,6,7,8,9,10,11,12,13,14,15,16] [
 .op (o1 19 (.addo (.t 5) 0)),
 .op ⟨some 20,.addo (.t 19) 29,none,[0]⟩,
 .op ⟨some 21,.ld (.t 20) 1 false,none,[1]⟩,
 .op (m1 22 4),
 .op (o1 23 (.addo (.t 5) 0)),
 .op ⟨some 24,.addo (.t 23) 30,none,[4]⟩,
 .op ⟨some 25,.ld (.t 24) 1 false,none,[5]⟩,
 .op ⟨some 26,.bin .mul (.t 22) (.t 25),none,[3,6]⟩,
 .op (o1 27 (.ld (.t 5) 38 true)),
 .op ⟨some 28,.call 156 [.t 27],none,[8]⟩,
 .op ⟨some 29,.fld (.t 28) 0 2 true,none,[9]⟩,
 .op (o1 30 (.ld (.t 5) 38 true)),
 .op ⟨some 31,.call 156 [.t 30],none,[9,11]⟩,
 .op ⟨some 32,.fld (.t 31) 2 2 true,none,[12]⟩,
 .op ⟨some 33,.build zv3 [(0,1,.t 21),(1,1,.t 26),(2,2,.t 29),(4,2,.t 32)],none,[2,7,10,13]⟩] 1 1 [
 o1 11 (.alloc zv3 80),
 ⟨none,.st (.t 11) (.t 33) 8,none,[0,1,2,3,4,5,6,7,8,9,10,11,12,13,14,15]⟩])
 (.seq (.reg [
 o1 12 (.alloc zv0 31)])
 (.seq (.seq (.reg [
 o1 34 (.addo (.t 8) 1),
 o1 35 (.ld (.t 34) 1 false),
 o1 36 (.mv (.c (.int .i64 0)))])
 (.block 0 (.loop (.seq (.reg [
  o1 37 (.bin .lss (.t 36) (.t 35))])
  (.seq (.cond (.t 37)
  .skip
  (.exit 0))
  (.seq (.block 1 (.seq (.reg [
   m1 38 36,
   m1 13 38])
   (.seq (.reg [
   o1 40 (.addo (.t 5) 0),
   o1 41 (.addo (.t 40) 4),
   o1 42 (.ld (.t 41) 17 true),
   o1 43 (.ld (.t 7) 7 true),
   o1 44 (.call 37 [.t 42,.t 43]),
   m1 39 44,
   o1 45 (.ext (.t 39) 0),
   o1 46 (.ext (.t 39) 1),
   o1 14 (.alloc [.int .i64 0,.int .i64 0] 27),
   ⟨none,.st (.t 14) (.t 45) 2,none,[]⟩,
   m1 15 46])
   (.seq (.reg [
   o1 47 (.addo (.t 11) 1),
   o1 48 (.ld (.t 47) 1 false),
   o1 49 (.addo (.t 14) 0),
   o1 50 (.ld (.t 49) 1 false),
   o1 51 (.bin .leq (.t 48) (.t 50)),
   m1 52 1,
   o1 53 (.callm 91 [.t 51,.c (.int .u8 2),.t 52])])
   (.seq (.reg [
   o1 55 (.addo (.t 5) 0),
   o1 56 (.addo (.t 55) 4),
   o1 57 (.ld (.t 56) 17 true),
   o1 58 (.ld (.t 7) 7 true),
   o1 59 (.ld (.t 11) 8 true),
   o1 60 (.call 40 [.t 57,.t 58,.t 59]),
   m1 54 60,
   o1 61 (.ext (.t 54) 0),
   o1 62 (.ext (.t 54) 1),
   o1 63 (.ext (.t 54) 2),
   o1 16 (.alloc zv0 31),
   ⟨none,.st (.t 16) (.t 61) 7,none,[]⟩,
   m1 17 62,
   m1 18 63])
   (.seq (.reg [
   m1 64 18,
   o1 65 (.bin .eql (.t 64) (.c (.int .i64 0))),
   m1 66 65,
   ⟨some 67,.mv (.t 17),some (66,true),[]⟩,
   ⟨some 68,.bin .eql (.t 67) (.c (.int .u8 0)),some (66,true),[]⟩,
   o1 69 (.pick (.t 66) (.t 68) (.c (.bool false))),
   m1 70 1,
   o1 71 (.callm 91 [.t 69,.c (.int .u8 3),.t 70])])
   (.seq (.reg [
   o1 72 (.ld (.t 16) 7 true),
   ⟨none,.st (.t 7) (.t 72) 7,none,[]⟩])
   (.block 2 (.seq (.reg [
    m1 74 13,
    o1 75 (.bin .add (.t 74) (.c (.int .i64 1))),
    o1 76 (.addo (.t 8) 0),
    o1 77 (.ld (.t 76) 1 false),
    o1 78 (.bin .eql (.t 75) (.t 77)),
    m1 73 78])
    (.cond (.t 73)
    (.reg [
     o1 79 (.ld (.t 7) 7 true),
     ⟨none,.st (.t 12) (.t 79) 7,none,[]⟩])
    (.seq (.reg [
     m1 81 13,
     o1 82 (.bin .add (.t 81) (.c (.int .i64 1))),
     o1 83 (.addo (.t 8) 0),
     o1 84 (.ld (.t 83) 1 false),
     o1 85 (.bin .gtr (.t 82) (.t 84)),
     m1 80 85])
     (.cond (.t 80)
     (.regd [0,1,2,3,4,5,6,7,8,9,10,11,12,13,14,15,16,17,18,19,20,21,22,23] [
      .op (o1 86 (.addo (.t 12) 0)),
      .op ⟨some 87,.ld (.t 86) 2 true,none,[0]⟩,
      .op (o1 88 (.addo (.t 7) 0)),
      .op ⟨some 89,.ld (.t 88) 2 true,none,[2]⟩,
      .op ⟨some 90,.bsl 2 27 [.t 89],none,[3]⟩,
      .op ⟨some 91,.call 172 [.t 87,.t 90],none,[1,4]⟩,
      .op (o1 92 (.addo (.t 12) 2)),
      .op ⟨some 93,.ld (.t 92) 2 true,none,[6]⟩,
      .op (o1 94 (.addo (.t 7) 2)),
      .op ⟨some 95,.ld (.t 94) 2 true,none,[8]⟩,
      .op ⟨some 96,.bsl 2 27 [.t 95],none,[9]⟩,
      .op ⟨some 97,.call 172 [.t 93,.t 96],none,[5,7,10]⟩,
      .op (o1 98 (.addo (.t 12) 4)),
      .op ⟨some 99,.ld (.t 98) 2 true,none,[12]⟩,
      .op (o1 100 (.addo (.t 7) 4)),
      .op ⟨some 101,.ld (.t 100) 2 true,none,[14]⟩,
      .op ⟨some 102,.bsl 2 27 [.t 101],none,[15]⟩,
      .op ⟨some 103,.call 172 [.t 99,.t 102],none,[11,13,16]⟩,
      .op ⟨some 104,.addo (.t 12) 0,none,[0,1,2,3,4,5,6,7,12,13]⟩] 0 1 [
      ⟨none,.st (.t 104) (.t 91) 2,none,[0,1,2,3,4,5,6,7,12,13,17,18]⟩,
      ⟨some 105,.addo (.t 12) 2,none,[0,1,2,3,4,5,6,7,8,9,10,11,12,13,18,19]⟩,
      ⟨none,.st (.t 105) (.t 97) 2,none,[0,1,2,3,4,5,6,7,8,9,10,11,12,13,18,19,20]⟩,
      ⟨some 106,.addo (.t 12) 4,none,[0,1,2,3,4,5,6,7,8,9,10,11,12,13,14,15,16,17,18,19,20,21]⟩,
      ⟨none,.st (.t 106) (.t 103) 2,none,[0,1,2,3,4,5,6,7,8,9,10,11,12,13,14,15,16,17,18,19,20,21,22]⟩])
     .skip))))))))))))
  (.reg [
  o1 107 (.bin .add (.t 36) (.c (.int .i64 1))),
  m1 36 107])))))))
 (.seq (.reg [
 o1 108 (.ld (.t 12) 7 true),
 ⟨none,.st (.t 10) (.t 108) 7,none,[]⟩])
 .ret)))))
def r164:List RV:=[.cell 10 7 true]
theorem n164:Tryz.f164.ntmps=109:=by kernel_rfl
theorem b164:YO Tryz.prog 164=true:=by kernel_rfl
theorem ZsU:Xv Tryz.prog c164 ((Tryz.f164.body).getD .skip)=true:=by kernel_rfl
theorem ZpP:Ww Tryz.prog r164 Tryz.f164.results.toList=true:=by kernel_rfl
theorem m164 {n0:Nat} {hp0:List (Nat × HB)} {args:List SV} {ZV:Ot->Prop} (hh:hpb n0 hp0) (hx:∀ o,ZV o->KX o.res/\KXP o.hp) (h:sx Tryz.prog Y0 n0 c164 ⟨enum 0 args,hp0,n0,109,[]⟩ (retM r164 fun o=>∃ o',ZV o'/\ZdT n0 o o')) (hA:Nat.ble args.length 109=true:=by rfl):CtM Tryz.prog 164 hp0 n0 args ZV:=Y9 Tryz.func164 rfl b164 ZsU ZpP n164 (Nat.le_of_ble_eq_true hA) hh hx h
def c172:SC:=(.seq (.reg [
 o1 2 (.box (.t 0) 0 27),
 o1 4 (.alloc [.int .i64 0,.int .i64 0] 27)])
 (.seq (.seq (.reg [
 m1 7 1,
 o1 8 (.len (.t 7)),
 o1 9 (.mv (.c (.int .i64 0)))])
 (.block 0 (.loop (.seq (.reg [
  o1 10 (.bin .lss (.t 9) (.t 8))])
  (.seq (.cond (.t 10)
  .skip
  (.exit 0))
  (.seq (.block 1 (.seq (.reg [
   o1 11 (.ixs (.t 7) (.t 9) 2),
   o1 12 (.ld (.t 11) 2 true),
   o1 6 (.alloc [.int .i64 0,.int .i64 0] 27),
   ⟨none,.st (.t 6) (.t 12) 2,none,[]⟩])
   (.reg [
   o1 13 (.addo (.t 2) 0),
   o1 14 (.ld (.t 13) 1 false),
   o1 15 (.addo (.t 6) 0),
   o1 16 (.ld (.t 15) 1 false),
   o1 17 (.mm false [.t 14,.t 16]),
   o1 18 (.addo (.t 2) 1),
   o1 19 (.ld (.t 18) 1 false),
   o1 20 (.addo (.t 6) 1),
   o1 21 (.ld (.t 20) 1 false),
   o1 22 (.mm true [.t 19,.t 21]),
   o1 23 (.build [.int .i64 0,.int .i64 0] [(0,1,.t 17),(1,1,.t 22)]),
   ⟨none,.st (.t 2) (.t 23) 2,none,[]⟩])))
  (.reg [
  o1 24 (.bin .add (.t 9) (.c (.int .i64 1))),
  m1 9 24])))))))
 (.seq (.reg [
 o1 25 (.ld (.t 2) 2 true),
 ⟨none,.st (.t 4) (.t 25) 2,none,[]⟩])
 .ret)))
def r172:List RV:=[.cell 4 2 true]
theorem t172:Qt1 Tryz.prog 172 c172 r172 26:=ZT Tryz.func172 rfl (by kernel_rfl) (by kernel_rfl) (by kernel_rfl) (by kernel_rfl)
def c90:SC:=(.seq (.reg [
 o1 2 (.box (.t 0) 0 34),
 o1 4 (.mv (.c (.slice none 0 0))),
 o1 5 (.mv (.c (.bool false)))])
 (.seq (.reg [
 o1 10 (.addo (.t 2) 0),
 o1 11 (.ld (.t 10) 2 true),
 o1 12 (.addo (.t 2) 33),
 o1 13 (.ld (.t 12) 1 false),
 o1 14 (.addo (.t 2) 34),
 o1 15 (.ld (.t 14) 1 false),
 o1 16 (.addo (.t 2) 2),
 o1 17 (.ld (.t 16) 2 true),
 m1 18 1,
 o1 19 (.call 36 [.t 11,.t 13,.t 15,.t 17,.t 18]),
 m1 9 19,
 o1 20 (.ext (.t 9) 0),
 o1 21 (.ext (.t 9) 1),
 o1 22 (.ext (.t 9) 2),
 m1 6 20,
 m1 7 21,
 m1 8 22])
 (.seq (.regd [0,1,2,3,4,5,6,7,8,9,10,11,12,13,14,15,16,17,18,19,20,21,22] [
 .op (m1 23 6),
 .op (m1 24 8),
 .op ⟨some 25,.bin .eql (.t 24) (.c (.int .i64 0)),none,[1]⟩,
 .op ⟨some 26,.mv (.t 25),none,[2]⟩,
 .op ⟨some 27,.mv (.t 6),some (26,true),[3]⟩,
 .op ⟨some 28,.len (.t 27),some (26,true),[3,4]⟩,
 .op ⟨some 29,.bin .eql (.t 28) (.c (.int .i64 0)),some (26,true),[3,5]⟩,
 .op ⟨some 30,.mv (.t 29),some (26,true),[3,6]⟩,
 .op ⟨some 31,.mv (.t 6),some (30,false),[7]⟩,
 .op ⟨some 32,.mv (.t 6),some (30,false),[7]⟩,
 .op ⟨some 33,.len (.t 32),some (30,false),[7,9]⟩,
 .op ⟨some 34,.bin .sub (.t 33) (.c (.int .i64 1)),some (30,false),[7,10]⟩,
 .op ⟨some 35,.ixs (.t 31) (.t 34) 6,some (30,false),[7,8,11]⟩,
 .op ⟨some 36,.addo (.t 35) 4,some (30,false),[7,12]⟩,
 .op ⟨some 37,.addo (.t 36) 1,some (30,false),[7,13]⟩,
 .op ⟨some 38,.ld (.t 37) 1 false,some (30,false),[7,14]⟩,
 .op ⟨some 39,.addo (.t 2) 35,some (30,false),[7]⟩,
 .op ⟨some 40,.ld (.t 39) 1 false,some (30,false),[7,16]⟩,
 .op ⟨some 41,.bin .leq (.t 38) (.t 40),some (30,false),[7,15,17]⟩,
 .op ⟨some 42,.pick (.t 30) (.c (.bool true)) (.t 41),some (26,true),[3,7,18]⟩,
 .op ⟨some 43,.pick (.t 26) (.t 42) (.c (.bool false)),none,[3,19]⟩,
 .op ⟨some 4,.mv (.t 23),none,[0,7]⟩,
 .op ⟨some 5,.mv (.t 43),none,[0,1,2,3,4,5,6,7,8,9,10,11,12,13,14,15,16,17,18,19,20,21]⟩] 0 0 [
])
 .ret)))
def r90:List RV:=[.tmp 4,.tmp 5]
theorem t90:Qt1 Tryz.prog 90 c90 r90 44:=ZT Tryz.func90 rfl (by kernel_rfl) (by kernel_rfl) (by kernel_rfl) (by kernel_rfl)
def c49:FB:=(.seq (.reg [
 o1 2 (.box (.t 0) 0 120),
 o1 3 (.box (.t 1) 0 37),
 o1 4 (.alloc [.slice none 0 0] 54),
 o1 5 (.alloc [.int .u8 0,.int .i64 0] 117)])
 (.rcv [
 o1 8 (.mkf 89 [.t 4,.t 5])] (.t 8)
 (.tail (.seq (.reg [
 o1 10 (.addo (.t 2) 0),
 o1 11 (.ld (.t 10) 37 true),
 o1 12 (.addo (.t 3) 0),
 o1 13 (.ld (.t 12) 1 false),
 o1 14 (.call 90 [.t 11,.t 13]),
 m1 9 14,
 o1 15 (.ext (.t 9) 0),
 o1 16 (.ext (.t 9) 1),
 m1 6 15,
 m1 7 16])
 (.seq (.reg [
 m1 17 7,
 o1 18 (.callm 91 [.t 17,.c (.int .u8 1),.c (.int .i64 0)])])
 (.seq (.reg [
 o1 19 (.ld (.t 2) 38 true),
 m1 20 6,
 o1 21 (.addo (.t 3) 1),
 o1 22 (.ld (.t 21) 1 false),
 o1 23 (.addo (.t 3) 2),
 o1 24 (.ld (.t 23) 1 false),
 o1 25 (.callm 92 [.t 19,.t 20,.t 22,.t 24]),
 o1 26 (.build [.int .u8 0,.int .i64 0] []),
 ⟨none,.st (.t 4) (.t 25) 1,none,[]⟩,
 ⟨none,.st (.t 5) (.t 26) 2,none,[]⟩])
 .ret))))))
def r49:List RV:=[.cell 4 1 false,.cell 5 2 true]
theorem n49:Tryz.f49.ntmps=27:=by kernel_rfl
theorem b49:YO Tryz.prog 49=true:=by kernel_rfl
theorem ZuW:Zad Tryz.prog c49 ((Tryz.f49.body).getD .skip)=true:=by kernel_rfl
theorem ZvR:Ww Tryz.prog r49 Tryz.f49.results.toList=true:=by kernel_rfl
theorem m49 {n0:Nat} {hp0:List (Nat × HB)} {args:List SV} {ZV:Ot->Prop} (hh:hpb n0 hp0) (hx:∀ o,ZV o->KX o.res/\KXP o.hp) (h:fx Tryz.prog n0 c49 ⟨enum 0 args,hp0,n0,27,[]⟩ (retM r49 fun o=>∃ o',ZV o'/\ZdT n0 o o')) (hA:Nat.ble args.length 27=true:=by rfl):CtM Tryz.prog 49 hp0 n0 args ZV:=ZeR Tryz.func49 rfl b49 ZuW ZvR n49 (Nat.le_of_ble_eq_true hA) hh hx h
def c147:SC:=(.seq (.reg [
 o1 2 (.box (.t 0) 0 29),
 o1 3 (.box (.t 1) 0 31),
 o1 4 (.alloc [.int .i64 0,.int .i64 0] 27),
 o1 5 (.mv (.c (.int .i64 0)))])
 (.seq (.seq (.reg [
 o1 7 (.ld (.t 2) 17 true),
 o1 8 (.ld (.t 3) 7 true),
 o1 9 (.call 95 [.t 7,.t 8]),
 m1 6 9])
 (.seq (.reg [
 m1 10 6,
 o1 11 (.bin .neq (.t 10) (.c (.int .i64 0)))])
 (.cond (.t 11)
 (.seq (.reg [
  o1 12 (.build [.int .i64 0,.int .i64 0] []),
  m1 13 6,
  ⟨none,.st (.t 4) (.t 12) 2,none,[]⟩,
  m1 5 13])
  .ret)
 .skip)))
 (.seq (.reg [
 o1 14 (.ld (.t 2) 17 true),
 o1 15 (.ld (.t 3) 7 true),
 o1 16 (.call 168 [.t 14,.t 15]),
 ⟨none,.st (.t 4) (.t 16) 2,none,[]⟩,
 o1 5 (.mv (.c (.int .i64 0)))])
 .ret)))
def r147:List RV:=[.cell 4 2 true,.tmp 5]
theorem t147:Qt1 Tryz.prog 147 c147 r147 17:=ZT Tryz.func147 rfl (by kernel_rfl) (by kernel_rfl) (by kernel_rfl) (by kernel_rfl)
def c37:SC:=(.seq (.reg [
 o1 2 (.box (.t 0) 0 29),
 o1 3 (.box (.t 1) 0 31),
 o1 4 (.alloc [.int .i64 0,.int .i64 0] 27),
 o1 5 (.mv (.c (.int .i64 0)))])
 (.seq (.seq (.reg [
 o1 7 (.ld (.t 2) 17 true),
 o1 8 (.ld (.t 3) 7 true),
 o1 9 (.call 54 [.t 7,.t 8]),
 m1 6 9])
 (.seq (.reg [
 m1 10 6,
 o1 11 (.bin .neq (.t 10) (.c (.int .i64 0)))])
 (.cond (.t 11)
 (.seq (.reg [
  o1 12 (.build [.int .i64 0,.int .i64 0] []),
  m1 13 6,
  ⟨none,.st (.t 4) (.t 12) 2,none,[]⟩,
  m1 5 13])
  .ret)
 .skip)))
 (.seq (.reg [
 o1 14 (.ld (.t 2) 17 true),
 o1 15 (.ld (.t 3) 7 true),
 o1 16 (.build zv1 [(0,17,.t 14),(17,7,.t 15)]),
 o1 17 (.call 81 [.t 16]),
 ⟨none,.st (.t 4) (.t 17) 2,none,[]⟩,
 o1 5 (.mv (.c (.int .i64 0)))])
 .ret)))
def r37:List RV:=[.cell 4 2 true,.tmp 5]
theorem t37:Qt1 Tryz.prog 37 c37 r37 18:=ZT Tryz.func37 rfl (by kernel_rfl) (by kernel_rfl) (by kernel_rfl) (by kernel_rfl)
def c105:SC:=(.seq (.reg [
 o1 2 (.box (.t 0) 0 29),
 o1 3 (.box (.t 1) 0 31),
 o1 4 (.alloc [.int .i64 0,.int .i64 0] 27),
 o1 5 (.mv (.c (.int .i64 0)))])
 (.seq (.reg [
 o1 9 (.ld (.t 2) 17 true),
 o1 10 (.ld (.t 3) 7 true),
 o1 11 (.call 147 [.t 9,.t 10]),
 m1 8 11,
 o1 12 (.ext (.t 8) 0),
 o1 13 (.ext (.t 8) 1),
 o1 6 (.alloc [.int .i64 0,.int .i64 0] 27),
 ⟨none,.st (.t 6) (.t 12) 2,none,[]⟩,
 m1 7 13])
 (.seq (.seq (.reg [
 m1 14 7,
 o1 15 (.bin .neq (.t 14) (.c (.int .i64 0)))])
 (.cond (.t 15)
 (.seq (.reg [
  o1 16 (.build [.int .i64 0,.int .i64 0] []),
  m1 17 7,
  ⟨none,.st (.t 4) (.t 16) 2,none,[]⟩,
  m1 5 17])
  .ret)
 .skip))
 (.seq (.regd [0,1,2,3,4,5,6,7,8,9,10,11,12,13,14,15,16] [
 .op (o1 18 (.addo (.t 2) 15)),
 .op ⟨some 19,.addo (.t 18) 0,none,[0]⟩,
 .op ⟨some 20,.ld (.t 19) 1 false,none,[1]⟩,
 .op (o1 21 (.addo (.t 6) 0)),
 .op ⟨some 22,.ld (.t 21) 1 false,none,[3]⟩,
 .op ⟨some 23,.bin .mul (.t 20) (.t 22),none,[2,4]⟩,
 .op ⟨some 24,.div .quo (.t 23) (.c (.int .i64 1000)),none,[5]⟩,
 .op (o1 25 (.addo (.t 2) 15)),
 .op ⟨some 26,.addo (.t 25) 1,none,[7]⟩,
 .op ⟨some 27,.ld (.t 26) 1 false,none,[8]⟩,
 .op (o1 28 (.addo (.t 6) 1)),
 .op ⟨some 29,.ld (.t 28) 1 false,none,[10]⟩,
 .op ⟨some 30,.bin .mul (.t 27) (.t 29),none,[9,11]⟩,
 .op ⟨some 31,.call 148 [.t 30,.c (.int .i64 1000)],none,[12]⟩,
 .op ⟨some 32,.build [.int .i64 0,.int .i64 0] [(0,1,.t 24),(1,1,.t 31)],none,[6,13]⟩] 0 2 [
 ⟨none,.st (.t 4) (.t 32) 2,none,[0,1,2,3,4,5,6,7,8,9,10,11,12,13,14]⟩,
 ⟨some 5,.mv (.c (.int .i64 0)),none,[0,1,2,3,4,5,6,7,8,9,10,11,12,13,14,15]⟩])
 .ret))))
def r105:List RV:=[.cell 4 2 true,.tmp 5]
theorem t105:Qt1 Tryz.prog 105 c105 r105 33:=ZT Tryz.func105 rfl (by kernel_rfl) (by kernel_rfl) (by kernel_rfl) (by kernel_rfl)
def c100:SC:=(.seq (.reg [
 o1 1 (.box (.t 0) 0 29),
 o1 2 (.mv (.c (.int .i64 0)))])
 (.seq (.seq (.reg [
 o1 3 (.addo (.t 1) 0),
 o1 4 (.ld (.t 3) 1 false),
 o1 5 (.addo (.t 1) 1),
 o1 6 (.ld (.t 5) 1 false),
 o1 7 (.bsl 1 3 [.t 4,.t 6]),
 o1 8 (.call 125 [.c (.int .i64 1),.c (.int .i64 1000000),.t 7]),
 o1 9 (.un .not (.t 8)),
 m1 10 9,
 ⟨some 11,.addo (.t 1) 2,some (10,false),[]⟩,
 ⟨some 12,.ld (.t 11) 2 true,some (10,false),[]⟩,
 ⟨some 13,.addo (.t 1) 4,some (10,false),[]⟩,
 ⟨some 14,.ld (.t 13) 2 true,some (10,false),[]⟩,
 ⟨some 15,.addo (.t 1) 6,some (10,false),[]⟩,
 ⟨some 16,.ld (.t 15) 2 true,some (10,false),[]⟩,
 ⟨some 17,.addo (.t 1) 8,some (10,false),[]⟩,
 ⟨some 18,.ld (.t 17) 2 true,some (10,false),[]⟩,
 ⟨some 19,.addo (.t 1) 10,some (10,false),[]⟩,
 ⟨some 20,.ld (.t 19) 2 true,some (10,false),[]⟩,
 ⟨some 21,.addo (.t 1) 12,some (10,false),[]⟩,
 ⟨some 22,.ld (.t 21) 2 true,some (10,false),[]⟩,
 ⟨some 23,.bsl 2 27 [.t 12,.t 14,.t 16,.t 18,.t 20,.t 22],some (10,false),[]⟩,
 ⟨some 24,.call 101 [.c (.int .i64 0),.c (.int .i64 100000),.t 23],some (10,false),[]⟩,
 ⟨some 25,.un .not (.t 24),some (10,false),[]⟩,
 o1 26 (.pick (.t 10) (.c (.bool true)) (.t 25)),
 m1 27 26,
 ⟨some 28,.addo (.t 1) 15,some (27,false),[]⟩,
 ⟨some 29,.ld (.t 28) 2 true,some (27,false),[]⟩,
 ⟨some 30,.bsl 2 27 [.t 29],some (27,false),[]⟩,
 ⟨some 31,.call 101 [.c (.int .i64 0),.c (.int .i64 1000000),.t 30],some (27,false),[]⟩,
 ⟨some 32,.un .not (.t 31),some (27,false),[]⟩,
 o1 33 (.pick (.t 27) (.c (.bool true)) (.t 32)),
 m1 34 33,
 ⟨some 35,.addo (.t 1) 14,some (34,false),[]⟩,
 ⟨some 36,.ld (.t 35) 1 false,some (34,false),[]⟩,
 ⟨some 37,.bsl 1 3 [.t 36],some (34,false),[]⟩,
 ⟨some 38,.call 125 [.c (.int .i64 0),.c (.int .i64 1000),.t 37],some (34,false),[]⟩,
 ⟨some 39,.un .not (.t 38),some (34,false),[]⟩,
 o1 40 (.pick (.t 34) (.c (.bool true)) (.t 39))])
 (.cond (.t 40)
 (.seq (.reg [
  o1 2 (.mv (.c (.int .i64 10)))])
  .ret)
 .skip))
 (.seq (.reg [
 o1 2 (.mv (.c (.int .i64 0)))])
 .ret)))
def r100:List RV:=[.tmp 2]
theorem t100:Qt1 Tryz.prog 100 c100 r100 41:=ZT Tryz.func100 rfl (by kernel_rfl) (by kernel_rfl) (by kernel_rfl) (by kernel_rfl)
def c54:SC:=(.seq (.reg [
 o1 2 (.box (.t 0) 0 29),
 o1 3 (.box (.t 1) 0 31),
 o1 4 (.mv (.c (.int .i64 0)))])
 (.seq (.seq (.reg [
 o1 6 (.ld (.t 2) 17 true),
 o1 7 (.call 100 [.t 6]),
 m1 5 7])
 (.seq (.reg [
 m1 8 5,
 o1 9 (.bin .neq (.t 8) (.c (.int .i64 0)))])
 (.cond (.t 9)
 (.seq (.reg [
  m1 10 5,
  m1 4 10])
  .ret)
 .skip)))
 (.seq (.seq (.reg [
 o1 11 (.addo (.t 2) 0),
 o1 12 (.ld (.t 11) 1 false),
 o1 13 (.addo (.t 3) 0),
 o1 14 (.ld (.t 13) 2 true),
 o1 15 (.bsl 2 27 [.t 14]),
 o1 16 (.call 101 [.c (.int .i64 0),.t 12,.t 15]),
 o1 17 (.un .not (.t 16)),
 m1 18 17,
 ⟨some 19,.addo (.t 2) 1,some (18,false),[]⟩,
 ⟨some 20,.ld (.t 19) 1 false,some (18,false),[]⟩,
 ⟨some 21,.addo (.t 3) 2,some (18,false),[]⟩,
 ⟨some 22,.ld (.t 21) 2 true,some (18,false),[]⟩,
 ⟨some 23,.bsl 2 27 [.t 22],some (18,false),[]⟩,
 ⟨some 24,.call 101 [.c (.int .i64 0),.t 20,.t 23],some (18,false),[]⟩,
 ⟨some 25,.un .not (.t 24),some (18,false),[]⟩,
 o1 26 (.pick (.t 18) (.c (.bool true)) (.t 25)),
 m1 27 26,
 ⟨some 28,.addo (.t 3) 4,some (27,false),[]⟩,
 ⟨some 29,.ld (.t 28) 2 true,some (27,false),[]⟩,
 ⟨some 30,.bsl 2 27 [.t 29],some (27,false),[]⟩,
 ⟨some 31,.call 101 [.c (.int .i64 0),.c (.int .i64 1000),.t 30],some (27,false),[]⟩,
 ⟨some 32,.un .not (.t 31),some (27,false),[]⟩,
 o1 33 (.pick (.t 27) (.c (.bool true)) (.t 32))])
 (.cond (.t 33)
 (.seq (.reg [
  o1 4 (.mv (.c (.int .i64 11)))])
  .ret)
 .skip))
 (.seq (.reg [
 o1 4 (.mv (.c (.int .i64 0)))])
 .ret))))
def r54:List RV:=[.tmp 4]
theorem t54:Qt1 Tryz.prog 54 c54 r54 34:=ZT Tryz.func54 rfl (by kernel_rfl) (by kernel_rfl) (by kernel_rfl) (by kernel_rfl)
def c95:SC:=(.seq (.reg [
 o1 2 (.box (.t 0) 0 29),
 o1 3 (.box (.t 1) 0 31),
 o1 4 (.mv (.c (.int .i64 0)))])
 (.seq (.seq (.reg [
 o1 5 (.ld (.t 2) 17 true),
 o1 6 (.call 138 [.t 5]),
 o1 7 (.un .not (.t 6))])
 (.cond (.t 7)
 (.seq (.reg [
  o1 4 (.mv (.c (.int .i64 10)))])
  .ret)
 .skip))
 (.seq (.seq (.reg [
 o1 8 (.ld (.t 2) 17 true),
 o1 9 (.ld (.t 3) 7 true),
 o1 10 (.call 139 [.t 8,.t 9]),
 o1 11 (.un .not (.t 10))])
 (.cond (.t 11)
 (.seq (.reg [
  o1 4 (.mv (.c (.int .i64 11)))])
  .ret)
 .skip))
 (.seq (.reg [
 o1 4 (.mv (.c (.int .i64 0)))])
 .ret))))
def r95:List RV:=[.tmp 4]
theorem t95:Qt1 Tryz.prog 95 c95 r95 12:=ZT Tryz.func95 rfl (by kernel_rfl) (by kernel_rfl) (by kernel_rfl) (by kernel_rfl)
def c139:SC:=(.seq (.reg [
 o1 2 (.box (.t 0) 0 29),
 o1 3 (.box (.t 1) 0 31),
 o1 4 (.mv (.c (.bool false)))])
 (.seq (.reg [
 o1 5 (.addo (.t 3) 0),
 o1 6 (.ld (.t 5) 2 true),
 o1 7 (.addo (.t 2) 0),
 o1 8 (.ld (.t 7) 1 false),
 o1 9 (.call 166 [.t 6,.c (.int .i64 0),.t 8]),
 m1 10 9,
 ⟨some 11,.addo (.t 3) 2,some (10,true),[]⟩,
 ⟨some 12,.ld (.t 11) 2 true,some (10,true),[]⟩,
 ⟨some 13,.addo (.t 2) 1,some (10,true),[]⟩,
 ⟨some 14,.ld (.t 13) 1 false,some (10,true),[]⟩,
 ⟨some 15,.call 166 [.t 12,.c (.int .i64 0),.t 14],some (10,true),[]⟩,
 o1 16 (.pick (.t 10) (.t 15) (.c (.bool false))),
 m1 17 16,
 ⟨some 18,.addo (.t 3) 4,some (17,true),[]⟩,
 ⟨some 19,.ld (.t 18) 2 true,some (17,true),[]⟩,
 ⟨some 20,.call 166 [.t 19,.c (.int .i64 0),.c (.int .i64 1000)],some (17,true),[]⟩,
 o1 21 (.pick (.t 17) (.t 20) (.c (.bool false))),
 m1 4 21])
 .ret))
def r139:List RV:=[.tmp 4]
theorem t139:Qt1 Tryz.prog 139 c139 r139 22:=ZT Tryz.func139 rfl (by kernel_rfl) (by kernel_rfl) (by kernel_rfl) (by kernel_rfl)
def c123:SC:=(.seq (.reg [
 o1 1 (.box (.t 0) 0 169),
 o1 2 (.alloc [.int .i64 0,.int .i64 0] 27)])
 (.seq (.reg [
 o1 6 (.build [.int .i64 0,.int .i64 0] [(0,1,.c (.int .i64 1000)),(1,1,.c (.int .i64 1000))]),
 o1 3 (.alloc [.int .i64 0,.int .i64 0] 27),
 ⟨none,.st (.t 3) (.t 6) 2,none,[]⟩])
 (.seq (.seq (.regd [0,1,2,3,4,5,6,7,8,9,10,11,12,13,14,15,16,17,18,19,20,21] [
 .op (o1 7 (.addo (.t 1) 17)),
 .op ⟨some 8,.addo (.t 7) 0,none,[0]⟩,
 .op ⟨some 9,.ld (.t 8) 2 true,none,[1]⟩,
 .op (o1 10 (.addo (.t 1) 0)),
 .op ⟨some 11,.addo (.t 10) 0,none,[3]⟩,
 .op ⟨some 12,.ld (.t 11) 1 false,none,[4]⟩,
 .op (o1 13 (.bsl 1 3 [.c (.int .i64 2),.c (.int .i64 1000)])),
 .op ⟨some 14,.call 128 [.t 9,.t 12,.t 13],none,[2,5,6]⟩,
 .op (o1 15 (.addo (.t 1) 17)),
 .op ⟨some 16,.addo (.t 15) 2,none,[8]⟩,
 .op ⟨some 17,.ld (.t 16) 2 true,none,[9]⟩,
 .op (o1 18 (.addo (.t 1) 0)),
 .op ⟨some 19,.addo (.t 18) 1,none,[11]⟩,
 .op ⟨some 20,.ld (.t 19) 1 false,none,[12]⟩,
 .op (o1 21 (.bsl 1 3 [.c (.int .i64 2),.c (.int .i64 1000)])),
 .op ⟨some 22,.call 128 [.t 17,.t 20,.t 21],none,[7,10,13,14]⟩,
 .op (o1 23 (.addo (.t 1) 17)),
 .op ⟨some 24,.addo (.t 23) 4,none,[16]⟩,
 .op ⟨some 25,.ld (.t 24) 2 true,none,[17]⟩,
 .op ⟨some 26,.call 159 [.c (.int .i64 1000),.t 25],none,[15,18]⟩,
 .op ⟨some 27,.build zv6 [(0,2,.t 14),(2,2,.t 22),(4,2,.t 26)],none,[7,15,19]⟩,
 .op (o1 28 (.mv (.c (.int .i64 0))))] 0 0 [
])
 (.block 0 (.loop (.seq (.reg [
  o1 29 (.bin .lss (.t 28) (.c (.int .i64 3)))])
  (.seq (.cond (.t 29)
  .skip
  (.exit 0))
  (.seq (.block 1 (.seq (.reg [
   o1 30 (.idx (.t 27) (.t 28) 3 2 true),
   o1 5 (.alloc [.int .i64 0,.int .i64 0] 27),
   ⟨none,.st (.t 5) (.t 30) 2,none,[]⟩])
   (.reg [
   o1 31 (.addo (.t 3) 0),
   o1 32 (.ld (.t 31) 1 false),
   o1 33 (.addo (.t 5) 0),
   o1 34 (.ld (.t 33) 1 false),
   o1 35 (.mm false [.t 32,.t 34]),
   o1 36 (.addo (.t 3) 1),
   o1 37 (.ld (.t 36) 1 false),
   o1 38 (.addo (.t 5) 1),
   o1 39 (.ld (.t 38) 1 false),
   o1 40 (.mm false [.t 37,.t 39]),
   o1 41 (.build [.int .i64 0,.int .i64 0] [(0,1,.t 35),(1,1,.t 40)]),
   ⟨none,.st (.t 3) (.t 41) 2,none,[]⟩])))
  (.reg [
  o1 42 (.bin .add (.t 28) (.c (.int .i64 1))),
  m1 28 42])))))))
 (.seq (.reg [
 o1 43 (.ld (.t 3) 2 true),
 ⟨none,.st (.t 2) (.t 43) 2,none,[]⟩])
 .ret))))
def r123:List RV:=[.cell 2 2 true]
theorem t123:Qt1 Tryz.prog 123 c123 r123 44:=ZT Tryz.func123 rfl (by kernel_rfl) (by kernel_rfl) (by kernel_rfl) (by kernel_rfl)
def c168:SC:=(.seq (.reg [
 o1 2 (.box (.t 0) 0 29),
 o1 3 (.box (.t 1) 0 31),
 o1 4 (.alloc [.int .i64 0,.int .i64 0] 27)])
 (.seq (.regd [0,1,2,3,4,5,6,7,8,9,10,11,12,13,14,15,16,17,18,19,20,21,22,23,24,25,26,27,28,29,30,31,32,33,34,35,36,37,38,39] [
 .op (o1 5 (.addo (.t 3) 0)),
 .op ⟨some 6,.addo (.t 5) 0,none,[0]⟩,
 .op ⟨some 7,.ld (.t 6) 1 false,none,[1]⟩,
 .op ⟨some 8,.bin .mul (.c (.int .i64 2000)) (.t 7),none,[2]⟩,
 .op (o1 9 (.addo (.t 2) 0)),
 .op ⟨some 10,.ld (.t 9) 1 false,none,[4]⟩,
 .op ⟨some 11,.div .quo (.t 8) (.t 10),none,[3,5]⟩,
 .op (o1 12 (.addo (.t 3) 2)),
 .op ⟨some 13,.addo (.t 12) 0,none,[7]⟩,
 .op ⟨some 14,.ld (.t 13) 1 false,none,[8]⟩,
 .op ⟨some 15,.bin .mul (.c (.int .i64 2000)) (.t 14),none,[9]⟩,
 .op (o1 16 (.addo (.t 2) 1)),
 .op ⟨some 17,.ld (.t 16) 1 false,none,[11]⟩,
 .op ⟨some 18,.div .quo (.t 15) (.t 17),none,[10,12]⟩,
 .op (o1 19 (.addo (.t 3) 4)),
 .op ⟨some 20,.addo (.t 19) 1,none,[14]⟩,
 .op ⟨some 21,.ld (.t 20) 1 false,none,[15]⟩,
 .op ⟨some 22,.bin .sub (.c (.int .i64 1000)) (.t 21),none,[16]⟩,
 .op ⟨some 23,.mm false [.c (.int .i64 1000),.t 11,.t 18,.t 22],none,[6,13,17]⟩,
 .op (o1 24 (.addo (.t 3) 0)),
 .op ⟨some 25,.addo (.t 24) 1,none,[19]⟩,
 .op ⟨some 26,.ld (.t 25) 1 false,none,[20]⟩,
 .op ⟨some 27,.bin .mul (.c (.int .i64 2000)) (.t 26),none,[21]⟩,
 .op (o1 28 (.addo (.t 2) 0)),
 .op ⟨some 29,.ld (.t 28) 1 false,none,[23]⟩,
 .op ⟨some 30,.call 148 [.t 27,.t 29],none,[22,24]⟩,
 .op (o1 31 (.addo (.t 3) 2)),
 .op ⟨some 32,.addo (.t 31) 1,none,[26]⟩,
 .op ⟨some 33,.ld (.t 32) 1 false,none,[27]⟩,
 .op ⟨some 34,.bin .mul (.c (.int .i64 2000)) (.t 33),none,[28]⟩,
 .op (o1 35 (.addo (.t 2) 1)),
 .op ⟨some 36,.ld (.t 35) 1 false,none,[30]⟩,
 .op ⟨some 37,.call 148 [.t 34,.t 36],none,[25,29,31]⟩,
 .op (o1 38 (.addo (.t 3) 4)),
 .op ⟨some 39,.addo (.t 38) 0,none,[33]⟩,
 .op ⟨some 40,.ld (.t 39) 1 false,none,[34]⟩,
 .op ⟨some 41,.bin .sub (.c (.int .i64 1000)) (.t 40),none,[35]⟩,
 .op ⟨some 42,.mm false [.c (.int .i64 1000),.t 30,.t 37,.t 41],none,[25,32,36]⟩,
 .op ⟨some 43,.build [.int .i64 0,.int .i64 0] [(0,1,.t 23),(1,1,.t 42)],none,[18,37]⟩] 0 1 [
 ⟨none,.st (.t 4) (.t 43) 2,none,[0,1,2,3,4,5,6,7,8,9,10,11,12,13,14,15,16,17,18,19,20,21,22,23,24,25,26,27,28,29,30,31,32,33,34,35,36,37,38]⟩])
 .ret))
def r168:List RV:=[.cell 4 2 true]
theorem t168:Qt1 Tryz.prog 168 c168 r168 44:=ZT Tryz.func168 rfl (by kernel_rfl) (by kernel_rfl) (by kernel_rfl) (by kernel_rfl)
def c81:SC:=(.seq (.reg [
 o1 1 (.box (.t 0) 0 169),
 o1 2 (.alloc [.int .i64 0,.int .i64 0] 27)])
 (.seq (.reg [
 o1 4 (.ld (.t 1) 24 true),
 o1 5 (.call 123 [.t 4]),
 o1 3 (.alloc [.int .i64 0,.int .i64 0] 27),
 ⟨none,.st (.t 3) (.t 5) 2,none,[]⟩])
 (.seq (.regd [0,1,2,3,4,5,6,7,8,9,10,11,12,13,14,15,16,17] [
 .op (o1 6 (.addo (.t 1) 0)),
 .op ⟨some 7,.addo (.t 6) 15,none,[0]⟩,
 .op ⟨some 8,.addo (.t 7) 0,none,[1]⟩,
 .op ⟨some 9,.ld (.t 8) 1 false,none,[2]⟩,
 .op (o1 10 (.addo (.t 3) 0)),
 .op ⟨some 11,.ld (.t 10) 1 false,none,[4]⟩,
 .op ⟨some 12,.bin .mul (.t 9) (.t 11),none,[3,5]⟩,
 .op ⟨some 13,.div .quo (.t 12) (.c (.int .i64 1000)),none,[6]⟩,
 .op (o1 14 (.addo (.t 1) 0)),
 .op ⟨some 15,.addo (.t 14) 15,none,[8]⟩,
 .op ⟨some 16,.addo (.t 15) 1,none,[9]⟩,
 .op ⟨some 17,.ld (.t 16) 1 false,none,[10]⟩,
 .op (o1 18 (.addo (.t 3) 1)),
 .op ⟨some 19,.ld (.t 18) 1 false,none,[12]⟩,
 .op ⟨some 20,.bin .mul (.t 17) (.t 19),none,[11,13]⟩,
 .op ⟨some 21,.call 124 [.t 20,.c (.int .i64 1000)],none,[14]⟩,
 .op ⟨some 22,.build [.int .i64 0,.int .i64 0] [(0,1,.t 13),(1,1,.t 21)],none,[7,15]⟩] 0 1 [
 ⟨none,.st (.t 2) (.t 22) 2,none,[0,1,2,3,4,5,6,7,8,9,10,11,12,13,14,15,16]⟩])
 .ret)))
def r81:List RV:=[.cell 2 2 true]
theorem t81:Qt1 Tryz.prog 81 c81 r81 23:=ZT Tryz.func81 rfl (by kernel_rfl) (by kernel_rfl) (by kernel_rfl) (by kernel_rfl)
def c148:SC:=(.seq (.reg [
 o1 4 (.mv (.c (.int .i64 0)))])
 (.seq (.reg [
 m1 5 0,
 m1 6 1,
 o1 7 (.bin .add (.t 5) (.t 6)),
 o1 8 (.bin .sub (.t 7) (.c (.int .i64 1))),
 m1 9 1,
 o1 10 (.div .quo (.t 8) (.t 9)),
 m1 4 10])
 .ret))
def r148:List RV:=[.tmp 4]
theorem t148:Qt1 Tryz.prog 148 c148 r148 11:=ZT Tryz.func148 rfl (by kernel_rfl) (by kernel_rfl) (by kernel_rfl) (by kernel_rfl)
def c83:SC:=(.seq (.reg [
 o1 2 (.mv (.c (.int .i64 0)))])
 (.seq (.seq (.reg [
 m1 5 0,
 o1 6 (.len (.t 5)),
 o1 7 (.mv (.c (.int .i64 0)))])
 (.block 0 (.loop (.seq (.reg [
  o1 8 (.bin .lss (.t 7) (.t 6))])
  (.seq (.cond (.t 8)
  .skip
  (.exit 0))
  (.seq (.block 1 (.seq (.reg [
   o1 9 (.ixs (.t 5) (.t 7) 8),
   o1 10 (.ld (.t 9) 8 true),
   o1 4 (.alloc zv3 80),
   ⟨none,.st (.t 4) (.t 10) 8,none,[]⟩])
   (.seq (.reg [
   o1 11 (.addo (.t 4) 0),
   o1 12 (.ld (.t 11) 1 false),
   o1 13 (.bsl 1 3 [.t 12]),
   o1 14 (.call 125 [.c (.int .i64 0),.c (.int .i64 24),.t 13]),
   o1 15 (.un .not (.t 14)),
   m1 16 15,
   ⟨some 17,.addo (.t 4) 1,some (16,false),[]⟩,
   ⟨some 18,.ld (.t 17) 1 false,some (16,false),[]⟩,
   ⟨some 19,.bsl 1 3 [.t 18],some (16,false),[]⟩,
   ⟨some 20,.call 125 [.c (.int .i64 0),.c (.int .i64 1000000),.t 19],some (16,false),[]⟩,
   ⟨some 21,.un .not (.t 20),some (16,false),[]⟩,
   o1 22 (.pick (.t 16) (.c (.bool true)) (.t 21)),
   m1 23 22,
   ⟨some 24,.addo (.t 4) 2,some (23,false),[]⟩,
   ⟨some 25,.ld (.t 24) 2 true,some (23,false),[]⟩,
   ⟨some 26,.bsl 2 27 [.t 25],some (23,false),[]⟩,
   ⟨some 27,.call 101 [.c (.int .i64 0),.c (.int .i64 60),.t 26],some (23,false),[]⟩,
   ⟨some 28,.un .not (.t 27),some (23,false),[]⟩,
   o1 29 (.pick (.t 23) (.c (.bool true)) (.t 28)),
   m1 30 29,
   ⟨some 31,.addo (.t 4) 4,some (30,false),[]⟩,
   ⟨some 32,.ld (.t 31) 2 true,some (30,false),[]⟩,
   ⟨some 33,.addo (.t 4) 6,some (30,false),[]⟩,
   ⟨some 34,.ld (.t 33) 2 true,some (30,false),[]⟩,
   ⟨some 35,.bsl 2 27 [.t 32,.t 34],some (30,false),[]⟩,
   ⟨some 36,.call 101 [.c (.int .i64 0),.c (.int .i64 1000000),.t 35],some (30,false),[]⟩,
   ⟨some 37,.un .not (.t 36),some (30,false),[]⟩,
   o1 38 (.pick (.t 30) (.c (.bool true)) (.t 37))])
   (.cond (.t 38)
   (.seq (.reg [
    o1 2 (.mv (.c (.int .i64 12)))])
    .ret)
   .skip))))
  (.reg [
  o1 39 (.bin .add (.t 7) (.c (.int .i64 1))),
  m1 7 39])))))))
 (.seq (.reg [
 o1 2 (.mv (.c (.int .i64 0)))])
 .ret)))
def r83:List RV:=[.tmp 2]
theorem t83:Qt1 Tryz.prog 83 c83 r83 40:=ZT Tryz.func83 rfl (by kernel_rfl) (by kernel_rfl) (by kernel_rfl) (by kernel_rfl)
def c126:SC:=(.seq (.reg [
 o1 3 (.box (.t 0) 0 29),
 o1 5 (.box (.t 2) 0 80),
 o1 6 (.alloc [.int .i64 0,.int .i64 0,.int .i64 0,.int .i64 0] 217)])
 (.seq (.reg [
 o1 10 (.addo (.t 5) 2),
 o1 11 (.addo (.t 10) 0),
 o1 12 (.ld (.t 11) 1 false),
 o1 13 (.bin .sub (.t 12) (.c (.int .i64 20))),
 o1 14 (.mm true [.c (.int .i64 0),.t 13]),
 o1 15 (.addo (.t 5) 2),
 o1 16 (.addo (.t 15) 1),
 o1 17 (.ld (.t 16) 1 false),
 o1 18 (.bin .sub (.t 17) (.c (.int .i64 20))),
 o1 19 (.mm true [.c (.int .i64 0),.t 18]),
 o1 20 (.build [.int .i64 0,.int .i64 0] [(0,1,.t 14),(1,1,.t 19)]),
 o1 7 (.alloc [.int .i64 0,.int .i64 0] 27),
 ⟨none,.st (.t 7) (.t 20) 2,none,[]⟩])
 (.seq (.reg [
 o1 21 (.addo (.t 5) 0),
 o1 22 (.ld (.t 21) 1 false),
 o1 23 (.addo (.t 5) 1),
 o1 24 (.ld (.t 23) 1 false),
 o1 25 (.bin .add (.c (.int .i64 100000)) (.t 24)),
 o1 26 (.bin .mul (.t 22) (.t 25)),
 m1 8 26])
 (.seq (.regd [0,1,2,3,4,5,6,7,8,9,10,11,12,13,14,15,16,17,18,19,20,21,22,23] [
 .op (o1 27 (.addo (.t 3) 2)),
 .op ⟨some 28,.ld (.t 27) 2 true,none,[0]⟩,
 .op (o1 29 (.addo (.t 3) 4)),
 .op ⟨some 30,.addo (.t 29) 0,none,[2]⟩,
 .op ⟨some 31,.ld (.t 30) 1 false,none,[3]⟩,
 .op (o1 32 (.addo (.t 7) 0)),
 .op ⟨some 33,.ld (.t 32) 1 false,none,[5]⟩,
 .op ⟨some 34,.bin .mul (.t 31) (.t 33),none,[4,6]⟩,
 .op (o1 35 (.addo (.t 3) 4)),
 .op ⟨some 36,.addo (.t 35) 1,none,[8]⟩,
 .op ⟨some 37,.ld (.t 36) 1 false,none,[9]⟩,
 .op (o1 38 (.addo (.t 7) 1)),
 .op ⟨some 39,.ld (.t 38) 1 false,none,[11]⟩,
 .op ⟨some 40,.bin .mul (.t 37) (.t 39),none,[10,12]⟩,
 .op ⟨some 41,.build [.int .i64 0,.int .i64 0] [(0,1,.t 34),(1,1,.t 40)],none,[7,13]⟩,
 .op (o1 42 (.addo (.t 3) 6)),
 .op ⟨some 43,.ld (.t 42) 2 true,none,[15]⟩,
 .op (m1 44 8),
 .op ⟨some 45,.bsl 1 3 [.t 44],none,[17]⟩,
 .op ⟨some 46,.call 128 [.t 43,.c (.int .i64 100000),.t 45],none,[16,18]⟩,
 .op ⟨some 47,.bsl 2 27 [.t 28,.t 41,.t 46],none,[1,14,19]⟩,
 .op ⟨some 48,.call 127 [.t 47],none,[19,20]⟩] 1 1 [
 o1 9 (.alloc [.int .i64 0,.int .i64 0] 27),
 ⟨none,.st (.t 9) (.t 48) 2,none,[0,1,2,3,4,5,6,7,8,9,10,11,12,13,14,15,16,17,18,19,20,21,22]⟩])
 (.seq (.seq (.reg [
 m1 49 1])
 (.cond (.t 49)
 (.reg [
  o1 50 (.ld (.t 9) 2 true),
  o1 51 (.addo (.t 3) 12),
  o1 52 (.ld (.t 51) 2 true),
  o1 53 (.bsl 2 27 [.t 50,.t 52]),
  o1 54 (.call 127 [.t 53]),
  ⟨none,.st (.t 9) (.t 54) 2,none,[]⟩])
 .skip))
 (.seq (.regd [0,1,2,3,4,5,6,7] [
 .op (o1 55 (.ld (.t 9) 2 true)),
 .op (o1 56 (.addo (.t 3) 8)),
 .op ⟨some 57,.ld (.t 56) 2 true,none,[1]⟩,
 .op (m1 58 8),
 .op ⟨some 59,.bsl 1 3 [.t 58],none,[3]⟩,
 .op ⟨some 60,.call 128 [.t 57,.c (.int .i64 100000),.t 59],none,[2,4]⟩,
 .op ⟨some 61,.build [.int .i64 0,.int .i64 0,.int .i64 0,.int .i64 0] [(0,2,.t 55),(2,2,.t 60)],none,[0,5]⟩] 0 1 [
 ⟨none,.st (.t 6) (.t 61) 4,none,[0,1,2,3,4,5,6]⟩])
 .ret))))))
def r126:List RV:=[.cell 6 4 true]
theorem t126:Qt1 Tryz.prog 126 c126 r126 62:=ZT Tryz.func126 rfl (by kernel_rfl) (by kernel_rfl) (by kernel_rfl) (by kernel_rfl)
def c138:SC:=(.seq (.reg [
 o1 1 (.box (.t 0) 0 29),
 o1 2 (.mv (.c (.bool false)))])
 (.seq (.seq (.reg [
 o1 3 (.addo (.t 1) 0),
 o1 4 (.ld (.t 3) 1 false),
 o1 5 (.call 165 [.t 4,.c (.int .i64 1),.c (.int .i64 1000000)]),
 o1 6 (.un .not (.t 5)),
 m1 7 6,
 ⟨some 8,.addo (.t 1) 1,some (7,false),[]⟩,
 ⟨some 9,.ld (.t 8) 1 false,some (7,false),[]⟩,
 ⟨some 10,.call 165 [.t 9,.c (.int .i64 1),.c (.int .i64 1000000)],some (7,false),[]⟩,
 ⟨some 11,.un .not (.t 10),some (7,false),[]⟩,
 o1 12 (.pick (.t 7) (.c (.bool true)) (.t 11)),
 m1 13 12,
 ⟨some 14,.addo (.t 1) 14,some (13,false),[]⟩,
 ⟨some 15,.ld (.t 14) 1 false,some (13,false),[]⟩,
 ⟨some 16,.call 165 [.t 15,.c (.int .i64 0),.c (.int .i64 1000)],some (13,false),[]⟩,
 ⟨some 17,.un .not (.t 16),some (13,false),[]⟩,
 o1 18 (.pick (.t 13) (.c (.bool true)) (.t 17)),
 m1 19 18,
 ⟨some 20,.addo (.t 1) 15,some (19,false),[]⟩,
 ⟨some 21,.ld (.t 20) 2 true,some (19,false),[]⟩,
 ⟨some 22,.call 166 [.t 21,.c (.int .i64 0),.c (.int .i64 1000000)],some (19,false),[]⟩,
 ⟨some 23,.un .not (.t 22),some (19,false),[]⟩,
 o1 24 (.pick (.t 19) (.c (.bool true)) (.t 23))])
 (.cond (.t 24)
 (.seq (.reg [
  o1 2 (.mv (.c (.bool false)))])
  .ret)
 .skip))
 (.seq (.reg [
 o1 25 (.addo (.t 1) 2),
 o1 26 (.ld (.t 25) 2 true),
 o1 27 (.call 166 [.t 26,.c (.int .i64 0),.c (.int .i64 100000)]),
 m1 28 27,
 ⟨some 29,.addo (.t 1) 4,some (28,true),[]⟩,
 ⟨some 30,.ld (.t 29) 2 true,some (28,true),[]⟩,
 ⟨some 31,.call 166 [.t 30,.c (.int .i64 0),.c (.int .i64 100000)],some (28,true),[]⟩,
 o1 32 (.pick (.t 28) (.t 31) (.c (.bool false))),
 m1 33 32,
 ⟨some 34,.addo (.t 1) 6,some (33,true),[]⟩,
 ⟨some 35,.ld (.t 34) 2 true,some (33,true),[]⟩,
 ⟨some 36,.call 166 [.t 35,.c (.int .i64 0),.c (.int .i64 100000)],some (33,true),[]⟩,
 o1 37 (.pick (.t 33) (.t 36) (.c (.bool false))),
 m1 38 37,
 ⟨some 39,.addo (.t 1) 8,some (38,true),[]⟩,
 ⟨some 40,.ld (.t 39) 2 true,some (38,true),[]⟩,
 ⟨some 41,.call 166 [.t 40,.c (.int .i64 0),.c (.int .i64 100000)],some (38,true),[]⟩,
 o1 42 (.pick (.t 38) (.t 41) (.c (.bool false))),
 m1 43 42,
 ⟨some 44,.addo (.t 1) 10,some (43,true),[]⟩,
 ⟨some 45,.ld (.t 44) 2 true,some (43,true),[]⟩,
 ⟨some 46,.call 166 [.t 45,.c (.int .i64 0),.c (.int .i64 100000)],some (43,true),[]⟩,
 o1 47 (.pick (.t 43) (.t 46) (.c (.bool false))),
 m1 48 47,
 ⟨some 49,.addo (.t 1) 12,some (48,true),[]⟩,
 ⟨some 50,.ld (.t 49) 2 true,some (48,true),[]⟩,
 ⟨some 51,.call 166 [.t 50,.c (.int .i64 0),.c (.int .i64 100000)],some (48,true),[]⟩,
 o1 52 (.pick (.t 48) (.t 51) (.c (.bool false))),
 m1 2 52])
 .ret)))
def r138:List RV:=[.tmp 2]
theorem t138:Qt1 Tryz.prog 138 c138 r138 53:=ZT Tryz.func138 rfl (by kernel_rfl) (by kernel_rfl) (by kernel_rfl) (by kernel_rfl)
def c169:SC:=(.seq (.reg [
 o1 1 (.box (.t 0) 0 80),
 o1 2 (.mv (.c (.bool false)))])
 (.seq (.reg [
 o1 3 (.addo (.t 1) 0),
 o1 4 (.ld (.t 3) 1 false),
 o1 5 (.call 165 [.t 4,.c (.int .i64 0),.c (.int .i64 24)]),
 m1 6 5,
 ⟨some 7,.addo (.t 1) 1,some (6,true),[]⟩,
 ⟨some 8,.ld (.t 7) 1 false,some (6,true),[]⟩,
 ⟨some 9,.call 165 [.t 8,.c (.int .i64 0),.c (.int .i64 1000000)],some (6,true),[]⟩,
 o1 10 (.pick (.t 6) (.t 9) (.c (.bool false))),
 m1 11 10,
 ⟨some 12,.addo (.t 1) 2,some (11,true),[]⟩,
 ⟨some 13,.ld (.t 12) 2 true,some (11,true),[]⟩,
 ⟨some 14,.call 166 [.t 13,.c (.int .i64 0),.c (.int .i64 60)],some (11,true),[]⟩,
 o1 15 (.pick (.t 11) (.t 14) (.c (.bool false))),
 m1 16 15,
 ⟨some 17,.addo (.t 1) 4,some (16,true),[]⟩,
 ⟨some 18,.ld (.t 17) 2 true,some (16,true),[]⟩,
 ⟨some 19,.call 166 [.t 18,.c (.int .i64 0),.c (.int .i64 1000000)],some (16,true),[]⟩,
 o1 20 (.pick (.t 16) (.t 19) (.c (.bool false))),
 m1 21 20,
 ⟨some 22,.addo (.t 1) 6,some (21,true),[]⟩,
 ⟨some 23,.ld (.t 22) 2 true,some (21,true),[]⟩,
 ⟨some 24,.call 166 [.t 23,.c (.int .i64 0),.c (.int .i64 1000000)],some (21,true),[]⟩,
 o1 25 (.pick (.t 21) (.t 24) (.c (.bool false))),
 m1 2 25])
 .ret))
def r169:List RV:=[.tmp 2]
theorem t169:Qt1 Tryz.prog 169 c169 r169 26:=ZT Tryz.func169 rfl (by kernel_rfl) (by kernel_rfl) (by kernel_rfl) (by kernel_rfl)
def c175:SC:=(.seq (.reg [
 o1 3 (.box (.t 0) 0 29),
 o1 5 (.box (.t 2) 0 80),
 o1 6 (.alloc [.int .i64 0,.int .i64 0] 27),
 o1 7 (.alloc [.int .i64 0,.int .i64 0] 27)])
 (.seq (.reg [
 o1 10 (.addo (.t 5) 0),
 o1 11 (.ld (.t 10) 1 false),
 o1 12 (.addo (.t 5) 1),
 o1 13 (.ld (.t 12) 1 false),
 o1 14 (.bin .add (.c (.int .i64 100000)) (.t 13)),
 o1 15 (.bin .mul (.t 11) (.t 14)),
 m1 8 15])
 (.seq (.regd [0,1,2,3,4,5,6,7,8,9,10,11,12,13,14,15,16,17,18,19,20,21,22,23,24,25,26,27,28,29,30,31,32,33,34,35,36,37,38,39,40,41,42] [
 .op (o1 16 (.addo (.t 3) 2)),
 .op ⟨some 17,.addo (.t 16) 0,none,[0]⟩,
 .op ⟨some 18,.ld (.t 17) 1 false,none,[1]⟩,
 .op (o1 19 (.addo (.t 3) 4)),
 .op ⟨some 20,.addo (.t 19) 0,none,[3]⟩,
 .op ⟨some 21,.ld (.t 20) 1 false,none,[4]⟩,
 .op (o1 22 (.addo (.t 5) 2)),
 .op ⟨some 23,.addo (.t 22) 0,none,[6]⟩,
 .op ⟨some 24,.ld (.t 23) 1 false,none,[7]⟩,
 .op ⟨some 25,.bin .sub (.t 24) (.c (.int .i64 20)),none,[8]⟩,
 .op ⟨some 26,.mm true [.c (.int .i64 0),.t 25],none,[9]⟩,
 .op ⟨some 27,.bin .mul (.t 21) (.t 26),none,[5,10]⟩,
 .op ⟨some 28,.bin .add (.t 18) (.t 27),none,[2,11]⟩,
 .op (o1 29 (.addo (.t 3) 6)),
 .op ⟨some 30,.addo (.t 29) 0,none,[13]⟩,
 .op ⟨some 31,.ld (.t 30) 1 false,none,[14]⟩,
 .op (m1 32 8),
 .op ⟨some 33,.bin .mul (.t 31) (.t 32),none,[15,16]⟩,
 .op ⟨some 34,.div .quo (.t 33) (.c (.int .i64 100000)),none,[17]⟩,
 .op ⟨some 35,.bin .add (.t 28) (.t 34),none,[12,18]⟩,
 .op (o1 36 (.addo (.t 3) 2)),
 .op ⟨some 37,.addo (.t 36) 1,none,[20]⟩,
 .op ⟨some 38,.ld (.t 37) 1 false,none,[21]⟩,
 .op (o1 39 (.addo (.t 3) 4)),
 .op ⟨some 40,.addo (.t 39) 1,none,[23]⟩,
 .op ⟨some 41,.ld (.t 40) 1 false,none,[24]⟩,
 .op (o1 42 (.addo (.t 5) 2)),
 .op ⟨some 43,.addo (.t 42) 1,none,[26]⟩,
 .op ⟨some 44,.ld (.t 43) 1 false,none,[27]⟩,
 .op ⟨some 45,.bin .sub (.t 44) (.c (.int .i64 20)),none,[28]⟩,
 .op ⟨some 46,.mm true [.c (.int .i64 0),.t 45],none,[29]⟩,
 .op ⟨some 47,.bin .mul (.t 41) (.t 46),none,[25,30]⟩,
 .op ⟨some 48,.bin .add (.t 38) (.t 47),none,[22,31]⟩,
 .op (o1 49 (.addo (.t 3) 6)),
 .op ⟨some 50,.addo (.t 49) 1,none,[33]⟩,
 .op ⟨some 51,.ld (.t 50) 1 false,none,[34]⟩,
 .op (m1 52 8),
 .op ⟨some 53,.bin .mul (.t 51) (.t 52),none,[35,36]⟩,
 .op ⟨some 54,.call 148 [.t 53,.c (.int .i64 100000)],none,[37]⟩,
 .op ⟨some 55,.bin .add (.t 48) (.t 54),none,[32,38]⟩,
 .op ⟨some 56,.build [.int .i64 0,.int .i64 0] [(0,1,.t 35),(1,1,.t 55)],none,[19,39]⟩] 1 1 [
 o1 9 (.alloc [.int .i64 0,.int .i64 0] 27),
 ⟨none,.st (.t 9) (.t 56) 2,none,[0,1,2,3,4,5,6,7,8,9,10,11,12,13,14,15,16,17,18,19,20,21,22,23,24,25,26,27,28,29,30,31,32,33,34,35,36,37,38,39,40,41]⟩])
 (.seq (.seq (.reg [
 m1 57 1])
 (.cond (.t 57)
 (.seq (.reg [
  o1 58 (.addo (.t 9) 0),
  o1 59 (.ld (.t 58) 1 false),
  o1 60 (.addo (.t 3) 12),
  o1 61 (.addo (.t 60) 0),
  o1 62 (.ld (.t 61) 1 false),
  o1 63 (.bin .add (.t 59) (.t 62)),
  o1 64 (.addo (.t 9) 0),
  ⟨none,.st (.t 64) (.t 63) 1,none,[]⟩])
  (.reg [
  o1 65 (.addo (.t 9) 1),
  o1 66 (.ld (.t 65) 1 false),
  o1 67 (.addo (.t 3) 12),
  o1 68 (.addo (.t 67) 1),
  o1 69 (.ld (.t 68) 1 false),
  o1 70 (.bin .add (.t 66) (.t 69)),
  o1 71 (.addo (.t 9) 1),
  ⟨none,.st (.t 71) (.t 70) 1,none,[]⟩]))
 .skip))
 (.seq (.regd [0,7,8,9,10,11,12,1,2,3,4,5,6,13,14,15] [
 .op (o1 72 (.ld (.t 9) 2 true)),
 .op (o1 79 (.addo (.t 3) 8)),
 .op ⟨some 80,.addo (.t 79) 1,none,[7]⟩,
 .op ⟨some 81,.ld (.t 80) 1 false,none,[8]⟩,
 .op (m1 82 8),
 .op ⟨some 83,.bin .mul (.t 81) (.t 82),none,[9,10]⟩,
 .op ⟨some 84,.call 148 [.t 83,.c (.int .i64 100000)],none,[11]⟩,
 .hide (.t 6),
 .op (o1 73 (.addo (.t 3) 8)),
 .op ⟨some 74,.addo (.t 73) 0,none,[1]⟩,
 .op ⟨some 75,.ld (.t 74) 1 false,none,[2]⟩,
 .op (m1 76 8),
 .op ⟨some 77,.bin .mul (.t 75) (.t 76),none,[3,4]⟩,
 .op ⟨some 78,.div .quo (.t 77) (.c (.int .i64 100000)),none,[5]⟩,
 .op ⟨some 85,.build [.int .i64 0,.int .i64 0] [(0,1,.t 78),(1,1,.t 84)],none,[6,12]⟩] 0 2 [
 ⟨none,.st (.t 6) (.t 72) 2,none,[0,12]⟩,
 ⟨none,.st (.t 7) (.t 85) 2,none,[0,1,2,3,4,5,6,7,8,9,10,11,12,13,14]⟩])
 .ret)))))
def r175:List RV:=[.cell 6 2 true,.cell 7 2 true]
theorem t175:Qt1 Tryz.prog 175 c175 r175 86:=ZT Tryz.func175 rfl (by kernel_rfl) (by kernel_rfl) (by kernel_rfl) (by kernel_rfl)
def c125:SC:=(.seq (.reg [
 o1 3 (.box (.t 0) 0 3),
 o1 4 (.box (.t 1) 0 3),
 o1 6 (.mv (.c (.bool false)))])
 (.seq (.reg [
 m1 7 2,
 o1 8 (.mkf 160 [.t 3,.t 4]),
 o1 9 (.call 98 [.t 7,.t 8]),
 o1 10 (.un .not (.t 9)),
 m1 6 10])
 .ret))
def r125:List RV:=[.tmp 6]
theorem t125:Qt1 Tryz.prog 125 c125 r125 11:=ZT Tryz.func125 rfl (by kernel_rfl) (by kernel_rfl) (by kernel_rfl) (by kernel_rfl)
def c101:SC:=(.seq (.reg [
 o1 3 (.box (.t 0) 0 3),
 o1 4 (.box (.t 1) 0 3),
 o1 6 (.mv (.c (.bool false)))])
 (.seq (.reg [
 m1 7 2,
 o1 8 (.mkf 142 [.t 3,.t 4]),
 o1 9 (.call 102 [.t 7,.t 8]),
 o1 10 (.un .not (.t 9)),
 m1 6 10])
 .ret))
def r101:List RV:=[.tmp 6]
theorem t101:Qt1 Tryz.prog 101 c101 r101 11:=ZT Tryz.func101 rfl (by kernel_rfl) (by kernel_rfl) (by kernel_rfl) (by kernel_rfl)
def c127:SC:=(.seq (.reg [
 o1 2 (.alloc [.int .i64 0,.int .i64 0] 27)])
 (.seq (.reg [
 o1 3 (.alloc [.int .i64 0,.int .i64 0] 27)])
 (.seq (.seq (.reg [
 m1 6 0,
 o1 7 (.len (.t 6)),
 o1 8 (.mv (.c (.int .i64 0)))])
 (.block 0 (.loop (.seq (.reg [
  o1 9 (.bin .lss (.t 8) (.t 7))])
  (.seq (.cond (.t 9)
  .skip
  (.exit 0))
  (.seq (.block 1 (.seq (.reg [
   o1 10 (.ixs (.t 6) (.t 8) 2),
   o1 11 (.ld (.t 10) 2 true),
   o1 5 (.alloc [.int .i64 0,.int .i64 0] 27),
   ⟨none,.st (.t 5) (.t 11) 2,none,[]⟩])
   (.reg [
   o1 12 (.addo (.t 3) 0),
   o1 13 (.ld (.t 12) 1 false),
   o1 14 (.addo (.t 5) 0),
   o1 15 (.ld (.t 14) 1 false),
   o1 16 (.bin .add (.t 13) (.t 15)),
   o1 17 (.addo (.t 3) 1),
   o1 18 (.ld (.t 17) 1 false),
   o1 19 (.addo (.t 5) 1),
   o1 20 (.ld (.t 19) 1 false),
   o1 21 (.bin .add (.t 18) (.t 20)),
   o1 22 (.build [.int .i64 0,.int .i64 0] [(0,1,.t 16),(1,1,.t 21)]),
   ⟨none,.st (.t 3) (.t 22) 2,none,[]⟩])))
  (.reg [
  o1 23 (.bin .add (.t 8) (.c (.int .i64 1))),
  m1 8 23])))))))
 (.seq (.reg [
 o1 24 (.ld (.t 3) 2 true),
 ⟨none,.st (.t 2) (.t 24) 2,none,[]⟩])
 .ret))))
def r127:List RV:=[.cell 2 2 true]
theorem t127:Qt1 Tryz.prog 127 c127 r127 25:=ZT Tryz.func127 rfl (by kernel_rfl) (by kernel_rfl) (by kernel_rfl) (by kernel_rfl)
def c159:SC:=(.seq (.reg [
 o1 3 (.box (.t 1) 0 27),
 o1 4 (.alloc [.int .i64 0,.int .i64 0] 27)])
 (.seq (.reg [
 m1 5 0,
 o1 6 (.addo (.t 3) 1),
 o1 7 (.ld (.t 6) 1 false),
 o1 8 (.bin .sub (.t 5) (.t 7)),
 m1 9 0,
 o1 10 (.addo (.t 3) 0),
 o1 11 (.ld (.t 10) 1 false),
 o1 12 (.bin .sub (.t 9) (.t 11)),
 o1 13 (.build [.int .i64 0,.int .i64 0] [(0,1,.t 8),(1,1,.t 12)]),
 ⟨none,.st (.t 4) (.t 13) 2,none,[]⟩])
 .ret))
def r159:List RV:=[.cell 4 2 true]
theorem t159:Qt1 Tryz.prog 159 c159 r159 14:=ZT Tryz.func159 rfl (by kernel_rfl) (by kernel_rfl) (by kernel_rfl) (by kernel_rfl)
def c166:SC:=(.seq (.reg [
 o1 3 (.box (.t 0) 0 27),
 o1 6 (.mv (.c (.bool false)))])
 (.seq (.reg [
 o1 7 (.addo (.t 3) 0),
 o1 8 (.ld (.t 7) 1 false),
 m1 9 1,
 o1 10 (.addo (.t 3) 1),
 o1 11 (.ld (.t 10) 1 false),
 o1 12 (.call 165 [.t 8,.t 9,.t 11]),
 m1 13 12,
 ⟨some 14,.addo (.t 3) 1,some (13,true),[]⟩,
 ⟨some 15,.ld (.t 14) 1 false,some (13,true),[]⟩,
 ⟨some 16,.mv (.t 2),some (13,true),[]⟩,
 ⟨some 17,.bin .leq (.t 15) (.t 16),some (13,true),[]⟩,
 o1 18 (.pick (.t 13) (.t 17) (.c (.bool false))),
 m1 6 18])
 .ret))
def r166:List RV:=[.tmp 6]
theorem t166:Qt1 Tryz.prog 166 c166 r166 19:=ZT Tryz.func166 rfl (by kernel_rfl) (by kernel_rfl) (by kernel_rfl) (by kernel_rfl)
def c165:SC:=(.seq (.reg [
 o1 6 (.mv (.c (.bool false)))])
 (.seq (.reg [
 m1 7 0,
 m1 8 1,
 o1 9 (.bin .geq (.t 7) (.t 8)),
 m1 10 9,
 ⟨some 11,.mv (.t 0),some (10,true),[]⟩,
 ⟨some 12,.mv (.t 2),some (10,true),[]⟩,
 ⟨some 13,.bin .leq (.t 11) (.t 12),some (10,true),[]⟩,
 o1 14 (.pick (.t 10) (.t 13) (.c (.bool false))),
 m1 6 14])
 .ret))
def r165:List RV:=[.tmp 6]
theorem t165:Qt1 Tryz.prog 165 c165 r165 15:=ZT Tryz.func165 rfl (by kernel_rfl) (by kernel_rfl) (by kernel_rfl) (by kernel_rfl)
def c128:SC:=(.seq (.reg [
 o1 3 (.box (.t 0) 0 27),
 o1 6 (.alloc [.int .i64 0,.int .i64 0] 27)])
 (.seq (.seq (.reg [
 m1 9 2,
 o1 10 (.len (.t 9)),
 o1 11 (.mv (.c (.int .i64 0)))])
 (.block 0 (.loop (.seq (.reg [
  o1 12 (.bin .lss (.t 11) (.t 10))])
  (.seq (.cond (.t 12)
  .skip
  (.exit 0))
  (.seq (.block 1 (.seq (.reg [
   o1 13 (.ixs (.t 9) (.t 11) 1),
   o1 14 (.ld (.t 13) 1 false),
   m1 8 14])
   (.reg [
   o1 15 (.addo (.t 3) 0),
   o1 16 (.ld (.t 15) 1 false),
   m1 17 8,
   o1 18 (.bin .mul (.t 16) (.t 17)),
   o1 19 (.addo (.t 3) 1),
   o1 20 (.ld (.t 19) 1 false),
   m1 21 8,
   o1 22 (.bin .mul (.t 20) (.t 21)),
   o1 23 (.addo (.t 3) 0),
   ⟨none,.st (.t 23) (.t 18) 1,none,[]⟩,
   o1 24 (.addo (.t 3) 1),
   ⟨none,.st (.t 24) (.t 22) 1,none,[]⟩])))
  (.reg [
  o1 25 (.bin .add (.t 11) (.c (.int .i64 1))),
  m1 11 25])))))))
 (.seq (.regd [0,1,2,3,4,5,6,7,8,9] [
 .op (o1 26 (.addo (.t 3) 0)),
 .op ⟨some 27,.ld (.t 26) 1 false,none,[0]⟩,
 .op (m1 28 1),
 .op ⟨some 29,.div .quo (.t 27) (.t 28),none,[1,2]⟩,
 .op (o1 30 (.addo (.t 3) 1)),
 .op ⟨some 31,.ld (.t 30) 1 false,none,[4]⟩,
 .op (m1 32 1),
 .op ⟨some 33,.call 124 [.t 31,.t 32],none,[5,6]⟩,
 .op ⟨some 34,.build [.int .i64 0,.int .i64 0] [(0,1,.t 29),(1,1,.t 33)],none,[3,7]⟩] 0 1 [
 ⟨none,.st (.t 6) (.t 34) 2,none,[0,1,2,3,4,5,6,7,8]⟩])
 .ret)))
def r128:List RV:=[.cell 6 2 true]
theorem t128:Qt1 Tryz.prog 128 c128 r128 35:=ZT Tryz.func128 rfl (by kernel_rfl) (by kernel_rfl) (by kernel_rfl) (by kernel_rfl)
def c124:SC:=(.seq (.reg [
 o1 4 (.mv (.c (.int .i64 0)))])
 (.seq (.reg [
 m1 5 0,
 m1 6 1,
 o1 7 (.bin .add (.t 5) (.t 6)),
 o1 8 (.bin .sub (.t 7) (.c (.int .i64 1))),
 m1 9 1,
 o1 10 (.div .quo (.t 8) (.t 9)),
 m1 4 10])
 .ret))
def r124:List RV:=[.tmp 4]
theorem t124:Qt1 Tryz.prog 124 c124 r124 11:=ZT Tryz.func124 rfl (by kernel_rfl) (by kernel_rfl) (by kernel_rfl) (by kernel_rfl)
def c160:SC:=(.seq (.reg [
 o1 4 (.mv (.c (.bool false)))])
 (.seq (.reg [
 m1 5 0,
 o1 6 (.ld (.t 1) 1 false),
 o1 7 (.bin .lss (.t 5) (.t 6)),
 m1 8 7,
 ⟨some 9,.mv (.t 0),some (8,false),[]⟩,
 ⟨some 10,.ld (.t 2) 1 false,some (8,false),[]⟩,
 ⟨some 11,.bin .gtr (.t 9) (.t 10),some (8,false),[]⟩,
 o1 12 (.pick (.t 8) (.c (.bool true)) (.t 11)),
 m1 4 12])
 .ret))
def r160:List RV:=[.tmp 4]
theorem t160:Qt1 Tryz.prog 160 c160 r160 13:=ZT Tryz.func160 rfl (by kernel_rfl) (by kernel_rfl) (by kernel_rfl) (by kernel_rfl)
def c142:SC:=(.seq (.reg [
 o1 3 (.box (.t 0) 0 27),
 o1 4 (.mv (.c (.bool false)))])
 (.seq (.reg [
 o1 5 (.addo (.t 3) 0),
 o1 6 (.ld (.t 5) 1 false),
 o1 7 (.addo (.t 3) 1),
 o1 8 (.ld (.t 7) 1 false),
 o1 9 (.bin .gtr (.t 6) (.t 8)),
 m1 10 9,
 ⟨some 11,.ld (.t 1) 1 false,some (10,false),[]⟩,
 ⟨some 12,.ld (.t 2) 1 false,some (10,false),[]⟩,
 ⟨some 13,.addo (.t 3) 0,some (10,false),[]⟩,
 ⟨some 14,.ld (.t 13) 1 false,some (10,false),[]⟩,
 ⟨some 15,.addo (.t 3) 1,some (10,false),[]⟩,
 ⟨some 16,.ld (.t 15) 1 false,some (10,false),[]⟩,
 ⟨some 17,.bsl 1 3 [.t 14,.t 16],some (10,false),[]⟩,
 ⟨some 18,.call 125 [.t 11,.t 12,.t 17],some (10,false),[]⟩,
 ⟨some 19,.un .not (.t 18),some (10,false),[]⟩,
 o1 20 (.pick (.t 10) (.c (.bool true)) (.t 19)),
 m1 4 20])
 .ret))
def r142:List RV:=[.tmp 4]
theorem t142:Qt1 Tryz.prog 142 c142 r142 21:=ZT Tryz.func142 rfl (by kernel_rfl) (by kernel_rfl) (by kernel_rfl) (by kernel_rfl)
def c84:SC:=(.seq (.reg [
 o1 2 (.box (.t 0) 0 169),
 o1 3 (.box (.t 1) 0 80),
 o1 4 (.alloc zv1 169),
 o1 5 (.mv (.c (.int .u8 0)))])
 (.seq (.reg [
 o1 16 (.addo (.t 2) 17),
 o1 17 (.addo (.t 16) 0),
 o1 18 (.addo (.t 2) 17),
 o1 19 (.addo (.t 18) 2),
 o1 20 (.build [.pointer none,.pointer none] [(0,1,.t 17),(1,1,.t 19)]),
 o1 6 (.alloc [.pointer none,.pointer none] 216),
 ⟨none,.st (.t 6) (.t 20) 2,none,[]⟩])
 (.seq (.regd [0,1,2,3,4,5,6,7,8,9,10,11,12,13,14,15] [
 .op (o1 21 (.addo (.t 2) 0)),
 .op ⟨some 22,.addo (.t 21) 0,none,[0]⟩,
 .op ⟨some 23,.ld (.t 22) 1 false,none,[1]⟩,
 .op (o1 24 (.addo (.t 2) 0)),
 .op ⟨some 25,.addo (.t 24) 1,none,[3]⟩,
 .op ⟨some 26,.ld (.t 25) 1 false,none,[4]⟩,
 .op ⟨some 27,.build [.int .i64 0,.int .i64 0] [(0,1,.t 23),(1,1,.t 26)],none,[2,5]⟩,
 .op (o1 28 (.addo (.t 3) 6)),
 .op ⟨some 29,.ld (.t 28) 2 true,none,[7]⟩,
 .op (o1 30 (.addo (.t 3) 4)),
 .op ⟨some 31,.ld (.t 30) 2 true,none,[9]⟩,
 .op ⟨some 32,.build [.int .i64 0,.int .i64 0,.int .i64 0,.int .i64 0] [(0,2,.t 29),(2,2,.t 31)],none,[8,10]⟩] 2 2 [
 o1 7 (.alloc [.int .i64 0,.int .i64 0] 164),
 o1 8 (.alloc [.int .i64 0,.int .i64 0,.int .i64 0,.int .i64 0] 217),
 ⟨none,.st (.t 7) (.t 27) 2,none,[0,1,2,3,4,5,6,12,13]⟩,
 ⟨none,.st (.t 8) (.t 32) 4,none,[0,1,2,3,4,5,6,7,8,9,10,11,12,13,14]⟩])
 (.seq (.reg [
 o1 9 (.mv (.c (.int .u8 0)))])
 (.seq (.seq (.reg [
 o1 33 (.addo (.t 2) 0),
 o1 34 (.ld (.t 33) 17 true),
 o1 35 (.addo (.t 2) 17),
 o1 36 (.addo (.t 35) 6),
 o1 37 (.ld (.t 36) 1 false),
 o1 38 (.ld (.t 3) 8 true),
 o1 39 (.call 126 [.t 34,.t 37,.t 38]),
 o1 40 (.mv (.c (.int .i64 0)))])
 (.block 0 (.loop (.seq (.reg [
  o1 41 (.bin .lss (.t 40) (.c (.int .i64 2)))])
  (.seq (.cond (.t 41)
  .skip
  (.exit 0))
  (.seq (.block 1 (.seq (.reg [
   m1 42 40,
   o1 43 (.idx (.t 39) (.t 40) 2 2 true),
   o1 11 (.alloc [.int .i64 0,.int .i64 0] 27),
   m1 10 42,
   ⟨none,.st (.t 11) (.t 43) 2,none,[]⟩])
   (.seq (.reg [
   m1 44 10,
   o1 45 (.ixa (.t 6) (.t 44) 2 1),
   o1 46 (.ld (.t 45) 1 false),
   m1 12 46])
   (.seq (.block 2 (.seq (.regd [0,1,2,3,4,5,6,7] [
    .op (m1 48 12),
    .op ⟨some 49,.nilc (.t 48),none,[0]⟩,
    .op ⟨some 50,.addo (.t 49) 1,none,[1]⟩,
    .op ⟨some 51,.ld (.t 50) 1 false,none,[2]⟩,
    .op (o1 52 (.addo (.t 11) 0)),
    .op ⟨some 53,.ld (.t 52) 1 false,none,[4]⟩,
    .op ⟨some 54,.bin .lss (.t 51) (.t 53),none,[3,5]⟩,
    .op ⟨some 47,.mv (.t 54),none,[6]⟩] 0 0 [
])
 (.cond (.t 47)
 (.seq (.reg [
  o1 55 (.build zv1 []),
  ⟨none,.st (.t 4) (.t 55) 24,none,[]⟩,
  o1 5 (.mv (.c (.int .u8 2)))])
  .ret)
 (.seq (.regd [0,1,2,3,4,5,6,7] [
  .op (m1 57 12),
  .op ⟨some 58,.nilc (.t 57),none,[0]⟩,
  .op ⟨some 59,.addo (.t 58) 0,none,[1]⟩,
  .op ⟨some 60,.ld (.t 59) 1 false,none,[2]⟩,
  .op (o1 61 (.addo (.t 11) 1)),
  .op ⟨some 62,.ld (.t 61) 1 false,none,[4]⟩,
  .op ⟨some 63,.bin .lss (.t 60) (.t 62),none,[3,5]⟩,
  .op ⟨some 56,.mv (.t 63),none,[6]⟩] 0 0 [
])
 (.cond (.t 56)
 (.reg [
  o1 9 (.mv (.c (.int .u8 1)))])
 .skip)))))
 (.seq (.regd [0,1,2,3,4,5,6,7,8,9,10,11,12,13,14,15,16,17,18,19,20,21,22] [
 .op (m1 64 12),
 .op ⟨some 65,.nilc (.t 64),none,[0]⟩,
 .op ⟨some 66,.addo (.t 65) 0,none,[1]⟩,
 .op ⟨some 67,.ld (.t 66) 1 false,none,[2]⟩,
 .op (o1 68 (.addo (.t 11) 1)),
 .op ⟨some 69,.ld (.t 68) 1 false,none,[4]⟩,
 .op ⟨some 70,.bin .sub (.t 67) (.t 69),none,[3,5]⟩,
 .op ⟨some 71,.mm true [.c (.int .i64 0),.t 70],none,[6]⟩,
 .op (m1 72 12),
 .op ⟨some 73,.nilc (.t 72),none,[8]⟩,
 .op ⟨some 74,.addo (.t 73) 1,none,[9]⟩,
 .op ⟨some 75,.ld (.t 74) 1 false,none,[10]⟩,
 .op (o1 76 (.addo (.t 11) 0)),
 .op ⟨some 77,.ld (.t 76) 1 false,none,[12]⟩,
 .op ⟨some 78,.bin .sub (.t 75) (.t 77),none,[11,13]⟩,
 .op ⟨some 79,.build [.int .i64 0,.int .i64 0] [(0,1,.t 71),(1,1,.t 78)],none,[7,14]⟩,
 .op (m1 80 10),
 .op ⟨some 81,.ixa (.t 8) (.t 80) 2 2,none,[16]⟩,
 .op ⟨some 82,.ld (.t 81) 2 true,none,[17]⟩,
 .op ⟨some 83,.bsl 2 27 [.t 79,.t 82],none,[15,18]⟩,
 .op ⟨some 84,.call 127 [.t 83],none,[19]⟩] 1 1 [
 o1 13 (.alloc [.int .i64 0,.int .i64 0] 27),
 ⟨none,.st (.t 13) (.t 84) 2,none,[0,1,2,3,4,5,6,7,8,9,10,11,12,13,14,15,16,17,18,19,20,21]⟩])
 (.regd [0,1,2,3,4,5,6,7,8,9,10,11,12,13,14,15] [
 .op (m1 85 12),
 .op (m1 86 10),
 .op ⟨some 87,.ixa (.t 7) (.t 86) 2 1,none,[1]⟩,
 .op ⟨some 88,.ld (.t 87) 1 false,none,[2]⟩,
 .op (o1 89 (.addo (.t 13) 0)),
 .op ⟨some 90,.ld (.t 89) 1 false,none,[4]⟩,
 .op ⟨some 91,.mm false [.t 88,.t 90],none,[3,5]⟩,
 .op (m1 92 10),
 .op ⟨some 93,.ixa (.t 7) (.t 92) 2 1,none,[7]⟩,
 .op ⟨some 94,.ld (.t 93) 1 false,none,[8]⟩,
 .op (o1 95 (.addo (.t 13) 1)),
 .op ⟨some 96,.ld (.t 95) 1 false,none,[10]⟩,
 .op ⟨some 97,.mm false [.t 94,.t 96],none,[9,11]⟩,
 .op ⟨some 98,.build [.int .i64 0,.int .i64 0] [(0,1,.t 91),(1,1,.t 97)],none,[6,12]⟩,
 .op ⟨some 99,.nilc (.t 85),none,[0,1,2,3,4,5,6,7,8,9,10,11,12,13]⟩] 0 1 [
 ⟨none,.st (.t 99) (.t 98) 2,none,[0,1,2,3,4,5,6,7,8,9,10,11,12,13,14]⟩]))))))
 (.reg [
 o1 100 (.bin .add (.t 40) (.c (.int .i64 1))),
 m1 40 100])))))))
 (.seq (.reg [
 o1 101 (.addo (.t 2) 17),
 o1 102 (.addo (.t 101) 4),
 m1 14 102])
 (.seq (.seq (.reg [
 o1 103 (.addo (.t 3) 0),
 o1 104 (.ld (.t 103) 1 false),
 o1 105 (.bin .eql (.t 104) (.c (.int .i64 0)))])
 (.cond (.t 105)
 (.seq (.regd [0,1,2,3,4,5,6,7,8,9,10,11,12,13,14,15,16,17,18,19,20,21] [
  .op (m1 106 14),
  .op (m1 107 14),
  .op ⟨some 108,.nilc (.t 107),none,[1]⟩,
  .op ⟨some 109,.addo (.t 108) 0,none,[2]⟩,
  .op ⟨some 110,.ld (.t 109) 1 false,none,[3]⟩,
  .op (o1 111 (.addo (.t 2) 0)),
  .op ⟨some 112,.addo (.t 111) 14,none,[5]⟩,
  .op ⟨some 113,.ld (.t 112) 1 false,none,[6]⟩,
  .op ⟨some 114,.bin .sub (.t 110) (.t 113),none,[4,7]⟩,
  .op ⟨some 115,.mm true [.c (.int .i64 0),.t 114],none,[8]⟩,
  .op (m1 116 14),
  .op ⟨some 117,.nilc (.t 116),none,[10]⟩,
  .op ⟨some 118,.addo (.t 117) 1,none,[11]⟩,
  .op ⟨some 119,.ld (.t 118) 1 false,none,[12]⟩,
  .op (o1 120 (.addo (.t 2) 0)),
  .op ⟨some 121,.addo (.t 120) 14,none,[14]⟩,
  .op ⟨some 122,.ld (.t 121) 1 false,none,[15]⟩,
  .op ⟨some 123,.bin .sub (.t 119) (.t 122),none,[13,16]⟩,
  .op ⟨some 124,.mm true [.c (.int .i64 0),.t 123],none,[17]⟩,
  .op ⟨some 125,.build [.int .i64 0,.int .i64 0] [(0,1,.t 115),(1,1,.t 124)],none,[9,18]⟩,
  .op ⟨some 126,.nilc (.t 106),none,[0,1,2,3,4,5,6,7,8,9,10,11,12,13,14,15,16,17,18,19]⟩] 0 1 [
  ⟨none,.st (.t 126) (.t 125) 2,none,[0,1,2,3,4,5,6,7,8,9,10,11,12,13,14,15,16,17,18,19,20]⟩])
  (.seq (.reg [
  o1 127 (.ld (.t 2) 24 true),
  m1 128 9,
  ⟨none,.st (.t 4) (.t 127) 24,none,[]⟩,
  m1 5 128])
  .ret))
 .skip))
 (.seq (.regd [0,1,2,3,4,5,6,7,8,9,10,11,12,13,14,15] [
 .op (m1 129 14),
 .op ⟨some 130,.nilc (.t 129),none,[0]⟩,
 .op ⟨some 131,.ld (.t 130) 2 true,none,[1]⟩,
 .op (o1 132 (.addo (.t 2) 0)),
 .op ⟨some 133,.addo (.t 132) 10,none,[3]⟩,
 .op ⟨some 134,.ld (.t 133) 2 true,none,[4]⟩,
 .op (o1 135 (.addo (.t 3) 0)),
 .op ⟨some 136,.ld (.t 135) 1 false,none,[6]⟩,
 .op (o1 137 (.addo (.t 3) 1)),
 .op ⟨some 138,.ld (.t 137) 1 false,none,[8]⟩,
 .op ⟨some 139,.bsl 1 3 [.t 136,.t 138],none,[7,9]⟩,
 .op ⟨some 140,.call 128 [.t 134,.c (.int .i64 1000000),.t 139],none,[5,10]⟩,
 .op ⟨some 141,.bsl 2 27 [.t 131,.t 140],none,[2,11]⟩,
 .op ⟨some 142,.call 127 [.t 141],none,[11,12]⟩] 1 1 [
 o1 15 (.alloc [.int .i64 0,.int .i64 0] 27),
 ⟨none,.st (.t 15) (.t 142) 2,none,[0,1,2,3,4,5,6,7,8,9,10,11,12,13,14]⟩])
 (.seq (.reg [
 m1 143 14,
 o1 144 (.addo (.t 15) 0),
 o1 145 (.ld (.t 144) 1 false),
 o1 146 (.mm false [.c (.int .i64 1000),.t 145]),
 o1 147 (.addo (.t 15) 1),
 o1 148 (.ld (.t 147) 1 false),
 o1 149 (.mm false [.c (.int .i64 1000),.t 148]),
 o1 150 (.build [.int .i64 0,.int .i64 0] [(0,1,.t 146),(1,1,.t 149)]),
 o1 151 (.nilc (.t 143)),
 ⟨none,.st (.t 151) (.t 150) 2,none,[]⟩])
 (.seq (.reg [
 o1 152 (.ld (.t 2) 24 true),
 m1 153 9,
 ⟨none,.st (.t 4) (.t 152) 24,none,[]⟩,
 m1 5 153])
 .ret))))))))))
def r84:List RV:=[.cell 4 24 true,.tmp 5]
theorem t84:Qt1 Tryz.prog 84 c84 r84 154:=ZT Tryz.func84 rfl (by kernel_rfl) (by kernel_rfl) (by kernel_rfl) (by kernel_rfl)
def c170:SC:=(.seq (.reg [
 o1 3 (.box (.t 0) 0 29),
 o1 4 (.box (.t 1) 0 31),
 o1 5 (.box (.t 2) 0 80),
 o1 6 (.alloc zv0 31),
 o1 7 (.mv (.c (.int .i64 0)))])
 (.seq (.reg [
 o1 14 (.ld (.t 3) 17 true),
 o1 15 (.addo (.t 4) 6),
 o1 16 (.ld (.t 15) 1 false),
 o1 17 (.ld (.t 5) 8 true),
 o1 18 (.call 175 [.t 14,.t 16,.t 17]),
 m1 13 18,
 o1 19 (.ext (.t 13) 0),
 o1 20 (.ext (.t 13) 1),
 o1 8 (.alloc [.int .i64 0,.int .i64 0] 27),
 o1 9 (.alloc [.int .i64 0,.int .i64 0] 27),
 ⟨none,.st (.t 8) (.t 19) 2,none,[]⟩,
 ⟨none,.st (.t 9) (.t 20) 2,none,[]⟩])
 (.seq (.seq (.reg [
 o1 21 (.addo (.t 4) 0),
 o1 22 (.addo (.t 21) 1),
 o1 23 (.ld (.t 22) 1 false),
 o1 24 (.addo (.t 8) 0),
 o1 25 (.ld (.t 24) 1 false),
 o1 26 (.bin .lss (.t 23) (.t 25)),
 m1 27 26,
 ⟨some 28,.addo (.t 4) 2,some (27,false),[]⟩,
 ⟨some 29,.addo (.t 28) 1,some (27,false),[]⟩,
 ⟨some 30,.ld (.t 29) 1 false,some (27,false),[]⟩,
 ⟨some 31,.addo (.t 9) 0,some (27,false),[]⟩,
 ⟨some 32,.ld (.t 31) 1 false,some (27,false),[]⟩,
 ⟨some 33,.bin .lss (.t 30) (.t 32),some (27,false),[]⟩,
 o1 34 (.pick (.t 27) (.c (.bool true)) (.t 33))])
 (.cond (.t 34)
 (.seq (.reg [
  o1 35 (.build zv0 []),
  ⟨none,.st (.t 6) (.t 35) 7,none,[]⟩,
  o1 7 (.mv (.c (.int .i64 2)))])
  .ret)
 .skip))
 (.seq (.reg [
 o1 10 (.mv (.c (.int .i64 1)))])
 (.seq (.seq (.reg [
 o1 36 (.addo (.t 4) 0),
 o1 37 (.addo (.t 36) 0),
 o1 38 (.ld (.t 37) 1 false),
 o1 39 (.addo (.t 8) 1),
 o1 40 (.ld (.t 39) 1 false),
 o1 41 (.bin .geq (.t 38) (.t 40)),
 m1 42 41,
 ⟨some 43,.addo (.t 4) 2,some (42,true),[]⟩,
 ⟨some 44,.addo (.t 43) 0,some (42,true),[]⟩,
 ⟨some 45,.ld (.t 44) 1 false,some (42,true),[]⟩,
 ⟨some 46,.addo (.t 9) 1,some (42,true),[]⟩,
 ⟨some 47,.ld (.t 46) 1 false,some (42,true),[]⟩,
 ⟨some 48,.bin .geq (.t 45) (.t 47),some (42,true),[]⟩,
 o1 49 (.pick (.t 42) (.t 48) (.c (.bool false)))])
 (.cond (.t 49)
 (.reg [
  o1 10 (.mv (.c (.int .i64 0)))])
 .skip))
 (.seq (.reg [
 o1 50 (.addo (.t 4) 6),
 o1 51 (.ld (.t 50) 1 false),
 o1 52 (.build zv0 [(6,1,.t 51)]),
 o1 11 (.alloc zv0 31),
 ⟨none,.st (.t 11) (.t 52) 7,none,[]⟩])
 (.seq (.reg [
 o1 53 (.addo (.t 3) 0),
 o1 54 (.ld (.t 53) 1 false),
 o1 55 (.addo (.t 4) 0),
 o1 56 (.addo (.t 55) 0),
 o1 57 (.ld (.t 56) 1 false),
 o1 58 (.addo (.t 8) 1),
 o1 59 (.ld (.t 58) 1 false),
 o1 60 (.bin .sub (.t 57) (.t 59)),
 o1 61 (.mm true [.c (.int .i64 0),.t 60]),
 o1 62 (.addo (.t 5) 6),
 o1 63 (.addo (.t 62) 0),
 o1 64 (.ld (.t 63) 1 false),
 o1 65 (.bin .add (.t 61) (.t 64)),
 o1 66 (.mm false [.t 54,.t 65]),
 o1 67 (.addo (.t 3) 0),
 o1 68 (.ld (.t 67) 1 false),
 o1 69 (.addo (.t 4) 0),
 o1 70 (.addo (.t 69) 1),
 o1 71 (.ld (.t 70) 1 false),
 o1 72 (.addo (.t 8) 0),
 o1 73 (.ld (.t 72) 1 false),
 o1 74 (.bin .sub (.t 71) (.t 73)),
 o1 75 (.addo (.t 5) 6),
 o1 76 (.addo (.t 75) 1),
 o1 77 (.ld (.t 76) 1 false),
 o1 78 (.bin .add (.t 74) (.t 77)),
 o1 79 (.mm false [.t 68,.t 78]),
 o1 80 (.build [.int .i64 0,.int .i64 0] [(0,1,.t 66),(1,1,.t 79)]),
 o1 81 (.addo (.t 11) 0),
 ⟨none,.st (.t 81) (.t 80) 2,none,[]⟩])
 (.seq (.reg [
 o1 82 (.addo (.t 3) 1),
 o1 83 (.ld (.t 82) 1 false),
 o1 84 (.addo (.t 4) 2),
 o1 85 (.addo (.t 84) 0),
 o1 86 (.ld (.t 85) 1 false),
 o1 87 (.addo (.t 9) 1),
 o1 88 (.ld (.t 87) 1 false),
 o1 89 (.bin .sub (.t 86) (.t 88)),
 o1 90 (.mm true [.c (.int .i64 0),.t 89]),
 o1 91 (.addo (.t 5) 4),
 o1 92 (.addo (.t 91) 0),
 o1 93 (.ld (.t 92) 1 false),
 o1 94 (.bin .add (.t 90) (.t 93)),
 o1 95 (.mm false [.t 83,.t 94]),
 o1 96 (.addo (.t 3) 1),
 o1 97 (.ld (.t 96) 1 false),
 o1 98 (.addo (.t 4) 2),
 o1 99 (.addo (.t 98) 1),
 o1 100 (.ld (.t 99) 1 false),
 o1 101 (.addo (.t 9) 0),
 o1 102 (.ld (.t 101) 1 false),
 o1 103 (.bin .sub (.t 100) (.t 102)),
 o1 104 (.addo (.t 5) 4),
 o1 105 (.addo (.t 104) 1),
 o1 106 (.ld (.t 105) 1 false),
 o1 107 (.bin .add (.t 103) (.t 106)),
 o1 108 (.mm false [.t 97,.t 107]),
 o1 109 (.build [.int .i64 0,.int .i64 0] [(0,1,.t 95),(1,1,.t 108)]),
 o1 110 (.addo (.t 11) 2),
 ⟨none,.st (.t 110) (.t 109) 2,none,[]⟩])
 (.seq (.reg [
 o1 111 (.addo (.t 5) 0),
 o1 112 (.ld (.t 111) 1 false),
 o1 113 (.addo (.t 5) 1),
 o1 114 (.ld (.t 113) 1 false),
 o1 115 (.bin .mul (.t 112) (.t 114)),
 m1 12 115])
 (.seq (.regd [0,1,2,3,4,5,6,7,8,9,10,11,12,13,14,15,16,17,18,19,20,21,22,23,24] [
 .op (o1 116 (.addo (.t 4) 4)),
 .op ⟨some 117,.addo (.t 116) 0,none,[0]⟩,
 .op ⟨some 118,.ld (.t 117) 1 false,none,[1]⟩,
 .op (o1 119 (.addo (.t 3) 10)),
 .op ⟨some 120,.addo (.t 119) 0,none,[3]⟩,
 .op ⟨some 121,.ld (.t 120) 1 false,none,[4]⟩,
 .op (m1 122 12),
 .op ⟨some 123,.bin .mul (.t 121) (.t 122),none,[5,6]⟩,
 .op ⟨some 124,.div .quo (.t 123) (.c (.int .i64 1000000)),none,[7]⟩,
 .op ⟨some 125,.bin .add (.t 118) (.t 124),none,[2,8]⟩,
 .op ⟨some 126,.mm false [.c (.int .i64 1000),.t 125],none,[9]⟩,
 .op (o1 127 (.addo (.t 4) 4)),
 .op ⟨some 128,.addo (.t 127) 1,none,[11]⟩,
 .op ⟨some 129,.ld (.t 128) 1 false,none,[12]⟩,
 .op (o1 130 (.addo (.t 3) 10)),
 .op ⟨some 131,.addo (.t 130) 1,none,[14]⟩,
 .op ⟨some 132,.ld (.t 131) 1 false,none,[15]⟩,
 .op (m1 133 12),
 .op ⟨some 134,.bin .mul (.t 132) (.t 133),none,[16,17]⟩,
 .op ⟨some 135,.call 148 [.t 134,.c (.int .i64 1000000)],none,[18]⟩,
 .op ⟨some 136,.bin .add (.t 129) (.t 135),none,[13,19]⟩,
 .op ⟨some 137,.mm false [.c (.int .i64 1000),.t 136],none,[20]⟩,
 .op ⟨some 138,.build [.int .i64 0,.int .i64 0] [(0,1,.t 126),(1,1,.t 137)],none,[10,21]⟩,
 .op ⟨some 139,.addo (.t 11) 4,none,[0,1,2,3,4,5,6,7,8,9,10,11,12,13,14,15,16,17,18,19,20,21,22]⟩] 0 1 [
 ⟨none,.st (.t 139) (.t 138) 2,none,[0,1,2,3,4,5,6,7,8,9,10,11,12,13,14,15,16,17,18,19,20,21,22,23]⟩])
 (.seq (.seq (.reg [
 o1 140 (.addo (.t 5) 0),
 o1 141 (.ld (.t 140) 1 false),
 o1 142 (.bin .eql (.t 141) (.c (.int .i64 0)))])
 (.cond (.t 142)
 (.reg [
  o1 143 (.addo (.t 4) 4),
  o1 144 (.addo (.t 143) 0),
  o1 145 (.ld (.t 144) 1 false),
  o1 146 (.addo (.t 3) 14),
  o1 147 (.ld (.t 146) 1 false),
  o1 148 (.bin .sub (.t 145) (.t 147)),
  o1 149 (.mm true [.c (.int .i64 0),.t 148]),
  o1 150 (.addo (.t 4) 4),
  o1 151 (.addo (.t 150) 1),
  o1 152 (.ld (.t 151) 1 false),
  o1 153 (.addo (.t 3) 14),
  o1 154 (.ld (.t 153) 1 false),
  o1 155 (.bin .sub (.t 152) (.t 154)),
  o1 156 (.mm true [.c (.int .i64 0),.t 155]),
  o1 157 (.build [.int .i64 0,.int .i64 0] [(0,1,.t 149),(1,1,.t 156)]),
  o1 158 (.addo (.t 11) 4),
  ⟨none,.st (.t 158) (.t 157) 2,none,[]⟩])
 .skip))
 (.seq (.reg [
 o1 159 (.ld (.t 11) 7 true),
 m1 160 10,
 ⟨none,.st (.t 6) (.t 159) 7,none,[]⟩,
 m1 7 160])
 .ret))))))))))))
def r170:List RV:=[.cell 6 7 true,.tmp 7]
theorem t170:Qt1 Tryz.prog 170 c170 r170 161:=ZT Tryz.func170 rfl (by kernel_rfl) (by kernel_rfl) (by kernel_rfl) (by kernel_rfl)
def c40:SC:=(.seq (.reg [
 o1 3 (.box (.t 0) 0 29),
 o1 4 (.box (.t 1) 0 31),
 o1 5 (.box (.t 2) 0 80),
 o1 6 (.alloc zv0 31),
 o1 7 (.mv (.c (.int .u8 0))),
 o1 8 (.mv (.c (.int .i64 0)))])
 (.seq (.seq (.reg [
 o1 12 (.ld (.t 3) 17 true),
 o1 13 (.ld (.t 4) 7 true),
 o1 14 (.call 54 [.t 12,.t 13]),
 m1 9 14])
 (.seq (.reg [
 m1 15 9,
 o1 16 (.bin .neq (.t 15) (.c (.int .i64 0)))])
 (.cond (.t 16)
 (.seq (.reg [
  o1 17 (.ld (.t 6) 7 true),
  m1 18 9,
  ⟨none,.st (.t 6) (.t 17) 7,none,[]⟩,
  o1 7 (.mv (.c (.int .u8 0))),
  m1 8 18])
  .ret)
 .skip)))
 (.seq (.seq (.reg [
 o1 19 (.ld (.t 5) 8 true),
 o1 20 (.bsl 8 80 [.t 19]),
 o1 21 (.call 83 [.t 20]),
 m1 10 21])
 (.seq (.reg [
 m1 22 10,
 o1 23 (.bin .neq (.t 22) (.c (.int .i64 0)))])
 (.cond (.t 23)
 (.seq (.reg [
  o1 24 (.ld (.t 6) 7 true),
  m1 25 10,
  ⟨none,.st (.t 6) (.t 24) 7,none,[]⟩,
  o1 7 (.mv (.c (.int .u8 0))),
  m1 8 25])
  .ret)
 .skip)))
 (.seq (.reg [
 o1 27 (.ld (.t 3) 17 true),
 o1 28 (.ld (.t 4) 7 true),
 o1 29 (.build zv1 [(0,17,.t 27),(17,7,.t 28)]),
 o1 30 (.ld (.t 5) 8 true),
 o1 31 (.call 84 [.t 29,.t 30]),
 m1 26 31,
 o1 32 (.ext (.t 26) 0),
 o1 33 (.ext (.t 26) 1),
 o1 11 (.alloc zv1 169),
 ⟨none,.st (.t 11) (.t 32) 24,none,[]⟩,
 m1 7 33])
 (.seq (.seq (.reg [
 m1 34 7,
 o1 35 (.bin .eql (.t 34) (.c (.int .u8 2)))])
 (.cond (.t 35)
 (.seq (.reg [
  o1 36 (.ld (.t 6) 7 true),
  ⟨none,.st (.t 6) (.t 36) 7,none,[]⟩,
  o1 7 (.mv (.c (.int .u8 0))),
  o1 8 (.mv (.c (.int .i64 13)))])
  .ret)
 .skip))
 (.seq (.reg [
 o1 37 (.addo (.t 11) 17),
 o1 38 (.ld (.t 37) 7 true),
 m1 39 7,
 ⟨none,.st (.t 6) (.t 38) 7,none,[]⟩,
 m1 7 39,
 o1 8 (.mv (.c (.int .i64 0)))])
 .ret))))))
def r40:List RV:=[.cell 6 7 true,.tmp 7,.tmp 8]
theorem t40:Qt1 Tryz.prog 40 c40 r40 40:=ZT Tryz.func40 rfl (by kernel_rfl) (by kernel_rfl) (by kernel_rfl) (by kernel_rfl)
def c150:SC:=(.seq (.reg [
 o1 3 (.box (.t 0) 0 29),
 o1 4 (.box (.t 1) 0 31),
 o1 5 (.box (.t 2) 0 80),
 o1 6 (.alloc zv0 31),
 o1 7 (.mv (.c (.int .i64 0))),
 o1 8 (.mv (.c (.int .i64 0)))])
 (.seq (.seq (.reg [
 o1 12 (.ld (.t 3) 17 true),
 o1 13 (.ld (.t 4) 7 true),
 o1 14 (.call 95 [.t 12,.t 13]),
 m1 9 14])
 (.seq (.reg [
 m1 15 9,
 o1 16 (.bin .neq (.t 15) (.c (.int .i64 0)))])
 (.cond (.t 16)
 (.seq (.reg [
  o1 17 (.build zv0 []),
  m1 18 9,
  ⟨none,.st (.t 6) (.t 17) 7,none,[]⟩,
  o1 7 (.mv (.c (.int .i64 0))),
  m1 8 18])
  .ret)
 .skip)))
 (.seq (.seq (.reg [
 o1 19 (.ld (.t 5) 8 true),
 o1 20 (.call 169 [.t 19]),
 o1 21 (.un .not (.t 20))])
 (.cond (.t 21)
 (.seq (.reg [
  o1 22 (.build zv0 []),
  ⟨none,.st (.t 6) (.t 22) 7,none,[]⟩,
  o1 7 (.mv (.c (.int .i64 0))),
  o1 8 (.mv (.c (.int .i64 12)))])
  .ret)
 .skip))
 (.seq (.reg [
 o1 24 (.ld (.t 3) 17 true),
 o1 25 (.ld (.t 4) 7 true),
 o1 26 (.ld (.t 5) 8 true),
 o1 27 (.call 170 [.t 24,.t 25,.t 26]),
 m1 23 27,
 o1 28 (.ext (.t 23) 0),
 o1 29 (.ext (.t 23) 1),
 o1 10 (.alloc zv0 31),
 ⟨none,.st (.t 10) (.t 28) 7,none,[]⟩,
 m1 11 29])
 (.seq (.seq (.reg [
 m1 30 11,
 o1 31 (.bin .eql (.t 30) (.c (.int .i64 2)))])
 (.cond (.t 31)
 (.seq (.reg [
  o1 32 (.build zv0 []),
  ⟨none,.st (.t 6) (.t 32) 7,none,[]⟩,
  o1 7 (.mv (.c (.int .i64 0))),
  o1 8 (.mv (.c (.int .i64 13)))])
  .ret)
 .skip))
 (.seq (.reg [
 o1 33 (.ld (.t 10) 7 true),
 m1 34 11,
 ⟨none,.st (.t 6) (.t 33) 7,none,[]⟩,
 m1 7 34,
 o1 8 (.mv (.c (.int .i64 0)))])
 .ret))))))
def r150:List RV:=[.cell 6 7 true,.tmp 7,.tmp 8]
theorem t150:Qt1 Tryz.prog 150 c150 r150 35:=ZT Tryz.func150 rfl (by kernel_rfl) (by kernel_rfl) (by kernel_rfl) (by kernel_rfl)
end Go.Proofs.YtiigiflofnjilaaGreat
