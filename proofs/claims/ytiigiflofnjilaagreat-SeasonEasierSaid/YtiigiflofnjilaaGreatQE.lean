/- Walks and plain laws that lead to the given statement, part 5 of 9. -/
import Derived.Test.YtiigiflofnjilaaGreatQD
import Derived.Test.YtiigiflofnjilaaGreatProg
set_option maxRecDepth 100000
set_option maxHeartbeats 4000000
set_option linter.all false
open Nat renaming reduceAdd->rA,reduceMul->rM,reduceSub->rS,beq_refl->nbr
namespace Go.Sx
def m1 (d t:Nat):Ins:=⟨some d,.mv (.t t),none,[]⟩
def o1 (d:Nat) (i:SI):Ins:=⟨some d,i,none,[]⟩
def sr1 (l:List Ins) (c:SC):SC:=.seq (.reg l) c
def ao (x o:Nat):SI:=.addo (.t x) o
def lt (x m:Nat):SI:=.ld (.t x) m true
def lf (x m:Nat):SI:=.ld (.t x) m false
def cn (n:Int):X:=.c (.int .i64 n)
def g1 (d t:Nat) (b:Bool) (i:SI):Ins:=⟨some d,i,some (t,b),[]⟩
def p1 (d:Nat) (i:SI) (l:List Nat):Ins:=⟨some d,i,none,l⟩
def q1 (d t:Nat) (b:Bool) (i:SI) (l:List Nat):Ins:=⟨some d,i,some (t,b),l⟩
attribute [go_sem] m1 o1 sr1 ao lt lf cn g1 p1 q1
open Go
structure Qt1 (P:Program) (f:FuncId) (c:SC) (r:List RV) (N:Nat):Prop where
 h:∀ {args:List SV} {res:SV},KFL args->KF res->sx P Y0 0 c (st0 args N) (ZBw r res)->(hA:Nat.ble args.length N=true:=by rfl)->Ct P f args res
theorem Z8 {P:Program} {f:FuncId} {fn:Func} {c:SC} {r:List RV} {N:Nat} (hf:P.funcs[f]?=some fn) (hd:fn.body.isSome=true) (hb:YI P f=true) (hc:XK P c (fn.body.getD .skip)=true) (hr:Wg P r fn.results.toList=true) (hN:fn.ntmps=N):Qt1 P f c r N:=⟨fun {args res} ka kr h hA=>by
 cases hq:fn.body with
 | none=>rw [hq] at hd;cases hd
 | some code=>rw [hq] at hc;exact Zm7 hf hq hb hc hr hN (Nat.le_of_ble_eq_true hA) ka kr h⟩
def zv0:List Value:=[.slice none 0 0,.slice none 0 0,.int .i64 0,.int .i64 0,.int .i64 0,.int .i64 0,.int .i64 0,.int .i64 0,.int .i64 0,.int .i64 0,.int .i64 0,.int .i64 0,.int .i64 0,.int .i64 0,.int .i64 0,.int .i64 0,.int .i64 0,.int .i64 0,.int .i64 0,.int .i64 0,.int .i64 0,.int .i64 0,.int .i64 0,.int .i64 0,.int .i64 0,.int .i64 0,.int .i64 0,.bool false,.int .i64 0,.int .i64 0,.int .i64 0,.int .i64 0,.int .i64 0,.int .i64 0,.int .i64 0,.int .i64 0,.slice none 0 0]
def zv1:List Value:=[.slice none 0 0,.slice none 0 0,.int .i64 0,.int .i64 0,.int .i64 0,.int .i64 0,.int .i64 0,.int .i64 0,.int .i64 0,.int .i64 0,.int .i64 0,.int .i64 0,.int .i64 0,.int .i64 0,.int .i64 0,.int .i64 0,.int .i64 0,.int .i64 0,.int .i64 0,.int .i64 0,.int .i64 0,.int .i64 0,.int .i64 0,.int .i64 0,.int .i64 0,.int .i64 0,.int .i64 0,.bool false,.int .i64 0,.int .i64 0,.int .i64 0,.int .i64 0,.int .i64 0,.int .i64 0,.int .i64 0,.int .i64 0,.slice none 0 0,.int .i64 0]
def zv2:List Value:=[.int .i64 0,.int .i64 0,.int .i64 0,.int .i64 0,.int .i64 0,.int .i64 0,.int .i64 0,.int .i64 0,.int .i64 0,.int .i64 0,.int .i64 0,.int .i64 0,.int .i64 0,.int .i64 0,.int .i64 0,.int .i64 0,.int .i64 0,.int .i64 0,.int .i64 0,.int .i64 0,.int .i64 0,.int .i64 0,.int .i64 0,.bool false]
def zv3:List Value:=[.int .i64 0,.int .i64 0,.int .i64 0,.int .i64 0,.int .i64 0,.int .i64 0,.bool false]
def zv4:List Value:=[.int .i64 0,.int .i64 0,.int .i64 0,.int .i64 0,.int .i64 0,.int .i64 0,.int .i64 0,.int .i64 0,.int .i64 0]
def zv5:List Value:=[.int .i64 0,.int .i64 0,.int .i64 0,.int .i64 0,.slice none 0 0,.slice none 0 0]
def zv6:List Value:=[.int .i64 0,.int .i64 0,.int .i64 0,.int .i64 0,.slice none 0 0]
def zv7:List Value:=[.int .i64 0,.int .i64 0,.int .i64 0,.int .i64 0,.int .i64 0,.int .i64 0]
def zv8:List Value:=[.int .i64 0,.int .i64 0,.int .i64 0,.int .i64 0,.int .i64 0,.int .i64 0,.int .i64 0,.int .i64 0]
attribute [go_sem] zv0 zv1 zv2 zv3 zv4 zv5 zv6 zv7 zv8
end Go.Sx
namespace Go.Proofs.YtiigiflofnjilaaGreat
open Go Go.Sx
def c12:SC:=(sr1 [
 o1 1 (.box (.t 0) 0 34),
 o1 2 (.mv (.c (.bool false)))]
 (.seq (sr1 [
 o1 4 (ao 1 0),
 o1 5 (lt 4 2),
 o1 6 (.call 46 [.t 5]),
 m1 7 6,
 g1 8 7 false (ao 1 36),
 g1 9 7 false (lf 8 1),
 g1 10 7 false (.len (.t 9)),
 g1 11 7 false (.bin .gtr (.t 10) (cn 8)),
 o1 12 (.pick (.t 7) (.c (.bool true)) (.t 11))]
 (.cond (.t 12)
 (sr1 [
  o1 2 (.mv (.c (.bool true)))]
  .ret)
 .skip))
 (.seq (sr1 [
 o1 3 (.mv (cn 0))]
 (.block 0 (.loop (.seq (sr1 [
  m1 13 3,
  o1 14 (ao 1 36),
  o1 15 (lf 14 1),
  o1 16 (.len (.t 15)),
  o1 17 (.bin .lss (.t 13) (.t 16))]
  (.cond (.t 17)
  .skip
  (.exit 0)))
  (.seq (.block 1 (sr1 [
   o1 20 (ao 1 36),
   o1 21 (lf 20 1),
   m1 22 3,
   o1 23 (.ixs (.t 21) (.t 22) 6),
   o1 24 (ao 23 4),
   o1 25 (lf 24 1),
   o1 26 (.len (.t 25)),
   o1 27 (.bin .gtr (.t 26) (cn 20)),
   m1 28 27,
   g1 29 28 false (ao 1 36),
   g1 30 28 false (lf 29 1),
   g1 31 28 false (.mv (.t 3)),
   g1 32 28 false (.ixs (.t 30) (.t 31) 6),
   g1 33 28 false (ao 32 5),
   g1 34 28 false (lf 33 1),
   g1 35 28 false (.len (.t 34)),
   g1 36 28 false (.bin .gtr (.t 35) (cn 20)),
   o1 37 (.pick (.t 28) (.c (.bool true)) (.t 36))]
   (.cond (.t 37)
   (sr1 [
    o1 2 (.mv (.c (.bool true)))]
    .ret)
   .skip)))
  (.reg [
  m1 18 3,
  o1 19 (.bin .add (.t 18) (cn 1)),
  m1 3 19]))))))
 (sr1 [
 o1 2 (.mv (.c (.bool false)))]
 .ret))))
def r12:List RV:=[.tmp 2]
theorem t12:Qt1 Tryz.prog 12 c12 r12 38:=Z8 Tryz.func12 rfl (by kernel_rfl) (by kernel_rfl) (by kernel_rfl) (by kernel_rfl)
def c16:SC:=(sr1 [
 o1 1 (.box (.t 0) 0 34),
 o1 2 (.mv (cn 0))]
 (sr1 [
 o1 9 (ao 1 0),
 o1 10 (ao 9 0),
 o1 11 (lf 10 1),
 o1 12 (.len (.t 11)),
 m1 3 12]
 (sr1 [
 o1 14 (ao 1 0),
 o1 15 (lt 14 2),
 o1 16 (ao 1 33),
 o1 17 (lf 16 1),
 o1 18 (ao 1 34),
 o1 19 (lf 18 1),
 o1 20 (ao 1 2),
 o1 21 (lt 20 2),
 o1 22 (.call 52 [.t 15,.t 17,.t 19,.t 21]),
 m1 13 22,
 o1 23 (.ext (.t 13) 0),
 o1 24 (.ext (.t 13) 1),
 m1 4 23,
 m1 5 24]
 (sr1 [
 o1 25 (ao 1 28),
 o1 26 (lf 25 1),
 o1 27 (.bsl 1 3 [.t 26]),
 o1 28 (.call 53 [.c (.int .i64 1),.c (.int .i64 30),.t 27]),
 m1 29 28,
 g1 30 29 true (ao 1 29),
 g1 31 29 true (lf 30 1),
 g1 32 29 true (.bsl 1 3 [.t 31]),
 g1 33 29 true (.call 53 [.c (.int .i64 1),.c (.int .i64 24),.t 32]),
 o1 34 (.pick (.t 29) (.t 33) (.c (.bool false))),
 m1 35 34,
 g1 36 35 true (ao 1 30),
 g1 37 35 true (lf 36 1),
 g1 38 35 true (.bsl 1 3 [.t 37]),
 g1 39 35 true (.call 53 [.c (.int .i64 1),.c (.int .i64 1000000),.t 38]),
 o1 40 (.pick (.t 35) (.t 39) (.c (.bool false))),
 m1 41 40,
 g1 42 41 true (ao 1 31),
 g1 43 41 true (lf 42 1),
 g1 44 41 true (ao 1 32),
 g1 45 41 true (lf 44 1),
 g1 46 41 true (.bsl 1 3 [.t 43,.t 45]),
 g1 47 41 true (.call 53 [.c (.int .i64 0),.c (.int .i64 1000000),.t 46]),
 o1 48 (.pick (.t 41) (.t 47) (.c (.bool false))),
 m1 49 48,
 g1 50 49 true (ao 1 35),
 g1 51 49 true (lf 50 1),
 g1 52 49 true (ao 1 34),
 g1 53 49 true (lf 52 1),
 g1 54 49 true (.bsl 1 3 [.t 53]),
 g1 55 49 true (.call 53 [.c (.int .i64 0),.t 51,.t 54]),
 o1 56 (.pick (.t 49) (.t 55) (.c (.bool false))),
 m1 57 56,
 g1 58 57 true (ao 1 35),
 g1 59 57 true (lf 58 1),
 g1 60 57 true (.bin .leq (.t 59) (cn 100000)),
 o1 61 (.pick (.t 57) (.t 60) (.c (.bool false))),
 m1 6 61]
 (.seq (sr1 [
 m1 62 5,
 o1 63 (.bin .neq (.t 62) (cn 0)),
 m1 64 63,
 g1 65 64 false (ao 1 4),
 g1 66 64 false (lt 65 17),
 g1 67 64 false (ao 1 21),
 g1 68 64 false (lt 67 7),
 g1 69 64 false (.call 54 [.t 66,.t 68]),
 g1 70 64 false (.bin .neq (.t 69) (cn 0)),
 o1 71 (.pick (.t 64) (.c (.bool true)) (.t 70)),
 m1 72 71,
 g1 73 72 false (.mv (.t 6)),
 g1 74 72 false (.un .not (.t 73)),
 o1 75 (.pick (.t 72) (.c (.bool true)) (.t 74)),
 m1 76 75,
 g1 77 76 false (ao 1 36),
 g1 78 76 false (lf 77 1),
 g1 79 76 false (.len (.t 78)),
 g1 80 76 false (.bsl 1 3 [.t 79]),
 g1 81 76 false (.call 53 [.c (.int .i64 1),.c (.int .i64 4),.t 80]),
 g1 82 76 false (.un .not (.t 81)),
 o1 83 (.pick (.t 76) (.c (.bool true)) (.t 82))]
 (.cond (.t 83)
 (sr1 [
  o1 2 (.mv (cn 90))]
  .ret)
 .skip))
 (.seq (sr1 [
 o1 84 (ao 1 36),
 o1 85 (lf 84 1),
 o1 86 (.len (.t 85)),
 o1 87 (.mv (cn 0))]
 (.block 0 (.loop (sr1 [
  o1 88 (.bin .lss (.t 87) (.t 86))]
  (.seq (.cond (.t 88)
  .skip
  (.exit 0))
  (.seq (.block 1 (sr1 [
   o1 89 (.ixs (.t 85) (.t 87) 6),
   o1 90 (lt 89 6),
   o1 8 (.alloc zv5 72),
   ⟨none,.st (.t 8) (.t 90) 6,none,[]⟩]
   (sr1 [
   o1 91 (ao 8 0),
   o1 92 (lt 91 2),
   o1 93 (.bsl 2 27 [.t 92]),
   o1 94 (.call 55 [.c (.int .i64 0),.c (.int .i64 60),.t 93]),
   o1 95 (.un .not (.t 94)),
   m1 96 95,
   g1 97 96 false (ao 8 2),
   g1 98 96 false (lt 97 2),
   g1 99 96 false (.bsl 2 27 [.t 98]),
   g1 100 96 false (.call 55 [.c (.int .i64 0),.c (.int .i64 1000000),.t 99]),
   g1 101 96 false (.un .not (.t 100)),
   o1 102 (.pick (.t 96) (.c (.bool true)) (.t 101)),
   m1 103 102,
   g1 104 103 false (ao 8 4),
   g1 105 103 false (lf 104 1),
   g1 106 103 false (.len (.t 105)),
   g1 107 103 false (.mv (.t 3)),
   g1 108 103 false (.bin .neq (.t 106) (.t 107)),
   o1 109 (.pick (.t 103) (.c (.bool true)) (.t 108)),
   m1 110 109,
   g1 111 110 false (ao 8 4),
   g1 112 110 false (lf 111 1),
   g1 113 110 false (.call 55 [.c (.int .i64 0),.c (.int .i64 10000000),.t 112]),
   g1 114 110 false (.un .not (.t 113)),
   o1 115 (.pick (.t 110) (.c (.bool true)) (.t 114)),
   m1 116 115,
   g1 117 116 false (ao 8 5),
   g1 118 116 false (lf 117 1),
   g1 119 116 false (.len (.t 118)),
   g1 120 116 false (.mv (.t 3)),
   g1 121 116 false (.bin .neq (.t 119) (.t 120)),
   o1 122 (.pick (.t 116) (.c (.bool true)) (.t 121)),
   m1 123 122,
   g1 124 123 false (ao 8 5),
   g1 125 123 false (lf 124 1),
   g1 126 123 false (.call 53 [.c (.int .i64 0),.c (.int .i64 1000000),.t 125]),
   g1 127 123 false (.un .not (.t 126)),
   o1 128 (.pick (.t 123) (.c (.bool true)) (.t 127))]
   (.cond (.t 128)
   (sr1 [
    o1 2 (.mv (cn 90))]
    .ret)
   .skip))))
  (.reg [
  o1 129 (.bin .add (.t 87) (cn 1)),
  m1 87 129])))))))
 (sr1 [
 o1 2 (.mv (cn 0))]
 .ret)))))))
def r16:List RV:=[.tmp 2]
theorem t16:Qt1 Tryz.prog 16 c16 r16 130:=Z8 Tryz.func16 rfl (by kernel_rfl) (by kernel_rfl) (by kernel_rfl) (by kernel_rfl)
def c17:SC:=(sr1 [
 o1 1 (.box (.t 0) 0 34),
 o1 2 (.mv (cn 0))]
 (.seq (sr1 [
 o1 3 (lt 1 37),
 o1 4 (.call 50 [.t 3]),
 o1 5 (.un .not (.t 4))]
 (.cond (.t 5)
 (sr1 [
  o1 2 (.mv (cn 90))]
  .ret)
 .skip))
 (sr1 [
 o1 2 (.mv (cn 0))]
 .ret)))
def r17:List RV:=[.tmp 2]
theorem t17:Qt1 Tryz.prog 17 c17 r17 6:=Z8 Tryz.func17 rfl (by kernel_rfl) (by kernel_rfl) (by kernel_rfl) (by kernel_rfl)
def c19:SC:=(sr1 [
 o1 2 (.box (.t 0) 0 37),
 o1 3 (.box (.t 1) 0 37),
 o1 4 (.mv (.c (.bool false)))]
 (sr1 [
 o1 5 (ao 2 1),
 o1 6 (lf 5 1),
 o1 7 (ao 3 1),
 o1 8 (lf 7 1),
 o1 9 (.bin .eql (.t 6) (.t 8)),
 m1 10 9,
 g1 11 10 true (ao 2 2),
 g1 12 10 true (lf 11 1),
 g1 13 10 true (ao 3 2),
 g1 14 10 true (lf 13 1),
 g1 15 10 true (.bin .eql (.t 12) (.t 14)),
 o1 16 (.pick (.t 10) (.t 15) (.c (.bool false))),
 m1 17 16,
 g1 18 17 true (ao 2 0),
 g1 19 17 true (lf 18 1),
 g1 20 17 true (ao 3 0),
 g1 21 17 true (lf 20 1),
 g1 22 17 true (.call 57 [.t 19,.t 21]),
 o1 23 (.pick (.t 17) (.t 22) (.c (.bool false))),
 m1 4 23]
 .ret))
def r19:List RV:=[.tmp 4]
theorem t19:Qt1 Tryz.prog 19 c19 r19 24:=Z8 Tryz.func19 rfl (by kernel_rfl) (by kernel_rfl) (by kernel_rfl) (by kernel_rfl)
def c48:SC:=(sr1 [
 o1 2 (.box (.t 0) 0 34),
 o1 3 (.box (.t 1) 0 37),
 o1 4 (.mv (cn 0))]
 (.seq (sr1 [
 o1 8 (lt 2 37),
 o1 9 (.call 16 [.t 8]),
 m1 5 9]
 (sr1 [
 m1 10 5,
 o1 11 (.bin .neq (.t 10) (cn 0))]
 (.cond (.t 11)
 (sr1 [
  m1 12 5,
  m1 4 12]
  .ret)
 .skip)))
 (.seq (sr1 [
 o1 14 (lt 2 37),
 o1 15 (ao 3 0),
 o1 16 (lf 15 1),
 o1 17 (.call 58 [.t 14,.t 16]),
 m1 13 17,
 o1 18 (.ext (.t 13) 0),
 o1 19 (.ext (.t 13) 1),
 m1 6 18,
 m1 7 19]
 (sr1 [
 m1 20 7,
 o1 21 (.un .not (.t 20)),
 m1 22 21,
 g1 23 22 false (ao 2 28),
 g1 24 22 false (lf 23 1),
 g1 25 22 false (ao 3 1),
 g1 26 22 false (lf 25 1),
 g1 27 22 false (.bsl 1 3 [.t 26]),
 g1 28 22 false (.call 53 [.c (.int .i64 0),.t 24,.t 27]),
 g1 29 22 false (.un .not (.t 28)),
 o1 30 (.pick (.t 22) (.c (.bool true)) (.t 29)),
 m1 31 30,
 g1 32 31 false (ao 3 2),
 g1 33 31 false (lf 32 1),
 g1 34 31 false (.bsl 1 3 [.t 33]),
 g1 35 31 false (.call 53 [.c (.int .i64 0),.c (.int .i64 12),.t 34]),
 g1 36 31 false (.un .not (.t 35)),
 o1 37 (.pick (.t 31) (.c (.bool true)) (.t 36))]
 (.cond (.t 37)
 (sr1 [
  o1 4 (.mv (cn 91))]
  .ret)
 .skip)))
 (sr1 [
 o1 4 (.mv (cn 0))]
 .ret))))
def r48:List RV:=[.tmp 4]
theorem t48:Qt1 Tryz.prog 48 c48 r48 38:=Z8 Tryz.func48 rfl (by kernel_rfl) (by kernel_rfl) (by kernel_rfl) (by kernel_rfl)
def c50:SC:=(sr1 [
 o1 1 (.box (.t 0) 0 34),
 o1 2 (.mv (.c (.bool false)))]
 (.seq (sr1 [
 o1 6 (ao 1 0),
 o1 7 (lt 6 2),
 o1 8 (.call 93 [.t 7]),
 o1 9 (.bin .neq (.t 8) (cn 0)),
 m1 10 9,
 g1 11 10 false (ao 1 2),
 g1 12 10 false (lt 11 2),
 g1 13 10 false (.call 94 [.t 12]),
 g1 14 10 false (.un .not (.t 13)),
 o1 15 (.pick (.t 10) (.c (.bool true)) (.t 14)),
 m1 16 15,
 g1 17 16 false (ao 1 4),
 g1 18 16 false (lt 17 17),
 g1 19 16 false (ao 1 21),
 g1 20 16 false (lt 19 7),
 g1 21 16 false (.call 95 [.t 18,.t 20]),
 g1 22 16 false (.bin .neq (.t 21) (cn 0)),
 o1 23 (.pick (.t 16) (.c (.bool true)) (.t 22))]
 (.cond (.t 23)
 (sr1 [
  o1 2 (.mv (.c (.bool false)))]
  .ret)
 .skip))
 (.seq (sr1 [
 o1 24 (ao 1 28),
 o1 25 (lf 24 1),
 o1 26 (.call 61 [.t 25,.c (.int .i64 1),.c (.int .i64 30)]),
 o1 27 (.un .not (.t 26)),
 m1 28 27,
 g1 29 28 false (ao 1 29),
 g1 30 28 false (lf 29 1),
 g1 31 28 false (.call 61 [.t 30,.c (.int .i64 1),.c (.int .i64 24)]),
 g1 32 28 false (.un .not (.t 31)),
 o1 33 (.pick (.t 28) (.c (.bool true)) (.t 32)),
 m1 34 33,
 g1 35 34 false (ao 1 30),
 g1 36 34 false (lf 35 1),
 g1 37 34 false (.call 61 [.t 36,.c (.int .i64 1),.c (.int .i64 1000000)]),
 g1 38 34 false (.un .not (.t 37)),
 o1 39 (.pick (.t 34) (.c (.bool true)) (.t 38)),
 m1 40 39,
 g1 41 40 false (ao 1 31),
 g1 42 40 false (lf 41 1),
 g1 43 40 false (.call 61 [.t 42,.c (.int .i64 0),.c (.int .i64 1000000)]),
 g1 44 40 false (.un .not (.t 43)),
 o1 45 (.pick (.t 40) (.c (.bool true)) (.t 44)),
 m1 46 45,
 g1 47 46 false (ao 1 32),
 g1 48 46 false (lf 47 1),
 g1 49 46 false (.call 61 [.t 48,.c (.int .i64 0),.c (.int .i64 1000000)]),
 g1 50 46 false (.un .not (.t 49)),
 o1 51 (.pick (.t 46) (.c (.bool true)) (.t 50))]
 (.cond (.t 51)
 (sr1 [
  o1 2 (.mv (.c (.bool false)))]
  .ret)
 .skip))
 (.seq (sr1 [
 o1 52 (ao 1 33),
 o1 53 (lf 52 1),
 o1 54 (ao 1 0),
 o1 55 (ao 54 0),
 o1 56 (lf 55 1),
 o1 57 (.len (.t 56)),
 o1 58 (.bin .sub (.t 57) (cn 1)),
 o1 59 (.call 61 [.t 53,.c (.int .i64 0),.t 58]),
 o1 60 (.un .not (.t 59)),
 m1 61 60,
 g1 62 61 false (ao 1 34),
 g1 63 61 false (lf 62 1),
 g1 64 61 false (ao 1 35),
 g1 65 61 false (lf 64 1),
 g1 66 61 false (.call 61 [.t 63,.c (.int .i64 0),.t 65]),
 g1 67 61 false (.un .not (.t 66)),
 o1 68 (.pick (.t 61) (.c (.bool true)) (.t 67)),
 m1 69 68,
 g1 70 69 false (ao 1 35),
 g1 71 69 false (lf 70 1),
 g1 72 69 false (.bin .gtr (.t 71) (cn 100000)),
 o1 73 (.pick (.t 69) (.c (.bool true)) (.t 72)),
 m1 74 73,
 g1 75 74 false (ao 1 36),
 g1 76 74 false (lf 75 1),
 g1 77 74 false (.len (.t 76)),
 g1 78 74 false (.call 61 [.t 77,.c (.int .i64 1),.c (.int .i64 4)]),
 g1 79 74 false (.un .not (.t 78)),
 o1 80 (.pick (.t 74) (.c (.bool true)) (.t 79))]
 (.cond (.t 80)
 (sr1 [
  o1 2 (.mv (.c (.bool false)))]
  .ret)
 .skip))
 (.seq (sr1 [
 o1 3 (.mv (cn 0))]
 (.block 0 (.loop (.seq (sr1 [
  m1 81 3,
  o1 82 (ao 1 36),
  o1 83 (lf 82 1),
  o1 84 (.len (.t 83)),
  o1 85 (.bin .lss (.t 81) (.t 84))]
  (.cond (.t 85)
  .skip
  (.exit 0)))
  (.seq (.block 1 (sr1 [
   o1 88 (ao 1 36),
   o1 89 (lf 88 1),
   m1 90 3,
   o1 91 (.ixs (.t 89) (.t 90) 6),
   o1 92 (lt 91 6),
   o1 4 (.alloc zv5 72),
   ⟨none,.st (.t 4) (.t 92) 6,none,[]⟩]
   (.seq (sr1 [
   o1 93 (ao 4 0),
   o1 94 (lt 93 2),
   o1 95 (.call 96 [.t 94,.c (.int .i64 0),.c (.int .i64 60)]),
   o1 96 (.un .not (.t 95)),
   m1 97 96,
   g1 98 97 false (ao 4 2),
   g1 99 97 false (lt 98 2),
   g1 100 97 false (.call 96 [.t 99,.c (.int .i64 0),.c (.int .i64 1000000)]),
   g1 101 97 false (.un .not (.t 100)),
   o1 102 (.pick (.t 97) (.c (.bool true)) (.t 101)),
   m1 103 102,
   g1 104 103 false (ao 4 4),
   g1 105 103 false (lf 104 1),
   g1 106 103 false (.len (.t 105)),
   g1 107 103 false (ao 1 0),
   g1 108 103 false (ao 107 0),
   g1 109 103 false (lf 108 1),
   g1 110 103 false (.len (.t 109)),
   g1 111 103 false (.bin .neq (.t 106) (.t 110)),
   o1 112 (.pick (.t 103) (.c (.bool true)) (.t 111)),
   m1 113 112,
   g1 114 113 false (ao 4 5),
   g1 115 113 false (lf 114 1),
   g1 116 113 false (.len (.t 115)),
   g1 117 113 false (ao 1 0),
   g1 118 113 false (ao 117 0),
   g1 119 113 false (lf 118 1),
   g1 120 113 false (.len (.t 119)),
   g1 121 113 false (.bin .neq (.t 116) (.t 120)),
   o1 122 (.pick (.t 113) (.c (.bool true)) (.t 121))]
   (.cond (.t 122)
   (sr1 [
    o1 2 (.mv (.c (.bool false)))]
    .ret)
   .skip))
   (sr1 [
   o1 5 (.mv (cn 0))]
   (.block 2 (.loop (.seq (sr1 [
    m1 123 5,
    o1 124 (ao 4 4),
    o1 125 (lf 124 1),
    o1 126 (.len (.t 125)),
    o1 127 (.bin .lss (.t 123) (.t 126))]
    (.cond (.t 127)
    .skip
    (.exit 2)))
    (.seq (.block 3 (sr1 [
     o1 130 (ao 4 4),
     o1 131 (lf 130 1),
     m1 132 5,
     o1 133 (.ixs (.t 131) (.t 132) 2),
     o1 134 (lt 133 2),
     o1 135 (.call 96 [.t 134,.c (.int .i64 0),.c (.int .i64 10000000)]),
     o1 136 (.un .not (.t 135)),
     m1 137 136,
     g1 138 137 false (ao 4 5),
     g1 139 137 false (lf 138 1),
     g1 140 137 false (.mv (.t 5)),
     g1 141 137 false (.ixs (.t 139) (.t 140) 1),
     g1 142 137 false (lf 141 1),
     g1 143 137 false (.call 61 [.t 142,.c (.int .i64 0),.c (.int .i64 1000000)]),
     g1 144 137 false (.un .not (.t 143)),
     o1 145 (.pick (.t 137) (.c (.bool true)) (.t 144))]
     (.cond (.t 145)
     (sr1 [
      o1 2 (.mv (.c (.bool false)))]
      .ret)
     .skip)))
    (.reg [
    m1 128 5,
    o1 129 (.bin .add (.t 128) (cn 1)),
    m1 5 129])))))))))
  (.reg [
  m1 86 3,
  o1 87 (.bin .add (.t 86) (cn 1)),
  m1 3 87]))))))
 (sr1 [
 o1 2 (.mv (.c (.bool true)))]
 .ret))))))
def r50:List RV:=[.tmp 2]
theorem t50:Qt1 Tryz.prog 50 c50 r50 146:=Z8 Tryz.func50 rfl (by kernel_rfl) (by kernel_rfl) (by kernel_rfl) (by kernel_rfl)
def c53:SC:=(sr1 [
 o1 3 (.box (.t 0) 0 3),
 o1 4 (.box (.t 1) 0 3),
 o1 6 (.mv (.c (.bool false)))]
 (sr1 [
 m1 7 2,
 o1 8 (.mkf 99 [.t 3,.t 4]),
 o1 9 (.call 98 [.t 7,.t 8]),
 o1 10 (.un .not (.t 9)),
 m1 6 10]
 .ret))
def r53:List RV:=[.tmp 6]
theorem t53:Qt1 Tryz.prog 53 c53 r53 11:=Z8 Tryz.func53 rfl (by kernel_rfl) (by kernel_rfl) (by kernel_rfl) (by kernel_rfl)
def c55:SC:=(sr1 [
 o1 3 (.box (.t 0) 0 3),
 o1 4 (.box (.t 1) 0 3),
 o1 6 (.mv (.c (.bool false)))]
 (sr1 [
 m1 7 2,
 o1 8 (.mkf 103 [.t 3,.t 4]),
 o1 9 (.call 102 [.t 7,.t 8]),
 o1 10 (.un .not (.t 9)),
 m1 6 10]
 .ret))
def r55:List RV:=[.tmp 6]
theorem t55:Qt1 Tryz.prog 55 c55 r55 11:=Z8 Tryz.func55 rfl (by kernel_rfl) (by kernel_rfl) (by kernel_rfl) (by kernel_rfl)
def c58:SC:=(sr1 [
 o1 2 (.box (.t 0) 0 34),
 o1 4 (.mv (cn 0)),
 o1 5 (.mv (.c (.bool false)))]
 (sr1 [
 o1 10 (.raw (Go.Op.makeMap 189 Option.none) 189),
 o1 11 (ao 2 33),
 o1 12 (lf 11 1),
 ⟨none,.raw (Go.Op.insert 189 (Go.Operand.tmp 10) (Go.Operand.tmp 12) (Go.Operand.const (Go.Value.bool Bool.true))) 0,none,[]⟩,
 m1 13 10,
 m1 6 13]
 (sr1 [
 o1 14 (ao 2 33),
 o1 15 (lf 14 1),
 m1 4 15]
 (.seq (sr1 [
 m1 16 1,
 o1 17 (.len (.t 16)),
 o1 18 (.mv (cn 0))]
 (.block 0 (.loop (sr1 [
  o1 19 (.bin .lss (.t 18) (.t 17))]
  (.seq (.cond (.t 19)
  .skip
  (.exit 0))
  (.seq (.block 1 (sr1 [
   o1 20 (.ixs (.t 16) (.t 18) 1),
   o1 21 (lf 20 1),
   m1 8 21]
   (.seq (sr1 [
   o1 22 (ao 2 0),
   o1 23 (ao 22 1),
   o1 24 (lf 23 1),
   o1 25 (.len (.t 24)),
   o1 26 (.bin .sub (.t 25) (cn 1)),
   m1 27 8,
   o1 28 (.bsl 1 3 [.t 27]),
   o1 29 (.call 53 [.c (.int .i64 0),.t 26,.t 28]),
   o1 30 (.un .not (.t 29))]
   (.cond (.t 30)
   (sr1 [
    o1 4 (.mv (cn 0)),
    o1 5 (.mv (.c (.bool false)))]
    .ret)
   .skip))
   (sr1 [
   o1 31 (ao 2 0),
   o1 32 (ao 31 1),
   o1 33 (lf 32 1),
   m1 34 8,
   o1 35 (.ixs (.t 33) (.t 34) 5),
   o1 36 (lt 35 5),
   o1 9 (.alloc zv6 83),
   ⟨none,.st (.t 9) (.t 36) 5,none,[]⟩]
   (.seq (sr1 [
   m1 37 4,
   o1 38 (ao 9 0),
   o1 39 (lf 38 1),
   o1 40 (.bin .neq (.t 37) (.t 39)),
   m1 41 40,
   g1 42 41 true (.mv (.t 4)),
   g1 43 41 true (ao 9 1),
   g1 44 41 true (lf 43 1),
   g1 45 41 true (.bin .neq (.t 42) (.t 44)),
   o1 46 (.pick (.t 41) (.t 45) (.c (.bool false)))]
   (.cond (.t 46)
   (sr1 [
    o1 4 (.mv (cn 0)),
    o1 5 (.mv (.c (.bool false)))]
    .ret)
   .skip))
   (sr1 [
   o1 47 (ao 9 0),
   o1 48 (lf 47 1),
   o1 49 (ao 9 1),
   o1 50 (lf 49 1),
   o1 51 (.bin .add (.t 48) (.t 50)),
   m1 52 4,
   o1 53 (.bin .sub (.t 51) (.t 52)),
   m1 4 53]
   (.seq (sr1 [
   m1 54 6,
   m1 55 4,
   o1 56 (.raw (Go.Op.lookup 189 (Go.Operand.tmp 54) (Go.Operand.tmp 55) Bool.false) 4)]
   (.cond (.t 56)
   (sr1 [
    o1 4 (.mv (cn 0)),
    o1 5 (.mv (.c (.bool false)))]
    .ret)
   .skip))
   (.reg [
   m1 57 6,
   m1 58 4,
   ⟨none,.raw (Go.Op.mapUpdate 189 (Go.Operand.tmp 57) (Go.Operand.tmp 58) (Go.Operand.const (Go.Value.bool Bool.true))) 0,none,[]⟩]))))))))
  (.reg [
  o1 59 (.bin .add (.t 18) (cn 1)),
  m1 18 59])))))))
 (sr1 [
 m1 60 4,
 m1 4 60,
 o1 5 (.mv (.c (.bool true)))]
 .ret)))))
def r58:List RV:=[.tmp 4,.tmp 5]
theorem t58:Qt1 Tryz.prog 58 c58 r58 61:=Z8 Tryz.func58 rfl (by kernel_rfl) (by kernel_rfl) (by kernel_rfl) (by kernel_rfl)
def c61:SC:=(sr1 [
 o1 6 (.mv (.c (.bool false)))]
 (sr1 [
 m1 7 0,
 m1 8 1,
 o1 9 (.bin .geq (.t 7) (.t 8)),
 m1 10 9,
 g1 11 10 true (.mv (.t 0)),
 g1 12 10 true (.mv (.t 2)),
 g1 13 10 true (.bin .leq (.t 11) (.t 12)),
 o1 14 (.pick (.t 10) (.t 13) (.c (.bool false))),
 m1 6 14]
 .ret))
def r61:List RV:=[.tmp 6]
theorem t61:Qt1 Tryz.prog 61 c61 r61 15:=Z8 Tryz.func61 rfl (by kernel_rfl) (by kernel_rfl) (by kernel_rfl) (by kernel_rfl)
def c87:SC:=(sr1 [
 o1 2 (.box (.t 0) 0 34),
 o1 4 (.mv (cn 0))]
 (sr1 [
 o1 9 (ao 2 0),
 o1 10 (ao 9 0),
 o1 11 (lf 10 1),
 o1 12 (.len (.t 11)),
 o1 13 (.mks 1 1 [.bool false] 4 (.t 12)),
 m1 5 13]
 (sr1 [
 o1 14 (ao 2 33),
 o1 15 (lf 14 1),
 m1 6 15]
 (sr1 [
 m1 16 5,
 m1 17 6,
 o1 18 (.ixs (.t 16) (.t 17) 1),
 ⟨none,.st (.t 18) (.c (.bool true)) 1,none,[]⟩]
 (.seq (sr1 [
 o1 7 (.mv (cn 0))]
 (.block 0 (.loop (.seq (sr1 [
  m1 19 7,
  m1 20 1,
  o1 21 (.len (.t 20)),
  o1 22 (.bin .lss (.t 19) (.t 21))]
  (.cond (.t 22)
  .skip
  (.exit 0)))
  (.seq (.block 1 (.seq (.seq (.regd [0,1,2,3,4,5,6,7,8,9,10] [
   .op (m1 25 1),
   .op (m1 26 7),
   .op (p1 27 (.ixs (.t 25) (.t 26) 1) [0,1]),
   .op (p1 28 (lf 27 1) [2]),
   .op (o1 29 (ao 2 0)),
   .op (p1 30 (ao 29 1) [4]),
   .op (p1 31 (lf 30 1) [5]),
   .op (p1 32 (.len (.t 31)) [6]),
   .op (p1 33 (.bin .sub (.t 32) (cn 1)) [7]),
   .op (p1 34 (.call 61 [.t 28,.c (.int .i64 0),.t 33]) [3,8]),
   .op (p1 35 (.un .not (.t 34)) [9])] 0 0 [
])
 (.cond (.t 35)
 (sr1 [
  o1 4 (.mv (.c (.int .i64 (-1))))]
  .ret)
 .skip))
 (.seq (.regd [0,1,2,3,4,5,6,7,8,9,10] [
 .op (o1 36 (ao 2 0)),
 .op (p1 37 (ao 36 1) [0]),
 .op (p1 38 (lf 37 1) [1]),
 .op (m1 39 1),
 .op (m1 40 7),
 .op (p1 41 (.ixs (.t 39) (.t 40) 1) [3,4]),
 .op (p1 42 (lf 41 1) [5]),
 .op (p1 43 (.ixs (.t 38) (.t 42) 5) [2,6]),
 .op (p1 44 (lt 43 5) [7])] 1 1 [
 o1 8 (.alloc zv6 83),
 ⟨none,.st (.t 8) (.t 44) 5,none,[0,1,2,3,4,5,6,7,8,9]⟩])
 (.seq (sr1 [
 m1 45 6]
 (.block 2 (sr1 [
  o1 47 (ao 8 0),
  o1 48 (lf 47 1),
  o1 49 (.bin .eql (.t 45) (.t 48)),
  m1 46 49]
  (.cond (.t 46)
  (.reg [
   o1 50 (ao 8 1),
   o1 51 (lf 50 1),
   m1 6 51])
  (sr1 [
   o1 53 (ao 8 1),
   o1 54 (lf 53 1),
   o1 55 (.bin .eql (.t 45) (.t 54)),
   m1 52 55]
   (.cond (.t 52)
   (.reg [
    o1 56 (ao 8 0),
    o1 57 (lf 56 1),
    m1 6 57])
   (sr1 [
    o1 4 (.mv (.c (.int .i64 (-1))))]
    .ret)))))))
 (.seq (sr1 [
 m1 58 5,
 m1 59 6,
 o1 60 (.ixs (.t 58) (.t 59) 1),
 o1 61 (lf 60 1)]
 (.cond (.t 61)
 (sr1 [
  o1 4 (.mv (.c (.int .i64 (-1))))]
  .ret)
 .skip))
 (.reg [
 m1 62 5,
 m1 63 6,
 o1 64 (.ixs (.t 62) (.t 63) 1),
 ⟨none,.st (.t 64) (.c (.bool true)) 1,none,[]⟩]))))))
 (.reg [
 m1 23 7,
 o1 24 (.bin .add (.t 23) (cn 1)),
 m1 7 24]))))))
 (sr1 [
 m1 65 6,
 m1 4 65]
 .ret))))))
def r87:List RV:=[.tmp 4]
theorem t87:Qt1 Tryz.prog 87 c87 r87 66:=Z8 Tryz.func87 rfl (by kernel_rfl) (by kernel_rfl) (by kernel_rfl) (by kernel_rfl)
def c96:SC:=(sr1 [
 o1 3 (.box (.t 0) 0 27),
 o1 6 (.mv (.c (.bool false)))]
 (sr1 [
 o1 7 (ao 3 0),
 o1 8 (lf 7 1),
 m1 9 1,
 o1 10 (ao 3 1),
 o1 11 (lf 10 1),
 o1 12 (.call 61 [.t 8,.t 9,.t 11]),
 m1 13 12,
 g1 14 13 true (ao 3 1),
 g1 15 13 true (lf 14 1),
 g1 16 13 true (.mv (.t 2)),
 g1 17 13 true (.bin .leq (.t 15) (.t 16)),
 o1 18 (.pick (.t 13) (.t 17) (.c (.bool false))),
 m1 6 18]
 .ret))
def r96:List RV:=[.tmp 6]
theorem t96:Qt1 Tryz.prog 96 c96 r96 19:=Z8 Tryz.func96 rfl (by kernel_rfl) (by kernel_rfl) (by kernel_rfl) (by kernel_rfl)
def c99:SC:=(sr1 [
 o1 4 (.mv (.c (.bool false)))]
 (sr1 [
 m1 5 0,
 o1 6 (lf 1 1),
 o1 7 (.bin .lss (.t 5) (.t 6)),
 m1 8 7,
 g1 9 8 false (.mv (.t 0)),
 g1 10 8 false (lf 2 1),
 g1 11 8 false (.bin .gtr (.t 9) (.t 10)),
 o1 12 (.pick (.t 8) (.c (.bool true)) (.t 11)),
 m1 4 12]
 .ret))
def r99:List RV:=[.tmp 4]
theorem t99:Qt1 Tryz.prog 99 c99 r99 13:=Z8 Tryz.func99 rfl (by kernel_rfl) (by kernel_rfl) (by kernel_rfl) (by kernel_rfl)
def c103:SC:=(sr1 [
 o1 3 (.box (.t 0) 0 27),
 o1 4 (.mv (.c (.bool false)))]
 (sr1 [
 o1 5 (ao 3 0),
 o1 6 (lf 5 1),
 o1 7 (ao 3 1),
 o1 8 (lf 7 1),
 o1 9 (.bin .gtr (.t 6) (.t 8)),
 m1 10 9,
 g1 11 10 false (lf 1 1),
 g1 12 10 false (lf 2 1),
 g1 13 10 false (ao 3 0),
 g1 14 10 false (lf 13 1),
 g1 15 10 false (ao 3 1),
 g1 16 10 false (lf 15 1),
 g1 17 10 false (.bsl 1 3 [.t 14,.t 16]),
 g1 18 10 false (.call 53 [.t 11,.t 12,.t 17]),
 g1 19 10 false (.un .not (.t 18)),
 o1 20 (.pick (.t 10) (.c (.bool true)) (.t 19)),
 m1 4 20]
 .ret))
def r103:List RV:=[.tmp 4]
theorem t103:Qt1 Tryz.prog 103 c103 r103 21:=Z8 Tryz.func103 rfl (by kernel_rfl) (by kernel_rfl) (by kernel_rfl) (by kernel_rfl)
def c44:SC:=(sr1 [
 o1 2 (.box (.t 0) 0 34),
 o1 3 (.box (.t 1) 0 37),
 o1 4 (.mv (.c (.bool false)))]
 (sr1 [
 o1 5 (lt 2 37),
 o1 6 (ao 3 0),
 o1 7 (lf 6 1),
 o1 8 (.call 87 [.t 5,.t 7]),
 o1 9 (.bin .geq (.t 8) (cn 0)),
 m1 10 9,
 g1 11 10 true (ao 3 1),
 g1 12 10 true (lf 11 1),
 g1 13 10 true (ao 2 28),
 g1 14 10 true (lf 13 1),
 g1 15 10 true (.call 61 [.t 12,.c (.int .i64 0),.t 14]),
 o1 16 (.pick (.t 10) (.t 15) (.c (.bool false))),
 m1 17 16,
 g1 18 17 true (ao 3 2),
 g1 19 17 true (lf 18 1),
 g1 20 17 true (.call 61 [.t 19,.c (.int .i64 0),.c (.int .i64 12)]),
 o1 21 (.pick (.t 17) (.t 20) (.c (.bool false))),
 m1 4 21]
 .ret))
def r44:List RV:=[.tmp 4]
theorem t44:Qt1 Tryz.prog 44 c44 r44 22:=Z8 Tryz.func44 rfl (by kernel_rfl) (by kernel_rfl) (by kernel_rfl) (by kernel_rfl)
def c91:SC:=(sr1 [
 m1 6 0,
 o1 7 (.un .not (.t 6))]
 (.cond (.t 7)
 (.reg [
  m1 8 1,
  m1 9 2,
  o1 10 (.build [.int .u8 0,.int .i64 0] [(0,1,.t 8),(1,1,.t 9)]),
  o1 11 (.raw (Go.Op.makeInterface 117 (Go.Operand.tmp 10)) 20),
  ⟨none,.raw (Go.Op.panic (Go.Operand.tmp 11)) 0,none,[]⟩])
 .skip))
def r91:List RV:=[]
theorem n91:Tryz.f91.ntmps=12:=by kernel_rfl
theorem b91:YI Tryz.prog 91=true:=by kernel_rfl
theorem ZAj:XK Tryz.prog c91 ((Tryz.f91.body).getD .skip)=true:=by kernel_rfl
theorem ZzB:Wg Tryz.prog r91 Tryz.f91.results.toList=true:=by kernel_rfl
theorem m91 {n0:Nat} {hp0:List (Nat × HB)} {args:List SV} {Z6:Ot->Prop} (hh:hpb n0 hp0) (hx:∀ o,Z6 o->KX o.res/\KXP o.hp) (h:sx Tryz.prog Y0 n0 c91 ⟨We 0 args,hp0,n0,12,[]⟩ (Zct r91 fun o=>∃ o',Z6 o'/\ZdV n0 o o')) (hA:Nat.ble args.length 12=true:=by rfl):CtM Tryz.prog 91 hp0 n0 args Z6:=YU Tryz.func91 rfl b91 ZAj ZzB n91 (Nat.le_of_ble_eq_true hA) hh hx h
def c92:SC:=(sr1 [
 o1 4 (.box (.t 0) 0 120),
 o1 5 (.box (.t 1) 0 90),
 o1 6 (.box (.t 2) 0 3),
 o1 8 (.mv (.c (.slice none 0 0)))]
 (.seq (sr1 [
 o1 17 (lf 5 1),
 o1 18 (.len (.t 17)),
 o1 19 (.bin .eql (.t 18) (cn 0))]
 (.cond (.t 19)
 (sr1 [
  o1 21 (ao 4 0),
  o1 22 (ao 21 4),
  o1 23 (lt 22 17),
  o1 24 (ao 4 0),
  o1 25 (ao 24 21),
  o1 26 (lt 25 7),
  o1 27 (.call 37 [.t 23,.t 26]),
  m1 20 27,
  o1 28 (.ext (.t 20) 0),
  o1 29 (.ext (.t 20) 1),
  o1 9 (.alloc [.int .i64 0,.int .i64 0] 27),
  ⟨none,.st (.t 9) (.t 28) 2,none,[]⟩,
  m1 10 29]
  (sr1 [
  o1 30 (lf 6 1),
  o1 31 (.bin .eql (.t 30) (cn 0)),
  m1 32 31,
  g1 33 32 false (.mv (.t 3)),
  g1 34 32 false (ao 4 0),
  g1 35 32 false (ao 34 30),
  g1 36 32 false (lf 35 1),
  g1 37 32 false (.bin .mul (.t 33) (.t 36)),
  g1 38 32 false (ao 9 0),
  g1 39 32 false (lf 38 1),
  g1 40 32 false (.bin .leq (.t 37) (.t 39)),
  o1 41 (.pick (.t 32) (.c (.bool true)) (.t 40)),
  o1 42 (.callm 91 [.t 41,.c (.int .u8 2),.c (.int .i64 0)])]
  (sr1 [
  o1 8 (.mv (.c (.slice none 0 0)))]
  .ret)))
 .skip))
 (sr1 [
 o1 11 (.alloc [.slice none 0 0] 54)]
 (.seq (sr1 [
 o1 43 (lf 6 1),
 o1 44 (.bin .eql (.t 43) (cn 0))]
 (.cond (.t 44)
 (.seq (sr1 [
  o1 45 (lf 5 1),
  o1 46 (lf 5 1),
  o1 47 (.len (.t 46)),
  o1 48 (.bin .sub (.t 47) (cn 1)),
  o1 49 (.sub 6 (.t 45) none (some (.t 48))),
  o1 50 (.len (.t 49)),
  o1 51 (.mv (cn 0))]
  (.block 0 (.loop (sr1 [
   o1 52 (.bin .lss (.t 51) (.t 50))]
   (.seq (.cond (.t 52)
   .skip
   (.exit 0))
   (.seq (.block 1 (sr1 [
    o1 53 (.ixs (.t 49) (.t 51) 6),
    o1 54 (lt 53 6),
    o1 13 (.alloc zv7 94),
    ⟨none,.st (.t 13) (.t 54) 6,none,[]⟩]
    (.reg [
    o1 55 (lf 11 1),
    o1 56 (ao 13 1),
    o1 57 (lf 56 1),
    o1 58 (ao 13 4),
    o1 59 (ao 58 0),
    o1 60 (lf 59 1),
    o1 61 (.build [.int .i64 0,.int .i64 0,.int .i64 0] [(0,1,.t 57),(1,1,.t 60)]),
    o1 62 (.bsl 3 111 [.t 61]),
    o1 63 (.appm 3 24 111 (.t 55) (.t 62)),
    ⟨none,.st (.t 11) (.t 63) 1,none,[]⟩])))
   (.reg [
   o1 64 (.bin .add (.t 51) (cn 1)),
   m1 51 64])))))))
  (sr1 [
  o1 65 (lf 11 1),
  m1 8 65]
  .ret))
 .skip))
 (.seq (sr1 [
 o1 66 (lt 4 38),
 o1 67 (lf 5 1),
 m1 68 3,
 o1 69 (.callm 135 [.t 66,.t 67,.t 68])]
 (.block 2 (.gh (.rfun (.t 69) [70,71] (sr1 [
  m1 14 70]
  (.reg [
  o1 15 (.alloc zv3 31),
  ⟨none,.st (.t 15) (.t 71) 7,none,[]⟩]))
  (.block 3 (.seq (sr1 [
   m1 72 14,
   o1 73 (.bin .add (.t 72) (cn 1)),
   o1 74 (lf 5 1),
   o1 75 (.len (.t 74)),
   o1 76 (.bin .eql (.t 73) (.t 75))]
   (.cond (.t 76)
   (.exit 2)
   .skip))
   (.seq (.regd [0,1,2,3,4,5,6,7,8,9,10,11,12,13,14,15,16,17,18,19,20,21,22,23] [
   .op (o1 77 (lf 5 1)),
   .op (m1 78 14),
   .op (p1 79 (.ixs (.t 77) (.t 78) 6) [0,1]),
   .op (p1 80 (ao 79 1) [2]),
   .op (p1 81 (lf 80 1) [3]),
   .op (o1 82 (lf 5 1)),
   .op (m1 83 14),
   .op (p1 84 (.ixs (.t 82) (.t 83) 6) [5,6]),
   .op (p1 85 (ao 84 4) [7]),
   .op (p1 86 (ao 85 0) [8]),
   .op (p1 87 (lf 86 1) [9]),
   .op (o1 88 (lf 6 1)),
   .op (o1 89 (ao 4 0)),
   .op (p1 90 (ao 89 4) [12]),
   .op (p1 91 (ao 90 0) [13]),
   .op (p1 92 (lf 91 1) [14]),
   .op (o1 93 (ao 15 0)),
   .op (p1 94 (ao 93 0) [16]),
   .op (p1 95 (lf 94 1) [17]),
   .op (p1 96 (.bin .sub (.t 92) (.t 95)) [15,18]),
   .op (p1 97 (.bin .mul (.t 88) (.t 96)) [11,19]),
   .op (p1 98 (.build [.int .i64 0,.int .i64 0,.int .i64 0] [(0,1,.t 81),(1,1,.t 87),(2,1,.t 97)]) [4,10,20])] 1 1 [
   o1 16 (.alloc [.int .i64 0,.int .i64 0,.int .i64 0] 111),
   ⟨none,.st (.t 16) (.t 98) 3,none,[0,1,2,3,4,5,6,7,8,9,10,11,12,13,14,15,16,17,18,19,20,21,22]⟩])
   (.seq (.regd [0,1,2,3,4,5,6,7,8,9,10] [
   .op (o1 99 (ao 16 2)),
   .op (p1 100 (lf 99 1) [0]),
   .op (o1 101 (lt 4 38)),
   .op (o1 102 (lf 5 1)),
   .op (m1 103 14),
   .op (p1 104 (.ixs (.t 102) (.t 103) 6) [3,4]),
   .op (p1 105 (lt 104 6) [5]),
   .op (p1 106 (.call 113 [.t 101,.t 105]) [2,6]),
   .op (p1 107 (.bin .leq (.t 100) (.t 106)) [1,7]),
   .op (m1 108 14)] 0 0 [
   ⟨some 109,.callm 91 [.t 107,.c (.int .u8 4),.t 108],none,[7,8,9]⟩])
   (.reg [
   o1 110 (lf 11 1),
   o1 111 (lt 16 3),
   o1 112 (.bsl 3 111 [.t 111]),
   o1 113 (.appm 3 24 111 (.t 110) (.t 112)),
   ⟨none,.st (.t 11) (.t 113) 1,none,[]⟩])))))))))
 (sr1 [
 o1 114 (lf 11 1),
 m1 8 114]
 .ret))))))
def r92:List RV:=[.tmp 8]
theorem n92:Tryz.f92.ntmps=115:=by kernel_rfl
theorem b92:YI Tryz.prog 92=true:=by kernel_rfl
theorem ZAN:XK Tryz.prog c92 ((Tryz.f92.body).getD .skip)=true:=by kernel_rfl
theorem ZAm:Wg Tryz.prog r92 Tryz.f92.results.toList=true:=by kernel_rfl
theorem m92 {n0:Nat} {hp0:List (Nat × HB)} {args:List SV} {Z6:Ot->Prop} (hh:hpb n0 hp0) (hx:∀ o,Z6 o->KX o.res/\KXP o.hp) (h:sx Tryz.prog Y0 n0 c92 ⟨We 0 args,hp0,n0,115,[]⟩ (Zct r92 fun o=>∃ o',Z6 o'/\ZdV n0 o o')) (hA:Nat.ble args.length 115=true:=by rfl):CtM Tryz.prog 92 hp0 n0 args Z6:=YU Tryz.func92 rfl b92 ZAN ZAm n92 (Nat.le_of_ble_eq_true hA) hh hx h
def c135:SC:=(sr1 [
 o1 3 (.box (.t 0) 0 120),
 o1 4 (.box (.t 1) 0 90),
 o1 5 (.box (.t 2) 0 3),
 o1 6 (.mv (.c (.nilFunc)))]
 (sr1 [
 o1 7 (.mkf 163 [.t 3,.t 4,.t 5]),
 m1 6 7]
 .ret))
def r135:List RV:=[.tmp 6]
theorem n135:Tryz.f135.ntmps=8:=by kernel_rfl
theorem b135:YI Tryz.prog 135=true:=by kernel_rfl
theorem Zuq:XK Tryz.prog c135 ((Tryz.f135.body).getD .skip)=true:=by kernel_rfl
theorem ZtV:Wg Tryz.prog r135 Tryz.f135.results.toList=true:=by kernel_rfl
theorem m135 {n0:Nat} {hp0:List (Nat × HB)} {args:List SV} {Z6:Ot->Prop} (hh:hpb n0 hp0) (hx:∀ o,Z6 o->KX o.res/\KXP o.hp) (h:sx Tryz.prog Y0 n0 c135 ⟨We 0 args,hp0,n0,8,[]⟩ (Zct r135 fun o=>∃ o',Z6 o'/\ZdV n0 o o')) (hA:Nat.ble args.length 8=true:=by rfl):CtM Tryz.prog 135 hp0 n0 args Z6:=YU Tryz.func135 rfl b135 Zuq ZtV n135 (Nat.le_of_ble_eq_true hA) hh hx h
def c156:SC:=(sr1 [
 o1 1 (.box (.t 0) 0 120),
 o1 2 (.alloc zv5 72)]
 (sr1 [
 o1 3 (ao 1 0),
 o1 4 (ao 3 36),
 o1 5 (lf 4 1),
 o1 6 (ao 1 37),
 o1 7 (lf 6 1),
 o1 8 (.ixs (.t 5) (.t 7) 6),
 o1 9 (lt 8 6),
 ⟨none,.st (.t 2) (.t 9) 6,none,[]⟩]
 .ret))
def r156:List RV:=[.cell 2 6 true]
theorem t156:Qt1 Tryz.prog 156 c156 r156 10:=Z8 Tryz.func156 rfl (by kernel_rfl) (by kernel_rfl) (by kernel_rfl) (by kernel_rfl)
def c163:SC:=(sr1 [
 o1 10 (ao 1 0),
 o1 11 (ao 10 21),
 o1 12 (lt 11 7),
 o1 5 (.alloc zv3 31),
 ⟨none,.st (.t 5) (.t 12) 7,none,[]⟩]
 (sr1 [
 o1 13 (lf 2 1),
 o1 14 (.len (.t 13)),
 o1 15 (.mv (cn 0))]
 (.block 0 (.loop (sr1 [
  o1 16 (.bin .lss (.t 15) (.t 14))]
  (.seq (.cond (.t 16)
  .skip
  (.exit 0))
  (.seq (.block 1 (sr1 [
   m1 17 15,
   o1 18 (.ixs (.t 13) (.t 15) 6),
   o1 19 (lt 18 6),
   o1 7 (.alloc zv7 94),
   m1 6 17,
   ⟨none,.st (.t 7) (.t 19) 6,none,[]⟩]
   (sr1 [
   o1 21 (ao 1 0),
   o1 22 (ao 21 0),
   o1 23 (lt 22 2),
   o1 24 (ao 7 0),
   o1 25 (lf 24 1),
   o1 26 (ao 1 0),
   o1 27 (ao 26 2),
   o1 28 (lt 27 2),
   o1 29 (.call 39 [.t 23,.t 25,.t 28]),
   m1 20 29,
   o1 30 (.ext (.t 20) 0),
   o1 31 (.ext (.t 20) 1),
   o1 8 (.alloc [.int .i64 0,.int .i64 0] 27),
   ⟨none,.st (.t 8) (.t 30) 2,none,[]⟩,
   m1 9 31]
   (.seq (sr1 [
   o1 32 (lt 1 38),
   m1 33 6,
   o1 34 (lt 5 7),
   o1 35 (lt 8 2),
   o1 36 (lf 3 1),
   o1 37 (.callm 164 [.t 32,.t 33,.t 34,.t 35,.t 36]),
   ⟨none,.st (.t 5) (.t 37) 7,none,[]⟩]
   (sr1 [
   m1 38 0,
   m1 39 6,
   o1 40 (lt 5 7),
   o1 41 (.calvm (.t 38) [.t 39,.t 40]),
   o1 42 (.un .not (.t 41))]
   (.cond (.t 42)
   .ret
   .skip)))
   (.reg [
   o1 43 (ao 1 0),
   o1 44 (ao 43 4),
   o1 45 (ao 44 0),
   o1 46 (lf 45 1),
   o1 47 (ao 1 0),
   o1 48 (ao 47 4),
   o1 49 (ao 48 0),
   o1 50 (lf 49 1),
   o1 51 (.build [.int .i64 0,.int .i64 0] [(0,1,.t 46),(1,1,.t 50)]),
   o1 52 (ao 5 0),
   ⟨none,.st (.t 52) (.t 51) 2,none,[]⟩])))))
  (.reg [
  o1 53 (.bin .add (.t 15) (cn 1)),
  m1 15 53]))))))))
def r163:List RV:=[]
theorem n163:Tryz.f163.ntmps=54:=by kernel_rfl
theorem b163:YI Tryz.prog 163=true:=by kernel_rfl
theorem ZwP:XK Tryz.prog c163 ((Tryz.f163.body).getD .skip)=true:=by kernel_rfl
theorem Zxv:Wg Tryz.prog r163 Tryz.f163.results.toList=true:=by kernel_rfl
theorem y163 {Y:Hd} {n0:Nat} {hp0:List (Nat × HB)} {args:List SV} {Z6:Ot->Prop} (h:sx Tryz.prog Y n0 c163 ⟨We 0 args,hp0,n0,54,[]⟩ (Zct r163 Z6)) (hA:Nat.ble args.length 54=true:=by rfl):CtY Tryz.prog Y 163 hp0 n0 args Z6:=Zca Tryz.func163 rfl ZwP Zxv n163 (Nat.le_of_ble_eq_true hA) h
def c164:SC:=(sr1 [
 o1 5 (.box (.t 0) 0 120),
 o1 7 (.box (.t 2) 0 31),
 o1 8 (.box (.t 3) 0 27),
 o1 10 (.alloc zv3 31)]
 (.seq (.regd [0,1,2,3,4,5,6,7,8,9,10,11,12,13,14,15,16] [
 .op (o1 19 (ao 5 0)),
 .op (p1 20 (ao 19 29) [0]),
 .op (p1 21 (lf 20 1) [1]),
 .op (m1 22 4),
 .op (o1 23 (ao 5 0)),
 .op (p1 24 (ao 23 30) [4]),
 .op (p1 25 (lf 24 1) [5]),
 .op (p1 26 (.bin .mul (.t 22) (.t 25)) [3,6]),
 .op (o1 27 (lt 5 38)),
 .op (p1 28 (.call 156 [.t 27]) [8]),
 .op (p1 29 (.fld (.t 28) 0 2 true) [9]),
 .op (o1 30 (lt 5 38)),
 .op (p1 31 (.call 156 [.t 30]) [9,11]),
 .op (p1 32 (.fld (.t 31) 2 2 true) [12]),
 .op (p1 33 (.build zv8 [(0,1,.t 21),(1,1,.t 26),(2,2,.t 29),(4,2,.t 32)]) [2,7,10,13])] 1 1 [
 o1 11 (.alloc zv8 80),
 ⟨none,.st (.t 11) (.t 33) 8,none,[0,1,2,3,4,5,6,7,8,9,10,11,12,13,14,15]⟩])
 (sr1 [
 o1 12 (.alloc zv3 31)]
 (.seq (sr1 [
 o1 34 (ao 8 1),
 o1 35 (lf 34 1),
 o1 36 (.mv (cn 0))]
 (.block 0 (.loop (sr1 [
  o1 37 (.bin .lss (.t 36) (.t 35))]
  (.seq (.cond (.t 37)
  .skip
  (.exit 0))
  (.seq (.block 1 (sr1 [
   m1 38 36,
   m1 13 38]
   (sr1 [
   o1 40 (ao 5 0),
   o1 41 (ao 40 4),
   o1 42 (lt 41 17),
   o1 43 (lt 7 7),
   o1 44 (.call 37 [.t 42,.t 43]),
   m1 39 44,
   o1 45 (.ext (.t 39) 0),
   o1 46 (.ext (.t 39) 1),
   o1 14 (.alloc [.int .i64 0,.int .i64 0] 27),
   ⟨none,.st (.t 14) (.t 45) 2,none,[]⟩,
   m1 15 46]
   (sr1 [
   o1 47 (ao 11 1),
   o1 48 (lf 47 1),
   o1 49 (ao 14 0),
   o1 50 (lf 49 1),
   o1 51 (.bin .leq (.t 48) (.t 50)),
   m1 52 1,
   o1 53 (.callm 91 [.t 51,.c (.int .u8 2),.t 52])]
   (sr1 [
   o1 55 (ao 5 0),
   o1 56 (ao 55 4),
   o1 57 (lt 56 17),
   o1 58 (lt 7 7),
   o1 59 (lt 11 8),
   o1 60 (.call 40 [.t 57,.t 58,.t 59]),
   m1 54 60,
   o1 61 (.ext (.t 54) 0),
   o1 62 (.ext (.t 54) 1),
   o1 63 (.ext (.t 54) 2),
   o1 16 (.alloc zv3 31),
   ⟨none,.st (.t 16) (.t 61) 7,none,[]⟩,
   m1 17 62,
   m1 18 63]
   (sr1 [
   m1 64 18,
   o1 65 (.bin .eql (.t 64) (cn 0)),
   m1 66 65,
   g1 67 66 true (.mv (.t 17)),
   g1 68 66 true (.bin .eql (.t 67) (.c (.int .u8 0))),
   o1 69 (.pick (.t 66) (.t 68) (.c (.bool false))),
   m1 70 1,
   o1 71 (.callm 91 [.t 69,.c (.int .u8 3),.t 70])]
   (sr1 [
   o1 72 (lt 16 7),
   ⟨none,.st (.t 7) (.t 72) 7,none,[]⟩]
   (.block 2 (sr1 [
    m1 74 13,
    o1 75 (.bin .add (.t 74) (cn 1)),
    o1 76 (ao 8 0),
    o1 77 (lf 76 1),
    o1 78 (.bin .eql (.t 75) (.t 77)),
    m1 73 78]
    (.cond (.t 73)
    (.reg [
     o1 79 (lt 7 7),
     ⟨none,.st (.t 12) (.t 79) 7,none,[]⟩])
    (sr1 [
     m1 81 13,
     o1 82 (.bin .add (.t 81) (cn 1)),
     o1 83 (ao 8 0),
     o1 84 (lf 83 1),
     o1 85 (.bin .gtr (.t 82) (.t 84)),
     m1 80 85]
     (.cond (.t 80)
     (.regd [0,1,2,3,4,5,6,7,8,9,10,11,12,13,14,15,16,17,18,19,20,21,22,23] [
      .op (o1 86 (ao 12 0)),
      .op (p1 87 (lt 86 2) [0]),
      .op (o1 88 (ao 7 0)),
      .op (p1 89 (lt 88 2) [2]),
      .op (p1 90 (.bsl 2 27 [.t 89]) [3]),
      .op (p1 91 (.call 172 [.t 87,.t 90]) [1,4]),
      .op (o1 92 (ao 12 2)),
      .op (p1 93 (lt 92 2) [6]),
      .op (o1 94 (ao 7 2)),
      .op (p1 95 (lt 94 2) [8]),
      .op (p1 96 (.bsl 2 27 [.t 95]) [9]),
      .op (p1 97 (.call 172 [.t 93,.t 96]) [5,7,10]),
      .op (o1 98 (ao 12 4)),
      .op (p1 99 (lt 98 2) [12]),
      .op (o1 100 (ao 7 4)),
      .op (p1 101 (lt 100 2) [14]),
      .op (p1 102 (.bsl 2 27 [.t 101]) [15]),
      .op (p1 103 (.call 172 [.t 99,.t 102]) [11,13,16]),
      .op (p1 104 (ao 12 0) [0,1,2,3,4,5,6,7,12,13])] 0 1 [
      ⟨none,.st (.t 104) (.t 91) 2,none,[0,1,2,3,4,5,6,7,12,13,17,18]⟩,
      ⟨some 105,ao 12 2,none,[0,1,2,3,4,5,6,7,8,9,10,11,12,13,18,19]⟩,
      ⟨none,.st (.t 105) (.t 97) 2,none,[0,1,2,3,4,5,6,7,8,9,10,11,12,13,18,19,20]⟩,
      ⟨some 106,ao 12 4,none,[0,1,2,3,4,5,6,7,8,9,10,11,12,13,14,15,16,17,18,19,20,21]⟩,
      ⟨none,.st (.t 106) (.t 103) 2,none,[0,1,2,3,4,5,6,7,8,9,10,11,12,13,14,15,16,17,18,19,20,21,22]⟩])
     .skip))))))))))))
  (.reg [
  o1 107 (.bin .add (.t 36) (cn 1)),
  m1 36 107])))))))
 (sr1 [
 o1 108 (lt 12 7),
 ⟨none,.st (.t 10) (.t 108) 7,none,[]⟩]
 .ret)))))
def r164:List RV:=[.cell 10 7 true]
theorem n164:Tryz.f164.ntmps=109:=by kernel_rfl
theorem b164:YI Tryz.prog 164=true:=by kernel_rfl
theorem ZuQ:XK Tryz.prog c164 ((Tryz.f164.body).getD .skip)=true:=by kernel_rfl
theorem ZuY:Wg Tryz.prog r164 Tryz.f164.results.toList=true:=by kernel_rfl
theorem m164 {n0:Nat} {hp0:List (Nat × HB)} {args:List SV} {Z6:Ot->Prop} (hh:hpb n0 hp0) (hx:∀ o,Z6 o->KX o.res/\KXP o.hp) (h:sx Tryz.prog Y0 n0 c164 ⟨We 0 args,hp0,n0,109,[]⟩ (Zct r164 fun o=>∃ o',Z6 o'/\ZdV n0 o o')) (hA:Nat.ble args.length 109=true:=by rfl):CtM Tryz.prog 164 hp0 n0 args Z6:=YU Tryz.func164 rfl b164 ZuQ ZuY n164 (Nat.le_of_ble_eq_true hA) hh hx h
def c172:SC:=(sr1 [
 o1 2 (.box (.t 0) 0 27),
 o1 4 (.alloc [.int .i64 0,.int .i64 0] 27)]
 (.seq (sr1 [
 m1 7 1,
 o1 8 (.len (.t 7)),
 o1 9 (.mv (cn 0))]
 (.block 0 (.loop (sr1 [
  o1 10 (.bin .lss (.t 9) (.t 8))]
  (.seq (.cond (.t 10)
  .skip
  (.exit 0))
  (.seq (.block 1 (sr1 [
   o1 11 (.ixs (.t 7) (.t 9) 2),
   o1 12 (lt 11 2),
   o1 6 (.alloc [.int .i64 0,.int .i64 0] 27),
   ⟨none,.st (.t 6) (.t 12) 2,none,[]⟩]
   (.reg [
   o1 13 (ao 2 0),
   o1 14 (lf 13 1),
   o1 15 (ao 6 0),
   o1 16 (lf 15 1),
   o1 17 (.mm false [.t 14,.t 16]),
   o1 18 (ao 2 1),
   o1 19 (lf 18 1),
   o1 20 (ao 6 1),
   o1 21 (lf 20 1),
   o1 22 (.mm true [.t 19,.t 21]),
   o1 23 (.build [.int .i64 0,.int .i64 0] [(0,1,.t 17),(1,1,.t 22)]),
   ⟨none,.st (.t 2) (.t 23) 2,none,[]⟩])))
  (.reg [
  o1 24 (.bin .add (.t 9) (cn 1)),
  m1 9 24])))))))
 (sr1 [
 o1 25 (lt 2 2),
 ⟨none,.st (.t 4) (.t 25) 2,none,[]⟩]
 .ret)))
def r172:List RV:=[.cell 4 2 true]
theorem t172:Qt1 Tryz.prog 172 c172 r172 26:=Z8 Tryz.func172 rfl (by kernel_rfl) (by kernel_rfl) (by kernel_rfl) (by kernel_rfl)
def c90:SC:=(sr1 [
 o1 2 (.box (.t 0) 0 34),
 o1 4 (.mv (.c (.slice none 0 0))),
 o1 5 (.mv (.c (.bool false)))]
 (sr1 [
 o1 10 (ao 2 0),
 o1 11 (lt 10 2),
 o1 12 (ao 2 33),
 o1 13 (lf 12 1),
 o1 14 (ao 2 34),
 o1 15 (lf 14 1),
 o1 16 (ao 2 2),
 o1 17 (lt 16 2),
 m1 18 1,
 o1 19 (.call 36 [.t 11,.t 13,.t 15,.t 17,.t 18]),
 m1 9 19,
 o1 20 (.ext (.t 9) 0),
 o1 21 (.ext (.t 9) 1),
 o1 22 (.ext (.t 9) 2),
 m1 6 20,
 m1 7 21,
 m1 8 22]
 (.seq (.regd [0,1,2,3,4,5,6,7,8,9,10,11,12,13,14,15,16,17,18,19,20,21,22] [
 .op (m1 23 6),
 .op (m1 24 8),
 .op (p1 25 (.bin .eql (.t 24) (cn 0)) [1]),
 .op (p1 26 (.mv (.t 25)) [2]),
 .op (q1 27 26 true (.mv (.t 6)) [3]),
 .op (q1 28 26 true (.len (.t 27)) [3,4]),
 .op (q1 29 26 true (.bin .eql (.t 28) (cn 0)) [3,5]),
 .op (q1 30 26 true (.mv (.t 29)) [3,6]),
 .op (q1 31 30 false (.mv (.t 6)) [7]),
 .op (q1 32 30 false (.mv (.t 6)) [7]),
 .op (q1 33 30 false (.len (.t 32)) [7,9]),
 .op (q1 34 30 false (.bin .sub (.t 33) (cn 1)) [7,10]),
 .op (q1 35 30 false (.ixs (.t 31) (.t 34) 6) [7,8,11]),
 .op (q1 36 30 false (ao 35 4) [7,12]),
 .op (q1 37 30 false (ao 36 1) [7,13]),
 .op (q1 38 30 false (lf 37 1) [7,14]),
 .op (q1 39 30 false (ao 2 35) [7]),
 .op (q1 40 30 false (lf 39 1) [7,16]),
 .op (q1 41 30 false (.bin .leq (.t 38) (.t 40)) [7,15,17]),
 .op (q1 42 26 true (.pick (.t 30) (.c (.bool true)) (.t 41)) [3,7,18]),
 .op (p1 43 (.pick (.t 26) (.t 42) (.c (.bool false))) [3,19]),
 .op (p1 4 (.mv (.t 23)) [0,7]),
 .op (p1 5 (.mv (.t 43)) [0,1,2,3,4,5,6,7,8,9,10,11,12,13,14,15,16,17,18,19,20,21])] 0 0 [
])
 .ret)))
def r90:List RV:=[.tmp 4,.tmp 5]
theorem t90:Qt1 Tryz.prog 90 c90 r90 44:=Z8 Tryz.func90 rfl (by kernel_rfl) (by kernel_rfl) (by kernel_rfl) (by kernel_rfl)
def c49:FB:=(.seq (.reg [
 o1 2 (.box (.t 0) 0 120),
 o1 3 (.box (.t 1) 0 37),
 o1 4 (.alloc [.slice none 0 0] 54),
 o1 5 (.alloc [.int .u8 0,.int .i64 0] 117)])
 (.rcv [
 o1 8 (.mkf 89 [.t 4,.t 5])] (.t 8)
 (.tail (.seq (.reg [
 o1 10 (.addo (.t 2) 0),
 o1 11 (.ld (.t 10) 37 true),
 o1 12 (.addo (.t 3) 0),
 o1 13 (.ld (.t 12) 1 false),
 o1 14 (.call 90 [.t 11,.t 13]),
 m1 9 14,
 o1 15 (.ext (.t 9) 0),
 o1 16 (.ext (.t 9) 1),
 m1 6 15,
 m1 7 16])
 (.seq (.reg [
 m1 17 7,
 o1 18 (.callm 91 [.t 17,.c (.int .u8 1),.c (.int .i64 0)])])
 (.seq (.reg [
 o1 19 (.ld (.t 2) 38 true),
 m1 20 6,
 o1 21 (.addo (.t 3) 1),
 o1 22 (.ld (.t 21) 1 false),
 o1 23 (.addo (.t 3) 2),
 o1 24 (.ld (.t 23) 1 false),
 o1 25 (.callm 92 [.t 19,.t 20,.t 22,.t 24]),
 o1 26 (.build [.int .u8 0,.int .i64 0] []),
 ⟨none,.st (.t 4) (.t 25) 1,none,[]⟩,
 ⟨none,.st (.t 5) (.t 26) 2,none,[]⟩])
 .ret))))))
def r49:List RV:=[.cell 4 1 false,.cell 5 2 true]
theorem n49:Tryz.f49.ntmps=27:=by kernel_rfl
theorem b49:YI Tryz.prog 49=true:=by kernel_rfl
theorem Zy3:ZaS Tryz.prog c49 ((Tryz.f49.body).getD .skip)=true:=by kernel_rfl
theorem ZyV:Wg Tryz.prog r49 Tryz.f49.results.toList=true:=by kernel_rfl
theorem m49 {n0:Nat} {hp0:List (Nat × HB)} {args:List SV} {Z6:Ot->Prop} (hh:hpb n0 hp0) (hx:∀ o,Z6 o->KX o.res/\KXP o.hp) (h:fx Tryz.prog n0 c49 ⟨We 0 args,hp0,n0,27,[]⟩ (Zct r49 fun o=>∃ o',Z6 o'/\ZdV n0 o o')) (hA:Nat.ble args.length 27=true:=by rfl):CtM Tryz.prog 49 hp0 n0 args Z6:=ZcM Tryz.func49 rfl b49 Zy3 ZyV n49 (Nat.le_of_ble_eq_true hA) hh hx h
def c37:SC:=(sr1 [
 o1 2 (.box (.t 0) 0 29),
 o1 3 (.box (.t 1) 0 31),
 o1 4 (.alloc [.int .i64 0,.int .i64 0] 27),
 o1 5 (.mv (cn 0))]
 (.seq (sr1 [
 o1 7 (lt 2 17),
 o1 8 (lt 3 7),
 o1 9 (.call 54 [.t 7,.t 8]),
 m1 6 9]
 (sr1 [
 m1 10 6,
 o1 11 (.bin .neq (.t 10) (cn 0))]
 (.cond (.t 11)
 (sr1 [
  o1 12 (.build [.int .i64 0,.int .i64 0] []),
  m1 13 6,
  ⟨none,.st (.t 4) (.t 12) 2,none,[]⟩,
  m1 5 13]
  .ret)
 .skip)))
 (sr1 [
 o1 14 (lt 2 17),
 o1 15 (lt 3 7),
 o1 16 (.build zv2 [(0,17,.t 14),(17,7,.t 15)]),
 o1 17 (.call 81 [.t 16]),
 ⟨none,.st (.t 4) (.t 17) 2,none,[]⟩,
 o1 5 (.mv (cn 0))]
 .ret)))
def r37:List RV:=[.cell 4 2 true,.tmp 5]
theorem t37:Qt1 Tryz.prog 37 c37 r37 18:=Z8 Tryz.func37 rfl (by kernel_rfl) (by kernel_rfl) (by kernel_rfl) (by kernel_rfl)
def c100:SC:=(sr1 [
 o1 1 (.box (.t 0) 0 29),
 o1 2 (.mv (cn 0))]
 (.seq (sr1 [
 o1 3 (ao 1 0),
 o1 4 (lf 3 1),
 o1 5 (ao 1 1),
 o1 6 (lf 5 1),
 o1 7 (.bsl 1 3 [.t 4,.t 6]),
 o1 8 (.call 125 [.c (.int .i64 1),.c (.int .i64 1000000),.t 7]),
 o1 9 (.un .not (.t 8)),
 m1 10 9,
 g1 11 10 false (ao 1 2),
 g1 12 10 false (lt 11 2),
 g1 13 10 false (ao 1 4),
 g1 14 10 false (lt 13 2),
 g1 15 10 false (ao 1 6),
 g1 16 10 false (lt 15 2),
 g1 17 10 false (ao 1 8),
 g1 18 10 false (lt 17 2),
 g1 19 10 false (ao 1 10),
 g1 20 10 false (lt 19 2),
 g1 21 10 false (ao 1 12),
 g1 22 10 false (lt 21 2),
 g1 23 10 false (.bsl 2 27 [.t 12,.t 14,.t 16,.t 18,.t 20,.t 22]),
 g1 24 10 false (.call 101 [.c (.int .i64 0),.c (.int .i64 100000),.t 23]),
 g1 25 10 false (.un .not (.t 24)),
 o1 26 (.pick (.t 10) (.c (.bool true)) (.t 25)),
 m1 27 26,
 g1 28 27 false (ao 1 15),
 g1 29 27 false (lt 28 2),
 g1 30 27 false (.bsl 2 27 [.t 29]),
 g1 31 27 false (.call 101 [.c (.int .i64 0),.c (.int .i64 1000000),.t 30]),
 g1 32 27 false (.un .not (.t 31)),
 o1 33 (.pick (.t 27) (.c (.bool true)) (.t 32)),
 m1 34 33,
 g1 35 34 false (ao 1 14),
 g1 36 34 false (lf 35 1),
 g1 37 34 false (.bsl 1 3 [.t 36]),
 g1 38 34 false (.call 125 [.c (.int .i64 0),.c (.int .i64 1000),.t 37]),
 g1 39 34 false (.un .not (.t 38)),
 o1 40 (.pick (.t 34) (.c (.bool true)) (.t 39))]
 (.cond (.t 40)
 (sr1 [
  o1 2 (.mv (cn 10))]
  .ret)
 .skip))
 (sr1 [
 o1 2 (.mv (cn 0))]
 .ret)))
def r100:List RV:=[.tmp 2]
theorem t100:Qt1 Tryz.prog 100 c100 r100 41:=Z8 Tryz.func100 rfl (by kernel_rfl) (by kernel_rfl) (by kernel_rfl) (by kernel_rfl)
def c54:SC:=(sr1 [
 o1 2 (.box (.t 0) 0 29),
 o1 3 (.box (.t 1) 0 31),
 o1 4 (.mv (cn 0))]
 (.seq (sr1 [
 o1 6 (lt 2 17),
 o1 7 (.call 100 [.t 6]),
 m1 5 7]
 (sr1 [
 m1 8 5,
 o1 9 (.bin .neq (.t 8) (cn 0))]
 (.cond (.t 9)
 (sr1 [
  m1 10 5,
  m1 4 10]
  .ret)
 .skip)))
 (.seq (sr1 [
 o1 11 (ao 2 0),
 o1 12 (lf 11 1),
 o1 13 (ao 3 0),
 o1 14 (lt 13 2),
 o1 15 (.bsl 2 27 [.t 14]),
 o1 16 (.call 101 [.c (.int .i64 0),.t 12,.t 15]),
 o1 17 (.un .not (.t 16)),
 m1 18 17,
 g1 19 18 false (ao 2 1),
 g1 20 18 false (lf 19 1),
 g1 21 18 false (ao 3 2),
 g1 22 18 false (lt 21 2),
 g1 23 18 false (.bsl 2 27 [.t 22]),
 g1 24 18 false (.call 101 [.c (.int .i64 0),.t 20,.t 23]),
 g1 25 18 false (.un .not (.t 24)),
 o1 26 (.pick (.t 18) (.c (.bool true)) (.t 25)),
 m1 27 26,
 g1 28 27 false (ao 3 4),
 g1 29 27 false (lt 28 2),
 g1 30 27 false (.bsl 2 27 [.t 29]),
 g1 31 27 false (.call 101 [.c (.int .i64 0),.c (.int .i64 1000),.t 30]),
 g1 32 27 false (.un .not (.t 31)),
 o1 33 (.pick (.t 27) (.c (.bool true)) (.t 32))]
 (.cond (.t 33)
 (sr1 [
  o1 4 (.mv (cn 11))]
  .ret)
 .skip))
 (sr1 [
 o1 4 (.mv (cn 0))]
 .ret))))
def r54:List RV:=[.tmp 4]
theorem t54:Qt1 Tryz.prog 54 c54 r54 34:=Z8 Tryz.func54 rfl (by kernel_rfl) (by kernel_rfl) (by kernel_rfl) (by kernel_rfl)
def c95:SC:=(sr1 [
 o1 2 (.box (.t 0) 0 29),
 o1 3 (.box (.t 1) 0 31),
 o1 4 (.mv (cn 0))]
 (.seq (sr1 [
 o1 5 (lt 2 17),
 o1 6 (.call 138 [.t 5]),
 o1 7 (.un .not (.t 6))]
 (.cond (.t 7)
 (sr1 [
  o1 4 (.mv (cn 10))]
  .ret)
 .skip))
 (.seq (sr1 [
 o1 8 (lt 2 17),
 o1 9 (lt 3 7),
 o1 10 (.call 139 [.t 8,.t 9]),
 o1 11 (.un .not (.t 10))]
 (.cond (.t 11)
 (sr1 [
  o1 4 (.mv (cn 11))]
  .ret)
 .skip))
 (sr1 [
 o1 4 (.mv (cn 0))]
 .ret))))
def r95:List RV:=[.tmp 4]
theorem t95:Qt1 Tryz.prog 95 c95 r95 12:=Z8 Tryz.func95 rfl (by kernel_rfl) (by kernel_rfl) (by kernel_rfl) (by kernel_rfl)
def c139:SC:=(sr1 [
 o1 2 (.box (.t 0) 0 29),
 o1 3 (.box (.t 1) 0 31),
 o1 4 (.mv (.c (.bool false)))]
 (sr1 [
 o1 5 (ao 3 0),
 o1 6 (lt 5 2),
 o1 7 (ao 2 0),
 o1 8 (lf 7 1),
 o1 9 (.call 166 [.t 6,.c (.int .i64 0),.t 8]),
 m1 10 9,
 g1 11 10 true (ao 3 2),
 g1 12 10 true (lt 11 2),
 g1 13 10 true (ao 2 1),
 g1 14 10 true (lf 13 1),
 g1 15 10 true (.call 166 [.t 12,.c (.int .i64 0),.t 14]),
 o1 16 (.pick (.t 10) (.t 15) (.c (.bool false))),
 m1 17 16,
 g1 18 17 true (ao 3 4),
 g1 19 17 true (lt 18 2),
 g1 20 17 true (.call 166 [.t 19,.c (.int .i64 0),.c (.int .i64 1000)]),
 o1 21 (.pick (.t 17) (.t 20) (.c (.bool false))),
 m1 4 21]
 .ret))
def r139:List RV:=[.tmp 4]
theorem t139:Qt1 Tryz.prog 139 c139 r139 22:=Z8 Tryz.func139 rfl (by kernel_rfl) (by kernel_rfl) (by kernel_rfl) (by kernel_rfl)
def c123:SC:=(sr1 [
 o1 1 (.box (.t 0) 0 169),
 o1 2 (.alloc [.int .i64 0,.int .i64 0] 27)]
 (sr1 [
 o1 6 (.build [.int .i64 0,.int .i64 0] [(0,1,.c (.int .i64 1000)),(1,1,.c (.int .i64 1000))]),
 o1 3 (.alloc [.int .i64 0,.int .i64 0] 27),
 ⟨none,.st (.t 3) (.t 6) 2,none,[]⟩]
 (.seq (.seq (.regd [0,1,2,3,4,5,6,7,8,9,10,11,12,13,14,15,16,17,18,19,20,21] [
 .op (o1 7 (ao 1 17)),
 .op (p1 8 (ao 7 0) [0]),
 .op (p1 9 (lt 8 2) [1]),
 .op (o1 10 (ao 1 0)),
 .op (p1 11 (ao 10 0) [3]),
 .op (p1 12 (lf 11 1) [4]),
 .op (o1 13 (.bsl 1 3 [.c (.int .i64 2),.c (.int .i64 1000)])),
 .op (p1 14 (.call 128 [.t 9,.t 12,.t 13]) [2,5,6]),
 .op (o1 15 (ao 1 17)),
 .op (p1 16 (ao 15 2) [8]),
 .op (p1 17 (lt 16 2) [9]),
 .op (o1 18 (ao 1 0)),
 .op (p1 19 (ao 18 1) [11]),
 .op (p1 20 (lf 19 1) [12]),
 .op (o1 21 (.bsl 1 3 [.c (.int .i64 2),.c (.int .i64 1000)])),
 .op (p1 22 (.call 128 [.t 17,.t 20,.t 21]) [7,10,13,14]),
 .op (o1 23 (ao 1 17)),
 .op (p1 24 (ao 23 4) [16]),
 .op (p1 25 (lt 24 2) [17]),
 .op (p1 26 (.call 159 [.c (.int .i64 1000),.t 25]) [15,18]),
 .op (p1 27 (.build zv7 [(0,2,.t 14),(2,2,.t 22),(4,2,.t 26)]) [7,15,19]),
 .op (o1 28 (.mv (cn 0)))] 0 0 [
])
 (.block 0 (.loop (sr1 [
  o1 29 (.bin .lss (.t 28) (cn 3))]
  (.seq (.cond (.t 29)
  .skip
  (.exit 0))
  (.seq (.block 1 (sr1 [
   o1 30 (.idx (.t 27) (.t 28) 3 2 true),
   o1 5 (.alloc [.int .i64 0,.int .i64 0] 27),
   ⟨none,.st (.t 5) (.t 30) 2,none,[]⟩]
   (.reg [
   o1 31 (ao 3 0),
   o1 32 (lf 31 1),
   o1 33 (ao 5 0),
   o1 34 (lf 33 1),
   o1 35 (.mm false [.t 32,.t 34]),
   o1 36 (ao 3 1),
   o1 37 (lf 36 1),
   o1 38 (ao 5 1),
   o1 39 (lf 38 1),
   o1 40 (.mm false [.t 37,.t 39]),
   o1 41 (.build [.int .i64 0,.int .i64 0] [(0,1,.t 35),(1,1,.t 40)]),
   ⟨none,.st (.t 3) (.t 41) 2,none,[]⟩])))
  (.reg [
  o1 42 (.bin .add (.t 28) (cn 1)),
  m1 28 42])))))))
 (sr1 [
 o1 43 (lt 3 2),
 ⟨none,.st (.t 2) (.t 43) 2,none,[]⟩]
 .ret))))
def r123:List RV:=[.cell 2 2 true]
theorem t123:Qt1 Tryz.prog 123 c123 r123 44:=Z8 Tryz.func123 rfl (by kernel_rfl) (by kernel_rfl) (by kernel_rfl) (by kernel_rfl)
def c81:SC:=(sr1 [
 o1 1 (.box (.t 0) 0 169),
 o1 2 (.alloc [.int .i64 0,.int .i64 0] 27)]
 (sr1 [
 o1 4 (lt 1 24),
 o1 5 (.call 123 [.t 4]),
 o1 3 (.alloc [.int .i64 0,.int .i64 0] 27),
 ⟨none,.st (.t 3) (.t 5) 2,none,[]⟩]
 (.seq (.regd [0,1,2,3,4,5,6,7,8,9,10,11,12,13,14,15,16,17] [
 .op (o1 6 (ao 1 0)),
 .op (p1 7 (ao 6 15) [0]),
 .op (p1 8 (ao 7 0) [1]),
 .op (p1 9 (lf 8 1) [2]),
 .op (o1 10 (ao 3 0)),
 .op (p1 11 (lf 10 1) [4]),
 .op (p1 12 (.bin .mul (.t 9) (.t 11)) [3,5]),
 .op (p1 13 (.div .quo (.t 12) (cn 1000)) [6]),
 .op (o1 14 (ao 1 0)),
 .op (p1 15 (ao 14 15) [8]),
 .op (p1 16 (ao 15 1) [9]),
 .op (p1 17 (lf 16 1) [10]),
 .op (o1 18 (ao 3 1)),
 .op (p1 19 (lf 18 1) [12]),
 .op (p1 20 (.bin .mul (.t 17) (.t 19)) [11,13]),
 .op (p1 21 (.call 124 [.t 20,.c (.int .i64 1000)]) [14]),
 .op (p1 22 (.build [.int .i64 0,.int .i64 0] [(0,1,.t 13),(1,1,.t 21)]) [7,15])] 0 1 [
 ⟨none,.st (.t 2) (.t 22) 2,none,[0,1,2,3,4,5,6,7,8,9,10,11,12,13,14,15,16]⟩])
 .ret)))
def r81:List RV:=[.cell 2 2 true]
theorem t81:Qt1 Tryz.prog 81 c81 r81 23:=Z8 Tryz.func81 rfl (by kernel_rfl) (by kernel_rfl) (by kernel_rfl) (by kernel_rfl)
def c83:SC:=(sr1 [
 o1 2 (.mv (cn 0))]
 (.seq (sr1 [
 m1 5 0,
 o1 6 (.len (.t 5)),
 o1 7 (.mv (cn 0))]
 (.block 0 (.loop (sr1 [
  o1 8 (.bin .lss (.t 7) (.t 6))]
  (.seq (.cond (.t 8)
  .skip
  (.exit 0))
  (.seq (.block 1 (sr1 [
   o1 9 (.ixs (.t 5) (.t 7) 8),
   o1 10 (lt 9 8),
   o1 4 (.alloc zv8 80),
   ⟨none,.st (.t 4) (.t 10) 8,none,[]⟩]
   (sr1 [
   o1 11 (ao 4 0),
   o1 12 (lf 11 1),
   o1 13 (.bsl 1 3 [.t 12]),
   o1 14 (.call 125 [.c (.int .i64 0),.c (.int .i64 24),.t 13]),
   o1 15 (.un .not (.t 14)),
   m1 16 15,
   g1 17 16 false (ao 4 1),
   g1 18 16 false (lf 17 1),
   g1 19 16 false (.bsl 1 3 [.t 18]),
   g1 20 16 false (.call 125 [.c (.int .i64 0),.c (.int .i64 1000000),.t 19]),
   g1 21 16 false (.un .not (.t 20)),
   o1 22 (.pick (.t 16) (.c (.bool true)) (.t 21)),
   m1 23 22,
   g1 24 23 false (ao 4 2),
   g1 25 23 false (lt 24 2),
   g1 26 23 false (.bsl 2 27 [.t 25]),
   g1 27 23 false (.call 101 [.c (.int .i64 0),.c (.int .i64 60),.t 26]),
   g1 28 23 false (.un .not (.t 27)),
   o1 29 (.pick (.t 23) (.c (.bool true)) (.t 28)),
   m1 30 29,
   g1 31 30 false (ao 4 4),
   g1 32 30 false (lt 31 2),
   g1 33 30 false (ao 4 6),
   g1 34 30 false (lt 33 2),
   g1 35 30 false (.bsl 2 27 [.t 32,.t 34]),
   g1 36 30 false (.call 101 [.c (.int .i64 0),.c (.int .i64 1000000),.t 35]),
   g1 37 30 false (.un .not (.t 36)),
   o1 38 (.pick (.t 30) (.c (.bool true)) (.t 37))]
   (.cond (.t 38)
   (sr1 [
    o1 2 (.mv (cn 12))]
    .ret)
   .skip))))
  (.reg [
  o1 39 (.bin .add (.t 7) (cn 1)),
  m1 7 39])))))))
 (sr1 [
 o1 2 (.mv (cn 0))]
 .ret)))
def r83:List RV:=[.tmp 2]
theorem t83:Qt1 Tryz.prog 83 c83 r83 40:=Z8 Tryz.func83 rfl (by kernel_rfl) (by kernel_rfl) (by kernel_rfl) (by kernel_rfl)
def c126:SC:=(sr1 [
 o1 3 (.box (.t 0) 0 29),
 o1 5 (.box (.t 2) 0 80),
 o1 6 (.alloc [.int .i64 0,.int .i64 0,.int .i64 0,.int .i64 0] 217)]
 (sr1 [
 o1 10 (ao 5 2),
 o1 11 (ao 10 0),
 o1 12 (lf 11 1),
 o1 13 (.bin .sub (.t 12) (cn 20)),
 o1 14 (.mm true [.c (.int .i64 0),.t 13]),
 o1 15 (ao 5 2),
 o1 16 (ao 15 1),
 o1 17 (lf 16 1),
 o1 18 (.bin .sub (.t 17) (cn 20)),
 o1 19 (.mm true [.c (.int .i64 0),.t 18]),
 o1 20 (.build [.int .i64 0,.int .i64 0] [(0,1,.t 14),(1,1,.t 19)]),
 o1 7 (.alloc [.int .i64 0,.int .i64 0] 27),
 ⟨none,.st (.t 7) (.t 20) 2,none,[]⟩]
 (sr1 [
 o1 21 (ao 5 0),
 o1 22 (lf 21 1),
 o1 23 (ao 5 1),
 o1 24 (lf 23 1),
 o1 25 (.bin .add (cn 100000) (.t 24)),
 o1 26 (.bin .mul (.t 22) (.t 25)),
 m1 8 26]
 (.seq (.regd [0,1,2,3,4,5,6,7,8,9,10,11,12,13,14,15,16,17,18,19,20,21,22,23] [
 .op (o1 27 (ao 3 2)),
 .op (p1 28 (lt 27 2) [0]),
 .op (o1 29 (ao 3 4)),
 .op (p1 30 (ao 29 0) [2]),
 .op (p1 31 (lf 30 1) [3]),
 .op (o1 32 (ao 7 0)),
 .op (p1 33 (lf 32 1) [5]),
 .op (p1 34 (.bin .mul (.t 31) (.t 33)) [4,6]),
 .op (o1 35 (ao 3 4)),
 .op (p1 36 (ao 35 1) [8]),
 .op (p1 37 (lf 36 1) [9]),
 .op (o1 38 (ao 7 1)),
 .op (p1 39 (lf 38 1) [11]),
 .op (p1 40 (.bin .mul (.t 37) (.t 39)) [10,12]),
 .op (p1 41 (.build [.int .i64 0,.int .i64 0] [(0,1,.t 34),(1,1,.t 40)]) [7,13]),
 .op (o1 42 (ao 3 6)),
 .op (p1 43 (lt 42 2) [15]),
 .op (m1 44 8),
 .op (p1 45 (.bsl 1 3 [.t 44]) [17]),
 .op (p1 46 (.call 128 [.t 43,.c (.int .i64 100000),.t 45]) [16,18]),
 .op (p1 47 (.bsl 2 27 [.t 28,.t 41,.t 46]) [1,14,19]),
 .op (p1 48 (.call 127 [.t 47]) [19,20])] 1 1 [
 o1 9 (.alloc [.int .i64 0,.int .i64 0] 27),
 ⟨none,.st (.t 9) (.t 48) 2,none,[0,1,2,3,4,5,6,7,8,9,10,11,12,13,14,15,16,17,18,19,20,21,22]⟩])
 (.seq (sr1 [
 m1 49 1]
 (.cond (.t 49)
 (.reg [
  o1 50 (lt 9 2),
  o1 51 (ao 3 12),
  o1 52 (lt 51 2),
  o1 53 (.bsl 2 27 [.t 50,.t 52]),
  o1 54 (.call 127 [.t 53]),
  ⟨none,.st (.t 9) (.t 54) 2,none,[]⟩])
 .skip))
 (.seq (.regd [0,1,2,3,4,5,6,7] [
 .op (o1 55 (lt 9 2)),
 .op (o1 56 (ao 3 8)),
 .op (p1 57 (lt 56 2) [1]),
 .op (m1 58 8),
 .op (p1 59 (.bsl 1 3 [.t 58]) [3]),
 .op (p1 60 (.call 128 [.t 57,.c (.int .i64 100000),.t 59]) [2,4]),
 .op (p1 61 (.build [.int .i64 0,.int .i64 0,.int .i64 0,.int .i64 0] [(0,2,.t 55),(2,2,.t 60)]) [0,5])] 0 1 [
 ⟨none,.st (.t 6) (.t 61) 4,none,[0,1,2,3,4,5,6]⟩])
 .ret))))))
def r126:List RV:=[.cell 6 4 true]
theorem t126:Qt1 Tryz.prog 126 c126 r126 62:=Z8 Tryz.func126 rfl (by kernel_rfl) (by kernel_rfl) (by kernel_rfl) (by kernel_rfl)
def c138:SC:=(sr1 [
 o1 1 (.box (.t 0) 0 29),
 o1 2 (.mv (.c (.bool false)))]
 (.seq (sr1 [
 o1 3 (ao 1 0),
 o1 4 (lf 3 1),
 o1 5 (.call 165 [.t 4,.c (.int .i64 1),.c (.int .i64 1000000)]),
 o1 6 (.un .not (.t 5)),
 m1 7 6,
 g1 8 7 false (ao 1 1),
 g1 9 7 false (lf 8 1),
 g1 10 7 false (.call 165 [.t 9,.c (.int .i64 1),.c (.int .i64 1000000)]),
 g1 11 7 false (.un .not (.t 10)),
 o1 12 (.pick (.t 7) (.c (.bool true)) (.t 11)),
 m1 13 12,
 g1 14 13 false (ao 1 14),
 g1 15 13 false (lf 14 1),
 g1 16 13 false (.call 165 [.t 15,.c (.int .i64 0),.c (.int .i64 1000)]),
 g1 17 13 false (.un .not (.t 16)),
 o1 18 (.pick (.t 13) (.c (.bool true)) (.t 17)),
 m1 19 18,
 g1 20 19 false (ao 1 15),
 g1 21 19 false (lt 20 2),
 g1 22 19 false (.call 166 [.t 21,.c (.int .i64 0),.c (.int .i64 1000000)]),
 g1 23 19 false (.un .not (.t 22)),
 o1 24 (.pick (.t 19) (.c (.bool true)) (.t 23))]
 (.cond (.t 24)
 (sr1 [
  o1 2 (.mv (.c (.bool false)))]
  .ret)
 .skip))
 (sr1 [
 o1 25 (ao 1 2),
 o1 26 (lt 25 2),
 o1 27 (.call 166 [.t 26,.c (.int .i64 0),.c (.int .i64 100000)]),
 m1 28 27,
 g1 29 28 true (ao 1 4),
 g1 30 28 true (lt 29 2),
 g1 31 28 true (.call 166 [.t 30,.c (.int .i64 0),.c (.int .i64 100000)]),
 o1 32 (.pick (.t 28) (.t 31) (.c (.bool false))),
 m1 33 32,
 g1 34 33 true (ao 1 6),
 g1 35 33 true (lt 34 2),
 g1 36 33 true (.call 166 [.t 35,.c (.int .i64 0),.c (.int .i64 100000)]),
 o1 37 (.pick (.t 33) (.t 36) (.c (.bool false))),
 m1 38 37,
 g1 39 38 true (ao 1 8),
 g1 40 38 true (lt 39 2),
 g1 41 38 true (.call 166 [.t 40,.c (.int .i64 0),.c (.int .i64 100000)]),
 o1 42 (.pick (.t 38) (.t 41) (.c (.bool false))),
 m1 43 42,
 g1 44 43 true (ao 1 10),
 g1 45 43 true (lt 44 2),
 g1 46 43 true (.call 166 [.t 45,.c (.int .i64 0),.c (.int .i64 100000)]),
 o1 47 (.pick (.t 43) (.t 46) (.c (.bool false))),
 m1 48 47,
 g1 49 48 true (ao 1 12),
 g1 50 48 true (lt 49 2),
 g1 51 48 true (.call 166 [.t 50,.c (.int .i64 0),.c (.int .i64 100000)]),
 o1 52 (.pick (.t 48) (.t 51) (.c (.bool false))),
 m1 2 52]
 .ret)))
def r138:List RV:=[.tmp 2]
theorem t138:Qt1 Tryz.prog 138 c138 r138 53:=Z8 Tryz.func138 rfl (by kernel_rfl) (by kernel_rfl) (by kernel_rfl) (by kernel_rfl)
def c125:SC:=(sr1 [
 o1 3 (.box (.t 0) 0 3),
 o1 4 (.box (.t 1) 0 3),
 o1 6 (.mv (.c (.bool false)))]
 (sr1 [
 m1 7 2,
 o1 8 (.mkf 160 [.t 3,.t 4]),
 o1 9 (.call 98 [.t 7,.t 8]),
 o1 10 (.un .not (.t 9)),
 m1 6 10]
 .ret))
def r125:List RV:=[.tmp 6]
theorem t125:Qt1 Tryz.prog 125 c125 r125 11:=Z8 Tryz.func125 rfl (by kernel_rfl) (by kernel_rfl) (by kernel_rfl) (by kernel_rfl)
def c101:SC:=(sr1 [
 o1 3 (.box (.t 0) 0 3),
 o1 4 (.box (.t 1) 0 3),
 o1 6 (.mv (.c (.bool false)))]
 (sr1 [
 m1 7 2,
 o1 8 (.mkf 142 [.t 3,.t 4]),
 o1 9 (.call 102 [.t 7,.t 8]),
 o1 10 (.un .not (.t 9)),
 m1 6 10]
 .ret))
def r101:List RV:=[.tmp 6]
theorem t101:Qt1 Tryz.prog 101 c101 r101 11:=Z8 Tryz.func101 rfl (by kernel_rfl) (by kernel_rfl) (by kernel_rfl) (by kernel_rfl)
def c127:SC:=(sr1 [
 o1 2 (.alloc [.int .i64 0,.int .i64 0] 27)]
 (sr1 [
 o1 3 (.alloc [.int .i64 0,.int .i64 0] 27)]
 (.seq (sr1 [
 m1 6 0,
 o1 7 (.len (.t 6)),
 o1 8 (.mv (cn 0))]
 (.block 0 (.loop (sr1 [
  o1 9 (.bin .lss (.t 8) (.t 7))]
  (.seq (.cond (.t 9)
  .skip
  (.exit 0))
  (.seq (.block 1 (sr1 [
   o1 10 (.ixs (.t 6) (.t 8) 2),
   o1 11 (lt 10 2),
   o1 5 (.alloc [.int .i64 0,.int .i64 0] 27),
   ⟨none,.st (.t 5) (.t 11) 2,none,[]⟩]
   (.reg [
   o1 12 (ao 3 0),
   o1 13 (lf 12 1),
   o1 14 (ao 5 0),
   o1 15 (lf 14 1),
   o1 16 (.bin .add (.t 13) (.t 15)),
   o1 17 (ao 3 1),
   o1 18 (lf 17 1),
   o1 19 (ao 5 1),
   o1 20 (lf 19 1),
   o1 21 (.bin .add (.t 18) (.t 20)),
   o1 22 (.build [.int .i64 0,.int .i64 0] [(0,1,.t 16),(1,1,.t 21)]),
   ⟨none,.st (.t 3) (.t 22) 2,none,[]⟩])))
  (.reg [
  o1 23 (.bin .add (.t 8) (cn 1)),
  m1 8 23])))))))
 (sr1 [
 o1 24 (lt 3 2),
 ⟨none,.st (.t 2) (.t 24) 2,none,[]⟩]
 .ret))))
def r127:List RV:=[.cell 2 2 true]
theorem t127:Qt1 Tryz.prog 127 c127 r127 25:=Z8 Tryz.func127 rfl (by kernel_rfl) (by kernel_rfl) (by kernel_rfl) (by kernel_rfl)
def c159:SC:=(sr1 [
 o1 3 (.box (.t 1) 0 27),
 o1 4 (.alloc [.int .i64 0,.int .i64 0] 27)]
 (sr1 [
 m1 5 0,
 o1 6 (ao 3 1),
 o1 7 (lf 6 1),
 o1 8 (.bin .sub (.t 5) (.t 7)),
 m1 9 0,
 o1 10 (ao 3 0),
 o1 11 (lf 10 1),
 o1 12 (.bin .sub (.t 9) (.t 11)),
 o1 13 (.build [.int .i64 0,.int .i64 0] [(0,1,.t 8),(1,1,.t 12)]),
 ⟨none,.st (.t 4) (.t 13) 2,none,[]⟩]
 .ret))
def r159:List RV:=[.cell 4 2 true]
theorem t159:Qt1 Tryz.prog 159 c159 r159 14:=Z8 Tryz.func159 rfl (by kernel_rfl) (by kernel_rfl) (by kernel_rfl) (by kernel_rfl)
def c166:SC:=(sr1 [
 o1 3 (.box (.t 0) 0 27),
 o1 6 (.mv (.c (.bool false)))]
 (sr1 [
 o1 7 (ao 3 0),
 o1 8 (lf 7 1),
 m1 9 1,
 o1 10 (ao 3 1),
 o1 11 (lf 10 1),
 o1 12 (.call 165 [.t 8,.t 9,.t 11]),
 m1 13 12,
 g1 14 13 true (ao 3 1),
 g1 15 13 true (lf 14 1),
 g1 16 13 true (.mv (.t 2)),
 g1 17 13 true (.bin .leq (.t 15) (.t 16)),
 o1 18 (.pick (.t 13) (.t 17) (.c (.bool false))),
 m1 6 18]
 .ret))
def r166:List RV:=[.tmp 6]
theorem t166:Qt1 Tryz.prog 166 c166 r166 19:=Z8 Tryz.func166 rfl (by kernel_rfl) (by kernel_rfl) (by kernel_rfl) (by kernel_rfl)
def c165:SC:=(sr1 [
 o1 6 (.mv (.c (.bool false)))]
 (sr1 [
 m1 7 0,
 m1 8 1,
 o1 9 (.bin .geq (.t 7) (.t 8)),
 m1 10 9,
 g1 11 10 true (.mv (.t 0)),
 g1 12 10 true (.mv (.t 2)),
 g1 13 10 true (.bin .leq (.t 11) (.t 12)),
 o1 14 (.pick (.t 10) (.t 13) (.c (.bool false))),
 m1 6 14]
 .ret))
def r165:List RV:=[.tmp 6]
theorem t165:Qt1 Tryz.prog 165 c165 r165 15:=Z8 Tryz.func165 rfl (by kernel_rfl) (by kernel_rfl) (by kernel_rfl) (by kernel_rfl)
def c128:SC:=(sr1 [
 o1 3 (.box (.t 0) 0 27),
 o1 6 (.alloc [.int .i64 0,.int .i64 0] 27)]
 (.seq (sr1 [
 m1 9 2,
 o1 10 (.len (.t 9)),
 o1 11 (.mv (cn 0))]
 (.block 0 (.loop (sr1 [
  o1 12 (.bin .lss (.t 11) (.t 10))]
  (.seq (.cond (.t 12)
  .skip
  (.exit 0))
  (.seq (.block 1 (sr1 [
   o1 13 (.ixs (.t 9) (.t 11) 1),
   o1 14 (lf 13 1),
   m1 8 14]
   (.reg [
   o1 15 (ao 3 0),
   o1 16 (lf 15 1),
   m1 17 8,
   o1 18 (.bin .mul (.t 16) (.t 17)),
   o1 19 (ao 3 1),
   o1 20 (lf 19 1),
   m1 21 8,
   o1 22 (.bin .mul (.t 20) (.t 21)),
   o1 23 (ao 3 0),
   ⟨none,.st (.t 23) (.t 18) 1,none,[]⟩,
   o1 24 (ao 3 1),
   ⟨none,.st (.t 24) (.t 22) 1,none,[]⟩])))
  (.reg [
  o1 25 (.bin .add (.t 11) (cn 1)),
  m1 11 25])))))))
 (.seq (.regd [0,1,2,3,4,5,6,7,8,9] [
 .op (o1 26 (ao 3 0)),
 .op (p1 27 (lf 26 1) [0]),
 .op (m1 28 1),
 .op (p1 29 (.div .quo (.t 27) (.t 28)) [1,2]),
 .op (o1 30 (ao 3 1)),
 .op (p1 31 (lf 30 1) [4]),
 .op (m1 32 1),
 .op (p1 33 (.call 124 [.t 31,.t 32]) [5,6]),
 .op (p1 34 (.build [.int .i64 0,.int .i64 0] [(0,1,.t 29),(1,1,.t 33)]) [3,7])] 0 1 [
 ⟨none,.st (.t 6) (.t 34) 2,none,[0,1,2,3,4,5,6,7,8]⟩])
 .ret)))
def r128:List RV:=[.cell 6 2 true]
theorem t128:Qt1 Tryz.prog 128 c128 r128 35:=Z8 Tryz.func128 rfl (by kernel_rfl) (by kernel_rfl) (by kernel_rfl) (by kernel_rfl)
def c124:SC:=(sr1 [
 o1 4 (.mv (cn 0))]
 (sr1 [
 m1 5 0,
 m1 6 1,
 o1 7 (.bin .add (.t 5) (.t 6)),
 o1 8 (.bin .sub (.t 7) (cn 1)),
 m1 9 1,
 o1 10 (.div .quo (.t 8) (.t 9)),
 m1 4 10]
 .ret))
def r124:List RV:=[.tmp 4]
theorem t124:Qt1 Tryz.prog 124 c124 r124 11:=Z8 Tryz.func124 rfl (by kernel_rfl) (by kernel_rfl) (by kernel_rfl) (by kernel_rfl)
def c160:SC:=(sr1 [
 o1 4 (.mv (.c (.bool false)))]
 (sr1 [
 m1 5 0,
 o1 6 (lf 1 1),
 o1 7 (.bin .lss (.t 5) (.t 6)),
 m1 8 7,
 g1 9 8 false (.mv (.t 0)),
 g1 10 8 false (lf 2 1),
 g1 11 8 false (.bin .gtr (.t 9) (.t 10)),
 o1 12 (.pick (.t 8) (.c (.bool true)) (.t 11)),
 m1 4 12]
 .ret))
def r160:List RV:=[.tmp 4]
theorem t160:Qt1 Tryz.prog 160 c160 r160 13:=Z8 Tryz.func160 rfl (by kernel_rfl) (by kernel_rfl) (by kernel_rfl) (by kernel_rfl)
def c142:SC:=(sr1 [
 o1 3 (.box (.t 0) 0 27),
 o1 4 (.mv (.c (.bool false)))]
 (sr1 [
 o1 5 (ao 3 0),
 o1 6 (lf 5 1),
 o1 7 (ao 3 1),
 o1 8 (lf 7 1),
 o1 9 (.bin .gtr (.t 6) (.t 8)),
 m1 10 9,
 g1 11 10 false (lf 1 1),
 g1 12 10 false (lf 2 1),
 g1 13 10 false (ao 3 0),
 g1 14 10 false (lf 13 1),
 g1 15 10 false (ao 3 1),
 g1 16 10 false (lf 15 1),
 g1 17 10 false (.bsl 1 3 [.t 14,.t 16]),
 g1 18 10 false (.call 125 [.t 11,.t 12,.t 17]),
 g1 19 10 false (.un .not (.t 18)),
 o1 20 (.pick (.t 10) (.c (.bool true)) (.t 19)),
 m1 4 20]
 .ret))
def r142:List RV:=[.tmp 4]
theorem t142:Qt1 Tryz.prog 142 c142 r142 21:=Z8 Tryz.func142 rfl (by kernel_rfl) (by kernel_rfl) (by kernel_rfl) (by kernel_rfl)
def c84:SC:=(sr1 [
 o1 2 (.box (.t 0) 0 169),
 o1 3 (.box (.t 1) 0 80),
 o1 4 (.alloc zv2 169),
 o1 5 (.mv (.c (.int .u8 0)))]
 (sr1 [
 o1 16 (ao 2 17),
 o1 17 (ao 16 0),
 o1 18 (ao 2 17),
 o1 19 (ao 18 2),
 o1 20 (.build [.pointer none,.pointer none] [(0,1,.t 17),(1,1,.t 19)]),
 o1 6 (.alloc [.pointer none,.pointer none] 216),
 ⟨none,.st (.t 6) (.t 20) 2,none,[]⟩]
 (.seq (.regd [0,1,2,3,4,5,6,7,8,9,10,11,12,13,14,15] [
 .op (o1 21 (ao 2 0)),
 .op (p1 22 (ao 21 0) [0]),
 .op (p1 23 (lf 22 1) [1]),
 .op (o1 24 (ao 2 0)),
 .op (p1 25 (ao 24 1) [3]),
 .op (p1 26 (lf 25 1) [4]),
 .op (p1 27 (.build [.int .i64 0,.int .i64 0] [(0,1,.t 23),(1,1,.t 26)]) [2,5]),
 .op (o1 28 (ao 3 6)),
 .op (p1 29 (lt 28 2) [7]),
 .op (o1 30 (ao 3 4)),
 .op (p1 31 (lt 30 2) [9]),
 .op (p1 32 (.build [.int .i64 0,.int .i64 0,.int .i64 0,.int .i64 0] [(0,2,.t 29),(2,2,.t 31)]) [8,10])] 2 2 [
 o1 7 (.alloc [.int .i64 0,.int .i64 0] 164),
 o1 8 (.alloc [.int .i64 0,.int .i64 0,.int .i64 0,.int .i64 0] 217),
 ⟨none,.st (.t 7) (.t 27) 2,none,[0,1,2,3,4,5,6,12,13]⟩,
 ⟨none,.st (.t 8) (.t 32) 4,none,[0,1,2,3,4,5,6,7,8,9,10,11,12,13,14]⟩])
 (sr1 [
 o1 9 (.mv (.c (.int .u8 0)))]
 (.seq (sr1 [
 o1 33 (ao 2 0),
 o1 34 (lt 33 17),
 o1 35 (ao 2 17),
 o1 36 (ao 35 6),
 o1 37 (lf 36 1),
 o1 38 (lt 3 8),
 o1 39 (.call 126 [.t 34,.t 37,.t 38]),
 o1 40 (.mv (cn 0))]
 (.block 0 (.loop (sr1 [
  o1 41 (.bin .lss (.t 40) (cn 2))]
  (.seq (.cond (.t 41)
  .skip
  (.exit 0))
  (.seq (.block 1 (sr1 [
   m1 42 40,
   o1 43 (.idx (.t 39) (.t 40) 2 2 true),
   o1 11 (.alloc [.int .i64 0,.int .i64 0] 27),
   m1 10 42,
   ⟨none,.st (.t 11) (.t 43) 2,none,[]⟩]
   (sr1 [
   m1 44 10,
   o1 45 (.ixa (.t 6) (.t 44) 2 1),
   o1 46 (lf 45 1),
   m1 12 46]
   (.seq (.block 2 (.seq (.regd [0,1,2,3,4,5,6,7] [
    .op (m1 48 12),
    .op (p1 49 (.nilc (.t 48)) [0]),
    .op (p1 50 (ao 49 1) [1]),
    .op (p1 51 (lf 50 1) [2]),
    .op (o1 52 (ao 11 0)),
    .op (p1 53 (lf 52 1) [4]),
    .op (p1 54 (.bin .lss (.t 51) (.t 53)) [3,5]),
    .op (p1 47 (.mv (.t 54)) [6])] 0 0 [
])
 (.cond (.t 47)
 (sr1 [
  o1 55 (.build zv2 []),
  ⟨none,.st (.t 4) (.t 55) 24,none,[]⟩,
  o1 5 (.mv (.c (.int .u8 2)))]
  .ret)
 (.seq (.regd [0,1,2,3,4,5,6,7] [
  .op (m1 57 12),
  .op (p1 58 (.nilc (.t 57)) [0]),
  .op (p1 59 (ao 58 0) [1]),
  .op (p1 60 (lf 59 1) [2]),
  .op (o1 61 (ao 11 1)),
  .op (p1 62 (lf 61 1) [4]),
  .op (p1 63 (.bin .lss (.t 60) (.t 62)) [3,5]),
  .op (p1 56 (.mv (.t 63)) [6])] 0 0 [
])
 (.cond (.t 56)
 (.reg [
  o1 9 (.mv (.c (.int .u8 1)))])
 .skip)))))
 (.seq (.regd [0,1,2,3,4,5,6,7,8,9,10,11,12,13,14,15,16,17,18,19,20,21,22] [
 .op (m1 64 12),
 .op (p1 65 (.nilc (.t 64)) [0]),
 .op (p1 66 (ao 65 0) [1]),
 .op (p1 67 (lf 66 1) [2]),
 .op (o1 68 (ao 11 1)),
 .op (p1 69 (lf 68 1) [4]),
 .op (p1 70 (.bin .sub (.t 67) (.t 69)) [3,5]),
 .op (p1 71 (.mm true [.c (.int .i64 0),.t 70]) [6]),
 .op (m1 72 12),
 .op (p1 73 (.nilc (.t 72)) [8]),
 .op (p1 74 (ao 73 1) [9]),
 .op (p1 75 (lf 74 1) [10]),
 .op (o1 76 (ao 11 0)),
 .op (p1 77 (lf 76 1) [12]),
 .op (p1 78 (.bin .sub (.t 75) (.t 77)) [11,13]),
 .op (p1 79 (.build [.int .i64 0,.int .i64 0] [(0,1,.t 71),(1,1,.t 78)]) [7,14]),
 .op (m1 80 10),
 .op (p1 81 (.ixa (.t 8) (.t 80) 2 2) [16]),
 .op (p1 82 (lt 81 2) [17]),
 .op (p1 83 (.bsl 2 27 [.t 79,.t 82]) [15,18]),
 .op (p1 84 (.call 127 [.t 83]) [19])] 1 1 [
 o1 13 (.alloc [.int .i64 0,.int .i64 0] 27),
 ⟨none,.st (.t 13) (.t 84) 2,none,[0,1,2,3,4,5,6,7,8,9,10,11,12,13,14,15,16,17,18,19,20,21]⟩])
 (.regd [0,1,2,3,4,5,6,7,8,9,10,11,12,13,14,15] [
 .op (m1 85 12),
 .op (m1 86 10),
 .op (p1 87 (.ixa (.t 7) (.t 86) 2 1) [1]),
 .op (p1 88 (lf 87 1) [2]),
 .op (o1 89 (ao 13 0)),
 .op (p1 90 (lf 89 1) [4]),
 .op (p1 91 (.mm false [.t 88,.t 90]) [3,5]),
 .op (m1 92 10),
 .op (p1 93 (.ixa (.t 7) (.t 92) 2 1) [7]),
 .op (p1 94 (lf 93 1) [8]),
 .op (o1 95 (ao 13 1)),
 .op (p1 96 (lf 95 1) [10]),
 .op (p1 97 (.mm false [.t 94,.t 96]) [9,11]),
 .op (p1 98 (.build [.int .i64 0,.int .i64 0] [(0,1,.t 91),(1,1,.t 97)]) [6,12]),
 .op (p1 99 (.nilc (.t 85)) [0,1,2,3,4,5,6,7,8,9,10,11,12,13])] 0 1 [
 ⟨none,.st (.t 99) (.t 98) 2,none,[0,1,2,3,4,5,6,7,8,9,10,11,12,13,14]⟩]))))))
 (.reg [
 o1 100 (.bin .add (.t 40) (cn 1)),
 m1 40 100])))))))
 (sr1 [
 o1 101 (ao 2 17),
 o1 102 (ao 101 4),
 m1 14 102]
 (.seq (sr1 [
 o1 103 (ao 3 0),
 o1 104 (lf 103 1),
 o1 105 (.bin .eql (.t 104) (cn 0))]
 (.cond (.t 105)
 (.seq (.regd [0,1,2,3,4,5,6,7,8,9,10,11,12,13,14,15,16,17,18,19,20,21] [
  .op (m1 106 14),
  .op (m1 107 14),
  .op (p1 108 (.nilc (.t 107)) [1]),
  .op (p1 109 (ao 108 0) [2]),
  .op (p1 110 (lf 109 1) [3]),
  .op (o1 111 (ao 2 0)),
  .op (p1 112 (ao 111 14) [5]),
  .op (p1 113 (lf 112 1) [6]),
  .op (p1 114 (.bin .sub (.t 110) (.t 113)) [4,7]),
  .op (p1 115 (.mm true [.c (.int .i64 0),.t 114]) [8]),
  .op (m1 116 14),
  .op (p1 117 (.nilc (.t 116)) [10]),
  .op (p1 118 (ao 117 1) [11]),
  .op (p1 119 (lf 118 1) [12]),
  .op (o1 120 (ao 2 0)),
  .op (p1 121 (ao 120 14) [14]),
  .op (p1 122 (lf 121 1) [15]),
  .op (p1 123 (.bin .sub (.t 119) (.t 122)) [13,16]),
  .op (p1 124 (.mm true [.c (.int .i64 0),.t 123]) [17]),
  .op (p1 125 (.build [.int .i64 0,.int .i64 0] [(0,1,.t 115),(1,1,.t 124)]) [9,18]),
  .op (p1 126 (.nilc (.t 106)) [0,1,2,3,4,5,6,7,8,9,10,11,12,13,14,15,16,17,18,19])] 0 1 [
  ⟨none,.st (.t 126) (.t 125) 2,none,[0,1,2,3,4,5,6,7,8,9,10,11,12,13,14,15,16,17,18,19,20]⟩])
  (sr1 [
  o1 127 (lt 2 24),
  m1 128 9,
  ⟨none,.st (.t 4) (.t 127) 24,none,[]⟩,
  m1 5 128]
  .ret))
 .skip))
 (.seq (.regd [0,1,2,3,4,5,6,7,8,9,10,11,12,13,14,15] [
 .op (m1 129 14),
 .op (p1 130 (.nilc (.t 129)) [0]),
 .op (p1 131 (lt 130 2) [1]),
 .op (o1 132 (ao 2 0)),
 .op (p1 133 (ao 132 10) [3]),
 .op (p1 134 (lt 133 2) [4]),
 .op (o1 135 (ao 3 0)),
 .op (p1 136 (lf 135 1) [6]),
 .op (o1 137 (ao 3 1)),
 .op (p1 138 (lf 137 1) [8]),
 .op (p1 139 (.bsl 1 3 [.t 136,.t 138]) [7,9]),
 .op (p1 140 (.call 128 [.t 134,.c (.int .i64 1000000),.t 139]) [5,10]),
 .op (p1 141 (.bsl 2 27 [.t 131,.t 140]) [2,11]),
 .op (p1 142 (.call 127 [.t 141]) [11,12])] 1 1 [
 o1 15 (.alloc [.int .i64 0,.int .i64 0] 27),
 ⟨none,.st (.t 15) (.t 142) 2,none,[0,1,2,3,4,5,6,7,8,9,10,11,12,13,14]⟩])
 (sr1 [
 m1 143 14,
 o1 144 (ao 15 0),
 o1 145 (lf 144 1),
 o1 146 (.mm false [.c (.int .i64 1000),.t 145]),
 o1 147 (ao 15 1),
 o1 148 (lf 147 1),
 o1 149 (.mm false [.c (.int .i64 1000),.t 148]),
 o1 150 (.build [.int .i64 0,.int .i64 0] [(0,1,.t 146),(1,1,.t 149)]),
 o1 151 (.nilc (.t 143)),
 ⟨none,.st (.t 151) (.t 150) 2,none,[]⟩]
 (sr1 [
 o1 152 (lt 2 24),
 m1 153 9,
 ⟨none,.st (.t 4) (.t 152) 24,none,[]⟩,
 m1 5 153]
 .ret))))))))))
def r84:List RV:=[.cell 4 24 true,.tmp 5]
theorem t84:Qt1 Tryz.prog 84 c84 r84 154:=Z8 Tryz.func84 rfl (by kernel_rfl) (by kernel_rfl) (by kernel_rfl) (by kernel_rfl)
def c40:SC:=(sr1 [
 o1 3 (.box (.t 0) 0 29),
 o1 4 (.box (.t 1) 0 31),
 o1 5 (.box (.t 2) 0 80),
 o1 6 (.alloc zv3 31),
 o1 7 (.mv (.c (.int .u8 0))),
 o1 8 (.mv (cn 0))]
 (.seq (sr1 [
 o1 12 (lt 3 17),
 o1 13 (lt 4 7),
 o1 14 (.call 54 [.t 12,.t 13]),
 m1 9 14]
 (sr1 [
 m1 15 9,
 o1 16 (.bin .neq (.t 15) (cn 0))]
 (.cond (.t 16)
 (sr1 [
  o1 17 (lt 6 7),
  m1 18 9,
  ⟨none,.st (.t 6) (.t 17) 7,none,[]⟩,
  o1 7 (.mv (.c (.int .u8 0))),
  m1 8 18]
  .ret)
 .skip)))
 (.seq (sr1 [
 o1 19 (lt 5 8),
 o1 20 (.bsl 8 80 [.t 19]),
 o1 21 (.call 83 [.t 20]),
 m1 10 21]
 (sr1 [
 m1 22 10,
 o1 23 (.bin .neq (.t 22) (cn 0))]
 (.cond (.t 23)
 (sr1 [
  o1 24 (lt 6 7),
  m1 25 10,
  ⟨none,.st (.t 6) (.t 24) 7,none,[]⟩,
  o1 7 (.mv (.c (.int .u8 0))),
  m1 8 25]
  .ret)
 .skip)))
 (sr1 [
 o1 27 (lt 3 17),
 o1 28 (lt 4 7),
 o1 29 (.build zv2 [(0,17,.t 27),(17,7,.t 28)]),
 o1 30 (lt 5 8),
 o1 31 (.call 84 [.t 29,.t 30]),
 m1 26 31,
 o1 32 (.ext (.t 26) 0),
 o1 33 (.ext (.t 26) 1),
 o1 11 (.alloc zv2 169),
 ⟨none,.st (.t 11) (.t 32) 24,none,[]⟩,
 m1 7 33]
 (.seq (sr1 [
 m1 34 7,
 o1 35 (.bin .eql (.t 34) (.c (.int .u8 2)))]
 (.cond (.t 35)
 (sr1 [
  o1 36 (lt 6 7),
  ⟨none,.st (.t 6) (.t 36) 7,none,[]⟩,
  o1 7 (.mv (.c (.int .u8 0))),
  o1 8 (.mv (cn 13))]
  .ret)
 .skip))
 (sr1 [
 o1 37 (ao 11 17),
 o1 38 (lt 37 7),
 m1 39 7,
 ⟨none,.st (.t 6) (.t 38) 7,none,[]⟩,
 m1 7 39,
 o1 8 (.mv (cn 0))]
 .ret))))))
def r40:List RV:=[.cell 6 7 true,.tmp 7,.tmp 8]
theorem t40:Qt1 Tryz.prog 40 c40 r40 40:=Z8 Tryz.func40 rfl (by kernel_rfl) (by kernel_rfl) (by kernel_rfl) (by kernel_rfl)
def c46:SC:=(sr1 [
 o1 1 (.box (.t 0) 0 25),
 o1 2 (.mv (.c (.bool false)))]
 (.seq (sr1 [
 o1 4 (ao 1 0),
 o1 5 (lf 4 1),
 o1 6 (.len (.t 5)),
 o1 7 (.bin .gtr (.t 6) (cn 20)),
 m1 8 7,
 g1 9 8 false (ao 1 1),
 g1 10 8 false (lf 9 1),
 g1 11 8 false (.len (.t 10)),
 g1 12 8 false (.bin .gtr (.t 11) (cn 40)),
 o1 13 (.pick (.t 8) (.c (.bool true)) (.t 12))]
 (.cond (.t 13)
 (sr1 [
  o1 2 (.mv (.c (.bool true)))]
  .ret)
 .skip))
 (.seq (sr1 [
 o1 3 (.mv (cn 0))]
 (.block 0 (.loop (.seq (sr1 [
  m1 14 3,
  o1 15 (ao 1 1),
  o1 16 (lf 15 1),
  o1 17 (.len (.t 16)),
  o1 18 (.bin .lss (.t 14) (.t 17))]
  (.cond (.t 18)
  .skip
  (.exit 0)))
  (.seq (.block 1 (sr1 [
   o1 21 (ao 1 1),
   o1 22 (lf 21 1),
   m1 23 3,
   o1 24 (.ixs (.t 22) (.t 23) 5),
   o1 25 (ao 24 4),
   o1 26 (lf 25 1),
   o1 27 (.len (.t 26)),
   o1 28 (.bin .gtr (.t 27) (cn 20))]
   (.cond (.t 28)
   (sr1 [
    o1 2 (.mv (.c (.bool true)))]
    .ret)
   .skip)))
  (.reg [
  m1 19 3,
  o1 20 (.bin .add (.t 19) (cn 1)),
  m1 3 20]))))))
 (sr1 [
 o1 2 (.mv (.c (.bool false)))]
 .ret))))
def r46:List RV:=[.tmp 2]
theorem t46:Qt1 Tryz.prog 46 c46 r46 29:=Z8 Tryz.func46 rfl (by kernel_rfl) (by kernel_rfl) (by kernel_rfl) (by kernel_rfl)
def c42:SC:=(sr1 [
 o1 4 (.box (.t 0) 0 25),
 o1 8 (.alloc [.int .i64 0,.int .i64 0] 27),
 o1 9 (.mv (cn 0)),
 o1 10 (.mv (cn 0))]
 (.seq (sr1 [
 o1 20 (lt 4 2),
 o1 21 (.call 85 [.t 20]),
 m1 11 21]
 (.block 0 (sr1 [
  m1 23 11,
  o1 24 (.bin .neq (.t 23) (cn 0)),
  m1 22 24]
  (.cond (.t 22)
  (sr1 [
   o1 25 (lt 8 2),
   m1 26 11,
   ⟨none,.st (.t 8) (.t 25) 2,none,[]⟩,
   o1 9 (.mv (cn 0)),
   m1 10 26]
   .ret)
  (sr1 [
   o1 28 (ao 4 0),
   o1 29 (lf 28 1),
   o1 30 (.len (.t 29)),
   o1 31 (.bin .sub (.t 30) (cn 1)),
   m1 32 1,
   o1 33 (.bsl 1 3 [.t 32]),
   o1 34 (.call 76 [.c (.int .i64 0),.t 31,.t 33]),
   o1 35 (.un .not (.t 34)),
   m1 36 35,
   g1 37 36 false (.mv (.t 3)),
   g1 38 36 false (.bsl 1 3 [.t 37]),
   g1 39 36 false (.call 76 [.c (.int .i64 0),.c (.int .i64 100000),.t 38]),
   g1 40 36 false (.un .not (.t 39)),
   o1 41 (.pick (.t 36) (.c (.bool true)) (.t 40)),
   m1 27 41]
   (.cond (.t 27)
   (sr1 [
    o1 42 (lt 8 2),
    ⟨none,.st (.t 8) (.t 42) 2,none,[]⟩,
    o1 9 (.mv (cn 0)),
    o1 10 (.mv (cn 2))]
    .ret)
   (sr1 [
    m1 44 2,
    o1 45 (.len (.t 44)),
    o1 46 (.bin .gtr (.t 45) (cn 200)),
    m1 43 46]
    (.cond (.t 43)
    (sr1 [
     o1 47 (lt 8 2),
     ⟨none,.st (.t 8) (.t 47) 2,none,[]⟩,
     o1 9 (.mv (cn 0)),
     o1 10 (.mv (cn 4))]
     .ret)
    .skip))))))))
 (sr1 [
 o1 12 (.mv (cn 0))]
 (.seq (sr1 [
 m1 48 2,
 o1 49 (.len (.t 48)),
 o1 50 (.mv (cn 0))]
 (.block 1 (.loop (sr1 [
  o1 51 (.bin .lss (.t 50) (.t 49))]
  (.seq (.cond (.t 51)
  .skip
  (.exit 1))
  (.seq (.block 2 (sr1 [
   o1 52 (.ixs (.t 48) (.t 50) 3),
   o1 53 (lt 52 3),
   o1 14 (.alloc [.int .i64 0,.int .i64 0,.int .i64 0] 111),
   ⟨none,.st (.t 14) (.t 53) 3,none,[]⟩]
   (.seq (sr1 [
   o1 54 (ao 4 0),
   o1 55 (lf 54 1),
   o1 56 (.len (.t 55)),
   o1 57 (.bin .sub (.t 56) (cn 1)),
   o1 58 (ao 14 0),
   o1 59 (lf 58 1),
   o1 60 (.bsl 1 3 [.t 59]),
   o1 61 (.call 76 [.c (.int .i64 0),.t 57,.t 60]),
   o1 62 (.un .not (.t 61)),
   m1 63 62,
   g1 64 63 false (.mv (.t 12)),
   g1 65 63 false (ao 14 1),
   g1 66 63 false (lf 65 1),
   g1 67 63 false (.bsl 1 3 [.t 66]),
   g1 68 63 false (.call 76 [.t 64,.c (.int .i64 100000),.t 67]),
   g1 69 63 false (.un .not (.t 68)),
   o1 70 (.pick (.t 63) (.c (.bool true)) (.t 69)),
   m1 71 70,
   g1 72 71 false (ao 14 2),
   g1 73 71 false (lf 72 1),
   g1 74 71 false (.bsl 1 3 [.t 73]),
   g1 75 71 false (.call 76 [.c (.int .i64 0),.c (.int .i64 1000000000),.t 74]),
   g1 76 71 false (.un .not (.t 75)),
   o1 77 (.pick (.t 71) (.c (.bool true)) (.t 76))]
   (.cond (.t 77)
   (sr1 [
    o1 78 (lt 8 2),
    ⟨none,.st (.t 8) (.t 78) 2,none,[]⟩,
    o1 9 (.mv (cn 0)),
    o1 10 (.mv (cn 32))]
    .ret)
   .skip))
   (.reg [
   o1 79 (ao 14 1),
   o1 80 (lf 79 1),
   m1 12 80]))))
  (.reg [
  o1 81 (.bin .add (.t 50) (cn 1)),
  m1 50 81])))))))
 (sr1 [
 o1 82 (ao 4 0),
 o1 83 (lf 82 1),
 m1 84 1,
 o1 85 (.ixs (.t 83) (.t 84) 9),
 o1 86 (lt 85 9),
 o1 15 (.alloc zv4 88),
 ⟨none,.st (.t 15) (.t 86) 9,none,[]⟩]
 (sr1 [
 o1 87 (ao 15 6),
 o1 88 (lt 87 2),
 o1 16 (.alloc [.int .i64 0,.int .i64 0] 27),
 ⟨none,.st (.t 16) (.t 88) 2,none,[]⟩,
 o1 17 (.mv (.c (.int .i64 (-1))))]
 (.seq (sr1 [
 m1 89 2,
 o1 90 (.len (.t 89)),
 o1 91 (.mv (cn 0))]
 (.block 3 (.loop (sr1 [
  o1 92 (.bin .lss (.t 91) (.t 90))]
  (.seq (.cond (.t 92)
  .skip
  (.exit 3))
  (.seq (.block 4 (sr1 [
   m1 93 91,
   o1 94 (.ixs (.t 89) (.t 91) 3),
   o1 95 (lt 94 3),
   o1 19 (.alloc [.int .i64 0,.int .i64 0,.int .i64 0] 111),
   m1 18 93,
   ⟨none,.st (.t 19) (.t 95) 3,none,[]⟩]
   (.seq (sr1 [
   o1 96 (ao 19 0),
   o1 97 (lf 96 1),
   m1 98 1,
   o1 99 (.bin .neq (.t 97) (.t 98)),
   m1 100 99,
   g1 101 100 false (ao 19 1),
   g1 102 100 false (lf 101 1),
   g1 103 100 false (.mv (.t 3)),
   g1 104 100 false (.bin .geq (.t 102) (.t 103)),
   o1 105 (.pick (.t 100) (.c (.bool true)) (.t 104))]
   (.cond (.t 105)
   (.exit 4)
   .skip))
   (sr1 [
   o1 106 (lt 15 9),
   o1 107 (lt 16 2),
   o1 108 (ao 19 1),
   o1 109 (lf 108 1),
   m1 110 17,
   o1 111 (.bin .sub (.t 109) (.t 110)),
   o1 112 (.call 86 [.t 106,.t 107,.t 111]),
   ⟨none,.st (.t 16) (.t 112) 2,none,[]⟩]
   (sr1 [
   o1 113 (ao 19 1),
   o1 114 (lf 113 1),
   m1 17 114]
   (.seq (sr1 [
   o1 115 (ao 16 1),
   o1 116 (lf 115 1),
   o1 117 (ao 19 2),
   o1 118 (lf 117 1),
   o1 119 (.bin .lss (.t 116) (.t 118))]
   (.cond (.t 119)
   (sr1 [
    o1 120 (lt 8 2),
    m1 121 18,
    ⟨none,.st (.t 8) (.t 120) 2,none,[]⟩,
    m1 9 121,
    o1 10 (.mv (cn 33))]
    .ret)
   .skip))
   (.reg [
   o1 122 (ao 16 0),
   o1 123 (lf 122 1),
   o1 124 (ao 19 2),
   o1 125 (lf 124 1),
   o1 126 (.bin .sub (.t 123) (.t 125)),
   o1 127 (.mm true [.c (.int .i64 0),.t 126]),
   o1 128 (ao 16 1),
   o1 129 (lf 128 1),
   o1 130 (ao 19 2),
   o1 131 (lf 130 1),
   o1 132 (.bin .sub (.t 129) (.t 131)),
   o1 133 (.build [.int .i64 0,.int .i64 0] [(0,1,.t 127),(1,1,.t 132)]),
   ⟨none,.st (.t 16) (.t 133) 2,none,[]⟩])))))))
  (.reg [
  o1 134 (.bin .add (.t 91) (cn 1)),
  m1 91 134])))))))
 (sr1 [
 o1 135 (lt 15 9),
 o1 136 (lt 16 2),
 m1 137 3,
 o1 138 (.bin .sub (.t 137) (cn 1)),
 m1 139 17,
 o1 140 (.bin .sub (.t 138) (.t 139)),
 o1 141 (.call 86 [.t 135,.t 136,.t 140]),
 ⟨none,.st (.t 8) (.t 141) 2,none,[]⟩,
 o1 9 (.mv (cn 0)),
 o1 10 (.mv (cn 0))]
 .ret))))))))
def r42:List RV:=[.cell 8 2 true,.tmp 9,.tmp 10]
theorem t42:Qt1 Tryz.prog 42 c42 r42 142:=Z8 Tryz.func42 rfl (by kernel_rfl) (by kernel_rfl) (by kernel_rfl) (by kernel_rfl)
def c85:SC:=(sr1 [
 o1 1 (.box (.t 0) 0 25),
 o1 2 (.mv (cn 0))]
 (sr1 [
 o1 5 (ao 1 0),
 o1 6 (lf 5 1),
 o1 7 (.call 129 [.t 6,.f 130]),
 o1 8 (.un .not (.t 7)),
 m1 3 8]
 (sr1 [
 o1 9 (ao 1 1),
 o1 10 (lf 9 1),
 o1 11 (.mkf 133 [.t 1]),
 o1 12 (.call 132 [.t 10,.t 11]),
 o1 13 (.un .not (.t 12)),
 m1 4 13]
 (.seq (sr1 [
 o1 14 (ao 1 0),
 o1 15 (lf 14 1),
 o1 16 (.len (.t 15)),
 o1 17 (.bsl 1 3 [.t 16]),
 o1 18 (.call 76 [.c (.int .i64 1),.c (.int .i64 12),.t 17]),
 o1 19 (.un .not (.t 18)),
 m1 20 19,
 g1 21 20 false (ao 1 1),
 g1 22 20 false (lf 21 1),
 g1 23 20 false (.len (.t 22)),
 g1 24 20 false (.bin .gtr (.t 23) (cn 24)),
 o1 25 (.pick (.t 20) (.c (.bool true)) (.t 24)),
 m1 26 25,
 g1 27 26 false (.mv (.t 3)),
 g1 28 26 false (.un .not (.t 27)),
 o1 29 (.pick (.t 26) (.c (.bool true)) (.t 28)),
 m1 30 29,
 g1 31 30 false (.mv (.t 4)),
 g1 32 30 false (.un .not (.t 31)),
 o1 33 (.pick (.t 30) (.c (.bool true)) (.t 32))]
 (.cond (.t 33)
 (sr1 [
  o1 2 (.mv (cn 30))]
  .ret)
 .skip))
 (sr1 [
 o1 2 (.mv (cn 0))]
 .ret)))))
def r85:List RV:=[.tmp 2]
theorem t85:Qt1 Tryz.prog 85 c85 r85 34:=Z8 Tryz.func85 rfl (by kernel_rfl) (by kernel_rfl) (by kernel_rfl) (by kernel_rfl)
def c76:SC:=(sr1 [
 o1 3 (.box (.t 0) 0 3),
 o1 4 (.box (.t 1) 0 3),
 o1 6 (.mv (.c (.bool false)))]
 (sr1 [
 m1 7 2,
 o1 8 (.mkf 121 [.t 3,.t 4]),
 o1 9 (.call 98 [.t 7,.t 8]),
 o1 10 (.un .not (.t 9)),
 m1 6 10]
 .ret))
def r76:List RV:=[.tmp 6]
theorem t76:Qt1 Tryz.prog 76 c76 r76 11:=Z8 Tryz.func76 rfl (by kernel_rfl) (by kernel_rfl) (by kernel_rfl) (by kernel_rfl)
def c86:SC:=(sr1 [
 o1 3 (.box (.t 0) 0 88),
 o1 4 (.box (.t 1) 0 27),
 o1 6 (.alloc [.int .i64 0,.int .i64 0] 27)]
 (sr1 [
 o1 7 (ao 3 5),
 o1 8 (lf 7 1),
 o1 9 (ao 4 0),
 o1 10 (lf 9 1),
 m1 11 2,
 o1 12 (ao 3 3),
 o1 13 (ao 12 0),
 o1 14 (lf 13 1),
 o1 15 (.bin .mul (.t 11) (.t 14)),
 o1 16 (.bin .add (.t 10) (.t 15)),
 o1 17 (.mm false [.t 8,.t 16]),
 o1 18 (ao 3 5),
 o1 19 (lf 18 1),
 o1 20 (ao 4 1),
 o1 21 (lf 20 1),
 m1 22 2,
 o1 23 (ao 3 3),
 o1 24 (ao 23 1),
 o1 25 (lf 24 1),
 o1 26 (.bin .mul (.t 22) (.t 25)),
 o1 27 (.bin .add (.t 21) (.t 26)),
 o1 28 (.mm false [.t 19,.t 27]),
 o1 29 (.build [.int .i64 0,.int .i64 0] [(0,1,.t 17),(1,1,.t 28)]),
 ⟨none,.st (.t 6) (.t 29) 2,none,[]⟩]
 .ret))
def r86:List RV:=[.cell 6 2 true]
theorem t86:Qt1 Tryz.prog 86 c86 r86 30:=Z8 Tryz.func86 rfl (by kernel_rfl) (by kernel_rfl) (by kernel_rfl) (by kernel_rfl)
def c136:SC:=(sr1 [
 o1 1 (.box (.t 0) 0 25),
 o1 2 (.mv (.c (.bool false)))]
 (.seq (sr1 [
 o1 10 (ao 1 0),
 o1 11 (lf 10 1),
 o1 12 (.len (.t 11)),
 o1 13 (.call 88 [.t 12,.c (.int .i64 1),.c (.int .i64 12)]),
 o1 14 (.un .not (.t 13)),
 m1 15 14,
 g1 16 15 false (ao 1 1),
 g1 17 15 false (lf 16 1),
 g1 18 15 false (.len (.t 17)),
 g1 19 15 false (.bin .gtr (.t 18) (cn 24)),
 o1 20 (.pick (.t 15) (.c (.bool true)) (.t 19))]
 (.cond (.t 20)
 (sr1 [
  o1 2 (.mv (.c (.bool false)))]
  .ret)
 .skip))
 (.seq (sr1 [
 o1 3 (.mv (cn 0))]
 (.block 0 (.loop (.seq (sr1 [
  m1 21 3,
  o1 22 (ao 1 0),
  o1 23 (lf 22 1),
  o1 24 (.len (.t 23)),
  o1 25 (.bin .lss (.t 21) (.t 24))]
  (.cond (.t 25)
  .skip
  (.exit 0)))
  (.seq (.block 1 (sr1 [
   o1 28 (ao 1 0),
   o1 29 (lf 28 1),
   m1 30 3,
   o1 31 (.ixs (.t 29) (.t 30) 9),
   o1 32 (lt 31 9),
   o1 4 (.alloc zv4 88),
   ⟨none,.st (.t 4) (.t 32) 9,none,[]⟩]
   (sr1 [
   o1 33 (ao 4 0),
   o1 34 (lf 33 1),
   o1 35 (.call 88 [.t 34,.c (.int .i64 (-10000000)),.c (.int .i64 10000000)]),
   o1 36 (.un .not (.t 35)),
   m1 37 36,
   g1 38 37 false (ao 4 1),
   g1 39 37 false (lf 38 1),
   g1 40 37 false (.call 88 [.t 39,.c (.int .i64 (-10000000)),.c (.int .i64 10000000)]),
   g1 41 37 false (.un .not (.t 40)),
   o1 42 (.pick (.t 37) (.c (.bool true)) (.t 41)),
   m1 43 42,
   g1 44 43 false (ao 4 2),
   g1 45 43 false (lf 44 1),
   g1 46 43 false (.call 88 [.t 45,.c (.int .i64 0),.c (.int .i64 200)]),
   g1 47 43 false (.un .not (.t 46)),
   o1 48 (.pick (.t 43) (.c (.bool true)) (.t 47)),
   m1 49 48,
   g1 50 49 false (ao 4 3),
   g1 51 49 false (lt 50 2),
   g1 52 49 false (.call 137 [.t 51,.c (.int .i64 0),.c (.int .i64 10000000)]),
   g1 53 49 false (.un .not (.t 52)),
   o1 54 (.pick (.t 49) (.c (.bool true)) (.t 53)),
   m1 55 54,
   g1 56 55 false (ao 4 5),
   g1 57 55 false (lf 56 1),
   g1 58 55 false (.call 88 [.t 57,.c (.int .i64 0),.c (.int .i64 1000000000)]),
   g1 59 55 false (.un .not (.t 58)),
   o1 60 (.pick (.t 55) (.c (.bool true)) (.t 59)),
   m1 61 60,
   g1 62 61 false (ao 4 6),
   g1 63 61 false (lt 62 2),
   g1 64 61 false (ao 4 5),
   g1 65 61 false (lf 64 1),
   g1 66 61 false (.call 137 [.t 63,.c (.int .i64 0),.t 65]),
   g1 67 61 false (.un .not (.t 66)),
   o1 68 (.pick (.t 61) (.c (.bool true)) (.t 67)),
   m1 69 68,
   g1 70 69 false (ao 4 8),
   g1 71 69 false (lf 70 1),
   g1 72 69 false (.call 88 [.t 71,.c (.int .i64 0),.c (.int .i64 9999)]),
   g1 73 69 false (.un .not (.t 72)),
   o1 74 (.pick (.t 69) (.c (.bool true)) (.t 73))]
   (.cond (.t 74)
   (sr1 [
    o1 2 (.mv (.c (.bool false)))]
    .ret)
   .skip))))
  (.reg [
  m1 26 3,
  o1 27 (.bin .add (.t 26) (cn 1)),
  m1 3 27]))))))
 (.seq (sr1 [
 o1 5 (.mv (cn 0))]
 (.block 2 (.loop (.seq (sr1 [
  m1 75 5,
  o1 76 (ao 1 1),
  o1 77 (lf 76 1),
  o1 78 (.len (.t 77)),
  o1 79 (.bin .lss (.t 75) (.t 78))]
  (.cond (.t 79)
  .skip
  (.exit 2)))
  (.seq (.block 3 (sr1 [
   o1 82 (ao 1 1),
   o1 83 (lf 82 1),
   m1 84 5,
   o1 85 (.ixs (.t 83) (.t 84) 5),
   o1 86 (lt 85 5),
   o1 6 (.alloc zv6 83),
   ⟨none,.st (.t 6) (.t 86) 5,none,[]⟩]
   (.seq (sr1 [
   o1 87 (ao 6 0),
   o1 88 (lf 87 1),
   o1 89 (ao 1 0),
   o1 90 (lf 89 1),
   o1 91 (.len (.t 90)),
   o1 92 (.bin .sub (.t 91) (cn 1)),
   o1 93 (.call 88 [.t 88,.c (.int .i64 0),.t 92]),
   o1 94 (.un .not (.t 93)),
   m1 95 94,
   g1 96 95 false (ao 6 1),
   g1 97 95 false (lf 96 1),
   g1 98 95 false (ao 1 0),
   g1 99 95 false (lf 98 1),
   g1 100 95 false (.len (.t 99)),
   g1 101 95 false (.bin .sub (.t 100) (cn 1)),
   g1 102 95 false (.call 88 [.t 97,.c (.int .i64 0),.t 101]),
   g1 103 95 false (.un .not (.t 102)),
   o1 104 (.pick (.t 95) (.c (.bool true)) (.t 103)),
   m1 105 104,
   g1 106 105 false (ao 6 0),
   g1 107 105 false (lf 106 1),
   g1 108 105 false (ao 6 1),
   g1 109 105 false (lf 108 1),
   g1 110 105 false (.bin .eql (.t 107) (.t 109)),
   o1 111 (.pick (.t 105) (.c (.bool true)) (.t 110)),
   m1 112 111,
   g1 113 112 false (ao 6 2),
   g1 114 112 false (lt 113 2),
   g1 115 112 false (.call 137 [.t 114,.c (.int .i64 1),.c (.int .i64 1000000)]),
   g1 116 112 false (.un .not (.t 115)),
   o1 117 (.pick (.t 112) (.c (.bool true)) (.t 116)),
   m1 118 117,
   g1 119 118 false (ao 6 4),
   g1 120 118 false (lf 119 1),
   g1 121 118 false (.len (.t 120)),
   g1 122 118 false (.bin .gtr (.t 121) (cn 6)),
   o1 123 (.pick (.t 118) (.c (.bool true)) (.t 122))]
   (.cond (.t 123)
   (sr1 [
    o1 2 (.mv (.c (.bool false)))]
    .ret)
   .skip))
   (sr1 [
   o1 7 (.mv (.c (.int .i64 (-1))))]
   (sr1 [
   o1 8 (.mv (cn 0))]
   (.block 4 (.loop (.seq (sr1 [
    m1 124 8,
    o1 125 (ao 6 4),
    o1 126 (lf 125 1),
    o1 127 (.len (.t 126)),
    o1 128 (.bin .lss (.t 124) (.t 127))]
    (.cond (.t 128)
    .skip
    (.exit 4)))
    (.seq (.block 5 (sr1 [
     o1 131 (ao 6 4),
     o1 132 (lf 131 1),
     m1 133 8,
     o1 134 (.ixs (.t 132) (.t 133) 4),
     o1 135 (lt 134 4),
     o1 9 (.alloc [.int .i64 0,.int .i64 0,.int .i64 0,.int .i64 0] 85),
     ⟨none,.st (.t 9) (.t 135) 4,none,[]⟩]
     (.seq (sr1 [
     o1 136 (ao 9 0),
     o1 137 (lt 136 2),
     o1 138 (.call 137 [.t 137,.c (.int .i64 0),.c (.int .i64 100000)]),
     o1 139 (.un .not (.t 138)),
     m1 140 139,
     g1 141 140 false (ao 9 2),
     g1 142 140 false (lt 141 2),
     g1 143 140 false (.call 137 [.t 142,.c (.int .i64 0),.c (.int .i64 100000)]),
     g1 144 140 false (.un .not (.t 143)),
     o1 145 (.pick (.t 140) (.c (.bool true)) (.t 144)),
     m1 146 145,
     g1 147 146 false (ao 9 0),
     g1 148 146 false (ao 147 0),
     g1 149 146 false (lf 148 1),
     g1 150 146 false (ao 9 2),
     g1 151 146 false (ao 150 1),
     g1 152 146 false (lf 151 1),
     g1 153 146 false (.bin .gtr (.t 149) (.t 152)),
     o1 154 (.pick (.t 146) (.c (.bool true)) (.t 153)),
     m1 155 154,
     g1 156 155 false (ao 9 0),
     g1 157 155 false (ao 156 0),
     g1 158 155 false (lf 157 1),
     g1 159 155 false (.mv (.t 7)),
     g1 160 155 false (.bin .leq (.t 158) (.t 159)),
     o1 161 (.pick (.t 155) (.c (.bool true)) (.t 160))]
     (.cond (.t 161)
     (sr1 [
      o1 2 (.mv (.c (.bool false)))]
      .ret)
     .skip))
     (.reg [
     o1 162 (ao 9 2),
     o1 163 (ao 162 1),
     o1 164 (lf 163 1),
     m1 7 164]))))
    (.reg [
    m1 129 8,
    o1 130 (.bin .add (.t 129) (cn 1)),
    m1 8 130]))))))))))
  (.reg [
  m1 80 5,
  o1 81 (.bin .add (.t 80) (cn 1)),
  m1 5 81]))))))
 (sr1 [
 o1 2 (.mv (.c (.bool true)))]
 .ret)))))
def r136:List RV:=[.tmp 2]
theorem t136:Qt1 Tryz.prog 136 c136 r136 165:=Z8 Tryz.func136 rfl (by kernel_rfl) (by kernel_rfl) (by kernel_rfl) (by kernel_rfl)
def c88:SC:=(sr1 [
 o1 6 (.mv (.c (.bool false)))]
 (sr1 [
 m1 7 0,
 m1 8 1,
 o1 9 (.bin .geq (.t 7) (.t 8)),
 m1 10 9,
 g1 11 10 true (.mv (.t 0)),
 g1 12 10 true (.mv (.t 2)),
 g1 13 10 true (.bin .leq (.t 11) (.t 12)),
 o1 14 (.pick (.t 10) (.t 13) (.c (.bool false))),
 m1 6 14]
 .ret))
def r88:List RV:=[.tmp 6]
theorem t88:Qt1 Tryz.prog 88 c88 r88 15:=Z8 Tryz.func88 rfl (by kernel_rfl) (by kernel_rfl) (by kernel_rfl) (by kernel_rfl)
def c129:SC:=(sr1 [
 o1 4 (.mv (.c (.bool false)))]
 (sr1 [
 m1 5 0,
 m1 6 1,
 o1 7 (.call 161 [.t 5,.t 6]),
 o1 8 (.bin .geq (.t 7) (cn 0)),
 m1 4 8]
 .ret))
def r129:List RV:=[.tmp 4]
theorem t129:Qt1 Tryz.prog 129 c129 r129 9:=Z8 Tryz.func129 rfl (by kernel_rfl) (by kernel_rfl) (by kernel_rfl) (by kernel_rfl)
def c130:SC:=(sr1 [
 o1 1 (.box (.t 0) 0 88),
 o1 2 (.mv (.c (.bool false)))]
 (sr1 [
 o1 3 (lt 1 9),
 o1 4 (.call 131 [.t 3]),
 o1 5 (.un .not (.t 4)),
 m1 2 5]
 .ret))
def r130:List RV:=[.tmp 2]
theorem t130:Qt1 Tryz.prog 130 c130 r130 6:=Z8 Tryz.func130 rfl (by kernel_rfl) (by kernel_rfl) (by kernel_rfl) (by kernel_rfl)
def c131:SC:=(sr1 [
 o1 1 (.box (.t 0) 0 88),
 o1 2 (.mv (.c (.bool false)))]
 (sr1 [
 o1 3 (ao 1 0),
 o1 4 (lf 3 1),
 o1 5 (ao 1 1),
 o1 6 (lf 5 1),
 o1 7 (.bsl 1 3 [.t 4,.t 6]),
 o1 8 (.call 76 [.c (.int .i64 (-10000000)),.c (.int .i64 10000000),.t 7]),
 m1 9 8,
 g1 10 9 true (ao 1 2),
 g1 11 9 true (lf 10 1),
 g1 12 9 true (.bsl 1 3 [.t 11]),
 g1 13 9 true (.call 76 [.c (.int .i64 0),.c (.int .i64 200),.t 12]),
 o1 14 (.pick (.t 9) (.t 13) (.c (.bool false))),
 m1 15 14,
 g1 16 15 true (ao 1 3),
 g1 17 15 true (lt 16 2),
 g1 18 15 true (.bsl 2 27 [.t 17]),
 g1 19 15 true (.call 120 [.c (.int .i64 0),.c (.int .i64 10000000),.t 18]),
 o1 20 (.pick (.t 15) (.t 19) (.c (.bool false))),
 m1 21 20,
 g1 22 21 true (ao 1 5),
 g1 23 21 true (lf 22 1),
 g1 24 21 true (.bsl 1 3 [.t 23]),
 g1 25 21 true (.call 76 [.c (.int .i64 0),.c (.int .i64 1000000000),.t 24]),
 o1 26 (.pick (.t 21) (.t 25) (.c (.bool false))),
 m1 27 26,
 g1 28 27 true (ao 1 5),
 g1 29 27 true (lf 28 1),
 g1 30 27 true (ao 1 6),
 g1 31 27 true (lt 30 2),
 g1 32 27 true (.bsl 2 27 [.t 31]),
 g1 33 27 true (.call 120 [.c (.int .i64 0),.t 29,.t 32]),
 o1 34 (.pick (.t 27) (.t 33) (.c (.bool false))),
 m1 35 34,
 g1 36 35 true (ao 1 8),
 g1 37 35 true (lf 36 1),
 g1 38 35 true (.bsl 1 3 [.t 37]),
 g1 39 35 true (.call 76 [.c (.int .i64 0),.c (.int .i64 9999),.t 38]),
 o1 40 (.pick (.t 35) (.t 39) (.c (.bool false))),
 m1 2 40]
 .ret))
def r131:List RV:=[.tmp 2]
theorem t131:Qt1 Tryz.prog 131 c131 r131 41:=Z8 Tryz.func131 rfl (by kernel_rfl) (by kernel_rfl) (by kernel_rfl) (by kernel_rfl)
def c132:SC:=(sr1 [
 o1 4 (.mv (.c (.bool false)))]
 (sr1 [
 m1 5 0,
 m1 6 1,
 o1 7 (.call 162 [.t 5,.t 6]),
 o1 8 (.bin .geq (.t 7) (cn 0)),
 m1 4 8]
 .ret))
def r132:List RV:=[.tmp 4]
theorem t132:Qt1 Tryz.prog 132 c132 r132 9:=Z8 Tryz.func132 rfl (by kernel_rfl) (by kernel_rfl) (by kernel_rfl) (by kernel_rfl)
def c133:SC:=(sr1 [
 o1 2 (.box (.t 0) 0 83),
 o1 3 (.mv (.c (.bool false)))]
 (sr1 [
 o1 4 (lt 2 5),
 o1 5 (ao 1 0),
 o1 6 (lf 5 1),
 o1 7 (.len (.t 6)),
 o1 8 (.call 134 [.t 4,.t 7]),
 o1 9 (.un .not (.t 8)),
 m1 3 9]
 .ret))
def r133:List RV:=[.tmp 3]
theorem t133:Qt1 Tryz.prog 133 c133 r133 10:=Z8 Tryz.func133 rfl (by kernel_rfl) (by kernel_rfl) (by kernel_rfl) (by kernel_rfl)
def c134:SC:=(sr1 [
 o1 2 (.box (.t 0) 0 83),
 o1 4 (.mv (.c (.bool false)))]
 (.seq (sr1 [
 m1 8 1,
 o1 9 (.bin .sub (.t 8) (cn 1)),
 o1 10 (ao 2 0),
 o1 11 (lf 10 1),
 o1 12 (ao 2 1),
 o1 13 (lf 12 1),
 o1 14 (.bsl 1 3 [.t 11,.t 13]),
 o1 15 (.call 76 [.c (.int .i64 0),.t 9,.t 14]),
 o1 16 (.un .not (.t 15)),
 m1 17 16,
 g1 18 17 false (ao 2 0),
 g1 19 17 false (lf 18 1),
 g1 20 17 false (ao 2 1),
 g1 21 17 false (lf 20 1),
 g1 22 17 false (.bin .eql (.t 19) (.t 21)),
 o1 23 (.pick (.t 17) (.c (.bool true)) (.t 22)),
 m1 24 23,
 g1 25 24 false (ao 2 2),
 g1 26 24 false (lt 25 2),
 g1 27 24 false (.bsl 2 27 [.t 26]),
 g1 28 24 false (.call 120 [.c (.int .i64 1),.c (.int .i64 1000000),.t 27]),
 g1 29 24 false (.un .not (.t 28)),
 o1 30 (.pick (.t 24) (.c (.bool true)) (.t 29)),
 m1 31 30,
 g1 32 31 false (ao 2 4),
 g1 33 31 false (lf 32 1),
 g1 34 31 false (.len (.t 33)),
 g1 35 31 false (.bin .gtr (.t 34) (cn 6)),
 o1 36 (.pick (.t 31) (.c (.bool true)) (.t 35))]
 (.cond (.t 36)
 (sr1 [
  o1 4 (.mv (.c (.bool false)))]
  .ret)
 .skip))
 (sr1 [
 o1 5 (.mv (cn 0))]
 (.seq (sr1 [
 o1 37 (ao 2 4),
 o1 38 (lf 37 1),
 o1 39 (.len (.t 38)),
 o1 40 (.mv (cn 0))]
 (.block 0 (.loop (sr1 [
  o1 41 (.bin .lss (.t 40) (.t 39))]
  (.seq (.cond (.t 41)
  .skip
  (.exit 0))
  (.seq (.block 1 (sr1 [
   o1 42 (.ixs (.t 38) (.t 40) 4),
   o1 43 (lt 42 4),
   o1 7 (.alloc [.int .i64 0,.int .i64 0,.int .i64 0,.int .i64 0] 85),
   ⟨none,.st (.t 7) (.t 43) 4,none,[]⟩]
   (.seq (sr1 [
   o1 44 (ao 7 0),
   o1 45 (lt 44 2),
   o1 46 (ao 7 2),
   o1 47 (lt 46 2),
   o1 48 (.bsl 2 27 [.t 45,.t 47]),
   o1 49 (.call 120 [.c (.int .i64 0),.c (.int .i64 100000),.t 48]),
   o1 50 (.un .not (.t 49)),
   m1 51 50,
   g1 52 51 false (.mv (.t 5)),
   g1 53 51 false (ao 7 2),
   g1 54 51 false (ao 53 1),
   g1 55 51 false (lf 54 1),
   g1 56 51 false (ao 7 0),
   g1 57 51 false (ao 56 0),
   g1 58 51 false (lf 57 1),
   g1 59 51 false (.bsl 1 3 [.t 58]),
   g1 60 51 false (.call 76 [.t 52,.t 55,.t 59]),
   g1 61 51 false (.un .not (.t 60)),
   o1 62 (.pick (.t 51) (.c (.bool true)) (.t 61))]
   (.cond (.t 62)
   (sr1 [
    o1 4 (.mv (.c (.bool false)))]
    .ret)
   .skip))
   (.reg [
   o1 63 (ao 7 2),
   o1 64 (ao 63 1),
   o1 65 (lf 64 1),
   o1 66 (.bin .add (.t 65) (cn 1)),
   m1 5 66]))))
  (.reg [
  o1 67 (.bin .add (.t 40) (cn 1)),
  m1 40 67])))))))
 (sr1 [
 o1 4 (.mv (.c (.bool true)))]
 .ret)))))
def r134:List RV:=[.tmp 4]
theorem t134:Qt1 Tryz.prog 134 c134 r134 68:=Z8 Tryz.func134 rfl (by kernel_rfl) (by kernel_rfl) (by kernel_rfl) (by kernel_rfl)
def c98:SC:=(sr1 [
 o1 4 (.mv (.c (.bool false)))]
 (sr1 [
 m1 5 0,
 m1 6 1,
 o1 7 (.call 141 [.t 5,.t 6]),
 o1 8 (.bin .geq (.t 7) (cn 0)),
 m1 4 8]
 .ret))
def r98:List RV:=[.tmp 4]
theorem t98:Qt1 Tryz.prog 98 c98 r98 9:=Z8 Tryz.func98 rfl (by kernel_rfl) (by kernel_rfl) (by kernel_rfl) (by kernel_rfl)
def c121:SC:=(sr1 [
 o1 4 (.mv (.c (.bool false)))]
 (sr1 [
 m1 5 0,
 o1 6 (lf 1 1),
 o1 7 (.bin .lss (.t 5) (.t 6)),
 m1 8 7,
 g1 9 8 false (.mv (.t 0)),
 g1 10 8 false (lf 2 1),
 g1 11 8 false (.bin .gtr (.t 9) (.t 10)),
 o1 12 (.pick (.t 8) (.c (.bool true)) (.t 11)),
 m1 4 12]
 .ret))
def r121:List RV:=[.tmp 4]
theorem t121:Qt1 Tryz.prog 121 c121 r121 13:=Z8 Tryz.func121 rfl (by kernel_rfl) (by kernel_rfl) (by kernel_rfl) (by kernel_rfl)
def c137:SC:=(sr1 [
 o1 3 (.box (.t 0) 0 27),
 o1 6 (.mv (.c (.bool false)))]
 (sr1 [
 o1 7 (ao 3 0),
 o1 8 (lf 7 1),
 m1 9 1,
 o1 10 (ao 3 1),
 o1 11 (lf 10 1),
 o1 12 (.call 88 [.t 8,.t 9,.t 11]),
 m1 13 12,
 g1 14 13 true (ao 3 1),
 g1 15 13 true (lf 14 1),
 g1 16 13 true (.mv (.t 2)),
 g1 17 13 true (.bin .leq (.t 15) (.t 16)),
 o1 18 (.pick (.t 13) (.t 17) (.c (.bool false))),
 m1 6 18]
 .ret))
def r137:List RV:=[.tmp 6]
theorem t137:Qt1 Tryz.prog 137 c137 r137 19:=Z8 Tryz.func137 rfl (by kernel_rfl) (by kernel_rfl) (by kernel_rfl) (by kernel_rfl)
def c120:SC:=(sr1 [
 o1 3 (.box (.t 0) 0 3),
 o1 4 (.box (.t 1) 0 3),
 o1 6 (.mv (.c (.bool false)))]
 (sr1 [
 m1 7 2,
 o1 8 (.mkf 158 [.t 3,.t 4]),
 o1 9 (.call 102 [.t 7,.t 8]),
 o1 10 (.un .not (.t 9)),
 m1 6 10]
 .ret))
def r120:List RV:=[.tmp 6]
theorem t120:Qt1 Tryz.prog 120 c120 r120 11:=Z8 Tryz.func120 rfl (by kernel_rfl) (by kernel_rfl) (by kernel_rfl) (by kernel_rfl)
def c161:SC:=(sr1 [
 o1 4 (.mv (cn 0))]
 (.seq (sr1 [
 m1 6 0,
 o1 7 (.len (.t 6)),
 o1 8 (.mv (cn 0))]
 (.block 0 (.loop (sr1 [
  o1 9 (.bin .lss (.t 8) (.t 7))]
  (.seq (.cond (.t 9)
  .skip
  (.exit 0))
  (.seq (.block 1 (sr1 [
   m1 10 8,
   m1 5 10]
   (sr1 [
   m1 11 1,
   m1 12 0,
   m1 13 5,
   o1 14 (.ixs (.t 12) (.t 13) 9),
   o1 15 (lt 14 9),
   o1 16 (.calv (.t 11) [.t 15])]
   (.cond (.t 16)
   (sr1 [
    m1 17 5,
    m1 4 17]
    .ret)
   .skip))))
  (.reg [
  o1 18 (.bin .add (.t 8) (cn 1)),
  m1 8 18])))))))
 (sr1 [
 o1 4 (.mv (.c (.int .i64 (-1))))]
 .ret)))
def r161:List RV:=[.tmp 4]
theorem t161:Qt1 Tryz.prog 161 c161 r161 19:=Z8 Tryz.func161 rfl (by kernel_rfl) (by kernel_rfl) (by kernel_rfl) (by kernel_rfl)
def c162:SC:=(sr1 [
 o1 4 (.mv (cn 0))]
 (.seq (sr1 [
 m1 6 0,
 o1 7 (.len (.t 6)),
 o1 8 (.mv (cn 0))]
 (.block 0 (.loop (sr1 [
  o1 9 (.bin .lss (.t 8) (.t 7))]
  (.seq (.cond (.t 9)
  .skip
  (.exit 0))
  (.seq (.block 1 (sr1 [
   m1 10 8,
   m1 5 10]
   (sr1 [
   m1 11 1,
   m1 12 0,
   m1 13 5,
   o1 14 (.ixs (.t 12) (.t 13) 5),
   o1 15 (lt 14 5),
   o1 16 (.calv (.t 11) [.t 15])]
   (.cond (.t 16)
   (sr1 [
    m1 17 5,
    m1 4 17]
    .ret)
   .skip))))
  (.reg [
  o1 18 (.bin .add (.t 8) (cn 1)),
  m1 8 18])))))))
 (sr1 [
 o1 4 (.mv (.c (.int .i64 (-1))))]
 .ret)))
def r162:List RV:=[.tmp 4]
theorem t162:Qt1 Tryz.prog 162 c162 r162 19:=Z8 Tryz.func162 rfl (by kernel_rfl) (by kernel_rfl) (by kernel_rfl) (by kernel_rfl)
def c141:SC:=(sr1 [
 o1 4 (.mv (cn 0))]
 (.seq (sr1 [
 m1 6 0,
 o1 7 (.len (.t 6)),
 o1 8 (.mv (cn 0))]
 (.block 0 (.loop (sr1 [
  o1 9 (.bin .lss (.t 8) (.t 7))]
  (.seq (.cond (.t 9)
  .skip
  (.exit 0))
  (.seq (.block 1 (sr1 [
   m1 10 8,
   m1 5 10]
   (sr1 [
   m1 11 1,
   m1 12 0,
   m1 13 5,
   o1 14 (.ixs (.t 12) (.t 13) 1),
   o1 15 (lf 14 1),
   o1 16 (.calv (.t 11) [.t 15])]
   (.cond (.t 16)
   (sr1 [
    m1 17 5,
    m1 4 17]
    .ret)
   .skip))))
  (.reg [
  o1 18 (.bin .add (.t 8) (cn 1)),
  m1 8 18])))))))
 (sr1 [
 o1 4 (.mv (.c (.int .i64 (-1))))]
 .ret)))
def r141:List RV:=[.tmp 4]
theorem t141:Qt1 Tryz.prog 141 c141 r141 19:=Z8 Tryz.func141 rfl (by kernel_rfl) (by kernel_rfl) (by kernel_rfl) (by kernel_rfl)
def c102:SC:=(sr1 [
 o1 4 (.mv (.c (.bool false)))]
 (sr1 [
 m1 5 0,
 m1 6 1,
 o1 7 (.call 143 [.t 5,.t 6]),
 o1 8 (.bin .geq (.t 7) (cn 0)),
 m1 4 8]
 .ret))
def r102:List RV:=[.tmp 4]
theorem t102:Qt1 Tryz.prog 102 c102 r102 9:=Z8 Tryz.func102 rfl (by kernel_rfl) (by kernel_rfl) (by kernel_rfl) (by kernel_rfl)
def c158:SC:=(sr1 [
 o1 3 (.box (.t 0) 0 27),
 o1 4 (.mv (.c (.bool false)))]
 (sr1 [
 o1 5 (ao 3 0),
 o1 6 (lf 5 1),
 o1 7 (ao 3 1),
 o1 8 (lf 7 1),
 o1 9 (.bin .gtr (.t 6) (.t 8)),
 m1 10 9,
 g1 11 10 false (lf 1 1),
 g1 12 10 false (lf 2 1),
 g1 13 10 false (ao 3 0),
 g1 14 10 false (lf 13 1),
 g1 15 10 false (ao 3 1),
 g1 16 10 false (lf 15 1),
 g1 17 10 false (.bsl 1 3 [.t 14,.t 16]),
 g1 18 10 false (.call 76 [.t 11,.t 12,.t 17]),
 g1 19 10 false (.un .not (.t 18)),
 o1 20 (.pick (.t 10) (.c (.bool true)) (.t 19)),
 m1 4 20]
 .ret))
def r158:List RV:=[.tmp 4]
theorem t158:Qt1 Tryz.prog 158 c158 r158 21:=Z8 Tryz.func158 rfl (by kernel_rfl) (by kernel_rfl) (by kernel_rfl) (by kernel_rfl)
def c143:SC:=(sr1 [
 o1 4 (.mv (cn 0))]
 (.seq (sr1 [
 m1 6 0,
 o1 7 (.len (.t 6)),
 o1 8 (.mv (cn 0))]
 (.block 0 (.loop (sr1 [
  o1 9 (.bin .lss (.t 8) (.t 7))]
  (.seq (.cond (.t 9)
  .skip
  (.exit 0))
  (.seq (.block 1 (sr1 [
   m1 10 8,
   m1 5 10]
   (sr1 [
   m1 11 1,
   m1 12 0,
   m1 13 5,
   o1 14 (.ixs (.t 12) (.t 13) 2),
   o1 15 (lt 14 2),
   o1 16 (.calv (.t 11) [.t 15])]
   (.cond (.t 16)
   (sr1 [
    m1 17 5,
    m1 4 17]
    .ret)
   .skip))))
  (.reg [
  o1 18 (.bin .add (.t 8) (cn 1)),
  m1 8 18])))))))
 (sr1 [
 o1 4 (.mv (.c (.int .i64 (-1))))]
 .ret)))
def r143:List RV:=[.tmp 4]
theorem t143:Qt1 Tryz.prog 143 c143 r143 19:=Z8 Tryz.func143 rfl (by kernel_rfl) (by kernel_rfl) (by kernel_rfl) (by kernel_rfl)
def c47:SC:=(sr1 [
 o1 1 (.box (.t 0) 0 25),
 o1 2 (.alloc [.slice none 0 0,.slice none 0 0] 25)]
 (sr1 [
 o1 4 (.bsl 9 88 []),
 o1 5 (ao 1 0),
 o1 6 (lf 5 1),
 o1 7 (.app 9 72 88 (.t 4) (.t 6)),
 o1 8 (ao 1 0),
 ⟨none,.st (.t 8) (.t 7) 1,none,[]⟩]
 (sr1 [
 o1 9 (.bsl 5 83 []),
 o1 10 (ao 1 1),
 o1 11 (lf 10 1),
 o1 12 (.cln 5 56 83 (.t 9) (.t 11)),
 o1 13 (ao 1 1),
 ⟨none,.st (.t 13) (.t 12) 1,none,[]⟩]
 (.seq (sr1 [
 o1 3 (.mv (cn 0))]
 (.block 0 (.loop (.seq (sr1 [
  m1 14 3,
  o1 15 (ao 1 1),
  o1 16 (lf 15 1),
  o1 17 (.len (.t 16)),
  o1 18 (.bin .lss (.t 14) (.t 17))]
  (.cond (.t 18)
  .skip
  (.exit 0)))
  (.seq (.block 1 (.regd [0,1,2,3,4,5,6,7,8,9,10,11,12,13] [
   .op (o1 21 (ao 1 1)),
   .op (p1 22 (lf 21 1) [0]),
   .op (m1 23 3),
   .op (o1 24 (.bsl 4 85 [])),
   .op (o1 25 (ao 1 1)),
   .op (p1 26 (lf 25 1) [4]),
   .op (m1 27 3),
   .op (p1 28 (.ixs (.t 26) (.t 27) 5) [5,6]),
   .op (p1 29 (ao 28 4) [7]),
   .op (p1 30 (lf 29 1) [8]),
   .op (p1 31 (.app 4 32 85 (.t 24) (.t 30)) [3,9]),
   .op (p1 32 (.ixs (.t 22) (.t 23) 5) [0,1,2,3,4,5,6,7,8,9,10]),
   .op (p1 33 (ao 32 4) [0,1,2,3,4,5,6,7,8,9,10,11])] 0 1 [
   ⟨none,.st (.t 33) (.t 31) 1,none,[0,1,2,3,4,5,6,7,8,9,10,12]⟩]))
  (.reg [
  m1 19 3,
  o1 20 (.bin .add (.t 19) (cn 1)),
  m1 3 20]))))))
 (sr1 [
 o1 34 (lt 1 2),
 ⟨none,.st (.t 2) (.t 34) 2,none,[]⟩]
 .ret)))))
def r47:List RV:=[.cell 2 2 true]
theorem t47:Qt1 Tryz.prog 47 c47 r47 35:=Z8 Tryz.func47 rfl (by kernel_rfl) (by kernel_rfl) (by kernel_rfl) (by kernel_rfl)
def c39:SC:=(sr1 [
 o1 3 (.box (.t 0) 0 25),
 o1 5 (.box (.t 2) 0 27),
 o1 6 (.alloc [.int .i64 0,.int .i64 0] 27),
 o1 7 (.mv (cn 0))]
 (sr1 [
 o1 11 (lt 3 2),
 o1 12 (lt 5 2),
 o1 13 (.call 75 [.t 11,.t 12]),
 m1 10 13,
 o1 14 (.ext (.t 10) 0),
 o1 15 (.ext (.t 10) 1),
 o1 8 (.alloc [.slice none 0 0,.slice none 0 0,.int .i64 0,.int .i64 0] 160),
 ⟨none,.st (.t 8) (.t 14) 4,none,[]⟩,
 m1 9 15]
 (.seq (.block 0 (sr1 [
  m1 17 9,
  o1 18 (.bin .neq (.t 17) (cn 0)),
  m1 16 18]
  (.cond (.t 16)
  (sr1 [
   o1 19 (.build [.int .i64 0,.int .i64 0] []),
   m1 20 9,
   ⟨none,.st (.t 6) (.t 19) 2,none,[]⟩,
   m1 7 20]
   .ret)
  (sr1 [
   o1 22 (ao 3 1),
   o1 23 (lf 22 1),
   o1 24 (.len (.t 23)),
   o1 25 (.bin .sub (.t 24) (cn 1)),
   m1 26 1,
   o1 27 (.bsl 1 3 [.t 26]),
   o1 28 (.call 76 [.c (.int .i64 0),.t 25,.t 27]),
   o1 29 (.un .not (.t 28)),
   m1 21 29]
   (.cond (.t 21)
   (sr1 [
    o1 30 (.build [.int .i64 0,.int .i64 0] []),
    ⟨none,.st (.t 6) (.t 30) 2,none,[]⟩,
    o1 7 (.mv (cn 2))]
    .ret)
   .skip)))))
 (sr1 [
 o1 31 (lt 8 4),
 m1 32 1,
 o1 33 (.call 82 [.t 31,.t 32]),
 o1 34 (.call 80 [.t 33]),
 ⟨none,.st (.t 6) (.t 34) 2,none,[]⟩,
 o1 7 (.mv (cn 0))]
 .ret))))
def r39:List RV:=[.cell 6 2 true,.tmp 7]
theorem t39:Qt1 Tryz.prog 39 c39 r39 35:=Z8 Tryz.func39 rfl (by kernel_rfl) (by kernel_rfl) (by kernel_rfl) (by kernel_rfl)
def c93:SC:=(sr1 [
 o1 1 (.box (.t 0) 0 25),
 o1 2 (.mv (cn 0))]
 (.seq (sr1 [
 o1 3 (lt 1 2),
 o1 4 (.call 136 [.t 3]),
 o1 5 (.un .not (.t 4))]
 (.cond (.t 5)
 (sr1 [
  o1 2 (.mv (cn 30))]
  .ret)
 .skip))
 (sr1 [
 o1 2 (.mv (cn 0))]
 .ret)))
def r93:List RV:=[.tmp 2]
theorem t93:Qt1 Tryz.prog 93 c93 r93 6:=Z8 Tryz.func93 rfl (by kernel_rfl) (by kernel_rfl) (by kernel_rfl) (by kernel_rfl)
def c75:SC:=(sr1 [
 o1 2 (.box (.t 0) 0 25),
 o1 3 (.box (.t 1) 0 27),
 o1 4 (.alloc [.slice none 0 0,.slice none 0 0,.int .i64 0,.int .i64 0] 160),
 o1 5 (.mv (cn 0))]
 (.seq (sr1 [
 o1 7 (lt 2 2),
 o1 8 (.call 85 [.t 7]),
 m1 6 8]
 (sr1 [
 m1 9 6,
 o1 10 (.bin .neq (.t 9) (cn 0))]
 (.cond (.t 10)
 (sr1 [
  o1 11 (.build [.slice none 0 0,.slice none 0 0,.int .i64 0,.int .i64 0] []),
  m1 12 6,
  ⟨none,.st (.t 4) (.t 11) 4,none,[]⟩,
  m1 5 12]
  .ret)
 .skip)))
 (.seq (sr1 [
 o1 13 (lt 3 2),
 o1 14 (.bsl 2 27 [.t 13]),
 o1 15 (.call 120 [.c (.int .i64 1),.c (.int .i64 100000),.t 14]),
 o1 16 (.un .not (.t 15))]
 (.cond (.t 16)
 (sr1 [
  o1 17 (.build [.slice none 0 0,.slice none 0 0,.int .i64 0,.int .i64 0] []),
  ⟨none,.st (.t 4) (.t 17) 4,none,[]⟩,
  o1 5 (.mv (cn 31))]
  .ret)
 .skip))
 (sr1 [
 o1 18 (lt 2 2),
 o1 19 (lt 3 2),
 o1 20 (.build [.slice none 0 0,.slice none 0 0,.int .i64 0,.int .i64 0] [(0,2,.t 18),(2,2,.t 19)]),
 ⟨none,.st (.t 4) (.t 20) 4,none,[]⟩,
 o1 5 (.mv (cn 0))]
 .ret))))
def r75:List RV:=[.cell 4 4 true,.tmp 5]
theorem t75:Qt1 Tryz.prog 75 c75 r75 21:=Z8 Tryz.func75 rfl (by kernel_rfl) (by kernel_rfl) (by kernel_rfl) (by kernel_rfl)
def c82:SC:=(sr1 [
 o1 2 (.box (.t 0) 0 160),
 o1 4 (.alloc [.int .i64 0,.int .i64 0] 165)]
 (sr1 [
 o1 6 (ao 2 0),
 o1 7 (ao 6 1),
 o1 8 (lf 7 1),
 m1 9 1,
 o1 10 (.ixs (.t 8) (.t 9) 5),
 o1 11 (ao 10 2),
 o1 12 (lt 11 2),
 o1 5 (.alloc [.int .i64 0,.int .i64 0] 27),
 ⟨none,.st (.t 5) (.t 12) 2,none,[]⟩]
 (.seq (.regd [0,1,2,3,4,5,6,7,8,9,10,11,12,13,14,15,16,17,18,19,20,21,22,23] [
 .op (o1 13 (ao 5 0)),
 .op (p1 14 (lf 13 1) [0]),
 .op (o1 15 (ao 2 2)),
 .op (p1 16 (ao 15 1) [2]),
 .op (p1 17 (lf 16 1) [3]),
 .op (p1 18 (.bin .add (.t 14) (.t 17)) [1,4]),
 .op (p1 19 (.bin .sub (.t 18) (cn 1)) [5]),
 .op (o1 20 (ao 2 2)),
 .op (p1 21 (ao 20 1) [7]),
 .op (p1 22 (lf 21 1) [8]),
 .op (p1 23 (.div .quo (.t 19) (.t 22)) [6,9]),
 .op (o1 24 (ao 5 1)),
 .op (p1 25 (lf 24 1) [11]),
 .op (o1 26 (ao 2 2)),
 .op (p1 27 (ao 26 0) [13]),
 .op (p1 28 (lf 27 1) [14]),
 .op (p1 29 (.bin .add (.t 25) (.t 28)) [12,15]),
 .op (p1 30 (.bin .sub (.t 29) (cn 1)) [16]),
 .op (o1 31 (ao 2 2)),
 .op (p1 32 (ao 31 0) [18]),
 .op (p1 33 (lf 32 1) [19]),
 .op (p1 34 (.div .quo (.t 30) (.t 33)) [17,20]),
 .op (p1 35 (.build [.int .i64 0,.int .i64 0] [(0,1,.t 23),(1,1,.t 34)]) [10,21])] 0 1 [
 ⟨none,.st (.t 4) (.t 35) 2,none,[0,1,2,3,4,5,6,7,8,9,10,11,12,13,14,15,16,17,18,19,20,21,22]⟩])
 .ret)))
def r82:List RV:=[.cell 4 2 true]
theorem t82:Qt1 Tryz.prog 82 c82 r82 36:=Z8 Tryz.func82 rfl (by kernel_rfl) (by kernel_rfl) (by kernel_rfl) (by kernel_rfl)
def c80:SC:=(sr1 [
 o1 1 (.box (.t 0) 0 165),
 o1 2 (.alloc [.int .i64 0,.int .i64 0] 27)]
 (sr1 [
 o1 3 (.ixa (.t 1) (cn 0) 2 1),
 o1 4 (lf 3 1),
 o1 5 (.ixa (.t 1) (cn 1) 2 1),
 o1 6 (lf 5 1),
 o1 7 (.build [.int .i64 0,.int .i64 0] [(0,1,.t 4),(1,1,.t 6)]),
 ⟨none,.st (.t 2) (.t 7) 2,none,[]⟩]
 .ret))
def r80:List RV:=[.cell 2 2 true]
theorem t80:Qt1 Tryz.prog 80 c80 r80 8:=Z8 Tryz.func80 rfl (by kernel_rfl) (by kernel_rfl) (by kernel_rfl) (by kernel_rfl)
def c78:SC:=(sr1 [
 o1 3 (.box (.t 0) 0 160),
 o1 5 (.box (.t 2) 0 165),
 o1 6 (.alloc [.int .i64 0,.int .i64 0] 165)]
 (sr1 [
 o1 15 (lt 3 4),
 m1 16 1,
 o1 17 (.call 82 [.t 15,.t 16]),
 o1 7 (.alloc [.int .i64 0,.int .i64 0] 165),
 ⟨none,.st (.t 7) (.t 17) 2,none,[]⟩]
 (sr1 [
 o1 18 (.build [.int .i64 0,.int .i64 0] [(0,1,.c (.int .i64 100001)),(1,1,.c (.int .i64 100001))]),
 o1 8 (.alloc [.int .i64 0,.int .i64 0] 165),
 ⟨none,.st (.t 8) (.t 18) 2,none,[]⟩]
 (.seq (sr1 [
 o1 19 (ao 3 0),
 o1 20 (ao 19 1),
 o1 21 (lf 20 1),
 m1 22 1,
 o1 23 (.ixs (.t 21) (.t 22) 5),
 o1 24 (ao 23 4),
 o1 25 (lf 24 1),
 o1 26 (.len (.t 25)),
 o1 27 (.mv (cn 0))]
 (.block 0 (.loop (sr1 [
  o1 28 (.bin .lss (.t 27) (.t 26))]
  (.seq (.cond (.t 28)
  .skip
  (.exit 0))
  (.seq (.block 1 (sr1 [
   o1 29 (.ixs (.t 25) (.t 27) 4),
   o1 30 (lt 29 4),
   o1 10 (.alloc [.int .i64 0,.int .i64 0,.int .i64 0,.int .i64 0] 85),
   ⟨none,.st (.t 10) (.t 30) 4,none,[]⟩]
   (.seq (.regd [0,1,2,3,4,5,6,7,8,9,10,11,12,13,14,15,16,17] [
   .op (o1 31 (ao 10 0)),
   .op (p1 32 (ao 31 0) [0]),
   .op (p1 33 (lf 32 1) [1]),
   .op (o1 34 (ao 10 0)),
   .op (p1 35 (ao 34 1) [3]),
   .op (p1 36 (lf 35 1) [4]),
   .op (p1 37 (.build [.int .i64 0,.int .i64 0] [(0,1,.t 33),(1,1,.t 36)]) [2,5]),
   .op (o1 38 (ao 10 2)),
   .op (p1 39 (ao 38 1) [7]),
   .op (p1 40 (lf 39 1) [8]),
   .op (o1 41 (ao 10 2)),
   .op (p1 42 (ao 41 0) [10]),
   .op (p1 43 (lf 42 1) [11]),
   .op (p1 44 (.build [.int .i64 0,.int .i64 0] [(0,1,.t 40),(1,1,.t 43)]) [9,12])] 2 2 [
   o1 11 (.alloc [.int .i64 0,.int .i64 0] 165),
   o1 12 (.alloc [.int .i64 0,.int .i64 0] 165),
   ⟨none,.st (.t 11) (.t 37) 2,none,[0,1,2,3,4,5,6,14,15]⟩,
   ⟨none,.st (.t 12) (.t 44) 2,none,[0,1,2,3,4,5,6,7,8,9,10,11,12,13,14,15,16]⟩])
   (sr1 [
   o1 45 (.mv (cn 0))]
   (.block 2 (.loop (sr1 [
    o1 46 (.bin .lss (.t 45) (cn 2))]
    (.seq (.cond (.t 46)
    .skip
    (.exit 2))
    (.seq (.block 3 (sr1 [
     m1 47 45,
     m1 13 47]
     (.seq (.regd [0,1,2,3,4,5,6,7] [
     .op (m1 48 13),
     .op (p1 49 (.ixa (.t 5) (.t 48) 2 1) [0]),
     .op (p1 50 (lf 49 1) [1]),
     .op (m1 51 13),
     .op (p1 52 (.ixa (.t 11) (.t 51) 2 1) [3]),
     .op (p1 53 (lf 52 1) [4]),
     .op (p1 54 (.mm true [.t 50,.t 53]) [2,5]),
     .op (p1 14 (.mv (.t 54)) [0,1,2,3,4,5,6])] 0 0 [
])
 (.seq (.regd [0,1,2,3,4,5,6,7,8,9] [
 .op (m1 55 14),
 .op (m1 56 13),
 .op (p1 57 (.ixa (.t 7) (.t 56) 2 1) [1]),
 .op (p1 58 (lf 57 1) [2]),
 .op (p1 59 (.bin .add (.t 55) (.t 58)) [0,3]),
 .op (p1 60 (.bin .sub (.t 59) (cn 1)) [4]),
 .op (m1 61 13),
 .op (p1 62 (.ixa (.t 12) (.t 61) 2 1) [6]),
 .op (p1 63 (lf 62 1) [7]),
 .op (p1 64 (.bin .leq (.t 60) (.t 63)) [5,8])] 0 0 [
])
 (.cond (.t 64)
 (.reg [
  m1 65 13,
  m1 66 13,
  o1 67 (.ixa (.t 8) (.t 66) 2 1),
  o1 68 (lf 67 1),
  m1 69 14,
  o1 70 (.bsl 1 3 [.t 68,.t 69]),
  o1 71 (.call 122 [.t 70]),
  o1 72 (.ixa (.t 8) (.t 65) 2 1),
  ⟨none,.st (.t 72) (.t 71) 1,none,[]⟩])
 .skip)))))
 (.reg [
 o1 73 (.bin .add (.t 45) (cn 1)),
 m1 45 73]))))))))))
 (.reg [
 o1 74 (.bin .add (.t 27) (cn 1)),
 m1 27 74])))))))
 (sr1 [
 o1 75 (lt 8 2),
 ⟨none,.st (.t 6) (.t 75) 2,none,[]⟩]
 .ret)))))
def r78:List RV:=[.cell 6 2 true]
theorem t78:Qt1 Tryz.prog 78 c78 r78 76:=Z8 Tryz.func78 rfl (by kernel_rfl) (by kernel_rfl) (by kernel_rfl) (by kernel_rfl)
def c94:SC:=(sr1 [
 o1 1 (.box (.t 0) 0 27),
 o1 2 (.mv (.c (.bool false)))]
 (sr1 [
 o1 3 (lt 1 2),
 o1 4 (.call 137 [.t 3,.c (.int .i64 1),.c (.int .i64 100000)]),
 m1 2 4]
 .ret))
def r94:List RV:=[.tmp 2]
theorem t94:Qt1 Tryz.prog 94 c94 r94 5:=Z8 Tryz.func94 rfl (by kernel_rfl) (by kernel_rfl) (by kernel_rfl) (by kernel_rfl)
def c122:SC:=(sr1 [
 o1 2 (.mv (cn 0))]
 (sr1 [
 m1 3 0,
 o1 4 (.bsl 1 3 [.c (.int .i64 100001)]),
 o1 5 (.app 1 8 3 (.t 3) (.t 4)),
 o1 6 (.call 71 [.t 5]),
 m1 2 6]
 .ret))
def r122:List RV:=[.tmp 2]
theorem t122:Qt1 Tryz.prog 122 c122 r122 7:=Z8 Tryz.func122 rfl (by kernel_rfl) (by kernel_rfl) (by kernel_rfl) (by kernel_rfl)
def c71:SC:=(sr1 [
 o1 2 (.mv (cn 0))]
 (.seq (sr1 [
 m1 5 0,
 o1 6 (.len (.t 5)),
 o1 7 (.bin .lss (.t 6) (cn 1))]
 (.cond (.t 7)
 (.reg [
  o1 8 (.raw (Go.Op.makeInterface 9 (Go.Operand.const (Go.Value.string { data:=#[115,108,105,99,101,115,46,77,105,110,58,32,101,109,112,116,121,32,108,105,115,116] }))) 20),
  ⟨none,.raw (Go.Op.panic (Go.Operand.tmp 8)) 0,none,[]⟩])
 .skip))
 (sr1 [
 m1 9 0,
 o1 10 (.ixs (.t 9) (cn 0) 1),
 o1 11 (lf 10 1),
 m1 3 11]
 (.seq (sr1 [
 o1 4 (.mv (cn 1))]
 (.block 0 (.loop (.seq (sr1 [
  m1 12 4,
  m1 13 0,
  o1 14 (.len (.t 13)),
  o1 15 (.bin .lss (.t 12) (.t 14))]
  (.cond (.t 15)
  .skip
  (.exit 0)))
  (.seq (.block 1 (.reg [
   m1 18 3,
   m1 19 0,
   m1 20 4,
   o1 21 (.ixs (.t 19) (.t 20) 1),
   o1 22 (lf 21 1),
   o1 23 (.mm false [.t 18,.t 22]),
   m1 3 23]))
  (.reg [
  m1 16 4,
  o1 17 (.bin .add (.t 16) (cn 1)),
  m1 4 17]))))))
 (sr1 [
 m1 24 3,
 m1 2 24]
 .ret)))))
def r71:List RV:=[.tmp 2]
theorem t71:Qt1 Tryz.prog 71 c71 r71 25:=Z8 Tryz.func71 rfl (by kernel_rfl) (by kernel_rfl) (by kernel_rfl) (by kernel_rfl)
end Go.Proofs.YtiigiflofnjilaaGreat
namespace Go.Azalai
structure Span where
 lo:Int
 hi:Int
deriving DecidableEq
structure Well where
 x:Int
 y:Int
 depth:Int
 yld:Span
 room:Int
 has:Span
 owner:Int
deriving DecidableEq
structure Gate where
 opens:Span
 shuts:Span
deriving DecidableEq
structure Leg where
 a:Int
 b:Int
 long:Span
 gates:List Gate
deriving DecidableEq
structure Land where
 wells:List Well
 legs:List Leg
deriving DecidableEq
structure Draw where
 well:Int
 day:Int
 water:Int
deriving DecidableEq
def inR (lo hi n:Int):Bool:=decide (lo<=n/\n<=hi)
def Z3 (lo hi:Int) (s:Span):Bool:=decide (lo<=s.lo/\s.lo<=s.hi/\s.hi<=hi)
def Yy (w:Well):Bool :=
 inR (-10000000) 10000000 w.x && inR (-10000000) 10000000 w.y && inR 0 200 w.depth && Z3 0 10000000 w.yld && inR 0 1000000000 w.room && Z3 0 w.room w.has && inR 0 9999 w.owner
def YH (next:Int):List Gate->Bool
 | []=>true
 | g :: r=>Z3 0 100000 g.opens && Z3 0 100000 g.shuts && inR next g.shuts.hi g.opens.lo && YH (g.shuts.hi+1) r
def WP (n:Int) (x:Leg):Bool :=
 inR 0 (n - 1) x.a && inR 0 (n - 1) x.b && x.a != x.b && Z3 1 1000000 x.long && decide (x.gates.length<=6) && YH 0 x.gates
def ZA (l:Land):Bool :=
 inR 1 12 l.wells.length && decide (l.legs.length<=24) && l.wells.all Yy && l.legs.all (WP l.wells.length)
def WC {α : Type} (g:α->Bool):List α->Nat->Int
 | [],_=>-1
 | x :: l,k=>if g x then k else WC g l (k+1)
theorem Zfh {α : Type} (g:α->Bool):∀ (l:List α) (k:Nat),decide (WC g l k ≥ 0)=l.any g
 | [],k=>by simp [WC]
 | x :: l,k=>by
  simp only [WC,List.any_cons]
  by_cases hg:g x=true
  . simp [hg]
  . simpa [hg] using Zfh g l (k+1)
def Wo (w:Well) (has:Span) (days:Int):Span:=⟨min w.room (has.lo+days * w.yld.lo),min w.room (has.hi+days * w.yld.hi)⟩
def Wy (n last:Int):List Draw->Bool
 | []=>true
 | x :: r=>inR 0 (n - 1) x.well && inR last 100000 x.day && inR 0 1000000000 x.water && Wy n x.day r
def Vw (w:Well) (well day:Int) (now:Span) (evening:Int) (i:Nat):List Draw->Span × Int × Int
 | []=>(Wo w now (day - 1 - evening),0,0)
 | x :: r =>
  if (x.well != well || decide (x.day ≥ day))=true then Vw w well day now evening (i+1) r
  else
   let f:=Wo w now (x.day - evening)
   if f.hi < x.water then (⟨0,0⟩,i,33) else Vw w well day ⟨max 0 (f.lo - x.water),f.hi - x.water⟩ x.day (i+1) r
def XP (l:Land) (well:Int) (draws:List Draw) (day:Int):Span × Int × Int :=
 if ZA l=false then (⟨0,0⟩,0,30)
 else if (inR 0 (l.wells.length - 1) well && inR 0 100000 day)=false then (⟨0,0⟩,0,2)
 else if draws.length > 200 then (⟨0,0⟩,0,4)
 else if Wy l.wells.length 0 draws=false then (⟨0,0⟩,0,32)
 else match l.wells[well.toNat]? with
  | some w=>Vw w well day w.has (-1) 0 draws
  | none=>(⟨0,0⟩,0,0)
def WM (l:Land):Prop:=l.wells.length<=1000/\l.legs.length<=1000/\∀ x ∈ l.legs,x.gates.length<=1000
def Zcd (l:Land):Bool:=decide (l.wells.length > 20) || decide (l.legs.length > 40) || l.legs.any fun x=>decide (x.gates.length > 20)
theorem Up {l:Land} (h:ZA l=true):∀ w ∈ l.wells,Yy w=true:=by
 simp only [ZA,Bool.and_eq_true,List.all_eq_true] at h;exact h.1.2
theorem VK {l:Land} (h:ZA l=true):1<=l.wells.length/\l.wells.length<=12/\l.legs.length<=24:=by
 simp only [ZA,Bool.and_eq_true,inR,decide_eq_true_eq] at h;omega
theorem Zbk {n:Int}:∀ {l:List Draw} {last:Int},Wy n last l=true->0<=last->∀ x ∈ l,0<=x.day/\x.day<=100000/\0<=x.water/\x.water<=1000000000
 | [],_,_,_,x,h=>by simp at h
 | y :: l,last,h,h0,x,hx=>by
  simp only [Wy,Bool.and_eq_true,inR,decide_eq_true_eq] at h
  rcases List.mem_cons.1 hx with rfl | hx
  . omega
  . exact Zbk h.2 (by omega) x hx
end Go.Azalai
namespace Go.Proofs.YtiigiflofnjilaaGreat
open Go Go.Sx Go.Azalai
def Zo (n:Int):List SV:=[I n]
def Zd (s:Span):List SV:=[I s.lo,I s.hi]
def Zg (g:Gate):List SV:=[I g.opens.lo,I g.opens.hi,I g.shuts.lo,I g.shuts.hi]
def Ze (w:Well):List SV:=[I w.x,I w.y,I w.depth,I w.yld.lo,I w.yld.hi,I w.room,I w.has.lo,I w.has.hi,I w.owner]
def Zm (x:Leg):List SV:=[I x.a,I x.b,I x.long.lo,I x.long.hi,.sl false 4 (x.gates.map Zg)]
def ZY (l:Land):List SV:=[.sl false 9 (l.wells.map Ze),.sl false 5 (l.legs.map Zm)]
def Z1 (d:Draw):List SV:=[I d.well,I d.day,I d.water]
theorem W6 {α : Type} (g:α->Bool) (l:List α):decide (WC g l 0 ≥ 0)=l.any g:=Zfh g l 0
theorem ZmF (h:Nat) (caps:List SV) (hk:KFL caps) (g:Int->Bool) (l:List Int) (hg:∀ x ∈ l,Ct Tryz.prog h (I x :: caps) (B (g x))) (hl:l.length < 4611686018427387904) {c:Bool} :
 Ct Tryz.prog 141 [.sl c 1 (l.map Zo),.cl h caps] (I (WC g l 0)):=by
 refine t141.1 ⟨by simp [KF,Za,KFL,Zo],hk,trivial⟩ (by simp [KF]) ?_
 dsimp only [c141,r141,go_sem,rA,rM,rS]
 refine Xu (fun k:Nat=>[(8,I k)]) (fun _=>[]) (fun k=>k<=l.length/\WC g (l.drop k) k=WC g l 0) (fun k=>l.length - k) 0 ⟨Nat.zero_le _,rfl⟩ ?_ ?_
 . (refine Zk ?_ ?_ ?_ rfl rfl<;>dsimp only [Zo,hk,id,go_sem,rA,rM,rS]<;>simp [Zo,hk,Za,Zf,KFR,KFL,KF,Zc,mtO,nbr])
 . intro k ⟨hk',hi⟩
   dsimp only [go_sem,rA,rM,rS]
   refine br ?_ ?_
   . intro hlt
     have hlt:k < l.length:=by simpa using hlt
     dsimp only [go_sem,rA,rM,rS]
     refine Zr k hlt rfl ?_
     dsimp only [Zo,go_sem,rA,rM,rS]
     refine call (hg l[k] (List.getElem_mem _)) ?_
     dsimp only [go_sem,rA,rM,rS]
     refine br ?_ ?_
     . intro hgx
       dsimp only [go_sem,rA,rM,rS]
       rw [<- hi,List.drop_eq_getElem_cons hlt]
       simp [WC,hgx]
     . intro hgx
       dsimp only [go_sem,rA,rM,rS]
       refine ⟨k+1,⟨by omega,?_⟩,by omega,?_⟩
       . rw [<- hi,List.drop_eq_getElem_cons hlt];simp [WC,hgx]
       . rw [Zi (by omega) (by omega)]
         (refine Zk ?_ ?_ ?_ rfl rfl<;>dsimp only [Zo,hk,id,go_sem,rA,rM,rS]<;>simp [Zo,hk,Za,Zf,KFR,KFL,KF,Zc,mtO,nbr])
   . intro hlt
     have hlt:k=l.length:=by simp at hlt;omega
     dsimp only [go_sem,rA,rM,rS]
     rw [<- hi,hlt];simp [WC]
theorem Zz5 (h:Nat) (caps:List SV) (hk:KFL caps) (g:Int->Bool) (l:List Int) (hg:∀ x ∈ l,Ct Tryz.prog h (I x :: caps) (B (g x))) (hl:l.length < 4611686018427387904) {c:Bool} :
 Ct Tryz.prog 98 [.sl c 1 (l.map Zo),.cl h caps] (B (l.any g)):=by
 refine t98.1 ⟨by simp [KF,Za,KFL,Zo],hk,trivial⟩ (by simp [KF]) ?_
 dsimp only [c98,r98,go_sem,rA,rM,rS]
 refine call (ZmF h caps hk g l hg hl) ?_
 dsimp only [go_sem,rA,rM,rS]
 rw [W6]
theorem idx95 (h:Nat) (caps:List SV) (hk:KFL caps) (g:Well->Bool) (l:List Well) (hg:∀ x ∈ l,Ct Tryz.prog h (.agg (Ze x) :: caps) (B (g x))) (hl:l.length < 4611686018427387904) {c:Bool} :
 Ct Tryz.prog 161 [.sl c 9 (l.map Ze),.cl h caps] (I (WC g l 0)):=by
 refine t161.1 ⟨by simp [KF,Za,KFL,Ze],hk,trivial⟩ (by simp [KF]) ?_
 dsimp only [c161,r161,go_sem,rA,rM,rS]
 refine Xu (fun k:Nat=>[(8,I k)]) (fun _=>[]) (fun k=>k<=l.length/\WC g (l.drop k) k=WC g l 0) (fun k=>l.length - k) 0 ⟨Nat.zero_le _,rfl⟩ ?_ ?_
 . (refine Zk ?_ ?_ ?_ rfl rfl<;>dsimp only [Ze,hk,id,go_sem,rA,rM,rS]<;>simp [Ze,hk,Za,Zf,KFR,KFL,KF,Zc,mtO,nbr])
 . intro k ⟨hk',hi⟩
   dsimp only [go_sem,rA,rM,rS]
   refine br ?_ ?_
   . intro hlt
     have hlt:k < l.length:=by simpa using hlt
     dsimp only [go_sem,rA,rM,rS]
     refine Zr k hlt rfl ?_
     dsimp only [Ze,go_sem,rA,rM,rS]
     refine call (hg l[k] (List.getElem_mem _)) ?_
     dsimp only [go_sem,rA,rM,rS]
     refine br ?_ ?_
     . intro hgx
       dsimp only [go_sem,rA,rM,rS]
       rw [<- hi,List.drop_eq_getElem_cons hlt]
       simp [WC,hgx]
     . intro hgx
       dsimp only [go_sem,rA,rM,rS]
       refine ⟨k+1,⟨by omega,?_⟩,by omega,?_⟩
       . rw [<- hi,List.drop_eq_getElem_cons hlt];simp [WC,hgx]
       . rw [Zi (by omega) (by omega)]
         (refine Zk ?_ ?_ ?_ rfl rfl<;>dsimp only [Ze,hk,id,go_sem,rA,rM,rS]<;>simp [Ze,hk,Za,Zf,KFR,KFL,KF,Zc,mtO,nbr])
   . intro hlt
     have hlt:k=l.length:=by simp at hlt;omega
     dsimp only [go_sem,rA,rM,rS]
     rw [<- hi,hlt];simp [WC]
theorem con71 (h:Nat) (caps:List SV) (hk:KFL caps) (g:Well->Bool) (l:List Well) (hg:∀ x ∈ l,Ct Tryz.prog h (.agg (Ze x) :: caps) (B (g x))) (hl:l.length < 4611686018427387904) {c:Bool} :
 Ct Tryz.prog 129 [.sl c 9 (l.map Ze),.cl h caps] (B (l.any g)):=by
 refine t129.1 ⟨by simp [KF,Za,KFL,Ze],hk,trivial⟩ (by simp [KF]) ?_
 dsimp only [c129,r129,go_sem,rA,rM,rS]
 refine call (idx95 h caps hk g l hg hl) ?_
 dsimp only [go_sem,rA,rM,rS]
 rw [W6]
theorem idx96 (h:Nat) (caps:List SV) (hk:KFL caps) (g:Leg->Bool) (l:List Leg) (hg:∀ x ∈ l,Ct Tryz.prog h (.agg (Zm x) :: caps) (B (g x))) (hl:l.length < 4611686018427387904) {c:Bool} :
 Ct Tryz.prog 162 [.sl c 5 (l.map Zm),.cl h caps] (I (WC g l 0)):=by
 refine t162.1 ⟨by simp [KF,Za,KFL,Zm,Zg],hk,trivial⟩ (by simp [KF]) ?_
 dsimp only [c162,r162,go_sem,rA,rM,rS]
 refine Xu (fun k:Nat=>[(8,I k)]) (fun _=>[]) (fun k=>k<=l.length/\WC g (l.drop k) k=WC g l 0) (fun k=>l.length - k) 0 ⟨Nat.zero_le _,rfl⟩ ?_ ?_
 . (refine Zk ?_ ?_ ?_ rfl rfl<;>dsimp only [Zm,Zg,hk,id,go_sem,rA,rM,rS]<;>simp [Zm,Zg,hk,Za,Zf,KFR,KFL,KF,Zc,mtO,nbr])
 . intro k ⟨hk',hi⟩
   dsimp only [go_sem,rA,rM,rS]
   refine br ?_ ?_
   . intro hlt
     have hlt:k < l.length:=by simpa using hlt
     dsimp only [go_sem,rA,rM,rS]
     refine Zr k hlt rfl ?_
     dsimp only [Zm,go_sem,rA,rM,rS]
     refine call (hg l[k] (List.getElem_mem _)) ?_
     dsimp only [go_sem,rA,rM,rS]
     refine br ?_ ?_
     . intro hgx
       dsimp only [go_sem,rA,rM,rS]
       rw [<- hi,List.drop_eq_getElem_cons hlt]
       simp [WC,hgx]
     . intro hgx
       dsimp only [go_sem,rA,rM,rS]
       refine ⟨k+1,⟨by omega,?_⟩,by omega,?_⟩
       . rw [<- hi,List.drop_eq_getElem_cons hlt];simp [WC,hgx]
       . rw [Zi (by omega) (by omega)]
         (refine Zk ?_ ?_ ?_ rfl rfl<;>dsimp only [Zm,Zg,hk,id,go_sem,rA,rM,rS]<;>simp [Zm,Zg,hk,Za,Zf,KFR,KFL,KF,Zc,mtO,nbr])
   . intro hlt
     have hlt:k=l.length:=by simp at hlt;omega
     dsimp only [go_sem,rA,rM,rS]
     rw [<- hi,hlt];simp [WC]
theorem con74 (h:Nat) (caps:List SV) (hk:KFL caps) (g:Leg->Bool) (l:List Leg) (hg:∀ x ∈ l,Ct Tryz.prog h (.agg (Zm x) :: caps) (B (g x))) (hl:l.length < 4611686018427387904) {c:Bool} :
 Ct Tryz.prog 132 [.sl c 5 (l.map Zm),.cl h caps] (B (l.any g)):=by
 refine t132.1 ⟨by simp [KF,Za,KFL,Zm,Zg],hk,trivial⟩ (by simp [KF]) ?_
 dsimp only [c132,r132,go_sem,rA,rM,rS]
 refine call (idx96 h caps hk g l hg hl) ?_
 dsimp only [go_sem,rA,rM,rS]
 rw [W6]
theorem ZAV (h:Nat) (caps:List SV) (hk:KFL caps) (g:Span->Bool) (l:List Span) (hg:∀ x ∈ l,Ct Tryz.prog h (.agg (Zd x) :: caps) (B (g x))) (hl:l.length < 4611686018427387904) {c:Bool} :
 Ct Tryz.prog 143 [.sl c 2 (l.map Zd),.cl h caps] (I (WC g l 0)):=by
 refine t143.1 ⟨by simp [KF,Za,KFL,Zd],hk,trivial⟩ (by simp [KF]) ?_
 dsimp only [c143,r143,go_sem,rA,rM,rS]
 refine Xu (fun k:Nat=>[(8,I k)]) (fun _=>[]) (fun k=>k<=l.length/\WC g (l.drop k) k=WC g l 0) (fun k=>l.length - k) 0 ⟨Nat.zero_le _,rfl⟩ ?_ ?_
 . (refine Zk ?_ ?_ ?_ rfl rfl<;>dsimp only [Zd,hk,id,go_sem,rA,rM,rS]<;>simp [Zd,hk,Za,Zf,KFR,KFL,KF,Zc,mtO,nbr])
 . intro k ⟨hk',hi⟩
   dsimp only [go_sem,rA,rM,rS]
   refine br ?_ ?_
   . intro hlt
     have hlt:k < l.length:=by simpa using hlt
     dsimp only [go_sem,rA,rM,rS]
     refine Zr k hlt rfl ?_
     dsimp only [Zd,go_sem,rA,rM,rS]
     refine call (hg l[k] (List.getElem_mem _)) ?_
     dsimp only [go_sem,rA,rM,rS]
     refine br ?_ ?_
     . intro hgx
       dsimp only [go_sem,rA,rM,rS]
       rw [<- hi,List.drop_eq_getElem_cons hlt]
       simp [WC,hgx]
     . intro hgx
       dsimp only [go_sem,rA,rM,rS]
       refine ⟨k+1,⟨by omega,?_⟩,by omega,?_⟩
       . rw [<- hi,List.drop_eq_getElem_cons hlt];simp [WC,hgx]
       . rw [Zi (by omega) (by omega)]
         (refine Zk ?_ ?_ ?_ rfl rfl<;>dsimp only [Zd,hk,id,go_sem,rA,rM,rS]<;>simp [Zd,hk,Za,Zf,KFR,KFL,KF,Zc,mtO,nbr])
   . intro hlt
     have hlt:k=l.length:=by simp at hlt;omega
     dsimp only [go_sem,rA,rM,rS]
     rw [<- hi,hlt];simp [WC]
theorem Zta (h:Nat) (caps:List SV) (hk:KFL caps) (g:Span->Bool) (l:List Span) (hg:∀ x ∈ l,Ct Tryz.prog h (.agg (Zd x) :: caps) (B (g x))) (hl:l.length < 4611686018427387904) {c:Bool} :
 Ct Tryz.prog 102 [.sl c 2 (l.map Zd),.cl h caps] (B (l.any g)):=by
 refine t102.1 ⟨by simp [KF,Za,KFL,Zd],hk,trivial⟩ (by simp [KF]) ?_
 dsimp only [c102,r102,go_sem,rA,rM,rS]
 refine call (ZAV h caps hk g l hg hl) ?_
 dsimp only [go_sem,rA,rM,rS]
 rw [W6]
theorem X2 (n lo hi:Int):Ct Tryz.prog 88 [I n,I lo,I hi] (B (inR lo hi n)):=by
 refine t88.1 (by simp [KFL,KF]) (by simp [KFL,KF]) ?_
 dsimp only [c88,r88,go_sem,rA,rM,rS]
 refine gb ?_;dsimp only [go_sem,rA,rM,rS]
 refine gb ?_;dsimp only [go_sem,rA,rM,rS]
 refine gb ?_;dsimp only [go_sem,rA,rM,rS]
 simp [inR]
theorem ZR (s:Span) (lo hi:Int):Ct Tryz.prog 137 [.agg (Zd s),I lo,I hi] (B (Z3 lo hi s)):=by
 refine t137.1 (by simp [Zd,KFL,KF]) (by simp [KFL,KF]) ?_
 dsimp only [c137,r137,Zd,go_sem,rA,rM,rS]
 refine call (X2 _ _ _) ?_
 dsimp only [go_sem,rA,rM,rS]
 repeat (refine gb ?_;dsimp only [go_sem,rA,rM,rS])
 (simp only [Z3,inR,Option.some.injEq,SV.v.injEq,Value.bool.injEq]<;>grind)
theorem Zdd (lo hi x:Int):Ct Tryz.prog 121 [I x,.ps [I lo] 0,.ps [I hi] 0] (B (!inR lo hi x)):=by
 refine t121.1 (by simp [KFL,KF]) (by simp [KFL,KF]) ?_
 dsimp only [c121,r121,go_sem,rA,rM,rS]
 repeat (refine gb ?_;dsimp only [go_sem,rA,rM,rS])
 (simp only [inR,Option.some.injEq,SV.v.injEq,Value.bool.injEq]<;>grind)
theorem UB (lo hi:Int) (l:List Int) (hl:l.length < 4611686018427387904) (c:Bool):Ct Tryz.prog 76 [I lo,I hi,.sl c 1 (l.map Zo)] (B (l.all (inR lo hi))):=by
 refine t76.1 (by simp [Za,Zo,KFL,KF]) (by simp [KFL,KF]) ?_
 dsimp only [c76,r76,go_sem,rA,rM,rS]
 refine UF (by simp [FLT]) (res:=B (l.any fun x=>!inR lo hi x)) ?_ ?_
 . dsimp only [go_sem,rA,rM,rS]
   exact Zz5 121 [.ps [I lo] 0,.ps [I hi] 0] (by simp [KFL,KF]) (fun x=>!inR lo hi x) l (fun x _=>Zdd lo hi x) hl
 . dsimp only [go_sem,rA,rM,rS]
   simp [List.all_eq_not_any_not]
theorem Zas (lo hi a:Int) (c:Bool):Ct Tryz.prog 76 [I lo,I hi,.sl c 1 [[I a]]] (B (inR lo hi a)):=by
 have:=UB lo hi [a] (by simp) c
 simpa [Zo] using this
theorem ZeQ (lo hi a b:Int) (c:Bool):Ct Tryz.prog 76 [I lo,I hi,.sl c 1 [[I a],[I b]]] (B (inR lo hi a && inR lo hi b)):=by
 have:=UB lo hi [a,b] (by simp) c
 simpa [Zo] using this
theorem Uq (lo hi:Int) (s:Span):Ct Tryz.prog 158 [.agg (Zd s),.ps [I lo] 0,.ps [I hi] 0] (B (!Z3 lo hi s)):=by
 refine t158.1 (by simp [Zd,KFL,KF]) (by simp [KFL,KF]) ?_
 dsimp only [c158,r158,Zd,go_sem,rA,rM,rS]
 repeat (first | (refine gb ?_;dsimp only [go_sem,rA,rM,rS]) | (refine call (ZeQ _ _ _ _ _) ?_;dsimp only [go_sem,rA,rM,rS]))
 (simp only [Z3,inR,Option.some.injEq,SV.v.injEq,Value.bool.injEq]<;>grind)
theorem XA (lo hi:Int) (l:List Span) (hl:l.length < 4611686018427387904) (c:Bool):Ct Tryz.prog 120 [I lo,I hi,.sl c 2 (l.map Zd)] (B (l.all (Z3 lo hi))):=by
 refine t120.1 (by simp [Za,Zd,KFL,KF]) (by simp [KFL,KF]) ?_
 dsimp only [c120,r120,go_sem,rA,rM,rS]
 refine UF (by simp [FLT]) (res:=B (l.any fun x=>!Z3 lo hi x)) ?_ ?_
 . dsimp only [go_sem,rA,rM,rS]
   exact Zta 158 [.ps [I lo] 0,.ps [I hi] 0] (by simp [KFL,KF]) (fun x=>!Z3 lo hi x) l (fun x _=>Uq lo hi x) hl
 . dsimp only [go_sem,rA,rM,rS]
   simp [List.all_eq_not_any_not]
theorem Xl (lo hi:Int) (s:Span) (c:Bool):Ct Tryz.prog 120 [I lo,I hi,.sl c 2 [[I s.lo,I s.hi]]] (B (Z3 lo hi s)):=by
 have:=XA lo hi [s] (by simp) c
 simpa [Zd] using this
theorem ZdC (lo hi:Int) (s t:Span) (c:Bool):Ct Tryz.prog 120 [I lo,I hi,.sl c 2 [[I s.lo,I s.hi],[I t.lo,I t.hi]]] (B (Z3 lo hi s && Z3 lo hi t)):=by
 have:=XA lo hi [s,t] (by simp) c
 simpa [Zd] using this
theorem ZAS (w:Well):Ct Tryz.prog 131 [.agg (Ze w)] (B (Yy w)):=by
 refine t131.1 (by simp [Ze,KFL,KF]) (by simp [KFL,KF]) ?_
 dsimp only [c131,r131,Ze,go_sem,rA,rM,rS]
 repeat (first | (refine gb ?_;dsimp only [go_sem,rA,rM,rS]) | (refine call (Zas _ _ _ _) ?_;dsimp only [go_sem,rA,rM,rS]) | (refine call (ZeQ _ _ _ _ _) ?_;dsimp only [go_sem,rA,rM,rS]) | (refine call (Xl _ _ w.yld _) ?_;dsimp only [go_sem,rA,rM,rS]) | (refine call (Xl _ _ w.has _) ?_;dsimp only [go_sem,rA,rM,rS]))
 simp [Yy,Bool.and_assoc]
theorem Zhq (x:Leg) (n:Int) (h0:0<=n) (h1:n<=1000) (hg:x.gates.length < 4611686018427387904):Ct Tryz.prog 134 [.agg (Zm x),I n] (B (WP n x)):=by
 have hw:IntKind.i64.wrap (n - 1)=n - 1:=Zi (by omega) (by omega)
 refine t134.1 (by simp [Zm,Za,Zg,KFL,KF]) (by simp [KFL,KF]) ?_
 dsimp only [c134,r134,Zm,hw,go_sem,rA,rM,rS]
 simp only [hw]
 repeat (first | (refine gb ?_;dsimp only [go_sem,rA,rM,rS]) | (refine call (ZeQ _ _ _ _ _) ?_;dsimp only [go_sem,rA,rM,rS]) | (refine call (Xl _ _ x.long _) ?_;dsimp only [go_sem,rA,rM,rS]))
 simp only [List.length_map]
 refine br ?_ ?_
 . intro h
   dsimp only [go_sem,rA,rM,rS]
   (simp only [WP,Option.some.injEq,SV.v.injEq,Value.bool.injEq]<;>grind)
 . intro h
   dsimp only [go_sem,rA,rM,rS]
   have hh:WP n x=YH 0 x.gates:=by simp only [WP];grind
   rw [hh]
   refine Xu (fun s:Nat × Int=>[(40,I s.1),(5,I s.2)]) (fun _=>[]) (fun s=>s.1<=x.gates.length/\YH s.2 (x.gates.drop s.1)=YH 0 x.gates) (fun s=>x.gates.length - s.1) (0,0) ⟨Nat.zero_le _,rfl⟩ ?_ ?_
   . (refine Zk ?_ ?_ ?_ rfl rfl<;>dsimp only [Zg,id,go_sem,rA,rM,rS]<;>simp [Zg,Za,Zf,KFR,KFL,KF,Zc,mtO,nbr])
   . rintro ⟨k,next⟩ ⟨hk,hi⟩
     dsimp only [go_sem,rA,rM,rS]
     refine br ?_ ?_
     . intro hlt
       have hlt:k < x.gates.length:=by simpa using hlt
       dsimp only [go_sem,rA,rM,rS]
       refine Zr k hlt rfl ?_
       dsimp only [Zg,go_sem,rA,rM,rS]
       repeat (first | (refine gb ?_;dsimp only [go_sem,rA,rM,rS]) | (refine call (ZdC _ _ x.gates[k].opens x.gates[k].shuts _) ?_;dsimp only [go_sem,rA,rM,rS]) | (refine call (Zas _ _ _ _) ?_;dsimp only [go_sem,rA,rM,rS]))
       have hd:x.gates.drop k=x.gates[k] :: x.gates.drop (k+1):=List.drop_eq_getElem_cons hlt
       refine br ?_ ?_
       . intro hb
         dsimp only [go_sem,rA,rM,rS]
         rw [<- hi,hd]
         (simp only [YH,Option.some.injEq,SV.v.injEq,Value.bool.injEq]<;>grind)
       . intro hb
         dsimp only [go_sem,rA,rM,rS]
         have hs:Z3 0 100000 x.gates[k].shuts=true:=by grind
         simp only [Z3,decide_eq_true_eq] at hs
         rw [Zi (n:=x.gates[k].shuts.hi+1) (by omega) (by omega),Zi (n:=(k:Int)+1) (by omega) (by omega)]
         refine ⟨(k+1,x.gates[k].shuts.hi+1),⟨hlt,?_⟩,by simp only;omega,?_⟩
         . rw [<- hi,hd];simp only [YH];grind
         . (refine Zk ?_ ?_ ?_ rfl rfl<;>dsimp only [Zg,id,go_sem,rA,rM,rS]<;>simp [Zg,Za,Zf,KFR,KFL,KF,Zc,mtO,nbr])
     . intro hlt
       have hlt:k=x.gates.length:=by simp at hlt;omega
       dsimp only [go_sem,rA,rM,rS]
       rw [<- hi,hlt];simp [YH]
theorem ZuE (l:Land) (x:Leg) (hs:WM l) (hx:x ∈ l.legs):Ct Tryz.prog 133 [.agg (Zm x),.ps (ZY l) 0] (B (!WP l.wells.length x)):=by
 have hg:=hs.2.2 x hx
 refine t133.1 (by simp [Zm,ZY,Ze,Zg,Za,KFL,KF]) (by simp [KFL,KF]) ?_
 dsimp only [c133,r133,Zm,ZY,go_sem,rA,rM,rS]
 simp only [List.length_map]
 refine call (Zhq x l.wells.length (by omega) (by have:=hs.1;omega) (by omega)) ?_
 dsimp only [go_sem,rA,rM,rS]
theorem ZoL (w:Well):Ct Tryz.prog 130 [.agg (Ze w)] (B (!Yy w)):=by
 refine t130.1 (by simp [Ze,KFL,KF]) (by simp [KFL,KF]) ?_
 dsimp only [c130,r130,Ze,go_sem,rA,rM,rS]
 refine call (ZAS w) ?_
 dsimp only [go_sem,rA,rM,rS]
theorem ZdN (l:Land) (hs:WM l):Ct Tryz.prog 85 [.agg (ZY l)] (I (if ZA l=true then 0 else 30)):=by
 refine t85.1 (by simp [ZY,Ze,Zm,Zg,Za,KFL,KF]) (by simp [KFL,KF]) ?_
 dsimp only [c85,r85,ZY,go_sem,rA,rM,rS]
 refine call (con71 130 [] (by simp [KFL]) (fun w=>!Yy w) l.wells (fun w _=>ZoL w) (by have:=hs.1;omega)) ?_
 dsimp only [go_sem,rA,rM,rS]
 refine UF (res:=B (l.legs.any fun x=>!WP l.wells.length x)) (by simp [FLT]) ?_ ?_
 . dsimp only [go_sem,rA,rM,rS]
   exact con74 133 [.ps (ZY l) 0] (by simp [ZY,Ze,Zm,Zg,Za,KFL,KF]) (fun x=>!WP l.wells.length x) l.legs (fun x hx=>ZuE l x hs hx) (by have:=hs.2.1;omega)
 dsimp only [go_sem,rA,rM,rS]
 repeat (first | (refine gb ?_;dsimp only [go_sem,rA,rM,rS]) | (refine call (Zas _ _ _ _) ?_;dsimp only [go_sem,rA,rM,rS]))
 simp only [List.length_map]
 have key:ZA l = !(!inR 1 12 l.wells.length || decide ((l.legs.length:Int) > 24) || !(!l.wells.any fun w=>!Yy w) || !(!l.legs.any fun x=>!WP l.wells.length x)):=by
  simp only [ZA,List.all_eq_not_any_not];grind
 rw [key]
 refine br ?_ ?_
 . intro h
   dsimp only [go_sem,rA,rM,rS]
   rw [h];rfl
 . intro h
   dsimp only [go_sem,rA,rM,rS]
   rw [h];rfl
theorem Ze4 {w:Well} {s:Span} {n:Int} (hw:Yy w=true) (h1:0<=s.lo) (h2:s.lo<=w.room) (h3:0<=s.hi) (h4:s.hi<=w.room) (h5:-200000<=n) (h6:n<=200000) :
 IntKind.i64.wrap (s.lo+IntKind.i64.wrap (n * w.yld.lo))=s.lo+n * w.yld.lo/\IntKind.i64.wrap (s.hi+IntKind.i64.wrap (n * w.yld.hi))=s.hi+n * w.yld.hi:=by
 simp only [Yy,Z3,inR,Bool.and_eq_true,decide_eq_true_eq] at hw
 have key:∀ y:Int,0<=y->y<=10000000->-2000000000000<=n * y/\n * y<=2000000000000:=fun y a b=>by
  constructor
  . have:=Int.mul_le_mul_of_nonneg_right h5 a;omega
  . have:=Int.mul_le_mul_of_nonneg_right h6 a;omega
 have k1:=key w.yld.lo (by omega) (by omega)
 have k2:=key w.yld.hi (by omega) (by omega)
 rw [Zi (n:=n * w.yld.lo) (by omega) (by omega),Zi (n:=n * w.yld.hi) (by omega) (by omega),Zi (by omega) (by omega),Zi (by omega) (by omega)]
 exact ⟨rfl,rfl⟩
theorem ZlK {w:Well} {s:Span} {n:Int} (hw:Yy w=true) (h1:0<=s.lo) (h2:s.lo<=w.room) (h3:0<=s.hi) (h4:s.hi<=w.room) (h5:-200000<=n) (h6:n<=200000):-2000000000000<=(Wo w s n).lo:=by
 simp only [Yy,Z3,inR,Bool.and_eq_true,decide_eq_true_eq] at hw
 have k1:-2000000000000<=n * w.yld.lo:=by
  have:=Int.mul_le_mul_of_nonneg_right h5 (show 0<=w.yld.lo by omega);omega
 simp only [Wo];omega
theorem Zes (w:Well) (s:Span) (n:Int) (hw:Yy w=true) (h1:0<=s.lo) (h2:s.lo<=w.room) (h3:0<=s.hi) (h4:s.hi<=w.room) (h5:-200000<=n) (h6:n<=200000) :
 Ct Tryz.prog 86 [.agg (Ze w),.agg (Zd s),I n] (.agg (Zd (Wo w s n))):=by
 obtain ⟨k1,k2⟩:=Ze4 hw h1 h2 h3 h4 h5 h6
 refine t86.1 (by simp [Ze,Zd,KFL,KF]) (by simp [Zd,KFL,KF]) ?_
 dsimp only [c86,r86,Ze,Zd,go_sem,rA,rM,rS]
 simp only [k1,k2,Wo]
def Zoe (r:Span × Int × Int):SV:=.tup [.agg (Zd r.1),I r.2.1,I r.2.2]
theorem Zse {l:Land} {well:Int} (h:inR 0 (l.wells.length - 1) well=true):∃ (k:Nat) (hk:k < l.wells.length),well=(k:Int)/\l.wells[well.toNat]? = some l.wells[k]:=by
 simp only [inR,decide_eq_true_eq] at h
 refine ⟨well.toNat,by omega,by omega,?_⟩
 rw [List.getElem?_eq_getElem (by omega)]
theorem Zou (l:Land) (hs:WM l) (well day:Int) (draws:List Draw) (hd:draws.length<=1000) :
 Ct Tryz.prog 42 [.agg (ZY l),I well,.sl false 3 (draws.map Z1),I day] (Zoe (XP l well draws day)):=by
 have hw1:IntKind.i64.wrap ((l.wells.length:Int) - 1)=(l.wells.length:Int) - 1:=Zi (by omega) (by have:=hs.1;omega)
 refine t42.1 (by simp [ZY,Ze,Zm,Zg,Z1,Za,KFL,KF]) (by simp [Zoe,Zd,KFL,KF]) ?_
 dsimp only [c42,r42,ZY,go_sem,rA,rM,rS]
 refine call (ZdN l hs) ?_
 dsimp only [go_sem,rA,rM,rS]
 by_cases ho:ZA l=true
 case neg =>
  rw [if_neg ho]
  refine Zu rfl ?_
  dsimp only [go_sem,rA,rM,rS]
  simp [XP,ho,Zoe,Zd]
 rw [if_pos ho]
 refine Zx rfl ?_
 dsimp only [go_sem,rA,rM,rS]
 simp only [List.length_map,hw1]
 repeat (first | (refine gb ?_;dsimp only [go_sem,rA,rM,rS]) | (refine call (Zas _ _ _ _) ?_;dsimp only [go_sem,rA,rM,rS]))
 by_cases ha:(inR 0 (l.wells.length - 1) well && inR 0 100000 day)=true
 case neg =>
  refine Zu (by grind) ?_
  dsimp only [go_sem,rA,rM,rS]
  simp [XP,ho,Zoe,Zd,ha]
 refine Zx (by grind) ?_
 dsimp only [go_sem,rA,rM,rS]
 by_cases hm:draws.length > 200
 case pos =>
  refine Zu (by simp;omega) ?_
  dsimp only [go_sem,rA,rM,rS]
  simp [XP,ho,Zoe,Zd,ha,hm]
 refine Zx (by simp;omega) ?_
 dsimp only [go_sem,rA,rM,rS]
 refine Xu (fun s:Nat × Int=>[(50,I s.1),(12,I s.2)]) (fun _=>[]) (fun s=>s.1<=draws.length/\Wy l.wells.length s.2 (draws.drop s.1)=Wy l.wells.length 0 draws) (fun s=>draws.length - s.1) (0,0) ⟨Nat.zero_le _,rfl⟩ ?_ ?_
 . (refine Zk ?_ ?_ ?_ rfl rfl<;>dsimp only [Zg,Ze,Zm,Z1,id,go_sem,rA,rM,rS]<;>simp [Zg,Ze,Zm,Z1,Za,Zf,KFR,KFL,KF,Zc,mtO,nbr])
 . rintro ⟨k,last⟩ ⟨hk,hi⟩
   simp only at hk hi
   dsimp only [go_sem,rA,rM,rS]
   by_cases hlt:k < draws.length
   . refine Zu (by simpa using hlt) ?_
     dsimp only [go_sem,rA,rM,rS]
     refine Zr k hlt rfl ?_
     dsimp only [Z1,go_sem,rA,rM,rS]
     simp only [List.length_map,hw1]
     repeat (first | (refine gb ?_;dsimp only [go_sem,rA,rM,rS]) | (refine call (Zas _ _ _ _) ?_;dsimp only [go_sem,rA,rM,rS]))
     have hdr:draws.drop k=draws[k] :: draws.drop (k+1):=List.drop_eq_getElem_cons hlt
     rw [hdr] at hi
     simp only [Wy] at hi
     refine br ?_ ?_
     . intro h
       dsimp only [go_sem,rA,rM,rS]
       have:Wy l.wells.length 0 draws=false:=by rw [<- hi];grind
       simp [XP,ho,Zoe,Zd,ha,hm,this]
     . intro h
       dsimp only [go_sem,rA,rM,rS]
       rw [Zi (n:=(k:Int)+1) (by omega) (by omega)]
       refine ⟨(k+1,draws[k].day),⟨hlt,?_⟩,by simp only;omega,?_⟩
       . simp only;grind
       . (refine Zk ?_ ?_ ?_ rfl rfl<;>dsimp only [Zg,Ze,Zm,Z1,id,go_sem,rA,rM,rS]<;>simp [Zg,Ze,Zm,Z1,Za,Zf,KFR,KFL,KF,Zc,mtO,nbr])
   . refine Zx (by simp;omega) ?_
     dsimp only [go_sem,rA,rM,rS]
     have hk':k=draws.length:=by omega
     subst hk'
     simp only [List.drop_length,Wy] at hi
     obtain ⟨kw,hkw,rfl,hget⟩:=Zse (Bool.and_eq_true_iff.1 ha).1
     refine Zr kw hkw rfl ?_
     dsimp only [Ze,go_sem,rA,rM,rS]
     have hwf:XP l kw draws day=Vw l.wells[kw] kw day l.wells[kw].has (-1) 0 draws:=by
      simp only [XP,ho,ha,hm,<- hi,hget];simp
     rw [hwf]
     have hok:=Up ho l.wells[kw] (List.getElem_mem _)
     have hmem:=Zbk hi.symm (Int.le_refl _)
     have hday:0<=day/\day<=100000:=by simp only [inR,Bool.and_eq_true,decide_eq_true_eq] at ha;omega
     have hroom:0<=l.wells[kw].has.lo/\l.wells[kw].has.lo<=l.wells[kw].room/\0<=l.wells[kw].has.hi/\l.wells[kw].has.hi<=l.wells[kw].room/\l.wells[kw].room<=1000000000:=by
      simp only [Yy,Z3,inR,Bool.and_eq_true,decide_eq_true_eq] at hok;omega
     have hroom2:∀ x:Int,x<=l.wells[kw].room->x<=1000000000:=fun x h=>by omega
     refine Xu (fun s:Nat × Span × Int=>[(91,I s.1),(17,I s.2.2)]) (fun s=>[(3,.cells (Zd s.2.1) 27)])
      (fun s=>s.1<=draws.length/\Vw l.wells[kw] kw day s.2.1 s.2.2 s.1 (draws.drop s.1)=Vw l.wells[kw] kw day l.wells[kw].has (-1) 0 draws /\
       0<=s.2.1.lo/\s.2.1.lo<=l.wells[kw].room/\0<=s.2.1.hi/\s.2.1.hi<=l.wells[kw].room/\-1<=s.2.2/\s.2.2<=100000) (fun s=>draws.length - s.1) (0,l.wells[kw].has,-1)
      ⟨Nat.zero_le _,rfl,hroom.1,hroom.2.1,hroom.2.2.1,hroom.2.2.2.1,by simp,by simp⟩ ?_ ?_
     . (refine Zk ?_ ?_ ?_ rfl rfl<;>dsimp only [Zg,Ze,Zm,Z1,Zd,id,go_sem,rA,rM,rS]<;>simp [Zg,Ze,Zm,Z1,Zd,Za,Zf,KFR,KFL,KF,Zc,mtO,nbr])
     . rintro ⟨k,now,ev⟩ ⟨hk2,hi2,n1,n2,n3,n4,e1,e2⟩
       simp only at hk2 hi2 n1 n2 n3 n4 e1 e2
       dsimp only [Zd,go_sem,rA,rM,rS]
       by_cases hlt2:k < draws.length
       . refine Zu (by simpa using hlt2) ?_
         dsimp only [go_sem,rA,rM,rS]
         refine Zr k hlt2 rfl ?_
         dsimp only [Z1,go_sem,rA,rM,rS]
         repeat (first | (refine gb ?_;dsimp only [go_sem,rA,rM,rS]))
         have hx:=hmem draws[k] (List.getElem_mem _)
         have hdr:draws.drop k=draws[k] :: draws.drop (k+1):=List.drop_eq_getElem_cons hlt2
         rw [hdr] at hi2
         simp only [Vw] at hi2
         by_cases hc:(draws[k].well != (kw:Int) || decide (draws[k].day ≥ day))=true
         . refine Zu hc ?_
           dsimp only [go_sem,rA,rM,rS]
           rw [if_pos hc] at hi2
           rw [Zi (n:=(k:Int)+1) (by omega) (by omega)]
           refine ⟨(k+1,now,ev),⟨hlt2,hi2,n1,n2,n3,n4,e1,e2⟩,by simp only;omega,?_⟩
           (refine Zk ?_ ?_ ?_ rfl rfl<;>dsimp only [Zg,Ze,Zm,Z1,Zd,id,go_sem,rA,rM,rS]<;>simp [Zg,Ze,Zm,Z1,Zd,Za,Zf,KFR,KFL,KF,Zc,mtO,nbr])
         . refine Zx (by simpa using hc) ?_
           rw [if_neg hc] at hi2
           dsimp only [go_sem,rA,rM,rS]
           rw [Zi (n:=draws[k].day - ev) (by omega) (by omega)]
           refine call (Zes l.wells[kw] now (draws[k].day - ev) hok n1 n2 n3 n4 (by omega) (by omega)) ?_
           dsimp only [Zd,go_sem,rA,rM,rS]
           have hbig:-2000000000000<=(Wo l.wells[kw] now (draws[k].day - ev)).lo:=ZlK hok n1 n2 n3 n4 (by omega) (by omega)
           have hf2:(Wo l.wells[kw] now (draws[k].day - ev)).hi<=l.wells[kw].room:=by simp only [Wo];omega
           have hf1:(Wo l.wells[kw] now (draws[k].day - ev)).lo<=l.wells[kw].room:=by simp only [Wo];omega
           generalize hF:Wo l.wells[kw] now (draws[k].day - ev)=F at *
           by_cases hdry:F.hi < draws[k].water
           . refine Zu (by simpa using hdry) ?_
             dsimp only [go_sem,rA,rM,rS]
             rw [if_pos hdry] at hi2
             rw [<- hi2];rfl
           . refine Zx (by simpa using hdry) ?_
             dsimp only [go_sem,rA,rM,rS]
             rw [if_neg hdry] at hi2
             rw [Zi (n:=F.lo - draws[k].water) (by omega) (by omega),Zi (n:=F.hi - draws[k].water) (by omega) (by omega),Zi (n:=(k:Int)+1) (by omega) (by omega)]
             refine ⟨(k+1,⟨max 0 (F.lo - draws[k].water),F.hi - draws[k].water⟩,draws[k].day),⟨hlt2,hi2,by simp only;omega,by simp only;omega,by simp only;omega,by simp only;omega,by simp only;omega,by simp only;omega⟩,by simp only;omega,?_⟩
             (refine Zk ?_ ?_ ?_ rfl rfl<;>dsimp only [Zg,Ze,Zm,Z1,Zd,id,go_sem,rA,rM,rS]<;>simp [Zg,Ze,Zm,Z1,Zd,Za,Zf,KFR,KFL,KF,Zc,mtO,nbr])
       . refine Zx (by simp;omega) ?_
         dsimp only [go_sem,rA,rM,rS]
         rw [Zi (n:=day - 1) (by omega) (by omega),Zi (n:=day - 1 - ev) (by omega) (by omega)]
         refine call (Zes l.wells[kw] now (day - 1 - ev) hok n1 n2 n3 n4 (by omega) (by omega)) ?_
         dsimp only [Zd,go_sem,rA,rM,rS]
         have hk':k=draws.length:=by omega
         subst hk'
         simp only [List.drop_length,Vw] at hi2
         rw [<- hi2];rfl
end Go.Proofs.YtiigiflofnjilaaGreat
namespace Go.Azalai
structure Breed where
 full:Int
 fed:Int
 rest:Span
 heat:Span
 toil:Span
 burn:Span
 rub:Span
 milk:Span
 heal:Int
 strong:Span
deriving DecidableEq
structure Camel where
 water:Span
 fat:Span
 sore:Span
 milks:Bool
deriving DecidableEq
structure March where
 hours:Int
 load:Int
 heat:Span
 grass:Span
 drinks:Span
deriving DecidableEq
def Zz (b:Breed):Bool :=
 inR 1 1000000 b.full && inR 1 1000000 b.fed && inR 0 1000 b.heal && Z3 0 1000000 b.strong && Z3 0 100000 b.rest && Z3 0 100000 b.heat && Z3 0 100000 b.toil && Z3 0 100000 b.burn && Z3 0 100000 b.rub && Z3 0 100000 b.milk
def Zv (b:Breed) (c:Camel):Bool:=Z3 0 b.full c.water && Z3 0 b.fed c.fat && Z3 0 1000 c.sore
def ZZ (m:March):Bool:=inR 0 24 m.hours && inR 0 1000000 m.load && Z3 0 60 m.heat && Z3 0 1000000 m.grass && Z3 0 1000000 m.drinks
def ZyB (b:Breed):Int:=if Zz b=true then 0 else 10
def Zcs (b:Breed) (c:Camel):Int:=if Zz b=false then 10 else if Zv b c=false then 11 else 0
def upF (a b:Int):Int:=(a+b - 1).tdiv b
def ZaR:Span:=⟨0,0⟩
def Zda (b:Breed) (c:Camel):Span :=
 ⟨min 1000 (min ((2000 * c.water.lo).tdiv b.full) (min ((2000 * c.fat.lo).tdiv b.fed) (1000 - c.sore.hi))),min 1000 (min (upF (2000 * c.water.hi) b.full) (min (upF (2000 * c.fat.hi) b.fed) (1000 - c.sore.lo)))⟩
def ZzD (b:Breed) (c:Camel):Span:=⟨(b.strong.lo * (Zda b c).lo).tdiv 1000,upF (b.strong.hi * (Zda b c).hi) 1000⟩
def Yk (m:March):Int:=m.hours * (100000+m.load)
def XR (b:Breed) (milks:Bool) (m:March):Span :=
 ⟨b.rest.lo+b.heat.lo * max 0 (m.heat.lo - 20)+(b.toil.lo * Yk m).tdiv 100000+(if milks then b.milk.lo else 0),b.rest.hi+b.heat.hi * max 0 (m.heat.hi - 20)+upF (b.toil.hi * Yk m) 100000+(if milks then b.milk.hi else 0)⟩
def X5 (b:Breed) (m:March):Span:=⟨(b.burn.lo * Yk m).tdiv 100000,upF (b.burn.hi * Yk m) 100000⟩
theorem WA {a A d:Int} (h0:0<=a) (h1:a<=A) (hd:1<=d):0<=a.tdiv d/\a.tdiv d<=A :=
 ⟨Int.tdiv_nonneg h0 (by omega),Int.le_trans (Int.tdiv_le_self d h0) h1⟩
theorem Zja {a A d:Int} (h0:0<=a) (h1:a<=A) (hd:1<=d):0<=upF a d/\upF a d<=A+d:=by
 have:=WA (a:=a+d - 1) (A:=A+d) (d:=d) (by omega) (by omega) hd
 exact this
end Go.Azalai
