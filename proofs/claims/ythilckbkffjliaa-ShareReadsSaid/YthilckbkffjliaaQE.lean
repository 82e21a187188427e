/- Walks and plain laws that lead to the given statement, part 5 of 9. -/
import Derived.Test.YthilckbkffjliaaQD
import Derived.Test.YthilckbkffjliaaProg
import Derived.MapKept
import Derived.WideKeyRuns
import Derived.WideLaws
set_option maxRecDepth 100000
set_option maxHeartbeats 4000000
set_option linter.all false
open Nat renaming reduceAdd->rA,reduceMul->rM,reduceSub->rS,beq_refl->nbr
namespace Go.Sx
def m1 (d t:Nat):Ins:=⟨some d,.mv (.t t),none,[]⟩
def o1 (d:Nat) (i:SI):Ins:=⟨some d,i,none,[]⟩
def sr1 (l:List Ins) (c:SC):SC:=.seq (.reg l) c
def ao (x o:Nat):SI:=.addo (.t x) o
def lt (x m:Nat):SI:=.ld (.t x) m true
def lf (x m:Nat):SI:=.ld (.t x) m false
def cn (n:Int):X:=.c (.int .i64 n)
def g1 (d t:Nat) (b:Bool) (i:SI):Ins:=⟨some d,i,some (t,b),[]⟩
def p1 (d:Nat) (i:SI) (l:List Nat):Ins:=⟨some d,i,none,l⟩
def q1 (d t:Nat) (b:Bool) (i:SI) (l:List Nat):Ins:=⟨some d,i,some (t,b),l⟩
attribute [go_sem] m1 o1 sr1 ao lt lf cn g1 p1 q1
open Go
structure Qt1 (P:Program) (f:FuncId) (c:SC) (r:List RV) (N:Nat):Prop where
 h:∀ {args:List SV} {res:SV},KFL args->KF res->sx P Y0 0 c (st0 args N) (ZzE r res)->(hA:Nat.ble args.length N=true:=by rfl)->Ct P f args res
theorem X4 {P:Program} {f:FuncId} {fn:Func} {c:SC} {r:List RV} {N:Nat} (hf:P.funcs[f]?=some fn) (hd:fn.body.isSome=true) (hb:ZW P f=true) (hc:Yx P c (fn.body.getD .skip)=true) (hr:YQ P r fn.results.toList=true) (hN:fn.ntmps=N):Qt1 P f c r N:=⟨fun {args res} ka kr h hA=>by
 cases hq:fn.body with
 | none=>rw [hq] at hd;cases hd
 | some code=>rw [hq] at hc;exact Zpd hf hq hb hc hr hN (Nat.le_of_ble_eq_true hA) ka kr h⟩
def zv0:List Value:=[.int .i64 0,.int .i64 0,.int .u8 0,.int .i64 0,.int .i64 0,.int .i64 0,.int .i64 0,.bool false]
def zv1:List Value:=[.slice none 0 0,.slice none 0 0,.slice none 0 0,.slice none 0 0,.int .i64 0,.slice none 0 0,.slice none 0 0]
attribute [go_sem] zv0 zv1
end Go.Sx
namespace Go.Proofs.Ythilckbkffjliaa
open Go Go.Sx
def c16:SC:=(sr1 [
 o1 2 (.box (.t 0) 0 24),
 o1 4 (.mv (.c (.bool false)))]
 (sr1 [
 o1 5 (ao 2 0),
 o1 6 (lf 5 1),
 o1 7 (.len (.t 6)),
 o1 8 (.bin .gtr (.t 7) (cn 12)),
 m1 9 8,
 g1 10 9 false (.mv (.t 1)),
 g1 11 9 false (.len (.t 10)),
 g1 12 9 false (.bin .gtr (.t 11) (cn 150)),
 o1 13 (.pick (.t 9) (.c (.bool true)) (.t 12)),
 m1 4 13]
 .ret))
def r16:List RV:=[.tmp 4]
theorem t16:Qt1 Try.prog 16 c16 r16 14:=X4 Try.func16 rfl (by kernel_rfl) (by kernel_rfl) (by kernel_rfl) (by kernel_rfl)
def c20:SC:=(sr1 [
 o1 1 (.box (.t 0) 0 24),
 o1 2 (.mv (cn 0))]
 (.seq (sr1 [
 o1 8 (ao 1 0),
 o1 9 (lf 8 1),
 o1 10 (.len (.t 9)),
 o1 11 (.bsl 1 3 [.t 10]),
 o1 12 (.call 42 [.c (.int .i64 1),.c (.int .i64 8),.t 11]),
 o1 13 (.un .not (.t 12)),
 m1 14 13,
 g1 15 14 false (ao 1 1),
 g1 16 14 false (lf 15 1),
 g1 17 14 false (.bsl 1 3 [.t 16]),
 g1 18 14 false (.call 42 [.c (.int .i64 0),.c (.int .i64 1000),.t 17]),
 g1 19 14 false (.un .not (.t 18)),
 o1 20 (.pick (.t 14) (.c (.bool true)) (.t 19)),
 m1 21 20,
 g1 22 21 false (ao 1 2),
 g1 23 21 false (lf 22 1),
 g1 24 21 false (.bsl 1 3 [.t 23]),
 g1 25 21 false (.call 42 [.c (.int .i64 0),.c (.int .i64 1000),.t 24]),
 g1 26 21 false (.un .not (.t 25)),
 o1 27 (.pick (.t 21) (.c (.bool true)) (.t 26)),
 m1 28 27,
 g1 29 28 false (ao 1 3),
 g1 30 28 false (lf 29 1),
 g1 31 28 false (.bsl 1 3 [.t 30]),
 g1 32 28 false (.call 42 [.c (.int .i64 0),.c (.int .i64 100000),.t 31]),
 g1 33 28 false (.un .not (.t 32)),
 o1 34 (.pick (.t 28) (.c (.bool true)) (.t 33))]
 (.cond (.t 34)
 (sr1 [
  o1 2 (.mv (cn 80))]
  .ret)
 .skip))
 (sr1 [
 o1 3 (.mv (.c (.int .i64 (-1)))),
 o1 4 (.mv (cn 0)),
 o1 5 (.mv (cn 0))]
 (.seq (sr1 [
 o1 35 (ao 1 0),
 o1 36 (lf 35 1),
 o1 37 (.len (.t 36)),
 o1 38 (.mv (cn 0))]
 (.block 0 (.loop (sr1 [
  o1 39 (.bin .lss (.t 38) (.t 37))]
  (.seq (.cond (.t 39)
  .skip
  (.exit 0))
  (.seq (.block 1 (sr1 [
   o1 40 (.ixs (.t 36) (.t 38) 3),
   o1 41 (lt 40 3),
   o1 7 (.alloc [.int .i64 0,.int .i64 0,.int .i64 0] 64),
   ⟨none,.st (.t 7) (.t 41) 3,none,[]⟩]
   (.seq (sr1 [
   m1 42 3,
   o1 43 (.bin .add (.t 42) (cn 1)),
   o1 44 (ao 7 0),
   o1 45 (lf 44 1),
   o1 46 (.bsl 1 3 [.t 45]),
   o1 47 (.call 42 [.t 43,.c (.int .i64 9999),.t 46]),
   o1 48 (.un .not (.t 47)),
   m1 49 48,
   g1 50 49 false (ao 7 1),
   g1 51 49 false (lf 50 1),
   g1 52 49 false (.bsl 1 3 [.t 51]),
   g1 53 49 false (.call 42 [.c (.int .i64 0),.c (.int .i64 100000000),.t 52]),
   g1 54 49 false (.un .not (.t 53)),
   o1 55 (.pick (.t 49) (.c (.bool true)) (.t 54)),
   m1 56 55,
   g1 57 56 false (ao 7 2),
   g1 58 56 false (lf 57 1),
   g1 59 56 false (.bsl 1 3 [.t 58]),
   g1 60 56 false (.call 42 [.c (.int .i64 0),.c (.int .i64 1000),.t 59]),
   g1 61 56 false (.un .not (.t 60)),
   o1 62 (.pick (.t 56) (.c (.bool true)) (.t 61))]
   (.cond (.t 62)
   (sr1 [
    o1 2 (.mv (cn 80))]
    .ret)
   .skip))
   (.regd [0,1,2,3,4,5,6,7,8,9,10,11,12] [
   .op (o1 63 (ao 7 0)),
   .op (p1 64 (lf 63 1) [0]),
   .op (m1 65 4),
   .op (o1 66 (ao 7 1)),
   .op (p1 67 (lf 66 1) [3]),
   .op (p1 68 (.bin .add (.t 65) (.t 67)) [2,4]),
   .op (m1 69 5),
   .op (o1 70 (ao 7 2)),
   .op (p1 71 (lf 70 1) [7]),
   .op (p1 72 (.bin .add (.t 69) (.t 71)) [6,8]),
   .op (p1 3 (.mv (.t 64)) [0,1]),
   .op (p1 4 (.mv (.t 68)) [0,1,2,3,4,5,10]),
   .op (p1 5 (.mv (.t 72)) [0,1,2,3,4,5,6,7,8,9,10,11])] 0 0 [
]))))
 (.reg [
 o1 73 (.bin .add (.t 38) (cn 1)),
 m1 38 73])))))))
 (.seq (sr1 [
 m1 74 4,
 o1 75 (.bin .eql (.t 74) (cn 0)),
 m1 76 75,
 g1 77 76 false (.mv (.t 5)),
 g1 78 76 false (.bin .neq (.t 77) (cn 1000)),
 o1 79 (.pick (.t 76) (.c (.bool true)) (.t 78))]
 (.cond (.t 79)
 (sr1 [
  o1 2 (.mv (cn 80))]
  .ret)
 .skip))
 (sr1 [
 o1 2 (.mv (cn 0))]
 .ret))))))
def r20:List RV:=[.tmp 2]
theorem t20:Qt1 Try.prog 20 c20 r20 80:=X4 Try.func20 rfl (by kernel_rfl) (by kernel_rfl) (by kernel_rfl) (by kernel_rfl)
def c28:SC:=(sr1 [
 o1 4 (.mv (.c (.bool false)))]
 (.seq (sr1 [
 m1 6 0,
 o1 7 (.len (.t 6)),
 m1 8 1,
 o1 9 (.len (.t 8)),
 o1 10 (.bin .neq (.t 7) (.t 9))]
 (.cond (.t 10)
 (sr1 [
  o1 4 (.mv (.c (.bool false)))]
  .ret)
 .skip))
 (.seq (sr1 [
 o1 5 (.mv (cn 0))]
 (.block 0 (.loop (.seq (sr1 [
  m1 11 5,
  m1 12 0,
  o1 13 (.len (.t 12)),
  o1 14 (.bin .lss (.t 11) (.t 13))]
  (.cond (.t 14)
  .skip
  (.exit 0)))
  (.seq (.block 1 (.seq (.regd [0,1,2,3,4,5,6,7,8] [
   .op (m1 17 0),
   .op (m1 18 5),
   .op (p1 19 (.ixs (.t 17) (.t 18) 8) [0,1]),
   .op (p1 20 (lt 19 8) [2]),
   .op (m1 21 1),
   .op (m1 22 5),
   .op (p1 23 (.ixs (.t 21) (.t 22) 8) [4,5]),
   .op (p1 24 (lt 23 8) [6]),
   .op (p1 25 (.eqs true true [1,1,1,1,1,1,1,0] (.t 20) (.t 24)) [3,7])] 0 0 [
])
 (.cond (.t 25)
 (sr1 [
  o1 4 (.mv (.c (.bool false)))]
  .ret)
 .skip)))
 (.reg [
 m1 15 5,
 o1 16 (.bin .add (.t 15) (cn 1)),
 m1 5 16]))))))
 (sr1 [
 o1 4 (.mv (.c (.bool true)))]
 .ret))))
def r28:List RV:=[.tmp 4]
theorem t28:Qt1 Try.prog 28 c28 r28 26:=X4 Try.func28 rfl (by kernel_rfl) (by kernel_rfl) (by kernel_rfl) (by kernel_rfl)
def c36:SC:=(sr1 [
 o1 2 (.box (.t 0) 0 24),
 o1 3 (.box (.t 1) 0 50),
 o1 4 (.mv (.c (.bool false)))]
 (.seq (sr1 [
 o1 10 (ao 3 0),
 o1 11 (lf 10 1),
 o1 12 (.call 45 [.t 11,.c (.int .i64 0),.c (.int .i64 9999)]),
 o1 13 (.un .not (.t 12)),
 m1 14 13,
 g1 15 14 false (ao 3 1),
 g1 16 14 false (lf 15 1),
 g1 17 14 false (.call 45 [.t 16,.c (.int .i64 0),.c (.int .i64 100000)]),
 g1 18 14 false (.un .not (.t 17)),
 o1 19 (.pick (.t 14) (.c (.bool true)) (.t 18))]
 (.cond (.t 19)
 (sr1 [
  o1 4 (.mv (.c (.bool false)))]
  .ret)
 .skip))
 (sr1 [
 o1 20 (ao 3 0),
 o1 21 (lf 20 1),
 o1 22 (ao 3 1),
 o1 23 (lf 22 1),
 o1 24 (ao 3 2),
 o1 25 (lf 24 1),
 o1 26 (ao 3 7),
 o1 27 (lf 26 1),
 o1 28 (.build zv0 [(0,1,.t 21),(1,1,.t 23),(2,1,.t 25),(7,1,.t 27)]),
 o1 5 (.alloc zv0 50),
 ⟨none,.st (.t 5) (.t 28) 8,none,[]⟩]
 (.seq (.regd [0,1,2,3,4,5,6,7,8,9,10,11,12,13] [
 .op (o1 29 (lt 2 4)),
 .op (o1 30 (ao 3 3)),
 .op (p1 31 (lf 30 1) [1]),
 .op (p1 32 (.call 55 [.t 29,.t 31]) [0,2]),
 .op (p1 33 (.bin .geq (.t 32) (cn 0)) [3]),
 .op (o1 34 (ao 3 5)),
 .op (p1 35 (lf 34 1) [5]),
 .op (p1 36 (.call 45 [.t 35,.c (.int .i64 0),.c (.int .i64 9999)]) [3,6]),
 .op (o1 37 (ao 3 6)),
 .op (p1 38 (lf 37 1) [8]),
 .op (p1 39 (.call 45 [.t 38,.c (.int .i64 0),.c (.int .i64 10000000)]) [7,9]),
 .op (p1 6 (.mv (.t 33)) [0,1,2,3,4,10]),
 .op (p1 7 (.mv (.t 36)) [0,1,2,3,4,5,6,7,11]),
 .op (p1 8 (.mv (.t 39)) [0,1,2,3,4,5,6,7,8,9,10,11,12])] 0 0 [
])
 (sr1 [
 o1 9 (.mv (.c (.bool false)))]
 (.seq (sr1 [
 o1 40 (ao 3 2),
 o1 41 (lf 40 1)]
 (.block 0 (.seq (sr1 [
  o1 43 (.bin .eql (.t 41) (.c (.int .u8 1))),
  m1 42 43]
  (.cond (.t 42)
  .skip
  (.reg [
   o1 44 (.bin .eql (.t 41) (.c (.int .u8 2))),
   m1 42 44])))
  (.cond (.t 42)
  (sr1 [
   o1 45 (ao 3 6),
   o1 46 (lf 45 1),
   o1 47 (ao 5 6),
   ⟨none,.st (.t 47) (.t 46) 1,none,[]⟩]
   (.reg [
   m1 48 8,
   m1 9 48]))
  (sr1 [
   o1 50 (.bin .eql (.t 41) (.c (.int .u8 3))),
   m1 49 50]
   (.cond (.t 49)
   (.seq (.regd [0,1,4,2,3,5,6,7] [
    .op (o1 51 (ao 3 3)),
    .op (p1 52 (lf 51 1) [0]),
    .op (p1 55 (ao 5 3) [0,1]),
    .hide (.t 55),
    .op (o1 53 (ao 3 5)),
    .op (p1 54 (lf 53 1) [2])] 0 1 [
    ⟨none,.st (.t 55) (.t 52) 1,none,[0,1,4]⟩,
    ⟨some 56,ao 5 5,none,[0,1,2,3,4,5]⟩,
    ⟨none,.st (.t 56) (.t 54) 1,none,[0,1,2,3,4,5,6]⟩])
    (.reg [
    m1 57 6,
    m1 58 57,
    g1 59 58 true (.mv (.t 7)),
    o1 60 (.pick (.t 58) (.t 59) (.c (.bool false))),
    m1 9 60]))
   (.seq (sr1 [
    o1 62 (.bin .eql (.t 41) (.c (.int .u8 4))),
    m1 61 62]
    (.cond (.t 61)
    .skip
    (.reg [
     o1 63 (.bin .eql (.t 41) (.c (.int .u8 5))),
     m1 61 63])))
    (.cond (.t 61)
    (sr1 [
     o1 64 (ao 3 5),
     o1 65 (lf 64 1),
     o1 66 (ao 5 5),
     ⟨none,.st (.t 66) (.t 65) 1,none,[]⟩]
     (.reg [
     m1 67 7,
     m1 9 67]))
    (sr1 [
     o1 69 (.bin .eql (.t 41) (.c (.int .u8 6))),
     m1 68 69]
     (.cond (.t 68)
     (.seq (.regd [0,1,6,2,3,4,5,7,8,9,10,11] [
      .op (o1 70 (ao 3 5)),
      .op (p1 71 (lf 70 1) [0]),
      .op (p1 76 (ao 5 5) [0,1]),
      .hide (.t 5),
      .op (o1 72 (ao 3 4)),
      .op (p1 73 (lf 72 1) [2]),
      .op (o1 74 (ao 3 6)),
      .op (p1 75 (lf 74 1) [4])] 0 5 [
      ⟨none,.st (.t 76) (.t 71) 1,none,[0,1,6]⟩,
      ⟨some 77,ao 5 4,none,[0,1,2,3,6,7]⟩,
      ⟨none,.st (.t 77) (.t 73) 1,none,[0,1,2,3,6,7,8]⟩,
      ⟨some 78,ao 5 6,none,[0,1,2,3,4,5,6,7,8,9]⟩,
      ⟨none,.st (.t 78) (.t 75) 1,none,[0,1,2,3,4,5,6,7,8,9,10]⟩])
      (.reg [
      m1 79 7,
      m1 80 79,
      g1 81 80 true (.mv (.t 8)),
      o1 82 (.pick (.t 80) (.t 81) (.c (.bool false))),
      m1 83 82,
      g1 84 83 true (ao 3 4),
      g1 85 83 true (lf 84 1),
      g1 86 83 true (.call 45 [.t 85,.c (.int .i64 0),.c (.int .i64 9999)]),
      o1 87 (.pick (.t 83) (.t 86) (.c (.bool false))),
      m1 9 87]))
     (.seq (sr1 [
      o1 89 (.bin .eql (.t 41) (.c (.int .u8 7))),
      m1 88 89]
      (.cond (.t 88)
      .skip
      (.reg [
       o1 90 (.bin .eql (.t 41) (.c (.int .u8 8))),
       m1 88 90])))
      (.cond (.t 88)
      (.seq (.regd [0,1,6,2,3,4,5,7,8,9,10,11] [
       .op (o1 91 (ao 3 3)),
       .op (p1 92 (lf 91 1) [0]),
       .op (p1 97 (ao 5 3) [0,1]),
       .hide (.t 5),
       .op (o1 93 (ao 3 4)),
       .op (p1 94 (lf 93 1) [2]),
       .op (o1 95 (ao 3 6)),
       .op (p1 96 (lf 95 1) [4])] 0 5 [
       ⟨none,.st (.t 97) (.t 92) 1,none,[0,1,6]⟩,
       ⟨some 98,ao 5 4,none,[0,1,2,3,6,7]⟩,
       ⟨none,.st (.t 98) (.t 94) 1,none,[0,1,2,3,6,7,8]⟩,
       ⟨some 99,ao 5 6,none,[0,1,2,3,4,5,6,7,8,9]⟩,
       ⟨none,.st (.t 99) (.t 96) 1,none,[0,1,2,3,4,5,6,7,8,9,10]⟩])
       (.reg [
       m1 100 6,
       m1 101 100,
       g1 102 101 true (.mv (.t 8)),
       o1 103 (.pick (.t 101) (.t 102) (.c (.bool false))),
       m1 104 103,
       g1 105 104 true (lt 2 4),
       g1 106 104 true (ao 3 4),
       g1 107 104 true (lf 106 1),
       g1 108 104 true (.call 55 [.t 105,.t 107]),
       g1 109 104 true (.bin .geq (.t 108) (cn 0)),
       o1 110 (.pick (.t 104) (.t 109) (.c (.bool false))),
       m1 111 110,
       g1 112 111 true (ao 3 3),
       g1 113 111 true (lf 112 1),
       g1 114 111 true (ao 3 4),
       g1 115 111 true (lf 114 1),
       g1 116 111 true (.bin .neq (.t 113) (.t 115)),
       o1 117 (.pick (.t 111) (.t 116) (.c (.bool false))),
       m1 9 117]))
      .skip))))))))))))
 (sr1 [
 m1 118 9,
 m1 119 118,
 g1 120 119 true (lt 3 8),
 g1 121 119 true (lt 5 8),
 g1 122 119 true (.eqs false true [1,1,1,1,1,1,1,0] (.t 120) (.t 121)),
 o1 123 (.pick (.t 119) (.t 122) (.c (.bool false))),
 m1 4 123]
 .ret)))))))
def r36:List RV:=[.tmp 4]
theorem t36:Qt1 Try.prog 36 c36 r36 124:=X4 Try.func36 rfl (by kernel_rfl) (by kernel_rfl) (by kernel_rfl) (by kernel_rfl)
def c42:SC:=(sr1 [
 o1 3 (.box (.t 0) 0 3),
 o1 4 (.box (.t 1) 0 3),
 o1 6 (.mv (.c (.bool false)))]
 (sr1 [
 m1 7 2,
 o1 8 (.mkf 62 [.t 3,.t 4]),
 o1 9 (.call 61 [.t 7,.t 8]),
 o1 10 (.un .not (.t 9)),
 m1 6 10]
 .ret))
def r42:List RV:=[.tmp 6]
theorem t42:Qt1 Try.prog 42 c42 r42 11:=X4 Try.func42 rfl (by kernel_rfl) (by kernel_rfl) (by kernel_rfl) (by kernel_rfl)
def c44:SC:=(sr1 [
 o1 1 (.box (.t 0) 0 24),
 o1 2 (.mv (.c (.bool false)))]
 (.seq (sr1 [
 o1 7 (ao 1 0),
 o1 8 (lf 7 1),
 o1 9 (.len (.t 8)),
 o1 10 (.call 45 [.t 9,.c (.int .i64 1),.c (.int .i64 8)]),
 o1 11 (.un .not (.t 10)),
 m1 12 11,
 g1 13 12 false (ao 1 1),
 g1 14 12 false (lf 13 1),
 g1 15 12 false (.call 45 [.t 14,.c (.int .i64 0),.c (.int .i64 1000)]),
 g1 16 12 false (.un .not (.t 15)),
 o1 17 (.pick (.t 12) (.c (.bool true)) (.t 16)),
 m1 18 17,
 g1 19 18 false (ao 1 2),
 g1 20 18 false (lf 19 1),
 g1 21 18 false (.call 45 [.t 20,.c (.int .i64 0),.c (.int .i64 1000)]),
 g1 22 18 false (.un .not (.t 21)),
 o1 23 (.pick (.t 18) (.c (.bool true)) (.t 22)),
 m1 24 23,
 g1 25 24 false (ao 1 3),
 g1 26 24 false (lf 25 1),
 g1 27 24 false (.call 45 [.t 26,.c (.int .i64 0),.c (.int .i64 100000)]),
 g1 28 24 false (.un .not (.t 27)),
 o1 29 (.pick (.t 24) (.c (.bool true)) (.t 28))]
 (.cond (.t 29)
 (sr1 [
  o1 2 (.mv (.c (.bool false)))]
  .ret)
 .skip))
 (sr1 [
 o1 3 (.mv (cn 0)),
 o1 4 (.mv (cn 0))]
 (.seq (sr1 [
 o1 5 (.mv (cn 0))]
 (.block 0 (.loop (.seq (sr1 [
  m1 30 5,
  o1 31 (ao 1 0),
  o1 32 (lf 31 1),
  o1 33 (.len (.t 32)),
  o1 34 (.bin .lss (.t 30) (.t 33))]
  (.cond (.t 34)
  .skip
  (.exit 0)))
  (.seq (.block 1 (sr1 [
   o1 37 (ao 1 0),
   o1 38 (lf 37 1),
   m1 39 5,
   o1 40 (.ixs (.t 38) (.t 39) 3),
   o1 41 (lt 40 3),
   o1 6 (.alloc [.int .i64 0,.int .i64 0,.int .i64 0] 64),
   ⟨none,.st (.t 6) (.t 41) 3,none,[]⟩]
   (.seq (.seq (.regd [0,1,2,3,4,5,6,7,8,9,10,11,12,13,14,15,16,17,18,19,20,21,22,23,24,25,26,27,28,29,30,31] [
   .op (o1 42 (ao 6 0)),
   .op (p1 43 (lf 42 1) [0]),
   .op (p1 44 (.call 45 [.t 43,.c (.int .i64 0),.c (.int .i64 9999)]) [1]),
   .op (p1 45 (.un .not (.t 44)) [2]),
   .op (p1 46 (.mv (.t 45)) [2,3]),
   .op (q1 47 46 false (.mv (.t 5)) [4]),
   .op (q1 48 46 false (.bin .gtr (.t 47) (cn 0)) [4,5]),
   .op (q1 49 46 false (.mv (.t 48)) [4,6]),
   .op (q1 50 49 true (ao 6 0) [7]),
   .op (q1 51 49 true (lf 50 1) [7,8]),
   .op (q1 52 49 true (ao 1 0) [7]),
   .op (q1 53 49 true (lf 52 1) [7,10]),
   .op (q1 54 49 true (.mv (.t 5)) [7]),
   .op (q1 55 49 true (.bin .sub (.t 54) (cn 1)) [7,12]),
   .op (q1 56 49 true (.ixs (.t 53) (.t 55) 3) [7,11,13]),
   .op (q1 57 49 true (ao 56 0) [7,14]),
   .op (q1 58 49 true (lf 57 1) [7,15]),
   .op (q1 59 49 true (.bin .leq (.t 51) (.t 58)) [7,9,16]),
   .op (q1 60 46 false (.pick (.t 49) (.t 59) (.c (.bool false))) [4,7,17]),
   .op (p1 61 (.pick (.t 46) (.c (.bool true)) (.t 60)) [4,18]),
   .op (p1 62 (.mv (.t 61)) [7,19]),
   .op (q1 63 62 false (ao 6 1) [20]),
   .op (q1 64 62 false (lf 63 1) [20,21]),
   .op (q1 65 62 false (.call 45 [.t 64,.c (.int .i64 0),.c (.int .i64 100000000)]) [20,22]),
   .op (q1 66 62 false (.un .not (.t 65)) [20,23]),
   .op (p1 67 (.pick (.t 62) (.c (.bool true)) (.t 66)) [20,24]),
   .op (p1 68 (.mv (.t 67)) [23,25]),
   .op (q1 69 68 false (ao 6 2) [26]),
   .op (q1 70 68 false (lf 69 1) [26,27]),
   .op (q1 71 68 false (.call 45 [.t 70,.c (.int .i64 0),.c (.int .i64 1000)]) [26,28]),
   .op (q1 72 68 false (.un .not (.t 71)) [26,29]),
   .op (p1 73 (.pick (.t 68) (.c (.bool true)) (.t 72)) [26,30])] 0 0 [
])
 (.cond (.t 73)
 (sr1 [
  o1 2 (.mv (.c (.bool false)))]
  .ret)
 .skip))
 (.regd [0,1,2,3,4,5,6,7,8,9] [
 .op (m1 74 3),
 .op (o1 75 (ao 6 1)),
 .op (p1 76 (lf 75 1) [1]),
 .op (p1 77 (.bin .add (.t 74) (.t 76)) [0,2]),
 .op (m1 78 4),
 .op (o1 79 (ao 6 2)),
 .op (p1 80 (lf 79 1) [5]),
 .op (p1 81 (.bin .add (.t 78) (.t 80)) [4,6]),
 .op (p1 3 (.mv (.t 77)) [0,1,2,3]),
 .op (p1 4 (.mv (.t 81)) [0,1,2,3,4,5,6,7,8])] 0 0 [
]))))
 (.reg [
 m1 35 5,
 o1 36 (.bin .add (.t 35) (cn 1)),
 m1 5 36]))))))
 (sr1 [
 m1 82 3,
 o1 83 (.bin .gtr (.t 82) (cn 0)),
 m1 84 83,
 g1 85 84 true (.mv (.t 4)),
 g1 86 84 true (.bin .eql (.t 85) (cn 1000)),
 o1 87 (.pick (.t 84) (.t 86) (.c (.bool false))),
 m1 2 87]
 .ret)))))
def r44:List RV:=[.tmp 2]
theorem t44:Qt1 Try.prog 44 c44 r44 88:=X4 Try.func44 rfl (by kernel_rfl) (by kernel_rfl) (by kernel_rfl) (by kernel_rfl)
def c45:SC:=(sr1 [
 o1 6 (.mv (.c (.bool false)))]
 (sr1 [
 m1 7 0,
 m1 8 1,
 o1 9 (.bin .geq (.t 7) (.t 8)),
 m1 10 9,
 g1 11 10 true (.mv (.t 0)),
 g1 12 10 true (.mv (.t 2)),
 g1 13 10 true (.bin .leq (.t 11) (.t 12)),
 o1 14 (.pick (.t 10) (.t 13) (.c (.bool false))),
 m1 6 14]
 .ret))
def r45:List RV:=[.tmp 6]
theorem t45:Qt1 Try.prog 45 c45 r45 15:=X4 Try.func45 rfl (by kernel_rfl) (by kernel_rfl) (by kernel_rfl) (by kernel_rfl)
def c51:SC:=(sr1 [
 o1 2 (.box (.t 0) 0 24),
 o1 4 (.mv (cn 0))]
 (.seq (sr1 [
 m1 8 1,
 o1 9 (.len (.t 8)),
 o1 10 (.bin .gtr (.t 9) (cn 100))]
 (.cond (.t 10)
 (sr1 [
  o1 4 (.mv (cn 4))]
  .ret)
 .skip))
 (.seq (sr1 [
 o1 5 (.mv (cn 0))]
 (.block 0 (.loop (.seq (sr1 [
  m1 11 5,
  m1 12 1,
  o1 13 (.len (.t 12)),
  o1 14 (.bin .lss (.t 11) (.t 13))]
  (.cond (.t 14)
  .skip
  (.exit 0)))
  (.seq (.block 1 (.seq (.regd [0,1,2,3,4,5,6] [
   .op (o1 17 (lt 2 4)),
   .op (m1 18 1),
   .op (m1 19 5),
   .op (p1 20 (.ixs (.t 18) (.t 19) 8) [1,2]),
   .op (p1 21 (lt 20 8) [3]),
   .op (p1 22 (.call 36 [.t 17,.t 21]) [0,4]),
   .op (p1 23 (.un .not (.t 22)) [5])] 0 0 [
])
 (.cond (.t 23)
 (sr1 [
  o1 4 (.mv (cn 81))]
  .ret)
 .skip)))
 (.reg [
 m1 15 5,
 o1 16 (.bin .add (.t 15) (cn 1)),
 m1 5 16]))))))
 (.seq (sr1 [
 o1 6 (.mv (cn 0))]
 (.block 2 (.loop (.seq (sr1 [
  m1 24 6,
  m1 25 1,
  o1 26 (.len (.t 25)),
  o1 27 (.bin .lss (.t 24) (.t 26))]
  (.cond (.t 27)
  .skip
  (.exit 2)))
  (.seq (.block 3 (sr1 [
   o1 7 (.mv (cn 0))]
   (.block 4 (.loop (.seq (sr1 [
    m1 30 7,
    m1 31 6,
    o1 32 (.bin .lss (.t 30) (.t 31))]
    (.cond (.t 32)
    .skip
    (.exit 4)))
    (.seq (.block 5 (.seq (.regd [0,1,2,3,4,5,6,7,8,9,10,11,12,13,14,15,16,17,18,19,20,21] [
     .op (m1 35 1),
     .op (m1 36 6),
     .op (p1 37 (.ixs (.t 35) (.t 36) 8) [0,1]),
     .op (p1 38 (ao 37 0) [2]),
     .op (p1 39 (lf 38 1) [3]),
     .op (m1 40 1),
     .op (m1 41 7),
     .op (p1 42 (.ixs (.t 40) (.t 41) 8) [5,6]),
     .op (p1 43 (ao 42 0) [7]),
     .op (p1 44 (lf 43 1) [8]),
     .op (p1 45 (.bin .eql (.t 39) (.t 44)) [4,9]),
     .op (p1 46 (.mv (.t 45)) [10]),
     .op (q1 47 46 true (.mv (.t 1)) [11]),
     .op (q1 48 46 true (.mv (.t 6)) [11]),
     .op (q1 49 46 true (.ixs (.t 47) (.t 48) 8) [11,12,13]),
     .op (q1 50 46 true (lt 49 8) [11,14]),
     .op (q1 51 46 true (.mv (.t 1)) [11]),
     .op (q1 52 46 true (.mv (.t 7)) [11]),
     .op (q1 53 46 true (.ixs (.t 51) (.t 52) 8) [11,16,17]),
     .op (q1 54 46 true (lt 53 8) [11,18]),
     .op (q1 55 46 true (.eqs true true [1,1,1,1,1,1,1,0] (.t 50) (.t 54)) [11,15,19]),
     .op (p1 56 (.pick (.t 46) (.t 55) (.c (.bool false))) [11,20])] 0 0 [
])
 (.cond (.t 56)
 (sr1 [
  o1 4 (.mv (cn 82))]
  .ret)
 .skip)))
 (.reg [
 m1 33 7,
 o1 34 (.bin .add (.t 33) (cn 1)),
 m1 7 34])))))))
 (.reg [
 m1 28 6,
 o1 29 (.bin .add (.t 28) (cn 1)),
 m1 6 29]))))))
 (sr1 [
 o1 4 (.mv (cn 0))]
 .ret)))))
def r51:List RV:=[.tmp 4]
theorem t51:Qt1 Try.prog 51 c51 r51 57:=X4 Try.func51 rfl (by kernel_rfl) (by kernel_rfl) (by kernel_rfl) (by kernel_rfl)
def c54:SC:=(sr1 [
 o1 2 (.box (.t 0) 0 24),
 o1 3 (.box (.t 1) 0 3),
 o1 4 (.mv (cn 0))]
 (sr1 [
 o1 5 (ao 2 0),
 o1 6 (lf 5 1),
 o1 7 (.mkf 79 [.t 3]),
 o1 8 (.call 78 [.t 6,.t 7]),
 m1 4 8]
 .ret))
def r54:List RV:=[.tmp 4]
theorem t54:Qt1 Try.prog 54 c54 r54 9:=X4 Try.func54 rfl (by kernel_rfl) (by kernel_rfl) (by kernel_rfl) (by kernel_rfl)
def c55:SC:=(sr1 [
 o1 2 (.box (.t 0) 0 24),
 o1 4 (.mv (cn 0))]
 (.seq (sr1 [
 o1 5 (.mv (cn 0))]
 (.block 0 (.loop (.seq (sr1 [
  m1 6 5,
  o1 7 (ao 2 0),
  o1 8 (lf 7 1),
  o1 9 (.len (.t 8)),
  o1 10 (.bin .lss (.t 6) (.t 9))]
  (.cond (.t 10)
  .skip
  (.exit 0)))
  (.seq (.block 1 (sr1 [
   o1 13 (ao 2 0),
   o1 14 (lf 13 1),
   m1 15 5,
   o1 16 (.ixs (.t 14) (.t 15) 3),
   o1 17 (ao 16 0),
   o1 18 (lf 17 1),
   m1 19 1,
   o1 20 (.bin .eql (.t 18) (.t 19))]
   (.cond (.t 20)
   (sr1 [
    m1 21 5,
    m1 4 21]
    .ret)
   .skip)))
  (.reg [
  m1 11 5,
  o1 12 (.bin .add (.t 11) (cn 1)),
  m1 5 12]))))))
 (sr1 [
 o1 4 (.mv (.c (.int .i64 (-1))))]
 .ret)))
def r55:List RV:=[.tmp 4]
theorem t55:Qt1 Try.prog 55 c55 r55 22:=X4 Try.func55 rfl (by kernel_rfl) (by kernel_rfl) (by kernel_rfl) (by kernel_rfl)
def c61:SC:=(sr1 [
 o1 4 (.mv (.c (.bool false)))]
 (sr1 [
 m1 5 0,
 m1 6 1,
 o1 7 (.call 81 [.t 5,.t 6]),
 o1 8 (.bin .geq (.t 7) (cn 0)),
 m1 4 8]
 .ret))
def r61:List RV:=[.tmp 4]
theorem t61:Qt1 Try.prog 61 c61 r61 9:=X4 Try.func61 rfl (by kernel_rfl) (by kernel_rfl) (by kernel_rfl) (by kernel_rfl)
def c62:SC:=(sr1 [
 o1 4 (.mv (.c (.bool false)))]
 (sr1 [
 m1 5 0,
 o1 6 (lf 1 1),
 o1 7 (.bin .lss (.t 5) (.t 6)),
 m1 8 7,
 g1 9 8 false (.mv (.t 0)),
 g1 10 8 false (lf 2 1),
 g1 11 8 false (.bin .gtr (.t 9) (.t 10)),
 o1 12 (.pick (.t 8) (.c (.bool true)) (.t 11)),
 m1 4 12]
 .ret))
def r62:List RV:=[.tmp 4]
theorem t62:Qt1 Try.prog 62 c62 r62 13:=X4 Try.func62 rfl (by kernel_rfl) (by kernel_rfl) (by kernel_rfl) (by kernel_rfl)
def c78:SC:=(sr1 [
 o1 4 (.mv (cn 0))]
 (.seq (sr1 [
 m1 6 0,
 o1 7 (.len (.t 6)),
 o1 8 (.mv (cn 0))]
 (.block 0 (.loop (sr1 [
  o1 9 (.bin .lss (.t 8) (.t 7))]
  (.seq (.cond (.t 9)
  .skip
  (.exit 0))
  (.seq (.block 1 (sr1 [
   m1 10 8,
   m1 5 10]
   (sr1 [
   m1 11 1,
   m1 12 0,
   m1 13 5,
   o1 14 (.ixs (.t 12) (.t 13) 3),
   o1 15 (lt 14 3),
   o1 16 (.calv (.t 11) [.t 15])]
   (.cond (.t 16)
   (sr1 [
    m1 17 5,
    m1 4 17]
    .ret)
   .skip))))
  (.reg [
  o1 18 (.bin .add (.t 8) (cn 1)),
  m1 8 18])))))))
 (sr1 [
 o1 4 (.mv (.c (.int .i64 (-1))))]
 .ret)))
def r78:List RV:=[.tmp 4]
theorem t78:Qt1 Try.prog 78 c78 r78 19:=X4 Try.func78 rfl (by kernel_rfl) (by kernel_rfl) (by kernel_rfl) (by kernel_rfl)
def c79:SC:=(sr1 [
 o1 2 (.box (.t 0) 0 64),
 o1 3 (.mv (.c (.bool false)))]
 (sr1 [
 o1 4 (ao 2 0),
 o1 5 (lf 4 1),
 o1 6 (lf 1 1),
 o1 7 (.bin .eql (.t 5) (.t 6)),
 m1 3 7]
 .ret))
def r79:List RV:=[.tmp 3]
theorem t79:Qt1 Try.prog 79 c79 r79 8:=X4 Try.func79 rfl (by kernel_rfl) (by kernel_rfl) (by kernel_rfl) (by kernel_rfl)
def c64:SC:=(sr1 [
 o1 4 (.mv (.c (.bool false)))]
 (sr1 [
 m1 5 0,
 m1 6 1,
 o1 7 (.call 85 [.t 5,.t 6]),
 o1 8 (.bin .geq (.t 7) (cn 0)),
 m1 4 8]
 .ret))
def r64:List RV:=[.tmp 4]
theorem t64:Qt1 Try.prog 64 c64 r64 9:=X4 Try.func64 rfl (by kernel_rfl) (by kernel_rfl) (by kernel_rfl) (by kernel_rfl)
def c85:SC:=(sr1 [
 o1 4 (.mv (cn 0))]
 (.seq (sr1 [
 m1 6 0,
 o1 7 (.len (.t 6)),
 o1 8 (.mv (cn 0))]
 (.block 0 (.loop (sr1 [
  o1 9 (.bin .lss (.t 8) (.t 7))]
  (.seq (.cond (.t 9)
  .skip
  (.exit 0))
  (.seq (.block 1 (sr1 [
   m1 10 8,
   m1 5 10]
   (sr1 [
   m1 11 1,
   m1 12 0,
   m1 13 5,
   o1 14 (.ixs (.t 12) (.t 13) 8),
   o1 15 (lt 14 8),
   o1 16 (.calv (.t 11) [.t 15])]
   (.cond (.t 16)
   (sr1 [
    m1 17 5,
    m1 4 17]
    .ret)
   .skip))))
  (.reg [
  o1 18 (.bin .add (.t 8) (cn 1)),
  m1 8 18])))))))
 (sr1 [
 o1 4 (.mv (.c (.int .i64 (-1))))]
 .ret)))
def r85:List RV:=[.tmp 4]
theorem t85:Qt1 Try.prog 85 c85 r85 19:=X4 Try.func85 rfl (by kernel_rfl) (by kernel_rfl) (by kernel_rfl) (by kernel_rfl)
def c65:SC:=(sr1 [
 o1 2 (.box (.t 0) 0 50),
 o1 3 (.mv (.c (.bool false)))]
 (sr1 [
 o1 4 (lt 1 4),
 o1 5 (lt 2 8),
 o1 6 (.call 66 [.t 4,.t 5]),
 o1 7 (.un .not (.t 6)),
 m1 3 7]
 .ret))
def r65:List RV:=[.tmp 3]
theorem t65:Qt1 Try.prog 65 c65 r65 8:=X4 Try.func65 rfl (by kernel_rfl) (by kernel_rfl) (by kernel_rfl) (by kernel_rfl)
def c66:SC:=(sr1 [
 o1 2 (.box (.t 0) 0 24),
 o1 3 (.box (.t 1) 0 50),
 o1 4 (.mv (.c (.bool false)))]
 (.seq (.regd [0,1,2,3,4,5,6,7,8,9] [
 .op (o1 9 (.call 72 [])),
 .op (o1 10 (ao 3 2)),
 .op (p1 11 (lf 10 1) [1]),
 .op (p1 12 (.rv (Go.Op.lookup 120 (Go.Operand.tmp 9) (Go.Operand.tmp 11) Bool.true) [.t 9,.t 11]) [0,2]),
 .op (p1 8 (.mv (.t 12)) [3]),
 .op (p1 13 (.ext (.t 8) 0) [4]),
 .op (p1 14 (.ext (.t 8) 1) [4])] 1 2 [
 o1 5 (.alloc [.nilFunc,.nilFunc,.nilFunc] 126),
 ⟨none,.st (.t 5) (.t 13) 3,none,[0,1,2,3,4,5,7]⟩,
 ⟨some 6,.mv (.t 14),none,[0,1,2,3,4,5,6,7,8]⟩])
 (.seq (sr1 [
 m1 15 6,
 o1 16 (.un .not (.t 15)),
 m1 17 16,
 g1 18 17 false (ao 3 0),
 g1 19 17 false (lf 18 1),
 g1 20 17 false (ao 3 3),
 g1 21 17 false (lf 20 1),
 g1 22 17 false (ao 3 4),
 g1 23 17 false (lf 22 1),
 g1 24 17 false (ao 3 5),
 g1 25 17 false (lf 24 1),
 g1 26 17 false (.bsl 1 3 [.t 19,.t 21,.t 23,.t 25]),
 g1 27 17 false (.call 42 [.c (.int .i64 0),.c (.int .i64 9999),.t 26]),
 g1 28 17 false (.un .not (.t 27)),
 o1 29 (.pick (.t 17) (.c (.bool true)) (.t 28)),
 m1 30 29,
 g1 31 30 false (ao 3 1),
 g1 32 30 false (lf 31 1),
 g1 33 30 false (.bsl 1 3 [.t 32]),
 g1 34 30 false (.call 42 [.c (.int .i64 0),.c (.int .i64 100000),.t 33]),
 g1 35 30 false (.un .not (.t 34)),
 o1 36 (.pick (.t 30) (.c (.bool true)) (.t 35)),
 m1 37 36,
 g1 38 37 false (ao 3 6),
 g1 39 37 false (lf 38 1),
 g1 40 37 false (.bsl 1 3 [.t 39]),
 g1 41 37 false (.call 42 [.c (.int .i64 0),.c (.int .i64 10000000),.t 40]),
 g1 42 37 false (.un .not (.t 41)),
 o1 43 (.pick (.t 37) (.c (.bool true)) (.t 42)),
 m1 44 43,
 g1 45 44 false (ao 5 1),
 g1 46 44 false (lf 45 1),
 g1 47 44 false (lt 2 4),
 g1 48 44 false (lt 3 8),
 g1 49 44 false (.calv (.t 46) [.t 47,.t 48]),
 g1 50 44 false (.un .not (.t 49)),
 o1 51 (.pick (.t 44) (.c (.bool true)) (.t 50))]
 (.cond (.t 51)
 (sr1 [
  o1 4 (.mv (.c (.bool false)))]
  .ret)
 .skip))
 (sr1 [
 o1 52 (ao 5 0),
 o1 53 (lf 52 1),
 o1 54 (lt 3 8),
 o1 55 (.calv (.t 53) [.t 54]),
 o1 7 (.alloc zv0 50),
 ⟨none,.st (.t 7) (.t 55) 8,none,[]⟩]
 (.seq (.regd [0,1,8,2,3,4,5,6,7,9,10,11,12,13,14,15] [
 .op (o1 56 (ao 3 0)),
 .op (p1 57 (lf 56 1) [0]),
 .op (p1 64 (ao 7 0) [0,1]),
 .hide (.t 7),
 .op (o1 58 (ao 3 1)),
 .op (p1 59 (lf 58 1) [2]),
 .op (o1 60 (ao 3 2)),
 .op (p1 61 (lf 60 1) [4]),
 .op (o1 62 (ao 3 7)),
 .op (p1 63 (lf 62 1) [6])] 0 7 [
 ⟨none,.st (.t 64) (.t 57) 1,none,[0,1,8]⟩,
 ⟨some 65,ao 7 1,none,[0,1,2,3,8,9]⟩,
 ⟨none,.st (.t 65) (.t 59) 1,none,[0,1,2,3,8,9,10]⟩,
 ⟨some 66,ao 7 2,none,[0,1,2,3,4,5,8,9,10,11]⟩,
 ⟨none,.st (.t 66) (.t 61) 1,none,[0,1,2,3,4,5,8,9,10,11,12]⟩,
 ⟨some 67,ao 7 7,none,[0,1,2,3,4,5,6,7,8,9,10,11,12,13]⟩,
 ⟨none,.st (.t 67) (.t 63) 1,none,[0,1,2,3,4,5,6,7,8,9,10,11,12,13,14]⟩])
 (sr1 [
 o1 68 (lt 7 8),
 o1 69 (lt 3 8),
 o1 70 (.eqs false true [1,1,1,1,1,1,1,0] (.t 68) (.t 69)),
 m1 4 70]
 .ret))))))
def r66:List RV:=[.tmp 4]
theorem t66:Qt1 Try.prog 66 c66 r66 71:=X4 Try.func66 rfl (by kernel_rfl) (by kernel_rfl) (by kernel_rfl) (by kernel_rfl)
def c68:SC:=(sr1 [
 o1 1 (.box (.t 0) 0 50),
 o1 2 (.mv (cn 0))]
 (sr1 [
 o1 3 (ao 1 1),
 o1 4 (lf 3 1),
 m1 2 4]
 .ret))
def r68:List RV:=[.tmp 2]
theorem t68:Qt1 Try.prog 68 c68 r68 5:=X4 Try.func68 rfl (by kernel_rfl) (by kernel_rfl) (by kernel_rfl) (by kernel_rfl)
def c69:SC:=(sr1 [
 o1 1 (.box (.t 0) 0 50),
 o1 2 (.mv (cn 0))]
 (sr1 [
 o1 3 (ao 1 0),
 o1 4 (lf 3 1),
 m1 2 4]
 .ret))
def r69:List RV:=[.tmp 2]
theorem t69:Qt1 Try.prog 69 c69 r69 5:=X4 Try.func69 rfl (by kernel_rfl) (by kernel_rfl) (by kernel_rfl) (by kernel_rfl)
def c88:SC:=(sr1 [
 o1 3 (.box (.t 0) 0 50),
 o1 4 (.box (.t 1) 0 50),
 o1 5 (.mv (cn 0))]
 (.seq (sr1 [
 o1 9 (lf 2 1),
 o1 10 (.len (.t 9)),
 o1 11 (.mv (cn 0))]
 (.block 0 (.loop (sr1 [
  o1 12 (.bin .lss (.t 11) (.t 10))]
  (.seq (.cond (.t 12)
  .skip
  (.exit 0))
  (.seq (.block 1 (sr1 [
   o1 13 (.ixs (.t 9) (.t 11) 1),
   o1 14 (lf 13 1),
   m1 7 14]
   (.seq (.regd [0,1,2,3,4,5,6,7] [
   .op (m1 15 7),
   .op (o1 16 (lt 3 8)),
   .op (p1 17 (.calv (.t 15) [.t 16]) [0,1]),
   .op (m1 18 7),
   .op (o1 19 (lt 4 8)),
   .op (p1 20 (.calv (.t 18) [.t 19]) [2,3,4]),
   .op (p1 21 (.call 89 [.t 17,.t 20]) [2,5]),
   .op (p1 8 (.mv (.t 21)) [0,1,2,3,4,5,6])] 0 0 [
])
 (sr1 [
 m1 22 8,
 o1 23 (.bin .neq (.t 22) (cn 0))]
 (.cond (.t 23)
 (sr1 [
  m1 24 8,
  m1 5 24]
  .ret)
 .skip)))))
 (.reg [
 o1 25 (.bin .add (.t 11) (cn 1)),
 m1 11 25])))))))
 (sr1 [
 o1 5 (.mv (cn 0))]
 .ret)))
def r88:List RV:=[.tmp 5]
theorem t88:Qt1 Try.prog 88 c88 r88 26:=X4 Try.func88 rfl (by kernel_rfl) (by kernel_rfl) (by kernel_rfl) (by kernel_rfl)
def c89:SC:=(sr1 [
 o1 4 (.mv (cn 0))]
 (sr1 [
 m1 7 0,
 o1 8 (.call 110 [.t 7]),
 m1 5 8]
 (sr1 [
 m1 9 1,
 o1 10 (.call 110 [.t 9]),
 m1 6 10]
 (.seq (sr1 [
 m1 11 5]
 (.cond (.t 11)
 (.seq (sr1 [
  m1 12 6]
  (.cond (.t 12)
  (sr1 [
   o1 4 (.mv (cn 0))]
   .ret)
  .skip))
  (sr1 [
  o1 4 (.mv (.c (.int .i64 (-1))))]
  .ret))
 .skip))
 (.seq (sr1 [
 m1 13 6]
 (.cond (.t 13)
 (sr1 [
  o1 4 (.mv (cn 1))]
  .ret)
 .skip))
 (.seq (sr1 [
 m1 14 0,
 m1 15 1,
 o1 16 (.bin .lss (.t 14) (.t 15))]
 (.cond (.t 16)
 (sr1 [
  o1 4 (.mv (.c (.int .i64 (-1))))]
  .ret)
 .skip))
 (.seq (sr1 [
 m1 17 0,
 m1 18 1,
 o1 19 (.bin .gtr (.t 17) (.t 18))]
 (.cond (.t 19)
 (sr1 [
  o1 4 (.mv (cn 1))]
  .ret)
 .skip))
 (sr1 [
 o1 4 (.mv (cn 0))]
 .ret))))))))
def r89:List RV:=[.tmp 4]
theorem t89:Qt1 Try.prog 89 c89 r89 20:=X4 Try.func89 rfl (by kernel_rfl) (by kernel_rfl) (by kernel_rfl) (by kernel_rfl)
def c110:SC:=(sr1 [
 o1 2 (.mv (.c (.bool false)))]
 (sr1 [
 m1 3 0,
 m1 4 0,
 o1 5 (.bin .neq (.t 3) (.t 4)),
 m1 2 5]
 .ret))
def r110:List RV:=[.tmp 2]
theorem t110:Qt1 Try.prog 110 c110 r110 6:=X4 Try.func110 rfl (by kernel_rfl) (by kernel_rfl) (by kernel_rfl) (by kernel_rfl)
def c90:SC:=(sr1 [
 o1 2 (.box (.t 0) 0 24),
 o1 3 (.box (.t 1) 0 50),
 o1 4 (.mv (.c (.bool false)))]
 (sr1 [
 o1 4 (.mv (.c (.bool true)))]
 .ret))
def r90:List RV:=[.tmp 4]
theorem t90:Qt1 Try.prog 90 c90 r90 5:=X4 Try.func90 rfl (by kernel_rfl) (by kernel_rfl) (by kernel_rfl) (by kernel_rfl)
def c91:SC:=(sr1 [
 o1 1 (.box (.t 0) 0 50),
 o1 2 (.alloc zv0 50)]
 (sr1 [
 o1 3 (ao 1 6),
 o1 4 (lf 3 1),
 o1 5 (.build zv0 [(6,1,.t 4)]),
 ⟨none,.st (.t 2) (.t 5) 8,none,[]⟩]
 .ret))
def r91:List RV:=[.cell 2 8 true]
theorem t91:Qt1 Try.prog 91 c91 r91 6:=X4 Try.func91 rfl (by kernel_rfl) (by kernel_rfl) (by kernel_rfl) (by kernel_rfl)
def c92:SC:=(sr1 [
 o1 1 (.box (.t 0) 0 50),
 o1 2 (.alloc zv0 50)]
 (sr1 [
 o1 3 (ao 1 5),
 o1 4 (lf 3 1),
 o1 5 (.build zv0 [(5,1,.t 4)]),
 ⟨none,.st (.t 2) (.t 5) 8,none,[]⟩]
 .ret))
def r92:List RV:=[.cell 2 8 true]
theorem t92:Qt1 Try.prog 92 c92 r92 6:=X4 Try.func92 rfl (by kernel_rfl) (by kernel_rfl) (by kernel_rfl) (by kernel_rfl)
def c93:SC:=(sr1 [
 o1 1 (.box (.t 0) 0 50),
 o1 2 (.alloc zv0 50)]
 (sr1 [
 o1 3 (ao 1 3),
 o1 4 (lf 3 1),
 o1 5 (ao 1 4),
 o1 6 (lf 5 1),
 o1 7 (ao 1 6),
 o1 8 (lf 7 1),
 o1 9 (.build zv0 [(3,1,.t 4),(4,1,.t 6),(6,1,.t 8)]),
 ⟨none,.st (.t 2) (.t 9) 8,none,[]⟩]
 .ret))
def r93:List RV:=[.cell 2 8 true]
theorem t93:Qt1 Try.prog 93 c93 r93 10:=X4 Try.func93 rfl (by kernel_rfl) (by kernel_rfl) (by kernel_rfl) (by kernel_rfl)
def c94:SC:=(sr1 [
 o1 2 (.box (.t 0) 0 24),
 o1 3 (.box (.t 1) 0 50),
 o1 4 (.mv (.c (.bool false)))]
 (sr1 [
 o1 5 (lt 2 4),
 o1 6 (ao 3 3),
 o1 7 (lf 6 1),
 o1 8 (.call 54 [.t 5,.t 7]),
 o1 9 (.bin .geq (.t 8) (cn 0)),
 m1 10 9,
 g1 11 10 true (lt 2 4),
 g1 12 10 true (ao 3 4),
 g1 13 10 true (lf 12 1),
 g1 14 10 true (.call 54 [.t 11,.t 13]),
 g1 15 10 true (.bin .geq (.t 14) (cn 0)),
 o1 16 (.pick (.t 10) (.t 15) (.c (.bool false))),
 m1 17 16,
 g1 18 17 true (ao 3 3),
 g1 19 17 true (lf 18 1),
 g1 20 17 true (ao 3 4),
 g1 21 17 true (lf 20 1),
 g1 22 17 true (.bin .neq (.t 19) (.t 21)),
 o1 23 (.pick (.t 17) (.t 22) (.c (.bool false))),
 m1 4 23]
 .ret))
def r94:List RV:=[.tmp 4]
theorem t94:Qt1 Try.prog 94 c94 r94 24:=X4 Try.func94 rfl (by kernel_rfl) (by kernel_rfl) (by kernel_rfl) (by kernel_rfl)
def c97:SC:=(sr1 [
 o1 1 (.box (.t 0) 0 50),
 o1 2 (.alloc zv0 50)]
 (sr1 [
 o1 3 (ao 1 3),
 o1 4 (lf 3 1),
 o1 5 (ao 1 5),
 o1 6 (lf 5 1),
 o1 7 (.build zv0 [(3,1,.t 4),(5,1,.t 6)]),
 ⟨none,.st (.t 2) (.t 7) 8,none,[]⟩]
 .ret))
def r97:List RV:=[.cell 2 8 true]
theorem t97:Qt1 Try.prog 97 c97 r97 8:=X4 Try.func97 rfl (by kernel_rfl) (by kernel_rfl) (by kernel_rfl) (by kernel_rfl)
def c98:SC:=(sr1 [
 o1 2 (.box (.t 0) 0 24),
 o1 3 (.box (.t 1) 0 50),
 o1 4 (.mv (.c (.bool false)))]
 (sr1 [
 o1 5 (lt 2 4),
 o1 6 (ao 3 3),
 o1 7 (lf 6 1),
 o1 8 (.call 54 [.t 5,.t 7]),
 o1 9 (.bin .geq (.t 8) (cn 0)),
 m1 4 9]
 .ret))
def r98:List RV:=[.tmp 4]
theorem t98:Qt1 Try.prog 98 c98 r98 10:=X4 Try.func98 rfl (by kernel_rfl) (by kernel_rfl) (by kernel_rfl) (by kernel_rfl)
def c102:SC:=(sr1 [
 o1 1 (.box (.t 0) 0 50),
 o1 2 (.alloc zv0 50)]
 (sr1 [
 o1 3 (ao 1 5),
 o1 4 (lf 3 1),
 o1 5 (ao 1 4),
 o1 6 (lf 5 1),
 o1 7 (ao 1 6),
 o1 8 (lf 7 1),
 o1 9 (.build zv0 [(5,1,.t 4),(4,1,.t 6),(6,1,.t 8)]),
 ⟨none,.st (.t 2) (.t 9) 8,none,[]⟩]
 .ret))
def r102:List RV:=[.cell 2 8 true]
theorem t102:Qt1 Try.prog 102 c102 r102 10:=X4 Try.func102 rfl (by kernel_rfl) (by kernel_rfl) (by kernel_rfl) (by kernel_rfl)
def c81:SC:=(sr1 [
 o1 4 (.mv (cn 0))]
 (.seq (sr1 [
 m1 6 0,
 o1 7 (.len (.t 6)),
 o1 8 (.mv (cn 0))]
 (.block 0 (.loop (sr1 [
  o1 9 (.bin .lss (.t 8) (.t 7))]
  (.seq (.cond (.t 9)
  .skip
  (.exit 0))
  (.seq (.block 1 (sr1 [
   m1 10 8,
   m1 5 10]
   (sr1 [
   m1 11 1,
   m1 12 0,
   m1 13 5,
   o1 14 (.ixs (.t 12) (.t 13) 1),
   o1 15 (lf 14 1),
   o1 16 (.calv (.t 11) [.t 15])]
   (.cond (.t 16)
   (sr1 [
    m1 17 5,
    m1 4 17]
    .ret)
   .skip))))
  (.reg [
  o1 18 (.bin .add (.t 8) (cn 1)),
  m1 8 18])))))))
 (sr1 [
 o1 4 (.mv (.c (.int .i64 (-1))))]
 .ret)))
def r81:List RV:=[.tmp 4]
theorem t81:Qt1 Try.prog 81 c81 r81 19:=X4 Try.func81 rfl (by kernel_rfl) (by kernel_rfl) (by kernel_rfl) (by kernel_rfl)
end Go.Proofs.Ythilckbkffjliaa
namespace Go.Sx
open Go Go.RowKit
section typed
variable {K V:Type} [DecidableEq K]
def mpS (key:K->Value) (val:V->SV) (L:List (Nat × K × V)):List (Nat × Value × SV):=L.map fun e=>(e.1,key e.2.1,val e.2.2)
def mget (k:K):List (Nat × K × V)->Option V
 | []=>none
 | e :: l=>if e.2.1=k then some e.2.2 else mget k l
def mset (c:Nat) (k:K) (v:V):List (Nat × K × V)->List (Nat × K × V)
 | []=>[(c,k,v)]
 | e :: l=>if e.2.1=k then (e.1,k,v) :: l else e :: mset c k v l
def V8 (k:K):List (Nat × K × V)->List (Nat × K × V)
 | []=>[]
 | e :: l=>if e.2.1=k then l else e :: V8 k l
def mclk (c:Nat) (k:K) (L:List (Nat × K × V)):Nat:=bif (mget k L).isSome then c else c+1
def fI (k:K):List K->List MapEntry->Nat->Option (Nat × Value)
 | q :: ks,e :: ys,i=>if q=k then some (i,e.val) else fI k ks ys (i+1)
 | _,_,_=>none
structure KeyT (P:Program) (kt:TypeId) (key:K->Value) (sv:K->SV):Prop where
 chk:∀ (em:Bool) (k:K) (w:World),(Instr.checkKey em 10000 kt (key k)).run P w = .ok () w
 fnd:∀ (k:K) (ks:List K) (ys:List MapEntry) (w:World),ys.map (·.key)=ks.map key->(Instr.findKey kt (key k) ys).run P w = .ok (fI k ks ys 0) w
 same:∀ k,Instr.sameBits 10000 (key k) (key k)=true
 svR:∀ {w:World} {E:Env} {n ok:Nat->Prop} (k:K) (y:Value),R w E n ok (sv k) y↔y=key k
theorem Vd {w:World} {E:Env} {n ok:Nat->Prop} {key:K->Value} {val:V->SV} (k:K):∀ (L:List (Nat × K × V)) (ys:List MapEntry) (i:Nat),RM w E n ok (mpS key val L) ys ->
 (mget k L=none/\fI k (L.map (·.2.1)) ys i=none/\V8 k L=L/\∀ {w':World} {E':Env} {n' ok':Nat->Prop} c v' y',R w' E' n' ok' (val v') y'->RM w' E' n' ok' (mpS key val L) ys->RM w' E' n' ok' (mpS key val (mset c k v' L)) (ys ++ [⟨key k,y',c⟩])) \/
 ∃ j v e,mget k L=some v/\fI k (L.map (·.2.1)) ys i=some (i+j,e.val)/\ys[j]? = some e/\e.key=key k/\R w E n ok (val v) e.val /\
  (∀ {w':World} {E':Env} {n' ok':Nat->Prop},RM w' E' n' ok' (mpS key val L) ys->RM w' E' n' ok' (mpS key val (V8 k L)) (ys.eraseIdx j)/\∀ c v' y',R w' E' n' ok' (val v') y'->RM w' E' n' ok' (mpS key val (mset c k v' L)) (ys.modify j fun e=>{ e with key:=key k,val:=y' }))
 | [],ys,i,h=>by
  simp only [mpS,List.map_nil,RM] at h
  subst h
  exact .inl ⟨rfl,rfl,rfl,fun c v' y' hR _=>by simp only [mset,mpS,List.map_cons,List.map_nil,List.nil_append,RM];exact ⟨y',[],rfl,hR,rfl⟩⟩
 | e :: l,ys,i,h=>by
  simp only [mpS,List.map_cons,RM] at h
  obtain ⟨y,r,rfl,h1,h2⟩:=h
  by_cases hk:e.2.1=k
  . refine .inr ⟨0,e.2.2,⟨key e.2.1,y,e.1⟩,by simp [mget,hk],by simp [fI,hk],rfl,by simp [hk],h1,fun {w' E' n' ok'} h'=>?_⟩
    simp only [mpS,List.map_cons,RM] at h'
    obtain ⟨y0,r0,e0,h3,h4⟩:=h'
    cases e0
    refine ⟨by simpa [V8,hk,mpS] using h4,fun c v' y' hR=>?_⟩
    simp only [mset,hk,if_true,mpS,List.map_cons,RM]
    exact ⟨y',r,by simp,hR,h4⟩
  . rcases Vd k l r (i+1) h2 with ⟨a1,a2,a3,a4⟩ | ⟨j,v,e',b1,b2,b3,b4,b5,b6⟩
    . refine .inl ⟨by simp [mget,hk,a1],by simp [fI,hk,a2],by simp [V8,hk,a3],fun {w' E' n' ok'} c v' y' hR h'=>?_⟩
      simp only [mpS,List.map_cons,RM] at h'
      obtain ⟨y0,r0,e0,h3,h4⟩:=h'
      cases e0
      simp only [mset,hk,if_false,mpS,List.map_cons,RM]
      exact ⟨y,_,rfl,h3,a4 c v' y' hR h4⟩
    . refine .inr ⟨j+1,v,e',by simp [mget,hk,b1],by simp [fI,hk,b2];omega,by simpa using b3,b4,b5,fun {w' E' n' ok'} h'=>?_⟩
      simp only [mpS,List.map_cons,RM] at h'
      obtain ⟨y0,r0,e0,h3,h4⟩:=h'
      cases e0
      obtain ⟨c1,c2⟩:=b6 h4
      refine ⟨?_,fun c v' y' hR=>?_⟩
      . simp only [V8,hk,if_false,mpS,List.map_cons,RM]
        exact ⟨y,_,by simp,h3,c1⟩
      . simp only [mset,hk,if_false,mpS,List.map_cons,RM]
        exact ⟨y,_,by simp,h3,c2 c v' y' hR⟩
omit [DecidableEq K] in
theorem W8 {w:World} {E:Env} {n ok:Nat->Prop} {key:K->Value} {val:V->SV}:∀ {L:List (Nat × K × V)} {ys:List MapEntry},RM w E n ok (mpS key val L) ys->ys.map (·.key)=(L.map (·.2.1)).map key
 | [],ys,h=>by simp only [mpS,List.map_nil,RM] at h;subst h;rfl
 | e :: l,ys,h=>by
  simp only [mpS,List.map_cons,RM] at h
  obtain ⟨y,r,rfl,h1,h2⟩:=h
  simp only [List.map_cons,List.cons.injEq,true_and]
  exact W8 h2
theorem Zrm {P:Program} {kt:TypeId} {kd:IntKind} (hu:P.underlying kt=some (.int kd)):KeyT P kt (fun n:Int=>.int kd n) (fun n=>.v (.int kd n)):=by
 refine ⟨fun em k w=>MapKept.run_checkKey hu (by simp [MapKept.IsKey]) em _,fun k ks ys w h=>?_,fun k=>by simp [Instr.sameBits],fun k y=>by simp only [R]⟩
 have:∀ (ks:List Int) (ys:List MapEntry) (i:Nat),ys.map (·.key)=ks.map (fun n:Int=>Value.int kd n)->Instr.findNow (.int kd) (.int kd k) ys i=some (fI k ks ys i):=by
  intro ks ys
  induction ys generalizing ks with
  | nil=>intro i h;cases ks with
   | nil=>rfl
   | cons a b=>simp at h
  | cons e ys ih=>intro i h;cases ks with
   | nil=>simp at h
   | cons a b =>
    simp only [List.map_cons,List.cons.injEq] at h
    simp only [Instr.findNow,h.1,Instr.sameNow,if_true,fI]
    by_cases ha:a=k
    . subst ha;simp
    . have:(k == a)=false:=by simpa using fun e=>ha e.symm
      simp [this,ha,ih b (i+1) h.2]
 exact MapKept.run_findKey hu (this ks ys 0 h)
theorem Zsw {P:Program} {kt t1:TypeId} {f1 f2:Field} (hu:P.underlying kt=some (.struct #[f1,f2])) (hu1:P.underlying t1=some (.int .i64)) (h1:f1.type=t1) (h2:f2.type=t1) (ho1:f1.offset=0) (ho2:f2.offset=1)
 (hs:Xl P t1=some 1) (ha:UH P t1=some false) (hn:f1.name≠"_") (hn2:f2.name≠"_") (he:∀ (a b c d:Int) (w:World),(Op.equal kt (.agg #[.int .i64 a,.int .i64 b]) (.agg #[.int .i64 c,.int .i64 d])).run P w = .ok (a == c && b == d) w) :
 KeyT P kt (fun n:Int × Int=>.agg #[.int .i64 n.1,.int .i64 n.2]) (fun n=>.agg [.v (.int .i64 n.1),.v (.int .i64 n.2)]):=by
 refine ⟨fun em k w=>?_,fun k ks ys w h=>?_,fun k=>by simp [Instr.sameBits],fun k y=>?_⟩
 . have p1:(part t1 #[Value.int .i64 k.1,.int .i64 k.2] 0).run P w = .ok (.int .i64 k.1) w:=WO (ag:=false) ha hs _ (fun _=>by simp)
   have p2:(part t1 #[Value.int .i64 k.1,.int .i64 k.2] 1).run P w = .ok (.int .i64 k.2) w:=WO (ag:=false) ha hs _ (fun _=>by simp)
   have q:∀ x,(Instr.checkKey em 9999 t1 (.int .i64 x)).run P w = .ok () w:=fun x=>MapKept.run_checkKey hu1 (by simp [MapKept.IsKey]) em _
   rw [show (10000:Nat)=9999+1 from rfl,Instr.checkKey]
   simp [Sem.run_bind,run_underlying hu,h1,h2,ho1,ho2,hn,hn2,p1,p2,q]
 . rw [run_findKey_eq w (by rw [hu])]
   have:∀ (ks:List (Int × Int)) (ys:List MapEntry) (i:Nat),ys.map (·.key)=ks.map (fun n:Int × Int=>Value.agg #[.int .i64 n.1,.int .i64 n.2])->(Instr.findAsking kt (.agg #[.int .i64 k.1,.int .i64 k.2]) ys i).run P w = .ok (fI k ks ys i) w:=by
    intro ks ys
    induction ys generalizing ks with
    | nil=>intro i h;cases ks with
     | nil=>rfl
     | cons a b=>simp at h
    | cons e ys ih=>intro i h;cases ks with
     | nil=>simp at h
     | cons a b =>
      simp only [List.map_cons,List.cons.injEq] at h
      simp only [Instr.findAsking,h.1,Sem.run_bind,he,Result.andThen_ok,fI]
      by_cases hak:a=k
      . subst hak;simp
      . have:(k.1 == a.1 && k.2 == a.2)=false:=by
         rw [Bool.eq_false_iff];intro hh
         simp only [Bool.and_eq_true,beq_iff_eq] at hh
         exact hak (Prod.ext hh.1.symm hh.2.symm)
        simp [this,hak,ih b (i+1) h.2]
   exact this ks ys 0 h
 . simp only [R,RL]
   constructor
   . rintro ⟨cs,rfl,y1,r,hcs,rfl,y2,r2,rfl,rfl,rfl⟩
     simp only [Value.agg.injEq]
     apply Array.toList_inj.1;simp [hcs]
   . rintro rfl
     exact ⟨_,rfl,_,_,rfl,rfl,_,_,rfl,rfl,rfl⟩
end typed
section
variable {P:Program} {C:Cx} {E:Env} {σ : St} {a:Act} {w:World}
def V2 (σ : St):Operand->SV
 | .tmp u=>lk u σ.fr
 | .const x=>.v x
 | _=>.any
theorem Wa (h:Sim C E σ a w) {o:Operand} {s:SV} (hs:V2 σ o=s) (hg:∀ j b u,s≠.gd j b u):R w E (ltn σ.n) (okS C E σ.hp) s (a.eval o):=by
 cases o with
 | tmp u =>
  have:=Zq4 (h.fr u) (fun j b u' e=>hg j b u' (by rw [<- hs];exact e))
  simp only [V2] at hs;rw [hs] at this;exact this
 | const x=>simp only [V2] at hs;subst hs;simp only [R];rfl
 | _=>simp only [V2] at hs;subst hs;simp only [R]
theorem ZcB (h:Sim C E σ a w) {km c:Nat} {es:List (Nat × Value × SV)} (hk:lkh km σ.hp = .map es c) :
 ltn σ.n km/\∃ ys,w.heap[E.β km]? = some (.map ys c)/\RM w E (ltn σ.n) (okS C E σ.hp) es ys.toList:=by
 have hb:=h.hs.bk km
 rw [hk] at hb
 refine ⟨?_,hb⟩
 rcases Classical.em (ltn σ.n km) with q | q
 . exact q
 . rw [h.hs.kn km q] at hk;cases hk
theorem Zxe {d:Option Nat} {s:SV} {r:KT} {K:RK} {y:Value} {w':World} {E':Env} {hp':List (Nat × HB)} {n':Nat} {next:Act->World->Prop} (hk:Ym d s none ⟨σ.fr,hp',n',σ.N,σ.gs⟩ r K) (h:Sim C E σ a w)
 (hst:Zt w w' (okS C E σ.hp) (okS C E' hp')) (hE:∀ k,k < σ.n->Ele E E' k k) (hn:σ.n<=n') (hh:HSim C E' hp' (ltn n') w') (hR:R w' E' (ltn n') (okS C E' hp') s y)
 (hnext:∀ σ' E' a' w',r σ' K->Sim C E' σ' a' w'->next a' w'):next (a.put d y) w':=by
 rcases Vk hk with ⟨g1,g2⟩ | ⟨t,g1,g2,g3,g4,g5⟩
 . rw [g1];exact hnext _ E' _ _ g2 (Z1 (σ:=σ) h hst hE hn hh)
 . rw [g1]
   exact hnext _ E' _ _ g5 (Xe (σ:=σ) h hst hE hn hh g2 g3 (fun j b u e=>by rw [e] at g4;cases g4) hR)
theorem Va {d:Option Nat} {s:SV} {r:KT} {K:RK} {y:Value} {next:Act->World->Prop} (hk:Ym d s none σ r K) (h:Sim C E σ a w) (hR:R w E (ltn σ.n) (okS C E σ.hp) s y)
 (hnext:∀ σ' E' a' w',r σ' K->Sim C E' σ' a' w'->next a' w'):next (a.put d y) w :=
 Zxe (hp':=σ.hp) (n':=σ.n) hk h (fun b hb _=>⟨hb,rfl⟩) (fun _ _=>Ele.rfl) (Nat.le_refl _) h.hs hR hnext
theorem Zaa {K':Type} [DecidableEq K'] {kt:TypeId} {key:K'->Value} {sv:K'->SV} (hK:KeyT P kt key sv) (k:K'):∀ j b u,sv k≠.gd j b u:=fun j b u e=>by
 have:=(hK.svR (w:=default) (E:=⟨fun _=>0,fun _ _=>undef,fun _=>0⟩) (n:=fun _=>True) (ok:=fun _=>True) k (key k)).2 rfl
 rw [e] at this;simp only [R] at this
theorem Zh8 {hp:List (Nat × HB)} {n:Nat->Prop} {q:Nat} {hb:HB} {o:Obj} (h:HSim C E hp n w) (hq:¬ n q) (hocc:∀ (E:Env) b,occ E q hb b↔b=E.β q)
 (hok:∀ E',(∀ k,n k->Ele E E' k k)->E'.β q=w.heap.size->ZT (w.alloc o) E' (fun k=>n k\/k=q) (okS C E' ((q,hb) :: hp)) q hb) :
 ∃ E',(∀ k,n k->Ele E E' k k)/\E'.β q=w.heap.size/\HSim C E' ((q,hb) :: hp) (fun k=>n k\/k=q) (w.alloc o)/\Zt w (w.alloc o) (okS C E hp) (okS C E' ((q,hb) :: hp)):=by
 let E':Env:=⟨fun k=>if k=q then w.heap.size else E.β k,E.hv,E.iss⟩
 have hE:∀ k,n k->Ele E E' k k:=fun k hk=>⟨by simp [E',show k≠q from by rintro rfl;exact hq hk],Nat.le_refl _,fun _ _=>rfl⟩
 have hEn:E'.β q=w.heap.size:=by simp [E']
 have hbel:Below w.heap.size w (w.alloc o):=(Below.refl _ _).alloc (Nat.le_refl _) _
 have hoc:∀ j b,j≠q->(occ E' j (lkh j ((q,hb) :: hp)) b↔occ E j (lkh j hp) b):=fun j b hj=>by
  rw [Zk,if_neg hj]
  cases hl:lkh j hp<;>simp only [occ,E',if_neg hj]
 have hocn:∀ b,occ E' q (lkh q ((q,hb) :: hp)) b↔b=w.heap.size:=fun b=>by
  rw [Zk,if_pos rfl,hocc,hEn]
 have hlt:∀ b,b < w.heap.size->(okS C E' ((q,hb) :: hp) b↔okS C E hp b):=fun b hb'=>by
  unfold okS
  constructor
  . rintro ⟨h1,h2⟩
    refine ⟨h1,fun j hj=>?_⟩
    by_cases hjn:j=q
    . subst hjn;rw [h.kn j hq] at hj;exact hj
    . exact h2 j ((hoc j b hjn).2 hj)
  . rintro ⟨h1,h2⟩
    refine ⟨h1,fun j hj=>?_⟩
    by_cases hjn:j=q
    . subst hjn;rw [hocn] at hj;omega
    . exact h2 j ((hoc j b hjn).1 hj)
 have hst:Zt w (w.alloc o) (okS C E hp) (okS C E' ((q,hb) :: hp)):=fun b hb' hs=>by
  have hlt':b < w.heap.size:=by
   obtain ⟨o,ho⟩:=Option.isSome_iff_exists.1 hs
   exact (Array.getElem?_eq_some_iff.1 ho).1
  exact ⟨(hlt b hlt').2 hb',hbel.block b hlt'⟩
 refine ⟨E',hE,hEn,⟨fun j hj=>?_,fun j=>?_,fun j j' b h1 h2=>?_,fun j b h1=>?_,Wm h.kp hbel,fun k hk=>(by obtain ⟨p1,p2⟩:=h.pin k hk;exact ⟨.inl p1,p2.trans (hE k p1)⟩)⟩,hst⟩
 . rw [Zk,if_neg (fun e=>hj (.inr e))];exact h.kn j (fun e=>hj (.inl e))
 . rw [Zk]
   by_cases hj:j=q
   . subst hj;rw [if_pos rfl]
     exact hok E' hE hEn
   . rw [if_neg hj]
     refine Z4 hst hE (fun _ h=>.inl h) ?_ (fun b ho=>hbel.block b (Yc h ho)) (by simp [E',hj]) (h.bk j)
     rcases Classical.em (n j) with h' | h'
     . exact .inr h'
     . exact .inl (h.kn j h')
 . by_cases hj:j=q<;>by_cases hj':j'=q
   . omega
   . subst hj;rw [hocn] at h1;rw [hoc j' b hj'] at h2;have:=Yc h h2;omega
   . subst hj';rw [hocn] at h2;rw [hoc j b hj] at h1;have:=Yc h h1;omega
   . exact h.dj j j' b ((hoc j b hj).1 h1) ((hoc j' b hj').1 h2)
 . by_cases hj:j=q
   . subst hj;rw [hocn] at h1;exact .inl (by rw [h1];exact h.kp.size)
   . exact h.lo j b ((hoc j b hj).1 h1)
end
section
variable {P:Program} {K' V:Type} [DecidableEq K'] {key:K'->Value} {sv:K'->SV} {val:V->SV} {L:List (Nat × K' × V)} {km c:Nat} {kt et t ty:TypeId} {mx ix vx:Operand} {σ : St} {r:KT} {K:RK} {d:Option Nat} {k:K'}
theorem Y6 {u:Nat} {rs:Option Operand} (hr:rs=none) (h1:YV u σ.gs=false) (h2:Nat.blt u σ.N=true) (h:r ⟨(u,.mp σ.n) :: σ.fr,(σ.n,.map [] 0) :: σ.hp,σ.n+1,σ.N,σ.gs⟩ K) :
 RAW P (some u) (.makeMap t rs) ty σ r K:=by
 subst hr
 intro o C E a w next Q e1 e2 e3 hS hn hq
 obtain ⟨E',k1,k2,k3,k4⟩:=Zh8 (q:=σ.n) (hb:=.map [] 0) (o:=.map #[] 0) hS.hs (by simp [ltn]) (fun E b=>by simp only [occ]) (fun E' g1 g2=>by
  simp only [ZT,g2];exact ⟨#[],heap_alloc_new _ _,rfl⟩)
 have hV:(fun k=>ltn σ.n k\/k = σ.n)=ltn (σ.n+1):=by funext k;simp only [ltn,eq_iff_iff];omega
 rw [hV] at k3
 have hx:(execOp a.eval o).run P w = .ok (.value (.map (some w.heap.size))) (w.alloc (.map #[] 0)):=by
  obtain ⟨dst',op',ty',pos,after,guard⟩:=o
  simp only at e2;subst e2
  simp [execOp,Sem.run_bind,Instr.makeMap,Zes,Sem.run_pure]
 refine Zv hx (by simp) ?_
 show next (a.put o.dst _) _
 rw [e1]
 refine hn _ E' _ _ h (Xe hS k4 k1 (by omega) k3 (fun hh=>?_) (by simpa [Nat.blt_eq] using h2) (fun _ _ _ e=>by cases e) ?_)
 . rw [ZN.2 hh] at h1;cases h1
 . simp only [R,k2];exact ⟨by simp [ltn],trivial⟩
theorem YF {ok:Bool} {zs:SV} {z:Value} (hm:V2 σ mx = .mp km) (hh:lkh km σ.hp = .map (mpS key val L) c) (ht:P.underlying t=some (.map kt et)) (hK:KeyT P kt key sv) (hi:V2 σ ix=sv k)
 (hz:ZU P et=some z) (hzR:∀ w E n ok,R w E n ok zs z)
 (h1:∀ v,mget k L=some v->Ym d (bif ok then .tup [val v,.v (.bool true)] else val v) none σ r K) (h0:mget k L=none->Ym d (bif ok then .tup [zs,.v (.bool false)] else zs) none σ r K) :
 RAW P d (.lookup t mx ix ok) ty σ r K:=by
 intro o C E a w next Q e1 e2 e3 hS hn hq
 have hmv:=Wa hS hm (fun _ _ _=>by simp)
 have hiv:=(hK.svR k _).1 (Wa hS hi (Zaa hK k))
 simp only [R] at hmv
 obtain ⟨g0,ys,g1,g2⟩:=ZcB hS hh
 have hfn:=fun w=>hK.fnd k _ _ w (W8 g2)
 have hex:∀ y,(Instr.lookup t (a.eval mx) (a.eval ix) ok).run P w = .ok y w->(execOp a.eval o).run P w = .ok (.value y) w:=fun y hy=>by
  obtain ⟨dst',op',ty',pos,after,guard⟩:=o
  simp only at e2;subst e2
  simp only [execOp,Sem.run_bind,hy,Result.andThen_ok,Sem.run_pure]
 rcases Vd (w:=w) (E:=E) (n:=ltn σ.n) (ok:=okS C E σ.hp) k L ys.toList 0 g2 with ⟨a1,a2,-,-⟩ | ⟨j,v,e,b1,b2,b3,b4,b5,-⟩
 . have hrun:(Instr.lookup t (a.eval mx) (a.eval ix) ok).run P w = .ok (if ok then .tuple #[z,.bool false] else z) w:=by
    rw [hmv.2,hiv]
    simp only [Instr.lookup,Sem.run_bind,run_underlying ht,Result.andThen_ok,Yh g1 rfl,Sem.run_pure,hK.chk,hfn,a2,Xs hz]
   refine Zv (hex _ hrun) (by simp) ?_
   show next (a.put o.dst _) _
   rw [e1]
   refine Va (h0 a1) hS ?_ hn
   cases ok
   . exact hzR _ _ _ _
   . simp only [cond_true,if_true,R,RL];exact ⟨_,rfl,_,_,rfl,hzR _ _ _ _,_,_,rfl,rfl,rfl⟩
 . have hrun:(Instr.lookup t (a.eval mx) (a.eval ix) ok).run P w = .ok (if ok then .tuple #[e.val,.bool true] else e.val) w:=by
    rw [hmv.2,hiv]
    simp only [Instr.lookup,Sem.run_bind,run_underlying ht,Result.andThen_ok,Yh g1 rfl,Sem.run_pure,hK.chk,hfn,b2]
   refine Zv (hex _ hrun) (by simp) ?_
   show next (a.put o.dst _) _
   rw [e1]
   refine Va (h1 v b1) hS ?_ hn
   cases ok
   . exact b5
   . simp only [cond_true,if_true,R,RL];exact ⟨_,rfl,_,_,rfl,b5,_,_,rfl,rfl,rfl⟩
theorem Zpy {v:V} {s:SV} {ins:Bool} (hm:V2 σ mx = .mp km) (hh:lkh km σ.hp = .map (mpS key val L) c) (ht:P.underlying t=some (.map kt et)) (hK:KeyT P kt key sv) (hi:V2 σ ix=sv k)
 (hv:V2 σ vx=s) (hvg:∀ j b u,s≠.gd j b u) (hsv:∀ w E n ok y,R w E n ok s y->R w E n ok (val v) y) (h:r ⟨σ.fr,(km,.map (mpS key val (mset c k v L)) (mclk c k L)) :: σ.hp,σ.n,σ.N,σ.gs⟩ K) :
 RAW P none (bif ins then .insert t mx ix vx else .mapUpdate t mx ix vx) ty σ r K:=by
 intro o C E a w next Q e1 e2 e3 hS hn hq
 have hmv:=Wa hS hm (fun _ _ _=>by simp)
 have hiv:=(hK.svR k _).1 (Wa hS hi (Zaa hK k))
 have hvv:=hsv _ _ _ _ _ (Wa hS hv hvg)
 simp only [R] at hmv
 obtain ⟨g0,ys,g1,g2⟩:=ZcB hS hh
 have hfn:=fun w=>hK.fnd k _ _ w (W8 g2)
 have hex:∀ w',(Instr.mapUpdate t (a.eval mx) (a.eval ix) (a.eval vx)).run P w = .ok () w'->(execOp a.eval o).run P w = .ok .skip w':=fun w' hy=>by
  obtain ⟨dst',op',ty',pos,after,guard⟩:=o
  simp only at e2;subst e2
  cases ins<;>simp only [cond_true,cond_false,execOp,Sem.run_bind,hy,Result.andThen_ok,Sem.run_pure]
 have hfin:∀ ys',((ys':Array MapEntry),mclk c k L)=(ys',mclk c k L)->(∀ {w':World} {ok':Nat->Prop},RM w' E (ltn σ.n) ok' (mpS key val L) ys.toList->R w' E (ltn σ.n) ok' (val v) (a.eval vx)->RM w' E (ltn σ.n) ok' (mpS key val (mset c k v L)) ys'.toList) ->
  next (a.put o.dst undef) (WN w (E.β km) (.map ys' (mclk c k L))):=fun ys' _ hRM=>by
  obtain ⟨q1,q2⟩:=XL (k:=km) (hb:=.map (mpS key val (mset c k v L)) (mclk c k L)) (o:=.map ys' (mclk c k L)) hS.hs (fun b=>by rw [hh];simp only [occ]) (fun b=>by simp only [occ]) (fun hlt hst=>by
   simp only [ZT]
   exact ⟨ys',Y3 hlt,hRM (Xd hst.c (fun _ _=>Ele.rfl) (fun _ h=>h) _ _ g2) (ZB hst.c (fun _ _=>Ele.rfl) (fun _ h=>h) _ _ hvv)⟩)
  rw [e1]
  exact hn _ E _ _ h (Z1 hS q2 (fun _ _=>Ele.rfl) (Nat.le_refl _) q1)
 rcases Vd (w:=w) (E:=E) (n:=ltn σ.n) (ok:=okS C E σ.hp) k L ys.toList 0 g2 with ⟨a1,a2,-,a4⟩ | ⟨j,v0,e,b1,b2,b3,b4,b5,b6⟩
 . have hc:mclk c k L=c+1:=by simp [mclk,a1]
   have hrun:(Instr.mapUpdate t (a.eval mx) (a.eval ix) (a.eval vx)).run P w = .ok () (WN w (E.β km) (.map (ys.push ⟨key k,a.eval vx,c⟩) (c+1))):=by
    rw [hmv.2,hiv]
    simp only [Instr.mapUpdate,Sem.run_bind,run_underlying ht,Result.andThen_ok,Yh g1 rfl,Sem.run_pure,hK.chk,hfn,a2,Yu _ g1 rfl]
   refine Zv (hex _ hrun) (by simp) ?_
   show next (a.put o.dst undef) _
   rw [<- hc]
   exact hfin _ rfl fun h1 h2=>by rw [Array.toList_push];exact a4 c v _ h2 h1
 . have hc:mclk c k L=c:=by simp [mclk,b1]
   rw [Nat.zero_add] at b2
   have hek:((ys[j]?).map (·.key)).getD (key k)=key k:=by
    have:ys[j]? = some e:=by simpa using b3
    simp [this,b4]
   have hrun:(Instr.mapUpdate t (a.eval mx) (a.eval ix) (a.eval vx)).run P w = .ok () (WN w (E.β km) (.map (ys.modify j fun e=>{ e with key:=key k,val:=a.eval vx }) c)):=by
    rw [hmv.2,hiv]
    simp only [Instr.mapUpdate,Sem.run_bind,run_underlying ht,Result.andThen_ok,Yh g1 rfl,Sem.run_pure,hK.chk,hfn,b2,hek,Instr.keyThatStays,hK.same,if_true,Yu _ g1 rfl]
   refine Zv (hex _ hrun) (by simp) ?_
   show next (a.put o.dst undef) _
   have:=hfin (ys.modify j fun e=>{ e with key:=key k,val:=a.eval vx }) rfl fun {w' ok'} h1 h2=>by
    rw [Array.toList_modify];exact (b6 h1).2 c v _ h2
   rw [hc] at this;exact this
theorem Yd {v:V} {ins:Bool} (hm:V2 σ mx = .mp km) (hh:lkh km σ.hp = .map (mpS key val L) c) (ht:P.underlying t=some (.map kt et)) (hK:KeyT P kt key sv) (hi:V2 σ ix=sv k)
 (hv:V2 σ vx=val v) (hvg:∀ j b u,val v≠.gd j b u) (h:r ⟨σ.fr,(km,.map (mpS key val (mset c k v L)) (mclk c k L)) :: σ.hp,σ.n,σ.N,σ.gs⟩ K) :
 RAW P none (bif ins then .insert t mx ix vx else .mapUpdate t mx ix vx) ty σ r K:=Zpy hm hh ht hK hi hv hvg (fun _ _ _ _ _ h=>h) h
theorem ZsS (hm:V2 σ mx = .mp km) (hh:lkh km σ.hp = .map (mpS key val L) c) (ht:P.underlying t=some (.map kt et)) (hK:KeyT P kt key sv) (hi:V2 σ ix=sv k) {ats:Array TypeId} (ha:ats[0]? = some t)
 (h:r ⟨σ.fr,(km,.map (mpS key val (V8 k L)) c) :: σ.hp,σ.n,σ.N,σ.gs⟩ K) :
 RAW P none (.call { callee:=.builtin .delete,args:=#[mx,ix],argTypes:=ats }) ty σ r K:=by
 intro o C E a w next Q e1 e2 e3 hS hn hq
 have hmv:=Wa hS hm (fun _ _ _=>by simp)
 have hiv:=(hK.svR k _).1 (Wa hS hi (Zaa hK k))
 simp only [R] at hmv
 obtain ⟨g0,ys,g1,g2⟩:=ZcB hS hh
 have hfn:=fun w=>hK.fnd k _ _ w (W8 g2)
 have hex:∀ w',(Builtin.delete_ ats ty #[a.eval mx,a.eval ix]).run P w = .ok (.tuple #[]) w'->(execOp a.eval o).run P w = .ok (.value (.tuple #[])) w':=fun w' hy=>by
  obtain ⟨dst',op',ty',pos,after,guard⟩:=o
  simp only at e2 e3;subst e2;subst e3
  simp [execOp,resolve,invoke,builtin,hy]
 have hfin:∀ ys':Array MapEntry,(∀ {w':World} {ok':Nat->Prop},RM w' E (ltn σ.n) ok' (mpS key val L) ys.toList->RM w' E (ltn σ.n) ok' (mpS key val (V8 k L)) ys'.toList) ->
  next (a.put o.dst (.tuple #[])) (WN w (E.β km) (.map ys' c)):=fun ys' hRM=>by
  obtain ⟨q1,q2⟩:=XL (k:=km) (hb:=.map (mpS key val (V8 k L)) c) (o:=.map ys' c) hS.hs (fun b=>by rw [hh];simp only [occ]) (fun b=>by simp only [occ]) (fun hlt hst=>by
   simp only [ZT]
   exact ⟨ys',Y3 hlt,hRM (Xd hst.c (fun _ _=>Ele.rfl) (fun _ h=>h) _ _ g2)⟩)
  rw [e1]
  exact hn _ E _ _ h (Z1 hS q2 (fun _ _=>Ele.rfl) (Nat.le_refl _) q1)
 rcases Vd (w:=w) (E:=E) (n:=ltn σ.n) (ok:=okS C E σ.hp) k L ys.toList 0 g2 with ⟨a1,a2,a3,-⟩ | ⟨j,v0,e,b1,b2,b3,b4,b5,b6⟩
 . have hrun:(Builtin.delete_ ats ty #[a.eval mx,a.eval ix]).run P w = .ok (.tuple #[]) (WN w (E.β km) (.map ys c)):=by
    rw [hmv.2,hiv]
    simp [Builtin.delete_,Sem.run_bind,ha,run_underlying ht,Result.andThen_ok,Yh g1 rfl,Sem.run_pure,hK.chk,hfn,a2,Yu _ g1 rfl]
   refine Zv (hex _ hrun) (by simp) ?_
   show next (a.put o.dst _) _
   exact hfin _ fun h1=>by rw [a3];exact h1
 . rw [Nat.zero_add] at b2
   have hlt:j < ys.size:=by
    have:ys[j]? = some e:=by simpa using b3
    exact (Array.getElem?_eq_some_iff.1 this).1
   have hrun:(Builtin.delete_ ats ty #[a.eval mx,a.eval ix]).run P w = .ok (.tuple #[]) (WN w (E.β km) (.map (ys.eraseIdxIfInBounds j) c)):=by
    rw [hmv.2,hiv]
    simp [Builtin.delete_,Sem.run_bind,ha,run_underlying ht,Result.andThen_ok,Yh g1 rfl,Sem.run_pure,hK.chk,hfn,b2,Yu _ g1 rfl]
   refine Zv (hex _ hrun) (by simp) ?_
   show next (a.put o.dst _) _
   exact hfin _ fun {w' ok'} h1=>by
    have:(ys.eraseIdxIfInBounds j).toList=ys.toList.eraseIdx j:=by simp [Array.eraseIdxIfInBounds,hlt]
    rw [this];exact (b6 h1).1
end
section
variable {K V:Type} [DecidableEq K] {k k':K} {v:V} {c:Nat} {L:List (Nat × K × V)}
structure MW (L:List (Nat × K × V)) (c:Nat):Prop where
 bn:(L.map (·.1)).Nodup
 bl:∀ e ∈ L,e.1 < c
 kn:(L.map (·.2.1)).Nodup
omit [DecidableEq K] in
theorem MW.nil {c:Nat}:MW ([]:List (Nat × K × V)) c:=⟨List.nodup_nil,(fun e h=>by cases h),List.nodup_nil⟩
theorem VF:∀ {L:List (Nat × K × V)},mget k L=none↔∀ e ∈ L,e.2.1≠k
 | []=>by simp [mget]
 | e :: l=>by
  simp only [mget]
  split
  . rename_i hk;simp [hk]
  . rename_i hk;rw [VF];simp [hk]
theorem Zh5:∀ {L:List (Nat × K × V)} {e:Nat × K × V},(L.map (·.2.1)).Nodup->e ∈ L->mget e.2.1 L=some e.2.2
 | x :: l,e,hn,he=>by
  simp only [List.map_cons,List.nodup_cons] at hn
  simp only [mget]
  rcases List.mem_cons.1 he with rfl | he
  . simp
  . rw [if_neg (fun hx:x.2.1=e.2.1=>hn.1 (by rw [hx];exact List.mem_map.2 ⟨e,he,rfl⟩))]
    exact Zh5 hn.2 he
theorem mget_set:∀ {L:List (Nat × K × V)},mget k' (mset c k v L)=if k'=k then some v else mget k' L
 | []=>by simp only [mset,mget];by_cases h:k=k'<;>simp [h,eq_comm]
 | e :: l=>by
  simp only [mset]
  by_cases he:e.2.1=k
  . rw [if_pos he]
    simp only [mget]
    by_cases hk:k=k'
    . subst hk;simp
    . rw [if_neg hk,if_neg (fun h=>hk h.symm),if_neg (fun h=>hk (he.symm.trans h))]
  . rw [if_neg he]
    simp only [mget]
    by_cases hk:e.2.1=k'
    . rw [if_pos hk,if_neg (fun h=>he (hk.trans h)),if_pos hk]
    . rw [if_neg hk,if_neg hk,mget_set]
theorem Zfg:∀ {L:List (Nat × K × V)},mget k L=none->mset c k v L=L ++ [(c,k,v)]
 | [],_=>rfl
 | e :: l,h=>by
  simp only [mget] at h
  split at h
  . cases h
  . rename_i he;simp only [mset,if_neg he,Zfg h,List.cons_append]
theorem Zeo:∀ {L:List (Nat × K × V)},(mget k L).isSome->(mset c k v L).map (fun e=>(e.1,e.2.1))=L.map fun e=>(e.1,e.2.1)
 | [],h=>by simp [mget] at h
 | e :: l,h=>by
  simp only [mget] at h
  simp only [mset]
  split
  . rename_i he;simp [he]
  . rename_i he;rw [if_neg he] at h;simp [Zeo h]
theorem Zjk:∀ {L:List (Nat × K × V)} {e:Nat × K × V},e ∈ mset c k v L->e ∈ L\/e.2=(k,v)
 | [],e,h=>by simp only [mset,List.mem_singleton] at h;subst h;exact .inr rfl
 | x :: l,e,h=>by
  simp only [mset] at h
  split at h
  . rcases List.mem_cons.1 h with rfl | h
    . exact .inr rfl
    . exact .inl (by simp [h])
  . rcases List.mem_cons.1 h with rfl | h
    . exact .inl (by simp)
    . rcases Zjk h with h | h
      . exact .inl (by simp [h])
      . exact .inr h
theorem MW.set (h:MW L c) (v:V):MW (mset c k v L) (mclk c k L):=by
 cases hg:mget k L with
 | none =>
  have hc:mclk c k L=c+1:=by simp [mclk,hg]
  rw [Zfg hg,hc]
  have hk:=VF.1 hg
  refine ⟨?_,fun e he=>?_,?_⟩
  . rw [List.map_append,List.nodup_append]
    refine ⟨h.bn,by simp,fun a ha b hb=>?_⟩
    obtain ⟨e,he,rfl⟩:=List.mem_map.1 ha
    simp only [List.map_cons,List.map_nil,List.mem_singleton] at hb
    have:=h.bl e he;omega
  . rcases List.mem_append.1 he with he | he
    . have:=h.bl e he;omega
    . simp only [List.mem_singleton] at he;subst he;simp
  . rw [List.map_append,List.nodup_append]
    refine ⟨h.kn,by simp,fun a ha b hb=>?_⟩
    obtain ⟨e,he,rfl⟩:=List.mem_map.1 ha
    simp only [List.map_cons,List.map_nil,List.mem_singleton] at hb
    rw [hb];exact hk e he
 | some v0 =>
  have hc:mclk c k L=c:=by simp [mclk,hg]
  have hm:=Zeo (c:=c) (v:=v) (k:=k) (L:=L) (by rw [hg];rfl)
  have e1:(mset c k v L).map (·.1)=L.map (·.1):=by
   have:=congrArg (List.map Prod.fst) hm;simpa [List.map_map,Function.comp_def] using this
  have e2:(mset c k v L).map (·.2.1)=L.map (·.2.1):=by
   have:=congrArg (List.map Prod.snd) hm;simpa [List.map_map,Function.comp_def] using this
  rw [hc]
  refine ⟨by rw [e1];exact h.bn,fun e he=>?_,by rw [e2];exact h.kn⟩
  have:e.1 ∈ L.map (·.1):=by rw [<- e1];exact List.mem_map.2 ⟨e,he,rfl⟩
  obtain ⟨x,hx,hxe⟩:=List.mem_map.1 this
  rw [<- hxe];exact h.bl x hx
theorem VH:∀ {L:List (Nat × K × V)},(V8 k L).Sublist L
 | []=>.slnil
 | e :: l=>by
  simp only [V8]
  split
  . exact List.sublist_cons_self _ _
  . exact VH.cons_cons _
theorem MW.del (h:MW L c):MW (V8 k L) c:=⟨(VH.map _).nodup h.bn,fun e he=>h.bl e (VH.subset he),(VH.map _).nodup h.kn⟩
theorem Zec:∀ {L:List (Nat × K × V)},(L.map (·.2.1)).Nodup->mget k' (V8 k L)=if k'=k then none else mget k' L
 | [],_=>by simp [V8,mget]
 | e :: l,hn=>by
  simp only [List.map_cons,List.nodup_cons] at hn
  simp only [V8]
  by_cases he:e.2.1=k
  . rw [if_pos he]
    by_cases hk:k'=k
    . rw [if_pos hk,VF]
      intro x hx hxe
      exact hn.1 (by rw [he,<- hk,<- hxe];exact List.mem_map.2 ⟨x,hx,rfl⟩)
    . rw [if_neg hk];simp only [mget];rw [if_neg (fun h=>hk (h.symm.trans he))]
  . rw [if_neg he]
    simp only [mget]
    by_cases hk:e.2.1=k'
    . rw [if_pos hk,if_pos hk,if_neg (fun h=>he (hk.trans h))]
    . rw [if_neg hk,if_neg hk,Zec hn.2]
theorem ZsX {e:Nat × K × V} (hn:(L.map (·.2.1)).Nodup):e ∈ V8 k L↔e ∈ L/\e.2.1≠k:=by
 induction L with
 | nil=>simp [V8]
 | cons x l ih =>
  simp only [List.map_cons,List.nodup_cons] at hn
  simp only [V8]
  by_cases hx:x.2.1=k
  . rw [if_pos hx]
    constructor
    . intro he
      exact ⟨by simp [he],fun h=>hn.1 (by rw [hx,<- h];exact List.mem_map.2 ⟨e,he,rfl⟩)⟩
    . rintro ⟨he,hk⟩
      rcases List.mem_cons.1 he with rfl | he
      . exact absurd hx hk
      . exact he
  . rw [if_neg hx,List.mem_cons,ih hn.2,List.mem_cons]
    constructor
    . rintro (rfl | ⟨h1,h2⟩)
      . exact ⟨.inl rfl,hx⟩
      . exact ⟨.inr h1,h2⟩
    . rintro ⟨rfl | h1,h2⟩
      . exact .inl rfl
      . exact .inr ⟨h1,h2⟩
theorem Zef:∀ {L:List (Nat × K × V)},(mget k L).isSome->(V8 k L).length+1=L.length
 | [],h=>by simp [mget] at h
 | e :: l,h=>by
  simp only [mget] at h
  simp only [V8]
  split
  . simp
  . rename_i he;rw [if_neg he] at h;simp [Zef h]
omit [DecidableEq K] in
theorem Zxy {key:K->Value} {val:V->SV}:(∀ e ∈ mpS key val L,KF e.2.2)↔∀ v ∈ L.map (·.2.2),KF (val v):=by
 simp only [mpS,List.mem_map]
 exact ⟨fun h v ⟨e,he,hv⟩=>hv ▸ h _ ⟨e,he,rfl⟩,fun h _ ⟨e,he,hx⟩=>hx ▸ h _ ⟨e,he,rfl⟩⟩
omit [DecidableEq K] in
theorem Zg {key:K->Value} {val:V->SV}:(∀ (a:Nat) (b:Value) (c:SV),(a,b,c) ∈ mpS key val L->KF c)↔∀ v ∈ L.map (·.2.2),KF (val v):=by
 rw [<- Zxy (key:=key)]
 exact ⟨fun h e he=>h e.1 e.2.1 e.2.2 he,fun h a b c he=>h _ he⟩
end
end Go.Sx
namespace Go.Sx
open Go Go.RowKit
def ZaT (s s':SV):Prop:=∀ (w:World) (E:Env) (n ok:Nat->Prop) (y:Value),R w E n ok s y->R w E n ok s' y
theorem ZaT.rfl {s:SV}:ZaT s s:=fun _ _ _ _ _ h=>h
theorem VA {c:Bool} {m:Nat}:ZaT (.v (.slice none 0 0)) (.sl c m []):=fun w E n ok y h=>by
 simp only [R] at h ⊢
 exact ⟨none,0,0,h,by simp,⟨Nat.le_refl _,fun _=>Eq.refl _⟩,by simp,by simp⟩
theorem ZbQ {l l':List SV} (h:∀ (w:World) (E:Env) (n ok:Nat->Prop) (ys:List Value),RL w E n ok l ys->RL w E n ok l' ys):ZaT (.tup l) (.tup l'):=fun w E n ok y hy=>by
 simp only [R] at hy ⊢
 obtain ⟨cs,h1,h2⟩:=hy
 exact ⟨cs,h1,h _ _ _ _ _ h2⟩
theorem Y5 {s s':SV} {l l':List SV} (h1:ZaT s s') (h2:∀ (w:World) (E:Env) (n ok:Nat->Prop) (ys:List Value),RL w E n ok l ys->RL w E n ok l' ys):∀ (w:World) (E:Env) (n ok:Nat->Prop) (ys:List Value),RL w E n ok (s :: l) ys->RL w E n ok (s' :: l') ys:=fun w E n ok ys h=>by
 simp only [RL] at h ⊢
 obtain ⟨y,r,q1,q2,q3⟩:=h
 exact ⟨y,r,q1,h1 _ _ _ _ _ q2,h2 _ _ _ _ _ q3⟩
def Ztd (rs:List RV) (res:SV):Ex->St->Prop
 | .ex _,_=>False
 | .n,σ=>∃ s,rvR rs σ = some s/\ZaT s res
 | .ret,σ=>∃ s,rvR rs σ = some s/\ZaT s res
 | .pan _,_=>False
theorem ZxJ (rs:List RV) (res:SV) (σ : St):Ztd rs res .n σ = ∃ s,rvR rs σ = some s/\ZaT s res:=rfl
theorem Zpg (rs:List RV) (res:SV) (σ : St):Ztd rs res .ret σ = ∃ s,rvR rs σ = some s/\ZaT s res:=rfl
attribute [go_sem] ZxJ Zpg
section
variable {P:Program}
theorem VX {f:FuncId} {fn:Func} {code:Code} {ir:SC} {args:List SV} {res:SV} {rs:List RV} {N:Nat} (hf:P.funcs[f]? = some fn) (hb:fn.body=some code) (hnm:ZW P f=true) (hc:Yx P ir code=true)
 (hr:YQ P rs fn.results.toList=true) (hN:fn.ntmps=N) (hA:args.length<=N) (ka:KFL args) (kr:KF res) (h:sx P Y0 0 ir (st0 args N) (Ztd rs res)):Ct P f args res:=by
 refine ⟨hnm,ka,kr,fun w ok vs hR=>?_⟩
 let C:Cx:=⟨w,ok,fun _ _=>False,[],none,E0,0⟩
 have hok:∀ b,ok b->okS C E0 [] b:=fun b hb=>⟨.inl hb,fun _ h=>h⟩
 refine Uf (C:=C) (E:=E0) (hp0:=[]) (n0:=0) hf hb hc hN hA rfl rfl ⟨Nat.le_refl _,fun _ _ h=>h.elim⟩
  ⟨fun k _=>rfl,fun k=>trivial,fun k k' b h=>h.elim,fun k b h=>h.elim,⟨rfl,rfl,rfl,Nat.le_refl _,fun _ _ _=>rfl⟩,fun k hk=>absurd hk (Nat.not_lt_zero k)⟩
  (Zx (fun b hb _=>⟨hok b hb,rfl⟩) (fun _ h=>Ele.rfl) (fun _ h=>h.elim) _ _ hR) UE h fun e σ hk C' E a w' c1 c2 c3 c4 c5 hs=>?_
 have hpass:∀ k b,¬ C'.pass k b:=fun k b=>by rw [c3];exact fun h=>h
 have hend:(∃ s,rvR rs σ = some s/\ZaT s res)->∃ v,(results fn a.tmps).run P w' = .ok v w'/\∃ y,Ending.returned v = .returned y/\R w' E0 (fun _=>False) (fun b=>ok b\/w.heap.size<=b) res y/\Below w.heap.size w w':=fun ⟨s,hrr,hw⟩=>by
  obtain ⟨v,h1,h2⟩:=VD (P:=P) (fn:=fn) (a:=a) (w:=w') (E:=E) (n:=ltn σ.n) (ok:=okF C') hrr fun l hl=>ZkQ hs hpass rs _ l hr hl
  have hkp:=hs.hs.kp
  have e1:okF C'=fun b=>ok b\/w.heap.size<=b:=by funext b;simp only [okF,c1,c2];rfl
  rw [e1] at h2
  have e0:C'.w0=w:=c1
  refine ⟨v,h1,v,rfl,Zgs res v kr (hw _ _ _ _ _ h2),?_⟩
  have q:=hkp
  exact ⟨by rw [<- e0];exact q.os,by rw [<- e0];exact q.tape,by rw [<- e0];exact q.output,by rw [<- e0];exact q.size,fun b hb=>by rw [<- e0];exact q.block b (by rw [e0];exact hb) (fun k=>hpass k b)⟩
 cases e with
 | ex i=>exact hk.elim
 | pan s=>exact hk.elim
 | n=>exact hend hk
 | ret=>exact hend hk
end
def Zx7 (P:Program) (kt t1:TypeId):Bool :=
 match P.underlying kt with
 | some (.struct fs)=>match fs.toList with
  | [f1,f2]=>f1.type == t1 && f2.type == t1 && f1.offset == 0 && f2.offset == 1 && f1.name != "_" && f2.name != "_"
  | _=>false
 | _=>false
theorem key64 {P:Program} {kt t1:TypeId} (h:Zx7 P kt t1=true) (hu1:P.underlying t1=some (.int .i64)) (hs:Xl P t1=some 1) (ha:UH P t1=some false) (hag:UH P kt=some true) (hq:eqT P 5 kt=some [1,1]) :
 KeyT P kt (fun n:Int × Int=>.agg #[.int .i64 n.1,.int .i64 n.2]) (fun n=>.agg [.v (.int .i64 n.1),.v (.int .i64 n.2)]):=by
 unfold Zx7 at h
 split at h
 . rename_i fs hu
   split at h
   . rename_i f1 f2 hf
     have hfs:fs = #[f1,f2]:=by apply Array.toList_inj.1;simp [hf]
     subst hfs
     simp only [Bool.and_eq_true,beq_iff_eq,bne_iff_ne] at h
     obtain ⟨⟨⟨⟨⟨h1,h2⟩,h3⟩,h4⟩,h5⟩,h6⟩:=h
     refine Zsw hu hu1 h1 h2 h3 h4 hs ha h5 h6 fun a b c d w=>?_
     obtain ⟨ag,g1,g2,g3⟩:=ZbZ 5 kt [1,1] hq 10000 (by decide)
     rw [hag] at g1
     cases g1
     exact g3 w [.int .i64 a,.int .i64 b] [.int .i64 c,.int .i64 d] (a == c && b == d) (by simp [Wg,Zla,eqA,kbq])
   . cases h
 . cases h
theorem Ct.args {P:Program} {f:FuncId} {args args0:List SV} {res:SV} (h:Ct P f args res) (ka:KFL args0) (hw:∀ (w:World) (E:Env) (n ok:Nat->Prop) (ys:List Value),RL w E n ok args0 ys->RL w E n ok args ys):Ct P f args0 res :=
 ⟨h.1,ka,h.3,fun w ok vs hR=>h.4 w ok vs (hw _ _ _ _ _ hR)⟩
end Go.Sx
namespace Go.Azalai
structure Partner where
 id:Int
 put:Int
 share:Int
deriving DecidableEq
structure Pact where
 partners:List Partner
 calf:Int
 hire:Int
 ends:Int
deriving DecidableEq
structure Letter where
 id:Int
 day:Int
 kind:Int
 who:Int
 other:Int
 animal:Int
 rials:Int
 mouth:Bool
deriving DecidableEq
def inR (lo hi n:Int):Bool:=decide (lo<=n/\n<=hi)
def Yl (last:Int):List Partner->Bool
 | []=>true
 | x :: r=>inR (last+1) 9999 x.id && inR 0 100000000 x.put && inR 0 1000 x.share && Yl x.id r
def ZM:List Int->Int
 | []=>0
 | x :: r=>x+ZM r
def ZH (p:Pact):Bool :=
 inR 1 8 p.partners.length && inR 0 1000 p.calf && inR 0 1000 p.hire && inR 0 100000 p.ends && Yl (-1) p.partners && decide (ZM (p.partners.map (·.put))≠0) && decide (ZM (p.partners.map (·.share))=1000)
def Za9 (c:Nat->Int) (k i:Nat):Bool:=decide (c k > c i) || (decide (c k=c i) && decide (k < i))
def W9 (c:Nat->Int) (n i:Nat):Nat:=((List.range n).filter fun k=>Za9 c k i).length
def byF (by':List Int) (i:Nat):Int:=by'.getD i 0
def ZcQ (amount:Int) (by':List Int) (i:Nat):Int:=(amount * byF by' i).tdiv (ZM by')
def Zdj (amount:Int) (by':List Int) (i:Nat):Int:=(amount * byF by' i).tmod (ZM by')
def W2 (amount:Int) (by':List Int):Int:=amount - ZM ((List.range by'.length).map (ZcQ amount by'))
def WL (amount:Int) (by':List Int):List Int :=
 (List.range by'.length).map fun i=>ZcQ amount by' i+if (W9 (Zdj amount by') by'.length i:Int) < W2 amount by' then 1 else 0
def Xb (p:Pact) (result:Int):List Int :=
 if result ≥ 0 then WL result (p.partners.map (·.share)) else (WL (-result) (p.partners.map (·.put))).map fun n=>-n
theorem Vv:∀ {a b:List Int},ZM (a ++ b)=ZM a+ZM b
 | [],b=>by simp [ZM]
 | x :: a,b=>by simp only [List.cons_append,ZM];rw [Vv];omega
theorem Zjp {a b:List Int} (h:a.Perm b):ZM a=ZM b:=by
 induction h with
 | nil=>rfl
 | cons x _ ih=>simp only [ZM];omega
 | swap x y l=>simp only [ZM];omega
 | trans _ _ h1 h2=>omega
theorem Z3 {α : Type} (f g:α->Int):∀ l:List α,ZM (l.map fun x=>f x+g x)=ZM (l.map f)+ZM (l.map g)
 | []=>rfl
 | x :: l=>by simp only [List.map_cons,ZM];rw [Z3 f g l];omega
theorem Ve:∀ {l:List Int},(∀ x ∈ l,0<=x)->0<=ZM l
 | [],_=>by simp [ZM]
 | x :: l,h=>by
  have:=h x (by simp)
  have:=Ve (l:=l) fun y hy=>h y (by simp [hy])
  simp only [ZM];omega
theorem Zj0 {l:List Int} {b:Int}:(∀ x ∈ l,x<=b)->ZM l<=l.length * b:=by
 induction l with
 | nil=>intro _;simp [ZM]
 | cons x l ih =>
  intro h
  have h1:=h x (by simp)
  have h2:=ih fun y hy=>h y (by simp [hy])
  simp only [ZM,List.length_cons]
  rw [show ((l.length+1:Nat):Int)=(l.length:Int)+1 from by omega,Int.add_mul];omega
theorem ZbK {c:Int} {f:Nat->Int}:∀ l:List Nat,ZM (l.map fun i=>c * f i)=c * ZM (l.map f)
 | []=>by simp [ZM]
 | x :: l=>by simp only [List.map_cons,ZM];rw [ZbK l,Int.mul_add]
theorem ZlS (by':List Int):(List.range by'.length).map (byF by')=by':=by
 apply List.ext_getElem
 . simp
 . intro i h1 h2
   simp [byF,List.getElem?_eq_getElem h2]
theorem ZoW {amount:Int} {by':List Int}:ZM ((List.range by'.length).map (Zdj amount by'))=ZM by' * W2 amount by':=by
 have e:ZM ((List.range by'.length).map fun i=>ZM by' * ZcQ amount by' i+Zdj amount by' i)=amount * ZM by':=by
  have:(fun i=>ZM by' * ZcQ amount by' i+Zdj amount by' i)=fun i=>amount * byF by' i:=by
   funext i
   simp only [ZcQ,Zdj]
   have:=Int.tmod_add_mul_tdiv (amount * byF by' i) (ZM by')
   omega
  rw [this,ZbK,ZlS]
 rw [Z3,ZbK] at e
 rw [W2,Int.mul_sub,Int.mul_comm (ZM by') amount]
 omega
theorem Zq2 {amount:Int} {by':List Int} (ha:0<=amount) (hb:∀ x ∈ by',0<=x) (hs:0 < ZM by') (i:Nat):0<=Zdj amount by' i/\Zdj amount by' i < ZM by':=by
 have h0:0<=byF by' i:=by
  unfold byF
  by_cases h:i < by'.length
  . rw [List.getD_eq_getElem?_getD,List.getElem?_eq_getElem h];exact hb _ (List.getElem_mem h)
  . rw [List.getD_eq_getElem?_getD,List.getElem?_eq_none (by omega)];simp
 exact ⟨Int.tmod_nonneg _ (Int.mul_nonneg ha h0),Int.tmod_lt_of_pos _ hs⟩
theorem Zs2 {amount:Int} {by':List Int} (ha:0<=amount) (hb:∀ x ∈ by',0<=x) (hs:0 < ZM by'):0<=W2 amount by'/\W2 amount by' < by'.length:=by
 have e:=ZoW (amount:=amount) (by':=by')
 have h1:0<=ZM ((List.range by'.length).map (Zdj amount by')):=Ve fun x hx=>by
  obtain ⟨i,_,rfl⟩:=List.mem_map.1 hx
  exact (Zq2 ha hb hs i).1
 have h2:ZM ((List.range by'.length).map (Zdj amount by'))<=((List.range by'.length).map (Zdj amount by')).length * (ZM by' - 1):=Zj0 fun x hx=>by
  obtain ⟨i,_,rfl⟩:=List.mem_map.1 hx
  have:=(Zq2 ha hb hs i).2
  omega
 simp only [List.length_map,List.length_range] at h2
 rw [e] at h1 h2
 have hn:by'.length≠0:=by
  intro h;have:=List.eq_nil_of_length_eq_zero h;subst this;simp [ZM] at hs
 constructor
 . apply Classical.byContradiction;intro hc
   have:ZM by' * W2 amount by' < 0:=Int.mul_neg_of_pos_of_neg hs (by omega)
   omega
 . apply Classical.byContradiction;intro hc
   have q:ZM by' * by'.length<=ZM by' * W2 amount by':=Int.mul_le_mul_of_nonneg_left (by omega) (by omega)
   rw [Int.mul_sub,Int.mul_one,Int.mul_comm (by'.length:Int) (ZM by')] at h2
   omega
theorem Zu9 (c:Nat->Int) (i:Nat):Za9 c i i=false:=by simp [Za9]
theorem Zpq {c:Nat->Int} {i k:Nat} (h:Za9 c i k=true):Za9 c k i=false:=by
 simp only [Za9,Bool.or_eq_true,Bool.and_eq_true,decide_eq_true_eq] at h
 simp only [Za9,Bool.or_eq_false_iff,Bool.and_eq_false_iff,decide_eq_false_iff_not]
 omega
theorem Zv0 {c:Nat->Int} {i k:Nat} (h:i≠k):Za9 c i k=true\/Za9 c k i=true:=by
 simp only [Za9,Bool.or_eq_true,Bool.and_eq_true,decide_eq_true_eq];omega
theorem Zit {c:Nat->Int} {i j k:Nat} (h1:Za9 c i j=true) (h2:Za9 c j k=true):Za9 c i k=true:=by
 simp only [Za9,Bool.or_eq_true,Bool.and_eq_true,decide_eq_true_eq] at *;omega
theorem Uo {R:Nat->Nat->Bool} (hirr:∀ i,R i i=false) (has:∀ i k,R i k=true->R k i=false):∀ {O:List Nat},O.Pairwise (fun a b=>R a b=true)->∀ (r:Nat) (h:r < O.length),(O.filter fun k=>R k O[r]).length=r
 | [],_,r,h=>by simp at h
 | x :: O,hp,0,_=>by
  rw [List.pairwise_cons] at hp
  have:((x :: O).filter fun k=>R k x)=[]:=by
   rw [List.filter_eq_nil_iff]
   intro k hk
   rcases List.mem_cons.1 hk with rfl | hk
   . simp [hirr]
   . simp [has _ _ (hp.1 k hk)]
  simpa using congrArg List.length this
 | x :: O,hp,r+1,h=>by
  rw [List.pairwise_cons] at hp
  have hr:r < O.length:=by simpa using h
  have h1:R x O[r]=true:=hp.1 _ (List.getElem_mem hr)
  simp only [List.getElem_cons_succ,List.filter_cons,h1,if_true,List.length_cons]
  rw [Uo hirr has hp.2 r hr]
theorem ZcN {c:Nat->Int} {n:Nat} {O:List Nat} (hp:O.Perm (List.range n)) (ho:O.Pairwise fun a b=>Za9 c a b=true) {t i:Nat} (hi:i < n):i ∈ O.take t↔W9 c n i < t:=by
 have hm:i ∈ O:=hp.mem_iff.2 (List.mem_range.2 hi)
 obtain ⟨r,hr,rfl⟩:=List.getElem_of_mem hm
 have e:W9 c n O[r]=r:=by
  rw [W9,<- (hp.filter _).length_eq]
  exact Uo (R:=Za9 c) (Zu9 c) (fun i k=>Zpq) ho r hr
 have hnd:O.Nodup:=hp.nodup_iff.2 List.nodup_range
 rw [e,List.mem_take_iff_getElem]
 constructor
 . rintro ⟨j,hj,h⟩
   have hne:=List.pairwise_iff_getElem.1 (List.nodup_iff_pairwise_ne.1 hnd)
   rcases Nat.lt_trichotomy j r with q | q | q
   . exact absurd h (hne j r (by omega) hr q)
   . omega
   . exact absurd h.symm (hne r j hr (by omega) q)
 . intro h
   exact ⟨r,by omega,rfl⟩
theorem ZfB {c:Nat->Int} {n:Nat} {O:List Nat} (hp:O.Perm (List.range n)) (ho:O.Pairwise fun a b=>Za9 c a b=true) {t:Nat} (ht:t<=n):ZM ((List.range n).map fun i=>if W9 c n i < t then 1 else 0)=t:=by
 have h1:ZM ((List.range n).map fun i=>if W9 c n i < t then (1:Int) else 0)=ZM (O.map fun i=>if W9 c n i < t then (1:Int) else 0):=Zjp ((hp.map _).symm)
 have hnd:O.Nodup:=hp.nodup_iff.2 List.nodup_range
 have hlen:O.length=n:=by rw [hp.length_eq,List.length_range]
 rw [h1,<- List.take_append_drop t O,List.map_append,Vv]
 have hin:∀ i ∈ O.take t,(if W9 c n i < t then (1:Int) else 0)=1:=fun i hi=>by
  rw [if_pos ((ZcN hp ho (List.mem_range.1 (hp.mem_iff.1 (List.mem_of_mem_take hi)))).1 hi)]
 have hout:∀ i ∈ O.drop t,(if W9 c n i < t then (1:Int) else 0)=0:=fun i hi=>by
  refine if_neg fun q=>?_
  have h2:=(ZcN hp ho (List.mem_range.1 (hp.mem_iff.1 (List.mem_of_mem_drop hi)))).2 q
  have hnd':=hnd
  rw [<- List.take_append_drop t O,List.nodup_append] at hnd'
  exact hnd'.2.2 i h2 i hi rfl
 have k1:∀ l:List Nat,(∀ i ∈ l,(if W9 c n i < t then (1:Int) else 0)=1)->ZM (l.map fun i=>if W9 c n i < t then (1:Int) else 0)=l.length:=by
  intro l
  induction l with
  | nil=>intro _;rfl
  | cons x l ih=>intro h;simp only [List.map_cons,ZM,h x (by simp),ih fun i hi=>h i (by simp [hi]),List.length_cons];omega
 have k0:∀ l:List Nat,(∀ i ∈ l,(if W9 c n i < t then (1:Int) else 0)=0)->ZM (l.map fun i=>if W9 c n i < t then (1:Int) else 0)=0:=by
  intro l
  induction l with
  | nil=>intro _;rfl
  | cons x l ih=>intro h;simp only [List.map_cons,ZM,h x (by simp),ih fun i hi=>h i (by simp [hi])];omega
 rw [k1 _ hin,k0 _ hout,List.length_take]
 omega
def Zwl (c:Nat->Int) (x:Nat):List Nat->List Nat
 | []=>[x]
 | y :: l=>if Za9 c x y=true then x :: y :: l else y :: Zwl c x l
def ZzR (c:Nat->Int):List Nat->List Nat
 | []=>[]
 | x :: l=>Zwl c x (ZzR c l)
theorem Zaw {c:Nat->Int} {x:Nat}:∀ {l:List Nat},(Zwl c x l).Perm (x :: l)
 | []=>.refl _
 | y :: l=>by
  simp only [Zwl]
  split
  . exact .refl _
  . exact ((Zaw (c:=c) (x:=x) (l:=l)).cons y).trans (.swap x y l)
theorem Zal {c:Nat->Int}:∀ {l:List Nat},(ZzR c l).Perm l
 | []=>.refl _
 | x :: l=>Zaw.trans ((Zal (l:=l)).cons x)
theorem Zeb {c:Nat->Int} {x:Nat}:∀ {l:List Nat},l.Pairwise (fun a b=>Za9 c a b=true)->x ∉ l->(Zwl c x l).Pairwise fun a b=>Za9 c a b=true
 | [],_,_=>List.pairwise_singleton _ _
 | y :: l,h,hx=>by
  rw [List.pairwise_cons] at h
  simp only [List.mem_cons,not_or] at hx
  simp only [Zwl]
  split
  . rename_i q
    rw [List.pairwise_cons]
    refine ⟨fun z hz=>?_,List.pairwise_cons.2 h⟩
    rcases List.mem_cons.1 hz with rfl | hz
    . exact q
    . exact Zit q (h.1 z hz)
  . rename_i q
    rw [List.pairwise_cons]
    refine ⟨fun z hz=>?_,Zeb h.2 hx.2⟩
    rcases List.mem_cons.1 ((Zaw (c:=c) (x:=x) (l:=l)).mem_iff.1 hz) with rfl | hz
    . exact (Zv0 hx.1).resolve_left q
    . exact h.1 z hz
theorem ZeR {c:Nat->Int}:∀ {l:List Nat},l.Nodup->(ZzR c l).Pairwise fun a b=>Za9 c a b=true
 | [],_=>.nil
 | x :: l,h=>by
  rw [List.nodup_cons] at h
  exact Zeb (ZeR h.2) fun hm=>h.1 (Zal.mem_iff.1 hm)
theorem ZaJ {amount:Int} {by':List Int} (ha:0<=amount) (hb:∀ x ∈ by',0<=x) (hs:0 < ZM by'):ZM (WL amount by')=amount:=by
 have hl:=Zs2 ha hb hs
 rw [WL,Z3]
 have e:W2 amount by'=((W2 amount by').toNat:Nat):=by omega
 have h2:=ZfB (c:=Zdj amount by') (n:=by'.length) (O:=ZzR (Zdj amount by') (List.range by'.length)) Zal (ZeR List.nodup_range) (t:=(W2 amount by').toNat) (by omega)
 have h3:ZM ((List.range by'.length).map fun i=>if (W9 (Zdj amount by') by'.length i:Int) < W2 amount by' then (1:Int) else 0)=W2 amount by':=by
  rw [show W2 amount by'=((W2 amount by').toNat:Int) from e]
  rw [<- e]
  conv=>rhs;rw [e]
  rw [<- h2]
  congr 1
  apply List.map_congr_left
  intro i _
  by_cases q:W9 (Zdj amount by') by'.length i < (W2 amount by').toNat
  . rw [if_pos q,if_pos (by omega)]
  . rw [if_neg q,if_neg (by omega)]
 rw [h3,W2];omega
def atP (p:Pact) (id:Int):Bool:=p.partners.any fun x=>decide (x.id=id)
def Zh (p:Pact) (x:Letter):Bool :=
 inR 0 9999 x.id && inR 0 100000 x.day &&
  (if x.kind=1\/x.kind=2 then inR 0 10000000 x.rials && decide (x.who=0/\x.other=0/\x.animal=0)
  else if x.kind=3 then atP p x.who && inR 0 9999 x.animal && decide (x.other=0/\x.rials=0)
  else if x.kind=4\/x.kind=5 then inR 0 9999 x.animal && decide (x.who=0/\x.other=0/\x.rials=0)
  else if x.kind=6 then inR 0 9999 x.animal && inR 0 9999 x.other && inR 0 10000000 x.rials && decide (x.who=0)
  else if x.kind=7\/x.kind=8 then atP p x.who && atP p x.other && decide (x.who≠x.other) && inR 0 10000000 x.rials && decide (x.animal=0)
  else false)
def Zfd:List Letter->Bool
 | []=>false
 | x :: l=>(l.any fun y=>decide (y.id=x.id) && decide (y≠x)) || Zfd l
def YO (ends:Int):List Int->List Letter->List Letter
 | _,[]=>[]
 | seen,x :: l=>if x.id ∈ seen\/x.day > ends then YO ends (x.id :: seen) l else x :: YO ends (x.id :: seen) l
def lt2 (a b:Letter):Bool:=decide (a.day < b.day) || (decide (a.day=b.day) && decide (a.id < b.id))
def Zwz (x:Letter):List Letter->List Letter
 | []=>[x]
 | y :: l=>if lt2 x y=true then x :: y :: l else y :: Zwz x l
def Zr1:List Letter->List Letter
 | []=>[]
 | x :: l=>Zwz x (Zr1 l)
def Z2 (p:Pact) (l:List Letter):Int :=
 if ZH p=false then 80 else if l.length > 100 then 4 else if l.all (Zh p)=false then 81 else if Zfd l=true then 82 else 0
def Yn (p:Pact) (l:List Letter):List Letter:=Zr1 (YO p.ends [] l)
theorem Zh6 (a:Letter):lt2 a a=false:=by simp [lt2]
theorem ZoI {a b:Letter} (h:lt2 a b=true):lt2 b a=false:=by
 simp only [lt2,Bool.or_eq_true,Bool.and_eq_true,decide_eq_true_eq] at h
 simp only [lt2,Bool.or_eq_false_iff,Bool.and_eq_false_iff,decide_eq_false_iff_not]
 omega
theorem ZcG {a b c:Letter} (h1:lt2 a b=true) (h2:lt2 b c=true):lt2 a c=true:=by
 simp only [lt2,Bool.or_eq_true,Bool.and_eq_true,decide_eq_true_eq] at *;omega
theorem ZhT {a b:Letter} (h:a.id≠b.id):lt2 a b=true\/lt2 b a=true:=by
 simp only [lt2,Bool.or_eq_true,Bool.and_eq_true,decide_eq_true_eq];omega
theorem UW {x:Letter}:∀ {l:List Letter},(Zwz x l).Perm (x :: l)
 | []=>.refl _
 | y :: l=>by
  simp only [Zwz]
  split
  . exact .refl _
  . exact ((UW (x:=x) (l:=l)).cons y).trans (.swap x y l)
theorem X0:∀ {l:List Letter},(Zr1 l).Perm l
 | []=>.refl _
 | x :: l=>UW.trans ((X0 (l:=l)).cons x)
theorem Zee {x:Letter}:∀ {l:List Letter},l.Pairwise (fun a b=>lt2 a b=true)->(∀ y ∈ l,y.id≠x.id)->(Zwz x l).Pairwise fun a b=>lt2 a b=true
 | [],_,_=>List.pairwise_singleton _ _
 | y :: l,h,hx=>by
  rw [List.pairwise_cons] at h
  simp only [Zwz]
  split
  . rename_i q
    rw [List.pairwise_cons]
    refine ⟨fun z hz=>?_,List.pairwise_cons.2 h⟩
    rcases List.mem_cons.1 hz with rfl | hz
    . exact q
    . exact ZcG q (h.1 z hz)
  . rename_i q
    rw [List.pairwise_cons]
    refine ⟨fun z hz=>?_,Zee h.2 fun z hz=>hx z (by simp [hz])⟩
    rcases List.mem_cons.1 ((UW (x:=x) (l:=l)).mem_iff.1 hz) with rfl | hz
    . exact (ZhT (fun e=>hx y (by simp) e.symm)).resolve_left q
    . exact h.1 z hz
theorem Zb3:∀ {l:List Letter},(l.map (·.id)).Nodup->(Zr1 l).Pairwise fun a b=>lt2 a b=true
 | [],_=>.nil
 | x :: l,h=>by
  rw [List.map_cons,List.nodup_cons] at h
  exact Zee (Zb3 h.2) fun y hy e=>h.1 (List.mem_map.2 ⟨y,X0.mem_iff.1 hy,e⟩)
theorem ZbL:∀ {a b:List Letter},a.Pairwise (fun x y=>lt2 x y=true)->b.Pairwise (fun x y=>lt2 x y=true)->(∀ x,x ∈ a↔x ∈ b)->a=b
 | [],[],_,_,_=>rfl
 | [],y :: b,_,_,h=>by have:=(h y).2 (by simp);cases this
 | x :: a,[],_,_,h=>by have:=(h x).1 (by simp);cases this
 | x :: a,y :: b,ha,hb,h=>by
  rw [List.pairwise_cons] at ha hb
  have e:x=y:=by
   have h1:=(h x).1 (by simp)
   have h2:=(h y).2 (by simp)
   rcases List.mem_cons.1 h1 with e | h1
   . exact e
   . rcases List.mem_cons.1 h2 with e | h2
     . exact e.symm
     . have q1:=hb.1 x h1
       have q2:=ha.1 y h2
       rw [ZoI q1] at q2;cases q2
  subst e
  rw [ZbL ha.2 hb.2 fun z=>?_]
  constructor
  . intro hz
    rcases List.mem_cons.1 ((h z).1 (by simp [hz])) with rfl | q
    . have:=ha.1 z hz;rw [Zh6] at this;cases this
    . exact q
  . intro hz
    rcases List.mem_cons.1 ((h z).2 (by simp [hz])) with rfl | q
    . have:=hb.1 z hz;rw [Zh6] at this;cases this
    . exact q
theorem Xy {ends:Int}:∀ {l:List Letter} {seen:List Int} {x:Letter},x ∈ YO ends seen l->x ∈ l/\x.id ∉ seen/\x.day<=ends
 | [],_,_,h=>by cases h
 | y :: l,seen,x,h=>by
  simp only [YO] at h
  split at h
  . obtain ⟨h1,h2,h3⟩:=Xy h
    simp only [List.mem_cons,not_or] at h2
    exact ⟨by simp [h1],h2.2,h3⟩
  . rename_i hn
    rcases List.mem_cons.1 h with rfl | h
    . exact ⟨by simp,fun q=>hn (.inl q),by have:=fun q=>hn (.inr q);omega⟩
    . obtain ⟨h1,h2,h3⟩:=Xy h
      simp only [List.mem_cons,not_or] at h2
      exact ⟨by simp [h1],h2.2,h3⟩
theorem XF {ends:Int}:∀ {l:List Letter} {seen:List Int},((YO ends seen l).map (·.id)).Nodup
 | [],_=>.nil
 | y :: l,seen=>by
  simp only [YO]
  split
  . exact XF
  . rw [List.map_cons,List.nodup_cons]
    refine ⟨fun h=>?_,XF⟩
    obtain ⟨x,hx,e⟩:=List.mem_map.1 h
    exact (Xy hx).2.1 (by simp [e])
theorem WP:∀ {l:List Letter},Zfd l=false->∀ x ∈ l,∀ y ∈ l,x.id=y.id->x=y
 | [],_,x,hx,_,_,_=>by cases hx
 | z :: l,h,x,hx,y,hy,e=>by
  simp only [Zfd,Bool.or_eq_false_iff,List.any_eq_false,Bool.and_eq_true,decide_eq_true_eq,not_and,Decidable.not_not] at h
  rcases List.mem_cons.1 hx with hx1 | hx1
  . rcases List.mem_cons.1 hy with hy1 | hy1
    . rw [hx1,hy1]
    . subst hx1;exact (h.1 y hy1 e.symm).symm
  . rcases List.mem_cons.1 hy with hy1 | hy1
    . subst hy1;exact h.1 x hx1 e
    . exact WP h.2 x hx1 y hy1 e
theorem Zb5:∀ {l:List Letter},(∀ x ∈ l,∀ y ∈ l,x.id=y.id->x=y)->Zfd l=false
 | [],_=>rfl
 | z :: l,h=>by
  simp only [Zfd,Bool.or_eq_false_iff,List.any_eq_false,Bool.and_eq_true,decide_eq_true_eq,not_and,Decidable.not_not]
  exact ⟨fun y hy e=>h y (by simp [hy]) z (by simp) e,Zb5 fun x hx y hy=>h x (by simp [hx]) y (by simp [hy])⟩
theorem Zcm {ends:Int}:∀ {l:List Letter} {seen:List Int} {x:Letter},(∀ a ∈ l,∀ b ∈ l,a.id=b.id->a=b)->x ∈ l->x.id ∉ seen->x.day<=ends->x ∈ YO ends seen l
 | y :: l,seen,x,h,hx,hs,hd=>by
  have h':∀ a ∈ l,∀ b ∈ l,a.id=b.id->a=b:=fun a ha b hb=>h a (by simp [ha]) b (by simp [hb])
  simp only [YO]
  by_cases e:x.id=y.id
  . have:=h x hx y (by simp) e
    subst this
    rw [if_neg (fun q=>q.elim hs (by omega))]
    simp
  . have hxl:x ∈ l:=by
     rcases List.mem_cons.1 hx with rfl | h
     . exact absurd rfl e
     . exact h
    have:=Zcm (ends:=ends) (seen:=y.id :: seen) h' hxl (by simp [e,hs]) hd
    split
    . exact this
    . exact List.mem_cons_of_mem _ this
theorem Zj6 {p:Pact} {l:List Letter} (h:Zfd l=false) {x:Letter}:x ∈ Yn p l↔x ∈ l/\x.day<=p.ends:=by
 rw [Yn,X0.mem_iff]
 constructor
 . intro q;have:=Xy q;exact ⟨this.1,this.2.2⟩
 . rintro ⟨h1,h2⟩;exact Zcm (WP h) h1 (by simp) h2
theorem Zia {p:Pact} {l:List Letter}:(Yn p l).Pairwise fun a b=>lt2 a b=true:=Zb3 XF
structure Co where
 loans:Int->Option (Int × Int)
 dead:Int->Bool
 known:Int->Bool
 debts:Int->Int->Int
 extra:Int->Int
 result:Int
def co0:Co:=⟨fun _=>none,fun _=>false,fun _=>false,fun _ _=>0,fun _=>0,0⟩
def upd {α : Type} (f:Int->α) (k:Int) (v:α):Int->α:=fun i=>if i=k then v else f i
def ZE (p:Pact) (c:Co) (animal day:Int) (l:Int × Int):Co :=
 { c with loans:=upd c.loans animal none,extra:=upd c.extra l.1 (c.extra l.1+p.hire * (day - l.2)),result:=c.result - p.hire * (day - l.2) }
def Zn (p:Pact) (c:Co) (x:Letter):Co × Int :=
 if x.kind=1 then ({ c with result:=c.result+x.rials },0)
 else if x.kind=2 then ({ c with result:=c.result - x.rials },0)
 else if x.kind=3 then
  if (c.loans x.animal).isSome=true then (c,1) else if c.dead x.animal=true then (c,2) else ({ c with loans:=upd c.loans x.animal (some (x.who,x.day)) },0)
 else if x.kind=4 then match c.loans x.animal with
  | none=>(c,3)
  | some l=>(ZE p c x.animal x.day l,0)
 else if x.kind=5 then
  if c.dead x.animal=true then (c,2) else match c.loans x.animal with
   | none=>(c,3)
   | some l=>({ ZE p c x.animal x.day l with dead:=upd c.dead x.animal true },0)
 else if x.kind=6 then
  if c.known x.other=true then (c,4) else match c.loans x.animal with
   | none=>(c,3)
   | some l=>({ c with extra:=upd c.extra l.1 (c.extra l.1+(x.rials * p.calf).tdiv 1000),result:=c.result+(x.rials - (x.rials * p.calf).tdiv 1000),known:=upd c.known x.other true },0)
 else if x.kind=7 then ({ c with debts:=upd c.debts x.who (upd (c.debts x.who) x.other (c.debts x.who x.other+x.rials)) },0)
 else if x.kind=8 then
  if c.debts x.who x.other < x.rials then (c,5) else ({ c with debts:=upd c.debts x.who (upd (c.debts x.who) x.other (c.debts x.who x.other - x.rials)) },0)
 else (c,0)
def YX (p:Pact):Co->List Letter->Co
 | c,[]=>c
 | c,x :: l=>YX p (Zn p c x).1 l
def V3 (p:Pact):Co->List Letter->List Int
 | _,[]=>[]
 | c,x :: l=>(Zn p c x).2 :: V3 p (Zn p c x).1 l
theorem Zcr {p:Pact} {c:Co} {x:Letter} (h:(Zn p c x).2≠0):(Zn p c x).1=c:=by
 unfold Zn at h ⊢
 repeat' split
 all_goals first | rfl | (exfalso;apply h;simp [*])
theorem UK {p:Pact}:∀ {a b:List Letter} {c:Co},YX p c (a ++ b)=YX p (YX p c a) b
 | [],_,_=>rfl
 | x :: a,b,c=>by simp only [List.cons_append,YX];exact UK
theorem Zex {p:Pact}:∀ {a b:List Letter} {c:Co},V3 p c (a ++ b)=V3 p c a ++ V3 p (YX p c a) b
 | [],_,_=>rfl
 | x :: a,b,c=>by simp only [List.cons_append,V3,YX];rw [Zex]
theorem Zce {p:Pact}:∀ {l:List Letter} {c:Co},(V3 p c l).length=l.length
 | [],_=>rfl
 | x :: l,c=>by simp [V3,Zce (l:=l)]
def Z8 (p:Pact) (c:Co) (a:Nat):Int:=match c.loans a with
 | none=>0
 | some l=>p.hire * (p.ends - l.2)
def YB (p:Pact) (c:Co) (who:Int) (a:Nat):Int:=match c.loans a with
 | none=>0
 | some l=>if l.1=who then p.hire * (p.ends - l.2) else 0
def ZaW (p:Pact) (c:Co):Int:=c.result - ZM ((List.range 10000).map (Z8 p c))
def ZaS (p:Pact) (c:Co) (who:Int):Int:=c.extra who+ZM ((List.range 10000).map (YB p c who))
def VR (p:Pact) (c:Co) (id:Int):Int:=ZM (p.partners.map fun y=>c.debts y.id id - c.debts id y.id)
def Zvz {α : Type} (f:α->Int):Option α->Int
 | none=>0
 | some x=>f x
def Zf6 (p:Pact) (c:Co):List Int :=
 (List.range p.partners.length).map fun i=>Zvz (fun x=>x.put+(Xb p (ZaW p c)).getD i 0+ZaS p c x.id+VR p c x.id) p.partners[i]?
def Xz (p:Pact) (l:List Letter):List Int:=Zf6 p (YX p co0 l)
theorem Zsy {α : Type} {X:List α} {k:Nat} (hk:k < X.length):X=X.take k ++ X[k] :: X.drop (k+1):=by
 rw [<- List.drop_eq_getElem_cons hk,List.take_append_drop]
theorem UP {ids:List Int} {f:Int->Int} {k v:Int} (hn:ids.Nodup) (hk:k ∈ ids):ZM (ids.map (upd f k v))=ZM (ids.map f)+(v - f k):=by
 induction ids with
 | nil=>cases hk
 | cons x l ih =>
  rw [List.nodup_cons] at hn
  simp only [List.map_cons,ZM]
  rcases List.mem_cons.1 hk with rfl | hk
  . have:l.map (upd f k v)=l.map f:=List.map_congr_left fun y hy=>by
     simp only [upd];rw [if_neg];rintro rfl;exact hn.1 hy
    rw [this];simp only [upd,if_true];omega
  . rw [ih hn.2 hk]
    have:upd f k v x=f x:=by simp only [upd];rw [if_neg];rintro rfl;exact hn.1 hk
    omega
theorem YD:∀ {l:List Partner} {last:Int},Yl last l=true->(∀ x ∈ l,last < x.id/\x.id<=9999)/\(l.map (·.id)).Nodup/\(∀ x ∈ l,0<=x.put/\x.put<=100000000/\0<=x.share/\x.share<=1000)
 | [],_,_=>⟨by simp,.nil,by simp⟩
 | x :: l,last,h=>by
  simp only [Yl,Bool.and_eq_true,inR,decide_eq_true_eq] at h
  obtain ⟨h1,h2,h3⟩:=YD h.2
  refine ⟨fun y hy=>?_,?_,fun y hy=>?_⟩
  . rcases List.mem_cons.1 hy with rfl | hy
    . omega
    . have:=h1 y hy;omega
  . rw [List.map_cons,List.nodup_cons]
    refine ⟨fun hm=>?_,h2⟩
    obtain ⟨y,hy,e⟩:=List.mem_map.1 hm
    have:=h1 y hy;omega
  . rcases List.mem_cons.1 hy with rfl | hy
    . omega
    . exact h3 y hy
def ids (p:Pact):List Int:=p.partners.map (·.id)
theorem Ui {p:Pact} {k:Int}:atP p k=true↔k ∈ ids p:=by
 simp [atP,ids]
structure CoOk (p:Pact) (c:Co):Prop where
 who:∀ a l,c.loans a=some l->l.1 ∈ ids p
 inb:∀ a l,c.loans a=some l->0<=a/\a<=9999
theorem CoOk.co0 {p:Pact}:CoOk p co0:=⟨fun a l h=>by simp [Go.Azalai.co0] at h,fun a l h=>by simp [Go.Azalai.co0] at h⟩
theorem CoOk.home {p:Pact} {c:Co} (h:CoOk p c) {a d:Int} {l:Int × Int}:CoOk p (ZE p c a d l):=by
 refine ⟨fun b m hb=>?_,fun b m hb=>?_⟩<;>simp only [ZE,upd] at hb<;>split at hb
 . cases hb
 . exact h.who b m hb
 . cases hb
 . exact h.inb b m hb
theorem CoOk.step {p:Pact} {c:Co} (h:CoOk p c) {x:Letter} (hx:Zh p x=true):CoOk p (Zn p c x).1:=by
 unfold Zn
 split
 . exact ⟨h.who,h.inb⟩
 split
 . exact ⟨h.who,h.inb⟩
 split
 . rename_i n1 n2 k3
   split
   . exact h
   split
   . exact h
   have hl:x.who ∈ ids p/\0<=x.animal/\x.animal<=9999:=by
    simp only [Zh,k3] at hx
    simp [inR,Ui] at hx
    exact ⟨hx.2.1.1,hx.2.1.2⟩
   refine ⟨fun b m hb=>?_,fun b m hb=>?_⟩<;>simp only [upd] at hb<;>split at hb
   . cases hb;exact hl.1
   . exact h.who b m hb
   . rename_i e;subst e;exact hl.2
   . exact h.inb b m hb
 split
 . split
   . exact h
   . exact h.home
 split
 . split
   . exact h
   split
   . exact h
   . rename_i l hl
     have q:=h.home (a:=x.animal) (d:=x.day) (l:=l)
     exact ⟨q.who,q.inb⟩
 split
 . split
   . exact h
   split
   . exact h
   . exact ⟨h.who,h.inb⟩
 split
 . exact ⟨h.who,h.inb⟩
 split
 . split
   . exact h
   . exact ⟨h.who,h.inb⟩
 . exact h
theorem CoOk.run {p:Pact}:∀ {l:List Letter} {c:Co},CoOk p c->(∀ x ∈ l,Zh p x=true)->CoOk p (YX p c l)
 | [],_,h,_=>h
 | x :: l,c,h,hl=>by
  show CoOk p (YX p (Zn p c x).1 l)
  exact CoOk.run (h.step (hl x (by simp))) fun y hy=>hl y (by simp [hy])
def XC (x:Letter) (w:Int):Int:=if w≠0 then 0 else if x.kind=1\/x.kind=6 then x.rials else if x.kind=2 then -x.rials else 0
def exS (p:Pact) (c:Co):Int:=ZM ((ids p).map c.extra)
theorem Zhl {p:Pact} {c:Co} (hn:(ids p).Nodup) (h:CoOk p c) (x:Letter):(Zn p c x).1.result+exS p (Zn p c x).1=c.result+exS p c+XC x (Zn p c x).2:=by
 unfold Zn
 split
 . rename_i k;simp [exS,XC,k];omega
 split
 . rename_i k;simp [exS,XC,k];omega
 split
 . rename_i k
   split
   . simp [exS,XC]
   split
   . simp [exS,XC]
   . simp [exS,XC,k]
 split
 . rename_i k
   split
   . simp [exS,XC]
   . rename_i l hl
     have:=UP (f:=c.extra) (v:=c.extra l.1+p.hire * (x.day - l.2)) hn (h.who _ _ hl)
     simp only [exS,ZE,XC,this,k];simp;omega
 split
 . rename_i k
   split
   . simp [exS,XC]
   split
   . simp [exS,XC]
   . rename_i l hl
     have:=UP (f:=c.extra) (v:=c.extra l.1+p.hire * (x.day - l.2)) hn (h.who _ _ hl)
     simp only [exS,ZE,XC,this,k];simp;omega
 split
 . rename_i k
   split
   . simp [exS,XC]
   split
   . simp [exS,XC]
   . rename_i l hl
     have:=UP (f:=c.extra) (v:=c.extra l.1+(x.rials * p.calf).tdiv 1000) hn (h.who _ _ hl)
     simp only [exS,XC,this,k];simp;omega
 split
 . rename_i k;simp [exS,XC,k]
 split
 . rename_i k
   split
   . simp [exS,XC]
   . simp [exS,XC,k]
 . rename_i k1 k2 k3 k4 k5 k6 k7 k8
   simp only [exS,XC]
   rw [if_neg (by simp),if_neg (fun q=>q.elim k1 k6),if_neg k2];omega
def Zks:List Letter->List Int->Int
 | x :: l,w :: ws=>XC x w+Zks l ws
 | _,_=>0
theorem Zfl {p:Pact} (hn:(ids p).Nodup):∀ {l:List Letter} {c:Co},CoOk p c->(∀ x ∈ l,Zh p x=true)->(YX p c l).result+exS p (YX p c l)=c.result+exS p c+Zks l (V3 p c l)
 | [],c,_,_=>by simp [YX,V3,Zks]
 | x :: l,c,h,hl=>by
  have h1:=Zhl hn h x
  have h2:=Zfl hn (h.step (hl x (by simp))) (l:=l) fun y hy=>hl y (by simp [hy])
  simp only [YX,V3,Zks]
  omega
theorem XD {α : Type} {f:α->Int}:∀ {l:List α},(∀ x ∈ l,f x=0)->ZM (l.map f)=0
 | [],_=>rfl
 | x :: l,h=>by simp only [List.map_cons,ZM,h x (by simp),XD (l:=l) fun y hy=>h y (by simp [hy])];omega
theorem ZaK {α β : Type} {f:α->β->Int} {m:List β}:∀ {l:List α},ZM (l.map fun x=>ZM (m.map fun y=>f x y))=ZM (m.map fun y=>ZM (l.map fun x=>f x y))
 | []=>by simp only [List.map_nil,ZM];exact (XD fun _ _=>rfl).symm
 | x :: l=>by
  simp only [List.map_cons,ZM]
  rw [ZaK,Z3]
theorem UG {α : Type} {f:α->Int}:∀ {l:List α},ZM (l.map fun x=>-f x) = -ZM (l.map f)
 | []=>rfl
 | x :: l=>by simp only [List.map_cons,ZM,UG (l:=l)];omega
theorem Zlp {ids:List Int} {k v:Int} (hn:ids.Nodup) (hk:k ∈ ids):ZM (ids.map fun i=>if k=i then v else 0)=v:=by
 have h:=UP (f:=fun _=>0) (v:=v) hn hk
 rw [XD (fun _ _=>rfl)] at h
 have e:(fun i=>if k=i then v else 0)=upd (fun _=>0) k v:=by
  funext i;simp only [upd]
  by_cases q:k=i
  . rw [if_pos q,if_pos q.symm]
  . rw [if_neg q,if_neg fun e=>q e.symm]
 rw [e,h];omega
theorem ZoJ {p:Pact} {c:Co}:ZM (p.partners.map fun x=>VR p c x.id)=0:=by
 have h:ZM (p.partners.map fun x=>ZM (p.partners.map fun y=>c.debts y.id x.id))=ZM (p.partners.map fun y=>ZM (p.partners.map fun x=>c.debts y.id x.id)):=ZaK
 have e:(fun x:Partner=>VR p c x.id)=fun x=>ZM (p.partners.map fun y=>c.debts y.id x.id)+-ZM (p.partners.map fun y=>c.debts x.id y.id):=by
  funext x
  rw [VR,<- UG,<- Z3]
  congr 1
 rw [e,Z3,UG,h];omega
theorem Zpb {p:Pact} {c:Co} (hn:(ids p).Nodup) (h:CoOk p c) (az:List Nat):ZM ((ids p).map fun w=>ZM (az.map (YB p c w)))=ZM (az.map (Z8 p c)):=by
 rw [ZaK]
 congr 1
 apply List.map_congr_left
 intro a _
 simp only [YB,Z8]
 cases hl:c.loans a with
 | none=>exact XD fun _ _=>rfl
 | some l=>exact Zlp hn (h.who _ _ hl)
theorem ZdJ {p:Pact} {r:Int}:(Xb p r).length=p.partners.length:=by
 unfold Xb WL;split<;>simp
theorem ZpW {l:List Int}:ZM ((List.range l.length).map fun i=>l.getD i 0)=ZM l:=by
 congr 1
 apply List.ext_getElem
 . simp
 . intro i h1 h2;simp [List.getElem?_eq_getElem h2]
theorem ZoE {α : Type} {l:List α} {f:α->Int}:ZM ((List.range l.length).map fun i=>Zvz f l[i]?)=ZM (l.map f):=by
 congr 1
 apply List.ext_getElem
 . simp
 . intro i h1 h2
   simp at h1 h2 ⊢
   rw [List.getElem?_eq_getElem h2];rfl
theorem WX {p:Pact} (h:ZH p=true):(ids p).Nodup/\(∀ x ∈ p.partners.map (·.share),0<=x)/\(∀ x ∈ p.partners.map (·.put),0<=x)/\0 < ZM (p.partners.map (·.put))/\ZM (p.partners.map (·.share))=1000/\1<=p.partners.length/\p.partners.length<=8:=by
 simp only [ZH,Bool.and_eq_true,inR,decide_eq_true_eq] at h
 obtain ⟨⟨⟨⟨⟨⟨h1,h2⟩,h3⟩,h4⟩,h5⟩,h6⟩,h7⟩:=h
 obtain ⟨i1,i2,i3⟩:=YD h5
 have hp:∀ x ∈ p.partners.map (·.put),0<=x:=fun x hx=>by
  obtain ⟨y,hy,rfl⟩:=List.mem_map.1 hx
  have:=i3 y hy;omega
 refine ⟨i2,fun x hx=>?_,hp,?_,h7,by omega,by omega⟩
 . obtain ⟨y,hy,rfl⟩:=List.mem_map.1 hx
   have:=i3 y hy;omega
 . have:=Ve hp;omega
theorem Zgb {p:Pact} (h:ZH p=true) (r:Int):ZM (Xb p r)=r:=by
 obtain ⟨h1,h2,h3,h4,h5,_,_⟩:=WX h
 unfold Xb
 split
 . exact ZaJ (by omega) h2 (by omega)
 . have:=ZaJ (amount:=-r) (by omega) h3 h4
   have e:=UG (f:=fun n:Int=>n) (l:=WL (-r) (p.partners.map (·.put)))
   rw [List.map_id'] at e
   rw [e,this];omega
theorem kept {p:Pact} {l:List Letter} (h:ZH p=true) (hl:∀ x ∈ l,Zh p x=true):ZM (Xz p l)=ZM (p.partners.map (·.put))+Zks l (V3 p co0 l):=by
 obtain ⟨h1,-⟩:=WX h
 have hc:=CoOk.co0.run (p:=p) hl
 have hg:=Zfl h1 CoOk.co0 hl
 unfold Xz
 generalize YX p co0 l=c at hc hg ⊢
 have e:Zf6 p c=(List.range p.partners.length).map fun i=>(Zvz (fun x=>x.put+ZaS p c x.id+VR p c x.id) p.partners[i]?)+(Zvz (fun _=>(Xb p (ZaW p c)).getD i 0) p.partners[i]?):=by
  unfold Zf6
  apply List.map_congr_left
  intro i hi
  rw [List.mem_range] at hi
  rw [List.getElem?_eq_getElem hi]
  simp only [Zvz];omega
 have e2:((List.range p.partners.length).map fun i=>Zvz (fun _=>(Xb p (ZaW p c)).getD i 0) p.partners[i]?)=(List.range (Xb p (ZaW p c)).length).map fun i=>(Xb p (ZaW p c)).getD i 0:=by
  rw [ZdJ]
  apply List.map_congr_left
  intro i hi
  rw [List.mem_range] at hi
  rw [List.getElem?_eq_getElem hi];rfl
 rw [e,Z3,e2,ZpW,Zgb h,ZoE (f:=fun x:Partner=>x.put+ZaS p c x.id+VR p c x.id)]
 have e3:ZM (p.partners.map fun x=>x.put+ZaS p c x.id+VR p c x.id)=ZM (p.partners.map (·.put))+ZM (p.partners.map fun x=>ZaS p c x.id)+0:=by
  rw [<- ZoJ (p:=p) (c:=c),<- Z3,<- Z3]
 have e4:ZM (p.partners.map fun x=>ZaS p c x.id)=exS p c+ZM ((List.range 10000).map (Z8 p c)):=by
  rw [<- Zpb h1 hc,exS,<- Z3]
  simp [ids,Function.comp_def,ZaS]
 have z:(co0.result+exS p co0)=0:=by
  have:exS p co0=0:=XD fun _ _=>rfl
  rw [this];rfl
 rw [e3,e4,ZaW]
 omega
structure Alike (a:Int) (c d:Co):Prop where
 loans:c.loans=d.loans
 none:c.loans a=none
 dead:∀ b,b≠a->c.dead b=d.dead b
 known:c.known=d.known
 debts:c.debts=d.debts
 extra:c.extra=d.extra
 result:c.result=d.result
theorem Alike.home {a:Int} {c d:Co} {p:Pact} (h:Alike a c d) {b n:Int} {l:Int × Int}:Alike a (ZE p c b n l) (ZE p d b n l):=by
 refine ⟨?_,?_,h.dead,h.known,h.debts,?_,?_⟩
 . simp only [ZE,h.loans]
 . simp only [ZE,upd];split
   . rfl
   . exact h.none
 . simp only [ZE,h.extra]
 . simp only [ZE,h.result]
theorem Alike.step {a:Int} {c d:Co} {p:Pact} (h:Alike a c d) {x:Letter} (hx:¬(x.kind=3/\x.animal=a)):Alike a (Zn p c x).1 (Zn p d x).1:=by
 obtain ⟨h1,h2,h3,h4,h5,h6,h7⟩:=h
 have H:Alike a c d:=⟨h1,h2,h3,h4,h5,h6,h7⟩
 unfold Zn
 by_cases k1:x.kind=1
 . simp only [if_pos k1];exact ⟨h1,h2,h3,h4,h5,h6,by simp only [h7]⟩
 by_cases k2:x.kind=2
 . simp only [if_neg k1,if_pos k2];exact ⟨h1,h2,h3,h4,h5,h6,by simp only [h7]⟩
 by_cases k3:x.kind=3
 . have ha:x.animal≠a:=fun e=>hx ⟨k3,e⟩
   simp only [if_neg k1,if_neg k2,if_pos k3]
   rw [<- h1,<- h3 _ ha]
   split
   . exact H
   split
   . exact H
   . refine ⟨by simp only,?_,h3,h4,h5,h6,h7⟩
     simp only [upd];rw [if_neg fun e=>ha e.symm];exact h2
 by_cases k4:x.kind=4
 . simp only [if_neg k1,if_neg k2,if_neg k3,if_pos k4]
   rw [<- h1]
   split
   . exact H
   . exact H.home
 by_cases k5:x.kind=5
 . simp only [if_neg k1,if_neg k2,if_neg k3,if_neg k4,if_pos k5]
   by_cases ha:x.animal=a
   . rw [ha,<- h1]
     simp only [h2]
     cases c.dead a<;>cases d.dead a<;>exact H
   . rw [<- h1,<- h3 _ ha]
     split
     . exact H
     split
     . exact H
     . rename_i l _
       have q:=H.home (p:=p) (b:=x.animal) (n:=x.day) (l:=l)
       refine ⟨q.loans,q.none,fun b hb=>?_,q.known,q.debts,q.extra,q.result⟩
       simp only [upd];split
       . rfl
       . exact q.dead b hb
 by_cases k6:x.kind=6
 . simp only [if_neg k1,if_neg k2,if_neg k3,if_neg k4,if_neg k5,if_pos k6]
   rw [<- h1,<- h4]
   split
   . exact H
   split
   . exact H
   . exact ⟨by simp only,h2,h3,by simp only,h5,by simp only [h6],by simp only [h7]⟩
 by_cases k7:x.kind=7
 . simp only [if_neg k1,if_neg k2,if_neg k3,if_neg k4,if_neg k5,if_neg k6,if_pos k7]
   exact ⟨h1,h2,h3,h4,by simp only [h5],h6,h7⟩
 by_cases k8:x.kind=8
 . simp only [if_neg k1,if_neg k2,if_neg k3,if_neg k4,if_neg k5,if_neg k6,if_neg k7,if_pos k8]
   rw [<- h5]
   split
   . exact H
   . exact ⟨h1,h2,h3,h4,by simp only,h6,h7⟩
 simp only [if_neg k1,if_neg k2,if_neg k3,if_neg k4,if_neg k5,if_neg k6,if_neg k7,if_neg k8]
 exact H
theorem Alike.run {a:Int} {p:Pact}:∀ {l:List Letter} {c d:Co},Alike a c d->(∀ x ∈ l,¬(x.kind=3/\x.animal=a))->Alike a (YX p c l) (YX p d l)
 | [],_,_,h,_=>h
 | x :: l,c,d,h,hl=>by
  show Alike a (YX p (Zn p c x).1 l) (YX p (Zn p d x).1 l)
  exact Alike.run (h.step (hl x (by simp))) fun y hy=>hl y (by simp [hy])
theorem Alike.has {a:Int} {p:Pact} {c d:Co} (h:Alike a c d):Zf6 p c=Zf6 p d:=by
 have e1:Z8 p c=Z8 p d:=by funext b;simp only [Z8,h.loans]
 have e2:YB p c=YB p d:=by funext w b;simp only [YB,h.loans]
 have e3:ZaW p c=ZaW p d:=by simp only [ZaW,e1,h.result]
 have e4:ZaS p c=ZaS p d:=by funext w;simp only [ZaS,e2,h.extra]
 have e5:VR p c=VR p d:=by funext w;simp only [VR,h.debts]
 simp only [Zf6,e3,e4,e5]
theorem alone {p:Pact} {X:List Letter} {k:Nat} (hk:k < X.length) (h5:X[k].kind=5) (hw:(Zn p (YX p co0 (X.take k)) X[k]).2=0) (hno:∀ y ∈ X.drop (k+1),¬(y.kind=3/\y.animal=X[k].animal)) :
 Xz p (X.set k { X[k] with kind:=4 })=Xz p X:=by
 have e1:X.set k { X[k] with kind:=4 }=X.take k ++ { X[k] with kind:=4 } :: X.drop (k+1):=by
  rw [List.set_eq_take_append_cons_drop,if_pos hk]
 unfold Xz
 rw [e1,UK]
 conv=>rhs;rw [Zsy hk,UK]
 simp only [YX]
 generalize YX p co0 (X.take k)=c at hw ⊢
 refine (Alike.run (a:=X[k].animal) ?_ hno).has
 unfold Zn at hw ⊢
 simp only [h5] at hw ⊢
 simp only [show ¬ (5:Int)=1 from by omega,show ¬ (5:Int)=2 from by omega,show ¬ (5:Int)=3 from by omega,show ¬ (5:Int)=4 from by omega,show ¬ (4:Int)=1 from by omega,show ¬ (4:Int)=2 from by omega,show ¬ (4:Int)=3 from by omega,if_false,if_true] at hw ⊢
 split at hw
 . simp at hw
 rename_i hd
 simp only [hd,if_false,Bool.false_eq_true]
 cases hl:c.loans X[k].animal with
 | none=>rw [hl] at hw;simp at hw
 | some l =>
  simp only
  refine ⟨rfl,by simp [ZE,upd],fun b hb=>?_,rfl,rfl,rfl,rfl⟩
  simp only [ZE,upd];rw [if_neg hb]
def Zbm (x:Letter):Bool:=decide (x.kind=7\/x.kind=8)
structure Plain (c d:Co):Prop where
 loans:c.loans=d.loans
 dead:c.dead=d.dead
 known:c.known=d.known
 extra:c.extra=d.extra
 result:c.result=d.result
theorem Plain.step {p:Pact} {c d:Co} (h:Plain c d) {x:Letter} (hx:Zbm x=false):Plain (Zn p c x).1 (Zn p d x).1/\(Zn p c x).2=(Zn p d x).2/\(Zn p c x).1.debts=c.debts:=by
 obtain ⟨l1,d1,k1,b1,x1,r1⟩:=c
 obtain ⟨l2,d2,k2,b2,x2,r2⟩:=d
 obtain ⟨h1,h2,h3,h4,h5⟩:=h
 simp only at h1 h2 h3 h4 h5
 subst h1;subst h2;subst h3;subst h4;subst h5
 simp only [Zbm,decide_eq_false_iff_not,not_or] at hx
 unfold Zn
 simp only [if_neg hx.1,if_neg hx.2,ZE]
 repeat' split
 all_goals exact ⟨⟨rfl,rfl,rfl,rfl,rfl⟩,rfl,rfl⟩
theorem Plain.trans {a b c:Co} (h:Plain a b) (h':Plain b c):Plain a c:=⟨h.1.trans h'.1,h.2.trans h'.2,h.3.trans h'.3,h.4.trans h'.4,h.5.trans h'.5⟩
theorem Plain.symm {a b:Co} (h:Plain a b):Plain b a:=⟨h.1.symm,h.2.symm,h.3.symm,h.4.symm,h.5.symm⟩
theorem Plain.rfl' {a:Co}:Plain a a:=⟨rfl,rfl,rfl,rfl,rfl⟩
def Zoq (D:Int->Int->Int) (x:Letter) (w:Int):Int->Int->Int :=
 if x.kind=7 then upd D x.who (upd (D x.who) x.other (D x.who x.other+x.rials))
 else if x.kind=8/\w=0 then upd D x.who (upd (D x.who) x.other (D x.who x.other - x.rials)) else D
theorem ZiH {p:Pact} {c:Co} {x:Letter}:(Zn p c x).1.debts=Zoq c.debts x (Zn p c x).2/\(x.kind=8->((Zn p c x).2=0/\x.rials<=c.debts x.who x.other)\/((Zn p c x).2=5/\c.debts x.who x.other < x.rials)):=by
 by_cases h:Zbm x=true
 . simp only [Zbm,decide_eq_true_eq] at h
   unfold Zn Zoq
   rcases h with h | h
   . simp [h]
   . simp only [h]
     simp only [show ¬ (8:Int)=1 from by omega,show ¬ (8:Int)=2 from by omega,show ¬ (8:Int)=3 from by omega,show ¬ (8:Int)=4 from by omega,show ¬ (8:Int)=5 from by omega,show ¬ (8:Int)=6 from by omega,show ¬ (8:Int)=7 from by omega,if_false,if_true]
     by_cases hlt:c.debts x.who x.other < x.rials
     . simp [hlt]
     . simp [hlt];omega
 . have h':Zbm x=false:=by simpa using h
   have:=(Plain.rfl' (a:=c)).step (p:=p) h'
   simp only [Zbm,decide_eq_true_eq,not_or] at h
   refine ⟨?_,fun k=>absurd k h.2⟩
   rw [this.2.2,Zoq,if_neg h.1,if_neg fun q=>h.2 q.1]
structure Voids (c d:Co):Prop where
 loans:c.loans=d.loans
 dead:c.dead=d.dead
 known:c.known=d.known
theorem Voids.step {p:Pact} {c d:Co} (h:Voids c d) (x:Letter):Voids (Zn p c x).1 (Zn p d x).1/\XC x (Zn p c x).2=XC x (Zn p d x).2:=by
 obtain ⟨l1,d1,k1,b1,x1,r1⟩:=c
 obtain ⟨l2,d2,k2,b2,x2,r2⟩:=d
 obtain ⟨h1,h2,h3⟩:=h
 simp only at h1 h2 h3
 subst h1;subst h2;subst h3
 by_cases h8:x.kind=8
 . unfold Zn
   simp only [h8]
   simp only [show ¬ (8:Int)=1 from by omega,show ¬ (8:Int)=2 from by omega,show ¬ (8:Int)=3 from by omega,show ¬ (8:Int)=4 from by omega,show ¬ (8:Int)=5 from by omega,show ¬ (8:Int)=6 from by omega,show ¬ (8:Int)=7 from by omega,if_false,if_true]
   have g:∀ w,XC x w=0:=fun w=>by simp [XC,h8]
   split<;>split<;>exact ⟨⟨rfl,rfl,rfl⟩,(g _).trans (g _).symm⟩
 . unfold Zn
   simp only [if_neg h8,ZE]
   repeat' split
   all_goals exact ⟨⟨rfl,rfl,rfl⟩,rfl⟩
def ZfO (set:Nat):Nat->List Letter->List Letter
 | _,[]=>[]
 | k,x :: l=>if x.mouth=true then (if set.testBit k=true then x :: ZfO set (k+1) l else ZfO set (k+1) l) else x :: ZfO set k l
def minF (f:Nat->Int):Nat->Int
 | 0=>f 0
 | n+1=>min (minF f n) (f (n+1))
def maxF (f:Nat->Int):Nat->Int
 | 0=>f 0
 | n+1=>max (maxF f n) (f (n+1))
def ZdE (p:Pact) (X:List Letter) (i set:Nat):Int:=(Xz p (ZfO set 0 X)).getD i 0
def Zg0 (p:Pact) (X:List Letter):List (Int × Int) :=
 (List.range p.partners.length).map fun i=>(minF (ZdE p X i) (2 ^ (X.filter (·.mouth)).length - 1),maxF (ZdE p X i) (2 ^ (X.filter (·.mouth)).length - 1))
def Vq {α : Type} (g:α->Bool):List α->Nat->Int
 | [],_=>-1
 | x :: l,k=>if g x then k else Vq g l (k+1)
theorem Zi9 {α : Type} (g:α->Bool):∀ (l:List α) (k:Nat),decide (Vq g l k ≥ 0)=l.any g
 | [],k=>by simp [Vq]
 | x :: l,k=>by
  simp only [Vq,List.any_cons]
  by_cases hg:g x=true
  . simp [hg]
  . simpa [hg] using Zi9 g l (k+1)
def Yr (p:Pact):Prop:=p.partners.length<=1000
end Go.Azalai
namespace Go.Proofs.Ythilckbkffjliaa
open Go Go.Sx Go.Azalai
abbrev U8 (n:Int):SV:=.v (.int .u8 n)
def ZP (n:Int):List SV:=[I n]
def Za (x:Partner):List SV:=[I x.id,I x.put,I x.share]
def Zj (p:Pact):List SV:=[.sl false 3 (p.partners.map Za),I p.calf,I p.hire,I p.ends]
def Zb (x:Letter):List SV:=[I x.id,I x.day,U8 x.kind,I x.who,I x.other,I x.animal,I x.rials,B x.mouth]
theorem Zb4 {α : Type} (g:α->Bool) (l:List α):decide (Vq g l 0 ≥ 0)=l.any g:=Zi9 g l 0
theorem idx81 (h:Nat) (caps:List SV) (hk:KFL caps) (g:Int->Bool) (l:List Int) (hg:∀ x ∈ l,Ct Try.prog h (I x :: caps) (B (g x))) (hl:l.length < 4611686018427387904) {c:Bool} :
 Ct Try.prog 81 [.sl c 1 (l.map ZP),.cl h caps] (I (Vq g l 0)):=by
 refine t81.1 ⟨by simp [KF,Zc,KFL,ZP],hk,trivial⟩ (by simp [KF]) ?_
 dsimp only [c81,r81,go_sem,rA,rM,rS]
 refine YY (fun k:Nat=>[(8,I k)]) (fun _=>[]) (fun k=>k<=l.length/\Vq g (l.drop k) k=Vq g l 0) (fun k=>l.length - k) 0 ⟨Nat.zero_le _,rfl⟩ ?_ ?_
 . (refine Zl ?_ ?_ ?_ rfl rfl<;>dsimp only [ZP,hk,id,go_sem,rA,rM,rS]<;>simp [ZP,hk,Zc,Ze,KFR,KFL,KF,Zd,mtO,nbr])
 . intro k ⟨hk',hi⟩
   dsimp only [go_sem,rA,rM,rS]
   refine br ?_ ?_
   . intro hlt
     have hlt:k < l.length:=by simpa using hlt
     dsimp only [go_sem,rA,rM,rS]
     refine ZF k hlt rfl ?_
     dsimp only [ZP,go_sem,rA,rM,rS]
     refine call (hg l[k] (List.getElem_mem _)) ?_
     dsimp only [go_sem,rA,rM,rS]
     refine br ?_ ?_
     . intro hgx
       dsimp only [go_sem,rA,rM,rS]
       rw [<- hi,List.drop_eq_getElem_cons hlt]
       simp [Vq,hgx]
     . intro hgx
       dsimp only [go_sem,rA,rM,rS]
       refine ⟨k+1,⟨by omega,?_⟩,by omega,?_⟩
       . rw [<- hi,List.drop_eq_getElem_cons hlt];simp [Vq,hgx]
       . rw [Zi (by omega) (by omega)]
         (refine Zl ?_ ?_ ?_ rfl rfl<;>dsimp only [ZP,hk,id,go_sem,rA,rM,rS]<;>simp [ZP,hk,Zc,Ze,KFR,KFL,KF,Zd,mtO,nbr])
   . intro hlt
     have hlt:k=l.length:=by simp at hlt;omega
     dsimp only [go_sem,rA,rM,rS]
     rw [<- hi,hlt];simp [Vq]
theorem con61 (h:Nat) (caps:List SV) (hk:KFL caps) (g:Int->Bool) (l:List Int) (hg:∀ x ∈ l,Ct Try.prog h (I x :: caps) (B (g x))) (hl:l.length < 4611686018427387904) {c:Bool} :
 Ct Try.prog 61 [.sl c 1 (l.map ZP),.cl h caps] (B (l.any g)):=by
 refine t61.1 ⟨by simp [KF,Zc,KFL,ZP],hk,trivial⟩ (by simp [KF]) ?_
 dsimp only [c61,r61,go_sem,rA,rM,rS]
 refine call (idx81 h caps hk g l hg hl) ?_
 dsimp only [go_sem,rA,rM,rS]
 rw [Zb4]
theorem idx78 (h:Nat) (caps:List SV) (hk:KFL caps) (g:Partner->Bool) (l:List Partner) (hg:∀ x ∈ l,Ct Try.prog h (.agg (Za x) :: caps) (B (g x))) (hl:l.length < 4611686018427387904) {c:Bool} :
 Ct Try.prog 78 [.sl c 3 (l.map Za),.cl h caps] (I (Vq g l 0)):=by
 refine t78.1 ⟨by simp [KF,Zc,KFL,Za],hk,trivial⟩ (by simp [KF]) ?_
 dsimp only [c78,r78,go_sem,rA,rM,rS]
 refine YY (fun k:Nat=>[(8,I k)]) (fun _=>[]) (fun k=>k<=l.length/\Vq g (l.drop k) k=Vq g l 0) (fun k=>l.length - k) 0 ⟨Nat.zero_le _,rfl⟩ ?_ ?_
 . (refine Zl ?_ ?_ ?_ rfl rfl<;>dsimp only [Za,hk,id,go_sem,rA,rM,rS]<;>simp [Za,hk,Zc,Ze,KFR,KFL,KF,Zd,mtO,nbr])
 . intro k ⟨hk',hi⟩
   dsimp only [go_sem,rA,rM,rS]
   refine br ?_ ?_
   . intro hlt
     have hlt:k < l.length:=by simpa using hlt
     dsimp only [go_sem,rA,rM,rS]
     refine ZF k hlt rfl ?_
     dsimp only [Za,go_sem,rA,rM,rS]
     refine call (hg l[k] (List.getElem_mem _)) ?_
     dsimp only [go_sem,rA,rM,rS]
     refine br ?_ ?_
     . intro hgx
       dsimp only [go_sem,rA,rM,rS]
       rw [<- hi,List.drop_eq_getElem_cons hlt]
       simp [Vq,hgx]
     . intro hgx
       dsimp only [go_sem,rA,rM,rS]
       refine ⟨k+1,⟨by omega,?_⟩,by omega,?_⟩
       . rw [<- hi,List.drop_eq_getElem_cons hlt];simp [Vq,hgx]
       . rw [Zi (by omega) (by omega)]
         (refine Zl ?_ ?_ ?_ rfl rfl<;>dsimp only [Za,hk,id,go_sem,rA,rM,rS]<;>simp [Za,hk,Zc,Ze,KFR,KFL,KF,Zd,mtO,nbr])
   . intro hlt
     have hlt:k=l.length:=by simp at hlt;omega
     dsimp only [go_sem,rA,rM,rS]
     rw [<- hi,hlt];simp [Vq]
theorem idx85 (h:Nat) (caps:List SV) (hk:KFL caps) (g:Letter->Bool) (l:List Letter) (hg:∀ x ∈ l,Ct Try.prog h (.agg (Zb x) :: caps) (B (g x))) (hl:l.length < 4611686018427387904) {c:Bool} :
 Ct Try.prog 85 [.sl c 8 (l.map Zb),.cl h caps] (I (Vq g l 0)):=by
 refine t85.1 ⟨by simp [KF,Zc,KFL,Zb],hk,trivial⟩ (by simp [KF]) ?_
 dsimp only [c85,r85,go_sem,rA,rM,rS]
 refine YY (fun k:Nat=>[(8,I k)]) (fun _=>[]) (fun k=>k<=l.length/\Vq g (l.drop k) k=Vq g l 0) (fun k=>l.length - k) 0 ⟨Nat.zero_le _,rfl⟩ ?_ ?_
 . (refine Zl ?_ ?_ ?_ rfl rfl<;>dsimp only [Zb,hk,id,go_sem,rA,rM,rS]<;>simp [Zb,hk,Zc,Ze,KFR,KFL,KF,Zd,mtO,nbr])
 . intro k ⟨hk',hi⟩
   dsimp only [go_sem,rA,rM,rS]
   refine br ?_ ?_
   . intro hlt
     have hlt:k < l.length:=by simpa using hlt
     dsimp only [go_sem,rA,rM,rS]
     refine ZF k hlt rfl ?_
     dsimp only [Zb,go_sem,rA,rM,rS]
     refine call (hg l[k] (List.getElem_mem _)) ?_
     dsimp only [go_sem,rA,rM,rS]
     refine br ?_ ?_
     . intro hgx
       dsimp only [go_sem,rA,rM,rS]
       rw [<- hi,List.drop_eq_getElem_cons hlt]
       simp [Vq,hgx]
     . intro hgx
       dsimp only [go_sem,rA,rM,rS]
       refine ⟨k+1,⟨by omega,?_⟩,by omega,?_⟩
       . rw [<- hi,List.drop_eq_getElem_cons hlt];simp [Vq,hgx]
       . rw [Zi (by omega) (by omega)]
         (refine Zl ?_ ?_ ?_ rfl rfl<;>dsimp only [Zb,hk,id,go_sem,rA,rM,rS]<;>simp [Zb,hk,Zc,Ze,KFR,KFL,KF,Zd,mtO,nbr])
   . intro hlt
     have hlt:k=l.length:=by simp at hlt;omega
     dsimp only [go_sem,rA,rM,rS]
     rw [<- hi,hlt];simp [Vq]
theorem Zyc (h:Nat) (caps:List SV) (hk:KFL caps) (g:Letter->Bool) (l:List Letter) (hg:∀ x ∈ l,Ct Try.prog h (.agg (Zb x) :: caps) (B (g x))) (hl:l.length < 4611686018427387904) {c:Bool} :
 Ct Try.prog 64 [.sl c 8 (l.map Zb),.cl h caps] (B (l.any g)):=by
 refine t64.1 ⟨by simp [KF,Zc,KFL,Zb],hk,trivial⟩ (by simp [KF]) ?_
 dsimp only [c64,r64,go_sem,rA,rM,rS]
 refine call (idx85 h caps hk g l hg hl) ?_
 dsimp only [go_sem,rA,rM,rS]
 rw [Zb4]
theorem ZR (n lo hi:Int):Ct Try.prog 45 [I n,I lo,I hi] (B (inR lo hi n)):=by
 refine t45.1 (by simp [KFL,KF]) (by simp [KFL,KF]) ?_
 dsimp only [c45,r45,go_sem,rA,rM,rS]
 refine gb ?_;dsimp only [go_sem,rA,rM,rS]
 refine gb ?_;dsimp only [go_sem,rA,rM,rS]
 refine gb ?_;dsimp only [go_sem,rA,rM,rS]
 simp [inR]
theorem ZxU (lo hi x:Int):Ct Try.prog 62 [I x,.ps [I lo] 0,.ps [I hi] 0] (B (!inR lo hi x)):=by
 refine t62.1 (by simp [KFL,KF]) (by simp [KFL,KF]) ?_
 dsimp only [c62,r62,go_sem,rA,rM,rS]
 repeat (refine gb ?_;dsimp only [go_sem,rA,rM,rS])
 (simp only [inR,Option.some.injEq,SV.v.injEq,Value.bool.injEq]<;>grind)
theorem ZxW (lo hi:Int) (l:List Int) (hl:l.length < 4611686018427387904) (c:Bool):Ct Try.prog 42 [I lo,I hi,.sl c 1 (l.map ZP)] (B (l.all (inR lo hi))):=by
 refine t42.1 (by simp [Zc,ZP,KFL,KF]) (by simp [KFL,KF]) ?_
 dsimp only [c42,r42,go_sem,rA,rM,rS]
 refine UD (by simp [FLT]) (res:=B (l.any fun x=>!inR lo hi x)) ?_ ?_
 . dsimp only [go_sem,rA,rM,rS]
   exact con61 62 [.ps [I lo] 0,.ps [I hi] 0] (by simp [KFL,KF]) (fun x=>!inR lo hi x) l (fun x _=>ZxU lo hi x) hl
 . dsimp only [go_sem,rA,rM,rS]
   simp [List.all_eq_not_any_not]
theorem in1 (lo hi a:Int) (c:Bool):Ct Try.prog 42 [I lo,I hi,.sl c 1 [[I a]]] (B (inR lo hi a)):=by
 have:=ZxW lo hi [a] (by simp) c
 simpa [ZP] using this
theorem in4 (lo hi a b d e:Int) (c:Bool):Ct Try.prog 42 [I lo,I hi,.sl c 1 [[I a],[I b],[I d],[I e]]] (B (inR lo hi a && (inR lo hi b && (inR lo hi d && inR lo hi e)))):=by
 have:=ZxW lo hi [a,b,d,e] (by simp) c
 simpa [ZP] using this
def atF (p:Pact) (who:Int):Int:=Vq (fun x=>decide (x.id=who)) p.partners 0
theorem Xf (p:Pact) (who:Int):decide (atF p who ≥ 0)=atP p who:=Zb4 _ _
theorem Zx3 (x:Partner) (who:Int):Ct Try.prog 79 [.agg (Za x),.ps [I who] 0] (B (decide (x.id=who))):=by
 refine t79.1 (by simp [Za,KFL,KF]) (by simp [KFL,KF]) ?_
 dsimp only [c79,r79,Za,go_sem,rA,rM,rS]
 simp only [Option.some.injEq,SV.v.injEq,Value.bool.injEq]
 by_cases h:x.id=who<;>simp [h]
theorem ZiK (p:Pact) (who:Int) (hs:Yr p):Ct Try.prog 54 [.agg (Zj p),I who] (I (atF p who)):=by
 refine t54.1 (by simp [Zj,Za,Zc,KFL,KF]) (by simp [KFL,KF]) ?_
 have:p.partners.length<=1000:=hs
 dsimp only [c54,r54,Zj,go_sem,rA,rM,rS]
 refine UD (by simp [FLT]) (res:=I (atF p who)) ?_ ?_
 . dsimp only [go_sem,rA,rM,rS]
   exact idx78 79 [.ps [I who] 0] (by simp [KFL,KF]) (fun x=>decide (x.id=who)) p.partners (fun x _=>Zx3 x who) (by omega)
 . dsimp only [go_sem,rA,rM,rS]
theorem YW (p:Pact) (who:Int) (hs:Yr p):Ct Try.prog 55 [.agg (Zj p),I who] (I (atF p who)):=by
 refine t55.1 (by simp [Zj,Za,Zc,KFL,KF]) (by simp [KFL,KF]) ?_
 have hs:p.partners.length<=1000:=hs
 dsimp only [c55,r55,Zj,go_sem,rA,rM,rS]
 refine YY (fun k:Nat=>[(5,I k)]) (fun _=>[]) (fun k=>k<=p.partners.length/\Vq (fun x=>decide (x.id=who)) (p.partners.drop k) k=atF p who) (fun k=>p.partners.length - k) 0 ⟨Nat.zero_le _,rfl⟩ ?_ ?_
 . (refine Zl ?_ ?_ ?_ rfl rfl<;>dsimp only [Zj,Za,id,go_sem,rA,rM,rS]<;>simp [Zj,Za,Zc,Ze,KFR,KFL,KF,Zd,mtO,nbr])
 rintro k ⟨hk,hi⟩
 dsimp only [go_sem,rA,rM,rS]
 simp only [List.length_map]
 by_cases hlt:k < p.partners.length
 . refine ZK (by simpa using hlt) ?_
   dsimp only [go_sem,rA,rM,rS]
   refine ZF k hlt rfl ?_
   dsimp only [Za,go_sem,rA,rM,rS]
   rw [List.drop_eq_getElem_cons hlt] at hi
   by_cases hx:p.partners[k].id=who
   . refine ZK (by simpa using hx) ?_
     dsimp only [go_sem,rA,rM,rS]
     rw [<- hi];simp [Vq,hx]
   . refine Zz (by simpa using hx) ?_
     dsimp only [go_sem,rA,rM,rS]
     rw [Zi (n:=(k:Int)+1) (by omega) (by omega)]
     refine ⟨k+1,⟨hlt,by rw [<- hi];simp [Vq,hx]⟩,by omega,?_⟩
     (refine Zl ?_ ?_ ?_ rfl rfl<;>dsimp only [Zj,Za,id,go_sem,rA,rM,rS]<;>simp [Zj,Za,Zc,Ze,KFR,KFL,KF,Zd,mtO,nbr])
 . refine Zz (by simpa using hlt) ?_
   dsimp only [go_sem,rA,rM,rS]
   rw [<- hi,List.drop_eq_nil_of_le (by omega)];rfl
end Go.Proofs.Ythilckbkffjliaa
namespace Go.Azalai
def ZfF (p:Pact):Int:=if ZH p=true then 0 else 80
structure PreP (p:Pact) (k:Nat) (last puts shares:Int):Prop where
 le:k<=p.partners.length
 ok:Yl (-1) p.partners=Yl last (p.partners.drop k)
 ps:puts=ZM ((p.partners.take k).map (·.put))
 ss:shares=ZM ((p.partners.take k).map (·.share))
 lb:-1<=last/\last<=9999
 pb:0<=puts/\puts<=k * 100000000
 sb:0<=shares/\shares<=k * 1000
theorem PreP.start (p:Pact):PreP p 0 (-1) 0 0:=⟨Nat.zero_le _,rfl,rfl,rfl,by omega,by omega,by omega⟩
theorem ZcI {α : Type} {f:α->Int} {l:List α} {k:Nat} (h:k < l.length):ZM ((l.take (k+1)).map f)=ZM ((l.take k).map f)+f l[k]:=by
 rw [List.take_succ_eq_append_getElem h,List.map_append,Vv];simp [ZM]
theorem PreP.step {p:Pact} {k:Nat} {last puts shares:Int} (h:PreP p k last puts shares) (hk:k < p.partners.length) (ho:(inR (last+1) 9999 p.partners[k].id && inR 0 100000000 p.partners[k].put && inR 0 1000 p.partners[k].share)=true) :
 PreP p (k+1) p.partners[k].id (puts+p.partners[k].put) (shares+p.partners[k].share):=by
 have hl:=h.lb;have hp:=h.pb;have hs:=h.sb
 refine ⟨hk,?_,?_,?_,?_,?_,?_⟩
 . rw [h.ok,List.drop_eq_getElem_cons hk,Yl,ho,Bool.true_and]
 . rw [ZcI hk,h.ps]
 . rw [ZcI hk,h.ss]
 all_goals
  simp only [inR,Bool.and_eq_true,decide_eq_true_eq] at ho
  omega
theorem PreP.bad {p:Pact} {k:Nat} {last puts shares:Int} (h:PreP p k last puts shares) (hk:k < p.partners.length) (ho:(inR (last+1) 9999 p.partners[k].id && inR 0 100000000 p.partners[k].put && inR 0 1000 p.partners[k].share)=false):ZH p=false:=by
 have:Yl (-1) p.partners=false:=by rw [h.ok,List.drop_eq_getElem_cons hk,Yl,ho,Bool.false_and]
 simp [ZH,this]
theorem PreP.done {p:Pact} {k:Nat} {last puts shares:Int} (h:PreP p k last puts shares) (hk:k=p.partners.length):Yl (-1) p.partners=true/\puts=ZM (p.partners.map (·.put))/\shares=ZM (p.partners.map (·.share)):=by
 subst hk
 refine ⟨by rw [h.ok,List.drop_length];rfl,?_,?_⟩
 . rw [h.ps,List.take_length]
 . rw [h.ss,List.take_length]
end Go.Azalai
namespace Go.Proofs.Ythilckbkffjliaa
open Go Go.Sx Go.Azalai
theorem Zd6 (p:Pact) (hs:Yr p):Ct Try.prog 20 [.agg (Zj p)] (I (ZfF p)):=by
 refine t20.1 (by simp [Zj,Za,Zc,KFL,KF]) (by simp [KFL,KF]) ?_
 have hs:p.partners.length<=1000:=hs
 dsimp only [c20,r20,Zj,go_sem,rA,rM,rS]
 simp only [List.length_map]
 refine call (in1 1 8 _ _) ?_
 dsimp only [go_sem,rA,rM,rS]
 repeat (first | (refine gb ?_;dsimp only [go_sem,rA,rM,rS]) | (refine call (in1 0 1000 _ _) ?_;dsimp only [go_sem,rA,rM,rS]) | (refine call (in1 0 100000 _ _) ?_;dsimp only [go_sem,rA,rM,rS]))
 by_cases hall:(inR 1 8 p.partners.length && inR 0 1000 p.calf && inR 0 1000 p.hire && inR 0 100000 p.ends)=true
 case neg =>
  have hf:ZH p=false:=by
   rw [Bool.not_eq_true] at hall
   simp only [ZH,hall,Bool.false_and]
  refine ZK (by grind) ?_
  dsimp only [go_sem,rA,rM,rS]
  simp [ZfF,hf]
 refine Zz (by grind) ?_
 dsimp only [go_sem,rA,rM,rS]
 have h8:p.partners.length<=8:=by simp [inR] at hall;omega
 simp only [List.length_map]
 refine YY (fun s:Nat × Int × Int × Int=>[(38,I s.1),(3,I s.2.1),(4,I s.2.2.1),(5,I s.2.2.2)]) (fun _=>[]) (fun s=>PreP p s.1 s.2.1 s.2.2.1 s.2.2.2) (fun s=>p.partners.length - s.1) (0,-1,0,0) (.start p) ?_ ?_
 . (refine Zl ?_ ?_ ?_ rfl rfl<;>dsimp only [Zj,Za,id,go_sem,rA,rM,rS]<;>simp [Zj,Za,Zc,Ze,KFR,KFL,KF,Zd,mtO,nbr])
 rintro ⟨k,last,puts,shares⟩ hI
 simp only at hI
 have hle:=hI.le;have hlb:=hI.lb;have hpb:=hI.pb;have hsb:=hI.sb
 dsimp only [go_sem,rA,rM,rS]
 by_cases hlt:k < p.partners.length
 . refine ZK (by simpa using hlt) ?_
   dsimp only [go_sem,rA,rM,rS]
   refine ZF k hlt rfl ?_
   dsimp only [Za,go_sem,rA,rM,rS]
   rw [Zi (n:=last+1) (by omega) (by omega)]
   refine call (in1 (last+1) 9999 _ _) ?_
   dsimp only [go_sem,rA,rM,rS]
   repeat (first | (refine gb ?_;dsimp only [go_sem,rA,rM,rS]) | (refine call (in1 0 100000000 _ _) ?_;dsimp only [go_sem,rA,rM,rS]) | (refine call (in1 0 1000 _ _) ?_;dsimp only [go_sem,rA,rM,rS]))
   by_cases ho:(inR (last+1) 9999 p.partners[k].id && inR 0 100000000 p.partners[k].put && inR 0 1000 p.partners[k].share)=true
   case neg =>
    rw [Bool.not_eq_true] at ho
    refine ZK (by grind) ?_
    dsimp only [go_sem,rA,rM,rS]
    simp [ZfF,hI.bad hlt ho]
   refine Zz (by grind) ?_
   dsimp only [go_sem,rA,rM,rS]
   have ho':=ho
   simp only [inR,Bool.and_eq_true,decide_eq_true_eq] at ho'
   rw [Zi (n:=puts+_) (by omega) (by omega),Zi (n:=shares+_) (by omega) (by omega),Zi (n:=(k:Int)+1) (by omega) (by omega)]
   refine ⟨(k+1,p.partners[k].id,puts+p.partners[k].put,shares+p.partners[k].share),hI.step hlt ho,by simp only;omega,?_⟩
   (refine Zl ?_ ?_ ?_ rfl rfl<;>dsimp only [Zj,Za,id,go_sem,rA,rM,rS]<;>simp [Zj,Za,Zc,Ze,KFR,KFL,KF,Zd,mtO,nbr])
 refine Zz (by simpa using hlt) ?_
 dsimp only [go_sem,rA,rM,rS]
 obtain ⟨d1,d2,d3⟩:=hI.done (by omega)
 repeat (refine gb ?_;dsimp only [go_sem,rA,rM,rS])
 simp only [Bool.and_eq_true] at hall
 by_cases h0:puts=0\/shares≠1000
 . refine ZK (by rcases h0 with h | h<;>simp [h]) ?_
   dsimp only [go_sem,rA,rM,rS]
   have:ZH p=false:=by
    rw [<- Bool.not_eq_true]
    simp only [ZH,Bool.and_eq_true,decide_eq_true_eq,<- d2,<- d3]
    omega
   simp [ZfF,this]
 . refine Zz (by simp;omega) ?_
   dsimp only [go_sem,rA,rM,rS]
   have:ZH p=true:=by
    simp only [ZH,Bool.and_eq_true,decide_eq_true_eq,<- d2,<- d3,d1,hall]
    simp;omega
   simp [ZfF,this]
theorem Ze1 (p:Pact) (hs:Yr p):Ct Try.prog 44 [.agg (Zj p)] (B (ZH p)):=by
 refine t44.1 (by simp [Zj,Za,Zc,KFL,KF]) (by simp [KFL,KF]) ?_
 have hs:p.partners.length<=1000:=hs
 dsimp only [c44,r44,Zj,go_sem,rA,rM,rS]
 simp only [List.length_map]
 refine call (ZR _ 1 8) ?_
 dsimp only [go_sem,rA,rM,rS]
 repeat (first | (refine gb ?_;dsimp only [go_sem,rA,rM,rS]) | (refine call (ZR _ 0 1000) ?_;dsimp only [go_sem,rA,rM,rS]) | (refine call (ZR _ 0 100000) ?_;dsimp only [go_sem,rA,rM,rS]))
 by_cases hall:(inR 1 8 p.partners.length && inR 0 1000 p.calf && inR 0 1000 p.hire && inR 0 100000 p.ends)=true
 case neg =>
  have hf:ZH p=false:=by
   rw [Bool.not_eq_true] at hall
   simp only [ZH,hall,Bool.false_and]
  refine ZK (by grind) ?_
  dsimp only [go_sem,rA,rM,rS]
  simp [hf]
 refine Zz (by grind) ?_
 dsimp only [go_sem,rA,rM,rS]
 have h8:p.partners.length<=8:=by simp [inR] at hall;omega
 refine YY (fun s:Nat × Int × Int=>[(5,I s.1),(3,I s.2.1),(4,I s.2.2)]) (fun _=>[]) (fun s=>PreP p s.1 (if h:0 < s.1/\s.1<=p.partners.length then (p.partners[s.1 - 1]'(by omega)).id else -1) s.2.1 s.2.2) (fun s=>p.partners.length - s.1) (0,0,0) (.start p) ?_ ?_
 . (refine Zl ?_ ?_ ?_ rfl rfl<;>dsimp only [Zj,Za,id,go_sem,rA,rM,rS]<;>simp [Zj,Za,Zc,Ze,KFR,KFL,KF,Zd,mtO,nbr])
 rintro ⟨k,puts,shares⟩ hI
 simp only at hI
 have hle:=hI.le;have hlb:=hI.lb;have hpb:=hI.pb;have hsb:=hI.sb
 dsimp only [go_sem,rA,rM,rS]
 simp only [List.length_map]
 by_cases hlt:k < p.partners.length
 . refine ZK (by simpa using hlt) ?_
   dsimp only [go_sem,rA,rM,rS]
   refine ZF k hlt rfl ?_
   dsimp only [Za,go_sem,rA,rM,rS]
   refine call (ZR _ 0 9999) ?_
   dsimp only [go_sem,rA,rM,rS]
   generalize hlast:(if h:0 < k/\k<=p.partners.length then (p.partners[k - 1]'(by omega)).id else -1)=last at *
   have hl0:k=0->last = -1:=fun h=>by rw [<- hlast,dif_neg (by omega)]
   have hl1:0 < k->last=(p.partners[k - 1]'(by omega)).id:=fun h=>by rw [<- hlast,dif_pos ⟨h,hle⟩]
   repeat (refine gb ?_;dsimp only [go_sem,rA,rM,rS])
   refine Zzp (k - 1) (Za (p.partners[k - 1]'(by omega))) rfl (fun h=>⟨(by have:(k:Int) > 0:=(by simpa using h);rw [Zi (by omega) (by omega)];omega),(by rw [List.getElem?_map,List.getElem?_eq_getElem (by omega)];rfl)⟩) ?_
   dsimp only [Za,go_sem,rA,rM,rS]
   repeat (first | (refine gb ?_;dsimp only [go_sem,rA,rM,rS]) | (refine call (ZR _ 0 100000000) ?_;dsimp only [go_sem,rA,rM,rS]) | (refine call (ZR _ 0 1000) ?_;dsimp only [go_sem,rA,rM,rS]))
   generalize hprev:(p.partners[k - 1]'(by omega)).id=prev at *
   by_cases ho:(inR (last+1) 9999 p.partners[k].id && inR 0 100000000 p.partners[k].put && inR 0 1000 p.partners[k].share)=true
   case neg =>
    rw [Bool.not_eq_true] at ho
    refine ZK ?_ ?_
    . rw [<- Bool.not_eq_false]
      intro hc
      rw [<- Bool.not_eq_true] at ho
      apply ho
      by_cases hk0:k=0
      . have:=hl0 hk0
        subst this
        simp only [inR,Bool.and_eq_true,decide_eq_true_eq] at hc ⊢
        grind
      . have:=hl1 (by omega)
        subst this
        simp only [inR,Bool.and_eq_true,decide_eq_true_eq] at hc ⊢
        grind
    dsimp only [go_sem,rA,rM,rS]
    simp [hI.bad hlt ho]
   refine Zz ?_ ?_
   . by_cases hk0:k=0
     . have:=hl0 hk0
       subst this
       simp only [inR,Bool.and_eq_true,decide_eq_true_eq] at ho ⊢
       grind
     . have:=hl1 (by omega)
       subst this
       simp only [inR,Bool.and_eq_true,decide_eq_true_eq] at ho ⊢
       grind
   dsimp only [go_sem,rA,rM,rS]
   have ho':=ho
   simp only [inR,Bool.and_eq_true,decide_eq_true_eq] at ho'
   rw [Zi (n:=puts+_) (by omega) (by omega),Zi (n:=shares+_) (by omega) (by omega),Zi (n:=(k:Int)+1) (by omega) (by omega)]
   refine ⟨(k+1,puts+p.partners[k].put,shares+p.partners[k].share),?_,by simp only;omega,?_⟩
   . have:=hI.step hlt ho
     simp only
     rw [dif_pos ⟨by omega,hlt⟩]
     simpa using this
   (refine Zl ?_ ?_ ?_ rfl rfl<;>dsimp only [Zj,Za,id,go_sem,rA,rM,rS]<;>simp [Zj,Za,Zc,Ze,KFR,KFL,KF,Zd,mtO,nbr])
 refine Zz (by simpa using hlt) ?_
 dsimp only [go_sem,rA,rM,rS]
 obtain ⟨d1,d2,d3⟩:=hI.done (by omega)
 repeat (refine gb ?_;dsimp only [go_sem,rA,rM,rS])
 simp only [Bool.and_eq_true] at hall
 have e0:decide (puts > 0)=decide (puts≠0):=by
  by_cases h:puts=0
  . simp [h]
  . have:puts > 0:=by omega
    simp [h,this]
 simp only [ZH,<- d2,<- d3,d1,hall,Bool.true_and,Bool.and_true]
 first | rw [<- e0] | skip
 by_cases h:shares=1000<;>simp [h]
def c87:SC:=(.reg [
 m1 4 0,
 m1 5 0,
 o1 6 (.len (.t 5)),
 m1 7 1,
 o1 8 (.callm 109 [.t 4,.t 6,.t 7])])
def r87:List RV:=[]
theorem n87:Try.f87.ntmps=9:=by kernel_rfl
theorem b87:ZW Try.prog 87=true:=by kernel_rfl
theorem Zxv:Yx Try.prog c87 ((Try.f87.body).getD .skip)=true:=by kernel_rfl
theorem ZyP:YQ Try.prog r87 Try.f87.results.toList=true:=by kernel_rfl
theorem m87 {n0:Nat} {hp0:List (Nat × HB)} {args:List SV} {Zs:Ot->Prop} (hh:hpb n0 hp0) (hx:∀ o,Zs o->KX o.res/\KXP o.hp) (h:sx Try.prog Y0 n0 c87 ⟨YN 0 args,hp0,n0,9,[]⟩ (Wd r87 fun o=>∃ o',Zs o'/\Ws n0 o o')) (hA:Nat.ble args.length 9=true:=by rfl):CtM Try.prog 87 hp0 n0 args Zs:=Zr Try.func87 rfl b87 Zxv ZyP n87 (Nat.le_of_ble_eq_true hA) hh hx h
def c109:SC:=(sr1 [
 o1 6 (.mv (cn 20))]
 (sr1 [
 m1 10 6,
 o1 7 (.mv (cn 0)),
 m1 8 10]
 (.seq (.block 0 (.loop (.seq (sr1 [
  m1 11 8,
  m1 12 1,
  o1 13 (.bin .leq (.t 11) (.t 12))]
  (.cond (.t 13)
  .skip
  (.exit 0)))
  (.block 1 (sr1 [
   m1 14 0,
   m1 15 7,
   m1 16 8,
   m1 17 2,
   o1 18 (.callm 115 [.t 14,.t 15,.t 16,.t 17])]
   (sr1 [
   m1 19 8,
   m1 7 19]
   (.reg [
   m1 20 8,
   m1 21 6,
   o1 22 (.bin .add (.t 20) (.t 21)),
   m1 8 22])))))))
 (sr1 [
 m1 23 0,
 m1 24 7,
 m1 25 1,
 m1 26 2,
 o1 27 (.callm 115 [.t 23,.t 24,.t 25,.t 26])]
 (.block 2 (.loop (.seq (sr1 [
  m1 28 6,
  m1 29 1,
  o1 30 (.bin .lss (.t 28) (.t 29))]
  (.cond (.t 30)
  .skip
  (.exit 2)))
  (.block 3 (sr1 [
   m1 31 6,
   o1 32 (.bin .mul (cn 2) (.t 31)),
   o1 7 (.mv (cn 0)),
   m1 8 32]
   (.seq (.block 4 (.loop (.seq (sr1 [
    m1 33 8,
    m1 34 1,
    o1 35 (.bin .leq (.t 33) (.t 34))]
    (.cond (.t 35)
    .skip
    (.exit 4)))
    (.block 5 (sr1 [
     m1 36 0,
     m1 37 7,
     m1 38 7,
     m1 39 6,
     o1 40 (.bin .add (.t 38) (.t 39)),
     m1 41 8,
     m1 42 2,
     o1 43 (.callm 116 [.t 36,.t 37,.t 40,.t 41,.t 42])]
     (sr1 [
     m1 44 8,
     m1 7 44]
     (.reg [
     m1 45 8,
     m1 46 6,
     o1 47 (.bin .mul (cn 2) (.t 46)),
     o1 48 (.bin .add (.t 45) (.t 47)),
     m1 8 48])))))))
   (.seq (sr1 [
   m1 49 7,
   m1 50 6,
   o1 51 (.bin .add (.t 49) (.t 50)),
   m1 9 51]
   (sr1 [
   m1 52 9,
   m1 53 1,
   o1 54 (.bin .lss (.t 52) (.t 53))]
   (.cond (.t 54)
   (.reg [
    m1 55 0,
    m1 56 7,
    m1 57 9,
    m1 58 1,
    m1 59 2,
    o1 60 (.callm 116 [.t 55,.t 56,.t 57,.t 58,.t 59])])
   .skip)))
   (.reg [
   m1 61 6,
   o1 62 (.bin .mul (.t 61) (cn 2)),
   m1 6 62]))))))))))))
def r109:List RV:=[]
theorem n109:Try.f109.ntmps=63:=by kernel_rfl
theorem b109:ZW Try.prog 109=true:=by kernel_rfl
theorem ZsA:Yx Try.prog c109 ((Try.f109.body).getD .skip)=true:=by kernel_rfl
theorem ZuL:YQ Try.prog r109 Try.f109.results.toList=true:=by kernel_rfl
theorem m109 {n0:Nat} {hp0:List (Nat × HB)} {args:List SV} {Zs:Ot->Prop} (hh:hpb n0 hp0) (hx:∀ o,Zs o->KX o.res/\KXP o.hp) (h:sx Try.prog Y0 n0 c109 ⟨YN 0 args,hp0,n0,63,[]⟩ (Wd r109 fun o=>∃ o',Zs o'/\Ws n0 o o')) (hA:Nat.ble args.length 63=true:=by rfl):CtM Try.prog 109 hp0 n0 args Zs:=Zr Try.func109 rfl b109 ZsA ZuL n109 (Nat.le_of_ble_eq_true hA) hh hx h
def c115:SC:=(sr1 [
 m1 10 1,
 o1 11 (.bin .add (.t 10) (cn 1)),
 m1 8 11]
 (.block 0 (.loop (.seq (sr1 [
  m1 12 8,
  m1 13 2,
  o1 14 (.bin .lss (.t 12) (.t 13))]
  (.cond (.t 14)
  .skip
  (.exit 0)))
  (.seq (.block 1 (sr1 [
   m1 17 8,
   m1 9 17]
   (.block 2 (.loop (.seq (.seq (.regd [0,1,2,3,4,5,6,7,8,9,10,11,12,13,14,15,16] [
    .op (m1 18 9),
    .op (m1 19 1),
    .op (p1 20 (.bin .gtr (.t 18) (.t 19)) [0,1]),
    .op (p1 21 (.mv (.t 20)) [2]),
    .op (q1 22 21 true (.mv (.t 3)) [3]),
    .op (q1 23 21 true (.mv (.t 0)) [3]),
    .op (q1 24 21 true (.mv (.t 9)) [3]),
    .op (q1 25 21 true (.ixs (.t 23) (.t 24) 8) [3,5,6]),
    .op (q1 26 21 true (lt 25 8) [3,7]),
    .op (q1 27 21 true (.mv (.t 0)) [3]),
    .op (q1 28 21 true (.mv (.t 9)) [3]),
    .op (q1 29 21 true (.bin .sub (.t 28) (cn 1)) [3,10]),
    .op (q1 30 21 true (.ixs (.t 27) (.t 29) 8) [3,9,11]),
    .op (q1 31 21 true (lt 30 8) [3,12]),
    .op (q1 32 21 true (.calv (.t 22) [.t 26,.t 31]) [3,4,8,13]),
    .op (q1 33 21 true (.bin .lss (.t 32) (cn 0)) [3,14]),
    .op (p1 34 (.pick (.t 21) (.t 33) (.c (.bool false))) [3,15])] 0 0 [
])
 (.cond (.t 34)
 .skip
 (.exit 2)))
 (.seq (.block 3 (.regd [0,1,5,6,7,8,9,10,11,12,13,14,2,3,4,15,16,17] [
  .op (m1 37 0),
  .op (m1 38 9),
  .op (m1 42 0),
  .op (m1 43 9),
  .op (p1 44 (.bin .sub (.t 43) (cn 1)) [6]),
  .op (p1 45 (.ixs (.t 42) (.t 44) 8) [5,7]),
  .op (p1 46 (lt 45 8) [8]),
  .op (m1 47 0),
  .op (m1 48 9),
  .op (p1 49 (.ixs (.t 47) (.t 48) 8) [10,11]),
  .op (p1 50 (lt 49 8) [12]),
  .op (p1 51 (.ixs (.t 37) (.t 38) 8) [0,1,5,6,7,8,9,13]),
  .hide (.t 51),
  .op (m1 39 0),
  .op (m1 40 9),
  .op (p1 41 (.bin .sub (.t 40) (cn 1)) [3])] 0 1 [
  ⟨none,.st (.t 51) (.t 46) 8,none,[0,1,5,6,7,8,9,13,14]⟩,
  ⟨some 52,.ixs (.t 39) (.t 41) 8,none,[0,1,2,3,4,5,6,7,8,9,10,11,12,13,14,15]⟩,
  ⟨none,.st (.t 52) (.t 50) 8,none,[0,1,2,3,4,5,6,7,8,9,10,11,12,13,14,15,16]⟩]))
 (.reg [
 m1 35 9,
 o1 36 (.bin .sub (.t 35) (cn 1)),
 m1 9 36])))))))
 (.reg [
 m1 15 8,
 o1 16 (.bin .add (.t 15) (cn 1)),
 m1 8 16]))))))
def r115:List RV:=[]
theorem n115:Try.f115.ntmps=53:=by kernel_rfl
theorem b115:ZW Try.prog 115=true:=by kernel_rfl
theorem Ztr:Yx Try.prog c115 ((Try.f115.body).getD .skip)=true:=by kernel_rfl
theorem Zvf:YQ Try.prog r115 Try.f115.results.toList=true:=by kernel_rfl
theorem m115 {n0:Nat} {hp0:List (Nat × HB)} {args:List SV} {Zs:Ot->Prop} (hh:hpb n0 hp0) (hx:∀ o,Zs o->KX o.res/\KXP o.hp) (h:sx Try.prog Y0 n0 c115 ⟨YN 0 args,hp0,n0,53,[]⟩ (Wd r115 fun o=>∃ o',Zs o'/\Ws n0 o o')) (hA:Nat.ble args.length 53=true:=by rfl):CtM Try.prog 115 hp0 n0 args Zs:=Zr Try.func115 rfl b115 Ztr Zvf n115 (Nat.le_of_ble_eq_true hA) hh hx h
def c116:SC:=(.seq (sr1 [
 m1 25 2,
 m1 26 1,
 o1 27 (.bin .sub (.t 25) (.t 26)),
 o1 28 (.bin .eql (.t 27) (cn 1))]
 (.cond (.t 28)
 (sr1 [
  m1 29 2,
  m1 10 29]
  (sr1 [
  m1 30 3,
  m1 11 30]
  (.seq (.block 0 (.loop (.seq (sr1 [
   m1 31 10,
   m1 32 11,
   o1 33 (.bin .lss (.t 31) (.t 32))]
   (.cond (.t 33)
   .skip
   (.exit 0)))
   (.block 1 (sr1 [
    m1 34 10,
    m1 35 11,
    o1 36 (.bin .add (.t 34) (.t 35)),
    o1 37 (.conv .u64 (.t 36)),
    o1 38 (.raw (Go.Op.binOp Go.BinOp.shr 158 (Go.Operand.tmp 37) (Go.Operand.const (Go.Value.int Go.IntKind.u64 1)) 158) 158),
    o1 39 (.conv .i64 (.t 38)),
    m1 12 39]
    (.seq (.regd [0,1,2,3,4,5,6,7,8,9,10] [
    .op (m1 40 4),
    .op (m1 41 0),
    .op (m1 42 12),
    .op (p1 43 (.ixs (.t 41) (.t 42) 8) [1,2]),
    .op (p1 44 (lt 43 8) [3]),
    .op (m1 45 0),
    .op (m1 46 1),
    .op (p1 47 (.ixs (.t 45) (.t 46) 8) [5,6]),
    .op (p1 48 (lt 47 8) [7]),
    .op (p1 49 (.calv (.t 40) [.t 44,.t 48]) [0,4,8]),
    .op (p1 50 (.bin .lss (.t 49) (cn 0)) [9])] 0 0 [
])
 (.cond (.t 50)
 (.reg [
  m1 51 12,
  o1 52 (.bin .add (.t 51) (cn 1)),
  m1 10 52])
 (.reg [
  m1 53 12,
  m1 11 53]))))))))
 (.seq (sr1 [
 m1 54 1,
 m1 13 54]
 (.block 2 (.loop (.seq (sr1 [
  m1 55 13,
  m1 56 10,
  o1 57 (.bin .sub (.t 56) (cn 1)),
  o1 58 (.bin .lss (.t 55) (.t 57))]
  (.cond (.t 58)
  .skip
  (.exit 2)))
  (.seq (.block 3 (.regd [0,1,5,6,7,8,9,10,11,12,13,14,2,3,4,15,16,17] [
   .op (m1 61 0),
   .op (m1 62 13),
   .op (m1 66 0),
   .op (m1 67 13),
   .op (p1 68 (.bin .add (.t 67) (cn 1)) [6]),
   .op (p1 69 (.ixs (.t 66) (.t 68) 8) [5,7]),
   .op (p1 70 (lt 69 8) [8]),
   .op (m1 71 0),
   .op (m1 72 13),
   .op (p1 73 (.ixs (.t 71) (.t 72) 8) [10,11]),
   .op (p1 74 (lt 73 8) [12]),
   .op (p1 75 (.ixs (.t 61) (.t 62) 8) [0,1,5,6,7,8,9,13]),
   .hide (.t 75),
   .op (m1 63 0),
   .op (m1 64 13),
   .op (p1 65 (.bin .add (.t 64) (cn 1)) [3])] 0 1 [
   ⟨none,.st (.t 75) (.t 70) 8,none,[0,1,5,6,7,8,9,13,14]⟩,
   ⟨some 76,.ixs (.t 63) (.t 65) 8,none,[0,1,2,3,4,5,6,7,8,9,10,11,12,13,14,15]⟩,
   ⟨none,.st (.t 76) (.t 74) 8,none,[0,1,2,3,4,5,6,7,8,9,10,11,12,13,14,15,16]⟩]))
  (.reg [
  m1 59 13,
  o1 60 (.bin .add (.t 59) (cn 1)),
  m1 13 60]))))))
 .ret))))
 .skip))
 (.seq (sr1 [
 m1 77 3,
 m1 78 2,
 o1 79 (.bin .sub (.t 77) (.t 78)),
 o1 80 (.bin .eql (.t 79) (cn 1))]
 (.cond (.t 80)
 (sr1 [
  m1 81 1,
  m1 14 81]
  (sr1 [
  m1 82 2,
  m1 15 82]
  (.seq (.block 4 (.loop (.seq (sr1 [
   m1 83 14,
   m1 84 15,
   o1 85 (.bin .lss (.t 83) (.t 84))]
   (.cond (.t 85)
   .skip
   (.exit 4)))
   (.block 5 (sr1 [
    m1 86 14,
    m1 87 15,
    o1 88 (.bin .add (.t 86) (.t 87)),
    o1 89 (.conv .u64 (.t 88)),
    o1 90 (.raw (Go.Op.binOp Go.BinOp.shr 158 (Go.Operand.tmp 89) (Go.Operand.const (Go.Value.int Go.IntKind.u64 1)) 158) 158),
    o1 91 (.conv .i64 (.t 90)),
    m1 16 91]
    (.seq (.regd [0,1,2,3,4,5,6,7,8,9,10,11] [
    .op (m1 92 4),
    .op (m1 93 0),
    .op (m1 94 2),
    .op (p1 95 (.ixs (.t 93) (.t 94) 8) [1,2]),
    .op (p1 96 (lt 95 8) [3]),
    .op (m1 97 0),
    .op (m1 98 16),
    .op (p1 99 (.ixs (.t 97) (.t 98) 8) [5,6]),
    .op (p1 100 (lt 99 8) [7]),
    .op (p1 101 (.calv (.t 92) [.t 96,.t 100]) [0,4,8]),
    .op (p1 102 (.bin .lss (.t 101) (cn 0)) [9]),
    .op (p1 103 (.un .not (.t 102)) [10])] 0 0 [
])
 (.cond (.t 103)
 (.reg [
  m1 104 16,
  o1 105 (.bin .add (.t 104) (cn 1)),
  m1 14 105])
 (.reg [
  m1 106 16,
  m1 15 106]))))))))
 (.seq (sr1 [
 m1 107 2,
 m1 17 107]
 (.block 6 (.loop (.seq (sr1 [
  m1 108 17,
  m1 109 14,
  o1 110 (.bin .gtr (.t 108) (.t 109))]
  (.cond (.t 110)
  .skip
  (.exit 6)))
  (.seq (.block 7 (.regd [0,1,5,6,7,8,9,10,11,12,13,14,2,3,4,15,16,17] [
   .op (m1 113 0),
   .op (m1 114 17),
   .op (m1 118 0),
   .op (m1 119 17),
   .op (p1 120 (.bin .sub (.t 119) (cn 1)) [6]),
   .op (p1 121 (.ixs (.t 118) (.t 120) 8) [5,7]),
   .op (p1 122 (lt 121 8) [8]),
   .op (m1 123 0),
   .op (m1 124 17),
   .op (p1 125 (.ixs (.t 123) (.t 124) 8) [10,11]),
   .op (p1 126 (lt 125 8) [12]),
   .op (p1 127 (.ixs (.t 113) (.t 114) 8) [0,1,5,6,7,8,9,13]),
   .hide (.t 127),
   .op (m1 115 0),
   .op (m1 116 17),
   .op (p1 117 (.bin .sub (.t 116) (cn 1)) [3])] 0 1 [
   ⟨none,.st (.t 127) (.t 122) 8,none,[0,1,5,6,7,8,9,13,14]⟩,
   ⟨some 128,.ixs (.t 115) (.t 117) 8,none,[0,1,2,3,4,5,6,7,8,9,10,11,12,13,14,15]⟩,
   ⟨none,.st (.t 128) (.t 126) 8,none,[0,1,2,3,4,5,6,7,8,9,10,11,12,13,14,15,16]⟩]))
  (.reg [
  m1 111 17,
  o1 112 (.bin .sub (.t 111) (cn 1)),
  m1 17 112]))))))
 .ret))))
 .skip))
 (sr1 [
 m1 129 1,
 m1 130 3,
 o1 131 (.bin .add (.t 129) (.t 130)),
 o1 132 (.conv .u64 (.t 131)),
 o1 133 (.raw (Go.Op.binOp Go.BinOp.shr 158 (Go.Operand.tmp 132) (Go.Operand.const (Go.Value.int Go.IntKind.u64 1)) 158) 158),
 o1 134 (.conv .i64 (.t 133)),
 m1 18 134]
 (sr1 [
 m1 135 18,
 m1 136 2,
 o1 137 (.bin .add (.t 135) (.t 136)),
 m1 19 137]
 (sr1 [
 o1 20 (.mv (cn 0)),
 o1 21 (.mv (cn 0))]
 (.seq (sr1 [
 m1 138 2,
 m1 139 18,
 o1 140 (.bin .gtr (.t 138) (.t 139))]
 (.cond (.t 140)
 (sr1 [
  m1 141 19,
  m1 142 3,
  o1 143 (.bin .sub (.t 141) (.t 142)),
  m1 20 143]
  (.reg [
  m1 144 18,
  m1 21 144]))
 (sr1 [
  m1 145 1,
  m1 20 145]
  (.reg [
  m1 146 2,
  m1 21 146]))))
 (sr1 [
 m1 147 19,
 o1 148 (.bin .sub (.t 147) (cn 1)),
 m1 22 148]
 (.seq (.block 8 (.loop (.seq (sr1 [
  m1 149 20,
  m1 150 21,
  o1 151 (.bin .lss (.t 149) (.t 150))]
  (.cond (.t 151)
  .skip
  (.exit 8)))
  (.block 9 (sr1 [
   m1 152 20,
   m1 153 21,
   o1 154 (.bin .add (.t 152) (.t 153)),
   o1 155 (.conv .u64 (.t 154)),
   o1 156 (.raw (Go.Op.binOp Go.BinOp.shr 158 (Go.Operand.tmp 155) (Go.Operand.const (Go.Value.int Go.IntKind.u64 1)) 158) 158),
   o1 157 (.conv .i64 (.t 156)),
   m1 23 157]
   (.seq (.regd [0,1,2,3,4,5,6,7,8,9,10,11,12,13] [
   .op (m1 158 4),
   .op (m1 159 0),
   .op (m1 160 22),
   .op (m1 161 23),
   .op (p1 162 (.bin .sub (.t 160) (.t 161)) [2,3]),
   .op (p1 163 (.ixs (.t 159) (.t 162) 8) [1,4]),
   .op (p1 164 (lt 163 8) [5]),
   .op (m1 165 0),
   .op (m1 166 23),
   .op (p1 167 (.ixs (.t 165) (.t 166) 8) [7,8]),
   .op (p1 168 (lt 167 8) [9]),
   .op (p1 169 (.calv (.t 158) [.t 164,.t 168]) [0,6,10]),
   .op (p1 170 (.bin .lss (.t 169) (cn 0)) [11]),
   .op (p1 171 (.un .not (.t 170)) [12])] 0 0 [
])
 (.cond (.t 171)
 (.reg [
  m1 172 23,
  o1 173 (.bin .add (.t 172) (cn 1)),
  m1 20 173])
 (.reg [
  m1 174 23,
  m1 21 174]))))))))
 (sr1 [
 m1 175 19,
 m1 176 20,
 o1 177 (.bin .sub (.t 175) (.t 176)),
 m1 24 177]
 (.seq (sr1 [
 m1 178 20,
 m1 179 2,
 o1 180 (.bin .lss (.t 178) (.t 179)),
 m1 181 180,
 g1 182 181 true (.mv (.t 2)),
 g1 183 181 true (.mv (.t 24)),
 g1 184 181 true (.bin .lss (.t 182) (.t 183)),
 o1 185 (.pick (.t 181) (.t 184) (.c (.bool false)))]
 (.cond (.t 185)
 (.reg [
  m1 186 0,
  m1 187 20,
  m1 188 2,
  m1 189 24,
  m1 190 4,
  o1 191 (.callm 118 [.t 186,.t 187,.t 188,.t 189,.t 190])])
 .skip))
 (.seq (sr1 [
 m1 192 1,
 m1 193 20,
 o1 194 (.bin .lss (.t 192) (.t 193)),
 m1 195 194,
 g1 196 195 true (.mv (.t 20)),
 g1 197 195 true (.mv (.t 18)),
 g1 198 195 true (.bin .lss (.t 196) (.t 197)),
 o1 199 (.pick (.t 195) (.t 198) (.c (.bool false)))]
 (.cond (.t 199)
 (.reg [
  m1 200 0,
  m1 201 1,
  m1 202 20,
  m1 203 18,
  m1 204 4,
  o1 205 (.callm 116 [.t 200,.t 201,.t 202,.t 203,.t 204])])
 .skip))
 (sr1 [
 m1 206 18,
 m1 207 24,
 o1 208 (.bin .lss (.t 206) (.t 207)),
 m1 209 208,
 g1 210 209 true (.mv (.t 24)),
 g1 211 209 true (.mv (.t 3)),
 g1 212 209 true (.bin .lss (.t 210) (.t 211)),
 o1 213 (.pick (.t 209) (.t 212) (.c (.bool false)))]
 (.cond (.t 213)
 (.reg [
  m1 214 0,
  m1 215 18,
  m1 216 24,
  m1 217 3,
  m1 218 4,
  o1 219 (.callm 116 [.t 214,.t 215,.t 216,.t 217,.t 218])])
 .skip)))))))))))))
def r116:List RV:=[]
theorem n116:Try.f116.ntmps=220:=by kernel_rfl
theorem b116:ZW Try.prog 116=true:=by kernel_rfl
theorem Zta:Yx Try.prog c116 ((Try.f116.body).getD .skip)=true:=by kernel_rfl
theorem Ztk:YQ Try.prog r116 Try.f116.results.toList=true:=by kernel_rfl
theorem m116 {n0:Nat} {hp0:List (Nat × HB)} {args:List SV} {Zs:Ot->Prop} (hh:hpb n0 hp0) (hx:∀ o,Zs o->KX o.res/\KXP o.hp) (h:sx Try.prog Y0 n0 c116 ⟨YN 0 args,hp0,n0,220,[]⟩ (Wd r116 fun o=>∃ o',Zs o'/\Ws n0 o o')) (hA:Nat.ble args.length 220=true:=by rfl):CtM Try.prog 116 hp0 n0 args Zs:=Zr Try.func116 rfl b116 Zta Ztk n116 (Nat.le_of_ble_eq_true hA) hh hx h
def c118:SC:=(sr1 [
 m1 12 2,
 m1 13 1,
 o1 14 (.bin .sub (.t 12) (.t 13)),
 m1 10 14]
 (sr1 [
 m1 15 3,
 m1 16 2,
 o1 17 (.bin .sub (.t 15) (.t 16)),
 m1 11 17]
 (.seq (.block 0 (.loop (.seq (sr1 [
  m1 18 10,
  m1 19 11,
  o1 20 (.bin .neq (.t 18) (.t 19))]
  (.cond (.t 20)
  .skip
  (.exit 0)))
  (.block 1 (sr1 [
   m1 21 10,
   m1 22 11,
   o1 23 (.bin .gtr (.t 21) (.t 22))]
   (.cond (.t 23)
   (sr1 [
    m1 24 0,
    m1 25 2,
    m1 26 10,
    o1 27 (.bin .sub (.t 25) (.t 26)),
    m1 28 2,
    m1 29 11,
    m1 30 4,
    o1 31 (.callm 120 [.t 24,.t 27,.t 28,.t 29,.t 30])]
    (.reg [
    m1 32 10,
    m1 33 11,
    o1 34 (.bin .sub (.t 32) (.t 33)),
    m1 10 34]))
   (sr1 [
    m1 35 0,
    m1 36 2,
    m1 37 10,
    o1 38 (.bin .sub (.t 36) (.t 37)),
    m1 39 2,
    m1 40 11,
    o1 41 (.bin .add (.t 39) (.t 40)),
    m1 42 10,
    o1 43 (.bin .sub (.t 41) (.t 42)),
    m1 44 10,
    m1 45 4,
    o1 46 (.callm 120 [.t 35,.t 38,.t 43,.t 44,.t 45])]
    (.reg [
    m1 47 11,
    m1 48 10,
    o1 49 (.bin .sub (.t 47) (.t 48)),
    m1 11 49]))))))))
 (.reg [
 m1 50 0,
 m1 51 2,
 m1 52 10,
 o1 53 (.bin .sub (.t 51) (.t 52)),
 m1 54 2,
 m1 55 10,
 m1 56 4,
 o1 57 (.callm 120 [.t 50,.t 53,.t 54,.t 55,.t 56])]))))
def r118:List RV:=[]
theorem n118:Try.f118.ntmps=58:=by kernel_rfl
theorem b118:ZW Try.prog 118=true:=by kernel_rfl
theorem ZvE:Yx Try.prog c118 ((Try.f118.body).getD .skip)=true:=by kernel_rfl
theorem ZrZ:YQ Try.prog r118 Try.f118.results.toList=true:=by kernel_rfl
theorem m118 {n0:Nat} {hp0:List (Nat × HB)} {args:List SV} {Zs:Ot->Prop} (hh:hpb n0 hp0) (hx:∀ o,Zs o->KX o.res/\KXP o.hp) (h:sx Try.prog Y0 n0 c118 ⟨YN 0 args,hp0,n0,58,[]⟩ (Wd r118 fun o=>∃ o',Zs o'/\Ws n0 o o')) (hA:Nat.ble args.length 58=true:=by rfl):CtM Try.prog 118 hp0 n0 args Zs:=Zr Try.func118 rfl b118 ZvE ZrZ n118 (Nat.le_of_ble_eq_true hA) hh hx h
def c120:SC:=(sr1 [
 o1 10 (.mv (cn 0))]
 (.block 0 (.loop (.seq (sr1 [
  m1 11 10,
  m1 12 3,
  o1 13 (.bin .lss (.t 11) (.t 12))]
  (.cond (.t 13)
  .skip
  (.exit 0)))
  (.seq (.block 1 (.regd [0,1,2,3,8,9,10,11,12,13,14,15,16,17,18,19,20,4,5,6,7,21,22,23] [
   .op (m1 16 0),
   .op (m1 17 1),
   .op (m1 18 10),
   .op (p1 19 (.bin .add (.t 17) (.t 18)) [1,2]),
   .op (m1 24 0),
   .op (m1 25 2),
   .op (m1 26 10),
   .op (p1 27 (.bin .add (.t 25) (.t 26)) [9,10]),
   .op (p1 28 (.ixs (.t 24) (.t 27) 8) [8,11]),
   .op (p1 29 (lt 28 8) [12]),
   .op (m1 30 0),
   .op (m1 31 1),
   .op (m1 32 10),
   .op (p1 33 (.bin .add (.t 31) (.t 32)) [15,16]),
   .op (p1 34 (.ixs (.t 30) (.t 33) 8) [14,17]),
   .op (p1 35 (lt 34 8) [18]),
   .op (p1 36 (.ixs (.t 16) (.t 19) 8) [0,1,2,3,8,9,10,11,12,13,19]),
   .hide (.t 36),
   .op (m1 20 0),
   .op (m1 21 2),
   .op (m1 22 10),
   .op (p1 23 (.bin .add (.t 21) (.t 22)) [5,6])] 0 1 [
   ⟨none,.st (.t 36) (.t 29) 8,none,[0,1,2,3,8,9,10,11,12,13,19,20]⟩,
   ⟨some 37,.ixs (.t 20) (.t 23) 8,none,[0,1,2,3,4,5,6,7,8,9,10,11,12,13,14,15,16,17,18,19,20,21]⟩,
   ⟨none,.st (.t 37) (.t 35) 8,none,[0,1,2,3,4,5,6,7,8,9,10,11,12,13,14,15,16,17,18,19,20,21,22]⟩]))
  (.reg [
  m1 14 10,
  o1 15 (.bin .add (.t 14) (cn 1)),
  m1 10 15]))))))
def r120:List RV:=[]
theorem n120:Try.f120.ntmps=38:=by kernel_rfl
theorem b120:ZW Try.prog 120=true:=by kernel_rfl
theorem Ztv:Yx Try.prog c120 ((Try.f120.body).getD .skip)=true:=by kernel_rfl
theorem ZsR:YQ Try.prog r120 Try.f120.results.toList=true:=by kernel_rfl
theorem m120 {n0:Nat} {hp0:List (Nat × HB)} {args:List SV} {Zs:Ot->Prop} (hh:hpb n0 hp0) (hx:∀ o,Zs o->KX o.res/\KXP o.hp) (h:sx Try.prog Y0 n0 c120 ⟨YN 0 args,hp0,n0,38,[]⟩ (Wd r120 fun o=>∃ o',Zs o'/\Ws n0 o o')) (hA:Nat.ble args.length 38=true:=by rfl):CtM Try.prog 120 hp0 n0 args Zs:=Zr Try.func120 rfl b120 Ztv ZsR n120 (Nat.le_of_ble_eq_true hA) hh hx h
def c86:SC:=(sr1 [
 o1 2 (.mv (.c (.slice none 0 0)))]
 (.seq (sr1 [
 m1 3 0,
 o1 4 (.isn (.t 3))]
 (.cond (.t 4)
 (sr1 [
  o1 2 (.mv (.c (.slice none 0 0)))]
  .ret)
 .skip))
 (sr1 [
 o1 5 (.bsl 8 50 []),
 m1 6 0,
 o1 7 (.cln 8 64 50 (.t 5) (.t 6)),
 m1 2 7]
 .ret)))
def r86:List RV:=[.tmp 2]
theorem n86:Try.f86.ntmps=8:=by kernel_rfl
theorem b86:ZW Try.prog 86=true:=by kernel_rfl
theorem Zxw:Yx Try.prog c86 ((Try.f86.body).getD .skip)=true:=by kernel_rfl
theorem ZwW:YQ Try.prog r86 Try.f86.results.toList=true:=by kernel_rfl
theorem m86 {n0:Nat} {hp0:List (Nat × HB)} {args:List SV} {Zs:Ot->Prop} (hh:hpb n0 hp0) (hx:∀ o,Zs o->KX o.res/\KXP o.hp) (h:sx Try.prog Y0 n0 c86 ⟨YN 0 args,hp0,n0,8,[]⟩ (Wd r86 fun o=>∃ o',Zs o'/\Ws n0 o o')) (hA:Nat.ble args.length 8=true:=by rfl):CtM Try.prog 86 hp0 n0 args Zs:=Zr Try.func86 rfl b86 Zxw ZwW n86 (Nat.le_of_ble_eq_true hA) hh hx h
def c82:SC:=(sr1 [
 o1 5 (.mv (cn 0))]
 (.seq (.regd [0,1,2,3,4,5,6,7,8] [
 .op (o1 6 (lf 1 1)),
 .op (o1 7 (lf 2 1)),
 .op (m1 8 0),
 .op (p1 9 (.ixs (.t 7) (.t 8) 1) [1,2]),
 .op (p1 10 (lf 9 1) [3]),
 .op (p1 11 (.bin .mul (.t 6) (.t 10)) [0,4]),
 .op (o1 12 (lf 3 1)),
 .op (p1 13 (.div .rem (.t 11) (.t 12)) [5,6]),
 .op (p1 5 (.mv (.t 13)) [0,1,2,3,4,5,6,7])] 0 0 [
])
 .ret))
def r82:List RV:=[.tmp 5]
theorem t82:Qt1 Try.prog 82 c82 r82 14:=X4 Try.func82 rfl (by kernel_rfl) (by kernel_rfl) (by kernel_rfl) (by kernel_rfl)
def c67:SC:=(sr1 [
 o1 3 (.box (.t 1) 0 140),
 o1 4 (.mv (.c (.slice none 0 0)))]
 (sr1 [
 m1 5 0,
 o1 6 (.callm 86 [.t 5]),
 m1 0 6]
 (.gh (sr1 [
 m1 7 0,
 o1 8 (.mkf 88 [.t 3]),
 o1 9 (.callm 87 [.t 7,.t 8])]
 (.gh (sr1 [
 m1 10 0,
 m1 4 10]
 .ret))))))
def r67:List RV:=[.tmp 4]
theorem t67:Qt1 Try.prog 67 c67 r67 11:=X4 Try.func67 rfl (by kernel_rfl) (by kernel_rfl) (by kernel_rfl) (by kernel_rfl)
def c47:SC:=(sr1 [
 o1 2 (.box (.t 0) 0 24),
 o1 4 (.mv (.c (.slice none 0 0))),
 o1 5 (.mv (cn 0))]
 (.seq (sr1 [
 o1 13 (lt 2 4),
 o1 14 (.call 20 [.t 13]),
 m1 6 14]
 (sr1 [
 m1 15 6,
 o1 16 (.bin .neq (.t 15) (cn 0))]
 (.cond (.t 16)
 (sr1 [
  m1 17 6,
  o1 4 (.mv (.c (.slice none 0 0))),
  m1 5 17]
  .ret)
 .skip)))
 (.seq (sr1 [
 m1 18 1,
 o1 19 (.len (.t 18)),
 o1 20 (.bin .gtr (.t 19) (cn 100))]
 (.cond (.t 20)
 (sr1 [
  o1 4 (.mv (.c (.slice none 0 0))),
  o1 5 (.mv (cn 4))]
  .ret)
 .skip))
 (.seq (sr1 [
 m1 21 1,
 o1 22 (.mkf 65 [.t 2]),
 o1 23 (.call 64 [.t 21,.t 22])]
 (.cond (.t 23)
 (sr1 [
  o1 4 (.mv (.c (.slice none 0 0))),
  o1 5 (.mv (cn 81))]
  .ret)
 .skip))
 (sr1 [
 o1 24 (.raw (Go.Op.makeMap 114 Option.none) 114),
 m1 7 24]
 (sr1 [
 o1 8 (.mv (.c (.slice none 0 0)))]
 (.seq (sr1 [
 m1 25 1,
 o1 26 (.len (.t 25)),
 o1 27 (.mv (cn 0))]
 (.block 0 (.loop (sr1 [
  o1 28 (.bin .lss (.t 27) (.t 26))]
  (.seq (.cond (.t 28)
  .skip
  (.exit 0))
  (.seq (.block 1 (sr1 [
   o1 29 (.ixs (.t 25) (.t 27) 8),
   o1 30 (lt 29 8),
   o1 10 (.alloc zv0 50),
   ⟨none,.st (.t 10) (.t 30) 8,none,[]⟩]
   (sr1 [
   m1 32 7,
   o1 33 (ao 10 0),
   o1 34 (lf 33 1),
   o1 35 (.raw (Go.Op.lookup 114 (Go.Operand.tmp 32) (Go.Operand.tmp 34) Bool.true) 115),
   m1 31 35,
   o1 36 (.ext (.t 31) 0),
   o1 37 (.ext (.t 31) 1),
   o1 11 (.alloc zv0 50),
   ⟨none,.st (.t 11) (.t 36) 8,none,[]⟩,
   m1 12 37]
   (.seq (sr1 [
   m1 38 12,
   m1 39 38,
   g1 40 39 true (lt 11 8),
   g1 41 39 true (lt 10 8),
   g1 42 39 true (.eqs true true [1,1,1,1,1,1,1,0] (.t 40) (.t 41)),
   o1 43 (.pick (.t 39) (.t 42) (.c (.bool false)))]
   (.cond (.t 43)
   (sr1 [
    o1 4 (.mv (.c (.slice none 0 0))),
    o1 5 (.mv (cn 82))]
    .ret)
   .skip))
   (sr1 [
   m1 44 7,
   o1 45 (ao 10 0),
   o1 46 (lf 45 1),
   o1 47 (lt 10 8),
   ⟨none,.raw (Go.Op.mapUpdate 114 (Go.Operand.tmp 44) (Go.Operand.tmp 46) (Go.Operand.tmp 47)) 0,none,[]⟩]
   (sr1 [
   m1 48 12,
   o1 49 (.un .not (.t 48)),
   m1 50 49,
   g1 51 50 true (ao 10 1),
   g1 52 50 true (lf 51 1),
   g1 53 50 true (ao 2 3),
   g1 54 50 true (lf 53 1),
   g1 55 50 true (.bin .leq (.t 52) (.t 54)),
   o1 56 (.pick (.t 50) (.t 55) (.c (.bool false)))]
   (.cond (.t 56)
   (.reg [
    m1 57 8,
    o1 58 (lt 10 8),
    o1 59 (.bsl 8 50 [.t 58]),
    o1 60 (.appm 8 64 50 (.t 57) (.t 59)),
    m1 8 60])
   .skip)))))))
  (.reg [
  o1 61 (.bin .add (.t 27) (cn 1)),
  m1 27 61])))))))
 (.gh (sr1 [
 m1 62 8,
 o1 63 (.bsl 1 117 [.f 68,.f 69]),
 o1 64 (.call 67 [.t 62,.t 63]),
 m1 4 64,
 o1 5 (.mv (cn 0))]
 .ret)))))))))
def r47:List RV:=[.tmp 4,.tmp 5]
theorem n47:Try.f47.ntmps=65:=by kernel_rfl
theorem b47:ZW Try.prog 47=true:=by kernel_rfl
theorem Zzm:Yx Try.prog c47 ((Try.f47.body).getD .skip)=true:=by kernel_rfl
theorem Zyu:YQ Try.prog r47 Try.f47.results.toList=true:=by kernel_rfl
def c49:SC:=(sr1 [
 o1 1 (.box (.t 0) 0 24),
 o1 2 (.mv (.c (.pointer none)))]
 (sr1 [
 o1 3 (lt 1 4),
 o1 4 (.raw (Go.Op.makeMap 99 Option.none) 99),
 o1 5 (.raw (Go.Op.makeMap 71 Option.none) 71),
 o1 6 (.raw (Go.Op.makeMap 71 Option.none) 71),
 o1 7 (.raw (Go.Op.makeMap 100 Option.none) 100),
 o1 8 (.raw (Go.Op.makeMap 101 Option.none) 101),
 o1 9 (.build [.slice none 0 0,.int .i64 0,.int .i64 0,.int .i64 0,.map none,.map none,.map none,.map none,.map none,.int .i64 0] [(0,4,.t 3),(4,1,.t 4),(5,1,.t 5),(6,1,.t 6),(7,1,.t 7),(8,1,.t 8)]),
 o1 10 (.box (.t 9) 0 103),
 m1 2 10]
 .ret))
def r49:List RV:=[.tmp 2]
theorem n49:Try.f49.ntmps=11:=by kernel_rfl
theorem b49:ZW Try.prog 49=true:=by kernel_rfl
theorem Zxg:Yx Try.prog c49 ((Try.f49.body).getD .skip)=true:=by kernel_rfl
theorem Zzj:YQ Try.prog r49 Try.f49.results.toList=true:=by kernel_rfl
theorem m49 {n0:Nat} {hp0:List (Nat × HB)} {args:List SV} {Zs:Ot->Prop} (hh:hpb n0 hp0) (hx:∀ o,Zs o->KX o.res/\KXP o.hp) (h:sx Try.prog Y0 n0 c49 ⟨YN 0 args,hp0,n0,11,[]⟩ (Wd r49 fun o=>∃ o',Zs o'/\Ws n0 o o')) (hA:Nat.ble args.length 11=true:=by rfl):CtM Try.prog 49 hp0 n0 args Zs:=Zr Try.func49 rfl b49 Zxg Zzj n49 (Nat.le_of_ble_eq_true hA) hh hx h
def c71:SC:=(sr1 [
 o1 7 (.callm 72 []),
 m1 4 7]
 (sr1 [
 o1 8 (lf 1 1),
 o1 9 (.len (.t 8)),
 o1 10 (.mv (cn 0))]
 (.block 0 (.loop (sr1 [
  o1 11 (.bin .lss (.t 10) (.t 9))]
  (.seq (.cond (.t 11)
  .skip
  (.exit 0))
  (.seq (.block 1 (sr1 [
   o1 12 (.ixs (.t 8) (.t 10) 8),
   o1 13 (lt 12 8),
   o1 6 (.alloc zv0 50),
   ⟨none,.st (.t 6) (.t 13) 8,none,[]⟩]
   (sr1 [
   m1 14 0,
   o1 15 (lf 2 1),
   o1 16 (lt 6 8),
   m1 17 4,
   o1 18 (ao 6 2),
   o1 19 (lf 18 1),
   o1 20 (.raw (Go.Op.lookup 120 (Go.Operand.tmp 17) (Go.Operand.tmp 19) Bool.false) 126),
   o1 21 (.fld (.t 20) 2 1 false),
   o1 22 (.callm 73 [.t 15,.t 16,.t 21]),
   o1 23 (.calvm (.t 14) [.t 22]),
   o1 24 (.un .not (.t 23))]
   (.cond (.t 24)
   .ret
   .skip))))
  (.reg [
  o1 25 (.bin .add (.t 10) (cn 1)),
  m1 10 25]))))))))
def r71:List RV:=[]
theorem n71:Try.f71.ntmps=26:=by kernel_rfl
theorem b71:ZW Try.prog 71=true:=by kernel_rfl
theorem Zx4:Yx Try.prog c71 ((Try.f71.body).getD .skip)=true:=by kernel_rfl
theorem Zxj:YQ Try.prog r71 Try.f71.results.toList=true:=by kernel_rfl
theorem y71 {Y:Hd} {n0:Nat} {hp0:List (Nat × HB)} {args:List SV} {Zs:Ot->Prop} (h:sx Try.prog Y n0 c71 ⟨YN 0 args,hp0,n0,26,[]⟩ (Wd r71 Zs)) (hA:Nat.ble args.length 26=true:=by rfl):CtY Try.prog Y 71 hp0 n0 args Zs:=Zcz Try.func71 rfl Zx4 Zxj n71 (Nat.le_of_ble_eq_true hA) h
def c50:SC:=(sr1 [
 o1 2 (.box (.t 0) 0 87),
 o1 3 (.box (.t 1) 0 38),
 o1 4 (.mv (.c (.nilFunc)))]
 (sr1 [
 o1 5 (.mkf 71 [.t 3,.t 2]),
 m1 4 5]
 .ret))
def r50:List RV:=[.tmp 4]
theorem n50:Try.f50.ntmps=6:=by kernel_rfl
theorem b50:ZW Try.prog 50=true:=by kernel_rfl
theorem Zxp:Yx Try.prog c50 ((Try.f50.body).getD .skip)=true:=by kernel_rfl
theorem Zxc:YQ Try.prog r50 Try.f50.results.toList=true:=by kernel_rfl
theorem m50 {n0:Nat} {hp0:List (Nat × HB)} {args:List SV} {Zs:Ot->Prop} (hh:hpb n0 hp0) (hx:∀ o,Zs o->KX o.res/\KXP o.hp) (h:sx Try.prog Y0 n0 c50 ⟨YN 0 args,hp0,n0,6,[]⟩ (Wd r50 fun o=>∃ o',Zs o'/\Ws n0 o o')) (hA:Nat.ble args.length 6=true:=by rfl):CtM Try.prog 50 hp0 n0 args Zs:=Zr Try.func50 rfl b50 Zxp Zxc n50 (Nat.le_of_ble_eq_true hA) hh hx h
def c72:SC:=(sr1 [
 o1 0 (.mv (.c (.map none)))]
 (sr1 [
 o1 1 (.mv (.f 90))]
 (sr1 [
 o1 2 (.mv (.f 91))]
 (sr1 [
 o1 3 (.mv (.f 92))]
 (sr1 [
 o1 4 (.mv (.f 93))]
 (sr1 [
 o1 5 (.mv (.f 94))]
 (sr1 [
 o1 6 (.raw (Go.Op.makeMap 120 Option.none) 120),
 m1 7 2,
 m1 8 1,
 o1 9 (.build [.nilFunc,.nilFunc,.nilFunc] [(0,1,.t 7),(1,1,.t 8),(2,1,.f 95)]),
 ⟨none,.raw (Go.Op.insert 120 (Go.Operand.tmp 6) (Go.Operand.const (Go.Value.int Go.IntKind.u8 1)) (Go.Operand.tmp 9)) 0,none,[]⟩,
 m1 10 2,
 m1 11 1,
 o1 12 (.build [.nilFunc,.nilFunc,.nilFunc] [(0,1,.t 10),(1,1,.t 11),(2,1,.f 96)]),
 ⟨none,.raw (Go.Op.insert 120 (Go.Operand.tmp 6) (Go.Operand.const (Go.Value.int Go.IntKind.u8 2)) (Go.Operand.tmp 12)) 0,none,[]⟩,
 o1 13 (.build [.nilFunc,.nilFunc,.nilFunc] [(0,1,.f 97),(1,1,.f 98),(2,1,.f 99)]),
 ⟨none,.raw (Go.Op.insert 120 (Go.Operand.tmp 6) (Go.Operand.const (Go.Value.int Go.IntKind.u8 3)) (Go.Operand.tmp 13)) 0,none,[]⟩,
 m1 14 3,
 m1 15 1,
 o1 16 (.build [.nilFunc,.nilFunc,.nilFunc] [(0,1,.t 14),(1,1,.t 15),(2,1,.f 100)]),
 ⟨none,.raw (Go.Op.insert 120 (Go.Operand.tmp 6) (Go.Operand.const (Go.Value.int Go.IntKind.u8 4)) (Go.Operand.tmp 16)) 0,none,[]⟩,
 m1 17 3,
 m1 18 1,
 o1 19 (.build [.nilFunc,.nilFunc,.nilFunc] [(0,1,.t 17),(1,1,.t 18),(2,1,.f 101)]),
 ⟨none,.raw (Go.Op.insert 120 (Go.Operand.tmp 6) (Go.Operand.const (Go.Value.int Go.IntKind.u8 5)) (Go.Operand.tmp 19)) 0,none,[]⟩,
 m1 20 1,
 o1 21 (.build [.nilFunc,.nilFunc,.nilFunc] [(0,1,.f 102),(1,1,.t 20),(2,1,.f 103)]),
 ⟨none,.raw (Go.Op.insert 120 (Go.Operand.tmp 6) (Go.Operand.const (Go.Value.int Go.IntKind.u8 6)) (Go.Operand.tmp 21)) 0,none,[]⟩,
 m1 22 4,
 m1 23 5,
 o1 24 (.build [.nilFunc,.nilFunc,.nilFunc] [(0,1,.t 22),(1,1,.t 23),(2,1,.f 104)]),
 ⟨none,.raw (Go.Op.insert 120 (Go.Operand.tmp 6) (Go.Operand.const (Go.Value.int Go.IntKind.u8 7)) (Go.Operand.tmp 24)) 0,none,[]⟩,
 m1 25 4,
 m1 26 5,
 o1 27 (.build [.nilFunc,.nilFunc,.nilFunc] [(0,1,.t 25),(1,1,.t 26),(2,1,.f 105)]),
 ⟨none,.raw (Go.Op.insert 120 (Go.Operand.tmp 6) (Go.Operand.const (Go.Value.int Go.IntKind.u8 8)) (Go.Operand.tmp 27)) 0,none,[]⟩,
 m1 28 6,
 m1 0 28]
 .ret)))))))
def r72:List RV:=[.tmp 0]
theorem n72:Try.f72.ntmps=29:=by kernel_rfl
theorem b72:ZW Try.prog 72=true:=by kernel_rfl
theorem ZyG:Yx Try.prog c72 ((Try.f72.body).getD .skip)=true:=by kernel_rfl
theorem Zxb:YQ Try.prog r72 Try.f72.results.toList=true:=by kernel_rfl
theorem m72 {n0:Nat} {hp0:List (Nat × HB)} {args:List SV} {Zs:Ot->Prop} (hh:hpb n0 hp0) (hx:∀ o,Zs o->KX o.res/\KXP o.hp) (h:sx Try.prog Y0 n0 c72 ⟨YN 0 args,hp0,n0,29,[]⟩ (Wd r72 fun o=>∃ o',Zs o'/\Ws n0 o o')) (hA:Nat.ble args.length 29=true:=by rfl):CtM Try.prog 72 hp0 n0 args Zs:=Zr Try.func72 rfl b72 ZyG Zxb n72 (Nat.le_of_ble_eq_true hA) hh hx h
def c95:SC:=(sr1 [
 o1 3 (.box (.t 1) 0 50)]
 (.regd [0,1,2,3,4,5,6,7,8,9] [
 .op (m1 4 0),
 .op (p1 5 (.nilc (.t 4)) [0]),
 .op (p1 6 (ao 5 9) [1]),
 .op (p1 7 (lf 6 1) [2]),
 .op (o1 8 (ao 3 6)),
 .op (p1 9 (lf 8 1) [4]),
 .op (p1 10 (.bin .add (.t 7) (.t 9)) [3,5]),
 .op (p1 11 (.nilc (.t 4)) [0,1,2,3,4,5,6]),
 .op (p1 12 (ao 11 9) [0,1,2,3,4,5,6,7])] 0 1 [
 ⟨none,.st (.t 12) (.t 10) 1,none,[0,1,2,3,4,5,6,8]⟩]))
def r95:List RV:=[]
theorem n95:Try.f95.ntmps=13:=by kernel_rfl
theorem b95:ZW Try.prog 95=true:=by kernel_rfl
theorem Zyp:Yx Try.prog c95 ((Try.f95.body).getD .skip)=true:=by kernel_rfl
theorem ZyF:YQ Try.prog r95 Try.f95.results.toList=true:=by kernel_rfl
theorem m95 {n0:Nat} {hp0:List (Nat × HB)} {args:List SV} {Zs:Ot->Prop} (hh:hpb n0 hp0) (hx:∀ o,Zs o->KX o.res/\KXP o.hp) (h:sx Try.prog Y0 n0 c95 ⟨YN 0 args,hp0,n0,13,[]⟩ (Wd r95 fun o=>∃ o',Zs o'/\Ws n0 o o')) (hA:Nat.ble args.length 13=true:=by rfl):CtM Try.prog 95 hp0 n0 args Zs:=Zr Try.func95 rfl b95 Zyp ZyF n95 (Nat.le_of_ble_eq_true hA) hh hx h
def c96:SC:=(sr1 [
 o1 3 (.box (.t 1) 0 50)]
 (.regd [0,1,2,3,4,5,6,7,8,9] [
 .op (m1 4 0),
 .op (p1 5 (.nilc (.t 4)) [0]),
 .op (p1 6 (ao 5 9) [1]),
 .op (p1 7 (lf 6 1) [2]),
 .op (o1 8 (ao 3 6)),
 .op (p1 9 (lf 8 1) [4]),
 .op (p1 10 (.bin .sub (.t 7) (.t 9)) [3,5]),
 .op (p1 11 (.nilc (.t 4)) [0,1,2,3,4,5,6]),
 .op (p1 12 (ao 11 9) [0,1,2,3,4,5,6,7])] 0 1 [
 ⟨none,.st (.t 12) (.t 10) 1,none,[0,1,2,3,4,5,6,8]⟩]))
def r96:List RV:=[]
theorem n96:Try.f96.ntmps=13:=by kernel_rfl
theorem b96:ZW Try.prog 96=true:=by kernel_rfl
theorem ZxX:Yx Try.prog c96 ((Try.f96.body).getD .skip)=true:=by kernel_rfl
theorem Zx2:YQ Try.prog r96 Try.f96.results.toList=true:=by kernel_rfl
theorem m96 {n0:Nat} {hp0:List (Nat × HB)} {args:List SV} {Zs:Ot->Prop} (hh:hpb n0 hp0) (hx:∀ o,Zs o->KX o.res/\KXP o.hp) (h:sx Try.prog Y0 n0 c96 ⟨YN 0 args,hp0,n0,13,[]⟩ (Wd r96 fun o=>∃ o',Zs o'/\Ws n0 o o')) (hA:Nat.ble args.length 13=true:=by rfl):CtM Try.prog 96 hp0 n0 args Zs:=Zr Try.func96 rfl b96 ZxX Zx2 n96 (Nat.le_of_ble_eq_true hA) hh hx h
def c99:SC:=(sr1 [
 o1 3 (.box (.t 1) 0 50)]
 (.seq (.regd [0,1,2,3,4,5,6,7,8,9,10,11,12] [
 .op (m1 7 0),
 .op (p1 8 (.nilc (.t 7)) [0]),
 .op (p1 9 (ao 8 4) [1]),
 .op (p1 10 (lf 9 1) [2]),
 .op (o1 11 (ao 3 5)),
 .op (p1 12 (lf 11 1) [4]),
 .op (p1 13 (.rv (Go.Op.lookup 99 (Go.Operand.tmp 10) (Go.Operand.tmp 12) Bool.true) [.t 10,.t 12]) [3,5]),
 .op (p1 6 (.mv (.t 13)) [6]),
 .op (p1 14 (.ext (.t 6) 0) [7]),
 .op (p1 15 (.ext (.t 6) 1) [7])] 1 2 [
 o1 4 (.alloc [.int .i64 0,.int .i64 0] 150),
 ⟨none,.st (.t 4) (.t 14) 2,none,[0,1,2,3,4,5,6,7,8,10]⟩,
 ⟨some 5,.mv (.t 15),none,[0,1,2,3,4,5,6,7,8,9,10,11]⟩])
 (sr1 [
 m1 16 5,
 o1 17 (.callm 111 [.t 16,.c (.int .u8 1)])]
 (.seq (.regd [0,1,2,3,4,5,6,7] [
 .op (m1 18 0),
 .op (p1 19 (.nilc (.t 18)) [0]),
 .op (p1 20 (ao 19 5) [1]),
 .op (p1 21 (lf 20 1) [2]),
 .op (o1 22 (ao 3 5)),
 .op (p1 23 (lf 22 1) [4])] 0 0 [
 ⟨some 24,.raw (Go.Op.lookup 71 (Go.Operand.tmp 21) (Go.Operand.tmp 23) Bool.false) 4,none,[3,5]⟩,
 ⟨some 25,.callm 111 [.t 24,.c (.int .u8 2)],none,[6]⟩])
 (.regd [0,1,2,3,4,5,6,7,8,9,10,11] [
 .op (m1 26 0),
 .op (p1 27 (.nilc (.t 26)) [0]),
 .op (p1 28 (ao 27 4) [1]),
 .op (p1 29 (lf 28 1) [2]),
 .op (o1 30 (ao 3 5)),
 .op (p1 31 (lf 30 1) [4]),
 .op (o1 32 (ao 3 3)),
 .op (p1 33 (lf 32 1) [6]),
 .op (o1 34 (ao 3 1)),
 .op (p1 35 (lf 34 1) [8]),
 .op (p1 36 (.build [.int .i64 0,.int .i64 0] [(0,1,.t 33),(1,1,.t 35)]) [7,9])] 0 0 [
 ⟨none,.raw (Go.Op.mapUpdate 99 (Go.Operand.tmp 29) (Go.Operand.tmp 31) (Go.Operand.tmp 36)) 0,none,[0,1,2,3,4,5,6,7,8,9,10]⟩])))))
def r99:List RV:=[]
theorem n99:Try.f99.ntmps=37:=by kernel_rfl
theorem b99:ZW Try.prog 99=true:=by kernel_rfl
theorem Zyz:Yx Try.prog c99 ((Try.f99.body).getD .skip)=true:=by kernel_rfl
theorem ZxL:YQ Try.prog r99 Try.f99.results.toList=true:=by kernel_rfl
theorem m99 {n0:Nat} {hp0:List (Nat × HB)} {args:List SV} {Zs:Ot->Prop} (hh:hpb n0 hp0) (hx:∀ o,Zs o->KX o.res/\KXP o.hp) (h:sx Try.prog Y0 n0 c99 ⟨YN 0 args,hp0,n0,37,[]⟩ (Wd r99 fun o=>∃ o',Zs o'/\Ws n0 o o')) (hA:Nat.ble args.length 37=true:=by rfl):CtM Try.prog 99 hp0 n0 args Zs:=Zr Try.func99 rfl b99 Zyz ZxL n99 (Nat.le_of_ble_eq_true hA) hh hx h
def Zz1:SC:=(sr1 [
 o1 3 (.box (.t 1) 0 50)]
 (.reg [
 m1 4 0,
 o1 5 (ao 3 5),
 o1 6 (lf 5 1),
 o1 7 (ao 3 1),
 o1 8 (lf 7 1),
 o1 9 (.callm 107 [.t 4,.t 6,.t 8])]))
def ZzM:List RV:=[]
theorem n100:Try.f100.ntmps=10:=by kernel_rfl
theorem b100:ZW Try.prog 100=true:=by kernel_rfl
theorem ZtQ:Yx Try.prog Zz1 ((Try.f100.body).getD .skip)=true:=by kernel_rfl
theorem Zt6:YQ Try.prog ZzM Try.f100.results.toList=true:=by kernel_rfl
theorem m100 {n0:Nat} {hp0:List (Nat × HB)} {args:List SV} {Zs:Ot->Prop} (hh:hpb n0 hp0) (hx:∀ o,Zs o->KX o.res/\KXP o.hp) (h:sx Try.prog Y0 n0 Zz1 ⟨YN 0 args,hp0,n0,10,[]⟩ (Wd ZzM fun o=>∃ o',Zs o'/\Ws n0 o o')) (hA:Nat.ble args.length 10=true:=by rfl):CtM Try.prog 100 hp0 n0 args Zs:=Zr Try.func100 rfl b100 ZtQ Zt6 n100 (Nat.le_of_ble_eq_true hA) hh hx h
def Zzn:SC:=(sr1 [
 o1 3 (.box (.t 1) 0 50)]
 (.seq (.regd [0,1,2,3,4,5,6,7] [
 .op (m1 4 0),
 .op (p1 5 (.nilc (.t 4)) [0]),
 .op (p1 6 (ao 5 5) [1]),
 .op (p1 7 (lf 6 1) [2]),
 .op (o1 8 (ao 3 5)),
 .op (p1 9 (lf 8 1) [4])] 0 0 [
 ⟨some 10,.raw (Go.Op.lookup 71 (Go.Operand.tmp 7) (Go.Operand.tmp 9) Bool.false) 4,none,[3,5]⟩,
 ⟨some 11,.callm 111 [.t 10,.c (.int .u8 2)],none,[6]⟩])
 (sr1 [
 m1 12 0,
 o1 13 (ao 3 5),
 o1 14 (lf 13 1),
 o1 15 (ao 3 1),
 o1 16 (lf 15 1),
 o1 17 (.callm 107 [.t 12,.t 14,.t 16])]
 (.regd [0,1,2,3,4,5,6] [
 .op (m1 18 0),
 .op (p1 19 (.nilc (.t 18)) [0]),
 .op (p1 20 (ao 19 5) [1]),
 .op (p1 21 (lf 20 1) [2]),
 .op (o1 22 (ao 3 5)),
 .op (p1 23 (lf 22 1) [4])] 0 0 [
 ⟨none,.raw (Go.Op.mapUpdate 71 (Go.Operand.tmp 21) (Go.Operand.tmp 23) (Go.Operand.const (Go.Value.bool Bool.true))) 0,none,[0,1,2,3,4,5]⟩]))))
def ZyB:List RV:=[]
theorem n101:Try.f101.ntmps=24:=by kernel_rfl
theorem b101:ZW Try.prog 101=true:=by kernel_rfl
theorem ZrO:Yx Try.prog Zzn ((Try.f101.body).getD .skip)=true:=by kernel_rfl
theorem Zs3:YQ Try.prog ZyB Try.f101.results.toList=true:=by kernel_rfl
theorem m101 {n0:Nat} {hp0:List (Nat × HB)} {args:List SV} {Zs:Ot->Prop} (hh:hpb n0 hp0) (hx:∀ o,Zs o->KX o.res/\KXP o.hp) (h:sx Try.prog Y0 n0 Zzn ⟨YN 0 args,hp0,n0,24,[]⟩ (Wd ZyB fun o=>∃ o',Zs o'/\Ws n0 o o')) (hA:Nat.ble args.length 24=true:=by rfl):CtM Try.prog 101 hp0 n0 args Zs:=Zr Try.func101 rfl b101 ZrO Zs3 n101 (Nat.le_of_ble_eq_true hA) hh hx h
def Zzr:SC:=(sr1 [
 o1 3 (.box (.t 1) 0 50)]
 (.seq (.regd [0,1,2,3,4,5,6,7] [
 .op (m1 6 0),
 .op (p1 7 (.nilc (.t 6)) [0]),
 .op (p1 8 (ao 7 6) [1]),
 .op (p1 9 (lf 8 1) [2]),
 .op (o1 10 (ao 3 4)),
 .op (p1 11 (lf 10 1) [4])] 0 0 [
 ⟨some 12,.raw (Go.Op.lookup 71 (Go.Operand.tmp 9) (Go.Operand.tmp 11) Bool.false) 4,none,[3,5]⟩,
 ⟨some 13,.callm 111 [.t 12,.c (.int .u8 4)],none,[6]⟩])
 (sr1 [
 m1 14 0,
 o1 15 (ao 3 5),
 o1 16 (lf 15 1),
 o1 17 (.callm 112 [.t 14,.t 16]),
 o1 4 (.alloc [.int .i64 0,.int .i64 0] 150),
 ⟨none,.st (.t 4) (.t 17) 2,none,[]⟩]
 (.seq (.regd [0,1,2,3,4,5,6,7,8,9] [
 .op (o1 18 (ao 3 6)),
 .op (p1 19 (lf 18 1) [0]),
 .op (m1 20 0),
 .op (p1 21 (.nilc (.t 20)) [2]),
 .op (p1 22 (ao 21 0) [3]),
 .op (p1 23 (ao 22 1) [4]),
 .op (p1 24 (lf 23 1) [5]),
 .op (p1 25 (.bin .mul (.t 19) (.t 24)) [1,6]),
 .op (p1 26 (.div .quo (.t 25) (cn 1000)) [7]),
 .op (p1 5 (.mv (.t 26)) [0,1,2,3,4,5,6,7,8])] 0 0 [
])
 (.seq (.regd [0,1,2,3,4,5,6,7,8,9] [
 .op (m1 27 0),
 .op (p1 28 (.nilc (.t 27)) [0]),
 .op (p1 29 (ao 28 8) [1]),
 .op (p1 30 (lf 29 1) [2]),
 .op (o1 31 (ao 4 0)),
 .op (p1 32 (lf 31 1) [4]),
 .op (p1 33 (.rv (Go.Op.lookup 101 (Go.Operand.tmp 30) (Go.Operand.tmp 32) Bool.false) [.t 30,.t 32]) [3,5]),
 .op (m1 34 5),
 .op (p1 35 (.bin .add (.t 33) (.t 34)) [6,7])] 0 0 [
 ⟨none,.raw (Go.Op.mapUpdate 101 (Go.Operand.tmp 30) (Go.Operand.tmp 32) (Go.Operand.tmp 35)) 0,none,[0,1,2,3,4,5,6,7,8]⟩])
 (.seq (.regd [0,1,2,3,4,5,6,7,8,9,10,11] [
 .op (m1 36 0),
 .op (p1 37 (.nilc (.t 36)) [0]),
 .op (p1 38 (ao 37 9) [1]),
 .op (p1 39 (lf 38 1) [2]),
 .op (o1 40 (ao 3 6)),
 .op (p1 41 (lf 40 1) [4]),
 .op (m1 42 5),
 .op (p1 43 (.bin .sub (.t 41) (.t 42)) [5,6]),
 .op (p1 44 (.bin .add (.t 39) (.t 43)) [3,7]),
 .op (p1 45 (.nilc (.t 36)) [0,1,2,3,4,5,6,7,8]),
 .op (p1 46 (ao 45 9) [0,1,2,3,4,5,6,7,8,9])] 0 1 [
 ⟨none,.st (.t 46) (.t 44) 1,none,[0,1,2,3,4,5,6,7,8,10]⟩])
 (.regd [0,1,2,3,4,5,6] [
 .op (m1 47 0),
 .op (p1 48 (.nilc (.t 47)) [0]),
 .op (p1 49 (ao 48 6) [1]),
 .op (p1 50 (lf 49 1) [2]),
 .op (o1 51 (ao 3 4)),
 .op (p1 52 (lf 51 1) [4])] 0 0 [
 ⟨none,.raw (Go.Op.mapUpdate 71 (Go.Operand.tmp 50) (Go.Operand.tmp 52) (Go.Operand.const (Go.Value.bool Bool.true))) 0,none,[0,1,2,3,4,5]⟩])))))))
def ZyR:List RV:=[]
theorem n103:Try.f103.ntmps=53:=by kernel_rfl
theorem b103:ZW Try.prog 103=true:=by kernel_rfl
theorem ZsM:Yx Try.prog Zzr ((Try.f103.body).getD .skip)=true:=by kernel_rfl
theorem Zst:YQ Try.prog ZyR Try.f103.results.toList=true:=by kernel_rfl
theorem m103 {n0:Nat} {hp0:List (Nat × HB)} {args:List SV} {Zs:Ot->Prop} (hh:hpb n0 hp0) (hx:∀ o,Zs o->KX o.res/\KXP o.hp) (h:sx Try.prog Y0 n0 Zzr ⟨YN 0 args,hp0,n0,53,[]⟩ (Wd ZyR fun o=>∃ o',Zs o'/\Ws n0 o o')) (hA:Nat.ble args.length 53=true:=by rfl):CtM Try.prog 103 hp0 n0 args Zs:=Zr Try.func103 rfl b103 ZsM Zst n103 (Nat.le_of_ble_eq_true hA) hh hx h
def c104:SC:=(sr1 [
 o1 3 (.box (.t 1) 0 50)]
 (.gh (.regd [0,1,2,3,4,5,6,7,8,10,11,9,12,13,14,15] [
 .op (m1 4 0),
 .op (p1 5 (.nilc (.t 4)) [0]),
 .op (p1 6 (ao 5 7) [1]),
 .op (p1 7 (lf 6 1) [2]),
 .op (o1 8 (ao 3 3)),
 .op (p1 9 (lf 8 1) [4]),
 .op (o1 10 (ao 3 4)),
 .op (p1 11 (lf 10 1) [6]),
 .op (p1 12 (.build [.int .i64 0,.int .i64 0] [(0,1,.t 9),(1,1,.t 11)]) [5,7]),
 .op (o1 14 (ao 3 6)),
 .op (p1 15 (lf 14 1) [10]),
 .op (p1 13 (.rv (Go.Op.lookup 100 (Go.Operand.tmp 7) (Go.Operand.tmp 12) Bool.false) [.t 7,.t 12]) [3,8]),
 .op (p1 16 (.bin .add (.t 13) (.t 15)) [9,11])] 0 2 [
 ⟨some 17,.rb (Go.Op.mapEntry 100 (Go.Operand.tmp 7) (Go.Operand.tmp 12)) (.t 7) [.t 12],none,[0,1,2,3,4,5,6,7,8,10,11]⟩,
 ⟨some 18,.ext (.t 17) 1,none,[13]⟩,
 ⟨none,.raw (Go.Op.entryStore 100 (Go.Operand.tmp 7) (Go.Operand.tmp 18) (Go.Operand.tmp 16)) 0,none,[0,1,2,3,4,5,6,7,8,9,10,11,12,13,14]⟩])))
def r104:List RV:=[]
theorem n104:Try.f104.ntmps=19:=by kernel_rfl
theorem b104:ZW Try.prog 104=true:=by kernel_rfl
theorem ZrU:Yx Try.prog c104 ((Try.f104.body).getD .skip)=true:=by kernel_rfl
theorem ZuR:YQ Try.prog r104 Try.f104.results.toList=true:=by kernel_rfl
theorem m104 {n0:Nat} {hp0:List (Nat × HB)} {args:List SV} {Zs:Ot->Prop} (hh:hpb n0 hp0) (hx:∀ o,Zs o->KX o.res/\KXP o.hp) (h:sx Try.prog Y0 n0 c104 ⟨YN 0 args,hp0,n0,19,[]⟩ (Wd r104 fun o=>∃ o',Zs o'/\Ws n0 o o')) (hA:Nat.ble args.length 19=true:=by rfl):CtM Try.prog 104 hp0 n0 args Zs:=Zr Try.func104 rfl b104 ZrU ZuR n104 (Nat.le_of_ble_eq_true hA) hh hx h
def ZzQ:SC:=(sr1 [
 o1 3 (.box (.t 1) 0 50)]
 (sr1 [
 o1 5 (ao 3 3),
 o1 6 (lf 5 1),
 o1 7 (ao 3 4),
 o1 8 (lf 7 1),
 o1 9 (.build [.int .i64 0,.int .i64 0] [(0,1,.t 6),(1,1,.t 8)]),
 o1 4 (.alloc [.int .i64 0,.int .i64 0] 105),
 ⟨none,.st (.t 4) (.t 9) 2,none,[]⟩]
 (.seq (.regd [0,1,2,3,4,5,6,7,8,9] [
 .op (m1 10 0),
 .op (p1 11 (.nilc (.t 10)) [0]),
 .op (p1 12 (ao 11 7) [1]),
 .op (p1 13 (lf 12 1) [2]),
 .op (o1 14 (lt 4 2)),
 .op (p1 15 (.rv (Go.Op.lookup 100 (Go.Operand.tmp 13) (Go.Operand.tmp 14) Bool.false) [.t 13,.t 14]) [3,4]),
 .op (o1 16 (ao 3 6)),
 .op (p1 17 (lf 16 1) [6]),
 .op (p1 18 (.bin .lss (.t 15) (.t 17)) [5,7])] 0 0 [
 ⟨some 19,.callm 111 [.t 18,.c (.int .u8 5)],none,[8]⟩])
 (.gh (.regd [0,1,2,3,4,6,7,5,8,9,10,11] [
 .op (m1 20 0),
 .op (p1 21 (.nilc (.t 20)) [0]),
 .op (p1 22 (ao 21 7) [1]),
 .op (p1 23 (lf 22 1) [2]),
 .op (o1 24 (lt 4 2)),
 .op (o1 26 (ao 3 6)),
 .op (p1 27 (lf 26 1) [6]),
 .op (p1 25 (.rv (Go.Op.lookup 100 (Go.Operand.tmp 23) (Go.Operand.tmp 24) Bool.false) [.t 23,.t 24]) [3,4]),
 .op (p1 28 (.bin .sub (.t 25) (.t 27)) [5,7])] 0 2 [
 ⟨some 29,.rb (Go.Op.mapEntry 100 (Go.Operand.tmp 23) (Go.Operand.tmp 24)) (.t 23) [.t 24],none,[0,1,2,3,4,6,7]⟩,
 ⟨some 30,.ext (.t 29) 1,none,[9]⟩,
 ⟨none,.raw (Go.Op.entryStore 100 (Go.Operand.tmp 23) (Go.Operand.tmp 30) (Go.Operand.tmp 28)) 0,none,[0,1,2,3,4,5,6,7,8,9,10]⟩])))))
def ZzV:List RV:=[]
theorem n105:Try.f105.ntmps=31:=by kernel_rfl
theorem b105:ZW Try.prog 105=true:=by kernel_rfl
theorem Zsj:Yx Try.prog ZzQ ((Try.f105.body).getD .skip)=true:=by kernel_rfl
theorem Zvl:YQ Try.prog ZzV Try.f105.results.toList=true:=by kernel_rfl
theorem m105 {n0:Nat} {hp0:List (Nat × HB)} {args:List SV} {Zs:Ot->Prop} (hh:hpb n0 hp0) (hx:∀ o,Zs o->KX o.res/\KXP o.hp) (h:sx Try.prog Y0 n0 ZzQ ⟨YN 0 args,hp0,n0,31,[]⟩ (Wd ZzV fun o=>∃ o',Zs o'/\Ws n0 o o')) (hA:Nat.ble args.length 31=true:=by rfl):CtM Try.prog 105 hp0 n0 args Zs:=Zr Try.func105 rfl b105 Zsj Zvl n105 (Nat.le_of_ble_eq_true hA) hh hx h
def ZzZ:SC:=(sr1 [
 m1 8 0,
 m1 9 1,
 o1 10 (.callm 112 [.t 8,.t 9]),
 o1 6 (.alloc [.int .i64 0,.int .i64 0] 150),
 ⟨none,.st (.t 6) (.t 10) 2,none,[]⟩]
 (.seq (.regd [0,1,2,3,4,5,6,7,8,9,10] [
 .op (m1 11 0),
 .op (p1 12 (.nilc (.t 11)) [0]),
 .op (p1 13 (ao 12 0) [1]),
 .op (p1 14 (ao 13 2) [2]),
 .op (p1 15 (lf 14 1) [3]),
 .op (m1 16 2),
 .op (o1 17 (ao 6 1)),
 .op (p1 18 (lf 17 1) [6]),
 .op (p1 19 (.bin .sub (.t 16) (.t 18)) [5,7]),
 .op (p1 20 (.bin .mul (.t 15) (.t 19)) [4,8]),
 .op (p1 7 (.mv (.t 20)) [0,1,2,3,4,5,6,7,8,9])] 0 0 [
])
 (sr1 [
 m1 21 0,
 o1 22 (.nilc (.t 21)),
 o1 23 (ao 22 9),
 o1 24 (lf 23 1),
 m1 25 7,
 o1 26 (.bin .sub (.t 24) (.t 25)),
 o1 27 (.nilc (.t 21)),
 o1 28 (ao 27 9),
 ⟨none,.st (.t 28) (.t 26) 1,none,[]⟩]
 (.seq (.regd [0,1,2,3,4,5,6,7,8,9] [
 .op (m1 29 0),
 .op (p1 30 (.nilc (.t 29)) [0]),
 .op (p1 31 (ao 30 8) [1]),
 .op (p1 32 (lf 31 1) [2]),
 .op (o1 33 (ao 6 0)),
 .op (p1 34 (lf 33 1) [4]),
 .op (p1 35 (.rv (Go.Op.lookup 101 (Go.Operand.tmp 32) (Go.Operand.tmp 34) Bool.false) [.t 32,.t 34]) [3,5]),
 .op (m1 36 7),
 .op (p1 37 (.bin .add (.t 35) (.t 36)) [6,7])] 0 0 [
 ⟨none,.raw (Go.Op.mapUpdate 101 (Go.Operand.tmp 32) (Go.Operand.tmp 34) (Go.Operand.tmp 37)) 0,none,[0,1,2,3,4,5,6,7,8]⟩])
 (.reg [
 m1 38 0,
 o1 39 (.nilc (.t 38)),
 o1 40 (ao 39 4),
 o1 41 (lf 40 1),
 m1 42 1,
 ⟨none,.raw (Go.Op.call { callee:=(Go.Callee.builtin Go.Builtin.delete),args:=#[(Go.Operand.tmp 41),(Go.Operand.tmp 42)],argTypes:=#[99,3] }) 0,none,[]⟩])))))
def Zz7:List RV:=[]
theorem n107:Try.f107.ntmps=43:=by kernel_rfl
theorem b107:ZW Try.prog 107=true:=by kernel_rfl
theorem ZrL:Yx Try.prog ZzZ ((Try.f107.body).getD .skip)=true:=by kernel_rfl
theorem ZtS:YQ Try.prog Zz7 Try.f107.results.toList=true:=by kernel_rfl
theorem m107 {n0:Nat} {hp0:List (Nat × HB)} {args:List SV} {Zs:Ot->Prop} (hh:hpb n0 hp0) (hx:∀ o,Zs o->KX o.res/\KXP o.hp) (h:sx Try.prog Y0 n0 ZzZ ⟨YN 0 args,hp0,n0,43,[]⟩ (Wd Zz7 fun o=>∃ o',Zs o'/\Ws n0 o o')) (hA:Nat.ble args.length 43=true:=by rfl):CtM Try.prog 107 hp0 n0 args Zs:=Zr Try.func107 rfl b107 ZrL ZtS n107 (Nat.le_of_ble_eq_true hA) hh hx h
def ZzU:SC:=(sr1 [
 m1 4 0]
 (.cond (.t 4)
 (.reg [
  m1 5 1,
  o1 6 (.raw (Go.Op.makeInterface 145 (Go.Operand.tmp 5)) 20),
  ⟨none,.raw (Go.Op.panic (Go.Operand.tmp 6)) 0,none,[]⟩])
 .skip))
def ZzO:List RV:=[]
theorem n111:Try.f111.ntmps=7:=by kernel_rfl
theorem b111:ZW Try.prog 111=true:=by kernel_rfl
theorem ZvG:Yx Try.prog ZzU ((Try.f111.body).getD .skip)=true:=by kernel_rfl
theorem Zt3:YQ Try.prog ZzO Try.f111.results.toList=true:=by kernel_rfl
theorem m111 {n0:Nat} {hp0:List (Nat × HB)} {args:List SV} {Zs:Ot->Prop} (hh:hpb n0 hp0) (hx:∀ o,Zs o->KX o.res/\KXP o.hp) (h:sx Try.prog Y0 n0 ZzU ⟨YN 0 args,hp0,n0,7,[]⟩ (Wd ZzO fun o=>∃ o',Zs o'/\Ws n0 o o')) (hA:Nat.ble args.length 7=true:=by rfl):CtM Try.prog 111 hp0 n0 args Zs:=Zr Try.func111 rfl b111 ZvG Zt3 n111 (Nat.le_of_ble_eq_true hA) hh hx h
def Zz8:SC:=(sr1 [
 o1 4 (.alloc [.int .i64 0,.int .i64 0] 150)]
 (sr1 [
 m1 8 0,
 o1 9 (.nilc (.t 8)),
 o1 10 (ao 9 4),
 o1 11 (lf 10 1),
 m1 12 1,
 o1 13 (.raw (Go.Op.lookup 99 (Go.Operand.tmp 11) (Go.Operand.tmp 12) Bool.true) 151),
 m1 7 13,
 o1 14 (.ext (.t 7) 0),
 o1 15 (.ext (.t 7) 1),
 o1 5 (.alloc [.int .i64 0,.int .i64 0] 150),
 ⟨none,.st (.t 5) (.t 14) 2,none,[]⟩,
 m1 6 15]
 (sr1 [
 m1 16 6,
 o1 17 (.un .not (.t 16)),
 o1 18 (.callm 111 [.t 17,.c (.int .u8 3)])]
 (sr1 [
 o1 19 (lt 5 2),
 ⟨none,.st (.t 4) (.t 19) 2,none,[]⟩]
 .ret))))
def ZzJ:List RV:=[.cell 4 2 true]
theorem n112:Try.f112.ntmps=20:=by kernel_rfl
theorem b112:ZW Try.prog 112=true:=by kernel_rfl
theorem ZrV:Yx Try.prog Zz8 ((Try.f112.body).getD .skip)=true:=by kernel_rfl
theorem Zvb:YQ Try.prog ZzJ Try.f112.results.toList=true:=by kernel_rfl
theorem m112 {n0:Nat} {hp0:List (Nat × HB)} {args:List SV} {Zs:Ot->Prop} (hh:hpb n0 hp0) (hx:∀ o,Zs o->KX o.res/\KXP o.hp) (h:sx Try.prog Y0 n0 Zz8 ⟨YN 0 args,hp0,n0,20,[]⟩ (Wd ZzJ fun o=>∃ o',Zs o'/\Ws n0 o o')) (hA:Nat.ble args.length 20=true:=by rfl):CtM Try.prog 112 hp0 n0 args Zs:=Zr Try.func112 rfl b112 ZrV Zvb n112 (Nat.le_of_ble_eq_true hA) hh hx h
def c48:SC:=(sr1 [
 o1 2 (.mv (.c (.slice none 0 0)))]
 (sr1 [
 m1 3 0,
 o1 4 (.callm 70 [.c (.slice none 0 0),.t 3]),
 m1 2 4]
 .ret))
def r48:List RV:=[.tmp 2]
theorem n48:Try.f48.ntmps=5:=by kernel_rfl
theorem b48:ZW Try.prog 48=true:=by kernel_rfl
theorem Zzk:Yx Try.prog c48 ((Try.f48.body).getD .skip)=true:=by kernel_rfl
theorem ZyT:YQ Try.prog r48 Try.f48.results.toList=true:=by kernel_rfl
theorem m48 {n0:Nat} {hp0:List (Nat × HB)} {args:List SV} {Zs:Ot->Prop} (hh:hpb n0 hp0) (hx:∀ o,Zs o->KX o.res/\KXP o.hp) (h:sx Try.prog Y0 n0 c48 ⟨YN 0 args,hp0,n0,5,[]⟩ (Wd r48 fun o=>∃ o',Zs o'/\Ws n0 o o')) (hA:Nat.ble args.length 5=true:=by rfl):CtM Try.prog 48 hp0 n0 args Zs:=Zr Try.func48 rfl b48 Zzk ZyT n48 (Nat.le_of_ble_eq_true hA) hh hx h
def c70:SC:=(sr1 [
 o1 2 (.box (.t 0) 0 39),
 o1 4 (.mv (.c (.slice none 0 0)))]
 (.seq (sr1 [
 m1 6 1]
 (.block 0 (.gh (.rfun (.t 6) [7] (.reg [
  m1 5 7])
  (.block 1 (.reg [
   o1 8 (lf 2 1),
   m1 9 5,
   o1 10 (.bsl 1 5 [.t 9]),
   o1 11 (.appm 1 1 5 (.t 8) (.t 10)),
   ⟨none,.st (.t 2) (.t 11) 1,none,[]⟩]))))))
 (sr1 [
 o1 12 (lf 2 1),
 m1 4 12]
 .ret)))
def r70:List RV:=[.tmp 4]
theorem n70:Try.f70.ntmps=13:=by kernel_rfl
theorem b70:ZW Try.prog 70=true:=by kernel_rfl
theorem ZxD:Yx Try.prog c70 ((Try.f70.body).getD .skip)=true:=by kernel_rfl
theorem ZxV:YQ Try.prog r70 Try.f70.results.toList=true:=by kernel_rfl
theorem m70 {n0:Nat} {hp0:List (Nat × HB)} {args:List SV} {Zs:Ot->Prop} (hh:hpb n0 hp0) (hx:∀ o,Zs o->KX o.res/\KXP o.hp) (h:sx Try.prog Y0 n0 c70 ⟨YN 0 args,hp0,n0,13,[]⟩ (Wd r70 fun o=>∃ o',Zs o'/\Ws n0 o o')) (hA:Nat.ble args.length 13=true:=by rfl):CtM Try.prog 70 hp0 n0 args Zs:=Zr Try.func70 rfl b70 ZxD ZxV n70 (Nat.le_of_ble_eq_true hA) hh hx h
def c26:SC:=(sr1 [
 o1 4 (.box (.t 0) 0 24),
 o1 8 (.mv (cn 0)),
 o1 9 (.mv (cn 0))]
 (sr1 [
 o1 14 (lt 4 4),
 m1 15 1,
 o1 16 (.call 47 [.t 14,.t 15]),
 m1 13 16,
 o1 17 (.ext (.t 13) 0),
 o1 18 (.ext (.t 13) 1),
 m1 10 17,
 m1 11 18]
 (.seq (sr1 [
 m1 19 11,
 o1 20 (.bin .neq (.t 19) (cn 0))]
 (.cond (.t 20)
 (sr1 [
  m1 21 11,
  o1 8 (.mv (cn 0)),
  m1 9 21]
  .ret)
 .skip))
 (.seq (sr1 [
 o1 22 (lt 4 4),
 m1 23 2,
 o1 24 (.call 54 [.t 22,.t 23]),
 o1 25 (.bin .lss (.t 24) (cn 0)),
 m1 26 25,
 g1 27 26 false (lt 4 4),
 g1 28 26 false (.mv (.t 3)),
 g1 29 26 false (.call 54 [.t 27,.t 28]),
 g1 30 26 false (.bin .lss (.t 29) (cn 0)),
 o1 31 (.pick (.t 26) (.c (.bool true)) (.t 30)),
 m1 32 31,
 g1 33 32 false (.mv (.t 2)),
 g1 34 32 false (.mv (.t 3)),
 g1 35 32 false (.bin .eql (.t 33) (.t 34)),
 o1 36 (.pick (.t 32) (.c (.bool true)) (.t 35))]
 (.cond (.t 36)
 (sr1 [
  o1 8 (.mv (cn 0)),
  o1 9 (.mv (cn 2))]
  .ret)
 .skip))
 (sr1 [
 o1 37 (lt 4 4),
 o1 38 (.callm 49 [.t 37]),
 m1 12 38]
 (.seq (sr1 [
 m1 39 12,
 m1 40 10,
 o1 41 (.callm 50 [.t 39,.t 40])]
 (.block 0 (.gh (.rfun (.t 41) [42] .skip
  (.block 1 .skip)))))
 (sr1 [
 m1 43 12,
 o1 44 (.nilc (.t 43)),
 o1 45 (ao 44 7),
 o1 46 (lf 45 1),
 m1 47 2,
 m1 48 3,
 o1 49 (.build [.int .i64 0,.int .i64 0] [(0,1,.t 47),(1,1,.t 48)]),
 o1 50 (.raw (Go.Op.lookup 100 (Go.Operand.tmp 46) (Go.Operand.tmp 49) Bool.false) 3),
 m1 8 50,
 o1 9 (.mv (cn 0))]
 .ret)))))))
def r26:List RV:=[.tmp 8,.tmp 9]
theorem t26:Qt1 Try.prog 26 c26 r26 51:=X4 Try.func26 rfl (by kernel_rfl) (by kernel_rfl) (by kernel_rfl) (by kernel_rfl)
end Go.Proofs.Ythilckbkffjliaa
namespace Go.Sx
open Go Go.RowKit
section
variable {K V:Type} [DecidableEq K] {k k':K} {v v0:V} {c:Nat} {L:List (Nat × K × V)}
def Vo (c:Nat) (k:K):List (Nat × K × V)->Nat
 | []=>c
 | e :: l=>if e.2.1=k then e.1 else Vo c k l
def Zqw (b:Nat) (v:V):List (Nat × K × V)->List (Nat × K × V)
 | []=>[]
 | e :: l=>if e.1=b then (e.1,e.2.1,v) :: l else e :: Zqw b v l
theorem Zc3:∀ {L:List (Nat × K × V)} {v:V},mget k L=some v->mset c k v L=L
 | [],_,h=>by cases h
 | e :: l,v,h=>by
  simp only [mget] at h
  simp only [mset]
  split
  . rename_i q
    rw [if_pos q] at h
    cases h;subst q;rfl
  . rename_i q
    rw [if_neg q] at h
    rw [Zc3 h]
theorem Zej:∀ {L:List (Nat × K × V)},Vo c k L=c\/∃ e ∈ L,e.1=Vo c k L
 | []=>.inl rfl
 | e :: l=>by
  simp only [Vo]
  split
  . exact .inr ⟨e,by simp,rfl⟩
  . rcases Zej (L:=l) with h | ⟨e',h1,h2⟩
    . exact .inl h
    . exact .inr ⟨e',by simp [h1],h2⟩
theorem ZeM:∀ {L:List (Nat × K × V)},(Vo c k L,k,v) ∈ mset c k v L
 | []=>by simp [mset,Vo]
 | e :: l=>by
  simp only [mset,Vo]
  split
  . rename_i q;simp
  . simp [ZeM (L:=l)]
theorem ZcR:∀ {L:List (Nat × K × V)},(L.map (·.1)).Nodup->(∀ e ∈ L,e.1 < c)->Zqw (Vo c k L) v (mset c k v0 L)=mset c k v L
 | [],_,_=>by simp [mset,Vo,Zqw]
 | e :: l,hn,hl=>by
  rw [List.map_cons,List.nodup_cons] at hn
  simp only [mset,Vo]
  split
  . simp [Zqw]
  . have:e.1≠Vo c k l:=by
     rcases Zej (c:=c) (k:=k) (L:=l) with h | ⟨e',h1,h2⟩
     . rw [h];have:=hl e (by simp);omega
     . intro q;exact hn.1 (List.mem_map.2 ⟨e',h1,by rw [h2,q]⟩)
    simp only [Zqw,if_neg this]
    rw [ZcR hn.2 fun e he=>hl e (by simp [he])]
omit [DecidableEq K] in
theorem Zco {w:World} {E:Env} {n ok:Nat->Prop} {key:K->Value} {val:V->SV} {b:Nat}:∀ (L:List (Nat × K × V)) (ys:List MapEntry),RM w E n ok (mpS key val L) ys->(∃ e ∈ L,e.1=b) ->
 ∃ j,ys.findIdx? (fun e=>(e.born:Int) == (b:Int))=some j/\∀ {w':World} {ok':Nat->Prop} (v:V) y',R w' E n ok' (val v) y'->RM w' E n ok' (mpS key val L) ys->RM w' E n ok' (mpS key val (Zqw b v L)) (ys.modify j fun e=>{ e with val:=y' })
 | [],ys,h,he=>by obtain ⟨e,he,-⟩:=he;cases he
 | x :: l,ys,h,he=>by
  simp only [mpS,List.map_cons,RM] at h
  obtain ⟨y,r,rfl,h1,h2⟩:=h
  by_cases q:x.1=b
  . refine ⟨0,by simp [List.findIdx?_cons,q],fun {w' ok'} v y' hR h'=>?_⟩
    simp only [mpS,List.map_cons,RM] at h'
    obtain ⟨y0,r0,e0,h3,h4⟩:=h'
    cases e0
    simp only [Zqw,q,if_true,mpS,List.map_cons,RM]
    exact ⟨y',r,by simp [<- q],hR,h4⟩
  . obtain ⟨e,he,hb⟩:=he
    have he':∃ e ∈ l,e.1=b:=by
     rcases List.mem_cons.1 he with rfl | he
     . exact absurd hb q
     . exact ⟨e,he,hb⟩
    obtain ⟨j,g1,g2⟩:=Zco l r h2 he'
    refine ⟨j+1,by rw [List.findIdx?_cons,g1];simp;omega,fun {w' ok'} v y' hR h'=>?_⟩
    simp only [mpS,List.map_cons,RM] at h'
    obtain ⟨y0,r0,e0,h3,h4⟩:=h'
    cases e0
    simp only [Zqw,if_neg q,mpS,List.map_cons,RM]
    exact ⟨y,_,by simp,h3,g2 v y' hR h4⟩
theorem ZeX:∀ {L:List (Nat × K × V)} {w:World} {E:Env} {n ok:Nat->Prop} {key:K->Value} {val:V->SV} {ys:List MapEntry} {j:Nat} {e:MapEntry} {i:Nat},RM w E n ok (mpS key val L) ys->fI k (L.map (·.2.1)) ys i=some (i+j,e.val)->ys[j]? = some e->e.born=Vo c k L
 | [],_,_,_,_,_,_,ys,j,e,i,h,hf,he=>by
  simp only [mpS,List.map_nil,RM] at h;subst h;cases he
 | x :: l,w,E,n,ok,key,val,ys,j,e,i,h,hf,he=>by
  simp only [mpS,List.map_cons,RM] at h
  obtain ⟨y,r,rfl,h1,h2⟩:=h
  simp only [List.map_cons,fI] at hf
  simp only [Vo]
  by_cases q:x.2.1=k
  . rw [if_pos q] at hf ⊢
    simp only [Option.some.injEq,Prod.mk.injEq] at hf
    have:j=0:=by omega
    subst this
    simp only [List.getElem?_cons_zero,Option.some.injEq] at he
    rw [<- he]
  . rw [if_neg q] at hf ⊢
    cases j with
    | zero =>
     have:∀ (ks:List K) (ys:List MapEntry) (i m:Nat) (v:Value),fI k ks ys i=some (m,v)->i<=m:=by
      intro ks
      induction ks with
      | nil=>intro ys i m v h;simp [fI] at h
      | cons a ks ih =>
       intro ys i m v h
       cases ys with
       | nil=>simp [fI] at h
       | cons b ys =>
        simp only [fI] at h
        split at h
        . simp only [Option.some.injEq,Prod.mk.injEq] at h;omega
        . have:=ih ys (i+1) m v h;omega
     have:=this _ _ _ _ _ hf
     omega
    | succ j =>
     exact ZeX (j:=j) (i:=i+1) h2 (by rw [hf];simp only [Option.some.injEq,Prod.mk.injEq,and_true];omega) (by simpa using he)
end
section
variable {P:Program} {K' V:Type} [DecidableEq K'] {key:K'->Value} {sv:K'->SV} {val:V->SV} {L:List (Nat × K' × V)} {km c:Nat} {kt et t ty:TypeId} {mx ix vx sx:Operand} {σ : St} {r:KT} {K:RK} {d:Option Nat} {k:K'}
theorem Zaz {α : Type} (f g:α->α):∀ (l:List α) (j:Nat) (a:α),l[j]? = some a->f a=g a->l.modify j f=l.modify j g
 | [],_,_,h,_=>by simp at h
 | b :: l,0,a,h,e=>by simp at h;subst h;simp [e]
 | b :: l,j+1,a,h,e=>by simp at h;simp [Zaz f g l j a h e]
theorem Zbt {v0 v:V} (hm:V2 σ mx = .mp km) (hh:lkh km σ.hp = .map (mpS key val (mset c k v0 L)) (mclk c k L)) (hs:V2 σ sx = .v (.int .i64 (Vo c k L))) (hw:MW L c)
 (hv:V2 σ vx=val v) (hvg:∀ j b u,val v≠.gd j b u) (h:r ⟨σ.fr,(km,.map (mpS key val (mset c k v L)) (mclk c k L)) :: σ.hp,σ.n,σ.N,σ.gs⟩ K) :
 RAW P none (.entryStore t mx sx vx) ty σ r K:=by
 intro o C E a w next Q e1 e2 e3 hS hn hq
 have hmv:=Wa hS hm (fun _ _ _=>by simp)
 have hsv:=Wa hS hs (fun _ _ _=>by simp)
 have hvv:=Wa hS hv hvg
 simp only [R] at hmv hsv
 obtain ⟨g0,ys,g1,g2⟩:=ZcB hS hh
 obtain ⟨j,f1,f2⟩:=Zco (w:=w) (E:=E) (n:=ltn σ.n) (ok:=okS C E σ.hp) (b:=Vo c k L) _ ys.toList g2 ⟨_,ZeM,rfl⟩
 have f1':ys.findIdx? (fun e=>(e.born:Int) == ((Vo c k L:Nat):Int))=some j:=by
  cases ys;simpa using f1
 have hrun:(Instr.entryStore t (a.eval mx) (a.eval sx) (a.eval vx)).run P w = .ok () (WN w (E.β km) (.map (ys.modify j fun e=>{ e with val:=a.eval vx }) (mclk c k L))):=by
  rw [hmv.2,hsv]
  simp only [Instr.entryStore,Sem.run_bind,Yh g1 rfl,Result.andThen_ok,Sem.run_pure,asInt,asIntOf,f1',Yu _ g1 rfl]
 have hx:(execOp a.eval o).run P w = .ok .skip (WN w (E.β km) (.map (ys.modify j fun e=>{ e with val:=a.eval vx }) (mclk c k L))):=by
  obtain ⟨dst',op',ty',pos,after,guard⟩:=o
  simp only at e2;subst e2
  simp only [execOp,Sem.run_bind,hrun,Result.andThen_ok,Sem.run_pure]
 refine Zv hx (by simp) ?_
 show next (a.put o.dst undef) _
 obtain ⟨q1,q2⟩:=XL (k:=km) (hb:=.map (mpS key val (mset c k v L)) (mclk c k L)) (o:=.map (ys.modify j fun e=>{ e with val:=a.eval vx }) (mclk c k L)) hS.hs (fun b=>by rw [hh];simp only [occ]) (fun b=>by simp only [occ]) (fun hlt hst=>by
  simp only [ZT]
  refine ⟨_,Y3 hlt,?_⟩
  rw [Array.toList_modify]
  have:=f2 v _ (ZB hst.c (fun _ _=>Ele.rfl) (fun _ h=>h) _ _ hvv) (Xd hst.c (fun _ _=>Ele.rfl) (fun _ h=>h) _ _ g2)
  rw [ZcR hw.bn hw.bl] at this
  exact this)
 rw [e1]
 exact hn _ E _ _ h (Z1 hS q2 (fun _ _=>Ele.rfl) (Nat.le_refl _) q1)
end
section
variable {P:Program} {ty T T':TypeId} {ix jx:Operand} {σ : St} {r:KT} {K:RK} {d:Option Nat} {s:SV}
def ZcS (P:Program) (T:TypeId):Bool :=
 match P.underlying T with
 | some (.interface _)=>false
 | some _=>true
 | none=>false
theorem Zjh (hT:ZcS P T=true) (hi:V2 σ ix=s) (hg:∀ j b u,s≠.gd j b u) (h:Ym d (.ifc T s) none σ r K):RAW P d (.makeInterface T ix) ty σ r K:=by
 intro o C E a w next Q e1 e2 e3 hS hn hq
 have hiv:=Wa hS hi hg
 have hx:(execOp a.eval o).run P w = .ok (.value (.iface T (a.eval ix))) w:=by
  obtain ⟨dst',op',ty',pos,after,guard⟩:=o
  simp only at e2;subst e2
  unfold ZcS at hT
  cases hu:P.underlying T with
  | none=>rw [hu] at hT;cases hT
  | some u =>
   rw [hu] at hT
   cases u<;>first | exact absurd hT Bool.false_ne_true | simp [execOp,Sem.run_bind,Instr.makeInterface,run_underlying hu,Result.andThen_ok,Sem.run_pure]
 refine Zv hx (by simp) ?_
 show next (a.put o.dst _) _
 rw [e1]
 refine Va h hS ?_ hn
 simp only [R];exact ⟨_,rfl,hiv⟩
theorem Zkg (hi:V2 σ ix = .ifc T s) (h:K (.pan (.ifc T s)) σ):RAW P d (.panic ix) ty σ r K:=by
 intro o C E a w next Q e1 e2 e3 hS hn hq
 have hiv:=Wa hS hi (fun _ _ _=>by simp)
 simp only [R] at hiv
 obtain ⟨x,hx,hR⟩:=hiv
 have hy:(execOp a.eval o).run P w = .halt (.panic (.iface T x)) w:=by
  obtain ⟨dst',op',ty',pos,after,guard⟩:=o
  simp only at e2;subst e2
  simp [execOp,Sem.run_bind,hx,Instr.panic,goPanic,Result.andThen]
 exact Zjn hy (by rw [e2];simp) (hq _ _ _ _ _ h hS (by simp only [R];exact ⟨x,rfl,hR⟩))
theorem Zd5 (hT:ZcS P T=true) (hi:V2 σ ix = .ifc T s) (h:Ym d (.tup [s,.v (.bool true)]) none σ r K):RAW P d (.typeAssert ix T' T true) ty σ r K:=by
 intro o C E a w next Q e1 e2 e3 hS hn hq
 have hiv:=Wa hS hi (fun _ _ _=>by simp)
 simp only [R] at hiv
 obtain ⟨x,hx,hR⟩:=hiv
 have hy:(execOp a.eval o).run P w = .ok (.value (.tuple #[x,.bool true])) w:=by
  obtain ⟨dst',op',ty',pos,after,guard⟩:=o
  simp only at e2;subst e2
  unfold ZcS at hT
  cases hu:P.underlying T with
  | none=>rw [hu] at hT;cases hT
  | some u =>
   rw [hu] at hT
   cases u<;>first | exact absurd hT Bool.false_ne_true | simp [execOp,Sem.run_bind,hx,Instr.typeAssert,run_underlying hu,Result.andThen_ok,Sem.run_pure]
 refine Zv hy (by simp) ?_
 show next (a.put o.dst _) _
 rw [e1]
 refine Va h hS ?_ hn
 simp only [R,RL];exact ⟨_,rfl,_,_,rfl,hR,_,_,rfl,rfl,rfl⟩
theorem Zn1 {pt:TypeId} (hu:P.underlying T'=some (.interface (P.methodsAt T'))) (hi:V2 σ ix = .ifc T s) (h:Ym d (.v (.bool false)) none σ r K):RAW P d (.binOp .eql T' ix (.const .nilIface) pt) ty σ r K:=by
 intro o C E a w next Q e1 e2 e3 hS hn hq
 have hiv:=Wa hS hi (fun _ _ _=>by simp)
 simp only [R] at hiv
 obtain ⟨x,hx,hR⟩:=hiv
 have hb:=run_eql_held_nil (P:=P) w T' T x hu
 have hy:(execOp a.eval o).run P w = .ok (.value (.bool false)) w:=by
  obtain ⟨dst',op',ty',pos,after,guard⟩:=o
  simp only at e2;subst e2
  have h0:a.eval (.const .nilIface) = .nilIface:=rfl
  have hg:(eqGuard .eql T' ix (.const .nilIface) (.iface T x) .nilIface).run P w = .ok () w:=by
   simp [eqGuard,Sem.run_pure]
  simp only [execOp,Sem.run_bind,hx,h0,hg,hb,Result.andThen_ok,Sem.run_pure]
 refine Zv hy (by simp) ?_
 show next (a.put o.dst _) _
 rw [e1]
 exact Va h hS (by simp only [R]) hn
theorem Zij {pt:TypeId} (hu:P.underlying T'=some (.interface (P.methodsAt T'))) (hi:V2 σ ix = .v .nilIface) (h:Ym d (.v (.bool true)) none σ r K):RAW P d (.binOp .eql T' ix (.const .nilIface) pt) ty σ r K:=by
 intro o C E a w next Q e1 e2 e3 hS hn hq
 have hx:=Wa hS hi (fun _ _ _=>by simp)
 simp only [R] at hx
 have hb:=run_eql_nil_nil (P:=P) w T' hu
 have hy:(execOp a.eval o).run P w = .ok (.value (.bool true)) w:=by
  obtain ⟨dst',op',ty',pos,after,guard⟩:=o
  simp only at e2;subst e2
  have h0:a.eval (.const .nilIface) = .nilIface:=rfl
  have hg:(eqGuard .eql T' ix (.const .nilIface) .nilIface .nilIface).run P w = .ok () w:=by
   simp [eqGuard,Sem.run_pure]
  simp only [execOp,Sem.run_bind,hx,h0,hg,hb,Result.andThen_ok,Sem.run_pure]
 refine Zv hy (by simp) ?_
 show next (a.put o.dst _) _
 rw [e1]
 exact Va h hS (by simp only [R]) hn
end
end Go.Sx
