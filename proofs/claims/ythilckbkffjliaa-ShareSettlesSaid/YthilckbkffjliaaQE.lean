/- Walks and plain laws that lead to the given statement, part 5 of 10. -/
import Derived.Test.YthilckbkffjliaaQD
import Derived.Test.YthilckbkffjliaaProg
import Derived.MapKept
import Derived.WideKeyRuns
set_option maxRecDepth 100000
set_option maxHeartbeats 4000000
set_option linter.all false
open Nat renaming reduceAdd->rA,reduceMul->rM,reduceSub->rS,beq_refl->nbr
namespace Go.Sx
def m1 (d t:Nat):Ins:=⟨some d,.mv (.t t),none,[]⟩
def o1 (d:Nat) (i:SI):Ins:=⟨some d,i,none,[]⟩
def sr1 (l:List Ins) (c:SC):SC:=.seq (.reg l) c
def ao (x o:Nat):SI:=.addo (.t x) o
def lt (x m:Nat):SI:=.ld (.t x) m true
def lf (x m:Nat):SI:=.ld (.t x) m false
def cn (n:Int):X:=.c (.int .i64 n)
def g1 (d t:Nat) (b:Bool) (i:SI):Ins:=⟨some d,i,some (t,b),[]⟩
def p1 (d:Nat) (i:SI) (l:List Nat):Ins:=⟨some d,i,none,l⟩
def q1 (d t:Nat) (b:Bool) (i:SI) (l:List Nat):Ins:=⟨some d,i,some (t,b),l⟩
attribute [go_sem] m1 o1 sr1 ao lt lf cn g1 p1 q1
open Go
structure Qt1 (P:Program) (f:FuncId) (c:SC) (r:List RV) (N:Nat):Prop where
 h:∀ {args:List SV} {res:SV},KFL args->KF res->sx P Y0 0 c (st0 args N) (ZA1 r res)->(hA:Nat.ble args.length N=true:=by rfl)->Ct P f args res
theorem XN {P:Program} {f:FuncId} {fn:Func} {c:SC} {r:List RV} {N:Nat} (hf:P.funcs[f]?=some fn) (hd:fn.body.isSome=true) (hb:Z3 P f=true) (hc:YJ P c (fn.body.getD .skip)=true) (hr:Y5 P r fn.results.toList=true) (hN:fn.ntmps=N):Qt1 P f c r N:=⟨fun {args res} ka kr h hA=>by
 cases hq:fn.body with
 | none=>rw [hq] at hd;cases hd
 | some code=>rw [hq] at hc;exact Zqf hf hq hb hc hr hN (Nat.le_of_ble_eq_true hA) ka kr h⟩
def zv0:List Value:=[.int .i64 0,.int .i64 0,.int .u8 0,.int .i64 0,.int .i64 0,.int .i64 0,.int .i64 0,.bool false]
def zv1:List Value:=[.slice none 0 0,.slice none 0 0,.slice none 0 0,.slice none 0 0,.int .i64 0,.slice none 0 0,.slice none 0 0]
attribute [go_sem] zv0 zv1
end Go.Sx
namespace Go.Proofs.Ythilckbkffjliaa
open Go Go.Sx
def c16:SC:=(sr1 [
 o1 2 (.box (.t 0) 0 24),
 o1 4 (.mv (.c (.bool false)))]
 (sr1 [
 o1 5 (ao 2 0),
 o1 6 (lf 5 1),
 o1 7 (.len (.t 6)),
 o1 8 (.bin .gtr (.t 7) (cn 12)),
 m1 9 8,
 g1 10 9 false (.mv (.t 1)),
 g1 11 9 false (.len (.t 10)),
 g1 12 9 false (.bin .gtr (.t 11) (cn 150)),
 o1 13 (.pick (.t 9) (.c (.bool true)) (.t 12)),
 m1 4 13]
 .ret))
def r16:List RV:=[.tmp 4]
theorem t16:Qt1 Try.prog 16 c16 r16 14:=XN Try.func16 rfl (by kernel_rfl) (by kernel_rfl) (by kernel_rfl) (by kernel_rfl)
def c20:SC:=(sr1 [
 o1 1 (.box (.t 0) 0 24),
 o1 2 (.mv (cn 0))]
 (.seq (sr1 [
 o1 8 (ao 1 0),
 o1 9 (lf 8 1),
 o1 10 (.len (.t 9)),
 o1 11 (.bsl 1 3 [.t 10]),
 o1 12 (.call 42 [.c (.int .i64 1),.c (.int .i64 8),.t 11]),
 o1 13 (.un .not (.t 12)),
 m1 14 13,
 g1 15 14 false (ao 1 1),
 g1 16 14 false (lf 15 1),
 g1 17 14 false (.bsl 1 3 [.t 16]),
 g1 18 14 false (.call 42 [.c (.int .i64 0),.c (.int .i64 1000),.t 17]),
 g1 19 14 false (.un .not (.t 18)),
 o1 20 (.pick (.t 14) (.c (.bool true)) (.t 19)),
 m1 21 20,
 g1 22 21 false (ao 1 2),
 g1 23 21 false (lf 22 1),
 g1 24 21 false (.bsl 1 3 [.t 23]),
 g1 25 21 false (.call 42 [.c (.int .i64 0),.c (.int .i64 1000),.t 24]),
 g1 26 21 false (.un .not (.t 25)),
 o1 27 (.pick (.t 21) (.c (.bool true)) (.t 26)),
 m1 28 27,
 g1 29 28 false (ao 1 3),
 g1 30 28 false (lf 29 1),
 g1 31 28 false (.bsl 1 3 [.t 30]),
 g1 32 28 false (.call 42 [.c (.int .i64 0),.c (.int .i64 100000),.t 31]),
 g1 33 28 false (.un .not (.t 32)),
 o1 34 (.pick (.t 28) (.c (.bool true)) (.t 33))]
 (.cond (.t 34)
 (sr1 [
  o1 2 (.mv (cn 80))]
  .ret)
 .skip))
 (sr1 [
 o1 3 (.mv (.c (.int .i64 (-1)))),
 o1 4 (.mv (cn 0)),
 o1 5 (.mv (cn 0))]
 (.seq (sr1 [
 o1 35 (ao 1 0),
 o1 36 (lf 35 1),
 o1 37 (.len (.t 36)),
 o1 38 (.mv (cn 0))]
 (.block 0 (.loop (sr1 [
  o1 39 (.bin .lss (.t 38) (.t 37))]
  (.seq (.cond (.t 39)
  .skip
  (.exit 0))
  (.seq (.block 1 (sr1 [
   o1 40 (.ixs (.t 36) (.t 38) 3),
   o1 41 (lt 40 3),
   o1 7 (.alloc [.int .i64 0,.int .i64 0,.int .i64 0] 64),
   ⟨none,.st (.t 7) (.t 41) 3,none,[]⟩]
   (.seq (sr1 [
   m1 42 3,
   o1 43 (.bin .add (.t 42) (cn 1)),
   o1 44 (ao 7 0),
   o1 45 (lf 44 1),
   o1 46 (.bsl 1 3 [.t 45]),
   o1 47 (.call 42 [.t 43,.c (.int .i64 9999),.t 46]),
   o1 48 (.un .not (.t 47)),
   m1 49 48,
   g1 50 49 false (ao 7 1),
   g1 51 49 false (lf 50 1),
   g1 52 49 false (.bsl 1 3 [.t 51]),
   g1 53 49 false (.call 42 [.c (.int .i64 0),.c (.int .i64 100000000),.t 52]),
   g1 54 49 false (.un .not (.t 53)),
   o1 55 (.pick (.t 49) (.c (.bool true)) (.t 54)),
   m1 56 55,
   g1 57 56 false (ao 7 2),
   g1 58 56 false (lf 57 1),
   g1 59 56 false (.bsl 1 3 [.t 58]),
   g1 60 56 false (.call 42 [.c (.int .i64 0),.c (.int .i64 1000),.t 59]),
   g1 61 56 false (.un .not (.t 60)),
   o1 62 (.pick (.t 56) (.c (.bool true)) (.t 61))]
   (.cond (.t 62)
   (sr1 [
    o1 2 (.mv (cn 80))]
    .ret)
   .skip))
   (.regd [0,1,2,3,4,5,6,7,8,9,10,11,12] [
   .op (o1 63 (ao 7 0)),
   .op (p1 64 (lf 63 1) [0]),
   .op (m1 65 4),
   .op (o1 66 (ao 7 1)),
   .op (p1 67 (lf 66 1) [3]),
   .op (p1 68 (.bin .add (.t 65) (.t 67)) [2,4]),
   .op (m1 69 5),
   .op (o1 70 (ao 7 2)),
   .op (p1 71 (lf 70 1) [7]),
   .op (p1 72 (.bin .add (.t 69) (.t 71)) [6,8]),
   .op (p1 3 (.mv (.t 64)) [0,1]),
   .op (p1 4 (.mv (.t 68)) [0,1,2,3,4,5,10]),
   .op (p1 5 (.mv (.t 72)) [0,1,2,3,4,5,6,7,8,9,10,11])] 0 0 [
]))))
 (.reg [
 o1 73 (.bin .add (.t 38) (cn 1)),
 m1 38 73])))))))
 (.seq (sr1 [
 m1 74 4,
 o1 75 (.bin .eql (.t 74) (cn 0)),
 m1 76 75,
 g1 77 76 false (.mv (.t 5)),
 g1 78 76 false (.bin .neq (.t 77) (cn 1000)),
 o1 79 (.pick (.t 76) (.c (.bool true)) (.t 78))]
 (.cond (.t 79)
 (sr1 [
  o1 2 (.mv (cn 80))]
  .ret)
 .skip))
 (sr1 [
 o1 2 (.mv (cn 0))]
 .ret))))))
def r20:List RV:=[.tmp 2]
theorem t20:Qt1 Try.prog 20 c20 r20 80:=XN Try.func20 rfl (by kernel_rfl) (by kernel_rfl) (by kernel_rfl) (by kernel_rfl)
def c22:SC:=(sr1 [
 o1 4 (.mv (.c (.bool false)))]
 (.seq (sr1 [
 m1 6 0,
 o1 7 (.len (.t 6)),
 m1 8 1,
 o1 9 (.len (.t 8)),
 o1 10 (.bin .neq (.t 7) (.t 9))]
 (.cond (.t 10)
 (sr1 [
  o1 4 (.mv (.c (.bool false)))]
  .ret)
 .skip))
 (.seq (sr1 [
 o1 5 (.mv (cn 0))]
 (.block 0 (.loop (.seq (sr1 [
  m1 11 5,
  m1 12 0,
  o1 13 (.len (.t 12)),
  o1 14 (.bin .lss (.t 11) (.t 13))]
  (.cond (.t 14)
  .skip
  (.exit 0)))
  (.seq (.block 1 (.seq (.regd [0,1,2,3,4,5,6,7,8] [
   .op (m1 17 0),
   .op (m1 18 5),
   .op (p1 19 (.ixs (.t 17) (.t 18) 1) [0,1]),
   .op (p1 20 (lf 19 1) [2]),
   .op (m1 21 1),
   .op (m1 22 5),
   .op (p1 23 (.ixs (.t 21) (.t 22) 1) [4,5]),
   .op (p1 24 (lf 23 1) [6]),
   .op (p1 25 (.bin .neq (.t 20) (.t 24)) [3,7])] 0 0 [
])
 (.cond (.t 25)
 (sr1 [
  o1 4 (.mv (.c (.bool false)))]
  .ret)
 .skip)))
 (.reg [
 m1 15 5,
 o1 16 (.bin .add (.t 15) (cn 1)),
 m1 5 16]))))))
 (sr1 [
 o1 4 (.mv (.c (.bool true)))]
 .ret))))
def r22:List RV:=[.tmp 4]
theorem t22:Qt1 Try.prog 22 c22 r22 26:=XN Try.func22 rfl (by kernel_rfl) (by kernel_rfl) (by kernel_rfl) (by kernel_rfl)
def c28:SC:=(sr1 [
 o1 4 (.mv (.c (.bool false)))]
 (.seq (sr1 [
 m1 6 0,
 o1 7 (.len (.t 6)),
 m1 8 1,
 o1 9 (.len (.t 8)),
 o1 10 (.bin .neq (.t 7) (.t 9))]
 (.cond (.t 10)
 (sr1 [
  o1 4 (.mv (.c (.bool false)))]
  .ret)
 .skip))
 (.seq (sr1 [
 o1 5 (.mv (cn 0))]
 (.block 0 (.loop (.seq (sr1 [
  m1 11 5,
  m1 12 0,
  o1 13 (.len (.t 12)),
  o1 14 (.bin .lss (.t 11) (.t 13))]
  (.cond (.t 14)
  .skip
  (.exit 0)))
  (.seq (.block 1 (.seq (.regd [0,1,2,3,4,5,6,7,8] [
   .op (m1 17 0),
   .op (m1 18 5),
   .op (p1 19 (.ixs (.t 17) (.t 18) 8) [0,1]),
   .op (p1 20 (lt 19 8) [2]),
   .op (m1 21 1),
   .op (m1 22 5),
   .op (p1 23 (.ixs (.t 21) (.t 22) 8) [4,5]),
   .op (p1 24 (lt 23 8) [6]),
   .op (p1 25 (.eqs true true [1,1,1,1,1,1,1,0] (.t 20) (.t 24)) [3,7])] 0 0 [
])
 (.cond (.t 25)
 (sr1 [
  o1 4 (.mv (.c (.bool false)))]
  .ret)
 .skip)))
 (.reg [
 m1 15 5,
 o1 16 (.bin .add (.t 15) (cn 1)),
 m1 5 16]))))))
 (sr1 [
 o1 4 (.mv (.c (.bool true)))]
 .ret))))
def r28:List RV:=[.tmp 4]
theorem t28:Qt1 Try.prog 28 c28 r28 26:=XN Try.func28 rfl (by kernel_rfl) (by kernel_rfl) (by kernel_rfl) (by kernel_rfl)
def c33:SC:=(sr1 [
 o1 4 (.mv (.c (.bool false)))]
 (.seq (sr1 [
 m1 6 0,
 o1 7 (.len (.t 6)),
 m1 8 1,
 o1 9 (.len (.t 8)),
 o1 10 (.bin .neq (.t 7) (.t 9))]
 (.cond (.t 10)
 (sr1 [
  o1 4 (.mv (.c (.bool false)))]
  .ret)
 .skip))
 (.seq (sr1 [
 o1 5 (.mv (cn 0))]
 (.block 0 (.loop (.seq (sr1 [
  m1 11 5,
  m1 12 0,
  o1 13 (.len (.t 12)),
  o1 14 (.bin .lss (.t 11) (.t 13))]
  (.cond (.t 14)
  .skip
  (.exit 0)))
  (.seq (.block 1 (.seq (.regd [0,1,2,3,4,5,6,7,8] [
   .op (m1 17 0),
   .op (m1 18 5),
   .op (p1 19 (.ixs (.t 17) (.t 18) 2) [0,1]),
   .op (p1 20 (lt 19 2) [2]),
   .op (m1 21 1),
   .op (m1 22 5),
   .op (p1 23 (.ixs (.t 21) (.t 22) 2) [4,5]),
   .op (p1 24 (lt 23 2) [6]),
   .op (p1 25 (.eqs true true [1,1] (.t 20) (.t 24)) [3,7])] 0 0 [
])
 (.cond (.t 25)
 (sr1 [
  o1 4 (.mv (.c (.bool false)))]
  .ret)
 .skip)))
 (.reg [
 m1 15 5,
 o1 16 (.bin .add (.t 15) (cn 1)),
 m1 5 16]))))))
 (sr1 [
 o1 4 (.mv (.c (.bool true)))]
 .ret))))
def r33:List RV:=[.tmp 4]
theorem t33:Qt1 Try.prog 33 c33 r33 26:=XN Try.func33 rfl (by kernel_rfl) (by kernel_rfl) (by kernel_rfl) (by kernel_rfl)
def c36:SC:=(sr1 [
 o1 2 (.box (.t 0) 0 24),
 o1 3 (.box (.t 1) 0 50),
 o1 4 (.mv (.c (.bool false)))]
 (.seq (sr1 [
 o1 10 (ao 3 0),
 o1 11 (lf 10 1),
 o1 12 (.call 45 [.t 11,.c (.int .i64 0),.c (.int .i64 9999)]),
 o1 13 (.un .not (.t 12)),
 m1 14 13,
 g1 15 14 false (ao 3 1),
 g1 16 14 false (lf 15 1),
 g1 17 14 false (.call 45 [.t 16,.c (.int .i64 0),.c (.int .i64 100000)]),
 g1 18 14 false (.un .not (.t 17)),
 o1 19 (.pick (.t 14) (.c (.bool true)) (.t 18))]
 (.cond (.t 19)
 (sr1 [
  o1 4 (.mv (.c (.bool false)))]
  .ret)
 .skip))
 (sr1 [
 o1 20 (ao 3 0),
 o1 21 (lf 20 1),
 o1 22 (ao 3 1),
 o1 23 (lf 22 1),
 o1 24 (ao 3 2),
 o1 25 (lf 24 1),
 o1 26 (ao 3 7),
 o1 27 (lf 26 1),
 o1 28 (.build zv0 [(0,1,.t 21),(1,1,.t 23),(2,1,.t 25),(7,1,.t 27)]),
 o1 5 (.alloc zv0 50),
 ⟨none,.st (.t 5) (.t 28) 8,none,[]⟩]
 (.seq (.regd [0,1,2,3,4,5,6,7,8,9,10,11,12,13] [
 .op (o1 29 (lt 2 4)),
 .op (o1 30 (ao 3 3)),
 .op (p1 31 (lf 30 1) [1]),
 .op (p1 32 (.call 55 [.t 29,.t 31]) [0,2]),
 .op (p1 33 (.bin .geq (.t 32) (cn 0)) [3]),
 .op (o1 34 (ao 3 5)),
 .op (p1 35 (lf 34 1) [5]),
 .op (p1 36 (.call 45 [.t 35,.c (.int .i64 0),.c (.int .i64 9999)]) [3,6]),
 .op (o1 37 (ao 3 6)),
 .op (p1 38 (lf 37 1) [8]),
 .op (p1 39 (.call 45 [.t 38,.c (.int .i64 0),.c (.int .i64 10000000)]) [7,9]),
 .op (p1 6 (.mv (.t 33)) [0,1,2,3,4,10]),
 .op (p1 7 (.mv (.t 36)) [0,1,2,3,4,5,6,7,11]),
 .op (p1 8 (.mv (.t 39)) [0,1,2,3,4,5,6,7,8,9,10,11,12])] 0 0 [
])
 (sr1 [
 o1 9 (.mv (.c (.bool false)))]
 (.seq (sr1 [
 o1 40 (ao 3 2),
 o1 41 (lf 40 1)]
 (.block 0 (.seq (sr1 [
  o1 43 (.bin .eql (.t 41) (.c (.int .u8 1))),
  m1 42 43]
  (.cond (.t 42)
  .skip
  (.reg [
   o1 44 (.bin .eql (.t 41) (.c (.int .u8 2))),
   m1 42 44])))
  (.cond (.t 42)
  (sr1 [
   o1 45 (ao 3 6),
   o1 46 (lf 45 1),
   o1 47 (ao 5 6),
   ⟨none,.st (.t 47) (.t 46) 1,none,[]⟩]
   (.reg [
   m1 48 8,
   m1 9 48]))
  (sr1 [
   o1 50 (.bin .eql (.t 41) (.c (.int .u8 3))),
   m1 49 50]
   (.cond (.t 49)
   (.seq (.regd [0,1,4,2,3,5,6,7] [
    .op (o1 51 (ao 3 3)),
    .op (p1 52 (lf 51 1) [0]),
    .op (p1 55 (ao 5 3) [0,1]),
    .hide (.t 55),
    .op (o1 53 (ao 3 5)),
    .op (p1 54 (lf 53 1) [2])] 0 1 [
    ⟨none,.st (.t 55) (.t 52) 1,none,[0,1,4]⟩,
    ⟨some 56,ao 5 5,none,[0,1,2,3,4,5]⟩,
    ⟨none,.st (.t 56) (.t 54) 1,none,[0,1,2,3,4,5,6]⟩])
    (.reg [
    m1 57 6,
    m1 58 57,
    g1 59 58 true (.mv (.t 7)),
    o1 60 (.pick (.t 58) (.t 59) (.c (.bool false))),
    m1 9 60]))
   (.seq (sr1 [
    o1 62 (.bin .eql (.t 41) (.c (.int .u8 4))),
    m1 61 62]
    (.cond (.t 61)
    .skip
    (.reg [
     o1 63 (.bin .eql (.t 41) (.c (.int .u8 5))),
     m1 61 63])))
    (.cond (.t 61)
    (sr1 [
     o1 64 (ao 3 5),
     o1 65 (lf 64 1),
     o1 66 (ao 5 5),
     ⟨none,.st (.t 66) (.t 65) 1,none,[]⟩]
     (.reg [
     m1 67 7,
     m1 9 67]))
    (sr1 [
     o1 69 (.bin .eql (.t 41) (.c (.int .u8 6))),
     m1 68 69]
     (.cond (.t 68)
     (.seq (.regd [0,1,6,2,3,4,5,7,8,9,10,11] [
      .op (o1 70 (ao 3 5)),
      .op (p1 71 (lf 70 1) [0]),
      .op (p1 76 (ao 5 5) [0,1]),
      .hide (.t 5),
      .op (o1 72 (ao 3 4)),
      .op (p1 73 (lf 72 1) [2]),
      .op (o1 74 (ao 3 6)),
      .op (p1 75 (lf 74 1) [4])] 0 5 [
      ⟨none,.st (.t 76) (.t 71) 1,none,[0,1,6]⟩,
      ⟨some 77,ao 5 4,none,[0,1,2,3,6,7]⟩,
      ⟨none,.st (.t 77) (.t 73) 1,none,[0,1,2,3,6,7,8]⟩,
      ⟨some 78,ao 5 6,none,[0,1,2,3,4,5,6,7,8,9]⟩,
      ⟨none,.st (.t 78) (.t 75) 1,none,[0,1,2,3,4,5,6,7,8,9,10]⟩])
      (.reg [
      m1 79 7,
      m1 80 79,
      g1 81 80 true (.mv (.t 8)),
      o1 82 (.pick (.t 80) (.t 81) (.c (.bool false))),
      m1 83 82,
      g1 84 83 true (ao 3 4),
      g1 85 83 true (lf 84 1),
      g1 86 83 true (.call 45 [.t 85,.c (.int .i64 0),.c (.int .i64 9999)]),
      o1 87 (.pick (.t 83) (.t 86) (.c (.bool false))),
      m1 9 87]))
     (.seq (sr1 [
      o1 89 (.bin .eql (.t 41) (.c (.int .u8 7))),
      m1 88 89]
      (.cond (.t 88)
      .skip
      (.reg [
       o1 90 (.bin .eql (.t 41) (.c (.int .u8 8))),
       m1 88 90])))
      (.cond (.t 88)
      (.seq (.regd [0,1,6,2,3,4,5,7,8,9,10,11] [
       .op (o1 91 (ao 3 3)),
       .op (p1 92 (lf 91 1) [0]),
       .op (p1 97 (ao 5 3) [0,1]),
       .hide (.t 5),
       .op (o1 93 (ao 3 4)),
       .op (p1 94 (lf 93 1) [2]),
       .op (o1 95 (ao 3 6)),
       .op (p1 96 (lf 95 1) [4])] 0 5 [
       ⟨none,.st (.t 97) (.t 92) 1,none,[0,1,6]⟩,
       ⟨some 98,ao 5 4,none,[0,1,2,3,6,7]⟩,
       ⟨none,.st (.t 98) (.t 94) 1,none,[0,1,2,3,6,7,8]⟩,
       ⟨some 99,ao 5 6,none,[0,1,2,3,4,5,6,7,8,9]⟩,
       ⟨none,.st (.t 99) (.t 96) 1,none,[0,1,2,3,4,5,6,7,8,9,10]⟩])
       (.reg [
       m1 100 6,
       m1 101 100,
       g1 102 101 true (.mv (.t 8)),
       o1 103 (.pick (.t 101) (.t 102) (.c (.bool false))),
       m1 104 103,
       g1 105 104 true (lt 2 4),
       g1 106 104 true (ao 3 4),
       g1 107 104 true (lf 106 1),
       g1 108 104 true (.call 55 [.t 105,.t 107]),
       g1 109 104 true (.bin .geq (.t 108) (cn 0)),
       o1 110 (.pick (.t 104) (.t 109) (.c (.bool false))),
       m1 111 110,
       g1 112 111 true (ao 3 3),
       g1 113 111 true (lf 112 1),
       g1 114 111 true (ao 3 4),
       g1 115 111 true (lf 114 1),
       g1 116 111 true (.bin .neq (.t 113) (.t 115)),
       o1 117 (.pick (.t 111) (.t 116) (.c (.bool false))),
       m1 9 117]))
      .skip))))))))))))
 (sr1 [
 m1 118 9,
 m1 119 118,
 g1 120 119 true (lt 3 8),
 g1 121 119 true (lt 5 8),
 g1 122 119 true (.eqs false true [1,1,1,1,1,1,1,0] (.t 120) (.t 121)),
 o1 123 (.pick (.t 119) (.t 122) (.c (.bool false))),
 m1 4 123]
 .ret)))))))
def r36:List RV:=[.tmp 4]
theorem t36:Qt1 Try.prog 36 c36 r36 124:=XN Try.func36 rfl (by kernel_rfl) (by kernel_rfl) (by kernel_rfl) (by kernel_rfl)
def c42:SC:=(sr1 [
 o1 3 (.box (.t 0) 0 3),
 o1 4 (.box (.t 1) 0 3),
 o1 6 (.mv (.c (.bool false)))]
 (sr1 [
 m1 7 2,
 o1 8 (.mkf 62 [.t 3,.t 4]),
 o1 9 (.call 61 [.t 7,.t 8]),
 o1 10 (.un .not (.t 9)),
 m1 6 10]
 .ret))
def r42:List RV:=[.tmp 6]
theorem t42:Qt1 Try.prog 42 c42 r42 11:=XN Try.func42 rfl (by kernel_rfl) (by kernel_rfl) (by kernel_rfl) (by kernel_rfl)
def c44:SC:=(sr1 [
 o1 1 (.box (.t 0) 0 24),
 o1 2 (.mv (.c (.bool false)))]
 (.seq (sr1 [
 o1 7 (ao 1 0),
 o1 8 (lf 7 1),
 o1 9 (.len (.t 8)),
 o1 10 (.call 45 [.t 9,.c (.int .i64 1),.c (.int .i64 8)]),
 o1 11 (.un .not (.t 10)),
 m1 12 11,
 g1 13 12 false (ao 1 1),
 g1 14 12 false (lf 13 1),
 g1 15 12 false (.call 45 [.t 14,.c (.int .i64 0),.c (.int .i64 1000)]),
 g1 16 12 false (.un .not (.t 15)),
 o1 17 (.pick (.t 12) (.c (.bool true)) (.t 16)),
 m1 18 17,
 g1 19 18 false (ao 1 2),
 g1 20 18 false (lf 19 1),
 g1 21 18 false (.call 45 [.t 20,.c (.int .i64 0),.c (.int .i64 1000)]),
 g1 22 18 false (.un .not (.t 21)),
 o1 23 (.pick (.t 18) (.c (.bool true)) (.t 22)),
 m1 24 23,
 g1 25 24 false (ao 1 3),
 g1 26 24 false (lf 25 1),
 g1 27 24 false (.call 45 [.t 26,.c (.int .i64 0),.c (.int .i64 100000)]),
 g1 28 24 false (.un .not (.t 27)),
 o1 29 (.pick (.t 24) (.c (.bool true)) (.t 28))]
 (.cond (.t 29)
 (sr1 [
  o1 2 (.mv (.c (.bool false)))]
  .ret)
 .skip))
 (sr1 [
 o1 3 (.mv (cn 0)),
 o1 4 (.mv (cn 0))]
 (.seq (sr1 [
 o1 5 (.mv (cn 0))]
 (.block 0 (.loop (.seq (sr1 [
  m1 30 5,
  o1 31 (ao 1 0),
  o1 32 (lf 31 1),
  o1 33 (.len (.t 32)),
  o1 34 (.bin .lss (.t 30) (.t 33))]
  (.cond (.t 34)
  .skip
  (.exit 0)))
  (.seq (.block 1 (sr1 [
   o1 37 (ao 1 0),
   o1 38 (lf 37 1),
   m1 39 5,
   o1 40 (.ixs (.t 38) (.t 39) 3),
   o1 41 (lt 40 3),
   o1 6 (.alloc [.int .i64 0,.int .i64 0,.int .i64 0] 64),
   ⟨none,.st (.t 6) (.t 41) 3,none,[]⟩]
   (.seq (.seq (.regd [0,1,2,3,4,5,6,7,8,9,10,11,12,13,14,15,16,17,18,19,20,21,22,23,24,25,26,27,28,29,30,31] [
   .op (o1 42 (ao 6 0)),
   .op (p1 43 (lf 42 1) [0]),
   .op (p1 44 (.call 45 [.t 43,.c (.int .i64 0),.c (.int .i64 9999)]) [1]),
   .op (p1 45 (.un .not (.t 44)) [2]),
   .op (p1 46 (.mv (.t 45)) [2,3]),
   .op (q1 47 46 false (.mv (.t 5)) [4]),
   .op (q1 48 46 false (.bin .gtr (.t 47) (cn 0)) [4,5]),
   .op (q1 49 46 false (.mv (.t 48)) [4,6]),
   .op (q1 50 49 true (ao 6 0) [7]),
   .op (q1 51 49 true (lf 50 1) [7,8]),
   .op (q1 52 49 true (ao 1 0) [7]),
   .op (q1 53 49 true (lf 52 1) [7,10]),
   .op (q1 54 49 true (.mv (.t 5)) [7]),
   .op (q1 55 49 true (.bin .sub (.t 54) (cn 1)) [7,12]),
   .op (q1 56 49 true (.ixs (.t 53) (.t 55) 3) [7,11,13]),
   .op (q1 57 49 true (ao 56 0) [7,14]),
   .op (q1 58 49 true (lf 57 1) [7,15]),
   .op (q1 59 49 true (.bin .leq (.t 51) (.t 58)) [7,9,16]),
   .op (q1 60 46 false (.pick (.t 49) (.t 59) (.c (.bool false))) [4,7,17]),
   .op (p1 61 (.pick (.t 46) (.c (.bool true)) (.t 60)) [4,18]),
   .op (p1 62 (.mv (.t 61)) [7,19]),
   .op (q1 63 62 false (ao 6 1) [20]),
   .op (q1 64 62 false (lf 63 1) [20,21]),
   .op (q1 65 62 false (.call 45 [.t 64,.c (.int .i64 0),.c (.int .i64 100000000)]) [20,22]),
   .op (q1 66 62 false (.un .not (.t 65)) [20,23]),
   .op (p1 67 (.pick (.t 62) (.c (.bool true)) (.t 66)) [20,24]),
   .op (p1 68 (.mv (.t 67)) [23,25]),
   .op (q1 69 68 false (ao 6 2) [26]),
   .op (q1 70 68 false (lf 69 1) [26,27]),
   .op (q1 71 68 false (.call 45 [.t 70,.c (.int .i64 0),.c (.int .i64 1000)]) [26,28]),
   .op (q1 72 68 false (.un .not (.t 71)) [26,29]),
   .op (p1 73 (.pick (.t 68) (.c (.bool true)) (.t 72)) [26,30])] 0 0 [
])
 (.cond (.t 73)
 (sr1 [
  o1 2 (.mv (.c (.bool false)))]
  .ret)
 .skip))
 (.regd [0,1,2,3,4,5,6,7,8,9] [
 .op (m1 74 3),
 .op (o1 75 (ao 6 1)),
 .op (p1 76 (lf 75 1) [1]),
 .op (p1 77 (.bin .add (.t 74) (.t 76)) [0,2]),
 .op (m1 78 4),
 .op (o1 79 (ao 6 2)),
 .op (p1 80 (lf 79 1) [5]),
 .op (p1 81 (.bin .add (.t 78) (.t 80)) [4,6]),
 .op (p1 3 (.mv (.t 77)) [0,1,2,3]),
 .op (p1 4 (.mv (.t 81)) [0,1,2,3,4,5,6,7,8])] 0 0 [
]))))
 (.reg [
 m1 35 5,
 o1 36 (.bin .add (.t 35) (cn 1)),
 m1 5 36]))))))
 (sr1 [
 m1 82 3,
 o1 83 (.bin .gtr (.t 82) (cn 0)),
 m1 84 83,
 g1 85 84 true (.mv (.t 4)),
 g1 86 84 true (.bin .eql (.t 85) (cn 1000)),
 o1 87 (.pick (.t 84) (.t 86) (.c (.bool false))),
 m1 2 87]
 .ret)))))
def r44:List RV:=[.tmp 2]
theorem t44:Qt1 Try.prog 44 c44 r44 88:=XN Try.func44 rfl (by kernel_rfl) (by kernel_rfl) (by kernel_rfl) (by kernel_rfl)
def c45:SC:=(sr1 [
 o1 6 (.mv (.c (.bool false)))]
 (sr1 [
 m1 7 0,
 m1 8 1,
 o1 9 (.bin .geq (.t 7) (.t 8)),
 m1 10 9,
 g1 11 10 true (.mv (.t 0)),
 g1 12 10 true (.mv (.t 2)),
 g1 13 10 true (.bin .leq (.t 11) (.t 12)),
 o1 14 (.pick (.t 10) (.t 13) (.c (.bool false))),
 m1 6 14]
 .ret))
def r45:List RV:=[.tmp 6]
theorem t45:Qt1 Try.prog 45 c45 r45 15:=XN Try.func45 rfl (by kernel_rfl) (by kernel_rfl) (by kernel_rfl) (by kernel_rfl)
def c51:SC:=(sr1 [
 o1 2 (.box (.t 0) 0 24),
 o1 4 (.mv (cn 0))]
 (.seq (sr1 [
 m1 8 1,
 o1 9 (.len (.t 8)),
 o1 10 (.bin .gtr (.t 9) (cn 100))]
 (.cond (.t 10)
 (sr1 [
  o1 4 (.mv (cn 4))]
  .ret)
 .skip))
 (.seq (sr1 [
 o1 5 (.mv (cn 0))]
 (.block 0 (.loop (.seq (sr1 [
  m1 11 5,
  m1 12 1,
  o1 13 (.len (.t 12)),
  o1 14 (.bin .lss (.t 11) (.t 13))]
  (.cond (.t 14)
  .skip
  (.exit 0)))
  (.seq (.block 1 (.seq (.regd [0,1,2,3,4,5,6] [
   .op (o1 17 (lt 2 4)),
   .op (m1 18 1),
   .op (m1 19 5),
   .op (p1 20 (.ixs (.t 18) (.t 19) 8) [1,2]),
   .op (p1 21 (lt 20 8) [3]),
   .op (p1 22 (.call 36 [.t 17,.t 21]) [0,4]),
   .op (p1 23 (.un .not (.t 22)) [5])] 0 0 [
])
 (.cond (.t 23)
 (sr1 [
  o1 4 (.mv (cn 81))]
  .ret)
 .skip)))
 (.reg [
 m1 15 5,
 o1 16 (.bin .add (.t 15) (cn 1)),
 m1 5 16]))))))
 (.seq (sr1 [
 o1 6 (.mv (cn 0))]
 (.block 2 (.loop (.seq (sr1 [
  m1 24 6,
  m1 25 1,
  o1 26 (.len (.t 25)),
  o1 27 (.bin .lss (.t 24) (.t 26))]
  (.cond (.t 27)
  .skip
  (.exit 2)))
  (.seq (.block 3 (sr1 [
   o1 7 (.mv (cn 0))]
   (.block 4 (.loop (.seq (sr1 [
    m1 30 7,
    m1 31 6,
    o1 32 (.bin .lss (.t 30) (.t 31))]
    (.cond (.t 32)
    .skip
    (.exit 4)))
    (.seq (.block 5 (.seq (.regd [0,1,2,3,4,5,6,7,8,9,10,11,12,13,14,15,16,17,18,19,20,21] [
     .op (m1 35 1),
     .op (m1 36 6),
     .op (p1 37 (.ixs (.t 35) (.t 36) 8) [0,1]),
     .op (p1 38 (ao 37 0) [2]),
     .op (p1 39 (lf 38 1) [3]),
     .op (m1 40 1),
     .op (m1 41 7),
     .op (p1 42 (.ixs (.t 40) (.t 41) 8) [5,6]),
     .op (p1 43 (ao 42 0) [7]),
     .op (p1 44 (lf 43 1) [8]),
     .op (p1 45 (.bin .eql (.t 39) (.t 44)) [4,9]),
     .op (p1 46 (.mv (.t 45)) [10]),
     .op (q1 47 46 true (.mv (.t 1)) [11]),
     .op (q1 48 46 true (.mv (.t 6)) [11]),
     .op (q1 49 46 true (.ixs (.t 47) (.t 48) 8) [11,12,13]),
     .op (q1 50 46 true (lt 49 8) [11,14]),
     .op (q1 51 46 true (.mv (.t 1)) [11]),
     .op (q1 52 46 true (.mv (.t 7)) [11]),
     .op (q1 53 46 true (.ixs (.t 51) (.t 52) 8) [11,16,17]),
     .op (q1 54 46 true (lt 53 8) [11,18]),
     .op (q1 55 46 true (.eqs true true [1,1,1,1,1,1,1,0] (.t 50) (.t 54)) [11,15,19]),
     .op (p1 56 (.pick (.t 46) (.t 55) (.c (.bool false))) [11,20])] 0 0 [
])
 (.cond (.t 56)
 (sr1 [
  o1 4 (.mv (cn 82))]
  .ret)
 .skip)))
 (.reg [
 m1 33 7,
 o1 34 (.bin .add (.t 33) (cn 1)),
 m1 7 34])))))))
 (.reg [
 m1 28 6,
 o1 29 (.bin .add (.t 28) (cn 1)),
 m1 6 29]))))))
 (sr1 [
 o1 4 (.mv (cn 0))]
 .ret)))))
def r51:List RV:=[.tmp 4]
theorem t51:Qt1 Try.prog 51 c51 r51 57:=XN Try.func51 rfl (by kernel_rfl) (by kernel_rfl) (by kernel_rfl) (by kernel_rfl)
def c54:SC:=(sr1 [
 o1 2 (.box (.t 0) 0 24),
 o1 3 (.box (.t 1) 0 3),
 o1 4 (.mv (cn 0))]
 (sr1 [
 o1 5 (ao 2 0),
 o1 6 (lf 5 1),
 o1 7 (.mkf 79 [.t 3]),
 o1 8 (.call 78 [.t 6,.t 7]),
 m1 4 8]
 .ret))
def r54:List RV:=[.tmp 4]
theorem t54:Qt1 Try.prog 54 c54 r54 9:=XN Try.func54 rfl (by kernel_rfl) (by kernel_rfl) (by kernel_rfl) (by kernel_rfl)
def c55:SC:=(sr1 [
 o1 2 (.box (.t 0) 0 24),
 o1 4 (.mv (cn 0))]
 (.seq (sr1 [
 o1 5 (.mv (cn 0))]
 (.block 0 (.loop (.seq (sr1 [
  m1 6 5,
  o1 7 (ao 2 0),
  o1 8 (lf 7 1),
  o1 9 (.len (.t 8)),
  o1 10 (.bin .lss (.t 6) (.t 9))]
  (.cond (.t 10)
  .skip
  (.exit 0)))
  (.seq (.block 1 (sr1 [
   o1 13 (ao 2 0),
   o1 14 (lf 13 1),
   m1 15 5,
   o1 16 (.ixs (.t 14) (.t 15) 3),
   o1 17 (ao 16 0),
   o1 18 (lf 17 1),
   m1 19 1,
   o1 20 (.bin .eql (.t 18) (.t 19))]
   (.cond (.t 20)
   (sr1 [
    m1 21 5,
    m1 4 21]
    .ret)
   .skip)))
  (.reg [
  m1 11 5,
  o1 12 (.bin .add (.t 11) (cn 1)),
  m1 5 12]))))))
 (sr1 [
 o1 4 (.mv (.c (.int .i64 (-1))))]
 .ret)))
def r55:List RV:=[.tmp 4]
theorem t55:Qt1 Try.prog 55 c55 r55 22:=XN Try.func55 rfl (by kernel_rfl) (by kernel_rfl) (by kernel_rfl) (by kernel_rfl)
def c61:SC:=(sr1 [
 o1 4 (.mv (.c (.bool false)))]
 (sr1 [
 m1 5 0,
 m1 6 1,
 o1 7 (.call 81 [.t 5,.t 6]),
 o1 8 (.bin .geq (.t 7) (cn 0)),
 m1 4 8]
 .ret))
def r61:List RV:=[.tmp 4]
theorem t61:Qt1 Try.prog 61 c61 r61 9:=XN Try.func61 rfl (by kernel_rfl) (by kernel_rfl) (by kernel_rfl) (by kernel_rfl)
def c62:SC:=(sr1 [
 o1 4 (.mv (.c (.bool false)))]
 (sr1 [
 m1 5 0,
 o1 6 (lf 1 1),
 o1 7 (.bin .lss (.t 5) (.t 6)),
 m1 8 7,
 g1 9 8 false (.mv (.t 0)),
 g1 10 8 false (lf 2 1),
 g1 11 8 false (.bin .gtr (.t 9) (.t 10)),
 o1 12 (.pick (.t 8) (.c (.bool true)) (.t 11)),
 m1 4 12]
 .ret))
def r62:List RV:=[.tmp 4]
theorem t62:Qt1 Try.prog 62 c62 r62 13:=XN Try.func62 rfl (by kernel_rfl) (by kernel_rfl) (by kernel_rfl) (by kernel_rfl)
def c78:SC:=(sr1 [
 o1 4 (.mv (cn 0))]
 (.seq (sr1 [
 m1 6 0,
 o1 7 (.len (.t 6)),
 o1 8 (.mv (cn 0))]
 (.block 0 (.loop (sr1 [
  o1 9 (.bin .lss (.t 8) (.t 7))]
  (.seq (.cond (.t 9)
  .skip
  (.exit 0))
  (.seq (.block 1 (sr1 [
   m1 10 8,
   m1 5 10]
   (sr1 [
   m1 11 1,
   m1 12 0,
   m1 13 5,
   o1 14 (.ixs (.t 12) (.t 13) 3),
   o1 15 (lt 14 3),
   o1 16 (.calv (.t 11) [.t 15])]
   (.cond (.t 16)
   (sr1 [
    m1 17 5,
    m1 4 17]
    .ret)
   .skip))))
  (.reg [
  o1 18 (.bin .add (.t 8) (cn 1)),
  m1 8 18])))))))
 (sr1 [
 o1 4 (.mv (.c (.int .i64 (-1))))]
 .ret)))
def r78:List RV:=[.tmp 4]
theorem t78:Qt1 Try.prog 78 c78 r78 19:=XN Try.func78 rfl (by kernel_rfl) (by kernel_rfl) (by kernel_rfl) (by kernel_rfl)
def c79:SC:=(sr1 [
 o1 2 (.box (.t 0) 0 64),
 o1 3 (.mv (.c (.bool false)))]
 (sr1 [
 o1 4 (ao 2 0),
 o1 5 (lf 4 1),
 o1 6 (lf 1 1),
 o1 7 (.bin .eql (.t 5) (.t 6)),
 m1 3 7]
 .ret))
def r79:List RV:=[.tmp 3]
theorem t79:Qt1 Try.prog 79 c79 r79 8:=XN Try.func79 rfl (by kernel_rfl) (by kernel_rfl) (by kernel_rfl) (by kernel_rfl)
def c64:SC:=(sr1 [
 o1 4 (.mv (.c (.bool false)))]
 (sr1 [
 m1 5 0,
 m1 6 1,
 o1 7 (.call 85 [.t 5,.t 6]),
 o1 8 (.bin .geq (.t 7) (cn 0)),
 m1 4 8]
 .ret))
def r64:List RV:=[.tmp 4]
theorem t64:Qt1 Try.prog 64 c64 r64 9:=XN Try.func64 rfl (by kernel_rfl) (by kernel_rfl) (by kernel_rfl) (by kernel_rfl)
def c85:SC:=(sr1 [
 o1 4 (.mv (cn 0))]
 (.seq (sr1 [
 m1 6 0,
 o1 7 (.len (.t 6)),
 o1 8 (.mv (cn 0))]
 (.block 0 (.loop (sr1 [
  o1 9 (.bin .lss (.t 8) (.t 7))]
  (.seq (.cond (.t 9)
  .skip
  (.exit 0))
  (.seq (.block 1 (sr1 [
   m1 10 8,
   m1 5 10]
   (sr1 [
   m1 11 1,
   m1 12 0,
   m1 13 5,
   o1 14 (.ixs (.t 12) (.t 13) 8),
   o1 15 (lt 14 8),
   o1 16 (.calv (.t 11) [.t 15])]
   (.cond (.t 16)
   (sr1 [
    m1 17 5,
    m1 4 17]
    .ret)
   .skip))))
  (.reg [
  o1 18 (.bin .add (.t 8) (cn 1)),
  m1 8 18])))))))
 (sr1 [
 o1 4 (.mv (.c (.int .i64 (-1))))]
 .ret)))
def r85:List RV:=[.tmp 4]
theorem t85:Qt1 Try.prog 85 c85 r85 19:=XN Try.func85 rfl (by kernel_rfl) (by kernel_rfl) (by kernel_rfl) (by kernel_rfl)
def c65:SC:=(sr1 [
 o1 2 (.box (.t 0) 0 50),
 o1 3 (.mv (.c (.bool false)))]
 (sr1 [
 o1 4 (lt 1 4),
 o1 5 (lt 2 8),
 o1 6 (.call 66 [.t 4,.t 5]),
 o1 7 (.un .not (.t 6)),
 m1 3 7]
 .ret))
def r65:List RV:=[.tmp 3]
theorem t65:Qt1 Try.prog 65 c65 r65 8:=XN Try.func65 rfl (by kernel_rfl) (by kernel_rfl) (by kernel_rfl) (by kernel_rfl)
def c66:SC:=(sr1 [
 o1 2 (.box (.t 0) 0 24),
 o1 3 (.box (.t 1) 0 50),
 o1 4 (.mv (.c (.bool false)))]
 (.seq (.regd [0,1,2,3,4,5,6,7,8,9] [
 .op (o1 9 (.call 72 [])),
 .op (o1 10 (ao 3 2)),
 .op (p1 11 (lf 10 1) [1]),
 .op (p1 12 (.rv (Go.Op.lookup 120 (Go.Operand.tmp 9) (Go.Operand.tmp 11) Bool.true) [.t 9,.t 11]) [0,2]),
 .op (p1 8 (.mv (.t 12)) [3]),
 .op (p1 13 (.ext (.t 8) 0) [4]),
 .op (p1 14 (.ext (.t 8) 1) [4])] 1 2 [
 o1 5 (.alloc [.nilFunc,.nilFunc,.nilFunc] 126),
 ⟨none,.st (.t 5) (.t 13) 3,none,[0,1,2,3,4,5,7]⟩,
 ⟨some 6,.mv (.t 14),none,[0,1,2,3,4,5,6,7,8]⟩])
 (.seq (sr1 [
 m1 15 6,
 o1 16 (.un .not (.t 15)),
 m1 17 16,
 g1 18 17 false (ao 3 0),
 g1 19 17 false (lf 18 1),
 g1 20 17 false (ao 3 3),
 g1 21 17 false (lf 20 1),
 g1 22 17 false (ao 3 4),
 g1 23 17 false (lf 22 1),
 g1 24 17 false (ao 3 5),
 g1 25 17 false (lf 24 1),
 g1 26 17 false (.bsl 1 3 [.t 19,.t 21,.t 23,.t 25]),
 g1 27 17 false (.call 42 [.c (.int .i64 0),.c (.int .i64 9999),.t 26]),
 g1 28 17 false (.un .not (.t 27)),
 o1 29 (.pick (.t 17) (.c (.bool true)) (.t 28)),
 m1 30 29,
 g1 31 30 false (ao 3 1),
 g1 32 30 false (lf 31 1),
 g1 33 30 false (.bsl 1 3 [.t 32]),
 g1 34 30 false (.call 42 [.c (.int .i64 0),.c (.int .i64 100000),.t 33]),
 g1 35 30 false (.un .not (.t 34)),
 o1 36 (.pick (.t 30) (.c (.bool true)) (.t 35)),
 m1 37 36,
 g1 38 37 false (ao 3 6),
 g1 39 37 false (lf 38 1),
 g1 40 37 false (.bsl 1 3 [.t 39]),
 g1 41 37 false (.call 42 [.c (.int .i64 0),.c (.int .i64 10000000),.t 40]),
 g1 42 37 false (.un .not (.t 41)),
 o1 43 (.pick (.t 37) (.c (.bool true)) (.t 42)),
 m1 44 43,
 g1 45 44 false (ao 5 1),
 g1 46 44 false (lf 45 1),
 g1 47 44 false (lt 2 4),
 g1 48 44 false (lt 3 8),
 g1 49 44 false (.calv (.t 46) [.t 47,.t 48]),
 g1 50 44 false (.un .not (.t 49)),
 o1 51 (.pick (.t 44) (.c (.bool true)) (.t 50))]
 (.cond (.t 51)
 (sr1 [
  o1 4 (.mv (.c (.bool false)))]
  .ret)
 .skip))
 (sr1 [
 o1 52 (ao 5 0),
 o1 53 (lf 52 1),
 o1 54 (lt 3 8),
 o1 55 (.calv (.t 53) [.t 54]),
 o1 7 (.alloc zv0 50),
 ⟨none,.st (.t 7) (.t 55) 8,none,[]⟩]
 (.seq (.regd [0,1,8,2,3,4,5,6,7,9,10,11,12,13,14,15] [
 .op (o1 56 (ao 3 0)),
 .op (p1 57 (lf 56 1) [0]),
 .op (p1 64 (ao 7 0) [0,1]),
 .hide (.t 7),
 .op (o1 58 (ao 3 1)),
 .op (p1 59 (lf 58 1) [2]),
 .op (o1 60 (ao 3 2)),
 .op (p1 61 (lf 60 1) [4]),
 .op (o1 62 (ao 3 7)),
 .op (p1 63 (lf 62 1) [6])] 0 7 [
 ⟨none,.st (.t 64) (.t 57) 1,none,[0,1,8]⟩,
 ⟨some 65,ao 7 1,none,[0,1,2,3,8,9]⟩,
 ⟨none,.st (.t 65) (.t 59) 1,none,[0,1,2,3,8,9,10]⟩,
 ⟨some 66,ao 7 2,none,[0,1,2,3,4,5,8,9,10,11]⟩,
 ⟨none,.st (.t 66) (.t 61) 1,none,[0,1,2,3,4,5,8,9,10,11,12]⟩,
 ⟨some 67,ao 7 7,none,[0,1,2,3,4,5,6,7,8,9,10,11,12,13]⟩,
 ⟨none,.st (.t 67) (.t 63) 1,none,[0,1,2,3,4,5,6,7,8,9,10,11,12,13,14]⟩])
 (sr1 [
 o1 68 (lt 7 8),
 o1 69 (lt 3 8),
 o1 70 (.eqs false true [1,1,1,1,1,1,1,0] (.t 68) (.t 69)),
 m1 4 70]
 .ret))))))
def r66:List RV:=[.tmp 4]
theorem t66:Qt1 Try.prog 66 c66 r66 71:=XN Try.func66 rfl (by kernel_rfl) (by kernel_rfl) (by kernel_rfl) (by kernel_rfl)
def c68:SC:=(sr1 [
 o1 1 (.box (.t 0) 0 50),
 o1 2 (.mv (cn 0))]
 (sr1 [
 o1 3 (ao 1 1),
 o1 4 (lf 3 1),
 m1 2 4]
 .ret))
def r68:List RV:=[.tmp 2]
theorem t68:Qt1 Try.prog 68 c68 r68 5:=XN Try.func68 rfl (by kernel_rfl) (by kernel_rfl) (by kernel_rfl) (by kernel_rfl)
def c69:SC:=(sr1 [
 o1 1 (.box (.t 0) 0 50),
 o1 2 (.mv (cn 0))]
 (sr1 [
 o1 3 (ao 1 0),
 o1 4 (lf 3 1),
 m1 2 4]
 .ret))
def r69:List RV:=[.tmp 2]
theorem t69:Qt1 Try.prog 69 c69 r69 5:=XN Try.func69 rfl (by kernel_rfl) (by kernel_rfl) (by kernel_rfl) (by kernel_rfl)
def c88:SC:=(sr1 [
 o1 3 (.box (.t 0) 0 50),
 o1 4 (.box (.t 1) 0 50),
 o1 5 (.mv (cn 0))]
 (.seq (sr1 [
 o1 9 (lf 2 1),
 o1 10 (.len (.t 9)),
 o1 11 (.mv (cn 0))]
 (.block 0 (.loop (sr1 [
  o1 12 (.bin .lss (.t 11) (.t 10))]
  (.seq (.cond (.t 12)
  .skip
  (.exit 0))
  (.seq (.block 1 (sr1 [
   o1 13 (.ixs (.t 9) (.t 11) 1),
   o1 14 (lf 13 1),
   m1 7 14]
   (.seq (.regd [0,1,2,3,4,5,6,7] [
   .op (m1 15 7),
   .op (o1 16 (lt 3 8)),
   .op (p1 17 (.calv (.t 15) [.t 16]) [0,1]),
   .op (m1 18 7),
   .op (o1 19 (lt 4 8)),
   .op (p1 20 (.calv (.t 18) [.t 19]) [2,3,4]),
   .op (p1 21 (.call 89 [.t 17,.t 20]) [2,5]),
   .op (p1 8 (.mv (.t 21)) [0,1,2,3,4,5,6])] 0 0 [
])
 (sr1 [
 m1 22 8,
 o1 23 (.bin .neq (.t 22) (cn 0))]
 (.cond (.t 23)
 (sr1 [
  m1 24 8,
  m1 5 24]
  .ret)
 .skip)))))
 (.reg [
 o1 25 (.bin .add (.t 11) (cn 1)),
 m1 11 25])))))))
 (sr1 [
 o1 5 (.mv (cn 0))]
 .ret)))
def r88:List RV:=[.tmp 5]
theorem t88:Qt1 Try.prog 88 c88 r88 26:=XN Try.func88 rfl (by kernel_rfl) (by kernel_rfl) (by kernel_rfl) (by kernel_rfl)
def c89:SC:=(sr1 [
 o1 4 (.mv (cn 0))]
 (sr1 [
 m1 7 0,
 o1 8 (.call 110 [.t 7]),
 m1 5 8]
 (sr1 [
 m1 9 1,
 o1 10 (.call 110 [.t 9]),
 m1 6 10]
 (.seq (sr1 [
 m1 11 5]
 (.cond (.t 11)
 (.seq (sr1 [
  m1 12 6]
  (.cond (.t 12)
  (sr1 [
   o1 4 (.mv (cn 0))]
   .ret)
  .skip))
  (sr1 [
  o1 4 (.mv (.c (.int .i64 (-1))))]
  .ret))
 .skip))
 (.seq (sr1 [
 m1 13 6]
 (.cond (.t 13)
 (sr1 [
  o1 4 (.mv (cn 1))]
  .ret)
 .skip))
 (.seq (sr1 [
 m1 14 0,
 m1 15 1,
 o1 16 (.bin .lss (.t 14) (.t 15))]
 (.cond (.t 16)
 (sr1 [
  o1 4 (.mv (.c (.int .i64 (-1))))]
  .ret)
 .skip))
 (.seq (sr1 [
 m1 17 0,
 m1 18 1,
 o1 19 (.bin .gtr (.t 17) (.t 18))]
 (.cond (.t 19)
 (sr1 [
  o1 4 (.mv (cn 1))]
  .ret)
 .skip))
 (sr1 [
 o1 4 (.mv (cn 0))]
 .ret))))))))
def r89:List RV:=[.tmp 4]
theorem t89:Qt1 Try.prog 89 c89 r89 20:=XN Try.func89 rfl (by kernel_rfl) (by kernel_rfl) (by kernel_rfl) (by kernel_rfl)
def c110:SC:=(sr1 [
 o1 2 (.mv (.c (.bool false)))]
 (sr1 [
 m1 3 0,
 m1 4 0,
 o1 5 (.bin .neq (.t 3) (.t 4)),
 m1 2 5]
 .ret))
def r110:List RV:=[.tmp 2]
theorem t110:Qt1 Try.prog 110 c110 r110 6:=XN Try.func110 rfl (by kernel_rfl) (by kernel_rfl) (by kernel_rfl) (by kernel_rfl)
def c90:SC:=(sr1 [
 o1 2 (.box (.t 0) 0 24),
 o1 3 (.box (.t 1) 0 50),
 o1 4 (.mv (.c (.bool false)))]
 (sr1 [
 o1 4 (.mv (.c (.bool true)))]
 .ret))
def r90:List RV:=[.tmp 4]
theorem t90:Qt1 Try.prog 90 c90 r90 5:=XN Try.func90 rfl (by kernel_rfl) (by kernel_rfl) (by kernel_rfl) (by kernel_rfl)
def c91:SC:=(sr1 [
 o1 1 (.box (.t 0) 0 50),
 o1 2 (.alloc zv0 50)]
 (sr1 [
 o1 3 (ao 1 6),
 o1 4 (lf 3 1),
 o1 5 (.build zv0 [(6,1,.t 4)]),
 ⟨none,.st (.t 2) (.t 5) 8,none,[]⟩]
 .ret))
def r91:List RV:=[.cell 2 8 true]
theorem t91:Qt1 Try.prog 91 c91 r91 6:=XN Try.func91 rfl (by kernel_rfl) (by kernel_rfl) (by kernel_rfl) (by kernel_rfl)
def c92:SC:=(sr1 [
 o1 1 (.box (.t 0) 0 50),
 o1 2 (.alloc zv0 50)]
 (sr1 [
 o1 3 (ao 1 5),
 o1 4 (lf 3 1),
 o1 5 (.build zv0 [(5,1,.t 4)]),
 ⟨none,.st (.t 2) (.t 5) 8,none,[]⟩]
 .ret))
def r92:List RV:=[.cell 2 8 true]
theorem t92:Qt1 Try.prog 92 c92 r92 6:=XN Try.func92 rfl (by kernel_rfl) (by kernel_rfl) (by kernel_rfl) (by kernel_rfl)
def c93:SC:=(sr1 [
 o1 1 (.box (.t 0) 0 50),
 o1 2 (.alloc zv0 50)]
 (sr1 [
 o1 3 (ao 1 3),
 o1 4 (lf 3 1),
 o1 5 (ao 1 4),
 o1 6 (lf 5 1),
 o1 7 (ao 1 6),
 o1 8 (lf 7 1),
 o1 9 (.build zv0 [(3,1,.t 4),(4,1,.t 6),(6,1,.t 8)]),
 ⟨none,.st (.t 2) (.t 9) 8,none,[]⟩]
 .ret))
def r93:List RV:=[.cell 2 8 true]
theorem t93:Qt1 Try.prog 93 c93 r93 10:=XN Try.func93 rfl (by kernel_rfl) (by kernel_rfl) (by kernel_rfl) (by kernel_rfl)
def c94:SC:=(sr1 [
 o1 2 (.box (.t 0) 0 24),
 o1 3 (.box (.t 1) 0 50),
 o1 4 (.mv (.c (.bool false)))]
 (sr1 [
 o1 5 (lt 2 4),
 o1 6 (ao 3 3),
 o1 7 (lf 6 1),
 o1 8 (.call 54 [.t 5,.t 7]),
 o1 9 (.bin .geq (.t 8) (cn 0)),
 m1 10 9,
 g1 11 10 true (lt 2 4),
 g1 12 10 true (ao 3 4),
 g1 13 10 true (lf 12 1),
 g1 14 10 true (.call 54 [.t 11,.t 13]),
 g1 15 10 true (.bin .geq (.t 14) (cn 0)),
 o1 16 (.pick (.t 10) (.t 15) (.c (.bool false))),
 m1 17 16,
 g1 18 17 true (ao 3 3),
 g1 19 17 true (lf 18 1),
 g1 20 17 true (ao 3 4),
 g1 21 17 true (lf 20 1),
 g1 22 17 true (.bin .neq (.t 19) (.t 21)),
 o1 23 (.pick (.t 17) (.t 22) (.c (.bool false))),
 m1 4 23]
 .ret))
def r94:List RV:=[.tmp 4]
theorem t94:Qt1 Try.prog 94 c94 r94 24:=XN Try.func94 rfl (by kernel_rfl) (by kernel_rfl) (by kernel_rfl) (by kernel_rfl)
def c97:SC:=(sr1 [
 o1 1 (.box (.t 0) 0 50),
 o1 2 (.alloc zv0 50)]
 (sr1 [
 o1 3 (ao 1 3),
 o1 4 (lf 3 1),
 o1 5 (ao 1 5),
 o1 6 (lf 5 1),
 o1 7 (.build zv0 [(3,1,.t 4),(5,1,.t 6)]),
 ⟨none,.st (.t 2) (.t 7) 8,none,[]⟩]
 .ret))
def r97:List RV:=[.cell 2 8 true]
theorem t97:Qt1 Try.prog 97 c97 r97 8:=XN Try.func97 rfl (by kernel_rfl) (by kernel_rfl) (by kernel_rfl) (by kernel_rfl)
def c98:SC:=(sr1 [
 o1 2 (.box (.t 0) 0 24),
 o1 3 (.box (.t 1) 0 50),
 o1 4 (.mv (.c (.bool false)))]
 (sr1 [
 o1 5 (lt 2 4),
 o1 6 (ao 3 3),
 o1 7 (lf 6 1),
 o1 8 (.call 54 [.t 5,.t 7]),
 o1 9 (.bin .geq (.t 8) (cn 0)),
 m1 4 9]
 .ret))
def r98:List RV:=[.tmp 4]
theorem t98:Qt1 Try.prog 98 c98 r98 10:=XN Try.func98 rfl (by kernel_rfl) (by kernel_rfl) (by kernel_rfl) (by kernel_rfl)
def c102:SC:=(sr1 [
 o1 1 (.box (.t 0) 0 50),
 o1 2 (.alloc zv0 50)]
 (sr1 [
 o1 3 (ao 1 5),
 o1 4 (lf 3 1),
 o1 5 (ao 1 4),
 o1 6 (lf 5 1),
 o1 7 (ao 1 6),
 o1 8 (lf 7 1),
 o1 9 (.build zv0 [(5,1,.t 4),(4,1,.t 6),(6,1,.t 8)]),
 ⟨none,.st (.t 2) (.t 9) 8,none,[]⟩]
 .ret))
def r102:List RV:=[.cell 2 8 true]
theorem t102:Qt1 Try.prog 102 c102 r102 10:=XN Try.func102 rfl (by kernel_rfl) (by kernel_rfl) (by kernel_rfl) (by kernel_rfl)
def c81:SC:=(sr1 [
 o1 4 (.mv (cn 0))]
 (.seq (sr1 [
 m1 6 0,
 o1 7 (.len (.t 6)),
 o1 8 (.mv (cn 0))]
 (.block 0 (.loop (sr1 [
  o1 9 (.bin .lss (.t 8) (.t 7))]
  (.seq (.cond (.t 9)
  .skip
  (.exit 0))
  (.seq (.block 1 (sr1 [
   m1 10 8,
   m1 5 10]
   (sr1 [
   m1 11 1,
   m1 12 0,
   m1 13 5,
   o1 14 (.ixs (.t 12) (.t 13) 1),
   o1 15 (lf 14 1),
   o1 16 (.calv (.t 11) [.t 15])]
   (.cond (.t 16)
   (sr1 [
    m1 17 5,
    m1 4 17]
    .ret)
   .skip))))
  (.reg [
  o1 18 (.bin .add (.t 8) (cn 1)),
  m1 8 18])))))))
 (sr1 [
 o1 4 (.mv (.c (.int .i64 (-1))))]
 .ret)))
def r81:List RV:=[.tmp 4]
theorem t81:Qt1 Try.prog 81 c81 r81 19:=XN Try.func81 rfl (by kernel_rfl) (by kernel_rfl) (by kernel_rfl) (by kernel_rfl)
def c58:SC:=(sr1 [
 o1 4 (.mv (cn 0))]
 (.seq (sr1 [
 m1 6 0,
 o1 7 (.len (.t 6)),
 o1 8 (.mv (cn 0))]
 (.block 0 (.loop (sr1 [
  o1 9 (.bin .lss (.t 8) (.t 7))]
  (.seq (.cond (.t 9)
  .skip
  (.exit 0))
  (.seq (.block 1 (sr1 [
   m1 10 8,
   m1 5 10]
   (sr1 [
   m1 11 1,
   m1 12 0,
   m1 13 5,
   o1 14 (.ixs (.t 12) (.t 13) 1),
   o1 15 (lf 14 1),
   o1 16 (.bin .eql (.t 11) (.t 15))]
   (.cond (.t 16)
   (sr1 [
    m1 17 5,
    m1 4 17]
    .ret)
   .skip))))
  (.reg [
  o1 18 (.bin .add (.t 8) (cn 1)),
  m1 8 18])))))))
 (sr1 [
 o1 4 (.mv (.c (.int .i64 (-1))))]
 .ret)))
def r58:List RV:=[.tmp 4]
theorem t58:Qt1 Try.prog 58 c58 r58 19:=XN Try.func58 rfl (by kernel_rfl) (by kernel_rfl) (by kernel_rfl) (by kernel_rfl)
end Go.Proofs.Ythilckbkffjliaa
namespace Go.Sx
open Go Go.RowKit
section typed
variable {K V:Type} [DecidableEq K]
def mpS (key:K->Value) (val:V->SV) (L:List (Nat × K × V)):List (Nat × Value × SV):=L.map fun e=>(e.1,key e.2.1,val e.2.2)
def mget (k:K):List (Nat × K × V)->Option V
 | []=>none
 | e :: l=>if e.2.1=k then some e.2.2 else mget k l
def mset (c:Nat) (k:K) (v:V):List (Nat × K × V)->List (Nat × K × V)
 | []=>[(c,k,v)]
 | e :: l=>if e.2.1=k then (e.1,k,v) :: l else e :: mset c k v l
def UT (k:K):List (Nat × K × V)->List (Nat × K × V)
 | []=>[]
 | e :: l=>if e.2.1=k then l else e :: UT k l
def mclk (c:Nat) (k:K) (L:List (Nat × K × V)):Nat:=bif (mget k L).isSome then c else c+1
def fI (k:K):List K->List MapEntry->Nat->Option (Nat × Value)
 | q :: ks,e :: ys,i=>if q=k then some (i,e.val) else fI k ks ys (i+1)
 | _,_,_=>none
structure KeyT (P:Program) (kt:TypeId) (key:K->Value) (sv:K->SV):Prop where
 chk:∀ (em:Bool) (k:K) (w:World),(Instr.checkKey em 10000 kt (key k)).run P w = .ok () w
 fnd:∀ (k:K) (ks:List K) (ys:List MapEntry) (w:World),ys.map (·.key)=ks.map key->(Instr.findKey kt (key k) ys).run P w = .ok (fI k ks ys 0) w
 same:∀ k,Instr.sameBits 10000 (key k) (key k)=true
 svR:∀ {w:World} {E:Env} {n ok:Nat->Prop} (k:K) (y:Value),R w E n ok (sv k) y↔y=key k
theorem VT {w:World} {E:Env} {n ok:Nat->Prop} {key:K->Value} {val:V->SV} (k:K):∀ (L:List (Nat × K × V)) (ys:List MapEntry) (i:Nat),RM w E n ok (mpS key val L) ys ->
 (mget k L=none/\fI k (L.map (·.2.1)) ys i=none/\UT k L=L/\∀ {w':World} {E':Env} {n' ok':Nat->Prop} c v' y',R w' E' n' ok' (val v') y'->RM w' E' n' ok' (mpS key val L) ys->RM w' E' n' ok' (mpS key val (mset c k v' L)) (ys ++ [⟨key k,y',c⟩])) \/
 ∃ j v e,mget k L=some v/\fI k (L.map (·.2.1)) ys i=some (i+j,e.val)/\ys[j]? = some e/\e.key=key k/\R w E n ok (val v) e.val /\
  (∀ {w':World} {E':Env} {n' ok':Nat->Prop},RM w' E' n' ok' (mpS key val L) ys->RM w' E' n' ok' (mpS key val (UT k L)) (ys.eraseIdx j)/\∀ c v' y',R w' E' n' ok' (val v') y'->RM w' E' n' ok' (mpS key val (mset c k v' L)) (ys.modify j fun e=>{ e with key:=key k,val:=y' }))
 | [],ys,i,h=>by
  simp only [mpS,List.map_nil,RM] at h
  subst h
  exact .inl ⟨rfl,rfl,rfl,fun c v' y' hR _=>by simp only [mset,mpS,List.map_cons,List.map_nil,List.nil_append,RM];exact ⟨y',[],rfl,hR,rfl⟩⟩
 | e :: l,ys,i,h=>by
  simp only [mpS,List.map_cons,RM] at h
  obtain ⟨y,r,rfl,h1,h2⟩:=h
  by_cases hk:e.2.1=k
  . refine .inr ⟨0,e.2.2,⟨key e.2.1,y,e.1⟩,by simp [mget,hk],by simp [fI,hk],rfl,by simp [hk],h1,fun {w' E' n' ok'} h'=>?_⟩
    simp only [mpS,List.map_cons,RM] at h'
    obtain ⟨y0,r0,e0,h3,h4⟩:=h'
    cases e0
    refine ⟨by simpa [UT,hk,mpS] using h4,fun c v' y' hR=>?_⟩
    simp only [mset,hk,if_true,mpS,List.map_cons,RM]
    exact ⟨y',r,by simp,hR,h4⟩
  . rcases VT k l r (i+1) h2 with ⟨a1,a2,a3,a4⟩ | ⟨j,v,e',b1,b2,b3,b4,b5,b6⟩
    . refine .inl ⟨by simp [mget,hk,a1],by simp [fI,hk,a2],by simp [UT,hk,a3],fun {w' E' n' ok'} c v' y' hR h'=>?_⟩
      simp only [mpS,List.map_cons,RM] at h'
      obtain ⟨y0,r0,e0,h3,h4⟩:=h'
      cases e0
      simp only [mset,hk,if_false,mpS,List.map_cons,RM]
      exact ⟨y,_,rfl,h3,a4 c v' y' hR h4⟩
    . refine .inr ⟨j+1,v,e',by simp [mget,hk,b1],by simp [fI,hk,b2];omega,by simpa using b3,b4,b5,fun {w' E' n' ok'} h'=>?_⟩
      simp only [mpS,List.map_cons,RM] at h'
      obtain ⟨y0,r0,e0,h3,h4⟩:=h'
      cases e0
      obtain ⟨c1,c2⟩:=b6 h4
      refine ⟨?_,fun c v' y' hR=>?_⟩
      . simp only [UT,hk,if_false,mpS,List.map_cons,RM]
        exact ⟨y,_,by simp,h3,c1⟩
      . simp only [mset,hk,if_false,mpS,List.map_cons,RM]
        exact ⟨y,_,by simp,h3,c2 c v' y' hR⟩
omit [DecidableEq K] in
theorem VZ {w:World} {E:Env} {n ok:Nat->Prop} {key:K->Value} {val:V->SV}:∀ {L:List (Nat × K × V)} {ys:List MapEntry},RM w E n ok (mpS key val L) ys->ys.map (·.key)=(L.map (·.2.1)).map key
 | [],ys,h=>by simp only [mpS,List.map_nil,RM] at h;subst h;rfl
 | e :: l,ys,h=>by
  simp only [mpS,List.map_cons,RM] at h
  obtain ⟨y,r,rfl,h1,h2⟩:=h
  simp only [List.map_cons,List.cons.injEq,true_and]
  exact VZ h2
theorem ZkH {w:World} {E:Env} {n ok:Nat->Prop}:∀ {L:List (Nat × Value × SV)} {ys:List MapEntry},RM w E n ok L ys->∀ e ∈ ys,∃ x ∈ L,e.born=x.1/\e.key=x.2.1/\R w E n ok x.2.2 e.val
 | [],ys,h=>by simp only [RM] at h;subst h;simp
 | e :: l,ys,h=>by
  simp only [RM] at h;obtain ⟨y,r,rfl,h1,h2⟩:=h
  intro e' he'
  rcases List.mem_cons.1 he' with rfl | he'
  . exact ⟨e,by simp,rfl,rfl,h1⟩
  . obtain ⟨x,hx,h⟩:=ZkH h2 e' he';exact ⟨x,by simp [hx],h⟩
theorem Zjq {w:World} {E:Env} {n ok:Nat->Prop}:∀ {L:List (Nat × Value × SV)} {ys:List MapEntry},RM w E n ok L ys->∀ x ∈ L,∃ e ∈ ys,e.born=x.1
 | [],ys,h=>by simp
 | e :: l,ys,h=>by
  simp only [RM] at h;obtain ⟨y,r,rfl,h1,h2⟩:=h
  intro x hx
  rcases List.mem_cons.1 hx with rfl | hx
  . exact ⟨_,List.mem_cons_self,rfl⟩
  . obtain ⟨e',he',h⟩:=Zjq h2 x hx;exact ⟨e',by simp [he'],h⟩
theorem Zsl {P:Program} {kt:TypeId} {kd:IntKind} (hu:P.underlying kt=some (.int kd)):KeyT P kt (fun n:Int=>.int kd n) (fun n=>.v (.int kd n)):=by
 refine ⟨fun em k w=>MapKept.run_checkKey hu (by simp [MapKept.IsKey]) em _,fun k ks ys w h=>?_,fun k=>by simp [Instr.sameBits],fun k y=>by simp only [R]⟩
 have:∀ (ks:List Int) (ys:List MapEntry) (i:Nat),ys.map (·.key)=ks.map (fun n:Int=>Value.int kd n)->Instr.findNow (.int kd) (.int kd k) ys i=some (fI k ks ys i):=by
  intro ks ys
  induction ys generalizing ks with
  | nil=>intro i h;cases ks with
   | nil=>rfl
   | cons a b=>simp at h
  | cons e ys ih=>intro i h;cases ks with
   | nil=>simp at h
   | cons a b =>
    simp only [List.map_cons,List.cons.injEq] at h
    simp only [Instr.findNow,h.1,Instr.sameNow,if_true,fI]
    by_cases ha:a=k
    . subst ha;simp
    . have:(k == a)=false:=by simpa using fun e=>ha e.symm
      simp [this,ha,ih b (i+1) h.2]
 exact MapKept.run_findKey hu (this ks ys 0 h)
theorem Zu6 {P:Program} {kt t1:TypeId} {f1 f2:Field} (hu:P.underlying kt=some (.struct #[f1,f2])) (hu1:P.underlying t1=some (.int .i64)) (h1:f1.type=t1) (h2:f2.type=t1) (ho1:f1.offset=0) (ho2:f2.offset=1)
 (hs:XE P t1=some 1) (ha:ZaD P t1=some false) (hn:f1.name≠"_") (hn2:f2.name≠"_") (he:∀ (a b c d:Int) (w:World),(Op.equal kt (.agg #[.int .i64 a,.int .i64 b]) (.agg #[.int .i64 c,.int .i64 d])).run P w = .ok (a == c && b == d) w) :
 KeyT P kt (fun n:Int × Int=>.agg #[.int .i64 n.1,.int .i64 n.2]) (fun n=>.agg [.v (.int .i64 n.1),.v (.int .i64 n.2)]):=by
 refine ⟨fun em k w=>?_,fun k ks ys w h=>?_,fun k=>by simp [Instr.sameBits],fun k y=>?_⟩
 . have p1:(part t1 #[Value.int .i64 k.1,.int .i64 k.2] 0).run P w = .ok (.int .i64 k.1) w:=Vi (ag:=false) ha hs _ (fun _=>by simp)
   have p2:(part t1 #[Value.int .i64 k.1,.int .i64 k.2] 1).run P w = .ok (.int .i64 k.2) w:=Vi (ag:=false) ha hs _ (fun _=>by simp)
   have q:∀ x,(Instr.checkKey em 9999 t1 (.int .i64 x)).run P w = .ok () w:=fun x=>MapKept.run_checkKey hu1 (by simp [MapKept.IsKey]) em _
   rw [show (10000:Nat)=9999+1 from rfl,Instr.checkKey]
   simp [Sem.run_bind,run_underlying hu,h1,h2,ho1,ho2,hn,hn2,p1,p2,q]
 . rw [run_findKey_eq w (by rw [hu])]
   have:∀ (ks:List (Int × Int)) (ys:List MapEntry) (i:Nat),ys.map (·.key)=ks.map (fun n:Int × Int=>Value.agg #[.int .i64 n.1,.int .i64 n.2])->(Instr.findAsking kt (.agg #[.int .i64 k.1,.int .i64 k.2]) ys i).run P w = .ok (fI k ks ys i) w:=by
    intro ks ys
    induction ys generalizing ks with
    | nil=>intro i h;cases ks with
     | nil=>rfl
     | cons a b=>simp at h
    | cons e ys ih=>intro i h;cases ks with
     | nil=>simp at h
     | cons a b =>
      simp only [List.map_cons,List.cons.injEq] at h
      simp only [Instr.findAsking,h.1,Sem.run_bind,he,Result.andThen_ok,fI]
      by_cases hak:a=k
      . subst hak;simp
      . have:(k.1 == a.1 && k.2 == a.2)=false:=by
         rw [Bool.eq_false_iff];intro hh
         simp only [Bool.and_eq_true,beq_iff_eq] at hh
         exact hak (Prod.ext hh.1.symm hh.2.symm)
        simp [this,hak,ih b (i+1) h.2]
   exact this ks ys 0 h
 . simp only [R,RL]
   constructor
   . rintro ⟨cs,rfl,y1,r,hcs,rfl,y2,r2,rfl,rfl,rfl⟩
     simp only [Value.agg.injEq]
     apply Array.toList_inj.1;simp [hcs]
   . rintro rfl
     exact ⟨_,rfl,_,_,rfl,rfl,_,_,rfl,rfl,rfl⟩
end typed
section
variable {P:Program} {C:Cx} {E:Env} {σ : St} {a:Act} {w:World}
def VJ (σ : St):Operand->SV
 | .tmp u=>lk u σ.fr
 | .const x=>.v x
 | _=>.any
theorem XZ (h:Sim C E σ a w) {o:Operand} {s:SV} (hs:VJ σ o=s) (hg:∀ j b u,s≠.gd j b u):R w E (ltn σ.n) (okS C E σ.hp) s (a.eval o):=by
 cases o with
 | tmp u =>
  have:=ZxI (h.fr u) (fun j b u' e=>hg j b u' (by rw [<- hs];exact e))
  simp only [VJ] at hs;rw [hs] at this;exact this
 | const x=>simp only [VJ] at hs;subst hs;simp only [R];rfl
 | _=>simp only [VJ] at hs;subst hs;simp only [R]
theorem UX (h:Sim C E σ a w) {km c:Nat} {es:List (Nat × Value × SV)} (hk:lkh km σ.hp = .map es c) :
 ltn σ.n km/\∃ ys,w.heap[E.β km]? = some (.map ys c)/\RM w E (ltn σ.n) (okS C E σ.hp) es ys.toList:=by
 have hb:=h.hs.bk km
 rw [hk] at hb
 refine ⟨?_,hb⟩
 rcases Classical.em (ltn σ.n km) with q | q
 . exact q
 . rw [h.hs.kn km q] at hk;cases hk
theorem ZrN {d:Option Nat} {s:SV} {r:KT} {K:RK} {y:Value} {w':World} {E':Env} {hp':List (Nat × HB)} {n':Nat} {next:Act->World->Prop} (hk:Yy d s none ⟨σ.fr,hp',n',σ.N,σ.gs⟩ r K) (h:Sim C E σ a w)
 (hst:ZC w w' (okS C E σ.hp) (okS C E' hp')) (hE:∀ k,k < σ.n->Ele E E' k k) (hn:σ.n<=n') (hh:HSim C E' hp' (ltn n') w') (hR:R w' E' (ltn n') (okS C E' hp') s y)
 (hnext:∀ σ' E' a' w',r σ' K->Sim C E' σ' a' w'->next a' w'):next (a.put d y) w':=by
 rcases UU hk with ⟨g1,g2⟩ | ⟨t,g1,g2,g3,g4,g5⟩
 . rw [g1];exact hnext _ E' _ _ g2 (Yb (σ:=σ) h hst hE hn hh)
 . rw [g1]
   exact hnext _ E' _ _ g5 (Xu (σ:=σ) h hst hE hn hh g2 g3 (fun j b u e=>by rw [e] at g4;cases g4) hR)
theorem WJ {d:Option Nat} {s:SV} {r:KT} {K:RK} {y:Value} {next:Act->World->Prop} (hk:Yy d s none σ r K) (h:Sim C E σ a w) (hR:R w E (ltn σ.n) (okS C E σ.hp) s y)
 (hnext:∀ σ' E' a' w',r σ' K->Sim C E' σ' a' w'->next a' w'):next (a.put d y) w :=
 ZrN (hp':=σ.hp) (n':=σ.n) hk h (fun b hb _=>⟨hb,rfl⟩) (fun _ _=>Ele.rfl) (Nat.le_refl _) h.hs hR hnext
theorem Za4 {K':Type} [DecidableEq K'] {kt:TypeId} {key:K'->Value} {sv:K'->SV} (hK:KeyT P kt key sv) (k:K'):∀ j b u,sv k≠.gd j b u:=fun j b u e=>by
 have:=(hK.svR (w:=default) (E:=⟨fun _=>0,fun _ _=>undef,fun _=>0⟩) (n:=fun _=>True) (ok:=fun _=>True) k (key k)).2 rfl
 rw [e] at this;simp only [R] at this
theorem Zc5 {hp:List (Nat × HB)} {n:Nat->Prop} {q:Nat} {hb:HB} {o:Obj} (h:HSim C E hp n w) (hq:¬ n q) (hocc:∀ (E:Env) b,occ E q hb b↔b=E.β q)
 (hok:∀ E',(∀ k,n k->Ele E E' k k)->E'.β q=w.heap.size->ZZ (w.alloc o) E' (fun k=>n k\/k=q) (okS C E' ((q,hb) :: hp)) q hb) :
 ∃ E',(∀ k,n k->Ele E E' k k)/\E'.β q=w.heap.size/\HSim C E' ((q,hb) :: hp) (fun k=>n k\/k=q) (w.alloc o)/\ZC w (w.alloc o) (okS C E hp) (okS C E' ((q,hb) :: hp)):=by
 let E':Env:=⟨fun k=>if k=q then w.heap.size else E.β k,E.hv,E.iss⟩
 have hE:∀ k,n k->Ele E E' k k:=fun k hk=>⟨by simp [E',show k≠q from by rintro rfl;exact hq hk],Nat.le_refl _,fun _ _=>rfl⟩
 have hEn:E'.β q=w.heap.size:=by simp [E']
 have hbel:Below w.heap.size w (w.alloc o):=(Below.refl _ _).alloc (Nat.le_refl _) _
 have hoc:∀ j b,j≠q->(occ E' j (lkh j ((q,hb) :: hp)) b↔occ E j (lkh j hp) b):=fun j b hj=>by
  rw [Zm,if_neg hj]
  cases hl:lkh j hp<;>simp only [occ,E',if_neg hj]
 have hocn:∀ b,occ E' q (lkh q ((q,hb) :: hp)) b↔b=w.heap.size:=fun b=>by
  rw [Zm,if_pos rfl,hocc,hEn]
 have hlt:∀ b,b < w.heap.size->(okS C E' ((q,hb) :: hp) b↔okS C E hp b):=fun b hb'=>by
  unfold okS
  constructor
  . rintro ⟨h1,h2⟩
    refine ⟨h1,fun j hj=>?_⟩
    by_cases hjn:j=q
    . subst hjn;rw [h.kn j hq] at hj;exact hj
    . exact h2 j ((hoc j b hjn).2 hj)
  . rintro ⟨h1,h2⟩
    refine ⟨h1,fun j hj=>?_⟩
    by_cases hjn:j=q
    . subst hjn;rw [hocn] at hj;omega
    . exact h2 j ((hoc j b hjn).1 hj)
 have hst:ZC w (w.alloc o) (okS C E hp) (okS C E' ((q,hb) :: hp)):=fun b hb' hs=>by
  have hlt':b < w.heap.size:=by
   obtain ⟨o,ho⟩:=Option.isSome_iff_exists.1 hs
   exact (Array.getElem?_eq_some_iff.1 ho).1
  exact ⟨(hlt b hlt').2 hb',hbel.block b hlt'⟩
 refine ⟨E',hE,hEn,⟨fun j hj=>?_,fun j=>?_,fun j j' b h1 h2=>?_,fun j b h1=>?_,WA h.kp hbel,fun k hk=>(by obtain ⟨p1,p2⟩:=h.pin k hk;exact ⟨.inl p1,p2.trans (hE k p1)⟩)⟩,hst⟩
 . rw [Zm,if_neg (fun e=>hj (.inr e))];exact h.kn j (fun e=>hj (.inl e))
 . rw [Zm]
   by_cases hj:j=q
   . subst hj;rw [if_pos rfl]
     exact hok E' hE hEn
   . rw [if_neg hj]
     refine Yh hst hE (fun _ h=>.inl h) ?_ (fun b ho=>hbel.block b (Ym h ho)) (by simp [E',hj]) (h.bk j)
     rcases Classical.em (n j) with h' | h'
     . exact .inr h'
     . exact .inl (h.kn j h')
 . by_cases hj:j=q<;>by_cases hj':j'=q
   . omega
   . subst hj;rw [hocn] at h1;rw [hoc j' b hj'] at h2;have:=Ym h h2;omega
   . subst hj';rw [hocn] at h2;rw [hoc j b hj] at h1;have:=Ym h h1;omega
   . exact h.dj j j' b ((hoc j b hj).1 h1) ((hoc j' b hj').1 h2)
 . by_cases hj:j=q
   . subst hj;rw [hocn] at h1;exact .inl (by rw [h1];exact h.kp.size)
   . exact h.lo j b ((hoc j b hj).1 h1)
end
section
variable {P:Program} {K' V:Type} [DecidableEq K'] {key:K'->Value} {sv:K'->SV} {val:V->SV} {L:List (Nat × K' × V)} {km c:Nat} {kt et t ty:TypeId} {mx ix vx:Operand} {σ : St} {r:KT} {K:RK} {d:Option Nat} {k:K'}
theorem XW {u:Nat} {rs:Option Operand} (hr:rs=none) (h1:Xg u σ.gs=false) (h2:Nat.blt u σ.N=true) (h:r ⟨(u,.mp σ.n) :: σ.fr,(σ.n,.map [] 0) :: σ.hp,σ.n+1,σ.N,σ.gs⟩ K) :
 RAW P (some u) (.makeMap t rs) ty σ r K:=by
 subst hr
 intro o C E a w next Q e1 e2 e3 hS hn hq
 obtain ⟨E',k1,k2,k3,k4⟩:=Zc5 (q:=σ.n) (hb:=.map [] 0) (o:=.map #[] 0) hS.hs (by simp [ltn]) (fun E b=>by simp only [occ]) (fun E' g1 g2=>by
  simp only [ZZ,g2];exact ⟨#[],heap_alloc_new _ _,rfl⟩)
 have hV:(fun k=>ltn σ.n k\/k = σ.n)=ltn (σ.n+1):=by funext k;simp only [ltn,eq_iff_iff];omega
 rw [hV] at k3
 have hx:(execOp a.eval o).run P w = .ok (.value (.map (some w.heap.size))) (w.alloc (.map #[] 0)):=by
  obtain ⟨dst',op',ty',pos,after,guard⟩:=o
  simp only at e2;subst e2
  simp [execOp,Sem.run_bind,Instr.makeMap,ZcJ,Sem.run_pure]
 refine Zz hx (by simp) ?_
 show next (a.put o.dst _) _
 rw [e1]
 refine hn _ E' _ _ h (Xu hS k4 k1 (by omega) k3 (fun hh=>?_) (by simpa [Nat.blt_eq] using h2) (fun _ _ _ e=>by cases e) ?_)
 . rw [ZT.2 hh] at h1;cases h1
 . simp only [R,k2];exact ⟨by simp [ltn],trivial⟩
theorem Xv {ok:Bool} {zs:SV} {z:Value} (hm:VJ σ mx = .mp km) (hh:lkh km σ.hp = .map (mpS key val L) c) (ht:P.underlying t=some (.map kt et)) (hK:KeyT P kt key sv) (hi:VJ σ ix=sv k)
 (hz:Z5 P et=some z) (hzR:∀ w E n ok,R w E n ok zs z)
 (h1:∀ v,mget k L=some v->Yy d (bif ok then .tup [val v,.v (.bool true)] else val v) none σ r K) (h0:mget k L=none->Yy d (bif ok then .tup [zs,.v (.bool false)] else zs) none σ r K) :
 RAW P d (.lookup t mx ix ok) ty σ r K:=by
 intro o C E a w next Q e1 e2 e3 hS hn hq
 have hmv:=XZ hS hm (fun _ _ _=>by simp)
 have hiv:=(hK.svR k _).1 (XZ hS hi (Za4 hK k))
 simp only [R] at hmv
 obtain ⟨g0,ys,g1,g2⟩:=UX hS hh
 have hfn:=fun w=>hK.fnd k _ _ w (VZ g2)
 have hex:∀ y,(Instr.lookup t (a.eval mx) (a.eval ix) ok).run P w = .ok y w->(execOp a.eval o).run P w = .ok (.value y) w:=fun y hy=>by
  obtain ⟨dst',op',ty',pos,after,guard⟩:=o
  simp only at e2;subst e2
  simp only [execOp,Sem.run_bind,hy,Result.andThen_ok,Sem.run_pure]
 rcases VT (w:=w) (E:=E) (n:=ltn σ.n) (ok:=okS C E σ.hp) k L ys.toList 0 g2 with ⟨a1,a2,-,-⟩ | ⟨j,v,e,b1,b2,b3,b4,b5,-⟩
 . have hrun:(Instr.lookup t (a.eval mx) (a.eval ix) ok).run P w = .ok (if ok then .tuple #[z,.bool false] else z) w:=by
    rw [hmv.2,hiv]
    simp only [Instr.lookup,Sem.run_bind,run_underlying ht,Result.andThen_ok,Z4 g1 rfl,Sem.run_pure,hK.chk,hfn,a2,XG hz]
   refine Zz (hex _ hrun) (by simp) ?_
   show next (a.put o.dst _) _
   rw [e1]
   refine WJ (h0 a1) hS ?_ hn
   cases ok
   . exact hzR _ _ _ _
   . simp only [cond_true,if_true,R,RL];exact ⟨_,rfl,_,_,rfl,hzR _ _ _ _,_,_,rfl,rfl,rfl⟩
 . have hrun:(Instr.lookup t (a.eval mx) (a.eval ix) ok).run P w = .ok (if ok then .tuple #[e.val,.bool true] else e.val) w:=by
    rw [hmv.2,hiv]
    simp only [Instr.lookup,Sem.run_bind,run_underlying ht,Result.andThen_ok,Z4 g1 rfl,Sem.run_pure,hK.chk,hfn,b2]
   refine Zz (hex _ hrun) (by simp) ?_
   show next (a.put o.dst _) _
   rw [e1]
   refine WJ (h1 v b1) hS ?_ hn
   cases ok
   . exact b5
   . simp only [cond_true,if_true,R,RL];exact ⟨_,rfl,_,_,rfl,b5,_,_,rfl,rfl,rfl⟩
theorem Znp {v:V} {s:SV} {ins:Bool} (hm:VJ σ mx = .mp km) (hh:lkh km σ.hp = .map (mpS key val L) c) (ht:P.underlying t=some (.map kt et)) (hK:KeyT P kt key sv) (hi:VJ σ ix=sv k)
 (hv:VJ σ vx=s) (hvg:∀ j b u,s≠.gd j b u) (hsv:∀ w E n ok y,R w E n ok s y->R w E n ok (val v) y) (h:r ⟨σ.fr,(km,.map (mpS key val (mset c k v L)) (mclk c k L)) :: σ.hp,σ.n,σ.N,σ.gs⟩ K) :
 RAW P none (bif ins then .insert t mx ix vx else .mapUpdate t mx ix vx) ty σ r K:=by
 intro o C E a w next Q e1 e2 e3 hS hn hq
 have hmv:=XZ hS hm (fun _ _ _=>by simp)
 have hiv:=(hK.svR k _).1 (XZ hS hi (Za4 hK k))
 have hvv:=hsv _ _ _ _ _ (XZ hS hv hvg)
 simp only [R] at hmv
 obtain ⟨g0,ys,g1,g2⟩:=UX hS hh
 have hfn:=fun w=>hK.fnd k _ _ w (VZ g2)
 have hex:∀ w',(Instr.mapUpdate t (a.eval mx) (a.eval ix) (a.eval vx)).run P w = .ok () w'->(execOp a.eval o).run P w = .ok .skip w':=fun w' hy=>by
  obtain ⟨dst',op',ty',pos,after,guard⟩:=o
  simp only at e2;subst e2
  cases ins<;>simp only [cond_true,cond_false,execOp,Sem.run_bind,hy,Result.andThen_ok,Sem.run_pure]
 have hfin:∀ ys',((ys':Array MapEntry),mclk c k L)=(ys',mclk c k L)->(∀ {w':World} {ok':Nat->Prop},RM w' E (ltn σ.n) ok' (mpS key val L) ys.toList->R w' E (ltn σ.n) ok' (val v) (a.eval vx)->RM w' E (ltn σ.n) ok' (mpS key val (mset c k v L)) ys'.toList) ->
  next (a.put o.dst undef) (WV w (E.β km) (.map ys' (mclk c k L))):=fun ys' _ hRM=>by
  obtain ⟨q1,q2⟩:=XA (k:=km) (hb:=.map (mpS key val (mset c k v L)) (mclk c k L)) (o:=.map ys' (mclk c k L)) hS.hs (fun b=>by rw [hh];simp only [occ]) (fun b=>by simp only [occ]) (fun hlt hst=>by
   simp only [ZZ]
   exact ⟨ys',Xc hlt,hRM (Xw hst.c (fun _ _=>Ele.rfl) (fun _ h=>h) _ _ g2) (ZI hst.c (fun _ _=>Ele.rfl) (fun _ h=>h) _ _ hvv)⟩)
  rw [e1]
  exact hn _ E _ _ h (Yb hS q2 (fun _ _=>Ele.rfl) (Nat.le_refl _) q1)
 rcases VT (w:=w) (E:=E) (n:=ltn σ.n) (ok:=okS C E σ.hp) k L ys.toList 0 g2 with ⟨a1,a2,-,a4⟩ | ⟨j,v0,e,b1,b2,b3,b4,b5,b6⟩
 . have hc:mclk c k L=c+1:=by simp [mclk,a1]
   have hrun:(Instr.mapUpdate t (a.eval mx) (a.eval ix) (a.eval vx)).run P w = .ok () (WV w (E.β km) (.map (ys.push ⟨key k,a.eval vx,c⟩) (c+1))):=by
    rw [hmv.2,hiv]
    simp only [Instr.mapUpdate,Sem.run_bind,run_underlying ht,Result.andThen_ok,Z4 g1 rfl,Sem.run_pure,hK.chk,hfn,a2,YC _ g1 rfl]
   refine Zz (hex _ hrun) (by simp) ?_
   show next (a.put o.dst undef) _
   rw [<- hc]
   exact hfin _ rfl fun h1 h2=>by rw [Array.toList_push];exact a4 c v _ h2 h1
 . have hc:mclk c k L=c:=by simp [mclk,b1]
   rw [Nat.zero_add] at b2
   have hek:((ys[j]?).map (·.key)).getD (key k)=key k:=by
    have:ys[j]? = some e:=by simpa using b3
    simp [this,b4]
   have hrun:(Instr.mapUpdate t (a.eval mx) (a.eval ix) (a.eval vx)).run P w = .ok () (WV w (E.β km) (.map (ys.modify j fun e=>{ e with key:=key k,val:=a.eval vx }) c)):=by
    rw [hmv.2,hiv]
    simp only [Instr.mapUpdate,Sem.run_bind,run_underlying ht,Result.andThen_ok,Z4 g1 rfl,Sem.run_pure,hK.chk,hfn,b2,hek,Instr.keyThatStays,hK.same,if_true,YC _ g1 rfl]
   refine Zz (hex _ hrun) (by simp) ?_
   show next (a.put o.dst undef) _
   have:=hfin (ys.modify j fun e=>{ e with key:=key k,val:=a.eval vx }) rfl fun {w' ok'} h1 h2=>by
    rw [Array.toList_modify];exact (b6 h1).2 c v _ h2
   rw [hc] at this;exact this
theorem YB {v:V} {ins:Bool} (hm:VJ σ mx = .mp km) (hh:lkh km σ.hp = .map (mpS key val L) c) (ht:P.underlying t=some (.map kt et)) (hK:KeyT P kt key sv) (hi:VJ σ ix=sv k)
 (hv:VJ σ vx=val v) (hvg:∀ j b u,val v≠.gd j b u) (h:r ⟨σ.fr,(km,.map (mpS key val (mset c k v L)) (mclk c k L)) :: σ.hp,σ.n,σ.N,σ.gs⟩ K) :
 RAW P none (bif ins then .insert t mx ix vx else .mapUpdate t mx ix vx) ty σ r K:=Znp hm hh ht hK hi hv hvg (fun _ _ _ _ _ h=>h) h
theorem ZvV (hm:VJ σ mx = .mp km) (hh:lkh km σ.hp = .map (mpS key val L) c) (ht:P.underlying t=some (.map kt et)) (hK:KeyT P kt key sv) (hi:VJ σ ix=sv k) {ats:Array TypeId} (ha:ats[0]? = some t)
 (h:r ⟨σ.fr,(km,.map (mpS key val (UT k L)) c) :: σ.hp,σ.n,σ.N,σ.gs⟩ K) :
 RAW P none (.call { callee:=.builtin .delete,args:=#[mx,ix],argTypes:=ats }) ty σ r K:=by
 intro o C E a w next Q e1 e2 e3 hS hn hq
 have hmv:=XZ hS hm (fun _ _ _=>by simp)
 have hiv:=(hK.svR k _).1 (XZ hS hi (Za4 hK k))
 simp only [R] at hmv
 obtain ⟨g0,ys,g1,g2⟩:=UX hS hh
 have hfn:=fun w=>hK.fnd k _ _ w (VZ g2)
 have hex:∀ w',(Builtin.delete_ ats ty #[a.eval mx,a.eval ix]).run P w = .ok (.tuple #[]) w'->(execOp a.eval o).run P w = .ok (.value (.tuple #[])) w':=fun w' hy=>by
  obtain ⟨dst',op',ty',pos,after,guard⟩:=o
  simp only at e2 e3;subst e2;subst e3
  simp [execOp,resolve,invoke,builtin,hy]
 have hfin:∀ ys':Array MapEntry,(∀ {w':World} {ok':Nat->Prop},RM w' E (ltn σ.n) ok' (mpS key val L) ys.toList->RM w' E (ltn σ.n) ok' (mpS key val (UT k L)) ys'.toList) ->
  next (a.put o.dst (.tuple #[])) (WV w (E.β km) (.map ys' c)):=fun ys' hRM=>by
  obtain ⟨q1,q2⟩:=XA (k:=km) (hb:=.map (mpS key val (UT k L)) c) (o:=.map ys' c) hS.hs (fun b=>by rw [hh];simp only [occ]) (fun b=>by simp only [occ]) (fun hlt hst=>by
   simp only [ZZ]
   exact ⟨ys',Xc hlt,hRM (Xw hst.c (fun _ _=>Ele.rfl) (fun _ h=>h) _ _ g2)⟩)
  rw [e1]
  exact hn _ E _ _ h (Yb hS q2 (fun _ _=>Ele.rfl) (Nat.le_refl _) q1)
 rcases VT (w:=w) (E:=E) (n:=ltn σ.n) (ok:=okS C E σ.hp) k L ys.toList 0 g2 with ⟨a1,a2,a3,-⟩ | ⟨j,v0,e,b1,b2,b3,b4,b5,b6⟩
 . have hrun:(Builtin.delete_ ats ty #[a.eval mx,a.eval ix]).run P w = .ok (.tuple #[]) (WV w (E.β km) (.map ys c)):=by
    rw [hmv.2,hiv]
    simp [Builtin.delete_,Sem.run_bind,ha,run_underlying ht,Result.andThen_ok,Z4 g1 rfl,Sem.run_pure,hK.chk,hfn,a2,YC _ g1 rfl]
   refine Zz (hex _ hrun) (by simp) ?_
   show next (a.put o.dst _) _
   exact hfin _ fun h1=>by rw [a3];exact h1
 . rw [Nat.zero_add] at b2
   have hlt:j < ys.size:=by
    have:ys[j]? = some e:=by simpa using b3
    exact (Array.getElem?_eq_some_iff.1 this).1
   have hrun:(Builtin.delete_ ats ty #[a.eval mx,a.eval ix]).run P w = .ok (.tuple #[]) (WV w (E.β km) (.map (ys.eraseIdxIfInBounds j) c)):=by
    rw [hmv.2,hiv]
    simp [Builtin.delete_,Sem.run_bind,ha,run_underlying ht,Result.andThen_ok,Z4 g1 rfl,Sem.run_pure,hK.chk,hfn,b2,YC _ g1 rfl]
   refine Zz (hex _ hrun) (by simp) ?_
   show next (a.put o.dst _) _
   exact hfin _ fun {w' ok'} h1=>by
    have:(ys.eraseIdxIfInBounds j).toList=ys.toList.eraseIdx j:=by simp [Array.eraseIdxIfInBounds,hlt]
    rw [this];exact (b6 h1).1
theorem Zdh {u:Nat} {es:List (Nat × Value × SV)} (hm:VJ σ mx = .mp km) (hh:lkh km σ.hp = .map es c) (ht:P.underlying t=some (.map kt et)) (h1:Xg u σ.gs=false) (h2:Nat.blt u σ.N=true)
 (h:r ⟨(u,.p σ.n 0) :: σ.fr,(σ.n,.it km c [] c) :: σ.hp,σ.n+1,σ.N,σ.gs⟩ K):RAW P (some u) (.range t mx) ty σ r K:=by
 intro o C E a w next Q e1 e2 e3 hS hn hq
 have hmv:=XZ hS hm (fun _ _ _=>by simp)
 simp only [R] at hmv
 obtain ⟨g0,ys,g1,g2⟩:=UX hS hh
 obtain ⟨E',k1,k2,k3,k4⟩:=Zc5 (q:=σ.n) (hb:=.it km c [] c) (o:=.mapIter (some (E.β km)) c #[] c) hS.hs (by simp [ltn]) (fun E b=>by simp only [occ]) (fun E' q1 q2=>by
  simp only [ZZ,q2];exact ⟨.inl g0,by rw [(q1 km g0).1];exact heap_alloc_new _ _⟩)
 have hV:(fun k=>ltn σ.n k\/k = σ.n)=ltn (σ.n+1):=by funext k;simp only [ltn,eq_iff_iff];omega
 rw [hV] at k3
 have hx:(execOp a.eval o).run P w = .ok (.value (.pointer (some ⟨w.heap.size,0,none⟩))) (w.alloc (.mapIter (some (E.β km)) c #[] c)):=by
  obtain ⟨dst',op',ty',pos,after,guard⟩:=o
  simp only at e2;subst e2
  simp only [execOp,hmv.2]
  simp [Sem.run_bind,Instr.range,run_underlying ht,Z4 g1 rfl,ZcJ,Sem.run_pure]
 refine Zz hx (by simp) ?_
 show next (a.put o.dst _) _
 rw [e1]
 refine hn _ E' _ _ h (Xu hS k4 k1 (by omega) k3 (fun hh=>?_) (by simpa [Nat.blt_eq] using h2) (fun _ _ _ e=>by cases e) ?_)
 . rw [ZT.2 hh] at h1;cases h1
 . simp only [R,k2];exact ⟨by simp [ltn],trivial⟩
theorem Zll (w:World) (ty:TypeId) (rr bm since last:Nat) (seen:Array Nat) (es:Array MapEntry) (clock:Nat)
 (hr:w.heap[rr]? = some (.mapIter (some bm) since seen last)) (hb:w.heap[bm]? = some (.map es clock)) (hold:∀ x ∈ es.toList,x.born < since) (hsc:since<=last) :
 ((∀ x ∈ es.toList,seen.contains x.born=true)/\(Instr.next (.pointer (some ⟨rr,0,none⟩)) false ty).run P w = .ok (.tuple #[.bool false]) w) \/
 ∃ e ∈ es.toList,seen.contains e.born=false/\∃ k,(Instr.next (.pointer (some ⟨rr,0,none⟩)) false ty).run P w = .ok (.tuple #[.bool true,e.key,e.val]) (WV { w with drawn:=k } rr (.mapIter (some bm) since (seen.push e.born) clock)):=by
 have htest:(!seen.isEmpty && !es.isEmpty && es.all (fun x=>decide (x.born ≥ last)))=false:=by
  rw [Bool.eq_false_iff]
  intro hh
  simp only [Bool.and_eq_true,Bool.not_eq_true'] at hh
  obtain ⟨⟨-,h2⟩,h3⟩:=hh
  have h0:0 < es.size:=by
   rcases Nat.eq_zero_or_pos es.size with h0 | h0
   . simp [Array.isEmpty,h0] at h2
   . exact h0
  rw [Array.all_eq_true_iff_forall_mem] at h3
  have h4:=h3 _ (Array.getElem_mem h0)
  have h5:=hold es[0] (by simp)
  simp at h4;omega
 have hL:(Array.filter (fun e=>!seen.contains e.born) es).filter (fun x=>decide (x.born < since))=Array.filter (fun e=>!seen.contains e.born) es :=
  Array.filter_eq_self.2 fun x hx=>by
   simp only [Array.mem_filter] at hx;simpa using hold x (by simpa using hx.1)
 have hL2:(Array.filter (fun e=>!seen.contains e.born) es).filter (fun x=>decide (x.born ≥ since)) = #[]:=by
  rw [Array.filter_eq_empty_iff]
  intro x hx
  simp only [Array.mem_filter] at hx
  have:=hold x (by simpa using hx.1)
  simp;omega
 simp only [Instr.next,Sem.run_bind,Z4 hr rfl,Z4 hb rfl,Result.andThen_ok,htest,Bool.false_eq_true,if_false,hL,hL2,Array.append_empty]
 have hmem:∀ x,x ∈ Array.filter (fun e=>!seen.contains e.born) es↔x ∈ es.toList/\seen.contains x.born=false:=fun x=>by
  simp [Array.mem_filter]
 generalize hF:Array.filter (fun e=>!seen.contains e.born) es=F at hmem ⊢
 by_cases h0:F.size=0
 . left
   have hE:F = #[]:=Array.eq_empty_of_size_eq_zero h0
   subst hE
   refine ⟨fun x hx=>?_,?_⟩
   . cases hc:seen.contains x.born with
     | true=>rfl
     | false=>have:=(hmem x).2 ⟨hx,hc⟩;simp at this
   . simp [choose,Sem.run,Question.forced]
 . right
   have hne:F.isEmpty=false:=by simp [Array.isEmpty,h0]
   simp only [hne,Bool.false_eq_true,if_false,Array.empty_append,Array.size_map]
   have hch:∃ (j:Nat) (k:Nat),j < F.size/\(choose (Question.mapNext F.size)).run P w = .ok j { w with drawn:=k }:=by
    by_cases hf:F.size<=1
    . exact ⟨0,w.drawn,by omega,by simp [choose,Sem.run,Question.forced,hf]⟩
    . exact ⟨_,w.drawn+1,Nat.mod_lt _ (by omega),by
       simp only [choose,Sem.run,Question.forced,decide_eq_true_eq,hf,if_false,Question.cut]
       rfl⟩
   obtain ⟨j,k,hj,hrun⟩:=hch
   have hm:=(hmem F[j]).1 (Array.getElem_mem hj)
   refine ⟨F[j],hm.1,hm.2,k,?_⟩
   have hr1:({ w with drawn:=k }:World).heap[rr]? = some (.mapIter (some bm) since seen last):=hr
   simp only [hrun,Array.getElem?_map,Array.getElem?_eq_getElem hj,Option.map_some,Sem.run_bind,Result.andThen_ok,YC _ hr1 rfl,Sem.run_pure]
theorem ZeZ {q since last:Nat} {seen:List Nat} (hm:VJ σ mx = .p q 0) (hq:lkh q σ.hp = .it km since seen last) (hh:lkh km σ.hp = .map (mpS key val L) c) (hold:∀ e ∈ L,e.1 < since) (hsc:since<=last) (hK:KeyT P kt key sv)
 (h0:(∀ e ∈ L,e.1 ∈ seen)->Yy d (.tup [.v (.bool false)]) none σ r K)
 (h1:∀ e ∈ L,e.1 ∉ seen->Yy d (.tup [.v (.bool true),sv e.2.1,val e.2.2]) none ⟨σ.fr,(q,.it km since (seen ++ [e.1]) c) :: σ.hp,σ.n,σ.N,σ.gs⟩ r K) :
 RAW P d (.next mx false) ty σ r K:=by
 intro o C E a w next Q e1 e2 e3 hS hn _
 have hmv:=XZ hS hm (fun _ _ _=>by simp)
 simp only [R] at hmv
 obtain ⟨g0,ys,g1,g2⟩:=UX hS hh
 have hb:=hS.hs.bk q
 rw [hq] at hb
 obtain ⟨-,hit⟩:=hb
 have hex:∀ y w',(Instr.next (a.eval mx) false ty).run P w = .ok y w'->(execOp a.eval o).run P w = .ok (.value y) w':=fun y w' hy=>by
  obtain ⟨dst',op',ty',pos,after,guard⟩:=o
  simp only at e2 e3;subst e2;subst e3
  simp only [execOp,Sem.run_bind,hy,Result.andThen_ok,Sem.run_pure]
 rw [hmv.2] at hex
 rcases Zll (P:=P) w ty (E.β q) (E.β km) since last seen.toArray ys c hit g1 (fun x hx=>by
  obtain ⟨z,hz,z1,z2,z3⟩:=ZkH g2 x hx
  obtain ⟨e,he,rfl⟩:=List.mem_map.1 hz
  rw [z1];exact hold e he) hsc with ⟨k1,k2⟩ | ⟨e,k1,k2,k,k3⟩
 . refine Zz (hex _ _ k2) (by simp) ?_
   show next (a.put o.dst _) _
   rw [e1]
   refine WJ (h0 fun e he=>?_) hS (by simp only [R,RL];exact ⟨_,rfl,_,_,rfl,rfl,rfl⟩) hn
   obtain ⟨y,hy,hyb⟩:=Zjq g2 (e.1,key e.2.1,val e.2.2) (List.mem_map.2 ⟨e,he,rfl⟩)
   have:=k1 y hy
   rw [hyb] at this
   simpa using this
 . refine Zz (hex _ _ k3) (by simp) ?_
   show next (a.put o.dst _) _
   obtain ⟨z,hz,z1,z2,z3⟩:=ZkH g2 e k1
   obtain ⟨x,hx,rfl⟩:=List.mem_map.1 hz
   simp only at z1 z2 z3
   have hS':=ZaE hS k
   have hqn:ltn σ.n q:=by
    rcases Classical.em (ltn σ.n q) with h | h
    . exact h
    . rw [hS.hs.kn q h] at hq;cases hq
   obtain ⟨q1,q2⟩:=XA (k:=q) (hb:=.it km since (seen ++ [x.1]) c) (o:=.mapIter (some (E.β km)) since (seen.toArray.push e.born) c) hS'.hs (fun b=>by rw [hq];simp only [occ]) (fun b=>by simp only [occ]) (fun hlt hst=>by
    simp only [ZZ]
    refine ⟨g0,?_⟩
    rw [z1]
    have:(seen ++ [x.1]).toArray=seen.toArray.push x.1:=by simp
    rw [this]
    exact Xc hlt)
   rw [e1]
   refine ZrN (h1 x hx (by rw [z1] at k2;simpa using k2)) hS' q2 (fun _ _=>Ele.rfl) (Nat.le_refl _) q1 ?_ hn
   simp only [R,RL]
   have e4:=(hK.svR (w:=WV { w with drawn:=k } (E.β q) (.mapIter (some (E.β km)) since (seen.toArray.push e.born) c)) (E:=E) (n:=ltn σ.n) (ok:=okS C E ((q,.it km since (seen ++ [x.1]) c) :: σ.hp)) x.2.1 e.key).2 z2
   have z4:R { w with drawn:=k } E (ltn σ.n) (okS C E σ.hp) (val x.2.2) e.val:=ZI (w:=w) (w':={ w with drawn:=k }) (ok:=okS C E σ.hp) (fun b hb _=>⟨hb,rfl⟩) (fun _ _=>Ele.rfl) (fun _ h=>h) _ _ z3
   exact ⟨_,rfl,_,_,rfl,rfl,_,_,rfl,e4,_,_,rfl,ZI q2.c (fun _ _=>Ele.rfl) (fun _ h=>h) _ _ z4,rfl⟩
theorem Zc0 {q since:Nat} {seen:List Nat} {e:Nat × K' × V} (hm:VJ σ mx = .p q 0) (hq:lkh q σ.hp = .it km since (seen ++ [e.1]) c) (hh:lkh km σ.hp = .map (mpS key val L) c) (he:e ∈ L) (hn:(L.map (·.1)).Nodup) (hK:KeyT P kt key sv)
 (hk:Yy d (.tup [sv e.2.1,val e.2.2]) none σ r K):RAW P d (.entry mx) ty σ r K:=by
 intro o C E a w next Q e1 e2 e3 hS hnx _
 have hmv:=XZ hS hm (fun _ _ _=>by simp)
 simp only [R] at hmv
 obtain ⟨g0,ys,g1,g2⟩:=UX hS hh
 have hb:=hS.hs.bk q
 rw [hq] at hb
 obtain ⟨-,hit⟩:=hb
 have hfind:∀ (L:List (Nat × K' × V)) (ys:List MapEntry),RM w E (ltn σ.n) (okS C E σ.hp) (mpS key val L) ys->e ∈ L->(L.map (·.1)).Nodup->∃ y,ys.find? (·.born == e.1)=some y/\y.key=key e.2.1/\R w E (ltn σ.n) (okS C E σ.hp) (val e.2.2) y.val:=by
  intro L
  induction L with
  | nil=>intro ys _ he;cases he
  | cons x l ih =>
   intro ys h he hn
   simp only [mpS,List.map_cons,RM] at h
   obtain ⟨y,r,rfl,h1,h2⟩:=h
   simp only [List.map_cons,List.nodup_cons] at hn
   rcases List.mem_cons.1 he with rfl | he
   . exact ⟨⟨key e.2.1,y,e.1⟩,by simp,rfl,h1⟩
   . obtain ⟨y',q1,q2⟩:=ih r h2 he hn.2
     refine ⟨y',?_,q2⟩
     have:x.1≠e.1:=fun hx=>hn.1 (hx ▸ List.mem_map.2 ⟨e,he,rfl⟩)
     simp [this,q1]
 obtain ⟨y,f1,f2,f3⟩:=hfind L ys.toList g2 he hn
 have f1':ys.find? (·.born == e.1)=some y:=by rw [<- Array.find?_toList];exact f1
 have hrun:(Instr.entry (.pointer (some ⟨E.β q,0,none⟩))).run P w = .ok (.tuple #[y.key,y.val]) w:=by
  have:(seen ++ [e.1]).toArray.back? = some e.1:=by simp
  simp only [Instr.entry,Sem.run_bind,Z4 hit rfl,Z4 g1 rfl,Result.andThen_ok,this,bne_self_eq_false,Bool.false_eq_true,if_false,f1',Sem.run_pure]
 have hx:(execOp a.eval o).run P w = .ok (.value (.tuple #[y.key,y.val])) w:=by
  obtain ⟨dst',op',ty',pos,after,guard⟩:=o
  simp only at e2;subst e2
  simp only [execOp,Sem.run_bind,hmv.2,hrun,Result.andThen_ok,Sem.run_pure]
 refine Zz hx (by simp) ?_
 show next (a.put o.dst _) _
 rw [e1]
 refine WJ hk hS ?_ hnx
 simp only [R,RL]
 exact ⟨_,rfl,_,_,rfl,(hK.svR _ _).2 f2,_,_,rfl,f3,rfl⟩
end
section
variable {K V:Type} [DecidableEq K] {k k':K} {v:V} {c:Nat} {L:List (Nat × K × V)}
structure MW (L:List (Nat × K × V)) (c:Nat):Prop where
 bn:(L.map (·.1)).Nodup
 bl:∀ e ∈ L,e.1 < c
 kn:(L.map (·.2.1)).Nodup
omit [DecidableEq K] in
theorem MW.nil {c:Nat}:MW ([]:List (Nat × K × V)) c:=⟨List.nodup_nil,(fun e h=>by cases h),List.nodup_nil⟩
theorem W2:∀ {L:List (Nat × K × V)},mget k L=none↔∀ e ∈ L,e.2.1≠k
 | []=>by simp [mget]
 | e :: l=>by
  simp only [mget]
  split
  . rename_i hk;simp [hk]
  . rename_i hk;rw [W2];simp [hk]
theorem ZcO:∀ {L:List (Nat × K × V)} {e:Nat × K × V},(L.map (·.2.1)).Nodup->e ∈ L->mget e.2.1 L=some e.2.2
 | x :: l,e,hn,he=>by
  simp only [List.map_cons,List.nodup_cons] at hn
  simp only [mget]
  rcases List.mem_cons.1 he with rfl | he
  . simp
  . rw [if_neg (fun hx:x.2.1=e.2.1=>hn.1 (by rw [hx];exact List.mem_map.2 ⟨e,he,rfl⟩))]
    exact ZcO hn.2 he
theorem mget_set:∀ {L:List (Nat × K × V)},mget k' (mset c k v L)=if k'=k then some v else mget k' L
 | []=>by simp only [mset,mget];by_cases h:k=k'<;>simp [h,eq_comm]
 | e :: l=>by
  simp only [mset]
  by_cases he:e.2.1=k
  . rw [if_pos he]
    simp only [mget]
    by_cases hk:k=k'
    . subst hk;simp
    . rw [if_neg hk,if_neg (fun h=>hk h.symm),if_neg (fun h=>hk (he.symm.trans h))]
  . rw [if_neg he]
    simp only [mget]
    by_cases hk:e.2.1=k'
    . rw [if_pos hk,if_neg (fun h=>he (hk.trans h)),if_pos hk]
    . rw [if_neg hk,if_neg hk,mget_set]
theorem Zf2:∀ {L:List (Nat × K × V)},mget k L=none->mset c k v L=L ++ [(c,k,v)]
 | [],_=>rfl
 | e :: l,h=>by
  simp only [mget] at h
  split at h
  . cases h
  . rename_i he;simp only [mset,if_neg he,Zf2 h,List.cons_append]
theorem Ze1:∀ {L:List (Nat × K × V)},(mget k L).isSome->(mset c k v L).map (fun e=>(e.1,e.2.1))=L.map fun e=>(e.1,e.2.1)
 | [],h=>by simp [mget] at h
 | e :: l,h=>by
  simp only [mget] at h
  simp only [mset]
  split
  . rename_i he;simp [he]
  . rename_i he;rw [if_neg he] at h;simp [Ze1 h]
theorem ZkE:∀ {L:List (Nat × K × V)} {e:Nat × K × V},e ∈ mset c k v L->e ∈ L\/e.2=(k,v)
 | [],e,h=>by simp only [mset,List.mem_singleton] at h;subst h;exact .inr rfl
 | x :: l,e,h=>by
  simp only [mset] at h
  split at h
  . rcases List.mem_cons.1 h with rfl | h
    . exact .inr rfl
    . exact .inl (by simp [h])
  . rcases List.mem_cons.1 h with rfl | h
    . exact .inl (by simp)
    . rcases ZkE h with h | h
      . exact .inl (by simp [h])
      . exact .inr h
theorem MW.set (h:MW L c) (v:V):MW (mset c k v L) (mclk c k L):=by
 cases hg:mget k L with
 | none =>
  have hc:mclk c k L=c+1:=by simp [mclk,hg]
  rw [Zf2 hg,hc]
  have hk:=W2.1 hg
  refine ⟨?_,fun e he=>?_,?_⟩
  . rw [List.map_append,List.nodup_append]
    refine ⟨h.bn,by simp,fun a ha b hb=>?_⟩
    obtain ⟨e,he,rfl⟩:=List.mem_map.1 ha
    simp only [List.map_cons,List.map_nil,List.mem_singleton] at hb
    have:=h.bl e he;omega
  . rcases List.mem_append.1 he with he | he
    . have:=h.bl e he;omega
    . simp only [List.mem_singleton] at he;subst he;simp
  . rw [List.map_append,List.nodup_append]
    refine ⟨h.kn,by simp,fun a ha b hb=>?_⟩
    obtain ⟨e,he,rfl⟩:=List.mem_map.1 ha
    simp only [List.map_cons,List.map_nil,List.mem_singleton] at hb
    rw [hb];exact hk e he
 | some v0 =>
  have hc:mclk c k L=c:=by simp [mclk,hg]
  have hm:=Ze1 (c:=c) (v:=v) (k:=k) (L:=L) (by rw [hg];rfl)
  have e1:(mset c k v L).map (·.1)=L.map (·.1):=by
   have:=congrArg (List.map Prod.fst) hm;simpa [List.map_map,Function.comp_def] using this
  have e2:(mset c k v L).map (·.2.1)=L.map (·.2.1):=by
   have:=congrArg (List.map Prod.snd) hm;simpa [List.map_map,Function.comp_def] using this
  rw [hc]
  refine ⟨by rw [e1];exact h.bn,fun e he=>?_,by rw [e2];exact h.kn⟩
  have:e.1 ∈ L.map (·.1):=by rw [<- e1];exact List.mem_map.2 ⟨e,he,rfl⟩
  obtain ⟨x,hx,hxe⟩:=List.mem_map.1 this
  rw [<- hxe];exact h.bl x hx
theorem V5:∀ {L:List (Nat × K × V)},(UT k L).Sublist L
 | []=>.slnil
 | e :: l=>by
  simp only [UT]
  split
  . exact List.sublist_cons_self _ _
  . exact V5.cons_cons _
theorem MW.del (h:MW L c):MW (UT k L) c:=⟨(V5.map _).nodup h.bn,fun e he=>h.bl e (V5.subset he),(V5.map _).nodup h.kn⟩
theorem ZfP:∀ {L:List (Nat × K × V)},(L.map (·.2.1)).Nodup->mget k' (UT k L)=if k'=k then none else mget k' L
 | [],_=>by simp [UT,mget]
 | e :: l,hn=>by
  simp only [List.map_cons,List.nodup_cons] at hn
  simp only [UT]
  by_cases he:e.2.1=k
  . rw [if_pos he]
    by_cases hk:k'=k
    . rw [if_pos hk,W2]
      intro x hx hxe
      exact hn.1 (by rw [he,<- hk,<- hxe];exact List.mem_map.2 ⟨x,hx,rfl⟩)
    . rw [if_neg hk];simp only [mget];rw [if_neg (fun h=>hk (h.symm.trans he))]
  . rw [if_neg he]
    simp only [mget]
    by_cases hk:e.2.1=k'
    . rw [if_pos hk,if_pos hk,if_neg (fun h=>he (hk.trans h))]
    . rw [if_neg hk,if_neg hk,ZfP hn.2]
theorem ZvM {e:Nat × K × V} (hn:(L.map (·.2.1)).Nodup):e ∈ UT k L↔e ∈ L/\e.2.1≠k:=by
 induction L with
 | nil=>simp [UT]
 | cons x l ih =>
  simp only [List.map_cons,List.nodup_cons] at hn
  simp only [UT]
  by_cases hx:x.2.1=k
  . rw [if_pos hx]
    constructor
    . intro he
      exact ⟨by simp [he],fun h=>hn.1 (by rw [hx,<- h];exact List.mem_map.2 ⟨e,he,rfl⟩)⟩
    . rintro ⟨he,hk⟩
      rcases List.mem_cons.1 he with rfl | he
      . exact absurd hx hk
      . exact he
  . rw [if_neg hx,List.mem_cons,ih hn.2,List.mem_cons]
    constructor
    . rintro (rfl | ⟨h1,h2⟩)
      . exact ⟨.inl rfl,hx⟩
      . exact ⟨.inr h1,h2⟩
    . rintro ⟨rfl | h1,h2⟩
      . exact .inl rfl
      . exact .inr ⟨h1,h2⟩
theorem Zan:∀ {L:List (Nat × K × V)},(mget k L).isSome->(UT k L).length+1=L.length
 | [],h=>by simp [mget] at h
 | e :: l,h=>by
  simp only [mget] at h
  simp only [UT]
  split
  . simp
  . rename_i he;rw [if_neg he] at h;simp [Zan h]
omit [DecidableEq K] in
theorem ZAo {key:K->Value} {val:V->SV}:(∀ e ∈ mpS key val L,KF e.2.2)↔∀ v ∈ L.map (·.2.2),KF (val v):=by
 simp only [mpS,List.mem_map]
 exact ⟨fun h v ⟨e,he,hv⟩=>hv ▸ h _ ⟨e,he,rfl⟩,fun h _ ⟨e,he,hx⟩=>hx ▸ h _ ⟨e,he,rfl⟩⟩
omit [DecidableEq K] in
theorem Zj {key:K->Value} {val:V->SV}:(∀ (a:Nat) (b:Value) (c:SV),(a,b,c) ∈ mpS key val L->KF c)↔∀ v ∈ L.map (·.2.2),KF (val v):=by
 rw [<- ZAo (key:=key)]
 exact ⟨fun h e he=>h e.1 e.2.1 e.2.2 he,fun h a b c he=>h _ he⟩
def Zph (L:List (Nat × K × V)) (seen:List Nat):Nat:=(L.filter fun e=>!seen.contains e.1).length
omit [DecidableEq K] in
theorem ZnZ {e:Nat × K × V} {seen:List Nat} (he:e ∈ L) (hs:e.1 ∉ seen):Zph L (seen ++ [e.1]) < Zph L seen:=by
 unfold Zph
 have hsub:(L.filter fun x=>!(seen ++ [e.1]).contains x.1)=(L.filter fun x=>!seen.contains x.1).filter fun x=>!(x.1 == e.1):=by
  rw [List.filter_filter]
  congr 1;funext x
  simp only [List.contains_append,Bool.not_or]
  rw [Bool.and_comm]
  congr 1
  simp only [List.contains_cons,List.contains_nil,Bool.or_false]
 rw [hsub]
 refine Nat.lt_of_le_of_ne (List.length_filter_le _ _) fun h=>?_
 have:=List.length_filter_eq_length_iff.1 h e (by simp [he,hs])
 simp at this
end
end Go.Sx
namespace Go.Sx
open Go Go.RowKit
def Zak (s s':SV):Prop:=∀ (w:World) (E:Env) (n ok:Nat->Prop) (y:Value),R w E n ok s y->R w E n ok s' y
theorem Zak.rfl {s:SV}:Zak s s:=fun _ _ _ _ _ h=>h
theorem Vq {c:Bool} {m:Nat}:Zak (.v (.slice none 0 0)) (.sl c m []):=fun w E n ok y h=>by
 simp only [R] at h ⊢
 exact ⟨none,0,0,h,by simp,⟨Nat.le_refl _,fun _=>Eq.refl _⟩,by simp,by simp⟩
theorem WI {l l':List SV} (h:∀ (w:World) (E:Env) (n ok:Nat->Prop) (ys:List Value),RL w E n ok l ys->RL w E n ok l' ys):Zak (.tup l) (.tup l'):=fun w E n ok y hy=>by
 simp only [R] at hy ⊢
 obtain ⟨cs,h1,h2⟩:=hy
 exact ⟨cs,h1,h _ _ _ _ _ h2⟩
theorem YM {s s':SV} {l l':List SV} (h1:Zak s s') (h2:∀ (w:World) (E:Env) (n ok:Nat->Prop) (ys:List Value),RL w E n ok l ys->RL w E n ok l' ys):∀ (w:World) (E:Env) (n ok:Nat->Prop) (ys:List Value),RL w E n ok (s :: l) ys->RL w E n ok (s' :: l') ys:=fun w E n ok ys h=>by
 simp only [RL] at h ⊢
 obtain ⟨y,r,q1,q2,q3⟩:=h
 exact ⟨y,r,q1,h1 _ _ _ _ _ q2,h2 _ _ _ _ _ q3⟩
def Zl8 (rs:List RV) (res:SV):Ex->St->Prop
 | .ex _,_=>False
 | .n,σ=>∃ s,rvR rs σ = some s/\Zak s res
 | .ret,σ=>∃ s,rvR rs σ = some s/\Zak s res
 | .pan _,_=>False
theorem Zyi (rs:List RV) (res:SV) (σ : St):Zl8 rs res .n σ = ∃ s,rvR rs σ = some s/\Zak s res:=rfl
theorem ZoU (rs:List RV) (res:SV) (σ : St):Zl8 rs res .ret σ = ∃ s,rvR rs σ = some s/\Zak s res:=rfl
attribute [go_sem] Zyi ZoU
section
variable {P:Program}
theorem XS {f:FuncId} {fn:Func} {code:Code} {ir:SC} {args:List SV} {res:SV} {rs:List RV} {N:Nat} (hf:P.funcs[f]? = some fn) (hb:fn.body=some code) (hnm:Z3 P f=true) (hc:YJ P ir code=true)
 (hr:Y5 P rs fn.results.toList=true) (hN:fn.ntmps=N) (hA:args.length<=N) (ka:KFL args) (kr:KF res) (h:sx P Y0 0 ir (st0 args N) (Zl8 rs res)):Ct P f args res:=by
 refine ⟨hnm,ka,kr,fun w ok vs hR=>?_⟩
 let C:Cx:=⟨w,ok,fun _ _=>False,[],none,E0,0⟩
 have hok:∀ b,ok b->okS C E0 [] b:=fun b hb=>⟨.inl hb,fun _ h=>h⟩
 refine UF (C:=C) (E:=E0) (hp0:=[]) (n0:=0) hf hb hc hN hA rfl rfl ⟨Nat.le_refl _,fun _ _ h=>h.elim⟩
  ⟨fun k _=>rfl,fun k=>trivial,fun k k' b h=>h.elim,fun k b h=>h.elim,⟨rfl,rfl,rfl,Nat.le_refl _,fun _ _ _=>rfl⟩,fun k hk=>absurd hk (Nat.not_lt_zero k)⟩
  (ZG (fun b hb _=>⟨hok b hb,rfl⟩) (fun _ h=>Ele.rfl) (fun _ h=>h.elim) _ _ hR) Zah h fun e σ hk C' E a w' c1 c2 c3 c4 c5 hs=>?_
 have hpass:∀ k b,¬ C'.pass k b:=fun k b=>by rw [c3];exact fun h=>h
 have hend:(∃ s,rvR rs σ = some s/\Zak s res)->∃ v,(results fn a.tmps).run P w' = .ok v w'/\∃ y,Ending.returned v = .returned y/\R w' E0 (fun _=>False) (fun b=>ok b\/w.heap.size<=b) res y/\Below w.heap.size w w':=fun ⟨s,hrr,hw⟩=>by
  obtain ⟨v,h1,h2⟩:=V8 (P:=P) (fn:=fn) (a:=a) (w:=w') (E:=E) (n:=ltn σ.n) (ok:=okF C') hrr fun l hl=>ZkO hs hpass rs _ l hr hl
  have hkp:=hs.hs.kp
  have e1:okF C'=fun b=>ok b\/w.heap.size<=b:=by funext b;simp only [okF,c1,c2];rfl
  rw [e1] at h2
  have e0:C'.w0=w:=c1
  refine ⟨v,h1,v,rfl,Zgc res v kr (hw _ _ _ _ _ h2),?_⟩
  have q:=hkp
  exact ⟨by rw [<- e0];exact q.os,by rw [<- e0];exact q.tape,by rw [<- e0];exact q.output,by rw [<- e0];exact q.size,fun b hb=>by rw [<- e0];exact q.block b (by rw [e0];exact hb) (fun k=>hpass k b)⟩
 cases e with
 | ex i=>exact hk.elim
 | pan s=>exact hk.elim
 | n=>exact hend hk
 | ret=>exact hend hk
end
def ZyU (P:Program) (kt t1:TypeId):Bool :=
 match P.underlying kt with
 | some (.struct fs)=>match fs.toList with
  | [f1,f2]=>f1.type == t1 && f2.type == t1 && f1.offset == 0 && f2.offset == 1 && f1.name != "_" && f2.name != "_"
  | _=>false
 | _=>false
theorem key64 {P:Program} {kt t1:TypeId} (h:ZyU P kt t1=true) (hu1:P.underlying t1=some (.int .i64)) (hs:XE P t1=some 1) (ha:ZaD P t1=some false) (hag:ZaD P kt=some true) (hq:eqT P 5 kt=some [1,1]) :
 KeyT P kt (fun n:Int × Int=>.agg #[.int .i64 n.1,.int .i64 n.2]) (fun n=>.agg [.v (.int .i64 n.1),.v (.int .i64 n.2)]):=by
 unfold ZyU at h
 split at h
 . rename_i fs hu
   split at h
   . rename_i f1 f2 hf
     have hfs:fs = #[f1,f2]:=by apply Array.toList_inj.1;simp [hf]
     subst hfs
     simp only [Bool.and_eq_true,beq_iff_eq,bne_iff_ne] at h
     obtain ⟨⟨⟨⟨⟨h1,h2⟩,h3⟩,h4⟩,h5⟩,h6⟩:=h
     refine Zu6 hu hu1 h1 h2 h3 h4 hs ha h5 h6 fun a b c d w=>?_
     obtain ⟨ag,g1,g2,g3⟩:=Zcl 5 kt [1,1] hq 10000 (by decide)
     rw [hag] at g1
     cases g1
     exact g3 w [.int .i64 a,.int .i64 b] [.int .i64 c,.int .i64 d] (a == c && b == d) (by simp [WQ,Zl5,eqA,kbq])
   . cases h
 . cases h
theorem Ct.args {P:Program} {f:FuncId} {args args0:List SV} {res:SV} (h:Ct P f args res) (ka:KFL args0) (hw:∀ (w:World) (E:Env) (n ok:Nat->Prop) (ys:List Value),RL w E n ok args0 ys->RL w E n ok args ys):Ct P f args0 res :=
 ⟨h.1,ka,h.3,fun w ok vs hR=>h.4 w ok vs (hw _ _ _ _ _ hR)⟩
end Go.Sx
namespace Go.Azalai
structure Partner where
 id:Int
 put:Int
 share:Int
deriving DecidableEq
structure Pact where
 partners:List Partner
 calf:Int
 hire:Int
 ends:Int
deriving DecidableEq
structure Letter where
 id:Int
 day:Int
 kind:Int
 who:Int
 other:Int
 animal:Int
 rials:Int
 mouth:Bool
deriving DecidableEq
def inR (lo hi n:Int):Bool:=decide (lo<=n/\n<=hi)
def Ye (last:Int):List Partner->Bool
 | []=>true
 | x :: r=>inR (last+1) 9999 x.id && inR 0 100000000 x.put && inR 0 1000 x.share && Ye x.id r
def Zt:List Int->Int
 | []=>0
 | x :: r=>x+Zt r
def ZA (p:Pact):Bool :=
 inR 1 8 p.partners.length && inR 0 1000 p.calf && inR 0 1000 p.hire && inR 0 100000 p.ends && Ye (-1) p.partners && decide (Zt (p.partners.map (·.put))≠0) && decide (Zt (p.partners.map (·.share))=1000)
def UD (c:Nat->Int) (k i:Nat):Bool:=decide (c k > c i) || (decide (c k=c i) && decide (k < i))
def VO (c:Nat->Int) (n i:Nat):Nat:=((List.range n).filter fun k=>UD c k i).length
def byF (by':List Int) (i:Nat):Int:=by'.getD i 0
def ZE (amount:Int) (by':List Int) (i:Nat):Int:=(amount * byF by' i).tdiv (Zt by')
def Xe (amount:Int) (by':List Int) (i:Nat):Int:=(amount * byF by' i).tmod (Zt by')
def Ya (amount:Int) (by':List Int):Int:=amount - Zt ((List.range by'.length).map (ZE amount by'))
def Zy (amount:Int) (by':List Int):List Int :=
 (List.range by'.length).map fun i=>ZE amount by' i+if (VO (Xe amount by') by'.length i:Int) < Ya amount by' then 1 else 0
def ZF (p:Pact) (result:Int):List Int :=
 if result ≥ 0 then Zy result (p.partners.map (·.share)) else (Zy (-result) (p.partners.map (·.put))).map fun n=>-n
theorem Vv:∀ {a b:List Int},Zt (a ++ b)=Zt a+Zt b
 | [],b=>by simp [Zt]
 | x :: a,b=>by simp only [List.cons_append,Zt];rw [Vv];omega
theorem ZiL {a b:List Int} (h:a.Perm b):Zt a=Zt b:=by
 induction h with
 | nil=>rfl
 | cons x _ ih=>simp only [Zt];omega
 | swap x y l=>simp only [Zt];omega
 | trans _ _ h1 h2=>omega
theorem Yc {α : Type} (f g:α->Int):∀ l:List α,Zt (l.map fun x=>f x+g x)=Zt (l.map f)+Zt (l.map g)
 | []=>rfl
 | x :: l=>by simp only [List.map_cons,Zt];rw [Yc f g l];omega
theorem XT:∀ {l:List Int},(∀ x ∈ l,0<=x)->0<=Zt l
 | [],_=>by simp [Zt]
 | x :: l,h=>by
  have:=h x (by simp)
  have:=XT (l:=l) fun y hy=>h y (by simp [hy])
  simp only [Zt];omega
theorem Zd5 {l:List Int} {b:Int}:(∀ x ∈ l,x<=b)->Zt l<=l.length * b:=by
 induction l with
 | nil=>intro _;simp [Zt]
 | cons x l ih =>
  intro h
  have h1:=h x (by simp)
  have h2:=ih fun y hy=>h y (by simp [hy])
  simp only [Zt,List.length_cons]
  rw [show ((l.length+1:Nat):Int)=(l.length:Int)+1 from by omega,Int.add_mul];omega
theorem ZcQ {c:Int} {f:Nat->Int}:∀ l:List Nat,Zt (l.map fun i=>c * f i)=c * Zt (l.map f)
 | []=>by simp [Zt]
 | x :: l=>by simp only [List.map_cons,Zt];rw [ZcQ l,Int.mul_add]
theorem Zng (by':List Int):(List.range by'.length).map (byF by')=by':=by
 apply List.ext_getElem
 . simp
 . intro i h1 h2
   simp [byF,List.getElem?_eq_getElem h2]
theorem Zq2 {amount:Int} {by':List Int}:Zt ((List.range by'.length).map (Xe amount by'))=Zt by' * Ya amount by':=by
 have e:Zt ((List.range by'.length).map fun i=>Zt by' * ZE amount by' i+Xe amount by' i)=amount * Zt by':=by
  have:(fun i=>Zt by' * ZE amount by' i+Xe amount by' i)=fun i=>amount * byF by' i:=by
   funext i
   simp only [ZE,Xe]
   have:=Int.tmod_add_mul_tdiv (amount * byF by' i) (Zt by')
   omega
  rw [this,ZcQ,Zng]
 rw [Yc,ZcQ] at e
 rw [Ya,Int.mul_sub,Int.mul_comm (Zt by') amount]
 omega
theorem Zaa {amount:Int} {by':List Int} (ha:0<=amount) (hb:∀ x ∈ by',0<=x) (hs:0 < Zt by') (i:Nat):0<=Xe amount by' i/\Xe amount by' i < Zt by':=by
 have h0:0<=byF by' i:=by
  unfold byF
  by_cases h:i < by'.length
  . rw [List.getD_eq_getElem?_getD,List.getElem?_eq_getElem h];exact hb _ (List.getElem_mem h)
  . rw [List.getD_eq_getElem?_getD,List.getElem?_eq_none (by omega)];simp
 exact ⟨Int.tmod_nonneg _ (Int.mul_nonneg ha h0),Int.tmod_lt_of_pos _ hs⟩
theorem UQ {amount:Int} {by':List Int} (ha:0<=amount) (hb:∀ x ∈ by',0<=x) (hs:0 < Zt by'):0<=Ya amount by'/\Ya amount by' < by'.length:=by
 have e:=Zq2 (amount:=amount) (by':=by')
 have h1:0<=Zt ((List.range by'.length).map (Xe amount by')):=XT fun x hx=>by
  obtain ⟨i,_,rfl⟩:=List.mem_map.1 hx
  exact (Zaa ha hb hs i).1
 have h2:Zt ((List.range by'.length).map (Xe amount by'))<=((List.range by'.length).map (Xe amount by')).length * (Zt by' - 1):=Zd5 fun x hx=>by
  obtain ⟨i,_,rfl⟩:=List.mem_map.1 hx
  have:=(Zaa ha hb hs i).2
  omega
 simp only [List.length_map,List.length_range] at h2
 rw [e] at h1 h2
 have hn:by'.length≠0:=by
  intro h;have:=List.eq_nil_of_length_eq_zero h;subst this;simp [Zt] at hs
 constructor
 . apply Classical.byContradiction;intro hc
   have:Zt by' * Ya amount by' < 0:=Int.mul_neg_of_pos_of_neg hs (by omega)
   omega
 . apply Classical.byContradiction;intro hc
   have q:Zt by' * by'.length<=Zt by' * Ya amount by':=Int.mul_le_mul_of_nonneg_left (by omega) (by omega)
   rw [Int.mul_sub,Int.mul_one,Int.mul_comm (by'.length:Int) (Zt by')] at h2
   omega
theorem Zu5 (c:Nat->Int) (i:Nat):UD c i i=false:=by simp [UD]
theorem Zpo {c:Nat->Int} {i k:Nat} (h:UD c i k=true):UD c k i=false:=by
 simp only [UD,Bool.or_eq_true,Bool.and_eq_true,decide_eq_true_eq] at h
 simp only [UD,Bool.or_eq_false_iff,Bool.and_eq_false_iff,decide_eq_false_iff_not]
 omega
theorem Zvt {c:Nat->Int} {i k:Nat} (h:i≠k):UD c i k=true\/UD c k i=true:=by
 simp only [UD,Bool.or_eq_true,Bool.and_eq_true,decide_eq_true_eq];omega
theorem Zj9 {c:Nat->Int} {i j k:Nat} (h1:UD c i j=true) (h2:UD c j k=true):UD c i k=true:=by
 simp only [UD,Bool.or_eq_true,Bool.and_eq_true,decide_eq_true_eq] at *;omega
theorem Zaf {R:Nat->Nat->Bool} (hirr:∀ i,R i i=false) (has:∀ i k,R i k=true->R k i=false):∀ {O:List Nat},O.Pairwise (fun a b=>R a b=true)->∀ (r:Nat) (h:r < O.length),(O.filter fun k=>R k O[r]).length=r
 | [],_,r,h=>by simp at h
 | x :: O,hp,0,_=>by
  rw [List.pairwise_cons] at hp
  have:((x :: O).filter fun k=>R k x)=[]:=by
   rw [List.filter_eq_nil_iff]
   intro k hk
   rcases List.mem_cons.1 hk with rfl | hk
   . simp [hirr]
   . simp [has _ _ (hp.1 k hk)]
  simpa using congrArg List.length this
 | x :: O,hp,r+1,h=>by
  rw [List.pairwise_cons] at hp
  have hr:r < O.length:=by simpa using h
  have h1:R x O[r]=true:=hp.1 _ (List.getElem_mem hr)
  simp only [List.getElem_cons_succ,List.filter_cons,h1,if_true,List.length_cons]
  rw [Zaf hirr has hp.2 r hr]
theorem ZaH {c:Nat->Int} {n:Nat} {O:List Nat} (hp:O.Perm (List.range n)) (ho:O.Pairwise fun a b=>UD c a b=true) {t i:Nat} (hi:i < n):i ∈ O.take t↔VO c n i < t:=by
 have hm:i ∈ O:=hp.mem_iff.2 (List.mem_range.2 hi)
 obtain ⟨r,hr,rfl⟩:=List.getElem_of_mem hm
 have e:VO c n O[r]=r:=by
  rw [VO,<- (hp.filter _).length_eq]
  exact Zaf (R:=UD c) (Zu5 c) (fun i k=>Zpo) ho r hr
 have hnd:O.Nodup:=hp.nodup_iff.2 List.nodup_range
 rw [e,List.mem_take_iff_getElem]
 constructor
 . rintro ⟨j,hj,h⟩
   have hne:=List.pairwise_iff_getElem.1 (List.nodup_iff_pairwise_ne.1 hnd)
   rcases Nat.lt_trichotomy j r with q | q | q
   . exact absurd h (hne j r (by omega) hr q)
   . omega
   . exact absurd h.symm (hne r j hr (by omega) q)
 . intro h
   exact ⟨r,by omega,rfl⟩
theorem ZgN {c:Nat->Int} {n:Nat} {O:List Nat} (hp:O.Perm (List.range n)) (ho:O.Pairwise fun a b=>UD c a b=true) {t:Nat} (ht:t<=n):Zt ((List.range n).map fun i=>if VO c n i < t then 1 else 0)=t:=by
 have h1:Zt ((List.range n).map fun i=>if VO c n i < t then (1:Int) else 0)=Zt (O.map fun i=>if VO c n i < t then (1:Int) else 0):=ZiL ((hp.map _).symm)
 have hnd:O.Nodup:=hp.nodup_iff.2 List.nodup_range
 have hlen:O.length=n:=by rw [hp.length_eq,List.length_range]
 rw [h1,<- List.take_append_drop t O,List.map_append,Vv]
 have hin:∀ i ∈ O.take t,(if VO c n i < t then (1:Int) else 0)=1:=fun i hi=>by
  rw [if_pos ((ZaH hp ho (List.mem_range.1 (hp.mem_iff.1 (List.mem_of_mem_take hi)))).1 hi)]
 have hout:∀ i ∈ O.drop t,(if VO c n i < t then (1:Int) else 0)=0:=fun i hi=>by
  refine if_neg fun q=>?_
  have h2:=(ZaH hp ho (List.mem_range.1 (hp.mem_iff.1 (List.mem_of_mem_drop hi)))).2 q
  have hnd':=hnd
  rw [<- List.take_append_drop t O,List.nodup_append] at hnd'
  exact hnd'.2.2 i h2 i hi rfl
 have k1:∀ l:List Nat,(∀ i ∈ l,(if VO c n i < t then (1:Int) else 0)=1)->Zt (l.map fun i=>if VO c n i < t then (1:Int) else 0)=l.length:=by
  intro l
  induction l with
  | nil=>intro _;rfl
  | cons x l ih=>intro h;simp only [List.map_cons,Zt,h x (by simp),ih fun i hi=>h i (by simp [hi]),List.length_cons];omega
 have k0:∀ l:List Nat,(∀ i ∈ l,(if VO c n i < t then (1:Int) else 0)=0)->Zt (l.map fun i=>if VO c n i < t then (1:Int) else 0)=0:=by
  intro l
  induction l with
  | nil=>intro _;rfl
  | cons x l ih=>intro h;simp only [List.map_cons,Zt,h x (by simp),ih fun i hi=>h i (by simp [hi])];omega
 rw [k1 _ hin,k0 _ hout,List.length_take]
 omega
def ZxT (c:Nat->Int) (x:Nat):List Nat->List Nat
 | []=>[x]
 | y :: l=>if UD c x y=true then x :: y :: l else y :: ZxT c x l
def ZBo (c:Nat->Int):List Nat->List Nat
 | []=>[]
 | x :: l=>ZxT c x (ZBo c l)
theorem ZaG {c:Nat->Int} {x:Nat}:∀ {l:List Nat},(ZxT c x l).Perm (x :: l)
 | []=>.refl _
 | y :: l=>by
  simp only [ZxT]
  split
  . exact .refl _
  . exact ((ZaG (c:=c) (x:=x) (l:=l)).cons y).trans (.swap x y l)
theorem W0 {c:Nat->Int}:∀ {l:List Nat},(ZBo c l).Perm l
 | []=>.refl _
 | x :: l=>ZaG.trans ((W0 (l:=l)).cons x)
theorem Zfk {c:Nat->Int} {x:Nat}:∀ {l:List Nat},l.Pairwise (fun a b=>UD c a b=true)->x ∉ l->(ZxT c x l).Pairwise fun a b=>UD c a b=true
 | [],_,_=>List.pairwise_singleton _ _
 | y :: l,h,hx=>by
  rw [List.pairwise_cons] at h
  simp only [List.mem_cons,not_or] at hx
  simp only [ZxT]
  split
  . rename_i q
    rw [List.pairwise_cons]
    refine ⟨fun z hz=>?_,List.pairwise_cons.2 h⟩
    rcases List.mem_cons.1 hz with rfl | hz
    . exact q
    . exact Zj9 q (h.1 z hz)
  . rename_i q
    rw [List.pairwise_cons]
    refine ⟨fun z hz=>?_,Zfk h.2 hx.2⟩
    rcases List.mem_cons.1 ((ZaG (c:=c) (x:=x) (l:=l)).mem_iff.1 hz) with rfl | hz
    . exact (Zvt hx.1).resolve_left q
    . exact h.1 z hz
theorem Zam {c:Nat->Int}:∀ {l:List Nat},l.Nodup->(ZBo c l).Pairwise fun a b=>UD c a b=true
 | [],_=>.nil
 | x :: l,h=>by
  rw [List.nodup_cons] at h
  exact Zfk (Zam h.2) fun hm=>h.1 (W0.mem_iff.1 hm)
theorem Zbh {amount:Int} {by':List Int} (ha:0<=amount) (hb:∀ x ∈ by',0<=x) (hs:0 < Zt by'):Zt (Zy amount by')=amount:=by
 have hl:=UQ ha hb hs
 rw [Zy,Yc]
 have e:Ya amount by'=((Ya amount by').toNat:Nat):=by omega
 have h2:=ZgN (c:=Xe amount by') (n:=by'.length) (O:=ZBo (Xe amount by') (List.range by'.length)) W0 (Zam List.nodup_range) (t:=(Ya amount by').toNat) (by omega)
 have h3:Zt ((List.range by'.length).map fun i=>if (VO (Xe amount by') by'.length i:Int) < Ya amount by' then (1:Int) else 0)=Ya amount by':=by
  rw [show Ya amount by'=((Ya amount by').toNat:Int) from e]
  rw [<- e]
  conv=>rhs;rw [e]
  rw [<- h2]
  congr 1
  apply List.map_congr_left
  intro i _
  by_cases q:VO (Xe amount by') by'.length i < (Ya amount by').toNat
  . rw [if_pos q,if_pos (by omega)]
  . rw [if_neg q,if_neg (by omega)]
 rw [h3,Ya];omega
def atP (p:Pact) (id:Int):Bool:=p.partners.any fun x=>decide (x.id=id)
def Zk (p:Pact) (x:Letter):Bool :=
 inR 0 9999 x.id && inR 0 100000 x.day &&
  (if x.kind=1\/x.kind=2 then inR 0 10000000 x.rials && decide (x.who=0/\x.other=0/\x.animal=0)
  else if x.kind=3 then atP p x.who && inR 0 9999 x.animal && decide (x.other=0/\x.rials=0)
  else if x.kind=4\/x.kind=5 then inR 0 9999 x.animal && decide (x.who=0/\x.other=0/\x.rials=0)
  else if x.kind=6 then inR 0 9999 x.animal && inR 0 9999 x.other && inR 0 10000000 x.rials && decide (x.who=0)
  else if x.kind=7\/x.kind=8 then atP p x.who && atP p x.other && decide (x.who≠x.other) && inR 0 10000000 x.rials && decide (x.animal=0)
  else false)
def ZgD:List Letter->Bool
 | []=>false
 | x :: l=>(l.any fun y=>decide (y.id=x.id) && decide (y≠x)) || ZgD l
def Y8 (ends:Int):List Int->List Letter->List Letter
 | _,[]=>[]
 | seen,x :: l=>if x.id ∈ seen\/x.day > ends then Y8 ends (x.id :: seen) l else x :: Y8 ends (x.id :: seen) l
def lt2 (a b:Letter):Bool:=decide (a.day < b.day) || (decide (a.day=b.day) && decide (a.id < b.id))
def ZxB (x:Letter):List Letter->List Letter
 | []=>[x]
 | y :: l=>if lt2 x y=true then x :: y :: l else y :: ZxB x l
def Zxt:List Letter->List Letter
 | []=>[]
 | x :: l=>ZxB x (Zxt l)
def YS (p:Pact) (l:List Letter):Int :=
 if ZA p=false then 80 else if l.length > 100 then 4 else if l.all (Zk p)=false then 81 else if ZgD l=true then 82 else 0
def Xi (p:Pact) (l:List Letter):List Letter:=Zxt (Y8 p.ends [] l)
theorem ZlX (a:Letter):lt2 a a=false:=by simp [lt2]
theorem Zq8 {a b:Letter} (h:lt2 a b=true):lt2 b a=false:=by
 simp only [lt2,Bool.or_eq_true,Bool.and_eq_true,decide_eq_true_eq] at h
 simp only [lt2,Bool.or_eq_false_iff,Bool.and_eq_false_iff,decide_eq_false_iff_not]
 omega
theorem Zdr {a b c:Letter} (h1:lt2 a b=true) (h2:lt2 b c=true):lt2 a c=true:=by
 simp only [lt2,Bool.or_eq_true,Bool.and_eq_true,decide_eq_true_eq] at *;omega
theorem Zid {a b:Letter} (h:a.id≠b.id):lt2 a b=true\/lt2 b a=true:=by
 simp only [lt2,Bool.or_eq_true,Bool.and_eq_true,decide_eq_true_eq];omega
theorem Zbu {x:Letter}:∀ {l:List Letter},(ZxB x l).Perm (x :: l)
 | []=>.refl _
 | y :: l=>by
  simp only [ZxB]
  split
  . exact .refl _
  . exact ((Zbu (x:=x) (l:=l)).cons y).trans (.swap x y l)
theorem Wi:∀ {l:List Letter},(Zxt l).Perm l
 | []=>.refl _
 | x :: l=>Zbu.trans ((Wi (l:=l)).cons x)
theorem ZfD {x:Letter}:∀ {l:List Letter},l.Pairwise (fun a b=>lt2 a b=true)->(∀ y ∈ l,y.id≠x.id)->(ZxB x l).Pairwise fun a b=>lt2 a b=true
 | [],_,_=>List.pairwise_singleton _ _
 | y :: l,h,hx=>by
  rw [List.pairwise_cons] at h
  simp only [ZxB]
  split
  . rename_i q
    rw [List.pairwise_cons]
    refine ⟨fun z hz=>?_,List.pairwise_cons.2 h⟩
    rcases List.mem_cons.1 hz with rfl | hz
    . exact q
    . exact Zdr q (h.1 z hz)
  . rename_i q
    rw [List.pairwise_cons]
    refine ⟨fun z hz=>?_,ZfD h.2 fun z hz=>hx z (by simp [hz])⟩
    rcases List.mem_cons.1 ((Zbu (x:=x) (l:=l)).mem_iff.1 hz) with rfl | hz
    . exact (Zid (fun e=>hx y (by simp) e.symm)).resolve_left q
    . exact h.1 z hz
theorem ZcS:∀ {l:List Letter},(l.map (·.id)).Nodup->(Zxt l).Pairwise fun a b=>lt2 a b=true
 | [],_=>.nil
 | x :: l,h=>by
  rw [List.map_cons,List.nodup_cons] at h
  exact ZfD (ZcS h.2) fun y hy e=>h.1 (List.mem_map.2 ⟨y,Wi.mem_iff.1 hy,e⟩)
theorem Zcn:∀ {a b:List Letter},a.Pairwise (fun x y=>lt2 x y=true)->b.Pairwise (fun x y=>lt2 x y=true)->(∀ x,x ∈ a↔x ∈ b)->a=b
 | [],[],_,_,_=>rfl
 | [],y :: b,_,_,h=>by have:=(h y).2 (by simp);cases this
 | x :: a,[],_,_,h=>by have:=(h x).1 (by simp);cases this
 | x :: a,y :: b,ha,hb,h=>by
  rw [List.pairwise_cons] at ha hb
  have e:x=y:=by
   have h1:=(h x).1 (by simp)
   have h2:=(h y).2 (by simp)
   rcases List.mem_cons.1 h1 with e | h1
   . exact e
   . rcases List.mem_cons.1 h2 with e | h2
     . exact e.symm
     . have q1:=hb.1 x h1
       have q2:=ha.1 y h2
       rw [Zq8 q1] at q2;cases q2
  subst e
  rw [Zcn ha.2 hb.2 fun z=>?_]
  constructor
  . intro hz
    rcases List.mem_cons.1 ((h z).1 (by simp [hz])) with rfl | q
    . have:=ha.1 z hz;rw [ZlX] at this;cases this
    . exact q
  . intro hz
    rcases List.mem_cons.1 ((h z).2 (by simp [hz])) with rfl | q
    . have:=hb.1 z hz;rw [ZlX] at this;cases this
    . exact q
theorem Wt {ends:Int}:∀ {l:List Letter} {seen:List Int} {x:Letter},x ∈ Y8 ends seen l->x ∈ l/\x.id ∉ seen/\x.day<=ends
 | [],_,_,h=>by cases h
 | y :: l,seen,x,h=>by
  simp only [Y8] at h
  split at h
  . obtain ⟨h1,h2,h3⟩:=Wt h
    simp only [List.mem_cons,not_or] at h2
    exact ⟨by simp [h1],h2.2,h3⟩
  . rename_i hn
    rcases List.mem_cons.1 h with rfl | h
    . exact ⟨by simp,fun q=>hn (.inl q),by have:=fun q=>hn (.inr q);omega⟩
    . obtain ⟨h1,h2,h3⟩:=Wt h
      simp only [List.mem_cons,not_or] at h2
      exact ⟨by simp [h1],h2.2,h3⟩
theorem Ww {ends:Int}:∀ {l:List Letter} {seen:List Int},((Y8 ends seen l).map (·.id)).Nodup
 | [],_=>.nil
 | y :: l,seen=>by
  simp only [Y8]
  split
  . exact Ww
  . rw [List.map_cons,List.nodup_cons]
    refine ⟨fun h=>?_,Ww⟩
    obtain ⟨x,hx,e⟩:=List.mem_map.1 h
    exact (Wt hx).2.1 (by simp [e])
theorem Vn:∀ {l:List Letter},ZgD l=false->∀ x ∈ l,∀ y ∈ l,x.id=y.id->x=y
 | [],_,x,hx,_,_,_=>by cases hx
 | z :: l,h,x,hx,y,hy,e=>by
  simp only [ZgD,Bool.or_eq_false_iff,List.any_eq_false,Bool.and_eq_true,decide_eq_true_eq,not_and,Decidable.not_not] at h
  rcases List.mem_cons.1 hx with hx1 | hx1
  . rcases List.mem_cons.1 hy with hy1 | hy1
    . rw [hx1,hy1]
    . subst hx1;exact (h.1 y hy1 e.symm).symm
  . rcases List.mem_cons.1 hy with hy1 | hy1
    . subst hy1;exact h.1 x hx1 e
    . exact Vn h.2 x hx1 y hy1 e
theorem Zej:∀ {l:List Letter},(∀ x ∈ l,∀ y ∈ l,x.id=y.id->x=y)->ZgD l=false
 | [],_=>rfl
 | z :: l,h=>by
  simp only [ZgD,Bool.or_eq_false_iff,List.any_eq_false,Bool.and_eq_true,decide_eq_true_eq,not_and,Decidable.not_not]
  exact ⟨fun y hy e=>h y (by simp [hy]) z (by simp) e,Zej fun x hx y hy=>h x (by simp [hx]) y (by simp [hy])⟩
theorem ZdR {ends:Int}:∀ {l:List Letter} {seen:List Int} {x:Letter},(∀ a ∈ l,∀ b ∈ l,a.id=b.id->a=b)->x ∈ l->x.id ∉ seen->x.day<=ends->x ∈ Y8 ends seen l
 | y :: l,seen,x,h,hx,hs,hd=>by
  have h':∀ a ∈ l,∀ b ∈ l,a.id=b.id->a=b:=fun a ha b hb=>h a (by simp [ha]) b (by simp [hb])
  simp only [Y8]
  by_cases e:x.id=y.id
  . have:=h x hx y (by simp) e
    subst this
    rw [if_neg (fun q=>q.elim hs (by omega))]
    simp
  . have hxl:x ∈ l:=by
     rcases List.mem_cons.1 hx with rfl | h
     . exact absurd rfl e
     . exact h
    have:=ZdR (ends:=ends) (seen:=y.id :: seen) h' hxl (by simp [e,hs]) hd
    split
    . exact this
    . exact List.mem_cons_of_mem _ this
theorem ZlU {p:Pact} {l:List Letter} (h:ZgD l=false) {x:Letter}:x ∈ Xi p l↔x ∈ l/\x.day<=p.ends:=by
 rw [Xi,Wi.mem_iff]
 constructor
 . intro q;have:=Wt q;exact ⟨this.1,this.2.2⟩
 . rintro ⟨h1,h2⟩;exact ZdR (Vn h) h1 (by simp) h2
theorem Ziw {p:Pact} {l:List Letter}:(Xi p l).Pairwise fun a b=>lt2 a b=true:=ZcS Ww
structure Co where
 loans:Int->Option (Int × Int)
 dead:Int->Bool
 known:Int->Bool
 debts:Int->Int->Int
 extra:Int->Int
 result:Int
def co0:Co:=⟨fun _=>none,fun _=>false,fun _=>false,fun _ _=>0,fun _=>0,0⟩
def upd {α : Type} (f:Int->α) (k:Int) (v:α):Int->α:=fun i=>if i=k then v else f i
def ZN (p:Pact) (c:Co) (animal day:Int) (l:Int × Int):Co :=
 { c with loans:=upd c.loans animal none,extra:=upd c.extra l.1 (c.extra l.1+p.hire * (day - l.2)),result:=c.result - p.hire * (day - l.2) }
def Zp (p:Pact) (c:Co) (x:Letter):Co × Int :=
 if x.kind=1 then ({ c with result:=c.result+x.rials },0)
 else if x.kind=2 then ({ c with result:=c.result - x.rials },0)
 else if x.kind=3 then
  if (c.loans x.animal).isSome=true then (c,1) else if c.dead x.animal=true then (c,2) else ({ c with loans:=upd c.loans x.animal (some (x.who,x.day)) },0)
 else if x.kind=4 then match c.loans x.animal with
  | none=>(c,3)
  | some l=>(ZN p c x.animal x.day l,0)
 else if x.kind=5 then
  if c.dead x.animal=true then (c,2) else match c.loans x.animal with
   | none=>(c,3)
   | some l=>({ ZN p c x.animal x.day l with dead:=upd c.dead x.animal true },0)
 else if x.kind=6 then
  if c.known x.other=true then (c,4) else match c.loans x.animal with
   | none=>(c,3)
   | some l=>({ c with extra:=upd c.extra l.1 (c.extra l.1+(x.rials * p.calf).tdiv 1000),result:=c.result+(x.rials - (x.rials * p.calf).tdiv 1000),known:=upd c.known x.other true },0)
 else if x.kind=7 then ({ c with debts:=upd c.debts x.who (upd (c.debts x.who) x.other (c.debts x.who x.other+x.rials)) },0)
 else if x.kind=8 then
  if c.debts x.who x.other < x.rials then (c,5) else ({ c with debts:=upd c.debts x.who (upd (c.debts x.who) x.other (c.debts x.who x.other - x.rials)) },0)
 else (c,0)
def Xx (p:Pact):Co->List Letter->Co
 | c,[]=>c
 | c,x :: l=>Xx p (Zp p c x).1 l
def ZbO (p:Pact):Co->List Letter->List Int
 | _,[]=>[]
 | c,x :: l=>(Zp p c x).2 :: ZbO p (Zp p c x).1 l
theorem ZdF {p:Pact} {c:Co} {x:Letter} (h:(Zp p c x).2≠0):(Zp p c x).1=c:=by
 unfold Zp at h ⊢
 repeat' split
 all_goals first | rfl | (exfalso;apply h;simp [*])
theorem Zax {p:Pact}:∀ {a b:List Letter} {c:Co},Xx p c (a ++ b)=Xx p (Xx p c a) b
 | [],_,_=>rfl
 | x :: a,b,c=>by simp only [List.cons_append,Xx];exact Zax
theorem ZfN {p:Pact}:∀ {a b:List Letter} {c:Co},ZbO p c (a ++ b)=ZbO p c a ++ ZbO p (Xx p c a) b
 | [],_,_=>rfl
 | x :: a,b,c=>by simp only [List.cons_append,ZbO,Xx];rw [ZfN]
theorem Zfo {p:Pact}:∀ {l:List Letter} {c:Co},(ZbO p c l).length=l.length
 | [],_=>rfl
 | x :: l,c=>by simp [ZbO,Zfo (l:=l)]
def Yn (p:Pact) (c:Co) (a:Nat):Int:=match c.loans a with
 | none=>0
 | some l=>p.hire * (p.ends - l.2)
def YP (p:Pact) (c:Co) (who:Int) (a:Nat):Int:=match c.loans a with
 | none=>0
 | some l=>if l.1=who then p.hire * (p.ends - l.2) else 0
def Vr (p:Pact) (c:Co):Int:=c.result - Zt ((List.range 10000).map (Yn p c))
def UC (p:Pact) (c:Co) (who:Int):Int:=c.extra who+Zt ((List.range 10000).map (YP p c who))
def XC (p:Pact) (c:Co) (id:Int):Int:=Zt (p.partners.map fun y=>c.debts y.id id - c.debts id y.id)
def Zr6 {α : Type} (f:α->Int):Option α->Int
 | none=>0
 | some x=>f x
def VB (p:Pact) (c:Co):List Int :=
 (List.range p.partners.length).map fun i=>Zr6 (fun x=>x.put+(ZF p (Vr p c)).getD i 0+UC p c x.id+XC p c x.id) p.partners[i]?
def YA (p:Pact) (l:List Letter):List Int:=VB p (Xx p co0 l)
theorem Ztr {α : Type} {X:List α} {k:Nat} (hk:k < X.length):X=X.take k ++ X[k] :: X.drop (k+1):=by
 rw [<- List.drop_eq_getElem_cons hk,List.take_append_drop]
theorem Zap {ids:List Int} {f:Int->Int} {k v:Int} (hn:ids.Nodup) (hk:k ∈ ids):Zt (ids.map (upd f k v))=Zt (ids.map f)+(v - f k):=by
 induction ids with
 | nil=>cases hk
 | cons x l ih =>
  rw [List.nodup_cons] at hn
  simp only [List.map_cons,Zt]
  rcases List.mem_cons.1 hk with rfl | hk
  . have:l.map (upd f k v)=l.map f:=List.map_congr_left fun y hy=>by
     simp only [upd];rw [if_neg];rintro rfl;exact hn.1 hy
    rw [this];simp only [upd,if_true];omega
  . rw [ih hn.2 hk]
    have:upd f k v x=f x:=by simp only [upd];rw [if_neg];rintro rfl;exact hn.1 hk
    omega
theorem Yd:∀ {l:List Partner} {last:Int},Ye last l=true->(∀ x ∈ l,last < x.id/\x.id<=9999)/\(l.map (·.id)).Nodup/\(∀ x ∈ l,0<=x.put/\x.put<=100000000/\0<=x.share/\x.share<=1000)
 | [],_,_=>⟨by simp,.nil,by simp⟩
 | x :: l,last,h=>by
  simp only [Ye,Bool.and_eq_true,inR,decide_eq_true_eq] at h
  obtain ⟨h1,h2,h3⟩:=Yd h.2
  refine ⟨fun y hy=>?_,?_,fun y hy=>?_⟩
  . rcases List.mem_cons.1 hy with rfl | hy
    . omega
    . have:=h1 y hy;omega
  . rw [List.map_cons,List.nodup_cons]
    refine ⟨fun hm=>?_,h2⟩
    obtain ⟨y,hy,e⟩:=List.mem_map.1 hm
    have:=h1 y hy;omega
  . rcases List.mem_cons.1 hy with rfl | hy
    . omega
    . exact h3 y hy
def ids (p:Pact):List Int:=p.partners.map (·.id)
theorem ZaO {p:Pact} {k:Int}:atP p k=true↔k ∈ ids p:=by
 simp [atP,ids]
structure CoOk (p:Pact) (c:Co):Prop where
 who:∀ a l,c.loans a=some l->l.1 ∈ ids p
 inb:∀ a l,c.loans a=some l->0<=a/\a<=9999
theorem CoOk.co0 {p:Pact}:CoOk p co0:=⟨fun a l h=>by simp [Go.Azalai.co0] at h,fun a l h=>by simp [Go.Azalai.co0] at h⟩
theorem CoOk.home {p:Pact} {c:Co} (h:CoOk p c) {a d:Int} {l:Int × Int}:CoOk p (ZN p c a d l):=by
 refine ⟨fun b m hb=>?_,fun b m hb=>?_⟩<;>simp only [ZN,upd] at hb<;>split at hb
 . cases hb
 . exact h.who b m hb
 . cases hb
 . exact h.inb b m hb
theorem CoOk.step {p:Pact} {c:Co} (h:CoOk p c) {x:Letter} (hx:Zk p x=true):CoOk p (Zp p c x).1:=by
 unfold Zp
 split
 . exact ⟨h.who,h.inb⟩
 split
 . exact ⟨h.who,h.inb⟩
 split
 . rename_i n1 n2 k3
   split
   . exact h
   split
   . exact h
   have hl:x.who ∈ ids p/\0<=x.animal/\x.animal<=9999:=by
    simp only [Zk,k3] at hx
    simp [inR,ZaO] at hx
    exact ⟨hx.2.1.1,hx.2.1.2⟩
   refine ⟨fun b m hb=>?_,fun b m hb=>?_⟩<;>simp only [upd] at hb<;>split at hb
   . cases hb;exact hl.1
   . exact h.who b m hb
   . rename_i e;subst e;exact hl.2
   . exact h.inb b m hb
 split
 . split
   . exact h
   . exact h.home
 split
 . split
   . exact h
   split
   . exact h
   . rename_i l hl
     have q:=h.home (a:=x.animal) (d:=x.day) (l:=l)
     exact ⟨q.who,q.inb⟩
 split
 . split
   . exact h
   split
   . exact h
   . exact ⟨h.who,h.inb⟩
 split
 . exact ⟨h.who,h.inb⟩
 split
 . split
   . exact h
   . exact ⟨h.who,h.inb⟩
 . exact h
theorem CoOk.run {p:Pact}:∀ {l:List Letter} {c:Co},CoOk p c->(∀ x ∈ l,Zk p x=true)->CoOk p (Xx p c l)
 | [],_,h,_=>h
 | x :: l,c,h,hl=>by
  show CoOk p (Xx p (Zp p c x).1 l)
  exact CoOk.run (h.step (hl x (by simp))) fun y hy=>hl y (by simp [hy])
def XQ (x:Letter) (w:Int):Int:=if w≠0 then 0 else if x.kind=1\/x.kind=6 then x.rials else if x.kind=2 then -x.rials else 0
def exS (p:Pact) (c:Co):Int:=Zt ((ids p).map c.extra)
theorem ZlP {p:Pact} {c:Co} (hn:(ids p).Nodup) (h:CoOk p c) (x:Letter):(Zp p c x).1.result+exS p (Zp p c x).1=c.result+exS p c+XQ x (Zp p c x).2:=by
 unfold Zp
 split
 . rename_i k;simp [exS,XQ,k];omega
 split
 . rename_i k;simp [exS,XQ,k];omega
 split
 . rename_i k
   split
   . simp [exS,XQ]
   split
   . simp [exS,XQ]
   . simp [exS,XQ,k]
 split
 . rename_i k
   split
   . simp [exS,XQ]
   . rename_i l hl
     have:=Zap (f:=c.extra) (v:=c.extra l.1+p.hire * (x.day - l.2)) hn (h.who _ _ hl)
     simp only [exS,ZN,XQ,this,k];simp;omega
 split
 . rename_i k
   split
   . simp [exS,XQ]
   split
   . simp [exS,XQ]
   . rename_i l hl
     have:=Zap (f:=c.extra) (v:=c.extra l.1+p.hire * (x.day - l.2)) hn (h.who _ _ hl)
     simp only [exS,ZN,XQ,this,k];simp;omega
 split
 . rename_i k
   split
   . simp [exS,XQ]
   split
   . simp [exS,XQ]
   . rename_i l hl
     have:=Zap (f:=c.extra) (v:=c.extra l.1+(x.rials * p.calf).tdiv 1000) hn (h.who _ _ hl)
     simp only [exS,XQ,this,k];simp;omega
 split
 . rename_i k;simp [exS,XQ,k]
 split
 . rename_i k
   split
   . simp [exS,XQ]
   . simp [exS,XQ,k]
 . rename_i k1 k2 k3 k4 k5 k6 k7 k8
   simp only [exS,XQ]
   rw [if_neg (by simp),if_neg (fun q=>q.elim k1 k6),if_neg k2];omega
def Zjc:List Letter->List Int->Int
 | x :: l,w :: ws=>XQ x w+Zjc l ws
 | _,_=>0
theorem ZfZ {p:Pact} (hn:(ids p).Nodup):∀ {l:List Letter} {c:Co},CoOk p c->(∀ x ∈ l,Zk p x=true)->(Xx p c l).result+exS p (Xx p c l)=c.result+exS p c+Zjc l (ZbO p c l)
 | [],c,_,_=>by simp [Xx,ZbO,Zjc]
 | x :: l,c,h,hl=>by
  have h1:=ZlP hn h x
  have h2:=ZfZ hn (h.step (hl x (by simp))) (l:=l) fun y hy=>hl y (by simp [hy])
  simp only [Xx,ZbO,Zjc]
  omega
theorem YL {α : Type} {f:α->Int}:∀ {l:List α},(∀ x ∈ l,f x=0)->Zt (l.map f)=0
 | [],_=>rfl
 | x :: l,h=>by simp only [List.map_cons,Zt,h x (by simp),YL (l:=l) fun y hy=>h y (by simp [hy])];omega
theorem Ux {α β : Type} {f:α->β->Int} {m:List β}:∀ {l:List α},Zt (l.map fun x=>Zt (m.map fun y=>f x y))=Zt (m.map fun y=>Zt (l.map fun x=>f x y))
 | []=>by simp only [List.map_nil,Zt];exact (YL fun _ _=>rfl).symm
 | x :: l=>by
  simp only [List.map_cons,Zt]
  rw [Ux,Yc]
theorem Zao {α : Type} {f:α->Int}:∀ {l:List α},Zt (l.map fun x=>-f x) = -Zt (l.map f)
 | []=>rfl
 | x :: l=>by simp only [List.map_cons,Zt,Zao (l:=l)];omega
theorem ZeQ {ids:List Int} {k v:Int} (hn:ids.Nodup) (hk:k ∈ ids):Zt (ids.map fun i=>if k=i then v else 0)=v:=by
 have h:=Zap (f:=fun _=>0) (v:=v) hn hk
 rw [YL (fun _ _=>rfl)] at h
 have e:(fun i=>if k=i then v else 0)=upd (fun _=>0) k v:=by
  funext i;simp only [upd]
  by_cases q:k=i
  . rw [if_pos q,if_pos q.symm]
  . rw [if_neg q,if_neg fun e=>q e.symm]
 rw [e,h];omega
theorem Zrc {p:Pact} {c:Co}:Zt (p.partners.map fun x=>XC p c x.id)=0:=by
 have h:Zt (p.partners.map fun x=>Zt (p.partners.map fun y=>c.debts y.id x.id))=Zt (p.partners.map fun y=>Zt (p.partners.map fun x=>c.debts y.id x.id)):=Ux
 have e:(fun x:Partner=>XC p c x.id)=fun x=>Zt (p.partners.map fun y=>c.debts y.id x.id)+-Zt (p.partners.map fun y=>c.debts x.id y.id):=by
  funext x
  rw [XC,<- Zao,<- Yc]
  congr 1
 rw [e,Yc,Zao,h];omega
theorem ZqX {p:Pact} {c:Co} (hn:(ids p).Nodup) (h:CoOk p c) (az:List Nat):Zt ((ids p).map fun w=>Zt (az.map (YP p c w)))=Zt (az.map (Yn p c)):=by
 rw [Ux]
 congr 1
 apply List.map_congr_left
 intro a _
 simp only [YP,Yn]
 cases hl:c.loans a with
 | none=>exact YL fun _ _=>rfl
 | some l=>exact ZeQ hn (h.who _ _ hl)
theorem YV {p:Pact} {c:Co}:(VB p c).length=p.partners.length:=by simp [VB]
theorem ZaW {p:Pact} {r:Int}:(ZF p r).length=p.partners.length:=by
 unfold ZF Zy;split<;>simp
theorem Zqa {l:List Int}:Zt ((List.range l.length).map fun i=>l.getD i 0)=Zt l:=by
 congr 1
 apply List.ext_getElem
 . simp
 . intro i h1 h2;simp [List.getElem?_eq_getElem h2]
theorem ZnY {α : Type} {l:List α} {f:α->Int}:Zt ((List.range l.length).map fun i=>Zr6 f l[i]?)=Zt (l.map f):=by
 congr 1
 apply List.ext_getElem
 . simp
 . intro i h1 h2
   simp at h1 h2 ⊢
   rw [List.getElem?_eq_getElem h2];rfl
theorem Yx {p:Pact} (h:ZA p=true):(ids p).Nodup/\(∀ x ∈ p.partners.map (·.share),0<=x)/\(∀ x ∈ p.partners.map (·.put),0<=x)/\0 < Zt (p.partners.map (·.put))/\Zt (p.partners.map (·.share))=1000/\1<=p.partners.length/\p.partners.length<=8:=by
 simp only [ZA,Bool.and_eq_true,inR,decide_eq_true_eq] at h
 obtain ⟨⟨⟨⟨⟨⟨h1,h2⟩,h3⟩,h4⟩,h5⟩,h6⟩,h7⟩:=h
 obtain ⟨i1,i2,i3⟩:=Yd h5
 have hp:∀ x ∈ p.partners.map (·.put),0<=x:=fun x hx=>by
  obtain ⟨y,hy,rfl⟩:=List.mem_map.1 hx
  have:=i3 y hy;omega
 refine ⟨i2,fun x hx=>?_,hp,?_,h7,by omega,by omega⟩
 . obtain ⟨y,hy,rfl⟩:=List.mem_map.1 hx
   have:=i3 y hy;omega
 . have:=XT hp;omega
theorem Zhy {p:Pact} (h:ZA p=true) (r:Int):Zt (ZF p r)=r:=by
 obtain ⟨h1,h2,h3,h4,h5,_,_⟩:=Yx h
 unfold ZF
 split
 . exact Zbh (by omega) h2 (by omega)
 . have:=Zbh (amount:=-r) (by omega) h3 h4
   have e:=Zao (f:=fun n:Int=>n) (l:=Zy (-r) (p.partners.map (·.put)))
   rw [List.map_id'] at e
   rw [e,this];omega
theorem kept {p:Pact} {l:List Letter} (h:ZA p=true) (hl:∀ x ∈ l,Zk p x=true):Zt (YA p l)=Zt (p.partners.map (·.put))+Zjc l (ZbO p co0 l):=by
 obtain ⟨h1,-⟩:=Yx h
 have hc:=CoOk.co0.run (p:=p) hl
 have hg:=ZfZ h1 CoOk.co0 hl
 unfold YA
 generalize Xx p co0 l=c at hc hg ⊢
 have e:VB p c=(List.range p.partners.length).map fun i=>(Zr6 (fun x=>x.put+UC p c x.id+XC p c x.id) p.partners[i]?)+(Zr6 (fun _=>(ZF p (Vr p c)).getD i 0) p.partners[i]?):=by
  unfold VB
  apply List.map_congr_left
  intro i hi
  rw [List.mem_range] at hi
  rw [List.getElem?_eq_getElem hi]
  simp only [Zr6];omega
 have e2:((List.range p.partners.length).map fun i=>Zr6 (fun _=>(ZF p (Vr p c)).getD i 0) p.partners[i]?)=(List.range (ZF p (Vr p c)).length).map fun i=>(ZF p (Vr p c)).getD i 0:=by
  rw [ZaW]
  apply List.map_congr_left
  intro i hi
  rw [List.mem_range] at hi
  rw [List.getElem?_eq_getElem hi];rfl
 rw [e,Yc,e2,Zqa,Zhy h,ZnY (f:=fun x:Partner=>x.put+UC p c x.id+XC p c x.id)]
 have e3:Zt (p.partners.map fun x=>x.put+UC p c x.id+XC p c x.id)=Zt (p.partners.map (·.put))+Zt (p.partners.map fun x=>UC p c x.id)+0:=by
  rw [<- Zrc (p:=p) (c:=c),<- Yc,<- Yc]
 have e4:Zt (p.partners.map fun x=>UC p c x.id)=exS p c+Zt ((List.range 10000).map (Yn p c)):=by
  rw [<- ZqX h1 hc,exS,<- Yc]
  simp [ids,Function.comp_def,UC]
 have z:(co0.result+exS p co0)=0:=by
  have:exS p co0=0:=YL fun _ _=>rfl
  rw [this];rfl
 rw [e3,e4,Vr]
 omega
structure Alike (a:Int) (c d:Co):Prop where
 loans:c.loans=d.loans
 none:c.loans a=none
 dead:∀ b,b≠a->c.dead b=d.dead b
 known:c.known=d.known
 debts:c.debts=d.debts
 extra:c.extra=d.extra
 result:c.result=d.result
theorem Alike.home {a:Int} {c d:Co} {p:Pact} (h:Alike a c d) {b n:Int} {l:Int × Int}:Alike a (ZN p c b n l) (ZN p d b n l):=by
 refine ⟨?_,?_,h.dead,h.known,h.debts,?_,?_⟩
 . simp only [ZN,h.loans]
 . simp only [ZN,upd];split
   . rfl
   . exact h.none
 . simp only [ZN,h.extra]
 . simp only [ZN,h.result]
theorem Alike.step {a:Int} {c d:Co} {p:Pact} (h:Alike a c d) {x:Letter} (hx:¬(x.kind=3/\x.animal=a)):Alike a (Zp p c x).1 (Zp p d x).1:=by
 obtain ⟨h1,h2,h3,h4,h5,h6,h7⟩:=h
 have H:Alike a c d:=⟨h1,h2,h3,h4,h5,h6,h7⟩
 unfold Zp
 by_cases k1:x.kind=1
 . simp only [if_pos k1];exact ⟨h1,h2,h3,h4,h5,h6,by simp only [h7]⟩
 by_cases k2:x.kind=2
 . simp only [if_neg k1,if_pos k2];exact ⟨h1,h2,h3,h4,h5,h6,by simp only [h7]⟩
 by_cases k3:x.kind=3
 . have ha:x.animal≠a:=fun e=>hx ⟨k3,e⟩
   simp only [if_neg k1,if_neg k2,if_pos k3]
   rw [<- h1,<- h3 _ ha]
   split
   . exact H
   split
   . exact H
   . refine ⟨by simp only,?_,h3,h4,h5,h6,h7⟩
     simp only [upd];rw [if_neg fun e=>ha e.symm];exact h2
 by_cases k4:x.kind=4
 . simp only [if_neg k1,if_neg k2,if_neg k3,if_pos k4]
   rw [<- h1]
   split
   . exact H
   . exact H.home
 by_cases k5:x.kind=5
 . simp only [if_neg k1,if_neg k2,if_neg k3,if_neg k4,if_pos k5]
   by_cases ha:x.animal=a
   . rw [ha,<- h1]
     simp only [h2]
     cases c.dead a<;>cases d.dead a<;>exact H
   . rw [<- h1,<- h3 _ ha]
     split
     . exact H
     split
     . exact H
     . rename_i l _
       have q:=H.home (p:=p) (b:=x.animal) (n:=x.day) (l:=l)
       refine ⟨q.loans,q.none,fun b hb=>?_,q.known,q.debts,q.extra,q.result⟩
       simp only [upd];split
       . rfl
       . exact q.dead b hb
 by_cases k6:x.kind=6
 . simp only [if_neg k1,if_neg k2,if_neg k3,if_neg k4,if_neg k5,if_pos k6]
   rw [<- h1,<- h4]
   split
   . exact H
   split
   . exact H
   . exact ⟨by simp only,h2,h3,by simp only,h5,by simp only [h6],by simp only [h7]⟩
 by_cases k7:x.kind=7
 . simp only [if_neg k1,if_neg k2,if_neg k3,if_neg k4,if_neg k5,if_neg k6,if_pos k7]
   exact ⟨h1,h2,h3,h4,by simp only [h5],h6,h7⟩
 by_cases k8:x.kind=8
 . simp only [if_neg k1,if_neg k2,if_neg k3,if_neg k4,if_neg k5,if_neg k6,if_neg k7,if_pos k8]
   rw [<- h5]
   split
   . exact H
   . exact ⟨h1,h2,h3,h4,by simp only,h6,h7⟩
 simp only [if_neg k1,if_neg k2,if_neg k3,if_neg k4,if_neg k5,if_neg k6,if_neg k7,if_neg k8]
 exact H
theorem Alike.run {a:Int} {p:Pact}:∀ {l:List Letter} {c d:Co},Alike a c d->(∀ x ∈ l,¬(x.kind=3/\x.animal=a))->Alike a (Xx p c l) (Xx p d l)
 | [],_,_,h,_=>h
 | x :: l,c,d,h,hl=>by
  show Alike a (Xx p (Zp p c x).1 l) (Xx p (Zp p d x).1 l)
  exact Alike.run (h.step (hl x (by simp))) fun y hy=>hl y (by simp [hy])
theorem Alike.has {a:Int} {p:Pact} {c d:Co} (h:Alike a c d):VB p c=VB p d:=by
 have e1:Yn p c=Yn p d:=by funext b;simp only [Yn,h.loans]
 have e2:YP p c=YP p d:=by funext w b;simp only [YP,h.loans]
 have e3:Vr p c=Vr p d:=by simp only [Vr,e1,h.result]
 have e4:UC p c=UC p d:=by funext w;simp only [UC,e2,h.extra]
 have e5:XC p c=XC p d:=by funext w;simp only [XC,h.debts]
 simp only [VB,e3,e4,e5]
theorem alone {p:Pact} {X:List Letter} {k:Nat} (hk:k < X.length) (h5:X[k].kind=5) (hw:(Zp p (Xx p co0 (X.take k)) X[k]).2=0) (hno:∀ y ∈ X.drop (k+1),¬(y.kind=3/\y.animal=X[k].animal)) :
 YA p (X.set k { X[k] with kind:=4 })=YA p X:=by
 have e1:X.set k { X[k] with kind:=4 }=X.take k ++ { X[k] with kind:=4 } :: X.drop (k+1):=by
  rw [List.set_eq_take_append_cons_drop,if_pos hk]
 unfold YA
 rw [e1,Zax]
 conv=>rhs;rw [Ztr hk,Zax]
 simp only [Xx]
 generalize Xx p co0 (X.take k)=c at hw ⊢
 refine (Alike.run (a:=X[k].animal) ?_ hno).has
 unfold Zp at hw ⊢
 simp only [h5] at hw ⊢
 simp only [show ¬ (5:Int)=1 from by omega,show ¬ (5:Int)=2 from by omega,show ¬ (5:Int)=3 from by omega,show ¬ (5:Int)=4 from by omega,show ¬ (4:Int)=1 from by omega,show ¬ (4:Int)=2 from by omega,show ¬ (4:Int)=3 from by omega,if_false,if_true] at hw ⊢
 split at hw
 . simp at hw
 rename_i hd
 simp only [hd,if_false,Bool.false_eq_true]
 cases hl:c.loans X[k].animal with
 | none=>rw [hl] at hw;simp at hw
 | some l =>
  simp only
  refine ⟨rfl,by simp [ZN,upd],fun b hb=>?_,rfl,rfl,rfl,rfl⟩
  simp only [ZN,upd];rw [if_neg hb]
def Zcc (x:Letter):Bool:=decide (x.kind=7\/x.kind=8)
structure Plain (c d:Co):Prop where
 loans:c.loans=d.loans
 dead:c.dead=d.dead
 known:c.known=d.known
 extra:c.extra=d.extra
 result:c.result=d.result
theorem Plain.step {p:Pact} {c d:Co} (h:Plain c d) {x:Letter} (hx:Zcc x=false):Plain (Zp p c x).1 (Zp p d x).1/\(Zp p c x).2=(Zp p d x).2/\(Zp p c x).1.debts=c.debts:=by
 obtain ⟨l1,d1,k1,b1,x1,r1⟩:=c
 obtain ⟨l2,d2,k2,b2,x2,r2⟩:=d
 obtain ⟨h1,h2,h3,h4,h5⟩:=h
 simp only at h1 h2 h3 h4 h5
 subst h1;subst h2;subst h3;subst h4;subst h5
 simp only [Zcc,decide_eq_false_iff_not,not_or] at hx
 unfold Zp
 simp only [if_neg hx.1,if_neg hx.2,ZN]
 repeat' split
 all_goals exact ⟨⟨rfl,rfl,rfl,rfl,rfl⟩,rfl,rfl⟩
theorem Plain.trans {a b c:Co} (h:Plain a b) (h':Plain b c):Plain a c:=⟨h.1.trans h'.1,h.2.trans h'.2,h.3.trans h'.3,h.4.trans h'.4,h.5.trans h'.5⟩
theorem Plain.symm {a b:Co} (h:Plain a b):Plain b a:=⟨h.1.symm,h.2.symm,h.3.symm,h.4.symm,h.5.symm⟩
theorem Plain.rfl' {a:Co}:Plain a a:=⟨rfl,rfl,rfl,rfl,rfl⟩
def ZpT (D:Int->Int->Int) (x:Letter) (w:Int):Int->Int->Int :=
 if x.kind=7 then upd D x.who (upd (D x.who) x.other (D x.who x.other+x.rials))
 else if x.kind=8/\w=0 then upd D x.who (upd (D x.who) x.other (D x.who x.other - x.rials)) else D
theorem ZjA {p:Pact} {c:Co} {x:Letter}:(Zp p c x).1.debts=ZpT c.debts x (Zp p c x).2/\(x.kind=8->((Zp p c x).2=0/\x.rials<=c.debts x.who x.other)\/((Zp p c x).2=5/\c.debts x.who x.other < x.rials)):=by
 by_cases h:Zcc x=true
 . simp only [Zcc,decide_eq_true_eq] at h
   unfold Zp ZpT
   rcases h with h | h
   . simp [h]
   . simp only [h]
     simp only [show ¬ (8:Int)=1 from by omega,show ¬ (8:Int)=2 from by omega,show ¬ (8:Int)=3 from by omega,show ¬ (8:Int)=4 from by omega,show ¬ (8:Int)=5 from by omega,show ¬ (8:Int)=6 from by omega,show ¬ (8:Int)=7 from by omega,if_false,if_true]
     by_cases hlt:c.debts x.who x.other < x.rials
     . simp [hlt]
     . simp [hlt];omega
 . have h':Zcc x=false:=by simpa using h
   have:=(Plain.rfl' (a:=c)).step (p:=p) h'
   simp only [Zcc,decide_eq_true_eq,not_or] at h
   refine ⟨?_,fun k=>absurd k h.2⟩
   rw [this.2.2,ZpT,if_neg h.1,if_neg fun q=>h.2 q.1]
structure Voids (c d:Co):Prop where
 loans:c.loans=d.loans
 dead:c.dead=d.dead
 known:c.known=d.known
theorem Voids.step {p:Pact} {c d:Co} (h:Voids c d) (x:Letter):Voids (Zp p c x).1 (Zp p d x).1/\XQ x (Zp p c x).2=XQ x (Zp p d x).2:=by
 obtain ⟨l1,d1,k1,b1,x1,r1⟩:=c
 obtain ⟨l2,d2,k2,b2,x2,r2⟩:=d
 obtain ⟨h1,h2,h3⟩:=h
 simp only at h1 h2 h3
 subst h1;subst h2;subst h3
 by_cases h8:x.kind=8
 . unfold Zp
   simp only [h8]
   simp only [show ¬ (8:Int)=1 from by omega,show ¬ (8:Int)=2 from by omega,show ¬ (8:Int)=3 from by omega,show ¬ (8:Int)=4 from by omega,show ¬ (8:Int)=5 from by omega,show ¬ (8:Int)=6 from by omega,show ¬ (8:Int)=7 from by omega,if_false,if_true]
   have g:∀ w,XQ x w=0:=fun w=>by simp [XQ,h8]
   split<;>split<;>exact ⟨⟨rfl,rfl,rfl⟩,(g _).trans (g _).symm⟩
 . unfold Zp
   simp only [if_neg h8,ZN]
   repeat' split
   all_goals exact ⟨⟨rfl,rfl,rfl⟩,rfl⟩
def Z1 (set:Nat):Nat->List Letter->List Letter
 | _,[]=>[]
 | k,x :: l=>if x.mouth=true then (if set.testBit k=true then x :: Z1 set (k+1) l else Z1 set (k+1) l) else x :: Z1 set k l
theorem Xd {set:Nat}:∀ {l:List Letter} {k:Nat},(Z1 set k l).Sublist l
 | [],_=>by simp [Z1]
 | x :: l,k=>by
  simp only [Z1]
  split
  . split
    . exact Xd.cons_cons x
    . exact Xd.cons x
  . exact Xd.cons_cons x
def ZrE (f:Nat->Int):Nat->Int
 | 0=>f 0
 | n+1=>min (ZrE f n) (f (n+1))
def Zsh (f:Nat->Int):Nat->Int
 | 0=>f 0
 | n+1=>max (Zsh f n) (f (n+1))
def ZH (p:Pact) (X:List Letter) (i set:Nat):Int:=(YA p (Z1 set 0 X)).getD i 0
def VV (p:Pact) (X:List Letter):List (Int × Int) :=
 (List.range p.partners.length).map fun i=>(ZrE (ZH p X i) (2 ^ (X.filter (·.mouth)).length - 1),Zsh (ZH p X i) (2 ^ (X.filter (·.mouth)).length - 1))
def X7 {α : Type} (g:α->Bool):List α->Nat->Int
 | [],_=>-1
 | x :: l,k=>if g x then k else X7 g l (k+1)
theorem Zks {α : Type} (g:α->Bool):∀ (l:List α) (k:Nat),decide (X7 g l k ≥ 0)=l.any g
 | [],k=>by simp [X7]
 | x :: l,k=>by
  simp only [X7,List.any_cons]
  by_cases hg:g x=true
  . simp [hg]
  . simpa [hg] using Zks g l (k+1)
def YI (p:Pact):Prop:=p.partners.length<=1000
end Go.Azalai
namespace Go.Proofs.Ythilckbkffjliaa
open Go Go.Sx Go.Azalai
abbrev U8 (n:Int):SV:=.v (.int .u8 n)
def Zl (n:Int):List SV:=[I n]
def Za (x:Partner):List SV:=[I x.id,I x.put,I x.share]
def Zh (p:Pact):List SV:=[.sl false 3 (p.partners.map Za),I p.calf,I p.hire,I p.ends]
def Zc (x:Letter):List SV:=[I x.id,I x.day,U8 x.kind,I x.who,I x.other,I x.animal,I x.rials,B x.mouth]
theorem Zcu {α : Type} (g:α->Bool) (l:List α):decide (X7 g l 0 ≥ 0)=l.any g:=Zks g l 0
theorem idx81 (h:Nat) (caps:List SV) (hk:KFL caps) (g:Int->Bool) (l:List Int) (hg:∀ x ∈ l,Ct Try.prog h (I x :: caps) (B (g x))) (hl:l.length < 4611686018427387904) {c:Bool} :
 Ct Try.prog 81 [.sl c 1 (l.map Zl),.cl h caps] (I (X7 g l 0)):=by
 refine t81.1 ⟨by simp [KF,Zb,KFL,Zl],hk,trivial⟩ (by simp [KF]) ?_
 dsimp only [c81,r81,go_sem,rA,rM,rS]
 refine Yf (fun k:Nat=>[(8,I k)]) (fun _=>[]) (fun k=>k<=l.length/\X7 g (l.drop k) k=X7 g l 0) (fun k=>l.length - k) 0 ⟨Nat.zero_le _,rfl⟩ ?_ ?_
 . (refine Zi ?_ ?_ ?_ rfl rfl<;>dsimp only [Zl,hk,id,go_sem,rA,rM,rS]<;>simp [Zl,hk,Zb,Ze,KFR,KFL,KF,Zd,mtO,nbr])
 . intro k ⟨hk',hi⟩
   dsimp only [go_sem,rA,rM,rS]
   refine br ?_ ?_
   . intro hlt
     have hlt:k < l.length:=by simpa using hlt
     dsimp only [go_sem,rA,rM,rS]
     refine Zq k hlt rfl ?_
     dsimp only [Zl,go_sem,rA,rM,rS]
     refine call (hg l[k] (List.getElem_mem _)) ?_
     dsimp only [go_sem,rA,rM,rS]
     refine br ?_ ?_
     . intro hgx
       dsimp only [go_sem,rA,rM,rS]
       rw [<- hi,List.drop_eq_getElem_cons hlt]
       simp [X7,hgx]
     . intro hgx
       dsimp only [go_sem,rA,rM,rS]
       refine ⟨k+1,⟨by omega,?_⟩,by omega,?_⟩
       . rw [<- hi,List.drop_eq_getElem_cons hlt];simp [X7,hgx]
       . rw [Zf (by omega) (by omega)]
         (refine Zi ?_ ?_ ?_ rfl rfl<;>dsimp only [Zl,hk,id,go_sem,rA,rM,rS]<;>simp [Zl,hk,Zb,Ze,KFR,KFL,KF,Zd,mtO,nbr])
   . intro hlt
     have hlt:k=l.length:=by simp at hlt;omega
     dsimp only [go_sem,rA,rM,rS]
     rw [<- hi,hlt];simp [X7]
theorem con61 (h:Nat) (caps:List SV) (hk:KFL caps) (g:Int->Bool) (l:List Int) (hg:∀ x ∈ l,Ct Try.prog h (I x :: caps) (B (g x))) (hl:l.length < 4611686018427387904) {c:Bool} :
 Ct Try.prog 61 [.sl c 1 (l.map Zl),.cl h caps] (B (l.any g)):=by
 refine t61.1 ⟨by simp [KF,Zb,KFL,Zl],hk,trivial⟩ (by simp [KF]) ?_
 dsimp only [c61,r61,go_sem,rA,rM,rS]
 refine call (idx81 h caps hk g l hg hl) ?_
 dsimp only [go_sem,rA,rM,rS]
 rw [Zcu]
theorem idx78 (h:Nat) (caps:List SV) (hk:KFL caps) (g:Partner->Bool) (l:List Partner) (hg:∀ x ∈ l,Ct Try.prog h (.agg (Za x) :: caps) (B (g x))) (hl:l.length < 4611686018427387904) {c:Bool} :
 Ct Try.prog 78 [.sl c 3 (l.map Za),.cl h caps] (I (X7 g l 0)):=by
 refine t78.1 ⟨by simp [KF,Zb,KFL,Za],hk,trivial⟩ (by simp [KF]) ?_
 dsimp only [c78,r78,go_sem,rA,rM,rS]
 refine Yf (fun k:Nat=>[(8,I k)]) (fun _=>[]) (fun k=>k<=l.length/\X7 g (l.drop k) k=X7 g l 0) (fun k=>l.length - k) 0 ⟨Nat.zero_le _,rfl⟩ ?_ ?_
 . (refine Zi ?_ ?_ ?_ rfl rfl<;>dsimp only [Za,hk,id,go_sem,rA,rM,rS]<;>simp [Za,hk,Zb,Ze,KFR,KFL,KF,Zd,mtO,nbr])
 . intro k ⟨hk',hi⟩
   dsimp only [go_sem,rA,rM,rS]
   refine br ?_ ?_
   . intro hlt
     have hlt:k < l.length:=by simpa using hlt
     dsimp only [go_sem,rA,rM,rS]
     refine Zq k hlt rfl ?_
     dsimp only [Za,go_sem,rA,rM,rS]
     refine call (hg l[k] (List.getElem_mem _)) ?_
     dsimp only [go_sem,rA,rM,rS]
     refine br ?_ ?_
     . intro hgx
       dsimp only [go_sem,rA,rM,rS]
       rw [<- hi,List.drop_eq_getElem_cons hlt]
       simp [X7,hgx]
     . intro hgx
       dsimp only [go_sem,rA,rM,rS]
       refine ⟨k+1,⟨by omega,?_⟩,by omega,?_⟩
       . rw [<- hi,List.drop_eq_getElem_cons hlt];simp [X7,hgx]
       . rw [Zf (by omega) (by omega)]
         (refine Zi ?_ ?_ ?_ rfl rfl<;>dsimp only [Za,hk,id,go_sem,rA,rM,rS]<;>simp [Za,hk,Zb,Ze,KFR,KFL,KF,Zd,mtO,nbr])
   . intro hlt
     have hlt:k=l.length:=by simp at hlt;omega
     dsimp only [go_sem,rA,rM,rS]
     rw [<- hi,hlt];simp [X7]
theorem idx85 (h:Nat) (caps:List SV) (hk:KFL caps) (g:Letter->Bool) (l:List Letter) (hg:∀ x ∈ l,Ct Try.prog h (.agg (Zc x) :: caps) (B (g x))) (hl:l.length < 4611686018427387904) {c:Bool} :
 Ct Try.prog 85 [.sl c 8 (l.map Zc),.cl h caps] (I (X7 g l 0)):=by
 refine t85.1 ⟨by simp [KF,Zb,KFL,Zc],hk,trivial⟩ (by simp [KF]) ?_
 dsimp only [c85,r85,go_sem,rA,rM,rS]
 refine Yf (fun k:Nat=>[(8,I k)]) (fun _=>[]) (fun k=>k<=l.length/\X7 g (l.drop k) k=X7 g l 0) (fun k=>l.length - k) 0 ⟨Nat.zero_le _,rfl⟩ ?_ ?_
 . (refine Zi ?_ ?_ ?_ rfl rfl<;>dsimp only [Zc,hk,id,go_sem,rA,rM,rS]<;>simp [Zc,hk,Zb,Ze,KFR,KFL,KF,Zd,mtO,nbr])
 . intro k ⟨hk',hi⟩
   dsimp only [go_sem,rA,rM,rS]
   refine br ?_ ?_
   . intro hlt
     have hlt:k < l.length:=by simpa using hlt
     dsimp only [go_sem,rA,rM,rS]
     refine Zq k hlt rfl ?_
     dsimp only [Zc,go_sem,rA,rM,rS]
     refine call (hg l[k] (List.getElem_mem _)) ?_
     dsimp only [go_sem,rA,rM,rS]
     refine br ?_ ?_
     . intro hgx
       dsimp only [go_sem,rA,rM,rS]
       rw [<- hi,List.drop_eq_getElem_cons hlt]
       simp [X7,hgx]
     . intro hgx
       dsimp only [go_sem,rA,rM,rS]
       refine ⟨k+1,⟨by omega,?_⟩,by omega,?_⟩
       . rw [<- hi,List.drop_eq_getElem_cons hlt];simp [X7,hgx]
       . rw [Zf (by omega) (by omega)]
         (refine Zi ?_ ?_ ?_ rfl rfl<;>dsimp only [Zc,hk,id,go_sem,rA,rM,rS]<;>simp [Zc,hk,Zb,Ze,KFR,KFL,KF,Zd,mtO,nbr])
   . intro hlt
     have hlt:k=l.length:=by simp at hlt;omega
     dsimp only [go_sem,rA,rM,rS]
     rw [<- hi,hlt];simp [X7]
theorem con64 (h:Nat) (caps:List SV) (hk:KFL caps) (g:Letter->Bool) (l:List Letter) (hg:∀ x ∈ l,Ct Try.prog h (.agg (Zc x) :: caps) (B (g x))) (hl:l.length < 4611686018427387904) {c:Bool} :
 Ct Try.prog 64 [.sl c 8 (l.map Zc),.cl h caps] (B (l.any g)):=by
 refine t64.1 ⟨by simp [KF,Zb,KFL,Zc],hk,trivial⟩ (by simp [KF]) ?_
 dsimp only [c64,r64,go_sem,rA,rM,rS]
 refine call (idx85 h caps hk g l hg hl) ?_
 dsimp only [go_sem,rA,rM,rS]
 rw [Zcu]
theorem Z2 (n lo hi:Int):Ct Try.prog 45 [I n,I lo,I hi] (B (inR lo hi n)):=by
 refine t45.1 (by simp [KFL,KF]) (by simp [KFL,KF]) ?_
 dsimp only [c45,r45,go_sem,rA,rM,rS]
 refine gb ?_;dsimp only [go_sem,rA,rM,rS]
 refine gb ?_;dsimp only [go_sem,rA,rM,rS]
 refine gb ?_;dsimp only [go_sem,rA,rM,rS]
 simp [inR]
theorem Zz1 (lo hi x:Int):Ct Try.prog 62 [I x,.ps [I lo] 0,.ps [I hi] 0] (B (!inR lo hi x)):=by
 refine t62.1 (by simp [KFL,KF]) (by simp [KFL,KF]) ?_
 dsimp only [c62,r62,go_sem,rA,rM,rS]
 repeat (refine gb ?_;dsimp only [go_sem,rA,rM,rS])
 (simp only [inR,Option.some.injEq,SV.v.injEq,Value.bool.injEq]<;>grind)
theorem ZyK (lo hi:Int) (l:List Int) (hl:l.length < 4611686018427387904) (c:Bool):Ct Try.prog 42 [I lo,I hi,.sl c 1 (l.map Zl)] (B (l.all (inR lo hi))):=by
 refine t42.1 (by simp [Zb,Zl,KFL,KF]) (by simp [KFL,KF]) ?_
 dsimp only [c42,r42,go_sem,rA,rM,rS]
 refine Zal (by simp [FLT]) (res:=B (l.any fun x=>!inR lo hi x)) ?_ ?_
 . dsimp only [go_sem,rA,rM,rS]
   exact con61 62 [.ps [I lo] 0,.ps [I hi] 0] (by simp [KFL,KF]) (fun x=>!inR lo hi x) l (fun x _=>Zz1 lo hi x) hl
 . dsimp only [go_sem,rA,rM,rS]
   simp [List.all_eq_not_any_not]
theorem in1 (lo hi a:Int) (c:Bool):Ct Try.prog 42 [I lo,I hi,.sl c 1 [[I a]]] (B (inR lo hi a)):=by
 have:=ZyK lo hi [a] (by simp) c
 simpa [Zl] using this
theorem in4 (lo hi a b d e:Int) (c:Bool):Ct Try.prog 42 [I lo,I hi,.sl c 1 [[I a],[I b],[I d],[I e]]] (B (inR lo hi a && (inR lo hi b && (inR lo hi d && inR lo hi e)))):=by
 have:=ZyK lo hi [a,b,d,e] (by simp) c
 simpa [Zl] using this
def atF (p:Pact) (who:Int):Int:=X7 (fun x=>decide (x.id=who)) p.partners 0
theorem WS (p:Pact) (who:Int):decide (atF p who ≥ 0)=atP p who:=Zcu _ _
theorem ZAb (x:Partner) (who:Int):Ct Try.prog 79 [.agg (Za x),.ps [I who] 0] (B (decide (x.id=who))):=by
 refine t79.1 (by simp [Za,KFL,KF]) (by simp [KFL,KF]) ?_
 dsimp only [c79,r79,Za,go_sem,rA,rM,rS]
 simp only [Option.some.injEq,SV.v.injEq,Value.bool.injEq]
 by_cases h:x.id=who<;>simp [h]
theorem ZuF (p:Pact) (who:Int) (hs:YI p):Ct Try.prog 54 [.agg (Zh p),I who] (I (atF p who)):=by
 refine t54.1 (by simp [Zh,Za,Zb,KFL,KF]) (by simp [KFL,KF]) ?_
 have:p.partners.length<=1000:=hs
 dsimp only [c54,r54,Zh,go_sem,rA,rM,rS]
 refine Zal (by simp [FLT]) (res:=I (atF p who)) ?_ ?_
 . dsimp only [go_sem,rA,rM,rS]
   exact idx78 79 [.ps [I who] 0] (by simp [KFL,KF]) (fun x=>decide (x.id=who)) p.partners (fun x _=>ZAb x who) (by omega)
 . dsimp only [go_sem,rA,rM,rS]
theorem X4 (p:Pact) (who:Int) (hs:YI p):Ct Try.prog 55 [.agg (Zh p),I who] (I (atF p who)):=by
 refine t55.1 (by simp [Zh,Za,Zb,KFL,KF]) (by simp [KFL,KF]) ?_
 have hs:p.partners.length<=1000:=hs
 dsimp only [c55,r55,Zh,go_sem,rA,rM,rS]
 refine Yf (fun k:Nat=>[(5,I k)]) (fun _=>[]) (fun k=>k<=p.partners.length/\X7 (fun x=>decide (x.id=who)) (p.partners.drop k) k=atF p who) (fun k=>p.partners.length - k) 0 ⟨Nat.zero_le _,rfl⟩ ?_ ?_
 . (refine Zi ?_ ?_ ?_ rfl rfl<;>dsimp only [Zh,Za,id,go_sem,rA,rM,rS]<;>simp [Zh,Za,Zb,Ze,KFR,KFL,KF,Zd,mtO,nbr])
 rintro k ⟨hk,hi⟩
 dsimp only [go_sem,rA,rM,rS]
 simp only [List.length_map]
 by_cases hlt:k < p.partners.length
 . refine Zw (by simpa using hlt) ?_
   dsimp only [go_sem,rA,rM,rS]
   refine Zq k hlt rfl ?_
   dsimp only [Za,go_sem,rA,rM,rS]
   rw [List.drop_eq_getElem_cons hlt] at hi
   by_cases hx:p.partners[k].id=who
   . refine Zw (by simpa using hx) ?_
     dsimp only [go_sem,rA,rM,rS]
     rw [<- hi];simp [X7,hx]
   . refine Zu (by simpa using hx) ?_
     dsimp only [go_sem,rA,rM,rS]
     rw [Zf (n:=(k:Int)+1) (by omega) (by omega)]
     refine ⟨k+1,⟨hlt,by rw [<- hi];simp [X7,hx]⟩,by omega,?_⟩
     (refine Zi ?_ ?_ ?_ rfl rfl<;>dsimp only [Zh,Za,id,go_sem,rA,rM,rS]<;>simp [Zh,Za,Zb,Ze,KFR,KFL,KF,Zd,mtO,nbr])
 . refine Zu (by simpa using hlt) ?_
   dsimp only [go_sem,rA,rM,rS]
   rw [<- hi,List.drop_eq_nil_of_le (by omega)];rfl
end Go.Proofs.Ythilckbkffjliaa
namespace Go.Azalai
def Zqs (p:Pact):Int:=if ZA p=true then 0 else 80
structure PreP (p:Pact) (k:Nat) (last puts shares:Int):Prop where
 le:k<=p.partners.length
 ok:Ye (-1) p.partners=Ye last (p.partners.drop k)
 ps:puts=Zt ((p.partners.take k).map (·.put))
 ss:shares=Zt ((p.partners.take k).map (·.share))
 lb:-1<=last/\last<=9999
 pb:0<=puts/\puts<=k * 100000000
 sb:0<=shares/\shares<=k * 1000
theorem PreP.start (p:Pact):PreP p 0 (-1) 0 0:=⟨Nat.zero_le _,rfl,rfl,rfl,by omega,by omega,by omega⟩
theorem V7 {α : Type} {f:α->Int} {l:List α} {k:Nat} (h:k < l.length):Zt ((l.take (k+1)).map f)=Zt ((l.take k).map f)+f l[k]:=by
 rw [List.take_succ_eq_append_getElem h,List.map_append,Vv];simp [Zt]
theorem PreP.step {p:Pact} {k:Nat} {last puts shares:Int} (h:PreP p k last puts shares) (hk:k < p.partners.length) (ho:(inR (last+1) 9999 p.partners[k].id && inR 0 100000000 p.partners[k].put && inR 0 1000 p.partners[k].share)=true) :
 PreP p (k+1) p.partners[k].id (puts+p.partners[k].put) (shares+p.partners[k].share):=by
 have hl:=h.lb;have hp:=h.pb;have hs:=h.sb
 refine ⟨hk,?_,?_,?_,?_,?_,?_⟩
 . rw [h.ok,List.drop_eq_getElem_cons hk,Ye,ho,Bool.true_and]
 . rw [V7 hk,h.ps]
 . rw [V7 hk,h.ss]
 all_goals
  simp only [inR,Bool.and_eq_true,decide_eq_true_eq] at ho
  omega
theorem PreP.bad {p:Pact} {k:Nat} {last puts shares:Int} (h:PreP p k last puts shares) (hk:k < p.partners.length) (ho:(inR (last+1) 9999 p.partners[k].id && inR 0 100000000 p.partners[k].put && inR 0 1000 p.partners[k].share)=false):ZA p=false:=by
 have:Ye (-1) p.partners=false:=by rw [h.ok,List.drop_eq_getElem_cons hk,Ye,ho,Bool.false_and]
 simp [ZA,this]
theorem PreP.done {p:Pact} {k:Nat} {last puts shares:Int} (h:PreP p k last puts shares) (hk:k=p.partners.length):Ye (-1) p.partners=true/\puts=Zt (p.partners.map (·.put))/\shares=Zt (p.partners.map (·.share)):=by
 subst hk
 refine ⟨by rw [h.ok,List.drop_length];rfl,?_,?_⟩
 . rw [h.ps,List.take_length]
 . rw [h.ss,List.take_length]
end Go.Azalai
namespace Go.Proofs.Ythilckbkffjliaa
open Go Go.Sx Go.Azalai
theorem ZnB (p:Pact) (hs:YI p):Ct Try.prog 20 [.agg (Zh p)] (I (Zqs p)):=by
 refine t20.1 (by simp [Zh,Za,Zb,KFL,KF]) (by simp [KFL,KF]) ?_
 have hs:p.partners.length<=1000:=hs
 dsimp only [c20,r20,Zh,go_sem,rA,rM,rS]
 simp only [List.length_map]
 refine call (in1 1 8 _ _) ?_
 dsimp only [go_sem,rA,rM,rS]
 repeat (first | (refine gb ?_;dsimp only [go_sem,rA,rM,rS]) | (refine call (in1 0 1000 _ _) ?_;dsimp only [go_sem,rA,rM,rS]) | (refine call (in1 0 100000 _ _) ?_;dsimp only [go_sem,rA,rM,rS]))
 by_cases hall:(inR 1 8 p.partners.length && inR 0 1000 p.calf && inR 0 1000 p.hire && inR 0 100000 p.ends)=true
 case neg =>
  have hf:ZA p=false:=by
   rw [Bool.not_eq_true] at hall
   simp only [ZA,hall,Bool.false_and]
  refine Zw (by grind) ?_
  dsimp only [go_sem,rA,rM,rS]
  simp [Zqs,hf]
 refine Zu (by grind) ?_
 dsimp only [go_sem,rA,rM,rS]
 have h8:p.partners.length<=8:=by simp [inR] at hall;omega
 simp only [List.length_map]
 refine Yf (fun s:Nat × Int × Int × Int=>[(38,I s.1),(3,I s.2.1),(4,I s.2.2.1),(5,I s.2.2.2)]) (fun _=>[]) (fun s=>PreP p s.1 s.2.1 s.2.2.1 s.2.2.2) (fun s=>p.partners.length - s.1) (0,-1,0,0) (.start p) ?_ ?_
 . (refine Zi ?_ ?_ ?_ rfl rfl<;>dsimp only [Zh,Za,id,go_sem,rA,rM,rS]<;>simp [Zh,Za,Zb,Ze,KFR,KFL,KF,Zd,mtO,nbr])
 rintro ⟨k,last,puts,shares⟩ hI
 simp only at hI
 have hle:=hI.le;have hlb:=hI.lb;have hpb:=hI.pb;have hsb:=hI.sb
 dsimp only [go_sem,rA,rM,rS]
 by_cases hlt:k < p.partners.length
 . refine Zw (by simpa using hlt) ?_
   dsimp only [go_sem,rA,rM,rS]
   refine Zq k hlt rfl ?_
   dsimp only [Za,go_sem,rA,rM,rS]
   rw [Zf (n:=last+1) (by omega) (by omega)]
   refine call (in1 (last+1) 9999 _ _) ?_
   dsimp only [go_sem,rA,rM,rS]
   repeat (first | (refine gb ?_;dsimp only [go_sem,rA,rM,rS]) | (refine call (in1 0 100000000 _ _) ?_;dsimp only [go_sem,rA,rM,rS]) | (refine call (in1 0 1000 _ _) ?_;dsimp only [go_sem,rA,rM,rS]))
   by_cases ho:(inR (last+1) 9999 p.partners[k].id && inR 0 100000000 p.partners[k].put && inR 0 1000 p.partners[k].share)=true
   case neg =>
    rw [Bool.not_eq_true] at ho
    refine Zw (by grind) ?_
    dsimp only [go_sem,rA,rM,rS]
    simp [Zqs,hI.bad hlt ho]
   refine Zu (by grind) ?_
   dsimp only [go_sem,rA,rM,rS]
   have ho':=ho
   simp only [inR,Bool.and_eq_true,decide_eq_true_eq] at ho'
   rw [Zf (n:=puts+_) (by omega) (by omega),Zf (n:=shares+_) (by omega) (by omega),Zf (n:=(k:Int)+1) (by omega) (by omega)]
   refine ⟨(k+1,p.partners[k].id,puts+p.partners[k].put,shares+p.partners[k].share),hI.step hlt ho,by simp only;omega,?_⟩
   (refine Zi ?_ ?_ ?_ rfl rfl<;>dsimp only [Zh,Za,id,go_sem,rA,rM,rS]<;>simp [Zh,Za,Zb,Ze,KFR,KFL,KF,Zd,mtO,nbr])
 refine Zu (by simpa using hlt) ?_
 dsimp only [go_sem,rA,rM,rS]
 obtain ⟨d1,d2,d3⟩:=hI.done (by omega)
 repeat (refine gb ?_;dsimp only [go_sem,rA,rM,rS])
 simp only [Bool.and_eq_true] at hall
 by_cases h0:puts=0\/shares≠1000
 . refine Zw (by rcases h0 with h | h<;>simp [h]) ?_
   dsimp only [go_sem,rA,rM,rS]
   have:ZA p=false:=by
    rw [<- Bool.not_eq_true]
    simp only [ZA,Bool.and_eq_true,decide_eq_true_eq,<- d2,<- d3]
    omega
   simp [Zqs,this]
 . refine Zu (by simp;omega) ?_
   dsimp only [go_sem,rA,rM,rS]
   have:ZA p=true:=by
    simp only [ZA,Bool.and_eq_true,decide_eq_true_eq,<- d2,<- d3,d1,hall]
    simp;omega
   simp [Zqs,this]
theorem Zfr (p:Pact) (hs:YI p):Ct Try.prog 44 [.agg (Zh p)] (B (ZA p)):=by
 refine t44.1 (by simp [Zh,Za,Zb,KFL,KF]) (by simp [KFL,KF]) ?_
 have hs:p.partners.length<=1000:=hs
 dsimp only [c44,r44,Zh,go_sem,rA,rM,rS]
 simp only [List.length_map]
 refine call (Z2 _ 1 8) ?_
 dsimp only [go_sem,rA,rM,rS]
 repeat (first | (refine gb ?_;dsimp only [go_sem,rA,rM,rS]) | (refine call (Z2 _ 0 1000) ?_;dsimp only [go_sem,rA,rM,rS]) | (refine call (Z2 _ 0 100000) ?_;dsimp only [go_sem,rA,rM,rS]))
 by_cases hall:(inR 1 8 p.partners.length && inR 0 1000 p.calf && inR 0 1000 p.hire && inR 0 100000 p.ends)=true
 case neg =>
  have hf:ZA p=false:=by
   rw [Bool.not_eq_true] at hall
   simp only [ZA,hall,Bool.false_and]
  refine Zw (by grind) ?_
  dsimp only [go_sem,rA,rM,rS]
  simp [hf]
 refine Zu (by grind) ?_
 dsimp only [go_sem,rA,rM,rS]
 have h8:p.partners.length<=8:=by simp [inR] at hall;omega
 refine Yf (fun s:Nat × Int × Int=>[(5,I s.1),(3,I s.2.1),(4,I s.2.2)]) (fun _=>[]) (fun s=>PreP p s.1 (if h:0 < s.1/\s.1<=p.partners.length then (p.partners[s.1 - 1]'(by omega)).id else -1) s.2.1 s.2.2) (fun s=>p.partners.length - s.1) (0,0,0) (.start p) ?_ ?_
 . (refine Zi ?_ ?_ ?_ rfl rfl<;>dsimp only [Zh,Za,id,go_sem,rA,rM,rS]<;>simp [Zh,Za,Zb,Ze,KFR,KFL,KF,Zd,mtO,nbr])
 rintro ⟨k,puts,shares⟩ hI
 simp only at hI
 have hle:=hI.le;have hlb:=hI.lb;have hpb:=hI.pb;have hsb:=hI.sb
 dsimp only [go_sem,rA,rM,rS]
 simp only [List.length_map]
 by_cases hlt:k < p.partners.length
 . refine Zw (by simpa using hlt) ?_
   dsimp only [go_sem,rA,rM,rS]
   refine Zq k hlt rfl ?_
   dsimp only [Za,go_sem,rA,rM,rS]
   refine call (Z2 _ 0 9999) ?_
   dsimp only [go_sem,rA,rM,rS]
   generalize hlast:(if h:0 < k/\k<=p.partners.length then (p.partners[k - 1]'(by omega)).id else -1)=last at *
   have hl0:k=0->last = -1:=fun h=>by rw [<- hlast,dif_neg (by omega)]
   have hl1:0 < k->last=(p.partners[k - 1]'(by omega)).id:=fun h=>by rw [<- hlast,dif_pos ⟨h,hle⟩]
   repeat (refine gb ?_;dsimp only [go_sem,rA,rM,rS])
   refine Zzg (k - 1) (Za (p.partners[k - 1]'(by omega))) rfl (fun h=>⟨(by have:(k:Int) > 0:=(by simpa using h);rw [Zf (by omega) (by omega)];omega),(by rw [List.getElem?_map,List.getElem?_eq_getElem (by omega)];rfl)⟩) ?_
   dsimp only [Za,go_sem,rA,rM,rS]
   repeat (first | (refine gb ?_;dsimp only [go_sem,rA,rM,rS]) | (refine call (Z2 _ 0 100000000) ?_;dsimp only [go_sem,rA,rM,rS]) | (refine call (Z2 _ 0 1000) ?_;dsimp only [go_sem,rA,rM,rS]))
   generalize hprev:(p.partners[k - 1]'(by omega)).id=prev at *
   by_cases ho:(inR (last+1) 9999 p.partners[k].id && inR 0 100000000 p.partners[k].put && inR 0 1000 p.partners[k].share)=true
   case neg =>
    rw [Bool.not_eq_true] at ho
    refine Zw ?_ ?_
    . rw [<- Bool.not_eq_false]
      intro hc
      rw [<- Bool.not_eq_true] at ho
      apply ho
      by_cases hk0:k=0
      . have:=hl0 hk0
        subst this
        simp only [inR,Bool.and_eq_true,decide_eq_true_eq] at hc ⊢
        grind
      . have:=hl1 (by omega)
        subst this
        simp only [inR,Bool.and_eq_true,decide_eq_true_eq] at hc ⊢
        grind
    dsimp only [go_sem,rA,rM,rS]
    simp [hI.bad hlt ho]
   refine Zu ?_ ?_
   . by_cases hk0:k=0
     . have:=hl0 hk0
       subst this
       simp only [inR,Bool.and_eq_true,decide_eq_true_eq] at ho ⊢
       grind
     . have:=hl1 (by omega)
       subst this
       simp only [inR,Bool.and_eq_true,decide_eq_true_eq] at ho ⊢
       grind
   dsimp only [go_sem,rA,rM,rS]
   have ho':=ho
   simp only [inR,Bool.and_eq_true,decide_eq_true_eq] at ho'
   rw [Zf (n:=puts+_) (by omega) (by omega),Zf (n:=shares+_) (by omega) (by omega),Zf (n:=(k:Int)+1) (by omega) (by omega)]
   refine ⟨(k+1,puts+p.partners[k].put,shares+p.partners[k].share),?_,by simp only;omega,?_⟩
   . have:=hI.step hlt ho
     simp only
     rw [dif_pos ⟨by omega,hlt⟩]
     simpa using this
   (refine Zi ?_ ?_ ?_ rfl rfl<;>dsimp only [Zh,Za,id,go_sem,rA,rM,rS]<;>simp [Zh,Za,Zb,Ze,KFR,KFL,KF,Zd,mtO,nbr])
 refine Zu (by simpa using hlt) ?_
 dsimp only [go_sem,rA,rM,rS]
 obtain ⟨d1,d2,d3⟩:=hI.done (by omega)
 repeat (refine gb ?_;dsimp only [go_sem,rA,rM,rS])
 simp only [Bool.and_eq_true] at hall
 have e0:decide (puts > 0)=decide (puts≠0):=by
  by_cases h:puts=0
  . simp [h]
  . have:puts > 0:=by omega
    simp [h,this]
 simp only [ZA,<- d2,<- d3,d1,hall,Bool.true_and,Bool.and_true]
 first | rw [<- e0] | skip
 by_cases h:shares=1000<;>simp [h]
end Go.Proofs.Ythilckbkffjliaa
