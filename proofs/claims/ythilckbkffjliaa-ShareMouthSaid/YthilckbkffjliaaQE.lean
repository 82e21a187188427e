/- Walks and plain laws that lead to the given statement, part 5 of 9. -/
import Derived.Test.YthilckbkffjliaaQD
import Derived.Test.YthilckbkffjliaaProg
import Derived.MapKept
import Derived.WideKeyRuns
set_option maxRecDepth 100000
set_option maxHeartbeats 4000000
set_option linter.all false
open Nat renaming reduceAdd->rA,reduceMul->rM,reduceSub->rS,beq_refl->nbr
namespace Go.Sx
def m1 (d t:Nat):Ins:=⟨some d,.mv (.t t),none,[]⟩
def o1 (d:Nat) (i:SI):Ins:=⟨some d,i,none,[]⟩
def sr1 (l:List Ins) (c:SC):SC:=.seq (.reg l) c
attribute [go_sem] m1 o1 sr1
open Go
structure Qt1 (P:Program) (f:FuncId) (c:SC) (r:List RV) (N:Nat):Prop where
 h:∀ {args:List SV} {res:SV},KFL args->KF res->sx P Y0 0 c (st0 args N) (ZAI r res)->(hA:Nat.ble args.length N=true:=by rfl)->Ct P f args res
theorem XC {P:Program} {f:FuncId} {fn:Func} {c:SC} {r:List RV} {N:Nat} (hf:P.funcs[f]?=some fn) (hd:fn.body.isSome=true) (hb:Yc P f=true) (hc:YQ P c (fn.body.getD .skip)=true) (hr:Xb P r fn.results.toList=true) (hN:fn.ntmps=N):Qt1 P f c r N:=⟨fun {args res} ka kr h hA=>by
 cases hq:fn.body with
 | none=>rw [hq] at hd;cases hd
 | some code=>rw [hq] at hc;exact ZlC hf hq hb hc hr hN (Nat.le_of_ble_eq_true hA) ka kr h⟩
def zv0:List Value:=[.int .i64 0,.int .i64 0,.int .u8 0,.int .i64 0,.int .i64 0,.int .i64 0,.int .i64 0,.bool false]
attribute [go_sem] zv0
end Go.Sx
namespace Go.Proofs.Ythilckbkffjliaa
open Go Go.Sx
def c16:SC:=(sr1 [
 o1 2 (.box (.t 0) 0 24),
 o1 4 (.mv (.c (.bool false)))]
 (sr1 [
 o1 5 (.addo (.t 2) 0),
 o1 6 (.ld (.t 5) 1 false),
 o1 7 (.len (.t 6)),
 o1 8 (.bin .gtr (.t 7) (.c (.int .i64 12))),
 m1 9 8,
 ⟨some 10,.mv (.t 1),some (9,false),[]⟩,
 ⟨some 11,.len (.t 10),some (9,false),[]⟩,
 ⟨some 12,.bin .gtr (.t 11) (.c (.int .i64 150)),some (9,false),[]⟩,
 o1 13 (.pick (.t 9) (.c (.bool true)) (.t 12)),
 m1 4 13]
 .ret))
def r16:List RV:=[.tmp 4]
theorem t16:Qt1 Try.prog 16 c16 r16 14:=XC Try.func16 rfl (by kernel_rfl) (by kernel_rfl) (by kernel_rfl) (by kernel_rfl)
def c20:SC:=(sr1 [
 o1 1 (.box (.t 0) 0 24),
 o1 2 (.mv (.c (.int .i64 0)))]
 (.seq (sr1 [
 o1 8 (.addo (.t 1) 0),
 o1 9 (.ld (.t 8) 1 false),
 o1 10 (.len (.t 9)),
 o1 11 (.bsl 1 3 [.t 10]),
 o1 12 (.call 42 [.c (.int .i64 1),.c (.int .i64 8),.t 11]),
 o1 13 (.un .not (.t 12)),
 m1 14 13,
 ⟨some 15,.addo (.t 1) 1,some (14,false),[]⟩,
 ⟨some 16,.ld (.t 15) 1 false,some (14,false),[]⟩,
 ⟨some 17,.bsl 1 3 [.t 16],some (14,false),[]⟩,
 ⟨some 18,.call 42 [.c (.int .i64 0),.c (.int .i64 1000),.t 17],some (14,false),[]⟩,
 ⟨some 19,.un .not (.t 18),some (14,false),[]⟩,
 o1 20 (.pick (.t 14) (.c (.bool true)) (.t 19)),
 m1 21 20,
 ⟨some 22,.addo (.t 1) 2,some (21,false),[]⟩,
 ⟨some 23,.ld (.t 22) 1 false,some (21,false),[]⟩,
 ⟨some 24,.bsl 1 3 [.t 23],some (21,false),[]⟩,
 ⟨some 25,.call 42 [.c (.int .i64 0),.c (.int .i64 1000),.t 24],some (21,false),[]⟩,
 ⟨some 26,.un .not (.t 25),some (21,false),[]⟩,
 o1 27 (.pick (.t 21) (.c (.bool true)) (.t 26)),
 m1 28 27,
 ⟨some 29,.addo (.t 1) 3,some (28,false),[]⟩,
 ⟨some 30,.ld (.t 29) 1 false,some (28,false),[]⟩,
 ⟨some 31,.bsl 1 3 [.t 30],some (28,false),[]⟩,
 ⟨some 32,.call 42 [.c (.int .i64 0),.c (.int .i64 100000),.t 31],some (28,false),[]⟩,
 ⟨some 33,.un .not (.t 32),some (28,false),[]⟩,
 o1 34 (.pick (.t 28) (.c (.bool true)) (.t 33))]
 (.cond (.t 34)
 (sr1 [
  o1 2 (.mv (.c (.int .i64 80)))]
  .ret)
 .skip))
 (sr1 [
 o1 3 (.mv (.c (.int .i64 (-1)))),
 o1 4 (.mv (.c (.int .i64 0))),
 o1 5 (.mv (.c (.int .i64 0)))]
 (.seq (sr1 [
 o1 35 (.addo (.t 1) 0),
 o1 36 (.ld (.t 35) 1 false),
 o1 37 (.len (.t 36)),
 o1 38 (.mv (.c (.int .i64 0)))]
 (.block 0 (.loop (sr1 [
  o1 39 (.bin .lss (.t 38) (.t 37))]
  (.seq (.cond (.t 39)
  .skip
  (.exit 0))
  (.seq (.block 1 (sr1 [
   o1 40 (.ixs (.t 36) (.t 38) 3),
   o1 41 (.ld (.t 40) 3 true),
   o1 7 (.alloc [.int .i64 0,.int .i64 0,.int .i64 0] 64),
   ⟨none,.st (.t 7) (.t 41) 3,none,[]⟩]
   (.seq (sr1 [
   m1 42 3,
   o1 43 (.bin .add (.t 42) (.c (.int .i64 1))),
   o1 44 (.addo (.t 7) 0),
   o1 45 (.ld (.t 44) 1 false),
   o1 46 (.bsl 1 3 [.t 45]),
   o1 47 (.call 42 [.t 43,.c (.int .i64 9999),.t 46]),
   o1 48 (.un .not (.t 47)),
   m1 49 48,
   ⟨some 50,.addo (.t 7) 1,some (49,false),[]⟩,
   ⟨some 51,.ld (.t 50) 1 false,some (49,false),[]⟩,
   ⟨some 52,.bsl 1 3 [.t 51],some (49,false),[]⟩,
   ⟨some 53,.call 42 [.c (.int .i64 0),.c (.int .i64 100000000),.t 52],some (49,false),[]⟩,
   ⟨some 54,.un .not (.t 53),some (49,false),[]⟩,
   o1 55 (.pick (.t 49) (.c (.bool true)) (.t 54)),
   m1 56 55,
   ⟨some 57,.addo (.t 7) 2,some (56,false),[]⟩,
   ⟨some 58,.ld (.t 57) 1 false,some (56,false),[]⟩,
   ⟨some 59,.bsl 1 3 [.t 58],some (56,false),[]⟩,
   ⟨some 60,.call 42 [.c (.int .i64 0),.c (.int .i64 1000),.t 59],some (56,false),[]⟩,
   ⟨some 61,.un .not (.t 60),some (56,false),[]⟩,
   o1 62 (.pick (.t 56) (.c (.bool true)) (.t 61))]
   (.cond (.t 62)
   (sr1 [
    o1 2 (.mv (.c (.int .i64 80)))]
    .ret)
   .skip))
   (.regd [0,1,2,3,4,5,6,7,8,9,10,11,12] [
   .op (o1 63 (.addo (.t 7) 0)),
   .op ⟨some 64,.ld (.t 63) 1 false,none,[0]⟩,
   .op (m1 65 4),
   .op (o1 66 (.addo (.t 7) 1)),
   .op ⟨some 67,.ld (.t 66) 1 false,none,[3]⟩,
   .op ⟨some 68,.bin .add (.t 65) (.t 67),none,[2,4]⟩,
   .op (m1 69 5),
   .op (o1 70 (.addo (.t 7) 2)),
   .op ⟨some 71,.ld (.t 70) 1 false,none,[7]⟩,
   .op ⟨some 72,.bin .add (.t 69) (.t 71),none,[6,8]⟩,
   .op ⟨some 3,.mv (.t 64),none,[0,1]⟩,
   .op ⟨some 4,.mv (.t 68),none,[0,1,2,3,4,5,10]⟩,
   .op ⟨some 5,.mv (.t 72),none,[0,1,2,3,4,5,6,7,8,9,10,11]⟩] 0 0 [
]))))
 (.reg [
 o1 73 (.bin .add (.t 38) (.c (.int .i64 1))),
 m1 38 73])))))))
 (.seq (sr1 [
 m1 74 4,
 o1 75 (.bin .eql (.t 74) (.c (.int .i64 0))),
 m1 76 75,
 ⟨some 77,.mv (.t 5),some (76,false),[]⟩,
 ⟨some 78,.bin .neq (.t 77) (.c (.int .i64 1000)),some (76,false),[]⟩,
 o1 79 (.pick (.t 76) (.c (.bool true)) (.t 78))]
 (.cond (.t 79)
 (sr1 [
  o1 2 (.mv (.c (.int .i64 80)))]
  .ret)
 .skip))
 (sr1 [
 o1 2 (.mv (.c (.int .i64 0)))]
 .ret))))))
def r20:List RV:=[.tmp 2]
theorem t20:Qt1 Try.prog 20 c20 r20 80:=XC Try.func20 rfl (by kernel_rfl) (by kernel_rfl) (by kernel_rfl) (by kernel_rfl)
def c21:SC:=(sr1 [
 o1 1 (.box (.t 0) 0 24),
 o1 2 (.mv (.c (.int .i64 0)))]
 (.seq (sr1 [
 o1 3 (.ld (.t 1) 4 true),
 o1 4 (.call 44 [.t 3]),
 o1 5 (.un .not (.t 4))]
 (.cond (.t 5)
 (sr1 [
  o1 2 (.mv (.c (.int .i64 80)))]
  .ret)
 .skip))
 (sr1 [
 o1 2 (.mv (.c (.int .i64 0)))]
 .ret)))
def r21:List RV:=[.tmp 2]
theorem t21:Qt1 Try.prog 21 c21 r21 6:=XC Try.func21 rfl (by kernel_rfl) (by kernel_rfl) (by kernel_rfl) (by kernel_rfl)
def c22:SC:=(sr1 [
 o1 4 (.mv (.c (.bool false)))]
 (.seq (sr1 [
 m1 6 0,
 o1 7 (.len (.t 6)),
 m1 8 1,
 o1 9 (.len (.t 8)),
 o1 10 (.bin .neq (.t 7) (.t 9))]
 (.cond (.t 10)
 (sr1 [
  o1 4 (.mv (.c (.bool false)))]
  .ret)
 .skip))
 (.seq (sr1 [
 o1 5 (.mv (.c (.int .i64 0)))]
 (.block 0 (.loop (.seq (sr1 [
  m1 11 5,
  m1 12 0,
  o1 13 (.len (.t 12)),
  o1 14 (.bin .lss (.t 11) (.t 13))]
  (.cond (.t 14)
  .skip
  (.exit 0)))
  (.seq (.block 1 (.seq (.regd [0,1,2,3,4,5,6,7,8] [
   .op (m1 17 0),
   .op (m1 18 5),
   .op ⟨some 19,.ixs (.t 17) (.t 18) 1,none,[0,1]⟩,
   .op ⟨some 20,.ld (.t 19) 1 false,none,[2]⟩,
   .op (m1 21 1),
   .op (m1 22 5),
   .op ⟨some 23,.ixs (.t 21) (.t 22) 1,none,[4,5]⟩,
   .op ⟨some 24,.ld (.t 23) 1 false,none,[6]⟩,
   .op ⟨some 25,.bin .neq (.t 20) (.t 24),none,[3,7]⟩] 0 0 [
])
 (.cond (.t 25)
 (sr1 [
  o1 4 (.mv (.c (.bool false)))]
  .ret)
 .skip)))
 (.reg [
 m1 15 5,
 o1 16 (.bin .add (.t 15) (.c (.int .i64 1))),
 m1 5 16]))))))
 (sr1 [
 o1 4 (.mv (.c (.bool true)))]
 .ret))))
def r22:List RV:=[.tmp 4]
theorem t22:Qt1 Try.prog 22 c22 r22 26:=XC Try.func22 rfl (by kernel_rfl) (by kernel_rfl) (by kernel_rfl) (by kernel_rfl)
def c33:SC:=(sr1 [
 o1 4 (.mv (.c (.bool false)))]
 (.seq (sr1 [
 m1 6 0,
 o1 7 (.len (.t 6)),
 m1 8 1,
 o1 9 (.len (.t 8)),
 o1 10 (.bin .neq (.t 7) (.t 9))]
 (.cond (.t 10)
 (sr1 [
  o1 4 (.mv (.c (.bool false)))]
  .ret)
 .skip))
 (.seq (sr1 [
 o1 5 (.mv (.c (.int .i64 0)))]
 (.block 0 (.loop (.seq (sr1 [
  m1 11 5,
  m1 12 0,
  o1 13 (.len (.t 12)),
  o1 14 (.bin .lss (.t 11) (.t 13))]
  (.cond (.t 14)
  .skip
  (.exit 0)))
  (.seq (.block 1 (.seq (.regd [0,1,2,3,4,5,6,7,8] [
   .op (m1 17 0),
   .op (m1 18 5),
   .op ⟨some 19,.ixs (.t 17) (.t 18) 2,none,[0,1]⟩,
   .op ⟨some 20,.ld (.t 19) 2 true,none,[2]⟩,
   .op (m1 21 1),
   .op (m1 22 5),
   .op ⟨some 23,.ixs (.t 21) (.t 22) 2,none,[4,5]⟩,
   .op ⟨some 24,.ld (.t 23) 2 true,none,[6]⟩,
   .op ⟨some 25,.eqs true true [1,1] (.t 20) (.t 24),none,[3,7]⟩] 0 0 [
])
 (.cond (.t 25)
 (sr1 [
  o1 4 (.mv (.c (.bool false)))]
  .ret)
 .skip)))
 (.reg [
 m1 15 5,
 o1 16 (.bin .add (.t 15) (.c (.int .i64 1))),
 m1 5 16]))))))
 (sr1 [
 o1 4 (.mv (.c (.bool true)))]
 .ret))))
def r33:List RV:=[.tmp 4]
theorem t33:Qt1 Try.prog 33 c33 r33 26:=XC Try.func33 rfl (by kernel_rfl) (by kernel_rfl) (by kernel_rfl) (by kernel_rfl)
def c36:SC:=(sr1 [
 o1 2 (.box (.t 0) 0 24),
 o1 3 (.box (.t 1) 0 50),
 o1 4 (.mv (.c (.bool false)))]
 (.seq (sr1 [
 o1 10 (.addo (.t 3) 0),
 o1 11 (.ld (.t 10) 1 false),
 o1 12 (.call 45 [.t 11,.c (.int .i64 0),.c (.int .i64 9999)]),
 o1 13 (.un .not (.t 12)),
 m1 14 13,
 ⟨some 15,.addo (.t 3) 1,some (14,false),[]⟩,
 ⟨some 16,.ld (.t 15) 1 false,some (14,false),[]⟩,
 ⟨some 17,.call 45 [.t 16,.c (.int .i64 0),.c (.int .i64 100000)],some (14,false),[]⟩,
 ⟨some 18,.un .not (.t 17),some (14,false),[]⟩,
 o1 19 (.pick (.t 14) (.c (.bool true)) (.t 18))]
 (.cond (.t 19)
 (sr1 [
  o1 4 (.mv (.c (.bool false)))]
  .ret)
 .skip))
 (sr1 [
 o1 20 (.addo (.t 3) 0),
 o1 21 (.ld (.t 20) 1 false),
 o1 22 (.addo (.t 3) 1),
 o1 23 (.ld (.t 22) 1 false),
 o1 24 (.addo (.t 3) 2),
 o1 25 (.ld (.t 24) 1 false),
 o1 26 (.addo (.t 3) 7),
 o1 27 (.ld (.t 26) 1 false),
 o1 28 (.build zv0 [(0,1,.t 21),(1,1,.t 23),(2,1,.t 25),(7,1,.t 27)]),
 o1 5 (.alloc zv0 50),
 ⟨none,.st (.t 5) (.t 28) 8,none,[]⟩]
 (.seq (.regd [0,1,2,3,4,5,6,7,8,9,10,11,12,13] [
 .op (o1 29 (.ld (.t 2) 4 true)),
 .op (o1 30 (.addo (.t 3) 3)),
 .op ⟨some 31,.ld (.t 30) 1 false,none,[1]⟩,
 .op ⟨some 32,.call 55 [.t 29,.t 31],none,[0,2]⟩,
 .op ⟨some 33,.bin .geq (.t 32) (.c (.int .i64 0)),none,[3]⟩,
 .op (o1 34 (.addo (.t 3) 5)),
 .op ⟨some 35,.ld (.t 34) 1 false,none,[5]⟩,
 .op ⟨some 36,.call 45 [.t 35,.c (.int .i64 0),.c (.int .i64 9999)],none,[3,6]⟩,
 .op (o1 37 (.addo (.t 3) 6)),
 .op ⟨some 38,.ld (.t 37) 1 false,none,[8]⟩,
 .op ⟨some 39,.call 45 [.t 38,.c (.int .i64 0),.c (.int .i64 10000000)],none,[7,9]⟩,
 .op ⟨some 6,.mv (.t 33),none,[0,1,2,3,4,10]⟩,
 .op ⟨some 7,.mv (.t 36),none,[0,1,2,3,4,5,6,7,11]⟩,
 .op ⟨some 8,.mv (.t 39),none,[0,1,2,3,4,5,6,7,8,9,10,11,12]⟩] 0 0 [
])
 (sr1 [
 o1 9 (.mv (.c (.bool false)))]
 (.seq (sr1 [
 o1 40 (.addo (.t 3) 2),
 o1 41 (.ld (.t 40) 1 false)]
 (.block 0 (.seq (sr1 [
  o1 43 (.bin .eql (.t 41) (.c (.int .u8 1))),
  m1 42 43]
  (.cond (.t 42)
  .skip
  (.reg [
   o1 44 (.bin .eql (.t 41) (.c (.int .u8 2))),
   m1 42 44])))
  (.cond (.t 42)
  (sr1 [
   o1 45 (.addo (.t 3) 6),
   o1 46 (.ld (.t 45) 1 false),
   o1 47 (.addo (.t 5) 6),
   ⟨none,.st (.t 47) (.t 46) 1,none,[]⟩]
   (.reg [
   m1 48 8,
   m1 9 48]))
  (sr1 [
   o1 50 (.bin .eql (.t 41) (.c (.int .u8 3))),
   m1 49 50]
   (.cond (.t 49)
   (.seq (.regd [0,1,4,2,3,5,6,7] [
    .op (o1 51 (.addo (.t 3) 3)),
    .op ⟨some 52,.ld (.t 51) 1 false,none,[0]⟩,
    .op ⟨some 55,.addo (.t 5) 3,none,[0,1]⟩,
    .hide (.t 55),
    .op (o1 53 (.addo (.t 3) 5)),
    .op ⟨some 54,.ld (.t 53) 1 false,none,[2]⟩] 0 1 [
    ⟨none,.st (.t 55) (.t 52) 1,none,[0,1,4]⟩,
    ⟨some 56,.addo (.t 5) 5,none,[0,1,2,3,4,5]⟩,
    ⟨none,.st (.t 56) (.t 54) 1,none,[0,1,2,3,4,5,6]⟩])
    (.reg [
    m1 57 6,
    m1 58 57,
    ⟨some 59,.mv (.t 7),some (58,true),[]⟩,
    o1 60 (.pick (.t 58) (.t 59) (.c (.bool false))),
    m1 9 60]))
   (.seq (sr1 [
    o1 62 (.bin .eql (.t 41) (.c (.int .u8 4))),
    m1 61 62]
    (.cond (.t 61)
    .skip
    (.reg [
     o1 63 (.bin .eql (.t 41) (.c (.int .u8 5))),
     m1 61 63])))
    (.cond (.t 61)
    (sr1 [
     o1 64 (.addo (.t 3) 5),
     o1 65 (.ld (.t 64) 1 false),
     o1 66 (.addo (.t 5) 5),
     ⟨none,.st (.t 66) (.t 65) 1,none,[]⟩]
     (.reg [
     m1 67 7,
     m1 9 67]))
    (sr1 [
     o1 69 (.bin .eql (.t 41) (.c (.int .u8 6))),
     m1 68 69]
     (.cond (.t 68)
     (.seq (.regd [0,1,6,2,3,4,5,7,8,9,10,11] [
      .op (o1 70 (.addo (.t 3) 5)),
      .op ⟨some 71,.ld (.t 70) 1 false,none,[0]⟩,
      .op ⟨some 76,.addo (.t 5) 5,none,[0,1]⟩,
      .hide (.t 5),
      .op (o1 72 (.addo (.t 3) 4)),
      .op ⟨some 73,.ld (.t 72) 1 false,none,[2]⟩,
      .op (o1 74 (.addo (.t 3) 6)),
      .op ⟨some 75,.ld (.t 74) 1 false,none,[4]⟩] 0 5 [
      ⟨none,.st (.t 76) (.t 71) 1,none,[0,1,6]⟩,
      ⟨some 77,.addo (.t 5) 4,none,[0,1,2,3,6,7]⟩,
      ⟨none,.st (.t 77) (.t 73) 1,none,[0,1,2,3,6,7,8]⟩,
      ⟨some 78,.addo (.t 5) 6,none,[0,1,2,3,4,5,6,7,8,9]⟩,
      ⟨none,.st (.t 78) (.t 75) 1,none,[0,1,2,3,4,5,6,7,8,9,10]⟩])
      (.reg [
      m1 79 7,
      m1 80 79,
      ⟨some 81,.mv (.t 8),some (80,true),[]⟩,
      o1 82 (.pick (.t 80) (.t 81) (.c (.bool false))),
      m1 83 82,
      ⟨some 84,.addo (.t 3) 4,some (83,true),[]⟩,
      ⟨some 85,.ld (.t 84) 1 false,some (83,true),[]⟩,
      ⟨some 86,.call 45 [.t 85,.c (.int .i64 0),.c (.int .i64 9999)],some (83,true),[]⟩,
      o1 87 (.pick (.t 83) (.t 86) (.c (.bool false))),
      m1 9 87]))
     (.seq (sr1 [
      o1 89 (.bin .eql (.t 41) (.c (.int .u8 7))),
      m1 88 89]
      (.cond (.t 88)
      .skip
      (.reg [
       o1 90 (.bin .eql (.t 41) (.c (.int .u8 8))),
       m1 88 90])))
      (.cond (.t 88)
      (.seq (.regd [0,1,6,2,3,4,5,7,8,9,10,11] [
       .op (o1 91 (.addo (.t 3) 3)),
       .op ⟨some 92,.ld (.t 91) 1 false,none,[0]⟩,
       .op ⟨some 97,.addo (.t 5) 3,none,[0,1]⟩,
       .hide (.t 5),
       .op (o1 93 (.addo (.t 3) 4)),
       .op ⟨some 94,.ld (.t 93) 1 false,none,[2]⟩,
       .op (o1 95 (.addo (.t 3) 6)),
       .op ⟨some 96,.ld (.t 95) 1 false,none,[4]⟩] 0 5 [
       ⟨none,.st (.t 97) (.t 92) 1,none,[0,1,6]⟩,
       ⟨some 98,.addo (.t 5) 4,none,[0,1,2,3,6,7]⟩,
       ⟨none,.st (.t 98) (.t 94) 1,none,[0,1,2,3,6,7,8]⟩,
       ⟨some 99,.addo (.t 5) 6,none,[0,1,2,3,4,5,6,7,8,9]⟩,
       ⟨none,.st (.t 99) (.t 96) 1,none,[0,1,2,3,4,5,6,7,8,9,10]⟩])
       (.reg [
       m1 100 6,
       m1 101 100,
       ⟨some 102,.mv (.t 8),some (101,true),[]⟩,
       o1 103 (.pick (.t 101) (.t 102) (.c (.bool false))),
       m1 104 103,
       ⟨some 105,.ld (.t 2) 4 true,some (104,true),[]⟩,
       ⟨some 106,.addo (.t 3) 4,some (104,true),[]⟩,
       ⟨some 107,.ld (.t 106) 1 false,some (104,true),[]⟩,
       ⟨some 108,.call 55 [.t 105,.t 107],some (104,true),[]⟩,
       ⟨some 109,.bin .geq (.t 108) (.c (.int .i64 0)),some (104,true),[]⟩,
       o1 110 (.pick (.t 104) (.t 109) (.c (.bool false))),
       m1 111 110,
       ⟨some 112,.addo (.t 3) 3,some (111,true),[]⟩,
       ⟨some 113,.ld (.t 112) 1 false,some (111,true),[]⟩,
       ⟨some 114,.addo (.t 3) 4,some (111,true),[]⟩,
       ⟨some 115,.ld (.t 114) 1 false,some (111,true),[]⟩,
       ⟨some 116,.bin .neq (.t 113) (.t 115),some (111,true),[]⟩,
       o1 117 (.pick (.t 111) (.t 116) (.c (.bool false))),
       m1 9 117]))
      .skip))))))))))))
 (sr1 [
 m1 118 9,
 m1 119 118,
 ⟨some 120,.ld (.t 3) 8 true,some (119,true),[]⟩,
 ⟨some 121,.ld (.t 5) 8 true,some (119,true),[]⟩,
 ⟨some 122,.eqs false true [1,1,1,1,1,1,1,0] (.t 120) (.t 121),some (119,true),[]⟩,
 o1 123 (.pick (.t 119) (.t 122) (.c (.bool false))),
 m1 4 123]
 .ret)))))))
def r36:List RV:=[.tmp 4]
theorem t36:Qt1 Try.prog 36 c36 r36 124:=XC Try.func36 rfl (by kernel_rfl) (by kernel_rfl) (by kernel_rfl) (by kernel_rfl)
def c38:SC:=(sr1 [
 o1 0 (.alloc [.slice none 0 0,.int .i64 0,.int .i64 0,.int .i64 0] 24)]
 (sr1 [
 o1 1 (.build [.int .i64 0,.int .i64 0,.int .i64 0] [(0,1,.c (.int .i64 1)),(1,1,.c (.int .i64 600)),(2,1,.c (.int .i64 500))]),
 o1 2 (.build [.int .i64 0,.int .i64 0,.int .i64 0] [(0,1,.c (.int .i64 2)),(1,1,.c (.int .i64 300)),(2,1,.c (.int .i64 200))]),
 o1 3 (.build [.int .i64 0,.int .i64 0,.int .i64 0] [(0,1,.c (.int .i64 3)),(2,1,.c (.int .i64 300))]),
 o1 4 (.bsl 3 64 [.t 1,.t 2,.t 3]),
 o1 5 (.build [.slice none 0 0,.int .i64 0,.int .i64 0,.int .i64 0] [(0,1,.t 4),(1,1,.c (.int .i64 500)),(2,1,.c (.int .i64 2)),(3,1,.c (.int .i64 100))]),
 ⟨none,.st (.t 0) (.t 5) 4,none,[]⟩]
 .ret))
def r38:List RV:=[.cell 0 4 true]
theorem t38:Qt1 Try.prog 38 c38 r38 6:=XC Try.func38 rfl (by kernel_rfl) (by kernel_rfl) (by kernel_rfl) (by kernel_rfl)
def c39:SC:=(sr1 [
 o1 0 (.mv (.c (.slice none 0 0)))]
 (sr1 [
 o1 1 (.build zv0 [(0,1,.c (.int .i64 10)),(1,1,.c (.int .i64 5)),(2,1,.c (.int .u8 3)),(3,1,.c (.int .i64 3)),(5,1,.c (.int .i64 7))]),
 o1 2 (.build zv0 [(0,1,.c (.int .i64 11)),(1,1,.c (.int .i64 20)),(2,1,.c (.int .u8 6)),(5,1,.c (.int .i64 7)),(4,1,.c (.int .i64 8)),(6,1,.c (.int .i64 101))]),
 o1 3 (.build zv0 [(0,1,.c (.int .i64 12)),(1,1,.c (.int .i64 30)),(2,1,.c (.int .u8 5)),(5,1,.c (.int .i64 7))]),
 o1 4 (.build zv0 [(0,1,.c (.int .i64 13)),(1,1,.c (.int .i64 50)),(2,1,.c (.int .u8 1)),(6,1,.c (.int .i64 1000))]),
 o1 5 (.build zv0 [(0,1,.c (.int .i64 14)),(1,1,.c (.int .i64 60)),(2,1,.c (.int .u8 2)),(6,1,.c (.int .i64 300))]),
 o1 6 (.bsl 8 50 [.t 1,.t 2,.t 3,.t 4,.t 5]),
 m1 0 6]
 .ret))
def r39:List RV:=[.tmp 0]
theorem t39:Qt1 Try.prog 39 c39 r39 7:=XC Try.func39 rfl (by kernel_rfl) (by kernel_rfl) (by kernel_rfl) (by kernel_rfl)
def c40:SC:=(sr1 [
 o1 0 (.alloc zv0 50)]
 (sr1 [
 o1 1 (.build zv0 [(0,1,.c (.int .i64 15)),(1,1,.c (.int .i64 25)),(2,1,.c (.int .u8 6)),(5,1,.c (.int .i64 7)),(4,1,.c (.int .i64 8)),(6,1,.c (.int .i64 90))]),
 ⟨none,.st (.t 0) (.t 1) 8,none,[]⟩]
 .ret))
def r40:List RV:=[.cell 0 8 true]
theorem t40:Qt1 Try.prog 40 c40 r40 2:=XC Try.func40 rfl (by kernel_rfl) (by kernel_rfl) (by kernel_rfl) (by kernel_rfl)
def c41:SC:=(sr1 [
 o1 0 (.mv (.c (.slice none 0 0)))]
 (sr1 [
 o1 1 (.build zv0 [(0,1,.c (.int .i64 16)),(1,1,.c (.int .i64 21)),(2,1,.c (.int .u8 7)),(3,1,.c (.int .i64 1)),(4,1,.c (.int .i64 2)),(6,1,.c (.int .i64 40))]),
 o1 2 (.build zv0 [(0,1,.c (.int .i64 17)),(1,1,.c (.int .i64 22)),(2,1,.c (.int .u8 8)),(3,1,.c (.int .i64 1)),(4,1,.c (.int .i64 2)),(6,1,.c (.int .i64 50))]),
 o1 3 (.build zv0 [(0,1,.c (.int .i64 18)),(1,1,.c (.int .i64 23)),(2,1,.c (.int .u8 8)),(3,1,.c (.int .i64 1)),(4,1,.c (.int .i64 2)),(6,1,.c (.int .i64 30))]),
 o1 4 (.bsl 8 50 [.t 1,.t 2,.t 3]),
 m1 0 4]
 .ret))
def r41:List RV:=[.tmp 0]
theorem t41:Qt1 Try.prog 41 c41 r41 5:=XC Try.func41 rfl (by kernel_rfl) (by kernel_rfl) (by kernel_rfl) (by kernel_rfl)
def c42:SC:=(sr1 [
 o1 3 (.box (.t 0) 0 3),
 o1 4 (.box (.t 1) 0 3),
 o1 6 (.mv (.c (.bool false)))]
 (sr1 [
 m1 7 2,
 o1 8 (.mkf 62 [.t 3,.t 4]),
 o1 9 (.call 61 [.t 7,.t 8]),
 o1 10 (.un .not (.t 9)),
 m1 6 10]
 .ret))
def r42:List RV:=[.tmp 6]
theorem t42:Qt1 Try.prog 42 c42 r42 11:=XC Try.func42 rfl (by kernel_rfl) (by kernel_rfl) (by kernel_rfl) (by kernel_rfl)
def c44:SC:=(sr1 [
 o1 1 (.box (.t 0) 0 24),
 o1 2 (.mv (.c (.bool false)))]
 (.seq (sr1 [
 o1 7 (.addo (.t 1) 0),
 o1 8 (.ld (.t 7) 1 false),
 o1 9 (.len (.t 8)),
 o1 10 (.call 45 [.t 9,.c (.int .i64 1),.c (.int .i64 8)]),
 o1 11 (.un .not (.t 10)),
 m1 12 11,
 ⟨some 13,.addo (.t 1) 1,some (12,false),[]⟩,
 ⟨some 14,.ld (.t 13) 1 false,some (12,false),[]⟩,
 ⟨some 15,.call 45 [.t 14,.c (.int .i64 0),.c (.int .i64 1000)],some (12,false),[]⟩,
 ⟨some 16,.un .not (.t 15),some (12,false),[]⟩,
 o1 17 (.pick (.t 12) (.c (.bool true)) (.t 16)),
 m1 18 17,
 ⟨some 19,.addo (.t 1) 2,some (18,false),[]⟩,
 ⟨some 20,.ld (.t 19) 1 false,some (18,false),[]⟩,
 ⟨some 21,.call 45 [.t 20,.c (.int .i64 0),.c (.int .i64 1000)],some (18,false),[]⟩,
 ⟨some 22,.un .not (.t 21),some (18,false),[]⟩,
 o1 23 (.pick (.t 18) (.c (.bool true)) (.t 22)),
 m1 24 23,
 ⟨some 25,.addo (.t 1) 3,some (24,false),[]⟩,
 ⟨some 26,.ld (.t 25) 1 false,some (24,false),[]⟩,
 ⟨some 27,.call 45 [.t 26,.c (.int .i64 0),.c (.int .i64 100000)],some (24,false),[]⟩,
 ⟨some 28,.un .not (.t 27),some (24,false),[]⟩,
 o1 29 (.pick (.t 24) (.c (.bool true)) (.t 28))]
 (.cond (.t 29)
 (sr1 [
  o1 2 (.mv (.c (.bool false)))]
  .ret)
 .skip))
 (sr1 [
 o1 3 (.mv (.c (.int .i64 0))),
 o1 4 (.mv (.c (.int .i64 0)))]
 (.seq (sr1 [
 o1 5 (.mv (.c (.int .i64 0)))]
 (.block 0 (.loop (.seq (sr1 [
  m1 30 5,
  o1 31 (.addo (.t 1) 0),
  o1 32 (.ld (.t 31) 1 false),
  o1 33 (.len (.t 32)),
  o1 34 (.bin .lss (.t 30) (.t 33))]
  (.cond (.t 34)
  .skip
  (.exit 0)))
  (.seq (.block 1 (sr1 [
   o1 37 (.addo (.t 1) 0),
   o1 38 (.ld (.t 37) 1 false),
   m1 39 5,
   o1 40 (.ixs (.t 38) (.t 39) 3),
   o1 41 (.ld (.t 40) 3 true),
   o1 6 (.alloc [.int .i64 0,.int .i64 0,.int .i64 0] 64),
   ⟨none,.st (.t 6) (.t 41) 3,none,[]⟩]
   (.seq (.seq (.regd [0,1,2,3,4,5,6,7,8,9,10,11,12,13,14,15,16,17,18,19,20,21,22,23,24,25,26,27,28,29,30,31] [
   .op (o1 42 (.addo (.t 6) 0)),
   .op ⟨some 43,.ld (.t 42) 1 false,none,[0]⟩,
   .op ⟨some 44,.call 45 [.t 43,.c (.int .i64 0),.c (.int .i64 9999)],none,[1]⟩,
   .op ⟨some 45,.un .not (.t 44),none,[2]⟩,
   .op ⟨some 46,.mv (.t 45),none,[2,3]⟩,
   .op ⟨some 47,.mv (.t 5),some (46,false),[4]⟩,
   .op ⟨some 48,.bin .gtr (.t 47) (.c (.int .i64 0)),some (46,false),[4,5]⟩,
   .op ⟨some 49,.mv (.t 48),some (46,false),[4,6]⟩,
   .op ⟨some 50,.addo (.t 6) 0,some (49,true),[7]⟩,
   .op ⟨some 51,.ld (.t 50) 1 false,some (49,true),[7,8]⟩,
   .op ⟨some 52,.addo (.t 1) 0,some (49,true),[7]⟩,
   .op ⟨some 53,.ld (.t 52) 1 false,some (49,true),[7,10]⟩,
   .op ⟨some 54,.mv (.t 5),some (49,true),[7]⟩,
   .op ⟨some 55,.bin .sub (.t 54) (.c (.int .i64 1)),some (49,true),[7,12]⟩,
   .op ⟨some 56,.ixs (.t 53) (.t 55) 3,some (49,true),[7,11,13]⟩,
   .op ⟨some 57,.addo (.t 56) 0,some (49,true),[7,14]⟩,
   .op ⟨some 58,.ld (.t 57) 1 false,some (49,true),[7,15]⟩,
   .op ⟨some 59,.bin .leq (.t 51) (.t 58),some (49,true),[7,9,16]⟩,
   .op ⟨some 60,.pick (.t 49) (.t 59) (.c (.bool false)),some (46,false),[4,7,17]⟩,
   .op ⟨some 61,.pick (.t 46) (.c (.bool true)) (.t 60),none,[4,18]⟩,
   .op ⟨some 62,.mv (.t 61),none,[7,19]⟩,
   .op ⟨some 63,.addo (.t 6) 1,some (62,false),[20]⟩,
   .op ⟨some 64,.ld (.t 63) 1 false,some (62,false),[20,21]⟩,
   .op ⟨some 65,.call 45 [.t 64,.c (.int .i64 0),.c (.int .i64 100000000)],some (62,false),[20,22]⟩,
   .op ⟨some 66,.un .not (.t 65),some (62,false),[20,23]⟩,
   .op ⟨some 67,.pick (.t 62) (.c (.bool true)) (.t 66),none,[20,24]⟩,
   .op ⟨some 68,.mv (.t 67),none,[23,25]⟩,
   .op ⟨some 69,.addo (.t 6) 2,some (68,false),[26]⟩,
   .op ⟨some 70,.ld (.t 69) 1 false,some (68,false),[26,27]⟩,
   .op ⟨some 71,.call 45 [.t 70,.c (.int .i64 0),.c (.int .i64 1000)],some (68,false),[26,28]⟩,
   .op ⟨some 72,.un .not (.t 71),some (68,false),[26,29]⟩,
   .op ⟨some 73,.pick (.t 68) (.c (.bool true)) (.t 72),none,[26,30]⟩] 0 0 [
])
 (.cond (.t 73)
 (sr1 [
  o1 2 (.mv (.c (.bool false)))]
  .ret)
 .skip))
 (.regd [0,1,2,3,4,5,6,7,8,9] [
 .op (m1 74 3),
 .op (o1 75 (.addo (.t 6) 1)),
 .op ⟨some 76,.ld (.t 75) 1 false,none,[1]⟩,
 .op ⟨some 77,.bin .add (.t 74) (.t 76),none,[0,2]⟩,
 .op (m1 78 4),
 .op (o1 79 (.addo (.t 6) 2)),
 .op ⟨some 80,.ld (.t 79) 1 false,none,[5]⟩,
 .op ⟨some 81,.bin .add (.t 78) (.t 80),none,[4,6]⟩,
 .op ⟨some 3,.mv (.t 77),none,[0,1,2,3]⟩,
 .op ⟨some 4,.mv (.t 81),none,[0,1,2,3,4,5,6,7,8]⟩] 0 0 [
]))))
 (.reg [
 m1 35 5,
 o1 36 (.bin .add (.t 35) (.c (.int .i64 1))),
 m1 5 36]))))))
 (sr1 [
 m1 82 3,
 o1 83 (.bin .gtr (.t 82) (.c (.int .i64 0))),
 m1 84 83,
 ⟨some 85,.mv (.t 4),some (84,true),[]⟩,
 ⟨some 86,.bin .eql (.t 85) (.c (.int .i64 1000)),some (84,true),[]⟩,
 o1 87 (.pick (.t 84) (.t 86) (.c (.bool false))),
 m1 2 87]
 .ret)))))
def r44:List RV:=[.tmp 2]
theorem t44:Qt1 Try.prog 44 c44 r44 88:=XC Try.func44 rfl (by kernel_rfl) (by kernel_rfl) (by kernel_rfl) (by kernel_rfl)
def c45:SC:=(sr1 [
 o1 6 (.mv (.c (.bool false)))]
 (sr1 [
 m1 7 0,
 m1 8 1,
 o1 9 (.bin .geq (.t 7) (.t 8)),
 m1 10 9,
 ⟨some 11,.mv (.t 0),some (10,true),[]⟩,
 ⟨some 12,.mv (.t 2),some (10,true),[]⟩,
 ⟨some 13,.bin .leq (.t 11) (.t 12),some (10,true),[]⟩,
 o1 14 (.pick (.t 10) (.t 13) (.c (.bool false))),
 m1 6 14]
 .ret))
def r45:List RV:=[.tmp 6]
theorem t45:Qt1 Try.prog 45 c45 r45 15:=XC Try.func45 rfl (by kernel_rfl) (by kernel_rfl) (by kernel_rfl) (by kernel_rfl)
def c51:SC:=(sr1 [
 o1 2 (.box (.t 0) 0 24),
 o1 4 (.mv (.c (.int .i64 0)))]
 (.seq (sr1 [
 m1 8 1,
 o1 9 (.len (.t 8)),
 o1 10 (.bin .gtr (.t 9) (.c (.int .i64 100)))]
 (.cond (.t 10)
 (sr1 [
  o1 4 (.mv (.c (.int .i64 4)))]
  .ret)
 .skip))
 (.seq (sr1 [
 o1 5 (.mv (.c (.int .i64 0)))]
 (.block 0 (.loop (.seq (sr1 [
  m1 11 5,
  m1 12 1,
  o1 13 (.len (.t 12)),
  o1 14 (.bin .lss (.t 11) (.t 13))]
  (.cond (.t 14)
  .skip
  (.exit 0)))
  (.seq (.block 1 (.seq (.regd [0,1,2,3,4,5,6] [
   .op (o1 17 (.ld (.t 2) 4 true)),
   .op (m1 18 1),
   .op (m1 19 5),
   .op ⟨some 20,.ixs (.t 18) (.t 19) 8,none,[1,2]⟩,
   .op ⟨some 21,.ld (.t 20) 8 true,none,[3]⟩,
   .op ⟨some 22,.call 36 [.t 17,.t 21],none,[0,4]⟩,
   .op ⟨some 23,.un .not (.t 22),none,[5]⟩] 0 0 [
])
 (.cond (.t 23)
 (sr1 [
  o1 4 (.mv (.c (.int .i64 81)))]
  .ret)
 .skip)))
 (.reg [
 m1 15 5,
 o1 16 (.bin .add (.t 15) (.c (.int .i64 1))),
 m1 5 16]))))))
 (.seq (sr1 [
 o1 6 (.mv (.c (.int .i64 0)))]
 (.block 2 (.loop (.seq (sr1 [
  m1 24 6,
  m1 25 1,
  o1 26 (.len (.t 25)),
  o1 27 (.bin .lss (.t 24) (.t 26))]
  (.cond (.t 27)
  .skip
  (.exit 2)))
  (.seq (.block 3 (sr1 [
   o1 7 (.mv (.c (.int .i64 0)))]
   (.block 4 (.loop (.seq (sr1 [
    m1 30 7,
    m1 31 6,
    o1 32 (.bin .lss (.t 30) (.t 31))]
    (.cond (.t 32)
    .skip
    (.exit 4)))
    (.seq (.block 5 (.seq (.regd [0,1,2,3,4,5,6,7,8,9,10,11,12,13,14,15,16,17,18,19,20,21] [
     .op (m1 35 1),
     .op (m1 36 6),
     .op ⟨some 37,.ixs (.t 35) (.t 36) 8,none,[0,1]⟩,
     .op ⟨some 38,.addo (.t 37) 0,none,[2]⟩,
     .op ⟨some 39,.ld (.t 38) 1 false,none,[3]⟩,
     .op (m1 40 1),
     .op (m1 41 7),
     .op ⟨some 42,.ixs (.t 40) (.t 41) 8,none,[5,6]⟩,
     .op ⟨some 43,.addo (.t 42) 0,none,[7]⟩,
     .op ⟨some 44,.ld (.t 43) 1 false,none,[8]⟩,
     .op ⟨some 45,.bin .eql (.t 39) (.t 44),none,[4,9]⟩,
     .op ⟨some 46,.mv (.t 45),none,[10]⟩,
     .op ⟨some 47,.mv (.t 1),some (46,true),[11]⟩,
     .op ⟨some 48,.mv (.t 6),some (46,true),[11]⟩,
     .op ⟨some 49,.ixs (.t 47) (.t 48) 8,some (46,true),[11,12,13]⟩,
     .op ⟨some 50,.ld (.t 49) 8 true,some (46,true),[11,14]⟩,
     .op ⟨some 51,.mv (.t 1),some (46,true),[11]⟩,
     .op ⟨some 52,.mv (.t 7),some (46,true),[11]⟩,
     .op ⟨some 53,.ixs (.t 51) (.t 52) 8,some (46,true),[11,16,17]⟩,
     .op ⟨some 54,.ld (.t 53) 8 true,some (46,true),[11,18]⟩,
     .op ⟨some 55,.eqs true true [1,1,1,1,1,1,1,0] (.t 50) (.t 54),some (46,true),[11,15,19]⟩,
     .op ⟨some 56,.pick (.t 46) (.t 55) (.c (.bool false)),none,[11,20]⟩] 0 0 [
])
 (.cond (.t 56)
 (sr1 [
  o1 4 (.mv (.c (.int .i64 82)))]
  .ret)
 .skip)))
 (.reg [
 m1 33 7,
 o1 34 (.bin .add (.t 33) (.c (.int .i64 1))),
 m1 7 34])))))))
 (.reg [
 m1 28 6,
 o1 29 (.bin .add (.t 28) (.c (.int .i64 1))),
 m1 6 29]))))))
 (sr1 [
 o1 4 (.mv (.c (.int .i64 0)))]
 .ret)))))
def r51:List RV:=[.tmp 4]
theorem t51:Qt1 Try.prog 51 c51 r51 57:=XC Try.func51 rfl (by kernel_rfl) (by kernel_rfl) (by kernel_rfl) (by kernel_rfl)
def c54:SC:=(sr1 [
 o1 2 (.box (.t 0) 0 24),
 o1 3 (.box (.t 1) 0 3),
 o1 4 (.mv (.c (.int .i64 0)))]
 (sr1 [
 o1 5 (.addo (.t 2) 0),
 o1 6 (.ld (.t 5) 1 false),
 o1 7 (.mkf 79 [.t 3]),
 o1 8 (.call 78 [.t 6,.t 7]),
 m1 4 8]
 .ret))
def r54:List RV:=[.tmp 4]
theorem t54:Qt1 Try.prog 54 c54 r54 9:=XC Try.func54 rfl (by kernel_rfl) (by kernel_rfl) (by kernel_rfl) (by kernel_rfl)
def c55:SC:=(sr1 [
 o1 2 (.box (.t 0) 0 24),
 o1 4 (.mv (.c (.int .i64 0)))]
 (.seq (sr1 [
 o1 5 (.mv (.c (.int .i64 0)))]
 (.block 0 (.loop (.seq (sr1 [
  m1 6 5,
  o1 7 (.addo (.t 2) 0),
  o1 8 (.ld (.t 7) 1 false),
  o1 9 (.len (.t 8)),
  o1 10 (.bin .lss (.t 6) (.t 9))]
  (.cond (.t 10)
  .skip
  (.exit 0)))
  (.seq (.block 1 (sr1 [
   o1 13 (.addo (.t 2) 0),
   o1 14 (.ld (.t 13) 1 false),
   m1 15 5,
   o1 16 (.ixs (.t 14) (.t 15) 3),
   o1 17 (.addo (.t 16) 0),
   o1 18 (.ld (.t 17) 1 false),
   m1 19 1,
   o1 20 (.bin .eql (.t 18) (.t 19))]
   (.cond (.t 20)
   (sr1 [
    m1 21 5,
    m1 4 21]
    .ret)
   .skip)))
  (.reg [
  m1 11 5,
  o1 12 (.bin .add (.t 11) (.c (.int .i64 1))),
  m1 5 12]))))))
 (sr1 [
 o1 4 (.mv (.c (.int .i64 (-1))))]
 .ret)))
def r55:List RV:=[.tmp 4]
theorem t55:Qt1 Try.prog 55 c55 r55 22:=XC Try.func55 rfl (by kernel_rfl) (by kernel_rfl) (by kernel_rfl) (by kernel_rfl)
def c60:SC:=(sr1 [
 o1 4 (.alloc [.int .i64 0,.int .i64 0] 70)]
 (sr1 [
 m1 5 0,
 m1 6 1,
 o1 7 (.build [.int .i64 0,.int .i64 0] [(0,1,.t 5),(1,1,.t 6)]),
 ⟨none,.st (.t 4) (.t 7) 2,none,[]⟩]
 .ret))
def r60:List RV:=[.cell 4 2 true]
theorem t60:Qt1 Try.prog 60 c60 r60 8:=XC Try.func60 rfl (by kernel_rfl) (by kernel_rfl) (by kernel_rfl) (by kernel_rfl)
def c61:SC:=(sr1 [
 o1 4 (.mv (.c (.bool false)))]
 (sr1 [
 m1 5 0,
 m1 6 1,
 o1 7 (.call 81 [.t 5,.t 6]),
 o1 8 (.bin .geq (.t 7) (.c (.int .i64 0))),
 m1 4 8]
 .ret))
def r61:List RV:=[.tmp 4]
theorem t61:Qt1 Try.prog 61 c61 r61 9:=XC Try.func61 rfl (by kernel_rfl) (by kernel_rfl) (by kernel_rfl) (by kernel_rfl)
def c62:SC:=(sr1 [
 o1 4 (.mv (.c (.bool false)))]
 (sr1 [
 m1 5 0,
 o1 6 (.ld (.t 1) 1 false),
 o1 7 (.bin .lss (.t 5) (.t 6)),
 m1 8 7,
 ⟨some 9,.mv (.t 0),some (8,false),[]⟩,
 ⟨some 10,.ld (.t 2) 1 false,some (8,false),[]⟩,
 ⟨some 11,.bin .gtr (.t 9) (.t 10),some (8,false),[]⟩,
 o1 12 (.pick (.t 8) (.c (.bool true)) (.t 11)),
 m1 4 12]
 .ret))
def r62:List RV:=[.tmp 4]
theorem t62:Qt1 Try.prog 62 c62 r62 13:=XC Try.func62 rfl (by kernel_rfl) (by kernel_rfl) (by kernel_rfl) (by kernel_rfl)
def c78:SC:=(sr1 [
 o1 4 (.mv (.c (.int .i64 0)))]
 (.seq (sr1 [
 m1 6 0,
 o1 7 (.len (.t 6)),
 o1 8 (.mv (.c (.int .i64 0)))]
 (.block 0 (.loop (sr1 [
  o1 9 (.bin .lss (.t 8) (.t 7))]
  (.seq (.cond (.t 9)
  .skip
  (.exit 0))
  (.seq (.block 1 (sr1 [
   m1 10 8,
   m1 5 10]
   (sr1 [
   m1 11 1,
   m1 12 0,
   m1 13 5,
   o1 14 (.ixs (.t 12) (.t 13) 3),
   o1 15 (.ld (.t 14) 3 true),
   o1 16 (.calv (.t 11) [.t 15])]
   (.cond (.t 16)
   (sr1 [
    m1 17 5,
    m1 4 17]
    .ret)
   .skip))))
  (.reg [
  o1 18 (.bin .add (.t 8) (.c (.int .i64 1))),
  m1 8 18])))))))
 (sr1 [
 o1 4 (.mv (.c (.int .i64 (-1))))]
 .ret)))
def r78:List RV:=[.tmp 4]
theorem t78:Qt1 Try.prog 78 c78 r78 19:=XC Try.func78 rfl (by kernel_rfl) (by kernel_rfl) (by kernel_rfl) (by kernel_rfl)
def c79:SC:=(sr1 [
 o1 2 (.box (.t 0) 0 64),
 o1 3 (.mv (.c (.bool false)))]
 (sr1 [
 o1 4 (.addo (.t 2) 0),
 o1 5 (.ld (.t 4) 1 false),
 o1 6 (.ld (.t 1) 1 false),
 o1 7 (.bin .eql (.t 5) (.t 6)),
 m1 3 7]
 .ret))
def r79:List RV:=[.tmp 3]
theorem t79:Qt1 Try.prog 79 c79 r79 8:=XC Try.func79 rfl (by kernel_rfl) (by kernel_rfl) (by kernel_rfl) (by kernel_rfl)
def c64:SC:=(sr1 [
 o1 4 (.mv (.c (.bool false)))]
 (sr1 [
 m1 5 0,
 m1 6 1,
 o1 7 (.call 85 [.t 5,.t 6]),
 o1 8 (.bin .geq (.t 7) (.c (.int .i64 0))),
 m1 4 8]
 .ret))
def r64:List RV:=[.tmp 4]
theorem t64:Qt1 Try.prog 64 c64 r64 9:=XC Try.func64 rfl (by kernel_rfl) (by kernel_rfl) (by kernel_rfl) (by kernel_rfl)
def c85:SC:=(sr1 [
 o1 4 (.mv (.c (.int .i64 0)))]
 (.seq (sr1 [
 m1 6 0,
 o1 7 (.len (.t 6)),
 o1 8 (.mv (.c (.int .i64 0)))]
 (.block 0 (.loop (sr1 [
  o1 9 (.bin .lss (.t 8) (.t 7))]
  (.seq (.cond (.t 9)
  .skip
  (.exit 0))
  (.seq (.block 1 (sr1 [
   m1 10 8,
   m1 5 10]
   (sr1 [
   m1 11 1,
   m1 12 0,
   m1 13 5,
   o1 14 (.ixs (.t 12) (.t 13) 8),
   o1 15 (.ld (.t 14) 8 true),
   o1 16 (.calv (.t 11) [.t 15])]
   (.cond (.t 16)
   (sr1 [
    m1 17 5,
    m1 4 17]
    .ret)
   .skip))))
  (.reg [
  o1 18 (.bin .add (.t 8) (.c (.int .i64 1))),
  m1 8 18])))))))
 (sr1 [
 o1 4 (.mv (.c (.int .i64 (-1))))]
 .ret)))
def r85:List RV:=[.tmp 4]
theorem t85:Qt1 Try.prog 85 c85 r85 19:=XC Try.func85 rfl (by kernel_rfl) (by kernel_rfl) (by kernel_rfl) (by kernel_rfl)
def c65:SC:=(sr1 [
 o1 2 (.box (.t 0) 0 50),
 o1 3 (.mv (.c (.bool false)))]
 (sr1 [
 o1 4 (.ld (.t 1) 4 true),
 o1 5 (.ld (.t 2) 8 true),
 o1 6 (.call 66 [.t 4,.t 5]),
 o1 7 (.un .not (.t 6)),
 m1 3 7]
 .ret))
def r65:List RV:=[.tmp 3]
theorem t65:Qt1 Try.prog 65 c65 r65 8:=XC Try.func65 rfl (by kernel_rfl) (by kernel_rfl) (by kernel_rfl) (by kernel_rfl)
def c66:SC:=(sr1 [
 o1 2 (.box (.t 0) 0 24),
 o1 3 (.box (.t 1) 0 50),
 o1 4 (.mv (.c (.bool false)))]
 (.seq (.regd [0,1,2,3,4,5,6,7,8,9] [
 .op (o1 9 (.call 72 [])),
 .op (o1 10 (.addo (.t 3) 2)),
 .op ⟨some 11,.ld (.t 10) 1 false,none,[1]⟩,
 .op ⟨some 12,.rv (Go.Op.lookup 120 (Go.Operand.tmp 9) (Go.Operand.tmp 11) Bool.true) [.t 9,.t 11],none,[0,2]⟩,
 .op ⟨some 8,.mv (.t 12),none,[3]⟩,
 .op ⟨some 13,.ext (.t 8) 0,none,[4]⟩,
 .op ⟨some 14,.ext (.t 8) 1,none,[4]⟩] 1 2 [
 o1 5 (.alloc [.nilFunc,.nilFunc,.nilFunc] 126),
 ⟨none,.st (.t 5) (.t 13) 3,none,[0,1,2,3,4,5,7]⟩,
 ⟨some 6,.mv (.t 14),none,[0,1,2,3,4,5,6,7,8]⟩])
 (.seq (sr1 [
 m1 15 6,
 o1 16 (.un .not (.t 15)),
 m1 17 16,
 ⟨some 18,.addo (.t 3) 0,some (17,false),[]⟩,
 ⟨some 19,.ld (.t 18) 1 false,some (17,false),[]⟩,
 ⟨some 20,.addo (.t 3) 3,some (17,false),[]⟩,
 ⟨some 21,.ld (.t 20) 1 false,some (17,false),[]⟩,
 ⟨some 22,.addo (.t 3) 4,some (17,false),[]⟩,
 ⟨some 23,.ld (.t 22) 1 false,some (17,false),[]⟩,
 ⟨some 24,.addo (.t 3) 5,some (17,false),[]⟩,
 ⟨some 25,.ld (.t 24) 1 false,some (17,false),[]⟩,
 ⟨some 26,.bsl 1 3 [.t 19,.t 21,.t 23,.t 25],some (17,false),[]⟩,
 ⟨some 27,.call 42 [.c (.int .i64 0),.c (.int .i64 9999),.t 26],some (17,false),[]⟩,
 ⟨some 28,.un .not (.t 27),some (17,false),[]⟩,
 o1 29 (.pick (.t 17) (.c (.bool true)) (.t 28)),
 m1 30 29,
 ⟨some 31,.addo (.t 3) 1,some (30,false),[]⟩,
 ⟨some 32,.ld (.t 31) 1 false,some (30,false),[]⟩,
 ⟨some 33,.bsl 1 3 [.t 32],some (30,false),[]⟩,
 ⟨some 34,.call 42 [.c (.int .i64 0),.c (.int .i64 100000),.t 33],some (30,false),[]⟩,
 ⟨some 35,.un .not (.t 34),some (30,false),[]⟩,
 o1 36 (.pick (.t 30) (.c (.bool true)) (.t 35)),
 m1 37 36,
 ⟨some 38,.addo (.t 3) 6,some (37,false),[]⟩,
 ⟨some 39,.ld (.t 38) 1 false,some (37,false),[]⟩,
 ⟨some 40,.bsl 1 3 [.t 39],some (37,false),[]⟩,
 ⟨some 41,.call 42 [.c (.int .i64 0),.c (.int .i64 10000000),.t 40],some (37,false),[]⟩,
 ⟨some 42,.un .not (.t 41),some (37,false),[]⟩,
 o1 43 (.pick (.t 37) (.c (.bool true)) (.t 42)),
 m1 44 43,
 ⟨some 45,.addo (.t 5) 1,some (44,false),[]⟩,
 ⟨some 46,.ld (.t 45) 1 false,some (44,false),[]⟩,
 ⟨some 47,.ld (.t 2) 4 true,some (44,false),[]⟩,
 ⟨some 48,.ld (.t 3) 8 true,some (44,false),[]⟩,
 ⟨some 49,.calv (.t 46) [.t 47,.t 48],some (44,false),[]⟩,
 ⟨some 50,.un .not (.t 49),some (44,false),[]⟩,
 o1 51 (.pick (.t 44) (.c (.bool true)) (.t 50))]
 (.cond (.t 51)
 (sr1 [
  o1 4 (.mv (.c (.bool false)))]
  .ret)
 .skip))
 (sr1 [
 o1 52 (.addo (.t 5) 0),
 o1 53 (.ld (.t 52) 1 false),
 o1 54 (.ld (.t 3) 8 true),
 o1 55 (.calv (.t 53) [.t 54]),
 o1 7 (.alloc zv0 50),
 ⟨none,.st (.t 7) (.t 55) 8,none,[]⟩]
 (.seq (.regd [0,1,8,2,3,4,5,6,7,9,10,11,12,13,14,15] [
 .op (o1 56 (.addo (.t 3) 0)),
 .op ⟨some 57,.ld (.t 56) 1 false,none,[0]⟩,
 .op ⟨some 64,.addo (.t 7) 0,none,[0,1]⟩,
 .hide (.t 7),
 .op (o1 58 (.addo (.t 3) 1)),
 .op ⟨some 59,.ld (.t 58) 1 false,none,[2]⟩,
 .op (o1 60 (.addo (.t 3) 2)),
 .op ⟨some 61,.ld (.t 60) 1 false,none,[4]⟩,
 .op (o1 62 (.addo (.t 3) 7)),
 .op ⟨some 63,.ld (.t 62) 1 false,none,[6]⟩] 0 7 [
 ⟨none,.st (.t 64) (.t 57) 1,none,[0,1,8]⟩,
 ⟨some 65,.addo (.t 7) 1,none,[0,1,2,3,8,9]⟩,
 ⟨none,.st (.t 65) (.t 59) 1,none,[0,1,2,3,8,9,10]⟩,
 ⟨some 66,.addo (.t 7) 2,none,[0,1,2,3,4,5,8,9,10,11]⟩,
 ⟨none,.st (.t 66) (.t 61) 1,none,[0,1,2,3,4,5,8,9,10,11,12]⟩,
 ⟨some 67,.addo (.t 7) 7,none,[0,1,2,3,4,5,6,7,8,9,10,11,12,13]⟩,
 ⟨none,.st (.t 67) (.t 63) 1,none,[0,1,2,3,4,5,6,7,8,9,10,11,12,13,14]⟩])
 (sr1 [
 o1 68 (.ld (.t 7) 8 true),
 o1 69 (.ld (.t 3) 8 true),
 o1 70 (.eqs false true [1,1,1,1,1,1,1,0] (.t 68) (.t 69)),
 m1 4 70]
 .ret))))))
def r66:List RV:=[.tmp 4]
theorem t66:Qt1 Try.prog 66 c66 r66 71:=XC Try.func66 rfl (by kernel_rfl) (by kernel_rfl) (by kernel_rfl) (by kernel_rfl)
def c68:SC:=(sr1 [
 o1 1 (.box (.t 0) 0 50),
 o1 2 (.mv (.c (.int .i64 0)))]
 (sr1 [
 o1 3 (.addo (.t 1) 1),
 o1 4 (.ld (.t 3) 1 false),
 m1 2 4]
 .ret))
def r68:List RV:=[.tmp 2]
theorem t68:Qt1 Try.prog 68 c68 r68 5:=XC Try.func68 rfl (by kernel_rfl) (by kernel_rfl) (by kernel_rfl) (by kernel_rfl)
def c69:SC:=(sr1 [
 o1 1 (.box (.t 0) 0 50),
 o1 2 (.mv (.c (.int .i64 0)))]
 (sr1 [
 o1 3 (.addo (.t 1) 0),
 o1 4 (.ld (.t 3) 1 false),
 m1 2 4]
 .ret))
def r69:List RV:=[.tmp 2]
theorem t69:Qt1 Try.prog 69 c69 r69 5:=XC Try.func69 rfl (by kernel_rfl) (by kernel_rfl) (by kernel_rfl) (by kernel_rfl)
def c88:SC:=(sr1 [
 o1 3 (.box (.t 0) 0 50),
 o1 4 (.box (.t 1) 0 50),
 o1 5 (.mv (.c (.int .i64 0)))]
 (.seq (sr1 [
 o1 9 (.ld (.t 2) 1 false),
 o1 10 (.len (.t 9)),
 o1 11 (.mv (.c (.int .i64 0)))]
 (.block 0 (.loop (sr1 [
  o1 12 (.bin .lss (.t 11) (.t 10))]
  (.seq (.cond (.t 12)
  .skip
  (.exit 0))
  (.seq (.block 1 (sr1 [
   o1 13 (.ixs (.t 9) (.t 11) 1),
   o1 14 (.ld (.t 13) 1 false),
   m1 7 14]
   (.seq (.regd [0,1,2,3,4,5,6,7] [
   .op (m1 15 7),
   .op (o1 16 (.ld (.t 3) 8 true)),
   .op ⟨some 17,.calv (.t 15) [.t 16],none,[0,1]⟩,
   .op (m1 18 7),
   .op (o1 19 (.ld (.t 4) 8 true)),
   .op ⟨some 20,.calv (.t 18) [.t 19],none,[2,3,4]⟩,
   .op ⟨some 21,.call 89 [.t 17,.t 20],none,[2,5]⟩,
   .op ⟨some 8,.mv (.t 21),none,[0,1,2,3,4,5,6]⟩] 0 0 [
])
 (sr1 [
 m1 22 8,
 o1 23 (.bin .neq (.t 22) (.c (.int .i64 0)))]
 (.cond (.t 23)
 (sr1 [
  m1 24 8,
  m1 5 24]
  .ret)
 .skip)))))
 (.reg [
 o1 25 (.bin .add (.t 11) (.c (.int .i64 1))),
 m1 11 25])))))))
 (sr1 [
 o1 5 (.mv (.c (.int .i64 0)))]
 .ret)))
def r88:List RV:=[.tmp 5]
theorem t88:Qt1 Try.prog 88 c88 r88 26:=XC Try.func88 rfl (by kernel_rfl) (by kernel_rfl) (by kernel_rfl) (by kernel_rfl)
def c89:SC:=(sr1 [
 o1 4 (.mv (.c (.int .i64 0)))]
 (sr1 [
 m1 7 0,
 o1 8 (.call 110 [.t 7]),
 m1 5 8]
 (sr1 [
 m1 9 1,
 o1 10 (.call 110 [.t 9]),
 m1 6 10]
 (.seq (sr1 [
 m1 11 5]
 (.cond (.t 11)
 (.seq (sr1 [
  m1 12 6]
  (.cond (.t 12)
  (sr1 [
   o1 4 (.mv (.c (.int .i64 0)))]
   .ret)
  .skip))
  (sr1 [
  o1 4 (.mv (.c (.int .i64 (-1))))]
  .ret))
 .skip))
 (.seq (sr1 [
 m1 13 6]
 (.cond (.t 13)
 (sr1 [
  o1 4 (.mv (.c (.int .i64 1)))]
  .ret)
 .skip))
 (.seq (sr1 [
 m1 14 0,
 m1 15 1,
 o1 16 (.bin .lss (.t 14) (.t 15))]
 (.cond (.t 16)
 (sr1 [
  o1 4 (.mv (.c (.int .i64 (-1))))]
  .ret)
 .skip))
 (.seq (sr1 [
 m1 17 0,
 m1 18 1,
 o1 19 (.bin .gtr (.t 17) (.t 18))]
 (.cond (.t 19)
 (sr1 [
  o1 4 (.mv (.c (.int .i64 1)))]
  .ret)
 .skip))
 (sr1 [
 o1 4 (.mv (.c (.int .i64 0)))]
 .ret))))))))
def r89:List RV:=[.tmp 4]
theorem t89:Qt1 Try.prog 89 c89 r89 20:=XC Try.func89 rfl (by kernel_rfl) (by kernel_rfl) (by kernel_rfl) (by kernel_rfl)
def c110:SC:=(sr1 [
 o1 2 (.mv (.c (.bool false)))]
 (sr1 [
 m1 3 0,
 m1 4 0,
 o1 5 (.bin .neq (.t 3) (.t 4)),
 m1 2 5]
 .ret))
def r110:List RV:=[.tmp 2]
theorem t110:Qt1 Try.prog 110 c110 r110 6:=XC Try.func110 rfl (by kernel_rfl) (by kernel_rfl) (by kernel_rfl) (by kernel_rfl)
def c90:SC:=(sr1 [
 o1 2 (.box (.t 0) 0 24),
 o1 3 (.box (.t 1) 0 50),
 o1 4 (.mv (.c (.bool false)))]
 (sr1 [
 o1 4 (.mv (.c (.bool true)))]
 .ret))
def r90:List RV:=[.tmp 4]
theorem t90:Qt1 Try.prog 90 c90 r90 5:=XC Try.func90 rfl (by kernel_rfl) (by kernel_rfl) (by kernel_rfl) (by kernel_rfl)
def c91:SC:=(sr1 [
 o1 1 (.box (.t 0) 0 50),
 o1 2 (.alloc zv0 50)]
 (sr1 [
 o1 3 (.addo (.t 1) 6),
 o1 4 (.ld (.t 3) 1 false),
 o1 5 (.build zv0 [(6,1,.t 4)]),
 ⟨none,.st (.t 2) (.t 5) 8,none,[]⟩]
 .ret))
def r91:List RV:=[.cell 2 8 true]
theorem t91:Qt1 Try.prog 91 c91 r91 6:=XC Try.func91 rfl (by kernel_rfl) (by kernel_rfl) (by kernel_rfl) (by kernel_rfl)
def c92:SC:=(sr1 [
 o1 1 (.box (.t 0) 0 50),
 o1 2 (.alloc zv0 50)]
 (sr1 [
 o1 3 (.addo (.t 1) 5),
 o1 4 (.ld (.t 3) 1 false),
 o1 5 (.build zv0 [(5,1,.t 4)]),
 ⟨none,.st (.t 2) (.t 5) 8,none,[]⟩]
 .ret))
def r92:List RV:=[.cell 2 8 true]
theorem t92:Qt1 Try.prog 92 c92 r92 6:=XC Try.func92 rfl (by kernel_rfl) (by kernel_rfl) (by kernel_rfl) (by kernel_rfl)
def c93:SC:=(sr1 [
 o1 1 (.box (.t 0) 0 50),
 o1 2 (.alloc zv0 50)]
 (sr1 [
 o1 3 (.addo (.t 1) 3),
 o1 4 (.ld (.t 3) 1 false),
 o1 5 (.addo (.t 1) 4),
 o1 6 (.ld (.t 5) 1 false),
 o1 7 (.addo (.t 1) 6),
 o1 8 (.ld (.t 7) 1 false),
 o1 9 (.build zv0 [(3,1,.t 4),(4,1,.t 6),(6,1,.t 8)]),
 ⟨none,.st (.t 2) (.t 9) 8,none,[]⟩]
 .ret))
def r93:List RV:=[.cell 2 8 true]
theorem t93:Qt1 Try.prog 93 c93 r93 10:=XC Try.func93 rfl (by kernel_rfl) (by kernel_rfl) (by kernel_rfl) (by kernel_rfl)
def c94:SC:=(sr1 [
 o1 2 (.box (.t 0) 0 24),
 o1 3 (.box (.t 1) 0 50),
 o1 4 (.mv (.c (.bool false)))]
 (sr1 [
 o1 5 (.ld (.t 2) 4 true),
 o1 6 (.addo (.t 3) 3),
 o1 7 (.ld (.t 6) 1 false),
 o1 8 (.call 54 [.t 5,.t 7]),
 o1 9 (.bin .geq (.t 8) (.c (.int .i64 0))),
 m1 10 9,
 ⟨some 11,.ld (.t 2) 4 true,some (10,true),[]⟩,
 ⟨some 12,.addo (.t 3) 4,some (10,true),[]⟩,
 ⟨some 13,.ld (.t 12) 1 false,some (10,true),[]⟩,
 ⟨some 14,.call 54 [.t 11,.t 13],some (10,true),[]⟩,
 ⟨some 15,.bin .geq (.t 14) (.c (.int .i64 0)),some (10,true),[]⟩,
 o1 16 (.pick (.t 10) (.t 15) (.c (.bool false))),
 m1 17 16,
 ⟨some 18,.addo (.t 3) 3,some (17,true),[]⟩,
 ⟨some 19,.ld (.t 18) 1 false,some (17,true),[]⟩,
 ⟨some 20,.addo (.t 3) 4,some (17,true),[]⟩,
 ⟨some 21,.ld (.t 20) 1 false,some (17,true),[]⟩,
 ⟨some 22,.bin .neq (.t 19) (.t 21),some (17,true),[]⟩,
 o1 23 (.pick (.t 17) (.t 22) (.c (.bool false))),
 m1 4 23]
 .ret))
def r94:List RV:=[.tmp 4]
theorem t94:Qt1 Try.prog 94 c94 r94 24:=XC Try.func94 rfl (by kernel_rfl) (by kernel_rfl) (by kernel_rfl) (by kernel_rfl)
def c97:SC:=(sr1 [
 o1 1 (.box (.t 0) 0 50),
 o1 2 (.alloc zv0 50)]
 (sr1 [
 o1 3 (.addo (.t 1) 3),
 o1 4 (.ld (.t 3) 1 false),
 o1 5 (.addo (.t 1) 5),
 o1 6 (.ld (.t 5) 1 false),
 o1 7 (.build zv0 [(3,1,.t 4),(5,1,.t 6)]),
 ⟨none,.st (.t 2) (.t 7) 8,none,[]⟩]
 .ret))
def r97:List RV:=[.cell 2 8 true]
theorem t97:Qt1 Try.prog 97 c97 r97 8:=XC Try.func97 rfl (by kernel_rfl) (by kernel_rfl) (by kernel_rfl) (by kernel_rfl)
def c98:SC:=(sr1 [
 o1 2 (.box (.t 0) 0 24),
 o1 3 (.box (.t 1) 0 50),
 o1 4 (.mv (.c (.bool false)))]
 (sr1 [
 o1 5 (.ld (.t 2) 4 true),
 o1 6 (.addo (.t 3) 3),
 o1 7 (.ld (.t 6) 1 false),
 o1 8 (.call 54 [.t 5,.t 7]),
 o1 9 (.bin .geq (.t 8) (.c (.int .i64 0))),
 m1 4 9]
 .ret))
def r98:List RV:=[.tmp 4]
theorem t98:Qt1 Try.prog 98 c98 r98 10:=XC Try.func98 rfl (by kernel_rfl) (by kernel_rfl) (by kernel_rfl) (by kernel_rfl)
def c102:SC:=(sr1 [
 o1 1 (.box (.t 0) 0 50),
 o1 2 (.alloc zv0 50)]
 (sr1 [
 o1 3 (.addo (.t 1) 5),
 o1 4 (.ld (.t 3) 1 false),
 o1 5 (.addo (.t 1) 4),
 o1 6 (.ld (.t 5) 1 false),
 o1 7 (.addo (.t 1) 6),
 o1 8 (.ld (.t 7) 1 false),
 o1 9 (.build zv0 [(5,1,.t 4),(4,1,.t 6),(6,1,.t 8)]),
 ⟨none,.st (.t 2) (.t 9) 8,none,[]⟩]
 .ret))
def r102:List RV:=[.cell 2 8 true]
theorem t102:Qt1 Try.prog 102 c102 r102 10:=XC Try.func102 rfl (by kernel_rfl) (by kernel_rfl) (by kernel_rfl) (by kernel_rfl)
def c81:SC:=(sr1 [
 o1 4 (.mv (.c (.int .i64 0)))]
 (.seq (sr1 [
 m1 6 0,
 o1 7 (.len (.t 6)),
 o1 8 (.mv (.c (.int .i64 0)))]
 (.block 0 (.loop (sr1 [
  o1 9 (.bin .lss (.t 8) (.t 7))]
  (.seq (.cond (.t 9)
  .skip
  (.exit 0))
  (.seq (.block 1 (sr1 [
   m1 10 8,
   m1 5 10]
   (sr1 [
   m1 11 1,
   m1 12 0,
   m1 13 5,
   o1 14 (.ixs (.t 12) (.t 13) 1),
   o1 15 (.ld (.t 14) 1 false),
   o1 16 (.calv (.t 11) [.t 15])]
   (.cond (.t 16)
   (sr1 [
    m1 17 5,
    m1 4 17]
    .ret)
   .skip))))
  (.reg [
  o1 18 (.bin .add (.t 8) (.c (.int .i64 1))),
  m1 8 18])))))))
 (sr1 [
 o1 4 (.mv (.c (.int .i64 (-1))))]
 .ret)))
def r81:List RV:=[.tmp 4]
theorem t81:Qt1 Try.prog 81 c81 r81 19:=XC Try.func81 rfl (by kernel_rfl) (by kernel_rfl) (by kernel_rfl) (by kernel_rfl)
def c58:SC:=(sr1 [
 o1 4 (.mv (.c (.int .i64 0)))]
 (.seq (sr1 [
 m1 6 0,
 o1 7 (.len (.t 6)),
 o1 8 (.mv (.c (.int .i64 0)))]
 (.block 0 (.loop (sr1 [
  o1 9 (.bin .lss (.t 8) (.t 7))]
  (.seq (.cond (.t 9)
  .skip
  (.exit 0))
  (.seq (.block 1 (sr1 [
   m1 10 8,
   m1 5 10]
   (sr1 [
   m1 11 1,
   m1 12 0,
   m1 13 5,
   o1 14 (.ixs (.t 12) (.t 13) 1),
   o1 15 (.ld (.t 14) 1 false),
   o1 16 (.bin .eql (.t 11) (.t 15))]
   (.cond (.t 16)
   (sr1 [
    m1 17 5,
    m1 4 17]
    .ret)
   .skip))))
  (.reg [
  o1 18 (.bin .add (.t 8) (.c (.int .i64 1))),
  m1 8 18])))))))
 (sr1 [
 o1 4 (.mv (.c (.int .i64 (-1))))]
 .ret)))
def r58:List RV:=[.tmp 4]
theorem t58:Qt1 Try.prog 58 c58 r58 19:=XC Try.func58 rfl (by kernel_rfl) (by kernel_rfl) (by kernel_rfl) (by kernel_rfl)
end Go.Proofs.Ythilckbkffjliaa
namespace Go.Sx
open Go Go.RowKit
section typed
variable {K V:Type} [DecidableEq K]
def mpS (key:K->Value) (val:V->SV) (L:List (Nat × K × V)):List (Nat × Value × SV):=L.map fun e=>(e.1,key e.2.1,val e.2.2)
def mget (k:K):List (Nat × K × V)->Option V
 | []=>none
 | e :: l=>if e.2.1=k then some e.2.2 else mget k l
def mset (c:Nat) (k:K) (v:V):List (Nat × K × V)->List (Nat × K × V)
 | []=>[(c,k,v)]
 | e :: l=>if e.2.1=k then (e.1,k,v) :: l else e :: mset c k v l
def Uq (k:K):List (Nat × K × V)->List (Nat × K × V)
 | []=>[]
 | e :: l=>if e.2.1=k then l else e :: Uq k l
def mclk (c:Nat) (k:K) (L:List (Nat × K × V)):Nat:=bif (mget k L).isSome then c else c+1
def fI (k:K):List K->List MapEntry->Nat->Option (Nat × Value)
 | q :: ks,e :: ys,i=>if q=k then some (i,e.val) else fI k ks ys (i+1)
 | _,_,_=>none
structure KeyT (P:Program) (kt:TypeId) (key:K->Value) (sv:K->SV):Prop where
 chk:∀ (em:Bool) (k:K) (w:World),(Instr.checkKey em 10000 kt (key k)).run P w = .ok () w
 fnd:∀ (k:K) (ks:List K) (ys:List MapEntry) (w:World),ys.map (·.key)=ks.map key->(Instr.findKey kt (key k) ys).run P w = .ok (fI k ks ys 0) w
 same:∀ k,Instr.sameBits 10000 (key k) (key k)=true
 svR:∀ {w:World} {E:Env} {n ok:Nat->Prop} (k:K) (y:Value),R w E n ok (sv k) y↔y=key k
theorem WW {w:World} {E:Env} {n ok:Nat->Prop} {key:K->Value} {val:V->SV} (k:K):∀ (L:List (Nat × K × V)) (ys:List MapEntry) (i:Nat),RM w E n ok (mpS key val L) ys ->
 (mget k L=none/\fI k (L.map (·.2.1)) ys i=none/\Uq k L=L/\∀ {w':World} {E':Env} {n' ok':Nat->Prop} c v' y',R w' E' n' ok' (val v') y'->RM w' E' n' ok' (mpS key val L) ys->RM w' E' n' ok' (mpS key val (mset c k v' L)) (ys ++ [⟨key k,y',c⟩])) \/
 ∃ j v e,mget k L=some v/\fI k (L.map (·.2.1)) ys i=some (i+j,e.val)/\ys[j]? = some e/\e.key=key k/\R w E n ok (val v) e.val /\
  (∀ {w':World} {E':Env} {n' ok':Nat->Prop},RM w' E' n' ok' (mpS key val L) ys->RM w' E' n' ok' (mpS key val (Uq k L)) (ys.eraseIdx j)/\∀ c v' y',R w' E' n' ok' (val v') y'->RM w' E' n' ok' (mpS key val (mset c k v' L)) (ys.modify j fun e=>{ e with key:=key k,val:=y' }))
 | [],ys,i,h=>by
  simp only [mpS,List.map_nil,RM] at h
  subst h
  exact .inl ⟨rfl,rfl,rfl,fun c v' y' hR _=>by simp only [mset,mpS,List.map_cons,List.map_nil,List.nil_append,RM];exact ⟨y',[],rfl,hR,rfl⟩⟩
 | e :: l,ys,i,h=>by
  simp only [mpS,List.map_cons,RM] at h
  obtain ⟨y,r,rfl,h1,h2⟩:=h
  by_cases hk:e.2.1=k
  . refine .inr ⟨0,e.2.2,⟨key e.2.1,y,e.1⟩,by simp [mget,hk],by simp [fI,hk],rfl,by simp [hk],h1,fun {w' E' n' ok'} h'=>?_⟩
    simp only [mpS,List.map_cons,RM] at h'
    obtain ⟨y0,r0,e0,h3,h4⟩:=h'
    cases e0
    refine ⟨by simpa [Uq,hk,mpS] using h4,fun c v' y' hR=>?_⟩
    simp only [mset,hk,if_true,mpS,List.map_cons,RM]
    exact ⟨y',r,by simp,hR,h4⟩
  . rcases WW k l r (i+1) h2 with ⟨a1,a2,a3,a4⟩ | ⟨j,v,e',b1,b2,b3,b4,b5,b6⟩
    . refine .inl ⟨by simp [mget,hk,a1],by simp [fI,hk,a2],by simp [Uq,hk,a3],fun {w' E' n' ok'} c v' y' hR h'=>?_⟩
      simp only [mpS,List.map_cons,RM] at h'
      obtain ⟨y0,r0,e0,h3,h4⟩:=h'
      cases e0
      simp only [mset,hk,if_false,mpS,List.map_cons,RM]
      exact ⟨y,_,rfl,h3,a4 c v' y' hR h4⟩
    . refine .inr ⟨j+1,v,e',by simp [mget,hk,b1],by simp [fI,hk,b2];omega,by simpa using b3,b4,b5,fun {w' E' n' ok'} h'=>?_⟩
      simp only [mpS,List.map_cons,RM] at h'
      obtain ⟨y0,r0,e0,h3,h4⟩:=h'
      cases e0
      obtain ⟨c1,c2⟩:=b6 h4
      refine ⟨?_,fun c v' y' hR=>?_⟩
      . simp only [Uq,hk,if_false,mpS,List.map_cons,RM]
        exact ⟨y,_,by simp,h3,c1⟩
      . simp only [mset,hk,if_false,mpS,List.map_cons,RM]
        exact ⟨y,_,by simp,h3,c2 c v' y' hR⟩
omit [DecidableEq K] in
theorem W5 {w:World} {E:Env} {n ok:Nat->Prop} {key:K->Value} {val:V->SV}:∀ {L:List (Nat × K × V)} {ys:List MapEntry},RM w E n ok (mpS key val L) ys->ys.map (·.key)=(L.map (·.2.1)).map key
 | [],ys,h=>by simp only [mpS,List.map_nil,RM] at h;subst h;rfl
 | e :: l,ys,h=>by
  simp only [mpS,List.map_cons,RM] at h
  obtain ⟨y,r,rfl,h1,h2⟩:=h
  simp only [List.map_cons,List.cons.injEq,true_and]
  exact W5 h2
theorem Zi8 {w:World} {E:Env} {n ok:Nat->Prop}:∀ {L:List (Nat × Value × SV)} {ys:List MapEntry},RM w E n ok L ys->∀ e ∈ ys,∃ x ∈ L,e.born=x.1/\e.key=x.2.1/\R w E n ok x.2.2 e.val
 | [],ys,h=>by simp only [RM] at h;subst h;simp
 | e :: l,ys,h=>by
  simp only [RM] at h;obtain ⟨y,r,rfl,h1,h2⟩:=h
  intro e' he'
  rcases List.mem_cons.1 he' with rfl | he'
  . exact ⟨e,by simp,rfl,rfl,h1⟩
  . obtain ⟨x,hx,h⟩:=Zi8 h2 e' he';exact ⟨x,by simp [hx],h⟩
theorem ZiT {w:World} {E:Env} {n ok:Nat->Prop}:∀ {L:List (Nat × Value × SV)} {ys:List MapEntry},RM w E n ok L ys->∀ x ∈ L,∃ e ∈ ys,e.born=x.1
 | [],ys,h=>by simp
 | e :: l,ys,h=>by
  simp only [RM] at h;obtain ⟨y,r,rfl,h1,h2⟩:=h
  intro x hx
  rcases List.mem_cons.1 hx with rfl | hx
  . exact ⟨_,List.mem_cons_self,rfl⟩
  . obtain ⟨e',he',h⟩:=ZiT h2 x hx;exact ⟨e',by simp [he'],h⟩
theorem Zrs {P:Program} {kt:TypeId} {kd:IntKind} (hu:P.underlying kt=some (.int kd)):KeyT P kt (fun n:Int=>.int kd n) (fun n=>.v (.int kd n)):=by
 refine ⟨fun em k w=>MapKept.run_checkKey hu (by simp [MapKept.IsKey]) em _,fun k ks ys w h=>?_,fun k=>by simp [Instr.sameBits],fun k y=>by simp only [R]⟩
 have:∀ (ks:List Int) (ys:List MapEntry) (i:Nat),ys.map (·.key)=ks.map (fun n:Int=>Value.int kd n)->Instr.findNow (.int kd) (.int kd k) ys i=some (fI k ks ys i):=by
  intro ks ys
  induction ys generalizing ks with
  | nil=>intro i h;cases ks with
   | nil=>rfl
   | cons a b=>simp at h
  | cons e ys ih=>intro i h;cases ks with
   | nil=>simp at h
   | cons a b =>
    simp only [List.map_cons,List.cons.injEq] at h
    simp only [Instr.findNow,h.1,Instr.sameNow,if_true,fI]
    by_cases ha:a=k
    . subst ha;simp
    . have:(k == a)=false:=by simpa using fun e=>ha e.symm
      simp [this,ha,ih b (i+1) h.2]
 exact MapKept.run_findKey hu (this ks ys 0 h)
theorem ZuR {P:Program} {kt t1:TypeId} {f1 f2:Field} (hu:P.underlying kt=some (.struct #[f1,f2])) (hu1:P.underlying t1=some (.int .i64)) (h1:f1.type=t1) (h2:f2.type=t1) (ho1:f1.offset=0) (ho2:f2.offset=1)
 (hs:XD P t1=some 1) (ha:U5 P t1=some false) (hn:f1.name≠"_") (hn2:f2.name≠"_") (he:∀ (a b c d:Int) (w:World),(Op.equal kt (.agg #[.int .i64 a,.int .i64 b]) (.agg #[.int .i64 c,.int .i64 d])).run P w = .ok (a == c && b == d) w) :
 KeyT P kt (fun n:Int × Int=>.agg #[.int .i64 n.1,.int .i64 n.2]) (fun n=>.agg [.v (.int .i64 n.1),.v (.int .i64 n.2)]):=by
 refine ⟨fun em k w=>?_,fun k ks ys w h=>?_,fun k=>by simp [Instr.sameBits],fun k y=>?_⟩
 . have p1:(part t1 #[Value.int .i64 k.1,.int .i64 k.2] 0).run P w = .ok (.int .i64 k.1) w:=Vf (ag:=false) ha hs _ (fun _=>by simp)
   have p2:(part t1 #[Value.int .i64 k.1,.int .i64 k.2] 1).run P w = .ok (.int .i64 k.2) w:=Vf (ag:=false) ha hs _ (fun _=>by simp)
   have q:∀ x,(Instr.checkKey em 9999 t1 (.int .i64 x)).run P w = .ok () w:=fun x=>MapKept.run_checkKey hu1 (by simp [MapKept.IsKey]) em _
   rw [show (10000:Nat)=9999+1 from rfl,Instr.checkKey]
   simp [Sem.run_bind,run_underlying hu,h1,h2,ho1,ho2,hn,hn2,p1,p2,q]
 . rw [run_findKey_eq w (by rw [hu])]
   have:∀ (ks:List (Int × Int)) (ys:List MapEntry) (i:Nat),ys.map (·.key)=ks.map (fun n:Int × Int=>Value.agg #[.int .i64 n.1,.int .i64 n.2])->(Instr.findAsking kt (.agg #[.int .i64 k.1,.int .i64 k.2]) ys i).run P w = .ok (fI k ks ys i) w:=by
    intro ks ys
    induction ys generalizing ks with
    | nil=>intro i h;cases ks with
     | nil=>rfl
     | cons a b=>simp at h
    | cons e ys ih=>intro i h;cases ks with
     | nil=>simp at h
     | cons a b =>
      simp only [List.map_cons,List.cons.injEq] at h
      simp only [Instr.findAsking,h.1,Sem.run_bind,he,Result.andThen_ok,fI]
      by_cases hak:a=k
      . subst hak;simp
      . have:(k.1 == a.1 && k.2 == a.2)=false:=by
         rw [Bool.eq_false_iff];intro hh
         simp only [Bool.and_eq_true,beq_iff_eq] at hh
         exact hak (Prod.ext hh.1.symm hh.2.symm)
        simp [this,hak,ih b (i+1) h.2]
   exact this ks ys 0 h
 . simp only [R,RL]
   constructor
   . rintro ⟨cs,rfl,y1,r,hcs,rfl,y2,r2,rfl,rfl,rfl⟩
     simp only [Value.agg.injEq]
     apply Array.toList_inj.1;simp [hcs]
   . rintro rfl
     exact ⟨_,rfl,_,_,rfl,rfl,_,_,rfl,rfl,rfl⟩
end typed
section
variable {P:Program} {C:Cx} {E:Env} {σ : St} {a:Act} {w:World}
def Vq (σ : St):Operand->SV
 | .tmp u=>lk u σ.fr
 | .const x=>.v x
 | _=>.any
theorem XW (h:Sim C E σ a w) {o:Operand} {s:SV} (hs:Vq σ o=s) (hg:∀ j b u,s≠.gd j b u):R w E (ltn σ.n) (okS C E σ.hp) s (a.eval o):=by
 cases o with
 | tmp u =>
  have:=Ztn (h.fr u) (fun j b u' e=>hg j b u' (by rw [<- hs];exact e))
  simp only [Vq] at hs;rw [hs] at this;exact this
 | const x=>simp only [Vq] at hs;subst hs;simp only [R];rfl
 | _=>simp only [Vq] at hs;subst hs;simp only [R]
theorem VU (h:Sim C E σ a w) {km c:Nat} {es:List (Nat × Value × SV)} (hk:lkh km σ.hp = .map es c) :
 ltn σ.n km/\∃ ys,w.heap[E.β km]? = some (.map ys c)/\RM w E (ltn σ.n) (okS C E σ.hp) es ys.toList:=by
 have hb:=h.hs.bk km
 rw [hk] at hb
 refine ⟨?_,hb⟩
 rcases Classical.em (ltn σ.n km) with q | q
 . exact q
 . rw [h.hs.kn km q] at hk;cases hk
theorem ZkZ {d:Option Nat} {s:SV} {r:KT} {K:RK} {y:Value} {w':World} {E':Env} {hp':List (Nat × HB)} {n':Nat} {next:Act->World->Prop} (hk:Yr d s none ⟨σ.fr,hp',n',σ.N,σ.gs⟩ r K) (h:Sim C E σ a w)
 (hst:ZF w w' (okS C E σ.hp) (okS C E' hp')) (hE:∀ k,k < σ.n->Ele E E' k k) (hn:σ.n<=n') (hh:HSim C E' hp' (ltn n') w') (hR:R w' E' (ltn n') (okS C E' hp') s y)
 (hnext:∀ σ' E' a' w',r σ' K->Sim C E' σ' a' w'->next a' w'):next (a.put d y) w':=by
 rcases WX hk with ⟨g1,g2⟩ | ⟨t,g1,g2,g3,g4,g5⟩
 . rw [g1];exact hnext _ E' _ _ g2 (Ys (σ:=σ) h hst hE hn hh)
 . rw [g1]
   exact hnext _ E' _ _ g5 (Xd (σ:=σ) h hst hE hn hh g2 g3 (fun j b u e=>by rw [e] at g4;cases g4) hR)
theorem WJ {d:Option Nat} {s:SV} {r:KT} {K:RK} {y:Value} {next:Act->World->Prop} (hk:Yr d s none σ r K) (h:Sim C E σ a w) (hR:R w E (ltn σ.n) (okS C E σ.hp) s y)
 (hnext:∀ σ' E' a' w',r σ' K->Sim C E' σ' a' w'->next a' w'):next (a.put d y) w :=
 ZkZ (hp':=σ.hp) (n':=σ.n) hk h (fun b hb _=>⟨hb,rfl⟩) (fun _ _=>Ele.rfl) (Nat.le_refl _) h.hs hR hnext
theorem UP {K':Type} [DecidableEq K'] {kt:TypeId} {key:K'->Value} {sv:K'->SV} (hK:KeyT P kt key sv) (k:K'):∀ j b u,sv k≠.gd j b u:=fun j b u e=>by
 have:=(hK.svR (w:=default) (E:=⟨fun _=>0,fun _ _=>undef,fun _=>0⟩) (n:=fun _=>True) (ok:=fun _=>True) k (key k)).2 rfl
 rw [e] at this;simp only [R] at this
theorem Zc9 {hp:List (Nat × HB)} {n:Nat->Prop} {q:Nat} {hb:HB} {o:Obj} (h:HSim C E hp n w) (hq:¬ n q) (hocc:∀ (E:Env) b,occ E q hb b↔b=E.β q)
 (hok:∀ E',(∀ k,n k->Ele E E' k k)->E'.β q=w.heap.size->Z6 (w.alloc o) E' (fun k=>n k\/k=q) (okS C E' ((q,hb) :: hp)) q hb) :
 ∃ E',(∀ k,n k->Ele E E' k k)/\E'.β q=w.heap.size/\HSim C E' ((q,hb) :: hp) (fun k=>n k\/k=q) (w.alloc o)/\ZF w (w.alloc o) (okS C E hp) (okS C E' ((q,hb) :: hp)):=by
 let E':Env:=⟨fun k=>if k=q then w.heap.size else E.β k,E.hv,E.iss⟩
 have hE:∀ k,n k->Ele E E' k k:=fun k hk=>⟨by simp [E',show k≠q from by rintro rfl;exact hq hk],Nat.le_refl _,fun _ _=>rfl⟩
 have hEn:E'.β q=w.heap.size:=by simp [E']
 have hbel:Below w.heap.size w (w.alloc o):=(Below.refl _ _).alloc (Nat.le_refl _) _
 have hoc:∀ j b,j≠q->(occ E' j (lkh j ((q,hb) :: hp)) b↔occ E j (lkh j hp) b):=fun j b hj=>by
  rw [Zt,if_neg hj]
  cases hl:lkh j hp<;>simp only [occ,E',if_neg hj]
 have hocn:∀ b,occ E' q (lkh q ((q,hb) :: hp)) b↔b=w.heap.size:=fun b=>by
  rw [Zt,if_pos rfl,hocc,hEn]
 have hlt:∀ b,b < w.heap.size->(okS C E' ((q,hb) :: hp) b↔okS C E hp b):=fun b hb'=>by
  unfold okS
  constructor
  . rintro ⟨h1,h2⟩
    refine ⟨h1,fun j hj=>?_⟩
    by_cases hjn:j=q
    . subst hjn;rw [h.kn j hq] at hj;exact hj
    . exact h2 j ((hoc j b hjn).2 hj)
  . rintro ⟨h1,h2⟩
    refine ⟨h1,fun j hj=>?_⟩
    by_cases hjn:j=q
    . subst hjn;rw [hocn] at hj;omega
    . exact h2 j ((hoc j b hjn).1 hj)
 have hst:ZF w (w.alloc o) (okS C E hp) (okS C E' ((q,hb) :: hp)):=fun b hb' hs=>by
  have hlt':b < w.heap.size:=by
   obtain ⟨o,ho⟩:=Option.isSome_iff_exists.1 hs
   exact (Array.getElem?_eq_some_iff.1 ho).1
  exact ⟨(hlt b hlt').2 hb',hbel.block b hlt'⟩
 refine ⟨E',hE,hEn,⟨fun j hj=>?_,fun j=>?_,fun j j' b h1 h2=>?_,fun j b h1=>?_,WF h.kp hbel,fun k hk=>(by obtain ⟨p1,p2⟩:=h.pin k hk;exact ⟨.inl p1,p2.trans (hE k p1)⟩)⟩,hst⟩
 . rw [Zt,if_neg (fun e=>hj (.inr e))];exact h.kn j (fun e=>hj (.inl e))
 . rw [Zt]
   by_cases hj:j=q
   . subst hj;rw [if_pos rfl]
     exact hok E' hE hEn
   . rw [if_neg hj]
     refine YP hst hE (fun _ h=>.inl h) ?_ (fun b ho=>hbel.block b (YN h ho)) (by simp [E',hj]) (h.bk j)
     rcases Classical.em (n j) with h' | h'
     . exact .inr h'
     . exact .inl (h.kn j h')
 . by_cases hj:j=q<;>by_cases hj':j'=q
   . omega
   . subst hj;rw [hocn] at h1;rw [hoc j' b hj'] at h2;have:=YN h h2;omega
   . subst hj';rw [hocn] at h2;rw [hoc j b hj] at h1;have:=YN h h1;omega
   . exact h.dj j j' b ((hoc j b hj).1 h1) ((hoc j' b hj').1 h2)
 . by_cases hj:j=q
   . subst hj;rw [hocn] at h1;exact .inl (by rw [h1];exact h.kp.size)
   . exact h.lo j b ((hoc j b hj).1 h1)
end
section
variable {P:Program} {K' V:Type} [DecidableEq K'] {key:K'->Value} {sv:K'->SV} {val:V->SV} {L:List (Nat × K' × V)} {km c:Nat} {kt et t ty:TypeId} {mx ix vx:Operand} {σ : St} {r:KT} {K:RK} {d:Option Nat} {k:K'}
theorem Xh {u:Nat} {rs:Option Operand} (hr:rs=none) (h1:Xr u σ.gs=false) (h2:Nat.blt u σ.N=true) (h:r ⟨(u,.mp σ.n) :: σ.fr,(σ.n,.map [] 0) :: σ.hp,σ.n+1,σ.N,σ.gs⟩ K) :
 RAW P (some u) (.makeMap t rs) ty σ r K:=by
 subst hr
 intro o C E a w next Q e1 e2 e3 hS hn hq
 obtain ⟨E',k1,k2,k3,k4⟩:=Zc9 (q:=σ.n) (hb:=.map [] 0) (o:=.map #[] 0) hS.hs (by simp [ltn]) (fun E b=>by simp only [occ]) (fun E' g1 g2=>by
  simp only [Z6,g2];exact ⟨#[],heap_alloc_new _ _,rfl⟩)
 have hV:(fun k=>ltn σ.n k\/k = σ.n)=ltn (σ.n+1):=by funext k;simp only [ltn,eq_iff_iff];omega
 rw [hV] at k3
 have hx:(execOp a.eval o).run P w = .ok (.value (.map (some w.heap.size))) (w.alloc (.map #[] 0)):=by
  obtain ⟨dst',op',ty',pos,after,guard⟩:=o
  simp only at e2;subst e2
  simp [execOp,Sem.run_bind,Instr.makeMap,ZbT,Sem.run_pure]
 refine Zz hx (by simp) ?_
 show next (a.put o.dst _) _
 rw [e1]
 refine hn _ E' _ _ h (Xd hS k4 k1 (by omega) k3 (fun hh=>?_) (by simpa [Nat.blt_eq] using h2) (fun _ _ _ e=>by cases e) ?_)
 . rw [Z0.2 hh] at h1;cases h1
 . simp only [R,k2];exact ⟨by simp [ltn],trivial⟩
theorem YW {ok:Bool} {zs:SV} {z:Value} (hm:Vq σ mx = .mp km) (hh:lkh km σ.hp = .map (mpS key val L) c) (ht:P.underlying t=some (.map kt et)) (hK:KeyT P kt key sv) (hi:Vq σ ix=sv k)
 (hz:Z8 P et=some z) (hzR:∀ w E n ok,R w E n ok zs z)
 (h1:∀ v,mget k L=some v->Yr d (bif ok then .tup [val v,.v (.bool true)] else val v) none σ r K) (h0:mget k L=none->Yr d (bif ok then .tup [zs,.v (.bool false)] else zs) none σ r K) :
 RAW P d (.lookup t mx ix ok) ty σ r K:=by
 intro o C E a w next Q e1 e2 e3 hS hn hq
 have hmv:=XW hS hm (fun _ _ _=>by simp)
 have hiv:=(hK.svR k _).1 (XW hS hi (UP hK k))
 simp only [R] at hmv
 obtain ⟨g0,ys,g1,g2⟩:=VU hS hh
 have hfn:=fun w=>hK.fnd k _ _ w (W5 g2)
 have hex:∀ y,(Instr.lookup t (a.eval mx) (a.eval ix) ok).run P w = .ok y w->(execOp a.eval o).run P w = .ok (.value y) w:=fun y hy=>by
  obtain ⟨dst',op',ty',pos,after,guard⟩:=o
  simp only at e2;subst e2
  simp only [execOp,Sem.run_bind,hy,Result.andThen_ok,Sem.run_pure]
 rcases WW (w:=w) (E:=E) (n:=ltn σ.n) (ok:=okS C E σ.hp) k L ys.toList 0 g2 with ⟨a1,a2,-,-⟩ | ⟨j,v,e,b1,b2,b3,b4,b5,-⟩
 . have hrun:(Instr.lookup t (a.eval mx) (a.eval ix) ok).run P w = .ok (if ok then .tuple #[z,.bool false] else z) w:=by
    rw [hmv.2,hiv]
    simp only [Instr.lookup,Sem.run_bind,run_underlying ht,Result.andThen_ok,ZZ g1 rfl,Sem.run_pure,hK.chk,hfn,a2,Y8 hz]
   refine Zz (hex _ hrun) (by simp) ?_
   show next (a.put o.dst _) _
   rw [e1]
   refine WJ (h0 a1) hS ?_ hn
   cases ok
   . exact hzR _ _ _ _
   . simp only [cond_true,if_true,R,RL];exact ⟨_,rfl,_,_,rfl,hzR _ _ _ _,_,_,rfl,rfl,rfl⟩
 . have hrun:(Instr.lookup t (a.eval mx) (a.eval ix) ok).run P w = .ok (if ok then .tuple #[e.val,.bool true] else e.val) w:=by
    rw [hmv.2,hiv]
    simp only [Instr.lookup,Sem.run_bind,run_underlying ht,Result.andThen_ok,ZZ g1 rfl,Sem.run_pure,hK.chk,hfn,b2]
   refine Zz (hex _ hrun) (by simp) ?_
   show next (a.put o.dst _) _
   rw [e1]
   refine WJ (h1 v b1) hS ?_ hn
   cases ok
   . exact b5
   . simp only [cond_true,if_true,R,RL];exact ⟨_,rfl,_,_,rfl,b5,_,_,rfl,rfl,rfl⟩
theorem ZmG {v:V} {s:SV} {ins:Bool} (hm:Vq σ mx = .mp km) (hh:lkh km σ.hp = .map (mpS key val L) c) (ht:P.underlying t=some (.map kt et)) (hK:KeyT P kt key sv) (hi:Vq σ ix=sv k)
 (hv:Vq σ vx=s) (hvg:∀ j b u,s≠.gd j b u) (hsv:∀ w E n ok y,R w E n ok s y->R w E n ok (val v) y) (h:r ⟨σ.fr,(km,.map (mpS key val (mset c k v L)) (mclk c k L)) :: σ.hp,σ.n,σ.N,σ.gs⟩ K) :
 RAW P none (bif ins then .insert t mx ix vx else .mapUpdate t mx ix vx) ty σ r K:=by
 intro o C E a w next Q e1 e2 e3 hS hn hq
 have hmv:=XW hS hm (fun _ _ _=>by simp)
 have hiv:=(hK.svR k _).1 (XW hS hi (UP hK k))
 have hvv:=hsv _ _ _ _ _ (XW hS hv hvg)
 simp only [R] at hmv
 obtain ⟨g0,ys,g1,g2⟩:=VU hS hh
 have hfn:=fun w=>hK.fnd k _ _ w (W5 g2)
 have hex:∀ w',(Instr.mapUpdate t (a.eval mx) (a.eval ix) (a.eval vx)).run P w = .ok () w'->(execOp a.eval o).run P w = .ok .skip w':=fun w' hy=>by
  obtain ⟨dst',op',ty',pos,after,guard⟩:=o
  simp only at e2;subst e2
  cases ins<;>simp only [cond_true,cond_false,execOp,Sem.run_bind,hy,Result.andThen_ok,Sem.run_pure]
 have hfin:∀ ys',((ys':Array MapEntry),mclk c k L)=(ys',mclk c k L)->(∀ {w':World} {ok':Nat->Prop},RM w' E (ltn σ.n) ok' (mpS key val L) ys.toList->R w' E (ltn σ.n) ok' (val v) (a.eval vx)->RM w' E (ltn σ.n) ok' (mpS key val (mset c k v L)) ys'.toList) ->
  next (a.put o.dst undef) (WH w (E.β km) (.map ys' (mclk c k L))):=fun ys' _ hRM=>by
  obtain ⟨q1,q2⟩:=Xu (k:=km) (hb:=.map (mpS key val (mset c k v L)) (mclk c k L)) (o:=.map ys' (mclk c k L)) hS.hs (fun b=>by rw [hh];simp only [occ]) (fun b=>by simp only [occ]) (fun hlt hst=>by
   simp only [Z6]
   exact ⟨ys',YZ hlt,hRM (Xq hst.c (fun _ _=>Ele.rfl) (fun _ h=>h) _ _ g2) (ZI hst.c (fun _ _=>Ele.rfl) (fun _ h=>h) _ _ hvv)⟩)
  rw [e1]
  exact hn _ E _ _ h (Ys hS q2 (fun _ _=>Ele.rfl) (Nat.le_refl _) q1)
 rcases WW (w:=w) (E:=E) (n:=ltn σ.n) (ok:=okS C E σ.hp) k L ys.toList 0 g2 with ⟨a1,a2,-,a4⟩ | ⟨j,v0,e,b1,b2,b3,b4,b5,b6⟩
 . have hc:mclk c k L=c+1:=by simp [mclk,a1]
   have hrun:(Instr.mapUpdate t (a.eval mx) (a.eval ix) (a.eval vx)).run P w = .ok () (WH w (E.β km) (.map (ys.push ⟨key k,a.eval vx,c⟩) (c+1))):=by
    rw [hmv.2,hiv]
    simp only [Instr.mapUpdate,Sem.run_bind,run_underlying ht,Result.andThen_ok,ZZ g1 rfl,Sem.run_pure,hK.chk,hfn,a2,Yo _ g1 rfl]
   refine Zz (hex _ hrun) (by simp) ?_
   show next (a.put o.dst undef) _
   rw [<- hc]
   exact hfin _ rfl fun h1 h2=>by rw [Array.toList_push];exact a4 c v _ h2 h1
 . have hc:mclk c k L=c:=by simp [mclk,b1]
   rw [Nat.zero_add] at b2
   have hek:((ys[j]?).map (·.key)).getD (key k)=key k:=by
    have:ys[j]? = some e:=by simpa using b3
    simp [this,b4]
   have hrun:(Instr.mapUpdate t (a.eval mx) (a.eval ix) (a.eval vx)).run P w = .ok () (WH w (E.β km) (.map (ys.modify j fun e=>{ e with key:=key k,val:=a.eval vx }) c)):=by
    rw [hmv.2,hiv]
    simp only [Instr.mapUpdate,Sem.run_bind,run_underlying ht,Result.andThen_ok,ZZ g1 rfl,Sem.run_pure,hK.chk,hfn,b2,hek,Instr.keyThatStays,hK.same,if_true,Yo _ g1 rfl]
   refine Zz (hex _ hrun) (by simp) ?_
   show next (a.put o.dst undef) _
   have:=hfin (ys.modify j fun e=>{ e with key:=key k,val:=a.eval vx }) rfl fun {w' ok'} h1 h2=>by
    rw [Array.toList_modify];exact (b6 h1).2 c v _ h2
   rw [hc] at this;exact this
theorem Yz {v:V} {ins:Bool} (hm:Vq σ mx = .mp km) (hh:lkh km σ.hp = .map (mpS key val L) c) (ht:P.underlying t=some (.map kt et)) (hK:KeyT P kt key sv) (hi:Vq σ ix=sv k)
 (hv:Vq σ vx=val v) (hvg:∀ j b u,val v≠.gd j b u) (h:r ⟨σ.fr,(km,.map (mpS key val (mset c k v L)) (mclk c k L)) :: σ.hp,σ.n,σ.N,σ.gs⟩ K) :
 RAW P none (bif ins then .insert t mx ix vx else .mapUpdate t mx ix vx) ty σ r K:=ZmG hm hh ht hK hi hv hvg (fun _ _ _ _ _ h=>h) h
theorem Ztk (hm:Vq σ mx = .mp km) (hh:lkh km σ.hp = .map (mpS key val L) c) (ht:P.underlying t=some (.map kt et)) (hK:KeyT P kt key sv) (hi:Vq σ ix=sv k) {ats:Array TypeId} (ha:ats[0]? = some t)
 (h:r ⟨σ.fr,(km,.map (mpS key val (Uq k L)) c) :: σ.hp,σ.n,σ.N,σ.gs⟩ K) :
 RAW P none (.call { callee:=.builtin .delete,args:=#[mx,ix],argTypes:=ats }) ty σ r K:=by
 intro o C E a w next Q e1 e2 e3 hS hn hq
 have hmv:=XW hS hm (fun _ _ _=>by simp)
 have hiv:=(hK.svR k _).1 (XW hS hi (UP hK k))
 simp only [R] at hmv
 obtain ⟨g0,ys,g1,g2⟩:=VU hS hh
 have hfn:=fun w=>hK.fnd k _ _ w (W5 g2)
 have hex:∀ w',(Builtin.delete_ ats ty #[a.eval mx,a.eval ix]).run P w = .ok (.tuple #[]) w'->(execOp a.eval o).run P w = .ok (.value (.tuple #[])) w':=fun w' hy=>by
  obtain ⟨dst',op',ty',pos,after,guard⟩:=o
  simp only at e2 e3;subst e2;subst e3
  simp [execOp,resolve,invoke,builtin,hy]
 have hfin:∀ ys':Array MapEntry,(∀ {w':World} {ok':Nat->Prop},RM w' E (ltn σ.n) ok' (mpS key val L) ys.toList->RM w' E (ltn σ.n) ok' (mpS key val (Uq k L)) ys'.toList) ->
  next (a.put o.dst (.tuple #[])) (WH w (E.β km) (.map ys' c)):=fun ys' hRM=>by
  obtain ⟨q1,q2⟩:=Xu (k:=km) (hb:=.map (mpS key val (Uq k L)) c) (o:=.map ys' c) hS.hs (fun b=>by rw [hh];simp only [occ]) (fun b=>by simp only [occ]) (fun hlt hst=>by
   simp only [Z6]
   exact ⟨ys',YZ hlt,hRM (Xq hst.c (fun _ _=>Ele.rfl) (fun _ h=>h) _ _ g2)⟩)
  rw [e1]
  exact hn _ E _ _ h (Ys hS q2 (fun _ _=>Ele.rfl) (Nat.le_refl _) q1)
 rcases WW (w:=w) (E:=E) (n:=ltn σ.n) (ok:=okS C E σ.hp) k L ys.toList 0 g2 with ⟨a1,a2,a3,-⟩ | ⟨j,v0,e,b1,b2,b3,b4,b5,b6⟩
 . have hrun:(Builtin.delete_ ats ty #[a.eval mx,a.eval ix]).run P w = .ok (.tuple #[]) (WH w (E.β km) (.map ys c)):=by
    rw [hmv.2,hiv]
    simp [Builtin.delete_,Sem.run_bind,ha,run_underlying ht,Result.andThen_ok,ZZ g1 rfl,Sem.run_pure,hK.chk,hfn,a2,Yo _ g1 rfl]
   refine Zz (hex _ hrun) (by simp) ?_
   show next (a.put o.dst _) _
   exact hfin _ fun h1=>by rw [a3];exact h1
 . rw [Nat.zero_add] at b2
   have hlt:j < ys.size:=by
    have:ys[j]? = some e:=by simpa using b3
    exact (Array.getElem?_eq_some_iff.1 this).1
   have hrun:(Builtin.delete_ ats ty #[a.eval mx,a.eval ix]).run P w = .ok (.tuple #[]) (WH w (E.β km) (.map (ys.eraseIdxIfInBounds j) c)):=by
    rw [hmv.2,hiv]
    simp [Builtin.delete_,Sem.run_bind,ha,run_underlying ht,Result.andThen_ok,ZZ g1 rfl,Sem.run_pure,hK.chk,hfn,b2,Yo _ g1 rfl]
   refine Zz (hex _ hrun) (by simp) ?_
   show next (a.put o.dst _) _
   exact hfin _ fun {w' ok'} h1=>by
    have:(ys.eraseIdxIfInBounds j).toList=ys.toList.eraseIdx j:=by simp [Array.eraseIdxIfInBounds,hlt]
    rw [this];exact (b6 h1).1
theorem ZcS {u:Nat} {es:List (Nat × Value × SV)} (hm:Vq σ mx = .mp km) (hh:lkh km σ.hp = .map es c) (ht:P.underlying t=some (.map kt et)) (h1:Xr u σ.gs=false) (h2:Nat.blt u σ.N=true)
 (h:r ⟨(u,.p σ.n 0) :: σ.fr,(σ.n,.it km c [] c) :: σ.hp,σ.n+1,σ.N,σ.gs⟩ K):RAW P (some u) (.range t mx) ty σ r K:=by
 intro o C E a w next Q e1 e2 e3 hS hn hq
 have hmv:=XW hS hm (fun _ _ _=>by simp)
 simp only [R] at hmv
 obtain ⟨g0,ys,g1,g2⟩:=VU hS hh
 obtain ⟨E',k1,k2,k3,k4⟩:=Zc9 (q:=σ.n) (hb:=.it km c [] c) (o:=.mapIter (some (E.β km)) c #[] c) hS.hs (by simp [ltn]) (fun E b=>by simp only [occ]) (fun E' q1 q2=>by
  simp only [Z6,q2];exact ⟨.inl g0,by rw [(q1 km g0).1];exact heap_alloc_new _ _⟩)
 have hV:(fun k=>ltn σ.n k\/k = σ.n)=ltn (σ.n+1):=by funext k;simp only [ltn,eq_iff_iff];omega
 rw [hV] at k3
 have hx:(execOp a.eval o).run P w = .ok (.value (.pointer (some ⟨w.heap.size,0,none⟩))) (w.alloc (.mapIter (some (E.β km)) c #[] c)):=by
  obtain ⟨dst',op',ty',pos,after,guard⟩:=o
  simp only at e2;subst e2
  simp only [execOp,hmv.2]
  simp [Sem.run_bind,Instr.range,run_underlying ht,ZZ g1 rfl,ZbT,Sem.run_pure]
 refine Zz hx (by simp) ?_
 show next (a.put o.dst _) _
 rw [e1]
 refine hn _ E' _ _ h (Xd hS k4 k1 (by omega) k3 (fun hh=>?_) (by simpa [Nat.blt_eq] using h2) (fun _ _ _ e=>by cases e) ?_)
 . rw [Z0.2 hh] at h1;cases h1
 . simp only [R,k2];exact ⟨by simp [ltn],trivial⟩
theorem Zli (w:World) (ty:TypeId) (rr bm since last:Nat) (seen:Array Nat) (es:Array MapEntry) (clock:Nat)
 (hr:w.heap[rr]? = some (.mapIter (some bm) since seen last)) (hb:w.heap[bm]? = some (.map es clock)) (hold:∀ x ∈ es.toList,x.born < since) (hsc:since<=last) :
 ((∀ x ∈ es.toList,seen.contains x.born=true)/\(Instr.next (.pointer (some ⟨rr,0,none⟩)) false ty).run P w = .ok (.tuple #[.bool false]) w) \/
 ∃ e ∈ es.toList,seen.contains e.born=false/\∃ k,(Instr.next (.pointer (some ⟨rr,0,none⟩)) false ty).run P w = .ok (.tuple #[.bool true,e.key,e.val]) (WH { w with drawn:=k } rr (.mapIter (some bm) since (seen.push e.born) clock)):=by
 have htest:(!seen.isEmpty && !es.isEmpty && es.all (fun x=>decide (x.born ≥ last)))=false:=by
  rw [Bool.eq_false_iff]
  intro hh
  simp only [Bool.and_eq_true,Bool.not_eq_true'] at hh
  obtain ⟨⟨-,h2⟩,h3⟩:=hh
  have h0:0 < es.size:=by
   rcases Nat.eq_zero_or_pos es.size with h0 | h0
   . simp [Array.isEmpty,h0] at h2
   . exact h0
  rw [Array.all_eq_true_iff_forall_mem] at h3
  have h4:=h3 _ (Array.getElem_mem h0)
  have h5:=hold es[0] (by simp)
  simp at h4;omega
 have hL:(Array.filter (fun e=>!seen.contains e.born) es).filter (fun x=>decide (x.born < since))=Array.filter (fun e=>!seen.contains e.born) es :=
  Array.filter_eq_self.2 fun x hx=>by
   simp only [Array.mem_filter] at hx;simpa using hold x (by simpa using hx.1)
 have hL2:(Array.filter (fun e=>!seen.contains e.born) es).filter (fun x=>decide (x.born ≥ since)) = #[]:=by
  rw [Array.filter_eq_empty_iff]
  intro x hx
  simp only [Array.mem_filter] at hx
  have:=hold x (by simpa using hx.1)
  simp;omega
 simp only [Instr.next,Sem.run_bind,ZZ hr rfl,ZZ hb rfl,Result.andThen_ok,htest,Bool.false_eq_true,if_false,hL,hL2,Array.append_empty]
 have hmem:∀ x,x ∈ Array.filter (fun e=>!seen.contains e.born) es↔x ∈ es.toList/\seen.contains x.born=false:=fun x=>by
  simp [Array.mem_filter]
 generalize hF:Array.filter (fun e=>!seen.contains e.born) es=F at hmem ⊢
 by_cases h0:F.size=0
 . left
   have hE:F = #[]:=Array.eq_empty_of_size_eq_zero h0
   subst hE
   refine ⟨fun x hx=>?_,?_⟩
   . cases hc:seen.contains x.born with
     | true=>rfl
     | false=>have:=(hmem x).2 ⟨hx,hc⟩;simp at this
   . simp [choose,Sem.run,Question.forced]
 . right
   have hne:F.isEmpty=false:=by simp [Array.isEmpty,h0]
   simp only [hne,Bool.false_eq_true,if_false,Array.empty_append,Array.size_map]
   have hch:∃ (j:Nat) (k:Nat),j < F.size/\(choose (Question.mapNext F.size)).run P w = .ok j { w with drawn:=k }:=by
    by_cases hf:F.size<=1
    . exact ⟨0,w.drawn,by omega,by simp [choose,Sem.run,Question.forced,hf]⟩
    . exact ⟨_,w.drawn+1,Nat.mod_lt _ (by omega),by
       simp only [choose,Sem.run,Question.forced,decide_eq_true_eq,hf,if_false,Question.cut]
       rfl⟩
   obtain ⟨j,k,hj,hrun⟩:=hch
   have hm:=(hmem F[j]).1 (Array.getElem_mem hj)
   refine ⟨F[j],hm.1,hm.2,k,?_⟩
   have hr1:({ w with drawn:=k }:World).heap[rr]? = some (.mapIter (some bm) since seen last):=hr
   simp only [hrun,Array.getElem?_map,Array.getElem?_eq_getElem hj,Option.map_some,Sem.run_bind,Result.andThen_ok,Yo _ hr1 rfl,Sem.run_pure]
theorem ZeY {q since last:Nat} {seen:List Nat} (hm:Vq σ mx = .p q 0) (hq:lkh q σ.hp = .it km since seen last) (hh:lkh km σ.hp = .map (mpS key val L) c) (hold:∀ e ∈ L,e.1 < since) (hsc:since<=last) (hK:KeyT P kt key sv)
 (h0:(∀ e ∈ L,e.1 ∈ seen)->Yr d (.tup [.v (.bool false)]) none σ r K)
 (h1:∀ e ∈ L,e.1 ∉ seen->Yr d (.tup [.v (.bool true),sv e.2.1,val e.2.2]) none ⟨σ.fr,(q,.it km since (seen ++ [e.1]) c) :: σ.hp,σ.n,σ.N,σ.gs⟩ r K) :
 RAW P d (.next mx false) ty σ r K:=by
 intro o C E a w next Q e1 e2 e3 hS hn _
 have hmv:=XW hS hm (fun _ _ _=>by simp)
 simp only [R] at hmv
 obtain ⟨g0,ys,g1,g2⟩:=VU hS hh
 have hb:=hS.hs.bk q
 rw [hq] at hb
 obtain ⟨-,hit⟩:=hb
 have hex:∀ y w',(Instr.next (a.eval mx) false ty).run P w = .ok y w'->(execOp a.eval o).run P w = .ok (.value y) w':=fun y w' hy=>by
  obtain ⟨dst',op',ty',pos,after,guard⟩:=o
  simp only at e2 e3;subst e2;subst e3
  simp only [execOp,Sem.run_bind,hy,Result.andThen_ok,Sem.run_pure]
 rw [hmv.2] at hex
 rcases Zli (P:=P) w ty (E.β q) (E.β km) since last seen.toArray ys c hit g1 (fun x hx=>by
  obtain ⟨z,hz,z1,z2,z3⟩:=Zi8 g2 x hx
  obtain ⟨e,he,rfl⟩:=List.mem_map.1 hz
  rw [z1];exact hold e he) hsc with ⟨k1,k2⟩ | ⟨e,k1,k2,k,k3⟩
 . refine Zz (hex _ _ k2) (by simp) ?_
   show next (a.put o.dst _) _
   rw [e1]
   refine WJ (h0 fun e he=>?_) hS (by simp only [R,RL];exact ⟨_,rfl,_,_,rfl,rfl,rfl⟩) hn
   obtain ⟨y,hy,hyb⟩:=ZiT g2 (e.1,key e.2.1,val e.2.2) (List.mem_map.2 ⟨e,he,rfl⟩)
   have:=k1 y hy
   rw [hyb] at this
   simpa using this
 . refine Zz (hex _ _ k3) (by simp) ?_
   show next (a.put o.dst _) _
   obtain ⟨z,hz,z1,z2,z3⟩:=Zi8 g2 e k1
   obtain ⟨x,hx,rfl⟩:=List.mem_map.1 hz
   simp only at z1 z2 z3
   have hS':=Zba hS k
   have hqn:ltn σ.n q:=by
    rcases Classical.em (ltn σ.n q) with h | h
    . exact h
    . rw [hS.hs.kn q h] at hq;cases hq
   obtain ⟨q1,q2⟩:=Xu (k:=q) (hb:=.it km since (seen ++ [x.1]) c) (o:=.mapIter (some (E.β km)) since (seen.toArray.push e.born) c) hS'.hs (fun b=>by rw [hq];simp only [occ]) (fun b=>by simp only [occ]) (fun hlt hst=>by
    simp only [Z6]
    refine ⟨g0,?_⟩
    rw [z1]
    have:(seen ++ [x.1]).toArray=seen.toArray.push x.1:=by simp
    rw [this]
    exact YZ hlt)
   rw [e1]
   refine ZkZ (h1 x hx (by rw [z1] at k2;simpa using k2)) hS' q2 (fun _ _=>Ele.rfl) (Nat.le_refl _) q1 ?_ hn
   simp only [R,RL]
   have e4:=(hK.svR (w:=WH { w with drawn:=k } (E.β q) (.mapIter (some (E.β km)) since (seen.toArray.push e.born) c)) (E:=E) (n:=ltn σ.n) (ok:=okS C E ((q,.it km since (seen ++ [x.1]) c) :: σ.hp)) x.2.1 e.key).2 z2
   have z4:R { w with drawn:=k } E (ltn σ.n) (okS C E σ.hp) (val x.2.2) e.val:=ZI (w:=w) (w':={ w with drawn:=k }) (ok:=okS C E σ.hp) (fun b hb _=>⟨hb,rfl⟩) (fun _ _=>Ele.rfl) (fun _ h=>h) _ _ z3
   exact ⟨_,rfl,_,_,rfl,rfl,_,_,rfl,e4,_,_,rfl,ZI q2.c (fun _ _=>Ele.rfl) (fun _ h=>h) _ _ z4,rfl⟩
theorem Zdc {q since:Nat} {seen:List Nat} {e:Nat × K' × V} (hm:Vq σ mx = .p q 0) (hq:lkh q σ.hp = .it km since (seen ++ [e.1]) c) (hh:lkh km σ.hp = .map (mpS key val L) c) (he:e ∈ L) (hn:(L.map (·.1)).Nodup) (hK:KeyT P kt key sv)
 (hk:Yr d (.tup [sv e.2.1,val e.2.2]) none σ r K):RAW P d (.entry mx) ty σ r K:=by
 intro o C E a w next Q e1 e2 e3 hS hnx _
 have hmv:=XW hS hm (fun _ _ _=>by simp)
 simp only [R] at hmv
 obtain ⟨g0,ys,g1,g2⟩:=VU hS hh
 have hb:=hS.hs.bk q
 rw [hq] at hb
 obtain ⟨-,hit⟩:=hb
 have hfind:∀ (L:List (Nat × K' × V)) (ys:List MapEntry),RM w E (ltn σ.n) (okS C E σ.hp) (mpS key val L) ys->e ∈ L->(L.map (·.1)).Nodup->∃ y,ys.find? (·.born == e.1)=some y/\y.key=key e.2.1/\R w E (ltn σ.n) (okS C E σ.hp) (val e.2.2) y.val:=by
  intro L
  induction L with
  | nil=>intro ys _ he;cases he
  | cons x l ih =>
   intro ys h he hn
   simp only [mpS,List.map_cons,RM] at h
   obtain ⟨y,r,rfl,h1,h2⟩:=h
   simp only [List.map_cons,List.nodup_cons] at hn
   rcases List.mem_cons.1 he with rfl | he
   . exact ⟨⟨key e.2.1,y,e.1⟩,by simp,rfl,h1⟩
   . obtain ⟨y',q1,q2⟩:=ih r h2 he hn.2
     refine ⟨y',?_,q2⟩
     have:x.1≠e.1:=fun hx=>hn.1 (hx ▸ List.mem_map.2 ⟨e,he,rfl⟩)
     simp [this,q1]
 obtain ⟨y,f1,f2,f3⟩:=hfind L ys.toList g2 he hn
 have f1':ys.find? (·.born == e.1)=some y:=by rw [<- Array.find?_toList];exact f1
 have hrun:(Instr.entry (.pointer (some ⟨E.β q,0,none⟩))).run P w = .ok (.tuple #[y.key,y.val]) w:=by
  have:(seen ++ [e.1]).toArray.back? = some e.1:=by simp
  simp only [Instr.entry,Sem.run_bind,ZZ hit rfl,ZZ g1 rfl,Result.andThen_ok,this,bne_self_eq_false,Bool.false_eq_true,if_false,f1',Sem.run_pure]
 have hx:(execOp a.eval o).run P w = .ok (.value (.tuple #[y.key,y.val])) w:=by
  obtain ⟨dst',op',ty',pos,after,guard⟩:=o
  simp only at e2;subst e2
  simp only [execOp,Sem.run_bind,hmv.2,hrun,Result.andThen_ok,Sem.run_pure]
 refine Zz hx (by simp) ?_
 show next (a.put o.dst _) _
 rw [e1]
 refine WJ hk hS ?_ hnx
 simp only [R,RL]
 exact ⟨_,rfl,_,_,rfl,(hK.svR _ _).2 f2,_,_,rfl,f3,rfl⟩
end
section
variable {K V:Type} [DecidableEq K] {k k':K} {v:V} {c:Nat} {L:List (Nat × K × V)}
structure MW (L:List (Nat × K × V)) (c:Nat):Prop where
 bn:(L.map (·.1)).Nodup
 bl:∀ e ∈ L,e.1 < c
 kn:(L.map (·.2.1)).Nodup
omit [DecidableEq K] in
theorem MW.nil {c:Nat}:MW ([]:List (Nat × K × V)) c:=⟨List.nodup_nil,(fun e h=>by cases h),List.nodup_nil⟩
theorem WY:∀ {L:List (Nat × K × V)},mget k L=none↔∀ e ∈ L,e.2.1≠k
 | []=>by simp [mget]
 | e :: l=>by
  simp only [mget]
  split
  . rename_i hk;simp [hk]
  . rename_i hk;rw [WY];simp [hk]
theorem ZcA:∀ {L:List (Nat × K × V)} {e:Nat × K × V},(L.map (·.2.1)).Nodup->e ∈ L->mget e.2.1 L=some e.2.2
 | x :: l,e,hn,he=>by
  simp only [List.map_cons,List.nodup_cons] at hn
  simp only [mget]
  rcases List.mem_cons.1 he with rfl | he
  . simp
  . rw [if_neg (fun hx:x.2.1=e.2.1=>hn.1 (by rw [hx];exact List.mem_map.2 ⟨e,he,rfl⟩))]
    exact ZcA hn.2 he
theorem mget_set:∀ {L:List (Nat × K × V)},mget k' (mset c k v L)=if k'=k then some v else mget k' L
 | []=>by simp only [mset,mget];by_cases h:k=k'<;>simp [h,eq_comm]
 | e :: l=>by
  simp only [mset]
  by_cases he:e.2.1=k
  . rw [if_pos he]
    simp only [mget]
    by_cases hk:k=k'
    . subst hk;simp
    . rw [if_neg hk,if_neg (fun h=>hk h.symm),if_neg (fun h=>hk (he.symm.trans h))]
  . rw [if_neg he]
    simp only [mget]
    by_cases hk:e.2.1=k'
    . rw [if_pos hk,if_neg (fun h=>he (hk.trans h)),if_pos hk]
    . rw [if_neg hk,if_neg hk,mget_set]
theorem Ze6:∀ {L:List (Nat × K × V)},mget k L=none->mset c k v L=L ++ [(c,k,v)]
 | [],_=>rfl
 | e :: l,h=>by
  simp only [mget] at h
  split at h
  . cases h
  . rename_i he;simp only [mset,if_neg he,Ze6 h,List.cons_append]
theorem Ze2:∀ {L:List (Nat × K × V)},(mget k L).isSome->(mset c k v L).map (fun e=>(e.1,e.2.1))=L.map fun e=>(e.1,e.2.1)
 | [],h=>by simp [mget] at h
 | e :: l,h=>by
  simp only [mget] at h
  simp only [mset]
  split
  . rename_i he;simp [he]
  . rename_i he;rw [if_neg he] at h;simp [Ze2 h]
theorem ZhX:∀ {L:List (Nat × K × V)} {e:Nat × K × V},e ∈ mset c k v L->e ∈ L\/e.2=(k,v)
 | [],e,h=>by simp only [mset,List.mem_singleton] at h;subst h;exact .inr rfl
 | x :: l,e,h=>by
  simp only [mset] at h
  split at h
  . rcases List.mem_cons.1 h with rfl | h
    . exact .inr rfl
    . exact .inl (by simp [h])
  . rcases List.mem_cons.1 h with rfl | h
    . exact .inl (by simp)
    . rcases ZhX h with h | h
      . exact .inl (by simp [h])
      . exact .inr h
theorem MW.set (h:MW L c) (v:V):MW (mset c k v L) (mclk c k L):=by
 cases hg:mget k L with
 | none =>
  have hc:mclk c k L=c+1:=by simp [mclk,hg]
  rw [Ze6 hg,hc]
  have hk:=WY.1 hg
  refine ⟨?_,fun e he=>?_,?_⟩
  . rw [List.map_append,List.nodup_append]
    refine ⟨h.bn,by simp,fun a ha b hb=>?_⟩
    obtain ⟨e,he,rfl⟩:=List.mem_map.1 ha
    simp only [List.map_cons,List.map_nil,List.mem_singleton] at hb
    have:=h.bl e he;omega
  . rcases List.mem_append.1 he with he | he
    . have:=h.bl e he;omega
    . simp only [List.mem_singleton] at he;subst he;simp
  . rw [List.map_append,List.nodup_append]
    refine ⟨h.kn,by simp,fun a ha b hb=>?_⟩
    obtain ⟨e,he,rfl⟩:=List.mem_map.1 ha
    simp only [List.map_cons,List.map_nil,List.mem_singleton] at hb
    rw [hb];exact hk e he
 | some v0 =>
  have hc:mclk c k L=c:=by simp [mclk,hg]
  have hm:=Ze2 (c:=c) (v:=v) (k:=k) (L:=L) (by rw [hg];rfl)
  have e1:(mset c k v L).map (·.1)=L.map (·.1):=by
   have:=congrArg (List.map Prod.fst) hm;simpa [List.map_map,Function.comp_def] using this
  have e2:(mset c k v L).map (·.2.1)=L.map (·.2.1):=by
   have:=congrArg (List.map Prod.snd) hm;simpa [List.map_map,Function.comp_def] using this
  rw [hc]
  refine ⟨by rw [e1];exact h.bn,fun e he=>?_,by rw [e2];exact h.kn⟩
  have:e.1 ∈ L.map (·.1):=by rw [<- e1];exact List.mem_map.2 ⟨e,he,rfl⟩
  obtain ⟨x,hx,hxe⟩:=List.mem_map.1 this
  rw [<- hxe];exact h.bl x hx
theorem VS:∀ {L:List (Nat × K × V)},(Uq k L).Sublist L
 | []=>.slnil
 | e :: l=>by
  simp only [Uq]
  split
  . exact List.sublist_cons_self _ _
  . exact VS.cons_cons _
theorem MW.del (h:MW L c):MW (Uq k L) c:=⟨(VS.map _).nodup h.bn,fun e he=>h.bl e (VS.subset he),(VS.map _).nodup h.kn⟩
theorem Zfb:∀ {L:List (Nat × K × V)},(L.map (·.2.1)).Nodup->mget k' (Uq k L)=if k'=k then none else mget k' L
 | [],_=>by simp [Uq,mget]
 | e :: l,hn=>by
  simp only [List.map_cons,List.nodup_cons] at hn
  simp only [Uq]
  by_cases he:e.2.1=k
  . rw [if_pos he]
    by_cases hk:k'=k
    . rw [if_pos hk,WY]
      intro x hx hxe
      exact hn.1 (by rw [he,<- hk,<- hxe];exact List.mem_map.2 ⟨x,hx,rfl⟩)
    . rw [if_neg hk];simp only [mget];rw [if_neg (fun h=>hk (h.symm.trans he))]
  . rw [if_neg he]
    simp only [mget]
    by_cases hk:e.2.1=k'
    . rw [if_pos hk,if_pos hk,if_neg (fun h=>he (hk.trans h))]
    . rw [if_neg hk,if_neg hk,Zfb hn.2]
theorem Zvm {e:Nat × K × V} (hn:(L.map (·.2.1)).Nodup):e ∈ Uq k L↔e ∈ L/\e.2.1≠k:=by
 induction L with
 | nil=>simp [Uq]
 | cons x l ih =>
  simp only [List.map_cons,List.nodup_cons] at hn
  simp only [Uq]
  by_cases hx:x.2.1=k
  . rw [if_pos hx]
    constructor
    . intro he
      exact ⟨by simp [he],fun h=>hn.1 (by rw [hx,<- h];exact List.mem_map.2 ⟨e,he,rfl⟩)⟩
    . rintro ⟨he,hk⟩
      rcases List.mem_cons.1 he with rfl | he
      . exact absurd hx hk
      . exact he
  . rw [if_neg hx,List.mem_cons,ih hn.2,List.mem_cons]
    constructor
    . rintro (rfl | ⟨h1,h2⟩)
      . exact ⟨.inl rfl,hx⟩
      . exact ⟨.inr h1,h2⟩
    . rintro ⟨rfl | h1,h2⟩
      . exact .inl rfl
      . exact .inr ⟨h1,h2⟩
theorem Zcc:∀ {L:List (Nat × K × V)},(mget k L).isSome->(Uq k L).length+1=L.length
 | [],h=>by simp [mget] at h
 | e :: l,h=>by
  simp only [mget] at h
  simp only [Uq]
  split
  . simp
  . rename_i he;rw [if_neg he] at h;simp [Zcc h]
omit [DecidableEq K] in
theorem Zxq {key:K->Value} {val:V->SV}:(∀ e ∈ mpS key val L,KF e.2.2)↔∀ v ∈ L.map (·.2.2),KF (val v):=by
 simp only [mpS,List.mem_map]
 exact ⟨fun h v ⟨e,he,hv⟩=>hv ▸ h _ ⟨e,he,rfl⟩,fun h _ ⟨e,he,hx⟩=>hx ▸ h _ ⟨e,he,rfl⟩⟩
omit [DecidableEq K] in
theorem Ze {key:K->Value} {val:V->SV}:(∀ (a:Nat) (b:Value) (c:SV),(a,b,c) ∈ mpS key val L->KF c)↔∀ v ∈ L.map (·.2.2),KF (val v):=by
 rw [<- Zxq (key:=key)]
 exact ⟨fun h e he=>h e.1 e.2.1 e.2.2 he,fun h a b c he=>h _ he⟩
omit [DecidableEq K] in
def ZlW (L:List (Nat × K × V)) (seen:List Nat):Nat:=(L.filter fun e=>!seen.contains e.1).length
omit [DecidableEq K] in
theorem Zmn {e:Nat × K × V} {seen:List Nat} (he:e ∈ L) (hs:e.1 ∉ seen):ZlW L (seen ++ [e.1]) < ZlW L seen:=by
 unfold ZlW
 have hsub:(L.filter fun x=>!(seen ++ [e.1]).contains x.1)=(L.filter fun x=>!seen.contains x.1).filter fun x=>!(x.1 == e.1):=by
  rw [List.filter_filter]
  congr 1;funext x
  simp only [List.contains_append,Bool.not_or]
  rw [Bool.and_comm]
  congr 1
  simp only [List.contains_cons,List.contains_nil,Bool.or_false]
 rw [hsub]
 refine Nat.lt_of_le_of_ne (List.length_filter_le _ _) fun h=>?_
 have:=List.length_filter_eq_length_iff.1 h e (by simp [he,hs])
 simp at this
end
end Go.Sx
namespace Go.Sx
open Go Go.RowKit
def ZbX (s s':SV):Prop:=∀ (w:World) (E:Env) (n ok:Nat->Prop) (y:Value),R w E n ok s y->R w E n ok s' y
theorem ZbX.rfl {s:SV}:ZbX s s:=fun _ _ _ _ _ h=>h
theorem Ue {c:Bool} {m:Nat}:ZbX (.v (.slice none 0 0)) (.sl c m []):=fun w E n ok y h=>by
 simp only [R] at h ⊢
 exact ⟨none,0,0,h,by simp,⟨Nat.le_refl _,fun _=>Eq.refl _⟩,by simp,by simp⟩
theorem ZzV {c:Bool} {m:Nat} {xs:List (List SV)}:ZbX (.sl c m xs) (.sl false m xs):=fun w E n ok y h=>by
 simp only [R] at h ⊢
 obtain ⟨a,len,cap,h1,h2,h3,h4,h5⟩:=h
 exact ⟨a,len,cap,h1,h2,⟨h3.1,fun h=>by cases h⟩,h4,h5⟩
theorem Zac {l l':List SV} (h:∀ (w:World) (E:Env) (n ok:Nat->Prop) (ys:List Value),RL w E n ok l ys->RL w E n ok l' ys):ZbX (.tup l) (.tup l'):=fun w E n ok y hy=>by
 simp only [R] at hy ⊢
 obtain ⟨cs,h1,h2⟩:=hy
 exact ⟨cs,h1,h _ _ _ _ _ h2⟩
theorem Wk {s s':SV} {l l':List SV} (h1:ZbX s s') (h2:∀ (w:World) (E:Env) (n ok:Nat->Prop) (ys:List Value),RL w E n ok l ys->RL w E n ok l' ys):∀ (w:World) (E:Env) (n ok:Nat->Prop) (ys:List Value),RL w E n ok (s :: l) ys->RL w E n ok (s' :: l') ys:=fun w E n ok ys h=>by
 simp only [RL] at h ⊢
 obtain ⟨y,r,q1,q2,q3⟩:=h
 exact ⟨y,r,q1,h1 _ _ _ _ _ q2,h2 _ _ _ _ _ q3⟩
def ZvA (rs:List RV) (res:SV):Ex->St->Prop
 | .ex _,_=>False
 | .n,σ=>∃ s,rvR rs σ = some s/\ZbX s res
 | .ret,σ=>∃ s,rvR rs σ = some s/\ZbX s res
 | .pan _,_=>False
theorem Zyp (rs:List RV) (res:SV) (σ : St):ZvA rs res .n σ = ∃ s,rvR rs σ = some s/\ZbX s res:=rfl
theorem ZqU (rs:List RV) (res:SV) (σ : St):ZvA rs res .ret σ = ∃ s,rvR rs σ = some s/\ZbX s res:=rfl
attribute [go_sem] Zyp ZqU
section
variable {P:Program}
theorem Uc {f:FuncId} {fn:Func} {code:Code} {ir:SC} {args:List SV} {res:SV} {rs:List RV} {N:Nat} (hf:P.funcs[f]? = some fn) (hb:fn.body=some code) (hnm:Yc P f=true) (hc:YQ P ir code=true)
 (hr:Xb P rs fn.results.toList=true) (hN:fn.ntmps=N) (hA:args.length<=N) (ka:KFL args) (kr:KF res) (h:sx P Y0 0 ir (st0 args N) (ZvA rs res)):Ct P f args res:=by
 refine ⟨hnm,ka,kr,fun w ok vs hR=>?_⟩
 let C:Cx:=⟨w,ok,fun _ _=>False,[],none,E0,0⟩
 have hok:∀ b,ok b->okS C E0 [] b:=fun b hb=>⟨.inl hb,fun _ h=>h⟩
 refine UB (C:=C) (E:=E0) (hp0:=[]) (n0:=0) hf hb hc hN hA rfl rfl ⟨Nat.le_refl _,fun _ _ h=>h.elim⟩
  ⟨fun k _=>rfl,fun k=>trivial,fun k k' b h=>h.elim,fun k b h=>h.elim,⟨rfl,rfl,rfl,Nat.le_refl _,fun _ _ _=>rfl⟩,fun k hk=>absurd hk (Nat.not_lt_zero k)⟩
  (ZE (fun b hb _=>⟨hok b hb,rfl⟩) (fun _ h=>Ele.rfl) (fun _ h=>h.elim) _ _ hR) UU h fun e σ hk C' E a w' c1 c2 c3 c4 c5 hs=>?_
 have hpass:∀ k b,¬ C'.pass k b:=fun k b=>by rw [c3];exact fun h=>h
 have hend:(∃ s,rvR rs σ = some s/\ZbX s res)->∃ v,(results fn a.tmps).run P w' = .ok v w'/\∃ y,Ending.returned v = .returned y/\R w' E0 (fun _=>False) (fun b=>ok b\/w.heap.size<=b) res y/\Below w.heap.size w w':=fun ⟨s,hrr,hw⟩=>by
  obtain ⟨v,h1,h2⟩:=V3 (P:=P) (fn:=fn) (a:=a) (w:=w') (E:=E) (n:=ltn σ.n) (ok:=okF C') hrr fun l hl=>Zjw hs hpass rs _ l hr hl
  have hkp:=hs.hs.kp
  have e1:okF C'=fun b=>ok b\/w.heap.size<=b:=by funext b;simp only [okF,c1,c2];rfl
  rw [e1] at h2
  have e0:C'.w0=w:=c1
  refine ⟨v,h1,v,rfl,ZgJ res v kr (hw _ _ _ _ _ h2),?_⟩
  have q:=hkp
  exact ⟨by rw [<- e0];exact q.os,by rw [<- e0];exact q.tape,by rw [<- e0];exact q.output,by rw [<- e0];exact q.size,fun b hb=>by rw [<- e0];exact q.block b (by rw [e0];exact hb) (fun k=>hpass k b)⟩
 cases e with
 | ex i=>exact hk.elim
 | pan s=>exact hk.elim
 | n=>exact hend hk
 | ret=>exact hend hk
end
def ZAb (P:Program) (kt t1:TypeId):Bool :=
 match P.underlying kt with
 | some (.struct fs)=>match fs.toList with
  | [f1,f2]=>f1.type == t1 && f2.type == t1 && f1.offset == 0 && f2.offset == 1 && f1.name != "_" && f2.name != "_"
  | _=>false
 | _=>false
theorem key64 {P:Program} {kt t1:TypeId} (h:ZAb P kt t1=true) (hu1:P.underlying t1=some (.int .i64)) (hs:XD P t1=some 1) (ha:U5 P t1=some false) (hag:U5 P kt=some true) (hq:eqT P 5 kt=some [1,1]) :
 KeyT P kt (fun n:Int × Int=>.agg #[.int .i64 n.1,.int .i64 n.2]) (fun n=>.agg [.v (.int .i64 n.1),.v (.int .i64 n.2)]):=by
 unfold ZAb at h
 split at h
 . rename_i fs hu
   split at h
   . rename_i f1 f2 hf
     have hfs:fs = #[f1,f2]:=by apply Array.toList_inj.1;simp [hf]
     subst hfs
     simp only [Bool.and_eq_true,beq_iff_eq,bne_iff_ne] at h
     obtain ⟨⟨⟨⟨⟨h1,h2⟩,h3⟩,h4⟩,h5⟩,h6⟩:=h
     refine ZuR hu hu1 h1 h2 h3 h4 hs ha h5 h6 fun a b c d w=>?_
     obtain ⟨ag,g1,g2,g3⟩:=Zcx 5 kt [1,1] hq 10000 (by decide)
     rw [hag] at g1
     cases g1
     exact g3 w [.int .i64 a,.int .i64 b] [.int .i64 c,.int .i64 d] (a == c && b == d) (by simp [Wy,Zlp,eqA,kbq])
   . cases h
 . cases h
theorem Ct.args {P:Program} {f:FuncId} {args args0:List SV} {res:SV} (h:Ct P f args res) (ka:KFL args0) (hw:∀ (w:World) (E:Env) (n ok:Nat->Prop) (ys:List Value),RL w E n ok args0 ys->RL w E n ok args ys):Ct P f args0 res :=
 ⟨h.1,ka,h.3,fun w ok vs hR=>h.4 w ok vs (hw _ _ _ _ _ hR)⟩
end Go.Sx
namespace Go.Azalai
structure Partner where
 id:Int
 put:Int
 share:Int
deriving DecidableEq
structure Pact where
 partners:List Partner
 calf:Int
 hire:Int
 ends:Int
deriving DecidableEq
structure Letter where
 id:Int
 day:Int
 kind:Int
 who:Int
 other:Int
 animal:Int
 rials:Int
 mouth:Bool
deriving DecidableEq
def inR (lo hi n:Int):Bool:=decide (lo<=n/\n<=hi)
def Yx (last:Int):List Partner->Bool
 | []=>true
 | x :: r=>inR (last+1) 9999 x.id && inR 0 100000000 x.put && inR 0 1000 x.share && Yx x.id r
def ZB:List Int->Int
 | []=>0
 | x :: r=>x+ZB r
def ZK (p:Pact):Bool :=
 inR 1 8 p.partners.length && inR 0 1000 p.calf && inR 0 1000 p.hire && inR 0 100000 p.ends && Yx (-1) p.partners && decide (ZB (p.partners.map (·.put))≠0) && decide (ZB (p.partners.map (·.share))=1000)
def Zaj (c:Nat->Int) (k i:Nat):Bool:=decide (c k > c i) || (decide (c k=c i) && decide (k < i))
def Vx (c:Nat->Int) (n i:Nat):Nat:=((List.range n).filter fun k=>Zaj c k i).length
def byF (by':List Int) (i:Nat):Int:=by'.getD i 0
def YV (amount:Int) (by':List Int) (i:Nat):Int:=(amount * byF by' i).tdiv (ZB by')
def WP (amount:Int) (by':List Int) (i:Nat):Int:=(amount * byF by' i).tmod (ZB by')
def Y9 (amount:Int) (by':List Int):Int:=amount - ZB ((List.range by'.length).map (YV amount by'))
def Z2 (amount:Int) (by':List Int):List Int :=
 (List.range by'.length).map fun i=>YV amount by' i+if (Vx (WP amount by') by'.length i:Int) < Y9 amount by' then 1 else 0
def Z1 (p:Pact) (result:Int):List Int :=
 if result ≥ 0 then Z2 result (p.partners.map (·.share)) else (Z2 (-result) (p.partners.map (·.put))).map fun n=>-n
theorem U3:∀ {a b:List Int},ZB (a ++ b)=ZB a+ZB b
 | [],b=>by simp [ZB]
 | x :: a,b=>by simp only [List.cons_append,ZB];rw [U3];omega
theorem Zks {a b:List Int} (h:a.Perm b):ZB a=ZB b:=by
 induction h with
 | nil=>rfl
 | cons x _ ih=>simp only [ZB];omega
 | swap x y l=>simp only [ZB];omega
 | trans _ _ h1 h2=>omega
theorem Ye {α : Type} (f g:α->Int):∀ l:List α,ZB (l.map fun x=>f x+g x)=ZB (l.map f)+ZB (l.map g)
 | []=>rfl
 | x :: l=>by simp only [List.map_cons,ZB];rw [Ye f g l];omega
theorem WA:∀ {l:List Int},(∀ x ∈ l,0<=x)->0<=ZB l
 | [],_=>by simp [ZB]
 | x :: l,h=>by
  have:=h x (by simp)
  have:=WA (l:=l) fun y hy=>h y (by simp [hy])
  simp only [ZB];omega
theorem ZkT {l:List Int} {b:Int}:(∀ x ∈ l,x<=b)->ZB l<=l.length * b:=by
 induction l with
 | nil=>intro _;simp [ZB]
 | cons x l ih =>
  intro h
  have h1:=h x (by simp)
  have h2:=ih fun y hy=>h y (by simp [hy])
  simp only [ZB,List.length_cons]
  rw [show ((l.length+1:Nat):Int)=(l.length:Int)+1 from by omega,Int.add_mul];omega
theorem ZbV {c:Int} {f:Nat->Int}:∀ l:List Nat,ZB (l.map fun i=>c * f i)=c * ZB (l.map f)
 | []=>by simp [ZB]
 | x :: l=>by simp only [List.map_cons,ZB];rw [ZbV l,Int.mul_add]
theorem Zp9 (by':List Int):(List.range by'.length).map (byF by')=by':=by
 apply List.ext_getElem
 . simp
 . intro i h1 h2
   simp [byF,List.getElem?_eq_getElem h2]
theorem Znx {amount:Int} {by':List Int}:ZB ((List.range by'.length).map (WP amount by'))=ZB by' * Y9 amount by':=by
 have e:ZB ((List.range by'.length).map fun i=>ZB by' * YV amount by' i+WP amount by' i)=amount * ZB by':=by
  have:(fun i=>ZB by' * YV amount by' i+WP amount by' i)=fun i=>amount * byF by' i:=by
   funext i
   simp only [YV,WP]
   have:=Int.tmod_add_mul_tdiv (amount * byF by' i) (ZB by')
   omega
  rw [this,ZbV,Zp9]
 rw [Ye,ZbV] at e
 rw [Y9,Int.mul_sub,Int.mul_comm (ZB by') amount]
 omega
theorem ZbF {amount:Int} {by':List Int} (ha:0<=amount) (hb:∀ x ∈ by',0<=x) (hs:0 < ZB by') (i:Nat):0<=WP amount by' i/\WP amount by' i < ZB by':=by
 have h0:0<=byF by' i:=by
  unfold byF
  by_cases h:i < by'.length
  . rw [List.getD_eq_getElem?_getD,List.getElem?_eq_getElem h];exact hb _ (List.getElem_mem h)
  . rw [List.getD_eq_getElem?_getD,List.getElem?_eq_none (by omega)];simp
 exact ⟨Int.tmod_nonneg _ (Int.mul_nonneg ha h0),Int.tmod_lt_of_pos _ hs⟩
theorem Zb9 {amount:Int} {by':List Int} (ha:0<=amount) (hb:∀ x ∈ by',0<=x) (hs:0 < ZB by'):0<=Y9 amount by'/\Y9 amount by' < by'.length:=by
 have e:=Znx (amount:=amount) (by':=by')
 have h1:0<=ZB ((List.range by'.length).map (WP amount by')):=WA fun x hx=>by
  obtain ⟨i,_,rfl⟩:=List.mem_map.1 hx
  exact (ZbF ha hb hs i).1
 have h2:ZB ((List.range by'.length).map (WP amount by'))<=((List.range by'.length).map (WP amount by')).length * (ZB by' - 1):=ZkT fun x hx=>by
  obtain ⟨i,_,rfl⟩:=List.mem_map.1 hx
  have:=(ZbF ha hb hs i).2
  omega
 simp only [List.length_map,List.length_range] at h2
 rw [e] at h1 h2
 have hn:by'.length≠0:=by
  intro h;have:=List.eq_nil_of_length_eq_zero h;subst this;simp [ZB] at hs
 constructor
 . apply Classical.byContradiction;intro hc
   have:ZB by' * Y9 amount by' < 0:=Int.mul_neg_of_pos_of_neg hs (by omega)
   omega
 . apply Classical.byContradiction;intro hc
   have q:ZB by' * by'.length<=ZB by' * Y9 amount by':=Int.mul_le_mul_of_nonneg_left (by omega) (by omega)
   rw [Int.mul_sub,Int.mul_one,Int.mul_comm (by'.length:Int) (ZB by')] at h2
   omega
theorem Zuf (c:Nat->Int) (i:Nat):Zaj c i i=false:=by simp [Zaj]
theorem Znk {c:Nat->Int} {i k:Nat} (h:Zaj c i k=true):Zaj c k i=false:=by
 simp only [Zaj,Bool.or_eq_true,Bool.and_eq_true,decide_eq_true_eq] at h
 simp only [Zaj,Bool.or_eq_false_iff,Bool.and_eq_false_iff,decide_eq_false_iff_not]
 omega
theorem Zs2 {c:Nat->Int} {i k:Nat} (h:i≠k):Zaj c i k=true\/Zaj c k i=true:=by
 simp only [Zaj,Bool.or_eq_true,Bool.and_eq_true,decide_eq_true_eq];omega
theorem ZhD {c:Nat->Int} {i j k:Nat} (h1:Zaj c i j=true) (h2:Zaj c j k=true):Zaj c i k=true:=by
 simp only [Zaj,Bool.or_eq_true,Bool.and_eq_true,decide_eq_true_eq] at *;omega
theorem UQ {R:Nat->Nat->Bool} (hirr:∀ i,R i i=false) (has:∀ i k,R i k=true->R k i=false):∀ {O:List Nat},O.Pairwise (fun a b=>R a b=true)->∀ (r:Nat) (h:r < O.length),(O.filter fun k=>R k O[r]).length=r
 | [],_,r,h=>by simp at h
 | x :: O,hp,0,_=>by
  rw [List.pairwise_cons] at hp
  have:((x :: O).filter fun k=>R k x)=[]:=by
   rw [List.filter_eq_nil_iff]
   intro k hk
   rcases List.mem_cons.1 hk with rfl | hk
   . simp [hirr]
   . simp [has _ _ (hp.1 k hk)]
  simpa using congrArg List.length this
 | x :: O,hp,r+1,h=>by
  rw [List.pairwise_cons] at hp
  have hr:r < O.length:=by simpa using h
  have h1:R x O[r]=true:=hp.1 _ (List.getElem_mem hr)
  simp only [List.getElem_cons_succ,List.filter_cons,h1,if_true,List.length_cons]
  rw [UQ hirr has hp.2 r hr]
theorem ZaR {c:Nat->Int} {n:Nat} {O:List Nat} (hp:O.Perm (List.range n)) (ho:O.Pairwise fun a b=>Zaj c a b=true) {t i:Nat} (hi:i < n):i ∈ O.take t↔Vx c n i < t:=by
 have hm:i ∈ O:=hp.mem_iff.2 (List.mem_range.2 hi)
 obtain ⟨r,hr,rfl⟩:=List.getElem_of_mem hm
 have e:Vx c n O[r]=r:=by
  rw [Vx,<- (hp.filter _).length_eq]
  exact UQ (R:=Zaj c) (Zuf c) (fun i k=>Znk) ho r hr
 have hnd:O.Nodup:=hp.nodup_iff.2 List.nodup_range
 rw [e,List.mem_take_iff_getElem]
 constructor
 . rintro ⟨j,hj,h⟩
   have hne:=List.pairwise_iff_getElem.1 (List.nodup_iff_pairwise_ne.1 hnd)
   rcases Nat.lt_trichotomy j r with q | q | q
   . exact absurd h (hne j r (by omega) hr q)
   . omega
   . exact absurd h.symm (hne r j hr (by omega) q)
 . intro h
   exact ⟨r,by omega,rfl⟩
theorem ZgB {c:Nat->Int} {n:Nat} {O:List Nat} (hp:O.Perm (List.range n)) (ho:O.Pairwise fun a b=>Zaj c a b=true) {t:Nat} (ht:t<=n):ZB ((List.range n).map fun i=>if Vx c n i < t then 1 else 0)=t:=by
 have h1:ZB ((List.range n).map fun i=>if Vx c n i < t then (1:Int) else 0)=ZB (O.map fun i=>if Vx c n i < t then (1:Int) else 0):=Zks ((hp.map _).symm)
 have hnd:O.Nodup:=hp.nodup_iff.2 List.nodup_range
 have hlen:O.length=n:=by rw [hp.length_eq,List.length_range]
 rw [h1,<- List.take_append_drop t O,List.map_append,U3]
 have hin:∀ i ∈ O.take t,(if Vx c n i < t then (1:Int) else 0)=1:=fun i hi=>by
  rw [if_pos ((ZaR hp ho (List.mem_range.1 (hp.mem_iff.1 (List.mem_of_mem_take hi)))).1 hi)]
 have hout:∀ i ∈ O.drop t,(if Vx c n i < t then (1:Int) else 0)=0:=fun i hi=>by
  refine if_neg fun q=>?_
  have h2:=(ZaR hp ho (List.mem_range.1 (hp.mem_iff.1 (List.mem_of_mem_drop hi)))).2 q
  have hnd':=hnd
  rw [<- List.take_append_drop t O,List.nodup_append] at hnd'
  exact hnd'.2.2 i h2 i hi rfl
 have k1:∀ l:List Nat,(∀ i ∈ l,(if Vx c n i < t then (1:Int) else 0)=1)->ZB (l.map fun i=>if Vx c n i < t then (1:Int) else 0)=l.length:=by
  intro l
  induction l with
  | nil=>intro _;rfl
  | cons x l ih=>intro h;simp only [List.map_cons,ZB,h x (by simp),ih fun i hi=>h i (by simp [hi]),List.length_cons];omega
 have k0:∀ l:List Nat,(∀ i ∈ l,(if Vx c n i < t then (1:Int) else 0)=0)->ZB (l.map fun i=>if Vx c n i < t then (1:Int) else 0)=0:=by
  intro l
  induction l with
  | nil=>intro _;rfl
  | cons x l ih=>intro h;simp only [List.map_cons,ZB,h x (by simp),ih fun i hi=>h i (by simp [hi])];omega
 rw [k1 _ hin,k0 _ hout,List.length_take]
 omega
def ZwS (c:Nat->Int) (x:Nat):List Nat->List Nat
 | []=>[x]
 | y :: l=>if Zaj c x y=true then x :: y :: l else y :: ZwS c x l
def ZAx (c:Nat->Int):List Nat->List Nat
 | []=>[]
 | x :: l=>ZwS c x (ZAx c l)
theorem Za3 {c:Nat->Int} {x:Nat}:∀ {l:List Nat},(ZwS c x l).Perm (x :: l)
 | []=>.refl _
 | y :: l=>by
  simp only [ZwS]
  split
  . exact .refl _
  . exact ((Za3 (c:=c) (x:=x) (l:=l)).cons y).trans (.swap x y l)
theorem ZaY {c:Nat->Int}:∀ {l:List Nat},(ZAx c l).Perm l
 | []=>.refl _
 | x :: l=>Za3.trans ((ZaY (l:=l)).cons x)
theorem ZeB {c:Nat->Int} {x:Nat}:∀ {l:List Nat},l.Pairwise (fun a b=>Zaj c a b=true)->x ∉ l->(ZwS c x l).Pairwise fun a b=>Zaj c a b=true
 | [],_,_=>List.pairwise_singleton _ _
 | y :: l,h,hx=>by
  rw [List.pairwise_cons] at h
  simp only [List.mem_cons,not_or] at hx
  simp only [ZwS]
  split
  . rename_i q
    rw [List.pairwise_cons]
    refine ⟨fun z hz=>?_,List.pairwise_cons.2 h⟩
    rcases List.mem_cons.1 hz with rfl | hz
    . exact q
    . exact ZhD q (h.1 z hz)
  . rename_i q
    rw [List.pairwise_cons]
    refine ⟨fun z hz=>?_,ZeB h.2 hx.2⟩
    rcases List.mem_cons.1 ((Za3 (c:=c) (x:=x) (l:=l)).mem_iff.1 hz) with rfl | hz
    . exact (Zs2 hx.1).resolve_left q
    . exact h.1 z hz
theorem ZeC {c:Nat->Int}:∀ {l:List Nat},l.Nodup->(ZAx c l).Pairwise fun a b=>Zaj c a b=true
 | [],_=>.nil
 | x :: l,h=>by
  rw [List.nodup_cons] at h
  exact ZeB (ZeC h.2) fun hm=>h.1 (ZaY.mem_iff.1 hm)
theorem Zaz {amount:Int} {by':List Int} (ha:0<=amount) (hb:∀ x ∈ by',0<=x) (hs:0 < ZB by'):ZB (Z2 amount by')=amount:=by
 have hl:=Zb9 ha hb hs
 rw [Z2,Ye]
 have e:Y9 amount by'=((Y9 amount by').toNat:Nat):=by omega
 have h2:=ZgB (c:=WP amount by') (n:=by'.length) (O:=ZAx (WP amount by') (List.range by'.length)) ZaY (ZeC List.nodup_range) (t:=(Y9 amount by').toNat) (by omega)
 have h3:ZB ((List.range by'.length).map fun i=>if (Vx (WP amount by') by'.length i:Int) < Y9 amount by' then (1:Int) else 0)=Y9 amount by':=by
  rw [show Y9 amount by'=((Y9 amount by').toNat:Int) from e]
  rw [<- e]
  conv=>rhs;rw [e]
  rw [<- h2]
  congr 1
  apply List.map_congr_left
  intro i _
  by_cases q:Vx (WP amount by') by'.length i < (Y9 amount by').toNat
  . rw [if_pos q,if_pos (by omega)]
  . rw [if_neg q,if_neg (by omega)]
 rw [h3,Y9];omega
def atP (p:Pact) (id:Int):Bool:=p.partners.any fun x=>decide (x.id=id)
def Zn (p:Pact) (x:Letter):Bool :=
 inR 0 9999 x.id && inR 0 100000 x.day &&
  (if x.kind=1\/x.kind=2 then inR 0 10000000 x.rials && decide (x.who=0/\x.other=0/\x.animal=0)
  else if x.kind=3 then atP p x.who && inR 0 9999 x.animal && decide (x.other=0/\x.rials=0)
  else if x.kind=4\/x.kind=5 then inR 0 9999 x.animal && decide (x.who=0/\x.other=0/\x.rials=0)
  else if x.kind=6 then inR 0 9999 x.animal && inR 0 9999 x.other && inR 0 10000000 x.rials && decide (x.who=0)
  else if x.kind=7\/x.kind=8 then atP p x.who && atP p x.other && decide (x.who≠x.other) && inR 0 10000000 x.rials && decide (x.animal=0)
  else false)
def ZbY:List Letter->Bool
 | []=>false
 | x :: l=>(l.any fun y=>decide (y.id=x.id) && decide (y≠x)) || ZbY l
def Wq (ends:Int):List Int->List Letter->List Letter
 | _,[]=>[]
 | seen,x :: l=>if x.id ∈ seen\/x.day > ends then Wq ends (x.id :: seen) l else x :: Wq ends (x.id :: seen) l
def lt2 (a b:Letter):Bool:=decide (a.day < b.day) || (decide (a.day=b.day) && decide (a.id < b.id))
def Zxi (x:Letter):List Letter->List Letter
 | []=>[x]
 | y :: l=>if lt2 x y=true then x :: y :: l else y :: Zxi x l
def Zxl:List Letter->List Letter
 | []=>[]
 | x :: l=>Zxi x (Zxl l)
def YB (p:Pact) (l:List Letter):Int :=
 if ZK p=false then 80 else if l.length > 100 then 4 else if l.all (Zn p)=false then 81 else if ZbY l=true then 82 else 0
def YD (p:Pact) (l:List Letter):List Letter:=Zxl (Wq p.ends [] l)
theorem ZhY (a:Letter):lt2 a a=false:=by simp [lt2]
theorem Zn8 {a b:Letter} (h:lt2 a b=true):lt2 b a=false:=by
 simp only [lt2,Bool.or_eq_true,Bool.and_eq_true,decide_eq_true_eq] at h
 simp only [lt2,Bool.or_eq_false_iff,Bool.and_eq_false_iff,decide_eq_false_iff_not]
 omega
theorem Zhv {a b c:Letter} (h1:lt2 a b=true) (h2:lt2 b c=true):lt2 a c=true:=by
 simp only [lt2,Bool.or_eq_true,Bool.and_eq_true,decide_eq_true_eq] at *;omega
theorem ZtL {a b:Letter} (h:a.id≠b.id):lt2 a b=true\/lt2 b a=true:=by
 simp only [lt2,Bool.or_eq_true,Bool.and_eq_true,decide_eq_true_eq];omega
theorem ZaQ {x:Letter}:∀ {l:List Letter},(Zxi x l).Perm (x :: l)
 | []=>.refl _
 | y :: l=>by
  simp only [Zxi]
  split
  . exact .refl _
  . exact ((ZaQ (x:=x) (l:=l)).cons y).trans (.swap x y l)
theorem W3:∀ {l:List Letter},(Zxl l).Perm l
 | []=>.refl _
 | x :: l=>ZaQ.trans ((W3 (l:=l)).cons x)
theorem Ze3 {x:Letter}:∀ {l:List Letter},l.Pairwise (fun a b=>lt2 a b=true)->(∀ y ∈ l,y.id≠x.id)->(Zxi x l).Pairwise fun a b=>lt2 a b=true
 | [],_,_=>List.pairwise_singleton _ _
 | y :: l,h,hx=>by
  rw [List.pairwise_cons] at h
  simp only [Zxi]
  split
  . rename_i q
    rw [List.pairwise_cons]
    refine ⟨fun z hz=>?_,List.pairwise_cons.2 h⟩
    rcases List.mem_cons.1 hz with rfl | hz
    . exact q
    . exact Zhv q (h.1 z hz)
  . rename_i q
    rw [List.pairwise_cons]
    refine ⟨fun z hz=>?_,Ze3 h.2 fun z hz=>hx z (by simp [hz])⟩
    rcases List.mem_cons.1 ((ZaQ (x:=x) (l:=l)).mem_iff.1 hz) with rfl | hz
    . exact (ZtL (fun e=>hx y (by simp) e.symm)).resolve_left q
    . exact h.1 z hz
theorem ZcB:∀ {l:List Letter},(l.map (·.id)).Nodup->(Zxl l).Pairwise fun a b=>lt2 a b=true
 | [],_=>.nil
 | x :: l,h=>by
  rw [List.map_cons,List.nodup_cons] at h
  exact Ze3 (ZcB h.2) fun y hy e=>h.1 (List.mem_map.2 ⟨y,W3.mem_iff.1 hy,e⟩)
theorem Zb4:∀ {a b:List Letter},a.Pairwise (fun x y=>lt2 x y=true)->b.Pairwise (fun x y=>lt2 x y=true)->(∀ x,x ∈ a↔x ∈ b)->a=b
 | [],[],_,_,_=>rfl
 | [],y :: b,_,_,h=>by have:=(h y).2 (by simp);cases this
 | x :: a,[],_,_,h=>by have:=(h x).1 (by simp);cases this
 | x :: a,y :: b,ha,hb,h=>by
  rw [List.pairwise_cons] at ha hb
  have e:x=y:=by
   have h1:=(h x).1 (by simp)
   have h2:=(h y).2 (by simp)
   rcases List.mem_cons.1 h1 with e | h1
   . exact e
   . rcases List.mem_cons.1 h2 with e | h2
     . exact e.symm
     . have q1:=hb.1 x h1
       have q2:=ha.1 y h2
       rw [Zn8 q1] at q2;cases q2
  subst e
  rw [Zb4 ha.2 hb.2 fun z=>?_]
  constructor
  . intro hz
    rcases List.mem_cons.1 ((h z).1 (by simp [hz])) with rfl | q
    . have:=ha.1 z hz;rw [ZhY] at this;cases this
    . exact q
  . intro hz
    rcases List.mem_cons.1 ((h z).2 (by simp [hz])) with rfl | q
    . have:=hb.1 z hz;rw [ZhY] at this;cases this
    . exact q
theorem WV {ends:Int}:∀ {l:List Letter} {seen:List Int} {x:Letter},x ∈ Wq ends seen l->x ∈ l/\x.id ∉ seen/\x.day<=ends
 | [],_,_,h=>by cases h
 | y :: l,seen,x,h=>by
  simp only [Wq] at h
  split at h
  . obtain ⟨h1,h2,h3⟩:=WV h
    simp only [List.mem_cons,not_or] at h2
    exact ⟨by simp [h1],h2.2,h3⟩
  . rename_i hn
    rcases List.mem_cons.1 h with rfl | h
    . exact ⟨by simp,fun q=>hn (.inl q),by have:=fun q=>hn (.inr q);omega⟩
    . obtain ⟨h1,h2,h3⟩:=WV h
      simp only [List.mem_cons,not_or] at h2
      exact ⟨by simp [h1],h2.2,h3⟩
theorem WL {ends:Int}:∀ {l:List Letter} {seen:List Int},((Wq ends seen l).map (·.id)).Nodup
 | [],_=>.nil
 | y :: l,seen=>by
  simp only [Wq]
  split
  . exact WL
  . rw [List.map_cons,List.nodup_cons]
    refine ⟨fun h=>?_,WL⟩
    obtain ⟨x,hx,e⟩:=List.mem_map.1 h
    exact (WV hx).2.1 (by simp [e])
theorem We:∀ {l:List Letter},ZbY l=false->∀ x ∈ l,∀ y ∈ l,x.id=y.id->x=y
 | [],_,x,hx,_,_,_=>by cases hx
 | z :: l,h,x,hx,y,hy,e=>by
  simp only [ZbY,Bool.or_eq_false_iff,List.any_eq_false,Bool.and_eq_true,decide_eq_true_eq,not_and,Decidable.not_not] at h
  rcases List.mem_cons.1 hx with hx1 | hx1
  . rcases List.mem_cons.1 hy with hy1 | hy1
    . rw [hx1,hy1]
    . subst hx1;exact (h.1 y hy1 e.symm).symm
  . rcases List.mem_cons.1 hy with hy1 | hy1
    . subst hy1;exact h.1 x hx1 e
    . exact We h.2 x hx1 y hy1 e
theorem ZbU:∀ {l:List Letter},(∀ x ∈ l,∀ y ∈ l,x.id=y.id->x=y)->ZbY l=false
 | [],_=>rfl
 | z :: l,h=>by
  simp only [ZbY,Bool.or_eq_false_iff,List.any_eq_false,Bool.and_eq_true,decide_eq_true_eq,not_and,Decidable.not_not]
  exact ⟨fun y hy e=>h y (by simp [hy]) z (by simp) e,ZbU fun x hx y hy=>h x (by simp [hx]) y (by simp [hy])⟩
theorem ZcZ {ends:Int}:∀ {l:List Letter} {seen:List Int} {x:Letter},(∀ a ∈ l,∀ b ∈ l,a.id=b.id->a=b)->x ∈ l->x.id ∉ seen->x.day<=ends->x ∈ Wq ends seen l
 | y :: l,seen,x,h,hx,hs,hd=>by
  have h':∀ a ∈ l,∀ b ∈ l,a.id=b.id->a=b:=fun a ha b hb=>h a (by simp [ha]) b (by simp [hb])
  simp only [Wq]
  by_cases e:x.id=y.id
  . have:=h x hx y (by simp) e
    subst this
    rw [if_neg (fun q=>q.elim hs (by omega))]
    simp
  . have hxl:x ∈ l:=by
     rcases List.mem_cons.1 hx with rfl | h
     . exact absurd rfl e
     . exact h
    have:=ZcZ (ends:=ends) (seen:=y.id :: seen) h' hxl (by simp [e,hs]) hd
    split
    . exact this
    . exact List.mem_cons_of_mem _ this
theorem VW {p:Pact} {l:List Letter} (h:ZbY l=false) {x:Letter}:x ∈ YD p l↔x ∈ l/\x.day<=p.ends:=by
 rw [YD,W3.mem_iff]
 constructor
 . intro q;have:=WV q;exact ⟨this.1,this.2.2⟩
 . rintro ⟨h1,h2⟩;exact ZcZ (We h) h1 (by simp) h2
theorem Zdd {p:Pact} {l:List Letter}:(YD p l).Pairwise fun a b=>lt2 a b=true:=ZcB WL
structure Co where
 loans:Int->Option (Int × Int)
 dead:Int->Bool
 known:Int->Bool
 debts:Int->Int->Int
 extra:Int->Int
 result:Int
def co0:Co:=⟨fun _=>none,fun _=>false,fun _=>false,fun _ _=>0,fun _=>0,0⟩
def upd {α : Type} (f:Int->α) (k:Int) (v:α):Int->α:=fun i=>if i=k then v else f i
def Yb (p:Pact) (c:Co) (animal day:Int) (l:Int × Int):Co :=
 { c with loans:=upd c.loans animal none,extra:=upd c.extra l.1 (c.extra l.1+p.hire * (day - l.2)),result:=c.result - p.hire * (day - l.2) }
def ZG (p:Pact) (c:Co) (x:Letter):Co × Int :=
 if x.kind=1 then ({ c with result:=c.result+x.rials },0)
 else if x.kind=2 then ({ c with result:=c.result - x.rials },0)
 else if x.kind=3 then
  if (c.loans x.animal).isSome=true then (c,1) else if c.dead x.animal=true then (c,2) else ({ c with loans:=upd c.loans x.animal (some (x.who,x.day)) },0)
 else if x.kind=4 then match c.loans x.animal with
  | none=>(c,3)
  | some l=>(Yb p c x.animal x.day l,0)
 else if x.kind=5 then
  if c.dead x.animal=true then (c,2) else match c.loans x.animal with
   | none=>(c,3)
   | some l=>({ Yb p c x.animal x.day l with dead:=upd c.dead x.animal true },0)
 else if x.kind=6 then
  if c.known x.other=true then (c,4) else match c.loans x.animal with
   | none=>(c,3)
   | some l=>({ c with extra:=upd c.extra l.1 (c.extra l.1+(x.rials * p.calf).tdiv 1000),result:=c.result+(x.rials - (x.rials * p.calf).tdiv 1000),known:=upd c.known x.other true },0)
 else if x.kind=7 then ({ c with debts:=upd c.debts x.who (upd (c.debts x.who) x.other (c.debts x.who x.other+x.rials)) },0)
 else if x.kind=8 then
  if c.debts x.who x.other < x.rials then (c,5) else ({ c with debts:=upd c.debts x.who (upd (c.debts x.who) x.other (c.debts x.who x.other - x.rials)) },0)
 else (c,0)
def WT (p:Pact):Co->List Letter->Co
 | c,[]=>c
 | c,x :: l=>WT p (ZG p c x).1 l
def ZcD (p:Pact):Co->List Letter->List Int
 | _,[]=>[]
 | c,x :: l=>(ZG p c x).2 :: ZcD p (ZG p c x).1 l
theorem U6 {p:Pact}:∀ {a b:List Letter} {c:Co},WT p c (a ++ b)=WT p (WT p c a) b
 | [],_,_=>rfl
 | x :: a,b,c=>by simp only [List.cons_append,WT];exact U6
theorem ZeQ {p:Pact}:∀ {a b:List Letter} {c:Co},ZcD p c (a ++ b)=ZcD p c a ++ ZcD p (WT p c a) b
 | [],_,_=>rfl
 | x :: a,b,c=>by simp only [List.cons_append,ZcD,WT];rw [ZeQ]
theorem ZeV {p:Pact}:∀ {l:List Letter} {c:Co},(ZcD p c l).length=l.length
 | [],_=>rfl
 | x :: l,c=>by simp [ZcD,ZeV (l:=l)]
def YC (p:Pact) (c:Co) (a:Nat):Int:=match c.loans a with
 | none=>0
 | some l=>p.hire * (p.ends - l.2)
def Xe (p:Pact) (c:Co) (who:Int) (a:Nat):Int:=match c.loans a with
 | none=>0
 | some l=>if l.1=who then p.hire * (p.ends - l.2) else 0
def U0 (p:Pact) (c:Co):Int:=c.result - ZB ((List.range 10000).map (YC p c))
def Zbg (p:Pact) (c:Co) (who:Int):Int:=c.extra who+ZB ((List.range 10000).map (Xe p c who))
def Wi (p:Pact) (c:Co) (id:Int):Int:=ZB (p.partners.map fun y=>c.debts y.id id - c.debts id y.id)
def ZrG {α : Type} (f:α->Int):Option α->Int
 | none=>0
 | some x=>f x
def UX (p:Pact) (c:Co):List Int :=
 (List.range p.partners.length).map fun i=>ZrG (fun x=>x.put+(Z1 p (U0 p c)).getD i 0+Zbg p c x.id+Wi p c x.id) p.partners[i]?
def Yl (p:Pact) (l:List Letter):List Int:=UX p (WT p co0 l)
theorem ZmU {p:Pact} {X:List Letter} (ho:X.Pairwise fun a b=>lt2 a b=true) (hd:∀ x ∈ X,x.day<=p.ends) (h2:ZbY X=false):YD p X=X :=
 Zb4 Zdd ho fun x=>by rw [VW h2];exact ⟨fun h=>h.1,fun h=>⟨h,hd x h⟩⟩
theorem ZbR {l X:List Letter} (h:ZbY l=false) (hs:∀ x ∈ X,x ∈ l):ZbY X=false :=
 ZbU fun x hx y hy e=>We h x (hs x hx) y (hs y hy) e
theorem ZbE {p:Pact} {l:List Letter} (h:ZbY l=false):ZbY (YD p l)=false:=ZbR h fun _ hx=>((VW h).1 hx).1
theorem ZgP {p:Pact} {l few:List Letter} (h:ZbY l=false) (hs:few.Sublist (YD p l)):YD p few=few :=
 ZmU (Zdd.sublist hs) (fun _ hx=>((VW h).1 (hs.subset hx)).2) (ZbR (ZbE h) fun _ hx=>hs.subset hx)
theorem Zuh {α : Type} {X:List α} {k:Nat} (hk:k < X.length):X=X.take k ++ X[k] :: X.drop (k+1):=by
 rw [<- List.drop_eq_getElem_cons hk,List.take_append_drop]
theorem U2 {ids:List Int} {f:Int->Int} {k v:Int} (hn:ids.Nodup) (hk:k ∈ ids):ZB (ids.map (upd f k v))=ZB (ids.map f)+(v - f k):=by
 induction ids with
 | nil=>cases hk
 | cons x l ih =>
  rw [List.nodup_cons] at hn
  simp only [List.map_cons,ZB]
  rcases List.mem_cons.1 hk with rfl | hk
  . have:l.map (upd f k v)=l.map f:=List.map_congr_left fun y hy=>by
     simp only [upd];rw [if_neg];rintro rfl;exact hn.1 hy
    rw [this];simp only [upd,if_true];omega
  . rw [ih hn.2 hk]
    have:upd f k v x=f x:=by simp only [upd];rw [if_neg];rintro rfl;exact hn.1 hk
    omega
theorem YX:∀ {l:List Partner} {last:Int},Yx last l=true->(∀ x ∈ l,last < x.id/\x.id<=9999)/\(l.map (·.id)).Nodup/\(∀ x ∈ l,0<=x.put/\x.put<=100000000/\0<=x.share/\x.share<=1000)
 | [],_,_=>⟨by simp,.nil,by simp⟩
 | x :: l,last,h=>by
  simp only [Yx,Bool.and_eq_true,inR,decide_eq_true_eq] at h
  obtain ⟨h1,h2,h3⟩:=YX h.2
  refine ⟨fun y hy=>?_,?_,fun y hy=>?_⟩
  . rcases List.mem_cons.1 hy with rfl | hy
    . omega
    . have:=h1 y hy;omega
  . rw [List.map_cons,List.nodup_cons]
    refine ⟨fun hm=>?_,h2⟩
    obtain ⟨y,hy,e⟩:=List.mem_map.1 hm
    have:=h1 y hy;omega
  . rcases List.mem_cons.1 hy with rfl | hy
    . omega
    . exact h3 y hy
def ids (p:Pact):List Int:=p.partners.map (·.id)
theorem ZjV {p:Pact} {k:Int}:atP p k=true↔k ∈ ids p:=by
 simp [atP,ids]
structure CoOk (p:Pact) (c:Co):Prop where
 who:∀ a l,c.loans a=some l->l.1 ∈ ids p
 inb:∀ a l,c.loans a=some l->0<=a/\a<=9999
theorem CoOk.co0 {p:Pact}:CoOk p co0:=⟨fun a l h=>by simp [Go.Azalai.co0] at h,fun a l h=>by simp [Go.Azalai.co0] at h⟩
theorem CoOk.home {p:Pact} {c:Co} (h:CoOk p c) {a d:Int} {l:Int × Int}:CoOk p (Yb p c a d l):=by
 refine ⟨fun b m hb=>?_,fun b m hb=>?_⟩<;>simp only [Yb,upd] at hb<;>split at hb
 . cases hb
 . exact h.who b m hb
 . cases hb
 . exact h.inb b m hb
theorem CoOk.step {p:Pact} {c:Co} (h:CoOk p c) {x:Letter} (hx:Zn p x=true):CoOk p (ZG p c x).1:=by
 unfold ZG
 split
 . exact ⟨h.who,h.inb⟩
 split
 . exact ⟨h.who,h.inb⟩
 split
 . rename_i n1 n2 k3
   split
   . exact h
   split
   . exact h
   have hl:x.who ∈ ids p/\0<=x.animal/\x.animal<=9999:=by
    simp only [Zn,k3] at hx
    simp [inR,ZjV] at hx
    exact ⟨hx.2.1.1,hx.2.1.2⟩
   refine ⟨fun b m hb=>?_,fun b m hb=>?_⟩<;>simp only [upd] at hb<;>split at hb
   . cases hb;exact hl.1
   . exact h.who b m hb
   . rename_i e;subst e;exact hl.2
   . exact h.inb b m hb
 split
 . split
   . exact h
   . exact h.home
 split
 . split
   . exact h
   split
   . exact h
   . rename_i l hl
     have q:=h.home (a:=x.animal) (d:=x.day) (l:=l)
     exact ⟨q.who,q.inb⟩
 split
 . split
   . exact h
   split
   . exact h
   . exact ⟨h.who,h.inb⟩
 split
 . exact ⟨h.who,h.inb⟩
 split
 . split
   . exact h
   . exact ⟨h.who,h.inb⟩
 . exact h
theorem CoOk.run {p:Pact}:∀ {l:List Letter} {c:Co},CoOk p c->(∀ x ∈ l,Zn p x=true)->CoOk p (WT p c l)
 | [],_,h,_=>h
 | x :: l,c,h,hl=>by
  show CoOk p (WT p (ZG p c x).1 l)
  exact CoOk.run (h.step (hl x (by simp))) fun y hy=>hl y (by simp [hy])
def XS (x:Letter) (w:Int):Int:=if w≠0 then 0 else if x.kind=1\/x.kind=6 then x.rials else if x.kind=2 then -x.rials else 0
def exS (p:Pact) (c:Co):Int:=ZB ((ids p).map c.extra)
theorem ZhF {p:Pact} {c:Co} (hn:(ids p).Nodup) (h:CoOk p c) (x:Letter):(ZG p c x).1.result+exS p (ZG p c x).1=c.result+exS p c+XS x (ZG p c x).2:=by
 unfold ZG
 split
 . rename_i k;simp [exS,XS,k];omega
 split
 . rename_i k;simp [exS,XS,k];omega
 split
 . rename_i k
   split
   . simp [exS,XS]
   split
   . simp [exS,XS]
   . simp [exS,XS,k]
 split
 . rename_i k
   split
   . simp [exS,XS]
   . rename_i l hl
     have:=U2 (f:=c.extra) (v:=c.extra l.1+p.hire * (x.day - l.2)) hn (h.who _ _ hl)
     simp only [exS,Yb,XS,this,k];simp;omega
 split
 . rename_i k
   split
   . simp [exS,XS]
   split
   . simp [exS,XS]
   . rename_i l hl
     have:=U2 (f:=c.extra) (v:=c.extra l.1+p.hire * (x.day - l.2)) hn (h.who _ _ hl)
     simp only [exS,Yb,XS,this,k];simp;omega
 split
 . rename_i k
   split
   . simp [exS,XS]
   split
   . simp [exS,XS]
   . rename_i l hl
     have:=U2 (f:=c.extra) (v:=c.extra l.1+(x.rials * p.calf).tdiv 1000) hn (h.who _ _ hl)
     simp only [exS,XS,this,k];simp;omega
 split
 . rename_i k;simp [exS,XS,k]
 split
 . rename_i k
   split
   . simp [exS,XS]
   . simp [exS,XS,k]
 . rename_i k1 k2 k3 k4 k5 k6 k7 k8
   simp only [exS,XS]
   rw [if_neg (by simp),if_neg (fun q=>q.elim k1 k6),if_neg k2];omega
def Zlm:List Letter->List Int->Int
 | x :: l,w :: ws=>XS x w+Zlm l ws
 | _,_=>0
theorem ZeM {p:Pact} (hn:(ids p).Nodup):∀ {l:List Letter} {c:Co},CoOk p c->(∀ x ∈ l,Zn p x=true)->(WT p c l).result+exS p (WT p c l)=c.result+exS p c+Zlm l (ZcD p c l)
 | [],c,_,_=>by simp [WT,ZcD,Zlm]
 | x :: l,c,h,hl=>by
  have h1:=ZhF hn h x
  have h2:=ZeM hn (h.step (hl x (by simp))) (l:=l) fun y hy=>hl y (by simp [hy])
  simp only [WT,ZcD,Zlm]
  omega
theorem YO {α : Type} {f:α->Int}:∀ {l:List α},(∀ x ∈ l,f x=0)->ZB (l.map f)=0
 | [],_=>rfl
 | x :: l,h=>by simp only [List.map_cons,ZB,h x (by simp),YO (l:=l) fun y hy=>h y (by simp [hy])];omega
theorem VY {α β : Type} {f:α->β->Int} {m:List β}:∀ {l:List α},ZB (l.map fun x=>ZB (m.map fun y=>f x y))=ZB (m.map fun y=>ZB (l.map fun x=>f x y))
 | []=>by simp only [List.map_nil,ZB];exact (YO fun _ _=>rfl).symm
 | x :: l=>by
  simp only [List.map_cons,ZB]
  rw [VY,Ye]
theorem Zai {α : Type} {f:α->Int}:∀ {l:List α},ZB (l.map fun x=>-f x) = -ZB (l.map f)
 | []=>rfl
 | x :: l=>by simp only [List.map_cons,ZB,Zai (l:=l)];omega
theorem ZeA {ids:List Int} {k v:Int} (hn:ids.Nodup) (hk:k ∈ ids):ZB (ids.map fun i=>if k=i then v else 0)=v:=by
 have h:=U2 (f:=fun _=>0) (v:=v) hn hk
 rw [YO (fun _ _=>rfl)] at h
 have e:(fun i=>if k=i then v else 0)=upd (fun _=>0) k v:=by
  funext i;simp only [upd]
  by_cases q:k=i
  . rw [if_pos q,if_pos q.symm]
  . rw [if_neg q,if_neg fun e=>q e.symm]
 rw [e,h];omega
theorem ZmE {p:Pact} {c:Co}:ZB (p.partners.map fun x=>Wi p c x.id)=0:=by
 have h:ZB (p.partners.map fun x=>ZB (p.partners.map fun y=>c.debts y.id x.id))=ZB (p.partners.map fun y=>ZB (p.partners.map fun x=>c.debts y.id x.id)):=VY
 have e:(fun x:Partner=>Wi p c x.id)=fun x=>ZB (p.partners.map fun y=>c.debts y.id x.id)+-ZB (p.partners.map fun y=>c.debts x.id y.id):=by
  funext x
  rw [Wi,<- Zai,<- Ye]
  congr 1
 rw [e,Ye,Zai,h];omega
theorem Zpm {p:Pact} {c:Co} (hn:(ids p).Nodup) (h:CoOk p c) (az:List Nat):ZB ((ids p).map fun w=>ZB (az.map (Xe p c w)))=ZB (az.map (YC p c)):=by
 rw [VY]
 congr 1
 apply List.map_congr_left
 intro a _
 simp only [Xe,YC]
 cases hl:c.loans a with
 | none=>exact YO fun _ _=>rfl
 | some l=>exact ZeA hn (h.who _ _ hl)
theorem X1 {p:Pact} {c:Co}:(UX p c).length=p.partners.length:=by simp [UX]
theorem Za7 {p:Pact} {r:Int}:(Z1 p r).length=p.partners.length:=by
 unfold Z1 Z2;split<;>simp
theorem Zq3 {l:List Int}:ZB ((List.range l.length).map fun i=>l.getD i 0)=ZB l:=by
 congr 1
 apply List.ext_getElem
 . simp
 . intro i h1 h2;simp [List.getElem?_eq_getElem h2]
theorem ZqP {α : Type} {l:List α} {f:α->Int}:ZB ((List.range l.length).map fun i=>ZrG f l[i]?)=ZB (l.map f):=by
 congr 1
 apply List.ext_getElem
 . simp
 . intro i h1 h2
   simp at h1 h2 ⊢
   rw [List.getElem?_eq_getElem h2];rfl
theorem Y7 {p:Pact} (h:ZK p=true):(ids p).Nodup/\(∀ x ∈ p.partners.map (·.share),0<=x)/\(∀ x ∈ p.partners.map (·.put),0<=x)/\0 < ZB (p.partners.map (·.put))/\ZB (p.partners.map (·.share))=1000/\1<=p.partners.length/\p.partners.length<=8:=by
 simp only [ZK,Bool.and_eq_true,inR,decide_eq_true_eq] at h
 obtain ⟨⟨⟨⟨⟨⟨h1,h2⟩,h3⟩,h4⟩,h5⟩,h6⟩,h7⟩:=h
 obtain ⟨i1,i2,i3⟩:=YX h5
 have hp:∀ x ∈ p.partners.map (·.put),0<=x:=fun x hx=>by
  obtain ⟨y,hy,rfl⟩:=List.mem_map.1 hx
  have:=i3 y hy;omega
 refine ⟨i2,fun x hx=>?_,hp,?_,h7,by omega,by omega⟩
 . obtain ⟨y,hy,rfl⟩:=List.mem_map.1 hx
   have:=i3 y hy;omega
 . have:=WA hp;omega
theorem ZgO {p:Pact} (h:ZK p=true) (r:Int):ZB (Z1 p r)=r:=by
 obtain ⟨h1,h2,h3,h4,h5,_,_⟩:=Y7 h
 unfold Z1
 split
 . exact Zaz (by omega) h2 (by omega)
 . have:=Zaz (amount:=-r) (by omega) h3 h4
   have e:=Zai (f:=fun n:Int=>n) (l:=Z2 (-r) (p.partners.map (·.put)))
   rw [List.map_id'] at e
   rw [e,this];omega
theorem kept {p:Pact} {l:List Letter} (h:ZK p=true) (hl:∀ x ∈ l,Zn p x=true):ZB (Yl p l)=ZB (p.partners.map (·.put))+Zlm l (ZcD p co0 l):=by
 obtain ⟨h1,-⟩:=Y7 h
 have hc:=CoOk.co0.run (p:=p) hl
 have hg:=ZeM h1 CoOk.co0 hl
 unfold Yl
 generalize WT p co0 l=c at hc hg ⊢
 have e:UX p c=(List.range p.partners.length).map fun i=>(ZrG (fun x=>x.put+Zbg p c x.id+Wi p c x.id) p.partners[i]?)+(ZrG (fun _=>(Z1 p (U0 p c)).getD i 0) p.partners[i]?):=by
  unfold UX
  apply List.map_congr_left
  intro i hi
  rw [List.mem_range] at hi
  rw [List.getElem?_eq_getElem hi]
  simp only [ZrG];omega
 have e2:((List.range p.partners.length).map fun i=>ZrG (fun _=>(Z1 p (U0 p c)).getD i 0) p.partners[i]?)=(List.range (Z1 p (U0 p c)).length).map fun i=>(Z1 p (U0 p c)).getD i 0:=by
  rw [Za7]
  apply List.map_congr_left
  intro i hi
  rw [List.mem_range] at hi
  rw [List.getElem?_eq_getElem hi];rfl
 rw [e,Ye,e2,Zq3,ZgO h,ZqP (f:=fun x:Partner=>x.put+Zbg p c x.id+Wi p c x.id)]
 have e3:ZB (p.partners.map fun x=>x.put+Zbg p c x.id+Wi p c x.id)=ZB (p.partners.map (·.put))+ZB (p.partners.map fun x=>Zbg p c x.id)+0:=by
  rw [<- ZmE (p:=p) (c:=c),<- Ye,<- Ye]
 have e4:ZB (p.partners.map fun x=>Zbg p c x.id)=exS p c+ZB ((List.range 10000).map (YC p c)):=by
  rw [<- Zpm h1 hc,exS,<- Ye]
  simp [ids,Function.comp_def,Zbg]
 have z:(co0.result+exS p co0)=0:=by
  have:exS p co0=0:=YO fun _ _=>rfl
  rw [this];rfl
 rw [e3,e4,U0]
 omega
structure Alike (a:Int) (c d:Co):Prop where
 loans:c.loans=d.loans
 none:c.loans a=none
 dead:∀ b,b≠a->c.dead b=d.dead b
 known:c.known=d.known
 debts:c.debts=d.debts
 extra:c.extra=d.extra
 result:c.result=d.result
theorem Alike.home {a:Int} {c d:Co} {p:Pact} (h:Alike a c d) {b n:Int} {l:Int × Int}:Alike a (Yb p c b n l) (Yb p d b n l):=by
 refine ⟨?_,?_,h.dead,h.known,h.debts,?_,?_⟩
 . simp only [Yb,h.loans]
 . simp only [Yb,upd];split
   . rfl
   . exact h.none
 . simp only [Yb,h.extra]
 . simp only [Yb,h.result]
theorem Alike.step {a:Int} {c d:Co} {p:Pact} (h:Alike a c d) {x:Letter} (hx:¬(x.kind=3/\x.animal=a)):Alike a (ZG p c x).1 (ZG p d x).1:=by
 obtain ⟨h1,h2,h3,h4,h5,h6,h7⟩:=h
 have H:Alike a c d:=⟨h1,h2,h3,h4,h5,h6,h7⟩
 unfold ZG
 by_cases k1:x.kind=1
 . simp only [if_pos k1];exact ⟨h1,h2,h3,h4,h5,h6,by simp only [h7]⟩
 by_cases k2:x.kind=2
 . simp only [if_neg k1,if_pos k2];exact ⟨h1,h2,h3,h4,h5,h6,by simp only [h7]⟩
 by_cases k3:x.kind=3
 . have ha:x.animal≠a:=fun e=>hx ⟨k3,e⟩
   simp only [if_neg k1,if_neg k2,if_pos k3]
   rw [<- h1,<- h3 _ ha]
   split
   . exact H
   split
   . exact H
   . refine ⟨by simp only,?_,h3,h4,h5,h6,h7⟩
     simp only [upd];rw [if_neg fun e=>ha e.symm];exact h2
 by_cases k4:x.kind=4
 . simp only [if_neg k1,if_neg k2,if_neg k3,if_pos k4]
   rw [<- h1]
   split
   . exact H
   . exact H.home
 by_cases k5:x.kind=5
 . simp only [if_neg k1,if_neg k2,if_neg k3,if_neg k4,if_pos k5]
   by_cases ha:x.animal=a
   . rw [ha,<- h1]
     simp only [h2]
     cases c.dead a<;>cases d.dead a<;>exact H
   . rw [<- h1,<- h3 _ ha]
     split
     . exact H
     split
     . exact H
     . rename_i l _
       have q:=H.home (p:=p) (b:=x.animal) (n:=x.day) (l:=l)
       refine ⟨q.loans,q.none,fun b hb=>?_,q.known,q.debts,q.extra,q.result⟩
       simp only [upd];split
       . rfl
       . exact q.dead b hb
 by_cases k6:x.kind=6
 . simp only [if_neg k1,if_neg k2,if_neg k3,if_neg k4,if_neg k5,if_pos k6]
   rw [<- h1,<- h4]
   split
   . exact H
   split
   . exact H
   . exact ⟨by simp only,h2,h3,by simp only,h5,by simp only [h6],by simp only [h7]⟩
 by_cases k7:x.kind=7
 . simp only [if_neg k1,if_neg k2,if_neg k3,if_neg k4,if_neg k5,if_neg k6,if_pos k7]
   exact ⟨h1,h2,h3,h4,by simp only [h5],h6,h7⟩
 by_cases k8:x.kind=8
 . simp only [if_neg k1,if_neg k2,if_neg k3,if_neg k4,if_neg k5,if_neg k6,if_neg k7,if_pos k8]
   rw [<- h5]
   split
   . exact H
   . exact ⟨h1,h2,h3,h4,by simp only,h6,h7⟩
 simp only [if_neg k1,if_neg k2,if_neg k3,if_neg k4,if_neg k5,if_neg k6,if_neg k7,if_neg k8]
 exact H
theorem Alike.run {a:Int} {p:Pact}:∀ {l:List Letter} {c d:Co},Alike a c d->(∀ x ∈ l,¬(x.kind=3/\x.animal=a))->Alike a (WT p c l) (WT p d l)
 | [],_,_,h,_=>h
 | x :: l,c,d,h,hl=>by
  show Alike a (WT p (ZG p c x).1 l) (WT p (ZG p d x).1 l)
  exact Alike.run (h.step (hl x (by simp))) fun y hy=>hl y (by simp [hy])
theorem Alike.has {a:Int} {p:Pact} {c d:Co} (h:Alike a c d):UX p c=UX p d:=by
 have e1:YC p c=YC p d:=by funext b;simp only [YC,h.loans]
 have e2:Xe p c=Xe p d:=by funext w b;simp only [Xe,h.loans]
 have e3:U0 p c=U0 p d:=by simp only [U0,e1,h.result]
 have e4:Zbg p c=Zbg p d:=by funext w;simp only [Zbg,e2,h.extra]
 have e5:Wi p c=Wi p d:=by funext w;simp only [Wi,h.debts]
 simp only [UX,e3,e4,e5]
theorem alone {p:Pact} {X:List Letter} {k:Nat} (hk:k < X.length) (h5:X[k].kind=5) (hw:(ZG p (WT p co0 (X.take k)) X[k]).2=0) (hno:∀ y ∈ X.drop (k+1),¬(y.kind=3/\y.animal=X[k].animal)) :
 Yl p (X.set k { X[k] with kind:=4 })=Yl p X:=by
 have e1:X.set k { X[k] with kind:=4 }=X.take k ++ { X[k] with kind:=4 } :: X.drop (k+1):=by
  rw [List.set_eq_take_append_cons_drop,if_pos hk]
 unfold Yl
 rw [e1,U6]
 conv=>rhs;rw [Zuh hk,U6]
 simp only [WT]
 generalize WT p co0 (X.take k)=c at hw ⊢
 refine (Alike.run (a:=X[k].animal) ?_ hno).has
 unfold ZG at hw ⊢
 simp only [h5] at hw ⊢
 simp only [show ¬ (5:Int)=1 from by omega,show ¬ (5:Int)=2 from by omega,show ¬ (5:Int)=3 from by omega,show ¬ (5:Int)=4 from by omega,show ¬ (4:Int)=1 from by omega,show ¬ (4:Int)=2 from by omega,show ¬ (4:Int)=3 from by omega,if_false,if_true] at hw ⊢
 split at hw
 . simp at hw
 rename_i hd
 simp only [hd,if_false,Bool.false_eq_true]
 cases hl:c.loans X[k].animal with
 | none=>rw [hl] at hw;simp at hw
 | some l =>
  simp only
  refine ⟨rfl,by simp [Yb,upd],fun b hb=>?_,rfl,rfl,rfl,rfl⟩
  simp only [Yb,upd];rw [if_neg hb]
def ZbD (x:Letter):Bool:=decide (x.kind=7\/x.kind=8)
structure Plain (c d:Co):Prop where
 loans:c.loans=d.loans
 dead:c.dead=d.dead
 known:c.known=d.known
 extra:c.extra=d.extra
 result:c.result=d.result
theorem Plain.step {p:Pact} {c d:Co} (h:Plain c d) {x:Letter} (hx:ZbD x=false):Plain (ZG p c x).1 (ZG p d x).1/\(ZG p c x).2=(ZG p d x).2/\(ZG p c x).1.debts=c.debts:=by
 obtain ⟨l1,d1,k1,b1,x1,r1⟩:=c
 obtain ⟨l2,d2,k2,b2,x2,r2⟩:=d
 obtain ⟨h1,h2,h3,h4,h5⟩:=h
 simp only at h1 h2 h3 h4 h5
 subst h1;subst h2;subst h3;subst h4;subst h5
 simp only [ZbD,decide_eq_false_iff_not,not_or] at hx
 unfold ZG
 simp only [if_neg hx.1,if_neg hx.2,Yb]
 repeat' split
 all_goals exact ⟨⟨rfl,rfl,rfl,rfl,rfl⟩,rfl,rfl⟩
theorem Plain.trans {a b c:Co} (h:Plain a b) (h':Plain b c):Plain a c:=⟨h.1.trans h'.1,h.2.trans h'.2,h.3.trans h'.3,h.4.trans h'.4,h.5.trans h'.5⟩
theorem Plain.symm {a b:Co} (h:Plain a b):Plain b a:=⟨h.1.symm,h.2.symm,h.3.symm,h.4.symm,h.5.symm⟩
theorem Plain.rfl' {a:Co}:Plain a a:=⟨rfl,rfl,rfl,rfl,rfl⟩
def ZlV (D:Int->Int->Int) (x:Letter) (w:Int):Int->Int->Int :=
 if x.kind=7 then upd D x.who (upd (D x.who) x.other (D x.who x.other+x.rials))
 else if x.kind=8/\w=0 then upd D x.who (upd (D x.who) x.other (D x.who x.other - x.rials)) else D
theorem ZhG {p:Pact} {c:Co} {x:Letter}:(ZG p c x).1.debts=ZlV c.debts x (ZG p c x).2/\(x.kind=8->((ZG p c x).2=0/\x.rials<=c.debts x.who x.other)\/((ZG p c x).2=5/\c.debts x.who x.other < x.rials)):=by
 by_cases h:ZbD x=true
 . simp only [ZbD,decide_eq_true_eq] at h
   unfold ZG ZlV
   rcases h with h | h
   . simp [h]
   . simp only [h]
     simp only [show ¬ (8:Int)=1 from by omega,show ¬ (8:Int)=2 from by omega,show ¬ (8:Int)=3 from by omega,show ¬ (8:Int)=4 from by omega,show ¬ (8:Int)=5 from by omega,show ¬ (8:Int)=6 from by omega,show ¬ (8:Int)=7 from by omega,if_false,if_true]
     by_cases hlt:c.debts x.who x.other < x.rials
     . simp [hlt]
     . simp [hlt];omega
 . have h':ZbD x=false:=by simpa using h
   have:=(Plain.rfl' (a:=c)).step (p:=p) h'
   simp only [ZbD,decide_eq_true_eq,not_or] at h
   refine ⟨?_,fun k=>absurd k h.2⟩
   rw [this.2.2,ZlV,if_neg h.1,if_neg fun q=>h.2 q.1]
structure Voids (c d:Co):Prop where
 loans:c.loans=d.loans
 dead:c.dead=d.dead
 known:c.known=d.known
theorem Voids.step {p:Pact} {c d:Co} (h:Voids c d) (x:Letter):Voids (ZG p c x).1 (ZG p d x).1/\XS x (ZG p c x).2=XS x (ZG p d x).2:=by
 obtain ⟨l1,d1,k1,b1,x1,r1⟩:=c
 obtain ⟨l2,d2,k2,b2,x2,r2⟩:=d
 obtain ⟨h1,h2,h3⟩:=h
 simp only at h1 h2 h3
 subst h1;subst h2;subst h3
 by_cases h8:x.kind=8
 . unfold ZG
   simp only [h8]
   simp only [show ¬ (8:Int)=1 from by omega,show ¬ (8:Int)=2 from by omega,show ¬ (8:Int)=3 from by omega,show ¬ (8:Int)=4 from by omega,show ¬ (8:Int)=5 from by omega,show ¬ (8:Int)=6 from by omega,show ¬ (8:Int)=7 from by omega,if_false,if_true]
   have g:∀ w,XS x w=0:=fun w=>by simp [XS,h8]
   split<;>split<;>exact ⟨⟨rfl,rfl,rfl⟩,(g _).trans (g _).symm⟩
 . unfold ZG
   simp only [if_neg h8,Yb]
   repeat' split
   all_goals exact ⟨⟨rfl,rfl,rfl⟩,rfl⟩
def ZT (set:Nat):Nat->List Letter->List Letter
 | _,[]=>[]
 | k,x :: l=>if x.mouth=true then (if set.testBit k=true then x :: ZT set (k+1) l else ZT set (k+1) l) else x :: ZT set k l
theorem Xi {set:Nat}:∀ {l:List Letter} {k:Nat},(ZT set k l).Sublist l
 | [],_=>by simp [ZT]
 | x :: l,k=>by
  simp only [ZT]
  split
  . split
    . exact Xi.cons_cons x
    . exact Xi.cons x
  . exact Xi.cons_cons x
theorem Uu {s s':Nat}:∀ {l:List Letter} {k:Nat},(∀ j,k<=j->j < k+(l.filter (·.mouth)).length->s.testBit j=s'.testBit j)->ZT s k l=ZT s' k l
 | [],_,_=>rfl
 | x :: l,k,h=>by
  simp only [ZT]
  by_cases hx:x.mouth=true
  . simp only [List.filter_cons,hx,if_true,List.length_cons] at h
    have h0:=h k (Nat.le_refl _) (by omega)
    have ih:=Uu (l:=l) (k:=k+1) (s:=s) (s':=s') fun j h1 h2=>h j (by omega) (by omega)
    rw [if_pos hx,if_pos hx,h0,ih]
  . simp only [List.filter_cons,hx,Bool.false_eq_true,if_false] at h
    rw [if_neg hx,if_neg hx,Uu h]
theorem Zju {s m:Nat} {l:List Letter} (hm:(l.filter (·.mouth)).length=m):ZT s 0 l=ZT (s % 2 ^ m) 0 l :=
 Uu fun j _ h2=>by
  rw [Nat.testBit_mod_two_pow]
  have:j < m:=by omega
  simp [this]
def Zbn (f:Nat->Int):Nat->Int
 | 0=>f 0
 | n+1=>min (Zbn f n) (f (n+1))
def ZbP (f:Nat->Int):Nat->Int
 | 0=>f 0
 | n+1=>max (ZbP f n) (f (n+1))
theorem Zln {f:Nat->Int}:∀ {n i:Nat},i<=n->Zbn f n<=f i
 | 0,i,h=>by
  have:i=0:=by omega
  subst this;exact Int.le_refl _
 | n+1,i,h=>by
  simp only [Zbn]
  by_cases hi:i=n+1
  . subst hi;omega
  . have:=Zln (f:=f) (n:=n) (i:=i) (by omega);omega
theorem ZjR {f:Nat->Int}:∀ {n i:Nat},i<=n->f i<=ZbP f n
 | 0,i,h=>by
  have:i=0:=by omega
  subst this;exact Int.le_refl _
 | n+1,i,h=>by
  simp only [ZbP]
  by_cases hi:i=n+1
  . subst hi;omega
  . have:=ZjR (f:=f) (n:=n) (i:=i) (by omega);omega
theorem ZkE {f:Nat->Int}:∀ {n:Nat},∃ i,i<=n/\f i=Zbn f n
 | 0=>⟨0,Nat.le_refl _,rfl⟩
 | n+1=>by
  obtain ⟨i,h1,h2⟩:=ZkE (f:=f) (n:=n)
  simp only [Zbn]
  by_cases h:Zbn f n<=f (n+1)
  . exact ⟨i,by omega,by omega⟩
  . exact ⟨n+1,Nat.le_refl _,by omega⟩
theorem Zhy {f:Nat->Int}:∀ {n:Nat},∃ i,i<=n/\f i=ZbP f n
 | 0=>⟨0,Nat.le_refl _,rfl⟩
 | n+1=>by
  obtain ⟨i,h1,h2⟩:=Zhy (f:=f) (n:=n)
  simp only [ZbP]
  by_cases h:f (n+1)<=ZbP f n
  . exact ⟨i,by omega,by omega⟩
  . exact ⟨n+1,Nat.le_refl _,by omega⟩
def Zq (p:Pact) (X:List Letter) (i set:Nat):Int:=(Yl p (ZT set 0 X)).getD i 0
def XM (p:Pact) (X:List Letter):List (Int × Int) :=
 (List.range p.partners.length).map fun i=>(Zbn (Zq p X i) (2 ^ (X.filter (·.mouth)).length - 1),ZbP (Zq p X i) (2 ^ (X.filter (·.mouth)).length - 1))
theorem Zqx {p:Pact} {X:List Letter} {i set:Nat}:Zbn (Zq p X i) (2 ^ (X.filter (·.mouth)).length - 1)<=Zq p X i set/\Zq p X i set<=ZbP (Zq p X i) (2 ^ (X.filter (·.mouth)).length - 1):=by
 have e:Zq p X i set=Zq p X i (set % 2 ^ (X.filter (·.mouth)).length):=by unfold Zq;rw [<- Zju rfl]
 have hlt:set % 2 ^ (X.filter (·.mouth)).length < 2 ^ (X.filter (·.mouth)).length:=Nat.mod_lt _ (Nat.two_pow_pos _)
 rw [e]
 exact ⟨Zln (by omega),ZjR (by omega)⟩
theorem Zma {p:Pact} {X:List Letter} {i:Nat}:(∃ set,set < 2 ^ (X.filter (·.mouth)).length/\Zq p X i set=Zbn (Zq p X i) (2 ^ (X.filter (·.mouth)).length - 1)) /\
 ∃ set,set < 2 ^ (X.filter (·.mouth)).length/\Zq p X i set=ZbP (Zq p X i) (2 ^ (X.filter (·.mouth)).length - 1):=by
 have hp:=Nat.two_pow_pos (X.filter (·.mouth)).length
 obtain ⟨a,h1,h2⟩:=ZkE (f:=Zq p X i) (n:=2 ^ (X.filter (·.mouth)).length - 1)
 obtain ⟨b,h3,h4⟩:=Zhy (f:=Zq p X i) (n:=2 ^ (X.filter (·.mouth)).length - 1)
 exact ⟨⟨a,by omega,h2⟩,b,by omega,h4⟩
def Wd {α : Type} (g:α->Bool):List α->Nat->Int
 | [],_=>-1
 | x :: l,k=>if g x then k else Wd g l (k+1)
theorem Zjs {α : Type} (g:α->Bool):∀ (l:List α) (k:Nat),decide (Wd g l k ≥ 0)=l.any g
 | [],k=>by simp [Wd]
 | x :: l,k=>by
  simp only [Wd,List.any_cons]
  by_cases hg:g x=true
  . simp [hg]
  . simpa [hg] using Zjs g l (k+1)
def YY (p:Pact):Prop:=p.partners.length<=1000
end Go.Azalai
namespace Go.Proofs.Ythilckbkffjliaa
open Go Go.Sx Go.Azalai
abbrev U8 (n:Int):SV:=.v (.int .u8 n)
def Zm (n:Int):List SV:=[I n]
def Za (x:Partner):List SV:=[I x.id,I x.put,I x.share]
def Zg (p:Pact):List SV:=[.sl false 3 (p.partners.map Za),I p.calf,I p.hire,I p.ends]
def Zb (x:Letter):List SV:=[I x.id,I x.day,U8 x.kind,I x.who,I x.other,I x.animal,I x.rials,B x.mouth]
theorem Zb3 {α : Type} (g:α->Bool) (l:List α):decide (Wd g l 0 ≥ 0)=l.any g:=Zjs g l 0
theorem idx81 (h:Nat) (caps:List SV) (hk:KFL caps) (g:Int->Bool) (l:List Int) (hg:∀ x ∈ l,Ct Try.prog h (I x :: caps) (B (g x))) (hl:l.length < 4611686018427387904) {c:Bool} :
 Ct Try.prog 81 [.sl c 1 (l.map Zm),.cl h caps] (I (Wd g l 0)):=by
 refine t81.1 ⟨by simp [KF,Zc,KFL,Zm],hk,trivial⟩ (by simp [KF]) ?_
 dsimp only [c81,r81,go_sem,rA,rM,rS]
 refine YM (fun k:Nat=>[(8,I k)]) (fun _=>[]) (fun k=>k<=l.length/\Wd g (l.drop k) k=Wd g l 0) (fun k=>l.length - k) 0 ⟨Nat.zero_le _,rfl⟩ ?_ ?_
 . (refine Zh ?_ ?_ ?_ rfl rfl<;>dsimp only [Zm,hk,id,go_sem,rA,rM,rS]<;>simp [Zm,hk,Zc,Zf,KFR,KFL,KF,Zd,mtO,nbr])
 . intro k ⟨hk',hi⟩
   dsimp only [go_sem,rA,rM,rS]
   refine br ?_ ?_
   . intro hlt
     have hlt:k < l.length:=by simpa using hlt
     dsimp only [go_sem,rA,rM,rS]
     refine ZQ k hlt rfl ?_
     dsimp only [Zm,go_sem,rA,rM,rS]
     refine call (hg l[k] (List.getElem_mem _)) ?_
     dsimp only [go_sem,rA,rM,rS]
     refine br ?_ ?_
     . intro hgx
       dsimp only [go_sem,rA,rM,rS]
       rw [<- hi,List.drop_eq_getElem_cons hlt]
       simp [Wd,hgx]
     . intro hgx
       dsimp only [go_sem,rA,rM,rS]
       refine ⟨k+1,⟨by omega,?_⟩,by omega,?_⟩
       . rw [<- hi,List.drop_eq_getElem_cons hlt];simp [Wd,hgx]
       . rw [Zk (by omega) (by omega)]
         (refine Zh ?_ ?_ ?_ rfl rfl<;>dsimp only [Zm,hk,id,go_sem,rA,rM,rS]<;>simp [Zm,hk,Zc,Zf,KFR,KFL,KF,Zd,mtO,nbr])
   . intro hlt
     have hlt:k=l.length:=by simp at hlt;omega
     dsimp only [go_sem,rA,rM,rS]
     rw [<- hi,hlt];simp [Wd]
theorem con61 (h:Nat) (caps:List SV) (hk:KFL caps) (g:Int->Bool) (l:List Int) (hg:∀ x ∈ l,Ct Try.prog h (I x :: caps) (B (g x))) (hl:l.length < 4611686018427387904) {c:Bool} :
 Ct Try.prog 61 [.sl c 1 (l.map Zm),.cl h caps] (B (l.any g)):=by
 refine t61.1 ⟨by simp [KF,Zc,KFL,Zm],hk,trivial⟩ (by simp [KF]) ?_
 dsimp only [c61,r61,go_sem,rA,rM,rS]
 refine call (idx81 h caps hk g l hg hl) ?_
 dsimp only [go_sem,rA,rM,rS]
 rw [Zb3]
theorem idx78 (h:Nat) (caps:List SV) (hk:KFL caps) (g:Partner->Bool) (l:List Partner) (hg:∀ x ∈ l,Ct Try.prog h (.agg (Za x) :: caps) (B (g x))) (hl:l.length < 4611686018427387904) {c:Bool} :
 Ct Try.prog 78 [.sl c 3 (l.map Za),.cl h caps] (I (Wd g l 0)):=by
 refine t78.1 ⟨by simp [KF,Zc,KFL,Za],hk,trivial⟩ (by simp [KF]) ?_
 dsimp only [c78,r78,go_sem,rA,rM,rS]
 refine YM (fun k:Nat=>[(8,I k)]) (fun _=>[]) (fun k=>k<=l.length/\Wd g (l.drop k) k=Wd g l 0) (fun k=>l.length - k) 0 ⟨Nat.zero_le _,rfl⟩ ?_ ?_
 . (refine Zh ?_ ?_ ?_ rfl rfl<;>dsimp only [Za,hk,id,go_sem,rA,rM,rS]<;>simp [Za,hk,Zc,Zf,KFR,KFL,KF,Zd,mtO,nbr])
 . intro k ⟨hk',hi⟩
   dsimp only [go_sem,rA,rM,rS]
   refine br ?_ ?_
   . intro hlt
     have hlt:k < l.length:=by simpa using hlt
     dsimp only [go_sem,rA,rM,rS]
     refine ZQ k hlt rfl ?_
     dsimp only [Za,go_sem,rA,rM,rS]
     refine call (hg l[k] (List.getElem_mem _)) ?_
     dsimp only [go_sem,rA,rM,rS]
     refine br ?_ ?_
     . intro hgx
       dsimp only [go_sem,rA,rM,rS]
       rw [<- hi,List.drop_eq_getElem_cons hlt]
       simp [Wd,hgx]
     . intro hgx
       dsimp only [go_sem,rA,rM,rS]
       refine ⟨k+1,⟨by omega,?_⟩,by omega,?_⟩
       . rw [<- hi,List.drop_eq_getElem_cons hlt];simp [Wd,hgx]
       . rw [Zk (by omega) (by omega)]
         (refine Zh ?_ ?_ ?_ rfl rfl<;>dsimp only [Za,hk,id,go_sem,rA,rM,rS]<;>simp [Za,hk,Zc,Zf,KFR,KFL,KF,Zd,mtO,nbr])
   . intro hlt
     have hlt:k=l.length:=by simp at hlt;omega
     dsimp only [go_sem,rA,rM,rS]
     rw [<- hi,hlt];simp [Wd]
theorem idx85 (h:Nat) (caps:List SV) (hk:KFL caps) (g:Letter->Bool) (l:List Letter) (hg:∀ x ∈ l,Ct Try.prog h (.agg (Zb x) :: caps) (B (g x))) (hl:l.length < 4611686018427387904) {c:Bool} :
 Ct Try.prog 85 [.sl c 8 (l.map Zb),.cl h caps] (I (Wd g l 0)):=by
 refine t85.1 ⟨by simp [KF,Zc,KFL,Zb],hk,trivial⟩ (by simp [KF]) ?_
 dsimp only [c85,r85,go_sem,rA,rM,rS]
 refine YM (fun k:Nat=>[(8,I k)]) (fun _=>[]) (fun k=>k<=l.length/\Wd g (l.drop k) k=Wd g l 0) (fun k=>l.length - k) 0 ⟨Nat.zero_le _,rfl⟩ ?_ ?_
 . (refine Zh ?_ ?_ ?_ rfl rfl<;>dsimp only [Zb,hk,id,go_sem,rA,rM,rS]<;>simp [Zb,hk,Zc,Zf,KFR,KFL,KF,Zd,mtO,nbr])
 . intro k ⟨hk',hi⟩
   dsimp only [go_sem,rA,rM,rS]
   refine br ?_ ?_
   . intro hlt
     have hlt:k < l.length:=by simpa using hlt
     dsimp only [go_sem,rA,rM,rS]
     refine ZQ k hlt rfl ?_
     dsimp only [Zb,go_sem,rA,rM,rS]
     refine call (hg l[k] (List.getElem_mem _)) ?_
     dsimp only [go_sem,rA,rM,rS]
     refine br ?_ ?_
     . intro hgx
       dsimp only [go_sem,rA,rM,rS]
       rw [<- hi,List.drop_eq_getElem_cons hlt]
       simp [Wd,hgx]
     . intro hgx
       dsimp only [go_sem,rA,rM,rS]
       refine ⟨k+1,⟨by omega,?_⟩,by omega,?_⟩
       . rw [<- hi,List.drop_eq_getElem_cons hlt];simp [Wd,hgx]
       . rw [Zk (by omega) (by omega)]
         (refine Zh ?_ ?_ ?_ rfl rfl<;>dsimp only [Zb,hk,id,go_sem,rA,rM,rS]<;>simp [Zb,hk,Zc,Zf,KFR,KFL,KF,Zd,mtO,nbr])
   . intro hlt
     have hlt:k=l.length:=by simp at hlt;omega
     dsimp only [go_sem,rA,rM,rS]
     rw [<- hi,hlt];simp [Wd]
theorem con64 (h:Nat) (caps:List SV) (hk:KFL caps) (g:Letter->Bool) (l:List Letter) (hg:∀ x ∈ l,Ct Try.prog h (.agg (Zb x) :: caps) (B (g x))) (hl:l.length < 4611686018427387904) {c:Bool} :
 Ct Try.prog 64 [.sl c 8 (l.map Zb),.cl h caps] (B (l.any g)):=by
 refine t64.1 ⟨by simp [KF,Zc,KFL,Zb],hk,trivial⟩ (by simp [KF]) ?_
 dsimp only [c64,r64,go_sem,rA,rM,rS]
 refine call (idx85 h caps hk g l hg hl) ?_
 dsimp only [go_sem,rA,rM,rS]
 rw [Zb3]
theorem Z4 (n lo hi:Int):Ct Try.prog 45 [I n,I lo,I hi] (B (inR lo hi n)):=by
 refine t45.1 (by simp [KFL,KF]) (by simp [KFL,KF]) ?_
 dsimp only [c45,r45,go_sem,rA,rM,rS]
 refine gb ?_;dsimp only [go_sem,rA,rM,rS]
 refine gb ?_;dsimp only [go_sem,rA,rM,rS]
 refine gb ?_;dsimp only [go_sem,rA,rM,rS]
 simp [inR]
theorem ZyO (lo hi x:Int):Ct Try.prog 62 [I x,.ps [I lo] 0,.ps [I hi] 0] (B (!inR lo hi x)):=by
 refine t62.1 (by simp [KFL,KF]) (by simp [KFL,KF]) ?_
 dsimp only [c62,r62,go_sem,rA,rM,rS]
 repeat (refine gb ?_;dsimp only [go_sem,rA,rM,rS])
 (simp only [inR,Option.some.injEq,SV.v.injEq,Value.bool.injEq]<;>grind)
theorem ZxL (lo hi:Int) (l:List Int) (hl:l.length < 4611686018427387904) (c:Bool):Ct Try.prog 42 [I lo,I hi,.sl c 1 (l.map Zm)] (B (l.all (inR lo hi))):=by
 refine t42.1 (by simp [Zc,Zm,KFL,KF]) (by simp [KFL,KF]) ?_
 dsimp only [c42,r42,go_sem,rA,rM,rS]
 refine Zbd (by simp [FLT]) (res:=B (l.any fun x=>!inR lo hi x)) ?_ ?_
 . dsimp only [go_sem,rA,rM,rS]
   exact con61 62 [.ps [I lo] 0,.ps [I hi] 0] (by simp [KFL,KF]) (fun x=>!inR lo hi x) l (fun x _=>ZyO lo hi x) hl
 . dsimp only [go_sem,rA,rM,rS]
   simp [List.all_eq_not_any_not]
theorem in1 (lo hi a:Int) (c:Bool):Ct Try.prog 42 [I lo,I hi,.sl c 1 [[I a]]] (B (inR lo hi a)):=by
 have:=ZxL lo hi [a] (by simp) c
 simpa [Zm] using this
theorem in4 (lo hi a b d e:Int) (c:Bool):Ct Try.prog 42 [I lo,I hi,.sl c 1 [[I a],[I b],[I d],[I e]]] (B (inR lo hi a && (inR lo hi b && (inR lo hi d && inR lo hi e)))):=by
 have:=ZxL lo hi [a,b,d,e] (by simp) c
 simpa [Zm] using this
def atF (p:Pact) (who:Int):Int:=Wd (fun x=>decide (x.id=who)) p.partners 0
theorem WO (p:Pact) (who:Int):decide (atF p who ≥ 0)=atP p who:=Zb3 _ _
theorem ZyU (x:Partner) (who:Int):Ct Try.prog 79 [.agg (Za x),.ps [I who] 0] (B (decide (x.id=who))):=by
 refine t79.1 (by simp [Za,KFL,KF]) (by simp [KFL,KF]) ?_
 dsimp only [c79,r79,Za,go_sem,rA,rM,rS]
 simp only [Option.some.injEq,SV.v.injEq,Value.bool.injEq]
 by_cases h:x.id=who<;>simp [h]
theorem Zvt (p:Pact) (who:Int) (hs:YY p):Ct Try.prog 54 [.agg (Zg p),I who] (I (atF p who)):=by
 refine t54.1 (by simp [Zg,Za,Zc,KFL,KF]) (by simp [KFL,KF]) ?_
 have:p.partners.length<=1000:=hs
 dsimp only [c54,r54,Zg,go_sem,rA,rM,rS]
 refine Zbd (by simp [FLT]) (res:=I (atF p who)) ?_ ?_
 . dsimp only [go_sem,rA,rM,rS]
   exact idx78 79 [.ps [I who] 0] (by simp [KFL,KF]) (fun x=>decide (x.id=who)) p.partners (fun x _=>ZyU x who) (by omega)
 . dsimp only [go_sem,rA,rM,rS]
theorem VO (p:Pact) (who:Int) (hs:YY p):Ct Try.prog 55 [.agg (Zg p),I who] (I (atF p who)):=by
 refine t55.1 (by simp [Zg,Za,Zc,KFL,KF]) (by simp [KFL,KF]) ?_
 have hs:p.partners.length<=1000:=hs
 dsimp only [c55,r55,Zg,go_sem,rA,rM,rS]
 refine YM (fun k:Nat=>[(5,I k)]) (fun _=>[]) (fun k=>k<=p.partners.length/\Wd (fun x=>decide (x.id=who)) (p.partners.drop k) k=atF p who) (fun k=>p.partners.length - k) 0 ⟨Nat.zero_le _,rfl⟩ ?_ ?_
 . (refine Zh ?_ ?_ ?_ rfl rfl<;>dsimp only [Zg,Za,id,go_sem,rA,rM,rS]<;>simp [Zg,Za,Zc,Zf,KFR,KFL,KF,Zd,mtO,nbr])
 rintro k ⟨hk,hi⟩
 dsimp only [go_sem,rA,rM,rS]
 simp only [List.length_map]
 by_cases hlt:k < p.partners.length
 . refine ZU (by simpa using hlt) ?_
   dsimp only [go_sem,rA,rM,rS]
   refine ZQ k hlt rfl ?_
   dsimp only [Za,go_sem,rA,rM,rS]
   rw [List.drop_eq_getElem_cons hlt] at hi
   by_cases hx:p.partners[k].id=who
   . refine ZU (by simpa using hx) ?_
     dsimp only [go_sem,rA,rM,rS]
     rw [<- hi];simp [Wd,hx]
   . refine ZH (by simpa using hx) ?_
     dsimp only [go_sem,rA,rM,rS]
     rw [Zk (n:=(k:Int)+1) (by omega) (by omega)]
     refine ⟨k+1,⟨hlt,by rw [<- hi];simp [Wd,hx]⟩,by omega,?_⟩
     (refine Zh ?_ ?_ ?_ rfl rfl<;>dsimp only [Zg,Za,id,go_sem,rA,rM,rS]<;>simp [Zg,Za,Zc,Zf,KFR,KFL,KF,Zd,mtO,nbr])
 . refine ZH (by simpa using hlt) ?_
   dsimp only [go_sem,rA,rM,rS]
   rw [<- hi,List.drop_eq_nil_of_le (by omega)];rfl
end Go.Proofs.Ythilckbkffjliaa
namespace Go.Azalai
def Zc6 (p:Pact):Int:=if ZK p=true then 0 else 80
structure PreP (p:Pact) (k:Nat) (last puts shares:Int):Prop where
 le:k<=p.partners.length
 ok:Yx (-1) p.partners=Yx last (p.partners.drop k)
 ps:puts=ZB ((p.partners.take k).map (·.put))
 ss:shares=ZB ((p.partners.take k).map (·.share))
 lb:-1<=last/\last<=9999
 pb:0<=puts/\puts<=k * 100000000
 sb:0<=shares/\shares<=k * 1000
theorem PreP.start (p:Pact):PreP p 0 (-1) 0 0:=⟨Nat.zero_le _,rfl,rfl,rfl,by omega,by omega,by omega⟩
theorem ZaW {α : Type} {f:α->Int} {l:List α} {k:Nat} (h:k < l.length):ZB ((l.take (k+1)).map f)=ZB ((l.take k).map f)+f l[k]:=by
 rw [List.take_succ_eq_append_getElem h,List.map_append,U3];simp [ZB]
theorem PreP.step {p:Pact} {k:Nat} {last puts shares:Int} (h:PreP p k last puts shares) (hk:k < p.partners.length) (ho:(inR (last+1) 9999 p.partners[k].id && inR 0 100000000 p.partners[k].put && inR 0 1000 p.partners[k].share)=true) :
 PreP p (k+1) p.partners[k].id (puts+p.partners[k].put) (shares+p.partners[k].share):=by
 have hl:=h.lb;have hp:=h.pb;have hs:=h.sb
 refine ⟨hk,?_,?_,?_,?_,?_,?_⟩
 . rw [h.ok,List.drop_eq_getElem_cons hk,Yx,ho,Bool.true_and]
 . rw [ZaW hk,h.ps]
 . rw [ZaW hk,h.ss]
 all_goals
  simp only [inR,Bool.and_eq_true,decide_eq_true_eq] at ho
  omega
theorem PreP.bad {p:Pact} {k:Nat} {last puts shares:Int} (h:PreP p k last puts shares) (hk:k < p.partners.length) (ho:(inR (last+1) 9999 p.partners[k].id && inR 0 100000000 p.partners[k].put && inR 0 1000 p.partners[k].share)=false):ZK p=false:=by
 have:Yx (-1) p.partners=false:=by rw [h.ok,List.drop_eq_getElem_cons hk,Yx,ho,Bool.false_and]
 simp [ZK,this]
theorem PreP.done {p:Pact} {k:Nat} {last puts shares:Int} (h:PreP p k last puts shares) (hk:k=p.partners.length):Yx (-1) p.partners=true/\puts=ZB (p.partners.map (·.put))/\shares=ZB (p.partners.map (·.share)):=by
 subst hk
 refine ⟨by rw [h.ok,List.drop_length];rfl,?_,?_⟩
 . rw [h.ps,List.take_length]
 . rw [h.ss,List.take_length]
end Go.Azalai
namespace Go.Proofs.Ythilckbkffjliaa
open Go Go.Sx Go.Azalai
theorem Ze0 (p:Pact) (hs:YY p):Ct Try.prog 20 [.agg (Zg p)] (I (Zc6 p)):=by
 refine t20.1 (by simp [Zg,Za,Zc,KFL,KF]) (by simp [KFL,KF]) ?_
 have hs:p.partners.length<=1000:=hs
 dsimp only [c20,r20,Zg,go_sem,rA,rM,rS]
 simp only [List.length_map]
 refine call (in1 1 8 _ _) ?_
 dsimp only [go_sem,rA,rM,rS]
 repeat (first | (refine gb ?_;dsimp only [go_sem,rA,rM,rS]) | (refine call (in1 0 1000 _ _) ?_;dsimp only [go_sem,rA,rM,rS]) | (refine call (in1 0 100000 _ _) ?_;dsimp only [go_sem,rA,rM,rS]))
 by_cases hall:(inR 1 8 p.partners.length && inR 0 1000 p.calf && inR 0 1000 p.hire && inR 0 100000 p.ends)=true
 case neg =>
  have hf:ZK p=false:=by
   rw [Bool.not_eq_true] at hall
   simp only [ZK,hall,Bool.false_and]
  refine ZU (by grind) ?_
  dsimp only [go_sem,rA,rM,rS]
  simp [Zc6,hf]
 refine ZH (by grind) ?_
 dsimp only [go_sem,rA,rM,rS]
 have h8:p.partners.length<=8:=by simp [inR] at hall;omega
 simp only [List.length_map]
 refine YM (fun s:Nat × Int × Int × Int=>[(38,I s.1),(3,I s.2.1),(4,I s.2.2.1),(5,I s.2.2.2)]) (fun _=>[]) (fun s=>PreP p s.1 s.2.1 s.2.2.1 s.2.2.2) (fun s=>p.partners.length - s.1) (0,-1,0,0) (.start p) ?_ ?_
 . (refine Zh ?_ ?_ ?_ rfl rfl<;>dsimp only [Zg,Za,id,go_sem,rA,rM,rS]<;>simp [Zg,Za,Zc,Zf,KFR,KFL,KF,Zd,mtO,nbr])
 rintro ⟨k,last,puts,shares⟩ hI
 simp only at hI
 have hle:=hI.le;have hlb:=hI.lb;have hpb:=hI.pb;have hsb:=hI.sb
 dsimp only [go_sem,rA,rM,rS]
 by_cases hlt:k < p.partners.length
 . refine ZU (by simpa using hlt) ?_
   dsimp only [go_sem,rA,rM,rS]
   refine ZQ k hlt rfl ?_
   dsimp only [Za,go_sem,rA,rM,rS]
   rw [Zk (n:=last+1) (by omega) (by omega)]
   refine call (in1 (last+1) 9999 _ _) ?_
   dsimp only [go_sem,rA,rM,rS]
   repeat (first | (refine gb ?_;dsimp only [go_sem,rA,rM,rS]) | (refine call (in1 0 100000000 _ _) ?_;dsimp only [go_sem,rA,rM,rS]) | (refine call (in1 0 1000 _ _) ?_;dsimp only [go_sem,rA,rM,rS]))
   by_cases ho:(inR (last+1) 9999 p.partners[k].id && inR 0 100000000 p.partners[k].put && inR 0 1000 p.partners[k].share)=true
   case neg =>
    rw [Bool.not_eq_true] at ho
    refine ZU (by grind) ?_
    dsimp only [go_sem,rA,rM,rS]
    simp [Zc6,hI.bad hlt ho]
   refine ZH (by grind) ?_
   dsimp only [go_sem,rA,rM,rS]
   have ho':=ho
   simp only [inR,Bool.and_eq_true,decide_eq_true_eq] at ho'
   rw [Zk (n:=puts+_) (by omega) (by omega),Zk (n:=shares+_) (by omega) (by omega),Zk (n:=(k:Int)+1) (by omega) (by omega)]
   refine ⟨(k+1,p.partners[k].id,puts+p.partners[k].put,shares+p.partners[k].share),hI.step hlt ho,by simp only;omega,?_⟩
   (refine Zh ?_ ?_ ?_ rfl rfl<;>dsimp only [Zg,Za,id,go_sem,rA,rM,rS]<;>simp [Zg,Za,Zc,Zf,KFR,KFL,KF,Zd,mtO,nbr])
 refine ZH (by simpa using hlt) ?_
 dsimp only [go_sem,rA,rM,rS]
 obtain ⟨d1,d2,d3⟩:=hI.done (by omega)
 repeat (refine gb ?_;dsimp only [go_sem,rA,rM,rS])
 simp only [Bool.and_eq_true] at hall
 by_cases h0:puts=0\/shares≠1000
 . refine ZU (by rcases h0 with h | h<;>simp [h]) ?_
   dsimp only [go_sem,rA,rM,rS]
   have:ZK p=false:=by
    rw [<- Bool.not_eq_true]
    simp only [ZK,Bool.and_eq_true,decide_eq_true_eq,<- d2,<- d3]
    omega
   simp [Zc6,this]
 . refine ZH (by simp;omega) ?_
   dsimp only [go_sem,rA,rM,rS]
   have:ZK p=true:=by
    simp only [ZK,Bool.and_eq_true,decide_eq_true_eq,<- d2,<- d3,d1,hall]
    simp;omega
   simp [Zc6,this]
theorem Zp2 (p:Pact) (hs:YY p):Ct Try.prog 44 [.agg (Zg p)] (B (ZK p)):=by
 refine t44.1 (by simp [Zg,Za,Zc,KFL,KF]) (by simp [KFL,KF]) ?_
 have hs:p.partners.length<=1000:=hs
 dsimp only [c44,r44,Zg,go_sem,rA,rM,rS]
 simp only [List.length_map]
 refine call (Z4 _ 1 8) ?_
 dsimp only [go_sem,rA,rM,rS]
 repeat (first | (refine gb ?_;dsimp only [go_sem,rA,rM,rS]) | (refine call (Z4 _ 0 1000) ?_;dsimp only [go_sem,rA,rM,rS]) | (refine call (Z4 _ 0 100000) ?_;dsimp only [go_sem,rA,rM,rS]))
 by_cases hall:(inR 1 8 p.partners.length && inR 0 1000 p.calf && inR 0 1000 p.hire && inR 0 100000 p.ends)=true
 case neg =>
  have hf:ZK p=false:=by
   rw [Bool.not_eq_true] at hall
   simp only [ZK,hall,Bool.false_and]
  refine ZU (by grind) ?_
  dsimp only [go_sem,rA,rM,rS]
  simp [hf]
 refine ZH (by grind) ?_
 dsimp only [go_sem,rA,rM,rS]
 have h8:p.partners.length<=8:=by simp [inR] at hall;omega
 refine YM (fun s:Nat × Int × Int=>[(5,I s.1),(3,I s.2.1),(4,I s.2.2)]) (fun _=>[]) (fun s=>PreP p s.1 (if h:0 < s.1/\s.1<=p.partners.length then (p.partners[s.1 - 1]'(by omega)).id else -1) s.2.1 s.2.2) (fun s=>p.partners.length - s.1) (0,0,0) (.start p) ?_ ?_
 . (refine Zh ?_ ?_ ?_ rfl rfl<;>dsimp only [Zg,Za,id,go_sem,rA,rM,rS]<;>simp [Zg,Za,Zc,Zf,KFR,KFL,KF,Zd,mtO,nbr])
 rintro ⟨k,puts,shares⟩ hI
 simp only at hI
 have hle:=hI.le;have hlb:=hI.lb;have hpb:=hI.pb;have hsb:=hI.sb
 dsimp only [go_sem,rA,rM,rS]
 simp only [List.length_map]
 by_cases hlt:k < p.partners.length
 . refine ZU (by simpa using hlt) ?_
   dsimp only [go_sem,rA,rM,rS]
   refine ZQ k hlt rfl ?_
   dsimp only [Za,go_sem,rA,rM,rS]
   refine call (Z4 _ 0 9999) ?_
   dsimp only [go_sem,rA,rM,rS]
   generalize hlast:(if h:0 < k/\k<=p.partners.length then (p.partners[k - 1]'(by omega)).id else -1)=last at *
   have hl0:k=0->last = -1:=fun h=>by rw [<- hlast,dif_neg (by omega)]
   have hl1:0 < k->last=(p.partners[k - 1]'(by omega)).id:=fun h=>by rw [<- hlast,dif_pos ⟨h,hle⟩]
   repeat (refine gb ?_;dsimp only [go_sem,rA,rM,rS])
   refine Zyg (k - 1) (Za (p.partners[k - 1]'(by omega))) rfl (fun h=>⟨(by have:(k:Int) > 0:=(by simpa using h);rw [Zk (by omega) (by omega)];omega),(by rw [List.getElem?_map,List.getElem?_eq_getElem (by omega)];rfl)⟩) ?_
   dsimp only [Za,go_sem,rA,rM,rS]
   repeat (first | (refine gb ?_;dsimp only [go_sem,rA,rM,rS]) | (refine call (Z4 _ 0 100000000) ?_;dsimp only [go_sem,rA,rM,rS]) | (refine call (Z4 _ 0 1000) ?_;dsimp only [go_sem,rA,rM,rS]))
   generalize hprev:(p.partners[k - 1]'(by omega)).id=prev at *
   by_cases ho:(inR (last+1) 9999 p.partners[k].id && inR 0 100000000 p.partners[k].put && inR 0 1000 p.partners[k].share)=true
   case neg =>
    rw [Bool.not_eq_true] at ho
    refine ZU ?_ ?_
    . rw [<- Bool.not_eq_false]
      intro hc
      rw [<- Bool.not_eq_true] at ho
      apply ho
      by_cases hk0:k=0
      . have:=hl0 hk0
        subst this
        simp only [inR,Bool.and_eq_true,decide_eq_true_eq] at hc ⊢
        grind
      . have:=hl1 (by omega)
        subst this
        simp only [inR,Bool.and_eq_true,decide_eq_true_eq] at hc ⊢
        grind
    dsimp only [go_sem,rA,rM,rS]
    simp [hI.bad hlt ho]
   refine ZH ?_ ?_
   . by_cases hk0:k=0
     . have:=hl0 hk0
       subst this
       simp only [inR,Bool.and_eq_true,decide_eq_true_eq] at ho ⊢
       grind
     . have:=hl1 (by omega)
       subst this
       simp only [inR,Bool.and_eq_true,decide_eq_true_eq] at ho ⊢
       grind
   dsimp only [go_sem,rA,rM,rS]
   have ho':=ho
   simp only [inR,Bool.and_eq_true,decide_eq_true_eq] at ho'
   rw [Zk (n:=puts+_) (by omega) (by omega),Zk (n:=shares+_) (by omega) (by omega),Zk (n:=(k:Int)+1) (by omega) (by omega)]
   refine ⟨(k+1,puts+p.partners[k].put,shares+p.partners[k].share),?_,by simp only;omega,?_⟩
   . have:=hI.step hlt ho
     simp only
     rw [dif_pos ⟨by omega,hlt⟩]
     simpa using this
   (refine Zh ?_ ?_ ?_ rfl rfl<;>dsimp only [Zg,Za,id,go_sem,rA,rM,rS]<;>simp [Zg,Za,Zc,Zf,KFR,KFL,KF,Zd,mtO,nbr])
 refine ZH (by simpa using hlt) ?_
 dsimp only [go_sem,rA,rM,rS]
 obtain ⟨d1,d2,d3⟩:=hI.done (by omega)
 repeat (refine gb ?_;dsimp only [go_sem,rA,rM,rS])
 simp only [Bool.and_eq_true] at hall
 have e0:decide (puts > 0)=decide (puts≠0):=by
  by_cases h:puts=0
  . simp [h]
  . have:puts > 0:=by omega
    simp [h,this]
 simp only [ZK,<- d2,<- d3,d1,hall,Bool.true_and,Bool.and_true]
 first | rw [<- e0] | skip
 by_cases h:shares=1000<;>simp [h]
theorem ZjA (p:Pact) (hs:YY p):Ct Try.prog 21 [.agg (Zg p)] (I (Zc6 p)):=by
 refine t21.1 (by simp [Zg,Za,Zc,KFL,KF]) (by simp [KFL,KF]) ?_
 dsimp only [c21,r21,Zg,go_sem,rA,rM,rS]
 refine call (Zp2 p hs) ?_
 dsimp only [go_sem,rA,rM,rS]
 by_cases h:ZK p=true
 . refine ZH (by simp [h]) ?_
   dsimp only [go_sem,rA,rM,rS]
   simp [Zc6,h]
 . refine ZU (by simp [h]) ?_
   dsimp only [go_sem,rA,rM,rS]
   simp [Zc6,h]
end Go.Proofs.Ythilckbkffjliaa
