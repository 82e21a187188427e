/- Walks and plain laws that lead to the given statement, part 8 of 10. -/
import Derived.Test.YthilckbkffjliaaQG
import Derived.Test.YthilckbkffjliaaProg
import Derived.Laws.BytesString
set_option maxRecDepth 100000
set_option maxHeartbeats 8000000
set_option linter.all false
open Nat renaming reduceAdd->rA,reduceMul->rM,reduceSub->rS,beq_refl->nbr
namespace Go.Proofs.Ythilckbkffjliaa
open Go Go.Sx
def c77:SC:=(sr1 [
 o1 4 (.box (.t 0) 0 24),
 o1 5 (.box (.t 1) 0 95),
 o1 8 (.alloc zv1 95)]
 (.seq (.regd [0,1,2,3,4,5,6,7,8,9,10] [
 .op (o1 10 (ao 4 2)),
 .op (p1 11 (lf 10 1) [0]),
 .op (m1 12 3),
 .op (o1 13 (ao 5 1)),
 .op (p1 14 (lf 13 1) [3]),
 .op (m1 15 2),
 .op (p1 16 (.ixs (.t 14) (.t 15) 1) [4,5]),
 .op (p1 17 (lf 16 1) [6]),
 .op (p1 18 (.bin .sub (.t 12) (.t 17)) [2,7]),
 .op (p1 19 (.bin .mul (.t 11) (.t 18)) [1,8]),
 .op (p1 9 (.mv (.t 19)) [0,1,2,3,4,5,6,7,8,9])] 0 0 [
])
 (sr1 [
 o1 20 (ao 5 4),
 o1 21 (lf 20 1),
 m1 22 9,
 o1 23 (.bin .sub (.t 21) (.t 22)),
 o1 24 (ao 5 4),
 ⟨none,.st (.t 24) (.t 23) 1,none,[]⟩]
 (.seq (.regd [0,1,2,3,4,5,6,7,8,9,10,11,12] [
 .op (o1 25 (ao 5 5)),
 .op (p1 26 (lf 25 1) [0]),
 .op (o1 27 (ao 5 0)),
 .op (p1 28 (lf 27 1) [2]),
 .op (m1 29 2),
 .op (p1 30 (.ixs (.t 28) (.t 29) 1) [3,4]),
 .op (p1 31 (lf 30 1) [5]),
 .op (p1 32 (.ixs (.t 26) (.t 31) 1) [1,6]),
 .op (p1 33 (lf 32 1) [7]),
 .op (m1 34 9),
 .op (p1 35 (.bin .add (.t 33) (.t 34)) [8,9]),
 .op (p1 36 (.ixs (.t 26) (.t 31) 1) [0,1,2,3,4,5,6,7,8,9,10])] 0 1 [
 ⟨none,.st (.t 36) (.t 35) 1,none,[0,1,2,3,4,5,6,7,8,9,10,11]⟩])
 (sr1 [
 o1 37 (ao 5 0),
 o1 38 (lf 37 1),
 m1 39 2,
 o1 40 (.ixs (.t 38) (.t 39) 1),
 ⟨none,.st (.t 40) (.c (.int .i64 (-1))) 1,none,[]⟩]
 (sr1 [
 o1 41 (lt 5 7),
 ⟨none,.st (.t 8) (.t 41) 7,none,[]⟩]
 .ret))))))
def r77:List RV:=[.cell 8 7 true]
theorem n77:Try.f77.ntmps=42:=by kernel_rfl
theorem b77:Z3 Try.prog 77=true:=by kernel_rfl
theorem Zy0:YJ Try.prog c77 ((Try.f77.body).getD .skip)=true:=by kernel_rfl
theorem ZAA:Y5 Try.prog r77 Try.f77.results.toList=true:=by kernel_rfl
theorem m77 {n0:Nat} {hp0:List (Nat × HB)} {args:List SV} {Zx:Ot->Prop} (hh:hpb n0 hp0) (hx:∀ o,Zx o->KX o.res/\KXP o.hp) (h:sx Try.prog Y0 n0 c77 ⟨Y2 0 args,hp0,n0,42,[]⟩ (WC r77 fun o=>∃ o',Zx o'/\WW n0 o o')) (hA:Nat.ble args.length 42=true:=by rfl):CtM Try.prog 77 hp0 n0 args Zx:=Zv Try.func77 rfl b77 Zy0 ZAA n77 (Nat.le_of_ble_eq_true hA) hh hx h
def ZjK:Ins:=o1 10 (.mks 1 8 [.int .i64 0] 3 (.c (.int .i64 10000)))
def Zii:Ins:=o1 11 (.mks 1 8 [.int .i64 0] 3 (.c (.int .i64 10000)))
def Zky:Ins:=o1 12 (.mks 1 1 [.bool false] 4 (.c (.int .i64 10000)))
def ZkL:Ins:=o1 13 (.mks 1 1 [.bool false] 4 (.c (.int .i64 10000)))
def Zk1:Ins:=m1 14 3
def Zjz:Ins:=⟨some 15,.mks 1 8 [.int .i64 0] 3 (.t 14),none,[4]⟩
def Zls:Ins:=⟨some 16,.build zv1 [(0,1,.t 10),(1,1,.t 11),(2,1,.t 12),(3,1,.t 13),(5,1,.t 15)],none,[0,1,2,3,5]⟩
def Zjf:Ins:=o1 4 (.alloc zv1 95)
def Zly:Ins:=⟨none,.st (.t 4) (.t 16) 7,none,[0,1,2,3,4,5,6,7]⟩
attribute [go_sem] ZjK Zii Zky ZkL Zk1 Zjz Zls Zjf Zly
def VQ:List Ins:=[ZjK,Zii,Zky,ZkL,Zk1,Zjz,Zls,Zjf,Zly]
def ZgA:Ins:=o1 30 (.addo (.t 4) 6)
def Zgh:Ins:=⟨some 31,.ld (.t 30) 1 false,none,[0]⟩
def Zli:Ins:=m1 32 3
def Ziu:Ins:=⟨some 33,.mks 1 8 [.int .i64 0] 3 (.t 32),none,[2]⟩
def Zlc:Ins:=⟨some 34,.bsl 1 27 [.t 33],none,[3]⟩
def ZvP:Ins:=⟨some 35,.raw (Go.Op.call { callee:=(Go.Callee.builtin Go.Builtin.append),args:=#[(Go.Operand.tmp 31),(Go.Operand.tmp 34)],argTypes:=#[93,93] }) 93,none,[1,4]⟩
def Ztt:Ins:=⟨some 36,.addo (.t 4) 6,none,[0,1,2,3,4,5]⟩
def ZuW:Ins:=⟨none,.st (.t 36) (.t 35) 1,none,[0,1,2,3,4,5,6]⟩
attribute [go_sem] ZgA Zgh Zli Ziu Zlc ZvP Ztt ZuW
def Zde:List Ins:=[ZgA,Zgh,Zli,Ziu,Zlc,ZvP,Ztt,ZuW]
def c74:SC:=(sr1 [
 o1 1 (.box (.t 0) 0 24),
 o1 2 (.alloc zv1 95)]
 (sr1 [
 o1 7 (ao 1 0),
 o1 8 (lf 7 1),
 o1 9 (.len (.t 8)),
 m1 3 9]
 (.seq (.gh (.regl VQ))
 (.seq (sr1 [
 o1 5 (.mv (cn 0))]
 (.block 0 (.loop (.seq (sr1 [
  m1 17 5,
  o1 18 (.bin .leq (.t 17) (cn 9999))]
  (.cond (.t 18)
  .skip
  (.exit 0)))
  (.seq (.block 1 (.reg [
   o1 21 (ao 4 0),
   o1 22 (lf 21 1),
   m1 23 5,
   o1 24 (.ixs (.t 22) (.t 23) 1),
   ⟨none,.st (.t 24) (.c (.int .i64 (-1))) 1,none,[]⟩]))
  (.reg [
  m1 19 5,
  o1 20 (.bin .add (.t 19) (cn 1)),
  m1 5 20]))))))
 (.gh (.seq (sr1 [
 o1 6 (.mv (cn 0))]
 (.block 2 (.loop (.seq (sr1 [
  m1 25 6,
  m1 26 3,
  o1 27 (.bin .lss (.t 25) (.t 26))]
  (.cond (.t 27)
  .skip
  (.exit 2)))
  (.seq (.block 3 (.gh (.regl Zde)))
  (.reg [
  m1 28 6,
  o1 29 (.bin .add (.t 28) (cn 1)),
  m1 6 29]))))))
 (.gh (sr1 [
 o1 37 (lt 4 7),
 ⟨none,.st (.t 2) (.t 37) 7,none,[]⟩]
 .ret))))))))
def r74:List RV:=[.cell 2 7 true]
theorem n74:Try.f74.ntmps=38:=by kernel_rfl
theorem b74:Z3 Try.prog 74=true:=by kernel_rfl
theorem ZyB:YJ Try.prog c74 ((Try.f74.body).getD .skip)=true:=by kernel_rfl
theorem ZzY:Y5 Try.prog r74 Try.f74.results.toList=true:=by kernel_rfl
theorem m74 {n0:Nat} {hp0:List (Nat × HB)} {args:List SV} {Zx:Ot->Prop} (hh:hpb n0 hp0) (hx:∀ o,Zx o->KX o.res/\KXP o.hp) (h:sx Try.prog Y0 n0 c74 ⟨Y2 0 args,hp0,n0,38,[]⟩ (WC r74 fun o=>∃ o',Zx o'/\WW n0 o o')) (hA:Nat.ble args.length 38=true:=by rfl):CtM Try.prog 74 hp0 n0 args Zx:=Zv Try.func74 rfl b74 ZyB ZzY n74 (Nat.le_of_ble_eq_true hA) hh hx h
def c75:SC:=(sr1 [
 o1 3 (.box (.t 0) 0 24),
 o1 4 (.box (.t 1) 0 95),
 o1 5 (.box (.t 2) 0 50),
 o1 6 (.mv (.c (.int .u8 0)))]
 (sr1 [
 o1 8 (ao 4 0),
 o1 9 (lf 8 1),
 o1 10 (ao 5 5),
 o1 11 (lf 10 1),
 o1 12 (.ixs (.t 9) (.t 11) 1),
 o1 13 (lf 12 1),
 o1 14 (.bin .geq (.t 13) (cn 0)),
 m1 7 14]
 (.seq (sr1 [
 o1 15 (ao 5 2),
 o1 16 (lf 15 1)]
 (.block 0 (sr1 [
  o1 18 (.bin .eql (.t 16) (.c (.int .u8 3))),
  m1 17 18]
  (.cond (.t 17)
  (.seq (sr1 [
   m1 19 7]
   (.cond (.t 19)
   (sr1 [
    o1 6 (.mv (.c (.int .u8 1)))]
    .ret)
   .skip))
   (sr1 [
   o1 20 (ao 4 2),
   o1 21 (lf 20 1),
   o1 22 (ao 5 5),
   o1 23 (lf 22 1),
   o1 24 (.ixs (.t 21) (.t 23) 1),
   o1 25 (lf 24 1)]
   (.cond (.t 25)
   (sr1 [
    o1 6 (.mv (.c (.int .u8 2)))]
    .ret)
   .skip)))
  (sr1 [
   o1 27 (.bin .eql (.t 16) (.c (.int .u8 4))),
   m1 26 27]
   (.cond (.t 26)
   (sr1 [
    m1 28 7,
    o1 29 (.un .not (.t 28))]
    (.cond (.t 29)
    (sr1 [
     o1 6 (.mv (.c (.int .u8 3)))]
     .ret)
    .skip))
   (sr1 [
    o1 31 (.bin .eql (.t 16) (.c (.int .u8 5))),
    m1 30 31]
    (.cond (.t 30)
    (.seq (sr1 [
     o1 32 (ao 4 2),
     o1 33 (lf 32 1),
     o1 34 (ao 5 5),
     o1 35 (lf 34 1),
     o1 36 (.ixs (.t 33) (.t 35) 1),
     o1 37 (lf 36 1)]
     (.cond (.t 37)
     (sr1 [
      o1 6 (.mv (.c (.int .u8 2)))]
      .ret)
     .skip))
     (sr1 [
     m1 38 7,
     o1 39 (.un .not (.t 38))]
     (.cond (.t 39)
     (sr1 [
      o1 6 (.mv (.c (.int .u8 3)))]
      .ret)
     .skip)))
    (sr1 [
     o1 41 (.bin .eql (.t 16) (.c (.int .u8 6))),
     m1 40 41]
     (.cond (.t 40)
     (.seq (sr1 [
      o1 42 (ao 4 3),
      o1 43 (lf 42 1),
      o1 44 (ao 5 4),
      o1 45 (lf 44 1),
      o1 46 (.ixs (.t 43) (.t 45) 1),
      o1 47 (lf 46 1)]
      (.cond (.t 47)
      (sr1 [
       o1 6 (.mv (.c (.int .u8 4)))]
       .ret)
      .skip))
      (sr1 [
      m1 48 7,
      o1 49 (.un .not (.t 48))]
      (.cond (.t 49)
      (sr1 [
       o1 6 (.mv (.c (.int .u8 3)))]
       .ret)
      .skip)))
     (sr1 [
      o1 51 (.bin .eql (.t 16) (.c (.int .u8 8))),
      m1 50 51]
      (.cond (.t 50)
      (.seq (.regd [0,1,2,3,4,5,6,7,8,9,10,11,12,13,14,15,16] [
       .op (o1 52 (ao 4 6)),
       .op (p1 53 (lf 52 1) [0]),
       .op (o1 54 (lt 3 4)),
       .op (o1 55 (ao 5 3)),
       .op (p1 56 (lf 55 1) [3]),
       .op (p1 57 (.call 55 [.t 54,.t 56]) [2,4]),
       .op (p1 58 (.ixs (.t 53) (.t 57) 1) [1,5]),
       .op (p1 59 (lf 58 1) [6]),
       .op (o1 60 (lt 3 4)),
       .op (o1 61 (ao 5 4)),
       .op (p1 62 (lf 61 1) [9]),
       .op (p1 63 (.call 55 [.t 60,.t 62]) [5,8,10]),
       .op (p1 64 (.ixs (.t 59) (.t 63) 1) [7,11]),
       .op (p1 65 (lf 64 1) [12]),
       .op (o1 66 (ao 5 6)),
       .op (p1 67 (lf 66 1) [14]),
       .op (p1 68 (.bin .lss (.t 65) (.t 67)) [13,15])] 0 0 [
])
 (.cond (.t 68)
 (sr1 [
  o1 6 (.mv (.c (.int .u8 5)))]
  .ret)
 .skip))
 .skip))))))))))))
 (sr1 [
 o1 6 (.mv (.c (.int .u8 0)))]
 .ret))))
def r75:List RV:=[.tmp 6]
theorem t75:Qt1 Try.prog 75 c75 r75 69:=XN Try.func75 rfl (by kernel_rfl) (by kernel_rfl) (by kernel_rfl) (by kernel_rfl)
def c76:SC:=(sr1 [
 o1 3 (.box (.t 0) 0 24),
 o1 4 (.box (.t 1) 0 95),
 o1 5 (.box (.t 2) 0 50),
 o1 6 (.alloc zv1 95)]
 (.seq (sr1 [
 o1 8 (ao 5 2),
 o1 9 (lf 8 1)]
 (.block 0 (sr1 [
  o1 11 (.bin .eql (.t 9) (.c (.int .u8 1))),
  m1 10 11]
  (.cond (.t 10)
  (.reg [
   o1 12 (ao 4 4),
   o1 13 (lf 12 1),
   o1 14 (ao 5 6),
   o1 15 (lf 14 1),
   o1 16 (.bin .add (.t 13) (.t 15)),
   o1 17 (ao 4 4),
   ⟨none,.st (.t 17) (.t 16) 1,none,[]⟩])
  (sr1 [
   o1 19 (.bin .eql (.t 9) (.c (.int .u8 2))),
   m1 18 19]
   (.cond (.t 18)
   (.reg [
    o1 20 (ao 4 4),
    o1 21 (lf 20 1),
    o1 22 (ao 5 6),
    o1 23 (lf 22 1),
    o1 24 (.bin .sub (.t 21) (.t 23)),
    o1 25 (ao 4 4),
    ⟨none,.st (.t 25) (.t 24) 1,none,[]⟩])
   (sr1 [
    o1 27 (.bin .eql (.t 9) (.c (.int .u8 3))),
    m1 26 27]
    (.cond (.t 26)
    (.regd [0,1,2,3,8,9,10,11,14,4,5,6,7,12,13,15,16,17] [
     .op (o1 28 (ao 4 0)),
     .op (p1 29 (lf 28 1) [0]),
     .op (o1 30 (ao 5 5)),
     .op (p1 31 (lf 30 1) [2]),
     .op (o1 36 (lt 3 4)),
     .op (o1 37 (ao 5 3)),
     .op (p1 38 (lf 37 1) [9]),
     .op (p1 39 (.call 55 [.t 36,.t 38]) [8,10]),
     .op (p1 42 (.ixs (.t 29) (.t 31) 1) [0,1,2,3,8,9,10,11]),
     .hide (.t 42),
     .op (o1 32 (ao 4 1)),
     .op (p1 33 (lf 32 1) [4]),
     .op (o1 34 (ao 5 5)),
     .op (p1 35 (lf 34 1) [6]),
     .op (o1 40 (ao 5 1)),
     .op (p1 41 (lf 40 1) [12])] 0 1 [
     ⟨none,.st (.t 42) (.t 39) 1,none,[0,1,2,3,8,9,10,11,14]⟩,
     ⟨some 43,.ixs (.t 33) (.t 35) 1,none,[0,1,2,3,4,5,6,7,8,9,10,11,12,13,14,15]⟩,
     ⟨none,.st (.t 43) (.t 41) 1,none,[0,1,2,3,4,5,6,7,8,9,10,11,12,13,14,15,16]⟩])
    (sr1 [
     o1 45 (.bin .eql (.t 9) (.c (.int .u8 4))),
     m1 44 45]
     (.cond (.t 44)
     (.reg [
      o1 46 (lt 3 4),
      o1 47 (lt 4 7),
      o1 48 (ao 5 5),
      o1 49 (lf 48 1),
      o1 50 (ao 5 1),
      o1 51 (lf 50 1),
      o1 52 (.callm 77 [.t 46,.t 47,.t 49,.t 51]),
      ⟨none,.st (.t 4) (.t 52) 7,none,[]⟩])
     (sr1 [
      o1 54 (.bin .eql (.t 9) (.c (.int .u8 5))),
      m1 53 54]
      (.cond (.t 53)
      (sr1 [
       o1 55 (lt 3 4),
       o1 56 (lt 4 7),
       o1 57 (ao 5 5),
       o1 58 (lf 57 1),
       o1 59 (ao 5 1),
       o1 60 (lf 59 1),
       o1 61 (.callm 77 [.t 55,.t 56,.t 58,.t 60]),
       ⟨none,.st (.t 4) (.t 61) 7,none,[]⟩]
       (.reg [
       o1 62 (ao 4 2),
       o1 63 (lf 62 1),
       o1 64 (ao 5 5),
       o1 65 (lf 64 1),
       o1 66 (.ixs (.t 63) (.t 65) 1),
       ⟨none,.st (.t 66) (.c (.bool true)) 1,none,[]⟩]))
      (sr1 [
       o1 68 (.bin .eql (.t 9) (.c (.int .u8 6))),
       m1 67 68]
       (.cond (.t 67)
       (sr1 [
        o1 69 (ao 5 6),
        o1 70 (lf 69 1),
        o1 71 (ao 3 1),
        o1 72 (lf 71 1),
        o1 73 (.bin .mul (.t 70) (.t 72)),
        o1 74 (.div .quo (.t 73) (cn 1000)),
        m1 7 74]
        (.seq (.regd [0,1,2,3,4,5,6,7,8,9,10,11,12,13] [
        .op (o1 75 (ao 4 5)),
        .op (p1 76 (lf 75 1) [0]),
        .op (o1 77 (ao 4 0)),
        .op (p1 78 (lf 77 1) [2]),
        .op (o1 79 (ao 5 5)),
        .op (p1 80 (lf 79 1) [4]),
        .op (p1 81 (.ixs (.t 78) (.t 80) 1) [3,5]),
        .op (p1 82 (lf 81 1) [6]),
        .op (p1 83 (.ixs (.t 76) (.t 82) 1) [1,7]),
        .op (p1 84 (lf 83 1) [8]),
        .op (m1 85 7),
        .op (p1 86 (.bin .add (.t 84) (.t 85)) [9,10]),
        .op (p1 87 (.ixs (.t 76) (.t 82) 1) [0,1,2,3,4,5,6,7,8,9,10,11])] 0 1 [
        ⟨none,.st (.t 87) (.t 86) 1,none,[0,1,2,3,4,5,6,7,8,9,10,11,12]⟩])
        (sr1 [
        o1 88 (ao 4 4),
        o1 89 (lf 88 1),
        o1 90 (ao 5 6),
        o1 91 (lf 90 1),
        m1 92 7,
        o1 93 (.bin .sub (.t 91) (.t 92)),
        o1 94 (.bin .add (.t 89) (.t 93)),
        o1 95 (ao 4 4),
        ⟨none,.st (.t 95) (.t 94) 1,none,[]⟩]
        (.reg [
        o1 96 (ao 4 3),
        o1 97 (lf 96 1),
        o1 98 (ao 5 4),
        o1 99 (lf 98 1),
        o1 100 (.ixs (.t 97) (.t 99) 1),
        ⟨none,.st (.t 100) (.c (.bool true)) 1,none,[]⟩]))))
       (sr1 [
        o1 102 (.bin .eql (.t 9) (.c (.int .u8 7))),
        m1 101 102]
        (.cond (.t 101)
        (.regd [0,1,2,3,4,5,6,7,8,9,10,11,12,13,14,15,16,17,18] [
         .op (o1 103 (ao 4 6)),
         .op (p1 104 (lf 103 1) [0]),
         .op (o1 105 (lt 3 4)),
         .op (o1 106 (ao 5 3)),
         .op (p1 107 (lf 106 1) [3]),
         .op (p1 108 (.call 55 [.t 105,.t 107]) [2,4]),
         .op (p1 109 (.ixs (.t 104) (.t 108) 1) [1,5]),
         .op (p1 110 (lf 109 1) [6]),
         .op (o1 111 (lt 3 4)),
         .op (o1 112 (ao 5 4)),
         .op (p1 113 (lf 112 1) [9]),
         .op (p1 114 (.call 55 [.t 111,.t 113]) [5,8,10]),
         .op (p1 115 (.ixs (.t 110) (.t 114) 1) [7,11]),
         .op (p1 116 (lf 115 1) [12]),
         .op (o1 117 (ao 5 6)),
         .op (p1 118 (lf 117 1) [14]),
         .op (p1 119 (.bin .add (.t 116) (.t 118)) [13,15]),
         .op (p1 120 (.ixs (.t 110) (.t 114) 1) [0,1,2,3,4,5,6,7,8,9,10,11,12,13,14,15,16])] 0 1 [
         ⟨none,.st (.t 120) (.t 119) 1,none,[0,1,2,3,4,5,6,7,8,9,10,11,12,13,14,15,16,17]⟩])
        (sr1 [
         o1 122 (.bin .eql (.t 9) (.c (.int .u8 8))),
         m1 121 122]
         (.cond (.t 121)
         (.regd [0,1,2,3,4,5,6,7,8,9,10,11,12,13,14,15,16,17,18] [
          .op (o1 123 (ao 4 6)),
          .op (p1 124 (lf 123 1) [0]),
          .op (o1 125 (lt 3 4)),
          .op (o1 126 (ao 5 3)),
          .op (p1 127 (lf 126 1) [3]),
          .op (p1 128 (.call 55 [.t 125,.t 127]) [2,4]),
          .op (p1 129 (.ixs (.t 124) (.t 128) 1) [1,5]),
          .op (p1 130 (lf 129 1) [6]),
          .op (o1 131 (lt 3 4)),
          .op (o1 132 (ao 5 4)),
          .op (p1 133 (lf 132 1) [9]),
          .op (p1 134 (.call 55 [.t 131,.t 133]) [5,8,10]),
          .op (p1 135 (.ixs (.t 130) (.t 134) 1) [7,11]),
          .op (p1 136 (lf 135 1) [12]),
          .op (o1 137 (ao 5 6)),
          .op (p1 138 (lf 137 1) [14]),
          .op (p1 139 (.bin .sub (.t 136) (.t 138)) [13,15]),
          .op (p1 140 (.ixs (.t 130) (.t 134) 1) [0,1,2,3,4,5,6,7,8,9,10,11,12,13,14,15,16])] 0 1 [
          ⟨none,.st (.t 140) (.t 139) 1,none,[0,1,2,3,4,5,6,7,8,9,10,11,12,13,14,15,16,17]⟩])
         .skip))))))))))))))))))
 (sr1 [
 o1 141 (lt 4 7),
 ⟨none,.st (.t 6) (.t 141) 7,none,[]⟩]
 .ret)))
def r76:List RV:=[.cell 6 7 true]
theorem n76:Try.f76.ntmps=142:=by kernel_rfl
theorem b76:Z3 Try.prog 76=true:=by kernel_rfl
theorem ZzQ:YJ Try.prog c76 ((Try.f76.body).getD .skip)=true:=by kernel_rfl
theorem Zzh:Y5 Try.prog r76 Try.f76.results.toList=true:=by kernel_rfl
theorem m76 {n0:Nat} {hp0:List (Nat × HB)} {args:List SV} {Zx:Ot->Prop} (hh:hpb n0 hp0) (hx:∀ o,Zx o->KX o.res/\KXP o.hp) (h:sx Try.prog Y0 n0 c76 ⟨Y2 0 args,hp0,n0,142,[]⟩ (WC r76 fun o=>∃ o',Zx o'/\WW n0 o o')) (hA:Nat.ble args.length 142=true:=by rfl):CtM Try.prog 76 hp0 n0 args Zx:=Zv Try.func76 rfl b76 ZzQ Zzh n76 (Nat.le_of_ble_eq_true hA) hh hx h
def c53:SC:=(sr1 [
 o1 2 (.box (.t 0) 0 24),
 o1 4 (.alloc zv1 95),
 o1 5 (.mv (.c (.slice none 0 0)))]
 (sr1 [
 o1 11 (lt 2 4),
 o1 12 (.callm 74 [.t 11]),
 o1 6 (.alloc zv1 95),
 ⟨none,.st (.t 6) (.t 12) 7,none,[]⟩]
 (.gh (sr1 [
 o1 7 (.mv (.c (.slice none 0 0)))]
 (.seq (sr1 [
 o1 8 (.mv (cn 0))]
 (.block 0 (.loop (.seq (sr1 [
  m1 13 8,
  m1 14 1,
  o1 15 (.len (.t 14)),
  o1 16 (.bin .lss (.t 13) (.t 15))]
  (.cond (.t 16)
  .skip
  (.exit 0)))
  (.seq (.block 1 (.seq (.regd [0,1,2,3,4,5,6,7] [
   .op (o1 19 (lt 2 4)),
   .op (o1 20 (lt 6 7)),
   .op (m1 21 1),
   .op (m1 22 8),
   .op (p1 23 (.ixs (.t 21) (.t 22) 8) [2,3]),
   .op (p1 24 (lt 23 8) [4]),
   .op (p1 25 (.call 75 [.t 19,.t 20,.t 24]) [0,1,5]),
   .op (p1 9 (.mv (.t 25)) [0,1,2,3,4,5,6])] 0 0 [
])
 (sr1 [
 m1 26 7,
 m1 27 9,
 o1 28 (.bsl 1 5 [.t 27]),
 o1 29 (.appm 1 1 5 (.t 26) (.t 28)),
 m1 7 29]
 (sr1 [
 m1 30 9,
 o1 31 (.bin .eql (.t 30) (.c (.int .u8 0)))]
 (.cond (.t 31)
 (.regd [0,1,2,3,4,5,6,7] [
  .op (o1 32 (lt 2 4)),
  .op (o1 33 (lt 6 7)),
  .op (m1 34 1),
  .op (m1 35 8),
  .op (p1 36 (.ixs (.t 34) (.t 35) 8) [2,3]),
  .op (p1 37 (lt 36 8) [4])] 0 0 [
  ⟨some 38,.callm 76 [.t 32,.t 33,.t 37],none,[0,1,5]⟩,
  ⟨none,.st (.t 6) (.t 38) 7,none,[0,1,2,3,4,5,6]⟩])
 .skip)))))
 (.reg [
 m1 17 8,
 o1 18 (.bin .add (.t 17) (cn 1)),
 m1 8 18]))))))
 (.gh (.seq (sr1 [
 o1 10 (.mv (cn 0))]
 (.block 2 (.loop (.seq (sr1 [
  m1 39 10,
  o1 40 (.bin .leq (.t 39) (cn 9999))]
  (.cond (.t 40)
  .skip
  (.exit 2)))
  (.seq (.block 3 (sr1 [
   o1 43 (ao 6 0),
   o1 44 (lf 43 1),
   m1 45 10,
   o1 46 (.ixs (.t 44) (.t 45) 1),
   o1 47 (lf 46 1),
   o1 48 (.bin .geq (.t 47) (cn 0))]
   (.cond (.t 48)
   (.reg [
    o1 49 (lt 2 4),
    o1 50 (lt 6 7),
    m1 51 10,
    o1 52 (ao 2 3),
    o1 53 (lf 52 1),
    o1 54 (.callm 77 [.t 49,.t 50,.t 51,.t 53]),
    ⟨none,.st (.t 6) (.t 54) 7,none,[]⟩])
   .skip)))
  (.reg [
  m1 41 10,
  o1 42 (.bin .add (.t 41) (cn 1)),
  m1 10 42]))))))
 (.gh (sr1 [
 o1 55 (lt 6 7),
 m1 56 7,
 ⟨none,.st (.t 4) (.t 55) 7,none,[]⟩,
 m1 5 56]
 .ret)))))))))
def r53:List RV:=[.cell 4 7 true,.tmp 5]
theorem n53:Try.f53.ntmps=57:=by kernel_rfl
theorem b53:Z3 Try.prog 53=true:=by kernel_rfl
theorem ZyZ:YJ Try.prog c53 ((Try.f53.body).getD .skip)=true:=by kernel_rfl
theorem Zx5:Y5 Try.prog r53 Try.f53.results.toList=true:=by kernel_rfl
def c52:SC:=(sr1 [
 o1 2 (.box (.t 0) 0 24),
 o1 4 (.mv (.c (.slice none 0 0)))]
 (sr1 [
 o1 5 (.mv (.c (.slice none 0 0)))]
 (.seq (sr1 [
 o1 6 (.mv (cn 0))]
 (.block 0 (.loop (.seq (sr1 [
  m1 10 6,
  m1 11 1,
  o1 12 (.len (.t 11)),
  o1 13 (.bin .lss (.t 10) (.t 12))]
  (.cond (.t 13)
  .skip
  (.exit 0)))
  (.seq (.block 1 (.seq (.regd [0,1,2,3,4,5,6,7,8] [
   .op (m1 16 1),
   .op (m1 17 6),
   .op (p1 18 (.ixs (.t 16) (.t 17) 8) [0,1]),
   .op (p1 19 (ao 18 1) [2]),
   .op (p1 20 (lf 19 1) [3]),
   .op (o1 21 (ao 2 3)),
   .op (p1 22 (lf 21 1) [5]),
   .op (p1 23 (.bin .gtr (.t 20) (.t 22)) [4,6]),
   .op (p1 7 (.mv (.t 23)) [0,1,2,3,4,5,6,7])] 0 0 [
])
 (.seq (sr1 [
 o1 8 (.mv (cn 0))]
 (.block 2 (.loop (.seq (sr1 [
  m1 24 8,
  m1 25 6,
  o1 26 (.bin .lss (.t 24) (.t 25))]
  (.cond (.t 26)
  .skip
  (.exit 2)))
  (.seq (.block 3 (.regd [0,1,2,3,4,5,6,7,8,9,10,11,12,13,14] [
   .op (m1 29 7),
   .op (p1 30 (.mv (.t 29)) [0]),
   .op (q1 31 30 false (.mv (.t 1)) [1]),
   .op (q1 32 30 false (.mv (.t 8)) [1]),
   .op (q1 33 30 false (.ixs (.t 31) (.t 32) 8) [1,2,3]),
   .op (q1 34 30 false (ao 33 0) [1,4]),
   .op (q1 35 30 false (lf 34 1) [1,5]),
   .op (q1 36 30 false (.mv (.t 1)) [1]),
   .op (q1 37 30 false (.mv (.t 6)) [1]),
   .op (q1 38 30 false (.ixs (.t 36) (.t 37) 8) [1,7,8]),
   .op (q1 39 30 false (ao 38 0) [1,9]),
   .op (q1 40 30 false (lf 39 1) [1,10]),
   .op (q1 41 30 false (.bin .eql (.t 35) (.t 40)) [1,6,11]),
   .op (p1 42 (.pick (.t 30) (.c (.bool true)) (.t 41)) [1,12])] 0 0 [
   ⟨some 7,.mv (.t 42),none,[0,1,2,3,4,5,6,7,8,9,10,11,12,13]⟩]))
  (.reg [
  m1 27 8,
  o1 28 (.bin .add (.t 27) (cn 1)),
  m1 8 28]))))))
 (.gh (.seq (sr1 [
 m1 43 7]
 (.cond (.t 43)
 (.exit 1)
 .skip))
 (sr1 [
 m1 44 5,
 m1 45 1,
 m1 46 6,
 o1 47 (.ixs (.t 45) (.t 46) 8),
 o1 48 (lt 47 8),
 o1 49 (.bsl 8 50 [.t 48]),
 o1 50 (.appm 8 64 50 (.t 44) (.t 49)),
 m1 5 50]
 (sr1 [
 m1 51 5,
 o1 52 (.len (.t 51)),
 o1 53 (.bin .sub (.t 52) (cn 1)),
 m1 9 53]
 (.block 4 (.loop (.seq (.seq (.regd [0,1,2,3,4,5,6,7,8,9,10,11,12,13,14,15,16,17,18,19,20,21,22,23,24,25,26,27,28,29,30,31,32,33,34,35,36,37,38,39,40,41,42,43] [
  .op (m1 54 9),
  .op (p1 55 (.bin .gtr (.t 54) (cn 0)) [0]),
  .op (p1 56 (.mv (.t 55)) [1]),
  .op (q1 57 56 true (.mv (.t 5)) [2]),
  .op (q1 58 56 true (.mv (.t 9)) [2]),
  .op (q1 59 56 true (.ixs (.t 57) (.t 58) 8) [2,3,4]),
  .op (q1 60 56 true (ao 59 1) [2,5]),
  .op (q1 61 56 true (lf 60 1) [2,6]),
  .op (q1 62 56 true (.mv (.t 5)) [2]),
  .op (q1 63 56 true (.mv (.t 9)) [2]),
  .op (q1 64 56 true (.bin .sub (.t 63) (cn 1)) [2,9]),
  .op (q1 65 56 true (.ixs (.t 62) (.t 64) 8) [2,8,10]),
  .op (q1 66 56 true (ao 65 1) [2,11]),
  .op (q1 67 56 true (lf 66 1) [2,12]),
  .op (q1 68 56 true (.bin .lss (.t 61) (.t 67)) [2,7,13]),
  .op (q1 69 56 true (.mv (.t 68)) [2,14]),
  .op (q1 70 69 false (.mv (.t 5)) [15]),
  .op (q1 71 69 false (.mv (.t 9)) [15]),
  .op (q1 72 69 false (.ixs (.t 70) (.t 71) 8) [15,16,17]),
  .op (q1 73 69 false (ao 72 1) [15,18]),
  .op (q1 74 69 false (lf 73 1) [15,19]),
  .op (q1 75 69 false (.mv (.t 5)) [15]),
  .op (q1 76 69 false (.mv (.t 9)) [15]),
  .op (q1 77 69 false (.bin .sub (.t 76) (cn 1)) [15,22]),
  .op (q1 78 69 false (.ixs (.t 75) (.t 77) 8) [15,21,23]),
  .op (q1 79 69 false (ao 78 1) [15,24]),
  .op (q1 80 69 false (lf 79 1) [15,25]),
  .op (q1 81 69 false (.bin .eql (.t 74) (.t 80)) [15,20,26]),
  .op (q1 82 69 false (.mv (.t 81)) [15,27]),
  .op (q1 83 82 true (.mv (.t 5)) [28]),
  .op (q1 84 82 true (.mv (.t 9)) [28]),
  .op (q1 85 82 true (.ixs (.t 83) (.t 84) 8) [28,29,30]),
  .op (q1 86 82 true (ao 85 0) [28,31]),
  .op (q1 87 82 true (lf 86 1) [28,32]),
  .op (q1 88 82 true (.mv (.t 5)) [28]),
  .op (q1 89 82 true (.mv (.t 9)) [28]),
  .op (q1 90 82 true (.bin .sub (.t 89) (cn 1)) [28,35]),
  .op (q1 91 82 true (.ixs (.t 88) (.t 90) 8) [28,34,36]),
  .op (q1 92 82 true (ao 91 0) [28,37]),
  .op (q1 93 82 true (lf 92 1) [28,38]),
  .op (q1 94 82 true (.bin .lss (.t 87) (.t 93)) [28,33,39]),
  .op (q1 95 69 false (.pick (.t 82) (.t 94) (.c (.bool false))) [15,28,40]),
  .op (q1 96 56 true (.pick (.t 69) (.c (.bool true)) (.t 95)) [2,15,41]),
  .op (p1 97 (.pick (.t 56) (.t 96) (.c (.bool false))) [2,42])] 0 0 [
])
 (.cond (.t 97)
 .skip
 (.exit 4)))
 (.seq (.block 5 (.regd [0,1,5,6,7,8,9,10,11,12,13,14,2,3,4,15,16,17] [
  .op (m1 100 5),
  .op (m1 101 9),
  .op (m1 105 5),
  .op (m1 106 9),
  .op (p1 107 (.bin .sub (.t 106) (cn 1)) [6]),
  .op (p1 108 (.ixs (.t 105) (.t 107) 8) [5,7]),
  .op (p1 109 (lt 108 8) [8]),
  .op (m1 110 5),
  .op (m1 111 9),
  .op (p1 112 (.ixs (.t 110) (.t 111) 8) [10,11]),
  .op (p1 113 (lt 112 8) [12]),
  .op (p1 114 (.ixs (.t 100) (.t 101) 8) [0,1,5,6,7,8,9,13]),
  .hide (.t 114),
  .op (m1 102 5),
  .op (m1 103 9),
  .op (p1 104 (.bin .sub (.t 103) (cn 1)) [3])] 0 1 [
  ⟨none,.st (.t 114) (.t 109) 8,none,[0,1,5,6,7,8,9,13,14]⟩,
  ⟨some 115,.ixs (.t 102) (.t 104) 8,none,[0,1,2,3,4,5,6,7,8,9,10,11,12,13,14,15]⟩,
  ⟨none,.st (.t 115) (.t 113) 8,none,[0,1,2,3,4,5,6,7,8,9,10,11,12,13,14,15,16]⟩]))
 (.reg [
 m1 98 9,
 o1 99 (.bin .sub (.t 98) (cn 1)),
 m1 9 99]))))))))))))
 (.gh (.reg [
 m1 14 6,
 o1 15 (.bin .add (.t 14) (cn 1)),
 m1 6 15])))))))
 (.gh (sr1 [
 m1 116 5,
 m1 4 116]
 .ret)))))
def r52:List RV:=[.tmp 4]
theorem n52:Try.f52.ntmps=117:=by kernel_rfl
theorem b52:Z3 Try.prog 52=true:=by kernel_rfl
theorem ZAs:YJ Try.prog c52 ((Try.f52.body).getD .skip)=true:=by kernel_rfl
theorem ZAH:Y5 Try.prog r52 Try.f52.results.toList=true:=by kernel_rfl
def c57:SC:=(sr1 [
 o1 2 (.box (.t 0) 0 24),
 o1 4 (.mv (.c (.slice none 0 0)))]
 (sr1 [
 o1 13 (lt 2 4),
 m1 14 1,
 o1 15 (.call 53 [.t 13,.t 14]),
 m1 12 15,
 o1 16 (.ext (.t 12) 0),
 o1 17 (.ext (.t 12) 1),
 o1 5 (.alloc zv1 95),
 ⟨none,.st (.t 5) (.t 16) 7,none,[]⟩,
 m1 6 17]
 (sr1 [
 o1 18 (lt 2 4),
 o1 19 (ao 5 4),
 o1 20 (lf 19 1),
 o1 21 (.call 46 [.t 18,.t 20]),
 m1 7 21]
 (sr1 [
 o1 8 (.mv (.c (.slice none 0 0)))]
 (.seq (sr1 [
 o1 9 (.mv (cn 0))]
 (.block 0 (.loop (.seq (sr1 [
  m1 22 9,
  o1 23 (ao 2 0),
  o1 24 (lf 23 1),
  o1 25 (.len (.t 24)),
  o1 26 (.bin .lss (.t 22) (.t 25))]
  (.cond (.t 26)
  .skip
  (.exit 0)))
  (.seq (.block 1 (.seq (.regd [0,1,2,3,4,5,6,7,8,9,10,11,12,13,14,15,16,17] [
   .op (o1 29 (ao 2 0)),
   .op (p1 30 (lf 29 1) [0]),
   .op (m1 31 9),
   .op (p1 32 (.ixs (.t 30) (.t 31) 3) [1,2]),
   .op (p1 33 (ao 32 1) [3]),
   .op (p1 34 (lf 33 1) [4]),
   .op (m1 35 7),
   .op (m1 36 9),
   .op (p1 37 (.ixs (.t 35) (.t 36) 1) [6,7]),
   .op (p1 38 (lf 37 1) [8]),
   .op (p1 39 (.bin .add (.t 34) (.t 38)) [5,9]),
   .op (o1 40 (ao 5 5)),
   .op (p1 41 (lf 40 1) [11]),
   .op (m1 42 9),
   .op (p1 43 (.ixs (.t 41) (.t 42) 1) [12,13]),
   .op (p1 44 (lf 43 1) [14]),
   .op (p1 45 (.bin .add (.t 39) (.t 44)) [10,15]),
   .op (p1 10 (.mv (.t 45)) [0,1,2,3,4,5,6,7,8,9,10,11,12,13,14,15,16])] 0 0 [
])
 (.seq (sr1 [
 o1 11 (.mv (cn 0))]
 (.block 2 (.loop (.seq (sr1 [
  m1 46 11,
  o1 47 (ao 2 0),
  o1 48 (lf 47 1),
  o1 49 (.len (.t 48)),
  o1 50 (.bin .lss (.t 46) (.t 49))]
  (.cond (.t 50)
  .skip
  (.exit 2)))
  (.seq (.block 3 (.regd [0,1,2,3,4,5,6,7,8,9,10,11,12,13,14,15,16,17,18,19] [
   .op (m1 53 10),
   .op (o1 54 (ao 5 6)),
   .op (p1 55 (lf 54 1) [1]),
   .op (m1 56 11),
   .op (p1 57 (.ixs (.t 55) (.t 56) 1) [2,3]),
   .op (p1 58 (lf 57 1) [4]),
   .op (m1 59 9),
   .op (p1 60 (.ixs (.t 58) (.t 59) 1) [5,6]),
   .op (p1 61 (lf 60 1) [7]),
   .op (o1 62 (ao 5 6)),
   .op (p1 63 (lf 62 1) [9]),
   .op (m1 64 9),
   .op (p1 65 (.ixs (.t 63) (.t 64) 1) [10,11]),
   .op (p1 66 (lf 65 1) [12]),
   .op (m1 67 11),
   .op (p1 68 (.ixs (.t 66) (.t 67) 1) [13,14]),
   .op (p1 69 (lf 68 1) [15]),
   .op (p1 70 (.bin .sub (.t 61) (.t 69)) [8,16]),
   .op (p1 71 (.bin .add (.t 53) (.t 70)) [0,17])] 0 0 [
   ⟨some 10,.mv (.t 71),none,[0,1,2,3,4,5,6,7,8,9,10,11,12,13,14,15,16,17,18]⟩]))
  (.reg [
  m1 51 11,
  o1 52 (.bin .add (.t 51) (cn 1)),
  m1 11 52]))))))
 (.gh (.reg [
 m1 72 8,
 m1 73 10,
 o1 74 (.bsl 1 3 [.t 73]),
 o1 75 (.appm 1 8 3 (.t 72) (.t 74)),
 m1 8 75])))))
 (.gh (.reg [
 m1 27 9,
 o1 28 (.bin .add (.t 27) (cn 1)),
 m1 9 28])))))))
 (.gh (sr1 [
 m1 76 8,
 m1 4 76]
 .ret)))))))
def r57:List RV:=[.tmp 4]
theorem t57:Qt1 Try.prog 57 c57 r57 77:=XN Try.func57 rfl (by kernel_rfl) (by kernel_rfl) (by kernel_rfl) (by kernel_rfl)
def c30:SC:=(sr1 [
 o1 2 (.box (.t 0) 0 24),
 o1 4 (.mv (.c (.slice none 0 0))),
 o1 5 (.mv (cn 0))]
 (.seq (sr1 [
 o1 7 (lt 2 4),
 o1 8 (.call 44 [.t 7]),
 o1 9 (.un .not (.t 8))]
 (.cond (.t 9)
 (sr1 [
  o1 4 (.mv (.c (.slice none 0 0))),
  o1 5 (.mv (cn 80))]
  .ret)
 .skip))
 (.seq (sr1 [
 o1 10 (lt 2 4),
 m1 11 1,
 o1 12 (.call 51 [.t 10,.t 11]),
 m1 6 12]
 (sr1 [
 m1 13 6,
 o1 14 (.bin .neq (.t 13) (cn 0))]
 (.cond (.t 14)
 (sr1 [
  m1 15 6,
  o1 4 (.mv (.c (.slice none 0 0))),
  m1 5 15]
  .ret)
 .skip)))
 (.seq (.regd [0,1,2,3,4,5,6] [
 .op (o1 16 (lt 2 4)),
 .op (o1 17 (lt 2 4)),
 .op (m1 18 1),
 .op (p1 19 (.call 52 [.t 17,.t 18]) [1,2]),
 .op (p1 20 (.call 57 [.t 16,.t 19]) [0,3]),
 .op (p1 4 (.mv (.t 20)) [0,1,2,3,4]),
 .op (p1 5 (.mv (cn 0)) [0,1,2,3,4,5])] 0 0 [
])
 .ret))))
def r30:List RV:=[.tmp 4,.tmp 5]
theorem n30:Try.f30.ntmps=21:=by kernel_rfl
theorem b30:Z3 Try.prog 30=true:=by kernel_rfl
theorem ZAd:YJ Try.prog c30 ((Try.f30.body).getD .skip)=true:=by kernel_rfl
theorem Zz6:Y5 Try.prog r30 Try.f30.results.toList=true:=by kernel_rfl
def c32:SC:=(sr1 [
 o1 2 (.box (.t 0) 0 24),
 o1 4 (.mv (.c (.slice none 0 0))),
 o1 5 (.mv (cn 0))]
 (.seq (sr1 [
 o1 18 (lt 2 4),
 o1 19 (.call 44 [.t 18]),
 o1 20 (.un .not (.t 19))]
 (.cond (.t 20)
 (sr1 [
  o1 4 (.mv (.c (.slice none 0 0))),
  o1 5 (.mv (cn 80))]
  .ret)
 .skip))
 (.seq (sr1 [
 o1 21 (lt 2 4),
 m1 22 1,
 o1 23 (.call 51 [.t 21,.t 22]),
 m1 6 23]
 (sr1 [
 m1 24 6,
 o1 25 (.bin .neq (.t 24) (cn 0))]
 (.cond (.t 25)
 (sr1 [
  m1 26 6,
  o1 4 (.mv (.c (.slice none 0 0))),
  m1 5 26]
  .ret)
 .skip)))
 (sr1 [
 o1 27 (lt 2 4),
 m1 28 1,
 o1 29 (.call 52 [.t 27,.t 28]),
 m1 7 29]
 (sr1 [
 o1 8 (.mv (cn 0))]
 (.seq (sr1 [
 o1 9 (.mv (cn 0))]
 (.block 0 (.loop (.seq (sr1 [
  m1 30 9,
  m1 31 7,
  o1 32 (.len (.t 31)),
  o1 33 (.bin .lss (.t 30) (.t 32))]
  (.cond (.t 33)
  .skip
  (.exit 0)))
  (.seq (.block 1 (sr1 [
   m1 36 7,
   m1 37 9,
   o1 38 (.ixs (.t 36) (.t 37) 8),
   o1 39 (ao 38 7),
   o1 40 (lf 39 1)]
   (.cond (.t 40)
   (.reg [
    m1 41 8,
    o1 42 (.bin .add (.t 41) (cn 1)),
    m1 8 42])
   .skip)))
  (.reg [
  m1 34 9,
  o1 35 (.bin .add (.t 34) (cn 1)),
  m1 9 35]))))))
 (.gh (.seq (sr1 [
 m1 43 8,
 o1 44 (.bin .gtr (.t 43) (cn 6))]
 (.cond (.t 44)
 (sr1 [
  o1 4 (.mv (.c (.slice none 0 0))),
  o1 5 (.mv (cn 83))]
  .ret)
 .skip))
 (sr1 [
 o1 10 (.mv (.c (.slice none 0 0)))]
 (.seq (sr1 [
 o1 11 (.mv (cn 0))]
 (.block 2 (.loop (.seq (sr1 [
  m1 45 11,
  m1 46 8,
  o1 47 (.raw (Go.Op.binOp Go.BinOp.shl 3 (Go.Operand.const (Go.Value.int Go.IntKind.i64 1)) (Go.Operand.tmp 46) 3) 3),
  o1 48 (.bin .lss (.t 45) (.t 47))]
  (.cond (.t 48)
  .skip
  (.exit 2)))
  (.seq (.block 3 (sr1 [
   o1 12 (.mv (.c (.slice none 0 0)))]
   (sr1 [
   o1 13 (.mv (cn 0))]
   (.seq (sr1 [
   o1 14 (.mv (cn 0))]
   (.block 4 (.loop (.seq (sr1 [
    m1 51 14,
    m1 52 7,
    o1 53 (.len (.t 52)),
    o1 54 (.bin .lss (.t 51) (.t 53))]
    (.cond (.t 54)
    .skip
    (.exit 4)))
    (.seq (.block 5 (sr1 [
     o1 15 (.mv (.c (.bool true)))]
     (.seq (sr1 [
     m1 57 7,
     m1 58 14,
     o1 59 (.ixs (.t 57) (.t 58) 8),
     o1 60 (ao 59 7),
     o1 61 (lf 60 1)]
     (.cond (.t 61)
     (sr1 [
      m1 62 11,
      m1 63 13,
      o1 64 (.raw (Go.Op.binOp Go.BinOp.shr 3 (Go.Operand.tmp 62) (Go.Operand.tmp 63) 3) 3),
      o1 65 (.raw (Go.Op.binOp Go.BinOp.and 3 (Go.Operand.tmp 64) (Go.Operand.const (Go.Value.int Go.IntKind.i64 1)) 3) 3),
      o1 66 (.bin .eql (.t 65) (cn 1)),
      m1 15 66]
      (.reg [
      m1 67 13,
      o1 68 (.bin .add (.t 67) (cn 1)),
      m1 13 68]))
     .skip))
     (sr1 [
     m1 69 15]
     (.cond (.t 69)
     (.reg [
      m1 70 12,
      m1 71 7,
      m1 72 14,
      o1 73 (.ixs (.t 71) (.t 72) 8),
      o1 74 (lt 73 8),
      o1 75 (.bsl 8 50 [.t 74]),
      o1 76 (.appm 8 64 50 (.t 70) (.t 75)),
      m1 12 76])
     .skip)))))
    (.reg [
    m1 55 14,
    o1 56 (.bin .add (.t 55) (cn 1)),
    m1 14 56]))))))
   (.gh (sr1 [
   o1 77 (lt 2 4),
   m1 78 12,
   o1 79 (.call 57 [.t 77,.t 78]),
   m1 16 79]
   (sr1 [
   o1 17 (.mv (cn 0))]
   (.block 6 (.loop (.seq (sr1 [
    m1 80 17,
    m1 81 16,
    o1 82 (.len (.t 81)),
    o1 83 (.bin .lss (.t 80) (.t 82))]
    (.cond (.t 83)
    .skip
    (.exit 6)))
    (.seq (.block 7 (.seq (sr1 [
     m1 86 11,
     o1 87 (.bin .eql (.t 86) (cn 0))]
     (.cond (.t 87)
     (.regs [0,1,2,3,4,5,6,7,8,9,10,11,12] ⟨[
      .op (m1 88 10),
      .op (m1 89 16),
      .op (m1 90 17),
      .op (p1 91 (.ixs (.t 89) (.t 90) 1) [1,2]),
      .op (p1 92 (lf 91 1) [3]),
      .op (m1 93 16),
      .op (m1 94 17),
      .op (p1 95 (.ixs (.t 93) (.t 94) 1) [5,6]),
      .op (p1 96 (lf 95 1) [7]),
      .op (p1 97 (.build [.int .i64 0,.int .i64 0] [(0,1,.t 92),(1,1,.t 96)]) [4,8]),
      .op (p1 98 (.bsl 2 70 [.t 97]) [9])],0,1,[
      ⟨some 99,.appm 2 16 70 (.t 88) (.t 98),none,[0,10]⟩]⟩ [⟨[
],0,1,[
 ⟨some 10,.mv (.t 99),none,[0,1,2,3,4,5,6,7,8,9,10,11]⟩]⟩])
 .skip))
 (.regd [0,1,2,3,4,5,6,7,8,9,10,11,12,13,14,15,16,17,18,19,20,21,22,23,24] [
 .op (m1 100 10),
 .op (m1 101 17),
 .op (m1 102 10),
 .op (m1 103 17),
 .op (p1 104 (.ixs (.t 102) (.t 103) 2) [2,3]),
 .op (p1 105 (ao 104 0) [4]),
 .op (p1 106 (lf 105 1) [5]),
 .op (m1 107 16),
 .op (m1 108 17),
 .op (p1 109 (.ixs (.t 107) (.t 108) 1) [7,8]),
 .op (p1 110 (lf 109 1) [9]),
 .op (p1 111 (.mm false [.t 106,.t 110]) [6,10]),
 .op (m1 112 10),
 .op (m1 113 17),
 .op (p1 114 (.ixs (.t 112) (.t 113) 2) [12,13]),
 .op (p1 115 (ao 114 1) [14]),
 .op (p1 116 (lf 115 1) [15]),
 .op (m1 117 16),
 .op (m1 118 17),
 .op (p1 119 (.ixs (.t 117) (.t 118) 1) [17,18]),
 .op (p1 120 (lf 119 1) [19]),
 .op (p1 121 (.mm true [.t 116,.t 120]) [16,20]),
 .op (p1 122 (.build [.int .i64 0,.int .i64 0] [(0,1,.t 111),(1,1,.t 121)]) [11,21]),
 .op (p1 123 (.ixs (.t 100) (.t 101) 2) [0,1,2,3,4,5,6,7,8,9,10,11,12,13,14,15,16,17,18,19,20,21,22])] 0 1 [
 ⟨none,.st (.t 123) (.t 122) 2,none,[0,1,2,3,4,5,6,7,8,9,10,11,12,13,14,15,16,17,18,19,20,21,22,23]⟩])))
 (.reg [
 m1 84 17,
 o1 85 (.bin .add (.t 84) (cn 1)),
 m1 17 85]))))))))))))
 (.gh (.reg [
 m1 49 11,
 o1 50 (.bin .add (.t 49) (cn 1)),
 m1 11 50])))))))
 (.gh (sr1 [
 m1 124 10,
 m1 4 124,
 o1 5 (.mv (cn 0))]
 .ret))))))))))))
def r32:List RV:=[.tmp 4,.tmp 5]
theorem n32:Try.f32.ntmps=125:=by kernel_rfl
theorem b32:Z3 Try.prog 32=true:=by kernel_rfl
theorem Zzw:YJ Try.prog c32 ((Try.f32.body).getD .skip)=true:=by kernel_rfl
theorem ZyR:Y5 Try.prog r32 Try.f32.results.toList=true:=by kernel_rfl
def c5:SC:=(sr1 [
 o1 2 (.box (.t 0) 0 24),
 o1 4 (.mv (.c (.bool false)))]
 (.seq (sr1 [
 o1 15 (lt 2 4),
 m1 16 1,
 o1 17 (.call 16 [.t 15,.t 16])]
 (.cond (.t 17)
 (sr1 [
  o1 4 (.mv (.c (.bool true)))]
  .ret)
 .skip))
 (sr1 [
 o1 18 (lt 2 4),
 o1 19 (.call 17 [.t 18]),
 o1 20 (.bsl 8 50 []),
 m1 21 1,
 o1 22 (.app 8 64 50 (.t 20) (.t 21)),
 o1 5 (.alloc [.slice none 0 0,.int .i64 0,.int .i64 0,.int .i64 0] 24),
 ⟨none,.st (.t 5) (.t 19) 4,none,[]⟩,
 m1 6 22]
 (sr1 [
 o1 24 (lt 5 4),
 m1 25 6,
 o1 26 (.call 29 [.t 24,.t 25]),
 m1 23 26,
 o1 27 (.ext (.t 23) 0),
 o1 28 (.ext (.t 23) 1),
 m1 7 27,
 m1 8 28]
 (sr1 [
 o1 30 (lt 2 4),
 m1 31 1,
 o1 32 (.call 30 [.t 30,.t 31]),
 m1 29 32,
 o1 33 (.ext (.t 29) 0),
 o1 34 (.ext (.t 29) 1),
 m1 9 33,
 m1 10 34]
 (sr1 [
 o1 36 (lt 5 4),
 m1 37 6,
 o1 38 (.call 31 [.t 36,.t 37]),
 m1 35 38,
 o1 39 (.ext (.t 35) 0),
 o1 40 (.ext (.t 35) 1),
 m1 11 39,
 m1 12 40]
 (sr1 [
 o1 42 (lt 2 4),
 m1 43 1,
 o1 44 (.call 32 [.t 42,.t 43]),
 m1 41 44,
 o1 45 (.ext (.t 41) 0),
 o1 46 (.ext (.t 41) 1),
 m1 13 45,
 m1 14 46]
 (sr1 [
 m1 47 7,
 m1 48 9,
 o1 49 (.call 22 [.t 47,.t 48]),
 m1 50 49,
 g1 51 50 true (.mv (.t 8)),
 g1 52 50 true (.mv (.t 10)),
 g1 53 50 true (.bin .eql (.t 51) (.t 52)),
 o1 54 (.pick (.t 50) (.t 53) (.c (.bool false))),
 m1 55 54,
 g1 56 55 true (.mv (.t 11)),
 g1 57 55 true (.mv (.t 13)),
 g1 58 55 true (.call 33 [.t 56,.t 57]),
 o1 59 (.pick (.t 55) (.t 58) (.c (.bool false))),
 m1 60 59,
 g1 61 60 true (.mv (.t 12)),
 g1 62 60 true (.mv (.t 14)),
 g1 63 60 true (.bin .eql (.t 61) (.t 62)),
 o1 64 (.pick (.t 60) (.t 63) (.c (.bool false))),
 m1 65 64,
 g1 66 65 true (lt 5 4),
 g1 67 65 true (lt 2 4),
 g1 68 65 true (.call 23 [.t 66,.t 67]),
 o1 69 (.pick (.t 65) (.t 68) (.c (.bool false))),
 m1 70 69,
 g1 71 70 true (.mv (.t 6)),
 g1 72 70 true (.mv (.t 1)),
 g1 73 70 true (.call 28 [.t 71,.t 72]),
 o1 74 (.pick (.t 70) (.t 73) (.c (.bool false))),
 m1 4 74]
 .ret))))))))
def r5:List RV:=[.tmp 4]
theorem b5:Z3 Try.prog 5=true:=by kernel_rfl
theorem t5:Qt1 Try.prog 5 c5 r5 75:=XN Try.func5 rfl b5 (by kernel_rfl) (by kernel_rfl) (by kernel_rfl)
end Go.Proofs.Ythilckbkffjliaa
namespace Go.Sx
open Go Go.RowKit
section
variable {g:Option (Nat × Bool)} {k v' m0 T o m' T':Nat} {xs:List (List SV)} {inn:List (List (List SV))} {d:Option Nat} {σ : St} {r:KT} {K:RK}
theorem Zzn {j:Int} (n:Nat) (hi:j=(n:Int)) (hn:n < xs.length) (hk:Yy d (.pr k v' m0 n 0) g σ r K) :
 ∃ i rows TT,v'=v'+i/\Yt k v' m0 xs T o m' inn T' i=some (m0,rows,TT)/\IXR g k v' m0 rows.length j d σ r K :=
 ⟨0,_,_,rfl,rfl,Yl n hi (by rw [Xa];exact hn) hk⟩
theorem Zsk {j:Int} {v:Nat} {rows:List (List SV)} (i n:Nat) (hv:v=v'+(i+1)) (hr:inn[i]? = some rows) (hi:j=(n:Int)) (hn:n < rows.length) (hk:Yy d (.pr k v m' n 0) g σ r K) :
 ∃ i rows TT,v=v'+i/\Yt k v' m0 xs T o m' inn T' i=some (m',rows,TT)/\IXR g k v m' rows.length j d σ r K :=
 ⟨i+1,rows,T',hv,by simp only [Yt,hr],Yl n hi hn hk⟩
theorem Zy5 {i oo m:Nat} {ag:Bool} {row:List SV} (hx:xs[i]? = some row) (hi:i < inn.length) (hk:Wf (XD (row.set o (.mr k (v'+1+i))) oo m ag) d g σ r K) :
 ∃ a rows TT,v'=v'+a/\Yt k v' m0 xs T o m' inn T' a=some (m0,rows,TT)/\LDR g rows i oo m ag d σ r K :=
 ⟨0,_,_,rfl,rfl,row.set o (.mr k (v'+1+i)),ZQ.2 fun _=>by rw [X0,if_pos hi,hx];rfl,hk⟩
theorem Zy8 {v j oo m:Nat} {ag:Bool} {rows:List (List SV)} {row:List SV} (a:Nat) (hv:v=v'+(a+1)) (hr:inn[a]? = some rows) (hx:rows[j]? = some row) (hk:Wf (XD row oo m ag) d g σ r K) :
 ∃ a rows TT,v=v'+a/\Yt k v' m0 xs T o m' inn T' a=some (m',rows,TT)/\LDR g rows j oo m ag d σ r K :=
 ⟨a+1,rows,T',hv,by simp only [Yt,hr],row,ZQ.2 fun _=>hx,hk⟩
theorem ZzI {α : Type} {l:List α} {f:α->List SV} {h:α->List (List SV)} {v j oo:Nat} {c row:List SV} (i:Nat) (y:α) (hv:v=v'+(i+1)) (hi:i < l.length) (hr:(h l[i])[j]? = some row) (hb:oo+c.length<=row.length) (he:h y=(h l[i]).set j (Zn row oo c)) (hf:f y=f l[i])
 (hk:r ⟨σ.fr,(k,.rws v' m0 ((l.set i y).map f) T o m' ((l.set i y).map h) T') :: σ.hp,σ.n,σ.N,σ.gs⟩ K):STW v' m0 (l.map f) T o m' (l.map h) T' v m' j oo k c σ r K:=by
 refine .inr ⟨i,h l[i],row,hv,rfl,by simp [hi],hr,hb,?_⟩
 rw [<- he,<- List.map_set]
 have e:(l.set i y).map f=l.map f:=by
  rw [List.map_set,hf]
  refine List.ext_getElem? fun q=>?_
  by_cases hq:q=i
  . subst hq;rw [List.getElem?_set_self (by simpa using hi),List.getElem?_map,List.getElem?_eq_getElem hi];rfl
  . rw [List.getElem?_set_ne (Ne.symm hq)]
 rw [e] at hk
 exact hk
end
theorem Zft {α : Type} {f:α->List SV} {h:α->List (List SV)} (o m':Nat):∀ l:List α,Zbi o m' (l.map h) (l.map f)=l.map fun x=>(f x).set o (.sl false m' (h x))
 | []=>rfl
 | x :: l=>by simp only [List.map_cons,Zbi,Zft o m' l]
theorem Zm2 {m:Nat} {σ : St} (kb i k:Nat) {v:Nat} {l:List SV} {T1 mm T o m' T':Nat} {xs:List (List SV)} {inn:List (List (List SV))} (hm:Nat.ble m k=true) (hkb:lkh kb σ.hp = .cells l T1) (hl:l[i]? = some (.mr k v)) (hk:lkh k σ.hp = .rws v mm xs T o m' inn T') :
 Ent m σ ⟨σ.fr,(kb,.cells (l.set i (.sl false mm (Zbi o m' inn xs))) T1) :: (k,.gone) :: σ.hp,σ.n,σ.N,σ.gs⟩:=fun C E a w hmc h=>by
 obtain ⟨g1,g2⟩:=Ut h.hs k
 have hne:kb≠k:=by rintro rfl;rw [hk] at hkb;cases hkb
 have hk2:lkh kb ((k,.gone) :: σ.hp) = .cells l T1:=by rw [Zm,if_neg hne];exact hkb
 have hocc:∀ b,occ E kb (.cells (l.set i (.sl false mm (Zbi o m' inn xs))) T1) b↔occ E kb (lkh kb ((k,.gone) :: σ.hp)) b:=fun b=>by rw [hk2];rfl
 have hbk:=h.hs.bk k
 rw [hk] at hbk
 have hok:∀ i b,i<=inn.length->ZbB (E.hv k (v+i)) b->okS C E ((k,.gone) :: σ.hp) b:=fun i b hi hb=>by
  have hoc:occ E k (lkh k σ.hp) b:=by rw [hk];exact ⟨i,hi,hb⟩
  refine ⟨?_,fun j ho=>?_⟩
  . rcases h.hs.lo k b hoc with q | q
    . exact .inr q
    . have h1:=hmc.2 k b q;have h2:=hmc.1;have h3:=Nat.le_of_ble_eq_true hm;omega
  . rw [Zm] at ho
    split at ho
    . exact ho.elim
    . exact absurd (h.hs.dj j k b ho hoc).symm (by omega)
 have hval:=ZrA g2 hok hbk
 obtain ⟨h6,h7⟩:=WP (hb:=.cells (l.set i (.sl false mm (Zbi o m' inn xs))) T1) (B:=E.β kb) g1 hocc (by rw [hk2];rfl) ⟨rfl,rfl,rfl,rfl,fun _ _=>rfl⟩ (fun hst=>by
  have hb:=h.hs.bk kb
  rw [hkb] at hb
  simp only [ZZ] at hb ⊢
  obtain ⟨cs,e1,e2⟩:=hb
  refine ⟨cs,e1,VX (ZeO (p:=fun s s'=>∀ y,R w E (ltn σ.n) (okS C E σ.hp) s y->R w E (ltn σ.n) (okS C E ((kb,.cells (l.set i (.sl false mm (Zbi o m' inn xs))) T1) :: (k,.gone) :: σ.hp)) s' y)
   (fun s y hy=>ZI hst.c (fun _ _=>Ele.rfl) (fun _ h=>h) _ _ (ZI g2.c (fun _ _=>Ele.rfl) (fun _ h=>h) _ _ hy)) (fun y hy=>?_) hl) e2⟩
  have hy2:y=E.hv k v:=by simp only [R] at hy;exact hy.2.2.1
  rw [hy2]
  exact ZI hst.c (fun _ _=>Ele.rfl) (fun _ h=>h) _ _ hval)
 have hst:ZC w w (okS C E σ.hp) (okS C E ((kb,.cells (l.set i (.sl false mm (Zbi o m' inn xs))) T1) :: (k,.gone) :: σ.hp)):=fun b hb hs=>by
  obtain ⟨q1,q2⟩:=g2 b hb hs
  exact h7 b q1 hs
 exact ⟨E,Yb h hst (fun _ _=>Ele.rfl) (Nat.le_refl _) h6⟩
theorem Ct.res {P:Program} {f:FuncId} {args:List SV} {res res0:SV} (h:Ct P f args res) (kr:KF res0) (hw:Zak res res0):Ct P f args res0 :=
 ⟨h.1,h.2,kr,fun w ok vs hR=>Calls.mono (h.4 w ok vs hR) fun e w' q=>by
  obtain ⟨y,h1,h2,h3⟩:=q
  exact ⟨y,h1,hw _ _ _ _ _ h2,h3⟩⟩
theorem Zry {l:List SV}:∀ (w:World) (E:Env) (n ok:Nat->Prop) (ys:List Value),RL w E n ok l ys->RL w E n ok l ys:=fun _ _ _ _ _ h=>h
def Zaj (fr:List (Nat × SV)):List Nat->List (Nat × SV)
 | []=>[]
 | t :: ts=>(t,lk t fr) :: Zaj fr ts
theorem ZiD (fr:List (Nat × SV)):Zaj fr []=[]:=rfl
theorem ZgE (fr:List (Nat × SV)) (t:Nat) (ts:List Nat):Zaj fr (t :: ts)=(t,lk t fr) :: Zaj fr ts:=rfl
attribute [go_sem] ZiD ZgE
theorem ZdJ (fr:List (Nat × SV)):∀ ts,Zxu (Zaj fr ts) fr
 | []=>trivial
 | _ :: ts=>⟨rfl,ZdJ fr ts⟩
theorem Uv {m:Nat} {σ : St} (ts:List Nat) (hg:ZxU (Zaj σ.fr ts)=true):Ent m σ ⟨Zaj σ.fr ts,σ.hp,σ.n,σ.N,[]⟩:=by
 intro C E a w _ h
 refine ⟨E,fun t=>?_,h.sz,h.df,fun t j b s ht=>absurd ht (Zem hg t j b s),h.hs⟩
 have hfr:=h.fr t
 rcases ZjP (ZdJ σ.fr ts) t with h1 | h1
 . rw [h1];exact trivial
 . rw [h1]
   have:=Zem hg t
   rw [h1] at this
   cases hq:lk t σ.fr<;>rw [hq] at hfr this<;>first | exact hfr | exact absurd rfl (this _ _ _)
theorem Zet {m:Nat} {f:CT} {σ : St} {K:Ex->St->Prop} {S:Type} (ts:List Nat) (hg:ZxU (Zaj σ.fr ts)=true) (ov:S->List (Nat × SV)) (hv:S->List (Nat × HB)) (rel:S->Prop) (μ : S->Nat) (s0:S) (h0:rel s0)
 (he:Ent m ⟨Zaj σ.fr ts,σ.hp,σ.n,σ.N,[]⟩ (stO ⟨Zaj σ.fr ts,σ.hp,σ.n,σ.N,[]⟩ ov hv s0))
 (hb:∀ s,rel s->f (stO ⟨Zaj σ.fr ts,σ.hp,σ.n,σ.N,[]⟩ ov hv s) (ZpJ m (stO ⟨Zaj σ.fr ts,σ.hp,σ.n,σ.N,[]⟩ ov hv) rel μ s K)):Zxh m f σ K :=
 Zai (Uv ts hg) ov hv rel μ s0 h0 he hb
end Go.Sx
namespace Go.Proofs.Ythilckbkffjliaa
open Go Go.Sx Go.Azalai
def boL (b:Bool):List SV:=[B b]
def fX (_:List Int):List SV:=[.any]
def hI (r:List Int):List (List SV):=r.map Zl
theorem Wh (x:List Int):KFL (fX x)=True:=eq_true (by simp [fX,KFL,KF])
theorem XO (x:List Int):KFR (hI x)=True:=eq_true (by simp [hI,Zl,Zb,KFL,KF])
theorem Vx (b:Bool):KFL (boL b)=True:=eq_true (by simp [boL,KFL,KF])
theorem Xy (b:Int):KFL (Zl b)=True:=eq_true (by simp [Zl,KFL,KF])
def bkH (p:Pact) (c:Co) (s:Int->Int) (v:Nat):List (Nat × HB):=[(0,.row 0 1 ((rg 10000 (U9 p c)).map Zl) 3),(1,.row 0 1 ((rg 10000 s).map Zl) 3),(2,.row 0 1 ((rg 10000 c.dead).map boL) 4),(3,.row 0 1 ((rg 10000 c.known).map boL) 4),
 (4,.row 0 1 ((pp p c.extra).map Zl) 3),(5,.rws v 1 ((ddL p c.debts).map fX) 27 0 1 ((ddL p c.debts).map hI) 3)]
def bkV (c:Co) (v:Nat):List SV:=[.mr 0 0,.mr 1 0,.mr 2 0,.mr 3 0,I c.result,.mr 4 0,.mr 5 v]
def bkW (p:Pact) (c:Co) (s:Int->Int):List SV:=[.sl false 1 ((rg 10000 (U9 p c)).map Zl),.sl false 1 ((rg 10000 s).map Zl),.sl false 1 ((rg 10000 c.dead).map boL),.sl false 1 ((rg 10000 c.known).map boL),I c.result,.sl false 1 ((pp p c.extra).map Zl),
 .sl false 1 ((ddL p c.debts).map fun r=>[.sl false 1 (r.map Zl)])]
theorem Zpj {p:Pact} {c:Co} {a d:Int} {l:Int × Int}:U9 p (ZN p c a d l)=upd (U9 p c) a (-1):=by
 funext i
 simp only [U9,ZN,upd]
 split
 . rename_i h
   split at h
   . rename_i e;rw [if_pos e]
   . rename_i e;rw [if_neg e,h]
 . rename_i m h
   split at h
   . cases h
   . rename_i e;rw [if_neg e,h]
theorem ZcE {p:Pact} {c:Co} {a:Int} {l:Int × Int} (h:c.loans a=some l):U9 p c a=atF p l.1:=by simp only [U9,h]
theorem Zir {p:Pact} {c:Co} (hc:CoOk p c) (a:Int):decide (U9 p c a ≥ 0)=(c.loans a).isSome:=by
 cases h:c.loans a with
 | none=>simp [U9,h]
 | some l =>
  obtain ⟨i,hi,e,_⟩:=W4 (hc.who a l h)
  rw [ZcE h,e];simp
theorem Zeh {p:Pact} {n:Nat} {c:Co} {b:Bks} (h:BkR n c b) (hn:n<=100000) (hp:0<=p.hire/\p.hire<=1000) (hids:(ids p).Nodup) {s:Int->Int} (hs:ZaL c s) {v a:Nat} (ha:a < 10000) {l:Int × Int} (hl:c.loans a=some l) (hw:l.1 ∈ ids p) {d:Int} (hd:0<=d/\d<=100000) :
 CtM Try.prog 77 (bkH p c s v) 6 [.agg (Zh p),.agg (bkV c v),I (a:Int),I d] (fun o=>o=⟨false,.agg (bkV (ZN p c a d l) v),bkH p (ZN p c a d l) s v,6⟩):=by
 refine m77 (by simp [hpb,bkH]) (fun o ho=>by subst ho;simp [bkH,bkV,KX,KXL,KXP,KXH,Zb,KFL,KF,Zl,boL,fX,hI]) ?_
 have hsb:=h.sb a l hl
 have hrb:=h.rb
 have heb:=h.eb l.1
 have hhb:=Zcx (h:=p.hire) (t:=d - l.2) hp.1 hp.2 (by omega) (by omega)
 obtain ⟨i,hi,hi1,hi2⟩:=W4 hw
 dsimp only [c77,r77,bkH,bkV,Zh,go_sem,rA,rM,rS]
 simp only [List.length_map,Yu]
 refine Yl a rfl ha ?_
 dsimp only [go_sem,rA,rM,rS]
 refine Xt (by rw [Yu];exact ha) ?_
 dsimp only [Zl,go_sem,rA,rM,rS]
 rw [U1 ha,hs a l hl]
 rw [Zf (n:=d - l.2) (by omega) (by omega),Zf (n:=p.hire * (d - l.2)) (by omega) (by omega),Zf (n:=c.result - p.hire * (d - l.2)) (by omega) (by omega)]
 simp only [List.length_map,Yu]
 refine Yl a rfl ha ?_
 dsimp only [go_sem,rA,rM,rS]
 refine Xt (by rw [Yu];exact ha) ?_
 dsimp only [Zl,go_sem,rA,rM,rS]
 rw [U1 ha,ZcE hl,hi1]
 simp only [List.length_map,Xj]
 refine Yl i rfl hi ?_
 dsimp only [go_sem,rA,rM,rS]
 refine Xt (by rw [Xj];exact hi) ?_
 dsimp only [Zl,go_sem,rA,rM,rS]
 rw [ZdQ hi,hi2,Zf (n:=c.extra l.1+p.hire * (d - l.2)) (by omega) (by omega)]
 simp only [List.length_map,Xj]
 refine Yl i rfl hi ?_
 dsimp only [go_sem,rA,rM,rS]
 refine WT (c.extra l.1+p.hire * (d - l.2)) (by rw [Xj];exact hi) (by simp [Zl]) (by simp [Zl,Zn]) ?_
 dsimp only [go_sem,rA,rM,rS]
 rw [Zfh hids hi,hi2]
 simp only [List.length_map,Yu]
 refine Yl a rfl ha ?_
 dsimp only [go_sem,rA,rM,rS]
 refine WT (-1:Int) (by rw [Yu];exact ha) (by simp [Zl]) (by simp [Zl,Zn]) ?_
 dsimp only [go_sem,rA,rM,rS]
 rw [Zb5 ha,<- Zpj (p:=p) (c:=c) (d:=d) (l:=l)]
 refine ⟨_,rfl,?_⟩
 have e1:(ZN p c a d l).extra=upd c.extra l.1 (c.extra l.1+p.hire * (d - l.2)):=rfl
 have e2:(ZN p c a d l).dead=c.dead/\(ZN p c a d l).known=c.known/\(ZN p c a d l).debts=c.debts/\(ZN p c a d l).result=c.result - p.hire * (d - l.2):=⟨rfl,rfl,rfl,rfl⟩
 rw [e1,e2.1,e2.2.1,e2.2.2.1,e2.2.2.2]
 (refine Zo ?_ ?_ ?_ rfl<;>dsimp only [Zl,Vx,Xy,Wh,XO,id,go_sem,rA,rM,rS]<;>simp [Zl,Vx,Xy,Wh,XO,Zb,Ze,KFR,KFL,KF,Zd,mtO,nbr])
theorem Zlo {p:Pact} {x:Letter} (hx:Zk p x=true):0<=x.animal/\x.animal<=9999:=by
 rcases Ue hx with hk | hk | hk | hk | hk | hk | hk | hk<;>simp [Zk,hk,inR] at hx<;>omega
theorem Zyp {p:Pact} (hps:YI p) {c:Co} (hc:CoOk p c) {s:Int->Int} {x:Letter} (hx:Zk p x=true):Ct Try.prog 75 [.agg (Zh p),.agg (bkW p c s),.agg (Zc x)] (U8 (Zp p c x).2):=by
 have hk:=Ue hx
 have hab:=Zlo hx
 obtain ⟨a,ha,hae⟩:∃ a:Nat,a < 10000/\x.animal=(a:Int):=⟨x.animal.toNat,by omega,by omega⟩
 have hod:=Zir hc x.animal
 refine t75.1 (by simp [Zh,Za,bkW,Zc,Zb,Zl,boL,KFL,KF]) (by simp [KFL,KF]) ?_
 dsimp only [c75,r75,Zh,bkW,Zc,go_sem,rA,rM,rS]
 refine Zq a (by rw [Yu];exact ha) hae ?_
 dsimp only [Zl,go_sem,rA,rM,rS]
 rw [U1 ha,<- hae,hod]
 rcases hk with hk | hk | hk | hk | hk | hk | hk | hk
 . simp only [hk]
   repeat (refine Zu (by decide) ?_;dsimp only [go_sem,rA,rM,rS])
   simp [Zp,hk]
 . simp only [hk]
   repeat (refine Zu (by decide) ?_;dsimp only [go_sem,rA,rM,rS])
   simp [Zp,hk]
 . simp only [hk]
   refine Zw (by decide) ?_
   dsimp only [go_sem,rA,rM,rS]
   cases hl:c.loans x.animal with
   | some l =>
    refine Zw (by simp) ?_
    dsimp only [go_sem,rA,rM,rS]
    simp [Zp,hk,hl]
   | none =>
    refine Zu (by simp) ?_
    dsimp only [go_sem,rA,rM,rS]
    refine Zq a (by rw [Yu];exact ha) hae ?_
    dsimp only [boL,go_sem,rA,rM,rS]
    rw [U1 ha,<- hae]
    cases hd:c.dead x.animal with
    | true =>
     refine Zw rfl ?_
     dsimp only [go_sem,rA,rM,rS]
     simp [Zp,hk,hl,hd]
    | false =>
     refine Zu rfl ?_
     dsimp only [go_sem,rA,rM,rS]
     simp [Zp,hk,hl,hd]
 . simp only [hk]
   refine Zu (by decide) ?_
   dsimp only [go_sem,rA,rM,rS]
   refine Zw (by decide) ?_
   dsimp only [go_sem,rA,rM,rS]
   cases hl:c.loans x.animal with
   | some l =>
    refine Zu (by simp) ?_
    dsimp only [go_sem,rA,rM,rS]
    simp [Zp,hk,hl]
   | none =>
    refine Zw (by simp) ?_
    dsimp only [go_sem,rA,rM,rS]
    simp [Zp,hk,hl]
 . simp only [hk]
   iterate 2 (refine Zu (by decide) ?_;dsimp only [go_sem,rA,rM,rS])
   refine Zw (by decide) ?_
   dsimp only [go_sem,rA,rM,rS]
   refine Zq a (by rw [Yu];exact ha) hae ?_
   dsimp only [boL,go_sem,rA,rM,rS]
   rw [U1 ha,<- hae]
   cases hd:c.dead x.animal with
   | true =>
    refine Zw rfl ?_
    dsimp only [go_sem,rA,rM,rS]
    simp [Zp,hk,hd]
   | false =>
    refine Zu rfl ?_
    dsimp only [go_sem,rA,rM,rS]
    cases hl:c.loans x.animal with
    | some l =>
     refine Zu (by simp) ?_
     dsimp only [go_sem,rA,rM,rS]
     simp [Zp,hk,hl,hd]
    | none =>
     refine Zw (by simp) ?_
     dsimp only [go_sem,rA,rM,rS]
     simp [Zp,hk,hl,hd]
 . simp only [hk]
   iterate 3 (refine Zu (by decide) ?_;dsimp only [go_sem,rA,rM,rS])
   refine Zw (by decide) ?_
   dsimp only [go_sem,rA,rM,rS]
   have hoi:0<=x.other/\x.other<=9999:=by simp [Zk,hk,inR] at hx;omega
   obtain ⟨o,ho,hoe⟩:∃ o:Nat,o < 10000/\x.other=(o:Int):=⟨x.other.toNat,by omega,by omega⟩
   refine Zq o (by rw [Yu];exact ho) hoe ?_
   dsimp only [boL,go_sem,rA,rM,rS]
   rw [U1 ho,<- hoe]
   cases hd:c.known x.other with
   | true =>
    refine Zw rfl ?_
    dsimp only [go_sem,rA,rM,rS]
    simp [Zp,hk,hd]
   | false =>
    refine Zu rfl ?_
    dsimp only [go_sem,rA,rM,rS]
    cases hl:c.loans x.animal with
    | some l =>
     refine Zu (by simp) ?_
     dsimp only [go_sem,rA,rM,rS]
     simp [Zp,hk,hl,hd]
    | none =>
     refine Zw (by simp) ?_
     dsimp only [go_sem,rA,rM,rS]
     simp [Zp,hk,hl,hd]
 . simp only [hk]
   repeat (refine Zu (by decide) ?_;dsimp only [go_sem,rA,rM,rS])
   simp [Zp,hk]
 . simp only [hk]
   iterate 4 (refine Zu (by decide) ?_;dsimp only [go_sem,rA,rM,rS])
   refine Zw (by decide) ?_
   dsimp only [go_sem,rA,rM,rS]
   have hww:x.who ∈ ids p/\x.other ∈ ids p:=by
    simp [Zk,hk,ZaO] at hx
    exact ⟨hx.2.1.1.1.1,hx.2.1.1.1.2⟩
   obtain ⟨i,hi,hi1,hi2⟩:=W4 hww.1
   obtain ⟨j,hj,hj1,hj2⟩:=W4 hww.2
   refine call (X4 p x.who hps) ?_
   dsimp only [go_sem,rA,rM,rS]
   refine Zq i (by rw [VR];exact hi) hi1 ?_
   dsimp only [go_sem,rA,rM,rS]
   refine call (X4 p x.other hps) ?_
   dsimp only [go_sem,rA,rM,rS]
   refine Zq j (by simp only [ddL,ZdQ hi,Xj];exact hj) hj1 ?_
   dsimp only [Zl,go_sem,rA,rM,rS]
   rw [Zeu hi hj,hi2,hj2]
   by_cases hd:c.debts x.who x.other < x.rials
   . refine Zw (by simpa using hd) ?_
     dsimp only [go_sem,rA,rM,rS]
     simp [Zp,hk,hd]
   . refine Zu (by simpa using hd) ?_
     dsimp only [go_sem,rA,rM,rS]
     simp [Zp,hk,hd]
end Go.Proofs.Ythilckbkffjliaa
namespace Go.Sx
open Go
def Zxp:Nat->List Ins->Nat->List (Nat × Ins)
 | _,[],_=>[]
 | i,x :: l,D=>bif !Nat.testBit D i && x.af.all (Nat.testBit D) then (i,x) :: Zxp (i+1) l D else Zxp (i+1) l D
theorem ZfK:∀ {l:List Ins} {i0 D i:Nat} {x:Ins},l[i]? = some x->Nat.testBit D (i0+i)=false->x.af.all (Nat.testBit D)=true->(i0+i,x) ∈ Zxp i0 l D
 | [],_,_,_,_,h,_,_=>by simp at h
 | y :: l,i0,D,0,x,h,hb,ha=>by
  simp only [List.getElem?_cons_zero,Option.some.injEq] at h
  subst h
  have hc:(!Nat.testBit D i0 && y.af.all (Nat.testBit D))=true:=by rw [ha,show Nat.testBit D i0=false from hb];rfl
  simp only [Zxp,hc,cond_true]
  exact List.mem_cons_self ..
 | y :: l,i0,D,i+1,x,h,hb,ha=>by
  have ih:=ZfK (l:=l) (i0:=i0+1) (D:=D) (i:=i) (x:=x) (by simpa using h) (by rw [show i0+1+i=i0+(i+1) from by omega];exact hb) ha
  rw [show i0+1+i=i0+(i+1) from by omega] at ih
  simp only [Zxp]
  cases (!Nat.testBit D i0 && y.af.all (Nat.testBit D))
  . exact ih
  . exact List.mem_cons_of_mem _ ih
def ZtU (f:Nat->Ins->Prop):List (Nat × Ins)->Prop
 | []=>True
 | (i,x) :: r=>f i x/\ZtU f r
theorem ZoJ {f:Nat->Ins->Prop} {rs:List (Nat × Ins)}:∀ {i:Nat} {x:Ins},ZtU f rs->(i,x) ∈ rs->f i x:=by
 induction rs with
 | nil=>intro i x _ hm;cases hm
 | cons y r ih =>
  intro i x h hm
  obtain ⟨j,z⟩:=y
  have h':f j z/\ZtU f r:=h
  rcases List.mem_cons.1 hm with e | e
  . injection e with e1 e2;subst e1 e2;exact h'.1
  . exact ih h'.2 e
theorem Y6 {f:Nat->Ins->Prop} {i:Nat} {x:Ins} {r:List (Nat × Ins)} (h:f i x) (h':ZtU f r):ZtU f ((i,x) :: r):=⟨h,h'⟩
theorem X3 {f:Nat->Ins->Prop}:ZtU f []:=trivial
theorem YH {P:Program} {Y:Hd} {m:Nat} {l:List Ins} {n D:Nat} {σ : St} {K:Ex->St->Prop} (rs:List (Nat × Ins)) (h:Zxp 0 l D=rs) (ha:ZtU (fun i x=>st1 P Y x σ (fun σ' K'=>∃ σc,Ent m σ' σc/\LAT P Y m l n (D ||| 2 ^ i) σc K') K) rs):LAT P Y m l (n+1) D σ K:=by
 intro i x hx hb haf
 have hm:=ZfK (i0:=0) hx (by rw [Nat.zero_add];exact hb) haf
 rw [Nat.zero_add,h] at hm
 exact ZoJ ha hm
theorem Zi0 {l:List Nat} {n:Nat} (hn:Nat.beq l.length n=true) (hi:Zbf l=true):∀ i,i < n->∀ j,j < n->rho l i=rho l j->i=j:=fun i hi' j hj e=>by
 have hn:=Nat.eq_of_beq_eq_true hn
 rw [UP l i (by omega),UP l j (by omega)] at e
 have hp:=List.pairwise_iff_getElem.1 (X6 hi)
 rcases Nat.lt_trichotomy i j with h | h | h
 . exact absurd e (hp i j (by omega) (by omega) h)
 . exact h
 . exact absurd e.symm (hp j i (by omega) (by omega) h)
theorem Zl6 {σ σ':St} (l:List Nat) (hf:mtF (rho l) σ'.n [] σ'.fr σ.fr) (hp:mtP (rho l) σ'.hp σ.hp σ'.n σ'.n) (hb:hpb σ'.n σ'.hp) (hn:Nat.beq l.length σ'.n=true) (hi:Zbf l=true) (hN:Nat.beq σ'.N σ.N=true):Ent 0 σ σ' :=
 ent (rho l) hf hp hb (Zi0 hn hi) hN rfl (fun i h=>absurd h (Nat.not_lt_zero i))
theorem Zur {P:Program} {Y:Hd} {r:KT} {σ : St} {K:RK}:rxT P Y [] r σ K=r σ K:=rfl
theorem Zmm {P:Program} {Y:Hd} {x:Ins} {l:List Ins} {r:KT} {σ : St} {K:RK}:rxT P Y (x :: l) r σ K=st1 P Y x σ (rxT P Y l r) K:=rfl
attribute [go_sem] Zur Zmm
open Go.RowKit
section
variable {P:Program} {C:Cx} {E:Env} {w w':World}
theorem Zfz {k o:Nat}:∀ {N u:Nat} {xs ys:List (List SV)},N<=xs.length->Wg k o u N (xs ++ ys)=Wg k o u N xs ++ ys
 | 0,_,_,_,_=>by simp only [Wg]
 | N+1,u,[],ys,h=>by simp at h
 | N+1,u,x :: xs,ys,h=>by simp only [List.cons_append,Wg];rw [Zfz (by simpa using h)]
theorem ZfV {p:SV->SV->Prop} (hp:∀ s,p s s) {k o:Nat}:∀ {N:Nat} {xs:List (List SV)} {u u':Nat},(∀ i,i < N->p (.mr k (u+i)) (.mr k (u'+i)))->F2 p (Wg k o u N xs).flatten (Wg k o u' N xs).flatten
 | 0,xs,u,u',_=>by simp only [Wg];exact Uj hp _
 | N+1,[],u,u',_=>by simp only [Wg];exact .nil
 | N+1,r :: xs,u,u',h=>by
  simp only [Wg,List.flatten_cons]
  exact Za1 (Ze8 (by simpa using h 0 (by omega)) o (Uj hp r)) (ZfV hp fun i hi=>by
   have:=h (i+1) (by omega)
   rw [show u+(i+1)=u+1+i from by omega,show u'+(i+1)=u'+1+i from by omega] at this;exact this)
theorem Zgu {n ok:Nat->Prop} {y:Value} {m:Nat} {xs:List (List SV)} {T:TypeId} (h:Zpi w E n ok y m xs T):∃ cs,W6 w y m xs.length cs/\RL w E n ok xs.flatten cs/\((∀ r ∈ xs,r.length=m)\/xs=[]):=by
 rcases h with ⟨rfl,a0,h⟩ | ⟨b,cap,cs,h1,h2,h3,⟨h4,_⟩,h5,h6,h7⟩
 . exact ⟨[],by rw [h];exact ⟨a0,0,rfl,Nat.le_refl _,by simp,.inl rfl⟩,by simp [RL],.inr rfl⟩
 . refine ⟨_,⟨_,cap,h1,h4,?_,.inr ⟨b,0,rfl,fun j c hj=>?_⟩⟩,h7,.inl h6⟩
   . have:=Nat.mul_le_mul_right m h4
     simp only [List.length_take,Array.length_toList,h3];exact Nat.min_eq_left this
   . rw [Nat.zero_add,cell_of_row _ _ _ _ _ _ h2]
     have hj':j < xs.length * m:=by have:=(List.getElem?_eq_some_iff.1 hj).1;simp at this;omega
     rw [List.getElem?_take_of_lt hj'] at hj;simpa using hj
theorem ZeN {hp:List (Nat × HB)} {n:Nat->Prop} {k v m o m':Nat} {xs ys:List (List SV)} {T T':TypeId} {inn:List (List (List SV))} {y:Value} {b cap:Nat} {cs:Array Value}
 (h:HSim C E hp n w) (hk:lkh k hp = .rws v m xs T o m' inn T')
 (ho:w'.os=w.os) (ht:w'.tape=w.tape) (hu:w'.output=w.output) (hsz:w.heap.size<=w'.heap.size) (hsame:∀ b,b < w.heap.size->¬ ZbB (E.hv k v) b->w'.heap[b]? = w.heap[b]?)
 (e1:y = .slice (some ⟨b,0,none⟩) (xs.length+ys.length) cap) (eb:ZbB (E.hv k v) b\/w.heap.size<=b) (e2:w'.heap[b]? = some (.cells cs T (0,0))) (e3:cs.size=cap * m) (e4:xs.length+ys.length<=cap/\cap≠0) (e5:xs.length+ys.length<=9223372036854775807)
 (e6:(∀ r ∈ xs,r.length=m)/\∀ r ∈ ys,r.length=m) (e7:RL w E n (okS C E hp) ((Wg k o (v+1) inn.length xs).flatten ++ ys.flatten) (cs.toList.take ((xs.length+ys.length) * m))) :
 ∃ E',(∀ j,n j->Ele E E' j j)/\E'.hv k (v+1+inn.length)=y/\v+1+inn.length < E'.iss k/\n k/\HSim C E' ((k,.rws (v+1+inn.length) m (xs ++ ys) T o m' inn T') :: hp) n w'/\ZC w w' (okS C E hp) (okS C E' ((k,.rws (v+1+inn.length) m (xs ++ ys) T o m' inn T') :: hp)):=by
 have hkn:n k:=by
  rcases Classical.em (n k) with h' | h'
  . exact h'
  . rw [h.kn k h'] at hk;cases hk
 have hb0:=h.bk k
 rw [hk] at hb0
 simp only [ZZ] at hb0
 obtain ⟨a1,a2,a3,a4⟩:=hb0
 generalize hV:v+1+inn.length=V at *
 let E':Env:=⟨E.β,fun j u=>if j=k/\V<=u then (if u=V then y else E.hv k (u - V+v)) else E.hv j u,fun j=>if j=k then V+1+inn.length else E.iss j⟩
 have hv0:∀ j u,j≠k\/u < V->E'.hv j u=E.hv j u:=fun j u hj=>by
  simp only [E'];rw [if_neg];rintro ⟨rfl,q⟩;rcases hj with hj | hj
  . exact hj rfl
  . omega
 have hvV:E'.hv k V=y:=by simp [E']
 have hvi:∀ i,E'.hv k (V+(i+1))=E.hv k (v+(i+1)):=fun i=>by
  show (if k=k/\V<=V+(i+1) then (if V+(i+1)=V then y else E.hv k (V+(i+1) - V+v)) else E.hv k (V+(i+1)))=_
  rw [if_pos ⟨rfl,by omega⟩,if_neg (by omega),show V+(i+1) - V+v=v+(i+1) from by omega]
 have hik:E'.iss k=V+1+inn.length:=if_pos rfl
 have hE:∀ j,n j->Ele E E' j j:=fun j _=>⟨rfl,by
  by_cases hj:j=k
  . subst hj;simp [E',a1];omega
  . simp [E',hj],fun u hu'=>by
  by_cases hj:j=k
  . subst hj;rw [a1] at hu';exact hv0 _ _ (.inr hu')
  . exact hv0 _ _ (.inl hj)⟩
 have hoc:∀ j b,j≠k->(occ E' j (lkh j ((k,.rws V m (xs ++ ys) T o m' inn T') :: hp)) b↔occ E j (lkh j hp) b):=fun j b hj=>by
  rw [Zm,if_neg hj]
  have hvv:∀ u,E'.hv j u=E.hv j u:=fun u=>hv0 j u (.inl hj)
  have hbb:E'.β j=E.β j:=rfl
  cases hl:lkh j hp<;>simp only [occ,hvv,hbb]
 have hok:∀ i b,i<=inn.length->ZbB (E.hv k (v+i)) b->occ E k (lkh k hp) b:=fun i b hi hb=>by rw [hk];exact ⟨i,hi,hb⟩
 have hdy:∀ b',ZbB y b'->b'=b:=fun b' hb=>by
  obtain ⟨len,c2,q1,q2⟩:=hb
  rw [e1] at q1;simp at q1;exact q1.1.symm
 have hocn:∀ b,occ E' k (lkh k ((k,.rws V m (xs ++ ys) T o m' inn T') :: hp)) b->occ E k (lkh k hp) b\/w.heap.size<=b:=fun b'=>by
  rw [Zm,if_pos rfl]
  rintro ⟨i,hi,hb⟩
  cases i with
  | zero =>
   rw [Nat.add_zero,hvV] at hb
   have:=hdy b' hb;subst this
   rcases eb with q | q
   . exact .inl (hok 0 _ (Nat.zero_le _) q)
   . exact .inr q
  | succ i=>rw [hvi] at hb;exact .inl (hok (i+1) _ hi hb)
 have hst:ZC w w' (okS C E hp) (okS C E' ((k,.rws V m (xs ++ ys) T o m' inn T') :: hp)):=fun b' hb hs=>by
  have hlt':b' < w.heap.size:=by
   obtain ⟨o,ho⟩:=Option.isSome_iff_exists.1 hs
   exact (Array.getElem?_eq_some_iff.1 ho).1
  refine ⟨⟨hb.1,fun j hj=>?_⟩,hsame b' hlt' (fun q=>hb.2 k (hok 0 _ (Nat.zero_le _) q))⟩
  by_cases hjk:j=k
  . subst hjk
    rcases hocn b' hj with q | q
    . exact hb.2 _ q
    . omega
  . exact hb.2 j ((hoc j b' hjk).1 hj)
 have hidx:∀ i,i < inn.length->∀ b',ZbB (E.hv k (v+(i+1))) b'->w'.heap[b']? = w.heap[b']?:=fun i hi b' hb =>
  hsame b' (Ym h (hok (i+1) b' hi hb)) (fun q=>by have:=a4 0 (i+1) b' (Nat.zero_le _) hi q hb;omega)
 refine ⟨E',hE,hvV,by rw [hik];omega,hkn,⟨fun j hj=>?_,fun j=>?_,fun j j' b' h1 h2=>?_,fun j b' h1=>?_,⟨ho.trans h.kp.os,ht.trans h.kp.tape,hu.trans h.kp.output,Nat.le_trans h.kp.size hsz,fun b' h1 h2=>?_⟩,fun j hj=>(by obtain ⟨p1,p2⟩:=h.pin j hj;exact ⟨p1,p2.trans (hE j p1)⟩)⟩,hst⟩
 . rw [Zm,if_neg (fun e=>hj (by rw [e];exact hkn))];exact h.kn j hj
 . rw [Zm]
   by_cases hj:j=k
   . subst hj;rw [if_pos rfl]
     simp only [ZZ]
     refine ⟨hik,by rw [List.length_append];omega,fun i mm rows TT hr=>?_,fun i i' b' hi hi' g1 g2=>?_⟩
     . cases i with
       | zero =>
        simp only [Yt,Option.some.injEq,Prod.mk.injEq] at hr
        obtain ⟨rfl,rfl,rfl⟩:=hr
        rw [Nat.add_zero,hvV]
        have hl:=Xa j o (V+1) inn.length (xs ++ ys)
        refine .inr ⟨b,cap,cs,by rw [hl,List.length_append];exact e1,e2,e3,by rw [hl,List.length_append];exact e4,by rw [hl,List.length_append];exact e5,Xr.2 fun r hr=>?_,?_⟩
        . rcases List.mem_append.1 hr with hr | hr
          . exact e6.1 r hr
          . exact e6.2 r hr
        . rw [hl,List.length_append,Zfz a2,List.flatten_append]
          have e8:=ZG hst.c hE (fun _ h=>h) _ _ e7
          refine VX ?_ e8
          refine Za1 (ZfV (p:=fun s s'=>∀ y,R w' E' n (okS C E' ((j,.rws V m (xs ++ ys) T o m' inn T') :: hp)) s y->R w' E' n (okS C E' ((j,.rws V m (xs ++ ys) T o m' inn T') :: hp)) s' y) (fun s y hy=>hy) fun i hi y hy=>?_) (Uj (fun s y hy=>hy) _)
          simp only [R] at hy ⊢
          obtain ⟨q1,q2,q3,q4⟩:=hy
          refine ⟨q1,by rw [hik];omega,?_,q4⟩
          rw [q3,hv0 j (v+1+i) (.inr (by omega)),show V+1+i=V+(i+1) from by omega,hvi,show v+(i+1)=v+1+i from by omega]
       | succ i =>
        have hil:=Uh hr
        rw [hvi]
        simp only [Yt] at hr
        have hr2:Yt j v m xs T o m' inn T' (i+1)=some (mm,rows,TT):=by simp only [Yt];exact hr
        exact (a3 (i+1) mm rows TT hr2).mono hst.c hE (fun _ h=>h) (hidx i (by omega))
     . have aux:∀ i i',i<=inn.length->i'<=inn.length->ZbB (E'.hv j (V+i)) b'->ZbB (E'.hv j (V+i')) b'->i=0->i'=0:=fun i i' hi hi' g1 g2 hz=>by
        subst hz
        rw [Nat.add_zero,hvV] at g1
        have:=hdy b' g1;subst this
        cases i' with
        | zero=>rfl
        | succ i' =>
         rw [hvi] at g2
         rcases eb with q | q
         . have:=a4 0 (i'+1) _ (Nat.zero_le _) hi' q g2;omega
         . have:=Ym h (hok (i'+1) _ hi' g2);omega
       cases i with
       | zero=>exact (aux 0 i' hi hi' g1 g2 rfl).symm
       | succ i =>
        cases i' with
        | zero=>exact aux 0 (i+1) hi' hi g2 g1 rfl
        | succ i' =>
         rw [hvi] at g1 g2
         exact a4 (i+1) (i'+1) b' hi hi' g1 g2
   . rw [if_neg hj]
     refine Yh hst hE (fun _ h=>h) ?_ (fun b' hob=>hsame b' (Ym h hob) (fun q=>hj (h.dj j k b' hob (hok 0 _ (Nat.zero_le _) q)))) (by simp [E',hj]) (h.bk j)
     rcases Classical.em (n j) with h' | h'
     . exact .inr h'
     . exact .inl (h.kn j h')
 . by_cases hj:j=k<;>by_cases hj':j'=k
   . omega
   . subst hj;rw [hoc j' b' hj'] at h2
     rcases hocn b' h1 with q | q
     . exact h.dj _ _ b' q h2
     . have:=Ym h h2;omega
   . subst hj';rw [hoc j b' hj] at h1
     rcases hocn b' h2 with q | q
     . exact h.dj _ _ b' h1 q
     . have:=Ym h h1;omega
   . exact h.dj j j' b' ((hoc j b' hj).1 h1) ((hoc j' b' hj').1 h2)
 . by_cases hj:j=k
   . subst hj
     rcases hocn b' h1 with q | q
     . exact h.lo _ b' q
     . exact .inl (Nat.le_trans h.kp.size q)
   . exact h.lo j b' ((hoc j b' hj).1 h1)
 . rw [hsame b' (Nat.lt_of_lt_of_le h1 h.kp.size) (fun q=>by rcases h.lo k b' (hok 0 _ (Nat.zero_le _) q) with g | g;omega;exact h2 _ g)]
   exact h.kp.block b' h1 h2
theorem Zrg {ty:TypeId} {ax ay:Operand} {az:Array Operand} {ts:Array TypeId} {σ : St} {r:KT} {K:RK} {k v m o m':Nat} {xs ys:List (List SV)} {inn:List (List (List SV))} {T T' t:TypeId} {u bs:Nat}
 (hx:VJ σ ax = .mr k v) (hy:Zea m (VJ σ ay)=some ys) (hk:lkh k σ.hp = .rws v m xs T o m' inn T')
 (has:az = #[ax,ay]) (hts:ts = #[t,t]) (ht:P.underlying t=some (.slice T)) (hsz:XE P T=some m) (hby:XX P T=some bs) (hz:(Z5 P T).map (fun z=>z.cells.size)=some m) (hbs:Nat.blt 0 bs=true) (hm0:Nat.blt 0 m=true)
 (hone:∀ c ∈ ys,ZW c=true) (hys:ys≠[]) (hlim:(xs.length+ys.length) * bs<=140737488355328)
 (h1:Xg u σ.gs=false) (h2:Nat.blt u σ.N=true) (h:r ⟨(u,.mr k (v+1+inn.length)) :: σ.fr,(k,.rws (v+1+inn.length) m (xs ++ ys) T o m' inn T') :: σ.hp,σ.n,σ.N,σ.gs⟩ K) :
 RAW P (some u) (.call ⟨.builtin .append,az,ts⟩) ty σ r K:=by
 intro o' C E a w next Q q1 q2 q3 hS hn hq
 have hxv:=XZ hS hx (fun _ _ _=>by simp)
 have hng:∀ j b s,VJ σ ay≠.gd j b s:=fun j b s e=>by rw [e] at hy;simp [Zea] at hy
 have hyv:=XZ hS (s:=VJ σ ay) rfl hng
 simp only [R] at hxv
 obtain ⟨hnk,hvi,hxv,_⟩:=hxv
 have hb:=hS.hs.bk k
 rw [hk] at hb
 simp only [ZZ] at hb
 obtain ⟨a1,a2,a3,a4⟩:=hb
 have hR0:=a3 0 _ _ _ rfl
 rw [Nat.add_zero] at hR0
 have hl1:=Xa k o (v+1) inn.length xs
 obtain ⟨cx,x1,x2,x3⟩:=Zgu hR0
 obtain ⟨cy,y1,y2,y3⟩:=Vw hyv hy
 have x3':∀ r ∈ xs,r.length=m:=by
  rcases x3 with x3 | x3
  . exact Xr.1 x3
  . intro r hr
    have:xs=[]:=List.eq_nil_of_length_eq_zero (by rw [<- hl1,x3];rfl)
    rw [this] at hr;simp at hr
 have hone':∀ z ∈ cy,z.oneCell'=true:=by
  have:∀ l:List (List SV),(∀ c ∈ l,ZW c=true)->ZW l.flatten=true:=by
   intro l
   induction l with
   | nil=>intro _;rfl
   | cons c l ih=>intro hh;rw [List.flatten_cons];exact Vo (hh c (by simp)) (ih (fun d hd=>hh d (by simp [hd])))
  exact Y3 (this _ hone) y2
 have hb0:0 < bs:=by simpa [Nat.blt_eq] using hbs
 have hlim2:xs.length+ys.length<=140737488355328:=Nat.le_trans (Nat.le_mul_of_pos_right _ hb0) hlim
 have hcy:cy.length=ys.length * m:=by rw [ZD y2];exact Xp y3
 have hcx:cx.length=xs.length * m:=by rw [ZD x2];rw [Xp (Xr.2 x3'),hl1]
 have hyl:ys.length≠0:=fun e=>hys (List.eq_nil_of_length_eq_zero e)
 obtain ⟨i,hi⟩:∃ i,P.info? T=some i:=by
  unfold XE at hsz
  cases hq:P.info? T with
  | none=>simp [hq] at hsz
  | some i=>exact ⟨i,rfl⟩
 have hszi:i.size=m:=by simpa [XE,hi] using hsz
 have hbyi:i.bytes=bs:=by simpa [XX,hi] using hby
 obtain ⟨z,hz1,hz2⟩:∃ z,Z5 P T=some z/\z.cells.size=m:=by
  cases hzz:Z5 P T with
  | none=>simp [hzz] at hz
  | some z=>exact ⟨z,rfl,by simpa [hzz] using hz⟩
 have hzi:i.zero=some z:=by simpa [Z5,hi] using hz1
 have hsz':∀ w,(sizeOf T).run P w = .ok m w:=fun w=>Z7 hsz
 have fin:∀ (y':Value) (w':World),(Builtin.append_ #[t,t] ty #[a.eval ax,a.eval ay]).run P w = .ok y' w'->y'.oneCell'=true->w'.os=w.os->w'.tape=w.tape->w'.output=w.output->w.heap.size<=w'.heap.size ->
  (∀ b,b < w.heap.size->¬ ZbB (E.hv k v) b->w'.heap[b]? = w.heap[b]?) ->
  (∃ b cap cs,y' = .slice (some ⟨b,0,none⟩) (xs.length+ys.length) cap/\(ZbB (E.hv k v) b\/w.heap.size<=b)/\w'.heap[b]? = some (.cells cs T (0,0))/\cs.size=cap * m/\(xs.length+ys.length<=cap/\cap≠0) /\
   RL w E (ltn σ.n) (okS C E σ.hp) ((Wg k o (v+1) inn.length xs).flatten ++ ys.flatten) (cs.toList.take ((xs.length+ys.length) * m))) ->
  o'.wpq C.rd P a w next Q:=fun y' w' hrun ho1 g1 g2 g3 g4 g5 ⟨b,cap,cs,f1,f2,f3,f4,f5,f6⟩=>by
  obtain ⟨E',k1,k2,k3,k4,k5,k6⟩:=ZeN hS.hs hk g1 g2 g3 g4 g5 f1 f2 f3 f4 f5 (by omega) ⟨x3',y3⟩ f6
  have hx:(execOp a.eval o').run P w = .ok (.value y') w':=by
   obtain ⟨dst',op',ty',pos,after,guard⟩:=o'
   simp only at q2 q3;subst q2;subst q3
   subst has hts
   simp [execOp,resolve,invoke,builtin,hrun]
  refine Zz hx (by simp) ?_
  show next (a.put o'.dst _) w'
  rw [q1]
  exact hn _ E' _ _ h (Xu (σ:=σ) (hp':=(k,.rws (v+1+inn.length) m (xs ++ ys) T o m' inn T') :: σ.hp) hS k6 k1 (Nat.le_refl _) k5 (fun hh=>by rw [ZT.2 hh] at h1;cases h1) (by simpa [Nat.blt_eq] using h2) (fun _ _ _ e=>by cases e)
   (by simp only [R];exact ⟨k4,k3,k2.symm,ho1⟩))
 have hfx:=fun w' (hw:∀ a,w'.cell? a=w.cell? a)=>ZY (P:=P) (w':=w') (by rw [hszi];rw [hl1] at x1;exact x1:W6 w (E.hv k v) i.size xs.length cx) hw
 have hfy:=fun w' (hw:∀ a,w'.cell? a=w.cell? a)=>ZY (P:=P) (w':=w') (by rw [hszi];exact y1:W6 w (a.eval ay) i.size ys.length cy) hw
 obtain ⟨ay',capy,hye,hcy',_,_⟩:=y1
 obtain ⟨ax',capx,hxe,hxl,_,_⟩:=x1
 rw [hxe] at hfx
 rw [hye] at hfy
 rw [hl1] at hxe hxl hfx
 by_cases hfit:xs.length+ys.length<=capx
 ·
  rcases hR0 with ⟨g0,a0,g1⟩ | ⟨b',cap,cs,g1,g2,g3,g4,g5,g6,g7⟩
  . rw [hxe] at g1;simp at g1;omega
  . rw [hl1] at g1 g4 g7
    rw [hxe] at g1;simp at g1;obtain ⟨rfl,rfl⟩:=g1
    have hle:xs.length * m+cy.length<=cs.toList.length:=by
     have e3:cs.toList.length=capx * m:=by rw [Array.length_toList];exact g3
     rw [hcy,e3,<- Nat.add_mul];exact Nat.mul_le_mul_right m hfit
    obtain ⟨w',s1,s2⟩:=YT (P:=P) cy (w:=w) (b:=b') (o:=xs.length * m) (i:=0) (cs:=cs.toList) (T:=T) (by simpa using g2) (by simpa using hle) hone'
    refine fin (.slice (some ⟨b',0,none⟩) (xs.length+ys.length) capx) w' ?_ rfl s2.os s2.tape s2.output (Nat.le_of_eq s2.size.symm) (fun b hb hno=>s2.same b (fun e=>by subst e;exact hno ⟨_,_,hxe,g4.2⟩)) ⟨b',capx,(ZJ cs.toList (xs.length * m) cy).toArray,rfl,.inl ⟨_,_,hxe,g4.2⟩,by simpa using s2.here,by simp [ZR,g3],⟨hfit,g4.2⟩,?_⟩
    . rw [hxv,hxe,hye]
      simp [Builtin.append_,Sem.run_bind,run_underlying ht,hsz',Builtin.lenOf,hfit,<- hszi,hfy w (fun _=>rfl),YW]
      rw [hszi,s1];rfl
    . rw [Nat.add_mul,<- hcy]
      rw [List.toList_toArray,Y1 (Nat.le_refl _) hle]
      have e1:ZJ (List.take (xs.length * m+cy.length) cs.toList) (xs.length * m) cy=List.take (xs.length * m) cs.toList ++ cy:=by
       rw [Vu _ _ _ (by rw [List.length_take,Nat.min_eq_left hle];exact Nat.le_refl _),List.take_take,Nat.min_eq_left (by omega),List.drop_of_length_le (by rw [List.length_take,Nat.min_eq_left hle];exact Nat.le_refl _),List.append_nil]
      rw [e1]
      exact Z9 g7 y2
 ·
  have hn':¬ (xs.length+ys.length<=capx):=hfit
  have h63':¬ (9223372036854775807 < ((xs.length:Int)+(ys.length:Int))):=by omega
  have hfit':Builtin.nextslicecap (xs.length+ys.length) capx * i.bytes<=281474976710656:=growslice_fits (by omega) (by rw [hbyi];exact hlim)
  have h48':¬ (281474976710656 < Builtin.nextslicecap (xs.length+ys.length) capx * i.bytes):=by omega
  have hcap:xs.length+ys.length<=grownCap w (xs.length+ys.length) capx T:=by unfold grownCap;simp only [Question.cut];omega
  refine fin (.slice (some ⟨w.heap.size,0,none⟩) (xs.length+ys.length) (grownCap w (xs.length+ys.length) capx T)) (w.drew.alloc (.cells (cx.toArray ++ cy.toArray ++ Builtin.zeroCells z.cells (grownCap w (xs.length+ys.length) capx T - (xs.length+ys.length))) T)) ?_ rfl rfl rfl rfl
   (by have:=(Wr.alloc (Nat.le_refl _) (.cells (cx.toArray ++ cy.toArray ++ Builtin.zeroCells z.cells (grownCap w (xs.length+ys.length) capx T - (xs.length+ys.length))) T):Below w.heap.size w _).size;exact this)
   (fun b hb _=>(Wr.alloc (Nat.le_refl _) _:Below w.heap.size w _).block b hb) ⟨w.heap.size,grownCap w (xs.length+ys.length) capx T,_,rfl,.inr (Nat.le_refl _),heap_alloc_new _ _,?_,⟨hcap,by omega⟩,?_⟩
  . rw [hxv,hxe,hye]
    simp [Builtin.append_,run_underlying ht,sizeOf,typeInfo,zeroValue,hi,hzi,Builtin.lenOf,hn',h63',h48',Question.forced,hfx w.drew (fun _=>rfl),hfy w.drew (fun _=>rfl),newRow,grownCap]
    congr 2
    apply Array.ext'
    simp [List.append_assoc]
  . simp only [Array.size_append,List.size_toArray,Builtin.zeroCells,Array.size_map,Array.size_range,hz2,hcx,hcy]
    rw [<- Nat.add_mul,<- Nat.add_mul];congr 1;omega
  . have e:∀ Z:Array Value,List.take ((xs.length+ys.length) * m) (cx.toArray ++ cy.toArray ++ Z).toList=cx ++ cy:=fun Z=>by
     have e9:(cx.toArray ++ cy.toArray ++ Z).toList=(cx ++ cy) ++ Z.toList:=by simp
     rw [e9];exact List.take_left' (by rw [List.length_append,Nat.add_mul,hcx,hcy])
    rw [e]
    exact Z9 x2 y2
end
def sB:Bool->SV->SV
 | true,s=>s
 | false,_=>.any
def hB:Bool->HB->HB
 | true,h=>h
 | false,_=>.gone
theorem ZbD {ρ : Nat->Nat} {n:Nat} {o:Bool} {v v':SV}:mtS ρ n (sB o v) v'=(o=true->mtS ρ n v v'):=by
 cases o<;>simp [sB,mtS]
theorem ZbK {ρ : Nat->Nat} {n:Nat} {o:Bool} {v v':HB}:mtH ρ n (hB o v) v'=(o=true->mtH ρ n v v'):=by
 cases o<;>simp [hB,mtH]
theorem sBt {v:SV}:sB true v=v:=rfl
theorem sBf {v:SV}:sB false v = .any:=rfl
theorem hBt {v:HB}:hB true v=v:=rfl
theorem hBf {v:HB}:hB false v = .gone:=rfl
theorem Zer {ρ : Nat->Nat} {n:Nat} {h:HB}:mtH ρ n .gone h=True:=rfl
theorem Zev {ρ : Nat->Nat} {n:Nat} {l l2:List SV} {T T2:TypeId}:mtH ρ n (.cells l T) (.cells l2 T2)=(T2=T/\mtL ρ n l l2):=rfl
theorem ZeL {ρ : Nat->Nat} {n v m:Nat} {xs:List (List SV)} {T:TypeId} {h:HB}:mtH ρ n (.row v m xs T) h=(h = .row v m xs T/\KFR xs):=rfl
theorem tn {b:Bool} (h:(!b).toNat=0):b=true:=by cases b<;>simp_all
def sbF:List Nat->List (Nat × SV)->List (Nat × SV)->Prop
 | _,[],_=>True
 | seen,(t,s) :: r,fr=>(Xg t seen=true\/s = .any\/lk t fr=s)/\sbF (t :: seen) r fr
theorem ZrO {fr:List (Nat × SV)}:∀ {fr':List (Nat × SV)} {seen:List Nat},sbF seen fr' fr->∀ t,Xg t seen=false->lk t fr' = .any\/lk t fr'=lk t fr
 | [],_,_,_,_=>.inl rfl
 | (u,s) :: r,seen,h,t,ht=>by
  obtain ⟨h1,h2⟩:=h
  rw [ZK]
  split
  . rename_i e
    subst e
    rcases h1 with h1 | h1 | h1
    . rw [ht] at h1;cases h1
    . exact .inl h1
    . exact .inr h1.symm
  . rename_i e
    refine ZrO h2 t ?_
    rcases Bool.eq_false_or_eq_true (Xg t (u :: seen)) with q | q
    . rw [ZT] at q
      rcases List.mem_cons.1 q with q | q
      . exact absurd q (by first | exact e | exact fun x=>e x.symm)
      . rw [ZT.2 q] at ht;cases ht
    . exact q
theorem YZ {m n N:Nat} {fr fr':List (Nat × SV)} {hp:List (Nat × HB)} (h:sbF [] fr' fr) (hg:∀ t j b s,lk t fr'≠.gd j b s):Ent m ⟨fr,hp,n,N,[]⟩ ⟨fr',hp,n,N,[]⟩:=fun C E a w _ hs=>by
 refine ⟨E,fun t=>?_,hs.sz,hs.df,fun t j b s e=>absurd e (hg t j b s),hs.hs⟩
 have h0:=hs.fr t
 rcases ZrO h t rfl with q | q
 . rw [q];exact trivial
 . have hng:=hg t
   rw [q] at hng ⊢
   simp only at h0
   cases hc:lk t fr<;>rw [hc] at h0 hng<;>first | exact h0 | exact absurd rfl (hng _ _ _)
def ngF:List (Nat × SV)->Prop
 | []=>True
 | (_,s) :: r=>(∀ j b u,s≠.gd j b u)/\ngF r
theorem Xz:∀ {fr:List (Nat × SV)},ngF fr->∀ t j b s,lk t fr≠.gd j b s
 | [],_,_,_,_,_=>by simp [lk]
 | (u,s) :: r,h,t,j,b,s'=>by
  rw [ZK]
  split
  . exact h.1 j b s'
  . exact Xz h.2 t j b s'
end Go.Sx
namespace Go.Proofs.Ythilckbkffjliaa
open Go Go.Sx Go.Azalai
def zI (n:Nat):List (List SV):=List.replicate n [I 0]
def zB (n:Nat):List (List SV):=List.replicate n [B false]
theorem VN (n:Nat):KFR (zI n)=True:=eq_true (WH (by simp [KFL,KF]) n)
theorem VK (n:Nat):KFR (zB n)=True:=eq_true (WH (by simp [KFL,KF]) n)
theorem Zez (n:Nat):List.replicate n [SV.v (.int .i64 0)]=zI n:=rfl
theorem ZeI (n:Nat):List.replicate n [SV.v (.bool false)]=zB n:=rfl
theorem mt7 {ρ : Nat->Nat} {n:Nat} {o:Bool}:mtL ρ n (bif o then [.mr 2 0,.mr 3 0,.mr 4 0,.mr 5 0,I 0,.mr 6 0,.v (.slice none 0 0)] else [.v (.slice none 0 0),.v (.slice none 0 0),.v (.slice none 0 0),.v (.slice none 0 0),I 0,.v (.slice none 0 0),.v (.slice none 0 0)]) (bif o then [.mr 2 0,.mr 3 0,.mr 4 0,.mr 5 0,I 0,.mr 6 0,.v (.slice none 0 0)] else [.v (.slice none 0 0),.v (.slice none 0 0),.v (.slice none 0 0),.v (.slice none 0 0),I 0,.v (.slice none 0 0),.v (.slice none 0 0)])=(o=true->mtL ρ n [.mr 2 0,.mr 3 0,.mr 4 0,.mr 5 0,I 0,.mr 6 0,.v (.slice none 0 0)] [.mr 2 0,.mr 3 0,.mr 4 0,.mr 5 0,I 0,.mr 6 0,.v (.slice none 0 0)]):=by
 cases o
 . simp [mtL,mtB,mtS]
 . simp
theorem ZAR (p:Pact):KFL (Zh p)=True:=eq_true (by simp [Zh,Za,KFL,KF,Zb])
theorem Z8 {ρ : Nat->Nat} {n:Nat} {p:Pact}:mtL ρ n (Zh p) (Zh p)=True:=eq_true (Zd (by rw [ZAR];trivial))
def opE (p:Pact) (n:Nat) (o0 o1 o2 o3 o4 o5 o6 o7 o8:Bool):St:=⟨[(10,sB o0 (.mr 2 0)),(11,sB o1 (.mr 3 0)),(12,sB o2 (.mr 4 0)),(13,sB o3 (.mr 5 0)),(14,sB o4 (I (n:Int))),(15,sB o5 (.mr 6 0)),(16,sB o6 (.agg [.mr 2 0,.mr 3 0,.mr 4 0,.mr 5 0,I 0,.mr 6 0,.v (.slice none 0 0)])),(4,sB o7 (.p 7 0)),(3,I (n:Int)),(2,.p 1 0),(1,.p 0 0)],[(7,hB o7 (.cells (bif o8 then [.mr 2 0,.mr 3 0,.mr 4 0,.mr 5 0,I 0,.mr 6 0,.v (.slice none 0 0)] else [.v (.slice none 0 0),.v (.slice none 0 0),.v (.slice none 0 0),.v (.slice none 0 0),I 0,.v (.slice none 0 0),.v (.slice none 0 0)]) 95)),(6,hB o5 (.row 0 1 (zI n) 3)),(5,hB o3 (.row 0 1 (zB 10000) 4)),(4,hB o2 (.row 0 1 (zB 10000) 4)),(3,hB o1 (.row 0 1 (zI 10000) 3)),(2,hB o0 (.row 0 1 (zI 10000) 3)),(1,.cells [.v (.slice none 0 0),.v (.slice none 0 0),.v (.slice none 0 0),.v (.slice none 0 0),I 0,.v (.slice none 0 0),.v (.slice none 0 0)] 95),(0,.cells (Zh p) 24)],8,38,[]⟩
def op0 (p:Pact) (n:Nat):St:=⟨[(3,I (n:Int)),(2,.p 1 0),(1,.p 0 0)],[(1,.cells [.v (.slice none 0 0),.v (.slice none 0 0),.v (.slice none 0 0),.v (.slice none 0 0),I 0,.v (.slice none 0 0),.v (.slice none 0 0)] 95),(0,.cells (Zh p) 24)],2,38,[]⟩
def op1 (p:Pact) (n:Nat):St:=⟨[(4,.p 7 0),(3,I (n:Int)),(2,.p 1 0),(1,.p 0 0)],[(7,.cells [.mr 2 0,.mr 3 0,.mr 4 0,.mr 5 0,I 0,.mr 6 0,.v (.slice none 0 0)] 95),(6,.row 0 1 (zI n) 3),(5,.row 0 1 (zB 10000) 4),(4,.row 0 1 (zB 10000) 4),(3,.row 0 1 (zI 10000) 3),(2,.row 0 1 (zI 10000) 3),(1,.cells [.v (.slice none 0 0),.v (.slice none 0 0),.v (.slice none 0 0),.v (.slice none 0 0),I 0,.v (.slice none 0 0),.v (.slice none 0 0)] 95),(0,.cells (Zh p) 24)],8,38,[]⟩
attribute [go_sem] opE op0 op1 sBt sBf hBt hBf
theorem Zny {p:Pact} {n:Nat}:Ent 0 (op0 p n) (opE p n false false false false false false false false false):=by
 refine Zl6 [0,1,2,3,4,5,6,7] ?_ ?_ ?_ rfl rfl rfl<;>dsimp only [go_sem,rA,rM,rS]<;>simp +contextual [ZbD,ZbK,mt7,sBt,sBf,hBt,hBf,VN,VK,Zez,ZeI,Z8,Zev,ZeL,Zer,rho,KFL,KF,Zd,mtL,mtB,mtS,mtO,Zad,nbr]
theorem opT0 {p:Pact} {n:Nat} {Y:Hd} {K:Ex->St->Prop} {m E:Nat} {o1 o2 o3 o4 o5 o7:Bool} (hn:n<=1000) (h:LAT Try.prog Y 0 VQ m E (opE p n true o1 o2 o3 o4 o5 false o7 false) K):st1 Try.prog Y ZjK (opE p n false o1 o2 o3 o4 o5 false o7 false) (fun σ' K'=>∃ σc,Ent 0 σ' σc/\LAT Try.prog Y 0 VQ m E σc K') K:=by
 dsimp only [go_sem,rA,rM,rS]
 refine ⟨10000,rfl,by decide,?_⟩
 dsimp only [go_sem,rA,rM,rS]
 refine ⟨_,?_,h⟩
 refine Zl6 [0,1,8,3,4,5,6,7] ?_ ?_ ?_ rfl rfl rfl<;>dsimp only [go_sem,rA,rM,rS]<;>simp +contextual [ZbD,ZbK,mt7,sBt,sBf,hBt,hBf,VN,VK,Zez,ZeI,Z8,Zev,ZeL,Zer,rho,KFL,KF,Zd,mtL,mtB,mtS,mtO,Zad,nbr]
theorem opT1 {p:Pact} {n:Nat} {Y:Hd} {K:Ex->St->Prop} {m E:Nat} {o0 o2 o3 o4 o5 o7:Bool} (hn:n<=1000) (h:LAT Try.prog Y 0 VQ m E (opE p n o0 true o2 o3 o4 o5 false o7 false) K):st1 Try.prog Y Zii (opE p n o0 false o2 o3 o4 o5 false o7 false) (fun σ' K'=>∃ σc,Ent 0 σ' σc/\LAT Try.prog Y 0 VQ m E σc K') K:=by
 dsimp only [go_sem,rA,rM,rS]
 refine ⟨10000,rfl,by decide,?_⟩
 dsimp only [go_sem,rA,rM,rS]
 refine ⟨_,?_,h⟩
 refine Zl6 [0,1,2,8,4,5,6,7] ?_ ?_ ?_ rfl rfl rfl<;>dsimp only [go_sem,rA,rM,rS]<;>simp +contextual [ZbD,ZbK,mt7,sBt,sBf,hBt,hBf,VN,VK,Zez,ZeI,Z8,Zev,ZeL,Zer,rho,KFL,KF,Zd,mtL,mtB,mtS,mtO,Zad,nbr]
theorem opT2 {p:Pact} {n:Nat} {Y:Hd} {K:Ex->St->Prop} {m E:Nat} {o0 o1 o3 o4 o5 o7:Bool} (hn:n<=1000) (h:LAT Try.prog Y 0 VQ m E (opE p n o0 o1 true o3 o4 o5 false o7 false) K):st1 Try.prog Y Zky (opE p n o0 o1 false o3 o4 o5 false o7 false) (fun σ' K'=>∃ σc,Ent 0 σ' σc/\LAT Try.prog Y 0 VQ m E σc K') K:=by
 dsimp only [go_sem,rA,rM,rS]
 refine ⟨10000,rfl,by decide,?_⟩
 dsimp only [go_sem,rA,rM,rS]
 refine ⟨_,?_,h⟩
 refine Zl6 [0,1,2,3,8,5,6,7] ?_ ?_ ?_ rfl rfl rfl<;>dsimp only [go_sem,rA,rM,rS]<;>simp +contextual [ZbD,ZbK,mt7,sBt,sBf,hBt,hBf,VN,VK,Zez,ZeI,Z8,Zev,ZeL,Zer,rho,KFL,KF,Zd,mtL,mtB,mtS,mtO,Zad,nbr]
theorem opT3 {p:Pact} {n:Nat} {Y:Hd} {K:Ex->St->Prop} {m E:Nat} {o0 o1 o2 o4 o5 o7:Bool} (hn:n<=1000) (h:LAT Try.prog Y 0 VQ m E (opE p n o0 o1 o2 true o4 o5 false o7 false) K):st1 Try.prog Y ZkL (opE p n o0 o1 o2 false o4 o5 false o7 false) (fun σ' K'=>∃ σc,Ent 0 σ' σc/\LAT Try.prog Y 0 VQ m E σc K') K:=by
 dsimp only [go_sem,rA,rM,rS]
 refine ⟨10000,rfl,by decide,?_⟩
 dsimp only [go_sem,rA,rM,rS]
 refine ⟨_,?_,h⟩
 refine Zl6 [0,1,2,3,4,8,6,7] ?_ ?_ ?_ rfl rfl rfl<;>dsimp only [go_sem,rA,rM,rS]<;>simp +contextual [ZbD,ZbK,mt7,sBt,sBf,hBt,hBf,VN,VK,Zez,ZeI,Z8,Zev,ZeL,Zer,rho,KFL,KF,Zd,mtL,mtB,mtS,mtO,Zad,nbr]
theorem opT4 {p:Pact} {n:Nat} {Y:Hd} {K:Ex->St->Prop} {m E:Nat} {o0 o1 o2 o3 o5 o6 o7 o8:Bool} (hn:n<=1000) (h:LAT Try.prog Y 0 VQ m E (opE p n o0 o1 o2 o3 true o5 o6 o7 o8) K):st1 Try.prog Y Zk1 (opE p n o0 o1 o2 o3 false o5 o6 o7 o8) (fun σ' K'=>∃ σc,Ent 0 σ' σc/\LAT Try.prog Y 0 VQ m E σc K') K:=by
 dsimp only [go_sem,rA,rM,rS]
 refine ⟨_,?_,h⟩
 refine Zl6 [0,1,2,3,4,5,6,7] ?_ ?_ ?_ rfl rfl rfl<;>dsimp only [go_sem,rA,rM,rS]<;>simp +contextual [ZbD,ZbK,mt7,sBt,sBf,hBt,hBf,VN,VK,Zez,ZeI,Z8,Zev,ZeL,Zer,rho,KFL,KF,Zd,mtL,mtB,mtS,mtO,Zad,nbr]
theorem opT5 {p:Pact} {n:Nat} {Y:Hd} {K:Ex->St->Prop} {m E:Nat} {o0 o1 o2 o3 o7:Bool} (hn:n<=1000) (h:LAT Try.prog Y 0 VQ m E (opE p n o0 o1 o2 o3 true true false o7 false) K):st1 Try.prog Y Zjz (opE p n o0 o1 o2 o3 true false false o7 false) (fun σ' K'=>∃ σc,Ent 0 σ' σc/\LAT Try.prog Y 0 VQ m E σc K') K:=by
 dsimp only [go_sem,rA,rM,rS]
 refine ⟨n,rfl,by omega,?_⟩
 dsimp only [go_sem,rA,rM,rS]
 refine ⟨_,?_,h⟩
 refine Zl6 [0,1,2,3,4,5,8,7] ?_ ?_ ?_ rfl rfl rfl<;>dsimp only [go_sem,rA,rM,rS]<;>simp +contextual [ZbD,ZbK,mt7,sBt,sBf,hBt,hBf,VN,VK,Zez,ZeI,Z8,Zev,ZeL,Zer,rho,KFL,KF,Zd,mtL,mtB,mtS,mtO,Zad,nbr]
theorem opT6 {p:Pact} {n:Nat} {Y:Hd} {K:Ex->St->Prop} {m E:Nat} {o4 o7 o8:Bool} (hn:n<=1000) (h:LAT Try.prog Y 0 VQ m E (opE p n true true true true o4 true true o7 o8) K):st1 Try.prog Y Zls (opE p n true true true true o4 true false o7 o8) (fun σ' K'=>∃ σc,Ent 0 σ' σc/\LAT Try.prog Y 0 VQ m E σc K') K:=by
 dsimp only [go_sem,rA,rM,rS]
 refine ⟨_,?_,h⟩
 refine Zl6 [0,1,2,3,4,5,6,7] ?_ ?_ ?_ rfl rfl rfl<;>dsimp only [go_sem,rA,rM,rS]<;>simp +contextual [ZbD,ZbK,mt7,sBt,sBf,hBt,hBf,VN,VK,Zez,ZeI,Z8,Zev,ZeL,Zer,rho,KFL,KF,Zd,mtL,mtB,mtS,mtO,Zad,nbr]
theorem opT7 {p:Pact} {n:Nat} {Y:Hd} {K:Ex->St->Prop} {m E:Nat} {o0 o1 o2 o3 o4 o5 o6:Bool} (hn:n<=1000) (h:LAT Try.prog Y 0 VQ m E (opE p n o0 o1 o2 o3 o4 o5 o6 true false) K):st1 Try.prog Y Zjf (opE p n o0 o1 o2 o3 o4 o5 o6 false false) (fun σ' K'=>∃ σc,Ent 0 σ' σc/\LAT Try.prog Y 0 VQ m E σc K') K:=by
 dsimp only [go_sem,rA,rM,rS]
 refine ⟨_,?_,h⟩
 refine Zl6 [0,1,2,3,4,5,6,8] ?_ ?_ ?_ rfl rfl rfl<;>dsimp only [go_sem,rA,rM,rS]<;>simp +contextual [ZbD,ZbK,mt7,sBt,sBf,hBt,hBf,VN,VK,Zez,ZeI,Z8,Zev,ZeL,Zer,rho,KFL,KF,Zd,mtL,mtB,mtS,mtO,Zad,nbr]
theorem opT8 {p:Pact} {n:Nat} {Y:Hd} {K:Ex->St->Prop} {m E:Nat} (hn:n<=1000) (h:LAT Try.prog Y 0 VQ m E (opE p n true true true true true true true true true) K):st1 Try.prog Y Zly (opE p n true true true true true true true true false) (fun σ' K'=>∃ σc,Ent 0 σ' σc/\LAT Try.prog Y 0 VQ m E σc K') K:=by
 dsimp only [go_sem,rA,rM,rS]
 refine ⟨_,?_,h⟩
 refine Zl6 [0,1,2,3,4,5,6,7] ?_ ?_ ?_ rfl rfl rfl<;>dsimp only [go_sem,rA,rM,rS]<;>simp +contextual [ZbD,ZbK,mt7,sBt,sBf,hBt,hBf,VN,VK,Zez,ZeI,Z8,Zev,ZeL,Zer,rho,KFL,KF,Zd,mtL,mtB,mtS,mtO,Zad,nbr]
theorem Zzm {p:Pact} {n:Nat} {Y:Hd} {K:Ex->St->Prop} (hn:n<=1000) (hK:K .n (opE p n true true true true true true true true true)):∀ m D,(!Nat.testBit D 0).toNat+(!Nat.testBit D 1).toNat+(!Nat.testBit D 2).toNat+(!Nat.testBit D 3).toNat+(!Nat.testBit D 4).toNat+(!Nat.testBit D 5).toNat+(!Nat.testBit D 6).toNat+(!Nat.testBit D 7).toNat+(!Nat.testBit D 8).toNat=m->(Nat.testBit D 6=true->Nat.testBit D 0=true/\Nat.testBit D 1=true/\Nat.testBit D 2=true/\Nat.testBit D 3=true/\Nat.testBit D 5=true)->(Nat.testBit D 8=true->Nat.testBit D 7=true/\Nat.testBit D 6=true)->LAT Try.prog Y 0 VQ m D (opE p n (Nat.testBit D 0) (Nat.testBit D 1) (Nat.testBit D 2) (Nat.testBit D 3) (Nat.testBit D 4) (Nat.testBit D 5) (Nat.testBit D 6) (Nat.testBit D 7) (Nat.testBit D 8)) K
 | 0,D,hm,i6,i8=>by
  rw [tn (b:=Nat.testBit D 0) (by omega),tn (b:=Nat.testBit D 1) (by omega),tn (b:=Nat.testBit D 2) (by omega),tn (b:=Nat.testBit D 3) (by omega),tn (b:=Nat.testBit D 4) (by omega),tn (b:=Nat.testBit D 5) (by omega),tn (b:=Nat.testBit D 6) (by omega),tn (b:=Nat.testBit D 7) (by omega),tn (b:=Nat.testBit D 8) (by omega)]
  exact hK
 | m+1,D,hm,i6,i8=>by
  intro i x hx hb ha
  have ih:=Zzm (p:=p) (Y:=Y) hn hK m (D ||| 2 ^ i)
  rcases i with _ | _ | _ | _ | _ | _ | _ | _ | _ | i
  . obtain rfl:ZjK=x:=by simpa [VQ] using hx
    simp only [ZjK,Nat.zero_add,Nat.reduceAdd,List.all_cons,List.all_nil,Bool.and_true,Bool.and_eq_true] at hb ha
    simp only [Nat.testBit_or,Nat.testBit_two_pow] at ih
    simp [-Nat.testBit_zero] at ih
    have b6:Nat.testBit D 6=false:=by cases h:Nat.testBit D 6<;>simp_all [-Nat.testBit_zero]
    have b8:Nat.testBit D 8=false:=by cases h:Nat.testBit D 8<;>simp_all [-Nat.testBit_zero]
    simp only [hb,b6,b8] at hm ⊢
    simp only [b6,b8] at ih
    apply opT0 hn;apply ih<;>first | (simp [-Nat.testBit_zero] at hm ⊢;omega) | simp_all [-Nat.testBit_zero]
  . obtain rfl:Zii=x:=by simpa [VQ] using hx
    simp only [Zii,Nat.zero_add,Nat.reduceAdd,List.all_cons,List.all_nil,Bool.and_true,Bool.and_eq_true] at hb ha
    simp only [Nat.testBit_or,Nat.testBit_two_pow] at ih
    simp [-Nat.testBit_zero] at ih
    have b6:Nat.testBit D 6=false:=by cases h:Nat.testBit D 6<;>simp_all [-Nat.testBit_zero]
    have b8:Nat.testBit D 8=false:=by cases h:Nat.testBit D 8<;>simp_all [-Nat.testBit_zero]
    simp only [hb,b6,b8] at hm ⊢
    simp only [b6,b8] at ih
    apply opT1 hn;apply ih<;>first | (simp [-Nat.testBit_zero] at hm ⊢;omega) | simp_all [-Nat.testBit_zero]
  . obtain rfl:Zky=x:=by simpa [VQ] using hx
    simp only [Zky,Nat.zero_add,Nat.reduceAdd,List.all_cons,List.all_nil,Bool.and_true,Bool.and_eq_true] at hb ha
    simp only [Nat.testBit_or,Nat.testBit_two_pow] at ih
    simp [-Nat.testBit_zero] at ih
    have b6:Nat.testBit D 6=false:=by cases h:Nat.testBit D 6<;>simp_all [-Nat.testBit_zero]
    have b8:Nat.testBit D 8=false:=by cases h:Nat.testBit D 8<;>simp_all [-Nat.testBit_zero]
    simp only [hb,b6,b8] at hm ⊢
    simp only [b6,b8] at ih
    apply opT2 hn;apply ih<;>first | (simp [-Nat.testBit_zero] at hm ⊢;omega) | simp_all [-Nat.testBit_zero]
  . obtain rfl:ZkL=x:=by simpa [VQ] using hx
    simp only [ZkL,Nat.zero_add,Nat.reduceAdd,List.all_cons,List.all_nil,Bool.and_true,Bool.and_eq_true] at hb ha
    simp only [Nat.testBit_or,Nat.testBit_two_pow] at ih
    simp [-Nat.testBit_zero] at ih
    have b6:Nat.testBit D 6=false:=by cases h:Nat.testBit D 6<;>simp_all [-Nat.testBit_zero]
    have b8:Nat.testBit D 8=false:=by cases h:Nat.testBit D 8<;>simp_all [-Nat.testBit_zero]
    simp only [hb,b6,b8] at hm ⊢
    simp only [b6,b8] at ih
    apply opT3 hn;apply ih<;>first | (simp [-Nat.testBit_zero] at hm ⊢;omega) | simp_all [-Nat.testBit_zero]
  . obtain rfl:Zk1=x:=by simpa [VQ] using hx
    simp only [Zk1,Nat.zero_add,Nat.reduceAdd,List.all_cons,List.all_nil,Bool.and_true,Bool.and_eq_true] at hb ha
    simp only [Nat.testBit_or,Nat.testBit_two_pow] at ih
    simp [-Nat.testBit_zero] at ih
    simp only [hb] at hm ⊢
    apply opT4 hn;apply ih<;>first | (simp [-Nat.testBit_zero] at hm ⊢;omega) | simp_all [-Nat.testBit_zero]
  . obtain rfl:Zjz=x:=by simpa [VQ] using hx
    simp only [Zjz,Nat.zero_add,Nat.reduceAdd,List.all_cons,List.all_nil,Bool.and_true,Bool.and_eq_true] at hb ha
    simp only [Nat.testBit_or,Nat.testBit_two_pow] at ih
    simp [-Nat.testBit_zero] at ih
    have a4:=ha
    have b6:Nat.testBit D 6=false:=by cases h:Nat.testBit D 6<;>simp_all [-Nat.testBit_zero]
    have b8:Nat.testBit D 8=false:=by cases h:Nat.testBit D 8<;>simp_all [-Nat.testBit_zero]
    simp only [hb,a4,b6,b8] at hm ⊢
    simp only [a4,b6,b8] at ih
    apply opT5 hn;apply ih<;>first | (simp [-Nat.testBit_zero] at hm ⊢;omega) | simp_all [-Nat.testBit_zero]
  . obtain rfl:Zls=x:=by simpa [VQ] using hx
    simp only [Zls,Nat.zero_add,Nat.reduceAdd,List.all_cons,List.all_nil,Bool.and_true,Bool.and_eq_true] at hb ha
    simp only [Nat.testBit_or,Nat.testBit_two_pow] at ih
    simp [-Nat.testBit_zero] at ih
    obtain ⟨a0,a1,a2,a3,a5⟩:=ha
    simp only [hb,a0,a1,a2,a3,a5] at hm ⊢
    simp only [a0,a1,a2,a3,a5] at ih
    apply opT6 hn;apply ih<;>first | (simp [-Nat.testBit_zero] at hm ⊢;omega) | simp_all [-Nat.testBit_zero]
  . obtain rfl:Zjf=x:=by simpa [VQ] using hx
    simp only [Zjf,Nat.zero_add,Nat.reduceAdd,List.all_cons,List.all_nil,Bool.and_true,Bool.and_eq_true] at hb ha
    simp only [Nat.testBit_or,Nat.testBit_two_pow] at ih
    simp [-Nat.testBit_zero] at ih
    have b8:Nat.testBit D 8=false:=by cases h:Nat.testBit D 8<;>simp_all [-Nat.testBit_zero]
    simp only [hb,b8] at hm ⊢
    simp only [b8] at ih
    apply opT7 hn;apply ih<;>first | (simp [-Nat.testBit_zero] at hm ⊢;omega) | simp_all [-Nat.testBit_zero]
  . obtain rfl:Zly=x:=by simpa [VQ] using hx
    simp only [Zly,Nat.zero_add,Nat.reduceAdd,List.all_cons,List.all_nil,Bool.and_true,Bool.and_eq_true] at hb ha
    simp only [Nat.testBit_or,Nat.testBit_two_pow] at ih
    simp [-Nat.testBit_zero] at ih
    obtain ⟨a0,a1,a2,a3,a4,a5,a6,a7⟩:=ha
    simp only [hb,a0,a1,a2,a3,a4,a5,a6,a7] at hm ⊢
    simp only [a0,a1,a2,a3,a4,a5,a6,a7] at ih
    apply opT8 hn;apply ih<;>first | (simp [-Nat.testBit_zero] at hm ⊢;omega) | simp_all [-Nat.testBit_zero]
  . simp [VQ] at hx
theorem opReg {p:Pact} {n:Nat} {Y:Hd} {K:Ex->St->Prop} (hn:n<=1000) (hK:∀ σF,σF=opE p n true true true true true true true true true->K .n σF):LAT Try.prog Y 0 VQ 9 0 (opE p n false false false false false false false false false) K:=by
 have h:=Zzm (p:=p) (Y:=Y) (K:=K) hn (hK _ rfl) 9 0 (by simp) (by simp) (by simp)
 simpa using h
theorem ZsH (M:List (List Int)) (r:List Int) (x:SV):(M.map fX ++ [[x]]).set (M.map hI).length ([x].set 0 .any)=(M ++ [r]).map fX:=by
 rw [List.length_map,List.set_append_right _ _ (by simp),List.length_map,Nat.sub_self]
 simp [fX]
theorem ZuS (M:List (List Int)) (n:Nat):M.map hI ++ [zI n]=(M ++ [List.replicate n (0:Int)]).map hI:=by simp [hI,zI,Zl]
def ow0 (p:Pact) (xO xS xD xK xE:List (List SV)) (n i:Nat) (M:List (List Int)) (ver:Nat):St:=⟨[(6,I (i:Int)),(4,.p 7 0),(3,I (n:Int)),(2,.p 1 0)],[(7,.cells [.mr 2 0,.mr 3 0,.mr 4 0,.mr 5 0,I 0,.mr 6 0,.mr 8 ver] 95),(8,.rws ver 1 (M.map fX) 27 0 1 (M.map hI) 3),(6,.row 0 1 xE 3),(5,.row 0 1 xK 4),(4,.row 0 1 xD 4),(3,.row 0 1 xS 3),(2,.row 0 1 xO 3),(1,.cells [.v (.slice none 0 0),.v (.slice none 0 0),.v (.slice none 0 0),.v (.slice none 0 0),I 0,.v (.slice none 0 0),.v (.slice none 0 0)] 95),(0,.cells (Zh p) 24)],9,38,[]⟩
def ow1 (p:Pact) (xO xS xD xK xE:List (List SV)) (n i:Nat) (M:List (List Int)) (ver:Nat):St:=⟨[(30,.p 7 6),(6,I (i:Int)),(4,.p 7 0),(3,I (n:Int)),(2,.p 1 0)],[(7,.cells [.mr 2 0,.mr 3 0,.mr 4 0,.mr 5 0,I 0,.mr 6 0,.mr 8 ver] 95),(8,.rws ver 1 (M.map fX) 27 0 1 (M.map hI) 3),(6,.row 0 1 xE 3),(5,.row 0 1 xK 4),(4,.row 0 1 xD 4),(3,.row 0 1 xS 3),(2,.row 0 1 xO 3),(1,.cells [.v (.slice none 0 0),.v (.slice none 0 0),.v (.slice none 0 0),.v (.slice none 0 0),I 0,.v (.slice none 0 0),.v (.slice none 0 0)] 95),(0,.cells (Zh p) 24)],9,38,[]⟩
def ow3 (p:Pact) (xO xS xD xK xE:List (List SV)) (n i:Nat) (M:List (List Int)) (ver:Nat):St:=⟨[(31,.mr 8 ver),(6,I (i:Int)),(4,.p 7 0),(3,I (n:Int)),(2,.p 1 0)],[(7,.cells [.mr 2 0,.mr 3 0,.mr 4 0,.mr 5 0,I 0,.mr 6 0,.mr 8 ver] 95),(8,.rws ver 1 (M.map fX) 27 0 1 (M.map hI) 3),(6,.row 0 1 xE 3),(5,.row 0 1 xK 4),(4,.row 0 1 xD 4),(3,.row 0 1 xS 3),(2,.row 0 1 xO 3),(1,.cells [.v (.slice none 0 0),.v (.slice none 0 0),.v (.slice none 0 0),.v (.slice none 0 0),I 0,.v (.slice none 0 0),.v (.slice none 0 0)] 95),(0,.cells (Zh p) 24)],9,38,[]⟩
def ow4 (p:Pact) (xO xS xD xK xE:List (List SV)) (n i:Nat) (M:List (List Int)) (ver:Nat):St:=⟨[(32,I (n:Int)),(6,I (i:Int)),(4,.p 7 0),(3,I (n:Int)),(2,.p 1 0)],[(7,.cells [.mr 2 0,.mr 3 0,.mr 4 0,.mr 5 0,I 0,.mr 6 0,.mr 8 ver] 95),(8,.rws ver 1 (M.map fX) 27 0 1 (M.map hI) 3),(6,.row 0 1 xE 3),(5,.row 0 1 xK 4),(4,.row 0 1 xD 4),(3,.row 0 1 xS 3),(2,.row 0 1 xO 3),(1,.cells [.v (.slice none 0 0),.v (.slice none 0 0),.v (.slice none 0 0),.v (.slice none 0 0),I 0,.v (.slice none 0 0),.v (.slice none 0 0)] 95),(0,.cells (Zh p) 24)],9,38,[]⟩
def ow5 (p:Pact) (xO xS xD xK xE:List (List SV)) (n i:Nat) (M:List (List Int)) (ver:Nat):St:=⟨[(30,.p 7 6),(32,I (n:Int)),(6,I (i:Int)),(4,.p 7 0),(3,I (n:Int)),(2,.p 1 0)],[(7,.cells [.mr 2 0,.mr 3 0,.mr 4 0,.mr 5 0,I 0,.mr 6 0,.mr 8 ver] 95),(8,.rws ver 1 (M.map fX) 27 0 1 (M.map hI) 3),(6,.row 0 1 xE 3),(5,.row 0 1 xK 4),(4,.row 0 1 xD 4),(3,.row 0 1 xS 3),(2,.row 0 1 xO 3),(1,.cells [.v (.slice none 0 0),.v (.slice none 0 0),.v (.slice none 0 0),.v (.slice none 0 0),I 0,.v (.slice none 0 0),.v (.slice none 0 0)] 95),(0,.cells (Zh p) 24)],9,38,[]⟩
def ow7 (p:Pact) (xO xS xD xK xE:List (List SV)) (n i:Nat) (M:List (List Int)) (ver:Nat):St:=⟨[(31,.mr 8 ver),(32,I (n:Int)),(6,I (i:Int)),(4,.p 7 0),(3,I (n:Int)),(2,.p 1 0)],[(7,.cells [.mr 2 0,.mr 3 0,.mr 4 0,.mr 5 0,I 0,.mr 6 0,.mr 8 ver] 95),(8,.rws ver 1 (M.map fX) 27 0 1 (M.map hI) 3),(6,.row 0 1 xE 3),(5,.row 0 1 xK 4),(4,.row 0 1 xD 4),(3,.row 0 1 xS 3),(2,.row 0 1 xO 3),(1,.cells [.v (.slice none 0 0),.v (.slice none 0 0),.v (.slice none 0 0),.v (.slice none 0 0),I 0,.v (.slice none 0 0),.v (.slice none 0 0)] 95),(0,.cells (Zh p) 24)],9,38,[]⟩
def ZBr (p:Pact) (xO xS xD xK xE:List (List SV)) (n i:Nat) (M:List (List Int)) (ver:Nat):St:=⟨[(33,.mr 9 0),(6,I (i:Int)),(4,.p 7 0),(3,I (n:Int)),(2,.p 1 0)],[(9,.row 0 1 (zI n) 3),(7,.cells [.mr 2 0,.mr 3 0,.mr 4 0,.mr 5 0,I 0,.mr 6 0,.mr 8 ver] 95),(8,.rws ver 1 (M.map fX) 27 0 1 (M.map hI) 3),(6,.row 0 1 xE 3),(5,.row 0 1 xK 4),(4,.row 0 1 xD 4),(3,.row 0 1 xS 3),(2,.row 0 1 xO 3),(1,.cells [.v (.slice none 0 0),.v (.slice none 0 0),.v (.slice none 0 0),.v (.slice none 0 0),I 0,.v (.slice none 0 0),.v (.slice none 0 0)] 95),(0,.cells (Zh p) 24)],10,38,[]⟩
def ZxX (p:Pact) (xO xS xD xK xE:List (List SV)) (n i:Nat) (M:List (List Int)) (ver:Nat):St:=⟨[(30,.p 7 6),(33,.mr 9 0),(6,I (i:Int)),(4,.p 7 0),(3,I (n:Int)),(2,.p 1 0)],[(9,.row 0 1 (zI n) 3),(7,.cells [.mr 2 0,.mr 3 0,.mr 4 0,.mr 5 0,I 0,.mr 6 0,.mr 8 ver] 95),(8,.rws ver 1 (M.map fX) 27 0 1 (M.map hI) 3),(6,.row 0 1 xE 3),(5,.row 0 1 xK 4),(4,.row 0 1 xD 4),(3,.row 0 1 xS 3),(2,.row 0 1 xO 3),(1,.cells [.v (.slice none 0 0),.v (.slice none 0 0),.v (.slice none 0 0),.v (.slice none 0 0),I 0,.v (.slice none 0 0),.v (.slice none 0 0)] 95),(0,.cells (Zh p) 24)],10,38,[]⟩
def ZBi (p:Pact) (xO xS xD xK xE:List (List SV)) (n i:Nat) (M:List (List Int)) (ver:Nat):St:=⟨[(31,.mr 8 ver),(33,.mr 9 0),(6,I (i:Int)),(4,.p 7 0),(3,I (n:Int)),(2,.p 1 0)],[(9,.row 0 1 (zI n) 3),(7,.cells [.mr 2 0,.mr 3 0,.mr 4 0,.mr 5 0,I 0,.mr 6 0,.mr 8 ver] 95),(8,.rws ver 1 (M.map fX) 27 0 1 (M.map hI) 3),(6,.row 0 1 xE 3),(5,.row 0 1 xK 4),(4,.row 0 1 xD 4),(3,.row 0 1 xS 3),(2,.row 0 1 xO 3),(1,.cells [.v (.slice none 0 0),.v (.slice none 0 0),.v (.slice none 0 0),.v (.slice none 0 0),I 0,.v (.slice none 0 0),.v (.slice none 0 0)] 95),(0,.cells (Zh p) 24)],10,38,[]⟩
def ow28 (p:Pact) (xO xS xD xK xE:List (List SV)) (n i:Nat) (M:List (List Int)) (ver:Nat):St:=⟨[(34,.sl true 1 [[.mr 9 0]]),(6,I (i:Int)),(4,.p 7 0),(3,I (n:Int)),(2,.p 1 0)],[(9,.row 0 1 (zI n) 3),(7,.cells [.mr 2 0,.mr 3 0,.mr 4 0,.mr 5 0,I 0,.mr 6 0,.mr 8 ver] 95),(8,.rws ver 1 (M.map fX) 27 0 1 (M.map hI) 3),(6,.row 0 1 xE 3),(5,.row 0 1 xK 4),(4,.row 0 1 xD 4),(3,.row 0 1 xS 3),(2,.row 0 1 xO 3),(1,.cells [.v (.slice none 0 0),.v (.slice none 0 0),.v (.slice none 0 0),.v (.slice none 0 0),I 0,.v (.slice none 0 0),.v (.slice none 0 0)] 95),(0,.cells (Zh p) 24)],10,38,[]⟩
def ZA9 (p:Pact) (xO xS xD xK xE:List (List SV)) (n i:Nat) (M:List (List Int)) (ver:Nat):St:=⟨[(30,.p 7 6),(34,.sl true 1 [[.mr 9 0]]),(6,I (i:Int)),(4,.p 7 0),(3,I (n:Int)),(2,.p 1 0)],[(9,.row 0 1 (zI n) 3),(7,.cells [.mr 2 0,.mr 3 0,.mr 4 0,.mr 5 0,I 0,.mr 6 0,.mr 8 ver] 95),(8,.rws ver 1 (M.map fX) 27 0 1 (M.map hI) 3),(6,.row 0 1 xE 3),(5,.row 0 1 xK 4),(4,.row 0 1 xD 4),(3,.row 0 1 xS 3),(2,.row 0 1 xO 3),(1,.cells [.v (.slice none 0 0),.v (.slice none 0 0),.v (.slice none 0 0),.v (.slice none 0 0),I 0,.v (.slice none 0 0),.v (.slice none 0 0)] 95),(0,.cells (Zh p) 24)],10,38,[]⟩
def ZBd (p:Pact) (xO xS xD xK xE:List (List SV)) (n i:Nat) (M:List (List Int)) (ver:Nat):St:=⟨[(31,.mr 8 ver),(34,.sl true 1 [[.mr 9 0]]),(6,I (i:Int)),(4,.p 7 0),(3,I (n:Int)),(2,.p 1 0)],[(9,.row 0 1 (zI n) 3),(7,.cells [.mr 2 0,.mr 3 0,.mr 4 0,.mr 5 0,I 0,.mr 6 0,.mr 8 ver] 95),(8,.rws ver 1 (M.map fX) 27 0 1 (M.map hI) 3),(6,.row 0 1 xE 3),(5,.row 0 1 xK 4),(4,.row 0 1 xD 4),(3,.row 0 1 xS 3),(2,.row 0 1 xO 3),(1,.cells [.v (.slice none 0 0),.v (.slice none 0 0),.v (.slice none 0 0),.v (.slice none 0 0),I 0,.v (.slice none 0 0),.v (.slice none 0 0)] 95),(0,.cells (Zh p) 24)],10,38,[]⟩
def ow63 (p:Pact) (xO xS xD xK xE:List (List SV)) (n i:Nat) (M:List (List Int)) (ver:Nat):St:=⟨[(35,.mr 8 (ver+1+(M.map hI).length)),(6,I (i:Int)),(4,.p 7 0),(3,I (n:Int)),(2,.p 1 0)],[(7,.cells [.mr 2 0,.mr 3 0,.mr 4 0,.mr 5 0,I 0,.mr 6 0,.mr 8 ver] 95),(8,.rws (ver+1+(M.map hI).length) 1 ((M ++ [List.replicate n (0:Int)]).map fX) 27 0 1 ((M ++ [List.replicate n (0:Int)]).map hI) 3),(6,.row 0 1 xE 3),(5,.row 0 1 xK 4),(4,.row 0 1 xD 4),(3,.row 0 1 xS 3),(2,.row 0 1 xO 3),(1,.cells [.v (.slice none 0 0),.v (.slice none 0 0),.v (.slice none 0 0),.v (.slice none 0 0),I 0,.v (.slice none 0 0),.v (.slice none 0 0)] 95),(0,.cells (Zh p) 24)],10,38,[]⟩
def Zuc (p:Pact) (xO xS xD xK xE:List (List SV)) (n i:Nat) (M:List (List Int)) (ver:Nat):St:=⟨[(35,.mr 8 (ver+1+(M.map hI).length)),(36,.p 7 6),(6,I (i:Int)),(4,.p 7 0),(3,I (n:Int)),(2,.p 1 0)],[(7,.cells [.mr 2 0,.mr 3 0,.mr 4 0,.mr 5 0,I 0,.mr 6 0,.mr 8 ver] 95),(8,.rws (ver+1+(M.map hI).length) 1 ((M ++ [List.replicate n (0:Int)]).map fX) 27 0 1 ((M ++ [List.replicate n (0:Int)]).map hI) 3),(6,.row 0 1 xE 3),(5,.row 0 1 xK 4),(4,.row 0 1 xD 4),(3,.row 0 1 xS 3),(2,.row 0 1 xO 3),(1,.cells [.v (.slice none 0 0),.v (.slice none 0 0),.v (.slice none 0 0),.v (.slice none 0 0),I 0,.v (.slice none 0 0),.v (.slice none 0 0)] 95),(0,.cells (Zh p) 24)],10,38,[]⟩
def Zog (p:Pact) (xO xS xD xK xE:List (List SV)) (n i:Nat) (M:List (List Int)) (ver:Nat):St:=⟨[(6,I (i:Int)),(4,.p 7 0),(3,I (n:Int)),(2,.p 1 0)],[(7,.cells [.mr 2 0,.mr 3 0,.mr 4 0,.mr 5 0,I 0,.mr 6 0,.mr 8 (ver+1+(M.map hI).length)] 95),(8,.rws (ver+1+(M.map hI).length) 1 ((M ++ [List.replicate n (0:Int)]).map fX) 27 0 1 ((M ++ [List.replicate n (0:Int)]).map hI) 3),(6,.row 0 1 xE 3),(5,.row 0 1 xK 4),(4,.row 0 1 xD 4),(3,.row 0 1 xS 3),(2,.row 0 1 xO 3),(1,.cells [.v (.slice none 0 0),.v (.slice none 0 0),.v (.slice none 0 0),.v (.slice none 0 0),I 0,.v (.slice none 0 0),.v (.slice none 0 0)] 95),(0,.cells (Zh p) 24)],10,38,[]⟩
theorem owReg (p:Pact) (xO xS xD xK xE:List (List SV)) (n i:Nat) (M:List (List Int)) (ver:Nat) (Y:Hd) (K:Ex->St->Prop) (kO:KFR xO) (kS:KFR xS) (kD:KFR xD) (kK:KFR xK) (kE:KFR xE) (hn:n<=1000) (hM:M.length<=1000) (hK:∀ σF,σF=Zog p xO xS xD xK xE n i M ver->K .n σF):LAT Try.prog Y 0 Zde 8 0 (ow0 p xO xS xD xK xE n i M ver) K:=by
 have h255:LAT Try.prog Y 0 Zde 0 255 (Zog p xO xS xD xK xE n i M ver) K:=hK _ rfl
 have h127:LAT Try.prog Y 0 Zde 1 127 (Zuc p xO xS xD xK xE n i M ver) K:=by
  refine YH [(7,ZuW)] (by kernel_rfl) ?_
  refine Y6 ?_ ?_
  . dsimp only [Zuc,go_sem,rA,rM,rS]
    refine ⟨_,?_,h255⟩
    refine Zi ?_ ?_ ?_ rfl rfl<;>dsimp only [Zog,id,go_sem,rA,rM,rS]<;>simp +contextual [VN,VK,Zez,ZeI,Z8,Wh,XO,kO,kS,kD,kK,kE,Zev,ZeL,Zer,Zb,Ze,KFR,KFL,KF,Zd,mtL,mtB,mtS,mtO,Zad,nbr]<;>(intro r hr;rcases hr with ⟨x,_,rfl⟩ | rfl<;>(rw [XO];trivial))
  exact X3
 have h63:LAT Try.prog Y 0 Zde 2 63 (ow63 p xO xS xD xK xE n i M ver) K:=by
  refine YH [(6,Ztt)] (by kernel_rfl) ?_
  refine Y6 ?_ ?_
  . dsimp only [ow63,go_sem,rA,rM,rS]
    refine ⟨_,YZ ?_ (Xz ?_),h127⟩
    . repeat first | exact trivial | refine ⟨.inr (.inr rfl),?_⟩
    . simp [Zuc,ngF]
  exact X3
 have h31:LAT Try.prog Y 0 Zde 3 31 (ZBd p xO xS xD xK xE n i M ver) K:=by
  refine YH [(5,ZvP)] (by kernel_rfl) ?_
  refine Y6 ?_ ?_
  . dsimp only [ZBd,go_sem,rA,rM,rS]
    refine Zrg (k:=8) (v:=ver) (m:=1) (o:=0) (m':=1) (xs:=M.map fX) (ys:=[[.mr 9 0]]) (inn:=M.map hI) (T:=27) (T':=3) (t:=93) (bs:=24) rfl rfl rfl rfl rfl (by kernel_rfl) (by kernel_rfl) (by kernel_rfl) (by kernel_rfl) rfl rfl (by intro c hc;simp only [List.mem_singleton] at hc;subst hc;rfl) (by simp) (by simp;omega) rfl rfl ?_
    dsimp only [go_sem,rA,rM,rS]
    refine ⟨_,YF (Zj6 8 9 [.mr 9 0] rfl rfl rfl (by rw [List.length_map,List.getElem?_append_right (by simp),List.length_map,Nat.sub_self];rfl) rfl) ?_,h63⟩
    rw [ZsH M (List.replicate n 0),ZuS M n]
    refine Zi ?_ ?_ ?_ rfl rfl<;>dsimp only [ow63,id,go_sem,rA,rM,rS]<;>simp +contextual [VN,VK,Zez,ZeI,Z8,Wh,XO,kO,kS,kD,kK,kE,Zev,ZeL,Zer,Zb,Ze,KFR,KFL,KF,Zd,mtL,mtB,mtS,mtO,Zad,nbr]<;>(intro r hr;rcases hr with ⟨x,_,rfl⟩ | rfl<;>(rw [XO];trivial))
  exact X3
 have h15:LAT Try.prog Y 0 Zde 4 15 (ZBi p xO xS xD xK xE n i M ver) K:=by
  refine YH [(4,Zlc)] (by kernel_rfl) ?_
  refine Y6 ?_ ?_
  . dsimp only [ZBi,go_sem,rA,rM,rS]
    refine ⟨_,YZ ?_ (Xz ?_),h31⟩
    . repeat first | exact trivial | refine ⟨.inr (.inr rfl),?_⟩
    . simp [ZBd,ngF]
  exact X3
 have h29:LAT Try.prog Y 0 Zde 4 29 (ZA9 p xO xS xD xK xE n i M ver) K:=by
  refine YH [(1,Zgh)] (by kernel_rfl) ?_
  refine Y6 ?_ ?_
  . dsimp only [ZA9,go_sem,rA,rM,rS]
    refine ⟨_,YZ ?_ (Xz ?_),h31⟩
    . repeat first | exact trivial | refine ⟨.inr (.inr rfl),?_⟩
    . simp [ZBd,ngF]
  exact X3
 have h7:LAT Try.prog Y 0 Zde 5 7 (ow7 p xO xS xD xK xE n i M ver) K:=by
  refine YH [(3,Ziu)] (by kernel_rfl) ?_
  refine Y6 ?_ ?_
  . dsimp only [ow7,go_sem,rA,rM,rS]
    refine ⟨n,rfl,by omega,?_⟩
    dsimp only [go_sem,rA,rM,rS]
    refine ⟨_,?_,h15⟩
    refine Zi ?_ ?_ ?_ rfl rfl<;>dsimp only [ZBi,id,go_sem,rA,rM,rS]<;>simp +contextual [VN,VK,Zez,ZeI,Z8,Wh,XO,kO,kS,kD,kK,kE,Zev,ZeL,Zer,Zb,Ze,KFR,KFL,KF,Zd,mtL,mtB,mtS,mtO,Zad,nbr]<;>(intro r hr;rcases hr with ⟨x,_,rfl⟩ | rfl<;>(rw [XO];trivial))
  exact X3
 have h13:LAT Try.prog Y 0 Zde 5 13 (ZxX p xO xS xD xK xE n i M ver) K:=by
  refine YH [(1,Zgh),(4,Zlc)] (by kernel_rfl) ?_
  refine Y6 ?_ ?_
  . dsimp only [ZxX,go_sem,rA,rM,rS]
    refine ⟨_,YZ ?_ (Xz ?_),h15⟩
    . repeat first | exact trivial | refine ⟨.inr (.inr rfl),?_⟩
    . simp [ZBi,ngF]
  refine Y6 ?_ ?_
  . dsimp only [ZxX,go_sem,rA,rM,rS]
    refine ⟨_,YZ ?_ (Xz ?_),h29⟩
    . repeat first | exact trivial | refine ⟨.inr (.inr rfl),?_⟩
    . simp [ZA9,ngF]
  exact X3
 have h28:LAT Try.prog Y 0 Zde 5 28 (ow28 p xO xS xD xK xE n i M ver) K:=by
  refine YH [(0,ZgA)] (by kernel_rfl) ?_
  refine Y6 ?_ ?_
  . dsimp only [ow28,go_sem,rA,rM,rS]
    refine ⟨_,YZ ?_ (Xz ?_),h29⟩
    . repeat first | exact trivial | refine ⟨.inr (.inr rfl),?_⟩
    . simp [ZA9,ngF]
  exact X3
 have h3:LAT Try.prog Y 0 Zde 6 3 (ow3 p xO xS xD xK xE n i M ver) K:=by
  refine YH [(2,Zli)] (by kernel_rfl) ?_
  refine Y6 ?_ ?_
  . dsimp only [ow3,go_sem,rA,rM,rS]
    refine ⟨_,YZ ?_ (Xz ?_),h7⟩
    . repeat first | exact trivial | refine ⟨.inr (.inr rfl),?_⟩
    . simp [ow7,ngF]
  exact X3
 have h5:LAT Try.prog Y 0 Zde 6 5 (ow5 p xO xS xD xK xE n i M ver) K:=by
  refine YH [(1,Zgh),(3,Ziu)] (by kernel_rfl) ?_
  refine Y6 ?_ ?_
  . dsimp only [ow5,go_sem,rA,rM,rS]
    refine ⟨_,YZ ?_ (Xz ?_),h7⟩
    . repeat first | exact trivial | refine ⟨.inr (.inr rfl),?_⟩
    . simp [ow7,ngF]
  refine Y6 ?_ ?_
  . dsimp only [ow5,go_sem,rA,rM,rS]
    refine ⟨n,rfl,by omega,?_⟩
    dsimp only [go_sem,rA,rM,rS]
    refine ⟨_,?_,h13⟩
    refine Zi ?_ ?_ ?_ rfl rfl<;>dsimp only [ZxX,id,go_sem,rA,rM,rS]<;>simp +contextual [VN,VK,Zez,ZeI,Z8,Wh,XO,kO,kS,kD,kK,kE,Zev,ZeL,Zer,Zb,Ze,KFR,KFL,KF,Zd,mtL,mtB,mtS,mtO,Zad,nbr]<;>(intro r hr;rcases hr with ⟨x,_,rfl⟩ | rfl<;>(rw [XO];trivial))
  exact X3
 have h12:LAT Try.prog Y 0 Zde 6 12 (ZBr p xO xS xD xK xE n i M ver) K:=by
  refine YH [(0,ZgA),(4,Zlc)] (by kernel_rfl) ?_
  refine Y6 ?_ ?_
  . dsimp only [ZBr,go_sem,rA,rM,rS]
    refine ⟨_,YZ ?_ (Xz ?_),h13⟩
    . repeat first | exact trivial | refine ⟨.inr (.inr rfl),?_⟩
    . simp [ZxX,ngF]
  refine Y6 ?_ ?_
  . dsimp only [ZBr,go_sem,rA,rM,rS]
    refine ⟨_,YZ ?_ (Xz ?_),h28⟩
    . repeat first | exact trivial | refine ⟨.inr (.inr rfl),?_⟩
    . simp [ow28,ngF]
  exact X3
 have h1:LAT Try.prog Y 0 Zde 7 1 (ow1 p xO xS xD xK xE n i M ver) K:=by
  refine YH [(1,Zgh),(2,Zli)] (by kernel_rfl) ?_
  refine Y6 ?_ ?_
  . dsimp only [ow1,go_sem,rA,rM,rS]
    refine ⟨_,YZ ?_ (Xz ?_),h3⟩
    . repeat first | exact trivial | refine ⟨.inr (.inr rfl),?_⟩
    . simp [ow3,ngF]
  refine Y6 ?_ ?_
  . dsimp only [ow1,go_sem,rA,rM,rS]
    refine ⟨_,YZ ?_ (Xz ?_),h5⟩
    . repeat first | exact trivial | refine ⟨.inr (.inr rfl),?_⟩
    . simp [ow5,ngF]
  exact X3
 have h4:LAT Try.prog Y 0 Zde 7 4 (ow4 p xO xS xD xK xE n i M ver) K:=by
  refine YH [(0,ZgA),(3,Ziu)] (by kernel_rfl) ?_
  refine Y6 ?_ ?_
  . dsimp only [ow4,go_sem,rA,rM,rS]
    refine ⟨_,YZ ?_ (Xz ?_),h5⟩
    . repeat first | exact trivial | refine ⟨.inr (.inr rfl),?_⟩
    . simp [ow5,ngF]
  refine Y6 ?_ ?_
  . dsimp only [ow4,go_sem,rA,rM,rS]
    refine ⟨n,rfl,by omega,?_⟩
    dsimp only [go_sem,rA,rM,rS]
    refine ⟨_,?_,h12⟩
    refine Zi ?_ ?_ ?_ rfl rfl<;>dsimp only [ZBr,id,go_sem,rA,rM,rS]<;>simp +contextual [VN,VK,Zez,ZeI,Z8,Wh,XO,kO,kS,kD,kK,kE,Zev,ZeL,Zer,Zb,Ze,KFR,KFL,KF,Zd,mtL,mtB,mtS,mtO,Zad,nbr]<;>(intro r hr;rcases hr with ⟨x,_,rfl⟩ | rfl<;>(rw [XO];trivial))
  exact X3
 have h0:LAT Try.prog Y 0 Zde 8 0 (ow0 p xO xS xD xK xE n i M ver) K:=by
  refine YH [(0,ZgA),(2,Zli)] (by kernel_rfl) ?_
  refine Y6 ?_ ?_
  . dsimp only [ow0,go_sem,rA,rM,rS]
    refine ⟨_,YZ ?_ (Xz ?_),h1⟩
    . repeat first | exact trivial | refine ⟨.inr (.inr rfl),?_⟩
    . simp [ow1,ngF]
  refine Y6 ?_ ?_
  . dsimp only [ow0,go_sem,rA,rM,rS]
    refine ⟨_,YZ ?_ (Xz ?_),h4⟩
    . repeat first | exact trivial | refine ⟨.inr (.inr rfl),?_⟩
    . simp [ow4,ngF]
  exact X3
 exact h0
end Go.Proofs.Ythilckbkffjliaa
namespace Go.Azalai
theorem Zfe {α : Type} {n:Nat} {f g:Int->α} (h:∀ a:Nat,a < n->f a=g a):rg n f=rg n g:=List.map_congr_left fun a ha=>h a (List.mem_range.1 ha)
def gk (k:Nat) (a:Int):Int:=if a < k then -1 else 0
theorem Zyq {k:Nat}:upd (gk k) k (-1)=gk (k+1):=by
 funext a
 simp only [upd,gk]
 by_cases h:a=k
 . subst h;rw [if_pos rfl,if_pos (by omega)]
 . rw [if_neg h]
   by_cases q:a < k
   . rw [if_pos q,if_pos (by omega)]
   . rw [if_neg q,if_neg (by omega)]
theorem Zfw {α : Type} {n:Nat} {x:α}:rg n (fun _=>x)=List.replicate n x:=by
 rw [List.eq_replicate_iff]
 exact ⟨Yu,fun b hb=>by obtain ⟨_,_,rfl⟩:=List.mem_map.1 hb;rfl⟩
theorem Zfn {α : Type} {p:Pact} {x:α}:pp p (fun _=>x)=List.replicate p.partners.length x:=by
 rw [List.eq_replicate_iff]
 exact ⟨Xj,fun b hb=>by obtain ⟨_,_,rfl⟩:=List.mem_map.1 hb;rfl⟩
end Go.Azalai
namespace Go.Proofs.Ythilckbkffjliaa
open Go Go.Sx Go.Azalai
theorem zI_rg (n:Nat):zI n=(rg n fun _=>0).map Zl:=by rw [Zfw,zI,List.map_replicate];rfl
theorem zB_rg (n:Nat):zB n=(rg n fun _=>false).map boL:=by rw [Zfw,zB,List.map_replicate];rfl
theorem zI_pp (p:Pact):zI p.partners.length=(pp p fun _=>0).map Zl:=by rw [Zfn,zI,List.map_replicate];rfl
theorem ddL_0 (p:Pact):ddL p co0.debts=List.replicate p.partners.length (List.replicate p.partners.length 0):=by
 simp only [ddL,co0,Zfn]
theorem own_0 (p:Pact):rg 10000 (gk 10000)=rg 10000 (U9 p co0):=Zfe fun a ha=>by simp only [gk,U9,co0];rw [if_pos (by omega)]
theorem ZvC {p:Pact} (hn:p.partners.length<=1000):CtM Try.prog 74 [] 0 [.agg (Zh p)] (fun o=>∃ v,o=⟨false,.agg (bkV co0 v),bkH p co0 (fun _=>0) v,6⟩):=by
 refine m74 (by simp [hpb]) (fun o ho=>by obtain ⟨v,rfl⟩:=ho;simp [bkH,bkV,KX,KXL,KXP,KXH,Zb,KFL,KF,Zl,boL,fX,hI]) ?_
 dsimp only [c74,r74,Zh,go_sem,rA,rM,rS]
 simp only [List.length_map]
 refine gh (σ1:=opE p p.partners.length false false false false false false false false false) (YF (σ':=op0 p p.partners.length) ?_ Zny) ?_
 . dsimp only [Zh,go_sem,rA,rM,rS]
   (refine Zi ?_ ?_ ?_ rfl rfl<;>dsimp only [Za,id,go_sem,rA,rM,rS]<;>simp [Za,Zb,Ze,KFR,KFL,KF,Zd,mtO,nbr])
 show LAT _ _ _ _ 9 0 _ _
 refine opReg hn ?_
 intro σF eF
 subst eF
 dsimp only [go_sem,rA,rM,rS]
 rw [zI_rg 10000,zB_rg 10000,zI_pp]
 have hg0:(rg 10000 fun _=>(0:Int))=rg 10000 (gk 0):=Zfe fun a _=>by simp only [gk];rw [if_neg (by omega)]
 refine Zet [2,3,4,5] rfl (fun k:Nat=>[(5,I k)]) (fun k=>[(2,.row 0 1 ((rg 10000 (gk k)).map Zl) 3)]) (fun k=>k<=10000) (fun k=>10000 - k) 0 (Nat.zero_le _) ?_ ?_
 . have hg1:=hg0.symm
   (refine Zi ?_ ?_ ?_ rfl rfl<;>dsimp only [Za,Zl,boL,hg1,Z8,id,go_sem,rA,rM,rS]<;>simp [Za,Zl,boL,hg1,Z8,Zb,Ze,KFR,KFL,KF,Zd,mtO,nbr])
 intro k hk
 dsimp only [go_sem,rA,rM,rS]
 by_cases hlt:k < 10000
 . refine Zw (by simp;omega) ?_
   dsimp only [go_sem,rA,rM,rS]
   simp only [List.length_map,Yu]
   refine Yl k rfl hlt ?_
   dsimp only [go_sem,rA,rM,rS]
   refine WT (-1:Int) (by rw [Yu];exact hlt) (by simp [Zl]) (by simp [Zl,Zn]) ?_
   dsimp only [go_sem,rA,rM,rS]
   rw [Zb5 hlt,Zyq,Zf (n:=(k:Int)+1) (by omega) (by omega)]
   refine ⟨k+1,by omega,by omega,?_⟩
   (refine Zi ?_ ?_ ?_ rfl rfl<;>dsimp only [Za,Zl,boL,Z8,id,go_sem,rA,rM,rS]<;>simp [Za,Zl,boL,Z8,Zb,Ze,KFR,KFL,KF,Zd,mtO,nbr])
 refine Zu (by simp;omega) ?_
 dsimp only [go_sem,rA,rM,rS]
 rw [show k=10000 from by omega,own_0 p]
 refine gh (YF (Zeb 7 6 1 27 rfl rfl) (ZsP 8 0 0 1 3 rfl rfl)) ?_
 dsimp only [go_sem,rA,rM,rS]
 generalize hNn:p.partners.length=N at hn
 refine Zet [2,3,4,6] rfl (fun q:Nat × Nat=>[(6,I q.1)]) (fun q=>[(7,.cells [.mr 2 0,.mr 3 0,.mr 4 0,.mr 5 0,I 0,.mr 6 0,.mr 8 q.2] 95),(8,.rws q.2 1 ((List.replicate q.1 (List.replicate N (0:Int))).map fX) 27 0 1 ((List.replicate q.1 (List.replicate N (0:Int))).map hI) 3)]) (fun q=>q.1<=N) (fun q=>N - q.1) (0,0) (Nat.zero_le _) ?_ ?_
 . (refine Zi ?_ ?_ ?_ rfl rfl<;>dsimp only [Za,Zl,boL,List.replicate_zero,List.map_nil,Z8,id,go_sem,rA,rM,rS]<;>simp [Za,Zl,boL,List.replicate_zero,List.map_nil,Z8,Zb,Ze,KFR,KFL,KF,Zd,mtO,nbr])
 rintro ⟨i,ver⟩ hi
 simp only at hi
 dsimp only [go_sem,rA,rM,rS]
 by_cases hlt:i < N
 . refine Zw (by simp;omega) ?_
   dsimp only [go_sem,rA,rM,rS]
   have hkr:∀ l:List Int,KFR (l.map Zl):=fun l=>by simp [Zb,Zl,KFL,KF]
   have hkb:∀ l:List Bool,KFR (l.map boL):=fun l=>by simp [Zb,boL,KFL,KF]
   refine gh (σ1:=ow0 p ((rg 10000 (U9 p co0)).map Zl) ((rg 10000 fun _=>0).map Zl) ((rg 10000 fun _=>false).map boL) ((rg 10000 fun _=>false).map boL) ((pp p fun _=>0).map Zl) N i (List.replicate i (List.replicate N 0)) ver) ?_ ?_
   . dsimp only [ow0,go_sem,rA,rM,rS]
     generalize List.replicate i (List.replicate N (0:Int))=M
     (refine Zi ?_ ?_ ?_ rfl rfl<;>dsimp only [Za,Zl,boL,Wh,XO,Z8,id,go_sem,rA,rM,rS]<;>simp [Za,Zl,boL,Wh,XO,Z8,Zb,Ze,KFR,KFL,KF,Zd,mtO,nbr])
   show LAT _ _ _ _ 8 0 _ _
   refine owReg p _ _ _ _ _ N i _ ver _ _ (hkr _) (hkr _) (hkb _) (hkb _) (hkr _) hn (by simp;omega) ?_
   intro σF eF
   subst eF
   dsimp only [Zog,go_sem,rA,rM,rS]
   rw [show List.replicate i (List.replicate N (0:Int)) ++ [List.replicate N 0]=List.replicate (i+1) (List.replicate N 0) from by rw [List.replicate_succ'],Zf (n:=(i:Int)+1) (by omega) (by omega)]
   generalize ver+1+((List.replicate i (List.replicate N (0:Int))).map hI).length=ver2
   refine ⟨(i+1,ver2),by simp only;omega,by simp only;omega,?_⟩
   generalize List.replicate (i+1) (List.replicate N (0:Int))=M
   (refine Zi ?_ ?_ ?_ rfl rfl<;>dsimp only [Za,Zl,boL,Wh,XO,Z8,id,go_sem,rA,rM,rS]<;>simp [Za,Zl,boL,Wh,XO,Z8,Zb,Ze,KFR,KFL,KF,Zd,mtO,nbr])
 refine Zu (by simp;omega) ?_
 dsimp only [go_sem,rA,rM,rS]
 refine gh ZL ?_
 dsimp only [go_sem,rA,rM,rS]
 rw [show i=N from by omega]
 refine ⟨_,⟨ver,rfl⟩,?_⟩
 have e0:ddL p co0.debts=List.replicate N (List.replicate N 0):=by rw [ddL_0,hNn]
 have e1:co0.dead=(fun _=>false)/\co0.known=(fun _=>false)/\co0.extra=(fun _=>0)/\co0.result=0:=⟨rfl,rfl,rfl,rfl⟩
 simp only [bkH,bkV,e0,e1.1,e1.2.1,e1.2.2.1,e1.2.2.2]
 generalize List.replicate N (List.replicate N (0:Int))=M
 refine entO (rho [2,3,4,5,6,8]) ?_ ?_ ?_ (Zi0 rfl rfl) rfl (fun i hi=>absurd hi (Nat.not_lt_zero i))<;>dsimp only [go_sem,rA,rM,rS]<;>simp [Zb,Ze,KFR,KFL,KF,Zd,mtO,nbr,Zl,boL,Wh,XO]
end Go.Proofs.Ythilckbkffjliaa
namespace Go.Azalai
def ZbJ (s:Int->Int) (x:Letter):Int->Int:=if x.kind=3 then upd s x.animal x.day else s
theorem ZgR {p:Pact} {c:Co} {s:Int->Int} (h:ZaL c s) {x:Letter} (hx:Zk p x=true) (h0:(Zp p c x).2=0):ZaL (Zp p c x).1 (ZbJ s x):=by
 have hhome:∀ (a d:Int) (l:Int × Int),ZaL (ZN p c a d l) s:=fun a d l b m hb=>by
  simp only [ZN,upd] at hb
  split at hb
  . cases hb
  . exact h b m hb
 unfold ZbJ
 unfold Zp at h0 ⊢
 split
 . rename_i hk;rw [if_neg (by omega)];exact h
 split
 . rename_i hk;rw [if_neg (by omega)];exact h
 split
 . rename_i n1 n2 k3
   rw [if_neg n1,if_neg n2,if_pos k3] at h0
   split
   . rename_i q;rw [if_pos q] at h0;cases h0
   rename_i q1
   rw [if_neg q1] at h0
   split
   . rename_i q;rw [if_pos q] at h0;cases h0
   intro b m hb
   simp only [upd] at hb ⊢
   split at hb
   . rename_i e;rw [if_pos e];cases hb;rfl
   . rename_i e;rw [if_neg e];exact h b m hb
 split
 . split
   . exact h
   . exact hhome _ _ _
 split
 . split
   . exact h
   split
   . exact h
   . rename_i l hl;exact fun b m hb=>hhome x.animal x.day l b m hb
 split
 . split
   . exact h
   split
   . exact h
   . exact h
 split
 . exact h
 split
 . split
   . exact h
   . exact h
 . exact h
theorem Zys {p:Pact} {c:Co} {x:Letter} (hk:x.kind=3) (h0:(Zp p c x).2=0):(Zp p c x).1={ c with loans:=upd c.loans x.animal (some (x.who,x.day)) }:=by
 simp only [Zp,hk] at h0 ⊢
 by_cases q1:(c.loans x.animal).isSome=true
 . simp [q1] at h0
 by_cases q2:c.dead x.animal=true
 . simp [q1,q2] at h0
 simp [q1,q2]
theorem ZAJ {p:Pact} {c:Co} {x:Letter} (hk:x.kind=4) (h0:(Zp p c x).2=0):∃ l,c.loans x.animal=some l/\(Zp p c x).1=ZN p c x.animal x.day l:=by
 cases hl:c.loans x.animal with
 | some l=>exact ⟨l,rfl,by simp [Zp,hk,hl]⟩
 | none=>simp [Zp,hk,hl] at h0
theorem Zzo {p:Pact} {c:Co} {x:Letter} (hk:x.kind=5) (h0:(Zp p c x).2=0):∃ l,c.loans x.animal=some l/\(Zp p c x).1={ ZN p c x.animal x.day l with dead:=upd c.dead x.animal true }:=by
 cases hd:c.dead x.animal with
 | true=>simp [Zp,hk,hd] at h0
 | false =>
  cases hl:c.loans x.animal with
  | some l=>exact ⟨l,rfl,by simp [Zp,hk,hl,hd]⟩
  | none=>simp [Zp,hk,hl,hd] at h0
theorem ZyL {p:Pact} {c:Co} {x:Letter} (hk:x.kind=6) (h0:(Zp p c x).2=0):∃ l,c.loans x.animal=some l/\(Zp p c x).1={ c with extra:=upd c.extra l.1 (c.extra l.1+(x.rials * p.calf).tdiv 1000),result:=c.result+(x.rials - (x.rials * p.calf).tdiv 1000),known:=upd c.known x.other true }:=by
 cases hd:c.known x.other with
 | true=>simp [Zp,hk,hd] at h0
 | false =>
  cases hl:c.loans x.animal with
  | some l=>exact ⟨l,rfl,by simp [Zp,hk,hl,hd]⟩
  | none=>simp [Zp,hk,hl,hd] at h0
theorem Zfq {p:Pact} {x:Letter} (hr:0<=x.rials/\x.rials<=10000000) (hc:0<=p.calf/\p.calf<=1000):(0<=x.rials * p.calf/\x.rials * p.calf<=10000000 * 1000)/\0<=(x.rials * p.calf).tdiv 1000/\(x.rials * p.calf).tdiv 1000<=10000000:=by
 have hm:0<=x.rials * p.calf/\x.rials * p.calf<=10000000 * 1000:=⟨Int.mul_nonneg hr.1 hc.1,Int.mul_le_mul hr.2 hc.2 hc.1 (by decide)⟩
 refine ⟨hm,Int.tdiv_nonneg hm.1 (by decide),?_⟩
 rw [Int.tdiv_eq_ediv_of_nonneg hm.1];omega
end Go.Azalai
namespace Go.Proofs.Ythilckbkffjliaa
open Go Go.Sx Go.Azalai
theorem ZqD {p:Pact} {c:Co} {a w d:Int}:U9 p { c with loans:=upd c.loans a (some (w,d)) }=upd (U9 p c) a (atF p w):=by
 funext i
 simp only [U9,upd]
 by_cases e:i=a
 . rw [if_pos e,if_pos e]
 . rw [if_neg e,if_neg e]
theorem Zf7 {p:Pact} {c:Co} {f:Int->Bool}:U9 p { c with dead:=f }=U9 p c:=rfl
theorem do_ok {p:Pact} (hps:YI p) {n:Nat} {c:Co} {b:Bks} (h:BkR n c b) (hn:n<=100000) (hpp:(0<=p.hire/\p.hire<=1000)/\(0<=p.calf/\p.calf<=1000)) (hids:(ids p).Nodup) (hc:CoOk p c) {s:Int->Int} (hs:ZaL c s) {v:Nat} {x:Letter} (hx:Zk p x=true) (h0:(Zp p c x).2=0) :
 CtM Try.prog 76 (bkH p c s v) 6 [.agg (Zh p),.agg (bkV c v),.agg (Zc x)] (fun o=>o=⟨false,.agg (bkV (Zp p c x).1 v),bkH p (Zp p c x).1 (ZbJ s x) v,6⟩):=by
 refine m76 (by simp [hpb,bkH]) (fun o ho=>by subst ho;simp [bkH,bkV,KX,KXL,KXP,KXH,Zb,KFL,KF,Zl,boL,fX,hI]) ?_
 have hk:=Ue hx
 have hab:=Zlo hx
 obtain ⟨a,ha,hae⟩:∃ a:Nat,a < 10000/\x.animal=(a:Int):=⟨x.animal.toNat,by omega,by omega⟩
 have hday:0<=x.day/\x.day<=100000:=by
  simp only [Zk,Bool.and_eq_true,inR,decide_eq_true_eq] at hx
  exact hx.1.2
 have hrb:=h.rb
 dsimp only [c76,r76,bkH,bkV,Zh,Zc,go_sem,rA,rM,rS]
 rcases hk with hk | hk | hk | hk | hk | hk | hk
 . have hr:0<=x.rials/\x.rials<=10000000:=by simp [Zk,hk,inR] at hx;omega
   have e:(Zp p c x).1={ c with result:=c.result+x.rials }:=by simp [Zp,hk]
   have e2:ZbJ s x=s:=by simp [ZbJ,hk]
   rw [e,e2]
   simp only [hk]
   refine Zw (by decide) ?_
   dsimp only [go_sem,rA,rM,rS]
   rw [Zf (n:=c.result+x.rials) (by omega) (by omega)]
   refine ⟨_,rfl,?_⟩
   have hO:U9 p { c with result:=c.result+x.rials }=U9 p c:=rfl
   (refine Zo ?_ ?_ ?_ rfl<;>dsimp only [Zl,Vx,Xy,Wh,XO,hO,id,go_sem,rA,rM,rS]<;>simp [Zl,Vx,Xy,Wh,XO,hO,Zb,Ze,KFR,KFL,KF,Zd,mtO,nbr])
 . have hr:0<=x.rials/\x.rials<=10000000:=by simp [Zk,hk,inR] at hx;omega
   have e:(Zp p c x).1={ c with result:=c.result - x.rials }:=by simp [Zp,hk]
   have e2:ZbJ s x=s:=by simp [ZbJ,hk]
   rw [e,e2]
   simp only [hk]
   refine Zu (by decide) ?_
   dsimp only [go_sem,rA,rM,rS]
   refine Zw (by decide) ?_
   dsimp only [go_sem,rA,rM,rS]
   rw [Zf (n:=c.result - x.rials) (by omega) (by omega)]
   refine ⟨_,rfl,?_⟩
   have hO:U9 p { c with result:=c.result - x.rials }=U9 p c:=rfl
   (refine Zo ?_ ?_ ?_ rfl<;>dsimp only [Zl,Vx,Xy,Wh,XO,hO,id,go_sem,rA,rM,rS]<;>simp [Zl,Vx,Xy,Wh,XO,hO,Zb,Ze,KFR,KFL,KF,Zd,mtO,nbr])
 . have hw:x.who ∈ ids p:=by simp [Zk,hk,ZaO] at hx;exact hx.2.1.1
   have e:=Zys hk h0
   have e2:ZbJ s x=upd s x.animal x.day:=by simp [ZbJ,hk]
   obtain ⟨i,hi,hi1,hi2⟩:=W4 hw
   rw [e,e2,ZqD]
   simp only [hk]
   iterate 2 (refine Zu (by decide) ?_;dsimp only [go_sem,rA,rM,rS])
   refine Zw (by decide) ?_
   dsimp only [go_sem,rA,rM,rS]
   refine call (X4 p x.who hps) ?_
   dsimp only [go_sem,rA,rM,rS]
   simp only [List.length_map,Yu]
   refine Yl a hae ha ?_
   dsimp only [go_sem,rA,rM,rS]
   refine WT (atF p x.who) (by rw [Yu];exact ha) (by simp [Zl]) (by simp [Zl,Zn]) ?_
   dsimp only [go_sem,rA,rM,rS]
   rw [Zb5 ha,<- hae]
   simp only [List.length_map,Yu]
   refine Yl a hae ha ?_
   dsimp only [go_sem,rA,rM,rS]
   refine WT x.day (by rw [Yu];exact ha) (by simp [Zl]) (by simp [Zl,Zn]) ?_
   dsimp only [go_sem,rA,rM,rS]
   rw [Zb5 ha,<- hae]
   refine ⟨_,rfl,?_⟩
   (refine Zo ?_ ?_ ?_ rfl<;>dsimp only [Zl,Vx,Xy,Wh,XO,id,go_sem,rA,rM,rS]<;>simp [Zl,Vx,Xy,Wh,XO,Zb,Ze,KFR,KFL,KF,Zd,mtO,nbr])
 . obtain ⟨l,hl,e⟩:=ZAJ hk h0
   have e2:ZbJ s x=s:=by simp [ZbJ,hk]
   have hho:=Zeh h hn hpp.1 hids hs (v:=v) ha (l:=l) (by rw [<- hae];exact hl) (hc.who _ _ hl) hday
   rw [<- hae] at hho
   rw [e,e2]
   simp only [hk]
   iterate 3 (refine Zu (by decide) ?_;dsimp only [go_sem,rA,rM,rS])
   refine Zw (by decide) ?_
   dsimp only [go_sem,rA,rM,rS]
   refine Zs [0,1,2,3,4,5] hho rfl rfl rfl ?_ ?_ ?_
   . dsimp only [rho,bkV,Zh,go_sem,rA,rM,rS]
     simp [Zb,Ze,KFR,KFL,KF,Zd,mtL,mtB,mtS,mtO,Zad,nbr,Za]
   . dsimp only [rho,bkH,go_sem,rA,rM,rS]
     simp [Zb,Ze,KFR,KFL,KF,Zd,mtO,nbr,Zl,boL,Wh,XO]
   rintro _ rfl
   dsimp only [bkH,bkV,go_sem,rA,rM,rS]
   refine ⟨_,rfl,?_⟩
   (refine Zo ?_ ?_ ?_ rfl<;>dsimp only [Zl,Vx,Xy,Wh,XO,id,go_sem,rA,rM,rS]<;>simp [Zl,Vx,Xy,Wh,XO,Zb,Ze,KFR,KFL,KF,Zd,mtO,nbr])
 . obtain ⟨l,hl,e⟩:=Zzo hk h0
   have e2:ZbJ s x=s:=by simp [ZbJ,hk]
   have hho:=Zeh h hn hpp.1 hids hs (v:=v) ha (l:=l) (by rw [<- hae];exact hl) (hc.who _ _ hl) hday
   rw [<- hae] at hho
   rw [e,e2]
   simp only [hk]
   iterate 4 (refine Zu (by decide) ?_;dsimp only [go_sem,rA,rM,rS])
   refine Zw (by decide) ?_
   dsimp only [go_sem,rA,rM,rS]
   refine Zs [0,1,2,3,4,5] hho rfl rfl rfl ?_ ?_ ?_
   . dsimp only [rho,bkV,Zh,go_sem,rA,rM,rS]
     simp [Zb,Ze,KFR,KFL,KF,Zd,mtL,mtB,mtS,mtO,Zad,nbr,Za]
   . dsimp only [rho,bkH,go_sem,rA,rM,rS]
     simp [Zb,Ze,KFR,KFL,KF,Zd,mtO,nbr,Zl,boL,Wh,XO]
   rintro _ rfl
   dsimp only [bkH,bkV,go_sem,rA,rM,rS]
   simp only [List.length_map,Yu]
   refine Yl a hae ha ?_
   dsimp only [go_sem,rA,rM,rS]
   refine WT true (by rw [Yu];exact ha) (by simp [boL]) (by simp [boL,Zn]) ?_
   dsimp only [go_sem,rA,rM,rS]
   rw [Zb5 ha,<- hae]
   refine ⟨_,rfl,?_⟩
   have e3:(ZN p c x.animal x.day l).dead=c.dead:=rfl
   rw [e3]
   (refine Zo ?_ ?_ ?_ rfl<;>dsimp only [Zl,Vx,Xy,Wh,XO,Zf7,id,go_sem,rA,rM,rS]<;>simp [Zl,Vx,Xy,Wh,XO,Zf7,Zb,Ze,KFR,KFL,KF,Zd,mtO,nbr])
 . have hq:(0<=x.rials/\x.rials<=10000000)/\0<=x.other/\x.other<=9999:=by simp [Zk,hk,inR] at hx;omega
   obtain ⟨hr,hoi⟩:=hq
   obtain ⟨o,ho,hoe⟩:∃ o:Nat,o < 10000/\x.other=(o:Int):=⟨x.other.toNat,by omega,by omega⟩
   obtain ⟨l,hl,e⟩:=ZyL hk h0
   have e2:ZbJ s x=s:=by simp [ZbJ,hk]
   obtain ⟨i,hi,hi1,hi2⟩:=W4 (hc.who _ _ hl)
   have hpart:=Zfq hr hpp.2
   have hm:=hpart.1
   replace hpart:=hpart.2
   have heb:=h.eb l.1
   rw [e,e2]
   simp only [hk]
   iterate 5 (refine Zu (by decide) ?_;dsimp only [go_sem,rA,rM,rS])
   refine Zw (by decide) ?_
   dsimp only [go_sem,rA,rM,rS]
   rw [Zf (n:=x.rials * p.calf) (by omega) (by omega)]
   refine Zrv (by decide) ?_
   dsimp only [go_sem,rA,rM,rS]
   rw [Zf (n:=(x.rials * p.calf).tdiv 1000) (by omega) (by omega)]
   simp only [List.length_map,Yu]
   refine Yl a hae ha ?_
   dsimp only [go_sem,rA,rM,rS]
   refine Xt (by rw [Yu];exact ha) ?_
   dsimp only [Zl,go_sem,rA,rM,rS]
   rw [U1 ha,<- hae,ZcE hl,hi1]
   simp only [List.length_map,Xj]
   refine Yl i rfl hi ?_
   dsimp only [go_sem,rA,rM,rS]
   refine Xt (by rw [Xj];exact hi) ?_
   dsimp only [Zl,go_sem,rA,rM,rS]
   rw [ZdQ hi,hi2,Zf (n:=c.extra l.1+(x.rials * p.calf).tdiv 1000) (by omega) (by omega)]
   simp only [List.length_map,Xj]
   refine Yl i rfl hi ?_
   dsimp only [go_sem,rA,rM,rS]
   refine WT (c.extra l.1+(x.rials * p.calf).tdiv 1000) (by rw [Xj];exact hi) (by simp [Zl]) (by simp [Zl,Zn]) ?_
   dsimp only [go_sem,rA,rM,rS]
   rw [Zfh hids hi,hi2,Zf (n:=x.rials - (x.rials * p.calf).tdiv 1000) (by omega) (by omega),Zf (n:=c.result+(x.rials - (x.rials * p.calf).tdiv 1000)) (by omega) (by omega)]
   simp only [List.length_map,Yu]
   refine Yl o hoe ho ?_
   dsimp only [go_sem,rA,rM,rS]
   refine WT true (by rw [Yu];exact ho) (by simp [boL]) (by simp [boL,Zn]) ?_
   dsimp only [go_sem,rA,rM,rS]
   rw [Zb5 ho,<- hoe]
   refine ⟨_,rfl,?_⟩
   have hO:U9 p { c with extra:=upd c.extra l.1 (c.extra l.1+(x.rials * p.calf).tdiv 1000),result:=c.result+(x.rials - (x.rials * p.calf).tdiv 1000),known:=upd c.known x.other true }=U9 p c:=rfl
   (refine Zo ?_ ?_ ?_ rfl<;>dsimp only [Zl,Vx,Xy,Wh,XO,hO,id,go_sem,rA,rM,rS]<;>simp [Zl,Vx,Xy,Wh,XO,hO,Zb,Ze,KFR,KFL,KF,Zd,mtO,nbr])
 . obtain ⟨hww,hr⟩:(x.who ∈ ids p/\x.other ∈ ids p)/\0<=x.rials/\x.rials<=10000000:=by
    rcases hk with hk | hk<;>(simp [Zk,hk,ZaO,inR] at hx;exact ⟨⟨hx.2.1.1.1.1,hx.2.1.1.1.2⟩,hx.2.1.2⟩)
   obtain ⟨i,hi,hi1,hi2⟩:=W4 hww.1
   obtain ⟨j,hj,hj1,hj2⟩:=W4 hww.2
   have hbb:=h.bb x.who x.other
   have hiL:i < (ddL p c.debts).length:=by rw [VR];exact hi
   have hrow:=ZeD (d:=c.debts) hi
   have hgi:((ddL p c.debts).map hI)[i]? = some (hI (pp p (c.debts x.who))):=by
    rw [List.getElem?_map,List.getElem?_eq_getElem hiL,hrow,hi2];rfl
   have hjl:j < (pp p (c.debts x.who)).length:=by rw [Xj];exact hj
   have hgj:(hI (pp p (c.debts x.who)))[j]? = some (Zl (c.debts x.who x.other)):=by
    rw [hI,List.getElem?_map,List.getElem?_eq_getElem hjl,ZdQ hj,hj2];rfl
   rcases hk with hk | hk
   obtain ⟨w,hw⟩:∃ w,w=c.debts x.who x.other+x.rials:=⟨_,rfl⟩
   have e:(Zp p c x).1={ c with debts:=upd c.debts x.who (upd (c.debts x.who) x.other w) }:=by simp [Zp,hk,hw]
   have e2:ZbJ s x=s:=by simp [ZbJ,hk]
   rw [e,e2]
   simp only [hk]
   iterate 6 (refine Zu (by decide) ?_;dsimp only [go_sem,rA,rM,rS])
   rotate_left
   obtain ⟨w,hw⟩:∃ w,w=c.debts x.who x.other - x.rials:=⟨_,rfl⟩
   have hd:¬ c.debts x.who x.other < x.rials:=fun q=>by simp [Zp,hk,q] at h0
   have e:(Zp p c x).1={ c with debts:=upd c.debts x.who (upd (c.debts x.who) x.other w) }:=by simp [Zp,hk,hd,hw]
   have e2:ZbJ s x=s:=by simp [ZbJ,hk]
   rw [e,e2]
   simp only [hk]
   iterate 7 (refine Zu (by decide) ?_;dsimp only [go_sem,rA,rM,rS])
   all_goals
    refine Zw (by decide) ?_
    dsimp only [go_sem,rA,rM,rS]
    refine call (X4 p x.who hps) ?_
    dsimp only [go_sem,rA,rM,rS]
    refine Zzn i hi1 (by rw [List.length_map,VR];exact hi) ?_
    dsimp only [go_sem,rA,rM,rS]
    refine Zy5 (row:=[.any]) (by simp [fX,hiL]) (by rw [List.length_map,VR];exact hi) ?_
    dsimp only [go_sem,rA,rM,rS]
    refine call (X4 p x.other hps) ?_
    dsimp only [go_sem,rA,rM,rS]
    refine Zsk (rows:=hI (pp p (c.debts x.who))) i j (by omega) hgi hj1 (by rw [hI,List.length_map,Xj];exact hj) ?_
    dsimp only [go_sem,rA,rM,rS]
    refine Zy8 (rows:=hI (pp p (c.debts x.who))) (row:=Zl (c.debts x.who x.other)) i (by omega) hgi hgj ?_
    dsimp only [Zl,go_sem,rA,rM,rS]
    rw [<- hw,Zf (n:=w) (by omega) (by omega)]
    refine Zsk (rows:=hI (pp p (c.debts x.who))) i j (by omega) hgi hj1 (by rw [hI,List.length_map,Xj];exact hj) ?_
    dsimp only [go_sem,rA,rM,rS]
    refine ZzI (row:=Zl (c.debts x.who x.other)) i ((pp p (c.debts x.who)).set j w) (by omega) hiL (by rw [hrow,hi2];exact hgj) (by simp [Zl]) (by rw [hrow,hi2];simp [hI,Zl,Zn,List.map_set]) rfl ?_
    dsimp only [go_sem,rA,rM,rS]
    have hset:=ZvW hids (d:=c.debts) (v:=w) hi hj
    rw [hi2,hj2] at hset
    rw [hset]
    refine ⟨_,rfl,?_⟩
    have hO:U9 p { c with debts:=upd c.debts x.who (upd (c.debts x.who) x.other w) }=U9 p c:=rfl
    (refine Zo ?_ ?_ ?_ rfl<;>dsimp only [Zl,Vx,Xy,Wh,XO,hO,id,go_sem,rA,rM,rS]<;>simp [Zl,Vx,Xy,Wh,XO,hO,Zb,Ze,KFR,KFL,KF,Zd,mtO,nbr])
end Go.Proofs.Ythilckbkffjliaa
namespace Go.Azalai
open Go.Sx
theorem Zdi {ends:Int}:∀ {l:List Letter} {seen:List Int},(Y8 ends seen l).length<=l.length
 | [],_=>by simp [Y8]
 | x :: l,seen=>by
  have h:=Zdi (ends:=ends) (l:=l) (seen:=x.id :: seen)
  simp only [Y8]
  split
  . simp;omega
  . simp;omega
theorem Uo {p:Pact} {l:List Letter}:(Xi p l).length<=l.length:=by
 rw [Xi,Wi.length_eq];exact Zdi
theorem Zbg {p:Pact} {l:List Letter} (h:YS p l=0):ZA p=true/\l.length<=100/\(∀ x ∈ l,Zk p x=true)/\ZgD l=false:=by
 unfold YS at h
 split at h
 . cases h
 rename_i h1
 split at h
 . cases h
 rename_i h2
 split at h
 . cases h
 rename_i h3
 split at h
 . cases h
 rename_i h4
 refine ⟨by simpa using h1,by omega,?_,by simpa using h4⟩
 rw [Bool.not_eq_false] at h3
 exact List.all_eq_true.1 h3
theorem ZaA {p:Pact} {l:List Letter} (h:YS p l=0):∀ x ∈ Xi p l,Zk p x=true:=fun x hx=>by
 obtain ⟨_,_,h3,h4⟩:=Zbg h
 exact h3 x ((ZlU h4).1 hx).1
def YY (p:Pact) (l:List Letter):List Int:=if YS p l=0 then YA p (Xi p l) else []
def ZzN (p:Pact) (l:List Letter):List Int:=if YS p l=0 then ZbO p co0 (Xi p l) else []
end Go.Azalai
namespace Go.Proofs.Ythilckbkffjliaa
open Go Go.Sx Go.Azalai
def bHo (o:Nat) (p:Pact) (b:Bks):List (Nat × HB):=[(o,.map (mpS kI Zr b.loans) b.cl),(o+1,.map (mpS kI ZP b.dead) b.cd),(o+2,.map (mpS kI ZP b.known) b.ck),(o+3,.map (mpS kP ZB b.debts) b.cb),(o+4,.map (mpS kI ZB b.extra) b.ce),
 (o+5,.cells [.sl false 3 (p.partners.map Za),I p.calf,I p.hire,I p.ends,.mp o,.mp (o+1),.mp (o+2),.mp (o+3),.mp (o+4),I b.result] 103)]
theorem Zlt {K V:Type} {key:K->Value} {val:V->SV}:mpS key val ([]:List (Nat × K × V))=[]:=rfl
theorem Zcg (p:Pact) (hp:ZA p=true) (l:List Letter) (hl:∀ x ∈ l,Zk p x=true) (h100:l.length<=400) (k:Bool) :
 Ct Try.prog 56 [.agg (Zh p),.sl k 8 (l.map Zc)] (.sl false 1 ((YA p l).map Zl)):=by
 refine t56.1 (by simp [Zh,Za,Zc,Zb,KFL,KF]) (by simp [Zb,Zl,KFL,KF]) ?_
 dsimp only [c56,r56,Zh,go_sem,rA,rM,rS]
 refine Zs [] (Zmn p) rfl rfl rfl ?_ ?_ ?_
 . (repeat first | dsimp only [Zh,go_sem,rA,rM,rS] | simp only [nbr])
   try simp [mtL,mtB,mtS,Zb,KFL,KF,Za]
 . trivial
 rintro _ rfl
 (repeat first | dsimp only [Ze6,go_sem,rA,rM,rS] | simp only [nbr])
 refine Zs [2,3,4,5,6,7] (ZwT p Ztv l k) rfl rfl rfl ?_ ?_ ?_
 . (repeat first | dsimp only [bH,go_sem,rA,rM,rS] | simp only [nbr])
   try simp [mtL,mtB,mtS,Zb,KFL,KF,Zc]
 . (repeat first | dsimp only [bH,Ztv,go_sem,rA,rM,rS] | simp only [nbr])
   try simp [mpS,Za,Zb,KFL,KF]
 rintro _ rfl
 (repeat first | dsimp only [rsH,bH,Ztv,go_sem,rA,rM,rS] | simp only [nbr])
 refine gh ZL ?_
 (repeat first | dsimp only [go_sem,rA,rM,rS] | simp only [nbr])
 refine ⟨b71,fun rec=>?_⟩
 refine y71 ?_
 (repeat first | dsimp only [c71,r71,go_sem,rA,rM,rS] | simp only [nbr])
 refine Zs [] ZdW rfl rfl rfl ?_ ?_ ?_
 . (repeat first | dsimp only [go_sem,rA,rM,rS] | simp only [nbr])
   try simp [mtL,mtB,mtS]
 . trivial
 rintro _ rfl
 (repeat first | dsimp only [go_sem,rA,rM,rS] | simp only [nbr])
 simp only [List.length_map]
 refine Yf (fun s:Nat × Bks=>[(10,I (s.1:Nat))]) (fun s=>bHo 2 p s.2) (fun s=>s.1<=l.length/\BkR s.1 (Xx p co0 (l.take s.1)) s.2) (fun s=>l.length - s.1) (0,Ztv) ⟨Nat.zero_le _,BkR.start⟩ ?_ ?_
 . dsimp only [bHo,Ztv,go_sem,rA,rM,rS]
   (refine Zi ?_ ?_ ?_ rfl rfl<;>dsimp only [Zlt,Zj,Za,Zc,Wq,id,go_sem,rA,rM,rS]<;>simp [Zlt,Zj,Za,Zc,Wq,Zb,Ze,KFR,KFL,KF,Zd,mtO,nbr])
 rintro ⟨j,b⟩ ⟨hj,hb⟩
 simp only at hj hb
 dsimp only [bHo,go_sem,rA,rM,rS]
 by_cases hlt:j < l.length
 . refine Zw (by simpa using hlt) ?_
   dsimp only [go_sem,rA,rM,rS]
   refine Zq j hlt rfl ?_
   dsimp only [Zc,go_sem,rA,rM,rS]
   have hx:=hl l[j] (List.getElem_mem _)
   obtain ⟨ka,kb',hkg⟩:=Zpv (Ue hx)
   refine Xv (key:=kB) (val:=Wq) (sv:=fun n=>.v (kB n)) (L:=ZO) (k:=l[j].kind) (zs:=zk) rfl rfl Zl7 Zma rfl ZlE zk_R (fun v hg=>?_) (fun hg=>?_)
   case refine_2=>rw [hkg] at hg;cases hg
   rw [hkg] at hg
   cases hg
   dsimp only [Wq,go_sem,rA,rM,rS]
   refine Zs [2,3,4,5,6,7] (Zzp hb (by omega) hp l[j] hx) rfl rfl rfl ?_ ?_ ?_
   . (repeat first | dsimp only [bH,go_sem,rA,rM,rS] | simp only [nbr])
     try simp [mtL,mtB,mtS,Zc]
   . (repeat first | dsimp only [bH,go_sem,rA,rM,rS] | simp only [nbr])
     try simp [Zj,Zr,ZB,ZP,Za,Zc,Zb,KFL,KF]
   rintro _ ⟨b2,hb2,rfl⟩
   (repeat first | dsimp only [Zlh,bH,go_sem,rA,rM,rS] | simp only [nbr])
   refine ⟨trivial,trivial,?_⟩
   (repeat first | dsimp only [go_sem,rA,rM,rS] | simp only [nbr])
   refine ⟨trivial,?_⟩
   refine Zu rfl ?_
   (repeat first | dsimp only [go_sem,rA,rM,rS] | simp only [nbr])
   rw [Zf (n:=(j:Int)+1) (by omega) (by omega)]
   refine ⟨(j+1,b2),⟨hlt,by rw [Ud hlt];exact hb2⟩,by simp only;omega,?_⟩
   dsimp only [bHo,go_sem,rA,rM,rS]
   (refine Zi ?_ ?_ ?_ rfl rfl<;>dsimp only [Zj,Za,Zc,Wq,Zr,ZB,ZP,id,go_sem,rA,rM,rS]<;>simp [Zj,Za,Zc,Wq,Zr,ZB,ZP,Zb,Ze,KFR,KFL,KF,Zd,mtO,nbr])
 refine Zu (by simpa using hlt) ?_
 dsimp only [go_sem,rA,rM,rS]
 have hjl:j=l.length:=by omega
 subst hjl
 rw [List.take_length] at hb
 have hc:=CoOk.run (p:=p) CoOk.co0 hl
 have hd:=Zfi.run (p:=p) Zfi.co0 hl
 (repeat first | dsimp only [go_sem,rA,rM,rS] | simp only [nbr])
 refine Zs [2,3,4,5,6,7] (ZzD hp hb h100 hc hd) rfl rfl rfl ?_ ?_ ?_
 . (repeat first | dsimp only [bH,go_sem,rA,rM,rS] | simp only [nbr])
   try simp [mtL,mtB,mtS,Zc]
 . (repeat first | dsimp only [bH,go_sem,rA,rM,rS] | simp only [nbr])
   try simp [Zj,Zr,ZB,ZP,Za,Zc,Zb,KFL,KF]
 rintro _ rfl
 (repeat first | dsimp only [ZA3,go_sem,rA,rM,rS] | simp only [nbr])
 rfl
theorem u29 {args:List SV} {res:SV} (ka:KFL args) (kr:KF res) (h:sx Try.prog Y0 0 c29 (st0 args 20) (Zl8 r29 res)) (hA:Nat.ble args.length 20=true:=by rfl):Ct Try.prog 29 args res:=XS Try.func29 rfl b29 ZxZ Zy4 n29 (Nat.le_of_ble_eq_true hA) ka kr h
theorem Zjj (p:Pact) (l:List Letter) (hs:YI p) (hl:l.length<=1000) (c:Bool):Ct Try.prog 29 [.agg (Zh p),.sl c 8 (l.map Zc)] (.tup [.sl false 1 ((YY p l).map Zl),I (YS p l)]):=by
 refine u29 (by simp [Zh,Za,Zc,Zb,KFL,KF]) (by simp [Zb,Zl,KFL,KF]) ?_
 dsimp only [c29,r29,Zh,go_sem,rA,rM,rS]
 refine call (Zjl p l hs hl c) ?_
 dsimp only [go_sem,rA,rM,rS]
 by_cases h0:YS p l=0
 case neg =>
  refine Zw (by simpa using h0) ?_
  dsimp only [go_sem,rA,rM,rS]
  refine ⟨_,rfl,?_⟩
  rw [YY,if_neg h0]
  exact WI (YM Vq fun _ _ _ _ _ h=>h)
 refine Zu (by simpa using h0) ?_
 dsimp only [go_sem,rA,rM,rS]
 obtain ⟨hp,h100,-,-⟩:=Zbg h0
 have hr:ZdU p l=Xi p l:=by rw [ZdU,if_pos h0]
 have hlen:=Uo (p:=p) (l:=l)
 rw [hr]
 refine call (Zcg p hp (Xi p l) (ZaA h0) (by omega) false) ?_
 dsimp only [go_sem,rA,rM,rS]
 refine ⟨_,rfl,?_⟩
 rw [YY,if_pos h0,h0]
 exact Zak.rfl
end Go.Proofs.Ythilckbkffjliaa
namespace Go.Sx
open Go Go.RowKit
theorem Vs {P:Program} {d:Option Nat} {op:BinOp} {t t' ty:TypeId} {ax bx:Operand} {x y v:Value} {σ : St} {r:KT} {K:RK} (ha:VJ σ ax = .v x) (hb:VJ σ bx = .v y) (hop:op = .and\/op = .shr\/op = .shl) (hr:∀ w:World,(binOp op t x y).run P w = .ok v w) (hk:Yy d (.v v) none σ r K) :
 RAW P d (.binOp op t ax bx t') ty σ r K:=by
 intro o C E a w next Q e1 e2 e3 hS hn hq
 have hx:=XZ hS ha (fun _ _ _=>by simp)
 have hy:=XZ hS hb (fun _ _ _=>by simp)
 simp only [R] at hx hy
 have hrun:(execOp a.eval o).run P w = .ok (.value v) w:=by
  obtain ⟨dst',op',ty',pos,after,guard⟩:=o
  simp only at e2;subst e2
  simp only [execOp,hx,hy]
  rcases hop with rfl | rfl | rfl<;>simp [Sem.run_bind,eqGuard,hr]
 refine Zz hrun (by simp) ?_
 show next (a.put o.dst v) w
 rw [e1]
 exact WJ hk hS (by simp only [R]) hn
end Go.Sx
namespace Go.Azalai
def mI:Nat->List Letter->List Nat
 | _,[]=>[]
 | k,x :: l=>if x.mouth=true then k :: mI (k+1) l else mI (k+1) l
def mN (l:List Letter):Nat:=(l.filter (·.mouth)).length
theorem Zb4:∀ {l:List Letter} {k:Nat},(mI k l).length=mN l
 | [],_=>rfl
 | x :: l,k=>by
  simp only [mI,mN,List.filter_cons]
  split
  . simp [Zb4 (l:=l),mN]
  . exact Zb4
theorem Zic:∀ {a b:List Letter} {k:Nat},mI k (a ++ b)=mI k a ++ mI (k+a.length) b
 | [],b,k=>by simp [mI]
 | x :: a,b,k=>by
  simp only [List.cons_append,mI,List.length_cons]
  rw [Zic (a:=a),show k+1+a.length=k+(a.length+1) from by omega]
  split
  . rfl
  . rfl
theorem Zq1:∀ {l:List Letter} {k y:Nat},y ∈ mI k l->k<=y/\y < k+l.length
 | x :: l,k,y,h=>by
  simp only [mI] at h
  simp only [List.length_cons]
  split at h
  . rcases List.mem_cons.1 h with rfl | h
    . omega
    . have:=Zq1 h;omega
  . have:=Zq1 h;omega
theorem Zfd {α : Type} {g:α->Bool}:∀ {a b:List α} {k:Nat},(∀ x ∈ a,g x=false)->X7 g (a ++ b) k=X7 g b (k+a.length)
 | [],b,k,_=>by simp
 | x :: a,b,k,h=>by
  simp only [List.cons_append,X7,h x (by simp),List.length_cons,Bool.false_eq_true,if_false]
  rw [Zfd fun y hy=>h y (by simp [hy]),show k+1+a.length=k+(a.length+1) from by omega]
theorem Zdk {α : Type} {g:α->Bool}:∀ {a:List α} {k:Nat},(∀ x ∈ a,g x=false)->X7 g a k = -1
 | [],_,_=>rfl
 | x :: a,k,h=>by
  simp only [X7,h x (by simp),Bool.false_eq_true,if_false]
  exact Zdk fun y hy=>h y (by simp [hy])
theorem ZAS {X:List Letter} {i:Nat} (hi:i < X.length):X7 (fun y:Nat=>decide (y=i)) (mI 0 X) 0=if X[i].mouth=true then (mN (X.take i):Int) else -1:=by
 have e:X=X.take i ++ X[i] :: X.drop (i+1):=by rw [<- List.drop_eq_getElem_cons hi,List.take_append_drop]
 have hl:(X.take i).length=i:=by simp;omega
 have e2:mI 0 X=mI 0 (X.take i) ++ mI i (X[i] :: X.drop (i+1)):=by
  conv=>lhs;rw [e]
  rw [Zic,hl,Nat.zero_add]
 have h1:∀ y ∈ mI 0 (X.take i),decide (y=i)=false:=fun y hy=>by
  have:=Zq1 hy
  rw [hl] at this
  simp;omega
 rw [e2,Zfd h1,Zb4,Nat.zero_add]
 simp only [mI]
 by_cases hm:X[i].mouth=true
 . rw [if_pos hm,if_pos hm,X7,decide_eq_true rfl,if_pos rfl]
 . rw [if_neg hm,if_neg hm]
   exact Zdk fun y hy=>by have:=Zq1 hy;simp;omega
theorem UL {set:Nat} {x:Letter}:∀ {a:List Letter} {k:Nat},Z1 set k (a ++ [x])=Z1 set k a ++ (if x.mouth=true then (if set.testBit (k+mN a)=true then [x] else []) else [x])
 | [],k=>by
  simp only [List.nil_append,Z1,mN,List.filter_nil,List.length_nil,Nat.add_zero]
  rfl
 | y :: a,k=>by
  simp only [List.cons_append,Z1,mN,List.filter_cons]
  by_cases hy:y.mouth=true
  . have:=UL (set:=set) (x:=x) (a:=a) (k:=k+1)
    simp only [if_pos hy,List.length_cons]
    rw [this,show k+1+mN a=k+((a.filter (·.mouth)).length+1) from by simp only [mN];omega]
    split<;>rfl
  . have:=UL (set:=set) (x:=x) (a:=a) (k:=k)
    simp only [if_neg hy]
    rw [this];rfl
theorem ZdK {set:Nat} {X:List Letter} {i:Nat} (hi:i < X.length):Z1 set 0 (X.take (i+1))=Z1 set 0 (X.take i) ++ (if X[i].mouth=true then (if set.testBit (mN (X.take i))=true then [X[i]] else []) else [X[i]]):=by
 rw [List.take_succ_eq_append_getElem hi,UL,Nat.zero_add]
theorem Zvn {X:List Letter} {i:Nat} (hi:i < X.length):mI 0 (X.take (i+1))=mI 0 (X.take i) ++ (if X[i].mouth=true then [i] else []):=by
 rw [List.take_succ_eq_append_getElem hi,Zic]
 have hl:(X.take i).length=i:=by simp;omega
 simp only [mI,hl,Nat.zero_add]
def alR (p:Pact) (X:List Letter):Nat->Nat->Int × Int
 | 0,_=>(0,0)
 | s+1,i=>(ZrE (ZH p X i) s,Zsh (ZH p X i) s)
def alL (p:Pact) (X:List Letter) (set k:Nat):List (Int × Int):=(List.range p.partners.length).map fun i=>if i < k then alR p X (set+1) i else alR p X set i
theorem WM {p:Pact} {X:List Letter} {set k:Nat}:(alL p X set k).length=p.partners.length:=by simp [alL]
theorem ZcH {p:Pact} {X:List Letter} {set k i:Nat} (hi:i < (alL p X set k).length):(alL p X set k)[i]=if i < k then alR p X (set+1) i else alR p X set i:=by simp [alL]
theorem Zed {p:Pact} {X:List Letter} {set k:Nat} (hk:k < p.partners.length):(alL p X set k).set k (alR p X (set+1) k)=alL p X set (k+1):=by
 apply List.ext_getElem
 . simp [alL]
 intro i h1 h2
 rw [List.getElem_set,ZcH,ZcH]
 by_cases e:k=i
 . rw [if_pos e,if_pos (by omega),e]
 . rw [if_neg e]
   by_cases q:i < k
   . rw [if_pos q,if_pos (by omega)]
   . rw [if_neg q,if_neg (by omega)]
theorem ZcI {p:Pact} {X:List Letter} {set:Nat}:alL p X set p.partners.length=alL p X (set+1) 0:=by
 apply List.map_congr_left
 intro i hi
 rw [if_pos (List.mem_range.1 hi),if_neg (by omega)]
theorem Zf5 {p:Pact} {X:List Letter}:alL p X (2 ^ mN X) 0=VV p X:=by
 have:∃ s,2 ^ mN X=s+1:=⟨2 ^ mN X - 1,by have:=Nat.two_pow_pos (mN X);omega⟩
 obtain ⟨s,hs⟩:=this
 have h2:2 ^ (X.filter (·.mouth)).length - 1=s:=by have:2 ^ (X.filter (·.mouth)).length=s+1:=hs;omega
 simp only [alL,VV,hs,h2]
 apply List.map_congr_left
 intro i _
 rw [if_neg (by omega)];rfl
theorem alL_0 {p:Pact} {X:List Letter}:alL p X 0 0=List.replicate p.partners.length (0,0):=by
 rw [List.eq_replicate_iff]
 refine ⟨WM,fun b hb=>?_⟩
 obtain ⟨i,_,rfl⟩:=List.mem_map.1 hb
 rw [if_neg (by omega)];rfl
def Ys (p:Pact) (l:List Letter):Int:=if YS p l=0 then (if mN (Xi p l) > 6 then 83 else 0) else YS p l
def YR (p:Pact) (l:List Letter):List (Int × Int):=if Ys p l=0 then VV p (Xi p l) else []
end Go.Azalai
namespace Go.Proofs.Ythilckbkffjliaa
open Go Go.Sx Go.Azalai
def Yo (x:Int × Int):List SV:=[I x.1,I x.2]
theorem Zlb {m:Nat} (h:m<=6) (w:World):(binOp .shl 3 (.int .i64 1) (.int .i64 m)).run Try.prog w = .ok (.int .i64 ((2 ^ m:Nat):Int)) w:=by
 have:m=0\/m=1\/m=2\/m=3\/m=4\/m=5\/m=6:=by omega
 rcases this with rfl | rfl | rfl | rfl | rfl | rfl | rfl<;>rfl
theorem ZjR {s k:Nat} (h:k<=6) (w:World):(binOp .shr 3 (.int .i64 s) (.int .i64 k)).run Try.prog w = .ok (.int .i64 ((s / 2 ^ k:Nat):Int)) w:=by
 simp only [binOp,Op.shift]
 rw [if_neg (by omega)]
 have h1:(s:Int).fdiv (2 ^ k)=((s / 2 ^ k:Nat):Int):=by
  rw [Int.fdiv_eq_ediv_of_nonneg _ (Int.le_of_lt (Int.pow_pos (by decide)))]
  simp
 show Result.ok (Value.int .i64 ((s:Int).fdiv (2 ^ (min ((k:Nat):Int).toNat IntKind.i64.bits)))) w=_
 rw [show min ((k:Nat):Int).toNat IntKind.i64.bits=k from by show min ((k:Nat):Int).toNat 64=k;omega,h1]
theorem Zjp {s:Nat} (h:s < 1000000) (w:World):(binOp .and 3 (.int .i64 s) (.int .i64 1)).run Try.prog w = .ok (.int .i64 ((s % 2:Nat):Int)) w:=by
 have e:(BitVec.ofInt 64 (s:Int) &&& BitVec.ofInt 64 1).toNat=s % 2:=by
  rw [BitVec.toNat_and,show (BitVec.ofInt 64 1).toNat=2 ^ 1 - 1 from by decide,Nat.and_two_pow_sub_one_eq_mod,BitVec.ofInt_natCast,BitVec.toNat_ofNat]
  omega
 show Result.ok (Value.int .i64 (IntKind.i64.wrap (((BitVec.ofInt 64 (s:Int) &&& BitVec.ofInt 64 1).toNat:Nat):Int))) w=_
 rw [e]
 exact congrArg (fun z=>Result.ok (Value.int .i64 z) w) (Zf (by omega) (by omega))
theorem idx58 (v:Nat) (l:List Nat) (hl:l.length < 1000000) {c:Bool}:Ct Try.prog 58 [.sl c 1 (l.map Yr),I (v:Int)] (I (X7 (fun y=>decide (y=v)) l 0)):=by
 refine t58.1 (by simp [Yr,Zb,KFL,KF]) (by simp [KFL,KF]) ?_
 dsimp only [c58,r58,go_sem,rA,rM,rS]
 simp only [List.length_map]
 refine Yf (fun k:Nat=>[(8,I (k:Nat))]) (fun _=>[]) (fun k=>k<=l.length/\X7 (fun y=>decide (y=v)) (l.drop k) k=X7 (fun y=>decide (y=v)) l 0) (fun k=>l.length - k) 0 ⟨Nat.zero_le _,rfl⟩ ?_ ?_
 . (refine Zi ?_ ?_ ?_ rfl rfl<;>dsimp only [Yr,id,go_sem,rA,rM,rS]<;>simp [Yr,Zb,Ze,KFR,KFL,KF,Zd,mtO,nbr])
 intro k ⟨hk,hi⟩
 dsimp only [go_sem,rA,rM,rS]
 by_cases hlt:k < l.length
 . refine Zw (by simpa using hlt) ?_
   dsimp only [go_sem,rA,rM,rS]
   refine Zq k hlt rfl ?_
   dsimp only [Yr,go_sem,rA,rM,rS]
   rw [<- hi,List.drop_eq_getElem_cons hlt]
   by_cases hv:l[k]=v
   . refine Zw (by simp [hv]) ?_
     dsimp only [go_sem,rA,rM,rS]
     simp [X7,hv]
   . refine Zu (by simp;omega) ?_
     dsimp only [go_sem,rA,rM,rS]
     rw [Zf (n:=(k:Int)+1) (by omega) (by omega)]
     have e1:X7 (fun y=>decide (y=v)) (l[k] :: l.drop (k+1)) k=X7 (fun y=>decide (y=v)) (l.drop (k+1)) (k+1):=by simp [X7,hv]
     refine ⟨k+1,⟨hlt,by rw [<- e1]⟩,by omega,?_⟩
     (refine Zi ?_ ?_ ?_ rfl rfl<;>dsimp only [Yr,id,go_sem,rA,rM,rS]<;>simp [Yr,Zb,Ze,KFR,KFL,KF,Zd,mtO,nbr])
 refine Zu (by simpa using hlt) ?_
 dsimp only [go_sem,rA,rM,rS]
 rw [<- hi,List.drop_eq_nil_of_le (by omega)]
 simp [X7]
theorem u31 {args:List SV} {res:SV} (ka:KFL args) (kr:KF res) (h:sx Try.prog Y0 0 c31 (st0 args 117) (Zl8 r31 res)) (hA:Nat.ble args.length 117=true:=by rfl):Ct Try.prog 31 args res:=XS Try.func31 rfl b31 Zz4 Zx0 n31 (Nat.le_of_ble_eq_true hA) ka kr h
theorem ZkI (p:Pact) (l:List Letter) (hs:YI p) (hl:l.length<=1000) (c:Bool):Ct Try.prog 31 [.agg (Zh p),.sl c 8 (l.map Zc)] (.tup [.sl false 2 ((YR p l).map Yo),I (Ys p l)]):=by
 refine u31 (by simp [Zh,Za,Zc,Zb,KFL,KF]) (by simp [Zb,Yo,KFL,KF]) ?_
 have herr:∀ e,Ys p l=e->e≠0->Zak (.tup [.v (.slice none 0 0),I e]) (.tup [.sl false 2 ((YR p l).map Yo),I (Ys p l)]):=fun e h1 h2=>by
  rw [YR,h1,if_neg h2]
  exact WI (YM Vq fun _ _ _ _ _ h=>h)
 dsimp only [c31,r31,Zh,go_sem,rA,rM,rS]
 refine call (Zjl p l hs hl c) ?_
 dsimp only [go_sem,rA,rM,rS]
 by_cases h0:YS p l=0
 case neg =>
  refine Zw (by simpa using h0) ?_
  dsimp only [go_sem,rA,rM,rS]
  refine ⟨_,rfl,herr _ (by rw [Ys,if_neg h0]) h0⟩
 refine Zu (by simpa using h0) ?_
 dsimp only [go_sem,rA,rM,rS]
 obtain ⟨hp,h100,-,-⟩:=Zbg h0
 have h8:=(Yx hp).2.2.2.2.2.2
 have hlen:=Uo (p:=p) (l:=l)
 have hr:ZdU p l=Xi p l:=by rw [ZdU,if_pos h0]
 have hsE:Ys p l=if mN (Xi p l) > 6 then 83 else 0:=by rw [Ys,if_pos h0]
 have hsR:mN (Xi p l)<=6->YR p l=VV p (Xi p l):=fun h=>by
  have hz:Ys p l=0:=by rw [hsE];exact if_neg (by omega)
  rw [YR,if_pos hz]
 rw [hr]
 have hX:=ZaA h0
 generalize Xi p l=X at *
 simp only [List.length_map]
 refine Zai (ZX 8 1 3 rfl rfl) (fun s:Nat=>[(30,I (s:Nat)),(8,.mr 1 (mN (X.take s)))]) (fun s=>[(1,.row (mN (X.take s)) 1 ((mI 0 (X.take s)).map Yr) 3)]) (fun s=>s<=X.length) (fun s=>X.length - s) 0 (Nat.zero_le _) ?_ ?_
 . (refine Zi ?_ ?_ ?_ rfl rfl<;>dsimp only [Zh,Za,Zc,mI,mN,id,go_sem,rA,rM,rS]<;>simp [Zh,Za,Zc,mI,mN,Zb,Ze,KFR,KFL,KF,Zd,mtO,nbr])
 intro k hk
 dsimp only [go_sem,rA,rM,rS]
 by_cases hlt:k < X.length
 . refine Zw (by simpa using hlt) ?_
   dsimp only [go_sem,rA,rM,rS]
   refine Zq k hlt rfl ?_
   dsimp only [Zc,go_sem,rA,rM,rS]
   have hmI:=Zvn hlt
   have hml:=Zb4 (l:=X.take (k+1)) (k:=0)
   have hml0:=Zb4 (l:=X.take k) (k:=0)
   by_cases hm:X[k].mouth=true
   . refine Zw hm ?_
     (repeat first | dsimp only [go_sem,rA,rM,rS] | simp only [nbr])
     have hbd:(mI 0 (X.take k)).length<=X.length:=by
      rw [hml0];exact Nat.le_trans (List.length_filter_le _ _) (by simp;omega)
     refine ⟨by simp [ZW,Wy,Zab],by simp;omega,?_⟩
     (repeat first | dsimp only [go_sem,rA,rM,rS] | simp only [nbr])
     rw [if_pos hm] at hmI
     have e1:(mI 0 (X.take k)).map Yr ++ [[I (k:Int)]]=(mI 0 (X.take (k+1))).map Yr:=by rw [hmI,List.map_append];rfl
     have e2:mN (X.take k)+1=mN (X.take (k+1)):=by rw [<- hml,<- hml0,hmI];simp
     rw [e1,e2,Zf (n:=(k:Int)+1) (by omega) (by omega)]
     refine ⟨k+1,hlt,by omega,?_⟩
     (refine Zi ?_ ?_ ?_ rfl rfl<;>dsimp only [Zh,Za,Zc,Yr,id,go_sem,rA,rM,rS]<;>simp [Zh,Za,Zc,Yr,Zb,Ze,KFR,KFL,KF,Zd,mtO,nbr])
   . refine Zu (by simpa using hm) ?_
     (repeat first | dsimp only [go_sem,rA,rM,rS] | simp only [nbr])
     rw [if_neg hm,List.append_nil] at hmI
     have e2:mN (X.take k)=mN (X.take (k+1)):=by rw [<- hml,<- hml0,hmI]
     rw [<- hmI,e2,Zf (n:=(k:Int)+1) (by omega) (by omega)]
     refine ⟨k+1,hlt,by omega,?_⟩
     (refine Zi ?_ ?_ ?_ rfl rfl<;>dsimp only [Zh,Za,Zc,Yr,id,go_sem,rA,rM,rS]<;>simp [Zh,Za,Zc,Yr,Zb,Ze,KFR,KFL,KF,Zd,mtO,nbr])
 refine Zu (by simpa using hlt) ?_
 dsimp only [go_sem,rA,rM,rS]
 have hkl:k=X.length:=by omega
 subst hkl
 rw [List.take_length]
 have hmN:=Zb4 (l:=X) (k:=0)
 refine gh (WN 8 1 (mN X) rfl rfl rfl rfl) ?_
 dsimp only [go_sem,rA,rM,rS]
 simp only [List.length_map,hmN]
 by_cases h6:mN X > 6
 . refine Zw (by simp;omega) ?_
   dsimp only [go_sem,rA,rM,rS]
   refine ⟨_,rfl,herr 83 (by rw [hsE,if_pos h6]) (by omega)⟩
 refine Zu (by simp;omega) ?_
 dsimp only [go_sem,rA,rM,rS]
 simp only [List.length_map]
 have hR:=hsR (by omega)
 have hE0:Ys p l=0:=by rw [hsE];exact if_neg h6
 rw [hR,hE0]
 have hal:∀ set k:Nat,KFR ((alL p X set k).map Yo):=fun set k=>Zb.2 fun x _=>by simp [Yo,KFL,KF]
 refine ⟨p.partners.length,rfl,by omega,?_⟩
 dsimp only [go_sem,rA,rM,rS]
 have e0:List.replicate p.partners.length [SV.v (Value.int IntKind.i64 0),SV.v (Value.int IntKind.i64 0)]=(alL p X 0 0).map Yo:=by rw [alL_0,List.map_replicate];rfl
 rw [e0]
 simp only [List.length_map,hmN]
 refine Vs rfl rfl (.inr (.inr rfl)) (Zlb (by omega)) ?_
 dsimp only [go_sem,rA,rM,rS]
 have hpow:2 ^ mN X<=64:=by
  have:2 ^ mN X<=2 ^ 6:=Nat.pow_le_pow_right (by omega) (by omega)
  omega
 have hdone:=Zf5 (p:=p) (X:=X)
 have h2k:∀ k,k<=mN X->2 ^ k<=2 ^ mN X:=fun k hk=>Nat.pow_le_pow_right (by omega) hk
 generalize hNN:2 ^ mN X=N at *
 refine Yf (fun s:Nat=>[(52,I (s:Nat))]) (fun s=>[(2,.row 0 2 ((alL p X s 0).map Yo) 70)]) (fun s=>s<=N) (fun s=>N - s) 0 (Nat.zero_le _) ?_ ?_
 . (refine Zi ?_ ?_ ?_ rfl rfl<;>dsimp only [Zh,Za,Zc,Yr,hal,id,go_sem,rA,rM,rS]<;>simp [Zh,Za,Zc,Yr,hal,Zb,Ze,KFR,KFL,KF,Zd,mtO,nbr])
 intro set hset
 dsimp only [go_sem,rA,rM,rS]
 by_cases hlt2:set < N
 case neg =>
  refine Zu (by simpa using hlt2) ?_
  dsimp only [go_sem,rA,rM,rS]
  have hse:set=N:=by omega
  rw [hse,hdone]
  refine gh (WN 11 2 0 rfl rfl rfl rfl) ?_
  dsimp only [go_sem,rA,rM,rS]
  refine ⟨_,rfl,Zak.rfl⟩
 refine Zw (by simpa using hlt2) ?_
 dsimp only [go_sem,rA,rM,rS]
 simp only [List.length_map]
 refine Zai (ZX 13 8 50 rfl rfl) (fun s:Nat=>[(57,I (s:Nat)),(13,.mr 3 (Z1 set 0 (X.take s)).length)]) (fun s=>[(3,.row (Z1 set 0 (X.take s)).length 8 ((Z1 set 0 (X.take s)).map Zc) 50)]) (fun s=>s<=X.length) (fun s=>X.length - s) 0 (Nat.zero_le _) ?_ ?_
 . (refine Zi ?_ ?_ ?_ rfl rfl<;>dsimp only [Zh,Za,Zc,Yr,hal,Z1,id,go_sem,rA,rM,rS]<;>simp [Zh,Za,Zc,Yr,hal,Z1,Zb,Ze,KFR,KFL,KF,Zd,mtO,nbr])
 intro i hi
 dsimp only [go_sem,rA,rM,rS]
 by_cases hlt3:i < X.length
 . refine Zw (by simpa using hlt3) ?_
   dsimp only [go_sem,rA,rM,rS]
   refine Zq i hlt3 rfl ?_
   dsimp only [Zc,go_sem,rA,rM,rS]
   have hix:=ZAS (X:=X) hlt3
   have hst:=ZdK (set:=set) (X:=X) hlt3
   have hsl:(Z1 set 0 (X.take i)).length<=X.length:=Nat.le_trans Xd.length_le (by simp;omega)
   have hml:mN (X.take i)<=mN X:=by
    unfold mN;exact ((List.take_sublist i X).filter _).length_le
   refine call (idx58 i (mI 0 X) (by omega)) ?_
   (repeat first | dsimp only [go_sem,rA,rM,rS] | simp only [nbr])
   by_cases hm:X[i].mouth=true
   . rw [if_pos hm] at hix hst
     rw [hix]
     have g:decide (((mN (X.take i):Nat):Int) < 0)=false:=by simp
     simp only [g]
     refine Wn rfl ?_
     (repeat first | dsimp only [go_sem,rA,rM,rS] | simp only [nbr])
     refine Wn rfl ?_
     (repeat first | dsimp only [go_sem,rA,rM,rS] | simp only [nbr])
     refine Wn rfl ?_
     (repeat first | dsimp only [go_sem,rA,rM,rS] | simp only [nbr])
     refine Vs rfl rfl (.inr (.inl rfl)) (ZjR (by omega)) ?_
     (repeat first | dsimp only [go_sem,rA,rM,rS] | simp only [nbr])
     refine Wn rfl ?_
     (repeat first | dsimp only [go_sem,rA,rM,rS] | simp only [nbr])
     refine Vs rfl rfl (.inl rfl) (Zjp (Nat.lt_of_le_of_lt (Nat.div_le_self _ _) (by omega))) ?_
     (repeat first | dsimp only [go_sem,rA,rM,rS] | simp only [nbr])
     refine Wn rfl ?_
     (repeat first | dsimp only [go_sem,rA,rM,rS] | simp only [nbr])
     have htb:set.testBit (mN (X.take i))=decide (set / 2 ^ mN (X.take i) % 2=1):=Nat.testBit_eq_decide_div_mod_eq
     generalize hbit:set / 2 ^ mN (X.take i) % 2=bit at *
     by_cases hb1:bit=1
     . refine Zw (by simp [hb1]) ?_
       (repeat first | dsimp only [go_sem,rA,rM,rS] | simp only [nbr])
       rw [htb,hb1,decide_eq_true rfl,if_pos rfl] at hst
       refine ⟨by simp [ZW,Wy,Zab],by simp;omega,?_⟩
       (repeat first | dsimp only [go_sem,rA,rM,rS] | simp only [nbr])
       have e1:(Z1 set 0 (X.take i)).map Zc ++ [Zc X[i]]=(Z1 set 0 (X.take (i+1))).map Zc:=by rw [hst,List.map_append];rfl
       have e2:(Z1 set 0 (X.take i)).length+1=(Z1 set 0 (X.take (i+1))).length:=by rw [hst];simp
       simp only [Zc] at e1
       rw [e1,e2,Zf (n:=(i:Int)+1) (by omega) (by omega)]
       refine ⟨i+1,hlt3,by omega,?_⟩
       (refine Zi ?_ ?_ ?_ rfl rfl<;>dsimp only [Zh,Za,Zc,Yr,hal,id,go_sem,rA,rM,rS]<;>simp [Zh,Za,Zc,Yr,hal,Zb,Ze,KFR,KFL,KF,Zd,mtO,nbr])
     . refine Zu (by simp;omega) ?_
       (repeat first | dsimp only [go_sem,rA,rM,rS] | simp only [nbr])
       rw [htb,if_neg (by simp [hb1]),List.append_nil] at hst
       rw [<- hst,Zf (n:=(i:Int)+1) (by omega) (by omega)]
       refine ⟨i+1,hlt3,by omega,?_⟩
       (refine Zi ?_ ?_ ?_ rfl rfl<;>dsimp only [Zh,Za,Zc,Yr,hal,id,go_sem,rA,rM,rS]<;>simp [Zh,Za,Zc,Yr,hal,Zb,Ze,KFR,KFL,KF,Zd,mtO,nbr])
   . rw [if_neg hm] at hix hst
     rw [hix]
     have g:decide ((-1:Int) < 0)=true:=by decide
     simp only [g]
     refine W3 (by decide) ?_
     (repeat first | dsimp only [go_sem,rA,rM,rS] | simp only [nbr])
     refine W3 (by decide) ?_
     (repeat first | dsimp only [go_sem,rA,rM,rS] | simp only [nbr])
     refine W3 (by decide) ?_
     (repeat first | dsimp only [go_sem,rA,rM,rS] | simp only [nbr])
     refine W3 (by decide) ?_
     (repeat first | dsimp only [go_sem,rA,rM,rS] | simp only [nbr])
     refine W3 (by decide) ?_
     (repeat first | dsimp only [go_sem,rA,rM,rS] | simp only [nbr])
     refine Zw rfl ?_
     (repeat first | dsimp only [go_sem,rA,rM,rS] | simp only [nbr])
     refine ⟨by simp [ZW,Wy,Zab],by simp;omega,?_⟩
     (repeat first | dsimp only [go_sem,rA,rM,rS] | simp only [nbr])
     have e1:(Z1 set 0 (X.take i)).map Zc ++ [Zc X[i]]=(Z1 set 0 (X.take (i+1))).map Zc:=by rw [hst,List.map_append];rfl
     have e2:(Z1 set 0 (X.take i)).length+1=(Z1 set 0 (X.take (i+1))).length:=by rw [hst];simp
     simp only [Zc] at e1
     rw [e1,e2,Zf (n:=(i:Int)+1) (by omega) (by omega)]
     refine ⟨i+1,hlt3,by omega,?_⟩
     (refine Zi ?_ ?_ ?_ rfl rfl<;>dsimp only [Zh,Za,Zc,Yr,hal,id,go_sem,rA,rM,rS]<;>simp [Zh,Za,Zc,Yr,hal,Zb,Ze,KFR,KFL,KF,Zd,mtO,nbr])
 refine Zu (by simpa using hlt3) ?_
 dsimp only [go_sem,rA,rM,rS]
 have hie:i=X.length:=by omega
 subst hie
 rw [List.take_length]
 refine gh (WN 13 3 (Z1 set 0 X).length rfl rfl rfl rfl) ?_
 dsimp only [go_sem,rA,rM,rS]
 have hsX:∀ x ∈ Z1 set 0 X,Zk p x=true:=fun x hx=>hX x (Xd.subset hx)
 have hsl:(Z1 set 0 X).length<=X.length:=Xd.length_le
 refine call (Zcg p hp (Z1 set 0 X) hsX (by omega) false) ?_
 dsimp only [go_sem,rA,rM,rS]
 simp only [List.length_map]
 have hsh:(YA p (Z1 set 0 X)).length=p.partners.length:=YV
 rw [hsh]
 refine Yf (fun s:Nat=>[(83,I (s:Nat))]) (fun s=>[(2,.row 0 2 ((alL p X set s).map Yo) 70)]) (fun s=>s<=p.partners.length) (fun s=>p.partners.length - s) 0 (Nat.zero_le _) ?_ ?_
 . (refine Zi ?_ ?_ ?_ rfl rfl<;>dsimp only [Zh,Za,Zc,Yr,hal,Zl,id,go_sem,rA,rM,rS]<;>simp [Zh,Za,Zc,Yr,hal,Zl,Zb,Ze,KFR,KFL,KF,Zd,mtO,nbr])
 intro k hk
 dsimp only [go_sem,rA,rM,rS]
 by_cases hlt4:k < p.partners.length
 . refine Zw (by simpa using hlt4) ?_
   dsimp only [go_sem,rA,rM,rS]
   refine Zq k (by rw [hsh];exact hlt4) rfl ?_
   dsimp only [Zl,go_sem,rA,rM,rS]
   have hn:(YA p (Z1 set 0 X))[k]'(by rw [hsh];exact hlt4)=ZH p X k set:=by
    rw [ZH,List.getD_eq_getElem?_getD,List.getElem?_eq_getElem (by rw [hsh];exact hlt4)];rfl
   rw [hn]
   cases set with
   | zero =>
    refine Zw (by simp) ?_
    (repeat first | dsimp only [go_sem,rA,rM,rS] | simp only [nbr])
    refine Yl k rfl (by simp [WM];omega) ?_
    (repeat first | dsimp only [go_sem,rA,rM,rS] | simp only [nbr])
    refine WT (ZH p X k 0,ZH p X k 0) (by rw [WM];exact hlt4) (by simp [Yo]) (by simp [Yo,Zn]) ?_
    (repeat first | dsimp only [go_sem,rA,rM,rS] | simp only [nbr])
    have hgl:k < ((alL p X 0 k).set k (ZH p X k 0,ZH p X k 0)).length:=by simp [WM];omega
    have hgg:((alL p X 0 k).set k (ZH p X k 0,ZH p X k 0))[k]'hgl=(ZH p X k 0,ZH p X k 0):=by simp
    refine Yl k rfl (by simp [WM];omega) ?_
    (repeat first | dsimp only [go_sem,rA,rM,rS] | simp only [nbr])
    refine Xt hgl ?_
    rw [hgg]
    (repeat first | dsimp only [Yo,go_sem,rA,rM,rS] | simp only [nbr])
    refine Yl k rfl (by simp [WM];omega) ?_
    (repeat first | dsimp only [go_sem,rA,rM,rS] | simp only [nbr])
    refine Xt hgl ?_
    rw [hgg]
    (repeat first | dsimp only [Yo,go_sem,rA,rM,rS] | simp only [nbr])
    refine Yl k rfl (by simp [WM];omega) ?_
    (repeat first | dsimp only [go_sem,rA,rM,rS] | simp only [nbr])
    rw [Int.min_self,Int.max_self]
    refine WT (ZH p X k 0,ZH p X k 0) hgl (by simp [Yo]) (by simp [Yo,Zn]) ?_
    (repeat first | dsimp only [go_sem,rA,rM,rS] | simp only [nbr])
    have e3:((alL p X 0 k).set k (ZH p X k 0,ZH p X k 0)).set k (ZH p X k 0,ZH p X k 0)=alL p X 0 (k+1):=by
     rw [List.set_set,<- Zed hlt4];rfl
    rw [e3,Zf (n:=(k:Int)+1) (by omega) (by omega)]
    refine ⟨k+1,hlt4,by omega,?_⟩
    (refine Zi ?_ ?_ ?_ rfl rfl<;>dsimp only [Zh,Za,Zc,Yr,hal,Zl,id,go_sem,rA,rM,rS]<;>simp [Zh,Za,Zc,Yr,hal,Zl,Zb,Ze,KFR,KFL,KF,Zd,mtO,nbr])
   | succ t =>
    refine Zu (by simp;omega) ?_
    (repeat first | dsimp only [go_sem,rA,rM,rS] | simp only [nbr])
    have hgl:k < (alL p X (t+1) k).length:=by rw [WM];exact hlt4
    have hgg:(alL p X (t+1) k)[k]=(ZrE (ZH p X k) t,Zsh (ZH p X k) t):=by rw [ZcH,if_neg (by omega)];rfl
    refine Yl k rfl (by simpa using hgl) ?_
    (repeat first | dsimp only [go_sem,rA,rM,rS] | simp only [nbr])
    refine Xt hgl ?_
    rw [hgg]
    (repeat first | dsimp only [Yo,go_sem,rA,rM,rS] | simp only [nbr])
    refine Yl k rfl (by simpa using hgl) ?_
    (repeat first | dsimp only [go_sem,rA,rM,rS] | simp only [nbr])
    refine Xt hgl ?_
    rw [hgg]
    (repeat first | dsimp only [Yo,go_sem,rA,rM,rS] | simp only [nbr])
    refine Yl k rfl (by simpa using hgl) ?_
    (repeat first | dsimp only [go_sem,rA,rM,rS] | simp only [nbr])
    refine WT (alR p X (t+2) k) hgl (by simp [Yo]) (by simp [Yo,Zn,alR,ZrE,Zsh]) ?_
    (repeat first | dsimp only [go_sem,rA,rM,rS] | simp only [nbr])
    rw [Zed hlt4,Zf (n:=(k:Int)+1) (by omega) (by omega)]
    refine ⟨k+1,hlt4,by omega,?_⟩
    (refine Zi ?_ ?_ ?_ rfl rfl<;>dsimp only [Zh,Za,Zc,Yr,hal,Zl,id,go_sem,rA,rM,rS]<;>simp [Zh,Za,Zc,Yr,hal,Zl,Zb,Ze,KFR,KFL,KF,Zd,mtO,nbr])
 refine Zu (by simpa using hlt4) ?_
 dsimp only [go_sem,rA,rM,rS]
 have hke:k=p.partners.length:=by omega
 subst hke
 rw [ZcI]
 refine gh ZL ?_
 (repeat first | dsimp only [go_sem,rA,rM,rS] | simp only [nbr])
 rw [Zf (n:=(set:Int)+1) (by omega) (by omega)]
 refine ⟨set+1,hlt2,by omega,?_⟩
 (refine Zi ?_ ?_ ?_ rfl rfl<;>dsimp only [Zh,Za,Zc,Yr,hal,Zl,id,go_sem,rA,rM,rS]<;>simp [Zh,Za,Zc,Yr,hal,Zl,Zb,Ze,KFR,KFL,KF,Zd,mtO,nbr])
end Go.Proofs.Ythilckbkffjliaa
namespace Go.Sx
open Go
end Go.Sx
namespace Go.Proofs.Ythilckbkffjliaa
open Go Go.Sx Go.Azalai
theorem Zki (a b:List Int) (ha:a.length<=1000000) (hb:b.length<=1000000) (c c':Bool):Ct Try.prog 22 [.sl c 1 (a.map Zl),.sl c' 1 (b.map Zl)] (B (decide (a=b))):=by
 refine t22.1 (by simp [Zb,Zl,KFL,KF]) (by simp [KFL,KF]) ?_
 dsimp only [c22,r22,go_sem,rA,rM,rS]
 simp only [List.length_map]
 by_cases hl:a.length=b.length
 case neg =>
  refine Zw (by simp;omega) ?_
  dsimp only [go_sem,rA,rM,rS]
  have:a≠b:=fun e=>hl (by rw [e])
  simp [this]
 refine Zu (by simp;omega) ?_
 dsimp only [go_sem,rA,rM,rS]
 refine Yf (fun j:Nat=>[(5,I j)]) (fun _=>[]) (fun j=>j<=a.length/\a.take j=b.take j) (fun j=>a.length - j) 0 ⟨Nat.zero_le _,rfl⟩ ?_ ?_
 . (refine Zi ?_ ?_ ?_ rfl rfl<;>dsimp only [Zl,id,go_sem,rA,rM,rS]<;>simp [Zl,Zb,Ze,KFR,KFL,KF,Zd,mtO,nbr])
 rintro j ⟨hj,ht⟩
 dsimp only [go_sem,rA,rM,rS]
 simp only [List.length_map]
 by_cases hlt:j < a.length
 . refine Zw (by simpa using hlt) ?_
   dsimp only [go_sem,rA,rM,rS]
   have hltb:j < b.length:=by omega
   refine Zq j hlt rfl ?_
   dsimp only [go_sem,rA,rM,rS]
   refine Zq j hltb rfl ?_
   dsimp only [Zl,go_sem,rA,rM,rS]
   by_cases he:a[j]=b[j]
   . refine Zu (by rw [he];simp [ngB]) ?_
     dsimp only [go_sem,rA,rM,rS]
     rw [Zf (n:=(j:Int)+1) (by omega) (by omega)]
     refine ⟨j+1,⟨hlt,?_⟩,by omega,?_⟩
     . rw [List.take_succ_eq_append_getElem hlt,List.take_succ_eq_append_getElem hltb,ht,he]
     (refine Zi ?_ ?_ ?_ rfl rfl<;>dsimp only [Zl,id,go_sem,rA,rM,rS]<;>simp [Zl,Zb,Ze,KFR,KFL,KF,Zd,mtO,nbr])
   . refine Zw ?_ ?_
     . simpa using he
     dsimp only [go_sem,rA,rM,rS]
     have:a≠b:=fun e=>he (by subst e;rfl)
     simp [this]
 refine Zu (by simp;omega) ?_
 dsimp only [go_sem,rA,rM,rS]
 have:a=b:=by
  rw [List.take_of_length_le (by omega),List.take_of_length_le (by omega)] at ht
  exact ht
 simp [this]
theorem Zk5 (a b:List (Int × Int)) (ha:a.length<=1000000) (hb:b.length<=1000000) (c c':Bool):Ct Try.prog 33 [.sl c 2 (a.map Yo),.sl c' 2 (b.map Yo)] (B (decide (a=b))):=by
 refine t33.1 (by simp [Zb,Yo,KFL,KF]) (by simp [KFL,KF]) ?_
 dsimp only [c33,r33,go_sem,rA,rM,rS]
 simp only [List.length_map]
 by_cases hl:a.length=b.length
 case neg =>
  refine Zw (by simp;omega) ?_
  dsimp only [go_sem,rA,rM,rS]
  have:a≠b:=fun e=>hl (by rw [e])
  simp [this]
 refine Zu (by simp;omega) ?_
 dsimp only [go_sem,rA,rM,rS]
 refine Yf (fun j:Nat=>[(5,I j)]) (fun _=>[]) (fun j=>j<=a.length/\a.take j=b.take j) (fun j=>a.length - j) 0 ⟨Nat.zero_le _,rfl⟩ ?_ ?_
 . (refine Zi ?_ ?_ ?_ rfl rfl<;>dsimp only [Yo,id,go_sem,rA,rM,rS]<;>simp [Yo,Zb,Ze,KFR,KFL,KF,Zd,mtO,nbr])
 rintro j ⟨hj,ht⟩
 dsimp only [go_sem,rA,rM,rS]
 simp only [List.length_map]
 by_cases hlt:j < a.length
 . refine Zw (by simpa using hlt) ?_
   dsimp only [go_sem,rA,rM,rS]
   have hltb:j < b.length:=by omega
   refine Zq j hlt rfl ?_
   dsimp only [go_sem,rA,rM,rS]
   refine Zq j hltb rfl ?_
   dsimp only [Yo,go_sem,rA,rM,rS]
   by_cases he:a[j]=b[j]
   . refine Zu (by rw [he];simp [ngB]) ?_
     dsimp only [go_sem,rA,rM,rS]
     rw [Zf (n:=(j:Int)+1) (by omega) (by omega)]
     refine ⟨j+1,⟨hlt,?_⟩,by omega,?_⟩
     . rw [List.take_succ_eq_append_getElem hlt,List.take_succ_eq_append_getElem hltb,ht,he]
     (refine Zi ?_ ?_ ?_ rfl rfl<;>dsimp only [Yo,id,go_sem,rA,rM,rS]<;>simp [Yo,Zb,Ze,KFR,KFL,KF,Zd,mtO,nbr])
   . refine Zw ?_ ?_
     . apply Decidable.byContradiction;intro hq;simp at hq;exact he (Prod.ext hq.1 hq.2)
     dsimp only [go_sem,rA,rM,rS]
     have:a≠b:=fun e=>he (by subst e;rfl)
     simp [this]
 refine Zu (by simp;omega) ?_
 dsimp only [go_sem,rA,rM,rS]
 have:a=b:=by
  rw [List.take_of_length_le (by omega),List.take_of_length_le (by omega)] at ht
  exact ht
 simp [this]
theorem ZjJ (a b:List Letter) (ha:a.length<=1000000) (hb:b.length<=1000000) (c c':Bool):Ct Try.prog 28 [.sl c 8 (a.map Zc),.sl c' 8 (b.map Zc)] (B (decide (a=b))):=by
 refine t28.1 (by simp [Zb,Zc,KFL,KF]) (by simp [KFL,KF]) ?_
 dsimp only [c28,r28,go_sem,rA,rM,rS]
 simp only [List.length_map]
 by_cases hl:a.length=b.length
 case neg =>
  refine Zw (by simp;omega) ?_
  dsimp only [go_sem,rA,rM,rS]
  have:a≠b:=fun e=>hl (by rw [e])
  simp [this]
 refine Zu (by simp;omega) ?_
 dsimp only [go_sem,rA,rM,rS]
 refine Yf (fun j:Nat=>[(5,I j)]) (fun _=>[]) (fun j=>j<=a.length/\a.take j=b.take j) (fun j=>a.length - j) 0 ⟨Nat.zero_le _,rfl⟩ ?_ ?_
 . (refine Zi ?_ ?_ ?_ rfl rfl<;>dsimp only [Zc,id,go_sem,rA,rM,rS]<;>simp [Zc,Zb,Ze,KFR,KFL,KF,Zd,mtO,nbr])
 rintro j ⟨hj,ht⟩
 dsimp only [go_sem,rA,rM,rS]
 simp only [List.length_map]
 by_cases hlt:j < a.length
 . refine Zw (by simpa using hlt) ?_
   dsimp only [go_sem,rA,rM,rS]
   have hltb:j < b.length:=by omega
   refine Zq j hlt rfl ?_
   dsimp only [go_sem,rA,rM,rS]
   refine Zq j hltb rfl ?_
   dsimp only [Zc,go_sem,rA,rM,rS]
   by_cases he:a[j]=b[j]
   . refine Zu (by rw [he];simp [ngB]) ?_
     dsimp only [go_sem,rA,rM,rS]
     rw [Zf (n:=(j:Int)+1) (by omega) (by omega)]
     refine ⟨j+1,⟨hlt,?_⟩,by omega,?_⟩
     . rw [List.take_succ_eq_append_getElem hlt,List.take_succ_eq_append_getElem hltb,ht,he]
     (refine Zi ?_ ?_ ?_ rfl rfl<;>dsimp only [Zc,id,go_sem,rA,rM,rS]<;>simp [Zc,Zb,Ze,KFR,KFL,KF,Zd,mtO,nbr])
   . refine Zw ?_ ?_
     . rw [ZBb];simp [ngB,he]
     dsimp only [go_sem,rA,rM,rS]
     have:a≠b:=fun e=>he (by subst e;rfl)
     simp [this]
 refine Zu (by simp;omega) ?_
 dsimp only [go_sem,rA,rM,rS]
 have:a=b:=by
  rw [List.take_of_length_le (by omega),List.take_of_length_le (by omega)] at ht
  exact ht
 simp [this]
def ZfH (p:Pact) (l:List Letter):Bool:=decide (p.partners.length > 12) || decide (l.length > 150)
theorem Zql (p:Pact) (l:List Letter) (c:Bool):Ct Try.prog 16 [.agg (Zh p),.sl c 8 (l.map Zc)] (B (ZfH p l)):=by
 refine t16.1 (by simp [Zh,Za,Zc,Zb,KFL,KF]) (by simp [KFL,KF]) ?_
 dsimp only [c16,r16,Zh,go_sem,rA,rM,rS]
 repeat (refine gb ?_;dsimp only [go_sem,rA,rM,rS])
 simp only [List.length_map]
 simp only [ZfH,Option.some.injEq,SV.v.injEq,Value.bool.injEq]
 rw [Bool.eq_iff_iff]
 simp
 omega
theorem ZhE (p:Pact) (x:Letter) (hs:YI p):Ct Try.prog 36 [.agg (Zh p),.agg (Zc x)] (B (Zk p x)):=by
 refine t36.1 (by simp [Zh,Za,Zc,Zb,KFL,KF]) (by simp [KFL,KF]) ?_
 dsimp only [c36,r36,Zh,Zc,go_sem,rA,rM,rS]
 refine call (Z2 _ _ _) ?_
 dsimp only [go_sem,rA,rM,rS]
 repeat (first | (refine gb ?_;dsimp only [go_sem,rA,rM,rS]) | (refine call (Z2 _ _ _) ?_;dsimp only [go_sem,rA,rM,rS]))
 by_cases h1:(inR 0 9999 x.id && inR 0 100000 x.day)=true
 case neg =>
  refine Zw (by grind) ?_
  dsimp only [go_sem,rA,rM,rS]
  rw [Bool.not_eq_true] at h1
  simp only [Zk,h1,Bool.false_and]
 refine Zu (by grind) ?_
 dsimp only [go_sem,rA,rM,rS]
 refine call (X4 p x.who hs) ?_
 dsimp only [go_sem,rA,rM,rS]
 refine call (Z2 _ _ _) ?_
 dsimp only [go_sem,rA,rM,rS]
 refine call (Z2 _ _ _) ?_
 dsimp only [go_sem,rA,rM,rS]
 rw [WS p x.who]
 by_cases k1:x.kind=1
 . simp only [k1]
   repeat (first | (refine Zw rfl ?_;dsimp only [go_sem,rA,rM,rS]) | (refine Zu rfl ?_;dsimp only [go_sem,rA,rM,rS]))
   repeat (first | (refine gb ?_;dsimp only [go_sem,rA,rM,rS]) | (refine call (Z2 _ _ _) ?_;dsimp only [go_sem,rA,rM,rS]) | (refine call (X4 p x.other hs) ?_;dsimp only [go_sem,rA,rM,rS]))
   have g2:=WS p x.other
   simp only [Option.some.injEq,SV.v.injEq,Value.bool.injEq]
   rw [Bool.eq_iff_iff]
   obtain ⟨id',day,kind,who,other,animal,rials,mouth⟩:=x
   simp only at k1
   subst k1
   simp only [Zk] at h1 ⊢
   simp only [h1]
   try rw [g2]
   simp
   try grind
 by_cases k2:x.kind=2
 . simp only [k2]
   repeat (first | (refine Zw rfl ?_;dsimp only [go_sem,rA,rM,rS]) | (refine Zu rfl ?_;dsimp only [go_sem,rA,rM,rS]))
   repeat (first | (refine gb ?_;dsimp only [go_sem,rA,rM,rS]) | (refine call (Z2 _ _ _) ?_;dsimp only [go_sem,rA,rM,rS]) | (refine call (X4 p x.other hs) ?_;dsimp only [go_sem,rA,rM,rS]))
   have g2:=WS p x.other
   simp only [Option.some.injEq,SV.v.injEq,Value.bool.injEq]
   rw [Bool.eq_iff_iff]
   obtain ⟨id',day,kind,who,other,animal,rials,mouth⟩:=x
   simp only at k2
   subst k2
   simp only [Zk] at h1 ⊢
   simp only [h1]
   try rw [g2]
   simp
   try grind
 by_cases k3:x.kind=3
 . simp only [k3]
   repeat (first | (refine Zw rfl ?_;dsimp only [go_sem,rA,rM,rS]) | (refine Zu rfl ?_;dsimp only [go_sem,rA,rM,rS]))
   repeat (first | (refine gb ?_;dsimp only [go_sem,rA,rM,rS]) | (refine call (Z2 _ _ _) ?_;dsimp only [go_sem,rA,rM,rS]) | (refine call (X4 p x.other hs) ?_;dsimp only [go_sem,rA,rM,rS]))
   have g2:=WS p x.other
   simp only [Option.some.injEq,SV.v.injEq,Value.bool.injEq]
   rw [Bool.eq_iff_iff]
   obtain ⟨id',day,kind,who,other,animal,rials,mouth⟩:=x
   simp only at k3
   subst k3
   simp only [Zk] at h1 ⊢
   simp only [h1]
   try rw [g2]
   simp
   try grind
 by_cases k4:x.kind=4
 . simp only [k4]
   repeat (first | (refine Zw rfl ?_;dsimp only [go_sem,rA,rM,rS]) | (refine Zu rfl ?_;dsimp only [go_sem,rA,rM,rS]))
   repeat (first | (refine gb ?_;dsimp only [go_sem,rA,rM,rS]) | (refine call (Z2 _ _ _) ?_;dsimp only [go_sem,rA,rM,rS]) | (refine call (X4 p x.other hs) ?_;dsimp only [go_sem,rA,rM,rS]))
   have g2:=WS p x.other
   simp only [Option.some.injEq,SV.v.injEq,Value.bool.injEq]
   rw [Bool.eq_iff_iff]
   obtain ⟨id',day,kind,who,other,animal,rials,mouth⟩:=x
   simp only at k4
   subst k4
   simp only [Zk] at h1 ⊢
   simp only [h1]
   try rw [g2]
   simp
   try grind
 by_cases k5:x.kind=5
 . simp only [k5]
   repeat (first | (refine Zw rfl ?_;dsimp only [go_sem,rA,rM,rS]) | (refine Zu rfl ?_;dsimp only [go_sem,rA,rM,rS]))
   repeat (first | (refine gb ?_;dsimp only [go_sem,rA,rM,rS]) | (refine call (Z2 _ _ _) ?_;dsimp only [go_sem,rA,rM,rS]) | (refine call (X4 p x.other hs) ?_;dsimp only [go_sem,rA,rM,rS]))
   have g2:=WS p x.other
   simp only [Option.some.injEq,SV.v.injEq,Value.bool.injEq]
   rw [Bool.eq_iff_iff]
   obtain ⟨id',day,kind,who,other,animal,rials,mouth⟩:=x
   simp only at k5
   subst k5
   simp only [Zk] at h1 ⊢
   simp only [h1]
   try rw [g2]
   simp
   try grind
 by_cases k6:x.kind=6
 . simp only [k6]
   repeat (first | (refine Zw rfl ?_;dsimp only [go_sem,rA,rM,rS]) | (refine Zu rfl ?_;dsimp only [go_sem,rA,rM,rS]))
   repeat (first | (refine gb ?_;dsimp only [go_sem,rA,rM,rS]) | (refine call (Z2 _ _ _) ?_;dsimp only [go_sem,rA,rM,rS]) | (refine call (X4 p x.other hs) ?_;dsimp only [go_sem,rA,rM,rS]))
   have g2:=WS p x.other
   simp only [Option.some.injEq,SV.v.injEq,Value.bool.injEq]
   rw [Bool.eq_iff_iff]
   obtain ⟨id',day,kind,who,other,animal,rials,mouth⟩:=x
   simp only at k6
   subst k6
   simp only [Zk] at h1 ⊢
   simp only [h1]
   try rw [g2]
   simp
   try grind
 by_cases k7:x.kind=7
 . simp only [k7]
   repeat (first | (refine Zw rfl ?_;dsimp only [go_sem,rA,rM,rS]) | (refine Zu rfl ?_;dsimp only [go_sem,rA,rM,rS]))
   repeat (first | (refine gb ?_;dsimp only [go_sem,rA,rM,rS]) | (refine call (Z2 _ _ _) ?_;dsimp only [go_sem,rA,rM,rS]) | (refine call (X4 p x.other hs) ?_;dsimp only [go_sem,rA,rM,rS]))
   have g2:=WS p x.other
   simp only [Option.some.injEq,SV.v.injEq,Value.bool.injEq]
   rw [Bool.eq_iff_iff]
   obtain ⟨id',day,kind,who,other,animal,rials,mouth⟩:=x
   simp only at k7
   subst k7
   simp only [Zk] at h1 ⊢
   simp only [h1]
   try rw [g2]
   simp
   try grind
 by_cases k8:x.kind=8
 . simp only [k8]
   repeat (first | (refine Zw rfl ?_;dsimp only [go_sem,rA,rM,rS]) | (refine Zu rfl ?_;dsimp only [go_sem,rA,rM,rS]))
   repeat (first | (refine gb ?_;dsimp only [go_sem,rA,rM,rS]) | (refine call (Z2 _ _ _) ?_;dsimp only [go_sem,rA,rM,rS]) | (refine call (X4 p x.other hs) ?_;dsimp only [go_sem,rA,rM,rS]))
   have g2:=WS p x.other
   simp only [Option.some.injEq,SV.v.injEq,Value.bool.injEq]
   rw [Bool.eq_iff_iff]
   obtain ⟨id',day,kind,who,other,animal,rials,mouth⟩:=x
   simp only at k8
   subst k8
   simp only [Zk] at h1 ⊢
   simp only [h1]
   try rw [g2]
   simp
   try grind
 repeat (refine Zu (by simp [k1,k2,k3,k4,k5,k6,k7,k8]) ?_;dsimp only [go_sem,rA,rM,rS])
 repeat (refine gb ?_;dsimp only [go_sem,rA,rM,rS])
 simp [Zk,k1,k2,k3,k4,k5,k6,k7,k8]
def c8:SC:=(sr1 [
 o1 2 (.box (.t 0) 0 24),
 o1 4 (.mv (.c (.bool false)))]
 (sr1 [
 o1 18 (.call 34 []),
 m1 5 18]
 (.seq (sr1 [
 o1 19 (lt 2 4),
 m1 20 1,
 o1 21 (.call 35 [.t 19,.t 20]),
 o1 22 (.un .not (.t 21)),
 m1 23 22,
 g1 24 23 false (.mv (.t 5)),
 g1 25 23 false (.un .not (.t 24)),
 o1 26 (.pick (.t 23) (.c (.bool true)) (.t 25))]
 (.cond (.t 26)
 (sr1 [
  m1 27 5,
  m1 4 27]
  .ret)
 .skip))
 (sr1 [
 o1 29 (lt 2 4),
 m1 30 1,
 o1 31 (.call 24 [.t 29,.t 30]),
 m1 28 31,
 o1 32 (.ext (.t 28) 0),
 o1 33 (.ext (.t 28) 1),
 o1 34 (.ext (.t 28) 2),
 m1 6 32,
 m1 7 33,
 m1 8 34]
 (sr1 [
 o1 36 (lt 2 4),
 m1 37 1,
 o1 38 (.call 29 [.t 36,.t 37]),
 m1 35 38,
 o1 39 (.ext (.t 35) 0),
 o1 40 (.ext (.t 35) 1),
 m1 9 39,
 m1 10 40]
 (.seq (sr1 [
 m1 41 8,
 o1 42 (.bin .neq (.t 41) (cn 0)),
 m1 43 42,
 g1 44 43 false (.mv (.t 10)),
 g1 45 43 false (.bin .neq (.t 44) (cn 0)),
 o1 46 (.pick (.t 43) (.c (.bool true)) (.t 45)),
 m1 47 46,
 g1 48 47 false (.mv (.t 7)),
 g1 49 47 false (.len (.t 48)),
 g1 50 47 false (.mv (.t 6)),
 g1 51 47 false (.len (.t 50)),
 g1 52 47 false (.bin .neq (.t 49) (.t 51)),
 o1 53 (.pick (.t 47) (.c (.bool true)) (.t 52)),
 m1 54 53,
 g1 55 54 false (.mv (.t 9)),
 g1 56 54 false (.len (.t 55)),
 g1 57 54 false (ao 2 0),
 g1 58 54 false (lf 57 1),
 g1 59 54 false (.len (.t 58)),
 g1 60 54 false (.bin .neq (.t 56) (.t 59)),
 o1 61 (.pick (.t 54) (.c (.bool true)) (.t 60))]
 (.cond (.t 61)
 (sr1 [
  o1 4 (.mv (.c (.bool false)))]
  .ret)
 .skip))
 (sr1 [
 o1 11 (.mv (cn 0))]
 (.seq (sr1 [
 o1 62 (ao 2 0),
 o1 63 (lf 62 1),
 o1 64 (.len (.t 63)),
 o1 65 (.mv (cn 0))]
 (.block 0 (.loop (sr1 [
  o1 66 (.bin .lss (.t 65) (.t 64))]
  (.seq (.cond (.t 66)
  .skip
  (.exit 0))
  (.seq (.block 1 (sr1 [
   o1 67 (.ixs (.t 63) (.t 65) 3),
   o1 68 (lt 67 3),
   o1 13 (.alloc [.int .i64 0,.int .i64 0,.int .i64 0] 64),
   ⟨none,.st (.t 13) (.t 68) 3,none,[]⟩]
   (.reg [
   m1 69 11,
   o1 70 (ao 13 1),
   o1 71 (lf 70 1),
   o1 72 (.bin .add (.t 69) (.t 71)),
   m1 11 72])))
  (.reg [
  o1 73 (.bin .add (.t 65) (cn 1)),
  m1 65 73])))))))
 (.seq (sr1 [
 m1 74 6,
 o1 75 (.len (.t 74)),
 o1 76 (.mv (cn 0))]
 (.block 2 (.loop (sr1 [
  o1 77 (.bin .lss (.t 76) (.t 75))]
  (.seq (.cond (.t 77)
  .skip
  (.exit 2))
  (.seq (.block 3 (sr1 [
   m1 78 76,
   o1 79 (.ixs (.t 74) (.t 76) 8),
   o1 80 (lt 79 8),
   o1 15 (.alloc zv0 50),
   m1 14 78,
   ⟨none,.st (.t 15) (.t 80) 8,none,[]⟩]
   (.seq (sr1 [
   m1 81 7,
   m1 82 14,
   o1 83 (.ixs (.t 81) (.t 82) 1),
   o1 84 (lf 83 1),
   o1 85 (.bin .neq (.t 84) (.c (.int .u8 0)))]
   (.cond (.t 85)
   (.exit 3)
   .skip))
   (sr1 [
   o1 86 (ao 15 2),
   o1 87 (lf 86 1)]
   (.block 4 (.seq (sr1 [
    o1 89 (.bin .eql (.t 87) (.c (.int .u8 1))),
    m1 88 89]
    (.cond (.t 88)
    .skip
    (.reg [
     o1 90 (.bin .eql (.t 87) (.c (.int .u8 6))),
     m1 88 90])))
    (.cond (.t 88)
    (.reg [
     m1 91 11,
     o1 92 (ao 15 6),
     o1 93 (lf 92 1),
     o1 94 (.bin .add (.t 91) (.t 93)),
     m1 11 94])
    (sr1 [
     o1 96 (.bin .eql (.t 87) (.c (.int .u8 2))),
     m1 95 96]
     (.cond (.t 95)
     (.reg [
      m1 97 11,
      o1 98 (ao 15 6),
      o1 99 (lf 98 1),
      o1 100 (.bin .sub (.t 97) (.t 99)),
      m1 11 100])
     .skip)))))))))
  (.reg [
  o1 101 (.bin .add (.t 76) (cn 1)),
  m1 76 101])))))))
 (.seq (sr1 [
 m1 102 9,
 o1 103 (.len (.t 102)),
 o1 104 (.mv (cn 0))]
 (.block 5 (.loop (sr1 [
  o1 105 (.bin .lss (.t 104) (.t 103))]
  (.seq (.cond (.t 105)
  .skip
  (.exit 5))
  (.seq (.block 6 (sr1 [
   o1 106 (.ixs (.t 102) (.t 104) 1),
   o1 107 (lf 106 1),
   m1 17 107]
   (.reg [
   m1 108 11,
   m1 109 17,
   o1 110 (.bin .sub (.t 108) (.t 109)),
   m1 11 110])))
  (.reg [
  o1 111 (.bin .add (.t 104) (cn 1)),
  m1 104 111])))))))
 (sr1 [
 m1 112 5,
 m1 113 112,
 g1 114 113 true (.mv (.t 11)),
 g1 115 113 true (.bin .eql (.t 114) (cn 0)),
 o1 116 (.pick (.t 113) (.t 115) (.c (.bool false))),
 m1 4 116]
 .ret)))))))))))
end Go.Proofs.Ythilckbkffjliaa
namespace Go.Azalai
def WE (p:Pact) (l:List Letter):Int:=if l.length > 100 then 4 else if l.all (Zk p)=false then 81 else if ZgD l=true then 82 else 0
theorem Zfx {p:Pact} {l:List Letter} (h:ZA p=true):YS p l=WE p l:=by simp [YS,WE,h]
end Go.Azalai
namespace Go.Proofs.Ythilckbkffjliaa
open Go Go.Sx Go.Azalai
theorem Zcb (p:Pact) (l:List Letter) (hs:YI p) (hl:l.length<=1000) (c:Bool):Ct Try.prog 51 [.agg (Zh p),.sl c 8 (l.map Zc)] (I (WE p l)):=by
 refine t51.1 (by simp [Zh,Za,Zc,Zb,KFL,KF]) (by simp [KFL,KF]) ?_
 dsimp only [c51,r51,Zh,go_sem,rA,rM,rS]
 simp only [List.length_map]
 by_cases h100:l.length > 100
 . refine Zw (by simp;omega) ?_
   dsimp only [go_sem,rA,rM,rS]
   simp [WE,h100]
 refine Zu (by simp;omega) ?_
 dsimp only [go_sem,rA,rM,rS]
 refine Yf (fun s:Nat=>[(5,I (s:Nat))]) (fun _=>[]) (fun s=>s<=l.length/\∀ i (hi:i < l.length),i < s->Zk p l[i]=true) (fun s=>l.length - s) 0 ⟨Nat.zero_le _,fun i _ h=>by omega⟩ ?_ ?_
 . (refine Zi ?_ ?_ ?_ rfl rfl<;>dsimp only [Zh,Za,Zc,id,go_sem,rA,rM,rS]<;>simp [Zh,Za,Zc,Zb,Ze,KFR,KFL,KF,Zd,mtO,nbr])
 intro k ⟨hk,hok⟩
 dsimp only [go_sem,rA,rM,rS]
 simp only [List.length_map]
 by_cases hlt:k < l.length
 . refine Zw (by simpa using hlt) ?_
   dsimp only [go_sem,rA,rM,rS]
   refine Zq k hlt rfl ?_
   dsimp only [Zc,go_sem,rA,rM,rS]
   refine call (ZhE p l[k] hs) ?_
   dsimp only [go_sem,rA,rM,rS]
   by_cases hb:Zk p l[k]=true
   case neg =>
    refine Zw (by simpa using hb) ?_
    dsimp only [go_sem,rA,rM,rS]
    have:l.all (Zk p)=false:=by
     rw [<- Bool.not_eq_true,List.all_eq_true]
     exact fun h=>hb (h _ (List.getElem_mem _))
    simp [WE,h100,this]
   refine Zu (by simpa using hb) ?_
   dsimp only [go_sem,rA,rM,rS]
   rw [Zf (n:=(k:Int)+1) (by omega) (by omega)]
   refine ⟨k+1,⟨hlt,fun i hi h=>?_⟩,by omega,?_⟩
   . by_cases e:i=k
     . subst e;exact hb
     . exact hok i hi (by omega)
   (refine Zi ?_ ?_ ?_ rfl rfl<;>dsimp only [Zh,Za,Zc,id,go_sem,rA,rM,rS]<;>simp [Zh,Za,Zc,Zb,Ze,KFR,KFL,KF,Zd,mtO,nbr])
 refine Zu (by simpa using hlt) ?_
 dsimp only [go_sem,rA,rM,rS]
 have hall:l.all (Zk p)=true:=by
  rw [List.all_eq_true]
  intro x hx
  obtain ⟨i,hi,rfl⟩:=List.getElem_of_mem hx
  exact hok i hi (by omega)
 refine Yf (fun s:Nat=>[(6,I (s:Nat))]) (fun _=>[]) (fun s=>s<=l.length/\∀ i j (hi:i < l.length) (hj:j < l.length),i < s->j < i->l[i].id=l[j].id->l[i]=l[j]) (fun s=>l.length - s) 0 ⟨Nat.zero_le _,fun i j _ _ h=>by omega⟩ ?_ ?_
 . (refine Zi ?_ ?_ ?_ rfl rfl<;>dsimp only [Zh,Za,Zc,id,go_sem,rA,rM,rS]<;>simp [Zh,Za,Zc,Zb,Ze,KFR,KFL,KF,Zd,mtO,nbr])
 intro a ⟨ha,hI⟩
 dsimp only [go_sem,rA,rM,rS]
 simp only [List.length_map]
 by_cases hlta:a < l.length
 . refine Zw (by simpa using hlta) ?_
   dsimp only [go_sem,rA,rM,rS]
   refine Yf (fun s:Nat=>[(7,I (s:Nat))]) (fun _=>[]) (fun s=>s<=a/\∀ j (hj:j < l.length),j < s->l[a].id=l[j].id->l[a]=l[j]) (fun s=>a - s) 0 ⟨Nat.zero_le _,fun j _ h=>by omega⟩ ?_ ?_
   . (refine Zi ?_ ?_ ?_ rfl rfl<;>dsimp only [Zh,Za,Zc,id,go_sem,rA,rM,rS]<;>simp [Zh,Za,Zc,Zb,Ze,KFR,KFL,KF,Zd,mtO,nbr])
   intro b ⟨hb,hJ⟩
   dsimp only [go_sem,rA,rM,rS]
   by_cases hltb:b < a
   . refine Zw (by simpa using hltb) ?_
     dsimp only [go_sem,rA,rM,rS]
     have hbl:b < l.length:=by omega
     refine Zq a hlta rfl ?_
     dsimp only [Zc,go_sem,rA,rM,rS]
     refine Zq b hbl rfl ?_
     dsimp only [Zc,go_sem,rA,rM,rS]
     by_cases hid:l[a].id=l[b].id
     . have g:(l[a].id == l[b].id)=true:=by simp [hid]
       simp only [g]
       repeat (first | (refine Wn rfl ?_;dsimp only [go_sem,rA,rM,rS]) | (refine Zq a hlta rfl ?_;dsimp only [Zc,go_sem,rA,rM,rS]) | (refine Zq b hbl rfl ?_;dsimp only [Zc,go_sem,rA,rM,rS]))
       by_cases he:l[a]=l[b]
       . refine Zu ?_ ?_
         . rw [ZBb];simp [ngB,he]
         dsimp only [go_sem,rA,rM,rS]
         rw [Zf (n:=(b:Int)+1) (by omega) (by omega)]
         refine ⟨b+1,⟨hltb,fun j hj h q=>?_⟩,by omega,?_⟩
         . by_cases e:j=b
           . subst e;exact he
           . exact hJ j hj (by omega) q
         (refine Zi ?_ ?_ ?_ rfl rfl<;>dsimp only [Zh,Za,Zc,id,go_sem,rA,rM,rS]<;>simp [Zh,Za,Zc,Zb,Ze,KFR,KFL,KF,Zd,mtO,nbr])
       . refine Zw ?_ ?_
         . rw [ZBb];simp [ngB,he]
         dsimp only [go_sem,rA,rM,rS]
         have:ZgD l=true:=by
          rw [<- Bool.not_eq_false]
          exact fun h=>he (Vn h _ (List.getElem_mem _) _ (List.getElem_mem _) hid)
         simp [WE,h100,hall,this]
     . have g:(l[a].id == l[b].id)=false:=by simp [hid]
       simp only [g]
       repeat (refine W3 (by decide) ?_;dsimp only [go_sem,rA,rM,rS])
       refine Zu rfl ?_
       dsimp only [go_sem,rA,rM,rS]
       rw [Zf (n:=(b:Int)+1) (by omega) (by omega)]
       refine ⟨b+1,⟨hltb,fun j hj h q=>?_⟩,by omega,?_⟩
       . by_cases e:j=b
         . subst e;exact absurd q hid
         . exact hJ j hj (by omega) q
       (refine Zi ?_ ?_ ?_ rfl rfl<;>dsimp only [Zh,Za,Zc,id,go_sem,rA,rM,rS]<;>simp [Zh,Za,Zc,Zb,Ze,KFR,KFL,KF,Zd,mtO,nbr])
   refine Zu (by simpa using hltb) ?_
   dsimp only [go_sem,rA,rM,rS]
   rw [Zf (n:=(a:Int)+1) (by omega) (by omega)]
   refine ⟨a+1,⟨hlta,fun i j hi hj h1 h2 q=>?_⟩,by omega,?_⟩
   . by_cases e:i=a
     . subst e;exact hJ j hj (by omega) q
     . exact hI i j hi hj (by omega) h2 q
   (refine Zi ?_ ?_ ?_ rfl rfl<;>dsimp only [Zh,Za,Zc,id,go_sem,rA,rM,rS]<;>simp [Zh,Za,Zc,Zb,Ze,KFR,KFL,KF,Zd,mtO,nbr])
 refine Zu (by simpa using hlta) ?_
 dsimp only [go_sem,rA,rM,rS]
 have h2:ZgD l=false:=Zej fun x hx y hy q=>by
  obtain ⟨i,hi,rfl⟩:=List.getElem_of_mem hx
  obtain ⟨j,hj,rfl⟩:=List.getElem_of_mem hy
  rcases Nat.lt_trichotomy i j with h | h | h
  . exact (hI j i hj hi (by omega) h q.symm).symm
  . subst h;rfl
  . exact hI i j hi hj (by omega) h q
 simp [WE,h100,hall,h2]
def Vz:Pact:=⟨[⟨1,600,500⟩,⟨2,300,200⟩,⟨3,0,300⟩],500,2,100⟩
def Vf:List Letter:=[⟨10,5,3,3,0,7,0,false⟩,⟨11,20,6,0,8,7,101,false⟩,⟨12,30,5,0,0,7,0,false⟩,⟨13,50,1,0,0,0,1000,false⟩,⟨14,60,2,0,0,0,300,false⟩]
def Zsa:Letter:=⟨15,25,6,0,8,7,90,false⟩
def Zso:List Letter:=[⟨16,21,7,1,2,0,40,false⟩,⟨17,22,8,1,2,0,50,false⟩,⟨18,23,8,1,2,0,30,false⟩]
def XF:List Letter:=[⟨10,5,3,3,0,7,0,false⟩,⟨11,20,6,0,8,7,101,false⟩,⟨12,30,5,0,0,7,0,true⟩,⟨13,50,1,0,0,0,1000,false⟩,⟨14,60,2,0,0,0,300,false⟩]
theorem ZpW {l l':List SV} (h:∀ (w:World) (E:Env) (n ok:Nat->Prop) (ys:List Value),RL w E n ok l ys->RL w E n ok l' ys):Zak (.agg l) (.agg l'):=fun w E n ok y hy=>by
 simp only [R] at hy ⊢
 obtain ⟨cs,h1,h2⟩:=hy
 exact ⟨cs,h1,h _ _ _ _ _ h2⟩
end Go.Proofs.Ythilckbkffjliaa
namespace Go.Sx
open Go Go.RowKit
def RLW (l l':List SV):Prop:=∀ (w:World) (E:Env) (n ok:Nat->Prop) (ys:List Value),RL w E n ok l ys->RL w E n ok l' ys
def RRW:List (List SV)->List (List SV)->Prop
 | [],[]=>True
 | r :: xs,r' :: xs'=>RLW r r'/\r'.length=r.length/\RRW xs xs'
 | _,_=>False
theorem Zcz:∀ {xs xs':List (List SV)},RRW xs xs'->xs'.length=xs.length
 | [],[],_=>rfl
 | _ :: xs,_ :: xs',h=>by simp [Zcz h.2.2]
 | [],_ :: _,h=>h.elim
 | _ :: _,[],h=>h.elim
theorem ZrF {w:World} {E:Env} {n ok:Nat->Prop} {b m:Nat}:∀ {xs xs':List (List SV)} {off:Nat},RRW xs xs'->RR w E n ok b m xs off->RR w E n ok b m xs' off
 | [],[],_,_,h=>h
 | r :: xs,r' :: xs',off,hw,h=>by
  simp only [RR] at h ⊢
  obtain ⟨h0,⟨cs,h1,h2⟩,h3⟩:=h
  exact ⟨by rw [hw.2.1];exact h0,⟨cs,hw.1 _ _ _ _ _ h1,h2⟩,ZrF hw.2.2 h3⟩
 | [],_ :: _,_,h,_=>h.elim
 | _ :: _,[],_,h,_=>h.elim
theorem ZwM {c:Bool} {m:Nat} {xs xs':List (List SV)} (h:RRW xs xs'):Zak (.sl c m xs) (.sl false m xs'):=fun w E n ok y hy=>by
 simp only [R] at hy ⊢
 obtain ⟨a,len,cap,h1,h2,h3,h4,h5⟩:=hy
 refine ⟨a,len,cap,h1,by rw [Zcz h];exact h2,⟨h3.1,fun h=>by cases h⟩,by rw [Zcz h];exact h4,?_⟩
 rcases h5 with h5 | ⟨b,off,h5,h6⟩
 . left
   have:=Zcz h
   rw [h5] at this
   exact List.eq_nil_of_length_eq_zero this
 . exact .inr ⟨b,off,h5,ZrF h h6⟩
theorem ZsM {r:List SV} (h:r.length=1):RLW r [.any]:=fun w E n ok ys hR=>by
 match r,h with
 | [s],_ =>
  simp only [RL] at hR ⊢
  obtain ⟨y,t,rfl,_,h2⟩:=hR
  exact ⟨y,t,rfl,by simp only [R],h2⟩
theorem ZjE:∀ {xs:List (List SV)},(∀ r ∈ xs,r.length=1)->RRW xs (List.replicate xs.length [.any])
 | [],_=>trivial
 | r :: xs,h=>⟨ZsM (h r (by simp)),by rw [h r (by simp)];rfl,ZjE fun q hq=>h q (by simp [hq])⟩
theorem Zdj {c:Bool} {N:Nat} {xs:List (List SV)} (hn:xs.length=N) (h:∀ r ∈ xs,r.length=1):Zak (.sl c 1 xs) (.sl false 1 (List.replicate N [.any])):=by
 subst hn
 exact ZwM (ZjE h)
end Go.Sx
namespace Go.Proofs.Ythilckbkffjliaa
open Go Go.Sx Go.Azalai
def owS (p:Pact) (c:Co):SV:=.sl false 1 ((ddL p c.debts).map fun r=>[.sl false 1 (r.map Zl)])
theorem ZrK (p:Pact) (d:Int->Int->Int):Zbi 0 1 ((ddL p d).map hI) ((ddL p d).map fX)=(ddL p d).map fun r=>[SV.sl false 1 (r.map Zl)]:=by rw [Zft];rfl
def anR:SV:=.sl false 1 (List.replicate 10000 [.any])
theorem Zzj:KF anR=True:=eq_true (by simp only [anR,KF];exact WH (by simp [KFL,KF]) 10000)
theorem UZ {ρ : Nat->Nat} {n:Nat}:mtS ρ n anR anR=True:=eq_true (by have:=Zzj;simp only [anR,KF] at this;simp only [anR,mtS];exact ⟨trivial,by rw [this];trivial⟩)
def Zvj (p:Pact) (c:Co):List SV:=[anR,anR,anR,anR,I (Vr p c),.sl false 1 ((pp p (UC p c)).map Zl),owS p c]
def Zs8 (p:Pact) (c:Co) (s:Int->Int) (v:Nat):List (Nat × HB):=[(2,.row 0 1 ((rg 10000 (U9 p c)).map Zl) 3),(3,.row 0 1 ((rg 10000 s).map Zl) 3),(4,.row 0 1 ((rg 10000 c.dead).map boL) 4),(5,.row 0 1 ((rg 10000 c.known).map boL) 4),
 (6,.row 0 1 ((pp p c.extra).map Zl) 3),(7,.rws v 1 ((ddL p c.debts).map fX) 27 0 1 ((ddL p c.debts).map hI) 3),(8,.cells [.mr 2 0,.mr 3 0,.mr 4 0,.mr 5 0,I c.result,.mr 6 0,.mr 7 v] 95)]
theorem bk_step {p:Pact} {n:Nat} {c:Co} {b:Bks} (h:BkR n c b) (hp:ZA p=true) {x:Letter} (hx:Zk p x=true):∃ b',BkR (n+1) (Zp p c x).1 b':=by
 by_cases h0:(Zp p c x).2=0
 case neg=>rw [ZdF h0];exact ⟨b,h.next⟩
 have hpp:(0<=p.hire/\p.hire<=1000)/\(0<=p.calf/\p.calf<=1000):=by
  simp only [ZA,Bool.and_eq_true,inR,decide_eq_true_eq] at hp
  omega
 have hday:0<=x.day/\x.day<=100000:=by
  simp only [Zk,Bool.and_eq_true,inR,decide_eq_true_eq] at hx
  exact hx.1.2
 rcases Ue hx with hk | hk | hk | hk | hk | hk | hk | hk
 . have hr:0<=x.rials/\x.rials<=10000000:=by simp [Zk,hk,inR] at hx;omega
   have e:(Zp p c x).1={ c with result:=c.result+x.rials }:=by simp [Zp,hk]
   rw [e];exact ⟨_,h.res (by omega)⟩
 . have hr:0<=x.rials/\x.rials<=10000000:=by simp [Zk,hk,inR] at hx;omega
   have e:(Zp p c x).1={ c with result:=c.result - x.rials }:=by simp [Zp,hk]
   rw [e];exact ⟨_,h.res (by omega)⟩
 . have e:=Zys hk h0
   rw [e];exact ⟨_,h.lent hday⟩
 . obtain ⟨l,hl,e⟩:=ZAJ hk h0
   rw [e];exact ⟨_,h.home hpp.1 hl hday⟩
 . obtain ⟨l,hl,e⟩:=Zzo hk h0
   rw [e];exact ⟨_,(h.home hpp.1 hl hday).kill⟩
 . have hr:0<=x.rials/\x.rials<=10000000:=by simp [Zk,hk,inR] at hx;omega
   obtain ⟨l,hl,e⟩:=ZyL hk h0
   have hpart:=(Zfq hr hpp.2).2
   rw [e];exact ⟨_,h.calf (by omega) (by omega)⟩
 . have hr:0<=x.rials/\x.rials<=10000000:=by simp [Zk,hk,inR] at hx;omega
   have e:(Zp p c x).1={ c with debts:=upd c.debts x.who (upd (c.debts x.who) x.other (c.debts x.who x.other+x.rials)) }:=by simp [Zp,hk]
   rw [e];exact ⟨_,h.debt (by omega)⟩
 . have hr:0<=x.rials/\x.rials<=10000000:=by simp [Zk,hk,inR] at hx;omega
   have hd:¬ c.debts x.who x.other < x.rials:=fun q=>by simp [Zp,hk,q] at h0
   have e:(Zp p c x).1={ c with debts:=upd c.debts x.who (upd (c.debts x.who) x.other (c.debts x.who x.other - x.rials)) }:=by simp [Zp,hk,hd]
   rw [e];exact ⟨_,h.debt (by omega)⟩
theorem u53 {args:List SV} {res:SV} (ka:KFL args) (kr:KF res) (h:sx Try.prog Y0 0 c53 (st0 args 57) (Zl8 r53 res)) (hA:Nat.ble args.length 57=true:=by rfl):Ct Try.prog 53 args res:=XS Try.func53 rfl b53 ZyZ Zx5 n53 (Nat.le_of_ble_eq_true hA) ka kr h
theorem ZzG {p:Pact} (hp:ZA p=true) (l:List Letter) (hl:∀ x ∈ l,Zk p x=true) (h100:l.length<=1000) (k:Bool) :
 Ct Try.prog 53 [.agg (Zh p),.sl k 8 (l.map Zc)] (.tup [.agg (Zvj p (Xx p co0 l)),.sl false 1 ((ZbO p co0 l).map u8L)]):=by
 have hA:=Yx hp
 have hps:YI p:=by unfold YI;omega
 have hpp:(0<=p.hire/\p.hire<=1000)/\(0<=p.calf/\p.calf<=1000):=by
  simp only [ZA,Bool.and_eq_true,inR,decide_eq_true_eq] at hp
  omega
 have hids:(ids p).Nodup:=by
  simp only [ZA,Bool.and_eq_true] at hp
  exact (Yd hp.1.1.2).2.1
 have hends:0<=p.ends/\p.ends<=100000:=by
  simp only [ZA,Bool.and_eq_true,inR,decide_eq_true_eq] at hp
  omega
 refine u53 (by simp [Zh,Za,Zc,Zb,KFL,KF]) (by simp [Zvj,Zzj,owS,u8L,Zl,Zb,KFL,KF]) ?_
 dsimp only [c53,r53,Zh,go_sem,rA,rM,rS]
 refine Zs [] (ZvC (p:=p) hps) rfl rfl rfl ?_ ?_ ?_
 . dsimp only [Zh,go_sem,rA,rM,rS]
   simp [Zb,Ze,KFR,KFL,KF,Zd,mtL,mtB,mtS,mtO,Zad,nbr,Za]
 . trivial
 rintro _ ⟨v,rfl⟩
 dsimp only [bkH,bkV,go_sem,rA,rM,rS]
 refine gh ZL ?_
 dsimp only [go_sem,rA,rM,rS]
 have hco:∀ j,CoOk p (Xx p co0 (l.take j)):=fun j=>CoOk.co0.run fun x hx=>hl x (List.mem_of_mem_take hx)
 refine Zai (YF (Uv [1,2,4,5,6,7,8] rfl) (ZX 7 1 5 rfl rfl)) (fun q:Nat × (Int->Int)=>[(8,I q.1),(7,.mr 9 q.1)]) (fun q=>Zs8 p (Xx p co0 (l.take q.1)) q.2 v ++ [(9,.row q.1 1 ((ZbO p co0 (l.take q.1)).map u8L) 5)])
  (fun q=>q.1<=l.length/\ZaL (Xx p co0 (l.take q.1)) q.2/\∃ b,BkR q.1 (Xx p co0 (l.take q.1)) b) (fun q=>l.length - q.1) (0,fun _=>0) ⟨Nat.zero_le _,fun a m h=>by simp [Xx,co0] at h,_,BkR.start⟩ ?_ ?_
 . dsimp only [Zs8,go_sem,rA,rM,rS]
   (refine Zi ?_ ?_ ?_ rfl rfl<;>dsimp only [Za,Zc,Zl,boL,Wh,XO,u8L,Xx,ZbO,id,go_sem,rA,rM,rS]<;>simp [Za,Zc,Zl,boL,Wh,XO,u8L,Xx,ZbO,Zb,Ze,KFR,KFL,KF,Zd,mtO,nbr])
 rintro ⟨j,s⟩ ⟨hj,hs,b,hb⟩
 simp only at hj hs hb
 dsimp only [Zs8,go_sem,rA,rM,rS]
 simp only [List.length_map]
 by_cases hlt:j < l.length
 . refine Zw (by simpa using hlt) ?_
   dsimp only [go_sem,rA,rM,rS]
   refine Zq j hlt rfl ?_
   dsimp only [Zc,go_sem,rA,rM,rS]
   have hx:=hl l[j] (List.getElem_mem _)
   refine Zal (by simp [FLT]) (res:=U8 (Zp p (Xx p co0 (l.take j)) l[j]).2) ?_ ?_
   . have hw:=Zyp hps (hco j) (s:=s) hx
     simp only [bkW] at hw
     simp only [ZbC,vw4,vwS,nbr]
     dsimp only [go_sem,rA,rM,rS]
     rw [show Nat.beq v v=true from nbr v,ZrK]
     exact hw
   dsimp only [go_sem,rA,rM,rS]
   simp only [nbr]
   dsimp only [go_sem,rA,rM,rS]
   refine ⟨by simp [ZW,Wy,Zab],by simp [Zfo];omega,?_⟩
   dsimp only [go_sem,rA,rM,rS]
   have e1:(ZbO p co0 (l.take j)).map u8L ++ [[SV.v (Value.int IntKind.u8 (Zp p (Xx p co0 (l.take j)) l[j]).2)]]=(ZbO p co0 (l.take (j+1))).map u8L:=by
    rw [ZmE hlt,List.map_append];rfl
   rw [e1]
   by_cases h0:(Zp p (Xx p co0 (l.take j)) l[j]).2=0
   . refine Zw (by rw [h0];rfl) ?_
     dsimp only [go_sem,rA,rM,rS]
     refine Zq j hlt rfl ?_
     dsimp only [Zc,go_sem,rA,rM,rS]
     refine Zs [2,3,4,5,6,7] (do_ok hps hb (by omega) hpp hids (hco j) hs (v:=v) hx h0) rfl rfl rfl ?_ ?_ ?_
     . dsimp only [rho,bkV,Zh,Zc,go_sem,rA,rM,rS]
       simp [Zb,Ze,KFR,KFL,KF,Zd,mtL,mtB,mtS,mtO,Zad,nbr,Za]
     . dsimp only [rho,bkH,go_sem,rA,rM,rS]
       simp [Zb,Ze,KFR,KFL,KF,Zd,mtO,nbr,Zl,boL,Wh,XO]
     rintro _ rfl
     dsimp only [bkH,bkV,go_sem,rA,rM,rS]
     rw [<- Ud hlt,Zf (n:=(j:Int)+1) (by omega) (by omega)]
     refine ⟨(j+1,ZbJ s l[j]),⟨hlt,by rw [Ud hlt];exact ZgR hs hx h0,?_⟩,by simp only;omega,?_⟩
     . rw [Ud hlt]
       exact bk_step hb hp hx
     generalize Xx p co0 (l.take (j+1))=c1
     generalize ZbJ s l[j]=s1
     dsimp only [Zs8,go_sem,rA,rM,rS]
     (refine Zi ?_ ?_ ?_ rfl rfl<;>dsimp only [Za,Zc,Zl,boL,Wh,XO,u8L,id,go_sem,rA,rM,rS]<;>simp [Za,Zc,Zl,boL,Wh,XO,u8L,Zb,Ze,KFR,KFL,KF,Zd,mtO,nbr])
   . refine Zu (by simpa using h0) ?_
     dsimp only [go_sem,rA,rM,rS]
     have e2:Xx p co0 (l.take (j+1))=Xx p co0 (l.take j):=by rw [Ud hlt,ZdF h0]
     rw [Zf (n:=(j:Int)+1) (by omega) (by omega)]
     refine ⟨(j+1,s),⟨hlt,by rw [e2];exact hs,b,by rw [e2];exact hb.next⟩,by simp only;omega,?_⟩
     simp only [e2]
     generalize Xx p co0 (l.take j)=c1
     (refine Zi ?_ ?_ ?_ rfl rfl<;>dsimp only [Za,Zc,Zl,boL,Wh,XO,u8L,id,go_sem,rA,rM,rS]<;>simp [Za,Zc,Zl,boL,Wh,XO,u8L,Zb,Ze,KFR,KFL,KF,Zd,mtO,nbr])
 refine Zu (by simpa using hlt) ?_
 dsimp only [go_sem,rA,rM,rS]
 have hje:j=l.length:=by omega
 subst hje
 rw [List.take_length] at hs hb ⊢
 have hcf:CoOk p (Xx p co0 l):=by have:=hco l.length;rwa [List.take_length] at this
 generalize hcc:Xx p co0 l=c at hs hb hcf ⊢
 generalize hwl:(ZbO p co0 l).map u8L=W
 refine gh ZL ?_
 dsimp only [go_sem,rA,rM,rS]
 refine Zet [2,4,6,7,10] rfl (fun i:Nat=>[(10,I i)]) (fun i=>Zs8 p (Vh p c i) s v) (fun i=>i<=10000/\∃ b,BkR (l.length+i) (Vh p c i) b) (fun i=>10000 - i) 0 ⟨Nat.zero_le _,b,hb⟩ ?_ ?_
 . dsimp only [Zs8,Vh,go_sem,rA,rM,rS]
   have hWk:KFR W:=by rw [<- hwl];simp [Zb,u8L,KFL,KF]
   (refine Zi ?_ ?_ ?_ rfl rfl<;>dsimp only [Za,Zc,Zl,boL,Wh,XO,hWk,id,go_sem,rA,rM,rS]<;>simp [Za,Zc,Zl,boL,Wh,XO,hWk,Zb,Ze,KFR,KFL,KF,Zd,mtO,nbr])
 rintro i ⟨hi,bi,hbi⟩
 dsimp only [Zs8,go_sem,rA,rM,rS]
 have hlo:=fun a:Int=>Vb (p:=p) (c:=c) (n:=i) (a:=a)
 have hsi:ZaL (Vh p c i) s:=fun a m hm=>by
  rw [hlo] at hm
  split at hm
  . cases hm
  . exact hs a m hm
 have hci:CoOk p (Vh p c i):=⟨fun a m hm=>by
  rw [hlo] at hm
  split at hm
  . cases hm
  . exact hcf.who a m hm,fun a m hm=>by
  rw [hlo] at hm
  split at hm
  . cases hm
  . exact hcf.inb a m hm⟩
 by_cases hlt:i < 10000
 . refine Zw (by simp;omega) ?_
   dsimp only [go_sem,rA,rM,rS]
   simp only [List.length_map,Yu]
   refine Yl i rfl hlt ?_
   dsimp only [go_sem,rA,rM,rS]
   refine Xt (by rw [Yu];exact hlt) ?_
   dsimp only [Zl,go_sem,rA,rM,rS]
   rw [U1 hlt,Zir hci]
   have hli:(Vh p c i).loans i=c.loans i:=by rw [hlo,if_neg (by omega)]
   rw [hli]
   cases hl:c.loans i with
   | none =>
    refine Zu (by simp) ?_
    dsimp only [go_sem,rA,rM,rS]
    have e3:Vh p c (i+1)=Vh p c i:=by simp only [Vh,hl]
    rw [Zf (n:=(i:Int)+1) (by omega) (by omega)]
    refine ⟨i+1,⟨by omega,bi,by rw [e3];exact hbi.next⟩,by omega,?_⟩
    simp only [e3]
    have hWk:KFR W:=by rw [<- hwl];simp [Zb,u8L,KFL,KF]
    (refine Zi ?_ ?_ ?_ rfl rfl<;>dsimp only [Za,Zc,Zl,boL,Wh,XO,hWk,id,go_sem,rA,rM,rS]<;>simp [Za,Zc,Zl,boL,Wh,XO,hWk,Zb,Ze,KFR,KFL,KF,Zd,mtO,nbr])
   | some m =>
    refine Zw (by simp) ?_
    dsimp only [go_sem,rA,rM,rS]
    have e3:Vh p c (i+1)=ZN p (Vh p c i) i p.ends m:=by simp only [Vh,hl]
    refine Zs [2,3,4,5,6,7] (Zeh hbi (by omega) hpp.1 hids hsi (v:=v) hlt (l:=m) (by rw [hli];exact hl) (hcf.who _ _ hl) hends) rfl rfl rfl ?_ ?_ ?_
    . dsimp only [rho,bkV,Zh,go_sem,rA,rM,rS]
      simp [Zb,Ze,KFR,KFL,KF,Zd,mtL,mtB,mtS,mtO,Zad,nbr,Za]
    . dsimp only [rho,bkH,go_sem,rA,rM,rS]
      simp [Zb,Ze,KFR,KFL,KF,Zd,mtO,nbr,Zl,boL,Wh,XO]
    rintro _ rfl
    dsimp only [bkH,bkV,go_sem,rA,rM,rS]
    rw [<- e3,Zf (n:=(i:Int)+1) (by omega) (by omega)]
    refine ⟨i+1,⟨by omega,?_⟩,by omega,?_⟩
    . rw [e3];exact ⟨_,by have:=hbi.home hpp.1 (by rw [hli];exact hl) hends;simpa [Nat.add_assoc] using this⟩
    generalize Vh p c (i+1)=c1
    have hWk:KFR W:=by rw [<- hwl];simp [Zb,u8L,KFL,KF]
    (refine Zi ?_ ?_ ?_ rfl rfl<;>dsimp only [Za,Zc,Zl,boL,Wh,XO,hWk,id,go_sem,rA,rM,rS]<;>simp [Za,Zc,Zl,boL,Wh,XO,hWk,Zb,Ze,KFR,KFL,KF,Zd,mtO,nbr])
 refine Zu (by simp;omega) ?_
 dsimp only [go_sem,rA,rM,rS]
 rw [show i=10000 from by omega]
 refine gh (Zm2 8 6 7 rfl rfl rfl rfl) ?_
 rw [ZrK]
 dsimp only [go_sem,rA,rM,rS]
 have hr1:(Vh p c 10000).result=Vr p c:=Zar
 have hr2:pp p (Vh p c 10000).extra=pp p (UC p c):=by simp only [pp,Uf];rfl
 have hr3:(Vh p c 10000).debts=c.debts:=UJ
 rw [hr1,hr2,hr3]
 simp only [nbr]
 dsimp only [go_sem,rA,rM,rS]
 refine ⟨_,rfl,?_⟩
 have hi1:∀ f:Int->Int,Zak (.sl false 1 ((rg 10000 f).map Zl)) anR:=fun f=>Zdj (by rw [List.length_map,Yu]) fun r hr=>by obtain ⟨_,_,rfl⟩:=List.mem_map.1 hr;rfl
 have hb1:∀ f:Int->Bool,Zak (.sl false 1 ((rg 10000 f).map boL)) anR:=fun f=>Zdj (by rw [List.length_map,Yu]) fun r hr=>by obtain ⟨_,_,rfl⟩:=List.mem_map.1 hr;rfl
 exact WI (YM (ZpW (YM (hi1 _) (YM (hi1 _) (YM (hb1 _) (YM (hb1 _) Zry))))) Zry)
theorem u52 {args:List SV} {res:SV} (ka:KFL args) (kr:KF res) (h:sx Try.prog Y0 0 c52 (st0 args 117) (Zl8 r52 res)) (hA:Nat.ble args.length 117=true:=by rfl):Ct Try.prog 52 args res:=XS Try.func52 rfl b52 ZAs ZAH n52 (Nat.le_of_ble_eq_true hA) ka kr h
theorem ZfX (p:Pact) (l:List Letter) (h100:l.length<=1000) (k:Bool) :
 Ct Try.prog 52 [.agg (Zh p),.sl k 8 (l.map Zc)] (.sl false 8 ((Xi p l).map Zc)):=by
 refine u52 (by simp [Zh,Za,Zc,Zb,KFL,KF]) (by simp [Zc,Zb,KFL,KF]) ?_
 dsimp only [c52,r52,Zh,go_sem,rA,rM,rS]
 have hlk:∀ Q:List Letter,KFR (Q.map Zc):=fun Q=>by simp [Zb,Zc,KFL,KF]
 refine Zai (YF (Uv [1,2,5,6] rfl) (ZX 5 8 50 rfl rfl)) (fun q:Nat × List Letter=>[(6,I q.1),(5,.mr 1 q.2.length),(7,.any),(8,.any),(9,.any)]) (fun q=>[(1,.row q.2.length 8 (q.2.map Zc) 50)]) (fun q=>q.1<=l.length/\RdI p.ends l q.1 q.2) (fun q=>l.length - q.1) (0,[]) ⟨Nat.zero_le _,RdI.start⟩ ?_ ?_
 . (refine Zi ?_ ?_ ?_ rfl rfl<;>dsimp only [Za,Zc,id,go_sem,rA,rM,rS]<;>simp [Za,Zc,Zb,Ze,KFR,KFL,KF,Zd,mtO,nbr])
 rintro ⟨i,Q⟩ ⟨hi,hQ⟩
 simp only at hi hQ
 dsimp only [go_sem,rA,rM,rS]
 simp only [List.length_map]
 have hQl:=hQ.len
 by_cases hlt:i < l.length
 case neg =>
  refine Zu (by simpa using hlt) ?_
  dsimp only [go_sem,rA,rM,rS]
  refine gh ZL ?_
  dsimp only [go_sem,rA,rM,rS]
  simp only [nbr]
  dsimp only [go_sem,rA,rM,rS]
  have e:i=l.length:=by omega
  subst e
  rw [hQ.fin]
  exact ⟨_,rfl,Zak.rfl⟩
 refine Zw (by simpa using hlt) ?_
 dsimp only [go_sem,rA,rM,rS]
 refine Zq i hlt rfl ?_
 dsimp only [Zc,go_sem,rA,rM,rS]
 refine Yf (fun k:Nat=>[(8,I k),(7,B (XU p.ends (l.take k) l[i]))]) (fun _=>[]) (fun k=>k<=i) (fun k=>i - k) 0 (Nat.zero_le _) ?_ ?_
 . (refine Zi ?_ ?_ ?_ rfl rfl<;>dsimp only [Za,Zc,XU,List.take_zero,List.any_nil,Bool.or_false,id,go_sem,rA,rM,rS]<;>simp [Za,Zc,XU,List.take_zero,List.any_nil,Bool.or_false,Zb,Ze,KFR,KFL,KF,Zd,mtO,nbr])
 intro k hk
 dsimp only [go_sem,rA,rM,rS]
 by_cases hki:k < i
 . refine Zw (by simpa using hki) ?_
   dsimp only [go_sem,rA,rM,rS]
   have hkl:k < l.length:=by omega
   have ht:XU p.ends (l.take (k+1)) l[i]=(XU p.ends (l.take k) l[i] || decide (l[k].id=l[i].id)):=by
    rw [List.take_succ_eq_append_getElem hkl]
    simp only [XU,List.any_append,List.any_cons,List.any_nil,Bool.or_false,Bool.or_assoc]
   cases hb:XU p.ends (l.take k) l[i] with
   | true =>
    iterate 11 (refine W3 (by decide) ?_;dsimp only [go_sem,rA,rM,rS])
    rw [Zf (n:=(k:Int)+1) (by omega) (by omega)]
    refine ⟨k+1,hki,by omega,?_⟩
    rw [hb,Bool.true_or] at ht
    rw [ht]
    (refine Zi ?_ ?_ ?_ rfl rfl<;>dsimp only [Za,Zc,id,go_sem,rA,rM,rS]<;>simp [Za,Zc,Zb,Ze,KFR,KFL,KF,Zd,mtO,nbr])
   | false =>
    refine Wn rfl ?_
    dsimp only [go_sem,rA,rM,rS]
    refine Wn rfl ?_
    dsimp only [go_sem,rA,rM,rS]
    refine Wn rfl ?_
    dsimp only [go_sem,rA,rM,rS]
    refine Zq k hkl rfl ?_
    dsimp only [Zc,go_sem,rA,rM,rS]
    iterate 2 (refine Wn rfl ?_;dsimp only [go_sem,rA,rM,rS])
    iterate 2 (refine Wn rfl ?_;dsimp only [go_sem,rA,rM,rS])
    refine Wn rfl ?_
    dsimp only [go_sem,rA,rM,rS]
    refine Zq i hlt rfl ?_
    dsimp only [Zc,go_sem,rA,rM,rS]
    iterate 3 (refine Wn rfl ?_;dsimp only [go_sem,rA,rM,rS])
    rw [hb,Bool.false_or] at ht
    rw [Zf (n:=(k:Int)+1) (by omega) (by omega)]
    have he:(l[k].id == l[i].id)=XU p.ends (l.take (k+1)) l[i]:=by rw [ht];exact Bool.beq_eq_decide_eq _ _
    refine ⟨k+1,hki,by omega,?_⟩
    rw [<- he]
    (refine Zi ?_ ?_ ?_ rfl rfl<;>dsimp only [Za,Zc,id,go_sem,rA,rM,rS]<;>simp [Za,Zc,Zb,Ze,KFR,KFL,KF,Zd,mtO,nbr])
 refine Zu (by simpa using hki) ?_
 dsimp only [go_sem,rA,rM,rS]
 have hke:k=i:=by omega
 subst hke
 refine gh ZL ?_
 dsimp only [go_sem,rA,rM,rS]
 cases htw:XU p.ends (l.take k) l[k] with
 | true =>
  refine Zw rfl ?_
  dsimp only [go_sem,rA,rM,rS]
  refine gh ZL ?_
  dsimp only [go_sem,rA,rM,rS]
  rw [Zf (n:=(k:Int)+1) (by omega) (by omega)]
  refine ⟨(k+1,Q),⟨hlt,hQ.skip hlt htw⟩,by simp only;omega,?_⟩
  (refine Zi ?_ ?_ ?_ rfl rfl<;>dsimp only [Za,Zc,id,go_sem,rA,rM,rS]<;>simp [Za,Zc,Zb,Ze,KFR,KFL,KF,Zd,mtO,nbr])
 | false =>
 refine Zu rfl ?_
 dsimp only [go_sem,rA,rM,rS]
 refine Zq k hlt rfl ?_
 dsimp only [Zc,go_sem,rA,rM,rS]
 simp only [nbr]
 dsimp only [go_sem,rA,rM,rS]
 refine ⟨by simp [ZW,Wy,Zab],by simp;omega,?_⟩
 dsimp only [go_sem,rA,rM,rS]
 simp only [nbr]
 dsimp only [go_sem,rA,rM,rS]
 have e1:Q.map Zc ++ [[I l[k].id,I l[k].day,U8 l[k].kind,I l[k].who,I l[k].other,I l[k].animal,I l[k].rials,B l[k].mouth]]=(Q ++ [l[k]]).map Zc:=by simp [Zc]
 rw [e1]
 simp only [List.length_map,List.length_append,List.length_cons,List.length_nil]
 rw [Zf (n:=((Q.length+(0+1):Nat):Int) - 1) (by omega) (by omega)]
 have hids:=hQ.ids hlt htw
 refine Zet [1,2,5,6,9] rfl (fun q:Nat × List Letter=>[(9,I q.1)]) (fun q=>[(1,.row (Q.length+1) 8 (q.2.map Zc) 50)]) (fun q=>RdS Q l[k] q.1 q.2) (fun q=>q.1) (Q.length,Q ++ [l[k]]) RdS.start ?_ ?_
 . rw [show ((Q.length+(0+1):Nat):Int) - 1=(Q.length:Int) from by omega]
   (refine Zi ?_ ?_ ?_ rfl rfl<;>dsimp only [Za,Zc,id,go_sem,rA,rM,rS]<;>simp [Za,Zc,Zb,Ze,KFR,KFL,KF,Zd,mtO,nbr])
 rintro ⟨j,R⟩ hR
 simp only at hR
 have hRl:=hR.len
 dsimp only [go_sem,rA,rM,rS]
 by_cases hj0:j=0
 . have g:decide ((j:Int) > 0)=false:=by simp;omega
   simp only [g]
   repeat (first | (refine gb ?_;dsimp only [go_sem,rA,rM,rS]) | (simp only [nbr];dsimp only [go_sem,rA,rM,rS]) | (refine Zc2 0 rfl (fun h=>by cases h) ?_;dsimp only [go_sem,rA,rM,rS]) | (refine ⟨0,fun hg=>by have h1:=(ZcF hg rfl).1;have h3:=Zwb h1 rfl;exact absurd h3 (by decide),?_⟩;dsimp only [go_sem,rA,rM,rS]) | (refine ⟨0,fun hg=>by have h1:=(ZcF hg rfl).1;have h2:=(ZcF h1 rfl).1;have h3:=Zwb h2 rfl;exact absurd h3 (by decide),?_⟩;dsimp only [go_sem,rA,rM,rS]) | (refine Xt (by omega) ?_;dsimp only [Zc,go_sem,rA,rM,rS]))
   refine Zu rfl ?_
   dsimp only [go_sem,rA,rM,rS]
   refine gh ZL ?_
   dsimp only [go_sem,rA,rM,rS]
   rw [Zf (n:=(k:Int)+1) (by omega) (by omega)]
   refine ⟨(k+1,R),⟨hlt,hQ.put hlt htw hR (by omega) (.inl hj0)⟩,by simp only;omega,?_⟩
   simp only [hRl.1]
   (refine Zi ?_ ?_ ?_ rfl rfl<;>dsimp only [Za,Zc,id,go_sem,rA,rM,rS]<;>simp [Za,Zc,Zb,Ze,KFR,KFL,KF,Zd,mtO,nbr])
 obtain ⟨j1,rfl⟩:∃ j1,j=j1+1:=⟨j - 1,by omega⟩
 have hj2:j1+1 < R.length:=by omega
 have hw:IntKind.i64.wrap (((j1+1:Nat):Int) - 1)=((j1:Nat):Int):=by rw [Zf (by omega) (by omega)];omega
 have hat:=hR.at hj2
 have g:decide (((j1+1:Nat):Int) > 0)=true:=by simp
 simp only [g]
 repeat (first | (refine gb ?_;dsimp only [go_sem,rA,rM,rS]) | (simp only [nbr];dsimp only [go_sem,rA,rM,rS]) | (refine Yl (j1+1) rfl (by rw [List.length_map];exact hj2) ?_;dsimp only [go_sem,rA,rM,rS]) | (refine Yl j1 hw (by rw [List.length_map];omega) ?_;dsimp only [go_sem,rA,rM,rS]) | (refine Xt (by omega) ?_;dsimp only [Zc,go_sem,rA,rM,rS]))
 have hc:(true && (decide ((R[j1+1]'hj2).day < (R[j1]'(by omega)).day) || (R[j1+1]'hj2).day == (R[j1]'(by omega)).day && decide ((R[j1+1]'hj2).id < (R[j1]'(by omega)).id)))=lt2 l[k] (R[j1]'(by omega)):=by
  rw [hat,Bool.true_and,lt2,Bool.beq_eq_decide_eq]
 rw [hc]
 by_cases hl:lt2 l[k] (R[j1]'(by omega))=true
 case neg =>
  refine Zu (by simpa using hl) ?_
  dsimp only [go_sem,rA,rM,rS]
  refine gh ZL ?_
  dsimp only [go_sem,rA,rM,rS]
  rw [Zf (n:=(k:Int)+1) (by omega) (by omega)]
  have hput:=hQ.put hlt htw hR (by omega) (.inr ⟨(show j1+1 - 1 < R.length by omega),by omega,by simpa using hl⟩)
  refine ⟨(k+1,R),⟨hlt,hput⟩,by simp only;omega,?_⟩
  simp only [hRl.1]
  (refine Zi ?_ ?_ ?_ rfl rfl<;>dsimp only [Za,Zc,id,go_sem,rA,rM,rS]<;>simp [Za,Zc,Zb,Ze,KFR,KFL,KF,Zd,mtO,nbr])
 refine Zw hl ?_
 dsimp only [go_sem,rA,rM,rS]
 repeat (first | (simp only [nbr];dsimp only [go_sem,rA,rM,rS]) | (refine Yl (j1+1) rfl (by rw [List.length_map];exact hj2) ?_;dsimp only [go_sem,rA,rM,rS]) | (refine Yl j1 hw (by rw [List.length_map];omega) ?_;dsimp only [go_sem,rA,rM,rS]) | (refine Xt (by omega) ?_;dsimp only [Zc,go_sem,rA,rM,rS]))
 refine WT (R[j1]'(by omega)) hj2 (by simp [Zc]) (by simp [Zc,Zn]) ?_
 dsimp only [go_sem,rA,rM,rS]
 repeat (first | (simp only [nbr];dsimp only [go_sem,rA,rM,rS]) | (refine Yl j1 hw (by rw [List.length_map,List.length_set];omega) ?_;dsimp only [go_sem,rA,rM,rS]))
 refine WT (R[j1+1]'hj2) (by rw [List.length_set];omega) (by simp [Zc]) (by simp [Zc,Zn]) ?_
 dsimp only [go_sem,rA,rM,rS]
 rw [hw,hat]
 refine ⟨(j1,(R.set (j1+1) (R[j1]'(by omega))).set j1 l[k]),hR.swap hj2 hl,by simp only;omega,?_⟩
 generalize (R.set (j1+1) (R[j1]'(by omega))).set j1 l[k]=R2
 (refine Zi ?_ ?_ ?_ rfl rfl<;>dsimp only [Za,Zc,id,go_sem,rA,rM,rS]<;>simp [Za,Zc,Zb,Ze,KFR,KFL,KF,Zd,mtO,nbr])
end Go.Proofs.Ythilckbkffjliaa
namespace Go.Sx
open Go Go.RowKit
section
variable {P:Program} {C:Cx} {E:Env} {σ : St} {a:Act} {w:World} {n:Nat->Prop} {hp:List (Nat × HB)} {r:KT} {K:RK}
end
end Go.Sx
namespace Go.Proofs.Ythilckbkffjliaa
open Go Go.Sx
open Go.Azalai
end Go.Proofs.Ythilckbkffjliaa
