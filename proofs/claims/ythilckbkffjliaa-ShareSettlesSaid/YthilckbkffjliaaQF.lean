/- Walks and plain laws that lead to the given statement, part 6 of 10. -/
import Derived.Test.YthilckbkffjliaaQE
import Derived.Test.YthilckbkffjliaaProg
import Derived.WideLaws
set_option maxRecDepth 100000
set_option maxHeartbeats 4000000
set_option linter.all false
open Nat renaming reduceAdd->rA,reduceMul->rM,reduceSub->rS,beq_refl->nbr
namespace Go.Proofs.Ythilckbkffjliaa
open Go Go.Sx
def c83:SC:=(.reg [
 m1 4 0,
 m1 5 0,
 o1 6 (.len (.t 5)),
 m1 7 1,
 o1 8 (.callm 108 [.t 4,.t 6,.t 7])])
def r83:List RV:=[]
theorem n83:Try.f83.ntmps=9:=by kernel_rfl
theorem b83:Z3 Try.prog 83=true:=by kernel_rfl
theorem Zz8:YJ Try.prog c83 ((Try.f83.body).getD .skip)=true:=by kernel_rfl
theorem Zyu:Y5 Try.prog r83 Try.f83.results.toList=true:=by kernel_rfl
theorem m83 {n0:Nat} {hp0:List (Nat × HB)} {args:List SV} {Zx:Ot->Prop} (hh:hpb n0 hp0) (hx:∀ o,Zx o->KX o.res/\KXP o.hp) (h:sx Try.prog Y0 n0 c83 ⟨Y2 0 args,hp0,n0,9,[]⟩ (WC r83 fun o=>∃ o',Zx o'/\WW n0 o o')) (hA:Nat.ble args.length 9=true:=by rfl):CtM Try.prog 83 hp0 n0 args Zx:=Zv Try.func83 rfl b83 Zz8 Zyu n83 (Nat.le_of_ble_eq_true hA) hh hx h
def c108:SC:=(sr1 [
 o1 6 (.mv (cn 20))]
 (sr1 [
 m1 10 6,
 o1 7 (.mv (cn 0)),
 m1 8 10]
 (.seq (.block 0 (.loop (.seq (sr1 [
  m1 11 8,
  m1 12 1,
  o1 13 (.bin .leq (.t 11) (.t 12))]
  (.cond (.t 13)
  .skip
  (.exit 0)))
  (.block 1 (sr1 [
   m1 14 0,
   m1 15 7,
   m1 16 8,
   m1 17 2,
   o1 18 (.callm 113 [.t 14,.t 15,.t 16,.t 17])]
   (sr1 [
   m1 19 8,
   m1 7 19]
   (.reg [
   m1 20 8,
   m1 21 6,
   o1 22 (.bin .add (.t 20) (.t 21)),
   m1 8 22])))))))
 (sr1 [
 m1 23 0,
 m1 24 7,
 m1 25 1,
 m1 26 2,
 o1 27 (.callm 113 [.t 23,.t 24,.t 25,.t 26])]
 (.block 2 (.loop (.seq (sr1 [
  m1 28 6,
  m1 29 1,
  o1 30 (.bin .lss (.t 28) (.t 29))]
  (.cond (.t 30)
  .skip
  (.exit 2)))
  (.block 3 (sr1 [
   m1 31 6,
   o1 32 (.bin .mul (cn 2) (.t 31)),
   o1 7 (.mv (cn 0)),
   m1 8 32]
   (.seq (.block 4 (.loop (.seq (sr1 [
    m1 33 8,
    m1 34 1,
    o1 35 (.bin .leq (.t 33) (.t 34))]
    (.cond (.t 35)
    .skip
    (.exit 4)))
    (.block 5 (sr1 [
     m1 36 0,
     m1 37 7,
     m1 38 7,
     m1 39 6,
     o1 40 (.bin .add (.t 38) (.t 39)),
     m1 41 8,
     m1 42 2,
     o1 43 (.callm 114 [.t 36,.t 37,.t 40,.t 41,.t 42])]
     (sr1 [
     m1 44 8,
     m1 7 44]
     (.reg [
     m1 45 8,
     m1 46 6,
     o1 47 (.bin .mul (cn 2) (.t 46)),
     o1 48 (.bin .add (.t 45) (.t 47)),
     m1 8 48])))))))
   (.seq (sr1 [
   m1 49 7,
   m1 50 6,
   o1 51 (.bin .add (.t 49) (.t 50)),
   m1 9 51]
   (sr1 [
   m1 52 9,
   m1 53 1,
   o1 54 (.bin .lss (.t 52) (.t 53))]
   (.cond (.t 54)
   (.reg [
    m1 55 0,
    m1 56 7,
    m1 57 9,
    m1 58 1,
    m1 59 2,
    o1 60 (.callm 114 [.t 55,.t 56,.t 57,.t 58,.t 59])])
   .skip)))
   (.reg [
   m1 61 6,
   o1 62 (.bin .mul (.t 61) (cn 2)),
   m1 6 62]))))))))))))
def r108:List RV:=[]
theorem n108:Try.f108.ntmps=63:=by kernel_rfl
theorem b108:Z3 Try.prog 108=true:=by kernel_rfl
theorem Zts:YJ Try.prog c108 ((Try.f108.body).getD .skip)=true:=by kernel_rfl
theorem Zss:Y5 Try.prog r108 Try.f108.results.toList=true:=by kernel_rfl
theorem m108 {n0:Nat} {hp0:List (Nat × HB)} {args:List SV} {Zx:Ot->Prop} (hh:hpb n0 hp0) (hx:∀ o,Zx o->KX o.res/\KXP o.hp) (h:sx Try.prog Y0 n0 c108 ⟨Y2 0 args,hp0,n0,63,[]⟩ (WC r108 fun o=>∃ o',Zx o'/\WW n0 o o')) (hA:Nat.ble args.length 63=true:=by rfl):CtM Try.prog 108 hp0 n0 args Zx:=Zv Try.func108 rfl b108 Zts Zss n108 (Nat.le_of_ble_eq_true hA) hh hx h
def c113:SC:=(sr1 [
 m1 10 1,
 o1 11 (.bin .add (.t 10) (cn 1)),
 m1 8 11]
 (.block 0 (.loop (.seq (sr1 [
  m1 12 8,
  m1 13 2,
  o1 14 (.bin .lss (.t 12) (.t 13))]
  (.cond (.t 14)
  .skip
  (.exit 0)))
  (.seq (.block 1 (sr1 [
   m1 17 8,
   m1 9 17]
   (.block 2 (.loop (.seq (.seq (.regd [0,1,2,3,4,5,6,7,8,9,10,11,12,13,14,15,16] [
    .op (m1 18 9),
    .op (m1 19 1),
    .op (p1 20 (.bin .gtr (.t 18) (.t 19)) [0,1]),
    .op (p1 21 (.mv (.t 20)) [2]),
    .op (q1 22 21 true (.mv (.t 3)) [3]),
    .op (q1 23 21 true (.mv (.t 0)) [3]),
    .op (q1 24 21 true (.mv (.t 9)) [3]),
    .op (q1 25 21 true (.ixs (.t 23) (.t 24) 1) [3,5,6]),
    .op (q1 26 21 true (lf 25 1) [3,7]),
    .op (q1 27 21 true (.mv (.t 0)) [3]),
    .op (q1 28 21 true (.mv (.t 9)) [3]),
    .op (q1 29 21 true (.bin .sub (.t 28) (cn 1)) [3,10]),
    .op (q1 30 21 true (.ixs (.t 27) (.t 29) 1) [3,9,11]),
    .op (q1 31 21 true (lf 30 1) [3,12]),
    .op (q1 32 21 true (.calv (.t 22) [.t 26,.t 31]) [3,4,8,13]),
    .op (q1 33 21 true (.bin .lss (.t 32) (cn 0)) [3,14]),
    .op (p1 34 (.pick (.t 21) (.t 33) (.c (.bool false))) [3,15])] 0 0 [
])
 (.cond (.t 34)
 .skip
 (.exit 2)))
 (.seq (.block 3 (.regd [0,1,5,6,7,8,9,10,11,12,13,14,2,3,4,15,16,17] [
  .op (m1 37 0),
  .op (m1 38 9),
  .op (m1 42 0),
  .op (m1 43 9),
  .op (p1 44 (.bin .sub (.t 43) (cn 1)) [6]),
  .op (p1 45 (.ixs (.t 42) (.t 44) 1) [5,7]),
  .op (p1 46 (lf 45 1) [8]),
  .op (m1 47 0),
  .op (m1 48 9),
  .op (p1 49 (.ixs (.t 47) (.t 48) 1) [10,11]),
  .op (p1 50 (lf 49 1) [12]),
  .op (p1 51 (.ixs (.t 37) (.t 38) 1) [0,1,5,6,7,8,9,13]),
  .hide (.t 51),
  .op (m1 39 0),
  .op (m1 40 9),
  .op (p1 41 (.bin .sub (.t 40) (cn 1)) [3])] 0 1 [
  ⟨none,.st (.t 51) (.t 46) 1,none,[0,1,5,6,7,8,9,13,14]⟩,
  ⟨some 52,.ixs (.t 39) (.t 41) 1,none,[0,1,2,3,4,5,6,7,8,9,10,11,12,13,14,15]⟩,
  ⟨none,.st (.t 52) (.t 50) 1,none,[0,1,2,3,4,5,6,7,8,9,10,11,12,13,14,15,16]⟩]))
 (.reg [
 m1 35 9,
 o1 36 (.bin .sub (.t 35) (cn 1)),
 m1 9 36])))))))
 (.reg [
 m1 15 8,
 o1 16 (.bin .add (.t 15) (cn 1)),
 m1 8 16]))))))
def r113:List RV:=[]
theorem n113:Try.f113.ntmps=53:=by kernel_rfl
theorem b113:Z3 Try.prog 113=true:=by kernel_rfl
theorem Zuf:YJ Try.prog c113 ((Try.f113.body).getD .skip)=true:=by kernel_rfl
theorem ZvZ:Y5 Try.prog r113 Try.f113.results.toList=true:=by kernel_rfl
theorem m113 {n0:Nat} {hp0:List (Nat × HB)} {args:List SV} {Zx:Ot->Prop} (hh:hpb n0 hp0) (hx:∀ o,Zx o->KX o.res/\KXP o.hp) (h:sx Try.prog Y0 n0 c113 ⟨Y2 0 args,hp0,n0,53,[]⟩ (WC r113 fun o=>∃ o',Zx o'/\WW n0 o o')) (hA:Nat.ble args.length 53=true:=by rfl):CtM Try.prog 113 hp0 n0 args Zx:=Zv Try.func113 rfl b113 Zuf ZvZ n113 (Nat.le_of_ble_eq_true hA) hh hx h
def c87:SC:=(.reg [
 m1 4 0,
 m1 5 0,
 o1 6 (.len (.t 5)),
 m1 7 1,
 o1 8 (.callm 109 [.t 4,.t 6,.t 7])])
def r87:List RV:=[]
theorem n87:Try.f87.ntmps=9:=by kernel_rfl
theorem b87:Z3 Try.prog 87=true:=by kernel_rfl
theorem Zx6:YJ Try.prog c87 ((Try.f87.body).getD .skip)=true:=by kernel_rfl
theorem ZyP:Y5 Try.prog r87 Try.f87.results.toList=true:=by kernel_rfl
theorem m87 {n0:Nat} {hp0:List (Nat × HB)} {args:List SV} {Zx:Ot->Prop} (hh:hpb n0 hp0) (hx:∀ o,Zx o->KX o.res/\KXP o.hp) (h:sx Try.prog Y0 n0 c87 ⟨Y2 0 args,hp0,n0,9,[]⟩ (WC r87 fun o=>∃ o',Zx o'/\WW n0 o o')) (hA:Nat.ble args.length 9=true:=by rfl):CtM Try.prog 87 hp0 n0 args Zx:=Zv Try.func87 rfl b87 Zx6 ZyP n87 (Nat.le_of_ble_eq_true hA) hh hx h
def c109:SC:=(sr1 [
 o1 6 (.mv (cn 20))]
 (sr1 [
 m1 10 6,
 o1 7 (.mv (cn 0)),
 m1 8 10]
 (.seq (.block 0 (.loop (.seq (sr1 [
  m1 11 8,
  m1 12 1,
  o1 13 (.bin .leq (.t 11) (.t 12))]
  (.cond (.t 13)
  .skip
  (.exit 0)))
  (.block 1 (sr1 [
   m1 14 0,
   m1 15 7,
   m1 16 8,
   m1 17 2,
   o1 18 (.callm 115 [.t 14,.t 15,.t 16,.t 17])]
   (sr1 [
   m1 19 8,
   m1 7 19]
   (.reg [
   m1 20 8,
   m1 21 6,
   o1 22 (.bin .add (.t 20) (.t 21)),
   m1 8 22])))))))
 (sr1 [
 m1 23 0,
 m1 24 7,
 m1 25 1,
 m1 26 2,
 o1 27 (.callm 115 [.t 23,.t 24,.t 25,.t 26])]
 (.block 2 (.loop (.seq (sr1 [
  m1 28 6,
  m1 29 1,
  o1 30 (.bin .lss (.t 28) (.t 29))]
  (.cond (.t 30)
  .skip
  (.exit 2)))
  (.block 3 (sr1 [
   m1 31 6,
   o1 32 (.bin .mul (cn 2) (.t 31)),
   o1 7 (.mv (cn 0)),
   m1 8 32]
   (.seq (.block 4 (.loop (.seq (sr1 [
    m1 33 8,
    m1 34 1,
    o1 35 (.bin .leq (.t 33) (.t 34))]
    (.cond (.t 35)
    .skip
    (.exit 4)))
    (.block 5 (sr1 [
     m1 36 0,
     m1 37 7,
     m1 38 7,
     m1 39 6,
     o1 40 (.bin .add (.t 38) (.t 39)),
     m1 41 8,
     m1 42 2,
     o1 43 (.callm 116 [.t 36,.t 37,.t 40,.t 41,.t 42])]
     (sr1 [
     m1 44 8,
     m1 7 44]
     (.reg [
     m1 45 8,
     m1 46 6,
     o1 47 (.bin .mul (cn 2) (.t 46)),
     o1 48 (.bin .add (.t 45) (.t 47)),
     m1 8 48])))))))
   (.seq (sr1 [
   m1 49 7,
   m1 50 6,
   o1 51 (.bin .add (.t 49) (.t 50)),
   m1 9 51]
   (sr1 [
   m1 52 9,
   m1 53 1,
   o1 54 (.bin .lss (.t 52) (.t 53))]
   (.cond (.t 54)
   (.reg [
    m1 55 0,
    m1 56 7,
    m1 57 9,
    m1 58 1,
    m1 59 2,
    o1 60 (.callm 116 [.t 55,.t 56,.t 57,.t 58,.t 59])])
   .skip)))
   (.reg [
   m1 61 6,
   o1 62 (.bin .mul (.t 61) (cn 2)),
   m1 6 62]))))))))))))
def r109:List RV:=[]
theorem n109:Try.f109.ntmps=63:=by kernel_rfl
theorem b109:Z3 Try.prog 109=true:=by kernel_rfl
theorem Ztm:YJ Try.prog c109 ((Try.f109.body).getD .skip)=true:=by kernel_rfl
theorem Ztx:Y5 Try.prog r109 Try.f109.results.toList=true:=by kernel_rfl
theorem m109 {n0:Nat} {hp0:List (Nat × HB)} {args:List SV} {Zx:Ot->Prop} (hh:hpb n0 hp0) (hx:∀ o,Zx o->KX o.res/\KXP o.hp) (h:sx Try.prog Y0 n0 c109 ⟨Y2 0 args,hp0,n0,63,[]⟩ (WC r109 fun o=>∃ o',Zx o'/\WW n0 o o')) (hA:Nat.ble args.length 63=true:=by rfl):CtM Try.prog 109 hp0 n0 args Zx:=Zv Try.func109 rfl b109 Ztm Ztx n109 (Nat.le_of_ble_eq_true hA) hh hx h
def c115:SC:=(sr1 [
 m1 10 1,
 o1 11 (.bin .add (.t 10) (cn 1)),
 m1 8 11]
 (.block 0 (.loop (.seq (sr1 [
  m1 12 8,
  m1 13 2,
  o1 14 (.bin .lss (.t 12) (.t 13))]
  (.cond (.t 14)
  .skip
  (.exit 0)))
  (.seq (.block 1 (sr1 [
   m1 17 8,
   m1 9 17]
   (.block 2 (.loop (.seq (.seq (.regd [0,1,2,3,4,5,6,7,8,9,10,11,12,13,14,15,16] [
    .op (m1 18 9),
    .op (m1 19 1),
    .op (p1 20 (.bin .gtr (.t 18) (.t 19)) [0,1]),
    .op (p1 21 (.mv (.t 20)) [2]),
    .op (q1 22 21 true (.mv (.t 3)) [3]),
    .op (q1 23 21 true (.mv (.t 0)) [3]),
    .op (q1 24 21 true (.mv (.t 9)) [3]),
    .op (q1 25 21 true (.ixs (.t 23) (.t 24) 8) [3,5,6]),
    .op (q1 26 21 true (lt 25 8) [3,7]),
    .op (q1 27 21 true (.mv (.t 0)) [3]),
    .op (q1 28 21 true (.mv (.t 9)) [3]),
    .op (q1 29 21 true (.bin .sub (.t 28) (cn 1)) [3,10]),
    .op (q1 30 21 true (.ixs (.t 27) (.t 29) 8) [3,9,11]),
    .op (q1 31 21 true (lt 30 8) [3,12]),
    .op (q1 32 21 true (.calv (.t 22) [.t 26,.t 31]) [3,4,8,13]),
    .op (q1 33 21 true (.bin .lss (.t 32) (cn 0)) [3,14]),
    .op (p1 34 (.pick (.t 21) (.t 33) (.c (.bool false))) [3,15])] 0 0 [
])
 (.cond (.t 34)
 .skip
 (.exit 2)))
 (.seq (.block 3 (.regd [0,1,5,6,7,8,9,10,11,12,13,14,2,3,4,15,16,17] [
  .op (m1 37 0),
  .op (m1 38 9),
  .op (m1 42 0),
  .op (m1 43 9),
  .op (p1 44 (.bin .sub (.t 43) (cn 1)) [6]),
  .op (p1 45 (.ixs (.t 42) (.t 44) 8) [5,7]),
  .op (p1 46 (lt 45 8) [8]),
  .op (m1 47 0),
  .op (m1 48 9),
  .op (p1 49 (.ixs (.t 47) (.t 48) 8) [10,11]),
  .op (p1 50 (lt 49 8) [12]),
  .op (p1 51 (.ixs (.t 37) (.t 38) 8) [0,1,5,6,7,8,9,13]),
  .hide (.t 51),
  .op (m1 39 0),
  .op (m1 40 9),
  .op (p1 41 (.bin .sub (.t 40) (cn 1)) [3])] 0 1 [
  ⟨none,.st (.t 51) (.t 46) 8,none,[0,1,5,6,7,8,9,13,14]⟩,
  ⟨some 52,.ixs (.t 39) (.t 41) 8,none,[0,1,2,3,4,5,6,7,8,9,10,11,12,13,14,15]⟩,
  ⟨none,.st (.t 52) (.t 50) 8,none,[0,1,2,3,4,5,6,7,8,9,10,11,12,13,14,15,16]⟩]))
 (.reg [
 m1 35 9,
 o1 36 (.bin .sub (.t 35) (cn 1)),
 m1 9 36])))))))
 (.reg [
 m1 15 8,
 o1 16 (.bin .add (.t 15) (cn 1)),
 m1 8 16]))))))
def r115:List RV:=[]
theorem n115:Try.f115.ntmps=53:=by kernel_rfl
theorem b115:Z3 Try.prog 115=true:=by kernel_rfl
theorem Zvp:YJ Try.prog c115 ((Try.f115.body).getD .skip)=true:=by kernel_rfl
theorem Zub:Y5 Try.prog r115 Try.f115.results.toList=true:=by kernel_rfl
theorem m115 {n0:Nat} {hp0:List (Nat × HB)} {args:List SV} {Zx:Ot->Prop} (hh:hpb n0 hp0) (hx:∀ o,Zx o->KX o.res/\KXP o.hp) (h:sx Try.prog Y0 n0 c115 ⟨Y2 0 args,hp0,n0,53,[]⟩ (WC r115 fun o=>∃ o',Zx o'/\WW n0 o o')) (hA:Nat.ble args.length 53=true:=by rfl):CtM Try.prog 115 hp0 n0 args Zx:=Zv Try.func115 rfl b115 Zvp Zub n115 (Nat.le_of_ble_eq_true hA) hh hx h
def c116:SC:=(.seq (sr1 [
 m1 25 2,
 m1 26 1,
 o1 27 (.bin .sub (.t 25) (.t 26)),
 o1 28 (.bin .eql (.t 27) (cn 1))]
 (.cond (.t 28)
 (sr1 [
  m1 29 2,
  m1 10 29]
  (sr1 [
  m1 30 3,
  m1 11 30]
  (.seq (.block 0 (.loop (.seq (sr1 [
   m1 31 10,
   m1 32 11,
   o1 33 (.bin .lss (.t 31) (.t 32))]
   (.cond (.t 33)
   .skip
   (.exit 0)))
   (.block 1 (sr1 [
    m1 34 10,
    m1 35 11,
    o1 36 (.bin .add (.t 34) (.t 35)),
    o1 37 (.conv .u64 (.t 36)),
    o1 38 (.raw (Go.Op.binOp Go.BinOp.shr 158 (Go.Operand.tmp 37) (Go.Operand.const (Go.Value.int Go.IntKind.u64 1)) 158) 158),
    o1 39 (.conv .i64 (.t 38)),
    m1 12 39]
    (.seq (.regd [0,1,2,3,4,5,6,7,8,9,10] [
    .op (m1 40 4),
    .op (m1 41 0),
    .op (m1 42 12),
    .op (p1 43 (.ixs (.t 41) (.t 42) 8) [1,2]),
    .op (p1 44 (lt 43 8) [3]),
    .op (m1 45 0),
    .op (m1 46 1),
    .op (p1 47 (.ixs (.t 45) (.t 46) 8) [5,6]),
    .op (p1 48 (lt 47 8) [7]),
    .op (p1 49 (.calv (.t 40) [.t 44,.t 48]) [0,4,8]),
    .op (p1 50 (.bin .lss (.t 49) (cn 0)) [9])] 0 0 [
])
 (.cond (.t 50)
 (.reg [
  m1 51 12,
  o1 52 (.bin .add (.t 51) (cn 1)),
  m1 10 52])
 (.reg [
  m1 53 12,
  m1 11 53]))))))))
 (.seq (sr1 [
 m1 54 1,
 m1 13 54]
 (.block 2 (.loop (.seq (sr1 [
  m1 55 13,
  m1 56 10,
  o1 57 (.bin .sub (.t 56) (cn 1)),
  o1 58 (.bin .lss (.t 55) (.t 57))]
  (.cond (.t 58)
  .skip
  (.exit 2)))
  (.seq (.block 3 (.regd [0,1,5,6,7,8,9,10,11,12,13,14,2,3,4,15,16,17] [
   .op (m1 61 0),
   .op (m1 62 13),
   .op (m1 66 0),
   .op (m1 67 13),
   .op (p1 68 (.bin .add (.t 67) (cn 1)) [6]),
   .op (p1 69 (.ixs (.t 66) (.t 68) 8) [5,7]),
   .op (p1 70 (lt 69 8) [8]),
   .op (m1 71 0),
   .op (m1 72 13),
   .op (p1 73 (.ixs (.t 71) (.t 72) 8) [10,11]),
   .op (p1 74 (lt 73 8) [12]),
   .op (p1 75 (.ixs (.t 61) (.t 62) 8) [0,1,5,6,7,8,9,13]),
   .hide (.t 75),
   .op (m1 63 0),
   .op (m1 64 13),
   .op (p1 65 (.bin .add (.t 64) (cn 1)) [3])] 0 1 [
   ⟨none,.st (.t 75) (.t 70) 8,none,[0,1,5,6,7,8,9,13,14]⟩,
   ⟨some 76,.ixs (.t 63) (.t 65) 8,none,[0,1,2,3,4,5,6,7,8,9,10,11,12,13,14,15]⟩,
   ⟨none,.st (.t 76) (.t 74) 8,none,[0,1,2,3,4,5,6,7,8,9,10,11,12,13,14,15,16]⟩]))
  (.reg [
  m1 59 13,
  o1 60 (.bin .add (.t 59) (cn 1)),
  m1 13 60]))))))
 .ret))))
 .skip))
 (.seq (sr1 [
 m1 77 3,
 m1 78 2,
 o1 79 (.bin .sub (.t 77) (.t 78)),
 o1 80 (.bin .eql (.t 79) (cn 1))]
 (.cond (.t 80)
 (sr1 [
  m1 81 1,
  m1 14 81]
  (sr1 [
  m1 82 2,
  m1 15 82]
  (.seq (.block 4 (.loop (.seq (sr1 [
   m1 83 14,
   m1 84 15,
   o1 85 (.bin .lss (.t 83) (.t 84))]
   (.cond (.t 85)
   .skip
   (.exit 4)))
   (.block 5 (sr1 [
    m1 86 14,
    m1 87 15,
    o1 88 (.bin .add (.t 86) (.t 87)),
    o1 89 (.conv .u64 (.t 88)),
    o1 90 (.raw (Go.Op.binOp Go.BinOp.shr 158 (Go.Operand.tmp 89) (Go.Operand.const (Go.Value.int Go.IntKind.u64 1)) 158) 158),
    o1 91 (.conv .i64 (.t 90)),
    m1 16 91]
    (.seq (.regd [0,1,2,3,4,5,6,7,8,9,10,11] [
    .op (m1 92 4),
    .op (m1 93 0),
    .op (m1 94 2),
    .op (p1 95 (.ixs (.t 93) (.t 94) 8) [1,2]),
    .op (p1 96 (lt 95 8) [3]),
    .op (m1 97 0),
    .op (m1 98 16),
    .op (p1 99 (.ixs (.t 97) (.t 98) 8) [5,6]),
    .op (p1 100 (lt 99 8) [7]),
    .op (p1 101 (.calv (.t 92) [.t 96,.t 100]) [0,4,8]),
    .op (p1 102 (.bin .lss (.t 101) (cn 0)) [9]),
    .op (p1 103 (.un .not (.t 102)) [10])] 0 0 [
])
 (.cond (.t 103)
 (.reg [
  m1 104 16,
  o1 105 (.bin .add (.t 104) (cn 1)),
  m1 14 105])
 (.reg [
  m1 106 16,
  m1 15 106]))))))))
 (.seq (sr1 [
 m1 107 2,
 m1 17 107]
 (.block 6 (.loop (.seq (sr1 [
  m1 108 17,
  m1 109 14,
  o1 110 (.bin .gtr (.t 108) (.t 109))]
  (.cond (.t 110)
  .skip
  (.exit 6)))
  (.seq (.block 7 (.regd [0,1,5,6,7,8,9,10,11,12,13,14,2,3,4,15,16,17] [
   .op (m1 113 0),
   .op (m1 114 17),
   .op (m1 118 0),
   .op (m1 119 17),
   .op (p1 120 (.bin .sub (.t 119) (cn 1)) [6]),
   .op (p1 121 (.ixs (.t 118) (.t 120) 8) [5,7]),
   .op (p1 122 (lt 121 8) [8]),
   .op (m1 123 0),
   .op (m1 124 17),
   .op (p1 125 (.ixs (.t 123) (.t 124) 8) [10,11]),
   .op (p1 126 (lt 125 8) [12]),
   .op (p1 127 (.ixs (.t 113) (.t 114) 8) [0,1,5,6,7,8,9,13]),
   .hide (.t 127),
   .op (m1 115 0),
   .op (m1 116 17),
   .op (p1 117 (.bin .sub (.t 116) (cn 1)) [3])] 0 1 [
   ⟨none,.st (.t 127) (.t 122) 8,none,[0,1,5,6,7,8,9,13,14]⟩,
   ⟨some 128,.ixs (.t 115) (.t 117) 8,none,[0,1,2,3,4,5,6,7,8,9,10,11,12,13,14,15]⟩,
   ⟨none,.st (.t 128) (.t 126) 8,none,[0,1,2,3,4,5,6,7,8,9,10,11,12,13,14,15,16]⟩]))
  (.reg [
  m1 111 17,
  o1 112 (.bin .sub (.t 111) (cn 1)),
  m1 17 112]))))))
 .ret))))
 .skip))
 (sr1 [
 m1 129 1,
 m1 130 3,
 o1 131 (.bin .add (.t 129) (.t 130)),
 o1 132 (.conv .u64 (.t 131)),
 o1 133 (.raw (Go.Op.binOp Go.BinOp.shr 158 (Go.Operand.tmp 132) (Go.Operand.const (Go.Value.int Go.IntKind.u64 1)) 158) 158),
 o1 134 (.conv .i64 (.t 133)),
 m1 18 134]
 (sr1 [
 m1 135 18,
 m1 136 2,
 o1 137 (.bin .add (.t 135) (.t 136)),
 m1 19 137]
 (sr1 [
 o1 20 (.mv (cn 0)),
 o1 21 (.mv (cn 0))]
 (.seq (sr1 [
 m1 138 2,
 m1 139 18,
 o1 140 (.bin .gtr (.t 138) (.t 139))]
 (.cond (.t 140)
 (sr1 [
  m1 141 19,
  m1 142 3,
  o1 143 (.bin .sub (.t 141) (.t 142)),
  m1 20 143]
  (.reg [
  m1 144 18,
  m1 21 144]))
 (sr1 [
  m1 145 1,
  m1 20 145]
  (.reg [
  m1 146 2,
  m1 21 146]))))
 (sr1 [
 m1 147 19,
 o1 148 (.bin .sub (.t 147) (cn 1)),
 m1 22 148]
 (.seq (.block 8 (.loop (.seq (sr1 [
  m1 149 20,
  m1 150 21,
  o1 151 (.bin .lss (.t 149) (.t 150))]
  (.cond (.t 151)
  .skip
  (.exit 8)))
  (.block 9 (sr1 [
   m1 152 20,
   m1 153 21,
   o1 154 (.bin .add (.t 152) (.t 153)),
   o1 155 (.conv .u64 (.t 154)),
   o1 156 (.raw (Go.Op.binOp Go.BinOp.shr 158 (Go.Operand.tmp 155) (Go.Operand.const (Go.Value.int Go.IntKind.u64 1)) 158) 158),
   o1 157 (.conv .i64 (.t 156)),
   m1 23 157]
   (.seq (.regd [0,1,2,3,4,5,6,7,8,9,10,11,12,13] [
   .op (m1 158 4),
   .op (m1 159 0),
   .op (m1 160 22),
   .op (m1 161 23),
   .op (p1 162 (.bin .sub (.t 160) (.t 161)) [2,3]),
   .op (p1 163 (.ixs (.t 159) (.t 162) 8) [1,4]),
   .op (p1 164 (lt 163 8) [5]),
   .op (m1 165 0),
   .op (m1 166 23),
   .op (p1 167 (.ixs (.t 165) (.t 166) 8) [7,8]),
   .op (p1 168 (lt 167 8) [9]),
   .op (p1 169 (.calv (.t 158) [.t 164,.t 168]) [0,6,10]),
   .op (p1 170 (.bin .lss (.t 169) (cn 0)) [11]),
   .op (p1 171 (.un .not (.t 170)) [12])] 0 0 [
])
 (.cond (.t 171)
 (.reg [
  m1 172 23,
  o1 173 (.bin .add (.t 172) (cn 1)),
  m1 20 173])
 (.reg [
  m1 174 23,
  m1 21 174]))))))))
 (sr1 [
 m1 175 19,
 m1 176 20,
 o1 177 (.bin .sub (.t 175) (.t 176)),
 m1 24 177]
 (.seq (sr1 [
 m1 178 20,
 m1 179 2,
 o1 180 (.bin .lss (.t 178) (.t 179)),
 m1 181 180,
 g1 182 181 true (.mv (.t 2)),
 g1 183 181 true (.mv (.t 24)),
 g1 184 181 true (.bin .lss (.t 182) (.t 183)),
 o1 185 (.pick (.t 181) (.t 184) (.c (.bool false)))]
 (.cond (.t 185)
 (.reg [
  m1 186 0,
  m1 187 20,
  m1 188 2,
  m1 189 24,
  m1 190 4,
  o1 191 (.callm 118 [.t 186,.t 187,.t 188,.t 189,.t 190])])
 .skip))
 (.seq (sr1 [
 m1 192 1,
 m1 193 20,
 o1 194 (.bin .lss (.t 192) (.t 193)),
 m1 195 194,
 g1 196 195 true (.mv (.t 20)),
 g1 197 195 true (.mv (.t 18)),
 g1 198 195 true (.bin .lss (.t 196) (.t 197)),
 o1 199 (.pick (.t 195) (.t 198) (.c (.bool false)))]
 (.cond (.t 199)
 (.reg [
  m1 200 0,
  m1 201 1,
  m1 202 20,
  m1 203 18,
  m1 204 4,
  o1 205 (.callm 116 [.t 200,.t 201,.t 202,.t 203,.t 204])])
 .skip))
 (sr1 [
 m1 206 18,
 m1 207 24,
 o1 208 (.bin .lss (.t 206) (.t 207)),
 m1 209 208,
 g1 210 209 true (.mv (.t 24)),
 g1 211 209 true (.mv (.t 3)),
 g1 212 209 true (.bin .lss (.t 210) (.t 211)),
 o1 213 (.pick (.t 209) (.t 212) (.c (.bool false)))]
 (.cond (.t 213)
 (.reg [
  m1 214 0,
  m1 215 18,
  m1 216 24,
  m1 217 3,
  m1 218 4,
  o1 219 (.callm 116 [.t 214,.t 215,.t 216,.t 217,.t 218])])
 .skip)))))))))))))
def r116:List RV:=[]
theorem n116:Try.f116.ntmps=220:=by kernel_rfl
theorem b116:Z3 Try.prog 116=true:=by kernel_rfl
theorem Zuy:YJ Try.prog c116 ((Try.f116.body).getD .skip)=true:=by kernel_rfl
theorem Ztz:Y5 Try.prog r116 Try.f116.results.toList=true:=by kernel_rfl
theorem m116 {n0:Nat} {hp0:List (Nat × HB)} {args:List SV} {Zx:Ot->Prop} (hh:hpb n0 hp0) (hx:∀ o,Zx o->KX o.res/\KXP o.hp) (h:sx Try.prog Y0 n0 c116 ⟨Y2 0 args,hp0,n0,220,[]⟩ (WC r116 fun o=>∃ o',Zx o'/\WW n0 o o')) (hA:Nat.ble args.length 220=true:=by rfl):CtM Try.prog 116 hp0 n0 args Zx:=Zv Try.func116 rfl b116 Zuy Ztz n116 (Nat.le_of_ble_eq_true hA) hh hx h
def c118:SC:=(sr1 [
 m1 12 2,
 m1 13 1,
 o1 14 (.bin .sub (.t 12) (.t 13)),
 m1 10 14]
 (sr1 [
 m1 15 3,
 m1 16 2,
 o1 17 (.bin .sub (.t 15) (.t 16)),
 m1 11 17]
 (.seq (.block 0 (.loop (.seq (sr1 [
  m1 18 10,
  m1 19 11,
  o1 20 (.bin .neq (.t 18) (.t 19))]
  (.cond (.t 20)
  .skip
  (.exit 0)))
  (.block 1 (sr1 [
   m1 21 10,
   m1 22 11,
   o1 23 (.bin .gtr (.t 21) (.t 22))]
   (.cond (.t 23)
   (sr1 [
    m1 24 0,
    m1 25 2,
    m1 26 10,
    o1 27 (.bin .sub (.t 25) (.t 26)),
    m1 28 2,
    m1 29 11,
    m1 30 4,
    o1 31 (.callm 120 [.t 24,.t 27,.t 28,.t 29,.t 30])]
    (.reg [
    m1 32 10,
    m1 33 11,
    o1 34 (.bin .sub (.t 32) (.t 33)),
    m1 10 34]))
   (sr1 [
    m1 35 0,
    m1 36 2,
    m1 37 10,
    o1 38 (.bin .sub (.t 36) (.t 37)),
    m1 39 2,
    m1 40 11,
    o1 41 (.bin .add (.t 39) (.t 40)),
    m1 42 10,
    o1 43 (.bin .sub (.t 41) (.t 42)),
    m1 44 10,
    m1 45 4,
    o1 46 (.callm 120 [.t 35,.t 38,.t 43,.t 44,.t 45])]
    (.reg [
    m1 47 11,
    m1 48 10,
    o1 49 (.bin .sub (.t 47) (.t 48)),
    m1 11 49]))))))))
 (.reg [
 m1 50 0,
 m1 51 2,
 m1 52 10,
 o1 53 (.bin .sub (.t 51) (.t 52)),
 m1 54 2,
 m1 55 10,
 m1 56 4,
 o1 57 (.callm 120 [.t 50,.t 53,.t 54,.t 55,.t 56])]))))
def r118:List RV:=[]
theorem n118:Try.f118.ntmps=58:=by kernel_rfl
theorem b118:Z3 Try.prog 118=true:=by kernel_rfl
theorem ZuX:YJ Try.prog c118 ((Try.f118.body).getD .skip)=true:=by kernel_rfl
theorem ZvE:Y5 Try.prog r118 Try.f118.results.toList=true:=by kernel_rfl
theorem m118 {n0:Nat} {hp0:List (Nat × HB)} {args:List SV} {Zx:Ot->Prop} (hh:hpb n0 hp0) (hx:∀ o,Zx o->KX o.res/\KXP o.hp) (h:sx Try.prog Y0 n0 c118 ⟨Y2 0 args,hp0,n0,58,[]⟩ (WC r118 fun o=>∃ o',Zx o'/\WW n0 o o')) (hA:Nat.ble args.length 58=true:=by rfl):CtM Try.prog 118 hp0 n0 args Zx:=Zv Try.func118 rfl b118 ZuX ZvE n118 (Nat.le_of_ble_eq_true hA) hh hx h
def c120:SC:=(sr1 [
 o1 10 (.mv (cn 0))]
 (.block 0 (.loop (.seq (sr1 [
  m1 11 10,
  m1 12 3,
  o1 13 (.bin .lss (.t 11) (.t 12))]
  (.cond (.t 13)
  .skip
  (.exit 0)))
  (.seq (.block 1 (.regd [0,1,2,3,8,9,10,11,12,13,14,15,16,17,18,19,20,4,5,6,7,21,22,23] [
   .op (m1 16 0),
   .op (m1 17 1),
   .op (m1 18 10),
   .op (p1 19 (.bin .add (.t 17) (.t 18)) [1,2]),
   .op (m1 24 0),
   .op (m1 25 2),
   .op (m1 26 10),
   .op (p1 27 (.bin .add (.t 25) (.t 26)) [9,10]),
   .op (p1 28 (.ixs (.t 24) (.t 27) 8) [8,11]),
   .op (p1 29 (lt 28 8) [12]),
   .op (m1 30 0),
   .op (m1 31 1),
   .op (m1 32 10),
   .op (p1 33 (.bin .add (.t 31) (.t 32)) [15,16]),
   .op (p1 34 (.ixs (.t 30) (.t 33) 8) [14,17]),
   .op (p1 35 (lt 34 8) [18]),
   .op (p1 36 (.ixs (.t 16) (.t 19) 8) [0,1,2,3,8,9,10,11,12,13,19]),
   .hide (.t 36),
   .op (m1 20 0),
   .op (m1 21 2),
   .op (m1 22 10),
   .op (p1 23 (.bin .add (.t 21) (.t 22)) [5,6])] 0 1 [
   ⟨none,.st (.t 36) (.t 29) 8,none,[0,1,2,3,8,9,10,11,12,13,19,20]⟩,
   ⟨some 37,.ixs (.t 20) (.t 23) 8,none,[0,1,2,3,4,5,6,7,8,9,10,11,12,13,14,15,16,17,18,19,20,21]⟩,
   ⟨none,.st (.t 37) (.t 35) 8,none,[0,1,2,3,4,5,6,7,8,9,10,11,12,13,14,15,16,17,18,19,20,21,22]⟩]))
  (.reg [
  m1 14 10,
  o1 15 (.bin .add (.t 14) (cn 1)),
  m1 10 15]))))))
def r120:List RV:=[]
theorem n120:Try.f120.ntmps=38:=by kernel_rfl
theorem b120:Z3 Try.prog 120=true:=by kernel_rfl
theorem ZuE:YJ Try.prog c120 ((Try.f120.body).getD .skip)=true:=by kernel_rfl
theorem Zwd:Y5 Try.prog r120 Try.f120.results.toList=true:=by kernel_rfl
theorem m120 {n0:Nat} {hp0:List (Nat × HB)} {args:List SV} {Zx:Ot->Prop} (hh:hpb n0 hp0) (hx:∀ o,Zx o->KX o.res/\KXP o.hp) (h:sx Try.prog Y0 n0 c120 ⟨Y2 0 args,hp0,n0,38,[]⟩ (WC r120 fun o=>∃ o',Zx o'/\WW n0 o o')) (hA:Nat.ble args.length 38=true:=by rfl):CtM Try.prog 120 hp0 n0 args Zx:=Zv Try.func120 rfl b120 ZuE Zwd n120 (Nat.le_of_ble_eq_true hA) hh hx h
def c86:SC:=(sr1 [
 o1 2 (.mv (.c (.slice none 0 0)))]
 (.seq (sr1 [
 m1 3 0,
 o1 4 (.isn (.t 3))]
 (.cond (.t 4)
 (sr1 [
  o1 2 (.mv (.c (.slice none 0 0)))]
  .ret)
 .skip))
 (sr1 [
 o1 5 (.bsl 8 50 []),
 m1 6 0,
 o1 7 (.cln 8 64 50 (.t 5) (.t 6)),
 m1 2 7]
 .ret)))
def r86:List RV:=[.tmp 2]
theorem n86:Try.f86.ntmps=8:=by kernel_rfl
theorem b86:Z3 Try.prog 86=true:=by kernel_rfl
theorem ZzL:YJ Try.prog c86 ((Try.f86.body).getD .skip)=true:=by kernel_rfl
theorem Zzc:Y5 Try.prog r86 Try.f86.results.toList=true:=by kernel_rfl
theorem m86 {n0:Nat} {hp0:List (Nat × HB)} {args:List SV} {Zx:Ot->Prop} (hh:hpb n0 hp0) (hx:∀ o,Zx o->KX o.res/\KXP o.hp) (h:sx Try.prog Y0 n0 c86 ⟨Y2 0 args,hp0,n0,8,[]⟩ (WC r86 fun o=>∃ o',Zx o'/\WW n0 o o')) (hA:Nat.ble args.length 8=true:=by rfl):CtM Try.prog 86 hp0 n0 args Zx:=Zv Try.func86 rfl b86 ZzL Zzc n86 (Nat.le_of_ble_eq_true hA) hh hx h
def c63:SC:=(sr1 [
 o1 2 (.box (.t 0) 0 3),
 o1 3 (.box (.t 1) 0 27),
 o1 4 (.mv (.c (.slice none 0 0)))]
 (.seq (.regd [0,1,2,3] [
 .op (o1 16 (lf 2 1))] 1 2 [
 o1 5 (.alloc [.int .i64 0] 3),
 ⟨none,.st (.t 5) (cn 0) 1,none,[1]⟩,
 ⟨some 6,.mv (.t 16),none,[0,1,2]⟩])
 (.seq (sr1 [
 o1 17 (lf 3 1),
 o1 18 (.len (.t 17)),
 o1 19 (.mv (cn 0))]
 (.block 0 (.loop (sr1 [
  o1 20 (.bin .lss (.t 19) (.t 18))]
  (.seq (.cond (.t 20)
  .skip
  (.exit 0))
  (.seq (.block 1 (sr1 [
   o1 21 (.ixs (.t 17) (.t 19) 1),
   o1 22 (lf 21 1),
   m1 8 22]
   (.reg [
   o1 23 (lf 5 1),
   m1 24 8,
   o1 25 (.bin .add (.t 23) (.t 24)),
   ⟨none,.st (.t 5) (.t 25) 1,none,[]⟩])))
  (.reg [
  o1 26 (.bin .add (.t 19) (cn 1)),
  m1 19 26])))))))
 (.gh (sr1 [
 o1 9 (.mv (.c (.slice none 0 0))),
 o1 10 (.mv (.c (.slice none 0 0)))]
 (.seq (sr1 [
 o1 27 (lf 3 1),
 o1 28 (.len (.t 27)),
 o1 29 (.mv (cn 0))]
 (.block 2 (.loop (sr1 [
  o1 30 (.bin .lss (.t 29) (.t 28))]
  (.seq (.cond (.t 30)
  .skip
  (.exit 2))
  (.seq (.block 3 (sr1 [
   m1 31 29,
   o1 32 (.ixs (.t 27) (.t 29) 1),
   o1 33 (lf 32 1),
   m1 11 31,
   m1 12 33]
   (sr1 [
   m1 34 9,
   o1 35 (lf 2 1),
   m1 36 12,
   o1 37 (.bin .mul (.t 35) (.t 36)),
   o1 38 (lf 5 1),
   o1 39 (.div .quo (.t 37) (.t 38)),
   o1 40 (.bsl 1 3 [.t 39]),
   o1 41 (.appm 1 8 3 (.t 34) (.t 40)),
   m1 42 10,
   m1 43 11,
   o1 44 (.bsl 1 3 [.t 43]),
   o1 45 (.appm 1 8 3 (.t 42) (.t 44)),
   m1 9 41,
   m1 10 45]
   (.reg [
   m1 46 6,
   m1 47 9,
   m1 48 11,
   o1 49 (.ixs (.t 47) (.t 48) 1),
   o1 50 (lf 49 1),
   o1 51 (.bin .sub (.t 46) (.t 50)),
   m1 6 51]))))
  (.reg [
  o1 52 (.bin .add (.t 29) (cn 1)),
  m1 29 52])))))))
 (.gh (sr1 [
 o1 53 (.mkf 82 [.t 2,.t 3,.t 5]),
 o1 13 (.alloc [.nilFunc] 135),
 ⟨none,.st (.t 13) (.t 53) 1,none,[]⟩]
 (sr1 [
 m1 54 10,
 o1 55 (.mkf 84 [.t 13]),
 o1 56 (.callm 83 [.t 54,.t 55])]
 (.gh (.seq (sr1 [
 m1 57 10,
 m1 58 6,
 o1 59 (.sub 1 (.t 57) none (some (.t 58))),
 o1 60 (.len (.t 59)),
 o1 61 (.mv (cn 0))]
 (.block 4 (.loop (sr1 [
  o1 62 (.bin .lss (.t 61) (.t 60))]
  (.seq (.cond (.t 62)
  .skip
  (.exit 4))
  (.seq (.block 5 (sr1 [
   o1 63 (.ixs (.t 59) (.t 61) 1),
   o1 64 (lf 63 1),
   m1 15 64]
   (.reg [
   m1 65 9,
   m1 66 15,
   o1 67 (.ixs (.t 65) (.t 66) 1),
   o1 68 (lf 67 1),
   o1 69 (.bin .add (.t 68) (cn 1)),
   o1 70 (.ixs (.t 65) (.t 66) 1),
   ⟨none,.st (.t 70) (.t 69) 1,none,[]⟩])))
  (.reg [
  o1 71 (.bin .add (.t 61) (cn 1)),
  m1 61 71])))))))
 (.gh (sr1 [
 m1 72 9,
 m1 4 72]
 .ret)))))))))))))
def r63:List RV:=[.tmp 4]
theorem n63:Try.f63.ntmps=73:=by kernel_rfl
theorem b63:Z3 Try.prog 63=true:=by kernel_rfl
theorem ZzX:YJ Try.prog c63 ((Try.f63.body).getD .skip)=true:=by kernel_rfl
theorem ZyH:Y5 Try.prog r63 Try.f63.results.toList=true:=by kernel_rfl
theorem m63 {n0:Nat} {hp0:List (Nat × HB)} {args:List SV} {Zx:Ot->Prop} (hh:hpb n0 hp0) (hx:∀ o,Zx o->KX o.res/\KXP o.hp) (h:sx Try.prog Y0 n0 c63 ⟨Y2 0 args,hp0,n0,73,[]⟩ (WC r63 fun o=>∃ o',Zx o'/\WW n0 o o')) (hA:Nat.ble args.length 73=true:=by rfl):CtM Try.prog 63 hp0 n0 args Zx:=Zv Try.func63 rfl b63 ZzX ZyH n63 (Nat.le_of_ble_eq_true hA) hh hx h
def c82:SC:=(sr1 [
 o1 5 (.mv (cn 0))]
 (.seq (.regd [0,1,2,3,4,5,6,7,8] [
 .op (o1 6 (lf 1 1)),
 .op (o1 7 (lf 2 1)),
 .op (m1 8 0),
 .op (p1 9 (.ixs (.t 7) (.t 8) 1) [1,2]),
 .op (p1 10 (lf 9 1) [3]),
 .op (p1 11 (.bin .mul (.t 6) (.t 10)) [0,4]),
 .op (o1 12 (lf 3 1)),
 .op (p1 13 (.div .rem (.t 11) (.t 12)) [5,6]),
 .op (p1 5 (.mv (.t 13)) [0,1,2,3,4,5,6,7])] 0 0 [
])
 .ret))
def r82:List RV:=[.tmp 5]
theorem t82:Qt1 Try.prog 82 c82 r82 14:=XN Try.func82 rfl (by kernel_rfl) (by kernel_rfl) (by kernel_rfl) (by kernel_rfl)
def c84:SC:=(sr1 [
 o1 5 (.mv (cn 0))]
 (.seq (.regd [0,1,2,3,4,5,6,7] [
 .op (o1 6 (lf 2 1)),
 .op (m1 7 1),
 .op (p1 8 (.calv (.t 6) [.t 7]) [0,1]),
 .op (o1 9 (lf 2 1)),
 .op (m1 10 0),
 .op (p1 11 (.calv (.t 9) [.t 10]) [2,3,4]),
 .op (p1 12 (.bin .sub (.t 8) (.t 11)) [2,5]),
 .op (p1 5 (.mv (.t 12)) [0,1,2,3,4,5,6])] 0 0 [
])
 .ret))
def r84:List RV:=[.tmp 5]
theorem t84:Qt1 Try.prog 84 c84 r84 13:=XN Try.func84 rfl (by kernel_rfl) (by kernel_rfl) (by kernel_rfl) (by kernel_rfl)
def c43:SC:=(sr1 [
 o1 2 (.box (.t 0) 0 24),
 o1 4 (.mv (.c (.slice none 0 0)))]
 (sr1 [
 o1 5 (.mv (.c (.slice none 0 0))),
 o1 6 (.mv (.c (.slice none 0 0)))]
 (.seq (sr1 [
 o1 11 (ao 2 0),
 o1 12 (lf 11 1),
 o1 13 (.len (.t 12)),
 o1 14 (.mv (cn 0))]
 (.block 0 (.loop (sr1 [
  o1 15 (.bin .lss (.t 14) (.t 13))]
  (.seq (.cond (.t 15)
  .skip
  (.exit 0))
  (.seq (.block 1 (sr1 [
   o1 16 (.ixs (.t 12) (.t 14) 3),
   o1 17 (lt 16 3),
   o1 8 (.alloc [.int .i64 0,.int .i64 0,.int .i64 0] 64),
   ⟨none,.st (.t 8) (.t 17) 3,none,[]⟩]
   (.regs [0,1,2,3,5,6,7,8,4,9,10,11] ⟨[
   .op (m1 18 5),
   .op (o1 19 (ao 8 2)),
   .op (p1 20 (lf 19 1) [1]),
   .op (p1 21 (.bsl 1 3 [.t 20]) [2]),
   .hide (.t 18),
   .op (m1 23 6),
   .op (o1 24 (ao 8 1)),
   .op (p1 25 (lf 24 1) [6]),
   .op (p1 26 (.bsl 1 3 [.t 25]) [7])],0,2,[
   ⟨some 22,.appm 1 8 3 (.t 18) (.t 21),none,[0,3]⟩,
   ⟨some 27,.appm 1 8 3 (.t 23) (.t 26),none,[4,5,8]⟩]⟩ [⟨[
],0,2,[
 ⟨some 5,.mv (.t 22),none,[0,1,2,3,4,9]⟩,
 ⟨some 6,.mv (.t 27),none,[0,1,2,3,4,5,6,7,8,9,10]⟩]⟩])))
 (.reg [
 o1 28 (.bin .add (.t 14) (cn 1)),
 m1 14 28])))))))
 (.gh (.seq (sr1 [
 m1 29 1,
 o1 30 (.bin .geq (.t 29) (cn 0))]
 (.cond (.t 30)
 (sr1 [
  m1 31 1,
  m1 32 5,
  o1 33 (.callm 63 [.t 31,.t 32]),
  m1 4 33]
  (.gh .ret))
 .skip))
 (sr1 [
 m1 34 1,
 o1 35 (.un .neg (.t 34)),
 m1 36 6,
 o1 37 (.callm 63 [.t 35,.t 36]),
 m1 9 37]
 (.gh (.seq (sr1 [
 m1 38 9,
 o1 39 (.len (.t 38)),
 o1 40 (.mv (cn 0))]
 (.block 2 (.loop (sr1 [
  o1 41 (.bin .lss (.t 40) (.t 39))]
  (.seq (.cond (.t 41)
  .skip
  (.exit 2))
  (.seq (.block 3 (sr1 [
   m1 42 40,
   m1 10 42]
   (.reg [
   m1 43 9,
   m1 44 10,
   m1 45 9,
   m1 46 10,
   o1 47 (.ixs (.t 45) (.t 46) 1),
   o1 48 (lf 47 1),
   o1 49 (.un .neg (.t 48)),
   o1 50 (.ixs (.t 43) (.t 44) 1),
   ⟨none,.st (.t 50) (.t 49) 1,none,[]⟩])))
  (.reg [
  o1 51 (.bin .add (.t 40) (cn 1)),
  m1 40 51])))))))
 (.gh (sr1 [
 m1 52 9,
 m1 4 52]
 .ret))))))))))
def r43:List RV:=[.tmp 4]
theorem t43:Qt1 Try.prog 43 c43 r43 53:=XN Try.func43 rfl (by kernel_rfl) (by kernel_rfl) (by kernel_rfl) (by kernel_rfl)
def c67:SC:=(sr1 [
 o1 3 (.box (.t 1) 0 140),
 o1 4 (.mv (.c (.slice none 0 0)))]
 (sr1 [
 m1 5 0,
 o1 6 (.callm 86 [.t 5]),
 m1 0 6]
 (.gh (sr1 [
 m1 7 0,
 o1 8 (.mkf 88 [.t 3]),
 o1 9 (.callm 87 [.t 7,.t 8])]
 (.gh (sr1 [
 m1 10 0,
 m1 4 10]
 .ret))))))
def r67:List RV:=[.tmp 4]
theorem t67:Qt1 Try.prog 67 c67 r67 11:=XN Try.func67 rfl (by kernel_rfl) (by kernel_rfl) (by kernel_rfl) (by kernel_rfl)
def c47:SC:=(sr1 [
 o1 2 (.box (.t 0) 0 24),
 o1 4 (.mv (.c (.slice none 0 0))),
 o1 5 (.mv (cn 0))]
 (.seq (sr1 [
 o1 13 (lt 2 4),
 o1 14 (.call 20 [.t 13]),
 m1 6 14]
 (sr1 [
 m1 15 6,
 o1 16 (.bin .neq (.t 15) (cn 0))]
 (.cond (.t 16)
 (sr1 [
  m1 17 6,
  o1 4 (.mv (.c (.slice none 0 0))),
  m1 5 17]
  .ret)
 .skip)))
 (.seq (sr1 [
 m1 18 1,
 o1 19 (.len (.t 18)),
 o1 20 (.bin .gtr (.t 19) (cn 100))]
 (.cond (.t 20)
 (sr1 [
  o1 4 (.mv (.c (.slice none 0 0))),
  o1 5 (.mv (cn 4))]
  .ret)
 .skip))
 (.seq (sr1 [
 m1 21 1,
 o1 22 (.mkf 65 [.t 2]),
 o1 23 (.call 64 [.t 21,.t 22])]
 (.cond (.t 23)
 (sr1 [
  o1 4 (.mv (.c (.slice none 0 0))),
  o1 5 (.mv (cn 81))]
  .ret)
 .skip))
 (sr1 [
 o1 24 (.raw (Go.Op.makeMap 114 Option.none) 114),
 m1 7 24]
 (sr1 [
 o1 8 (.mv (.c (.slice none 0 0)))]
 (.seq (sr1 [
 m1 25 1,
 o1 26 (.len (.t 25)),
 o1 27 (.mv (cn 0))]
 (.block 0 (.loop (sr1 [
  o1 28 (.bin .lss (.t 27) (.t 26))]
  (.seq (.cond (.t 28)
  .skip
  (.exit 0))
  (.seq (.block 1 (sr1 [
   o1 29 (.ixs (.t 25) (.t 27) 8),
   o1 30 (lt 29 8),
   o1 10 (.alloc zv0 50),
   ⟨none,.st (.t 10) (.t 30) 8,none,[]⟩]
   (sr1 [
   m1 32 7,
   o1 33 (ao 10 0),
   o1 34 (lf 33 1),
   o1 35 (.raw (Go.Op.lookup 114 (Go.Operand.tmp 32) (Go.Operand.tmp 34) Bool.true) 115),
   m1 31 35,
   o1 36 (.ext (.t 31) 0),
   o1 37 (.ext (.t 31) 1),
   o1 11 (.alloc zv0 50),
   ⟨none,.st (.t 11) (.t 36) 8,none,[]⟩,
   m1 12 37]
   (.seq (sr1 [
   m1 38 12,
   m1 39 38,
   g1 40 39 true (lt 11 8),
   g1 41 39 true (lt 10 8),
   g1 42 39 true (.eqs true true [1,1,1,1,1,1,1,0] (.t 40) (.t 41)),
   o1 43 (.pick (.t 39) (.t 42) (.c (.bool false)))]
   (.cond (.t 43)
   (sr1 [
    o1 4 (.mv (.c (.slice none 0 0))),
    o1 5 (.mv (cn 82))]
    .ret)
   .skip))
   (sr1 [
   m1 44 7,
   o1 45 (ao 10 0),
   o1 46 (lf 45 1),
   o1 47 (lt 10 8),
   ⟨none,.raw (Go.Op.mapUpdate 114 (Go.Operand.tmp 44) (Go.Operand.tmp 46) (Go.Operand.tmp 47)) 0,none,[]⟩]
   (sr1 [
   m1 48 12,
   o1 49 (.un .not (.t 48)),
   m1 50 49,
   g1 51 50 true (ao 10 1),
   g1 52 50 true (lf 51 1),
   g1 53 50 true (ao 2 3),
   g1 54 50 true (lf 53 1),
   g1 55 50 true (.bin .leq (.t 52) (.t 54)),
   o1 56 (.pick (.t 50) (.t 55) (.c (.bool false)))]
   (.cond (.t 56)
   (.reg [
    m1 57 8,
    o1 58 (lt 10 8),
    o1 59 (.bsl 8 50 [.t 58]),
    o1 60 (.appm 8 64 50 (.t 57) (.t 59)),
    m1 8 60])
   .skip)))))))
  (.reg [
  o1 61 (.bin .add (.t 27) (cn 1)),
  m1 27 61])))))))
 (.gh (sr1 [
 m1 62 8,
 o1 63 (.bsl 1 117 [.f 68,.f 69]),
 o1 64 (.call 67 [.t 62,.t 63]),
 m1 4 64,
 o1 5 (.mv (cn 0))]
 .ret)))))))))
def r47:List RV:=[.tmp 4,.tmp 5]
theorem n47:Try.f47.ntmps=65:=by kernel_rfl
theorem b47:Z3 Try.prog 47=true:=by kernel_rfl
theorem Zyt:YJ Try.prog c47 ((Try.f47.body).getD .skip)=true:=by kernel_rfl
theorem Zyg:Y5 Try.prog r47 Try.f47.results.toList=true:=by kernel_rfl
def c49:SC:=(sr1 [
 o1 1 (.box (.t 0) 0 24),
 o1 2 (.mv (.c (.pointer none)))]
 (sr1 [
 o1 3 (lt 1 4),
 o1 4 (.raw (Go.Op.makeMap 99 Option.none) 99),
 o1 5 (.raw (Go.Op.makeMap 71 Option.none) 71),
 o1 6 (.raw (Go.Op.makeMap 71 Option.none) 71),
 o1 7 (.raw (Go.Op.makeMap 100 Option.none) 100),
 o1 8 (.raw (Go.Op.makeMap 101 Option.none) 101),
 o1 9 (.build [.slice none 0 0,.int .i64 0,.int .i64 0,.int .i64 0,.map none,.map none,.map none,.map none,.map none,.int .i64 0] [(0,4,.t 3),(4,1,.t 4),(5,1,.t 5),(6,1,.t 6),(7,1,.t 7),(8,1,.t 8)]),
 o1 10 (.box (.t 9) 0 103),
 m1 2 10]
 .ret))
def r49:List RV:=[.tmp 2]
theorem n49:Try.f49.ntmps=11:=by kernel_rfl
theorem b49:Z3 Try.prog 49=true:=by kernel_rfl
theorem Zzk:YJ Try.prog c49 ((Try.f49.body).getD .skip)=true:=by kernel_rfl
theorem Zye:Y5 Try.prog r49 Try.f49.results.toList=true:=by kernel_rfl
theorem m49 {n0:Nat} {hp0:List (Nat × HB)} {args:List SV} {Zx:Ot->Prop} (hh:hpb n0 hp0) (hx:∀ o,Zx o->KX o.res/\KXP o.hp) (h:sx Try.prog Y0 n0 c49 ⟨Y2 0 args,hp0,n0,11,[]⟩ (WC r49 fun o=>∃ o',Zx o'/\WW n0 o o')) (hA:Nat.ble args.length 11=true:=by rfl):CtM Try.prog 49 hp0 n0 args Zx:=Zv Try.func49 rfl b49 Zzk Zye n49 (Nat.le_of_ble_eq_true hA) hh hx h
def c71:SC:=(sr1 [
 o1 7 (.callm 72 []),
 m1 4 7]
 (sr1 [
 o1 8 (lf 1 1),
 o1 9 (.len (.t 8)),
 o1 10 (.mv (cn 0))]
 (.block 0 (.loop (sr1 [
  o1 11 (.bin .lss (.t 10) (.t 9))]
  (.seq (.cond (.t 11)
  .skip
  (.exit 0))
  (.seq (.block 1 (sr1 [
   o1 12 (.ixs (.t 8) (.t 10) 8),
   o1 13 (lt 12 8),
   o1 6 (.alloc zv0 50),
   ⟨none,.st (.t 6) (.t 13) 8,none,[]⟩]
   (sr1 [
   m1 14 0,
   o1 15 (lf 2 1),
   o1 16 (lt 6 8),
   m1 17 4,
   o1 18 (ao 6 2),
   o1 19 (lf 18 1),
   o1 20 (.raw (Go.Op.lookup 120 (Go.Operand.tmp 17) (Go.Operand.tmp 19) Bool.false) 126),
   o1 21 (.fld (.t 20) 2 1 false),
   o1 22 (.callm 73 [.t 15,.t 16,.t 21]),
   o1 23 (.calvm (.t 14) [.t 22]),
   o1 24 (.un .not (.t 23))]
   (.cond (.t 24)
   .ret
   .skip))))
  (.reg [
  o1 25 (.bin .add (.t 10) (cn 1)),
  m1 10 25]))))))))
def r71:List RV:=[]
theorem n71:Try.f71.ntmps=26:=by kernel_rfl
theorem b71:Z3 Try.prog 71=true:=by kernel_rfl
theorem Zy1:YJ Try.prog c71 ((Try.f71.body).getD .skip)=true:=by kernel_rfl
theorem ZAn:Y5 Try.prog r71 Try.f71.results.toList=true:=by kernel_rfl
theorem y71 {Y:Hd} {n0:Nat} {hp0:List (Nat × HB)} {args:List SV} {Zx:Ot->Prop} (h:sx Try.prog Y n0 c71 ⟨Y2 0 args,hp0,n0,26,[]⟩ (WC r71 Zx)) (hA:Nat.ble args.length 26=true:=by rfl):CtY Try.prog Y 71 hp0 n0 args Zx:=Zdg Try.func71 rfl Zy1 ZAn n71 (Nat.le_of_ble_eq_true hA) h
def c50:SC:=(sr1 [
 o1 2 (.box (.t 0) 0 87),
 o1 3 (.box (.t 1) 0 38),
 o1 4 (.mv (.c (.nilFunc)))]
 (sr1 [
 o1 5 (.mkf 71 [.t 3,.t 2]),
 m1 4 5]
 .ret))
def r50:List RV:=[.tmp 4]
theorem n50:Try.f50.ntmps=6:=by kernel_rfl
theorem b50:Z3 Try.prog 50=true:=by kernel_rfl
theorem ZAE:YJ Try.prog c50 ((Try.f50.body).getD .skip)=true:=by kernel_rfl
theorem Zyx:Y5 Try.prog r50 Try.f50.results.toList=true:=by kernel_rfl
theorem m50 {n0:Nat} {hp0:List (Nat × HB)} {args:List SV} {Zx:Ot->Prop} (hh:hpb n0 hp0) (hx:∀ o,Zx o->KX o.res/\KXP o.hp) (h:sx Try.prog Y0 n0 c50 ⟨Y2 0 args,hp0,n0,6,[]⟩ (WC r50 fun o=>∃ o',Zx o'/\WW n0 o o')) (hA:Nat.ble args.length 6=true:=by rfl):CtM Try.prog 50 hp0 n0 args Zx:=Zv Try.func50 rfl b50 ZAE Zyx n50 (Nat.le_of_ble_eq_true hA) hh hx h
def c72:SC:=(sr1 [
 o1 0 (.mv (.c (.map none)))]
 (sr1 [
 o1 1 (.mv (.f 90))]
 (sr1 [
 o1 2 (.mv (.f 91))]
 (sr1 [
 o1 3 (.mv (.f 92))]
 (sr1 [
 o1 4 (.mv (.f 93))]
 (sr1 [
 o1 5 (.mv (.f 94))]
 (sr1 [
 o1 6 (.raw (Go.Op.makeMap 120 Option.none) 120),
 m1 7 2,
 m1 8 1,
 o1 9 (.build [.nilFunc,.nilFunc,.nilFunc] [(0,1,.t 7),(1,1,.t 8),(2,1,.f 95)]),
 ⟨none,.raw (Go.Op.insert 120 (Go.Operand.tmp 6) (Go.Operand.const (Go.Value.int Go.IntKind.u8 1)) (Go.Operand.tmp 9)) 0,none,[]⟩,
 m1 10 2,
 m1 11 1,
 o1 12 (.build [.nilFunc,.nilFunc,.nilFunc] [(0,1,.t 10),(1,1,.t 11),(2,1,.f 96)]),
 ⟨none,.raw (Go.Op.insert 120 (Go.Operand.tmp 6) (Go.Operand.const (Go.Value.int Go.IntKind.u8 2)) (Go.Operand.tmp 12)) 0,none,[]⟩,
 o1 13 (.build [.nilFunc,.nilFunc,.nilFunc] [(0,1,.f 97),(1,1,.f 98),(2,1,.f 99)]),
 ⟨none,.raw (Go.Op.insert 120 (Go.Operand.tmp 6) (Go.Operand.const (Go.Value.int Go.IntKind.u8 3)) (Go.Operand.tmp 13)) 0,none,[]⟩,
 m1 14 3,
 m1 15 1,
 o1 16 (.build [.nilFunc,.nilFunc,.nilFunc] [(0,1,.t 14),(1,1,.t 15),(2,1,.f 100)]),
 ⟨none,.raw (Go.Op.insert 120 (Go.Operand.tmp 6) (Go.Operand.const (Go.Value.int Go.IntKind.u8 4)) (Go.Operand.tmp 16)) 0,none,[]⟩,
 m1 17 3,
 m1 18 1,
 o1 19 (.build [.nilFunc,.nilFunc,.nilFunc] [(0,1,.t 17),(1,1,.t 18),(2,1,.f 101)]),
 ⟨none,.raw (Go.Op.insert 120 (Go.Operand.tmp 6) (Go.Operand.const (Go.Value.int Go.IntKind.u8 5)) (Go.Operand.tmp 19)) 0,none,[]⟩,
 m1 20 1,
 o1 21 (.build [.nilFunc,.nilFunc,.nilFunc] [(0,1,.f 102),(1,1,.t 20),(2,1,.f 103)]),
 ⟨none,.raw (Go.Op.insert 120 (Go.Operand.tmp 6) (Go.Operand.const (Go.Value.int Go.IntKind.u8 6)) (Go.Operand.tmp 21)) 0,none,[]⟩,
 m1 22 4,
 m1 23 5,
 o1 24 (.build [.nilFunc,.nilFunc,.nilFunc] [(0,1,.t 22),(1,1,.t 23),(2,1,.f 104)]),
 ⟨none,.raw (Go.Op.insert 120 (Go.Operand.tmp 6) (Go.Operand.const (Go.Value.int Go.IntKind.u8 7)) (Go.Operand.tmp 24)) 0,none,[]⟩,
 m1 25 4,
 m1 26 5,
 o1 27 (.build [.nilFunc,.nilFunc,.nilFunc] [(0,1,.t 25),(1,1,.t 26),(2,1,.f 105)]),
 ⟨none,.raw (Go.Op.insert 120 (Go.Operand.tmp 6) (Go.Operand.const (Go.Value.int Go.IntKind.u8 8)) (Go.Operand.tmp 27)) 0,none,[]⟩,
 m1 28 6,
 m1 0 28]
 .ret)))))))
def r72:List RV:=[.tmp 0]
theorem n72:Try.f72.ntmps=29:=by kernel_rfl
theorem b72:Z3 Try.prog 72=true:=by kernel_rfl
theorem Zzt:YJ Try.prog c72 ((Try.f72.body).getD .skip)=true:=by kernel_rfl
theorem ZyQ:Y5 Try.prog r72 Try.f72.results.toList=true:=by kernel_rfl
theorem m72 {n0:Nat} {hp0:List (Nat × HB)} {args:List SV} {Zx:Ot->Prop} (hh:hpb n0 hp0) (hx:∀ o,Zx o->KX o.res/\KXP o.hp) (h:sx Try.prog Y0 n0 c72 ⟨Y2 0 args,hp0,n0,29,[]⟩ (WC r72 fun o=>∃ o',Zx o'/\WW n0 o o')) (hA:Nat.ble args.length 29=true:=by rfl):CtM Try.prog 72 hp0 n0 args Zx:=Zv Try.func72 rfl b72 Zzt ZyQ n72 (Nat.le_of_ble_eq_true hA) hh hx h
def c80:SC:=(sr1 [
 o1 2 (.mv (.c (.slice none 0 0)))]
 (.seq (sr1 [
 m1 11 0,
 o1 12 (.nilc (.t 11)),
 o1 13 (ao 12 4),
 o1 14 (lf 13 1),
 o1 15 (.raw (Go.Op.range 99 (Go.Operand.tmp 14)) 0)]
 (.block 0 (.loop (sr1 [
  o1 16 (.raw (Go.Op.next (Go.Operand.tmp 15) Bool.false) 0),
  o1 17 (.ext (.t 16) 0)]
  (.seq (.cond (.t 17)
  .skip
  (.exit 0))
  (.block 1 (sr1 [
   o1 18 (.raw (Go.Op.entry (Go.Operand.tmp 15)) 0),
   o1 19 (.ext (.t 18) 0),
   m1 3 19]
   (.reg [
   m1 20 0,
   m1 21 3,
   m1 22 0,
   o1 23 (.nilc (.t 22)),
   o1 24 (ao 23 0),
   o1 25 (ao 24 3),
   o1 26 (lf 25 1),
   o1 27 (.callm 107 [.t 20,.t 21,.t 26])]))))))))
 (.gh (.seq (.regd [0,1,2,3,4,5,6,7,8,9] [
 .op (m1 28 0),
 .op (p1 29 (.nilc (.t 28)) [0]),
 .op (p1 30 (ao 29 0) [1]),
 .op (p1 31 (lt 30 4) [2]),
 .op (m1 32 0),
 .op (p1 33 (.nilc (.t 32)) [4]),
 .op (p1 34 (ao 33 9) [5]),
 .op (p1 35 (lf 34 1) [6]),
 .op (p1 36 (.call 43 [.t 31,.t 35]) [3,7]),
 .op (p1 4 (.mv (.t 36)) [0,1,2,3,4,5,6,7,8])] 0 0 [
])
 (sr1 [
 o1 5 (.mv (.c (.slice none 0 0)))]
 (.seq (sr1 [
 m1 37 0,
 o1 38 (.nilc (.t 37)),
 o1 39 (ao 38 0),
 o1 40 (ao 39 0),
 o1 41 (lf 40 1),
 o1 42 (.len (.t 41)),
 o1 43 (.mv (cn 0))]
 (.block 2 (.loop (sr1 [
  o1 44 (.bin .lss (.t 43) (.t 42))]
  (.seq (.cond (.t 44)
  .skip
  (.exit 2))
  (.seq (.block 3 (sr1 [
   m1 45 43,
   o1 46 (.ixs (.t 41) (.t 43) 3),
   o1 47 (lt 46 3),
   o1 7 (.alloc [.int .i64 0,.int .i64 0,.int .i64 0] 64),
   m1 6 45,
   ⟨none,.st (.t 7) (.t 47) 3,none,[]⟩]
   (.seq (.regd [0,1,2,3,4,5,6,7,8,9,10,11,12,13,14,15] [
   .op (o1 48 (ao 7 1)),
   .op (p1 49 (lf 48 1) [0]),
   .op (m1 50 4),
   .op (m1 51 6),
   .op (p1 52 (.ixs (.t 50) (.t 51) 1) [2,3]),
   .op (p1 53 (lf 52 1) [4]),
   .op (p1 54 (.bin .add (.t 49) (.t 53)) [1,5]),
   .op (m1 55 0),
   .op (p1 56 (.nilc (.t 55)) [7]),
   .op (p1 57 (ao 56 8) [8]),
   .op (p1 58 (lf 57 1) [9]),
   .op (o1 59 (ao 7 0)),
   .op (p1 60 (lf 59 1) [11]),
   .op (p1 61 (.rv (Go.Op.lookup 101 (Go.Operand.tmp 58) (Go.Operand.tmp 60) Bool.false) [.t 58,.t 60]) [10,12]),
   .op (p1 62 (.bin .add (.t 54) (.t 61)) [6,13]),
   .op (p1 8 (.mv (.t 62)) [0,1,2,3,4,5,6,7,8,9,10,11,12,13,14])] 0 0 [
])
 (.seq (sr1 [
 m1 63 0,
 o1 64 (.nilc (.t 63)),
 o1 65 (ao 64 7),
 o1 66 (lf 65 1),
 o1 67 (.raw (Go.Op.range 100 (Go.Operand.tmp 66)) 0)]
 (.block 4 (.loop (sr1 [
  o1 68 (.raw (Go.Op.next (Go.Operand.tmp 67) Bool.false) 0),
  o1 69 (.ext (.t 68) 0)]
  (.seq (.cond (.t 69)
  .skip
  (.exit 4))
  (.block 5 (sr1 [
   o1 70 (.raw (Go.Op.entry (Go.Operand.tmp 67)) 0),
   o1 71 (.ext (.t 70) 0),
   o1 72 (.ext (.t 70) 1),
   o1 9 (.alloc [.int .i64 0,.int .i64 0] 105),
   ⟨none,.st (.t 9) (.t 71) 2,none,[]⟩,
   m1 10 72]
   (.seq (sr1 [
   o1 73 (ao 9 1),
   o1 74 (lf 73 1),
   o1 75 (ao 7 0),
   o1 76 (lf 75 1),
   o1 77 (.bin .eql (.t 74) (.t 76))]
   (.cond (.t 77)
   (.reg [
    m1 78 8,
    m1 79 10,
    o1 80 (.bin .add (.t 78) (.t 79)),
    m1 8 80])
   .skip))
   (sr1 [
   o1 81 (ao 9 0),
   o1 82 (lf 81 1),
   o1 83 (ao 7 0),
   o1 84 (lf 83 1),
   o1 85 (.bin .eql (.t 82) (.t 84))]
   (.cond (.t 85)
   (.reg [
    m1 86 8,
    m1 87 10,
    o1 88 (.bin .sub (.t 86) (.t 87)),
    m1 8 88])
   .skip))))))))))
 (.gh (.reg [
 m1 89 5,
 m1 90 8,
 o1 91 (.bsl 1 3 [.t 90]),
 o1 92 (.appm 1 8 3 (.t 89) (.t 91)),
 m1 5 92]))))))
 (.gh (.reg [
 o1 93 (.bin .add (.t 43) (cn 1)),
 m1 43 93]))))))))
 (.gh (sr1 [
 m1 94 5,
 m1 2 94]
 .ret))))))))
def r80:List RV:=[.tmp 2]
theorem n80:Try.f80.ntmps=95:=by kernel_rfl
theorem b80:Z3 Try.prog 80=true:=by kernel_rfl
theorem ZxW:YJ Try.prog c80 ((Try.f80.body).getD .skip)=true:=by kernel_rfl
theorem Zzd:Y5 Try.prog r80 Try.f80.results.toList=true:=by kernel_rfl
theorem m80 {n0:Nat} {hp0:List (Nat × HB)} {args:List SV} {Zx:Ot->Prop} (hh:hpb n0 hp0) (hx:∀ o,Zx o->KX o.res/\KXP o.hp) (h:sx Try.prog Y0 n0 c80 ⟨Y2 0 args,hp0,n0,95,[]⟩ (WC r80 fun o=>∃ o',Zx o'/\WW n0 o o')) (hA:Nat.ble args.length 95=true:=by rfl):CtM Try.prog 80 hp0 n0 args Zx:=Zv Try.func80 rfl b80 ZxW Zzd n80 (Nat.le_of_ble_eq_true hA) hh hx h
def c95:SC:=(sr1 [
 o1 3 (.box (.t 1) 0 50)]
 (.regd [0,1,2,3,4,5,6,7,8,9] [
 .op (m1 4 0),
 .op (p1 5 (.nilc (.t 4)) [0]),
 .op (p1 6 (ao 5 9) [1]),
 .op (p1 7 (lf 6 1) [2]),
 .op (o1 8 (ao 3 6)),
 .op (p1 9 (lf 8 1) [4]),
 .op (p1 10 (.bin .add (.t 7) (.t 9)) [3,5]),
 .op (p1 11 (.nilc (.t 4)) [0,1,2,3,4,5,6]),
 .op (p1 12 (ao 11 9) [0,1,2,3,4,5,6,7])] 0 1 [
 ⟨none,.st (.t 12) (.t 10) 1,none,[0,1,2,3,4,5,6,8]⟩]))
def r95:List RV:=[]
theorem n95:Try.f95.ntmps=13:=by kernel_rfl
theorem b95:Z3 Try.prog 95=true:=by kernel_rfl
theorem ZAp:YJ Try.prog c95 ((Try.f95.body).getD .skip)=true:=by kernel_rfl
theorem Zx1:Y5 Try.prog r95 Try.f95.results.toList=true:=by kernel_rfl
theorem m95 {n0:Nat} {hp0:List (Nat × HB)} {args:List SV} {Zx:Ot->Prop} (hh:hpb n0 hp0) (hx:∀ o,Zx o->KX o.res/\KXP o.hp) (h:sx Try.prog Y0 n0 c95 ⟨Y2 0 args,hp0,n0,13,[]⟩ (WC r95 fun o=>∃ o',Zx o'/\WW n0 o o')) (hA:Nat.ble args.length 13=true:=by rfl):CtM Try.prog 95 hp0 n0 args Zx:=Zv Try.func95 rfl b95 ZAp Zx1 n95 (Nat.le_of_ble_eq_true hA) hh hx h
def c96:SC:=(sr1 [
 o1 3 (.box (.t 1) 0 50)]
 (.regd [0,1,2,3,4,5,6,7,8,9] [
 .op (m1 4 0),
 .op (p1 5 (.nilc (.t 4)) [0]),
 .op (p1 6 (ao 5 9) [1]),
 .op (p1 7 (lf 6 1) [2]),
 .op (o1 8 (ao 3 6)),
 .op (p1 9 (lf 8 1) [4]),
 .op (p1 10 (.bin .sub (.t 7) (.t 9)) [3,5]),
 .op (p1 11 (.nilc (.t 4)) [0,1,2,3,4,5,6]),
 .op (p1 12 (ao 11 9) [0,1,2,3,4,5,6,7])] 0 1 [
 ⟨none,.st (.t 12) (.t 10) 1,none,[0,1,2,3,4,5,6,8]⟩]))
def r96:List RV:=[]
theorem n96:Try.f96.ntmps=13:=by kernel_rfl
theorem b96:Z3 Try.prog 96=true:=by kernel_rfl
theorem Zze:YJ Try.prog c96 ((Try.f96.body).getD .skip)=true:=by kernel_rfl
theorem ZzC:Y5 Try.prog r96 Try.f96.results.toList=true:=by kernel_rfl
theorem m96 {n0:Nat} {hp0:List (Nat × HB)} {args:List SV} {Zx:Ot->Prop} (hh:hpb n0 hp0) (hx:∀ o,Zx o->KX o.res/\KXP o.hp) (h:sx Try.prog Y0 n0 c96 ⟨Y2 0 args,hp0,n0,13,[]⟩ (WC r96 fun o=>∃ o',Zx o'/\WW n0 o o')) (hA:Nat.ble args.length 13=true:=by rfl):CtM Try.prog 96 hp0 n0 args Zx:=Zv Try.func96 rfl b96 Zze ZzC n96 (Nat.le_of_ble_eq_true hA) hh hx h
def c99:SC:=(sr1 [
 o1 3 (.box (.t 1) 0 50)]
 (.seq (.regd [0,1,2,3,4,5,6,7,8,9,10,11,12] [
 .op (m1 7 0),
 .op (p1 8 (.nilc (.t 7)) [0]),
 .op (p1 9 (ao 8 4) [1]),
 .op (p1 10 (lf 9 1) [2]),
 .op (o1 11 (ao 3 5)),
 .op (p1 12 (lf 11 1) [4]),
 .op (p1 13 (.rv (Go.Op.lookup 99 (Go.Operand.tmp 10) (Go.Operand.tmp 12) Bool.true) [.t 10,.t 12]) [3,5]),
 .op (p1 6 (.mv (.t 13)) [6]),
 .op (p1 14 (.ext (.t 6) 0) [7]),
 .op (p1 15 (.ext (.t 6) 1) [7])] 1 2 [
 o1 4 (.alloc [.int .i64 0,.int .i64 0] 150),
 ⟨none,.st (.t 4) (.t 14) 2,none,[0,1,2,3,4,5,6,7,8,10]⟩,
 ⟨some 5,.mv (.t 15),none,[0,1,2,3,4,5,6,7,8,9,10,11]⟩])
 (sr1 [
 m1 16 5,
 o1 17 (.callm 111 [.t 16,.c (.int .u8 1)])]
 (.seq (.regd [0,1,2,3,4,5,6,7] [
 .op (m1 18 0),
 .op (p1 19 (.nilc (.t 18)) [0]),
 .op (p1 20 (ao 19 5) [1]),
 .op (p1 21 (lf 20 1) [2]),
 .op (o1 22 (ao 3 5)),
 .op (p1 23 (lf 22 1) [4])] 0 0 [
 ⟨some 24,.raw (Go.Op.lookup 71 (Go.Operand.tmp 21) (Go.Operand.tmp 23) Bool.false) 4,none,[3,5]⟩,
 ⟨some 25,.callm 111 [.t 24,.c (.int .u8 2)],none,[6]⟩])
 (.regd [0,1,2,3,4,5,6,7,8,9,10,11] [
 .op (m1 26 0),
 .op (p1 27 (.nilc (.t 26)) [0]),
 .op (p1 28 (ao 27 4) [1]),
 .op (p1 29 (lf 28 1) [2]),
 .op (o1 30 (ao 3 5)),
 .op (p1 31 (lf 30 1) [4]),
 .op (o1 32 (ao 3 3)),
 .op (p1 33 (lf 32 1) [6]),
 .op (o1 34 (ao 3 1)),
 .op (p1 35 (lf 34 1) [8]),
 .op (p1 36 (.build [.int .i64 0,.int .i64 0] [(0,1,.t 33),(1,1,.t 35)]) [7,9])] 0 0 [
 ⟨none,.raw (Go.Op.mapUpdate 99 (Go.Operand.tmp 29) (Go.Operand.tmp 31) (Go.Operand.tmp 36)) 0,none,[0,1,2,3,4,5,6,7,8,9,10]⟩])))))
def r99:List RV:=[]
theorem n99:Try.f99.ntmps=37:=by kernel_rfl
theorem b99:Z3 Try.prog 99=true:=by kernel_rfl
theorem Zx9:YJ Try.prog c99 ((Try.f99.body).getD .skip)=true:=by kernel_rfl
theorem ZyM:Y5 Try.prog r99 Try.f99.results.toList=true:=by kernel_rfl
theorem m99 {n0:Nat} {hp0:List (Nat × HB)} {args:List SV} {Zx:Ot->Prop} (hh:hpb n0 hp0) (hx:∀ o,Zx o->KX o.res/\KXP o.hp) (h:sx Try.prog Y0 n0 c99 ⟨Y2 0 args,hp0,n0,37,[]⟩ (WC r99 fun o=>∃ o',Zx o'/\WW n0 o o')) (hA:Nat.ble args.length 37=true:=by rfl):CtM Try.prog 99 hp0 n0 args Zx:=Zv Try.func99 rfl b99 Zx9 ZyM n99 (Nat.le_of_ble_eq_true hA) hh hx h
def ZBj:SC:=(sr1 [
 o1 3 (.box (.t 1) 0 50)]
 (.reg [
 m1 4 0,
 o1 5 (ao 3 5),
 o1 6 (lf 5 1),
 o1 7 (ao 3 1),
 o1 8 (lf 7 1),
 o1 9 (.callm 107 [.t 4,.t 6,.t 8])]))
def ZA0:List RV:=[]
theorem n100:Try.f100.ntmps=10:=by kernel_rfl
theorem b100:Z3 Try.prog 100=true:=by kernel_rfl
theorem Zug:YJ Try.prog ZBj ((Try.f100.body).getD .skip)=true:=by kernel_rfl
theorem ZwF:Y5 Try.prog ZA0 Try.f100.results.toList=true:=by kernel_rfl
theorem m100 {n0:Nat} {hp0:List (Nat × HB)} {args:List SV} {Zx:Ot->Prop} (hh:hpb n0 hp0) (hx:∀ o,Zx o->KX o.res/\KXP o.hp) (h:sx Try.prog Y0 n0 ZBj ⟨Y2 0 args,hp0,n0,10,[]⟩ (WC ZA0 fun o=>∃ o',Zx o'/\WW n0 o o')) (hA:Nat.ble args.length 10=true:=by rfl):CtM Try.prog 100 hp0 n0 args Zx:=Zv Try.func100 rfl b100 Zug ZwF n100 (Nat.le_of_ble_eq_true hA) hh hx h
def Zzl:SC:=(sr1 [
 o1 3 (.box (.t 1) 0 50)]
 (.seq (.regd [0,1,2,3,4,5,6,7] [
 .op (m1 4 0),
 .op (p1 5 (.nilc (.t 4)) [0]),
 .op (p1 6 (ao 5 5) [1]),
 .op (p1 7 (lf 6 1) [2]),
 .op (o1 8 (ao 3 5)),
 .op (p1 9 (lf 8 1) [4])] 0 0 [
 ⟨some 10,.raw (Go.Op.lookup 71 (Go.Operand.tmp 7) (Go.Operand.tmp 9) Bool.false) 4,none,[3,5]⟩,
 ⟨some 11,.callm 111 [.t 10,.c (.int .u8 2)],none,[6]⟩])
 (sr1 [
 m1 12 0,
 o1 13 (ao 3 5),
 o1 14 (lf 13 1),
 o1 15 (ao 3 1),
 o1 16 (lf 15 1),
 o1 17 (.callm 107 [.t 12,.t 14,.t 16])]
 (.regd [0,1,2,3,4,5,6] [
 .op (m1 18 0),
 .op (p1 19 (.nilc (.t 18)) [0]),
 .op (p1 20 (ao 19 5) [1]),
 .op (p1 21 (lf 20 1) [2]),
 .op (o1 22 (ao 3 5)),
 .op (p1 23 (lf 22 1) [4])] 0 0 [
 ⟨none,.raw (Go.Op.mapUpdate 71 (Go.Operand.tmp 21) (Go.Operand.tmp 23) (Go.Operand.const (Go.Value.bool Bool.true))) 0,none,[0,1,2,3,4,5]⟩]))))
def Zy2:List RV:=[]
theorem n101:Try.f101.ntmps=24:=by kernel_rfl
theorem b101:Z3 Try.prog 101=true:=by kernel_rfl
theorem Zu7:YJ Try.prog Zzl ((Try.f101.body).getD .skip)=true:=by kernel_rfl
theorem Zus:Y5 Try.prog Zy2 Try.f101.results.toList=true:=by kernel_rfl
theorem m101 {n0:Nat} {hp0:List (Nat × HB)} {args:List SV} {Zx:Ot->Prop} (hh:hpb n0 hp0) (hx:∀ o,Zx o->KX o.res/\KXP o.hp) (h:sx Try.prog Y0 n0 Zzl ⟨Y2 0 args,hp0,n0,24,[]⟩ (WC Zy2 fun o=>∃ o',Zx o'/\WW n0 o o')) (hA:Nat.ble args.length 24=true:=by rfl):CtM Try.prog 101 hp0 n0 args Zx:=Zv Try.func101 rfl b101 Zu7 Zus n101 (Nat.le_of_ble_eq_true hA) hh hx h
def Zx8:SC:=(sr1 [
 o1 3 (.box (.t 1) 0 50)]
 (.seq (.regd [0,1,2,3,4,5,6,7] [
 .op (m1 6 0),
 .op (p1 7 (.nilc (.t 6)) [0]),
 .op (p1 8 (ao 7 6) [1]),
 .op (p1 9 (lf 8 1) [2]),
 .op (o1 10 (ao 3 4)),
 .op (p1 11 (lf 10 1) [4])] 0 0 [
 ⟨some 12,.raw (Go.Op.lookup 71 (Go.Operand.tmp 9) (Go.Operand.tmp 11) Bool.false) 4,none,[3,5]⟩,
 ⟨some 13,.callm 111 [.t 12,.c (.int .u8 4)],none,[6]⟩])
 (sr1 [
 m1 14 0,
 o1 15 (ao 3 5),
 o1 16 (lf 15 1),
 o1 17 (.callm 112 [.t 14,.t 16]),
 o1 4 (.alloc [.int .i64 0,.int .i64 0] 150),
 ⟨none,.st (.t 4) (.t 17) 2,none,[]⟩]
 (.seq (.regd [0,1,2,3,4,5,6,7,8,9] [
 .op (o1 18 (ao 3 6)),
 .op (p1 19 (lf 18 1) [0]),
 .op (m1 20 0),
 .op (p1 21 (.nilc (.t 20)) [2]),
 .op (p1 22 (ao 21 0) [3]),
 .op (p1 23 (ao 22 1) [4]),
 .op (p1 24 (lf 23 1) [5]),
 .op (p1 25 (.bin .mul (.t 19) (.t 24)) [1,6]),
 .op (p1 26 (.div .quo (.t 25) (cn 1000)) [7]),
 .op (p1 5 (.mv (.t 26)) [0,1,2,3,4,5,6,7,8])] 0 0 [
])
 (.seq (.regd [0,1,2,3,4,5,6,7,8,9] [
 .op (m1 27 0),
 .op (p1 28 (.nilc (.t 27)) [0]),
 .op (p1 29 (ao 28 8) [1]),
 .op (p1 30 (lf 29 1) [2]),
 .op (o1 31 (ao 4 0)),
 .op (p1 32 (lf 31 1) [4]),
 .op (p1 33 (.rv (Go.Op.lookup 101 (Go.Operand.tmp 30) (Go.Operand.tmp 32) Bool.false) [.t 30,.t 32]) [3,5]),
 .op (m1 34 5),
 .op (p1 35 (.bin .add (.t 33) (.t 34)) [6,7])] 0 0 [
 ⟨none,.raw (Go.Op.mapUpdate 101 (Go.Operand.tmp 30) (Go.Operand.tmp 32) (Go.Operand.tmp 35)) 0,none,[0,1,2,3,4,5,6,7,8]⟩])
 (.seq (.regd [0,1,2,3,4,5,6,7,8,9,10,11] [
 .op (m1 36 0),
 .op (p1 37 (.nilc (.t 36)) [0]),
 .op (p1 38 (ao 37 9) [1]),
 .op (p1 39 (lf 38 1) [2]),
 .op (o1 40 (ao 3 6)),
 .op (p1 41 (lf 40 1) [4]),
 .op (m1 42 5),
 .op (p1 43 (.bin .sub (.t 41) (.t 42)) [5,6]),
 .op (p1 44 (.bin .add (.t 39) (.t 43)) [3,7]),
 .op (p1 45 (.nilc (.t 36)) [0,1,2,3,4,5,6,7,8]),
 .op (p1 46 (ao 45 9) [0,1,2,3,4,5,6,7,8,9])] 0 1 [
 ⟨none,.st (.t 46) (.t 44) 1,none,[0,1,2,3,4,5,6,7,8,10]⟩])
 (.regd [0,1,2,3,4,5,6] [
 .op (m1 47 0),
 .op (p1 48 (.nilc (.t 47)) [0]),
 .op (p1 49 (ao 48 6) [1]),
 .op (p1 50 (lf 49 1) [2]),
 .op (o1 51 (ao 3 4)),
 .op (p1 52 (lf 51 1) [4])] 0 0 [
 ⟨none,.raw (Go.Op.mapUpdate 71 (Go.Operand.tmp 50) (Go.Operand.tmp 52) (Go.Operand.const (Go.Value.bool Bool.true))) 0,none,[0,1,2,3,4,5]⟩])))))))
def ZAu:List RV:=[]
theorem n103:Try.f103.ntmps=53:=by kernel_rfl
theorem b103:Z3 Try.prog 103=true:=by kernel_rfl
theorem Zw6:YJ Try.prog Zx8 ((Try.f103.body).getD .skip)=true:=by kernel_rfl
theorem Zul:Y5 Try.prog ZAu Try.f103.results.toList=true:=by kernel_rfl
theorem m103 {n0:Nat} {hp0:List (Nat × HB)} {args:List SV} {Zx:Ot->Prop} (hh:hpb n0 hp0) (hx:∀ o,Zx o->KX o.res/\KXP o.hp) (h:sx Try.prog Y0 n0 Zx8 ⟨Y2 0 args,hp0,n0,53,[]⟩ (WC ZAu fun o=>∃ o',Zx o'/\WW n0 o o')) (hA:Nat.ble args.length 53=true:=by rfl):CtM Try.prog 103 hp0 n0 args Zx:=Zv Try.func103 rfl b103 Zw6 Zul n103 (Nat.le_of_ble_eq_true hA) hh hx h
def c104:SC:=(sr1 [
 o1 3 (.box (.t 1) 0 50)]
 (.gh (.regd [0,1,2,3,4,5,6,7,8,10,11,9,12,13,14,15] [
 .op (m1 4 0),
 .op (p1 5 (.nilc (.t 4)) [0]),
 .op (p1 6 (ao 5 7) [1]),
 .op (p1 7 (lf 6 1) [2]),
 .op (o1 8 (ao 3 3)),
 .op (p1 9 (lf 8 1) [4]),
 .op (o1 10 (ao 3 4)),
 .op (p1 11 (lf 10 1) [6]),
 .op (p1 12 (.build [.int .i64 0,.int .i64 0] [(0,1,.t 9),(1,1,.t 11)]) [5,7]),
 .op (o1 14 (ao 3 6)),
 .op (p1 15 (lf 14 1) [10]),
 .op (p1 13 (.rv (Go.Op.lookup 100 (Go.Operand.tmp 7) (Go.Operand.tmp 12) Bool.false) [.t 7,.t 12]) [3,8]),
 .op (p1 16 (.bin .add (.t 13) (.t 15)) [9,11])] 0 2 [
 ⟨some 17,.rb (Go.Op.mapEntry 100 (Go.Operand.tmp 7) (Go.Operand.tmp 12)) (.t 7) [.t 12],none,[0,1,2,3,4,5,6,7,8,10,11]⟩,
 ⟨some 18,.ext (.t 17) 1,none,[13]⟩,
 ⟨none,.raw (Go.Op.entryStore 100 (Go.Operand.tmp 7) (Go.Operand.tmp 18) (Go.Operand.tmp 16)) 0,none,[0,1,2,3,4,5,6,7,8,9,10,11,12,13,14]⟩])))
def r104:List RV:=[]
theorem n104:Try.f104.ntmps=19:=by kernel_rfl
theorem b104:Z3 Try.prog 104=true:=by kernel_rfl
theorem Zt2:YJ Try.prog c104 ((Try.f104.body).getD .skip)=true:=by kernel_rfl
theorem ZtZ:Y5 Try.prog r104 Try.f104.results.toList=true:=by kernel_rfl
theorem m104 {n0:Nat} {hp0:List (Nat × HB)} {args:List SV} {Zx:Ot->Prop} (hh:hpb n0 hp0) (hx:∀ o,Zx o->KX o.res/\KXP o.hp) (h:sx Try.prog Y0 n0 c104 ⟨Y2 0 args,hp0,n0,19,[]⟩ (WC r104 fun o=>∃ o',Zx o'/\WW n0 o o')) (hA:Nat.ble args.length 19=true:=by rfl):CtM Try.prog 104 hp0 n0 args Zx:=Zv Try.func104 rfl b104 Zt2 ZtZ n104 (Nat.le_of_ble_eq_true hA) hh hx h
def ZBs:SC:=(sr1 [
 o1 3 (.box (.t 1) 0 50)]
 (sr1 [
 o1 5 (ao 3 3),
 o1 6 (lf 5 1),
 o1 7 (ao 3 4),
 o1 8 (lf 7 1),
 o1 9 (.build [.int .i64 0,.int .i64 0] [(0,1,.t 6),(1,1,.t 8)]),
 o1 4 (.alloc [.int .i64 0,.int .i64 0] 105),
 ⟨none,.st (.t 4) (.t 9) 2,none,[]⟩]
 (.seq (.regd [0,1,2,3,4,5,6,7,8,9] [
 .op (m1 10 0),
 .op (p1 11 (.nilc (.t 10)) [0]),
 .op (p1 12 (ao 11 7) [1]),
 .op (p1 13 (lf 12 1) [2]),
 .op (o1 14 (lt 4 2)),
 .op (p1 15 (.rv (Go.Op.lookup 100 (Go.Operand.tmp 13) (Go.Operand.tmp 14) Bool.false) [.t 13,.t 14]) [3,4]),
 .op (o1 16 (ao 3 6)),
 .op (p1 17 (lf 16 1) [6]),
 .op (p1 18 (.bin .lss (.t 15) (.t 17)) [5,7])] 0 0 [
 ⟨some 19,.callm 111 [.t 18,.c (.int .u8 5)],none,[8]⟩])
 (.gh (.regd [0,1,2,3,4,6,7,5,8,9,10,11] [
 .op (m1 20 0),
 .op (p1 21 (.nilc (.t 20)) [0]),
 .op (p1 22 (ao 21 7) [1]),
 .op (p1 23 (lf 22 1) [2]),
 .op (o1 24 (lt 4 2)),
 .op (o1 26 (ao 3 6)),
 .op (p1 27 (lf 26 1) [6]),
 .op (p1 25 (.rv (Go.Op.lookup 100 (Go.Operand.tmp 23) (Go.Operand.tmp 24) Bool.false) [.t 23,.t 24]) [3,4]),
 .op (p1 28 (.bin .sub (.t 25) (.t 27)) [5,7])] 0 2 [
 ⟨some 29,.rb (Go.Op.mapEntry 100 (Go.Operand.tmp 23) (Go.Operand.tmp 24)) (.t 23) [.t 24],none,[0,1,2,3,4,6,7]⟩,
 ⟨some 30,.ext (.t 29) 1,none,[9]⟩,
 ⟨none,.raw (Go.Op.entryStore 100 (Go.Operand.tmp 23) (Go.Operand.tmp 30) (Go.Operand.tmp 28)) 0,none,[0,1,2,3,4,5,6,7,8,9,10]⟩])))))
def ZBl:List RV:=[]
theorem n105:Try.f105.ntmps=31:=by kernel_rfl
theorem b105:Z3 Try.prog 105=true:=by kernel_rfl
theorem Zvg:YJ Try.prog ZBs ((Try.f105.body).getD .skip)=true:=by kernel_rfl
theorem Zsw:Y5 Try.prog ZBl Try.f105.results.toList=true:=by kernel_rfl
theorem m105 {n0:Nat} {hp0:List (Nat × HB)} {args:List SV} {Zx:Ot->Prop} (hh:hpb n0 hp0) (hx:∀ o,Zx o->KX o.res/\KXP o.hp) (h:sx Try.prog Y0 n0 ZBs ⟨Y2 0 args,hp0,n0,31,[]⟩ (WC ZBl fun o=>∃ o',Zx o'/\WW n0 o o')) (hA:Nat.ble args.length 31=true:=by rfl):CtM Try.prog 105 hp0 n0 args Zx:=Zv Try.func105 rfl b105 Zvg Zsw n105 (Nat.le_of_ble_eq_true hA) hh hx h
def ZAV:SC:=(sr1 [
 m1 8 0,
 m1 9 1,
 o1 10 (.callm 112 [.t 8,.t 9]),
 o1 6 (.alloc [.int .i64 0,.int .i64 0] 150),
 ⟨none,.st (.t 6) (.t 10) 2,none,[]⟩]
 (.seq (.regd [0,1,2,3,4,5,6,7,8,9,10] [
 .op (m1 11 0),
 .op (p1 12 (.nilc (.t 11)) [0]),
 .op (p1 13 (ao 12 0) [1]),
 .op (p1 14 (ao 13 2) [2]),
 .op (p1 15 (lf 14 1) [3]),
 .op (m1 16 2),
 .op (o1 17 (ao 6 1)),
 .op (p1 18 (lf 17 1) [6]),
 .op (p1 19 (.bin .sub (.t 16) (.t 18)) [5,7]),
 .op (p1 20 (.bin .mul (.t 15) (.t 19)) [4,8]),
 .op (p1 7 (.mv (.t 20)) [0,1,2,3,4,5,6,7,8,9])] 0 0 [
])
 (sr1 [
 m1 21 0,
 o1 22 (.nilc (.t 21)),
 o1 23 (ao 22 9),
 o1 24 (lf 23 1),
 m1 25 7,
 o1 26 (.bin .sub (.t 24) (.t 25)),
 o1 27 (.nilc (.t 21)),
 o1 28 (ao 27 9),
 ⟨none,.st (.t 28) (.t 26) 1,none,[]⟩]
 (.seq (.regd [0,1,2,3,4,5,6,7,8,9] [
 .op (m1 29 0),
 .op (p1 30 (.nilc (.t 29)) [0]),
 .op (p1 31 (ao 30 8) [1]),
 .op (p1 32 (lf 31 1) [2]),
 .op (o1 33 (ao 6 0)),
 .op (p1 34 (lf 33 1) [4]),
 .op (p1 35 (.rv (Go.Op.lookup 101 (Go.Operand.tmp 32) (Go.Operand.tmp 34) Bool.false) [.t 32,.t 34]) [3,5]),
 .op (m1 36 7),
 .op (p1 37 (.bin .add (.t 35) (.t 36)) [6,7])] 0 0 [
 ⟨none,.raw (Go.Op.mapUpdate 101 (Go.Operand.tmp 32) (Go.Operand.tmp 34) (Go.Operand.tmp 37)) 0,none,[0,1,2,3,4,5,6,7,8]⟩])
 (.reg [
 m1 38 0,
 o1 39 (.nilc (.t 38)),
 o1 40 (ao 39 4),
 o1 41 (lf 40 1),
 m1 42 1,
 ⟨none,.raw (Go.Op.call { callee:=(Go.Callee.builtin Go.Builtin.delete),args:=#[(Go.Operand.tmp 41),(Go.Operand.tmp 42)],argTypes:=#[99,3] }) 0,none,[]⟩])))))
def ZBa:List RV:=[]
theorem n107:Try.f107.ntmps=43:=by kernel_rfl
theorem b107:Z3 Try.prog 107=true:=by kernel_rfl
theorem Zuh:YJ Try.prog ZAV ((Try.f107.body).getD .skip)=true:=by kernel_rfl
theorem Zwt:Y5 Try.prog ZBa Try.f107.results.toList=true:=by kernel_rfl
theorem m107 {n0:Nat} {hp0:List (Nat × HB)} {args:List SV} {Zx:Ot->Prop} (hh:hpb n0 hp0) (hx:∀ o,Zx o->KX o.res/\KXP o.hp) (h:sx Try.prog Y0 n0 ZAV ⟨Y2 0 args,hp0,n0,43,[]⟩ (WC ZBa fun o=>∃ o',Zx o'/\WW n0 o o')) (hA:Nat.ble args.length 43=true:=by rfl):CtM Try.prog 107 hp0 n0 args Zx:=Zv Try.func107 rfl b107 Zuh Zwt n107 (Nat.le_of_ble_eq_true hA) hh hx h
def ZBk:SC:=(sr1 [
 m1 4 0]
 (.cond (.t 4)
 (.reg [
  m1 5 1,
  o1 6 (.raw (Go.Op.makeInterface 145 (Go.Operand.tmp 5)) 20),
  ⟨none,.raw (Go.Op.panic (Go.Operand.tmp 6)) 0,none,[]⟩])
 .skip))
def ZA5:List RV:=[]
theorem n111:Try.f111.ntmps=7:=by kernel_rfl
theorem b111:Z3 Try.prog 111=true:=by kernel_rfl
theorem ZuL:YJ Try.prog ZBk ((Try.f111.body).getD .skip)=true:=by kernel_rfl
theorem Zt7:Y5 Try.prog ZA5 Try.f111.results.toList=true:=by kernel_rfl
theorem m111 {n0:Nat} {hp0:List (Nat × HB)} {args:List SV} {Zx:Ot->Prop} (hh:hpb n0 hp0) (hx:∀ o,Zx o->KX o.res/\KXP o.hp) (h:sx Try.prog Y0 n0 ZBk ⟨Y2 0 args,hp0,n0,7,[]⟩ (WC ZA5 fun o=>∃ o',Zx o'/\WW n0 o o')) (hA:Nat.ble args.length 7=true:=by rfl):CtM Try.prog 111 hp0 n0 args Zx:=Zv Try.func111 rfl b111 ZuL Zt7 n111 (Nat.le_of_ble_eq_true hA) hh hx h
def ZBt:SC:=(sr1 [
 o1 4 (.alloc [.int .i64 0,.int .i64 0] 150)]
 (sr1 [
 m1 8 0,
 o1 9 (.nilc (.t 8)),
 o1 10 (ao 9 4),
 o1 11 (lf 10 1),
 m1 12 1,
 o1 13 (.raw (Go.Op.lookup 99 (Go.Operand.tmp 11) (Go.Operand.tmp 12) Bool.true) 151),
 m1 7 13,
 o1 14 (.ext (.t 7) 0),
 o1 15 (.ext (.t 7) 1),
 o1 5 (.alloc [.int .i64 0,.int .i64 0] 150),
 ⟨none,.st (.t 5) (.t 14) 2,none,[]⟩,
 m1 6 15]
 (sr1 [
 m1 16 6,
 o1 17 (.un .not (.t 16)),
 o1 18 (.callm 111 [.t 17,.c (.int .u8 3)])]
 (sr1 [
 o1 19 (lt 5 2),
 ⟨none,.st (.t 4) (.t 19) 2,none,[]⟩]
 .ret))))
def ZBm:List RV:=[.cell 4 2 true]
theorem n112:Try.f112.ntmps=20:=by kernel_rfl
theorem b112:Z3 Try.prog 112=true:=by kernel_rfl
theorem Zt9:YJ Try.prog ZBt ((Try.f112.body).getD .skip)=true:=by kernel_rfl
theorem Zxi:Y5 Try.prog ZBm Try.f112.results.toList=true:=by kernel_rfl
theorem m112 {n0:Nat} {hp0:List (Nat × HB)} {args:List SV} {Zx:Ot->Prop} (hh:hpb n0 hp0) (hx:∀ o,Zx o->KX o.res/\KXP o.hp) (h:sx Try.prog Y0 n0 ZBt ⟨Y2 0 args,hp0,n0,20,[]⟩ (WC ZBm fun o=>∃ o',Zx o'/\WW n0 o o')) (hA:Nat.ble args.length 20=true:=by rfl):CtM Try.prog 112 hp0 n0 args Zx:=Zv Try.func112 rfl b112 Zt9 Zxi n112 (Nat.le_of_ble_eq_true hA) hh hx h
def c56:SC:=(sr1 [
 o1 2 (.box (.t 0) 0 24),
 o1 4 (.mv (.c (.slice none 0 0)))]
 (sr1 [
 o1 6 (lt 2 4),
 o1 7 (.callm 49 [.t 6]),
 m1 5 7]
 (.seq (sr1 [
 m1 8 5,
 m1 9 1,
 o1 10 (.callm 50 [.t 8,.t 9])]
 (.block 0 (.gh (.rfun (.t 10) [11] .skip
  (.block 1 .skip)))))
 (sr1 [
 m1 12 5,
 o1 13 (.callm 80 [.t 12]),
 m1 4 13]
 .ret))))
def r56:List RV:=[.tmp 4]
theorem t56:Qt1 Try.prog 56 c56 r56 14:=XN Try.func56 rfl (by kernel_rfl) (by kernel_rfl) (by kernel_rfl) (by kernel_rfl)
def c29:SC:=(sr1 [
 o1 2 (.box (.t 0) 0 24),
 o1 4 (.mv (.c (.slice none 0 0))),
 o1 5 (.mv (cn 0))]
 (sr1 [
 o1 9 (lt 2 4),
 m1 10 1,
 o1 11 (.call 47 [.t 9,.t 10]),
 m1 8 11,
 o1 12 (.ext (.t 8) 0),
 o1 13 (.ext (.t 8) 1),
 m1 6 12,
 m1 7 13]
 (.seq (sr1 [
 m1 14 7,
 o1 15 (.bin .neq (.t 14) (cn 0))]
 (.cond (.t 15)
 (sr1 [
  m1 16 7,
  o1 4 (.mv (.c (.slice none 0 0))),
  m1 5 16]
  .ret)
 .skip))
 (sr1 [
 o1 17 (lt 2 4),
 m1 18 6,
 o1 19 (.call 56 [.t 17,.t 18]),
 m1 4 19,
 o1 5 (.mv (cn 0))]
 .ret))))
def r29:List RV:=[.tmp 4,.tmp 5]
theorem n29:Try.f29.ntmps=20:=by kernel_rfl
theorem b29:Z3 Try.prog 29=true:=by kernel_rfl
theorem ZxZ:YJ Try.prog c29 ((Try.f29.body).getD .skip)=true:=by kernel_rfl
theorem Zy4:Y5 Try.prog r29 Try.f29.results.toList=true:=by kernel_rfl
def c31:SC:=(sr1 [
 o1 2 (.box (.t 0) 0 24),
 o1 4 (.mv (.c (.slice none 0 0))),
 o1 5 (.mv (cn 0))]
 (sr1 [
 o1 20 (lt 2 4),
 m1 21 1,
 o1 22 (.call 47 [.t 20,.t 21]),
 m1 19 22,
 o1 23 (.ext (.t 19) 0),
 o1 24 (.ext (.t 19) 1),
 m1 6 23,
 m1 7 24]
 (.seq (sr1 [
 m1 25 7,
 o1 26 (.bin .neq (.t 25) (cn 0))]
 (.cond (.t 26)
 (sr1 [
  m1 27 7,
  o1 4 (.mv (.c (.slice none 0 0))),
  m1 5 27]
  .ret)
 .skip))
 (sr1 [
 o1 8 (.mv (.c (.slice none 0 0)))]
 (.seq (sr1 [
 m1 28 6,
 o1 29 (.len (.t 28)),
 o1 30 (.mv (cn 0))]
 (.block 0 (.loop (sr1 [
  o1 31 (.bin .lss (.t 30) (.t 29))]
  (.seq (.cond (.t 31)
  .skip
  (.exit 0))
  (.seq (.block 1 (sr1 [
   m1 32 30,
   o1 33 (.ixs (.t 28) (.t 30) 8),
   o1 34 (lt 33 8),
   o1 10 (.alloc zv0 50),
   m1 9 32,
   ⟨none,.st (.t 10) (.t 34) 8,none,[]⟩]
   (sr1 [
   o1 35 (ao 10 7),
   o1 36 (lf 35 1)]
   (.cond (.t 36)
   (.reg [
    m1 37 8,
    m1 38 9,
    o1 39 (.bsl 1 3 [.t 38]),
    o1 40 (.appm 1 8 3 (.t 37) (.t 39)),
    m1 8 40])
   .skip))))
  (.reg [
  o1 41 (.bin .add (.t 30) (cn 1)),
  m1 30 41])))))))
 (.gh (.seq (sr1 [
 m1 42 8,
 o1 43 (.len (.t 42)),
 o1 44 (.bin .gtr (.t 43) (cn 6))]
 (.cond (.t 44)
 (sr1 [
  o1 4 (.mv (.c (.slice none 0 0))),
  o1 5 (.mv (cn 83))]
  .ret)
 .skip))
 (sr1 [
 o1 45 (ao 2 0),
 o1 46 (lf 45 1),
 o1 47 (.len (.t 46)),
 o1 48 (.mks 2 16 [.int .i64 0,.int .i64 0] 70 (.t 47)),
 m1 11 48]
 (.seq (sr1 [
 m1 49 8,
 o1 50 (.len (.t 49)),
 o1 51 (.raw (Go.Op.binOp Go.BinOp.shl 3 (Go.Operand.const (Go.Value.int Go.IntKind.i64 1)) (Go.Operand.tmp 50) 3) 3),
 o1 52 (.mv (cn 0))]
 (.block 2 (.loop (sr1 [
  o1 53 (.bin .lss (.t 52) (.t 51))]
  (.seq (.cond (.t 53)
  .skip
  (.exit 2))
  (.seq (.block 3 (sr1 [
   m1 54 52,
   m1 12 54]
   (sr1 [
   o1 13 (.mv (.c (.slice none 0 0)))]
   (.seq (sr1 [
   m1 55 6,
   o1 56 (.len (.t 55)),
   o1 57 (.mv (cn 0))]
   (.block 4 (.loop (sr1 [
    o1 58 (.bin .lss (.t 57) (.t 56))]
    (.seq (.cond (.t 58)
    .skip
    (.exit 4))
    (.seq (.block 5 (sr1 [
     m1 59 57,
     o1 60 (.ixs (.t 55) (.t 57) 8),
     o1 61 (lt 60 8),
     o1 15 (.alloc zv0 50),
     m1 14 59,
     ⟨none,.st (.t 15) (.t 61) 8,none,[]⟩]
     (sr1 [
     m1 62 8,
     m1 63 14,
     o1 64 (.call 58 [.t 62,.t 63]),
     m1 16 64]
     (sr1 [
     m1 65 16,
     o1 66 (.bin .lss (.t 65) (cn 0)),
     m1 67 66,
     g1 68 67 false (.mv (.t 12)),
     g1 69 67 false (.mv (.t 16)),
     g1 70 67 false (.raw (Go.Op.binOp Go.BinOp.shr 3 (Go.Operand.tmp 68) (Go.Operand.tmp 69) 3) 3),
     g1 71 67 false (.raw (Go.Op.binOp Go.BinOp.and 3 (Go.Operand.tmp 70) (Go.Operand.const (Go.Value.int Go.IntKind.i64 1)) 3) 3),
     g1 72 67 false (.bin .eql (.t 71) (cn 1)),
     o1 73 (.pick (.t 67) (.c (.bool true)) (.t 72))]
     (.cond (.t 73)
     (.reg [
      m1 74 13,
      o1 75 (lt 15 8),
      o1 76 (.bsl 8 50 [.t 75]),
      o1 77 (.appm 8 64 50 (.t 74) (.t 76)),
      m1 13 77])
     .skip)))))
    (.reg [
    o1 78 (.bin .add (.t 57) (cn 1)),
    m1 57 78])))))))
   (.gh (sr1 [
   o1 79 (lt 2 4),
   m1 80 13,
   o1 81 (.call 56 [.t 79,.t 80]),
   o1 82 (.len (.t 81)),
   o1 83 (.mv (cn 0))]
   (.block 6 (.loop (sr1 [
    o1 84 (.bin .lss (.t 83) (.t 82))]
    (.seq (.cond (.t 84)
    .skip
    (.exit 6))
    (.seq (.block 7 (sr1 [
     m1 85 83,
     o1 86 (.ixs (.t 81) (.t 83) 1),
     o1 87 (lf 86 1),
     m1 17 85,
     m1 18 87]
     (.seq (sr1 [
     m1 88 12,
     o1 89 (.bin .eql (.t 88) (cn 0))]
     (.cond (.t 89)
     (.reg [
      m1 90 11,
      m1 91 17,
      m1 92 18,
      m1 93 18,
      o1 94 (.build [.int .i64 0,.int .i64 0] [(0,1,.t 92),(1,1,.t 93)]),
      o1 95 (.ixs (.t 90) (.t 91) 2),
      ⟨none,.st (.t 95) (.t 94) 2,none,[]⟩])
     .skip))
     (.regd [0,1,2,3,4,5,6,7,8,9,10,11,12,13,14,15,16,17,18] [
     .op (m1 96 11),
     .op (m1 97 17),
     .op (m1 98 11),
     .op (m1 99 17),
     .op (p1 100 (.ixs (.t 98) (.t 99) 2) [2,3]),
     .op (p1 101 (ao 100 0) [4]),
     .op (p1 102 (lf 101 1) [5]),
     .op (m1 103 18),
     .op (p1 104 (.mm false [.t 102,.t 103]) [6,7]),
     .op (m1 105 11),
     .op (m1 106 17),
     .op (p1 107 (.ixs (.t 105) (.t 106) 2) [9,10]),
     .op (p1 108 (ao 107 1) [11]),
     .op (p1 109 (lf 108 1) [12]),
     .op (m1 110 18),
     .op (p1 111 (.mm true [.t 109,.t 110]) [13,14]),
     .op (p1 112 (.build [.int .i64 0,.int .i64 0] [(0,1,.t 104),(1,1,.t 111)]) [8,15]),
     .op (p1 113 (.ixs (.t 96) (.t 97) 2) [0,1,2,3,4,5,6,7,8,9,10,11,12,13,14,15,16])] 0 1 [
     ⟨none,.st (.t 113) (.t 112) 2,none,[0,1,2,3,4,5,6,7,8,9,10,11,12,13,14,15,16,17]⟩]))))
    (.reg [
    o1 114 (.bin .add (.t 83) (cn 1)),
    m1 83 114]))))))))))))
  (.gh (.reg [
  o1 115 (.bin .add (.t 52) (cn 1)),
  m1 52 115]))))))))
 (.gh (sr1 [
 m1 116 11,
 m1 4 116,
 o1 5 (.mv (cn 0))]
 .ret)))))))))))
def r31:List RV:=[.tmp 4,.tmp 5]
theorem n31:Try.f31.ntmps=117:=by kernel_rfl
theorem b31:Z3 Try.prog 31=true:=by kernel_rfl
theorem Zz4:YJ Try.prog c31 ((Try.f31.body).getD .skip)=true:=by kernel_rfl
theorem Zx0:Y5 Try.prog r31 Try.f31.results.toList=true:=by kernel_rfl
end Go.Proofs.Ythilckbkffjliaa
namespace Go.Sx
open Go Go.RowKit
section
variable {K V:Type} [DecidableEq K] {k k':K} {v v0:V} {c:Nat} {L:List (Nat × K × V)}
def V1 (c:Nat) (k:K):List (Nat × K × V)->Nat
 | []=>c
 | e :: l=>if e.2.1=k then e.1 else V1 c k l
def Zsm (b:Nat) (v:V):List (Nat × K × V)->List (Nat × K × V)
 | []=>[]
 | e :: l=>if e.1=b then (e.1,e.2.1,v) :: l else e :: Zsm b v l
theorem Zdx:∀ {L:List (Nat × K × V)} {v:V},mget k L=some v->mset c k v L=L
 | [],_,h=>by cases h
 | e :: l,v,h=>by
  simp only [mget] at h
  simp only [mset]
  split
  . rename_i q
    rw [if_pos q] at h
    cases h;subst q;rfl
  . rename_i q
    rw [if_neg q] at h
    rw [Zdx h]
theorem ZfI:∀ {L:List (Nat × K × V)},V1 c k L=c\/∃ e ∈ L,e.1=V1 c k L
 | []=>.inl rfl
 | e :: l=>by
  simp only [V1]
  split
  . exact .inr ⟨e,by simp,rfl⟩
  . rcases ZfI (L:=l) with h | ⟨e',h1,h2⟩
    . exact .inl h
    . exact .inr ⟨e',by simp [h1],h2⟩
theorem Ze9:∀ {L:List (Nat × K × V)},(V1 c k L,k,v) ∈ mset c k v L
 | []=>by simp [mset,V1]
 | e :: l=>by
  simp only [mset,V1]
  split
  . rename_i q;simp
  . simp [Ze9 (L:=l)]
theorem Zc7:∀ {L:List (Nat × K × V)},(L.map (·.1)).Nodup->(∀ e ∈ L,e.1 < c)->Zsm (V1 c k L) v (mset c k v0 L)=mset c k v L
 | [],_,_=>by simp [mset,V1,Zsm]
 | e :: l,hn,hl=>by
  rw [List.map_cons,List.nodup_cons] at hn
  simp only [mset,V1]
  split
  . simp [Zsm]
  . have:e.1≠V1 c k l:=by
     rcases ZfI (c:=c) (k:=k) (L:=l) with h | ⟨e',h1,h2⟩
     . rw [h];have:=hl e (by simp);omega
     . intro q;exact hn.1 (List.mem_map.2 ⟨e',h1,by rw [h2,q]⟩)
    simp only [Zsm,if_neg this]
    rw [Zc7 hn.2 fun e he=>hl e (by simp [he])]
omit [DecidableEq K] in
theorem Zc4 {w:World} {E:Env} {n ok:Nat->Prop} {key:K->Value} {val:V->SV} {b:Nat}:∀ (L:List (Nat × K × V)) (ys:List MapEntry),RM w E n ok (mpS key val L) ys->(∃ e ∈ L,e.1=b) ->
 ∃ j,ys.findIdx? (fun e=>(e.born:Int) == (b:Int))=some j/\∀ {w':World} {ok':Nat->Prop} (v:V) y',R w' E n ok' (val v) y'->RM w' E n ok' (mpS key val L) ys->RM w' E n ok' (mpS key val (Zsm b v L)) (ys.modify j fun e=>{ e with val:=y' })
 | [],ys,h,he=>by obtain ⟨e,he,-⟩:=he;cases he
 | x :: l,ys,h,he=>by
  simp only [mpS,List.map_cons,RM] at h
  obtain ⟨y,r,rfl,h1,h2⟩:=h
  by_cases q:x.1=b
  . refine ⟨0,by simp [List.findIdx?_cons,q],fun {w' ok'} v y' hR h'=>?_⟩
    simp only [mpS,List.map_cons,RM] at h'
    obtain ⟨y0,r0,e0,h3,h4⟩:=h'
    cases e0
    simp only [Zsm,q,if_true,mpS,List.map_cons,RM]
    exact ⟨y',r,by simp [<- q],hR,h4⟩
  . obtain ⟨e,he,hb⟩:=he
    have he':∃ e ∈ l,e.1=b:=by
     rcases List.mem_cons.1 he with rfl | he
     . exact absurd hb q
     . exact ⟨e,he,hb⟩
    obtain ⟨j,g1,g2⟩:=Zc4 l r h2 he'
    refine ⟨j+1,by rw [List.findIdx?_cons,g1];simp;omega,fun {w' ok'} v y' hR h'=>?_⟩
    simp only [mpS,List.map_cons,RM] at h'
    obtain ⟨y0,r0,e0,h3,h4⟩:=h'
    cases e0
    simp only [Zsm,if_neg q,mpS,List.map_cons,RM]
    exact ⟨y,_,by simp,h3,g2 v y' hR h4⟩
theorem Zfs:∀ {L:List (Nat × K × V)} {w:World} {E:Env} {n ok:Nat->Prop} {key:K->Value} {val:V->SV} {ys:List MapEntry} {j:Nat} {e:MapEntry} {i:Nat},RM w E n ok (mpS key val L) ys->fI k (L.map (·.2.1)) ys i=some (i+j,e.val)->ys[j]? = some e->e.born=V1 c k L
 | [],_,_,_,_,_,_,ys,j,e,i,h,hf,he=>by
  simp only [mpS,List.map_nil,RM] at h;subst h;cases he
 | x :: l,w,E,n,ok,key,val,ys,j,e,i,h,hf,he=>by
  simp only [mpS,List.map_cons,RM] at h
  obtain ⟨y,r,rfl,h1,h2⟩:=h
  simp only [List.map_cons,fI] at hf
  simp only [V1]
  by_cases q:x.2.1=k
  . rw [if_pos q] at hf ⊢
    simp only [Option.some.injEq,Prod.mk.injEq] at hf
    have:j=0:=by omega
    subst this
    simp only [List.getElem?_cons_zero,Option.some.injEq] at he
    rw [<- he]
  . rw [if_neg q] at hf ⊢
    cases j with
    | zero =>
     have:∀ (ks:List K) (ys:List MapEntry) (i m:Nat) (v:Value),fI k ks ys i=some (m,v)->i<=m:=by
      intro ks
      induction ks with
      | nil=>intro ys i m v h;simp [fI] at h
      | cons a ks ih =>
       intro ys i m v h
       cases ys with
       | nil=>simp [fI] at h
       | cons b ys =>
        simp only [fI] at h
        split at h
        . simp only [Option.some.injEq,Prod.mk.injEq] at h;omega
        . have:=ih ys (i+1) m v h;omega
     have:=this _ _ _ _ _ hf
     omega
    | succ j =>
     exact Zfs (j:=j) (i:=i+1) h2 (by rw [hf];simp only [Option.some.injEq,Prod.mk.injEq,and_true];omega) (by simpa using he)
end
section
variable {P:Program} {K' V:Type} [DecidableEq K'] {key:K'->Value} {sv:K'->SV} {val:V->SV} {L:List (Nat × K' × V)} {km c:Nat} {kt et t ty:TypeId} {mx ix vx sx:Operand} {σ : St} {r:KT} {K:RK} {d:Option Nat} {k:K'}
theorem Zbw {α : Type} (f g:α->α):∀ (l:List α) (j:Nat) (a:α),l[j]? = some a->f a=g a->l.modify j f=l.modify j g
 | [],_,_,h,_=>by simp at h
 | b :: l,0,a,h,e=>by simp at h;subst h;simp [e]
 | b :: l,j+1,a,h,e=>by simp at h;simp [Zbw f g l j a h e]
theorem Zb8 {v0 v:V} (hm:VJ σ mx = .mp km) (hh:lkh km σ.hp = .map (mpS key val (mset c k v0 L)) (mclk c k L)) (hs:VJ σ sx = .v (.int .i64 (V1 c k L))) (hw:MW L c)
 (hv:VJ σ vx=val v) (hvg:∀ j b u,val v≠.gd j b u) (h:r ⟨σ.fr,(km,.map (mpS key val (mset c k v L)) (mclk c k L)) :: σ.hp,σ.n,σ.N,σ.gs⟩ K) :
 RAW P none (.entryStore t mx sx vx) ty σ r K:=by
 intro o C E a w next Q e1 e2 e3 hS hn hq
 have hmv:=XZ hS hm (fun _ _ _=>by simp)
 have hsv:=XZ hS hs (fun _ _ _=>by simp)
 have hvv:=XZ hS hv hvg
 simp only [R] at hmv hsv
 obtain ⟨g0,ys,g1,g2⟩:=UX hS hh
 obtain ⟨j,f1,f2⟩:=Zc4 (w:=w) (E:=E) (n:=ltn σ.n) (ok:=okS C E σ.hp) (b:=V1 c k L) _ ys.toList g2 ⟨_,Ze9,rfl⟩
 have f1':ys.findIdx? (fun e=>(e.born:Int) == ((V1 c k L:Nat):Int))=some j:=by
  cases ys;simpa using f1
 have hrun:(Instr.entryStore t (a.eval mx) (a.eval sx) (a.eval vx)).run P w = .ok () (WV w (E.β km) (.map (ys.modify j fun e=>{ e with val:=a.eval vx }) (mclk c k L))):=by
  rw [hmv.2,hsv]
  simp only [Instr.entryStore,Sem.run_bind,Z4 g1 rfl,Result.andThen_ok,Sem.run_pure,asInt,asIntOf,f1',YC _ g1 rfl]
 have hx:(execOp a.eval o).run P w = .ok .skip (WV w (E.β km) (.map (ys.modify j fun e=>{ e with val:=a.eval vx }) (mclk c k L))):=by
  obtain ⟨dst',op',ty',pos,after,guard⟩:=o
  simp only at e2;subst e2
  simp only [execOp,Sem.run_bind,hrun,Result.andThen_ok,Sem.run_pure]
 refine Zz hx (by simp) ?_
 show next (a.put o.dst undef) _
 obtain ⟨q1,q2⟩:=XA (k:=km) (hb:=.map (mpS key val (mset c k v L)) (mclk c k L)) (o:=.map (ys.modify j fun e=>{ e with val:=a.eval vx }) (mclk c k L)) hS.hs (fun b=>by rw [hh];simp only [occ]) (fun b=>by simp only [occ]) (fun hlt hst=>by
  simp only [ZZ]
  refine ⟨_,Xc hlt,?_⟩
  rw [Array.toList_modify]
  have:=f2 v _ (ZI hst.c (fun _ _=>Ele.rfl) (fun _ h=>h) _ _ hvv) (Xw hst.c (fun _ _=>Ele.rfl) (fun _ h=>h) _ _ g2)
  rw [Zc7 hw.bn hw.bl] at this
  exact this)
 rw [e1]
 exact hn _ E _ _ h (Yb hS q2 (fun _ _=>Ele.rfl) (Nat.le_refl _) q1)
end
section
variable {P:Program} {ty T T':TypeId} {ix jx:Operand} {σ : St} {r:KT} {K:RK} {d:Option Nat} {s:SV}
def ZdD (P:Program) (T:TypeId):Bool :=
 match P.underlying T with
 | some (.interface _)=>false
 | some _=>true
 | none=>false
theorem ZhX (hT:ZdD P T=true) (hi:VJ σ ix=s) (hg:∀ j b u,s≠.gd j b u) (h:Yy d (.ifc T s) none σ r K):RAW P d (.makeInterface T ix) ty σ r K:=by
 intro o C E a w next Q e1 e2 e3 hS hn hq
 have hiv:=XZ hS hi hg
 have hx:(execOp a.eval o).run P w = .ok (.value (.iface T (a.eval ix))) w:=by
  obtain ⟨dst',op',ty',pos,after,guard⟩:=o
  simp only at e2;subst e2
  unfold ZdD at hT
  cases hu:P.underlying T with
  | none=>rw [hu] at hT;cases hT
  | some u =>
   rw [hu] at hT
   cases u<;>first | exact absurd hT Bool.false_ne_true | simp [execOp,Sem.run_bind,Instr.makeInterface,run_underlying hu,Result.andThen_ok,Sem.run_pure]
 refine Zz hx (by simp) ?_
 show next (a.put o.dst _) _
 rw [e1]
 refine WJ h hS ?_ hn
 simp only [R];exact ⟨_,rfl,hiv⟩
theorem Zjn (hi:VJ σ ix = .ifc T s) (h:K (.pan (.ifc T s)) σ):RAW P d (.panic ix) ty σ r K:=by
 intro o C E a w next Q e1 e2 e3 hS hn hq
 have hiv:=XZ hS hi (fun _ _ _=>by simp)
 simp only [R] at hiv
 obtain ⟨x,hx,hR⟩:=hiv
 have hy:(execOp a.eval o).run P w = .halt (.panic (.iface T x)) w:=by
  obtain ⟨dst',op',ty',pos,after,guard⟩:=o
  simp only at e2;subst e2
  simp [execOp,Sem.run_bind,hx,Instr.panic,goPanic,Result.andThen]
 exact Ziv hy (by rw [e2];simp) (hq _ _ _ _ _ h hS (by simp only [R];exact ⟨x,rfl,hR⟩))
theorem Zeq (hT:ZdD P T=true) (hi:VJ σ ix = .ifc T s) (h:Yy d (.tup [s,.v (.bool true)]) none σ r K):RAW P d (.typeAssert ix T' T true) ty σ r K:=by
 intro o C E a w next Q e1 e2 e3 hS hn hq
 have hiv:=XZ hS hi (fun _ _ _=>by simp)
 simp only [R] at hiv
 obtain ⟨x,hx,hR⟩:=hiv
 have hy:(execOp a.eval o).run P w = .ok (.value (.tuple #[x,.bool true])) w:=by
  obtain ⟨dst',op',ty',pos,after,guard⟩:=o
  simp only at e2;subst e2
  unfold ZdD at hT
  cases hu:P.underlying T with
  | none=>rw [hu] at hT;cases hT
  | some u =>
   rw [hu] at hT
   cases u<;>first | exact absurd hT Bool.false_ne_true | simp [execOp,Sem.run_bind,hx,Instr.typeAssert,run_underlying hu,Result.andThen_ok,Sem.run_pure]
 refine Zz hy (by simp) ?_
 show next (a.put o.dst _) _
 rw [e1]
 refine WJ h hS ?_ hn
 simp only [R,RL];exact ⟨_,rfl,_,_,rfl,hR,_,_,rfl,rfl,rfl⟩
theorem Zrm {pt:TypeId} (hu:P.underlying T'=some (.interface (P.methodsAt T'))) (hi:VJ σ ix = .ifc T s) (h:Yy d (.v (.bool false)) none σ r K):RAW P d (.binOp .eql T' ix (.const .nilIface) pt) ty σ r K:=by
 intro o C E a w next Q e1 e2 e3 hS hn hq
 have hiv:=XZ hS hi (fun _ _ _=>by simp)
 simp only [R] at hiv
 obtain ⟨x,hx,hR⟩:=hiv
 have hb:=run_eql_held_nil (P:=P) w T' T x hu
 have hy:(execOp a.eval o).run P w = .ok (.value (.bool false)) w:=by
  obtain ⟨dst',op',ty',pos,after,guard⟩:=o
  simp only at e2;subst e2
  have h0:a.eval (.const .nilIface) = .nilIface:=rfl
  have hg:(eqGuard .eql T' ix (.const .nilIface) (.iface T x) .nilIface).run P w = .ok () w:=by
   simp [eqGuard,Sem.run_pure]
  simp only [execOp,Sem.run_bind,hx,h0,hg,hb,Result.andThen_ok,Sem.run_pure]
 refine Zz hy (by simp) ?_
 show next (a.put o.dst _) _
 rw [e1]
 exact WJ h hS (by simp only [R]) hn
theorem ZiE {pt:TypeId} (hu:P.underlying T'=some (.interface (P.methodsAt T'))) (hi:VJ σ ix = .v .nilIface) (h:Yy d (.v (.bool true)) none σ r K):RAW P d (.binOp .eql T' ix (.const .nilIface) pt) ty σ r K:=by
 intro o C E a w next Q e1 e2 e3 hS hn hq
 have hx:=XZ hS hi (fun _ _ _=>by simp)
 simp only [R] at hx
 have hb:=run_eql_nil_nil (P:=P) w T' hu
 have hy:(execOp a.eval o).run P w = .ok (.value (.bool true)) w:=by
  obtain ⟨dst',op',ty',pos,after,guard⟩:=o
  simp only at e2;subst e2
  have h0:a.eval (.const .nilIface) = .nilIface:=rfl
  have hg:(eqGuard .eql T' ix (.const .nilIface) .nilIface .nilIface).run P w = .ok () w:=by
   simp [eqGuard,Sem.run_pure]
  simp only [execOp,Sem.run_bind,hx,h0,hg,hb,Result.andThen_ok,Sem.run_pure]
 refine Zz hy (by simp) ?_
 show next (a.put o.dst _) _
 rw [e1]
 exact WJ h hS (by simp only [R]) hn
end
def NK:Nat->Prop:=fun _=>False
theorem V2 {w:World} {E E':Env} {n n' ok:Nat->Prop}:∀ (l:List (Nat × Value × SV)) (ys:List MapEntry),(∀ e ∈ l,KF e.2.2)->RM w E n ok l ys->RM w E' n' ok l ys
 | [],ys,_,h=>by simp only [RM] at h ⊢;exact h
 | e :: l,ys,hk,h=>by
  simp only [RM] at h ⊢
  obtain ⟨y,r,rfl,h1,h2⟩:=h
  exact ⟨y,r,rfl,Zgc _ _ (hk e (by simp)) h1,V2 l r (fun e he=>hk e (by simp [he])) h2⟩
def mqV (es:List (Nat × Value × SV)):VP where
 f w ok y:=∃ b ys c,y = .map (some b)/\ok b/\w.heap[b]? = some (.map ys c)/\RM w E0 NK ok es ys.toList
 one:=by rintro w ok y ⟨b,ys,c,rfl,_⟩;rfl
 mono:=by
  rintro w w' ok ok' y hs ⟨b,ys,c,rfl,h1,h2,h3⟩
  obtain ⟨k1,k2⟩:=hs b h1 (.inr ⟨_,_,h2⟩)
  exact ⟨b,ys,c,rfl,k1,k2.trans h2,Xw hs (fun k hk=>hk.elim) (fun k hk=>hk) _ _ h3⟩
theorem Zji {P:Program} {f:FuncId} {args:List SV} {res:SV} {Zx:Ot->Prop} (h:CtM P f [] 0 args Zx) (ka:KFL args) (kr:KF res)
 (hp:∀ o,Zx o->o.pn=false/\∀ (C:Cx) E w y,(∀ k b,¬ C.pass k b)->HSim C E o.hp (ltn o.n) w->R w E (ltn o.n) (okS C E o.hp) o.res y->R w E0 NK (fun b=>C.okp b\/C.w0.heap.size<=b) res y):Ct P f args res:=by
 refine ⟨h.bd,ka,kr,fun w ok vs hR=>?_⟩
 let C:Cx:=⟨w,ok,fun _ _=>False,[],none,E0,0⟩
 have hS:HSim C E0 [] (ltn 0) w:=⟨fun _ _=>rfl,fun _=>trivial,fun _ _ _ h=>h.elim,fun _ _ h=>h.elim,⟨rfl,rfl,rfl,Nat.le_refl _,fun _ _ _=>rfl⟩,fun k hk=>absurd hk (Nat.not_lt_zero k)⟩
 have hR':RL w E0 (ltn 0) (okS C E0 []) args vs:=ZG (E:=E0) (n:=fun _=>False) (fun b hb _=>⟨⟨.inl hb,fun k ho=>ho⟩,rfl⟩) (fun _ _=>Ele.rfl) (fun k hk=>hk.elim) _ _ hR
 refine (h.run C E0 w vs rfl rfl rfl rfl rfl (fun k b h=>h.elim) Zah hS hR').mono fun e w' ⟨o,E',y,h1,h2,h3,h4⟩=>?_
 obtain ⟨q1,q2⟩:=hp o h1
 refine ⟨y,by rw [h4,q1];rfl,q2 C E' w' y (fun _ _ h=>h) h2 h3,⟨h2.kp.os,h2.kp.tape,h2.kp.output,h2.kp.size,fun b hb=>h2.kp.block b hb (fun k hk=>hk)⟩⟩
theorem mq_of {C:Cx} {E:Env} {hp:List (Nat × HB)} {n:Nat->Prop} {w:World} {k c:Nat} {es:List (Nat × Value × SV)} {y:Value} (hpass:∀ k b,¬ C.pass k b) (hs:HSim C E hp n w) (hk:lkh k hp = .map es c) (hkf:∀ e ∈ es,KF e.2.2)
 (hR:R w E n (okS C E hp) (.mp k) y):R w E0 NK (fun b=>C.okp b\/C.w0.heap.size<=b) (.q (mqV es)) y:=by
 simp only [R] at hR ⊢
 have hb:=hs.bk k
 rw [hk] at hb
 obtain ⟨ys,h1,h2⟩:=hb
 have hlo:C.w0.heap.size<=E.β k:=by
  rcases hs.lo k (E.β k) (by rw [hk];rfl) with h | h
  . exact h
  . exact absurd h (hpass _ _)
 refine ⟨E.β k,ys,c,hR.2,.inr hlo,h1,V2 _ _ hkf (Xw (n':=n) (E':=E) (fun b hb _=>⟨hb.1,rfl⟩) (fun _ _=>Ele.rfl) (fun _ h=>h) _ _ h2)⟩
section
variable {K V:Type} [DecidableEq K] {P:Program} {key:K->Value} {sv:K->SV} {val:V->SV} {L:List (Nat × K × V)} {km c:Nat} {kt et t:TypeId} {σ : St} {k:K} {i j:Nat} {ok:Bool} {zs:SV} {z:Value} {v:V}
theorem ZaC {g:Option (Nat × Bool)} {fr:List (Nat × SV)} {s:SV} (h:∀ j b u,s≠.gd j b u):YQ g fr s=s:=by
 cases s<;>first | rfl | exact absurd rfl (h _ _ _)
theorem Zgp {w:World} {E:Env} {n ok':Nat->Prop} {b:Nat} {ys:Array MapEntry} (g1:w.heap[b]? = some (.map ys c)) (g2:RM w E n ok' (mpS key val L) ys.toList) (ht:P.underlying t=some (.map kt et)) (hK:KeyT P kt key sv)
 (hz:Z5 P et=some z) :
 (mget k L=none/\(Instr.lookup t (.map (some b)) (key k) ok).run P w = .ok (if ok then .tuple #[z,.bool false] else z) w) \/
 ∃ v y,mget k L=some v/\(Instr.lookup t (.map (some b)) (key k) ok).run P w = .ok (if ok then .tuple #[y,.bool true] else y) w/\R w E n ok' (val v) y:=by
 have hfn:=fun w=>hK.fnd k _ _ w (VZ g2)
 rcases VT (w:=w) (E:=E) (n:=n) (ok:=ok') k L ys.toList 0 g2 with ⟨a1,a2,-,-⟩ | ⟨j,v,e,b1,b2,b3,b4,b5,-⟩
 . left
   refine ⟨a1,?_⟩
   simp only [Instr.lookup,Sem.run_bind,run_underlying ht,Result.andThen_ok,Z4 g1 rfl,Sem.run_pure,hK.chk,hfn,a2,XG hz]
 . right
   refine ⟨v,e.val,b1,?_,b5⟩
   simp only [Instr.lookup,Sem.run_bind,run_underlying ht,Result.andThen_ok,Z4 g1 rfl,Sem.run_pure,hK.chk,hfn,b2]
def lkS (ok:Bool) (val:V->SV) (zs:SV):Option V->SV
 | some v=>bif ok then .tup [val v,.v (.bool true)] else val v
 | none=>bif ok then .tup [zs,.v (.bool false)] else zs
theorem Zqk {w:World} {E:Env} {n ok':Nat->Prop} {b:Nat} {ys:Array MapEntry} {o:Oper} {a:Act} {next:Act->World->Prop} {Q:Exit->Act->World->Prop} {rr:Option Nat} (ho:o.op = .lookup t (.tmp i) (.tmp j) ok)
 (g1:w.heap[b]? = some (.map ys c)) (g2:RM w E n ok' (mpS key val L) ys.toList) (ht:P.underlying t=some (.map kt et)) (hK:KeyT P kt key sv) (hz:Z5 P et=some z) (hzR:∀ w E n ok,R w E n ok zs z)
 (hm:a.tmps.getD i undef = .map (some b)) (hi:a.tmps.getD j undef=key k) (hn:∀ y,R w E n ok' (lkS ok val zs (mget k L)) y->next (a.put o.dst y) w):o.wpq rr P a w next Q:=by
 obtain ⟨dst',op',ty',pos,after,guard⟩:=o
 simp only at ho;subst ho
 rcases Zgp (ok:=ok) (k:=k) g1 g2 ht hK hz with ⟨q1,q2⟩ | ⟨v,y,q1,q2,q3⟩
 . refine Zz (x:=.value (if ok then .tuple #[z,.bool false] else z)) (w':=w) ?_ (by simp) ?_
   . show (execOp a.eval _).run P w=_
     simp only [execOp,Act.eval,hm,hi,Sem.run_bind,q2,Result.andThen_ok,Sem.run_pure]
   . refine hn _ ?_
     rw [q1]
     cases ok
     . exact hzR _ _ _ _
     . simp only [lkS,cond_true,if_true,R,RL];exact ⟨_,rfl,_,_,rfl,hzR _ _ _ _,_,_,rfl,rfl,rfl⟩
 . refine Zz (x:=.value (if ok then .tuple #[y,.bool true] else y)) (w':=w) ?_ (by simp) ?_
   . show (execOp a.eval _).run P w=_
     simp only [execOp,Act.eval,hm,hi,Sem.run_bind,q2,Result.andThen_ok,Sem.run_pure]
   . refine hn _ ?_
     rw [q1]
     cases ok
     . exact q3
     . simp only [lkS,cond_true,if_true,R,RL];exact ⟨_,rfl,_,_,rfl,q3,_,_,rfl,rfl,rfl⟩
theorem ZwI (hm:lk i σ.fr = .q (mqV (mpS key val L))) (hkf:∀ e ∈ mpS key val L,KF e.2.2) (hi:lk j σ.fr=sv k) (ht:P.underlying t=some (.map kt et)) (hK:KeyT P kt key sv) (hz:Z5 P et=some z) (hzR:∀ w E n ok,R w E n ok zs z) :
 RBE P (.lookup t (.tmp i) (.tmp j) ok) [.t i,.t j] σ (lkS ok val zs (mget k L)):=by
 intro o ho C E hpX nX a w next Q hx hS hR hn
 have h1:=hR (.t i) (by simp)
 have h2:=hR (.t j) (by simp)
 simp only [rdG,rd,hm,YQ,evX] at h1
 simp only [rdG,rd,hi,evX] at h2
 rw [ZaC (Za4 hK k)] at h2
 have h2:=(hK.svR k _).1 h2
 simp only [R] at h1
 obtain ⟨b,ys,c,e1,e2,e3,e4⟩:=h1
 exact Zqk (E:=E) (n:=nX) (ok':=okS C E hpX) ho e3 (V2 _ _ hkf e4) ht hK hz hzR e1 h2 fun y hy=>hn w y hS (fun b hb _=>⟨hb,rfl⟩) hy
theorem Ui (hm:lk i σ.fr = .mp km) (hh:lkh km σ.hp = .map (mpS key val L) c) (hi:lk j σ.fr=sv k) (ht:P.underlying t=some (.map kt et)) (hK:KeyT P kt key sv) (hz:Z5 P et=some z) (hzR:∀ w E n ok,R w E n ok zs z) :
 RBE P (.lookup t (.tmp i) (.tmp j) ok) [.t i,.t j] σ (lkS ok val zs (mget k L)):=by
 intro o ho C E hpX nX a w next Q hx hS hR hn
 have h1:=hR (.t i) (by simp)
 have h2:=hR (.t j) (by simp)
 simp only [rdG,rd,hm,YQ,evX] at h1
 simp only [rdG,rd,hi,evX] at h2
 rw [ZaC (Za4 hK k)] at h2
 have h2:=(hK.svR k _).1 h2
 simp only [R] at h1
 have hX:lkh km hpX = .map (mpS key val L) c:=by
  rcases hx km with h | h | ⟨φ,h,_⟩
  . rw [hh] at h;cases h
  . rw [h,hh]
  . rw [hh] at h;cases h
 have hb:=hS.bk km
 rw [hX] at hb
 obtain ⟨ys,e3,e4⟩:=hb
 exact Zqk (E:=E) (n:=nX) (ok':=okS C E hpX) ho e3 e4 ht hK hz hzR h1.2 h2 fun y hy=>hn w y hS (fun b hb _=>⟨hb,rfl⟩) hy
def Zdt (key:K->Value) (val:V->SV) (c:Nat) (k:K) (v0:V) (L:List (Nat × K × V)):OP where
 f w ok o:=∃ ys c',o = .map ys c'/\((RM w E0 NK ok (mpS key val L) ys.toList/\c'=c)\/(RM w E0 NK ok (mpS key val (mset c k v0 L)) ys.toList/\c'=mclk c k L))
 mono:=by
  rintro w w' ok ok' o hs ⟨ys,c',rfl,h⟩
  refine ⟨ys,c',rfl,?_⟩
  rcases h with ⟨h,e⟩ | ⟨h,e⟩
  . exact .inl ⟨Xw hs (fun k hk=>hk.elim) (fun k hk=>hk) _ _ h,e⟩
  . exact .inr ⟨Xw hs (fun k hk=>hk.elim) (fun k hk=>hk) _ _ h,e⟩
theorem Zkd {v0:V} (h:∀ e ∈ mpS key val L,KF e.2.2) (h0:KF (val v0)):∀ e ∈ mpS key val (mset c k v0 L),KF e.2.2:=by
 intro e he
 obtain ⟨x,hx,rfl⟩:=List.mem_map.1 he
 rcases ZkE hx with q | q
 . exact h _ (List.mem_map.2 ⟨x,q,rfl⟩)
 . simp only;rw [show x.2.2=v0 from by rw [q]];exact h0
theorem ZtD {C:Cx} {E:Env} {hp:List (Nat × HB)} {n:Nat->Prop} {w:World} {hb:HB} (h:HSim C E hp n w) (h1:∀ b,occ E km (lkh km hp) b↔occ E km hb b) (hg:lkh km hp≠.gone) (h2:ZZ w E n (okS C E hp) km hb):HSim C E ((km,hb) :: hp) n w/\okS C E ((km,hb) :: hp)=okS C E hp:=by
 have ho:∀ k b,occ E k (lkh k ((km,hb) :: hp)) b↔occ E k (lkh k hp) b:=fun k b=>by
  rw [Zm];split
  . rename_i q;subst q;exact (h1 b).symm
  . exact Iff.rfl
 have hok:okS C E ((km,hb) :: hp)=okS C E hp:=by funext b;simp only [okS,ho]
 refine ⟨⟨fun k hk=>?_,fun k=>?_,fun k k' b g1 g2=>h.dj k k' b ((ho k b).1 g1) ((ho k' b).1 g2),fun k b g1=>h.lo k b ((ho k b).1 g1),h.kp,h.pin⟩,hok⟩
 . rw [Zm];split
   . rename_i q;subst q;exact absurd (h.kn k hk) hg
   . exact h.kn k hk
 . rw [Zm];split
   . rename_i q;subst q;rw [hok];exact h2
   . rw [hok];exact h.bk k
theorem ZfY {m:Nat} {v0:V} (hh:lkh km σ.hp = .map (mpS key val L) c) (hkf:∀ e ∈ mpS key val L,KF e.2.2):Ent m σ ⟨σ.fr,(km,.ob (Zdt key val c k v0 L)) :: σ.hp,σ.n,σ.N,σ.gs⟩:=by
 intro C E a w _ h
 obtain ⟨h1,h2⟩:=ZtD (km:=km) (hb:=.ob (Zdt key val c k v0 L)) h.hs (fun b=>by rw [hh];simp only [occ]) (by rw [hh];simp) (by
  have hb:=h.hs.bk km
  rw [hh] at hb
  obtain ⟨ys,e3,e4⟩:=hb
  simp only [ZZ]
  exact ⟨_,e3,ys,c,rfl,.inl ⟨V2 _ _ hkf e4,rfl⟩⟩)
 exact ⟨E,fun t=>by rw [show okS C E ((km,.ob (Zdt key val c k v0 L)) :: σ.hp)=okS C E σ.hp from h2];exact h.fr t,h.sz,(by rw [show DF C E ((km,.ob (Zdt key val c k v0 L)) :: σ.hp) w=DF C E σ.hp w from by funext ds;simp only [DF,h2]];exact h.df),h.gs,h1⟩
theorem ZiU {v0:V} (hv0:v0=(mget k L).getD v) (hm:lk i σ.fr = .mp km) (hh:lkh km σ.hp = .ob (Zdt key val c k v0 L)) (hkf:∀ e ∈ mpS key val L,KF e.2.2) (hk0:KF (val v0)) (hi:lk j σ.fr=sv k) (ht:P.underlying t=some (.map kt et)) (hK:KeyT P kt key sv)
 (hz:Z5 P et=some z) (hzR:∀ w E n ok,R w E n ok (val v) z):RBE P (.lookup t (.tmp i) (.tmp j) false) [.t i,.t j] σ (val v0):=by
 intro o ho C E hpX nX a w next Q hx hS hR hn
 have h1:=hR (.t i) (by simp)
 have h2:=hR (.t j) (by simp)
 simp only [rdG,rd,hm,YQ,evX] at h1
 simp only [rdG,rd,hi,evX] at h2
 rw [ZaC (Za4 hK k)] at h2
 have h2:=(hK.svR k _).1 h2
 simp only [R] at h1
 have hX:ZZ w E nX (okS C E hpX) km (.ob (Zdt key val c k v0 L)):=by
  have hb:=hS.bk km
  rcases hx km with h | h | ⟨φ,h,hi⟩
  . rw [hh] at h;cases h
  . rw [h,hh] at hb;exact hb
  . rw [hh] at h;cases h;exact hi.2 _ _ _ _ _ hb
 simp only [ZZ] at hX
 obtain ⟨_,e1,ys,c',rfl,e2⟩:=hX
 rcases e2 with ⟨e2,rfl⟩ | ⟨e2,rfl⟩
 . refine Zqk (E:=E) (n:=nX) (ok':=okS C E hpX) (L:=L) (zs:=val v) ho e1 (V2 _ _ hkf e2) ht hK hz hzR h1.2 h2 fun y hy=>hn w y hS (fun b hb _=>⟨hb,rfl⟩) ?_
   rw [hv0]
   cases hq:mget k L<;>rw [hq] at hy<;>exact hy
 . refine Zqk (E:=E) (n:=nX) (ok':=okS C E hpX) (L:=mset c k v0 L) (zs:=val v) ho e1 (V2 _ _ (Zkd hkf hk0) e2) ht hK hz hzR h1.2 h2 fun y hy=>hn w y hS (fun b hb _=>⟨hb,rfl⟩) ?_
   rw [mget_set,if_pos rfl] at hy;exact hy
theorem Zf4 {v0:V}:∀ {L:List (Nat × K × V)} {c c':Nat},V1 c' k (mset c k v0 L)=V1 c k L
 | [],c,c'=>by simp [mset,V1]
 | e :: l,c,c'=>by
  simp only [mset,V1]
  split
  . rename_i q;simp [V1]
  . rename_i q;simp only [V1,if_neg q];exact Zf4
theorem Zp5 {v0 v1:V} {L:List (Nat × K × V)} {c c':Nat} (h:v1=v0):mset c' k v1 (mset c k v0 L)=mset c k v0 L:=by
 subst h
 exact Zdx (by rw [mget_set,if_pos rfl])
theorem ZbP {w:World} {E:Env} {n ok':Nat->Prop} {b:Nat} {ys:Array MapEntry} (g1:w.heap[b]? = some (.map ys c)) (g2:RM w E n ok' (mpS key val L) ys.toList) (ht:P.underlying t=some (.map kt et)) (hK:KeyT P kt key sv)
 (hz:Z5 P et=some z) (hzR:∀ w E n ok,R w E n ok (val v) z) :
 ∃ (ys':Array MapEntry) (y:Value),(Instr.mapEntry t (.map (some b)) (key k)).run P w = .ok (.tuple #[y,goInt (V1 c k L)]) (WV w b (.map ys' (mclk c k L)))/\R w E n ok' (val ((mget k L).getD v)) y /\
  ∀ {w':World} {ok'':Nat->Prop},RM w' E n ok'' (mpS key val L) ys.toList->R w' E n ok'' (val ((mget k L).getD v)) y->RM w' E n ok'' (mpS key val (mset c k ((mget k L).getD v) L)) ys'.toList:=by
 have hfn:=fun w=>hK.fnd k _ _ w (VZ g2)
 rcases VT (w:=w) (E:=E) (n:=n) (ok:=ok') k L ys.toList 0 g2 with ⟨a1,a2,-,a4⟩ | ⟨j,v0,e,b1,b2,b3,b4,b5,b6⟩
 . have hc:mclk c k L=c+1:=by simp [mclk,a1]
   have hb:V1 c k L=c:=by
    have:∀ {L:List (Nat × K × V)},mget k L=none->V1 c k L=c:=by
     intro L
     induction L with
     | nil=>intro _;rfl
     | cons e l ih =>
      intro h
      simp only [mget] at h
      simp only [V1]
      split at h
      . cases h
      . rename_i q;rw [if_neg q];exact ih h
    exact this a1
   refine ⟨ys.push ⟨key k,z,c⟩,z,?_,by rw [a1];exact hzR _ _ _ _,fun h1 h2=>by rw [Array.toList_push];exact a4 c _ _ h2 h1⟩
   rw [hb,hc]
   simp only [Instr.mapEntry,Sem.run_bind,run_underlying ht,Result.andThen_ok,Z4 g1 rfl,Sem.run_pure,hK.chk,hfn,a2,XG hz,YC _ g1 rfl]
 . have hc:mclk c k L=c:=by simp [mclk,b1]
   have hb:e.born=V1 c k L:=Zfs (i:=0) g2 b2 b3
   rw [Nat.zero_add] at b2
   have hj:ys[j]? = some e:=by simpa using b3
   have hek:((ys[j]?).map (·.key)).getD (key k)=key k:=by simp [hj,b4]
   have heb:((ys[j]?).map fun x=>(x.born:Int)).getD 0=(e.born:Int):=by simp [hj]
   have heb':((ys[j]?).map (·.born)).getD 0=e.born:=by simp [hj]
   refine ⟨ys.modify j fun e=>{ e with key:=key k },e.val,?_,by rw [b1];exact b5,fun {w' ok''} h1 h2=>?_⟩
   . rw [hc,<- hb]
     simp only [Instr.mapEntry,Sem.run_bind,run_underlying ht,Result.andThen_ok,Z4 g1 rfl,Sem.run_pure,hK.chk,hfn,b2,hek,heb,heb',Instr.keyThatStays,hK.same,if_true,YC _ g1 rfl]
   . rw [Array.toList_modify,show ys.toList.modify j (fun e=>{ e with key:=key k })=ys.toList.modify j (fun e'=>{ e' with key:=key k,val:=e.val }) from Zbw _ _ _ _ _ b3 rfl]
     exact (b6 h1).2 c _ _ h2
theorem ZfJ {h0:HB} {v0:V} (hv0:v0=(mget k L).getD v) (hm:lk i σ.fr = .mp km) (hh:h0 = .ob (Zdt key val c k v0 L)) (hkf:∀ e ∈ mpS key val L,KF e.2.2) (hk0:KF (val v0)) (hi:lk j σ.fr=sv k) (ht:P.underlying t=some (.map kt et)) (hK:KeyT P kt key sv)
 (hz:Z5 P et=some z) (hzR:∀ w E n ok,R w E n ok (val v) z) :
 RBB P (.mapEntry t (.tmp i) (.tmp j)) [.t i,.t j] km h0 (.map (mpS key val (mset c k v0 L)) (mclk c k L)) σ (.tup [val v0,.v (.int .i64 (V1 c k L))]):=by
 intro o ho C E hpX nX a w next Q hpre hS hR hn
 have h1:=hR (.t i) (by simp)
 have h2:=hR (.t j) (by simp)
 simp only [rdG,rd,hm,YQ,evX] at h1
 simp only [rdG,rd,hi,evX] at h2
 rw [ZaC (Za4 hK k)] at h2
 have h2:=(hK.svR k _).1 h2
 simp only [R] at h1
 have hX:=hS.bk km
 rw [hpre,hh] at hX
 simp only [ZZ] at hX
 obtain ⟨_,e1,ys,c',rfl,e2⟩:=hX
 have main:∃ (ys':Array MapEntry) (y:Value),(Instr.mapEntry t (.map (some (E.β km))) (key k)).run P w = .ok (.tuple #[y,goInt (V1 c k L)]) (WV w (E.β km) (.map ys' (mclk c k L)))/\R w E nX (okS C E hpX) (val v0) y /\
  ∀ {w':World} {ok'':Nat->Prop},ZC w w' (okS C E hpX) ok''->RM w' E nX ok'' (mpS key val (mset c k v0 L)) ys'.toList:=by
  rcases e2 with ⟨e2,rfl⟩ | ⟨e2,rfl⟩
  . have e2:=V2 (E':=E) (n':=nX) _ _ hkf e2
    obtain ⟨ys',y,q1,q2,q3⟩:=ZbP (v:=v) e1 e2 ht hK hz hzR
    rw [<- hv0] at q2 q3
    exact ⟨ys',y,q1,q2,fun hst=>q3 (Xw hst.c (fun _ _=>Ele.rfl) (fun _ h=>h) _ _ e2) (ZI hst.c (fun _ _=>Ele.rfl) (fun _ h=>h) _ _ q2)⟩
  . have e2:=V2 (E':=E) (n':=nX) _ _ (Zkd hkf hk0) e2
    obtain ⟨ys',y,q1,q2,q3⟩:=ZbP (v:=v) (k:=k) e1 e2 ht hK hz hzR
    have hg:(mget k (mset c k v0 L)).getD v=v0:=by rw [mget_set,if_pos rfl];rfl
    have hc:mclk (mclk c k L) k (mset c k v0 L)=mclk c k L:=by
     show (bif (mget k (mset c k v0 L)).isSome then _ else _)=_
     rw [mget_set,if_pos rfl];rfl
    rw [hg] at q2 q3
    rw [Zp5 rfl] at q3
    rw [Zf4,hc] at q1
    exact ⟨ys',y,q1,q2,fun hst=>q3 (Xw hst.c (fun _ _=>Ele.rfl) (fun _ h=>h) _ _ e2) (ZI hst.c (fun _ _=>Ele.rfl) (fun _ h=>h) _ _ q2)⟩
 obtain ⟨ys',y,q1,q2,q3⟩:=main
 obtain ⟨s1,s2⟩:=XA (k:=km) (hb:=.map (mpS key val (mset c k v0 L)) (mclk c k L)) (o:=.map ys' (mclk c k L)) hS (fun b=>by rw [hpre,hh];simp only [occ]) (fun b=>by simp only [occ]) (fun hlt hst=>by
  simp only [ZZ]
  exact ⟨ys',Xc hlt,q3 hst⟩)
 obtain ⟨dst',op',ty',pos,after,guard⟩:=o
 simp only at ho;subst ho
 refine Zz (x:=.value (.tuple #[y,goInt (V1 c k L)])) (w':=WV w (E.β km) (.map ys' (mclk c k L))) ?_ (by simp) ?_
 . show (execOp a.eval _).run P w=_
   have h1':a.tmps.getD i undef = .map (some (E.β km)):=h1.2
   simp only [execOp,Act.eval,h1',h2,Sem.run_bind,q1,Result.andThen_ok,Sem.run_pure]
 . refine hn _ _ s1 s2 ?_
   simp only [R,RL,goInt]
   exact ⟨_,rfl,_,_,rfl,ZI s2.c (fun _ _=>Ele.rfl) (fun _ h=>h) _ _ q2,_,_,rfl,rfl,rfl⟩
theorem Zlq {h0:HB} {v0:V} (hh:h0 = .ob (Zdt key val c k v0 L)) (hkf:∀ e ∈ mpS key val L,KF e.2.2) (hk0:KF (val v0)):WK h0 (.map (mpS key val (mset c k v0 L)) (mclk c k L)):=by
 refine ⟨_,hh,fun E k b=>by simp only [occ],fun w E n ok k h=>?_⟩
 simp only [ZZ] at h ⊢
 obtain ⟨ys,e1,e2⟩:=h
 exact ⟨_,e1,ys,_,rfl,.inr ⟨V2 _ _ (Zkd hkf hk0) e2,rfl⟩⟩
end
end Go.Sx
namespace Go.Azalai
def ZyY (k:Int) (x:Letter):Letter :=
 if k=1\/k=2 then ⟨0,0,0,0,0,0,x.rials,false⟩ else if k=3 then ⟨0,0,0,x.who,0,x.animal,0,false⟩ else if k=4\/k=5 then ⟨0,0,0,0,0,x.animal,0,false⟩
 else if k=6 then ⟨0,0,0,0,x.other,x.animal,x.rials,false⟩ else ⟨0,0,0,x.who,x.other,0,x.rials,false⟩
def ZxF (k:Int) (p:Pact) (x:Letter):Bool :=
 if k=3 then atP p x.who else if k=7\/k=8 then atP p x.who && (atP p x.other && decide (x.who≠x.other)) else true
def ZtA (x:Letter):Letter:={ ZyY x.kind x with id:=x.id,day:=x.day,kind:=x.kind,mouth:=x.mouth }
theorem Zr2 {p:Pact} (h:ZA p=true) {k:Int} (ha:atP p k=true):0<=k/\k<=9999:=by
 simp only [ZA,Bool.and_eq_true] at h
 have hi:=(Yd h.1.1.2).1
 simp only [atP,List.any_eq_true,decide_eq_true_eq] at ha
 obtain ⟨y,hy,rfl⟩:=ha
 have:=hi y hy
 omega
theorem ZqI {p:Pact} {x:Letter} (hp:ZA p=true) (hk:x.kind=1\/x.kind=2\/x.kind=3\/x.kind=4\/x.kind=5\/x.kind=6\/x.kind=7\/x.kind=8) :
 ((inR 0 9999 x.id && (inR 0 9999 x.who && (inR 0 9999 x.other && inR 0 9999 x.animal))) && inR 0 100000 x.day && inR 0 10000000 x.rials && ZxF x.kind p x && decide (ZtA x=x))=Zk p x:=by
 have h1:=fun h=>Zr2 (k:=x.who) hp h
 have h2:=fun h=>Zr2 (k:=x.other) hp h
 obtain ⟨id',day,kind,who,other,animal,rials,mouth⟩:=x
 simp only at *
 cases ha:atP p who<;>cases hb:atP p other<;>rw [Bool.eq_iff_iff] <;>
  rcases hk with rfl | rfl | rfl | rfl | rfl | rfl | rfl | rfl<;>simp [Zk,ZxF,ZtA,ZyY,inR,ha,hb]<;>grind
end Go.Azalai
namespace Go.Proofs.Ythilckbkffjliaa
open Go Go.Sx Go.Azalai
theorem Zl7:Try.prog.underlying 120=some (.map 5 126):=by kernel_rfl
theorem u5:Try.prog.underlying 5=some (.int .u8):=by kernel_rfl
theorem Zma:KeyT Try.prog 5 (fun n:Int=>.int .u8 n) (fun n=>.v (.int .u8 n)):=Zsl u5
abbrev kB:Int->Value:=fun n=>.int .u8 n
abbrev Kd3:=FuncId × FuncId × FuncId
def Wq (v:Kd3):SV:=.agg [.cl v.1 [],.cl v.2.1 [],.cl v.2.2 []]
def ZO:List (Nat × Int × Kd3):=[(0,1,(91,90,95)),(1,2,(91,90,96)),(2,3,(97,98,99)),(3,4,(92,90,100)),(4,5,(92,90,101)),(5,6,(102,90,103)),(6,7,(93,94,104)),(7,8,(93,94,105))]
abbrev Zzy:SV:=.q (mqV (mpS kB Wq ZO))
theorem Zay:∀ e ∈ mpS kB Wq ZO,KF e.2.2:=by
 intro e he
 obtain ⟨x,_,rfl⟩:=List.mem_map.1 he
 simp [Wq,KF,KFL]
theorem ks0:mset 0 (1:Int) (91,90,95) (ZO.take 0)=ZO.take 1/\mclk 0 (1:Int) (ZO.take 0)=1:=⟨rfl,rfl⟩
theorem ks1:mset 1 (2:Int) (91,90,96) (ZO.take 1)=ZO.take 2/\mclk 1 (2:Int) (ZO.take 1)=2:=⟨rfl,rfl⟩
theorem ks2:mset 2 (3:Int) (97,98,99) (ZO.take 2)=ZO.take 3/\mclk 2 (3:Int) (ZO.take 2)=3:=⟨rfl,rfl⟩
theorem ks3:mset 3 (4:Int) (92,90,100) (ZO.take 3)=ZO.take 4/\mclk 3 (4:Int) (ZO.take 3)=4:=⟨rfl,rfl⟩
theorem ks4:mset 4 (5:Int) (92,90,101) (ZO.take 4)=ZO.take 5/\mclk 4 (5:Int) (ZO.take 4)=5:=⟨rfl,rfl⟩
theorem ks5:mset 5 (6:Int) (102,90,103) (ZO.take 5)=ZO.take 6/\mclk 5 (6:Int) (ZO.take 5)=6:=⟨rfl,rfl⟩
theorem ks6:mset 6 (7:Int) (93,94,104) (ZO.take 6)=ZO.take 7/\mclk 6 (7:Int) (ZO.take 6)=7:=⟨rfl,rfl⟩
theorem ks7:mset 7 (8:Int) (93,94,105) (ZO.take 7)=ZO.take 8/\mclk 7 (8:Int) (ZO.take 7)=8:=⟨rfl,rfl⟩
theorem ZdW:CtM Try.prog 72 [] 0 [] (fun o=>o=⟨false,.mp 0,[(0,.map (mpS kB Wq ZO) 8)],1⟩):=by
 refine m72 (by simp [hpb]) (fun o ho=>by subst ho;exact ⟨by simp [KX],by simp only [KXP,KXH,and_true];exact Zay⟩) ?_
 dsimp only [c72,r72,go_sem,rA,rM,rS]
 refine XW rfl rfl rfl ?_
 dsimp only [go_sem,rA,rM,rS]
 refine YB (key:=kB) (val:=Wq) (sv:=fun n=>.v (kB n)) (L:=ZO.take 0) (k:=1) (v:=(91,90,95)) (ins:=true) rfl rfl Zl7 Zma rfl rfl (fun _ _ _ e=>by cases e) ?_
 rw [ks0.1,ks0.2]
 dsimp only [go_sem,rA,rM,rS]
 refine YB (key:=kB) (val:=Wq) (sv:=fun n=>.v (kB n)) (L:=ZO.take 1) (k:=2) (v:=(91,90,96)) (ins:=true) rfl rfl Zl7 Zma rfl rfl (fun _ _ _ e=>by cases e) ?_
 rw [ks1.1,ks1.2]
 dsimp only [go_sem,rA,rM,rS]
 refine YB (key:=kB) (val:=Wq) (sv:=fun n=>.v (kB n)) (L:=ZO.take 2) (k:=3) (v:=(97,98,99)) (ins:=true) rfl rfl Zl7 Zma rfl rfl (fun _ _ _ e=>by cases e) ?_
 rw [ks2.1,ks2.2]
 dsimp only [go_sem,rA,rM,rS]
 refine YB (key:=kB) (val:=Wq) (sv:=fun n=>.v (kB n)) (L:=ZO.take 3) (k:=4) (v:=(92,90,100)) (ins:=true) rfl rfl Zl7 Zma rfl rfl (fun _ _ _ e=>by cases e) ?_
 rw [ks3.1,ks3.2]
 dsimp only [go_sem,rA,rM,rS]
 refine YB (key:=kB) (val:=Wq) (sv:=fun n=>.v (kB n)) (L:=ZO.take 4) (k:=5) (v:=(92,90,101)) (ins:=true) rfl rfl Zl7 Zma rfl rfl (fun _ _ _ e=>by cases e) ?_
 rw [ks4.1,ks4.2]
 dsimp only [go_sem,rA,rM,rS]
 refine YB (key:=kB) (val:=Wq) (sv:=fun n=>.v (kB n)) (L:=ZO.take 5) (k:=6) (v:=(102,90,103)) (ins:=true) rfl rfl Zl7 Zma rfl rfl (fun _ _ _ e=>by cases e) ?_
 rw [ks5.1,ks5.2]
 dsimp only [go_sem,rA,rM,rS]
 refine YB (key:=kB) (val:=Wq) (sv:=fun n=>.v (kB n)) (L:=ZO.take 6) (k:=7) (v:=(93,94,104)) (ins:=true) rfl rfl Zl7 Zma rfl rfl (fun _ _ _ e=>by cases e) ?_
 rw [ks6.1,ks6.2]
 dsimp only [go_sem,rA,rM,rS]
 refine YB (key:=kB) (val:=Wq) (sv:=fun n=>.v (kB n)) (L:=ZO.take 7) (k:=8) (v:=(93,94,105)) (ins:=true) rfl rfl Zl7 Zma rfl rfl (fun _ _ _ e=>by cases e) ?_
 rw [ks7.1,ks7.2]
 dsimp only [go_sem,rA,rM,rS]
 refine ⟨_,rfl,?_⟩
 rw [show ZO.take 8=ZO from rfl]
 refine Zo ?_ ?_ ?_ rfl
 . dsimp only [id,go_sem,rA,rM,rS]
   exact ⟨by omega,rfl⟩
 . dsimp only [id,go_sem,rA,rM,rS]
   exact ⟨⟨rfl,Zay⟩,trivial⟩
 . dsimp only [id,go_sem,rA,rM,rS]
   exact ⟨by omega,trivial⟩
theorem Zrq:Ct Try.prog 72 [] Zzy:=by
 refine Zji ZdW trivial trivial ?_
 rintro o rfl
 exact ⟨rfl,fun C E w y h1 h2 h3=>mq_of h1 h2 rfl Zay h3⟩
theorem Zc9 (p:Pact) (x:Letter):Ct Try.prog 90 [.agg (Zh p),.agg (Zc x)] (B true):=by
 refine t90.1 (by simp [Zh,Za,Zc,Zb,KFL,KF]) (by simp [KFL,KF]) ?_
 dsimp only [c90,r90,Zh,Zc,go_sem,rA,rM,rS]
theorem Ze3 (x:Letter):Ct Try.prog 91 [.agg (Zc x)] (.agg (Zc ⟨0,0,0,0,0,0,x.rials,false⟩)):=by
 refine t91.1 (by simp [Zc,KFL,KF]) (by simp [Zc,KFL,KF]) ?_
 dsimp only [c91,r91,Zc,go_sem,rA,rM,rS]
theorem ZeX (x:Letter):Ct Try.prog 92 [.agg (Zc x)] (.agg (Zc ⟨0,0,0,0,0,x.animal,0,false⟩)):=by
 refine t92.1 (by simp [Zc,KFL,KF]) (by simp [Zc,KFL,KF]) ?_
 dsimp only [c92,r92,Zc,go_sem,rA,rM,rS]
theorem ZiK (x:Letter):Ct Try.prog 93 [.agg (Zc x)] (.agg (Zc ⟨0,0,0,x.who,x.other,0,x.rials,false⟩)):=by
 refine t93.1 (by simp [Zc,KFL,KF]) (by simp [Zc,KFL,KF]) ?_
 dsimp only [c93,r93,Zc,go_sem,rA,rM,rS]
theorem Ztg (x:Letter):Ct Try.prog 97 [.agg (Zc x)] (.agg (Zc ⟨0,0,0,x.who,0,x.animal,0,false⟩)):=by
 refine t97.1 (by simp [Zc,KFL,KF]) (by simp [Zc,KFL,KF]) ?_
 dsimp only [c97,r97,Zc,go_sem,rA,rM,rS]
theorem Zvx (x:Letter):Ct Try.prog 102 [.agg (Zc x)] (.agg (Zc ⟨0,0,0,0,x.other,x.animal,x.rials,false⟩)):=by
 refine t102.1 (by simp [Zc,KFL,KF]) (by simp [Zc,KFL,KF]) ?_
 dsimp only [c102,r102,Zc,go_sem,rA,rM,rS]
theorem Zuv (p:Pact) (x:Letter) (hs:YI p):Ct Try.prog 98 [.agg (Zh p),.agg (Zc x)] (B (atP p x.who)):=by
 refine t98.1 (by simp [Zh,Za,Zc,Zb,KFL,KF]) (by simp [KFL,KF]) ?_
 dsimp only [c98,r98,Zh,Zc,go_sem,rA,rM,rS]
 refine call (ZuF p x.who hs) ?_
 dsimp only [go_sem,rA,rM,rS]
 rw [WS]
theorem ZrR (p:Pact) (x:Letter) (hs:YI p):Ct Try.prog 94 [.agg (Zh p),.agg (Zc x)] (B (atP p x.who && (atP p x.other && decide (x.who≠x.other)))):=by
 refine t94.1 (by simp [Zh,Za,Zc,Zb,KFL,KF]) (by simp [KFL,KF]) ?_
 dsimp only [c94,r94,Zh,Zc,go_sem,rA,rM,rS]
 refine call (ZuF p x.who hs) ?_
 dsimp only [go_sem,rA,rM,rS]
 rw [WS]
 repeat (refine gb ?_;dsimp only [go_sem,rA,rM,rS])
 refine call (ZuF p x.other hs) ?_
 dsimp only [go_sem,rA,rM,rS]
 repeat (refine gb ?_;dsimp only [go_sem,rA,rM,rS])
 rw [WS]
 cases atP p x.who<;>cases atP p x.other<;>by_cases h:x.who=x.other<;>simp [h]
theorem Zvq {p:Pact} {x:Letter} (hs:YI p) {v:Kd3} (h:mget x.kind ZO=some v):Ct Try.prog v.1 [.agg (Zc x)] (.agg (Zc (ZyY x.kind x)))/\Ct Try.prog v.2.1 [.agg (Zh p),.agg (Zc x)] (B (ZxF x.kind p x)) /\
 (x.kind=1\/x.kind=2\/x.kind=3\/x.kind=4\/x.kind=5\/x.kind=6\/x.kind=7\/x.kind=8):=by
 have hn:∀ k:Int,x.kind=k->ZyY x.kind x=ZyY k x:=fun k h=>by rw [h]
 have hv:∀ k:Int,x.kind=k->ZxF x.kind p x=ZxF k p x:=fun k h=>by rw [h]
 simp only [mget,ZO] at h
 split at h
 . rename_i q;cases h;rw [hn 1 q.symm,hv 1 q.symm];exact ⟨Ze3 x,Zc9 p x,by omega⟩
 split at h
 . rename_i q;cases h;rw [hn 2 q.symm,hv 2 q.symm];exact ⟨Ze3 x,Zc9 p x,by omega⟩
 split at h
 . rename_i q;cases h;rw [hn 3 q.symm,hv 3 q.symm];exact ⟨Ztg x,Zuv p x hs,by omega⟩
 split at h
 . rename_i q;cases h;rw [hn 4 q.symm,hv 4 q.symm];exact ⟨ZeX x,Zc9 p x,by omega⟩
 split at h
 . rename_i q;cases h;rw [hn 5 q.symm,hv 5 q.symm];exact ⟨ZeX x,Zc9 p x,by omega⟩
 split at h
 . rename_i q;cases h;rw [hn 6 q.symm,hv 6 q.symm];exact ⟨Zvx x,Zc9 p x,by omega⟩
 split at h
 . rename_i q;cases h;rw [hn 7 q.symm,hv 7 q.symm];exact ⟨ZiK x,ZrR p x hs,by omega⟩
 split at h
 . rename_i q;cases h;rw [hn 8 q.symm,hv 8 q.symm];exact ⟨ZiK x,ZrR p x hs,by omega⟩
 . cases h
theorem Zs9 {k:Int} (h:mget k ZO=none):¬ (k=1\/k=2\/k=3\/k=4\/k=5\/k=6\/k=7\/k=8):=by
 rw [W2] at h
 rintro (rfl | rfl | rfl | rfl | rfl | rfl | rfl | rfl)
 . exact h _ (by simp [ZO];exact .inl rfl) rfl
 all_goals (revert h;simp [ZO])
theorem ZlE:Z5 Try.prog 126=some (.agg #[.nilFunc,.nilFunc,.nilFunc]):=by kernel_rfl
abbrev zk:SV:=.agg [.v .nilFunc,.v .nilFunc,.v .nilFunc]
theorem zk_R:∀ w E n ok,R w E n ok zk (.agg #[.nilFunc,.nilFunc,.nilFunc]):=fun w E n ok=>by
 simp only [R,RL];exact ⟨_,rfl,_,_,rfl,rfl,_,_,rfl,rfl,_,_,rfl,rfl,rfl⟩
theorem ZnF (p:Pact) (x:Letter) (hs:YI p) (hp:ZA p=true):Ct Try.prog 66 [.agg (Zh p),.agg (Zc x)] (B (Zk p x)):=by
 refine t66.1 (by simp [Zh,Za,Zc,Zb,KFL,KF]) (by simp [KFL,KF]) ?_
 dsimp only [c66,r66,Zh,Zc,go_sem,rA,rM,rS]
 refine call Zrq ?_
 dsimp only [go_sem,rA,rM,rS]
 have hrv:=fun σ h1 h2=>ZwI (P:=Try.prog) (t:=120) (σ:=σ) (i:=9) (j:=11) (ok:=true) (key:=kB) (val:=Wq) (sv:=fun n=>.v (kB n)) (L:=ZO) (k:=x.kind) (zs:=zk) h1 Zay h2 Zl7 Zma ZlE zk_R
 cases hg:mget x.kind ZO with
 | none =>
  refine ⟨_,hrv _ rfl rfl,?_⟩
  rw [hg]
  dsimp only [lkS,go_sem,rA,rM,rS]
  repeat (refine W3 (by decide) ?_;dsimp only [go_sem,rA,rM,rS])
  refine Zw rfl ?_
  dsimp only [go_sem,rA,rM,rS]
  have:=Zs9 hg
  simp only [not_or] at this
  simp [Zk,this]
 | some v =>
  obtain ⟨k1,k2,k3⟩:=Zvq (p:=p) hs hg
  refine ⟨_,hrv _ rfl rfl,?_⟩
  rw [hg]
  dsimp only [lkS,Wq,go_sem,rA,rM,rS]
  repeat (first | (refine gb ?_;dsimp only [go_sem,rA,rM,rS]) | (refine call (in4 0 9999 _ _ _ _ _) ?_;dsimp only [go_sem,rA,rM,rS]) | (refine call (in1 0 100000 _ _) ?_;dsimp only [go_sem,rA,rM,rS]) | (refine call (in1 0 10000000 _ _) ?_;dsimp only [go_sem,rA,rM,rS]))
  refine call k2 ?_
  dsimp only [go_sem,rA,rM,rS]
  repeat (refine gb ?_;dsimp only [go_sem,rA,rM,rS])
  have hq:=ZqI (x:=x) hp k3
  by_cases hall:((inR 0 9999 x.id && (inR 0 9999 x.who && (inR 0 9999 x.other && inR 0 9999 x.animal))) && inR 0 100000 x.day && inR 0 10000000 x.rials && ZxF x.kind p x)=true
  case neg =>
   refine Zw (by grind) ?_
   dsimp only [go_sem,rA,rM,rS]
   rw [Bool.not_eq_true] at hall
   rw [<- hq,hall];simp
  refine Zu (by grind) ?_
  dsimp only [go_sem,rA,rM,rS]
  refine call k1 ?_
  dsimp only [Zc,go_sem,rA,rM,rS]
  rw [<- hq,hall]
  simp only [Option.some.injEq,SV.v.injEq,Value.bool.injEq,Bool.true_and]
  rw [Bool.eq_iff_iff]
  obtain ⟨id',day,kind,who,other,animal,rials,mouth⟩:=x
  simp [ZtA]
end Go.Proofs.Ythilckbkffjliaa
namespace Go.Azalai
section
variable {α : Type} (key:α->Int)
def ky (l:List α) (i:Nat):Int:=match l[i]? with | some x=>key x | none=>0
def swp (l:List α) (i j:Nat):List α:=match l[i]?,l[j]? with | some x,some y=>(l.set i y).set j x | _,_=>l
theorem ZaJ {l:List α} {i j:Nat} (hi:i < l.length) (hj:j < l.length):swp l i j=(l.set i l[j]).set j l[i]:=by
 unfold swp;rw [List.getElem?_eq_getElem hi,List.getElem?_eq_getElem hj]
theorem Zkq (l:List α) (i j:Nat):(swp l i j).length=l.length:=by unfold swp;split<;>simp
theorem Zcj {l:List α} {i j:Nat} (hi:i < l.length) (hj:j < l.length) (p:Nat):(swp l i j)[p]? = if p=i then l[j]? else if p=j then l[i]? else l[p]?:=by
 rw [ZaJ hi hj]
 by_cases h1:p=j
 . subst h1
   by_cases h2:p=i
   . subst h2;simp [hi]
   . simp [h2,hi,hj]
 . rw [List.getElem?_set_ne (Ne.symm h1)]
   by_cases h2:p=i
   . subst h2;simp [hi,hj]
   . rw [List.getElem?_set_ne (Ne.symm h2),if_neg h2,if_neg h1]
theorem Zff {l:List α} {i j:Nat} (hi:i < l.length) (hj:j < l.length):(swp l i j).Perm l:=by
 rw [ZaJ hi hj];exact List.set_set_perm hi hj
theorem Ze0 {l:List α} {i j:Nat} (hi:i < l.length) (hj:j < l.length) (p:Nat):ky key (swp l i j) p=if p=i then ky key l j else if p=j then ky key l i else ky key l p:=by
 unfold ky;rw [Zcj hi hj]
 by_cases h1:p=i
 . simp only [if_pos h1]
 . by_cases h2:p=j
   . simp only [if_neg h1,if_pos h2]
   . simp only [if_neg h1,if_neg h2]
structure PIn (a b:Nat) (l l':List α):Prop where
 len:l'.length=l.length
 perm:l'.Perm l
 out:∀ i,i < a\/b<=i->l'[i]? = l[i]?
 all:∀ p:α->Prop,(∀ i x,a<=i->i < b->l[i]? = some x->p x)->∀ i x,a<=i->i < b->l'[i]? = some x->p x
theorem PIn.refl (a b:Nat) (l:List α):PIn a b l l:=⟨rfl,.refl _,fun _ _=>rfl,fun _ h=>h⟩
theorem PIn.trans {a b:Nat} {l l' l'':List α} (h:PIn a b l l') (h':PIn a b l' l''):PIn a b l l'' :=
 ⟨h'.len.trans h.len,h'.perm.trans h.perm,fun i hi=>(h'.out i hi).trans (h.out i hi),fun p hp=>h'.all p (h.all p hp)⟩
theorem PIn.mono {a b a' b':Nat} {l l':List α} (h:PIn a b l l') (ha:a'<=a) (hb:b<=b'):PIn a' b' l l':=by
 refine ⟨h.len,h.perm,fun i hi=>h.out i (by omega),fun p hp i x h1 h2 hx=>?_⟩
 by_cases hi:a<=i/\i < b
 . exact h.all p (fun i x q1 q2=>hp i x (by omega) (by omega)) i x hi.1 hi.2 hx
 . rw [h.out i (by omega)] at hx;exact hp i x h1 h2 hx
theorem PIn.swap {a b i j:Nat} {l:List α} (hi:a<=i) (hi':i < b) (hj:a<=j) (hj':j < b) (hb:b<=l.length):PIn a b l (swp l i j):=by
 have h1:i < l.length:=by omega
 have h2:j < l.length:=by omega
 refine ⟨Zkq _ _ _,Zff h1 h2,fun p hp=>?_,fun q hq p x g1 g2 hx=>?_⟩
 . rw [Zcj h1 h2,if_neg (by omega),if_neg (by omega)]
 . rw [Zcj h1 h2] at hx
   split at hx
   . exact hq j x hj hj' hx
   . split at hx
     . exact hq i x hi hi' hx
     . exact hq p x g1 g2 hx
theorem PIn.ky {a b:Nat} {l l':List α} (h:PIn a b l l') {i:Nat} (hi:i < a\/b<=i):ky key l' i=ky key l i:=by unfold Go.Azalai.ky;rw [h.out i hi]
theorem PIn.kall {a b:Nat} {l l':List α} (h:PIn a b l l') (hb:b<=l.length) (p:Int->Prop) (hp:∀ i,a<=i->i < b->p (Go.Azalai.ky key l i)):∀ i,a<=i->i < b->p (Go.Azalai.ky key l' i):=fun i h1 h2=>by
 have hl:i < l'.length:=by rw [h.len];omega
 have:=h.all (fun x=>p (key x)) (fun i x q1 q2 hx=>by have:=hp i q1 q2;unfold Go.Azalai.ky at this;rw [hx] at this;exact this) i l'[i] h1 h2 (List.getElem?_eq_getElem hl)
 unfold Go.Azalai.ky;rw [List.getElem?_eq_getElem hl];exact this
def Srt (a b:Nat) (l:List α):Prop:=∀ i j,a<=i->i < j->j < b->ky key l i<=ky key l j
theorem Srt.le {a b:Nat} {l:List α} (h:Srt key a b l) {i j:Nat} (h1:a<=i) (h2:i<=j) (h3:j < b):ky key l i<=ky key l j:=by
 rcases Nat.lt_or_ge i j with q | q
 . exact h i j h1 q h3
 . rw [show i=j from by omega];exact Int.le_refl _
theorem Srt.join {a c b:Nat} {l:List α} (h1:Srt key a c l) (h2:Srt key c b l) (h:∀ i j,a<=i->i < c->c<=j->j < b->ky key l i<=ky key l j):Srt key a b l:=fun i j g1 g2 g3=>by
 by_cases hj:j < c
 . exact h1 i j g1 g2 hj
 . by_cases hi:i < c
   . exact h i j g1 hi (by omega) g3
   . exact h2 i j (by omega) g2 g3
structure Ins1 (a i j:Nat) (l:List α):Prop where
 up:∀ p q,a<=p->p < q->q<=i->p≠j->q≠j->ky key l p<=ky key l q
 lo:∀ q,j < q->q<=i->ky key l j<=ky key l q
theorem ZdE {a i:Nat} {l:List α} (h:Srt key a i l):Ins1 key a i i l:=⟨fun p q h1 h2 h3 h4 h5=>h p q h1 h2 (by omega),fun q h1 h2=>by omega⟩
theorem Zfm {a i j:Nat} {l:List α} (h:Ins1 key a i j l) (hj:a < j) (hji:j<=i) (hl:i < l.length) (hk:ky key l j < ky key l (j - 1)):Ins1 key a i (j - 1) (swp l j (j - 1)):=by
 have e:=Ze0 key (l:=l) (i:=j) (j:=j - 1) (by omega) (by omega)
 refine ⟨fun p q h1 h2 h3 h4 h5=>?_,fun q h1 h2=>?_⟩
 . rw [e,e,if_neg (c:=p=j - 1) (by omega),if_neg (c:=q=j - 1) (by omega)]
   by_cases hp:p=j
   . subst hp;rw [if_pos rfl,if_neg (by omega)];exact h.up _ _ (by omega) (by omega) h3 (by omega) (by omega)
   . rw [if_neg hp]
     by_cases hq:q=j
     . subst hq;rw [if_pos rfl];exact h.up _ _ h1 (by omega) (by omega) (by omega) (by omega)
     . rw [if_neg hq];exact h.up _ _ h1 h2 h3 hp hq
 . rw [e,e,if_neg (c:=j - 1=j) (by omega),if_pos rfl]
   by_cases hq:q=j
   . subst hq;rw [if_pos rfl];omega
   . rw [if_neg hq,if_neg (by omega)];exact h.lo q (by omega) h2
theorem ZcC {a i j:Nat} {l:List α} (h:Ins1 key a i j l) (hji:j<=i) (hj:j<=a\/ky key l (j - 1)<=ky key l j):Srt key a (i+1) l:=fun p q h1 h2 h3=>by
 by_cases hp:p=j
 . subst hp;exact h.lo q h2 (by omega)
 . by_cases hq:q=j
   . subst hq
     rcases hj with hj | hj
     . omega
     . by_cases hp1:p=q - 1
       . rw [hp1];exact hj
       . have:=h.up p (q - 1) h1 (by omega) (by omega) hp (by omega)
         omega
   . exact h.up p q h1 h2 (by omega) hp hq
end
def swR (a b n:Nat) (K:Nat->Int):Nat->Int:=fun p=>if a<=p/\p < a+n then K (p+b - a) else if b<=p/\p < b+n then K (p+a - b) else K p
def ZbH (a m b:Nat) (K:Nat->Int):Nat->Int:=fun p=>if a<=p/\p < a+(b - m) then K (p+(m - a)) else if a+(b - m)<=p/\p < b then K (p - (b - m)) else K p
theorem swR_0 (a b:Nat) (K:Nat->Int) (p:Nat):swR a b 0 K p=K p:=by
 unfold swR;rw [if_neg (by omega),if_neg (by omega)]
theorem Zpm {a b n:Nat} {K:Nat->Int} (hab:a+n < b) (p:Nat):swR a b (n+1) K p=if p=a+n then swR a b n K (b+n) else if p=b+n then swR a b n K (a+n) else swR a b n K p:=by
 unfold swR
 by_cases h1:p=a+n
 . subst h1
   rw [if_pos (by omega),if_pos rfl,if_neg (by omega),if_neg (by omega)];congr 1;omega
 . rw [if_neg h1]
   by_cases h2:p=b+n
   . subst h2
     rw [if_neg (by omega),if_pos (by omega),if_pos rfl,if_neg (by omega),if_neg (by omega)];congr 1;omega
   . rw [if_neg h2]
     by_cases h3:a<=p/\p < a+n
     . rw [if_pos (by omega),if_pos h3]
     . rw [if_neg (by omega),if_neg h3]
       by_cases h4:b<=p/\p < b+n
       . rw [if_pos (by omega),if_pos h4]
       . rw [if_neg (by omega),if_neg h4]
structure RotI (m i j:Nat) (K T:Nat->Int):Prop where
 out:∀ p,p < m - i\/m+j<=p->K p=T p
 x:∀ p,m - i<=p->p < m - i+j->T p=K (p+i)
 y:∀ p,m - i+j<=p->p < m+j->T p=K (p - j)
theorem ZjY {a m b:Nat} {K:Nat->Int} (h1:a<=m) (h2:m<=b):RotI m (m - a) (b - m) K (ZbH a m b K):=by
 have e:m - (m - a)=a:=by omega
 refine ⟨fun p hp=>?_,fun p q1 q2=>?_,fun p q1 q2=>?_⟩<;>unfold ZbH<;>rw [e] at *
 . rw [if_neg (by omega),if_neg (by omega)]
 . rw [if_pos (by omega)]
 . rw [if_neg (by omega),if_pos (by omega)]
theorem ZyE {m i j:Nat} {K T:Nat->Int} (h:RotI m i j K T) (hi:i<=m) (hj:0 < j) (hij:j < i):RotI m (i - j) j (swR (m - i) m j K) T:=by
 refine ⟨fun p hp=>?_,fun p q1 q2=>?_,fun p q1 q2=>?_⟩<;>unfold swR
 . by_cases h1:m - i<=p/\p < m - i+j
   . rw [if_pos h1,h.x p h1.1 h1.2];congr 1;omega
   . rw [if_neg h1,if_neg (by omega)];exact h.out p (by omega)
 . rw [if_neg (by omega),if_pos (by omega),h.y p (by omega) (by omega)];congr 1;omega
 . rw [if_neg (by omega),if_neg (by omega),h.y p (by omega) (by omega)]
theorem ZyT {m i j:Nat} {K T:Nat->Int} (h:RotI m i j K T) (hi:i<=m) (hi0:0 < i) (hij:i < j):RotI m i (j - i) (swR (m - i) (m+j - i) i K) T:=by
 refine ⟨fun p hp=>?_,fun p q1 q2=>?_,fun p q1 q2=>?_⟩<;>unfold swR
 . by_cases h1:m+j - i<=p/\p < m+j
   . rw [if_neg (by omega),if_pos (by omega),h.y p (by omega) (by omega)];congr 1;omega
   . rw [if_neg (by omega),if_neg (by omega)];exact h.out p (by omega)
 . rw [if_neg (by omega),if_neg (by omega)];exact h.x p (by omega) (by omega)
 . rw [if_pos (by omega),h.x p (by omega) (by omega)];congr 1;omega
theorem ZAT {m i:Nat} {K T:Nat->Int} (h:RotI m i i K T) (hi:i<=m) (p:Nat):swR (m - i) m i K p=T p:=by
 unfold swR
 by_cases h1:m - i<=p/\p < m - i+i
 . rw [if_pos h1,h.x p h1.1 h1.2];congr 1;omega
 . by_cases h2:m<=p/\p < m+i
   . rw [if_neg h1,if_pos h2,h.y p (by omega) (by omega)];congr 1;omega
   . rw [if_neg h1,if_neg h2];exact h.out p (by omega)
def ZhK (a b:Nat) (K:Nat->Int):Prop:=∀ i j,a<=i->i < j->j < b->K i<=K j
theorem ZhK.le {a b:Nat} {K:Nat->Int} (h:ZhK a b K) {i j:Nat} (h1:a<=i) (h2:i<=j) (h3:j < b):K i<=K j:=by
 rcases Nat.lt_or_ge i j with q | q
 . exact h i j h1 q h3
 . rw [show i=j from by omega];exact Int.le_refl _
structure Cut (a m b n s:Nat) (K:Nat->Int):Prop where
 s0:a<=s
 s1:s<=m
 e0:m+s<=n
 e1:n<=b+s
 mid:2 * (n - m)<=a+b/\a+b<=2 * (n - m)+1
 lo:a < s->n < b+s->K (s - 1)<=K (n - s)
 hi:s < m->m+s < n->K (n - s - 1)<=K s
theorem ZfC {a m b n s:Nat} {K:Nat->Int} (h:Cut a m b n s K) (h1:ZhK a m K) (h2:ZhK m b K) :
 ZhK a s (ZbH s m (n - s) K)/\ZhK s (n - m) (ZbH s m (n - s) K)/\ZhK (n - m) (n - s) (ZbH s m (n - s) K)/\ZhK (n - s) b (ZbH s m (n - s) K) /\
  ∀ i j,a<=i->i < n - m->n - m<=j->j < b->ZbH s m (n - s) K i<=ZbH s m (n - s) K j:=by
 obtain ⟨q1,q2,q3,q4,q5,q6,q7⟩:=h
 have e:s+(n - s - m)=n - m:=by omega
 have v1:∀ p,p < s->ZbH s m (n - s) K p=K p:=fun p hp=>by unfold ZbH;rw [if_neg (by omega),if_neg (by omega)]
 have v2:∀ p,s<=p->p < n - m->ZbH s m (n - s) K p=K (p+(m - s)):=fun p g1 g2=>by unfold ZbH;rw [if_pos (by omega)]
 have v3:∀ p,n - m<=p->p < n - s->ZbH s m (n - s) K p=K (p - (n - s - m)):=fun p g1 g2=>by unfold ZbH;rw [if_neg (by omega),if_pos (by omega)]
 have v4:∀ p,n - s<=p->ZbH s m (n - s) K p=K p:=fun p g1=>by unfold ZbH;rw [if_neg (by omega),if_neg (by omega)]
 refine ⟨fun i j g1 g2 g3=>?_,fun i j g1 g2 g3=>?_,fun i j g1 g2 g3=>?_,fun i j g1 g2 g3=>?_,fun i j g1 g2 g3 g4=>?_⟩
 . rw [v1 i (by omega),v1 j (by omega)];exact h1 i j g1 g2 (by omega)
 . rw [v2 i (by omega) (by omega),v2 j (by omega) (by omega)];exact h2 _ _ (by omega) (by omega) (by omega)
 . rw [v3 i (by omega) (by omega),v3 j (by omega) (by omega)];exact h1 _ _ (by omega) (by omega) (by omega)
 . rw [v4 i (by omega),v4 j (by omega)];exact h2 _ _ (by omega) g2 g3
 . by_cases hi:i < s
   . rw [v1 i hi]
     by_cases hj:j < n - s
     . rw [v3 j g3 hj];exact h1.le g1 (by omega) (by omega)
     . rw [v4 j (by omega)]
       exact Int.le_trans (h1.le g1 (j:=s - 1) (by omega) (by omega)) (Int.le_trans (q6 (by omega) (by omega)) (h2.le (i:=n - s) (by omega) (by omega) g4))
   . rw [v2 i (by omega) g2]
     by_cases hj:j < n - s
     . rw [v3 j g3 hj]
       exact Int.le_trans (h2.le (j:=n - s - 1) (by omega) (by omega) (by omega)) (Int.le_trans (q7 (by omega) (by omega)) (h1.le (i:=s) (by omega) (by omega) (by omega)))
     . rw [v4 j (by omega)];exact h2.le (by omega) (by omega) g4
def LO:Type:={ x:Letter // 0<=x.id/\x.id<=9999 }
def loK (x:LO):Int:=x.1.day * 10000+x.1.id
def lo0:LO:=⟨⟨0,0,0,0,0,0,0,false⟩,by decide⟩
end Go.Azalai
namespace Go.Proofs.Ythilckbkffjliaa
open Go Go.Sx Go.Azalai
def loL (x:LO):List SV:=[I x.1.id,I x.1.day,U8 x.1.kind,I x.1.who,I x.1.other,I x.1.animal,I x.1.rials,B x.1.mouth]
abbrev byH:HB:=.cells [.sl true 1 [[.cl 68 []],[.cl 69 []]]] 140
def Xh (v:Nat) (l:List LO):Ot:=⟨false,.tup [],[(0,.row v 8 (l.map loL) 50),(1,byH)],2⟩
theorem ZkJ (v a b n:Nat) (l:List LO) (hab:a+n<=b) (hb:b+n<=l.length) (hL:l.length < 4611686018427387904) :
 CtM Try.prog 120 [(0,.row v 8 (l.map loL) 50),(1,byH)] 2 [.mr 0 v,I a,I b,I n,.cl 88 [.p 1 0]] (fun o=>∃ l',PIn a (b+n) l l'/\(∀ p,ky loK l' p=swR a b n (ky loK l) p)/\o=Xh v l'):=by
 refine m120 (by simp [hpb]) (fun o ho=>by obtain ⟨l',_,_,rfl⟩:=ho;simp [Xh,byH,KX,KXL,KXP,KXH,Zb,KFR,KFL,KF,loL]) ?_
 dsimp only [c120,r120,go_sem,rA,rM,rS]
 refine Yf (fun s:Nat × List LO=>[(10,I s.1)]) (fun s=>[(0,.row v 8 (s.2.map loL) 50)]) (fun s=>s.1<=n/\PIn a (b+n) l s.2/\∀ p,ky loK s.2 p=swR a b s.1 (ky loK l) p) (fun s=>n - s.1) (0,l) ⟨Nat.zero_le _,.refl _ _ _,fun p=>(swR_0 _ _ _ _).symm⟩ ?_ ?_
 . (refine Zi ?_ ?_ ?_ rfl rfl<;>dsimp only [loL,id,go_sem,rA,rM,rS]<;>simp [loL,Zb,Ze,KFR,KFL,KF,Zd,mtO,nbr])
 rintro ⟨j,l1⟩ ⟨hj,hp,hk⟩
 simp only at hj hp hk
 have hl1:=hp.len
 dsimp only [go_sem,rA,rM,rS]
 by_cases hlt:j < n
 . refine Zw (by simpa using hlt) ?_
   (repeat first | dsimp only [go_sem,rA,rM,rS] | simp only [nbr])
   simp (disch:=omega) only [Zf,List.length_map]
   refine Yl (b+j) (by omega) (by omega) ?_
   (repeat first | dsimp only [go_sem,rA,rM,rS] | simp only [nbr])
   refine Xt (by omega) ?_
   (repeat first | dsimp only [loL,go_sem,rA,rM,rS] | simp only [nbr])
   simp (disch:=omega) only [Zf,List.length_map]
   refine Yl (a+j) (by omega) (by omega) ?_
   (repeat first | dsimp only [go_sem,rA,rM,rS] | simp only [nbr])
   refine Xt (by omega) ?_
   (repeat first | dsimp only [loL,go_sem,rA,rM,rS] | simp only [nbr])
   refine Yl (a+j) (by omega) (by simp;omega) ?_
   (repeat first | dsimp only [go_sem,rA,rM,rS] | simp only [nbr])
   refine WT l1[b+j] (by omega) (by simp [loL]) (by simp [loL,Zn]) ?_
   (repeat first | dsimp only [go_sem,rA,rM,rS] | simp only [nbr])
   refine Yl (b+j) (Zf (by omega) (by omega)) (by simp;omega) ?_
   (repeat first | dsimp only [go_sem,rA,rM,rS] | simp only [nbr])
   refine WT l1[a+j] (by simp;omega) (by simp [loL]) (by simp [loL,Zn]) ?_
   rw [<- ZaJ (l:=l1) (i:=a+j) (j:=b+j) (by omega) (by omega)]
   (repeat first | dsimp only [go_sem,rA,rM,rS] | simp only [nbr])
   rw [Zf (n:=(j:Int)+1) (by omega) (by omega)]
   refine ⟨(j+1,swp l1 (a+j) (b+j)),⟨hlt,hp.trans (.swap (by omega) (by omega) (by omega) (by omega) (by omega)),fun p=>?_⟩,by simp only;omega,?_⟩
   . rw [Ze0 loK (by omega) (by omega),Zpm (by omega),hk,hk,hk]
   (refine Zi ?_ ?_ ?_ rfl rfl<;>dsimp only [loL,id,go_sem,rA,rM,rS]<;>simp [loL,Zb,Ze,KFR,KFL,KF,Zd,mtO,nbr])
 refine Zu (by simp;omega) ?_
 dsimp only [go_sem,rA,rM,rS]
 refine ⟨_,⟨l1,hp,fun p=>by rw [hk p,show j=n from by omega],rfl⟩,?_⟩
 simp only [Xh]
 (refine Zo ?_ ?_ ?_ rfl<;>dsimp only [loL,id,go_sem,rA,rM,rS]<;>simp [loL,Zb,Ze,KFR,KFL,KF,Zd,mtO,nbr])
theorem Zsi (v a m b:Nat) (l:List LO) (ham:a < m) (hmb:m < b) (hb:b<=l.length) (hL:l.length < 4611686018427387904) :
 CtM Try.prog 118 [(0,.row v 8 (l.map loL) 50),(1,byH)] 2 [.mr 0 v,I a,I m,I b,.cl 88 [.p 1 0]] (fun o=>∃ l',PIn a b l l'/\(∀ p,ky loK l' p=ZbH a m b (ky loK l) p)/\o=Xh v l'):=by
 refine m118 (by simp [hpb]) (fun o ho=>by obtain ⟨l',_,_,rfl⟩:=ho;simp [Xh,byH,KX,KXL,KXP,KXH,Zb,KFR,KFL,KF,loL]) ?_
 dsimp only [c118,r118,go_sem,rA,rM,rS]
 rw [Zf (n:=(m:Int) - (a:Int)) (by omega) (by omega),Zf (n:=(b:Int) - (m:Int)) (by omega) (by omega),show (m:Int) - (a:Int)=((m - a:Nat):Int) from by omega,show (b:Int) - (m:Int)=((b - m:Nat):Int) from by omega]
 refine Yf (fun s:Nat × Nat × List LO=>[(10,I s.1),(11,I s.2.1)]) (fun s=>[(0,.row v 8 (s.2.2.map loL) 50)]) (fun s=>(0 < s.1/\0 < s.2.1/\a+s.1<=m/\m+s.2.1<=b)/\PIn a b l s.2.2/\RotI m s.1 s.2.1 (ky loK s.2.2) (ZbH a m b (ky loK l))) (fun s=>s.1+s.2.1) (m - a,b - m,l) ⟨by simp only;omega,.refl _ _ _,ZjY (by omega) (by omega)⟩ ?_ ?_
 . (refine Zi ?_ ?_ ?_ rfl rfl<;>dsimp only [loL,id,go_sem,rA,rM,rS]<;>simp [loL,Zb,Ze,KFR,KFL,KF,Zd,mtO,nbr])
 rintro ⟨i,j,l1⟩ ⟨⟨hi0,hj0,hi,hj⟩,hp,hk⟩
 simp only at hi0 hj0 hi hj hp hk
 have hl1:=hp.len
 dsimp only [go_sem,rA,rM,rS]
 by_cases hij:i=j
 case pos =>
  subst hij
  refine Zu (by simp) ?_
  dsimp only [go_sem,rA,rM,rS]
  rw [Zf (n:=(m:Int) - (i:Int)) (by omega) (by omega),show (m:Int) - (i:Int)=((m - i:Nat):Int) from by omega]
  refine Zs [0,1] (ZkJ v (m - i) m i l1 (by omega) (by omega) (by omega)) rfl rfl rfl ?_ ?_ ?_
  . (repeat first | dsimp only [go_sem,rA,rM,rS] | simp only [nbr])
    simp [mtL,mtB,mtS]
  . (repeat first | dsimp only [go_sem,rA,rM,rS] | simp only [nbr])
    simp [Zb,KFR,loL,KFL,KF]
  rintro _ ⟨l2,hp2,hk2,rfl⟩
  (repeat first | dsimp only [Xh,go_sem,rA,rM,rS] | simp only [nbr])
  refine ⟨_,⟨l2,hp.trans (hp2.mono (by omega) (by omega)),fun p=>by rw [hk2 p];exact ZAT hk (by omega) p,rfl⟩,?_⟩
  (refine Zo ?_ ?_ ?_ rfl<;>dsimp only [loL,id,go_sem,rA,rM,rS]<;>simp [loL,Zb,Ze,KFR,KFL,KF,Zd,mtO,nbr])
 refine Zw (by simp;omega) ?_
 dsimp only [go_sem,rA,rM,rS]
 by_cases hgt:j < i
 . refine Zw (by simp;omega) ?_
   dsimp only [go_sem,rA,rM,rS]
   rw [Zf (n:=(m:Int) - (i:Int)) (by omega) (by omega),show (m:Int) - (i:Int)=((m - i:Nat):Int) from by omega]
   refine Zs [0,1] (ZkJ v (m - i) m j l1 (by omega) (by omega) (by omega)) rfl rfl rfl ?_ ?_ ?_
   . (repeat first | dsimp only [go_sem,rA,rM,rS] | simp only [nbr])
     simp [mtL,mtB,mtS]
   . (repeat first | dsimp only [go_sem,rA,rM,rS] | simp only [nbr])
     simp [Zb,KFR,loL,KFL,KF]
   rintro _ ⟨l2,hp2,hk2,rfl⟩
   (repeat first | dsimp only [Xh,go_sem,rA,rM,rS] | simp only [nbr])
   rw [Zf (n:=(i:Int) - (j:Int)) (by omega) (by omega),show (i:Int) - (j:Int)=((i - j:Nat):Int) from by omega]
   refine ⟨(i - j,j,l2),⟨by simp only;omega,hp.trans (hp2.mono (by omega) (by omega)),?_⟩,by simp only;omega,?_⟩
   . have:=ZyE hk (by omega) hj0 hgt
     rwa [<- show ky loK l2=swR (m - i) m j (ky loK l1) from funext hk2] at this
   (refine Zi ?_ ?_ ?_ rfl rfl<;>dsimp only [loL,id,go_sem,rA,rM,rS]<;>simp [loL,Zb,Ze,KFR,KFL,KF,Zd,mtO,nbr])
 refine Zu (by simp;omega) ?_
 dsimp only [go_sem,rA,rM,rS]
 simp (disch:=omega) only [Zf]
 rw [show (m:Int) - (i:Int)=((m - i:Nat):Int) from by omega,show (m:Int)+(j:Int) - (i:Int)=((m+j - i:Nat):Int) from by omega]
 refine Zs [0,1] (ZkJ v (m - i) (m+j - i) i l1 (by omega) (by omega) (by omega)) rfl rfl rfl ?_ ?_ ?_
 . (repeat first | dsimp only [go_sem,rA,rM,rS] | simp only [nbr])
   simp [mtL,mtB,mtS]
 . (repeat first | dsimp only [go_sem,rA,rM,rS] | simp only [nbr])
   simp [Zb,KFR,loL,KFL,KF]
 rintro _ ⟨l2,hp2,hk2,rfl⟩
 (repeat first | dsimp only [Xh,go_sem,rA,rM,rS] | simp only [nbr])
 rw [Zf (n:=(j:Int) - (i:Int)) (by omega) (by omega),show (j:Int) - (i:Int)=((j - i:Nat):Int) from by omega]
 refine ⟨(i,j - i,l2),⟨by simp only;omega,hp.trans (hp2.mono (by omega) (by omega)),?_⟩,by simp only;omega,?_⟩
 . have:=ZyT hk (by omega) hi0 (by omega)
   rwa [<- show ky loK l2=swR (m - i) (m+j - i) i (ky loK l1) from funext hk2] at this
 (refine Zi ?_ ?_ ?_ rfl rfl<;>dsimp only [loL,id,go_sem,rA,rM,rS]<;>simp [loL,Zb,Ze,KFR,KFL,KF,Zd,mtO,nbr])
end Go.Proofs.Ythilckbkffjliaa
namespace Go.Azalai
theorem Xo {α : Type} (key:α->Int) {l:List α} {i:Nat} (h:i < l.length):ky key l i=key l[i]:=by unfold ky;rw [List.getElem?_eq_getElem h]
def UB (a b:Int):Int:=if a < b then -1 else if b < a then 1 else 0
end Go.Azalai
namespace Go.Proofs.Ythilckbkffjliaa
open Go Go.Sx Go.Azalai
theorem Zr7 (a:Int):Ct Try.prog 110 [I a] (B false):=by
 refine t110.1 (by simp [KFL,KF]) (by simp [KFL,KF]) ?_
 dsimp only [c110,r110,go_sem,rA,rM,rS]
 simp
theorem ZrT (a b:Int):Ct Try.prog 89 [I a,I b] (I (UB a b)):=by
 refine t89.1 (by simp [KFL,KF]) (by simp [KFL,KF]) ?_
 dsimp only [c89,r89,go_sem,rA,rM,rS]
 refine call (Zr7 a) ?_
 dsimp only [go_sem,rA,rM,rS]
 refine call (Zr7 b) ?_
 dsimp only [go_sem,rA,rM,rS]
 refine Zu rfl ?_
 dsimp only [go_sem,rA,rM,rS]
 refine Zu rfl ?_
 dsimp only [go_sem,rA,rM,rS]
 by_cases h1:a < b
 . refine Zw (by simpa using h1) ?_
   dsimp only [go_sem,rA,rM,rS]
   simp [UB,h1]
 refine Zu (by simpa using h1) ?_
 dsimp only [go_sem,rA,rM,rS]
 by_cases h2:b < a
 . refine Zw (by simpa using h2) ?_
   dsimp only [go_sem,rA,rM,rS]
   simp [UB,h1,h2]
 refine Zu (by simpa using h2) ?_
 dsimp only [go_sem,rA,rM,rS]
 simp [UB,h1,h2]
theorem ZrG (x:LO):Ct Try.prog 68 [.agg (loL x)] (I x.1.day):=by
 refine t68.1 (by simp [loL,KFL,KF]) (by simp [KFL,KF]) ?_
 dsimp only [c68,r68,loL,go_sem,rA,rM,rS]
theorem Zsn (x:LO):Ct Try.prog 69 [.agg (loL x)] (I x.1.id):=by
 refine t69.1 (by simp [loL,KFL,KF]) (by simp [KFL,KF]) ?_
 dsimp only [c69,r69,loL,go_sem,rA,rM,rS]
theorem ZAK (x y:LO):(if UB x.1.day y.1.day=0 then UB x.1.id y.1.id else UB x.1.day y.1.day)=UB (loK x) (loK y):=by
 have hx:=x.2
 have hy:=y.2
 unfold UB loK
 rcases Int.lt_trichotomy x.1.day y.1.day with h | h | h
 . simp only [if_pos h]
   rw [if_neg (by decide),if_pos (by omega)]
 . simp only [h,Int.lt_irrefl,if_false,if_true]
   repeat' split
   all_goals omega
 . have h':¬ x.1.day < y.1.day:=by omega
   simp only [if_neg h',if_pos h]
   rw [if_neg (by decide),if_neg (by omega),if_pos (by omega)]
theorem UM (x y:LO):Ct Try.prog 88 [.agg (loL x),.agg (loL y),.ps [.sl true 1 [[.cl 68 []],[.cl 69 []]]] 0] (I (UB (loK x) (loK y))):=by
 refine t88.1 (by simp [loL,KFR,KFL,KF]) (by simp [KFL,KF]) ?_
 rw [<- ZAK]
 dsimp only [c88,r88,loL,go_sem,rA,rM,rS]
 refine Zkx 3 ?_
 dsimp only [ZU,go_sem,rA,rM,rS]
 refine Zw (by decide) ?_
 dsimp only [ZU,go_sem,rA,rM,rS]
 refine ixs 0 [.cl 68 []] rfl rfl ?_
 dsimp only [ZU,go_sem,rA,rM,rS]
 refine call (ZrG x) ?_
 dsimp only [ZU,go_sem,rA,rM,rS]
 refine call (ZrG y) ?_
 dsimp only [ZU,go_sem,rA,rM,rS]
 refine call (ZrT _ _) ?_
 dsimp only [ZU,go_sem,rA,rM,rS]
 by_cases h0:UB x.1.day y.1.day=0
 case neg =>
  refine Zw (by simpa using h0) ?_
  dsimp only [ZU,go_sem,rA,rM,rS]
  rw [if_neg h0]
 refine Zu (by simpa using h0) ?_
 dsimp only [ZU,go_sem,rA,rM,rS]
 refine Zw (by decide) ?_
 dsimp only [ZU,go_sem,rA,rM,rS]
 refine ixs 1 [.cl 69 []] rfl rfl ?_
 dsimp only [ZU,go_sem,rA,rM,rS]
 refine call (Zsn x) ?_
 dsimp only [ZU,go_sem,rA,rM,rS]
 refine call (Zsn y) ?_
 dsimp only [ZU,go_sem,rA,rM,rS]
 refine call (ZrT _ _) ?_
 dsimp only [ZU,go_sem,rA,rM,rS]
 rw [if_pos h0]
 by_cases h1:UB x.1.id y.1.id=0
 case neg =>
  refine Zw (by simpa using h1) ?_
  dsimp only [ZU,go_sem,rA,rM,rS]
 refine Zu (by simpa using h1) ?_
 dsimp only [ZU,go_sem,rA,rM,rS]
 refine Zu (by decide) ?_
 dsimp only [ZU,go_sem,rA,rM,rS]
 rw [h1]
theorem Zh0 (v a b:Nat) (l:List LO) (hab:a<=b) (hb:b<=l.length) (hL:l.length < 4611686018427387904) :
 CtM Try.prog 115 [(0,.row v 8 (l.map loL) 50),(1,byH)] 2 [.mr 0 v,I a,I b,.cl 88 [.p 1 0]] (fun o=>∃ l',PIn a b l l'/\Srt loK a b l'/\o=Xh v l'):=by
 refine m115 (by simp [hpb]) (fun o ho=>by obtain ⟨l',_,_,rfl⟩:=ho;simp [Xh,byH,KX,KXL,KXP,KXH,Zb,KFR,KFL,KF,loL]) ?_
 dsimp only [c115,r115,go_sem,rA,rM,rS]
 rw [Zf (n:=(a:Int)+1) (by omega) (by omega)]
 refine Yf (fun s:Nat × List LO=>[(8,I (s.1:Nat))]) (fun s=>[(0,.row v 8 (s.2.map loL) 50)]) (fun s=>(a < s.1/\s.1<=max b (a+1))/\PIn a b l s.2/\Srt loK a s.1 s.2) (fun s=>b - s.1) (a+1,l) ⟨by simp only;omega,.refl _ _ _,fun i j h1 h2 h3=>by simp only at h3;omega⟩ ?_ ?_
 . (refine Zi ?_ ?_ ?_ rfl rfl<;>dsimp only [loL,id,go_sem,rA,rM,rS]<;>simp [loL,Zb,Ze,KFR,KFL,KF,Zd,mtO,nbr])
 rintro ⟨i,l1⟩ ⟨⟨hi0,hi⟩,hp,hs⟩
 simp only at hi0 hi hp hs
 have hl1:=hp.len
 dsimp only [go_sem,rA,rM,rS]
 by_cases hib:i < b
 case neg =>
  refine Zu (by simp;omega) ?_
  dsimp only [go_sem,rA,rM,rS]
  refine ⟨_,⟨l1,hp,fun p q g1 g2 g3=>hs p q g1 g2 (by omega),rfl⟩,?_⟩
  simp only [Xh]
  (refine Zo ?_ ?_ ?_ rfl<;>dsimp only [loL,id,go_sem,rA,rM,rS]<;>simp [loL,Zb,Ze,KFR,KFL,KF,Zd,mtO,nbr])
 refine Zw (by simpa using hib) ?_
 dsimp only [go_sem,rA,rM,rS]
 refine Yf (fun s:Nat × List LO=>[(9,I (s.1:Nat))]) (fun s=>[(0,.row v 8 (s.2.map loL) 50)]) (fun s=>(a<=s.1/\s.1<=i)/\PIn a b l s.2/\Ins1 loK a i s.1 s.2) (fun s=>s.1) (i,l1) ⟨by simp only;omega,hp,ZdE loK hs⟩ ?_ ?_
 . (refine Zi ?_ ?_ ?_ rfl rfl<;>dsimp only [loL,id,go_sem,rA,rM,rS]<;>simp [loL,Zb,Ze,KFR,KFL,KF,Zd,mtO,nbr])
 rintro ⟨j,l2⟩ ⟨⟨hj0,hj⟩,hp2,hs2⟩
 simp only at hj0 hj hp2 hs2
 have hl2:=hp2.len
 dsimp only [go_sem,rA,rM,rS]
 by_cases hja:a < j
 case neg =>
  rw [show decide ((j:Int) > (a:Int))=false from by simp;omega]
  repeat (refine gb ?_;(repeat first | dsimp only [go_sem,rA,rM,rS] | simp only [nbr]))
  refine Zc2 0 rfl (fun h=>by cases h) ?_
  (repeat first | dsimp only [go_sem,rA,rM,rS] | simp only [nbr])
  refine gb ?_
  (repeat first | dsimp only [go_sem,rA,rM,rS] | simp only [nbr])
  refine ⟨loL lo0,Zjh rfl (fun h=>by cases h),?_⟩
  (repeat first | dsimp only [loL,go_sem,rA,rM,rS] | simp only [nbr])
  repeat (refine gb ?_;(repeat first | dsimp only [go_sem,rA,rM,rS] | simp only [nbr]))
  refine Zc2 0 rfl (fun h=>by cases h) ?_
  (repeat first | dsimp only [go_sem,rA,rM,rS] | simp only [nbr])
  refine gb ?_
  (repeat first | dsimp only [go_sem,rA,rM,rS] | simp only [nbr])
  refine ⟨loL lo0,Zjh rfl (fun h=>by cases h),?_⟩
  (repeat first | dsimp only [loL,go_sem,rA,rM,rS] | simp only [nbr])
  refine gb ?_
  (repeat first | dsimp only [go_sem,rA,rM,rS] | simp only [nbr])
  refine Zal (by simp [FLT]) (res:=I (UB (loK lo0) (loK lo0))) (by (repeat first | dsimp only [loL,go_sem,rA,rM,rS] | simp only [nbr]);exact UM _ _) ?_
  (repeat first | dsimp only [go_sem,rA,rM,rS] | simp only [nbr])
  refine gb ?_
  (repeat first | dsimp only [go_sem,rA,rM,rS] | simp only [nbr])
  refine Zu rfl ?_
  (repeat first | dsimp only [go_sem,rA,rM,rS] | simp only [nbr])
  rw [Zf (n:=(i:Int)+1) (by omega) (by omega)]
  refine ⟨(i+1,l2),⟨by simp only;omega,hp2,ZcC loK hs2 hj (.inl (by omega))⟩,by simp only;omega,?_⟩
  (refine Zi ?_ ?_ ?_ rfl rfl<;>dsimp only [loL,id,go_sem,rA,rM,rS]<;>simp [loL,Zb,Ze,KFR,KFL,KF,Zd,mtO,nbr])
 rw [show decide ((j:Int) > (a:Int))=true from by simp;omega]
 repeat (refine .inl ⟨rfl,?_⟩;(repeat first | dsimp only [go_sem,rA,rM,rS] | simp only [nbr]))
 refine Yl j rfl (by simp;omega) ?_
 (repeat first | dsimp only [go_sem,rA,rM,rS] | simp only [nbr])
 refine .inl ⟨rfl,?_⟩
 (repeat first | dsimp only [go_sem,rA,rM,rS] | simp only [nbr])
 refine Xt (by omega) ?_
 (repeat first | dsimp only [loL,go_sem,rA,rM,rS] | simp only [nbr])
 repeat (refine .inl ⟨rfl,?_⟩;(repeat first | dsimp only [go_sem,rA,rM,rS] | simp only [nbr]))
 rw [Zf (n:=(j:Int) - 1) (by omega) (by omega)]
 refine Yl (j - 1) (by omega) (by simp;omega) ?_
 (repeat first | dsimp only [go_sem,rA,rM,rS] | simp only [nbr])
 refine .inl ⟨rfl,?_⟩
 (repeat first | dsimp only [go_sem,rA,rM,rS] | simp only [nbr])
 refine Xt (by omega) ?_
 (repeat first | dsimp only [loL,go_sem,rA,rM,rS] | simp only [nbr])
 repeat (refine .inl ⟨rfl,?_⟩;(repeat first | dsimp only [go_sem,rA,rM,rS] | simp only [nbr]))
 refine Zal (by simp [FLT]) (res:=I (UB (loK l2[j]) (loK l2[j - 1]))) (by (repeat first | dsimp only [loL,go_sem,rA,rM,rS] | simp only [nbr]);exact UM _ _) ?_
 (repeat first | dsimp only [go_sem,rA,rM,rS] | simp only [nbr])
 repeat (refine .inl ⟨rfl,?_⟩;(repeat first | dsimp only [go_sem,rA,rM,rS] | simp only [nbr]))
 by_cases hlt:loK l2[j] < loK l2[j - 1]
 case neg =>
  refine Zu (by simp [UB,hlt];split<;>decide) ?_
  (repeat first | dsimp only [go_sem,rA,rM,rS] | simp only [nbr])
  have hkk:ky loK l2 (j - 1)<=ky loK l2 j:=by rw [Xo loK (l:=l2) (i:=j - 1) (by omega),Xo loK (l:=l2) (i:=j) (by omega)];exact Int.not_lt.1 hlt
  rw [Zf (n:=(i:Int)+1) (by omega) (by omega)]
  refine ⟨(i+1,l2),⟨by simp only;omega,hp2,ZcC loK hs2 hj (.inr hkk)⟩,by simp only;omega,?_⟩
  (refine Zi ?_ ?_ ?_ rfl rfl<;>dsimp only [loL,id,go_sem,rA,rM,rS]<;>simp [loL,Zb,Ze,KFR,KFL,KF,Zd,mtO,nbr])
 refine Zw (by simp [UB,hlt]) ?_
 (repeat first | dsimp only [go_sem,rA,rM,rS] | simp only [nbr])
 have hkk:ky loK l2 j < ky loK l2 (j - 1):=by rw [Xo loK (l:=l2) (i:=j - 1) (by omega),Xo loK (l:=l2) (i:=j) (by omega)];exact hlt
 rw [Zf (n:=(j:Int) - 1) (by omega) (by omega)]
 refine Yl (j - 1) (by omega) (by simp;omega) ?_
 (repeat first | dsimp only [go_sem,rA,rM,rS] | simp only [nbr])
 refine Xt (by omega) ?_
 (repeat first | dsimp only [loL,go_sem,rA,rM,rS] | simp only [nbr])
 refine Yl j rfl (by simp;omega) ?_
 (repeat first | dsimp only [go_sem,rA,rM,rS] | simp only [nbr])
 refine Xt (by omega) ?_
 (repeat first | dsimp only [loL,go_sem,rA,rM,rS] | simp only [nbr])
 refine Yl j rfl (by simp;omega) ?_
 (repeat first | dsimp only [go_sem,rA,rM,rS] | simp only [nbr])
 refine WT l2[j - 1] (by omega) (by simp [loL]) (by simp [loL,Zn]) ?_
 (repeat first | dsimp only [go_sem,rA,rM,rS] | simp only [nbr])
 refine Yl (j - 1) (by first | omega | (rw [Zf (by omega) (by omega)];omega)) (by simp;omega) ?_
 (repeat first | dsimp only [go_sem,rA,rM,rS] | simp only [nbr])
 refine WT l2[j] (by simp;omega) (by simp [loL]) (by simp [loL,Zn]) ?_
 rw [<- ZaJ (l:=l2) (i:=j) (j:=j - 1) (by omega) (by omega)]
 (repeat first | dsimp only [go_sem,rA,rM,rS] | simp only [nbr])
 try rw [Zf (n:=(j:Int) - 1) (by omega) (by omega)]
 rw [show (j:Int) - 1=((j - 1:Nat):Int) from by omega]
 refine ⟨(j - 1,swp l2 j (j - 1)),⟨by simp only;omega,hp2.trans (.swap (by omega) (by omega) (by omega) (by omega) (by omega)),Zfm loK hs2 hja hj (by omega) hkk⟩,by simp only;omega,?_⟩
 (refine Zi ?_ ?_ ?_ rfl rfl<;>dsimp only [loL,id,go_sem,rA,rM,rS]<;>simp [loL,Zb,Ze,KFR,KFL,KF,Zd,mtO,nbr])
end Go.Proofs.Ythilckbkffjliaa
namespace Go.Azalai
structure Srch (p s0 r0 s r:Nat) (K:Nat->Int):Prop where
 lo:∀ c,s0<=c->c < s->K c<=K (p - c)
 hi:∀ c,r<=c->c < r0->K (p - c) < K c
theorem Zb2 (p s0 r0:Nat) (K:Nat->Int):Srch p s0 r0 s0 r0 K:=⟨fun c h1 h2=>by omega,fun c h1 h2=>by omega⟩
theorem ZiS {a m b p s0 r0 s r c:Nat} {K:Nat->Int} (h:Srch p s0 r0 s r K) (h1:ZhK a m K) (h2:ZhK m b K) (ha:a<=s0) (hr:r0<=m) (hp:∀ c,s0<=c->c < r0->m<=p - c/\p - c < b) (hc:s<=c) (hcr:c < r) (hrr:r<=r0) (hk:K c<=K (p - c)) (hs:s0<=s):Srch p s0 r0 (c+1) r K:=by
 refine ⟨fun c' g1 g2=>?_,h.hi⟩
 have q1:=hp c' g1 (by omega)
 have q2:=hp c (by omega) (by omega)
 exact Int.le_trans (h1.le (by omega) (show c'<=c by omega) (by omega)) (Int.le_trans hk (h2.le (by omega) (by omega) (by omega)))
theorem Zdc {a m b p s0 r0 s r c:Nat} {K:Nat->Int} (h:Srch p s0 r0 s r K) (h1:ZhK a m K) (h2:ZhK m b K) (ha:a<=s0) (hr:r0<=m) (hp:∀ c,s0<=c->c < r0->m<=p - c/\p - c < b) (hc:s<=c) (hcr:c < r) (hrr:r<=r0) (hk:K (p - c) < K c) (hs:s0<=s):Srch p s0 r0 s c K:=by
 refine ⟨h.lo,fun c' g1 g2=>?_⟩
 have q1:=hp c' (by omega) g2
 have q2:=hp c (by omega) (by omega)
 have e1:=h2.le (i:=p - c') (j:=p - c) (by omega) (by omega) (by omega)
 have e2:=h1.le (i:=c) (j:=c') (by omega) (by omega) (by omega)
 omega
theorem Zsc {a m b mid s:Nat} {K:Nat->Int} (ham:a < m) (hmb:m < b) (h1:2 * mid<=a+b) (h2:a+b<=2 * mid+1) (s0 r0:Nat) (hs0:s0=if m > mid then mid+m - b else a) (hr0:r0=if m > mid then mid else m)
 (hs:s0<=s) (hr:s<=r0) (h:Srch (mid+m - 1) s0 r0 s s K):Cut a m b (mid+m) s K:=by
 by_cases hm:m > mid
 . rw [if_pos hm] at hs0 hr0
   subst hs0;subst hr0
   refine ⟨by omega,by omega,by omega,by omega,by omega,fun g1 g2=>?_,fun g1 g2=>?_⟩
   . have:=h.lo (s - 1) (by omega) (by omega)
     rwa [show r0+m - 1 - (s - 1)=r0+m - s from by omega] at this
   . have:=h.hi s (Nat.le_refl _) (by omega)
     rw [show r0+m - 1 - s=r0+m - s - 1 from by omega] at this
     exact Int.le_of_lt this
 . rw [if_neg hm] at hs0 hr0
   subst hs0;subst hr0
   refine ⟨by omega,by omega,by omega,by omega,by omega,fun g1 g2=>?_,fun g1 g2=>?_⟩
   . have:=h.lo (s - 1) (by omega) (by omega)
     rwa [show mid+r0 - 1 - (s - 1)=mid+r0 - s from by omega] at this
   . have:=h.hi s (Nat.le_refl _) (by omega)
     rw [show mid+r0 - 1 - s=mid+r0 - s - 1 from by omega] at this
     exact Int.le_of_lt this
section
variable {α : Type} (key:α->Int)
structure Cutd (a i mid e b:Nat) (l:List α):Prop where
 o1:a<=i
 o2:i<=mid
 o3:mid<=e
 o4:e<=b
 s1:Srt key a i l
 s2:Srt key i mid l
 s3:Srt key mid e l
 s4:Srt key e b l
 x:∀ p q,a<=p->p < mid->mid<=q->q < b->ky key l p<=ky key l q
structure CutL (a mid e b:Nat) (l:List α):Prop where
 o1:a<=mid
 o3:mid<=e
 o4:e<=b
 s1:Srt key a mid l
 s3:Srt key mid e l
 s4:Srt key e b l
 x:∀ p q,a<=p->p < mid->mid<=q->q < b->ky key l p<=ky key l q
theorem Zcv {a m b mid i:Nat} {l l1:List α} (h:Cut a m b (mid+m) i (ky key l)) (h1:Srt key a m l) (h2:Srt key m b l) (hk:∀ p,ky key l1 p=ZbH i m (mid+m - i) (ky key l) p):Cutd key a i mid (mid+m - i) b l1:=by
 have e:=ZfC h h1 h2
 rw [show mid+m - m=mid from by omega] at e
 obtain ⟨q0,q1,q2,q3,q4,q5,q6⟩:=h
 have ek:ky key l1=ZbH i m (mid+m - i) (ky key l):=funext hk
 refine ⟨by omega,by omega,by omega,by omega,?_,?_,?_,?_,?_⟩<;>(try unfold Srt)<;>rw [ek]
 . exact e.1
 . exact e.2.1
 . exact e.2.2.1
 . exact e.2.2.2.1
 . exact e.2.2.2.2
theorem Zlw {a m b mid i:Nat} {l:List α} (h:Cut a m b (mid+m) i (ky key l)) (h1:Srt key a m l) (h2:Srt key m b l) (hn:¬ (i < m/\m < mid+m - i)):Cutd key a i mid (mid+m - i) b l:=by
 refine Zcv key h h1 h2 fun p=>?_
 obtain ⟨q0,q1,q2,q3,q4,q5,q6⟩:=h
 unfold ZbH
 by_cases c1:i<=p/\p < i+(mid+m - i - m)
 . rw [if_pos c1];congr 1;omega
 . rw [if_neg c1]
   by_cases c2:i+(mid+m - i - m)<=p/\p < mid+m - i
   . rw [if_pos c2];congr 1;omega
   . rw [if_neg c2]
theorem Zaw {a i mid e b:Nat} {l l2:List α} (h:Cutd key a i mid e b l) (hp:PIn a mid l l2) (hs:Srt key a mid l2) (hb:b<=l.length):CutL key a mid e b l2:=by
 obtain ⟨o1,o2,o3,o4,s1,s2,s3,s4,x⟩:=h
 have ke:∀ q,mid<=q->ky key l2 q=ky key l q:=fun q hq=>hp.ky key (.inr hq)
 refine ⟨by omega,o3,o4,hs,fun p q g1 g2 g3=>?_,fun p q g1 g2 g3=>?_,fun p q g1 g2 g3 g4=>?_⟩
 . rw [ke p g1,ke q (by omega)];exact s3 p q g1 g2 g3
 . rw [ke p (by omega),ke q (by omega)];exact s4 p q g1 g2 g3
 . rw [ke q g3]
   exact hp.kall key (by omega) (fun k=>k<=ky key l q) (fun p q1 q2=>x p q q1 q2 g3 g4) p g1 g2
theorem ZcA {a i mid e b:Nat} {l:List α} (h:Cutd key a i mid e b l) (hn:¬ (a < i/\i < mid)):CutL key a mid e b l:=by
 obtain ⟨o1,o2,o3,o4,s1,s2,s3,s4,x⟩:=h
 refine ⟨by omega,o3,o4,fun p q g1 g2 g3=>?_,s3,s4,x⟩
 by_cases hq:a < i
 . exact s1 p q g1 g2 (by omega)
 . exact s2 p q (by omega) g2 g3
theorem W5 {a mid e b:Nat} {l l2:List α} (h:CutL key a mid e b l) (hp:PIn mid b l l2) (hs:Srt key mid b l2) (hb:b<=l.length):Srt key a b l2:=by
 obtain ⟨o1,o3,o4,s1,s3,s4,x⟩:=h
 have ke:∀ q,q < mid->ky key l2 q=ky key l q:=fun q hq=>hp.ky key (.inl hq)
 refine Srt.join key (c:=mid) (fun p q g1 g2 g3=>?_) hs (fun p q g1 g2 g3 g4=>?_)
 . rw [ke p (by omega),ke q g3];exact s1 p q g1 g2 g3
 . rw [ke p g2]
   exact hp.kall key hb (fun k=>ky key l p<=k) (fun q q1 q2=>x p q g1 g2 q1 q2) q g3 g4
theorem Zae {a mid e b:Nat} {l:List α} (h:CutL key a mid e b l) (hn:¬ (mid < e/\e < b)):Srt key a b l:=by
 obtain ⟨o1,o3,o4,s1,s3,s4,x⟩:=h
 refine Srt.join key (c:=mid) s1 (fun p q g1 g2 g3=>?_) x
 by_cases hq:mid < e
 . exact s3 p q g1 g2 (by omega)
 . exact s4 p q (by omega) g2 g3
end
end Go.Azalai
namespace Go.Proofs.Ythilckbkffjliaa
open Go Go.Sx Go.Azalai
theorem uwn {n:Int} (h0:0<=n) (h1:n < 18446744073709551616):IntKind.u64.wrap n=n:=by
 have e:n % 2 ^ IntKind.u64.bits=n:=Int.emod_eq_of_lt h0 (by show n < 2 ^ 64;omega)
 simp only [IntKind.wrap,e,show IntKind.u64.signed=false from rfl,Bool.false_and]
 rfl
theorem Ug (m:Int) (q0:0<=m) (w:World):(binOp .shr 158 (.int .u64 m) (.int .u64 1)).run Try.prog w = .ok (.int .u64 (m / 2)) w:=by
 simp only [binOp,Op.shift]
 rw [if_neg (by decide)]
 have:m.fdiv (2 ^ 1)=m / 2:=by rw [Int.fdiv_eq_ediv_of_nonneg _ (by decide)];rfl
 show Result.ok (Value.int .u64 (m.fdiv (2 ^ (min (1:Int).toNat IntKind.u64.bits)))) w=_
 rw [show min (1:Int).toNat IntKind.u64.bits=1 from by decide,this]
theorem ZrV (v N:Nat):∀ (a m b:Nat) (l:List LO),b - a<=N->a < m->m < b->b<=l.length->l.length < 4611686018427387904->Srt loK a m l->Srt loK m b l ->
 CtM Try.prog 116 [(0,.row v 8 (l.map loL) 50),(1,byH)] 2 [.mr 0 v,I a,I m,I b,.cl 88 [.p 1 0]] (fun o=>∃ l',PIn a b l l'/\Srt loK a b l'/\o=Xh v l'):=by
 induction N with
 | zero=>intro a m b l h1 h2 h3;omega
 | succ N ih =>
 intro a m b l hN ham hmb hb hL hs1 hs2
 refine m116 (by simp [hpb]) (fun o ho=>by obtain ⟨l',_,_,rfl⟩:=ho;simp [Xh,byH,KX,KXL,KXP,KXH,Zb,KFR,KFL,KF,loL]) ?_
 dsimp only [c116,r116,go_sem,rA,rM,rS]
 rw [Zf (n:=(m:Int) - (a:Int)) (by omega) (by omega)]
 by_cases hm1:m=a+1
 . refine Zw (by simp;omega) ?_
   dsimp only [go_sem,rA,rM,rS]
   refine Yf (fun s:Nat × Nat=>[(10,I (s.1:Nat)),(11,I (s.2:Nat))]) (fun _=>[]) (fun s=>m<=s.1/\s.1<=s.2/\s.2<=b/\(∀ c,m<=c->c < s.1->ky loK l c < ky loK l a)/\∀ c,s.2<=c->c < b->ky loK l a<=ky loK l c) (fun s=>s.2 - s.1) (m,b) ⟨Nat.le_refl _,by simp only;omega,Nat.le_refl _,fun c h1 h2=>by simp only at h2;omega,fun c h1 h2=>by simp only at h1;omega⟩ ?_ ?_
   . (refine Zi ?_ ?_ ?_ rfl rfl<;>dsimp only [loL,id,go_sem,rA,rM,rS]<;>simp [loL,Zb,Ze,KFR,KFL,KF,Zd,mtO,nbr])
   rintro ⟨i,j⟩ ⟨hi,hij,hj,hlo,hhi⟩
   simp only at hi hij hj hlo hhi
   dsimp only [go_sem,rA,rM,rS]
   by_cases hlt:i < j
   . refine Zw (by simpa using hlt) ?_
     dsimp only [go_sem,rA,rM,rS]
     simp (disch:=omega) only [Zf]
     rw [uwn (by omega) (by omega)]
     refine Zbv rfl (.inr rfl) (Ug _ (by omega)) rfl ?_
     dsimp only [go_sem,rA,rM,rS]
     obtain ⟨h,hh⟩:∃ h:Nat,((i:Int)+(j:Int)) / 2=(h:Int):=⟨(i+j) / 2,by omega⟩
     rw [hh,Zf (n:=(h:Int)) (by omega) (by omega)]
     have hih:i<=h/\h < j:=by omega
     (repeat first | dsimp only [go_sem,rA,rM,rS] | simp only [nbr])
     refine Yl h rfl (by simp;omega) ?_
     (repeat first | dsimp only [go_sem,rA,rM,rS] | simp only [nbr])
     refine Xt (by omega) ?_
     (repeat first | dsimp only [loL,go_sem,rA,rM,rS] | simp only [nbr])
     refine Yl a rfl (by simp;omega) ?_
     (repeat first | dsimp only [go_sem,rA,rM,rS] | simp only [nbr])
     refine Xt (by omega) ?_
     (repeat first | dsimp only [loL,go_sem,rA,rM,rS] | simp only [nbr])
     refine Zal (by simp [FLT]) (res:=I (UB (loK l[h]) (loK l[a]))) (by (repeat first | dsimp only [loL,go_sem,rA,rM,rS] | simp only [nbr]);exact UM _ _) ?_
     (repeat first | dsimp only [go_sem,rA,rM,rS] | simp only [nbr])
     by_cases hk:loK l[h] < loK l[a]
     . refine Zw (by simp [UB,hk]) ?_
       dsimp only [go_sem,rA,rM,rS]
       rw [Zf (n:=(h:Int)+1) (by omega) (by omega)]
       have hkk:ky loK l h < ky loK l a:=by rw [Xo loK (l:=l) (i:=h) (by omega),Xo loK (l:=l) (i:=a) (by omega)];exact hk
       refine ⟨(h+1,j),⟨by simp only;omega,by simp only;omega,hj,fun c g1 g2=>?_,hhi⟩,by simp only;omega,?_⟩
       . have:=hs2.le loK g1 (show c<=h by simp only at g2;omega) (by omega);omega
       (refine Zi ?_ ?_ ?_ rfl rfl<;>dsimp only [loL,id,go_sem,rA,rM,rS]<;>simp [loL,Zb,Ze,KFR,KFL,KF,Zd,mtO,nbr])
     . refine Zu (by simp [UB,hk];split<;>decide) ?_
       dsimp only [go_sem,rA,rM,rS]
       have hkk:ky loK l a<=ky loK l h:=by rw [Xo loK (l:=l) (i:=h) (by omega),Xo loK (l:=l) (i:=a) (by omega)];exact Int.not_lt.1 hk
       refine ⟨(i,h),⟨hi,by simp only;omega,by simp only;omega,hlo,fun c g1 g2=>?_⟩,by simp only;omega,?_⟩
       . have:=hs2.le loK (show m<=h by omega) g1 g2;omega
       (refine Zi ?_ ?_ ?_ rfl rfl<;>dsimp only [loL,id,go_sem,rA,rM,rS]<;>simp [loL,Zb,Ze,KFR,KFL,KF,Zd,mtO,nbr])
   refine Zu (by simp;omega) ?_
   dsimp only [go_sem,rA,rM,rS]
   have hij':i=j:=by omega
   subst hij'
   refine Yf (fun s:Nat × List LO=>[(13,I (s.1:Nat))]) (fun s=>[(0,.row v 8 (s.2.map loL) 50)]) (fun s=>(a<=s.1/\s.1<=i - 1)/\PIn a b l s.2/\∀ p,ky loK s.2 p=if a<=p/\p < s.1 then ky loK l (p+1) else if p=s.1 then ky loK l a else ky loK l p) (fun s=>i - s.1) (a,l) ⟨by simp only;omega,.refl _ _ _,fun p=>by
    simp only
    rw [if_neg (by omega)]
    split
    . rename_i h;rw [h]
    . rfl⟩ ?_ ?_
   . (refine Zi ?_ ?_ ?_ rfl rfl<;>dsimp only [loL,id,go_sem,rA,rM,rS]<;>simp [loL,Zb,Ze,KFR,KFL,KF,Zd,mtO,nbr])
   rintro ⟨k,l1⟩ ⟨⟨hk0,hk⟩,hp,hky⟩
   simp only at hk0 hk hp hky
   have hl1:=hp.len
   dsimp only [go_sem,rA,rM,rS]
   rw [Zf (n:=(i:Int) - 1) (by omega) (by omega)]
   by_cases hlt:k < i - 1
   . refine Zw (by simp;omega) ?_
     (repeat first | dsimp only [go_sem,rA,rM,rS] | simp only [nbr])
     rw [Zf (n:=(k:Int)+1) (by omega) (by omega)]
     refine Yl (k+1) (by omega) (by simp;omega) ?_
     (repeat first | dsimp only [go_sem,rA,rM,rS] | simp only [nbr])
     refine Xt (by omega) ?_
     (repeat first | dsimp only [loL,go_sem,rA,rM,rS] | simp only [nbr])
     refine Yl k rfl (by simp;omega) ?_
     (repeat first | dsimp only [go_sem,rA,rM,rS] | simp only [nbr])
     refine Xt (by omega) ?_
     (repeat first | dsimp only [loL,go_sem,rA,rM,rS] | simp only [nbr])
     refine Yl k rfl (by simp;omega) ?_
     (repeat first | dsimp only [go_sem,rA,rM,rS] | simp only [nbr])
     refine WT l1[k+1] (by omega) (by simp [loL]) (by simp [loL,Zn]) ?_
     (repeat first | dsimp only [go_sem,rA,rM,rS] | simp only [nbr])
     refine Yl (k+1) (by first | omega | (rw [Zf (by omega) (by omega)];omega)) (by simp;omega) ?_
     (repeat first | dsimp only [go_sem,rA,rM,rS] | simp only [nbr])
     refine WT l1[k] (by simp;omega) (by simp [loL]) (by simp [loL,Zn]) ?_
     rw [<- ZaJ (l:=l1) (i:=k) (j:=k+1) (by omega) (by omega)]
     (repeat first | dsimp only [go_sem,rA,rM,rS] | simp only [nbr])
     try rw [Zf (n:=(k:Int)+1) (by omega) (by omega)]
     rw [show (k:Int)+1=((k+1:Nat):Int) from by omega]
     refine ⟨(k+1,swp l1 k (k+1)),⟨by simp only;omega,hp.trans (.swap (by omega) (by omega) (by omega) (by omega) (by omega)),fun p=>?_⟩,by simp only;omega,?_⟩
     . simp only
       rw [Ze0 loK (by omega) (by omega),hky,hky,hky]
       by_cases h1:p=k
       . subst h1
         rw [if_pos rfl,if_neg (by omega),if_neg (by omega),if_pos (by omega)]
       . rw [if_neg h1]
         by_cases h2:p=k+1
         . subst h2
           rw [if_pos rfl,if_neg (by omega),if_pos rfl,if_neg (by omega),if_pos rfl]
         . rw [if_neg h2,if_neg h2]
           by_cases h3:a<=p/\p < k
           . rw [if_pos h3,if_pos (by omega)]
           . rw [if_neg h3,if_neg h1,if_neg (by omega)]
     (refine Zi ?_ ?_ ?_ rfl rfl<;>dsimp only [loL,id,go_sem,rA,rM,rS]<;>simp [loL,Zb,Ze,KFR,KFL,KF,Zd,mtO,nbr])
   refine Zu (by simp;omega) ?_
   dsimp only [go_sem,rA,rM,rS]
   have hki:k=i - 1:=by omega
   refine ⟨_,⟨l1,hp,fun p q g1 g2 g3=>?_,rfl⟩,?_⟩
   . rw [hky,hky]
     by_cases h1:p < k
     . rw [if_pos (by omega)]
       by_cases h2:q < k
       . rw [if_pos (by omega)];exact hs2 _ _ (by omega) (by omega) (by omega)
       . rw [if_neg (by omega)]
         by_cases h3:q=k
         . rw [if_pos h3];exact Int.le_of_lt (hlo _ (by omega) (by omega))
         . rw [if_neg h3];exact hs2 _ _ (by omega) (by omega) (by omega)
     . rw [if_neg (by omega),if_neg (c:=a<=q/\q < k) (by omega),if_neg (c:=q=k) (by omega)]
       by_cases h3:p=k
       . rw [if_pos h3];exact hhi _ (by omega) (by omega)
       . rw [if_neg h3];exact hs2 _ _ (by omega) (by omega) (by omega)
   . simp only [Xh]
     (refine Zo ?_ ?_ ?_ rfl<;>dsimp only [loL,id,go_sem,rA,rM,rS]<;>simp [loL,Zb,Ze,KFR,KFL,KF,Zd,mtO,nbr])
 refine Zu (by simp;omega) ?_
 dsimp only [go_sem,rA,rM,rS]
 rw [Zf (n:=(b:Int) - (m:Int)) (by omega) (by omega)]
 by_cases hb1:b=m+1
 . refine Zw (by simp;omega) ?_
   dsimp only [go_sem,rA,rM,rS]
   refine Yf (fun s:Nat × Nat=>[(14,I (s.1:Nat)),(15,I (s.2:Nat))]) (fun _=>[]) (fun s=>a<=s.1/\s.1<=s.2/\s.2<=m/\(∀ c,a<=c->c < s.1->ky loK l c<=ky loK l m)/\∀ c,s.2<=c->c < m->ky loK l m < ky loK l c) (fun s=>s.2 - s.1) (a,m) ⟨Nat.le_refl _,by simp only;omega,Nat.le_refl _,fun c h1 h2=>by simp only at h2;omega,fun c h1 h2=>by simp only at h1;omega⟩ ?_ ?_
   . (refine Zi ?_ ?_ ?_ rfl rfl<;>dsimp only [loL,id,go_sem,rA,rM,rS]<;>simp [loL,Zb,Ze,KFR,KFL,KF,Zd,mtO,nbr])
   rintro ⟨i,j⟩ ⟨hi,hij,hj,hlo,hhi⟩
   simp only at hi hij hj hlo hhi
   dsimp only [go_sem,rA,rM,rS]
   by_cases hlt:i < j
   . refine Zw (by simpa using hlt) ?_
     dsimp only [go_sem,rA,rM,rS]
     simp (disch:=omega) only [Zf]
     rw [uwn (by omega) (by omega)]
     refine Zbv rfl (.inr rfl) (Ug _ (by omega)) rfl ?_
     dsimp only [go_sem,rA,rM,rS]
     obtain ⟨h,hh⟩:∃ h:Nat,((i:Int)+(j:Int)) / 2=(h:Int):=⟨(i+j) / 2,by omega⟩
     rw [hh,Zf (n:=(h:Int)) (by omega) (by omega)]
     have hih:i<=h/\h < j:=by omega
     (repeat first | dsimp only [go_sem,rA,rM,rS] | simp only [nbr])
     refine Yl m rfl (by simp;omega) ?_
     (repeat first | dsimp only [go_sem,rA,rM,rS] | simp only [nbr])
     refine Xt (by omega) ?_
     (repeat first | dsimp only [loL,go_sem,rA,rM,rS] | simp only [nbr])
     refine Yl h rfl (by simp;omega) ?_
     (repeat first | dsimp only [go_sem,rA,rM,rS] | simp only [nbr])
     refine Xt (by omega) ?_
     (repeat first | dsimp only [loL,go_sem,rA,rM,rS] | simp only [nbr])
     refine Zal (by simp [FLT]) (res:=I (UB (loK l[m]) (loK l[h]))) (by (repeat first | dsimp only [loL,go_sem,rA,rM,rS] | simp only [nbr]);exact UM _ _) ?_
     (repeat first | dsimp only [go_sem,rA,rM,rS] | simp only [nbr])
     by_cases hk:loK l[m] < loK l[h]
     . refine Zu (by simp [UB,hk]) ?_
       dsimp only [go_sem,rA,rM,rS]
       have hkk:ky loK l m < ky loK l h:=by rw [Xo loK (l:=l) (i:=h) (by omega),Xo loK (l:=l) (i:=m) (by omega)];exact hk
       refine ⟨(i,h),⟨hi,by simp only;omega,by simp only;omega,hlo,fun c g1 g2=>?_⟩,by simp only;omega,?_⟩
       . have:=hs1.le loK (show a<=h by omega) g1 g2;omega
       (refine Zi ?_ ?_ ?_ rfl rfl<;>dsimp only [loL,id,go_sem,rA,rM,rS]<;>simp [loL,Zb,Ze,KFR,KFL,KF,Zd,mtO,nbr])
     . refine Zw (by simp [UB,hk];split<;>decide) ?_
       dsimp only [go_sem,rA,rM,rS]
       rw [Zf (n:=(h:Int)+1) (by omega) (by omega)]
       have hkk:ky loK l h<=ky loK l m:=by rw [Xo loK (l:=l) (i:=h) (by omega),Xo loK (l:=l) (i:=m) (by omega)];exact Int.not_lt.1 hk
       refine ⟨(h+1,j),⟨by simp only;omega,by simp only;omega,hj,fun c g1 g2=>?_,hhi⟩,by simp only;omega,?_⟩
       . have:=hs1.le loK g1 (show c<=h by simp only at g2;omega) (by omega);omega
       (refine Zi ?_ ?_ ?_ rfl rfl<;>dsimp only [loL,id,go_sem,rA,rM,rS]<;>simp [loL,Zb,Ze,KFR,KFL,KF,Zd,mtO,nbr])
   refine Zu (by simp;omega) ?_
   dsimp only [go_sem,rA,rM,rS]
   have hij':i=j:=by omega
   subst hij'
   refine Yf (fun s:Nat × List LO=>[(17,I (s.1:Nat))]) (fun s=>[(0,.row v 8 (s.2.map loL) 50)]) (fun s=>(i<=s.1/\s.1<=m)/\PIn a b l s.2/\∀ p,ky loK s.2 p=if s.1 < p/\p<=m then ky loK l (p - 1) else if p=s.1 then ky loK l m else ky loK l p) (fun s=>s.1) (m,l) ⟨by simp only;omega,.refl _ _ _,fun p=>by
    simp only
    rw [if_neg (by omega)]
    split
    . rename_i h;rw [h]
    . rfl⟩ ?_ ?_
   . (refine Zi ?_ ?_ ?_ rfl rfl<;>dsimp only [loL,id,go_sem,rA,rM,rS]<;>simp [loL,Zb,Ze,KFR,KFL,KF,Zd,mtO,nbr])
   rintro ⟨k,l1⟩ ⟨⟨hk0,hk⟩,hp,hky⟩
   simp only at hk0 hk hp hky
   have hl1:=hp.len
   dsimp only [go_sem,rA,rM,rS]
   by_cases hlt:i < k
   . refine Zw (by simp;omega) ?_
     (repeat first | dsimp only [go_sem,rA,rM,rS] | simp only [nbr])
     rw [Zf (n:=(k:Int) - 1) (by omega) (by omega)]
     refine Yl (k - 1) (by omega) (by simp;omega) ?_
     (repeat first | dsimp only [go_sem,rA,rM,rS] | simp only [nbr])
     refine Xt (by omega) ?_
     (repeat first | dsimp only [loL,go_sem,rA,rM,rS] | simp only [nbr])
     refine Yl k rfl (by simp;omega) ?_
     (repeat first | dsimp only [go_sem,rA,rM,rS] | simp only [nbr])
     refine Xt (by omega) ?_
     (repeat first | dsimp only [loL,go_sem,rA,rM,rS] | simp only [nbr])
     refine Yl k rfl (by simp;omega) ?_
     (repeat first | dsimp only [go_sem,rA,rM,rS] | simp only [nbr])
     refine WT l1[k - 1] (by omega) (by simp [loL]) (by simp [loL,Zn]) ?_
     (repeat first | dsimp only [go_sem,rA,rM,rS] | simp only [nbr])
     refine Yl (k - 1) (by first | omega | (rw [Zf (by omega) (by omega)];omega)) (by simp;omega) ?_
     (repeat first | dsimp only [go_sem,rA,rM,rS] | simp only [nbr])
     refine WT l1[k] (by simp;omega) (by simp [loL]) (by simp [loL,Zn]) ?_
     rw [<- ZaJ (l:=l1) (i:=k) (j:=k - 1) (by omega) (by omega)]
     (repeat first | dsimp only [go_sem,rA,rM,rS] | simp only [nbr])
     try rw [Zf (n:=(k:Int) - 1) (by omega) (by omega)]
     rw [show (k:Int) - 1=((k - 1:Nat):Int) from by omega]
     refine ⟨(k - 1,swp l1 k (k - 1)),⟨by simp only;omega,hp.trans (.swap (by omega) (by omega) (by omega) (by omega) (by omega)),fun p=>?_⟩,by simp only;omega,?_⟩
     . simp only
       rw [Ze0 loK (by omega) (by omega),hky,hky,hky]
       by_cases h1:p=k
       . subst h1
         rw [if_pos rfl,if_neg (by omega),if_neg (by omega),if_pos (by omega)]
       . rw [if_neg h1]
         by_cases h2:p=k - 1
         . subst h2
           rw [if_pos rfl,if_neg (by omega),if_pos rfl,if_neg (by omega),if_pos rfl]
         . rw [if_neg h2,if_neg h2]
           by_cases h3:k < p/\p<=m
           . rw [if_pos h3,if_pos (by omega)]
           . rw [if_neg h3,if_neg h1,if_neg (by omega)]
     (refine Zi ?_ ?_ ?_ rfl rfl<;>dsimp only [loL,id,go_sem,rA,rM,rS]<;>simp [loL,Zb,Ze,KFR,KFL,KF,Zd,mtO,nbr])
   refine Zu (by simp;omega) ?_
   dsimp only [go_sem,rA,rM,rS]
   have hki:k=i:=by omega
   refine ⟨_,⟨l1,hp,fun p q g1 g2 g3=>?_,rfl⟩,?_⟩
   . rw [hky,hky]
     by_cases h1:p < k
     . rw [if_neg (by omega),if_neg (c:=p=k) (by omega)]
       by_cases h2:q < k
       . rw [if_neg (by omega),if_neg (c:=q=k) (by omega)];exact hs1 _ _ (by omega) (by omega) (by omega)
       . by_cases h3:q=k
         . rw [if_neg (by omega),if_pos h3];exact hlo _ (by omega) (by omega)
         . rw [if_pos (by omega)];exact hs1.le loK (by omega) (by omega) (by omega)
     . rw [if_pos (c:=k < q/\q<=m) (by omega)]
       by_cases h3:p=k
       . rw [if_neg (by omega),if_pos h3];exact Int.le_of_lt (hhi _ (by omega) (by omega))
       . rw [if_pos (by omega)];exact hs1 _ _ (by omega) (by omega) (by omega)
   . simp only [Xh]
     (refine Zo ?_ ?_ ?_ rfl<;>dsimp only [loL,id,go_sem,rA,rM,rS]<;>simp [loL,Zb,Ze,KFR,KFL,KF,Zd,mtO,nbr])
 refine Zu (by simp;omega) ?_
 dsimp only [go_sem,rA,rM,rS]
 simp (disch:=omega) only [Zf]
 rw [uwn (by omega) (by omega)]
 refine Zbv rfl (.inr rfl) (Ug _ (by omega)) rfl ?_
 dsimp only [go_sem,rA,rM,rS]
 obtain ⟨mid,hmid⟩:∃ h:Nat,((a:Int)+(b:Int)) / 2=(h:Int):=⟨(a+b) / 2,by omega⟩
 rw [hmid,Zf (n:=(mid:Int)) (by omega) (by omega)]
 have hm1':2 * mid<=a+b/\a+b<=2 * mid+1:=by omega
 rw [Zf (n:=(mid:Int)+(m:Int)) (by omega) (by omega)]
 have tail0:∀ s0 r0:Nat,s0=(if m > mid then mid+m - b else a)->r0=(if m > mid then mid else m)->a<=s0/\s0<=r0/\r0<=m/\(∀ c,s0<=c->c < r0->m<=mid+m - 1 - c/\mid+m - 1 - c < b):=fun s0 r0 h1 h2=>by
  by_cases hgt:m > mid
  . rw [if_pos hgt] at h1 h2;subst h1;subst h2;refine ⟨by omega,by omega,by omega,fun c _ _=>by omega⟩
  . rw [if_neg hgt] at h1 h2;subst h1;subst h2;refine ⟨by omega,by omega,by omega,fun c _ _=>by omega⟩
 obtain ⟨s0,hs0⟩:∃ s0:Nat,s0=(if m > mid then mid+m - b else a):=⟨_,rfl⟩
 obtain ⟨r0,hr0⟩:∃ r0:Nat,r0=(if m > mid then mid else m):=⟨_,rfl⟩
 obtain ⟨t1,t2,t3,t4⟩:=tail0 s0 r0 hs0 hr0
 by_cases hgt:m > mid
 . refine Zw (by simp;omega) ?_
   dsimp only [go_sem,rA,rM,rS]
   rw [Zf (n:=(mid:Int)+(m:Int) - (b:Int)) (by omega) (by omega),Zf (n:=(mid:Int)+(m:Int) - 1) (by omega) (by omega)]
   have e1:(mid:Int)+(m:Int) - (b:Int)=(s0:Int):=by rw [if_pos hgt] at hs0;omega
   have e2:mid=r0:=by rw [if_pos hgt] at hr0;omega
   rw [e1]
   have hM:((mid:Int))=(r0:Int):=by omega
   refine Yf (fun s:Nat × Nat=>[(20,I (s.1:Nat)),(21,I (s.2:Nat))]) (fun _=>[]) (fun s=>s0<=s.1/\s.1<=s.2/\s.2<=r0/\Srch (mid+m - 1) s0 r0 s.1 s.2 (ky loK l)) (fun s=>s.2 - s.1) (s0,r0) ⟨Nat.le_refl _,t2,Nat.le_refl _,Zb2 _ _ _ _⟩ ?_ ?_
   . rw [hM];(refine Zi ?_ ?_ ?_ rfl rfl<;>dsimp only [loL,id,go_sem,rA,rM,rS]<;>simp [loL,Zb,Ze,KFR,KFL,KF,Zd,mtO,nbr])
   rintro ⟨i,j⟩ ⟨hi,hij,hj,hsr⟩
   simp only at hi hij hj hsr
   dsimp only [go_sem,rA,rM,rS]
   by_cases hlt:i < j
   . refine Zw (by simpa using hlt) ?_
     dsimp only [go_sem,rA,rM,rS]
     simp (disch:=omega) only [Zf]
     rw [uwn (by omega) (by omega)]
     refine Zbv rfl (.inr rfl) (Ug _ (by omega)) rfl ?_
     dsimp only [go_sem,rA,rM,rS]
     obtain ⟨h,hh⟩:∃ h:Nat,((i:Int)+(j:Int)) / 2=(h:Int):=⟨(i+j) / 2,by omega⟩
     rw [hh,Zf (n:=(h:Int)) (by omega) (by omega)]
     have hih:i<=h/\h < j:=by omega
     have hph:=t4 h (by omega) (by omega)
     rw [Zf (n:=(mid:Int)+(m:Int) - 1 - (h:Int)) (by omega) (by omega)]
     (repeat first | dsimp only [go_sem,rA,rM,rS] | simp only [nbr])
     refine Yl (mid+m - 1 - h) (by omega) (by simp;omega) ?_
     (repeat first | dsimp only [go_sem,rA,rM,rS] | simp only [nbr])
     refine Xt (by omega) ?_
     (repeat first | dsimp only [loL,go_sem,rA,rM,rS] | simp only [nbr])
     refine Yl h rfl (by simp;omega) ?_
     (repeat first | dsimp only [go_sem,rA,rM,rS] | simp only [nbr])
     refine Xt (by omega) ?_
     (repeat first | dsimp only [loL,go_sem,rA,rM,rS] | simp only [nbr])
     refine Zal (by simp [FLT]) (res:=I (UB (loK l[mid+m - 1 - h]) (loK l[h]))) (by (repeat first | dsimp only [loL,go_sem,rA,rM,rS] | simp only [nbr]);exact UM _ _) ?_
     (repeat first | dsimp only [go_sem,rA,rM,rS] | simp only [nbr])
     by_cases hk:loK l[mid+m - 1 - h] < loK l[h]
     . refine Zu (by simp [UB,hk]) ?_
       dsimp only [go_sem,rA,rM,rS]
       have hkk:ky loK l (mid+m - 1 - h) < ky loK l h:=by rw [Xo loK (l:=l) (i:=h) (by omega),Xo loK (l:=l) (i:=mid+m - 1 - h) (by omega)];exact hk
       refine ⟨(i,h),⟨hi,by simp only;omega,by simp only;omega,Zdc hsr hs1 hs2 t1 t3 t4 hih.1 hih.2 hj hkk hi⟩,by simp only;omega,?_⟩
       (refine Zi ?_ ?_ ?_ rfl rfl<;>dsimp only [loL,id,go_sem,rA,rM,rS]<;>simp [loL,Zb,Ze,KFR,KFL,KF,Zd,mtO,nbr])
     . refine Zw (by simp [UB,hk];split<;>decide) ?_
       dsimp only [go_sem,rA,rM,rS]
       rw [Zf (n:=(h:Int)+1) (by omega) (by omega)]
       have hkk:ky loK l h<=ky loK l (mid+m - 1 - h):=by rw [Xo loK (l:=l) (i:=h) (by omega),Xo loK (l:=l) (i:=mid+m - 1 - h) (by omega)];exact Int.not_lt.1 hk
       refine ⟨(h+1,j),⟨by simp only;omega,by simp only;omega,hj,ZiS hsr hs1 hs2 t1 t3 t4 hih.1 hih.2 hj hkk hi⟩,by simp only;omega,?_⟩
       (refine Zi ?_ ?_ ?_ rfl rfl<;>dsimp only [loL,id,go_sem,rA,rM,rS]<;>simp [loL,Zb,Ze,KFR,KFL,KF,Zd,mtO,nbr])
   refine Zu (by simp;omega) ?_
   dsimp only [go_sem,rA,rM,rS]
   have cut:=Zsc (s:=i) ham hmb hm1'.1 hm1'.2 s0 r0 hs0 hr0 hi (by omega) (by rwa [show j=i from by omega] at hsr)
   rw [Zf (n:=(mid:Int)+(m:Int) - (i:Int)) (by omega) (by omega),show (mid:Int)+(m:Int) - (i:Int)=((mid+m - i:Nat):Int) from by omega]
   by_cases hr:i < m/\m < mid+m - i
   . rw [show decide ((i:Int) < (m:Int))=true from by simp;omega]
     repeat (refine .inl ⟨rfl,?_⟩;(repeat first | dsimp only [go_sem,rA,rM,rS] | simp only [nbr]))
     refine Zw (by simp;omega) ?_
     dsimp only [go_sem,rA,rM,rS]
     refine Zs [0,1] (Zsi v i m (mid+m - i) l hr.1 hr.2 (by omega) hL) rfl rfl rfl ?_ ?_ ?_
     . (repeat first | dsimp only [go_sem,rA,rM,rS] | simp only [nbr])
       simp [mtL,mtB,mtS]
     . (repeat first | dsimp only [go_sem,rA,rM,rS] | simp only [nbr])
       simp [Zb,KFR,loL,KFL,KF]
     rintro _ ⟨l1,hp1,hk1,rfl⟩
     (repeat first | dsimp only [Xh,go_sem,rA,rM,rS] | simp only [nbr])
     have cd:=Zcv loK cut hs1 hs2 hk1
     have pp:PIn a b l l1:=hp1.mono (by omega) (by have:=cut.e1;omega)
     have hl1:=pp.len
     by_cases hf:a < i/\i < mid
     . rw [show decide ((a:Int) < (i:Int))=true from by simp;omega]
       repeat (refine .inl ⟨rfl,?_⟩;(repeat first | dsimp only [go_sem,rA,rM,rS] | simp only [nbr]))
       refine Zw (by simp;omega) ?_
       dsimp only [go_sem,rA,rM,rS]
       refine Zs [0,1] (ih a i mid l1 (by omega) hf.1 hf.2 (by omega) (by omega) cd.s1 cd.s2) rfl rfl rfl ?_ ?_ ?_
       . (repeat first | dsimp only [go_sem,rA,rM,rS] | simp only [nbr])
         simp [mtL,mtB,mtS]
       . (repeat first | dsimp only [go_sem,rA,rM,rS] | simp only [nbr])
         simp [Zb,KFR,loL,KFL,KF]
       rintro _ ⟨l2,hp2,hs3,rfl⟩
       (repeat first | dsimp only [Xh,go_sem,rA,rM,rS] | simp only [nbr])
       have ce:=Zaw loK cd hp2 hs3 (by omega)
       have pq:PIn a b l l2:=pp.trans (hp2.mono (by omega) (by omega))
       have hl2:=pq.len
       by_cases hg:mid < mid+m - i/\mid+m - i < b
       . rw [show decide ((mid:Int) < ((mid+m - i:Nat):Int))=true from by simp;omega]
         repeat (refine .inl ⟨rfl,?_⟩;(repeat first | dsimp only [go_sem,rA,rM,rS] | simp only [nbr]))
         refine Zw (by simp;omega) ?_
         dsimp only [go_sem,rA,rM,rS]
         refine Zs [0,1] (ih mid (mid+m - i) b l2 (by omega) hg.1 hg.2 (by omega) (by omega) ce.s3 ce.s4) rfl rfl rfl ?_ ?_ ?_
         . (repeat first | dsimp only [go_sem,rA,rM,rS] | simp only [nbr])
           simp [mtL,mtB,mtS]
         . (repeat first | dsimp only [go_sem,rA,rM,rS] | simp only [nbr])
           simp [Zb,KFR,loL,KFL,KF]
         rintro _ ⟨l3,hp3,hs4,rfl⟩
         (repeat first | dsimp only [Xh,go_sem,rA,rM,rS] | simp only [nbr])
         refine ⟨_,⟨l3,pq.trans (hp3.mono (by omega) (by omega)),W5 loK ce hp3 hs4 (by omega),rfl⟩,?_⟩
         try simp only [Xh]
         (refine Zo ?_ ?_ ?_ rfl<;>dsimp only [loL,id,go_sem,rA,rM,rS]<;>simp [loL,Zb,Ze,KFR,KFL,KF,Zd,mtO,nbr])
       . skip
         repeat (refine gb ?_;(repeat first | dsimp only [go_sem,rA,rM,rS] | simp only [nbr]))
         refine Zu (by simp;omega) ?_
         dsimp only [go_sem,rA,rM,rS]
         refine ⟨_,⟨l2,pq,Zae loK ce hg,rfl⟩,?_⟩
         try simp only [Xh]
         (refine Zo ?_ ?_ ?_ rfl<;>dsimp only [loL,id,go_sem,rA,rM,rS]<;>simp [loL,Zb,Ze,KFR,KFL,KF,Zd,mtO,nbr])
     . skip
       repeat (refine gb ?_;(repeat first | dsimp only [go_sem,rA,rM,rS] | simp only [nbr]))
       refine Zu (by simp;omega) ?_
       dsimp only [go_sem,rA,rM,rS]
       have ce:=ZcA loK cd hf
       have pq:=pp
       have hl2:=pq.len
       by_cases hg:mid < mid+m - i/\mid+m - i < b
       . rw [show decide ((mid:Int) < ((mid+m - i:Nat):Int))=true from by simp;omega]
         repeat (refine .inl ⟨rfl,?_⟩;(repeat first | dsimp only [go_sem,rA,rM,rS] | simp only [nbr]))
         refine Zw (by simp;omega) ?_
         dsimp only [go_sem,rA,rM,rS]
         refine Zs [0,1] (ih mid (mid+m - i) b l1 (by omega) hg.1 hg.2 (by omega) (by omega) ce.s3 ce.s4) rfl rfl rfl ?_ ?_ ?_
         . (repeat first | dsimp only [go_sem,rA,rM,rS] | simp only [nbr])
           simp [mtL,mtB,mtS]
         . (repeat first | dsimp only [go_sem,rA,rM,rS] | simp only [nbr])
           simp [Zb,KFR,loL,KFL,KF]
         rintro _ ⟨l3,hp3,hs4,rfl⟩
         (repeat first | dsimp only [Xh,go_sem,rA,rM,rS] | simp only [nbr])
         refine ⟨_,⟨l3,pq.trans (hp3.mono (by omega) (by omega)),W5 loK ce hp3 hs4 (by omega),rfl⟩,?_⟩
         try simp only [Xh]
         (refine Zo ?_ ?_ ?_ rfl<;>dsimp only [loL,id,go_sem,rA,rM,rS]<;>simp [loL,Zb,Ze,KFR,KFL,KF,Zd,mtO,nbr])
       . skip
         repeat (refine gb ?_;(repeat first | dsimp only [go_sem,rA,rM,rS] | simp only [nbr]))
         refine Zu (by simp;omega) ?_
         dsimp only [go_sem,rA,rM,rS]
         refine ⟨_,⟨l1,pq,Zae loK ce hg,rfl⟩,?_⟩
         try simp only [Xh]
         (refine Zo ?_ ?_ ?_ rfl<;>dsimp only [loL,id,go_sem,rA,rM,rS]<;>simp [loL,Zb,Ze,KFR,KFL,KF,Zd,mtO,nbr])
   . skip
     repeat (refine gb ?_;(repeat first | dsimp only [go_sem,rA,rM,rS] | simp only [nbr]))
     refine Zu (by simp;omega) ?_
     dsimp only [go_sem,rA,rM,rS]
     have cd:=Zlw loK cut hs1 hs2 hr
     have pp:PIn a b l l:=.refl _ _ _
     have hl1:=pp.len
     by_cases hf:a < i/\i < mid
     . rw [show decide ((a:Int) < (i:Int))=true from by simp;omega]
       repeat (refine .inl ⟨rfl,?_⟩;(repeat first | dsimp only [go_sem,rA,rM,rS] | simp only [nbr]))
       refine Zw (by simp;omega) ?_
       dsimp only [go_sem,rA,rM,rS]
       refine Zs [0,1] (ih a i mid l (by omega) hf.1 hf.2 (by omega) (by omega) cd.s1 cd.s2) rfl rfl rfl ?_ ?_ ?_
       . (repeat first | dsimp only [go_sem,rA,rM,rS] | simp only [nbr])
         simp [mtL,mtB,mtS]
       . (repeat first | dsimp only [go_sem,rA,rM,rS] | simp only [nbr])
         simp [Zb,KFR,loL,KFL,KF]
       rintro _ ⟨l2,hp2,hs3,rfl⟩
       (repeat first | dsimp only [Xh,go_sem,rA,rM,rS] | simp only [nbr])
       have ce:=Zaw loK cd hp2 hs3 (by omega)
       have pq:PIn a b l l2:=pp.trans (hp2.mono (by omega) (by omega))
       have hl2:=pq.len
       by_cases hg:mid < mid+m - i/\mid+m - i < b
       . rw [show decide ((mid:Int) < ((mid+m - i:Nat):Int))=true from by simp;omega]
         repeat (refine .inl ⟨rfl,?_⟩;(repeat first | dsimp only [go_sem,rA,rM,rS] | simp only [nbr]))
         refine Zw (by simp;omega) ?_
         dsimp only [go_sem,rA,rM,rS]
         refine Zs [0,1] (ih mid (mid+m - i) b l2 (by omega) hg.1 hg.2 (by omega) (by omega) ce.s3 ce.s4) rfl rfl rfl ?_ ?_ ?_
         . (repeat first | dsimp only [go_sem,rA,rM,rS] | simp only [nbr])
           simp [mtL,mtB,mtS]
         . (repeat first | dsimp only [go_sem,rA,rM,rS] | simp only [nbr])
           simp [Zb,KFR,loL,KFL,KF]
         rintro _ ⟨l3,hp3,hs4,rfl⟩
         (repeat first | dsimp only [Xh,go_sem,rA,rM,rS] | simp only [nbr])
         refine ⟨_,⟨l3,pq.trans (hp3.mono (by omega) (by omega)),W5 loK ce hp3 hs4 (by omega),rfl⟩,?_⟩
         try simp only [Xh]
         (refine Zo ?_ ?_ ?_ rfl<;>dsimp only [loL,id,go_sem,rA,rM,rS]<;>simp [loL,Zb,Ze,KFR,KFL,KF,Zd,mtO,nbr])
       . skip
         repeat (refine gb ?_;(repeat first | dsimp only [go_sem,rA,rM,rS] | simp only [nbr]))
         refine Zu (by simp;omega) ?_
         dsimp only [go_sem,rA,rM,rS]
         refine ⟨_,⟨l2,pq,Zae loK ce hg,rfl⟩,?_⟩
         try simp only [Xh]
         (refine Zo ?_ ?_ ?_ rfl<;>dsimp only [loL,id,go_sem,rA,rM,rS]<;>simp [loL,Zb,Ze,KFR,KFL,KF,Zd,mtO,nbr])
     . skip
       repeat (refine gb ?_;(repeat first | dsimp only [go_sem,rA,rM,rS] | simp only [nbr]))
       refine Zu (by simp;omega) ?_
       dsimp only [go_sem,rA,rM,rS]
       have ce:=ZcA loK cd hf
       have pq:=pp
       have hl2:=pq.len
       by_cases hg:mid < mid+m - i/\mid+m - i < b
       . rw [show decide ((mid:Int) < ((mid+m - i:Nat):Int))=true from by simp;omega]
         repeat (refine .inl ⟨rfl,?_⟩;(repeat first | dsimp only [go_sem,rA,rM,rS] | simp only [nbr]))
         refine Zw (by simp;omega) ?_
         dsimp only [go_sem,rA,rM,rS]
         refine Zs [0,1] (ih mid (mid+m - i) b l (by omega) hg.1 hg.2 (by omega) (by omega) ce.s3 ce.s4) rfl rfl rfl ?_ ?_ ?_
         . (repeat first | dsimp only [go_sem,rA,rM,rS] | simp only [nbr])
           simp [mtL,mtB,mtS]
         . (repeat first | dsimp only [go_sem,rA,rM,rS] | simp only [nbr])
           simp [Zb,KFR,loL,KFL,KF]
         rintro _ ⟨l3,hp3,hs4,rfl⟩
         (repeat first | dsimp only [Xh,go_sem,rA,rM,rS] | simp only [nbr])
         refine ⟨_,⟨l3,pq.trans (hp3.mono (by omega) (by omega)),W5 loK ce hp3 hs4 (by omega),rfl⟩,?_⟩
         try simp only [Xh]
         (refine Zo ?_ ?_ ?_ rfl<;>dsimp only [loL,id,go_sem,rA,rM,rS]<;>simp [loL,Zb,Ze,KFR,KFL,KF,Zd,mtO,nbr])
       . skip
         repeat (refine gb ?_;(repeat first | dsimp only [go_sem,rA,rM,rS] | simp only [nbr]))
         refine Zu (by simp;omega) ?_
         dsimp only [go_sem,rA,rM,rS]
         refine ⟨_,⟨l,pq,Zae loK ce hg,rfl⟩,?_⟩
         try simp only [Xh]
         (refine Zo ?_ ?_ ?_ rfl<;>dsimp only [loL,id,go_sem,rA,rM,rS]<;>simp [loL,Zb,Ze,KFR,KFL,KF,Zd,mtO,nbr])
 . refine Zu (by simp;omega) ?_
   dsimp only [go_sem,rA,rM,rS]
   rw [Zf (n:=(mid:Int)+(m:Int) - 1) (by omega) (by omega)]
   have hA:(a:Int)=(s0:Int):=by rw [if_neg hgt] at hs0;omega
   have hM:(m:Int)=(r0:Int):=by rw [if_neg hgt] at hr0;omega
   refine Yf (fun s:Nat × Nat=>[(20,I (s.1:Nat)),(21,I (s.2:Nat))]) (fun _=>[]) (fun s=>s0<=s.1/\s.1<=s.2/\s.2<=r0/\Srch (mid+m - 1) s0 r0 s.1 s.2 (ky loK l)) (fun s=>s.2 - s.1) (s0,r0) ⟨Nat.le_refl _,t2,Nat.le_refl _,Zb2 _ _ _ _⟩ ?_ ?_
   . have e3:s0=a:=by omega
     have e4:r0=m:=by omega
     subst e3;subst e4;(refine Zi ?_ ?_ ?_ rfl rfl<;>dsimp only [loL,id,go_sem,rA,rM,rS]<;>simp [loL,Zb,Ze,KFR,KFL,KF,Zd,mtO,nbr])
   rintro ⟨i,j⟩ ⟨hi,hij,hj,hsr⟩
   simp only at hi hij hj hsr
   dsimp only [go_sem,rA,rM,rS]
   by_cases hlt:i < j
   . refine Zw (by simpa using hlt) ?_
     dsimp only [go_sem,rA,rM,rS]
     simp (disch:=omega) only [Zf]
     rw [uwn (by omega) (by omega)]
     refine Zbv rfl (.inr rfl) (Ug _ (by omega)) rfl ?_
     dsimp only [go_sem,rA,rM,rS]
     obtain ⟨h,hh⟩:∃ h:Nat,((i:Int)+(j:Int)) / 2=(h:Int):=⟨(i+j) / 2,by omega⟩
     rw [hh,Zf (n:=(h:Int)) (by omega) (by omega)]
     have hih:i<=h/\h < j:=by omega
     have hph:=t4 h (by omega) (by omega)
     rw [Zf (n:=(mid:Int)+(m:Int) - 1 - (h:Int)) (by omega) (by omega)]
     (repeat first | dsimp only [go_sem,rA,rM,rS] | simp only [nbr])
     refine Yl (mid+m - 1 - h) (by omega) (by simp;omega) ?_
     (repeat first | dsimp only [go_sem,rA,rM,rS] | simp only [nbr])
     refine Xt (by omega) ?_
     (repeat first | dsimp only [loL,go_sem,rA,rM,rS] | simp only [nbr])
     refine Yl h rfl (by simp;omega) ?_
     (repeat first | dsimp only [go_sem,rA,rM,rS] | simp only [nbr])
     refine Xt (by omega) ?_
     (repeat first | dsimp only [loL,go_sem,rA,rM,rS] | simp only [nbr])
     refine Zal (by simp [FLT]) (res:=I (UB (loK l[mid+m - 1 - h]) (loK l[h]))) (by (repeat first | dsimp only [loL,go_sem,rA,rM,rS] | simp only [nbr]);exact UM _ _) ?_
     (repeat first | dsimp only [go_sem,rA,rM,rS] | simp only [nbr])
     by_cases hk:loK l[mid+m - 1 - h] < loK l[h]
     . refine Zu (by simp [UB,hk]) ?_
       dsimp only [go_sem,rA,rM,rS]
       have hkk:ky loK l (mid+m - 1 - h) < ky loK l h:=by rw [Xo loK (l:=l) (i:=h) (by omega),Xo loK (l:=l) (i:=mid+m - 1 - h) (by omega)];exact hk
       refine ⟨(i,h),⟨hi,by simp only;omega,by simp only;omega,Zdc hsr hs1 hs2 t1 t3 t4 hih.1 hih.2 hj hkk hi⟩,by simp only;omega,?_⟩
       (refine Zi ?_ ?_ ?_ rfl rfl<;>dsimp only [loL,id,go_sem,rA,rM,rS]<;>simp [loL,Zb,Ze,KFR,KFL,KF,Zd,mtO,nbr])
     . refine Zw (by simp [UB,hk];split<;>decide) ?_
       dsimp only [go_sem,rA,rM,rS]
       rw [Zf (n:=(h:Int)+1) (by omega) (by omega)]
       have hkk:ky loK l h<=ky loK l (mid+m - 1 - h):=by rw [Xo loK (l:=l) (i:=h) (by omega),Xo loK (l:=l) (i:=mid+m - 1 - h) (by omega)];exact Int.not_lt.1 hk
       refine ⟨(h+1,j),⟨by simp only;omega,by simp only;omega,hj,ZiS hsr hs1 hs2 t1 t3 t4 hih.1 hih.2 hj hkk hi⟩,by simp only;omega,?_⟩
       (refine Zi ?_ ?_ ?_ rfl rfl<;>dsimp only [loL,id,go_sem,rA,rM,rS]<;>simp [loL,Zb,Ze,KFR,KFL,KF,Zd,mtO,nbr])
   refine Zu (by simp;omega) ?_
   dsimp only [go_sem,rA,rM,rS]
   have cut:=Zsc (s:=i) ham hmb hm1'.1 hm1'.2 s0 r0 hs0 hr0 hi (by omega) (by rwa [show j=i from by omega] at hsr)
   rw [Zf (n:=(mid:Int)+(m:Int) - (i:Int)) (by omega) (by omega),show (mid:Int)+(m:Int) - (i:Int)=((mid+m - i:Nat):Int) from by omega]
   by_cases hr:i < m/\m < mid+m - i
   . rw [show decide ((i:Int) < (m:Int))=true from by simp;omega]
     repeat (refine .inl ⟨rfl,?_⟩;(repeat first | dsimp only [go_sem,rA,rM,rS] | simp only [nbr]))
     refine Zw (by simp;omega) ?_
     dsimp only [go_sem,rA,rM,rS]
     refine Zs [0,1] (Zsi v i m (mid+m - i) l hr.1 hr.2 (by omega) hL) rfl rfl rfl ?_ ?_ ?_
     . (repeat first | dsimp only [go_sem,rA,rM,rS] | simp only [nbr])
       simp [mtL,mtB,mtS]
     . (repeat first | dsimp only [go_sem,rA,rM,rS] | simp only [nbr])
       simp [Zb,KFR,loL,KFL,KF]
     rintro _ ⟨l1,hp1,hk1,rfl⟩
     (repeat first | dsimp only [Xh,go_sem,rA,rM,rS] | simp only [nbr])
     have cd:=Zcv loK cut hs1 hs2 hk1
     have pp:PIn a b l l1:=hp1.mono (by omega) (by have:=cut.e1;omega)
     have hl1:=pp.len
     by_cases hf:a < i/\i < mid
     . rw [show decide ((a:Int) < (i:Int))=true from by simp;omega]
       repeat (refine .inl ⟨rfl,?_⟩;(repeat first | dsimp only [go_sem,rA,rM,rS] | simp only [nbr]))
       refine Zw (by simp;omega) ?_
       dsimp only [go_sem,rA,rM,rS]
       refine Zs [0,1] (ih a i mid l1 (by omega) hf.1 hf.2 (by omega) (by omega) cd.s1 cd.s2) rfl rfl rfl ?_ ?_ ?_
       . (repeat first | dsimp only [go_sem,rA,rM,rS] | simp only [nbr])
         simp [mtL,mtB,mtS]
       . (repeat first | dsimp only [go_sem,rA,rM,rS] | simp only [nbr])
         simp [Zb,KFR,loL,KFL,KF]
       rintro _ ⟨l2,hp2,hs3,rfl⟩
       (repeat first | dsimp only [Xh,go_sem,rA,rM,rS] | simp only [nbr])
       have ce:=Zaw loK cd hp2 hs3 (by omega)
       have pq:PIn a b l l2:=pp.trans (hp2.mono (by omega) (by omega))
       have hl2:=pq.len
       by_cases hg:mid < mid+m - i/\mid+m - i < b
       . rw [show decide ((mid:Int) < ((mid+m - i:Nat):Int))=true from by simp;omega]
         repeat (refine .inl ⟨rfl,?_⟩;(repeat first | dsimp only [go_sem,rA,rM,rS] | simp only [nbr]))
         refine Zw (by simp;omega) ?_
         dsimp only [go_sem,rA,rM,rS]
         refine Zs [0,1] (ih mid (mid+m - i) b l2 (by omega) hg.1 hg.2 (by omega) (by omega) ce.s3 ce.s4) rfl rfl rfl ?_ ?_ ?_
         . (repeat first | dsimp only [go_sem,rA,rM,rS] | simp only [nbr])
           simp [mtL,mtB,mtS]
         . (repeat first | dsimp only [go_sem,rA,rM,rS] | simp only [nbr])
           simp [Zb,KFR,loL,KFL,KF]
         rintro _ ⟨l3,hp3,hs4,rfl⟩
         (repeat first | dsimp only [Xh,go_sem,rA,rM,rS] | simp only [nbr])
         refine ⟨_,⟨l3,pq.trans (hp3.mono (by omega) (by omega)),W5 loK ce hp3 hs4 (by omega),rfl⟩,?_⟩
         try simp only [Xh]
         (refine Zo ?_ ?_ ?_ rfl<;>dsimp only [loL,id,go_sem,rA,rM,rS]<;>simp [loL,Zb,Ze,KFR,KFL,KF,Zd,mtO,nbr])
       . skip
         repeat (refine gb ?_;(repeat first | dsimp only [go_sem,rA,rM,rS] | simp only [nbr]))
         refine Zu (by simp;omega) ?_
         dsimp only [go_sem,rA,rM,rS]
         refine ⟨_,⟨l2,pq,Zae loK ce hg,rfl⟩,?_⟩
         try simp only [Xh]
         (refine Zo ?_ ?_ ?_ rfl<;>dsimp only [loL,id,go_sem,rA,rM,rS]<;>simp [loL,Zb,Ze,KFR,KFL,KF,Zd,mtO,nbr])
     . skip
       repeat (refine gb ?_;(repeat first | dsimp only [go_sem,rA,rM,rS] | simp only [nbr]))
       refine Zu (by simp;omega) ?_
       dsimp only [go_sem,rA,rM,rS]
       have ce:=ZcA loK cd hf
       have pq:=pp
       have hl2:=pq.len
       by_cases hg:mid < mid+m - i/\mid+m - i < b
       . rw [show decide ((mid:Int) < ((mid+m - i:Nat):Int))=true from by simp;omega]
         repeat (refine .inl ⟨rfl,?_⟩;(repeat first | dsimp only [go_sem,rA,rM,rS] | simp only [nbr]))
         refine Zw (by simp;omega) ?_
         dsimp only [go_sem,rA,rM,rS]
         refine Zs [0,1] (ih mid (mid+m - i) b l1 (by omega) hg.1 hg.2 (by omega) (by omega) ce.s3 ce.s4) rfl rfl rfl ?_ ?_ ?_
         . (repeat first | dsimp only [go_sem,rA,rM,rS] | simp only [nbr])
           simp [mtL,mtB,mtS]
         . (repeat first | dsimp only [go_sem,rA,rM,rS] | simp only [nbr])
           simp [Zb,KFR,loL,KFL,KF]
         rintro _ ⟨l3,hp3,hs4,rfl⟩
         (repeat first | dsimp only [Xh,go_sem,rA,rM,rS] | simp only [nbr])
         refine ⟨_,⟨l3,pq.trans (hp3.mono (by omega) (by omega)),W5 loK ce hp3 hs4 (by omega),rfl⟩,?_⟩
         try simp only [Xh]
         (refine Zo ?_ ?_ ?_ rfl<;>dsimp only [loL,id,go_sem,rA,rM,rS]<;>simp [loL,Zb,Ze,KFR,KFL,KF,Zd,mtO,nbr])
       . skip
         repeat (refine gb ?_;(repeat first | dsimp only [go_sem,rA,rM,rS] | simp only [nbr]))
         refine Zu (by simp;omega) ?_
         dsimp only [go_sem,rA,rM,rS]
         refine ⟨_,⟨l1,pq,Zae loK ce hg,rfl⟩,?_⟩
         try simp only [Xh]
         (refine Zo ?_ ?_ ?_ rfl<;>dsimp only [loL,id,go_sem,rA,rM,rS]<;>simp [loL,Zb,Ze,KFR,KFL,KF,Zd,mtO,nbr])
   . skip
     repeat (refine gb ?_;(repeat first | dsimp only [go_sem,rA,rM,rS] | simp only [nbr]))
     refine Zu (by simp;omega) ?_
     dsimp only [go_sem,rA,rM,rS]
     have cd:=Zlw loK cut hs1 hs2 hr
     have pp:PIn a b l l:=.refl _ _ _
     have hl1:=pp.len
     by_cases hf:a < i/\i < mid
     . rw [show decide ((a:Int) < (i:Int))=true from by simp;omega]
       repeat (refine .inl ⟨rfl,?_⟩;(repeat first | dsimp only [go_sem,rA,rM,rS] | simp only [nbr]))
       refine Zw (by simp;omega) ?_
       dsimp only [go_sem,rA,rM,rS]
       refine Zs [0,1] (ih a i mid l (by omega) hf.1 hf.2 (by omega) (by omega) cd.s1 cd.s2) rfl rfl rfl ?_ ?_ ?_
       . (repeat first | dsimp only [go_sem,rA,rM,rS] | simp only [nbr])
         simp [mtL,mtB,mtS]
       . (repeat first | dsimp only [go_sem,rA,rM,rS] | simp only [nbr])
         simp [Zb,KFR,loL,KFL,KF]
       rintro _ ⟨l2,hp2,hs3,rfl⟩
       (repeat first | dsimp only [Xh,go_sem,rA,rM,rS] | simp only [nbr])
       have ce:=Zaw loK cd hp2 hs3 (by omega)
       have pq:PIn a b l l2:=pp.trans (hp2.mono (by omega) (by omega))
       have hl2:=pq.len
       by_cases hg:mid < mid+m - i/\mid+m - i < b
       . rw [show decide ((mid:Int) < ((mid+m - i:Nat):Int))=true from by simp;omega]
         repeat (refine .inl ⟨rfl,?_⟩;(repeat first | dsimp only [go_sem,rA,rM,rS] | simp only [nbr]))
         refine Zw (by simp;omega) ?_
         dsimp only [go_sem,rA,rM,rS]
         refine Zs [0,1] (ih mid (mid+m - i) b l2 (by omega) hg.1 hg.2 (by omega) (by omega) ce.s3 ce.s4) rfl rfl rfl ?_ ?_ ?_
         . (repeat first | dsimp only [go_sem,rA,rM,rS] | simp only [nbr])
           simp [mtL,mtB,mtS]
         . (repeat first | dsimp only [go_sem,rA,rM,rS] | simp only [nbr])
           simp [Zb,KFR,loL,KFL,KF]
         rintro _ ⟨l3,hp3,hs4,rfl⟩
         (repeat first | dsimp only [Xh,go_sem,rA,rM,rS] | simp only [nbr])
         refine ⟨_,⟨l3,pq.trans (hp3.mono (by omega) (by omega)),W5 loK ce hp3 hs4 (by omega),rfl⟩,?_⟩
         try simp only [Xh]
         (refine Zo ?_ ?_ ?_ rfl<;>dsimp only [loL,id,go_sem,rA,rM,rS]<;>simp [loL,Zb,Ze,KFR,KFL,KF,Zd,mtO,nbr])
       . skip
         repeat (refine gb ?_;(repeat first | dsimp only [go_sem,rA,rM,rS] | simp only [nbr]))
         refine Zu (by simp;omega) ?_
         dsimp only [go_sem,rA,rM,rS]
         refine ⟨_,⟨l2,pq,Zae loK ce hg,rfl⟩,?_⟩
         try simp only [Xh]
         (refine Zo ?_ ?_ ?_ rfl<;>dsimp only [loL,id,go_sem,rA,rM,rS]<;>simp [loL,Zb,Ze,KFR,KFL,KF,Zd,mtO,nbr])
     . skip
       repeat (refine gb ?_;(repeat first | dsimp only [go_sem,rA,rM,rS] | simp only [nbr]))
       refine Zu (by simp;omega) ?_
       dsimp only [go_sem,rA,rM,rS]
       have ce:=ZcA loK cd hf
       have pq:=pp
       have hl2:=pq.len
       by_cases hg:mid < mid+m - i/\mid+m - i < b
       . rw [show decide ((mid:Int) < ((mid+m - i:Nat):Int))=true from by simp;omega]
         repeat (refine .inl ⟨rfl,?_⟩;(repeat first | dsimp only [go_sem,rA,rM,rS] | simp only [nbr]))
         refine Zw (by simp;omega) ?_
         dsimp only [go_sem,rA,rM,rS]
         refine Zs [0,1] (ih mid (mid+m - i) b l (by omega) hg.1 hg.2 (by omega) (by omega) ce.s3 ce.s4) rfl rfl rfl ?_ ?_ ?_
         . (repeat first | dsimp only [go_sem,rA,rM,rS] | simp only [nbr])
           simp [mtL,mtB,mtS]
         . (repeat first | dsimp only [go_sem,rA,rM,rS] | simp only [nbr])
           simp [Zb,KFR,loL,KFL,KF]
         rintro _ ⟨l3,hp3,hs4,rfl⟩
         (repeat first | dsimp only [Xh,go_sem,rA,rM,rS] | simp only [nbr])
         refine ⟨_,⟨l3,pq.trans (hp3.mono (by omega) (by omega)),W5 loK ce hp3 hs4 (by omega),rfl⟩,?_⟩
         try simp only [Xh]
         (refine Zo ?_ ?_ ?_ rfl<;>dsimp only [loL,id,go_sem,rA,rM,rS]<;>simp [loL,Zb,Ze,KFR,KFL,KF,Zd,mtO,nbr])
       . skip
         repeat (refine gb ?_;(repeat first | dsimp only [go_sem,rA,rM,rS] | simp only [nbr]))
         refine Zu (by simp;omega) ?_
         dsimp only [go_sem,rA,rM,rS]
         refine ⟨_,⟨l,pq,Zae loK ce hg,rfl⟩,?_⟩
         try simp only [Xh]
         (refine Zo ?_ ?_ ?_ rfl<;>dsimp only [loL,id,go_sem,rA,rM,rS]<;>simp [loL,Zb,Ze,KFR,KFL,KF,Zd,mtO,nbr])
end Go.Proofs.Ythilckbkffjliaa
namespace Go.Azalai
section
variable {α : Type} (key:α->Int)
def Blk (s a b:Nat) (l:List α):Prop:=∀ p q,a<=p->p < q->q < b->p / s=q / s->ky key l p<=ky key l q
theorem ZfL {s:Nat} {l:List α}:Blk key s 0 0 l:=fun p q h1 h2 h3=>by omega
theorem Zym {s c p q:Nat} (h:p / s=q / s) (h1:s * c<=q) (hs:0 < s):s * c<=p:=by
 have e1:c<=q / s:=(Nat.le_div_iff_mul_le hs).2 (by rw [Nat.mul_comm];exact h1)
 rw [<- h] at e1
 have:=(Nat.le_div_iff_mul_le hs).1 e1
 rwa [Nat.mul_comm] at this
theorem ZcB {s c b:Nat} {l l':List α} (hs:0 < s) (h:Blk key s 0 (s * c) l) (hp:PIn (s * c) b l l') (h':Srt key (s * c) b l'):Blk key s 0 b l':=fun p q g1 g2 g3 e=>by
 by_cases hq:q < s * c
 . rw [hp.ky key (.inl (by omega)),hp.ky key (.inl hq)];exact h p q g1 g2 hq e
 . exact h' p q (Zym e (by omega) hs) g2 g3
theorem ZnQ {s a b n:Nat} {l l':List α} (h:Blk key s a n l) (hp:PIn a b l l') (hab:a<=b):Blk key s b n l':=fun p q g1 g2 g3 e=>by
 rw [hp.ky key (.inr g1),hp.ky key (.inr (by omega))];exact h p q (by omega) g2 g3 e
theorem ZfF {s c p:Nat} (h1:s * c<=p) (h2:p < s * c+s):p / s=c:=by
 have hs:0 < s:=by omega
 apply Nat.le_antisymm
 . have:p / s < c+1:=(Nat.div_lt_iff_lt_mul hs).2 (by rw [Nat.add_mul,Nat.one_mul,Nat.mul_comm];exact h2)
   omega
 . exact (Nat.le_div_iff_mul_le hs).2 (by rw [Nat.mul_comm];exact h1)
theorem ZcT {s c a b n:Nat} {l:List α} (h:Blk key s a n l) (ha:a<=s * c) (hb:b<=s * c+s) (hn:b<=n):Srt key (s * c) b l:=fun p q g1 g2 g3=>by
 refine h p q (by omega) g2 (by omega) ?_
 rw [ZfF g1 (by omega),ZfF (c:=c) (p:=q) (by omega) (by omega)]
end
end Go.Azalai
namespace Go.Proofs.Ythilckbkffjliaa
open Go Go.Sx Go.Azalai
theorem Zyz (v n:Nat) (l:List LO) (hn:n=l.length) (hL:l.length < 1152921504606846976) :
 CtM Try.prog 109 [(0,.row v 8 (l.map loL) 50),(1,byH)] 2 [.mr 0 v,I n,.cl 88 [.p 1 0]] (fun o=>∃ l',PIn 0 n l l'/\Srt loK 0 n l'/\o=Xh v l'):=by
 refine m109 (by simp [hpb]) (fun o ho=>by obtain ⟨l',_,_,rfl⟩:=ho;simp [Xh,byH,KX,KXL,KXP,KXH,Zb,KFR,KFL,KF,loL]) ?_
 dsimp only [c109,r109,go_sem,rA,rM,rS]
 refine Yf (fun s:Nat × List LO=>[(7,I (20 * s.1:Nat)),(8,I (20 * s.1+20:Nat))]) (fun s=>[(0,.row v 8 (s.2.map loL) 50)]) (fun s=>20 * s.1<=n/\PIn 0 n l s.2/\Blk loK 20 0 (20 * s.1) s.2) (fun s=>n - 20 * s.1) (0,l) ⟨by simp only;omega,.refl _ _ _,ZfL loK⟩ ?_ ?_
 . (refine Zi ?_ ?_ ?_ rfl rfl<;>dsimp only [loL,id,go_sem,rA,rM,rS]<;>simp [loL,Zb,Ze,KFR,KFL,KF,Zd,mtO,nbr])
 rintro ⟨c,l1⟩ ⟨hc,hp,hb⟩
 simp only at hc hp hb
 have hl1:=hp.len
 dsimp only [go_sem,rA,rM,rS]
 by_cases hlt:20 * c+20<=n
 . refine Zw (by simp;omega) ?_
   dsimp only [go_sem,rA,rM,rS]
   refine Zs [0,1] (Zh0 v (20 * c) (20 * c+20) l1 (by omega) (by omega) (by omega)) rfl rfl rfl ?_ ?_ ?_
   . (repeat first | dsimp only [go_sem,rA,rM,rS] | simp only [nbr])
     simp [mtL,mtB,mtS]
   . (repeat first | dsimp only [go_sem,rA,rM,rS] | simp only [nbr])
     simp [Zb,KFR,loL,KFL,KF]
   rintro _ ⟨l2,hp2,hs2,rfl⟩
   (repeat first | dsimp only [Xh,go_sem,rA,rM,rS] | simp only [nbr])
   rw [Zf (n:=((20 * c+20:Nat):Int)+20) (by omega) (by omega)]
   refine ⟨(c+1,l2),⟨by simp only;omega,hp.trans (hp2.mono (by omega) (by omega)),?_⟩,by simp only;omega,?_⟩
   . exact ZcB loK (by omega) hb hp2 hs2
   rw [show ((20 * c+20:Nat):Int)+20=((20 * (c+1)+20:Nat):Int) from by omega,show 20 * c+20=20 * (c+1) from by omega]
   (refine Zi ?_ ?_ ?_ rfl rfl<;>dsimp only [loL,id,go_sem,rA,rM,rS]<;>simp [loL,Zb,Ze,KFR,KFL,KF,Zd,mtO,nbr])
 refine Zu (by simp;omega) ?_
 dsimp only [go_sem,rA,rM,rS]
 refine Zs [0,1] (Zh0 v (20 * c) n l1 (by omega) (by omega) (by omega)) rfl rfl rfl ?_ ?_ ?_
 . (repeat first | dsimp only [go_sem,rA,rM,rS] | simp only [nbr])
   simp [mtL,mtB,mtS]
 . (repeat first | dsimp only [go_sem,rA,rM,rS] | simp only [nbr])
   simp [Zb,KFR,loL,KFL,KF]
 rintro _ ⟨l2,hp2,hs2,rfl⟩
 (repeat first | dsimp only [Xh,go_sem,rA,rM,rS] | simp only [nbr])
 have hb2:=ZcB loK (by omega) hb hp2 hs2
 refine Yf (fun s:Nat × List LO × Int × Int=>[(6,I (s.1:Nat)),(7,I s.2.2.1),(8,I s.2.2.2)]) (fun s=>[(0,.row v 8 (s.2.1.map loL) 50)]) (fun s=>(0 < s.1/\s.1<=2 * n+20)/\PIn 0 n l s.2.1/\Blk loK s.1 0 n s.2.1) (fun s=>n - s.1) (20,l2,((20 * c:Nat):Int),((20 * c+20:Nat):Int)) ⟨by simp only;omega,hp.trans (hp2.mono (by omega) (by omega)),hb2⟩ ?_ ?_
 . (refine Zi ?_ ?_ ?_ rfl rfl<;>dsimp only [loL,id,go_sem,rA,rM,rS]<;>simp [loL,Zb,Ze,KFR,KFL,KF,Zd,mtO,nbr])
 rintro ⟨s,l3,z1,z2⟩ ⟨⟨hs0,hs1⟩,hp3,hb3⟩
 simp only at hs0 hs1 hp3 hb3
 have hl3:=hp3.len
 dsimp only [go_sem,rA,rM,rS]
 by_cases hlt:s < n
 case neg =>
  refine Zu (by simp;omega) ?_
  dsimp only [go_sem,rA,rM,rS]
  refine ⟨_,⟨l3,hp3,?_,rfl⟩,?_⟩
  . have:=ZcT loK (c:=0) hb3 (Nat.zero_le _) (show n<=s * 0+s by omega) (Nat.le_refl _)
    rwa [Nat.mul_zero] at this
  . try simp only [Xh]
    (refine Zo ?_ ?_ ?_ rfl<;>dsimp only [loL,id,go_sem,rA,rM,rS]<;>simp [loL,Zb,Ze,KFR,KFL,KF,Zd,mtO,nbr])
 refine Zw (by simp;omega) ?_
 dsimp only [go_sem,rA,rM,rS]
 rw [Zf (n:=2 * (s:Int)) (by omega) (by omega)]
 refine Yf (fun z:Nat × List LO=>[(7,I (2 * s * z.1:Nat)),(8,I (2 * s * z.1+2 * s:Nat))]) (fun z=>[(0,.row v 8 (z.2.map loL) 50)]) (fun z=>2 * s * z.1<=n/\PIn 0 n l z.2/\Blk loK (2 * s) 0 (2 * s * z.1) z.2/\Blk loK s (2 * s * z.1) n z.2) (fun z=>n - 2 * s * z.1) (0,l3) ⟨by simp only;omega,hp3,ZfL loK,hb3⟩ ?_ ?_
 . rw [show 2 * (s:Int)=((2 * s * 0+2 * s:Nat):Int) from by omega]
   (refine Zi ?_ ?_ ?_ rfl rfl<;>dsimp only [loL,id,go_sem,rA,rM,rS]<;>simp [loL,Zb,Ze,KFR,KFL,KF,Zd,mtO,nbr])
 rintro ⟨c',l4⟩ ⟨hc4,hp4,hb4,hb5⟩
 simp only at hc4 hp4 hb4 hb5
 have hl4:=hp4.len
 have e5:s * (2 * c')=2 * s * c':=by rw [<- Nat.mul_assoc,Nat.mul_comm s 2]
 have e6:s * (2 * c'+1)=2 * s * c'+s:=by rw [Nat.mul_add,e5,Nat.mul_one]
 have e7:2 * s * (c'+1)=2 * s * c'+2 * s:=by rw [Nat.mul_add,Nat.mul_one]
 dsimp only [go_sem,rA,rM,rS]
 have hq1:2 * s * c'+s<=n->Srt loK (2 * s * c') (2 * s * c'+s) l4:=fun h=>by
  have:=ZcT loK (c:=2 * c') (b:=2 * s * c'+s) hb5 (by omega) (by omega) (by omega)
  rwa [e5] at this
 have hq2:∀ b,b<=2 * s * c'+2 * s->b<=n->Srt loK (2 * s * c'+s) b l4:=fun b h1 h2=>by
  have:=ZcT loK (c:=2 * c'+1) (b:=b) hb5 (by omega) (by omega) (by omega)
  rwa [e6] at this
 have hstep:∀ b l',PIn (2 * s * c') b l4 l'->Srt loK (2 * s * c') b l'->Blk loK (2 * s) 0 b l':=fun b l' h1 h2=>ZcB loK (by omega) hb4 h1 h2
 have hlast:n<=2 * s * c'+s->Blk loK (2 * s) 0 n l4:=fun h=>by
  have:=ZcT loK (c:=2 * c') (b:=n) hb5 (by omega) (by omega) (by omega)
  rw [e5] at this
  exact hstep n l4 (.refl _ _ _) this
 clear hb4
 clear e5 e6
 generalize ha:2 * s * c'=a at *
 by_cases hlt2:a+2 * s<=n
 . refine Zw (by simp;omega) ?_
   dsimp only [go_sem,rA,rM,rS]
   rw [Zf (n:=(a:Int)+(s:Int)) (by omega) (by omega),show (a:Int)+(s:Int)=((a+s:Nat):Int) from by omega]
   refine Zs [0,1] (ZrV v _ a (a+s) (a+2 * s) l4 (Nat.le_refl _) (by omega) (by omega) (by omega) (by omega) (hq1 (by omega)) (hq2 _ (by omega) (by omega))) rfl rfl rfl ?_ ?_ ?_
   . (repeat first | dsimp only [go_sem,rA,rM,rS] | simp only [nbr])
     simp [mtL,mtB,mtS]
   . (repeat first | dsimp only [go_sem,rA,rM,rS] | simp only [nbr])
     simp [Zb,KFR,loL,KFL,KF]
   rintro _ ⟨l5,hp5,hs5,rfl⟩
   (repeat first | dsimp only [Xh,go_sem,rA,rM,rS] | simp only [nbr])
   rw [Zf (n:=2 * (s:Int)) (by omega) (by omega),Zf (n:=((a+2 * s:Nat):Int)+2 * (s:Int)) (by omega) (by omega)]
   refine ⟨(c'+1,l5),⟨by simp only;omega,hp4.trans (hp5.mono (by omega) (by omega)),?_,?_⟩,by simp only [e7,ha];omega,?_⟩
   . simp only;rw [e7];exact hstep _ _ hp5 hs5
   . simp only;rw [e7];exact ZnQ loK hb5 hp5 (by omega)
   . simp only [e7]
     rw [show ((a+2 * s:Nat):Int)+2 * (s:Int)=((a+2 * s+2 * s:Nat):Int) from by omega]
     (refine Zi ?_ ?_ ?_ rfl rfl<;>dsimp only [loL,id,go_sem,rA,rM,rS]<;>simp [loL,Zb,Ze,KFR,KFL,KF,Zd,mtO,nbr])
 refine Zu (by simp;omega) ?_
 dsimp only [go_sem,rA,rM,rS]
 rw [Zf (n:=(a:Int)+(s:Int)) (by omega) (by omega),show (a:Int)+(s:Int)=((a+s:Nat):Int) from by omega]
 by_cases hm:a+s < n
 . refine Zw (by simp;omega) ?_
   dsimp only [go_sem,rA,rM,rS]
   refine Zs [0,1] (ZrV v _ a (a+s) n l4 (Nat.le_refl _) (by omega) (by omega) (by omega) (by omega) (hq1 (by omega)) (hq2 _ (by omega) (by omega))) rfl rfl rfl ?_ ?_ ?_
   . (repeat first | dsimp only [go_sem,rA,rM,rS] | simp only [nbr])
     simp [mtL,mtB,mtS]
   . (repeat first | dsimp only [go_sem,rA,rM,rS] | simp only [nbr])
     simp [Zb,KFR,loL,KFL,KF]
   rintro _ ⟨l5,hp5,hs5,rfl⟩
   (repeat first | dsimp only [Xh,go_sem,rA,rM,rS] | simp only [nbr])
   rw [Zf (n:=(s:Int) * 2) (by omega) (by omega),show (s:Int) * 2=((2 * s:Nat):Int) from by omega]
   refine ⟨(2 * s,l5,(a:Int),((a+2 * s:Nat):Int)),⟨by simp only;omega,hp4.trans (hp5.mono (by omega) (by omega)),hstep _ _ hp5 hs5⟩,by simp only;omega,?_⟩
   (refine Zi ?_ ?_ ?_ rfl rfl<;>dsimp only [loL,id,go_sem,rA,rM,rS]<;>simp [loL,Zb,Ze,KFR,KFL,KF,Zd,mtO,nbr])
 refine Zu (by simp;omega) ?_
 dsimp only [go_sem,rA,rM,rS]
 rw [Zf (n:=(s:Int) * 2) (by omega) (by omega),show (s:Int) * 2=((2 * s:Nat):Int) from by omega]
 refine ⟨(2 * s,l4,(a:Int),((a+2 * s:Nat):Int)),⟨by simp only;omega,hp4,hlast (by omega)⟩,by simp only;omega,?_⟩
 (refine Zi ?_ ?_ ?_ rfl rfl<;>dsimp only [loL,id,go_sem,rA,rM,rS]<;>simp [loL,Zb,Ze,KFR,KFL,KF,Zd,mtO,nbr])
theorem ZtO (v:Nat) (l:List LO) (hL:l.length < 1152921504606846976) :
 CtM Try.prog 87 [(0,.row v 8 (l.map loL) 50),(1,byH)] 2 [.mr 0 v,.cl 88 [.p 1 0]] (fun o=>∃ l',PIn 0 l.length l l'/\Srt loK 0 l.length l'/\o=Xh v l'):=by
 refine m87 (by simp [hpb]) (fun o ho=>by obtain ⟨l',_,_,rfl⟩:=ho;simp [Xh,byH,KX,KXL,KXP,KXH,Zb,KFR,KFL,KF,loL]) ?_
 dsimp only [c87,r87,go_sem,rA,rM,rS]
 (repeat first | dsimp only [go_sem,rA,rM,rS] | simp only [nbr])
 simp only [List.length_map]
 refine Zs [0,1] (Zyz v l.length l rfl hL) rfl rfl rfl ?_ ?_ ?_
 . (repeat first | dsimp only [go_sem,rA,rM,rS] | simp only [nbr])
   simp [mtL,mtB,mtS]
 . (repeat first | dsimp only [go_sem,rA,rM,rS] | simp only [nbr])
   simp [Zb,KFR,loL,KFL,KF]
 rintro _ ⟨l5,hp5,hs5,rfl⟩
 (repeat first | dsimp only [Xh,go_sem,rA,rM,rS] | simp only [nbr])
 refine ⟨_,⟨l5,hp5,hs5,rfl⟩,?_⟩
 try simp only [Xh]
 (refine Zo ?_ ?_ ?_ rfl<;>dsimp only [loL,id,go_sem,rA,rM,rS]<;>simp [loL,Zb,Ze,KFR,KFL,KF,Zd,mtO,nbr])
end Go.Proofs.Ythilckbkffjliaa
namespace Go.Azalai
def loV (x:LO):Letter:=x.1
def Zif (l:List Letter):Prop:=∀ x ∈ l,0<=x.id/\x.id<=9999
theorem Zyv:∀ {l:List Letter},Zif l->∃ L:List LO,L.map loV=l
 | [],_=>⟨[],rfl⟩
 | x :: l,h=>by
  obtain ⟨L,hL⟩:=Zyv (l:=l) fun y hy=>h y (by simp [hy])
  let x':LO:=⟨x,h x (by simp)⟩
  have e:loV x'=x:=rfl
  exact ⟨x' :: L,by rw [List.map_cons,hL,e]⟩
theorem ZyG {L L':List LO} (hp:L'.Perm L) (hs:Srt loK 0 L.length L') (hn:((L.map loV).map (·.id)).Nodup):L'.map loV=Zxt (L.map loV):=by
 have hlen:=hp.length_eq
 have hn':((L'.map loV).map (·.id)).Nodup:=(((hp.map _).map _).nodup_iff).2 hn
 refine Zcn ?_ (ZcS hn) fun x=>by rw [Wi.mem_iff,(hp.map _).mem_iff]
 rw [List.pairwise_map,List.pairwise_iff_getElem]
 intro i j hi hj hij
 have h:=hs i j (Nat.zero_le _) hij (by omega)
 rw [Xo loK (by omega),Xo loK (by omega)] at h
 rw [List.map_map,List.nodup_iff_pairwise_ne,List.pairwise_map,List.pairwise_iff_getElem] at hn'
 have hne:=hn' i j hi hj hij
 have h1:0<=(loV L'[i]).id/\(loV L'[i]).id<=9999:=L'[i].2
 have h2:0<=(loV L'[j]).id/\(loV L'[j]).id<=9999:=L'[j].2
 have h:(loV L'[i]).day * 10000+(loV L'[i]).id<=(loV L'[j]).day * 10000+(loV L'[j]).id:=h
 have hne:(loV L'[i]).id≠(loV L'[j]).id:=hne
 generalize loV L'[i]=a at *
 generalize loV L'[j]=b at *
 simp only [lt2,Bool.or_eq_true,Bool.and_eq_true,decide_eq_true_eq]
 omega
end Go.Azalai
namespace Go.Proofs.Ythilckbkffjliaa
open Go Go.Sx Go.Azalai
theorem Zj5 (L:List LO):(L.map loV).map Zc=L.map loL:=by rw [List.map_map];rfl
theorem Zmq (l:List LO) (hL:l.length<=1000) (k:Bool):CtM Try.prog 86 [] 0 [.sl k 8 (l.map loL)] (fun o=>o=⟨false,.mr 0 0,[(0,.row 0 8 (l.map loL) 50)],1⟩):=by
 refine m86 (by simp [hpb]) (fun o ho=>by subst ho;simp [KX,KXL,KXP,KXH,Zb,KFL,KF,loL]) ?_
 dsimp only [c86,r86,go_sem,rA,rM,rS]
 intro b hb
 dsimp only [go_sem,rA,rM,rS]
 cases b with
 | true =>
  have hl:l=[]:=by simpa using hb rfl
  subst hl
  refine Zw rfl ?_
  dsimp only [go_sem,rA,rM,rS]
  refine ⟨_,rfl,?_⟩
  refine Zjv (YF (ZX 0 8 50 rfl rfl) ?_) (fun _ _ _ e=>by cases e)
  (refine Zi ?_ ?_ ?_ rfl rfl<;>dsimp only [loL,id,go_sem,rA,rM,rS]<;>simp [loL,Zb,Ze,KFR,KFL,KF,Zd,mtO,nbr])
 | false =>
  refine Zu rfl ?_
  dsimp only [go_sem,rA,rM,rS]
  refine ⟨by simp;omega,?_⟩
  dsimp only [go_sem,rA,rM,rS]
  refine ⟨_,rfl,?_⟩
  (refine Zo ?_ ?_ ?_ rfl<;>dsimp only [loL,id,go_sem,rA,rM,rS]<;>simp [loL,Zb,Ze,KFR,KFL,KF,Zd,mtO,nbr])
theorem Zyy (l:List Letter) (hl:Zif l) (hn:(l.map (·.id)).Nodup) (hL:l.length<=1000) (k:Bool):Ct Try.prog 67 [.sl k 8 (l.map Zc),.sl true 1 [[.cl 68 []],[.cl 69 []]]] (.sl false 8 ((Zxt l).map Zc)):=by
 obtain ⟨L,rfl⟩:=Zyv hl
 rw [Zj5]
 have hL:L.length<=1000:=by simpa using hL
 refine t67.1 (by simp [Zb,KFR,loL,KFL,KF]) (by simp [Zb,Zc,KFL,KF]) ?_
 dsimp only [c67,r67,go_sem,rA,rM,rS]
 refine Zs [] (Zmq L hL k) rfl rfl rfl ?_ ?_ ?_
 . (repeat first | dsimp only [go_sem,rA,rM,rS] | simp only [nbr])
   try simp [mtL,mtB,mtS,Zb,KFL,KF,loL]
 . trivial
 rintro _ rfl
 (repeat first | dsimp only [go_sem,rA,rM,rS] | simp only [nbr])
 refine gh ZL ?_
 (repeat first | dsimp only [go_sem,rA,rM,rS] | simp only [nbr])
 refine Zs [1,0] (ZtO 0 L (by omega)) rfl rfl rfl ?_ ?_ ?_
 . (repeat first | dsimp only [go_sem,rA,rM,rS] | simp only [nbr])
   try simp [mtL,mtB,mtS]
 . (repeat first | dsimp only [go_sem,rA,rM,rS] | simp only [nbr])
   simp [Zb,KFR,loL,KFL,KF]
 rintro _ ⟨L',hp,hs,rfl⟩
 (repeat first | dsimp only [Xh,go_sem,rA,rM,rS] | simp only [nbr])
 refine gh (WN 0 1 0 rfl rfl rfl rfl) ?_
 (repeat first | dsimp only [go_sem,rA,rM,rS] | simp only [nbr])
 rw [<- ZyG hp.perm hs hn,Zj5]
end Go.Proofs.Ythilckbkffjliaa
