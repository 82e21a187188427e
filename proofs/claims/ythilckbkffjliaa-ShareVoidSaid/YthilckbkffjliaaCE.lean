/- Walks and plain laws that lead to the given statement, part 5 of 9. -/
import Derived.Test.YthilckbkffjliaaCD
import Derived.Test.YthilckbkffjliaaProg
import Derived.MapKept
import Derived.WideKeyRuns
set_option linter.all false
open Nat renaming reduceAdd→rA,reduceMul→rM,reduceSub→rS,beq_refl→nbr
set_option maxRecDepth 100000
namespace Go.Sx
def m1 (d t:Nat):Ins:=⟨some d,.mv (.t t),none,[]⟩
def o1 (d:Nat) (i:SI):Ins:=⟨some d,i,none,[]⟩
attribute [go_sem] m1 o1
end Go.Sx
namespace Go.Proofs.Ythilckbkffjliaa
open Go Go.Sx
def c16:SC:=(.seq (.reg [
 o1 2 (.box (.t 0) 0 24),
 o1 4 (.mv (.c (.bool false)))])
 (.seq (.reg [
 o1 5 (.addo (.t 2) 0),
 o1 6 (.ld (.t 5) 1 false),
 o1 7 (.len (.t 6)),
 o1 8 (.bin .gtr (.t 7) (.c (.int .i64 12))),
 m1 9 8,
 ⟨some 10,.mv (.t 1),some (9,false),[]⟩,
 ⟨some 11,.len (.t 10),some (9,false),[]⟩,
 ⟨some 12,.bin .gtr (.t 11) (.c (.int .i64 150)),some (9,false),[]⟩,
 o1 13 (.pick (.t 9) (.c (.bool true)) (.t 12)),
 m1 4 13])
 .ret))
def r16:List RV:=[.tmp 4]
theorem n16:Try.f16.ntmps=14:=by kernel_rfl
theorem b16:bodyB Try.prog 16=true:=by kernel_rfl
theorem c16_ok:cmpC Try.prog c16 ((Try.f16.body).getD .skip)=true:=by kernel_rfl
theorem r16_ok:cmpR Try.prog r16 Try.f16.results.toList=true:=by kernel_rfl
theorem t16 {args:List SV} {res:SV} (ka:KFL args) (kr:KF res) (h:sx Try.prog Y0 0 c16 (st0 args 14) (retK r16 res)) (hA:Nat.ble args.length 14=true:=by rfl):Ct Try.prog 16 args res:=ct_intro Try.func16 rfl b16 c16_ok r16_ok n16 (Nat.le_of_ble_eq_true hA) ka kr h
def c20:SC:=(.seq (.reg [
 o1 1 (.box (.t 0) 0 24),
 o1 2 (.mv (.c (.int .i64 0)))])
 (.seq (.seq (.reg [
 o1 8 (.addo (.t 1) 0),
 o1 9 (.ld (.t 8) 1 false),
 o1 10 (.len (.t 9)),
 o1 11 (.bsl 1 3 [.t 10]),
 o1 12 (.call 42 [.c (.int .i64 1),.c (.int .i64 8),.t 11]),
 o1 13 (.un .not (.t 12)),
 m1 14 13,
 ⟨some 15,.addo (.t 1) 1,some (14,false),[]⟩,
 ⟨some 16,.ld (.t 15) 1 false,some (14,false),[]⟩,
 ⟨some 17,.bsl 1 3 [.t 16],some (14,false),[]⟩,
 ⟨some 18,.call 42 [.c (.int .i64 0),.c (.int .i64 1000),.t 17],some (14,false),[]⟩,
 ⟨some 19,.un .not (.t 18),some (14,false),[]⟩,
 o1 20 (.pick (.t 14) (.c (.bool true)) (.t 19)),
 m1 21 20,
 ⟨some 22,.addo (.t 1) 2,some (21,false),[]⟩,
 ⟨some 23,.ld (.t 22) 1 false,some (21,false),[]⟩,
 ⟨some 24,.bsl 1 3 [.t 23],some (21,false),[]⟩,
 ⟨some 25,.call 42 [.c (.int .i64 0),.c (.int .i64 1000),.t 24],some (21,false),[]⟩,
 ⟨some 26,.un .not (.t 25),some (21,false),[]⟩,
 o1 27 (.pick (.t 21) (.c (.bool true)) (.t 26)),
 m1 28 27,
 ⟨some 29,.addo (.t 1) 3,some (28,false),[]⟩,
 ⟨some 30,.ld (.t 29) 1 false,some (28,false),[]⟩,
 ⟨some 31,.bsl 1 3 [.t 30],some (28,false),[]⟩,
 ⟨some 32,.call 42 [.c (.int .i64 0),.c (.int .i64 100000),.t 31],some (28,false),[]⟩,
 ⟨some 33,.un .not (.t 32),some (28,false),[]⟩,
 o1 34 (.pick (.t 28) (.c (.bool true)) (.t 33))])
 (.cond (.t 34)
 (.seq (.reg [
  o1 2 (.mv (.c (.int .i64 80)))])
  .ret)
 .skip))
 (.seq (.reg [
 o1 3 (.mv (.c (.int .i64 (-1)))),
 o1 4 (.mv (.c (.int .i64 0))),
 o1 5 (.mv (.c (.int .i64 0)))])
 (.seq (.seq (.reg [
 o1 35 (.addo (.t 1) 0),
 o1 36 (.ld (.t 35) 1 false),
 o1 37 (.len (.t 36)),
 o1 38 (.mv (.c (.int .i64 0)))])
 (.block 0 (.loop (.seq (.reg [
  o1 39 (.bin .lss (.t 38) (.t 37))])
  (.seq (.cond (.t 39)
  .skip
  (.exit 0))
  (.seq (.block 1 (.seq (.reg [
   o1 40 (.ixs (.t 36) (.t 38) 3),
   o1 41 (.ld (.t 40) 3 true),
   o1 7 (.alloc [.int .i64 0,.int .i64 0,.int .i64 0] 64),
   ⟨none,.st (.t 7) (.t 41) 3,none,[]⟩])
   (.seq (.seq (.reg [
   m1 42 3,
   o1 43 (.bin .add (.t 42) (.c (.int .i64 1))),
   o1 44 (.addo (.t 7) 0),
   o1 45 (.ld (.t 44) 1 false),
   o1 46 (.bsl 1 3 [.t 45]),
   o1 47 (.call 42 [.t 43,.c (.int .i64 9999),.t 46]),
   o1 48 (.un .not (.t 47)),
   m1 49 48,
   ⟨some 50,.addo (.t 7) 1,some (49,false),[]⟩,
   ⟨some 51,.ld (.t 50) 1 false,some (49,false),[]⟩,
   ⟨some 52,.bsl 1 3 [.t 51],some (49,false),[]⟩,
   ⟨some 53,.call 42 [.c (.int .i64 0),.c (.int .i64 100000000),.t 52],some (49,false),[]⟩,
   ⟨some 54,.un .not (.t 53),some (49,false),[]⟩,
   o1 55 (.pick (.t 49) (.c (.bool true)) (.t 54)),
   m1 56 55,
   ⟨some 57,.addo (.t 7) 2,some (56,false),[]⟩,
   ⟨some 58,.ld (.t 57) 1 false,some (56,false),[]⟩,
   ⟨some 59,.bsl 1 3 [.t 58],some (56,false),[]⟩,
   ⟨some 60,.call 42 [.c (.int .i64 0),.c (.int .i64 1000),.t 59],some (56,false),[]⟩,
   ⟨some 61,.un .not (.t 60),some (56,false),[]⟩,
   o1 62 (.pick (.t 56) (.c (.bool true)) (.t 61))])
   (.cond (.t 62)
   (.seq (.reg [
    o1 2 (.mv (.c (.int .i64 80)))])
    .ret)
   .skip))
   (.regd [0,1,2,3,4,5,6,7,8,9,10,11,12] [
   .op (o1 63 (.addo (.t 7) 0)),
   .op ⟨some 64,.ld (.t 63) 1 false,none,[0]⟩,
   .op (m1 65 4),
   .op (o1 66 (.addo (.t 7) 1)),
   .op ⟨some 67,.ld (.t 66) 1 false,none,[3]⟩,
   .op ⟨some 68,.bin .add (.t 65) (.t 67),none,[2,4]⟩,
   .op (m1 69 5),
   .op (o1 70 (.addo (.t 7) 2)),
   .op ⟨some 71,.ld (.t 70) 1 false,none,[7]⟩,
   .op ⟨some 72,.bin .add (.t 69) (.t 71),none,[6,8]⟩,
   .op ⟨some 3,.mv (.t 64),none,[0,1]⟩,
   .op ⟨some 4,.mv (.t 68),none,[0,1,2,3,4,5,10]⟩,
   .op ⟨some 5,.mv (.t 72),none,[0,1,2,3,4,5,6,7,8,9,10,11]⟩] 0 0 [
]))))
 (.reg [
 o1 73 (.bin .add (.t 38) (.c (.int .i64 1))),
 m1 38 73])))))))
 (.seq (.seq (.reg [
 m1 74 4,
 o1 75 (.bin .eql (.t 74) (.c (.int .i64 0))),
 m1 76 75,
 ⟨some 77,.mv (.t 5),some (76,false),[]⟩,
 ⟨some 78,.bin .neq (.t 77) (.c (.int .i64 1000)),some (76,false),[]⟩,
 o1 79 (.pick (.t 76) (.c (.bool true)) (.t 78))])
 (.cond (.t 79)
 (.seq (.reg [
  o1 2 (.mv (.c (.int .i64 80)))])
  .ret)
 .skip))
 (.seq (.reg [
 o1 2 (.mv (.c (.int .i64 0)))])
 .ret))))))
def r20:List RV:=[.tmp 2]
theorem n20:Try.f20.ntmps=80:=by kernel_rfl
theorem b20:bodyB Try.prog 20=true:=by kernel_rfl
theorem c20_ok:cmpC Try.prog c20 ((Try.f20.body).getD .skip)=true:=by kernel_rfl
theorem r20_ok:cmpR Try.prog r20 Try.f20.results.toList=true:=by kernel_rfl
theorem t20 {args:List SV} {res:SV} (ka:KFL args) (kr:KF res) (h:sx Try.prog Y0 0 c20 (st0 args 80) (retK r20 res)) (hA:Nat.ble args.length 80=true:=by rfl):Ct Try.prog 20 args res:=ct_intro Try.func20 rfl b20 c20_ok r20_ok n20 (Nat.le_of_ble_eq_true hA) ka kr h
def c21:SC:=(.seq (.reg [
 o1 1 (.box (.t 0) 0 24),
 o1 2 (.mv (.c (.int .i64 0)))])
 (.seq (.seq (.reg [
 o1 3 (.ld (.t 1) 4 true),
 o1 4 (.call 44 [.t 3]),
 o1 5 (.un .not (.t 4))])
 (.cond (.t 5)
 (.seq (.reg [
  o1 2 (.mv (.c (.int .i64 80)))])
  .ret)
 .skip))
 (.seq (.reg [
 o1 2 (.mv (.c (.int .i64 0)))])
 .ret)))
def r21:List RV:=[.tmp 2]
theorem n21:Try.f21.ntmps=6:=by kernel_rfl
theorem b21:bodyB Try.prog 21=true:=by kernel_rfl
theorem c21_ok:cmpC Try.prog c21 ((Try.f21.body).getD .skip)=true:=by kernel_rfl
theorem r21_ok:cmpR Try.prog r21 Try.f21.results.toList=true:=by kernel_rfl
theorem t21 {args:List SV} {res:SV} (ka:KFL args) (kr:KF res) (h:sx Try.prog Y0 0 c21 (st0 args 6) (retK r21 res)) (hA:Nat.ble args.length 6=true:=by rfl):Ct Try.prog 21 args res:=ct_intro Try.func21 rfl b21 c21_ok r21_ok n21 (Nat.le_of_ble_eq_true hA) ka kr h
def c22:SC:=(.seq (.reg [
 o1 4 (.mv (.c (.bool false)))])
 (.seq (.seq (.reg [
 m1 6 0,
 o1 7 (.len (.t 6)),
 m1 8 1,
 o1 9 (.len (.t 8)),
 o1 10 (.bin .neq (.t 7) (.t 9))])
 (.cond (.t 10)
 (.seq (.reg [
  o1 4 (.mv (.c (.bool false)))])
  .ret)
 .skip))
 (.seq (.seq (.reg [
 o1 5 (.mv (.c (.int .i64 0)))])
 (.block 0 (.loop (.seq (.seq (.reg [
  m1 11 5,
  m1 12 0,
  o1 13 (.len (.t 12)),
  o1 14 (.bin .lss (.t 11) (.t 13))])
  (.cond (.t 14)
  .skip
  (.exit 0)))
  (.seq (.block 1 (.seq (.regd [0,1,2,3,4,5,6,7,8] [
   .op (m1 17 0),
   .op (m1 18 5),
   .op ⟨some 19,.ixs (.t 17) (.t 18) 1,none,[0,1]⟩,
   .op ⟨some 20,.ld (.t 19) 1 false,none,[2]⟩,
   .op (m1 21 1),
   .op (m1 22 5),
   .op ⟨some 23,.ixs (.t 21) (.t 22) 1,none,[4,5]⟩,
   .op ⟨some 24,.ld (.t 23) 1 false,none,[6]⟩,
   .op ⟨some 25,.bin .neq (.t 20) (.t 24),none,[3,7]⟩] 0 0 [
])
 (.cond (.t 25)
 (.seq (.reg [
  o1 4 (.mv (.c (.bool false)))])
  .ret)
 .skip)))
 (.reg [
 m1 15 5,
 o1 16 (.bin .add (.t 15) (.c (.int .i64 1))),
 m1 5 16]))))))
 (.seq (.reg [
 o1 4 (.mv (.c (.bool true)))])
 .ret))))
def r22:List RV:=[.tmp 4]
theorem n22:Try.f22.ntmps=26:=by kernel_rfl
theorem b22:bodyB Try.prog 22=true:=by kernel_rfl
theorem c22_ok:cmpC Try.prog c22 ((Try.f22.body).getD .skip)=true:=by kernel_rfl
theorem r22_ok:cmpR Try.prog r22 Try.f22.results.toList=true:=by kernel_rfl
theorem t22 {args:List SV} {res:SV} (ka:KFL args) (kr:KF res) (h:sx Try.prog Y0 0 c22 (st0 args 26) (retK r22 res)) (hA:Nat.ble args.length 26=true:=by rfl):Ct Try.prog 22 args res:=ct_intro Try.func22 rfl b22 c22_ok r22_ok n22 (Nat.le_of_ble_eq_true hA) ka kr h
def c28:SC:=(.seq (.reg [
 o1 4 (.mv (.c (.bool false)))])
 (.seq (.seq (.reg [
 m1 6 0,
 o1 7 (.len (.t 6)),
 m1 8 1,
 o1 9 (.len (.t 8)),
 o1 10 (.bin .neq (.t 7) (.t 9))])
 (.cond (.t 10)
 (.seq (.reg [
  o1 4 (.mv (.c (.bool false)))])
  .ret)
 .skip))
 (.seq (.seq (.reg [
 o1 5 (.mv (.c (.int .i64 0)))])
 (.block 0 (.loop (.seq (.seq (.reg [
  m1 11 5,
  m1 12 0,
  o1 13 (.len (.t 12)),
  o1 14 (.bin .lss (.t 11) (.t 13))])
  (.cond (.t 14)
  .skip
  (.exit 0)))
  (.seq (.block 1 (.seq (.regd [0,1,2,3,4,5,6,7,8] [
   .op (m1 17 0),
   .op (m1 18 5),
   .op ⟨some 19,.ixs (.t 17) (.t 18) 8,none,[0,1]⟩,
   .op ⟨some 20,.ld (.t 19) 8 true,none,[2]⟩,
   .op (m1 21 1),
   .op (m1 22 5),
   .op ⟨some 23,.ixs (.t 21) (.t 22) 8,none,[4,5]⟩,
   .op ⟨some 24,.ld (.t 23) 8 true,none,[6]⟩,
   .op ⟨some 25,.eqs true true [1,1,1,1,1,1,1,0] (.t 20) (.t 24),none,[3,7]⟩] 0 0 [
])
 (.cond (.t 25)
 (.seq (.reg [
  o1 4 (.mv (.c (.bool false)))])
  .ret)
 .skip)))
 (.reg [
 m1 15 5,
 o1 16 (.bin .add (.t 15) (.c (.int .i64 1))),
 m1 5 16]))))))
 (.seq (.reg [
 o1 4 (.mv (.c (.bool true)))])
 .ret))))
def r28:List RV:=[.tmp 4]
theorem n28:Try.f28.ntmps=26:=by kernel_rfl
theorem b28:bodyB Try.prog 28=true:=by kernel_rfl
theorem c28_ok:cmpC Try.prog c28 ((Try.f28.body).getD .skip)=true:=by kernel_rfl
theorem r28_ok:cmpR Try.prog r28 Try.f28.results.toList=true:=by kernel_rfl
theorem t28 {args:List SV} {res:SV} (ka:KFL args) (kr:KF res) (h:sx Try.prog Y0 0 c28 (st0 args 26) (retK r28 res)) (hA:Nat.ble args.length 26=true:=by rfl):Ct Try.prog 28 args res:=ct_intro Try.func28 rfl b28 c28_ok r28_ok n28 (Nat.le_of_ble_eq_true hA) ka kr h
def c33:SC:=(.seq (.reg [
 o1 4 (.mv (.c (.bool false)))])
 (.seq (.seq (.reg [
 m1 6 0,
 o1 7 (.len (.t 6)),
 m1 8 1,
 o1 9 (.len (.t 8)),
 o1 10 (.bin .neq (.t 7) (.t 9))])
 (.cond (.t 10)
 (.seq (.reg [
  o1 4 (.mv (.c (.bool false)))])
  .ret)
 .skip))
 (.seq (.seq (.reg [
 o1 5 (.mv (.c (.int .i64 0)))])
 (.block 0 (.loop (.seq (.seq (.reg [
  m1 11 5,
  m1 12 0,
  o1 13 (.len (.t 12)),
  o1 14 (.bin .lss (.t 11) (.t 13))])
  (.cond (.t 14)
  .skip
  (.exit 0)))
  (.seq (.block 1 (.seq (.regd [0,1,2,3,4,5,6,7,8] [
   .op (m1 17 0),
   .op (m1 18 5),
   .op ⟨some 19,.ixs (.t 17) (.t 18) 2,none,[0,1]⟩,
   .op ⟨some 20,.ld (.t 19) 2 true,none,[2]⟩,
   .op (m1 21 1),
   .op (m1 22 5),
   .op ⟨some 23,.ixs (.t 21) (.t 22) 2,none,[4,5]⟩,
   .op ⟨some 24,.ld (.t 23) 2 true,none,[6]⟩,
   .op ⟨some 25,.eqs true true [1,1] (.t 20) (.t 24),none,[3,7]⟩] 0 0 [
])
 (.cond (.t 25)
 (.seq (.reg [
  o1 4 (.mv (.c (.bool false)))])
  .ret)
 .skip)))
 (.reg [
 m1 15 5,
 o1 16 (.bin .add (.t 15) (.c (.int .i64 1))),
 m1 5 16]))))))
 (.seq (.reg [
 o1 4 (.mv (.c (.bool true)))])
 .ret))))
def r33:List RV:=[.tmp 4]
theorem n33:Try.f33.ntmps=26:=by kernel_rfl
theorem b33:bodyB Try.prog 33=true:=by kernel_rfl
theorem c33_ok:cmpC Try.prog c33 ((Try.f33.body).getD .skip)=true:=by kernel_rfl
theorem r33_ok:cmpR Try.prog r33 Try.f33.results.toList=true:=by kernel_rfl
theorem t33 {args:List SV} {res:SV} (ka:KFL args) (kr:KF res) (h:sx Try.prog Y0 0 c33 (st0 args 26) (retK r33 res)) (hA:Nat.ble args.length 26=true:=by rfl):Ct Try.prog 33 args res:=ct_intro Try.func33 rfl b33 c33_ok r33_ok n33 (Nat.le_of_ble_eq_true hA) ka kr h
def c36:SC:=(.seq (.reg [
 o1 2 (.box (.t 0) 0 24),
 o1 3 (.box (.t 1) 0 50),
 o1 4 (.mv (.c (.bool false)))])
 (.seq (.seq (.reg [
 o1 10 (.addo (.t 3) 0),
 o1 11 (.ld (.t 10) 1 false),
 o1 12 (.call 45 [.t 11,.c (.int .i64 0),.c (.int .i64 9999)]),
 o1 13 (.un .not (.t 12)),
 m1 14 13,
 ⟨some 15,.addo (.t 3) 1,some (14,false),[]⟩,
 ⟨some 16,.ld (.t 15) 1 false,some (14,false),[]⟩,
 ⟨some 17,.call 45 [.t 16,.c (.int .i64 0),.c (.int .i64 100000)],some (14,false),[]⟩,
 ⟨some 18,.un .not (.t 17),some (14,false),[]⟩,
 o1 19 (.pick (.t 14) (.c (.bool true)) (.t 18))])
 (.cond (.t 19)
 (.seq (.reg [
  o1 4 (.mv (.c (.bool false)))])
  .ret)
 .skip))
 (.seq (.reg [
 o1 20 (.addo (.t 3) 0),
 o1 21 (.ld (.t 20) 1 false),
 o1 22 (.addo (.t 3) 1),
 o1 23 (.ld (.t 22) 1 false),
 o1 24 (.addo (.t 3) 2),
 o1 25 (.ld (.t 24) 1 false),
 o1 26 (.addo (.t 3) 7),
 o1 27 (.ld (.t 26) 1 false),
 o1 28 (.build [.int .i64 0,.int .i64 0,.int .u8 0,.int .i64 0,.int .i64 0,.int .i64 0,.int .i64 0,.bool false] [(0,1,.t 21),(1,1,.t 23),(2,1,.t 25),(7,1,.t 27)]),
 o1 5 (.alloc [.int .i64 0,.int .i64 0,.int .u8 0,.int .i64 0,.int .i64 0,.int .i64 0,.int .i64 0,.bool false] 50),
 ⟨none,.st (.t 5) (.t 28) 8,none,[]⟩])
 (.seq (.regd [0,1,2,3,4,5,6,7,8,9,10,11,12,13] [
 .op (o1 29 (.ld (.t 2) 4 true)),
 .op (o1 30 (.addo (.t 3) 3)),
 .op ⟨some 31,.ld (.t 30) 1 false,none,[1]⟩,
 .op ⟨some 32,.call 55 [.t 29,.t 31],none,[0,2]⟩,
 .op ⟨some 33,.bin .geq (.t 32) (.c (.int .i64 0)),none,[3]⟩,
 .op (o1 34 (.addo (.t 3) 5)),
 .op ⟨some 35,.ld (.t 34) 1 false,none,[5]⟩,
 .op ⟨some 36,.call 45 [.t 35,.c (.int .i64 0),.c (.int .i64 9999)],none,[3,6]⟩,
 .op (o1 37 (.addo (.t 3) 6)),
 .op ⟨some 38,.ld (.t 37) 1 false,none,[8]⟩,
 .op ⟨some 39,.call 45 [.t 38,.c (.int .i64 0),.c (.int .i64 10000000)],none,[7,9]⟩,
 .op ⟨some 6,.mv (.t 33),none,[0,1,2,3,4,10]⟩,
 .op ⟨some 7,.mv (.t 36),none,[0,1,2,3,4,5,6,7,11]⟩,
 .op ⟨some 8,.mv (.t 39),none,[0,1,2,3,4,5,6,7,8,9,10,11,12]⟩] 0 0 [
])
 (.seq (.reg [
 o1 9 (.mv (.c (.bool false)))])
 (.seq (.seq (.reg [
 o1 40 (.addo (.t 3) 2),
 o1 41 (.ld (.t 40) 1 false)])
 (.block 0 (.seq (.seq (.reg [
  o1 43 (.bin .eql (.t 41) (.c (.int .u8 1))),
  m1 42 43])
  (.cond (.t 42)
  .skip
  (.reg [
   o1 44 (.bin .eql (.t 41) (.c (.int .u8 2))),
   m1 42 44])))
  (.cond (.t 42)
  (.seq (.reg [
   o1 45 (.addo (.t 3) 6),
   o1 46 (.ld (.t 45) 1 false),
   o1 47 (.addo (.t 5) 6),
   ⟨none,.st (.t 47) (.t 46) 1,none,[]⟩])
   (.reg [
   m1 48 8,
   m1 9 48]))
  (.seq (.reg [
   o1 50 (.bin .eql (.t 41) (.c (.int .u8 3))),
   m1 49 50])
   (.cond (.t 49)
   (.seq (.regd [0,1,4,2,3,5,6,7] [
    .op (o1 51 (.addo (.t 3) 3)),
    .op ⟨some 52,.ld (.t 51) 1 false,none,[0]⟩,
    .op ⟨some 55,.addo (.t 5) 3,none,[0,1]⟩,
    .hide (.t 55),
    .op (o1 53 (.addo (.t 3) 5)),
    .op ⟨some 54,.ld (.t 53) 1 false,none,[2]⟩] 0 1 [
    ⟨none,.st (.t 55) (.t 52) 1,none,[0,1,4]⟩,
    ⟨some 56,.addo (.t 5) 5,none,[0,1,2,3,4,5]⟩,
    ⟨none,.st (.t 56) (.t 54) 1,none,[0,1,2,3,4,5,6]⟩])
    (.reg [
    m1 57 6,
    m1 58 57,
    ⟨some 59,.mv (.t 7),some (58,true),[]⟩,
    o1 60 (.pick (.t 58) (.t 59) (.c (.bool false))),
    m1 9 60]))
   (.seq (.seq (.reg [
    o1 62 (.bin .eql (.t 41) (.c (.int .u8 4))),
    m1 61 62])
    (.cond (.t 61)
    .skip
    (.reg [
     o1 63 (.bin .eql (.t 41) (.c (.int .u8 5))),
     m1 61 63])))
    (.cond (.t 61)
    (.seq (.reg [
     o1 64 (.addo (.t 3) 5),
     o1 65 (.ld (.t 64) 1 false),
     o1 66 (.addo (.t 5) 5),
     ⟨none,.st (.t 66) (.t 65) 1,none,[]⟩])
     (.reg [
     m1 67 7,
     m1 9 67]))
    (.seq (.reg [
     o1 69 (.bin .eql (.t 41) (.c (.int .u8 6))),
     m1 68 69])
     (.cond (.t 68)
     (.seq (.regd [0,1,6,2,3,4,5,7,8,9,10,11] [
      .op (o1 70 (.addo (.t 3) 5)),
      .op ⟨some 71,.ld (.t 70) 1 false,none,[0]⟩,
      .op ⟨some 76,.addo (.t 5) 5,none,[0,1]⟩,
      .hide (.t 5),
      .op (o1 72 (.addo (.t 3) 4)),
      .op ⟨some 73,.ld (.t 72) 1 false,none,[2]⟩,
      .op (o1 74 (.addo (.t 3) 6)),
      .op ⟨some 75,.ld (.t 74) 1 false,none,[4]⟩] 0 5 [
      ⟨none,.st (.t 76) (.t 71) 1,none,[0,1,6]⟩,
      ⟨some 77,.addo (.t 5) 4,none,[0,1,2,3,6,7]⟩,
      ⟨none,.st (.t 77) (.t 73) 1,none,[0,1,2,3,6,7,8]⟩,
      ⟨some 78,.addo (.t 5) 6,none,[0,1,2,3,4,5,6,7,8,9]⟩,
      ⟨none,.st (.t 78) (.t 75) 1,none,[0,1,2,3,4,5,6,7,8,9,10]⟩])
      (.reg [
      m1 79 7,
      m1 80 79,
      ⟨some 81,.mv (.t 8),some (80,true),[]⟩,
      o1 82 (.pick (.t 80) (.t 81) (.c (.bool false))),
      m1 83 82,
      ⟨some 84,.addo (.t 3) 4,some (83,true),[]⟩,
      ⟨some 85,.ld (.t 84) 1 false,some (83,true),[]⟩,
      ⟨some 86,.call 45 [.t 85,.c (.int .i64 0),.c (.int .i64 9999)],some (83,true),[]⟩,
      o1 87 (.pick (.t 83) (.t 86) (.c (.bool false))),
      m1 9 87]))
     (.seq (.seq (.reg [
      o1 89 (.bin .eql (.t 41) (.c (.int .u8 7))),
      m1 88 89])
      (.cond (.t 88)
      .skip
      (.reg [
       o1 90 (.bin .eql (.t 41) (.c (.int .u8 8))),
       m1 88 90])))
      (.cond (.t 88)
      (.seq (.regd [0,1,6,2,3,4,5,7,8,9,10,11] [
       .op (o1 91 (.addo (.t 3) 3)),
       .op ⟨some 92,.ld (.t 91) 1 false,none,[0]⟩,
       .op ⟨some 97,.addo (.t 5) 3,none,[0,1]⟩,
       .hide (.t 5),
       .op (o1 93 (.addo (.t 3) 4)),
       .op ⟨some 94,.ld (.t 93) 1 false,none,[2]⟩,
       .op (o1 95 (.addo (.t 3) 6)),
       .op ⟨some 96,.ld (.t 95) 1 false,none,[4]⟩] 0 5 [
       ⟨none,.st (.t 97) (.t 92) 1,none,[0,1,6]⟩,
       ⟨some 98,.addo (.t 5) 4,none,[0,1,2,3,6,7]⟩,
       ⟨none,.st (.t 98) (.t 94) 1,none,[0,1,2,3,6,7,8]⟩,
       ⟨some 99,.addo (.t 5) 6,none,[0,1,2,3,4,5,6,7,8,9]⟩,
       ⟨none,.st (.t 99) (.t 96) 1,none,[0,1,2,3,4,5,6,7,8,9,10]⟩])
       (.reg [
       m1 100 6,
       m1 101 100,
       ⟨some 102,.mv (.t 8),some (101,true),[]⟩,
       o1 103 (.pick (.t 101) (.t 102) (.c (.bool false))),
       m1 104 103,
       ⟨some 105,.ld (.t 2) 4 true,some (104,true),[]⟩,
       ⟨some 106,.addo (.t 3) 4,some (104,true),[]⟩,
       ⟨some 107,.ld (.t 106) 1 false,some (104,true),[]⟩,
       ⟨some 108,.call 55 [.t 105,.t 107],some (104,true),[]⟩,
       ⟨some 109,.bin .geq (.t 108) (.c (.int .i64 0)),some (104,true),[]⟩,
       o1 110 (.pick (.t 104) (.t 109) (.c (.bool false))),
       m1 111 110,
       ⟨some 112,.addo (.t 3) 3,some (111,true),[]⟩,
       ⟨some 113,.ld (.t 112) 1 false,some (111,true),[]⟩,
       ⟨some 114,.addo (.t 3) 4,some (111,true),[]⟩,
       ⟨some 115,.ld (.t 114) 1 false,some (111,true),[]⟩,
       ⟨some 116,.bin .neq (.t 113) (.t 115),some (111,true),[]⟩,
       o1 117 (.pick (.t 111) (.t 116) (.c (.bool false))),
       m1 9 117]))
      .skip))))))))))))
 (.seq (.reg [
 m1 118 9,
 m1 119 118,
 ⟨some 120,.ld (.t 3) 8 true,some (119,true),[]⟩,
 ⟨some 121,.ld (.t 5) 8 true,some (119,true),[]⟩,
 ⟨some 122,.eqs false true [1,1,1,1,1,1,1,0] (.t 120) (.t 121),some (119,true),[]⟩,
 o1 123 (.pick (.t 119) (.t 122) (.c (.bool false))),
 m1 4 123])
 .ret)))))))
def r36:List RV:=[.tmp 4]
theorem n36:Try.f36.ntmps=124:=by kernel_rfl
theorem b36:bodyB Try.prog 36=true:=by kernel_rfl
theorem c36_ok:cmpC Try.prog c36 ((Try.f36.body).getD .skip)=true:=by kernel_rfl
theorem r36_ok:cmpR Try.prog r36 Try.f36.results.toList=true:=by kernel_rfl
theorem t36 {args:List SV} {res:SV} (ka:KFL args) (kr:KF res) (h:sx Try.prog Y0 0 c36 (st0 args 124) (retK r36 res)) (hA:Nat.ble args.length 124=true:=by rfl):Ct Try.prog 36 args res:=ct_intro Try.func36 rfl b36 c36_ok r36_ok n36 (Nat.le_of_ble_eq_true hA) ka kr h
def c38:SC:=(.seq (.reg [
 o1 0 (.alloc [.slice none 0 0,.int .i64 0,.int .i64 0,.int .i64 0] 24)])
 (.seq (.reg [
 o1 1 (.build [.int .i64 0,.int .i64 0,.int .i64 0] [(0,1,.c (.int .i64 1)),(1,1,.c (.int .i64 600)),(2,1,.c (.int .i64 500))]),
 o1 2 (.build [.int .i64 0,.int .i64 0,.int .i64 0] [(0,1,.c (.int .i64 2)),(1,1,.c (.int .i64 300)),(2,1,.c (.int .i64 200))]),
 o1 3 (.build [.int .i64 0,.int .i64 0,.int .i64 0] [(0,1,.c (.int .i64 3)),(2,1,.c (.int .i64 300))]),
 o1 4 (.bsl 3 64 [.t 1,.t 2,.t 3]),
 o1 5 (.build [.slice none 0 0,.int .i64 0,.int .i64 0,.int .i64 0] [(0,1,.t 4),(1,1,.c (.int .i64 500)),(2,1,.c (.int .i64 2)),(3,1,.c (.int .i64 100))]),
 ⟨none,.st (.t 0) (.t 5) 4,none,[]⟩])
 .ret))
def r38:List RV:=[.cell 0 4 true]
theorem n38:Try.f38.ntmps=6:=by kernel_rfl
theorem b38:bodyB Try.prog 38=true:=by kernel_rfl
theorem c38_ok:cmpC Try.prog c38 ((Try.f38.body).getD .skip)=true:=by kernel_rfl
theorem r38_ok:cmpR Try.prog r38 Try.f38.results.toList=true:=by kernel_rfl
theorem t38 {args:List SV} {res:SV} (ka:KFL args) (kr:KF res) (h:sx Try.prog Y0 0 c38 (st0 args 6) (retK r38 res)) (hA:Nat.ble args.length 6=true:=by rfl):Ct Try.prog 38 args res:=ct_intro Try.func38 rfl b38 c38_ok r38_ok n38 (Nat.le_of_ble_eq_true hA) ka kr h
def c39:SC:=(.seq (.reg [
 o1 0 (.mv (.c (.slice none 0 0)))])
 (.seq (.reg [
 o1 1 (.build [.int .i64 0,.int .i64 0,.int .u8 0,.int .i64 0,.int .i64 0,.int .i64 0,.int .i64 0,.bool false] [(0,1,.c (.int .i64 10)),(1,1,.c (.int .i64 5)),(2,1,.c (.int .u8 3)),(3,1,.c (.int .i64 3)),(5,1,.c (.int .i64 7))]),
 o1 2 (.build [.int .i64 0,.int .i64 0,.int .u8 0,.int .i64 0,.int .i64 0,.int .i64 0,.int .i64 0,.bool false] [(0,1,.c (.int .i64 11)),(1,1,.c (.int .i64 20)),(2,1,.c (.int .u8 6)),(5,1,.c (.int .i64 7)),(4,1,.c (.int .i64 8)),(6,1,.c (.int .i64 101))]),
 o1 3 (.build [.int .i64 0,.int .i64 0,.int .u8 0,.int .i64 0,.int .i64 0,.int .i64 0,.int .i64 0,.bool false] [(0,1,.c (.int .i64 12)),(1,1,.c (.int .i64 30)),(2,1,.c (.int .u8 5)),(5,1,.c (.int .i64 7))]),
 o1 4 (.build [.int .i64 0,.int .i64 0,.int .u8 0,.int .i64 0,.int .i64 0,.int .i64 0,.int .i64 0,.bool false] [(0,1,.c (.int .i64 13)),(1,1,.c (.int .i64 50)),(2,1,.c (.int .u8 1)),(6,1,.c (.int .i64 1000))]),
 o1 5 (.build [.int .i64 0,.int .i64 0,.int .u8 0,.int .i64 0,.int .i64 0,.int .i64 0,.int .i64 0,.bool false] [(0,1,.c (.int .i64 14)),(1,1,.c (.int .i64 60)),(2,1,.c (.int .u8 2)),(6,1,.c (.int .i64 300))]),
 o1 6 (.bsl 8 50 [.t 1,.t 2,.t 3,.t 4,.t 5]),
 m1 0 6])
 .ret))
def r39:List RV:=[.tmp 0]
theorem n39:Try.f39.ntmps=7:=by kernel_rfl
theorem b39:bodyB Try.prog 39=true:=by kernel_rfl
theorem c39_ok:cmpC Try.prog c39 ((Try.f39.body).getD .skip)=true:=by kernel_rfl
theorem r39_ok:cmpR Try.prog r39 Try.f39.results.toList=true:=by kernel_rfl
theorem t39 {args:List SV} {res:SV} (ka:KFL args) (kr:KF res) (h:sx Try.prog Y0 0 c39 (st0 args 7) (retK r39 res)) (hA:Nat.ble args.length 7=true:=by rfl):Ct Try.prog 39 args res:=ct_intro Try.func39 rfl b39 c39_ok r39_ok n39 (Nat.le_of_ble_eq_true hA) ka kr h
def c40:SC:=(.seq (.reg [
 o1 0 (.alloc [.int .i64 0,.int .i64 0,.int .u8 0,.int .i64 0,.int .i64 0,.int .i64 0,.int .i64 0,.bool false] 50)])
 (.seq (.reg [
 o1 1 (.build [.int .i64 0,.int .i64 0,.int .u8 0,.int .i64 0,.int .i64 0,.int .i64 0,.int .i64 0,.bool false] [(0,1,.c (.int .i64 15)),(1,1,.c (.int .i64 25)),(2,1,.c (.int .u8 6)),(5,1,.c (.int .i64 7)),(4,1,.c (.int .i64 8)),(6,1,.c (.int .i64 90))]),
 ⟨none,.st (.t 0) (.t 1) 8,none,[]⟩])
 .ret))
def r40:List RV:=[.cell 0 8 true]
theorem n40:Try.f40.ntmps=2:=by kernel_rfl
theorem b40:bodyB Try.prog 40=true:=by kernel_rfl
theorem c40_ok:cmpC Try.prog c40 ((Try.f40.body).getD .skip)=true:=by kernel_rfl
theorem r40_ok:cmpR Try.prog r40 Try.f40.results.toList=true:=by kernel_rfl
theorem t40 {args:List SV} {res:SV} (ka:KFL args) (kr:KF res) (h:sx Try.prog Y0 0 c40 (st0 args 2) (retK r40 res)) (hA:Nat.ble args.length 2=true:=by rfl):Ct Try.prog 40 args res:=ct_intro Try.func40 rfl b40 c40_ok r40_ok n40 (Nat.le_of_ble_eq_true hA) ka kr h
def c41:SC:=(.seq (.reg [
 o1 0 (.mv (.c (.slice none 0 0)))])
 (.seq (.reg [
 o1 1 (.build [.int .i64 0,.int .i64 0,.int .u8 0,.int .i64 0,.int .i64 0,.int .i64 0,.int .i64 0,.bool false] [(0,1,.c (.int .i64 16)),(1,1,.c (.int .i64 21)),(2,1,.c (.int .u8 7)),(3,1,.c (.int .i64 1)),(4,1,.c (.int .i64 2)),(6,1,.c (.int .i64 40))]),
 o1 2 (.build [.int .i64 0,.int .i64 0,.int .u8 0,.int .i64 0,.int .i64 0,.int .i64 0,.int .i64 0,.bool false] [(0,1,.c (.int .i64 17)),(1,1,.c (.int .i64 22)),(2,1,.c (.int .u8 8)),(3,1,.c (.int .i64 1)),(4,1,.c (.int .i64 2)),(6,1,.c (.int .i64 50))]),
 o1 3 (.build [.int .i64 0,.int .i64 0,.int .u8 0,.int .i64 0,.int .i64 0,.int .i64 0,.int .i64 0,.bool false] [(0,1,.c (.int .i64 18)),(1,1,.c (.int .i64 23)),(2,1,.c (.int .u8 8)),(3,1,.c (.int .i64 1)),(4,1,.c (.int .i64 2)),(6,1,.c (.int .i64 30))]),
 o1 4 (.bsl 8 50 [.t 1,.t 2,.t 3]),
 m1 0 4])
 .ret))
def r41:List RV:=[.tmp 0]
theorem n41:Try.f41.ntmps=5:=by kernel_rfl
theorem b41:bodyB Try.prog 41=true:=by kernel_rfl
theorem c41_ok:cmpC Try.prog c41 ((Try.f41.body).getD .skip)=true:=by kernel_rfl
theorem r41_ok:cmpR Try.prog r41 Try.f41.results.toList=true:=by kernel_rfl
theorem t41 {args:List SV} {res:SV} (ka:KFL args) (kr:KF res) (h:sx Try.prog Y0 0 c41 (st0 args 5) (retK r41 res)) (hA:Nat.ble args.length 5=true:=by rfl):Ct Try.prog 41 args res:=ct_intro Try.func41 rfl b41 c41_ok r41_ok n41 (Nat.le_of_ble_eq_true hA) ka kr h
def c42:SC:=(.seq (.reg [
 o1 3 (.box (.t 0) 0 3),
 o1 4 (.box (.t 1) 0 3),
 o1 6 (.mv (.c (.bool false)))])
 (.seq (.reg [
 m1 7 2,
 o1 8 (.mkf 62 [.t 3,.t 4]),
 o1 9 (.call 61 [.t 7,.t 8]),
 o1 10 (.un .not (.t 9)),
 m1 6 10])
 .ret))
def r42:List RV:=[.tmp 6]
theorem n42:Try.f42.ntmps=11:=by kernel_rfl
theorem b42:bodyB Try.prog 42=true:=by kernel_rfl
theorem c42_ok:cmpC Try.prog c42 ((Try.f42.body).getD .skip)=true:=by kernel_rfl
theorem r42_ok:cmpR Try.prog r42 Try.f42.results.toList=true:=by kernel_rfl
theorem t42 {args:List SV} {res:SV} (ka:KFL args) (kr:KF res) (h:sx Try.prog Y0 0 c42 (st0 args 11) (retK r42 res)) (hA:Nat.ble args.length 11=true:=by rfl):Ct Try.prog 42 args res:=ct_intro Try.func42 rfl b42 c42_ok r42_ok n42 (Nat.le_of_ble_eq_true hA) ka kr h
def c44:SC:=(.seq (.reg [
 o1 1 (.box (.t 0) 0 24),
 o1 2 (.mv (.c (.bool false)))])
 (.seq (.seq (.reg [
 o1 7 (.addo (.t 1) 0),
 o1 8 (.ld (.t 7) 1 false),
 o1 9 (.len (.t 8)),
 o1 10 (.call 45 [.t 9,.c (.int .i64 1),.c (.int .i64 8)]),
 o1 11 (.un .not (.t 10)),
 m1 12 11,
 ⟨some 13,.addo (.t 1) 1,some (12,false),[]⟩,
 ⟨some 14,.ld (.t 13) 1 false,some (12,false),[]⟩,
 ⟨some 15,.call 45 [.t 14,.c (.int .i64 0),.c (.int .i64 1000)],some (12,false),[]⟩,
 ⟨some 16,.un .not (.t 15),some (12,false),[]⟩,
 o1 17 (.pick (.t 12) (.c (.bool true)) (.t 16)),
 m1 18 17,
 ⟨some 19,.addo (.t 1) 2,some (18,false),[]⟩,
 ⟨some 20,.ld (.t 19) 1 false,some (18,false),[]⟩,
 ⟨some 21,.call 45 [.t 20,.c (.int .i64 0),.c (.int .i64 1000)],some (18,false),[]⟩,
 ⟨some 22,.un .not (.t 21),some (18,false),[]⟩,
 o1 23 (.pick (.t 18) (.c (.bool true)) (.t 22)),
 m1 24 23,
 ⟨some 25,.addo (.t 1) 3,some (24,false),[]⟩,
 ⟨some 26,.ld (.t 25) 1 false,some (24,false),[]⟩,
 ⟨some 27,.call 45 [.t 26,.c (.int .i64 0),.c (.int .i64 100000)],some (24,false),[]⟩,
 ⟨some 28,.un .not (.t 27),some (24,false),[]⟩,
 o1 29 (.pick (.t 24) (.c (.bool true)) (.t 28))])
 (.cond (.t 29)
 (.seq (.reg [
  o1 2 (.mv (.c (.bool false)))])
  .ret)
 .skip))
 (.seq (.reg [
 o1 3 (.mv (.c (.int .i64 0))),
 o1 4 (.mv (.c (.int .i64 0)))])
 (.seq (.seq (.reg [
 o1 5 (.mv (.c (.int .i64 0)))])
 (.block 0 (.loop (.seq (.seq (.reg [
  m1 30 5,
  o1 31 (.addo (.t 1) 0),
  o1 32 (.ld (.t 31) 1 false),
  o1 33 (.len (.t 32)),
  o1 34 (.bin .lss (.t 30) (.t 33))])
  (.cond (.t 34)
  .skip
  (.exit 0)))
  (.seq (.block 1 (.seq (.reg [
   o1 37 (.addo (.t 1) 0),
   o1 38 (.ld (.t 37) 1 false),
   m1 39 5,
   o1 40 (.ixs (.t 38) (.t 39) 3),
   o1 41 (.ld (.t 40) 3 true),
   o1 6 (.alloc [.int .i64 0,.int .i64 0,.int .i64 0] 64),
   ⟨none,.st (.t 6) (.t 41) 3,none,[]⟩])
   (.seq (.seq (.regd [0,1,2,3,4,5,6,7,8,9,10,11,12,13,14,15,16,17,18,19,20,21,22,23,24,25,26,27,28,29,30,31] [
   .op (o1 42 (.addo (.t 6) 0)),
   .op ⟨some 43,.ld (.t 42) 1 false,none,[0]⟩,
   .op ⟨some 44,.call 45 [.t 43,.c (.int .i64 0),.c (.int .i64 9999)],none,[1]⟩,
   .op ⟨some 45,.un .not (.t 44),none,[2]⟩,
   .op ⟨some 46,.mv (.t 45),none,[2,3]⟩,
   .op ⟨some 47,.mv (.t 5),some (46,false),[4]⟩,
   .op ⟨some 48,.bin .gtr (.t 47) (.c (.int .i64 0)),some (46,false),[4,5]⟩,
   .op ⟨some 49,.mv (.t 48),some (46,false),[4,6]⟩,
   .op ⟨some 50,.addo (.t 6) 0,some (49,true),[7]⟩,
   .op ⟨some 51,.ld (.t 50) 1 false,some (49,true),[7,8]⟩,
   .op ⟨some 52,.addo (.t 1) 0,some (49,true),[7]⟩,
   .op ⟨some 53,.ld (.t 52) 1 false,some (49,true),[7,10]⟩,
   .op ⟨some 54,.mv (.t 5),some (49,true),[7]⟩,
   .op ⟨some 55,.bin .sub (.t 54) (.c (.int .i64 1)),some (49,true),[7,12]⟩,
   .op ⟨some 56,.ixs (.t 53) (.t 55) 3,some (49,true),[7,11,13]⟩,
   .op ⟨some 57,.addo (.t 56) 0,some (49,true),[7,14]⟩,
   .op ⟨some 58,.ld (.t 57) 1 false,some (49,true),[7,15]⟩,
   .op ⟨some 59,.bin .leq (.t 51) (.t 58),some (49,true),[7,9,16]⟩,
   .op ⟨some 60,.pick (.t 49) (.t 59) (.c (.bool false)),some (46,false),[4,7,17]⟩,
   .op ⟨some 61,.pick (.t 46) (.c (.bool true)) (.t 60),none,[4,18]⟩,
   .op ⟨some 62,.mv (.t 61),none,[7,19]⟩,
   .op ⟨some 63,.addo (.t 6) 1,some (62,false),[20]⟩,
   .op ⟨some 64,.ld (.t 63) 1 false,some (62,false),[20,21]⟩,
   .op ⟨some 65,.call 45 [.t 64,.c (.int .i64 0),.c (.int .i64 100000000)],some (62,false),[20,22]⟩,
   .op ⟨some 66,.un .not (.t 65),some (62,false),[20,23]⟩,
   .op ⟨some 67,.pick (.t 62) (.c (.bool true)) (.t 66),none,[20,24]⟩,
   .op ⟨some 68,.mv (.t 67),none,[23,25]⟩,
   .op ⟨some 69,.addo (.t 6) 2,some (68,false),[26]⟩,
   .op ⟨some 70,.ld (.t 69) 1 false,some (68,false),[26,27]⟩,
   .op ⟨some 71,.call 45 [.t 70,.c (.int .i64 0),.c (.int .i64 1000)],some (68,false),[26,28]⟩,
   .op ⟨some 72,.un .not (.t 71),some (68,false),[26,29]⟩,
   .op ⟨some 73,.pick (.t 68) (.c (.bool true)) (.t 72),none,[26,30]⟩] 0 0 [
])
 (.cond (.t 73)
 (.seq (.reg [
  o1 2 (.mv (.c (.bool false)))])
  .ret)
 .skip))
 (.regd [0,1,2,3,4,5,6,7,8,9] [
 .op (m1 74 3),
 .op (o1 75 (.addo (.t 6) 1)),
 .op ⟨some 76,.ld (.t 75) 1 false,none,[1]⟩,
 .op ⟨some 77,.bin .add (.t 74) (.t 76),none,[0,2]⟩,
 .op (m1 78 4),
 .op (o1 79 (.addo (.t 6) 2)),
 .op ⟨some 80,.ld (.t 79) 1 false,none,[5]⟩,
 .op ⟨some 81,.bin .add (.t 78) (.t 80),none,[4,6]⟩,
 .op ⟨some 3,.mv (.t 77),none,[0,1,2,3]⟩,
 .op ⟨some 4,.mv (.t 81),none,[0,1,2,3,4,5,6,7,8]⟩] 0 0 [
]))))
 (.reg [
 m1 35 5,
 o1 36 (.bin .add (.t 35) (.c (.int .i64 1))),
 m1 5 36]))))))
 (.seq (.reg [
 m1 82 3,
 o1 83 (.bin .gtr (.t 82) (.c (.int .i64 0))),
 m1 84 83,
 ⟨some 85,.mv (.t 4),some (84,true),[]⟩,
 ⟨some 86,.bin .eql (.t 85) (.c (.int .i64 1000)),some (84,true),[]⟩,
 o1 87 (.pick (.t 84) (.t 86) (.c (.bool false))),
 m1 2 87])
 .ret)))))
def r44:List RV:=[.tmp 2]
theorem n44:Try.f44.ntmps=88:=by kernel_rfl
theorem b44:bodyB Try.prog 44=true:=by kernel_rfl
theorem c44_ok:cmpC Try.prog c44 ((Try.f44.body).getD .skip)=true:=by kernel_rfl
theorem r44_ok:cmpR Try.prog r44 Try.f44.results.toList=true:=by kernel_rfl
theorem t44 {args:List SV} {res:SV} (ka:KFL args) (kr:KF res) (h:sx Try.prog Y0 0 c44 (st0 args 88) (retK r44 res)) (hA:Nat.ble args.length 88=true:=by rfl):Ct Try.prog 44 args res:=ct_intro Try.func44 rfl b44 c44_ok r44_ok n44 (Nat.le_of_ble_eq_true hA) ka kr h
def c45:SC:=(.seq (.reg [
 o1 6 (.mv (.c (.bool false)))])
 (.seq (.reg [
 m1 7 0,
 m1 8 1,
 o1 9 (.bin .geq (.t 7) (.t 8)),
 m1 10 9,
 ⟨some 11,.mv (.t 0),some (10,true),[]⟩,
 ⟨some 12,.mv (.t 2),some (10,true),[]⟩,
 ⟨some 13,.bin .leq (.t 11) (.t 12),some (10,true),[]⟩,
 o1 14 (.pick (.t 10) (.t 13) (.c (.bool false))),
 m1 6 14])
 .ret))
def r45:List RV:=[.tmp 6]
theorem n45:Try.f45.ntmps=15:=by kernel_rfl
theorem b45:bodyB Try.prog 45=true:=by kernel_rfl
theorem c45_ok:cmpC Try.prog c45 ((Try.f45.body).getD .skip)=true:=by kernel_rfl
theorem r45_ok:cmpR Try.prog r45 Try.f45.results.toList=true:=by kernel_rfl
theorem t45 {args:List SV} {res:SV} (ka:KFL args) (kr:KF res) (h:sx Try.prog Y0 0 c45 (st0 args 15) (retK r45 res)) (hA:Nat.ble args.length 15=true:=by rfl):Ct Try.prog 45 args res:=ct_intro Try.func45 rfl b45 c45_ok r45_ok n45 (Nat.le_of_ble_eq_true hA) ka kr h
def c51:SC:=(.seq (.reg [
 o1 2 (.box (.t 0) 0 24),
 o1 4 (.mv (.c (.int .i64 0)))])
 (.seq (.seq (.reg [
 m1 8 1,
 o1 9 (.len (.t 8)),
 o1 10 (.bin .gtr (.t 9) (.c (.int .i64 100)))])
 (.cond (.t 10)
 (.seq (.reg [
  o1 4 (.mv (.c (.int .i64 4)))])
  .ret)
 .skip))
 (.seq (.seq (.reg [
 o1 5 (.mv (.c (.int .i64 0)))])
 (.block 0 (.loop (.seq (.seq (.reg [
  m1 11 5,
  m1 12 1,
  o1 13 (.len (.t 12)),
  o1 14 (.bin .lss (.t 11) (.t 13))])
  (.cond (.t 14)
  .skip
  (.exit 0)))
  (.seq (.block 1 (.seq (.regd [0,1,2,3,4,5,6] [
   .op (o1 17 (.ld (.t 2) 4 true)),
   .op (m1 18 1),
   .op (m1 19 5),
   .op ⟨some 20,.ixs (.t 18) (.t 19) 8,none,[1,2]⟩,
   .op ⟨some 21,.ld (.t 20) 8 true,none,[3]⟩,
   .op ⟨some 22,.call 36 [.t 17,.t 21],none,[0,4]⟩,
   .op ⟨some 23,.un .not (.t 22),none,[5]⟩] 0 0 [
])
 (.cond (.t 23)
 (.seq (.reg [
  o1 4 (.mv (.c (.int .i64 81)))])
  .ret)
 .skip)))
 (.reg [
 m1 15 5,
 o1 16 (.bin .add (.t 15) (.c (.int .i64 1))),
 m1 5 16]))))))
 (.seq (.seq (.reg [
 o1 6 (.mv (.c (.int .i64 0)))])
 (.block 2 (.loop (.seq (.seq (.reg [
  m1 24 6,
  m1 25 1,
  o1 26 (.len (.t 25)),
  o1 27 (.bin .lss (.t 24) (.t 26))])
  (.cond (.t 27)
  .skip
  (.exit 2)))
  (.seq (.block 3 (.seq (.reg [
   o1 7 (.mv (.c (.int .i64 0)))])
   (.block 4 (.loop (.seq (.seq (.reg [
    m1 30 7,
    m1 31 6,
    o1 32 (.bin .lss (.t 30) (.t 31))])
    (.cond (.t 32)
    .skip
    (.exit 4)))
    (.seq (.block 5 (.seq (.regd [0,1,2,3,4,5,6,7,8,9,10,11,12,13,14,15,16,17,18,19,20,21] [
     .op (m1 35 1),
     .op (m1 36 6),
     .op ⟨some 37,.ixs (.t 35) (.t 36) 8,none,[0,1]⟩,
     .op ⟨some 38,.addo (.t 37) 0,none,[2]⟩,
     .op ⟨some 39,.ld (.t 38) 1 false,none,[3]⟩,
     .op (m1 40 1),
     .op (m1 41 7),
     .op ⟨some 42,.ixs (.t 40) (.t 41) 8,none,[5,6]⟩,
     .op ⟨some 43,.addo (.t 42) 0,none,[7]⟩,
     .op ⟨some 44,.ld (.t 43) 1 false,none,[8]⟩,
     .op ⟨some 45,.bin .eql (.t 39) (.t 44),none,[4,9]⟩,
     .op ⟨some 46,.mv (.t 45),none,[10]⟩,
     .op ⟨some 47,.mv (.t 1),some (46,true),[11]⟩,
     .op ⟨some 48,.mv (.t 6),some (46,true),[11]⟩,
     .op ⟨some 49,.ixs (.t 47) (.t 48) 8,some (46,true),[11,12,13]⟩,
     .op ⟨some 50,.ld (.t 49) 8 true,some (46,true),[11,14]⟩,
     .op ⟨some 51,.mv (.t 1),some (46,true),[11]⟩,
     .op ⟨some 52,.mv (.t 7),some (46,true),[11]⟩,
     .op ⟨some 53,.ixs (.t 51) (.t 52) 8,some (46,true),[11,16,17]⟩,
     .op ⟨some 54,.ld (.t 53) 8 true,some (46,true),[11,18]⟩,
     .op ⟨some 55,.eqs true true [1,1,1,1,1,1,1,0] (.t 50) (.t 54),some (46,true),[11,15,19]⟩,
     .op ⟨some 56,.pick (.t 46) (.t 55) (.c (.bool false)),none,[11,20]⟩] 0 0 [
])
 (.cond (.t 56)
 (.seq (.reg [
  o1 4 (.mv (.c (.int .i64 82)))])
  .ret)
 .skip)))
 (.reg [
 m1 33 7,
 o1 34 (.bin .add (.t 33) (.c (.int .i64 1))),
 m1 7 34])))))))
 (.reg [
 m1 28 6,
 o1 29 (.bin .add (.t 28) (.c (.int .i64 1))),
 m1 6 29]))))))
 (.seq (.reg [
 o1 4 (.mv (.c (.int .i64 0)))])
 .ret)))))
def r51:List RV:=[.tmp 4]
theorem n51:Try.f51.ntmps=57:=by kernel_rfl
theorem b51:bodyB Try.prog 51=true:=by kernel_rfl
theorem c51_ok:cmpC Try.prog c51 ((Try.f51.body).getD .skip)=true:=by kernel_rfl
theorem r51_ok:cmpR Try.prog r51 Try.f51.results.toList=true:=by kernel_rfl
theorem t51 {args:List SV} {res:SV} (ka:KFL args) (kr:KF res) (h:sx Try.prog Y0 0 c51 (st0 args 57) (retK r51 res)) (hA:Nat.ble args.length 57=true:=by rfl):Ct Try.prog 51 args res:=ct_intro Try.func51 rfl b51 c51_ok r51_ok n51 (Nat.le_of_ble_eq_true hA) ka kr h
def c54:SC:=(.seq (.reg [
 o1 2 (.box (.t 0) 0 24),
 o1 3 (.box (.t 1) 0 3),
 o1 4 (.mv (.c (.int .i64 0)))])
 (.seq (.reg [
 o1 5 (.addo (.t 2) 0),
 o1 6 (.ld (.t 5) 1 false),
 o1 7 (.mkf 79 [.t 3]),
 o1 8 (.call 78 [.t 6,.t 7]),
 m1 4 8])
 .ret))
def r54:List RV:=[.tmp 4]
theorem n54:Try.f54.ntmps=9:=by kernel_rfl
theorem b54:bodyB Try.prog 54=true:=by kernel_rfl
theorem c54_ok:cmpC Try.prog c54 ((Try.f54.body).getD .skip)=true:=by kernel_rfl
theorem r54_ok:cmpR Try.prog r54 Try.f54.results.toList=true:=by kernel_rfl
theorem t54 {args:List SV} {res:SV} (ka:KFL args) (kr:KF res) (h:sx Try.prog Y0 0 c54 (st0 args 9) (retK r54 res)) (hA:Nat.ble args.length 9=true:=by rfl):Ct Try.prog 54 args res:=ct_intro Try.func54 rfl b54 c54_ok r54_ok n54 (Nat.le_of_ble_eq_true hA) ka kr h
def c55:SC:=(.seq (.reg [
 o1 2 (.box (.t 0) 0 24),
 o1 4 (.mv (.c (.int .i64 0)))])
 (.seq (.seq (.reg [
 o1 5 (.mv (.c (.int .i64 0)))])
 (.block 0 (.loop (.seq (.seq (.reg [
  m1 6 5,
  o1 7 (.addo (.t 2) 0),
  o1 8 (.ld (.t 7) 1 false),
  o1 9 (.len (.t 8)),
  o1 10 (.bin .lss (.t 6) (.t 9))])
  (.cond (.t 10)
  .skip
  (.exit 0)))
  (.seq (.block 1 (.seq (.reg [
   o1 13 (.addo (.t 2) 0),
   o1 14 (.ld (.t 13) 1 false),
   m1 15 5,
   o1 16 (.ixs (.t 14) (.t 15) 3),
   o1 17 (.addo (.t 16) 0),
   o1 18 (.ld (.t 17) 1 false),
   m1 19 1,
   o1 20 (.bin .eql (.t 18) (.t 19))])
   (.cond (.t 20)
   (.seq (.reg [
    m1 21 5,
    m1 4 21])
    .ret)
   .skip)))
  (.reg [
  m1 11 5,
  o1 12 (.bin .add (.t 11) (.c (.int .i64 1))),
  m1 5 12]))))))
 (.seq (.reg [
 o1 4 (.mv (.c (.int .i64 (-1))))])
 .ret)))
def r55:List RV:=[.tmp 4]
theorem n55:Try.f55.ntmps=22:=by kernel_rfl
theorem b55:bodyB Try.prog 55=true:=by kernel_rfl
theorem c55_ok:cmpC Try.prog c55 ((Try.f55.body).getD .skip)=true:=by kernel_rfl
theorem r55_ok:cmpR Try.prog r55 Try.f55.results.toList=true:=by kernel_rfl
theorem t55 {args:List SV} {res:SV} (ka:KFL args) (kr:KF res) (h:sx Try.prog Y0 0 c55 (st0 args 22) (retK r55 res)) (hA:Nat.ble args.length 22=true:=by rfl):Ct Try.prog 55 args res:=ct_intro Try.func55 rfl b55 c55_ok r55_ok n55 (Nat.le_of_ble_eq_true hA) ka kr h
def c60:SC:=(.seq (.reg [
 o1 4 (.alloc [.int .i64 0,.int .i64 0] 70)])
 (.seq (.reg [
 m1 5 0,
 m1 6 1,
 o1 7 (.build [.int .i64 0,.int .i64 0] [(0,1,.t 5),(1,1,.t 6)]),
 ⟨none,.st (.t 4) (.t 7) 2,none,[]⟩])
 .ret))
def r60:List RV:=[.cell 4 2 true]
theorem n60:Try.f60.ntmps=8:=by kernel_rfl
theorem b60:bodyB Try.prog 60=true:=by kernel_rfl
theorem c60_ok:cmpC Try.prog c60 ((Try.f60.body).getD .skip)=true:=by kernel_rfl
theorem r60_ok:cmpR Try.prog r60 Try.f60.results.toList=true:=by kernel_rfl
theorem t60 {args:List SV} {res:SV} (ka:KFL args) (kr:KF res) (h:sx Try.prog Y0 0 c60 (st0 args 8) (retK r60 res)) (hA:Nat.ble args.length 8=true:=by rfl):Ct Try.prog 60 args res:=ct_intro Try.func60 rfl b60 c60_ok r60_ok n60 (Nat.le_of_ble_eq_true hA) ka kr h
def c61:SC:=(.seq (.reg [
 o1 4 (.mv (.c (.bool false)))])
 (.seq (.reg [
 m1 5 0,
 m1 6 1,
 o1 7 (.call 81 [.t 5,.t 6]),
 o1 8 (.bin .geq (.t 7) (.c (.int .i64 0))),
 m1 4 8])
 .ret))
def r61:List RV:=[.tmp 4]
theorem n61:Try.f61.ntmps=9:=by kernel_rfl
theorem b61:bodyB Try.prog 61=true:=by kernel_rfl
theorem c61_ok:cmpC Try.prog c61 ((Try.f61.body).getD .skip)=true:=by kernel_rfl
theorem r61_ok:cmpR Try.prog r61 Try.f61.results.toList=true:=by kernel_rfl
theorem t61 {args:List SV} {res:SV} (ka:KFL args) (kr:KF res) (h:sx Try.prog Y0 0 c61 (st0 args 9) (retK r61 res)) (hA:Nat.ble args.length 9=true:=by rfl):Ct Try.prog 61 args res:=ct_intro Try.func61 rfl b61 c61_ok r61_ok n61 (Nat.le_of_ble_eq_true hA) ka kr h
def c62:SC:=(.seq (.reg [
 o1 4 (.mv (.c (.bool false)))])
 (.seq (.reg [
 m1 5 0,
 o1 6 (.ld (.t 1) 1 false),
 o1 7 (.bin .lss (.t 5) (.t 6)),
 m1 8 7,
 ⟨some 9,.mv (.t 0),some (8,false),[]⟩,
 ⟨some 10,.ld (.t 2) 1 false,some (8,false),[]⟩,
 ⟨some 11,.bin .gtr (.t 9) (.t 10),some (8,false),[]⟩,
 o1 12 (.pick (.t 8) (.c (.bool true)) (.t 11)),
 m1 4 12])
 .ret))
def r62:List RV:=[.tmp 4]
theorem n62:Try.f62.ntmps=13:=by kernel_rfl
theorem b62:bodyB Try.prog 62=true:=by kernel_rfl
theorem c62_ok:cmpC Try.prog c62 ((Try.f62.body).getD .skip)=true:=by kernel_rfl
theorem r62_ok:cmpR Try.prog r62 Try.f62.results.toList=true:=by kernel_rfl
theorem t62 {args:List SV} {res:SV} (ka:KFL args) (kr:KF res) (h:sx Try.prog Y0 0 c62 (st0 args 13) (retK r62 res)) (hA:Nat.ble args.length 13=true:=by rfl):Ct Try.prog 62 args res:=ct_intro Try.func62 rfl b62 c62_ok r62_ok n62 (Nat.le_of_ble_eq_true hA) ka kr h
def c78:SC:=(.seq (.reg [
 o1 4 (.mv (.c (.int .i64 0)))])
 (.seq (.seq (.reg [
 m1 6 0,
 o1 7 (.len (.t 6)),
 o1 8 (.mv (.c (.int .i64 0)))])
 (.block 0 (.loop (.seq (.reg [
  o1 9 (.bin .lss (.t 8) (.t 7))])
  (.seq (.cond (.t 9)
  .skip
  (.exit 0))
  (.seq (.block 1 (.seq (.reg [
   m1 10 8,
   m1 5 10])
   (.seq (.reg [
   m1 11 1,
   m1 12 0,
   m1 13 5,
   o1 14 (.ixs (.t 12) (.t 13) 3),
   o1 15 (.ld (.t 14) 3 true),
   o1 16 (.calv (.t 11) [.t 15])])
   (.cond (.t 16)
   (.seq (.reg [
    m1 17 5,
    m1 4 17])
    .ret)
   .skip))))
  (.reg [
  o1 18 (.bin .add (.t 8) (.c (.int .i64 1))),
  m1 8 18])))))))
 (.seq (.reg [
 o1 4 (.mv (.c (.int .i64 (-1))))])
 .ret)))
def r78:List RV:=[.tmp 4]
theorem n78:Try.f78.ntmps=19:=by kernel_rfl
theorem b78:bodyB Try.prog 78=true:=by kernel_rfl
theorem c78_ok:cmpC Try.prog c78 ((Try.f78.body).getD .skip)=true:=by kernel_rfl
theorem r78_ok:cmpR Try.prog r78 Try.f78.results.toList=true:=by kernel_rfl
theorem t78 {args:List SV} {res:SV} (ka:KFL args) (kr:KF res) (h:sx Try.prog Y0 0 c78 (st0 args 19) (retK r78 res)) (hA:Nat.ble args.length 19=true:=by rfl):Ct Try.prog 78 args res:=ct_intro Try.func78 rfl b78 c78_ok r78_ok n78 (Nat.le_of_ble_eq_true hA) ka kr h
def c79:SC:=(.seq (.reg [
 o1 2 (.box (.t 0) 0 64),
 o1 3 (.mv (.c (.bool false)))])
 (.seq (.reg [
 o1 4 (.addo (.t 2) 0),
 o1 5 (.ld (.t 4) 1 false),
 o1 6 (.ld (.t 1) 1 false),
 o1 7 (.bin .eql (.t 5) (.t 6)),
 m1 3 7])
 .ret))
def r79:List RV:=[.tmp 3]
theorem n79:Try.f79.ntmps=8:=by kernel_rfl
theorem b79:bodyB Try.prog 79=true:=by kernel_rfl
theorem c79_ok:cmpC Try.prog c79 ((Try.f79.body).getD .skip)=true:=by kernel_rfl
theorem r79_ok:cmpR Try.prog r79 Try.f79.results.toList=true:=by kernel_rfl
theorem t79 {args:List SV} {res:SV} (ka:KFL args) (kr:KF res) (h:sx Try.prog Y0 0 c79 (st0 args 8) (retK r79 res)) (hA:Nat.ble args.length 8=true:=by rfl):Ct Try.prog 79 args res:=ct_intro Try.func79 rfl b79 c79_ok r79_ok n79 (Nat.le_of_ble_eq_true hA) ka kr h
def c64:SC:=(.seq (.reg [
 o1 4 (.mv (.c (.bool false)))])
 (.seq (.reg [
 m1 5 0,
 m1 6 1,
 o1 7 (.call 85 [.t 5,.t 6]),
 o1 8 (.bin .geq (.t 7) (.c (.int .i64 0))),
 m1 4 8])
 .ret))
def r64:List RV:=[.tmp 4]
theorem n64:Try.f64.ntmps=9:=by kernel_rfl
theorem b64:bodyB Try.prog 64=true:=by kernel_rfl
theorem c64_ok:cmpC Try.prog c64 ((Try.f64.body).getD .skip)=true:=by kernel_rfl
theorem r64_ok:cmpR Try.prog r64 Try.f64.results.toList=true:=by kernel_rfl
theorem t64 {args:List SV} {res:SV} (ka:KFL args) (kr:KF res) (h:sx Try.prog Y0 0 c64 (st0 args 9) (retK r64 res)) (hA:Nat.ble args.length 9=true:=by rfl):Ct Try.prog 64 args res:=ct_intro Try.func64 rfl b64 c64_ok r64_ok n64 (Nat.le_of_ble_eq_true hA) ka kr h
def c85:SC:=(.seq (.reg [
 o1 4 (.mv (.c (.int .i64 0)))])
 (.seq (.seq (.reg [
 m1 6 0,
 o1 7 (.len (.t 6)),
 o1 8 (.mv (.c (.int .i64 0)))])
 (.block 0 (.loop (.seq (.reg [
  o1 9 (.bin .lss (.t 8) (.t 7))])
  (.seq (.cond (.t 9)
  .skip
  (.exit 0))
  (.seq (.block 1 (.seq (.reg [
   m1 10 8,
   m1 5 10])
   (.seq (.reg [
   m1 11 1,
   m1 12 0,
   m1 13 5,
   o1 14 (.ixs (.t 12) (.t 13) 8),
   o1 15 (.ld (.t 14) 8 true),
   o1 16 (.calv (.t 11) [.t 15])])
   (.cond (.t 16)
   (.seq (.reg [
    m1 17 5,
    m1 4 17])
    .ret)
   .skip))))
  (.reg [
  o1 18 (.bin .add (.t 8) (.c (.int .i64 1))),
  m1 8 18])))))))
 (.seq (.reg [
 o1 4 (.mv (.c (.int .i64 (-1))))])
 .ret)))
def r85:List RV:=[.tmp 4]
theorem n85:Try.f85.ntmps=19:=by kernel_rfl
theorem b85:bodyB Try.prog 85=true:=by kernel_rfl
theorem c85_ok:cmpC Try.prog c85 ((Try.f85.body).getD .skip)=true:=by kernel_rfl
theorem r85_ok:cmpR Try.prog r85 Try.f85.results.toList=true:=by kernel_rfl
theorem t85 {args:List SV} {res:SV} (ka:KFL args) (kr:KF res) (h:sx Try.prog Y0 0 c85 (st0 args 19) (retK r85 res)) (hA:Nat.ble args.length 19=true:=by rfl):Ct Try.prog 85 args res:=ct_intro Try.func85 rfl b85 c85_ok r85_ok n85 (Nat.le_of_ble_eq_true hA) ka kr h
def c65:SC:=(.seq (.reg [
 o1 2 (.box (.t 0) 0 50),
 o1 3 (.mv (.c (.bool false)))])
 (.seq (.reg [
 o1 4 (.ld (.t 1) 4 true),
 o1 5 (.ld (.t 2) 8 true),
 o1 6 (.call 66 [.t 4,.t 5]),
 o1 7 (.un .not (.t 6)),
 m1 3 7])
 .ret))
def r65:List RV:=[.tmp 3]
theorem n65:Try.f65.ntmps=8:=by kernel_rfl
theorem b65:bodyB Try.prog 65=true:=by kernel_rfl
theorem c65_ok:cmpC Try.prog c65 ((Try.f65.body).getD .skip)=true:=by kernel_rfl
theorem r65_ok:cmpR Try.prog r65 Try.f65.results.toList=true:=by kernel_rfl
theorem t65 {args:List SV} {res:SV} (ka:KFL args) (kr:KF res) (h:sx Try.prog Y0 0 c65 (st0 args 8) (retK r65 res)) (hA:Nat.ble args.length 8=true:=by rfl):Ct Try.prog 65 args res:=ct_intro Try.func65 rfl b65 c65_ok r65_ok n65 (Nat.le_of_ble_eq_true hA) ka kr h
def c66:SC:=(.seq (.reg [
 o1 2 (.box (.t 0) 0 24),
 o1 3 (.box (.t 1) 0 50),
 o1 4 (.mv (.c (.bool false)))])
 (.seq (.regd [0,1,2,3,4,5,6,7,8,9] [
 .op (o1 9 (.call 72 [])),
 .op (o1 10 (.addo (.t 3) 2)),
 .op ⟨some 11,.ld (.t 10) 1 false,none,[1]⟩,
 .op ⟨some 12,.rv (Go.Op.lookup 120 (Go.Operand.tmp 9) (Go.Operand.tmp 11) Bool.true) [.t 9,.t 11],none,[0,2]⟩,
 .op ⟨some 8,.mv (.t 12),none,[3]⟩,
 .op ⟨some 13,.ext (.t 8) 0,none,[4]⟩,
 .op ⟨some 14,.ext (.t 8) 1,none,[4]⟩] 1 2 [
 o1 5 (.alloc [.nilFunc,.nilFunc,.nilFunc] 126),
 ⟨none,.st (.t 5) (.t 13) 3,none,[0,1,2,3,4,5,7]⟩,
 ⟨some 6,.mv (.t 14),none,[0,1,2,3,4,5,6,7,8]⟩])
 (.seq (.seq (.reg [
 m1 15 6,
 o1 16 (.un .not (.t 15)),
 m1 17 16,
 ⟨some 18,.addo (.t 3) 0,some (17,false),[]⟩,
 ⟨some 19,.ld (.t 18) 1 false,some (17,false),[]⟩,
 ⟨some 20,.addo (.t 3) 3,some (17,false),[]⟩,
 ⟨some 21,.ld (.t 20) 1 false,some (17,false),[]⟩,
 ⟨some 22,.addo (.t 3) 4,some (17,false),[]⟩,
 ⟨some 23,.ld (.t 22) 1 false,some (17,false),[]⟩,
 ⟨some 24,.addo (.t 3) 5,some (17,false),[]⟩,
 ⟨some 25,.ld (.t 24) 1 false,some (17,false),[]⟩,
 ⟨some 26,.bsl 1 3 [.t 19,.t 21,.t 23,.t 25],some (17,false),[]⟩,
 ⟨some 27,.call 42 [.c (.int .i64 0),.c (.int .i64 9999),.t 26],some (17,false),[]⟩,
 ⟨some 28,.un .not (.t 27),some (17,false),[]⟩,
 o1 29 (.pick (.t 17) (.c (.bool true)) (.t 28)),
 m1 30 29,
 ⟨some 31,.addo (.t 3) 1,some (30,false),[]⟩,
 ⟨some 32,.ld (.t 31) 1 false,some (30,false),[]⟩,
 ⟨some 33,.bsl 1 3 [.t 32],some (30,false),[]⟩,
 ⟨some 34,.call 42 [.c (.int .i64 0),.c (.int .i64 100000),.t 33],some (30,false),[]⟩,
 ⟨some 35,.un .not (.t 34),some (30,false),[]⟩,
 o1 36 (.pick (.t 30) (.c (.bool true)) (.t 35)),
 m1 37 36,
 ⟨some 38,.addo (.t 3) 6,some (37,false),[]⟩,
 ⟨some 39,.ld (.t 38) 1 false,some (37,false),[]⟩,
 ⟨some 40,.bsl 1 3 [.t 39],some (37,false),[]⟩,
 ⟨some 41,.call 42 [.c (.int .i64 0),.c (.int .i64 10000000),.t 40],some (37,false),[]⟩,
 ⟨some 42,.un .not (.t 41),some (37,false),[]⟩,
 o1 43 (.pick (.t 37) (.c (.bool true)) (.t 42)),
 m1 44 43,
 ⟨some 45,.addo (.t 5) 1,some (44,false),[]⟩,
 ⟨some 46,.ld (.t 45) 1 false,some (44,false),[]⟩,
 ⟨some 47,.ld (.t 2) 4 true,some (44,false),[]⟩,
 ⟨some 48,.ld (.t 3) 8 true,some (44,false),[]⟩,
 ⟨some 49,.calv (.t 46) [.t 47,.t 48],some (44,false),[]⟩,
 ⟨some 50,.un .not (.t 49),some (44,false),[]⟩,
 o1 51 (.pick (.t 44) (.c (.bool true)) (.t 50))])
 (.cond (.t 51)
 (.seq (.reg [
  o1 4 (.mv (.c (.bool false)))])
  .ret)
 .skip))
 (.seq (.reg [
 o1 52 (.addo (.t 5) 0),
 o1 53 (.ld (.t 52) 1 false),
 o1 54 (.ld (.t 3) 8 true),
 o1 55 (.calv (.t 53) [.t 54]),
 o1 7 (.alloc [.int .i64 0,.int .i64 0,.int .u8 0,.int .i64 0,.int .i64 0,.int .i64 0,.int .i64 0,.bool false] 50),
 ⟨none,.st (.t 7) (.t 55) 8,none,[]⟩])
 (.seq (.regd [0,1,8,2,3,4,5,6,7,9,10,11,12,13,14,15] [
 .op (o1 56 (.addo (.t 3) 0)),
 .op ⟨some 57,.ld (.t 56) 1 false,none,[0]⟩,
 .op ⟨some 64,.addo (.t 7) 0,none,[0,1]⟩,
 .hide (.t 7),
 .op (o1 58 (.addo (.t 3) 1)),
 .op ⟨some 59,.ld (.t 58) 1 false,none,[2]⟩,
 .op (o1 60 (.addo (.t 3) 2)),
 .op ⟨some 61,.ld (.t 60) 1 false,none,[4]⟩,
 .op (o1 62 (.addo (.t 3) 7)),
 .op ⟨some 63,.ld (.t 62) 1 false,none,[6]⟩] 0 7 [
 ⟨none,.st (.t 64) (.t 57) 1,none,[0,1,8]⟩,
 ⟨some 65,.addo (.t 7) 1,none,[0,1,2,3,8,9]⟩,
 ⟨none,.st (.t 65) (.t 59) 1,none,[0,1,2,3,8,9,10]⟩,
 ⟨some 66,.addo (.t 7) 2,none,[0,1,2,3,4,5,8,9,10,11]⟩,
 ⟨none,.st (.t 66) (.t 61) 1,none,[0,1,2,3,4,5,8,9,10,11,12]⟩,
 ⟨some 67,.addo (.t 7) 7,none,[0,1,2,3,4,5,6,7,8,9,10,11,12,13]⟩,
 ⟨none,.st (.t 67) (.t 63) 1,none,[0,1,2,3,4,5,6,7,8,9,10,11,12,13,14]⟩])
 (.seq (.reg [
 o1 68 (.ld (.t 7) 8 true),
 o1 69 (.ld (.t 3) 8 true),
 o1 70 (.eqs false true [1,1,1,1,1,1,1,0] (.t 68) (.t 69)),
 m1 4 70])
 .ret))))))
def r66:List RV:=[.tmp 4]
theorem n66:Try.f66.ntmps=71:=by kernel_rfl
theorem b66:bodyB Try.prog 66=true:=by kernel_rfl
theorem c66_ok:cmpC Try.prog c66 ((Try.f66.body).getD .skip)=true:=by kernel_rfl
theorem r66_ok:cmpR Try.prog r66 Try.f66.results.toList=true:=by kernel_rfl
theorem t66 {args:List SV} {res:SV} (ka:KFL args) (kr:KF res) (h:sx Try.prog Y0 0 c66 (st0 args 71) (retK r66 res)) (hA:Nat.ble args.length 71=true:=by rfl):Ct Try.prog 66 args res:=ct_intro Try.func66 rfl b66 c66_ok r66_ok n66 (Nat.le_of_ble_eq_true hA) ka kr h
def c68:SC:=(.seq (.reg [
 o1 1 (.box (.t 0) 0 50),
 o1 2 (.mv (.c (.int .i64 0)))])
 (.seq (.reg [
 o1 3 (.addo (.t 1) 1),
 o1 4 (.ld (.t 3) 1 false),
 m1 2 4])
 .ret))
def r68:List RV:=[.tmp 2]
theorem n68:Try.f68.ntmps=5:=by kernel_rfl
theorem b68:bodyB Try.prog 68=true:=by kernel_rfl
theorem c68_ok:cmpC Try.prog c68 ((Try.f68.body).getD .skip)=true:=by kernel_rfl
theorem r68_ok:cmpR Try.prog r68 Try.f68.results.toList=true:=by kernel_rfl
theorem t68 {args:List SV} {res:SV} (ka:KFL args) (kr:KF res) (h:sx Try.prog Y0 0 c68 (st0 args 5) (retK r68 res)) (hA:Nat.ble args.length 5=true:=by rfl):Ct Try.prog 68 args res:=ct_intro Try.func68 rfl b68 c68_ok r68_ok n68 (Nat.le_of_ble_eq_true hA) ka kr h
def c69:SC:=(.seq (.reg [
 o1 1 (.box (.t 0) 0 50),
 o1 2 (.mv (.c (.int .i64 0)))])
 (.seq (.reg [
 o1 3 (.addo (.t 1) 0),
 o1 4 (.ld (.t 3) 1 false),
 m1 2 4])
 .ret))
def r69:List RV:=[.tmp 2]
theorem n69:Try.f69.ntmps=5:=by kernel_rfl
theorem b69:bodyB Try.prog 69=true:=by kernel_rfl
theorem c69_ok:cmpC Try.prog c69 ((Try.f69.body).getD .skip)=true:=by kernel_rfl
theorem r69_ok:cmpR Try.prog r69 Try.f69.results.toList=true:=by kernel_rfl
theorem t69 {args:List SV} {res:SV} (ka:KFL args) (kr:KF res) (h:sx Try.prog Y0 0 c69 (st0 args 5) (retK r69 res)) (hA:Nat.ble args.length 5=true:=by rfl):Ct Try.prog 69 args res:=ct_intro Try.func69 rfl b69 c69_ok r69_ok n69 (Nat.le_of_ble_eq_true hA) ka kr h
def c88:SC:=(.seq (.reg [
 o1 3 (.box (.t 0) 0 50),
 o1 4 (.box (.t 1) 0 50),
 o1 5 (.mv (.c (.int .i64 0)))])
 (.seq (.seq (.reg [
 o1 9 (.ld (.t 2) 1 false),
 o1 10 (.len (.t 9)),
 o1 11 (.mv (.c (.int .i64 0)))])
 (.block 0 (.loop (.seq (.reg [
  o1 12 (.bin .lss (.t 11) (.t 10))])
  (.seq (.cond (.t 12)
  .skip
  (.exit 0))
  (.seq (.block 1 (.seq (.reg [
   o1 13 (.ixs (.t 9) (.t 11) 1),
   o1 14 (.ld (.t 13) 1 false),
   m1 7 14])
   (.seq (.regd [0,1,2,3,4,5,6,7] [
   .op (m1 15 7),
   .op (o1 16 (.ld (.t 3) 8 true)),
   .op ⟨some 17,.calv (.t 15) [.t 16],none,[0,1]⟩,
   .op (m1 18 7),
   .op (o1 19 (.ld (.t 4) 8 true)),
   .op ⟨some 20,.calv (.t 18) [.t 19],none,[2,3,4]⟩,
   .op ⟨some 21,.call 89 [.t 17,.t 20],none,[2,5]⟩,
   .op ⟨some 8,.mv (.t 21),none,[0,1,2,3,4,5,6]⟩] 0 0 [
])
 (.seq (.reg [
 m1 22 8,
 o1 23 (.bin .neq (.t 22) (.c (.int .i64 0)))])
 (.cond (.t 23)
 (.seq (.reg [
  m1 24 8,
  m1 5 24])
  .ret)
 .skip)))))
 (.reg [
 o1 25 (.bin .add (.t 11) (.c (.int .i64 1))),
 m1 11 25])))))))
 (.seq (.reg [
 o1 5 (.mv (.c (.int .i64 0)))])
 .ret)))
def r88:List RV:=[.tmp 5]
theorem n88:Try.f88.ntmps=26:=by kernel_rfl
theorem b88:bodyB Try.prog 88=true:=by kernel_rfl
theorem c88_ok:cmpC Try.prog c88 ((Try.f88.body).getD .skip)=true:=by kernel_rfl
theorem r88_ok:cmpR Try.prog r88 Try.f88.results.toList=true:=by kernel_rfl
theorem t88 {args:List SV} {res:SV} (ka:KFL args) (kr:KF res) (h:sx Try.prog Y0 0 c88 (st0 args 26) (retK r88 res)) (hA:Nat.ble args.length 26=true:=by rfl):Ct Try.prog 88 args res:=ct_intro Try.func88 rfl b88 c88_ok r88_ok n88 (Nat.le_of_ble_eq_true hA) ka kr h
def c89:SC:=(.seq (.reg [
 o1 4 (.mv (.c (.int .i64 0)))])
 (.seq (.reg [
 m1 7 0,
 o1 8 (.call 110 [.t 7]),
 m1 5 8])
 (.seq (.reg [
 m1 9 1,
 o1 10 (.call 110 [.t 9]),
 m1 6 10])
 (.seq (.seq (.reg [
 m1 11 5])
 (.cond (.t 11)
 (.seq (.seq (.reg [
  m1 12 6])
  (.cond (.t 12)
  (.seq (.reg [
   o1 4 (.mv (.c (.int .i64 0)))])
   .ret)
  .skip))
  (.seq (.reg [
  o1 4 (.mv (.c (.int .i64 (-1))))])
  .ret))
 .skip))
 (.seq (.seq (.reg [
 m1 13 6])
 (.cond (.t 13)
 (.seq (.reg [
  o1 4 (.mv (.c (.int .i64 1)))])
  .ret)
 .skip))
 (.seq (.seq (.reg [
 m1 14 0,
 m1 15 1,
 o1 16 (.bin .lss (.t 14) (.t 15))])
 (.cond (.t 16)
 (.seq (.reg [
  o1 4 (.mv (.c (.int .i64 (-1))))])
  .ret)
 .skip))
 (.seq (.seq (.reg [
 m1 17 0,
 m1 18 1,
 o1 19 (.bin .gtr (.t 17) (.t 18))])
 (.cond (.t 19)
 (.seq (.reg [
  o1 4 (.mv (.c (.int .i64 1)))])
  .ret)
 .skip))
 (.seq (.reg [
 o1 4 (.mv (.c (.int .i64 0)))])
 .ret))))))))
def r89:List RV:=[.tmp 4]
theorem n89:Try.f89.ntmps=20:=by kernel_rfl
theorem b89:bodyB Try.prog 89=true:=by kernel_rfl
theorem c89_ok:cmpC Try.prog c89 ((Try.f89.body).getD .skip)=true:=by kernel_rfl
theorem r89_ok:cmpR Try.prog r89 Try.f89.results.toList=true:=by kernel_rfl
theorem t89 {args:List SV} {res:SV} (ka:KFL args) (kr:KF res) (h:sx Try.prog Y0 0 c89 (st0 args 20) (retK r89 res)) (hA:Nat.ble args.length 20=true:=by rfl):Ct Try.prog 89 args res:=ct_intro Try.func89 rfl b89 c89_ok r89_ok n89 (Nat.le_of_ble_eq_true hA) ka kr h
def c110:SC:=(.seq (.reg [
 o1 2 (.mv (.c (.bool false)))])
 (.seq (.reg [
 m1 3 0,
 m1 4 0,
 o1 5 (.bin .neq (.t 3) (.t 4)),
 m1 2 5])
 .ret))
def r110:List RV:=[.tmp 2]
theorem n110:Try.f110.ntmps=6:=by kernel_rfl
theorem b110:bodyB Try.prog 110=true:=by kernel_rfl
theorem c110_ok:cmpC Try.prog c110 ((Try.f110.body).getD .skip)=true:=by kernel_rfl
theorem r110_ok:cmpR Try.prog r110 Try.f110.results.toList=true:=by kernel_rfl
theorem t110 {args:List SV} {res:SV} (ka:KFL args) (kr:KF res) (h:sx Try.prog Y0 0 c110 (st0 args 6) (retK r110 res)) (hA:Nat.ble args.length 6=true:=by rfl):Ct Try.prog 110 args res:=ct_intro Try.func110 rfl b110 c110_ok r110_ok n110 (Nat.le_of_ble_eq_true hA) ka kr h
def c90:SC:=(.seq (.reg [
 o1 2 (.box (.t 0) 0 24),
 o1 3 (.box (.t 1) 0 50),
 o1 4 (.mv (.c (.bool false)))])
 (.seq (.reg [
 o1 4 (.mv (.c (.bool true)))])
 .ret))
def r90:List RV:=[.tmp 4]
theorem n90:Try.f90.ntmps=5:=by kernel_rfl
theorem b90:bodyB Try.prog 90=true:=by kernel_rfl
theorem c90_ok:cmpC Try.prog c90 ((Try.f90.body).getD .skip)=true:=by kernel_rfl
theorem r90_ok:cmpR Try.prog r90 Try.f90.results.toList=true:=by kernel_rfl
theorem t90 {args:List SV} {res:SV} (ka:KFL args) (kr:KF res) (h:sx Try.prog Y0 0 c90 (st0 args 5) (retK r90 res)) (hA:Nat.ble args.length 5=true:=by rfl):Ct Try.prog 90 args res:=ct_intro Try.func90 rfl b90 c90_ok r90_ok n90 (Nat.le_of_ble_eq_true hA) ka kr h
def c91:SC:=(.seq (.reg [
 o1 1 (.box (.t 0) 0 50),
 o1 2 (.alloc [.int .i64 0,.int .i64 0,.int .u8 0,.int .i64 0,.int .i64 0,.int .i64 0,.int .i64 0,.bool false] 50)])
 (.seq (.reg [
 o1 3 (.addo (.t 1) 6),
 o1 4 (.ld (.t 3) 1 false),
 o1 5 (.build [.int .i64 0,.int .i64 0,.int .u8 0,.int .i64 0,.int .i64 0,.int .i64 0,.int .i64 0,.bool false] [(6,1,.t 4)]),
 ⟨none,.st (.t 2) (.t 5) 8,none,[]⟩])
 .ret))
def r91:List RV:=[.cell 2 8 true]
theorem n91:Try.f91.ntmps=6:=by kernel_rfl
theorem b91:bodyB Try.prog 91=true:=by kernel_rfl
theorem c91_ok:cmpC Try.prog c91 ((Try.f91.body).getD .skip)=true:=by kernel_rfl
theorem r91_ok:cmpR Try.prog r91 Try.f91.results.toList=true:=by kernel_rfl
theorem t91 {args:List SV} {res:SV} (ka:KFL args) (kr:KF res) (h:sx Try.prog Y0 0 c91 (st0 args 6) (retK r91 res)) (hA:Nat.ble args.length 6=true:=by rfl):Ct Try.prog 91 args res:=ct_intro Try.func91 rfl b91 c91_ok r91_ok n91 (Nat.le_of_ble_eq_true hA) ka kr h
def c92:SC:=(.seq (.reg [
 o1 1 (.box (.t 0) 0 50),
 o1 2 (.alloc [.int .i64 0,.int .i64 0,.int .u8 0,.int .i64 0,.int .i64 0,.int .i64 0,.int .i64 0,.bool false] 50)])
 (.seq (.reg [
 o1 3 (.addo (.t 1) 5),
 o1 4 (.ld (.t 3) 1 false),
 o1 5 (.build [.int .i64 0,.int .i64 0,.int .u8 0,.int .i64 0,.int .i64 0,.int .i64 0,.int .i64 0,.bool false] [(5,1,.t 4)]),
 ⟨none,.st (.t 2) (.t 5) 8,none,[]⟩])
 .ret))
def r92:List RV:=[.cell 2 8 true]
theorem n92:Try.f92.ntmps=6:=by kernel_rfl
theorem b92:bodyB Try.prog 92=true:=by kernel_rfl
theorem c92_ok:cmpC Try.prog c92 ((Try.f92.body).getD .skip)=true:=by kernel_rfl
theorem r92_ok:cmpR Try.prog r92 Try.f92.results.toList=true:=by kernel_rfl
theorem t92 {args:List SV} {res:SV} (ka:KFL args) (kr:KF res) (h:sx Try.prog Y0 0 c92 (st0 args 6) (retK r92 res)) (hA:Nat.ble args.length 6=true:=by rfl):Ct Try.prog 92 args res:=ct_intro Try.func92 rfl b92 c92_ok r92_ok n92 (Nat.le_of_ble_eq_true hA) ka kr h
def c93:SC:=(.seq (.reg [
 o1 1 (.box (.t 0) 0 50),
 o1 2 (.alloc [.int .i64 0,.int .i64 0,.int .u8 0,.int .i64 0,.int .i64 0,.int .i64 0,.int .i64 0,.bool false] 50)])
 (.seq (.reg [
 o1 3 (.addo (.t 1) 3),
 o1 4 (.ld (.t 3) 1 false),
 o1 5 (.addo (.t 1) 4),
 o1 6 (.ld (.t 5) 1 false),
 o1 7 (.addo (.t 1) 6),
 o1 8 (.ld (.t 7) 1 false),
 o1 9 (.build [.int .i64 0,.int .i64 0,.int .u8 0,.int .i64 0,.int .i64 0,.int .i64 0,.int .i64 0,.bool false] [(3,1,.t 4),(4,1,.t 6),(6,1,.t 8)]),
 ⟨none,.st (.t 2) (.t 9) 8,none,[]⟩])
 .ret))
def r93:List RV:=[.cell 2 8 true]
theorem n93:Try.f93.ntmps=10:=by kernel_rfl
theorem b93:bodyB Try.prog 93=true:=by kernel_rfl
theorem c93_ok:cmpC Try.prog c93 ((Try.f93.body).getD .skip)=true:=by kernel_rfl
theorem r93_ok:cmpR Try.prog r93 Try.f93.results.toList=true:=by kernel_rfl
theorem t93 {args:List SV} {res:SV} (ka:KFL args) (kr:KF res) (h:sx Try.prog Y0 0 c93 (st0 args 10) (retK r93 res)) (hA:Nat.ble args.length 10=true:=by rfl):Ct Try.prog 93 args res:=ct_intro Try.func93 rfl b93 c93_ok r93_ok n93 (Nat.le_of_ble_eq_true hA) ka kr h
def c94:SC:=(.seq (.reg [
 o1 2 (.box (.t 0) 0 24),
 o1 3 (.box (.t 1) 0 50),
 o1 4 (.mv (.c (.bool false)))])
 (.seq (.reg [
 o1 5 (.ld (.t 2) 4 true),
 o1 6 (.addo (.t 3) 3),
 o1 7 (.ld (.t 6) 1 false),
 o1 8 (.call 54 [.t 5,.t 7]),
 o1 9 (.bin .geq (.t 8) (.c (.int .i64 0))),
 m1 10 9,
 ⟨some 11,.ld (.t 2) 4 true,some (10,true),[]⟩,
 ⟨some 12,.addo (.t 3) 4,some (10,true),[]⟩,
 ⟨some 13,.ld (.t 12) 1 false,some (10,true),[]⟩,
 ⟨some 14,.call 54 [.t 11,.t 13],some (10,true),[]⟩,
 ⟨some 15,.bin .geq (.t 14) (.c (.int .i64 0)),some (10,true),[]⟩,
 o1 16 (.pick (.t 10) (.t 15) (.c (.bool false))),
 m1 17 16,
 ⟨some 18,.addo (.t 3) 3,some (17,true),[]⟩,
 ⟨some 19,.ld (.t 18) 1 false,some (17,true),[]⟩,
 ⟨some 20,.addo (.t 3) 4,some (17,true),[]⟩,
 ⟨some 21,.ld (.t 20) 1 false,some (17,true),[]⟩,
 ⟨some 22,.bin .neq (.t 19) (.t 21),some (17,true),[]⟩,
 o1 23 (.pick (.t 17) (.t 22) (.c (.bool false))),
 m1 4 23])
 .ret))
def r94:List RV:=[.tmp 4]
theorem n94:Try.f94.ntmps=24:=by kernel_rfl
theorem b94:bodyB Try.prog 94=true:=by kernel_rfl
theorem c94_ok:cmpC Try.prog c94 ((Try.f94.body).getD .skip)=true:=by kernel_rfl
theorem r94_ok:cmpR Try.prog r94 Try.f94.results.toList=true:=by kernel_rfl
theorem t94 {args:List SV} {res:SV} (ka:KFL args) (kr:KF res) (h:sx Try.prog Y0 0 c94 (st0 args 24) (retK r94 res)) (hA:Nat.ble args.length 24=true:=by rfl):Ct Try.prog 94 args res:=ct_intro Try.func94 rfl b94 c94_ok r94_ok n94 (Nat.le_of_ble_eq_true hA) ka kr h
def c97:SC:=(.seq (.reg [
 o1 1 (.box (.t 0) 0 50),
 o1 2 (.alloc [.int .i64 0,.int .i64 0,.int .u8 0,.int .i64 0,.int .i64 0,.int .i64 0,.int .i64 0,.bool false] 50)])
 (.seq (.reg [
 o1 3 (.addo (.t 1) 3),
 o1 4 (.ld (.t 3) 1 false),
 o1 5 (.addo (.t 1) 5),
 o1 6 (.ld (.t 5) 1 false),
 o1 7 (.build [.int .i64 0,.int .i64 0,.int .u8 0,.int .i64 0,.int .i64 0,.int .i64 0,.int .i64 0,.bool false] [(3,1,.t 4),(5,1,.t 6)]),
 ⟨none,.st (.t 2) (.t 7) 8,none,[]⟩])
 .ret))
def r97:List RV:=[.cell 2 8 true]
theorem n97:Try.f97.ntmps=8:=by kernel_rfl
theorem b97:bodyB Try.prog 97=true:=by kernel_rfl
theorem c97_ok:cmpC Try.prog c97 ((Try.f97.body).getD .skip)=true:=by kernel_rfl
theorem r97_ok:cmpR Try.prog r97 Try.f97.results.toList=true:=by kernel_rfl
theorem t97 {args:List SV} {res:SV} (ka:KFL args) (kr:KF res) (h:sx Try.prog Y0 0 c97 (st0 args 8) (retK r97 res)) (hA:Nat.ble args.length 8=true:=by rfl):Ct Try.prog 97 args res:=ct_intro Try.func97 rfl b97 c97_ok r97_ok n97 (Nat.le_of_ble_eq_true hA) ka kr h
def c98:SC:=(.seq (.reg [
 o1 2 (.box (.t 0) 0 24),
 o1 3 (.box (.t 1) 0 50),
 o1 4 (.mv (.c (.bool false)))])
 (.seq (.reg [
 o1 5 (.ld (.t 2) 4 true),
 o1 6 (.addo (.t 3) 3),
 o1 7 (.ld (.t 6) 1 false),
 o1 8 (.call 54 [.t 5,.t 7]),
 o1 9 (.bin .geq (.t 8) (.c (.int .i64 0))),
 m1 4 9])
 .ret))
def r98:List RV:=[.tmp 4]
theorem n98:Try.f98.ntmps=10:=by kernel_rfl
theorem b98:bodyB Try.prog 98=true:=by kernel_rfl
theorem c98_ok:cmpC Try.prog c98 ((Try.f98.body).getD .skip)=true:=by kernel_rfl
theorem r98_ok:cmpR Try.prog r98 Try.f98.results.toList=true:=by kernel_rfl
theorem t98 {args:List SV} {res:SV} (ka:KFL args) (kr:KF res) (h:sx Try.prog Y0 0 c98 (st0 args 10) (retK r98 res)) (hA:Nat.ble args.length 10=true:=by rfl):Ct Try.prog 98 args res:=ct_intro Try.func98 rfl b98 c98_ok r98_ok n98 (Nat.le_of_ble_eq_true hA) ka kr h
def c102:SC:=(.seq (.reg [
 o1 1 (.box (.t 0) 0 50),
 o1 2 (.alloc [.int .i64 0,.int .i64 0,.int .u8 0,.int .i64 0,.int .i64 0,.int .i64 0,.int .i64 0,.bool false] 50)])
 (.seq (.reg [
 o1 3 (.addo (.t 1) 5),
 o1 4 (.ld (.t 3) 1 false),
 o1 5 (.addo (.t 1) 4),
 o1 6 (.ld (.t 5) 1 false),
 o1 7 (.addo (.t 1) 6),
 o1 8 (.ld (.t 7) 1 false),
 o1 9 (.build [.int .i64 0,.int .i64 0,.int .u8 0,.int .i64 0,.int .i64 0,.int .i64 0,.int .i64 0,.bool false] [(5,1,.t 4),(4,1,.t 6),(6,1,.t 8)]),
 ⟨none,.st (.t 2) (.t 9) 8,none,[]⟩])
 .ret))
def r102:List RV:=[.cell 2 8 true]
theorem n102:Try.f102.ntmps=10:=by kernel_rfl
theorem b102:bodyB Try.prog 102=true:=by kernel_rfl
theorem c102_ok:cmpC Try.prog c102 ((Try.f102.body).getD .skip)=true:=by kernel_rfl
theorem r102_ok:cmpR Try.prog r102 Try.f102.results.toList=true:=by kernel_rfl
theorem t102 {args:List SV} {res:SV} (ka:KFL args) (kr:KF res) (h:sx Try.prog Y0 0 c102 (st0 args 10) (retK r102 res)) (hA:Nat.ble args.length 10=true:=by rfl):Ct Try.prog 102 args res:=ct_intro Try.func102 rfl b102 c102_ok r102_ok n102 (Nat.le_of_ble_eq_true hA) ka kr h
def c81:SC:=(.seq (.reg [
 o1 4 (.mv (.c (.int .i64 0)))])
 (.seq (.seq (.reg [
 m1 6 0,
 o1 7 (.len (.t 6)),
 o1 8 (.mv (.c (.int .i64 0)))])
 (.block 0 (.loop (.seq (.reg [
  o1 9 (.bin .lss (.t 8) (.t 7))])
  (.seq (.cond (.t 9)
  .skip
  (.exit 0))
  (.seq (.block 1 (.seq (.reg [
   m1 10 8,
   m1 5 10])
   (.seq (.reg [
   m1 11 1,
   m1 12 0,
   m1 13 5,
   o1 14 (.ixs (.t 12) (.t 13) 1),
   o1 15 (.ld (.t 14) 1 false),
   o1 16 (.calv (.t 11) [.t 15])])
   (.cond (.t 16)
   (.seq (.reg [
    m1 17 5,
    m1 4 17])
    .ret)
   .skip))))
  (.reg [
  o1 18 (.bin .add (.t 8) (.c (.int .i64 1))),
  m1 8 18])))))))
 (.seq (.reg [
 o1 4 (.mv (.c (.int .i64 (-1))))])
 .ret)))
def r81:List RV:=[.tmp 4]
theorem n81:Try.f81.ntmps=19:=by kernel_rfl
theorem b81:bodyB Try.prog 81=true:=by kernel_rfl
theorem c81_ok:cmpC Try.prog c81 ((Try.f81.body).getD .skip)=true:=by kernel_rfl
theorem r81_ok:cmpR Try.prog r81 Try.f81.results.toList=true:=by kernel_rfl
theorem t81 {args:List SV} {res:SV} (ka:KFL args) (kr:KF res) (h:sx Try.prog Y0 0 c81 (st0 args 19) (retK r81 res)) (hA:Nat.ble args.length 19=true:=by rfl):Ct Try.prog 81 args res:=ct_intro Try.func81 rfl b81 c81_ok r81_ok n81 (Nat.le_of_ble_eq_true hA) ka kr h
def c58:SC:=(.seq (.reg [
 o1 4 (.mv (.c (.int .i64 0)))])
 (.seq (.seq (.reg [
 m1 6 0,
 o1 7 (.len (.t 6)),
 o1 8 (.mv (.c (.int .i64 0)))])
 (.block 0 (.loop (.seq (.reg [
  o1 9 (.bin .lss (.t 8) (.t 7))])
  (.seq (.cond (.t 9)
  .skip
  (.exit 0))
  (.seq (.block 1 (.seq (.reg [
   m1 10 8,
   m1 5 10])
   (.seq (.reg [
   m1 11 1,
   m1 12 0,
   m1 13 5,
   o1 14 (.ixs (.t 12) (.t 13) 1),
   o1 15 (.ld (.t 14) 1 false),
   o1 16 (.bin .eql (.t 11) (.t 15))])
   (.cond (.t 16)
   (.seq (.reg [
    m1 17 5,
    m1 4 17])
    .ret)
   .skip))))
  (.reg [
  o1 18 (.bin .add (.t 8) (.c (.int .i64 1))),
  m1 8 18])))))))
 (.seq (.reg [
 o1 4 (.mv (.c (.int .i64 (-1))))])
 .ret)))
def r58:List RV:=[.tmp 4]
theorem n58:Try.f58.ntmps=19:=by kernel_rfl
theorem b58:bodyB Try.prog 58=true:=by kernel_rfl
theorem c58_ok:cmpC Try.prog c58 ((Try.f58.body).getD .skip)=true:=by kernel_rfl
theorem r58_ok:cmpR Try.prog r58 Try.f58.results.toList=true:=by kernel_rfl
theorem t58 {args:List SV} {res:SV} (ka:KFL args) (kr:KF res) (h:sx Try.prog Y0 0 c58 (st0 args 19) (retK r58 res)) (hA:Nat.ble args.length 19=true:=by rfl):Ct Try.prog 58 args res:=ct_intro Try.func58 rfl b58 c58_ok r58_ok n58 (Nat.le_of_ble_eq_true hA) ka kr h
end Go.Proofs.Ythilckbkffjliaa
namespace Go.Sx
open Go Go.RowKit
section typed
variable {K V:Type} [DecidableEq K]
def mpS (key:K→Value) (val:V→SV) (L:List (Nat × K × V)):List (Nat × Value × SV):=L.map fun e=>(e.1,key e.2.1,val e.2.2)
def mget (k:K):List (Nat × K × V)→Option V
 | []=>none
 | e :: l=>if e.2.1=k then some e.2.2 else mget k l
def mset (c:Nat) (k:K) (v:V):List (Nat × K × V)→List (Nat × K × V)
 | []=>[(c,k,v)]
 | e :: l=>if e.2.1=k then (e.1,k,v) :: l else e :: mset c k v l
def mdel (k:K):List (Nat × K × V)→List (Nat × K × V)
 | []=>[]
 | e :: l=>if e.2.1=k then l else e :: mdel k l
def mclk (c:Nat) (k:K) (L:List (Nat × K × V)):Nat:=bif (mget k L).isSome then c else c+1
def fI (k:K):List K→List MapEntry→Nat→Option (Nat × Value)
 | q :: ks,e :: ys,i=>if q=k then some (i,e.val) else fI k ks ys (i+1)
 | _,_,_=>none
structure KeyT (P:Program) (kt:TypeId) (key:K→Value) (sv:K→SV):Prop where
 chk:∀ (em:Bool) (k:K) (w:World),(Instr.checkKey em 10000 kt (key k)).run P w = .ok () w
 fnd:∀ (k:K) (ks:List K) (ys:List MapEntry) (w:World),ys.map (·.key)=ks.map key→(Instr.findKey kt (key k) ys).run P w = .ok (fI k ks ys 0) w
 same:∀ k,Instr.sameBits 10000 (key k) (key k)=true
 svR:∀ {w:World} {E:Env} {n ok:Nat→Prop} (k:K) (y:Value),R w E n ok (sv k) y↔y=key k
theorem fI_spec {w:World} {E:Env} {n ok:Nat→Prop} {key:K→Value} {val:V→SV} (k:K):∀ (L:List (Nat × K × V)) (ys:List MapEntry) (i:Nat),RM w E n ok (mpS key val L) ys →
 (mget k L=none∧fI k (L.map (·.2.1)) ys i=none∧mdel k L=L∧∀ {w':World} {E':Env} {n' ok':Nat→Prop} c v' y',R w' E' n' ok' (val v') y'→RM w' E' n' ok' (mpS key val L) ys→RM w' E' n' ok' (mpS key val (mset c k v' L)) (ys ++ [⟨key k,y',c⟩])) ∨
 ∃ j v e,mget k L=some v∧fI k (L.map (·.2.1)) ys i=some (i+j,e.val)∧ys[j]? = some e∧e.key=key k∧R w E n ok (val v) e.val ∧
  (∀ {w':World} {E':Env} {n' ok':Nat→Prop},RM w' E' n' ok' (mpS key val L) ys→RM w' E' n' ok' (mpS key val (mdel k L)) (ys.eraseIdx j)∧∀ c v' y',R w' E' n' ok' (val v') y'→RM w' E' n' ok' (mpS key val (mset c k v' L)) (ys.modify j fun e=>{ e with key:=key k,val:=y' }))
 | [],ys,i,h=>by
  simp only [mpS,List.map_nil,RM] at h
  subst h
  exact .inl ⟨rfl,rfl,rfl,fun c v' y' hR _=>by simp only [mset,mpS,List.map_cons,List.map_nil,List.nil_append,RM];exact ⟨y',[],rfl,hR,rfl⟩⟩
 | e :: l,ys,i,h=>by
  simp only [mpS,List.map_cons,RM] at h
  obtain ⟨y,r,rfl,h1,h2⟩:=h
  by_cases hk:e.2.1=k
  · refine .inr ⟨0,e.2.2,⟨key e.2.1,y,e.1⟩,by simp [mget,hk],by simp [fI,hk],rfl,by simp [hk],h1,fun {w' E' n' ok'} h'=>?_⟩
    simp only [mpS,List.map_cons,RM] at h'
    obtain ⟨y0,r0,e0,h3,h4⟩:=h'
    cases e0
    refine ⟨by simpa [mdel,hk,mpS] using h4,fun c v' y' hR=>?_⟩
    simp only [mset,hk,if_true,mpS,List.map_cons,RM]
    exact ⟨y',r,by simp,hR,h4⟩
  · rcases fI_spec k l r (i+1) h2 with ⟨a1,a2,a3,a4⟩ | ⟨j,v,e',b1,b2,b3,b4,b5,b6⟩
    · refine .inl ⟨by simp [mget,hk,a1],by simp [fI,hk,a2],by simp [mdel,hk,a3],fun {w' E' n' ok'} c v' y' hR h'=>?_⟩
      simp only [mpS,List.map_cons,RM] at h'
      obtain ⟨y0,r0,e0,h3,h4⟩:=h'
      cases e0
      simp only [mset,hk,if_false,mpS,List.map_cons,RM]
      exact ⟨y,_,rfl,h3,a4 c v' y' hR h4⟩
    · refine .inr ⟨j+1,v,e',by simp [mget,hk,b1],by simp [fI,hk,b2];omega,by simpa using b3,b4,b5,fun {w' E' n' ok'} h'=>?_⟩
      simp only [mpS,List.map_cons,RM] at h'
      obtain ⟨y0,r0,e0,h3,h4⟩:=h'
      cases e0
      obtain ⟨c1,c2⟩:=b6 h4
      refine ⟨?_,fun c v' y' hR=>?_⟩
      · simp only [mdel,hk,if_false,mpS,List.map_cons,RM]
        exact ⟨y,_,by simp,h3,c1⟩
      · simp only [mset,hk,if_false,mpS,List.map_cons,RM]
        exact ⟨y,_,by simp,h3,c2 c v' y' hR⟩
omit [DecidableEq K] in
theorem RM_keys {w:World} {E:Env} {n ok:Nat→Prop} {key:K→Value} {val:V→SV}:∀ {L:List (Nat × K × V)} {ys:List MapEntry},RM w E n ok (mpS key val L) ys→ys.map (·.key)=(L.map (·.2.1)).map key
 | [],ys,h=>by simp only [mpS,List.map_nil,RM] at h;subst h;rfl
 | e :: l,ys,h=>by
  simp only [mpS,List.map_cons,RM] at h
  obtain ⟨y,r,rfl,h1,h2⟩:=h
  simp only [List.map_cons,List.cons.injEq,true_and]
  exact RM_keys h2
theorem RM_len {w:World} {E:Env} {n ok:Nat→Prop}:∀ {L:List (Nat × Value × SV)} {ys:List MapEntry},RM w E n ok L ys→ys.length=L.length
 | [],ys,h=>by simp only [RM] at h;subst h;rfl
 | e :: l,ys,h=>by simp only [RM] at h;obtain ⟨y,r,rfl,h1,h2⟩:=h;simp [RM_len h2]
theorem RM_mem {w:World} {E:Env} {n ok:Nat→Prop}:∀ {L:List (Nat × Value × SV)} {ys:List MapEntry},RM w E n ok L ys→∀ e ∈ ys,∃ x ∈ L,e.born=x.1∧e.key=x.2.1∧R w E n ok x.2.2 e.val
 | [],ys,h=>by simp only [RM] at h;subst h;simp
 | e :: l,ys,h=>by
  simp only [RM] at h;obtain ⟨y,r,rfl,h1,h2⟩:=h
  intro e' he'
  rcases List.mem_cons.1 he' with rfl | he'
  · exact ⟨e,by simp,rfl,rfl,h1⟩
  · obtain ⟨x,hx,h⟩:=RM_mem h2 e' he';exact ⟨x,by simp [hx],h⟩
theorem RM_mem' {w:World} {E:Env} {n ok:Nat→Prop}:∀ {L:List (Nat × Value × SV)} {ys:List MapEntry},RM w E n ok L ys→∀ x ∈ L,∃ e ∈ ys,e.born=x.1
 | [],ys,h=>by simp
 | e :: l,ys,h=>by
  simp only [RM] at h;obtain ⟨y,r,rfl,h1,h2⟩:=h
  intro x hx
  rcases List.mem_cons.1 hx with rfl | hx
  · exact ⟨_,List.mem_cons_self,rfl⟩
  · obtain ⟨e',he',h⟩:=RM_mem' h2 x hx;exact ⟨e',by simp [he'],h⟩
theorem keyInt {P:Program} {kt:TypeId} {kd:IntKind} (hu:P.underlying kt=some (.int kd)):KeyT P kt (fun n:Int=>.int kd n) (fun n=>.v (.int kd n)):=by
 refine ⟨fun em k w=>MapKept.run_checkKey hu (by simp [MapKept.IsKey]) em _,fun k ks ys w h=>?_,fun k=>by simp [Instr.sameBits],fun k y=>by simp only [R]⟩
 have:∀ (ks:List Int) (ys:List MapEntry) (i:Nat),ys.map (·.key)=ks.map (fun n:Int=>Value.int kd n)→Instr.findNow (.int kd) (.int kd k) ys i=some (fI k ks ys i):=by
  intro ks ys
  induction ys generalizing ks with
  | nil=>intro i h;cases ks with
   | nil=>rfl
   | cons a b=>simp at h
  | cons e ys ih=>intro i h;cases ks with
   | nil=>simp at h
   | cons a b =>
    simp only [List.map_cons,List.cons.injEq] at h
    simp only [Instr.findNow,h.1,Instr.sameNow,if_true,fI]
    by_cases ha:a=k
    · subst ha;simp
    · have:(k == a)=false:=by simpa using fun e=>ha e.symm
      simp [this,ha,ih b (i+1) h.2]
 exact MapKept.run_findKey hu (this ks ys 0 h)
theorem keyInt2 {P:Program} {kt t1:TypeId} {f1 f2:Field} (hu:P.underlying kt=some (.struct #[f1,f2])) (hu1:P.underlying t1=some (.int .i64)) (h1:f1.type=t1) (h2:f2.type=t1) (ho1:f1.offset=0) (ho2:f2.offset=1)
 (hs:szOf P t1=some 1) (ha:agOf P t1=some false) (hn:f1.name≠"_") (hn2:f2.name≠"_") (he:∀ (a b c d:Int) (w:World),(Op.equal kt (.agg #[.int .i64 a,.int .i64 b]) (.agg #[.int .i64 c,.int .i64 d])).run P w = .ok (a == c && b == d) w) :
 KeyT P kt (fun n:Int × Int=>.agg #[.int .i64 n.1,.int .i64 n.2]) (fun n=>.agg [.v (.int .i64 n.1),.v (.int .i64 n.2)]):=by
 refine ⟨fun em k w=>?_,fun k ks ys w h=>?_,fun k=>by simp [Instr.sameBits],fun k y=>?_⟩
 · have p1:(part t1 #[Value.int .i64 k.1,.int .i64 k.2] 0).run P w = .ok (.int .i64 k.1) w:=run_part (ag:=false) ha hs _ (fun _=>by simp)
   have p2:(part t1 #[Value.int .i64 k.1,.int .i64 k.2] 1).run P w = .ok (.int .i64 k.2) w:=run_part (ag:=false) ha hs _ (fun _=>by simp)
   have q:∀ x,(Instr.checkKey em 9999 t1 (.int .i64 x)).run P w = .ok () w:=fun x=>MapKept.run_checkKey hu1 (by simp [MapKept.IsKey]) em _
   rw [show (10000:Nat)=9999+1 from rfl,Instr.checkKey]
   simp [Sem.run_bind,run_underlying hu,h1,h2,ho1,ho2,hn,hn2,p1,p2,q]
 · rw [run_findKey_eq w (by rw [hu])]
   have:∀ (ks:List (Int × Int)) (ys:List MapEntry) (i:Nat),ys.map (·.key)=ks.map (fun n:Int × Int=>Value.agg #[.int .i64 n.1,.int .i64 n.2])→(Instr.findAsking kt (.agg #[.int .i64 k.1,.int .i64 k.2]) ys i).run P w = .ok (fI k ks ys i) w:=by
    intro ks ys
    induction ys generalizing ks with
    | nil=>intro i h;cases ks with
     | nil=>rfl
     | cons a b=>simp at h
    | cons e ys ih=>intro i h;cases ks with
     | nil=>simp at h
     | cons a b =>
      simp only [List.map_cons,List.cons.injEq] at h
      simp only [Instr.findAsking,h.1,Sem.run_bind,he,Result.andThen_ok,fI]
      by_cases hak:a=k
      · subst hak;simp
      · have:(k.1 == a.1 && k.2 == a.2)=false:=by
         rw [Bool.eq_false_iff];intro hh
         simp only [Bool.and_eq_true,beq_iff_eq] at hh
         exact hak (Prod.ext hh.1.symm hh.2.symm)
        simp [this,hak,ih b (i+1) h.2]
   exact this ks ys 0 h
 · simp only [R,RL]
   constructor
   · rintro ⟨cs,rfl,y1,r,hcs,rfl,y2,r2,rfl,rfl,rfl⟩
     simp only [Value.agg.injEq]
     apply Array.toList_inj.1;simp [hcs]
   · rintro rfl
     exact ⟨_,rfl,_,_,rfl,rfl,_,_,rfl,rfl,rfl⟩
end typed
section
variable {P:Program} {C:Cx} {E:Env} {σ : St} {a:Act} {w:World}
def oprS (σ : St):Operand→SV
 | .tmp u=>lk u σ.fr
 | .const x=>.v x
 | _=>.any
theorem opr_R (h:Sim C E σ a w) {o:Operand} {s:SV} (hs:oprS σ o=s) (hg:∀ j b u,s≠.gd j b u):R w E (ltn σ.n) (okS C E σ.hp) s (a.eval o):=by
 cases o with
 | tmp u =>
  have:=FR_R (h.fr u) (fun j b u' e=>hg j b u' (by rw [← hs];exact e))
  simp only [oprS] at hs;rw [hs] at this;exact this
 | const x=>simp only [oprS] at hs;subst hs;simp only [R];rfl
 | _=>simp only [oprS] at hs;subst hs;simp only [R]
theorem map_of (h:Sim C E σ a w) {km c:Nat} {es:List (Nat × Value × SV)} (hk:lkh km σ.hp = .map es c) :
 ltn σ.n km∧∃ ys,w.heap[E.β km]? = some (.map ys c)∧RM w E (ltn σ.n) (okS C E σ.hp) es ys.toList:=by
 have hb:=h.hs.bk km
 rw [hk] at hb
 refine ⟨?_,hb⟩
 rcases Classical.em (ltn σ.n km) with q | q
 · exact q
 · rw [h.hs.kn km q] at hk;cases hk
theorem put_go {d:Option Nat} {s:SV} {r:KT} {K:RK} {y:Value} {w':World} {E':Env} {hp':List (Nat × HB)} {n':Nat} {next:Act→World→Prop} (hk:putK d s none ⟨σ.fr,hp',n',σ.N,σ.gs⟩ r K) (h:Sim C E σ a w)
 (hst:Stays w w' (okS C E σ.hp) (okS C E' hp')) (hE:∀ k,k < σ.n→Ele E E' k k) (hn:σ.n≤n') (hh:HSim C E' hp' (ltn n') w') (hR:R w' E' (ltn n') (okS C E' hp') s y)
 (hnext:∀ σ' E' a' w',r σ' K→Sim C E' σ' a' w'→next a' w'):next (a.put d y) w':=by
 rcases putK_ex hk with ⟨g1,g2⟩ | ⟨t,g1,g2,g3,g4,g5⟩
 · rw [g1];exact hnext _ E' _ _ g2 (Sim_same (σ:=σ) h hst hE hn hh)
 · rw [g1]
   exact hnext _ E' _ _ g5 (Sim_put (σ:=σ) h hst hE hn hh g2 g3 (fun j b u e=>by rw [e] at g4;cases g4) hR)
theorem put_go0 {d:Option Nat} {s:SV} {r:KT} {K:RK} {y:Value} {next:Act→World→Prop} (hk:putK d s none σ r K) (h:Sim C E σ a w) (hR:R w E (ltn σ.n) (okS C E σ.hp) s y)
 (hnext:∀ σ' E' a' w',r σ' K→Sim C E' σ' a' w'→next a' w'):next (a.put d y) w :=
 put_go (hp':=σ.hp) (n':=σ.n) hk h (fun b hb _=>⟨hb,rfl⟩) (fun _ _=>Ele.rfl) (Nat.le_refl _) h.hs hR hnext
theorem svR_ng {K':Type} [DecidableEq K'] {kt:TypeId} {key:K'→Value} {sv:K'→SV} (hK:KeyT P kt key sv) (k:K'):∀ j b u,sv k≠.gd j b u:=fun j b u e=>by
 have:=(hK.svR (w:=default) (E:=⟨fun _=>0,fun _ _=>undef,fun _=>0⟩) (n:=fun _=>True) (ok:=fun _=>True) k (key k)).2 rfl
 rw [e] at this;simp only [R] at this
theorem HSim_newO {hp:List (Nat × HB)} {n:Nat→Prop} {q:Nat} {hb:HB} {o:Obj} (h:HSim C E hp n w) (hq:¬ n q) (hocc:∀ (E:Env) b,occ E q hb b↔b=E.β q)
 (hok:∀ E',(∀ k,n k→Ele E E' k k)→E'.β q=w.heap.size→HBok (w.alloc o) E' (fun k=>n k∨k=q) (okS C E' ((q,hb) :: hp)) q hb) :
 ∃ E',(∀ k,n k→Ele E E' k k)∧E'.β q=w.heap.size∧HSim C E' ((q,hb) :: hp) (fun k=>n k∨k=q) (w.alloc o)∧Stays w (w.alloc o) (okS C E hp) (okS C E' ((q,hb) :: hp)):=by
 let E':Env:=⟨fun k=>if k=q then w.heap.size else E.β k,E.hv,E.iss⟩
 have hE:∀ k,n k→Ele E E' k k:=fun k hk=>⟨by simp [E',show k≠q from by rintro rfl;exact hq hk],Nat.le_refl _,fun _ _=>rfl⟩
 have hEn:E'.β q=w.heap.size:=by simp [E']
 have hbel:Below w.heap.size w (w.alloc o):=(Below.refl _ _).alloc (Nat.le_refl _) _
 have hoc:∀ j b,j≠q→(occ E' j (lkh j ((q,hb) :: hp)) b↔occ E j (lkh j hp) b):=fun j b hj=>by
  rw [lkh_cons,if_neg hj]
  cases hl:lkh j hp<;>simp only [occ,E',if_neg hj]
 have hocn:∀ b,occ E' q (lkh q ((q,hb) :: hp)) b↔b=w.heap.size:=fun b=>by
  rw [lkh_cons,if_pos rfl,hocc,hEn]
 have hlt:∀ b,b < w.heap.size→(okS C E' ((q,hb) :: hp) b↔okS C E hp b):=fun b hb'=>by
  unfold okS
  constructor
  · rintro ⟨h1,h2⟩
    refine ⟨h1,fun j hj=>?_⟩
    by_cases hjn:j=q
    · subst hjn;rw [h.kn j hq] at hj;exact hj
    · exact h2 j ((hoc j b hjn).2 hj)
  · rintro ⟨h1,h2⟩
    refine ⟨h1,fun j hj=>?_⟩
    by_cases hjn:j=q
    · subst hjn;rw [hocn] at hj;omega
    · exact h2 j ((hoc j b hjn).1 hj)
 have hst:Stays w (w.alloc o) (okS C E hp) (okS C E' ((q,hb) :: hp)):=fun b hb' hs=>by
  have hlt':b < w.heap.size:=by
   obtain ⟨o,ho⟩:=Option.isSome_iff_exists.1 hs
   exact (Array.getElem?_eq_some_iff.1 ho).1
  exact ⟨(hlt b hlt').2 hb',hbel.block b hlt'⟩
 refine ⟨E',hE,hEn,⟨fun j hj=>?_,fun j=>?_,fun j j' b h1 h2=>?_,fun j b h1=>?_,keeps_below h.kp hbel,fun k hk=>(by obtain ⟨p1,p2⟩:=h.pin k hk;exact ⟨.inl p1,p2.trans (hE k p1)⟩)⟩,hst⟩
 · rw [lkh_cons,if_neg (fun e=>hj (.inr e))];exact h.kn j (fun e=>hj (.inl e))
 · rw [lkh_cons]
   by_cases hj:j=q
   · subst hj;rw [if_pos rfl]
     exact hok E' hE hEn
   · rw [if_neg hj]
     refine HBok_mono hst hE (fun _ h=>.inl h) ?_ (fun b ho=>hbel.block b (occ_lt h ho)) (by simp [E',hj]) (h.bk j)
     rcases Classical.em (n j) with h' | h'
     · exact .inr h'
     · exact .inl (h.kn j h')
 · by_cases hj:j=q<;>by_cases hj':j'=q
   · omega
   · subst hj;rw [hocn] at h1;rw [hoc j' b hj'] at h2;have:=occ_lt h h2;omega
   · subst hj';rw [hocn] at h2;rw [hoc j b hj] at h1;have:=occ_lt h h1;omega
   · exact h.dj j j' b ((hoc j b hj).1 h1) ((hoc j' b hj').1 h2)
 · by_cases hj:j=q
   · subst hj;rw [hocn] at h1;exact .inl (by rw [h1];exact h.kp.size)
   · exact h.lo j b ((hoc j b hj).1 h1)
end
section
variable {P:Program} {K' V:Type} [DecidableEq K'] {key:K'→Value} {sv:K'→SV} {val:V→SV} {L:List (Nat × K' × V)} {km c:Nat} {kt et t ty:TypeId} {mx ix vx:Operand} {σ : St} {r:KT} {K:RK} {d:Option Nat} {k:K'}
theorem raw_mkmap {u:Nat} {rs:Option Operand} (hr:rs=none) (h1:memb u σ.gs=false) (h2:Nat.blt u σ.N=true) (h:r ⟨(u,.mp σ.n) :: σ.fr,(σ.n,.map [] 0) :: σ.hp,σ.n+1,σ.N,σ.gs⟩ K) :
 RAW P (some u) (.makeMap t rs) ty σ r K:=by
 subst hr
 intro o C E a w next Q e1 e2 e3 hS hn hq
 obtain ⟨E',k1,k2,k3,k4⟩:=HSim_newO (q:=σ.n) (hb:=.map [] 0) (o:=.map #[] 0) hS.hs (by simp [ltn]) (fun E b=>by simp only [occ]) (fun E' g1 g2=>by
  simp only [HBok,g2];exact ⟨#[],heap_alloc_new _ _,rfl⟩)
 have hV:(fun k=>ltn σ.n k∨k = σ.n)=ltn (σ.n+1):=by funext k;simp only [ltn,eq_iff_iff];omega
 rw [hV] at k3
 have hx:(execOp a.eval o).run P w = .ok (.value (.map (some w.heap.size))) (w.alloc (.map #[] 0)):=by
  obtain ⟨dst',op',ty',pos,after,guard⟩:=o
  simp only at e2;subst e2
  simp [execOp,Sem.run_bind,Instr.makeMap,run_newO,Sem.run_pure]
 refine wpq_res hx (by simp) ?_
 show next (a.put o.dst _) _
 rw [e1]
 refine hn _ E' _ _ h (Sim_put hS k4 k1 (by omega) k3 (fun hh=>?_) (by simpa [Nat.blt_eq] using h2) (fun _ _ _ e=>by cases e) ?_)
 · rw [memb_iff.2 hh] at h1;cases h1
 · simp only [R,k2];exact ⟨by simp [ltn],trivial⟩
theorem raw_get {ok:Bool} {zs:SV} {z:Value} (hm:oprS σ mx = .mp km) (hh:lkh km σ.hp = .map (mpS key val L) c) (ht:P.underlying t=some (.map kt et)) (hK:KeyT P kt key sv) (hi:oprS σ ix=sv k)
 (hz:zeroOf P et=some z) (hzR:∀ w E n ok,R w E n ok zs z)
 (h1:∀ v,mget k L=some v→putK d (bif ok then .tup [val v,.v (.bool true)] else val v) none σ r K) (h0:mget k L=none→putK d (bif ok then .tup [zs,.v (.bool false)] else zs) none σ r K) :
 RAW P d (.lookup t mx ix ok) ty σ r K:=by
 intro o C E a w next Q e1 e2 e3 hS hn hq
 have hmv:=opr_R hS hm (fun _ _ _=>by simp)
 have hiv:=(hK.svR k _).1 (opr_R hS hi (svR_ng hK k))
 simp only [R] at hmv
 obtain ⟨g0,ys,g1,g2⟩:=map_of hS hh
 have hfn:=fun w=>hK.fnd k _ _ w (RM_keys g2)
 have hex:∀ y,(Instr.lookup t (a.eval mx) (a.eval ix) ok).run P w = .ok y w→(execOp a.eval o).run P w = .ok (.value y) w:=fun y hy=>by
  obtain ⟨dst',op',ty',pos,after,guard⟩:=o
  simp only at e2;subst e2
  simp only [execOp,Sem.run_bind,hy,Result.andThen_ok,Sem.run_pure]
 rcases fI_spec (w:=w) (E:=E) (n:=ltn σ.n) (ok:=okS C E σ.hp) k L ys.toList 0 g2 with ⟨a1,a2,-,-⟩ | ⟨j,v,e,b1,b2,b3,b4,b5,-⟩
 · have hrun:(Instr.lookup t (a.eval mx) (a.eval ix) ok).run P w = .ok (if ok then .tuple #[z,.bool false] else z) w:=by
    rw [hmv.2,hiv]
    simp only [Instr.lookup,Sem.run_bind,run_underlying ht,Result.andThen_ok,run_getO g1 rfl,Sem.run_pure,hK.chk,hfn,a2,run_zeroOf hz]
   refine wpq_res (hex _ hrun) (by simp) ?_
   show next (a.put o.dst _) _
   rw [e1]
   refine put_go0 (h0 a1) hS ?_ hn
   cases ok
   · exact hzR _ _ _ _
   · simp only [cond_true,if_true,R,RL];exact ⟨_,rfl,_,_,rfl,hzR _ _ _ _,_,_,rfl,rfl,rfl⟩
 · have hrun:(Instr.lookup t (a.eval mx) (a.eval ix) ok).run P w = .ok (if ok then .tuple #[e.val,.bool true] else e.val) w:=by
    rw [hmv.2,hiv]
    simp only [Instr.lookup,Sem.run_bind,run_underlying ht,Result.andThen_ok,run_getO g1 rfl,Sem.run_pure,hK.chk,hfn,b2]
   refine wpq_res (hex _ hrun) (by simp) ?_
   show next (a.put o.dst _) _
   rw [e1]
   refine put_go0 (h1 v b1) hS ?_ hn
   cases ok
   · exact b5
   · simp only [cond_true,if_true,R,RL];exact ⟨_,rfl,_,_,rfl,b5,_,_,rfl,rfl,rfl⟩
theorem raw_setG {v:V} {s:SV} {ins:Bool} (hm:oprS σ mx = .mp km) (hh:lkh km σ.hp = .map (mpS key val L) c) (ht:P.underlying t=some (.map kt et)) (hK:KeyT P kt key sv) (hi:oprS σ ix=sv k)
 (hv:oprS σ vx=s) (hvg:∀ j b u,s≠.gd j b u) (hsv:∀ w E n ok y,R w E n ok s y→R w E n ok (val v) y) (h:r ⟨σ.fr,(km,.map (mpS key val (mset c k v L)) (mclk c k L)) :: σ.hp,σ.n,σ.N,σ.gs⟩ K) :
 RAW P none (bif ins then .insert t mx ix vx else .mapUpdate t mx ix vx) ty σ r K:=by
 intro o C E a w next Q e1 e2 e3 hS hn hq
 have hmv:=opr_R hS hm (fun _ _ _=>by simp)
 have hiv:=(hK.svR k _).1 (opr_R hS hi (svR_ng hK k))
 have hvv:=hsv _ _ _ _ _ (opr_R hS hv hvg)
 simp only [R] at hmv
 obtain ⟨g0,ys,g1,g2⟩:=map_of hS hh
 have hfn:=fun w=>hK.fnd k _ _ w (RM_keys g2)
 have hex:∀ w',(Instr.mapUpdate t (a.eval mx) (a.eval ix) (a.eval vx)).run P w = .ok () w'→(execOp a.eval o).run P w = .ok .skip w':=fun w' hy=>by
  obtain ⟨dst',op',ty',pos,after,guard⟩:=o
  simp only at e2;subst e2
  cases ins<;>simp only [cond_true,cond_false,execOp,Sem.run_bind,hy,Result.andThen_ok,Sem.run_pure]
 have hfin:∀ ys',((ys':Array MapEntry),mclk c k L)=(ys',mclk c k L)→(∀ {w':World} {ok':Nat→Prop},RM w' E (ltn σ.n) ok' (mpS key val L) ys.toList→R w' E (ltn σ.n) ok' (val v) (a.eval vx)→RM w' E (ltn σ.n) ok' (mpS key val (mset c k v L)) ys'.toList) →
  next (a.put o.dst undef) (wset w (E.β km) (.map ys' (mclk c k L))):=fun ys' _ hRM=>by
  obtain ⟨q1,q2⟩:=HSim_obj (k:=km) (hb:=.map (mpS key val (mset c k v L)) (mclk c k L)) (o:=.map ys' (mclk c k L)) hS.hs (fun b=>by rw [hh];simp only [occ]) (fun b=>by simp only [occ]) (fun hlt hst=>by
   simp only [HBok]
   exact ⟨ys',wset_same hlt,hRM (RM_mono hst.c (fun _ _=>Ele.rfl) (fun _ h=>h) _ _ g2) (R_mono hst.c (fun _ _=>Ele.rfl) (fun _ h=>h) _ _ hvv)⟩)
  rw [e1]
  exact hn _ E _ _ h (Sim_same hS q2 (fun _ _=>Ele.rfl) (Nat.le_refl _) q1)
 rcases fI_spec (w:=w) (E:=E) (n:=ltn σ.n) (ok:=okS C E σ.hp) k L ys.toList 0 g2 with ⟨a1,a2,-,a4⟩ | ⟨j,v0,e,b1,b2,b3,b4,b5,b6⟩
 · have hc:mclk c k L=c+1:=by simp [mclk,a1]
   have hrun:(Instr.mapUpdate t (a.eval mx) (a.eval ix) (a.eval vx)).run P w = .ok () (wset w (E.β km) (.map (ys.push ⟨key k,a.eval vx,c⟩) (c+1))):=by
    rw [hmv.2,hiv]
    simp only [Instr.mapUpdate,Sem.run_bind,run_underlying ht,Result.andThen_ok,run_getO g1 rfl,Sem.run_pure,hK.chk,hfn,a2,run_setO _ g1 rfl]
   refine wpq_res (hex _ hrun) (by simp) ?_
   show next (a.put o.dst undef) _
   rw [← hc]
   exact hfin _ rfl fun h1 h2=>by rw [Array.toList_push];exact a4 c v _ h2 h1
 · have hc:mclk c k L=c:=by simp [mclk,b1]
   rw [Nat.zero_add] at b2
   have hek:((ys[j]?).map (·.key)).getD (key k)=key k:=by
    have:ys[j]? = some e:=by simpa using b3
    simp [this,b4]
   have hrun:(Instr.mapUpdate t (a.eval mx) (a.eval ix) (a.eval vx)).run P w = .ok () (wset w (E.β km) (.map (ys.modify j fun e=>{ e with key:=key k,val:=a.eval vx }) c)):=by
    rw [hmv.2,hiv]
    simp only [Instr.mapUpdate,Sem.run_bind,run_underlying ht,Result.andThen_ok,run_getO g1 rfl,Sem.run_pure,hK.chk,hfn,b2,hek,Instr.keyThatStays,hK.same,if_true,run_setO _ g1 rfl]
   refine wpq_res (hex _ hrun) (by simp) ?_
   show next (a.put o.dst undef) _
   have:=hfin (ys.modify j fun e=>{ e with key:=key k,val:=a.eval vx }) rfl fun {w' ok'} h1 h2=>by
    rw [Array.toList_modify];exact (b6 h1).2 c v _ h2
   rw [hc] at this;exact this
theorem raw_set {v:V} {ins:Bool} (hm:oprS σ mx = .mp km) (hh:lkh km σ.hp = .map (mpS key val L) c) (ht:P.underlying t=some (.map kt et)) (hK:KeyT P kt key sv) (hi:oprS σ ix=sv k)
 (hv:oprS σ vx=val v) (hvg:∀ j b u,val v≠.gd j b u) (h:r ⟨σ.fr,(km,.map (mpS key val (mset c k v L)) (mclk c k L)) :: σ.hp,σ.n,σ.N,σ.gs⟩ K) :
 RAW P none (bif ins then .insert t mx ix vx else .mapUpdate t mx ix vx) ty σ r K:=raw_setG hm hh ht hK hi hv hvg (fun _ _ _ _ _ h=>h) h
theorem raw_del (hm:oprS σ mx = .mp km) (hh:lkh km σ.hp = .map (mpS key val L) c) (ht:P.underlying t=some (.map kt et)) (hK:KeyT P kt key sv) (hi:oprS σ ix=sv k) {ats:Array TypeId} (ha:ats[0]? = some t)
 (h:r ⟨σ.fr,(km,.map (mpS key val (mdel k L)) c) :: σ.hp,σ.n,σ.N,σ.gs⟩ K) :
 RAW P none (.call { callee:=.builtin .delete,args:=#[mx,ix],argTypes:=ats }) ty σ r K:=by
 intro o C E a w next Q e1 e2 e3 hS hn hq
 have hmv:=opr_R hS hm (fun _ _ _=>by simp)
 have hiv:=(hK.svR k _).1 (opr_R hS hi (svR_ng hK k))
 simp only [R] at hmv
 obtain ⟨g0,ys,g1,g2⟩:=map_of hS hh
 have hfn:=fun w=>hK.fnd k _ _ w (RM_keys g2)
 have hex:∀ w',(Builtin.delete_ ats ty #[a.eval mx,a.eval ix]).run P w = .ok (.tuple #[]) w'→(execOp a.eval o).run P w = .ok (.value (.tuple #[])) w':=fun w' hy=>by
  obtain ⟨dst',op',ty',pos,after,guard⟩:=o
  simp only at e2 e3;subst e2;subst e3
  simp [execOp,resolve,invoke,builtin,hy]
 have hfin:∀ ys':Array MapEntry,(∀ {w':World} {ok':Nat→Prop},RM w' E (ltn σ.n) ok' (mpS key val L) ys.toList→RM w' E (ltn σ.n) ok' (mpS key val (mdel k L)) ys'.toList) →
  next (a.put o.dst (.tuple #[])) (wset w (E.β km) (.map ys' c)):=fun ys' hRM=>by
  obtain ⟨q1,q2⟩:=HSim_obj (k:=km) (hb:=.map (mpS key val (mdel k L)) c) (o:=.map ys' c) hS.hs (fun b=>by rw [hh];simp only [occ]) (fun b=>by simp only [occ]) (fun hlt hst=>by
   simp only [HBok]
   exact ⟨ys',wset_same hlt,hRM (RM_mono hst.c (fun _ _=>Ele.rfl) (fun _ h=>h) _ _ g2)⟩)
  rw [e1]
  exact hn _ E _ _ h (Sim_same hS q2 (fun _ _=>Ele.rfl) (Nat.le_refl _) q1)
 rcases fI_spec (w:=w) (E:=E) (n:=ltn σ.n) (ok:=okS C E σ.hp) k L ys.toList 0 g2 with ⟨a1,a2,a3,-⟩ | ⟨j,v0,e,b1,b2,b3,b4,b5,b6⟩
 · have hrun:(Builtin.delete_ ats ty #[a.eval mx,a.eval ix]).run P w = .ok (.tuple #[]) (wset w (E.β km) (.map ys c)):=by
    rw [hmv.2,hiv]
    simp [Builtin.delete_,Sem.run_bind,ha,run_underlying ht,Result.andThen_ok,run_getO g1 rfl,Sem.run_pure,hK.chk,hfn,a2,run_setO _ g1 rfl]
   refine wpq_res (hex _ hrun) (by simp) ?_
   show next (a.put o.dst _) _
   exact hfin _ fun h1=>by rw [a3];exact h1
 · rw [Nat.zero_add] at b2
   have hlt:j < ys.size:=by
    have:ys[j]? = some e:=by simpa using b3
    exact (Array.getElem?_eq_some_iff.1 this).1
   have hrun:(Builtin.delete_ ats ty #[a.eval mx,a.eval ix]).run P w = .ok (.tuple #[]) (wset w (E.β km) (.map (ys.eraseIdxIfInBounds j) c)):=by
    rw [hmv.2,hiv]
    simp [Builtin.delete_,Sem.run_bind,ha,run_underlying ht,Result.andThen_ok,run_getO g1 rfl,Sem.run_pure,hK.chk,hfn,b2,run_setO _ g1 rfl]
   refine wpq_res (hex _ hrun) (by simp) ?_
   show next (a.put o.dst _) _
   exact hfin _ fun {w' ok'} h1=>by
    have:(ys.eraseIdxIfInBounds j).toList=ys.toList.eraseIdx j:=by simp [Array.eraseIdxIfInBounds,hlt]
    rw [this];exact (b6 h1).1
theorem raw_mlen {es:List (Nat × Value × SV)} (hm:oprS σ mx = .mp km) (hh:lkh km σ.hp = .map es c) (ht:P.underlying t=some (.map kt et)) {ats:Array TypeId} (ha:ats[0]? = some t)
 (h:putK d (.v (.int .i64 es.length)) none σ r K):RAW P d (.call { callee:=.builtin .len,args:=#[mx],argTypes:=ats }) ty σ r K:=by
 intro o C E a w next Q e1 e2 e3 hS hn hq
 have hmv:=opr_R hS hm (fun _ _ _=>by simp)
 simp only [R] at hmv
 obtain ⟨g0,ys,g1,g2⟩:=map_of hS hh
 have hl:=RM_len g2
 have hrun:(Builtin.len_ ats ty #[a.eval mx]).run P w = .ok (.int .i64 es.length) w:=by
  rw [hmv.2]
  simp [Builtin.len_,Sem.run_bind,ha,run_underlying ht,Result.andThen_ok,run_getO g1 rfl,Sem.run_pure,goInt,← hl]
 have hx:(execOp a.eval o).run P w = .ok (.value (.int .i64 es.length)) w:=by
  obtain ⟨dst',op',ty',pos,after,guard⟩:=o
  simp only at e2 e3;subst e2;subst e3
  simp [execOp,resolve,invoke,builtin,hrun]
 refine wpq_res hx (by simp) ?_
 show next (a.put o.dst _) _
 rw [e1]
 exact put_go0 h hS (by simp only [R]) hn
theorem raw_range {u:Nat} {es:List (Nat × Value × SV)} (hm:oprS σ mx = .mp km) (hh:lkh km σ.hp = .map es c) (ht:P.underlying t=some (.map kt et)) (h1:memb u σ.gs=false) (h2:Nat.blt u σ.N=true)
 (h:r ⟨(u,.p σ.n 0) :: σ.fr,(σ.n,.it km c [] c) :: σ.hp,σ.n+1,σ.N,σ.gs⟩ K):RAW P (some u) (.range t mx) ty σ r K:=by
 intro o C E a w next Q e1 e2 e3 hS hn hq
 have hmv:=opr_R hS hm (fun _ _ _=>by simp)
 simp only [R] at hmv
 obtain ⟨g0,ys,g1,g2⟩:=map_of hS hh
 obtain ⟨E',k1,k2,k3,k4⟩:=HSim_newO (q:=σ.n) (hb:=.it km c [] c) (o:=.mapIter (some (E.β km)) c #[] c) hS.hs (by simp [ltn]) (fun E b=>by simp only [occ]) (fun E' q1 q2=>by
  simp only [HBok,q2];exact ⟨.inl g0,by rw [(q1 km g0).1];exact heap_alloc_new _ _⟩)
 have hV:(fun k=>ltn σ.n k∨k = σ.n)=ltn (σ.n+1):=by funext k;simp only [ltn,eq_iff_iff];omega
 rw [hV] at k3
 have hx:(execOp a.eval o).run P w = .ok (.value (.pointer (some ⟨w.heap.size,0,none⟩))) (w.alloc (.mapIter (some (E.β km)) c #[] c)):=by
  obtain ⟨dst',op',ty',pos,after,guard⟩:=o
  simp only at e2;subst e2
  simp only [execOp,hmv.2]
  simp [Sem.run_bind,Instr.range,run_underlying ht,run_getO g1 rfl,run_newO,Sem.run_pure]
 refine wpq_res hx (by simp) ?_
 show next (a.put o.dst _) _
 rw [e1]
 refine hn _ E' _ _ h (Sim_put hS k4 k1 (by omega) k3 (fun hh=>?_) (by simpa [Nat.blt_eq] using h2) (fun _ _ _ e=>by cases e) ?_)
 · rw [memb_iff.2 hh] at h1;cases h1
 · simp only [R,k2];exact ⟨by simp [ltn],trivial⟩
theorem run_next0 (w:World) (ty:TypeId) (rr bm since last:Nat) (seen:Array Nat) (es:Array MapEntry) (clock:Nat)
 (hr:w.heap[rr]? = some (.mapIter (some bm) since seen last)) (hb:w.heap[bm]? = some (.map es clock)) (hold:∀ x ∈ es.toList,x.born < since) (hsc:since≤last) :
 ((∀ x ∈ es.toList,seen.contains x.born=true)∧(Instr.next (.pointer (some ⟨rr,0,none⟩)) false ty).run P w = .ok (.tuple #[.bool false]) w) ∨
 ∃ e ∈ es.toList,seen.contains e.born=false∧∃ k,(Instr.next (.pointer (some ⟨rr,0,none⟩)) false ty).run P w = .ok (.tuple #[.bool true,e.key,e.val]) (wset { w with drawn:=k } rr (.mapIter (some bm) since (seen.push e.born) clock)):=by
 have htest:(!seen.isEmpty && !es.isEmpty && es.all (fun x=>decide (x.born ≥ last)))=false:=by
  rw [Bool.eq_false_iff]
  intro hh
  simp only [Bool.and_eq_true,Bool.not_eq_true'] at hh
  obtain ⟨⟨-,h2⟩,h3⟩:=hh
  have h0:0 < es.size:=by
   rcases Nat.eq_zero_or_pos es.size with h0 | h0
   · simp [Array.isEmpty,h0] at h2
   · exact h0
  rw [Array.all_eq_true_iff_forall_mem] at h3
  have h4:=h3 _ (Array.getElem_mem h0)
  have h5:=hold es[0] (by simp)
  simp at h4;omega
 have hL:(Array.filter (fun e=>!seen.contains e.born) es).filter (fun x=>decide (x.born < since))=Array.filter (fun e=>!seen.contains e.born) es :=
  Array.filter_eq_self.2 fun x hx=>by
   simp only [Array.mem_filter] at hx;simpa using hold x (by simpa using hx.1)
 have hL2:(Array.filter (fun e=>!seen.contains e.born) es).filter (fun x=>decide (x.born ≥ since)) = #[]:=by
  rw [Array.filter_eq_empty_iff]
  intro x hx
  simp only [Array.mem_filter] at hx
  have:=hold x (by simpa using hx.1)
  simp;omega
 simp only [Instr.next,Sem.run_bind,run_getO hr rfl,run_getO hb rfl,Result.andThen_ok,htest,Bool.false_eq_true,if_false,hL,hL2,Array.append_empty]
 have hmem:∀ x,x ∈ Array.filter (fun e=>!seen.contains e.born) es↔x ∈ es.toList∧seen.contains x.born=false:=fun x=>by
  simp [Array.mem_filter]
 generalize hF:Array.filter (fun e=>!seen.contains e.born) es=F at hmem ⊢
 by_cases h0:F.size=0
 · left
   have hE:F = #[]:=Array.eq_empty_of_size_eq_zero h0
   subst hE
   refine ⟨fun x hx=>?_,?_⟩
   · cases hc:seen.contains x.born with
     | true=>rfl
     | false=>have:=(hmem x).2 ⟨hx,hc⟩;simp at this
   · simp [choose,Sem.run,Question.forced]
 · right
   have hne:F.isEmpty=false:=by simp [Array.isEmpty,h0]
   simp only [hne,Bool.false_eq_true,if_false,Array.empty_append,Array.size_map]
   have hch:∃ (j:Nat) (k:Nat),j < F.size∧(choose (Question.mapNext F.size)).run P w = .ok j { w with drawn:=k }:=by
    by_cases hf:F.size≤1
    · exact ⟨0,w.drawn,by omega,by simp [choose,Sem.run,Question.forced,hf]⟩
    · exact ⟨_,w.drawn+1,Nat.mod_lt _ (by omega),by
       simp only [choose,Sem.run,Question.forced,decide_eq_true_eq,hf,if_false,Question.cut]
       rfl⟩
   obtain ⟨j,k,hj,hrun⟩:=hch
   have hm:=(hmem F[j]).1 (Array.getElem_mem hj)
   refine ⟨F[j],hm.1,hm.2,k,?_⟩
   have hr1:({ w with drawn:=k }:World).heap[rr]? = some (.mapIter (some bm) since seen last):=hr
   simp only [hrun,Array.getElem?_map,Array.getElem?_eq_getElem hj,Option.map_some,Sem.run_bind,Result.andThen_ok,run_setO _ hr1 rfl,Sem.run_pure]
theorem raw_next {q since last:Nat} {seen:List Nat} (hm:oprS σ mx = .p q 0) (hq:lkh q σ.hp = .it km since seen last) (hh:lkh km σ.hp = .map (mpS key val L) c) (hold:∀ e ∈ L,e.1 < since) (hsc:since≤last) (hK:KeyT P kt key sv)
 (h0:(∀ e ∈ L,e.1 ∈ seen)→putK d (.tup [.v (.bool false)]) none σ r K)
 (h1:∀ e ∈ L,e.1 ∉ seen→putK d (.tup [.v (.bool true),sv e.2.1,val e.2.2]) none ⟨σ.fr,(q,.it km since (seen ++ [e.1]) c) :: σ.hp,σ.n,σ.N,σ.gs⟩ r K) :
 RAW P d (.next mx false) ty σ r K:=by
 intro o C E a w next Q e1 e2 e3 hS hn _
 have hmv:=opr_R hS hm (fun _ _ _=>by simp)
 simp only [R] at hmv
 obtain ⟨g0,ys,g1,g2⟩:=map_of hS hh
 have hb:=hS.hs.bk q
 rw [hq] at hb
 obtain ⟨-,hit⟩:=hb
 have hex:∀ y w',(Instr.next (a.eval mx) false ty).run P w = .ok y w'→(execOp a.eval o).run P w = .ok (.value y) w':=fun y w' hy=>by
  obtain ⟨dst',op',ty',pos,after,guard⟩:=o
  simp only at e2 e3;subst e2;subst e3
  simp only [execOp,Sem.run_bind,hy,Result.andThen_ok,Sem.run_pure]
 rw [hmv.2] at hex
 rcases run_next0 (P:=P) w ty (E.β q) (E.β km) since last seen.toArray ys c hit g1 (fun x hx=>by
  obtain ⟨z,hz,z1,z2,z3⟩:=RM_mem g2 x hx
  obtain ⟨e,he,rfl⟩:=List.mem_map.1 hz
  rw [z1];exact hold e he) hsc with ⟨k1,k2⟩ | ⟨e,k1,k2,k,k3⟩
 · refine wpq_res (hex _ _ k2) (by simp) ?_
   show next (a.put o.dst _) _
   rw [e1]
   refine put_go0 (h0 fun e he=>?_) hS (by simp only [R,RL];exact ⟨_,rfl,_,_,rfl,rfl,rfl⟩) hn
   obtain ⟨y,hy,hyb⟩:=RM_mem' g2 (e.1,key e.2.1,val e.2.2) (List.mem_map.2 ⟨e,he,rfl⟩)
   have:=k1 y hy
   rw [hyb] at this
   simpa using this
 · refine wpq_res (hex _ _ k3) (by simp) ?_
   show next (a.put o.dst _) _
   obtain ⟨z,hz,z1,z2,z3⟩:=RM_mem g2 e k1
   obtain ⟨x,hx,rfl⟩:=List.mem_map.1 hz
   simp only at z1 z2 z3
   have hS':=sim_drawn hS k
   have hqn:ltn σ.n q:=by
    rcases Classical.em (ltn σ.n q) with h | h
    · exact h
    · rw [hS.hs.kn q h] at hq;cases hq
   obtain ⟨q1,q2⟩:=HSim_obj (k:=q) (hb:=.it km since (seen ++ [x.1]) c) (o:=.mapIter (some (E.β km)) since (seen.toArray.push e.born) c) hS'.hs (fun b=>by rw [hq];simp only [occ]) (fun b=>by simp only [occ]) (fun hlt hst=>by
    simp only [HBok]
    refine ⟨g0,?_⟩
    rw [z1]
    have:(seen ++ [x.1]).toArray=seen.toArray.push x.1:=by simp
    rw [this]
    exact wset_same hlt)
   rw [e1]
   refine put_go (h1 x hx (by rw [z1] at k2;simpa using k2)) hS' q2 (fun _ _=>Ele.rfl) (Nat.le_refl _) q1 ?_ hn
   simp only [R,RL]
   have e4:=(hK.svR (w:=wset { w with drawn:=k } (E.β q) (.mapIter (some (E.β km)) since (seen.toArray.push e.born) c)) (E:=E) (n:=ltn σ.n) (ok:=okS C E ((q,.it km since (seen ++ [x.1]) c) :: σ.hp)) x.2.1 e.key).2 z2
   have z4:R { w with drawn:=k } E (ltn σ.n) (okS C E σ.hp) (val x.2.2) e.val:=R_mono (w:=w) (w':={ w with drawn:=k }) (ok:=okS C E σ.hp) (fun b hb _=>⟨hb,rfl⟩) (fun _ _=>Ele.rfl) (fun _ h=>h) _ _ z3
   exact ⟨_,rfl,_,_,rfl,rfl,_,_,rfl,e4,_,_,rfl,R_mono q2.c (fun _ _=>Ele.rfl) (fun _ h=>h) _ _ z4,rfl⟩
theorem raw_entry {q since:Nat} {seen:List Nat} {e:Nat × K' × V} (hm:oprS σ mx = .p q 0) (hq:lkh q σ.hp = .it km since (seen ++ [e.1]) c) (hh:lkh km σ.hp = .map (mpS key val L) c) (he:e ∈ L) (hn:(L.map (·.1)).Nodup) (hK:KeyT P kt key sv)
 (hk:putK d (.tup [sv e.2.1,val e.2.2]) none σ r K):RAW P d (.entry mx) ty σ r K:=by
 intro o C E a w next Q e1 e2 e3 hS hnx _
 have hmv:=opr_R hS hm (fun _ _ _=>by simp)
 simp only [R] at hmv
 obtain ⟨g0,ys,g1,g2⟩:=map_of hS hh
 have hb:=hS.hs.bk q
 rw [hq] at hb
 obtain ⟨-,hit⟩:=hb
 have hfind:∀ (L:List (Nat × K' × V)) (ys:List MapEntry),RM w E (ltn σ.n) (okS C E σ.hp) (mpS key val L) ys→e ∈ L→(L.map (·.1)).Nodup→∃ y,ys.find? (·.born == e.1)=some y∧y.key=key e.2.1∧R w E (ltn σ.n) (okS C E σ.hp) (val e.2.2) y.val:=by
  intro L
  induction L with
  | nil=>intro ys _ he;cases he
  | cons x l ih =>
   intro ys h he hn
   simp only [mpS,List.map_cons,RM] at h
   obtain ⟨y,r,rfl,h1,h2⟩:=h
   simp only [List.map_cons,List.nodup_cons] at hn
   rcases List.mem_cons.1 he with rfl | he
   · exact ⟨⟨key e.2.1,y,e.1⟩,by simp,rfl,h1⟩
   · obtain ⟨y',q1,q2⟩:=ih r h2 he hn.2
     refine ⟨y',?_,q2⟩
     have:x.1≠e.1:=fun hx=>hn.1 (hx ▸ List.mem_map.2 ⟨e,he,rfl⟩)
     simp [this,q1]
 obtain ⟨y,f1,f2,f3⟩:=hfind L ys.toList g2 he hn
 have f1':ys.find? (·.born == e.1)=some y:=by rw [← Array.find?_toList];exact f1
 have hrun:(Instr.entry (.pointer (some ⟨E.β q,0,none⟩))).run P w = .ok (.tuple #[y.key,y.val]) w:=by
  have:(seen ++ [e.1]).toArray.back? = some e.1:=by simp
  simp only [Instr.entry,Sem.run_bind,run_getO hit rfl,run_getO g1 rfl,Result.andThen_ok,this,bne_self_eq_false,Bool.false_eq_true,if_false,f1',Sem.run_pure]
 have hx:(execOp a.eval o).run P w = .ok (.value (.tuple #[y.key,y.val])) w:=by
  obtain ⟨dst',op',ty',pos,after,guard⟩:=o
  simp only at e2;subst e2
  simp only [execOp,Sem.run_bind,hmv.2,hrun,Result.andThen_ok,Sem.run_pure]
 refine wpq_res hx (by simp) ?_
 show next (a.put o.dst _) _
 rw [e1]
 refine put_go0 hk hS ?_ hnx
 simp only [R,RL]
 exact ⟨_,rfl,_,_,rfl,(hK.svR _ _).2 f2,_,_,rfl,f3,rfl⟩
end
section
variable {K V:Type} [DecidableEq K] {k k':K} {v:V} {c:Nat} {L:List (Nat × K × V)}
structure MW (L:List (Nat × K × V)) (c:Nat):Prop where
 bn:(L.map (·.1)).Nodup
 bl:∀ e ∈ L,e.1 < c
 kn:(L.map (·.2.1)).Nodup
omit [DecidableEq K] in
theorem MW.nil {c:Nat}:MW ([]:List (Nat × K × V)) c:=⟨List.nodup_nil,(fun e h=>by cases h),List.nodup_nil⟩
theorem mget_mem:∀ {L:List (Nat × K × V)},mget k L=some v→∃ b,(b,k,v) ∈ L
 | [],h=>by cases h
 | e :: l,h=>by
  simp only [mget] at h
  split at h
  · rename_i hk;cases h;subst hk;exact ⟨e.1,by simp⟩
  · obtain ⟨b,hb⟩:=mget_mem h;exact ⟨b,by simp [hb]⟩
theorem mget_none:∀ {L:List (Nat × K × V)},mget k L=none↔∀ e ∈ L,e.2.1≠k
 | []=>by simp [mget]
 | e :: l=>by
  simp only [mget]
  split
  · rename_i hk;simp [hk]
  · rename_i hk;rw [mget_none];simp [hk]
theorem mget_of:∀ {L:List (Nat × K × V)} {e:Nat × K × V},(L.map (·.2.1)).Nodup→e ∈ L→mget e.2.1 L=some e.2.2
 | x :: l,e,hn,he=>by
  simp only [List.map_cons,List.nodup_cons] at hn
  simp only [mget]
  rcases List.mem_cons.1 he with rfl | he
  · simp
  · rw [if_neg (fun hx:x.2.1=e.2.1=>hn.1 (by rw [hx];exact List.mem_map.2 ⟨e,he,rfl⟩))]
    exact mget_of hn.2 he
theorem mget_set:∀ {L:List (Nat × K × V)},mget k' (mset c k v L)=if k'=k then some v else mget k' L
 | []=>by simp only [mset,mget];by_cases h:k=k'<;>simp [h,eq_comm]
 | e :: l=>by
  simp only [mset]
  by_cases he:e.2.1=k
  · rw [if_pos he]
    simp only [mget]
    by_cases hk:k=k'
    · subst hk;simp
    · rw [if_neg hk,if_neg (fun h=>hk h.symm),if_neg (fun h=>hk (he.symm.trans h))]
  · rw [if_neg he]
    simp only [mget]
    by_cases hk:e.2.1=k'
    · rw [if_pos hk,if_neg (fun h=>he (hk.trans h)),if_pos hk]
    · rw [if_neg hk,if_neg hk,mget_set]
theorem mset_new:∀ {L:List (Nat × K × V)},mget k L=none→mset c k v L=L ++ [(c,k,v)]
 | [],_=>rfl
 | e :: l,h=>by
  simp only [mget] at h
  split at h
  · cases h
  · rename_i he;simp only [mset,if_neg he,mset_new h,List.cons_append]
theorem mset_map:∀ {L:List (Nat × K × V)},(mget k L).isSome→(mset c k v L).map (fun e=>(e.1,e.2.1))=L.map fun e=>(e.1,e.2.1)
 | [],h=>by simp [mget] at h
 | e :: l,h=>by
  simp only [mget] at h
  simp only [mset]
  split
  · rename_i he;simp [he]
  · rename_i he;rw [if_neg he] at h;simp [mset_map h]
theorem mem_set:∀ {L:List (Nat × K × V)} {e:Nat × K × V},e ∈ mset c k v L→e ∈ L∨e.2=(k,v)
 | [],e,h=>by simp only [mset,List.mem_singleton] at h;subst h;exact .inr rfl
 | x :: l,e,h=>by
  simp only [mset] at h
  split at h
  · rcases List.mem_cons.1 h with rfl | h
    · exact .inr rfl
    · exact .inl (by simp [h])
  · rcases List.mem_cons.1 h with rfl | h
    · exact .inl (by simp)
    · rcases mem_set h with h | h
      · exact .inl (by simp [h])
      · exact .inr h
theorem MW.set (h:MW L c) (v:V):MW (mset c k v L) (mclk c k L):=by
 cases hg:mget k L with
 | none =>
  have hc:mclk c k L=c+1:=by simp [mclk,hg]
  rw [mset_new hg,hc]
  have hk:=mget_none.1 hg
  refine ⟨?_,fun e he=>?_,?_⟩
  · rw [List.map_append,List.nodup_append]
    refine ⟨h.bn,by simp,fun a ha b hb=>?_⟩
    obtain ⟨e,he,rfl⟩:=List.mem_map.1 ha
    simp only [List.map_cons,List.map_nil,List.mem_singleton] at hb
    have:=h.bl e he;omega
  · rcases List.mem_append.1 he with he | he
    · have:=h.bl e he;omega
    · simp only [List.mem_singleton] at he;subst he;simp
  · rw [List.map_append,List.nodup_append]
    refine ⟨h.kn,by simp,fun a ha b hb=>?_⟩
    obtain ⟨e,he,rfl⟩:=List.mem_map.1 ha
    simp only [List.map_cons,List.map_nil,List.mem_singleton] at hb
    rw [hb];exact hk e he
 | some v0 =>
  have hc:mclk c k L=c:=by simp [mclk,hg]
  have hm:=mset_map (c:=c) (v:=v) (k:=k) (L:=L) (by rw [hg];rfl)
  have e1:(mset c k v L).map (·.1)=L.map (·.1):=by
   have:=congrArg (List.map Prod.fst) hm;simpa [List.map_map,Function.comp_def] using this
  have e2:(mset c k v L).map (·.2.1)=L.map (·.2.1):=by
   have:=congrArg (List.map Prod.snd) hm;simpa [List.map_map,Function.comp_def] using this
  rw [hc]
  refine ⟨by rw [e1];exact h.bn,fun e he=>?_,by rw [e2];exact h.kn⟩
  have:e.1 ∈ L.map (·.1):=by rw [← e1];exact List.mem_map.2 ⟨e,he,rfl⟩
  obtain ⟨x,hx,hxe⟩:=List.mem_map.1 this
  rw [← hxe];exact h.bl x hx
theorem mdel_sub:∀ {L:List (Nat × K × V)},(mdel k L).Sublist L
 | []=>.slnil
 | e :: l=>by
  simp only [mdel]
  split
  · exact List.sublist_cons_self _ _
  · exact mdel_sub.cons_cons _
theorem MW.del (h:MW L c):MW (mdel k L) c:=⟨(mdel_sub.map _).nodup h.bn,fun e he=>h.bl e (mdel_sub.subset he),(mdel_sub.map _).nodup h.kn⟩
theorem mget_del:∀ {L:List (Nat × K × V)},(L.map (·.2.1)).Nodup→mget k' (mdel k L)=if k'=k then none else mget k' L
 | [],_=>by simp [mdel,mget]
 | e :: l,hn=>by
  simp only [List.map_cons,List.nodup_cons] at hn
  simp only [mdel]
  by_cases he:e.2.1=k
  · rw [if_pos he]
    by_cases hk:k'=k
    · rw [if_pos hk,mget_none]
      intro x hx hxe
      exact hn.1 (by rw [he,← hk,← hxe];exact List.mem_map.2 ⟨x,hx,rfl⟩)
    · rw [if_neg hk];simp only [mget];rw [if_neg (fun h=>hk (h.symm.trans he))]
  · rw [if_neg he]
    simp only [mget]
    by_cases hk:e.2.1=k'
    · rw [if_pos hk,if_pos hk,if_neg (fun h=>he (hk.trans h))]
    · rw [if_neg hk,if_neg hk,mget_del hn.2]
theorem mem_del {e:Nat × K × V} (hn:(L.map (·.2.1)).Nodup):e ∈ mdel k L↔e ∈ L∧e.2.1≠k:=by
 induction L with
 | nil=>simp [mdel]
 | cons x l ih =>
  simp only [List.map_cons,List.nodup_cons] at hn
  simp only [mdel]
  by_cases hx:x.2.1=k
  · rw [if_pos hx]
    constructor
    · intro he
      exact ⟨by simp [he],fun h=>hn.1 (by rw [hx,← h];exact List.mem_map.2 ⟨e,he,rfl⟩)⟩
    · rintro ⟨he,hk⟩
      rcases List.mem_cons.1 he with rfl | he
      · exact absurd hx hk
      · exact he
  · rw [if_neg hx,List.mem_cons,ih hn.2,List.mem_cons]
    constructor
    · rintro (rfl | ⟨h1,h2⟩)
      · exact ⟨.inl rfl,hx⟩
      · exact ⟨.inr h1,h2⟩
    · rintro ⟨rfl | h1,h2⟩
      · exact .inl rfl
      · exact .inr ⟨h1,h2⟩
theorem mdel_len:∀ {L:List (Nat × K × V)},(mget k L).isSome→(mdel k L).length+1=L.length
 | [],h=>by simp [mget] at h
 | e :: l,h=>by
  simp only [mget] at h
  simp only [mdel]
  split
  · simp
  · rename_i he;rw [if_neg he] at h;simp [mdel_len h]
omit [DecidableEq K] in
theorem mpS_kf {key:K→Value} {val:V→SV}:(∀ e ∈ mpS key val L,KF e.2.2)↔∀ v ∈ L.map (·.2.2),KF (val v):=by
 simp only [mpS,List.mem_map]
 exact ⟨fun h v ⟨e,he,hv⟩=>hv ▸ h _ ⟨e,he,rfl⟩,fun h _ ⟨e,he,hx⟩=>hx ▸ h _ ⟨e,he,rfl⟩⟩
omit [DecidableEq K] in
theorem mpS_kf3 {key:K→Value} {val:V→SV}:(∀ (a:Nat) (b:Value) (c:SV),(a,b,c) ∈ mpS key val L→KF c)↔∀ v ∈ L.map (·.2.2),KF (val v):=by
 rw [← mpS_kf (key:=key)]
 exact ⟨fun h e he=>h e.1 e.2.1 e.2.2 he,fun h a b c he=>h _ he⟩
omit [DecidableEq K] in
theorem mpS_len {key:K→Value} {val:V→SV}:(mpS key val L).length=L.length:=by simp [mpS]
def leftN (L:List (Nat × K × V)) (seen:List Nat):Nat:=(L.filter fun e=>!seen.contains e.1).length
omit [DecidableEq K] in
theorem leftN_lt {e:Nat × K × V} {seen:List Nat} (he:e ∈ L) (hs:e.1 ∉ seen):leftN L (seen ++ [e.1]) < leftN L seen:=by
 unfold leftN
 have hsub:(L.filter fun x=>!(seen ++ [e.1]).contains x.1)=(L.filter fun x=>!seen.contains x.1).filter fun x=>!(x.1 == e.1):=by
  rw [List.filter_filter]
  congr 1;funext x
  simp only [List.contains_append,Bool.not_or]
  rw [Bool.and_comm]
  congr 1
  simp only [List.contains_cons,List.contains_nil,Bool.or_false]
 rw [hsub]
 refine Nat.lt_of_le_of_ne (List.length_filter_le _ _) fun h=>?_
 have:=List.length_filter_eq_length_iff.1 h e (by simp [he,hs])
 simp at this
end
end Go.Sx
namespace Go.Sx
open Go Go.RowKit
def Weak (s s':SV):Prop:=∀ (w:World) (E:Env) (n ok:Nat→Prop) (y:Value),R w E n ok s y→R w E n ok s' y
theorem Weak.rfl {s:SV}:Weak s s:=fun _ _ _ _ _ h=>h
theorem weak_nil {c:Bool} {m:Nat}:Weak (.v (.slice none 0 0)) (.sl c m []):=fun w E n ok y h=>by
 simp only [R] at h ⊢
 exact ⟨none,0,0,h,by simp,⟨Nat.le_refl _,fun _=>Eq.refl _⟩,by simp,by simp⟩
theorem weak_c {c:Bool} {m:Nat} {xs:List (List SV)}:Weak (.sl c m xs) (.sl false m xs):=fun w E n ok y h=>by
 simp only [R] at h ⊢
 obtain ⟨a,len,cap,h1,h2,h3,h4,h5⟩:=h
 exact ⟨a,len,cap,h1,h2,⟨h3.1,fun h=>by cases h⟩,h4,h5⟩
theorem weak_tup {l l':List SV} (h:∀ (w:World) (E:Env) (n ok:Nat→Prop) (ys:List Value),RL w E n ok l ys→RL w E n ok l' ys):Weak (.tup l) (.tup l'):=fun w E n ok y hy=>by
 simp only [R] at hy ⊢
 obtain ⟨cs,h1,h2⟩:=hy
 exact ⟨cs,h1,h _ _ _ _ _ h2⟩
theorem weak_cons {s s':SV} {l l':List SV} (h1:Weak s s') (h2:∀ (w:World) (E:Env) (n ok:Nat→Prop) (ys:List Value),RL w E n ok l ys→RL w E n ok l' ys):∀ (w:World) (E:Env) (n ok:Nat→Prop) (ys:List Value),RL w E n ok (s :: l) ys→RL w E n ok (s' :: l') ys:=fun w E n ok ys h=>by
 simp only [RL] at h ⊢
 obtain ⟨y,r,q1,q2,q3⟩:=h
 exact ⟨y,r,q1,h1 _ _ _ _ _ q2,h2 _ _ _ _ _ q3⟩
def retW (rs:List RV) (res:SV):Ex→St→Prop
 | .ex _,_=>False
 | .n,σ=>∃ s,rvR rs σ = some s∧Weak s res
 | .ret,σ=>∃ s,rvR rs σ = some s∧Weak s res
 | .pan _,_=>False
theorem retW_n (rs:List RV) (res:SV) (σ : St):retW rs res .n σ = ∃ s,rvR rs σ = some s∧Weak s res:=rfl
theorem retW_ret (rs:List RV) (res:SV) (σ : St):retW rs res .ret σ = ∃ s,rvR rs σ = some s∧Weak s res:=rfl
attribute [go_sem] retW_n retW_ret
section
variable {P:Program}
theorem ct_introW {f:FuncId} {fn:Func} {code:Code} {ir:SC} {args:List SV} {res:SV} {rs:List RV} {N:Nat} (hf:P.funcs[f]? = some fn) (hb:fn.body=some code) (hnm:bodyB P f=true) (hc:cmpC P ir code=true)
 (hr:cmpR P rs fn.results.toList=true) (hN:fn.ntmps=N) (hA:args.length≤N) (ka:KFL args) (kr:KF res) (h:sx P Y0 0 ir (st0 args N) (retW rs res)):Ct P f args res:=by
 refine ⟨hnm,ka,kr,fun w ok vs hR=>?_⟩
 let C:Cx:=⟨w,ok,fun _ _=>False,[],none,E0,0⟩
 have hok:∀ b,ok b→okS C E0 [] b:=fun b hb=>⟨.inl hb,fun _ h=>h⟩
 refine body_calls (C:=C) (E:=E0) (hp0:=[]) (n0:=0) hf hb hc hN hA rfl rfl ⟨Nat.le_refl _,fun _ _ h=>h.elim⟩
  ⟨fun k _=>rfl,fun k=>trivial,fun k k' b h=>h.elim,fun k b h=>h.elim,⟨rfl,rfl,rfl,Nat.le_refl _,fun _ _ _=>rfl⟩,fun k hk=>absurd hk (Nat.not_lt_zero k)⟩
  (RL_mono (fun b hb _=>⟨hok b hb,rfl⟩) (fun _ h=>Ele.rfl) (fun _ h=>h.elim) _ _ hR) hdOK0 h fun e σ hk C' E a w' c1 c2 c3 c4 c5 hs=>?_
 have hpass:∀ k b,¬ C'.pass k b:=fun k b=>by rw [c3];exact fun h=>h
 have hend:(∃ s,rvR rs σ = some s∧Weak s res)→∃ v,(results fn a.tmps).run P w' = .ok v w'∧∃ y,Ending.returned v = .returned y∧R w' E0 (fun _=>False) (fun b=>ok b∨w.heap.size≤b) res y∧Below w.heap.size w w':=fun ⟨s,hrr,hw⟩=>by
  obtain ⟨v,h1,h2⟩:=results_R (P:=P) (fn:=fn) (a:=a) (w:=w') (E:=E) (n:=ltn σ.n) (ok:=okF C') hrr fun l hl=>rvs_ok hs hpass rs _ l hr hl
  have hkp:=hs.hs.kp
  have e1:okF C'=fun b=>ok b∨w.heap.size≤b:=by funext b;simp only [okF,c1,c2];rfl
  rw [e1] at h2
  have e0:C'.w0=w:=c1
  refine ⟨v,h1,v,rfl,R_kf res v kr (hw _ _ _ _ _ h2),?_⟩
  have q:=hkp
  exact ⟨by rw [← e0];exact q.os,by rw [← e0];exact q.tape,by rw [← e0];exact q.output,by rw [← e0];exact q.size,fun b hb=>by rw [← e0];exact q.block b (by rw [e0];exact hb) (fun k=>hpass k b)⟩
 cases e with
 | ex i=>exact hk.elim
 | pan s=>exact hk.elim
 | n=>exact hend hk
 | ret=>exact hend hk
end
def two64 (P:Program) (kt t1:TypeId):Bool :=
 match P.underlying kt with
 | some (.struct fs)=>match fs.toList with
  | [f1,f2]=>f1.type == t1 && f2.type == t1 && f1.offset == 0 && f2.offset == 1 && f1.name != "_" && f2.name != "_"
  | _=>false
 | _=>false
theorem key64 {P:Program} {kt t1:TypeId} (h:two64 P kt t1=true) (hu1:P.underlying t1=some (.int .i64)) (hs:szOf P t1=some 1) (ha:agOf P t1=some false) (hag:agOf P kt=some true) (hq:eqT P 5 kt=some [1,1]) :
 KeyT P kt (fun n:Int × Int=>.agg #[.int .i64 n.1,.int .i64 n.2]) (fun n=>.agg [.v (.int .i64 n.1),.v (.int .i64 n.2)]):=by
 unfold two64 at h
 split at h
 · rename_i fs hu
   split at h
   · rename_i f1 f2 hf
     have hfs:fs = #[f1,f2]:=by apply Array.toList_inj.1;simp [hf]
     subst hfs
     simp only [Bool.and_eq_true,beq_iff_eq,bne_iff_ne] at h
     obtain ⟨⟨⟨⟨⟨h1,h2⟩,h3⟩,h4⟩,h5⟩,h6⟩:=h
     refine keyInt2 hu hu1 h1 h2 h3 h4 hs ha h5 h6 fun a b c d w=>?_
     obtain ⟨ag,g1,g2,g3⟩:=eqT_run 5 kt [1,1] hq 10000 (by decide)
     rw [hag] at g1
     cases g1
     exact g3 w [.int .i64 a,.int .i64 b] [.int .i64 c,.int .i64 d] (a == c && b == d) (by simp [eqLV,eqCV,eqA,kbq])
   · cases h
 · cases h
theorem Ct.args {P:Program} {f:FuncId} {args args0:List SV} {res:SV} (h:Ct P f args res) (ka:KFL args0) (hw:∀ (w:World) (E:Env) (n ok:Nat→Prop) (ys:List Value),RL w E n ok args0 ys→RL w E n ok args ys):Ct P f args0 res :=
 ⟨h.1,ka,h.3,fun w ok vs hR=>h.4 w ok vs (hw _ _ _ _ _ hR)⟩
end Go.Sx
namespace Go.Azalai
structure Partner where
 id:Int
 put:Int
 share:Int
deriving DecidableEq
structure Pact where
 partners:List Partner
 calf:Int
 hire:Int
 ends:Int
deriving DecidableEq
structure Letter where
 id:Int
 day:Int
 kind:Int
 who:Int
 other:Int
 animal:Int
 rials:Int
 mouth:Bool
deriving DecidableEq
def inR (lo hi n:Int):Bool:=decide (lo≤n∧n≤hi)
def okPartners (last:Int):List Partner→Bool
 | []=>true
 | x :: r=>inR (last+1) 9999 x.id && inR 0 100000000 x.put && inR 0 1000 x.share && okPartners x.id r
def sumL:List Int→Int
 | []=>0
 | x :: r=>x+sumL r
def okPact (p:Pact):Bool :=
 inR 1 8 p.partners.length && inR 0 1000 p.calf && inR 0 1000 p.hire && inR 0 100000 p.ends && okPartners (-1) p.partners && decide (sumL (p.partners.map (·.put))≠0) && decide (sumL (p.partners.map (·.share))=1000)
def fst' (c:Nat→Int) (k i:Nat):Bool:=decide (c k > c i) || (decide (c k=c i) && decide (k < i))
def rankF (c:Nat→Int) (n i:Nat):Nat:=((List.range n).filter fun k=>fst' c k i).length
def byF (by':List Int) (i:Nat):Int:=by'.getD i 0
def partF (amount:Int) (by':List Int) (i:Nat):Int:=(amount * byF by' i).tdiv (sumL by')
def cutF (amount:Int) (by':List Int) (i:Nat):Int:=(amount * byF by' i).tmod (sumL by')
def leftF (amount:Int) (by':List Int):Int:=amount - sumL ((List.range by'.length).map (partF amount by'))
def dividedF (amount:Int) (by':List Int):List Int :=
 (List.range by'.length).map fun i=>partF amount by' i+if (rankF (cutF amount by') by'.length i:Int) < leftF amount by' then 1 else 0
def divideF (p:Pact) (result:Int):List Int :=
 if result ≥ 0 then dividedF result (p.partners.map (·.share)) else (dividedF (-result) (p.partners.map (·.put))).map fun n=>-n
theorem sumL_app:∀ {a b:List Int},sumL (a ++ b)=sumL a+sumL b
 | [],b=>by simp [sumL]
 | x :: a,b=>by simp only [List.cons_append,sumL];rw [sumL_app];omega
theorem sumL_perm {a b:List Int} (h:a.Perm b):sumL a=sumL b:=by
 induction h with
 | nil=>rfl
 | cons x _ ih=>simp only [sumL];omega
 | swap x y l=>simp only [sumL];omega
 | trans _ _ h1 h2=>omega
theorem sumL_map_add {α : Type} (f g:α→Int):∀ l:List α,sumL (l.map fun x=>f x+g x)=sumL (l.map f)+sumL (l.map g)
 | []=>rfl
 | x :: l=>by simp only [List.map_cons,sumL];rw [sumL_map_add f g l];omega
theorem sumL_nonneg:∀ {l:List Int},(∀ x ∈ l,0≤x)→0≤sumL l
 | [],_=>by simp [sumL]
 | x :: l,h=>by
  have:=h x (by simp)
  have:=sumL_nonneg (l:=l) fun y hy=>h y (by simp [hy])
  simp only [sumL];omega
theorem sumL_le {l:List Int} {b:Int}:(∀ x ∈ l,x≤b)→sumL l≤l.length * b:=by
 induction l with
 | nil=>intro _;simp [sumL]
 | cons x l ih =>
  intro h
  have h1:=h x (by simp)
  have h2:=ih fun y hy=>h y (by simp [hy])
  simp only [sumL,List.length_cons]
  rw [show ((l.length+1:Nat):Int)=(l.length:Int)+1 from by omega,Int.add_mul];omega
theorem sumL_mul {c:Int} {f:Nat→Int}:∀ l:List Nat,sumL (l.map fun i=>c * f i)=c * sumL (l.map f)
 | []=>by simp [sumL]
 | x :: l=>by simp only [List.map_cons,sumL];rw [sumL_mul l,Int.mul_add]
theorem by_range (by':List Int):(List.range by'.length).map (byF by')=by':=by
 apply List.ext_getElem
 · simp
 · intro i h1 h2
   simp [byF,List.getElem?_eq_getElem h2]
theorem left_cut {amount:Int} {by':List Int}:sumL ((List.range by'.length).map (cutF amount by'))=sumL by' * leftF amount by':=by
 have e:sumL ((List.range by'.length).map fun i=>sumL by' * partF amount by' i+cutF amount by' i)=amount * sumL by':=by
  have:(fun i=>sumL by' * partF amount by' i+cutF amount by' i)=fun i=>amount * byF by' i:=by
   funext i
   simp only [partF,cutF]
   have:=Int.tmod_add_mul_tdiv (amount * byF by' i) (sumL by')
   omega
  rw [this,sumL_mul,by_range]
 rw [sumL_map_add,sumL_mul] at e
 rw [leftF,Int.mul_sub,Int.mul_comm (sumL by') amount]
 omega
theorem cut_bd {amount:Int} {by':List Int} (ha:0≤amount) (hb:∀ x ∈ by',0≤x) (hs:0 < sumL by') (i:Nat):0≤cutF amount by' i∧cutF amount by' i < sumL by':=by
 have h0:0≤byF by' i:=by
  unfold byF
  by_cases h:i < by'.length
  · rw [List.getD_eq_getElem?_getD,List.getElem?_eq_getElem h];exact hb _ (List.getElem_mem h)
  · rw [List.getD_eq_getElem?_getD,List.getElem?_eq_none (by omega)];simp
 exact ⟨Int.tmod_nonneg _ (Int.mul_nonneg ha h0),Int.tmod_lt_of_pos _ hs⟩
theorem left_bd {amount:Int} {by':List Int} (ha:0≤amount) (hb:∀ x ∈ by',0≤x) (hs:0 < sumL by'):0≤leftF amount by'∧leftF amount by' < by'.length:=by
 have e:=left_cut (amount:=amount) (by':=by')
 have h1:0≤sumL ((List.range by'.length).map (cutF amount by')):=sumL_nonneg fun x hx=>by
  obtain ⟨i,_,rfl⟩:=List.mem_map.1 hx
  exact (cut_bd ha hb hs i).1
 have h2:sumL ((List.range by'.length).map (cutF amount by'))≤((List.range by'.length).map (cutF amount by')).length * (sumL by' - 1):=sumL_le fun x hx=>by
  obtain ⟨i,_,rfl⟩:=List.mem_map.1 hx
  have:=(cut_bd ha hb hs i).2
  omega
 simp only [List.length_map,List.length_range] at h2
 rw [e] at h1 h2
 have hn:by'.length≠0:=by
  intro h;have:=List.eq_nil_of_length_eq_zero h;subst this;simp [sumL] at hs
 constructor
 · apply Classical.byContradiction;intro hc
   have:sumL by' * leftF amount by' < 0:=Int.mul_neg_of_pos_of_neg hs (by omega)
   omega
 · apply Classical.byContradiction;intro hc
   have q:sumL by' * by'.length≤sumL by' * leftF amount by':=Int.mul_le_mul_of_nonneg_left (by omega) (by omega)
   rw [Int.mul_sub,Int.mul_one,Int.mul_comm (by'.length:Int) (sumL by')] at h2
   omega
theorem fst_irr (c:Nat→Int) (i:Nat):fst' c i i=false:=by simp [fst']
theorem fst_asym {c:Nat→Int} {i k:Nat} (h:fst' c i k=true):fst' c k i=false:=by
 simp only [fst',Bool.or_eq_true,Bool.and_eq_true,decide_eq_true_eq] at h
 simp only [fst',Bool.or_eq_false_iff,Bool.and_eq_false_iff,decide_eq_false_iff_not]
 omega
theorem fst_tot {c:Nat→Int} {i k:Nat} (h:i≠k):fst' c i k=true∨fst' c k i=true:=by
 simp only [fst',Bool.or_eq_true,Bool.and_eq_true,decide_eq_true_eq];omega
theorem fst_trans {c:Nat→Int} {i j k:Nat} (h1:fst' c i j=true) (h2:fst' c j k=true):fst' c i k=true:=by
 simp only [fst',Bool.or_eq_true,Bool.and_eq_true,decide_eq_true_eq] at *;omega
theorem filter_place {R:Nat→Nat→Bool} (hirr:∀ i,R i i=false) (has:∀ i k,R i k=true→R k i=false):∀ {O:List Nat},O.Pairwise (fun a b=>R a b=true)→∀ (r:Nat) (h:r < O.length),(O.filter fun k=>R k O[r]).length=r
 | [],_,r,h=>by simp at h
 | x :: O,hp,0,_=>by
  rw [List.pairwise_cons] at hp
  have:((x :: O).filter fun k=>R k x)=[]:=by
   rw [List.filter_eq_nil_iff]
   intro k hk
   rcases List.mem_cons.1 hk with rfl | hk
   · simp [hirr]
   · simp [has _ _ (hp.1 k hk)]
  simpa using congrArg List.length this
 | x :: O,hp,r+1,h=>by
  rw [List.pairwise_cons] at hp
  have hr:r < O.length:=by simpa using h
  have h1:R x O[r]=true:=hp.1 _ (List.getElem_mem hr)
  simp only [List.getElem_cons_succ,List.filter_cons,h1,if_true,List.length_cons]
  rw [filter_place hirr has hp.2 r hr]
theorem take_rank {c:Nat→Int} {n:Nat} {O:List Nat} (hp:O.Perm (List.range n)) (ho:O.Pairwise fun a b=>fst' c a b=true) {t i:Nat} (hi:i < n):i ∈ O.take t↔rankF c n i < t:=by
 have hm:i ∈ O:=hp.mem_iff.2 (List.mem_range.2 hi)
 obtain ⟨r,hr,rfl⟩:=List.getElem_of_mem hm
 have e:rankF c n O[r]=r:=by
  rw [rankF,← (hp.filter _).length_eq]
  exact filter_place (R:=fst' c) (fst_irr c) (fun i k=>fst_asym) ho r hr
 have hnd:O.Nodup:=hp.nodup_iff.2 List.nodup_range
 rw [e,List.mem_take_iff_getElem]
 constructor
 · rintro ⟨j,hj,h⟩
   have hne:=List.pairwise_iff_getElem.1 (List.nodup_iff_pairwise_ne.1 hnd)
   rcases Nat.lt_trichotomy j r with q | q | q
   · exact absurd h (hne j r (by omega) hr q)
   · omega
   · exact absurd h.symm (hne r j hr (by omega) q)
 · intro h
   exact ⟨r,by omega,rfl⟩
theorem count_rank {c:Nat→Int} {n:Nat} {O:List Nat} (hp:O.Perm (List.range n)) (ho:O.Pairwise fun a b=>fst' c a b=true) {t:Nat} (ht:t≤n):sumL ((List.range n).map fun i=>if rankF c n i < t then 1 else 0)=t:=by
 have h1:sumL ((List.range n).map fun i=>if rankF c n i < t then (1:Int) else 0)=sumL (O.map fun i=>if rankF c n i < t then (1:Int) else 0):=sumL_perm ((hp.map _).symm)
 have hnd:O.Nodup:=hp.nodup_iff.2 List.nodup_range
 have hlen:O.length=n:=by rw [hp.length_eq,List.length_range]
 rw [h1,← List.take_append_drop t O,List.map_append,sumL_app]
 have hin:∀ i ∈ O.take t,(if rankF c n i < t then (1:Int) else 0)=1:=fun i hi=>by
  rw [if_pos ((take_rank hp ho (List.mem_range.1 (hp.mem_iff.1 (List.mem_of_mem_take hi)))).1 hi)]
 have hout:∀ i ∈ O.drop t,(if rankF c n i < t then (1:Int) else 0)=0:=fun i hi=>by
  refine if_neg fun q=>?_
  have h2:=(take_rank hp ho (List.mem_range.1 (hp.mem_iff.1 (List.mem_of_mem_drop hi)))).2 q
  have hnd':=hnd
  rw [← List.take_append_drop t O,List.nodup_append] at hnd'
  exact hnd'.2.2 i h2 i hi rfl
 have k1:∀ l:List Nat,(∀ i ∈ l,(if rankF c n i < t then (1:Int) else 0)=1)→sumL (l.map fun i=>if rankF c n i < t then (1:Int) else 0)=l.length:=by
  intro l
  induction l with
  | nil=>intro _;rfl
  | cons x l ih=>intro h;simp only [List.map_cons,sumL,h x (by simp),ih fun i hi=>h i (by simp [hi]),List.length_cons];omega
 have k0:∀ l:List Nat,(∀ i ∈ l,(if rankF c n i < t then (1:Int) else 0)=0)→sumL (l.map fun i=>if rankF c n i < t then (1:Int) else 0)=0:=by
  intro l
  induction l with
  | nil=>intro _;rfl
  | cons x l ih=>intro h;simp only [List.map_cons,sumL,h x (by simp),ih fun i hi=>h i (by simp [hi])];omega
 rw [k1 _ hin,k0 _ hout,List.length_take]
 omega
def insF (c:Nat→Int) (x:Nat):List Nat→List Nat
 | []=>[x]
 | y :: l=>if fst' c x y=true then x :: y :: l else y :: insF c x l
def srtF (c:Nat→Int):List Nat→List Nat
 | []=>[]
 | x :: l=>insF c x (srtF c l)
theorem insF_perm {c:Nat→Int} {x:Nat}:∀ {l:List Nat},(insF c x l).Perm (x :: l)
 | []=>.refl _
 | y :: l=>by
  simp only [insF]
  split
  · exact .refl _
  · exact ((insF_perm (c:=c) (x:=x) (l:=l)).cons y).trans (.swap x y l)
theorem srtF_perm {c:Nat→Int}:∀ {l:List Nat},(srtF c l).Perm l
 | []=>.refl _
 | x :: l=>insF_perm.trans ((srtF_perm (l:=l)).cons x)
theorem insF_ord {c:Nat→Int} {x:Nat}:∀ {l:List Nat},l.Pairwise (fun a b=>fst' c a b=true)→x ∉ l→(insF c x l).Pairwise fun a b=>fst' c a b=true
 | [],_,_=>List.pairwise_singleton _ _
 | y :: l,h,hx=>by
  rw [List.pairwise_cons] at h
  simp only [List.mem_cons,not_or] at hx
  simp only [insF]
  split
  · rename_i q
    rw [List.pairwise_cons]
    refine ⟨fun z hz=>?_,List.pairwise_cons.2 h⟩
    rcases List.mem_cons.1 hz with rfl | hz
    · exact q
    · exact fst_trans q (h.1 z hz)
  · rename_i q
    rw [List.pairwise_cons]
    refine ⟨fun z hz=>?_,insF_ord h.2 hx.2⟩
    rcases List.mem_cons.1 ((insF_perm (c:=c) (x:=x) (l:=l)).mem_iff.1 hz) with rfl | hz
    · exact (fst_tot hx.1).resolve_left q
    · exact h.1 z hz
theorem srtF_ord {c:Nat→Int}:∀ {l:List Nat},l.Nodup→(srtF c l).Pairwise fun a b=>fst' c a b=true
 | [],_=>.nil
 | x :: l,h=>by
  rw [List.nodup_cons] at h
  exact insF_ord (srtF_ord h.2) fun hm=>h.1 (srtF_perm.mem_iff.1 hm)
theorem divided_sum {amount:Int} {by':List Int} (ha:0≤amount) (hb:∀ x ∈ by',0≤x) (hs:0 < sumL by'):sumL (dividedF amount by')=amount:=by
 have hl:=left_bd ha hb hs
 rw [dividedF,sumL_map_add]
 have e:leftF amount by'=((leftF amount by').toNat:Nat):=by omega
 have h2:=count_rank (c:=cutF amount by') (n:=by'.length) (O:=srtF (cutF amount by') (List.range by'.length)) srtF_perm (srtF_ord List.nodup_range) (t:=(leftF amount by').toNat) (by omega)
 have h3:sumL ((List.range by'.length).map fun i=>if (rankF (cutF amount by') by'.length i:Int) < leftF amount by' then (1:Int) else 0)=leftF amount by':=by
  rw [show leftF amount by'=((leftF amount by').toNat:Int) from e]
  rw [← e]
  conv=>rhs;rw [e]
  rw [← h2]
  congr 1
  apply List.map_congr_left
  intro i _
  by_cases q:rankF (cutF amount by') by'.length i < (leftF amount by').toNat
  · rw [if_pos q,if_pos (by omega)]
  · rw [if_neg q,if_neg (by omega)]
 rw [h3,leftF];omega
end Go.Azalai
namespace Go.Azalai
def atP (p:Pact) (id:Int):Bool:=p.partners.any fun x=>decide (x.id=id)
def okLetter (p:Pact) (x:Letter):Bool :=
 inR 0 9999 x.id && inR 0 100000 x.day &&
  (if x.kind=1∨x.kind=2 then inR 0 10000000 x.rials && decide (x.who=0∧x.other=0∧x.animal=0)
  else if x.kind=3 then atP p x.who && inR 0 9999 x.animal && decide (x.other=0∧x.rials=0)
  else if x.kind=4∨x.kind=5 then inR 0 9999 x.animal && decide (x.who=0∧x.other=0∧x.rials=0)
  else if x.kind=6 then inR 0 9999 x.animal && inR 0 9999 x.other && inR 0 10000000 x.rials && decide (x.who=0)
  else if x.kind=7∨x.kind=8 then atP p x.who && atP p x.other && decide (x.who≠x.other) && inR 0 10000000 x.rials && decide (x.animal=0)
  else false)
def twoB:List Letter→Bool
 | []=>false
 | x :: l=>(l.any fun y=>decide (y.id=x.id) && decide (y≠x)) || twoB l
def onceL (ends:Int):List Int→List Letter→List Letter
 | _,[]=>[]
 | seen,x :: l=>if x.id ∈ seen∨x.day > ends then onceL ends (x.id :: seen) l else x :: onceL ends (x.id :: seen) l
def lt2 (a b:Letter):Bool:=decide (a.day < b.day) || (decide (a.day=b.day) && decide (a.id < b.id))
def insL (x:Letter):List Letter→List Letter
 | []=>[x]
 | y :: l=>if lt2 x y=true then x :: y :: l else y :: insL x l
def srtL:List Letter→List Letter
 | []=>[]
 | x :: l=>insL x (srtL l)
def readE (p:Pact) (l:List Letter):Int :=
 if okPact p=false then 80 else if l.length > 100 then 4 else if l.all (okLetter p)=false then 81 else if twoB l=true then 82 else 0
def readL (p:Pact) (l:List Letter):List Letter:=srtL (onceL p.ends [] l)
theorem lt2_irr (a:Letter):lt2 a a=false:=by simp [lt2]
theorem lt2_asym {a b:Letter} (h:lt2 a b=true):lt2 b a=false:=by
 simp only [lt2,Bool.or_eq_true,Bool.and_eq_true,decide_eq_true_eq] at h
 simp only [lt2,Bool.or_eq_false_iff,Bool.and_eq_false_iff,decide_eq_false_iff_not]
 omega
theorem lt2_trans {a b c:Letter} (h1:lt2 a b=true) (h2:lt2 b c=true):lt2 a c=true:=by
 simp only [lt2,Bool.or_eq_true,Bool.and_eq_true,decide_eq_true_eq] at *;omega
theorem lt2_tot {a b:Letter} (h:a.id≠b.id):lt2 a b=true∨lt2 b a=true:=by
 simp only [lt2,Bool.or_eq_true,Bool.and_eq_true,decide_eq_true_eq];omega
theorem insL_perm {x:Letter}:∀ {l:List Letter},(insL x l).Perm (x :: l)
 | []=>.refl _
 | y :: l=>by
  simp only [insL]
  split
  · exact .refl _
  · exact ((insL_perm (x:=x) (l:=l)).cons y).trans (.swap x y l)
theorem srtL_perm:∀ {l:List Letter},(srtL l).Perm l
 | []=>.refl _
 | x :: l=>insL_perm.trans ((srtL_perm (l:=l)).cons x)
theorem insL_ord {x:Letter}:∀ {l:List Letter},l.Pairwise (fun a b=>lt2 a b=true)→(∀ y ∈ l,y.id≠x.id)→(insL x l).Pairwise fun a b=>lt2 a b=true
 | [],_,_=>List.pairwise_singleton _ _
 | y :: l,h,hx=>by
  rw [List.pairwise_cons] at h
  simp only [insL]
  split
  · rename_i q
    rw [List.pairwise_cons]
    refine ⟨fun z hz=>?_,List.pairwise_cons.2 h⟩
    rcases List.mem_cons.1 hz with rfl | hz
    · exact q
    · exact lt2_trans q (h.1 z hz)
  · rename_i q
    rw [List.pairwise_cons]
    refine ⟨fun z hz=>?_,insL_ord h.2 fun z hz=>hx z (by simp [hz])⟩
    rcases List.mem_cons.1 ((insL_perm (x:=x) (l:=l)).mem_iff.1 hz) with rfl | hz
    · exact (lt2_tot (fun e=>hx y (by simp) e.symm)).resolve_left q
    · exact h.1 z hz
theorem srtL_ord:∀ {l:List Letter},(l.map (·.id)).Nodup→(srtL l).Pairwise fun a b=>lt2 a b=true
 | [],_=>.nil
 | x :: l,h=>by
  rw [List.map_cons,List.nodup_cons] at h
  exact insL_ord (srtL_ord h.2) fun y hy e=>h.1 (List.mem_map.2 ⟨y,srtL_perm.mem_iff.1 hy,e⟩)
theorem ord_uniq:∀ {a b:List Letter},a.Pairwise (fun x y=>lt2 x y=true)→b.Pairwise (fun x y=>lt2 x y=true)→(∀ x,x ∈ a↔x ∈ b)→a=b
 | [],[],_,_,_=>rfl
 | [],y :: b,_,_,h=>by have:=(h y).2 (by simp);cases this
 | x :: a,[],_,_,h=>by have:=(h x).1 (by simp);cases this
 | x :: a,y :: b,ha,hb,h=>by
  rw [List.pairwise_cons] at ha hb
  have e:x=y:=by
   have h1:=(h x).1 (by simp)
   have h2:=(h y).2 (by simp)
   rcases List.mem_cons.1 h1 with e | h1
   · exact e
   · rcases List.mem_cons.1 h2 with e | h2
     · exact e.symm
     · have q1:=hb.1 x h1
       have q2:=ha.1 y h2
       rw [lt2_asym q1] at q2;cases q2
  subst e
  rw [ord_uniq ha.2 hb.2 fun z=>?_]
  constructor
  · intro hz
    rcases List.mem_cons.1 ((h z).1 (by simp [hz])) with rfl | q
    · have:=ha.1 z hz;rw [lt2_irr] at this;cases this
    · exact q
  · intro hz
    rcases List.mem_cons.1 ((h z).2 (by simp [hz])) with rfl | q
    · have:=hb.1 z hz;rw [lt2_irr] at this;cases this
    · exact q
theorem onceL_mem {ends:Int}:∀ {l:List Letter} {seen:List Int} {x:Letter},x ∈ onceL ends seen l→x ∈ l∧x.id ∉ seen∧x.day≤ends
 | [],_,_,h=>by cases h
 | y :: l,seen,x,h=>by
  simp only [onceL] at h
  split at h
  · obtain ⟨h1,h2,h3⟩:=onceL_mem h
    simp only [List.mem_cons,not_or] at h2
    exact ⟨by simp [h1],h2.2,h3⟩
  · rename_i hn
    rcases List.mem_cons.1 h with rfl | h
    · exact ⟨by simp,fun q=>hn (.inl q),by have:=fun q=>hn (.inr q);omega⟩
    · obtain ⟨h1,h2,h3⟩:=onceL_mem h
      simp only [List.mem_cons,not_or] at h2
      exact ⟨by simp [h1],h2.2,h3⟩
theorem onceL_nodup {ends:Int}:∀ {l:List Letter} {seen:List Int},((onceL ends seen l).map (·.id)).Nodup
 | [],_=>.nil
 | y :: l,seen=>by
  simp only [onceL]
  split
  · exact onceL_nodup
  · rw [List.map_cons,List.nodup_cons]
    refine ⟨fun h=>?_,onceL_nodup⟩
    obtain ⟨x,hx,e⟩:=List.mem_map.1 h
    exact (onceL_mem hx).2.1 (by simp [e])
theorem twoB_false:∀ {l:List Letter},twoB l=false→∀ x ∈ l,∀ y ∈ l,x.id=y.id→x=y
 | [],_,x,hx,_,_,_=>by cases hx
 | z :: l,h,x,hx,y,hy,e=>by
  simp only [twoB,Bool.or_eq_false_iff,List.any_eq_false,Bool.and_eq_true,decide_eq_true_eq,not_and,Decidable.not_not] at h
  rcases List.mem_cons.1 hx with hx1 | hx1
  · rcases List.mem_cons.1 hy with hy1 | hy1
    · rw [hx1,hy1]
    · subst hx1;exact (h.1 y hy1 e.symm).symm
  · rcases List.mem_cons.1 hy with hy1 | hy1
    · subst hy1;exact h.1 x hx1 e
    · exact twoB_false h.2 x hx1 y hy1 e
theorem twoB_of:∀ {l:List Letter},(∀ x ∈ l,∀ y ∈ l,x.id=y.id→x=y)→twoB l=false
 | [],_=>rfl
 | z :: l,h=>by
  simp only [twoB,Bool.or_eq_false_iff,List.any_eq_false,Bool.and_eq_true,decide_eq_true_eq,not_and,Decidable.not_not]
  exact ⟨fun y hy e=>h y (by simp [hy]) z (by simp) e,twoB_of fun x hx y hy=>h x (by simp [hx]) y (by simp [hy])⟩
theorem onceL_all {ends:Int}:∀ {l:List Letter} {seen:List Int} {x:Letter},(∀ a ∈ l,∀ b ∈ l,a.id=b.id→a=b)→x ∈ l→x.id ∉ seen→x.day≤ends→x ∈ onceL ends seen l
 | y :: l,seen,x,h,hx,hs,hd=>by
  have h':∀ a ∈ l,∀ b ∈ l,a.id=b.id→a=b:=fun a ha b hb=>h a (by simp [ha]) b (by simp [hb])
  simp only [onceL]
  by_cases e:x.id=y.id
  · have:=h x hx y (by simp) e
    subst this
    rw [if_neg (fun q=>q.elim hs (by omega))]
    simp
  · have hxl:x ∈ l:=by
     rcases List.mem_cons.1 hx with rfl | h
     · exact absurd rfl e
     · exact h
    have:=onceL_all (ends:=ends) (seen:=y.id :: seen) h' hxl (by simp [e,hs]) hd
    split
    · exact this
    · exact List.mem_cons_of_mem _ this
theorem readL_mem {p:Pact} {l:List Letter} (h:twoB l=false) {x:Letter}:x ∈ readL p l↔x ∈ l∧x.day≤p.ends:=by
 rw [readL,srtL_perm.mem_iff]
 constructor
 · intro q;have:=onceL_mem q;exact ⟨this.1,this.2.2⟩
 · rintro ⟨h1,h2⟩;exact onceL_all (twoB_false h) h1 (by simp) h2
theorem readL_ord {p:Pact} {l:List Letter}:(readL p l).Pairwise fun a b=>lt2 a b=true:=srtL_ord onceL_nodup
structure Co where
 loans:Int→Option (Int × Int)
 dead:Int→Bool
 known:Int→Bool
 debts:Int→Int→Int
 extra:Int→Int
 result:Int
def co0:Co:=⟨fun _=>none,fun _=>false,fun _=>false,fun _ _=>0,fun _=>0,0⟩
def upd {α : Type} (f:Int→α) (k:Int) (v:α):Int→α:=fun i=>if i=k then v else f i
def homeF (p:Pact) (c:Co) (animal day:Int) (l:Int × Int):Co :=
 { c with loans:=upd c.loans animal none,extra:=upd c.extra l.1 (c.extra l.1+p.hire * (day - l.2)),result:=c.result - p.hire * (day - l.2) }
def stepF (p:Pact) (c:Co) (x:Letter):Co × Int :=
 if x.kind=1 then ({ c with result:=c.result+x.rials },0)
 else if x.kind=2 then ({ c with result:=c.result - x.rials },0)
 else if x.kind=3 then
  if (c.loans x.animal).isSome=true then (c,1) else if c.dead x.animal=true then (c,2) else ({ c with loans:=upd c.loans x.animal (some (x.who,x.day)) },0)
 else if x.kind=4 then match c.loans x.animal with
  | none=>(c,3)
  | some l=>(homeF p c x.animal x.day l,0)
 else if x.kind=5 then
  if c.dead x.animal=true then (c,2) else match c.loans x.animal with
   | none=>(c,3)
   | some l=>({ homeF p c x.animal x.day l with dead:=upd c.dead x.animal true },0)
 else if x.kind=6 then
  if c.known x.other=true then (c,4) else match c.loans x.animal with
   | none=>(c,3)
   | some l=>({ c with extra:=upd c.extra l.1 (c.extra l.1+(x.rials * p.calf).tdiv 1000),result:=c.result+(x.rials - (x.rials * p.calf).tdiv 1000),known:=upd c.known x.other true },0)
 else if x.kind=7 then ({ c with debts:=upd c.debts x.who (upd (c.debts x.who) x.other (c.debts x.who x.other+x.rials)) },0)
 else if x.kind=8 then
  if c.debts x.who x.other < x.rials then (c,5) else ({ c with debts:=upd c.debts x.who (upd (c.debts x.who) x.other (c.debts x.who x.other - x.rials)) },0)
 else (c,0)
def runF (p:Pact):Co→List Letter→Co
 | c,[]=>c
 | c,x :: l=>runF p (stepF p c x).1 l
def whyL (p:Pact):Co→List Letter→List Int
 | _,[]=>[]
 | c,x :: l=>(stepF p c x).2 :: whyL p (stepF p c x).1 l
theorem step_void {p:Pact} {c:Co} {x:Letter} (h:(stepF p c x).2≠0):(stepF p c x).1=c:=by
 unfold stepF at h ⊢
 repeat' split
 all_goals first | rfl | (exfalso;apply h;simp [*])
theorem runF_app {p:Pact}:∀ {a b:List Letter} {c:Co},runF p c (a ++ b)=runF p (runF p c a) b
 | [],_,_=>rfl
 | x :: a,b,c=>by simp only [List.cons_append,runF];exact runF_app
theorem whyL_app {p:Pact}:∀ {a b:List Letter} {c:Co},whyL p c (a ++ b)=whyL p c a ++ whyL p (runF p c a) b
 | [],_,_=>rfl
 | x :: a,b,c=>by simp only [List.cons_append,whyL,runF];rw [whyL_app]
theorem whyL_len {p:Pact}:∀ {l:List Letter} {c:Co},(whyL p c l).length=l.length
 | [],_=>rfl
 | x :: l,c=>by simp [whyL,whyL_len (l:=l)]
def lastHire (p:Pact) (c:Co) (a:Nat):Int:=match c.loans a with
 | none=>0
 | some l=>p.hire * (p.ends - l.2)
def lastFor (p:Pact) (c:Co) (who:Int) (a:Nat):Int:=match c.loans a with
 | none=>0
 | some l=>if l.1=who then p.hire * (p.ends - l.2) else 0
def endR (p:Pact) (c:Co):Int:=c.result - sumL ((List.range 10000).map (lastHire p c))
def endX (p:Pact) (c:Co) (who:Int):Int:=c.extra who+sumL ((List.range 10000).map (lastFor p c who))
def owedF (p:Pact) (c:Co) (id:Int):Int:=sumL (p.partners.map fun y=>c.debts y.id id - c.debts id y.id)
def optF {α : Type} (f:α→Int):Option α→Int
 | none=>0
 | some x=>f x
def hasF (p:Pact) (c:Co):List Int :=
 (List.range p.partners.length).map fun i=>optF (fun x=>x.put+(divideF p (endR p c)).getD i 0+endX p c x.id+owedF p c x.id) p.partners[i]?
def settleF (p:Pact) (l:List Letter):List Int:=hasF p (runF p co0 l)
end Go.Azalai
namespace Go.Azalai
theorem readL_id {p:Pact} {X:List Letter} (ho:X.Pairwise fun a b=>lt2 a b=true) (hd:∀ x ∈ X,x.day≤p.ends) (h2:twoB X=false):readL p X=X :=
 ord_uniq readL_ord ho fun x=>by rw [readL_mem h2];exact ⟨fun h=>h.1,fun h=>⟨h,hd x h⟩⟩
theorem twoB_sub {l X:List Letter} (h:twoB l=false) (hs:∀ x ∈ X,x ∈ l):twoB X=false :=
 twoB_of fun x hx y hy e=>twoB_false h x (hs x hx) y (hs y hy) e
theorem readL_twoB {p:Pact} {l:List Letter} (h:twoB l=false):twoB (readL p l)=false:=twoB_sub h fun _ hx=>((readL_mem h).1 hx).1
theorem readL_some {p:Pact} {l few:List Letter} (h:twoB l=false) (hs:few.Sublist (readL p l)):readL p few=few :=
 readL_id (readL_ord.sublist hs) (fun _ hx=>((readL_mem h).1 (hs.subset hx)).2) (twoB_sub (readL_twoB h) fun _ hx=>hs.subset hx)
theorem readL_same {p:Pact} {l m:List Letter} (h:twoB l=false) (hs:∀ x,x ∈ m↔x ∈ l):readL p m=readL p l :=
 ord_uniq readL_ord readL_ord fun x=>by rw [readL_mem h,readL_mem (twoB_sub h fun x hx=>(hs x).1 hx),hs]
theorem drop_at {α : Type} {X:List α} {k:Nat} (hk:k < X.length):X=X.take k ++ X[k] :: X.drop (k+1):=by
 rw [← List.drop_eq_getElem_cons hk,List.take_append_drop]
theorem why_at {p:Pact} {X:List Letter} {k:Nat} (hk:k < X.length) (c:Co):(whyL p c X)[k]'(by rw [whyL_len];exact hk)=(stepF p (runF p c (X.take k)) X[k]).2:=by
 have e:whyL p c X=whyL p c (X.take k) ++ ((stepF p (runF p c (X.take k)) X[k]).2 :: whyL p (stepF p (runF p c (X.take k)) X[k]).1 (X.drop (k+1))):=by
  conv=>lhs;rw [drop_at hk]
  rw [whyL_app];rfl
 have hl:(whyL p c (X.take k)).length=k:=by rw [whyL_len,List.length_take];omega
 simp only [e]
 rw [List.getElem_append_right (by omega)]
 simp [hl]
theorem run_void {p:Pact} {X:List Letter} {k:Nat} (hk:k < X.length) {c:Co} (h:(whyL p c X)[k]'(by rw [whyL_len];exact hk)≠0) :
 runF p c (X.take k ++ X.drop (k+1))=runF p c X∧whyL p c (X.take k ++ X.drop (k+1))=(whyL p c X).take k ++ (whyL p c X).drop (k+1):=by
 rw [why_at hk] at h
 have hs:=step_void h
 have hl:(whyL p c (X.take k)).length=k:=by rw [whyL_len,List.length_take];omega
 have e1:runF p c X=runF p (stepF p (runF p c (X.take k)) X[k]).1 (X.drop (k+1)):=by
  conv=>lhs;rw [drop_at hk]
  rw [runF_app];rfl
 have e2:whyL p c X=whyL p c (X.take k) ++ ((stepF p (runF p c (X.take k)) X[k]).2 :: whyL p (stepF p (runF p c (X.take k)) X[k]).1 (X.drop (k+1))):=by
  conv=>lhs;rw [drop_at hk]
  rw [whyL_app];rfl
 rw [e1,e2,hs,runF_app,whyL_app]
 refine ⟨rfl,?_⟩
 rw [List.take_left' hl,List.drop_append,List.drop_of_length_le (l:=whyL p c (X.take k)) (by rw [hl];omega),hl]
 simp
theorem sumL_upd {ids:List Int} {f:Int→Int} {k v:Int} (hn:ids.Nodup) (hk:k ∈ ids):sumL (ids.map (upd f k v))=sumL (ids.map f)+(v - f k):=by
 induction ids with
 | nil=>cases hk
 | cons x l ih =>
  rw [List.nodup_cons] at hn
  simp only [List.map_cons,sumL]
  rcases List.mem_cons.1 hk with rfl | hk
  · have:l.map (upd f k v)=l.map f:=List.map_congr_left fun y hy=>by
     simp only [upd];rw [if_neg];rintro rfl;exact hn.1 hy
    rw [this];simp only [upd,if_true];omega
  · rw [ih hn.2 hk]
    have:upd f k v x=f x:=by simp only [upd];rw [if_neg];rintro rfl;exact hn.1 hk
    omega
theorem okPartners_ids:∀ {l:List Partner} {last:Int},okPartners last l=true→(∀ x ∈ l,last < x.id∧x.id≤9999)∧(l.map (·.id)).Nodup∧(∀ x ∈ l,0≤x.put∧x.put≤100000000∧0≤x.share∧x.share≤1000)
 | [],_,_=>⟨by simp,.nil,by simp⟩
 | x :: l,last,h=>by
  simp only [okPartners,Bool.and_eq_true,inR,decide_eq_true_eq] at h
  obtain ⟨h1,h2,h3⟩:=okPartners_ids h.2
  refine ⟨fun y hy=>?_,?_,fun y hy=>?_⟩
  · rcases List.mem_cons.1 hy with rfl | hy
    · omega
    · have:=h1 y hy;omega
  · rw [List.map_cons,List.nodup_cons]
    refine ⟨fun hm=>?_,h2⟩
    obtain ⟨y,hy,e⟩:=List.mem_map.1 hm
    have:=h1 y hy;omega
  · rcases List.mem_cons.1 hy with rfl | hy
    · omega
    · exact h3 y hy
def ids (p:Pact):List Int:=p.partners.map (·.id)
theorem atP_mem {p:Pact} {k:Int}:atP p k=true↔k ∈ ids p:=by
 simp [atP,ids]
structure CoOk (p:Pact) (c:Co):Prop where
 who:∀ a l,c.loans a=some l→l.1 ∈ ids p
 inb:∀ a l,c.loans a=some l→0≤a∧a≤9999
theorem CoOk.co0 {p:Pact}:CoOk p co0:=⟨fun a l h=>by simp [Go.Azalai.co0] at h,fun a l h=>by simp [Go.Azalai.co0] at h⟩
theorem CoOk.home {p:Pact} {c:Co} (h:CoOk p c) {a d:Int} {l:Int × Int}:CoOk p (homeF p c a d l):=by
 refine ⟨fun b m hb=>?_,fun b m hb=>?_⟩<;>simp only [homeF,upd] at hb<;>split at hb
 · cases hb
 · exact h.who b m hb
 · cases hb
 · exact h.inb b m hb
theorem CoOk.step {p:Pact} {c:Co} (h:CoOk p c) {x:Letter} (hx:okLetter p x=true):CoOk p (stepF p c x).1:=by
 unfold stepF
 split
 · exact ⟨h.who,h.inb⟩
 split
 · exact ⟨h.who,h.inb⟩
 split
 · rename_i n1 n2 k3
   split
   · exact h
   split
   · exact h
   have hl:x.who ∈ ids p∧0≤x.animal∧x.animal≤9999:=by
    simp only [okLetter,k3] at hx
    simp [inR,atP_mem] at hx
    exact ⟨hx.2.1.1,hx.2.1.2⟩
   refine ⟨fun b m hb=>?_,fun b m hb=>?_⟩<;>simp only [upd] at hb<;>split at hb
   · cases hb;exact hl.1
   · exact h.who b m hb
   · rename_i e;subst e;exact hl.2
   · exact h.inb b m hb
 split
 · split
   · exact h
   · exact h.home
 split
 · split
   · exact h
   split
   · exact h
   · rename_i l hl
     have q:=h.home (a:=x.animal) (d:=x.day) (l:=l)
     exact ⟨q.who,q.inb⟩
 split
 · split
   · exact h
   split
   · exact h
   · exact ⟨h.who,h.inb⟩
 split
 · exact ⟨h.who,h.inb⟩
 split
 · split
   · exact h
   · exact ⟨h.who,h.inb⟩
 · exact h
theorem CoOk.run {p:Pact}:∀ {l:List Letter} {c:Co},CoOk p c→(∀ x ∈ l,okLetter p x=true)→CoOk p (runF p c l)
 | [],_,h,_=>h
 | x :: l,c,h,hl=>by
  show CoOk p (runF p (stepF p c x).1 l)
  exact CoOk.run (h.step (hl x (by simp))) fun y hy=>hl y (by simp [hy])
def gainF (x:Letter) (w:Int):Int:=if w≠0 then 0 else if x.kind=1∨x.kind=6 then x.rials else if x.kind=2 then -x.rials else 0
def exS (p:Pact) (c:Co):Int:=sumL ((ids p).map c.extra)
theorem gain_step {p:Pact} {c:Co} (hn:(ids p).Nodup) (h:CoOk p c) (x:Letter):(stepF p c x).1.result+exS p (stepF p c x).1=c.result+exS p c+gainF x (stepF p c x).2:=by
 unfold stepF
 split
 · rename_i k;simp [exS,gainF,k];omega
 split
 · rename_i k;simp [exS,gainF,k];omega
 split
 · rename_i k
   split
   · simp [exS,gainF]
   split
   · simp [exS,gainF]
   · simp [exS,gainF,k]
 split
 · rename_i k
   split
   · simp [exS,gainF]
   · rename_i l hl
     have:=sumL_upd (f:=c.extra) (v:=c.extra l.1+p.hire * (x.day - l.2)) hn (h.who _ _ hl)
     simp only [exS,homeF,gainF,this,k];simp;omega
 split
 · rename_i k
   split
   · simp [exS,gainF]
   split
   · simp [exS,gainF]
   · rename_i l hl
     have:=sumL_upd (f:=c.extra) (v:=c.extra l.1+p.hire * (x.day - l.2)) hn (h.who _ _ hl)
     simp only [exS,homeF,gainF,this,k];simp;omega
 split
 · rename_i k
   split
   · simp [exS,gainF]
   split
   · simp [exS,gainF]
   · rename_i l hl
     have:=sumL_upd (f:=c.extra) (v:=c.extra l.1+(x.rials * p.calf).tdiv 1000) hn (h.who _ _ hl)
     simp only [exS,gainF,this,k];simp;omega
 split
 · rename_i k;simp [exS,gainF,k]
 split
 · rename_i k
   split
   · simp [exS,gainF]
   · simp [exS,gainF,k]
 · rename_i k1 k2 k3 k4 k5 k6 k7 k8
   simp only [exS,gainF]
   rw [if_neg (by simp),if_neg (fun q=>q.elim k1 k6),if_neg k2];omega
def gainL:List Letter→List Int→Int
 | x :: l,w :: ws=>gainF x w+gainL l ws
 | _,_=>0
theorem gain_run {p:Pact} (hn:(ids p).Nodup):∀ {l:List Letter} {c:Co},CoOk p c→(∀ x ∈ l,okLetter p x=true)→(runF p c l).result+exS p (runF p c l)=c.result+exS p c+gainL l (whyL p c l)
 | [],c,_,_=>by simp [runF,whyL,gainL]
 | x :: l,c,h,hl=>by
  have h1:=gain_step hn h x
  have h2:=gain_run hn (h.step (hl x (by simp))) (l:=l) fun y hy=>hl y (by simp [hy])
  simp only [runF,whyL,gainL]
  omega
theorem sumL_zero {α : Type} {f:α→Int}:∀ {l:List α},(∀ x ∈ l,f x=0)→sumL (l.map f)=0
 | [],_=>rfl
 | x :: l,h=>by simp only [List.map_cons,sumL,h x (by simp),sumL_zero (l:=l) fun y hy=>h y (by simp [hy])];omega
theorem sumL_swap {α β : Type} {f:α→β→Int} {m:List β}:∀ {l:List α},sumL (l.map fun x=>sumL (m.map fun y=>f x y))=sumL (m.map fun y=>sumL (l.map fun x=>f x y))
 | []=>by simp only [List.map_nil,sumL];exact (sumL_zero fun _ _=>rfl).symm
 | x :: l=>by
  simp only [List.map_cons,sumL]
  rw [sumL_swap,sumL_map_add]
theorem sumL_neg {α : Type} {f:α→Int}:∀ {l:List α},sumL (l.map fun x=>-f x) = -sumL (l.map f)
 | []=>rfl
 | x :: l=>by simp only [List.map_cons,sumL,sumL_neg (l:=l)];omega
theorem sumL_one {ids:List Int} {k v:Int} (hn:ids.Nodup) (hk:k ∈ ids):sumL (ids.map fun i=>if k=i then v else 0)=v:=by
 have h:=sumL_upd (f:=fun _=>0) (v:=v) hn hk
 rw [sumL_zero (fun _ _=>rfl)] at h
 have e:(fun i=>if k=i then v else 0)=upd (fun _=>0) k v:=by
  funext i;simp only [upd]
  by_cases q:k=i
  · rw [if_pos q,if_pos q.symm]
  · rw [if_neg q,if_neg fun e=>q e.symm]
 rw [e,h];omega
theorem owed_sum {p:Pact} {c:Co}:sumL (p.partners.map fun x=>owedF p c x.id)=0:=by
 have h:sumL (p.partners.map fun x=>sumL (p.partners.map fun y=>c.debts y.id x.id))=sumL (p.partners.map fun y=>sumL (p.partners.map fun x=>c.debts y.id x.id)):=sumL_swap
 have e:(fun x:Partner=>owedF p c x.id)=fun x=>sumL (p.partners.map fun y=>c.debts y.id x.id)+-sumL (p.partners.map fun y=>c.debts x.id y.id):=by
  funext x
  rw [owedF,← sumL_neg,← sumL_map_add]
  congr 1
 rw [e,sumL_map_add,sumL_neg,h];omega
theorem last_sum {p:Pact} {c:Co} (hn:(ids p).Nodup) (h:CoOk p c) (az:List Nat):sumL ((ids p).map fun w=>sumL (az.map (lastFor p c w)))=sumL (az.map (lastHire p c)):=by
 rw [sumL_swap]
 congr 1
 apply List.map_congr_left
 intro a _
 simp only [lastFor,lastHire]
 cases hl:c.loans a with
 | none=>exact sumL_zero fun _ _=>rfl
 | some l=>exact sumL_one hn (h.who _ _ hl)
theorem range_map {α β : Type} {l:List α} {f:Nat→α→β} {g:Nat→β} (h:∀ i (hi:i < l.length),g i=f i l[i]):(List.range l.length).map g=l.mapIdx f:=by
 apply List.ext_getElem
 · simp
 · intro i h1 h2
   simp at h1 ⊢
   exact h i h1
theorem hasF_len {p:Pact} {c:Co}:(hasF p c).length=p.partners.length:=by simp [hasF]
theorem divideF_len {p:Pact} {r:Int}:(divideF p r).length=p.partners.length:=by
 unfold divideF dividedF;split<;>simp
theorem sum_getD {l:List Int}:sumL ((List.range l.length).map fun i=>l.getD i 0)=sumL l:=by
 congr 1
 apply List.ext_getElem
 · simp
 · intro i h1 h2;simp [List.getElem?_eq_getElem h2]
theorem sum_part {α : Type} {l:List α} {f:α→Int}:sumL ((List.range l.length).map fun i=>optF f l[i]?)=sumL (l.map f):=by
 congr 1
 apply List.ext_getElem
 · simp
 · intro i h1 h2
   simp at h1 h2 ⊢
   rw [List.getElem?_eq_getElem h2];rfl
theorem okPact_all {p:Pact} (h:okPact p=true):(ids p).Nodup∧(∀ x ∈ p.partners.map (·.share),0≤x)∧(∀ x ∈ p.partners.map (·.put),0≤x)∧0 < sumL (p.partners.map (·.put))∧sumL (p.partners.map (·.share))=1000∧1≤p.partners.length∧p.partners.length≤8:=by
 simp only [okPact,Bool.and_eq_true,inR,decide_eq_true_eq] at h
 obtain ⟨⟨⟨⟨⟨⟨h1,h2⟩,h3⟩,h4⟩,h5⟩,h6⟩,h7⟩:=h
 obtain ⟨i1,i2,i3⟩:=okPartners_ids h5
 have hp:∀ x ∈ p.partners.map (·.put),0≤x:=fun x hx=>by
  obtain ⟨y,hy,rfl⟩:=List.mem_map.1 hx
  have:=i3 y hy;omega
 refine ⟨i2,fun x hx=>?_,hp,?_,h7,by omega,by omega⟩
 · obtain ⟨y,hy,rfl⟩:=List.mem_map.1 hx
   have:=i3 y hy;omega
 · have:=sumL_nonneg hp;omega
theorem divide_sum {p:Pact} (h:okPact p=true) (r:Int):sumL (divideF p r)=r:=by
 obtain ⟨h1,h2,h3,h4,h5,_,_⟩:=okPact_all h
 unfold divideF
 split
 · exact divided_sum (by omega) h2 (by omega)
 · have:=divided_sum (amount:=-r) (by omega) h3 h4
   have e:=sumL_neg (f:=fun n:Int=>n) (l:=dividedF (-r) (p.partners.map (·.put)))
   rw [List.map_id'] at e
   rw [e,this];omega
theorem kept {p:Pact} {l:List Letter} (h:okPact p=true) (hl:∀ x ∈ l,okLetter p x=true):sumL (settleF p l)=sumL (p.partners.map (·.put))+gainL l (whyL p co0 l):=by
 obtain ⟨h1,-⟩:=okPact_all h
 have hc:=CoOk.co0.run (p:=p) hl
 have hg:=gain_run h1 CoOk.co0 hl
 unfold settleF
 generalize runF p co0 l=c at hc hg ⊢
 have e:hasF p c=(List.range p.partners.length).map fun i=>(optF (fun x=>x.put+endX p c x.id+owedF p c x.id) p.partners[i]?)+(optF (fun _=>(divideF p (endR p c)).getD i 0) p.partners[i]?):=by
  unfold hasF
  apply List.map_congr_left
  intro i hi
  rw [List.mem_range] at hi
  rw [List.getElem?_eq_getElem hi]
  simp only [optF];omega
 have e2:((List.range p.partners.length).map fun i=>optF (fun _=>(divideF p (endR p c)).getD i 0) p.partners[i]?)=(List.range (divideF p (endR p c)).length).map fun i=>(divideF p (endR p c)).getD i 0:=by
  rw [divideF_len]
  apply List.map_congr_left
  intro i hi
  rw [List.mem_range] at hi
  rw [List.getElem?_eq_getElem hi];rfl
 rw [e,sumL_map_add,e2,sum_getD,divide_sum h,sum_part (f:=fun x:Partner=>x.put+endX p c x.id+owedF p c x.id)]
 have e3:sumL (p.partners.map fun x=>x.put+endX p c x.id+owedF p c x.id)=sumL (p.partners.map (·.put))+sumL (p.partners.map fun x=>endX p c x.id)+0:=by
  rw [← owed_sum (p:=p) (c:=c),← sumL_map_add,← sumL_map_add]
 have e4:sumL (p.partners.map fun x=>endX p c x.id)=exS p c+sumL ((List.range 10000).map (lastHire p c)):=by
  rw [← last_sum h1 hc,exS,← sumL_map_add]
  simp [ids,Function.comp_def,endX]
 have z:(co0.result+exS p co0)=0:=by
  have:exS p co0=0:=sumL_zero fun _ _=>rfl
  rw [this];rfl
 rw [e3,e4,endR]
 omega
end Go.Azalai
namespace Go.Azalai
def fewF (calf:Int):Bool→List Letter→List Int→List Letter
 | born,x :: l,w :: ws=>if ¬(x.kind=6∧x.other=calf) then x :: fewF calf born l ws else if born=true then fewF calf born l ws else x :: fewF calf (decide (w=0)) l ws
 | _,_,_=>[]
def calfB (calf:Int):Bool→List Letter→List Int→Bool
 | born,x :: l,w :: ws=>if ¬(x.kind=6∧x.other=calf) then calfB calf born l ws else if born=true then decide (w=4) && calfB calf born l ws else decide (w=0∨w=3) && calfB calf (decide (w=0)) l ws
 | _,_,_=>true
theorem step_known {p:Pact} {c:Co} {x:Letter} {calf:Int} (h:¬(x.kind=6∧x.other=calf)):(stepF p c x).1.known calf=c.known calf:=by
 unfold stepF
 repeat' split
 all_goals first | rfl | skip
 rename_i k6 _ _ _ _
 simp only [upd]
 rw [if_neg fun e=>h ⟨k6,e.symm⟩]
theorem step_calf {p:Pact} {c:Co} {x:Letter} (h:x.kind=6):(c.known x.other=true→stepF p c x=(c,4))∧(c.known x.other=false→((stepF p c x).2=0∨(stepF p c x).2=3)∧(stepF p c x).1.known x.other=decide ((stepF p c x).2=0)):=by
 unfold stepF
 simp only [h]
 constructor
 · intro hk;simp [hk]
 · intro hk
   simp [hk]
   cases c.loans x.animal with
   | none=>simp [hk]
   | some l=>simp [upd]
theorem calf_run {p:Pact} {calf:Int}:∀ {l:List Letter} {c:Co} {born:Bool},c.known calf=born→runF p c (fewF calf born l (whyL p c l))=runF p c l∧calfB calf born l (whyL p c l)=true
 | [],_,_,_=>⟨rfl,rfl⟩
 | x :: l,c,born,h=>by
  simp only [whyL,fewF,calfB]
  by_cases hx:x.kind=6∧x.other=calf
  · obtain ⟨h6,rfl⟩:=hx
    obtain ⟨s1,s2⟩:=step_calf (p:=p) (c:=c) h6
    simp only [h6,not_true,and_self,if_false,not_false_iff]
    cases born with
    | true =>
     simp only [if_true]
     rw [s1 h]
     have:=calf_run (p:=p) (calf:=x.other) (l:=l) (c:=c) (born:=true) h
     exact ⟨by rw [this.1];simp only [runF,s1 h],by rw [this.2];rfl⟩
    | false =>
     simp only [Bool.false_eq_true,if_false]
     obtain ⟨t1,t2⟩:=s2 h
     have:=calf_run (p:=p) (calf:=x.other) (l:=l) (c:=(stepF p c x).1) t2
     refine ⟨?_,?_⟩
     · simp only [runF];exact this.1
     · rw [this.2,decide_eq_true t1];rfl
  · rw [if_pos hx,if_pos hx]
    have:=calf_run (p:=p) (calf:=calf) (l:=l) (c:=(stepF p c x).1) (born:=born) (by rw [step_known hx];exact h)
    exact ⟨by simp only [runF];exact this.1,this.2⟩
theorem fewF_sub {calf:Int}:∀ {l:List Letter} {ws:List Int} {born:Bool},(fewF calf born l ws).Sublist l
 | [],_,_=>by simp [fewF]
 | x :: l,[],_=>by simp [fewF]
 | x :: l,w :: ws,born=>by
  simp only [fewF]
  split
  · exact fewF_sub.cons_cons x
  · split
    · exact fewF_sub.cons x
    · exact fewF_sub.cons_cons x
structure Alike (a:Int) (c d:Co):Prop where
 loans:c.loans=d.loans
 none:c.loans a=none
 dead:∀ b,b≠a→c.dead b=d.dead b
 known:c.known=d.known
 debts:c.debts=d.debts
 extra:c.extra=d.extra
 result:c.result=d.result
theorem Alike.home {a:Int} {c d:Co} {p:Pact} (h:Alike a c d) {b n:Int} {l:Int × Int}:Alike a (homeF p c b n l) (homeF p d b n l):=by
 refine ⟨?_,?_,h.dead,h.known,h.debts,?_,?_⟩
 · simp only [homeF,h.loans]
 · simp only [homeF,upd];split
   · rfl
   · exact h.none
 · simp only [homeF,h.extra]
 · simp only [homeF,h.result]
theorem Alike.step {a:Int} {c d:Co} {p:Pact} (h:Alike a c d) {x:Letter} (hx:¬(x.kind=3∧x.animal=a)):Alike a (stepF p c x).1 (stepF p d x).1:=by
 obtain ⟨h1,h2,h3,h4,h5,h6,h7⟩:=h
 have H:Alike a c d:=⟨h1,h2,h3,h4,h5,h6,h7⟩
 unfold stepF
 by_cases k1:x.kind=1
 · simp only [if_pos k1];exact ⟨h1,h2,h3,h4,h5,h6,by simp only [h7]⟩
 by_cases k2:x.kind=2
 · simp only [if_neg k1,if_pos k2];exact ⟨h1,h2,h3,h4,h5,h6,by simp only [h7]⟩
 by_cases k3:x.kind=3
 · have ha:x.animal≠a:=fun e=>hx ⟨k3,e⟩
   simp only [if_neg k1,if_neg k2,if_pos k3]
   rw [← h1,← h3 _ ha]
   split
   · exact H
   split
   · exact H
   · refine ⟨by simp only,?_,h3,h4,h5,h6,h7⟩
     simp only [upd];rw [if_neg fun e=>ha e.symm];exact h2
 by_cases k4:x.kind=4
 · simp only [if_neg k1,if_neg k2,if_neg k3,if_pos k4]
   rw [← h1]
   split
   · exact H
   · exact H.home
 by_cases k5:x.kind=5
 · simp only [if_neg k1,if_neg k2,if_neg k3,if_neg k4,if_pos k5]
   by_cases ha:x.animal=a
   · rw [ha,← h1]
     simp only [h2]
     cases c.dead a<;>cases d.dead a<;>exact H
   · rw [← h1,← h3 _ ha]
     split
     · exact H
     split
     · exact H
     · rename_i l _
       have q:=H.home (p:=p) (b:=x.animal) (n:=x.day) (l:=l)
       refine ⟨q.loans,q.none,fun b hb=>?_,q.known,q.debts,q.extra,q.result⟩
       simp only [upd];split
       · rfl
       · exact q.dead b hb
 by_cases k6:x.kind=6
 · simp only [if_neg k1,if_neg k2,if_neg k3,if_neg k4,if_neg k5,if_pos k6]
   rw [← h1,← h4]
   split
   · exact H
   split
   · exact H
   · exact ⟨by simp only,h2,h3,by simp only,h5,by simp only [h6],by simp only [h7]⟩
 by_cases k7:x.kind=7
 · simp only [if_neg k1,if_neg k2,if_neg k3,if_neg k4,if_neg k5,if_neg k6,if_pos k7]
   exact ⟨h1,h2,h3,h4,by simp only [h5],h6,h7⟩
 by_cases k8:x.kind=8
 · simp only [if_neg k1,if_neg k2,if_neg k3,if_neg k4,if_neg k5,if_neg k6,if_neg k7,if_pos k8]
   rw [← h5]
   split
   · exact H
   · exact ⟨h1,h2,h3,h4,by simp only,h6,h7⟩
 simp only [if_neg k1,if_neg k2,if_neg k3,if_neg k4,if_neg k5,if_neg k6,if_neg k7,if_neg k8]
 exact H
theorem Alike.run {a:Int} {p:Pact}:∀ {l:List Letter} {c d:Co},Alike a c d→(∀ x ∈ l,¬(x.kind=3∧x.animal=a))→Alike a (runF p c l) (runF p d l)
 | [],_,_,h,_=>h
 | x :: l,c,d,h,hl=>by
  show Alike a (runF p (stepF p c x).1 l) (runF p (stepF p d x).1 l)
  exact Alike.run (h.step (hl x (by simp))) fun y hy=>hl y (by simp [hy])
theorem Alike.has {a:Int} {p:Pact} {c d:Co} (h:Alike a c d):hasF p c=hasF p d:=by
 have e1:lastHire p c=lastHire p d:=by funext b;simp only [lastHire,h.loans]
 have e2:lastFor p c=lastFor p d:=by funext w b;simp only [lastFor,h.loans]
 have e3:endR p c=endR p d:=by simp only [endR,e1,h.result]
 have e4:endX p c=endX p d:=by funext w;simp only [endX,e2,h.extra]
 have e5:owedF p c=owedF p d:=by funext w;simp only [owedF,h.debts]
 simp only [hasF,e3,e4,e5]
theorem alone {p:Pact} {X:List Letter} {k:Nat} (hk:k < X.length) (h5:X[k].kind=5) (hw:(stepF p (runF p co0 (X.take k)) X[k]).2=0) (hno:∀ y ∈ X.drop (k+1),¬(y.kind=3∧y.animal=X[k].animal)) :
 settleF p (X.set k { X[k] with kind:=4 })=settleF p X:=by
 have e1:X.set k { X[k] with kind:=4 }=X.take k ++ { X[k] with kind:=4 } :: X.drop (k+1):=by
  rw [List.set_eq_take_append_cons_drop,if_pos hk]
 unfold settleF
 rw [e1,runF_app]
 conv=>rhs;rw [drop_at hk,runF_app]
 simp only [runF]
 generalize runF p co0 (X.take k)=c at hw ⊢
 refine (Alike.run (a:=X[k].animal) ?_ hno).has
 unfold stepF at hw ⊢
 simp only [h5] at hw ⊢
 simp only [show ¬ (5:Int)=1 from by omega,show ¬ (5:Int)=2 from by omega,show ¬ (5:Int)=3 from by omega,show ¬ (5:Int)=4 from by omega,show ¬ (4:Int)=1 from by omega,show ¬ (4:Int)=2 from by omega,show ¬ (4:Int)=3 from by omega,if_false,if_true] at hw ⊢
 split at hw
 · simp at hw
 rename_i hd
 simp only [hd,if_false,Bool.false_eq_true]
 cases hl:c.loans X[k].animal with
 | none=>rw [hl] at hw;simp at hw
 | some l =>
  simp only
  refine ⟨rfl,by simp [homeF,upd],fun b hb=>?_,rfl,rfl,rfl,rfl⟩
  simp only [homeF,upd];rw [if_neg hb]
def isDebt (x:Letter):Bool:=decide (x.kind=7∨x.kind=8)
structure Plain (c d:Co):Prop where
 loans:c.loans=d.loans
 dead:c.dead=d.dead
 known:c.known=d.known
 extra:c.extra=d.extra
 result:c.result=d.result
theorem Plain.step {p:Pact} {c d:Co} (h:Plain c d) {x:Letter} (hx:isDebt x=false):Plain (stepF p c x).1 (stepF p d x).1∧(stepF p c x).2=(stepF p d x).2∧(stepF p c x).1.debts=c.debts:=by
 obtain ⟨l1,d1,k1,b1,x1,r1⟩:=c
 obtain ⟨l2,d2,k2,b2,x2,r2⟩:=d
 obtain ⟨h1,h2,h3,h4,h5⟩:=h
 simp only at h1 h2 h3 h4 h5
 subst h1;subst h2;subst h3;subst h4;subst h5
 simp only [isDebt,decide_eq_false_iff_not,not_or] at hx
 unfold stepF
 simp only [if_neg hx.1,if_neg hx.2,homeF]
 repeat' split
 all_goals exact ⟨⟨rfl,rfl,rfl,rfl,rfl⟩,rfl,rfl⟩
theorem debt_step {p:Pact} {c:Co} {x:Letter} (hx:isDebt x=true):Plain (stepF p c x).1 c:=by
 simp only [isDebt,decide_eq_true_eq] at hx
 unfold stepF
 rcases hx with h | h
 · simp only [h];exact ⟨rfl,rfl,rfl,rfl,rfl⟩
 · simp only [h]
   simp only [show ¬ (8:Int)=1 from by omega,show ¬ (8:Int)=2 from by omega,show ¬ (8:Int)=3 from by omega,show ¬ (8:Int)=4 from by omega,show ¬ (8:Int)=5 from by omega,show ¬ (8:Int)=6 from by omega,show ¬ (8:Int)=7 from by omega,if_false,if_true]
   split<;>exact ⟨rfl,rfl,rfl,rfl,rfl⟩
theorem Plain.trans {a b c:Co} (h:Plain a b) (h':Plain b c):Plain a c:=⟨h.1.trans h'.1,h.2.trans h'.2,h.3.trans h'.3,h.4.trans h'.4,h.5.trans h'.5⟩
theorem Plain.symm {a b:Co} (h:Plain a b):Plain b a:=⟨h.1.symm,h.2.symm,h.3.symm,h.4.symm,h.5.symm⟩
theorem Plain.rfl' {a:Co}:Plain a a:=⟨rfl,rfl,rfl,rfl,rfl⟩
theorem plain_run {p:Pact}:∀ {l:List Letter} {c d:Co},Plain c d→Plain (runF p c l) (runF p d (l.filter fun x=>!isDebt x))∧(runF p d (l.filter fun x=>!isDebt x)).debts=d.debts
 | [],_,_,h=>⟨h,rfl⟩
 | x :: l,c,d,h=>by
  cases hx:isDebt x
  · have q:=h.step (p:=p) hx
    have q2:=(Plain.rfl' (a:=d)).step (p:=p) hx
    have:=plain_run (p:=p) (l:=l) q.1
    simp only [List.filter_cons,hx,Bool.not_false,if_true,runF]
    exact ⟨this.1,by rw [this.2,q2.2.2]⟩
  · have q:=(debt_step (p:=p) (c:=c) hx).trans h
    have:=plain_run (p:=p) (l:=l) q
    simp only [List.filter_cons,hx,Bool.not_true,Bool.false_eq_true,if_false,runF]
    exact this
theorem debts_has {p:Pact} {X:List Letter} {i:Nat} {x:Partner} (hi:p.partners[i]? = some x) :
 (settleF p X)[i]? = ((settleF p (X.filter fun x=>!isDebt x))[i]?).map (·+owedF p (runF p co0 X) x.id):=by
 have h:=plain_run (p:=p) (l:=X) (Plain.rfl' (a:=co0))
 unfold settleF
 generalize runF p co0 X=c at h ⊢
 generalize runF p co0 (X.filter fun x=>!isDebt x)=d at h ⊢
 obtain ⟨h,hd⟩:=h
 have e1:lastHire p c=lastHire p d:=by funext b;simp only [lastHire,h.loans]
 have e2:lastFor p c=lastFor p d:=by funext w b;simp only [lastFor,h.loans]
 have e3:endR p c=endR p d:=by simp only [endR,e1,h.result]
 have e4:endX p c=endX p d:=by funext w;simp only [endX,e2,h.extra]
 have e5:owedF p d x.id=0:=by
  unfold owedF
  exact sumL_zero fun y _=>by rw [hd];simp [co0]
 have hlt:i < p.partners.length:=(List.getElem?_eq_some_iff.1 hi).1
 simp only [hasF,List.getElem?_map,List.getElem?_range hlt,Option.map_some,hi,optF,e3,e4,e5]
 congr 1;omega
def owesD (D:Int→Int→Int) (x:Letter) (w:Int):Int→Int→Int :=
 if x.kind=7 then upd D x.who (upd (D x.who) x.other (D x.who x.other+x.rials))
 else if x.kind=8∧w=0 then upd D x.who (upd (D x.who) x.other (D x.who x.other - x.rials)) else D
theorem owes_step {p:Pact} {c:Co} {x:Letter}:(stepF p c x).1.debts=owesD c.debts x (stepF p c x).2∧(x.kind=8→((stepF p c x).2=0∧x.rials≤c.debts x.who x.other)∨((stepF p c x).2=5∧c.debts x.who x.other < x.rials)):=by
 by_cases h:isDebt x=true
 · simp only [isDebt,decide_eq_true_eq] at h
   unfold stepF owesD
   rcases h with h | h
   · simp [h]
   · simp only [h]
     simp only [show ¬ (8:Int)=1 from by omega,show ¬ (8:Int)=2 from by omega,show ¬ (8:Int)=3 from by omega,show ¬ (8:Int)=4 from by omega,show ¬ (8:Int)=5 from by omega,show ¬ (8:Int)=6 from by omega,show ¬ (8:Int)=7 from by omega,if_false,if_true]
     by_cases hlt:c.debts x.who x.other < x.rials
     · simp [hlt]
     · simp [hlt];omega
 · have h':isDebt x=false:=by simpa using h
   have:=(Plain.rfl' (a:=c)).step (p:=p) h'
   simp only [isDebt,decide_eq_true_eq,not_or] at h
   refine ⟨?_,fun k=>absurd k h.2⟩
   rw [this.2.2,owesD,if_neg h.1,if_neg fun q=>h.2 q.1]
end Go.Azalai
namespace Go.Azalai
structure Voids (c d:Co):Prop where
 loans:c.loans=d.loans
 dead:c.dead=d.dead
 known:c.known=d.known
theorem Voids.step {p:Pact} {c d:Co} (h:Voids c d) (x:Letter):Voids (stepF p c x).1 (stepF p d x).1∧gainF x (stepF p c x).2=gainF x (stepF p d x).2:=by
 obtain ⟨l1,d1,k1,b1,x1,r1⟩:=c
 obtain ⟨l2,d2,k2,b2,x2,r2⟩:=d
 obtain ⟨h1,h2,h3⟩:=h
 simp only at h1 h2 h3
 subst h1;subst h2;subst h3
 by_cases h8:x.kind=8
 · unfold stepF
   simp only [h8]
   simp only [show ¬ (8:Int)=1 from by omega,show ¬ (8:Int)=2 from by omega,show ¬ (8:Int)=3 from by omega,show ¬ (8:Int)=4 from by omega,show ¬ (8:Int)=5 from by omega,show ¬ (8:Int)=6 from by omega,show ¬ (8:Int)=7 from by omega,if_false,if_true]
   have g:∀ w,gainF x w=0:=fun w=>by simp [gainF,h8]
   split<;>split<;>exact ⟨⟨rfl,rfl,rfl⟩,(g _).trans (g _).symm⟩
 · unfold stepF
   simp only [if_neg h8,homeF]
   repeat' split
   all_goals exact ⟨⟨rfl,rfl,rfl⟩,rfl⟩
theorem voids_gain {p:Pact}:∀ {l:List Letter} {c d:Co},Voids c d→gainL l (whyL p c l)=gainL l (whyL p d l)
 | [],_,_,_=>rfl
 | x :: l,c,d,h=>by
  obtain ⟨h1,h2⟩:=h.step (p:=p) x
  simp only [whyL,gainL]
  rw [h2,voids_gain h1]
theorem money_step {p:Pact} {c:Co} {x:Letter} (h:x.kind=1∨x.kind=2∨x.kind=7):(stepF p c x).2=0∧Voids (stepF p c x).1 c:=by
 unfold stepF
 rcases h with h | h | h
 · simp only [h];exact ⟨rfl,rfl,rfl,rfl⟩
 · simp only [h];exact ⟨rfl,rfl,rfl,rfl⟩
 · simp only [h];exact ⟨rfl,rfl,rfl,rfl⟩
theorem gainL_app:∀ {a b:List Letter} {u v:List Int},a.length=u.length→gainL (a ++ b) (u ++ v)=gainL a u+gainL b v
 | [],b,[],v,_=>by simp [gainL]
 | x :: a,b,w :: u,v,h=>by
  simp only [List.cons_append,gainL]
  rw [gainL_app (by simpa using h)];omega
 | [],_,_ :: _,_,h=>by simp at h
 | _ :: _,_,[],_,h=>by simp at h
theorem late_gain {p:Pact} {A B:List Letter} {x:Letter} (h:x.kind=1∨x.kind=2∨x.kind=7) {c:Co}:gainL (A ++ x :: B) (whyL p c (A ++ x :: B))=gainL (A ++ B) (whyL p c (A ++ B))+gainF x 0:=by
 obtain ⟨h1,h2⟩:=money_step (p:=p) (c:=runF p c A) h
 rw [whyL_app,whyL_app,gainL_app (by rw [whyL_len]),gainL_app (by rw [whyL_len])]
 simp only [whyL,gainL]
 rw [h1,voids_gain h2];omega
theorem insL_split {x:Letter}:∀ {l:List Letter},l.Pairwise (fun a b=>lt2 a b=true)→(∀ y ∈ l,y.id≠x.id)→∃ A B,l=A ++ B∧insL x l=A ++ x :: B∧(∀ y ∈ A,lt2 y x=true)∧∀ y ∈ B,lt2 x y=true
 | [],_,_=>⟨[],[],rfl,rfl,by simp,by simp⟩
 | y :: l,h,hx=>by
  rw [List.pairwise_cons] at h
  simp only [insL]
  split
  · rename_i q
    refine ⟨[],y :: l,rfl,rfl,by simp,fun z hz=>?_⟩
    rcases List.mem_cons.1 hz with rfl | hz
    · exact q
    · exact lt2_trans q (h.1 z hz)
  · rename_i q
    obtain ⟨A,B,e1,e2,e3,e4⟩:=insL_split h.2 fun z hz=>hx z (by simp [hz])
    refine ⟨y :: A,B,by rw [e1];rfl,by rw [e2];rfl,fun z hz=>?_,e4⟩
    rcases List.mem_cons.1 hz with rfl | hz
    · exact (lt2_tot (fun e=>hx z (by simp) e.symm)).resolve_left q
    · exact e3 z hz
theorem late_read {p:Pact} {l:List Letter} {x:Letter} (h:twoB (l ++ [x])=false) :
 readL p (l ++ [x])=readL p l∨∃ A B,readL p l=A ++ B∧readL p (l ++ [x])=A ++ x :: B∧(∀ y ∈ A,lt2 y x=true)∧∀ y ∈ B,lt2 x y=true:=by
 have h0:twoB l=false:=twoB_sub h fun y hy=>by simp [hy]
 by_cases hin:x ∈ l∨x.day > p.ends
 · left
   refine ord_uniq readL_ord readL_ord fun y=>?_
   rw [readL_mem h,readL_mem h0]
   constructor
   · rintro ⟨h1,h2⟩
     rcases List.mem_append.1 h1 with h1 | h1
     · exact ⟨h1,h2⟩
     · have:y=x:=by simpa using h1
       subst this
       rcases hin with q | q
       · exact ⟨q,h2⟩
       · omega
   · rintro ⟨h1,h2⟩;exact ⟨by simp [h1],h2⟩
 · right
   rw [not_or] at hin
   have hne:∀ y ∈ readL p l,y.id≠x.id:=fun y hy e=>by
    have:=(readL_mem h0).1 hy
    exact hin.1 (twoB_false h y (by simp [this.1]) x (by simp) e ▸ this.1)
   obtain ⟨A,B,e1,e2,e3,e4⟩:=insL_split readL_ord hne
   refine ⟨A,B,e1,?_,e3,e4⟩
   rw [← e2]
   refine ord_uniq readL_ord (insL_ord readL_ord hne) fun y=>?_
   rw [readL_mem h,insL_perm.mem_iff,List.mem_cons,readL_mem h0]
   constructor
   · rintro ⟨h1,h2⟩
     rcases List.mem_append.1 h1 with h1 | h1
     · exact .inr ⟨h1,h2⟩
     · exact .inl (by simpa using h1)
   · rintro (rfl | ⟨h1,h2⟩)
     · exact ⟨by simp,by omega⟩
     · exact ⟨by simp [h1],h2⟩
theorem rank_lt {c:Nat→Int} {n i k:Nat} (hi:i < n) (h:fst' c i k=true):rankF c n i < rankF c n k:=by
 unfold rankF
 have hs:((List.range n).filter fun j=>fst' c j i).length < ((List.range n).filter fun j=>fst' c j k).length:=by
  have e:((List.range n).filter fun j=>fst' c j i)=((List.range n).filter fun j=>fst' c j k).filter fun j=>fst' c j i:=by
   rw [List.filter_filter]
   apply List.filter_congr
   intro j _
   cases hj:fst' c j i
   · simp
   · simp [fst_trans hj h]
  rw [e]
  have hm:i ∈ (List.range n).filter fun j=>fst' c j k:=List.mem_filter.2 ⟨List.mem_range.2 hi,h⟩
  rcases Nat.lt_or_ge (((List.range n).filter fun j=>fst' c j k).filter fun j=>fst' c j i).length ((List.range n).filter fun j=>fst' c j k).length with q | q
  · exact q
  · have:=List.filter_eq_self.1 (List.Sublist.eq_of_length_le (List.filter_sublist (p:=fun j=>fst' c j i)) q) i hm
    rw [fst_irr] at this;cases this
 exact hs
theorem rank_fst {c:Nat→Int} {n i k:Nat} (hk:k < n) (hne:i≠k) (h:rankF c n i < rankF c n k):fst' c i k=true:=by
 rcases fst_tot (c:=c) hne with q | q
 · exact q
 · have:=rank_lt hk q;omega
theorem no_cut {amount:Int} {by':List Int} (ha:0≤amount) (hb:∀ x ∈ by',0≤x) (hs:0 < sumL by') {i:Nat} (hi:i < by'.length) (h0:cutF amount by' i=0):leftF amount by'≤rankF (cutF amount by') by'.length i:=by
 have e:=left_cut (amount:=amount) (by':=by')
 have hle:∀ l:List Nat,sumL (l.map (cutF amount by'))≤(l.filter fun k=>decide (cutF amount by' k > 0)).length * (sumL by' - 1):=by
  intro l
  induction l with
  | nil=>simp [sumL]
  | cons x l ih =>
   have hx:=cut_bd ha hb hs x
   simp only [List.map_cons,sumL,List.filter_cons]
   by_cases hq:cutF amount by' x > 0
   · simp only [decide_eq_true hq,if_true,List.length_cons]
     rw [show (((l.filter fun k=>decide (cutF amount by' k > 0)).length+1:Nat):Int)=((l.filter fun k=>decide (cutF amount by' k > 0)).length:Int)+1 from by omega,Int.add_mul]
     omega
   · simp only [decide_eq_false hq,Bool.false_eq_true,if_false]
     omega
 have h1:=hle (List.range by'.length)
 have h2:((List.range by'.length).filter fun k=>decide (cutF amount by' k > 0)).length≤rankF (cutF amount by') by'.length i:=by
  unfold rankF
  refine List.Sublist.length_le ?_
  have:((List.range by'.length).filter fun k=>decide (cutF amount by' k > 0))=((List.range by'.length).filter fun k=>fst' (cutF amount by') k i).filter fun k=>decide (cutF amount by' k > 0):=by
   rw [List.filter_filter]
   apply List.filter_congr
   intro k _
   by_cases hq:cutF amount by' k > 0
   · simp [hq,fst',h0]
   · simp [hq]
  rw [this]
  exact List.filter_sublist
 rw [e] at h1
 generalize ((List.range by'.length).filter fun k=>decide (cutF amount by' k > 0)).length=m at h1 h2
 apply Classical.byContradiction
 intro hc
 have q:sumL by' * ((m:Int)+1)≤sumL by' * leftF amount by':=Int.mul_le_mul_of_nonneg_left (by omega) (by omega)
 rw [Int.mul_add,Int.mul_one] at q
 rw [Int.mul_sub,Int.mul_one,Int.mul_comm (m:Int)] at h1
 omega
end Go.Azalai
namespace Go.Azalai
def someF (set:Nat):Nat→List Letter→List Letter
 | _,[]=>[]
 | k,x :: l=>if x.mouth=true then (if set.testBit k=true then x :: someF set (k+1) l else someF set (k+1) l) else x :: someF set k l
theorem someF_sub {set:Nat}:∀ {l:List Letter} {k:Nat},(someF set k l).Sublist l
 | [],_=>by simp [someF]
 | x :: l,k=>by
  simp only [someF]
  split
  · split
    · exact someF_sub.cons_cons x
    · exact someF_sub.cons x
  · exact someF_sub.cons_cons x
theorem someF_bits {s s':Nat}:∀ {l:List Letter} {k:Nat},(∀ j,k≤j→j < k+(l.filter (·.mouth)).length→s.testBit j=s'.testBit j)→someF s k l=someF s' k l
 | [],_,_=>rfl
 | x :: l,k,h=>by
  simp only [someF]
  by_cases hx:x.mouth=true
  · simp only [List.filter_cons,hx,if_true,List.length_cons] at h
    have h0:=h k (Nat.le_refl _) (by omega)
    have ih:=someF_bits (l:=l) (k:=k+1) (s:=s) (s':=s') fun j h1 h2=>h j (by omega) (by omega)
    rw [if_pos hx,if_pos hx,h0,ih]
  · simp only [List.filter_cons,hx,Bool.false_eq_true,if_false] at h
    rw [if_neg hx,if_neg hx,someF_bits h]
theorem someF_mod {s m:Nat} {l:List Letter} (hm:(l.filter (·.mouth)).length=m):someF s 0 l=someF (s % 2 ^ m) 0 l :=
 someF_bits fun j _ h2=>by
  rw [Nat.testBit_mod_two_pow]
  have:j < m:=by omega
  simp [this]
def minF (f:Nat→Int):Nat→Int
 | 0=>f 0
 | n+1=>min (minF f n) (f (n+1))
def maxF (f:Nat→Int):Nat→Int
 | 0=>f 0
 | n+1=>max (maxF f n) (f (n+1))
theorem minF_le {f:Nat→Int}:∀ {n i:Nat},i≤n→minF f n≤f i
 | 0,i,h=>by
  have:i=0:=by omega
  subst this;exact Int.le_refl _
 | n+1,i,h=>by
  simp only [minF]
  by_cases hi:i=n+1
  · subst hi;omega
  · have:=minF_le (f:=f) (n:=n) (i:=i) (by omega);omega
theorem maxF_ge {f:Nat→Int}:∀ {n i:Nat},i≤n→f i≤maxF f n
 | 0,i,h=>by
  have:i=0:=by omega
  subst this;exact Int.le_refl _
 | n+1,i,h=>by
  simp only [maxF]
  by_cases hi:i=n+1
  · subst hi;omega
  · have:=maxF_ge (f:=f) (n:=n) (i:=i) (by omega);omega
theorem minF_at {f:Nat→Int}:∀ {n:Nat},∃ i,i≤n∧f i=minF f n
 | 0=>⟨0,Nat.le_refl _,rfl⟩
 | n+1=>by
  obtain ⟨i,h1,h2⟩:=minF_at (f:=f) (n:=n)
  simp only [minF]
  by_cases h:minF f n≤f (n+1)
  · exact ⟨i,by omega,by omega⟩
  · exact ⟨n+1,Nat.le_refl _,by omega⟩
theorem maxF_at {f:Nat→Int}:∀ {n:Nat},∃ i,i≤n∧f i=maxF f n
 | 0=>⟨0,Nat.le_refl _,rfl⟩
 | n+1=>by
  obtain ⟨i,h1,h2⟩:=maxF_at (f:=f) (n:=n)
  simp only [maxF]
  by_cases h:f (n+1)≤maxF f n
  · exact ⟨i,by omega,by omega⟩
  · exact ⟨n+1,Nat.le_refl _,by omega⟩
def someHas (p:Pact) (X:List Letter) (i set:Nat):Int:=(settleF p (someF set 0 X)).getD i 0
def surelyF (p:Pact) (X:List Letter):List (Int × Int) :=
 (List.range p.partners.length).map fun i=>(minF (someHas p X i) (2 ^ (X.filter (·.mouth)).length - 1),maxF (someHas p X i) (2 ^ (X.filter (·.mouth)).length - 1))
theorem mouth_in {p:Pact} {X:List Letter} {i set:Nat}:minF (someHas p X i) (2 ^ (X.filter (·.mouth)).length - 1)≤someHas p X i set∧someHas p X i set≤maxF (someHas p X i) (2 ^ (X.filter (·.mouth)).length - 1):=by
 have e:someHas p X i set=someHas p X i (set % 2 ^ (X.filter (·.mouth)).length):=by unfold someHas;rw [← someF_mod rfl]
 have hlt:set % 2 ^ (X.filter (·.mouth)).length < 2 ^ (X.filter (·.mouth)).length:=Nat.mod_lt _ (Nat.two_pow_pos _)
 rw [e]
 exact ⟨minF_le (by omega),maxF_ge (by omega)⟩
theorem mouth_at {p:Pact} {X:List Letter} {i:Nat}:(∃ set,set < 2 ^ (X.filter (·.mouth)).length∧someHas p X i set=minF (someHas p X i) (2 ^ (X.filter (·.mouth)).length - 1)) ∧
 ∃ set,set < 2 ^ (X.filter (·.mouth)).length∧someHas p X i set=maxF (someHas p X i) (2 ^ (X.filter (·.mouth)).length - 1):=by
 have hp:=Nat.two_pow_pos (X.filter (·.mouth)).length
 obtain ⟨a,h1,h2⟩:=minF_at (f:=someHas p X i) (n:=2 ^ (X.filter (·.mouth)).length - 1)
 obtain ⟨b,h3,h4⟩:=maxF_at (f:=someHas p X i) (n:=2 ^ (X.filter (·.mouth)).length - 1)
 exact ⟨⟨a,by omega,h2⟩,b,by omega,h4⟩
end Go.Azalai
set_option maxRecDepth 100000
set_option maxHeartbeats 4000000
namespace Go.Azalai
def idxF {α : Type} (g:α→Bool):List α→Nat→Int
 | [],_=>-1
 | x :: l,k=>if g x then k else idxF g l (k+1)
theorem idxF_ge {α : Type} (g:α→Bool):∀ (l:List α) (k:Nat),decide (idxF g l k ≥ 0)=l.any g
 | [],k=>by simp [idxF]
 | x :: l,k=>by
  simp only [idxF,List.any_cons]
  by_cases hg:g x=true
  · simp [hg]
  · simpa [hg] using idxF_ge g l (k+1)
def smallP (p:Pact):Prop:=p.partners.length≤1000
end Go.Azalai
namespace Go.Proofs.Ythilckbkffjliaa
open Go Go.Sx Go.Azalai
abbrev U8 (n:Int):SV:=.v (.int .u8 n)
def intL (n:Int):List SV:=[I n]
def partnerL (x:Partner):List SV:=[I x.id,I x.put,I x.share]
def pactL (p:Pact):List SV:=[.sl false 3 (p.partners.map partnerL),I p.calf,I p.hire,I p.ends]
def letterL (x:Letter):List SV:=[I x.id,I x.day,U8 x.kind,I x.who,I x.other,I x.animal,I x.rials,B x.mouth]
theorem idxF_any {α : Type} (g:α→Bool) (l:List α):decide (idxF g l 0 ≥ 0)=l.any g:=idxF_ge g l 0
theorem idx81 (h:Nat) (caps:List SV) (hk:KFL caps) (g:Int→Bool) (l:List Int) (hg:∀ x ∈ l,Ct Try.prog h (I x :: caps) (B (g x))) (hl:l.length < 4611686018427387904) {c:Bool} :
 Ct Try.prog 81 [.sl c 1 (l.map intL),.cl h caps] (I (idxF g l 0)):=by
 refine t81 ⟨by simp [KF,KFR_iff,KFL,intL],hk,trivial⟩ (by simp [KF]) ?_
 dsimp only [c81,r81,go_sem,rA,rM,rS]
 refine loopO (fun k:Nat=>[(8,I k)]) (fun _=>[]) (fun k=>k≤l.length∧idxF g (l.drop k) k=idxF g l 0) (fun k=>l.length - k) 0 ⟨Nat.zero_le _,rfl⟩ ?_ ?_
 · (refine ent_id ?_ ?_ ?_ rfl rfl<;>dsimp only [intL,hk,id,go_sem,rA,rM,rS]<;>simp [intL,hk,KFR_iff,KFR_app,KFR,KFL,KF,mtL_same,mtO,nbr])
 · intro k ⟨hk',hi⟩
   dsimp only [go_sem,rA,rM,rS]
   refine br ?_ ?_
   · intro hlt
     have hlt:k < l.length:=by simpa using hlt
     dsimp only [go_sem,rA,rM,rS]
     refine ixs_map k hlt rfl ?_
     dsimp only [intL,go_sem,rA,rM,rS]
     refine call (hg l[k] (List.getElem_mem _)) ?_
     dsimp only [go_sem,rA,rM,rS]
     refine br ?_ ?_
     · intro hgx
       dsimp only [go_sem,rA,rM,rS]
       rw [← hi,List.drop_eq_getElem_cons hlt]
       simp [idxF,hgx]
     · intro hgx
       dsimp only [go_sem,rA,rM,rS]
       refine ⟨k+1,⟨by omega,?_⟩,by omega,?_⟩
       · rw [← hi,List.drop_eq_getElem_cons hlt];simp [idxF,hgx]
       · rw [w64_in (by omega) (by omega)]
         (refine ent_id ?_ ?_ ?_ rfl rfl<;>dsimp only [intL,hk,id,go_sem,rA,rM,rS]<;>simp [intL,hk,KFR_iff,KFR_app,KFR,KFL,KF,mtL_same,mtO,nbr])
   · intro hlt
     have hlt:k=l.length:=by simp at hlt;omega
     dsimp only [go_sem,rA,rM,rS]
     rw [← hi,hlt];simp [idxF]
theorem con61 (h:Nat) (caps:List SV) (hk:KFL caps) (g:Int→Bool) (l:List Int) (hg:∀ x ∈ l,Ct Try.prog h (I x :: caps) (B (g x))) (hl:l.length < 4611686018427387904) {c:Bool} :
 Ct Try.prog 61 [.sl c 1 (l.map intL),.cl h caps] (B (l.any g)):=by
 refine t61 ⟨by simp [KF,KFR_iff,KFL,intL],hk,trivial⟩ (by simp [KF]) ?_
 dsimp only [c61,r61,go_sem,rA,rM,rS]
 refine call (idx81 h caps hk g l hg hl) ?_
 dsimp only [go_sem,rA,rM,rS]
 rw [idxF_any]
theorem idx78 (h:Nat) (caps:List SV) (hk:KFL caps) (g:Partner→Bool) (l:List Partner) (hg:∀ x ∈ l,Ct Try.prog h (.agg (partnerL x) :: caps) (B (g x))) (hl:l.length < 4611686018427387904) {c:Bool} :
 Ct Try.prog 78 [.sl c 3 (l.map partnerL),.cl h caps] (I (idxF g l 0)):=by
 refine t78 ⟨by simp [KF,KFR_iff,KFL,partnerL],hk,trivial⟩ (by simp [KF]) ?_
 dsimp only [c78,r78,go_sem,rA,rM,rS]
 refine loopO (fun k:Nat=>[(8,I k)]) (fun _=>[]) (fun k=>k≤l.length∧idxF g (l.drop k) k=idxF g l 0) (fun k=>l.length - k) 0 ⟨Nat.zero_le _,rfl⟩ ?_ ?_
 · (refine ent_id ?_ ?_ ?_ rfl rfl<;>dsimp only [partnerL,hk,id,go_sem,rA,rM,rS]<;>simp [partnerL,hk,KFR_iff,KFR_app,KFR,KFL,KF,mtL_same,mtO,nbr])
 · intro k ⟨hk',hi⟩
   dsimp only [go_sem,rA,rM,rS]
   refine br ?_ ?_
   · intro hlt
     have hlt:k < l.length:=by simpa using hlt
     dsimp only [go_sem,rA,rM,rS]
     refine ixs_map k hlt rfl ?_
     dsimp only [partnerL,go_sem,rA,rM,rS]
     refine call (hg l[k] (List.getElem_mem _)) ?_
     dsimp only [go_sem,rA,rM,rS]
     refine br ?_ ?_
     · intro hgx
       dsimp only [go_sem,rA,rM,rS]
       rw [← hi,List.drop_eq_getElem_cons hlt]
       simp [idxF,hgx]
     · intro hgx
       dsimp only [go_sem,rA,rM,rS]
       refine ⟨k+1,⟨by omega,?_⟩,by omega,?_⟩
       · rw [← hi,List.drop_eq_getElem_cons hlt];simp [idxF,hgx]
       · rw [w64_in (by omega) (by omega)]
         (refine ent_id ?_ ?_ ?_ rfl rfl<;>dsimp only [partnerL,hk,id,go_sem,rA,rM,rS]<;>simp [partnerL,hk,KFR_iff,KFR_app,KFR,KFL,KF,mtL_same,mtO,nbr])
   · intro hlt
     have hlt:k=l.length:=by simp at hlt;omega
     dsimp only [go_sem,rA,rM,rS]
     rw [← hi,hlt];simp [idxF]
theorem idx85 (h:Nat) (caps:List SV) (hk:KFL caps) (g:Letter→Bool) (l:List Letter) (hg:∀ x ∈ l,Ct Try.prog h (.agg (letterL x) :: caps) (B (g x))) (hl:l.length < 4611686018427387904) {c:Bool} :
 Ct Try.prog 85 [.sl c 8 (l.map letterL),.cl h caps] (I (idxF g l 0)):=by
 refine t85 ⟨by simp [KF,KFR_iff,KFL,letterL],hk,trivial⟩ (by simp [KF]) ?_
 dsimp only [c85,r85,go_sem,rA,rM,rS]
 refine loopO (fun k:Nat=>[(8,I k)]) (fun _=>[]) (fun k=>k≤l.length∧idxF g (l.drop k) k=idxF g l 0) (fun k=>l.length - k) 0 ⟨Nat.zero_le _,rfl⟩ ?_ ?_
 · (refine ent_id ?_ ?_ ?_ rfl rfl<;>dsimp only [letterL,hk,id,go_sem,rA,rM,rS]<;>simp [letterL,hk,KFR_iff,KFR_app,KFR,KFL,KF,mtL_same,mtO,nbr])
 · intro k ⟨hk',hi⟩
   dsimp only [go_sem,rA,rM,rS]
   refine br ?_ ?_
   · intro hlt
     have hlt:k < l.length:=by simpa using hlt
     dsimp only [go_sem,rA,rM,rS]
     refine ixs_map k hlt rfl ?_
     dsimp only [letterL,go_sem,rA,rM,rS]
     refine call (hg l[k] (List.getElem_mem _)) ?_
     dsimp only [go_sem,rA,rM,rS]
     refine br ?_ ?_
     · intro hgx
       dsimp only [go_sem,rA,rM,rS]
       rw [← hi,List.drop_eq_getElem_cons hlt]
       simp [idxF,hgx]
     · intro hgx
       dsimp only [go_sem,rA,rM,rS]
       refine ⟨k+1,⟨by omega,?_⟩,by omega,?_⟩
       · rw [← hi,List.drop_eq_getElem_cons hlt];simp [idxF,hgx]
       · rw [w64_in (by omega) (by omega)]
         (refine ent_id ?_ ?_ ?_ rfl rfl<;>dsimp only [letterL,hk,id,go_sem,rA,rM,rS]<;>simp [letterL,hk,KFR_iff,KFR_app,KFR,KFL,KF,mtL_same,mtO,nbr])
   · intro hlt
     have hlt:k=l.length:=by simp at hlt;omega
     dsimp only [go_sem,rA,rM,rS]
     rw [← hi,hlt];simp [idxF]
theorem con64 (h:Nat) (caps:List SV) (hk:KFL caps) (g:Letter→Bool) (l:List Letter) (hg:∀ x ∈ l,Ct Try.prog h (.agg (letterL x) :: caps) (B (g x))) (hl:l.length < 4611686018427387904) {c:Bool} :
 Ct Try.prog 64 [.sl c 8 (l.map letterL),.cl h caps] (B (l.any g)):=by
 refine t64 ⟨by simp [KF,KFR_iff,KFL,letterL],hk,trivial⟩ (by simp [KF]) ?_
 dsimp only [c64,r64,go_sem,rA,rM,rS]
 refine call (idx85 h caps hk g l hg hl) ?_
 dsimp only [go_sem,rA,rM,rS]
 rw [idxF_any]
theorem within_ok (n lo hi:Int):Ct Try.prog 45 [I n,I lo,I hi] (B (inR lo hi n)):=by
 refine t45 (by simp [KFL,KF]) (by simp [KFL,KF]) ?_
 dsimp only [c45,r45,go_sem,rA,rM,rS]
 refine gb ?_;dsimp only [go_sem,rA,rM,rS]
 refine gb ?_;dsimp only [go_sem,rA,rM,rS]
 refine gb ?_;dsimp only [go_sem,rA,rM,rS]
 simp [inR]
theorem in1_ok (lo hi x:Int):Ct Try.prog 62 [I x,.ps [I lo] 0,.ps [I hi] 0] (B (!inR lo hi x)):=by
 refine t62 (by simp [KFL,KF]) (by simp [KFL,KF]) ?_
 dsimp only [c62,r62,go_sem,rA,rM,rS]
 repeat (refine gb ?_;dsimp only [go_sem,rA,rM,rS])
 (simp only [inR,Option.some.injEq,SV.v.injEq,Value.bool.injEq]<;>grind)
theorem in_ok (lo hi:Int) (l:List Int) (hl:l.length < 4611686018427387904) (c:Bool):Ct Try.prog 42 [I lo,I hi,.sl c 1 (l.map intL)] (B (l.all (inR lo hi))):=by
 refine t42 (by simp [KFR_iff,intL,KFL,KF]) (by simp [KFL,KF]) ?_
 dsimp only [c42,r42,go_sem,rA,rM,rS]
 refine callv (by simp [FLT]) (res:=B (l.any fun x=>!inR lo hi x)) ?_ ?_
 · dsimp only [go_sem,rA,rM,rS]
   exact con61 62 [.ps [I lo] 0,.ps [I hi] 0] (by simp [KFL,KF]) (fun x=>!inR lo hi x) l (fun x _=>in1_ok lo hi x) hl
 · dsimp only [go_sem,rA,rM,rS]
   simp [List.all_eq_not_any_not]
theorem in1 (lo hi a:Int) (c:Bool):Ct Try.prog 42 [I lo,I hi,.sl c 1 [[I a]]] (B (inR lo hi a)):=by
 have:=in_ok lo hi [a] (by simp) c
 simpa [intL] using this
theorem in4 (lo hi a b d e:Int) (c:Bool):Ct Try.prog 42 [I lo,I hi,.sl c 1 [[I a],[I b],[I d],[I e]]] (B (inR lo hi a && (inR lo hi b && (inR lo hi d && inR lo hi e)))):=by
 have:=in_ok lo hi [a,b,d,e] (by simp) c
 simpa [intL] using this
def atF (p:Pact) (who:Int):Int:=idxF (fun x=>decide (x.id=who)) p.partners 0
theorem atF_ge (p:Pact) (who:Int):decide (atF p who ≥ 0)=atP p who:=idxF_any _ _
theorem at1_ok (x:Partner) (who:Int):Ct Try.prog 79 [.agg (partnerL x),.ps [I who] 0] (B (decide (x.id=who))):=by
 refine t79 (by simp [partnerL,KFL,KF]) (by simp [KFL,KF]) ?_
 dsimp only [c79,r79,partnerL,go_sem,rA,rM,rS]
 simp only [Option.some.injEq,SV.v.injEq,Value.bool.injEq]
 by_cases h:x.id=who<;>simp [h]
theorem at_ok (p:Pact) (who:Int) (hs:smallP p):Ct Try.prog 54 [.agg (pactL p),I who] (I (atF p who)):=by
 refine t54 (by simp [pactL,partnerL,KFR_iff,KFL,KF]) (by simp [KFL,KF]) ?_
 have:p.partners.length≤1000:=hs
 dsimp only [c54,r54,pactL,go_sem,rA,rM,rS]
 refine callv (by simp [FLT]) (res:=I (atF p who)) ?_ ?_
 · dsimp only [go_sem,rA,rM,rS]
   exact idx78 79 [.ps [I who] 0] (by simp [KFL,KF]) (fun x=>decide (x.id=who)) p.partners (fun x _=>at1_ok x who) (by omega)
 · dsimp only [go_sem,rA,rM,rS]
theorem rat_ok (p:Pact) (who:Int) (hs:smallP p):Ct Try.prog 55 [.agg (pactL p),I who] (I (atF p who)):=by
 refine t55 (by simp [pactL,partnerL,KFR_iff,KFL,KF]) (by simp [KFL,KF]) ?_
 have hs:p.partners.length≤1000:=hs
 dsimp only [c55,r55,pactL,go_sem,rA,rM,rS]
 refine loopO (fun k:Nat=>[(5,I k)]) (fun _=>[]) (fun k=>k≤p.partners.length∧idxF (fun x=>decide (x.id=who)) (p.partners.drop k) k=atF p who) (fun k=>p.partners.length - k) 0 ⟨Nat.zero_le _,rfl⟩ ?_ ?_
 · (refine ent_id ?_ ?_ ?_ rfl rfl<;>dsimp only [pactL,partnerL,id,go_sem,rA,rM,rS]<;>simp [pactL,partnerL,KFR_iff,KFR_app,KFR,KFL,KF,mtL_same,mtO,nbr])
 rintro k ⟨hk,hi⟩
 dsimp only [go_sem,rA,rM,rS]
 simp only [List.length_map]
 by_cases hlt:k < p.partners.length
 · refine br_t (by simpa using hlt) ?_
   dsimp only [go_sem,rA,rM,rS]
   refine ixs_map k hlt rfl ?_
   dsimp only [partnerL,go_sem,rA,rM,rS]
   rw [List.drop_eq_getElem_cons hlt] at hi
   by_cases hx:p.partners[k].id=who
   · refine br_t (by simpa using hx) ?_
     dsimp only [go_sem,rA,rM,rS]
     rw [← hi];simp [idxF,hx]
   · refine br_f (by simpa using hx) ?_
     dsimp only [go_sem,rA,rM,rS]
     rw [w64_in (n:=(k:Int)+1) (by omega) (by omega)]
     refine ⟨k+1,⟨hlt,by rw [← hi];simp [idxF,hx]⟩,by omega,?_⟩
     (refine ent_id ?_ ?_ ?_ rfl rfl<;>dsimp only [pactL,partnerL,id,go_sem,rA,rM,rS]<;>simp [pactL,partnerL,KFR_iff,KFR_app,KFR,KFL,KF,mtL_same,mtO,nbr])
 · refine br_f (by simpa using hlt) ?_
   dsimp only [go_sem,rA,rM,rS]
   rw [← hi,List.drop_eq_nil_of_le (by omega)];rfl
end Go.Proofs.Ythilckbkffjliaa
set_option maxRecDepth 100000
set_option maxHeartbeats 4000000
namespace Go.Azalai
def errP (p:Pact):Int:=if okPact p=true then 0 else 80
structure PreP (p:Pact) (k:Nat) (last puts shares:Int):Prop where
 le:k≤p.partners.length
 ok:okPartners (-1) p.partners=okPartners last (p.partners.drop k)
 ps:puts=sumL ((p.partners.take k).map (·.put))
 ss:shares=sumL ((p.partners.take k).map (·.share))
 lb:-1≤last∧last≤9999
 pb:0≤puts∧puts≤k * 100000000
 sb:0≤shares∧shares≤k * 1000
theorem PreP.start (p:Pact):PreP p 0 (-1) 0 0:=⟨Nat.zero_le _,rfl,rfl,rfl,by omega,by omega,by omega⟩
theorem sumL_take {α : Type} {f:α→Int} {l:List α} {k:Nat} (h:k < l.length):sumL ((l.take (k+1)).map f)=sumL ((l.take k).map f)+f l[k]:=by
 rw [List.take_succ_eq_append_getElem h,List.map_append,sumL_app];simp [sumL]
theorem PreP.step {p:Pact} {k:Nat} {last puts shares:Int} (h:PreP p k last puts shares) (hk:k < p.partners.length) (ho:(inR (last+1) 9999 p.partners[k].id && inR 0 100000000 p.partners[k].put && inR 0 1000 p.partners[k].share)=true) :
 PreP p (k+1) p.partners[k].id (puts+p.partners[k].put) (shares+p.partners[k].share):=by
 have hl:=h.lb;have hp:=h.pb;have hs:=h.sb
 refine ⟨hk,?_,?_,?_,?_,?_,?_⟩
 · rw [h.ok,List.drop_eq_getElem_cons hk,okPartners,ho,Bool.true_and]
 · rw [sumL_take hk,h.ps]
 · rw [sumL_take hk,h.ss]
 all_goals
  simp only [inR,Bool.and_eq_true,decide_eq_true_eq] at ho
  omega
theorem PreP.bad {p:Pact} {k:Nat} {last puts shares:Int} (h:PreP p k last puts shares) (hk:k < p.partners.length) (ho:(inR (last+1) 9999 p.partners[k].id && inR 0 100000000 p.partners[k].put && inR 0 1000 p.partners[k].share)=false):okPact p=false:=by
 have:okPartners (-1) p.partners=false:=by rw [h.ok,List.drop_eq_getElem_cons hk,okPartners,ho,Bool.false_and]
 simp [okPact,this]
theorem PreP.done {p:Pact} {k:Nat} {last puts shares:Int} (h:PreP p k last puts shares) (hk:k=p.partners.length):okPartners (-1) p.partners=true∧puts=sumL (p.partners.map (·.put))∧shares=sumL (p.partners.map (·.share)):=by
 subst hk
 refine ⟨by rw [h.ok,List.drop_length];rfl,?_,?_⟩
 · rw [h.ps,List.take_length]
 · rw [h.ss,List.take_length]
end Go.Azalai
namespace Go.Proofs.Ythilckbkffjliaa
open Go Go.Sx Go.Azalai
theorem check_ok (p:Pact) (hs:smallP p):Ct Try.prog 20 [.agg (pactL p)] (I (errP p)):=by
 refine t20 (by simp [pactL,partnerL,KFR_iff,KFL,KF]) (by simp [KFL,KF]) ?_
 have hs:p.partners.length≤1000:=hs
 dsimp only [c20,r20,pactL,go_sem,rA,rM,rS]
 simp only [List.length_map]
 refine call (in1 1 8 _ _) ?_
 dsimp only [go_sem,rA,rM,rS]
 repeat (first | (refine gb ?_;dsimp only [go_sem,rA,rM,rS]) | (refine call (in1 0 1000 _ _) ?_;dsimp only [go_sem,rA,rM,rS]) | (refine call (in1 0 100000 _ _) ?_;dsimp only [go_sem,rA,rM,rS]))
 by_cases hall:(inR 1 8 p.partners.length && inR 0 1000 p.calf && inR 0 1000 p.hire && inR 0 100000 p.ends)=true
 case neg =>
  have hf:okPact p=false:=by
   rw [Bool.not_eq_true] at hall
   simp only [okPact,hall,Bool.false_and]
  refine br_t (by grind) ?_
  dsimp only [go_sem,rA,rM,rS]
  simp [errP,hf]
 refine br_f (by grind) ?_
 dsimp only [go_sem,rA,rM,rS]
 have h8:p.partners.length≤8:=by simp [inR] at hall;omega
 simp only [List.length_map]
 refine loopO (fun s:Nat × Int × Int × Int=>[(38,I s.1),(3,I s.2.1),(4,I s.2.2.1),(5,I s.2.2.2)]) (fun _=>[]) (fun s=>PreP p s.1 s.2.1 s.2.2.1 s.2.2.2) (fun s=>p.partners.length - s.1) (0,-1,0,0) (.start p) ?_ ?_
 · (refine ent_id ?_ ?_ ?_ rfl rfl<;>dsimp only [pactL,partnerL,id,go_sem,rA,rM,rS]<;>simp [pactL,partnerL,KFR_iff,KFR_app,KFR,KFL,KF,mtL_same,mtO,nbr])
 rintro ⟨k,last,puts,shares⟩ hI
 simp only at hI
 have hle:=hI.le;have hlb:=hI.lb;have hpb:=hI.pb;have hsb:=hI.sb
 dsimp only [go_sem,rA,rM,rS]
 by_cases hlt:k < p.partners.length
 · refine br_t (by simpa using hlt) ?_
   dsimp only [go_sem,rA,rM,rS]
   refine ixs_map k hlt rfl ?_
   dsimp only [partnerL,go_sem,rA,rM,rS]
   rw [w64_in (n:=last+1) (by omega) (by omega)]
   refine call (in1 (last+1) 9999 _ _) ?_
   dsimp only [go_sem,rA,rM,rS]
   repeat (first | (refine gb ?_;dsimp only [go_sem,rA,rM,rS]) | (refine call (in1 0 100000000 _ _) ?_;dsimp only [go_sem,rA,rM,rS]) | (refine call (in1 0 1000 _ _) ?_;dsimp only [go_sem,rA,rM,rS]))
   by_cases ho:(inR (last+1) 9999 p.partners[k].id && inR 0 100000000 p.partners[k].put && inR 0 1000 p.partners[k].share)=true
   case neg =>
    rw [Bool.not_eq_true] at ho
    refine br_t (by grind) ?_
    dsimp only [go_sem,rA,rM,rS]
    simp [errP,hI.bad hlt ho]
   refine br_f (by grind) ?_
   dsimp only [go_sem,rA,rM,rS]
   have ho':=ho
   simp only [inR,Bool.and_eq_true,decide_eq_true_eq] at ho'
   rw [w64_in (n:=puts+_) (by omega) (by omega),w64_in (n:=shares+_) (by omega) (by omega),w64_in (n:=(k:Int)+1) (by omega) (by omega)]
   refine ⟨(k+1,p.partners[k].id,puts+p.partners[k].put,shares+p.partners[k].share),hI.step hlt ho,by simp only;omega,?_⟩
   (refine ent_id ?_ ?_ ?_ rfl rfl<;>dsimp only [pactL,partnerL,id,go_sem,rA,rM,rS]<;>simp [pactL,partnerL,KFR_iff,KFR_app,KFR,KFL,KF,mtL_same,mtO,nbr])
 refine br_f (by simpa using hlt) ?_
 dsimp only [go_sem,rA,rM,rS]
 obtain ⟨d1,d2,d3⟩:=hI.done (by omega)
 repeat (refine gb ?_;dsimp only [go_sem,rA,rM,rS])
 simp only [Bool.and_eq_true] at hall
 by_cases h0:puts=0∨shares≠1000
 · refine br_t (by rcases h0 with h | h<;>simp [h]) ?_
   dsimp only [go_sem,rA,rM,rS]
   have:okPact p=false:=by
    rw [← Bool.not_eq_true]
    simp only [okPact,Bool.and_eq_true,decide_eq_true_eq,← d2,← d3]
    omega
   simp [errP,this]
 · refine br_f (by simp;omega) ?_
   dsimp only [go_sem,rA,rM,rS]
   have:okPact p=true:=by
    simp only [okPact,Bool.and_eq_true,decide_eq_true_eq,← d2,← d3,d1,hall]
    simp;omega
   simp [errP,this]
theorem rpact_ok (p:Pact) (hs:smallP p):Ct Try.prog 44 [.agg (pactL p)] (B (okPact p)):=by
 refine t44 (by simp [pactL,partnerL,KFR_iff,KFL,KF]) (by simp [KFL,KF]) ?_
 have hs:p.partners.length≤1000:=hs
 dsimp only [c44,r44,pactL,go_sem,rA,rM,rS]
 simp only [List.length_map]
 refine call (within_ok _ 1 8) ?_
 dsimp only [go_sem,rA,rM,rS]
 repeat (first | (refine gb ?_;dsimp only [go_sem,rA,rM,rS]) | (refine call (within_ok _ 0 1000) ?_;dsimp only [go_sem,rA,rM,rS]) | (refine call (within_ok _ 0 100000) ?_;dsimp only [go_sem,rA,rM,rS]))
 by_cases hall:(inR 1 8 p.partners.length && inR 0 1000 p.calf && inR 0 1000 p.hire && inR 0 100000 p.ends)=true
 case neg =>
  have hf:okPact p=false:=by
   rw [Bool.not_eq_true] at hall
   simp only [okPact,hall,Bool.false_and]
  refine br_t (by grind) ?_
  dsimp only [go_sem,rA,rM,rS]
  simp [hf]
 refine br_f (by grind) ?_
 dsimp only [go_sem,rA,rM,rS]
 have h8:p.partners.length≤8:=by simp [inR] at hall;omega
 refine loopO (fun s:Nat × Int × Int=>[(5,I s.1),(3,I s.2.1),(4,I s.2.2)]) (fun _=>[]) (fun s=>PreP p s.1 (if h:0 < s.1∧s.1≤p.partners.length then (p.partners[s.1 - 1]'(by omega)).id else -1) s.2.1 s.2.2) (fun s=>p.partners.length - s.1) (0,0,0) (.start p) ?_ ?_
 · (refine ent_id ?_ ?_ ?_ rfl rfl<;>dsimp only [pactL,partnerL,id,go_sem,rA,rM,rS]<;>simp [pactL,partnerL,KFR_iff,KFR_app,KFR,KFL,KF,mtL_same,mtO,nbr])
 rintro ⟨k,puts,shares⟩ hI
 simp only at hI
 have hle:=hI.le;have hlb:=hI.lb;have hpb:=hI.pb;have hsb:=hI.sb
 dsimp only [go_sem,rA,rM,rS]
 simp only [List.length_map]
 by_cases hlt:k < p.partners.length
 · refine br_t (by simpa using hlt) ?_
   dsimp only [go_sem,rA,rM,rS]
   refine ixs_map k hlt rfl ?_
   dsimp only [partnerL,go_sem,rA,rM,rS]
   refine call (within_ok _ 0 9999) ?_
   dsimp only [go_sem,rA,rM,rS]
   generalize hlast:(if h:0 < k∧k≤p.partners.length then (p.partners[k - 1]'(by omega)).id else -1)=last at *
   have hl0:k=0→last = -1:=fun h=>by rw [← hlast,dif_neg (by omega)]
   have hl1:0 < k→last=(p.partners[k - 1]'(by omega)).id:=fun h=>by rw [← hlast,dif_pos ⟨h,hle⟩]
   repeat (refine gb ?_;dsimp only [go_sem,rA,rM,rS])
   refine ixs_gd (k - 1) (partnerL (p.partners[k - 1]'(by omega))) rfl (fun h=>⟨(by have:(k:Int) > 0:=(by simpa using h);rw [w64_in (by omega) (by omega)];omega),(by rw [List.getElem?_map,List.getElem?_eq_getElem (by omega)];rfl)⟩) ?_
   dsimp only [partnerL,go_sem,rA,rM,rS]
   repeat (first | (refine gb ?_;dsimp only [go_sem,rA,rM,rS]) | (refine call (within_ok _ 0 100000000) ?_;dsimp only [go_sem,rA,rM,rS]) | (refine call (within_ok _ 0 1000) ?_;dsimp only [go_sem,rA,rM,rS]))
   generalize hprev:(p.partners[k - 1]'(by omega)).id=prev at *
   by_cases ho:(inR (last+1) 9999 p.partners[k].id && inR 0 100000000 p.partners[k].put && inR 0 1000 p.partners[k].share)=true
   case neg =>
    rw [Bool.not_eq_true] at ho
    refine br_t ?_ ?_
    · rw [← Bool.not_eq_false]
      intro hc
      rw [← Bool.not_eq_true] at ho
      apply ho
      by_cases hk0:k=0
      · have:=hl0 hk0
        subst this
        simp only [inR,Bool.and_eq_true,decide_eq_true_eq] at hc ⊢
        grind
      · have:=hl1 (by omega)
        subst this
        simp only [inR,Bool.and_eq_true,decide_eq_true_eq] at hc ⊢
        grind
    dsimp only [go_sem,rA,rM,rS]
    simp [hI.bad hlt ho]
   refine br_f ?_ ?_
   · by_cases hk0:k=0
     · have:=hl0 hk0
       subst this
       simp only [inR,Bool.and_eq_true,decide_eq_true_eq] at ho ⊢
       grind
     · have:=hl1 (by omega)
       subst this
       simp only [inR,Bool.and_eq_true,decide_eq_true_eq] at ho ⊢
       grind
   dsimp only [go_sem,rA,rM,rS]
   have ho':=ho
   simp only [inR,Bool.and_eq_true,decide_eq_true_eq] at ho'
   rw [w64_in (n:=puts+_) (by omega) (by omega),w64_in (n:=shares+_) (by omega) (by omega),w64_in (n:=(k:Int)+1) (by omega) (by omega)]
   refine ⟨(k+1,puts+p.partners[k].put,shares+p.partners[k].share),?_,by simp only;omega,?_⟩
   · have:=hI.step hlt ho
     simp only
     rw [dif_pos ⟨by omega,hlt⟩]
     simpa using this
   (refine ent_id ?_ ?_ ?_ rfl rfl<;>dsimp only [pactL,partnerL,id,go_sem,rA,rM,rS]<;>simp [pactL,partnerL,KFR_iff,KFR_app,KFR,KFL,KF,mtL_same,mtO,nbr])
 refine br_f (by simpa using hlt) ?_
 dsimp only [go_sem,rA,rM,rS]
 obtain ⟨d1,d2,d3⟩:=hI.done (by omega)
 repeat (refine gb ?_;dsimp only [go_sem,rA,rM,rS])
 simp only [Bool.and_eq_true] at hall
 have e0:decide (puts > 0)=decide (puts≠0):=by
  by_cases h:puts=0
  · simp [h]
  · have:puts > 0:=by omega
    simp [h,this]
 simp only [okPact,← d2,← d3,d1,hall,Bool.true_and,Bool.and_true]
 first | rw [← e0] | skip
 by_cases h:shares=1000<;>simp [h]
theorem rcheck_ok (p:Pact) (hs:smallP p):Ct Try.prog 21 [.agg (pactL p)] (I (errP p)):=by
 refine t21 (by simp [pactL,partnerL,KFR_iff,KFL,KF]) (by simp [KFL,KF]) ?_
 dsimp only [c21,r21,pactL,go_sem,rA,rM,rS]
 refine call (rpact_ok p hs) ?_
 dsimp only [go_sem,rA,rM,rS]
 by_cases h:okPact p=true
 · refine br_f (by simp [h]) ?_
   dsimp only [go_sem,rA,rM,rS]
   simp [errP,h]
 · refine br_t (by simp [h]) ?_
   dsimp only [go_sem,rA,rM,rS]
   simp [errP,h]
end Go.Proofs.Ythilckbkffjliaa
