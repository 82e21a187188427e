/- Walks and plain laws that lead to the given statement, part 5 of 8. -/
import Derived.Test.YtkjldleglbbkeaaND
import Derived.Test.YtkjldleglbbkeaaProg
open Nat renaming reduceAdd→rA,reduceMul→rM,reduceSub→rS,beq_refl→nbr
set_option maxRecDepth 100000
namespace Go.Proofs.Ytkjldleglbbkeaa
open Go Go.Sx
def c3:SC:=(.seq (.reg [
 ⟨some 6,.box (.t 0) 0 25,none,[]⟩,
 ⟨some 12,.mv (.c (.bool false)),none,[]⟩])
 (.seq (.seq (.reg [
 ⟨some 25,.ld (.t 6) 2 true,none,[]⟩,
 ⟨some 26,.call 16 [.t 25],none,[]⟩,
 ⟨some 27,.mv (.t 26),none,[]⟩,
 ⟨some 28,.mv (.t 2),some (27,false),[]⟩,
 ⟨some 29,.len (.t 28),some (27,false),[]⟩,
 ⟨some 30,.bin .gtr (.t 29) (.c (.int .i64 250)),some (27,false),[]⟩,
 ⟨some 31,.pick (.t 27) (.c (.bool true)) (.t 30),none,[]⟩])
 (.cond (.t 31)
 (.seq (.reg [
  ⟨some 12,.mv (.c (.bool true)),none,[]⟩])
  .ret)
 .skip))
 (.seq (.reg [
 ⟨some 32,.bsl 3 40 [],none,[]⟩,
 ⟨some 33,.mv (.t 2),none,[]⟩,
 ⟨some 34,.app 3 24 40 (.t 32) (.t 33),none,[]⟩,
 ⟨some 13,.mv (.t 34),none,[]⟩])
 (.seq (.reg [
 ⟨some 36,.ld (.t 6) 2 true,none,[]⟩,
 ⟨some 37,.mv (.t 1),none,[]⟩,
 ⟨some 38,.mv (.t 13),none,[]⟩,
 ⟨some 39,.mv (.t 3),none,[]⟩,
 ⟨some 40,.call 17 [.t 36,.t 37,.t 38,.t 39],none,[]⟩,
 ⟨some 35,.mv (.t 40),none,[]⟩,
 ⟨some 41,.ext (.t 35) 0,none,[]⟩,
 ⟨some 42,.ext (.t 35) 1,none,[]⟩,
 ⟨some 43,.ext (.t 35) 2,none,[]⟩,
 ⟨some 14,.alloc [.int .i64 0,.int .i64 0] 29,none,[]⟩,
 ⟨none,.st (.t 14) (.t 41) 2,none,[]⟩,
 ⟨some 15,.mv (.t 42),none,[]⟩,
 ⟨some 16,.mv (.t 43),none,[]⟩])
 (.seq (.reg [
 ⟨some 45,.ld (.t 6) 2 true,none,[]⟩,
 ⟨some 46,.mv (.t 1),none,[]⟩,
 ⟨some 47,.mv (.t 2),none,[]⟩,
 ⟨some 48,.mv (.t 3),none,[]⟩,
 ⟨some 49,.call 18 [.t 45,.t 46,.t 47,.t 48],none,[]⟩,
 ⟨some 44,.mv (.t 49),none,[]⟩,
 ⟨some 50,.ext (.t 44) 0,none,[]⟩,
 ⟨some 51,.ext (.t 44) 1,none,[]⟩,
 ⟨some 52,.ext (.t 44) 2,none,[]⟩,
 ⟨some 17,.alloc [.int .i64 0,.int .i64 0] 29,none,[]⟩,
 ⟨none,.st (.t 17) (.t 50) 2,none,[]⟩,
 ⟨some 18,.mv (.t 51),none,[]⟩,
 ⟨some 19,.mv (.t 52),none,[]⟩])
 (.seq (.reg [
 ⟨some 54,.ld (.t 6) 2 true,none,[]⟩,
 ⟨some 55,.mv (.t 1),none,[]⟩,
 ⟨some 56,.mv (.t 4),none,[]⟩,
 ⟨some 57,.mv (.t 5),none,[]⟩,
 ⟨some 58,.call 19 [.t 54,.t 55,.t 56,.t 57],none,[]⟩,
 ⟨some 53,.mv (.t 58),none,[]⟩,
 ⟨some 59,.ext (.t 53) 0,none,[]⟩,
 ⟨some 60,.ext (.t 53) 1,none,[]⟩,
 ⟨some 20,.mv (.t 59),none,[]⟩,
 ⟨some 21,.mv (.t 60),none,[]⟩])
 (.seq (.reg [
 ⟨some 62,.ld (.t 6) 2 true,none,[]⟩,
 ⟨some 63,.mv (.t 1),none,[]⟩,
 ⟨some 64,.mv (.t 4),none,[]⟩,
 ⟨some 65,.mv (.t 5),none,[]⟩,
 ⟨some 66,.call 20 [.t 62,.t 63,.t 64,.t 65],none,[]⟩,
 ⟨some 61,.mv (.t 66),none,[]⟩,
 ⟨some 67,.ext (.t 61) 0,none,[]⟩,
 ⟨some 68,.ext (.t 61) 1,none,[]⟩,
 ⟨some 22,.mv (.t 67),none,[]⟩,
 ⟨some 23,.mv (.t 68),none,[]⟩])
 (.seq (.seq (.reg [
 ⟨some 69,.mv (.t 2),none,[]⟩,
 ⟨some 70,.len (.t 69),none,[]⟩,
 ⟨some 71,.mv (.c (.int .i64 0)),none,[]⟩])
 (.block 0 (.loop (.seq (.reg [
  ⟨some 72,.bin .lss (.t 71) (.t 70),none,[]⟩])
  (.seq (.cond (.t 72)
  .skip
  (.exit 0))
  (.seq (.block 1 (.seq (.reg [
   ⟨some 73,.mv (.t 71),none,[]⟩,
   ⟨some 24,.mv (.t 73),none,[]⟩])
   (.seq (.regd [0,1,2,3,4,5,6,7,8] [
   .op ⟨some 74,.mv (.t 13),none,[]⟩,
   .op ⟨some 75,.mv (.t 24),none,[]⟩,
   .op ⟨some 76,.ixs (.t 74) (.t 75) 3,none,[0,1]⟩,
   .op ⟨some 77,.ld (.t 76) 3 true,none,[2]⟩,
   .op ⟨some 78,.mv (.t 2),none,[]⟩,
   .op ⟨some 79,.mv (.t 24),none,[]⟩,
   .op ⟨some 80,.ixs (.t 78) (.t 79) 3,none,[4,5]⟩,
   .op ⟨some 81,.ld (.t 80) 3 true,none,[6]⟩,
   .op ⟨some 82,.eqs true true [1,1,1] (.t 77) (.t 81),none,[3,7]⟩] 0 0 [
])
 (.cond (.t 82)
 (.seq (.reg [
  ⟨some 12,.mv (.c (.bool false)),none,[]⟩])
  .ret)
 .skip))))
 (.reg [
 ⟨some 83,.bin .add (.t 71) (.c (.int .i64 1)),none,[]⟩,
 ⟨some 71,.mv (.t 83),none,[]⟩])))))))
 (.seq (.reg [
 ⟨some 84,.ld (.t 14) 2 true,none,[]⟩,
 ⟨some 85,.ld (.t 17) 2 true,none,[]⟩,
 ⟨some 86,.eqs false true [1,1] (.t 84) (.t 85),none,[]⟩,
 ⟨some 87,.mv (.t 86),none,[]⟩,
 ⟨some 88,.mv (.t 15),some (87,true),[]⟩,
 ⟨some 89,.mv (.t 18),some (87,true),[]⟩,
 ⟨some 90,.bin .eql (.t 88) (.t 89),some (87,true),[]⟩,
 ⟨some 91,.pick (.t 87) (.t 90) (.c (.bool false)),none,[]⟩,
 ⟨some 92,.mv (.t 91),none,[]⟩,
 ⟨some 93,.mv (.t 16),some (92,true),[]⟩,
 ⟨some 94,.mv (.t 19),some (92,true),[]⟩,
 ⟨some 95,.bin .eql (.t 93) (.t 94),some (92,true),[]⟩,
 ⟨some 96,.pick (.t 92) (.t 95) (.c (.bool false)),none,[]⟩,
 ⟨some 97,.mv (.t 96),none,[]⟩,
 ⟨some 98,.mv (.t 20),some (97,true),[]⟩,
 ⟨some 99,.mv (.t 22),some (97,true),[]⟩,
 ⟨some 100,.bin .eql (.t 98) (.t 99),some (97,true),[]⟩,
 ⟨some 101,.pick (.t 97) (.t 100) (.c (.bool false)),none,[]⟩,
 ⟨some 102,.mv (.t 101),none,[]⟩,
 ⟨some 103,.mv (.t 21),some (102,true),[]⟩,
 ⟨some 104,.mv (.t 23),some (102,true),[]⟩,
 ⟨some 105,.bin .eql (.t 103) (.t 104),some (102,true),[]⟩,
 ⟨some 106,.pick (.t 102) (.t 105) (.c (.bool false)),none,[]⟩,
 ⟨some 12,.mv (.t 106),none,[]⟩])
 .ret)))))))))
def r3:List RV:=[.tmp 12]
theorem n3:Try.f3.ntmps = 107:=by kernel_rfl
theorem b3:bodyB Try.prog 3 = true:=by kernel_rfl
theorem c3_ok:cmpC Try.prog c3 ((Try.f3.body).getD .skip) = true:=by kernel_rfl
theorem r3_ok:cmpR Try.prog r3 Try.f3.results.toList = true:=by kernel_rfl
theorem t3 {args:List SV} {res:SV} (ka:KFL args) (kr:KF res) (h:sx Try.prog Y0 0 c3 (st0 args 107) (retK r3 res)) (hA:Nat.ble args.length 107 = true:=by rfl):Ct Try.prog 3 args res:=ct_intro Try.func3 rfl b3 c3_ok r3_ok n3 (Nat.le_of_ble_eq_true hA) ka kr h
def c16:SC:=(.seq (.reg [
 ⟨some 1,.box (.t 0) 0 25,none,[]⟩,
 ⟨some 2,.mv (.c (.bool false)),none,[]⟩])
 (.seq (.seq (.reg [
 ⟨some 4,.addo (.t 1) 0,none,[]⟩,
 ⟨some 5,.ld (.t 4) 1 false,none,[]⟩,
 ⟨some 6,.len (.t 5),none,[]⟩,
 ⟨some 7,.bin .gtr (.t 6) (.c (.int .i64 20)),none,[]⟩,
 ⟨some 8,.mv (.t 7),none,[]⟩,
 ⟨some 9,.addo (.t 1) 1,some (8,false),[]⟩,
 ⟨some 10,.ld (.t 9) 1 false,some (8,false),[]⟩,
 ⟨some 11,.len (.t 10),some (8,false),[]⟩,
 ⟨some 12,.bin .gtr (.t 11) (.c (.int .i64 40)),some (8,false),[]⟩,
 ⟨some 13,.pick (.t 8) (.c (.bool true)) (.t 12),none,[]⟩])
 (.cond (.t 13)
 (.seq (.reg [
  ⟨some 2,.mv (.c (.bool true)),none,[]⟩])
  .ret)
 .skip))
 (.seq (.seq (.reg [
 ⟨some 3,.mv (.c (.int .i64 0)),none,[]⟩])
 (.block 0 (.loop (.seq (.seq (.reg [
  ⟨some 14,.mv (.t 3),none,[]⟩,
  ⟨some 15,.addo (.t 1) 1,none,[]⟩,
  ⟨some 16,.ld (.t 15) 1 false,none,[]⟩,
  ⟨some 17,.len (.t 16),none,[]⟩,
  ⟨some 18,.bin .lss (.t 14) (.t 17),none,[]⟩])
  (.cond (.t 18)
  .skip
  (.exit 0)))
  (.seq (.block 1 (.seq (.reg [
   ⟨some 21,.addo (.t 1) 1,none,[]⟩,
   ⟨some 22,.ld (.t 21) 1 false,none,[]⟩,
   ⟨some 23,.mv (.t 3),none,[]⟩,
   ⟨some 24,.ixs (.t 22) (.t 23) 5,none,[]⟩,
   ⟨some 25,.addo (.t 24) 4,none,[]⟩,
   ⟨some 26,.ld (.t 25) 1 false,none,[]⟩,
   ⟨some 27,.len (.t 26),none,[]⟩,
   ⟨some 28,.bin .gtr (.t 27) (.c (.int .i64 20)),none,[]⟩])
   (.cond (.t 28)
   (.seq (.reg [
    ⟨some 2,.mv (.c (.bool true)),none,[]⟩])
    .ret)
   .skip)))
  (.reg [
  ⟨some 19,.mv (.t 3),none,[]⟩,
  ⟨some 20,.bin .add (.t 19) (.c (.int .i64 1)),none,[]⟩,
  ⟨some 3,.mv (.t 20),none,[]⟩]))))))
 (.seq (.reg [
 ⟨some 2,.mv (.c (.bool false)),none,[]⟩])
 .ret))))
def r16:List RV:=[.tmp 2]
theorem n16:Try.f16.ntmps = 29:=by kernel_rfl
theorem b16:bodyB Try.prog 16 = true:=by kernel_rfl
theorem c16_ok:cmpC Try.prog c16 ((Try.f16.body).getD .skip) = true:=by kernel_rfl
theorem r16_ok:cmpR Try.prog r16 Try.f16.results.toList = true:=by kernel_rfl
theorem t16 {args:List SV} {res:SV} (ka:KFL args) (kr:KF res) (h:sx Try.prog Y0 0 c16 (st0 args 29) (retK r16 res)) (hA:Nat.ble args.length 29 = true:=by rfl):Ct Try.prog 16 args res:=ct_intro Try.func16 rfl b16 c16_ok r16_ok n16 (Nat.le_of_ble_eq_true hA) ka kr h
def c17:SC:=(.seq (.reg [
 ⟨some 4,.box (.t 0) 0 25,none,[]⟩,
 ⟨some 8,.alloc [.int .i64 0,.int .i64 0] 29,none,[]⟩,
 ⟨some 9,.mv (.c (.int .i64 0)),none,[]⟩,
 ⟨some 10,.mv (.c (.int .i64 0)),none,[]⟩])
 (.seq (.seq (.reg [
 ⟨some 20,.ld (.t 4) 2 true,none,[]⟩,
 ⟨some 21,.call 26 [.t 20],none,[]⟩,
 ⟨some 11,.mv (.t 21),none,[]⟩])
 (.block 0 (.seq (.reg [
  ⟨some 23,.mv (.t 11),none,[]⟩,
  ⟨some 24,.bin .neq (.t 23) (.c (.int .i64 0)),none,[]⟩,
  ⟨some 22,.mv (.t 24),none,[]⟩])
  (.cond (.t 22)
  (.seq (.reg [
   ⟨some 25,.ld (.t 8) 2 true,none,[]⟩,
   ⟨some 26,.mv (.t 11),none,[]⟩,
   ⟨none,.st (.t 8) (.t 25) 2,none,[]⟩,
   ⟨some 9,.mv (.c (.int .i64 0)),none,[]⟩,
   ⟨some 10,.mv (.t 26),none,[]⟩])
   .ret)
  (.seq (.reg [
   ⟨some 28,.addo (.t 4) 0,none,[]⟩,
   ⟨some 29,.ld (.t 28) 1 false,none,[]⟩,
   ⟨some 30,.len (.t 29),none,[]⟩,
   ⟨some 31,.bin .sub (.t 30) (.c (.int .i64 1)),none,[]⟩,
   ⟨some 32,.mv (.t 1),none,[]⟩,
   ⟨some 33,.bsl 1 3 [.t 32],none,[]⟩,
   ⟨some 34,.call 58 [.c (.int .i64 0),.t 31,.t 33],none,[]⟩,
   ⟨some 35,.un .not (.t 34),none,[]⟩,
   ⟨some 36,.mv (.t 35),none,[]⟩,
   ⟨some 37,.mv (.t 3),some (36,false),[]⟩,
   ⟨some 38,.bsl 1 3 [.t 37],some (36,false),[]⟩,
   ⟨some 39,.call 58 [.c (.int .i64 0),.c (.int .i64 100000),.t 38],some (36,false),[]⟩,
   ⟨some 40,.un .not (.t 39),some (36,false),[]⟩,
   ⟨some 41,.pick (.t 36) (.c (.bool true)) (.t 40),none,[]⟩,
   ⟨some 27,.mv (.t 41),none,[]⟩])
   (.cond (.t 27)
   (.seq (.reg [
    ⟨some 42,.ld (.t 8) 2 true,none,[]⟩,
    ⟨none,.st (.t 8) (.t 42) 2,none,[]⟩,
    ⟨some 9,.mv (.c (.int .i64 0)),none,[]⟩,
    ⟨some 10,.mv (.c (.int .i64 2)),none,[]⟩])
    .ret)
   (.seq (.reg [
    ⟨some 44,.mv (.t 2),none,[]⟩,
    ⟨some 45,.len (.t 44),none,[]⟩,
    ⟨some 46,.bin .gtr (.t 45) (.c (.int .i64 200)),none,[]⟩,
    ⟨some 43,.mv (.t 46),none,[]⟩])
    (.cond (.t 43)
    (.seq (.reg [
     ⟨some 47,.ld (.t 8) 2 true,none,[]⟩,
     ⟨none,.st (.t 8) (.t 47) 2,none,[]⟩,
     ⟨some 9,.mv (.c (.int .i64 0)),none,[]⟩,
     ⟨some 10,.mv (.c (.int .i64 4)),none,[]⟩])
     .ret)
    .skip))))))))
 (.seq (.reg [
 ⟨some 12,.mv (.c (.int .i64 0)),none,[]⟩])
 (.seq (.seq (.reg [
 ⟨some 48,.mv (.t 2),none,[]⟩,
 ⟨some 49,.len (.t 48),none,[]⟩,
 ⟨some 50,.mv (.c (.int .i64 0)),none,[]⟩])
 (.block 1 (.loop (.seq (.reg [
  ⟨some 51,.bin .lss (.t 50) (.t 49),none,[]⟩])
  (.seq (.cond (.t 51)
  .skip
  (.exit 1))
  (.seq (.block 2 (.seq (.reg [
   ⟨some 52,.ixs (.t 48) (.t 50) 3,none,[]⟩,
   ⟨some 53,.ld (.t 52) 3 true,none,[]⟩,
   ⟨some 14,.alloc [.int .i64 0,.int .i64 0,.int .i64 0] 40,none,[]⟩,
   ⟨none,.st (.t 14) (.t 53) 3,none,[]⟩])
   (.seq (.seq (.reg [
   ⟨some 54,.addo (.t 4) 0,none,[]⟩,
   ⟨some 55,.ld (.t 54) 1 false,none,[]⟩,
   ⟨some 56,.len (.t 55),none,[]⟩,
   ⟨some 57,.bin .sub (.t 56) (.c (.int .i64 1)),none,[]⟩,
   ⟨some 58,.addo (.t 14) 0,none,[]⟩,
   ⟨some 59,.ld (.t 58) 1 false,none,[]⟩,
   ⟨some 60,.bsl 1 3 [.t 59],none,[]⟩,
   ⟨some 61,.call 58 [.c (.int .i64 0),.t 57,.t 60],none,[]⟩,
   ⟨some 62,.un .not (.t 61),none,[]⟩,
   ⟨some 63,.mv (.t 62),none,[]⟩,
   ⟨some 64,.mv (.t 12),some (63,false),[]⟩,
   ⟨some 65,.addo (.t 14) 1,some (63,false),[]⟩,
   ⟨some 66,.ld (.t 65) 1 false,some (63,false),[]⟩,
   ⟨some 67,.bsl 1 3 [.t 66],some (63,false),[]⟩,
   ⟨some 68,.call 58 [.t 64,.c (.int .i64 100000),.t 67],some (63,false),[]⟩,
   ⟨some 69,.un .not (.t 68),some (63,false),[]⟩,
   ⟨some 70,.pick (.t 63) (.c (.bool true)) (.t 69),none,[]⟩,
   ⟨some 71,.mv (.t 70),none,[]⟩,
   ⟨some 72,.addo (.t 14) 2,some (71,false),[]⟩,
   ⟨some 73,.ld (.t 72) 1 false,some (71,false),[]⟩,
   ⟨some 74,.bsl 1 3 [.t 73],some (71,false),[]⟩,
   ⟨some 75,.call 58 [.c (.int .i64 0),.c (.int .i64 1000000000),.t 74],some (71,false),[]⟩,
   ⟨some 76,.un .not (.t 75),some (71,false),[]⟩,
   ⟨some 77,.pick (.t 71) (.c (.bool true)) (.t 76),none,[]⟩])
   (.cond (.t 77)
   (.seq (.reg [
    ⟨some 78,.ld (.t 8) 2 true,none,[]⟩,
    ⟨none,.st (.t 8) (.t 78) 2,none,[]⟩,
    ⟨some 9,.mv (.c (.int .i64 0)),none,[]⟩,
    ⟨some 10,.mv (.c (.int .i64 32)),none,[]⟩])
    .ret)
   .skip))
   (.reg [
   ⟨some 79,.addo (.t 14) 1,none,[]⟩,
   ⟨some 80,.ld (.t 79) 1 false,none,[]⟩,
   ⟨some 12,.mv (.t 80),none,[]⟩]))))
  (.reg [
  ⟨some 81,.bin .add (.t 50) (.c (.int .i64 1)),none,[]⟩,
  ⟨some 50,.mv (.t 81),none,[]⟩])))))))
 (.seq (.reg [
 ⟨some 82,.addo (.t 4) 0,none,[]⟩,
 ⟨some 83,.ld (.t 82) 1 false,none,[]⟩,
 ⟨some 84,.mv (.t 1),none,[]⟩,
 ⟨some 85,.ixs (.t 83) (.t 84) 9,none,[]⟩,
 ⟨some 86,.ld (.t 85) 9 true,none,[]⟩,
 ⟨some 15,.alloc [.int .i64 0,.int .i64 0,.int .i64 0,.int .i64 0,.int .i64 0,.int .i64 0,.int .i64 0,.int .i64 0,.int .i64 0] 109,none,[]⟩,
 ⟨none,.st (.t 15) (.t 86) 9,none,[]⟩])
 (.seq (.reg [
 ⟨some 87,.addo (.t 15) 6,none,[]⟩,
 ⟨some 88,.ld (.t 87) 2 true,none,[]⟩,
 ⟨some 16,.alloc [.int .i64 0,.int .i64 0] 29,none,[]⟩,
 ⟨none,.st (.t 16) (.t 88) 2,none,[]⟩,
 ⟨some 17,.mv (.c (.int .i64 (-1))),none,[]⟩])
 (.seq (.seq (.reg [
 ⟨some 89,.mv (.t 2),none,[]⟩,
 ⟨some 90,.len (.t 89),none,[]⟩,
 ⟨some 91,.mv (.c (.int .i64 0)),none,[]⟩])
 (.block 3 (.loop (.seq (.reg [
  ⟨some 92,.bin .lss (.t 91) (.t 90),none,[]⟩])
  (.seq (.cond (.t 92)
  .skip
  (.exit 3))
  (.seq (.block 4 (.seq (.reg [
   ⟨some 93,.mv (.t 91),none,[]⟩,
   ⟨some 94,.ixs (.t 89) (.t 91) 3,none,[]⟩,
   ⟨some 95,.ld (.t 94) 3 true,none,[]⟩,
   ⟨some 19,.alloc [.int .i64 0,.int .i64 0,.int .i64 0] 40,none,[]⟩,
   ⟨some 18,.mv (.t 93),none,[]⟩,
   ⟨none,.st (.t 19) (.t 95) 3,none,[]⟩])
   (.seq (.seq (.reg [
   ⟨some 96,.addo (.t 19) 0,none,[]⟩,
   ⟨some 97,.ld (.t 96) 1 false,none,[]⟩,
   ⟨some 98,.mv (.t 1),none,[]⟩,
   ⟨some 99,.bin .neq (.t 97) (.t 98),none,[]⟩,
   ⟨some 100,.mv (.t 99),none,[]⟩,
   ⟨some 101,.addo (.t 19) 1,some (100,false),[]⟩,
   ⟨some 102,.ld (.t 101) 1 false,some (100,false),[]⟩,
   ⟨some 103,.mv (.t 3),some (100,false),[]⟩,
   ⟨some 104,.bin .geq (.t 102) (.t 103),some (100,false),[]⟩,
   ⟨some 105,.pick (.t 100) (.c (.bool true)) (.t 104),none,[]⟩])
   (.cond (.t 105)
   (.exit 4)
   .skip))
   (.seq (.reg [
   ⟨some 106,.ld (.t 15) 9 true,none,[]⟩,
   ⟨some 107,.ld (.t 16) 2 true,none,[]⟩,
   ⟨some 108,.addo (.t 19) 1,none,[]⟩,
   ⟨some 109,.ld (.t 108) 1 false,none,[]⟩,
   ⟨some 110,.mv (.t 17),none,[]⟩,
   ⟨some 111,.bin .sub (.t 109) (.t 110),none,[]⟩,
   ⟨some 112,.call 59 [.t 106,.t 107,.t 111],none,[]⟩,
   ⟨none,.st (.t 16) (.t 112) 2,none,[]⟩])
   (.seq (.reg [
   ⟨some 113,.addo (.t 19) 1,none,[]⟩,
   ⟨some 114,.ld (.t 113) 1 false,none,[]⟩,
   ⟨some 17,.mv (.t 114),none,[]⟩])
   (.seq (.seq (.reg [
   ⟨some 115,.addo (.t 16) 1,none,[]⟩,
   ⟨some 116,.ld (.t 115) 1 false,none,[]⟩,
   ⟨some 117,.addo (.t 19) 2,none,[]⟩,
   ⟨some 118,.ld (.t 117) 1 false,none,[]⟩,
   ⟨some 119,.bin .lss (.t 116) (.t 118),none,[]⟩])
   (.cond (.t 119)
   (.seq (.reg [
    ⟨some 120,.ld (.t 8) 2 true,none,[]⟩,
    ⟨some 121,.mv (.t 18),none,[]⟩,
    ⟨none,.st (.t 8) (.t 120) 2,none,[]⟩,
    ⟨some 9,.mv (.t 121),none,[]⟩,
    ⟨some 10,.mv (.c (.int .i64 33)),none,[]⟩])
    .ret)
   .skip))
   (.reg [
   ⟨some 122,.addo (.t 16) 0,none,[]⟩,
   ⟨some 123,.ld (.t 122) 1 false,none,[]⟩,
   ⟨some 124,.addo (.t 19) 2,none,[]⟩,
   ⟨some 125,.ld (.t 124) 1 false,none,[]⟩,
   ⟨some 126,.bin .sub (.t 123) (.t 125),none,[]⟩,
   ⟨some 127,.mm true [.c (.int .i64 0),.t 126],none,[]⟩,
   ⟨some 128,.addo (.t 16) 1,none,[]⟩,
   ⟨some 129,.ld (.t 128) 1 false,none,[]⟩,
   ⟨some 130,.addo (.t 19) 2,none,[]⟩,
   ⟨some 131,.ld (.t 130) 1 false,none,[]⟩,
   ⟨some 132,.bin .sub (.t 129) (.t 131),none,[]⟩,
   ⟨some 133,.build [.int .i64 0,.int .i64 0] [(0,1,.t 127),(1,1,.t 132)],none,[]⟩,
   ⟨none,.st (.t 16) (.t 133) 2,none,[]⟩])))))))
  (.reg [
  ⟨some 134,.bin .add (.t 91) (.c (.int .i64 1)),none,[]⟩,
  ⟨some 91,.mv (.t 134),none,[]⟩])))))))
 (.seq (.reg [
 ⟨some 135,.ld (.t 15) 9 true,none,[]⟩,
 ⟨some 136,.ld (.t 16) 2 true,none,[]⟩,
 ⟨some 137,.mv (.t 3),none,[]⟩,
 ⟨some 138,.bin .sub (.t 137) (.c (.int .i64 1)),none,[]⟩,
 ⟨some 139,.mv (.t 17),none,[]⟩,
 ⟨some 140,.bin .sub (.t 138) (.t 139),none,[]⟩,
 ⟨some 141,.call 59 [.t 135,.t 136,.t 140],none,[]⟩,
 ⟨none,.st (.t 8) (.t 141) 2,none,[]⟩,
 ⟨some 9,.mv (.c (.int .i64 0)),none,[]⟩,
 ⟨some 10,.mv (.c (.int .i64 0)),none,[]⟩])
 .ret))))))))
def r17:List RV:=[.cell 8 2 true,.tmp 9,.tmp 10]
theorem n17:Try.f17.ntmps = 142:=by kernel_rfl
theorem b17:bodyB Try.prog 17 = true:=by kernel_rfl
theorem c17_ok:cmpC Try.prog c17 ((Try.f17.body).getD .skip) = true:=by kernel_rfl
theorem r17_ok:cmpR Try.prog r17 Try.f17.results.toList = true:=by kernel_rfl
theorem t17 {args:List SV} {res:SV} (ka:KFL args) (kr:KF res) (h:sx Try.prog Y0 0 c17 (st0 args 142) (retK r17 res)) (hA:Nat.ble args.length 142 = true:=by rfl):Ct Try.prog 17 args res:=ct_intro Try.func17 rfl b17 c17_ok r17_ok n17 (Nat.le_of_ble_eq_true hA) ka kr h
def c26:SC:=(.seq (.reg [
 ⟨some 1,.box (.t 0) 0 25,none,[]⟩,
 ⟨some 2,.mv (.c (.int .i64 0)),none,[]⟩])
 (.seq (.reg [
 ⟨some 5,.addo (.t 1) 0,none,[]⟩,
 ⟨some 6,.ld (.t 5) 1 false,none,[]⟩,
 ⟨some 7,.call 71 [.t 6,.f 72],none,[]⟩,
 ⟨some 8,.un .not (.t 7),none,[]⟩,
 ⟨some 3,.mv (.t 8),none,[]⟩])
 (.seq (.reg [
 ⟨some 9,.addo (.t 1) 1,none,[]⟩,
 ⟨some 10,.ld (.t 9) 1 false,none,[]⟩,
 ⟨some 11,.mkf 75 [.t 1],none,[]⟩,
 ⟨some 12,.call 74 [.t 10,.t 11],none,[]⟩,
 ⟨some 13,.un .not (.t 12),none,[]⟩,
 ⟨some 4,.mv (.t 13),none,[]⟩])
 (.seq (.seq (.reg [
 ⟨some 14,.addo (.t 1) 0,none,[]⟩,
 ⟨some 15,.ld (.t 14) 1 false,none,[]⟩,
 ⟨some 16,.len (.t 15),none,[]⟩,
 ⟨some 17,.bsl 1 3 [.t 16],none,[]⟩,
 ⟨some 18,.call 58 [.c (.int .i64 1),.c (.int .i64 12),.t 17],none,[]⟩,
 ⟨some 19,.un .not (.t 18),none,[]⟩,
 ⟨some 20,.mv (.t 19),none,[]⟩,
 ⟨some 21,.addo (.t 1) 1,some (20,false),[]⟩,
 ⟨some 22,.ld (.t 21) 1 false,some (20,false),[]⟩,
 ⟨some 23,.len (.t 22),some (20,false),[]⟩,
 ⟨some 24,.bin .gtr (.t 23) (.c (.int .i64 24)),some (20,false),[]⟩,
 ⟨some 25,.pick (.t 20) (.c (.bool true)) (.t 24),none,[]⟩,
 ⟨some 26,.mv (.t 25),none,[]⟩,
 ⟨some 27,.mv (.t 3),some (26,false),[]⟩,
 ⟨some 28,.un .not (.t 27),some (26,false),[]⟩,
 ⟨some 29,.pick (.t 26) (.c (.bool true)) (.t 28),none,[]⟩,
 ⟨some 30,.mv (.t 29),none,[]⟩,
 ⟨some 31,.mv (.t 4),some (30,false),[]⟩,
 ⟨some 32,.un .not (.t 31),some (30,false),[]⟩,
 ⟨some 33,.pick (.t 30) (.c (.bool true)) (.t 32),none,[]⟩])
 (.cond (.t 33)
 (.seq (.reg [
  ⟨some 2,.mv (.c (.int .i64 30)),none,[]⟩])
  .ret)
 .skip))
 (.seq (.reg [
 ⟨some 2,.mv (.c (.int .i64 0)),none,[]⟩])
 .ret)))))
def r26:List RV:=[.tmp 2]
theorem n26:Try.f26.ntmps = 34:=by kernel_rfl
theorem b26:bodyB Try.prog 26 = true:=by kernel_rfl
theorem c26_ok:cmpC Try.prog c26 ((Try.f26.body).getD .skip) = true:=by kernel_rfl
theorem r26_ok:cmpR Try.prog r26 Try.f26.results.toList = true:=by kernel_rfl
theorem t26 {args:List SV} {res:SV} (ka:KFL args) (kr:KF res) (h:sx Try.prog Y0 0 c26 (st0 args 34) (retK r26 res)) (hA:Nat.ble args.length 34 = true:=by rfl):Ct Try.prog 26 args res:=ct_intro Try.func26 rfl b26 c26_ok r26_ok n26 (Nat.le_of_ble_eq_true hA) ka kr h
def c58:SC:=(.seq (.reg [
 ⟨some 3,.box (.t 0) 0 3,none,[]⟩,
 ⟨some 4,.box (.t 1) 0 3,none,[]⟩,
 ⟨some 6,.mv (.c (.bool false)),none,[]⟩])
 (.seq (.reg [
 ⟨some 7,.mv (.t 2),none,[]⟩,
 ⟨some 8,.mkf 91 [.t 3,.t 4],none,[]⟩,
 ⟨some 9,.call 90 [.t 7,.t 8],none,[]⟩,
 ⟨some 10,.un .not (.t 9),none,[]⟩,
 ⟨some 6,.mv (.t 10),none,[]⟩])
 .ret))
def r58:List RV:=[.tmp 6]
theorem n58:Try.f58.ntmps = 11:=by kernel_rfl
theorem b58:bodyB Try.prog 58 = true:=by kernel_rfl
theorem c58_ok:cmpC Try.prog c58 ((Try.f58.body).getD .skip) = true:=by kernel_rfl
theorem r58_ok:cmpR Try.prog r58 Try.f58.results.toList = true:=by kernel_rfl
theorem t58 {args:List SV} {res:SV} (ka:KFL args) (kr:KF res) (h:sx Try.prog Y0 0 c58 (st0 args 11) (retK r58 res)) (hA:Nat.ble args.length 11 = true:=by rfl):Ct Try.prog 58 args res:=ct_intro Try.func58 rfl b58 c58_ok r58_ok n58 (Nat.le_of_ble_eq_true hA) ka kr h
def c59:SC:=(.seq (.reg [
 ⟨some 3,.box (.t 0) 0 109,none,[]⟩,
 ⟨some 4,.box (.t 1) 0 29,none,[]⟩,
 ⟨some 6,.alloc [.int .i64 0,.int .i64 0] 29,none,[]⟩])
 (.seq (.reg [
 ⟨some 7,.addo (.t 3) 5,none,[]⟩,
 ⟨some 8,.ld (.t 7) 1 false,none,[]⟩,
 ⟨some 9,.addo (.t 4) 0,none,[]⟩,
 ⟨some 10,.ld (.t 9) 1 false,none,[]⟩,
 ⟨some 11,.mv (.t 2),none,[]⟩,
 ⟨some 12,.addo (.t 3) 3,none,[]⟩,
 ⟨some 13,.addo (.t 12) 0,none,[]⟩,
 ⟨some 14,.ld (.t 13) 1 false,none,[]⟩,
 ⟨some 15,.bin .mul (.t 11) (.t 14),none,[]⟩,
 ⟨some 16,.bin .add (.t 10) (.t 15),none,[]⟩,
 ⟨some 17,.mm false [.t 8,.t 16],none,[]⟩,
 ⟨some 18,.addo (.t 3) 5,none,[]⟩,
 ⟨some 19,.ld (.t 18) 1 false,none,[]⟩,
 ⟨some 20,.addo (.t 4) 1,none,[]⟩,
 ⟨some 21,.ld (.t 20) 1 false,none,[]⟩,
 ⟨some 22,.mv (.t 2),none,[]⟩,
 ⟨some 23,.addo (.t 3) 3,none,[]⟩,
 ⟨some 24,.addo (.t 23) 1,none,[]⟩,
 ⟨some 25,.ld (.t 24) 1 false,none,[]⟩,
 ⟨some 26,.bin .mul (.t 22) (.t 25),none,[]⟩,
 ⟨some 27,.bin .add (.t 21) (.t 26),none,[]⟩,
 ⟨some 28,.mm false [.t 19,.t 27],none,[]⟩,
 ⟨some 29,.build [.int .i64 0,.int .i64 0] [(0,1,.t 17),(1,1,.t 28)],none,[]⟩,
 ⟨none,.st (.t 6) (.t 29) 2,none,[]⟩])
 .ret))
def r59:List RV:=[.cell 6 2 true]
theorem n59:Try.f59.ntmps = 30:=by kernel_rfl
theorem b59:bodyB Try.prog 59 = true:=by kernel_rfl
theorem c59_ok:cmpC Try.prog c59 ((Try.f59.body).getD .skip) = true:=by kernel_rfl
theorem r59_ok:cmpR Try.prog r59 Try.f59.results.toList = true:=by kernel_rfl
theorem t59 {args:List SV} {res:SV} (ka:KFL args) (kr:KF res) (h:sx Try.prog Y0 0 c59 (st0 args 30) (retK r59 res)) (hA:Nat.ble args.length 30 = true:=by rfl):Ct Try.prog 59 args res:=ct_intro Try.func59 rfl b59 c59_ok r59_ok n59 (Nat.le_of_ble_eq_true hA) ka kr h
def c60:SC:=(.seq (.reg [
 ⟨some 1,.box (.t 0) 0 25,none,[]⟩,
 ⟨some 2,.mv (.c (.bool false)),none,[]⟩])
 (.seq (.seq (.reg [
 ⟨some 10,.addo (.t 1) 0,none,[]⟩,
 ⟨some 11,.ld (.t 10) 1 false,none,[]⟩,
 ⟨some 12,.len (.t 11),none,[]⟩,
 ⟨some 13,.call 61 [.t 12,.c (.int .i64 1),.c (.int .i64 12)],none,[]⟩,
 ⟨some 14,.un .not (.t 13),none,[]⟩,
 ⟨some 15,.mv (.t 14),none,[]⟩,
 ⟨some 16,.addo (.t 1) 1,some (15,false),[]⟩,
 ⟨some 17,.ld (.t 16) 1 false,some (15,false),[]⟩,
 ⟨some 18,.len (.t 17),some (15,false),[]⟩,
 ⟨some 19,.bin .gtr (.t 18) (.c (.int .i64 24)),some (15,false),[]⟩,
 ⟨some 20,.pick (.t 15) (.c (.bool true)) (.t 19),none,[]⟩])
 (.cond (.t 20)
 (.seq (.reg [
  ⟨some 2,.mv (.c (.bool false)),none,[]⟩])
  .ret)
 .skip))
 (.seq (.seq (.reg [
 ⟨some 3,.mv (.c (.int .i64 0)),none,[]⟩])
 (.block 0 (.loop (.seq (.seq (.reg [
  ⟨some 21,.mv (.t 3),none,[]⟩,
  ⟨some 22,.addo (.t 1) 0,none,[]⟩,
  ⟨some 23,.ld (.t 22) 1 false,none,[]⟩,
  ⟨some 24,.len (.t 23),none,[]⟩,
  ⟨some 25,.bin .lss (.t 21) (.t 24),none,[]⟩])
  (.cond (.t 25)
  .skip
  (.exit 0)))
  (.seq (.block 1 (.seq (.reg [
   ⟨some 28,.addo (.t 1) 0,none,[]⟩,
   ⟨some 29,.ld (.t 28) 1 false,none,[]⟩,
   ⟨some 30,.mv (.t 3),none,[]⟩,
   ⟨some 31,.ixs (.t 29) (.t 30) 9,none,[]⟩,
   ⟨some 32,.ld (.t 31) 9 true,none,[]⟩,
   ⟨some 4,.alloc [.int .i64 0,.int .i64 0,.int .i64 0,.int .i64 0,.int .i64 0,.int .i64 0,.int .i64 0,.int .i64 0,.int .i64 0] 109,none,[]⟩,
   ⟨none,.st (.t 4) (.t 32) 9,none,[]⟩])
   (.seq (.reg [
   ⟨some 33,.addo (.t 4) 0,none,[]⟩,
   ⟨some 34,.ld (.t 33) 1 false,none,[]⟩,
   ⟨some 35,.call 61 [.t 34,.c (.int .i64 (-10000000)),.c (.int .i64 10000000)],none,[]⟩,
   ⟨some 36,.un .not (.t 35),none,[]⟩,
   ⟨some 37,.mv (.t 36),none,[]⟩,
   ⟨some 38,.addo (.t 4) 1,some (37,false),[]⟩,
   ⟨some 39,.ld (.t 38) 1 false,some (37,false),[]⟩,
   ⟨some 40,.call 61 [.t 39,.c (.int .i64 (-10000000)),.c (.int .i64 10000000)],some (37,false),[]⟩,
   ⟨some 41,.un .not (.t 40),some (37,false),[]⟩,
   ⟨some 42,.pick (.t 37) (.c (.bool true)) (.t 41),none,[]⟩,
   ⟨some 43,.mv (.t 42),none,[]⟩,
   ⟨some 44,.addo (.t 4) 2,some (43,false),[]⟩,
   ⟨some 45,.ld (.t 44) 1 false,some (43,false),[]⟩,
   ⟨some 46,.call 61 [.t 45,.c (.int .i64 0),.c (.int .i64 200)],some (43,false),[]⟩,
   ⟨some 47,.un .not (.t 46),some (43,false),[]⟩,
   ⟨some 48,.pick (.t 43) (.c (.bool true)) (.t 47),none,[]⟩,
   ⟨some 49,.mv (.t 48),none,[]⟩,
   ⟨some 50,.addo (.t 4) 3,some (49,false),[]⟩,
   ⟨some 51,.ld (.t 50) 2 true,some (49,false),[]⟩,
   ⟨some 52,.call 92 [.t 51,.c (.int .i64 0),.c (.int .i64 10000000)],some (49,false),[]⟩,
   ⟨some 53,.un .not (.t 52),some (49,false),[]⟩,
   ⟨some 54,.pick (.t 49) (.c (.bool true)) (.t 53),none,[]⟩,
   ⟨some 55,.mv (.t 54),none,[]⟩,
   ⟨some 56,.addo (.t 4) 5,some (55,false),[]⟩,
   ⟨some 57,.ld (.t 56) 1 false,some (55,false),[]⟩,
   ⟨some 58,.call 61 [.t 57,.c (.int .i64 0),.c (.int .i64 1000000000)],some (55,false),[]⟩,
   ⟨some 59,.un .not (.t 58),some (55,false),[]⟩,
   ⟨some 60,.pick (.t 55) (.c (.bool true)) (.t 59),none,[]⟩,
   ⟨some 61,.mv (.t 60),none,[]⟩,
   ⟨some 62,.addo (.t 4) 6,some (61,false),[]⟩,
   ⟨some 63,.ld (.t 62) 2 true,some (61,false),[]⟩,
   ⟨some 64,.addo (.t 4) 5,some (61,false),[]⟩,
   ⟨some 65,.ld (.t 64) 1 false,some (61,false),[]⟩,
   ⟨some 66,.call 92 [.t 63,.c (.int .i64 0),.t 65],some (61,false),[]⟩,
   ⟨some 67,.un .not (.t 66),some (61,false),[]⟩,
   ⟨some 68,.pick (.t 61) (.c (.bool true)) (.t 67),none,[]⟩,
   ⟨some 69,.mv (.t 68),none,[]⟩,
   ⟨some 70,.addo (.t 4) 8,some (69,false),[]⟩,
   ⟨some 71,.ld (.t 70) 1 false,some (69,false),[]⟩,
   ⟨some 72,.call 61 [.t 71,.c (.int .i64 0),.c (.int .i64 9999)],some (69,false),[]⟩,
   ⟨some 73,.un .not (.t 72),some (69,false),[]⟩,
   ⟨some 74,.pick (.t 69) (.c (.bool true)) (.t 73),none,[]⟩])
   (.cond (.t 74)
   (.seq (.reg [
    ⟨some 2,.mv (.c (.bool false)),none,[]⟩])
    .ret)
   .skip))))
  (.reg [
  ⟨some 26,.mv (.t 3),none,[]⟩,
  ⟨some 27,.bin .add (.t 26) (.c (.int .i64 1)),none,[]⟩,
  ⟨some 3,.mv (.t 27),none,[]⟩]))))))
 (.seq (.seq (.reg [
 ⟨some 5,.mv (.c (.int .i64 0)),none,[]⟩])
 (.block 2 (.loop (.seq (.seq (.reg [
  ⟨some 75,.mv (.t 5),none,[]⟩,
  ⟨some 76,.addo (.t 1) 1,none,[]⟩,
  ⟨some 77,.ld (.t 76) 1 false,none,[]⟩,
  ⟨some 78,.len (.t 77),none,[]⟩,
  ⟨some 79,.bin .lss (.t 75) (.t 78),none,[]⟩])
  (.cond (.t 79)
  .skip
  (.exit 2)))
  (.seq (.block 3 (.seq (.reg [
   ⟨some 82,.addo (.t 1) 1,none,[]⟩,
   ⟨some 83,.ld (.t 82) 1 false,none,[]⟩,
   ⟨some 84,.mv (.t 5),none,[]⟩,
   ⟨some 85,.ixs (.t 83) (.t 84) 5,none,[]⟩,
   ⟨some 86,.ld (.t 85) 5 true,none,[]⟩,
   ⟨some 6,.alloc [.int .i64 0,.int .i64 0,.int .i64 0,.int .i64 0,.slice none 0 0] 86,none,[]⟩,
   ⟨none,.st (.t 6) (.t 86) 5,none,[]⟩])
   (.seq (.seq (.reg [
   ⟨some 87,.addo (.t 6) 0,none,[]⟩,
   ⟨some 88,.ld (.t 87) 1 false,none,[]⟩,
   ⟨some 89,.addo (.t 1) 0,none,[]⟩,
   ⟨some 90,.ld (.t 89) 1 false,none,[]⟩,
   ⟨some 91,.len (.t 90),none,[]⟩,
   ⟨some 92,.bin .sub (.t 91) (.c (.int .i64 1)),none,[]⟩,
   ⟨some 93,.call 61 [.t 88,.c (.int .i64 0),.t 92],none,[]⟩,
   ⟨some 94,.un .not (.t 93),none,[]⟩,
   ⟨some 95,.mv (.t 94),none,[]⟩,
   ⟨some 96,.addo (.t 6) 1,some (95,false),[]⟩,
   ⟨some 97,.ld (.t 96) 1 false,some (95,false),[]⟩,
   ⟨some 98,.addo (.t 1) 0,some (95,false),[]⟩,
   ⟨some 99,.ld (.t 98) 1 false,some (95,false),[]⟩,
   ⟨some 100,.len (.t 99),some (95,false),[]⟩,
   ⟨some 101,.bin .sub (.t 100) (.c (.int .i64 1)),some (95,false),[]⟩,
   ⟨some 102,.call 61 [.t 97,.c (.int .i64 0),.t 101],some (95,false),[]⟩,
   ⟨some 103,.un .not (.t 102),some (95,false),[]⟩,
   ⟨some 104,.pick (.t 95) (.c (.bool true)) (.t 103),none,[]⟩,
   ⟨some 105,.mv (.t 104),none,[]⟩,
   ⟨some 106,.addo (.t 6) 0,some (105,false),[]⟩,
   ⟨some 107,.ld (.t 106) 1 false,some (105,false),[]⟩,
   ⟨some 108,.addo (.t 6) 1,some (105,false),[]⟩,
   ⟨some 109,.ld (.t 108) 1 false,some (105,false),[]⟩,
   ⟨some 110,.bin .eql (.t 107) (.t 109),some (105,false),[]⟩,
   ⟨some 111,.pick (.t 105) (.c (.bool true)) (.t 110),none,[]⟩,
   ⟨some 112,.mv (.t 111),none,[]⟩,
   ⟨some 113,.addo (.t 6) 2,some (112,false),[]⟩,
   ⟨some 114,.ld (.t 113) 2 true,some (112,false),[]⟩,
   ⟨some 115,.call 92 [.t 114,.c (.int .i64 1),.c (.int .i64 1000000)],some (112,false),[]⟩,
   ⟨some 116,.un .not (.t 115),some (112,false),[]⟩,
   ⟨some 117,.pick (.t 112) (.c (.bool true)) (.t 116),none,[]⟩,
   ⟨some 118,.mv (.t 117),none,[]⟩,
   ⟨some 119,.addo (.t 6) 4,some (118,false),[]⟩,
   ⟨some 120,.ld (.t 119) 1 false,some (118,false),[]⟩,
   ⟨some 121,.len (.t 120),some (118,false),[]⟩,
   ⟨some 122,.bin .gtr (.t 121) (.c (.int .i64 6)),some (118,false),[]⟩,
   ⟨some 123,.pick (.t 118) (.c (.bool true)) (.t 122),none,[]⟩])
   (.cond (.t 123)
   (.seq (.reg [
    ⟨some 2,.mv (.c (.bool false)),none,[]⟩])
    .ret)
   .skip))
   (.seq (.reg [
   ⟨some 7,.mv (.c (.int .i64 (-1))),none,[]⟩])
   (.seq (.reg [
   ⟨some 8,.mv (.c (.int .i64 0)),none,[]⟩])
   (.block 4 (.loop (.seq (.seq (.reg [
    ⟨some 124,.mv (.t 8),none,[]⟩,
    ⟨some 125,.addo (.t 6) 4,none,[]⟩,
    ⟨some 126,.ld (.t 125) 1 false,none,[]⟩,
    ⟨some 127,.len (.t 126),none,[]⟩,
    ⟨some 128,.bin .lss (.t 124) (.t 127),none,[]⟩])
    (.cond (.t 128)
    .skip
    (.exit 4)))
    (.seq (.block 5 (.seq (.reg [
     ⟨some 131,.addo (.t 6) 4,none,[]⟩,
     ⟨some 132,.ld (.t 131) 1 false,none,[]⟩,
     ⟨some 133,.mv (.t 8),none,[]⟩,
     ⟨some 134,.ixs (.t 132) (.t 133) 4,none,[]⟩,
     ⟨some 135,.ld (.t 134) 4 true,none,[]⟩,
     ⟨some 9,.alloc [.int .i64 0,.int .i64 0,.int .i64 0,.int .i64 0] 95,none,[]⟩,
     ⟨none,.st (.t 9) (.t 135) 4,none,[]⟩])
     (.seq (.seq (.reg [
     ⟨some 136,.addo (.t 9) 0,none,[]⟩,
     ⟨some 137,.ld (.t 136) 2 true,none,[]⟩,
     ⟨some 138,.call 92 [.t 137,.c (.int .i64 0),.c (.int .i64 100000)],none,[]⟩,
     ⟨some 139,.un .not (.t 138),none,[]⟩,
     ⟨some 140,.mv (.t 139),none,[]⟩,
     ⟨some 141,.addo (.t 9) 2,some (140,false),[]⟩,
     ⟨some 142,.ld (.t 141) 2 true,some (140,false),[]⟩,
     ⟨some 143,.call 92 [.t 142,.c (.int .i64 0),.c (.int .i64 100000)],some (140,false),[]⟩,
     ⟨some 144,.un .not (.t 143),some (140,false),[]⟩,
     ⟨some 145,.pick (.t 140) (.c (.bool true)) (.t 144),none,[]⟩,
     ⟨some 146,.mv (.t 145),none,[]⟩,
     ⟨some 147,.addo (.t 9) 0,some (146,false),[]⟩,
     ⟨some 148,.addo (.t 147) 0,some (146,false),[]⟩,
     ⟨some 149,.ld (.t 148) 1 false,some (146,false),[]⟩,
     ⟨some 150,.addo (.t 9) 2,some (146,false),[]⟩,
     ⟨some 151,.addo (.t 150) 1,some (146,false),[]⟩,
     ⟨some 152,.ld (.t 151) 1 false,some (146,false),[]⟩,
     ⟨some 153,.bin .gtr (.t 149) (.t 152),some (146,false),[]⟩,
     ⟨some 154,.pick (.t 146) (.c (.bool true)) (.t 153),none,[]⟩,
     ⟨some 155,.mv (.t 154),none,[]⟩,
     ⟨some 156,.addo (.t 9) 0,some (155,false),[]⟩,
     ⟨some 157,.addo (.t 156) 0,some (155,false),[]⟩,
     ⟨some 158,.ld (.t 157) 1 false,some (155,false),[]⟩,
     ⟨some 159,.mv (.t 7),some (155,false),[]⟩,
     ⟨some 160,.bin .leq (.t 158) (.t 159),some (155,false),[]⟩,
     ⟨some 161,.pick (.t 155) (.c (.bool true)) (.t 160),none,[]⟩])
     (.cond (.t 161)
     (.seq (.reg [
      ⟨some 2,.mv (.c (.bool false)),none,[]⟩])
      .ret)
     .skip))
     (.reg [
     ⟨some 162,.addo (.t 9) 2,none,[]⟩,
     ⟨some 163,.addo (.t 162) 1,none,[]⟩,
     ⟨some 164,.ld (.t 163) 1 false,none,[]⟩,
     ⟨some 7,.mv (.t 164),none,[]⟩]))))
    (.reg [
    ⟨some 129,.mv (.t 8),none,[]⟩,
    ⟨some 130,.bin .add (.t 129) (.c (.int .i64 1)),none,[]⟩,
    ⟨some 8,.mv (.t 130),none,[]⟩]))))))))))
  (.reg [
  ⟨some 80,.mv (.t 5),none,[]⟩,
  ⟨some 81,.bin .add (.t 80) (.c (.int .i64 1)),none,[]⟩,
  ⟨some 5,.mv (.t 81),none,[]⟩]))))))
 (.seq (.reg [
 ⟨some 2,.mv (.c (.bool true)),none,[]⟩])
 .ret)))))
def r60:List RV:=[.tmp 2]
theorem n60:Try.f60.ntmps = 165:=by kernel_rfl
theorem b60:bodyB Try.prog 60 = true:=by kernel_rfl
theorem c60_ok:cmpC Try.prog c60 ((Try.f60.body).getD .skip) = true:=by kernel_rfl
theorem r60_ok:cmpR Try.prog r60 Try.f60.results.toList = true:=by kernel_rfl
theorem t60 {args:List SV} {res:SV} (ka:KFL args) (kr:KF res) (h:sx Try.prog Y0 0 c60 (st0 args 165) (retK r60 res)) (hA:Nat.ble args.length 165 = true:=by rfl):Ct Try.prog 60 args res:=ct_intro Try.func60 rfl b60 c60_ok r60_ok n60 (Nat.le_of_ble_eq_true hA) ka kr h
def c61:SC:=(.seq (.reg [
 ⟨some 6,.mv (.c (.bool false)),none,[]⟩])
 (.seq (.reg [
 ⟨some 7,.mv (.t 0),none,[]⟩,
 ⟨some 8,.mv (.t 1),none,[]⟩,
 ⟨some 9,.bin .geq (.t 7) (.t 8),none,[]⟩,
 ⟨some 10,.mv (.t 9),none,[]⟩,
 ⟨some 11,.mv (.t 0),some (10,true),[]⟩,
 ⟨some 12,.mv (.t 2),some (10,true),[]⟩,
 ⟨some 13,.bin .leq (.t 11) (.t 12),some (10,true),[]⟩,
 ⟨some 14,.pick (.t 10) (.t 13) (.c (.bool false)),none,[]⟩,
 ⟨some 6,.mv (.t 14),none,[]⟩])
 .ret))
def r61:List RV:=[.tmp 6]
theorem n61:Try.f61.ntmps = 15:=by kernel_rfl
theorem b61:bodyB Try.prog 61 = true:=by kernel_rfl
theorem c61_ok:cmpC Try.prog c61 ((Try.f61.body).getD .skip) = true:=by kernel_rfl
theorem r61_ok:cmpR Try.prog r61 Try.f61.results.toList = true:=by kernel_rfl
theorem t61 {args:List SV} {res:SV} (ka:KFL args) (kr:KF res) (h:sx Try.prog Y0 0 c61 (st0 args 15) (retK r61 res)) (hA:Nat.ble args.length 15 = true:=by rfl):Ct Try.prog 61 args res:=ct_intro Try.func61 rfl b61 c61_ok r61_ok n61 (Nat.le_of_ble_eq_true hA) ka kr h
def c71:SC:=(.seq (.reg [
 ⟨some 4,.mv (.c (.bool false)),none,[]⟩])
 (.seq (.reg [
 ⟨some 5,.mv (.t 0),none,[]⟩,
 ⟨some 6,.mv (.t 1),none,[]⟩,
 ⟨some 7,.call 95 [.t 5,.t 6],none,[]⟩,
 ⟨some 8,.bin .geq (.t 7) (.c (.int .i64 0)),none,[]⟩,
 ⟨some 4,.mv (.t 8),none,[]⟩])
 .ret))
def r71:List RV:=[.tmp 4]
theorem n71:Try.f71.ntmps = 9:=by kernel_rfl
theorem b71:bodyB Try.prog 71 = true:=by kernel_rfl
theorem c71_ok:cmpC Try.prog c71 ((Try.f71.body).getD .skip) = true:=by kernel_rfl
theorem r71_ok:cmpR Try.prog r71 Try.f71.results.toList = true:=by kernel_rfl
theorem t71 {args:List SV} {res:SV} (ka:KFL args) (kr:KF res) (h:sx Try.prog Y0 0 c71 (st0 args 9) (retK r71 res)) (hA:Nat.ble args.length 9 = true:=by rfl):Ct Try.prog 71 args res:=ct_intro Try.func71 rfl b71 c71_ok r71_ok n71 (Nat.le_of_ble_eq_true hA) ka kr h
def c72:SC:=(.seq (.reg [
 ⟨some 1,.box (.t 0) 0 109,none,[]⟩,
 ⟨some 2,.mv (.c (.bool false)),none,[]⟩])
 (.seq (.reg [
 ⟨some 3,.ld (.t 1) 9 true,none,[]⟩,
 ⟨some 4,.call 73 [.t 3],none,[]⟩,
 ⟨some 5,.un .not (.t 4),none,[]⟩,
 ⟨some 2,.mv (.t 5),none,[]⟩])
 .ret))
def r72:List RV:=[.tmp 2]
theorem n72:Try.f72.ntmps = 6:=by kernel_rfl
theorem b72:bodyB Try.prog 72 = true:=by kernel_rfl
theorem c72_ok:cmpC Try.prog c72 ((Try.f72.body).getD .skip) = true:=by kernel_rfl
theorem r72_ok:cmpR Try.prog r72 Try.f72.results.toList = true:=by kernel_rfl
theorem t72 {args:List SV} {res:SV} (ka:KFL args) (kr:KF res) (h:sx Try.prog Y0 0 c72 (st0 args 6) (retK r72 res)) (hA:Nat.ble args.length 6 = true:=by rfl):Ct Try.prog 72 args res:=ct_intro Try.func72 rfl b72 c72_ok r72_ok n72 (Nat.le_of_ble_eq_true hA) ka kr h
def c73:SC:=(.seq (.reg [
 ⟨some 1,.box (.t 0) 0 109,none,[]⟩,
 ⟨some 2,.mv (.c (.bool false)),none,[]⟩])
 (.seq (.reg [
 ⟨some 3,.addo (.t 1) 0,none,[]⟩,
 ⟨some 4,.ld (.t 3) 1 false,none,[]⟩,
 ⟨some 5,.addo (.t 1) 1,none,[]⟩,
 ⟨some 6,.ld (.t 5) 1 false,none,[]⟩,
 ⟨some 7,.bsl 1 3 [.t 4,.t 6],none,[]⟩,
 ⟨some 8,.call 58 [.c (.int .i64 (-10000000)),.c (.int .i64 10000000),.t 7],none,[]⟩,
 ⟨some 9,.mv (.t 8),none,[]⟩,
 ⟨some 10,.addo (.t 1) 2,some (9,true),[]⟩,
 ⟨some 11,.ld (.t 10) 1 false,some (9,true),[]⟩,
 ⟨some 12,.bsl 1 3 [.t 11],some (9,true),[]⟩,
 ⟨some 13,.call 58 [.c (.int .i64 0),.c (.int .i64 200),.t 12],some (9,true),[]⟩,
 ⟨some 14,.pick (.t 9) (.t 13) (.c (.bool false)),none,[]⟩,
 ⟨some 15,.mv (.t 14),none,[]⟩,
 ⟨some 16,.addo (.t 1) 3,some (15,true),[]⟩,
 ⟨some 17,.ld (.t 16) 2 true,some (15,true),[]⟩,
 ⟨some 18,.bsl 2 29 [.t 17],some (15,true),[]⟩,
 ⟨some 19,.call 93 [.c (.int .i64 0),.c (.int .i64 10000000),.t 18],some (15,true),[]⟩,
 ⟨some 20,.pick (.t 15) (.t 19) (.c (.bool false)),none,[]⟩,
 ⟨some 21,.mv (.t 20),none,[]⟩,
 ⟨some 22,.addo (.t 1) 5,some (21,true),[]⟩,
 ⟨some 23,.ld (.t 22) 1 false,some (21,true),[]⟩,
 ⟨some 24,.bsl 1 3 [.t 23],some (21,true),[]⟩,
 ⟨some 25,.call 58 [.c (.int .i64 0),.c (.int .i64 1000000000),.t 24],some (21,true),[]⟩,
 ⟨some 26,.pick (.t 21) (.t 25) (.c (.bool false)),none,[]⟩,
 ⟨some 27,.mv (.t 26),none,[]⟩,
 ⟨some 28,.addo (.t 1) 5,some (27,true),[]⟩,
 ⟨some 29,.ld (.t 28) 1 false,some (27,true),[]⟩,
 ⟨some 30,.addo (.t 1) 6,some (27,true),[]⟩,
 ⟨some 31,.ld (.t 30) 2 true,some (27,true),[]⟩,
 ⟨some 32,.bsl 2 29 [.t 31],some (27,true),[]⟩,
 ⟨some 33,.call 93 [.c (.int .i64 0),.t 29,.t 32],some (27,true),[]⟩,
 ⟨some 34,.pick (.t 27) (.t 33) (.c (.bool false)),none,[]⟩,
 ⟨some 35,.mv (.t 34),none,[]⟩,
 ⟨some 36,.addo (.t 1) 8,some (35,true),[]⟩,
 ⟨some 37,.ld (.t 36) 1 false,some (35,true),[]⟩,
 ⟨some 38,.bsl 1 3 [.t 37],some (35,true),[]⟩,
 ⟨some 39,.call 58 [.c (.int .i64 0),.c (.int .i64 9999),.t 38],some (35,true),[]⟩,
 ⟨some 40,.pick (.t 35) (.t 39) (.c (.bool false)),none,[]⟩,
 ⟨some 2,.mv (.t 40),none,[]⟩])
 .ret))
def r73:List RV:=[.tmp 2]
theorem n73:Try.f73.ntmps = 41:=by kernel_rfl
theorem b73:bodyB Try.prog 73 = true:=by kernel_rfl
theorem c73_ok:cmpC Try.prog c73 ((Try.f73.body).getD .skip) = true:=by kernel_rfl
theorem r73_ok:cmpR Try.prog r73 Try.f73.results.toList = true:=by kernel_rfl
theorem t73 {args:List SV} {res:SV} (ka:KFL args) (kr:KF res) (h:sx Try.prog Y0 0 c73 (st0 args 41) (retK r73 res)) (hA:Nat.ble args.length 41 = true:=by rfl):Ct Try.prog 73 args res:=ct_intro Try.func73 rfl b73 c73_ok r73_ok n73 (Nat.le_of_ble_eq_true hA) ka kr h
def c74:SC:=(.seq (.reg [
 ⟨some 4,.mv (.c (.bool false)),none,[]⟩])
 (.seq (.reg [
 ⟨some 5,.mv (.t 0),none,[]⟩,
 ⟨some 6,.mv (.t 1),none,[]⟩,
 ⟨some 7,.call 96 [.t 5,.t 6],none,[]⟩,
 ⟨some 8,.bin .geq (.t 7) (.c (.int .i64 0)),none,[]⟩,
 ⟨some 4,.mv (.t 8),none,[]⟩])
 .ret))
def r74:List RV:=[.tmp 4]
theorem n74:Try.f74.ntmps = 9:=by kernel_rfl
theorem b74:bodyB Try.prog 74 = true:=by kernel_rfl
theorem c74_ok:cmpC Try.prog c74 ((Try.f74.body).getD .skip) = true:=by kernel_rfl
theorem r74_ok:cmpR Try.prog r74 Try.f74.results.toList = true:=by kernel_rfl
theorem t74 {args:List SV} {res:SV} (ka:KFL args) (kr:KF res) (h:sx Try.prog Y0 0 c74 (st0 args 9) (retK r74 res)) (hA:Nat.ble args.length 9 = true:=by rfl):Ct Try.prog 74 args res:=ct_intro Try.func74 rfl b74 c74_ok r74_ok n74 (Nat.le_of_ble_eq_true hA) ka kr h
def c75:SC:=(.seq (.reg [
 ⟨some 2,.box (.t 0) 0 86,none,[]⟩,
 ⟨some 3,.mv (.c (.bool false)),none,[]⟩])
 (.seq (.reg [
 ⟨some 4,.ld (.t 2) 5 true,none,[]⟩,
 ⟨some 5,.addo (.t 1) 0,none,[]⟩,
 ⟨some 6,.ld (.t 5) 1 false,none,[]⟩,
 ⟨some 7,.len (.t 6),none,[]⟩,
 ⟨some 8,.call 76 [.t 4,.t 7],none,[]⟩,
 ⟨some 9,.un .not (.t 8),none,[]⟩,
 ⟨some 3,.mv (.t 9),none,[]⟩])
 .ret))
def r75:List RV:=[.tmp 3]
theorem n75:Try.f75.ntmps = 10:=by kernel_rfl
theorem b75:bodyB Try.prog 75 = true:=by kernel_rfl
theorem c75_ok:cmpC Try.prog c75 ((Try.f75.body).getD .skip) = true:=by kernel_rfl
theorem r75_ok:cmpR Try.prog r75 Try.f75.results.toList = true:=by kernel_rfl
theorem t75 {args:List SV} {res:SV} (ka:KFL args) (kr:KF res) (h:sx Try.prog Y0 0 c75 (st0 args 10) (retK r75 res)) (hA:Nat.ble args.length 10 = true:=by rfl):Ct Try.prog 75 args res:=ct_intro Try.func75 rfl b75 c75_ok r75_ok n75 (Nat.le_of_ble_eq_true hA) ka kr h
def c76:SC:=(.seq (.reg [
 ⟨some 2,.box (.t 0) 0 86,none,[]⟩,
 ⟨some 4,.mv (.c (.bool false)),none,[]⟩])
 (.seq (.seq (.reg [
 ⟨some 8,.mv (.t 1),none,[]⟩,
 ⟨some 9,.bin .sub (.t 8) (.c (.int .i64 1)),none,[]⟩,
 ⟨some 10,.addo (.t 2) 0,none,[]⟩,
 ⟨some 11,.ld (.t 10) 1 false,none,[]⟩,
 ⟨some 12,.addo (.t 2) 1,none,[]⟩,
 ⟨some 13,.ld (.t 12) 1 false,none,[]⟩,
 ⟨some 14,.bsl 1 3 [.t 11,.t 13],none,[]⟩,
 ⟨some 15,.call 58 [.c (.int .i64 0),.t 9,.t 14],none,[]⟩,
 ⟨some 16,.un .not (.t 15),none,[]⟩,
 ⟨some 17,.mv (.t 16),none,[]⟩,
 ⟨some 18,.addo (.t 2) 0,some (17,false),[]⟩,
 ⟨some 19,.ld (.t 18) 1 false,some (17,false),[]⟩,
 ⟨some 20,.addo (.t 2) 1,some (17,false),[]⟩,
 ⟨some 21,.ld (.t 20) 1 false,some (17,false),[]⟩,
 ⟨some 22,.bin .eql (.t 19) (.t 21),some (17,false),[]⟩,
 ⟨some 23,.pick (.t 17) (.c (.bool true)) (.t 22),none,[]⟩,
 ⟨some 24,.mv (.t 23),none,[]⟩,
 ⟨some 25,.addo (.t 2) 2,some (24,false),[]⟩,
 ⟨some 26,.ld (.t 25) 2 true,some (24,false),[]⟩,
 ⟨some 27,.bsl 2 29 [.t 26],some (24,false),[]⟩,
 ⟨some 28,.call 93 [.c (.int .i64 1),.c (.int .i64 1000000),.t 27],some (24,false),[]⟩,
 ⟨some 29,.un .not (.t 28),some (24,false),[]⟩,
 ⟨some 30,.pick (.t 24) (.c (.bool true)) (.t 29),none,[]⟩,
 ⟨some 31,.mv (.t 30),none,[]⟩,
 ⟨some 32,.addo (.t 2) 4,some (31,false),[]⟩,
 ⟨some 33,.ld (.t 32) 1 false,some (31,false),[]⟩,
 ⟨some 34,.len (.t 33),some (31,false),[]⟩,
 ⟨some 35,.bin .gtr (.t 34) (.c (.int .i64 6)),some (31,false),[]⟩,
 ⟨some 36,.pick (.t 31) (.c (.bool true)) (.t 35),none,[]⟩])
 (.cond (.t 36)
 (.seq (.reg [
  ⟨some 4,.mv (.c (.bool false)),none,[]⟩])
  .ret)
 .skip))
 (.seq (.reg [
 ⟨some 5,.mv (.c (.int .i64 0)),none,[]⟩])
 (.seq (.seq (.reg [
 ⟨some 37,.addo (.t 2) 4,none,[]⟩,
 ⟨some 38,.ld (.t 37) 1 false,none,[]⟩,
 ⟨some 39,.len (.t 38),none,[]⟩,
 ⟨some 40,.mv (.c (.int .i64 0)),none,[]⟩])
 (.block 0 (.loop (.seq (.reg [
  ⟨some 41,.bin .lss (.t 40) (.t 39),none,[]⟩])
  (.seq (.cond (.t 41)
  .skip
  (.exit 0))
  (.seq (.block 1 (.seq (.reg [
   ⟨some 42,.ixs (.t 38) (.t 40) 4,none,[]⟩,
   ⟨some 43,.ld (.t 42) 4 true,none,[]⟩,
   ⟨some 7,.alloc [.int .i64 0,.int .i64 0,.int .i64 0,.int .i64 0] 95,none,[]⟩,
   ⟨none,.st (.t 7) (.t 43) 4,none,[]⟩])
   (.seq (.seq (.reg [
   ⟨some 44,.addo (.t 7) 0,none,[]⟩,
   ⟨some 45,.ld (.t 44) 2 true,none,[]⟩,
   ⟨some 46,.addo (.t 7) 2,none,[]⟩,
   ⟨some 47,.ld (.t 46) 2 true,none,[]⟩,
   ⟨some 48,.bsl 2 29 [.t 45,.t 47],none,[]⟩,
   ⟨some 49,.call 93 [.c (.int .i64 0),.c (.int .i64 100000),.t 48],none,[]⟩,
   ⟨some 50,.un .not (.t 49),none,[]⟩,
   ⟨some 51,.mv (.t 50),none,[]⟩,
   ⟨some 52,.mv (.t 5),some (51,false),[]⟩,
   ⟨some 53,.addo (.t 7) 2,some (51,false),[]⟩,
   ⟨some 54,.addo (.t 53) 1,some (51,false),[]⟩,
   ⟨some 55,.ld (.t 54) 1 false,some (51,false),[]⟩,
   ⟨some 56,.addo (.t 7) 0,some (51,false),[]⟩,
   ⟨some 57,.addo (.t 56) 0,some (51,false),[]⟩,
   ⟨some 58,.ld (.t 57) 1 false,some (51,false),[]⟩,
   ⟨some 59,.bsl 1 3 [.t 58],some (51,false),[]⟩,
   ⟨some 60,.call 58 [.t 52,.t 55,.t 59],some (51,false),[]⟩,
   ⟨some 61,.un .not (.t 60),some (51,false),[]⟩,
   ⟨some 62,.pick (.t 51) (.c (.bool true)) (.t 61),none,[]⟩])
   (.cond (.t 62)
   (.seq (.reg [
    ⟨some 4,.mv (.c (.bool false)),none,[]⟩])
    .ret)
   .skip))
   (.reg [
   ⟨some 63,.addo (.t 7) 2,none,[]⟩,
   ⟨some 64,.addo (.t 63) 1,none,[]⟩,
   ⟨some 65,.ld (.t 64) 1 false,none,[]⟩,
   ⟨some 66,.bin .add (.t 65) (.c (.int .i64 1)),none,[]⟩,
   ⟨some 5,.mv (.t 66),none,[]⟩]))))
  (.reg [
  ⟨some 67,.bin .add (.t 40) (.c (.int .i64 1)),none,[]⟩,
  ⟨some 40,.mv (.t 67),none,[]⟩])))))))
 (.seq (.reg [
 ⟨some 4,.mv (.c (.bool true)),none,[]⟩])
 .ret)))))
def r76:List RV:=[.tmp 4]
theorem n76:Try.f76.ntmps = 68:=by kernel_rfl
theorem b76:bodyB Try.prog 76 = true:=by kernel_rfl
theorem c76_ok:cmpC Try.prog c76 ((Try.f76.body).getD .skip) = true:=by kernel_rfl
theorem r76_ok:cmpR Try.prog r76 Try.f76.results.toList = true:=by kernel_rfl
theorem t76 {args:List SV} {res:SV} (ka:KFL args) (kr:KF res) (h:sx Try.prog Y0 0 c76 (st0 args 68) (retK r76 res)) (hA:Nat.ble args.length 68 = true:=by rfl):Ct Try.prog 76 args res:=ct_intro Try.func76 rfl b76 c76_ok r76_ok n76 (Nat.le_of_ble_eq_true hA) ka kr h
def c90:SC:=(.seq (.reg [
 ⟨some 4,.mv (.c (.bool false)),none,[]⟩])
 (.seq (.reg [
 ⟨some 5,.mv (.t 0),none,[]⟩,
 ⟨some 6,.mv (.t 1),none,[]⟩,
 ⟨some 7,.call 101 [.t 5,.t 6],none,[]⟩,
 ⟨some 8,.bin .geq (.t 7) (.c (.int .i64 0)),none,[]⟩,
 ⟨some 4,.mv (.t 8),none,[]⟩])
 .ret))
def r90:List RV:=[.tmp 4]
theorem n90:Try.f90.ntmps = 9:=by kernel_rfl
theorem b90:bodyB Try.prog 90 = true:=by kernel_rfl
theorem c90_ok:cmpC Try.prog c90 ((Try.f90.body).getD .skip) = true:=by kernel_rfl
theorem r90_ok:cmpR Try.prog r90 Try.f90.results.toList = true:=by kernel_rfl
theorem t90 {args:List SV} {res:SV} (ka:KFL args) (kr:KF res) (h:sx Try.prog Y0 0 c90 (st0 args 9) (retK r90 res)) (hA:Nat.ble args.length 9 = true:=by rfl):Ct Try.prog 90 args res:=ct_intro Try.func90 rfl b90 c90_ok r90_ok n90 (Nat.le_of_ble_eq_true hA) ka kr h
def c91:SC:=(.seq (.reg [
 ⟨some 4,.mv (.c (.bool false)),none,[]⟩])
 (.seq (.reg [
 ⟨some 5,.mv (.t 0),none,[]⟩,
 ⟨some 6,.ld (.t 1) 1 false,none,[]⟩,
 ⟨some 7,.bin .lss (.t 5) (.t 6),none,[]⟩,
 ⟨some 8,.mv (.t 7),none,[]⟩,
 ⟨some 9,.mv (.t 0),some (8,false),[]⟩,
 ⟨some 10,.ld (.t 2) 1 false,some (8,false),[]⟩,
 ⟨some 11,.bin .gtr (.t 9) (.t 10),some (8,false),[]⟩,
 ⟨some 12,.pick (.t 8) (.c (.bool true)) (.t 11),none,[]⟩,
 ⟨some 4,.mv (.t 12),none,[]⟩])
 .ret))
def r91:List RV:=[.tmp 4]
theorem n91:Try.f91.ntmps = 13:=by kernel_rfl
theorem b91:bodyB Try.prog 91 = true:=by kernel_rfl
theorem c91_ok:cmpC Try.prog c91 ((Try.f91.body).getD .skip) = true:=by kernel_rfl
theorem r91_ok:cmpR Try.prog r91 Try.f91.results.toList = true:=by kernel_rfl
theorem t91 {args:List SV} {res:SV} (ka:KFL args) (kr:KF res) (h:sx Try.prog Y0 0 c91 (st0 args 13) (retK r91 res)) (hA:Nat.ble args.length 13 = true:=by rfl):Ct Try.prog 91 args res:=ct_intro Try.func91 rfl b91 c91_ok r91_ok n91 (Nat.le_of_ble_eq_true hA) ka kr h
def c92:SC:=(.seq (.reg [
 ⟨some 3,.box (.t 0) 0 29,none,[]⟩,
 ⟨some 6,.mv (.c (.bool false)),none,[]⟩])
 (.seq (.reg [
 ⟨some 7,.addo (.t 3) 0,none,[]⟩,
 ⟨some 8,.ld (.t 7) 1 false,none,[]⟩,
 ⟨some 9,.mv (.t 1),none,[]⟩,
 ⟨some 10,.addo (.t 3) 1,none,[]⟩,
 ⟨some 11,.ld (.t 10) 1 false,none,[]⟩,
 ⟨some 12,.call 61 [.t 8,.t 9,.t 11],none,[]⟩,
 ⟨some 13,.mv (.t 12),none,[]⟩,
 ⟨some 14,.addo (.t 3) 1,some (13,true),[]⟩,
 ⟨some 15,.ld (.t 14) 1 false,some (13,true),[]⟩,
 ⟨some 16,.mv (.t 2),some (13,true),[]⟩,
 ⟨some 17,.bin .leq (.t 15) (.t 16),some (13,true),[]⟩,
 ⟨some 18,.pick (.t 13) (.t 17) (.c (.bool false)),none,[]⟩,
 ⟨some 6,.mv (.t 18),none,[]⟩])
 .ret))
def r92:List RV:=[.tmp 6]
theorem n92:Try.f92.ntmps = 19:=by kernel_rfl
theorem b92:bodyB Try.prog 92 = true:=by kernel_rfl
theorem c92_ok:cmpC Try.prog c92 ((Try.f92.body).getD .skip) = true:=by kernel_rfl
theorem r92_ok:cmpR Try.prog r92 Try.f92.results.toList = true:=by kernel_rfl
theorem t92 {args:List SV} {res:SV} (ka:KFL args) (kr:KF res) (h:sx Try.prog Y0 0 c92 (st0 args 19) (retK r92 res)) (hA:Nat.ble args.length 19 = true:=by rfl):Ct Try.prog 92 args res:=ct_intro Try.func92 rfl b92 c92_ok r92_ok n92 (Nat.le_of_ble_eq_true hA) ka kr h
def c93:SC:=(.seq (.reg [
 ⟨some 3,.box (.t 0) 0 3,none,[]⟩,
 ⟨some 4,.box (.t 1) 0 3,none,[]⟩,
 ⟨some 6,.mv (.c (.bool false)),none,[]⟩])
 (.seq (.reg [
 ⟨some 7,.mv (.t 2),none,[]⟩,
 ⟨some 8,.mkf 103 [.t 3,.t 4],none,[]⟩,
 ⟨some 9,.call 102 [.t 7,.t 8],none,[]⟩,
 ⟨some 10,.un .not (.t 9),none,[]⟩,
 ⟨some 6,.mv (.t 10),none,[]⟩])
 .ret))
def r93:List RV:=[.tmp 6]
theorem n93:Try.f93.ntmps = 11:=by kernel_rfl
theorem b93:bodyB Try.prog 93 = true:=by kernel_rfl
theorem c93_ok:cmpC Try.prog c93 ((Try.f93.body).getD .skip) = true:=by kernel_rfl
theorem r93_ok:cmpR Try.prog r93 Try.f93.results.toList = true:=by kernel_rfl
theorem t93 {args:List SV} {res:SV} (ka:KFL args) (kr:KF res) (h:sx Try.prog Y0 0 c93 (st0 args 11) (retK r93 res)) (hA:Nat.ble args.length 11 = true:=by rfl):Ct Try.prog 93 args res:=ct_intro Try.func93 rfl b93 c93_ok r93_ok n93 (Nat.le_of_ble_eq_true hA) ka kr h
def c95:SC:=(.seq (.reg [
 ⟨some 4,.mv (.c (.int .i64 0)),none,[]⟩])
 (.seq (.seq (.reg [
 ⟨some 6,.mv (.t 0),none,[]⟩,
 ⟨some 7,.len (.t 6),none,[]⟩,
 ⟨some 8,.mv (.c (.int .i64 0)),none,[]⟩])
 (.block 0 (.loop (.seq (.reg [
  ⟨some 9,.bin .lss (.t 8) (.t 7),none,[]⟩])
  (.seq (.cond (.t 9)
  .skip
  (.exit 0))
  (.seq (.block 1 (.seq (.reg [
   ⟨some 10,.mv (.t 8),none,[]⟩,
   ⟨some 5,.mv (.t 10),none,[]⟩])
   (.seq (.reg [
   ⟨some 11,.mv (.t 1),none,[]⟩,
   ⟨some 12,.mv (.t 0),none,[]⟩,
   ⟨some 13,.mv (.t 5),none,[]⟩,
   ⟨some 14,.ixs (.t 12) (.t 13) 9,none,[]⟩,
   ⟨some 15,.ld (.t 14) 9 true,none,[]⟩,
   ⟨some 16,.calv (.t 11) [.t 15],none,[]⟩])
   (.cond (.t 16)
   (.seq (.reg [
    ⟨some 17,.mv (.t 5),none,[]⟩,
    ⟨some 4,.mv (.t 17),none,[]⟩])
    .ret)
   .skip))))
  (.reg [
  ⟨some 18,.bin .add (.t 8) (.c (.int .i64 1)),none,[]⟩,
  ⟨some 8,.mv (.t 18),none,[]⟩])))))))
 (.seq (.reg [
 ⟨some 4,.mv (.c (.int .i64 (-1))),none,[]⟩])
 .ret)))
def r95:List RV:=[.tmp 4]
theorem n95:Try.f95.ntmps = 19:=by kernel_rfl
theorem b95:bodyB Try.prog 95 = true:=by kernel_rfl
theorem c95_ok:cmpC Try.prog c95 ((Try.f95.body).getD .skip) = true:=by kernel_rfl
theorem r95_ok:cmpR Try.prog r95 Try.f95.results.toList = true:=by kernel_rfl
theorem t95 {args:List SV} {res:SV} (ka:KFL args) (kr:KF res) (h:sx Try.prog Y0 0 c95 (st0 args 19) (retK r95 res)) (hA:Nat.ble args.length 19 = true:=by rfl):Ct Try.prog 95 args res:=ct_intro Try.func95 rfl b95 c95_ok r95_ok n95 (Nat.le_of_ble_eq_true hA) ka kr h
def c96:SC:=(.seq (.reg [
 ⟨some 4,.mv (.c (.int .i64 0)),none,[]⟩])
 (.seq (.seq (.reg [
 ⟨some 6,.mv (.t 0),none,[]⟩,
 ⟨some 7,.len (.t 6),none,[]⟩,
 ⟨some 8,.mv (.c (.int .i64 0)),none,[]⟩])
 (.block 0 (.loop (.seq (.reg [
  ⟨some 9,.bin .lss (.t 8) (.t 7),none,[]⟩])
  (.seq (.cond (.t 9)
  .skip
  (.exit 0))
  (.seq (.block 1 (.seq (.reg [
   ⟨some 10,.mv (.t 8),none,[]⟩,
   ⟨some 5,.mv (.t 10),none,[]⟩])
   (.seq (.reg [
   ⟨some 11,.mv (.t 1),none,[]⟩,
   ⟨some 12,.mv (.t 0),none,[]⟩,
   ⟨some 13,.mv (.t 5),none,[]⟩,
   ⟨some 14,.ixs (.t 12) (.t 13) 5,none,[]⟩,
   ⟨some 15,.ld (.t 14) 5 true,none,[]⟩,
   ⟨some 16,.calv (.t 11) [.t 15],none,[]⟩])
   (.cond (.t 16)
   (.seq (.reg [
    ⟨some 17,.mv (.t 5),none,[]⟩,
    ⟨some 4,.mv (.t 17),none,[]⟩])
    .ret)
   .skip))))
  (.reg [
  ⟨some 18,.bin .add (.t 8) (.c (.int .i64 1)),none,[]⟩,
  ⟨some 8,.mv (.t 18),none,[]⟩])))))))
 (.seq (.reg [
 ⟨some 4,.mv (.c (.int .i64 (-1))),none,[]⟩])
 .ret)))
def r96:List RV:=[.tmp 4]
theorem n96:Try.f96.ntmps = 19:=by kernel_rfl
theorem b96:bodyB Try.prog 96 = true:=by kernel_rfl
theorem c96_ok:cmpC Try.prog c96 ((Try.f96.body).getD .skip) = true:=by kernel_rfl
theorem r96_ok:cmpR Try.prog r96 Try.f96.results.toList = true:=by kernel_rfl
theorem t96 {args:List SV} {res:SV} (ka:KFL args) (kr:KF res) (h:sx Try.prog Y0 0 c96 (st0 args 19) (retK r96 res)) (hA:Nat.ble args.length 19 = true:=by rfl):Ct Try.prog 96 args res:=ct_intro Try.func96 rfl b96 c96_ok r96_ok n96 (Nat.le_of_ble_eq_true hA) ka kr h
def c101:SC:=(.seq (.reg [
 ⟨some 4,.mv (.c (.int .i64 0)),none,[]⟩])
 (.seq (.seq (.reg [
 ⟨some 6,.mv (.t 0),none,[]⟩,
 ⟨some 7,.len (.t 6),none,[]⟩,
 ⟨some 8,.mv (.c (.int .i64 0)),none,[]⟩])
 (.block 0 (.loop (.seq (.reg [
  ⟨some 9,.bin .lss (.t 8) (.t 7),none,[]⟩])
  (.seq (.cond (.t 9)
  .skip
  (.exit 0))
  (.seq (.block 1 (.seq (.reg [
   ⟨some 10,.mv (.t 8),none,[]⟩,
   ⟨some 5,.mv (.t 10),none,[]⟩])
   (.seq (.reg [
   ⟨some 11,.mv (.t 1),none,[]⟩,
   ⟨some 12,.mv (.t 0),none,[]⟩,
   ⟨some 13,.mv (.t 5),none,[]⟩,
   ⟨some 14,.ixs (.t 12) (.t 13) 1,none,[]⟩,
   ⟨some 15,.ld (.t 14) 1 false,none,[]⟩,
   ⟨some 16,.calv (.t 11) [.t 15],none,[]⟩])
   (.cond (.t 16)
   (.seq (.reg [
    ⟨some 17,.mv (.t 5),none,[]⟩,
    ⟨some 4,.mv (.t 17),none,[]⟩])
    .ret)
   .skip))))
  (.reg [
  ⟨some 18,.bin .add (.t 8) (.c (.int .i64 1)),none,[]⟩,
  ⟨some 8,.mv (.t 18),none,[]⟩])))))))
 (.seq (.reg [
 ⟨some 4,.mv (.c (.int .i64 (-1))),none,[]⟩])
 .ret)))
def r101:List RV:=[.tmp 4]
theorem n101:Try.f101.ntmps = 19:=by kernel_rfl
theorem b101:bodyB Try.prog 101 = true:=by kernel_rfl
theorem c101_ok:cmpC Try.prog c101 ((Try.f101.body).getD .skip) = true:=by kernel_rfl
theorem r101_ok:cmpR Try.prog r101 Try.f101.results.toList = true:=by kernel_rfl
theorem t101 {args:List SV} {res:SV} (ka:KFL args) (kr:KF res) (h:sx Try.prog Y0 0 c101 (st0 args 19) (retK r101 res)) (hA:Nat.ble args.length 19 = true:=by rfl):Ct Try.prog 101 args res:=ct_intro Try.func101 rfl b101 c101_ok r101_ok n101 (Nat.le_of_ble_eq_true hA) ka kr h
def c102:SC:=(.seq (.reg [
 ⟨some 4,.mv (.c (.bool false)),none,[]⟩])
 (.seq (.reg [
 ⟨some 5,.mv (.t 0),none,[]⟩,
 ⟨some 6,.mv (.t 1),none,[]⟩,
 ⟨some 7,.call 107 [.t 5,.t 6],none,[]⟩,
 ⟨some 8,.bin .geq (.t 7) (.c (.int .i64 0)),none,[]⟩,
 ⟨some 4,.mv (.t 8),none,[]⟩])
 .ret))
def r102:List RV:=[.tmp 4]
theorem n102:Try.f102.ntmps = 9:=by kernel_rfl
theorem b102:bodyB Try.prog 102 = true:=by kernel_rfl
theorem c102_ok:cmpC Try.prog c102 ((Try.f102.body).getD .skip) = true:=by kernel_rfl
theorem r102_ok:cmpR Try.prog r102 Try.f102.results.toList = true:=by kernel_rfl
theorem t102 {args:List SV} {res:SV} (ka:KFL args) (kr:KF res) (h:sx Try.prog Y0 0 c102 (st0 args 9) (retK r102 res)) (hA:Nat.ble args.length 9 = true:=by rfl):Ct Try.prog 102 args res:=ct_intro Try.func102 rfl b102 c102_ok r102_ok n102 (Nat.le_of_ble_eq_true hA) ka kr h
def c103:SC:=(.seq (.reg [
 ⟨some 3,.box (.t 0) 0 29,none,[]⟩,
 ⟨some 4,.mv (.c (.bool false)),none,[]⟩])
 (.seq (.reg [
 ⟨some 5,.addo (.t 3) 0,none,[]⟩,
 ⟨some 6,.ld (.t 5) 1 false,none,[]⟩,
 ⟨some 7,.addo (.t 3) 1,none,[]⟩,
 ⟨some 8,.ld (.t 7) 1 false,none,[]⟩,
 ⟨some 9,.bin .gtr (.t 6) (.t 8),none,[]⟩,
 ⟨some 10,.mv (.t 9),none,[]⟩,
 ⟨some 11,.ld (.t 1) 1 false,some (10,false),[]⟩,
 ⟨some 12,.ld (.t 2) 1 false,some (10,false),[]⟩,
 ⟨some 13,.addo (.t 3) 0,some (10,false),[]⟩,
 ⟨some 14,.ld (.t 13) 1 false,some (10,false),[]⟩,
 ⟨some 15,.addo (.t 3) 1,some (10,false),[]⟩,
 ⟨some 16,.ld (.t 15) 1 false,some (10,false),[]⟩,
 ⟨some 17,.bsl 1 3 [.t 14,.t 16],some (10,false),[]⟩,
 ⟨some 18,.call 58 [.t 11,.t 12,.t 17],some (10,false),[]⟩,
 ⟨some 19,.un .not (.t 18),some (10,false),[]⟩,
 ⟨some 20,.pick (.t 10) (.c (.bool true)) (.t 19),none,[]⟩,
 ⟨some 4,.mv (.t 20),none,[]⟩])
 .ret))
def r103:List RV:=[.tmp 4]
theorem n103:Try.f103.ntmps = 21:=by kernel_rfl
theorem b103:bodyB Try.prog 103 = true:=by kernel_rfl
theorem c103_ok:cmpC Try.prog c103 ((Try.f103.body).getD .skip) = true:=by kernel_rfl
theorem r103_ok:cmpR Try.prog r103 Try.f103.results.toList = true:=by kernel_rfl
theorem t103 {args:List SV} {res:SV} (ka:KFL args) (kr:KF res) (h:sx Try.prog Y0 0 c103 (st0 args 21) (retK r103 res)) (hA:Nat.ble args.length 21 = true:=by rfl):Ct Try.prog 103 args res:=ct_intro Try.func103 rfl b103 c103_ok r103_ok n103 (Nat.le_of_ble_eq_true hA) ka kr h
def c107:SC:=(.seq (.reg [
 ⟨some 4,.mv (.c (.int .i64 0)),none,[]⟩])
 (.seq (.seq (.reg [
 ⟨some 6,.mv (.t 0),none,[]⟩,
 ⟨some 7,.len (.t 6),none,[]⟩,
 ⟨some 8,.mv (.c (.int .i64 0)),none,[]⟩])
 (.block 0 (.loop (.seq (.reg [
  ⟨some 9,.bin .lss (.t 8) (.t 7),none,[]⟩])
  (.seq (.cond (.t 9)
  .skip
  (.exit 0))
  (.seq (.block 1 (.seq (.reg [
   ⟨some 10,.mv (.t 8),none,[]⟩,
   ⟨some 5,.mv (.t 10),none,[]⟩])
   (.seq (.reg [
   ⟨some 11,.mv (.t 1),none,[]⟩,
   ⟨some 12,.mv (.t 0),none,[]⟩,
   ⟨some 13,.mv (.t 5),none,[]⟩,
   ⟨some 14,.ixs (.t 12) (.t 13) 2,none,[]⟩,
   ⟨some 15,.ld (.t 14) 2 true,none,[]⟩,
   ⟨some 16,.calv (.t 11) [.t 15],none,[]⟩])
   (.cond (.t 16)
   (.seq (.reg [
    ⟨some 17,.mv (.t 5),none,[]⟩,
    ⟨some 4,.mv (.t 17),none,[]⟩])
    .ret)
   .skip))))
  (.reg [
  ⟨some 18,.bin .add (.t 8) (.c (.int .i64 1)),none,[]⟩,
  ⟨some 8,.mv (.t 18),none,[]⟩])))))))
 (.seq (.reg [
 ⟨some 4,.mv (.c (.int .i64 (-1))),none,[]⟩])
 .ret)))
def r107:List RV:=[.tmp 4]
theorem n107:Try.f107.ntmps = 19:=by kernel_rfl
theorem b107:bodyB Try.prog 107 = true:=by kernel_rfl
theorem c107_ok:cmpC Try.prog c107 ((Try.f107.body).getD .skip) = true:=by kernel_rfl
theorem r107_ok:cmpR Try.prog r107 Try.f107.results.toList = true:=by kernel_rfl
theorem t107 {args:List SV} {res:SV} (ka:KFL args) (kr:KF res) (h:sx Try.prog Y0 0 c107 (st0 args 19) (retK r107 res)) (hA:Nat.ble args.length 19 = true:=by rfl):Ct Try.prog 107 args res:=ct_intro Try.func107 rfl b107 c107_ok r107_ok n107 (Nat.le_of_ble_eq_true hA) ka kr h
def c4:SC:=(.seq (.reg [
 ⟨some 4,.box (.t 0) 0 25,none,[]⟩,
 ⟨some 7,.box (.t 3) 0 29,none,[]⟩,
 ⟨some 8,.mv (.c (.bool false)),none,[]⟩])
 (.seq (.seq (.reg [
 ⟨some 18,.ld (.t 4) 2 true,none,[]⟩,
 ⟨some 19,.call 16 [.t 18],none,[]⟩])
 (.cond (.t 19)
 (.seq (.reg [
  ⟨some 8,.mv (.c (.bool true)),none,[]⟩])
  .ret)
 .skip))
 (.seq (.reg [
 ⟨some 20,.ld (.t 4) 2 true,none,[]⟩,
 ⟨some 21,.call 21 [.t 20],none,[]⟩,
 ⟨some 9,.alloc [.slice none 0 0,.slice none 0 0] 25,none,[]⟩,
 ⟨none,.st (.t 9) (.t 21) 2,none,[]⟩])
 (.seq (.reg [
 ⟨some 23,.ld (.t 9) 2 true,none,[]⟩,
 ⟨some 24,.mv (.t 1),none,[]⟩,
 ⟨some 25,.ld (.t 7) 2 true,none,[]⟩,
 ⟨some 26,.call 22 [.t 23,.t 24,.t 25],none,[]⟩,
 ⟨some 22,.mv (.t 26),none,[]⟩,
 ⟨some 27,.ext (.t 22) 0,none,[]⟩,
 ⟨some 28,.ext (.t 22) 1,none,[]⟩,
 ⟨some 10,.alloc [.int .i64 0,.int .i64 0] 29,none,[]⟩,
 ⟨none,.st (.t 10) (.t 27) 2,none,[]⟩,
 ⟨some 11,.mv (.t 28),none,[]⟩])
 (.seq (.reg [
 ⟨some 30,.ld (.t 4) 2 true,none,[]⟩,
 ⟨some 31,.mv (.t 1),none,[]⟩,
 ⟨some 32,.ld (.t 7) 2 true,none,[]⟩,
 ⟨some 33,.call 23 [.t 30,.t 31,.t 32],none,[]⟩,
 ⟨some 29,.mv (.t 33),none,[]⟩,
 ⟨some 34,.ext (.t 29) 0,none,[]⟩,
 ⟨some 35,.ext (.t 29) 1,none,[]⟩,
 ⟨some 12,.alloc [.int .i64 0,.int .i64 0] 29,none,[]⟩,
 ⟨none,.st (.t 12) (.t 34) 2,none,[]⟩,
 ⟨some 13,.mv (.t 35),none,[]⟩])
 (.seq (.reg [
 ⟨some 37,.ld (.t 9) 2 true,none,[]⟩,
 ⟨some 38,.mv (.t 1),none,[]⟩,
 ⟨some 39,.mv (.t 2),none,[]⟩,
 ⟨some 40,.ld (.t 7) 2 true,none,[]⟩,
 ⟨some 41,.call 24 [.t 37,.t 38,.t 39,.t 40],none,[]⟩,
 ⟨some 36,.mv (.t 41),none,[]⟩,
 ⟨some 42,.ext (.t 36) 0,none,[]⟩,
 ⟨some 43,.ext (.t 36) 1,none,[]⟩,
 ⟨some 14,.alloc [.int .i64 0,.int .i64 0] 29,none,[]⟩,
 ⟨none,.st (.t 14) (.t 42) 2,none,[]⟩,
 ⟨some 15,.mv (.t 43),none,[]⟩])
 (.seq (.reg [
 ⟨some 45,.ld (.t 4) 2 true,none,[]⟩,
 ⟨some 46,.mv (.t 1),none,[]⟩,
 ⟨some 47,.mv (.t 2),none,[]⟩,
 ⟨some 48,.ld (.t 7) 2 true,none,[]⟩,
 ⟨some 49,.call 25 [.t 45,.t 46,.t 47,.t 48],none,[]⟩,
 ⟨some 44,.mv (.t 49),none,[]⟩,
 ⟨some 50,.ext (.t 44) 0,none,[]⟩,
 ⟨some 51,.ext (.t 44) 1,none,[]⟩,
 ⟨some 16,.alloc [.int .i64 0,.int .i64 0] 29,none,[]⟩,
 ⟨none,.st (.t 16) (.t 50) 2,none,[]⟩,
 ⟨some 17,.mv (.t 51),none,[]⟩])
 (.seq (.regd [0,1,2,3,4,5,6,7,8,9,10,11,12,13,14,15,16,17,18,19,20,21,22,23,24,25,26,27,28,29,30] [
 .op ⟨some 52,.ld (.t 9) 2 true,none,[]⟩,
 .op ⟨some 53,.call 26 [.t 52],none,[0]⟩,
 .op ⟨some 54,.ld (.t 4) 2 true,none,[]⟩,
 .op ⟨some 55,.call 27 [.t 54],none,[1,2]⟩,
 .op ⟨some 56,.bin .eql (.t 53) (.t 55),none,[1,3]⟩,
 .op ⟨some 57,.mv (.t 56),none,[3,4]⟩,
 .op ⟨some 58,.ld (.t 10) 2 true,some (57,true),[5]⟩,
 .op ⟨some 59,.ld (.t 12) 2 true,some (57,true),[5]⟩,
 .op ⟨some 60,.eqs false true [1,1] (.t 58) (.t 59),some (57,true),[5,6,7]⟩,
 .op ⟨some 61,.pick (.t 57) (.t 60) (.c (.bool false)),none,[5,8]⟩,
 .op ⟨some 62,.mv (.t 61),none,[5,9]⟩,
 .op ⟨some 63,.mv (.t 11),some (62,true),[10]⟩,
 .op ⟨some 64,.mv (.t 13),some (62,true),[10]⟩,
 .op ⟨some 65,.bin .eql (.t 63) (.t 64),some (62,true),[10,11,12]⟩,
 .op ⟨some 66,.pick (.t 62) (.t 65) (.c (.bool false)),none,[10,13]⟩,
 .op ⟨some 67,.mv (.t 66),none,[10,14]⟩,
 .op ⟨some 68,.ld (.t 14) 2 true,some (67,true),[15]⟩,
 .op ⟨some 69,.ld (.t 16) 2 true,some (67,true),[15]⟩,
 .op ⟨some 70,.eqs false true [1,1] (.t 68) (.t 69),some (67,true),[15,16,17]⟩,
 .op ⟨some 71,.pick (.t 67) (.t 70) (.c (.bool false)),none,[15,18]⟩,
 .op ⟨some 72,.mv (.t 71),none,[15,19]⟩,
 .op ⟨some 73,.mv (.t 15),some (72,true),[20]⟩,
 .op ⟨some 74,.mv (.t 17),some (72,true),[20]⟩,
 .op ⟨some 75,.bin .eql (.t 73) (.t 74),some (72,true),[20,21,22]⟩,
 .op ⟨some 76,.pick (.t 72) (.t 75) (.c (.bool false)),none,[20,23]⟩,
 .op ⟨some 77,.mv (.t 76),none,[20,24]⟩,
 .op ⟨some 78,.ld (.t 9) 2 true,some (77,true),[25]⟩,
 .op ⟨some 79,.ld (.t 4) 2 true,some (77,true),[25]⟩,
 .op ⟨some 80,.call 28 [.t 78,.t 79],some (77,true),[25,26,27]⟩,
 .op ⟨some 81,.pick (.t 77) (.t 80) (.c (.bool false)),none,[25,28]⟩,
 .op ⟨some 8,.mv (.t 81),none,[0,1,2,3,4,5,6,7,8,9,10,11,12,13,14,15,16,17,18,19,20,21,22,23,24,25,26,27,28,29]⟩] 0 0 [
])
 .ret))))))))
def r4:List RV:=[.tmp 8]
theorem n4:Try.f4.ntmps = 82:=by kernel_rfl
theorem b4:bodyB Try.prog 4 = true:=by kernel_rfl
theorem c4_ok:cmpC Try.prog c4 ((Try.f4.body).getD .skip) = true:=by kernel_rfl
theorem r4_ok:cmpR Try.prog r4 Try.f4.results.toList = true:=by kernel_rfl
theorem t4 {args:List SV} {res:SV} (ka:KFL args) (kr:KF res) (h:sx Try.prog Y0 0 c4 (st0 args 82) (retK r4 res)) (hA:Nat.ble args.length 82 = true:=by rfl):Ct Try.prog 4 args res:=ct_intro Try.func4 rfl b4 c4_ok r4_ok n4 (Nat.le_of_ble_eq_true hA) ka kr h
def c22:SC:=(.seq (.reg [
 ⟨some 3,.box (.t 0) 0 25,none,[]⟩,
 ⟨some 5,.box (.t 2) 0 29,none,[]⟩,
 ⟨some 6,.alloc [.int .i64 0,.int .i64 0] 29,none,[]⟩,
 ⟨some 7,.mv (.c (.int .i64 0)),none,[]⟩])
 (.seq (.reg [
 ⟨some 11,.ld (.t 3) 2 true,none,[]⟩,
 ⟨some 12,.ld (.t 5) 2 true,none,[]⟩,
 ⟨some 13,.call 63 [.t 11,.t 12],none,[]⟩,
 ⟨some 10,.mv (.t 13),none,[]⟩,
 ⟨some 14,.ext (.t 10) 0,none,[]⟩,
 ⟨some 15,.ext (.t 10) 1,none,[]⟩,
 ⟨some 8,.alloc [.slice none 0 0,.slice none 0 0,.int .i64 0,.int .i64 0] 119,none,[]⟩,
 ⟨none,.st (.t 8) (.t 14) 4,none,[]⟩,
 ⟨some 9,.mv (.t 15),none,[]⟩])
 (.seq (.block 0 (.seq (.reg [
  ⟨some 17,.mv (.t 9),none,[]⟩,
  ⟨some 18,.bin .neq (.t 17) (.c (.int .i64 0)),none,[]⟩,
  ⟨some 16,.mv (.t 18),none,[]⟩])
  (.cond (.t 16)
  (.seq (.reg [
   ⟨some 19,.build [.int .i64 0,.int .i64 0] [],none,[]⟩,
   ⟨some 20,.mv (.t 9),none,[]⟩,
   ⟨none,.st (.t 6) (.t 19) 2,none,[]⟩,
   ⟨some 7,.mv (.t 20),none,[]⟩])
   .ret)
  (.seq (.reg [
   ⟨some 22,.addo (.t 3) 1,none,[]⟩,
   ⟨some 23,.ld (.t 22) 1 false,none,[]⟩,
   ⟨some 24,.len (.t 23),none,[]⟩,
   ⟨some 25,.bin .sub (.t 24) (.c (.int .i64 1)),none,[]⟩,
   ⟨some 26,.mv (.t 1),none,[]⟩,
   ⟨some 27,.bsl 1 3 [.t 26],none,[]⟩,
   ⟨some 28,.call 58 [.c (.int .i64 0),.t 25,.t 27],none,[]⟩,
   ⟨some 29,.un .not (.t 28),none,[]⟩,
   ⟨some 21,.mv (.t 29),none,[]⟩])
   (.cond (.t 21)
   (.seq (.reg [
    ⟨some 30,.build [.int .i64 0,.int .i64 0] [],none,[]⟩,
    ⟨none,.st (.t 6) (.t 30) 2,none,[]⟩,
    ⟨some 7,.mv (.c (.int .i64 2)),none,[]⟩])
    .ret)
   .skip)))))
 (.seq (.reg [
 ⟨some 31,.ld (.t 8) 4 true,none,[]⟩,
 ⟨some 32,.mv (.t 1),none,[]⟩,
 ⟨some 33,.call 64 [.t 31,.t 32],none,[]⟩,
 ⟨some 34,.call 65 [.t 33],none,[]⟩,
 ⟨none,.st (.t 6) (.t 34) 2,none,[]⟩,
 ⟨some 7,.mv (.c (.int .i64 0)),none,[]⟩])
 .ret))))
def r22:List RV:=[.cell 6 2 true,.tmp 7]
theorem n22:Try.f22.ntmps = 35:=by kernel_rfl
theorem b22:bodyB Try.prog 22 = true:=by kernel_rfl
theorem c22_ok:cmpC Try.prog c22 ((Try.f22.body).getD .skip) = true:=by kernel_rfl
theorem r22_ok:cmpR Try.prog r22 Try.f22.results.toList = true:=by kernel_rfl
theorem t22 {args:List SV} {res:SV} (ka:KFL args) (kr:KF res) (h:sx Try.prog Y0 0 c22 (st0 args 35) (retK r22 res)) (hA:Nat.ble args.length 35 = true:=by rfl):Ct Try.prog 22 args res:=ct_intro Try.func22 rfl b22 c22_ok r22_ok n22 (Nat.le_of_ble_eq_true hA) ka kr h
def c24:SC:=(.seq (.reg [
 ⟨some 4,.box (.t 0) 0 25,none,[]⟩,
 ⟨some 7,.box (.t 3) 0 29,none,[]⟩,
 ⟨some 8,.alloc [.int .i64 0,.int .i64 0] 29,none,[]⟩,
 ⟨some 9,.mv (.c (.int .i64 0)),none,[]⟩])
 (.seq (.reg [
 ⟨some 13,.ld (.t 4) 2 true,none,[]⟩,
 ⟨some 14,.ld (.t 7) 2 true,none,[]⟩,
 ⟨some 15,.call 63 [.t 13,.t 14],none,[]⟩,
 ⟨some 12,.mv (.t 15),none,[]⟩,
 ⟨some 16,.ext (.t 12) 0,none,[]⟩,
 ⟨some 17,.ext (.t 12) 1,none,[]⟩,
 ⟨some 10,.alloc [.slice none 0 0,.slice none 0 0,.int .i64 0,.int .i64 0] 119,none,[]⟩,
 ⟨none,.st (.t 10) (.t 16) 4,none,[]⟩,
 ⟨some 11,.mv (.t 17),none,[]⟩])
 (.seq (.block 0 (.seq (.reg [
  ⟨some 19,.mv (.t 11),none,[]⟩,
  ⟨some 20,.bin .neq (.t 19) (.c (.int .i64 0)),none,[]⟩,
  ⟨some 18,.mv (.t 20),none,[]⟩])
  (.cond (.t 18)
  (.seq (.reg [
   ⟨some 21,.build [.int .i64 0,.int .i64 0] [],none,[]⟩,
   ⟨some 22,.mv (.t 11),none,[]⟩,
   ⟨none,.st (.t 8) (.t 21) 2,none,[]⟩,
   ⟨some 9,.mv (.t 22),none,[]⟩])
   .ret)
  (.seq (.reg [
   ⟨some 24,.addo (.t 4) 1,none,[]⟩,
   ⟨some 25,.ld (.t 24) 1 false,none,[]⟩,
   ⟨some 26,.len (.t 25),none,[]⟩,
   ⟨some 27,.bin .sub (.t 26) (.c (.int .i64 1)),none,[]⟩,
   ⟨some 28,.mv (.t 1),none,[]⟩,
   ⟨some 29,.bsl 1 3 [.t 28],none,[]⟩,
   ⟨some 30,.call 58 [.c (.int .i64 0),.t 27,.t 29],none,[]⟩,
   ⟨some 31,.un .not (.t 30),none,[]⟩,
   ⟨some 32,.mv (.t 31),none,[]⟩,
   ⟨some 33,.mv (.t 2),some (32,false),[]⟩,
   ⟨some 34,.bsl 1 3 [.t 33],some (32,false),[]⟩,
   ⟨some 35,.call 58 [.c (.int .i64 0),.c (.int .i64 100000),.t 34],some (32,false),[]⟩,
   ⟨some 36,.un .not (.t 35),some (32,false),[]⟩,
   ⟨some 37,.pick (.t 32) (.c (.bool true)) (.t 36),none,[]⟩,
   ⟨some 23,.mv (.t 37),none,[]⟩])
   (.cond (.t 23)
   (.seq (.reg [
    ⟨some 38,.build [.int .i64 0,.int .i64 0] [],none,[]⟩,
    ⟨none,.st (.t 8) (.t 38) 2,none,[]⟩,
    ⟨some 9,.mv (.c (.int .i64 2)),none,[]⟩])
    .ret)
   .skip)))))
 (.seq (.reg [
 ⟨some 39,.ld (.t 10) 4 true,none,[]⟩,
 ⟨some 40,.mv (.t 1),none,[]⟩,
 ⟨some 41,.mv (.t 2),none,[]⟩,
 ⟨some 42,.mv (.t 2),none,[]⟩,
 ⟨some 43,.build [.int .i64 0,.int .i64 0] [(0,1,.t 41),(1,1,.t 42)],none,[]⟩,
 ⟨some 44,.call 68 [.t 39,.t 40,.t 43],none,[]⟩,
 ⟨some 45,.call 65 [.t 44],none,[]⟩,
 ⟨none,.st (.t 8) (.t 45) 2,none,[]⟩,
 ⟨some 9,.mv (.c (.int .i64 0)),none,[]⟩])
 .ret))))
def r24:List RV:=[.cell 8 2 true,.tmp 9]
theorem n24:Try.f24.ntmps = 46:=by kernel_rfl
theorem b24:bodyB Try.prog 24 = true:=by kernel_rfl
theorem c24_ok:cmpC Try.prog c24 ((Try.f24.body).getD .skip) = true:=by kernel_rfl
theorem r24_ok:cmpR Try.prog r24 Try.f24.results.toList = true:=by kernel_rfl
theorem t24 {args:List SV} {res:SV} (ka:KFL args) (kr:KF res) (h:sx Try.prog Y0 0 c24 (st0 args 46) (retK r24 res)) (hA:Nat.ble args.length 46 = true:=by rfl):Ct Try.prog 24 args res:=ct_intro Try.func24 rfl b24 c24_ok r24_ok n24 (Nat.le_of_ble_eq_true hA) ka kr h
def c27:SC:=(.seq (.reg [
 ⟨some 1,.box (.t 0) 0 25,none,[]⟩,
 ⟨some 2,.mv (.c (.int .i64 0)),none,[]⟩])
 (.seq (.seq (.reg [
 ⟨some 3,.ld (.t 1) 2 true,none,[]⟩,
 ⟨some 4,.call 60 [.t 3],none,[]⟩,
 ⟨some 5,.un .not (.t 4),none,[]⟩])
 (.cond (.t 5)
 (.seq (.reg [
  ⟨some 2,.mv (.c (.int .i64 30)),none,[]⟩])
  .ret)
 .skip))
 (.seq (.reg [
 ⟨some 2,.mv (.c (.int .i64 0)),none,[]⟩])
 .ret)))
def r27:List RV:=[.tmp 2]
theorem n27:Try.f27.ntmps = 6:=by kernel_rfl
theorem b27:bodyB Try.prog 27 = true:=by kernel_rfl
theorem c27_ok:cmpC Try.prog c27 ((Try.f27.body).getD .skip) = true:=by kernel_rfl
theorem r27_ok:cmpR Try.prog r27 Try.f27.results.toList = true:=by kernel_rfl
theorem t27 {args:List SV} {res:SV} (ka:KFL args) (kr:KF res) (h:sx Try.prog Y0 0 c27 (st0 args 6) (retK r27 res)) (hA:Nat.ble args.length 6 = true:=by rfl):Ct Try.prog 27 args res:=ct_intro Try.func27 rfl b27 c27_ok r27_ok n27 (Nat.le_of_ble_eq_true hA) ka kr h
def c63:SC:=(.seq (.reg [
 ⟨some 2,.box (.t 0) 0 25,none,[]⟩,
 ⟨some 3,.box (.t 1) 0 29,none,[]⟩,
 ⟨some 4,.alloc [.slice none 0 0,.slice none 0 0,.int .i64 0,.int .i64 0] 119,none,[]⟩,
 ⟨some 5,.mv (.c (.int .i64 0)),none,[]⟩])
 (.seq (.seq (.reg [
 ⟨some 7,.ld (.t 2) 2 true,none,[]⟩,
 ⟨some 8,.call 26 [.t 7],none,[]⟩,
 ⟨some 6,.mv (.t 8),none,[]⟩])
 (.seq (.reg [
 ⟨some 9,.mv (.t 6),none,[]⟩,
 ⟨some 10,.bin .neq (.t 9) (.c (.int .i64 0)),none,[]⟩])
 (.cond (.t 10)
 (.seq (.reg [
  ⟨some 11,.build [.slice none 0 0,.slice none 0 0,.int .i64 0,.int .i64 0] [],none,[]⟩,
  ⟨some 12,.mv (.t 6),none,[]⟩,
  ⟨none,.st (.t 4) (.t 11) 4,none,[]⟩,
  ⟨some 5,.mv (.t 12),none,[]⟩])
  .ret)
 .skip)))
 (.seq (.seq (.reg [
 ⟨some 13,.ld (.t 3) 2 true,none,[]⟩,
 ⟨some 14,.bsl 2 29 [.t 13],none,[]⟩,
 ⟨some 15,.call 93 [.c (.int .i64 1),.c (.int .i64 100000),.t 14],none,[]⟩,
 ⟨some 16,.un .not (.t 15),none,[]⟩])
 (.cond (.t 16)
 (.seq (.reg [
  ⟨some 17,.build [.slice none 0 0,.slice none 0 0,.int .i64 0,.int .i64 0] [],none,[]⟩,
  ⟨none,.st (.t 4) (.t 17) 4,none,[]⟩,
  ⟨some 5,.mv (.c (.int .i64 31)),none,[]⟩])
  .ret)
 .skip))
 (.seq (.reg [
 ⟨some 18,.ld (.t 2) 2 true,none,[]⟩,
 ⟨some 19,.ld (.t 3) 2 true,none,[]⟩,
 ⟨some 20,.build [.slice none 0 0,.slice none 0 0,.int .i64 0,.int .i64 0] [(0,2,.t 18),(2,2,.t 19)],none,[]⟩,
 ⟨none,.st (.t 4) (.t 20) 4,none,[]⟩,
 ⟨some 5,.mv (.c (.int .i64 0)),none,[]⟩])
 .ret))))
def r63:List RV:=[.cell 4 4 true,.tmp 5]
theorem n63:Try.f63.ntmps = 21:=by kernel_rfl
theorem b63:bodyB Try.prog 63 = true:=by kernel_rfl
theorem c63_ok:cmpC Try.prog c63 ((Try.f63.body).getD .skip) = true:=by kernel_rfl
theorem r63_ok:cmpR Try.prog r63 Try.f63.results.toList = true:=by kernel_rfl
theorem t63 {args:List SV} {res:SV} (ka:KFL args) (kr:KF res) (h:sx Try.prog Y0 0 c63 (st0 args 21) (retK r63 res)) (hA:Nat.ble args.length 21 = true:=by rfl):Ct Try.prog 63 args res:=ct_intro Try.func63 rfl b63 c63_ok r63_ok n63 (Nat.le_of_ble_eq_true hA) ka kr h
def c64:SC:=(.seq (.reg [
 ⟨some 2,.box (.t 0) 0 119,none,[]⟩,
 ⟨some 4,.alloc [.int .i64 0,.int .i64 0] 123,none,[]⟩])
 (.seq (.reg [
 ⟨some 6,.addo (.t 2) 0,none,[]⟩,
 ⟨some 7,.addo (.t 6) 1,none,[]⟩,
 ⟨some 8,.ld (.t 7) 1 false,none,[]⟩,
 ⟨some 9,.mv (.t 1),none,[]⟩,
 ⟨some 10,.ixs (.t 8) (.t 9) 5,none,[]⟩,
 ⟨some 11,.addo (.t 10) 2,none,[]⟩,
 ⟨some 12,.ld (.t 11) 2 true,none,[]⟩,
 ⟨some 5,.alloc [.int .i64 0,.int .i64 0] 29,none,[]⟩,
 ⟨none,.st (.t 5) (.t 12) 2,none,[]⟩])
 (.seq (.regd [0,1,2,3,4,5,6,7,8,9,10,11,12,13,14,15,16,17,18,19,20,21,22,23] [
 .op ⟨some 13,.addo (.t 5) 0,none,[]⟩,
 .op ⟨some 14,.ld (.t 13) 1 false,none,[0]⟩,
 .op ⟨some 15,.addo (.t 2) 2,none,[]⟩,
 .op ⟨some 16,.addo (.t 15) 1,none,[2]⟩,
 .op ⟨some 17,.ld (.t 16) 1 false,none,[3]⟩,
 .op ⟨some 18,.bin .add (.t 14) (.t 17),none,[1,4]⟩,
 .op ⟨some 19,.bin .sub (.t 18) (.c (.int .i64 1)),none,[5]⟩,
 .op ⟨some 20,.addo (.t 2) 2,none,[]⟩,
 .op ⟨some 21,.addo (.t 20) 1,none,[7]⟩,
 .op ⟨some 22,.ld (.t 21) 1 false,none,[8]⟩,
 .op ⟨some 23,.div .quo (.t 19) (.t 22),none,[6,9]⟩,
 .op ⟨some 24,.addo (.t 5) 1,none,[]⟩,
 .op ⟨some 25,.ld (.t 24) 1 false,none,[11]⟩,
 .op ⟨some 26,.addo (.t 2) 2,none,[]⟩,
 .op ⟨some 27,.addo (.t 26) 0,none,[13]⟩,
 .op ⟨some 28,.ld (.t 27) 1 false,none,[14]⟩,
 .op ⟨some 29,.bin .add (.t 25) (.t 28),none,[12,15]⟩,
 .op ⟨some 30,.bin .sub (.t 29) (.c (.int .i64 1)),none,[16]⟩,
 .op ⟨some 31,.addo (.t 2) 2,none,[]⟩,
 .op ⟨some 32,.addo (.t 31) 0,none,[18]⟩,
 .op ⟨some 33,.ld (.t 32) 1 false,none,[19]⟩,
 .op ⟨some 34,.div .quo (.t 30) (.t 33),none,[17,20]⟩,
 .op ⟨some 35,.build [.int .i64 0,.int .i64 0] [(0,1,.t 23),(1,1,.t 34)],none,[10,21]⟩] 0 1 [
 ⟨none,.st (.t 4) (.t 35) 2,none,[0,1,2,3,4,5,6,7,8,9,10,11,12,13,14,15,16,17,18,19,20,21,22]⟩])
 .ret)))
def r64:List RV:=[.cell 4 2 true]
theorem n64:Try.f64.ntmps = 36:=by kernel_rfl
theorem b64:bodyB Try.prog 64 = true:=by kernel_rfl
theorem c64_ok:cmpC Try.prog c64 ((Try.f64.body).getD .skip) = true:=by kernel_rfl
theorem r64_ok:cmpR Try.prog r64 Try.f64.results.toList = true:=by kernel_rfl
theorem t64 {args:List SV} {res:SV} (ka:KFL args) (kr:KF res) (h:sx Try.prog Y0 0 c64 (st0 args 36) (retK r64 res)) (hA:Nat.ble args.length 36 = true:=by rfl):Ct Try.prog 64 args res:=ct_intro Try.func64 rfl b64 c64_ok r64_ok n64 (Nat.le_of_ble_eq_true hA) ka kr h
def c65:SC:=(.seq (.reg [
 ⟨some 1,.box (.t 0) 0 123,none,[]⟩,
 ⟨some 2,.alloc [.int .i64 0,.int .i64 0] 29,none,[]⟩])
 (.seq (.reg [
 ⟨some 3,.ixa (.t 1) (.c (.int .i64 0)) 2 1,none,[]⟩,
 ⟨some 4,.ld (.t 3) 1 false,none,[]⟩,
 ⟨some 5,.ixa (.t 1) (.c (.int .i64 1)) 2 1,none,[]⟩,
 ⟨some 6,.ld (.t 5) 1 false,none,[]⟩,
 ⟨some 7,.build [.int .i64 0,.int .i64 0] [(0,1,.t 4),(1,1,.t 6)],none,[]⟩,
 ⟨none,.st (.t 2) (.t 7) 2,none,[]⟩])
 .ret))
def r65:List RV:=[.cell 2 2 true]
theorem n65:Try.f65.ntmps = 8:=by kernel_rfl
theorem b65:bodyB Try.prog 65 = true:=by kernel_rfl
theorem c65_ok:cmpC Try.prog c65 ((Try.f65.body).getD .skip) = true:=by kernel_rfl
theorem r65_ok:cmpR Try.prog r65 Try.f65.results.toList = true:=by kernel_rfl
theorem t65 {args:List SV} {res:SV} (ka:KFL args) (kr:KF res) (h:sx Try.prog Y0 0 c65 (st0 args 8) (retK r65 res)) (hA:Nat.ble args.length 8 = true:=by rfl):Ct Try.prog 65 args res:=ct_intro Try.func65 rfl b65 c65_ok r65_ok n65 (Nat.le_of_ble_eq_true hA) ka kr h
def c68:SC:=(.seq (.reg [
 ⟨some 3,.box (.t 0) 0 119,none,[]⟩,
 ⟨some 5,.box (.t 2) 0 123,none,[]⟩,
 ⟨some 6,.alloc [.int .i64 0,.int .i64 0] 123,none,[]⟩])
 (.seq (.reg [
 ⟨some 15,.ld (.t 3) 4 true,none,[]⟩,
 ⟨some 16,.mv (.t 1),none,[]⟩,
 ⟨some 17,.call 64 [.t 15,.t 16],none,[]⟩,
 ⟨some 7,.alloc [.int .i64 0,.int .i64 0] 123,none,[]⟩,
 ⟨none,.st (.t 7) (.t 17) 2,none,[]⟩])
 (.seq (.reg [
 ⟨some 18,.build [.int .i64 0,.int .i64 0] [(0,1,.c (.int .i64 100001)),(1,1,.c (.int .i64 100001))],none,[]⟩,
 ⟨some 8,.alloc [.int .i64 0,.int .i64 0] 123,none,[]⟩,
 ⟨none,.st (.t 8) (.t 18) 2,none,[]⟩])
 (.seq (.seq (.reg [
 ⟨some 19,.addo (.t 3) 0,none,[]⟩,
 ⟨some 20,.addo (.t 19) 1,none,[]⟩,
 ⟨some 21,.ld (.t 20) 1 false,none,[]⟩,
 ⟨some 22,.mv (.t 1),none,[]⟩,
 ⟨some 23,.ixs (.t 21) (.t 22) 5,none,[]⟩,
 ⟨some 24,.addo (.t 23) 4,none,[]⟩,
 ⟨some 25,.ld (.t 24) 1 false,none,[]⟩,
 ⟨some 26,.len (.t 25),none,[]⟩,
 ⟨some 27,.mv (.c (.int .i64 0)),none,[]⟩])
 (.block 0 (.loop (.seq (.reg [
  ⟨some 28,.bin .lss (.t 27) (.t 26),none,[]⟩])
  (.seq (.cond (.t 28)
  .skip
  (.exit 0))
  (.seq (.block 1 (.seq (.reg [
   ⟨some 29,.ixs (.t 25) (.t 27) 4,none,[]⟩,
   ⟨some 30,.ld (.t 29) 4 true,none,[]⟩,
   ⟨some 10,.alloc [.int .i64 0,.int .i64 0,.int .i64 0,.int .i64 0] 95,none,[]⟩,
   ⟨none,.st (.t 10) (.t 30) 4,none,[]⟩])
   (.seq (.regd [0,1,2,3,4,5,6,7,8,9,10,11,12,13,14,15,16,17] [
   .op ⟨some 31,.addo (.t 10) 0,none,[]⟩,
   .op ⟨some 32,.addo (.t 31) 0,none,[0]⟩,
   .op ⟨some 33,.ld (.t 32) 1 false,none,[1]⟩,
   .op ⟨some 34,.addo (.t 10) 0,none,[]⟩,
   .op ⟨some 35,.addo (.t 34) 1,none,[3]⟩,
   .op ⟨some 36,.ld (.t 35) 1 false,none,[4]⟩,
   .op ⟨some 37,.build [.int .i64 0,.int .i64 0] [(0,1,.t 33),(1,1,.t 36)],none,[2,5]⟩,
   .op ⟨some 38,.addo (.t 10) 2,none,[]⟩,
   .op ⟨some 39,.addo (.t 38) 1,none,[7]⟩,
   .op ⟨some 40,.ld (.t 39) 1 false,none,[8]⟩,
   .op ⟨some 41,.addo (.t 10) 2,none,[]⟩,
   .op ⟨some 42,.addo (.t 41) 0,none,[10]⟩,
   .op ⟨some 43,.ld (.t 42) 1 false,none,[11]⟩,
   .op ⟨some 44,.build [.int .i64 0,.int .i64 0] [(0,1,.t 40),(1,1,.t 43)],none,[9,12]⟩] 2 2 [
   ⟨some 11,.alloc [.int .i64 0,.int .i64 0] 123,none,[]⟩,
   ⟨some 12,.alloc [.int .i64 0,.int .i64 0] 123,none,[]⟩,
   ⟨none,.st (.t 11) (.t 37) 2,none,[0,1,2,3,4,5,6,14,15]⟩,
   ⟨none,.st (.t 12) (.t 44) 2,none,[0,1,2,3,4,5,6,7,8,9,10,11,12,13,14,15,16]⟩])
   (.seq (.reg [
   ⟨some 45,.mv (.c (.int .i64 0)),none,[]⟩])
   (.block 2 (.loop (.seq (.reg [
    ⟨some 46,.bin .lss (.t 45) (.c (.int .i64 2)),none,[]⟩])
    (.seq (.cond (.t 46)
    .skip
    (.exit 2))
    (.seq (.block 3 (.seq (.reg [
     ⟨some 47,.mv (.t 45),none,[]⟩,
     ⟨some 13,.mv (.t 47),none,[]⟩])
     (.seq (.regd [0,1,2,3,4,5,6,7] [
     .op ⟨some 48,.mv (.t 13),none,[]⟩,
     .op ⟨some 49,.ixa (.t 5) (.t 48) 2 1,none,[0]⟩,
     .op ⟨some 50,.ld (.t 49) 1 false,none,[1]⟩,
     .op ⟨some 51,.mv (.t 13),none,[]⟩,
     .op ⟨some 52,.ixa (.t 11) (.t 51) 2 1,none,[3]⟩,
     .op ⟨some 53,.ld (.t 52) 1 false,none,[4]⟩,
     .op ⟨some 54,.mm true [.t 50,.t 53],none,[2,5]⟩,
     .op ⟨some 14,.mv (.t 54),none,[0,1,2,3,4,5,6]⟩] 0 0 [
])
 (.seq (.regd [0,1,2,3,4,5,6,7,8,9] [
 .op ⟨some 55,.mv (.t 14),none,[]⟩,
 .op ⟨some 56,.mv (.t 13),none,[]⟩,
 .op ⟨some 57,.ixa (.t 7) (.t 56) 2 1,none,[1]⟩,
 .op ⟨some 58,.ld (.t 57) 1 false,none,[2]⟩,
 .op ⟨some 59,.bin .add (.t 55) (.t 58),none,[0,3]⟩,
 .op ⟨some 60,.bin .sub (.t 59) (.c (.int .i64 1)),none,[4]⟩,
 .op ⟨some 61,.mv (.t 13),none,[]⟩,
 .op ⟨some 62,.ixa (.t 12) (.t 61) 2 1,none,[6]⟩,
 .op ⟨some 63,.ld (.t 62) 1 false,none,[7]⟩,
 .op ⟨some 64,.bin .leq (.t 60) (.t 63),none,[5,8]⟩] 0 0 [
])
 (.cond (.t 64)
 (.reg [
  ⟨some 65,.mv (.t 13),none,[]⟩,
  ⟨some 66,.mv (.t 13),none,[]⟩,
  ⟨some 67,.ixa (.t 8) (.t 66) 2 1,none,[]⟩,
  ⟨some 68,.ld (.t 67) 1 false,none,[]⟩,
  ⟨some 69,.mv (.t 14),none,[]⟩,
  ⟨some 70,.bsl 1 3 [.t 68,.t 69],none,[]⟩,
  ⟨some 71,.call 94 [.t 70],none,[]⟩,
  ⟨some 72,.ixa (.t 8) (.t 65) 2 1,none,[]⟩,
  ⟨none,.st (.t 72) (.t 71) 1,none,[]⟩])
 .skip)))))
 (.reg [
 ⟨some 73,.bin .add (.t 45) (.c (.int .i64 1)),none,[]⟩,
 ⟨some 45,.mv (.t 73),none,[]⟩]))))))))))
 (.reg [
 ⟨some 74,.bin .add (.t 27) (.c (.int .i64 1)),none,[]⟩,
 ⟨some 27,.mv (.t 74),none,[]⟩])))))))
 (.seq (.reg [
 ⟨some 75,.ld (.t 8) 2 true,none,[]⟩,
 ⟨none,.st (.t 6) (.t 75) 2,none,[]⟩])
 .ret)))))
def r68:List RV:=[.cell 6 2 true]
theorem n68:Try.f68.ntmps = 76:=by kernel_rfl
theorem b68:bodyB Try.prog 68 = true:=by kernel_rfl
theorem c68_ok:cmpC Try.prog c68 ((Try.f68.body).getD .skip) = true:=by kernel_rfl
theorem r68_ok:cmpR Try.prog r68 Try.f68.results.toList = true:=by kernel_rfl
theorem t68 {args:List SV} {res:SV} (ka:KFL args) (kr:KF res) (h:sx Try.prog Y0 0 c68 (st0 args 76) (retK r68 res)) (hA:Nat.ble args.length 76 = true:=by rfl):Ct Try.prog 68 args res:=ct_intro Try.func68 rfl b68 c68_ok r68_ok n68 (Nat.le_of_ble_eq_true hA) ka kr h
def c89:SC:=(.seq (.reg [
 ⟨some 1,.box (.t 0) 0 29,none,[]⟩,
 ⟨some 2,.mv (.c (.bool false)),none,[]⟩])
 (.seq (.reg [
 ⟨some 3,.ld (.t 1) 2 true,none,[]⟩,
 ⟨some 4,.call 92 [.t 3,.c (.int .i64 1),.c (.int .i64 100000)],none,[]⟩,
 ⟨some 2,.mv (.t 4),none,[]⟩])
 .ret))
def r89:List RV:=[.tmp 2]
theorem n89:Try.f89.ntmps = 5:=by kernel_rfl
theorem b89:bodyB Try.prog 89 = true:=by kernel_rfl
theorem c89_ok:cmpC Try.prog c89 ((Try.f89.body).getD .skip) = true:=by kernel_rfl
theorem r89_ok:cmpR Try.prog r89 Try.f89.results.toList = true:=by kernel_rfl
theorem t89 {args:List SV} {res:SV} (ka:KFL args) (kr:KF res) (h:sx Try.prog Y0 0 c89 (st0 args 5) (retK r89 res)) (hA:Nat.ble args.length 5 = true:=by rfl):Ct Try.prog 89 args res:=ct_intro Try.func89 rfl b89 c89_ok r89_ok n89 (Nat.le_of_ble_eq_true hA) ka kr h
def c94:SC:=(.seq (.reg [
 ⟨some 2,.mv (.c (.int .i64 0)),none,[]⟩])
 (.seq (.reg [
 ⟨some 3,.mv (.t 0),none,[]⟩,
 ⟨some 4,.bsl 1 3 [.c (.int .i64 100001)],none,[]⟩,
 ⟨some 5,.app 1 8 3 (.t 3) (.t 4),none,[]⟩,
 ⟨some 6,.call 104 [.t 5],none,[]⟩,
 ⟨some 2,.mv (.t 6),none,[]⟩])
 .ret))
def r94:List RV:=[.tmp 2]
theorem n94:Try.f94.ntmps = 7:=by kernel_rfl
theorem b94:bodyB Try.prog 94 = true:=by kernel_rfl
theorem c94_ok:cmpC Try.prog c94 ((Try.f94.body).getD .skip) = true:=by kernel_rfl
theorem r94_ok:cmpR Try.prog r94 Try.f94.results.toList = true:=by kernel_rfl
theorem t94 {args:List SV} {res:SV} (ka:KFL args) (kr:KF res) (h:sx Try.prog Y0 0 c94 (st0 args 7) (retK r94 res)) (hA:Nat.ble args.length 7 = true:=by rfl):Ct Try.prog 94 args res:=ct_intro Try.func94 rfl b94 c94_ok r94_ok n94 (Nat.le_of_ble_eq_true hA) ka kr h
def c104:SC:=(.seq (.reg [
 ⟨some 2,.mv (.c (.int .i64 0)),none,[]⟩])
 (.seq (.seq (.reg [
 ⟨some 5,.mv (.t 0),none,[]⟩,
 ⟨some 6,.len (.t 5),none,[]⟩,
 ⟨some 7,.bin .lss (.t 6) (.c (.int .i64 1)),none,[]⟩])
 (.cond (.t 7)
 (.reg [
  ⟨some 8,.raw (Go.Op.makeInterface 9 (Go.Operand.const (Go.Value.string { data:=#[115,108,105,99,101,115,46,77,105,110,58,32,101,109,112,116,121,32,108,105,115,116] }))) 20,none,[]⟩,
  ⟨none,.raw (Go.Op.panic (Go.Operand.tmp 8)) 0,none,[]⟩])
 .skip))
 (.seq (.reg [
 ⟨some 9,.mv (.t 0),none,[]⟩,
 ⟨some 10,.ixs (.t 9) (.c (.int .i64 0)) 1,none,[]⟩,
 ⟨some 11,.ld (.t 10) 1 false,none,[]⟩,
 ⟨some 3,.mv (.t 11),none,[]⟩])
 (.seq (.seq (.reg [
 ⟨some 4,.mv (.c (.int .i64 1)),none,[]⟩])
 (.block 0 (.loop (.seq (.seq (.reg [
  ⟨some 12,.mv (.t 4),none,[]⟩,
  ⟨some 13,.mv (.t 0),none,[]⟩,
  ⟨some 14,.len (.t 13),none,[]⟩,
  ⟨some 15,.bin .lss (.t 12) (.t 14),none,[]⟩])
  (.cond (.t 15)
  .skip
  (.exit 0)))
  (.seq (.block 1 (.reg [
   ⟨some 18,.mv (.t 3),none,[]⟩,
   ⟨some 19,.mv (.t 0),none,[]⟩,
   ⟨some 20,.mv (.t 4),none,[]⟩,
   ⟨some 21,.ixs (.t 19) (.t 20) 1,none,[]⟩,
   ⟨some 22,.ld (.t 21) 1 false,none,[]⟩,
   ⟨some 23,.mm false [.t 18,.t 22],none,[]⟩,
   ⟨some 3,.mv (.t 23),none,[]⟩]))
  (.reg [
  ⟨some 16,.mv (.t 4),none,[]⟩,
  ⟨some 17,.bin .add (.t 16) (.c (.int .i64 1)),none,[]⟩,
  ⟨some 4,.mv (.t 17),none,[]⟩]))))))
 (.seq (.reg [
 ⟨some 24,.mv (.t 3),none,[]⟩,
 ⟨some 2,.mv (.t 24),none,[]⟩])
 .ret)))))
def r104:List RV:=[.tmp 2]
theorem n104:Try.f104.ntmps = 25:=by kernel_rfl
theorem b104:bodyB Try.prog 104 = true:=by kernel_rfl
theorem c104_ok:cmpC Try.prog c104 ((Try.f104.body).getD .skip) = true:=by kernel_rfl
theorem r104_ok:cmpR Try.prog r104 Try.f104.results.toList = true:=by kernel_rfl
theorem t104 {args:List SV} {res:SV} (ka:KFL args) (kr:KF res) (h:sx Try.prog Y0 0 c104 (st0 args 25) (retK r104 res)) (hA:Nat.ble args.length 25 = true:=by rfl):Ct Try.prog 104 args res:=ct_intro Try.func104 rfl b104 c104_ok r104_ok n104 (Nat.le_of_ble_eq_true hA) ka kr h
end Go.Proofs.Ytkjldleglbbkeaa
namespace Go.Azalai
structure Span where
 lo:Int
 hi:Int
deriving DecidableEq
structure Well where
 x:Int
 y:Int
 depth:Int
 yld:Span
 room:Int
 has:Span
 owner:Int
deriving DecidableEq
structure Gate where
 opens:Span
 shuts:Span
deriving DecidableEq
structure Leg where
 a:Int
 b:Int
 long:Span
 gates:List Gate
deriving DecidableEq
structure Land where
 wells:List Well
 legs:List Leg
deriving DecidableEq
structure Draw where
 well:Int
 day:Int
 water:Int
deriving DecidableEq
def inR (lo hi n:Int):Bool:=decide (lo ≤ n ∧ n ≤ hi)
def okSp (lo hi:Int) (s:Span):Bool:=decide (lo ≤ s.lo ∧ s.lo ≤ s.hi ∧ s.hi ≤ hi)
def okWell (w:Well):Bool :=
 inR (-10000000) 10000000 w.x && inR (-10000000) 10000000 w.y && inR 0 200 w.depth && okSp 0 10000000 w.yld && inR 0 1000000000 w.room && okSp 0 w.room w.has && inR 0 9999 w.owner
def okGates (next:Int):List Gate → Bool
 | []=>true
 | g :: r=>okSp 0 100000 g.opens && okSp 0 100000 g.shuts && inR next g.shuts.hi g.opens.lo && okGates (g.shuts.hi + 1) r
def okLeg (n:Int) (x:Leg):Bool :=
 inR 0 (n - 1) x.a && inR 0 (n - 1) x.b && x.a != x.b && okSp 1 1000000 x.long && decide (x.gates.length ≤ 6) && okGates 0 x.gates
def okLand (l:Land):Bool :=
 inR 1 12 l.wells.length && decide (l.legs.length ≤ 24) && l.wells.all okWell && l.legs.all (okLeg l.wells.length)
def idxF {α : Type} (g:α → Bool):List α → Nat → Int
 | [],_=>-1
 | x :: l,k=>if g x then k else idxF g l (k + 1)
theorem idxF_ge {α : Type} (g:α → Bool):∀ (l:List α) (k:Nat),decide (idxF g l k ≥ 0) = l.any g
 | [],k=>by simp [idxF]
 | x :: l,k=>by
  simp only [idxF,List.any_cons]
  by_cases hg:g x = true
  · simp [hg]
  · simpa [hg] using idxF_ge g l (k + 1)
def filled (w:Well) (has:Span) (days:Int):Span:=⟨min w.room (has.lo + days * w.yld.lo),min w.room (has.hi + days * w.yld.hi)⟩
def okDraws (n last:Int):List Draw → Bool
 | []=>true
 | x :: r=>inR 0 (n - 1) x.well && inR last 100000 x.day && inR 0 1000000000 x.water && okDraws n x.day r
def waterL (w:Well) (well day:Int) (now:Span) (evening:Int) (i:Nat):List Draw → Span × Int × Int
 | []=>(filled w now (day - 1 - evening),0,0)
 | x :: r =>
  if (x.well != well || decide (x.day ≥ day)) = true then waterL w well day now evening (i + 1) r
  else
   let f:=filled w now (x.day - evening)
   if f.hi < x.water then (⟨0,0⟩,i,33) else waterL w well day ⟨max 0 (f.lo - x.water),f.hi - x.water⟩ x.day (i + 1) r
def waterF (l:Land) (well:Int) (draws:List Draw) (day:Int):Span × Int × Int :=
 if okLand l = false then (⟨0,0⟩,0,30)
 else if (inR 0 (l.wells.length - 1) well && inR 0 100000 day) = false then (⟨0,0⟩,0,2)
 else if draws.length > 200 then (⟨0,0⟩,0,4)
 else if okDraws l.wells.length 0 draws = false then (⟨0,0⟩,0,32)
 else match l.wells[well.toNat]? with
  | some w=>waterL w well day w.has (-1) 0 draws
  | none=>(⟨0,0⟩,0,0)
def workF (l:Land) (well water teams:Int):Int × Int :=
 if okLand l = false then (0,30)
 else if (inR 0 (l.wells.length - 1) well && inR 0 1000000000 water && inR 1 100 teams) = false then (0,2)
 else match l.wells[well.toNat]? with
  | some w=>((water * w.depth + 1000000 * teams - 1).tdiv (1000000 * teams),0)
  | none=>(0,0)
def Small (l:Land):Prop:=l.wells.length ≤ 1000 ∧ l.legs.length ≤ 1000 ∧ ∀ x ∈ l.legs,x.gates.length ≤ 1000
def greatF (l:Land):Bool:=decide (l.wells.length > 20) || decide (l.legs.length > 40) || l.legs.any fun x=>decide (x.gates.length > 20)
theorem okLand_well {l:Land} (h:okLand l = true):∀ w ∈ l.wells,okWell w = true:=by
 simp only [okLand,Bool.and_eq_true,List.all_eq_true] at h;exact h.1.2
theorem okLand_len {l:Land} (h:okLand l = true):1 ≤ l.wells.length ∧ l.wells.length ≤ 12 ∧ l.legs.length ≤ 24:=by
 simp only [okLand,Bool.and_eq_true,inR,decide_eq_true_eq] at h;omega
theorem okDraws_mem {n:Int}:∀ {l:List Draw} {last:Int},okDraws n last l = true → 0 ≤ last → ∀ x ∈ l,0 ≤ x.day ∧ x.day ≤ 100000 ∧ 0 ≤ x.water ∧ x.water ≤ 1000000000
 | [],_,_,_,x,h=>by simp at h
 | y :: l,last,h,h0,x,hx=>by
  simp only [okDraws,Bool.and_eq_true,inR,decide_eq_true_eq] at h
  rcases List.mem_cons.1 hx with rfl | hx
  · omega
  · exact okDraws_mem h.2 (by omega) x hx
end Go.Azalai
set_option maxRecDepth 100000
set_option maxHeartbeats 4000000
namespace Go.Proofs.Ytkjldleglbbkeaa
open Go Go.Sx Go.Azalai
def intL (n:Int):List SV:=[I n]
def spanL (s:Span):List SV:=[I s.lo,I s.hi]
def gateL (g:Gate):List SV:=[I g.opens.lo,I g.opens.hi,I g.shuts.lo,I g.shuts.hi]
def wellL (w:Well):List SV:=[I w.x,I w.y,I w.depth,I w.yld.lo,I w.yld.hi,I w.room,I w.has.lo,I w.has.hi,I w.owner]
def legL (x:Leg):List SV:=[I x.a,I x.b,I x.long.lo,I x.long.hi,.sl false 4 (x.gates.map gateL)]
def landL (l:Land):List SV:=[.sl false 9 (l.wells.map wellL),.sl false 5 (l.legs.map legL)]
def drawL (d:Draw):List SV:=[I d.well,I d.day,I d.water]
theorem idxF_any {α : Type} (g:α → Bool) (l:List α):decide (idxF g l 0 ≥ 0) = l.any g:=idxF_ge g l 0
theorem idx101 (h:Nat) (caps:List SV) (hk:KFL caps) (g:Int → Bool) (l:List Int) (hg:∀ x ∈ l,Ct Try.prog h (I x :: caps) (B (g x))) (hl:l.length < 4611686018427387904) {c:Bool} :
 Ct Try.prog 101 [.sl c 1 (l.map intL),.cl h caps] (I (idxF g l 0)):=by
 refine t101 ⟨by simp [KF,KFR_iff,KFL,intL],hk,trivial⟩ (by simp [KF]) ?_
 dsimp only [c101,r101,go_sem,rA,rM,rS]
 refine loopO (fun k:Nat=>[(8,I k)]) (fun _=>[]) (fun k=>k ≤ l.length ∧ idxF g (l.drop k) k = idxF g l 0) (fun k=>l.length - k) 0 ⟨Nat.zero_le _,rfl⟩ ?_ ?_
 · (refine ent_id ?_ ?_ ?_ rfl rfl <;> dsimp only [intL,hk,id,go_sem,rA,rM,rS] <;> simp [intL,hk,KFR_iff,KFR_app,KFR,KFL,KF,mtL_same,mtO,nbr])
 · intro k ⟨hk',hi⟩
   dsimp only [go_sem,rA,rM,rS]
   refine br ?_ ?_
   · intro hlt
     have hlt:k < l.length:=by simpa using hlt
     dsimp only [go_sem,rA,rM,rS]
     refine ixs_map k hlt rfl ?_
     dsimp only [intL,go_sem,rA,rM,rS]
     refine call (hg l[k] (List.getElem_mem _)) ?_
     dsimp only [go_sem,rA,rM,rS]
     refine br ?_ ?_
     · intro hgx
       dsimp only [go_sem,rA,rM,rS]
       rw [← hi,List.drop_eq_getElem_cons hlt]
       simp [idxF,hgx]
     · intro hgx
       dsimp only [go_sem,rA,rM,rS]
       refine ⟨k + 1,⟨by omega,?_⟩,by omega,?_⟩
       · rw [← hi,List.drop_eq_getElem_cons hlt];simp [idxF,hgx]
       · rw [w64_in (by omega) (by omega)]
         (refine ent_id ?_ ?_ ?_ rfl rfl <;> dsimp only [intL,hk,id,go_sem,rA,rM,rS] <;> simp [intL,hk,KFR_iff,KFR_app,KFR,KFL,KF,mtL_same,mtO,nbr])
   · intro hlt
     have hlt:k = l.length:=by simp at hlt;omega
     dsimp only [go_sem,rA,rM,rS]
     rw [← hi,hlt];simp [idxF]
theorem con90 (h:Nat) (caps:List SV) (hk:KFL caps) (g:Int → Bool) (l:List Int) (hg:∀ x ∈ l,Ct Try.prog h (I x :: caps) (B (g x))) (hl:l.length < 4611686018427387904) {c:Bool} :
 Ct Try.prog 90 [.sl c 1 (l.map intL),.cl h caps] (B (l.any g)):=by
 refine t90 ⟨by simp [KF,KFR_iff,KFL,intL],hk,trivial⟩ (by simp [KF]) ?_
 dsimp only [c90,r90,go_sem,rA,rM,rS]
 refine call (idx101 h caps hk g l hg hl) ?_
 dsimp only [go_sem,rA,rM,rS]
 rw [idxF_any]
theorem idx95 (h:Nat) (caps:List SV) (hk:KFL caps) (g:Well → Bool) (l:List Well) (hg:∀ x ∈ l,Ct Try.prog h (.agg (wellL x) :: caps) (B (g x))) (hl:l.length < 4611686018427387904) {c:Bool} :
 Ct Try.prog 95 [.sl c 9 (l.map wellL),.cl h caps] (I (idxF g l 0)):=by
 refine t95 ⟨by simp [KF,KFR_iff,KFL,wellL],hk,trivial⟩ (by simp [KF]) ?_
 dsimp only [c95,r95,go_sem,rA,rM,rS]
 refine loopO (fun k:Nat=>[(8,I k)]) (fun _=>[]) (fun k=>k ≤ l.length ∧ idxF g (l.drop k) k = idxF g l 0) (fun k=>l.length - k) 0 ⟨Nat.zero_le _,rfl⟩ ?_ ?_
 · (refine ent_id ?_ ?_ ?_ rfl rfl <;> dsimp only [wellL,hk,id,go_sem,rA,rM,rS] <;> simp [wellL,hk,KFR_iff,KFR_app,KFR,KFL,KF,mtL_same,mtO,nbr])
 · intro k ⟨hk',hi⟩
   dsimp only [go_sem,rA,rM,rS]
   refine br ?_ ?_
   · intro hlt
     have hlt:k < l.length:=by simpa using hlt
     dsimp only [go_sem,rA,rM,rS]
     refine ixs_map k hlt rfl ?_
     dsimp only [wellL,go_sem,rA,rM,rS]
     refine call (hg l[k] (List.getElem_mem _)) ?_
     dsimp only [go_sem,rA,rM,rS]
     refine br ?_ ?_
     · intro hgx
       dsimp only [go_sem,rA,rM,rS]
       rw [← hi,List.drop_eq_getElem_cons hlt]
       simp [idxF,hgx]
     · intro hgx
       dsimp only [go_sem,rA,rM,rS]
       refine ⟨k + 1,⟨by omega,?_⟩,by omega,?_⟩
       · rw [← hi,List.drop_eq_getElem_cons hlt];simp [idxF,hgx]
       · rw [w64_in (by omega) (by omega)]
         (refine ent_id ?_ ?_ ?_ rfl rfl <;> dsimp only [wellL,hk,id,go_sem,rA,rM,rS] <;> simp [wellL,hk,KFR_iff,KFR_app,KFR,KFL,KF,mtL_same,mtO,nbr])
   · intro hlt
     have hlt:k = l.length:=by simp at hlt;omega
     dsimp only [go_sem,rA,rM,rS]
     rw [← hi,hlt];simp [idxF]
theorem con71 (h:Nat) (caps:List SV) (hk:KFL caps) (g:Well → Bool) (l:List Well) (hg:∀ x ∈ l,Ct Try.prog h (.agg (wellL x) :: caps) (B (g x))) (hl:l.length < 4611686018427387904) {c:Bool} :
 Ct Try.prog 71 [.sl c 9 (l.map wellL),.cl h caps] (B (l.any g)):=by
 refine t71 ⟨by simp [KF,KFR_iff,KFL,wellL],hk,trivial⟩ (by simp [KF]) ?_
 dsimp only [c71,r71,go_sem,rA,rM,rS]
 refine call (idx95 h caps hk g l hg hl) ?_
 dsimp only [go_sem,rA,rM,rS]
 rw [idxF_any]
theorem idx96 (h:Nat) (caps:List SV) (hk:KFL caps) (g:Leg → Bool) (l:List Leg) (hg:∀ x ∈ l,Ct Try.prog h (.agg (legL x) :: caps) (B (g x))) (hl:l.length < 4611686018427387904) {c:Bool} :
 Ct Try.prog 96 [.sl c 5 (l.map legL),.cl h caps] (I (idxF g l 0)):=by
 refine t96 ⟨by simp [KF,KFR_iff,KFL,legL,gateL],hk,trivial⟩ (by simp [KF]) ?_
 dsimp only [c96,r96,go_sem,rA,rM,rS]
 refine loopO (fun k:Nat=>[(8,I k)]) (fun _=>[]) (fun k=>k ≤ l.length ∧ idxF g (l.drop k) k = idxF g l 0) (fun k=>l.length - k) 0 ⟨Nat.zero_le _,rfl⟩ ?_ ?_
 · (refine ent_id ?_ ?_ ?_ rfl rfl <;> dsimp only [legL,gateL,hk,id,go_sem,rA,rM,rS] <;> simp [legL,gateL,hk,KFR_iff,KFR_app,KFR,KFL,KF,mtL_same,mtO,nbr])
 · intro k ⟨hk',hi⟩
   dsimp only [go_sem,rA,rM,rS]
   refine br ?_ ?_
   · intro hlt
     have hlt:k < l.length:=by simpa using hlt
     dsimp only [go_sem,rA,rM,rS]
     refine ixs_map k hlt rfl ?_
     dsimp only [legL,go_sem,rA,rM,rS]
     refine call (hg l[k] (List.getElem_mem _)) ?_
     dsimp only [go_sem,rA,rM,rS]
     refine br ?_ ?_
     · intro hgx
       dsimp only [go_sem,rA,rM,rS]
       rw [← hi,List.drop_eq_getElem_cons hlt]
       simp [idxF,hgx]
     · intro hgx
       dsimp only [go_sem,rA,rM,rS]
       refine ⟨k + 1,⟨by omega,?_⟩,by omega,?_⟩
       · rw [← hi,List.drop_eq_getElem_cons hlt];simp [idxF,hgx]
       · rw [w64_in (by omega) (by omega)]
         (refine ent_id ?_ ?_ ?_ rfl rfl <;> dsimp only [legL,gateL,hk,id,go_sem,rA,rM,rS] <;> simp [legL,gateL,hk,KFR_iff,KFR_app,KFR,KFL,KF,mtL_same,mtO,nbr])
   · intro hlt
     have hlt:k = l.length:=by simp at hlt;omega
     dsimp only [go_sem,rA,rM,rS]
     rw [← hi,hlt];simp [idxF]
theorem con74 (h:Nat) (caps:List SV) (hk:KFL caps) (g:Leg → Bool) (l:List Leg) (hg:∀ x ∈ l,Ct Try.prog h (.agg (legL x) :: caps) (B (g x))) (hl:l.length < 4611686018427387904) {c:Bool} :
 Ct Try.prog 74 [.sl c 5 (l.map legL),.cl h caps] (B (l.any g)):=by
 refine t74 ⟨by simp [KF,KFR_iff,KFL,legL,gateL],hk,trivial⟩ (by simp [KF]) ?_
 dsimp only [c74,r74,go_sem,rA,rM,rS]
 refine call (idx96 h caps hk g l hg hl) ?_
 dsimp only [go_sem,rA,rM,rS]
 rw [idxF_any]
theorem idx107 (h:Nat) (caps:List SV) (hk:KFL caps) (g:Span → Bool) (l:List Span) (hg:∀ x ∈ l,Ct Try.prog h (.agg (spanL x) :: caps) (B (g x))) (hl:l.length < 4611686018427387904) {c:Bool} :
 Ct Try.prog 107 [.sl c 2 (l.map spanL),.cl h caps] (I (idxF g l 0)):=by
 refine t107 ⟨by simp [KF,KFR_iff,KFL,spanL],hk,trivial⟩ (by simp [KF]) ?_
 dsimp only [c107,r107,go_sem,rA,rM,rS]
 refine loopO (fun k:Nat=>[(8,I k)]) (fun _=>[]) (fun k=>k ≤ l.length ∧ idxF g (l.drop k) k = idxF g l 0) (fun k=>l.length - k) 0 ⟨Nat.zero_le _,rfl⟩ ?_ ?_
 · (refine ent_id ?_ ?_ ?_ rfl rfl <;> dsimp only [spanL,hk,id,go_sem,rA,rM,rS] <;> simp [spanL,hk,KFR_iff,KFR_app,KFR,KFL,KF,mtL_same,mtO,nbr])
 · intro k ⟨hk',hi⟩
   dsimp only [go_sem,rA,rM,rS]
   refine br ?_ ?_
   · intro hlt
     have hlt:k < l.length:=by simpa using hlt
     dsimp only [go_sem,rA,rM,rS]
     refine ixs_map k hlt rfl ?_
     dsimp only [spanL,go_sem,rA,rM,rS]
     refine call (hg l[k] (List.getElem_mem _)) ?_
     dsimp only [go_sem,rA,rM,rS]
     refine br ?_ ?_
     · intro hgx
       dsimp only [go_sem,rA,rM,rS]
       rw [← hi,List.drop_eq_getElem_cons hlt]
       simp [idxF,hgx]
     · intro hgx
       dsimp only [go_sem,rA,rM,rS]
       refine ⟨k + 1,⟨by omega,?_⟩,by omega,?_⟩
       · rw [← hi,List.drop_eq_getElem_cons hlt];simp [idxF,hgx]
       · rw [w64_in (by omega) (by omega)]
         (refine ent_id ?_ ?_ ?_ rfl rfl <;> dsimp only [spanL,hk,id,go_sem,rA,rM,rS] <;> simp [spanL,hk,KFR_iff,KFR_app,KFR,KFL,KF,mtL_same,mtO,nbr])
   · intro hlt
     have hlt:k = l.length:=by simp at hlt;omega
     dsimp only [go_sem,rA,rM,rS]
     rw [← hi,hlt];simp [idxF]
theorem con102 (h:Nat) (caps:List SV) (hk:KFL caps) (g:Span → Bool) (l:List Span) (hg:∀ x ∈ l,Ct Try.prog h (.agg (spanL x) :: caps) (B (g x))) (hl:l.length < 4611686018427387904) {c:Bool} :
 Ct Try.prog 102 [.sl c 2 (l.map spanL),.cl h caps] (B (l.any g)):=by
 refine t102 ⟨by simp [KF,KFR_iff,KFL,spanL],hk,trivial⟩ (by simp [KF]) ?_
 dsimp only [c102,r102,go_sem,rA,rM,rS]
 refine call (idx107 h caps hk g l hg hl) ?_
 dsimp only [go_sem,rA,rM,rS]
 rw [idxF_any]
theorem within_ok (n lo hi:Int):Ct Try.prog 61 [I n,I lo,I hi] (B (inR lo hi n)):=by
 refine t61 (by simp [KFL,KF]) (by simp [KFL,KF]) ?_
 dsimp only [c61,r61,go_sem,rA,rM,rS]
 refine gb ?_;dsimp only [go_sem,rA,rM,rS]
 refine gb ?_;dsimp only [go_sem,rA,rM,rS]
 refine gb ?_;dsimp only [go_sem,rA,rM,rS]
 simp [inR]
theorem spanned_ok (s:Span) (lo hi:Int):Ct Try.prog 92 [.agg (spanL s),I lo,I hi] (B (okSp lo hi s)):=by
 refine t92 (by simp [spanL,KFL,KF]) (by simp [KFL,KF]) ?_
 dsimp only [c92,r92,spanL,go_sem,rA,rM,rS]
 refine call (within_ok _ _ _) ?_
 dsimp only [go_sem,rA,rM,rS]
 repeat (refine gb ?_;dsimp only [go_sem,rA,rM,rS])
 (simp only [okSp,inR,Option.some.injEq,SV.v.injEq,Value.bool.injEq] <;> grind)
theorem from1_ok (lo hi x:Int):Ct Try.prog 91 [I x,.ps [I lo] 0,.ps [I hi] 0] (B (!inR lo hi x)):=by
 refine t91 (by simp [KFL,KF]) (by simp [KFL,KF]) ?_
 dsimp only [c91,r91,go_sem,rA,rM,rS]
 repeat (refine gb ?_;dsimp only [go_sem,rA,rM,rS])
 (simp only [inR,Option.some.injEq,SV.v.injEq,Value.bool.injEq] <;> grind)
theorem from_any (lo hi:Int) (l:List Int) (hl:l.length < 4611686018427387904) (c:Bool):Ct Try.prog 58 [I lo,I hi,.sl c 1 (l.map intL)] (B (l.all (inR lo hi))):=by
 refine t58 (by simp [KFR_iff,intL,KFL,KF]) (by simp [KFL,KF]) ?_
 dsimp only [c58,r58,go_sem,rA,rM,rS]
 refine callv (by simp [FLT]) (res:=B (l.any fun x=>!inR lo hi x)) ?_ ?_
 · dsimp only [go_sem,rA,rM,rS]
   exact con90 91 [.ps [I lo] 0,.ps [I hi] 0] (by simp [KFL,KF]) (fun x=>!inR lo hi x) l (fun x _=>from1_ok lo hi x) hl
 · dsimp only [go_sem,rA,rM,rS]
   simp [List.all_eq_not_any_not]
theorem from1 (lo hi a:Int) (c:Bool):Ct Try.prog 58 [I lo,I hi,.sl c 1 [[I a]]] (B (inR lo hi a)):=by
 have:=from_any lo hi [a] (by simp) c
 simpa [intL] using this
theorem from2 (lo hi a b:Int) (c:Bool):Ct Try.prog 58 [I lo,I hi,.sl c 1 [[I a],[I b]]] (B (inR lo hi a && inR lo hi b)):=by
 have:=from_any lo hi [a,b] (by simp) c
 simpa [intL] using this
theorem ordered1_ok (lo hi:Int) (s:Span):Ct Try.prog 103 [.agg (spanL s),.ps [I lo] 0,.ps [I hi] 0] (B (!okSp lo hi s)):=by
 refine t103 (by simp [spanL,KFL,KF]) (by simp [KFL,KF]) ?_
 dsimp only [c103,r103,spanL,go_sem,rA,rM,rS]
 repeat (first | (refine gb ?_;dsimp only [go_sem,rA,rM,rS]) | (refine call (from2 _ _ _ _ _) ?_;dsimp only [go_sem,rA,rM,rS]))
 (simp only [okSp,inR,Option.some.injEq,SV.v.injEq,Value.bool.injEq] <;> grind)
theorem ordered_any (lo hi:Int) (l:List Span) (hl:l.length < 4611686018427387904) (c:Bool):Ct Try.prog 93 [I lo,I hi,.sl c 2 (l.map spanL)] (B (l.all (okSp lo hi))):=by
 refine t93 (by simp [KFR_iff,spanL,KFL,KF]) (by simp [KFL,KF]) ?_
 dsimp only [c93,r93,go_sem,rA,rM,rS]
 refine callv (by simp [FLT]) (res:=B (l.any fun x=>!okSp lo hi x)) ?_ ?_
 · dsimp only [go_sem,rA,rM,rS]
   exact con102 103 [.ps [I lo] 0,.ps [I hi] 0] (by simp [KFL,KF]) (fun x=>!okSp lo hi x) l (fun x _=>ordered1_ok lo hi x) hl
 · dsimp only [go_sem,rA,rM,rS]
   simp [List.all_eq_not_any_not]
theorem ordered1 (lo hi:Int) (s:Span) (c:Bool):Ct Try.prog 93 [I lo,I hi,.sl c 2 [[I s.lo,I s.hi]]] (B (okSp lo hi s)):=by
 have:=ordered_any lo hi [s] (by simp) c
 simpa [spanL] using this
theorem ordered2 (lo hi:Int) (s t:Span) (c:Bool):Ct Try.prog 93 [I lo,I hi,.sl c 2 [[I s.lo,I s.hi],[I t.lo,I t.hi]]] (B (okSp lo hi s && okSp lo hi t)):=by
 have:=ordered_any lo hi [s,t] (by simp) c
 simpa [spanL] using this
theorem dug_ok (w:Well):Ct Try.prog 73 [.agg (wellL w)] (B (okWell w)):=by
 refine t73 (by simp [wellL,KFL,KF]) (by simp [KFL,KF]) ?_
 dsimp only [c73,r73,wellL,go_sem,rA,rM,rS]
 repeat (first | (refine gb ?_;dsimp only [go_sem,rA,rM,rS]) | (refine call (from1 _ _ _ _) ?_;dsimp only [go_sem,rA,rM,rS]) | (refine call (from2 _ _ _ _ _) ?_;dsimp only [go_sem,rA,rM,rS]) | (refine call (ordered1 _ _ w.yld _) ?_;dsimp only [go_sem,rA,rM,rS]) | (refine call (ordered1 _ _ w.has _) ?_;dsimp only [go_sem,rA,rM,rS]))
 simp [okWell,Bool.and_assoc]
theorem trodden_ok (x:Leg) (n:Int) (h0:0 ≤ n) (h1:n ≤ 1000) (hg:x.gates.length < 4611686018427387904):Ct Try.prog 76 [.agg (legL x),I n] (B (okLeg n x)):=by
 have hw:IntKind.i64.wrap (n - 1) = n - 1:=w64_in (by omega) (by omega)
 refine t76 (by simp [legL,KFR_iff,gateL,KFL,KF]) (by simp [KFL,KF]) ?_
 dsimp only [c76,r76,legL,hw,go_sem,rA,rM,rS]
 simp only [hw]
 repeat (first | (refine gb ?_;dsimp only [go_sem,rA,rM,rS]) | (refine call (from2 _ _ _ _ _) ?_;dsimp only [go_sem,rA,rM,rS]) | (refine call (ordered1 _ _ x.long _) ?_;dsimp only [go_sem,rA,rM,rS]))
 simp only [List.length_map]
 refine br ?_ ?_
 · intro h
   dsimp only [go_sem,rA,rM,rS]
   (simp only [okLeg,Option.some.injEq,SV.v.injEq,Value.bool.injEq] <;> grind)
 · intro h
   dsimp only [go_sem,rA,rM,rS]
   have hh:okLeg n x = okGates 0 x.gates:=by simp only [okLeg];grind
   rw [hh]
   refine loopO (fun s:Nat × Int=>[(40,I s.1),(5,I s.2)]) (fun _=>[]) (fun s=>s.1 ≤ x.gates.length ∧ okGates s.2 (x.gates.drop s.1) = okGates 0 x.gates) (fun s=>x.gates.length - s.1) (0,0) ⟨Nat.zero_le _,rfl⟩ ?_ ?_
   · (refine ent_id ?_ ?_ ?_ rfl rfl <;> dsimp only [gateL,id,go_sem,rA,rM,rS] <;> simp [gateL,KFR_iff,KFR_app,KFR,KFL,KF,mtL_same,mtO,nbr])
   · rintro ⟨k,next⟩ ⟨hk,hi⟩
     dsimp only [go_sem,rA,rM,rS]
     refine br ?_ ?_
     · intro hlt
       have hlt:k < x.gates.length:=by simpa using hlt
       dsimp only [go_sem,rA,rM,rS]
       refine ixs_map k hlt rfl ?_
       dsimp only [gateL,go_sem,rA,rM,rS]
       repeat (first | (refine gb ?_;dsimp only [go_sem,rA,rM,rS]) | (refine call (ordered2 _ _ x.gates[k].opens x.gates[k].shuts _) ?_;dsimp only [go_sem,rA,rM,rS]) | (refine call (from1 _ _ _ _) ?_;dsimp only [go_sem,rA,rM,rS]))
       have hd:x.gates.drop k = x.gates[k] :: x.gates.drop (k + 1):=List.drop_eq_getElem_cons hlt
       refine br ?_ ?_
       · intro hb
         dsimp only [go_sem,rA,rM,rS]
         rw [← hi,hd]
         (simp only [okGates,Option.some.injEq,SV.v.injEq,Value.bool.injEq] <;> grind)
       · intro hb
         dsimp only [go_sem,rA,rM,rS]
         have hs:okSp 0 100000 x.gates[k].shuts = true:=by grind
         simp only [okSp,decide_eq_true_eq] at hs
         rw [w64_in (n:=x.gates[k].shuts.hi + 1) (by omega) (by omega),w64_in (n:=(k:Int) + 1) (by omega) (by omega)]
         refine ⟨(k + 1,x.gates[k].shuts.hi + 1),⟨hlt,?_⟩,by simp only;omega,?_⟩
         · rw [← hi,hd];simp only [okGates];grind
         · (refine ent_id ?_ ?_ ?_ rfl rfl <;> dsimp only [gateL,id,go_sem,rA,rM,rS] <;> simp [gateL,KFR_iff,KFR_app,KFR,KFL,KF,mtL_same,mtO,nbr])
     · intro hlt
       have hlt:k = x.gates.length:=by simp at hlt;omega
       dsimp only [go_sem,rA,rM,rS]
       rw [← hi,hlt];simp [okGates]
theorem leg1_ok (l:Land) (x:Leg) (hs:Small l) (hx:x ∈ l.legs):Ct Try.prog 75 [.agg (legL x),.ps (landL l) 0] (B (!okLeg l.wells.length x)):=by
 have hg:=hs.2.2 x hx
 refine t75 (by simp [legL,landL,wellL,gateL,KFR_iff,KFL,KF]) (by simp [KFL,KF]) ?_
 dsimp only [c75,r75,legL,landL,go_sem,rA,rM,rS]
 simp only [List.length_map]
 refine call (trodden_ok x l.wells.length (by omega) (by have:=hs.1;omega) (by omega)) ?_
 dsimp only [go_sem,rA,rM,rS]
theorem well1_ok (w:Well):Ct Try.prog 72 [.agg (wellL w)] (B (!okWell w)):=by
 refine t72 (by simp [wellL,KFL,KF]) (by simp [KFL,KF]) ?_
 dsimp only [c72,r72,wellL,go_sem,rA,rM,rS]
 refine call (dug_ok w) ?_
 dsimp only [go_sem,rA,rM,rS]
theorem check_ok (l:Land) (hs:Small l):Ct Try.prog 26 [.agg (landL l)] (I (if okLand l = true then 0 else 30)):=by
 refine t26 (by simp [landL,wellL,legL,gateL,KFR_iff,KFL,KF]) (by simp [KFL,KF]) ?_
 dsimp only [c26,r26,landL,go_sem,rA,rM,rS]
 refine call (con71 72 [] (by simp [KFL]) (fun w=>!okWell w) l.wells (fun w _=>well1_ok w) (by have:=hs.1;omega)) ?_
 dsimp only [go_sem,rA,rM,rS]
 refine callv (res:=B (l.legs.any fun x=>!okLeg l.wells.length x)) (by simp [FLT]) ?_ ?_
 · dsimp only [go_sem,rA,rM,rS]
   exact con74 75 [.ps (landL l) 0] (by simp [landL,wellL,legL,gateL,KFR_iff,KFL,KF]) (fun x=>!okLeg l.wells.length x) l.legs (fun x hx=>leg1_ok l x hs hx) (by have:=hs.2.1;omega)
 dsimp only [go_sem,rA,rM,rS]
 repeat (first | (refine gb ?_;dsimp only [go_sem,rA,rM,rS]) | (refine call (from1 _ _ _ _) ?_;dsimp only [go_sem,rA,rM,rS]))
 simp only [List.length_map]
 have key:okLand l = !(!inR 1 12 l.wells.length || decide ((l.legs.length:Int) > 24) || !(!l.wells.any fun w=>!okWell w) || !(!l.legs.any fun x=>!okLeg l.wells.length x)):=by
  simp only [okLand,List.all_eq_not_any_not];grind
 rw [key]
 refine br ?_ ?_
 · intro h
   dsimp only [go_sem,rA,rM,rS]
   rw [h];rfl
 · intro h
   dsimp only [go_sem,rA,rM,rS]
   rw [h];rfl
theorem filled_wrap {w:Well} {s:Span} {n:Int} (hw:okWell w = true) (h1:0 ≤ s.lo) (h2:s.lo ≤ w.room) (h3:0 ≤ s.hi) (h4:s.hi ≤ w.room) (h5:-200000 ≤ n) (h6:n ≤ 200000) :
 IntKind.i64.wrap (s.lo + IntKind.i64.wrap (n * w.yld.lo)) = s.lo + n * w.yld.lo ∧ IntKind.i64.wrap (s.hi + IntKind.i64.wrap (n * w.yld.hi)) = s.hi + n * w.yld.hi:=by
 simp only [okWell,okSp,inR,Bool.and_eq_true,decide_eq_true_eq] at hw
 have key:∀ y:Int,0 ≤ y → y ≤ 10000000 → -2000000000000 ≤ n * y ∧ n * y ≤ 2000000000000:=fun y a b=>by
  constructor
  · have:=Int.mul_le_mul_of_nonneg_right h5 a;omega
  · have:=Int.mul_le_mul_of_nonneg_right h6 a;omega
 have k1:=key w.yld.lo (by omega) (by omega)
 have k2:=key w.yld.hi (by omega) (by omega)
 rw [w64_in (n:=n * w.yld.lo) (by omega) (by omega),w64_in (n:=n * w.yld.hi) (by omega) (by omega),w64_in (by omega) (by omega),w64_in (by omega) (by omega)]
 exact ⟨rfl,rfl⟩
theorem filled_lo {w:Well} {s:Span} {n:Int} (hw:okWell w = true) (h1:0 ≤ s.lo) (h2:s.lo ≤ w.room) (h3:0 ≤ s.hi) (h4:s.hi ≤ w.room) (h5:-200000 ≤ n) (h6:n ≤ 200000):-2000000000000 ≤ (filled w s n).lo:=by
 simp only [okWell,okSp,inR,Bool.and_eq_true,decide_eq_true_eq] at hw
 have k1:-2000000000000 ≤ n * w.yld.lo:=by
  have:=Int.mul_le_mul_of_nonneg_right h5 (show 0 ≤ w.yld.lo by omega);omega
 simp only [filled];omega
theorem filled_ok (w:Well) (s:Span) (n:Int) (hw:okWell w = true) (h1:0 ≤ s.lo) (h2:s.lo ≤ w.room) (h3:0 ≤ s.hi) (h4:s.hi ≤ w.room) (h5:-200000 ≤ n) (h6:n ≤ 200000) :
 Ct Try.prog 59 [.agg (wellL w),.agg (spanL s),I n] (.agg (spanL (filled w s n))):=by
 obtain ⟨k1,k2⟩:=filled_wrap hw h1 h2 h3 h4 h5 h6
 refine t59 (by simp [wellL,spanL,KFL,KF]) (by simp [spanL,KFL,KF]) ?_
 dsimp only [c59,r59,wellL,spanL,go_sem,rA,rM,rS]
 simp only [k1,k2,filled]
def wres (r:Span × Int × Int):SV:=.tup [.agg (spanL r.1),I r.2.1,I r.2.2]
theorem get_well {l:Land} {well:Int} (h:inR 0 (l.wells.length - 1) well = true):∃ (k:Nat) (hk:k < l.wells.length),well = (k:Int) ∧ l.wells[well.toNat]? = some l.wells[k]:=by
 simp only [inR,decide_eq_true_eq] at h
 refine ⟨well.toNat,by omega,by omega,?_⟩
 rw [List.getElem?_eq_getElem (by omega)]
theorem water_ok (l:Land) (hs:Small l) (well day:Int) (draws:List Draw) (hd:draws.length ≤ 1000) :
 Ct Try.prog 17 [.agg (landL l),I well,.sl false 3 (draws.map drawL),I day] (wres (waterF l well draws day)):=by
 have hw1:IntKind.i64.wrap ((l.wells.length:Int) - 1) = (l.wells.length:Int) - 1:=w64_in (by omega) (by have:=hs.1;omega)
 refine t17 (by simp [landL,wellL,legL,gateL,drawL,KFR_iff,KFL,KF]) (by simp [wres,spanL,KFL,KF]) ?_
 dsimp only [c17,r17,landL,go_sem,rA,rM,rS]
 refine call (check_ok l hs) ?_
 dsimp only [go_sem,rA,rM,rS]
 by_cases ho:okLand l = true
 case neg =>
  rw [if_neg ho]
  refine br_t rfl ?_
  dsimp only [go_sem,rA,rM,rS]
  simp [waterF,ho,wres,spanL]
 rw [if_pos ho]
 refine br_f rfl ?_
 dsimp only [go_sem,rA,rM,rS]
 simp only [List.length_map,hw1]
 repeat (first | (refine gb ?_;dsimp only [go_sem,rA,rM,rS]) | (refine call (from1 _ _ _ _) ?_;dsimp only [go_sem,rA,rM,rS]))
 by_cases ha:(inR 0 (l.wells.length - 1) well && inR 0 100000 day) = true
 case neg =>
  refine br_t (by grind) ?_
  dsimp only [go_sem,rA,rM,rS]
  simp [waterF,ho,wres,spanL,ha]
 refine br_f (by grind) ?_
 dsimp only [go_sem,rA,rM,rS]
 by_cases hm:draws.length > 200
 case pos =>
  refine br_t (by simp;omega) ?_
  dsimp only [go_sem,rA,rM,rS]
  simp [waterF,ho,wres,spanL,ha,hm]
 refine br_f (by simp;omega) ?_
 dsimp only [go_sem,rA,rM,rS]
 refine loopO (fun s:Nat × Int=>[(50,I s.1),(12,I s.2)]) (fun _=>[]) (fun s=>s.1 ≤ draws.length ∧ okDraws l.wells.length s.2 (draws.drop s.1) = okDraws l.wells.length 0 draws) (fun s=>draws.length - s.1) (0,0) ⟨Nat.zero_le _,rfl⟩ ?_ ?_
 · (refine ent_id ?_ ?_ ?_ rfl rfl <;> dsimp only [gateL,wellL,legL,drawL,id,go_sem,rA,rM,rS] <;> simp [gateL,wellL,legL,drawL,KFR_iff,KFR_app,KFR,KFL,KF,mtL_same,mtO,nbr])
 · rintro ⟨k,last⟩ ⟨hk,hi⟩
   simp only at hk hi
   dsimp only [go_sem,rA,rM,rS]
   by_cases hlt:k < draws.length
   · refine br_t (by simpa using hlt) ?_
     dsimp only [go_sem,rA,rM,rS]
     refine ixs_map k hlt rfl ?_
     dsimp only [drawL,go_sem,rA,rM,rS]
     simp only [List.length_map,hw1]
     repeat (first | (refine gb ?_;dsimp only [go_sem,rA,rM,rS]) | (refine call (from1 _ _ _ _) ?_;dsimp only [go_sem,rA,rM,rS]))
     have hdr:draws.drop k = draws[k] :: draws.drop (k + 1):=List.drop_eq_getElem_cons hlt
     rw [hdr] at hi
     simp only [okDraws] at hi
     refine br ?_ ?_
     · intro h
       dsimp only [go_sem,rA,rM,rS]
       have:okDraws l.wells.length 0 draws = false:=by rw [← hi];grind
       simp [waterF,ho,wres,spanL,ha,hm,this]
     · intro h
       dsimp only [go_sem,rA,rM,rS]
       rw [w64_in (n:=(k:Int) + 1) (by omega) (by omega)]
       refine ⟨(k + 1,draws[k].day),⟨hlt,?_⟩,by simp only;omega,?_⟩
       · simp only;grind
       · (refine ent_id ?_ ?_ ?_ rfl rfl <;> dsimp only [gateL,wellL,legL,drawL,id,go_sem,rA,rM,rS] <;> simp [gateL,wellL,legL,drawL,KFR_iff,KFR_app,KFR,KFL,KF,mtL_same,mtO,nbr])
   · refine br_f (by simp;omega) ?_
     dsimp only [go_sem,rA,rM,rS]
     have hk':k = draws.length:=by omega
     subst hk'
     simp only [List.drop_length,okDraws] at hi
     obtain ⟨kw,hkw,rfl,hget⟩:=get_well (Bool.and_eq_true_iff.1 ha).1
     refine ixs_map kw hkw rfl ?_
     dsimp only [wellL,go_sem,rA,rM,rS]
     have hwf:waterF l kw draws day = waterL l.wells[kw] kw day l.wells[kw].has (-1) 0 draws:=by
      simp only [waterF,ho,ha,hm,← hi,hget];simp
     rw [hwf]
     have hok:=okLand_well ho l.wells[kw] (List.getElem_mem _)
     have hmem:=okDraws_mem hi.symm (Int.le_refl _)
     have hday:0 ≤ day ∧ day ≤ 100000:=by simp only [inR,Bool.and_eq_true,decide_eq_true_eq] at ha;omega
     have hroom:0 ≤ l.wells[kw].has.lo ∧ l.wells[kw].has.lo ≤ l.wells[kw].room ∧ 0 ≤ l.wells[kw].has.hi ∧ l.wells[kw].has.hi ≤ l.wells[kw].room ∧ l.wells[kw].room ≤ 1000000000:=by
      simp only [okWell,okSp,inR,Bool.and_eq_true,decide_eq_true_eq] at hok;omega
     have hroom2:∀ x:Int,x ≤ l.wells[kw].room → x ≤ 1000000000:=fun x h=>by omega
     refine loopO (fun s:Nat × Span × Int=>[(91,I s.1),(17,I s.2.2)]) (fun s=>[(3,.cells (spanL s.2.1) 29)])
      (fun s=>s.1 ≤ draws.length ∧ waterL l.wells[kw] kw day s.2.1 s.2.2 s.1 (draws.drop s.1) = waterL l.wells[kw] kw day l.wells[kw].has (-1) 0 draws ∧
       0 ≤ s.2.1.lo ∧ s.2.1.lo ≤ l.wells[kw].room ∧ 0 ≤ s.2.1.hi ∧ s.2.1.hi ≤ l.wells[kw].room ∧ -1 ≤ s.2.2 ∧ s.2.2 ≤ 100000) (fun s=>draws.length - s.1) (0,l.wells[kw].has,-1)
      ⟨Nat.zero_le _,rfl,hroom.1,hroom.2.1,hroom.2.2.1,hroom.2.2.2.1,by simp,by simp⟩ ?_ ?_
     · (refine ent_id ?_ ?_ ?_ rfl rfl <;> dsimp only [gateL,wellL,legL,drawL,spanL,id,go_sem,rA,rM,rS] <;> simp [gateL,wellL,legL,drawL,spanL,KFR_iff,KFR_app,KFR,KFL,KF,mtL_same,mtO,nbr])
     · rintro ⟨k,now,ev⟩ ⟨hk2,hi2,n1,n2,n3,n4,e1,e2⟩
       simp only at hk2 hi2 n1 n2 n3 n4 e1 e2
       dsimp only [spanL,go_sem,rA,rM,rS]
       by_cases hlt2:k < draws.length
       · refine br_t (by simpa using hlt2) ?_
         dsimp only [go_sem,rA,rM,rS]
         refine ixs_map k hlt2 rfl ?_
         dsimp only [drawL,go_sem,rA,rM,rS]
         repeat (first | (refine gb ?_;dsimp only [go_sem,rA,rM,rS]))
         have hx:=hmem draws[k] (List.getElem_mem _)
         have hdr:draws.drop k = draws[k] :: draws.drop (k + 1):=List.drop_eq_getElem_cons hlt2
         rw [hdr] at hi2
         simp only [waterL] at hi2
         by_cases hc:(draws[k].well != (kw:Int) || decide (draws[k].day ≥ day)) = true
         · refine br_t hc ?_
           dsimp only [go_sem,rA,rM,rS]
           rw [if_pos hc] at hi2
           rw [w64_in (n:=(k:Int) + 1) (by omega) (by omega)]
           refine ⟨(k + 1,now,ev),⟨hlt2,hi2,n1,n2,n3,n4,e1,e2⟩,by simp only;omega,?_⟩
           (refine ent_id ?_ ?_ ?_ rfl rfl <;> dsimp only [gateL,wellL,legL,drawL,spanL,id,go_sem,rA,rM,rS] <;> simp [gateL,wellL,legL,drawL,spanL,KFR_iff,KFR_app,KFR,KFL,KF,mtL_same,mtO,nbr])
         · refine br_f (by simpa using hc) ?_
           rw [if_neg hc] at hi2
           dsimp only [go_sem,rA,rM,rS]
           rw [w64_in (n:=draws[k].day - ev) (by omega) (by omega)]
           refine call (filled_ok l.wells[kw] now (draws[k].day - ev) hok n1 n2 n3 n4 (by omega) (by omega)) ?_
           dsimp only [spanL,go_sem,rA,rM,rS]
           have hbig:-2000000000000 ≤ (filled l.wells[kw] now (draws[k].day - ev)).lo:=filled_lo hok n1 n2 n3 n4 (by omega) (by omega)
           have hf2:(filled l.wells[kw] now (draws[k].day - ev)).hi ≤ l.wells[kw].room:=by simp only [filled];omega
           have hf1:(filled l.wells[kw] now (draws[k].day - ev)).lo ≤ l.wells[kw].room:=by simp only [filled];omega
           generalize hF:filled l.wells[kw] now (draws[k].day - ev) = F at *
           by_cases hdry:F.hi < draws[k].water
           · refine br_t (by simpa using hdry) ?_
             dsimp only [go_sem,rA,rM,rS]
             rw [if_pos hdry] at hi2
             rw [← hi2];rfl
           · refine br_f (by simpa using hdry) ?_
             dsimp only [go_sem,rA,rM,rS]
             rw [if_neg hdry] at hi2
             rw [w64_in (n:=F.lo - draws[k].water) (by omega) (by omega),w64_in (n:=F.hi - draws[k].water) (by omega) (by omega),w64_in (n:=(k:Int) + 1) (by omega) (by omega)]
             refine ⟨(k + 1,⟨max 0 (F.lo - draws[k].water),F.hi - draws[k].water⟩,draws[k].day),⟨hlt2,hi2,by simp only;omega,by simp only;omega,by simp only;omega,by simp only;omega,by simp only;omega,by simp only;omega⟩,by simp only;omega,?_⟩
             (refine ent_id ?_ ?_ ?_ rfl rfl <;> dsimp only [gateL,wellL,legL,drawL,spanL,id,go_sem,rA,rM,rS] <;> simp [gateL,wellL,legL,drawL,spanL,KFR_iff,KFR_app,KFR,KFL,KF,mtL_same,mtO,nbr])
       · refine br_f (by simp;omega) ?_
         dsimp only [go_sem,rA,rM,rS]
         rw [w64_in (n:=day - 1) (by omega) (by omega),w64_in (n:=day - 1 - ev) (by omega) (by omega)]
         refine call (filled_ok l.wells[kw] now (day - 1 - ev) hok n1 n2 n3 n4 (by omega) (by omega)) ?_
         dsimp only [spanL,go_sem,rA,rM,rS]
         have hk':k = draws.length:=by omega
         subst hk'
         simp only [List.drop_length,waterL] at hi2
         rw [← hi2];rfl
end Go.Proofs.Ytkjldleglbbkeaa
set_option maxRecDepth 100000
set_option maxHeartbeats 4000000
namespace Go.Proofs.Ytkjldleglbbkeaa
open Go Go.Sx Go.Azalai
def wkres (r:Int × Int):SV:=.tup [I r.1,I r.2]
end Go.Proofs.Ytkjldleglbbkeaa
set_option maxRecDepth 100000
set_option maxHeartbeats 4000000
namespace Go.Proofs.Ytkjldleglbbkeaa
open Go Go.Sx Go.Azalai
theorem landR_ok (l:Land) (hs:Small l):Ct Try.prog 60 [.agg (landL l)] (B (okLand l)):=by
 have hw1:IntKind.i64.wrap ((l.wells.length:Int) - 1) = (l.wells.length:Int) - 1:=w64_in (by omega) (by have:=hs.1;omega)
 refine t60 (by simp [landL,wellL,legL,gateL,KFR_iff,KFL,KF]) (by simp [KFL,KF]) ?_
 dsimp only [c60,r60,landL,go_sem,rA,rM,rS]
 refine call (within_ok _ _ _) ?_
 dsimp only [go_sem,rA,rM,rS]
 repeat (refine gb ?_;dsimp only [go_sem,rA,rM,rS])
 simp only [List.length_map]
 refine br ?_ ?_
 · intro h
   dsimp only [go_sem,rA,rM,rS]
   have:okLand l = false:=by simp only [okLand];grind
   rw [this]
 intro h
 dsimp only [go_sem,rA,rM,rS]
 have ho1:okLand l = (l.wells.all okWell && l.legs.all (okLeg l.wells.length)):=by simp only [okLand];grind
 refine loopO (fun k:Nat=>[(3,I k)]) (fun _=>[]) (fun k=>k ≤ l.wells.length ∧ (l.wells.drop k).all okWell = l.wells.all okWell) (fun k=>l.wells.length - k) 0 ⟨Nat.zero_le _,rfl⟩ ?_ ?_
 · (refine ent_id ?_ ?_ ?_ rfl rfl <;> dsimp only [gateL,wellL,legL,id,go_sem,rA,rM,rS] <;> simp [gateL,wellL,legL,KFR_iff,KFR_app,KFR,KFL,KF,mtL_same,mtO,nbr])
 intro k ⟨hk,hi⟩
 dsimp only [go_sem,rA,rM,rS]
 by_cases hlt:k < l.wells.length
 · refine br_t (by simpa using hlt) ?_
   dsimp only [go_sem,rA,rM,rS]
   refine ixs_map k hlt rfl ?_
   dsimp only [wellL,go_sem,rA,rM,rS]
   repeat (first | (refine gb ?_;dsimp only [go_sem,rA,rM,rS]) | (refine call (within_ok _ _ _) ?_;dsimp only [go_sem,rA,rM,rS]) | (refine call (spanned_ok l.wells[k].yld _ _) ?_;dsimp only [go_sem,rA,rM,rS]) | (refine call (spanned_ok l.wells[k].has _ _) ?_;dsimp only [go_sem,rA,rM,rS]))
   rw [List.drop_eq_getElem_cons hlt,List.all_cons] at hi
   refine br ?_ ?_
   · intro hb
     dsimp only [go_sem,rA,rM,rS]
     have:okWell l.wells[k] = false:=by simp only [okWell];grind
     rw [ho1,← hi,this];rfl
   · intro hb
     dsimp only [go_sem,rA,rM,rS]
     rw [w64_in (n:=(k:Int) + 1) (by omega) (by have:=hs.1;omega)]
     have:okWell l.wells[k] = true:=by simp only [okWell];grind
     rw [this,Bool.true_and] at hi
     refine ⟨k + 1,⟨hlt,hi⟩,by omega,?_⟩
     (refine ent_id ?_ ?_ ?_ rfl rfl <;> dsimp only [gateL,wellL,legL,id,go_sem,rA,rM,rS] <;> simp [gateL,wellL,legL,KFR_iff,KFR_app,KFR,KFL,KF,mtL_same,mtO,nbr])
 refine br_f (by simp;omega) ?_
 dsimp only [go_sem,rA,rM,rS]
 have hke:k = l.wells.length:=by omega
 subst hke
 rw [List.drop_length] at hi
 rw [← hi] at ho1
 rw [show okLand l = l.legs.all (okLeg l.wells.length) from by rw [ho1];simp]
 refine loopO (fun k:Nat=>[(5,I k)]) (fun _=>[]) (fun k=>k ≤ l.legs.length ∧ (l.legs.drop k).all (okLeg l.wells.length) = l.legs.all (okLeg l.wells.length)) (fun k=>l.legs.length - k) 0 ⟨Nat.zero_le _,rfl⟩ ?_ ?_
 · (refine ent_id ?_ ?_ ?_ rfl rfl <;> dsimp only [gateL,wellL,legL,id,go_sem,rA,rM,rS] <;> simp [gateL,wellL,legL,KFR_iff,KFR_app,KFR,KFL,KF,mtL_same,mtO,nbr])
 intro k ⟨hk,hi⟩
 dsimp only [go_sem,rA,rM,rS]
 by_cases hlt:k < l.legs.length
 · refine br_t (by simpa using hlt) ?_
   dsimp only [go_sem,rA,rM,rS]
   refine ixs_map k hlt rfl ?_
   dsimp only [legL,go_sem,rA,rM,rS]
   simp only [List.length_map,hw1]
   repeat (first | (refine gb ?_;dsimp only [go_sem,rA,rM,rS]) | (refine call (within_ok _ _ _) ?_;dsimp only [go_sem,rA,rM,rS]) | (refine call (spanned_ok l.legs[k].long _ _) ?_;dsimp only [go_sem,rA,rM,rS]))
   rw [List.drop_eq_getElem_cons hlt,List.all_cons] at hi
   simp only [List.length_map]
   have hgl:=hs.2.2 l.legs[k] (List.getElem_mem _)
   generalize l.legs[k] = x at *
   refine br ?_ ?_
   · intro hb
     dsimp only [go_sem,rA,rM,rS]
     have:okLeg l.wells.length x = false:=by simp only [okLeg];grind
     rw [← hi,this];rfl
   · intro hb
     dsimp only [go_sem,rA,rM,rS]
     have hx:okLeg l.wells.length x = okGates 0 x.gates:=by simp only [okLeg];grind
     refine loopO (fun s:Nat × Int=>[(8,I s.1),(7,I s.2)]) (fun _=>[]) (fun s=>s.1 ≤ x.gates.length ∧ okGates (s.2 + 1) (x.gates.drop s.1) = okGates 0 x.gates) (fun s=>x.gates.length - s.1) (0,-1) ⟨Nat.zero_le _,rfl⟩ ?_ ?_
     · (refine ent_id ?_ ?_ ?_ rfl rfl <;> dsimp only [gateL,wellL,legL,id,go_sem,rA,rM,rS] <;> simp [gateL,wellL,legL,KFR_iff,KFR_app,KFR,KFL,KF,mtL_same,mtO,nbr])
     rintro ⟨j,last⟩ ⟨hj,hji⟩
     simp only at hj hji
     dsimp only [go_sem,rA,rM,rS]
     by_cases hlt2:j < x.gates.length
     · refine br_t (by simpa using hlt2) ?_
       dsimp only [go_sem,rA,rM,rS]
       refine ixs_map j hlt2 rfl ?_
       dsimp only [gateL,go_sem,rA,rM,rS]
       repeat (first | (refine gb ?_;dsimp only [go_sem,rA,rM,rS]) | (refine call (spanned_ok x.gates[j].opens _ _) ?_;dsimp only [go_sem,rA,rM,rS]) | (refine call (spanned_ok x.gates[j].shuts _ _) ?_;dsimp only [go_sem,rA,rM,rS]))
       rw [List.drop_eq_getElem_cons hlt2] at hji
       simp only [okGates] at hji
       refine br ?_ ?_
       · intro hb2
         dsimp only [go_sem,rA,rM,rS]
         have:okLeg l.wells.length x = false:=by rw [hx,← hji];simp only [inR];grind
         rw [← hi,this];rfl
       · intro hb2
         dsimp only [go_sem,rA,rM,rS]
         rw [w64_in (n:=(j:Int) + 1) (by omega) (by omega)]
         refine ⟨(j + 1,x.gates[j].shuts.hi),⟨hlt2,?_⟩,by simp only;omega,?_⟩
         · simp only;rw [← hji];simp only [inR];grind
         · (refine ent_id ?_ ?_ ?_ rfl rfl <;> dsimp only [gateL,wellL,legL,id,go_sem,rA,rM,rS] <;> simp [gateL,wellL,legL,KFR_iff,KFR_app,KFR,KFL,KF,mtL_same,mtO,nbr])
     · refine br_f (by simp;omega) ?_
       dsimp only [go_sem,rA,rM,rS]
       rw [w64_in (n:=(k:Int) + 1) (by omega) (by have:=hs.2.1;omega)]
       have hje:j = x.gates.length:=by omega
       subst hje
       rw [List.drop_length] at hji
       simp only [okGates] at hji
       rw [hx,← hji,Bool.true_and] at hi
       refine ⟨k + 1,⟨hlt,hi⟩,by omega,?_⟩
       (refine ent_id ?_ ?_ ?_ rfl rfl <;> dsimp only [gateL,wellL,legL,id,go_sem,rA,rM,rS] <;> simp [gateL,wellL,legL,KFR_iff,KFR_app,KFR,KFL,KF,mtL_same,mtO,nbr])
 refine br_f (by simp;omega) ?_
 dsimp only [go_sem,rA,rM,rS]
 have hke:k = l.legs.length:=by omega
 subst hke
 rw [List.drop_length] at hi
 rw [← hi];rfl
theorem great_ok (l:Land):Ct Try.prog 16 [.agg (landL l)] (B (greatF l)):=by
 refine t16 (by simp [landL,wellL,legL,gateL,KFR_iff,KFL,KF]) (by simp [KFL,KF]) ?_
 dsimp only [c16,r16,landL,go_sem,rA,rM,rS]
 repeat (refine gb ?_;dsimp only [go_sem,rA,rM,rS])
 simp only [List.length_map]
 refine br ?_ ?_
 · intro h
   dsimp only [go_sem,rA,rM,rS]
   (simp only [greatF,Option.some.injEq,SV.v.injEq,Value.bool.injEq] <;> grind)
 intro h
 dsimp only [go_sem,rA,rM,rS]
 have hg:greatF l = l.legs.any fun x=>decide (x.gates.length > 20):=by simp only [greatF];grind
 have hlen:l.legs.length ≤ 40:=by grind
 rw [hg]
 refine loopO (fun k:Nat=>[(3,I k)]) (fun _=>[]) (fun k=>k ≤ l.legs.length ∧ ((l.legs.drop k).any fun x=>decide (x.gates.length > 20)) = l.legs.any fun x=>decide (x.gates.length > 20)) (fun k=>l.legs.length - k) 0 ⟨Nat.zero_le _,rfl⟩ ?_ ?_
 · (refine ent_id ?_ ?_ ?_ rfl rfl <;> dsimp only [gateL,wellL,legL,id,go_sem,rA,rM,rS] <;> simp [gateL,wellL,legL,KFR_iff,KFR_app,KFR,KFL,KF,mtL_same,mtO,nbr])
 intro k ⟨hk,hi⟩
 dsimp only [go_sem,rA,rM,rS]
 by_cases hlt:k < l.legs.length
 · refine br_t (by simpa using hlt) ?_
   dsimp only [go_sem,rA,rM,rS]
   refine ixs_map k hlt rfl ?_
   dsimp only [legL,go_sem,rA,rM,rS]
   rw [List.drop_eq_getElem_cons hlt,List.any_cons] at hi
   refine br ?_ ?_
   · intro hb
     dsimp only [go_sem,rA,rM,rS]
     have:decide (l.legs[k].gates.length > 20) = true:=by simp at hb ⊢;omega
     rw [← hi,this];rfl
   · intro hb
     dsimp only [go_sem,rA,rM,rS]
     rw [w64_in (n:=(k:Int) + 1) (by omega) (by omega)]
     have:decide (l.legs[k].gates.length > 20) = false:=by simp at hb ⊢;omega
     rw [this,Bool.false_or] at hi
     refine ⟨k + 1,⟨hlt,hi⟩,by omega,?_⟩
     (refine ent_id ?_ ?_ ?_ rfl rfl <;> dsimp only [gateL,wellL,legL,id,go_sem,rA,rM,rS] <;> simp [gateL,wellL,legL,KFR_iff,KFR_app,KFR,KFL,KF,mtL_same,mtO,nbr])
 refine br_f (by simp;omega) ?_
 dsimp only [go_sem,rA,rM,rS]
 have hke:k = l.legs.length:=by omega
 subst hke
 rw [List.drop_length] at hi
 rw [← hi];rfl
end Go.Proofs.Ytkjldleglbbkeaa
set_option maxRecDepth 100000
set_option maxHeartbeats 4000000
namespace Go.Proofs.Ytkjldleglbbkeaa
open Go Go.Sx Go.Azalai
end Go.Proofs.Ytkjldleglbbkeaa
set_option maxRecDepth 100000
set_option maxHeartbeats 4000000
namespace Go.Azalai
def okPace (p:Span):Bool:=okSp 1 100000 p
def askF (l:Land) (p:Span):Int:=if okLand l = false then 30 else if okPace p = false then 31 else 0
def dayF (x:Leg) (p:Span):Span:=⟨(x.long.lo + p.hi - 1).tdiv p.hi,(x.long.hi + p.lo - 1).tdiv p.lo⟩
def outL (n day:Int) (o s:Gate → Int):List Gate → Int
 | []=>100001
 | g :: r=>if max day (o g) + n - 1 ≤ s g then max day (o g) else outL n day o s r
def accL (n day:Int) (o s:Gate → Int) (acc:Int):List Gate → Int
 | []=>acc
 | g :: r=>accL n day o s (if max day (o g) + n - 1 ≤ s g then min (min acc (max day (o g))) 100001 else acc) r
def mayF (x:Leg) (p:Span) (day:Int):Int:=outL (dayF x p).lo day (·.opens.lo) (·.shuts.hi) x.gates
def canF (x:Leg) (p:Span) (day:Int):Int:=outL (dayF x p).hi day (·.opens.hi) (·.shuts.lo) x.gates
def daysF (l:Land) (leg:Int) (p:Span):Span × Int :=
 if askF l p ≠ 0 then (⟨0,0⟩,askF l p)
 else if inR 0 (l.legs.length - 1) leg = false then (⟨0,0⟩,2)
 else match l.legs[leg.toNat]? with
  | some x=>(dayF x p,0)
  | none=>(⟨0,0⟩,0)
def leaveF (l:Land) (leg day:Int) (p:Span):Span × Int :=
 if askF l p ≠ 0 then (⟨0,0⟩,askF l p)
 else if (inR 0 (l.legs.length - 1) leg && inR 0 100000 day) = false then (⟨0,0⟩,2)
 else match l.legs[leg.toNat]? with
  | some x=>(⟨mayF x p day,canF x p day⟩,0)
  | none=>(⟨0,0⟩,0)
structure GoodLeg (x:Leg):Prop where
 l1:1 ≤ x.long.lo
 l2:x.long.lo ≤ x.long.hi
 l3:x.long.hi ≤ 1000000
 g1:x.gates.length ≤ 6
 g2:okGates 0 x.gates = true
theorem okLand_leg {l:Land} (h:okLand l = true):∀ x ∈ l.legs,GoodLeg x:=by
 simp only [okLand,Bool.and_eq_true,List.all_eq_true] at h
 intro x hx
 have:=h.2 x hx
 simp only [okLeg,okSp,Bool.and_eq_true,decide_eq_true_eq] at this
 exact ⟨by omega,by omega,by omega,by omega,this.2⟩
theorem okGates_mem:∀ {l:List Gate} {next:Int},okGates next l = true → 0 ≤ next → ∀ g ∈ l,0 ≤ g.opens.lo ∧ g.opens.lo ≤ g.opens.hi ∧ g.opens.hi ≤ 100000 ∧ 0 ≤ g.shuts.lo ∧ g.shuts.lo ≤ g.shuts.hi ∧ g.shuts.hi ≤ 100000 ∧ next ≤ g.opens.lo
 | [],_,_,_,g,hg=>by simp at hg
 | x :: l,next,h,h0,g,hg=>by
  simp only [okGates,okSp,inR,Bool.and_eq_true,decide_eq_true_eq] at h
  rcases List.mem_cons.1 hg with rfl | hg
  · omega
  · have:=okGates_mem h.2 (by omega) g hg;omega
theorem acc_out {n day:Int} {o s:Gate → Int} (hn:1 ≤ n) (ho:∀ g,(0 ≤ g.opens.lo ∧ g.opens.lo ≤ g.opens.hi ∧ g.opens.hi ≤ 100000 ∧ 0 ≤ g.shuts.lo ∧ g.shuts.lo ≤ g.shuts.hi ∧ g.shuts.hi ≤ 100000) → g.opens.lo ≤ o g ∧ s g ≤ g.shuts.hi) :
 ∀ {l:List Gate} {next acc:Int},okGates next l = true → 0 ≤ next → acc ≤ 100001 → accL n day o s acc l = min acc (outL n day o s l)
 | [],next,acc,_,_,ha=>by simp only [accL,outL];omega
 | x :: l,next,acc,h,h0,ha=>by
  have hm:=okGates_mem h h0 x (by simp)
  simp only [okGates,okSp,inR,Bool.and_eq_true,decide_eq_true_eq] at h
  have h1:=ho x ⟨hm.1,hm.2.1,hm.2.2.1,hm.2.2.2.1,hm.2.2.2.2.1,hm.2.2.2.2.2.1⟩
  have hrest:∀ (l:List Gate),(∀ g ∈ l,x.shuts.hi + 1 ≤ o g) → x.shuts.hi + 1 ≤ outL n day o s l:=fun l=>by
   induction l with
   | nil=>intro _;simp only [outL];omega
   | cons g l ih=>intro hg;simp only [outL];have:=hg g (by simp);have:=ih (fun g' h'=>hg g' (by simp [h']));split <;> omega
  have hr:=hrest l (fun g hg=>by
   have q:=okGates_mem h.2 (by omega) g hg
   have:=ho g ⟨q.1,q.2.1,q.2.2.1,q.2.2.2.1,q.2.2.2.2.1,q.2.2.2.2.2.1⟩
   omega)
  simp only [accL,outL]
  rw [acc_out hn ho h.2 (by omega) (by split <;> omega)]
  repeat' split
  all_goals first | rfl | omega
theorem day_bd {x:Leg} {p:Span} (h:GoodLeg x) (hp:okPace p = true):1 ≤ (dayF x p).lo ∧ (dayF x p).lo ≤ 1000000 ∧ 1 ≤ (dayF x p).hi ∧ (dayF x p).hi ≤ 1000000:=by
 simp only [okPace,okSp,decide_eq_true_eq] at hp
 obtain ⟨p1,p2,p3⟩:=hp
 obtain ⟨h1,h2,h3,_,_⟩:=h
 simp only [dayF]
 have key:∀ a b:Int,1 ≤ a → a ≤ 1000000 → 1 ≤ b → 1 ≤ (a + b - 1).tdiv b ∧ (a + b - 1).tdiv b ≤ 1000000:=fun a b ha ha2 hb=>by
  rw [Int.tdiv_eq_ediv_of_nonneg (by omega)]
  constructor
  · exact Int.le_ediv_of_mul_le (by omega) (by omega)
  · refine Int.le_of_lt_add_one (Int.ediv_lt_of_lt_mul (by omega) ?_)
    have:1 * a ≤ b * a:=Int.mul_le_mul_of_nonneg_right hb (by omega)
    have e:(1000000 + 1) * b = b * 1000000 + b:=by rw [Int.add_mul];omega
    have:b * a ≤ b * 1000000:=Int.mul_le_mul_of_nonneg_left ha2 (by omega)
    rw [e]
    have:=Int.mul_le_mul_of_nonneg_left ha2 (show (0:Int) ≤ b - 1 by omega)
    have q:(b - 1) * a = b * a - a:=by rw [Int.sub_mul];omega
    have q2:(b - 1) * 1000000 = b * 1000000 - 1000000:=by rw [Int.sub_mul];omega
    omega
 exact ⟨(key _ _ h1 (by omega) (by omega)).1,(key _ _ h1 (by omega) (by omega)).2,(key _ _ (by omega) h3 p1).1,(key _ _ (by omega) h3 p1).2⟩
end Go.Azalai
namespace Go.Proofs.Ytkjldleglbbkeaa
open Go Go.Sx Go.Azalai
def sres (r:Span × Int):SV:=.tup [.agg (spanL r.1),I r.2]
theorem checkR_ok (l:Land) (hs:Small l):Ct Try.prog 27 [.agg (landL l)] (I (if okLand l = true then 0 else 30)):=by
 refine t27 (by simp [landL,wellL,legL,gateL,KFR_iff,KFL,KF]) (by simp [KFL,KF]) ?_
 dsimp only [c27,r27,landL,go_sem,rA,rM,rS]
 refine call (landR_ok l hs) ?_
 dsimp only [go_sem,rA,rM,rS]
 refine br ?_ ?_
 · intro h
   dsimp only [go_sem,rA,rM,rS]
   have:okLand l = false:=by simpa using h
   simp [this]
 · intro h
   dsimp only [go_sem,rA,rM,rS]
   have:okLand l = true:=by simpa using h
   simp [this]
theorem paceR_ok (p:Span):Ct Try.prog 89 [.agg (spanL p)] (B (okPace p)):=by
 refine t89 (by simp [spanL,KFL,KF]) (by simp [KFL,KF]) ?_
 dsimp only [c89,r89,spanL,go_sem,rA,rM,rS]
 refine call (spanned_ok p _ _) ?_
 dsimp only [go_sem,rA,rM,rS]
 simp [okPace]
theorem get_leg {l:Land} {leg:Int} (h:inR 0 (l.legs.length - 1) leg = true):∃ (k:Nat) (hk:k < l.legs.length),leg = (k:Int) ∧ l.legs[leg.toNat]? = some l.legs[k]:=by
 simp only [inR,decide_eq_true_eq] at h
 refine ⟨leg.toNat,by omega,by omega,?_⟩
 rw [List.getElem?_eq_getElem (by omega)]
theorem ask0 {l:Land} {p:Span} (h:askF l p = 0):okLand l = true ∧ okPace p = true:=by
 unfold askF at h
 cases h1:okLand l <;> cases h2:okPace p <;> simp_all
end Go.Proofs.Ytkjldleglbbkeaa
set_option maxRecDepth 100000
set_option maxHeartbeats 4000000
namespace Go.Proofs.Ytkjldleglbbkeaa
open Go Go.Sx Go.Azalai
theorem min3_ok (a b d:Int) (c:Bool):Ct Try.prog 104 [.sl c 1 [[I a],[I b],[I d]]] (I (min (min a b) d)):=by
 refine t104 (by simp [KFR,KFL,KF]) (by simp [KFL,KF]) ?_
 dsimp only [c104,r104,go_sem,rA,rM,rS]
 refine br_f (by decide) ?_
 dsimp only [go_sem,rA,rM,rS]
 refine ixs 0 [I a] rfl rfl ?_
 dsimp only [go_sem,rA,rM,rS]
 refine unroll 3 ?_
 dsimp only [rnds_succ,go_sem,rA,rM,rS]
 refine br_t (by decide) ?_
 dsimp only [rnds_succ,go_sem,rA,rM,rS]
 refine ixs 1 [I b] rfl rfl ?_
 dsimp only [rnds_succ,go_sem,rA,rM,rS]
 refine br_t (by decide) ?_
 dsimp only [rnds_succ,go_sem,rA,rM,rS]
 refine ixs 2 [I d] rfl rfl ?_
 dsimp only [rnds_succ,go_sem,rA,rM,rS]
 refine br_f (by decide) ?_
 dsimp only [go_sem,rA,rM,rS]
theorem first_ok (a b:Int):Ct Try.prog 94 [.sl true 1 [[I a],[I b]]] (I (min (min a b) 100001)):=by
 refine t94 (by simp [KFR,KFL,KF]) (by simp [KFL,KF]) ?_
 dsimp only [c94,r94,go_sem,rA,rM,rS]
 refine app0 (by simp) ?_
 dsimp only [go_sem,rA,rM,rS]
 refine call (min3_ok a b 100001 false) ?_
 dsimp only [go_sem,rA,rM,rS]
theorem outL_le {n day:Int} {o s:Gate → Int} (hn:1 ≤ n):∀ {l:List Gate},(∀ g ∈ l,s g ≤ 100000) → outL n day o s l ≤ 100001
 | [],_=>by simp only [outL];omega
 | x :: l,h=>by
  have:=h x (by simp)
  have:=outL_le (day:=day) (o:=o) (s:=s) (l:=l) hn (fun g hg=>h g (by simp [hg]))
  simp only [outL];split <;> omega
def carL (l:Land) (p:Span):List SV:=[.sl false 9 (l.wells.map wellL),.sl false 5 (l.legs.map legL),I p.lo,I p.hi]
theorem open_ok (l:Land) (hs:Small l) (p:Span) (ha:askF l p = 0):Ct Try.prog 63 [.agg (landL l),.agg (spanL p)] (.tup [.agg (carL l p),I 0]):=by
 obtain ⟨h1,h2⟩:=ask0 ha
 refine t63 (by simp [landL,wellL,legL,gateL,spanL,KFR_iff,KFL,KF]) (by simp [carL,wellL,legL,gateL,spanL,KFR_iff,KFL,KF]) ?_
 dsimp only [c63,r63,landL,spanL,go_sem,rA,rM,rS]
 refine call (check_ok l hs) ?_
 dsimp only [go_sem,rA,rM,rS]
 refine br_f (by simp [h1]) ?_
 dsimp only [go_sem,rA,rM,rS]
 refine call (ordered1 1 100000 p _) ?_
 dsimp only [go_sem,rA,rM,rS]
 refine br_f (by simpa [okPace] using h2) ?_
 dsimp only [carL,go_sem,rA,rM,rS]
theorem open_err (l:Land) (hs:Small l) (p:Span) (ha:askF l p ≠ 0):Ct Try.prog 63 [.agg (landL l),.agg (spanL p)] (.tup [.agg [.v (.slice none 0 0),.v (.slice none 0 0),I 0,I 0],I (askF l p)]):=by
 refine t63 (by simp [landL,wellL,legL,gateL,spanL,KFR_iff,KFL,KF]) (by simp [KFL,KF]) ?_
 dsimp only [c63,r63,landL,spanL,go_sem,rA,rM,rS]
 refine call (check_ok l hs) ?_
 dsimp only [go_sem,rA,rM,rS]
 by_cases h1:okLand l = true
 case neg =>
  refine br_t (by simp [h1]) ?_
  dsimp only [go_sem,rA,rM,rS]
  simp [askF,h1]
 refine br_f (by simp [h1]) ?_
 dsimp only [go_sem,rA,rM,rS]
 refine call (ordered1 1 100000 p _) ?_
 dsimp only [go_sem,rA,rM,rS]
 have h2:okPace p = false:=by
  by_cases h2:okPace p = true
  · exact absurd (by simp [askF,h1,h2]) ha
  · simpa using h2
 refine br_t (by simpa [okPace] using h2) ?_
 dsimp only [go_sem,rA,rM,rS]
 simp [askF,h1,h2]
theorem cdays_ok (l:Land) (p:Span) (k:Nat) (hk:k < l.legs.length) (hx:GoodLeg l.legs[k]) (hp:okPace p = true):Ct Try.prog 64 [.agg (carL l p),I k] (.agg (spanL (dayF l.legs[k] p))):=by
 have hb:=day_bd hx hp
 have hp':=hp
 simp only [okPace,okSp,decide_eq_true_eq] at hp'
 obtain ⟨h1,h2,h3,h4,h5⟩:=hx
 refine t64 (by simp [carL,wellL,legL,gateL,spanL,KFR_iff,KFL,KF]) (by simp [spanL,KFL,KF]) ?_
 dsimp only [c64,r64,carL,go_sem,rA,rM,rS]
 refine ixs_map k hk rfl ?_
 dsimp only [legL,go_sem,rA,rM,rS]
 rw [w64_in (n:=l.legs[k].long.lo + p.hi) (by omega) (by omega),w64_in (n:=l.legs[k].long.lo + p.hi - 1) (by omega) (by omega)]
 refine div0 (by omega) ?_
 dsimp only [go_sem,rA,rM,rS]
 rw [w64_in (n:=l.legs[k].long.hi + p.lo) (by omega) (by omega),w64_in (n:=l.legs[k].long.hi + p.lo - 1) (by omega) (by omega)]
 refine div0 (by omega) ?_
 dsimp only [spanL,go_sem,rA,rM,rS]
 simp only [dayF] at hb ⊢
 rw [w64_in (n:=(l.legs[k].long.lo + p.hi - 1).tdiv p.hi) (by omega) (by omega),w64_in (n:=(l.legs[k].long.hi + p.lo - 1).tdiv p.lo) (by omega) (by omega)]
theorem bspan_ok (a b:Int):Ct Try.prog 65 [.agg [I a,I b]] (.agg [I a,I b]):=by
 refine t65 (by simp [KFL,KF]) (by simp [KFL,KF]) ?_
 dsimp only [c65,r65,go_sem,rA,rM,rS]
 refine ixa 0 rfl (by decide) ?_
 dsimp only [go_sem,rA,rM,rS]
 refine ixa 1 rfl (by decide) ?_
 dsimp only [go_sem,rA,rM,rS]
theorem wdays_ok (l:Land) (hs:Small l) (leg:Int) (p:Span):Ct Try.prog 22 [.agg (landL l),I leg,.agg (spanL p)] (sres (daysF l leg p)):=by
 have hw1:IntKind.i64.wrap ((l.legs.length:Int) - 1) = (l.legs.length:Int) - 1:=w64_in (by omega) (by have:=hs.2.1;omega)
 refine t22 (by simp [landL,wellL,legL,gateL,spanL,KFR_iff,KFL,KF]) (by simp [sres,spanL,KFL,KF]) ?_
 dsimp only [c22,r22,landL,spanL,go_sem,rA,rM,rS]
 by_cases ha:askF l p = 0
 case neg =>
  refine call (open_err l hs p ha) ?_
  dsimp only [go_sem,rA,rM,rS]
  refine br_t (by simpa using ha) ?_
  dsimp only [go_sem,rA,rM,rS]
  simp [daysF,ha,sres,spanL]
 refine call (open_ok l hs p ha) ?_
 dsimp only [carL,go_sem,rA,rM,rS]
 refine br_f (by decide) ?_
 dsimp only [go_sem,rA,rM,rS]
 simp only [List.length_map,hw1]
 repeat (first | (refine gb ?_;dsimp only [go_sem,rA,rM,rS]) | (refine call (from1 _ _ _ _) ?_;dsimp only [go_sem,rA,rM,rS]))
 by_cases hr:inR 0 (l.legs.length - 1) leg = true
 case neg =>
  refine br_t (by grind) ?_
  dsimp only [go_sem,rA,rM,rS]
  simp [daysF,ha,hr,sres,spanL]
 refine br_f (by grind) ?_
 dsimp only [go_sem,rA,rM,rS]
 obtain ⟨k,hk,rfl,hget⟩:=get_leg hr
 obtain ⟨hol,hop⟩:=ask0 ha
 have hx:=okLand_leg hol l.legs[k] (List.getElem_mem _)
 refine call (cdays_ok l p k hk hx hop) ?_
 dsimp only [spanL,go_sem,rA,rM,rS]
 refine call (bspan_ok _ _) ?_
 dsimp only [go_sem,rA,rM,rS]
 simp only [daysF,ha,hr,hget,sres,spanL]
 simp
theorem leave_ok (l:Land) (p:Span) (k:Nat) (hk:k < l.legs.length) (d0 d1:Int) (hx:GoodLeg l.legs[k]) (hp:okPace p = true) (h0:inR 0 100001 d0 = true) (h1:inR 0 100001 d1 = true) :
 Ct Try.prog 68 [.agg (carL l p),I k,.agg [I d0,I d1]] (.agg [I (mayF l.legs[k] p d0),I (canF l.legs[k] p d1)]):=by
 have hb:=day_bd hx hp
 have hg:=okGates_mem hx.g2 (Int.le_refl _)
 have hl:=hx.g1
 simp only [inR,decide_eq_true_eq] at h0 h1
 refine t68 (by simp [carL,wellL,legL,gateL,spanL,KFR_iff,KFL,KF]) (by simp [KFL,KF]) ?_
 dsimp only [c68,r68,carL,go_sem,rA,rM,rS]
 refine call (cdays_ok l p k hk hx hp) ?_
 dsimp only [spanL,go_sem,rA,rM,rS]
 refine ixs_map k hk rfl ?_
 dsimp only [legL,go_sem,rA,rM,rS]
 have e0:accL (dayF l.legs[k] p).lo d0 (·.opens.lo) (·.shuts.hi) 100001 l.legs[k].gates = mayF l.legs[k] p d0:=by
  rw [acc_out hb.1 (fun g h=>by omega) hx.g2 (Int.le_refl _) (by omega)]
  exact Int.min_eq_right (outL_le hb.1 (fun g h=>by have:=hg g h;omega))
 have e1:accL (dayF l.legs[k] p).hi d1 (·.opens.hi) (·.shuts.lo) 100001 l.legs[k].gates = canF l.legs[k] p d1:=by
  rw [acc_out hb.2.2.1 (fun g h=>by omega) hx.g2 (Int.le_refl _) (by omega)]
  exact Int.min_eq_right (outL_le hb.2.2.1 (fun g h=>by have:=hg g h;omega))
 generalize hnl:(dayF l.legs[k] p).lo = nl at hb e0
 generalize hnh:(dayF l.legs[k] p).hi = nh at hb e1
 refine loopO (fun s:Nat × Int × Int=>[(27,I s.1)]) (fun s=>[(4,.cells [I s.2.1,I s.2.2] 123)])
  (fun s=>s.1 ≤ l.legs[k].gates.length ∧ accL nl d0 (·.opens.lo) (·.shuts.hi) s.2.1 (l.legs[k].gates.drop s.1) = mayF l.legs[k] p d0 ∧ accL nh d1 (·.opens.hi) (·.shuts.lo) s.2.2 (l.legs[k].gates.drop s.1) = canF l.legs[k] p d1)
  (fun s=>l.legs[k].gates.length - s.1) (0,100001,100001) ⟨Nat.zero_le _,e0,e1⟩ ?_ ?_
 · (refine ent_id ?_ ?_ ?_ rfl rfl <;> dsimp only [gateL,wellL,legL,spanL,id,go_sem,rA,rM,rS] <;> simp [gateL,wellL,legL,spanL,KFR_iff,KFR_app,KFR,KFL,KF,mtL_same,mtO,nbr])
 rintro ⟨j,m0,m1⟩ ⟨hj,i0,i1⟩
 simp only at hj i0 i1
 dsimp only [go_sem,rA,rM,rS]
 by_cases hlt:j < l.legs[k].gates.length
 · refine br_t (by simpa using hlt) ?_
   dsimp only [go_sem,rA,rM,rS]
   have hgk:=hg l.legs[k].gates[j] (List.getElem_mem _)
   rw [List.drop_eq_getElem_cons hlt,accL] at i0 i1
   refine ixs_map j hlt rfl ?_
   dsimp only [gateL,go_sem,rA,rM,rS]
   refine unroll 3 ?_
   dsimp only [rnds_succ,go_sem,rA,rM,rS]
   refine br_t (by decide) ?_
   dsimp only [rnds_succ,go_sem,rA,rM,rS]
   repeat (first | (refine ixa 0 rfl (by decide) ?_;dsimp only [rnds_succ,go_sem,rA,rM,rS]) | (refine call (first_ok _ _) ?_;dsimp only [rnds_succ,go_sem,rA,rM,rS]))
   rw [w64_in (n:=max d0 l.legs[k].gates[j].opens.lo + nl) (by omega) (by omega),w64_in (n:=max d0 l.legs[k].gates[j].opens.lo + nl - 1) (by omega) (by omega)]
   refine br ?_ ?_
   · intro hA
     dsimp only [rnds_succ,go_sem,rA,rM,rS]
     repeat (first | (refine ixa 0 rfl (by decide) ?_;dsimp only [rnds_succ,go_sem,rA,rM,rS]) | (refine call (first_ok _ _) ?_;dsimp only [rnds_succ,go_sem,rA,rM,rS]))
     rw [if_pos (by simpa using hA)] at i0
     refine br_t (by decide) ?_
     dsimp only [rnds_succ,go_sem,rA,rM,rS]
     repeat (first | (refine ixa 1 rfl (by decide) ?_;dsimp only [rnds_succ,go_sem,rA,rM,rS]) | (refine call (first_ok _ _) ?_;dsimp only [rnds_succ,go_sem,rA,rM,rS]))
     rw [w64_in (n:=max d1 l.legs[k].gates[j].opens.hi + nh) (by omega) (by omega),w64_in (n:=max d1 l.legs[k].gates[j].opens.hi + nh - 1) (by omega) (by omega)]
     refine br ?_ ?_
     · intro hB
       dsimp only [rnds_succ,go_sem,rA,rM,rS]
       repeat (first | (refine ixa 1 rfl (by decide) ?_;dsimp only [rnds_succ,go_sem,rA,rM,rS]) | (refine call (first_ok _ _) ?_;dsimp only [rnds_succ,go_sem,rA,rM,rS]))
       rw [if_pos (by simpa using hB)] at i1
       refine br_f (by decide) ?_
       dsimp only [go_sem,rA,rM,rS]
       rw [w64_in (n:=(j:Int) + 1) (by omega) (by omega)]
       refine ⟨(j + 1,min (min m0 (max d0 l.legs[k].gates[j].opens.lo)) 100001,min (min m1 (max d1 l.legs[k].gates[j].opens.hi)) 100001),⟨hlt,i0,i1⟩,by simp only;omega,?_⟩
       (refine ent_id ?_ ?_ ?_ rfl rfl <;> dsimp only [gateL,wellL,legL,spanL,id,go_sem,rA,rM,rS] <;> simp [gateL,wellL,legL,spanL,KFR_iff,KFR_app,KFR,KFL,KF,mtL_same,mtO,nbr])
     · intro hB
       dsimp only [rnds_succ,go_sem,rA,rM,rS]
       rw [if_neg (by simpa using hB)] at i1
       refine br_f (by decide) ?_
       dsimp only [go_sem,rA,rM,rS]
       rw [w64_in (n:=(j:Int) + 1) (by omega) (by omega)]
       refine ⟨(j + 1,min (min m0 (max d0 l.legs[k].gates[j].opens.lo)) 100001,m1),⟨hlt,i0,i1⟩,by simp only;omega,?_⟩
       (refine ent_id ?_ ?_ ?_ rfl rfl <;> dsimp only [gateL,wellL,legL,spanL,id,go_sem,rA,rM,rS] <;> simp [gateL,wellL,legL,spanL,KFR_iff,KFR_app,KFR,KFL,KF,mtL_same,mtO,nbr])
   · intro hA
     dsimp only [rnds_succ,go_sem,rA,rM,rS]
     rw [if_neg (by simpa using hA)] at i0
     refine br_t (by decide) ?_
     dsimp only [rnds_succ,go_sem,rA,rM,rS]
     repeat (first | (refine ixa 1 rfl (by decide) ?_;dsimp only [rnds_succ,go_sem,rA,rM,rS]) | (refine call (first_ok _ _) ?_;dsimp only [rnds_succ,go_sem,rA,rM,rS]))
     rw [w64_in (n:=max d1 l.legs[k].gates[j].opens.hi + nh) (by omega) (by omega),w64_in (n:=max d1 l.legs[k].gates[j].opens.hi + nh - 1) (by omega) (by omega)]
     refine br ?_ ?_
     · intro hB
       dsimp only [rnds_succ,go_sem,rA,rM,rS]
       repeat (first | (refine ixa 1 rfl (by decide) ?_;dsimp only [rnds_succ,go_sem,rA,rM,rS]) | (refine call (first_ok _ _) ?_;dsimp only [rnds_succ,go_sem,rA,rM,rS]))
       rw [if_pos (by simpa using hB)] at i1
       refine br_f (by decide) ?_
       dsimp only [go_sem,rA,rM,rS]
       rw [w64_in (n:=(j:Int) + 1) (by omega) (by omega)]
       refine ⟨(j + 1,m0,min (min m1 (max d1 l.legs[k].gates[j].opens.hi)) 100001),⟨hlt,i0,i1⟩,by simp only;omega,?_⟩
       (refine ent_id ?_ ?_ ?_ rfl rfl <;> dsimp only [gateL,wellL,legL,spanL,id,go_sem,rA,rM,rS] <;> simp [gateL,wellL,legL,spanL,KFR_iff,KFR_app,KFR,KFL,KF,mtL_same,mtO,nbr])
     · intro hB
       dsimp only [rnds_succ,go_sem,rA,rM,rS]
       rw [if_neg (by simpa using hB)] at i1
       refine br_f (by decide) ?_
       dsimp only [go_sem,rA,rM,rS]
       rw [w64_in (n:=(j:Int) + 1) (by omega) (by omega)]
       refine ⟨(j + 1,m0,m1),⟨hlt,i0,i1⟩,by simp only;omega,?_⟩
       (refine ent_id ?_ ?_ ?_ rfl rfl <;> dsimp only [gateL,wellL,legL,spanL,id,go_sem,rA,rM,rS] <;> simp [gateL,wellL,legL,spanL,KFR_iff,KFR_app,KFR,KFL,KF,mtL_same,mtO,nbr])
 refine br_f (by simp;omega) ?_
 dsimp only [go_sem,rA,rM,rS]
 have hke:j = l.legs[k].gates.length:=by omega
 subst hke
 rw [List.drop_length,accL] at i0 i1
 rw [← i0,← i1]
theorem wleave_ok (l:Land) (hs:Small l) (leg day:Int) (p:Span):Ct Try.prog 24 [.agg (landL l),I leg,I day,.agg (spanL p)] (sres (leaveF l leg day p)):=by
 have hw1:IntKind.i64.wrap ((l.legs.length:Int) - 1) = (l.legs.length:Int) - 1:=w64_in (by omega) (by have:=hs.2.1;omega)
 refine t24 (by simp [landL,wellL,legL,gateL,spanL,KFR_iff,KFL,KF]) (by simp [sres,spanL,KFL,KF]) ?_
 dsimp only [c24,r24,landL,spanL,go_sem,rA,rM,rS]
 by_cases ha:askF l p = 0
 case neg =>
  refine call (open_err l hs p ha) ?_
  dsimp only [go_sem,rA,rM,rS]
  refine br_t (by simpa using ha) ?_
  dsimp only [go_sem,rA,rM,rS]
  simp [leaveF,ha,sres,spanL]
 refine call (open_ok l hs p ha) ?_
 dsimp only [carL,go_sem,rA,rM,rS]
 refine br_f (by decide) ?_
 dsimp only [go_sem,rA,rM,rS]
 simp only [List.length_map,hw1]
 repeat (first | (refine gb ?_;dsimp only [go_sem,rA,rM,rS]) | (refine call (from1 _ _ _ _) ?_;dsimp only [go_sem,rA,rM,rS]))
 by_cases hr:(inR 0 (l.legs.length - 1) leg && inR 0 100000 day) = true
 case neg =>
  refine br_t (by grind) ?_
  dsimp only [go_sem,rA,rM,rS]
  simp [leaveF,ha,hr,sres,spanL]
 refine br_f (by grind) ?_
 dsimp only [go_sem,rA,rM,rS]
 obtain ⟨k,hk,rfl,hget⟩:=get_leg (Bool.and_eq_true_iff.1 hr).1
 obtain ⟨hol,hop⟩:=ask0 ha
 have hday:=(Bool.and_eq_true_iff.1 hr).2
 have hd:inR 0 100001 day = true:=by simp only [inR,decide_eq_true_eq] at hday ⊢;omega
 have hx:=okLand_leg hol l.legs[k] (List.getElem_mem _)
 refine call (leave_ok l p k hk day day hx hop hd hd) ?_
 dsimp only [spanL,go_sem,rA,rM,rS]
 refine call (bspan_ok _ _) ?_
 dsimp only [go_sem,rA,rM,rS]
 simp only [leaveF,ha,hr,hget,sres,spanL]
 simp
end Go.Proofs.Ytkjldleglbbkeaa
set_option maxRecDepth 100000
set_option maxHeartbeats 4000000
namespace Go.Proofs.Ytkjldleglbbkeaa
open Go Go.Sx Go.Azalai
end Go.Proofs.Ytkjldleglbbkeaa
set_option maxRecDepth 100000
set_option maxHeartbeats 4000000
namespace Go.Azalai
theorem outL_bd {n day:Int} {o s:Gate → Int} (hn:1 ≤ n) (hd:day ≤ 100001):∀ {l:List Gate},(∀ g ∈ l,s g ≤ 100000) → (day ≤ outL n day o s l ∧ outL n day o s l ≤ 100001) ∧ (outL n day o s l = 100001 ∨ outL n day o s l + n ≤ 100001)
 | [],_=>⟨⟨by simp only [outL];omega,by simp only [outL];omega⟩,.inl rfl⟩
 | x :: l,h=>by
  have:=h x (by simp)
  have:=outL_bd (day:=day) (o:=o) (s:=s) (l:=l) hn hd (fun g hg=>h g (by simp [hg]))
  simp only [outL];split <;> omega
theorem outL_ub {n day:Int} {o s:Gate → Int} (hn:1 ≤ n):∀ {l:List Gate},(∀ g ∈ l,s g ≤ 100000) → outL n day o s l ≤ 100001
 | [],_=>by simp only [outL];omega
 | x :: l,h=>by
  have:=h x (by simp)
  have:=outL_ub (day:=day) (o:=o) (s:=s) (l:=l) hn (fun g hg=>h g (by simp [hg]))
  simp only [outL];split <;> omega
def nK (k:Bool) (x:Leg) (p:Span):Int:=bif k then (dayF x p).hi else (dayF x p).lo
def leK (k:Bool) (x:Leg) (p:Span) (t:Int):Int:=bif k then canF x p t else mayF x p t
def arrK (k:Bool) (x:Leg) (p:Span) (t:Int):Int:=min 100001 (leK k x p t + nK k x p)
theorem nK_bd {k:Bool} {x:Leg} {p:Span} (h:GoodLeg x) (hp:okPace p = true):1 ≤ nK k x p ∧ nK k x p ≤ 1000000:=by
 have:=day_bd h hp
 cases k <;> simp only [nK,cond_true,cond_false] <;> omega
theorem leK_acc {k:Bool} {x:Leg} {p:Span} {t:Int} (h:GoodLeg x) (hp:okPace p = true) :
 leK k x p t = accL (nK k x p) t (fun g=>bif k then g.opens.hi else g.opens.lo) (fun g=>bif k then g.shuts.lo else g.shuts.hi) 100001 x.gates ∧
 leK k x p t = outL (nK k x p) t (fun g=>bif k then g.opens.hi else g.opens.lo) (fun g=>bif k then g.shuts.lo else g.shuts.hi) x.gates ∧ ∀ g ∈ x.gates,(bif k then g.shuts.lo else g.shuts.hi) ≤ 100000:=by
 have hn:=nK_bd (k:=k) h hp
 have hg:=okGates_mem h.g2 (Int.le_refl _)
 have h2:∀ g ∈ x.gates,(bif k then g.shuts.lo else g.shuts.hi) ≤ 100000:=fun g hm=>by have:=hg g hm;cases k <;> simp only [cond_true,cond_false] <;> omega
 have h1:leK k x p t = outL (nK k x p) t (fun g=>bif k then g.opens.hi else g.opens.lo) (fun g=>bif k then g.shuts.lo else g.shuts.hi) x.gates:=by cases k <;> rfl
 refine ⟨?_,h1,h2⟩
 rw [acc_out hn.1 (fun g q=>by cases k <;> simp only [cond_true,cond_false] <;> omega) h.g2 (Int.le_refl _) (by omega),h1]
 have:=outL_ub (day:=t) (o:=fun g=>bif k then g.opens.hi else g.opens.lo) hn.1 h2
 omega
theorem accL_mono {n:Int} {o s:Gate → Int} {d d':Int} (hn:1 ≤ n) (hd:d ≤ d'):∀ {l:List Gate} {a a':Int},a ≤ a' → a' ≤ 100001 → (∀ g ∈ l,s g ≤ 100000) → accL n d o s a l ≤ accL n d' o s a' l
 | [],a,a',ha,_,_=>by simpa only [accL] using ha
 | g :: l,a,a',ha,hb,hs=>by
  simp only [accL]
  have:=hs g (by simp)
  refine accL_mono hn hd ?_ ?_ (fun g hg=>hs g (by simp [hg]))
  · repeat' split
    all_goals omega
  · split <;> omega
theorem arrK_mono {k:Bool} {x:Leg} {p:Span} {t t':Int} (h:GoodLeg x) (hp:okPace p = true) (ht:t ≤ t'):arrK k x p t ≤ arrK k x p t':=by
 have hn:=nK_bd (k:=k) h hp
 obtain ⟨a1,_,a3⟩:=leK_acc (k:=k) (t:=t) h hp
 obtain ⟨b1,_,_⟩:=leK_acc (k:=k) (t:=t') h hp
 have:=accL_mono (o:=fun g=>bif k then g.opens.hi else g.opens.lo) hn.1 ht (Int.le_refl 100001) (Int.le_refl _) a3
 simp only [arrK];omega
theorem arrK_bd {k:Bool} {x:Leg} {p:Span} {t:Int} (h:GoodLeg x) (hp:okPace p = true) (ht:t ≤ 100001):arrK k x p t ≤ 100001 ∧ (t + 1 ≤ arrK k x p t ∨ t = 100001 ∧ arrK k x p t = 100001) ∧ (arrK k x p t < 100001 → arrK k x p t = leK k x p t + nK k x p ∧ leK k x p t < 100001) ∧ (leK k x p t < 100001 → leK k x p t + nK k x p ≤ 100001) ∧ t ≤ leK k x p t ∧ leK k x p t ≤ 100001:=by
 have hn:=nK_bd (k:=k) h hp
 obtain ⟨_,a2,a3⟩:=leK_acc (k:=k) (t:=t) h hp
 have:=outL_bd (o:=fun g=>bif k then g.opens.hi else g.opens.lo) hn.1 ht a3
 rw [← a2] at this
 simp only [arrK];omega
theorem arrK_ge {k:Bool} {x:Leg} {p:Span} {t:Int} (h:GoodLeg x) (hp:okPace p = true) (ht:t ≤ 100001):t ≤ arrK k x p t:=by
 have:=arrK_bd (k:=k) h hp ht;omega
def otherF (x:Leg) (v:Int):Int:=if x.a = v then x.b else if x.b = v then x.a else -1
def goW (k:Bool) (l:Land) (p:Span):Int → Int → List Nat → Option (Int × Int)
 | v,t,[]=>some (v,t)
 | v,t,i :: r=>match l.legs[i]? with
  | none=>none
  | some x=>if otherF x v < 0 then none else if arrK k x p t > 100000 then none else goW k l p (otherF x v) (arrK k x p t) r
structure OkLP (l:Land) (p:Span):Prop where
 land:okLand l = true
 pace:okPace p = true
theorem OkLP.leg {l:Land} {p:Span} (h:OkLP l p) {i:Nat} {x:Leg} (hx:l.legs[i]? = some x):GoodLeg x:=okLand_leg h.land x (List.mem_of_getElem? hx)
theorem OkLP.ends {l:Land} {p:Span} (h:OkLP l p) {x:Leg} (hx:x ∈ l.legs):(0 ≤ x.a ∧ x.a < l.wells.length) ∧ (0 ≤ x.b ∧ x.b < l.wells.length) ∧ x.a ≠ x.b:=by
 have h1:=h.land
 simp only [okLand,Bool.and_eq_true,List.all_eq_true] at h1
 have:=h1.2 x hx
 simp only [okLeg,inR,Bool.and_eq_true,decide_eq_true_eq,bne_iff_ne] at this
 obtain ⟨⟨⟨⟨⟨q1,q2⟩,q3⟩,_⟩,_⟩,_⟩:=this
 refine ⟨by omega,by omega,q3⟩
theorem otherF_in {l:Land} {p:Span} (h:OkLP l p) {i:Nat} {x:Leg} (hx:l.legs[i]? = some x) {v:Int} (ho:¬ otherF x v < 0):(0 ≤ otherF x v ∧ otherF x v < l.wells.length) ∧ (x.a = v ∧ otherF x v = x.b ∨ x.b = v ∧ otherF x v = x.a) ∧ 0 ≤ v ∧ v < l.wells.length:=by
 have:=h.ends (List.mem_of_getElem? hx)
 unfold otherF at ho ⊢
 split
 · omega
 · split
   · omega
   · rw [if_neg (by assumption),if_neg (by assumption)] at ho;omega
theorem goW_app {k:Bool} {l:Land} {p:Span}:∀ {a b:List Nat} {v t:Int},goW k l p v t (a ++ b) = (goW k l p v t a).bind fun s=>goW k l p s.1 s.2 b
 | [],b,v,t=>rfl
 | i :: a,b,v,t=>by
  simp only [List.cons_append,goW]
  cases l.legs[i]? with
  | none=>rfl
  | some x =>
   simp only
   split
   · rfl
   · split
     · rfl
     · exact goW_app
theorem goW_bd {k:Bool} {l:Land} {p:Span} (h:OkLP l p):∀ {a:List Nat} {v t v' t':Int},goW k l p v t a = some (v',t') → t ≤ 100000 → 0 ≤ v → v < l.wells.length → t + a.length ≤ t' ∧ t' ≤ 100000 ∧ 0 ≤ v' ∧ v' < l.wells.length
 | [],v,t,v',t',e,ht,h0,h1=>by simp only [goW,Option.some.injEq,Prod.mk.injEq] at e;simp;omega
 | i :: a,v,t,v',t',e,ht,h0,h1=>by
  simp only [goW] at e
  cases hx:l.legs[i]? with
  | none=>rw [hx] at e;cases e
  | some x =>
   rw [hx] at e
   simp only at e
   by_cases ho:otherF x v < 0
   · rw [if_pos ho] at e;cases e
   · rw [if_neg ho] at e
     by_cases hr:arrK k x p t > 100000
     · rw [if_pos hr] at e;cases e
     · rw [if_neg hr] at e
       have hb:=arrK_bd (k:=k) (h.leg hx) h.pace (show t ≤ 100001 by omega)
       have ho':=otherF_in h hx ho
       have:=goW_bd h e (by omega) ho'.1.1 ho'.1.2
       simp only [List.length_cons];omega
def Closed (k:Bool) (l:Land) (p:Span) (d:Int → Int):Prop:=∀ x ∈ l.legs,d x.b ≤ arrK k x p (d x.a) ∧ d x.a ≤ arrK k x p (d x.b)
theorem closed_go {k:Bool} {l:Land} {p:Span} {d:Int → Int} (h:OkLP l p) (hc:Closed k l p d):∀ {a:List Nat} {v t v' t':Int},goW k l p v t a = some (v',t') → d v ≤ t → d v' ≤ t'
 | [],v,t,v',t',e,ht=>by simp only [goW,Option.some.injEq,Prod.mk.injEq] at e;rw [← e.1];omega
 | i :: a,v,t,v',t',e,ht=>by
  simp only [goW] at e
  cases hx:l.legs[i]? with
  | none=>rw [hx] at e;cases e
  | some x =>
   rw [hx] at e
   simp only at e
   by_cases ho:otherF x v < 0
   · rw [if_pos ho] at e;cases e
   · rw [if_neg ho] at e
     by_cases hr:arrK k x p t > 100000
     · rw [if_pos hr] at e;cases e
     · rw [if_neg hr] at e
       refine closed_go h hc e ?_
       have hcx:=hc x (List.mem_of_getElem? hx)
       have hm:=arrK_mono (k:=k) (h.leg hx) h.pace ht
       rcases (otherF_in h hx ho).2.1 with ⟨q1,q2⟩ | ⟨q1,q2⟩
       · rw [q2];rw [← q1] at hm;omega
       · rw [q2];rw [← q1] at hm;omega
open Classical in
noncomputable def reachV (k:Bool) (l:Land) (p:Span) (s day v:Int):Int :=
 if h:∃ n:Nat,∃ a,goW k l p s day a = some (v,(n:Int)) then ((Go.Sx.least_ex _ h).choose:Int) else 100001
theorem reachV_le {k:Bool} {l:Land} {p:Span} (h:OkLP l p) {s day v t:Int} {a:List Nat} (e:goW k l p s day a = some (v,t)) (hd:0 ≤ day) (hd':day ≤ 100000) (h0:0 ≤ s) (h1:s < l.wells.length):reachV k l p s day v ≤ t:=by
 have hb:=goW_bd h e hd' h0 h1
 have hex:∃ n:Nat,∃ a,goW k l p s day a = some (v,(n:Int)):=⟨t.toNat,a,by rw [e,show ((t.toNat:Nat):Int) = t by omega]⟩
 unfold reachV
 rw [dif_pos hex]
 have:=(Go.Sx.least_ex _ hex).choose_spec.2 t.toNat ⟨a,by rw [e,show ((t.toNat:Nat):Int) = t by omega]⟩
 omega
theorem reachV_real {k:Bool} {l:Land} {p:Span} {s day v:Int}:reachV k l p s day v = 100001 ∨ ∃ a,goW k l p s day a = some (v,reachV k l p s day v):=by
 unfold reachV
 by_cases hex:∃ n:Nat,∃ a,goW k l p s day a = some (v,(n:Int))
 · rw [dif_pos hex];exact .inr (Go.Sx.least_ex _ hex).choose_spec.1
 · rw [dif_neg hex];exact .inl rfl
theorem reachV_bd {k:Bool} {l:Land} {p:Span} (h:OkLP l p) {s day v:Int} (hd:0 ≤ day) (hd':day ≤ 100000) (h0:0 ≤ s) (h1:s < l.wells.length):day ≤ reachV k l p s day v ∧ reachV k l p s day v ≤ 100001:=by
 rcases reachV_real (k:=k) (l:=l) (p:=p) (s:=s) (day:=day) (v:=v) with e | ⟨a,e⟩
 · omega
 · have:=goW_bd h e hd' h0 h1;omega
theorem reachV_start {k:Bool} {l:Land} {p:Span} (h:OkLP l p) {s day:Int} (hd:0 ≤ day) (hd':day ≤ 100000) (h0:0 ≤ s) (h1:s < l.wells.length):reachV k l p s day s = day:=by
 have h2:=reachV_le (k:=k) (v:=s) (t:=day) (a:=[]) h rfl hd hd' h0 h1
 have:=reachV_bd (k:=k) (v:=s) h hd hd' h0 h1
 omega
theorem goW_snoc {k:Bool} {l:Land} {p:Span} {a:List Nat} {s t v u:Int} {i:Nat} {x:Leg} (e:goW k l p s t a = some (v,u)) (hx:l.legs[i]? = some x) (ho:¬ otherF x v < 0) (hr:¬ arrK k x p u > 100000):goW k l p s t (a ++ [i]) = some (otherF x v,arrK k x p u):=by
 rw [goW_app,e]
 simp only [Option.bind_some,goW,hx]
 rw [if_neg ho,if_neg hr]
theorem reachV_closed {k:Bool} {l:Land} {p:Span} (h:OkLP l p) {s day:Int} (hd:0 ≤ day) (hd':day ≤ 100000) (h0:0 ≤ s) (h1:s < l.wells.length):Closed k l p (reachV k l p s day):=by
 intro x hx
 obtain ⟨i,hi⟩:=List.mem_iff_getElem?.1 hx
 have he:=h.ends hx
 have one:∀ v w:Int,otherF x v = w → 0 ≤ w → reachV k l p s day w ≤ arrK k x p (reachV k l p s day v):=fun v w ho hw=>by
  have hbw:=reachV_bd (k:=k) (v:=w) h hd hd' h0 h1
  have hbv:=reachV_bd (k:=k) (v:=v) h hd hd' h0 h1
  have hb:=arrK_bd (k:=k) (h.leg hi) h.pace hbv.2
  by_cases hr:arrK k x p (reachV k l p s day v) > 100000
  · omega
  · rcases reachV_real (k:=k) (l:=l) (p:=p) (s:=s) (day:=day) (v:=v) with e | ⟨a,e⟩
    · omega
    · have:=goW_snoc e hi (by omega) hr
      rw [ho] at this
      exact reachV_le h this hd hd' h0 h1
 exact ⟨one x.a x.b (by simp [otherF]) he.2.1.1,one x.b x.a (by simp [otherF,he.2.2]) he.1.1⟩
theorem reach_eq {k:Bool} {l:Land} {p:Span} (h:OkLP l p) {s day:Int} (hd:0 ≤ day) (hd':day ≤ 100000) (h0:0 ≤ s) (h1:s < l.wells.length) {d:Int → Int} (hs:d s ≤ day) (hc:Closed k l p d) (hb:∀ v,d v ≤ 100001)
 (hr:∀ v,d v = 100001 ∨ ∃ a,goW k l p s day a = some (v,d v)) (v:Int):d v = reachV k l p s day v:=by
 have h2:reachV k l p s day v ≤ d v:=by
  rcases hr v with e | ⟨a,e⟩
  · have:=reachV_bd (k:=k) (v:=v) h hd hd' h0 h1;omega
  · exact reachV_le h e hd hd' h0 h1
 have h3:d v ≤ reachV k l p s day v:=by
  rcases reachV_real (k:=k) (l:=l) (p:=p) (s:=s) (day:=day) (v:=v) with e | ⟨a,e⟩
  · have:=hb v;omega
  · exact closed_go h hc e hs
 omega
noncomputable def reachF (k:Bool) (l:Land) (p:Span) (s day:Int):List Int:=(List.range l.wells.length).map fun v:Nat=>reachV k l p s day (v:Int)
end Go.Azalai
set_option maxRecDepth 100000
namespace Go.Proofs.Ytkjldleglbbkeaa
open Go Go.Sx
def c79:SC:=(.seq (.reg [
 ⟨some 2,.box (.t 0) 0 119,none,[]⟩,
 ⟨some 3,.box (.t 1) 0 3,none,[]⟩,
 ⟨some 4,.mv (.c (.nilFunc)),none,[]⟩])
 (.seq (.reg [
 ⟨some 5,.mkf 97 [.t 2,.t 3],none,[]⟩,
 ⟨some 4,.mv (.t 5),none,[]⟩])
 .ret))
def r79:List RV:=[.tmp 4]
theorem n79:Try.f79.ntmps = 6:=by kernel_rfl
theorem b79:bodyB Try.prog 79 = true:=by kernel_rfl
theorem c79_ok:cmpC Try.prog c79 ((Try.f79.body).getD .skip) = true:=by kernel_rfl
theorem r79_ok:cmpR Try.prog r79 Try.f79.results.toList = true:=by kernel_rfl
theorem m79 {n0:Nat} {hp0:List (Nat × HB)} {args:List SV} {Post:Ot → Prop} (hh:hpb n0 hp0) (hx:∀ o,Post o → KX o.res ∧ KXP o.hp) (h:sx Try.prog Y0 n0 c79 ⟨enum 0 args,hp0,n0,6,[]⟩ (retM r79 fun o=>∃ o',Post o' ∧ EntO n0 o o')) (hA:Nat.ble args.length 6 = true:=by rfl):CtM Try.prog 79 hp0 n0 args Post:=ctm_intro Try.func79 rfl b79 c79_ok r79_ok n79 (Nat.le_of_ble_eq_true hA) hh hx h
def c97:SC:=(.seq (.reg [
 ⟨some 6,.addo (.t 1) 0,none,[]⟩,
 ⟨some 7,.addo (.t 6) 1,none,[]⟩,
 ⟨some 8,.ld (.t 7) 1 false,none,[]⟩,
 ⟨some 9,.len (.t 8),none,[]⟩,
 ⟨some 10,.mv (.c (.int .i64 0)),none,[]⟩])
 (.block 0 (.loop (.seq (.reg [
  ⟨some 11,.bin .lss (.t 10) (.t 9),none,[]⟩])
  (.seq (.cond (.t 11)
  .skip
  (.exit 0))
  (.seq (.block 1 (.seq (.reg [
   ⟨some 12,.mv (.t 10),none,[]⟩,
   ⟨some 13,.ixs (.t 8) (.t 10) 5,none,[]⟩,
   ⟨some 14,.ld (.t 13) 5 true,none,[]⟩,
   ⟨some 5,.alloc [.int .i64 0,.int .i64 0,.int .i64 0,.int .i64 0,.slice none 0 0] 86,none,[]⟩,
   ⟨some 4,.mv (.t 12),none,[]⟩,
   ⟨none,.st (.t 5) (.t 14) 5,none,[]⟩])
   (.seq (.reg [
   ⟨some 15,.ld (.t 2) 1 false,none,[]⟩])
   (.block 2 (.seq (.reg [
    ⟨some 17,.addo (.t 5) 0,none,[]⟩,
    ⟨some 18,.ld (.t 17) 1 false,none,[]⟩,
    ⟨some 19,.bin .eql (.t 15) (.t 18),none,[]⟩,
    ⟨some 16,.mv (.t 19),none,[]⟩])
    (.cond (.t 16)
    (.seq (.reg [
     ⟨some 20,.mv (.t 0),none,[]⟩,
     ⟨some 21,.mv (.t 4),none,[]⟩,
     ⟨some 22,.addo (.t 5) 1,none,[]⟩,
     ⟨some 23,.ld (.t 22) 1 false,none,[]⟩,
     ⟨some 24,.calvm (.t 20) [.t 21,.t 23],none,[]⟩,
     ⟨some 25,.un .not (.t 24),none,[]⟩])
     (.cond (.t 25)
     .ret
     .skip))
    (.seq (.reg [
     ⟨some 27,.addo (.t 5) 1,none,[]⟩,
     ⟨some 28,.ld (.t 27) 1 false,none,[]⟩,
     ⟨some 29,.bin .eql (.t 15) (.t 28),none,[]⟩,
     ⟨some 26,.mv (.t 29),none,[]⟩])
     (.cond (.t 26)
     (.seq (.reg [
      ⟨some 30,.mv (.t 0),none,[]⟩,
      ⟨some 31,.mv (.t 4),none,[]⟩,
      ⟨some 32,.addo (.t 5) 0,none,[]⟩,
      ⟨some 33,.ld (.t 32) 1 false,none,[]⟩,
      ⟨some 34,.calvm (.t 30) [.t 31,.t 33],none,[]⟩,
      ⟨some 35,.un .not (.t 34),none,[]⟩])
      (.cond (.t 35)
      .ret
      .skip))
     .skip))))))))
  (.reg [
  ⟨some 36,.bin .add (.t 10) (.c (.int .i64 1)),none,[]⟩,
  ⟨some 10,.mv (.t 36),none,[]⟩])))))))
def r97:List RV:=[]
theorem n97:Try.f97.ntmps = 37:=by kernel_rfl
theorem b97:bodyB Try.prog 97 = true:=by kernel_rfl
theorem c97_ok:cmpC Try.prog c97 ((Try.f97.body).getD .skip) = true:=by kernel_rfl
theorem r97_ok:cmpR Try.prog r97 Try.f97.results.toList = true:=by kernel_rfl
theorem y97 {Y:Hd} {n0:Nat} {hp0:List (Nat × HB)} {args:List SV} {Post:Ot → Prop} (h:sx Try.prog Y n0 c97 ⟨enum 0 args,hp0,n0,37,[]⟩ (retM r97 Post)) (hA:Nat.ble args.length 37 = true:=by rfl):CtY Try.prog Y 97 hp0 n0 args Post:=cty_intro Try.func97 rfl c97_ok r97_ok n97 (Nat.le_of_ble_eq_true hA) h
def c85:SC:=(.seq (.reg [
 ⟨some 3,.box (.t 0) 0 119,none,[]⟩,
 ⟨some 4,.box (.t 1) 0 3,none,[]⟩,
 ⟨some 6,.alloc [.int .i64 0] 3,none,[]⟩])
 (.seq (.seq (.reg [
 ⟨some 9,.ld (.t 3) 4 true,none,[]⟩,
 ⟨some 10,.mv (.t 2),none,[]⟩,
 ⟨some 11,.callm 79 [.t 9,.t 10],none,[]⟩])
 (.block 0 (.gh (.rfun (.t 11) [12,13] (.seq (.reg [
  ⟨some 7,.mv (.t 12),none,[]⟩])
  (.reg [
  ⟨some 8,.mv (.t 13),none,[]⟩]))
  (.block 1 (.seq (.reg [
   ⟨some 14,.mv (.t 7),none,[]⟩,
   ⟨some 15,.ld (.t 4) 1 false,none,[]⟩,
   ⟨some 16,.bin .eql (.t 14) (.t 15),none,[]⟩])
   (.cond (.t 16)
   (.seq (.reg [
    ⟨some 17,.mv (.t 8),none,[]⟩,
    ⟨none,.st (.t 6) (.t 17) 1,none,[]⟩])
    .ret)
   .skip)))))))
 (.seq (.reg [
 ⟨none,.st (.t 6) (.c (.int .i64 (-1))) 1,none,[]⟩])
 .ret)))
def r85:List RV:=[.cell 6 1 false]
theorem n85:Try.f85.ntmps = 18:=by kernel_rfl
theorem b85:bodyB Try.prog 85 = true:=by kernel_rfl
theorem c85_ok:cmpC Try.prog c85 ((Try.f85.body).getD .skip) = true:=by kernel_rfl
theorem r85_ok:cmpR Try.prog r85 Try.f85.results.toList = true:=by kernel_rfl
theorem t85 {args:List SV} {res:SV} (ka:KFL args) (kr:KF res) (h:sx Try.prog Y0 0 c85 (st0 args 18) (retK r85 res)) (hA:Nat.ble args.length 18 = true:=by rfl):Ct Try.prog 85 args res:=ct_intro Try.func85 rfl b85 c85_ok r85_ok n85 (Nat.le_of_ble_eq_true hA) ka kr h
def c80:SC:=(.seq (.reg [
 ⟨some 3,.box (.t 0) 0 119,none,[]⟩,
 ⟨some 5,.box (.t 2) 0 123,none,[]⟩,
 ⟨some 6,.alloc [.int .i64 0,.int .i64 0] 123,none,[]⟩])
 (.seq (.regd [0,1,2,3,4,5,6,7,8,9,10] [
 .op ⟨some 10,.ld (.t 3) 4 true,none,[]⟩,
 .op ⟨some 11,.mv (.t 1),none,[]⟩,
 .op ⟨some 12,.ld (.t 5) 2 true,none,[]⟩,
 .op ⟨some 13,.call 68 [.t 10,.t 11,.t 12],none,[0,1,2]⟩,
 .op ⟨some 14,.ld (.t 3) 4 true,none,[]⟩,
 .op ⟨some 15,.mv (.t 1),none,[]⟩,
 .op ⟨some 16,.call 64 [.t 14,.t 15],none,[3,4,5]⟩] 2 2 [
 ⟨some 7,.alloc [.int .i64 0,.int .i64 0] 123,none,[]⟩,
 ⟨some 8,.alloc [.int .i64 0,.int .i64 0] 123,none,[]⟩,
 ⟨none,.st (.t 7) (.t 13) 2,none,[0,1,2,3,6,7,8]⟩,
 ⟨none,.st (.t 8) (.t 16) 2,none,[0,1,2,3,4,5,6,7,8,9]⟩])
 (.seq (.seq (.reg [
 ⟨some 17,.mv (.c (.int .i64 0)),none,[]⟩])
 (.block 0 (.loop (.seq (.reg [
  ⟨some 18,.bin .lss (.t 17) (.c (.int .i64 2)),none,[]⟩])
  (.seq (.cond (.t 18)
  .skip
  (.exit 0))
  (.seq (.block 1 (.seq (.reg [
   ⟨some 19,.mv (.t 17),none,[]⟩,
   ⟨some 9,.mv (.t 19),none,[]⟩])
   (.regd [0,1,2,3,4,5,6,7,8,9,10,11] [
   .op ⟨some 20,.mv (.t 9),none,[]⟩,
   .op ⟨some 21,.mv (.t 9),none,[]⟩,
   .op ⟨some 22,.ixa (.t 7) (.t 21) 2 1,none,[1]⟩,
   .op ⟨some 23,.ld (.t 22) 1 false,none,[2]⟩,
   .op ⟨some 24,.mv (.t 9),none,[]⟩,
   .op ⟨some 25,.ixa (.t 8) (.t 24) 2 1,none,[4]⟩,
   .op ⟨some 26,.ld (.t 25) 1 false,none,[5]⟩,
   .op ⟨some 27,.bin .add (.t 23) (.t 26),none,[3,6]⟩,
   .op ⟨some 28,.bsl 1 3 [.t 27],none,[7]⟩,
   .op ⟨some 29,.call 94 [.t 28],none,[8]⟩,
   .op ⟨some 30,.ixa (.t 7) (.t 20) 2 1,none,[0,1,2,3,4,5,6,7,8,9]⟩] 0 1 [
   ⟨none,.st (.t 30) (.t 29) 1,none,[0,1,2,3,4,5,6,7,8,9,10]⟩])))
  (.reg [
  ⟨some 31,.bin .add (.t 17) (.c (.int .i64 1)),none,[]⟩,
  ⟨some 17,.mv (.t 31),none,[]⟩])))))))
 (.seq (.reg [
 ⟨some 32,.ld (.t 7) 2 true,none,[]⟩,
 ⟨none,.st (.t 6) (.t 32) 2,none,[]⟩])
 .ret))))
def r80:List RV:=[.cell 6 2 true]
theorem n80:Try.f80.ntmps = 33:=by kernel_rfl
theorem b80:bodyB Try.prog 80 = true:=by kernel_rfl
theorem c80_ok:cmpC Try.prog c80 ((Try.f80.body).getD .skip) = true:=by kernel_rfl
theorem r80_ok:cmpR Try.prog r80 Try.f80.results.toList = true:=by kernel_rfl
theorem t80 {args:List SV} {res:SV} (ka:KFL args) (kr:KF res) (h:sx Try.prog Y0 0 c80 (st0 args 33) (retK r80 res)) (hA:Nat.ble args.length 33 = true:=by rfl):Ct Try.prog 80 args res:=ct_intro Try.func80 rfl b80 c80_ok r80_ok n80 (Nat.le_of_ble_eq_true hA) ka kr h
def c83:SC:=(.seq (.reg [
 ⟨some 4,.box (.t 0) 0 119,none,[]⟩,
 ⟨some 7,.box (.t 3) 0 3,none,[]⟩,
 ⟨some 8,.mv (.c (.slice none 0 0)),none,[]⟩])
 (.seq (.reg [
 ⟨some 16,.bsl 1 3 [.c (.int .i64 100001)],none,[]⟩,
 ⟨some 17,.addo (.t 4) 0,none,[]⟩,
 ⟨some 18,.addo (.t 17) 0,none,[]⟩,
 ⟨some 19,.ld (.t 18) 1 false,none,[]⟩,
 ⟨some 20,.len (.t 19),none,[]⟩,
 ⟨some 21,.callm 99 [.t 16,.t 20],none,[]⟩,
 ⟨some 9,.alloc [.slice none 0 0] 59,none,[]⟩,
 ⟨none,.st (.t 9) (.t 21) 1,none,[]⟩])
 (.seq (.reg [
 ⟨some 22,.ld (.t 9) 1 false,none,[]⟩,
 ⟨some 23,.mv (.t 1),none,[]⟩,
 ⟨some 24,.mv (.t 2),none,[]⟩,
 ⟨some 25,.ixs (.t 22) (.t 23) 1,none,[]⟩,
 ⟨none,.st (.t 25) (.t 24) 1,none,[]⟩])
 (.seq (.reg [
 ⟨some 26,.raw (Go.Op.makeMap 99 Option.none) 99,none,[]⟩,
 ⟨some 10,.mv (.t 26),none,[]⟩])
 (.seq (.seq (.reg [
 ⟨some 27,.ld (.t 9) 1 false,none,[]⟩,
 ⟨some 28,.len (.t 27),none,[]⟩,
 ⟨some 29,.mv (.c (.int .i64 0)),none,[]⟩])
 (.block 0 (.loop (.seq (.reg [
  ⟨some 30,.bin .lss (.t 29) (.t 28),none,[]⟩])
  (.seq (.cond (.t 30)
  .skip
  (.exit 0))
  (.seq (.block 1 (.seq (.reg [
   ⟨some 31,.mv (.t 29),none,[]⟩,
   ⟨some 11,.mv (.t 31),none,[]⟩])
   (.reg [
   ⟨some 32,.mv (.t 10),none,[]⟩,
   ⟨some 33,.mv (.t 11),none,[]⟩,
   ⟨none,.raw (Go.Op.mapUpdate 99 (Go.Operand.tmp 32) (Go.Operand.tmp 33) (Go.Operand.const (Go.Value.bool Bool.true))) 0,none,[]⟩])))
  (.reg [
  ⟨some 34,.bin .add (.t 29) (.c (.int .i64 1)),none,[]⟩,
  ⟨some 29,.mv (.t 34),none,[]⟩])))))))
 (.seq (.block 2 (.loop (.seq (.seq (.reg [
  ⟨some 35,.mv (.t 10),none,[]⟩,
  ⟨some 36,.raw (Go.Op.call { callee:=(Go.Callee.builtin Go.Builtin.len),args:=#[(Go.Operand.tmp 35)],argTypes:=#[99] }) 3,none,[]⟩,
  ⟨some 37,.bin .gtr (.t 36) (.c (.int .i64 0)),none,[]⟩])
  (.cond (.t 37)
  .skip
  (.exit 2)))
  (.block 3 (.seq (.reg [
   ⟨some 12,.alloc [.int .i64 0] 3,none,[]⟩,
   ⟨none,.st (.t 12) (.c (.int .i64 (-1))) 1,none,[]⟩])
   (.seq (.seq (.reg [
   ⟨some 38,.mv (.t 10),none,[]⟩,
   ⟨some 39,.raw (Go.Op.range 99 (Go.Operand.tmp 38)) 0,none,[]⟩])
   (.block 4 (.loop (.seq (.reg [
    ⟨some 40,.raw (Go.Op.next (Go.Operand.tmp 39) Bool.false) 0,none,[]⟩,
    ⟨some 41,.ext (.t 40) 0,none,[]⟩])
    (.seq (.cond (.t 41)
    .skip
    (.exit 4))
    (.block 5 (.seq (.reg [
     ⟨some 42,.raw (Go.Op.entry (Go.Operand.tmp 39)) 0,none,[]⟩,
     ⟨some 43,.ext (.t 42) 0,none,[]⟩,
     ⟨some 13,.mv (.t 43),none,[]⟩])
     (.seq (.regd [0,1,2,3,4,5,6,7,8,9,10,11,12,13,14,15,16,17,18,19,20,21,22,23,24,25,26,27,28] [
     .op ⟨some 44,.ld (.t 12) 1 false,none,[]⟩,
     .op ⟨some 45,.bin .lss (.t 44) (.c (.int .i64 0)),none,[0]⟩,
     .op ⟨some 46,.mv (.t 45),none,[1]⟩,
     .op ⟨some 47,.ld (.t 9) 1 false,some (46,false),[2]⟩,
     .op ⟨some 48,.mv (.t 13),some (46,false),[2]⟩,
     .op ⟨some 49,.ixs (.t 47) (.t 48) 1,some (46,false),[2,3,4]⟩,
     .op ⟨some 50,.ld (.t 49) 1 false,some (46,false),[2,5]⟩,
     .op ⟨some 51,.ld (.t 9) 1 false,some (46,false),[2]⟩,
     .op ⟨some 52,.ld (.t 12) 1 false,some (46,false),[2]⟩,
     .op ⟨some 53,.ixs (.t 51) (.t 52) 1,some (46,false),[2,7,8]⟩,
     .op ⟨some 54,.ld (.t 53) 1 false,some (46,false),[2,9]⟩,
     .op ⟨some 55,.bin .lss (.t 50) (.t 54),some (46,false),[2,6,10]⟩,
     .op ⟨some 56,.pick (.t 46) (.c (.bool true)) (.t 55),none,[2,11]⟩,
     .op ⟨some 57,.mv (.t 56),none,[2,12]⟩,
     .op ⟨some 58,.ld (.t 9) 1 false,some (57,false),[13]⟩,
     .op ⟨some 59,.mv (.t 13),some (57,false),[13]⟩,
     .op ⟨some 60,.ixs (.t 58) (.t 59) 1,some (57,false),[13,14,15]⟩,
     .op ⟨some 61,.ld (.t 60) 1 false,some (57,false),[13,16]⟩,
     .op ⟨some 62,.ld (.t 9) 1 false,some (57,false),[13]⟩,
     .op ⟨some 63,.ld (.t 12) 1 false,some (57,false),[13]⟩,
     .op ⟨some 64,.ixs (.t 62) (.t 63) 1,some (57,false),[13,18,19]⟩,
     .op ⟨some 65,.ld (.t 64) 1 false,some (57,false),[13,20]⟩,
     .op ⟨some 66,.bin .eql (.t 61) (.t 65),some (57,false),[13,17,21]⟩,
     .op ⟨some 67,.mv (.t 66),some (57,false),[13,22]⟩,
     .op ⟨some 68,.mv (.t 13),some (67,true),[23]⟩,
     .op ⟨some 69,.ld (.t 12) 1 false,some (67,true),[23]⟩,
     .op ⟨some 70,.bin .lss (.t 68) (.t 69),some (67,true),[23,24,25]⟩,
     .op ⟨some 71,.pick (.t 67) (.t 70) (.c (.bool false)),some (57,false),[13,23,26]⟩,
     .op ⟨some 72,.pick (.t 57) (.c (.bool true)) (.t 71),none,[13,27]⟩] 0 0 [
])
 (.cond (.t 72)
 (.reg [
  ⟨some 73,.mv (.t 13),none,[]⟩,
  ⟨none,.st (.t 12) (.t 73) 1,none,[]⟩])
 .skip)))))))))
 (.seq (.reg [
 ⟨some 74,.mv (.t 10),none,[]⟩,
 ⟨some 75,.ld (.t 12) 1 false,none,[]⟩,
 ⟨none,.raw (Go.Op.call { callee:=(Go.Callee.builtin Go.Builtin.delete),args:=#[(Go.Operand.tmp 74),(Go.Operand.tmp 75)],argTypes:=#[99,3] }) 0,none,[]⟩])
 (.seq (.reg [
 ⟨some 76,.ld (.t 4) 4 true,none,[]⟩,
 ⟨some 77,.ld (.t 12) 1 false,none,[]⟩,
 ⟨some 78,.callm 79 [.t 76,.t 77],none,[]⟩])
 (.block 6 (.gh (.rfun (.t 78) [79,80] (.seq (.reg [
  ⟨some 14,.mv (.t 79),none,[]⟩])
  (.reg [
  ⟨some 15,.mv (.t 80),none,[]⟩]))
  (.block 7 (.regd [0,1,2,3,4,5,6,7,8,9,10,11,12,13,14,15,16,17,18,19,20,21,22] [
   .op ⟨some 81,.ld (.t 9) 1 false,none,[]⟩,
   .op ⟨some 82,.mv (.t 15),none,[]⟩,
   .op ⟨some 83,.ld (.t 9) 1 false,none,[]⟩,
   .op ⟨some 84,.mv (.t 15),none,[]⟩,
   .op ⟨some 85,.ixs (.t 83) (.t 84) 1,none,[2,3]⟩,
   .op ⟨some 86,.ld (.t 85) 1 false,none,[4]⟩,
   .op ⟨some 87,.ld (.t 4) 4 true,none,[]⟩,
   .op ⟨some 88,.mv (.t 14),none,[]⟩,
   .op ⟨some 89,.ld (.t 9) 1 false,none,[]⟩,
   .op ⟨some 90,.ld (.t 12) 1 false,none,[]⟩,
   .op ⟨some 91,.ixs (.t 89) (.t 90) 1,none,[8,9]⟩,
   .op ⟨some 92,.ld (.t 91) 1 false,none,[10]⟩,
   .op ⟨some 93,.ld (.t 9) 1 false,none,[]⟩,
   .op ⟨some 94,.ld (.t 12) 1 false,none,[]⟩,
   .op ⟨some 95,.ixs (.t 93) (.t 94) 1,none,[12,13]⟩,
   .op ⟨some 96,.ld (.t 95) 1 false,none,[14]⟩,
   .op ⟨some 97,.build [.int .i64 0,.int .i64 0] [(0,1,.t 92),(1,1,.t 96)],none,[11,15]⟩,
   .op ⟨some 98,.call 80 [.t 87,.t 88,.t 97],none,[6,7,16]⟩,
   .op ⟨some 99,.ld (.t 7) 1 false,none,[]⟩,
   .op ⟨some 100,.idx (.t 98) (.t 99) 2 1 false,none,[17,18]⟩,
   .op ⟨some 101,.mm false [.t 86,.t 100],none,[5,19]⟩,
   .op ⟨some 102,.ixs (.t 81) (.t 82) 1,none,[0,1,2,3,4,5,6,7,8,9,10,11,12,13,14,15,16,17,18,19,20]⟩] 0 1 [
   ⟨none,.st (.t 102) (.t 101) 1,none,[0,1,2,3,4,5,6,7,8,9,10,11,12,13,14,15,16,17,18,19,20,21]⟩])))))))))))))
 (.seq (.reg [
 ⟨some 103,.ld (.t 9) 1 false,none,[]⟩,
 ⟨some 8,.mv (.t 103),none,[]⟩])
 .ret)))))))
def r83:List RV:=[.tmp 8]
theorem n83:Try.f83.ntmps = 104:=by kernel_rfl
theorem b83:bodyB Try.prog 83 = true:=by kernel_rfl
theorem c83_ok:cmpC Try.prog c83 ((Try.f83.body).getD .skip) = true:=by kernel_rfl
theorem r83_ok:cmpR Try.prog r83 Try.f83.results.toList = true:=by kernel_rfl
theorem t83 {args:List SV} {res:SV} (ka:KFL args) (kr:KF res) (h:sx Try.prog Y0 0 c83 (st0 args 104) (retK r83 res)) (hA:Nat.ble args.length 104 = true:=by rfl):Ct Try.prog 83 args res:=ct_intro Try.func83 rfl b83 c83_ok r83_ok n83 (Nat.le_of_ble_eq_true hA) ka kr h
def c32:SC:=(.seq (.reg [
 ⟨some 4,.box (.t 0) 0 25,none,[]⟩,
 ⟨some 7,.box (.t 3) 0 29,none,[]⟩,
 ⟨some 8,.mv (.c (.slice none 0 0)),none,[]⟩,
 ⟨some 9,.mv (.c (.int .i64 0)),none,[]⟩])
 (.seq (.reg [
 ⟨some 17,.ld (.t 4) 2 true,none,[]⟩,
 ⟨some 18,.ld (.t 7) 2 true,none,[]⟩,
 ⟨some 19,.call 63 [.t 17,.t 18],none,[]⟩,
 ⟨some 16,.mv (.t 19),none,[]⟩,
 ⟨some 20,.ext (.t 16) 0,none,[]⟩,
 ⟨some 21,.ext (.t 16) 1,none,[]⟩,
 ⟨some 10,.alloc [.slice none 0 0,.slice none 0 0,.int .i64 0,.int .i64 0] 119,none,[]⟩,
 ⟨none,.st (.t 10) (.t 20) 4,none,[]⟩,
 ⟨some 11,.mv (.t 21),none,[]⟩])
 (.seq (.block 0 (.seq (.reg [
  ⟨some 23,.mv (.t 11),none,[]⟩,
  ⟨some 24,.bin .neq (.t 23) (.c (.int .i64 0)),none,[]⟩,
  ⟨some 22,.mv (.t 24),none,[]⟩])
  (.cond (.t 22)
  (.seq (.reg [
   ⟨some 25,.mv (.t 11),none,[]⟩,
   ⟨some 8,.mv (.c (.slice none 0 0)),none,[]⟩,
   ⟨some 9,.mv (.t 25),none,[]⟩])
   .ret)
  (.seq (.reg [
   ⟨some 27,.addo (.t 4) 0,none,[]⟩,
   ⟨some 28,.ld (.t 27) 1 false,none,[]⟩,
   ⟨some 29,.len (.t 28),none,[]⟩,
   ⟨some 30,.bin .sub (.t 29) (.c (.int .i64 1)),none,[]⟩,
   ⟨some 31,.mv (.t 1),none,[]⟩,
   ⟨some 32,.bsl 1 3 [.t 31],none,[]⟩,
   ⟨some 33,.call 58 [.c (.int .i64 0),.t 30,.t 32],none,[]⟩,
   ⟨some 34,.un .not (.t 33),none,[]⟩,
   ⟨some 35,.mv (.t 34),none,[]⟩,
   ⟨some 36,.mv (.t 2),some (35,false),[]⟩,
   ⟨some 37,.bsl 1 3 [.t 36],some (35,false),[]⟩,
   ⟨some 38,.call 58 [.c (.int .i64 0),.c (.int .i64 100000),.t 37],some (35,false),[]⟩,
   ⟨some 39,.un .not (.t 38),some (35,false),[]⟩,
   ⟨some 40,.pick (.t 35) (.c (.bool true)) (.t 39),none,[]⟩,
   ⟨some 26,.mv (.t 40),none,[]⟩])
   (.cond (.t 26)
   (.seq (.reg [
    ⟨some 8,.mv (.c (.slice none 0 0)),none,[]⟩,
    ⟨some 9,.mv (.c (.int .i64 2)),none,[]⟩])
    .ret)
   .skip)))))
 (.seq (.reg [
 ⟨some 12,.mv (.c (.slice none 0 0)),none,[]⟩])
 (.seq (.reg [
 ⟨some 41,.ld (.t 10) 4 true,none,[]⟩,
 ⟨some 42,.mv (.t 1),none,[]⟩,
 ⟨some 43,.mv (.t 2),none,[]⟩,
 ⟨some 44,.call 83 [.t 41,.t 42,.t 43,.c (.int .i64 1)],none,[]⟩,
 ⟨some 13,.mv (.t 44),none,[]⟩])
 (.seq (.seq (.reg [
 ⟨some 45,.ld (.t 10) 4 true,none,[]⟩,
 ⟨some 46,.mv (.t 1),none,[]⟩,
 ⟨some 47,.mv (.t 2),none,[]⟩,
 ⟨some 48,.call 83 [.t 45,.t 46,.t 47,.c (.int .i64 0)],none,[]⟩,
 ⟨some 49,.len (.t 48),none,[]⟩,
 ⟨some 50,.mv (.c (.int .i64 0)),none,[]⟩])
 (.block 1 (.loop (.seq (.reg [
  ⟨some 51,.bin .lss (.t 50) (.t 49),none,[]⟩])
  (.seq (.cond (.t 51)
  .skip
  (.exit 1))
  (.seq (.block 2 (.seq (.reg [
   ⟨some 52,.mv (.t 50),none,[]⟩,
   ⟨some 53,.ixs (.t 48) (.t 50) 1,none,[]⟩,
   ⟨some 54,.ld (.t 53) 1 false,none,[]⟩,
   ⟨some 14,.mv (.t 52),none,[]⟩,
   ⟨some 15,.mv (.t 54),none,[]⟩])
   (.reg [
   ⟨some 55,.mv (.t 12),none,[]⟩,
   ⟨some 56,.mv (.t 15),none,[]⟩,
   ⟨some 57,.mv (.t 13),none,[]⟩,
   ⟨some 58,.mv (.t 14),none,[]⟩,
   ⟨some 59,.ixs (.t 57) (.t 58) 1,none,[]⟩,
   ⟨some 60,.ld (.t 59) 1 false,none,[]⟩,
   ⟨some 61,.build [.int .i64 0,.int .i64 0] [(0,1,.t 56),(1,1,.t 60)],none,[]⟩,
   ⟨some 62,.bsl 2 29 [.t 61],none,[]⟩,
   ⟨some 63,.appm 2 16 29 (.t 55) (.t 62),none,[]⟩,
   ⟨some 12,.mv (.t 63),none,[]⟩])))
  (.reg [
  ⟨some 64,.bin .add (.t 50) (.c (.int .i64 1)),none,[]⟩,
  ⟨some 50,.mv (.t 64),none,[]⟩])))))))
 (.seq (.reg [
 ⟨some 65,.mv (.t 12),none,[]⟩,
 ⟨some 8,.mv (.t 65),none,[]⟩,
 ⟨some 9,.mv (.c (.int .i64 0)),none,[]⟩])
 .ret)))))))
def r32:List RV:=[.tmp 8,.tmp 9]
theorem n32:Try.f32.ntmps = 66:=by kernel_rfl
theorem b32:bodyB Try.prog 32 = true:=by kernel_rfl
theorem c32_ok:cmpC Try.prog c32 ((Try.f32.body).getD .skip) = true:=by kernel_rfl
theorem r32_ok:cmpR Try.prog r32 Try.f32.results.toList = true:=by kernel_rfl
theorem t32 {args:List SV} {res:SV} (ka:KFL args) (kr:KF res) (h:sx Try.prog Y0 0 c32 (st0 args 66) (retK r32 res)) (hA:Nat.ble args.length 66 = true:=by rfl):Ct Try.prog 32 args res:=ct_intro Try.func32 rfl b32 c32_ok r32_ok n32 (Nat.le_of_ble_eq_true hA) ka kr h
def c34:SC:=(.seq (.reg [
 ⟨some 5,.box (.t 0) 0 25,none,[]⟩,
 ⟨some 8,.box (.t 3) 0 29,none,[]⟩,
 ⟨some 10,.mv (.c (.slice none 0 0)),none,[]⟩,
 ⟨some 11,.mv (.c (.int .i64 0)),none,[]⟩,
 ⟨some 12,.mv (.c (.int .i64 0)),none,[]⟩])
 (.seq (.reg [
 ⟨some 23,.ld (.t 5) 2 true,none,[]⟩,
 ⟨some 24,.ld (.t 8) 2 true,none,[]⟩,
 ⟨some 25,.call 63 [.t 23,.t 24],none,[]⟩,
 ⟨some 22,.mv (.t 25),none,[]⟩,
 ⟨some 26,.ext (.t 22) 0,none,[]⟩,
 ⟨some 27,.ext (.t 22) 1,none,[]⟩,
 ⟨some 13,.alloc [.slice none 0 0,.slice none 0 0,.int .i64 0,.int .i64 0] 119,none,[]⟩,
 ⟨none,.st (.t 13) (.t 26) 4,none,[]⟩,
 ⟨some 12,.mv (.t 27),none,[]⟩])
 (.seq (.block 0 (.seq (.reg [
  ⟨some 29,.mv (.t 12),none,[]⟩,
  ⟨some 30,.bin .neq (.t 29) (.c (.int .i64 0)),none,[]⟩,
  ⟨some 28,.mv (.t 30),none,[]⟩])
  (.cond (.t 28)
  (.seq (.reg [
   ⟨some 31,.mv (.t 12),none,[]⟩,
   ⟨some 10,.mv (.c (.slice none 0 0)),none,[]⟩,
   ⟨some 11,.mv (.c (.int .i64 0)),none,[]⟩,
   ⟨some 12,.mv (.t 31),none,[]⟩])
   .ret)
  (.seq (.reg [
   ⟨some 33,.addo (.t 5) 0,none,[]⟩,
   ⟨some 34,.ld (.t 33) 1 false,none,[]⟩,
   ⟨some 35,.len (.t 34),none,[]⟩,
   ⟨some 36,.bin .sub (.t 35) (.c (.int .i64 1)),none,[]⟩,
   ⟨some 37,.mv (.t 1),none,[]⟩,
   ⟨some 38,.bsl 1 3 [.t 37],none,[]⟩,
   ⟨some 39,.call 58 [.c (.int .i64 0),.t 36,.t 38],none,[]⟩,
   ⟨some 40,.un .not (.t 39),none,[]⟩,
   ⟨some 41,.mv (.t 40),none,[]⟩,
   ⟨some 42,.mv (.t 2),some (41,false),[]⟩,
   ⟨some 43,.bsl 1 3 [.t 42],some (41,false),[]⟩,
   ⟨some 44,.call 58 [.c (.int .i64 0),.c (.int .i64 100000),.t 43],some (41,false),[]⟩,
   ⟨some 45,.un .not (.t 44),some (41,false),[]⟩,
   ⟨some 46,.pick (.t 41) (.c (.bool true)) (.t 45),none,[]⟩,
   ⟨some 32,.mv (.t 46),none,[]⟩])
   (.cond (.t 32)
   (.seq (.reg [
    ⟨some 10,.mv (.c (.slice none 0 0)),none,[]⟩,
    ⟨some 11,.mv (.c (.int .i64 0)),none,[]⟩,
    ⟨some 12,.mv (.c (.int .i64 2)),none,[]⟩])
    .ret)
   (.seq (.reg [
    ⟨some 48,.mv (.t 4),none,[]⟩,
    ⟨some 49,.len (.t 48),none,[]⟩,
    ⟨some 50,.bin .gtr (.t 49) (.c (.int .i64 24)),none,[]⟩,
    ⟨some 47,.mv (.t 50),none,[]⟩])
    (.cond (.t 47)
    (.seq (.reg [
     ⟨some 10,.mv (.c (.slice none 0 0)),none,[]⟩,
     ⟨some 11,.mv (.c (.int .i64 0)),none,[]⟩,
     ⟨some 12,.mv (.c (.int .i64 4)),none,[]⟩])
     .ret)
    .skip)))))))
 (.seq (.reg [
 ⟨some 14,.mv (.c (.slice none 0 0)),none,[]⟩])
 (.seq (.reg [
 ⟨some 51,.mv (.t 1),none,[]⟩,
 ⟨some 15,.mv (.t 51),none,[]⟩])
 (.seq (.seq (.reg [
 ⟨some 52,.mv (.t 4),none,[]⟩,
 ⟨some 53,.len (.t 52),none,[]⟩,
 ⟨some 54,.mv (.c (.int .i64 0)),none,[]⟩])
 (.block 1 (.loop (.seq (.reg [
  ⟨some 55,.bin .lss (.t 54) (.t 53),none,[]⟩])
  (.seq (.cond (.t 55)
  .skip
  (.exit 1))
  (.seq (.block 2 (.seq (.reg [
   ⟨some 56,.mv (.t 54),none,[]⟩,
   ⟨some 57,.ixs (.t 52) (.t 54) 1,none,[]⟩,
   ⟨some 58,.ld (.t 57) 1 false,none,[]⟩,
   ⟨some 16,.mv (.t 56),none,[]⟩,
   ⟨some 17,.mv (.t 58),none,[]⟩])
   (.seq (.seq (.reg [
   ⟨some 59,.ld (.t 13) 4 true,none,[]⟩,
   ⟨some 60,.mv (.t 17),none,[]⟩,
   ⟨some 61,.mv (.t 15),none,[]⟩,
   ⟨some 62,.call 85 [.t 59,.t 60,.t 61],none,[]⟩,
   ⟨some 15,.mv (.t 62),none,[]⟩])
   (.seq (.reg [
   ⟨some 63,.mv (.t 15),none,[]⟩,
   ⟨some 64,.bin .lss (.t 63) (.c (.int .i64 0)),none,[]⟩])
   (.cond (.t 64)
   (.seq (.reg [
    ⟨some 65,.mv (.t 16),none,[]⟩,
    ⟨some 10,.mv (.c (.slice none 0 0)),none,[]⟩,
    ⟨some 11,.mv (.t 65),none,[]⟩,
    ⟨some 12,.mv (.c (.int .i64 8)),none,[]⟩])
    .ret)
   .skip)))
   (.reg [
   ⟨some 66,.mv (.t 14),none,[]⟩,
   ⟨some 67,.mv (.t 15),none,[]⟩,
   ⟨some 68,.bsl 1 3 [.t 67],none,[]⟩,
   ⟨some 69,.appm 1 8 3 (.t 66) (.t 68),none,[]⟩,
   ⟨some 14,.mv (.t 69),none,[]⟩]))))
  (.reg [
  ⟨some 70,.bin .add (.t 54) (.c (.int .i64 1)),none,[]⟩,
  ⟨some 54,.mv (.t 70),none,[]⟩])))))))
 (.seq (.reg [
 ⟨some 71,.mv (.t 2),none,[]⟩,
 ⟨some 72,.mv (.t 2),none,[]⟩,
 ⟨some 73,.build [.int .i64 0,.int .i64 0] [(0,1,.t 71),(1,1,.t 72)],none,[]⟩,
 ⟨some 18,.alloc [.int .i64 0,.int .i64 0] 123,none,[]⟩,
 ⟨none,.st (.t 18) (.t 73) 2,none,[]⟩])
 (.seq (.seq (.reg [
 ⟨some 74,.mv (.t 4),none,[]⟩,
 ⟨some 75,.len (.t 74),none,[]⟩,
 ⟨some 76,.mv (.c (.int .i64 0)),none,[]⟩])
 (.block 3 (.loop (.seq (.reg [
  ⟨some 77,.bin .lss (.t 76) (.t 75),none,[]⟩])
  (.seq (.cond (.t 77)
  .skip
  (.exit 3))
  (.seq (.block 4 (.seq (.reg [
   ⟨some 78,.mv (.t 76),none,[]⟩,
   ⟨some 79,.ixs (.t 74) (.t 76) 1,none,[]⟩,
   ⟨some 80,.ld (.t 79) 1 false,none,[]⟩,
   ⟨some 19,.mv (.t 78),none,[]⟩,
   ⟨some 20,.mv (.t 80),none,[]⟩])
   (.seq (.reg [
   ⟨some 81,.ld (.t 13) 4 true,none,[]⟩,
   ⟨some 82,.mv (.t 20),none,[]⟩,
   ⟨some 83,.ld (.t 18) 2 true,none,[]⟩,
   ⟨some 84,.call 68 [.t 81,.t 82,.t 83],none,[]⟩,
   ⟨some 21,.alloc [.int .i64 0,.int .i64 0] 123,none,[]⟩,
   ⟨none,.st (.t 21) (.t 84) 2,none,[]⟩])
   (.seq (.seq (.reg [
   ⟨some 85,.ld (.t 13) 4 true,none,[]⟩,
   ⟨some 86,.mv (.t 20),none,[]⟩,
   ⟨some 87,.ld (.t 18) 2 true,none,[]⟩,
   ⟨some 88,.call 80 [.t 85,.t 86,.t 87],none,[]⟩,
   ⟨none,.st (.t 18) (.t 88) 2,none,[]⟩])
   (.seq (.reg [
   ⟨some 89,.ixa (.t 18) (.c (.int .i64 1)) 2 1,none,[]⟩,
   ⟨some 90,.ld (.t 89) 1 false,none,[]⟩,
   ⟨some 91,.bin .gtr (.t 90) (.c (.int .i64 100000)),none,[]⟩])
   (.cond (.t 91)
   (.seq (.reg [
    ⟨some 92,.mv (.t 19),none,[]⟩,
    ⟨some 10,.mv (.c (.slice none 0 0)),none,[]⟩,
    ⟨some 11,.mv (.t 92),none,[]⟩,
    ⟨some 12,.mv (.c (.int .i64 34)),none,[]⟩])
    .ret)
   .skip)))
   (.regs [0,1,2,3,4,5,6,7,8,9,10,11,12,13] ⟨[
   .op ⟨some 93,.mv (.t 10),none,[]⟩,
   .op ⟨some 94,.mv (.t 20),none,[]⟩,
   .op ⟨some 95,.mv (.t 14),none,[]⟩,
   .op ⟨some 96,.mv (.t 19),none,[]⟩,
   .op ⟨some 97,.ixs (.t 95) (.t 96) 1,none,[2,3]⟩,
   .op ⟨some 98,.ld (.t 97) 1 false,none,[4]⟩,
   .op ⟨some 99,.ld (.t 21) 2 true,none,[]⟩,
   .op ⟨some 100,.call 65 [.t 99],none,[6]⟩,
   .op ⟨some 101,.ld (.t 18) 2 true,none,[]⟩,
   .op ⟨some 102,.call 65 [.t 101],none,[7,8]⟩,
   .op ⟨some 103,.build [.int .i64 0,.int .i64 0,.int .i64 0,.int .i64 0,.int .i64 0,.int .i64 0] [(0,1,.t 94),(1,1,.t 98),(2,2,.t 100),(4,2,.t 102)],none,[1,5,7,9]⟩,
   .op ⟨some 104,.bsl 6 92 [.t 103],none,[10]⟩],0,1,[
   ⟨some 105,.appm 6 48 92 (.t 93) (.t 104),none,[0,9,11]⟩]⟩ [⟨[
],0,1,[
 ⟨some 10,.mv (.t 105),none,[0,1,2,3,4,5,6,7,8,9,10,11,12]⟩]⟩])))))
 (.reg [
 ⟨some 106,.bin .add (.t 76) (.c (.int .i64 1)),none,[]⟩,
 ⟨some 76,.mv (.t 106),none,[]⟩])))))))
 (.seq (.reg [
 ⟨some 107,.mv (.t 10),none,[]⟩,
 ⟨some 10,.mv (.t 107),none,[]⟩,
 ⟨some 11,.mv (.c (.int .i64 0)),none,[]⟩,
 ⟨some 12,.mv (.c (.int .i64 0)),none,[]⟩])
 .ret)))))))))
def r34:List RV:=[.tmp 10,.tmp 11,.tmp 12]
theorem n34:Try.f34.ntmps = 108:=by kernel_rfl
theorem b34:bodyB Try.prog 34 = true:=by kernel_rfl
theorem c34_ok:cmpC Try.prog c34 ((Try.f34.body).getD .skip) = true:=by kernel_rfl
theorem r34_ok:cmpR Try.prog r34 Try.f34.results.toList = true:=by kernel_rfl
theorem t34 {args:List SV} {res:SV} (ka:KFL args) (kr:KF res) (h:sx Try.prog Y0 0 c34 (st0 args 108) (retK r34 res)) (hA:Nat.ble args.length 108 = true:=by rfl):Ct Try.prog 34 args res:=ct_intro Try.func34 rfl b34 c34_ok r34_ok n34 (Nat.le_of_ble_eq_true hA) ka kr h
def c36:SC:=(.seq (.reg [
 ⟨some 5,.box (.t 0) 0 25,none,[]⟩,
 ⟨some 9,.box (.t 4) 0 29,none,[]⟩,
 ⟨some 10,.mv (.c (.slice none 0 0)),none,[]⟩,
 ⟨some 11,.mv (.c (.int .i64 0)),none,[]⟩])
 (.seq (.reg [
 ⟨some 28,.ld (.t 5) 2 true,none,[]⟩,
 ⟨some 29,.ld (.t 9) 2 true,none,[]⟩,
 ⟨some 30,.call 63 [.t 28,.t 29],none,[]⟩,
 ⟨some 27,.mv (.t 30),none,[]⟩,
 ⟨some 31,.ext (.t 27) 0,none,[]⟩,
 ⟨some 32,.ext (.t 27) 1,none,[]⟩,
 ⟨some 12,.alloc [.slice none 0 0,.slice none 0 0,.int .i64 0,.int .i64 0] 119,none,[]⟩,
 ⟨none,.st (.t 12) (.t 31) 4,none,[]⟩,
 ⟨some 13,.mv (.t 32),none,[]⟩])
 (.seq (.block 0 (.seq (.reg [
  ⟨some 34,.mv (.t 13),none,[]⟩,
  ⟨some 35,.bin .neq (.t 34) (.c (.int .i64 0)),none,[]⟩,
  ⟨some 33,.mv (.t 35),none,[]⟩])
  (.cond (.t 33)
  (.seq (.reg [
   ⟨some 36,.mv (.t 13),none,[]⟩,
   ⟨some 10,.mv (.c (.slice none 0 0)),none,[]⟩,
   ⟨some 11,.mv (.t 36),none,[]⟩])
   .ret)
  (.seq (.reg [
   ⟨some 38,.addo (.t 5) 0,none,[]⟩,
   ⟨some 39,.ld (.t 38) 1 false,none,[]⟩,
   ⟨some 40,.len (.t 39),none,[]⟩,
   ⟨some 41,.bin .sub (.t 40) (.c (.int .i64 1)),none,[]⟩,
   ⟨some 42,.mv (.t 1),none,[]⟩,
   ⟨some 43,.mv (.t 2),none,[]⟩,
   ⟨some 44,.bsl 1 3 [.t 42,.t 43],none,[]⟩,
   ⟨some 45,.call 58 [.c (.int .i64 0),.t 41,.t 44],none,[]⟩,
   ⟨some 46,.un .not (.t 45),none,[]⟩,
   ⟨some 47,.mv (.t 46),none,[]⟩,
   ⟨some 48,.mv (.t 3),some (47,false),[]⟩,
   ⟨some 49,.bsl 1 3 [.t 48],some (47,false),[]⟩,
   ⟨some 50,.call 58 [.c (.int .i64 0),.c (.int .i64 100000),.t 49],some (47,false),[]⟩,
   ⟨some 51,.un .not (.t 50),some (47,false),[]⟩,
   ⟨some 52,.pick (.t 47) (.c (.bool true)) (.t 51),none,[]⟩,
   ⟨some 37,.mv (.t 52),none,[]⟩])
   (.cond (.t 37)
   (.seq (.reg [
    ⟨some 10,.mv (.c (.slice none 0 0)),none,[]⟩,
    ⟨some 11,.mv (.c (.int .i64 2)),none,[]⟩])
    .ret)
   .skip)))))
 (.seq (.reg [
 ⟨some 53,.mv (.t 2),none,[]⟩,
 ⟨some 54,.ld (.t 12) 4 true,none,[]⟩,
 ⟨some 55,.mv (.t 1),none,[]⟩,
 ⟨some 56,.mv (.t 3),none,[]⟩,
 ⟨some 57,.call 83 [.t 54,.t 55,.t 56,.c (.int .i64 1)],none,[]⟩,
 ⟨some 58,.mv (.t 2),none,[]⟩,
 ⟨some 59,.ixs (.t 57) (.t 58) 1,none,[]⟩,
 ⟨some 60,.ld (.t 59) 1 false,none,[]⟩,
 ⟨some 61,.build [.int .i64 0,.int .i64 0] [(0,1,.t 53),(1,1,.t 60)],none,[]⟩,
 ⟨some 14,.alloc [.int .i64 0,.int .i64 0] 136,none,[]⟩,
 ⟨none,.st (.t 14) (.t 61) 2,none,[]⟩])
 (.seq (.seq (.reg [
 ⟨some 62,.addo (.t 14) 1,none,[]⟩,
 ⟨some 63,.ld (.t 62) 1 false,none,[]⟩,
 ⟨some 64,.bin .gtr (.t 63) (.c (.int .i64 100000)),none,[]⟩])
 (.cond (.t 64)
 (.seq (.reg [
  ⟨some 10,.mv (.c (.slice none 0 0)),none,[]⟩,
  ⟨some 11,.mv (.c (.int .i64 6)),none,[]⟩])
  .ret)
 .skip))
 (.seq (.reg [
 ⟨some 65,.raw (Go.Op.makeMap 147 Option.none) 147,none,[]⟩,
 ⟨some 66,.mv (.t 1),none,[]⟩,
 ⟨some 67,.mv (.t 3),none,[]⟩,
 ⟨some 68,.build [.int .i64 0,.int .i64 0] [(0,1,.t 66),(1,1,.t 67)],none,[]⟩,
 ⟨none,.raw (Go.Op.insert 147 (Go.Operand.tmp 65) (Go.Operand.tmp 68) (Go.Operand.const (Go.Value.slice Option.none 0 0))) 0,none,[]⟩,
 ⟨some 69,.mv (.t 65),none,[]⟩,
 ⟨some 15,.mv (.t 69),none,[]⟩])
 (.block 1 (.loop (.block 2 (.seq (.seq (.reg [
  ⟨some 71,.mv (.t 15),none,[]⟩,
  ⟨some 72,.ld (.t 14) 2 true,none,[]⟩,
  ⟨some 73,.raw (Go.Op.lookup 147 (Go.Operand.tmp 71) (Go.Operand.tmp 72) Bool.true) 148,none,[]⟩,
  ⟨some 70,.mv (.t 73),none,[]⟩,
  ⟨some 74,.ext (.t 70) 0,none,[]⟩,
  ⟨some 75,.ext (.t 70) 1,none,[]⟩,
  ⟨some 16,.mv (.t 74),none,[]⟩,
  ⟨some 17,.mv (.t 75),none,[]⟩])
  (.seq (.reg [
  ⟨some 76,.mv (.t 17),none,[]⟩])
  (.cond (.t 76)
  (.seq (.reg [
   ⟨some 77,.mv (.t 16),none,[]⟩,
   ⟨some 10,.mv (.t 77),none,[]⟩,
   ⟨some 11,.mv (.c (.int .i64 0)),none,[]⟩])
   .ret)
  .skip)))
  (.seq (.reg [
  ⟨some 78,.raw (Go.Op.makeMap 147 Option.none) 147,none,[]⟩,
  ⟨some 18,.alloc [.map none] 147,none,[]⟩,
  ⟨none,.st (.t 18) (.t 78) 1,none,[]⟩])
  (.seq (.seq (.reg [
  ⟨some 79,.mv (.t 15),none,[]⟩,
  ⟨some 80,.raw (Go.Op.range 147 (Go.Operand.tmp 79)) 0,none,[]⟩])
  (.block 3 (.loop (.seq (.reg [
   ⟨some 81,.raw (Go.Op.next (Go.Operand.tmp 80) Bool.false) 0,none,[]⟩,
   ⟨some 82,.ext (.t 81) 0,none,[]⟩])
   (.seq (.cond (.t 82)
   .skip
   (.exit 3))
   (.block 4 (.seq (.reg [
    ⟨some 83,.raw (Go.Op.entry (Go.Operand.tmp 80)) 0,none,[]⟩,
    ⟨some 84,.ext (.t 83) 0,none,[]⟩,
    ⟨some 85,.ext (.t 83) 1,none,[]⟩,
    ⟨some 19,.alloc [.int .i64 0,.int .i64 0] 136,none,[]⟩,
    ⟨some 20,.alloc [.slice none 0 0] 59,none,[]⟩,
    ⟨none,.st (.t 19) (.t 84) 2,none,[]⟩,
    ⟨none,.st (.t 20) (.t 85) 1,none,[]⟩])
    (.seq (.reg [
    ⟨some 86,.ld (.t 12) 4 true,none,[]⟩,
    ⟨some 87,.addo (.t 19) 0,none,[]⟩,
    ⟨some 88,.ld (.t 87) 1 false,none,[]⟩,
    ⟨some 89,.callm 79 [.t 86,.t 88],none,[]⟩])
    (.block 5 (.gh (.rfun (.t 89) [90,91] (.seq (.reg [
     ⟨some 21,.mv (.t 90),none,[]⟩])
     (.reg [
     ⟨some 22,.mv (.t 91),none,[]⟩]))
     (.block 6 (.seq (.reg [
      ⟨some 92,.mv (.t 22),none,[]⟩,
      ⟨some 93,.ld (.t 12) 4 true,none,[]⟩,
      ⟨some 94,.mv (.t 21),none,[]⟩,
      ⟨some 95,.addo (.t 19) 1,none,[]⟩,
      ⟨some 96,.ld (.t 95) 1 false,none,[]⟩,
      ⟨some 97,.addo (.t 19) 1,none,[]⟩,
      ⟨some 98,.ld (.t 97) 1 false,none,[]⟩,
      ⟨some 99,.build [.int .i64 0,.int .i64 0] [(0,1,.t 96),(1,1,.t 98)],none,[]⟩,
      ⟨some 100,.call 80 [.t 93,.t 94,.t 99],none,[]⟩,
      ⟨some 101,.idx (.t 100) (.c (.int .i64 1)) 2 1 false,none,[]⟩,
      ⟨some 102,.build [.int .i64 0,.int .i64 0] [(0,1,.t 92),(1,1,.t 101)],none,[]⟩,
      ⟨some 23,.alloc [.int .i64 0,.int .i64 0] 136,none,[]⟩,
      ⟨none,.st (.t 23) (.t 102) 2,none,[]⟩])
      (.seq (.seq (.reg [
      ⟨some 103,.addo (.t 23) 1,none,[]⟩,
      ⟨some 104,.ld (.t 103) 1 false,none,[]⟩,
      ⟨some 105,.addo (.t 14) 1,none,[]⟩,
      ⟨some 106,.ld (.t 105) 1 false,none,[]⟩,
      ⟨some 107,.bin .gtr (.t 104) (.t 106),none,[]⟩])
      (.cond (.t 107)
      (.exit 6)
      .skip))
      (.seq (.reg [
      ⟨some 108,.ld (.t 20) 1 false,none,[]⟩,
      ⟨some 109,.mv (.t 21),none,[]⟩,
      ⟨some 110,.call 81 [.t 108,.t 109],none,[]⟩,
      ⟨some 24,.mv (.t 110),none,[]⟩])
      (.seq (.reg [
      ⟨some 112,.ld (.t 18) 1 false,none,[]⟩,
      ⟨some 113,.ld (.t 23) 2 true,none,[]⟩,
      ⟨some 114,.raw (Go.Op.lookup 147 (Go.Operand.tmp 112) (Go.Operand.tmp 113) Bool.true) 148,none,[]⟩,
      ⟨some 111,.mv (.t 114),none,[]⟩,
      ⟨some 115,.ext (.t 111) 0,none,[]⟩,
      ⟨some 116,.ext (.t 111) 1,none,[]⟩,
      ⟨some 25,.mv (.t 115),none,[]⟩,
      ⟨some 26,.mv (.t 116),none,[]⟩])
      (.seq (.reg [
      ⟨some 117,.mv (.t 26),none,[]⟩,
      ⟨some 118,.un .not (.t 117),none,[]⟩,
      ⟨some 119,.mv (.t 118),none,[]⟩,
      ⟨some 120,.mv (.t 24),some (119,false),[]⟩,
      ⟨some 121,.mv (.t 25),some (119,false),[]⟩,
      ⟨some 122,.call 87 [.t 120,.t 121],some (119,false),[]⟩,
      ⟨some 123,.bin .lss (.t 122) (.c (.int .i64 0)),some (119,false),[]⟩,
      ⟨some 124,.pick (.t 119) (.c (.bool true)) (.t 123),none,[]⟩])
      (.cond (.t 124)
      (.reg [
       ⟨some 125,.ld (.t 18) 1 false,none,[]⟩,
       ⟨some 126,.ld (.t 23) 2 true,none,[]⟩,
       ⟨some 127,.mv (.t 24),none,[]⟩,
       ⟨none,.raw (Go.Op.mapUpdate 147 (Go.Operand.tmp 125) (Go.Operand.tmp 126) (Go.Operand.tmp 127)) 0,none,[]⟩])
      .skip))))))))))))))))))
  (.reg [
  ⟨some 128,.ld (.t 18) 1 false,none,[]⟩,
  ⟨some 15,.mv (.t 128),none,[]⟩])))))))))))))
def r36:List RV:=[.tmp 10,.tmp 11]
theorem n36:Try.f36.ntmps = 129:=by kernel_rfl
theorem b36:bodyB Try.prog 36 = true:=by kernel_rfl
theorem c36_ok:cmpC Try.prog c36 ((Try.f36.body).getD .skip) = true:=by kernel_rfl
theorem r36_ok:cmpR Try.prog r36 Try.f36.results.toList = true:=by kernel_rfl
theorem t36 {args:List SV} {res:SV} (ka:KFL args) (kr:KF res) (h:sx Try.prog Y0 0 c36 (st0 args 129) (retK r36 res)) (hA:Nat.ble args.length 129 = true:=by rfl):Ct Try.prog 36 args res:=ct_intro Try.func36 rfl b36 c36_ok r36_ok n36 (Nat.le_of_ble_eq_true hA) ka kr h
def c81:SC:=(.seq (.reg [
 ⟨some 4,.mv (.c (.slice none 0 0)),none,[]⟩])
 (.seq (.reg [
 ⟨some 5,.mv (.t 0),none,[]⟩,
 ⟨some 6,.call 78 [.t 5],none,[]⟩,
 ⟨some 7,.call 98 [.t 6],none,[]⟩,
 ⟨some 8,.mv (.t 1),none,[]⟩,
 ⟨some 9,.bsl 1 3 [.t 8],none,[]⟩,
 ⟨some 10,.app 1 8 3 (.t 7) (.t 9),none,[]⟩,
 ⟨some 4,.mv (.t 10),none,[]⟩])
 .ret))
def r81:List RV:=[.tmp 4]
theorem n81:Try.f81.ntmps = 11:=by kernel_rfl
theorem b81:bodyB Try.prog 81 = true:=by kernel_rfl
theorem c81_ok:cmpC Try.prog c81 ((Try.f81.body).getD .skip) = true:=by kernel_rfl
theorem r81_ok:cmpR Try.prog r81 Try.f81.results.toList = true:=by kernel_rfl
theorem t81 {args:List SV} {res:SV} (ka:KFL args) (kr:KF res) (h:sx Try.prog Y0 0 c81 (st0 args 11) (retK r81 res)) (hA:Nat.ble args.length 11 = true:=by rfl):Ct Try.prog 81 args res:=ct_intro Try.func81 rfl b81 c81_ok r81_ok n81 (Nat.le_of_ble_eq_true hA) ka kr h
def c78:SC:=(.seq (.reg [
 ⟨some 2,.mv (.c (.slice none 0 0)),none,[]⟩])
 (.seq (.seq (.reg [
 ⟨some 3,.mv (.t 0),none,[]⟩,
 ⟨some 4,.isn (.t 3),none,[]⟩])
 (.cond (.t 4)
 (.seq (.reg [
  ⟨some 2,.mv (.c (.slice none 0 0)),none,[]⟩])
  .ret)
 .skip))
 (.seq (.reg [
 ⟨some 5,.bsl 1 3 [],none,[]⟩,
 ⟨some 6,.mv (.t 0),none,[]⟩,
 ⟨some 7,.app 1 8 3 (.t 5) (.t 6),none,[]⟩,
 ⟨some 2,.mv (.t 7),none,[]⟩])
 .ret)))
def r78:List RV:=[.tmp 2]
theorem n78:Try.f78.ntmps = 8:=by kernel_rfl
theorem b78:bodyB Try.prog 78 = true:=by kernel_rfl
theorem c78_ok:cmpC Try.prog c78 ((Try.f78.body).getD .skip) = true:=by kernel_rfl
theorem r78_ok:cmpR Try.prog r78 Try.f78.results.toList = true:=by kernel_rfl
def c98:SC:=(.seq (.reg [
 ⟨some 2,.mv (.c (.slice none 0 0)),none,[]⟩])
 (.seq (.reg [
 ⟨some 3,.mv (.t 0),none,[]⟩,
 ⟨some 4,.mv (.t 0),none,[]⟩,
 ⟨some 5,.len (.t 4),none,[]⟩,
 ⟨some 6,.mv (.t 0),none,[]⟩,
 ⟨some 7,.len (.t 6),none,[]⟩,
 ⟨some 8,.slc (.t 3) (.t 5) (.t 7),none,[]⟩,
 ⟨some 2,.mv (.t 8),none,[]⟩])
 .ret))
def r98:List RV:=[.tmp 2]
theorem n98:Try.f98.ntmps = 9:=by kernel_rfl
theorem b98:bodyB Try.prog 98 = true:=by kernel_rfl
theorem c98_ok:cmpC Try.prog c98 ((Try.f98.body).getD .skip) = true:=by kernel_rfl
theorem r98_ok:cmpR Try.prog r98 Try.f98.results.toList = true:=by kernel_rfl
theorem t98 {args:List SV} {res:SV} (ka:KFL args) (kr:KF res) (h:sx Try.prog Y0 0 c98 (st0 args 9) (retK r98 res)) (hA:Nat.ble args.length 9 = true:=by rfl):Ct Try.prog 98 args res:=ct_intro Try.func98 rfl b98 c98_ok r98_ok n98 (Nat.le_of_ble_eq_true hA) ka kr h
def c87:SC:=(.seq (.reg [
 ⟨some 4,.mv (.c (.int .i64 0)),none,[]⟩])
 (.seq (.seq (.reg [
 ⟨some 9,.mv (.t 0),none,[]⟩,
 ⟨some 10,.len (.t 9),none,[]⟩,
 ⟨some 11,.mv (.c (.int .i64 0)),none,[]⟩])
 (.block 0 (.loop (.seq (.reg [
  ⟨some 12,.bin .lss (.t 11) (.t 10),none,[]⟩])
  (.seq (.cond (.t 12)
  .skip
  (.exit 0))
  (.seq (.block 1 (.seq (.reg [
   ⟨some 13,.mv (.t 11),none,[]⟩,
   ⟨some 14,.ixs (.t 9) (.t 11) 1,none,[]⟩,
   ⟨some 15,.ld (.t 14) 1 false,none,[]⟩,
   ⟨some 5,.mv (.t 13),none,[]⟩,
   ⟨some 6,.mv (.t 15),none,[]⟩])
   (.seq (.seq (.reg [
   ⟨some 16,.mv (.t 5),none,[]⟩,
   ⟨some 17,.mv (.t 1),none,[]⟩,
   ⟨some 18,.len (.t 17),none,[]⟩,
   ⟨some 19,.bin .geq (.t 16) (.t 18),none,[]⟩])
   (.cond (.t 19)
   (.seq (.reg [
    ⟨some 4,.mv (.c (.int .i64 1)),none,[]⟩])
    .ret)
   .skip))
   (.seq (.reg [
   ⟨some 20,.mv (.t 1),none,[]⟩,
   ⟨some 21,.mv (.t 5),none,[]⟩,
   ⟨some 22,.ixs (.t 20) (.t 21) 1,none,[]⟩,
   ⟨some 23,.ld (.t 22) 1 false,none,[]⟩,
   ⟨some 7,.mv (.t 23),none,[]⟩])
   (.seq (.reg [
   ⟨some 24,.mv (.t 6),none,[]⟩,
   ⟨some 25,.mv (.t 7),none,[]⟩,
   ⟨some 26,.call 100 [.t 24,.t 25],none,[]⟩,
   ⟨some 8,.mv (.t 26),none,[]⟩])
   (.seq (.reg [
   ⟨some 27,.mv (.t 8),none,[]⟩,
   ⟨some 28,.bin .neq (.t 27) (.c (.int .i64 0)),none,[]⟩])
   (.cond (.t 28)
   (.seq (.reg [
    ⟨some 29,.mv (.t 8),none,[]⟩,
    ⟨some 4,.mv (.t 29),none,[]⟩])
    .ret)
   .skip)))))))
  (.reg [
  ⟨some 30,.bin .add (.t 11) (.c (.int .i64 1)),none,[]⟩,
  ⟨some 11,.mv (.t 30),none,[]⟩])))))))
 (.seq (.seq (.reg [
 ⟨some 31,.mv (.t 0),none,[]⟩,
 ⟨some 32,.len (.t 31),none,[]⟩,
 ⟨some 33,.mv (.t 1),none,[]⟩,
 ⟨some 34,.len (.t 33),none,[]⟩,
 ⟨some 35,.bin .lss (.t 32) (.t 34),none,[]⟩])
 (.cond (.t 35)
 (.seq (.reg [
  ⟨some 4,.mv (.c (.int .i64 (-1))),none,[]⟩])
  .ret)
 .skip))
 (.seq (.reg [
 ⟨some 4,.mv (.c (.int .i64 0)),none,[]⟩])
 .ret))))
def r87:List RV:=[.tmp 4]
theorem n87:Try.f87.ntmps = 36:=by kernel_rfl
theorem b87:bodyB Try.prog 87 = true:=by kernel_rfl
theorem c87_ok:cmpC Try.prog c87 ((Try.f87.body).getD .skip) = true:=by kernel_rfl
theorem r87_ok:cmpR Try.prog r87 Try.f87.results.toList = true:=by kernel_rfl
theorem t87 {args:List SV} {res:SV} (ka:KFL args) (kr:KF res) (h:sx Try.prog Y0 0 c87 (st0 args 36) (retK r87 res)) (hA:Nat.ble args.length 36 = true:=by rfl):Ct Try.prog 87 args res:=ct_intro Try.func87 rfl b87 c87_ok r87_ok n87 (Nat.le_of_ble_eq_true hA) ka kr h
def c100:SC:=(.seq (.reg [
 ⟨some 4,.mv (.c (.int .i64 0)),none,[]⟩])
 (.seq (.reg [
 ⟨some 7,.mv (.t 0),none,[]⟩,
 ⟨some 8,.call 106 [.t 7],none,[]⟩,
 ⟨some 5,.mv (.t 8),none,[]⟩])
 (.seq (.reg [
 ⟨some 9,.mv (.t 1),none,[]⟩,
 ⟨some 10,.call 106 [.t 9],none,[]⟩,
 ⟨some 6,.mv (.t 10),none,[]⟩])
 (.seq (.seq (.reg [
 ⟨some 11,.mv (.t 5),none,[]⟩])
 (.cond (.t 11)
 (.seq (.seq (.reg [
  ⟨some 12,.mv (.t 6),none,[]⟩])
  (.cond (.t 12)
  (.seq (.reg [
   ⟨some 4,.mv (.c (.int .i64 0)),none,[]⟩])
   .ret)
  .skip))
  (.seq (.reg [
  ⟨some 4,.mv (.c (.int .i64 (-1))),none,[]⟩])
  .ret))
 .skip))
 (.seq (.seq (.reg [
 ⟨some 13,.mv (.t 6),none,[]⟩])
 (.cond (.t 13)
 (.seq (.reg [
  ⟨some 4,.mv (.c (.int .i64 1)),none,[]⟩])
  .ret)
 .skip))
 (.seq (.seq (.reg [
 ⟨some 14,.mv (.t 0),none,[]⟩,
 ⟨some 15,.mv (.t 1),none,[]⟩,
 ⟨some 16,.bin .lss (.t 14) (.t 15),none,[]⟩])
 (.cond (.t 16)
 (.seq (.reg [
  ⟨some 4,.mv (.c (.int .i64 (-1))),none,[]⟩])
  .ret)
 .skip))
 (.seq (.seq (.reg [
 ⟨some 17,.mv (.t 0),none,[]⟩,
 ⟨some 18,.mv (.t 1),none,[]⟩,
 ⟨some 19,.bin .gtr (.t 17) (.t 18),none,[]⟩])
 (.cond (.t 19)
 (.seq (.reg [
  ⟨some 4,.mv (.c (.int .i64 1)),none,[]⟩])
  .ret)
 .skip))
 (.seq (.reg [
 ⟨some 4,.mv (.c (.int .i64 0)),none,[]⟩])
 .ret))))))))
def r100:List RV:=[.tmp 4]
theorem n100:Try.f100.ntmps = 20:=by kernel_rfl
theorem b100:bodyB Try.prog 100 = true:=by kernel_rfl
theorem c100_ok:cmpC Try.prog c100 ((Try.f100.body).getD .skip) = true:=by kernel_rfl
theorem r100_ok:cmpR Try.prog r100 Try.f100.results.toList = true:=by kernel_rfl
theorem t100 {args:List SV} {res:SV} (ka:KFL args) (kr:KF res) (h:sx Try.prog Y0 0 c100 (st0 args 20) (retK r100 res)) (hA:Nat.ble args.length 20 = true:=by rfl):Ct Try.prog 100 args res:=ct_intro Try.func100 rfl b100 c100_ok r100_ok n100 (Nat.le_of_ble_eq_true hA) ka kr h
def c106:SC:=(.seq (.reg [
 ⟨some 2,.mv (.c (.bool false)),none,[]⟩])
 (.seq (.reg [
 ⟨some 3,.mv (.t 0),none,[]⟩,
 ⟨some 4,.mv (.t 0),none,[]⟩,
 ⟨some 5,.bin .neq (.t 3) (.t 4),none,[]⟩,
 ⟨some 2,.mv (.t 5),none,[]⟩])
 .ret))
def r106:List RV:=[.tmp 2]
theorem n106:Try.f106.ntmps = 6:=by kernel_rfl
theorem b106:bodyB Try.prog 106 = true:=by kernel_rfl
theorem c106_ok:cmpC Try.prog c106 ((Try.f106.body).getD .skip) = true:=by kernel_rfl
theorem r106_ok:cmpR Try.prog r106 Try.f106.results.toList = true:=by kernel_rfl
theorem t106 {args:List SV} {res:SV} (ka:KFL args) (kr:KF res) (h:sx Try.prog Y0 0 c106 (st0 args 6) (retK r106 res)) (hA:Nat.ble args.length 6 = true:=by rfl):Ct Try.prog 106 args res:=ct_intro Try.func106 rfl b106 c106_ok r106_ok n106 (Nat.le_of_ble_eq_true hA) ka kr h
def c99:SC:=(.seq (.reg [
 ⟨some 4,.mv (.c (.slice none 0 0)),none,[]⟩])
 (.seq (.seq (.reg [
 ⟨some 9,.mv (.t 1),none,[]⟩,
 ⟨some 10,.bin .lss (.t 9) (.c (.int .i64 0)),none,[]⟩])
 (.cond (.t 10)
 (.reg [
  ⟨some 11,.raw (Go.Op.makeInterface 9 (Go.Operand.const (Go.Value.string { data:=#[99,97,110,110,111,116,32,98,101,32,110,101,103,97,116,105,118,101] }))) 20,none,[]⟩,
  ⟨none,.raw (Go.Op.panic (Go.Operand.tmp 11)) 0,none,[]⟩])
 .skip))
 (.seq (.reg [
 ⟨some 13,.mv (.t 0),none,[]⟩,
 ⟨some 14,.len (.t 13),none,[]⟩,
 ⟨some 15,.conv .u64 (.t 14),none,[]⟩,
 ⟨some 16,.mv (.t 1),none,[]⟩,
 ⟨some 17,.conv .u64 (.t 16),none,[]⟩,
 ⟨some 18,.call 105 [.t 15,.t 17],none,[]⟩,
 ⟨some 12,.mv (.t 18),none,[]⟩,
 ⟨some 19,.ext (.t 12) 0,none,[]⟩,
 ⟨some 20,.ext (.t 12) 1,none,[]⟩,
 ⟨some 5,.mv (.t 19),none,[]⟩,
 ⟨some 6,.mv (.t 20),none,[]⟩])
 (.seq (.seq (.reg [
 ⟨some 21,.mv (.t 5),none,[]⟩,
 ⟨some 22,.bin .gtr (.t 21) (.c (.int .u64 0)),none,[]⟩,
 ⟨some 23,.mv (.t 22),none,[]⟩,
 ⟨some 24,.mv (.t 6),some (23,false),[]⟩,
 ⟨some 25,.bin .gtr (.t 24) (.c (.int .u64 9223372036854775807)),some (23,false),[]⟩,
 ⟨some 26,.pick (.t 23) (.c (.bool true)) (.t 25),none,[]⟩])
 (.cond (.t 26)
 (.reg [
  ⟨some 27,.raw (Go.Op.makeInterface 9 (Go.Operand.const (Go.Value.string { data:=#[116,104,101,32,114,101,115,117,108,116,32,111,102,32,40,108,101,110,40,120,41,32,42,32,99,111,117,110,116,41,32,111,118,101,114,102,108,111,119,115] }))) 20,none,[]⟩,
  ⟨none,.raw (Go.Op.panic (Go.Operand.tmp 27)) 0,none,[]⟩])
 .skip))
 (.seq (.reg [
 ⟨some 28,.mv (.t 6),none,[]⟩,
 ⟨some 29,.conv .i64 (.t 28),none,[]⟩,
 ⟨some 30,.mks 1 8 [.int .i64 0] 3 (.t 29),none,[]⟩,
 ⟨some 7,.mv (.t 30),none,[]⟩])
 (.seq (.reg [
 ⟨some 31,.mv (.t 7),none,[]⟩,
 ⟨some 32,.mv (.t 0),none,[]⟩,
 ⟨some 33,.cpy 1 (.t 31) (.t 32),none,[]⟩,
 ⟨some 8,.mv (.t 33),none,[]⟩])
 (.seq (.block 0 (.loop (.seq (.seq (.reg [
  ⟨some 34,.mv (.t 8),none,[]⟩,
  ⟨some 35,.mv (.t 7),none,[]⟩,
  ⟨some 36,.len (.t 35),none,[]⟩,
  ⟨some 37,.bin .lss (.t 34) (.t 36),none,[]⟩])
  (.cond (.t 37)
  .skip
  (.exit 0)))
  (.block 1 (.regd [1,2,3,4,5,6,0,7,8,9] [
   .op ⟨some 39,.mv (.t 7),none,[]⟩,
   .op ⟨some 40,.mv (.t 8),none,[]⟩,
   .op ⟨some 41,.sub 1 (.t 39) (some (.t 40)) none,none,[1,2]⟩,
   .op ⟨some 42,.mv (.t 7),none,[]⟩,
   .op ⟨some 43,.mv (.t 8),none,[]⟩,
   .op ⟨some 44,.sub 1 (.t 42) none (some (.t 43)),none,[4,5]⟩,
   .hide (.t 41),
   .op ⟨some 38,.mv (.t 8),none,[]⟩] 0 1 [
   ⟨some 45,.cpy 1 (.t 41) (.t 44),none,[3,6]⟩,
   ⟨some 46,.bin .add (.t 38) (.t 45),none,[0,7]⟩,
   ⟨some 8,.mv (.t 46),none,[0,1,2,3,4,5,6,7,8]⟩])))))
 (.seq (.reg [
 ⟨some 47,.mv (.t 7),none,[]⟩,
 ⟨some 4,.mv (.t 47),none,[]⟩])
 .ret))))))))
def r99:List RV:=[.tmp 4]
theorem n99:Try.f99.ntmps = 48:=by kernel_rfl
theorem b99:bodyB Try.prog 99 = true:=by kernel_rfl
theorem c99_ok:cmpC Try.prog c99 ((Try.f99.body).getD .skip) = true:=by kernel_rfl
theorem r99_ok:cmpR Try.prog r99 Try.f99.results.toList = true:=by kernel_rfl
theorem m99 {n0:Nat} {hp0:List (Nat × HB)} {args:List SV} {Post:Ot → Prop} (hh:hpb n0 hp0) (hx:∀ o,Post o → KX o.res ∧ KXP o.hp) (h:sx Try.prog Y0 n0 c99 ⟨enum 0 args,hp0,n0,48,[]⟩ (retM r99 fun o=>∃ o',Post o' ∧ EntO n0 o o')) (hA:Nat.ble args.length 48 = true:=by rfl):CtM Try.prog 99 hp0 n0 args Post:=ctm_intro Try.func99 rfl b99 c99_ok r99_ok n99 (Nat.le_of_ble_eq_true hA) hh hx h
def c105:SC:=(.seq (.reg [
 ⟨some 4,.mv (.c (.int .u64 0)),none,[]⟩,
 ⟨some 5,.mv (.c (.int .u64 0)),none,[]⟩])
 (.seq (.cond (.c (.bool false))
 (.seq (.reg [
  ⟨some 11,.mv (.t 0),none,[]⟩,
  ⟨some 12,.conv .u32 (.t 11),none,[]⟩,
  ⟨some 13,.mv (.t 1),none,[]⟩,
  ⟨some 14,.conv .u32 (.t 13),none,[]⟩,
  ⟨some 15,.call 108 [.t 12,.t 14],none,[]⟩,
  ⟨some 10,.mv (.t 15),none,[]⟩,
  ⟨some 16,.ext (.t 10) 0,none,[]⟩,
  ⟨some 17,.ext (.t 10) 1,none,[]⟩,
  ⟨some 6,.mv (.t 16),none,[]⟩,
  ⟨some 7,.mv (.t 17),none,[]⟩])
  (.seq (.reg [
  ⟨some 18,.mv (.t 6),none,[]⟩,
  ⟨some 19,.conv .u64 (.t 18),none,[]⟩,
  ⟨some 20,.mv (.t 7),none,[]⟩,
  ⟨some 21,.conv .u64 (.t 20),none,[]⟩,
  ⟨some 4,.mv (.t 19),none,[]⟩,
  ⟨some 5,.mv (.t 21),none,[]⟩])
  .ret))
 .skip)
 (.seq (.reg [
 ⟨some 23,.mv (.t 0),none,[]⟩,
 ⟨some 24,.mv (.t 1),none,[]⟩,
 ⟨some 25,.call 109 [.t 23,.t 24],none,[]⟩,
 ⟨some 22,.mv (.t 25),none,[]⟩,
 ⟨some 26,.ext (.t 22) 0,none,[]⟩,
 ⟨some 27,.ext (.t 22) 1,none,[]⟩,
 ⟨some 8,.mv (.t 26),none,[]⟩,
 ⟨some 9,.mv (.t 27),none,[]⟩])
 (.seq (.reg [
 ⟨some 28,.mv (.t 8),none,[]⟩,
 ⟨some 29,.mv (.t 9),none,[]⟩,
 ⟨some 4,.mv (.t 28),none,[]⟩,
 ⟨some 5,.mv (.t 29),none,[]⟩])
 .ret))))
def r105:List RV:=[.tmp 4,.tmp 5]
theorem n105:Try.f105.ntmps = 30:=by kernel_rfl
theorem b105:bodyB Try.prog 105 = true:=by kernel_rfl
theorem c105_ok:cmpC Try.prog c105 ((Try.f105.body).getD .skip) = true:=by kernel_rfl
theorem r105_ok:cmpR Try.prog r105 Try.f105.results.toList = true:=by kernel_rfl
theorem t105 {args:List SV} {res:SV} (ka:KFL args) (kr:KF res) (h:sx Try.prog Y0 0 c105 (st0 args 30) (retK r105 res)) (hA:Nat.ble args.length 30 = true:=by rfl):Ct Try.prog 105 args res:=ct_intro Try.func105 rfl b105 c105_ok r105_ok n105 (Nat.le_of_ble_eq_true hA) ka kr h
def c109:SC:=(.seq (.reg [
 ⟨some 4,.mv (.c (.int .u64 0)),none,[]⟩,
 ⟨some 5,.mv (.c (.int .u64 0)),none,[]⟩])
 (.seq (.reg [
 ⟨some 14,.mv (.t 0),none,[]⟩,
 ⟨some 15,.raw (Go.Op.binOp Go.BinOp.and 168 (Go.Operand.tmp 14) (Go.Operand.const (Go.Value.int Go.IntKind.u64 4294967295)) 168) 168,none,[]⟩,
 ⟨some 6,.mv (.t 15),none,[]⟩])
 (.seq (.reg [
 ⟨some 16,.mv (.t 0),none,[]⟩,
 ⟨some 17,.raw (Go.Op.binOp Go.BinOp.shr 168 (Go.Operand.tmp 16) (Go.Operand.const (Go.Value.int Go.IntKind.u64 32)) 162) 168,none,[]⟩,
 ⟨some 7,.mv (.t 17),none,[]⟩])
 (.seq (.reg [
 ⟨some 18,.mv (.t 1),none,[]⟩,
 ⟨some 19,.raw (Go.Op.binOp Go.BinOp.and 168 (Go.Operand.tmp 18) (Go.Operand.const (Go.Value.int Go.IntKind.u64 4294967295)) 168) 168,none,[]⟩,
 ⟨some 8,.mv (.t 19),none,[]⟩])
 (.seq (.reg [
 ⟨some 20,.mv (.t 1),none,[]⟩,
 ⟨some 21,.raw (Go.Op.binOp Go.BinOp.shr 168 (Go.Operand.tmp 20) (Go.Operand.const (Go.Value.int Go.IntKind.u64 32)) 162) 168,none,[]⟩,
 ⟨some 9,.mv (.t 21),none,[]⟩])
 (.seq (.reg [
 ⟨some 22,.mv (.t 6),none,[]⟩,
 ⟨some 23,.mv (.t 8),none,[]⟩,
 ⟨some 24,.bin .mul (.t 22) (.t 23),none,[]⟩,
 ⟨some 10,.mv (.t 24),none,[]⟩])
 (.seq (.reg [
 ⟨some 25,.mv (.t 7),none,[]⟩,
 ⟨some 26,.mv (.t 8),none,[]⟩,
 ⟨some 27,.bin .mul (.t 25) (.t 26),none,[]⟩,
 ⟨some 28,.mv (.t 10),none,[]⟩,
 ⟨some 29,.raw (Go.Op.binOp Go.BinOp.shr 168 (Go.Operand.tmp 28) (Go.Operand.const (Go.Value.int Go.IntKind.u64 32)) 162) 168,none,[]⟩,
 ⟨some 30,.bin .add (.t 27) (.t 29),none,[]⟩,
 ⟨some 11,.mv (.t 30),none,[]⟩])
 (.seq (.reg [
 ⟨some 31,.mv (.t 11),none,[]⟩,
 ⟨some 32,.raw (Go.Op.binOp Go.BinOp.and 168 (Go.Operand.tmp 31) (Go.Operand.const (Go.Value.int Go.IntKind.u64 4294967295)) 168) 168,none,[]⟩,
 ⟨some 12,.mv (.t 32),none,[]⟩])
 (.seq (.reg [
 ⟨some 33,.mv (.t 11),none,[]⟩,
 ⟨some 34,.raw (Go.Op.binOp Go.BinOp.shr 168 (Go.Operand.tmp 33) (Go.Operand.const (Go.Value.int Go.IntKind.u64 32)) 162) 168,none,[]⟩,
 ⟨some 13,.mv (.t 34),none,[]⟩])
 (.seq (.reg [
 ⟨some 35,.mv (.t 12),none,[]⟩,
 ⟨some 36,.mv (.t 6),none,[]⟩,
 ⟨some 37,.mv (.t 9),none,[]⟩,
 ⟨some 38,.bin .mul (.t 36) (.t 37),none,[]⟩,
 ⟨some 39,.bin .add (.t 35) (.t 38),none,[]⟩,
 ⟨some 12,.mv (.t 39),none,[]⟩])
 (.seq (.reg [
 ⟨some 40,.mv (.t 7),none,[]⟩,
 ⟨some 41,.mv (.t 9),none,[]⟩,
 ⟨some 42,.bin .mul (.t 40) (.t 41),none,[]⟩,
 ⟨some 43,.mv (.t 13),none,[]⟩,
 ⟨some 44,.bin .add (.t 42) (.t 43),none,[]⟩,
 ⟨some 45,.mv (.t 12),none,[]⟩,
 ⟨some 46,.raw (Go.Op.binOp Go.BinOp.shr 168 (Go.Operand.tmp 45) (Go.Operand.const (Go.Value.int Go.IntKind.u64 32)) 162) 168,none,[]⟩,
 ⟨some 47,.bin .add (.t 44) (.t 46),none,[]⟩,
 ⟨some 4,.mv (.t 47),none,[]⟩])
 (.seq (.reg [
 ⟨some 48,.mv (.t 0),none,[]⟩,
 ⟨some 49,.mv (.t 1),none,[]⟩,
 ⟨some 50,.bin .mul (.t 48) (.t 49),none,[]⟩,
 ⟨some 5,.mv (.t 50),none,[]⟩])
 .ret))))))))))))
def r109:List RV:=[.tmp 4,.tmp 5]
theorem n109:Try.f109.ntmps = 51:=by kernel_rfl
theorem b109:bodyB Try.prog 109 = true:=by kernel_rfl
theorem c109_ok:cmpC Try.prog c109 ((Try.f109.body).getD .skip) = true:=by kernel_rfl
theorem r109_ok:cmpR Try.prog r109 Try.f109.results.toList = true:=by kernel_rfl
theorem t109 {args:List SV} {res:SV} (ka:KFL args) (kr:KF res) (h:sx Try.prog Y0 0 c109 (st0 args 51) (retK r109 res)) (hA:Nat.ble args.length 51 = true:=by rfl):Ct Try.prog 109 args res:=ct_intro Try.func109 rfl b109 c109_ok r109_ok n109 (Nat.le_of_ble_eq_true hA) ka kr h
def c38:SC:=(.seq (.reg [
 ⟨some 4,.mv (.c (.bool false)),none,[]⟩])
 (.seq (.seq (.reg [
 ⟨some 6,.mv (.t 0),none,[]⟩,
 ⟨some 7,.len (.t 6),none,[]⟩,
 ⟨some 8,.mv (.t 1),none,[]⟩,
 ⟨some 9,.len (.t 8),none,[]⟩,
 ⟨some 10,.bin .neq (.t 7) (.t 9),none,[]⟩])
 (.cond (.t 10)
 (.seq (.reg [
  ⟨some 4,.mv (.c (.bool false)),none,[]⟩])
  .ret)
 .skip))
 (.seq (.seq (.reg [
 ⟨some 5,.mv (.c (.int .i64 0)),none,[]⟩])
 (.block 0 (.loop (.seq (.seq (.reg [
  ⟨some 11,.mv (.t 5),none,[]⟩,
  ⟨some 12,.mv (.t 0),none,[]⟩,
  ⟨some 13,.len (.t 12),none,[]⟩,
  ⟨some 14,.bin .lss (.t 11) (.t 13),none,[]⟩])
  (.cond (.t 14)
  .skip
  (.exit 0)))
  (.seq (.block 1 (.seq (.regd [0,1,2,3,4,5,6,7,8] [
   .op ⟨some 17,.mv (.t 0),none,[]⟩,
   .op ⟨some 18,.mv (.t 5),none,[]⟩,
   .op ⟨some 19,.ixs (.t 17) (.t 18) 2,none,[0,1]⟩,
   .op ⟨some 20,.ld (.t 19) 2 true,none,[2]⟩,
   .op ⟨some 21,.mv (.t 1),none,[]⟩,
   .op ⟨some 22,.mv (.t 5),none,[]⟩,
   .op ⟨some 23,.ixs (.t 21) (.t 22) 2,none,[4,5]⟩,
   .op ⟨some 24,.ld (.t 23) 2 true,none,[6]⟩,
   .op ⟨some 25,.eqs true true [1,1] (.t 20) (.t 24),none,[3,7]⟩] 0 0 [
])
 (.cond (.t 25)
 (.seq (.reg [
  ⟨some 4,.mv (.c (.bool false)),none,[]⟩])
  .ret)
 .skip)))
 (.reg [
 ⟨some 15,.mv (.t 5),none,[]⟩,
 ⟨some 16,.bin .add (.t 15) (.c (.int .i64 1)),none,[]⟩,
 ⟨some 5,.mv (.t 16),none,[]⟩]))))))
 (.seq (.reg [
 ⟨some 4,.mv (.c (.bool true)),none,[]⟩])
 .ret))))
def r38:List RV:=[.tmp 4]
theorem n38:Try.f38.ntmps = 26:=by kernel_rfl
theorem b38:bodyB Try.prog 38 = true:=by kernel_rfl
theorem c38_ok:cmpC Try.prog c38 ((Try.f38.body).getD .skip) = true:=by kernel_rfl
theorem r38_ok:cmpR Try.prog r38 Try.f38.results.toList = true:=by kernel_rfl
theorem t38 {args:List SV} {res:SV} (ka:KFL args) (kr:KF res) (h:sx Try.prog Y0 0 c38 (st0 args 26) (retK r38 res)) (hA:Nat.ble args.length 26 = true:=by rfl):Ct Try.prog 38 args res:=ct_intro Try.func38 rfl b38 c38_ok r38_ok n38 (Nat.le_of_ble_eq_true hA) ka kr h
def c39:SC:=(.seq (.reg [
 ⟨some 4,.mv (.c (.bool false)),none,[]⟩])
 (.seq (.seq (.reg [
 ⟨some 6,.mv (.t 0),none,[]⟩,
 ⟨some 7,.len (.t 6),none,[]⟩,
 ⟨some 8,.mv (.t 1),none,[]⟩,
 ⟨some 9,.len (.t 8),none,[]⟩,
 ⟨some 10,.bin .neq (.t 7) (.t 9),none,[]⟩])
 (.cond (.t 10)
 (.seq (.reg [
  ⟨some 4,.mv (.c (.bool false)),none,[]⟩])
  .ret)
 .skip))
 (.seq (.seq (.reg [
 ⟨some 5,.mv (.c (.int .i64 0)),none,[]⟩])
 (.block 0 (.loop (.seq (.seq (.reg [
  ⟨some 11,.mv (.t 5),none,[]⟩,
  ⟨some 12,.mv (.t 0),none,[]⟩,
  ⟨some 13,.len (.t 12),none,[]⟩,
  ⟨some 14,.bin .lss (.t 11) (.t 13),none,[]⟩])
  (.cond (.t 14)
  .skip
  (.exit 0)))
  (.seq (.block 1 (.seq (.regd [0,1,2,3,4,5,6,7,8] [
   .op ⟨some 17,.mv (.t 0),none,[]⟩,
   .op ⟨some 18,.mv (.t 5),none,[]⟩,
   .op ⟨some 19,.ixs (.t 17) (.t 18) 6,none,[0,1]⟩,
   .op ⟨some 20,.ld (.t 19) 6 true,none,[2]⟩,
   .op ⟨some 21,.mv (.t 1),none,[]⟩,
   .op ⟨some 22,.mv (.t 5),none,[]⟩,
   .op ⟨some 23,.ixs (.t 21) (.t 22) 6,none,[4,5]⟩,
   .op ⟨some 24,.ld (.t 23) 6 true,none,[6]⟩,
   .op ⟨some 25,.eqs true true [1,1,1,1,1,1] (.t 20) (.t 24),none,[3,7]⟩] 0 0 [
])
 (.cond (.t 25)
 (.seq (.reg [
  ⟨some 4,.mv (.c (.bool false)),none,[]⟩])
  .ret)
 .skip)))
 (.reg [
 ⟨some 15,.mv (.t 5),none,[]⟩,
 ⟨some 16,.bin .add (.t 15) (.c (.int .i64 1)),none,[]⟩,
 ⟨some 5,.mv (.t 16),none,[]⟩]))))))
 (.seq (.reg [
 ⟨some 4,.mv (.c (.bool true)),none,[]⟩])
 .ret))))
def r39:List RV:=[.tmp 4]
theorem n39:Try.f39.ntmps = 26:=by kernel_rfl
theorem b39:bodyB Try.prog 39 = true:=by kernel_rfl
theorem c39_ok:cmpC Try.prog c39 ((Try.f39.body).getD .skip) = true:=by kernel_rfl
theorem r39_ok:cmpR Try.prog r39 Try.f39.results.toList = true:=by kernel_rfl
theorem t39 {args:List SV} {res:SV} (ka:KFL args) (kr:KF res) (h:sx Try.prog Y0 0 c39 (st0 args 26) (retK r39 res)) (hA:Nat.ble args.length 26 = true:=by rfl):Ct Try.prog 39 args res:=ct_intro Try.func39 rfl b39 c39_ok r39_ok n39 (Nat.le_of_ble_eq_true hA) ka kr h
def c40:SC:=(.seq (.reg [
 ⟨some 4,.mv (.c (.bool false)),none,[]⟩])
 (.seq (.seq (.reg [
 ⟨some 6,.mv (.t 0),none,[]⟩,
 ⟨some 7,.len (.t 6),none,[]⟩,
 ⟨some 8,.mv (.t 1),none,[]⟩,
 ⟨some 9,.len (.t 8),none,[]⟩,
 ⟨some 10,.bin .neq (.t 7) (.t 9),none,[]⟩])
 (.cond (.t 10)
 (.seq (.reg [
  ⟨some 4,.mv (.c (.bool false)),none,[]⟩])
  .ret)
 .skip))
 (.seq (.seq (.reg [
 ⟨some 5,.mv (.c (.int .i64 0)),none,[]⟩])
 (.block 0 (.loop (.seq (.seq (.reg [
  ⟨some 11,.mv (.t 5),none,[]⟩,
  ⟨some 12,.mv (.t 0),none,[]⟩,
  ⟨some 13,.len (.t 12),none,[]⟩,
  ⟨some 14,.bin .lss (.t 11) (.t 13),none,[]⟩])
  (.cond (.t 14)
  .skip
  (.exit 0)))
  (.seq (.block 1 (.seq (.regd [0,1,2,3,4,5,6,7,8] [
   .op ⟨some 17,.mv (.t 0),none,[]⟩,
   .op ⟨some 18,.mv (.t 5),none,[]⟩,
   .op ⟨some 19,.ixs (.t 17) (.t 18) 1,none,[0,1]⟩,
   .op ⟨some 20,.ld (.t 19) 1 false,none,[2]⟩,
   .op ⟨some 21,.mv (.t 1),none,[]⟩,
   .op ⟨some 22,.mv (.t 5),none,[]⟩,
   .op ⟨some 23,.ixs (.t 21) (.t 22) 1,none,[4,5]⟩,
   .op ⟨some 24,.ld (.t 23) 1 false,none,[6]⟩,
   .op ⟨some 25,.bin .neq (.t 20) (.t 24),none,[3,7]⟩] 0 0 [
])
 (.cond (.t 25)
 (.seq (.reg [
  ⟨some 4,.mv (.c (.bool false)),none,[]⟩])
  .ret)
 .skip)))
 (.reg [
 ⟨some 15,.mv (.t 5),none,[]⟩,
 ⟨some 16,.bin .add (.t 15) (.c (.int .i64 1)),none,[]⟩,
 ⟨some 5,.mv (.t 16),none,[]⟩]))))))
 (.seq (.reg [
 ⟨some 4,.mv (.c (.bool true)),none,[]⟩])
 .ret))))
def r40:List RV:=[.tmp 4]
theorem n40:Try.f40.ntmps = 26:=by kernel_rfl
theorem b40:bodyB Try.prog 40 = true:=by kernel_rfl
theorem c40_ok:cmpC Try.prog c40 ((Try.f40.body).getD .skip) = true:=by kernel_rfl
theorem r40_ok:cmpR Try.prog r40 Try.f40.results.toList = true:=by kernel_rfl
theorem t40 {args:List SV} {res:SV} (ka:KFL args) (kr:KF res) (h:sx Try.prog Y0 0 c40 (st0 args 26) (retK r40 res)) (hA:Nat.ble args.length 26 = true:=by rfl):Ct Try.prog 40 args res:=ct_intro Try.func40 rfl b40 c40_ok r40_ok n40 (Nat.le_of_ble_eq_true hA) ka kr h
end Go.Proofs.Ytkjldleglbbkeaa
set_option maxRecDepth 100000
set_option maxHeartbeats 4000000
namespace Go.Proofs.Ytkjldleglbbkeaa
open Go Go.Sx Go.Azalai
theorem min2_ok (a b:Int) (c:Bool):Ct Try.prog 104 [.sl c 1 [[I a],[I b]]] (I (min a b)):=by
 refine t104 (by simp [KFR,KFL,KF]) (by simp [KFL,KF]) ?_
 dsimp only [c104,r104,go_sem,rA,rM,rS]
 refine br_f (by decide) ?_
 dsimp only [go_sem,rA,rM,rS]
 refine ixs 0 [I a] rfl rfl ?_
 dsimp only [go_sem,rA,rM,rS]
 refine unroll 2 ?_
 dsimp only [rnds_succ,go_sem,rA,rM,rS]
 refine br_t (by decide) ?_
 dsimp only [rnds_succ,go_sem,rA,rM,rS]
 refine ixs 1 [I b] rfl rfl ?_
 dsimp only [rnds_succ,go_sem,rA,rM,rS]
 refine br_f (by decide) ?_
 dsimp only [go_sem,rA,rM,rS]
theorem first1_ok (a:Int):Ct Try.prog 94 [.sl true 1 [[I a]]] (I (min a 100001)):=by
 refine t94 (by simp [KFR,KFL,KF]) (by simp [KFL,KF]) ?_
 dsimp only [c94,r94,go_sem,rA,rM,rS]
 refine app0 (by simp) ?_
 dsimp only [go_sem,rA,rM,rS]
 refine call (min2_ok a 100001 false) ?_
 dsimp only [go_sem,rA,rM,rS]
theorem arrive_ok (l:Land) (p:Span) (k:Nat) (hk:k < l.legs.length) (d0 d1:Int) (hx:GoodLeg l.legs[k]) (hp:okPace p = true) (h0:inR 0 100001 d0 = true) (h1:inR 0 100001 d1 = true) :
 Ct Try.prog 80 [.agg (carL l p),I k,.agg [I d0,I d1]] (.agg [I (arrK false l.legs[k] p d0),I (arrK true l.legs[k] p d1)]):=by
 have hb:=day_bd hx hp
 refine t80 (by simp [carL,wellL,legL,gateL,spanL,KFR_iff,KFL,KF]) (by simp [KFL,KF]) ?_
 dsimp only [c80,r80,carL,go_sem,rA,rM,rS]
 refine call (leave_ok l p k hk d0 d1 hx hp h0 h1) ?_
 dsimp only [carL,go_sem,rA,rM,rS]
 refine call (cdays_ok l p k hk hx hp) ?_
 dsimp only [spanL,go_sem,rA,rM,rS]
 simp only [inR,decide_eq_true_eq] at h0 h1
 have a0:=arrK_bd (k:=false) hx hp h0.2
 have a1:=arrK_bd (k:=true) hx hp h1.2
 simp only [leK,nK,cond_true,cond_false] at a0 a1
 refine unroll 3 ?_
 dsimp only [rnds_succ,go_sem,rA,rM,rS]
 refine br_t (by decide) ?_
 dsimp only [rnds_succ,go_sem,rA,rM,rS]
 repeat (refine ixa 0 rfl (by decide) ?_;dsimp only [rnds_succ,go_sem,rA,rM,rS])
 rw [w64_in (n:=mayF l.legs[k] p d0 + (dayF l.legs[k] p).lo) (by omega) (by omega)]
 refine call (first1_ok _) ?_
 dsimp only [rnds_succ,go_sem,rA,rM,rS]
 repeat (refine ixa 0 rfl (by decide) ?_;dsimp only [rnds_succ,go_sem,rA,rM,rS])
 refine br_t (by decide) ?_
 dsimp only [rnds_succ,go_sem,rA,rM,rS]
 repeat (refine ixa 1 rfl (by decide) ?_;dsimp only [rnds_succ,go_sem,rA,rM,rS])
 rw [w64_in (n:=canF l.legs[k] p d1 + (dayF l.legs[k] p).hi) (by omega) (by omega)]
 refine call (first1_ok _) ?_
 dsimp only [rnds_succ,go_sem,rA,rM,rS]
 repeat (refine ixa 1 rfl (by decide) ?_;dsimp only [rnds_succ,go_sem,rA,rM,rS])
 refine br_f (by decide) ?_
 dsimp only [go_sem,rA,rM,rS]
 simp only [arrK,leK,nK,cond_true,cond_false]
 rw [Int.min_comm,Int.min_comm 100001 (canF l.legs[k] p d1 + (dayF l.legs[k] p).hi)]
def leadsO (l:Land) (p:Span) (v:Int):Ot:=⟨false,.cl 97 [.p 0 0,.p 1 0],[(1,.cells [I v] 3),(0,.cells (carL l p) 119)],2⟩
theorem leads_ok (l:Land) (p:Span) (v:Int):CtM Try.prog 79 [] 0 [.agg (carL l p),I v] (fun o=>o = leadsO l p v):=by
 refine m79 (by simp [hpb]) (fun o ho=>by subst ho;simp [leadsO,KX,KXL,KXP,KXH,KFR_iff,KFL,KF,carL,wellL,legL,gateL]) ?_
 dsimp only [c79,r79,carL,go_sem,rA,rM,rS]
 refine ⟨_,rfl,?_⟩
 simp only [leadsO]
 (refine entO_id ?_ ?_ ?_ rfl <;> dsimp only [carL,wellL,legL,gateL,id,go_sem,rA,rM,rS] <;> simp [carL,wellL,legL,gateL,KFR_iff,KFR_app,KFR,KFL,KF,mtL_same,mtO,nbr])
end Go.Proofs.Ytkjldleglbbkeaa
set_option maxRecDepth 100000
set_option maxHeartbeats 4000000
namespace Go.Azalai
def endF (l:Land) (leg v:Int):Int:=if h:0 ≤ leg ∧ leg.toNat < l.legs.length then otherF l.legs[leg.toNat] v else -1
end Go.Azalai
namespace Go.Proofs.Ytkjldleglbbkeaa
open Go Go.Sx Go.Azalai
theorem end_ok (l:Land) (p:Span) (leg v:Int) (hl:l.legs.length ≤ 1000):Ct Try.prog 85 [.agg (carL l p),I leg,I v] (I (endF l leg v)):=by
 refine t85 (by simp [carL,wellL,legL,gateL,KFR_iff,KFL,KF]) (by simp [KFL,KF]) ?_
 dsimp only [c85,r85,carL,go_sem,rA,rM,rS]
 refine callmL [] (leads_ok l p v) rfl rfl rfl ?_ ?_ ?_
 · exact mtL_same (by simp [carL,wellL,legL,gateL,KFR_iff,KFL,KF])
 · trivial
 dsimp only [leadsO,carL,go_sem,rA,rM,rS]
 refine gh ent_refl ?_
 dsimp only [go_sem,rA,rM,rS]
 refine ⟨b97,fun rec=>?_⟩
 refine y97 ?_
 dsimp only [c97,r97,go_sem,rA,rM,rS]
 refine loopO (fun j:Nat=>[(10,I j)]) (fun _=>[]) (fun j=>j ≤ l.legs.length ∧ (0 ≤ leg → leg < j → endF l leg v = -1)) (fun j=>l.legs.length - j) 0 ⟨Nat.zero_le _,fun h1 h2=>by omega⟩ ?_ ?_
 · (refine ent_id ?_ ?_ ?_ rfl rfl <;> dsimp only [carL,wellL,legL,gateL,id,go_sem,rA,rM,rS] <;> simp [carL,wellL,legL,gateL,KFR_iff,KFR_app,KFR,KFL,KF,mtL_same,mtO,nbr])
 rintro j ⟨hj,hi⟩
 dsimp only [go_sem,rA,rM,rS]
 simp only [List.length_map]
 by_cases hlt:j < l.legs.length
 · refine br_t (by simpa using hlt) ?_
   dsimp only [go_sem,rA,rM,rS]
   refine ixs_map j hlt rfl ?_
   dsimp only [legL,go_sem,rA,rM,rS]
   have hend:leg = j → endF l leg v = otherF l.legs[j] v:=fun he=>by
    subst he
    unfold endF
    rw [dif_pos ⟨by omega,by simpa using hlt⟩]
    simp
   by_cases ha:v = l.legs[j].a
   · refine br_t (by simpa using ha) ?_
     dsimp only [go_sem,rA,rM,rS]
     refine ⟨rfl,rfl,?_⟩
     by_cases he:leg = j
     · refine br_t (by simp [he]) ?_
       dsimp only [go_sem,rA,rM,rS]
       refine ⟨rfl,?_⟩
       refine br_t (by decide) ?_
       dsimp only [go_sem,rA,rM,rS]
       rw [hend he,otherF,if_pos ha.symm]
     · refine br_f (by simp;omega) ?_
       dsimp only [go_sem,rA,rM,rS]
       refine ⟨rfl,?_⟩
       refine br_f (by decide) ?_
       dsimp only [go_sem,rA,rM,rS]
       rw [w64_in (n:=(j:Int) + 1) (by omega) (by omega)]
       refine ⟨j + 1,⟨hlt,fun h1 h2=>hi h1 (by omega)⟩,by omega,?_⟩
       (refine ent_id ?_ ?_ ?_ rfl rfl <;> dsimp only [carL,wellL,legL,gateL,id,go_sem,rA,rM,rS] <;> simp [carL,wellL,legL,gateL,KFR_iff,KFR_app,KFR,KFL,KF,mtL_same,mtO,nbr])
   refine br_f (by simpa using ha) ?_
   dsimp only [go_sem,rA,rM,rS]
   by_cases hb:v = l.legs[j].b
   · refine br_t (by simpa using hb) ?_
     dsimp only [go_sem,rA,rM,rS]
     refine ⟨rfl,rfl,?_⟩
     by_cases he:leg = j
     · refine br_t (by simp [he]) ?_
       dsimp only [go_sem,rA,rM,rS]
       refine ⟨rfl,?_⟩
       refine br_t (by decide) ?_
       dsimp only [go_sem,rA,rM,rS]
       rw [hend he,otherF,if_neg (fun e=>ha e.symm),if_pos hb.symm]
     · refine br_f (by simp;omega) ?_
       dsimp only [go_sem,rA,rM,rS]
       refine ⟨rfl,?_⟩
       refine br_f (by decide) ?_
       dsimp only [go_sem,rA,rM,rS]
       rw [w64_in (n:=(j:Int) + 1) (by omega) (by omega)]
       refine ⟨j + 1,⟨hlt,fun h1 h2=>hi h1 (by omega)⟩,by omega,?_⟩
       (refine ent_id ?_ ?_ ?_ rfl rfl <;> dsimp only [carL,wellL,legL,gateL,id,go_sem,rA,rM,rS] <;> simp [carL,wellL,legL,gateL,KFR_iff,KFR_app,KFR,KFL,KF,mtL_same,mtO,nbr])
   refine br_f (by simpa using hb) ?_
   dsimp only [go_sem,rA,rM,rS]
   rw [w64_in (n:=(j:Int) + 1) (by omega) (by omega)]
   refine ⟨j + 1,⟨hlt,fun h1 h2=>?_⟩,by omega,?_⟩
   · by_cases he:leg = j
     · rw [hend he,otherF,if_neg (fun e=>ha e.symm),if_neg (fun e=>hb e.symm)]
     · exact hi h1 (by omega)
   (refine ent_id ?_ ?_ ?_ rfl rfl <;> dsimp only [carL,wellL,legL,gateL,id,go_sem,rA,rM,rS] <;> simp [carL,wellL,legL,gateL,KFR_iff,KFR_app,KFR,KFL,KF,mtL_same,mtO,nbr])
 refine br_f (by simp;omega) ?_
 dsimp only [go_sem,rA,rM,rS]
 have hz:endF l leg v = -1:=by
  by_cases h1:0 ≤ leg
  · by_cases h2:leg < j
    · exact hi h1 h2
    · unfold endF;rw [dif_neg (by omega)]
  · unfold endF;rw [dif_neg (by omega)]
 rw [hz]
end Go.Proofs.Ytkjldleglbbkeaa
set_option maxRecDepth 100000
set_option maxHeartbeats 4000000
namespace Go.Proofs.Ytkjldleglbbkeaa
open Go Go.Sx Go.Azalai
def U64 (n:Int):SV:=.v (.int .u64 n)
theorem uw {n:Int} (h0:0 ≤ n) (h1:n < 18446744073709551616):IntKind.u64.wrap n = n:=by
 have e:n % 2 ^ IntKind.u64.bits = n:=Int.emod_eq_of_lt h0 (by show n < 2 ^ 64;omega)
 simp only [IntKind.wrap,e,show IntKind.u64.signed = false from rfl,Bool.false_and]
 rfl
theorem mul64_ok (n:Int) (h0:0 ≤ n) (h1:n ≤ 1000000):Ct Try.prog 109 [U64 1,U64 n] (.tup [U64 0,U64 n]):=by
 refine t109 (by simp [U64,KFL,KF]) (by simp [U64,KFL,KF]) ?_
 dsimp only [c109,r109,U64,go_sem,rA,rM,rS]
 have sh:∀ (m:Int),0 ≤ m → m < 4294967296 → ∀ w:World,(binOp .shr 168 (.int .u64 m) (.int .u64 32)).run Try.prog w = .ok (.int .u64 0) w:=fun m q0 q1 w=>by
  simp only [binOp,Op.shift]
  rw [if_neg (by decide)]
  have:m.fdiv (2 ^ 32) = 0:=by rw [Int.fdiv_eq_ediv_of_nonneg _ (by decide)];omega
  show Result.ok (Value.int .u64 (m.fdiv (2 ^ (min (32:Int).toNat IntKind.u64.bits)))) w = _
  rw [show min (32:Int).toNat IntKind.u64.bits = 32 from by decide,this]
 have an:∀ (m:Int),0 ≤ m → m < 4294967296 → ∀ w:World,(binOp .and 168 (.int .u64 m) (.int .u64 4294967295)).run Try.prog w = .ok (.int .u64 m) w:=fun m q0 q1 w=>by
  obtain ⟨k,rfl⟩:=Int.eq_ofNat_of_zero_le q0
  have hk:k < 4294967296:=by omega
  have e:(BitVec.ofInt 64 (k:Int) &&& BitVec.ofInt 64 4294967295).toNat = k:=by
   rw [BitVec.toNat_and,show (BitVec.ofInt 64 4294967295).toNat = 2 ^ 32 - 1 from by decide,Nat.and_two_pow_sub_one_eq_mod,BitVec.ofInt_natCast,BitVec.toNat_ofNat]
   omega
  show Result.ok (Value.int .u64 (IntKind.u64.wrap (((BitVec.ofInt 64 (k:Int) &&& BitVec.ofInt 64 4294967295).toNat:Nat):Int))) w = _
  rw [e,uw (by omega) (by omega)]
 refine raw_bin rfl (.inl rfl) (an 1 (by omega) (by omega)) rfl ?_
 dsimp only [go_sem,rA,rM,rS]
 refine raw_bin rfl (.inr rfl) (sh 1 (by omega) (by omega)) rfl ?_
 dsimp only [go_sem,rA,rM,rS]
 refine raw_bin rfl (.inl rfl) (an n (by omega) (by omega)) rfl ?_
 dsimp only [go_sem,rA,rM,rS]
 refine raw_bin rfl (.inr rfl) (sh n (by omega) (by omega)) rfl ?_
 dsimp only [go_sem,rA,rM,rS]
 simp (disch:=omega) only [uw,Int.one_mul,Int.zero_mul,Int.mul_zero,Int.add_zero,Int.zero_add]
 refine raw_bin rfl (.inr rfl) (sh n (by omega) (by omega)) rfl ?_
 dsimp only [go_sem,rA,rM,rS]
 simp (disch:=omega) only [uw,Int.one_mul,Int.zero_mul,Int.mul_zero,Int.add_zero,Int.zero_add]
 refine raw_bin rfl (.inl rfl) (an 0 (by omega) (by omega)) rfl ?_
 dsimp only [go_sem,rA,rM,rS]
 refine raw_bin rfl (.inr rfl) (sh 0 (by omega) (by omega)) rfl ?_
 dsimp only [go_sem,rA,rM,rS]
 simp (disch:=omega) only [uw,Int.one_mul,Int.zero_mul,Int.mul_zero,Int.add_zero,Int.zero_add]
 refine raw_bin rfl (.inr rfl) (sh 0 (by omega) (by omega)) rfl ?_
 dsimp only [go_sem,rA,rM,rS]
 simp (disch:=omega) only [uw,Int.one_mul,Int.zero_mul,Int.mul_zero,Int.add_zero,Int.zero_add]
theorem mul_ok (n:Int) (h0:0 ≤ n) (h1:n ≤ 1000000):Ct Try.prog 105 [U64 1,U64 n] (.tup [U64 0,U64 n]):=by
 refine t105 (by simp [U64,KFL,KF]) (by simp [U64,KFL,KF]) ?_
 dsimp only [c105,r105,U64,go_sem,rA,rM,rS]
 refine br_f (by decide) ?_
 dsimp only [go_sem,rA,rM,rS]
 refine call (mul64_ok n h0 h1) ?_
 dsimp only [U64,go_sem,rA,rM,rS]
theorem kfr_rep {r:List SV} (h:KFL r):∀ n,KFR (List.replicate n r)
 | 0=>trivial
 | n + 1=>⟨h,kfr_rep h n⟩
theorem repi_ok (x:Int) (n:Nat) (h0:1 ≤ n) (h1:n ≤ 1000) (k:Bool):CtM Try.prog 99 [] 0 [.sl k 1 [[I x]],I n] (fun o=>o = ⟨false,.mr 0 0,[(0,.row 0 1 (List.replicate n [I x]) 3)],1⟩):=by
 have hm:KFL [I x]:=by simp [KFL,KF]
 have hone:allOne [I x] = true:=rfl
 have hkr:=kfr_rep hm n
 refine m99 (by simp [hpb]) (fun o ho=>by subst ho;simp only [KX,KXL,KXP,KXH];exact ⟨trivial,hkr,trivial⟩) ?_
 generalize [I x] = row at hm hone hkr
 dsimp only [c99,r99,go_sem,rA,rM,rS]
 refine br_f (by simp) ?_
 dsimp only [go_sem,rA,rM,rS]
 rw [show ((1:Nat):Int) = 1 from rfl]
 simp (disch:=omega) only [uw]
 refine call (mul_ok n (by omega) (by omega)) ?_
 dsimp only [U64,go_sem,rA,rM,rS]
 refine gb ?_
 dsimp only [go_sem,rA,rM,rS]
 refine gb ?_
 dsimp only [go_sem,rA,rM,rS]
 refine br_f (by simp;omega) ?_
 dsimp only [go_sem,rA,rM,rS]
 refine ⟨n,w64_in (by omega) (by omega),by omega,?_⟩
 have hz:KFL [SV.v (Value.int IntKind.i64 0)]:=by simp [KFL,KF]
 generalize [SV.v (Value.int IntKind.i64 0)] = z at hz
 dsimp only [go_sem,rA,rM,rS]
 refine ⟨(by intro c hc;simp only [List.mem_singleton] at hc;subst hc;exact hone),by simp,?_⟩
 have hmin:min n 1 = 1:=by omega
 simp only [List.length_replicate,List.length_singleton,hmin,List.drop_replicate]
 dsimp only [go_sem,rA,rM,rS]
 refine loopO (fun j:Nat=>[(8,I j)]) (fun j=>[(0,.row 0 1 (List.replicate j row ++ List.replicate (n - j) z) 3)]) (fun j=>1 ≤ j ∧ j ≤ n) (fun j=>n - j) 1 ⟨Nat.le_refl _,h0⟩ ?_ ?_
 · refine ent_id ?_ ?_ ?_ rfl rfl <;> dsimp only [id,go_sem,rA,rM,rS] <;> simp [KFR_app,kfr_rep,hz,hm,mtL_same,mtO,nbr,KFR,KFL,KF]
 rintro j ⟨hj0,hj⟩
 dsimp only [go_sem,rA,rM,rS]
 simp only [List.length_append,List.length_replicate,show j + (n - j) = n from by omega]
 by_cases hlt:j < n
 · refine br_t (by simpa using hlt) ?_
   dsimp only [go_sem,rA,rM,rS]
   refine ⟨j,n,⟨rfl,by simp;omega,by omega,by simp;omega⟩,?_⟩
   dsimp only [go_sem,rA,rM,rS]
   refine ⟨0,j,⟨rfl,rfl,by omega,by simp⟩,?_⟩
   dsimp only [go_sem,rA,rM,rS]
   have hx:List.take (j - 0) (List.replicate j row ++ List.replicate (n - j) z) = List.replicate j row:=by rw [Nat.sub_zero];exact List.take_left' (by simp)
   have hx':List.take j (List.replicate j row ++ List.replicate (n - j) z) = List.replicate j row:=List.take_left' (by simp)
   rw [hx]
   refine ⟨by simp,(by intro c hc;rw [List.eq_of_mem_replicate hc];exact hone),by simp,?_⟩
   simp only [List.length_replicate]
   generalize hN:min (n - j) j = N
   have e:List.take j (List.replicate j row ++ List.replicate (n - j) z) ++ (List.take N (List.replicate j row) ++ List.drop (j + N) (List.replicate j row ++ List.replicate (n - j) z)) = List.replicate (j + N) row ++ List.replicate (n - (j + N)) z:=by
    rw [hx',List.take_replicate,List.drop_append,List.drop_of_length_le (l:=List.replicate j row) (by simp),List.length_replicate,List.nil_append,List.drop_replicate,← List.append_assoc,List.replicate_append_replicate,show min N j = N from by omega]
    congr 2;omega
   rw [e]
   dsimp only [go_sem,rA,rM,rS]
   rw [show (j:Int) + (N:Int) = ((j + N:Nat):Int) from by omega,w64_in (n:=((j + N:Nat):Int)) (by omega) (by omega)]
   refine ⟨j + N,⟨by omega,by omega⟩,by omega,?_⟩
   refine ent_id ?_ ?_ ?_ rfl rfl <;> dsimp only [id,go_sem,rA,rM,rS] <;> simp [KFR_app,kfr_rep,hz,hm,mtL_same,mtO,nbr,KFR,KFL,KF]
 refine br_f (by simp;omega) ?_
 dsimp only [go_sem,rA,rM,rS]
 have hje:j = n:=by omega
 subst hje
 simp only [Nat.sub_self,List.replicate_zero,List.append_nil]
 refine ⟨_,rfl,?_⟩
 refine entO_id ?_ ?_ ?_ rfl <;> dsimp only [id,go_sem,rA,rM,rS] <;> simp [KFR_app,kfr_rep,hm,mtL_same,mtO,nbr,KFR,KFL,KF]
end Go.Proofs.Ytkjldleglbbkeaa
