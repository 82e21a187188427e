/- Walks and plain laws that lead to the given statement, part 5 of 8. -/
import Derived.Test.YtnlfjchbhgikaaaVD
import Derived.Test.YtnlfjchbhgikaaaProg
open Nat renaming reduceAdd→rA,reduceMul→rM,reduceSub→rS,beq_refl→nbr
set_option maxRecDepth 100000
namespace Go.Proofs.Ytnlfjchbhgikaaa
open Go Go.Sx
def c6:SC:=(.seq (.reg [
 ⟨some 8,.box (.t 3) 0 23,none,[]⟩,
 ⟨some 10,.mv (.c (.bool false)),none,[]⟩])
 (.seq (.seq (.reg [
 ⟨some 18,.mv (.t 1),none,[]⟩,
 ⟨some 19,.len (.t 18),none,[]⟩,
 ⟨some 20,.bin .gtr (.t 19) (.c (.int .i64 50)),none,[]⟩,
 ⟨some 21,.mv (.t 20),none,[]⟩,
 ⟨some 22,.mv (.t 2),some (21,false),[]⟩,
 ⟨some 23,.len (.t 22),some (21,false),[]⟩,
 ⟨some 24,.bin .gtr (.t 23) (.c (.int .i64 250)),some (21,false),[]⟩,
 ⟨some 25,.pick (.t 21) (.c (.bool true)) (.t 24),none,[]⟩])
 (.cond (.t 25)
 (.seq (.reg [
  ⟨some 10,.mv (.c (.bool true)),none,[]⟩])
  .ret)
 .skip))
 (.seq (.reg [
 ⟨some 26,.bsl 1 3 [],none,[]⟩,
 ⟨some 27,.mv (.t 1),none,[]⟩,
 ⟨some 28,.app 1 8 3 (.t 26) (.t 27),none,[]⟩,
 ⟨some 29,.bsl 4 73 [],none,[]⟩,
 ⟨some 30,.mv (.t 2),none,[]⟩,
 ⟨some 31,.app 4 32 73 (.t 29) (.t 30),none,[]⟩,
 ⟨some 11,.mv (.t 28),none,[]⟩,
 ⟨some 12,.mv (.t 31),none,[]⟩])
 (.seq (.reg [
 ⟨some 33,.mv (.t 0),none,[]⟩,
 ⟨some 34,.mv (.t 11),none,[]⟩,
 ⟨some 35,.mv (.t 12),none,[]⟩,
 ⟨some 36,.ld (.t 8) 2 true,none,[]⟩,
 ⟨some 37,.mv (.t 4),none,[]⟩,
 ⟨some 38,.call 35 [.t 33,.t 34,.t 35,.t 36,.t 37],none,[]⟩,
 ⟨some 32,.mv (.t 38),none,[]⟩,
 ⟨some 39,.ext (.t 32) 0,none,[]⟩,
 ⟨some 40,.ext (.t 32) 1,none,[]⟩,
 ⟨some 13,.mv (.t 39),none,[]⟩,
 ⟨some 14,.mv (.t 40),none,[]⟩])
 (.seq (.reg [
 ⟨some 42,.mv (.t 0),none,[]⟩,
 ⟨some 43,.mv (.t 1),none,[]⟩,
 ⟨some 44,.mv (.t 2),none,[]⟩,
 ⟨some 45,.ld (.t 8) 2 true,none,[]⟩,
 ⟨some 46,.mv (.t 4),none,[]⟩,
 ⟨some 47,.call 36 [.t 42,.t 43,.t 44,.t 45,.t 46],none,[]⟩,
 ⟨some 41,.mv (.t 47),none,[]⟩,
 ⟨some 48,.ext (.t 41) 0,none,[]⟩,
 ⟨some 49,.ext (.t 41) 1,none,[]⟩,
 ⟨some 15,.mv (.t 48),none,[]⟩,
 ⟨some 16,.mv (.t 49),none,[]⟩])
 (.seq (.seq (.reg [
 ⟨some 50,.mv (.t 2),none,[]⟩,
 ⟨some 51,.len (.t 50),none,[]⟩,
 ⟨some 52,.mv (.c (.int .i64 0)),none,[]⟩])
 (.block 0 (.loop (.seq (.reg [
  ⟨some 53,.bin .lss (.t 52) (.t 51),none,[]⟩])
  (.seq (.cond (.t 53)
  .skip
  (.exit 0))
  (.seq (.block 1 (.seq (.reg [
   ⟨some 54,.mv (.t 52),none,[]⟩,
   ⟨some 17,.mv (.t 54),none,[]⟩])
   (.seq (.regd [0,1,2,3,4,5,6,7,8] [
   .op ⟨some 55,.mv (.t 12),none,[]⟩,
   .op ⟨some 56,.mv (.t 17),none,[]⟩,
   .op ⟨some 57,.ixs (.t 55) (.t 56) 4,none,[0,1]⟩,
   .op ⟨some 58,.ld (.t 57) 4 true,none,[2]⟩,
   .op ⟨some 59,.mv (.t 2),none,[]⟩,
   .op ⟨some 60,.mv (.t 17),none,[]⟩,
   .op ⟨some 61,.ixs (.t 59) (.t 60) 4,none,[4,5]⟩,
   .op ⟨some 62,.ld (.t 61) 4 true,none,[6]⟩,
   .op ⟨some 63,.eqs true true [1,1,1,0] (.t 58) (.t 62),none,[3,7]⟩] 0 0 [
])
 (.cond (.t 63)
 (.seq (.reg [
  ⟨some 10,.mv (.c (.bool false)),none,[]⟩])
  .ret)
 .skip))))
 (.reg [
 ⟨some 64,.bin .add (.t 52) (.c (.int .i64 1)),none,[]⟩,
 ⟨some 52,.mv (.t 64),none,[]⟩])))))))
 (.seq (.reg [
 ⟨some 65,.mv (.t 13),none,[]⟩,
 ⟨some 66,.raw (Go.Op.convert 67 9 (Go.Operand.tmp 65)) 9,none,[]⟩,
 ⟨some 67,.mv (.t 15),none,[]⟩,
 ⟨some 68,.raw (Go.Op.convert 67 9 (Go.Operand.tmp 67)) 9,none,[]⟩,
 ⟨some 69,.raw (Go.Op.binOp Go.BinOp.eql 9 (Go.Operand.tmp 66) (Go.Operand.tmp 68) 9) 4,none,[]⟩,
 ⟨some 70,.mv (.t 69),none,[]⟩,
 ⟨some 71,.mv (.t 14),some (70,true),[]⟩,
 ⟨some 72,.mv (.t 16),some (70,true),[]⟩,
 ⟨some 73,.bin .eql (.t 71) (.t 72),some (70,true),[]⟩,
 ⟨some 74,.pick (.t 70) (.t 73) (.c (.bool false)),none,[]⟩,
 ⟨some 75,.mv (.t 74),none,[]⟩,
 ⟨some 76,.mv (.t 11),some (75,true),[]⟩,
 ⟨some 77,.mv (.t 1),some (75,true),[]⟩,
 ⟨some 78,.call 37 [.t 76,.t 77],some (75,true),[]⟩,
 ⟨some 79,.pick (.t 75) (.t 78) (.c (.bool false)),none,[]⟩,
 ⟨some 10,.mv (.t 79),none,[]⟩])
 .ret)))))))
def c35:SC:=(.seq (.reg [
 ⟨some 5,.box (.t 0) 0 3,none,[]⟩,
 ⟨some 8,.box (.t 3) 0 23,none,[]⟩,
 ⟨some 10,.mv (.c (.slice none 0 0)),none,[]⟩,
 ⟨some 11,.mv (.c (.int .i64 0)),none,[]⟩])
 (.seq (.seq (.reg [
 ⟨some 19,.ld (.t 5) 1 false,none,[]⟩,
 ⟨some 20,.bsl 1 3 [.t 19],none,[]⟩,
 ⟨some 21,.call 64 [.c (.int .i64 1),.c (.int .i64 30),.t 20],none,[]⟩,
 ⟨some 22,.un .not (.t 21),none,[]⟩,
 ⟨some 23,.mv (.t 22),none,[]⟩,
 ⟨some 24,.ld (.t 8) 2 true,some (23,false),[]⟩,
 ⟨some 25,.bsl 2 23 [.t 24],some (23,false),[]⟩,
 ⟨some 26,.call 65 [.c (.int .i64 1),.c (.int .i64 60),.t 25],some (23,false),[]⟩,
 ⟨some 27,.un .not (.t 26),some (23,false),[]⟩,
 ⟨some 28,.pick (.t 23) (.c (.bool true)) (.t 27),none,[]⟩,
 ⟨some 29,.mv (.t 28),none,[]⟩,
 ⟨some 30,.mv (.t 4),some (29,false),[]⟩,
 ⟨some 31,.bsl 1 3 [.t 30],some (29,false),[]⟩,
 ⟨some 32,.call 64 [.c (.int .i64 0),.c (.int .i64 100000),.t 31],some (29,false),[]⟩,
 ⟨some 33,.un .not (.t 32),some (29,false),[]⟩,
 ⟨some 34,.pick (.t 29) (.c (.bool true)) (.t 33),none,[]⟩])
 (.cond (.t 34)
 (.seq (.reg [
  ⟨some 10,.mv (.c (.slice none 0 0)),none,[]⟩,
  ⟨some 11,.mv (.c (.int .i64 2)),none,[]⟩])
  .ret)
 .skip))
 (.seq (.seq (.reg [
 ⟨some 35,.mv (.t 1),none,[]⟩,
 ⟨some 36,.len (.t 35),none,[]⟩,
 ⟨some 37,.bin .gtr (.t 36) (.c (.int .i64 30)),none,[]⟩,
 ⟨some 38,.mv (.t 37),none,[]⟩,
 ⟨some 39,.mv (.t 2),some (38,false),[]⟩,
 ⟨some 40,.len (.t 39),some (38,false),[]⟩,
 ⟨some 41,.bin .gtr (.t 40) (.c (.int .i64 200)),some (38,false),[]⟩,
 ⟨some 42,.pick (.t 38) (.c (.bool true)) (.t 41),none,[]⟩])
 (.cond (.t 42)
 (.seq (.reg [
  ⟨some 10,.mv (.c (.slice none 0 0)),none,[]⟩,
  ⟨some 11,.mv (.c (.int .i64 4)),none,[]⟩])
  .ret)
 .skip))
 (.seq (.reg [
 ⟨some 43,.mkf 77 [.t 5],none,[]⟩,
 ⟨some 12,.mv (.t 43),none,[]⟩])
 (.seq (.seq (.reg [
 ⟨some 44,.ld (.t 5) 1 false,none,[]⟩,
 ⟨some 45,.bin .sub (.t 44) (.c (.int .i64 1)),none,[]⟩,
 ⟨some 46,.mv (.t 1),none,[]⟩,
 ⟨some 47,.call 64 [.c (.int .i64 0),.t 45,.t 46],none,[]⟩,
 ⟨some 48,.un .not (.t 47),none,[]⟩,
 ⟨some 49,.mv (.t 48),none,[]⟩,
 ⟨some 50,.mv (.t 2),some (49,false),[]⟩,
 ⟨some 51,.mv (.t 12),some (49,false),[]⟩,
 ⟨some 52,.call 78 [.t 50,.t 51],some (49,false),[]⟩,
 ⟨some 53,.pick (.t 49) (.c (.bool true)) (.t 52),none,[]⟩])
 (.cond (.t 53)
 (.seq (.reg [
  ⟨some 10,.mv (.c (.slice none 0 0)),none,[]⟩,
  ⟨some 11,.mv (.c (.int .i64 14)),none,[]⟩])
  .ret)
 .skip))
 (.seq (.reg [
 ⟨some 54,.mv (.t 2),none,[]⟩,
 ⟨some 55,.callm 79 [.t 54],none,[]⟩,
 ⟨some 13,.mv (.t 55),none,[]⟩])
 (.gh (.seq (.reg [
 ⟨some 56,.mv (.t 13),none,[]⟩,
 ⟨some 57,.callm 80 [.t 56,.f 81],none,[]⟩])
 (.gh (.seq (.reg [
 ⟨some 58,.ld (.t 5) 1 false,none,[]⟩,
 ⟨some 59,.mv (.t 1),none,[]⟩,
 ⟨some 60,.mv (.t 13),none,[]⟩,
 ⟨some 61,.addo (.t 8) 0,none,[]⟩,
 ⟨some 62,.ld (.t 61) 1 false,none,[]⟩,
 ⟨some 63,.mv (.t 4),none,[]⟩,
 ⟨some 64,.call 83 [.t 58,.t 59,.t 60,.t 62,.t 63],none,[]⟩,
 ⟨some 14,.mv (.t 64),none,[]⟩])
 (.seq (.reg [
 ⟨some 65,.mv (.t 13),none,[]⟩,
 ⟨some 66,.callm 79 [.t 65],none,[]⟩,
 ⟨some 67,.callm 84 [.t 66,.f 85],none,[]⟩,
 ⟨some 15,.mv (.t 67),none,[]⟩])
 (.gh (.seq (.reg [
 ⟨some 68,.ld (.t 5) 1 false,none,[]⟩,
 ⟨some 69,.mv (.t 1),none,[]⟩,
 ⟨some 70,.mv (.t 15),none,[]⟩,
 ⟨some 71,.addo (.t 8) 1,none,[]⟩,
 ⟨some 72,.ld (.t 71) 1 false,none,[]⟩,
 ⟨some 73,.mv (.t 4),none,[]⟩,
 ⟨some 74,.call 83 [.t 68,.t 69,.t 70,.t 72,.t 73],none,[]⟩,
 ⟨some 16,.mv (.t 74),none,[]⟩])
 (.seq (.reg [
 ⟨some 75,.ld (.t 5) 1 false,none,[]⟩,
 ⟨some 76,.mks 1 1 [.int .u8 0] 5 (.t 75),none,[]⟩,
 ⟨some 17,.mv (.t 76),none,[]⟩])
 (.seq (.seq (.reg [
 ⟨some 77,.mv (.t 17),none,[]⟩,
 ⟨some 78,.len (.t 77),none,[]⟩,
 ⟨some 79,.mv (.c (.int .i64 0)),none,[]⟩])
 (.block 0 (.loop (.seq (.reg [
  ⟨some 80,.bin .lss (.t 79) (.t 78),none,[]⟩])
  (.seq (.cond (.t 80)
  .skip
  (.exit 0))
  (.seq (.block 1 (.seq (.reg [
   ⟨some 81,.mv (.t 79),none,[]⟩,
   ⟨some 18,.mv (.t 81),none,[]⟩])
   (.block 2 (.seq (.reg [
    ⟨some 83,.mv (.t 16),none,[]⟩,
    ⟨some 84,.mv (.t 18),none,[]⟩,
    ⟨some 85,.ixs (.t 83) (.t 84) 1,none,[]⟩,
    ⟨some 86,.ld (.t 85) 1 false,none,[]⟩,
    ⟨some 87,.mv (.t 4),none,[]⟩,
    ⟨some 88,.bin .leq (.t 86) (.t 87),none,[]⟩,
    ⟨some 82,.mv (.t 88),none,[]⟩])
    (.cond (.t 82)
    (.reg [
     ⟨some 89,.mv (.t 17),none,[]⟩,
     ⟨some 90,.mv (.t 18),none,[]⟩,
     ⟨some 91,.ixs (.t 89) (.t 90) 1,none,[]⟩,
     ⟨none,.st (.t 91) (.c (.int .u8 2)) 1,none,[]⟩])
    (.seq (.reg [
     ⟨some 93,.mv (.t 14),none,[]⟩,
     ⟨some 94,.mv (.t 18),none,[]⟩,
     ⟨some 95,.ixs (.t 93) (.t 94) 1,none,[]⟩,
     ⟨some 96,.ld (.t 95) 1 false,none,[]⟩,
     ⟨some 97,.mv (.t 4),none,[]⟩,
     ⟨some 98,.bin .leq (.t 96) (.t 97),none,[]⟩,
     ⟨some 92,.mv (.t 98),none,[]⟩])
     (.cond (.t 92)
     (.reg [
      ⟨some 99,.mv (.t 17),none,[]⟩,
      ⟨some 100,.mv (.t 18),none,[]⟩,
      ⟨some 101,.ixs (.t 99) (.t 100) 1,none,[]⟩,
      ⟨none,.st (.t 101) (.c (.int .u8 1)) 1,none,[]⟩])
     .skip)))))))
  (.reg [
  ⟨some 102,.bin .add (.t 79) (.c (.int .i64 1)),none,[]⟩,
  ⟨some 79,.mv (.t 102),none,[]⟩])))))))
 (.seq (.reg [
 ⟨some 103,.mv (.t 17),none,[]⟩,
 ⟨some 10,.mv (.t 103),none,[]⟩,
 ⟨some 11,.mv (.c (.int .i64 0)),none,[]⟩])
 .ret))))))))))))))))
def r35:List RV:=[.tmp 10,.tmp 11]
theorem n35:Try.f35.ntmps = 104:=by kernel_rfl
theorem b35:bodyB Try.prog 35 = true:=by kernel_rfl
theorem c35_ok:cmpC Try.prog c35 ((Try.f35.body).getD .skip) = true:=by kernel_rfl
theorem r35_ok:cmpR Try.prog r35 Try.f35.results.toList = true:=by kernel_rfl
theorem t35 {args:List SV} {res:SV} (ka:KFL args) (kr:KF res) (h:sx Try.prog Y0 0 c35 (st0 args 104) (retK r35 res)) (hA:Nat.ble args.length 104 = true:=by rfl):Ct Try.prog 35 args res:=ct_intro Try.func35 rfl b35 c35_ok r35_ok n35 (Nat.le_of_ble_eq_true hA) ka kr h
def c49:SC:=(.seq (.reg [
 ⟨some 8,.box (.t 3) 0 23,none,[]⟩,
 ⟨some 10,.mv (.c (.int .i64 0)),none,[]⟩])
 (.seq (.seq (.reg [
 ⟨some 14,.mv (.t 0),none,[]⟩,
 ⟨some 15,.call 88 [.t 14,.c (.int .i64 1),.c (.int .i64 30)],none,[]⟩,
 ⟨some 16,.un .not (.t 15),none,[]⟩,
 ⟨some 17,.mv (.t 16),none,[]⟩,
 ⟨some 18,.ld (.t 8) 2 true,some (17,false),[]⟩,
 ⟨some 19,.call 87 [.t 18,.c (.int .i64 1),.c (.int .i64 60)],some (17,false),[]⟩,
 ⟨some 20,.un .not (.t 19),some (17,false),[]⟩,
 ⟨some 21,.pick (.t 17) (.c (.bool true)) (.t 20),none,[]⟩,
 ⟨some 22,.mv (.t 21),none,[]⟩,
 ⟨some 23,.mv (.t 4),some (22,false),[]⟩,
 ⟨some 24,.call 88 [.t 23,.c (.int .i64 0),.c (.int .i64 100000)],some (22,false),[]⟩,
 ⟨some 25,.un .not (.t 24),some (22,false),[]⟩,
 ⟨some 26,.pick (.t 22) (.c (.bool true)) (.t 25),none,[]⟩])
 (.cond (.t 26)
 (.seq (.reg [
  ⟨some 10,.mv (.c (.int .i64 2)),none,[]⟩])
  .ret)
 .skip))
 (.seq (.seq (.reg [
 ⟨some 27,.mv (.t 1),none,[]⟩,
 ⟨some 28,.len (.t 27),none,[]⟩,
 ⟨some 29,.bin .gtr (.t 28) (.c (.int .i64 30)),none,[]⟩,
 ⟨some 30,.mv (.t 29),none,[]⟩,
 ⟨some 31,.mv (.t 2),some (30,false),[]⟩,
 ⟨some 32,.len (.t 31),some (30,false),[]⟩,
 ⟨some 33,.bin .gtr (.t 32) (.c (.int .i64 200)),some (30,false),[]⟩,
 ⟨some 34,.pick (.t 30) (.c (.bool true)) (.t 33),none,[]⟩])
 (.cond (.t 34)
 (.seq (.reg [
  ⟨some 10,.mv (.c (.int .i64 4)),none,[]⟩])
  .ret)
 .skip))
 (.seq (.seq (.reg [
 ⟨some 11,.mv (.c (.int .i64 0)),none,[]⟩])
 (.block 0 (.loop (.seq (.seq (.reg [
  ⟨some 35,.mv (.t 11),none,[]⟩,
  ⟨some 36,.mv (.t 1),none,[]⟩,
  ⟨some 37,.len (.t 36),none,[]⟩,
  ⟨some 38,.bin .lss (.t 35) (.t 37),none,[]⟩])
  (.cond (.t 38)
  .skip
  (.exit 0)))
  (.seq (.block 1 (.seq (.reg [
   ⟨some 41,.mv (.t 1),none,[]⟩,
   ⟨some 42,.mv (.t 11),none,[]⟩,
   ⟨some 43,.ixs (.t 41) (.t 42) 1,none,[]⟩,
   ⟨some 44,.ld (.t 43) 1 false,none,[]⟩,
   ⟨some 45,.mv (.t 0),none,[]⟩,
   ⟨some 46,.bin .sub (.t 45) (.c (.int .i64 1)),none,[]⟩,
   ⟨some 47,.call 88 [.t 44,.c (.int .i64 0),.t 46],none,[]⟩,
   ⟨some 48,.un .not (.t 47),none,[]⟩])
   (.cond (.t 48)
   (.seq (.reg [
    ⟨some 10,.mv (.c (.int .i64 14)),none,[]⟩])
    .ret)
   .skip)))
  (.reg [
  ⟨some 39,.mv (.t 11),none,[]⟩,
  ⟨some 40,.bin .add (.t 39) (.c (.int .i64 1)),none,[]⟩,
  ⟨some 11,.mv (.t 40),none,[]⟩]))))))
 (.seq (.seq (.reg [
 ⟨some 12,.mv (.c (.int .i64 0)),none,[]⟩])
 (.block 2 (.loop (.seq (.seq (.reg [
  ⟨some 49,.mv (.t 12),none,[]⟩,
  ⟨some 50,.mv (.t 2),none,[]⟩,
  ⟨some 51,.len (.t 50),none,[]⟩,
  ⟨some 52,.bin .lss (.t 49) (.t 51),none,[]⟩])
  (.cond (.t 52)
  .skip
  (.exit 2)))
  (.seq (.block 3 (.seq (.reg [
   ⟨some 55,.mv (.t 2),none,[]⟩,
   ⟨some 56,.mv (.t 12),none,[]⟩,
   ⟨some 57,.ixs (.t 55) (.t 56) 4,none,[]⟩,
   ⟨some 58,.ld (.t 57) 4 true,none,[]⟩,
   ⟨some 13,.alloc [.int .i64 0,.int .i64 0,.int .i64 0,.bool false] 73,none,[]⟩,
   ⟨none,.st (.t 13) (.t 58) 4,none,[]⟩])
   (.seq (.reg [
   ⟨some 59,.addo (.t 13) 0,none,[]⟩,
   ⟨some 60,.ld (.t 59) 1 false,none,[]⟩,
   ⟨some 61,.mv (.t 0),none,[]⟩,
   ⟨some 62,.bin .sub (.t 61) (.c (.int .i64 1)),none,[]⟩,
   ⟨some 63,.call 88 [.t 60,.c (.int .i64 0),.t 62],none,[]⟩,
   ⟨some 64,.un .not (.t 63),none,[]⟩,
   ⟨some 65,.mv (.t 64),none,[]⟩,
   ⟨some 66,.addo (.t 13) 1,some (65,false),[]⟩,
   ⟨some 67,.ld (.t 66) 1 false,some (65,false),[]⟩,
   ⟨some 68,.mv (.t 0),some (65,false),[]⟩,
   ⟨some 69,.bin .sub (.t 68) (.c (.int .i64 1)),some (65,false),[]⟩,
   ⟨some 70,.call 88 [.t 67,.c (.int .i64 0),.t 69],some (65,false),[]⟩,
   ⟨some 71,.un .not (.t 70),some (65,false),[]⟩,
   ⟨some 72,.pick (.t 65) (.c (.bool true)) (.t 71),none,[]⟩,
   ⟨some 73,.mv (.t 72),none,[]⟩,
   ⟨some 74,.addo (.t 13) 0,some (73,false),[]⟩,
   ⟨some 75,.ld (.t 74) 1 false,some (73,false),[]⟩,
   ⟨some 76,.addo (.t 13) 1,some (73,false),[]⟩,
   ⟨some 77,.ld (.t 76) 1 false,some (73,false),[]⟩,
   ⟨some 78,.bin .eql (.t 75) (.t 77),some (73,false),[]⟩,
   ⟨some 79,.pick (.t 73) (.c (.bool true)) (.t 78),none,[]⟩,
   ⟨some 80,.mv (.t 79),none,[]⟩,
   ⟨some 81,.addo (.t 13) 2,some (80,false),[]⟩,
   ⟨some 82,.ld (.t 81) 1 false,some (80,false),[]⟩,
   ⟨some 83,.call 88 [.t 82,.c (.int .i64 0),.c (.int .i64 100000)],some (80,false),[]⟩,
   ⟨some 84,.un .not (.t 83),some (80,false),[]⟩,
   ⟨some 85,.pick (.t 80) (.c (.bool true)) (.t 84),none,[]⟩])
   (.cond (.t 85)
   (.seq (.reg [
    ⟨some 10,.mv (.c (.int .i64 14)),none,[]⟩])
    .ret)
   .skip))))
  (.reg [
  ⟨some 53,.mv (.t 12),none,[]⟩,
  ⟨some 54,.bin .add (.t 53) (.c (.int .i64 1)),none,[]⟩,
  ⟨some 12,.mv (.t 54),none,[]⟩]))))))
 (.seq (.reg [
 ⟨some 10,.mv (.c (.int .i64 0)),none,[]⟩])
 .ret))))))
def r49:List RV:=[.tmp 10]
theorem n49:Try.f49.ntmps = 86:=by kernel_rfl
theorem b49:bodyB Try.prog 49 = true:=by kernel_rfl
theorem c49_ok:cmpC Try.prog c49 ((Try.f49.body).getD .skip) = true:=by kernel_rfl
theorem r49_ok:cmpR Try.prog r49 Try.f49.results.toList = true:=by kernel_rfl
theorem t49 {args:List SV} {res:SV} (ka:KFL args) (kr:KF res) (h:sx Try.prog Y0 0 c49 (st0 args 86) (retK r49 res)) (hA:Nat.ble args.length 86 = true:=by rfl):Ct Try.prog 49 args res:=ct_intro Try.func49 rfl b49 c49_ok r49_ok n49 (Nat.le_of_ble_eq_true hA) ka kr h
def c77:SC:=(.seq (.reg [
 ⟨some 2,.box (.t 0) 0 73,none,[]⟩,
 ⟨some 3,.mv (.c (.bool false)),none,[]⟩])
 (.seq (.reg [
 ⟨some 4,.ld (.t 1) 1 false,none,[]⟩,
 ⟨some 5,.bin .sub (.t 4) (.c (.int .i64 1)),none,[]⟩,
 ⟨some 6,.addo (.t 2) 0,none,[]⟩,
 ⟨some 7,.ld (.t 6) 1 false,none,[]⟩,
 ⟨some 8,.addo (.t 2) 1,none,[]⟩,
 ⟨some 9,.ld (.t 8) 1 false,none,[]⟩,
 ⟨some 10,.bsl 1 3 [.t 7,.t 9],none,[]⟩,
 ⟨some 11,.call 64 [.c (.int .i64 0),.t 5,.t 10],none,[]⟩,
 ⟨some 12,.un .not (.t 11),none,[]⟩,
 ⟨some 13,.mv (.t 12),none,[]⟩,
 ⟨some 14,.addo (.t 2) 0,some (13,false),[]⟩,
 ⟨some 15,.ld (.t 14) 1 false,some (13,false),[]⟩,
 ⟨some 16,.addo (.t 2) 1,some (13,false),[]⟩,
 ⟨some 17,.ld (.t 16) 1 false,some (13,false),[]⟩,
 ⟨some 18,.bin .eql (.t 15) (.t 17),some (13,false),[]⟩,
 ⟨some 19,.pick (.t 13) (.c (.bool true)) (.t 18),none,[]⟩,
 ⟨some 20,.mv (.t 19),none,[]⟩,
 ⟨some 21,.addo (.t 2) 2,some (20,false),[]⟩,
 ⟨some 22,.ld (.t 21) 1 false,some (20,false),[]⟩,
 ⟨some 23,.bsl 1 3 [.t 22],some (20,false),[]⟩,
 ⟨some 24,.call 64 [.c (.int .i64 0),.c (.int .i64 100000),.t 23],some (20,false),[]⟩,
 ⟨some 25,.un .not (.t 24),some (20,false),[]⟩,
 ⟨some 26,.pick (.t 20) (.c (.bool true)) (.t 25),none,[]⟩,
 ⟨some 3,.mv (.t 26),none,[]⟩])
 .ret))
def r77:List RV:=[.tmp 3]
theorem n77:Try.f77.ntmps = 27:=by kernel_rfl
theorem b77:bodyB Try.prog 77 = true:=by kernel_rfl
theorem c77_ok:cmpC Try.prog c77 ((Try.f77.body).getD .skip) = true:=by kernel_rfl
theorem r77_ok:cmpR Try.prog r77 Try.f77.results.toList = true:=by kernel_rfl
theorem t77 {args:List SV} {res:SV} (ka:KFL args) (kr:KF res) (h:sx Try.prog Y0 0 c77 (st0 args 27) (retK r77 res)) (hA:Nat.ble args.length 27 = true:=by rfl):Ct Try.prog 77 args res:=ct_intro Try.func77 rfl b77 c77_ok r77_ok n77 (Nat.le_of_ble_eq_true hA) ka kr h
def c78:SC:=(.seq (.reg [
 ⟨some 4,.mv (.c (.bool false)),none,[]⟩])
 (.seq (.reg [
 ⟨some 5,.mv (.t 0),none,[]⟩,
 ⟨some 6,.mv (.t 1),none,[]⟩,
 ⟨some 7,.call 97 [.t 5,.t 6],none,[]⟩,
 ⟨some 8,.bin .geq (.t 7) (.c (.int .i64 0)),none,[]⟩,
 ⟨some 4,.mv (.t 8),none,[]⟩])
 .ret))
def r78:List RV:=[.tmp 4]
theorem n78:Try.f78.ntmps = 9:=by kernel_rfl
theorem b78:bodyB Try.prog 78 = true:=by kernel_rfl
theorem c78_ok:cmpC Try.prog c78 ((Try.f78.body).getD .skip) = true:=by kernel_rfl
theorem r78_ok:cmpR Try.prog r78 Try.f78.results.toList = true:=by kernel_rfl
theorem t78 {args:List SV} {res:SV} (ka:KFL args) (kr:KF res) (h:sx Try.prog Y0 0 c78 (st0 args 9) (retK r78 res)) (hA:Nat.ble args.length 9 = true:=by rfl):Ct Try.prog 78 args res:=ct_intro Try.func78 rfl b78 c78_ok r78_ok n78 (Nat.le_of_ble_eq_true hA) ka kr h
def c79:SC:=(.seq (.reg [
 ⟨some 2,.mv (.c (.slice none 0 0)),none,[]⟩])
 (.seq (.seq (.reg [
 ⟨some 3,.mv (.t 0),none,[]⟩,
 ⟨some 4,.isn (.t 3),none,[]⟩])
 (.cond (.t 4)
 (.seq (.reg [
  ⟨some 2,.mv (.c (.slice none 0 0)),none,[]⟩])
  .ret)
 .skip))
 (.seq (.reg [
 ⟨some 5,.bsl 4 73 [],none,[]⟩,
 ⟨some 6,.mv (.t 0),none,[]⟩,
 ⟨some 7,.cln 4 32 73 (.t 5) (.t 6),none,[]⟩,
 ⟨some 2,.mv (.t 7),none,[]⟩])
 .ret)))
def r79:List RV:=[.tmp 2]
theorem n79:Try.f79.ntmps = 8:=by kernel_rfl
theorem b79:bodyB Try.prog 79 = true:=by kernel_rfl
theorem c79_ok:cmpC Try.prog c79 ((Try.f79.body).getD .skip) = true:=by kernel_rfl
theorem r79_ok:cmpR Try.prog r79 Try.f79.results.toList = true:=by kernel_rfl
theorem m79 {n0:Nat} {hp0:List (Nat × HB)} {args:List SV} {Post:Ot → Prop} (hh:hpb n0 hp0) (hx:∀ o,Post o → KX o.res ∧ KXP o.hp) (h:sx Try.prog Y0 n0 c79 ⟨enum 0 args,hp0,n0,8,[]⟩ (retM r79 fun o=>∃ o',Post o' ∧ EntO n0 o o')) (hA:Nat.ble args.length 8 = true:=by rfl):CtM Try.prog 79 hp0 n0 args Post:=ctm_intro Try.func79 rfl b79 c79_ok r79_ok n79 (Nat.le_of_ble_eq_true hA) hh hx h
def c80:SC:=(.reg [
 ⟨some 4,.mv (.t 0),none,[]⟩,
 ⟨some 5,.mv (.t 0),none,[]⟩,
 ⟨some 6,.len (.t 5),none,[]⟩,
 ⟨some 7,.mv (.t 1),none,[]⟩,
 ⟨some 8,.callm 98 [.t 4,.t 6,.t 7],none,[]⟩])
def r80:List RV:=[]
theorem n80:Try.f80.ntmps = 9:=by kernel_rfl
theorem b80:bodyB Try.prog 80 = true:=by kernel_rfl
theorem c80_ok:cmpC Try.prog c80 ((Try.f80.body).getD .skip) = true:=by kernel_rfl
theorem r80_ok:cmpR Try.prog r80 Try.f80.results.toList = true:=by kernel_rfl
theorem m80 {n0:Nat} {hp0:List (Nat × HB)} {args:List SV} {Post:Ot → Prop} (hh:hpb n0 hp0) (hx:∀ o,Post o → KX o.res ∧ KXP o.hp) (h:sx Try.prog Y0 n0 c80 ⟨enum 0 args,hp0,n0,9,[]⟩ (retM r80 fun o=>∃ o',Post o' ∧ EntO n0 o o')) (hA:Nat.ble args.length 9 = true:=by rfl):CtM Try.prog 80 hp0 n0 args Post:=ctm_intro Try.func80 rfl b80 c80_ok r80_ok n80 (Nat.le_of_ble_eq_true hA) hh hx h
def c81:SC:=(.seq (.reg [
 ⟨some 2,.box (.t 0) 0 73,none,[]⟩,
 ⟨some 3,.box (.t 1) 0 73,none,[]⟩,
 ⟨some 4,.mv (.c (.int .i64 0)),none,[]⟩])
 (.seq (.reg [
 ⟨some 5,.addo (.t 2) 2,none,[]⟩,
 ⟨some 6,.ld (.t 5) 1 false,none,[]⟩,
 ⟨some 7,.addo (.t 3) 2,none,[]⟩,
 ⟨some 8,.ld (.t 7) 1 false,none,[]⟩,
 ⟨some 9,.call 82 [.t 6,.t 8],none,[]⟩,
 ⟨some 4,.mv (.t 9),none,[]⟩])
 .ret))
def r81:List RV:=[.tmp 4]
theorem n81:Try.f81.ntmps = 10:=by kernel_rfl
theorem b81:bodyB Try.prog 81 = true:=by kernel_rfl
theorem c81_ok:cmpC Try.prog c81 ((Try.f81.body).getD .skip) = true:=by kernel_rfl
theorem r81_ok:cmpR Try.prog r81 Try.f81.results.toList = true:=by kernel_rfl
theorem t81 {args:List SV} {res:SV} (ka:KFL args) (kr:KF res) (h:sx Try.prog Y0 0 c81 (st0 args 10) (retK r81 res)) (hA:Nat.ble args.length 10 = true:=by rfl):Ct Try.prog 81 args res:=ct_intro Try.func81 rfl b81 c81_ok r81_ok n81 (Nat.le_of_ble_eq_true hA) ka kr h
def c82:SC:=(.seq (.reg [
 ⟨some 4,.mv (.c (.int .i64 0)),none,[]⟩])
 (.seq (.reg [
 ⟨some 7,.mv (.t 0),none,[]⟩,
 ⟨some 8,.call 99 [.t 7],none,[]⟩,
 ⟨some 5,.mv (.t 8),none,[]⟩])
 (.seq (.reg [
 ⟨some 9,.mv (.t 1),none,[]⟩,
 ⟨some 10,.call 99 [.t 9],none,[]⟩,
 ⟨some 6,.mv (.t 10),none,[]⟩])
 (.seq (.seq (.reg [
 ⟨some 11,.mv (.t 5),none,[]⟩])
 (.cond (.t 11)
 (.seq (.seq (.reg [
  ⟨some 12,.mv (.t 6),none,[]⟩])
  (.cond (.t 12)
  (.seq (.reg [
   ⟨some 4,.mv (.c (.int .i64 0)),none,[]⟩])
   .ret)
  .skip))
  (.seq (.reg [
  ⟨some 4,.mv (.c (.int .i64 (-1))),none,[]⟩])
  .ret))
 .skip))
 (.seq (.seq (.reg [
 ⟨some 13,.mv (.t 6),none,[]⟩])
 (.cond (.t 13)
 (.seq (.reg [
  ⟨some 4,.mv (.c (.int .i64 1)),none,[]⟩])
  .ret)
 .skip))
 (.seq (.seq (.reg [
 ⟨some 14,.mv (.t 0),none,[]⟩,
 ⟨some 15,.mv (.t 1),none,[]⟩,
 ⟨some 16,.bin .lss (.t 14) (.t 15),none,[]⟩])
 (.cond (.t 16)
 (.seq (.reg [
  ⟨some 4,.mv (.c (.int .i64 (-1))),none,[]⟩])
  .ret)
 .skip))
 (.seq (.seq (.reg [
 ⟨some 17,.mv (.t 0),none,[]⟩,
 ⟨some 18,.mv (.t 1),none,[]⟩,
 ⟨some 19,.bin .gtr (.t 17) (.t 18),none,[]⟩])
 (.cond (.t 19)
 (.seq (.reg [
  ⟨some 4,.mv (.c (.int .i64 1)),none,[]⟩])
  .ret)
 .skip))
 (.seq (.reg [
 ⟨some 4,.mv (.c (.int .i64 0)),none,[]⟩])
 .ret))))))))
def r82:List RV:=[.tmp 4]
theorem n82:Try.f82.ntmps = 20:=by kernel_rfl
theorem b82:bodyB Try.prog 82 = true:=by kernel_rfl
theorem c82_ok:cmpC Try.prog c82 ((Try.f82.body).getD .skip) = true:=by kernel_rfl
theorem r82_ok:cmpR Try.prog r82 Try.f82.results.toList = true:=by kernel_rfl
theorem t82 {args:List SV} {res:SV} (ka:KFL args) (kr:KF res) (h:sx Try.prog Y0 0 c82 (st0 args 20) (retK r82 res)) (hA:Nat.ble args.length 20 = true:=by rfl):Ct Try.prog 82 args res:=ct_intro Try.func82 rfl b82 c82_ok r82_ok n82 (Nat.le_of_ble_eq_true hA) ka kr h
def c83:SC:=(.seq (.reg [
 ⟨some 10,.mv (.c (.slice none 0 0)),none,[]⟩])
 (.scope (.seq (.reg [
 ⟨some 17,.bsl 1 3 [.c (.int .i64 100061)],none,[]⟩,
 ⟨some 18,.mv (.t 0),none,[]⟩,
 ⟨some 19,.callm 100 [.t 17,.t 18],none,[]⟩,
 ⟨some 11,.mv (.t 19),none,[]⟩])
 (.seq (.seq (.reg [
 ⟨some 20,.mv (.t 1),none,[]⟩,
 ⟨some 21,.len (.t 20),none,[]⟩,
 ⟨some 22,.mv (.c (.int .i64 0)),none,[]⟩])
 (.block 0 (.loop (.seq (.reg [
  ⟨some 23,.bin .lss (.t 22) (.t 21),none,[]⟩])
  (.seq (.cond (.t 23)
  .skip
  (.exit 0))
  (.seq (.block 1 (.seq (.reg [
   ⟨some 24,.ixs (.t 20) (.t 22) 1,none,[]⟩,
   ⟨some 25,.ld (.t 24) 1 false,none,[]⟩,
   ⟨some 13,.mv (.t 25),none,[]⟩])
   (.reg [
   ⟨some 26,.mv (.t 11),none,[]⟩,
   ⟨some 27,.mv (.t 13),none,[]⟩,
   ⟨some 28,.ixs (.t 26) (.t 27) 1,none,[]⟩,
   ⟨none,.st (.t 28) (.c (.int .i64 0)) 1,none,[]⟩])))
  (.reg [
  ⟨some 29,.bin .add (.t 22) (.c (.int .i64 1)),none,[]⟩,
  ⟨some 22,.mv (.t 29),none,[]⟩])))))))
 (.seq (.label 0)
 (.seq (.seq (.reg [
 ⟨some 30,.mv (.t 2),none,[]⟩,
 ⟨some 31,.len (.t 30),none,[]⟩,
 ⟨some 32,.mv (.c (.int .i64 0)),none,[]⟩])
 (.block 2 (.loop (.seq (.reg [
  ⟨some 33,.bin .lss (.t 32) (.t 31),none,[]⟩])
  (.seq (.cond (.t 33)
  .skip
  (.exit 2))
  (.seq (.block 3 (.seq (.reg [
   ⟨some 34,.mv (.t 32),none,[]⟩,
   ⟨some 14,.mv (.t 34),none,[]⟩])
   (.seq (.regd [0,1,2,3,4,5,6,7,8,9,10,11,12,13,14,15,16,17,18,19,20,21,22,23] [
   .op ⟨some 35,.mv (.t 2),none,[]⟩,
   .op ⟨some 36,.mv (.t 14),none,[]⟩,
   .op ⟨some 37,.ixs (.t 35) (.t 36) 4,none,[0,1]⟩,
   .op ⟨some 38,.addo (.t 37) 0,none,[2]⟩,
   .op ⟨some 39,.ld (.t 38) 1 false,none,[3]⟩,
   .op ⟨some 40,.mv (.t 2),none,[]⟩,
   .op ⟨some 41,.mv (.t 14),none,[]⟩,
   .op ⟨some 42,.ixs (.t 40) (.t 41) 4,none,[5,6]⟩,
   .op ⟨some 43,.addo (.t 42) 1,none,[7]⟩,
   .op ⟨some 44,.ld (.t 43) 1 false,none,[8]⟩,
   .op ⟨some 45,.build [.int .i64 0,.int .i64 0] [(0,1,.t 39),(1,1,.t 44)],none,[4,9]⟩,
   .op ⟨some 46,.mv (.t 2),none,[]⟩,
   .op ⟨some 47,.mv (.t 14),none,[]⟩,
   .op ⟨some 48,.ixs (.t 46) (.t 47) 4,none,[11,12]⟩,
   .op ⟨some 49,.addo (.t 48) 1,none,[13]⟩,
   .op ⟨some 50,.ld (.t 49) 1 false,none,[14]⟩,
   .op ⟨some 51,.mv (.t 2),none,[]⟩,
   .op ⟨some 52,.mv (.t 14),none,[]⟩,
   .op ⟨some 53,.ixs (.t 51) (.t 52) 4,none,[16,17]⟩,
   .op ⟨some 54,.addo (.t 53) 0,none,[18]⟩,
   .op ⟨some 55,.ld (.t 54) 1 false,none,[19]⟩,
   .op ⟨some 56,.build [.int .i64 0,.int .i64 0] [(0,1,.t 50),(1,1,.t 55)],none,[15,20]⟩,
   .op ⟨some 57,.build [.int .i64 0,.int .i64 0,.int .i64 0,.int .i64 0] [(0,2,.t 45),(2,2,.t 56)],none,[10,21]⟩,
   .op ⟨some 58,.mv (.c (.int .i64 0)),none,[]⟩] 0 0 [
])
 (.block 4 (.loop (.seq (.reg [
  ⟨some 59,.bin .lss (.t 58) (.c (.int .i64 2)),none,[]⟩])
  (.seq (.cond (.t 59)
  .skip
  (.exit 4))
  (.seq (.block 5 (.seq (.reg [
   ⟨some 60,.idx (.t 57) (.t 58) 2 2 true,none,[]⟩,
   ⟨some 16,.alloc [.int .i64 0,.int .i64 0] 97,none,[]⟩,
   ⟨none,.st (.t 16) (.t 60) 2,none,[]⟩])
   (.seq (.seq (.reg [
   ⟨some 61,.mv (.t 2),none,[]⟩,
   ⟨some 62,.mv (.t 14),none,[]⟩,
   ⟨some 63,.ixs (.t 61) (.t 62) 4,none,[]⟩,
   ⟨some 64,.addo (.t 63) 2,none,[]⟩,
   ⟨some 65,.ld (.t 64) 1 false,none,[]⟩,
   ⟨some 66,.mv (.t 4),none,[]⟩,
   ⟨some 67,.bin .gtr (.t 65) (.t 66),none,[]⟩])
   (.cond (.t 67)
   (.exit 2)
   .skip))
   (.seq (.regd [0,1,2,3,4,5,6,7,8,9,10] [
   .op ⟨some 68,.mv (.t 11),none,[]⟩,
   .op ⟨some 69,.ixa (.t 16) (.c (.int .i64 0)) 2 1,none,[]⟩,
   .op ⟨some 70,.ld (.t 69) 1 false,none,[1]⟩,
   .op ⟨some 71,.ixs (.t 68) (.t 70) 1,none,[0,2]⟩,
   .op ⟨some 72,.ld (.t 71) 1 false,none,[3]⟩,
   .op ⟨some 73,.mv (.t 2),none,[]⟩,
   .op ⟨some 74,.mv (.t 14),none,[]⟩,
   .op ⟨some 75,.ixs (.t 73) (.t 74) 4,none,[5,6]⟩,
   .op ⟨some 76,.addo (.t 75) 2,none,[7]⟩,
   .op ⟨some 77,.ld (.t 76) 1 false,none,[8]⟩,
   .op ⟨some 78,.bin .leq (.t 72) (.t 77),none,[4,9]⟩] 0 0 [
])
 (.cond (.t 78)
 (.regd [0,1,2,3,4,5,6,7,8,9,10,11,12,13,14,15,16,17] [
  .op ⟨some 79,.mv (.t 11),none,[]⟩,
  .op ⟨some 80,.ixa (.t 16) (.c (.int .i64 1)) 2 1,none,[]⟩,
  .op ⟨some 81,.ld (.t 80) 1 false,none,[1]⟩,
  .op ⟨some 82,.mv (.t 11),none,[]⟩,
  .op ⟨some 83,.ixa (.t 16) (.c (.int .i64 1)) 2 1,none,[]⟩,
  .op ⟨some 84,.ld (.t 83) 1 false,none,[4]⟩,
  .op ⟨some 85,.ixs (.t 82) (.t 84) 1,none,[3,5]⟩,
  .op ⟨some 86,.ld (.t 85) 1 false,none,[6]⟩,
  .op ⟨some 87,.mv (.t 2),none,[]⟩,
  .op ⟨some 88,.mv (.t 14),none,[]⟩,
  .op ⟨some 89,.ixs (.t 87) (.t 88) 4,none,[8,9]⟩,
  .op ⟨some 90,.addo (.t 89) 2,none,[10]⟩,
  .op ⟨some 91,.ld (.t 90) 1 false,none,[11]⟩,
  .op ⟨some 92,.mv (.t 3),none,[]⟩,
  .op ⟨some 93,.bin .add (.t 91) (.t 92),none,[12,13]⟩,
  .op ⟨some 94,.mm false [.t 86,.t 93],none,[7,14]⟩,
  .op ⟨some 95,.ixs (.t 79) (.t 81) 1,none,[0,1,2,3,4,5,6,7,8,9,10,11,12,13,14,15]⟩] 0 1 [
  ⟨none,.st (.t 95) (.t 94) 1,none,[0,1,2,3,4,5,6,7,8,9,10,11,12,13,14,15,16]⟩])
 .skip)))))
 (.reg [
 ⟨some 96,.bin .add (.t 58) (.c (.int .i64 1)),none,[]⟩,
 ⟨some 58,.mv (.t 96),none,[]⟩])))))))))
 (.reg [
 ⟨some 97,.bin .add (.t 32) (.c (.int .i64 1)),none,[]⟩,
 ⟨some 32,.mv (.t 97),none,[]⟩])))))))
 (.seq (.reg [
 ⟨some 98,.mv (.t 11),none,[]⟩,
 ⟨some 10,.mv (.t 98),none,[]⟩])
 .ret)))))))
def r83:List RV:=[.tmp 10]
theorem n83:Try.f83.ntmps = 99:=by kernel_rfl
theorem b83:bodyB Try.prog 83 = true:=by kernel_rfl
theorem c83_ok:cmpC Try.prog c83 ((Try.f83.body).getD .skip) = true:=by kernel_rfl
theorem r83_ok:cmpR Try.prog r83 Try.f83.results.toList = true:=by kernel_rfl
theorem t83 {args:List SV} {res:SV} (ka:KFL args) (kr:KF res) (h:sx Try.prog Y0 0 c83 (st0 args 99) (retK r83 res)) (hA:Nat.ble args.length 99 = true:=by rfl):Ct Try.prog 83 args res:=ct_intro Try.func83 rfl b83 c83_ok r83_ok n83 (Nat.le_of_ble_eq_true hA) ka kr h
def c84:SC:=(.seq (.reg [
 ⟨some 4,.mv (.c (.slice none 0 0)),none,[]⟩])
 (.seq (.reg [
 ⟨some 8,.mv (.t 0),none,[]⟩,
 ⟨some 9,.mv (.t 1),none,[]⟩,
 ⟨some 10,.call 97 [.t 8,.t 9],none,[]⟩,
 ⟨some 5,.mv (.t 10),none,[]⟩])
 (.seq (.seq (.reg [
 ⟨some 11,.mv (.t 5),none,[]⟩,
 ⟨some 12,.bin .eql (.t 11) (.c (.int .i64 (-1))),none,[]⟩])
 (.cond (.t 12)
 (.seq (.reg [
  ⟨some 13,.mv (.t 0),none,[]⟩,
  ⟨some 4,.mv (.t 13),none,[]⟩])
  .ret)
 .skip))
 (.seq (.seq (.reg [
 ⟨some 14,.mv (.t 5),none,[]⟩,
 ⟨some 15,.bin .add (.t 14) (.c (.int .i64 1)),none,[]⟩,
 ⟨some 6,.mv (.t 15),none,[]⟩])
 (.block 0 (.loop (.seq (.seq (.reg [
  ⟨some 16,.mv (.t 6),none,[]⟩,
  ⟨some 17,.mv (.t 0),none,[]⟩,
  ⟨some 18,.len (.t 17),none,[]⟩,
  ⟨some 19,.bin .lss (.t 16) (.t 18),none,[]⟩])
  (.cond (.t 19)
  .skip
  (.exit 0)))
  (.seq (.block 1 (.seq (.reg [
   ⟨some 22,.mv (.t 0),none,[]⟩,
   ⟨some 23,.mv (.t 6),none,[]⟩,
   ⟨some 24,.ixs (.t 22) (.t 23) 4,none,[]⟩,
   ⟨some 25,.ld (.t 24) 4 true,none,[]⟩,
   ⟨some 7,.alloc [.int .i64 0,.int .i64 0,.int .i64 0,.bool false] 73,none,[]⟩,
   ⟨none,.st (.t 7) (.t 25) 4,none,[]⟩])
   (.seq (.reg [
   ⟨some 26,.mv (.t 1),none,[]⟩,
   ⟨some 27,.ld (.t 7) 4 true,none,[]⟩,
   ⟨some 28,.calv (.t 26) [.t 27],none,[]⟩,
   ⟨some 29,.un .not (.t 28),none,[]⟩])
   (.cond (.t 29)
   (.seq (.reg [
    ⟨some 30,.mv (.t 0),none,[]⟩,
    ⟨some 31,.mv (.t 5),none,[]⟩,
    ⟨some 32,.ld (.t 7) 4 true,none,[]⟩,
    ⟨some 33,.ixs (.t 30) (.t 31) 4,none,[]⟩,
    ⟨none,.st (.t 33) (.t 32) 4,none,[]⟩])
    (.reg [
    ⟨some 34,.mv (.t 5),none,[]⟩,
    ⟨some 35,.bin .add (.t 34) (.c (.int .i64 1)),none,[]⟩,
    ⟨some 5,.mv (.t 35),none,[]⟩]))
   .skip))))
  (.reg [
  ⟨some 20,.mv (.t 6),none,[]⟩,
  ⟨some 21,.bin .add (.t 20) (.c (.int .i64 1)),none,[]⟩,
  ⟨some 6,.mv (.t 21),none,[]⟩]))))))
 (.seq (.reg [
 ⟨some 36,.mv (.t 0),none,[]⟩,
 ⟨some 37,.mv (.t 5),none,[]⟩,
 ⟨some 38,.sub 4 (.t 36) (some (.t 37)) none,none,[]⟩,
 ⟨none,.raw (Go.Op.call { callee:=(Go.Callee.builtin Go.Builtin.clear),args:=#[(Go.Operand.tmp 38)],argTypes:=#[66] }) 0,none,[]⟩])
 (.seq (.reg [
 ⟨some 39,.mv (.t 0),none,[]⟩,
 ⟨some 40,.mv (.t 5),none,[]⟩,
 ⟨some 41,.sub 4 (.t 39) none (some (.t 40)),none,[]⟩,
 ⟨some 4,.mv (.t 41),none,[]⟩])
 .ret))))))
def r84:List RV:=[.tmp 4]
theorem n84:Try.f84.ntmps = 42:=by kernel_rfl
theorem b84:bodyB Try.prog 84 = true:=by kernel_rfl
theorem c84_ok:cmpC Try.prog c84 ((Try.f84.body).getD .skip) = true:=by kernel_rfl
theorem r84_ok:cmpR Try.prog r84 Try.f84.results.toList = true:=by kernel_rfl
theorem m84 {n0:Nat} {hp0:List (Nat × HB)} {args:List SV} {Post:Ot → Prop} (hh:hpb n0 hp0) (hx:∀ o,Post o → KX o.res ∧ KXP o.hp) (h:sx Try.prog Y0 n0 c84 ⟨enum 0 args,hp0,n0,42,[]⟩ (retM r84 fun o=>∃ o',Post o' ∧ EntO n0 o o')) (hA:Nat.ble args.length 42 = true:=by rfl):CtM Try.prog 84 hp0 n0 args Post:=ctm_intro Try.func84 rfl b84 c84_ok r84_ok n84 (Nat.le_of_ble_eq_true hA) hh hx h
def c85:SC:=(.seq (.reg [
 ⟨some 1,.box (.t 0) 0 73,none,[]⟩,
 ⟨some 2,.mv (.c (.bool false)),none,[]⟩])
 (.seq (.reg [
 ⟨some 3,.addo (.t 1) 3,none,[]⟩,
 ⟨some 4,.ld (.t 3) 1 false,none,[]⟩,
 ⟨some 5,.un .not (.t 4),none,[]⟩,
 ⟨some 2,.mv (.t 5),none,[]⟩])
 .ret))
def r85:List RV:=[.tmp 2]
theorem n85:Try.f85.ntmps = 6:=by kernel_rfl
theorem b85:bodyB Try.prog 85 = true:=by kernel_rfl
theorem c85_ok:cmpC Try.prog c85 ((Try.f85.body).getD .skip) = true:=by kernel_rfl
theorem r85_ok:cmpR Try.prog r85 Try.f85.results.toList = true:=by kernel_rfl
theorem t85 {args:List SV} {res:SV} (ka:KFL args) (kr:KF res) (h:sx Try.prog Y0 0 c85 (st0 args 6) (retK r85 res)) (hA:Nat.ble args.length 6 = true:=by rfl):Ct Try.prog 85 args res:=ct_intro Try.func85 rfl b85 c85_ok r85_ok n85 (Nat.le_of_ble_eq_true hA) ka kr h
def c97:SC:=(.seq (.reg [
 ⟨some 4,.mv (.c (.int .i64 0)),none,[]⟩])
 (.seq (.seq (.reg [
 ⟨some 6,.mv (.t 0),none,[]⟩,
 ⟨some 7,.len (.t 6),none,[]⟩,
 ⟨some 8,.mv (.c (.int .i64 0)),none,[]⟩])
 (.block 0 (.loop (.seq (.reg [
  ⟨some 9,.bin .lss (.t 8) (.t 7),none,[]⟩])
  (.seq (.cond (.t 9)
  .skip
  (.exit 0))
  (.seq (.block 1 (.seq (.reg [
   ⟨some 10,.mv (.t 8),none,[]⟩,
   ⟨some 5,.mv (.t 10),none,[]⟩])
   (.seq (.reg [
   ⟨some 11,.mv (.t 1),none,[]⟩,
   ⟨some 12,.mv (.t 0),none,[]⟩,
   ⟨some 13,.mv (.t 5),none,[]⟩,
   ⟨some 14,.ixs (.t 12) (.t 13) 4,none,[]⟩,
   ⟨some 15,.ld (.t 14) 4 true,none,[]⟩,
   ⟨some 16,.calv (.t 11) [.t 15],none,[]⟩])
   (.cond (.t 16)
   (.seq (.reg [
    ⟨some 17,.mv (.t 5),none,[]⟩,
    ⟨some 4,.mv (.t 17),none,[]⟩])
    .ret)
   .skip))))
  (.reg [
  ⟨some 18,.bin .add (.t 8) (.c (.int .i64 1)),none,[]⟩,
  ⟨some 8,.mv (.t 18),none,[]⟩])))))))
 (.seq (.reg [
 ⟨some 4,.mv (.c (.int .i64 (-1))),none,[]⟩])
 .ret)))
def r97:List RV:=[.tmp 4]
theorem n97:Try.f97.ntmps = 19:=by kernel_rfl
theorem b97:bodyB Try.prog 97 = true:=by kernel_rfl
theorem c97_ok:cmpC Try.prog c97 ((Try.f97.body).getD .skip) = true:=by kernel_rfl
theorem r97_ok:cmpR Try.prog r97 Try.f97.results.toList = true:=by kernel_rfl
theorem t97 {args:List SV} {res:SV} (ka:KFL args) (kr:KF res) (h:sx Try.prog Y0 0 c97 (st0 args 19) (retK r97 res)) (hA:Nat.ble args.length 19 = true:=by rfl):Ct Try.prog 97 args res:=ct_intro Try.func97 rfl b97 c97_ok r97_ok n97 (Nat.le_of_ble_eq_true hA) ka kr h
def c98:SC:=(.seq (.reg [
 ⟨some 6,.mv (.c (.int .i64 20)),none,[]⟩])
 (.seq (.reg [
 ⟨some 10,.mv (.t 6),none,[]⟩,
 ⟨some 7,.mv (.c (.int .i64 0)),none,[]⟩,
 ⟨some 8,.mv (.t 10),none,[]⟩])
 (.seq (.block 0 (.loop (.seq (.seq (.reg [
  ⟨some 11,.mv (.t 8),none,[]⟩,
  ⟨some 12,.mv (.t 1),none,[]⟩,
  ⟨some 13,.bin .leq (.t 11) (.t 12),none,[]⟩])
  (.cond (.t 13)
  .skip
  (.exit 0)))
  (.block 1 (.seq (.reg [
   ⟨some 14,.mv (.t 0),none,[]⟩,
   ⟨some 15,.mv (.t 7),none,[]⟩,
   ⟨some 16,.mv (.t 8),none,[]⟩,
   ⟨some 17,.mv (.t 2),none,[]⟩,
   ⟨some 18,.callm 105 [.t 14,.t 15,.t 16,.t 17],none,[]⟩])
   (.seq (.reg [
   ⟨some 19,.mv (.t 8),none,[]⟩,
   ⟨some 7,.mv (.t 19),none,[]⟩])
   (.reg [
   ⟨some 20,.mv (.t 8),none,[]⟩,
   ⟨some 21,.mv (.t 6),none,[]⟩,
   ⟨some 22,.bin .add (.t 20) (.t 21),none,[]⟩,
   ⟨some 8,.mv (.t 22),none,[]⟩])))))))
 (.seq (.reg [
 ⟨some 23,.mv (.t 0),none,[]⟩,
 ⟨some 24,.mv (.t 7),none,[]⟩,
 ⟨some 25,.mv (.t 1),none,[]⟩,
 ⟨some 26,.mv (.t 2),none,[]⟩,
 ⟨some 27,.callm 105 [.t 23,.t 24,.t 25,.t 26],none,[]⟩])
 (.block 2 (.loop (.seq (.seq (.reg [
  ⟨some 28,.mv (.t 6),none,[]⟩,
  ⟨some 29,.mv (.t 1),none,[]⟩,
  ⟨some 30,.bin .lss (.t 28) (.t 29),none,[]⟩])
  (.cond (.t 30)
  .skip
  (.exit 2)))
  (.block 3 (.seq (.reg [
   ⟨some 31,.mv (.t 6),none,[]⟩,
   ⟨some 32,.bin .mul (.c (.int .i64 2)) (.t 31),none,[]⟩,
   ⟨some 7,.mv (.c (.int .i64 0)),none,[]⟩,
   ⟨some 8,.mv (.t 32),none,[]⟩])
   (.seq (.block 4 (.loop (.seq (.seq (.reg [
    ⟨some 33,.mv (.t 8),none,[]⟩,
    ⟨some 34,.mv (.t 1),none,[]⟩,
    ⟨some 35,.bin .leq (.t 33) (.t 34),none,[]⟩])
    (.cond (.t 35)
    .skip
    (.exit 4)))
    (.block 5 (.seq (.reg [
     ⟨some 36,.mv (.t 0),none,[]⟩,
     ⟨some 37,.mv (.t 7),none,[]⟩,
     ⟨some 38,.mv (.t 7),none,[]⟩,
     ⟨some 39,.mv (.t 6),none,[]⟩,
     ⟨some 40,.bin .add (.t 38) (.t 39),none,[]⟩,
     ⟨some 41,.mv (.t 8),none,[]⟩,
     ⟨some 42,.mv (.t 2),none,[]⟩,
     ⟨some 43,.callm 106 [.t 36,.t 37,.t 40,.t 41,.t 42],none,[]⟩])
     (.seq (.reg [
     ⟨some 44,.mv (.t 8),none,[]⟩,
     ⟨some 7,.mv (.t 44),none,[]⟩])
     (.reg [
     ⟨some 45,.mv (.t 8),none,[]⟩,
     ⟨some 46,.mv (.t 6),none,[]⟩,
     ⟨some 47,.bin .mul (.c (.int .i64 2)) (.t 46),none,[]⟩,
     ⟨some 48,.bin .add (.t 45) (.t 47),none,[]⟩,
     ⟨some 8,.mv (.t 48),none,[]⟩])))))))
   (.seq (.seq (.reg [
   ⟨some 49,.mv (.t 7),none,[]⟩,
   ⟨some 50,.mv (.t 6),none,[]⟩,
   ⟨some 51,.bin .add (.t 49) (.t 50),none,[]⟩,
   ⟨some 9,.mv (.t 51),none,[]⟩])
   (.seq (.reg [
   ⟨some 52,.mv (.t 9),none,[]⟩,
   ⟨some 53,.mv (.t 1),none,[]⟩,
   ⟨some 54,.bin .lss (.t 52) (.t 53),none,[]⟩])
   (.cond (.t 54)
   (.reg [
    ⟨some 55,.mv (.t 0),none,[]⟩,
    ⟨some 56,.mv (.t 7),none,[]⟩,
    ⟨some 57,.mv (.t 9),none,[]⟩,
    ⟨some 58,.mv (.t 1),none,[]⟩,
    ⟨some 59,.mv (.t 2),none,[]⟩,
    ⟨some 60,.callm 106 [.t 55,.t 56,.t 57,.t 58,.t 59],none,[]⟩])
   .skip)))
   (.reg [
   ⟨some 61,.mv (.t 6),none,[]⟩,
   ⟨some 62,.bin .mul (.t 61) (.c (.int .i64 2)),none,[]⟩,
   ⟨some 6,.mv (.t 62),none,[]⟩]))))))))))))
def r98:List RV:=[]
theorem n98:Try.f98.ntmps = 63:=by kernel_rfl
theorem b98:bodyB Try.prog 98 = true:=by kernel_rfl
theorem c98_ok:cmpC Try.prog c98 ((Try.f98.body).getD .skip) = true:=by kernel_rfl
theorem r98_ok:cmpR Try.prog r98 Try.f98.results.toList = true:=by kernel_rfl
theorem m98 {n0:Nat} {hp0:List (Nat × HB)} {args:List SV} {Post:Ot → Prop} (hh:hpb n0 hp0) (hx:∀ o,Post o → KX o.res ∧ KXP o.hp) (h:sx Try.prog Y0 n0 c98 ⟨enum 0 args,hp0,n0,63,[]⟩ (retM r98 fun o=>∃ o',Post o' ∧ EntO n0 o o')) (hA:Nat.ble args.length 63 = true:=by rfl):CtM Try.prog 98 hp0 n0 args Post:=ctm_intro Try.func98 rfl b98 c98_ok r98_ok n98 (Nat.le_of_ble_eq_true hA) hh hx h
def c99:SC:=(.seq (.reg [
 ⟨some 2,.mv (.c (.bool false)),none,[]⟩])
 (.seq (.reg [
 ⟨some 3,.mv (.t 0),none,[]⟩,
 ⟨some 4,.mv (.t 0),none,[]⟩,
 ⟨some 5,.bin .neq (.t 3) (.t 4),none,[]⟩,
 ⟨some 2,.mv (.t 5),none,[]⟩])
 .ret))
def r99:List RV:=[.tmp 2]
theorem n99:Try.f99.ntmps = 6:=by kernel_rfl
theorem b99:bodyB Try.prog 99 = true:=by kernel_rfl
theorem c99_ok:cmpC Try.prog c99 ((Try.f99.body).getD .skip) = true:=by kernel_rfl
theorem r99_ok:cmpR Try.prog r99 Try.f99.results.toList = true:=by kernel_rfl
theorem t99 {args:List SV} {res:SV} (ka:KFL args) (kr:KF res) (h:sx Try.prog Y0 0 c99 (st0 args 6) (retK r99 res)) (hA:Nat.ble args.length 6 = true:=by rfl):Ct Try.prog 99 args res:=ct_intro Try.func99 rfl b99 c99_ok r99_ok n99 (Nat.le_of_ble_eq_true hA) ka kr h
def c100:SC:=(.seq (.reg [
 ⟨some 4,.mv (.c (.slice none 0 0)),none,[]⟩])
 (.seq (.seq (.reg [
 ⟨some 9,.mv (.t 1),none,[]⟩,
 ⟨some 10,.bin .lss (.t 9) (.c (.int .i64 0)),none,[]⟩])
 (.cond (.t 10)
 (.reg [
  ⟨some 11,.raw (Go.Op.makeInterface 9 (Go.Operand.const (Go.Value.string { data:=#[99,97,110,110,111,116,32,98,101,32,110,101,103,97,116,105,118,101] }))) 20,none,[]⟩,
  ⟨none,.raw (Go.Op.panic (Go.Operand.tmp 11)) 0,none,[]⟩])
 .skip))
 (.seq (.reg [
 ⟨some 13,.mv (.t 0),none,[]⟩,
 ⟨some 14,.len (.t 13),none,[]⟩,
 ⟨some 15,.conv .u64 (.t 14),none,[]⟩,
 ⟨some 16,.mv (.t 1),none,[]⟩,
 ⟨some 17,.conv .u64 (.t 16),none,[]⟩,
 ⟨some 18,.call 96 [.t 15,.t 17],none,[]⟩,
 ⟨some 12,.mv (.t 18),none,[]⟩,
 ⟨some 19,.ext (.t 12) 0,none,[]⟩,
 ⟨some 20,.ext (.t 12) 1,none,[]⟩,
 ⟨some 5,.mv (.t 19),none,[]⟩,
 ⟨some 6,.mv (.t 20),none,[]⟩])
 (.seq (.seq (.reg [
 ⟨some 21,.mv (.t 5),none,[]⟩,
 ⟨some 22,.bin .gtr (.t 21) (.c (.int .u64 0)),none,[]⟩,
 ⟨some 23,.mv (.t 22),none,[]⟩,
 ⟨some 24,.mv (.t 6),some (23,false),[]⟩,
 ⟨some 25,.bin .gtr (.t 24) (.c (.int .u64 9223372036854775807)),some (23,false),[]⟩,
 ⟨some 26,.pick (.t 23) (.c (.bool true)) (.t 25),none,[]⟩])
 (.cond (.t 26)
 (.reg [
  ⟨some 27,.raw (Go.Op.makeInterface 9 (Go.Operand.const (Go.Value.string { data:=#[116,104,101,32,114,101,115,117,108,116,32,111,102,32,40,108,101,110,40,120,41,32,42,32,99,111,117,110,116,41,32,111,118,101,114,102,108,111,119,115] }))) 20,none,[]⟩,
  ⟨none,.raw (Go.Op.panic (Go.Operand.tmp 27)) 0,none,[]⟩])
 .skip))
 (.seq (.reg [
 ⟨some 28,.mv (.t 6),none,[]⟩,
 ⟨some 29,.conv .i64 (.t 28),none,[]⟩,
 ⟨some 30,.mks 1 8 [.int .i64 0] 3 (.t 29),none,[]⟩,
 ⟨some 7,.mv (.t 30),none,[]⟩])
 (.seq (.reg [
 ⟨some 31,.mv (.t 7),none,[]⟩,
 ⟨some 32,.mv (.t 0),none,[]⟩,
 ⟨some 33,.cpy 1 (.t 31) (.t 32),none,[]⟩,
 ⟨some 8,.mv (.t 33),none,[]⟩])
 (.seq (.block 0 (.loop (.seq (.seq (.reg [
  ⟨some 34,.mv (.t 8),none,[]⟩,
  ⟨some 35,.mv (.t 7),none,[]⟩,
  ⟨some 36,.len (.t 35),none,[]⟩,
  ⟨some 37,.bin .lss (.t 34) (.t 36),none,[]⟩])
  (.cond (.t 37)
  .skip
  (.exit 0)))
  (.block 1 (.regd [1,2,3,4,5,6,0,7,8,9] [
   .op ⟨some 39,.mv (.t 7),none,[]⟩,
   .op ⟨some 40,.mv (.t 8),none,[]⟩,
   .op ⟨some 41,.sub 1 (.t 39) (some (.t 40)) none,none,[1,2]⟩,
   .op ⟨some 42,.mv (.t 7),none,[]⟩,
   .op ⟨some 43,.mv (.t 8),none,[]⟩,
   .op ⟨some 44,.sub 1 (.t 42) none (some (.t 43)),none,[4,5]⟩,
   .hide (.t 41),
   .op ⟨some 38,.mv (.t 8),none,[]⟩] 0 1 [
   ⟨some 45,.cpy 1 (.t 41) (.t 44),none,[3,6]⟩,
   ⟨some 46,.bin .add (.t 38) (.t 45),none,[0,7]⟩,
   ⟨some 8,.mv (.t 46),none,[0,1,2,3,4,5,6,7,8]⟩])))))
 (.seq (.reg [
 ⟨some 47,.mv (.t 7),none,[]⟩,
 ⟨some 4,.mv (.t 47),none,[]⟩])
 .ret))))))))
def r100:List RV:=[.tmp 4]
theorem n100:Try.f100.ntmps = 48:=by kernel_rfl
theorem b100:bodyB Try.prog 100 = true:=by kernel_rfl
theorem c100_ok:cmpC Try.prog c100 ((Try.f100.body).getD .skip) = true:=by kernel_rfl
theorem r100_ok:cmpR Try.prog r100 Try.f100.results.toList = true:=by kernel_rfl
theorem m100 {n0:Nat} {hp0:List (Nat × HB)} {args:List SV} {Post:Ot → Prop} (hh:hpb n0 hp0) (hx:∀ o,Post o → KX o.res ∧ KXP o.hp) (h:sx Try.prog Y0 n0 c100 ⟨enum 0 args,hp0,n0,48,[]⟩ (retM r100 fun o=>∃ o',Post o' ∧ EntO n0 o o')) (hA:Nat.ble args.length 48 = true:=by rfl):CtM Try.prog 100 hp0 n0 args Post:=ctm_intro Try.func100 rfl b100 c100_ok r100_ok n100 (Nat.le_of_ble_eq_true hA) hh hx h
def c105:SC:=(.seq (.reg [
 ⟨some 10,.mv (.t 1),none,[]⟩,
 ⟨some 11,.bin .add (.t 10) (.c (.int .i64 1)),none,[]⟩,
 ⟨some 8,.mv (.t 11),none,[]⟩])
 (.block 0 (.loop (.seq (.seq (.reg [
  ⟨some 12,.mv (.t 8),none,[]⟩,
  ⟨some 13,.mv (.t 2),none,[]⟩,
  ⟨some 14,.bin .lss (.t 12) (.t 13),none,[]⟩])
  (.cond (.t 14)
  .skip
  (.exit 0)))
  (.seq (.block 1 (.seq (.reg [
   ⟨some 17,.mv (.t 8),none,[]⟩,
   ⟨some 9,.mv (.t 17),none,[]⟩])
   (.block 2 (.loop (.seq (.seq (.regd [0,1,2,3,4,5,6,7,8,9,10,11,12,13,14,15,16] [
    .op ⟨some 18,.mv (.t 9),none,[]⟩,
    .op ⟨some 19,.mv (.t 1),none,[]⟩,
    .op ⟨some 20,.bin .gtr (.t 18) (.t 19),none,[0,1]⟩,
    .op ⟨some 21,.mv (.t 20),none,[2]⟩,
    .op ⟨some 22,.mv (.t 3),some (21,true),[3]⟩,
    .op ⟨some 23,.mv (.t 0),some (21,true),[3]⟩,
    .op ⟨some 24,.mv (.t 9),some (21,true),[3]⟩,
    .op ⟨some 25,.ixs (.t 23) (.t 24) 4,some (21,true),[3,5,6]⟩,
    .op ⟨some 26,.ld (.t 25) 4 true,some (21,true),[3,7]⟩,
    .op ⟨some 27,.mv (.t 0),some (21,true),[3]⟩,
    .op ⟨some 28,.mv (.t 9),some (21,true),[3]⟩,
    .op ⟨some 29,.bin .sub (.t 28) (.c (.int .i64 1)),some (21,true),[3,10]⟩,
    .op ⟨some 30,.ixs (.t 27) (.t 29) 4,some (21,true),[3,9,11]⟩,
    .op ⟨some 31,.ld (.t 30) 4 true,some (21,true),[3,12]⟩,
    .op ⟨some 32,.calv (.t 22) [.t 26,.t 31],some (21,true),[3,4,8,13]⟩,
    .op ⟨some 33,.bin .lss (.t 32) (.c (.int .i64 0)),some (21,true),[3,14]⟩,
    .op ⟨some 34,.pick (.t 21) (.t 33) (.c (.bool false)),none,[3,15]⟩] 0 0 [
])
 (.cond (.t 34)
 .skip
 (.exit 2)))
 (.seq (.block 3 (.regd [0,1,5,6,7,8,9,10,11,12,13,14,2,3,4,15,16,17] [
  .op ⟨some 37,.mv (.t 0),none,[]⟩,
  .op ⟨some 38,.mv (.t 9),none,[]⟩,
  .op ⟨some 42,.mv (.t 0),none,[]⟩,
  .op ⟨some 43,.mv (.t 9),none,[]⟩,
  .op ⟨some 44,.bin .sub (.t 43) (.c (.int .i64 1)),none,[6]⟩,
  .op ⟨some 45,.ixs (.t 42) (.t 44) 4,none,[5,7]⟩,
  .op ⟨some 46,.ld (.t 45) 4 true,none,[8]⟩,
  .op ⟨some 47,.mv (.t 0),none,[]⟩,
  .op ⟨some 48,.mv (.t 9),none,[]⟩,
  .op ⟨some 49,.ixs (.t 47) (.t 48) 4,none,[10,11]⟩,
  .op ⟨some 50,.ld (.t 49) 4 true,none,[12]⟩,
  .op ⟨some 51,.ixs (.t 37) (.t 38) 4,none,[0,1,5,6,7,8,9,13]⟩,
  .hide (.t 51),
  .op ⟨some 39,.mv (.t 0),none,[]⟩,
  .op ⟨some 40,.mv (.t 9),none,[]⟩,
  .op ⟨some 41,.bin .sub (.t 40) (.c (.int .i64 1)),none,[3]⟩] 0 1 [
  ⟨none,.st (.t 51) (.t 46) 4,none,[0,1,5,6,7,8,9,13,14]⟩,
  ⟨some 52,.ixs (.t 39) (.t 41) 4,none,[0,1,2,3,4,5,6,7,8,9,10,11,12,13,14,15]⟩,
  ⟨none,.st (.t 52) (.t 50) 4,none,[0,1,2,3,4,5,6,7,8,9,10,11,12,13,14,15,16]⟩]))
 (.reg [
 ⟨some 35,.mv (.t 9),none,[]⟩,
 ⟨some 36,.bin .sub (.t 35) (.c (.int .i64 1)),none,[]⟩,
 ⟨some 9,.mv (.t 36),none,[]⟩])))))))
 (.reg [
 ⟨some 15,.mv (.t 8),none,[]⟩,
 ⟨some 16,.bin .add (.t 15) (.c (.int .i64 1)),none,[]⟩,
 ⟨some 8,.mv (.t 16),none,[]⟩]))))))
def r105:List RV:=[]
theorem n105:Try.f105.ntmps = 53:=by kernel_rfl
theorem b105:bodyB Try.prog 105 = true:=by kernel_rfl
theorem c105_ok:cmpC Try.prog c105 ((Try.f105.body).getD .skip) = true:=by kernel_rfl
theorem r105_ok:cmpR Try.prog r105 Try.f105.results.toList = true:=by kernel_rfl
theorem m105 {n0:Nat} {hp0:List (Nat × HB)} {args:List SV} {Post:Ot → Prop} (hh:hpb n0 hp0) (hx:∀ o,Post o → KX o.res ∧ KXP o.hp) (h:sx Try.prog Y0 n0 c105 ⟨enum 0 args,hp0,n0,53,[]⟩ (retM r105 fun o=>∃ o',Post o' ∧ EntO n0 o o')) (hA:Nat.ble args.length 53 = true:=by rfl):CtM Try.prog 105 hp0 n0 args Post:=ctm_intro Try.func105 rfl b105 c105_ok r105_ok n105 (Nat.le_of_ble_eq_true hA) hh hx h
def c106:SC:=(.seq (.seq (.reg [
 ⟨some 25,.mv (.t 2),none,[]⟩,
 ⟨some 26,.mv (.t 1),none,[]⟩,
 ⟨some 27,.bin .sub (.t 25) (.t 26),none,[]⟩,
 ⟨some 28,.bin .eql (.t 27) (.c (.int .i64 1)),none,[]⟩])
 (.cond (.t 28)
 (.seq (.reg [
  ⟨some 29,.mv (.t 2),none,[]⟩,
  ⟨some 10,.mv (.t 29),none,[]⟩])
  (.seq (.reg [
  ⟨some 30,.mv (.t 3),none,[]⟩,
  ⟨some 11,.mv (.t 30),none,[]⟩])
  (.seq (.block 0 (.loop (.seq (.seq (.reg [
   ⟨some 31,.mv (.t 10),none,[]⟩,
   ⟨some 32,.mv (.t 11),none,[]⟩,
   ⟨some 33,.bin .lss (.t 31) (.t 32),none,[]⟩])
   (.cond (.t 33)
   .skip
   (.exit 0)))
   (.block 1 (.seq (.reg [
    ⟨some 34,.mv (.t 10),none,[]⟩,
    ⟨some 35,.mv (.t 11),none,[]⟩,
    ⟨some 36,.bin .add (.t 34) (.t 35),none,[]⟩,
    ⟨some 37,.conv .u64 (.t 36),none,[]⟩,
    ⟨some 38,.raw (Go.Op.binOp Go.BinOp.shr 153 (Go.Operand.tmp 37) (Go.Operand.const (Go.Value.int Go.IntKind.u64 1)) 153) 153,none,[]⟩,
    ⟨some 39,.conv .i64 (.t 38),none,[]⟩,
    ⟨some 12,.mv (.t 39),none,[]⟩])
    (.seq (.regd [0,1,2,3,4,5,6,7,8,9,10] [
    .op ⟨some 40,.mv (.t 4),none,[]⟩,
    .op ⟨some 41,.mv (.t 0),none,[]⟩,
    .op ⟨some 42,.mv (.t 12),none,[]⟩,
    .op ⟨some 43,.ixs (.t 41) (.t 42) 4,none,[1,2]⟩,
    .op ⟨some 44,.ld (.t 43) 4 true,none,[3]⟩,
    .op ⟨some 45,.mv (.t 0),none,[]⟩,
    .op ⟨some 46,.mv (.t 1),none,[]⟩,
    .op ⟨some 47,.ixs (.t 45) (.t 46) 4,none,[5,6]⟩,
    .op ⟨some 48,.ld (.t 47) 4 true,none,[7]⟩,
    .op ⟨some 49,.calv (.t 40) [.t 44,.t 48],none,[0,4,8]⟩,
    .op ⟨some 50,.bin .lss (.t 49) (.c (.int .i64 0)),none,[9]⟩] 0 0 [
])
 (.cond (.t 50)
 (.reg [
  ⟨some 51,.mv (.t 12),none,[]⟩,
  ⟨some 52,.bin .add (.t 51) (.c (.int .i64 1)),none,[]⟩,
  ⟨some 10,.mv (.t 52),none,[]⟩])
 (.reg [
  ⟨some 53,.mv (.t 12),none,[]⟩,
  ⟨some 11,.mv (.t 53),none,[]⟩]))))))))
 (.seq (.seq (.reg [
 ⟨some 54,.mv (.t 1),none,[]⟩,
 ⟨some 13,.mv (.t 54),none,[]⟩])
 (.block 2 (.loop (.seq (.seq (.reg [
  ⟨some 55,.mv (.t 13),none,[]⟩,
  ⟨some 56,.mv (.t 10),none,[]⟩,
  ⟨some 57,.bin .sub (.t 56) (.c (.int .i64 1)),none,[]⟩,
  ⟨some 58,.bin .lss (.t 55) (.t 57),none,[]⟩])
  (.cond (.t 58)
  .skip
  (.exit 2)))
  (.seq (.block 3 (.regd [0,1,5,6,7,8,9,10,11,12,13,14,2,3,4,15,16,17] [
   .op ⟨some 61,.mv (.t 0),none,[]⟩,
   .op ⟨some 62,.mv (.t 13),none,[]⟩,
   .op ⟨some 66,.mv (.t 0),none,[]⟩,
   .op ⟨some 67,.mv (.t 13),none,[]⟩,
   .op ⟨some 68,.bin .add (.t 67) (.c (.int .i64 1)),none,[6]⟩,
   .op ⟨some 69,.ixs (.t 66) (.t 68) 4,none,[5,7]⟩,
   .op ⟨some 70,.ld (.t 69) 4 true,none,[8]⟩,
   .op ⟨some 71,.mv (.t 0),none,[]⟩,
   .op ⟨some 72,.mv (.t 13),none,[]⟩,
   .op ⟨some 73,.ixs (.t 71) (.t 72) 4,none,[10,11]⟩,
   .op ⟨some 74,.ld (.t 73) 4 true,none,[12]⟩,
   .op ⟨some 75,.ixs (.t 61) (.t 62) 4,none,[0,1,5,6,7,8,9,13]⟩,
   .hide (.t 75),
   .op ⟨some 63,.mv (.t 0),none,[]⟩,
   .op ⟨some 64,.mv (.t 13),none,[]⟩,
   .op ⟨some 65,.bin .add (.t 64) (.c (.int .i64 1)),none,[3]⟩] 0 1 [
   ⟨none,.st (.t 75) (.t 70) 4,none,[0,1,5,6,7,8,9,13,14]⟩,
   ⟨some 76,.ixs (.t 63) (.t 65) 4,none,[0,1,2,3,4,5,6,7,8,9,10,11,12,13,14,15]⟩,
   ⟨none,.st (.t 76) (.t 74) 4,none,[0,1,2,3,4,5,6,7,8,9,10,11,12,13,14,15,16]⟩]))
  (.reg [
  ⟨some 59,.mv (.t 13),none,[]⟩,
  ⟨some 60,.bin .add (.t 59) (.c (.int .i64 1)),none,[]⟩,
  ⟨some 13,.mv (.t 60),none,[]⟩]))))))
 .ret))))
 .skip))
 (.seq (.seq (.reg [
 ⟨some 77,.mv (.t 3),none,[]⟩,
 ⟨some 78,.mv (.t 2),none,[]⟩,
 ⟨some 79,.bin .sub (.t 77) (.t 78),none,[]⟩,
 ⟨some 80,.bin .eql (.t 79) (.c (.int .i64 1)),none,[]⟩])
 (.cond (.t 80)
 (.seq (.reg [
  ⟨some 81,.mv (.t 1),none,[]⟩,
  ⟨some 14,.mv (.t 81),none,[]⟩])
  (.seq (.reg [
  ⟨some 82,.mv (.t 2),none,[]⟩,
  ⟨some 15,.mv (.t 82),none,[]⟩])
  (.seq (.block 4 (.loop (.seq (.seq (.reg [
   ⟨some 83,.mv (.t 14),none,[]⟩,
   ⟨some 84,.mv (.t 15),none,[]⟩,
   ⟨some 85,.bin .lss (.t 83) (.t 84),none,[]⟩])
   (.cond (.t 85)
   .skip
   (.exit 4)))
   (.block 5 (.seq (.reg [
    ⟨some 86,.mv (.t 14),none,[]⟩,
    ⟨some 87,.mv (.t 15),none,[]⟩,
    ⟨some 88,.bin .add (.t 86) (.t 87),none,[]⟩,
    ⟨some 89,.conv .u64 (.t 88),none,[]⟩,
    ⟨some 90,.raw (Go.Op.binOp Go.BinOp.shr 153 (Go.Operand.tmp 89) (Go.Operand.const (Go.Value.int Go.IntKind.u64 1)) 153) 153,none,[]⟩,
    ⟨some 91,.conv .i64 (.t 90),none,[]⟩,
    ⟨some 16,.mv (.t 91),none,[]⟩])
    (.seq (.regd [0,1,2,3,4,5,6,7,8,9,10,11] [
    .op ⟨some 92,.mv (.t 4),none,[]⟩,
    .op ⟨some 93,.mv (.t 0),none,[]⟩,
    .op ⟨some 94,.mv (.t 2),none,[]⟩,
    .op ⟨some 95,.ixs (.t 93) (.t 94) 4,none,[1,2]⟩,
    .op ⟨some 96,.ld (.t 95) 4 true,none,[3]⟩,
    .op ⟨some 97,.mv (.t 0),none,[]⟩,
    .op ⟨some 98,.mv (.t 16),none,[]⟩,
    .op ⟨some 99,.ixs (.t 97) (.t 98) 4,none,[5,6]⟩,
    .op ⟨some 100,.ld (.t 99) 4 true,none,[7]⟩,
    .op ⟨some 101,.calv (.t 92) [.t 96,.t 100],none,[0,4,8]⟩,
    .op ⟨some 102,.bin .lss (.t 101) (.c (.int .i64 0)),none,[9]⟩,
    .op ⟨some 103,.un .not (.t 102),none,[10]⟩] 0 0 [
])
 (.cond (.t 103)
 (.reg [
  ⟨some 104,.mv (.t 16),none,[]⟩,
  ⟨some 105,.bin .add (.t 104) (.c (.int .i64 1)),none,[]⟩,
  ⟨some 14,.mv (.t 105),none,[]⟩])
 (.reg [
  ⟨some 106,.mv (.t 16),none,[]⟩,
  ⟨some 15,.mv (.t 106),none,[]⟩]))))))))
 (.seq (.seq (.reg [
 ⟨some 107,.mv (.t 2),none,[]⟩,
 ⟨some 17,.mv (.t 107),none,[]⟩])
 (.block 6 (.loop (.seq (.seq (.reg [
  ⟨some 108,.mv (.t 17),none,[]⟩,
  ⟨some 109,.mv (.t 14),none,[]⟩,
  ⟨some 110,.bin .gtr (.t 108) (.t 109),none,[]⟩])
  (.cond (.t 110)
  .skip
  (.exit 6)))
  (.seq (.block 7 (.regd [0,1,5,6,7,8,9,10,11,12,13,14,2,3,4,15,16,17] [
   .op ⟨some 113,.mv (.t 0),none,[]⟩,
   .op ⟨some 114,.mv (.t 17),none,[]⟩,
   .op ⟨some 118,.mv (.t 0),none,[]⟩,
   .op ⟨some 119,.mv (.t 17),none,[]⟩,
   .op ⟨some 120,.bin .sub (.t 119) (.c (.int .i64 1)),none,[6]⟩,
   .op ⟨some 121,.ixs (.t 118) (.t 120) 4,none,[5,7]⟩,
   .op ⟨some 122,.ld (.t 121) 4 true,none,[8]⟩,
   .op ⟨some 123,.mv (.t 0),none,[]⟩,
   .op ⟨some 124,.mv (.t 17),none,[]⟩,
   .op ⟨some 125,.ixs (.t 123) (.t 124) 4,none,[10,11]⟩,
   .op ⟨some 126,.ld (.t 125) 4 true,none,[12]⟩,
   .op ⟨some 127,.ixs (.t 113) (.t 114) 4,none,[0,1,5,6,7,8,9,13]⟩,
   .hide (.t 127),
   .op ⟨some 115,.mv (.t 0),none,[]⟩,
   .op ⟨some 116,.mv (.t 17),none,[]⟩,
   .op ⟨some 117,.bin .sub (.t 116) (.c (.int .i64 1)),none,[3]⟩] 0 1 [
   ⟨none,.st (.t 127) (.t 122) 4,none,[0,1,5,6,7,8,9,13,14]⟩,
   ⟨some 128,.ixs (.t 115) (.t 117) 4,none,[0,1,2,3,4,5,6,7,8,9,10,11,12,13,14,15]⟩,
   ⟨none,.st (.t 128) (.t 126) 4,none,[0,1,2,3,4,5,6,7,8,9,10,11,12,13,14,15,16]⟩]))
  (.reg [
  ⟨some 111,.mv (.t 17),none,[]⟩,
  ⟨some 112,.bin .sub (.t 111) (.c (.int .i64 1)),none,[]⟩,
  ⟨some 17,.mv (.t 112),none,[]⟩]))))))
 .ret))))
 .skip))
 (.seq (.reg [
 ⟨some 129,.mv (.t 1),none,[]⟩,
 ⟨some 130,.mv (.t 3),none,[]⟩,
 ⟨some 131,.bin .add (.t 129) (.t 130),none,[]⟩,
 ⟨some 132,.conv .u64 (.t 131),none,[]⟩,
 ⟨some 133,.raw (Go.Op.binOp Go.BinOp.shr 153 (Go.Operand.tmp 132) (Go.Operand.const (Go.Value.int Go.IntKind.u64 1)) 153) 153,none,[]⟩,
 ⟨some 134,.conv .i64 (.t 133),none,[]⟩,
 ⟨some 18,.mv (.t 134),none,[]⟩])
 (.seq (.reg [
 ⟨some 135,.mv (.t 18),none,[]⟩,
 ⟨some 136,.mv (.t 2),none,[]⟩,
 ⟨some 137,.bin .add (.t 135) (.t 136),none,[]⟩,
 ⟨some 19,.mv (.t 137),none,[]⟩])
 (.seq (.reg [
 ⟨some 20,.mv (.c (.int .i64 0)),none,[]⟩,
 ⟨some 21,.mv (.c (.int .i64 0)),none,[]⟩])
 (.seq (.seq (.reg [
 ⟨some 138,.mv (.t 2),none,[]⟩,
 ⟨some 139,.mv (.t 18),none,[]⟩,
 ⟨some 140,.bin .gtr (.t 138) (.t 139),none,[]⟩])
 (.cond (.t 140)
 (.seq (.reg [
  ⟨some 141,.mv (.t 19),none,[]⟩,
  ⟨some 142,.mv (.t 3),none,[]⟩,
  ⟨some 143,.bin .sub (.t 141) (.t 142),none,[]⟩,
  ⟨some 20,.mv (.t 143),none,[]⟩])
  (.reg [
  ⟨some 144,.mv (.t 18),none,[]⟩,
  ⟨some 21,.mv (.t 144),none,[]⟩]))
 (.seq (.reg [
  ⟨some 145,.mv (.t 1),none,[]⟩,
  ⟨some 20,.mv (.t 145),none,[]⟩])
  (.reg [
  ⟨some 146,.mv (.t 2),none,[]⟩,
  ⟨some 21,.mv (.t 146),none,[]⟩]))))
 (.seq (.reg [
 ⟨some 147,.mv (.t 19),none,[]⟩,
 ⟨some 148,.bin .sub (.t 147) (.c (.int .i64 1)),none,[]⟩,
 ⟨some 22,.mv (.t 148),none,[]⟩])
 (.seq (.block 8 (.loop (.seq (.seq (.reg [
  ⟨some 149,.mv (.t 20),none,[]⟩,
  ⟨some 150,.mv (.t 21),none,[]⟩,
  ⟨some 151,.bin .lss (.t 149) (.t 150),none,[]⟩])
  (.cond (.t 151)
  .skip
  (.exit 8)))
  (.block 9 (.seq (.reg [
   ⟨some 152,.mv (.t 20),none,[]⟩,
   ⟨some 153,.mv (.t 21),none,[]⟩,
   ⟨some 154,.bin .add (.t 152) (.t 153),none,[]⟩,
   ⟨some 155,.conv .u64 (.t 154),none,[]⟩,
   ⟨some 156,.raw (Go.Op.binOp Go.BinOp.shr 153 (Go.Operand.tmp 155) (Go.Operand.const (Go.Value.int Go.IntKind.u64 1)) 153) 153,none,[]⟩,
   ⟨some 157,.conv .i64 (.t 156),none,[]⟩,
   ⟨some 23,.mv (.t 157),none,[]⟩])
   (.seq (.regd [0,1,2,3,4,5,6,7,8,9,10,11,12,13] [
   .op ⟨some 158,.mv (.t 4),none,[]⟩,
   .op ⟨some 159,.mv (.t 0),none,[]⟩,
   .op ⟨some 160,.mv (.t 22),none,[]⟩,
   .op ⟨some 161,.mv (.t 23),none,[]⟩,
   .op ⟨some 162,.bin .sub (.t 160) (.t 161),none,[2,3]⟩,
   .op ⟨some 163,.ixs (.t 159) (.t 162) 4,none,[1,4]⟩,
   .op ⟨some 164,.ld (.t 163) 4 true,none,[5]⟩,
   .op ⟨some 165,.mv (.t 0),none,[]⟩,
   .op ⟨some 166,.mv (.t 23),none,[]⟩,
   .op ⟨some 167,.ixs (.t 165) (.t 166) 4,none,[7,8]⟩,
   .op ⟨some 168,.ld (.t 167) 4 true,none,[9]⟩,
   .op ⟨some 169,.calv (.t 158) [.t 164,.t 168],none,[0,6,10]⟩,
   .op ⟨some 170,.bin .lss (.t 169) (.c (.int .i64 0)),none,[11]⟩,
   .op ⟨some 171,.un .not (.t 170),none,[12]⟩] 0 0 [
])
 (.cond (.t 171)
 (.reg [
  ⟨some 172,.mv (.t 23),none,[]⟩,
  ⟨some 173,.bin .add (.t 172) (.c (.int .i64 1)),none,[]⟩,
  ⟨some 20,.mv (.t 173),none,[]⟩])
 (.reg [
  ⟨some 174,.mv (.t 23),none,[]⟩,
  ⟨some 21,.mv (.t 174),none,[]⟩]))))))))
 (.seq (.reg [
 ⟨some 175,.mv (.t 19),none,[]⟩,
 ⟨some 176,.mv (.t 20),none,[]⟩,
 ⟨some 177,.bin .sub (.t 175) (.t 176),none,[]⟩,
 ⟨some 24,.mv (.t 177),none,[]⟩])
 (.seq (.seq (.reg [
 ⟨some 178,.mv (.t 20),none,[]⟩,
 ⟨some 179,.mv (.t 2),none,[]⟩,
 ⟨some 180,.bin .lss (.t 178) (.t 179),none,[]⟩,
 ⟨some 181,.mv (.t 180),none,[]⟩,
 ⟨some 182,.mv (.t 2),some (181,true),[]⟩,
 ⟨some 183,.mv (.t 24),some (181,true),[]⟩,
 ⟨some 184,.bin .lss (.t 182) (.t 183),some (181,true),[]⟩,
 ⟨some 185,.pick (.t 181) (.t 184) (.c (.bool false)),none,[]⟩])
 (.cond (.t 185)
 (.reg [
  ⟨some 186,.mv (.t 0),none,[]⟩,
  ⟨some 187,.mv (.t 20),none,[]⟩,
  ⟨some 188,.mv (.t 2),none,[]⟩,
  ⟨some 189,.mv (.t 24),none,[]⟩,
  ⟨some 190,.mv (.t 4),none,[]⟩,
  ⟨some 191,.callm 107 [.t 186,.t 187,.t 188,.t 189,.t 190],none,[]⟩])
 .skip))
 (.seq (.seq (.reg [
 ⟨some 192,.mv (.t 1),none,[]⟩,
 ⟨some 193,.mv (.t 20),none,[]⟩,
 ⟨some 194,.bin .lss (.t 192) (.t 193),none,[]⟩,
 ⟨some 195,.mv (.t 194),none,[]⟩,
 ⟨some 196,.mv (.t 20),some (195,true),[]⟩,
 ⟨some 197,.mv (.t 18),some (195,true),[]⟩,
 ⟨some 198,.bin .lss (.t 196) (.t 197),some (195,true),[]⟩,
 ⟨some 199,.pick (.t 195) (.t 198) (.c (.bool false)),none,[]⟩])
 (.cond (.t 199)
 (.reg [
  ⟨some 200,.mv (.t 0),none,[]⟩,
  ⟨some 201,.mv (.t 1),none,[]⟩,
  ⟨some 202,.mv (.t 20),none,[]⟩,
  ⟨some 203,.mv (.t 18),none,[]⟩,
  ⟨some 204,.mv (.t 4),none,[]⟩,
  ⟨some 205,.callm 106 [.t 200,.t 201,.t 202,.t 203,.t 204],none,[]⟩])
 .skip))
 (.seq (.reg [
 ⟨some 206,.mv (.t 18),none,[]⟩,
 ⟨some 207,.mv (.t 24),none,[]⟩,
 ⟨some 208,.bin .lss (.t 206) (.t 207),none,[]⟩,
 ⟨some 209,.mv (.t 208),none,[]⟩,
 ⟨some 210,.mv (.t 24),some (209,true),[]⟩,
 ⟨some 211,.mv (.t 3),some (209,true),[]⟩,
 ⟨some 212,.bin .lss (.t 210) (.t 211),some (209,true),[]⟩,
 ⟨some 213,.pick (.t 209) (.t 212) (.c (.bool false)),none,[]⟩])
 (.cond (.t 213)
 (.reg [
  ⟨some 214,.mv (.t 0),none,[]⟩,
  ⟨some 215,.mv (.t 18),none,[]⟩,
  ⟨some 216,.mv (.t 24),none,[]⟩,
  ⟨some 217,.mv (.t 3),none,[]⟩,
  ⟨some 218,.mv (.t 4),none,[]⟩,
  ⟨some 219,.callm 106 [.t 214,.t 215,.t 216,.t 217,.t 218],none,[]⟩])
 .skip)))))))))))))
def r106:List RV:=[]
theorem n106:Try.f106.ntmps = 220:=by kernel_rfl
theorem b106:bodyB Try.prog 106 = true:=by kernel_rfl
theorem c106_ok:cmpC Try.prog c106 ((Try.f106.body).getD .skip) = true:=by kernel_rfl
theorem r106_ok:cmpR Try.prog r106 Try.f106.results.toList = true:=by kernel_rfl
theorem m106 {n0:Nat} {hp0:List (Nat × HB)} {args:List SV} {Post:Ot → Prop} (hh:hpb n0 hp0) (hx:∀ o,Post o → KX o.res ∧ KXP o.hp) (h:sx Try.prog Y0 n0 c106 ⟨enum 0 args,hp0,n0,220,[]⟩ (retM r106 fun o=>∃ o',Post o' ∧ EntO n0 o o')) (hA:Nat.ble args.length 220 = true:=by rfl):CtM Try.prog 106 hp0 n0 args Post:=ctm_intro Try.func106 rfl b106 c106_ok r106_ok n106 (Nat.le_of_ble_eq_true hA) hh hx h
def c107:SC:=(.seq (.reg [
 ⟨some 12,.mv (.t 2),none,[]⟩,
 ⟨some 13,.mv (.t 1),none,[]⟩,
 ⟨some 14,.bin .sub (.t 12) (.t 13),none,[]⟩,
 ⟨some 10,.mv (.t 14),none,[]⟩])
 (.seq (.reg [
 ⟨some 15,.mv (.t 3),none,[]⟩,
 ⟨some 16,.mv (.t 2),none,[]⟩,
 ⟨some 17,.bin .sub (.t 15) (.t 16),none,[]⟩,
 ⟨some 11,.mv (.t 17),none,[]⟩])
 (.seq (.block 0 (.loop (.seq (.seq (.reg [
  ⟨some 18,.mv (.t 10),none,[]⟩,
  ⟨some 19,.mv (.t 11),none,[]⟩,
  ⟨some 20,.bin .neq (.t 18) (.t 19),none,[]⟩])
  (.cond (.t 20)
  .skip
  (.exit 0)))
  (.block 1 (.seq (.reg [
   ⟨some 21,.mv (.t 10),none,[]⟩,
   ⟨some 22,.mv (.t 11),none,[]⟩,
   ⟨some 23,.bin .gtr (.t 21) (.t 22),none,[]⟩])
   (.cond (.t 23)
   (.seq (.reg [
    ⟨some 24,.mv (.t 0),none,[]⟩,
    ⟨some 25,.mv (.t 2),none,[]⟩,
    ⟨some 26,.mv (.t 10),none,[]⟩,
    ⟨some 27,.bin .sub (.t 25) (.t 26),none,[]⟩,
    ⟨some 28,.mv (.t 2),none,[]⟩,
    ⟨some 29,.mv (.t 11),none,[]⟩,
    ⟨some 30,.mv (.t 4),none,[]⟩,
    ⟨some 31,.callm 108 [.t 24,.t 27,.t 28,.t 29,.t 30],none,[]⟩])
    (.reg [
    ⟨some 32,.mv (.t 10),none,[]⟩,
    ⟨some 33,.mv (.t 11),none,[]⟩,
    ⟨some 34,.bin .sub (.t 32) (.t 33),none,[]⟩,
    ⟨some 10,.mv (.t 34),none,[]⟩]))
   (.seq (.reg [
    ⟨some 35,.mv (.t 0),none,[]⟩,
    ⟨some 36,.mv (.t 2),none,[]⟩,
    ⟨some 37,.mv (.t 10),none,[]⟩,
    ⟨some 38,.bin .sub (.t 36) (.t 37),none,[]⟩,
    ⟨some 39,.mv (.t 2),none,[]⟩,
    ⟨some 40,.mv (.t 11),none,[]⟩,
    ⟨some 41,.bin .add (.t 39) (.t 40),none,[]⟩,
    ⟨some 42,.mv (.t 10),none,[]⟩,
    ⟨some 43,.bin .sub (.t 41) (.t 42),none,[]⟩,
    ⟨some 44,.mv (.t 10),none,[]⟩,
    ⟨some 45,.mv (.t 4),none,[]⟩,
    ⟨some 46,.callm 108 [.t 35,.t 38,.t 43,.t 44,.t 45],none,[]⟩])
    (.reg [
    ⟨some 47,.mv (.t 11),none,[]⟩,
    ⟨some 48,.mv (.t 10),none,[]⟩,
    ⟨some 49,.bin .sub (.t 47) (.t 48),none,[]⟩,
    ⟨some 11,.mv (.t 49),none,[]⟩]))))))))
 (.reg [
 ⟨some 50,.mv (.t 0),none,[]⟩,
 ⟨some 51,.mv (.t 2),none,[]⟩,
 ⟨some 52,.mv (.t 10),none,[]⟩,
 ⟨some 53,.bin .sub (.t 51) (.t 52),none,[]⟩,
 ⟨some 54,.mv (.t 2),none,[]⟩,
 ⟨some 55,.mv (.t 10),none,[]⟩,
 ⟨some 56,.mv (.t 4),none,[]⟩,
 ⟨some 57,.callm 108 [.t 50,.t 53,.t 54,.t 55,.t 56],none,[]⟩]))))
def r107:List RV:=[]
theorem n107:Try.f107.ntmps = 58:=by kernel_rfl
theorem b107:bodyB Try.prog 107 = true:=by kernel_rfl
theorem c107_ok:cmpC Try.prog c107 ((Try.f107.body).getD .skip) = true:=by kernel_rfl
theorem r107_ok:cmpR Try.prog r107 Try.f107.results.toList = true:=by kernel_rfl
theorem m107 {n0:Nat} {hp0:List (Nat × HB)} {args:List SV} {Post:Ot → Prop} (hh:hpb n0 hp0) (hx:∀ o,Post o → KX o.res ∧ KXP o.hp) (h:sx Try.prog Y0 n0 c107 ⟨enum 0 args,hp0,n0,58,[]⟩ (retM r107 fun o=>∃ o',Post o' ∧ EntO n0 o o')) (hA:Nat.ble args.length 58 = true:=by rfl):CtM Try.prog 107 hp0 n0 args Post:=ctm_intro Try.func107 rfl b107 c107_ok r107_ok n107 (Nat.le_of_ble_eq_true hA) hh hx h
def c108:SC:=(.seq (.reg [
 ⟨some 10,.mv (.c (.int .i64 0)),none,[]⟩])
 (.block 0 (.loop (.seq (.seq (.reg [
  ⟨some 11,.mv (.t 10),none,[]⟩,
  ⟨some 12,.mv (.t 3),none,[]⟩,
  ⟨some 13,.bin .lss (.t 11) (.t 12),none,[]⟩])
  (.cond (.t 13)
  .skip
  (.exit 0)))
  (.seq (.block 1 (.regd [0,1,2,3,8,9,10,11,12,13,14,15,16,17,18,19,20,4,5,6,7,21,22,23] [
   .op ⟨some 16,.mv (.t 0),none,[]⟩,
   .op ⟨some 17,.mv (.t 1),none,[]⟩,
   .op ⟨some 18,.mv (.t 10),none,[]⟩,
   .op ⟨some 19,.bin .add (.t 17) (.t 18),none,[1,2]⟩,
   .op ⟨some 24,.mv (.t 0),none,[]⟩,
   .op ⟨some 25,.mv (.t 2),none,[]⟩,
   .op ⟨some 26,.mv (.t 10),none,[]⟩,
   .op ⟨some 27,.bin .add (.t 25) (.t 26),none,[9,10]⟩,
   .op ⟨some 28,.ixs (.t 24) (.t 27) 4,none,[8,11]⟩,
   .op ⟨some 29,.ld (.t 28) 4 true,none,[12]⟩,
   .op ⟨some 30,.mv (.t 0),none,[]⟩,
   .op ⟨some 31,.mv (.t 1),none,[]⟩,
   .op ⟨some 32,.mv (.t 10),none,[]⟩,
   .op ⟨some 33,.bin .add (.t 31) (.t 32),none,[15,16]⟩,
   .op ⟨some 34,.ixs (.t 30) (.t 33) 4,none,[14,17]⟩,
   .op ⟨some 35,.ld (.t 34) 4 true,none,[18]⟩,
   .op ⟨some 36,.ixs (.t 16) (.t 19) 4,none,[0,1,2,3,8,9,10,11,12,13,19]⟩,
   .hide (.t 36),
   .op ⟨some 20,.mv (.t 0),none,[]⟩,
   .op ⟨some 21,.mv (.t 2),none,[]⟩,
   .op ⟨some 22,.mv (.t 10),none,[]⟩,
   .op ⟨some 23,.bin .add (.t 21) (.t 22),none,[5,6]⟩] 0 1 [
   ⟨none,.st (.t 36) (.t 29) 4,none,[0,1,2,3,8,9,10,11,12,13,19,20]⟩,
   ⟨some 37,.ixs (.t 20) (.t 23) 4,none,[0,1,2,3,4,5,6,7,8,9,10,11,12,13,14,15,16,17,18,19,20,21]⟩,
   ⟨none,.st (.t 37) (.t 35) 4,none,[0,1,2,3,4,5,6,7,8,9,10,11,12,13,14,15,16,17,18,19,20,21,22]⟩]))
  (.reg [
  ⟨some 14,.mv (.t 10),none,[]⟩,
  ⟨some 15,.bin .add (.t 14) (.c (.int .i64 1)),none,[]⟩,
  ⟨some 10,.mv (.t 15),none,[]⟩]))))))
def r108:List RV:=[]
theorem n108:Try.f108.ntmps = 38:=by kernel_rfl
theorem b108:bodyB Try.prog 108 = true:=by kernel_rfl
theorem c108_ok:cmpC Try.prog c108 ((Try.f108.body).getD .skip) = true:=by kernel_rfl
theorem r108_ok:cmpR Try.prog r108 Try.f108.results.toList = true:=by kernel_rfl
theorem m108 {n0:Nat} {hp0:List (Nat × HB)} {args:List SV} {Post:Ot → Prop} (hh:hpb n0 hp0) (hx:∀ o,Post o → KX o.res ∧ KXP o.hp) (h:sx Try.prog Y0 n0 c108 ⟨enum 0 args,hp0,n0,38,[]⟩ (retM r108 fun o=>∃ o',Post o' ∧ EntO n0 o o')) (hA:Nat.ble args.length 38 = true:=by rfl):CtM Try.prog 108 hp0 n0 args Post:=ctm_intro Try.func108 rfl b108 c108_ok r108_ok n108 (Nat.le_of_ble_eq_true hA) hh hx h
end Go.Proofs.Ytnlfjchbhgikaaa
namespace Go.Azalai
section
variable {α : Type} (key:α → Int)
def ky (l:List α) (i:Nat):Int:=match l[i]? with | some x=>key x | none=>0
def swp (l:List α) (i j:Nat):List α:=match l[i]?,l[j]? with | some x,some y=>(l.set i y).set j x | _,_=>l
theorem swp_eq {l:List α} {i j:Nat} (hi:i < l.length) (hj:j < l.length):swp l i j = (l.set i l[j]).set j l[i]:=by
 unfold swp;rw [List.getElem?_eq_getElem hi,List.getElem?_eq_getElem hj]
theorem swp_len (l:List α) (i j:Nat):(swp l i j).length = l.length:=by unfold swp;split <;> simp
theorem swp_get {l:List α} {i j:Nat} (hi:i < l.length) (hj:j < l.length) (p:Nat):(swp l i j)[p]? = if p = i then l[j]? else if p = j then l[i]? else l[p]?:=by
 rw [swp_eq hi hj]
 by_cases h1:p = j
 · subst h1
   by_cases h2:p = i
   · subst h2;simp [hi]
   · simp [h2,hi,hj]
 · rw [List.getElem?_set_ne (Ne.symm h1)]
   by_cases h2:p = i
   · subst h2;simp [hi,hj]
   · rw [List.getElem?_set_ne (Ne.symm h2),if_neg h2,if_neg h1]
theorem swp_perm {l:List α} {i j:Nat} (hi:i < l.length) (hj:j < l.length):(swp l i j).Perm l:=by
 rw [swp_eq hi hj];exact List.set_set_perm hi hj
theorem swp_ky {l:List α} {i j:Nat} (hi:i < l.length) (hj:j < l.length) (p:Nat):ky key (swp l i j) p = if p = i then ky key l j else if p = j then ky key l i else ky key l p:=by
 unfold ky;rw [swp_get hi hj]
 by_cases h1:p = i
 · simp only [if_pos h1]
 · by_cases h2:p = j
   · simp only [if_neg h1,if_pos h2]
   · simp only [if_neg h1,if_neg h2]
structure PIn (a b:Nat) (l l':List α):Prop where
 len:l'.length = l.length
 perm:l'.Perm l
 out:∀ i,i < a ∨ b ≤ i → l'[i]? = l[i]?
 all:∀ p:α → Prop,(∀ i x,a ≤ i → i < b → l[i]? = some x → p x) → ∀ i x,a ≤ i → i < b → l'[i]? = some x → p x
theorem PIn.refl (a b:Nat) (l:List α):PIn a b l l:=⟨rfl,.refl _,fun _ _=>rfl,fun _ h=>h⟩
theorem PIn.trans {a b:Nat} {l l' l'':List α} (h:PIn a b l l') (h':PIn a b l' l''):PIn a b l l'' :=
 ⟨h'.len.trans h.len,h'.perm.trans h.perm,fun i hi=>(h'.out i hi).trans (h.out i hi),fun p hp=>h'.all p (h.all p hp)⟩
theorem PIn.mono {a b a' b':Nat} {l l':List α} (h:PIn a b l l') (ha:a' ≤ a) (hb:b ≤ b'):PIn a' b' l l':=by
 refine ⟨h.len,h.perm,fun i hi=>h.out i (by omega),fun p hp i x h1 h2 hx=>?_⟩
 by_cases hi:a ≤ i ∧ i < b
 · exact h.all p (fun i x q1 q2=>hp i x (by omega) (by omega)) i x hi.1 hi.2 hx
 · rw [h.out i (by omega)] at hx;exact hp i x h1 h2 hx
theorem PIn.swap {a b i j:Nat} {l:List α} (hi:a ≤ i) (hi':i < b) (hj:a ≤ j) (hj':j < b) (hb:b ≤ l.length):PIn a b l (swp l i j):=by
 have h1:i < l.length:=by omega
 have h2:j < l.length:=by omega
 refine ⟨swp_len _ _ _,swp_perm h1 h2,fun p hp=>?_,fun q hq p x g1 g2 hx=>?_⟩
 · rw [swp_get h1 h2,if_neg (by omega),if_neg (by omega)]
 · rw [swp_get h1 h2] at hx
   split at hx
   · exact hq j x hj hj' hx
   · split at hx
     · exact hq i x hi hi' hx
     · exact hq p x g1 g2 hx
theorem PIn.ky {a b:Nat} {l l':List α} (h:PIn a b l l') {i:Nat} (hi:i < a ∨ b ≤ i):ky key l' i = ky key l i:=by unfold Go.Azalai.ky;rw [h.out i hi]
theorem PIn.kall {a b:Nat} {l l':List α} (h:PIn a b l l') (hb:b ≤ l.length) (p:Int → Prop) (hp:∀ i,a ≤ i → i < b → p (Go.Azalai.ky key l i)):∀ i,a ≤ i → i < b → p (Go.Azalai.ky key l' i):=fun i h1 h2=>by
 have hl:i < l'.length:=by rw [h.len];omega
 have:=h.all (fun x=>p (key x)) (fun i x q1 q2 hx=>by have:=hp i q1 q2;unfold Go.Azalai.ky at this;rw [hx] at this;exact this) i l'[i] h1 h2 (List.getElem?_eq_getElem hl)
 unfold Go.Azalai.ky;rw [List.getElem?_eq_getElem hl];exact this
def Srt (a b:Nat) (l:List α):Prop:=∀ i j,a ≤ i → i < j → j < b → ky key l i ≤ ky key l j
theorem Srt.le {a b:Nat} {l:List α} (h:Srt key a b l) {i j:Nat} (h1:a ≤ i) (h2:i ≤ j) (h3:j < b):ky key l i ≤ ky key l j:=by
 rcases Nat.lt_or_ge i j with q | q
 · exact h i j h1 q h3
 · rw [show i = j from by omega];exact Int.le_refl _
theorem Srt.join {a c b:Nat} {l:List α} (h1:Srt key a c l) (h2:Srt key c b l) (h:∀ i j,a ≤ i → i < c → c ≤ j → j < b → ky key l i ≤ ky key l j):Srt key a b l:=fun i j g1 g2 g3=>by
 by_cases hj:j < c
 · exact h1 i j g1 g2 hj
 · by_cases hi:i < c
   · exact h i j g1 hi (by omega) g3
   · exact h2 i j (by omega) g2 g3
structure Ins1 (a i j:Nat) (l:List α):Prop where
 up:∀ p q,a ≤ p → p < q → q ≤ i → p ≠ j → q ≠ j → ky key l p ≤ ky key l q
 lo:∀ q,j < q → q ≤ i → ky key l j ≤ ky key l q
theorem ins_start {a i:Nat} {l:List α} (h:Srt key a i l):Ins1 key a i i l:=⟨fun p q h1 h2 h3 h4 h5=>h p q h1 h2 (by omega),fun q h1 h2=>by omega⟩
theorem ins_step {a i j:Nat} {l:List α} (h:Ins1 key a i j l) (hj:a < j) (hji:j ≤ i) (hl:i < l.length) (hk:ky key l j < ky key l (j - 1)):Ins1 key a i (j - 1) (swp l j (j - 1)):=by
 have e:=swp_ky key (l:=l) (i:=j) (j:=j - 1) (by omega) (by omega)
 refine ⟨fun p q h1 h2 h3 h4 h5=>?_,fun q h1 h2=>?_⟩
 · rw [e,e,if_neg (c:=p = j - 1) (by omega),if_neg (c:=q = j - 1) (by omega)]
   by_cases hp:p = j
   · subst hp;rw [if_pos rfl,if_neg (by omega)];exact h.up _ _ (by omega) (by omega) h3 (by omega) (by omega)
   · rw [if_neg hp]
     by_cases hq:q = j
     · subst hq;rw [if_pos rfl];exact h.up _ _ h1 (by omega) (by omega) (by omega) (by omega)
     · rw [if_neg hq];exact h.up _ _ h1 h2 h3 hp hq
 · rw [e,e,if_neg (c:=j - 1 = j) (by omega),if_pos rfl]
   by_cases hq:q = j
   · subst hq;rw [if_pos rfl];omega
   · rw [if_neg hq,if_neg (by omega)];exact h.lo q (by omega) h2
theorem ins_end {a i j:Nat} {l:List α} (h:Ins1 key a i j l) (hji:j ≤ i) (hj:j ≤ a ∨ ky key l (j - 1) ≤ ky key l j):Srt key a (i + 1) l:=fun p q h1 h2 h3=>by
 by_cases hp:p = j
 · subst hp;exact h.lo q h2 (by omega)
 · by_cases hq:q = j
   · subst hq
     rcases hj with hj | hj
     · omega
     · by_cases hp1:p = q - 1
       · rw [hp1];exact hj
       · have:=h.up p (q - 1) h1 (by omega) (by omega) hp (by omega)
         omega
   · exact h.up p q h1 h2 (by omega) hp hq
end
end Go.Azalai
namespace Go.Azalai
def swR (a b n:Nat) (K:Nat → Int):Nat → Int:=fun p=>if a ≤ p ∧ p < a + n then K (p + b - a) else if b ≤ p ∧ p < b + n then K (p + a - b) else K p
def rotT (a m b:Nat) (K:Nat → Int):Nat → Int:=fun p=>if a ≤ p ∧ p < a + (b - m) then K (p + (m - a)) else if a + (b - m) ≤ p ∧ p < b then K (p - (b - m)) else K p
theorem swR_0 (a b:Nat) (K:Nat → Int) (p:Nat):swR a b 0 K p = K p:=by
 unfold swR;rw [if_neg (by omega),if_neg (by omega)]
theorem swR_succ {a b n:Nat} {K:Nat → Int} (hab:a + n < b) (p:Nat):swR a b (n + 1) K p = if p = a + n then swR a b n K (b + n) else if p = b + n then swR a b n K (a + n) else swR a b n K p:=by
 unfold swR
 by_cases h1:p = a + n
 · subst h1
   rw [if_pos (by omega),if_pos rfl,if_neg (by omega),if_neg (by omega)];congr 1;omega
 · rw [if_neg h1]
   by_cases h2:p = b + n
   · subst h2
     rw [if_neg (by omega),if_pos (by omega),if_pos rfl,if_neg (by omega),if_neg (by omega)];congr 1;omega
   · rw [if_neg h2]
     by_cases h3:a ≤ p ∧ p < a + n
     · rw [if_pos (by omega),if_pos h3]
     · rw [if_neg (by omega),if_neg h3]
       by_cases h4:b ≤ p ∧ p < b + n
       · rw [if_pos (by omega),if_pos h4]
       · rw [if_neg (by omega),if_neg h4]
structure RotI (m i j:Nat) (K T:Nat → Int):Prop where
 out:∀ p,p < m - i ∨ m + j ≤ p → K p = T p
 x:∀ p,m - i ≤ p → p < m - i + j → T p = K (p + i)
 y:∀ p,m - i + j ≤ p → p < m + j → T p = K (p - j)
theorem rot_start {a m b:Nat} {K:Nat → Int} (h1:a ≤ m) (h2:m ≤ b):RotI m (m - a) (b - m) K (rotT a m b K):=by
 have e:m - (m - a) = a:=by omega
 refine ⟨fun p hp=>?_,fun p q1 q2=>?_,fun p q1 q2=>?_⟩ <;> unfold rotT <;> rw [e] at *
 · rw [if_neg (by omega),if_neg (by omega)]
 · rw [if_pos (by omega)]
 · rw [if_neg (by omega),if_pos (by omega)]
theorem rot_gt {m i j:Nat} {K T:Nat → Int} (h:RotI m i j K T) (hi:i ≤ m) (hj:0 < j) (hij:j < i):RotI m (i - j) j (swR (m - i) m j K) T:=by
 refine ⟨fun p hp=>?_,fun p q1 q2=>?_,fun p q1 q2=>?_⟩ <;> unfold swR
 · by_cases h1:m - i ≤ p ∧ p < m - i + j
   · rw [if_pos h1,h.x p h1.1 h1.2];congr 1;omega
   · rw [if_neg h1,if_neg (by omega)];exact h.out p (by omega)
 · rw [if_neg (by omega),if_pos (by omega),h.y p (by omega) (by omega)];congr 1;omega
 · rw [if_neg (by omega),if_neg (by omega),h.y p (by omega) (by omega)]
theorem rot_lt {m i j:Nat} {K T:Nat → Int} (h:RotI m i j K T) (hi:i ≤ m) (hi0:0 < i) (hij:i < j):RotI m i (j - i) (swR (m - i) (m + j - i) i K) T:=by
 refine ⟨fun p hp=>?_,fun p q1 q2=>?_,fun p q1 q2=>?_⟩ <;> unfold swR
 · by_cases h1:m + j - i ≤ p ∧ p < m + j
   · rw [if_neg (by omega),if_pos (by omega),h.y p (by omega) (by omega)];congr 1;omega
   · rw [if_neg (by omega),if_neg (by omega)];exact h.out p (by omega)
 · rw [if_neg (by omega),if_neg (by omega)];exact h.x p (by omega) (by omega)
 · rw [if_pos (by omega),h.x p (by omega) (by omega)];congr 1;omega
theorem rot_eq {m i:Nat} {K T:Nat → Int} (h:RotI m i i K T) (hi:i ≤ m) (p:Nat):swR (m - i) m i K p = T p:=by
 unfold swR
 by_cases h1:m - i ≤ p ∧ p < m - i + i
 · rw [if_pos h1,h.x p h1.1 h1.2];congr 1;omega
 · by_cases h2:m ≤ p ∧ p < m + i
   · rw [if_neg h1,if_pos h2,h.y p (by omega) (by omega)];congr 1;omega
   · rw [if_neg h1,if_neg h2];exact h.out p (by omega)
def SrtK (a b:Nat) (K:Nat → Int):Prop:=∀ i j,a ≤ i → i < j → j < b → K i ≤ K j
theorem SrtK.le {a b:Nat} {K:Nat → Int} (h:SrtK a b K) {i j:Nat} (h1:a ≤ i) (h2:i ≤ j) (h3:j < b):K i ≤ K j:=by
 rcases Nat.lt_or_ge i j with q | q
 · exact h i j h1 q h3
 · rw [show i = j from by omega];exact Int.le_refl _
structure Cut (a m b n s:Nat) (K:Nat → Int):Prop where
 s0:a ≤ s
 s1:s ≤ m
 e0:m + s ≤ n
 e1:n ≤ b + s
 mid:2 * (n - m) ≤ a + b ∧ a + b ≤ 2 * (n - m) + 1
 lo:a < s → n < b + s → K (s - 1) ≤ K (n - s)
 hi:s < m → m + s < n → K (n - s - 1) ≤ K s
theorem cut_ok {a m b n s:Nat} {K:Nat → Int} (h:Cut a m b n s K) (h1:SrtK a m K) (h2:SrtK m b K) :
 SrtK a s (rotT s m (n - s) K) ∧ SrtK s (n - m) (rotT s m (n - s) K) ∧ SrtK (n - m) (n - s) (rotT s m (n - s) K) ∧ SrtK (n - s) b (rotT s m (n - s) K) ∧
  ∀ i j,a ≤ i → i < n - m → n - m ≤ j → j < b → rotT s m (n - s) K i ≤ rotT s m (n - s) K j:=by
 obtain ⟨q1,q2,q3,q4,q5,q6,q7⟩:=h
 have e:s + (n - s - m) = n - m:=by omega
 have v1:∀ p,p < s → rotT s m (n - s) K p = K p:=fun p hp=>by unfold rotT;rw [if_neg (by omega),if_neg (by omega)]
 have v2:∀ p,s ≤ p → p < n - m → rotT s m (n - s) K p = K (p + (m - s)):=fun p g1 g2=>by unfold rotT;rw [if_pos (by omega)]
 have v3:∀ p,n - m ≤ p → p < n - s → rotT s m (n - s) K p = K (p - (n - s - m)):=fun p g1 g2=>by unfold rotT;rw [if_neg (by omega),if_pos (by omega)]
 have v4:∀ p,n - s ≤ p → rotT s m (n - s) K p = K p:=fun p g1=>by unfold rotT;rw [if_neg (by omega),if_neg (by omega)]
 refine ⟨fun i j g1 g2 g3=>?_,fun i j g1 g2 g3=>?_,fun i j g1 g2 g3=>?_,fun i j g1 g2 g3=>?_,fun i j g1 g2 g3 g4=>?_⟩
 · rw [v1 i (by omega),v1 j (by omega)];exact h1 i j g1 g2 (by omega)
 · rw [v2 i (by omega) (by omega),v2 j (by omega) (by omega)];exact h2 _ _ (by omega) (by omega) (by omega)
 · rw [v3 i (by omega) (by omega),v3 j (by omega) (by omega)];exact h1 _ _ (by omega) (by omega) (by omega)
 · rw [v4 i (by omega),v4 j (by omega)];exact h2 _ _ (by omega) g2 g3
 · by_cases hi:i < s
   · rw [v1 i hi]
     by_cases hj:j < n - s
     · rw [v3 j g3 hj];exact h1.le g1 (by omega) (by omega)
     · rw [v4 j (by omega)]
       exact Int.le_trans (h1.le g1 (j:=s - 1) (by omega) (by omega)) (Int.le_trans (q6 (by omega) (by omega)) (h2.le (i:=n - s) (by omega) (by omega) g4))
   · rw [v2 i (by omega) g2]
     by_cases hj:j < n - s
     · rw [v3 j g3 hj]
       exact Int.le_trans (h2.le (j:=n - s - 1) (by omega) (by omega) (by omega)) (Int.le_trans (q7 (by omega) (by omega)) (h1.le (i:=s) (by omega) (by omega) (by omega)))
     · rw [v4 j (by omega)];exact h2.le (by omega) (by omega) g4
end Go.Azalai
set_option maxRecDepth 100000
set_option maxHeartbeats 4000000
namespace Go.Azalai
structure Meet where
 a:Int
 b:Int
 day:Int
 close:Bool
deriving DecidableEq
end Go.Azalai
namespace Go.Proofs.Ytnlfjchbhgikaaa
open Go Go.Sx Go.Azalai
def meetL (m:Meet):List SV:=[I m.a,I m.b,I m.day,B m.close]
def rowO (v:Nat) (l:List Meet):Ot:=⟨false,.tup [],[(0,.row v 4 (l.map meetL) 73)],1⟩
theorem swr_ok (v a b n:Nat) (l:List Meet) (hab:a + n ≤ b) (hb:b + n ≤ l.length) (hL:l.length < 4611686018427387904) :
 CtM Try.prog 108 [(0,.row v 4 (l.map meetL) 73)] 1 [.mr 0 v,I a,I b,I n,.cl 81 []] (fun o=>∃ l',PIn a (b + n) l l' ∧ (∀ p,ky Meet.day l' p = swR a b n (ky Meet.day l) p) ∧ o = rowO v l'):=by
 refine m108 (by simp [hpb]) (fun o ho=>by obtain ⟨l',_,_,rfl⟩:=ho;simp [rowO,KX,KXL,KXP,KXH,KFR_iff,KFL,KF,meetL]) ?_
 dsimp only [c108,r108,go_sem,rA,rM,rS]
 refine loopO (fun s:Nat × List Meet=>[(10,I s.1)]) (fun s=>[(0,.row v 4 (s.2.map meetL) 73)]) (fun s=>s.1 ≤ n ∧ PIn a (b + n) l s.2 ∧ ∀ p,ky Meet.day s.2 p = swR a b s.1 (ky Meet.day l) p) (fun s=>n - s.1) (0,l) ⟨Nat.zero_le _,.refl _ _ _,fun p=>(swR_0 _ _ _ _).symm⟩ ?_ ?_
 · (refine ent_id ?_ ?_ ?_ rfl rfl <;> dsimp only [meetL,id,go_sem,rA,rM,rS] <;> simp [meetL,KFR_iff,KFR_app,KFR,KFL,KF,mtL_same,mtO,nbr])
 rintro ⟨j,l1⟩ ⟨hj,hp,hk⟩
 simp only at hj hp hk
 have hl1:=hp.len
 dsimp only [go_sem,rA,rM,rS]
 by_cases hlt:j < n
 · refine br_t (by simpa using hlt) ?_
   (repeat first | dsimp only [go_sem,rA,rM,rS] | simp only [nbr])
   simp (disch:=omega) only [w64_in,List.length_map]
   refine ixrm (b + j) (by omega) (by omega) ?_
   (repeat first | dsimp only [go_sem,rA,rM,rS] | simp only [nbr])
   refine ldrm (by omega) ?_
   (repeat first | dsimp only [meetL,go_sem,rA,rM,rS] | simp only [nbr])
   simp (disch:=omega) only [w64_in,List.length_map]
   refine ixrm (a + j) (by omega) (by omega) ?_
   (repeat first | dsimp only [go_sem,rA,rM,rS] | simp only [nbr])
   refine ldrm (by omega) ?_
   (repeat first | dsimp only [meetL,go_sem,rA,rM,rS] | simp only [nbr])
   refine ixrm (a + j) (by omega) (by simp;omega) ?_
   (repeat first | dsimp only [go_sem,rA,rM,rS] | simp only [nbr])
   refine strm l1[b + j] (by omega) (by simp [meetL]) (by simp [meetL,splice]) ?_
   (repeat first | dsimp only [go_sem,rA,rM,rS] | simp only [nbr])
   refine ixrm (b + j) (w64_in (by omega) (by omega)) (by simp;omega) ?_
   (repeat first | dsimp only [go_sem,rA,rM,rS] | simp only [nbr])
   refine strm l1[a + j] (by simp;omega) (by simp [meetL]) (by simp [meetL,splice]) ?_
   rw [← swp_eq (l:=l1) (i:=a + j) (j:=b + j) (by omega) (by omega)]
   (repeat first | dsimp only [go_sem,rA,rM,rS] | simp only [nbr])
   rw [w64_in (n:=(j:Int) + 1) (by omega) (by omega)]
   refine ⟨(j + 1,swp l1 (a + j) (b + j)),⟨hlt,hp.trans (.swap (by omega) (by omega) (by omega) (by omega) (by omega)),fun p=>?_⟩,by simp only;omega,?_⟩
   · rw [swp_ky Meet.day (by omega) (by omega),swR_succ (by omega),hk,hk,hk]
   (refine ent_id ?_ ?_ ?_ rfl rfl <;> dsimp only [meetL,id,go_sem,rA,rM,rS] <;> simp [meetL,KFR_iff,KFR_app,KFR,KFL,KF,mtL_same,mtO,nbr])
 refine br_f (by simp;omega) ?_
 dsimp only [go_sem,rA,rM,rS]
 refine ⟨_,⟨l1,hp,fun p=>by rw [hk p,show j = n from by omega],rfl⟩,?_⟩
 simp only [rowO]
 (refine entO_id ?_ ?_ ?_ rfl <;> dsimp only [meetL,id,go_sem,rA,rM,rS] <;> simp [meetL,KFR_iff,KFR_app,KFR,KFL,KF,mtL_same,mtO,nbr])
theorem rot_ok (v a m b:Nat) (l:List Meet) (ham:a < m) (hmb:m < b) (hb:b ≤ l.length) (hL:l.length < 4611686018427387904) :
 CtM Try.prog 107 [(0,.row v 4 (l.map meetL) 73)] 1 [.mr 0 v,I a,I m,I b,.cl 81 []] (fun o=>∃ l',PIn a b l l' ∧ (∀ p,ky Meet.day l' p = rotT a m b (ky Meet.day l) p) ∧ o = rowO v l'):=by
 refine m107 (by simp [hpb]) (fun o ho=>by obtain ⟨l',_,_,rfl⟩:=ho;simp [rowO,KX,KXL,KXP,KXH,KFR_iff,KFL,KF,meetL]) ?_
 dsimp only [c107,r107,go_sem,rA,rM,rS]
 rw [w64_in (n:=(m:Int) - (a:Int)) (by omega) (by omega),w64_in (n:=(b:Int) - (m:Int)) (by omega) (by omega),show (m:Int) - (a:Int) = ((m - a:Nat):Int) from by omega,show (b:Int) - (m:Int) = ((b - m:Nat):Int) from by omega]
 refine loopO (fun s:Nat × Nat × List Meet=>[(10,I s.1),(11,I s.2.1)]) (fun s=>[(0,.row v 4 (s.2.2.map meetL) 73)]) (fun s=>(0 < s.1 ∧ 0 < s.2.1 ∧ a + s.1 ≤ m ∧ m + s.2.1 ≤ b) ∧ PIn a b l s.2.2 ∧ RotI m s.1 s.2.1 (ky Meet.day s.2.2) (rotT a m b (ky Meet.day l))) (fun s=>s.1 + s.2.1) (m - a,b - m,l) ⟨by simp only;omega,.refl _ _ _,rot_start (by omega) (by omega)⟩ ?_ ?_
 · (refine ent_id ?_ ?_ ?_ rfl rfl <;> dsimp only [meetL,id,go_sem,rA,rM,rS] <;> simp [meetL,KFR_iff,KFR_app,KFR,KFL,KF,mtL_same,mtO,nbr])
 rintro ⟨i,j,l1⟩ ⟨⟨hi0,hj0,hi,hj⟩,hp,hk⟩
 simp only at hi0 hj0 hi hj hp hk
 have hl1:=hp.len
 dsimp only [go_sem,rA,rM,rS]
 by_cases hij:i = j
 case pos =>
  subst hij
  refine br_f (by simp) ?_
  dsimp only [go_sem,rA,rM,rS]
  rw [w64_in (n:=(m:Int) - (i:Int)) (by omega) (by omega),show (m:Int) - (i:Int) = ((m - i:Nat):Int) from by omega]
  refine callmP [0] (swr_ok v (m - i) m i l1 (by omega) (by omega) (by omega)) rfl rfl rfl ?_ ?_ ?_
  · (repeat first | dsimp only [go_sem,rA,rM,rS] | simp only [nbr])
    simp [mtL,mtB,mtS]
  · (repeat first | dsimp only [go_sem,rA,rM,rS] | simp only [nbr])
    simp [KFR_iff,meetL,KFL,KF]
  rintro _ ⟨l2,hp2,hk2,rfl⟩
  (repeat first | dsimp only [rowO,go_sem,rA,rM,rS] | simp only [nbr])
  refine ⟨_,⟨l2,hp.trans (hp2.mono (by omega) (by omega)),fun p=>by rw [hk2 p];exact rot_eq hk (by omega) p,rfl⟩,?_⟩
  (refine entO_id ?_ ?_ ?_ rfl <;> dsimp only [meetL,id,go_sem,rA,rM,rS] <;> simp [meetL,KFR_iff,KFR_app,KFR,KFL,KF,mtL_same,mtO,nbr])
 refine br_t (by simp;omega) ?_
 dsimp only [go_sem,rA,rM,rS]
 by_cases hgt:j < i
 · refine br_t (by simp;omega) ?_
   dsimp only [go_sem,rA,rM,rS]
   rw [w64_in (n:=(m:Int) - (i:Int)) (by omega) (by omega),show (m:Int) - (i:Int) = ((m - i:Nat):Int) from by omega]
   refine callmP [0] (swr_ok v (m - i) m j l1 (by omega) (by omega) (by omega)) rfl rfl rfl ?_ ?_ ?_
   · (repeat first | dsimp only [go_sem,rA,rM,rS] | simp only [nbr])
     simp [mtL,mtB,mtS]
   · (repeat first | dsimp only [go_sem,rA,rM,rS] | simp only [nbr])
     simp [KFR_iff,meetL,KFL,KF]
   rintro _ ⟨l2,hp2,hk2,rfl⟩
   (repeat first | dsimp only [rowO,go_sem,rA,rM,rS] | simp only [nbr])
   rw [w64_in (n:=(i:Int) - (j:Int)) (by omega) (by omega),show (i:Int) - (j:Int) = ((i - j:Nat):Int) from by omega]
   refine ⟨(i - j,j,l2),⟨by simp only;omega,hp.trans (hp2.mono (by omega) (by omega)),?_⟩,by simp only;omega,?_⟩
   · have:=rot_gt hk (by omega) hj0 hgt
     rwa [← show ky Meet.day l2 = swR (m - i) m j (ky Meet.day l1) from funext hk2] at this
   (refine ent_id ?_ ?_ ?_ rfl rfl <;> dsimp only [meetL,id,go_sem,rA,rM,rS] <;> simp [meetL,KFR_iff,KFR_app,KFR,KFL,KF,mtL_same,mtO,nbr])
 refine br_f (by simp;omega) ?_
 dsimp only [go_sem,rA,rM,rS]
 simp (disch:=omega) only [w64_in]
 rw [show (m:Int) - (i:Int) = ((m - i:Nat):Int) from by omega,show (m:Int) + (j:Int) - (i:Int) = ((m + j - i:Nat):Int) from by omega]
 refine callmP [0] (swr_ok v (m - i) (m + j - i) i l1 (by omega) (by omega) (by omega)) rfl rfl rfl ?_ ?_ ?_
 · (repeat first | dsimp only [go_sem,rA,rM,rS] | simp only [nbr])
   simp [mtL,mtB,mtS]
 · (repeat first | dsimp only [go_sem,rA,rM,rS] | simp only [nbr])
   simp [KFR_iff,meetL,KFL,KF]
 rintro _ ⟨l2,hp2,hk2,rfl⟩
 (repeat first | dsimp only [rowO,go_sem,rA,rM,rS] | simp only [nbr])
 rw [w64_in (n:=(j:Int) - (i:Int)) (by omega) (by omega),show (j:Int) - (i:Int) = ((j - i:Nat):Int) from by omega]
 refine ⟨(i,j - i,l2),⟨by simp only;omega,hp.trans (hp2.mono (by omega) (by omega)),?_⟩,by simp only;omega,?_⟩
 · have:=rot_lt hk (by omega) hi0 (by omega)
   rwa [← show ky Meet.day l2 = swR (m - i) (m + j - i) i (ky Meet.day l1) from funext hk2] at this
 (refine ent_id ?_ ?_ ?_ rfl rfl <;> dsimp only [meetL,id,go_sem,rA,rM,rS] <;> simp [meetL,KFR_iff,KFR_app,KFR,KFL,KF,mtL_same,mtO,nbr])
end Go.Proofs.Ytnlfjchbhgikaaa
set_option maxRecDepth 100000
set_option maxHeartbeats 4000000
namespace Go.Azalai
theorem ky_eq {α : Type} (key:α → Int) {l:List α} {i:Nat} (h:i < l.length):ky key l i = key l[i]:=by unfold ky;rw [List.getElem?_eq_getElem h]
def cmpZ (a b:Int):Int:=if a < b then -1 else if b < a then 1 else 0
end Go.Azalai
namespace Go.Proofs.Ytnlfjchbhgikaaa
open Go Go.Sx Go.Azalai
theorem nan_ok (a:Int):Ct Try.prog 99 [I a] (B false):=by
 refine t99 (by simp [KFL,KF]) (by simp [KFL,KF]) ?_
 dsimp only [c99,r99,go_sem,rA,rM,rS]
 simp
theorem cmp_ok (a b:Int):Ct Try.prog 82 [I a,I b] (I (cmpZ a b)):=by
 refine t82 (by simp [KFL,KF]) (by simp [KFL,KF]) ?_
 dsimp only [c82,r82,go_sem,rA,rM,rS]
 refine call (nan_ok a) ?_
 dsimp only [go_sem,rA,rM,rS]
 refine call (nan_ok b) ?_
 dsimp only [go_sem,rA,rM,rS]
 refine br_f rfl ?_
 dsimp only [go_sem,rA,rM,rS]
 refine br_f rfl ?_
 dsimp only [go_sem,rA,rM,rS]
 by_cases h1:a < b
 · refine br_t (by simpa using h1) ?_
   dsimp only [go_sem,rA,rM,rS]
   simp [cmpZ,h1]
 refine br_f (by simpa using h1) ?_
 dsimp only [go_sem,rA,rM,rS]
 by_cases h2:b < a
 · refine br_t (by simpa using h2) ?_
   dsimp only [go_sem,rA,rM,rS]
   simp [cmpZ,h1,h2]
 refine br_f (by simpa using h2) ?_
 dsimp only [go_sem,rA,rM,rS]
 simp [cmpZ,h1,h2]
theorem less_ok (x y:Meet):Ct Try.prog 81 [.agg (meetL x),.agg (meetL y)] (I (cmpZ x.day y.day)):=by
 refine t81 (by simp [meetL,KFL,KF]) (by simp [KFL,KF]) ?_
 dsimp only [c81,r81,meetL,go_sem,rA,rM,rS]
 refine call (cmp_ok x.day y.day) ?_
 dsimp only [go_sem,rA,rM,rS]
theorem inss_ok (v a b:Nat) (l:List Meet) (hab:a ≤ b) (hb:b ≤ l.length) (hL:l.length < 4611686018427387904) :
 CtM Try.prog 105 [(0,.row v 4 (l.map meetL) 73)] 1 [.mr 0 v,I a,I b,.cl 81 []] (fun o=>∃ l',PIn a b l l' ∧ Srt Meet.day a b l' ∧ o = rowO v l'):=by
 refine m105 (by simp [hpb]) (fun o ho=>by obtain ⟨l',_,_,rfl⟩:=ho;simp [rowO,KX,KXL,KXP,KXH,KFR_iff,KFL,KF,meetL]) ?_
 dsimp only [c105,r105,go_sem,rA,rM,rS]
 rw [w64_in (n:=(a:Int) + 1) (by omega) (by omega)]
 refine loopO (fun s:Nat × List Meet=>[(8,I (s.1:Nat))]) (fun s=>[(0,.row v 4 (s.2.map meetL) 73)]) (fun s=>(a < s.1 ∧ s.1 ≤ max b (a + 1)) ∧ PIn a b l s.2 ∧ Srt Meet.day a s.1 s.2) (fun s=>b - s.1) (a + 1,l) ⟨by simp only;omega,.refl _ _ _,fun i j h1 h2 h3=>by simp only at h3;omega⟩ ?_ ?_
 · (refine ent_id ?_ ?_ ?_ rfl rfl <;> dsimp only [meetL,id,go_sem,rA,rM,rS] <;> simp [meetL,KFR_iff,KFR_app,KFR,KFL,KF,mtL_same,mtO,nbr])
 rintro ⟨i,l1⟩ ⟨⟨hi0,hi⟩,hp,hs⟩
 simp only at hi0 hi hp hs
 have hl1:=hp.len
 dsimp only [go_sem,rA,rM,rS]
 by_cases hib:i < b
 case neg =>
  refine br_f (by simp;omega) ?_
  dsimp only [go_sem,rA,rM,rS]
  refine ⟨_,⟨l1,hp,fun p q g1 g2 g3=>hs p q g1 g2 (by omega),rfl⟩,?_⟩
  simp only [rowO]
  (refine entO_id ?_ ?_ ?_ rfl <;> dsimp only [meetL,id,go_sem,rA,rM,rS] <;> simp [meetL,KFR_iff,KFR_app,KFR,KFL,KF,mtL_same,mtO,nbr])
 refine br_t (by simpa using hib) ?_
 dsimp only [go_sem,rA,rM,rS]
 refine loopO (fun s:Nat × List Meet=>[(9,I (s.1:Nat))]) (fun s=>[(0,.row v 4 (s.2.map meetL) 73)]) (fun s=>(a ≤ s.1 ∧ s.1 ≤ i) ∧ PIn a b l s.2 ∧ Ins1 Meet.day a i s.1 s.2) (fun s=>s.1) (i,l1) ⟨by simp only;omega,hp,ins_start Meet.day hs⟩ ?_ ?_
 · (refine ent_id ?_ ?_ ?_ rfl rfl <;> dsimp only [meetL,id,go_sem,rA,rM,rS] <;> simp [meetL,KFR_iff,KFR_app,KFR,KFL,KF,mtL_same,mtO,nbr])
 rintro ⟨j,l2⟩ ⟨⟨hj0,hj⟩,hp2,hs2⟩
 simp only at hj0 hj hp2 hs2
 have hl2:=hp2.len
 dsimp only [go_sem,rA,rM,rS]
 by_cases hja:a < j
 case neg =>
  rw [show decide ((j:Int) > (a:Int)) = false from by simp;omega]
  repeat (refine gb ?_;(repeat first | dsimp only [go_sem,rA,rM,rS] | simp only [nbr]))
  refine ixrm_v 0 rfl (fun h=>by cases h) ?_
  (repeat first | dsimp only [go_sem,rA,rM,rS] | simp only [nbr])
  refine gb ?_
  (repeat first | dsimp only [go_sem,rA,rM,rS] | simp only [nbr])
  refine ⟨meetL ⟨0,0,0,false⟩,imp_v rfl (fun h=>by cases h),?_⟩
  (repeat first | dsimp only [meetL,go_sem,rA,rM,rS] | simp only [nbr])
  repeat (refine gb ?_;(repeat first | dsimp only [go_sem,rA,rM,rS] | simp only [nbr]))
  refine ixrm_v 0 rfl (fun h=>by cases h) ?_
  (repeat first | dsimp only [go_sem,rA,rM,rS] | simp only [nbr])
  refine gb ?_
  (repeat first | dsimp only [go_sem,rA,rM,rS] | simp only [nbr])
  refine ⟨meetL ⟨0,0,0,false⟩,imp_v rfl (fun h=>by cases h),?_⟩
  (repeat first | dsimp only [meetL,go_sem,rA,rM,rS] | simp only [nbr])
  refine gb ?_
  (repeat first | dsimp only [go_sem,rA,rM,rS] | simp only [nbr])
  refine call (less_ok ⟨0,0,0,false⟩ ⟨0,0,0,false⟩) ?_
  (repeat first | dsimp only [go_sem,rA,rM,rS] | simp only [nbr])
  refine gb ?_
  (repeat first | dsimp only [go_sem,rA,rM,rS] | simp only [nbr])
  refine br_f rfl ?_
  (repeat first | dsimp only [go_sem,rA,rM,rS] | simp only [nbr])
  rw [w64_in (n:=(i:Int) + 1) (by omega) (by omega)]
  refine ⟨(i + 1,l2),⟨by simp only;omega,hp2,ins_end Meet.day hs2 hj (.inl (by omega))⟩,by simp only;omega,?_⟩
  (refine ent_id ?_ ?_ ?_ rfl rfl <;> dsimp only [meetL,id,go_sem,rA,rM,rS] <;> simp [meetL,KFR_iff,KFR_app,KFR,KFL,KF,mtL_same,mtO,nbr])
 rw [show decide ((j:Int) > (a:Int)) = true from by simp;omega]
 repeat (refine .inl ⟨rfl,?_⟩;(repeat first | dsimp only [go_sem,rA,rM,rS] | simp only [nbr]))
 refine ixrm j rfl (by simp;omega) ?_
 (repeat first | dsimp only [go_sem,rA,rM,rS] | simp only [nbr])
 refine .inl ⟨rfl,?_⟩
 (repeat first | dsimp only [go_sem,rA,rM,rS] | simp only [nbr])
 refine ldrm (by omega) ?_
 (repeat first | dsimp only [meetL,go_sem,rA,rM,rS] | simp only [nbr])
 repeat (refine .inl ⟨rfl,?_⟩;(repeat first | dsimp only [go_sem,rA,rM,rS] | simp only [nbr]))
 rw [w64_in (n:=(j:Int) - 1) (by omega) (by omega)]
 refine ixrm (j - 1) (by omega) (by simp;omega) ?_
 (repeat first | dsimp only [go_sem,rA,rM,rS] | simp only [nbr])
 refine .inl ⟨rfl,?_⟩
 (repeat first | dsimp only [go_sem,rA,rM,rS] | simp only [nbr])
 refine ldrm (by omega) ?_
 (repeat first | dsimp only [meetL,go_sem,rA,rM,rS] | simp only [nbr])
 repeat (refine .inl ⟨rfl,?_⟩;(repeat first | dsimp only [go_sem,rA,rM,rS] | simp only [nbr]))
 refine call (less_ok l2[j] l2[j - 1]) ?_
 (repeat first | dsimp only [go_sem,rA,rM,rS] | simp only [nbr])
 repeat (refine .inl ⟨rfl,?_⟩;(repeat first | dsimp only [go_sem,rA,rM,rS] | simp only [nbr]))
 by_cases hlt:l2[j].day < l2[j - 1].day
 case neg =>
  refine br_f (by simp [cmpZ,hlt];split <;> decide) ?_
  (repeat first | dsimp only [go_sem,rA,rM,rS] | simp only [nbr])
  have hkk:ky Meet.day l2 (j - 1) ≤ ky Meet.day l2 j:=by rw [ky_eq Meet.day (l:=l2) (i:=j - 1) (by omega),ky_eq Meet.day (l:=l2) (i:=j) (by omega)];exact Int.not_lt.1 hlt
  rw [w64_in (n:=(i:Int) + 1) (by omega) (by omega)]
  refine ⟨(i + 1,l2),⟨by simp only;omega,hp2,ins_end Meet.day hs2 hj (.inr hkk)⟩,by simp only;omega,?_⟩
  (refine ent_id ?_ ?_ ?_ rfl rfl <;> dsimp only [meetL,id,go_sem,rA,rM,rS] <;> simp [meetL,KFR_iff,KFR_app,KFR,KFL,KF,mtL_same,mtO,nbr])
 refine br_t (by simp [cmpZ,hlt]) ?_
 (repeat first | dsimp only [go_sem,rA,rM,rS] | simp only [nbr])
 have hkk:ky Meet.day l2 j < ky Meet.day l2 (j - 1):=by rw [ky_eq Meet.day (l:=l2) (i:=j - 1) (by omega),ky_eq Meet.day (l:=l2) (i:=j) (by omega)];exact hlt
 rw [w64_in (n:=(j:Int) - 1) (by omega) (by omega)]
 refine ixrm (j - 1) (by omega) (by simp;omega) ?_
 (repeat first | dsimp only [go_sem,rA,rM,rS] | simp only [nbr])
 refine ldrm (by omega) ?_
 (repeat first | dsimp only [meetL,go_sem,rA,rM,rS] | simp only [nbr])
 refine ixrm j rfl (by simp;omega) ?_
 (repeat first | dsimp only [go_sem,rA,rM,rS] | simp only [nbr])
 refine ldrm (by omega) ?_
 (repeat first | dsimp only [meetL,go_sem,rA,rM,rS] | simp only [nbr])
 refine ixrm j rfl (by simp;omega) ?_
 (repeat first | dsimp only [go_sem,rA,rM,rS] | simp only [nbr])
 refine strm l2[j - 1] (by omega) (by simp [meetL]) (by simp [meetL,splice]) ?_
 (repeat first | dsimp only [go_sem,rA,rM,rS] | simp only [nbr])
 refine ixrm (j - 1) (by first | omega | (rw [w64_in (by omega) (by omega)];omega)) (by simp;omega) ?_
 (repeat first | dsimp only [go_sem,rA,rM,rS] | simp only [nbr])
 refine strm l2[j] (by simp;omega) (by simp [meetL]) (by simp [meetL,splice]) ?_
 rw [← swp_eq (l:=l2) (i:=j) (j:=j - 1) (by omega) (by omega)]
 (repeat first | dsimp only [go_sem,rA,rM,rS] | simp only [nbr])
 try rw [w64_in (n:=(j:Int) - 1) (by omega) (by omega)]
 rw [show (j:Int) - 1 = ((j - 1:Nat):Int) from by omega]
 refine ⟨(j - 1,swp l2 j (j - 1)),⟨by simp only;omega,hp2.trans (.swap (by omega) (by omega) (by omega) (by omega) (by omega)),ins_step Meet.day hs2 hja hj (by omega) hkk⟩,by simp only;omega,?_⟩
 (refine ent_id ?_ ?_ ?_ rfl rfl <;> dsimp only [meetL,id,go_sem,rA,rM,rS] <;> simp [meetL,KFR_iff,KFR_app,KFR,KFL,KF,mtL_same,mtO,nbr])
end Go.Proofs.Ytnlfjchbhgikaaa
namespace Go.Azalai
structure Srch (p s0 r0 s r:Nat) (K:Nat → Int):Prop where
 lo:∀ c,s0 ≤ c → c < s → K c ≤ K (p - c)
 hi:∀ c,r ≤ c → c < r0 → K (p - c) < K c
theorem srch_start (p s0 r0:Nat) (K:Nat → Int):Srch p s0 r0 s0 r0 K:=⟨fun c h1 h2=>by omega,fun c h1 h2=>by omega⟩
theorem srch_up {a m b p s0 r0 s r c:Nat} {K:Nat → Int} (h:Srch p s0 r0 s r K) (h1:SrtK a m K) (h2:SrtK m b K) (ha:a ≤ s0) (hr:r0 ≤ m) (hp:∀ c,s0 ≤ c → c < r0 → m ≤ p - c ∧ p - c < b) (hc:s ≤ c) (hcr:c < r) (hrr:r ≤ r0) (hk:K c ≤ K (p - c)) (hs:s0 ≤ s):Srch p s0 r0 (c + 1) r K:=by
 refine ⟨fun c' g1 g2=>?_,h.hi⟩
 have q1:=hp c' g1 (by omega)
 have q2:=hp c (by omega) (by omega)
 exact Int.le_trans (h1.le (by omega) (show c' ≤ c by omega) (by omega)) (Int.le_trans hk (h2.le (by omega) (by omega) (by omega)))
theorem srch_down {a m b p s0 r0 s r c:Nat} {K:Nat → Int} (h:Srch p s0 r0 s r K) (h1:SrtK a m K) (h2:SrtK m b K) (ha:a ≤ s0) (hr:r0 ≤ m) (hp:∀ c,s0 ≤ c → c < r0 → m ≤ p - c ∧ p - c < b) (hc:s ≤ c) (hcr:c < r) (hrr:r ≤ r0) (hk:K (p - c) < K c) (hs:s0 ≤ s):Srch p s0 r0 s c K:=by
 refine ⟨h.lo,fun c' g1 g2=>?_⟩
 have q1:=hp c' (by omega) g2
 have q2:=hp c (by omega) (by omega)
 have e1:=h2.le (i:=p - c') (j:=p - c) (by omega) (by omega) (by omega)
 have e2:=h1.le (i:=c) (j:=c') (by omega) (by omega) (by omega)
 omega
theorem cut_of {a m b mid s:Nat} {K:Nat → Int} (ham:a < m) (hmb:m < b) (h1:2 * mid ≤ a + b) (h2:a + b ≤ 2 * mid + 1) (s0 r0:Nat) (hs0:s0 = if m > mid then mid + m - b else a) (hr0:r0 = if m > mid then mid else m)
 (hs:s0 ≤ s) (hr:s ≤ r0) (h:Srch (mid + m - 1) s0 r0 s s K):Cut a m b (mid + m) s K:=by
 by_cases hm:m > mid
 · rw [if_pos hm] at hs0 hr0
   subst hs0;subst hr0
   refine ⟨by omega,by omega,by omega,by omega,by omega,fun g1 g2=>?_,fun g1 g2=>?_⟩
   · have:=h.lo (s - 1) (by omega) (by omega)
     rwa [show r0 + m - 1 - (s - 1) = r0 + m - s from by omega] at this
   · have:=h.hi s (Nat.le_refl _) (by omega)
     rw [show r0 + m - 1 - s = r0 + m - s - 1 from by omega] at this
     exact Int.le_of_lt this
 · rw [if_neg hm] at hs0 hr0
   subst hs0;subst hr0
   refine ⟨by omega,by omega,by omega,by omega,by omega,fun g1 g2=>?_,fun g1 g2=>?_⟩
   · have:=h.lo (s - 1) (by omega) (by omega)
     rwa [show mid + r0 - 1 - (s - 1) = mid + r0 - s from by omega] at this
   · have:=h.hi s (Nat.le_refl _) (by omega)
     rw [show mid + r0 - 1 - s = mid + r0 - s - 1 from by omega] at this
     exact Int.le_of_lt this
end Go.Azalai
namespace Go.Azalai
section
variable {α : Type} (key:α → Int)
structure Cutd (a i mid e b:Nat) (l:List α):Prop where
 o1:a ≤ i
 o2:i ≤ mid
 o3:mid ≤ e
 o4:e ≤ b
 s1:Srt key a i l
 s2:Srt key i mid l
 s3:Srt key mid e l
 s4:Srt key e b l
 x:∀ p q,a ≤ p → p < mid → mid ≤ q → q < b → ky key l p ≤ ky key l q
structure CutL (a mid e b:Nat) (l:List α):Prop where
 o1:a ≤ mid
 o3:mid ≤ e
 o4:e ≤ b
 s1:Srt key a mid l
 s3:Srt key mid e l
 s4:Srt key e b l
 x:∀ p q,a ≤ p → p < mid → mid ≤ q → q < b → ky key l p ≤ ky key l q
theorem cutd_rot {a m b mid i:Nat} {l l1:List α} (h:Cut a m b (mid + m) i (ky key l)) (h1:Srt key a m l) (h2:Srt key m b l) (hk:∀ p,ky key l1 p = rotT i m (mid + m - i) (ky key l) p):Cutd key a i mid (mid + m - i) b l1:=by
 have e:=cut_ok h h1 h2
 rw [show mid + m - m = mid from by omega] at e
 obtain ⟨q0,q1,q2,q3,q4,q5,q6⟩:=h
 have ek:ky key l1 = rotT i m (mid + m - i) (ky key l):=funext hk
 refine ⟨by omega,by omega,by omega,by omega,?_,?_,?_,?_,?_⟩ <;> (try unfold Srt) <;> rw [ek]
 · exact e.1
 · exact e.2.1
 · exact e.2.2.1
 · exact e.2.2.2.1
 · exact e.2.2.2.2
theorem cutd_no {a m b mid i:Nat} {l:List α} (h:Cut a m b (mid + m) i (ky key l)) (h1:Srt key a m l) (h2:Srt key m b l) (hn:¬ (i < m ∧ m < mid + m - i)):Cutd key a i mid (mid + m - i) b l:=by
 refine cutd_rot key h h1 h2 fun p=>?_
 obtain ⟨q0,q1,q2,q3,q4,q5,q6⟩:=h
 unfold rotT
 by_cases c1:i ≤ p ∧ p < i + (mid + m - i - m)
 · rw [if_pos c1];congr 1;omega
 · rw [if_neg c1]
   by_cases c2:i + (mid + m - i - m) ≤ p ∧ p < mid + m - i
   · rw [if_pos c2];congr 1;omega
   · rw [if_neg c2]
theorem cutl_rec {a i mid e b:Nat} {l l2:List α} (h:Cutd key a i mid e b l) (hp:PIn a mid l l2) (hs:Srt key a mid l2) (hb:b ≤ l.length):CutL key a mid e b l2:=by
 obtain ⟨o1,o2,o3,o4,s1,s2,s3,s4,x⟩:=h
 have ke:∀ q,mid ≤ q → ky key l2 q = ky key l q:=fun q hq=>hp.ky key (.inr hq)
 refine ⟨by omega,o3,o4,hs,fun p q g1 g2 g3=>?_,fun p q g1 g2 g3=>?_,fun p q g1 g2 g3 g4=>?_⟩
 · rw [ke p g1,ke q (by omega)];exact s3 p q g1 g2 g3
 · rw [ke p (by omega),ke q (by omega)];exact s4 p q g1 g2 g3
 · rw [ke q g3]
   exact hp.kall key (by omega) (fun k=>k ≤ ky key l q) (fun p q1 q2=>x p q q1 q2 g3 g4) p g1 g2
theorem cutl_no {a i mid e b:Nat} {l:List α} (h:Cutd key a i mid e b l) (hn:¬ (a < i ∧ i < mid)):CutL key a mid e b l:=by
 obtain ⟨o1,o2,o3,o4,s1,s2,s3,s4,x⟩:=h
 refine ⟨by omega,o3,o4,fun p q g1 g2 g3=>?_,s3,s4,x⟩
 by_cases hq:a < i
 · exact s1 p q g1 g2 (by omega)
 · exact s2 p q (by omega) g2 g3
theorem cut_rec {a mid e b:Nat} {l l2:List α} (h:CutL key a mid e b l) (hp:PIn mid b l l2) (hs:Srt key mid b l2) (hb:b ≤ l.length):Srt key a b l2:=by
 obtain ⟨o1,o3,o4,s1,s3,s4,x⟩:=h
 have ke:∀ q,q < mid → ky key l2 q = ky key l q:=fun q hq=>hp.ky key (.inl hq)
 refine Srt.join key (c:=mid) (fun p q g1 g2 g3=>?_) hs (fun p q g1 g2 g3 g4=>?_)
 · rw [ke p (by omega),ke q g3];exact s1 p q g1 g2 g3
 · rw [ke p g2]
   exact hp.kall key hb (fun k=>ky key l p ≤ k) (fun q q1 q2=>x p q g1 g2 q1 q2) q g3 g4
theorem cut_no {a mid e b:Nat} {l:List α} (h:CutL key a mid e b l) (hn:¬ (mid < e ∧ e < b)):Srt key a b l:=by
 obtain ⟨o1,o3,o4,s1,s3,s4,x⟩:=h
 refine Srt.join key (c:=mid) s1 (fun p q g1 g2 g3=>?_) x
 by_cases hq:mid < e
 · exact s3 p q g1 g2 (by omega)
 · exact s4 p q (by omega) g2 g3
end
end Go.Azalai
set_option maxRecDepth 100000
set_option maxHeartbeats 4000000
namespace Go.Proofs.Ytnlfjchbhgikaaa
open Go Go.Sx Go.Azalai
theorem uwn {n:Int} (h0:0 ≤ n) (h1:n < 18446744073709551616):IntKind.u64.wrap n = n:=by
 have e:n % 2 ^ IntKind.u64.bits = n:=Int.emod_eq_of_lt h0 (by show n < 2 ^ 64;omega)
 simp only [IntKind.wrap,e,show IntKind.u64.signed = false from rfl,Bool.false_and]
 rfl
theorem half_run (m:Int) (q0:0 ≤ m) (w:World):(binOp .shr 153 (.int .u64 m) (.int .u64 1)).run Try.prog w = .ok (.int .u64 (m / 2)) w:=by
 simp only [binOp,Op.shift]
 rw [if_neg (by decide)]
 have:m.fdiv (2 ^ 1) = m / 2:=by rw [Int.fdiv_eq_ediv_of_nonneg _ (by decide)];rfl
 show Result.ok (Value.int .u64 (m.fdiv (2 ^ (min (1:Int).toNat IntKind.u64.bits)))) w = _
 rw [show min (1:Int).toNat IntKind.u64.bits = 1 from by decide,this]
theorem sym_ok (v N:Nat):∀ (a m b:Nat) (l:List Meet),b - a ≤ N → a < m → m < b → b ≤ l.length → l.length < 4611686018427387904 → Srt Meet.day a m l → Srt Meet.day m b l →
 CtM Try.prog 106 [(0,.row v 4 (l.map meetL) 73)] 1 [.mr 0 v,I a,I m,I b,.cl 81 []] (fun o=>∃ l',PIn a b l l' ∧ Srt Meet.day a b l' ∧ o = rowO v l'):=by
 induction N with
 | zero=>intro a m b l h1 h2 h3;omega
 | succ N ih =>
 intro a m b l hN ham hmb hb hL hs1 hs2
 refine m106 (by simp [hpb]) (fun o ho=>by obtain ⟨l',_,_,rfl⟩:=ho;simp [rowO,KX,KXL,KXP,KXH,KFR_iff,KFL,KF,meetL]) ?_
 dsimp only [c106,r106,go_sem,rA,rM,rS]
 rw [w64_in (n:=(m:Int) - (a:Int)) (by omega) (by omega)]
 by_cases hm1:m = a + 1
 · refine br_t (by simp;omega) ?_
   dsimp only [go_sem,rA,rM,rS]
   refine loopO (fun s:Nat × Nat=>[(10,I (s.1:Nat)),(11,I (s.2:Nat))]) (fun _=>[]) (fun s=>m ≤ s.1 ∧ s.1 ≤ s.2 ∧ s.2 ≤ b ∧ (∀ c,m ≤ c → c < s.1 → ky Meet.day l c < ky Meet.day l a) ∧ ∀ c,s.2 ≤ c → c < b → ky Meet.day l a ≤ ky Meet.day l c) (fun s=>s.2 - s.1) (m,b) ⟨Nat.le_refl _,by simp only;omega,Nat.le_refl _,fun c h1 h2=>by simp only at h2;omega,fun c h1 h2=>by simp only at h1;omega⟩ ?_ ?_
   · (refine ent_id ?_ ?_ ?_ rfl rfl <;> dsimp only [meetL,id,go_sem,rA,rM,rS] <;> simp [meetL,KFR_iff,KFR_app,KFR,KFL,KF,mtL_same,mtO,nbr])
   rintro ⟨i,j⟩ ⟨hi,hij,hj,hlo,hhi⟩
   simp only at hi hij hj hlo hhi
   dsimp only [go_sem,rA,rM,rS]
   by_cases hlt:i < j
   · refine br_t (by simpa using hlt) ?_
     dsimp only [go_sem,rA,rM,rS]
     simp (disch:=omega) only [w64_in]
     rw [uwn (by omega) (by omega)]
     refine raw_bin rfl (.inr rfl) (half_run _ (by omega)) rfl ?_
     dsimp only [go_sem,rA,rM,rS]
     obtain ⟨h,hh⟩:∃ h:Nat,((i:Int) + (j:Int)) / 2 = (h:Int):=⟨(i + j) / 2,by omega⟩
     rw [hh,w64_in (n:=(h:Int)) (by omega) (by omega)]
     have hih:i ≤ h ∧ h < j:=by omega
     (repeat first | dsimp only [go_sem,rA,rM,rS] | simp only [nbr])
     refine ixrm h rfl (by simp;omega) ?_
     (repeat first | dsimp only [go_sem,rA,rM,rS] | simp only [nbr])
     refine ldrm (by omega) ?_
     (repeat first | dsimp only [meetL,go_sem,rA,rM,rS] | simp only [nbr])
     refine ixrm a rfl (by simp;omega) ?_
     (repeat first | dsimp only [go_sem,rA,rM,rS] | simp only [nbr])
     refine ldrm (by omega) ?_
     (repeat first | dsimp only [meetL,go_sem,rA,rM,rS] | simp only [nbr])
     refine call (less_ok l[h] l[a]) ?_
     (repeat first | dsimp only [go_sem,rA,rM,rS] | simp only [nbr])
     by_cases hk:l[h].day < l[a].day
     · refine br_t (by simp [cmpZ,hk]) ?_
       dsimp only [go_sem,rA,rM,rS]
       rw [w64_in (n:=(h:Int) + 1) (by omega) (by omega)]
       have hkk:ky Meet.day l h < ky Meet.day l a:=by rw [ky_eq Meet.day (l:=l) (i:=h) (by omega),ky_eq Meet.day (l:=l) (i:=a) (by omega)];exact hk
       refine ⟨(h + 1,j),⟨by simp only;omega,by simp only;omega,hj,fun c g1 g2=>?_,hhi⟩,by simp only;omega,?_⟩
       · have:=hs2.le Meet.day g1 (show c ≤ h by simp only at g2;omega) (by omega);omega
       (refine ent_id ?_ ?_ ?_ rfl rfl <;> dsimp only [meetL,id,go_sem,rA,rM,rS] <;> simp [meetL,KFR_iff,KFR_app,KFR,KFL,KF,mtL_same,mtO,nbr])
     · refine br_f (by simp [cmpZ,hk];split <;> decide) ?_
       dsimp only [go_sem,rA,rM,rS]
       have hkk:ky Meet.day l a ≤ ky Meet.day l h:=by rw [ky_eq Meet.day (l:=l) (i:=h) (by omega),ky_eq Meet.day (l:=l) (i:=a) (by omega)];exact Int.not_lt.1 hk
       refine ⟨(i,h),⟨hi,by simp only;omega,by simp only;omega,hlo,fun c g1 g2=>?_⟩,by simp only;omega,?_⟩
       · have:=hs2.le Meet.day (show m ≤ h by omega) g1 g2;omega
       (refine ent_id ?_ ?_ ?_ rfl rfl <;> dsimp only [meetL,id,go_sem,rA,rM,rS] <;> simp [meetL,KFR_iff,KFR_app,KFR,KFL,KF,mtL_same,mtO,nbr])
   refine br_f (by simp;omega) ?_
   dsimp only [go_sem,rA,rM,rS]
   have hij':i = j:=by omega
   subst hij'
   refine loopO (fun s:Nat × List Meet=>[(13,I (s.1:Nat))]) (fun s=>[(0,.row v 4 (s.2.map meetL) 73)]) (fun s=>(a ≤ s.1 ∧ s.1 ≤ i - 1) ∧ PIn a b l s.2 ∧ ∀ p,ky Meet.day s.2 p = if a ≤ p ∧ p < s.1 then ky Meet.day l (p + 1) else if p = s.1 then ky Meet.day l a else ky Meet.day l p) (fun s=>i - s.1) (a,l) ⟨by simp only;omega,.refl _ _ _,fun p=>by
    simp only
    rw [if_neg (by omega)]
    split
    · rename_i h;rw [h]
    · rfl⟩ ?_ ?_
   · (refine ent_id ?_ ?_ ?_ rfl rfl <;> dsimp only [meetL,id,go_sem,rA,rM,rS] <;> simp [meetL,KFR_iff,KFR_app,KFR,KFL,KF,mtL_same,mtO,nbr])
   rintro ⟨k,l1⟩ ⟨⟨hk0,hk⟩,hp,hky⟩
   simp only at hk0 hk hp hky
   have hl1:=hp.len
   dsimp only [go_sem,rA,rM,rS]
   rw [w64_in (n:=(i:Int) - 1) (by omega) (by omega)]
   by_cases hlt:k < i - 1
   · refine br_t (by simp;omega) ?_
     (repeat first | dsimp only [go_sem,rA,rM,rS] | simp only [nbr])
     rw [w64_in (n:=(k:Int) + 1) (by omega) (by omega)]
     refine ixrm (k + 1) (by omega) (by simp;omega) ?_
     (repeat first | dsimp only [go_sem,rA,rM,rS] | simp only [nbr])
     refine ldrm (by omega) ?_
     (repeat first | dsimp only [meetL,go_sem,rA,rM,rS] | simp only [nbr])
     refine ixrm k rfl (by simp;omega) ?_
     (repeat first | dsimp only [go_sem,rA,rM,rS] | simp only [nbr])
     refine ldrm (by omega) ?_
     (repeat first | dsimp only [meetL,go_sem,rA,rM,rS] | simp only [nbr])
     refine ixrm k rfl (by simp;omega) ?_
     (repeat first | dsimp only [go_sem,rA,rM,rS] | simp only [nbr])
     refine strm l1[k + 1] (by omega) (by simp [meetL]) (by simp [meetL,splice]) ?_
     (repeat first | dsimp only [go_sem,rA,rM,rS] | simp only [nbr])
     refine ixrm (k + 1) (by first | omega | (rw [w64_in (by omega) (by omega)];omega)) (by simp;omega) ?_
     (repeat first | dsimp only [go_sem,rA,rM,rS] | simp only [nbr])
     refine strm l1[k] (by simp;omega) (by simp [meetL]) (by simp [meetL,splice]) ?_
     rw [← swp_eq (l:=l1) (i:=k) (j:=k + 1) (by omega) (by omega)]
     (repeat first | dsimp only [go_sem,rA,rM,rS] | simp only [nbr])
     try rw [w64_in (n:=(k:Int) + 1) (by omega) (by omega)]
     rw [show (k:Int) + 1 = ((k + 1:Nat):Int) from by omega]
     refine ⟨(k + 1,swp l1 k (k + 1)),⟨by simp only;omega,hp.trans (.swap (by omega) (by omega) (by omega) (by omega) (by omega)),fun p=>?_⟩,by simp only;omega,?_⟩
     · simp only
       rw [swp_ky Meet.day (by omega) (by omega),hky,hky,hky]
       by_cases h1:p = k
       · subst h1
         rw [if_pos rfl,if_neg (by omega),if_neg (by omega),if_pos (by omega)]
       · rw [if_neg h1]
         by_cases h2:p = k + 1
         · subst h2
           rw [if_pos rfl,if_neg (by omega),if_pos rfl,if_neg (by omega),if_pos rfl]
         · rw [if_neg h2,if_neg h2]
           by_cases h3:a ≤ p ∧ p < k
           · rw [if_pos h3,if_pos (by omega)]
           · rw [if_neg h3,if_neg h1,if_neg (by omega)]
     (refine ent_id ?_ ?_ ?_ rfl rfl <;> dsimp only [meetL,id,go_sem,rA,rM,rS] <;> simp [meetL,KFR_iff,KFR_app,KFR,KFL,KF,mtL_same,mtO,nbr])
   refine br_f (by simp;omega) ?_
   dsimp only [go_sem,rA,rM,rS]
   have hki:k = i - 1:=by omega
   refine ⟨_,⟨l1,hp,fun p q g1 g2 g3=>?_,rfl⟩,?_⟩
   · rw [hky,hky]
     by_cases h1:p < k
     · rw [if_pos (by omega)]
       by_cases h2:q < k
       · rw [if_pos (by omega)];exact hs2 _ _ (by omega) (by omega) (by omega)
       · rw [if_neg (by omega)]
         by_cases h3:q = k
         · rw [if_pos h3];exact Int.le_of_lt (hlo _ (by omega) (by omega))
         · rw [if_neg h3];exact hs2 _ _ (by omega) (by omega) (by omega)
     · rw [if_neg (by omega),if_neg (c:=a ≤ q ∧ q < k) (by omega),if_neg (c:=q = k) (by omega)]
       by_cases h3:p = k
       · rw [if_pos h3];exact hhi _ (by omega) (by omega)
       · rw [if_neg h3];exact hs2 _ _ (by omega) (by omega) (by omega)
   · simp only [rowO]
     (refine entO_id ?_ ?_ ?_ rfl <;> dsimp only [meetL,id,go_sem,rA,rM,rS] <;> simp [meetL,KFR_iff,KFR_app,KFR,KFL,KF,mtL_same,mtO,nbr])
 refine br_f (by simp;omega) ?_
 dsimp only [go_sem,rA,rM,rS]
 rw [w64_in (n:=(b:Int) - (m:Int)) (by omega) (by omega)]
 by_cases hb1:b = m + 1
 · refine br_t (by simp;omega) ?_
   dsimp only [go_sem,rA,rM,rS]
   refine loopO (fun s:Nat × Nat=>[(14,I (s.1:Nat)),(15,I (s.2:Nat))]) (fun _=>[]) (fun s=>a ≤ s.1 ∧ s.1 ≤ s.2 ∧ s.2 ≤ m ∧ (∀ c,a ≤ c → c < s.1 → ky Meet.day l c ≤ ky Meet.day l m) ∧ ∀ c,s.2 ≤ c → c < m → ky Meet.day l m < ky Meet.day l c) (fun s=>s.2 - s.1) (a,m) ⟨Nat.le_refl _,by simp only;omega,Nat.le_refl _,fun c h1 h2=>by simp only at h2;omega,fun c h1 h2=>by simp only at h1;omega⟩ ?_ ?_
   · (refine ent_id ?_ ?_ ?_ rfl rfl <;> dsimp only [meetL,id,go_sem,rA,rM,rS] <;> simp [meetL,KFR_iff,KFR_app,KFR,KFL,KF,mtL_same,mtO,nbr])
   rintro ⟨i,j⟩ ⟨hi,hij,hj,hlo,hhi⟩
   simp only at hi hij hj hlo hhi
   dsimp only [go_sem,rA,rM,rS]
   by_cases hlt:i < j
   · refine br_t (by simpa using hlt) ?_
     dsimp only [go_sem,rA,rM,rS]
     simp (disch:=omega) only [w64_in]
     rw [uwn (by omega) (by omega)]
     refine raw_bin rfl (.inr rfl) (half_run _ (by omega)) rfl ?_
     dsimp only [go_sem,rA,rM,rS]
     obtain ⟨h,hh⟩:∃ h:Nat,((i:Int) + (j:Int)) / 2 = (h:Int):=⟨(i + j) / 2,by omega⟩
     rw [hh,w64_in (n:=(h:Int)) (by omega) (by omega)]
     have hih:i ≤ h ∧ h < j:=by omega
     (repeat first | dsimp only [go_sem,rA,rM,rS] | simp only [nbr])
     refine ixrm m rfl (by simp;omega) ?_
     (repeat first | dsimp only [go_sem,rA,rM,rS] | simp only [nbr])
     refine ldrm (by omega) ?_
     (repeat first | dsimp only [meetL,go_sem,rA,rM,rS] | simp only [nbr])
     refine ixrm h rfl (by simp;omega) ?_
     (repeat first | dsimp only [go_sem,rA,rM,rS] | simp only [nbr])
     refine ldrm (by omega) ?_
     (repeat first | dsimp only [meetL,go_sem,rA,rM,rS] | simp only [nbr])
     refine call (less_ok l[m] l[h]) ?_
     (repeat first | dsimp only [go_sem,rA,rM,rS] | simp only [nbr])
     by_cases hk:l[m].day < l[h].day
     · refine br_f (by simp [cmpZ,hk]) ?_
       dsimp only [go_sem,rA,rM,rS]
       have hkk:ky Meet.day l m < ky Meet.day l h:=by rw [ky_eq Meet.day (l:=l) (i:=h) (by omega),ky_eq Meet.day (l:=l) (i:=m) (by omega)];exact hk
       refine ⟨(i,h),⟨hi,by simp only;omega,by simp only;omega,hlo,fun c g1 g2=>?_⟩,by simp only;omega,?_⟩
       · have:=hs1.le Meet.day (show a ≤ h by omega) g1 g2;omega
       (refine ent_id ?_ ?_ ?_ rfl rfl <;> dsimp only [meetL,id,go_sem,rA,rM,rS] <;> simp [meetL,KFR_iff,KFR_app,KFR,KFL,KF,mtL_same,mtO,nbr])
     · refine br_t (by simp [cmpZ,hk];split <;> decide) ?_
       dsimp only [go_sem,rA,rM,rS]
       rw [w64_in (n:=(h:Int) + 1) (by omega) (by omega)]
       have hkk:ky Meet.day l h ≤ ky Meet.day l m:=by rw [ky_eq Meet.day (l:=l) (i:=h) (by omega),ky_eq Meet.day (l:=l) (i:=m) (by omega)];exact Int.not_lt.1 hk
       refine ⟨(h + 1,j),⟨by simp only;omega,by simp only;omega,hj,fun c g1 g2=>?_,hhi⟩,by simp only;omega,?_⟩
       · have:=hs1.le Meet.day g1 (show c ≤ h by simp only at g2;omega) (by omega);omega
       (refine ent_id ?_ ?_ ?_ rfl rfl <;> dsimp only [meetL,id,go_sem,rA,rM,rS] <;> simp [meetL,KFR_iff,KFR_app,KFR,KFL,KF,mtL_same,mtO,nbr])
   refine br_f (by simp;omega) ?_
   dsimp only [go_sem,rA,rM,rS]
   have hij':i = j:=by omega
   subst hij'
   refine loopO (fun s:Nat × List Meet=>[(17,I (s.1:Nat))]) (fun s=>[(0,.row v 4 (s.2.map meetL) 73)]) (fun s=>(i ≤ s.1 ∧ s.1 ≤ m) ∧ PIn a b l s.2 ∧ ∀ p,ky Meet.day s.2 p = if s.1 < p ∧ p ≤ m then ky Meet.day l (p - 1) else if p = s.1 then ky Meet.day l m else ky Meet.day l p) (fun s=>s.1) (m,l) ⟨by simp only;omega,.refl _ _ _,fun p=>by
    simp only
    rw [if_neg (by omega)]
    split
    · rename_i h;rw [h]
    · rfl⟩ ?_ ?_
   · (refine ent_id ?_ ?_ ?_ rfl rfl <;> dsimp only [meetL,id,go_sem,rA,rM,rS] <;> simp [meetL,KFR_iff,KFR_app,KFR,KFL,KF,mtL_same,mtO,nbr])
   rintro ⟨k,l1⟩ ⟨⟨hk0,hk⟩,hp,hky⟩
   simp only at hk0 hk hp hky
   have hl1:=hp.len
   dsimp only [go_sem,rA,rM,rS]
   by_cases hlt:i < k
   · refine br_t (by simp;omega) ?_
     (repeat first | dsimp only [go_sem,rA,rM,rS] | simp only [nbr])
     rw [w64_in (n:=(k:Int) - 1) (by omega) (by omega)]
     refine ixrm (k - 1) (by omega) (by simp;omega) ?_
     (repeat first | dsimp only [go_sem,rA,rM,rS] | simp only [nbr])
     refine ldrm (by omega) ?_
     (repeat first | dsimp only [meetL,go_sem,rA,rM,rS] | simp only [nbr])
     refine ixrm k rfl (by simp;omega) ?_
     (repeat first | dsimp only [go_sem,rA,rM,rS] | simp only [nbr])
     refine ldrm (by omega) ?_
     (repeat first | dsimp only [meetL,go_sem,rA,rM,rS] | simp only [nbr])
     refine ixrm k rfl (by simp;omega) ?_
     (repeat first | dsimp only [go_sem,rA,rM,rS] | simp only [nbr])
     refine strm l1[k - 1] (by omega) (by simp [meetL]) (by simp [meetL,splice]) ?_
     (repeat first | dsimp only [go_sem,rA,rM,rS] | simp only [nbr])
     refine ixrm (k - 1) (by first | omega | (rw [w64_in (by omega) (by omega)];omega)) (by simp;omega) ?_
     (repeat first | dsimp only [go_sem,rA,rM,rS] | simp only [nbr])
     refine strm l1[k] (by simp;omega) (by simp [meetL]) (by simp [meetL,splice]) ?_
     rw [← swp_eq (l:=l1) (i:=k) (j:=k - 1) (by omega) (by omega)]
     (repeat first | dsimp only [go_sem,rA,rM,rS] | simp only [nbr])
     try rw [w64_in (n:=(k:Int) - 1) (by omega) (by omega)]
     rw [show (k:Int) - 1 = ((k - 1:Nat):Int) from by omega]
     refine ⟨(k - 1,swp l1 k (k - 1)),⟨by simp only;omega,hp.trans (.swap (by omega) (by omega) (by omega) (by omega) (by omega)),fun p=>?_⟩,by simp only;omega,?_⟩
     · simp only
       rw [swp_ky Meet.day (by omega) (by omega),hky,hky,hky]
       by_cases h1:p = k
       · subst h1
         rw [if_pos rfl,if_neg (by omega),if_neg (by omega),if_pos (by omega)]
       · rw [if_neg h1]
         by_cases h2:p = k - 1
         · subst h2
           rw [if_pos rfl,if_neg (by omega),if_pos rfl,if_neg (by omega),if_pos rfl]
         · rw [if_neg h2,if_neg h2]
           by_cases h3:k < p ∧ p ≤ m
           · rw [if_pos h3,if_pos (by omega)]
           · rw [if_neg h3,if_neg h1,if_neg (by omega)]
     (refine ent_id ?_ ?_ ?_ rfl rfl <;> dsimp only [meetL,id,go_sem,rA,rM,rS] <;> simp [meetL,KFR_iff,KFR_app,KFR,KFL,KF,mtL_same,mtO,nbr])
   refine br_f (by simp;omega) ?_
   dsimp only [go_sem,rA,rM,rS]
   have hki:k = i:=by omega
   refine ⟨_,⟨l1,hp,fun p q g1 g2 g3=>?_,rfl⟩,?_⟩
   · rw [hky,hky]
     by_cases h1:p < k
     · rw [if_neg (by omega),if_neg (c:=p = k) (by omega)]
       by_cases h2:q < k
       · rw [if_neg (by omega),if_neg (c:=q = k) (by omega)];exact hs1 _ _ (by omega) (by omega) (by omega)
       · by_cases h3:q = k
         · rw [if_neg (by omega),if_pos h3];exact hlo _ (by omega) (by omega)
         · rw [if_pos (by omega)];exact hs1.le Meet.day (by omega) (by omega) (by omega)
     · rw [if_pos (c:=k < q ∧ q ≤ m) (by omega)]
       by_cases h3:p = k
       · rw [if_neg (by omega),if_pos h3];exact Int.le_of_lt (hhi _ (by omega) (by omega))
       · rw [if_pos (by omega)];exact hs1 _ _ (by omega) (by omega) (by omega)
   · simp only [rowO]
     (refine entO_id ?_ ?_ ?_ rfl <;> dsimp only [meetL,id,go_sem,rA,rM,rS] <;> simp [meetL,KFR_iff,KFR_app,KFR,KFL,KF,mtL_same,mtO,nbr])
 refine br_f (by simp;omega) ?_
 dsimp only [go_sem,rA,rM,rS]
 simp (disch:=omega) only [w64_in]
 rw [uwn (by omega) (by omega)]
 refine raw_bin rfl (.inr rfl) (half_run _ (by omega)) rfl ?_
 dsimp only [go_sem,rA,rM,rS]
 obtain ⟨mid,hmid⟩:∃ h:Nat,((a:Int) + (b:Int)) / 2 = (h:Int):=⟨(a + b) / 2,by omega⟩
 rw [hmid,w64_in (n:=(mid:Int)) (by omega) (by omega)]
 have hm1':2 * mid ≤ a + b ∧ a + b ≤ 2 * mid + 1:=by omega
 rw [w64_in (n:=(mid:Int) + (m:Int)) (by omega) (by omega)]
 have tail0:∀ s0 r0:Nat,s0 = (if m > mid then mid + m - b else a) → r0 = (if m > mid then mid else m) → a ≤ s0 ∧ s0 ≤ r0 ∧ r0 ≤ m ∧ (∀ c,s0 ≤ c → c < r0 → m ≤ mid + m - 1 - c ∧ mid + m - 1 - c < b):=fun s0 r0 h1 h2=>by
  by_cases hgt:m > mid
  · rw [if_pos hgt] at h1 h2;subst h1;subst h2;refine ⟨by omega,by omega,by omega,fun c _ _=>by omega⟩
  · rw [if_neg hgt] at h1 h2;subst h1;subst h2;refine ⟨by omega,by omega,by omega,fun c _ _=>by omega⟩
 obtain ⟨s0,hs0⟩:∃ s0:Nat,s0 = (if m > mid then mid + m - b else a):=⟨_,rfl⟩
 obtain ⟨r0,hr0⟩:∃ r0:Nat,r0 = (if m > mid then mid else m):=⟨_,rfl⟩
 obtain ⟨t1,t2,t3,t4⟩:=tail0 s0 r0 hs0 hr0
 by_cases hgt:m > mid
 · refine br_t (by simp;omega) ?_
   dsimp only [go_sem,rA,rM,rS]
   rw [w64_in (n:=(mid:Int) + (m:Int) - (b:Int)) (by omega) (by omega),w64_in (n:=(mid:Int) + (m:Int) - 1) (by omega) (by omega)]
   have e1:(mid:Int) + (m:Int) - (b:Int) = (s0:Int):=by rw [if_pos hgt] at hs0;omega
   have e2:mid = r0:=by rw [if_pos hgt] at hr0;omega
   rw [e1]
   have hM:((mid:Int)) = (r0:Int):=by omega
   refine loopO (fun s:Nat × Nat=>[(20,I (s.1:Nat)),(21,I (s.2:Nat))]) (fun _=>[]) (fun s=>s0 ≤ s.1 ∧ s.1 ≤ s.2 ∧ s.2 ≤ r0 ∧ Srch (mid + m - 1) s0 r0 s.1 s.2 (ky Meet.day l)) (fun s=>s.2 - s.1) (s0,r0) ⟨Nat.le_refl _,t2,Nat.le_refl _,srch_start _ _ _ _⟩ ?_ ?_
   · rw [hM];(refine ent_id ?_ ?_ ?_ rfl rfl <;> dsimp only [meetL,id,go_sem,rA,rM,rS] <;> simp [meetL,KFR_iff,KFR_app,KFR,KFL,KF,mtL_same,mtO,nbr])
   rintro ⟨i,j⟩ ⟨hi,hij,hj,hsr⟩
   simp only at hi hij hj hsr
   dsimp only [go_sem,rA,rM,rS]
   by_cases hlt:i < j
   · refine br_t (by simpa using hlt) ?_
     dsimp only [go_sem,rA,rM,rS]
     simp (disch:=omega) only [w64_in]
     rw [uwn (by omega) (by omega)]
     refine raw_bin rfl (.inr rfl) (half_run _ (by omega)) rfl ?_
     dsimp only [go_sem,rA,rM,rS]
     obtain ⟨h,hh⟩:∃ h:Nat,((i:Int) + (j:Int)) / 2 = (h:Int):=⟨(i + j) / 2,by omega⟩
     rw [hh,w64_in (n:=(h:Int)) (by omega) (by omega)]
     have hih:i ≤ h ∧ h < j:=by omega
     have hph:=t4 h (by omega) (by omega)
     rw [w64_in (n:=(mid:Int) + (m:Int) - 1 - (h:Int)) (by omega) (by omega)]
     (repeat first | dsimp only [go_sem,rA,rM,rS] | simp only [nbr])
     refine ixrm (mid + m - 1 - h) (by omega) (by simp;omega) ?_
     (repeat first | dsimp only [go_sem,rA,rM,rS] | simp only [nbr])
     refine ldrm (by omega) ?_
     (repeat first | dsimp only [meetL,go_sem,rA,rM,rS] | simp only [nbr])
     refine ixrm h rfl (by simp;omega) ?_
     (repeat first | dsimp only [go_sem,rA,rM,rS] | simp only [nbr])
     refine ldrm (by omega) ?_
     (repeat first | dsimp only [meetL,go_sem,rA,rM,rS] | simp only [nbr])
     refine call (less_ok l[mid + m - 1 - h] l[h]) ?_
     (repeat first | dsimp only [go_sem,rA,rM,rS] | simp only [nbr])
     by_cases hk:l[mid + m - 1 - h].day < l[h].day
     · refine br_f (by simp [cmpZ,hk]) ?_
       dsimp only [go_sem,rA,rM,rS]
       have hkk:ky Meet.day l (mid + m - 1 - h) < ky Meet.day l h:=by rw [ky_eq Meet.day (l:=l) (i:=h) (by omega),ky_eq Meet.day (l:=l) (i:=mid + m - 1 - h) (by omega)];exact hk
       refine ⟨(i,h),⟨hi,by simp only;omega,by simp only;omega,srch_down hsr hs1 hs2 t1 t3 t4 hih.1 hih.2 hj hkk hi⟩,by simp only;omega,?_⟩
       (refine ent_id ?_ ?_ ?_ rfl rfl <;> dsimp only [meetL,id,go_sem,rA,rM,rS] <;> simp [meetL,KFR_iff,KFR_app,KFR,KFL,KF,mtL_same,mtO,nbr])
     · refine br_t (by simp [cmpZ,hk];split <;> decide) ?_
       dsimp only [go_sem,rA,rM,rS]
       rw [w64_in (n:=(h:Int) + 1) (by omega) (by omega)]
       have hkk:ky Meet.day l h ≤ ky Meet.day l (mid + m - 1 - h):=by rw [ky_eq Meet.day (l:=l) (i:=h) (by omega),ky_eq Meet.day (l:=l) (i:=mid + m - 1 - h) (by omega)];exact Int.not_lt.1 hk
       refine ⟨(h + 1,j),⟨by simp only;omega,by simp only;omega,hj,srch_up hsr hs1 hs2 t1 t3 t4 hih.1 hih.2 hj hkk hi⟩,by simp only;omega,?_⟩
       (refine ent_id ?_ ?_ ?_ rfl rfl <;> dsimp only [meetL,id,go_sem,rA,rM,rS] <;> simp [meetL,KFR_iff,KFR_app,KFR,KFL,KF,mtL_same,mtO,nbr])
   refine br_f (by simp;omega) ?_
   dsimp only [go_sem,rA,rM,rS]
   have cut:=cut_of (s:=i) ham hmb hm1'.1 hm1'.2 s0 r0 hs0 hr0 hi (by omega) (by rwa [show j = i from by omega] at hsr)
   rw [w64_in (n:=(mid:Int) + (m:Int) - (i:Int)) (by omega) (by omega),show (mid:Int) + (m:Int) - (i:Int) = ((mid + m - i:Nat):Int) from by omega]
   by_cases hr:i < m ∧ m < mid + m - i
   · rw [show decide ((i:Int) < (m:Int)) = true from by simp;omega]
     repeat (refine .inl ⟨rfl,?_⟩;(repeat first | dsimp only [go_sem,rA,rM,rS] | simp only [nbr]))
     refine br_t (by simp;omega) ?_
     dsimp only [go_sem,rA,rM,rS]
     refine callmP [0] (rot_ok v i m (mid + m - i) l hr.1 hr.2 (by omega) hL) rfl rfl rfl ?_ ?_ ?_
     · (repeat first | dsimp only [go_sem,rA,rM,rS] | simp only [nbr])
       simp [mtL,mtB,mtS]
     · (repeat first | dsimp only [go_sem,rA,rM,rS] | simp only [nbr])
       simp [KFR_iff,meetL,KFL,KF]
     rintro _ ⟨l1,hp1,hk1,rfl⟩
     (repeat first | dsimp only [rowO,go_sem,rA,rM,rS] | simp only [nbr])
     have cd:=cutd_rot Meet.day cut hs1 hs2 hk1
     have pp:PIn a b l l1:=hp1.mono (by omega) (by have:=cut.e1;omega)
     have hl1:=pp.len
     by_cases hf:a < i ∧ i < mid
     · rw [show decide ((a:Int) < (i:Int)) = true from by simp;omega]
       repeat (refine .inl ⟨rfl,?_⟩;(repeat first | dsimp only [go_sem,rA,rM,rS] | simp only [nbr]))
       refine br_t (by simp;omega) ?_
       dsimp only [go_sem,rA,rM,rS]
       refine callmP [0] (ih a i mid l1 (by omega) hf.1 hf.2 (by omega) (by omega) cd.s1 cd.s2) rfl rfl rfl ?_ ?_ ?_
       · (repeat first | dsimp only [go_sem,rA,rM,rS] | simp only [nbr])
         simp [mtL,mtB,mtS]
       · (repeat first | dsimp only [go_sem,rA,rM,rS] | simp only [nbr])
         simp [KFR_iff,meetL,KFL,KF]
       rintro _ ⟨l2,hp2,hs3,rfl⟩
       (repeat first | dsimp only [rowO,go_sem,rA,rM,rS] | simp only [nbr])
       have ce:=cutl_rec Meet.day cd hp2 hs3 (by omega)
       have pq:PIn a b l l2:=pp.trans (hp2.mono (by omega) (by omega))
       have hl2:=pq.len
       by_cases hg:mid < mid + m - i ∧ mid + m - i < b
       · rw [show decide ((mid:Int) < ((mid + m - i:Nat):Int)) = true from by simp;omega]
         repeat (refine .inl ⟨rfl,?_⟩;(repeat first | dsimp only [go_sem,rA,rM,rS] | simp only [nbr]))
         refine br_t (by simp;omega) ?_
         dsimp only [go_sem,rA,rM,rS]
         refine callmP [0] (ih mid (mid + m - i) b l2 (by omega) hg.1 hg.2 (by omega) (by omega) ce.s3 ce.s4) rfl rfl rfl ?_ ?_ ?_
         · (repeat first | dsimp only [go_sem,rA,rM,rS] | simp only [nbr])
           simp [mtL,mtB,mtS]
         · (repeat first | dsimp only [go_sem,rA,rM,rS] | simp only [nbr])
           simp [KFR_iff,meetL,KFL,KF]
         rintro _ ⟨l3,hp3,hs4,rfl⟩
         (repeat first | dsimp only [rowO,go_sem,rA,rM,rS] | simp only [nbr])
         refine ⟨_,⟨l3,pq.trans (hp3.mono (by omega) (by omega)),cut_rec Meet.day ce hp3 hs4 (by omega),rfl⟩,?_⟩
         try simp only [rowO]
         (refine entO_id ?_ ?_ ?_ rfl <;> dsimp only [meetL,id,go_sem,rA,rM,rS] <;> simp [meetL,KFR_iff,KFR_app,KFR,KFL,KF,mtL_same,mtO,nbr])
       · skip
         repeat (refine gb ?_;(repeat first | dsimp only [go_sem,rA,rM,rS] | simp only [nbr]))
         refine br_f (by simp;omega) ?_
         dsimp only [go_sem,rA,rM,rS]
         refine ⟨_,⟨l2,pq,cut_no Meet.day ce hg,rfl⟩,?_⟩
         try simp only [rowO]
         (refine entO_id ?_ ?_ ?_ rfl <;> dsimp only [meetL,id,go_sem,rA,rM,rS] <;> simp [meetL,KFR_iff,KFR_app,KFR,KFL,KF,mtL_same,mtO,nbr])
     · skip
       repeat (refine gb ?_;(repeat first | dsimp only [go_sem,rA,rM,rS] | simp only [nbr]))
       refine br_f (by simp;omega) ?_
       dsimp only [go_sem,rA,rM,rS]
       have ce:=cutl_no Meet.day cd hf
       have pq:=pp
       have hl2:=pq.len
       by_cases hg:mid < mid + m - i ∧ mid + m - i < b
       · rw [show decide ((mid:Int) < ((mid + m - i:Nat):Int)) = true from by simp;omega]
         repeat (refine .inl ⟨rfl,?_⟩;(repeat first | dsimp only [go_sem,rA,rM,rS] | simp only [nbr]))
         refine br_t (by simp;omega) ?_
         dsimp only [go_sem,rA,rM,rS]
         refine callmP [0] (ih mid (mid + m - i) b l1 (by omega) hg.1 hg.2 (by omega) (by omega) ce.s3 ce.s4) rfl rfl rfl ?_ ?_ ?_
         · (repeat first | dsimp only [go_sem,rA,rM,rS] | simp only [nbr])
           simp [mtL,mtB,mtS]
         · (repeat first | dsimp only [go_sem,rA,rM,rS] | simp only [nbr])
           simp [KFR_iff,meetL,KFL,KF]
         rintro _ ⟨l3,hp3,hs4,rfl⟩
         (repeat first | dsimp only [rowO,go_sem,rA,rM,rS] | simp only [nbr])
         refine ⟨_,⟨l3,pq.trans (hp3.mono (by omega) (by omega)),cut_rec Meet.day ce hp3 hs4 (by omega),rfl⟩,?_⟩
         try simp only [rowO]
         (refine entO_id ?_ ?_ ?_ rfl <;> dsimp only [meetL,id,go_sem,rA,rM,rS] <;> simp [meetL,KFR_iff,KFR_app,KFR,KFL,KF,mtL_same,mtO,nbr])
       · skip
         repeat (refine gb ?_;(repeat first | dsimp only [go_sem,rA,rM,rS] | simp only [nbr]))
         refine br_f (by simp;omega) ?_
         dsimp only [go_sem,rA,rM,rS]
         refine ⟨_,⟨l1,pq,cut_no Meet.day ce hg,rfl⟩,?_⟩
         try simp only [rowO]
         (refine entO_id ?_ ?_ ?_ rfl <;> dsimp only [meetL,id,go_sem,rA,rM,rS] <;> simp [meetL,KFR_iff,KFR_app,KFR,KFL,KF,mtL_same,mtO,nbr])
   · skip
     repeat (refine gb ?_;(repeat first | dsimp only [go_sem,rA,rM,rS] | simp only [nbr]))
     refine br_f (by simp;omega) ?_
     dsimp only [go_sem,rA,rM,rS]
     have cd:=cutd_no Meet.day cut hs1 hs2 hr
     have pp:PIn a b l l:=.refl _ _ _
     have hl1:=pp.len
     by_cases hf:a < i ∧ i < mid
     · rw [show decide ((a:Int) < (i:Int)) = true from by simp;omega]
       repeat (refine .inl ⟨rfl,?_⟩;(repeat first | dsimp only [go_sem,rA,rM,rS] | simp only [nbr]))
       refine br_t (by simp;omega) ?_
       dsimp only [go_sem,rA,rM,rS]
       refine callmP [0] (ih a i mid l (by omega) hf.1 hf.2 (by omega) (by omega) cd.s1 cd.s2) rfl rfl rfl ?_ ?_ ?_
       · (repeat first | dsimp only [go_sem,rA,rM,rS] | simp only [nbr])
         simp [mtL,mtB,mtS]
       · (repeat first | dsimp only [go_sem,rA,rM,rS] | simp only [nbr])
         simp [KFR_iff,meetL,KFL,KF]
       rintro _ ⟨l2,hp2,hs3,rfl⟩
       (repeat first | dsimp only [rowO,go_sem,rA,rM,rS] | simp only [nbr])
       have ce:=cutl_rec Meet.day cd hp2 hs3 (by omega)
       have pq:PIn a b l l2:=pp.trans (hp2.mono (by omega) (by omega))
       have hl2:=pq.len
       by_cases hg:mid < mid + m - i ∧ mid + m - i < b
       · rw [show decide ((mid:Int) < ((mid + m - i:Nat):Int)) = true from by simp;omega]
         repeat (refine .inl ⟨rfl,?_⟩;(repeat first | dsimp only [go_sem,rA,rM,rS] | simp only [nbr]))
         refine br_t (by simp;omega) ?_
         dsimp only [go_sem,rA,rM,rS]
         refine callmP [0] (ih mid (mid + m - i) b l2 (by omega) hg.1 hg.2 (by omega) (by omega) ce.s3 ce.s4) rfl rfl rfl ?_ ?_ ?_
         · (repeat first | dsimp only [go_sem,rA,rM,rS] | simp only [nbr])
           simp [mtL,mtB,mtS]
         · (repeat first | dsimp only [go_sem,rA,rM,rS] | simp only [nbr])
           simp [KFR_iff,meetL,KFL,KF]
         rintro _ ⟨l3,hp3,hs4,rfl⟩
         (repeat first | dsimp only [rowO,go_sem,rA,rM,rS] | simp only [nbr])
         refine ⟨_,⟨l3,pq.trans (hp3.mono (by omega) (by omega)),cut_rec Meet.day ce hp3 hs4 (by omega),rfl⟩,?_⟩
         try simp only [rowO]
         (refine entO_id ?_ ?_ ?_ rfl <;> dsimp only [meetL,id,go_sem,rA,rM,rS] <;> simp [meetL,KFR_iff,KFR_app,KFR,KFL,KF,mtL_same,mtO,nbr])
       · skip
         repeat (refine gb ?_;(repeat first | dsimp only [go_sem,rA,rM,rS] | simp only [nbr]))
         refine br_f (by simp;omega) ?_
         dsimp only [go_sem,rA,rM,rS]
         refine ⟨_,⟨l2,pq,cut_no Meet.day ce hg,rfl⟩,?_⟩
         try simp only [rowO]
         (refine entO_id ?_ ?_ ?_ rfl <;> dsimp only [meetL,id,go_sem,rA,rM,rS] <;> simp [meetL,KFR_iff,KFR_app,KFR,KFL,KF,mtL_same,mtO,nbr])
     · skip
       repeat (refine gb ?_;(repeat first | dsimp only [go_sem,rA,rM,rS] | simp only [nbr]))
       refine br_f (by simp;omega) ?_
       dsimp only [go_sem,rA,rM,rS]
       have ce:=cutl_no Meet.day cd hf
       have pq:=pp
       have hl2:=pq.len
       by_cases hg:mid < mid + m - i ∧ mid + m - i < b
       · rw [show decide ((mid:Int) < ((mid + m - i:Nat):Int)) = true from by simp;omega]
         repeat (refine .inl ⟨rfl,?_⟩;(repeat first | dsimp only [go_sem,rA,rM,rS] | simp only [nbr]))
         refine br_t (by simp;omega) ?_
         dsimp only [go_sem,rA,rM,rS]
         refine callmP [0] (ih mid (mid + m - i) b l (by omega) hg.1 hg.2 (by omega) (by omega) ce.s3 ce.s4) rfl rfl rfl ?_ ?_ ?_
         · (repeat first | dsimp only [go_sem,rA,rM,rS] | simp only [nbr])
           simp [mtL,mtB,mtS]
         · (repeat first | dsimp only [go_sem,rA,rM,rS] | simp only [nbr])
           simp [KFR_iff,meetL,KFL,KF]
         rintro _ ⟨l3,hp3,hs4,rfl⟩
         (repeat first | dsimp only [rowO,go_sem,rA,rM,rS] | simp only [nbr])
         refine ⟨_,⟨l3,pq.trans (hp3.mono (by omega) (by omega)),cut_rec Meet.day ce hp3 hs4 (by omega),rfl⟩,?_⟩
         try simp only [rowO]
         (refine entO_id ?_ ?_ ?_ rfl <;> dsimp only [meetL,id,go_sem,rA,rM,rS] <;> simp [meetL,KFR_iff,KFR_app,KFR,KFL,KF,mtL_same,mtO,nbr])
       · skip
         repeat (refine gb ?_;(repeat first | dsimp only [go_sem,rA,rM,rS] | simp only [nbr]))
         refine br_f (by simp;omega) ?_
         dsimp only [go_sem,rA,rM,rS]
         refine ⟨_,⟨l,pq,cut_no Meet.day ce hg,rfl⟩,?_⟩
         try simp only [rowO]
         (refine entO_id ?_ ?_ ?_ rfl <;> dsimp only [meetL,id,go_sem,rA,rM,rS] <;> simp [meetL,KFR_iff,KFR_app,KFR,KFL,KF,mtL_same,mtO,nbr])
 · refine br_f (by simp;omega) ?_
   dsimp only [go_sem,rA,rM,rS]
   rw [w64_in (n:=(mid:Int) + (m:Int) - 1) (by omega) (by omega)]
   have hA:(a:Int) = (s0:Int):=by rw [if_neg hgt] at hs0;omega
   have hM:(m:Int) = (r0:Int):=by rw [if_neg hgt] at hr0;omega
   refine loopO (fun s:Nat × Nat=>[(20,I (s.1:Nat)),(21,I (s.2:Nat))]) (fun _=>[]) (fun s=>s0 ≤ s.1 ∧ s.1 ≤ s.2 ∧ s.2 ≤ r0 ∧ Srch (mid + m - 1) s0 r0 s.1 s.2 (ky Meet.day l)) (fun s=>s.2 - s.1) (s0,r0) ⟨Nat.le_refl _,t2,Nat.le_refl _,srch_start _ _ _ _⟩ ?_ ?_
   · have e3:s0 = a:=by omega
     have e4:r0 = m:=by omega
     subst e3;subst e4;(refine ent_id ?_ ?_ ?_ rfl rfl <;> dsimp only [meetL,id,go_sem,rA,rM,rS] <;> simp [meetL,KFR_iff,KFR_app,KFR,KFL,KF,mtL_same,mtO,nbr])
   rintro ⟨i,j⟩ ⟨hi,hij,hj,hsr⟩
   simp only at hi hij hj hsr
   dsimp only [go_sem,rA,rM,rS]
   by_cases hlt:i < j
   · refine br_t (by simpa using hlt) ?_
     dsimp only [go_sem,rA,rM,rS]
     simp (disch:=omega) only [w64_in]
     rw [uwn (by omega) (by omega)]
     refine raw_bin rfl (.inr rfl) (half_run _ (by omega)) rfl ?_
     dsimp only [go_sem,rA,rM,rS]
     obtain ⟨h,hh⟩:∃ h:Nat,((i:Int) + (j:Int)) / 2 = (h:Int):=⟨(i + j) / 2,by omega⟩
     rw [hh,w64_in (n:=(h:Int)) (by omega) (by omega)]
     have hih:i ≤ h ∧ h < j:=by omega
     have hph:=t4 h (by omega) (by omega)
     rw [w64_in (n:=(mid:Int) + (m:Int) - 1 - (h:Int)) (by omega) (by omega)]
     (repeat first | dsimp only [go_sem,rA,rM,rS] | simp only [nbr])
     refine ixrm (mid + m - 1 - h) (by omega) (by simp;omega) ?_
     (repeat first | dsimp only [go_sem,rA,rM,rS] | simp only [nbr])
     refine ldrm (by omega) ?_
     (repeat first | dsimp only [meetL,go_sem,rA,rM,rS] | simp only [nbr])
     refine ixrm h rfl (by simp;omega) ?_
     (repeat first | dsimp only [go_sem,rA,rM,rS] | simp only [nbr])
     refine ldrm (by omega) ?_
     (repeat first | dsimp only [meetL,go_sem,rA,rM,rS] | simp only [nbr])
     refine call (less_ok l[mid + m - 1 - h] l[h]) ?_
     (repeat first | dsimp only [go_sem,rA,rM,rS] | simp only [nbr])
     by_cases hk:l[mid + m - 1 - h].day < l[h].day
     · refine br_f (by simp [cmpZ,hk]) ?_
       dsimp only [go_sem,rA,rM,rS]
       have hkk:ky Meet.day l (mid + m - 1 - h) < ky Meet.day l h:=by rw [ky_eq Meet.day (l:=l) (i:=h) (by omega),ky_eq Meet.day (l:=l) (i:=mid + m - 1 - h) (by omega)];exact hk
       refine ⟨(i,h),⟨hi,by simp only;omega,by simp only;omega,srch_down hsr hs1 hs2 t1 t3 t4 hih.1 hih.2 hj hkk hi⟩,by simp only;omega,?_⟩
       (refine ent_id ?_ ?_ ?_ rfl rfl <;> dsimp only [meetL,id,go_sem,rA,rM,rS] <;> simp [meetL,KFR_iff,KFR_app,KFR,KFL,KF,mtL_same,mtO,nbr])
     · refine br_t (by simp [cmpZ,hk];split <;> decide) ?_
       dsimp only [go_sem,rA,rM,rS]
       rw [w64_in (n:=(h:Int) + 1) (by omega) (by omega)]
       have hkk:ky Meet.day l h ≤ ky Meet.day l (mid + m - 1 - h):=by rw [ky_eq Meet.day (l:=l) (i:=h) (by omega),ky_eq Meet.day (l:=l) (i:=mid + m - 1 - h) (by omega)];exact Int.not_lt.1 hk
       refine ⟨(h + 1,j),⟨by simp only;omega,by simp only;omega,hj,srch_up hsr hs1 hs2 t1 t3 t4 hih.1 hih.2 hj hkk hi⟩,by simp only;omega,?_⟩
       (refine ent_id ?_ ?_ ?_ rfl rfl <;> dsimp only [meetL,id,go_sem,rA,rM,rS] <;> simp [meetL,KFR_iff,KFR_app,KFR,KFL,KF,mtL_same,mtO,nbr])
   refine br_f (by simp;omega) ?_
   dsimp only [go_sem,rA,rM,rS]
   have cut:=cut_of (s:=i) ham hmb hm1'.1 hm1'.2 s0 r0 hs0 hr0 hi (by omega) (by rwa [show j = i from by omega] at hsr)
   rw [w64_in (n:=(mid:Int) + (m:Int) - (i:Int)) (by omega) (by omega),show (mid:Int) + (m:Int) - (i:Int) = ((mid + m - i:Nat):Int) from by omega]
   by_cases hr:i < m ∧ m < mid + m - i
   · rw [show decide ((i:Int) < (m:Int)) = true from by simp;omega]
     repeat (refine .inl ⟨rfl,?_⟩;(repeat first | dsimp only [go_sem,rA,rM,rS] | simp only [nbr]))
     refine br_t (by simp;omega) ?_
     dsimp only [go_sem,rA,rM,rS]
     refine callmP [0] (rot_ok v i m (mid + m - i) l hr.1 hr.2 (by omega) hL) rfl rfl rfl ?_ ?_ ?_
     · (repeat first | dsimp only [go_sem,rA,rM,rS] | simp only [nbr])
       simp [mtL,mtB,mtS]
     · (repeat first | dsimp only [go_sem,rA,rM,rS] | simp only [nbr])
       simp [KFR_iff,meetL,KFL,KF]
     rintro _ ⟨l1,hp1,hk1,rfl⟩
     (repeat first | dsimp only [rowO,go_sem,rA,rM,rS] | simp only [nbr])
     have cd:=cutd_rot Meet.day cut hs1 hs2 hk1
     have pp:PIn a b l l1:=hp1.mono (by omega) (by have:=cut.e1;omega)
     have hl1:=pp.len
     by_cases hf:a < i ∧ i < mid
     · rw [show decide ((a:Int) < (i:Int)) = true from by simp;omega]
       repeat (refine .inl ⟨rfl,?_⟩;(repeat first | dsimp only [go_sem,rA,rM,rS] | simp only [nbr]))
       refine br_t (by simp;omega) ?_
       dsimp only [go_sem,rA,rM,rS]
       refine callmP [0] (ih a i mid l1 (by omega) hf.1 hf.2 (by omega) (by omega) cd.s1 cd.s2) rfl rfl rfl ?_ ?_ ?_
       · (repeat first | dsimp only [go_sem,rA,rM,rS] | simp only [nbr])
         simp [mtL,mtB,mtS]
       · (repeat first | dsimp only [go_sem,rA,rM,rS] | simp only [nbr])
         simp [KFR_iff,meetL,KFL,KF]
       rintro _ ⟨l2,hp2,hs3,rfl⟩
       (repeat first | dsimp only [rowO,go_sem,rA,rM,rS] | simp only [nbr])
       have ce:=cutl_rec Meet.day cd hp2 hs3 (by omega)
       have pq:PIn a b l l2:=pp.trans (hp2.mono (by omega) (by omega))
       have hl2:=pq.len
       by_cases hg:mid < mid + m - i ∧ mid + m - i < b
       · rw [show decide ((mid:Int) < ((mid + m - i:Nat):Int)) = true from by simp;omega]
         repeat (refine .inl ⟨rfl,?_⟩;(repeat first | dsimp only [go_sem,rA,rM,rS] | simp only [nbr]))
         refine br_t (by simp;omega) ?_
         dsimp only [go_sem,rA,rM,rS]
         refine callmP [0] (ih mid (mid + m - i) b l2 (by omega) hg.1 hg.2 (by omega) (by omega) ce.s3 ce.s4) rfl rfl rfl ?_ ?_ ?_
         · (repeat first | dsimp only [go_sem,rA,rM,rS] | simp only [nbr])
           simp [mtL,mtB,mtS]
         · (repeat first | dsimp only [go_sem,rA,rM,rS] | simp only [nbr])
           simp [KFR_iff,meetL,KFL,KF]
         rintro _ ⟨l3,hp3,hs4,rfl⟩
         (repeat first | dsimp only [rowO,go_sem,rA,rM,rS] | simp only [nbr])
         refine ⟨_,⟨l3,pq.trans (hp3.mono (by omega) (by omega)),cut_rec Meet.day ce hp3 hs4 (by omega),rfl⟩,?_⟩
         try simp only [rowO]
         (refine entO_id ?_ ?_ ?_ rfl <;> dsimp only [meetL,id,go_sem,rA,rM,rS] <;> simp [meetL,KFR_iff,KFR_app,KFR,KFL,KF,mtL_same,mtO,nbr])
       · skip
         repeat (refine gb ?_;(repeat first | dsimp only [go_sem,rA,rM,rS] | simp only [nbr]))
         refine br_f (by simp;omega) ?_
         dsimp only [go_sem,rA,rM,rS]
         refine ⟨_,⟨l2,pq,cut_no Meet.day ce hg,rfl⟩,?_⟩
         try simp only [rowO]
         (refine entO_id ?_ ?_ ?_ rfl <;> dsimp only [meetL,id,go_sem,rA,rM,rS] <;> simp [meetL,KFR_iff,KFR_app,KFR,KFL,KF,mtL_same,mtO,nbr])
     · skip
       repeat (refine gb ?_;(repeat first | dsimp only [go_sem,rA,rM,rS] | simp only [nbr]))
       refine br_f (by simp;omega) ?_
       dsimp only [go_sem,rA,rM,rS]
       have ce:=cutl_no Meet.day cd hf
       have pq:=pp
       have hl2:=pq.len
       by_cases hg:mid < mid + m - i ∧ mid + m - i < b
       · rw [show decide ((mid:Int) < ((mid + m - i:Nat):Int)) = true from by simp;omega]
         repeat (refine .inl ⟨rfl,?_⟩;(repeat first | dsimp only [go_sem,rA,rM,rS] | simp only [nbr]))
         refine br_t (by simp;omega) ?_
         dsimp only [go_sem,rA,rM,rS]
         refine callmP [0] (ih mid (mid + m - i) b l1 (by omega) hg.1 hg.2 (by omega) (by omega) ce.s3 ce.s4) rfl rfl rfl ?_ ?_ ?_
         · (repeat first | dsimp only [go_sem,rA,rM,rS] | simp only [nbr])
           simp [mtL,mtB,mtS]
         · (repeat first | dsimp only [go_sem,rA,rM,rS] | simp only [nbr])
           simp [KFR_iff,meetL,KFL,KF]
         rintro _ ⟨l3,hp3,hs4,rfl⟩
         (repeat first | dsimp only [rowO,go_sem,rA,rM,rS] | simp only [nbr])
         refine ⟨_,⟨l3,pq.trans (hp3.mono (by omega) (by omega)),cut_rec Meet.day ce hp3 hs4 (by omega),rfl⟩,?_⟩
         try simp only [rowO]
         (refine entO_id ?_ ?_ ?_ rfl <;> dsimp only [meetL,id,go_sem,rA,rM,rS] <;> simp [meetL,KFR_iff,KFR_app,KFR,KFL,KF,mtL_same,mtO,nbr])
       · skip
         repeat (refine gb ?_;(repeat first | dsimp only [go_sem,rA,rM,rS] | simp only [nbr]))
         refine br_f (by simp;omega) ?_
         dsimp only [go_sem,rA,rM,rS]
         refine ⟨_,⟨l1,pq,cut_no Meet.day ce hg,rfl⟩,?_⟩
         try simp only [rowO]
         (refine entO_id ?_ ?_ ?_ rfl <;> dsimp only [meetL,id,go_sem,rA,rM,rS] <;> simp [meetL,KFR_iff,KFR_app,KFR,KFL,KF,mtL_same,mtO,nbr])
   · skip
     repeat (refine gb ?_;(repeat first | dsimp only [go_sem,rA,rM,rS] | simp only [nbr]))
     refine br_f (by simp;omega) ?_
     dsimp only [go_sem,rA,rM,rS]
     have cd:=cutd_no Meet.day cut hs1 hs2 hr
     have pp:PIn a b l l:=.refl _ _ _
     have hl1:=pp.len
     by_cases hf:a < i ∧ i < mid
     · rw [show decide ((a:Int) < (i:Int)) = true from by simp;omega]
       repeat (refine .inl ⟨rfl,?_⟩;(repeat first | dsimp only [go_sem,rA,rM,rS] | simp only [nbr]))
       refine br_t (by simp;omega) ?_
       dsimp only [go_sem,rA,rM,rS]
       refine callmP [0] (ih a i mid l (by omega) hf.1 hf.2 (by omega) (by omega) cd.s1 cd.s2) rfl rfl rfl ?_ ?_ ?_
       · (repeat first | dsimp only [go_sem,rA,rM,rS] | simp only [nbr])
         simp [mtL,mtB,mtS]
       · (repeat first | dsimp only [go_sem,rA,rM,rS] | simp only [nbr])
         simp [KFR_iff,meetL,KFL,KF]
       rintro _ ⟨l2,hp2,hs3,rfl⟩
       (repeat first | dsimp only [rowO,go_sem,rA,rM,rS] | simp only [nbr])
       have ce:=cutl_rec Meet.day cd hp2 hs3 (by omega)
       have pq:PIn a b l l2:=pp.trans (hp2.mono (by omega) (by omega))
       have hl2:=pq.len
       by_cases hg:mid < mid + m - i ∧ mid + m - i < b
       · rw [show decide ((mid:Int) < ((mid + m - i:Nat):Int)) = true from by simp;omega]
         repeat (refine .inl ⟨rfl,?_⟩;(repeat first | dsimp only [go_sem,rA,rM,rS] | simp only [nbr]))
         refine br_t (by simp;omega) ?_
         dsimp only [go_sem,rA,rM,rS]
         refine callmP [0] (ih mid (mid + m - i) b l2 (by omega) hg.1 hg.2 (by omega) (by omega) ce.s3 ce.s4) rfl rfl rfl ?_ ?_ ?_
         · (repeat first | dsimp only [go_sem,rA,rM,rS] | simp only [nbr])
           simp [mtL,mtB,mtS]
         · (repeat first | dsimp only [go_sem,rA,rM,rS] | simp only [nbr])
           simp [KFR_iff,meetL,KFL,KF]
         rintro _ ⟨l3,hp3,hs4,rfl⟩
         (repeat first | dsimp only [rowO,go_sem,rA,rM,rS] | simp only [nbr])
         refine ⟨_,⟨l3,pq.trans (hp3.mono (by omega) (by omega)),cut_rec Meet.day ce hp3 hs4 (by omega),rfl⟩,?_⟩
         try simp only [rowO]
         (refine entO_id ?_ ?_ ?_ rfl <;> dsimp only [meetL,id,go_sem,rA,rM,rS] <;> simp [meetL,KFR_iff,KFR_app,KFR,KFL,KF,mtL_same,mtO,nbr])
       · skip
         repeat (refine gb ?_;(repeat first | dsimp only [go_sem,rA,rM,rS] | simp only [nbr]))
         refine br_f (by simp;omega) ?_
         dsimp only [go_sem,rA,rM,rS]
         refine ⟨_,⟨l2,pq,cut_no Meet.day ce hg,rfl⟩,?_⟩
         try simp only [rowO]
         (refine entO_id ?_ ?_ ?_ rfl <;> dsimp only [meetL,id,go_sem,rA,rM,rS] <;> simp [meetL,KFR_iff,KFR_app,KFR,KFL,KF,mtL_same,mtO,nbr])
     · skip
       repeat (refine gb ?_;(repeat first | dsimp only [go_sem,rA,rM,rS] | simp only [nbr]))
       refine br_f (by simp;omega) ?_
       dsimp only [go_sem,rA,rM,rS]
       have ce:=cutl_no Meet.day cd hf
       have pq:=pp
       have hl2:=pq.len
       by_cases hg:mid < mid + m - i ∧ mid + m - i < b
       · rw [show decide ((mid:Int) < ((mid + m - i:Nat):Int)) = true from by simp;omega]
         repeat (refine .inl ⟨rfl,?_⟩;(repeat first | dsimp only [go_sem,rA,rM,rS] | simp only [nbr]))
         refine br_t (by simp;omega) ?_
         dsimp only [go_sem,rA,rM,rS]
         refine callmP [0] (ih mid (mid + m - i) b l (by omega) hg.1 hg.2 (by omega) (by omega) ce.s3 ce.s4) rfl rfl rfl ?_ ?_ ?_
         · (repeat first | dsimp only [go_sem,rA,rM,rS] | simp only [nbr])
           simp [mtL,mtB,mtS]
         · (repeat first | dsimp only [go_sem,rA,rM,rS] | simp only [nbr])
           simp [KFR_iff,meetL,KFL,KF]
         rintro _ ⟨l3,hp3,hs4,rfl⟩
         (repeat first | dsimp only [rowO,go_sem,rA,rM,rS] | simp only [nbr])
         refine ⟨_,⟨l3,pq.trans (hp3.mono (by omega) (by omega)),cut_rec Meet.day ce hp3 hs4 (by omega),rfl⟩,?_⟩
         try simp only [rowO]
         (refine entO_id ?_ ?_ ?_ rfl <;> dsimp only [meetL,id,go_sem,rA,rM,rS] <;> simp [meetL,KFR_iff,KFR_app,KFR,KFL,KF,mtL_same,mtO,nbr])
       · skip
         repeat (refine gb ?_;(repeat first | dsimp only [go_sem,rA,rM,rS] | simp only [nbr]))
         refine br_f (by simp;omega) ?_
         dsimp only [go_sem,rA,rM,rS]
         refine ⟨_,⟨l,pq,cut_no Meet.day ce hg,rfl⟩,?_⟩
         try simp only [rowO]
         (refine entO_id ?_ ?_ ?_ rfl <;> dsimp only [meetL,id,go_sem,rA,rM,rS] <;> simp [meetL,KFR_iff,KFR_app,KFR,KFL,KF,mtL_same,mtO,nbr])
end Go.Proofs.Ytnlfjchbhgikaaa
namespace Go.Azalai
section
variable {α : Type} (key:α → Int)
def Blk (s a b:Nat) (l:List α):Prop:=∀ p q,a ≤ p → p < q → q < b → p / s = q / s → ky key l p ≤ ky key l q
theorem blk_none {s:Nat} {l:List α}:Blk key s 0 0 l:=fun p q h1 h2 h3=>by omega
theorem in_blk {s c p q:Nat} (h:p / s = q / s) (h1:s * c ≤ q) (hs:0 < s):s * c ≤ p:=by
 have e1:c ≤ q / s:=(Nat.le_div_iff_mul_le hs).2 (by rw [Nat.mul_comm];exact h1)
 rw [← h] at e1
 have:=(Nat.le_div_iff_mul_le hs).1 e1
 rwa [Nat.mul_comm] at this
theorem blk_step {s c b:Nat} {l l':List α} (hs:0 < s) (h:Blk key s 0 (s * c) l) (hp:PIn (s * c) b l l') (h':Srt key (s * c) b l'):Blk key s 0 b l':=fun p q g1 g2 g3 e=>by
 by_cases hq:q < s * c
 · rw [hp.ky key (.inl (by omega)),hp.ky key (.inl hq)];exact h p q g1 g2 hq e
 · exact h' p q (in_blk e (by omega) hs) g2 g3
theorem blk_rest {s a b n:Nat} {l l':List α} (h:Blk key s a n l) (hp:PIn a b l l') (hab:a ≤ b):Blk key s b n l':=fun p q g1 g2 g3 e=>by
 rw [hp.ky key (.inr g1),hp.ky key (.inr (by omega))];exact h p q (by omega) g2 g3 e
theorem same_blk {s c p:Nat} (h1:s * c ≤ p) (h2:p < s * c + s):p / s = c:=by
 have hs:0 < s:=by omega
 apply Nat.le_antisymm
 · have:p / s < c + 1:=(Nat.div_lt_iff_lt_mul hs).2 (by rw [Nat.add_mul,Nat.one_mul,Nat.mul_comm];exact h2)
   omega
 · exact (Nat.le_div_iff_mul_le hs).2 (by rw [Nat.mul_comm];exact h1)
theorem blk_srt {s c a b n:Nat} {l:List α} (h:Blk key s a n l) (ha:a ≤ s * c) (hb:b ≤ s * c + s) (hn:b ≤ n):Srt key (s * c) b l:=fun p q g1 g2 g3=>by
 refine h p q (by omega) g2 (by omega) ?_
 rw [same_blk g1 (by omega),same_blk (c:=c) (p:=q) (by omega) (by omega)]
end
end Go.Azalai
set_option maxRecDepth 100000
set_option maxHeartbeats 4000000
namespace Go.Proofs.Ytnlfjchbhgikaaa
open Go Go.Sx Go.Azalai
theorem stb_ok (v n:Nat) (l:List Meet) (hn:n = l.length) (hL:l.length < 1152921504606846976) :
 CtM Try.prog 98 [(0,.row v 4 (l.map meetL) 73)] 1 [.mr 0 v,I n,.cl 81 []] (fun o=>∃ l',PIn 0 n l l' ∧ Srt Meet.day 0 n l' ∧ o = rowO v l'):=by
 refine m98 (by simp [hpb]) (fun o ho=>by obtain ⟨l',_,_,rfl⟩:=ho;simp [rowO,KX,KXL,KXP,KXH,KFR_iff,KFL,KF,meetL]) ?_
 dsimp only [c98,r98,go_sem,rA,rM,rS]
 refine loopO (fun s:Nat × List Meet=>[(7,I (20 * s.1:Nat)),(8,I (20 * s.1 + 20:Nat))]) (fun s=>[(0,.row v 4 (s.2.map meetL) 73)]) (fun s=>20 * s.1 ≤ n ∧ PIn 0 n l s.2 ∧ Blk Meet.day 20 0 (20 * s.1) s.2) (fun s=>n - 20 * s.1) (0,l) ⟨by simp only;omega,.refl _ _ _,blk_none Meet.day⟩ ?_ ?_
 · (refine ent_id ?_ ?_ ?_ rfl rfl <;> dsimp only [meetL,id,go_sem,rA,rM,rS] <;> simp [meetL,KFR_iff,KFR_app,KFR,KFL,KF,mtL_same,mtO,nbr])
 rintro ⟨c,l1⟩ ⟨hc,hp,hb⟩
 simp only at hc hp hb
 have hl1:=hp.len
 dsimp only [go_sem,rA,rM,rS]
 by_cases hlt:20 * c + 20 ≤ n
 · refine br_t (by simp;omega) ?_
   dsimp only [go_sem,rA,rM,rS]
   refine callmP [0] (inss_ok v (20 * c) (20 * c + 20) l1 (by omega) (by omega) (by omega)) rfl rfl rfl ?_ ?_ ?_
   · (repeat first | dsimp only [go_sem,rA,rM,rS] | simp only [nbr])
     simp [mtL,mtB,mtS]
   · (repeat first | dsimp only [go_sem,rA,rM,rS] | simp only [nbr])
     simp [KFR_iff,meetL,KFL,KF]
   rintro _ ⟨l2,hp2,hs2,rfl⟩
   (repeat first | dsimp only [rowO,go_sem,rA,rM,rS] | simp only [nbr])
   rw [w64_in (n:=((20 * c + 20:Nat):Int) + 20) (by omega) (by omega)]
   refine ⟨(c + 1,l2),⟨by simp only;omega,hp.trans (hp2.mono (by omega) (by omega)),?_⟩,by simp only;omega,?_⟩
   · exact blk_step Meet.day (by omega) hb hp2 hs2
   rw [show ((20 * c + 20:Nat):Int) + 20 = ((20 * (c + 1) + 20:Nat):Int) from by omega,show 20 * c + 20 = 20 * (c + 1) from by omega]
   (refine ent_id ?_ ?_ ?_ rfl rfl <;> dsimp only [meetL,id,go_sem,rA,rM,rS] <;> simp [meetL,KFR_iff,KFR_app,KFR,KFL,KF,mtL_same,mtO,nbr])
 refine br_f (by simp;omega) ?_
 dsimp only [go_sem,rA,rM,rS]
 refine callmP [0] (inss_ok v (20 * c) n l1 (by omega) (by omega) (by omega)) rfl rfl rfl ?_ ?_ ?_
 · (repeat first | dsimp only [go_sem,rA,rM,rS] | simp only [nbr])
   simp [mtL,mtB,mtS]
 · (repeat first | dsimp only [go_sem,rA,rM,rS] | simp only [nbr])
   simp [KFR_iff,meetL,KFL,KF]
 rintro _ ⟨l2,hp2,hs2,rfl⟩
 (repeat first | dsimp only [rowO,go_sem,rA,rM,rS] | simp only [nbr])
 have hb2:=blk_step Meet.day (by omega) hb hp2 hs2
 refine loopO (fun s:Nat × List Meet × Int × Int=>[(6,I (s.1:Nat)),(7,I s.2.2.1),(8,I s.2.2.2)]) (fun s=>[(0,.row v 4 (s.2.1.map meetL) 73)]) (fun s=>(0 < s.1 ∧ s.1 ≤ 2 * n + 20) ∧ PIn 0 n l s.2.1 ∧ Blk Meet.day s.1 0 n s.2.1) (fun s=>n - s.1) (20,l2,((20 * c:Nat):Int),((20 * c + 20:Nat):Int)) ⟨by simp only;omega,hp.trans (hp2.mono (by omega) (by omega)),hb2⟩ ?_ ?_
 · (refine ent_id ?_ ?_ ?_ rfl rfl <;> dsimp only [meetL,id,go_sem,rA,rM,rS] <;> simp [meetL,KFR_iff,KFR_app,KFR,KFL,KF,mtL_same,mtO,nbr])
 rintro ⟨s,l3,z1,z2⟩ ⟨⟨hs0,hs1⟩,hp3,hb3⟩
 simp only at hs0 hs1 hp3 hb3
 have hl3:=hp3.len
 dsimp only [go_sem,rA,rM,rS]
 by_cases hlt:s < n
 case neg =>
  refine br_f (by simp;omega) ?_
  dsimp only [go_sem,rA,rM,rS]
  refine ⟨_,⟨l3,hp3,?_,rfl⟩,?_⟩
  · have:=blk_srt Meet.day (c:=0) hb3 (Nat.zero_le _) (show n ≤ s * 0 + s by omega) (Nat.le_refl _)
    rwa [Nat.mul_zero] at this
  · try simp only [rowO]
    (refine entO_id ?_ ?_ ?_ rfl <;> dsimp only [meetL,id,go_sem,rA,rM,rS] <;> simp [meetL,KFR_iff,KFR_app,KFR,KFL,KF,mtL_same,mtO,nbr])
 refine br_t (by simp;omega) ?_
 dsimp only [go_sem,rA,rM,rS]
 rw [w64_in (n:=2 * (s:Int)) (by omega) (by omega)]
 refine loopO (fun z:Nat × List Meet=>[(7,I (2 * s * z.1:Nat)),(8,I (2 * s * z.1 + 2 * s:Nat))]) (fun z=>[(0,.row v 4 (z.2.map meetL) 73)]) (fun z=>2 * s * z.1 ≤ n ∧ PIn 0 n l z.2 ∧ Blk Meet.day (2 * s) 0 (2 * s * z.1) z.2 ∧ Blk Meet.day s (2 * s * z.1) n z.2) (fun z=>n - 2 * s * z.1) (0,l3) ⟨by simp only;omega,hp3,blk_none Meet.day,hb3⟩ ?_ ?_
 · rw [show 2 * (s:Int) = ((2 * s * 0 + 2 * s:Nat):Int) from by omega]
   (refine ent_id ?_ ?_ ?_ rfl rfl <;> dsimp only [meetL,id,go_sem,rA,rM,rS] <;> simp [meetL,KFR_iff,KFR_app,KFR,KFL,KF,mtL_same,mtO,nbr])
 rintro ⟨c',l4⟩ ⟨hc4,hp4,hb4,hb5⟩
 simp only at hc4 hp4 hb4 hb5
 have hl4:=hp4.len
 have e5:s * (2 * c') = 2 * s * c':=by rw [← Nat.mul_assoc,Nat.mul_comm s 2]
 have e6:s * (2 * c' + 1) = 2 * s * c' + s:=by rw [Nat.mul_add,e5,Nat.mul_one]
 have e7:2 * s * (c' + 1) = 2 * s * c' + 2 * s:=by rw [Nat.mul_add,Nat.mul_one]
 dsimp only [go_sem,rA,rM,rS]
 have hq1:2 * s * c' + s ≤ n → Srt Meet.day (2 * s * c') (2 * s * c' + s) l4:=fun h=>by
  have:=blk_srt Meet.day (c:=2 * c') (b:=2 * s * c' + s) hb5 (by omega) (by omega) (by omega)
  rwa [e5] at this
 have hq2:∀ b,b ≤ 2 * s * c' + 2 * s → b ≤ n → Srt Meet.day (2 * s * c' + s) b l4:=fun b h1 h2=>by
  have:=blk_srt Meet.day (c:=2 * c' + 1) (b:=b) hb5 (by omega) (by omega) (by omega)
  rwa [e6] at this
 have hstep:∀ b l',PIn (2 * s * c') b l4 l' → Srt Meet.day (2 * s * c') b l' → Blk Meet.day (2 * s) 0 b l':=fun b l' h1 h2=>blk_step Meet.day (by omega) hb4 h1 h2
 have hlast:n ≤ 2 * s * c' + s → Blk Meet.day (2 * s) 0 n l4:=fun h=>by
  have:=blk_srt Meet.day (c:=2 * c') (b:=n) hb5 (by omega) (by omega) (by omega)
  rw [e5] at this
  exact hstep n l4 (.refl _ _ _) this
 clear hb4
 clear e5 e6
 generalize ha:2 * s * c' = a at *
 by_cases hlt2:a + 2 * s ≤ n
 · refine br_t (by simp;omega) ?_
   dsimp only [go_sem,rA,rM,rS]
   rw [w64_in (n:=(a:Int) + (s:Int)) (by omega) (by omega),show (a:Int) + (s:Int) = ((a + s:Nat):Int) from by omega]
   refine callmP [0] (sym_ok v _ a (a + s) (a + 2 * s) l4 (Nat.le_refl _) (by omega) (by omega) (by omega) (by omega) (hq1 (by omega)) (hq2 _ (by omega) (by omega))) rfl rfl rfl ?_ ?_ ?_
   · (repeat first | dsimp only [go_sem,rA,rM,rS] | simp only [nbr])
     simp [mtL,mtB,mtS]
   · (repeat first | dsimp only [go_sem,rA,rM,rS] | simp only [nbr])
     simp [KFR_iff,meetL,KFL,KF]
   rintro _ ⟨l5,hp5,hs5,rfl⟩
   (repeat first | dsimp only [rowO,go_sem,rA,rM,rS] | simp only [nbr])
   rw [w64_in (n:=2 * (s:Int)) (by omega) (by omega),w64_in (n:=((a + 2 * s:Nat):Int) + 2 * (s:Int)) (by omega) (by omega)]
   refine ⟨(c' + 1,l5),⟨by simp only;omega,hp4.trans (hp5.mono (by omega) (by omega)),?_,?_⟩,by simp only [e7,ha];omega,?_⟩
   · simp only;rw [e7];exact hstep _ _ hp5 hs5
   · simp only;rw [e7];exact blk_rest Meet.day hb5 hp5 (by omega)
   · simp only [e7]
     rw [show ((a + 2 * s:Nat):Int) + 2 * (s:Int) = ((a + 2 * s + 2 * s:Nat):Int) from by omega]
     (refine ent_id ?_ ?_ ?_ rfl rfl <;> dsimp only [meetL,id,go_sem,rA,rM,rS] <;> simp [meetL,KFR_iff,KFR_app,KFR,KFL,KF,mtL_same,mtO,nbr])
 refine br_f (by simp;omega) ?_
 dsimp only [go_sem,rA,rM,rS]
 rw [w64_in (n:=(a:Int) + (s:Int)) (by omega) (by omega),show (a:Int) + (s:Int) = ((a + s:Nat):Int) from by omega]
 by_cases hm:a + s < n
 · refine br_t (by simp;omega) ?_
   dsimp only [go_sem,rA,rM,rS]
   refine callmP [0] (sym_ok v _ a (a + s) n l4 (Nat.le_refl _) (by omega) (by omega) (by omega) (by omega) (hq1 (by omega)) (hq2 _ (by omega) (by omega))) rfl rfl rfl ?_ ?_ ?_
   · (repeat first | dsimp only [go_sem,rA,rM,rS] | simp only [nbr])
     simp [mtL,mtB,mtS]
   · (repeat first | dsimp only [go_sem,rA,rM,rS] | simp only [nbr])
     simp [KFR_iff,meetL,KFL,KF]
   rintro _ ⟨l5,hp5,hs5,rfl⟩
   (repeat first | dsimp only [rowO,go_sem,rA,rM,rS] | simp only [nbr])
   rw [w64_in (n:=(s:Int) * 2) (by omega) (by omega),show (s:Int) * 2 = ((2 * s:Nat):Int) from by omega]
   refine ⟨(2 * s,l5,(a:Int),((a + 2 * s:Nat):Int)),⟨by simp only;omega,hp4.trans (hp5.mono (by omega) (by omega)),hstep _ _ hp5 hs5⟩,by simp only;omega,?_⟩
   (refine ent_id ?_ ?_ ?_ rfl rfl <;> dsimp only [meetL,id,go_sem,rA,rM,rS] <;> simp [meetL,KFR_iff,KFR_app,KFR,KFL,KF,mtL_same,mtO,nbr])
 refine br_f (by simp;omega) ?_
 dsimp only [go_sem,rA,rM,rS]
 rw [w64_in (n:=(s:Int) * 2) (by omega) (by omega),show (s:Int) * 2 = ((2 * s:Nat):Int) from by omega]
 refine ⟨(2 * s,l4,(a:Int),((a + 2 * s:Nat):Int)),⟨by simp only;omega,hp4,hlast (by omega)⟩,by simp only;omega,?_⟩
 (refine ent_id ?_ ?_ ?_ rfl rfl <;> dsimp only [meetL,id,go_sem,rA,rM,rS] <;> simp [meetL,KFR_iff,KFR_app,KFR,KFL,KF,mtL_same,mtO,nbr])
theorem sort_ok (v:Nat) (l:List Meet) (hL:l.length < 1152921504606846976) :
 CtM Try.prog 80 [(0,.row v 4 (l.map meetL) 73)] 1 [.mr 0 v,.cl 81 []] (fun o=>∃ l',PIn 0 l.length l l' ∧ Srt Meet.day 0 l.length l' ∧ o = rowO v l'):=by
 refine m80 (by simp [hpb]) (fun o ho=>by obtain ⟨l',_,_,rfl⟩:=ho;simp [rowO,KX,KXL,KXP,KXH,KFR_iff,KFL,KF,meetL]) ?_
 dsimp only [c80,r80,go_sem,rA,rM,rS]
 (repeat first | dsimp only [go_sem,rA,rM,rS] | simp only [nbr])
 simp only [List.length_map]
 refine callmP [0] (stb_ok v l.length l rfl hL) rfl rfl rfl ?_ ?_ ?_
 · (repeat first | dsimp only [go_sem,rA,rM,rS] | simp only [nbr])
   simp [mtL,mtB,mtS]
 · (repeat first | dsimp only [go_sem,rA,rM,rS] | simp only [nbr])
   simp [KFR_iff,meetL,KFL,KF]
 rintro _ ⟨l5,hp5,hs5,rfl⟩
 (repeat first | dsimp only [rowO,go_sem,rA,rM,rS] | simp only [nbr])
 refine ⟨_,⟨l5,hp5,hs5,rfl⟩,?_⟩
 try simp only [rowO]
 (refine entO_id ?_ ?_ ?_ rfl <;> dsimp only [meetL,id,go_sem,rA,rM,rS] <;> simp [meetL,KFR_iff,KFR_app,KFR,KFL,KF,mtL_same,mtO,nbr])
end Go.Proofs.Ytnlfjchbhgikaaa
set_option maxRecDepth 100000
namespace Go.Proofs.Ytnlfjchbhgikaaa
open Go Go.Sx
def c3:SC:=(.seq (.reg [
 ⟨some 3,.box (.t 0) 0 25,none,[]⟩,
 ⟨some 4,.box (.t 1) 0 27,none,[]⟩,
 ⟨some 5,.box (.t 2) 0 29,none,[]⟩,
 ⟨some 6,.mv (.c (.bool false)),none,[]⟩])
 (.seq (.reg [
 ⟨some 22,.ld (.t 3) 17 true,none,[]⟩,
 ⟨some 23,.ld (.t 4) 7 true,none,[]⟩,
 ⟨some 24,.call 14 [.t 22,.t 23],none,[]⟩,
 ⟨some 21,.mv (.t 24),none,[]⟩,
 ⟨some 25,.ext (.t 21) 0,none,[]⟩,
 ⟨some 26,.ext (.t 21) 1,none,[]⟩,
 ⟨some 7,.alloc [.int .i64 0,.int .i64 0] 23,none,[]⟩,
 ⟨none,.st (.t 7) (.t 25) 2,none,[]⟩,
 ⟨some 8,.mv (.t 26),none,[]⟩])
 (.seq (.reg [
 ⟨some 28,.ld (.t 3) 17 true,none,[]⟩,
 ⟨some 29,.ld (.t 4) 7 true,none,[]⟩,
 ⟨some 30,.call 15 [.t 28,.t 29],none,[]⟩,
 ⟨some 27,.mv (.t 30),none,[]⟩,
 ⟨some 31,.ext (.t 27) 0,none,[]⟩,
 ⟨some 32,.ext (.t 27) 1,none,[]⟩,
 ⟨some 9,.alloc [.int .i64 0,.int .i64 0] 23,none,[]⟩,
 ⟨none,.st (.t 9) (.t 31) 2,none,[]⟩,
 ⟨some 10,.mv (.t 32),none,[]⟩])
 (.seq (.reg [
 ⟨some 34,.ld (.t 3) 17 true,none,[]⟩,
 ⟨some 35,.ld (.t 4) 7 true,none,[]⟩,
 ⟨some 36,.call 16 [.t 34,.t 35],none,[]⟩,
 ⟨some 33,.mv (.t 36),none,[]⟩,
 ⟨some 37,.ext (.t 33) 0,none,[]⟩,
 ⟨some 38,.ext (.t 33) 1,none,[]⟩,
 ⟨some 11,.alloc [.int .i64 0,.int .i64 0] 23,none,[]⟩,
 ⟨none,.st (.t 11) (.t 37) 2,none,[]⟩,
 ⟨some 12,.mv (.t 38),none,[]⟩])
 (.seq (.reg [
 ⟨some 40,.ld (.t 3) 17 true,none,[]⟩,
 ⟨some 41,.ld (.t 4) 7 true,none,[]⟩,
 ⟨some 42,.call 17 [.t 40,.t 41],none,[]⟩,
 ⟨some 39,.mv (.t 42),none,[]⟩,
 ⟨some 43,.ext (.t 39) 0,none,[]⟩,
 ⟨some 44,.ext (.t 39) 1,none,[]⟩,
 ⟨some 13,.alloc [.int .i64 0,.int .i64 0] 23,none,[]⟩,
 ⟨none,.st (.t 13) (.t 43) 2,none,[]⟩,
 ⟨some 14,.mv (.t 44),none,[]⟩])
 (.seq (.reg [
 ⟨some 46,.ld (.t 3) 17 true,none,[]⟩,
 ⟨some 47,.addo (.t 4) 6,none,[]⟩,
 ⟨some 48,.ld (.t 47) 1 false,none,[]⟩,
 ⟨some 49,.ld (.t 5) 8 true,none,[]⟩,
 ⟨some 50,.call 18 [.t 46,.t 48,.t 49],none,[]⟩,
 ⟨some 45,.mv (.t 50),none,[]⟩,
 ⟨some 51,.ext (.t 45) 0,none,[]⟩,
 ⟨some 52,.ext (.t 45) 1,none,[]⟩,
 ⟨some 53,.ext (.t 45) 2,none,[]⟩,
 ⟨some 15,.alloc [.int .i64 0,.int .i64 0] 23,none,[]⟩,
 ⟨some 16,.alloc [.int .i64 0,.int .i64 0] 23,none,[]⟩,
 ⟨none,.st (.t 15) (.t 51) 2,none,[]⟩,
 ⟨none,.st (.t 16) (.t 52) 2,none,[]⟩,
 ⟨some 17,.mv (.t 53),none,[]⟩])
 (.seq (.reg [
 ⟨some 55,.ld (.t 3) 17 true,none,[]⟩,
 ⟨some 56,.addo (.t 4) 6,none,[]⟩,
 ⟨some 57,.ld (.t 56) 1 false,none,[]⟩,
 ⟨some 58,.ld (.t 5) 8 true,none,[]⟩,
 ⟨some 59,.call 19 [.t 55,.t 57,.t 58],none,[]⟩,
 ⟨some 54,.mv (.t 59),none,[]⟩,
 ⟨some 60,.ext (.t 54) 0,none,[]⟩,
 ⟨some 61,.ext (.t 54) 1,none,[]⟩,
 ⟨some 62,.ext (.t 54) 2,none,[]⟩,
 ⟨some 18,.alloc [.int .i64 0,.int .i64 0] 23,none,[]⟩,
 ⟨some 19,.alloc [.int .i64 0,.int .i64 0] 23,none,[]⟩,
 ⟨none,.st (.t 18) (.t 60) 2,none,[]⟩,
 ⟨none,.st (.t 19) (.t 61) 2,none,[]⟩,
 ⟨some 20,.mv (.t 62),none,[]⟩])
 (.seq (.regd [0,1,2,3,4,5,6,7,8,9,10,11,12,13,14,15,16,17,18,19,20,21,22,23,24,25,26,27,28,29,30,31,32,33,34,35,36,37,38,39,40,41,42,43,44,45,46,47,48,49] [
 .op ⟨some 63,.ld (.t 3) 17 true,none,[]⟩,
 .op ⟨some 64,.call 20 [.t 63],none,[0]⟩,
 .op ⟨some 65,.ld (.t 3) 17 true,none,[]⟩,
 .op ⟨some 66,.call 21 [.t 65],none,[1,2]⟩,
 .op ⟨some 67,.bin .eql (.t 64) (.t 66),none,[1,3]⟩,
 .op ⟨some 68,.mv (.t 67),none,[3,4]⟩,
 .op ⟨some 69,.ld (.t 3) 17 true,some (68,true),[5]⟩,
 .op ⟨some 70,.ld (.t 4) 7 true,some (68,true),[5]⟩,
 .op ⟨some 71,.call 22 [.t 69,.t 70],some (68,true),[5,6,7]⟩,
 .op ⟨some 72,.ld (.t 3) 17 true,some (68,true),[5]⟩,
 .op ⟨some 73,.ld (.t 4) 7 true,some (68,true),[5]⟩,
 .op ⟨some 74,.call 23 [.t 72,.t 73],some (68,true),[5,8,9,10]⟩,
 .op ⟨some 75,.bin .eql (.t 71) (.t 74),some (68,true),[5,8,11]⟩,
 .op ⟨some 76,.pick (.t 68) (.t 75) (.c (.bool false)),none,[5,12]⟩,
 .op ⟨some 77,.mv (.t 76),none,[11,13]⟩,
 .op ⟨some 78,.ld (.t 7) 2 true,some (77,true),[14]⟩,
 .op ⟨some 79,.ld (.t 9) 2 true,some (77,true),[14]⟩,
 .op ⟨some 80,.eqs false true [1,1] (.t 78) (.t 79),some (77,true),[14,15,16]⟩,
 .op ⟨some 81,.pick (.t 77) (.t 80) (.c (.bool false)),none,[14,17]⟩,
 .op ⟨some 82,.mv (.t 81),none,[14,18]⟩,
 .op ⟨some 83,.mv (.t 8),some (82,true),[19]⟩,
 .op ⟨some 84,.mv (.t 10),some (82,true),[19]⟩,
 .op ⟨some 85,.bin .eql (.t 83) (.t 84),some (82,true),[19,20,21]⟩,
 .op ⟨some 86,.pick (.t 82) (.t 85) (.c (.bool false)),none,[19,22]⟩,
 .op ⟨some 87,.mv (.t 86),none,[19,23]⟩,
 .op ⟨some 88,.ld (.t 11) 2 true,some (87,true),[24]⟩,
 .op ⟨some 89,.ld (.t 13) 2 true,some (87,true),[24]⟩,
 .op ⟨some 90,.eqs false true [1,1] (.t 88) (.t 89),some (87,true),[24,25,26]⟩,
 .op ⟨some 91,.pick (.t 87) (.t 90) (.c (.bool false)),none,[24,27]⟩,
 .op ⟨some 92,.mv (.t 91),none,[24,28]⟩,
 .op ⟨some 93,.mv (.t 12),some (92,true),[29]⟩,
 .op ⟨some 94,.mv (.t 14),some (92,true),[29]⟩,
 .op ⟨some 95,.bin .eql (.t 93) (.t 94),some (92,true),[29,30,31]⟩,
 .op ⟨some 96,.pick (.t 92) (.t 95) (.c (.bool false)),none,[29,32]⟩,
 .op ⟨some 97,.mv (.t 96),none,[29,33]⟩,
 .op ⟨some 98,.ld (.t 15) 2 true,some (97,true),[34]⟩,
 .op ⟨some 99,.ld (.t 18) 2 true,some (97,true),[34]⟩,
 .op ⟨some 100,.eqs false true [1,1] (.t 98) (.t 99),some (97,true),[34,35,36]⟩,
 .op ⟨some 101,.pick (.t 97) (.t 100) (.c (.bool false)),none,[34,37]⟩,
 .op ⟨some 102,.mv (.t 101),none,[34,38]⟩,
 .op ⟨some 103,.ld (.t 16) 2 true,some (102,true),[39]⟩,
 .op ⟨some 104,.ld (.t 19) 2 true,some (102,true),[39]⟩,
 .op ⟨some 105,.eqs false true [1,1] (.t 103) (.t 104),some (102,true),[39,40,41]⟩,
 .op ⟨some 106,.pick (.t 102) (.t 105) (.c (.bool false)),none,[39,42]⟩,
 .op ⟨some 107,.mv (.t 106),none,[39,43]⟩,
 .op ⟨some 108,.mv (.t 17),some (107,true),[44]⟩,
 .op ⟨some 109,.mv (.t 20),some (107,true),[44]⟩,
 .op ⟨some 110,.bin .eql (.t 108) (.t 109),some (107,true),[44,45,46]⟩,
 .op ⟨some 111,.pick (.t 107) (.t 110) (.c (.bool false)),none,[44,47]⟩,
 .op ⟨some 6,.mv (.t 111),none,[0,1,2,3,4,5,6,7,8,9,10,11,12,13,14,15,16,17,18,19,20,21,22,23,24,25,26,27,28,29,30,31,32,33,34,35,36,37,38,39,40,41,42,43,44,45,46,47,48]⟩] 0 0 [
])
 .ret))))))))
def r3:List RV:=[.tmp 6]
theorem n3:Try.f3.ntmps = 112:=by kernel_rfl
theorem b3:bodyB Try.prog 3 = true:=by kernel_rfl
theorem c3_ok:cmpC Try.prog c3 ((Try.f3.body).getD .skip) = true:=by kernel_rfl
theorem r3_ok:cmpR Try.prog r3 Try.f3.results.toList = true:=by kernel_rfl
theorem t3 {args:List SV} {res:SV} (ka:KFL args) (kr:KF res) (h:sx Try.prog Y0 0 c3 (st0 args 112) (retK r3 res)) (hA:Nat.ble args.length 112 = true:=by rfl):Ct Try.prog 3 args res:=ct_intro Try.func3 rfl b3 c3_ok r3_ok n3 (Nat.le_of_ble_eq_true hA) ka kr h
def c14:SC:=(.seq (.reg [
 ⟨some 2,.box (.t 0) 0 25,none,[]⟩,
 ⟨some 3,.box (.t 1) 0 27,none,[]⟩,
 ⟨some 4,.alloc [.int .i64 0,.int .i64 0] 23,none,[]⟩,
 ⟨some 5,.mv (.c (.int .i64 0)),none,[]⟩])
 (.seq (.seq (.reg [
 ⟨some 7,.ld (.t 2) 17 true,none,[]⟩,
 ⟨some 8,.ld (.t 3) 7 true,none,[]⟩,
 ⟨some 9,.call 22 [.t 7,.t 8],none,[]⟩,
 ⟨some 6,.mv (.t 9),none,[]⟩])
 (.seq (.reg [
 ⟨some 10,.mv (.t 6),none,[]⟩,
 ⟨some 11,.bin .neq (.t 10) (.c (.int .i64 0)),none,[]⟩])
 (.cond (.t 11)
 (.seq (.reg [
  ⟨some 12,.build [.int .i64 0,.int .i64 0] [],none,[]⟩,
  ⟨some 13,.mv (.t 6),none,[]⟩,
  ⟨none,.st (.t 4) (.t 12) 2,none,[]⟩,
  ⟨some 5,.mv (.t 13),none,[]⟩])
  .ret)
 .skip)))
 (.seq (.reg [
 ⟨some 14,.ld (.t 2) 17 true,none,[]⟩,
 ⟨some 15,.ld (.t 3) 7 true,none,[]⟩,
 ⟨some 16,.build [.int .i64 0,.int .i64 0,.int .i64 0,.int .i64 0,.int .i64 0,.int .i64 0,.int .i64 0,.int .i64 0,.int .i64 0,.int .i64 0,.int .i64 0,.int .i64 0,.int .i64 0,.int .i64 0,.int .i64 0,.int .i64 0,.int .i64 0,.int .i64 0,.int .i64 0,.int .i64 0,.int .i64 0,.int .i64 0,.int .i64 0,.bool false] [(0,17,.t 14),(17,7,.t 15)],none,[]⟩,
 ⟨some 17,.call 55 [.t 16],none,[]⟩,
 ⟨none,.st (.t 4) (.t 17) 2,none,[]⟩,
 ⟨some 5,.mv (.c (.int .i64 0)),none,[]⟩])
 .ret)))
def r14:List RV:=[.cell 4 2 true,.tmp 5]
theorem n14:Try.f14.ntmps = 18:=by kernel_rfl
theorem b14:bodyB Try.prog 14 = true:=by kernel_rfl
theorem c14_ok:cmpC Try.prog c14 ((Try.f14.body).getD .skip) = true:=by kernel_rfl
theorem r14_ok:cmpR Try.prog r14 Try.f14.results.toList = true:=by kernel_rfl
theorem t14 {args:List SV} {res:SV} (ka:KFL args) (kr:KF res) (h:sx Try.prog Y0 0 c14 (st0 args 18) (retK r14 res)) (hA:Nat.ble args.length 18 = true:=by rfl):Ct Try.prog 14 args res:=ct_intro Try.func14 rfl b14 c14_ok r14_ok n14 (Nat.le_of_ble_eq_true hA) ka kr h
def c16:SC:=(.seq (.reg [
 ⟨some 2,.box (.t 0) 0 25,none,[]⟩,
 ⟨some 3,.box (.t 1) 0 27,none,[]⟩,
 ⟨some 4,.alloc [.int .i64 0,.int .i64 0] 23,none,[]⟩,
 ⟨some 5,.mv (.c (.int .i64 0)),none,[]⟩])
 (.seq (.seq (.reg [
 ⟨some 7,.ld (.t 2) 17 true,none,[]⟩,
 ⟨some 8,.ld (.t 3) 7 true,none,[]⟩,
 ⟨some 9,.call 22 [.t 7,.t 8],none,[]⟩,
 ⟨some 6,.mv (.t 9),none,[]⟩])
 (.seq (.reg [
 ⟨some 10,.mv (.t 6),none,[]⟩,
 ⟨some 11,.bin .neq (.t 10) (.c (.int .i64 0)),none,[]⟩])
 (.cond (.t 11)
 (.seq (.reg [
  ⟨some 12,.build [.int .i64 0,.int .i64 0] [],none,[]⟩,
  ⟨some 13,.mv (.t 6),none,[]⟩,
  ⟨none,.st (.t 4) (.t 12) 2,none,[]⟩,
  ⟨some 5,.mv (.t 13),none,[]⟩])
  .ret)
 .skip)))
 (.seq (.reg [
 ⟨some 14,.ld (.t 2) 17 true,none,[]⟩,
 ⟨some 15,.ld (.t 3) 7 true,none,[]⟩,
 ⟨some 16,.build [.int .i64 0,.int .i64 0,.int .i64 0,.int .i64 0,.int .i64 0,.int .i64 0,.int .i64 0,.int .i64 0,.int .i64 0,.int .i64 0,.int .i64 0,.int .i64 0,.int .i64 0,.int .i64 0,.int .i64 0,.int .i64 0,.int .i64 0,.int .i64 0,.int .i64 0,.int .i64 0,.int .i64 0,.int .i64 0,.int .i64 0,.bool false] [(0,17,.t 14),(17,7,.t 15)],none,[]⟩,
 ⟨some 17,.call 57 [.t 16],none,[]⟩,
 ⟨none,.st (.t 4) (.t 17) 2,none,[]⟩,
 ⟨some 5,.mv (.c (.int .i64 0)),none,[]⟩])
 .ret)))
def r16:List RV:=[.cell 4 2 true,.tmp 5]
theorem n16:Try.f16.ntmps = 18:=by kernel_rfl
theorem b16:bodyB Try.prog 16 = true:=by kernel_rfl
theorem c16_ok:cmpC Try.prog c16 ((Try.f16.body).getD .skip) = true:=by kernel_rfl
theorem r16_ok:cmpR Try.prog r16 Try.f16.results.toList = true:=by kernel_rfl
theorem t16 {args:List SV} {res:SV} (ka:KFL args) (kr:KF res) (h:sx Try.prog Y0 0 c16 (st0 args 18) (retK r16 res)) (hA:Nat.ble args.length 18 = true:=by rfl):Ct Try.prog 16 args res:=ct_intro Try.func16 rfl b16 c16_ok r16_ok n16 (Nat.le_of_ble_eq_true hA) ka kr h
def c18:SC:=(.seq (.reg [
 ⟨some 3,.box (.t 0) 0 25,none,[]⟩,
 ⟨some 5,.box (.t 2) 0 29,none,[]⟩,
 ⟨some 6,.alloc [.int .i64 0,.int .i64 0] 23,none,[]⟩,
 ⟨some 7,.alloc [.int .i64 0,.int .i64 0] 23,none,[]⟩,
 ⟨some 8,.mv (.c (.int .i64 0)),none,[]⟩])
 (.seq (.seq (.reg [
 ⟨some 12,.ld (.t 3) 17 true,none,[]⟩,
 ⟨some 13,.call 20 [.t 12],none,[]⟩,
 ⟨some 9,.mv (.t 13),none,[]⟩])
 (.seq (.reg [
 ⟨some 14,.mv (.t 9),none,[]⟩,
 ⟨some 15,.bin .neq (.t 14) (.c (.int .i64 0)),none,[]⟩])
 (.cond (.t 15)
 (.seq (.regd [0,1,2,3,4,5] [
  .op ⟨some 16,.ld (.t 6) 2 true,none,[]⟩,
  .hide (.t 6),
  .op ⟨some 17,.ld (.t 7) 2 true,none,[]⟩,
  .hide (.t 7),
  .op ⟨some 18,.mv (.t 9),none,[]⟩] 0 3 [
  ⟨none,.st (.t 6) (.t 16) 2,none,[0]⟩,
  ⟨none,.st (.t 7) (.t 17) 2,none,[0,1,3]⟩,
  ⟨some 8,.mv (.t 18),none,[0,1,2,3,4]⟩])
  .ret)
 .skip)))
 (.seq (.seq (.reg [
 ⟨some 19,.ld (.t 5) 8 true,none,[]⟩,
 ⟨some 20,.bsl 8 29 [.t 19],none,[]⟩,
 ⟨some 21,.call 59 [.t 20],none,[]⟩,
 ⟨some 10,.mv (.t 21),none,[]⟩])
 (.seq (.reg [
 ⟨some 22,.mv (.t 10),none,[]⟩,
 ⟨some 23,.bin .neq (.t 22) (.c (.int .i64 0)),none,[]⟩])
 (.cond (.t 23)
 (.seq (.regd [0,1,2,3,4,5] [
  .op ⟨some 24,.ld (.t 6) 2 true,none,[]⟩,
  .hide (.t 6),
  .op ⟨some 25,.ld (.t 7) 2 true,none,[]⟩,
  .hide (.t 7),
  .op ⟨some 26,.mv (.t 10),none,[]⟩] 0 3 [
  ⟨none,.st (.t 6) (.t 24) 2,none,[0]⟩,
  ⟨none,.st (.t 7) (.t 25) 2,none,[0,1,3]⟩,
  ⟨some 8,.mv (.t 26),none,[0,1,2,3,4]⟩])
  .ret)
 .skip)))
 (.seq (.reg [
 ⟨some 27,.ld (.t 3) 17 true,none,[]⟩,
 ⟨some 28,.mv (.t 1),none,[]⟩,
 ⟨some 29,.ld (.t 5) 8 true,none,[]⟩,
 ⟨some 30,.call 60 [.t 27,.t 28,.t 29],none,[]⟩,
 ⟨some 11,.alloc [.int .i64 0,.int .i64 0,.int .i64 0,.int .i64 0] 112,none,[]⟩,
 ⟨none,.st (.t 11) (.t 30) 4,none,[]⟩])
 (.seq (.regd [0,1,2,3,4,5,6] [
 .op ⟨some 31,.ixa (.t 11) (.c (.int .i64 0)) 2 2,none,[]⟩,
 .op ⟨some 32,.ld (.t 31) 2 true,none,[0]⟩,
 .hide (.t 6),
 .op ⟨some 33,.ixa (.t 11) (.c (.int .i64 1)) 2 2,none,[]⟩,
 .op ⟨some 34,.ld (.t 33) 2 true,none,[2]⟩] 0 3 [
 ⟨none,.st (.t 6) (.t 32) 2,none,[0,1]⟩,
 ⟨none,.st (.t 7) (.t 34) 2,none,[0,1,2,3,4]⟩,
 ⟨some 8,.mv (.c (.int .i64 0)),none,[0,1,2,3,4,5]⟩])
 .ret)))))
def r18:List RV:=[.cell 6 2 true,.cell 7 2 true,.tmp 8]
theorem n18:Try.f18.ntmps = 35:=by kernel_rfl
theorem b18:bodyB Try.prog 18 = true:=by kernel_rfl
theorem c18_ok:cmpC Try.prog c18 ((Try.f18.body).getD .skip) = true:=by kernel_rfl
theorem r18_ok:cmpR Try.prog r18 Try.f18.results.toList = true:=by kernel_rfl
theorem t18 {args:List SV} {res:SV} (ka:KFL args) (kr:KF res) (h:sx Try.prog Y0 0 c18 (st0 args 35) (retK r18 res)) (hA:Nat.ble args.length 35 = true:=by rfl):Ct Try.prog 18 args res:=ct_intro Try.func18 rfl b18 c18_ok r18_ok n18 (Nat.le_of_ble_eq_true hA) ka kr h
def c20:SC:=(.seq (.reg [
 ⟨some 1,.box (.t 0) 0 25,none,[]⟩,
 ⟨some 2,.mv (.c (.int .i64 0)),none,[]⟩])
 (.seq (.seq (.reg [
 ⟨some 3,.addo (.t 1) 0,none,[]⟩,
 ⟨some 4,.ld (.t 3) 1 false,none,[]⟩,
 ⟨some 5,.addo (.t 1) 1,none,[]⟩,
 ⟨some 6,.ld (.t 5) 1 false,none,[]⟩,
 ⟨some 7,.bsl 1 3 [.t 4,.t 6],none,[]⟩,
 ⟨some 8,.call 64 [.c (.int .i64 1),.c (.int .i64 1000000),.t 7],none,[]⟩,
 ⟨some 9,.un .not (.t 8),none,[]⟩,
 ⟨some 10,.mv (.t 9),none,[]⟩,
 ⟨some 11,.addo (.t 1) 2,some (10,false),[]⟩,
 ⟨some 12,.ld (.t 11) 2 true,some (10,false),[]⟩,
 ⟨some 13,.addo (.t 1) 4,some (10,false),[]⟩,
 ⟨some 14,.ld (.t 13) 2 true,some (10,false),[]⟩,
 ⟨some 15,.addo (.t 1) 6,some (10,false),[]⟩,
 ⟨some 16,.ld (.t 15) 2 true,some (10,false),[]⟩,
 ⟨some 17,.addo (.t 1) 8,some (10,false),[]⟩,
 ⟨some 18,.ld (.t 17) 2 true,some (10,false),[]⟩,
 ⟨some 19,.addo (.t 1) 10,some (10,false),[]⟩,
 ⟨some 20,.ld (.t 19) 2 true,some (10,false),[]⟩,
 ⟨some 21,.addo (.t 1) 12,some (10,false),[]⟩,
 ⟨some 22,.ld (.t 21) 2 true,some (10,false),[]⟩,
 ⟨some 23,.bsl 2 23 [.t 12,.t 14,.t 16,.t 18,.t 20,.t 22],some (10,false),[]⟩,
 ⟨some 24,.call 65 [.c (.int .i64 0),.c (.int .i64 100000),.t 23],some (10,false),[]⟩,
 ⟨some 25,.un .not (.t 24),some (10,false),[]⟩,
 ⟨some 26,.pick (.t 10) (.c (.bool true)) (.t 25),none,[]⟩,
 ⟨some 27,.mv (.t 26),none,[]⟩,
 ⟨some 28,.addo (.t 1) 15,some (27,false),[]⟩,
 ⟨some 29,.ld (.t 28) 2 true,some (27,false),[]⟩,
 ⟨some 30,.bsl 2 23 [.t 29],some (27,false),[]⟩,
 ⟨some 31,.call 65 [.c (.int .i64 0),.c (.int .i64 1000000),.t 30],some (27,false),[]⟩,
 ⟨some 32,.un .not (.t 31),some (27,false),[]⟩,
 ⟨some 33,.pick (.t 27) (.c (.bool true)) (.t 32),none,[]⟩,
 ⟨some 34,.mv (.t 33),none,[]⟩,
 ⟨some 35,.addo (.t 1) 14,some (34,false),[]⟩,
 ⟨some 36,.ld (.t 35) 1 false,some (34,false),[]⟩,
 ⟨some 37,.bsl 1 3 [.t 36],some (34,false),[]⟩,
 ⟨some 38,.call 64 [.c (.int .i64 0),.c (.int .i64 1000),.t 37],some (34,false),[]⟩,
 ⟨some 39,.un .not (.t 38),some (34,false),[]⟩,
 ⟨some 40,.pick (.t 34) (.c (.bool true)) (.t 39),none,[]⟩])
 (.cond (.t 40)
 (.seq (.reg [
  ⟨some 2,.mv (.c (.int .i64 10)),none,[]⟩])
  .ret)
 .skip))
 (.seq (.reg [
 ⟨some 2,.mv (.c (.int .i64 0)),none,[]⟩])
 .ret)))
def r20:List RV:=[.tmp 2]
theorem n20:Try.f20.ntmps = 41:=by kernel_rfl
theorem b20:bodyB Try.prog 20 = true:=by kernel_rfl
theorem c20_ok:cmpC Try.prog c20 ((Try.f20.body).getD .skip) = true:=by kernel_rfl
theorem r20_ok:cmpR Try.prog r20 Try.f20.results.toList = true:=by kernel_rfl
theorem t20 {args:List SV} {res:SV} (ka:KFL args) (kr:KF res) (h:sx Try.prog Y0 0 c20 (st0 args 41) (retK r20 res)) (hA:Nat.ble args.length 41 = true:=by rfl):Ct Try.prog 20 args res:=ct_intro Try.func20 rfl b20 c20_ok r20_ok n20 (Nat.le_of_ble_eq_true hA) ka kr h
def c22:SC:=(.seq (.reg [
 ⟨some 2,.box (.t 0) 0 25,none,[]⟩,
 ⟨some 3,.box (.t 1) 0 27,none,[]⟩,
 ⟨some 4,.mv (.c (.int .i64 0)),none,[]⟩])
 (.seq (.seq (.reg [
 ⟨some 6,.ld (.t 2) 17 true,none,[]⟩,
 ⟨some 7,.call 20 [.t 6],none,[]⟩,
 ⟨some 5,.mv (.t 7),none,[]⟩])
 (.seq (.reg [
 ⟨some 8,.mv (.t 5),none,[]⟩,
 ⟨some 9,.bin .neq (.t 8) (.c (.int .i64 0)),none,[]⟩])
 (.cond (.t 9)
 (.seq (.reg [
  ⟨some 10,.mv (.t 5),none,[]⟩,
  ⟨some 4,.mv (.t 10),none,[]⟩])
  .ret)
 .skip)))
 (.seq (.seq (.reg [
 ⟨some 11,.addo (.t 2) 0,none,[]⟩,
 ⟨some 12,.ld (.t 11) 1 false,none,[]⟩,
 ⟨some 13,.addo (.t 3) 0,none,[]⟩,
 ⟨some 14,.ld (.t 13) 2 true,none,[]⟩,
 ⟨some 15,.bsl 2 23 [.t 14],none,[]⟩,
 ⟨some 16,.call 65 [.c (.int .i64 0),.t 12,.t 15],none,[]⟩,
 ⟨some 17,.un .not (.t 16),none,[]⟩,
 ⟨some 18,.mv (.t 17),none,[]⟩,
 ⟨some 19,.addo (.t 2) 1,some (18,false),[]⟩,
 ⟨some 20,.ld (.t 19) 1 false,some (18,false),[]⟩,
 ⟨some 21,.addo (.t 3) 2,some (18,false),[]⟩,
 ⟨some 22,.ld (.t 21) 2 true,some (18,false),[]⟩,
 ⟨some 23,.bsl 2 23 [.t 22],some (18,false),[]⟩,
 ⟨some 24,.call 65 [.c (.int .i64 0),.t 20,.t 23],some (18,false),[]⟩,
 ⟨some 25,.un .not (.t 24),some (18,false),[]⟩,
 ⟨some 26,.pick (.t 18) (.c (.bool true)) (.t 25),none,[]⟩,
 ⟨some 27,.mv (.t 26),none,[]⟩,
 ⟨some 28,.addo (.t 3) 4,some (27,false),[]⟩,
 ⟨some 29,.ld (.t 28) 2 true,some (27,false),[]⟩,
 ⟨some 30,.bsl 2 23 [.t 29],some (27,false),[]⟩,
 ⟨some 31,.call 65 [.c (.int .i64 0),.c (.int .i64 1000),.t 30],some (27,false),[]⟩,
 ⟨some 32,.un .not (.t 31),some (27,false),[]⟩,
 ⟨some 33,.pick (.t 27) (.c (.bool true)) (.t 32),none,[]⟩])
 (.cond (.t 33)
 (.seq (.reg [
  ⟨some 4,.mv (.c (.int .i64 11)),none,[]⟩])
  .ret)
 .skip))
 (.seq (.reg [
 ⟨some 4,.mv (.c (.int .i64 0)),none,[]⟩])
 .ret))))
def r22:List RV:=[.tmp 4]
theorem n22:Try.f22.ntmps = 34:=by kernel_rfl
theorem b22:bodyB Try.prog 22 = true:=by kernel_rfl
theorem c22_ok:cmpC Try.prog c22 ((Try.f22.body).getD .skip) = true:=by kernel_rfl
theorem r22_ok:cmpR Try.prog r22 Try.f22.results.toList = true:=by kernel_rfl
theorem t22 {args:List SV} {res:SV} (ka:KFL args) (kr:KF res) (h:sx Try.prog Y0 0 c22 (st0 args 34) (retK r22 res)) (hA:Nat.ble args.length 34 = true:=by rfl):Ct Try.prog 22 args res:=ct_intro Try.func22 rfl b22 c22_ok r22_ok n22 (Nat.le_of_ble_eq_true hA) ka kr h
def c55:SC:=(.seq (.reg [
 ⟨some 1,.box (.t 0) 0 107,none,[]⟩,
 ⟨some 2,.alloc [.int .i64 0,.int .i64 0] 23,none,[]⟩])
 (.seq (.reg [
 ⟨some 6,.build [.int .i64 0,.int .i64 0] [(0,1,.c (.int .i64 1000)),(1,1,.c (.int .i64 1000))],none,[]⟩,
 ⟨some 3,.alloc [.int .i64 0,.int .i64 0] 23,none,[]⟩,
 ⟨none,.st (.t 3) (.t 6) 2,none,[]⟩])
 (.seq (.seq (.regd [0,1,2,3,4,5,6,7,8,9,10,11,12,13,14,15,16,17,18,19,20,21] [
 .op ⟨some 7,.addo (.t 1) 17,none,[]⟩,
 .op ⟨some 8,.addo (.t 7) 0,none,[0]⟩,
 .op ⟨some 9,.ld (.t 8) 2 true,none,[1]⟩,
 .op ⟨some 10,.addo (.t 1) 0,none,[]⟩,
 .op ⟨some 11,.addo (.t 10) 0,none,[3]⟩,
 .op ⟨some 12,.ld (.t 11) 1 false,none,[4]⟩,
 .op ⟨some 13,.bsl 1 3 [.c (.int .i64 2),.c (.int .i64 1000)],none,[]⟩,
 .op ⟨some 14,.call 89 [.t 9,.t 12,.t 13],none,[2,5,6]⟩,
 .op ⟨some 15,.addo (.t 1) 17,none,[]⟩,
 .op ⟨some 16,.addo (.t 15) 2,none,[8]⟩,
 .op ⟨some 17,.ld (.t 16) 2 true,none,[9]⟩,
 .op ⟨some 18,.addo (.t 1) 0,none,[]⟩,
 .op ⟨some 19,.addo (.t 18) 1,none,[11]⟩,
 .op ⟨some 20,.ld (.t 19) 1 false,none,[12]⟩,
 .op ⟨some 21,.bsl 1 3 [.c (.int .i64 2),.c (.int .i64 1000)],none,[]⟩,
 .op ⟨some 22,.call 89 [.t 17,.t 20,.t 21],none,[7,10,13,14]⟩,
 .op ⟨some 23,.addo (.t 1) 17,none,[]⟩,
 .op ⟨some 24,.addo (.t 23) 4,none,[16]⟩,
 .op ⟨some 25,.ld (.t 24) 2 true,none,[17]⟩,
 .op ⟨some 26,.call 73 [.c (.int .i64 1000),.t 25],none,[15,18]⟩,
 .op ⟨some 27,.build [.int .i64 0,.int .i64 0,.int .i64 0,.int .i64 0,.int .i64 0,.int .i64 0] [(0,2,.t 14),(2,2,.t 22),(4,2,.t 26)],none,[7,15,19]⟩,
 .op ⟨some 28,.mv (.c (.int .i64 0)),none,[]⟩] 0 0 [
])
 (.block 0 (.loop (.seq (.reg [
  ⟨some 29,.bin .lss (.t 28) (.c (.int .i64 3)),none,[]⟩])
  (.seq (.cond (.t 29)
  .skip
  (.exit 0))
  (.seq (.block 1 (.seq (.reg [
   ⟨some 30,.idx (.t 27) (.t 28) 3 2 true,none,[]⟩,
   ⟨some 5,.alloc [.int .i64 0,.int .i64 0] 23,none,[]⟩,
   ⟨none,.st (.t 5) (.t 30) 2,none,[]⟩])
   (.reg [
   ⟨some 31,.addo (.t 3) 0,none,[]⟩,
   ⟨some 32,.ld (.t 31) 1 false,none,[]⟩,
   ⟨some 33,.addo (.t 5) 0,none,[]⟩,
   ⟨some 34,.ld (.t 33) 1 false,none,[]⟩,
   ⟨some 35,.mm false [.t 32,.t 34],none,[]⟩,
   ⟨some 36,.addo (.t 3) 1,none,[]⟩,
   ⟨some 37,.ld (.t 36) 1 false,none,[]⟩,
   ⟨some 38,.addo (.t 5) 1,none,[]⟩,
   ⟨some 39,.ld (.t 38) 1 false,none,[]⟩,
   ⟨some 40,.mm false [.t 37,.t 39],none,[]⟩,
   ⟨some 41,.build [.int .i64 0,.int .i64 0] [(0,1,.t 35),(1,1,.t 40)],none,[]⟩,
   ⟨none,.st (.t 3) (.t 41) 2,none,[]⟩])))
  (.reg [
  ⟨some 42,.bin .add (.t 28) (.c (.int .i64 1)),none,[]⟩,
  ⟨some 28,.mv (.t 42),none,[]⟩])))))))
 (.seq (.reg [
 ⟨some 43,.ld (.t 3) 2 true,none,[]⟩,
 ⟨none,.st (.t 2) (.t 43) 2,none,[]⟩])
 .ret))))
def r55:List RV:=[.cell 2 2 true]
theorem n55:Try.f55.ntmps = 44:=by kernel_rfl
theorem b55:bodyB Try.prog 55 = true:=by kernel_rfl
theorem c55_ok:cmpC Try.prog c55 ((Try.f55.body).getD .skip) = true:=by kernel_rfl
theorem r55_ok:cmpR Try.prog r55 Try.f55.results.toList = true:=by kernel_rfl
theorem t55 {args:List SV} {res:SV} (ka:KFL args) (kr:KF res) (h:sx Try.prog Y0 0 c55 (st0 args 44) (retK r55 res)) (hA:Nat.ble args.length 44 = true:=by rfl):Ct Try.prog 55 args res:=ct_intro Try.func55 rfl b55 c55_ok r55_ok n55 (Nat.le_of_ble_eq_true hA) ka kr h
def c57:SC:=(.seq (.reg [
 ⟨some 1,.box (.t 0) 0 107,none,[]⟩,
 ⟨some 2,.alloc [.int .i64 0,.int .i64 0] 23,none,[]⟩])
 (.seq (.reg [
 ⟨some 4,.ld (.t 1) 24 true,none,[]⟩,
 ⟨some 5,.call 55 [.t 4],none,[]⟩,
 ⟨some 3,.alloc [.int .i64 0,.int .i64 0] 23,none,[]⟩,
 ⟨none,.st (.t 3) (.t 5) 2,none,[]⟩])
 (.seq (.regd [0,1,2,3,4,5,6,7,8,9,10,11,12,13,14,15,16,17] [
 .op ⟨some 6,.addo (.t 1) 0,none,[]⟩,
 .op ⟨some 7,.addo (.t 6) 15,none,[0]⟩,
 .op ⟨some 8,.addo (.t 7) 0,none,[1]⟩,
 .op ⟨some 9,.ld (.t 8) 1 false,none,[2]⟩,
 .op ⟨some 10,.addo (.t 3) 0,none,[]⟩,
 .op ⟨some 11,.ld (.t 10) 1 false,none,[4]⟩,
 .op ⟨some 12,.bin .mul (.t 9) (.t 11),none,[3,5]⟩,
 .op ⟨some 13,.div .quo (.t 12) (.c (.int .i64 1000)),none,[6]⟩,
 .op ⟨some 14,.addo (.t 1) 0,none,[]⟩,
 .op ⟨some 15,.addo (.t 14) 15,none,[8]⟩,
 .op ⟨some 16,.addo (.t 15) 1,none,[9]⟩,
 .op ⟨some 17,.ld (.t 16) 1 false,none,[10]⟩,
 .op ⟨some 18,.addo (.t 3) 1,none,[]⟩,
 .op ⟨some 19,.ld (.t 18) 1 false,none,[12]⟩,
 .op ⟨some 20,.bin .mul (.t 17) (.t 19),none,[11,13]⟩,
 .op ⟨some 21,.call 90 [.t 20,.c (.int .i64 1000)],none,[14]⟩,
 .op ⟨some 22,.build [.int .i64 0,.int .i64 0] [(0,1,.t 13),(1,1,.t 21)],none,[7,15]⟩] 0 1 [
 ⟨none,.st (.t 2) (.t 22) 2,none,[0,1,2,3,4,5,6,7,8,9,10,11,12,13,14,15,16]⟩])
 .ret)))
def r57:List RV:=[.cell 2 2 true]
theorem n57:Try.f57.ntmps = 23:=by kernel_rfl
theorem b57:bodyB Try.prog 57 = true:=by kernel_rfl
theorem c57_ok:cmpC Try.prog c57 ((Try.f57.body).getD .skip) = true:=by kernel_rfl
theorem r57_ok:cmpR Try.prog r57 Try.f57.results.toList = true:=by kernel_rfl
theorem t57 {args:List SV} {res:SV} (ka:KFL args) (kr:KF res) (h:sx Try.prog Y0 0 c57 (st0 args 23) (retK r57 res)) (hA:Nat.ble args.length 23 = true:=by rfl):Ct Try.prog 57 args res:=ct_intro Try.func57 rfl b57 c57_ok r57_ok n57 (Nat.le_of_ble_eq_true hA) ka kr h
def c59:SC:=(.seq (.reg [
 ⟨some 2,.mv (.c (.int .i64 0)),none,[]⟩])
 (.seq (.seq (.reg [
 ⟨some 5,.mv (.t 0),none,[]⟩,
 ⟨some 6,.len (.t 5),none,[]⟩,
 ⟨some 7,.mv (.c (.int .i64 0)),none,[]⟩])
 (.block 0 (.loop (.seq (.reg [
  ⟨some 8,.bin .lss (.t 7) (.t 6),none,[]⟩])
  (.seq (.cond (.t 8)
  .skip
  (.exit 0))
  (.seq (.block 1 (.seq (.reg [
   ⟨some 9,.ixs (.t 5) (.t 7) 8,none,[]⟩,
   ⟨some 10,.ld (.t 9) 8 true,none,[]⟩,
   ⟨some 4,.alloc [.int .i64 0,.int .i64 0,.int .i64 0,.int .i64 0,.int .i64 0,.int .i64 0,.int .i64 0,.int .i64 0] 29,none,[]⟩,
   ⟨none,.st (.t 4) (.t 10) 8,none,[]⟩])
   (.seq (.reg [
   ⟨some 11,.addo (.t 4) 0,none,[]⟩,
   ⟨some 12,.ld (.t 11) 1 false,none,[]⟩,
   ⟨some 13,.bsl 1 3 [.t 12],none,[]⟩,
   ⟨some 14,.call 64 [.c (.int .i64 0),.c (.int .i64 24),.t 13],none,[]⟩,
   ⟨some 15,.un .not (.t 14),none,[]⟩,
   ⟨some 16,.mv (.t 15),none,[]⟩,
   ⟨some 17,.addo (.t 4) 1,some (16,false),[]⟩,
   ⟨some 18,.ld (.t 17) 1 false,some (16,false),[]⟩,
   ⟨some 19,.bsl 1 3 [.t 18],some (16,false),[]⟩,
   ⟨some 20,.call 64 [.c (.int .i64 0),.c (.int .i64 1000000),.t 19],some (16,false),[]⟩,
   ⟨some 21,.un .not (.t 20),some (16,false),[]⟩,
   ⟨some 22,.pick (.t 16) (.c (.bool true)) (.t 21),none,[]⟩,
   ⟨some 23,.mv (.t 22),none,[]⟩,
   ⟨some 24,.addo (.t 4) 2,some (23,false),[]⟩,
   ⟨some 25,.ld (.t 24) 2 true,some (23,false),[]⟩,
   ⟨some 26,.bsl 2 23 [.t 25],some (23,false),[]⟩,
   ⟨some 27,.call 65 [.c (.int .i64 0),.c (.int .i64 60),.t 26],some (23,false),[]⟩,
   ⟨some 28,.un .not (.t 27),some (23,false),[]⟩,
   ⟨some 29,.pick (.t 23) (.c (.bool true)) (.t 28),none,[]⟩,
   ⟨some 30,.mv (.t 29),none,[]⟩,
   ⟨some 31,.addo (.t 4) 4,some (30,false),[]⟩,
   ⟨some 32,.ld (.t 31) 2 true,some (30,false),[]⟩,
   ⟨some 33,.addo (.t 4) 6,some (30,false),[]⟩,
   ⟨some 34,.ld (.t 33) 2 true,some (30,false),[]⟩,
   ⟨some 35,.bsl 2 23 [.t 32,.t 34],some (30,false),[]⟩,
   ⟨some 36,.call 65 [.c (.int .i64 0),.c (.int .i64 1000000),.t 35],some (30,false),[]⟩,
   ⟨some 37,.un .not (.t 36),some (30,false),[]⟩,
   ⟨some 38,.pick (.t 30) (.c (.bool true)) (.t 37),none,[]⟩])
   (.cond (.t 38)
   (.seq (.reg [
    ⟨some 2,.mv (.c (.int .i64 12)),none,[]⟩])
    .ret)
   .skip))))
  (.reg [
  ⟨some 39,.bin .add (.t 7) (.c (.int .i64 1)),none,[]⟩,
  ⟨some 7,.mv (.t 39),none,[]⟩])))))))
 (.seq (.reg [
 ⟨some 2,.mv (.c (.int .i64 0)),none,[]⟩])
 .ret)))
def r59:List RV:=[.tmp 2]
theorem n59:Try.f59.ntmps = 40:=by kernel_rfl
theorem b59:bodyB Try.prog 59 = true:=by kernel_rfl
theorem c59_ok:cmpC Try.prog c59 ((Try.f59.body).getD .skip) = true:=by kernel_rfl
theorem r59_ok:cmpR Try.prog r59 Try.f59.results.toList = true:=by kernel_rfl
theorem t59 {args:List SV} {res:SV} (ka:KFL args) (kr:KF res) (h:sx Try.prog Y0 0 c59 (st0 args 40) (retK r59 res)) (hA:Nat.ble args.length 40 = true:=by rfl):Ct Try.prog 59 args res:=ct_intro Try.func59 rfl b59 c59_ok r59_ok n59 (Nat.le_of_ble_eq_true hA) ka kr h
def c60:SC:=(.seq (.reg [
 ⟨some 3,.box (.t 0) 0 25,none,[]⟩,
 ⟨some 5,.box (.t 2) 0 29,none,[]⟩,
 ⟨some 6,.alloc [.int .i64 0,.int .i64 0,.int .i64 0,.int .i64 0] 112,none,[]⟩])
 (.seq (.reg [
 ⟨some 10,.addo (.t 5) 2,none,[]⟩,
 ⟨some 11,.addo (.t 10) 0,none,[]⟩,
 ⟨some 12,.ld (.t 11) 1 false,none,[]⟩,
 ⟨some 13,.bin .sub (.t 12) (.c (.int .i64 20)),none,[]⟩,
 ⟨some 14,.mm true [.c (.int .i64 0),.t 13],none,[]⟩,
 ⟨some 15,.addo (.t 5) 2,none,[]⟩,
 ⟨some 16,.addo (.t 15) 1,none,[]⟩,
 ⟨some 17,.ld (.t 16) 1 false,none,[]⟩,
 ⟨some 18,.bin .sub (.t 17) (.c (.int .i64 20)),none,[]⟩,
 ⟨some 19,.mm true [.c (.int .i64 0),.t 18],none,[]⟩,
 ⟨some 20,.build [.int .i64 0,.int .i64 0] [(0,1,.t 14),(1,1,.t 19)],none,[]⟩,
 ⟨some 7,.alloc [.int .i64 0,.int .i64 0] 23,none,[]⟩,
 ⟨none,.st (.t 7) (.t 20) 2,none,[]⟩])
 (.seq (.reg [
 ⟨some 21,.addo (.t 5) 0,none,[]⟩,
 ⟨some 22,.ld (.t 21) 1 false,none,[]⟩,
 ⟨some 23,.addo (.t 5) 1,none,[]⟩,
 ⟨some 24,.ld (.t 23) 1 false,none,[]⟩,
 ⟨some 25,.bin .add (.c (.int .i64 100000)) (.t 24),none,[]⟩,
 ⟨some 26,.bin .mul (.t 22) (.t 25),none,[]⟩,
 ⟨some 8,.mv (.t 26),none,[]⟩])
 (.seq (.regd [0,1,2,3,4,5,6,7,8,9,10,11,12,13,14,15,16,17,18,19,20,21,22,23] [
 .op ⟨some 27,.addo (.t 3) 2,none,[]⟩,
 .op ⟨some 28,.ld (.t 27) 2 true,none,[0]⟩,
 .op ⟨some 29,.addo (.t 3) 4,none,[]⟩,
 .op ⟨some 30,.addo (.t 29) 0,none,[2]⟩,
 .op ⟨some 31,.ld (.t 30) 1 false,none,[3]⟩,
 .op ⟨some 32,.addo (.t 7) 0,none,[]⟩,
 .op ⟨some 33,.ld (.t 32) 1 false,none,[5]⟩,
 .op ⟨some 34,.bin .mul (.t 31) (.t 33),none,[4,6]⟩,
 .op ⟨some 35,.addo (.t 3) 4,none,[]⟩,
 .op ⟨some 36,.addo (.t 35) 1,none,[8]⟩,
 .op ⟨some 37,.ld (.t 36) 1 false,none,[9]⟩,
 .op ⟨some 38,.addo (.t 7) 1,none,[]⟩,
 .op ⟨some 39,.ld (.t 38) 1 false,none,[11]⟩,
 .op ⟨some 40,.bin .mul (.t 37) (.t 39),none,[10,12]⟩,
 .op ⟨some 41,.build [.int .i64 0,.int .i64 0] [(0,1,.t 34),(1,1,.t 40)],none,[7,13]⟩,
 .op ⟨some 42,.addo (.t 3) 6,none,[]⟩,
 .op ⟨some 43,.ld (.t 42) 2 true,none,[15]⟩,
 .op ⟨some 44,.mv (.t 8),none,[]⟩,
 .op ⟨some 45,.bsl 1 3 [.t 44],none,[17]⟩,
 .op ⟨some 46,.call 89 [.t 43,.c (.int .i64 100000),.t 45],none,[16,18]⟩,
 .op ⟨some 47,.bsl 2 23 [.t 28,.t 41,.t 46],none,[1,14,19]⟩,
 .op ⟨some 48,.call 72 [.t 47],none,[19,20]⟩] 1 1 [
 ⟨some 9,.alloc [.int .i64 0,.int .i64 0] 23,none,[]⟩,
 ⟨none,.st (.t 9) (.t 48) 2,none,[0,1,2,3,4,5,6,7,8,9,10,11,12,13,14,15,16,17,18,19,20,21,22]⟩])
 (.seq (.seq (.reg [
 ⟨some 49,.mv (.t 1),none,[]⟩])
 (.cond (.t 49)
 (.reg [
  ⟨some 50,.ld (.t 9) 2 true,none,[]⟩,
  ⟨some 51,.addo (.t 3) 12,none,[]⟩,
  ⟨some 52,.ld (.t 51) 2 true,none,[]⟩,
  ⟨some 53,.bsl 2 23 [.t 50,.t 52],none,[]⟩,
  ⟨some 54,.call 72 [.t 53],none,[]⟩,
  ⟨none,.st (.t 9) (.t 54) 2,none,[]⟩])
 .skip))
 (.seq (.regd [0,1,2,3,4,5,6,7] [
 .op ⟨some 55,.ld (.t 9) 2 true,none,[]⟩,
 .op ⟨some 56,.addo (.t 3) 8,none,[]⟩,
 .op ⟨some 57,.ld (.t 56) 2 true,none,[1]⟩,
 .op ⟨some 58,.mv (.t 8),none,[]⟩,
 .op ⟨some 59,.bsl 1 3 [.t 58],none,[3]⟩,
 .op ⟨some 60,.call 89 [.t 57,.c (.int .i64 100000),.t 59],none,[2,4]⟩,
 .op ⟨some 61,.build [.int .i64 0,.int .i64 0,.int .i64 0,.int .i64 0] [(0,2,.t 55),(2,2,.t 60)],none,[0,5]⟩] 0 1 [
 ⟨none,.st (.t 6) (.t 61) 4,none,[0,1,2,3,4,5,6]⟩])
 .ret))))))
def r60:List RV:=[.cell 6 4 true]
theorem n60:Try.f60.ntmps = 62:=by kernel_rfl
theorem b60:bodyB Try.prog 60 = true:=by kernel_rfl
theorem c60_ok:cmpC Try.prog c60 ((Try.f60.body).getD .skip) = true:=by kernel_rfl
theorem r60_ok:cmpR Try.prog r60 Try.f60.results.toList = true:=by kernel_rfl
theorem t60 {args:List SV} {res:SV} (ka:KFL args) (kr:KF res) (h:sx Try.prog Y0 0 c60 (st0 args 62) (retK r60 res)) (hA:Nat.ble args.length 62 = true:=by rfl):Ct Try.prog 60 args res:=ct_intro Try.func60 rfl b60 c60_ok r60_ok n60 (Nat.le_of_ble_eq_true hA) ka kr h
def c64:SC:=(.seq (.reg [
 ⟨some 3,.box (.t 0) 0 3,none,[]⟩,
 ⟨some 4,.box (.t 1) 0 3,none,[]⟩,
 ⟨some 6,.mv (.c (.bool false)),none,[]⟩])
 (.seq (.reg [
 ⟨some 7,.mv (.t 2),none,[]⟩,
 ⟨some 8,.mkf 92 [.t 3,.t 4],none,[]⟩,
 ⟨some 9,.call 91 [.t 7,.t 8],none,[]⟩,
 ⟨some 10,.un .not (.t 9),none,[]⟩,
 ⟨some 6,.mv (.t 10),none,[]⟩])
 .ret))
def r64:List RV:=[.tmp 6]
theorem n64:Try.f64.ntmps = 11:=by kernel_rfl
theorem b64:bodyB Try.prog 64 = true:=by kernel_rfl
theorem c64_ok:cmpC Try.prog c64 ((Try.f64.body).getD .skip) = true:=by kernel_rfl
theorem r64_ok:cmpR Try.prog r64 Try.f64.results.toList = true:=by kernel_rfl
theorem t64 {args:List SV} {res:SV} (ka:KFL args) (kr:KF res) (h:sx Try.prog Y0 0 c64 (st0 args 11) (retK r64 res)) (hA:Nat.ble args.length 11 = true:=by rfl):Ct Try.prog 64 args res:=ct_intro Try.func64 rfl b64 c64_ok r64_ok n64 (Nat.le_of_ble_eq_true hA) ka kr h
def c65:SC:=(.seq (.reg [
 ⟨some 3,.box (.t 0) 0 3,none,[]⟩,
 ⟨some 4,.box (.t 1) 0 3,none,[]⟩,
 ⟨some 6,.mv (.c (.bool false)),none,[]⟩])
 (.seq (.reg [
 ⟨some 7,.mv (.t 2),none,[]⟩,
 ⟨some 8,.mkf 94 [.t 3,.t 4],none,[]⟩,
 ⟨some 9,.call 93 [.t 7,.t 8],none,[]⟩,
 ⟨some 10,.un .not (.t 9),none,[]⟩,
 ⟨some 6,.mv (.t 10),none,[]⟩])
 .ret))
def r65:List RV:=[.tmp 6]
theorem n65:Try.f65.ntmps = 11:=by kernel_rfl
theorem b65:bodyB Try.prog 65 = true:=by kernel_rfl
theorem c65_ok:cmpC Try.prog c65 ((Try.f65.body).getD .skip) = true:=by kernel_rfl
theorem r65_ok:cmpR Try.prog r65 Try.f65.results.toList = true:=by kernel_rfl
theorem t65 {args:List SV} {res:SV} (ka:KFL args) (kr:KF res) (h:sx Try.prog Y0 0 c65 (st0 args 11) (retK r65 res)) (hA:Nat.ble args.length 11 = true:=by rfl):Ct Try.prog 65 args res:=ct_intro Try.func65 rfl b65 c65_ok r65_ok n65 (Nat.le_of_ble_eq_true hA) ka kr h
def c72:SC:=(.seq (.reg [
 ⟨some 2,.alloc [.int .i64 0,.int .i64 0] 23,none,[]⟩])
 (.seq (.reg [
 ⟨some 3,.alloc [.int .i64 0,.int .i64 0] 23,none,[]⟩])
 (.seq (.seq (.reg [
 ⟨some 6,.mv (.t 0),none,[]⟩,
 ⟨some 7,.len (.t 6),none,[]⟩,
 ⟨some 8,.mv (.c (.int .i64 0)),none,[]⟩])
 (.block 0 (.loop (.seq (.reg [
  ⟨some 9,.bin .lss (.t 8) (.t 7),none,[]⟩])
  (.seq (.cond (.t 9)
  .skip
  (.exit 0))
  (.seq (.block 1 (.seq (.reg [
   ⟨some 10,.ixs (.t 6) (.t 8) 2,none,[]⟩,
   ⟨some 11,.ld (.t 10) 2 true,none,[]⟩,
   ⟨some 5,.alloc [.int .i64 0,.int .i64 0] 23,none,[]⟩,
   ⟨none,.st (.t 5) (.t 11) 2,none,[]⟩])
   (.reg [
   ⟨some 12,.addo (.t 3) 0,none,[]⟩,
   ⟨some 13,.ld (.t 12) 1 false,none,[]⟩,
   ⟨some 14,.addo (.t 5) 0,none,[]⟩,
   ⟨some 15,.ld (.t 14) 1 false,none,[]⟩,
   ⟨some 16,.bin .add (.t 13) (.t 15),none,[]⟩,
   ⟨some 17,.addo (.t 3) 1,none,[]⟩,
   ⟨some 18,.ld (.t 17) 1 false,none,[]⟩,
   ⟨some 19,.addo (.t 5) 1,none,[]⟩,
   ⟨some 20,.ld (.t 19) 1 false,none,[]⟩,
   ⟨some 21,.bin .add (.t 18) (.t 20),none,[]⟩,
   ⟨some 22,.build [.int .i64 0,.int .i64 0] [(0,1,.t 16),(1,1,.t 21)],none,[]⟩,
   ⟨none,.st (.t 3) (.t 22) 2,none,[]⟩])))
  (.reg [
  ⟨some 23,.bin .add (.t 8) (.c (.int .i64 1)),none,[]⟩,
  ⟨some 8,.mv (.t 23),none,[]⟩])))))))
 (.seq (.reg [
 ⟨some 24,.ld (.t 3) 2 true,none,[]⟩,
 ⟨none,.st (.t 2) (.t 24) 2,none,[]⟩])
 .ret))))
def r72:List RV:=[.cell 2 2 true]
theorem n72:Try.f72.ntmps = 25:=by kernel_rfl
theorem b72:bodyB Try.prog 72 = true:=by kernel_rfl
theorem c72_ok:cmpC Try.prog c72 ((Try.f72.body).getD .skip) = true:=by kernel_rfl
theorem r72_ok:cmpR Try.prog r72 Try.f72.results.toList = true:=by kernel_rfl
theorem t72 {args:List SV} {res:SV} (ka:KFL args) (kr:KF res) (h:sx Try.prog Y0 0 c72 (st0 args 25) (retK r72 res)) (hA:Nat.ble args.length 25 = true:=by rfl):Ct Try.prog 72 args res:=ct_intro Try.func72 rfl b72 c72_ok r72_ok n72 (Nat.le_of_ble_eq_true hA) ka kr h
def c73:SC:=(.seq (.reg [
 ⟨some 3,.box (.t 1) 0 23,none,[]⟩,
 ⟨some 4,.alloc [.int .i64 0,.int .i64 0] 23,none,[]⟩])
 (.seq (.reg [
 ⟨some 5,.mv (.t 0),none,[]⟩,
 ⟨some 6,.addo (.t 3) 1,none,[]⟩,
 ⟨some 7,.ld (.t 6) 1 false,none,[]⟩,
 ⟨some 8,.bin .sub (.t 5) (.t 7),none,[]⟩,
 ⟨some 9,.mv (.t 0),none,[]⟩,
 ⟨some 10,.addo (.t 3) 0,none,[]⟩,
 ⟨some 11,.ld (.t 10) 1 false,none,[]⟩,
 ⟨some 12,.bin .sub (.t 9) (.t 11),none,[]⟩,
 ⟨some 13,.build [.int .i64 0,.int .i64 0] [(0,1,.t 8),(1,1,.t 12)],none,[]⟩,
 ⟨none,.st (.t 4) (.t 13) 2,none,[]⟩])
 .ret))
def r73:List RV:=[.cell 4 2 true]
theorem n73:Try.f73.ntmps = 14:=by kernel_rfl
theorem b73:bodyB Try.prog 73 = true:=by kernel_rfl
theorem c73_ok:cmpC Try.prog c73 ((Try.f73.body).getD .skip) = true:=by kernel_rfl
theorem r73_ok:cmpR Try.prog r73 Try.f73.results.toList = true:=by kernel_rfl
theorem t73 {args:List SV} {res:SV} (ka:KFL args) (kr:KF res) (h:sx Try.prog Y0 0 c73 (st0 args 14) (retK r73 res)) (hA:Nat.ble args.length 14 = true:=by rfl):Ct Try.prog 73 args res:=ct_intro Try.func73 rfl b73 c73_ok r73_ok n73 (Nat.le_of_ble_eq_true hA) ka kr h
def c87:SC:=(.seq (.reg [
 ⟨some 3,.box (.t 0) 0 23,none,[]⟩,
 ⟨some 6,.mv (.c (.bool false)),none,[]⟩])
 (.seq (.reg [
 ⟨some 7,.addo (.t 3) 0,none,[]⟩,
 ⟨some 8,.ld (.t 7) 1 false,none,[]⟩,
 ⟨some 9,.mv (.t 1),none,[]⟩,
 ⟨some 10,.addo (.t 3) 1,none,[]⟩,
 ⟨some 11,.ld (.t 10) 1 false,none,[]⟩,
 ⟨some 12,.call 88 [.t 8,.t 9,.t 11],none,[]⟩,
 ⟨some 13,.mv (.t 12),none,[]⟩,
 ⟨some 14,.addo (.t 3) 1,some (13,true),[]⟩,
 ⟨some 15,.ld (.t 14) 1 false,some (13,true),[]⟩,
 ⟨some 16,.mv (.t 2),some (13,true),[]⟩,
 ⟨some 17,.bin .leq (.t 15) (.t 16),some (13,true),[]⟩,
 ⟨some 18,.pick (.t 13) (.t 17) (.c (.bool false)),none,[]⟩,
 ⟨some 6,.mv (.t 18),none,[]⟩])
 .ret))
def r87:List RV:=[.tmp 6]
theorem n87:Try.f87.ntmps = 19:=by kernel_rfl
theorem b87:bodyB Try.prog 87 = true:=by kernel_rfl
theorem c87_ok:cmpC Try.prog c87 ((Try.f87.body).getD .skip) = true:=by kernel_rfl
theorem r87_ok:cmpR Try.prog r87 Try.f87.results.toList = true:=by kernel_rfl
theorem t87 {args:List SV} {res:SV} (ka:KFL args) (kr:KF res) (h:sx Try.prog Y0 0 c87 (st0 args 19) (retK r87 res)) (hA:Nat.ble args.length 19 = true:=by rfl):Ct Try.prog 87 args res:=ct_intro Try.func87 rfl b87 c87_ok r87_ok n87 (Nat.le_of_ble_eq_true hA) ka kr h
def c88:SC:=(.seq (.reg [
 ⟨some 6,.mv (.c (.bool false)),none,[]⟩])
 (.seq (.reg [
 ⟨some 7,.mv (.t 0),none,[]⟩,
 ⟨some 8,.mv (.t 1),none,[]⟩,
 ⟨some 9,.bin .geq (.t 7) (.t 8),none,[]⟩,
 ⟨some 10,.mv (.t 9),none,[]⟩,
 ⟨some 11,.mv (.t 0),some (10,true),[]⟩,
 ⟨some 12,.mv (.t 2),some (10,true),[]⟩,
 ⟨some 13,.bin .leq (.t 11) (.t 12),some (10,true),[]⟩,
 ⟨some 14,.pick (.t 10) (.t 13) (.c (.bool false)),none,[]⟩,
 ⟨some 6,.mv (.t 14),none,[]⟩])
 .ret))
def r88:List RV:=[.tmp 6]
theorem n88:Try.f88.ntmps = 15:=by kernel_rfl
theorem b88:bodyB Try.prog 88 = true:=by kernel_rfl
theorem c88_ok:cmpC Try.prog c88 ((Try.f88.body).getD .skip) = true:=by kernel_rfl
theorem r88_ok:cmpR Try.prog r88 Try.f88.results.toList = true:=by kernel_rfl
theorem t88 {args:List SV} {res:SV} (ka:KFL args) (kr:KF res) (h:sx Try.prog Y0 0 c88 (st0 args 15) (retK r88 res)) (hA:Nat.ble args.length 15 = true:=by rfl):Ct Try.prog 88 args res:=ct_intro Try.func88 rfl b88 c88_ok r88_ok n88 (Nat.le_of_ble_eq_true hA) ka kr h
def c89:SC:=(.seq (.reg [
 ⟨some 3,.box (.t 0) 0 23,none,[]⟩,
 ⟨some 6,.alloc [.int .i64 0,.int .i64 0] 23,none,[]⟩])
 (.seq (.seq (.reg [
 ⟨some 9,.mv (.t 2),none,[]⟩,
 ⟨some 10,.len (.t 9),none,[]⟩,
 ⟨some 11,.mv (.c (.int .i64 0)),none,[]⟩])
 (.block 0 (.loop (.seq (.reg [
  ⟨some 12,.bin .lss (.t 11) (.t 10),none,[]⟩])
  (.seq (.cond (.t 12)
  .skip
  (.exit 0))
  (.seq (.block 1 (.seq (.reg [
   ⟨some 13,.ixs (.t 9) (.t 11) 1,none,[]⟩,
   ⟨some 14,.ld (.t 13) 1 false,none,[]⟩,
   ⟨some 8,.mv (.t 14),none,[]⟩])
   (.reg [
   ⟨some 15,.addo (.t 3) 0,none,[]⟩,
   ⟨some 16,.ld (.t 15) 1 false,none,[]⟩,
   ⟨some 17,.mv (.t 8),none,[]⟩,
   ⟨some 18,.bin .mul (.t 16) (.t 17),none,[]⟩,
   ⟨some 19,.addo (.t 3) 1,none,[]⟩,
   ⟨some 20,.ld (.t 19) 1 false,none,[]⟩,
   ⟨some 21,.mv (.t 8),none,[]⟩,
   ⟨some 22,.bin .mul (.t 20) (.t 21),none,[]⟩,
   ⟨some 23,.addo (.t 3) 0,none,[]⟩,
   ⟨none,.st (.t 23) (.t 18) 1,none,[]⟩,
   ⟨some 24,.addo (.t 3) 1,none,[]⟩,
   ⟨none,.st (.t 24) (.t 22) 1,none,[]⟩])))
  (.reg [
  ⟨some 25,.bin .add (.t 11) (.c (.int .i64 1)),none,[]⟩,
  ⟨some 11,.mv (.t 25),none,[]⟩])))))))
 (.seq (.regd [0,1,2,3,4,5,6,7,8,9] [
 .op ⟨some 26,.addo (.t 3) 0,none,[]⟩,
 .op ⟨some 27,.ld (.t 26) 1 false,none,[0]⟩,
 .op ⟨some 28,.mv (.t 1),none,[]⟩,
 .op ⟨some 29,.div .quo (.t 27) (.t 28),none,[1,2]⟩,
 .op ⟨some 30,.addo (.t 3) 1,none,[]⟩,
 .op ⟨some 31,.ld (.t 30) 1 false,none,[4]⟩,
 .op ⟨some 32,.mv (.t 1),none,[]⟩,
 .op ⟨some 33,.call 90 [.t 31,.t 32],none,[5,6]⟩,
 .op ⟨some 34,.build [.int .i64 0,.int .i64 0] [(0,1,.t 29),(1,1,.t 33)],none,[3,7]⟩] 0 1 [
 ⟨none,.st (.t 6) (.t 34) 2,none,[0,1,2,3,4,5,6,7,8]⟩])
 .ret)))
def r89:List RV:=[.cell 6 2 true]
theorem n89:Try.f89.ntmps = 35:=by kernel_rfl
theorem b89:bodyB Try.prog 89 = true:=by kernel_rfl
theorem c89_ok:cmpC Try.prog c89 ((Try.f89.body).getD .skip) = true:=by kernel_rfl
theorem r89_ok:cmpR Try.prog r89 Try.f89.results.toList = true:=by kernel_rfl
theorem t89 {args:List SV} {res:SV} (ka:KFL args) (kr:KF res) (h:sx Try.prog Y0 0 c89 (st0 args 35) (retK r89 res)) (hA:Nat.ble args.length 35 = true:=by rfl):Ct Try.prog 89 args res:=ct_intro Try.func89 rfl b89 c89_ok r89_ok n89 (Nat.le_of_ble_eq_true hA) ka kr h
def c90:SC:=(.seq (.reg [
 ⟨some 4,.mv (.c (.int .i64 0)),none,[]⟩])
 (.seq (.reg [
 ⟨some 5,.mv (.t 0),none,[]⟩,
 ⟨some 6,.mv (.t 1),none,[]⟩,
 ⟨some 7,.bin .add (.t 5) (.t 6),none,[]⟩,
 ⟨some 8,.bin .sub (.t 7) (.c (.int .i64 1)),none,[]⟩,
 ⟨some 9,.mv (.t 1),none,[]⟩,
 ⟨some 10,.div .quo (.t 8) (.t 9),none,[]⟩,
 ⟨some 4,.mv (.t 10),none,[]⟩])
 .ret))
def r90:List RV:=[.tmp 4]
theorem n90:Try.f90.ntmps = 11:=by kernel_rfl
theorem b90:bodyB Try.prog 90 = true:=by kernel_rfl
theorem c90_ok:cmpC Try.prog c90 ((Try.f90.body).getD .skip) = true:=by kernel_rfl
theorem r90_ok:cmpR Try.prog r90 Try.f90.results.toList = true:=by kernel_rfl
theorem t90 {args:List SV} {res:SV} (ka:KFL args) (kr:KF res) (h:sx Try.prog Y0 0 c90 (st0 args 11) (retK r90 res)) (hA:Nat.ble args.length 11 = true:=by rfl):Ct Try.prog 90 args res:=ct_intro Try.func90 rfl b90 c90_ok r90_ok n90 (Nat.le_of_ble_eq_true hA) ka kr h
def c91:SC:=(.seq (.reg [
 ⟨some 4,.mv (.c (.bool false)),none,[]⟩])
 (.seq (.reg [
 ⟨some 5,.mv (.t 0),none,[]⟩,
 ⟨some 6,.mv (.t 1),none,[]⟩,
 ⟨some 7,.call 101 [.t 5,.t 6],none,[]⟩,
 ⟨some 8,.bin .geq (.t 7) (.c (.int .i64 0)),none,[]⟩,
 ⟨some 4,.mv (.t 8),none,[]⟩])
 .ret))
def r91:List RV:=[.tmp 4]
theorem n91:Try.f91.ntmps = 9:=by kernel_rfl
theorem b91:bodyB Try.prog 91 = true:=by kernel_rfl
theorem c91_ok:cmpC Try.prog c91 ((Try.f91.body).getD .skip) = true:=by kernel_rfl
theorem r91_ok:cmpR Try.prog r91 Try.f91.results.toList = true:=by kernel_rfl
theorem t91 {args:List SV} {res:SV} (ka:KFL args) (kr:KF res) (h:sx Try.prog Y0 0 c91 (st0 args 9) (retK r91 res)) (hA:Nat.ble args.length 9 = true:=by rfl):Ct Try.prog 91 args res:=ct_intro Try.func91 rfl b91 c91_ok r91_ok n91 (Nat.le_of_ble_eq_true hA) ka kr h
def c92:SC:=(.seq (.reg [
 ⟨some 4,.mv (.c (.bool false)),none,[]⟩])
 (.seq (.reg [
 ⟨some 5,.mv (.t 0),none,[]⟩,
 ⟨some 6,.ld (.t 1) 1 false,none,[]⟩,
 ⟨some 7,.bin .lss (.t 5) (.t 6),none,[]⟩,
 ⟨some 8,.mv (.t 7),none,[]⟩,
 ⟨some 9,.mv (.t 0),some (8,false),[]⟩,
 ⟨some 10,.ld (.t 2) 1 false,some (8,false),[]⟩,
 ⟨some 11,.bin .gtr (.t 9) (.t 10),some (8,false),[]⟩,
 ⟨some 12,.pick (.t 8) (.c (.bool true)) (.t 11),none,[]⟩,
 ⟨some 4,.mv (.t 12),none,[]⟩])
 .ret))
def r92:List RV:=[.tmp 4]
theorem n92:Try.f92.ntmps = 13:=by kernel_rfl
theorem b92:bodyB Try.prog 92 = true:=by kernel_rfl
theorem c92_ok:cmpC Try.prog c92 ((Try.f92.body).getD .skip) = true:=by kernel_rfl
theorem r92_ok:cmpR Try.prog r92 Try.f92.results.toList = true:=by kernel_rfl
theorem t92 {args:List SV} {res:SV} (ka:KFL args) (kr:KF res) (h:sx Try.prog Y0 0 c92 (st0 args 13) (retK r92 res)) (hA:Nat.ble args.length 13 = true:=by rfl):Ct Try.prog 92 args res:=ct_intro Try.func92 rfl b92 c92_ok r92_ok n92 (Nat.le_of_ble_eq_true hA) ka kr h
def c93:SC:=(.seq (.reg [
 ⟨some 4,.mv (.c (.bool false)),none,[]⟩])
 (.seq (.reg [
 ⟨some 5,.mv (.t 0),none,[]⟩,
 ⟨some 6,.mv (.t 1),none,[]⟩,
 ⟨some 7,.call 102 [.t 5,.t 6],none,[]⟩,
 ⟨some 8,.bin .geq (.t 7) (.c (.int .i64 0)),none,[]⟩,
 ⟨some 4,.mv (.t 8),none,[]⟩])
 .ret))
def r93:List RV:=[.tmp 4]
theorem n93:Try.f93.ntmps = 9:=by kernel_rfl
theorem b93:bodyB Try.prog 93 = true:=by kernel_rfl
theorem c93_ok:cmpC Try.prog c93 ((Try.f93.body).getD .skip) = true:=by kernel_rfl
theorem r93_ok:cmpR Try.prog r93 Try.f93.results.toList = true:=by kernel_rfl
theorem t93 {args:List SV} {res:SV} (ka:KFL args) (kr:KF res) (h:sx Try.prog Y0 0 c93 (st0 args 9) (retK r93 res)) (hA:Nat.ble args.length 9 = true:=by rfl):Ct Try.prog 93 args res:=ct_intro Try.func93 rfl b93 c93_ok r93_ok n93 (Nat.le_of_ble_eq_true hA) ka kr h
def c94:SC:=(.seq (.reg [
 ⟨some 3,.box (.t 0) 0 23,none,[]⟩,
 ⟨some 4,.mv (.c (.bool false)),none,[]⟩])
 (.seq (.reg [
 ⟨some 5,.addo (.t 3) 0,none,[]⟩,
 ⟨some 6,.ld (.t 5) 1 false,none,[]⟩,
 ⟨some 7,.addo (.t 3) 1,none,[]⟩,
 ⟨some 8,.ld (.t 7) 1 false,none,[]⟩,
 ⟨some 9,.bin .gtr (.t 6) (.t 8),none,[]⟩,
 ⟨some 10,.mv (.t 9),none,[]⟩,
 ⟨some 11,.ld (.t 1) 1 false,some (10,false),[]⟩,
 ⟨some 12,.ld (.t 2) 1 false,some (10,false),[]⟩,
 ⟨some 13,.addo (.t 3) 0,some (10,false),[]⟩,
 ⟨some 14,.ld (.t 13) 1 false,some (10,false),[]⟩,
 ⟨some 15,.addo (.t 3) 1,some (10,false),[]⟩,
 ⟨some 16,.ld (.t 15) 1 false,some (10,false),[]⟩,
 ⟨some 17,.bsl 1 3 [.t 14,.t 16],some (10,false),[]⟩,
 ⟨some 18,.call 64 [.t 11,.t 12,.t 17],some (10,false),[]⟩,
 ⟨some 19,.un .not (.t 18),some (10,false),[]⟩,
 ⟨some 20,.pick (.t 10) (.c (.bool true)) (.t 19),none,[]⟩,
 ⟨some 4,.mv (.t 20),none,[]⟩])
 .ret))
def r94:List RV:=[.tmp 4]
theorem n94:Try.f94.ntmps = 21:=by kernel_rfl
theorem b94:bodyB Try.prog 94 = true:=by kernel_rfl
theorem c94_ok:cmpC Try.prog c94 ((Try.f94.body).getD .skip) = true:=by kernel_rfl
theorem r94_ok:cmpR Try.prog r94 Try.f94.results.toList = true:=by kernel_rfl
theorem t94 {args:List SV} {res:SV} (ka:KFL args) (kr:KF res) (h:sx Try.prog Y0 0 c94 (st0 args 21) (retK r94 res)) (hA:Nat.ble args.length 21 = true:=by rfl):Ct Try.prog 94 args res:=ct_intro Try.func94 rfl b94 c94_ok r94_ok n94 (Nat.le_of_ble_eq_true hA) ka kr h
def c101:SC:=(.seq (.reg [
 ⟨some 4,.mv (.c (.int .i64 0)),none,[]⟩])
 (.seq (.seq (.reg [
 ⟨some 6,.mv (.t 0),none,[]⟩,
 ⟨some 7,.len (.t 6),none,[]⟩,
 ⟨some 8,.mv (.c (.int .i64 0)),none,[]⟩])
 (.block 0 (.loop (.seq (.reg [
  ⟨some 9,.bin .lss (.t 8) (.t 7),none,[]⟩])
  (.seq (.cond (.t 9)
  .skip
  (.exit 0))
  (.seq (.block 1 (.seq (.reg [
   ⟨some 10,.mv (.t 8),none,[]⟩,
   ⟨some 5,.mv (.t 10),none,[]⟩])
   (.seq (.reg [
   ⟨some 11,.mv (.t 1),none,[]⟩,
   ⟨some 12,.mv (.t 0),none,[]⟩,
   ⟨some 13,.mv (.t 5),none,[]⟩,
   ⟨some 14,.ixs (.t 12) (.t 13) 1,none,[]⟩,
   ⟨some 15,.ld (.t 14) 1 false,none,[]⟩,
   ⟨some 16,.calv (.t 11) [.t 15],none,[]⟩])
   (.cond (.t 16)
   (.seq (.reg [
    ⟨some 17,.mv (.t 5),none,[]⟩,
    ⟨some 4,.mv (.t 17),none,[]⟩])
    .ret)
   .skip))))
  (.reg [
  ⟨some 18,.bin .add (.t 8) (.c (.int .i64 1)),none,[]⟩,
  ⟨some 8,.mv (.t 18),none,[]⟩])))))))
 (.seq (.reg [
 ⟨some 4,.mv (.c (.int .i64 (-1))),none,[]⟩])
 .ret)))
def r101:List RV:=[.tmp 4]
theorem n101:Try.f101.ntmps = 19:=by kernel_rfl
theorem b101:bodyB Try.prog 101 = true:=by kernel_rfl
theorem c101_ok:cmpC Try.prog c101 ((Try.f101.body).getD .skip) = true:=by kernel_rfl
theorem r101_ok:cmpR Try.prog r101 Try.f101.results.toList = true:=by kernel_rfl
theorem t101 {args:List SV} {res:SV} (ka:KFL args) (kr:KF res) (h:sx Try.prog Y0 0 c101 (st0 args 19) (retK r101 res)) (hA:Nat.ble args.length 19 = true:=by rfl):Ct Try.prog 101 args res:=ct_intro Try.func101 rfl b101 c101_ok r101_ok n101 (Nat.le_of_ble_eq_true hA) ka kr h
def c102:SC:=(.seq (.reg [
 ⟨some 4,.mv (.c (.int .i64 0)),none,[]⟩])
 (.seq (.seq (.reg [
 ⟨some 6,.mv (.t 0),none,[]⟩,
 ⟨some 7,.len (.t 6),none,[]⟩,
 ⟨some 8,.mv (.c (.int .i64 0)),none,[]⟩])
 (.block 0 (.loop (.seq (.reg [
  ⟨some 9,.bin .lss (.t 8) (.t 7),none,[]⟩])
  (.seq (.cond (.t 9)
  .skip
  (.exit 0))
  (.seq (.block 1 (.seq (.reg [
   ⟨some 10,.mv (.t 8),none,[]⟩,
   ⟨some 5,.mv (.t 10),none,[]⟩])
   (.seq (.reg [
   ⟨some 11,.mv (.t 1),none,[]⟩,
   ⟨some 12,.mv (.t 0),none,[]⟩,
   ⟨some 13,.mv (.t 5),none,[]⟩,
   ⟨some 14,.ixs (.t 12) (.t 13) 2,none,[]⟩,
   ⟨some 15,.ld (.t 14) 2 true,none,[]⟩,
   ⟨some 16,.calv (.t 11) [.t 15],none,[]⟩])
   (.cond (.t 16)
   (.seq (.reg [
    ⟨some 17,.mv (.t 5),none,[]⟩,
    ⟨some 4,.mv (.t 17),none,[]⟩])
    .ret)
   .skip))))
  (.reg [
  ⟨some 18,.bin .add (.t 8) (.c (.int .i64 1)),none,[]⟩,
  ⟨some 8,.mv (.t 18),none,[]⟩])))))))
 (.seq (.reg [
 ⟨some 4,.mv (.c (.int .i64 (-1))),none,[]⟩])
 .ret)))
def r102:List RV:=[.tmp 4]
theorem n102:Try.f102.ntmps = 19:=by kernel_rfl
theorem b102:bodyB Try.prog 102 = true:=by kernel_rfl
theorem c102_ok:cmpC Try.prog c102 ((Try.f102.body).getD .skip) = true:=by kernel_rfl
theorem r102_ok:cmpR Try.prog r102 Try.f102.results.toList = true:=by kernel_rfl
theorem t102 {args:List SV} {res:SV} (ka:KFL args) (kr:KF res) (h:sx Try.prog Y0 0 c102 (st0 args 19) (retK r102 res)) (hA:Nat.ble args.length 19 = true:=by rfl):Ct Try.prog 102 args res:=ct_intro Try.func102 rfl b102 c102_ok r102_ok n102 (Nat.le_of_ble_eq_true hA) ka kr h
def c4:SC:=(.seq (.reg [
 ⟨some 4,.box (.t 0) 0 25,none,[]⟩,
 ⟨some 5,.box (.t 1) 0 27,none,[]⟩,
 ⟨some 8,.mv (.c (.bool false)),none,[]⟩])
 (.seq (.seq (.reg [
 ⟨some 18,.mv (.t 2),none,[]⟩,
 ⟨some 19,.len (.t 18),none,[]⟩,
 ⟨some 20,.bin .gtr (.t 19) (.c (.int .i64 100)),none,[]⟩,
 ⟨some 21,.mv (.t 20),none,[]⟩,
 ⟨some 22,.mv (.t 3),some (21,false),[]⟩,
 ⟨some 23,.len (.t 22),some (21,false),[]⟩,
 ⟨some 24,.bin .gtr (.t 23) (.c (.int .i64 50)),some (21,false),[]⟩,
 ⟨some 25,.pick (.t 21) (.c (.bool true)) (.t 24),none,[]⟩])
 (.cond (.t 25)
 (.seq (.reg [
  ⟨some 8,.mv (.c (.bool true)),none,[]⟩])
  .ret)
 .skip))
 (.seq (.reg [
 ⟨some 26,.bsl 7 27 [],none,[]⟩,
 ⟨some 27,.mv (.t 3),none,[]⟩,
 ⟨some 28,.app 7 56 27 (.t 26) (.t 27),none,[]⟩,
 ⟨some 9,.mv (.t 28),none,[]⟩])
 (.seq (.reg [
 ⟨some 30,.ld (.t 4) 17 true,none,[]⟩,
 ⟨some 31,.ld (.t 5) 7 true,none,[]⟩,
 ⟨some 32,.mv (.t 2),none,[]⟩,
 ⟨some 33,.call 24 [.t 30,.t 31,.t 32],none,[]⟩,
 ⟨some 29,.mv (.t 33),none,[]⟩,
 ⟨some 34,.ext (.t 29) 0,none,[]⟩,
 ⟨some 35,.ext (.t 29) 1,none,[]⟩,
 ⟨some 10,.mv (.t 34),none,[]⟩,
 ⟨some 11,.mv (.t 35),none,[]⟩])
 (.seq (.reg [
 ⟨some 37,.ld (.t 4) 17 true,none,[]⟩,
 ⟨some 38,.ld (.t 5) 7 true,none,[]⟩,
 ⟨some 39,.mv (.t 2),none,[]⟩,
 ⟨some 40,.call 25 [.t 37,.t 38,.t 39],none,[]⟩,
 ⟨some 36,.mv (.t 40),none,[]⟩,
 ⟨some 41,.ext (.t 36) 0,none,[]⟩,
 ⟨some 42,.ext (.t 36) 1,none,[]⟩,
 ⟨some 12,.mv (.t 41),none,[]⟩,
 ⟨some 13,.mv (.t 42),none,[]⟩])
 (.seq (.reg [
 ⟨some 44,.ld (.t 4) 17 true,none,[]⟩,
 ⟨some 45,.mv (.t 9),none,[]⟩,
 ⟨some 46,.call 26 [.t 44,.t 45],none,[]⟩,
 ⟨some 43,.mv (.t 46),none,[]⟩,
 ⟨some 47,.ext (.t 43) 0,none,[]⟩,
 ⟨some 48,.ext (.t 43) 1,none,[]⟩,
 ⟨some 14,.alloc [.int .i64 0,.int .i64 0] 23,none,[]⟩,
 ⟨none,.st (.t 14) (.t 47) 2,none,[]⟩,
 ⟨some 15,.mv (.t 48),none,[]⟩])
 (.seq (.reg [
 ⟨some 50,.ld (.t 4) 17 true,none,[]⟩,
 ⟨some 51,.mv (.t 3),none,[]⟩,
 ⟨some 52,.call 27 [.t 50,.t 51],none,[]⟩,
 ⟨some 49,.mv (.t 52),none,[]⟩,
 ⟨some 53,.ext (.t 49) 0,none,[]⟩,
 ⟨some 54,.ext (.t 49) 1,none,[]⟩,
 ⟨some 16,.alloc [.int .i64 0,.int .i64 0] 23,none,[]⟩,
 ⟨none,.st (.t 16) (.t 53) 2,none,[]⟩,
 ⟨some 17,.mv (.t 54),none,[]⟩])
 (.seq (.reg [
 ⟨some 55,.mv (.t 10),none,[]⟩,
 ⟨some 56,.mv (.t 12),none,[]⟩,
 ⟨some 57,.bin .eql (.t 55) (.t 56),none,[]⟩,
 ⟨some 58,.mv (.t 57),none,[]⟩,
 ⟨some 59,.mv (.t 11),some (58,true),[]⟩,
 ⟨some 60,.mv (.t 13),some (58,true),[]⟩,
 ⟨some 61,.bin .eql (.t 59) (.t 60),some (58,true),[]⟩,
 ⟨some 62,.pick (.t 58) (.t 61) (.c (.bool false)),none,[]⟩,
 ⟨some 63,.mv (.t 62),none,[]⟩,
 ⟨some 64,.ld (.t 14) 2 true,some (63,true),[]⟩,
 ⟨some 65,.ld (.t 16) 2 true,some (63,true),[]⟩,
 ⟨some 66,.eqs false true [1,1] (.t 64) (.t 65),some (63,true),[]⟩,
 ⟨some 67,.pick (.t 63) (.t 66) (.c (.bool false)),none,[]⟩,
 ⟨some 68,.mv (.t 67),none,[]⟩,
 ⟨some 69,.mv (.t 15),some (68,true),[]⟩,
 ⟨some 70,.mv (.t 17),some (68,true),[]⟩,
 ⟨some 71,.bin .eql (.t 69) (.t 70),some (68,true),[]⟩,
 ⟨some 72,.pick (.t 68) (.t 71) (.c (.bool false)),none,[]⟩,
 ⟨some 73,.mv (.t 72),none,[]⟩,
 ⟨some 74,.mv (.t 9),some (73,true),[]⟩,
 ⟨some 75,.mv (.t 3),some (73,true),[]⟩,
 ⟨some 76,.call 28 [.t 74,.t 75],some (73,true),[]⟩,
 ⟨some 77,.pick (.t 73) (.t 76) (.c (.bool false)),none,[]⟩,
 ⟨some 8,.mv (.t 77),none,[]⟩])
 .ret))))))))
def r4:List RV:=[.tmp 8]
theorem n4:Try.f4.ntmps = 78:=by kernel_rfl
theorem b4:bodyB Try.prog 4 = true:=by kernel_rfl
theorem c4_ok:cmpC Try.prog c4 ((Try.f4.body).getD .skip) = true:=by kernel_rfl
theorem r4_ok:cmpR Try.prog r4 Try.f4.results.toList = true:=by kernel_rfl
theorem t4 {args:List SV} {res:SV} (ka:KFL args) (kr:KF res) (h:sx Try.prog Y0 0 c4 (st0 args 78) (retK r4 res)) (hA:Nat.ble args.length 78 = true:=by rfl):Ct Try.prog 4 args res:=ct_intro Try.func4 rfl b4 c4_ok r4_ok n4 (Nat.le_of_ble_eq_true hA) ka kr h
def c66:SC:=(.seq (.reg [
 ⟨some 3,.box (.t 0) 0 25,none,[]⟩,
 ⟨some 4,.box (.t 1) 0 27,none,[]⟩,
 ⟨some 6,.mv (.c (.int .i64 0)),none,[]⟩])
 (.seq (.seq (.reg [
 ⟨some 8,.ld (.t 3) 17 true,none,[]⟩,
 ⟨some 9,.ld (.t 4) 7 true,none,[]⟩,
 ⟨some 10,.call 22 [.t 8,.t 9],none,[]⟩,
 ⟨some 7,.mv (.t 10),none,[]⟩])
 (.seq (.reg [
 ⟨some 11,.mv (.t 7),none,[]⟩,
 ⟨some 12,.bin .neq (.t 11) (.c (.int .i64 0)),none,[]⟩])
 (.cond (.t 12)
 (.seq (.reg [
  ⟨some 13,.mv (.t 7),none,[]⟩,
  ⟨some 6,.mv (.t 13),none,[]⟩])
  .ret)
 .skip)))
 (.seq (.seq (.reg [
 ⟨some 14,.mv (.t 2),none,[]⟩,
 ⟨some 15,.len (.t 14),none,[]⟩,
 ⟨some 16,.bin .gtr (.t 15) (.c (.int .i64 60)),none,[]⟩])
 (.cond (.t 16)
 (.seq (.reg [
  ⟨some 6,.mv (.c (.int .i64 4)),none,[]⟩])
  .ret)
 .skip))
 (.seq (.reg [
 ⟨some 17,.mv (.t 2),none,[]⟩,
 ⟨some 18,.call 59 [.t 17],none,[]⟩,
 ⟨some 6,.mv (.t 18),none,[]⟩])
 .ret))))
def r66:List RV:=[.tmp 6]
theorem n66:Try.f66.ntmps = 19:=by kernel_rfl
theorem b66:bodyB Try.prog 66 = true:=by kernel_rfl
theorem c66_ok:cmpC Try.prog c66 ((Try.f66.body).getD .skip) = true:=by kernel_rfl
theorem r66_ok:cmpR Try.prog r66 Try.f66.results.toList = true:=by kernel_rfl
theorem t66 {args:List SV} {res:SV} (ka:KFL args) (kr:KF res) (h:sx Try.prog Y0 0 c66 (st0 args 19) (retK r66 res)) (hA:Nat.ble args.length 19 = true:=by rfl):Ct Try.prog 66 args res:=ct_intro Try.func66 rfl b66 c66_ok r66_ok n66 (Nat.le_of_ble_eq_true hA) ka kr h
def c68:SC:=(.seq (.reg [
 ⟨some 2,.box (.t 0) 0 107,none,[]⟩,
 ⟨some 3,.box (.t 1) 0 29,none,[]⟩,
 ⟨some 4,.alloc [.int .i64 0,.int .i64 0,.int .i64 0,.int .i64 0,.int .i64 0,.int .i64 0,.int .i64 0,.int .i64 0,.int .i64 0,.int .i64 0,.int .i64 0,.int .i64 0,.int .i64 0,.int .i64 0,.int .i64 0,.int .i64 0,.int .i64 0,.int .i64 0,.int .i64 0,.int .i64 0,.int .i64 0,.int .i64 0,.int .i64 0,.bool false] 107,none,[]⟩,
 ⟨some 5,.mv (.c (.int .u8 0)),none,[]⟩])
 (.seq (.reg [
 ⟨some 16,.addo (.t 2) 17,none,[]⟩,
 ⟨some 17,.addo (.t 16) 0,none,[]⟩,
 ⟨some 18,.addo (.t 2) 17,none,[]⟩,
 ⟨some 19,.addo (.t 18) 2,none,[]⟩,
 ⟨some 20,.build [.pointer none,.pointer none] [(0,1,.t 17),(1,1,.t 19)],none,[]⟩,
 ⟨some 6,.alloc [.pointer none,.pointer none] 151,none,[]⟩,
 ⟨none,.st (.t 6) (.t 20) 2,none,[]⟩])
 (.seq (.regd [0,1,2,3,4,5,6,7,8,9,10,11,12,13,14,15] [
 .op ⟨some 21,.addo (.t 2) 0,none,[]⟩,
 .op ⟨some 22,.addo (.t 21) 0,none,[0]⟩,
 .op ⟨some 23,.ld (.t 22) 1 false,none,[1]⟩,
 .op ⟨some 24,.addo (.t 2) 0,none,[]⟩,
 .op ⟨some 25,.addo (.t 24) 1,none,[3]⟩,
 .op ⟨some 26,.ld (.t 25) 1 false,none,[4]⟩,
 .op ⟨some 27,.build [.int .i64 0,.int .i64 0] [(0,1,.t 23),(1,1,.t 26)],none,[2,5]⟩,
 .op ⟨some 28,.addo (.t 3) 6,none,[]⟩,
 .op ⟨some 29,.ld (.t 28) 2 true,none,[7]⟩,
 .op ⟨some 30,.addo (.t 3) 4,none,[]⟩,
 .op ⟨some 31,.ld (.t 30) 2 true,none,[9]⟩,
 .op ⟨some 32,.build [.int .i64 0,.int .i64 0,.int .i64 0,.int .i64 0] [(0,2,.t 29),(2,2,.t 31)],none,[8,10]⟩] 2 2 [
 ⟨some 7,.alloc [.int .i64 0,.int .i64 0] 97,none,[]⟩,
 ⟨some 8,.alloc [.int .i64 0,.int .i64 0,.int .i64 0,.int .i64 0] 112,none,[]⟩,
 ⟨none,.st (.t 7) (.t 27) 2,none,[0,1,2,3,4,5,6,12,13]⟩,
 ⟨none,.st (.t 8) (.t 32) 4,none,[0,1,2,3,4,5,6,7,8,9,10,11,12,13,14]⟩])
 (.seq (.reg [
 ⟨some 9,.mv (.c (.int .u8 0)),none,[]⟩])
 (.seq (.seq (.reg [
 ⟨some 33,.addo (.t 2) 0,none,[]⟩,
 ⟨some 34,.ld (.t 33) 17 true,none,[]⟩,
 ⟨some 35,.addo (.t 2) 17,none,[]⟩,
 ⟨some 36,.addo (.t 35) 6,none,[]⟩,
 ⟨some 37,.ld (.t 36) 1 false,none,[]⟩,
 ⟨some 38,.ld (.t 3) 8 true,none,[]⟩,
 ⟨some 39,.call 60 [.t 34,.t 37,.t 38],none,[]⟩,
 ⟨some 40,.mv (.c (.int .i64 0)),none,[]⟩])
 (.block 0 (.loop (.seq (.reg [
  ⟨some 41,.bin .lss (.t 40) (.c (.int .i64 2)),none,[]⟩])
  (.seq (.cond (.t 41)
  .skip
  (.exit 0))
  (.seq (.block 1 (.seq (.reg [
   ⟨some 42,.mv (.t 40),none,[]⟩,
   ⟨some 43,.idx (.t 39) (.t 40) 2 2 true,none,[]⟩,
   ⟨some 11,.alloc [.int .i64 0,.int .i64 0] 23,none,[]⟩,
   ⟨some 10,.mv (.t 42),none,[]⟩,
   ⟨none,.st (.t 11) (.t 43) 2,none,[]⟩])
   (.seq (.reg [
   ⟨some 44,.mv (.t 10),none,[]⟩,
   ⟨some 45,.ixa (.t 6) (.t 44) 2 1,none,[]⟩,
   ⟨some 46,.ld (.t 45) 1 false,none,[]⟩,
   ⟨some 12,.mv (.t 46),none,[]⟩])
   (.seq (.block 2 (.seq (.regd [0,1,2,3,4,5,6,7] [
    .op ⟨some 48,.mv (.t 12),none,[]⟩,
    .op ⟨some 49,.nilc (.t 48),none,[0]⟩,
    .op ⟨some 50,.addo (.t 49) 1,none,[1]⟩,
    .op ⟨some 51,.ld (.t 50) 1 false,none,[2]⟩,
    .op ⟨some 52,.addo (.t 11) 0,none,[]⟩,
    .op ⟨some 53,.ld (.t 52) 1 false,none,[4]⟩,
    .op ⟨some 54,.bin .lss (.t 51) (.t 53),none,[3,5]⟩,
    .op ⟨some 47,.mv (.t 54),none,[6]⟩] 0 0 [
])
 (.cond (.t 47)
 (.seq (.reg [
  ⟨some 55,.build [.int .i64 0,.int .i64 0,.int .i64 0,.int .i64 0,.int .i64 0,.int .i64 0,.int .i64 0,.int .i64 0,.int .i64 0,.int .i64 0,.int .i64 0,.int .i64 0,.int .i64 0,.int .i64 0,.int .i64 0,.int .i64 0,.int .i64 0,.int .i64 0,.int .i64 0,.int .i64 0,.int .i64 0,.int .i64 0,.int .i64 0,.bool false] [],none,[]⟩,
  ⟨none,.st (.t 4) (.t 55) 24,none,[]⟩,
  ⟨some 5,.mv (.c (.int .u8 2)),none,[]⟩])
  .ret)
 (.seq (.regd [0,1,2,3,4,5,6,7] [
  .op ⟨some 57,.mv (.t 12),none,[]⟩,
  .op ⟨some 58,.nilc (.t 57),none,[0]⟩,
  .op ⟨some 59,.addo (.t 58) 0,none,[1]⟩,
  .op ⟨some 60,.ld (.t 59) 1 false,none,[2]⟩,
  .op ⟨some 61,.addo (.t 11) 1,none,[]⟩,
  .op ⟨some 62,.ld (.t 61) 1 false,none,[4]⟩,
  .op ⟨some 63,.bin .lss (.t 60) (.t 62),none,[3,5]⟩,
  .op ⟨some 56,.mv (.t 63),none,[6]⟩] 0 0 [
])
 (.cond (.t 56)
 (.reg [
  ⟨some 9,.mv (.c (.int .u8 1)),none,[]⟩])
 .skip)))))
 (.seq (.regd [0,1,2,3,4,5,6,7,8,9,10,11,12,13,14,15,16,17,18,19,20,21,22] [
 .op ⟨some 64,.mv (.t 12),none,[]⟩,
 .op ⟨some 65,.nilc (.t 64),none,[0]⟩,
 .op ⟨some 66,.addo (.t 65) 0,none,[1]⟩,
 .op ⟨some 67,.ld (.t 66) 1 false,none,[2]⟩,
 .op ⟨some 68,.addo (.t 11) 1,none,[]⟩,
 .op ⟨some 69,.ld (.t 68) 1 false,none,[4]⟩,
 .op ⟨some 70,.bin .sub (.t 67) (.t 69),none,[3,5]⟩,
 .op ⟨some 71,.mm true [.c (.int .i64 0),.t 70],none,[6]⟩,
 .op ⟨some 72,.mv (.t 12),none,[]⟩,
 .op ⟨some 73,.nilc (.t 72),none,[8]⟩,
 .op ⟨some 74,.addo (.t 73) 1,none,[9]⟩,
 .op ⟨some 75,.ld (.t 74) 1 false,none,[10]⟩,
 .op ⟨some 76,.addo (.t 11) 0,none,[]⟩,
 .op ⟨some 77,.ld (.t 76) 1 false,none,[12]⟩,
 .op ⟨some 78,.bin .sub (.t 75) (.t 77),none,[11,13]⟩,
 .op ⟨some 79,.build [.int .i64 0,.int .i64 0] [(0,1,.t 71),(1,1,.t 78)],none,[7,14]⟩,
 .op ⟨some 80,.mv (.t 10),none,[]⟩,
 .op ⟨some 81,.ixa (.t 8) (.t 80) 2 2,none,[16]⟩,
 .op ⟨some 82,.ld (.t 81) 2 true,none,[17]⟩,
 .op ⟨some 83,.bsl 2 23 [.t 79,.t 82],none,[15,18]⟩,
 .op ⟨some 84,.call 72 [.t 83],none,[19]⟩] 1 1 [
 ⟨some 13,.alloc [.int .i64 0,.int .i64 0] 23,none,[]⟩,
 ⟨none,.st (.t 13) (.t 84) 2,none,[0,1,2,3,4,5,6,7,8,9,10,11,12,13,14,15,16,17,18,19,20,21]⟩])
 (.regd [0,1,2,3,4,5,6,7,8,9,10,11,12,13,14,15] [
 .op ⟨some 85,.mv (.t 12),none,[]⟩,
 .op ⟨some 86,.mv (.t 10),none,[]⟩,
 .op ⟨some 87,.ixa (.t 7) (.t 86) 2 1,none,[1]⟩,
 .op ⟨some 88,.ld (.t 87) 1 false,none,[2]⟩,
 .op ⟨some 89,.addo (.t 13) 0,none,[]⟩,
 .op ⟨some 90,.ld (.t 89) 1 false,none,[4]⟩,
 .op ⟨some 91,.mm false [.t 88,.t 90],none,[3,5]⟩,
 .op ⟨some 92,.mv (.t 10),none,[]⟩,
 .op ⟨some 93,.ixa (.t 7) (.t 92) 2 1,none,[7]⟩,
 .op ⟨some 94,.ld (.t 93) 1 false,none,[8]⟩,
 .op ⟨some 95,.addo (.t 13) 1,none,[]⟩,
 .op ⟨some 96,.ld (.t 95) 1 false,none,[10]⟩,
 .op ⟨some 97,.mm false [.t 94,.t 96],none,[9,11]⟩,
 .op ⟨some 98,.build [.int .i64 0,.int .i64 0] [(0,1,.t 91),(1,1,.t 97)],none,[6,12]⟩,
 .op ⟨some 99,.nilc (.t 85),none,[0,1,2,3,4,5,6,7,8,9,10,11,12,13]⟩] 0 1 [
 ⟨none,.st (.t 99) (.t 98) 2,none,[0,1,2,3,4,5,6,7,8,9,10,11,12,13,14]⟩]))))))
 (.reg [
 ⟨some 100,.bin .add (.t 40) (.c (.int .i64 1)),none,[]⟩,
 ⟨some 40,.mv (.t 100),none,[]⟩])))))))
 (.seq (.reg [
 ⟨some 101,.addo (.t 2) 17,none,[]⟩,
 ⟨some 102,.addo (.t 101) 4,none,[]⟩,
 ⟨some 14,.mv (.t 102),none,[]⟩])
 (.seq (.seq (.reg [
 ⟨some 103,.addo (.t 3) 0,none,[]⟩,
 ⟨some 104,.ld (.t 103) 1 false,none,[]⟩,
 ⟨some 105,.bin .eql (.t 104) (.c (.int .i64 0)),none,[]⟩])
 (.cond (.t 105)
 (.seq (.regd [0,1,2,3,4,5,6,7,8,9,10,11,12,13,14,15,16,17,18,19,20,21] [
  .op ⟨some 106,.mv (.t 14),none,[]⟩,
  .op ⟨some 107,.mv (.t 14),none,[]⟩,
  .op ⟨some 108,.nilc (.t 107),none,[1]⟩,
  .op ⟨some 109,.addo (.t 108) 0,none,[2]⟩,
  .op ⟨some 110,.ld (.t 109) 1 false,none,[3]⟩,
  .op ⟨some 111,.addo (.t 2) 0,none,[]⟩,
  .op ⟨some 112,.addo (.t 111) 14,none,[5]⟩,
  .op ⟨some 113,.ld (.t 112) 1 false,none,[6]⟩,
  .op ⟨some 114,.bin .sub (.t 110) (.t 113),none,[4,7]⟩,
  .op ⟨some 115,.mm true [.c (.int .i64 0),.t 114],none,[8]⟩,
  .op ⟨some 116,.mv (.t 14),none,[]⟩,
  .op ⟨some 117,.nilc (.t 116),none,[10]⟩,
  .op ⟨some 118,.addo (.t 117) 1,none,[11]⟩,
  .op ⟨some 119,.ld (.t 118) 1 false,none,[12]⟩,
  .op ⟨some 120,.addo (.t 2) 0,none,[]⟩,
  .op ⟨some 121,.addo (.t 120) 14,none,[14]⟩,
  .op ⟨some 122,.ld (.t 121) 1 false,none,[15]⟩,
  .op ⟨some 123,.bin .sub (.t 119) (.t 122),none,[13,16]⟩,
  .op ⟨some 124,.mm true [.c (.int .i64 0),.t 123],none,[17]⟩,
  .op ⟨some 125,.build [.int .i64 0,.int .i64 0] [(0,1,.t 115),(1,1,.t 124)],none,[9,18]⟩,
  .op ⟨some 126,.nilc (.t 106),none,[0,1,2,3,4,5,6,7,8,9,10,11,12,13,14,15,16,17,18,19]⟩] 0 1 [
  ⟨none,.st (.t 126) (.t 125) 2,none,[0,1,2,3,4,5,6,7,8,9,10,11,12,13,14,15,16,17,18,19,20]⟩])
  (.seq (.reg [
  ⟨some 127,.ld (.t 2) 24 true,none,[]⟩,
  ⟨some 128,.mv (.t 9),none,[]⟩,
  ⟨none,.st (.t 4) (.t 127) 24,none,[]⟩,
  ⟨some 5,.mv (.t 128),none,[]⟩])
  .ret))
 .skip))
 (.seq (.regd [0,1,2,3,4,5,6,7,8,9,10,11,12,13,14,15] [
 .op ⟨some 129,.mv (.t 14),none,[]⟩,
 .op ⟨some 130,.nilc (.t 129),none,[0]⟩,
 .op ⟨some 131,.ld (.t 130) 2 true,none,[1]⟩,
 .op ⟨some 132,.addo (.t 2) 0,none,[]⟩,
 .op ⟨some 133,.addo (.t 132) 10,none,[3]⟩,
 .op ⟨some 134,.ld (.t 133) 2 true,none,[4]⟩,
 .op ⟨some 135,.addo (.t 3) 0,none,[]⟩,
 .op ⟨some 136,.ld (.t 135) 1 false,none,[6]⟩,
 .op ⟨some 137,.addo (.t 3) 1,none,[]⟩,
 .op ⟨some 138,.ld (.t 137) 1 false,none,[8]⟩,
 .op ⟨some 139,.bsl 1 3 [.t 136,.t 138],none,[7,9]⟩,
 .op ⟨some 140,.call 89 [.t 134,.c (.int .i64 1000000),.t 139],none,[5,10]⟩,
 .op ⟨some 141,.bsl 2 23 [.t 131,.t 140],none,[2,11]⟩,
 .op ⟨some 142,.call 72 [.t 141],none,[11,12]⟩] 1 1 [
 ⟨some 15,.alloc [.int .i64 0,.int .i64 0] 23,none,[]⟩,
 ⟨none,.st (.t 15) (.t 142) 2,none,[0,1,2,3,4,5,6,7,8,9,10,11,12,13,14]⟩])
 (.seq (.reg [
 ⟨some 143,.mv (.t 14),none,[]⟩,
 ⟨some 144,.addo (.t 15) 0,none,[]⟩,
 ⟨some 145,.ld (.t 144) 1 false,none,[]⟩,
 ⟨some 146,.mm false [.c (.int .i64 1000),.t 145],none,[]⟩,
 ⟨some 147,.addo (.t 15) 1,none,[]⟩,
 ⟨some 148,.ld (.t 147) 1 false,none,[]⟩,
 ⟨some 149,.mm false [.c (.int .i64 1000),.t 148],none,[]⟩,
 ⟨some 150,.build [.int .i64 0,.int .i64 0] [(0,1,.t 146),(1,1,.t 149)],none,[]⟩,
 ⟨some 151,.nilc (.t 143),none,[]⟩,
 ⟨none,.st (.t 151) (.t 150) 2,none,[]⟩])
 (.seq (.reg [
 ⟨some 152,.ld (.t 2) 24 true,none,[]⟩,
 ⟨some 153,.mv (.t 9),none,[]⟩,
 ⟨none,.st (.t 4) (.t 152) 24,none,[]⟩,
 ⟨some 5,.mv (.t 153),none,[]⟩])
 .ret))))))))))
def r68:List RV:=[.cell 4 24 true,.tmp 5]
theorem n68:Try.f68.ntmps = 154:=by kernel_rfl
theorem b68:bodyB Try.prog 68 = true:=by kernel_rfl
theorem c68_ok:cmpC Try.prog c68 ((Try.f68.body).getD .skip) = true:=by kernel_rfl
theorem r68_ok:cmpR Try.prog r68 Try.f68.results.toList = true:=by kernel_rfl
theorem t68 {args:List SV} {res:SV} (ka:KFL args) (kr:KF res) (h:sx Try.prog Y0 0 c68 (st0 args 154) (retK r68 res)) (hA:Nat.ble args.length 154 = true:=by rfl):Ct Try.prog 68 args res:=ct_intro Try.func68 rfl b68 c68_ok r68_ok n68 (Nat.le_of_ble_eq_true hA) ka kr h
def c29:SC:=(.seq (.reg [
 ⟨some 3,.box (.t 0) 0 25,none,[]⟩,
 ⟨some 4,.box (.t 1) 0 27,none,[]⟩,
 ⟨some 5,.box (.t 2) 0 29,none,[]⟩,
 ⟨some 6,.alloc [.int .i64 0,.int .i64 0,.int .i64 0,.int .i64 0,.int .i64 0,.int .i64 0,.bool false] 27,none,[]⟩,
 ⟨some 7,.mv (.c (.int .u8 0)),none,[]⟩,
 ⟨some 8,.mv (.c (.int .i64 0)),none,[]⟩])
 (.seq (.seq (.reg [
 ⟨some 12,.ld (.t 3) 17 true,none,[]⟩,
 ⟨some 13,.ld (.t 4) 7 true,none,[]⟩,
 ⟨some 14,.call 22 [.t 12,.t 13],none,[]⟩,
 ⟨some 9,.mv (.t 14),none,[]⟩])
 (.seq (.reg [
 ⟨some 15,.mv (.t 9),none,[]⟩,
 ⟨some 16,.bin .neq (.t 15) (.c (.int .i64 0)),none,[]⟩])
 (.cond (.t 16)
 (.seq (.reg [
  ⟨some 17,.ld (.t 6) 7 true,none,[]⟩,
  ⟨some 18,.mv (.t 9),none,[]⟩,
  ⟨none,.st (.t 6) (.t 17) 7,none,[]⟩,
  ⟨some 7,.mv (.c (.int .u8 0)),none,[]⟩,
  ⟨some 8,.mv (.t 18),none,[]⟩])
  .ret)
 .skip)))
 (.seq (.seq (.reg [
 ⟨some 19,.ld (.t 5) 8 true,none,[]⟩,
 ⟨some 20,.bsl 8 29 [.t 19],none,[]⟩,
 ⟨some 21,.call 59 [.t 20],none,[]⟩,
 ⟨some 10,.mv (.t 21),none,[]⟩])
 (.seq (.reg [
 ⟨some 22,.mv (.t 10),none,[]⟩,
 ⟨some 23,.bin .neq (.t 22) (.c (.int .i64 0)),none,[]⟩])
 (.cond (.t 23)
 (.seq (.reg [
  ⟨some 24,.ld (.t 6) 7 true,none,[]⟩,
  ⟨some 25,.mv (.t 10),none,[]⟩,
  ⟨none,.st (.t 6) (.t 24) 7,none,[]⟩,
  ⟨some 7,.mv (.c (.int .u8 0)),none,[]⟩,
  ⟨some 8,.mv (.t 25),none,[]⟩])
  .ret)
 .skip)))
 (.seq (.reg [
 ⟨some 27,.ld (.t 3) 17 true,none,[]⟩,
 ⟨some 28,.ld (.t 4) 7 true,none,[]⟩,
 ⟨some 29,.build [.int .i64 0,.int .i64 0,.int .i64 0,.int .i64 0,.int .i64 0,.int .i64 0,.int .i64 0,.int .i64 0,.int .i64 0,.int .i64 0,.int .i64 0,.int .i64 0,.int .i64 0,.int .i64 0,.int .i64 0,.int .i64 0,.int .i64 0,.int .i64 0,.int .i64 0,.int .i64 0,.int .i64 0,.int .i64 0,.int .i64 0,.bool false] [(0,17,.t 27),(17,7,.t 28)],none,[]⟩,
 ⟨some 30,.ld (.t 5) 8 true,none,[]⟩,
 ⟨some 31,.call 68 [.t 29,.t 30],none,[]⟩,
 ⟨some 26,.mv (.t 31),none,[]⟩,
 ⟨some 32,.ext (.t 26) 0,none,[]⟩,
 ⟨some 33,.ext (.t 26) 1,none,[]⟩,
 ⟨some 11,.alloc [.int .i64 0,.int .i64 0,.int .i64 0,.int .i64 0,.int .i64 0,.int .i64 0,.int .i64 0,.int .i64 0,.int .i64 0,.int .i64 0,.int .i64 0,.int .i64 0,.int .i64 0,.int .i64 0,.int .i64 0,.int .i64 0,.int .i64 0,.int .i64 0,.int .i64 0,.int .i64 0,.int .i64 0,.int .i64 0,.int .i64 0,.bool false] 107,none,[]⟩,
 ⟨none,.st (.t 11) (.t 32) 24,none,[]⟩,
 ⟨some 7,.mv (.t 33),none,[]⟩])
 (.seq (.seq (.reg [
 ⟨some 34,.mv (.t 7),none,[]⟩,
 ⟨some 35,.bin .eql (.t 34) (.c (.int .u8 2)),none,[]⟩])
 (.cond (.t 35)
 (.seq (.reg [
  ⟨some 36,.ld (.t 6) 7 true,none,[]⟩,
  ⟨none,.st (.t 6) (.t 36) 7,none,[]⟩,
  ⟨some 7,.mv (.c (.int .u8 0)),none,[]⟩,
  ⟨some 8,.mv (.c (.int .i64 13)),none,[]⟩])
  .ret)
 .skip))
 (.seq (.reg [
 ⟨some 37,.addo (.t 11) 17,none,[]⟩,
 ⟨some 38,.ld (.t 37) 7 true,none,[]⟩,
 ⟨some 39,.mv (.t 7),none,[]⟩,
 ⟨none,.st (.t 6) (.t 38) 7,none,[]⟩,
 ⟨some 7,.mv (.t 39),none,[]⟩,
 ⟨some 8,.mv (.c (.int .i64 0)),none,[]⟩])
 .ret))))))
def r29:List RV:=[.cell 6 7 true,.tmp 7,.tmp 8]
theorem n29:Try.f29.ntmps = 40:=by kernel_rfl
theorem b29:bodyB Try.prog 29 = true:=by kernel_rfl
theorem c29_ok:cmpC Try.prog c29 ((Try.f29.body).getD .skip) = true:=by kernel_rfl
theorem r29_ok:cmpR Try.prog r29 Try.f29.results.toList = true:=by kernel_rfl
theorem t29 {args:List SV} {res:SV} (ka:KFL args) (kr:KF res) (h:sx Try.prog Y0 0 c29 (st0 args 40) (retK r29 res)) (hA:Nat.ble args.length 40 = true:=by rfl):Ct Try.prog 29 args res:=ct_intro Try.func29 rfl b29 c29_ok r29_ok n29 (Nat.le_of_ble_eq_true hA) ka kr h
def c33:SC:=(.seq (.reg [
 ⟨some 3,.box (.t 0) 0 25,none,[]⟩,
 ⟨some 4,.box (.t 1) 0 27,none,[]⟩,
 ⟨some 5,.box (.t 2) 0 29,none,[]⟩,
 ⟨some 6,.alloc [.int .i64 0,.int .i64 0] 23,none,[]⟩,
 ⟨some 7,.mv (.c (.int .i64 0)),none,[]⟩])
 (.seq (.seq (.reg [
 ⟨some 13,.ld (.t 3) 17 true,none,[]⟩,
 ⟨some 14,.ld (.t 4) 7 true,none,[]⟩,
 ⟨some 15,.ld (.t 5) 8 true,none,[]⟩,
 ⟨some 16,.bsl 8 29 [.t 15],none,[]⟩,
 ⟨some 17,.call 66 [.t 13,.t 14,.t 16],none,[]⟩,
 ⟨some 8,.mv (.t 17),none,[]⟩])
 (.seq (.reg [
 ⟨some 18,.mv (.t 8),none,[]⟩,
 ⟨some 19,.bin .neq (.t 18) (.c (.int .i64 0)),none,[]⟩])
 (.cond (.t 19)
 (.seq (.reg [
  ⟨some 20,.build [.int .i64 0,.int .i64 0] [],none,[]⟩,
  ⟨some 21,.mv (.t 8),none,[]⟩,
  ⟨none,.st (.t 6) (.t 20) 2,none,[]⟩,
  ⟨some 7,.mv (.t 21),none,[]⟩])
  .ret)
 .skip)))
 (.seq (.reg [
 ⟨some 9,.alloc [.int .i64 0,.int .i64 0] 23,none,[]⟩])
 (.seq (.reg [
 ⟨some 10,.alloc [.bool false] 4,none,[]⟩,
 ⟨none,.st (.t 10) (.c (.bool true)) 1,none,[]⟩])
 (.seq (.seq (.regd [0,1,2,3,4,5,6] [
 .op ⟨some 22,.ld (.t 3) 17 true,none,[]⟩,
 .op ⟨some 23,.ld (.t 4) 7 true,none,[]⟩,
 .op ⟨some 24,.build [.int .i64 0,.int .i64 0,.int .i64 0,.int .i64 0,.int .i64 0,.int .i64 0,.int .i64 0,.int .i64 0,.int .i64 0,.int .i64 0,.int .i64 0,.int .i64 0,.int .i64 0,.int .i64 0,.int .i64 0,.int .i64 0,.int .i64 0,.int .i64 0,.int .i64 0,.int .i64 0,.int .i64 0,.int .i64 0,.int .i64 0,.bool false] [(0,17,.t 22),(17,7,.t 23)],none,[0,1]⟩,
 .op ⟨some 25,.ld (.t 5) 8 true,none,[]⟩,
 .op ⟨some 26,.bsl 8 29 [.t 25],none,[3]⟩,
 .op ⟨some 27,.call 76 [.t 26,.c (.int .i64 60)],none,[4]⟩] 0 0 [
 ⟨some 28,.callm 75 [.t 24,.t 27],none,[2,5]⟩])
 (.block 0 (.gh (.rfun (.t 28) [29,30] (.reg [
  ⟨some 12,.mv (.t 30),none,[]⟩])
  (.block 1 (.seq (.seq (.reg [
   ⟨some 31,.mv (.t 12),none,[]⟩,
   ⟨some 32,.bin .eql (.t 31) (.c (.int .u8 2)),none,[]⟩])
   (.cond (.t 32)
   (.exit 0)
   .skip))
   (.seq (.reg [
   ⟨some 33,.addo (.t 9) 1,none,[]⟩,
   ⟨some 34,.ld (.t 33) 1 false,none,[]⟩,
   ⟨some 35,.bin .add (.t 34) (.c (.int .i64 1)),none,[]⟩,
   ⟨some 36,.addo (.t 9) 1,none,[]⟩,
   ⟨none,.st (.t 36) (.t 35) 1,none,[]⟩])
   (.seq (.reg [
   ⟨some 37,.ld (.t 10) 1 false,none,[]⟩,
   ⟨some 38,.mv (.t 37),none,[]⟩,
   ⟨some 39,.mv (.t 12),some (38,true),[]⟩,
   ⟨some 40,.bin .eql (.t 39) (.c (.int .u8 0)),some (38,true),[]⟩,
   ⟨some 41,.pick (.t 38) (.t 40) (.c (.bool false)),none,[]⟩,
   ⟨none,.st (.t 10) (.t 41) 1,none,[]⟩])
   (.seq (.reg [
   ⟨some 42,.ld (.t 10) 1 false,none,[]⟩])
   (.cond (.t 42)
   (.reg [
    ⟨some 43,.addo (.t 9) 0,none,[]⟩,
    ⟨some 44,.ld (.t 43) 1 false,none,[]⟩,
    ⟨some 45,.bin .add (.t 44) (.c (.int .i64 1)),none,[]⟩,
    ⟨some 46,.addo (.t 9) 0,none,[]⟩,
    ⟨none,.st (.t 46) (.t 45) 1,none,[]⟩])
   .skip))))))))))
 (.seq (.reg [
 ⟨some 47,.ld (.t 9) 2 true,none,[]⟩,
 ⟨none,.st (.t 6) (.t 47) 2,none,[]⟩,
 ⟨some 7,.mv (.c (.int .i64 0)),none,[]⟩])
 .ret))))))
def r33:List RV:=[.cell 6 2 true,.tmp 7]
theorem n33:Try.f33.ntmps = 48:=by kernel_rfl
theorem b33:bodyB Try.prog 33 = true:=by kernel_rfl
theorem c33_ok:cmpC Try.prog c33 ((Try.f33.body).getD .skip) = true:=by kernel_rfl
theorem r33_ok:cmpR Try.prog r33 Try.f33.results.toList = true:=by kernel_rfl
theorem t33 {args:List SV} {res:SV} (ka:KFL args) (kr:KF res) (h:sx Try.prog Y0 0 c33 (st0 args 48) (retK r33 res)) (hA:Nat.ble args.length 48 = true:=by rfl):Ct Try.prog 33 args res:=ct_intro Try.func33 rfl b33 c33_ok r33_ok n33 (Nat.le_of_ble_eq_true hA) ka kr h
def c75:SC:=(.seq (.reg [
 ⟨some 2,.box (.t 0) 0 107,none,[]⟩,
 ⟨some 3,.box (.t 1) 0 44,none,[]⟩,
 ⟨some 4,.mv (.c (.nilFunc)),none,[]⟩])
 (.seq (.reg [
 ⟨some 5,.mkf 95 [.t 3,.t 2],none,[]⟩,
 ⟨some 4,.mv (.t 5),none,[]⟩])
 .ret))
def r75:List RV:=[.tmp 4]
theorem n75:Try.f75.ntmps = 6:=by kernel_rfl
theorem b75:bodyB Try.prog 75 = true:=by kernel_rfl
theorem c75_ok:cmpC Try.prog c75 ((Try.f75.body).getD .skip) = true:=by kernel_rfl
theorem r75_ok:cmpR Try.prog r75 Try.f75.results.toList = true:=by kernel_rfl
theorem m75 {n0:Nat} {hp0:List (Nat × HB)} {args:List SV} {Post:Ot → Prop} (hh:hpb n0 hp0) (hx:∀ o,Post o → KX o.res ∧ KXP o.hp) (h:sx Try.prog Y0 n0 c75 ⟨enum 0 args,hp0,n0,6,[]⟩ (retM r75 fun o=>∃ o',Post o' ∧ EntO n0 o o')) (hA:Nat.ble args.length 6 = true:=by rfl):CtM Try.prog 75 hp0 n0 args Post:=ctm_intro Try.func75 rfl b75 c75_ok r75_ok n75 (Nat.le_of_ble_eq_true hA) hh hx h
def c95:SC:=(.seq (.reg [
 ⟨some 8,.ld (.t 1) 1 false,none,[]⟩,
 ⟨some 9,.len (.t 8),none,[]⟩,
 ⟨some 10,.mv (.c (.int .i64 0)),none,[]⟩])
 (.block 0 (.loop (.seq (.reg [
  ⟨some 11,.bin .lss (.t 10) (.t 9),none,[]⟩])
  (.seq (.cond (.t 11)
  .skip
  (.exit 0))
  (.seq (.block 1 (.seq (.reg [
   ⟨some 12,.ixs (.t 8) (.t 10) 8,none,[]⟩,
   ⟨some 13,.ld (.t 12) 8 true,none,[]⟩,
   ⟨some 5,.alloc [.int .i64 0,.int .i64 0,.int .i64 0,.int .i64 0,.int .i64 0,.int .i64 0,.int .i64 0,.int .i64 0] 29,none,[]⟩,
   ⟨none,.st (.t 5) (.t 13) 8,none,[]⟩])
   (.seq (.reg [
   ⟨some 15,.ld (.t 2) 24 true,none,[]⟩,
   ⟨some 16,.ld (.t 5) 8 true,none,[]⟩,
   ⟨some 17,.call 68 [.t 15,.t 16],none,[]⟩,
   ⟨some 14,.mv (.t 17),none,[]⟩,
   ⟨some 18,.ext (.t 14) 0,none,[]⟩,
   ⟨some 19,.ext (.t 14) 1,none,[]⟩,
   ⟨some 6,.alloc [.int .i64 0,.int .i64 0,.int .i64 0,.int .i64 0,.int .i64 0,.int .i64 0,.int .i64 0,.int .i64 0,.int .i64 0,.int .i64 0,.int .i64 0,.int .i64 0,.int .i64 0,.int .i64 0,.int .i64 0,.int .i64 0,.int .i64 0,.int .i64 0,.int .i64 0,.int .i64 0,.int .i64 0,.int .i64 0,.int .i64 0,.bool false] 107,none,[]⟩,
   ⟨none,.st (.t 6) (.t 18) 24,none,[]⟩,
   ⟨some 7,.mv (.t 19),none,[]⟩])
   (.seq (.seq (.reg [
   ⟨some 20,.mv (.t 0),none,[]⟩,
   ⟨some 21,.ld (.t 6) 24 true,none,[]⟩,
   ⟨some 22,.mv (.t 7),none,[]⟩,
   ⟨some 23,.calvm (.t 20) [.t 21,.t 22],none,[]⟩,
   ⟨some 24,.un .not (.t 23),none,[]⟩,
   ⟨some 25,.mv (.t 24),none,[]⟩,
   ⟨some 26,.mv (.t 7),some (25,false),[]⟩,
   ⟨some 27,.bin .eql (.t 26) (.c (.int .u8 2)),some (25,false),[]⟩,
   ⟨some 28,.pick (.t 25) (.c (.bool true)) (.t 27),none,[]⟩])
   (.cond (.t 28)
   .ret
   .skip))
   (.reg [
   ⟨some 29,.ld (.t 6) 24 true,none,[]⟩,
   ⟨none,.st (.t 2) (.t 29) 24,none,[]⟩])))))
  (.reg [
  ⟨some 30,.bin .add (.t 10) (.c (.int .i64 1)),none,[]⟩,
  ⟨some 10,.mv (.t 30),none,[]⟩])))))))
def r95:List RV:=[]
theorem n95:Try.f95.ntmps = 31:=by kernel_rfl
theorem b95:bodyB Try.prog 95 = true:=by kernel_rfl
theorem c95_ok:cmpC Try.prog c95 ((Try.f95.body).getD .skip) = true:=by kernel_rfl
theorem r95_ok:cmpR Try.prog r95 Try.f95.results.toList = true:=by kernel_rfl
theorem y95 {Y:Hd} {n0:Nat} {hp0:List (Nat × HB)} {args:List SV} {Post:Ot → Prop} (h:sx Try.prog Y n0 c95 ⟨enum 0 args,hp0,n0,31,[]⟩ (retM r95 Post)) (hA:Nat.ble args.length 31 = true:=by rfl):CtY Try.prog Y 95 hp0 n0 args Post:=cty_intro Try.func95 rfl c95_ok r95_ok n95 (Nat.le_of_ble_eq_true hA) h
def c76:SC:=(.seq (.reg [
 ⟨some 4,.mv (.c (.slice none 0 0)),none,[]⟩])
 (.seq (.seq (.reg [
 ⟨some 9,.mv (.t 1),none,[]⟩,
 ⟨some 10,.bin .lss (.t 9) (.c (.int .i64 0)),none,[]⟩])
 (.cond (.t 10)
 (.reg [
  ⟨some 11,.raw (Go.Op.makeInterface 9 (Go.Operand.const (Go.Value.string { data:=#[99,97,110,110,111,116,32,98,101,32,110,101,103,97,116,105,118,101] }))) 20,none,[]⟩,
  ⟨none,.raw (Go.Op.panic (Go.Operand.tmp 11)) 0,none,[]⟩])
 .skip))
 (.seq (.reg [
 ⟨some 13,.mv (.t 0),none,[]⟩,
 ⟨some 14,.len (.t 13),none,[]⟩,
 ⟨some 15,.conv .u64 (.t 14),none,[]⟩,
 ⟨some 16,.mv (.t 1),none,[]⟩,
 ⟨some 17,.conv .u64 (.t 16),none,[]⟩,
 ⟨some 18,.call 96 [.t 15,.t 17],none,[]⟩,
 ⟨some 12,.mv (.t 18),none,[]⟩,
 ⟨some 19,.ext (.t 12) 0,none,[]⟩,
 ⟨some 20,.ext (.t 12) 1,none,[]⟩,
 ⟨some 5,.mv (.t 19),none,[]⟩,
 ⟨some 6,.mv (.t 20),none,[]⟩])
 (.seq (.seq (.reg [
 ⟨some 21,.mv (.t 5),none,[]⟩,
 ⟨some 22,.bin .gtr (.t 21) (.c (.int .u64 0)),none,[]⟩,
 ⟨some 23,.mv (.t 22),none,[]⟩,
 ⟨some 24,.mv (.t 6),some (23,false),[]⟩,
 ⟨some 25,.bin .gtr (.t 24) (.c (.int .u64 9223372036854775807)),some (23,false),[]⟩,
 ⟨some 26,.pick (.t 23) (.c (.bool true)) (.t 25),none,[]⟩])
 (.cond (.t 26)
 (.reg [
  ⟨some 27,.raw (Go.Op.makeInterface 9 (Go.Operand.const (Go.Value.string { data:=#[116,104,101,32,114,101,115,117,108,116,32,111,102,32,40,108,101,110,40,120,41,32,42,32,99,111,117,110,116,41,32,111,118,101,114,102,108,111,119,115] }))) 20,none,[]⟩,
  ⟨none,.raw (Go.Op.panic (Go.Operand.tmp 27)) 0,none,[]⟩])
 .skip))
 (.seq (.reg [
 ⟨some 28,.mv (.t 6),none,[]⟩,
 ⟨some 29,.conv .i64 (.t 28),none,[]⟩,
 ⟨some 30,.mks 8 64 [.int .i64 0,.int .i64 0,.int .i64 0,.int .i64 0,.int .i64 0,.int .i64 0,.int .i64 0,.int .i64 0] 29 (.t 29),none,[]⟩,
 ⟨some 7,.mv (.t 30),none,[]⟩])
 (.seq (.reg [
 ⟨some 31,.mv (.t 7),none,[]⟩,
 ⟨some 32,.mv (.t 0),none,[]⟩,
 ⟨some 33,.cpy 8 (.t 31) (.t 32),none,[]⟩,
 ⟨some 8,.mv (.t 33),none,[]⟩])
 (.seq (.block 0 (.loop (.seq (.seq (.reg [
  ⟨some 34,.mv (.t 8),none,[]⟩,
  ⟨some 35,.mv (.t 7),none,[]⟩,
  ⟨some 36,.len (.t 35),none,[]⟩,
  ⟨some 37,.bin .lss (.t 34) (.t 36),none,[]⟩])
  (.cond (.t 37)
  .skip
  (.exit 0)))
  (.block 1 (.regd [1,2,3,4,5,6,0,7,8,9] [
   .op ⟨some 39,.mv (.t 7),none,[]⟩,
   .op ⟨some 40,.mv (.t 8),none,[]⟩,
   .op ⟨some 41,.sub 8 (.t 39) (some (.t 40)) none,none,[1,2]⟩,
   .op ⟨some 42,.mv (.t 7),none,[]⟩,
   .op ⟨some 43,.mv (.t 8),none,[]⟩,
   .op ⟨some 44,.sub 8 (.t 42) none (some (.t 43)),none,[4,5]⟩,
   .hide (.t 41),
   .op ⟨some 38,.mv (.t 8),none,[]⟩] 0 1 [
   ⟨some 45,.cpy 8 (.t 41) (.t 44),none,[3,6]⟩,
   ⟨some 46,.bin .add (.t 38) (.t 45),none,[0,7]⟩,
   ⟨some 8,.mv (.t 46),none,[0,1,2,3,4,5,6,7,8]⟩])))))
 (.seq (.reg [
 ⟨some 47,.mv (.t 7),none,[]⟩,
 ⟨some 4,.mv (.t 47),none,[]⟩])
 .ret))))))))
def r76:List RV:=[.tmp 4]
theorem n76:Try.f76.ntmps = 48:=by kernel_rfl
theorem b76:bodyB Try.prog 76 = true:=by kernel_rfl
theorem c76_ok:cmpC Try.prog c76 ((Try.f76.body).getD .skip) = true:=by kernel_rfl
theorem r76_ok:cmpR Try.prog r76 Try.f76.results.toList = true:=by kernel_rfl
theorem t76 {args:List SV} {res:SV} (ka:KFL args) (kr:KF res) (h:sx Try.prog Y0 0 c76 (st0 args 48) (retK r76 res)) (hA:Nat.ble args.length 48 = true:=by rfl):Ct Try.prog 76 args res:=ct_intro Try.func76 rfl b76 c76_ok r76_ok n76 (Nat.le_of_ble_eq_true hA) ka kr h
def c96:SC:=(.seq (.reg [
 ⟨some 4,.mv (.c (.int .u64 0)),none,[]⟩,
 ⟨some 5,.mv (.c (.int .u64 0)),none,[]⟩])
 (.seq (.cond (.c (.bool false))
 (.seq (.reg [
  ⟨some 11,.mv (.t 0),none,[]⟩,
  ⟨some 12,.conv .u32 (.t 11),none,[]⟩,
  ⟨some 13,.mv (.t 1),none,[]⟩,
  ⟨some 14,.conv .u32 (.t 13),none,[]⟩,
  ⟨some 15,.call 103 [.t 12,.t 14],none,[]⟩,
  ⟨some 10,.mv (.t 15),none,[]⟩,
  ⟨some 16,.ext (.t 10) 0,none,[]⟩,
  ⟨some 17,.ext (.t 10) 1,none,[]⟩,
  ⟨some 6,.mv (.t 16),none,[]⟩,
  ⟨some 7,.mv (.t 17),none,[]⟩])
  (.seq (.reg [
  ⟨some 18,.mv (.t 6),none,[]⟩,
  ⟨some 19,.conv .u64 (.t 18),none,[]⟩,
  ⟨some 20,.mv (.t 7),none,[]⟩,
  ⟨some 21,.conv .u64 (.t 20),none,[]⟩,
  ⟨some 4,.mv (.t 19),none,[]⟩,
  ⟨some 5,.mv (.t 21),none,[]⟩])
  .ret))
 .skip)
 (.seq (.reg [
 ⟨some 23,.mv (.t 0),none,[]⟩,
 ⟨some 24,.mv (.t 1),none,[]⟩,
 ⟨some 25,.call 104 [.t 23,.t 24],none,[]⟩,
 ⟨some 22,.mv (.t 25),none,[]⟩,
 ⟨some 26,.ext (.t 22) 0,none,[]⟩,
 ⟨some 27,.ext (.t 22) 1,none,[]⟩,
 ⟨some 8,.mv (.t 26),none,[]⟩,
 ⟨some 9,.mv (.t 27),none,[]⟩])
 (.seq (.reg [
 ⟨some 28,.mv (.t 8),none,[]⟩,
 ⟨some 29,.mv (.t 9),none,[]⟩,
 ⟨some 4,.mv (.t 28),none,[]⟩,
 ⟨some 5,.mv (.t 29),none,[]⟩])
 .ret))))
def r96:List RV:=[.tmp 4,.tmp 5]
theorem n96:Try.f96.ntmps = 30:=by kernel_rfl
theorem b96:bodyB Try.prog 96 = true:=by kernel_rfl
theorem c96_ok:cmpC Try.prog c96 ((Try.f96.body).getD .skip) = true:=by kernel_rfl
theorem r96_ok:cmpR Try.prog r96 Try.f96.results.toList = true:=by kernel_rfl
theorem t96 {args:List SV} {res:SV} (ka:KFL args) (kr:KF res) (h:sx Try.prog Y0 0 c96 (st0 args 30) (retK r96 res)) (hA:Nat.ble args.length 30 = true:=by rfl):Ct Try.prog 96 args res:=ct_intro Try.func96 rfl b96 c96_ok r96_ok n96 (Nat.le_of_ble_eq_true hA) ka kr h
def c104:SC:=(.seq (.reg [
 ⟨some 4,.mv (.c (.int .u64 0)),none,[]⟩,
 ⟨some 5,.mv (.c (.int .u64 0)),none,[]⟩])
 (.seq (.reg [
 ⟨some 14,.mv (.t 0),none,[]⟩,
 ⟨some 15,.raw (Go.Op.binOp Go.BinOp.and 164 (Go.Operand.tmp 14) (Go.Operand.const (Go.Value.int Go.IntKind.u64 4294967295)) 164) 164,none,[]⟩,
 ⟨some 6,.mv (.t 15),none,[]⟩])
 (.seq (.reg [
 ⟨some 16,.mv (.t 0),none,[]⟩,
 ⟨some 17,.raw (Go.Op.binOp Go.BinOp.shr 164 (Go.Operand.tmp 16) (Go.Operand.const (Go.Value.int Go.IntKind.u64 32)) 153) 164,none,[]⟩,
 ⟨some 7,.mv (.t 17),none,[]⟩])
 (.seq (.reg [
 ⟨some 18,.mv (.t 1),none,[]⟩,
 ⟨some 19,.raw (Go.Op.binOp Go.BinOp.and 164 (Go.Operand.tmp 18) (Go.Operand.const (Go.Value.int Go.IntKind.u64 4294967295)) 164) 164,none,[]⟩,
 ⟨some 8,.mv (.t 19),none,[]⟩])
 (.seq (.reg [
 ⟨some 20,.mv (.t 1),none,[]⟩,
 ⟨some 21,.raw (Go.Op.binOp Go.BinOp.shr 164 (Go.Operand.tmp 20) (Go.Operand.const (Go.Value.int Go.IntKind.u64 32)) 153) 164,none,[]⟩,
 ⟨some 9,.mv (.t 21),none,[]⟩])
 (.seq (.reg [
 ⟨some 22,.mv (.t 6),none,[]⟩,
 ⟨some 23,.mv (.t 8),none,[]⟩,
 ⟨some 24,.bin .mul (.t 22) (.t 23),none,[]⟩,
 ⟨some 10,.mv (.t 24),none,[]⟩])
 (.seq (.reg [
 ⟨some 25,.mv (.t 7),none,[]⟩,
 ⟨some 26,.mv (.t 8),none,[]⟩,
 ⟨some 27,.bin .mul (.t 25) (.t 26),none,[]⟩,
 ⟨some 28,.mv (.t 10),none,[]⟩,
 ⟨some 29,.raw (Go.Op.binOp Go.BinOp.shr 164 (Go.Operand.tmp 28) (Go.Operand.const (Go.Value.int Go.IntKind.u64 32)) 153) 164,none,[]⟩,
 ⟨some 30,.bin .add (.t 27) (.t 29),none,[]⟩,
 ⟨some 11,.mv (.t 30),none,[]⟩])
 (.seq (.reg [
 ⟨some 31,.mv (.t 11),none,[]⟩,
 ⟨some 32,.raw (Go.Op.binOp Go.BinOp.and 164 (Go.Operand.tmp 31) (Go.Operand.const (Go.Value.int Go.IntKind.u64 4294967295)) 164) 164,none,[]⟩,
 ⟨some 12,.mv (.t 32),none,[]⟩])
 (.seq (.reg [
 ⟨some 33,.mv (.t 11),none,[]⟩,
 ⟨some 34,.raw (Go.Op.binOp Go.BinOp.shr 164 (Go.Operand.tmp 33) (Go.Operand.const (Go.Value.int Go.IntKind.u64 32)) 153) 164,none,[]⟩,
 ⟨some 13,.mv (.t 34),none,[]⟩])
 (.seq (.reg [
 ⟨some 35,.mv (.t 12),none,[]⟩,
 ⟨some 36,.mv (.t 6),none,[]⟩,
 ⟨some 37,.mv (.t 9),none,[]⟩,
 ⟨some 38,.bin .mul (.t 36) (.t 37),none,[]⟩,
 ⟨some 39,.bin .add (.t 35) (.t 38),none,[]⟩,
 ⟨some 12,.mv (.t 39),none,[]⟩])
 (.seq (.reg [
 ⟨some 40,.mv (.t 7),none,[]⟩,
 ⟨some 41,.mv (.t 9),none,[]⟩,
 ⟨some 42,.bin .mul (.t 40) (.t 41),none,[]⟩,
 ⟨some 43,.mv (.t 13),none,[]⟩,
 ⟨some 44,.bin .add (.t 42) (.t 43),none,[]⟩,
 ⟨some 45,.mv (.t 12),none,[]⟩,
 ⟨some 46,.raw (Go.Op.binOp Go.BinOp.shr 164 (Go.Operand.tmp 45) (Go.Operand.const (Go.Value.int Go.IntKind.u64 32)) 153) 164,none,[]⟩,
 ⟨some 47,.bin .add (.t 44) (.t 46),none,[]⟩,
 ⟨some 4,.mv (.t 47),none,[]⟩])
 (.seq (.reg [
 ⟨some 48,.mv (.t 0),none,[]⟩,
 ⟨some 49,.mv (.t 1),none,[]⟩,
 ⟨some 50,.bin .mul (.t 48) (.t 49),none,[]⟩,
 ⟨some 5,.mv (.t 50),none,[]⟩])
 .ret))))))))))))
def r104:List RV:=[.tmp 4,.tmp 5]
theorem n104:Try.f104.ntmps = 51:=by kernel_rfl
theorem b104:bodyB Try.prog 104 = true:=by kernel_rfl
theorem c104_ok:cmpC Try.prog c104 ((Try.f104.body).getD .skip) = true:=by kernel_rfl
theorem r104_ok:cmpR Try.prog r104 Try.f104.results.toList = true:=by kernel_rfl
theorem t104 {args:List SV} {res:SV} (ka:KFL args) (kr:KF res) (h:sx Try.prog Y0 0 c104 (st0 args 51) (retK r104 res)) (hA:Nat.ble args.length 51 = true:=by rfl):Ct Try.prog 104 args res:=ct_intro Try.func104 rfl b104 c104_ok r104_ok n104 (Nat.le_of_ble_eq_true hA) ka kr h
end Go.Proofs.Ytnlfjchbhgikaaa
