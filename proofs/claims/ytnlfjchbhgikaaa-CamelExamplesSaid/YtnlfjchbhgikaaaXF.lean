/- Walks and plain laws that lead to the given statement, part 6 of 8. -/
import Derived.Test.YtnlfjchbhgikaaaXE
import Derived.Test.YtnlfjchbhgikaaaProg
import Derived.Laws.BytesString
open Nat renaming reduceAdd→rA,reduceMul→rM,reduceSub→rS,beq_refl→nbr
set_option maxRecDepth 100000
namespace Go.Proofs.Ytnlfjchbhgikaaa
open Go Go.Sx
def c6:SC:=(.seq (.reg [
 ⟨some 8,.box (.t 3) 0 23,none,[]⟩,
 ⟨some 10,.mv (.c (.bool false)),none,[]⟩])
 (.seq (.seq (.reg [
 ⟨some 18,.mv (.t 1),none,[]⟩,
 ⟨some 19,.len (.t 18),none,[]⟩,
 ⟨some 20,.bin .gtr (.t 19) (.c (.int .i64 50)),none,[]⟩,
 ⟨some 21,.mv (.t 20),none,[]⟩,
 ⟨some 22,.mv (.t 2),some (21,false),[]⟩,
 ⟨some 23,.len (.t 22),some (21,false),[]⟩,
 ⟨some 24,.bin .gtr (.t 23) (.c (.int .i64 250)),some (21,false),[]⟩,
 ⟨some 25,.pick (.t 21) (.c (.bool true)) (.t 24),none,[]⟩])
 (.cond (.t 25)
 (.seq (.reg [
  ⟨some 10,.mv (.c (.bool true)),none,[]⟩])
  .ret)
 .skip))
 (.seq (.reg [
 ⟨some 26,.bsl 1 3 [],none,[]⟩,
 ⟨some 27,.mv (.t 1),none,[]⟩,
 ⟨some 28,.app 1 8 3 (.t 26) (.t 27),none,[]⟩,
 ⟨some 29,.bsl 4 73 [],none,[]⟩,
 ⟨some 30,.mv (.t 2),none,[]⟩,
 ⟨some 31,.app 4 32 73 (.t 29) (.t 30),none,[]⟩,
 ⟨some 11,.mv (.t 28),none,[]⟩,
 ⟨some 12,.mv (.t 31),none,[]⟩])
 (.seq (.reg [
 ⟨some 33,.mv (.t 0),none,[]⟩,
 ⟨some 34,.mv (.t 11),none,[]⟩,
 ⟨some 35,.mv (.t 12),none,[]⟩,
 ⟨some 36,.ld (.t 8) 2 true,none,[]⟩,
 ⟨some 37,.mv (.t 4),none,[]⟩,
 ⟨some 38,.call 35 [.t 33,.t 34,.t 35,.t 36,.t 37],none,[]⟩,
 ⟨some 32,.mv (.t 38),none,[]⟩,
 ⟨some 39,.ext (.t 32) 0,none,[]⟩,
 ⟨some 40,.ext (.t 32) 1,none,[]⟩,
 ⟨some 13,.mv (.t 39),none,[]⟩,
 ⟨some 14,.mv (.t 40),none,[]⟩])
 (.seq (.reg [
 ⟨some 42,.mv (.t 0),none,[]⟩,
 ⟨some 43,.mv (.t 1),none,[]⟩,
 ⟨some 44,.mv (.t 2),none,[]⟩,
 ⟨some 45,.ld (.t 8) 2 true,none,[]⟩,
 ⟨some 46,.mv (.t 4),none,[]⟩,
 ⟨some 47,.call 36 [.t 42,.t 43,.t 44,.t 45,.t 46],none,[]⟩,
 ⟨some 41,.mv (.t 47),none,[]⟩,
 ⟨some 48,.ext (.t 41) 0,none,[]⟩,
 ⟨some 49,.ext (.t 41) 1,none,[]⟩,
 ⟨some 15,.mv (.t 48),none,[]⟩,
 ⟨some 16,.mv (.t 49),none,[]⟩])
 (.seq (.seq (.reg [
 ⟨some 50,.mv (.t 2),none,[]⟩,
 ⟨some 51,.len (.t 50),none,[]⟩,
 ⟨some 52,.mv (.c (.int .i64 0)),none,[]⟩])
 (.block 0 (.loop (.seq (.reg [
  ⟨some 53,.bin .lss (.t 52) (.t 51),none,[]⟩])
  (.seq (.cond (.t 53)
  .skip
  (.exit 0))
  (.seq (.block 1 (.seq (.reg [
   ⟨some 54,.mv (.t 52),none,[]⟩,
   ⟨some 17,.mv (.t 54),none,[]⟩])
   (.seq (.regd [0,1,2,3,4,5,6,7,8] [
   .op ⟨some 55,.mv (.t 12),none,[]⟩,
   .op ⟨some 56,.mv (.t 17),none,[]⟩,
   .op ⟨some 57,.ixs (.t 55) (.t 56) 4,none,[0,1]⟩,
   .op ⟨some 58,.ld (.t 57) 4 true,none,[2]⟩,
   .op ⟨some 59,.mv (.t 2),none,[]⟩,
   .op ⟨some 60,.mv (.t 17),none,[]⟩,
   .op ⟨some 61,.ixs (.t 59) (.t 60) 4,none,[4,5]⟩,
   .op ⟨some 62,.ld (.t 61) 4 true,none,[6]⟩,
   .op ⟨some 63,.eqs true true [1,1,1,0] (.t 58) (.t 62),none,[3,7]⟩] 0 0 [
])
 (.cond (.t 63)
 (.seq (.reg [
  ⟨some 10,.mv (.c (.bool false)),none,[]⟩])
  .ret)
 .skip))))
 (.reg [
 ⟨some 64,.bin .add (.t 52) (.c (.int .i64 1)),none,[]⟩,
 ⟨some 52,.mv (.t 64),none,[]⟩])))))))
 (.seq (.reg [
 ⟨some 65,.mv (.t 13),none,[]⟩,
 ⟨some 66,.raw (Go.Op.convert 67 9 (Go.Operand.tmp 65)) 9,none,[]⟩,
 ⟨some 67,.mv (.t 15),none,[]⟩,
 ⟨some 68,.raw (Go.Op.convert 67 9 (Go.Operand.tmp 67)) 9,none,[]⟩,
 ⟨some 69,.raw (Go.Op.binOp Go.BinOp.eql 9 (Go.Operand.tmp 66) (Go.Operand.tmp 68) 9) 4,none,[]⟩,
 ⟨some 70,.mv (.t 69),none,[]⟩,
 ⟨some 71,.mv (.t 14),some (70,true),[]⟩,
 ⟨some 72,.mv (.t 16),some (70,true),[]⟩,
 ⟨some 73,.bin .eql (.t 71) (.t 72),some (70,true),[]⟩,
 ⟨some 74,.pick (.t 70) (.t 73) (.c (.bool false)),none,[]⟩,
 ⟨some 75,.mv (.t 74),none,[]⟩,
 ⟨some 76,.mv (.t 11),some (75,true),[]⟩,
 ⟨some 77,.mv (.t 1),some (75,true),[]⟩,
 ⟨some 78,.call 37 [.t 76,.t 77],some (75,true),[]⟩,
 ⟨some 79,.pick (.t 75) (.t 78) (.c (.bool false)),none,[]⟩,
 ⟨some 10,.mv (.t 79),none,[]⟩])
 .ret)))))))
def c35:SC:=(.seq (.reg [
 ⟨some 5,.box (.t 0) 0 3,none,[]⟩,
 ⟨some 8,.box (.t 3) 0 23,none,[]⟩,
 ⟨some 10,.mv (.c (.slice none 0 0)),none,[]⟩,
 ⟨some 11,.mv (.c (.int .i64 0)),none,[]⟩])
 (.seq (.seq (.reg [
 ⟨some 19,.ld (.t 5) 1 false,none,[]⟩,
 ⟨some 20,.bsl 1 3 [.t 19],none,[]⟩,
 ⟨some 21,.call 64 [.c (.int .i64 1),.c (.int .i64 30),.t 20],none,[]⟩,
 ⟨some 22,.un .not (.t 21),none,[]⟩,
 ⟨some 23,.mv (.t 22),none,[]⟩,
 ⟨some 24,.ld (.t 8) 2 true,some (23,false),[]⟩,
 ⟨some 25,.bsl 2 23 [.t 24],some (23,false),[]⟩,
 ⟨some 26,.call 65 [.c (.int .i64 1),.c (.int .i64 60),.t 25],some (23,false),[]⟩,
 ⟨some 27,.un .not (.t 26),some (23,false),[]⟩,
 ⟨some 28,.pick (.t 23) (.c (.bool true)) (.t 27),none,[]⟩,
 ⟨some 29,.mv (.t 28),none,[]⟩,
 ⟨some 30,.mv (.t 4),some (29,false),[]⟩,
 ⟨some 31,.bsl 1 3 [.t 30],some (29,false),[]⟩,
 ⟨some 32,.call 64 [.c (.int .i64 0),.c (.int .i64 100000),.t 31],some (29,false),[]⟩,
 ⟨some 33,.un .not (.t 32),some (29,false),[]⟩,
 ⟨some 34,.pick (.t 29) (.c (.bool true)) (.t 33),none,[]⟩])
 (.cond (.t 34)
 (.seq (.reg [
  ⟨some 10,.mv (.c (.slice none 0 0)),none,[]⟩,
  ⟨some 11,.mv (.c (.int .i64 2)),none,[]⟩])
  .ret)
 .skip))
 (.seq (.seq (.reg [
 ⟨some 35,.mv (.t 1),none,[]⟩,
 ⟨some 36,.len (.t 35),none,[]⟩,
 ⟨some 37,.bin .gtr (.t 36) (.c (.int .i64 30)),none,[]⟩,
 ⟨some 38,.mv (.t 37),none,[]⟩,
 ⟨some 39,.mv (.t 2),some (38,false),[]⟩,
 ⟨some 40,.len (.t 39),some (38,false),[]⟩,
 ⟨some 41,.bin .gtr (.t 40) (.c (.int .i64 200)),some (38,false),[]⟩,
 ⟨some 42,.pick (.t 38) (.c (.bool true)) (.t 41),none,[]⟩])
 (.cond (.t 42)
 (.seq (.reg [
  ⟨some 10,.mv (.c (.slice none 0 0)),none,[]⟩,
  ⟨some 11,.mv (.c (.int .i64 4)),none,[]⟩])
  .ret)
 .skip))
 (.seq (.reg [
 ⟨some 43,.mkf 77 [.t 5],none,[]⟩,
 ⟨some 12,.mv (.t 43),none,[]⟩])
 (.seq (.seq (.reg [
 ⟨some 44,.ld (.t 5) 1 false,none,[]⟩,
 ⟨some 45,.bin .sub (.t 44) (.c (.int .i64 1)),none,[]⟩,
 ⟨some 46,.mv (.t 1),none,[]⟩,
 ⟨some 47,.call 64 [.c (.int .i64 0),.t 45,.t 46],none,[]⟩,
 ⟨some 48,.un .not (.t 47),none,[]⟩,
 ⟨some 49,.mv (.t 48),none,[]⟩,
 ⟨some 50,.mv (.t 2),some (49,false),[]⟩,
 ⟨some 51,.mv (.t 12),some (49,false),[]⟩,
 ⟨some 52,.call 78 [.t 50,.t 51],some (49,false),[]⟩,
 ⟨some 53,.pick (.t 49) (.c (.bool true)) (.t 52),none,[]⟩])
 (.cond (.t 53)
 (.seq (.reg [
  ⟨some 10,.mv (.c (.slice none 0 0)),none,[]⟩,
  ⟨some 11,.mv (.c (.int .i64 14)),none,[]⟩])
  .ret)
 .skip))
 (.seq (.reg [
 ⟨some 54,.mv (.t 2),none,[]⟩,
 ⟨some 55,.callm 79 [.t 54],none,[]⟩,
 ⟨some 13,.mv (.t 55),none,[]⟩])
 (.gh (.seq (.reg [
 ⟨some 56,.mv (.t 13),none,[]⟩,
 ⟨some 57,.callm 80 [.t 56,.f 81],none,[]⟩])
 (.gh (.seq (.reg [
 ⟨some 58,.ld (.t 5) 1 false,none,[]⟩,
 ⟨some 59,.mv (.t 1),none,[]⟩,
 ⟨some 60,.mv (.t 13),none,[]⟩,
 ⟨some 61,.addo (.t 8) 0,none,[]⟩,
 ⟨some 62,.ld (.t 61) 1 false,none,[]⟩,
 ⟨some 63,.mv (.t 4),none,[]⟩,
 ⟨some 64,.call 83 [.t 58,.t 59,.t 60,.t 62,.t 63],none,[]⟩,
 ⟨some 14,.mv (.t 64),none,[]⟩])
 (.seq (.reg [
 ⟨some 65,.mv (.t 13),none,[]⟩,
 ⟨some 66,.callm 79 [.t 65],none,[]⟩,
 ⟨some 67,.callm 84 [.t 66,.f 85],none,[]⟩,
 ⟨some 15,.mv (.t 67),none,[]⟩])
 (.gh (.seq (.reg [
 ⟨some 68,.ld (.t 5) 1 false,none,[]⟩,
 ⟨some 69,.mv (.t 1),none,[]⟩,
 ⟨some 70,.mv (.t 15),none,[]⟩,
 ⟨some 71,.addo (.t 8) 1,none,[]⟩,
 ⟨some 72,.ld (.t 71) 1 false,none,[]⟩,
 ⟨some 73,.mv (.t 4),none,[]⟩,
 ⟨some 74,.call 83 [.t 68,.t 69,.t 70,.t 72,.t 73],none,[]⟩,
 ⟨some 16,.mv (.t 74),none,[]⟩])
 (.seq (.reg [
 ⟨some 75,.ld (.t 5) 1 false,none,[]⟩,
 ⟨some 76,.mks 1 1 [.int .u8 0] 5 (.t 75),none,[]⟩,
 ⟨some 17,.mv (.t 76),none,[]⟩])
 (.seq (.seq (.reg [
 ⟨some 77,.mv (.t 17),none,[]⟩,
 ⟨some 78,.len (.t 77),none,[]⟩,
 ⟨some 79,.mv (.c (.int .i64 0)),none,[]⟩])
 (.block 0 (.loop (.seq (.reg [
  ⟨some 80,.bin .lss (.t 79) (.t 78),none,[]⟩])
  (.seq (.cond (.t 80)
  .skip
  (.exit 0))
  (.seq (.block 1 (.seq (.reg [
   ⟨some 81,.mv (.t 79),none,[]⟩,
   ⟨some 18,.mv (.t 81),none,[]⟩])
   (.block 2 (.seq (.reg [
    ⟨some 83,.mv (.t 16),none,[]⟩,
    ⟨some 84,.mv (.t 18),none,[]⟩,
    ⟨some 85,.ixs (.t 83) (.t 84) 1,none,[]⟩,
    ⟨some 86,.ld (.t 85) 1 false,none,[]⟩,
    ⟨some 87,.mv (.t 4),none,[]⟩,
    ⟨some 88,.bin .leq (.t 86) (.t 87),none,[]⟩,
    ⟨some 82,.mv (.t 88),none,[]⟩])
    (.cond (.t 82)
    (.reg [
     ⟨some 89,.mv (.t 17),none,[]⟩,
     ⟨some 90,.mv (.t 18),none,[]⟩,
     ⟨some 91,.ixs (.t 89) (.t 90) 1,none,[]⟩,
     ⟨none,.st (.t 91) (.c (.int .u8 2)) 1,none,[]⟩])
    (.seq (.reg [
     ⟨some 93,.mv (.t 14),none,[]⟩,
     ⟨some 94,.mv (.t 18),none,[]⟩,
     ⟨some 95,.ixs (.t 93) (.t 94) 1,none,[]⟩,
     ⟨some 96,.ld (.t 95) 1 false,none,[]⟩,
     ⟨some 97,.mv (.t 4),none,[]⟩,
     ⟨some 98,.bin .leq (.t 96) (.t 97),none,[]⟩,
     ⟨some 92,.mv (.t 98),none,[]⟩])
     (.cond (.t 92)
     (.reg [
      ⟨some 99,.mv (.t 17),none,[]⟩,
      ⟨some 100,.mv (.t 18),none,[]⟩,
      ⟨some 101,.ixs (.t 99) (.t 100) 1,none,[]⟩,
      ⟨none,.st (.t 101) (.c (.int .u8 1)) 1,none,[]⟩])
     .skip)))))))
  (.reg [
  ⟨some 102,.bin .add (.t 79) (.c (.int .i64 1)),none,[]⟩,
  ⟨some 79,.mv (.t 102),none,[]⟩])))))))
 (.seq (.reg [
 ⟨some 103,.mv (.t 17),none,[]⟩,
 ⟨some 10,.mv (.t 103),none,[]⟩,
 ⟨some 11,.mv (.c (.int .i64 0)),none,[]⟩])
 .ret))))))))))))))))
def r35:List RV:=[.tmp 10,.tmp 11]
theorem n35:Try.f35.ntmps = 104:=by kernel_rfl
theorem b35:bodyB Try.prog 35 = true:=by kernel_rfl
theorem c35_ok:cmpC Try.prog c35 ((Try.f35.body).getD .skip) = true:=by kernel_rfl
theorem r35_ok:cmpR Try.prog r35 Try.f35.results.toList = true:=by kernel_rfl
theorem t35 {args:List SV} {res:SV} (ka:KFL args) (kr:KF res) (h:sx Try.prog Y0 0 c35 (st0 args 104) (retK r35 res)) (hA:Nat.ble args.length 104 = true:=by rfl):Ct Try.prog 35 args res:=ct_intro Try.func35 rfl b35 c35_ok r35_ok n35 (Nat.le_of_ble_eq_true hA) ka kr h
def c77:SC:=(.seq (.reg [
 ⟨some 2,.box (.t 0) 0 73,none,[]⟩,
 ⟨some 3,.mv (.c (.bool false)),none,[]⟩])
 (.seq (.reg [
 ⟨some 4,.ld (.t 1) 1 false,none,[]⟩,
 ⟨some 5,.bin .sub (.t 4) (.c (.int .i64 1)),none,[]⟩,
 ⟨some 6,.addo (.t 2) 0,none,[]⟩,
 ⟨some 7,.ld (.t 6) 1 false,none,[]⟩,
 ⟨some 8,.addo (.t 2) 1,none,[]⟩,
 ⟨some 9,.ld (.t 8) 1 false,none,[]⟩,
 ⟨some 10,.bsl 1 3 [.t 7,.t 9],none,[]⟩,
 ⟨some 11,.call 64 [.c (.int .i64 0),.t 5,.t 10],none,[]⟩,
 ⟨some 12,.un .not (.t 11),none,[]⟩,
 ⟨some 13,.mv (.t 12),none,[]⟩,
 ⟨some 14,.addo (.t 2) 0,some (13,false),[]⟩,
 ⟨some 15,.ld (.t 14) 1 false,some (13,false),[]⟩,
 ⟨some 16,.addo (.t 2) 1,some (13,false),[]⟩,
 ⟨some 17,.ld (.t 16) 1 false,some (13,false),[]⟩,
 ⟨some 18,.bin .eql (.t 15) (.t 17),some (13,false),[]⟩,
 ⟨some 19,.pick (.t 13) (.c (.bool true)) (.t 18),none,[]⟩,
 ⟨some 20,.mv (.t 19),none,[]⟩,
 ⟨some 21,.addo (.t 2) 2,some (20,false),[]⟩,
 ⟨some 22,.ld (.t 21) 1 false,some (20,false),[]⟩,
 ⟨some 23,.bsl 1 3 [.t 22],some (20,false),[]⟩,
 ⟨some 24,.call 64 [.c (.int .i64 0),.c (.int .i64 100000),.t 23],some (20,false),[]⟩,
 ⟨some 25,.un .not (.t 24),some (20,false),[]⟩,
 ⟨some 26,.pick (.t 20) (.c (.bool true)) (.t 25),none,[]⟩,
 ⟨some 3,.mv (.t 26),none,[]⟩])
 .ret))
def r77:List RV:=[.tmp 3]
theorem n77:Try.f77.ntmps = 27:=by kernel_rfl
theorem b77:bodyB Try.prog 77 = true:=by kernel_rfl
theorem c77_ok:cmpC Try.prog c77 ((Try.f77.body).getD .skip) = true:=by kernel_rfl
theorem r77_ok:cmpR Try.prog r77 Try.f77.results.toList = true:=by kernel_rfl
theorem t77 {args:List SV} {res:SV} (ka:KFL args) (kr:KF res) (h:sx Try.prog Y0 0 c77 (st0 args 27) (retK r77 res)) (hA:Nat.ble args.length 27 = true:=by rfl):Ct Try.prog 77 args res:=ct_intro Try.func77 rfl b77 c77_ok r77_ok n77 (Nat.le_of_ble_eq_true hA) ka kr h
def c78:SC:=(.seq (.reg [
 ⟨some 4,.mv (.c (.bool false)),none,[]⟩])
 (.seq (.reg [
 ⟨some 5,.mv (.t 0),none,[]⟩,
 ⟨some 6,.mv (.t 1),none,[]⟩,
 ⟨some 7,.call 97 [.t 5,.t 6],none,[]⟩,
 ⟨some 8,.bin .geq (.t 7) (.c (.int .i64 0)),none,[]⟩,
 ⟨some 4,.mv (.t 8),none,[]⟩])
 .ret))
def r78:List RV:=[.tmp 4]
theorem n78:Try.f78.ntmps = 9:=by kernel_rfl
theorem b78:bodyB Try.prog 78 = true:=by kernel_rfl
theorem c78_ok:cmpC Try.prog c78 ((Try.f78.body).getD .skip) = true:=by kernel_rfl
theorem r78_ok:cmpR Try.prog r78 Try.f78.results.toList = true:=by kernel_rfl
theorem t78 {args:List SV} {res:SV} (ka:KFL args) (kr:KF res) (h:sx Try.prog Y0 0 c78 (st0 args 9) (retK r78 res)) (hA:Nat.ble args.length 9 = true:=by rfl):Ct Try.prog 78 args res:=ct_intro Try.func78 rfl b78 c78_ok r78_ok n78 (Nat.le_of_ble_eq_true hA) ka kr h
def c79:SC:=(.seq (.reg [
 ⟨some 2,.mv (.c (.slice none 0 0)),none,[]⟩])
 (.seq (.seq (.reg [
 ⟨some 3,.mv (.t 0),none,[]⟩,
 ⟨some 4,.isn (.t 3),none,[]⟩])
 (.cond (.t 4)
 (.seq (.reg [
  ⟨some 2,.mv (.c (.slice none 0 0)),none,[]⟩])
  .ret)
 .skip))
 (.seq (.reg [
 ⟨some 5,.bsl 4 73 [],none,[]⟩,
 ⟨some 6,.mv (.t 0),none,[]⟩,
 ⟨some 7,.cln 4 32 73 (.t 5) (.t 6),none,[]⟩,
 ⟨some 2,.mv (.t 7),none,[]⟩])
 .ret)))
def r79:List RV:=[.tmp 2]
theorem n79:Try.f79.ntmps = 8:=by kernel_rfl
theorem b79:bodyB Try.prog 79 = true:=by kernel_rfl
theorem c79_ok:cmpC Try.prog c79 ((Try.f79.body).getD .skip) = true:=by kernel_rfl
theorem r79_ok:cmpR Try.prog r79 Try.f79.results.toList = true:=by kernel_rfl
theorem m79 {n0:Nat} {hp0:List (Nat × HB)} {args:List SV} {Post:Ot → Prop} (hh:hpb n0 hp0) (hx:∀ o,Post o → KX o.res ∧ KXP o.hp) (h:sx Try.prog Y0 n0 c79 ⟨enum 0 args,hp0,n0,8,[]⟩ (retM r79 fun o=>∃ o',Post o' ∧ EntO n0 o o')) (hA:Nat.ble args.length 8 = true:=by rfl):CtM Try.prog 79 hp0 n0 args Post:=ctm_intro Try.func79 rfl b79 c79_ok r79_ok n79 (Nat.le_of_ble_eq_true hA) hh hx h
def c80:SC:=(.reg [
 ⟨some 4,.mv (.t 0),none,[]⟩,
 ⟨some 5,.mv (.t 0),none,[]⟩,
 ⟨some 6,.len (.t 5),none,[]⟩,
 ⟨some 7,.mv (.t 1),none,[]⟩,
 ⟨some 8,.callm 98 [.t 4,.t 6,.t 7],none,[]⟩])
def r80:List RV:=[]
theorem n80:Try.f80.ntmps = 9:=by kernel_rfl
theorem b80:bodyB Try.prog 80 = true:=by kernel_rfl
theorem c80_ok:cmpC Try.prog c80 ((Try.f80.body).getD .skip) = true:=by kernel_rfl
theorem r80_ok:cmpR Try.prog r80 Try.f80.results.toList = true:=by kernel_rfl
theorem m80 {n0:Nat} {hp0:List (Nat × HB)} {args:List SV} {Post:Ot → Prop} (hh:hpb n0 hp0) (hx:∀ o,Post o → KX o.res ∧ KXP o.hp) (h:sx Try.prog Y0 n0 c80 ⟨enum 0 args,hp0,n0,9,[]⟩ (retM r80 fun o=>∃ o',Post o' ∧ EntO n0 o o')) (hA:Nat.ble args.length 9 = true:=by rfl):CtM Try.prog 80 hp0 n0 args Post:=ctm_intro Try.func80 rfl b80 c80_ok r80_ok n80 (Nat.le_of_ble_eq_true hA) hh hx h
def c81:SC:=(.seq (.reg [
 ⟨some 2,.box (.t 0) 0 73,none,[]⟩,
 ⟨some 3,.box (.t 1) 0 73,none,[]⟩,
 ⟨some 4,.mv (.c (.int .i64 0)),none,[]⟩])
 (.seq (.reg [
 ⟨some 5,.addo (.t 2) 2,none,[]⟩,
 ⟨some 6,.ld (.t 5) 1 false,none,[]⟩,
 ⟨some 7,.addo (.t 3) 2,none,[]⟩,
 ⟨some 8,.ld (.t 7) 1 false,none,[]⟩,
 ⟨some 9,.call 82 [.t 6,.t 8],none,[]⟩,
 ⟨some 4,.mv (.t 9),none,[]⟩])
 .ret))
def r81:List RV:=[.tmp 4]
theorem n81:Try.f81.ntmps = 10:=by kernel_rfl
theorem b81:bodyB Try.prog 81 = true:=by kernel_rfl
theorem c81_ok:cmpC Try.prog c81 ((Try.f81.body).getD .skip) = true:=by kernel_rfl
theorem r81_ok:cmpR Try.prog r81 Try.f81.results.toList = true:=by kernel_rfl
theorem t81 {args:List SV} {res:SV} (ka:KFL args) (kr:KF res) (h:sx Try.prog Y0 0 c81 (st0 args 10) (retK r81 res)) (hA:Nat.ble args.length 10 = true:=by rfl):Ct Try.prog 81 args res:=ct_intro Try.func81 rfl b81 c81_ok r81_ok n81 (Nat.le_of_ble_eq_true hA) ka kr h
def c82:SC:=(.seq (.reg [
 ⟨some 4,.mv (.c (.int .i64 0)),none,[]⟩])
 (.seq (.reg [
 ⟨some 7,.mv (.t 0),none,[]⟩,
 ⟨some 8,.call 99 [.t 7],none,[]⟩,
 ⟨some 5,.mv (.t 8),none,[]⟩])
 (.seq (.reg [
 ⟨some 9,.mv (.t 1),none,[]⟩,
 ⟨some 10,.call 99 [.t 9],none,[]⟩,
 ⟨some 6,.mv (.t 10),none,[]⟩])
 (.seq (.seq (.reg [
 ⟨some 11,.mv (.t 5),none,[]⟩])
 (.cond (.t 11)
 (.seq (.seq (.reg [
  ⟨some 12,.mv (.t 6),none,[]⟩])
  (.cond (.t 12)
  (.seq (.reg [
   ⟨some 4,.mv (.c (.int .i64 0)),none,[]⟩])
   .ret)
  .skip))
  (.seq (.reg [
  ⟨some 4,.mv (.c (.int .i64 (-1))),none,[]⟩])
  .ret))
 .skip))
 (.seq (.seq (.reg [
 ⟨some 13,.mv (.t 6),none,[]⟩])
 (.cond (.t 13)
 (.seq (.reg [
  ⟨some 4,.mv (.c (.int .i64 1)),none,[]⟩])
  .ret)
 .skip))
 (.seq (.seq (.reg [
 ⟨some 14,.mv (.t 0),none,[]⟩,
 ⟨some 15,.mv (.t 1),none,[]⟩,
 ⟨some 16,.bin .lss (.t 14) (.t 15),none,[]⟩])
 (.cond (.t 16)
 (.seq (.reg [
  ⟨some 4,.mv (.c (.int .i64 (-1))),none,[]⟩])
  .ret)
 .skip))
 (.seq (.seq (.reg [
 ⟨some 17,.mv (.t 0),none,[]⟩,
 ⟨some 18,.mv (.t 1),none,[]⟩,
 ⟨some 19,.bin .gtr (.t 17) (.t 18),none,[]⟩])
 (.cond (.t 19)
 (.seq (.reg [
  ⟨some 4,.mv (.c (.int .i64 1)),none,[]⟩])
  .ret)
 .skip))
 (.seq (.reg [
 ⟨some 4,.mv (.c (.int .i64 0)),none,[]⟩])
 .ret))))))))
def r82:List RV:=[.tmp 4]
theorem n82:Try.f82.ntmps = 20:=by kernel_rfl
theorem b82:bodyB Try.prog 82 = true:=by kernel_rfl
theorem c82_ok:cmpC Try.prog c82 ((Try.f82.body).getD .skip) = true:=by kernel_rfl
theorem r82_ok:cmpR Try.prog r82 Try.f82.results.toList = true:=by kernel_rfl
theorem t82 {args:List SV} {res:SV} (ka:KFL args) (kr:KF res) (h:sx Try.prog Y0 0 c82 (st0 args 20) (retK r82 res)) (hA:Nat.ble args.length 20 = true:=by rfl):Ct Try.prog 82 args res:=ct_intro Try.func82 rfl b82 c82_ok r82_ok n82 (Nat.le_of_ble_eq_true hA) ka kr h
def c83:SC:=(.seq (.reg [
 ⟨some 10,.mv (.c (.slice none 0 0)),none,[]⟩])
 (.scope (.seq (.reg [
 ⟨some 17,.bsl 1 3 [.c (.int .i64 100061)],none,[]⟩,
 ⟨some 18,.mv (.t 0),none,[]⟩,
 ⟨some 19,.callm 100 [.t 17,.t 18],none,[]⟩,
 ⟨some 11,.mv (.t 19),none,[]⟩])
 (.seq (.seq (.reg [
 ⟨some 20,.mv (.t 1),none,[]⟩,
 ⟨some 21,.len (.t 20),none,[]⟩,
 ⟨some 22,.mv (.c (.int .i64 0)),none,[]⟩])
 (.block 0 (.loop (.seq (.reg [
  ⟨some 23,.bin .lss (.t 22) (.t 21),none,[]⟩])
  (.seq (.cond (.t 23)
  .skip
  (.exit 0))
  (.seq (.block 1 (.seq (.reg [
   ⟨some 24,.ixs (.t 20) (.t 22) 1,none,[]⟩,
   ⟨some 25,.ld (.t 24) 1 false,none,[]⟩,
   ⟨some 13,.mv (.t 25),none,[]⟩])
   (.reg [
   ⟨some 26,.mv (.t 11),none,[]⟩,
   ⟨some 27,.mv (.t 13),none,[]⟩,
   ⟨some 28,.ixs (.t 26) (.t 27) 1,none,[]⟩,
   ⟨none,.st (.t 28) (.c (.int .i64 0)) 1,none,[]⟩])))
  (.reg [
  ⟨some 29,.bin .add (.t 22) (.c (.int .i64 1)),none,[]⟩,
  ⟨some 22,.mv (.t 29),none,[]⟩])))))))
 (.seq (.label 0)
 (.seq (.seq (.reg [
 ⟨some 30,.mv (.t 2),none,[]⟩,
 ⟨some 31,.len (.t 30),none,[]⟩,
 ⟨some 32,.mv (.c (.int .i64 0)),none,[]⟩])
 (.block 2 (.loop (.seq (.reg [
  ⟨some 33,.bin .lss (.t 32) (.t 31),none,[]⟩])
  (.seq (.cond (.t 33)
  .skip
  (.exit 2))
  (.seq (.block 3 (.seq (.reg [
   ⟨some 34,.mv (.t 32),none,[]⟩,
   ⟨some 14,.mv (.t 34),none,[]⟩])
   (.seq (.regd [0,1,2,3,4,5,6,7,8,9,10,11,12,13,14,15,16,17,18,19,20,21,22,23] [
   .op ⟨some 35,.mv (.t 2),none,[]⟩,
   .op ⟨some 36,.mv (.t 14),none,[]⟩,
   .op ⟨some 37,.ixs (.t 35) (.t 36) 4,none,[0,1]⟩,
   .op ⟨some 38,.addo (.t 37) 0,none,[2]⟩,
   .op ⟨some 39,.ld (.t 38) 1 false,none,[3]⟩,
   .op ⟨some 40,.mv (.t 2),none,[]⟩,
   .op ⟨some 41,.mv (.t 14),none,[]⟩,
   .op ⟨some 42,.ixs (.t 40) (.t 41) 4,none,[5,6]⟩,
   .op ⟨some 43,.addo (.t 42) 1,none,[7]⟩,
   .op ⟨some 44,.ld (.t 43) 1 false,none,[8]⟩,
   .op ⟨some 45,.build [.int .i64 0,.int .i64 0] [(0,1,.t 39),(1,1,.t 44)],none,[4,9]⟩,
   .op ⟨some 46,.mv (.t 2),none,[]⟩,
   .op ⟨some 47,.mv (.t 14),none,[]⟩,
   .op ⟨some 48,.ixs (.t 46) (.t 47) 4,none,[11,12]⟩,
   .op ⟨some 49,.addo (.t 48) 1,none,[13]⟩,
   .op ⟨some 50,.ld (.t 49) 1 false,none,[14]⟩,
   .op ⟨some 51,.mv (.t 2),none,[]⟩,
   .op ⟨some 52,.mv (.t 14),none,[]⟩,
   .op ⟨some 53,.ixs (.t 51) (.t 52) 4,none,[16,17]⟩,
   .op ⟨some 54,.addo (.t 53) 0,none,[18]⟩,
   .op ⟨some 55,.ld (.t 54) 1 false,none,[19]⟩,
   .op ⟨some 56,.build [.int .i64 0,.int .i64 0] [(0,1,.t 50),(1,1,.t 55)],none,[15,20]⟩,
   .op ⟨some 57,.build [.int .i64 0,.int .i64 0,.int .i64 0,.int .i64 0] [(0,2,.t 45),(2,2,.t 56)],none,[10,21]⟩,
   .op ⟨some 58,.mv (.c (.int .i64 0)),none,[]⟩] 0 0 [
])
 (.block 4 (.loop (.seq (.reg [
  ⟨some 59,.bin .lss (.t 58) (.c (.int .i64 2)),none,[]⟩])
  (.seq (.cond (.t 59)
  .skip
  (.exit 4))
  (.seq (.block 5 (.seq (.reg [
   ⟨some 60,.idx (.t 57) (.t 58) 2 2 true,none,[]⟩,
   ⟨some 16,.alloc [.int .i64 0,.int .i64 0] 97,none,[]⟩,
   ⟨none,.st (.t 16) (.t 60) 2,none,[]⟩])
   (.seq (.seq (.reg [
   ⟨some 61,.mv (.t 2),none,[]⟩,
   ⟨some 62,.mv (.t 14),none,[]⟩,
   ⟨some 63,.ixs (.t 61) (.t 62) 4,none,[]⟩,
   ⟨some 64,.addo (.t 63) 2,none,[]⟩,
   ⟨some 65,.ld (.t 64) 1 false,none,[]⟩,
   ⟨some 66,.mv (.t 4),none,[]⟩,
   ⟨some 67,.bin .gtr (.t 65) (.t 66),none,[]⟩])
   (.cond (.t 67)
   (.exit 2)
   .skip))
   (.seq (.regd [0,1,2,3,4,5,6,7,8,9,10] [
   .op ⟨some 68,.mv (.t 11),none,[]⟩,
   .op ⟨some 69,.ixa (.t 16) (.c (.int .i64 0)) 2 1,none,[]⟩,
   .op ⟨some 70,.ld (.t 69) 1 false,none,[1]⟩,
   .op ⟨some 71,.ixs (.t 68) (.t 70) 1,none,[0,2]⟩,
   .op ⟨some 72,.ld (.t 71) 1 false,none,[3]⟩,
   .op ⟨some 73,.mv (.t 2),none,[]⟩,
   .op ⟨some 74,.mv (.t 14),none,[]⟩,
   .op ⟨some 75,.ixs (.t 73) (.t 74) 4,none,[5,6]⟩,
   .op ⟨some 76,.addo (.t 75) 2,none,[7]⟩,
   .op ⟨some 77,.ld (.t 76) 1 false,none,[8]⟩,
   .op ⟨some 78,.bin .leq (.t 72) (.t 77),none,[4,9]⟩] 0 0 [
])
 (.cond (.t 78)
 (.regd [0,1,2,3,4,5,6,7,8,9,10,11,12,13,14,15,16,17] [
  .op ⟨some 79,.mv (.t 11),none,[]⟩,
  .op ⟨some 80,.ixa (.t 16) (.c (.int .i64 1)) 2 1,none,[]⟩,
  .op ⟨some 81,.ld (.t 80) 1 false,none,[1]⟩,
  .op ⟨some 82,.mv (.t 11),none,[]⟩,
  .op ⟨some 83,.ixa (.t 16) (.c (.int .i64 1)) 2 1,none,[]⟩,
  .op ⟨some 84,.ld (.t 83) 1 false,none,[4]⟩,
  .op ⟨some 85,.ixs (.t 82) (.t 84) 1,none,[3,5]⟩,
  .op ⟨some 86,.ld (.t 85) 1 false,none,[6]⟩,
  .op ⟨some 87,.mv (.t 2),none,[]⟩,
  .op ⟨some 88,.mv (.t 14),none,[]⟩,
  .op ⟨some 89,.ixs (.t 87) (.t 88) 4,none,[8,9]⟩,
  .op ⟨some 90,.addo (.t 89) 2,none,[10]⟩,
  .op ⟨some 91,.ld (.t 90) 1 false,none,[11]⟩,
  .op ⟨some 92,.mv (.t 3),none,[]⟩,
  .op ⟨some 93,.bin .add (.t 91) (.t 92),none,[12,13]⟩,
  .op ⟨some 94,.mm false [.t 86,.t 93],none,[7,14]⟩,
  .op ⟨some 95,.ixs (.t 79) (.t 81) 1,none,[0,1,2,3,4,5,6,7,8,9,10,11,12,13,14,15]⟩] 0 1 [
  ⟨none,.st (.t 95) (.t 94) 1,none,[0,1,2,3,4,5,6,7,8,9,10,11,12,13,14,15,16]⟩])
 .skip)))))
 (.reg [
 ⟨some 96,.bin .add (.t 58) (.c (.int .i64 1)),none,[]⟩,
 ⟨some 58,.mv (.t 96),none,[]⟩])))))))))
 (.reg [
 ⟨some 97,.bin .add (.t 32) (.c (.int .i64 1)),none,[]⟩,
 ⟨some 32,.mv (.t 97),none,[]⟩])))))))
 (.seq (.reg [
 ⟨some 98,.mv (.t 11),none,[]⟩,
 ⟨some 10,.mv (.t 98),none,[]⟩])
 .ret)))))))
def r83:List RV:=[.tmp 10]
theorem n83:Try.f83.ntmps = 99:=by kernel_rfl
theorem b83:bodyB Try.prog 83 = true:=by kernel_rfl
theorem c83_ok:cmpC Try.prog c83 ((Try.f83.body).getD .skip) = true:=by kernel_rfl
theorem r83_ok:cmpR Try.prog r83 Try.f83.results.toList = true:=by kernel_rfl
theorem t83 {args:List SV} {res:SV} (ka:KFL args) (kr:KF res) (h:sx Try.prog Y0 0 c83 (st0 args 99) (retK r83 res)) (hA:Nat.ble args.length 99 = true:=by rfl):Ct Try.prog 83 args res:=ct_intro Try.func83 rfl b83 c83_ok r83_ok n83 (Nat.le_of_ble_eq_true hA) ka kr h
def c84:SC:=(.seq (.reg [
 ⟨some 4,.mv (.c (.slice none 0 0)),none,[]⟩])
 (.seq (.reg [
 ⟨some 8,.mv (.t 0),none,[]⟩,
 ⟨some 9,.mv (.t 1),none,[]⟩,
 ⟨some 10,.call 97 [.t 8,.t 9],none,[]⟩,
 ⟨some 5,.mv (.t 10),none,[]⟩])
 (.seq (.seq (.reg [
 ⟨some 11,.mv (.t 5),none,[]⟩,
 ⟨some 12,.bin .eql (.t 11) (.c (.int .i64 (-1))),none,[]⟩])
 (.cond (.t 12)
 (.seq (.reg [
  ⟨some 13,.mv (.t 0),none,[]⟩,
  ⟨some 4,.mv (.t 13),none,[]⟩])
  .ret)
 .skip))
 (.seq (.seq (.reg [
 ⟨some 14,.mv (.t 5),none,[]⟩,
 ⟨some 15,.bin .add (.t 14) (.c (.int .i64 1)),none,[]⟩,
 ⟨some 6,.mv (.t 15),none,[]⟩])
 (.block 0 (.loop (.seq (.seq (.reg [
  ⟨some 16,.mv (.t 6),none,[]⟩,
  ⟨some 17,.mv (.t 0),none,[]⟩,
  ⟨some 18,.len (.t 17),none,[]⟩,
  ⟨some 19,.bin .lss (.t 16) (.t 18),none,[]⟩])
  (.cond (.t 19)
  .skip
  (.exit 0)))
  (.seq (.block 1 (.seq (.reg [
   ⟨some 22,.mv (.t 0),none,[]⟩,
   ⟨some 23,.mv (.t 6),none,[]⟩,
   ⟨some 24,.ixs (.t 22) (.t 23) 4,none,[]⟩,
   ⟨some 25,.ld (.t 24) 4 true,none,[]⟩,
   ⟨some 7,.alloc [.int .i64 0,.int .i64 0,.int .i64 0,.bool false] 73,none,[]⟩,
   ⟨none,.st (.t 7) (.t 25) 4,none,[]⟩])
   (.seq (.reg [
   ⟨some 26,.mv (.t 1),none,[]⟩,
   ⟨some 27,.ld (.t 7) 4 true,none,[]⟩,
   ⟨some 28,.calv (.t 26) [.t 27],none,[]⟩,
   ⟨some 29,.un .not (.t 28),none,[]⟩])
   (.cond (.t 29)
   (.seq (.reg [
    ⟨some 30,.mv (.t 0),none,[]⟩,
    ⟨some 31,.mv (.t 5),none,[]⟩,
    ⟨some 32,.ld (.t 7) 4 true,none,[]⟩,
    ⟨some 33,.ixs (.t 30) (.t 31) 4,none,[]⟩,
    ⟨none,.st (.t 33) (.t 32) 4,none,[]⟩])
    (.reg [
    ⟨some 34,.mv (.t 5),none,[]⟩,
    ⟨some 35,.bin .add (.t 34) (.c (.int .i64 1)),none,[]⟩,
    ⟨some 5,.mv (.t 35),none,[]⟩]))
   .skip))))
  (.reg [
  ⟨some 20,.mv (.t 6),none,[]⟩,
  ⟨some 21,.bin .add (.t 20) (.c (.int .i64 1)),none,[]⟩,
  ⟨some 6,.mv (.t 21),none,[]⟩]))))))
 (.seq (.reg [
 ⟨some 36,.mv (.t 0),none,[]⟩,
 ⟨some 37,.mv (.t 5),none,[]⟩,
 ⟨some 38,.sub 4 (.t 36) (some (.t 37)) none,none,[]⟩,
 ⟨none,.raw (Go.Op.call { callee:=(Go.Callee.builtin Go.Builtin.clear),args:=#[(Go.Operand.tmp 38)],argTypes:=#[66] }) 0,none,[]⟩])
 (.seq (.reg [
 ⟨some 39,.mv (.t 0),none,[]⟩,
 ⟨some 40,.mv (.t 5),none,[]⟩,
 ⟨some 41,.sub 4 (.t 39) none (some (.t 40)),none,[]⟩,
 ⟨some 4,.mv (.t 41),none,[]⟩])
 .ret))))))
def r84:List RV:=[.tmp 4]
theorem n84:Try.f84.ntmps = 42:=by kernel_rfl
theorem b84:bodyB Try.prog 84 = true:=by kernel_rfl
theorem c84_ok:cmpC Try.prog c84 ((Try.f84.body).getD .skip) = true:=by kernel_rfl
theorem r84_ok:cmpR Try.prog r84 Try.f84.results.toList = true:=by kernel_rfl
theorem m84 {n0:Nat} {hp0:List (Nat × HB)} {args:List SV} {Post:Ot → Prop} (hh:hpb n0 hp0) (hx:∀ o,Post o → KX o.res ∧ KXP o.hp) (h:sx Try.prog Y0 n0 c84 ⟨enum 0 args,hp0,n0,42,[]⟩ (retM r84 fun o=>∃ o',Post o' ∧ EntO n0 o o')) (hA:Nat.ble args.length 42 = true:=by rfl):CtM Try.prog 84 hp0 n0 args Post:=ctm_intro Try.func84 rfl b84 c84_ok r84_ok n84 (Nat.le_of_ble_eq_true hA) hh hx h
def c85:SC:=(.seq (.reg [
 ⟨some 1,.box (.t 0) 0 73,none,[]⟩,
 ⟨some 2,.mv (.c (.bool false)),none,[]⟩])
 (.seq (.reg [
 ⟨some 3,.addo (.t 1) 3,none,[]⟩,
 ⟨some 4,.ld (.t 3) 1 false,none,[]⟩,
 ⟨some 5,.un .not (.t 4),none,[]⟩,
 ⟨some 2,.mv (.t 5),none,[]⟩])
 .ret))
def r85:List RV:=[.tmp 2]
theorem n85:Try.f85.ntmps = 6:=by kernel_rfl
theorem b85:bodyB Try.prog 85 = true:=by kernel_rfl
theorem c85_ok:cmpC Try.prog c85 ((Try.f85.body).getD .skip) = true:=by kernel_rfl
theorem r85_ok:cmpR Try.prog r85 Try.f85.results.toList = true:=by kernel_rfl
theorem t85 {args:List SV} {res:SV} (ka:KFL args) (kr:KF res) (h:sx Try.prog Y0 0 c85 (st0 args 6) (retK r85 res)) (hA:Nat.ble args.length 6 = true:=by rfl):Ct Try.prog 85 args res:=ct_intro Try.func85 rfl b85 c85_ok r85_ok n85 (Nat.le_of_ble_eq_true hA) ka kr h
def c97:SC:=(.seq (.reg [
 ⟨some 4,.mv (.c (.int .i64 0)),none,[]⟩])
 (.seq (.seq (.reg [
 ⟨some 6,.mv (.t 0),none,[]⟩,
 ⟨some 7,.len (.t 6),none,[]⟩,
 ⟨some 8,.mv (.c (.int .i64 0)),none,[]⟩])
 (.block 0 (.loop (.seq (.reg [
  ⟨some 9,.bin .lss (.t 8) (.t 7),none,[]⟩])
  (.seq (.cond (.t 9)
  .skip
  (.exit 0))
  (.seq (.block 1 (.seq (.reg [
   ⟨some 10,.mv (.t 8),none,[]⟩,
   ⟨some 5,.mv (.t 10),none,[]⟩])
   (.seq (.reg [
   ⟨some 11,.mv (.t 1),none,[]⟩,
   ⟨some 12,.mv (.t 0),none,[]⟩,
   ⟨some 13,.mv (.t 5),none,[]⟩,
   ⟨some 14,.ixs (.t 12) (.t 13) 4,none,[]⟩,
   ⟨some 15,.ld (.t 14) 4 true,none,[]⟩,
   ⟨some 16,.calv (.t 11) [.t 15],none,[]⟩])
   (.cond (.t 16)
   (.seq (.reg [
    ⟨some 17,.mv (.t 5),none,[]⟩,
    ⟨some 4,.mv (.t 17),none,[]⟩])
    .ret)
   .skip))))
  (.reg [
  ⟨some 18,.bin .add (.t 8) (.c (.int .i64 1)),none,[]⟩,
  ⟨some 8,.mv (.t 18),none,[]⟩])))))))
 (.seq (.reg [
 ⟨some 4,.mv (.c (.int .i64 (-1))),none,[]⟩])
 .ret)))
def r97:List RV:=[.tmp 4]
theorem n97:Try.f97.ntmps = 19:=by kernel_rfl
theorem b97:bodyB Try.prog 97 = true:=by kernel_rfl
theorem c97_ok:cmpC Try.prog c97 ((Try.f97.body).getD .skip) = true:=by kernel_rfl
theorem r97_ok:cmpR Try.prog r97 Try.f97.results.toList = true:=by kernel_rfl
theorem t97 {args:List SV} {res:SV} (ka:KFL args) (kr:KF res) (h:sx Try.prog Y0 0 c97 (st0 args 19) (retK r97 res)) (hA:Nat.ble args.length 19 = true:=by rfl):Ct Try.prog 97 args res:=ct_intro Try.func97 rfl b97 c97_ok r97_ok n97 (Nat.le_of_ble_eq_true hA) ka kr h
def c98:SC:=(.seq (.reg [
 ⟨some 6,.mv (.c (.int .i64 20)),none,[]⟩])
 (.seq (.reg [
 ⟨some 10,.mv (.t 6),none,[]⟩,
 ⟨some 7,.mv (.c (.int .i64 0)),none,[]⟩,
 ⟨some 8,.mv (.t 10),none,[]⟩])
 (.seq (.block 0 (.loop (.seq (.seq (.reg [
  ⟨some 11,.mv (.t 8),none,[]⟩,
  ⟨some 12,.mv (.t 1),none,[]⟩,
  ⟨some 13,.bin .leq (.t 11) (.t 12),none,[]⟩])
  (.cond (.t 13)
  .skip
  (.exit 0)))
  (.block 1 (.seq (.reg [
   ⟨some 14,.mv (.t 0),none,[]⟩,
   ⟨some 15,.mv (.t 7),none,[]⟩,
   ⟨some 16,.mv (.t 8),none,[]⟩,
   ⟨some 17,.mv (.t 2),none,[]⟩,
   ⟨some 18,.callm 105 [.t 14,.t 15,.t 16,.t 17],none,[]⟩])
   (.seq (.reg [
   ⟨some 19,.mv (.t 8),none,[]⟩,
   ⟨some 7,.mv (.t 19),none,[]⟩])
   (.reg [
   ⟨some 20,.mv (.t 8),none,[]⟩,
   ⟨some 21,.mv (.t 6),none,[]⟩,
   ⟨some 22,.bin .add (.t 20) (.t 21),none,[]⟩,
   ⟨some 8,.mv (.t 22),none,[]⟩])))))))
 (.seq (.reg [
 ⟨some 23,.mv (.t 0),none,[]⟩,
 ⟨some 24,.mv (.t 7),none,[]⟩,
 ⟨some 25,.mv (.t 1),none,[]⟩,
 ⟨some 26,.mv (.t 2),none,[]⟩,
 ⟨some 27,.callm 105 [.t 23,.t 24,.t 25,.t 26],none,[]⟩])
 (.block 2 (.loop (.seq (.seq (.reg [
  ⟨some 28,.mv (.t 6),none,[]⟩,
  ⟨some 29,.mv (.t 1),none,[]⟩,
  ⟨some 30,.bin .lss (.t 28) (.t 29),none,[]⟩])
  (.cond (.t 30)
  .skip
  (.exit 2)))
  (.block 3 (.seq (.reg [
   ⟨some 31,.mv (.t 6),none,[]⟩,
   ⟨some 32,.bin .mul (.c (.int .i64 2)) (.t 31),none,[]⟩,
   ⟨some 7,.mv (.c (.int .i64 0)),none,[]⟩,
   ⟨some 8,.mv (.t 32),none,[]⟩])
   (.seq (.block 4 (.loop (.seq (.seq (.reg [
    ⟨some 33,.mv (.t 8),none,[]⟩,
    ⟨some 34,.mv (.t 1),none,[]⟩,
    ⟨some 35,.bin .leq (.t 33) (.t 34),none,[]⟩])
    (.cond (.t 35)
    .skip
    (.exit 4)))
    (.block 5 (.seq (.reg [
     ⟨some 36,.mv (.t 0),none,[]⟩,
     ⟨some 37,.mv (.t 7),none,[]⟩,
     ⟨some 38,.mv (.t 7),none,[]⟩,
     ⟨some 39,.mv (.t 6),none,[]⟩,
     ⟨some 40,.bin .add (.t 38) (.t 39),none,[]⟩,
     ⟨some 41,.mv (.t 8),none,[]⟩,
     ⟨some 42,.mv (.t 2),none,[]⟩,
     ⟨some 43,.callm 106 [.t 36,.t 37,.t 40,.t 41,.t 42],none,[]⟩])
     (.seq (.reg [
     ⟨some 44,.mv (.t 8),none,[]⟩,
     ⟨some 7,.mv (.t 44),none,[]⟩])
     (.reg [
     ⟨some 45,.mv (.t 8),none,[]⟩,
     ⟨some 46,.mv (.t 6),none,[]⟩,
     ⟨some 47,.bin .mul (.c (.int .i64 2)) (.t 46),none,[]⟩,
     ⟨some 48,.bin .add (.t 45) (.t 47),none,[]⟩,
     ⟨some 8,.mv (.t 48),none,[]⟩])))))))
   (.seq (.seq (.reg [
   ⟨some 49,.mv (.t 7),none,[]⟩,
   ⟨some 50,.mv (.t 6),none,[]⟩,
   ⟨some 51,.bin .add (.t 49) (.t 50),none,[]⟩,
   ⟨some 9,.mv (.t 51),none,[]⟩])
   (.seq (.reg [
   ⟨some 52,.mv (.t 9),none,[]⟩,
   ⟨some 53,.mv (.t 1),none,[]⟩,
   ⟨some 54,.bin .lss (.t 52) (.t 53),none,[]⟩])
   (.cond (.t 54)
   (.reg [
    ⟨some 55,.mv (.t 0),none,[]⟩,
    ⟨some 56,.mv (.t 7),none,[]⟩,
    ⟨some 57,.mv (.t 9),none,[]⟩,
    ⟨some 58,.mv (.t 1),none,[]⟩,
    ⟨some 59,.mv (.t 2),none,[]⟩,
    ⟨some 60,.callm 106 [.t 55,.t 56,.t 57,.t 58,.t 59],none,[]⟩])
   .skip)))
   (.reg [
   ⟨some 61,.mv (.t 6),none,[]⟩,
   ⟨some 62,.bin .mul (.t 61) (.c (.int .i64 2)),none,[]⟩,
   ⟨some 6,.mv (.t 62),none,[]⟩]))))))))))))
def r98:List RV:=[]
theorem n98:Try.f98.ntmps = 63:=by kernel_rfl
theorem b98:bodyB Try.prog 98 = true:=by kernel_rfl
theorem c98_ok:cmpC Try.prog c98 ((Try.f98.body).getD .skip) = true:=by kernel_rfl
theorem r98_ok:cmpR Try.prog r98 Try.f98.results.toList = true:=by kernel_rfl
theorem m98 {n0:Nat} {hp0:List (Nat × HB)} {args:List SV} {Post:Ot → Prop} (hh:hpb n0 hp0) (hx:∀ o,Post o → KX o.res ∧ KXP o.hp) (h:sx Try.prog Y0 n0 c98 ⟨enum 0 args,hp0,n0,63,[]⟩ (retM r98 fun o=>∃ o',Post o' ∧ EntO n0 o o')) (hA:Nat.ble args.length 63 = true:=by rfl):CtM Try.prog 98 hp0 n0 args Post:=ctm_intro Try.func98 rfl b98 c98_ok r98_ok n98 (Nat.le_of_ble_eq_true hA) hh hx h
def c99:SC:=(.seq (.reg [
 ⟨some 2,.mv (.c (.bool false)),none,[]⟩])
 (.seq (.reg [
 ⟨some 3,.mv (.t 0),none,[]⟩,
 ⟨some 4,.mv (.t 0),none,[]⟩,
 ⟨some 5,.bin .neq (.t 3) (.t 4),none,[]⟩,
 ⟨some 2,.mv (.t 5),none,[]⟩])
 .ret))
def r99:List RV:=[.tmp 2]
theorem n99:Try.f99.ntmps = 6:=by kernel_rfl
theorem b99:bodyB Try.prog 99 = true:=by kernel_rfl
theorem c99_ok:cmpC Try.prog c99 ((Try.f99.body).getD .skip) = true:=by kernel_rfl
theorem r99_ok:cmpR Try.prog r99 Try.f99.results.toList = true:=by kernel_rfl
theorem t99 {args:List SV} {res:SV} (ka:KFL args) (kr:KF res) (h:sx Try.prog Y0 0 c99 (st0 args 6) (retK r99 res)) (hA:Nat.ble args.length 6 = true:=by rfl):Ct Try.prog 99 args res:=ct_intro Try.func99 rfl b99 c99_ok r99_ok n99 (Nat.le_of_ble_eq_true hA) ka kr h
def c100:SC:=(.seq (.reg [
 ⟨some 4,.mv (.c (.slice none 0 0)),none,[]⟩])
 (.seq (.seq (.reg [
 ⟨some 9,.mv (.t 1),none,[]⟩,
 ⟨some 10,.bin .lss (.t 9) (.c (.int .i64 0)),none,[]⟩])
 (.cond (.t 10)
 (.reg [
  ⟨some 11,.raw (Go.Op.makeInterface 9 (Go.Operand.const (Go.Value.string { data:=#[99,97,110,110,111,116,32,98,101,32,110,101,103,97,116,105,118,101] }))) 20,none,[]⟩,
  ⟨none,.raw (Go.Op.panic (Go.Operand.tmp 11)) 0,none,[]⟩])
 .skip))
 (.seq (.reg [
 ⟨some 13,.mv (.t 0),none,[]⟩,
 ⟨some 14,.len (.t 13),none,[]⟩,
 ⟨some 15,.conv .u64 (.t 14),none,[]⟩,
 ⟨some 16,.mv (.t 1),none,[]⟩,
 ⟨some 17,.conv .u64 (.t 16),none,[]⟩,
 ⟨some 18,.call 96 [.t 15,.t 17],none,[]⟩,
 ⟨some 12,.mv (.t 18),none,[]⟩,
 ⟨some 19,.ext (.t 12) 0,none,[]⟩,
 ⟨some 20,.ext (.t 12) 1,none,[]⟩,
 ⟨some 5,.mv (.t 19),none,[]⟩,
 ⟨some 6,.mv (.t 20),none,[]⟩])
 (.seq (.seq (.reg [
 ⟨some 21,.mv (.t 5),none,[]⟩,
 ⟨some 22,.bin .gtr (.t 21) (.c (.int .u64 0)),none,[]⟩,
 ⟨some 23,.mv (.t 22),none,[]⟩,
 ⟨some 24,.mv (.t 6),some (23,false),[]⟩,
 ⟨some 25,.bin .gtr (.t 24) (.c (.int .u64 9223372036854775807)),some (23,false),[]⟩,
 ⟨some 26,.pick (.t 23) (.c (.bool true)) (.t 25),none,[]⟩])
 (.cond (.t 26)
 (.reg [
  ⟨some 27,.raw (Go.Op.makeInterface 9 (Go.Operand.const (Go.Value.string { data:=#[116,104,101,32,114,101,115,117,108,116,32,111,102,32,40,108,101,110,40,120,41,32,42,32,99,111,117,110,116,41,32,111,118,101,114,102,108,111,119,115] }))) 20,none,[]⟩,
  ⟨none,.raw (Go.Op.panic (Go.Operand.tmp 27)) 0,none,[]⟩])
 .skip))
 (.seq (.reg [
 ⟨some 28,.mv (.t 6),none,[]⟩,
 ⟨some 29,.conv .i64 (.t 28),none,[]⟩,
 ⟨some 30,.mks 1 8 [.int .i64 0] 3 (.t 29),none,[]⟩,
 ⟨some 7,.mv (.t 30),none,[]⟩])
 (.seq (.reg [
 ⟨some 31,.mv (.t 7),none,[]⟩,
 ⟨some 32,.mv (.t 0),none,[]⟩,
 ⟨some 33,.cpy 1 (.t 31) (.t 32),none,[]⟩,
 ⟨some 8,.mv (.t 33),none,[]⟩])
 (.seq (.block 0 (.loop (.seq (.seq (.reg [
  ⟨some 34,.mv (.t 8),none,[]⟩,
  ⟨some 35,.mv (.t 7),none,[]⟩,
  ⟨some 36,.len (.t 35),none,[]⟩,
  ⟨some 37,.bin .lss (.t 34) (.t 36),none,[]⟩])
  (.cond (.t 37)
  .skip
  (.exit 0)))
  (.block 1 (.regd [1,2,3,4,5,6,0,7,8,9] [
   .op ⟨some 39,.mv (.t 7),none,[]⟩,
   .op ⟨some 40,.mv (.t 8),none,[]⟩,
   .op ⟨some 41,.sub 1 (.t 39) (some (.t 40)) none,none,[1,2]⟩,
   .op ⟨some 42,.mv (.t 7),none,[]⟩,
   .op ⟨some 43,.mv (.t 8),none,[]⟩,
   .op ⟨some 44,.sub 1 (.t 42) none (some (.t 43)),none,[4,5]⟩,
   .hide (.t 41),
   .op ⟨some 38,.mv (.t 8),none,[]⟩] 0 1 [
   ⟨some 45,.cpy 1 (.t 41) (.t 44),none,[3,6]⟩,
   ⟨some 46,.bin .add (.t 38) (.t 45),none,[0,7]⟩,
   ⟨some 8,.mv (.t 46),none,[0,1,2,3,4,5,6,7,8]⟩])))))
 (.seq (.reg [
 ⟨some 47,.mv (.t 7),none,[]⟩,
 ⟨some 4,.mv (.t 47),none,[]⟩])
 .ret))))))))
def r100:List RV:=[.tmp 4]
theorem n100:Try.f100.ntmps = 48:=by kernel_rfl
theorem b100:bodyB Try.prog 100 = true:=by kernel_rfl
theorem c100_ok:cmpC Try.prog c100 ((Try.f100.body).getD .skip) = true:=by kernel_rfl
theorem r100_ok:cmpR Try.prog r100 Try.f100.results.toList = true:=by kernel_rfl
theorem m100 {n0:Nat} {hp0:List (Nat × HB)} {args:List SV} {Post:Ot → Prop} (hh:hpb n0 hp0) (hx:∀ o,Post o → KX o.res ∧ KXP o.hp) (h:sx Try.prog Y0 n0 c100 ⟨enum 0 args,hp0,n0,48,[]⟩ (retM r100 fun o=>∃ o',Post o' ∧ EntO n0 o o')) (hA:Nat.ble args.length 48 = true:=by rfl):CtM Try.prog 100 hp0 n0 args Post:=ctm_intro Try.func100 rfl b100 c100_ok r100_ok n100 (Nat.le_of_ble_eq_true hA) hh hx h
def c105:SC:=(.seq (.reg [
 ⟨some 10,.mv (.t 1),none,[]⟩,
 ⟨some 11,.bin .add (.t 10) (.c (.int .i64 1)),none,[]⟩,
 ⟨some 8,.mv (.t 11),none,[]⟩])
 (.block 0 (.loop (.seq (.seq (.reg [
  ⟨some 12,.mv (.t 8),none,[]⟩,
  ⟨some 13,.mv (.t 2),none,[]⟩,
  ⟨some 14,.bin .lss (.t 12) (.t 13),none,[]⟩])
  (.cond (.t 14)
  .skip
  (.exit 0)))
  (.seq (.block 1 (.seq (.reg [
   ⟨some 17,.mv (.t 8),none,[]⟩,
   ⟨some 9,.mv (.t 17),none,[]⟩])
   (.block 2 (.loop (.seq (.seq (.regd [0,1,2,3,4,5,6,7,8,9,10,11,12,13,14,15,16] [
    .op ⟨some 18,.mv (.t 9),none,[]⟩,
    .op ⟨some 19,.mv (.t 1),none,[]⟩,
    .op ⟨some 20,.bin .gtr (.t 18) (.t 19),none,[0,1]⟩,
    .op ⟨some 21,.mv (.t 20),none,[2]⟩,
    .op ⟨some 22,.mv (.t 3),some (21,true),[3]⟩,
    .op ⟨some 23,.mv (.t 0),some (21,true),[3]⟩,
    .op ⟨some 24,.mv (.t 9),some (21,true),[3]⟩,
    .op ⟨some 25,.ixs (.t 23) (.t 24) 4,some (21,true),[3,5,6]⟩,
    .op ⟨some 26,.ld (.t 25) 4 true,some (21,true),[3,7]⟩,
    .op ⟨some 27,.mv (.t 0),some (21,true),[3]⟩,
    .op ⟨some 28,.mv (.t 9),some (21,true),[3]⟩,
    .op ⟨some 29,.bin .sub (.t 28) (.c (.int .i64 1)),some (21,true),[3,10]⟩,
    .op ⟨some 30,.ixs (.t 27) (.t 29) 4,some (21,true),[3,9,11]⟩,
    .op ⟨some 31,.ld (.t 30) 4 true,some (21,true),[3,12]⟩,
    .op ⟨some 32,.calv (.t 22) [.t 26,.t 31],some (21,true),[3,4,8,13]⟩,
    .op ⟨some 33,.bin .lss (.t 32) (.c (.int .i64 0)),some (21,true),[3,14]⟩,
    .op ⟨some 34,.pick (.t 21) (.t 33) (.c (.bool false)),none,[3,15]⟩] 0 0 [
])
 (.cond (.t 34)
 .skip
 (.exit 2)))
 (.seq (.block 3 (.regd [0,1,5,6,7,8,9,10,11,12,13,14,2,3,4,15,16,17] [
  .op ⟨some 37,.mv (.t 0),none,[]⟩,
  .op ⟨some 38,.mv (.t 9),none,[]⟩,
  .op ⟨some 42,.mv (.t 0),none,[]⟩,
  .op ⟨some 43,.mv (.t 9),none,[]⟩,
  .op ⟨some 44,.bin .sub (.t 43) (.c (.int .i64 1)),none,[6]⟩,
  .op ⟨some 45,.ixs (.t 42) (.t 44) 4,none,[5,7]⟩,
  .op ⟨some 46,.ld (.t 45) 4 true,none,[8]⟩,
  .op ⟨some 47,.mv (.t 0),none,[]⟩,
  .op ⟨some 48,.mv (.t 9),none,[]⟩,
  .op ⟨some 49,.ixs (.t 47) (.t 48) 4,none,[10,11]⟩,
  .op ⟨some 50,.ld (.t 49) 4 true,none,[12]⟩,
  .op ⟨some 51,.ixs (.t 37) (.t 38) 4,none,[0,1,5,6,7,8,9,13]⟩,
  .hide (.t 51),
  .op ⟨some 39,.mv (.t 0),none,[]⟩,
  .op ⟨some 40,.mv (.t 9),none,[]⟩,
  .op ⟨some 41,.bin .sub (.t 40) (.c (.int .i64 1)),none,[3]⟩] 0 1 [
  ⟨none,.st (.t 51) (.t 46) 4,none,[0,1,5,6,7,8,9,13,14]⟩,
  ⟨some 52,.ixs (.t 39) (.t 41) 4,none,[0,1,2,3,4,5,6,7,8,9,10,11,12,13,14,15]⟩,
  ⟨none,.st (.t 52) (.t 50) 4,none,[0,1,2,3,4,5,6,7,8,9,10,11,12,13,14,15,16]⟩]))
 (.reg [
 ⟨some 35,.mv (.t 9),none,[]⟩,
 ⟨some 36,.bin .sub (.t 35) (.c (.int .i64 1)),none,[]⟩,
 ⟨some 9,.mv (.t 36),none,[]⟩])))))))
 (.reg [
 ⟨some 15,.mv (.t 8),none,[]⟩,
 ⟨some 16,.bin .add (.t 15) (.c (.int .i64 1)),none,[]⟩,
 ⟨some 8,.mv (.t 16),none,[]⟩]))))))
def r105:List RV:=[]
theorem n105:Try.f105.ntmps = 53:=by kernel_rfl
theorem b105:bodyB Try.prog 105 = true:=by kernel_rfl
theorem c105_ok:cmpC Try.prog c105 ((Try.f105.body).getD .skip) = true:=by kernel_rfl
theorem r105_ok:cmpR Try.prog r105 Try.f105.results.toList = true:=by kernel_rfl
theorem m105 {n0:Nat} {hp0:List (Nat × HB)} {args:List SV} {Post:Ot → Prop} (hh:hpb n0 hp0) (hx:∀ o,Post o → KX o.res ∧ KXP o.hp) (h:sx Try.prog Y0 n0 c105 ⟨enum 0 args,hp0,n0,53,[]⟩ (retM r105 fun o=>∃ o',Post o' ∧ EntO n0 o o')) (hA:Nat.ble args.length 53 = true:=by rfl):CtM Try.prog 105 hp0 n0 args Post:=ctm_intro Try.func105 rfl b105 c105_ok r105_ok n105 (Nat.le_of_ble_eq_true hA) hh hx h
def c106:SC:=(.seq (.seq (.reg [
 ⟨some 25,.mv (.t 2),none,[]⟩,
 ⟨some 26,.mv (.t 1),none,[]⟩,
 ⟨some 27,.bin .sub (.t 25) (.t 26),none,[]⟩,
 ⟨some 28,.bin .eql (.t 27) (.c (.int .i64 1)),none,[]⟩])
 (.cond (.t 28)
 (.seq (.reg [
  ⟨some 29,.mv (.t 2),none,[]⟩,
  ⟨some 10,.mv (.t 29),none,[]⟩])
  (.seq (.reg [
  ⟨some 30,.mv (.t 3),none,[]⟩,
  ⟨some 11,.mv (.t 30),none,[]⟩])
  (.seq (.block 0 (.loop (.seq (.seq (.reg [
   ⟨some 31,.mv (.t 10),none,[]⟩,
   ⟨some 32,.mv (.t 11),none,[]⟩,
   ⟨some 33,.bin .lss (.t 31) (.t 32),none,[]⟩])
   (.cond (.t 33)
   .skip
   (.exit 0)))
   (.block 1 (.seq (.reg [
    ⟨some 34,.mv (.t 10),none,[]⟩,
    ⟨some 35,.mv (.t 11),none,[]⟩,
    ⟨some 36,.bin .add (.t 34) (.t 35),none,[]⟩,
    ⟨some 37,.conv .u64 (.t 36),none,[]⟩,
    ⟨some 38,.raw (Go.Op.binOp Go.BinOp.shr 153 (Go.Operand.tmp 37) (Go.Operand.const (Go.Value.int Go.IntKind.u64 1)) 153) 153,none,[]⟩,
    ⟨some 39,.conv .i64 (.t 38),none,[]⟩,
    ⟨some 12,.mv (.t 39),none,[]⟩])
    (.seq (.regd [0,1,2,3,4,5,6,7,8,9,10] [
    .op ⟨some 40,.mv (.t 4),none,[]⟩,
    .op ⟨some 41,.mv (.t 0),none,[]⟩,
    .op ⟨some 42,.mv (.t 12),none,[]⟩,
    .op ⟨some 43,.ixs (.t 41) (.t 42) 4,none,[1,2]⟩,
    .op ⟨some 44,.ld (.t 43) 4 true,none,[3]⟩,
    .op ⟨some 45,.mv (.t 0),none,[]⟩,
    .op ⟨some 46,.mv (.t 1),none,[]⟩,
    .op ⟨some 47,.ixs (.t 45) (.t 46) 4,none,[5,6]⟩,
    .op ⟨some 48,.ld (.t 47) 4 true,none,[7]⟩,
    .op ⟨some 49,.calv (.t 40) [.t 44,.t 48],none,[0,4,8]⟩,
    .op ⟨some 50,.bin .lss (.t 49) (.c (.int .i64 0)),none,[9]⟩] 0 0 [
])
 (.cond (.t 50)
 (.reg [
  ⟨some 51,.mv (.t 12),none,[]⟩,
  ⟨some 52,.bin .add (.t 51) (.c (.int .i64 1)),none,[]⟩,
  ⟨some 10,.mv (.t 52),none,[]⟩])
 (.reg [
  ⟨some 53,.mv (.t 12),none,[]⟩,
  ⟨some 11,.mv (.t 53),none,[]⟩]))))))))
 (.seq (.seq (.reg [
 ⟨some 54,.mv (.t 1),none,[]⟩,
 ⟨some 13,.mv (.t 54),none,[]⟩])
 (.block 2 (.loop (.seq (.seq (.reg [
  ⟨some 55,.mv (.t 13),none,[]⟩,
  ⟨some 56,.mv (.t 10),none,[]⟩,
  ⟨some 57,.bin .sub (.t 56) (.c (.int .i64 1)),none,[]⟩,
  ⟨some 58,.bin .lss (.t 55) (.t 57),none,[]⟩])
  (.cond (.t 58)
  .skip
  (.exit 2)))
  (.seq (.block 3 (.regd [0,1,5,6,7,8,9,10,11,12,13,14,2,3,4,15,16,17] [
   .op ⟨some 61,.mv (.t 0),none,[]⟩,
   .op ⟨some 62,.mv (.t 13),none,[]⟩,
   .op ⟨some 66,.mv (.t 0),none,[]⟩,
   .op ⟨some 67,.mv (.t 13),none,[]⟩,
   .op ⟨some 68,.bin .add (.t 67) (.c (.int .i64 1)),none,[6]⟩,
   .op ⟨some 69,.ixs (.t 66) (.t 68) 4,none,[5,7]⟩,
   .op ⟨some 70,.ld (.t 69) 4 true,none,[8]⟩,
   .op ⟨some 71,.mv (.t 0),none,[]⟩,
   .op ⟨some 72,.mv (.t 13),none,[]⟩,
   .op ⟨some 73,.ixs (.t 71) (.t 72) 4,none,[10,11]⟩,
   .op ⟨some 74,.ld (.t 73) 4 true,none,[12]⟩,
   .op ⟨some 75,.ixs (.t 61) (.t 62) 4,none,[0,1,5,6,7,8,9,13]⟩,
   .hide (.t 75),
   .op ⟨some 63,.mv (.t 0),none,[]⟩,
   .op ⟨some 64,.mv (.t 13),none,[]⟩,
   .op ⟨some 65,.bin .add (.t 64) (.c (.int .i64 1)),none,[3]⟩] 0 1 [
   ⟨none,.st (.t 75) (.t 70) 4,none,[0,1,5,6,7,8,9,13,14]⟩,
   ⟨some 76,.ixs (.t 63) (.t 65) 4,none,[0,1,2,3,4,5,6,7,8,9,10,11,12,13,14,15]⟩,
   ⟨none,.st (.t 76) (.t 74) 4,none,[0,1,2,3,4,5,6,7,8,9,10,11,12,13,14,15,16]⟩]))
  (.reg [
  ⟨some 59,.mv (.t 13),none,[]⟩,
  ⟨some 60,.bin .add (.t 59) (.c (.int .i64 1)),none,[]⟩,
  ⟨some 13,.mv (.t 60),none,[]⟩]))))))
 .ret))))
 .skip))
 (.seq (.seq (.reg [
 ⟨some 77,.mv (.t 3),none,[]⟩,
 ⟨some 78,.mv (.t 2),none,[]⟩,
 ⟨some 79,.bin .sub (.t 77) (.t 78),none,[]⟩,
 ⟨some 80,.bin .eql (.t 79) (.c (.int .i64 1)),none,[]⟩])
 (.cond (.t 80)
 (.seq (.reg [
  ⟨some 81,.mv (.t 1),none,[]⟩,
  ⟨some 14,.mv (.t 81),none,[]⟩])
  (.seq (.reg [
  ⟨some 82,.mv (.t 2),none,[]⟩,
  ⟨some 15,.mv (.t 82),none,[]⟩])
  (.seq (.block 4 (.loop (.seq (.seq (.reg [
   ⟨some 83,.mv (.t 14),none,[]⟩,
   ⟨some 84,.mv (.t 15),none,[]⟩,
   ⟨some 85,.bin .lss (.t 83) (.t 84),none,[]⟩])
   (.cond (.t 85)
   .skip
   (.exit 4)))
   (.block 5 (.seq (.reg [
    ⟨some 86,.mv (.t 14),none,[]⟩,
    ⟨some 87,.mv (.t 15),none,[]⟩,
    ⟨some 88,.bin .add (.t 86) (.t 87),none,[]⟩,
    ⟨some 89,.conv .u64 (.t 88),none,[]⟩,
    ⟨some 90,.raw (Go.Op.binOp Go.BinOp.shr 153 (Go.Operand.tmp 89) (Go.Operand.const (Go.Value.int Go.IntKind.u64 1)) 153) 153,none,[]⟩,
    ⟨some 91,.conv .i64 (.t 90),none,[]⟩,
    ⟨some 16,.mv (.t 91),none,[]⟩])
    (.seq (.regd [0,1,2,3,4,5,6,7,8,9,10,11] [
    .op ⟨some 92,.mv (.t 4),none,[]⟩,
    .op ⟨some 93,.mv (.t 0),none,[]⟩,
    .op ⟨some 94,.mv (.t 2),none,[]⟩,
    .op ⟨some 95,.ixs (.t 93) (.t 94) 4,none,[1,2]⟩,
    .op ⟨some 96,.ld (.t 95) 4 true,none,[3]⟩,
    .op ⟨some 97,.mv (.t 0),none,[]⟩,
    .op ⟨some 98,.mv (.t 16),none,[]⟩,
    .op ⟨some 99,.ixs (.t 97) (.t 98) 4,none,[5,6]⟩,
    .op ⟨some 100,.ld (.t 99) 4 true,none,[7]⟩,
    .op ⟨some 101,.calv (.t 92) [.t 96,.t 100],none,[0,4,8]⟩,
    .op ⟨some 102,.bin .lss (.t 101) (.c (.int .i64 0)),none,[9]⟩,
    .op ⟨some 103,.un .not (.t 102),none,[10]⟩] 0 0 [
])
 (.cond (.t 103)
 (.reg [
  ⟨some 104,.mv (.t 16),none,[]⟩,
  ⟨some 105,.bin .add (.t 104) (.c (.int .i64 1)),none,[]⟩,
  ⟨some 14,.mv (.t 105),none,[]⟩])
 (.reg [
  ⟨some 106,.mv (.t 16),none,[]⟩,
  ⟨some 15,.mv (.t 106),none,[]⟩]))))))))
 (.seq (.seq (.reg [
 ⟨some 107,.mv (.t 2),none,[]⟩,
 ⟨some 17,.mv (.t 107),none,[]⟩])
 (.block 6 (.loop (.seq (.seq (.reg [
  ⟨some 108,.mv (.t 17),none,[]⟩,
  ⟨some 109,.mv (.t 14),none,[]⟩,
  ⟨some 110,.bin .gtr (.t 108) (.t 109),none,[]⟩])
  (.cond (.t 110)
  .skip
  (.exit 6)))
  (.seq (.block 7 (.regd [0,1,5,6,7,8,9,10,11,12,13,14,2,3,4,15,16,17] [
   .op ⟨some 113,.mv (.t 0),none,[]⟩,
   .op ⟨some 114,.mv (.t 17),none,[]⟩,
   .op ⟨some 118,.mv (.t 0),none,[]⟩,
   .op ⟨some 119,.mv (.t 17),none,[]⟩,
   .op ⟨some 120,.bin .sub (.t 119) (.c (.int .i64 1)),none,[6]⟩,
   .op ⟨some 121,.ixs (.t 118) (.t 120) 4,none,[5,7]⟩,
   .op ⟨some 122,.ld (.t 121) 4 true,none,[8]⟩,
   .op ⟨some 123,.mv (.t 0),none,[]⟩,
   .op ⟨some 124,.mv (.t 17),none,[]⟩,
   .op ⟨some 125,.ixs (.t 123) (.t 124) 4,none,[10,11]⟩,
   .op ⟨some 126,.ld (.t 125) 4 true,none,[12]⟩,
   .op ⟨some 127,.ixs (.t 113) (.t 114) 4,none,[0,1,5,6,7,8,9,13]⟩,
   .hide (.t 127),
   .op ⟨some 115,.mv (.t 0),none,[]⟩,
   .op ⟨some 116,.mv (.t 17),none,[]⟩,
   .op ⟨some 117,.bin .sub (.t 116) (.c (.int .i64 1)),none,[3]⟩] 0 1 [
   ⟨none,.st (.t 127) (.t 122) 4,none,[0,1,5,6,7,8,9,13,14]⟩,
   ⟨some 128,.ixs (.t 115) (.t 117) 4,none,[0,1,2,3,4,5,6,7,8,9,10,11,12,13,14,15]⟩,
   ⟨none,.st (.t 128) (.t 126) 4,none,[0,1,2,3,4,5,6,7,8,9,10,11,12,13,14,15,16]⟩]))
  (.reg [
  ⟨some 111,.mv (.t 17),none,[]⟩,
  ⟨some 112,.bin .sub (.t 111) (.c (.int .i64 1)),none,[]⟩,
  ⟨some 17,.mv (.t 112),none,[]⟩]))))))
 .ret))))
 .skip))
 (.seq (.reg [
 ⟨some 129,.mv (.t 1),none,[]⟩,
 ⟨some 130,.mv (.t 3),none,[]⟩,
 ⟨some 131,.bin .add (.t 129) (.t 130),none,[]⟩,
 ⟨some 132,.conv .u64 (.t 131),none,[]⟩,
 ⟨some 133,.raw (Go.Op.binOp Go.BinOp.shr 153 (Go.Operand.tmp 132) (Go.Operand.const (Go.Value.int Go.IntKind.u64 1)) 153) 153,none,[]⟩,
 ⟨some 134,.conv .i64 (.t 133),none,[]⟩,
 ⟨some 18,.mv (.t 134),none,[]⟩])
 (.seq (.reg [
 ⟨some 135,.mv (.t 18),none,[]⟩,
 ⟨some 136,.mv (.t 2),none,[]⟩,
 ⟨some 137,.bin .add (.t 135) (.t 136),none,[]⟩,
 ⟨some 19,.mv (.t 137),none,[]⟩])
 (.seq (.reg [
 ⟨some 20,.mv (.c (.int .i64 0)),none,[]⟩,
 ⟨some 21,.mv (.c (.int .i64 0)),none,[]⟩])
 (.seq (.seq (.reg [
 ⟨some 138,.mv (.t 2),none,[]⟩,
 ⟨some 139,.mv (.t 18),none,[]⟩,
 ⟨some 140,.bin .gtr (.t 138) (.t 139),none,[]⟩])
 (.cond (.t 140)
 (.seq (.reg [
  ⟨some 141,.mv (.t 19),none,[]⟩,
  ⟨some 142,.mv (.t 3),none,[]⟩,
  ⟨some 143,.bin .sub (.t 141) (.t 142),none,[]⟩,
  ⟨some 20,.mv (.t 143),none,[]⟩])
  (.reg [
  ⟨some 144,.mv (.t 18),none,[]⟩,
  ⟨some 21,.mv (.t 144),none,[]⟩]))
 (.seq (.reg [
  ⟨some 145,.mv (.t 1),none,[]⟩,
  ⟨some 20,.mv (.t 145),none,[]⟩])
  (.reg [
  ⟨some 146,.mv (.t 2),none,[]⟩,
  ⟨some 21,.mv (.t 146),none,[]⟩]))))
 (.seq (.reg [
 ⟨some 147,.mv (.t 19),none,[]⟩,
 ⟨some 148,.bin .sub (.t 147) (.c (.int .i64 1)),none,[]⟩,
 ⟨some 22,.mv (.t 148),none,[]⟩])
 (.seq (.block 8 (.loop (.seq (.seq (.reg [
  ⟨some 149,.mv (.t 20),none,[]⟩,
  ⟨some 150,.mv (.t 21),none,[]⟩,
  ⟨some 151,.bin .lss (.t 149) (.t 150),none,[]⟩])
  (.cond (.t 151)
  .skip
  (.exit 8)))
  (.block 9 (.seq (.reg [
   ⟨some 152,.mv (.t 20),none,[]⟩,
   ⟨some 153,.mv (.t 21),none,[]⟩,
   ⟨some 154,.bin .add (.t 152) (.t 153),none,[]⟩,
   ⟨some 155,.conv .u64 (.t 154),none,[]⟩,
   ⟨some 156,.raw (Go.Op.binOp Go.BinOp.shr 153 (Go.Operand.tmp 155) (Go.Operand.const (Go.Value.int Go.IntKind.u64 1)) 153) 153,none,[]⟩,
   ⟨some 157,.conv .i64 (.t 156),none,[]⟩,
   ⟨some 23,.mv (.t 157),none,[]⟩])
   (.seq (.regd [0,1,2,3,4,5,6,7,8,9,10,11,12,13] [
   .op ⟨some 158,.mv (.t 4),none,[]⟩,
   .op ⟨some 159,.mv (.t 0),none,[]⟩,
   .op ⟨some 160,.mv (.t 22),none,[]⟩,
   .op ⟨some 161,.mv (.t 23),none,[]⟩,
   .op ⟨some 162,.bin .sub (.t 160) (.t 161),none,[2,3]⟩,
   .op ⟨some 163,.ixs (.t 159) (.t 162) 4,none,[1,4]⟩,
   .op ⟨some 164,.ld (.t 163) 4 true,none,[5]⟩,
   .op ⟨some 165,.mv (.t 0),none,[]⟩,
   .op ⟨some 166,.mv (.t 23),none,[]⟩,
   .op ⟨some 167,.ixs (.t 165) (.t 166) 4,none,[7,8]⟩,
   .op ⟨some 168,.ld (.t 167) 4 true,none,[9]⟩,
   .op ⟨some 169,.calv (.t 158) [.t 164,.t 168],none,[0,6,10]⟩,
   .op ⟨some 170,.bin .lss (.t 169) (.c (.int .i64 0)),none,[11]⟩,
   .op ⟨some 171,.un .not (.t 170),none,[12]⟩] 0 0 [
])
 (.cond (.t 171)
 (.reg [
  ⟨some 172,.mv (.t 23),none,[]⟩,
  ⟨some 173,.bin .add (.t 172) (.c (.int .i64 1)),none,[]⟩,
  ⟨some 20,.mv (.t 173),none,[]⟩])
 (.reg [
  ⟨some 174,.mv (.t 23),none,[]⟩,
  ⟨some 21,.mv (.t 174),none,[]⟩]))))))))
 (.seq (.reg [
 ⟨some 175,.mv (.t 19),none,[]⟩,
 ⟨some 176,.mv (.t 20),none,[]⟩,
 ⟨some 177,.bin .sub (.t 175) (.t 176),none,[]⟩,
 ⟨some 24,.mv (.t 177),none,[]⟩])
 (.seq (.seq (.reg [
 ⟨some 178,.mv (.t 20),none,[]⟩,
 ⟨some 179,.mv (.t 2),none,[]⟩,
 ⟨some 180,.bin .lss (.t 178) (.t 179),none,[]⟩,
 ⟨some 181,.mv (.t 180),none,[]⟩,
 ⟨some 182,.mv (.t 2),some (181,true),[]⟩,
 ⟨some 183,.mv (.t 24),some (181,true),[]⟩,
 ⟨some 184,.bin .lss (.t 182) (.t 183),some (181,true),[]⟩,
 ⟨some 185,.pick (.t 181) (.t 184) (.c (.bool false)),none,[]⟩])
 (.cond (.t 185)
 (.reg [
  ⟨some 186,.mv (.t 0),none,[]⟩,
  ⟨some 187,.mv (.t 20),none,[]⟩,
  ⟨some 188,.mv (.t 2),none,[]⟩,
  ⟨some 189,.mv (.t 24),none,[]⟩,
  ⟨some 190,.mv (.t 4),none,[]⟩,
  ⟨some 191,.callm 107 [.t 186,.t 187,.t 188,.t 189,.t 190],none,[]⟩])
 .skip))
 (.seq (.seq (.reg [
 ⟨some 192,.mv (.t 1),none,[]⟩,
 ⟨some 193,.mv (.t 20),none,[]⟩,
 ⟨some 194,.bin .lss (.t 192) (.t 193),none,[]⟩,
 ⟨some 195,.mv (.t 194),none,[]⟩,
 ⟨some 196,.mv (.t 20),some (195,true),[]⟩,
 ⟨some 197,.mv (.t 18),some (195,true),[]⟩,
 ⟨some 198,.bin .lss (.t 196) (.t 197),some (195,true),[]⟩,
 ⟨some 199,.pick (.t 195) (.t 198) (.c (.bool false)),none,[]⟩])
 (.cond (.t 199)
 (.reg [
  ⟨some 200,.mv (.t 0),none,[]⟩,
  ⟨some 201,.mv (.t 1),none,[]⟩,
  ⟨some 202,.mv (.t 20),none,[]⟩,
  ⟨some 203,.mv (.t 18),none,[]⟩,
  ⟨some 204,.mv (.t 4),none,[]⟩,
  ⟨some 205,.callm 106 [.t 200,.t 201,.t 202,.t 203,.t 204],none,[]⟩])
 .skip))
 (.seq (.reg [
 ⟨some 206,.mv (.t 18),none,[]⟩,
 ⟨some 207,.mv (.t 24),none,[]⟩,
 ⟨some 208,.bin .lss (.t 206) (.t 207),none,[]⟩,
 ⟨some 209,.mv (.t 208),none,[]⟩,
 ⟨some 210,.mv (.t 24),some (209,true),[]⟩,
 ⟨some 211,.mv (.t 3),some (209,true),[]⟩,
 ⟨some 212,.bin .lss (.t 210) (.t 211),some (209,true),[]⟩,
 ⟨some 213,.pick (.t 209) (.t 212) (.c (.bool false)),none,[]⟩])
 (.cond (.t 213)
 (.reg [
  ⟨some 214,.mv (.t 0),none,[]⟩,
  ⟨some 215,.mv (.t 18),none,[]⟩,
  ⟨some 216,.mv (.t 24),none,[]⟩,
  ⟨some 217,.mv (.t 3),none,[]⟩,
  ⟨some 218,.mv (.t 4),none,[]⟩,
  ⟨some 219,.callm 106 [.t 214,.t 215,.t 216,.t 217,.t 218],none,[]⟩])
 .skip)))))))))))))
def r106:List RV:=[]
theorem n106:Try.f106.ntmps = 220:=by kernel_rfl
theorem b106:bodyB Try.prog 106 = true:=by kernel_rfl
theorem c106_ok:cmpC Try.prog c106 ((Try.f106.body).getD .skip) = true:=by kernel_rfl
theorem r106_ok:cmpR Try.prog r106 Try.f106.results.toList = true:=by kernel_rfl
theorem m106 {n0:Nat} {hp0:List (Nat × HB)} {args:List SV} {Post:Ot → Prop} (hh:hpb n0 hp0) (hx:∀ o,Post o → KX o.res ∧ KXP o.hp) (h:sx Try.prog Y0 n0 c106 ⟨enum 0 args,hp0,n0,220,[]⟩ (retM r106 fun o=>∃ o',Post o' ∧ EntO n0 o o')) (hA:Nat.ble args.length 220 = true:=by rfl):CtM Try.prog 106 hp0 n0 args Post:=ctm_intro Try.func106 rfl b106 c106_ok r106_ok n106 (Nat.le_of_ble_eq_true hA) hh hx h
def c107:SC:=(.seq (.reg [
 ⟨some 12,.mv (.t 2),none,[]⟩,
 ⟨some 13,.mv (.t 1),none,[]⟩,
 ⟨some 14,.bin .sub (.t 12) (.t 13),none,[]⟩,
 ⟨some 10,.mv (.t 14),none,[]⟩])
 (.seq (.reg [
 ⟨some 15,.mv (.t 3),none,[]⟩,
 ⟨some 16,.mv (.t 2),none,[]⟩,
 ⟨some 17,.bin .sub (.t 15) (.t 16),none,[]⟩,
 ⟨some 11,.mv (.t 17),none,[]⟩])
 (.seq (.block 0 (.loop (.seq (.seq (.reg [
  ⟨some 18,.mv (.t 10),none,[]⟩,
  ⟨some 19,.mv (.t 11),none,[]⟩,
  ⟨some 20,.bin .neq (.t 18) (.t 19),none,[]⟩])
  (.cond (.t 20)
  .skip
  (.exit 0)))
  (.block 1 (.seq (.reg [
   ⟨some 21,.mv (.t 10),none,[]⟩,
   ⟨some 22,.mv (.t 11),none,[]⟩,
   ⟨some 23,.bin .gtr (.t 21) (.t 22),none,[]⟩])
   (.cond (.t 23)
   (.seq (.reg [
    ⟨some 24,.mv (.t 0),none,[]⟩,
    ⟨some 25,.mv (.t 2),none,[]⟩,
    ⟨some 26,.mv (.t 10),none,[]⟩,
    ⟨some 27,.bin .sub (.t 25) (.t 26),none,[]⟩,
    ⟨some 28,.mv (.t 2),none,[]⟩,
    ⟨some 29,.mv (.t 11),none,[]⟩,
    ⟨some 30,.mv (.t 4),none,[]⟩,
    ⟨some 31,.callm 108 [.t 24,.t 27,.t 28,.t 29,.t 30],none,[]⟩])
    (.reg [
    ⟨some 32,.mv (.t 10),none,[]⟩,
    ⟨some 33,.mv (.t 11),none,[]⟩,
    ⟨some 34,.bin .sub (.t 32) (.t 33),none,[]⟩,
    ⟨some 10,.mv (.t 34),none,[]⟩]))
   (.seq (.reg [
    ⟨some 35,.mv (.t 0),none,[]⟩,
    ⟨some 36,.mv (.t 2),none,[]⟩,
    ⟨some 37,.mv (.t 10),none,[]⟩,
    ⟨some 38,.bin .sub (.t 36) (.t 37),none,[]⟩,
    ⟨some 39,.mv (.t 2),none,[]⟩,
    ⟨some 40,.mv (.t 11),none,[]⟩,
    ⟨some 41,.bin .add (.t 39) (.t 40),none,[]⟩,
    ⟨some 42,.mv (.t 10),none,[]⟩,
    ⟨some 43,.bin .sub (.t 41) (.t 42),none,[]⟩,
    ⟨some 44,.mv (.t 10),none,[]⟩,
    ⟨some 45,.mv (.t 4),none,[]⟩,
    ⟨some 46,.callm 108 [.t 35,.t 38,.t 43,.t 44,.t 45],none,[]⟩])
    (.reg [
    ⟨some 47,.mv (.t 11),none,[]⟩,
    ⟨some 48,.mv (.t 10),none,[]⟩,
    ⟨some 49,.bin .sub (.t 47) (.t 48),none,[]⟩,
    ⟨some 11,.mv (.t 49),none,[]⟩]))))))))
 (.reg [
 ⟨some 50,.mv (.t 0),none,[]⟩,
 ⟨some 51,.mv (.t 2),none,[]⟩,
 ⟨some 52,.mv (.t 10),none,[]⟩,
 ⟨some 53,.bin .sub (.t 51) (.t 52),none,[]⟩,
 ⟨some 54,.mv (.t 2),none,[]⟩,
 ⟨some 55,.mv (.t 10),none,[]⟩,
 ⟨some 56,.mv (.t 4),none,[]⟩,
 ⟨some 57,.callm 108 [.t 50,.t 53,.t 54,.t 55,.t 56],none,[]⟩]))))
def r107:List RV:=[]
theorem n107:Try.f107.ntmps = 58:=by kernel_rfl
theorem b107:bodyB Try.prog 107 = true:=by kernel_rfl
theorem c107_ok:cmpC Try.prog c107 ((Try.f107.body).getD .skip) = true:=by kernel_rfl
theorem r107_ok:cmpR Try.prog r107 Try.f107.results.toList = true:=by kernel_rfl
theorem m107 {n0:Nat} {hp0:List (Nat × HB)} {args:List SV} {Post:Ot → Prop} (hh:hpb n0 hp0) (hx:∀ o,Post o → KX o.res ∧ KXP o.hp) (h:sx Try.prog Y0 n0 c107 ⟨enum 0 args,hp0,n0,58,[]⟩ (retM r107 fun o=>∃ o',Post o' ∧ EntO n0 o o')) (hA:Nat.ble args.length 58 = true:=by rfl):CtM Try.prog 107 hp0 n0 args Post:=ctm_intro Try.func107 rfl b107 c107_ok r107_ok n107 (Nat.le_of_ble_eq_true hA) hh hx h
def c108:SC:=(.seq (.reg [
 ⟨some 10,.mv (.c (.int .i64 0)),none,[]⟩])
 (.block 0 (.loop (.seq (.seq (.reg [
  ⟨some 11,.mv (.t 10),none,[]⟩,
  ⟨some 12,.mv (.t 3),none,[]⟩,
  ⟨some 13,.bin .lss (.t 11) (.t 12),none,[]⟩])
  (.cond (.t 13)
  .skip
  (.exit 0)))
  (.seq (.block 1 (.regd [0,1,2,3,8,9,10,11,12,13,14,15,16,17,18,19,20,4,5,6,7,21,22,23] [
   .op ⟨some 16,.mv (.t 0),none,[]⟩,
   .op ⟨some 17,.mv (.t 1),none,[]⟩,
   .op ⟨some 18,.mv (.t 10),none,[]⟩,
   .op ⟨some 19,.bin .add (.t 17) (.t 18),none,[1,2]⟩,
   .op ⟨some 24,.mv (.t 0),none,[]⟩,
   .op ⟨some 25,.mv (.t 2),none,[]⟩,
   .op ⟨some 26,.mv (.t 10),none,[]⟩,
   .op ⟨some 27,.bin .add (.t 25) (.t 26),none,[9,10]⟩,
   .op ⟨some 28,.ixs (.t 24) (.t 27) 4,none,[8,11]⟩,
   .op ⟨some 29,.ld (.t 28) 4 true,none,[12]⟩,
   .op ⟨some 30,.mv (.t 0),none,[]⟩,
   .op ⟨some 31,.mv (.t 1),none,[]⟩,
   .op ⟨some 32,.mv (.t 10),none,[]⟩,
   .op ⟨some 33,.bin .add (.t 31) (.t 32),none,[15,16]⟩,
   .op ⟨some 34,.ixs (.t 30) (.t 33) 4,none,[14,17]⟩,
   .op ⟨some 35,.ld (.t 34) 4 true,none,[18]⟩,
   .op ⟨some 36,.ixs (.t 16) (.t 19) 4,none,[0,1,2,3,8,9,10,11,12,13,19]⟩,
   .hide (.t 36),
   .op ⟨some 20,.mv (.t 0),none,[]⟩,
   .op ⟨some 21,.mv (.t 2),none,[]⟩,
   .op ⟨some 22,.mv (.t 10),none,[]⟩,
   .op ⟨some 23,.bin .add (.t 21) (.t 22),none,[5,6]⟩] 0 1 [
   ⟨none,.st (.t 36) (.t 29) 4,none,[0,1,2,3,8,9,10,11,12,13,19,20]⟩,
   ⟨some 37,.ixs (.t 20) (.t 23) 4,none,[0,1,2,3,4,5,6,7,8,9,10,11,12,13,14,15,16,17,18,19,20,21]⟩,
   ⟨none,.st (.t 37) (.t 35) 4,none,[0,1,2,3,4,5,6,7,8,9,10,11,12,13,14,15,16,17,18,19,20,21,22]⟩]))
  (.reg [
  ⟨some 14,.mv (.t 10),none,[]⟩,
  ⟨some 15,.bin .add (.t 14) (.c (.int .i64 1)),none,[]⟩,
  ⟨some 10,.mv (.t 15),none,[]⟩]))))))
def r108:List RV:=[]
theorem n108:Try.f108.ntmps = 38:=by kernel_rfl
theorem b108:bodyB Try.prog 108 = true:=by kernel_rfl
theorem c108_ok:cmpC Try.prog c108 ((Try.f108.body).getD .skip) = true:=by kernel_rfl
theorem r108_ok:cmpR Try.prog r108 Try.f108.results.toList = true:=by kernel_rfl
theorem m108 {n0:Nat} {hp0:List (Nat × HB)} {args:List SV} {Post:Ot → Prop} (hh:hpb n0 hp0) (hx:∀ o,Post o → KX o.res ∧ KXP o.hp) (h:sx Try.prog Y0 n0 c108 ⟨enum 0 args,hp0,n0,38,[]⟩ (retM r108 fun o=>∃ o',Post o' ∧ EntO n0 o o')) (hA:Nat.ble args.length 38 = true:=by rfl):CtM Try.prog 108 hp0 n0 args Post:=ctm_intro Try.func108 rfl b108 c108_ok r108_ok n108 (Nat.le_of_ble_eq_true hA) hh hx h
end Go.Proofs.Ytnlfjchbhgikaaa
namespace Go.Azalai
section
variable {α : Type} (key:α → Int)
def ky (l:List α) (i:Nat):Int:=match l[i]? with | some x=>key x | none=>0
def swp (l:List α) (i j:Nat):List α:=match l[i]?,l[j]? with | some x,some y=>(l.set i y).set j x | _,_=>l
theorem swp_eq {l:List α} {i j:Nat} (hi:i < l.length) (hj:j < l.length):swp l i j = (l.set i l[j]).set j l[i]:=by
 unfold swp;rw [List.getElem?_eq_getElem hi,List.getElem?_eq_getElem hj]
theorem swp_len (l:List α) (i j:Nat):(swp l i j).length = l.length:=by unfold swp;split <;> simp
theorem swp_get {l:List α} {i j:Nat} (hi:i < l.length) (hj:j < l.length) (p:Nat):(swp l i j)[p]? = if p = i then l[j]? else if p = j then l[i]? else l[p]?:=by
 rw [swp_eq hi hj]
 by_cases h1:p = j
 · subst h1
   by_cases h2:p = i
   · subst h2;simp [hi]
   · simp [h2,hi,hj]
 · rw [List.getElem?_set_ne (Ne.symm h1)]
   by_cases h2:p = i
   · subst h2;simp [hi,hj]
   · rw [List.getElem?_set_ne (Ne.symm h2),if_neg h2,if_neg h1]
theorem swp_perm {l:List α} {i j:Nat} (hi:i < l.length) (hj:j < l.length):(swp l i j).Perm l:=by
 rw [swp_eq hi hj];exact List.set_set_perm hi hj
theorem swp_ky {l:List α} {i j:Nat} (hi:i < l.length) (hj:j < l.length) (p:Nat):ky key (swp l i j) p = if p = i then ky key l j else if p = j then ky key l i else ky key l p:=by
 unfold ky;rw [swp_get hi hj]
 by_cases h1:p = i
 · simp only [if_pos h1]
 · by_cases h2:p = j
   · simp only [if_neg h1,if_pos h2]
   · simp only [if_neg h1,if_neg h2]
structure PIn (a b:Nat) (l l':List α):Prop where
 len:l'.length = l.length
 perm:l'.Perm l
 out:∀ i,i < a ∨ b ≤ i → l'[i]? = l[i]?
 all:∀ p:α → Prop,(∀ i x,a ≤ i → i < b → l[i]? = some x → p x) → ∀ i x,a ≤ i → i < b → l'[i]? = some x → p x
theorem PIn.refl (a b:Nat) (l:List α):PIn a b l l:=⟨rfl,.refl _,fun _ _=>rfl,fun _ h=>h⟩
theorem PIn.trans {a b:Nat} {l l' l'':List α} (h:PIn a b l l') (h':PIn a b l' l''):PIn a b l l'' :=
 ⟨h'.len.trans h.len,h'.perm.trans h.perm,fun i hi=>(h'.out i hi).trans (h.out i hi),fun p hp=>h'.all p (h.all p hp)⟩
theorem PIn.mono {a b a' b':Nat} {l l':List α} (h:PIn a b l l') (ha:a' ≤ a) (hb:b ≤ b'):PIn a' b' l l':=by
 refine ⟨h.len,h.perm,fun i hi=>h.out i (by omega),fun p hp i x h1 h2 hx=>?_⟩
 by_cases hi:a ≤ i ∧ i < b
 · exact h.all p (fun i x q1 q2=>hp i x (by omega) (by omega)) i x hi.1 hi.2 hx
 · rw [h.out i (by omega)] at hx;exact hp i x h1 h2 hx
theorem PIn.swap {a b i j:Nat} {l:List α} (hi:a ≤ i) (hi':i < b) (hj:a ≤ j) (hj':j < b) (hb:b ≤ l.length):PIn a b l (swp l i j):=by
 have h1:i < l.length:=by omega
 have h2:j < l.length:=by omega
 refine ⟨swp_len _ _ _,swp_perm h1 h2,fun p hp=>?_,fun q hq p x g1 g2 hx=>?_⟩
 · rw [swp_get h1 h2,if_neg (by omega),if_neg (by omega)]
 · rw [swp_get h1 h2] at hx
   split at hx
   · exact hq j x hj hj' hx
   · split at hx
     · exact hq i x hi hi' hx
     · exact hq p x g1 g2 hx
theorem PIn.ky {a b:Nat} {l l':List α} (h:PIn a b l l') {i:Nat} (hi:i < a ∨ b ≤ i):ky key l' i = ky key l i:=by unfold Go.Azalai.ky;rw [h.out i hi]
theorem PIn.kall {a b:Nat} {l l':List α} (h:PIn a b l l') (hb:b ≤ l.length) (p:Int → Prop) (hp:∀ i,a ≤ i → i < b → p (Go.Azalai.ky key l i)):∀ i,a ≤ i → i < b → p (Go.Azalai.ky key l' i):=fun i h1 h2=>by
 have hl:i < l'.length:=by rw [h.len];omega
 have:=h.all (fun x=>p (key x)) (fun i x q1 q2 hx=>by have:=hp i q1 q2;unfold Go.Azalai.ky at this;rw [hx] at this;exact this) i l'[i] h1 h2 (List.getElem?_eq_getElem hl)
 unfold Go.Azalai.ky;rw [List.getElem?_eq_getElem hl];exact this
def Srt (a b:Nat) (l:List α):Prop:=∀ i j,a ≤ i → i < j → j < b → ky key l i ≤ ky key l j
theorem Srt.le {a b:Nat} {l:List α} (h:Srt key a b l) {i j:Nat} (h1:a ≤ i) (h2:i ≤ j) (h3:j < b):ky key l i ≤ ky key l j:=by
 rcases Nat.lt_or_ge i j with q | q
 · exact h i j h1 q h3
 · rw [show i = j from by omega];exact Int.le_refl _
theorem Srt.join {a c b:Nat} {l:List α} (h1:Srt key a c l) (h2:Srt key c b l) (h:∀ i j,a ≤ i → i < c → c ≤ j → j < b → ky key l i ≤ ky key l j):Srt key a b l:=fun i j g1 g2 g3=>by
 by_cases hj:j < c
 · exact h1 i j g1 g2 hj
 · by_cases hi:i < c
   · exact h i j g1 hi (by omega) g3
   · exact h2 i j (by omega) g2 g3
structure Ins1 (a i j:Nat) (l:List α):Prop where
 up:∀ p q,a ≤ p → p < q → q ≤ i → p ≠ j → q ≠ j → ky key l p ≤ ky key l q
 lo:∀ q,j < q → q ≤ i → ky key l j ≤ ky key l q
theorem ins_start {a i:Nat} {l:List α} (h:Srt key a i l):Ins1 key a i i l:=⟨fun p q h1 h2 h3 h4 h5=>h p q h1 h2 (by omega),fun q h1 h2=>by omega⟩
theorem ins_step {a i j:Nat} {l:List α} (h:Ins1 key a i j l) (hj:a < j) (hji:j ≤ i) (hl:i < l.length) (hk:ky key l j < ky key l (j - 1)):Ins1 key a i (j - 1) (swp l j (j - 1)):=by
 have e:=swp_ky key (l:=l) (i:=j) (j:=j - 1) (by omega) (by omega)
 refine ⟨fun p q h1 h2 h3 h4 h5=>?_,fun q h1 h2=>?_⟩
 · rw [e,e,if_neg (c:=p = j - 1) (by omega),if_neg (c:=q = j - 1) (by omega)]
   by_cases hp:p = j
   · subst hp;rw [if_pos rfl,if_neg (by omega)];exact h.up _ _ (by omega) (by omega) h3 (by omega) (by omega)
   · rw [if_neg hp]
     by_cases hq:q = j
     · subst hq;rw [if_pos rfl];exact h.up _ _ h1 (by omega) (by omega) (by omega) (by omega)
     · rw [if_neg hq];exact h.up _ _ h1 h2 h3 hp hq
 · rw [e,e,if_neg (c:=j - 1 = j) (by omega),if_pos rfl]
   by_cases hq:q = j
   · subst hq;rw [if_pos rfl];omega
   · rw [if_neg hq,if_neg (by omega)];exact h.lo q (by omega) h2
theorem ins_end {a i j:Nat} {l:List α} (h:Ins1 key a i j l) (hji:j ≤ i) (hj:j ≤ a ∨ ky key l (j - 1) ≤ ky key l j):Srt key a (i + 1) l:=fun p q h1 h2 h3=>by
 by_cases hp:p = j
 · subst hp;exact h.lo q h2 (by omega)
 · by_cases hq:q = j
   · subst hq
     rcases hj with hj | hj
     · omega
     · by_cases hp1:p = q - 1
       · rw [hp1];exact hj
       · have:=h.up p (q - 1) h1 (by omega) (by omega) hp (by omega)
         omega
   · exact h.up p q h1 h2 (by omega) hp hq
end
end Go.Azalai
namespace Go.Azalai
def swR (a b n:Nat) (K:Nat → Int):Nat → Int:=fun p=>if a ≤ p ∧ p < a + n then K (p + b - a) else if b ≤ p ∧ p < b + n then K (p + a - b) else K p
def rotT (a m b:Nat) (K:Nat → Int):Nat → Int:=fun p=>if a ≤ p ∧ p < a + (b - m) then K (p + (m - a)) else if a + (b - m) ≤ p ∧ p < b then K (p - (b - m)) else K p
theorem swR_0 (a b:Nat) (K:Nat → Int) (p:Nat):swR a b 0 K p = K p:=by
 unfold swR;rw [if_neg (by omega),if_neg (by omega)]
theorem swR_succ {a b n:Nat} {K:Nat → Int} (hab:a + n < b) (p:Nat):swR a b (n + 1) K p = if p = a + n then swR a b n K (b + n) else if p = b + n then swR a b n K (a + n) else swR a b n K p:=by
 unfold swR
 by_cases h1:p = a + n
 · subst h1
   rw [if_pos (by omega),if_pos rfl,if_neg (by omega),if_neg (by omega)];congr 1;omega
 · rw [if_neg h1]
   by_cases h2:p = b + n
   · subst h2
     rw [if_neg (by omega),if_pos (by omega),if_pos rfl,if_neg (by omega),if_neg (by omega)];congr 1;omega
   · rw [if_neg h2]
     by_cases h3:a ≤ p ∧ p < a + n
     · rw [if_pos (by omega),if_pos h3]
     · rw [if_neg (by omega),if_neg h3]
       by_cases h4:b ≤ p ∧ p < b + n
       · rw [if_pos (by omega),if_pos h4]
       · rw [if_neg (by omega),if_neg h4]
structure RotI (m i j:Nat) (K T:Nat → Int):Prop where
 out:∀ p,p < m - i ∨ m + j ≤ p → K p = T p
 x:∀ p,m - i ≤ p → p < m - i + j → T p = K (p + i)
 y:∀ p,m - i + j ≤ p → p < m + j → T p = K (p - j)
theorem rot_start {a m b:Nat} {K:Nat → Int} (h1:a ≤ m) (h2:m ≤ b):RotI m (m - a) (b - m) K (rotT a m b K):=by
 have e:m - (m - a) = a:=by omega
 refine ⟨fun p hp=>?_,fun p q1 q2=>?_,fun p q1 q2=>?_⟩ <;> unfold rotT <;> rw [e] at *
 · rw [if_neg (by omega),if_neg (by omega)]
 · rw [if_pos (by omega)]
 · rw [if_neg (by omega),if_pos (by omega)]
theorem rot_gt {m i j:Nat} {K T:Nat → Int} (h:RotI m i j K T) (hi:i ≤ m) (hj:0 < j) (hij:j < i):RotI m (i - j) j (swR (m - i) m j K) T:=by
 refine ⟨fun p hp=>?_,fun p q1 q2=>?_,fun p q1 q2=>?_⟩ <;> unfold swR
 · by_cases h1:m - i ≤ p ∧ p < m - i + j
   · rw [if_pos h1,h.x p h1.1 h1.2];congr 1;omega
   · rw [if_neg h1,if_neg (by omega)];exact h.out p (by omega)
 · rw [if_neg (by omega),if_pos (by omega),h.y p (by omega) (by omega)];congr 1;omega
 · rw [if_neg (by omega),if_neg (by omega),h.y p (by omega) (by omega)]
theorem rot_lt {m i j:Nat} {K T:Nat → Int} (h:RotI m i j K T) (hi:i ≤ m) (hi0:0 < i) (hij:i < j):RotI m i (j - i) (swR (m - i) (m + j - i) i K) T:=by
 refine ⟨fun p hp=>?_,fun p q1 q2=>?_,fun p q1 q2=>?_⟩ <;> unfold swR
 · by_cases h1:m + j - i ≤ p ∧ p < m + j
   · rw [if_neg (by omega),if_pos (by omega),h.y p (by omega) (by omega)];congr 1;omega
   · rw [if_neg (by omega),if_neg (by omega)];exact h.out p (by omega)
 · rw [if_neg (by omega),if_neg (by omega)];exact h.x p (by omega) (by omega)
 · rw [if_pos (by omega),h.x p (by omega) (by omega)];congr 1;omega
theorem rot_eq {m i:Nat} {K T:Nat → Int} (h:RotI m i i K T) (hi:i ≤ m) (p:Nat):swR (m - i) m i K p = T p:=by
 unfold swR
 by_cases h1:m - i ≤ p ∧ p < m - i + i
 · rw [if_pos h1,h.x p h1.1 h1.2];congr 1;omega
 · by_cases h2:m ≤ p ∧ p < m + i
   · rw [if_neg h1,if_pos h2,h.y p (by omega) (by omega)];congr 1;omega
   · rw [if_neg h1,if_neg h2];exact h.out p (by omega)
def SrtK (a b:Nat) (K:Nat → Int):Prop:=∀ i j,a ≤ i → i < j → j < b → K i ≤ K j
theorem SrtK.le {a b:Nat} {K:Nat → Int} (h:SrtK a b K) {i j:Nat} (h1:a ≤ i) (h2:i ≤ j) (h3:j < b):K i ≤ K j:=by
 rcases Nat.lt_or_ge i j with q | q
 · exact h i j h1 q h3
 · rw [show i = j from by omega];exact Int.le_refl _
structure Cut (a m b n s:Nat) (K:Nat → Int):Prop where
 s0:a ≤ s
 s1:s ≤ m
 e0:m + s ≤ n
 e1:n ≤ b + s
 mid:2 * (n - m) ≤ a + b ∧ a + b ≤ 2 * (n - m) + 1
 lo:a < s → n < b + s → K (s - 1) ≤ K (n - s)
 hi:s < m → m + s < n → K (n - s - 1) ≤ K s
theorem cut_ok {a m b n s:Nat} {K:Nat → Int} (h:Cut a m b n s K) (h1:SrtK a m K) (h2:SrtK m b K) :
 SrtK a s (rotT s m (n - s) K) ∧ SrtK s (n - m) (rotT s m (n - s) K) ∧ SrtK (n - m) (n - s) (rotT s m (n - s) K) ∧ SrtK (n - s) b (rotT s m (n - s) K) ∧
  ∀ i j,a ≤ i → i < n - m → n - m ≤ j → j < b → rotT s m (n - s) K i ≤ rotT s m (n - s) K j:=by
 obtain ⟨q1,q2,q3,q4,q5,q6,q7⟩:=h
 have e:s + (n - s - m) = n - m:=by omega
 have v1:∀ p,p < s → rotT s m (n - s) K p = K p:=fun p hp=>by unfold rotT;rw [if_neg (by omega),if_neg (by omega)]
 have v2:∀ p,s ≤ p → p < n - m → rotT s m (n - s) K p = K (p + (m - s)):=fun p g1 g2=>by unfold rotT;rw [if_pos (by omega)]
 have v3:∀ p,n - m ≤ p → p < n - s → rotT s m (n - s) K p = K (p - (n - s - m)):=fun p g1 g2=>by unfold rotT;rw [if_neg (by omega),if_pos (by omega)]
 have v4:∀ p,n - s ≤ p → rotT s m (n - s) K p = K p:=fun p g1=>by unfold rotT;rw [if_neg (by omega),if_neg (by omega)]
 refine ⟨fun i j g1 g2 g3=>?_,fun i j g1 g2 g3=>?_,fun i j g1 g2 g3=>?_,fun i j g1 g2 g3=>?_,fun i j g1 g2 g3 g4=>?_⟩
 · rw [v1 i (by omega),v1 j (by omega)];exact h1 i j g1 g2 (by omega)
 · rw [v2 i (by omega) (by omega),v2 j (by omega) (by omega)];exact h2 _ _ (by omega) (by omega) (by omega)
 · rw [v3 i (by omega) (by omega),v3 j (by omega) (by omega)];exact h1 _ _ (by omega) (by omega) (by omega)
 · rw [v4 i (by omega),v4 j (by omega)];exact h2 _ _ (by omega) g2 g3
 · by_cases hi:i < s
   · rw [v1 i hi]
     by_cases hj:j < n - s
     · rw [v3 j g3 hj];exact h1.le g1 (by omega) (by omega)
     · rw [v4 j (by omega)]
       exact Int.le_trans (h1.le g1 (j:=s - 1) (by omega) (by omega)) (Int.le_trans (q6 (by omega) (by omega)) (h2.le (i:=n - s) (by omega) (by omega) g4))
   · rw [v2 i (by omega) g2]
     by_cases hj:j < n - s
     · rw [v3 j g3 hj]
       exact Int.le_trans (h2.le (j:=n - s - 1) (by omega) (by omega) (by omega)) (Int.le_trans (q7 (by omega) (by omega)) (h1.le (i:=s) (by omega) (by omega) (by omega)))
     · rw [v4 j (by omega)];exact h2.le (by omega) (by omega) g4
end Go.Azalai
set_option maxRecDepth 100000
set_option maxHeartbeats 4000000
namespace Go.Azalai
structure Meet where
 a:Int
 b:Int
 day:Int
 close:Bool
deriving DecidableEq
end Go.Azalai
namespace Go.Proofs.Ytnlfjchbhgikaaa
open Go Go.Sx Go.Azalai
def meetL (m:Meet):List SV:=[I m.a,I m.b,I m.day,B m.close]
def rowO (v:Nat) (l:List Meet):Ot:=⟨false,.tup [],[(0,.row v 4 (l.map meetL) 73)],1⟩
theorem swr_ok (v a b n:Nat) (l:List Meet) (hab:a + n ≤ b) (hb:b + n ≤ l.length) (hL:l.length < 4611686018427387904) :
 CtM Try.prog 108 [(0,.row v 4 (l.map meetL) 73)] 1 [.mr 0 v,I a,I b,I n,.cl 81 []] (fun o=>∃ l',PIn a (b + n) l l' ∧ (∀ p,ky Meet.day l' p = swR a b n (ky Meet.day l) p) ∧ o = rowO v l'):=by
 refine m108 (by simp [hpb]) (fun o ho=>by obtain ⟨l',_,_,rfl⟩:=ho;simp [rowO,KX,KXL,KXP,KXH,KFR_iff,KFL,KF,meetL]) ?_
 dsimp only [c108,r108,go_sem,rA,rM,rS]
 refine loopO (fun s:Nat × List Meet=>[(10,I s.1)]) (fun s=>[(0,.row v 4 (s.2.map meetL) 73)]) (fun s=>s.1 ≤ n ∧ PIn a (b + n) l s.2 ∧ ∀ p,ky Meet.day s.2 p = swR a b s.1 (ky Meet.day l) p) (fun s=>n - s.1) (0,l) ⟨Nat.zero_le _,.refl _ _ _,fun p=>(swR_0 _ _ _ _).symm⟩ ?_ ?_
 · (refine ent_id ?_ ?_ ?_ rfl rfl <;> dsimp only [meetL,id,go_sem,rA,rM,rS] <;> simp [meetL,KFR_iff,KFR_app,KFR,KFL,KF,mtL_same,mtO,nbr])
 rintro ⟨j,l1⟩ ⟨hj,hp,hk⟩
 simp only at hj hp hk
 have hl1:=hp.len
 dsimp only [go_sem,rA,rM,rS]
 by_cases hlt:j < n
 · refine br_t (by simpa using hlt) ?_
   (repeat first | dsimp only [go_sem,rA,rM,rS] | simp only [nbr])
   simp (disch:=omega) only [w64_in,List.length_map]
   refine ixrm (b + j) (by omega) (by omega) ?_
   (repeat first | dsimp only [go_sem,rA,rM,rS] | simp only [nbr])
   refine ldrm (by omega) ?_
   (repeat first | dsimp only [meetL,go_sem,rA,rM,rS] | simp only [nbr])
   simp (disch:=omega) only [w64_in,List.length_map]
   refine ixrm (a + j) (by omega) (by omega) ?_
   (repeat first | dsimp only [go_sem,rA,rM,rS] | simp only [nbr])
   refine ldrm (by omega) ?_
   (repeat first | dsimp only [meetL,go_sem,rA,rM,rS] | simp only [nbr])
   refine ixrm (a + j) (by omega) (by simp;omega) ?_
   (repeat first | dsimp only [go_sem,rA,rM,rS] | simp only [nbr])
   refine strm l1[b + j] (by omega) (by simp [meetL]) (by simp [meetL,splice]) ?_
   (repeat first | dsimp only [go_sem,rA,rM,rS] | simp only [nbr])
   refine ixrm (b + j) (w64_in (by omega) (by omega)) (by simp;omega) ?_
   (repeat first | dsimp only [go_sem,rA,rM,rS] | simp only [nbr])
   refine strm l1[a + j] (by simp;omega) (by simp [meetL]) (by simp [meetL,splice]) ?_
   rw [← swp_eq (l:=l1) (i:=a + j) (j:=b + j) (by omega) (by omega)]
   (repeat first | dsimp only [go_sem,rA,rM,rS] | simp only [nbr])
   rw [w64_in (n:=(j:Int) + 1) (by omega) (by omega)]
   refine ⟨(j + 1,swp l1 (a + j) (b + j)),⟨hlt,hp.trans (.swap (by omega) (by omega) (by omega) (by omega) (by omega)),fun p=>?_⟩,by simp only;omega,?_⟩
   · rw [swp_ky Meet.day (by omega) (by omega),swR_succ (by omega),hk,hk,hk]
   (refine ent_id ?_ ?_ ?_ rfl rfl <;> dsimp only [meetL,id,go_sem,rA,rM,rS] <;> simp [meetL,KFR_iff,KFR_app,KFR,KFL,KF,mtL_same,mtO,nbr])
 refine br_f (by simp;omega) ?_
 dsimp only [go_sem,rA,rM,rS]
 refine ⟨_,⟨l1,hp,fun p=>by rw [hk p,show j = n from by omega],rfl⟩,?_⟩
 simp only [rowO]
 (refine entO_id ?_ ?_ ?_ rfl <;> dsimp only [meetL,id,go_sem,rA,rM,rS] <;> simp [meetL,KFR_iff,KFR_app,KFR,KFL,KF,mtL_same,mtO,nbr])
theorem rot_ok (v a m b:Nat) (l:List Meet) (ham:a < m) (hmb:m < b) (hb:b ≤ l.length) (hL:l.length < 4611686018427387904) :
 CtM Try.prog 107 [(0,.row v 4 (l.map meetL) 73)] 1 [.mr 0 v,I a,I m,I b,.cl 81 []] (fun o=>∃ l',PIn a b l l' ∧ (∀ p,ky Meet.day l' p = rotT a m b (ky Meet.day l) p) ∧ o = rowO v l'):=by
 refine m107 (by simp [hpb]) (fun o ho=>by obtain ⟨l',_,_,rfl⟩:=ho;simp [rowO,KX,KXL,KXP,KXH,KFR_iff,KFL,KF,meetL]) ?_
 dsimp only [c107,r107,go_sem,rA,rM,rS]
 rw [w64_in (n:=(m:Int) - (a:Int)) (by omega) (by omega),w64_in (n:=(b:Int) - (m:Int)) (by omega) (by omega),show (m:Int) - (a:Int) = ((m - a:Nat):Int) from by omega,show (b:Int) - (m:Int) = ((b - m:Nat):Int) from by omega]
 refine loopO (fun s:Nat × Nat × List Meet=>[(10,I s.1),(11,I s.2.1)]) (fun s=>[(0,.row v 4 (s.2.2.map meetL) 73)]) (fun s=>(0 < s.1 ∧ 0 < s.2.1 ∧ a + s.1 ≤ m ∧ m + s.2.1 ≤ b) ∧ PIn a b l s.2.2 ∧ RotI m s.1 s.2.1 (ky Meet.day s.2.2) (rotT a m b (ky Meet.day l))) (fun s=>s.1 + s.2.1) (m - a,b - m,l) ⟨by simp only;omega,.refl _ _ _,rot_start (by omega) (by omega)⟩ ?_ ?_
 · (refine ent_id ?_ ?_ ?_ rfl rfl <;> dsimp only [meetL,id,go_sem,rA,rM,rS] <;> simp [meetL,KFR_iff,KFR_app,KFR,KFL,KF,mtL_same,mtO,nbr])
 rintro ⟨i,j,l1⟩ ⟨⟨hi0,hj0,hi,hj⟩,hp,hk⟩
 simp only at hi0 hj0 hi hj hp hk
 have hl1:=hp.len
 dsimp only [go_sem,rA,rM,rS]
 by_cases hij:i = j
 case pos =>
  subst hij
  refine br_f (by simp) ?_
  dsimp only [go_sem,rA,rM,rS]
  rw [w64_in (n:=(m:Int) - (i:Int)) (by omega) (by omega),show (m:Int) - (i:Int) = ((m - i:Nat):Int) from by omega]
  refine callmP [0] (swr_ok v (m - i) m i l1 (by omega) (by omega) (by omega)) rfl rfl rfl ?_ ?_ ?_
  · (repeat first | dsimp only [go_sem,rA,rM,rS] | simp only [nbr])
    simp [mtL,mtB,mtS]
  · (repeat first | dsimp only [go_sem,rA,rM,rS] | simp only [nbr])
    simp [KFR_iff,meetL,KFL,KF]
  rintro _ ⟨l2,hp2,hk2,rfl⟩
  (repeat first | dsimp only [rowO,go_sem,rA,rM,rS] | simp only [nbr])
  refine ⟨_,⟨l2,hp.trans (hp2.mono (by omega) (by omega)),fun p=>by rw [hk2 p];exact rot_eq hk (by omega) p,rfl⟩,?_⟩
  (refine entO_id ?_ ?_ ?_ rfl <;> dsimp only [meetL,id,go_sem,rA,rM,rS] <;> simp [meetL,KFR_iff,KFR_app,KFR,KFL,KF,mtL_same,mtO,nbr])
 refine br_t (by simp;omega) ?_
 dsimp only [go_sem,rA,rM,rS]
 by_cases hgt:j < i
 · refine br_t (by simp;omega) ?_
   dsimp only [go_sem,rA,rM,rS]
   rw [w64_in (n:=(m:Int) - (i:Int)) (by omega) (by omega),show (m:Int) - (i:Int) = ((m - i:Nat):Int) from by omega]
   refine callmP [0] (swr_ok v (m - i) m j l1 (by omega) (by omega) (by omega)) rfl rfl rfl ?_ ?_ ?_
   · (repeat first | dsimp only [go_sem,rA,rM,rS] | simp only [nbr])
     simp [mtL,mtB,mtS]
   · (repeat first | dsimp only [go_sem,rA,rM,rS] | simp only [nbr])
     simp [KFR_iff,meetL,KFL,KF]
   rintro _ ⟨l2,hp2,hk2,rfl⟩
   (repeat first | dsimp only [rowO,go_sem,rA,rM,rS] | simp only [nbr])
   rw [w64_in (n:=(i:Int) - (j:Int)) (by omega) (by omega),show (i:Int) - (j:Int) = ((i - j:Nat):Int) from by omega]
   refine ⟨(i - j,j,l2),⟨by simp only;omega,hp.trans (hp2.mono (by omega) (by omega)),?_⟩,by simp only;omega,?_⟩
   · have:=rot_gt hk (by omega) hj0 hgt
     rwa [← show ky Meet.day l2 = swR (m - i) m j (ky Meet.day l1) from funext hk2] at this
   (refine ent_id ?_ ?_ ?_ rfl rfl <;> dsimp only [meetL,id,go_sem,rA,rM,rS] <;> simp [meetL,KFR_iff,KFR_app,KFR,KFL,KF,mtL_same,mtO,nbr])
 refine br_f (by simp;omega) ?_
 dsimp only [go_sem,rA,rM,rS]
 simp (disch:=omega) only [w64_in]
 rw [show (m:Int) - (i:Int) = ((m - i:Nat):Int) from by omega,show (m:Int) + (j:Int) - (i:Int) = ((m + j - i:Nat):Int) from by omega]
 refine callmP [0] (swr_ok v (m - i) (m + j - i) i l1 (by omega) (by omega) (by omega)) rfl rfl rfl ?_ ?_ ?_
 · (repeat first | dsimp only [go_sem,rA,rM,rS] | simp only [nbr])
   simp [mtL,mtB,mtS]
 · (repeat first | dsimp only [go_sem,rA,rM,rS] | simp only [nbr])
   simp [KFR_iff,meetL,KFL,KF]
 rintro _ ⟨l2,hp2,hk2,rfl⟩
 (repeat first | dsimp only [rowO,go_sem,rA,rM,rS] | simp only [nbr])
 rw [w64_in (n:=(j:Int) - (i:Int)) (by omega) (by omega),show (j:Int) - (i:Int) = ((j - i:Nat):Int) from by omega]
 refine ⟨(i,j - i,l2),⟨by simp only;omega,hp.trans (hp2.mono (by omega) (by omega)),?_⟩,by simp only;omega,?_⟩
 · have:=rot_lt hk (by omega) hi0 (by omega)
   rwa [← show ky Meet.day l2 = swR (m - i) (m + j - i) i (ky Meet.day l1) from funext hk2] at this
 (refine ent_id ?_ ?_ ?_ rfl rfl <;> dsimp only [meetL,id,go_sem,rA,rM,rS] <;> simp [meetL,KFR_iff,KFR_app,KFR,KFL,KF,mtL_same,mtO,nbr])
end Go.Proofs.Ytnlfjchbhgikaaa
set_option maxRecDepth 100000
set_option maxHeartbeats 4000000
namespace Go.Azalai
theorem ky_eq {α : Type} (key:α → Int) {l:List α} {i:Nat} (h:i < l.length):ky key l i = key l[i]:=by unfold ky;rw [List.getElem?_eq_getElem h]
def cmpZ (a b:Int):Int:=if a < b then -1 else if b < a then 1 else 0
end Go.Azalai
namespace Go.Proofs.Ytnlfjchbhgikaaa
open Go Go.Sx Go.Azalai
theorem nan_ok (a:Int):Ct Try.prog 99 [I a] (B false):=by
 refine t99 (by simp [KFL,KF]) (by simp [KFL,KF]) ?_
 dsimp only [c99,r99,go_sem,rA,rM,rS]
 simp
theorem cmp_ok (a b:Int):Ct Try.prog 82 [I a,I b] (I (cmpZ a b)):=by
 refine t82 (by simp [KFL,KF]) (by simp [KFL,KF]) ?_
 dsimp only [c82,r82,go_sem,rA,rM,rS]
 refine call (nan_ok a) ?_
 dsimp only [go_sem,rA,rM,rS]
 refine call (nan_ok b) ?_
 dsimp only [go_sem,rA,rM,rS]
 refine br_f rfl ?_
 dsimp only [go_sem,rA,rM,rS]
 refine br_f rfl ?_
 dsimp only [go_sem,rA,rM,rS]
 by_cases h1:a < b
 · refine br_t (by simpa using h1) ?_
   dsimp only [go_sem,rA,rM,rS]
   simp [cmpZ,h1]
 refine br_f (by simpa using h1) ?_
 dsimp only [go_sem,rA,rM,rS]
 by_cases h2:b < a
 · refine br_t (by simpa using h2) ?_
   dsimp only [go_sem,rA,rM,rS]
   simp [cmpZ,h1,h2]
 refine br_f (by simpa using h2) ?_
 dsimp only [go_sem,rA,rM,rS]
 simp [cmpZ,h1,h2]
theorem less_ok (x y:Meet):Ct Try.prog 81 [.agg (meetL x),.agg (meetL y)] (I (cmpZ x.day y.day)):=by
 refine t81 (by simp [meetL,KFL,KF]) (by simp [KFL,KF]) ?_
 dsimp only [c81,r81,meetL,go_sem,rA,rM,rS]
 refine call (cmp_ok x.day y.day) ?_
 dsimp only [go_sem,rA,rM,rS]
theorem inss_ok (v a b:Nat) (l:List Meet) (hab:a ≤ b) (hb:b ≤ l.length) (hL:l.length < 4611686018427387904) :
 CtM Try.prog 105 [(0,.row v 4 (l.map meetL) 73)] 1 [.mr 0 v,I a,I b,.cl 81 []] (fun o=>∃ l',PIn a b l l' ∧ Srt Meet.day a b l' ∧ o = rowO v l'):=by
 refine m105 (by simp [hpb]) (fun o ho=>by obtain ⟨l',_,_,rfl⟩:=ho;simp [rowO,KX,KXL,KXP,KXH,KFR_iff,KFL,KF,meetL]) ?_
 dsimp only [c105,r105,go_sem,rA,rM,rS]
 rw [w64_in (n:=(a:Int) + 1) (by omega) (by omega)]
 refine loopO (fun s:Nat × List Meet=>[(8,I (s.1:Nat))]) (fun s=>[(0,.row v 4 (s.2.map meetL) 73)]) (fun s=>(a < s.1 ∧ s.1 ≤ max b (a + 1)) ∧ PIn a b l s.2 ∧ Srt Meet.day a s.1 s.2) (fun s=>b - s.1) (a + 1,l) ⟨by simp only;omega,.refl _ _ _,fun i j h1 h2 h3=>by simp only at h3;omega⟩ ?_ ?_
 · (refine ent_id ?_ ?_ ?_ rfl rfl <;> dsimp only [meetL,id,go_sem,rA,rM,rS] <;> simp [meetL,KFR_iff,KFR_app,KFR,KFL,KF,mtL_same,mtO,nbr])
 rintro ⟨i,l1⟩ ⟨⟨hi0,hi⟩,hp,hs⟩
 simp only at hi0 hi hp hs
 have hl1:=hp.len
 dsimp only [go_sem,rA,rM,rS]
 by_cases hib:i < b
 case neg =>
  refine br_f (by simp;omega) ?_
  dsimp only [go_sem,rA,rM,rS]
  refine ⟨_,⟨l1,hp,fun p q g1 g2 g3=>hs p q g1 g2 (by omega),rfl⟩,?_⟩
  simp only [rowO]
  (refine entO_id ?_ ?_ ?_ rfl <;> dsimp only [meetL,id,go_sem,rA,rM,rS] <;> simp [meetL,KFR_iff,KFR_app,KFR,KFL,KF,mtL_same,mtO,nbr])
 refine br_t (by simpa using hib) ?_
 dsimp only [go_sem,rA,rM,rS]
 refine loopO (fun s:Nat × List Meet=>[(9,I (s.1:Nat))]) (fun s=>[(0,.row v 4 (s.2.map meetL) 73)]) (fun s=>(a ≤ s.1 ∧ s.1 ≤ i) ∧ PIn a b l s.2 ∧ Ins1 Meet.day a i s.1 s.2) (fun s=>s.1) (i,l1) ⟨by simp only;omega,hp,ins_start Meet.day hs⟩ ?_ ?_
 · (refine ent_id ?_ ?_ ?_ rfl rfl <;> dsimp only [meetL,id,go_sem,rA,rM,rS] <;> simp [meetL,KFR_iff,KFR_app,KFR,KFL,KF,mtL_same,mtO,nbr])
 rintro ⟨j,l2⟩ ⟨⟨hj0,hj⟩,hp2,hs2⟩
 simp only at hj0 hj hp2 hs2
 have hl2:=hp2.len
 dsimp only [go_sem,rA,rM,rS]
 by_cases hja:a < j
 case neg =>
  rw [show decide ((j:Int) > (a:Int)) = false from by simp;omega]
  repeat (refine gb ?_;(repeat first | dsimp only [go_sem,rA,rM,rS] | simp only [nbr]))
  refine ixrm_v 0 rfl (fun h=>by cases h) ?_
  (repeat first | dsimp only [go_sem,rA,rM,rS] | simp only [nbr])
  refine gb ?_
  (repeat first | dsimp only [go_sem,rA,rM,rS] | simp only [nbr])
  refine ⟨meetL ⟨0,0,0,false⟩,imp_v rfl (fun h=>by cases h),?_⟩
  (repeat first | dsimp only [meetL,go_sem,rA,rM,rS] | simp only [nbr])
  repeat (refine gb ?_;(repeat first | dsimp only [go_sem,rA,rM,rS] | simp only [nbr]))
  refine ixrm_v 0 rfl (fun h=>by cases h) ?_
  (repeat first | dsimp only [go_sem,rA,rM,rS] | simp only [nbr])
  refine gb ?_
  (repeat first | dsimp only [go_sem,rA,rM,rS] | simp only [nbr])
  refine ⟨meetL ⟨0,0,0,false⟩,imp_v rfl (fun h=>by cases h),?_⟩
  (repeat first | dsimp only [meetL,go_sem,rA,rM,rS] | simp only [nbr])
  refine gb ?_
  (repeat first | dsimp only [go_sem,rA,rM,rS] | simp only [nbr])
  refine call (less_ok ⟨0,0,0,false⟩ ⟨0,0,0,false⟩) ?_
  (repeat first | dsimp only [go_sem,rA,rM,rS] | simp only [nbr])
  refine gb ?_
  (repeat first | dsimp only [go_sem,rA,rM,rS] | simp only [nbr])
  refine br_f rfl ?_
  (repeat first | dsimp only [go_sem,rA,rM,rS] | simp only [nbr])
  rw [w64_in (n:=(i:Int) + 1) (by omega) (by omega)]
  refine ⟨(i + 1,l2),⟨by simp only;omega,hp2,ins_end Meet.day hs2 hj (.inl (by omega))⟩,by simp only;omega,?_⟩
  (refine ent_id ?_ ?_ ?_ rfl rfl <;> dsimp only [meetL,id,go_sem,rA,rM,rS] <;> simp [meetL,KFR_iff,KFR_app,KFR,KFL,KF,mtL_same,mtO,nbr])
 rw [show decide ((j:Int) > (a:Int)) = true from by simp;omega]
 repeat (refine .inl ⟨rfl,?_⟩;(repeat first | dsimp only [go_sem,rA,rM,rS] | simp only [nbr]))
 refine ixrm j rfl (by simp;omega) ?_
 (repeat first | dsimp only [go_sem,rA,rM,rS] | simp only [nbr])
 refine .inl ⟨rfl,?_⟩
 (repeat first | dsimp only [go_sem,rA,rM,rS] | simp only [nbr])
 refine ldrm (by omega) ?_
 (repeat first | dsimp only [meetL,go_sem,rA,rM,rS] | simp only [nbr])
 repeat (refine .inl ⟨rfl,?_⟩;(repeat first | dsimp only [go_sem,rA,rM,rS] | simp only [nbr]))
 rw [w64_in (n:=(j:Int) - 1) (by omega) (by omega)]
 refine ixrm (j - 1) (by omega) (by simp;omega) ?_
 (repeat first | dsimp only [go_sem,rA,rM,rS] | simp only [nbr])
 refine .inl ⟨rfl,?_⟩
 (repeat first | dsimp only [go_sem,rA,rM,rS] | simp only [nbr])
 refine ldrm (by omega) ?_
 (repeat first | dsimp only [meetL,go_sem,rA,rM,rS] | simp only [nbr])
 repeat (refine .inl ⟨rfl,?_⟩;(repeat first | dsimp only [go_sem,rA,rM,rS] | simp only [nbr]))
 refine call (less_ok l2[j] l2[j - 1]) ?_
 (repeat first | dsimp only [go_sem,rA,rM,rS] | simp only [nbr])
 repeat (refine .inl ⟨rfl,?_⟩;(repeat first | dsimp only [go_sem,rA,rM,rS] | simp only [nbr]))
 by_cases hlt:l2[j].day < l2[j - 1].day
 case neg =>
  refine br_f (by simp [cmpZ,hlt];split <;> decide) ?_
  (repeat first | dsimp only [go_sem,rA,rM,rS] | simp only [nbr])
  have hkk:ky Meet.day l2 (j - 1) ≤ ky Meet.day l2 j:=by rw [ky_eq Meet.day (l:=l2) (i:=j - 1) (by omega),ky_eq Meet.day (l:=l2) (i:=j) (by omega)];exact Int.not_lt.1 hlt
  rw [w64_in (n:=(i:Int) + 1) (by omega) (by omega)]
  refine ⟨(i + 1,l2),⟨by simp only;omega,hp2,ins_end Meet.day hs2 hj (.inr hkk)⟩,by simp only;omega,?_⟩
  (refine ent_id ?_ ?_ ?_ rfl rfl <;> dsimp only [meetL,id,go_sem,rA,rM,rS] <;> simp [meetL,KFR_iff,KFR_app,KFR,KFL,KF,mtL_same,mtO,nbr])
 refine br_t (by simp [cmpZ,hlt]) ?_
 (repeat first | dsimp only [go_sem,rA,rM,rS] | simp only [nbr])
 have hkk:ky Meet.day l2 j < ky Meet.day l2 (j - 1):=by rw [ky_eq Meet.day (l:=l2) (i:=j - 1) (by omega),ky_eq Meet.day (l:=l2) (i:=j) (by omega)];exact hlt
 rw [w64_in (n:=(j:Int) - 1) (by omega) (by omega)]
 refine ixrm (j - 1) (by omega) (by simp;omega) ?_
 (repeat first | dsimp only [go_sem,rA,rM,rS] | simp only [nbr])
 refine ldrm (by omega) ?_
 (repeat first | dsimp only [meetL,go_sem,rA,rM,rS] | simp only [nbr])
 refine ixrm j rfl (by simp;omega) ?_
 (repeat first | dsimp only [go_sem,rA,rM,rS] | simp only [nbr])
 refine ldrm (by omega) ?_
 (repeat first | dsimp only [meetL,go_sem,rA,rM,rS] | simp only [nbr])
 refine ixrm j rfl (by simp;omega) ?_
 (repeat first | dsimp only [go_sem,rA,rM,rS] | simp only [nbr])
 refine strm l2[j - 1] (by omega) (by simp [meetL]) (by simp [meetL,splice]) ?_
 (repeat first | dsimp only [go_sem,rA,rM,rS] | simp only [nbr])
 refine ixrm (j - 1) (by first | omega | (rw [w64_in (by omega) (by omega)];omega)) (by simp;omega) ?_
 (repeat first | dsimp only [go_sem,rA,rM,rS] | simp only [nbr])
 refine strm l2[j] (by simp;omega) (by simp [meetL]) (by simp [meetL,splice]) ?_
 rw [← swp_eq (l:=l2) (i:=j) (j:=j - 1) (by omega) (by omega)]
 (repeat first | dsimp only [go_sem,rA,rM,rS] | simp only [nbr])
 try rw [w64_in (n:=(j:Int) - 1) (by omega) (by omega)]
 rw [show (j:Int) - 1 = ((j - 1:Nat):Int) from by omega]
 refine ⟨(j - 1,swp l2 j (j - 1)),⟨by simp only;omega,hp2.trans (.swap (by omega) (by omega) (by omega) (by omega) (by omega)),ins_step Meet.day hs2 hja hj (by omega) hkk⟩,by simp only;omega,?_⟩
 (refine ent_id ?_ ?_ ?_ rfl rfl <;> dsimp only [meetL,id,go_sem,rA,rM,rS] <;> simp [meetL,KFR_iff,KFR_app,KFR,KFL,KF,mtL_same,mtO,nbr])
end Go.Proofs.Ytnlfjchbhgikaaa
namespace Go.Azalai
structure Srch (p s0 r0 s r:Nat) (K:Nat → Int):Prop where
 lo:∀ c,s0 ≤ c → c < s → K c ≤ K (p - c)
 hi:∀ c,r ≤ c → c < r0 → K (p - c) < K c
theorem srch_start (p s0 r0:Nat) (K:Nat → Int):Srch p s0 r0 s0 r0 K:=⟨fun c h1 h2=>by omega,fun c h1 h2=>by omega⟩
theorem srch_up {a m b p s0 r0 s r c:Nat} {K:Nat → Int} (h:Srch p s0 r0 s r K) (h1:SrtK a m K) (h2:SrtK m b K) (ha:a ≤ s0) (hr:r0 ≤ m) (hp:∀ c,s0 ≤ c → c < r0 → m ≤ p - c ∧ p - c < b) (hc:s ≤ c) (hcr:c < r) (hrr:r ≤ r0) (hk:K c ≤ K (p - c)) (hs:s0 ≤ s):Srch p s0 r0 (c + 1) r K:=by
 refine ⟨fun c' g1 g2=>?_,h.hi⟩
 have q1:=hp c' g1 (by omega)
 have q2:=hp c (by omega) (by omega)
 exact Int.le_trans (h1.le (by omega) (show c' ≤ c by omega) (by omega)) (Int.le_trans hk (h2.le (by omega) (by omega) (by omega)))
theorem srch_down {a m b p s0 r0 s r c:Nat} {K:Nat → Int} (h:Srch p s0 r0 s r K) (h1:SrtK a m K) (h2:SrtK m b K) (ha:a ≤ s0) (hr:r0 ≤ m) (hp:∀ c,s0 ≤ c → c < r0 → m ≤ p - c ∧ p - c < b) (hc:s ≤ c) (hcr:c < r) (hrr:r ≤ r0) (hk:K (p - c) < K c) (hs:s0 ≤ s):Srch p s0 r0 s c K:=by
 refine ⟨h.lo,fun c' g1 g2=>?_⟩
 have q1:=hp c' (by omega) g2
 have q2:=hp c (by omega) (by omega)
 have e1:=h2.le (i:=p - c') (j:=p - c) (by omega) (by omega) (by omega)
 have e2:=h1.le (i:=c) (j:=c') (by omega) (by omega) (by omega)
 omega
theorem cut_of {a m b mid s:Nat} {K:Nat → Int} (ham:a < m) (hmb:m < b) (h1:2 * mid ≤ a + b) (h2:a + b ≤ 2 * mid + 1) (s0 r0:Nat) (hs0:s0 = if m > mid then mid + m - b else a) (hr0:r0 = if m > mid then mid else m)
 (hs:s0 ≤ s) (hr:s ≤ r0) (h:Srch (mid + m - 1) s0 r0 s s K):Cut a m b (mid + m) s K:=by
 by_cases hm:m > mid
 · rw [if_pos hm] at hs0 hr0
   subst hs0;subst hr0
   refine ⟨by omega,by omega,by omega,by omega,by omega,fun g1 g2=>?_,fun g1 g2=>?_⟩
   · have:=h.lo (s - 1) (by omega) (by omega)
     rwa [show r0 + m - 1 - (s - 1) = r0 + m - s from by omega] at this
   · have:=h.hi s (Nat.le_refl _) (by omega)
     rw [show r0 + m - 1 - s = r0 + m - s - 1 from by omega] at this
     exact Int.le_of_lt this
 · rw [if_neg hm] at hs0 hr0
   subst hs0;subst hr0
   refine ⟨by omega,by omega,by omega,by omega,by omega,fun g1 g2=>?_,fun g1 g2=>?_⟩
   · have:=h.lo (s - 1) (by omega) (by omega)
     rwa [show mid + r0 - 1 - (s - 1) = mid + r0 - s from by omega] at this
   · have:=h.hi s (Nat.le_refl _) (by omega)
     rw [show mid + r0 - 1 - s = mid + r0 - s - 1 from by omega] at this
     exact Int.le_of_lt this
end Go.Azalai
namespace Go.Azalai
section
variable {α : Type} (key:α → Int)
structure Cutd (a i mid e b:Nat) (l:List α):Prop where
 o1:a ≤ i
 o2:i ≤ mid
 o3:mid ≤ e
 o4:e ≤ b
 s1:Srt key a i l
 s2:Srt key i mid l
 s3:Srt key mid e l
 s4:Srt key e b l
 x:∀ p q,a ≤ p → p < mid → mid ≤ q → q < b → ky key l p ≤ ky key l q
structure CutL (a mid e b:Nat) (l:List α):Prop where
 o1:a ≤ mid
 o3:mid ≤ e
 o4:e ≤ b
 s1:Srt key a mid l
 s3:Srt key mid e l
 s4:Srt key e b l
 x:∀ p q,a ≤ p → p < mid → mid ≤ q → q < b → ky key l p ≤ ky key l q
theorem cutd_rot {a m b mid i:Nat} {l l1:List α} (h:Cut a m b (mid + m) i (ky key l)) (h1:Srt key a m l) (h2:Srt key m b l) (hk:∀ p,ky key l1 p = rotT i m (mid + m - i) (ky key l) p):Cutd key a i mid (mid + m - i) b l1:=by
 have e:=cut_ok h h1 h2
 rw [show mid + m - m = mid from by omega] at e
 obtain ⟨q0,q1,q2,q3,q4,q5,q6⟩:=h
 have ek:ky key l1 = rotT i m (mid + m - i) (ky key l):=funext hk
 refine ⟨by omega,by omega,by omega,by omega,?_,?_,?_,?_,?_⟩ <;> (try unfold Srt) <;> rw [ek]
 · exact e.1
 · exact e.2.1
 · exact e.2.2.1
 · exact e.2.2.2.1
 · exact e.2.2.2.2
theorem cutd_no {a m b mid i:Nat} {l:List α} (h:Cut a m b (mid + m) i (ky key l)) (h1:Srt key a m l) (h2:Srt key m b l) (hn:¬ (i < m ∧ m < mid + m - i)):Cutd key a i mid (mid + m - i) b l:=by
 refine cutd_rot key h h1 h2 fun p=>?_
 obtain ⟨q0,q1,q2,q3,q4,q5,q6⟩:=h
 unfold rotT
 by_cases c1:i ≤ p ∧ p < i + (mid + m - i - m)
 · rw [if_pos c1];congr 1;omega
 · rw [if_neg c1]
   by_cases c2:i + (mid + m - i - m) ≤ p ∧ p < mid + m - i
   · rw [if_pos c2];congr 1;omega
   · rw [if_neg c2]
theorem cutl_rec {a i mid e b:Nat} {l l2:List α} (h:Cutd key a i mid e b l) (hp:PIn a mid l l2) (hs:Srt key a mid l2) (hb:b ≤ l.length):CutL key a mid e b l2:=by
 obtain ⟨o1,o2,o3,o4,s1,s2,s3,s4,x⟩:=h
 have ke:∀ q,mid ≤ q → ky key l2 q = ky key l q:=fun q hq=>hp.ky key (.inr hq)
 refine ⟨by omega,o3,o4,hs,fun p q g1 g2 g3=>?_,fun p q g1 g2 g3=>?_,fun p q g1 g2 g3 g4=>?_⟩
 · rw [ke p g1,ke q (by omega)];exact s3 p q g1 g2 g3
 · rw [ke p (by omega),ke q (by omega)];exact s4 p q g1 g2 g3
 · rw [ke q g3]
   exact hp.kall key (by omega) (fun k=>k ≤ ky key l q) (fun p q1 q2=>x p q q1 q2 g3 g4) p g1 g2
theorem cutl_no {a i mid e b:Nat} {l:List α} (h:Cutd key a i mid e b l) (hn:¬ (a < i ∧ i < mid)):CutL key a mid e b l:=by
 obtain ⟨o1,o2,o3,o4,s1,s2,s3,s4,x⟩:=h
 refine ⟨by omega,o3,o4,fun p q g1 g2 g3=>?_,s3,s4,x⟩
 by_cases hq:a < i
 · exact s1 p q g1 g2 (by omega)
 · exact s2 p q (by omega) g2 g3
theorem cut_rec {a mid e b:Nat} {l l2:List α} (h:CutL key a mid e b l) (hp:PIn mid b l l2) (hs:Srt key mid b l2) (hb:b ≤ l.length):Srt key a b l2:=by
 obtain ⟨o1,o3,o4,s1,s3,s4,x⟩:=h
 have ke:∀ q,q < mid → ky key l2 q = ky key l q:=fun q hq=>hp.ky key (.inl hq)
 refine Srt.join key (c:=mid) (fun p q g1 g2 g3=>?_) hs (fun p q g1 g2 g3 g4=>?_)
 · rw [ke p (by omega),ke q g3];exact s1 p q g1 g2 g3
 · rw [ke p g2]
   exact hp.kall key hb (fun k=>ky key l p ≤ k) (fun q q1 q2=>x p q g1 g2 q1 q2) q g3 g4
theorem cut_no {a mid e b:Nat} {l:List α} (h:CutL key a mid e b l) (hn:¬ (mid < e ∧ e < b)):Srt key a b l:=by
 obtain ⟨o1,o3,o4,s1,s3,s4,x⟩:=h
 refine Srt.join key (c:=mid) s1 (fun p q g1 g2 g3=>?_) x
 by_cases hq:mid < e
 · exact s3 p q g1 g2 (by omega)
 · exact s4 p q (by omega) g2 g3
end
end Go.Azalai
set_option maxRecDepth 100000
set_option maxHeartbeats 4000000
namespace Go.Proofs.Ytnlfjchbhgikaaa
open Go Go.Sx Go.Azalai
theorem uwn {n:Int} (h0:0 ≤ n) (h1:n < 18446744073709551616):IntKind.u64.wrap n = n:=by
 have e:n % 2 ^ IntKind.u64.bits = n:=Int.emod_eq_of_lt h0 (by show n < 2 ^ 64;omega)
 simp only [IntKind.wrap,e,show IntKind.u64.signed = false from rfl,Bool.false_and]
 rfl
theorem half_run (m:Int) (q0:0 ≤ m) (w:World):(binOp .shr 153 (.int .u64 m) (.int .u64 1)).run Try.prog w = .ok (.int .u64 (m / 2)) w:=by
 simp only [binOp,Op.shift]
 rw [if_neg (by decide)]
 have:m.fdiv (2 ^ 1) = m / 2:=by rw [Int.fdiv_eq_ediv_of_nonneg _ (by decide)];rfl
 show Result.ok (Value.int .u64 (m.fdiv (2 ^ (min (1:Int).toNat IntKind.u64.bits)))) w = _
 rw [show min (1:Int).toNat IntKind.u64.bits = 1 from by decide,this]
theorem sym_ok (v N:Nat):∀ (a m b:Nat) (l:List Meet),b - a ≤ N → a < m → m < b → b ≤ l.length → l.length < 4611686018427387904 → Srt Meet.day a m l → Srt Meet.day m b l →
 CtM Try.prog 106 [(0,.row v 4 (l.map meetL) 73)] 1 [.mr 0 v,I a,I m,I b,.cl 81 []] (fun o=>∃ l',PIn a b l l' ∧ Srt Meet.day a b l' ∧ o = rowO v l'):=by
 induction N with
 | zero=>intro a m b l h1 h2 h3;omega
 | succ N ih =>
 intro a m b l hN ham hmb hb hL hs1 hs2
 refine m106 (by simp [hpb]) (fun o ho=>by obtain ⟨l',_,_,rfl⟩:=ho;simp [rowO,KX,KXL,KXP,KXH,KFR_iff,KFL,KF,meetL]) ?_
 dsimp only [c106,r106,go_sem,rA,rM,rS]
 rw [w64_in (n:=(m:Int) - (a:Int)) (by omega) (by omega)]
 by_cases hm1:m = a + 1
 · refine br_t (by simp;omega) ?_
   dsimp only [go_sem,rA,rM,rS]
   refine loopO (fun s:Nat × Nat=>[(10,I (s.1:Nat)),(11,I (s.2:Nat))]) (fun _=>[]) (fun s=>m ≤ s.1 ∧ s.1 ≤ s.2 ∧ s.2 ≤ b ∧ (∀ c,m ≤ c → c < s.1 → ky Meet.day l c < ky Meet.day l a) ∧ ∀ c,s.2 ≤ c → c < b → ky Meet.day l a ≤ ky Meet.day l c) (fun s=>s.2 - s.1) (m,b) ⟨Nat.le_refl _,by simp only;omega,Nat.le_refl _,fun c h1 h2=>by simp only at h2;omega,fun c h1 h2=>by simp only at h1;omega⟩ ?_ ?_
   · (refine ent_id ?_ ?_ ?_ rfl rfl <;> dsimp only [meetL,id,go_sem,rA,rM,rS] <;> simp [meetL,KFR_iff,KFR_app,KFR,KFL,KF,mtL_same,mtO,nbr])
   rintro ⟨i,j⟩ ⟨hi,hij,hj,hlo,hhi⟩
   simp only at hi hij hj hlo hhi
   dsimp only [go_sem,rA,rM,rS]
   by_cases hlt:i < j
   · refine br_t (by simpa using hlt) ?_
     dsimp only [go_sem,rA,rM,rS]
     simp (disch:=omega) only [w64_in]
     rw [uwn (by omega) (by omega)]
     refine raw_bin rfl (.inr rfl) (half_run _ (by omega)) rfl ?_
     dsimp only [go_sem,rA,rM,rS]
     obtain ⟨h,hh⟩:∃ h:Nat,((i:Int) + (j:Int)) / 2 = (h:Int):=⟨(i + j) / 2,by omega⟩
     rw [hh,w64_in (n:=(h:Int)) (by omega) (by omega)]
     have hih:i ≤ h ∧ h < j:=by omega
     (repeat first | dsimp only [go_sem,rA,rM,rS] | simp only [nbr])
     refine ixrm h rfl (by simp;omega) ?_
     (repeat first | dsimp only [go_sem,rA,rM,rS] | simp only [nbr])
     refine ldrm (by omega) ?_
     (repeat first | dsimp only [meetL,go_sem,rA,rM,rS] | simp only [nbr])
     refine ixrm a rfl (by simp;omega) ?_
     (repeat first | dsimp only [go_sem,rA,rM,rS] | simp only [nbr])
     refine ldrm (by omega) ?_
     (repeat first | dsimp only [meetL,go_sem,rA,rM,rS] | simp only [nbr])
     refine call (less_ok l[h] l[a]) ?_
     (repeat first | dsimp only [go_sem,rA,rM,rS] | simp only [nbr])
     by_cases hk:l[h].day < l[a].day
     · refine br_t (by simp [cmpZ,hk]) ?_
       dsimp only [go_sem,rA,rM,rS]
       rw [w64_in (n:=(h:Int) + 1) (by omega) (by omega)]
       have hkk:ky Meet.day l h < ky Meet.day l a:=by rw [ky_eq Meet.day (l:=l) (i:=h) (by omega),ky_eq Meet.day (l:=l) (i:=a) (by omega)];exact hk
       refine ⟨(h + 1,j),⟨by simp only;omega,by simp only;omega,hj,fun c g1 g2=>?_,hhi⟩,by simp only;omega,?_⟩
       · have:=hs2.le Meet.day g1 (show c ≤ h by simp only at g2;omega) (by omega);omega
       (refine ent_id ?_ ?_ ?_ rfl rfl <;> dsimp only [meetL,id,go_sem,rA,rM,rS] <;> simp [meetL,KFR_iff,KFR_app,KFR,KFL,KF,mtL_same,mtO,nbr])
     · refine br_f (by simp [cmpZ,hk];split <;> decide) ?_
       dsimp only [go_sem,rA,rM,rS]
       have hkk:ky Meet.day l a ≤ ky Meet.day l h:=by rw [ky_eq Meet.day (l:=l) (i:=h) (by omega),ky_eq Meet.day (l:=l) (i:=a) (by omega)];exact Int.not_lt.1 hk
       refine ⟨(i,h),⟨hi,by simp only;omega,by simp only;omega,hlo,fun c g1 g2=>?_⟩,by simp only;omega,?_⟩
       · have:=hs2.le Meet.day (show m ≤ h by omega) g1 g2;omega
       (refine ent_id ?_ ?_ ?_ rfl rfl <;> dsimp only [meetL,id,go_sem,rA,rM,rS] <;> simp [meetL,KFR_iff,KFR_app,KFR,KFL,KF,mtL_same,mtO,nbr])
   refine br_f (by simp;omega) ?_
   dsimp only [go_sem,rA,rM,rS]
   have hij':i = j:=by omega
   subst hij'
   refine loopO (fun s:Nat × List Meet=>[(13,I (s.1:Nat))]) (fun s=>[(0,.row v 4 (s.2.map meetL) 73)]) (fun s=>(a ≤ s.1 ∧ s.1 ≤ i - 1) ∧ PIn a b l s.2 ∧ ∀ p,ky Meet.day s.2 p = if a ≤ p ∧ p < s.1 then ky Meet.day l (p + 1) else if p = s.1 then ky Meet.day l a else ky Meet.day l p) (fun s=>i - s.1) (a,l) ⟨by simp only;omega,.refl _ _ _,fun p=>by
    simp only
    rw [if_neg (by omega)]
    split
    · rename_i h;rw [h]
    · rfl⟩ ?_ ?_
   · (refine ent_id ?_ ?_ ?_ rfl rfl <;> dsimp only [meetL,id,go_sem,rA,rM,rS] <;> simp [meetL,KFR_iff,KFR_app,KFR,KFL,KF,mtL_same,mtO,nbr])
   rintro ⟨k,l1⟩ ⟨⟨hk0,hk⟩,hp,hky⟩
   simp only at hk0 hk hp hky
   have hl1:=hp.len
   dsimp only [go_sem,rA,rM,rS]
   rw [w64_in (n:=(i:Int) - 1) (by omega) (by omega)]
   by_cases hlt:k < i - 1
   · refine br_t (by simp;omega) ?_
     (repeat first | dsimp only [go_sem,rA,rM,rS] | simp only [nbr])
     rw [w64_in (n:=(k:Int) + 1) (by omega) (by omega)]
     refine ixrm (k + 1) (by omega) (by simp;omega) ?_
     (repeat first | dsimp only [go_sem,rA,rM,rS] | simp only [nbr])
     refine ldrm (by omega) ?_
     (repeat first | dsimp only [meetL,go_sem,rA,rM,rS] | simp only [nbr])
     refine ixrm k rfl (by simp;omega) ?_
     (repeat first | dsimp only [go_sem,rA,rM,rS] | simp only [nbr])
     refine ldrm (by omega) ?_
     (repeat first | dsimp only [meetL,go_sem,rA,rM,rS] | simp only [nbr])
     refine ixrm k rfl (by simp;omega) ?_
     (repeat first | dsimp only [go_sem,rA,rM,rS] | simp only [nbr])
     refine strm l1[k + 1] (by omega) (by simp [meetL]) (by simp [meetL,splice]) ?_
     (repeat first | dsimp only [go_sem,rA,rM,rS] | simp only [nbr])
     refine ixrm (k + 1) (by first | omega | (rw [w64_in (by omega) (by omega)];omega)) (by simp;omega) ?_
     (repeat first | dsimp only [go_sem,rA,rM,rS] | simp only [nbr])
     refine strm l1[k] (by simp;omega) (by simp [meetL]) (by simp [meetL,splice]) ?_
     rw [← swp_eq (l:=l1) (i:=k) (j:=k + 1) (by omega) (by omega)]
     (repeat first | dsimp only [go_sem,rA,rM,rS] | simp only [nbr])
     try rw [w64_in (n:=(k:Int) + 1) (by omega) (by omega)]
     rw [show (k:Int) + 1 = ((k + 1:Nat):Int) from by omega]
     refine ⟨(k + 1,swp l1 k (k + 1)),⟨by simp only;omega,hp.trans (.swap (by omega) (by omega) (by omega) (by omega) (by omega)),fun p=>?_⟩,by simp only;omega,?_⟩
     · simp only
       rw [swp_ky Meet.day (by omega) (by omega),hky,hky,hky]
       by_cases h1:p = k
       · subst h1
         rw [if_pos rfl,if_neg (by omega),if_neg (by omega),if_pos (by omega)]
       · rw [if_neg h1]
         by_cases h2:p = k + 1
         · subst h2
           rw [if_pos rfl,if_neg (by omega),if_pos rfl,if_neg (by omega),if_pos rfl]
         · rw [if_neg h2,if_neg h2]
           by_cases h3:a ≤ p ∧ p < k
           · rw [if_pos h3,if_pos (by omega)]
           · rw [if_neg h3,if_neg h1,if_neg (by omega)]
     (refine ent_id ?_ ?_ ?_ rfl rfl <;> dsimp only [meetL,id,go_sem,rA,rM,rS] <;> simp [meetL,KFR_iff,KFR_app,KFR,KFL,KF,mtL_same,mtO,nbr])
   refine br_f (by simp;omega) ?_
   dsimp only [go_sem,rA,rM,rS]
   have hki:k = i - 1:=by omega
   refine ⟨_,⟨l1,hp,fun p q g1 g2 g3=>?_,rfl⟩,?_⟩
   · rw [hky,hky]
     by_cases h1:p < k
     · rw [if_pos (by omega)]
       by_cases h2:q < k
       · rw [if_pos (by omega)];exact hs2 _ _ (by omega) (by omega) (by omega)
       · rw [if_neg (by omega)]
         by_cases h3:q = k
         · rw [if_pos h3];exact Int.le_of_lt (hlo _ (by omega) (by omega))
         · rw [if_neg h3];exact hs2 _ _ (by omega) (by omega) (by omega)
     · rw [if_neg (by omega),if_neg (c:=a ≤ q ∧ q < k) (by omega),if_neg (c:=q = k) (by omega)]
       by_cases h3:p = k
       · rw [if_pos h3];exact hhi _ (by omega) (by omega)
       · rw [if_neg h3];exact hs2 _ _ (by omega) (by omega) (by omega)
   · simp only [rowO]
     (refine entO_id ?_ ?_ ?_ rfl <;> dsimp only [meetL,id,go_sem,rA,rM,rS] <;> simp [meetL,KFR_iff,KFR_app,KFR,KFL,KF,mtL_same,mtO,nbr])
 refine br_f (by simp;omega) ?_
 dsimp only [go_sem,rA,rM,rS]
 rw [w64_in (n:=(b:Int) - (m:Int)) (by omega) (by omega)]
 by_cases hb1:b = m + 1
 · refine br_t (by simp;omega) ?_
   dsimp only [go_sem,rA,rM,rS]
   refine loopO (fun s:Nat × Nat=>[(14,I (s.1:Nat)),(15,I (s.2:Nat))]) (fun _=>[]) (fun s=>a ≤ s.1 ∧ s.1 ≤ s.2 ∧ s.2 ≤ m ∧ (∀ c,a ≤ c → c < s.1 → ky Meet.day l c ≤ ky Meet.day l m) ∧ ∀ c,s.2 ≤ c → c < m → ky Meet.day l m < ky Meet.day l c) (fun s=>s.2 - s.1) (a,m) ⟨Nat.le_refl _,by simp only;omega,Nat.le_refl _,fun c h1 h2=>by simp only at h2;omega,fun c h1 h2=>by simp only at h1;omega⟩ ?_ ?_
   · (refine ent_id ?_ ?_ ?_ rfl rfl <;> dsimp only [meetL,id,go_sem,rA,rM,rS] <;> simp [meetL,KFR_iff,KFR_app,KFR,KFL,KF,mtL_same,mtO,nbr])
   rintro ⟨i,j⟩ ⟨hi,hij,hj,hlo,hhi⟩
   simp only at hi hij hj hlo hhi
   dsimp only [go_sem,rA,rM,rS]
   by_cases hlt:i < j
   · refine br_t (by simpa using hlt) ?_
     dsimp only [go_sem,rA,rM,rS]
     simp (disch:=omega) only [w64_in]
     rw [uwn (by omega) (by omega)]
     refine raw_bin rfl (.inr rfl) (half_run _ (by omega)) rfl ?_
     dsimp only [go_sem,rA,rM,rS]
     obtain ⟨h,hh⟩:∃ h:Nat,((i:Int) + (j:Int)) / 2 = (h:Int):=⟨(i + j) / 2,by omega⟩
     rw [hh,w64_in (n:=(h:Int)) (by omega) (by omega)]
     have hih:i ≤ h ∧ h < j:=by omega
     (repeat first | dsimp only [go_sem,rA,rM,rS] | simp only [nbr])
     refine ixrm m rfl (by simp;omega) ?_
     (repeat first | dsimp only [go_sem,rA,rM,rS] | simp only [nbr])
     refine ldrm (by omega) ?_
     (repeat first | dsimp only [meetL,go_sem,rA,rM,rS] | simp only [nbr])
     refine ixrm h rfl (by simp;omega) ?_
     (repeat first | dsimp only [go_sem,rA,rM,rS] | simp only [nbr])
     refine ldrm (by omega) ?_
     (repeat first | dsimp only [meetL,go_sem,rA,rM,rS] | simp only [nbr])
     refine call (less_ok l[m] l[h]) ?_
     (repeat first | dsimp only [go_sem,rA,rM,rS] | simp only [nbr])
     by_cases hk:l[m].day < l[h].day
     · refine br_f (by simp [cmpZ,hk]) ?_
       dsimp only [go_sem,rA,rM,rS]
       have hkk:ky Meet.day l m < ky Meet.day l h:=by rw [ky_eq Meet.day (l:=l) (i:=h) (by omega),ky_eq Meet.day (l:=l) (i:=m) (by omega)];exact hk
       refine ⟨(i,h),⟨hi,by simp only;omega,by simp only;omega,hlo,fun c g1 g2=>?_⟩,by simp only;omega,?_⟩
       · have:=hs1.le Meet.day (show a ≤ h by omega) g1 g2;omega
       (refine ent_id ?_ ?_ ?_ rfl rfl <;> dsimp only [meetL,id,go_sem,rA,rM,rS] <;> simp [meetL,KFR_iff,KFR_app,KFR,KFL,KF,mtL_same,mtO,nbr])
     · refine br_t (by simp [cmpZ,hk];split <;> decide) ?_
       dsimp only [go_sem,rA,rM,rS]
       rw [w64_in (n:=(h:Int) + 1) (by omega) (by omega)]
       have hkk:ky Meet.day l h ≤ ky Meet.day l m:=by rw [ky_eq Meet.day (l:=l) (i:=h) (by omega),ky_eq Meet.day (l:=l) (i:=m) (by omega)];exact Int.not_lt.1 hk
       refine ⟨(h + 1,j),⟨by simp only;omega,by simp only;omega,hj,fun c g1 g2=>?_,hhi⟩,by simp only;omega,?_⟩
       · have:=hs1.le Meet.day g1 (show c ≤ h by simp only at g2;omega) (by omega);omega
       (refine ent_id ?_ ?_ ?_ rfl rfl <;> dsimp only [meetL,id,go_sem,rA,rM,rS] <;> simp [meetL,KFR_iff,KFR_app,KFR,KFL,KF,mtL_same,mtO,nbr])
   refine br_f (by simp;omega) ?_
   dsimp only [go_sem,rA,rM,rS]
   have hij':i = j:=by omega
   subst hij'
   refine loopO (fun s:Nat × List Meet=>[(17,I (s.1:Nat))]) (fun s=>[(0,.row v 4 (s.2.map meetL) 73)]) (fun s=>(i ≤ s.1 ∧ s.1 ≤ m) ∧ PIn a b l s.2 ∧ ∀ p,ky Meet.day s.2 p = if s.1 < p ∧ p ≤ m then ky Meet.day l (p - 1) else if p = s.1 then ky Meet.day l m else ky Meet.day l p) (fun s=>s.1) (m,l) ⟨by simp only;omega,.refl _ _ _,fun p=>by
    simp only
    rw [if_neg (by omega)]
    split
    · rename_i h;rw [h]
    · rfl⟩ ?_ ?_
   · (refine ent_id ?_ ?_ ?_ rfl rfl <;> dsimp only [meetL,id,go_sem,rA,rM,rS] <;> simp [meetL,KFR_iff,KFR_app,KFR,KFL,KF,mtL_same,mtO,nbr])
   rintro ⟨k,l1⟩ ⟨⟨hk0,hk⟩,hp,hky⟩
   simp only at hk0 hk hp hky
   have hl1:=hp.len
   dsimp only [go_sem,rA,rM,rS]
   by_cases hlt:i < k
   · refine br_t (by simp;omega) ?_
     (repeat first | dsimp only [go_sem,rA,rM,rS] | simp only [nbr])
     rw [w64_in (n:=(k:Int) - 1) (by omega) (by omega)]
     refine ixrm (k - 1) (by omega) (by simp;omega) ?_
     (repeat first | dsimp only [go_sem,rA,rM,rS] | simp only [nbr])
     refine ldrm (by omega) ?_
     (repeat first | dsimp only [meetL,go_sem,rA,rM,rS] | simp only [nbr])
     refine ixrm k rfl (by simp;omega) ?_
     (repeat first | dsimp only [go_sem,rA,rM,rS] | simp only [nbr])
     refine ldrm (by omega) ?_
     (repeat first | dsimp only [meetL,go_sem,rA,rM,rS] | simp only [nbr])
     refine ixrm k rfl (by simp;omega) ?_
     (repeat first | dsimp only [go_sem,rA,rM,rS] | simp only [nbr])
     refine strm l1[k - 1] (by omega) (by simp [meetL]) (by simp [meetL,splice]) ?_
     (repeat first | dsimp only [go_sem,rA,rM,rS] | simp only [nbr])
     refine ixrm (k - 1) (by first | omega | (rw [w64_in (by omega) (by omega)];omega)) (by simp;omega) ?_
     (repeat first | dsimp only [go_sem,rA,rM,rS] | simp only [nbr])
     refine strm l1[k] (by simp;omega) (by simp [meetL]) (by simp [meetL,splice]) ?_
     rw [← swp_eq (l:=l1) (i:=k) (j:=k - 1) (by omega) (by omega)]
     (repeat first | dsimp only [go_sem,rA,rM,rS] | simp only [nbr])
     try rw [w64_in (n:=(k:Int) - 1) (by omega) (by omega)]
     rw [show (k:Int) - 1 = ((k - 1:Nat):Int) from by omega]
     refine ⟨(k - 1,swp l1 k (k - 1)),⟨by simp only;omega,hp.trans (.swap (by omega) (by omega) (by omega) (by omega) (by omega)),fun p=>?_⟩,by simp only;omega,?_⟩
     · simp only
       rw [swp_ky Meet.day (by omega) (by omega),hky,hky,hky]
       by_cases h1:p = k
       · subst h1
         rw [if_pos rfl,if_neg (by omega),if_neg (by omega),if_pos (by omega)]
       · rw [if_neg h1]
         by_cases h2:p = k - 1
         · subst h2
           rw [if_pos rfl,if_neg (by omega),if_pos rfl,if_neg (by omega),if_pos rfl]
         · rw [if_neg h2,if_neg h2]
           by_cases h3:k < p ∧ p ≤ m
           · rw [if_pos h3,if_pos (by omega)]
           · rw [if_neg h3,if_neg h1,if_neg (by omega)]
     (refine ent_id ?_ ?_ ?_ rfl rfl <;> dsimp only [meetL,id,go_sem,rA,rM,rS] <;> simp [meetL,KFR_iff,KFR_app,KFR,KFL,KF,mtL_same,mtO,nbr])
   refine br_f (by simp;omega) ?_
   dsimp only [go_sem,rA,rM,rS]
   have hki:k = i:=by omega
   refine ⟨_,⟨l1,hp,fun p q g1 g2 g3=>?_,rfl⟩,?_⟩
   · rw [hky,hky]
     by_cases h1:p < k
     · rw [if_neg (by omega),if_neg (c:=p = k) (by omega)]
       by_cases h2:q < k
       · rw [if_neg (by omega),if_neg (c:=q = k) (by omega)];exact hs1 _ _ (by omega) (by omega) (by omega)
       · by_cases h3:q = k
         · rw [if_neg (by omega),if_pos h3];exact hlo _ (by omega) (by omega)
         · rw [if_pos (by omega)];exact hs1.le Meet.day (by omega) (by omega) (by omega)
     · rw [if_pos (c:=k < q ∧ q ≤ m) (by omega)]
       by_cases h3:p = k
       · rw [if_neg (by omega),if_pos h3];exact Int.le_of_lt (hhi _ (by omega) (by omega))
       · rw [if_pos (by omega)];exact hs1 _ _ (by omega) (by omega) (by omega)
   · simp only [rowO]
     (refine entO_id ?_ ?_ ?_ rfl <;> dsimp only [meetL,id,go_sem,rA,rM,rS] <;> simp [meetL,KFR_iff,KFR_app,KFR,KFL,KF,mtL_same,mtO,nbr])
 refine br_f (by simp;omega) ?_
 dsimp only [go_sem,rA,rM,rS]
 simp (disch:=omega) only [w64_in]
 rw [uwn (by omega) (by omega)]
 refine raw_bin rfl (.inr rfl) (half_run _ (by omega)) rfl ?_
 dsimp only [go_sem,rA,rM,rS]
 obtain ⟨mid,hmid⟩:∃ h:Nat,((a:Int) + (b:Int)) / 2 = (h:Int):=⟨(a + b) / 2,by omega⟩
 rw [hmid,w64_in (n:=(mid:Int)) (by omega) (by omega)]
 have hm1':2 * mid ≤ a + b ∧ a + b ≤ 2 * mid + 1:=by omega
 rw [w64_in (n:=(mid:Int) + (m:Int)) (by omega) (by omega)]
 have tail0:∀ s0 r0:Nat,s0 = (if m > mid then mid + m - b else a) → r0 = (if m > mid then mid else m) → a ≤ s0 ∧ s0 ≤ r0 ∧ r0 ≤ m ∧ (∀ c,s0 ≤ c → c < r0 → m ≤ mid + m - 1 - c ∧ mid + m - 1 - c < b):=fun s0 r0 h1 h2=>by
  by_cases hgt:m > mid
  · rw [if_pos hgt] at h1 h2;subst h1;subst h2;refine ⟨by omega,by omega,by omega,fun c _ _=>by omega⟩
  · rw [if_neg hgt] at h1 h2;subst h1;subst h2;refine ⟨by omega,by omega,by omega,fun c _ _=>by omega⟩
 obtain ⟨s0,hs0⟩:∃ s0:Nat,s0 = (if m > mid then mid + m - b else a):=⟨_,rfl⟩
 obtain ⟨r0,hr0⟩:∃ r0:Nat,r0 = (if m > mid then mid else m):=⟨_,rfl⟩
 obtain ⟨t1,t2,t3,t4⟩:=tail0 s0 r0 hs0 hr0
 by_cases hgt:m > mid
 · refine br_t (by simp;omega) ?_
   dsimp only [go_sem,rA,rM,rS]
   rw [w64_in (n:=(mid:Int) + (m:Int) - (b:Int)) (by omega) (by omega),w64_in (n:=(mid:Int) + (m:Int) - 1) (by omega) (by omega)]
   have e1:(mid:Int) + (m:Int) - (b:Int) = (s0:Int):=by rw [if_pos hgt] at hs0;omega
   have e2:mid = r0:=by rw [if_pos hgt] at hr0;omega
   rw [e1]
   have hM:((mid:Int)) = (r0:Int):=by omega
   refine loopO (fun s:Nat × Nat=>[(20,I (s.1:Nat)),(21,I (s.2:Nat))]) (fun _=>[]) (fun s=>s0 ≤ s.1 ∧ s.1 ≤ s.2 ∧ s.2 ≤ r0 ∧ Srch (mid + m - 1) s0 r0 s.1 s.2 (ky Meet.day l)) (fun s=>s.2 - s.1) (s0,r0) ⟨Nat.le_refl _,t2,Nat.le_refl _,srch_start _ _ _ _⟩ ?_ ?_
   · rw [hM];(refine ent_id ?_ ?_ ?_ rfl rfl <;> dsimp only [meetL,id,go_sem,rA,rM,rS] <;> simp [meetL,KFR_iff,KFR_app,KFR,KFL,KF,mtL_same,mtO,nbr])
   rintro ⟨i,j⟩ ⟨hi,hij,hj,hsr⟩
   simp only at hi hij hj hsr
   dsimp only [go_sem,rA,rM,rS]
   by_cases hlt:i < j
   · refine br_t (by simpa using hlt) ?_
     dsimp only [go_sem,rA,rM,rS]
     simp (disch:=omega) only [w64_in]
     rw [uwn (by omega) (by omega)]
     refine raw_bin rfl (.inr rfl) (half_run _ (by omega)) rfl ?_
     dsimp only [go_sem,rA,rM,rS]
     obtain ⟨h,hh⟩:∃ h:Nat,((i:Int) + (j:Int)) / 2 = (h:Int):=⟨(i + j) / 2,by omega⟩
     rw [hh,w64_in (n:=(h:Int)) (by omega) (by omega)]
     have hih:i ≤ h ∧ h < j:=by omega
     have hph:=t4 h (by omega) (by omega)
     rw [w64_in (n:=(mid:Int) + (m:Int) - 1 - (h:Int)) (by omega) (by omega)]
     (repeat first | dsimp only [go_sem,rA,rM,rS] | simp only [nbr])
     refine ixrm (mid + m - 1 - h) (by omega) (by simp;omega) ?_
     (repeat first | dsimp only [go_sem,rA,rM,rS] | simp only [nbr])
     refine ldrm (by omega) ?_
     (repeat first | dsimp only [meetL,go_sem,rA,rM,rS] | simp only [nbr])
     refine ixrm h rfl (by simp;omega) ?_
     (repeat first | dsimp only [go_sem,rA,rM,rS] | simp only [nbr])
     refine ldrm (by omega) ?_
     (repeat first | dsimp only [meetL,go_sem,rA,rM,rS] | simp only [nbr])
     refine call (less_ok l[mid + m - 1 - h] l[h]) ?_
     (repeat first | dsimp only [go_sem,rA,rM,rS] | simp only [nbr])
     by_cases hk:l[mid + m - 1 - h].day < l[h].day
     · refine br_f (by simp [cmpZ,hk]) ?_
       dsimp only [go_sem,rA,rM,rS]
       have hkk:ky Meet.day l (mid + m - 1 - h) < ky Meet.day l h:=by rw [ky_eq Meet.day (l:=l) (i:=h) (by omega),ky_eq Meet.day (l:=l) (i:=mid + m - 1 - h) (by omega)];exact hk
       refine ⟨(i,h),⟨hi,by simp only;omega,by simp only;omega,srch_down hsr hs1 hs2 t1 t3 t4 hih.1 hih.2 hj hkk hi⟩,by simp only;omega,?_⟩
       (refine ent_id ?_ ?_ ?_ rfl rfl <;> dsimp only [meetL,id,go_sem,rA,rM,rS] <;> simp [meetL,KFR_iff,KFR_app,KFR,KFL,KF,mtL_same,mtO,nbr])
     · refine br_t (by simp [cmpZ,hk];split <;> decide) ?_
       dsimp only [go_sem,rA,rM,rS]
       rw [w64_in (n:=(h:Int) + 1) (by omega) (by omega)]
       have hkk:ky Meet.day l h ≤ ky Meet.day l (mid + m - 1 - h):=by rw [ky_eq Meet.day (l:=l) (i:=h) (by omega),ky_eq Meet.day (l:=l) (i:=mid + m - 1 - h) (by omega)];exact Int.not_lt.1 hk
       refine ⟨(h + 1,j),⟨by simp only;omega,by simp only;omega,hj,srch_up hsr hs1 hs2 t1 t3 t4 hih.1 hih.2 hj hkk hi⟩,by simp only;omega,?_⟩
       (refine ent_id ?_ ?_ ?_ rfl rfl <;> dsimp only [meetL,id,go_sem,rA,rM,rS] <;> simp [meetL,KFR_iff,KFR_app,KFR,KFL,KF,mtL_same,mtO,nbr])
   refine br_f (by simp;omega) ?_
   dsimp only [go_sem,rA,rM,rS]
   have cut:=cut_of (s:=i) ham hmb hm1'.1 hm1'.2 s0 r0 hs0 hr0 hi (by omega) (by rwa [show j = i from by omega] at hsr)
   rw [w64_in (n:=(mid:Int) + (m:Int) - (i:Int)) (by omega) (by omega),show (mid:Int) + (m:Int) - (i:Int) = ((mid + m - i:Nat):Int) from by omega]
   by_cases hr:i < m ∧ m < mid + m - i
   · rw [show decide ((i:Int) < (m:Int)) = true from by simp;omega]
     repeat (refine .inl ⟨rfl,?_⟩;(repeat first | dsimp only [go_sem,rA,rM,rS] | simp only [nbr]))
     refine br_t (by simp;omega) ?_
     dsimp only [go_sem,rA,rM,rS]
     refine callmP [0] (rot_ok v i m (mid + m - i) l hr.1 hr.2 (by omega) hL) rfl rfl rfl ?_ ?_ ?_
     · (repeat first | dsimp only [go_sem,rA,rM,rS] | simp only [nbr])
       simp [mtL,mtB,mtS]
     · (repeat first | dsimp only [go_sem,rA,rM,rS] | simp only [nbr])
       simp [KFR_iff,meetL,KFL,KF]
     rintro _ ⟨l1,hp1,hk1,rfl⟩
     (repeat first | dsimp only [rowO,go_sem,rA,rM,rS] | simp only [nbr])
     have cd:=cutd_rot Meet.day cut hs1 hs2 hk1
     have pp:PIn a b l l1:=hp1.mono (by omega) (by have:=cut.e1;omega)
     have hl1:=pp.len
     by_cases hf:a < i ∧ i < mid
     · rw [show decide ((a:Int) < (i:Int)) = true from by simp;omega]
       repeat (refine .inl ⟨rfl,?_⟩;(repeat first | dsimp only [go_sem,rA,rM,rS] | simp only [nbr]))
       refine br_t (by simp;omega) ?_
       dsimp only [go_sem,rA,rM,rS]
       refine callmP [0] (ih a i mid l1 (by omega) hf.1 hf.2 (by omega) (by omega) cd.s1 cd.s2) rfl rfl rfl ?_ ?_ ?_
       · (repeat first | dsimp only [go_sem,rA,rM,rS] | simp only [nbr])
         simp [mtL,mtB,mtS]
       · (repeat first | dsimp only [go_sem,rA,rM,rS] | simp only [nbr])
         simp [KFR_iff,meetL,KFL,KF]
       rintro _ ⟨l2,hp2,hs3,rfl⟩
       (repeat first | dsimp only [rowO,go_sem,rA,rM,rS] | simp only [nbr])
       have ce:=cutl_rec Meet.day cd hp2 hs3 (by omega)
       have pq:PIn a b l l2:=pp.trans (hp2.mono (by omega) (by omega))
       have hl2:=pq.len
       by_cases hg:mid < mid + m - i ∧ mid + m - i < b
       · rw [show decide ((mid:Int) < ((mid + m - i:Nat):Int)) = true from by simp;omega]
         repeat (refine .inl ⟨rfl,?_⟩;(repeat first | dsimp only [go_sem,rA,rM,rS] | simp only [nbr]))
         refine br_t (by simp;omega) ?_
         dsimp only [go_sem,rA,rM,rS]
         refine callmP [0] (ih mid (mid + m - i) b l2 (by omega) hg.1 hg.2 (by omega) (by omega) ce.s3 ce.s4) rfl rfl rfl ?_ ?_ ?_
         · (repeat first | dsimp only [go_sem,rA,rM,rS] | simp only [nbr])
           simp [mtL,mtB,mtS]
         · (repeat first | dsimp only [go_sem,rA,rM,rS] | simp only [nbr])
           simp [KFR_iff,meetL,KFL,KF]
         rintro _ ⟨l3,hp3,hs4,rfl⟩
         (repeat first | dsimp only [rowO,go_sem,rA,rM,rS] | simp only [nbr])
         refine ⟨_,⟨l3,pq.trans (hp3.mono (by omega) (by omega)),cut_rec Meet.day ce hp3 hs4 (by omega),rfl⟩,?_⟩
         try simp only [rowO]
         (refine entO_id ?_ ?_ ?_ rfl <;> dsimp only [meetL,id,go_sem,rA,rM,rS] <;> simp [meetL,KFR_iff,KFR_app,KFR,KFL,KF,mtL_same,mtO,nbr])
       · skip
         repeat (refine gb ?_;(repeat first | dsimp only [go_sem,rA,rM,rS] | simp only [nbr]))
         refine br_f (by simp;omega) ?_
         dsimp only [go_sem,rA,rM,rS]
         refine ⟨_,⟨l2,pq,cut_no Meet.day ce hg,rfl⟩,?_⟩
         try simp only [rowO]
         (refine entO_id ?_ ?_ ?_ rfl <;> dsimp only [meetL,id,go_sem,rA,rM,rS] <;> simp [meetL,KFR_iff,KFR_app,KFR,KFL,KF,mtL_same,mtO,nbr])
     · skip
       repeat (refine gb ?_;(repeat first | dsimp only [go_sem,rA,rM,rS] | simp only [nbr]))
       refine br_f (by simp;omega) ?_
       dsimp only [go_sem,rA,rM,rS]
       have ce:=cutl_no Meet.day cd hf
       have pq:=pp
       have hl2:=pq.len
       by_cases hg:mid < mid + m - i ∧ mid + m - i < b
       · rw [show decide ((mid:Int) < ((mid + m - i:Nat):Int)) = true from by simp;omega]
         repeat (refine .inl ⟨rfl,?_⟩;(repeat first | dsimp only [go_sem,rA,rM,rS] | simp only [nbr]))
         refine br_t (by simp;omega) ?_
         dsimp only [go_sem,rA,rM,rS]
         refine callmP [0] (ih mid (mid + m - i) b l1 (by omega) hg.1 hg.2 (by omega) (by omega) ce.s3 ce.s4) rfl rfl rfl ?_ ?_ ?_
         · (repeat first | dsimp only [go_sem,rA,rM,rS] | simp only [nbr])
           simp [mtL,mtB,mtS]
         · (repeat first | dsimp only [go_sem,rA,rM,rS] | simp only [nbr])
           simp [KFR_iff,meetL,KFL,KF]
         rintro _ ⟨l3,hp3,hs4,rfl⟩
         (repeat first | dsimp only [rowO,go_sem,rA,rM,rS] | simp only [nbr])
         refine ⟨_,⟨l3,pq.trans (hp3.mono (by omega) (by omega)),cut_rec Meet.day ce hp3 hs4 (by omega),rfl⟩,?_⟩
         try simp only [rowO]
         (refine entO_id ?_ ?_ ?_ rfl <;> dsimp only [meetL,id,go_sem,rA,rM,rS] <;> simp [meetL,KFR_iff,KFR_app,KFR,KFL,KF,mtL_same,mtO,nbr])
       · skip
         repeat (refine gb ?_;(repeat first | dsimp only [go_sem,rA,rM,rS] | simp only [nbr]))
         refine br_f (by simp;omega) ?_
         dsimp only [go_sem,rA,rM,rS]
         refine ⟨_,⟨l1,pq,cut_no Meet.day ce hg,rfl⟩,?_⟩
         try simp only [rowO]
         (refine entO_id ?_ ?_ ?_ rfl <;> dsimp only [meetL,id,go_sem,rA,rM,rS] <;> simp [meetL,KFR_iff,KFR_app,KFR,KFL,KF,mtL_same,mtO,nbr])
   · skip
     repeat (refine gb ?_;(repeat first | dsimp only [go_sem,rA,rM,rS] | simp only [nbr]))
     refine br_f (by simp;omega) ?_
     dsimp only [go_sem,rA,rM,rS]
     have cd:=cutd_no Meet.day cut hs1 hs2 hr
     have pp:PIn a b l l:=.refl _ _ _
     have hl1:=pp.len
     by_cases hf:a < i ∧ i < mid
     · rw [show decide ((a:Int) < (i:Int)) = true from by simp;omega]
       repeat (refine .inl ⟨rfl,?_⟩;(repeat first | dsimp only [go_sem,rA,rM,rS] | simp only [nbr]))
       refine br_t (by simp;omega) ?_
       dsimp only [go_sem,rA,rM,rS]
       refine callmP [0] (ih a i mid l (by omega) hf.1 hf.2 (by omega) (by omega) cd.s1 cd.s2) rfl rfl rfl ?_ ?_ ?_
       · (repeat first | dsimp only [go_sem,rA,rM,rS] | simp only [nbr])
         simp [mtL,mtB,mtS]
       · (repeat first | dsimp only [go_sem,rA,rM,rS] | simp only [nbr])
         simp [KFR_iff,meetL,KFL,KF]
       rintro _ ⟨l2,hp2,hs3,rfl⟩
       (repeat first | dsimp only [rowO,go_sem,rA,rM,rS] | simp only [nbr])
       have ce:=cutl_rec Meet.day cd hp2 hs3 (by omega)
       have pq:PIn a b l l2:=pp.trans (hp2.mono (by omega) (by omega))
       have hl2:=pq.len
       by_cases hg:mid < mid + m - i ∧ mid + m - i < b
       · rw [show decide ((mid:Int) < ((mid + m - i:Nat):Int)) = true from by simp;omega]
         repeat (refine .inl ⟨rfl,?_⟩;(repeat first | dsimp only [go_sem,rA,rM,rS] | simp only [nbr]))
         refine br_t (by simp;omega) ?_
         dsimp only [go_sem,rA,rM,rS]
         refine callmP [0] (ih mid (mid + m - i) b l2 (by omega) hg.1 hg.2 (by omega) (by omega) ce.s3 ce.s4) rfl rfl rfl ?_ ?_ ?_
         · (repeat first | dsimp only [go_sem,rA,rM,rS] | simp only [nbr])
           simp [mtL,mtB,mtS]
         · (repeat first | dsimp only [go_sem,rA,rM,rS] | simp only [nbr])
           simp [KFR_iff,meetL,KFL,KF]
         rintro _ ⟨l3,hp3,hs4,rfl⟩
         (repeat first | dsimp only [rowO,go_sem,rA,rM,rS] | simp only [nbr])
         refine ⟨_,⟨l3,pq.trans (hp3.mono (by omega) (by omega)),cut_rec Meet.day ce hp3 hs4 (by omega),rfl⟩,?_⟩
         try simp only [rowO]
         (refine entO_id ?_ ?_ ?_ rfl <;> dsimp only [meetL,id,go_sem,rA,rM,rS] <;> simp [meetL,KFR_iff,KFR_app,KFR,KFL,KF,mtL_same,mtO,nbr])
       · skip
         repeat (refine gb ?_;(repeat first | dsimp only [go_sem,rA,rM,rS] | simp only [nbr]))
         refine br_f (by simp;omega) ?_
         dsimp only [go_sem,rA,rM,rS]
         refine ⟨_,⟨l2,pq,cut_no Meet.day ce hg,rfl⟩,?_⟩
         try simp only [rowO]
         (refine entO_id ?_ ?_ ?_ rfl <;> dsimp only [meetL,id,go_sem,rA,rM,rS] <;> simp [meetL,KFR_iff,KFR_app,KFR,KFL,KF,mtL_same,mtO,nbr])
     · skip
       repeat (refine gb ?_;(repeat first | dsimp only [go_sem,rA,rM,rS] | simp only [nbr]))
       refine br_f (by simp;omega) ?_
       dsimp only [go_sem,rA,rM,rS]
       have ce:=cutl_no Meet.day cd hf
       have pq:=pp
       have hl2:=pq.len
       by_cases hg:mid < mid + m - i ∧ mid + m - i < b
       · rw [show decide ((mid:Int) < ((mid + m - i:Nat):Int)) = true from by simp;omega]
         repeat (refine .inl ⟨rfl,?_⟩;(repeat first | dsimp only [go_sem,rA,rM,rS] | simp only [nbr]))
         refine br_t (by simp;omega) ?_
         dsimp only [go_sem,rA,rM,rS]
         refine callmP [0] (ih mid (mid + m - i) b l (by omega) hg.1 hg.2 (by omega) (by omega) ce.s3 ce.s4) rfl rfl rfl ?_ ?_ ?_
         · (repeat first | dsimp only [go_sem,rA,rM,rS] | simp only [nbr])
           simp [mtL,mtB,mtS]
         · (repeat first | dsimp only [go_sem,rA,rM,rS] | simp only [nbr])
           simp [KFR_iff,meetL,KFL,KF]
         rintro _ ⟨l3,hp3,hs4,rfl⟩
         (repeat first | dsimp only [rowO,go_sem,rA,rM,rS] | simp only [nbr])
         refine ⟨_,⟨l3,pq.trans (hp3.mono (by omega) (by omega)),cut_rec Meet.day ce hp3 hs4 (by omega),rfl⟩,?_⟩
         try simp only [rowO]
         (refine entO_id ?_ ?_ ?_ rfl <;> dsimp only [meetL,id,go_sem,rA,rM,rS] <;> simp [meetL,KFR_iff,KFR_app,KFR,KFL,KF,mtL_same,mtO,nbr])
       · skip
         repeat (refine gb ?_;(repeat first | dsimp only [go_sem,rA,rM,rS] | simp only [nbr]))
         refine br_f (by simp;omega) ?_
         dsimp only [go_sem,rA,rM,rS]
         refine ⟨_,⟨l,pq,cut_no Meet.day ce hg,rfl⟩,?_⟩
         try simp only [rowO]
         (refine entO_id ?_ ?_ ?_ rfl <;> dsimp only [meetL,id,go_sem,rA,rM,rS] <;> simp [meetL,KFR_iff,KFR_app,KFR,KFL,KF,mtL_same,mtO,nbr])
 · refine br_f (by simp;omega) ?_
   dsimp only [go_sem,rA,rM,rS]
   rw [w64_in (n:=(mid:Int) + (m:Int) - 1) (by omega) (by omega)]
   have hA:(a:Int) = (s0:Int):=by rw [if_neg hgt] at hs0;omega
   have hM:(m:Int) = (r0:Int):=by rw [if_neg hgt] at hr0;omega
   refine loopO (fun s:Nat × Nat=>[(20,I (s.1:Nat)),(21,I (s.2:Nat))]) (fun _=>[]) (fun s=>s0 ≤ s.1 ∧ s.1 ≤ s.2 ∧ s.2 ≤ r0 ∧ Srch (mid + m - 1) s0 r0 s.1 s.2 (ky Meet.day l)) (fun s=>s.2 - s.1) (s0,r0) ⟨Nat.le_refl _,t2,Nat.le_refl _,srch_start _ _ _ _⟩ ?_ ?_
   · have e3:s0 = a:=by omega
     have e4:r0 = m:=by omega
     subst e3;subst e4;(refine ent_id ?_ ?_ ?_ rfl rfl <;> dsimp only [meetL,id,go_sem,rA,rM,rS] <;> simp [meetL,KFR_iff,KFR_app,KFR,KFL,KF,mtL_same,mtO,nbr])
   rintro ⟨i,j⟩ ⟨hi,hij,hj,hsr⟩
   simp only at hi hij hj hsr
   dsimp only [go_sem,rA,rM,rS]
   by_cases hlt:i < j
   · refine br_t (by simpa using hlt) ?_
     dsimp only [go_sem,rA,rM,rS]
     simp (disch:=omega) only [w64_in]
     rw [uwn (by omega) (by omega)]
     refine raw_bin rfl (.inr rfl) (half_run _ (by omega)) rfl ?_
     dsimp only [go_sem,rA,rM,rS]
     obtain ⟨h,hh⟩:∃ h:Nat,((i:Int) + (j:Int)) / 2 = (h:Int):=⟨(i + j) / 2,by omega⟩
     rw [hh,w64_in (n:=(h:Int)) (by omega) (by omega)]
     have hih:i ≤ h ∧ h < j:=by omega
     have hph:=t4 h (by omega) (by omega)
     rw [w64_in (n:=(mid:Int) + (m:Int) - 1 - (h:Int)) (by omega) (by omega)]
     (repeat first | dsimp only [go_sem,rA,rM,rS] | simp only [nbr])
     refine ixrm (mid + m - 1 - h) (by omega) (by simp;omega) ?_
     (repeat first | dsimp only [go_sem,rA,rM,rS] | simp only [nbr])
     refine ldrm (by omega) ?_
     (repeat first | dsimp only [meetL,go_sem,rA,rM,rS] | simp only [nbr])
     refine ixrm h rfl (by simp;omega) ?_
     (repeat first | dsimp only [go_sem,rA,rM,rS] | simp only [nbr])
     refine ldrm (by omega) ?_
     (repeat first | dsimp only [meetL,go_sem,rA,rM,rS] | simp only [nbr])
     refine call (less_ok l[mid + m - 1 - h] l[h]) ?_
     (repeat first | dsimp only [go_sem,rA,rM,rS] | simp only [nbr])
     by_cases hk:l[mid + m - 1 - h].day < l[h].day
     · refine br_f (by simp [cmpZ,hk]) ?_
       dsimp only [go_sem,rA,rM,rS]
       have hkk:ky Meet.day l (mid + m - 1 - h) < ky Meet.day l h:=by rw [ky_eq Meet.day (l:=l) (i:=h) (by omega),ky_eq Meet.day (l:=l) (i:=mid + m - 1 - h) (by omega)];exact hk
       refine ⟨(i,h),⟨hi,by simp only;omega,by simp only;omega,srch_down hsr hs1 hs2 t1 t3 t4 hih.1 hih.2 hj hkk hi⟩,by simp only;omega,?_⟩
       (refine ent_id ?_ ?_ ?_ rfl rfl <;> dsimp only [meetL,id,go_sem,rA,rM,rS] <;> simp [meetL,KFR_iff,KFR_app,KFR,KFL,KF,mtL_same,mtO,nbr])
     · refine br_t (by simp [cmpZ,hk];split <;> decide) ?_
       dsimp only [go_sem,rA,rM,rS]
       rw [w64_in (n:=(h:Int) + 1) (by omega) (by omega)]
       have hkk:ky Meet.day l h ≤ ky Meet.day l (mid + m - 1 - h):=by rw [ky_eq Meet.day (l:=l) (i:=h) (by omega),ky_eq Meet.day (l:=l) (i:=mid + m - 1 - h) (by omega)];exact Int.not_lt.1 hk
       refine ⟨(h + 1,j),⟨by simp only;omega,by simp only;omega,hj,srch_up hsr hs1 hs2 t1 t3 t4 hih.1 hih.2 hj hkk hi⟩,by simp only;omega,?_⟩
       (refine ent_id ?_ ?_ ?_ rfl rfl <;> dsimp only [meetL,id,go_sem,rA,rM,rS] <;> simp [meetL,KFR_iff,KFR_app,KFR,KFL,KF,mtL_same,mtO,nbr])
   refine br_f (by simp;omega) ?_
   dsimp only [go_sem,rA,rM,rS]
   have cut:=cut_of (s:=i) ham hmb hm1'.1 hm1'.2 s0 r0 hs0 hr0 hi (by omega) (by rwa [show j = i from by omega] at hsr)
   rw [w64_in (n:=(mid:Int) + (m:Int) - (i:Int)) (by omega) (by omega),show (mid:Int) + (m:Int) - (i:Int) = ((mid + m - i:Nat):Int) from by omega]
   by_cases hr:i < m ∧ m < mid + m - i
   · rw [show decide ((i:Int) < (m:Int)) = true from by simp;omega]
     repeat (refine .inl ⟨rfl,?_⟩;(repeat first | dsimp only [go_sem,rA,rM,rS] | simp only [nbr]))
     refine br_t (by simp;omega) ?_
     dsimp only [go_sem,rA,rM,rS]
     refine callmP [0] (rot_ok v i m (mid + m - i) l hr.1 hr.2 (by omega) hL) rfl rfl rfl ?_ ?_ ?_
     · (repeat first | dsimp only [go_sem,rA,rM,rS] | simp only [nbr])
       simp [mtL,mtB,mtS]
     · (repeat first | dsimp only [go_sem,rA,rM,rS] | simp only [nbr])
       simp [KFR_iff,meetL,KFL,KF]
     rintro _ ⟨l1,hp1,hk1,rfl⟩
     (repeat first | dsimp only [rowO,go_sem,rA,rM,rS] | simp only [nbr])
     have cd:=cutd_rot Meet.day cut hs1 hs2 hk1
     have pp:PIn a b l l1:=hp1.mono (by omega) (by have:=cut.e1;omega)
     have hl1:=pp.len
     by_cases hf:a < i ∧ i < mid
     · rw [show decide ((a:Int) < (i:Int)) = true from by simp;omega]
       repeat (refine .inl ⟨rfl,?_⟩;(repeat first | dsimp only [go_sem,rA,rM,rS] | simp only [nbr]))
       refine br_t (by simp;omega) ?_
       dsimp only [go_sem,rA,rM,rS]
       refine callmP [0] (ih a i mid l1 (by omega) hf.1 hf.2 (by omega) (by omega) cd.s1 cd.s2) rfl rfl rfl ?_ ?_ ?_
       · (repeat first | dsimp only [go_sem,rA,rM,rS] | simp only [nbr])
         simp [mtL,mtB,mtS]
       · (repeat first | dsimp only [go_sem,rA,rM,rS] | simp only [nbr])
         simp [KFR_iff,meetL,KFL,KF]
       rintro _ ⟨l2,hp2,hs3,rfl⟩
       (repeat first | dsimp only [rowO,go_sem,rA,rM,rS] | simp only [nbr])
       have ce:=cutl_rec Meet.day cd hp2 hs3 (by omega)
       have pq:PIn a b l l2:=pp.trans (hp2.mono (by omega) (by omega))
       have hl2:=pq.len
       by_cases hg:mid < mid + m - i ∧ mid + m - i < b
       · rw [show decide ((mid:Int) < ((mid + m - i:Nat):Int)) = true from by simp;omega]
         repeat (refine .inl ⟨rfl,?_⟩;(repeat first | dsimp only [go_sem,rA,rM,rS] | simp only [nbr]))
         refine br_t (by simp;omega) ?_
         dsimp only [go_sem,rA,rM,rS]
         refine callmP [0] (ih mid (mid + m - i) b l2 (by omega) hg.1 hg.2 (by omega) (by omega) ce.s3 ce.s4) rfl rfl rfl ?_ ?_ ?_
         · (repeat first | dsimp only [go_sem,rA,rM,rS] | simp only [nbr])
           simp [mtL,mtB,mtS]
         · (repeat first | dsimp only [go_sem,rA,rM,rS] | simp only [nbr])
           simp [KFR_iff,meetL,KFL,KF]
         rintro _ ⟨l3,hp3,hs4,rfl⟩
         (repeat first | dsimp only [rowO,go_sem,rA,rM,rS] | simp only [nbr])
         refine ⟨_,⟨l3,pq.trans (hp3.mono (by omega) (by omega)),cut_rec Meet.day ce hp3 hs4 (by omega),rfl⟩,?_⟩
         try simp only [rowO]
         (refine entO_id ?_ ?_ ?_ rfl <;> dsimp only [meetL,id,go_sem,rA,rM,rS] <;> simp [meetL,KFR_iff,KFR_app,KFR,KFL,KF,mtL_same,mtO,nbr])
       · skip
         repeat (refine gb ?_;(repeat first | dsimp only [go_sem,rA,rM,rS] | simp only [nbr]))
         refine br_f (by simp;omega) ?_
         dsimp only [go_sem,rA,rM,rS]
         refine ⟨_,⟨l2,pq,cut_no Meet.day ce hg,rfl⟩,?_⟩
         try simp only [rowO]
         (refine entO_id ?_ ?_ ?_ rfl <;> dsimp only [meetL,id,go_sem,rA,rM,rS] <;> simp [meetL,KFR_iff,KFR_app,KFR,KFL,KF,mtL_same,mtO,nbr])
     · skip
       repeat (refine gb ?_;(repeat first | dsimp only [go_sem,rA,rM,rS] | simp only [nbr]))
       refine br_f (by simp;omega) ?_
       dsimp only [go_sem,rA,rM,rS]
       have ce:=cutl_no Meet.day cd hf
       have pq:=pp
       have hl2:=pq.len
       by_cases hg:mid < mid + m - i ∧ mid + m - i < b
       · rw [show decide ((mid:Int) < ((mid + m - i:Nat):Int)) = true from by simp;omega]
         repeat (refine .inl ⟨rfl,?_⟩;(repeat first | dsimp only [go_sem,rA,rM,rS] | simp only [nbr]))
         refine br_t (by simp;omega) ?_
         dsimp only [go_sem,rA,rM,rS]
         refine callmP [0] (ih mid (mid + m - i) b l1 (by omega) hg.1 hg.2 (by omega) (by omega) ce.s3 ce.s4) rfl rfl rfl ?_ ?_ ?_
         · (repeat first | dsimp only [go_sem,rA,rM,rS] | simp only [nbr])
           simp [mtL,mtB,mtS]
         · (repeat first | dsimp only [go_sem,rA,rM,rS] | simp only [nbr])
           simp [KFR_iff,meetL,KFL,KF]
         rintro _ ⟨l3,hp3,hs4,rfl⟩
         (repeat first | dsimp only [rowO,go_sem,rA,rM,rS] | simp only [nbr])
         refine ⟨_,⟨l3,pq.trans (hp3.mono (by omega) (by omega)),cut_rec Meet.day ce hp3 hs4 (by omega),rfl⟩,?_⟩
         try simp only [rowO]
         (refine entO_id ?_ ?_ ?_ rfl <;> dsimp only [meetL,id,go_sem,rA,rM,rS] <;> simp [meetL,KFR_iff,KFR_app,KFR,KFL,KF,mtL_same,mtO,nbr])
       · skip
         repeat (refine gb ?_;(repeat first | dsimp only [go_sem,rA,rM,rS] | simp only [nbr]))
         refine br_f (by simp;omega) ?_
         dsimp only [go_sem,rA,rM,rS]
         refine ⟨_,⟨l1,pq,cut_no Meet.day ce hg,rfl⟩,?_⟩
         try simp only [rowO]
         (refine entO_id ?_ ?_ ?_ rfl <;> dsimp only [meetL,id,go_sem,rA,rM,rS] <;> simp [meetL,KFR_iff,KFR_app,KFR,KFL,KF,mtL_same,mtO,nbr])
   · skip
     repeat (refine gb ?_;(repeat first | dsimp only [go_sem,rA,rM,rS] | simp only [nbr]))
     refine br_f (by simp;omega) ?_
     dsimp only [go_sem,rA,rM,rS]
     have cd:=cutd_no Meet.day cut hs1 hs2 hr
     have pp:PIn a b l l:=.refl _ _ _
     have hl1:=pp.len
     by_cases hf:a < i ∧ i < mid
     · rw [show decide ((a:Int) < (i:Int)) = true from by simp;omega]
       repeat (refine .inl ⟨rfl,?_⟩;(repeat first | dsimp only [go_sem,rA,rM,rS] | simp only [nbr]))
       refine br_t (by simp;omega) ?_
       dsimp only [go_sem,rA,rM,rS]
       refine callmP [0] (ih a i mid l (by omega) hf.1 hf.2 (by omega) (by omega) cd.s1 cd.s2) rfl rfl rfl ?_ ?_ ?_
       · (repeat first | dsimp only [go_sem,rA,rM,rS] | simp only [nbr])
         simp [mtL,mtB,mtS]
       · (repeat first | dsimp only [go_sem,rA,rM,rS] | simp only [nbr])
         simp [KFR_iff,meetL,KFL,KF]
       rintro _ ⟨l2,hp2,hs3,rfl⟩
       (repeat first | dsimp only [rowO,go_sem,rA,rM,rS] | simp only [nbr])
       have ce:=cutl_rec Meet.day cd hp2 hs3 (by omega)
       have pq:PIn a b l l2:=pp.trans (hp2.mono (by omega) (by omega))
       have hl2:=pq.len
       by_cases hg:mid < mid + m - i ∧ mid + m - i < b
       · rw [show decide ((mid:Int) < ((mid + m - i:Nat):Int)) = true from by simp;omega]
         repeat (refine .inl ⟨rfl,?_⟩;(repeat first | dsimp only [go_sem,rA,rM,rS] | simp only [nbr]))
         refine br_t (by simp;omega) ?_
         dsimp only [go_sem,rA,rM,rS]
         refine callmP [0] (ih mid (mid + m - i) b l2 (by omega) hg.1 hg.2 (by omega) (by omega) ce.s3 ce.s4) rfl rfl rfl ?_ ?_ ?_
         · (repeat first | dsimp only [go_sem,rA,rM,rS] | simp only [nbr])
           simp [mtL,mtB,mtS]
         · (repeat first | dsimp only [go_sem,rA,rM,rS] | simp only [nbr])
           simp [KFR_iff,meetL,KFL,KF]
         rintro _ ⟨l3,hp3,hs4,rfl⟩
         (repeat first | dsimp only [rowO,go_sem,rA,rM,rS] | simp only [nbr])
         refine ⟨_,⟨l3,pq.trans (hp3.mono (by omega) (by omega)),cut_rec Meet.day ce hp3 hs4 (by omega),rfl⟩,?_⟩
         try simp only [rowO]
         (refine entO_id ?_ ?_ ?_ rfl <;> dsimp only [meetL,id,go_sem,rA,rM,rS] <;> simp [meetL,KFR_iff,KFR_app,KFR,KFL,KF,mtL_same,mtO,nbr])
       · skip
         repeat (refine gb ?_;(repeat first | dsimp only [go_sem,rA,rM,rS] | simp only [nbr]))
         refine br_f (by simp;omega) ?_
         dsimp only [go_sem,rA,rM,rS]
         refine ⟨_,⟨l2,pq,cut_no Meet.day ce hg,rfl⟩,?_⟩
         try simp only [rowO]
         (refine entO_id ?_ ?_ ?_ rfl <;> dsimp only [meetL,id,go_sem,rA,rM,rS] <;> simp [meetL,KFR_iff,KFR_app,KFR,KFL,KF,mtL_same,mtO,nbr])
     · skip
       repeat (refine gb ?_;(repeat first | dsimp only [go_sem,rA,rM,rS] | simp only [nbr]))
       refine br_f (by simp;omega) ?_
       dsimp only [go_sem,rA,rM,rS]
       have ce:=cutl_no Meet.day cd hf
       have pq:=pp
       have hl2:=pq.len
       by_cases hg:mid < mid + m - i ∧ mid + m - i < b
       · rw [show decide ((mid:Int) < ((mid + m - i:Nat):Int)) = true from by simp;omega]
         repeat (refine .inl ⟨rfl,?_⟩;(repeat first | dsimp only [go_sem,rA,rM,rS] | simp only [nbr]))
         refine br_t (by simp;omega) ?_
         dsimp only [go_sem,rA,rM,rS]
         refine callmP [0] (ih mid (mid + m - i) b l (by omega) hg.1 hg.2 (by omega) (by omega) ce.s3 ce.s4) rfl rfl rfl ?_ ?_ ?_
         · (repeat first | dsimp only [go_sem,rA,rM,rS] | simp only [nbr])
           simp [mtL,mtB,mtS]
         · (repeat first | dsimp only [go_sem,rA,rM,rS] | simp only [nbr])
           simp [KFR_iff,meetL,KFL,KF]
         rintro _ ⟨l3,hp3,hs4,rfl⟩
         (repeat first | dsimp only [rowO,go_sem,rA,rM,rS] | simp only [nbr])
         refine ⟨_,⟨l3,pq.trans (hp3.mono (by omega) (by omega)),cut_rec Meet.day ce hp3 hs4 (by omega),rfl⟩,?_⟩
         try simp only [rowO]
         (refine entO_id ?_ ?_ ?_ rfl <;> dsimp only [meetL,id,go_sem,rA,rM,rS] <;> simp [meetL,KFR_iff,KFR_app,KFR,KFL,KF,mtL_same,mtO,nbr])
       · skip
         repeat (refine gb ?_;(repeat first | dsimp only [go_sem,rA,rM,rS] | simp only [nbr]))
         refine br_f (by simp;omega) ?_
         dsimp only [go_sem,rA,rM,rS]
         refine ⟨_,⟨l,pq,cut_no Meet.day ce hg,rfl⟩,?_⟩
         try simp only [rowO]
         (refine entO_id ?_ ?_ ?_ rfl <;> dsimp only [meetL,id,go_sem,rA,rM,rS] <;> simp [meetL,KFR_iff,KFR_app,KFR,KFL,KF,mtL_same,mtO,nbr])
end Go.Proofs.Ytnlfjchbhgikaaa
namespace Go.Azalai
section
variable {α : Type} (key:α → Int)
def Blk (s a b:Nat) (l:List α):Prop:=∀ p q,a ≤ p → p < q → q < b → p / s = q / s → ky key l p ≤ ky key l q
theorem blk_none {s:Nat} {l:List α}:Blk key s 0 0 l:=fun p q h1 h2 h3=>by omega
theorem in_blk {s c p q:Nat} (h:p / s = q / s) (h1:s * c ≤ q) (hs:0 < s):s * c ≤ p:=by
 have e1:c ≤ q / s:=(Nat.le_div_iff_mul_le hs).2 (by rw [Nat.mul_comm];exact h1)
 rw [← h] at e1
 have:=(Nat.le_div_iff_mul_le hs).1 e1
 rwa [Nat.mul_comm] at this
theorem blk_step {s c b:Nat} {l l':List α} (hs:0 < s) (h:Blk key s 0 (s * c) l) (hp:PIn (s * c) b l l') (h':Srt key (s * c) b l'):Blk key s 0 b l':=fun p q g1 g2 g3 e=>by
 by_cases hq:q < s * c
 · rw [hp.ky key (.inl (by omega)),hp.ky key (.inl hq)];exact h p q g1 g2 hq e
 · exact h' p q (in_blk e (by omega) hs) g2 g3
theorem blk_rest {s a b n:Nat} {l l':List α} (h:Blk key s a n l) (hp:PIn a b l l') (hab:a ≤ b):Blk key s b n l':=fun p q g1 g2 g3 e=>by
 rw [hp.ky key (.inr g1),hp.ky key (.inr (by omega))];exact h p q (by omega) g2 g3 e
theorem same_blk {s c p:Nat} (h1:s * c ≤ p) (h2:p < s * c + s):p / s = c:=by
 have hs:0 < s:=by omega
 apply Nat.le_antisymm
 · have:p / s < c + 1:=(Nat.div_lt_iff_lt_mul hs).2 (by rw [Nat.add_mul,Nat.one_mul,Nat.mul_comm];exact h2)
   omega
 · exact (Nat.le_div_iff_mul_le hs).2 (by rw [Nat.mul_comm];exact h1)
theorem blk_srt {s c a b n:Nat} {l:List α} (h:Blk key s a n l) (ha:a ≤ s * c) (hb:b ≤ s * c + s) (hn:b ≤ n):Srt key (s * c) b l:=fun p q g1 g2 g3=>by
 refine h p q (by omega) g2 (by omega) ?_
 rw [same_blk g1 (by omega),same_blk (c:=c) (p:=q) (by omega) (by omega)]
end
end Go.Azalai
set_option maxRecDepth 100000
set_option maxHeartbeats 4000000
namespace Go.Proofs.Ytnlfjchbhgikaaa
open Go Go.Sx Go.Azalai
theorem stb_ok (v n:Nat) (l:List Meet) (hn:n = l.length) (hL:l.length < 1152921504606846976) :
 CtM Try.prog 98 [(0,.row v 4 (l.map meetL) 73)] 1 [.mr 0 v,I n,.cl 81 []] (fun o=>∃ l',PIn 0 n l l' ∧ Srt Meet.day 0 n l' ∧ o = rowO v l'):=by
 refine m98 (by simp [hpb]) (fun o ho=>by obtain ⟨l',_,_,rfl⟩:=ho;simp [rowO,KX,KXL,KXP,KXH,KFR_iff,KFL,KF,meetL]) ?_
 dsimp only [c98,r98,go_sem,rA,rM,rS]
 refine loopO (fun s:Nat × List Meet=>[(7,I (20 * s.1:Nat)),(8,I (20 * s.1 + 20:Nat))]) (fun s=>[(0,.row v 4 (s.2.map meetL) 73)]) (fun s=>20 * s.1 ≤ n ∧ PIn 0 n l s.2 ∧ Blk Meet.day 20 0 (20 * s.1) s.2) (fun s=>n - 20 * s.1) (0,l) ⟨by simp only;omega,.refl _ _ _,blk_none Meet.day⟩ ?_ ?_
 · (refine ent_id ?_ ?_ ?_ rfl rfl <;> dsimp only [meetL,id,go_sem,rA,rM,rS] <;> simp [meetL,KFR_iff,KFR_app,KFR,KFL,KF,mtL_same,mtO,nbr])
 rintro ⟨c,l1⟩ ⟨hc,hp,hb⟩
 simp only at hc hp hb
 have hl1:=hp.len
 dsimp only [go_sem,rA,rM,rS]
 by_cases hlt:20 * c + 20 ≤ n
 · refine br_t (by simp;omega) ?_
   dsimp only [go_sem,rA,rM,rS]
   refine callmP [0] (inss_ok v (20 * c) (20 * c + 20) l1 (by omega) (by omega) (by omega)) rfl rfl rfl ?_ ?_ ?_
   · (repeat first | dsimp only [go_sem,rA,rM,rS] | simp only [nbr])
     simp [mtL,mtB,mtS]
   · (repeat first | dsimp only [go_sem,rA,rM,rS] | simp only [nbr])
     simp [KFR_iff,meetL,KFL,KF]
   rintro _ ⟨l2,hp2,hs2,rfl⟩
   (repeat first | dsimp only [rowO,go_sem,rA,rM,rS] | simp only [nbr])
   rw [w64_in (n:=((20 * c + 20:Nat):Int) + 20) (by omega) (by omega)]
   refine ⟨(c + 1,l2),⟨by simp only;omega,hp.trans (hp2.mono (by omega) (by omega)),?_⟩,by simp only;omega,?_⟩
   · exact blk_step Meet.day (by omega) hb hp2 hs2
   rw [show ((20 * c + 20:Nat):Int) + 20 = ((20 * (c + 1) + 20:Nat):Int) from by omega,show 20 * c + 20 = 20 * (c + 1) from by omega]
   (refine ent_id ?_ ?_ ?_ rfl rfl <;> dsimp only [meetL,id,go_sem,rA,rM,rS] <;> simp [meetL,KFR_iff,KFR_app,KFR,KFL,KF,mtL_same,mtO,nbr])
 refine br_f (by simp;omega) ?_
 dsimp only [go_sem,rA,rM,rS]
 refine callmP [0] (inss_ok v (20 * c) n l1 (by omega) (by omega) (by omega)) rfl rfl rfl ?_ ?_ ?_
 · (repeat first | dsimp only [go_sem,rA,rM,rS] | simp only [nbr])
   simp [mtL,mtB,mtS]
 · (repeat first | dsimp only [go_sem,rA,rM,rS] | simp only [nbr])
   simp [KFR_iff,meetL,KFL,KF]
 rintro _ ⟨l2,hp2,hs2,rfl⟩
 (repeat first | dsimp only [rowO,go_sem,rA,rM,rS] | simp only [nbr])
 have hb2:=blk_step Meet.day (by omega) hb hp2 hs2
 refine loopO (fun s:Nat × List Meet × Int × Int=>[(6,I (s.1:Nat)),(7,I s.2.2.1),(8,I s.2.2.2)]) (fun s=>[(0,.row v 4 (s.2.1.map meetL) 73)]) (fun s=>(0 < s.1 ∧ s.1 ≤ 2 * n + 20) ∧ PIn 0 n l s.2.1 ∧ Blk Meet.day s.1 0 n s.2.1) (fun s=>n - s.1) (20,l2,((20 * c:Nat):Int),((20 * c + 20:Nat):Int)) ⟨by simp only;omega,hp.trans (hp2.mono (by omega) (by omega)),hb2⟩ ?_ ?_
 · (refine ent_id ?_ ?_ ?_ rfl rfl <;> dsimp only [meetL,id,go_sem,rA,rM,rS] <;> simp [meetL,KFR_iff,KFR_app,KFR,KFL,KF,mtL_same,mtO,nbr])
 rintro ⟨s,l3,z1,z2⟩ ⟨⟨hs0,hs1⟩,hp3,hb3⟩
 simp only at hs0 hs1 hp3 hb3
 have hl3:=hp3.len
 dsimp only [go_sem,rA,rM,rS]
 by_cases hlt:s < n
 case neg =>
  refine br_f (by simp;omega) ?_
  dsimp only [go_sem,rA,rM,rS]
  refine ⟨_,⟨l3,hp3,?_,rfl⟩,?_⟩
  · have:=blk_srt Meet.day (c:=0) hb3 (Nat.zero_le _) (show n ≤ s * 0 + s by omega) (Nat.le_refl _)
    rwa [Nat.mul_zero] at this
  · try simp only [rowO]
    (refine entO_id ?_ ?_ ?_ rfl <;> dsimp only [meetL,id,go_sem,rA,rM,rS] <;> simp [meetL,KFR_iff,KFR_app,KFR,KFL,KF,mtL_same,mtO,nbr])
 refine br_t (by simp;omega) ?_
 dsimp only [go_sem,rA,rM,rS]
 rw [w64_in (n:=2 * (s:Int)) (by omega) (by omega)]
 refine loopO (fun z:Nat × List Meet=>[(7,I (2 * s * z.1:Nat)),(8,I (2 * s * z.1 + 2 * s:Nat))]) (fun z=>[(0,.row v 4 (z.2.map meetL) 73)]) (fun z=>2 * s * z.1 ≤ n ∧ PIn 0 n l z.2 ∧ Blk Meet.day (2 * s) 0 (2 * s * z.1) z.2 ∧ Blk Meet.day s (2 * s * z.1) n z.2) (fun z=>n - 2 * s * z.1) (0,l3) ⟨by simp only;omega,hp3,blk_none Meet.day,hb3⟩ ?_ ?_
 · rw [show 2 * (s:Int) = ((2 * s * 0 + 2 * s:Nat):Int) from by omega]
   (refine ent_id ?_ ?_ ?_ rfl rfl <;> dsimp only [meetL,id,go_sem,rA,rM,rS] <;> simp [meetL,KFR_iff,KFR_app,KFR,KFL,KF,mtL_same,mtO,nbr])
 rintro ⟨c',l4⟩ ⟨hc4,hp4,hb4,hb5⟩
 simp only at hc4 hp4 hb4 hb5
 have hl4:=hp4.len
 have e5:s * (2 * c') = 2 * s * c':=by rw [← Nat.mul_assoc,Nat.mul_comm s 2]
 have e6:s * (2 * c' + 1) = 2 * s * c' + s:=by rw [Nat.mul_add,e5,Nat.mul_one]
 have e7:2 * s * (c' + 1) = 2 * s * c' + 2 * s:=by rw [Nat.mul_add,Nat.mul_one]
 dsimp only [go_sem,rA,rM,rS]
 have hq1:2 * s * c' + s ≤ n → Srt Meet.day (2 * s * c') (2 * s * c' + s) l4:=fun h=>by
  have:=blk_srt Meet.day (c:=2 * c') (b:=2 * s * c' + s) hb5 (by omega) (by omega) (by omega)
  rwa [e5] at this
 have hq2:∀ b,b ≤ 2 * s * c' + 2 * s → b ≤ n → Srt Meet.day (2 * s * c' + s) b l4:=fun b h1 h2=>by
  have:=blk_srt Meet.day (c:=2 * c' + 1) (b:=b) hb5 (by omega) (by omega) (by omega)
  rwa [e6] at this
 have hstep:∀ b l',PIn (2 * s * c') b l4 l' → Srt Meet.day (2 * s * c') b l' → Blk Meet.day (2 * s) 0 b l':=fun b l' h1 h2=>blk_step Meet.day (by omega) hb4 h1 h2
 have hlast:n ≤ 2 * s * c' + s → Blk Meet.day (2 * s) 0 n l4:=fun h=>by
  have:=blk_srt Meet.day (c:=2 * c') (b:=n) hb5 (by omega) (by omega) (by omega)
  rw [e5] at this
  exact hstep n l4 (.refl _ _ _) this
 clear hb4
 clear e5 e6
 generalize ha:2 * s * c' = a at *
 by_cases hlt2:a + 2 * s ≤ n
 · refine br_t (by simp;omega) ?_
   dsimp only [go_sem,rA,rM,rS]
   rw [w64_in (n:=(a:Int) + (s:Int)) (by omega) (by omega),show (a:Int) + (s:Int) = ((a + s:Nat):Int) from by omega]
   refine callmP [0] (sym_ok v _ a (a + s) (a + 2 * s) l4 (Nat.le_refl _) (by omega) (by omega) (by omega) (by omega) (hq1 (by omega)) (hq2 _ (by omega) (by omega))) rfl rfl rfl ?_ ?_ ?_
   · (repeat first | dsimp only [go_sem,rA,rM,rS] | simp only [nbr])
     simp [mtL,mtB,mtS]
   · (repeat first | dsimp only [go_sem,rA,rM,rS] | simp only [nbr])
     simp [KFR_iff,meetL,KFL,KF]
   rintro _ ⟨l5,hp5,hs5,rfl⟩
   (repeat first | dsimp only [rowO,go_sem,rA,rM,rS] | simp only [nbr])
   rw [w64_in (n:=2 * (s:Int)) (by omega) (by omega),w64_in (n:=((a + 2 * s:Nat):Int) + 2 * (s:Int)) (by omega) (by omega)]
   refine ⟨(c' + 1,l5),⟨by simp only;omega,hp4.trans (hp5.mono (by omega) (by omega)),?_,?_⟩,by simp only [e7,ha];omega,?_⟩
   · simp only;rw [e7];exact hstep _ _ hp5 hs5
   · simp only;rw [e7];exact blk_rest Meet.day hb5 hp5 (by omega)
   · simp only [e7]
     rw [show ((a + 2 * s:Nat):Int) + 2 * (s:Int) = ((a + 2 * s + 2 * s:Nat):Int) from by omega]
     (refine ent_id ?_ ?_ ?_ rfl rfl <;> dsimp only [meetL,id,go_sem,rA,rM,rS] <;> simp [meetL,KFR_iff,KFR_app,KFR,KFL,KF,mtL_same,mtO,nbr])
 refine br_f (by simp;omega) ?_
 dsimp only [go_sem,rA,rM,rS]
 rw [w64_in (n:=(a:Int) + (s:Int)) (by omega) (by omega),show (a:Int) + (s:Int) = ((a + s:Nat):Int) from by omega]
 by_cases hm:a + s < n
 · refine br_t (by simp;omega) ?_
   dsimp only [go_sem,rA,rM,rS]
   refine callmP [0] (sym_ok v _ a (a + s) n l4 (Nat.le_refl _) (by omega) (by omega) (by omega) (by omega) (hq1 (by omega)) (hq2 _ (by omega) (by omega))) rfl rfl rfl ?_ ?_ ?_
   · (repeat first | dsimp only [go_sem,rA,rM,rS] | simp only [nbr])
     simp [mtL,mtB,mtS]
   · (repeat first | dsimp only [go_sem,rA,rM,rS] | simp only [nbr])
     simp [KFR_iff,meetL,KFL,KF]
   rintro _ ⟨l5,hp5,hs5,rfl⟩
   (repeat first | dsimp only [rowO,go_sem,rA,rM,rS] | simp only [nbr])
   rw [w64_in (n:=(s:Int) * 2) (by omega) (by omega),show (s:Int) * 2 = ((2 * s:Nat):Int) from by omega]
   refine ⟨(2 * s,l5,(a:Int),((a + 2 * s:Nat):Int)),⟨by simp only;omega,hp4.trans (hp5.mono (by omega) (by omega)),hstep _ _ hp5 hs5⟩,by simp only;omega,?_⟩
   (refine ent_id ?_ ?_ ?_ rfl rfl <;> dsimp only [meetL,id,go_sem,rA,rM,rS] <;> simp [meetL,KFR_iff,KFR_app,KFR,KFL,KF,mtL_same,mtO,nbr])
 refine br_f (by simp;omega) ?_
 dsimp only [go_sem,rA,rM,rS]
 rw [w64_in (n:=(s:Int) * 2) (by omega) (by omega),show (s:Int) * 2 = ((2 * s:Nat):Int) from by omega]
 refine ⟨(2 * s,l4,(a:Int),((a + 2 * s:Nat):Int)),⟨by simp only;omega,hp4,hlast (by omega)⟩,by simp only;omega,?_⟩
 (refine ent_id ?_ ?_ ?_ rfl rfl <;> dsimp only [meetL,id,go_sem,rA,rM,rS] <;> simp [meetL,KFR_iff,KFR_app,KFR,KFL,KF,mtL_same,mtO,nbr])
theorem sort_ok (v:Nat) (l:List Meet) (hL:l.length < 1152921504606846976) :
 CtM Try.prog 80 [(0,.row v 4 (l.map meetL) 73)] 1 [.mr 0 v,.cl 81 []] (fun o=>∃ l',PIn 0 l.length l l' ∧ Srt Meet.day 0 l.length l' ∧ o = rowO v l'):=by
 refine m80 (by simp [hpb]) (fun o ho=>by obtain ⟨l',_,_,rfl⟩:=ho;simp [rowO,KX,KXL,KXP,KXH,KFR_iff,KFL,KF,meetL]) ?_
 dsimp only [c80,r80,go_sem,rA,rM,rS]
 (repeat first | dsimp only [go_sem,rA,rM,rS] | simp only [nbr])
 simp only [List.length_map]
 refine callmP [0] (stb_ok v l.length l rfl hL) rfl rfl rfl ?_ ?_ ?_
 · (repeat first | dsimp only [go_sem,rA,rM,rS] | simp only [nbr])
   simp [mtL,mtB,mtS]
 · (repeat first | dsimp only [go_sem,rA,rM,rS] | simp only [nbr])
   simp [KFR_iff,meetL,KFL,KF]
 rintro _ ⟨l5,hp5,hs5,rfl⟩
 (repeat first | dsimp only [rowO,go_sem,rA,rM,rS] | simp only [nbr])
 refine ⟨_,⟨l5,hp5,hs5,rfl⟩,?_⟩
 try simp only [rowO]
 (refine entO_id ?_ ?_ ?_ rfl <;> dsimp only [meetL,id,go_sem,rA,rM,rS] <;> simp [meetL,KFR_iff,KFR_app,KFR,KFL,KF,mtL_same,mtO,nbr])
end Go.Proofs.Ytnlfjchbhgikaaa
set_option maxRecDepth 100000
set_option maxHeartbeats 4000000
namespace Go.Azalai
def oddM (n:Int) (m:Meet):Bool:=!(inR 0 (n - 1) m.a && inR 0 (n - 1) m.b) || decide (m.a = m.b) || !inR 0 100000 m.day
end Go.Azalai
namespace Go.Proofs.Ytnlfjchbhgikaaa
open Go Go.Sx Go.Azalai
theorem idx97 (h:Nat) (caps:List SV) (hk:KFL caps) (g:Meet → Bool) (l:List Meet) (hg:∀ x ∈ l,Ct Try.prog h (.agg (meetL x) :: caps) (B (g x))) (hl:l.length < 4611686018427387904) {c:Bool} :
 Ct Try.prog 97 [.sl c 4 (l.map meetL),.cl h caps] (I (idxF g l 0)):=by
 refine t97 ⟨by simp [KF,KFR_iff,KFL,meetL],hk,trivial⟩ (by simp [KF]) ?_
 dsimp only [c97,r97,go_sem,rA,rM,rS]
 refine loopO (fun k:Nat=>[(8,I k)]) (fun _=>[]) (fun k=>k ≤ l.length ∧ idxF g (l.drop k) k = idxF g l 0) (fun k=>l.length - k) 0 ⟨Nat.zero_le _,rfl⟩ ?_ ?_
 · (refine ent_id ?_ ?_ ?_ rfl rfl <;> dsimp only [meetL,hk,id,go_sem,rA,rM,rS] <;> simp [meetL,hk,KFR_iff,KFR_app,KFR,KFL,KF,mtL_same,mtO,nbr])
 · intro k ⟨hk',hi⟩
   dsimp only [go_sem,rA,rM,rS]
   refine br ?_ ?_
   · intro hlt
     have hlt:k < l.length:=by simpa using hlt
     dsimp only [go_sem,rA,rM,rS]
     refine ixs_map k hlt rfl ?_
     dsimp only [meetL,go_sem,rA,rM,rS]
     refine call (hg l[k] (List.getElem_mem _)) ?_
     dsimp only [go_sem,rA,rM,rS]
     refine br ?_ ?_
     · intro hgx
       dsimp only [go_sem,rA,rM,rS]
       rw [← hi,List.drop_eq_getElem_cons hlt]
       simp [idxF,hgx]
     · intro hgx
       dsimp only [go_sem,rA,rM,rS]
       refine ⟨k + 1,⟨by omega,?_⟩,by omega,?_⟩
       · rw [← hi,List.drop_eq_getElem_cons hlt];simp [idxF,hgx]
       · rw [w64_in (by omega) (by omega)]
         (refine ent_id ?_ ?_ ?_ rfl rfl <;> dsimp only [meetL,hk,id,go_sem,rA,rM,rS] <;> simp [meetL,hk,KFR_iff,KFR_app,KFR,KFL,KF,mtL_same,mtO,nbr])
   · intro hlt
     have hlt:k = l.length:=by simp at hlt;omega
     dsimp only [go_sem,rA,rM,rS]
     rw [← hi,hlt];simp [idxF]
theorem con78 (h:Nat) (caps:List SV) (hk:KFL caps) (g:Meet → Bool) (l:List Meet) (hg:∀ x ∈ l,Ct Try.prog h (.agg (meetL x) :: caps) (B (g x))) (hl:l.length < 4611686018427387904) {c:Bool} :
 Ct Try.prog 78 [.sl c 4 (l.map meetL),.cl h caps] (B (l.any g)):=by
 refine t78 ⟨by simp [KF,KFR_iff,KFL,meetL],hk,trivial⟩ (by simp [KF]) ?_
 dsimp only [c78,r78,go_sem,rA,rM,rS]
 refine call (idx97 h caps hk g l hg hl) ?_
 dsimp only [go_sem,rA,rM,rS]
 rw [idxF_any]
theorem del_ok (m:Meet):Ct Try.prog 85 [.agg (meetL m)] (B (!m.close)):=by
 refine t85 (by simp [meetL,KFL,KF]) (by simp [KFL,KF]) ?_
 dsimp only [c85,r85,meetL,go_sem,rA,rM,rS]
theorem odd_ok (n:Int) (hn:1 ≤ n) (hn':n ≤ 30) (m:Meet):Ct Try.prog 77 [.agg (meetL m),.ps [I n] 0] (B (oddM n m)):=by
 refine t77 (by simp [meetL,KFL,KF]) (by simp [KFL,KF]) ?_
 dsimp only [c77,r77,meetL,go_sem,rA,rM,rS]
 rw [w64_in (n:=n - 1) (by omega) (by omega)]
 refine call (from2 0 (n - 1) m.a m.b true) ?_
 dsimp only [go_sem,rA,rM,rS]
 repeat (refine gb ?_;dsimp only [go_sem,rA,rM,rS])
 refine call (from1 0 100000 m.day true) ?_
 dsimp only [go_sem,rA,rM,rS]
 repeat (refine gb ?_;dsimp only [go_sem,rA,rM,rS])
 simp only [Option.some.injEq,SV.v.injEq,Value.bool.injEq,oddM]
 rfl
theorem repi_ok (x:Int) (n:Nat) (h0:1 ≤ n) (h1:n ≤ 1000) (k:Bool):CtM Try.prog 100 [] 0 [.sl k 1 [[I x]],I n] (fun o=>o = ⟨false,.mr 0 0,[(0,.row 0 1 (List.replicate n [I x]) 3)],1⟩):=by
 have hm:KFL [I x]:=by simp [KFL,KF]
 have hone:allOne [I x] = true:=rfl
 have hkr:=kfr_rep hm n
 refine m100 (by simp [hpb]) (fun o ho=>by subst ho;simp only [KX,KXL,KXP,KXH];exact ⟨trivial,hkr,trivial⟩) ?_
 generalize [I x] = row at hm hone hkr
 dsimp only [c100,r100,go_sem,rA,rM,rS]
 refine br_f (by simp) ?_
 dsimp only [go_sem,rA,rM,rS]
 rw [show ((1:Nat):Int) = 1 from rfl]
 simp (disch:=omega) only [uw]
 refine call (mul_ok n (by omega) (by omega)) ?_
 dsimp only [U64,go_sem,rA,rM,rS]
 refine gb ?_
 dsimp only [go_sem,rA,rM,rS]
 refine gb ?_
 dsimp only [go_sem,rA,rM,rS]
 refine br_f (by simp;omega) ?_
 dsimp only [go_sem,rA,rM,rS]
 refine ⟨n,w64_in (by omega) (by omega),by omega,?_⟩
 have hz:KFL [SV.v (Value.int IntKind.i64 0)]:=by simp [KFL,KF]
 generalize [SV.v (Value.int IntKind.i64 0)] = z at hz
 dsimp only [go_sem,rA,rM,rS]
 refine ⟨(by intro c hc;simp only [List.mem_singleton] at hc;subst hc;exact hone),by simp,?_⟩
 have hmin:min n 1 = 1:=by omega
 simp only [List.length_replicate,List.length_singleton,hmin,List.drop_replicate]
 dsimp only [go_sem,rA,rM,rS]
 refine loopO (fun j:Nat=>[(8,I j)]) (fun j=>[(0,.row 0 1 (List.replicate j row ++ List.replicate (n - j) z) 3)]) (fun j=>1 ≤ j ∧ j ≤ n) (fun j=>n - j) 1 ⟨Nat.le_refl _,h0⟩ ?_ ?_
 · refine ent_id ?_ ?_ ?_ rfl rfl <;> dsimp only [id,go_sem,rA,rM,rS] <;> simp [KFR_app,kfr_rep,hz,hm,mtL_same,mtO,nbr,KFR,KFL,KF]
 rintro j ⟨hj0,hj⟩
 dsimp only [go_sem,rA,rM,rS]
 simp only [List.length_append,List.length_replicate,show j + (n - j) = n from by omega]
 by_cases hlt:j < n
 · refine br_t (by simpa using hlt) ?_
   dsimp only [go_sem,rA,rM,rS]
   refine ⟨j,n,⟨rfl,by simp;omega,by omega,by simp;omega⟩,?_⟩
   dsimp only [go_sem,rA,rM,rS]
   refine ⟨0,j,⟨rfl,rfl,by omega,by simp⟩,?_⟩
   dsimp only [go_sem,rA,rM,rS]
   have hx:List.take (j - 0) (List.replicate j row ++ List.replicate (n - j) z) = List.replicate j row:=by rw [Nat.sub_zero];exact List.take_left' (by simp)
   have hx':List.take j (List.replicate j row ++ List.replicate (n - j) z) = List.replicate j row:=List.take_left' (by simp)
   rw [hx]
   refine ⟨by simp,(by intro c hc;rw [List.eq_of_mem_replicate hc];exact hone),by simp,?_⟩
   simp only [List.length_replicate]
   generalize hN:min (n - j) j = N
   have e:List.take j (List.replicate j row ++ List.replicate (n - j) z) ++ (List.take N (List.replicate j row) ++ List.drop (j + N) (List.replicate j row ++ List.replicate (n - j) z)) = List.replicate (j + N) row ++ List.replicate (n - (j + N)) z:=by
    rw [hx',List.take_replicate,List.drop_append,List.drop_of_length_le (l:=List.replicate j row) (by simp),List.length_replicate,List.nil_append,List.drop_replicate,← List.append_assoc,List.replicate_append_replicate,show min N j = N from by omega]
    congr 2;omega
   rw [e]
   dsimp only [go_sem,rA,rM,rS]
   rw [show (j:Int) + (N:Int) = ((j + N:Nat):Int) from by omega,w64_in (n:=((j + N:Nat):Int)) (by omega) (by omega)]
   refine ⟨j + N,⟨by omega,by omega⟩,by omega,?_⟩
   refine ent_id ?_ ?_ ?_ rfl rfl <;> dsimp only [id,go_sem,rA,rM,rS] <;> simp [KFR_app,kfr_rep,hz,hm,mtL_same,mtO,nbr,KFR,KFL,KF]
 refine br_f (by simp;omega) ?_
 dsimp only [go_sem,rA,rM,rS]
 have hje:j = n:=by omega
 subst hje
 simp only [Nat.sub_self,List.replicate_zero,List.append_nil]
 refine ⟨_,rfl,?_⟩
 refine entO_id ?_ ?_ ?_ rfl <;> dsimp only [id,go_sem,rA,rM,rS] <;> simp [KFR_app,kfr_rep,hm,mtL_same,mtO,nbr,KFR,KFL,KF]
theorem clone_ok (l:List Meet) (hL:l.length ≤ 1000) (k:Bool):CtM Try.prog 79 [] 0 [.sl k 4 (l.map meetL)] (fun o=>o = ⟨false,.mr 0 0,[(0,.row 0 4 (l.map meetL) 73)],1⟩):=by
 refine m79 (by simp [hpb]) (fun o ho=>by subst ho;simp [KX,KXL,KXP,KXH,KFR_iff,KFL,KF,meetL]) ?_
 dsimp only [c79,r79,go_sem,rA,rM,rS]
 intro b hb
 dsimp only [go_sem,rA,rM,rS]
 cases b with
 | true =>
  have hl:l = []:=by simpa using hb rfl
  subst hl
  refine br_t rfl ?_
  dsimp only [go_sem,rA,rM,rS]
  refine ⟨_,rfl,?_⟩
  refine entO_of (ent_trans (ent_nilslot 0 4 73 rfl rfl) ?_) (fun _ _ _ e=>by cases e)
  (refine ent_id ?_ ?_ ?_ rfl rfl <;> dsimp only [meetL,id,go_sem,rA,rM,rS] <;> simp [meetL,KFR_iff,KFR_app,KFR,KFL,KF,mtL_same,mtO,nbr])
 | false =>
  refine br_f rfl ?_
  dsimp only [go_sem,rA,rM,rS]
  refine ⟨by simp;omega,?_⟩
  dsimp only [go_sem,rA,rM,rS]
  refine ⟨_,rfl,?_⟩
  (refine entO_id ?_ ?_ ?_ rfl <;> dsimp only [meetL,id,go_sem,rA,rM,rS] <;> simp [meetL,KFR_iff,KFR_app,KFR,KFL,KF,mtL_same,mtO,nbr])
end Go.Proofs.Ytnlfjchbhgikaaa
set_option maxRecDepth 100000
set_option maxHeartbeats 4000000
namespace Go.Azalai
theorem idxF_none {α : Type} (g:α → Bool):∀ (l:List α) (k:Nat),idxF g l k = -1 → l.filter (fun x=>!g x) = l
 | [],k,_=>rfl
 | x :: l,k,h=>by
  unfold idxF at h
  split at h
  · omega
  · rename_i hx
    rw [List.filter_cons_of_pos (by simp [hx]),idxF_none g l (k + 1) h]
theorem idxF_some {α : Type} (g:α → Bool):∀ (l:List α) (k:Nat),idxF g l k ≠ -1 → ∃ i,i < l.length ∧ idxF g l k = ((k + i:Nat):Int) ∧ (l.take (i + 1)).filter (fun x=>!g x) = l.take i
 | [],k,h=>by simp [idxF] at h
 | x :: l,k,h=>by
  unfold idxF at h ⊢
  by_cases hx:g x = true
  · rw [if_pos hx];exact ⟨0,by simp,by simp,by simp [hx]⟩
  · rw [if_neg hx] at h ⊢
    obtain ⟨i,h1,h2,h3⟩:=idxF_some g l (k + 1) h
    refine ⟨i + 1,by simp;omega,by rw [h2];congr 1;omega,?_⟩
    rw [List.take_succ_cons,List.filter_cons_of_pos (by simp [hx]),h3,List.take_succ_cons]
end Go.Azalai
namespace Go.Proofs.Ytnlfjchbhgikaaa
open Go Go.Sx Go.Azalai
def delPost (v:Nat) (l:List Meet) (o:Ot):Prop :=
 (l.filter (·.close) = l ∧ o = ⟨false,.mr 0 v,[(0,.row v 4 (l.map meetL) 73)],1⟩) ∨
  ∃ l':List Meet,l'.length = l.length ∧ (l.filter (·.close)).length ≤ l'.length ∧ l'.take (l.filter (·.close)).length = l.filter (·.close) ∧ o = ⟨false,.ms 0 v 4 0 (l.filter (·.close)).length,[(0,.row v 4 (l'.map meetL) 73)],1⟩
theorem delete_ok (v:Nat) (l:List Meet) (hL:l.length ≤ 1000) :
 CtM Try.prog 84 [(0,.row v 4 (l.map meetL) 73)] 1 [.mr 0 v,.cl 85 []] (delPost v l):=by
 refine m84 (by simp [hpb]) (fun o ho=>by rcases ho with ⟨_,rfl⟩ | ⟨l',_,_,_,rfl⟩ <;> simp [KX,KXL,KXP,KXH,KFR_iff,KFL,KF,meetL]) ?_
 dsimp only [c84,r84,go_sem,rA,rM,rS]
 refine callv (by simp [FLT]) (res:=I (idxF (fun m:Meet=>!m.close) l 0)) ?_ ?_
 · (repeat first | dsimp only [go_sem,rA,rM,rS] | simp only [nbr])
   exact idx97 85 [] trivial (fun m:Meet=>!m.close) l (fun m _=>del_ok m) (by omega)
 dsimp only [go_sem,rA,rM,rS]
 by_cases hn:idxF (fun m:Meet=>!m.close) l 0 = -1
 · refine br_t (by simpa using hn) ?_
   dsimp only [go_sem,rA,rM,rS]
   refine ⟨_,.inl ⟨by simpa using idxF_none _ l 0 hn,rfl⟩,?_⟩
   (refine entO_id ?_ ?_ ?_ rfl <;> dsimp only [meetL,id,go_sem,rA,rM,rS] <;> simp [meetL,KFR_iff,KFR_app,KFR,KFL,KF,mtL_same,mtO,nbr])
 refine br_f (by simpa using hn) ?_
 dsimp only [go_sem,rA,rM,rS]
 obtain ⟨i0,h1,h2,h3⟩:=idxF_some _ l 0 hn
 rw [Nat.zero_add] at h2
 rw [h2]
 rw [w64_in (n:=(i0:Int) + 1) (by omega) (by omega)]
 simp only [Bool.not_not] at h3
 refine loopO (fun s:Nat × Nat × List Meet=>[(5,I s.1),(6,I s.2.1)]) (fun s=>[(0,.row v 4 (s.2.2.map meetL) 73)]) (fun s=>(s.1 < s.2.1 ∧ s.2.1 ≤ l.length) ∧ s.2.2.length = l.length ∧ s.1 = ((l.take s.2.1).filter (·.close)).length ∧ s.2.2.take s.1 = (l.take s.2.1).filter (·.close) ∧ ∀ p,s.2.1 ≤ p → s.2.2[p]? = l[p]?) (fun s=>l.length - s.2.1) (i0,i0 + 1,l) ⟨by simp only;omega,rfl,by simp only [h3];simp;omega,h3.symm,fun _ _=>rfl⟩ ?_ ?_
 · rw [show (i0:Int) + 1 = ((i0 + 1:Nat):Int) from by omega]
   (refine ent_id ?_ ?_ ?_ rfl rfl <;> dsimp only [meetL,id,go_sem,rA,rM,rS] <;> simp [meetL,KFR_iff,KFR_app,KFR,KFL,KF,mtL_same,mtO,nbr])
 rintro ⟨i,j,l1⟩ ⟨⟨hij,hj⟩,hl1,hi,ht,hd⟩
 simp only at hij hj hl1 hi ht hd
 (repeat first | dsimp only [go_sem,rA,rM,rS] | simp only [nbr])
 simp only [List.length_map]
 by_cases hlt:j < l.length
 · refine br_t (by simp;omega) ?_
   (repeat first | dsimp only [go_sem,rA,rM,rS] | simp only [nbr])
   refine ixrm j rfl (by simp;omega) ?_
   (repeat first | dsimp only [go_sem,rA,rM,rS] | simp only [nbr])
   refine ldrm (by omega) ?_
   (repeat first | dsimp only [meetL,go_sem,rA,rM,rS] | simp only [nbr])
   have hlj:l1[j] = l[j]:=by
    have:=hd j (Nat.le_refl _)
    rw [List.getElem?_eq_getElem (by omega),List.getElem?_eq_getElem hlt] at this
    exact Option.some.inj this
   have htake:l.take (j + 1) = l.take j ++ [l[j]]:=(List.take_append_getElem hlt).symm
   refine call (del_ok l1[j]) ?_
   (repeat first | dsimp only [go_sem,rA,rM,rS] | simp only [nbr])
   by_cases hc:l1[j].close = true
   · refine br_t (by simp [hc]) ?_
     (repeat first | dsimp only [go_sem,rA,rM,rS] | simp only [nbr])
     refine ixrm i rfl (by simp;omega) ?_
     (repeat first | dsimp only [go_sem,rA,rM,rS] | simp only [nbr])
     refine strm l1[j] (by omega) (by simp [meetL]) (by simp [meetL,splice]) ?_
     (repeat first | dsimp only [go_sem,rA,rM,rS] | simp only [nbr])
     simp (disch:=omega) only [w64_in]
     refine ⟨(i + 1,j + 1,l1.set i l1[j]),⟨by simp only;omega,by simp [hl1],?_,?_,fun p hp=>?_⟩,by simp only;omega,?_⟩
     · simp only;rw [htake,List.filter_append,List.length_append,← hi];rw [hlj] at hc;simp [hc]
     · simp only
       rw [htake,List.filter_append,← ht,hlj]
       rw [hlj] at hc
       rw [List.take_succ_eq_append_getElem (by simp;omega)]
       simp [hc,List.take_set_of_le]
     · simp only at hp ⊢
       rw [List.getElem?_set_ne (by omega)];exact hd p (by omega)
     · rw [show (i:Int) + 1 = ((i + 1:Nat):Int) from by omega,show (j:Int) + 1 = ((j + 1:Nat):Int) from by omega]
       generalize l1.set i l1[j] = l2
       (refine ent_id ?_ ?_ ?_ rfl rfl <;> dsimp only [meetL,id,go_sem,rA,rM,rS] <;> simp [meetL,KFR_iff,KFR_app,KFR,KFL,KF,mtL_same,mtO,nbr])
   · refine br_f (by simp [hc]) ?_
     (repeat first | dsimp only [go_sem,rA,rM,rS] | simp only [nbr])
     simp (disch:=omega) only [w64_in]
     refine ⟨(i,j + 1,l1),⟨by simp only;omega,hl1,?_,?_,fun p hp=>hd p (by simp only at hp;omega)⟩,by simp only;omega,?_⟩
     · simp only;rw [htake,List.filter_append,List.length_append,← hi];rw [hlj] at hc;simp [hc]
     · simp only;rw [htake,List.filter_append,ht];rw [hlj] at hc;simp [hc]
     · rw [show (j:Int) + 1 = ((j + 1:Nat):Int) from by omega]
       (refine ent_id ?_ ?_ ?_ rfl rfl <;> dsimp only [meetL,id,go_sem,rA,rM,rS] <;> simp [meetL,KFR_iff,KFR_app,KFR,KFL,KF,mtL_same,mtO,nbr])
 refine br_f (by simp;omega) ?_
 (repeat first | dsimp only [go_sem,rA,rM,rS] | simp only [nbr])
 have hje:j = l.length:=by omega
 subst hje
 rw [List.take_length] at hi ht
 refine ⟨i,l.length,⟨rfl,by simp;omega,by omega,by simp;omega⟩,?_⟩
 (repeat first | dsimp only [go_sem,rA,rM,rS] | simp only [nbr])
 refine raw_clear (z:=.agg #[.int .i64 0,.int .i64 0,.int .i64 0,.bool false]) (zl:=[.int .i64 0,.int .i64 0,.int .i64 0,.bool false]) rfl rfl (by simp;omega) (by kernel_rfl) (by kernel_rfl) rfl rfl (by intro v hv;simp at hv;rcases hv with rfl | rfl <;> rfl) ?_
 have hrow:List.take i (List.map meetL l1) ++ (List.replicate (l.length - i) (List.map SV.v [Value.int IntKind.i64 0,Value.int IntKind.i64 0,Value.int IntKind.i64 0,Value.bool false]) ++ List.drop (i + (l.length - i)) (List.map meetL l1)) = (l1.take i ++ List.replicate (l.length - i) (⟨0,0,0,false⟩:Meet)).map meetL:=by
  rw [List.drop_of_length_le (by simp;omega),List.append_nil,List.map_append,List.map_take,List.map_replicate]
  rfl
 rw [hrow]
 obtain ⟨l2,hl2⟩:∃ l2,l2 = l1.take i ++ List.replicate (l.length - i) (⟨0,0,0,false⟩:Meet):=⟨_,rfl⟩
 rw [← hl2]
 have hlen:l2.length = l.length:=by rw [hl2];simp;omega
 have ht2:l2.take i = l.filter (·.close):=by rw [hl2,List.take_left' (by simp;omega),ht]
 (repeat first | dsimp only [go_sem,rA,rM,rS] | simp only [nbr])
 refine ⟨0,i,⟨rfl,rfl,by omega,by simp;omega⟩,?_⟩
 rw [Nat.sub_zero]
 (repeat first | dsimp only [go_sem,rA,rM,rS] | simp only [nbr])
 subst hi
 refine ⟨_,.inr ⟨l2,hlen,by omega,ht2,rfl⟩,?_⟩
 (refine entO_id ?_ ?_ ?_ rfl <;> dsimp only [meetL,id,go_sem,rA,rM,rS] <;> simp [meetL,KFR_iff,KFR_app,KFR,KFL,KF,mtL_same,mtO,nbr])
end Go.Proofs.Ytnlfjchbhgikaaa
set_option maxRecDepth 100000
set_option maxHeartbeats 4000000
namespace Go.Azalai
def gI (s:List Int) (i:Int):Int:=s.getD i.toNat 0
def inf1 (w d a b:Int) (s:List Int):List Int:=if gI s a ≤ d then s.set b.toNat (min (gI s b) (d + w)) else s
def meetS (w:Int) (m:Meet) (s:List Int):List Int:=inf1 w m.day m.b m.a (inf1 w m.day m.a m.b s)
def spreadF (w last:Int):List Meet → List Int → List Int
 | [],s=>s
 | m :: l,s=>if m.day > last then s else spreadF w last l (meetS w m s)
def baseF:List Int → List Int → List Int
 | [],s=>s
 | i :: l,s=>baseF l (s.set i.toNat 0)
theorem inf1_len (w d a b:Int) (s:List Int):(inf1 w d a b s).length = s.length:=by unfold inf1;split <;> simp
def okM (n:Int) (m:Meet):Prop:=(0 ≤ m.a ∧ m.a < n) ∧ (0 ≤ m.b ∧ m.b < n) ∧ m.a ≠ m.b ∧ 0 ≤ m.day ∧ m.day ≤ 100000
theorem gI_eq {s:List Int} {i:Int} {k:Nat} (h:i = k) (hk:k < s.length):gI s i = s[k]:=by
 unfold gI;rw [h,Int.toNat_natCast,List.getD_eq_getElem?_getD,List.getElem?_eq_getElem hk];rfl
end Go.Azalai
namespace Go.Proofs.Ytnlfjchbhgikaaa
open Go Go.Sx Go.Azalai
theorem spread_ok (n:Nat) (first:List Int) (meets:List Meet) (w last:Int) (c1 c2:Bool) (hn:1 ≤ n) (hn':n ≤ 30) (hf:∀ i ∈ first,0 ≤ i ∧ i < n) (hm:∀ m ∈ meets,okM n m) (hw:0 ≤ w ∧ w ≤ 60) (hl1:first.length ≤ 1000) (hl2:meets.length ≤ 1000) :
 Ct Try.prog 83 [I n,.sl c1 1 (first.map intL),.sl c2 4 (meets.map meetL),I w,I last] (.sl false 1 ((spreadF w last meets (baseF first (List.replicate n 100061))).map intL)):=by
 refine t83 (by simp [meetL,KFR_iff,intL,KFL,KF]) (by simp [KFR_iff,intL,KFL,KF]) ?_
 dsimp only [c83,r83,go_sem,rA,rM,rS]
 refine callmP [] (repi_ok 100061 n hn (by omega) true) rfl rfl rfl ?_ ?_ ?_
 · (repeat first | dsimp only [go_sem,rA,rM,rS] | simp only [nbr])
   simp [mtL,mtB,mtS,KFR,KFL,KF]
 · (repeat first | dsimp only [go_sem,rA,rM,rS] | simp only [nbr])
 rintro _ rfl
 (repeat first | dsimp only [go_sem,rA,rM,rS] | simp only [nbr])
 simp only [List.length_map]
 rw [show List.replicate n [I 100061] = (List.replicate n (100061:Int)).map intL from by simp [intL]]
 have hbl:∀ (l s:List Int),(baseF l s).length = s.length:=fun l=>by
  induction l with
  | nil=>intro s;rfl
  | cons i l ih=>intro s;rw [baseF,ih];simp
 have hsI:(List.replicate n (100061:Int)).length = n:=by simp
 generalize List.replicate n (100061:Int) = sI at hsI
 refine loopO (fun z:Nat × List Int=>[(22,I z.1)]) (fun z=>[(0,.row 0 1 (z.2.map intL) 3)]) (fun z=>z.1 ≤ first.length ∧ z.2.length = n ∧ baseF (first.drop z.1) z.2 = baseF first sI) (fun z=>first.length - z.1) (0,sI) ⟨Nat.zero_le _,hsI,by simp⟩ ?_ ?_
 · (refine ent_id ?_ ?_ ?_ rfl rfl <;> dsimp only [meetL,intL,id,go_sem,rA,rM,rS] <;> simp [meetL,intL,KFR_iff,KFR_app,KFR,KFL,KF,mtL_same,mtO,nbr])
 rintro ⟨k,s⟩ ⟨hk,hs,hb⟩
 simp only at hk hs hb
 dsimp only [go_sem,rA,rM,rS]
 by_cases hlt:k < first.length
 · refine br_t (by simpa using hlt) ?_
   dsimp only [go_sem,rA,rM,rS]
   refine ixs_map k hlt rfl ?_
   dsimp only [intL,go_sem,rA,rM,rS]
   have hfk:=hf first[k] (List.getElem_mem _)
   obtain ⟨p,hp⟩:∃ p:Nat,first[k] = (p:Int):=⟨first[k].toNat,by omega⟩
   rw [List.drop_eq_getElem_cons hlt,hp] at hb
   rw [hp] at hfk
   rw [hp]
   refine ixrm p rfl (by first | omega | (simp;omega)) ?_
   (repeat first | dsimp only [go_sem,rA,rM,rS] | simp only [nbr])
   refine strm (0:Int) (by first | omega | (simp;omega)) (by simp [intL]) (by simp [intL,splice]) ?_
   (repeat first | dsimp only [go_sem,rA,rM,rS] | simp only [nbr])
   rw [w64_in (n:=(k:Int) + 1) (by omega) (by omega)]
   refine ⟨(k + 1,s.set p 0),⟨hlt,by simp [hs],by simpa [baseF] using hb⟩,by simp only;omega,?_⟩
   generalize s.set p 0 = s2
   (refine ent_id ?_ ?_ ?_ rfl rfl <;> dsimp only [meetL,intL,id,go_sem,rA,rM,rS] <;> simp [meetL,intL,KFR_iff,KFR_app,KFR,KFL,KF,mtL_same,mtO,nbr])
 refine br_f (by simp;omega) ?_
 dsimp only [go_sem,rA,rM,rS]
 rw [show k = first.length from by omega,List.drop_length] at hb
 simp only [baseF] at hb
 subst hb
 generalize baseF first sI = s0 at hs
 refine loopO (fun z:Nat × List Int=>[(32,I z.1)]) (fun z=>[(0,.row 0 1 (z.2.map intL) 3)]) (fun z=>z.1 ≤ meets.length ∧ z.2.length = n ∧ spreadF w last (meets.drop z.1) z.2 = spreadF w last meets s0) (fun z=>meets.length - z.1) (0,s0) ⟨Nat.zero_le _,hs,by simp⟩ ?_ ?_
 · (refine ent_id ?_ ?_ ?_ rfl rfl <;> dsimp only [meetL,intL,id,go_sem,rA,rM,rS] <;> simp [meetL,intL,KFR_iff,KFR_app,KFR,KFL,KF,mtL_same,mtO,nbr])
 rintro ⟨j,s⟩ ⟨hj,hs',hr⟩
 simp only at hj hs' hr
 dsimp only [go_sem,rA,rM,rS]
 by_cases hlt:j < meets.length
 case neg =>
  refine br_f (by simp;omega) ?_
  dsimp only [go_sem,rA,rM,rS]
  rw [show j = meets.length from by omega,List.drop_length] at hr
  simp only [spreadF] at hr
  rw [← hr]
 refine br_t (by simpa using hlt) ?_
 dsimp only [go_sem,rA,rM,rS]
 refine ixs_map j hlt rfl ?_
 dsimp only [meetL,go_sem,rA,rM,rS]
 refine ixs_map j hlt rfl ?_
 dsimp only [meetL,go_sem,rA,rM,rS]
 refine ixs_map j hlt rfl ?_
 dsimp only [meetL,go_sem,rA,rM,rS]
 refine ixs_map j hlt rfl ?_
 dsimp only [meetL,go_sem,rA,rM,rS]
 have hmj:=hm meets[j] (List.getElem_mem _)
 rw [List.drop_eq_getElem_cons hlt] at hr
 generalize hmm:meets[j] = m at hmj hr
 obtain ⟨ma,mb,md,mc⟩:=m
 obtain ⟨⟨ha0,ha1⟩,⟨hb0,hb1⟩,hab,hd0,hd1⟩:=hmj
 simp only at ha0 ha1 hb0 hb1 hab hd0 hd1
 obtain ⟨pa,rfl⟩:∃ p:Nat,ma = p:=⟨ma.toNat,by omega⟩
 obtain ⟨pb,rfl⟩:∃ p:Nat,mb = p:=⟨mb.toNat,by omega⟩
 simp only
 refine loopO (fun z:Nat × List Int=>[(58,I z.1)]) (fun z=>[(0,.row 0 1 (z.2.map intL) 3)]) (fun z=>(z.1 = 0 ∧ z.2 = s) ∨ (z.1 = 1 ∧ ¬ md > last ∧ z.2 = inf1 w md pa pb s) ∨ (z.1 = 2 ∧ ¬ md > last ∧ z.2 = inf1 w md pb pa (inf1 w md pa pb s))) (fun z=>2 - z.1) (0,s) (.inl ⟨rfl,rfl⟩) ?_ ?_
 · (refine ent_id ?_ ?_ ?_ rfl rfl <;> dsimp only [meetL,intL,id,go_sem,rA,rM,rS] <;> simp [meetL,intL,KFR_iff,KFR_app,KFR,KFL,KF,mtL_same,mtO,nbr])
 rintro ⟨q,s1⟩ hq
 simp only at hq
 have hs1:s1.length = n:=by
  rcases hq with ⟨_,h⟩ | ⟨_,_,h⟩ | ⟨_,_,h⟩ <;> rw [h] <;> simp [inf1_len,hs']
 dsimp only [go_sem,rA,rM,rS]
 rcases hq with ⟨rfl,hss⟩ | ⟨rfl,hday,hss⟩ | ⟨rfl,hday,hss⟩
 · skip
   refine br_t (by decide) ?_
   dsimp only [go_sem,rA,rM,rS]
   refine ixa 0 rfl (by decide) ?_
   (repeat first | dsimp only [go_sem,rA,rM,rS] | simp only [nbr])
   refine ixs_map j hlt rfl ?_
   rw [hmm]
   dsimp only [meetL,go_sem,rA,rM,rS]
   by_cases hday:md > last
   · refine br_t (by simpa using hday) ?_
     dsimp only [go_sem,rA,rM,rS]
     simp only [spreadF] at hr
     rw [if_pos hday] at hr
     rw [← hr,hss]
   refine br_f (by simpa using hday) ?_
   (repeat first | dsimp only [go_sem,rA,rM,rS] | simp only [nbr])
   refine ixa 0 rfl (by decide) ?_
   (repeat first | dsimp only [go_sem,rA,rM,rS] | simp only [nbr])
   refine ixrm pa rfl (by first | omega | (simp;omega)) ?_
   (repeat first | dsimp only [go_sem,rA,rM,rS] | simp only [nbr])
   refine ldrm (by first | omega | (simp;omega)) ?_
   (repeat first | dsimp only [intL,go_sem,rA,rM,rS] | simp only [nbr])
   refine ixs_map j hlt rfl ?_
   rw [hmm]
   dsimp only [meetL,go_sem,rA,rM,rS]
   have hgpa:gI s1 (pa:Int) = s1[pa]:=gI_eq rfl (by omega)
   have hgpb:gI s1 (pb:Int) = s1[pb]:=gI_eq rfl (by omega)
   by_cases hle:s1[pa] ≤ md
   · refine br_t (by simpa using hle) ?_
     (repeat first | dsimp only [go_sem,rA,rM,rS] | simp only [nbr])
     refine ixa 1 rfl (by decide) ?_
     (repeat first | dsimp only [go_sem,rA,rM,rS] | simp only [nbr])
     refine ixa 1 rfl (by decide) ?_
     (repeat first | dsimp only [go_sem,rA,rM,rS] | simp only [nbr])
     refine ixrm pb rfl (by first | omega | (simp;omega)) ?_
     (repeat first | dsimp only [go_sem,rA,rM,rS] | simp only [nbr])
     refine ldrm (by first | omega | (simp;omega)) ?_
     (repeat first | dsimp only [intL,go_sem,rA,rM,rS] | simp only [nbr])
     refine ixs_map j hlt rfl ?_
     rw [hmm]
     dsimp only [meetL,go_sem,rA,rM,rS]
     rw [w64_in (n:=md + w) (by omega) (by omega)]
     refine ixrm pb rfl (by first | omega | (simp;omega)) ?_
     (repeat first | dsimp only [go_sem,rA,rM,rS] | simp only [nbr])
     refine strm (min s1[pb] (md + w)) (by first | omega | (simp;omega)) (by simp [intL]) (by simp [intL,splice]) ?_
     (repeat first | dsimp only [go_sem,rA,rM,rS] | simp only [nbr])
     refine ⟨(1,s1.set pb (min s1[pb] (md + w))),.inr (.inl ⟨rfl,hday,?_⟩),by simp only;omega,?_⟩
     · simp only
       rw [show inf1 w md pa pb s = inf1 w md pa pb s1 from by rw [hss]]
       unfold inf1
       rw [if_pos (by rw [hgpa];exact hle),hgpb,Int.toNat_natCast]
     generalize s1.set pb (min s1[pb] (md + w)) = s2
     (refine ent_id ?_ ?_ ?_ rfl rfl <;> dsimp only [meetL,intL,w64_1,w64_2,id,go_sem,rA,rM,rS] <;> simp [meetL,intL,w64_1,w64_2,KFR_iff,KFR_app,KFR,KFL,KF,mtL_same,mtO,nbr])
   refine br_f (by simpa using hle) ?_
   (repeat first | dsimp only [go_sem,rA,rM,rS] | simp only [nbr])
   refine ⟨(1,s1),.inr (.inl ⟨rfl,hday,?_⟩),by simp only;omega,?_⟩
   · simp only
     rw [show inf1 w md pa pb s = inf1 w md pa pb s1 from by rw [hss]]
     unfold inf1
     rw [if_neg (by rw [hgpa];exact hle)]
   (refine ent_id ?_ ?_ ?_ rfl rfl <;> dsimp only [meetL,intL,w64_1,w64_2,id,go_sem,rA,rM,rS] <;> simp [meetL,intL,w64_1,w64_2,KFR_iff,KFR_app,KFR,KFL,KF,mtL_same,mtO,nbr])
 · skip
   refine br_t (by decide) ?_
   dsimp only [go_sem,rA,rM,rS]
   refine ixa 1 rfl (by decide) ?_
   (repeat first | dsimp only [go_sem,rA,rM,rS] | simp only [nbr])
   refine ixs_map j hlt rfl ?_
   rw [hmm]
   dsimp only [meetL,go_sem,rA,rM,rS]
   refine br_f (by simpa using hday) ?_
   (repeat first | dsimp only [go_sem,rA,rM,rS] | simp only [nbr])
   refine ixa 0 rfl (by decide) ?_
   (repeat first | dsimp only [go_sem,rA,rM,rS] | simp only [nbr])
   refine ixrm pb rfl (by first | omega | (simp;omega)) ?_
   (repeat first | dsimp only [go_sem,rA,rM,rS] | simp only [nbr])
   refine ldrm (by first | omega | (simp;omega)) ?_
   (repeat first | dsimp only [intL,go_sem,rA,rM,rS] | simp only [nbr])
   refine ixs_map j hlt rfl ?_
   rw [hmm]
   dsimp only [meetL,go_sem,rA,rM,rS]
   have hgpb:gI s1 (pb:Int) = s1[pb]:=gI_eq rfl (by omega)
   have hgpa:gI s1 (pa:Int) = s1[pa]:=gI_eq rfl (by omega)
   by_cases hle:s1[pb] ≤ md
   · refine br_t (by simpa using hle) ?_
     (repeat first | dsimp only [go_sem,rA,rM,rS] | simp only [nbr])
     refine ixa 1 rfl (by decide) ?_
     (repeat first | dsimp only [go_sem,rA,rM,rS] | simp only [nbr])
     refine ixa 1 rfl (by decide) ?_
     (repeat first | dsimp only [go_sem,rA,rM,rS] | simp only [nbr])
     refine ixrm pa rfl (by first | omega | (simp;omega)) ?_
     (repeat first | dsimp only [go_sem,rA,rM,rS] | simp only [nbr])
     refine ldrm (by first | omega | (simp;omega)) ?_
     (repeat first | dsimp only [intL,go_sem,rA,rM,rS] | simp only [nbr])
     refine ixs_map j hlt rfl ?_
     rw [hmm]
     dsimp only [meetL,go_sem,rA,rM,rS]
     rw [w64_in (n:=md + w) (by omega) (by omega)]
     refine ixrm pa rfl (by first | omega | (simp;omega)) ?_
     (repeat first | dsimp only [go_sem,rA,rM,rS] | simp only [nbr])
     refine strm (min s1[pa] (md + w)) (by first | omega | (simp;omega)) (by simp [intL]) (by simp [intL,splice]) ?_
     (repeat first | dsimp only [go_sem,rA,rM,rS] | simp only [nbr])
     refine ⟨(2,s1.set pa (min s1[pa] (md + w))),.inr (.inr ⟨rfl,hday,?_⟩),by simp only;omega,?_⟩
     · simp only
       rw [show inf1 w md pb pa (inf1 w md pa pb s) = inf1 w md pb pa s1 from by rw [hss]]
       unfold inf1
       rw [if_pos (by rw [hgpb];exact hle),hgpa,Int.toNat_natCast]
     generalize s1.set pa (min s1[pa] (md + w)) = s2
     (refine ent_id ?_ ?_ ?_ rfl rfl <;> dsimp only [meetL,intL,w64_1,w64_2,id,go_sem,rA,rM,rS] <;> simp [meetL,intL,w64_1,w64_2,KFR_iff,KFR_app,KFR,KFL,KF,mtL_same,mtO,nbr])
   refine br_f (by simpa using hle) ?_
   (repeat first | dsimp only [go_sem,rA,rM,rS] | simp only [nbr])
   refine ⟨(2,s1),.inr (.inr ⟨rfl,hday,?_⟩),by simp only;omega,?_⟩
   · simp only
     rw [show inf1 w md pb pa (inf1 w md pa pb s) = inf1 w md pb pa s1 from by rw [hss]]
     unfold inf1
     rw [if_neg (by rw [hgpb];exact hle)]
   (refine ent_id ?_ ?_ ?_ rfl rfl <;> dsimp only [meetL,intL,w64_1,w64_2,id,go_sem,rA,rM,rS] <;> simp [meetL,intL,w64_1,w64_2,KFR_iff,KFR_app,KFR,KFL,KF,mtL_same,mtO,nbr])
 · refine br_f (by decide) ?_
   dsimp only [go_sem,rA,rM,rS]
   rw [w64_in (n:=(j:Int) + 1) (by omega) (by omega)]
   refine ⟨(j + 1,s1),⟨hlt,hs1,?_⟩,by simp only;omega,?_⟩
   · simp only [spreadF,meetS] at hr
     rw [if_neg hday] at hr
     show spreadF w last (List.drop (j + 1) meets) s1 = _
     rw [hss];exact hr
   (refine ent_id ?_ ?_ ?_ rfl rfl <;> dsimp only [meetL,intL,id,go_sem,rA,rM,rS] <;> simp [meetL,intL,KFR_iff,KFR_app,KFR,KFL,KF,mtL_same,mtO,nbr])
end Go.Proofs.Ytnlfjchbhgikaaa
namespace Go.Azalai
inductive Inf (first:List Int) (M:Meet → Prop) (w:Int):Int → Int → Prop
 | base {i:Int}:i ∈ first → Inf first M w i 0
 | l {m:Meet} {t:Int}:M m → Inf first M w m.a t → t ≤ m.day → Inf first M w m.b (m.day + w)
 | r {m:Meet} {t:Int}:M m → Inf first M w m.b t → t ≤ m.day → Inf first M w m.a (m.day + w)
def Sick (first:List Int) (M:Meet → Prop) (w i day:Int):Prop:=∃ t,t ≤ day ∧ Inf first M w i t
theorem Inf.mono {first:List Int} {M M':Meet → Prop} {w i t:Int} (h:∀ m,M m → M' m) (hi:Inf first M w i t):Inf first M' w i t:=by
 induction hi with
 | base hb=>exact .base hb
 | l hm _ ht ih=>exact .l (h _ hm) ih ht
 | r hm _ ht ih=>exact .r (h _ hm) ih ht
theorem Inf.rng {n:Int} {first:List Int} {M:Meet → Prop} {w i t:Int} (hf:∀ i ∈ first,0 ≤ i ∧ i < n) (hm:∀ m,M m → okM n m) (hi:Inf first M w i t):0 ≤ i ∧ i < n:=by
 cases hi with
 | base hb=>exact hf _ hb
 | l h _ _=>exact (hm _ h).2.1
 | r h _ _=>exact (hm _ h).1
theorem Inf.earlier {first:List Int} {M M':Meet → Prop} {w w' i t:Int} (h:∀ m,M m → M' m) (hw:w' ≤ w) (hi:Inf first M w i t):∃ t',t' ≤ t ∧ Inf first M' w' i t':=by
 induction hi with
 | base hb=>exact ⟨0,Int.le_refl _,.base hb⟩
 | l hm _ ht ih=>obtain ⟨t',h1,h2⟩:=ih;exact ⟨_,by omega,.l (h _ hm) h2 (by omega)⟩
 | r hm _ ht ih=>obtain ⟨t',h1,h2⟩:=ih;exact ⟨_,by omega,.r (h _ hm) h2 (by omega)⟩
theorem gI_set {s:List Int} {b i x:Int} (hb:0 ≤ b) (hbl:b < s.length) (hi:0 ≤ i):gI (s.set b.toNat x) i = if i = b then x else gI s i:=by
 unfold gI
 rw [List.getD_eq_getElem?_getD,List.getD_eq_getElem?_getD]
 by_cases h:i = b
 · subst h;rw [if_pos rfl,List.getElem?_set_self (by omega)];rfl
 · rw [if_neg h,List.getElem?_set_ne (by omega)]
theorem inf1_le {w d a b i:Int} {s:List Int} (hb:0 ≤ b) (hbl:b < s.length) (hi:0 ≤ i):gI (inf1 w d a b s) i ≤ gI s i:=by
 unfold inf1
 split
 · rw [gI_set hb hbl hi];split
   · rename_i h;subst h;omega
   · exact Int.le_refl _
 · exact Int.le_refl _
theorem inf1_new {w d a b:Int} {s:List Int} (hb:0 ≤ b) (hbl:b < s.length) (ha:gI s a ≤ d):gI (inf1 w d a b s) b ≤ d + w:=by
 unfold inf1
 rw [if_pos ha,gI_set hb hbl hb,if_pos rfl];omega
theorem meetS_len (w:Int) (m:Meet) (s:List Int):(meetS w m s).length = s.length:=by unfold meetS;rw [inf1_len,inf1_len]
theorem inf_add {first:List Int} {P:Meet → Prop} {w:Int} {m:Meet} (hw:1 ≤ w) (hd:∀ p,P p → p.day ≤ m.day) {i t:Int} (hi:Inf first (fun x=>P x ∨ x = m) w i t) :
 Inf first P w i t ∨ (i = m.b ∧ t = m.day + w ∧ ∃ t',Inf first P w m.a t' ∧ t' ≤ m.day) ∨ (i = m.a ∧ t = m.day + w ∧ ∃ t',Inf first P w m.b t' ∧ t' ≤ m.day):=by
 induction hi with
 | base hb=>exact .inl (.base hb)
 | l hm hp ht ih =>
  rename_i m' t'
  have hle:m'.day ≤ m.day:=by
   rcases hm with h | h
   · exact hd _ h
   · rw [h];exact Int.le_refl _
  rcases ih with h | ⟨_,h,_⟩ | ⟨_,h,_⟩
  · rcases hm with hm | hm
    · exact .inl (.l hm h ht)
    · subst hm;exact .inr (.inl ⟨rfl,rfl,t',h,ht⟩)
  · omega
  · omega
 | r hm hp ht ih =>
  rename_i m' t'
  have hle:m'.day ≤ m.day:=by
   rcases hm with h | h
   · exact hd _ h
   · rw [h];exact Int.le_refl _
  rcases ih with h | ⟨_,h,_⟩ | ⟨_,h,_⟩
  · rcases hm with hm | hm
    · exact .inl (.r hm h ht)
    · subst hm;exact .inr (.inr ⟨rfl,rfl,t',h,ht⟩)
  · omega
  · omega
theorem inf_cut {first:List Int} {Q P:Meet → Prop} {w last:Int} (hw:1 ≤ w) (h:∀ m,Q m → m.day ≤ last → P m) {i t:Int} (hi:Inf first Q w i t) (ht:t ≤ last):Inf first P w i t:=by
 induction hi with
 | base hb=>exact .base hb
 | l hm hp htt ih=>exact .l (h _ hm (by omega)) (ih (by omega)) htt
 | r hm hp htt ih=>exact .r (h _ hm (by omega)) (ih (by omega)) htt
theorem spread_le {n:Int} {first:List Int} {w last:Int} (hw:1 ≤ w) (hf:∀ i ∈ first,0 ≤ i ∧ i < n):∀ (l:List Meet) (P:Meet → Prop) (s:List Int),s.length = n → (∀ m ∈ l,okM n m) → (∀ m,P m → okM n m) → l.Pairwise (fun x y=>x.day ≤ y.day) → (∀ p,P p → ∀ m ∈ l,p.day ≤ m.day) →
 (∀ i t,Inf first P w i t → gI s i ≤ t) → ∀ i t,Inf first (fun m=>P m ∨ m ∈ l) w i t → t ≤ last → gI (spreadF w last l s) i ≤ t
 | [],P,s,hs,hm,hP,hso,hd,hA,i,t,hi,ht=>hA i t (hi.mono fun m h=>by simpa using h)
 | m :: l,P,s,hs,hm,hP,hso,hd,hA,i,t,hi,ht=>by
  have hso':=List.pairwise_cons.1 hso
  unfold spreadF
  by_cases hlast:m.day > last
  · rw [if_pos hlast]
    refine hA i t (inf_cut hw (fun q hq hql=>?_) hi ht)
    rcases hq with hq | hq
    · exact hq
    · rcases List.mem_cons.1 hq with rfl | hq
      · omega
      · have:=hso'.1 q hq;omega
  · rw [if_neg hlast]
    have hmo:=hm m (by simp)
    refine spread_le hw hf l (fun x=>P x ∨ x = m) (meetS w m s) (by rw [meetS_len];exact hs) (fun x hx=>hm x (by simp [hx])) (fun x hx=>by rcases hx with h | h;exact hP x h;rw [h];exact hmo) hso'.2 (fun p hp x hx=>?_) (fun j t' hj=>?_) i t (hi.mono fun x hx=>?_) ht
    · rcases hp with hp | rfl
      · exact hd p hp x (by simp [hx])
      · exact hso'.1 x hx
    · have hr:=hj.rng hf (fun x hx=>by rcases hx with h | h;exact hP x h;rw [h];exact hmo)
      obtain ⟨⟨a0,a1⟩,⟨b0,b1⟩,_,_,_⟩:=hmo
      have l1:(inf1 w m.day m.a m.b s).length = n:=by rw [inf1_len];exact hs
      have q1:=inf1_le (w:=w) (d:=m.day) (a:=m.b) (b:=m.a) (i:=j) (s:=inf1 w m.day m.a m.b s) a0 (by omega) hr.1
      have q2:=inf1_le (w:=w) (d:=m.day) (a:=m.a) (b:=m.b) (i:=j) (s:=s) b0 (by omega) hr.1
      rcases inf_add hw (fun p hp=>hd p hp m (by simp)) hj with h | ⟨rfl,rfl,t1,h1,h2⟩ | ⟨rfl,rfl,t1,h1,h2⟩
      · have:=hA j t' h;unfold meetS;omega
      · have h3:=hA _ _ h1
        have:=inf1_new (w:=w) (d:=m.day) (a:=m.a) (b:=m.b) (s:=s) b0 (by omega) (by omega)
        unfold meetS;omega
      · have h3:=hA _ _ h1
        have q3:=inf1_le (w:=w) (d:=m.day) (a:=m.a) (b:=m.b) (i:=m.b) (s:=s) b0 (by omega) b0
        exact inf1_new (w:=w) (d:=m.day) (a:=m.b) (b:=m.a) (s:=inf1 w m.day m.a m.b s) a0 (by omega) (by omega)
    · rcases hx with hx | hx
      · exact .inl (.inl hx)
      · rcases List.mem_cons.1 hx with h | h
        · exact .inl (.inr h)
        · exact .inr h
theorem inf1_ok {n:Int} {first:List Int} {Q:Meet → Prop} {w W:Int} {s:List Int} {a b d:Int} (hs:s.length = n) (hb0:0 ≤ b) (hb1:b < n) (ha0:0 ≤ a) (ha1:a < n) (hd:d < W) (hB:∀ i,0 ≤ i → i < n → gI s i = W ∨ Inf first Q w i (gI s i)) (hQ:∀ t,Inf first Q w a t → t ≤ d → Inf first Q w b (d + w)) :
 ∀ i,0 ≤ i → i < n → gI (inf1 w d a b s) i = W ∨ Inf first Q w i (gI (inf1 w d a b s) i):=fun i h0 h1=>by
 unfold inf1
 by_cases ha:gI s a ≤ d
 · rw [if_pos ha,gI_set hb0 (by omega) h0]
   by_cases hib:i = b
   · subst hib
     rw [if_pos rfl]
     rcases Int.le_total (gI s i) (d + w) with h | h
     · rw [Int.min_eq_left h];exact hB i h0 h1
     · rw [Int.min_eq_right h]
       rcases hB a ha0 ha1 with h2 | h2
       · omega
       · exact .inr (hQ _ h2 ha)
   · rw [if_neg hib];exact hB i h0 h1
 · rw [if_neg ha];exact hB i h0 h1
theorem spread_inf {n:Int} {first:List Int} {Q:Meet → Prop} {w last W:Int} (hW:100000 < W):∀ (l:List Meet) (s:List Int),s.length = n → (∀ m ∈ l,okM n m ∧ Q m) → (∀ i,0 ≤ i → i < n → gI s i = W ∨ Inf first Q w i (gI s i)) →
 ∀ i,0 ≤ i → i < n → gI (spreadF w last l s) i = W ∨ Inf first Q w i (gI (spreadF w last l s) i)
 | [],s,hs,hm,hB=>hB
 | m :: l,s,hs,hm,hB=>by
  unfold spreadF
  split
  · exact hB
  · obtain ⟨⟨⟨a0,a1⟩,⟨b0,b1⟩,_,d0,d1⟩,hQ⟩:=hm m (by simp)
    refine spread_inf hW l (meetS w m s) (by rw [meetS_len];exact hs) (fun x hx=>hm x (by simp [hx])) ?_
    unfold meetS
    refine inf1_ok (by rw [inf1_len];exact hs) a0 a1 b0 b1 (by omega) (inf1_ok hs b0 b1 a0 a1 (by omega) hB (fun t h1 h2=>.l hQ h1 h2)) (fun t h1 h2=>.r hQ h1 h2)
theorem baseF_len:∀ (l s:List Int),(baseF l s).length = s.length
 | [],s=>rfl
 | i :: l,s=>by rw [baseF,baseF_len l];simp
theorem spreadF_len (w last:Int):∀ (l:List Meet) (s:List Int),(spreadF w last l s).length = s.length
 | [],s=>rfl
 | m :: l,s=>by unfold spreadF;split;rfl;rw [spreadF_len w last l,meetS_len]
theorem baseF_gI {n:Int}:∀ (l s:List Int),s.length = n → (∀ i ∈ l,0 ≤ i ∧ i < n) → ∀ i,0 ≤ i → gI (baseF l s) i = if i ∈ l then 0 else gI s i
 | [],s,hs,hl,i,hi=>by simp [baseF]
 | j :: l,s,hs,hl,i,hi=>by
  have hj:=hl j (by simp)
  rw [baseF,baseF_gI l _ (by simpa using hs) (fun i h=>hl i (by simp [h])) i hi,gI_set hj.1 (by omega) hi]
  by_cases h1:i ∈ l
  · simp [h1]
  · by_cases h2:i = j
    · simp [h2]
    · simp [h1,h2]
theorem gI_rep {n:Nat} {x i:Int} (h0:0 ≤ i) (h1:i < n):gI (List.replicate n x) i = x:=by
 unfold gI;rw [List.getD_eq_getElem?_getD,List.getElem?_replicate,if_pos (by omega)];rfl
theorem spread_sick {n:Nat} {first:List Int} {l:List Meet} {w day:Int} (hw:1 ≤ w) (hday:day ≤ 100000) (hf:∀ i ∈ first,0 ≤ i ∧ i < (n:Int)) (hm:∀ m ∈ l,okM n m) (hso:l.Pairwise (fun x y=>x.day ≤ y.day)) {i:Int} (h0:0 ≤ i) (h1:i < n) :
 gI (spreadF w day l (baseF first (List.replicate n 100061))) i ≤ day ↔ Sick first (· ∈ l) w i day:=by
 have hlen:((baseF first (List.replicate n (100061:Int))).length:Int) = n:=by rw [baseF_len];simp
 have hb:=baseF_gI (n:=n) first (List.replicate n 100061) (by simp) hf
 constructor
 · intro h
   have:=spread_inf (n:=n) (first:=first) (Q:=(· ∈ l)) (w:=w) (last:=day) (W:=100061) (by omega) l _ hlen (fun m h=>⟨hm m h,h⟩) (fun j g0 g1=>by
    rw [hb j g0]
    split
    · rename_i h;exact .inr (.base h)
    · exact .inl (gI_rep g0 g1)) i h0 h1
   rcases this with h2 | h2
   · omega
   · exact ⟨_,h,h2⟩
 · rintro ⟨t,ht,hi⟩
   refine Int.le_trans (spread_le (n:=n) hw hf l (fun _=>False) _ hlen hm (fun _ h=>h.elim) hso (fun _ h=>h.elim) (fun j t' hj=>?_) i t (hi.mono fun m h=>.inr h) ht) ht
   cases hj with
   | base hj=>rw [hb j (hf j hj).1,if_pos hj];exact Int.le_refl _
   | l h _ _=>exact h.elim
   | r h _ _=>exact h.elim
end Go.Azalai
set_option maxRecDepth 100000
set_option maxHeartbeats 4000000
namespace Go.Azalai
def sumN:List Int → Nat
 | []=>0
 | x :: l=>x.toNat + sumN l
theorem sumN_set:∀ (s:List Int) (k:Nat) (x:Int) (h:k < s.length),sumN (s.set k x) + s[k].toNat = sumN s + x.toNat
 | y :: l,0,x,h=>by simp [sumN];omega
 | y :: l,k + 1,x,h=>by
  have:=sumN_set l k x (by simpa using h)
  simp only [List.set_cons_succ,sumN,List.getElem_cons_succ];omega
def never:Int:=1099511627776
theorem inf1_dec {w d a b:Int} {s:List Int} (h0:0 ≤ d + w) (hb0:0 ≤ b) (hb1:b < s.length):inf1 w d a b s = s ∨ sumN (inf1 w d a b s) < sumN s:=by
 unfold inf1
 split
 · obtain ⟨k,rfl⟩:∃ k:Nat,b = k:=⟨b.toNat,by omega⟩
   have hk:k < s.length:=by omega
   rw [gI_eq rfl hk,Int.toNat_natCast]
   rcases Int.lt_or_le (d + w) s[k] with h | h
   · right
     have:=sumN_set s k (min s[k] (d + w)) hk
     rw [Int.min_eq_right (by omega)] at this ⊢
     omega
   · left;rw [Int.min_eq_left h];exact List.set_getElem_self hk
 · exact .inl rfl
def act (close:Bool) (meets:List Meet) (m:Meet):Prop:=m ∈ meets ∧ (close = true → m.close = true)
structure Sk (n:Nat) (first:List Int) (M:Meet → Prop) (w:Int) (s:List Int):Prop where
 len:s.length = n
 inf:∀ i:Int,0 ≤ i → i < n → gI s i = never ∨ Inf first M w i (gI s i)
 fst:∀ i ∈ first,gI s i ≤ 0
 up:∀ i:Int,0 ≤ i → i < n → gI s i ≤ never
theorem Sk.step {n:Nat} {first:List Int} {M:Meet → Prop} {w:Int} {s:List Int} (h:Sk n first M w s) (hf:∀ i ∈ first,0 ≤ i ∧ i < (n:Int)) {a b d:Int} (ha:0 ≤ a ∧ a < n) (hb:0 ≤ b ∧ b < n) (hd:d ≤ 100000) (hM:∀ t,Inf first M w a t → t ≤ d → Inf first M w b (d + w)):Sk n first M w (inf1 w d a b s):=by
 have hl:=h.len
 refine ⟨by rw [inf1_len];exact hl,inf1_ok (W:=never) (n:=n) (by rw [hl]) hb.1 hb.2 ha.1 ha.2 (by unfold never;omega) h.inf hM,fun i hi=>?_,fun i h0 h1=>?_⟩
 · exact Int.le_trans (inf1_le hb.1 (by omega) (hf i hi).1) (h.fst i hi)
 · exact Int.le_trans (inf1_le hb.1 (by omega) h0) (h.up i h0 h1)
structure Least (n:Nat) (first:List Int) (M:Meet → Prop) (w:Int) (s:List Int):Prop extends Sk n first M w s where
 le:∀ i t,Inf first M w i t → gI s i ≤ t
theorem Sk.least {n:Nat} {first:List Int} {M:Meet → Prop} {w:Int} {s:List Int} (h:Sk n first M w s) (hm:∀ m,M m → okM n m) (hs:∀ m,M m → inf1 w m.day m.a m.b s = s ∧ inf1 w m.day m.b m.a s = s):Least n first M w s:=by
 refine ⟨h,fun i t hi=>?_⟩
 have hl:=h.len
 induction hi with
 | base hb=>exact h.fst _ hb
 | l hM _ ht ih =>
  have:=inf1_new (w:=w) (hm _ hM).2.1.1 (by have:=(hm _ hM).2.1.2;omega) (Int.le_trans ih ht)
  rwa [(hs _ hM).1] at this
 | r hM _ ht ih =>
  have:=inf1_new (w:=w) (hm _ hM).1.1 (by have:=(hm _ hM).1.2;omega) (Int.le_trans ih ht)
  rwa [(hs _ hM).2] at this
theorem Least.unique {n:Nat} {first:List Int} {M:Meet → Prop} {w:Int} {s s':List Int} (h:Least n first M w s) (h':Least n first M w s'):s = s':=by
 have e:∀ i:Int,0 ≤ i → i < n → gI s i = gI s' i:=fun i h0 h1=>by
  have q1:=h.up i h0 h1
  have q2:=h'.up i h0 h1
  rcases h.inf i h0 h1 with g | g <;> rcases h'.inf i h0 h1 with g' | g'
  · rw [g,g']
  · have:=h.le _ _ g';omega
  · have:=h'.le _ _ g;omega
  · have:=h.le _ _ g';have:=h'.le _ _ g;omega
 apply List.ext_getElem (by rw [h.len,h'.len])
 intro k k1 k2
 have:=e k (by omega) (by rw [← h.len];omega)
 rwa [gI_eq rfl k1,gI_eq rfl k2] at this
open Classical in
noncomputable def sickF (n:Nat) (first:List Int) (M:Meet → Prop) (w:Int):List Int:=if h:∃ s,Least n first M w s then Classical.choose h else []
theorem Least.sickF {n:Nat} {first:List Int} {M:Meet → Prop} {w:Int} {s:List Int} (h:Least n first M w s):sickF n first M w = s:=by
 have:∃ s,Least n first M w s:=⟨s,h⟩
 unfold Go.Azalai.sickF
 rw [dif_pos this]
 exact (Classical.choose_spec this).unique h
theorem Least.sick {n:Nat} {first:List Int} {M:Meet → Prop} {w:Int} {s:List Int} (h:Least n first M w s) {i day:Int} (hd:day ≤ 100000) (h0:0 ≤ i) (h1:i < n):gI s i ≤ day ↔ Sick first M w i day:=by
 constructor
 · intro hs
   rcases h.inf i h0 h1 with g | g
   · unfold never at g;omega
   · exact ⟨_,hs,g⟩
 · rintro ⟨t,ht,hi⟩
   exact Int.le_trans (h.le i t hi) ht
end Go.Azalai
set_option maxRecDepth 100000
set_option maxHeartbeats 4000000
namespace Go.Proofs.Ytnlfjchbhgikaaa
open Go Go.Sx Go.Azalai
end Go.Proofs.Ytnlfjchbhgikaaa
set_option maxRecDepth 100000
set_option maxHeartbeats 4000000
namespace Go.Azalai
def meetsE (n:Int) (first:List Int) (meets:List Meet) (wait:Span) (day:Int):Int :=
 if !(inR 1 30 n && okSp 1 60 wait && inR 0 100000 day) then 2 else if first.length > 30 ∨ meets.length > 200 then 4 else if !(first.all (inR 0 (n - 1))) || meets.any (oddM n) then 14 else 0
end Go.Azalai
namespace Go.Proofs.Ytnlfjchbhgikaaa
open Go Go.Sx Go.Azalai
end Go.Proofs.Ytnlfjchbhgikaaa
set_option maxRecDepth 100000
set_option maxHeartbeats 4000000
namespace Go.Azalai
def knF (day x y:Int):Int:=if day < x then 0 else if y ≤ day then 2 else 1
noncomputable def mangeK (n:Int) (first:List Int) (meets:List Meet) (wait:Span) (day:Int):List Int :=
 (List.range n.toNat).map fun i:Nat=>knF day (gI (sickF n.toNat first (act false meets) wait.lo) (i:Nat)) (gI (sickF n.toNat first (act true meets) wait.hi) (i:Nat))
theorem least_go {n:Nat} {first:List Int} {M:Meet → Prop} {w:Int} (hf:∀ i ∈ first,0 ≤ i ∧ i < (n:Int)) (hm:∀ m,M m → okM n m) (hw:0 ≤ w):∀ (N:Nat) (s:List Int),sumN s ≤ N → Sk n first M w s → ∃ s,Least n first M w s:=fun N=>by
 induction N with
 | zero =>
  intro s hN hs
  refine ⟨s,hs.least hm fun m hM=>?_⟩
  obtain ⟨⟨a0,a1⟩,⟨b0,b1⟩,_,d0,d1⟩:=hm m hM
  have hl:=hs.len
  refine ⟨?_,?_⟩
  · rcases inf1_dec (w:=w) (d:=m.day) (a:=m.a) (b:=m.b) (s:=s) (by omega) b0 (by omega) with h | h
    · exact h
    · omega
  · rcases inf1_dec (w:=w) (d:=m.day) (a:=m.b) (b:=m.a) (s:=s) (by omega) a0 (by omega) with h | h
    · exact h
    · omega
 | succ N ih =>
  intro s hN hs
  by_cases hall:∀ m,M m → inf1 w m.day m.a m.b s = s ∧ inf1 w m.day m.b m.a s = s
  · exact ⟨s,hs.least hm hall⟩
  · have ⟨m,hq⟩:=Classical.not_forall.1 hall
    have ⟨hM,hne⟩:=Classical.not_imp.1 hq
    obtain ⟨⟨a0,a1⟩,⟨b0,b1⟩,_,d0,d1⟩:=hm m hM
    have hl:=hs.len
    by_cases e1:inf1 w m.day m.a m.b s = s
    · have e2:inf1 w m.day m.b m.a s ≠ s:=fun e2=>hne ⟨e1,e2⟩
      rcases inf1_dec (w:=w) (d:=m.day) (a:=m.b) (b:=m.a) (s:=s) (by omega) a0 (by omega) with h | h
      · exact absurd h e2
      · exact ih _ (by omega) (hs.step hf ⟨b0,b1⟩ ⟨a0,a1⟩ d1 (fun t g1 g2=>.r hM g1 g2))
    · rcases inf1_dec (w:=w) (d:=m.day) (a:=m.a) (b:=m.b) (s:=s) (by omega) b0 (by omega) with h | h
      · exact absurd h e1
      · exact ih _ (by omega) (hs.step hf ⟨a0,a1⟩ ⟨b0,b1⟩ d1 (fun t g1 g2=>.l hM g1 g2))
theorem least_ex {n:Nat} {first:List Int} {M:Meet → Prop} {w:Int} (hf:∀ i ∈ first,0 ≤ i ∧ i < (n:Int)) (hm:∀ m,M m → okM n m) (hw:0 ≤ w):∃ s,Least n first M w s:=by
 refine least_go hf hm hw _ (baseF first (List.replicate n never)) (Nat.le_refl _) ?_
 have hb:=baseF_gI (n:=n) first (List.replicate n never) (by simp) hf
 refine ⟨by rw [baseF_len];simp,fun i h0 h1=>?_,fun i hi=>?_,fun i h0 h1=>?_⟩
 · rw [hb i h0]
   split
   · rename_i h;exact .inr (.base h)
   · exact .inl (gI_rep h0 h1)
 · rw [hb i (hf i hi).1,if_pos hi];exact Int.le_refl _
 · rw [hb i h0]
   split
   · unfold never;omega
   · rw [gI_rep h0 h1];exact Int.le_refl _
theorem meetsE_0 {n:Int} {first:List Int} {meets:List Meet} {wait:Span} {day:Int} (h:meetsE n first meets wait day = 0):(1 ≤ n ∧ n ≤ 30) ∧ (1 ≤ wait.lo ∧ wait.lo ≤ wait.hi ∧ wait.hi ≤ 60) ∧ (0 ≤ day ∧ day ≤ 100000) ∧ first.length ≤ 30 ∧ meets.length ≤ 200 ∧ (∀ i ∈ first,0 ≤ i ∧ i < n) ∧ ∀ m ∈ meets,okM n m:=by
 unfold meetsE at h
 split at h
 · cases h
 rename_i h1
 split at h
 · cases h
 rename_i h2
 split at h
 · cases h
 rename_i h3
 simp only [Bool.not_eq_true',Bool.not_eq_false,Bool.and_eq_true,inR,okSp,decide_eq_true_eq,Bool.or_eq_true,not_or,Bool.not_eq_true] at h1 h3
 refine ⟨h1.1.1,h1.1.2,h1.2,by omega,by omega,fun i hi=>?_,fun m hm=>?_⟩
 · have:=List.all_eq_true.1 h3.1 i hi
   simp only [inR,decide_eq_true_eq] at this
   omega
 · have:=List.any_eq_false.1 h3.2 m hm
   unfold oddM inR at this
   simp only [Bool.or_eq_true,Bool.not_eq_true',Bool.and_eq_false_iff,decide_eq_false_iff_not,decide_eq_true_eq,not_or] at this
   unfold okM
   omega
end Go.Azalai
namespace Go.Proofs.Ytnlfjchbhgikaaa
open Go Go.Sx Go.Azalai
def u8L (n:Int):List SV:=[U8 n]
def rowsK (e:Int) (l:List Int):SV:=if e = 0 then .sl false 1 (l.map u8L) else .v (.slice none 0 0)
end Go.Proofs.Ytnlfjchbhgikaaa
set_option maxRecDepth 100000
set_option maxHeartbeats 4000000
namespace Go.Azalai
theorem pairwise_of_srt {l:List Meet} (h:Srt Meet.day 0 l.length l):l.Pairwise (fun x y=>x.day ≤ y.day):=by
 rw [List.pairwise_iff_getElem]
 intro i j hi hj hij
 have:=h i j (Nat.zero_le _) hij hj
 rwa [ky_eq Meet.day hi,ky_eq Meet.day hj] at this
theorem mange_eq {n:Nat} {first:List Int} {meets l:List Meet} {wait:Span} {day:Int} (hw:1 ≤ wait.lo ∧ wait.lo ≤ wait.hi) (hd:0 ≤ day ∧ day ≤ 100000) (hf:∀ i ∈ first,0 ≤ i ∧ i < (n:Int)) (hm:∀ m ∈ meets,okM n m)
 (hp:l.Perm meets) (hs:l.Pairwise (fun x y=>x.day ≤ y.day)) (hl:∃ s,Least n first (act false meets) wait.lo s) (hl2:∃ s,Least n first (act true meets) wait.hi s) {i:Nat} (hi:i < n) :
 (if gI (spreadF wait.hi day (l.filter (·.close)) (baseF first (List.replicate n 100061))) i ≤ day then 2 else if gI (spreadF wait.lo day l (baseF first (List.replicate n 100061))) i ≤ day then 1 else 0) = knF day (gI (sickF n first (act false meets) wait.lo) i) (gI (sickF n first (act true meets) wait.hi) i):=by
 obtain ⟨s1,h1⟩:=hl
 obtain ⟨s2,h2⟩:=hl2
 rw [h1.sickF,h2.sickF]
 have hml:∀ m ∈ l,okM n m:=fun m h=>hm m (hp.mem_iff.1 h)
 have e1:=spread_sick (n:=n) (first:=first) (l:=l) (w:=wait.lo) (day:=day) hw.1 hd.2 hf hml hs (i:=(i:Int)) (by omega) (by omega)
 have e2:=spread_sick (n:=n) (first:=first) (l:=l.filter (·.close)) (w:=wait.hi) (day:=day) (by omega) hd.2 hf (fun m h=>hml m (List.mem_filter.1 h).1) (hs.filter _) (i:=(i:Int)) (by omega) (by omega)
 have g1:=h1.sick (day:=day) hd.2 (i:=(i:Int)) (by omega) (by omega)
 have g2:=h2.sick (day:=day) hd.2 (i:=(i:Int)) (by omega) (by omega)
 have c1:Sick first (· ∈ l) wait.lo i day ↔ Sick first (act false meets) wait.lo i day :=
  ⟨fun ⟨t,ht,h⟩=>⟨t,ht,h.mono fun m hm=>⟨hp.mem_iff.1 hm,fun h=>by cases h⟩⟩,fun ⟨t,ht,h⟩=>⟨t,ht,h.mono fun m hm=>hp.mem_iff.2 hm.1⟩⟩
 have c2:Sick first (· ∈ l.filter (·.close)) wait.hi i day ↔ Sick first (act true meets) wait.hi i day :=
  ⟨fun ⟨t,ht,h⟩=>⟨t,ht,h.mono fun m hm=>⟨hp.mem_iff.1 (List.mem_filter.1 hm).1,fun _=>(List.mem_filter.1 hm).2⟩⟩,fun ⟨t,ht,h⟩=>⟨t,ht,h.mono fun m hm=>List.mem_filter.2 ⟨hp.mem_iff.2 hm.1,hm.2 rfl⟩⟩⟩
 have c3:Sick first (act true meets) wait.hi i day → Sick first (act false meets) wait.lo i day:=fun ⟨t,ht,h⟩=>by
  obtain ⟨t',q1,q2⟩:=h.earlier (M':=act false meets) (w':=wait.lo) (fun m hm=>⟨hm.1,fun h=>by cases h⟩) hw.2
  exact ⟨t',by omega,q2⟩
 rw [c1,← g1] at e1
 rw [c2,← g2] at e2
 rw [← g1,← g2] at c3
 unfold knF
 by_cases q2:gI s2 (i:Int) ≤ day
 · have:=c3 q2
   rw [if_pos (e2.2 q2),if_neg (by omega),if_pos q2]
 · rw [if_neg (fun h=>q2 (e2.1 h))]
   by_cases q1:gI s1 (i:Int) ≤ day
   · rw [if_pos (e1.2 q1),if_neg (by omega),if_neg q2]
   · rw [if_neg (fun h=>q1 (e1.1 h)),if_pos (by omega)]
end Go.Azalai
namespace Go.Proofs.Ytnlfjchbhgikaaa
open Go Go.Sx Go.Azalai
theorem mange_ok (n:Int) (first:List Int) (meets:List Meet) (wait:Span) (day:Int) (c1 c2:Bool) (hl1:first.length ≤ 1000) (hl2:meets.length ≤ 1000) :
 Ct Try.prog 35 [I n,.sl c1 1 (first.map intL),.sl c2 4 (meets.map meetL),.agg (spanL wait),I day] (.tup [rowsK (meetsE n first meets wait day) (mangeK n first meets wait day),I (meetsE n first meets wait day)]):=by
 have hkr:KF (rowsK (meetsE n first meets wait day) (mangeK n first meets wait day)):=by
  unfold rowsK;split <;> simp [KF,KFR_iff,KFL,u8L,U8]
 refine t35 (by simp [meetL,KFR_iff,intL,spanL,KFL,KF]) (by simp [KF,KFL,hkr]) ?_
 dsimp only [c35,r35,spanL,go_sem,rA,rM,rS]
 refine call (from1 1 30 n true) ?_
 dsimp only [go_sem,rA,rM,rS]
 repeat (first | (refine gb ?_;dsimp only [go_sem,rA,rM,rS]) | (refine call (ordered1 1 60 wait true) ?_;dsimp only [go_sem,rA,rM,rS]) | (refine call (from1 0 100000 day true) ?_;dsimp only [go_sem,rA,rM,rS]))
 by_cases h1:(inR 1 30 n && okSp 1 60 wait && inR 0 100000 day) = true
 case neg =>
  refine br_t (by revert h1;cases inR 1 30 n <;> cases okSp 1 60 wait <;> cases inR 0 100000 day <;> simp) ?_
  dsimp only [go_sem,rA,rM,rS]
  have hE:meetsE n first meets wait day = 2:=by
   unfold meetsE
   rw [if_pos (by revert h1;cases inR 1 30 n <;> cases okSp 1 60 wait <;> cases inR 0 100000 day <;> simp)]
  simp [rowsK,hE]
 refine br_f (by revert h1;cases inR 1 30 n <;> cases okSp 1 60 wait <;> cases inR 0 100000 day <;> simp) ?_
 dsimp only [go_sem,rA,rM,rS]
 repeat (refine gb ?_;dsimp only [go_sem,rA,rM,rS])
 simp only [List.length_map]
 by_cases h2:first.length > 30 ∨ meets.length > 200
 · refine br_t (by simp;omega) ?_
   dsimp only [go_sem,rA,rM,rS]
   have hE:meetsE n first meets wait day = 4:=by
    unfold meetsE
    rw [if_neg (by simp [h1]),if_pos h2]
   simp [rowsK,hE]
 refine br_f (by simp;omega) ?_
 dsimp only [go_sem,rA,rM,rS]
 have hn:1 ≤ n ∧ n ≤ 30:=by simp only [Bool.and_eq_true,inR,decide_eq_true_eq] at h1;exact h1.1.1
 have hE0:meetsE n first meets wait day = if !(first.all (inR 0 (n - 1))) || meets.any (oddM n) then 14 else 0:=by
  unfold meetsE
  rw [if_neg (by simp [h1]),if_neg h2]
 rw [w64_in (n:=n - 1) (by omega) (by omega)]
 refine call (from_any 0 (n - 1) first (by omega) c1) ?_
 dsimp only [go_sem,rA,rM,rS]
 repeat (refine gb ?_;dsimp only [go_sem,rA,rM,rS])
 refine callv (by simp [FLT]) (res:=B (meets.any (oddM n))) ?_ ?_
 · dsimp only [go_sem,rA,rM,rS]
   exact con78 77 [.ps [I n] 0] (by simp [KFL,KF]) (oddM n) meets (fun x _=>odd_ok n hn.1 hn.2 x) (by omega)
 dsimp only [go_sem,rA,rM,rS]
 repeat (refine gb ?_;dsimp only [go_sem,rA,rM,rS])
 by_cases h3:(!(first.all (inR 0 (n - 1))) || meets.any (oddM n)) = true
 · refine br_t (by revert h3;cases first.all (inR 0 (n - 1)) <;> cases meets.any (oddM n) <;> simp) ?_
   dsimp only [go_sem,rA,rM,rS]
   rw [if_pos h3] at hE0
   simp [rowsK,hE0]
 refine br_f (by revert h3;cases first.all (inR 0 (n - 1)) <;> cases meets.any (oddM n) <;> simp) ?_
 dsimp only [go_sem,rA,rM,rS]
 rw [if_neg h3] at hE0
 obtain ⟨_,hw,hd,hf1,hm1,hf,hm⟩:=meetsE_0 hE0
 clear h1 h2 h3
 refine callmP [] (clone_ok meets (by omega) c2) rfl rfl rfl ?_ ?_ ?_
 · (repeat first | dsimp only [go_sem,rA,rM,rS] | simp only [nbr])
   simp [mtL,mtB,mtS,KFR_iff,KFR,KFL,KF,meetL]
 · (repeat first | dsimp only [go_sem,rA,rM,rS] | simp only [nbr])
 rintro _ rfl
 (repeat first | dsimp only [go_sem,rA,rM,rS] | simp only [nbr])
 refine gh ent_refl ?_
 (repeat first | dsimp only [go_sem,rA,rM,rS] | simp only [nbr])
 refine callmP [2] (sort_ok 0 meets (by omega)) rfl rfl rfl ?_ ?_ ?_
 · (repeat first | dsimp only [go_sem,rA,rM,rS] | simp only [nbr])
   simp [mtL,mtB,mtS]
 · (repeat first | dsimp only [go_sem,rA,rM,rS] | simp only [nbr])
   simp [KFR_iff,meetL,KFL,KF]
 rintro _ ⟨l,hpl,hsl,rfl⟩
 (repeat first | dsimp only [rowO,go_sem,rA,rM,rS] | simp only [nbr])
 refine gh (ent_frz 13 2 0 rfl rfl rfl rfl) ?_
 obtain ⟨k,rfl⟩:∃ k:Nat,n = k:=⟨n.toNat,by omega⟩
 have hll:=hpl.len
 have hso:=pairwise_of_srt (by rw [hll];exact hsl)
 have hml:∀ m ∈ l,okM k m:=fun m h=>hm m (hpl.perm.mem_iff.1 h)
 (repeat first | dsimp only [go_sem,rA,rM,rS] | simp only [nbr])
 refine call (spread_ok k first l wait.lo day c1 false (by omega) (by omega) hf hml (by omega) hl1 (by omega)) ?_
 (repeat first | dsimp only [go_sem,rA,rM,rS] | simp only [nbr])
 refine callmP [] (clone_ok l (by omega) false) rfl rfl rfl ?_ ?_ ?_
 · (repeat first | dsimp only [go_sem,rA,rM,rS] | simp only [nbr])
   simp [mtL,mtB,mtS,KFR_iff,KFR,KFL,KF,meetL]
 · (repeat first | dsimp only [go_sem,rA,rM,rS] | simp only [nbr])
 rintro _ rfl
 (repeat first | dsimp only [go_sem,rA,rM,rS] | simp only [nbr])
 refine callmP [3] (delete_ok 0 l (by omega)) rfl rfl rfl ?_ ?_ ?_
 · (repeat first | dsimp only [go_sem,rA,rM,rS] | simp only [nbr])
   simp [mtL,mtB,mtS]
 · (repeat first | dsimp only [go_sem,rA,rM,rS] | simp only [nbr])
   simp [KFR_iff,meetL,KFL,KF]
 rintro _ (⟨hfl,rfl⟩ | ⟨l',hl',hle,htk,rfl⟩)
 · (repeat first | dsimp only [go_sem,rA,rM,rS] | simp only [nbr])
   refine gh (ent_frz 15 3 0 rfl rfl rfl rfl) ?_
   rw [show l.map meetL = (l.filter (·.close)).map meetL from by rw [hfl]]
   clear hfl
   generalize hfl0:l.filter (·.close) = fl at *
   (repeat first | dsimp only [go_sem,rA,rM,rS] | simp only [nbr])
   refine call (spread_ok k first fl wait.hi day c1 false (by omega) (by omega) hf (fun m h=>hml m (by rw [← hfl0] at h;exact (List.mem_filter.1 h).1)) (by omega) hl1 (by rw [← hfl0];exact Nat.le_trans (List.length_filter_le _ _) (by omega))) ?_
   (repeat first | dsimp only [go_sem,rA,rM,rS] | simp only [nbr])
   have hlenE:(spreadF wait.lo day l (baseF first (List.replicate k 100061))).length = k:=by rw [spreadF_len,baseF_len];simp
   have hlenL:(spreadF wait.hi day fl (baseF first (List.replicate k 100061))).length = k:=by rw [spreadF_len,baseF_len];simp
   have heq:∀ i:Nat,i < k → (if gI (spreadF wait.hi day fl (baseF first (List.replicate k 100061))) (i:Int) ≤ day then 2 else if gI (spreadF wait.lo day l (baseF first (List.replicate k 100061))) (i:Int) ≤ day then 1 else 0) = knF day (gI (sickF k first (act false meets) wait.lo) i) (gI (sickF k first (act true meets) wait.hi) i):=fun i hi=>by
    have:=mange_eq (meets:=meets) (l:=l) ⟨hw.1,hw.2.1⟩ hd hf hm hpl.perm hso (least_ex hf (fun m h=>hm m h.1) (by omega)) (least_ex hf (fun m h=>hm m h.1) (by omega)) hi
    rw [hfl0] at this
    exact this
   generalize spreadF wait.lo day l (baseF first (List.replicate k 100061)) = E at hlenE heq
   generalize spreadF wait.hi day fl (baseF first (List.replicate k 100061)) = L at hlenL heq
   refine ⟨k,rfl,by omega,?_⟩
   (repeat first | dsimp only [go_sem,rA,rM,rS] | simp only [nbr])
   rw [show List.replicate k [SV.v (Value.int IntKind.u8 0)] = (List.replicate k (0:Int)).map u8L from by simp [u8L,U8]]
   simp only [List.length_map,List.length_replicate]
   have hs0:(List.replicate k (0:Int)).length = k ∧ ∀ i,i < k → (List.replicate k (0:Int))[i]? = some 0:=⟨by simp,fun i hi=>by rw [List.getElem?_replicate,if_pos hi]⟩
   generalize List.replicate k (0:Int) = ks0 at hs0
   refine loopO (fun z:Nat × List Int=>[(79,I z.1)]) (fun z=>[(4,.row 0 1 (z.2.map u8L) 5)]) (fun z=>z.1 ≤ k ∧ z.2.length = k ∧ ∀ i,i < k → z.2[i]? = some (if i < z.1 then (if gI L (i:Int) ≤ day then 2 else if gI E (i:Int) ≤ day then 1 else 0) else 0)) (fun z=>k - z.1) (0,ks0) ⟨Nat.zero_le _,hs0.1,fun i hi=>by rw [hs0.2 i hi,if_neg (Nat.not_lt_zero _)]⟩ ?_ ?_
   · (refine ent_id ?_ ?_ ?_ rfl rfl <;> dsimp only [meetL,intL,u8L,U8,id,go_sem,rA,rM,rS] <;> simp [meetL,intL,u8L,U8,KFR_iff,KFR_app,KFR,KFL,KF,mtL_same,mtO,nbr])
   rintro ⟨j,ks⟩ ⟨hj,hkl,hki⟩
   simp only at hj hkl hki
   (repeat first | dsimp only [go_sem,rA,rM,rS] | simp only [nbr])
   by_cases hlt:j < k
   · refine br_t (by simpa using hlt) ?_
     (repeat first | dsimp only [go_sem,rA,rM,rS] | simp only [nbr])
     have gL:gI L (j:Int) = L[j]:=gI_eq rfl (by omega)
     have gE:gI E (j:Int) = E[j]:=gI_eq rfl (by omega)
     refine ixs_map j (by omega) rfl ?_
     (repeat first | dsimp only [intL,go_sem,rA,rM,rS] | simp only [nbr])
     by_cases q2:L[j] ≤ day
     · refine br_t (by simpa using q2) ?_
       have hx:(if gI L (j:Int) ≤ day then (2:Int) else if gI E (j:Int) ≤ day then 1 else 0) = 2:=by rw [gL,if_pos q2]
       (repeat first | dsimp only [go_sem,rA,rM,rS] | simp only [nbr])
       refine ixrm j rfl (by first | omega | (simp;omega)) ?_
       (repeat first | dsimp only [go_sem,rA,rM,rS] | simp only [nbr])
       refine strm (2:Int) (by first | omega | (simp;omega)) (by simp [u8L,U8]) (by simp [u8L,U8,splice]) ?_
       (repeat first | dsimp only [go_sem,rA,rM,rS] | simp only [nbr])
       rw [w64_in (n:=(j:Int) + 1) (by omega) (by omega)]
       refine ⟨(j + 1,ks.set j 2),⟨hlt,by simp [hkl],fun i hi=>?_⟩,by simp only;omega,?_⟩
       · dsimp only
         have:=hki i hi
         by_cases hij:i = j
         · subst hij;rw [List.getElem?_set_self (by omega),if_pos (Nat.lt_succ_self i),hx]
         · rw [List.getElem?_set_ne (by omega),this]
           by_cases hij2:i < j
           · rw [if_pos hij2,if_pos (c:=i < j + 1) (by omega)]
           · rw [if_neg hij2,if_neg (c:=i < j + 1) (by omega)]
       generalize ks.set j 2 = ks2
       (refine ent_id ?_ ?_ ?_ rfl rfl <;> dsimp only [meetL,intL,u8L,U8,id,go_sem,rA,rM,rS] <;> simp [meetL,intL,u8L,U8,KFR_iff,KFR_app,KFR,KFL,KF,mtL_same,mtO,nbr])
     refine br_f (by simpa using q2) ?_
     (repeat first | dsimp only [go_sem,rA,rM,rS] | simp only [nbr])
     refine ixs_map j (by omega) rfl ?_
     (repeat first | dsimp only [intL,go_sem,rA,rM,rS] | simp only [nbr])
     by_cases q1:E[j] ≤ day
     · refine br_t (by simpa using q1) ?_
       have hx:(if gI L (j:Int) ≤ day then (2:Int) else if gI E (j:Int) ≤ day then 1 else 0) = 1:=by rw [gL,gE,if_neg q2,if_pos q1]
       (repeat first | dsimp only [go_sem,rA,rM,rS] | simp only [nbr])
       refine ixrm j rfl (by first | omega | (simp;omega)) ?_
       (repeat first | dsimp only [go_sem,rA,rM,rS] | simp only [nbr])
       refine strm (1:Int) (by first | omega | (simp;omega)) (by simp [u8L,U8]) (by simp [u8L,U8,splice]) ?_
       (repeat first | dsimp only [go_sem,rA,rM,rS] | simp only [nbr])
       rw [w64_in (n:=(j:Int) + 1) (by omega) (by omega)]
       refine ⟨(j + 1,ks.set j 1),⟨hlt,by simp [hkl],fun i hi=>?_⟩,by simp only;omega,?_⟩
       · dsimp only
         have:=hki i hi
         by_cases hij:i = j
         · subst hij;rw [List.getElem?_set_self (by omega),if_pos (Nat.lt_succ_self i),hx]
         · rw [List.getElem?_set_ne (by omega),this]
           by_cases hij2:i < j
           · rw [if_pos hij2,if_pos (c:=i < j + 1) (by omega)]
           · rw [if_neg hij2,if_neg (c:=i < j + 1) (by omega)]
       generalize ks.set j 1 = ks2
       (refine ent_id ?_ ?_ ?_ rfl rfl <;> dsimp only [meetL,intL,u8L,U8,id,go_sem,rA,rM,rS] <;> simp [meetL,intL,u8L,U8,KFR_iff,KFR_app,KFR,KFL,KF,mtL_same,mtO,nbr])
     refine br_f (by simpa using q1) ?_
     have hx:(if gI L (j:Int) ≤ day then (2:Int) else if gI E (j:Int) ≤ day then 1 else 0) = 0:=by rw [gL,gE,if_neg q2,if_neg q1]
     (repeat first | dsimp only [go_sem,rA,rM,rS] | simp only [nbr])
     rw [w64_in (n:=(j:Int) + 1) (by omega) (by omega)]
     refine ⟨(j + 1,ks),⟨hlt,hkl,fun i hi=>?_⟩,by simp only;omega,?_⟩
     · dsimp only
       have:=hki i hi
       by_cases hij:i = j
       · subst hij;rw [this,if_neg (Nat.lt_irrefl i),if_pos (Nat.lt_succ_self i),hx]
       · rw [this]
         by_cases hij2:i < j
         · rw [if_pos hij2,if_pos (c:=i < j + 1) (by omega)]
         · rw [if_neg hij2,if_neg (c:=i < j + 1) (by omega)]
     (refine ent_id ?_ ?_ ?_ rfl rfl <;> dsimp only [meetL,intL,u8L,U8,id,go_sem,rA,rM,rS] <;> simp [meetL,intL,u8L,U8,KFR_iff,KFR_app,KFR,KFL,KF,mtL_same,mtO,nbr])
   refine br_f (by simp;omega) ?_
   (repeat first | dsimp only [go_sem,rA,rM,rS] | simp only [nbr])
   have hjk:j = k:=by omega
   subst hjk
   have hks:ks = mangeK j first meets wait day:=by
    apply List.ext_getElem?
    intro i
    unfold mangeK
    rw [Int.toNat_natCast,List.getElem?_map]
    by_cases hi:i < j
    · rw [hki i hi,if_pos hi,heq i hi,List.getElem?_range hi];rfl
    · rw [List.getElem?_eq_none (by omega),List.getElem?_eq_none (by simp;omega)];rfl
   rw [hks]
   simp [rowsK,hE0]
 · (repeat first | dsimp only [go_sem,rA,rM,rS] | simp only [nbr])
   refine gh (ent_frzp 15 3 0 _ rfl rfl rfl rfl (by simpa using hle)) ?_
   rw [← List.map_take,htk]
   clear htk hle
   generalize hfl0:l.filter (·.close) = fl at *
   (repeat first | dsimp only [go_sem,rA,rM,rS] | simp only [nbr])
   refine call (spread_ok k first fl wait.hi day c1 false (by omega) (by omega) hf (fun m h=>hml m (by rw [← hfl0] at h;exact (List.mem_filter.1 h).1)) (by omega) hl1 (by rw [← hfl0];exact Nat.le_trans (List.length_filter_le _ _) (by omega))) ?_
   (repeat first | dsimp only [go_sem,rA,rM,rS] | simp only [nbr])
   have hlenE:(spreadF wait.lo day l (baseF first (List.replicate k 100061))).length = k:=by rw [spreadF_len,baseF_len];simp
   have hlenL:(spreadF wait.hi day fl (baseF first (List.replicate k 100061))).length = k:=by rw [spreadF_len,baseF_len];simp
   have heq:∀ i:Nat,i < k → (if gI (spreadF wait.hi day fl (baseF first (List.replicate k 100061))) (i:Int) ≤ day then 2 else if gI (spreadF wait.lo day l (baseF first (List.replicate k 100061))) (i:Int) ≤ day then 1 else 0) = knF day (gI (sickF k first (act false meets) wait.lo) i) (gI (sickF k first (act true meets) wait.hi) i):=fun i hi=>by
    have:=mange_eq (meets:=meets) (l:=l) ⟨hw.1,hw.2.1⟩ hd hf hm hpl.perm hso (least_ex hf (fun m h=>hm m h.1) (by omega)) (least_ex hf (fun m h=>hm m h.1) (by omega)) hi
    rw [hfl0] at this
    exact this
   generalize spreadF wait.lo day l (baseF first (List.replicate k 100061)) = E at hlenE heq
   generalize spreadF wait.hi day fl (baseF first (List.replicate k 100061)) = L at hlenL heq
   refine ⟨k,rfl,by omega,?_⟩
   (repeat first | dsimp only [go_sem,rA,rM,rS] | simp only [nbr])
   rw [show List.replicate k [SV.v (Value.int IntKind.u8 0)] = (List.replicate k (0:Int)).map u8L from by simp [u8L,U8]]
   simp only [List.length_map,List.length_replicate]
   have hs0:(List.replicate k (0:Int)).length = k ∧ ∀ i,i < k → (List.replicate k (0:Int))[i]? = some 0:=⟨by simp,fun i hi=>by rw [List.getElem?_replicate,if_pos hi]⟩
   generalize List.replicate k (0:Int) = ks0 at hs0
   refine loopO (fun z:Nat × List Int=>[(79,I z.1)]) (fun z=>[(4,.row 0 1 (z.2.map u8L) 5)]) (fun z=>z.1 ≤ k ∧ z.2.length = k ∧ ∀ i,i < k → z.2[i]? = some (if i < z.1 then (if gI L (i:Int) ≤ day then 2 else if gI E (i:Int) ≤ day then 1 else 0) else 0)) (fun z=>k - z.1) (0,ks0) ⟨Nat.zero_le _,hs0.1,fun i hi=>by rw [hs0.2 i hi,if_neg (Nat.not_lt_zero _)]⟩ ?_ ?_
   · (refine ent_id ?_ ?_ ?_ rfl rfl <;> dsimp only [meetL,intL,u8L,U8,id,go_sem,rA,rM,rS] <;> simp [meetL,intL,u8L,U8,KFR_iff,KFR_app,KFR,KFL,KF,mtL_same,mtO,nbr])
   rintro ⟨j,ks⟩ ⟨hj,hkl,hki⟩
   simp only at hj hkl hki
   (repeat first | dsimp only [go_sem,rA,rM,rS] | simp only [nbr])
   by_cases hlt:j < k
   · refine br_t (by simpa using hlt) ?_
     (repeat first | dsimp only [go_sem,rA,rM,rS] | simp only [nbr])
     have gL:gI L (j:Int) = L[j]:=gI_eq rfl (by omega)
     have gE:gI E (j:Int) = E[j]:=gI_eq rfl (by omega)
     refine ixs_map j (by omega) rfl ?_
     (repeat first | dsimp only [intL,go_sem,rA,rM,rS] | simp only [nbr])
     by_cases q2:L[j] ≤ day
     · refine br_t (by simpa using q2) ?_
       have hx:(if gI L (j:Int) ≤ day then (2:Int) else if gI E (j:Int) ≤ day then 1 else 0) = 2:=by rw [gL,if_pos q2]
       (repeat first | dsimp only [go_sem,rA,rM,rS] | simp only [nbr])
       refine ixrm j rfl (by first | omega | (simp;omega)) ?_
       (repeat first | dsimp only [go_sem,rA,rM,rS] | simp only [nbr])
       refine strm (2:Int) (by first | omega | (simp;omega)) (by simp [u8L,U8]) (by simp [u8L,U8,splice]) ?_
       (repeat first | dsimp only [go_sem,rA,rM,rS] | simp only [nbr])
       rw [w64_in (n:=(j:Int) + 1) (by omega) (by omega)]
       refine ⟨(j + 1,ks.set j 2),⟨hlt,by simp [hkl],fun i hi=>?_⟩,by simp only;omega,?_⟩
       · dsimp only
         have:=hki i hi
         by_cases hij:i = j
         · subst hij;rw [List.getElem?_set_self (by omega),if_pos (Nat.lt_succ_self i),hx]
         · rw [List.getElem?_set_ne (by omega),this]
           by_cases hij2:i < j
           · rw [if_pos hij2,if_pos (c:=i < j + 1) (by omega)]
           · rw [if_neg hij2,if_neg (c:=i < j + 1) (by omega)]
       generalize ks.set j 2 = ks2
       (refine ent_id ?_ ?_ ?_ rfl rfl <;> dsimp only [meetL,intL,u8L,U8,id,go_sem,rA,rM,rS] <;> simp [meetL,intL,u8L,U8,KFR_iff,KFR_app,KFR,KFL,KF,mtL_same,mtO,nbr])
     refine br_f (by simpa using q2) ?_
     (repeat first | dsimp only [go_sem,rA,rM,rS] | simp only [nbr])
     refine ixs_map j (by omega) rfl ?_
     (repeat first | dsimp only [intL,go_sem,rA,rM,rS] | simp only [nbr])
     by_cases q1:E[j] ≤ day
     · refine br_t (by simpa using q1) ?_
       have hx:(if gI L (j:Int) ≤ day then (2:Int) else if gI E (j:Int) ≤ day then 1 else 0) = 1:=by rw [gL,gE,if_neg q2,if_pos q1]
       (repeat first | dsimp only [go_sem,rA,rM,rS] | simp only [nbr])
       refine ixrm j rfl (by first | omega | (simp;omega)) ?_
       (repeat first | dsimp only [go_sem,rA,rM,rS] | simp only [nbr])
       refine strm (1:Int) (by first | omega | (simp;omega)) (by simp [u8L,U8]) (by simp [u8L,U8,splice]) ?_
       (repeat first | dsimp only [go_sem,rA,rM,rS] | simp only [nbr])
       rw [w64_in (n:=(j:Int) + 1) (by omega) (by omega)]
       refine ⟨(j + 1,ks.set j 1),⟨hlt,by simp [hkl],fun i hi=>?_⟩,by simp only;omega,?_⟩
       · dsimp only
         have:=hki i hi
         by_cases hij:i = j
         · subst hij;rw [List.getElem?_set_self (by omega),if_pos (Nat.lt_succ_self i),hx]
         · rw [List.getElem?_set_ne (by omega),this]
           by_cases hij2:i < j
           · rw [if_pos hij2,if_pos (c:=i < j + 1) (by omega)]
           · rw [if_neg hij2,if_neg (c:=i < j + 1) (by omega)]
       generalize ks.set j 1 = ks2
       (refine ent_id ?_ ?_ ?_ rfl rfl <;> dsimp only [meetL,intL,u8L,U8,id,go_sem,rA,rM,rS] <;> simp [meetL,intL,u8L,U8,KFR_iff,KFR_app,KFR,KFL,KF,mtL_same,mtO,nbr])
     refine br_f (by simpa using q1) ?_
     have hx:(if gI L (j:Int) ≤ day then (2:Int) else if gI E (j:Int) ≤ day then 1 else 0) = 0:=by rw [gL,gE,if_neg q2,if_neg q1]
     (repeat first | dsimp only [go_sem,rA,rM,rS] | simp only [nbr])
     rw [w64_in (n:=(j:Int) + 1) (by omega) (by omega)]
     refine ⟨(j + 1,ks),⟨hlt,hkl,fun i hi=>?_⟩,by simp only;omega,?_⟩
     · dsimp only
       have:=hki i hi
       by_cases hij:i = j
       · subst hij;rw [this,if_neg (Nat.lt_irrefl i),if_pos (Nat.lt_succ_self i),hx]
       · rw [this]
         by_cases hij2:i < j
         · rw [if_pos hij2,if_pos (c:=i < j + 1) (by omega)]
         · rw [if_neg hij2,if_neg (c:=i < j + 1) (by omega)]
     (refine ent_id ?_ ?_ ?_ rfl rfl <;> dsimp only [meetL,intL,u8L,U8,id,go_sem,rA,rM,rS] <;> simp [meetL,intL,u8L,U8,KFR_iff,KFR_app,KFR,KFL,KF,mtL_same,mtO,nbr])
   refine br_f (by simp;omega) ?_
   (repeat first | dsimp only [go_sem,rA,rM,rS] | simp only [nbr])
   have hjk:j = k:=by omega
   subst hjk
   have hks:ks = mangeK j first meets wait day:=by
    apply List.ext_getElem?
    intro i
    unfold mangeK
    rw [Int.toNat_natCast,List.getElem?_map]
    by_cases hi:i < j
    · rw [hki i hi,if_pos hi,heq i hi,List.getElem?_range hi];rfl
    · rw [List.getElem?_eq_none (by omega),List.getElem?_eq_none (by simp;omega)];rfl
   rw [hks]
   simp [rowsK,hE0]
end Go.Proofs.Ytnlfjchbhgikaaa
namespace Go.Sx
open Go
def byS (ns:List Int):ByteArray:=ns.foldl (fun r n=>r.push (UInt8.ofNat n.toNat)) ByteArray.empty
theorem RL_vals {w:World} {E:Env} {n ok:Nat → Prop}:∀ {l ys:List Value},RL w E n ok (l.map SV.v) ys → ys = l
 | [],ys,h=>by simpa [RL] using h
 | x :: l,ys,h=>by
  simp only [List.map_cons,RL] at h
  obtain ⟨y,r,rfl,h1,h2⟩:=h
  simp only [R] at h1
  rw [h1,RL_vals h2]
theorem flat1 {α β : Type} (f:α → β):∀ l:List α,(l.map fun n=>[f n]).flatten = l.map f
 | []=>rfl
 | x :: l=>by simp only [List.map_cons,List.flatten_cons,flat1 f l];rfl
theorem raw_str {P:Program} {d:Option Nat} {u src dst ty e:Nat} {ns:List Int} {s:SV} {σ : St} {r:KT} {K:RK} (hl:lk u σ.fr = s) (hng:∀ j b u,s ≠ .gd j b u) (hs:sprV 1 s = some (ns.map fun n=>[SV.v (.int .u8 n)]))
 (hsrc:P.underlying src = some (.slice e)) (hdst:P.underlying dst = some .string) (he:P.underlying e = some (.int .u8)) (hk:putK d (.v (.string (byS ns))) none σ r K):RAW P d (.convert src dst (.tmp u)) ty σ r K:=by
 intro o C E a w next Q h1 h2 h3 hS hn hq
 have hR:=FR_R (hS.fr u) (fun j b u' e=>hng j b u' (hl ▸ e))
 rw [hl] at hR
 obtain ⟨cs,⟨ad,cap,y0,y1,y2,y3⟩,hcs,_⟩:=sprV_shows hR hs
 have hflat:(ns.map fun n=>[SV.v (.int .u8 n)]).flatten = (ns.map (Value.int .u8)).map SV.v:=by rw [flat1 (fun n=>SV.v (.int .u8 n)),List.map_map];rfl
 rw [hflat] at hcs
 have hcs:=RL_vals hcs
 subst hcs
 have hrun:(convert src dst (a.tmps.getD u undef)).run P w = .ok (.string (byS ns)) w:=by
  rw [y0,run_convert_bytes_string w src dst e ad _ cap hsrc he hdst]
  cases ad with
  | none =>
   have:ns = []:=by
    rcases y3 with h | ⟨b,off,h,_⟩
    · simpa using h
    · cases h
   subst this
   simp [Conv.bytesToString,Sem.run_pure,byS]
  | some ad =>
   refine run_bytesToString w ad _ cap ns ?_
   rcases y3 with h | ⟨b,off,h,hc⟩
   · have:ns = []:=by simpa using h
     subst this
     simp [loadCells,loadCellsFrom,Sem.run_pure]
   · cases h
     have hlen:(ns.map fun n=>[SV.v (.int .u8 n)]).length = (ns.map (Value.int .u8)).length:=by simp
     rw [hlen]
     exact run_loadCells_list w _ _ (fun j v hv=>by rw [addr_add];exact hc j v hv)
 have hx:(execOp a.eval o).run P w = .ok (.value (.string (byS ns))) w:=by
  obtain ⟨dst',op',ty',pos,after,guard⟩:=o
  simp only at h2;subst h2
  simp only [Array.getD_eq_getD_getElem?] at hrun
  simp only [execOp,Act.eval]
  simp [Sem.run_bind,hrun]
 refine wpq_res hx (by simp) ?_
 show next (a.put o.dst _) w
 rcases putK_ex hk with ⟨g1,g2⟩ | ⟨t,g1,g2,g3,g4,g5⟩
 · rw [h1,g1];exact hn _ E _ _ g2 hS
 · rw [h1,g1]
   exact hn _ E _ _ g5 (Sim_put hS (fun b hb _=>⟨hb,rfl⟩) (fun _ _=>Ele.rfl) (Nat.le_refl _) hS.hs g2 g3 (fun j b u e=>by rw [e] at g4;cases g4) (by simp only [R]))
theorem raw_seqc {P:Program} {d:Option Nat} {u t t' ty:Nat} {op:BinOp} {q:Bool} {x y:ByteArray} {σ : St} {r:KT} {K:RK} (hu:lk u σ.fr = .v (.string x)) (hq0:(op = .eql ∧ q = (x.toList == y.toList)) ∨ (op = .neq ∧ q = !(x.toList == y.toList)))
 (hk:putK d (.v (.bool q)) none σ r K):RAW P d (.binOp op t (.tmp u) (.const (.string y)) t') ty σ r K:=by
 intro o C E a w next Q h1 h2 h3 hS hn hq
 have hx:a.eval (.tmp u) = .string x:=by
  have:=hS.fr u
  rw [hu] at this
  simp only [FR,R] at this
  exact this
 have hrun:(execOp a.eval o).run P w =   .ok (.value (.bool q)) w:=by
  obtain ⟨dst',op',ty',pos,after,guard⟩:=o
  simp only at h2;subst h2
  have hc:a.eval (.const (.string y)) = .string y:=rfl
  simp only [execOp,hx,hc]
  rcases hq0 with ⟨rfl,rfl⟩ | ⟨rfl,rfl⟩ <;> simp [Sem.run_bind,eqGuard,binOp,Op.stringOp,Sem.run_pure]
 refine wpq_res hrun (by simp) ?_
 show next (a.put o.dst _) w
 rcases putK_ex hk with ⟨g1,g2⟩ | ⟨t,g1,g2,g3,g4,g5⟩
 · rw [h1,g1];exact hn _ E _ _ g2 hS
 · rw [h1,g1]
   exact hn _ E _ _ g5 (Sim_put hS (fun b hb _=>⟨hb,rfl⟩) (fun _ _=>Ele.rfl) (Nat.le_refl _) hS.hs g2 g3 (fun j b u e=>by rw [e] at g4;cases g4) (by simp only [R]))
end Go.Sx
set_option maxRecDepth 100000
set_option maxHeartbeats 4000000
namespace Go.Proofs.Ytnlfjchbhgikaaa
open Go Go.Sx Go.Azalai
end Go.Proofs.Ytnlfjchbhgikaaa
set_option maxRecDepth 100000
set_option maxHeartbeats 4000000
namespace Go.Azalai
def herdE:List Meet:=[⟨0,1,5,false⟩,⟨1,2,9,true⟩]
theorem herd_early:Least 3 [0] (act false herdE) 3 [0,8,12]:=by
 refine Sk.least ⟨rfl,fun i h0 h1=>?_,fun i hi=>?_,fun i h0 h1=>?_⟩ (fun m hm=>?_) (fun m hm=>?_)
 · have e1:Inf [0] (act false herdE) 3 0 0:=.base (by simp)
   have e2:Inf [0] (act false herdE) 3 1 (5 + 3):=.l (m:=⟨0,1,5,false⟩) ⟨by simp [herdE],fun h=>by cases h⟩ e1 (by decide)
   have e3:Inf [0] (act false herdE) 3 2 (9 + 3):=.l (m:=⟨1,2,9,true⟩) ⟨by simp [herdE],fun h=>by cases h⟩ e2 (by decide)
   have:i = 0 ∨ i = 1 ∨ i = 2:=by omega
   rcases this with rfl | rfl | rfl
   · exact .inr e1
   · exact .inr e2
   · exact .inr e3
 · simp at hi;subst hi;decide
 · have:i = 0 ∨ i = 1 ∨ i = 2:=by omega
   rcases this with rfl | rfl | rfl <;> decide
 · have:=hm.1;simp [herdE] at this;rcases this with rfl | rfl <;> (unfold okM;simp)
 · have:=hm.1;simp [herdE] at this;rcases this with rfl | rfl <;> decide
theorem herd_late:Least 3 [0] (act true herdE) 5 [0,never,never]:=by
 refine Sk.least ⟨rfl,fun i h0 h1=>?_,fun i hi=>?_,fun i h0 h1=>?_⟩ (fun m hm=>?_) (fun m hm=>?_)
 · have:i = 0 ∨ i = 1 ∨ i = 2:=by omega
   rcases this with rfl | rfl | rfl
   · exact .inr (.base (by simp))
   · exact .inl rfl
   · exact .inl rfl
 · simp at hi;subst hi;decide
 · have:i = 0 ∨ i = 1 ∨ i = 2:=by omega
   rcases this with rfl | rfl | rfl <;> decide
 · have:=hm.1;simp [herdE] at this;rcases this with rfl | rfl <;> (unfold okM;simp)
 · obtain ⟨h1,h2⟩:=hm
   simp [herdE] at h1
   rcases h1 with rfl | rfl
   · exact absurd (h2 rfl) (by simp)
   · decide
theorem herdK (day:Int):mangeK 3 [0] herdE ⟨3,5⟩ day = [knF day 0 0,knF day 8 never,knF day 12 never]:=by
 unfold mangeK
 rw [show (3:Int).toNat = 3 from rfl,herd_early.sickF,herd_late.sickF]
 rfl
end Go.Azalai
namespace Go.Proofs.Ytnlfjchbhgikaaa
open Go Go.Sx Go.Azalai
theorem herd_ok:Ct Try.prog 51 [] (.sl true 4 (herdE.map meetL)):=by
 refine t51 (by simp [KFL,KF]) (by simp [herdE,meetL,KFR,KFL,KF]) ?_
 dsimp only [c51,r51,go_sem,rA,rM,rS]
 rfl
theorem eFit:sres breedE animalE (fitF breedE animalE) = .tup [.agg [I 800,I 1000],I 0]:=by kernel_rfl
theorem eCar:sres breedE animalE (carF breedE animalE) = .tup [.agg [I 120000,I 200000],I 0]:=by kernel_rfl
theorem eCost:cres breedE false dayE = .tup [.agg [I 7000,I 9500],.agg [I 800,I 1000],I 0]:=by kernel_rfl
theorem eAft:afterE breedE animalE dayE = (⟨⟨50500,63000⟩,⟨19000,29200⟩,⟨100,300⟩,false⟩,0,0):=by kernel_rfl
theorem eLast:tres (lastsF breedE animalE dayE) = .tup [.agg [I 6,I 10],I 0]:=by kernel_rfl
theorem eMeet:meetsE 3 [0] herdE ⟨3,5⟩ 8 = 0:=by kernel_rfl
theorem eKn:([knF 8 0 0,knF 8 8 never,knF 8 12 never]:List Int) = [2,1,0]:=by kernel_rfl
theorem eRow:rowsK 0 [2,1,0] = .sl false 1 ([2,1,0].map u8L):=rfl
end Go.Proofs.Ytnlfjchbhgikaaa
set_option maxRecDepth 100000
set_option maxHeartbeats 4000000
namespace Go.Proofs.Ytnlfjchbhgikaaa
open Go Go.Sx Go.Azalai
theorem alive_ok:Ct Try.prog 38 [] (B true):=by
 refine t38 (by simp [KFL,KF]) (by simp [KFL,KF]) ?_
 dsimp only [c38,r38,go_sem,rA,rM,rS]
 refine call breedE_ok ?_
 dsimp only [go_sem,rA,rM,rS]
 refine call animalE_ok ?_
 dsimp only [go_sem,rA,rM,rS]
 refine call (fitness_ok breedE animalE) ?_
 rw [eFit]
 dsimp only [go_sem,rA,rM,rS]
 refine call breedE_ok ?_
 dsimp only [go_sem,rA,rM,rS]
 refine call animalE_ok ?_
 dsimp only [go_sem,rA,rM,rS]
 refine call (carries_ok breedE animalE) ?_
 rw [eCar]
 dsimp only [go_sem,rA,rM,rS]
 refine call breedE_ok ?_
 dsimp only [go_sem,rA,rM,rS]
 refine call dayE_ok ?_
 dsimp only [go_sem,rA,rM,rS]
 refine call (Cost_ok breedE false dayE) ?_
 rw [eCost]
 dsimp only [go_sem,rA,rM,rS]
 refine call breedE_ok ?_
 dsimp only [go_sem,rA,rM,rS]
 refine call animalE_ok ?_
 dsimp only [go_sem,rA,rM,rS]
 refine call dayE_ok ?_
 dsimp only [go_sem,rA,rM,rS]
 refine call (after1_ok breedE animalE dayE) ?_
 rw [eAft]
 dsimp only [camelL,U8,go_sem,rA,rM,rS]
 refine call breedE_ok ?_
 dsimp only [go_sem,rA,rM,rS]
 refine call animalE_ok ?_
 dsimp only [go_sem,rA,rM,rS]
 refine call dayE_ok ?_
 dsimp only [go_sem,rA,rM,rS]
 refine call (lasts_ok breedE animalE dayE) ?_
 rw [eLast]
 dsimp only [go_sem,rA,rM,rS]
 refine call herd_ok ?_
 dsimp only [go_sem,rA,rM,rS]
 refine call (span_ok 3 5) ?_
 dsimp only [go_sem,rA,rM,rS]
 refine call (mange_ok 3 [0] herdE ⟨3,5⟩ 8 true true (by decide) (by decide)) ?_
 rw [herdK,eMeet,eKn,eRow]
 dsimp only [go_sem,rA,rM,rS]
 repeat (first | (refine .inl ⟨rfl,?_⟩;dsimp only [go_sem,rA,rM,rS]) | (refine call (span_ok _ _) ?_;dsimp only [go_sem,rA,rM,rS]))
 refine raw_str (e:=5) (ns:=[2,1,0]) rfl (fun _ _ _ e=>by cases e) rfl (by kernel_rfl) (by kernel_rfl) (by kernel_rfl) ?_
 dsimp only [go_sem,rA,rM,rS]
 refine .inl ⟨rfl,?_⟩
 dsimp only [go_sem,rA,rM,rS]
 refine raw_seqc (q:=true) rfl (.inl ⟨rfl,by decide +kernel⟩) ?_
 dsimp only [go_sem,rA,rM,rS]
 simp
end Go.Proofs.Ytnlfjchbhgikaaa
set_option maxRecDepth 100000
namespace Go.Proofs.Ytnlfjchbhgikaaa
open Go Go.Sx
end Go.Proofs.Ytnlfjchbhgikaaa
set_option maxRecDepth 100000
set_option maxHeartbeats 4000000
namespace Go.Azalai
theorem Inf.congr {first:List Int} {M M':Meet → Prop} {w i t:Int} (h:∀ m,M m → ∃ m',M' m' ∧ m'.a = m.a ∧ m'.b = m.b ∧ m'.day = m.day) (hi:Inf first M w i t):Inf first M' w i t:=by
 induction hi with
 | base hb=>exact .base hb
 | l hm _ ht ih =>
  obtain ⟨m',g1,g2,g3,g4⟩:=h _ hm
  rw [← g3,← g4];exact .l g1 (by rw [g2];exact ih) (by rw [g4];exact ht)
 | r hm _ ht ih =>
  obtain ⟨m',g1,g2,g3,g4⟩:=h _ hm
  rw [← g2,← g4];exact .r g1 (by rw [g3];exact ih) (by rw [g4];exact ht)
def shut (m:Meet):Meet:=⟨m.a,m.b,m.day,true⟩
end Go.Azalai
namespace Go.Azalai
end Go.Azalai
namespace Go.Proofs.Ytnlfjchbhgikaaa
open Go Go.Sx Go.Azalai
end Go.Proofs.Ytnlfjchbhgikaaa
