import Derived.Test.YtnlfjchbhgikaaaSc
import Derived.Test.YtnlfjchbhgikaaaProg
set_option maxRecDepth 100000
namespace Go.Proofs.Ytnlfjchbhgikaaa
open Go Go.Sx
/- azalai/azalailaw01.CamelMange -/
def c6 : SC := (.seq (.reg [
  ⟨some 8, .box (.t 3) 0 23, none, []⟩,
  ⟨some 10, .mv (.c (.bool false)), none, []⟩])
  (.seq (.seq (.reg [
  ⟨some 18, .mv (.t 1), none, []⟩,
  ⟨some 19, .len (.t 18), none, []⟩,
  ⟨some 20, .bin .gtr (.t 19) (.c (.int .i64 50)), none, []⟩,
  ⟨some 21, .mv (.t 20), none, []⟩,
  ⟨some 22, .mv (.t 2), some (21, false), []⟩,
  ⟨some 23, .len (.t 22), some (21, false), []⟩,
  ⟨some 24, .bin .gtr (.t 23) (.c (.int .i64 250)), some (21, false), []⟩,
  ⟨some 25, .pick (.t 21) (.c (.bool true)) (.t 24), none, []⟩])
  (.cond (.t 25)
  (.seq (.reg [
   ⟨some 10, .mv (.c (.bool true)), none, []⟩])
   .ret)
  .skip))
  (.seq (.reg [
  ⟨some 26, .bsl 1 3 [], none, []⟩,
  ⟨some 27, .mv (.t 1), none, []⟩,
  ⟨some 28, .app 1 8 3 (.t 26) (.t 27), none, []⟩,
  ⟨some 29, .bsl 4 73 [], none, []⟩,
  ⟨some 30, .mv (.t 2), none, []⟩,
  ⟨some 31, .app 4 32 73 (.t 29) (.t 30), none, []⟩,
  ⟨some 11, .mv (.t 28), none, []⟩,
  ⟨some 12, .mv (.t 31), none, []⟩])
  (.seq (.reg [
  ⟨some 33, .mv (.t 0), none, []⟩,
  ⟨some 34, .mv (.t 11), none, []⟩,
  ⟨some 35, .mv (.t 12), none, []⟩,
  ⟨some 36, .ld (.t 8) 2 true, none, []⟩,
  ⟨some 37, .mv (.t 4), none, []⟩,
  ⟨some 38, .call 35 [.t 33, .t 34, .t 35, .t 36, .t 37], none, []⟩,
  ⟨some 32, .mv (.t 38), none, []⟩,
  ⟨some 39, .ext (.t 32) 0, none, []⟩,
  ⟨some 40, .ext (.t 32) 1, none, []⟩,
  ⟨some 13, .mv (.t 39), none, []⟩,
  ⟨some 14, .mv (.t 40), none, []⟩])
  (.seq (.reg [
  ⟨some 42, .mv (.t 0), none, []⟩,
  ⟨some 43, .mv (.t 1), none, []⟩,
  ⟨some 44, .mv (.t 2), none, []⟩,
  ⟨some 45, .ld (.t 8) 2 true, none, []⟩,
  ⟨some 46, .mv (.t 4), none, []⟩,
  ⟨some 47, .call 36 [.t 42, .t 43, .t 44, .t 45, .t 46], none, []⟩,
  ⟨some 41, .mv (.t 47), none, []⟩,
  ⟨some 48, .ext (.t 41) 0, none, []⟩,
  ⟨some 49, .ext (.t 41) 1, none, []⟩,
  ⟨some 15, .mv (.t 48), none, []⟩,
  ⟨some 16, .mv (.t 49), none, []⟩])
  (.seq (.seq (.reg [
  ⟨some 50, .mv (.t 2), none, []⟩,
  ⟨some 51, .len (.t 50), none, []⟩,
  ⟨some 52, .mv (.c (.int .i64 0)), none, []⟩])
  (.block 0 (.loop (.seq (.reg [
    ⟨some 53, .bin .lss (.t 52) (.t 51), none, []⟩])
    (.seq (.cond (.t 53)
    .skip
    (.exit 0))
    (.seq (.block 1 (.seq (.reg [
     ⟨some 54, .mv (.t 52), none, []⟩,
     ⟨some 17, .mv (.t 54), none, []⟩])
     (.seq (.regd [0, 1, 2, 3, 4, 5, 6, 7, 8] [
     .op ⟨some 55, .mv (.t 12), none, []⟩,
     .op ⟨some 56, .mv (.t 17), none, []⟩,
     .op ⟨some 57, .ixs (.t 55) (.t 56) 4, none, [0, 1]⟩,
     .op ⟨some 58, .ld (.t 57) 4 true, none, [2]⟩,
     .op ⟨some 59, .mv (.t 2), none, []⟩,
     .op ⟨some 60, .mv (.t 17), none, []⟩,
     .op ⟨some 61, .ixs (.t 59) (.t 60) 4, none, [4, 5]⟩,
     .op ⟨some 62, .ld (.t 61) 4 true, none, [6]⟩,
     .op ⟨some 63, .eqs true true [1, 1, 1, 0] (.t 58) (.t 62), none, [3, 7]⟩] 0 0 [
])
     (.cond (.t 63)
     (.seq (.reg [
      ⟨some 10, .mv (.c (.bool false)), none, []⟩])
      .ret)
     .skip))))
    (.reg [
    ⟨some 64, .bin .add (.t 52) (.c (.int .i64 1)), none, []⟩,
    ⟨some 52, .mv (.t 64), none, []⟩])))))))
  (.seq (.reg [
  ⟨some 65, .mv (.t 13), none, []⟩,
  ⟨some 66, .raw (Go.Op.convert 67 9 (Go.Operand.tmp 65)) 9, none, []⟩,
  ⟨some 67, .mv (.t 15), none, []⟩,
  ⟨some 68, .raw (Go.Op.convert 67 9 (Go.Operand.tmp 67)) 9, none, []⟩,
  ⟨some 69, .raw (Go.Op.binOp Go.BinOp.eql 9 (Go.Operand.tmp 66) (Go.Operand.tmp 68) 9) 4, none, []⟩,
  ⟨some 70, .mv (.t 69), none, []⟩,
  ⟨some 71, .mv (.t 14), some (70, true), []⟩,
  ⟨some 72, .mv (.t 16), some (70, true), []⟩,
  ⟨some 73, .bin .eql (.t 71) (.t 72), some (70, true), []⟩,
  ⟨some 74, .pick (.t 70) (.t 73) (.c (.bool false)), none, []⟩,
  ⟨some 75, .mv (.t 74), none, []⟩,
  ⟨some 76, .mv (.t 11), some (75, true), []⟩,
  ⟨some 77, .mv (.t 1), some (75, true), []⟩,
  ⟨some 78, .call 37 [.t 76, .t 77], some (75, true), []⟩,
  ⟨some 79, .pick (.t 75) (.t 78) (.c (.bool false)), none, []⟩,
  ⟨some 10, .mv (.t 79), none, []⟩])
  .ret)))))))
def r6 : List RV := [.tmp 10]
theorem n6 : Try.f6.ntmps = 80 := by kernel_rfl
theorem b6 : bodyB Try.prog 6 = true := by kernel_rfl
theorem c6_ok : cmpC Try.prog c6 ((Try.f6.body).getD .skip) = true := by kernel_rfl
theorem r6_ok : cmpR Try.prog r6 Try.f6.results.toList = true := by kernel_rfl
theorem t6 {args : List SV} {res : SV} (ka : KFL args) (kr : KF res) (h : sx Try.prog Y0 0 c6 (st0 args 80) (retK r6 res)) (hA : Nat.ble args.length 80 = true := by rfl) : Ct Try.prog 6 args res := ct_intro Try.func6 rfl b6 c6_ok r6_ok n6 (Nat.le_of_ble_eq_true hA) ka kr h
/- azalai/camel.Mange -/
def c35 : SC := (.seq (.reg [
  ⟨some 5, .box (.t 0) 0 3, none, []⟩,
  ⟨some 8, .box (.t 3) 0 23, none, []⟩,
  ⟨some 10, .mv (.c (.slice none 0 0)), none, []⟩,
  ⟨some 11, .mv (.c (.int .i64 0)), none, []⟩])
  (.seq (.seq (.reg [
  ⟨some 19, .ld (.t 5) 1 false, none, []⟩,
  ⟨some 20, .bsl 1 3 [.t 19], none, []⟩,
  ⟨some 21, .call 64 [.c (.int .i64 1), .c (.int .i64 30), .t 20], none, []⟩,
  ⟨some 22, .un .not (.t 21), none, []⟩,
  ⟨some 23, .mv (.t 22), none, []⟩,
  ⟨some 24, .ld (.t 8) 2 true, some (23, false), []⟩,
  ⟨some 25, .bsl 2 23 [.t 24], some (23, false), []⟩,
  ⟨some 26, .call 65 [.c (.int .i64 1), .c (.int .i64 60), .t 25], some (23, false), []⟩,
  ⟨some 27, .un .not (.t 26), some (23, false), []⟩,
  ⟨some 28, .pick (.t 23) (.c (.bool true)) (.t 27), none, []⟩,
  ⟨some 29, .mv (.t 28), none, []⟩,
  ⟨some 30, .mv (.t 4), some (29, false), []⟩,
  ⟨some 31, .bsl 1 3 [.t 30], some (29, false), []⟩,
  ⟨some 32, .call 64 [.c (.int .i64 0), .c (.int .i64 100000), .t 31], some (29, false), []⟩,
  ⟨some 33, .un .not (.t 32), some (29, false), []⟩,
  ⟨some 34, .pick (.t 29) (.c (.bool true)) (.t 33), none, []⟩])
  (.cond (.t 34)
  (.seq (.reg [
   ⟨some 10, .mv (.c (.slice none 0 0)), none, []⟩,
   ⟨some 11, .mv (.c (.int .i64 2)), none, []⟩])
   .ret)
  .skip))
  (.seq (.seq (.reg [
  ⟨some 35, .mv (.t 1), none, []⟩,
  ⟨some 36, .len (.t 35), none, []⟩,
  ⟨some 37, .bin .gtr (.t 36) (.c (.int .i64 30)), none, []⟩,
  ⟨some 38, .mv (.t 37), none, []⟩,
  ⟨some 39, .mv (.t 2), some (38, false), []⟩,
  ⟨some 40, .len (.t 39), some (38, false), []⟩,
  ⟨some 41, .bin .gtr (.t 40) (.c (.int .i64 200)), some (38, false), []⟩,
  ⟨some 42, .pick (.t 38) (.c (.bool true)) (.t 41), none, []⟩])
  (.cond (.t 42)
  (.seq (.reg [
   ⟨some 10, .mv (.c (.slice none 0 0)), none, []⟩,
   ⟨some 11, .mv (.c (.int .i64 4)), none, []⟩])
   .ret)
  .skip))
  (.seq (.reg [
  ⟨some 43, .mkf 77 [.t 5], none, []⟩,
  ⟨some 12, .mv (.t 43), none, []⟩])
  (.seq (.seq (.reg [
  ⟨some 44, .ld (.t 5) 1 false, none, []⟩,
  ⟨some 45, .bin .sub (.t 44) (.c (.int .i64 1)), none, []⟩,
  ⟨some 46, .mv (.t 1), none, []⟩,
  ⟨some 47, .call 64 [.c (.int .i64 0), .t 45, .t 46], none, []⟩,
  ⟨some 48, .un .not (.t 47), none, []⟩,
  ⟨some 49, .mv (.t 48), none, []⟩,
  ⟨some 50, .mv (.t 2), some (49, false), []⟩,
  ⟨some 51, .mv (.t 12), some (49, false), []⟩,
  ⟨some 52, .call 78 [.t 50, .t 51], some (49, false), []⟩,
  ⟨some 53, .pick (.t 49) (.c (.bool true)) (.t 52), none, []⟩])
  (.cond (.t 53)
  (.seq (.reg [
   ⟨some 10, .mv (.c (.slice none 0 0)), none, []⟩,
   ⟨some 11, .mv (.c (.int .i64 14)), none, []⟩])
   .ret)
  .skip))
  (.seq (.reg [
  ⟨some 54, .mv (.t 2), none, []⟩,
  ⟨some 55, .callm 79 [.t 54], none, []⟩,
  ⟨some 13, .mv (.t 55), none, []⟩])
  (.gh (.seq (.reg [
  ⟨some 56, .mv (.t 13), none, []⟩,
  ⟨some 57, .callm 80 [.t 56, .f 81], none, []⟩])
  (.gh (.seq (.reg [
  ⟨some 58, .ld (.t 5) 1 false, none, []⟩,
  ⟨some 59, .mv (.t 1), none, []⟩,
  ⟨some 60, .mv (.t 13), none, []⟩,
  ⟨some 61, .addo (.t 8) 0, none, []⟩,
  ⟨some 62, .ld (.t 61) 1 false, none, []⟩,
  ⟨some 63, .mv (.t 4), none, []⟩,
  ⟨some 64, .call 83 [.t 58, .t 59, .t 60, .t 62, .t 63], none, []⟩,
  ⟨some 14, .mv (.t 64), none, []⟩])
  (.seq (.reg [
  ⟨some 65, .mv (.t 13), none, []⟩,
  ⟨some 66, .callm 79 [.t 65], none, []⟩,
  ⟨some 67, .callm 84 [.t 66, .f 85], none, []⟩,
  ⟨some 15, .mv (.t 67), none, []⟩])
  (.gh (.seq (.reg [
  ⟨some 68, .ld (.t 5) 1 false, none, []⟩,
  ⟨some 69, .mv (.t 1), none, []⟩,
  ⟨some 70, .mv (.t 15), none, []⟩,
  ⟨some 71, .addo (.t 8) 1, none, []⟩,
  ⟨some 72, .ld (.t 71) 1 false, none, []⟩,
  ⟨some 73, .mv (.t 4), none, []⟩,
  ⟨some 74, .call 83 [.t 68, .t 69, .t 70, .t 72, .t 73], none, []⟩,
  ⟨some 16, .mv (.t 74), none, []⟩])
  (.seq (.reg [
  ⟨some 75, .ld (.t 5) 1 false, none, []⟩,
  ⟨some 76, .mks 1 1 [.int .u8 0] 5 (.t 75), none, []⟩,
  ⟨some 17, .mv (.t 76), none, []⟩])
  (.seq (.seq (.reg [
  ⟨some 77, .mv (.t 17), none, []⟩,
  ⟨some 78, .len (.t 77), none, []⟩,
  ⟨some 79, .mv (.c (.int .i64 0)), none, []⟩])
  (.block 0 (.loop (.seq (.reg [
    ⟨some 80, .bin .lss (.t 79) (.t 78), none, []⟩])
    (.seq (.cond (.t 80)
    .skip
    (.exit 0))
    (.seq (.block 1 (.seq (.reg [
     ⟨some 81, .mv (.t 79), none, []⟩,
     ⟨some 18, .mv (.t 81), none, []⟩])
     (.block 2 (.seq (.reg [
      ⟨some 83, .mv (.t 16), none, []⟩,
      ⟨some 84, .mv (.t 18), none, []⟩,
      ⟨some 85, .ixs (.t 83) (.t 84) 1, none, []⟩,
      ⟨some 86, .ld (.t 85) 1 false, none, []⟩,
      ⟨some 87, .mv (.t 4), none, []⟩,
      ⟨some 88, .bin .leq (.t 86) (.t 87), none, []⟩,
      ⟨some 82, .mv (.t 88), none, []⟩])
      (.cond (.t 82)
      (.reg [
       ⟨some 89, .mv (.t 17), none, []⟩,
       ⟨some 90, .mv (.t 18), none, []⟩,
       ⟨some 91, .ixs (.t 89) (.t 90) 1, none, []⟩,
       ⟨none, .st (.t 91) (.c (.int .u8 2)) 1, none, []⟩])
      (.seq (.reg [
       ⟨some 93, .mv (.t 14), none, []⟩,
       ⟨some 94, .mv (.t 18), none, []⟩,
       ⟨some 95, .ixs (.t 93) (.t 94) 1, none, []⟩,
       ⟨some 96, .ld (.t 95) 1 false, none, []⟩,
       ⟨some 97, .mv (.t 4), none, []⟩,
       ⟨some 98, .bin .leq (.t 96) (.t 97), none, []⟩,
       ⟨some 92, .mv (.t 98), none, []⟩])
       (.cond (.t 92)
       (.reg [
        ⟨some 99, .mv (.t 17), none, []⟩,
        ⟨some 100, .mv (.t 18), none, []⟩,
        ⟨some 101, .ixs (.t 99) (.t 100) 1, none, []⟩,
        ⟨none, .st (.t 101) (.c (.int .u8 1)) 1, none, []⟩])
       .skip)))))))
    (.reg [
    ⟨some 102, .bin .add (.t 79) (.c (.int .i64 1)), none, []⟩,
    ⟨some 79, .mv (.t 102), none, []⟩])))))))
  (.seq (.reg [
  ⟨some 103, .mv (.t 17), none, []⟩,
  ⟨some 10, .mv (.t 103), none, []⟩,
  ⟨some 11, .mv (.c (.int .i64 0)), none, []⟩])
  .ret))))))))))))))))
def r35 : List RV := [.tmp 10, .tmp 11]
theorem n35 : Try.f35.ntmps = 104 := by kernel_rfl
theorem b35 : bodyB Try.prog 35 = true := by kernel_rfl
theorem c35_ok : cmpC Try.prog c35 ((Try.f35.body).getD .skip) = true := by kernel_rfl
theorem r35_ok : cmpR Try.prog r35 Try.f35.results.toList = true := by kernel_rfl
theorem t35 {args : List SV} {res : SV} (ka : KFL args) (kr : KF res) (h : sx Try.prog Y0 0 c35 (st0 args 104) (retK r35 res)) (hA : Nat.ble args.length 104 = true := by rfl) : Ct Try.prog 35 args res := ct_intro Try.func35 rfl b35 c35_ok r35_ok n35 (Nat.le_of_ble_eq_true hA) ka kr h
/- azalai/azalairef01.Mange -/
def c36 : SC := (.seq (.reg [
  ⟨some 8, .box (.t 3) 0 23, none, []⟩,
  ⟨some 10, .mv (.c (.slice none 0 0)), none, []⟩,
  ⟨some 11, .mv (.c (.int .i64 0)), none, []⟩])
  (.seq (.seq (.reg [
  ⟨some 18, .mv (.t 0), none, []⟩,
  ⟨some 19, .mv (.t 1), none, []⟩,
  ⟨some 20, .mv (.t 2), none, []⟩,
  ⟨some 21, .ld (.t 8) 2 true, none, []⟩,
  ⟨some 22, .mv (.t 4), none, []⟩,
  ⟨some 23, .call 49 [.t 18, .t 19, .t 20, .t 21, .t 22], none, []⟩,
  ⟨some 12, .mv (.t 23), none, []⟩])
  (.seq (.reg [
  ⟨some 24, .mv (.t 12), none, []⟩,
  ⟨some 25, .bin .neq (.t 24) (.c (.int .i64 0)), none, []⟩])
  (.cond (.t 25)
  (.seq (.reg [
   ⟨some 26, .mv (.t 12), none, []⟩,
   ⟨some 10, .mv (.c (.slice none 0 0)), none, []⟩,
   ⟨some 11, .mv (.t 26), none, []⟩])
   .ret)
  .skip)))
  (.seq (.regd [0, 1, 2, 3, 4, 5, 6, 7, 8, 9, 10, 11, 12, 13] [
  .op ⟨some 27, .mv (.t 0), none, []⟩,
  .op ⟨some 28, .mv (.t 1), none, []⟩,
  .op ⟨some 29, .mv (.t 2), none, []⟩,
  .op ⟨some 30, .addo (.t 8) 0, none, []⟩,
  .op ⟨some 31, .ld (.t 30) 1 false, none, [3]⟩,
  .op ⟨some 32, .call 86 [.t 27, .t 28, .t 29, .t 31, .c (.bool false)], none, [0, 1, 2, 4]⟩,
  .op ⟨some 33, .mv (.t 0), none, []⟩,
  .op ⟨some 34, .mv (.t 1), none, []⟩,
  .op ⟨some 35, .mv (.t 2), none, []⟩,
  .op ⟨some 36, .addo (.t 8) 1, none, []⟩,
  .op ⟨some 37, .ld (.t 36) 1 false, none, [9]⟩,
  .op ⟨some 38, .call 86 [.t 33, .t 34, .t 35, .t 37, .c (.bool true)], none, [5, 6, 7, 8, 10]⟩,
  .op ⟨some 13, .mv (.t 32), none, [0, 1, 2, 3, 4, 5, 11]⟩,
  .op ⟨some 14, .mv (.t 38), none, [0, 1, 2, 3, 4, 5, 6, 7, 8, 9, 10, 11, 12]⟩] 0 0 [
])
  (.seq (.reg [
  ⟨some 15, .mv (.c (.slice none 0 0)), none, []⟩])
  (.seq (.seq (.reg [
  ⟨some 16, .mv (.c (.int .i64 0)), none, []⟩])
  (.block 0 (.loop (.seq (.seq (.reg [
    ⟨some 39, .mv (.t 16), none, []⟩,
    ⟨some 40, .mv (.t 0), none, []⟩,
    ⟨some 41, .bin .lss (.t 39) (.t 40), none, []⟩])
    (.cond (.t 41)
    .skip
    (.exit 0)))
    (.seq (.block 1 (.seq (.reg [
     ⟨some 17, .mv (.c (.int .u8 1)), none, []⟩])
     (.seq (.seq (.reg [
     ⟨some 44, .mv (.t 4), none, []⟩,
     ⟨some 45, .mv (.t 14), none, []⟩,
     ⟨some 46, .mv (.t 16), none, []⟩,
     ⟨some 47, .ixs (.t 45) (.t 46) 1, none, []⟩,
     ⟨some 48, .ld (.t 47) 1 false, none, []⟩,
     ⟨some 49, .bin .geq (.t 44) (.t 48), none, []⟩])
     (.cond (.t 49)
     (.reg [
      ⟨some 17, .mv (.c (.int .u8 2)), none, []⟩])
     .skip))
     (.seq (.seq (.reg [
     ⟨some 50, .mv (.t 4), none, []⟩,
     ⟨some 51, .mv (.t 13), none, []⟩,
     ⟨some 52, .mv (.t 16), none, []⟩,
     ⟨some 53, .ixs (.t 51) (.t 52) 1, none, []⟩,
     ⟨some 54, .ld (.t 53) 1 false, none, []⟩,
     ⟨some 55, .bin .lss (.t 50) (.t 54), none, []⟩])
     (.cond (.t 55)
     (.reg [
      ⟨some 17, .mv (.c (.int .u8 0)), none, []⟩])
     .skip))
     (.reg [
     ⟨some 56, .mv (.t 15), none, []⟩,
     ⟨some 57, .mv (.t 17), none, []⟩,
     ⟨some 58, .bsl 1 5 [.t 57], none, []⟩,
     ⟨some 59, .appm 1 1 5 (.t 56) (.t 58), none, []⟩,
     ⟨some 15, .mv (.t 59), none, []⟩])))))
    (.reg [
    ⟨some 42, .mv (.t 16), none, []⟩,
    ⟨some 43, .bin .add (.t 42) (.c (.int .i64 1)), none, []⟩,
    ⟨some 16, .mv (.t 43), none, []⟩]))))))
  (.seq (.reg [
  ⟨some 60, .mv (.t 15), none, []⟩,
  ⟨some 10, .mv (.t 60), none, []⟩,
  ⟨some 11, .mv (.c (.int .i64 0)), none, []⟩])
  .ret))))))
def r36 : List RV := [.tmp 10, .tmp 11]
theorem n36 : Try.f36.ntmps = 61 := by kernel_rfl
theorem b36 : bodyB Try.prog 36 = true := by kernel_rfl
theorem c36_ok : cmpC Try.prog c36 ((Try.f36.body).getD .skip) = true := by kernel_rfl
theorem r36_ok : cmpR Try.prog r36 Try.f36.results.toList = true := by kernel_rfl
theorem t36 {args : List SV} {res : SV} (ka : KFL args) (kr : KF res) (h : sx Try.prog Y0 0 c36 (st0 args 61) (retK r36 res)) (hA : Nat.ble args.length 61 = true := by rfl) : Ct Try.prog 36 args res := ct_intro Try.func36 rfl b36 c36_ok r36_ok n36 (Nat.le_of_ble_eq_true hA) ka kr h
/- azalai/azalairef01.SameInts -/
def c37 : SC := (.seq (.reg [
  ⟨some 4, .mv (.c (.bool false)), none, []⟩])
  (.seq (.seq (.reg [
  ⟨some 6, .mv (.t 0), none, []⟩,
  ⟨some 7, .len (.t 6), none, []⟩,
  ⟨some 8, .mv (.t 1), none, []⟩,
  ⟨some 9, .len (.t 8), none, []⟩,
  ⟨some 10, .bin .neq (.t 7) (.t 9), none, []⟩])
  (.cond (.t 10)
  (.seq (.reg [
   ⟨some 4, .mv (.c (.bool false)), none, []⟩])
   .ret)
  .skip))
  (.seq (.seq (.reg [
  ⟨some 5, .mv (.c (.int .i64 0)), none, []⟩])
  (.block 0 (.loop (.seq (.seq (.reg [
    ⟨some 11, .mv (.t 5), none, []⟩,
    ⟨some 12, .mv (.t 0), none, []⟩,
    ⟨some 13, .len (.t 12), none, []⟩,
    ⟨some 14, .bin .lss (.t 11) (.t 13), none, []⟩])
    (.cond (.t 14)
    .skip
    (.exit 0)))
    (.seq (.block 1 (.seq (.regd [0, 1, 2, 3, 4, 5, 6, 7, 8] [
     .op ⟨some 17, .mv (.t 0), none, []⟩,
     .op ⟨some 18, .mv (.t 5), none, []⟩,
     .op ⟨some 19, .ixs (.t 17) (.t 18) 1, none, [0, 1]⟩,
     .op ⟨some 20, .ld (.t 19) 1 false, none, [2]⟩,
     .op ⟨some 21, .mv (.t 1), none, []⟩,
     .op ⟨some 22, .mv (.t 5), none, []⟩,
     .op ⟨some 23, .ixs (.t 21) (.t 22) 1, none, [4, 5]⟩,
     .op ⟨some 24, .ld (.t 23) 1 false, none, [6]⟩,
     .op ⟨some 25, .bin .neq (.t 20) (.t 24), none, [3, 7]⟩] 0 0 [
])
     (.cond (.t 25)
     (.seq (.reg [
      ⟨some 4, .mv (.c (.bool false)), none, []⟩])
      .ret)
     .skip)))
    (.reg [
    ⟨some 15, .mv (.t 5), none, []⟩,
    ⟨some 16, .bin .add (.t 15) (.c (.int .i64 1)), none, []⟩,
    ⟨some 5, .mv (.t 16), none, []⟩]))))))
  (.seq (.reg [
  ⟨some 4, .mv (.c (.bool true)), none, []⟩])
  .ret))))
def r37 : List RV := [.tmp 4]
theorem n37 : Try.f37.ntmps = 26 := by kernel_rfl
theorem b37 : bodyB Try.prog 37 = true := by kernel_rfl
theorem c37_ok : cmpC Try.prog c37 ((Try.f37.body).getD .skip) = true := by kernel_rfl
theorem r37_ok : cmpR Try.prog r37 Try.f37.results.toList = true := by kernel_rfl
theorem t37 {args : List SV} {res : SV} (ka : KFL args) (kr : KF res) (h : sx Try.prog Y0 0 c37 (st0 args 26) (retK r37 res)) (hA : Nat.ble args.length 26 = true := by rfl) : Ct Try.prog 37 args res := ct_intro Try.func37 rfl b37 c37_ok r37_ok n37 (Nat.le_of_ble_eq_true hA) ka kr h
/- azalai/azalairef01.Meets -/
def c49 : SC := (.seq (.reg [
  ⟨some 8, .box (.t 3) 0 23, none, []⟩,
  ⟨some 10, .mv (.c (.int .i64 0)), none, []⟩])
  (.seq (.seq (.reg [
  ⟨some 14, .mv (.t 0), none, []⟩,
  ⟨some 15, .call 88 [.t 14, .c (.int .i64 1), .c (.int .i64 30)], none, []⟩,
  ⟨some 16, .un .not (.t 15), none, []⟩,
  ⟨some 17, .mv (.t 16), none, []⟩,
  ⟨some 18, .ld (.t 8) 2 true, some (17, false), []⟩,
  ⟨some 19, .call 87 [.t 18, .c (.int .i64 1), .c (.int .i64 60)], some (17, false), []⟩,
  ⟨some 20, .un .not (.t 19), some (17, false), []⟩,
  ⟨some 21, .pick (.t 17) (.c (.bool true)) (.t 20), none, []⟩,
  ⟨some 22, .mv (.t 21), none, []⟩,
  ⟨some 23, .mv (.t 4), some (22, false), []⟩,
  ⟨some 24, .call 88 [.t 23, .c (.int .i64 0), .c (.int .i64 100000)], some (22, false), []⟩,
  ⟨some 25, .un .not (.t 24), some (22, false), []⟩,
  ⟨some 26, .pick (.t 22) (.c (.bool true)) (.t 25), none, []⟩])
  (.cond (.t 26)
  (.seq (.reg [
   ⟨some 10, .mv (.c (.int .i64 2)), none, []⟩])
   .ret)
  .skip))
  (.seq (.seq (.reg [
  ⟨some 27, .mv (.t 1), none, []⟩,
  ⟨some 28, .len (.t 27), none, []⟩,
  ⟨some 29, .bin .gtr (.t 28) (.c (.int .i64 30)), none, []⟩,
  ⟨some 30, .mv (.t 29), none, []⟩,
  ⟨some 31, .mv (.t 2), some (30, false), []⟩,
  ⟨some 32, .len (.t 31), some (30, false), []⟩,
  ⟨some 33, .bin .gtr (.t 32) (.c (.int .i64 200)), some (30, false), []⟩,
  ⟨some 34, .pick (.t 30) (.c (.bool true)) (.t 33), none, []⟩])
  (.cond (.t 34)
  (.seq (.reg [
   ⟨some 10, .mv (.c (.int .i64 4)), none, []⟩])
   .ret)
  .skip))
  (.seq (.seq (.reg [
  ⟨some 11, .mv (.c (.int .i64 0)), none, []⟩])
  (.block 0 (.loop (.seq (.seq (.reg [
    ⟨some 35, .mv (.t 11), none, []⟩,
    ⟨some 36, .mv (.t 1), none, []⟩,
    ⟨some 37, .len (.t 36), none, []⟩,
    ⟨some 38, .bin .lss (.t 35) (.t 37), none, []⟩])
    (.cond (.t 38)
    .skip
    (.exit 0)))
    (.seq (.block 1 (.seq (.reg [
     ⟨some 41, .mv (.t 1), none, []⟩,
     ⟨some 42, .mv (.t 11), none, []⟩,
     ⟨some 43, .ixs (.t 41) (.t 42) 1, none, []⟩,
     ⟨some 44, .ld (.t 43) 1 false, none, []⟩,
     ⟨some 45, .mv (.t 0), none, []⟩,
     ⟨some 46, .bin .sub (.t 45) (.c (.int .i64 1)), none, []⟩,
     ⟨some 47, .call 88 [.t 44, .c (.int .i64 0), .t 46], none, []⟩,
     ⟨some 48, .un .not (.t 47), none, []⟩])
     (.cond (.t 48)
     (.seq (.reg [
      ⟨some 10, .mv (.c (.int .i64 14)), none, []⟩])
      .ret)
     .skip)))
    (.reg [
    ⟨some 39, .mv (.t 11), none, []⟩,
    ⟨some 40, .bin .add (.t 39) (.c (.int .i64 1)), none, []⟩,
    ⟨some 11, .mv (.t 40), none, []⟩]))))))
  (.seq (.seq (.reg [
  ⟨some 12, .mv (.c (.int .i64 0)), none, []⟩])
  (.block 2 (.loop (.seq (.seq (.reg [
    ⟨some 49, .mv (.t 12), none, []⟩,
    ⟨some 50, .mv (.t 2), none, []⟩,
    ⟨some 51, .len (.t 50), none, []⟩,
    ⟨some 52, .bin .lss (.t 49) (.t 51), none, []⟩])
    (.cond (.t 52)
    .skip
    (.exit 2)))
    (.seq (.block 3 (.seq (.reg [
     ⟨some 55, .mv (.t 2), none, []⟩,
     ⟨some 56, .mv (.t 12), none, []⟩,
     ⟨some 57, .ixs (.t 55) (.t 56) 4, none, []⟩,
     ⟨some 58, .ld (.t 57) 4 true, none, []⟩,
     ⟨some 13, .alloc [.int .i64 0, .int .i64 0, .int .i64 0, .bool false] 73, none, []⟩,
     ⟨none, .st (.t 13) (.t 58) 4, none, []⟩])
     (.seq (.reg [
     ⟨some 59, .addo (.t 13) 0, none, []⟩,
     ⟨some 60, .ld (.t 59) 1 false, none, []⟩,
     ⟨some 61, .mv (.t 0), none, []⟩,
     ⟨some 62, .bin .sub (.t 61) (.c (.int .i64 1)), none, []⟩,
     ⟨some 63, .call 88 [.t 60, .c (.int .i64 0), .t 62], none, []⟩,
     ⟨some 64, .un .not (.t 63), none, []⟩,
     ⟨some 65, .mv (.t 64), none, []⟩,
     ⟨some 66, .addo (.t 13) 1, some (65, false), []⟩,
     ⟨some 67, .ld (.t 66) 1 false, some (65, false), []⟩,
     ⟨some 68, .mv (.t 0), some (65, false), []⟩,
     ⟨some 69, .bin .sub (.t 68) (.c (.int .i64 1)), some (65, false), []⟩,
     ⟨some 70, .call 88 [.t 67, .c (.int .i64 0), .t 69], some (65, false), []⟩,
     ⟨some 71, .un .not (.t 70), some (65, false), []⟩,
     ⟨some 72, .pick (.t 65) (.c (.bool true)) (.t 71), none, []⟩,
     ⟨some 73, .mv (.t 72), none, []⟩,
     ⟨some 74, .addo (.t 13) 0, some (73, false), []⟩,
     ⟨some 75, .ld (.t 74) 1 false, some (73, false), []⟩,
     ⟨some 76, .addo (.t 13) 1, some (73, false), []⟩,
     ⟨some 77, .ld (.t 76) 1 false, some (73, false), []⟩,
     ⟨some 78, .bin .eql (.t 75) (.t 77), some (73, false), []⟩,
     ⟨some 79, .pick (.t 73) (.c (.bool true)) (.t 78), none, []⟩,
     ⟨some 80, .mv (.t 79), none, []⟩,
     ⟨some 81, .addo (.t 13) 2, some (80, false), []⟩,
     ⟨some 82, .ld (.t 81) 1 false, some (80, false), []⟩,
     ⟨some 83, .call 88 [.t 82, .c (.int .i64 0), .c (.int .i64 100000)], some (80, false), []⟩,
     ⟨some 84, .un .not (.t 83), some (80, false), []⟩,
     ⟨some 85, .pick (.t 80) (.c (.bool true)) (.t 84), none, []⟩])
     (.cond (.t 85)
     (.seq (.reg [
      ⟨some 10, .mv (.c (.int .i64 14)), none, []⟩])
      .ret)
     .skip))))
    (.reg [
    ⟨some 53, .mv (.t 12), none, []⟩,
    ⟨some 54, .bin .add (.t 53) (.c (.int .i64 1)), none, []⟩,
    ⟨some 12, .mv (.t 54), none, []⟩]))))))
  (.seq (.reg [
  ⟨some 10, .mv (.c (.int .i64 0)), none, []⟩])
  .ret))))))
def r49 : List RV := [.tmp 10]
theorem n49 : Try.f49.ntmps = 86 := by kernel_rfl
theorem b49 : bodyB Try.prog 49 = true := by kernel_rfl
theorem c49_ok : cmpC Try.prog c49 ((Try.f49.body).getD .skip) = true := by kernel_rfl
theorem r49_ok : cmpR Try.prog r49 Try.f49.results.toList = true := by kernel_rfl
theorem t49 {args : List SV} {res : SV} (ka : KFL args) (kr : KF res) (h : sx Try.prog Y0 0 c49 (st0 args 86) (retK r49 res)) (hA : Nat.ble args.length 86 = true := by rfl) : Ct Try.prog 49 args res := ct_intro Try.func49 rfl b49 c49_ok r49_ok n49 (Nat.le_of_ble_eq_true hA) ka kr h
/- azalai/camel.Mange$1 -/
def c77 : SC := (.seq (.reg [
  ⟨some 2, .box (.t 0) 0 73, none, []⟩,
  ⟨some 3, .mv (.c (.bool false)), none, []⟩])
  (.seq (.reg [
  ⟨some 4, .ld (.t 1) 1 false, none, []⟩,
  ⟨some 5, .bin .sub (.t 4) (.c (.int .i64 1)), none, []⟩,
  ⟨some 6, .addo (.t 2) 0, none, []⟩,
  ⟨some 7, .ld (.t 6) 1 false, none, []⟩,
  ⟨some 8, .addo (.t 2) 1, none, []⟩,
  ⟨some 9, .ld (.t 8) 1 false, none, []⟩,
  ⟨some 10, .bsl 1 3 [.t 7, .t 9], none, []⟩,
  ⟨some 11, .call 64 [.c (.int .i64 0), .t 5, .t 10], none, []⟩,
  ⟨some 12, .un .not (.t 11), none, []⟩,
  ⟨some 13, .mv (.t 12), none, []⟩,
  ⟨some 14, .addo (.t 2) 0, some (13, false), []⟩,
  ⟨some 15, .ld (.t 14) 1 false, some (13, false), []⟩,
  ⟨some 16, .addo (.t 2) 1, some (13, false), []⟩,
  ⟨some 17, .ld (.t 16) 1 false, some (13, false), []⟩,
  ⟨some 18, .bin .eql (.t 15) (.t 17), some (13, false), []⟩,
  ⟨some 19, .pick (.t 13) (.c (.bool true)) (.t 18), none, []⟩,
  ⟨some 20, .mv (.t 19), none, []⟩,
  ⟨some 21, .addo (.t 2) 2, some (20, false), []⟩,
  ⟨some 22, .ld (.t 21) 1 false, some (20, false), []⟩,
  ⟨some 23, .bsl 1 3 [.t 22], some (20, false), []⟩,
  ⟨some 24, .call 64 [.c (.int .i64 0), .c (.int .i64 100000), .t 23], some (20, false), []⟩,
  ⟨some 25, .un .not (.t 24), some (20, false), []⟩,
  ⟨some 26, .pick (.t 20) (.c (.bool true)) (.t 25), none, []⟩,
  ⟨some 3, .mv (.t 26), none, []⟩])
  .ret))
def r77 : List RV := [.tmp 3]
theorem n77 : Try.f77.ntmps = 27 := by kernel_rfl
theorem b77 : bodyB Try.prog 77 = true := by kernel_rfl
theorem c77_ok : cmpC Try.prog c77 ((Try.f77.body).getD .skip) = true := by kernel_rfl
theorem r77_ok : cmpR Try.prog r77 Try.f77.results.toList = true := by kernel_rfl
theorem t77 {args : List SV} {res : SV} (ka : KFL args) (kr : KF res) (h : sx Try.prog Y0 0 c77 (st0 args 27) (retK r77 res)) (hA : Nat.ble args.length 27 = true := by rfl) : Ct Try.prog 77 args res := ct_intro Try.func77 rfl b77 c77_ok r77_ok n77 (Nat.le_of_ble_eq_true hA) ka kr h
/- slices.ContainsFunc[[]azalai/api.Meet,azalai/api.Meet] -/
def c78 : SC := (.seq (.reg [
  ⟨some 4, .mv (.c (.bool false)), none, []⟩])
  (.seq (.reg [
  ⟨some 5, .mv (.t 0), none, []⟩,
  ⟨some 6, .mv (.t 1), none, []⟩,
  ⟨some 7, .call 97 [.t 5, .t 6], none, []⟩,
  ⟨some 8, .bin .geq (.t 7) (.c (.int .i64 0)), none, []⟩,
  ⟨some 4, .mv (.t 8), none, []⟩])
  .ret))
def r78 : List RV := [.tmp 4]
theorem n78 : Try.f78.ntmps = 9 := by kernel_rfl
theorem b78 : bodyB Try.prog 78 = true := by kernel_rfl
theorem c78_ok : cmpC Try.prog c78 ((Try.f78.body).getD .skip) = true := by kernel_rfl
theorem r78_ok : cmpR Try.prog r78 Try.f78.results.toList = true := by kernel_rfl
theorem t78 {args : List SV} {res : SV} (ka : KFL args) (kr : KF res) (h : sx Try.prog Y0 0 c78 (st0 args 9) (retK r78 res)) (hA : Nat.ble args.length 9 = true := by rfl) : Ct Try.prog 78 args res := ct_intro Try.func78 rfl b78 c78_ok r78_ok n78 (Nat.le_of_ble_eq_true hA) ka kr h
/- slices.Clone[[]azalai/api.Meet,azalai/api.Meet] -/
def c79 : SC := (.seq (.reg [
  ⟨some 2, .mv (.c (.slice none 0 0)), none, []⟩])
  (.seq (.seq (.reg [
  ⟨some 3, .mv (.t 0), none, []⟩,
  ⟨some 4, .isn (.t 3), none, []⟩])
  (.cond (.t 4)
  (.seq (.reg [
   ⟨some 2, .mv (.c (.slice none 0 0)), none, []⟩])
   .ret)
  .skip))
  (.seq (.reg [
  ⟨some 5, .bsl 4 73 [], none, []⟩,
  ⟨some 6, .mv (.t 0), none, []⟩,
  ⟨some 7, .cln 4 32 73 (.t 5) (.t 6), none, []⟩,
  ⟨some 2, .mv (.t 7), none, []⟩])
  .ret)))
def r79 : List RV := [.tmp 2]
theorem n79 : Try.f79.ntmps = 8 := by kernel_rfl
theorem b79 : bodyB Try.prog 79 = true := by kernel_rfl
theorem c79_ok : cmpC Try.prog c79 ((Try.f79.body).getD .skip) = true := by kernel_rfl
theorem r79_ok : cmpR Try.prog r79 Try.f79.results.toList = true := by kernel_rfl
theorem t79 {args : List SV} {res : SV} (ka : KFL args) (kr : KF res) (h : sx Try.prog Y0 0 c79 (st0 args 8) (retK r79 res)) (hA : Nat.ble args.length 8 = true := by rfl) : Ct Try.prog 79 args res := ct_intro Try.func79 rfl b79 c79_ok r79_ok n79 (Nat.le_of_ble_eq_true hA) ka kr h
theorem y79 {Y : Hd} {n0 : Nat} {hp0 : List (Nat × HB)} {args : List SV} {Post : Ot → Prop} (h : sx Try.prog Y n0 c79 ⟨enum 0 args, hp0, n0, 8, []⟩ (retM r79 Post)) (hA : Nat.ble args.length 8 = true := by rfl) : CtY Try.prog Y 79 hp0 n0 args Post := cty_intro Try.func79 rfl c79_ok r79_ok n79 (Nat.le_of_ble_eq_true hA) h
theorem m79 {n0 : Nat} {hp0 : List (Nat × HB)} {args : List SV} {Post : Ot → Prop} (hh : hpb n0 hp0) (hx : ∀ o, Post o → KX o.res ∧ KXP o.hp) (h : sx Try.prog Y0 n0 c79 ⟨enum 0 args, hp0, n0, 8, []⟩ (retM r79 fun o => ∃ o', Post o' ∧ EntO n0 o o')) (hA : Nat.ble args.length 8 = true := by rfl) : CtM Try.prog 79 hp0 n0 args Post := ctm_intro Try.func79 rfl b79 c79_ok r79_ok n79 (Nat.le_of_ble_eq_true hA) hh hx h
/- slices.SortStableFunc[[]azalai/api.Meet,azalai/api.Meet] -/
def c80 : SC := (.reg [
  ⟨some 4, .mv (.t 0), none, []⟩,
  ⟨some 5, .mv (.t 0), none, []⟩,
  ⟨some 6, .len (.t 5), none, []⟩,
  ⟨some 7, .mv (.t 1), none, []⟩,
  ⟨some 8, .callm 98 [.t 4, .t 6, .t 7], none, []⟩])
def r80 : List RV := []
theorem n80 : Try.f80.ntmps = 9 := by kernel_rfl
theorem b80 : bodyB Try.prog 80 = true := by kernel_rfl
theorem c80_ok : cmpC Try.prog c80 ((Try.f80.body).getD .skip) = true := by kernel_rfl
theorem r80_ok : cmpR Try.prog r80 Try.f80.results.toList = true := by kernel_rfl
theorem t80 {args : List SV} {res : SV} (ka : KFL args) (kr : KF res) (h : sx Try.prog Y0 0 c80 (st0 args 9) (retK r80 res)) (hA : Nat.ble args.length 9 = true := by rfl) : Ct Try.prog 80 args res := ct_intro Try.func80 rfl b80 c80_ok r80_ok n80 (Nat.le_of_ble_eq_true hA) ka kr h
theorem y80 {Y : Hd} {n0 : Nat} {hp0 : List (Nat × HB)} {args : List SV} {Post : Ot → Prop} (h : sx Try.prog Y n0 c80 ⟨enum 0 args, hp0, n0, 9, []⟩ (retM r80 Post)) (hA : Nat.ble args.length 9 = true := by rfl) : CtY Try.prog Y 80 hp0 n0 args Post := cty_intro Try.func80 rfl c80_ok r80_ok n80 (Nat.le_of_ble_eq_true hA) h
theorem m80 {n0 : Nat} {hp0 : List (Nat × HB)} {args : List SV} {Post : Ot → Prop} (hh : hpb n0 hp0) (hx : ∀ o, Post o → KX o.res ∧ KXP o.hp) (h : sx Try.prog Y0 n0 c80 ⟨enum 0 args, hp0, n0, 9, []⟩ (retM r80 fun o => ∃ o', Post o' ∧ EntO n0 o o')) (hA : Nat.ble args.length 9 = true := by rfl) : CtM Try.prog 80 hp0 n0 args Post := ctm_intro Try.func80 rfl b80 c80_ok r80_ok n80 (Nat.le_of_ble_eq_true hA) hh hx h
/- azalai/camel.Mange$2 -/
def c81 : SC := (.seq (.reg [
  ⟨some 2, .box (.t 0) 0 73, none, []⟩,
  ⟨some 3, .box (.t 1) 0 73, none, []⟩,
  ⟨some 4, .mv (.c (.int .i64 0)), none, []⟩])
  (.seq (.reg [
  ⟨some 5, .addo (.t 2) 2, none, []⟩,
  ⟨some 6, .ld (.t 5) 1 false, none, []⟩,
  ⟨some 7, .addo (.t 3) 2, none, []⟩,
  ⟨some 8, .ld (.t 7) 1 false, none, []⟩,
  ⟨some 9, .call 82 [.t 6, .t 8], none, []⟩,
  ⟨some 4, .mv (.t 9), none, []⟩])
  .ret))
def r81 : List RV := [.tmp 4]
theorem n81 : Try.f81.ntmps = 10 := by kernel_rfl
theorem b81 : bodyB Try.prog 81 = true := by kernel_rfl
theorem c81_ok : cmpC Try.prog c81 ((Try.f81.body).getD .skip) = true := by kernel_rfl
theorem r81_ok : cmpR Try.prog r81 Try.f81.results.toList = true := by kernel_rfl
theorem t81 {args : List SV} {res : SV} (ka : KFL args) (kr : KF res) (h : sx Try.prog Y0 0 c81 (st0 args 10) (retK r81 res)) (hA : Nat.ble args.length 10 = true := by rfl) : Ct Try.prog 81 args res := ct_intro Try.func81 rfl b81 c81_ok r81_ok n81 (Nat.le_of_ble_eq_true hA) ka kr h
/- cmp.Compare[int] -/
def c82 : SC := (.seq (.reg [
  ⟨some 4, .mv (.c (.int .i64 0)), none, []⟩])
  (.seq (.reg [
  ⟨some 7, .mv (.t 0), none, []⟩,
  ⟨some 8, .call 99 [.t 7], none, []⟩,
  ⟨some 5, .mv (.t 8), none, []⟩])
  (.seq (.reg [
  ⟨some 9, .mv (.t 1), none, []⟩,
  ⟨some 10, .call 99 [.t 9], none, []⟩,
  ⟨some 6, .mv (.t 10), none, []⟩])
  (.seq (.seq (.reg [
  ⟨some 11, .mv (.t 5), none, []⟩])
  (.cond (.t 11)
  (.seq (.seq (.reg [
   ⟨some 12, .mv (.t 6), none, []⟩])
   (.cond (.t 12)
   (.seq (.reg [
    ⟨some 4, .mv (.c (.int .i64 0)), none, []⟩])
    .ret)
   .skip))
   (.seq (.reg [
   ⟨some 4, .mv (.c (.int .i64 (-1))), none, []⟩])
   .ret))
  .skip))
  (.seq (.seq (.reg [
  ⟨some 13, .mv (.t 6), none, []⟩])
  (.cond (.t 13)
  (.seq (.reg [
   ⟨some 4, .mv (.c (.int .i64 1)), none, []⟩])
   .ret)
  .skip))
  (.seq (.seq (.reg [
  ⟨some 14, .mv (.t 0), none, []⟩,
  ⟨some 15, .mv (.t 1), none, []⟩,
  ⟨some 16, .bin .lss (.t 14) (.t 15), none, []⟩])
  (.cond (.t 16)
  (.seq (.reg [
   ⟨some 4, .mv (.c (.int .i64 (-1))), none, []⟩])
   .ret)
  .skip))
  (.seq (.seq (.reg [
  ⟨some 17, .mv (.t 0), none, []⟩,
  ⟨some 18, .mv (.t 1), none, []⟩,
  ⟨some 19, .bin .gtr (.t 17) (.t 18), none, []⟩])
  (.cond (.t 19)
  (.seq (.reg [
   ⟨some 4, .mv (.c (.int .i64 1)), none, []⟩])
   .ret)
  .skip))
  (.seq (.reg [
  ⟨some 4, .mv (.c (.int .i64 0)), none, []⟩])
  .ret))))))))
def r82 : List RV := [.tmp 4]
theorem n82 : Try.f82.ntmps = 20 := by kernel_rfl
theorem b82 : bodyB Try.prog 82 = true := by kernel_rfl
theorem c82_ok : cmpC Try.prog c82 ((Try.f82.body).getD .skip) = true := by kernel_rfl
theorem r82_ok : cmpR Try.prog r82 Try.f82.results.toList = true := by kernel_rfl
theorem t82 {args : List SV} {res : SV} (ka : KFL args) (kr : KF res) (h : sx Try.prog Y0 0 c82 (st0 args 20) (retK r82 res)) (hA : Nat.ble args.length 20 = true := by rfl) : Ct Try.prog 82 args res := ct_intro Try.func82 rfl b82 c82_ok r82_ok n82 (Nat.le_of_ble_eq_true hA) ka kr h
/- azalai/camel.spread -/
def c83 : SC := (.seq (.reg [
  ⟨some 10, .mv (.c (.slice none 0 0)), none, []⟩])
  (.scope (.seq (.reg [
  ⟨some 17, .bsl 1 3 [.c (.int .i64 100061)], none, []⟩,
  ⟨some 18, .mv (.t 0), none, []⟩,
  ⟨some 19, .callm 100 [.t 17, .t 18], none, []⟩,
  ⟨some 11, .mv (.t 19), none, []⟩])
  (.seq (.seq (.reg [
  ⟨some 20, .mv (.t 1), none, []⟩,
  ⟨some 21, .len (.t 20), none, []⟩,
  ⟨some 22, .mv (.c (.int .i64 0)), none, []⟩])
  (.block 0 (.loop (.seq (.reg [
    ⟨some 23, .bin .lss (.t 22) (.t 21), none, []⟩])
    (.seq (.cond (.t 23)
    .skip
    (.exit 0))
    (.seq (.block 1 (.seq (.reg [
     ⟨some 24, .ixs (.t 20) (.t 22) 1, none, []⟩,
     ⟨some 25, .ld (.t 24) 1 false, none, []⟩,
     ⟨some 13, .mv (.t 25), none, []⟩])
     (.reg [
     ⟨some 26, .mv (.t 11), none, []⟩,
     ⟨some 27, .mv (.t 13), none, []⟩,
     ⟨some 28, .ixs (.t 26) (.t 27) 1, none, []⟩,
     ⟨none, .st (.t 28) (.c (.int .i64 0)) 1, none, []⟩])))
    (.reg [
    ⟨some 29, .bin .add (.t 22) (.c (.int .i64 1)), none, []⟩,
    ⟨some 22, .mv (.t 29), none, []⟩])))))))
  (.seq (.label 0)
  (.seq (.seq (.reg [
  ⟨some 30, .mv (.t 2), none, []⟩,
  ⟨some 31, .len (.t 30), none, []⟩,
  ⟨some 32, .mv (.c (.int .i64 0)), none, []⟩])
  (.block 2 (.loop (.seq (.reg [
    ⟨some 33, .bin .lss (.t 32) (.t 31), none, []⟩])
    (.seq (.cond (.t 33)
    .skip
    (.exit 2))
    (.seq (.block 3 (.seq (.reg [
     ⟨some 34, .mv (.t 32), none, []⟩,
     ⟨some 14, .mv (.t 34), none, []⟩])
     (.seq (.regd [0, 1, 2, 3, 4, 5, 6, 7, 8, 9, 10, 11, 12, 13, 14, 15, 16, 17, 18, 19, 20, 21, 22, 23] [
     .op ⟨some 35, .mv (.t 2), none, []⟩,
     .op ⟨some 36, .mv (.t 14), none, []⟩,
     .op ⟨some 37, .ixs (.t 35) (.t 36) 4, none, [0, 1]⟩,
     .op ⟨some 38, .addo (.t 37) 0, none, [2]⟩,
     .op ⟨some 39, .ld (.t 38) 1 false, none, [3]⟩,
     .op ⟨some 40, .mv (.t 2), none, []⟩,
     .op ⟨some 41, .mv (.t 14), none, []⟩,
     .op ⟨some 42, .ixs (.t 40) (.t 41) 4, none, [5, 6]⟩,
     .op ⟨some 43, .addo (.t 42) 1, none, [7]⟩,
     .op ⟨some 44, .ld (.t 43) 1 false, none, [8]⟩,
     .op ⟨some 45, .build [.int .i64 0, .int .i64 0] [(0, 1, .t 39), (1, 1, .t 44)], none, [4, 9]⟩,
     .op ⟨some 46, .mv (.t 2), none, []⟩,
     .op ⟨some 47, .mv (.t 14), none, []⟩,
     .op ⟨some 48, .ixs (.t 46) (.t 47) 4, none, [11, 12]⟩,
     .op ⟨some 49, .addo (.t 48) 1, none, [13]⟩,
     .op ⟨some 50, .ld (.t 49) 1 false, none, [14]⟩,
     .op ⟨some 51, .mv (.t 2), none, []⟩,
     .op ⟨some 52, .mv (.t 14), none, []⟩,
     .op ⟨some 53, .ixs (.t 51) (.t 52) 4, none, [16, 17]⟩,
     .op ⟨some 54, .addo (.t 53) 0, none, [18]⟩,
     .op ⟨some 55, .ld (.t 54) 1 false, none, [19]⟩,
     .op ⟨some 56, .build [.int .i64 0, .int .i64 0] [(0, 1, .t 50), (1, 1, .t 55)], none, [15, 20]⟩,
     .op ⟨some 57, .build [.int .i64 0, .int .i64 0, .int .i64 0, .int .i64 0] [(0, 2, .t 45), (2, 2, .t 56)], none, [10, 21]⟩,
     .op ⟨some 58, .mv (.c (.int .i64 0)), none, []⟩] 0 0 [
])
     (.block 4 (.loop (.seq (.reg [
       ⟨some 59, .bin .lss (.t 58) (.c (.int .i64 2)), none, []⟩])
       (.seq (.cond (.t 59)
       .skip
       (.exit 4))
       (.seq (.block 5 (.seq (.reg [
        ⟨some 60, .idx (.t 57) (.t 58) 2 2 true, none, []⟩,
        ⟨some 16, .alloc [.int .i64 0, .int .i64 0] 97, none, []⟩,
        ⟨none, .st (.t 16) (.t 60) 2, none, []⟩])
        (.seq (.seq (.reg [
        ⟨some 61, .mv (.t 2), none, []⟩,
        ⟨some 62, .mv (.t 14), none, []⟩,
        ⟨some 63, .ixs (.t 61) (.t 62) 4, none, []⟩,
        ⟨some 64, .addo (.t 63) 2, none, []⟩,
        ⟨some 65, .ld (.t 64) 1 false, none, []⟩,
        ⟨some 66, .mv (.t 4), none, []⟩,
        ⟨some 67, .bin .gtr (.t 65) (.t 66), none, []⟩])
        (.cond (.t 67)
        (.exit 2)
        .skip))
        (.seq (.regd [0, 1, 2, 3, 4, 5, 6, 7, 8, 9, 10] [
        .op ⟨some 68, .mv (.t 11), none, []⟩,
        .op ⟨some 69, .ixa (.t 16) (.c (.int .i64 0)) 2 1, none, []⟩,
        .op ⟨some 70, .ld (.t 69) 1 false, none, [1]⟩,
        .op ⟨some 71, .ixs (.t 68) (.t 70) 1, none, [0, 2]⟩,
        .op ⟨some 72, .ld (.t 71) 1 false, none, [3]⟩,
        .op ⟨some 73, .mv (.t 2), none, []⟩,
        .op ⟨some 74, .mv (.t 14), none, []⟩,
        .op ⟨some 75, .ixs (.t 73) (.t 74) 4, none, [5, 6]⟩,
        .op ⟨some 76, .addo (.t 75) 2, none, [7]⟩,
        .op ⟨some 77, .ld (.t 76) 1 false, none, [8]⟩,
        .op ⟨some 78, .bin .leq (.t 72) (.t 77), none, [4, 9]⟩] 0 0 [
])
        (.cond (.t 78)
        (.regd [0, 1, 2, 3, 4, 5, 6, 7, 8, 9, 10, 11, 12, 13, 14, 15, 16, 17] [
         .op ⟨some 79, .mv (.t 11), none, []⟩,
         .op ⟨some 80, .ixa (.t 16) (.c (.int .i64 1)) 2 1, none, []⟩,
         .op ⟨some 81, .ld (.t 80) 1 false, none, [1]⟩,
         .op ⟨some 82, .mv (.t 11), none, []⟩,
         .op ⟨some 83, .ixa (.t 16) (.c (.int .i64 1)) 2 1, none, []⟩,
         .op ⟨some 84, .ld (.t 83) 1 false, none, [4]⟩,
         .op ⟨some 85, .ixs (.t 82) (.t 84) 1, none, [3, 5]⟩,
         .op ⟨some 86, .ld (.t 85) 1 false, none, [6]⟩,
         .op ⟨some 87, .mv (.t 2), none, []⟩,
         .op ⟨some 88, .mv (.t 14), none, []⟩,
         .op ⟨some 89, .ixs (.t 87) (.t 88) 4, none, [8, 9]⟩,
         .op ⟨some 90, .addo (.t 89) 2, none, [10]⟩,
         .op ⟨some 91, .ld (.t 90) 1 false, none, [11]⟩,
         .op ⟨some 92, .mv (.t 3), none, []⟩,
         .op ⟨some 93, .bin .add (.t 91) (.t 92), none, [12, 13]⟩,
         .op ⟨some 94, .mm false [.t 86, .t 93], none, [7, 14]⟩,
         .op ⟨some 95, .ixs (.t 79) (.t 81) 1, none, [0, 1, 2, 3, 4, 5, 6, 7, 8, 9, 10, 11, 12, 13, 14, 15]⟩] 0 1 [
         ⟨none, .st (.t 95) (.t 94) 1, none, [0, 1, 2, 3, 4, 5, 6, 7, 8, 9, 10, 11, 12, 13, 14, 15, 16]⟩])
        .skip)))))
       (.reg [
       ⟨some 96, .bin .add (.t 58) (.c (.int .i64 1)), none, []⟩,
       ⟨some 58, .mv (.t 96), none, []⟩])))))))))
    (.reg [
    ⟨some 97, .bin .add (.t 32) (.c (.int .i64 1)), none, []⟩,
    ⟨some 32, .mv (.t 97), none, []⟩])))))))
  (.seq (.reg [
  ⟨some 98, .mv (.t 11), none, []⟩,
  ⟨some 10, .mv (.t 98), none, []⟩])
  .ret)))))))
def r83 : List RV := [.tmp 10]
theorem n83 : Try.f83.ntmps = 99 := by kernel_rfl
theorem b83 : bodyB Try.prog 83 = true := by kernel_rfl
theorem c83_ok : cmpC Try.prog c83 ((Try.f83.body).getD .skip) = true := by kernel_rfl
theorem r83_ok : cmpR Try.prog r83 Try.f83.results.toList = true := by kernel_rfl
theorem t83 {args : List SV} {res : SV} (ka : KFL args) (kr : KF res) (h : sx Try.prog Y0 0 c83 (st0 args 99) (retK r83 res)) (hA : Nat.ble args.length 99 = true := by rfl) : Ct Try.prog 83 args res := ct_intro Try.func83 rfl b83 c83_ok r83_ok n83 (Nat.le_of_ble_eq_true hA) ka kr h
theorem y83 {Y : Hd} {n0 : Nat} {hp0 : List (Nat × HB)} {args : List SV} {Post : Ot → Prop} (h : sx Try.prog Y n0 c83 ⟨enum 0 args, hp0, n0, 99, []⟩ (retM r83 Post)) (hA : Nat.ble args.length 99 = true := by rfl) : CtY Try.prog Y 83 hp0 n0 args Post := cty_intro Try.func83 rfl c83_ok r83_ok n83 (Nat.le_of_ble_eq_true hA) h
theorem m83 {n0 : Nat} {hp0 : List (Nat × HB)} {args : List SV} {Post : Ot → Prop} (hh : hpb n0 hp0) (hx : ∀ o, Post o → KX o.res ∧ KXP o.hp) (h : sx Try.prog Y0 n0 c83 ⟨enum 0 args, hp0, n0, 99, []⟩ (retM r83 fun o => ∃ o', Post o' ∧ EntO n0 o o')) (hA : Nat.ble args.length 99 = true := by rfl) : CtM Try.prog 83 hp0 n0 args Post := ctm_intro Try.func83 rfl b83 c83_ok r83_ok n83 (Nat.le_of_ble_eq_true hA) hh hx h
/- slices.DeleteFunc[[]azalai/api.Meet,azalai/api.Meet] -/
def c84 : SC := (.seq (.reg [
  ⟨some 4, .mv (.c (.slice none 0 0)), none, []⟩])
  (.seq (.reg [
  ⟨some 8, .mv (.t 0), none, []⟩,
  ⟨some 9, .mv (.t 1), none, []⟩,
  ⟨some 10, .call 97 [.t 8, .t 9], none, []⟩,
  ⟨some 5, .mv (.t 10), none, []⟩])
  (.seq (.seq (.reg [
  ⟨some 11, .mv (.t 5), none, []⟩,
  ⟨some 12, .bin .eql (.t 11) (.c (.int .i64 (-1))), none, []⟩])
  (.cond (.t 12)
  (.seq (.reg [
   ⟨some 13, .mv (.t 0), none, []⟩,
   ⟨some 4, .mv (.t 13), none, []⟩])
   .ret)
  .skip))
  (.seq (.seq (.reg [
  ⟨some 14, .mv (.t 5), none, []⟩,
  ⟨some 15, .bin .add (.t 14) (.c (.int .i64 1)), none, []⟩,
  ⟨some 6, .mv (.t 15), none, []⟩])
  (.block 0 (.loop (.seq (.seq (.reg [
    ⟨some 16, .mv (.t 6), none, []⟩,
    ⟨some 17, .mv (.t 0), none, []⟩,
    ⟨some 18, .len (.t 17), none, []⟩,
    ⟨some 19, .bin .lss (.t 16) (.t 18), none, []⟩])
    (.cond (.t 19)
    .skip
    (.exit 0)))
    (.seq (.block 1 (.seq (.reg [
     ⟨some 22, .mv (.t 0), none, []⟩,
     ⟨some 23, .mv (.t 6), none, []⟩,
     ⟨some 24, .ixs (.t 22) (.t 23) 4, none, []⟩,
     ⟨some 25, .ld (.t 24) 4 true, none, []⟩,
     ⟨some 7, .alloc [.int .i64 0, .int .i64 0, .int .i64 0, .bool false] 73, none, []⟩,
     ⟨none, .st (.t 7) (.t 25) 4, none, []⟩])
     (.seq (.reg [
     ⟨some 26, .mv (.t 1), none, []⟩,
     ⟨some 27, .ld (.t 7) 4 true, none, []⟩,
     ⟨some 28, .calv (.t 26) [.t 27], none, []⟩,
     ⟨some 29, .un .not (.t 28), none, []⟩])
     (.cond (.t 29)
     (.seq (.reg [
      ⟨some 30, .mv (.t 0), none, []⟩,
      ⟨some 31, .mv (.t 5), none, []⟩,
      ⟨some 32, .ld (.t 7) 4 true, none, []⟩,
      ⟨some 33, .ixs (.t 30) (.t 31) 4, none, []⟩,
      ⟨none, .st (.t 33) (.t 32) 4, none, []⟩])
      (.reg [
      ⟨some 34, .mv (.t 5), none, []⟩,
      ⟨some 35, .bin .add (.t 34) (.c (.int .i64 1)), none, []⟩,
      ⟨some 5, .mv (.t 35), none, []⟩]))
     .skip))))
    (.reg [
    ⟨some 20, .mv (.t 6), none, []⟩,
    ⟨some 21, .bin .add (.t 20) (.c (.int .i64 1)), none, []⟩,
    ⟨some 6, .mv (.t 21), none, []⟩]))))))
  (.seq (.reg [
  ⟨some 36, .mv (.t 0), none, []⟩,
  ⟨some 37, .mv (.t 5), none, []⟩,
  ⟨some 38, .sub 4 (.t 36) (some (.t 37)) none, none, []⟩,
  ⟨none, .raw (Go.Op.call { callee := (Go.Callee.builtin Go.Builtin.clear), args := #[(Go.Operand.tmp 38)], argTypes := #[66] }) 0, none, []⟩])
  (.seq (.reg [
  ⟨some 39, .mv (.t 0), none, []⟩,
  ⟨some 40, .mv (.t 5), none, []⟩,
  ⟨some 41, .sub 4 (.t 39) none (some (.t 40)), none, []⟩,
  ⟨some 4, .mv (.t 41), none, []⟩])
  .ret))))))
def r84 : List RV := [.tmp 4]
theorem n84 : Try.f84.ntmps = 42 := by kernel_rfl
theorem b84 : bodyB Try.prog 84 = true := by kernel_rfl
theorem c84_ok : cmpC Try.prog c84 ((Try.f84.body).getD .skip) = true := by kernel_rfl
theorem r84_ok : cmpR Try.prog r84 Try.f84.results.toList = true := by kernel_rfl
theorem t84 {args : List SV} {res : SV} (ka : KFL args) (kr : KF res) (h : sx Try.prog Y0 0 c84 (st0 args 42) (retK r84 res)) (hA : Nat.ble args.length 42 = true := by rfl) : Ct Try.prog 84 args res := ct_intro Try.func84 rfl b84 c84_ok r84_ok n84 (Nat.le_of_ble_eq_true hA) ka kr h
theorem y84 {Y : Hd} {n0 : Nat} {hp0 : List (Nat × HB)} {args : List SV} {Post : Ot → Prop} (h : sx Try.prog Y n0 c84 ⟨enum 0 args, hp0, n0, 42, []⟩ (retM r84 Post)) (hA : Nat.ble args.length 42 = true := by rfl) : CtY Try.prog Y 84 hp0 n0 args Post := cty_intro Try.func84 rfl c84_ok r84_ok n84 (Nat.le_of_ble_eq_true hA) h
theorem m84 {n0 : Nat} {hp0 : List (Nat × HB)} {args : List SV} {Post : Ot → Prop} (hh : hpb n0 hp0) (hx : ∀ o, Post o → KX o.res ∧ KXP o.hp) (h : sx Try.prog Y0 n0 c84 ⟨enum 0 args, hp0, n0, 42, []⟩ (retM r84 fun o => ∃ o', Post o' ∧ EntO n0 o o')) (hA : Nat.ble args.length 42 = true := by rfl) : CtM Try.prog 84 hp0 n0 args Post := ctm_intro Try.func84 rfl b84 c84_ok r84_ok n84 (Nat.le_of_ble_eq_true hA) hh hx h
/- azalai/camel.Mange$3 -/
def c85 : SC := (.seq (.reg [
  ⟨some 1, .box (.t 0) 0 73, none, []⟩,
  ⟨some 2, .mv (.c (.bool false)), none, []⟩])
  (.seq (.reg [
  ⟨some 3, .addo (.t 1) 3, none, []⟩,
  ⟨some 4, .ld (.t 3) 1 false, none, []⟩,
  ⟨some 5, .un .not (.t 4), none, []⟩,
  ⟨some 2, .mv (.t 5), none, []⟩])
  .ret))
def r85 : List RV := [.tmp 2]
theorem n85 : Try.f85.ntmps = 6 := by kernel_rfl
theorem b85 : bodyB Try.prog 85 = true := by kernel_rfl
theorem c85_ok : cmpC Try.prog c85 ((Try.f85.body).getD .skip) = true := by kernel_rfl
theorem r85_ok : cmpR Try.prog r85 Try.f85.results.toList = true := by kernel_rfl
theorem t85 {args : List SV} {res : SV} (ka : KFL args) (kr : KF res) (h : sx Try.prog Y0 0 c85 (st0 args 6) (retK r85 res)) (hA : Nat.ble args.length 6 = true := by rfl) : Ct Try.prog 85 args res := ct_intro Try.func85 rfl b85 c85_ok r85_ok n85 (Nat.le_of_ble_eq_true hA) ka kr h
/- azalai/azalairef01.sick -/
def c86 : SC := (.seq (.reg [
  ⟨some 10, .mv (.c (.slice none 0 0)), none, []⟩])
  (.seq (.reg [
  ⟨some 11, .mv (.c (.slice none 0 0)), none, []⟩])
  (.seq (.seq (.reg [
  ⟨some 12, .mv (.c (.int .i64 0)), none, []⟩])
  (.block 0 (.loop (.seq (.seq (.reg [
    ⟨some 17, .mv (.t 12), none, []⟩,
    ⟨some 18, .mv (.t 0), none, []⟩,
    ⟨some 19, .bin .lss (.t 17) (.t 18), none, []⟩])
    (.cond (.t 19)
    .skip
    (.exit 0)))
    (.seq (.block 1 (.reg [
     ⟨some 22, .mv (.t 11), none, []⟩,
     ⟨some 23, .bsl 1 3 [.c (.int .i64 1099511627776)], none, []⟩,
     ⟨some 24, .appm 1 8 3 (.t 22) (.t 23), none, []⟩,
     ⟨some 11, .mv (.t 24), none, []⟩]))
    (.reg [
    ⟨some 20, .mv (.t 12), none, []⟩,
    ⟨some 21, .bin .add (.t 20) (.c (.int .i64 1)), none, []⟩,
    ⟨some 12, .mv (.t 21), none, []⟩]))))))
  (.seq (.seq (.reg [
  ⟨some 13, .mv (.c (.int .i64 0)), none, []⟩])
  (.block 2 (.loop (.seq (.seq (.reg [
    ⟨some 25, .mv (.t 13), none, []⟩,
    ⟨some 26, .mv (.t 1), none, []⟩,
    ⟨some 27, .len (.t 26), none, []⟩,
    ⟨some 28, .bin .lss (.t 25) (.t 27), none, []⟩])
    (.cond (.t 28)
    .skip
    (.exit 2)))
    (.seq (.block 3 (.reg [
     ⟨some 31, .mv (.t 11), none, []⟩,
     ⟨some 32, .mv (.t 1), none, []⟩,
     ⟨some 33, .mv (.t 13), none, []⟩,
     ⟨some 34, .ixs (.t 32) (.t 33) 1, none, []⟩,
     ⟨some 35, .ld (.t 34) 1 false, none, []⟩,
     ⟨some 36, .ixs (.t 31) (.t 35) 1, none, []⟩,
     ⟨none, .st (.t 36) (.c (.int .i64 0)) 1, none, []⟩]))
    (.reg [
    ⟨some 29, .mv (.t 13), none, []⟩,
    ⟨some 30, .bin .add (.t 29) (.c (.int .i64 1)), none, []⟩,
    ⟨some 13, .mv (.t 30), none, []⟩]))))))
  (.seq (.seq (.reg [
  ⟨some 14, .mv (.c (.bool true)), none, []⟩])
  (.block 4 (.loop (.seq (.seq (.reg [
    ⟨some 37, .mv (.t 14), none, []⟩])
    (.cond (.t 37)
    .skip
    (.exit 4)))
    (.block 5 (.seq (.reg [
     ⟨some 14, .mv (.c (.bool false)), none, []⟩])
     (.seq (.reg [
     ⟨some 15, .mv (.c (.int .i64 0)), none, []⟩])
     (.block 6 (.loop (.seq (.seq (.reg [
       ⟨some 38, .mv (.t 15), none, []⟩,
       ⟨some 39, .mv (.t 2), none, []⟩,
       ⟨some 40, .len (.t 39), none, []⟩,
       ⟨some 41, .bin .lss (.t 38) (.t 40), none, []⟩])
       (.cond (.t 41)
       .skip
       (.exit 6)))
       (.seq (.block 7 (.seq (.reg [
        ⟨some 44, .mv (.t 2), none, []⟩,
        ⟨some 45, .mv (.t 15), none, []⟩,
        ⟨some 46, .ixs (.t 44) (.t 45) 4, none, []⟩,
        ⟨some 47, .ld (.t 46) 4 true, none, []⟩,
        ⟨some 16, .alloc [.int .i64 0, .int .i64 0, .int .i64 0, .bool false] 73, none, []⟩,
        ⟨none, .st (.t 16) (.t 47) 4, none, []⟩])
        (.seq (.seq (.reg [
        ⟨some 48, .mv (.t 4), none, []⟩,
        ⟨some 49, .mv (.t 48), none, []⟩,
        ⟨some 50, .addo (.t 16) 3, some (49, true), []⟩,
        ⟨some 51, .ld (.t 50) 1 false, some (49, true), []⟩,
        ⟨some 52, .un .not (.t 51), some (49, true), []⟩,
        ⟨some 53, .pick (.t 49) (.t 52) (.c (.bool false)), none, []⟩])
        (.cond (.t 53)
        (.exit 7)
        .skip))
        (.seq (.seq (.regd [0, 1, 2, 3, 4, 5, 6, 7, 8, 9, 10, 11, 12, 13, 14, 15, 16, 17, 18, 19] [
        .op ⟨some 54, .mv (.t 11), none, []⟩,
        .op ⟨some 55, .addo (.t 16) 0, none, []⟩,
        .op ⟨some 56, .ld (.t 55) 1 false, none, [1]⟩,
        .op ⟨some 57, .ixs (.t 54) (.t 56) 1, none, [0, 2]⟩,
        .op ⟨some 58, .ld (.t 57) 1 false, none, [3]⟩,
        .op ⟨some 59, .addo (.t 16) 2, none, []⟩,
        .op ⟨some 60, .ld (.t 59) 1 false, none, [5]⟩,
        .op ⟨some 61, .bin .leq (.t 58) (.t 60), none, [4, 6]⟩,
        .op ⟨some 62, .mv (.t 61), none, [7]⟩,
        .op ⟨some 63, .addo (.t 16) 2, some (62, true), [8]⟩,
        .op ⟨some 64, .ld (.t 63) 1 false, some (62, true), [8, 9]⟩,
        .op ⟨some 65, .mv (.t 3), some (62, true), [8]⟩,
        .op ⟨some 66, .bin .add (.t 64) (.t 65), some (62, true), [8, 10, 11]⟩,
        .op ⟨some 67, .mv (.t 11), some (62, true), [8]⟩,
        .op ⟨some 68, .addo (.t 16) 1, some (62, true), [8]⟩,
        .op ⟨some 69, .ld (.t 68) 1 false, some (62, true), [8, 14]⟩,
        .op ⟨some 70, .ixs (.t 67) (.t 69) 1, some (62, true), [8, 13, 15]⟩,
        .op ⟨some 71, .ld (.t 70) 1 false, some (62, true), [8, 16]⟩,
        .op ⟨some 72, .bin .lss (.t 66) (.t 71), some (62, true), [8, 12, 17]⟩,
        .op ⟨some 73, .pick (.t 62) (.t 72) (.c (.bool false)), none, [8, 18]⟩] 0 0 [
])
        (.cond (.t 73)
        (.seq (.reg [
         ⟨some 74, .mv (.t 11), none, []⟩,
         ⟨some 75, .addo (.t 16) 1, none, []⟩,
         ⟨some 76, .ld (.t 75) 1 false, none, []⟩,
         ⟨some 77, .addo (.t 16) 2, none, []⟩,
         ⟨some 78, .ld (.t 77) 1 false, none, []⟩,
         ⟨some 79, .mv (.t 3), none, []⟩,
         ⟨some 80, .bin .add (.t 78) (.t 79), none, []⟩,
         ⟨some 81, .ixs (.t 74) (.t 76) 1, none, []⟩,
         ⟨none, .st (.t 81) (.t 80) 1, none, []⟩])
         (.reg [
         ⟨some 14, .mv (.c (.bool true)), none, []⟩]))
        .skip))
        (.seq (.regd [0, 1, 2, 3, 4, 5, 6, 7, 8, 9, 10, 11, 12, 13, 14, 15, 16, 17, 18, 19] [
        .op ⟨some 82, .mv (.t 11), none, []⟩,
        .op ⟨some 83, .addo (.t 16) 1, none, []⟩,
        .op ⟨some 84, .ld (.t 83) 1 false, none, [1]⟩,
        .op ⟨some 85, .ixs (.t 82) (.t 84) 1, none, [0, 2]⟩,
        .op ⟨some 86, .ld (.t 85) 1 false, none, [3]⟩,
        .op ⟨some 87, .addo (.t 16) 2, none, []⟩,
        .op ⟨some 88, .ld (.t 87) 1 false, none, [5]⟩,
        .op ⟨some 89, .bin .leq (.t 86) (.t 88), none, [4, 6]⟩,
        .op ⟨some 90, .mv (.t 89), none, [7]⟩,
        .op ⟨some 91, .addo (.t 16) 2, some (90, true), [8]⟩,
        .op ⟨some 92, .ld (.t 91) 1 false, some (90, true), [8, 9]⟩,
        .op ⟨some 93, .mv (.t 3), some (90, true), [8]⟩,
        .op ⟨some 94, .bin .add (.t 92) (.t 93), some (90, true), [8, 10, 11]⟩,
        .op ⟨some 95, .mv (.t 11), some (90, true), [8]⟩,
        .op ⟨some 96, .addo (.t 16) 0, some (90, true), [8]⟩,
        .op ⟨some 97, .ld (.t 96) 1 false, some (90, true), [8, 14]⟩,
        .op ⟨some 98, .ixs (.t 95) (.t 97) 1, some (90, true), [8, 13, 15]⟩,
        .op ⟨some 99, .ld (.t 98) 1 false, some (90, true), [8, 16]⟩,
        .op ⟨some 100, .bin .lss (.t 94) (.t 99), some (90, true), [8, 12, 17]⟩,
        .op ⟨some 101, .pick (.t 90) (.t 100) (.c (.bool false)), none, [8, 18]⟩] 0 0 [
])
        (.cond (.t 101)
        (.seq (.reg [
         ⟨some 102, .mv (.t 11), none, []⟩,
         ⟨some 103, .addo (.t 16) 0, none, []⟩,
         ⟨some 104, .ld (.t 103) 1 false, none, []⟩,
         ⟨some 105, .addo (.t 16) 2, none, []⟩,
         ⟨some 106, .ld (.t 105) 1 false, none, []⟩,
         ⟨some 107, .mv (.t 3), none, []⟩,
         ⟨some 108, .bin .add (.t 106) (.t 107), none, []⟩,
         ⟨some 109, .ixs (.t 102) (.t 104) 1, none, []⟩,
         ⟨none, .st (.t 109) (.t 108) 1, none, []⟩])
         (.reg [
         ⟨some 14, .mv (.c (.bool true)), none, []⟩]))
        .skip))))))
       (.reg [
       ⟨some 42, .mv (.t 15), none, []⟩,
       ⟨some 43, .bin .add (.t 42) (.c (.int .i64 1)), none, []⟩,
       ⟨some 15, .mv (.t 43), none, []⟩]))))))))))))
  (.seq (.reg [
  ⟨some 110, .mv (.t 11), none, []⟩,
  ⟨some 10, .mv (.t 110), none, []⟩])
  .ret))))))
def r86 : List RV := [.tmp 10]
theorem n86 : Try.f86.ntmps = 111 := by kernel_rfl
theorem b86 : bodyB Try.prog 86 = true := by kernel_rfl
theorem c86_ok : cmpC Try.prog c86 ((Try.f86.body).getD .skip) = true := by kernel_rfl
theorem r86_ok : cmpR Try.prog r86 Try.f86.results.toList = true := by kernel_rfl
theorem t86 {args : List SV} {res : SV} (ka : KFL args) (kr : KF res) (h : sx Try.prog Y0 0 c86 (st0 args 111) (retK r86 res)) (hA : Nat.ble args.length 111 = true := by rfl) : Ct Try.prog 86 args res := ct_intro Try.func86 rfl b86 c86_ok r86_ok n86 (Nat.le_of_ble_eq_true hA) ka kr h
/- slices.IndexFunc[[]azalai/api.Meet,azalai/api.Meet] -/
def c97 : SC := (.seq (.reg [
  ⟨some 4, .mv (.c (.int .i64 0)), none, []⟩])
  (.seq (.seq (.reg [
  ⟨some 6, .mv (.t 0), none, []⟩,
  ⟨some 7, .len (.t 6), none, []⟩,
  ⟨some 8, .mv (.c (.int .i64 0)), none, []⟩])
  (.block 0 (.loop (.seq (.reg [
    ⟨some 9, .bin .lss (.t 8) (.t 7), none, []⟩])
    (.seq (.cond (.t 9)
    .skip
    (.exit 0))
    (.seq (.block 1 (.seq (.reg [
     ⟨some 10, .mv (.t 8), none, []⟩,
     ⟨some 5, .mv (.t 10), none, []⟩])
     (.seq (.reg [
     ⟨some 11, .mv (.t 1), none, []⟩,
     ⟨some 12, .mv (.t 0), none, []⟩,
     ⟨some 13, .mv (.t 5), none, []⟩,
     ⟨some 14, .ixs (.t 12) (.t 13) 4, none, []⟩,
     ⟨some 15, .ld (.t 14) 4 true, none, []⟩,
     ⟨some 16, .calv (.t 11) [.t 15], none, []⟩])
     (.cond (.t 16)
     (.seq (.reg [
      ⟨some 17, .mv (.t 5), none, []⟩,
      ⟨some 4, .mv (.t 17), none, []⟩])
      .ret)
     .skip))))
    (.reg [
    ⟨some 18, .bin .add (.t 8) (.c (.int .i64 1)), none, []⟩,
    ⟨some 8, .mv (.t 18), none, []⟩])))))))
  (.seq (.reg [
  ⟨some 4, .mv (.c (.int .i64 (-1))), none, []⟩])
  .ret)))
def r97 : List RV := [.tmp 4]
theorem n97 : Try.f97.ntmps = 19 := by kernel_rfl
theorem b97 : bodyB Try.prog 97 = true := by kernel_rfl
theorem c97_ok : cmpC Try.prog c97 ((Try.f97.body).getD .skip) = true := by kernel_rfl
theorem r97_ok : cmpR Try.prog r97 Try.f97.results.toList = true := by kernel_rfl
theorem t97 {args : List SV} {res : SV} (ka : KFL args) (kr : KF res) (h : sx Try.prog Y0 0 c97 (st0 args 19) (retK r97 res)) (hA : Nat.ble args.length 19 = true := by rfl) : Ct Try.prog 97 args res := ct_intro Try.func97 rfl b97 c97_ok r97_ok n97 (Nat.le_of_ble_eq_true hA) ka kr h
/- slices.stableCmpFunc[azalai/api.Meet] -/
def c98 : SC := (.seq (.reg [
  ⟨some 6, .mv (.c (.int .i64 20)), none, []⟩])
  (.seq (.reg [
  ⟨some 10, .mv (.t 6), none, []⟩,
  ⟨some 7, .mv (.c (.int .i64 0)), none, []⟩,
  ⟨some 8, .mv (.t 10), none, []⟩])
  (.seq (.block 0 (.loop (.seq (.seq (.reg [
    ⟨some 11, .mv (.t 8), none, []⟩,
    ⟨some 12, .mv (.t 1), none, []⟩,
    ⟨some 13, .bin .leq (.t 11) (.t 12), none, []⟩])
    (.cond (.t 13)
    .skip
    (.exit 0)))
    (.block 1 (.seq (.reg [
     ⟨some 14, .mv (.t 0), none, []⟩,
     ⟨some 15, .mv (.t 7), none, []⟩,
     ⟨some 16, .mv (.t 8), none, []⟩,
     ⟨some 17, .mv (.t 2), none, []⟩,
     ⟨some 18, .callm 105 [.t 14, .t 15, .t 16, .t 17], none, []⟩])
     (.seq (.reg [
     ⟨some 19, .mv (.t 8), none, []⟩,
     ⟨some 7, .mv (.t 19), none, []⟩])
     (.reg [
     ⟨some 20, .mv (.t 8), none, []⟩,
     ⟨some 21, .mv (.t 6), none, []⟩,
     ⟨some 22, .bin .add (.t 20) (.t 21), none, []⟩,
     ⟨some 8, .mv (.t 22), none, []⟩])))))))
  (.seq (.reg [
  ⟨some 23, .mv (.t 0), none, []⟩,
  ⟨some 24, .mv (.t 7), none, []⟩,
  ⟨some 25, .mv (.t 1), none, []⟩,
  ⟨some 26, .mv (.t 2), none, []⟩,
  ⟨some 27, .callm 105 [.t 23, .t 24, .t 25, .t 26], none, []⟩])
  (.block 2 (.loop (.seq (.seq (.reg [
    ⟨some 28, .mv (.t 6), none, []⟩,
    ⟨some 29, .mv (.t 1), none, []⟩,
    ⟨some 30, .bin .lss (.t 28) (.t 29), none, []⟩])
    (.cond (.t 30)
    .skip
    (.exit 2)))
    (.block 3 (.seq (.reg [
     ⟨some 31, .mv (.t 6), none, []⟩,
     ⟨some 32, .bin .mul (.c (.int .i64 2)) (.t 31), none, []⟩,
     ⟨some 7, .mv (.c (.int .i64 0)), none, []⟩,
     ⟨some 8, .mv (.t 32), none, []⟩])
     (.seq (.block 4 (.loop (.seq (.seq (.reg [
       ⟨some 33, .mv (.t 8), none, []⟩,
       ⟨some 34, .mv (.t 1), none, []⟩,
       ⟨some 35, .bin .leq (.t 33) (.t 34), none, []⟩])
       (.cond (.t 35)
       .skip
       (.exit 4)))
       (.block 5 (.seq (.reg [
        ⟨some 36, .mv (.t 0), none, []⟩,
        ⟨some 37, .mv (.t 7), none, []⟩,
        ⟨some 38, .mv (.t 7), none, []⟩,
        ⟨some 39, .mv (.t 6), none, []⟩,
        ⟨some 40, .bin .add (.t 38) (.t 39), none, []⟩,
        ⟨some 41, .mv (.t 8), none, []⟩,
        ⟨some 42, .mv (.t 2), none, []⟩,
        ⟨some 43, .callm 106 [.t 36, .t 37, .t 40, .t 41, .t 42], none, []⟩])
        (.seq (.reg [
        ⟨some 44, .mv (.t 8), none, []⟩,
        ⟨some 7, .mv (.t 44), none, []⟩])
        (.reg [
        ⟨some 45, .mv (.t 8), none, []⟩,
        ⟨some 46, .mv (.t 6), none, []⟩,
        ⟨some 47, .bin .mul (.c (.int .i64 2)) (.t 46), none, []⟩,
        ⟨some 48, .bin .add (.t 45) (.t 47), none, []⟩,
        ⟨some 8, .mv (.t 48), none, []⟩])))))))
     (.seq (.seq (.reg [
     ⟨some 49, .mv (.t 7), none, []⟩,
     ⟨some 50, .mv (.t 6), none, []⟩,
     ⟨some 51, .bin .add (.t 49) (.t 50), none, []⟩,
     ⟨some 9, .mv (.t 51), none, []⟩])
     (.seq (.reg [
     ⟨some 52, .mv (.t 9), none, []⟩,
     ⟨some 53, .mv (.t 1), none, []⟩,
     ⟨some 54, .bin .lss (.t 52) (.t 53), none, []⟩])
     (.cond (.t 54)
     (.reg [
      ⟨some 55, .mv (.t 0), none, []⟩,
      ⟨some 56, .mv (.t 7), none, []⟩,
      ⟨some 57, .mv (.t 9), none, []⟩,
      ⟨some 58, .mv (.t 1), none, []⟩,
      ⟨some 59, .mv (.t 2), none, []⟩,
      ⟨some 60, .callm 106 [.t 55, .t 56, .t 57, .t 58, .t 59], none, []⟩])
     .skip)))
     (.reg [
     ⟨some 61, .mv (.t 6), none, []⟩,
     ⟨some 62, .bin .mul (.t 61) (.c (.int .i64 2)), none, []⟩,
     ⟨some 6, .mv (.t 62), none, []⟩]))))))))))))
def r98 : List RV := []
theorem n98 : Try.f98.ntmps = 63 := by kernel_rfl
theorem b98 : bodyB Try.prog 98 = true := by kernel_rfl
theorem c98_ok : cmpC Try.prog c98 ((Try.f98.body).getD .skip) = true := by kernel_rfl
theorem r98_ok : cmpR Try.prog r98 Try.f98.results.toList = true := by kernel_rfl
theorem t98 {args : List SV} {res : SV} (ka : KFL args) (kr : KF res) (h : sx Try.prog Y0 0 c98 (st0 args 63) (retK r98 res)) (hA : Nat.ble args.length 63 = true := by rfl) : Ct Try.prog 98 args res := ct_intro Try.func98 rfl b98 c98_ok r98_ok n98 (Nat.le_of_ble_eq_true hA) ka kr h
theorem y98 {Y : Hd} {n0 : Nat} {hp0 : List (Nat × HB)} {args : List SV} {Post : Ot → Prop} (h : sx Try.prog Y n0 c98 ⟨enum 0 args, hp0, n0, 63, []⟩ (retM r98 Post)) (hA : Nat.ble args.length 63 = true := by rfl) : CtY Try.prog Y 98 hp0 n0 args Post := cty_intro Try.func98 rfl c98_ok r98_ok n98 (Nat.le_of_ble_eq_true hA) h
theorem m98 {n0 : Nat} {hp0 : List (Nat × HB)} {args : List SV} {Post : Ot → Prop} (hh : hpb n0 hp0) (hx : ∀ o, Post o → KX o.res ∧ KXP o.hp) (h : sx Try.prog Y0 n0 c98 ⟨enum 0 args, hp0, n0, 63, []⟩ (retM r98 fun o => ∃ o', Post o' ∧ EntO n0 o o')) (hA : Nat.ble args.length 63 = true := by rfl) : CtM Try.prog 98 hp0 n0 args Post := ctm_intro Try.func98 rfl b98 c98_ok r98_ok n98 (Nat.le_of_ble_eq_true hA) hh hx h
/- cmp.isNaN[int] -/
def c99 : SC := (.seq (.reg [
  ⟨some 2, .mv (.c (.bool false)), none, []⟩])
  (.seq (.reg [
  ⟨some 3, .mv (.t 0), none, []⟩,
  ⟨some 4, .mv (.t 0), none, []⟩,
  ⟨some 5, .bin .neq (.t 3) (.t 4), none, []⟩,
  ⟨some 2, .mv (.t 5), none, []⟩])
  .ret))
def r99 : List RV := [.tmp 2]
theorem n99 : Try.f99.ntmps = 6 := by kernel_rfl
theorem b99 : bodyB Try.prog 99 = true := by kernel_rfl
theorem c99_ok : cmpC Try.prog c99 ((Try.f99.body).getD .skip) = true := by kernel_rfl
theorem r99_ok : cmpR Try.prog r99 Try.f99.results.toList = true := by kernel_rfl
theorem t99 {args : List SV} {res : SV} (ka : KFL args) (kr : KF res) (h : sx Try.prog Y0 0 c99 (st0 args 6) (retK r99 res)) (hA : Nat.ble args.length 6 = true := by rfl) : Ct Try.prog 99 args res := ct_intro Try.func99 rfl b99 c99_ok r99_ok n99 (Nat.le_of_ble_eq_true hA) ka kr h
/- slices.Repeat[[]int,int] -/
def c100 : SC := (.seq (.reg [
  ⟨some 4, .mv (.c (.slice none 0 0)), none, []⟩])
  (.seq (.seq (.reg [
  ⟨some 9, .mv (.t 1), none, []⟩,
  ⟨some 10, .bin .lss (.t 9) (.c (.int .i64 0)), none, []⟩])
  (.cond (.t 10)
  (.reg [
   ⟨some 11, .raw (Go.Op.makeInterface 9 (Go.Operand.const (Go.Value.string { data := #[99, 97, 110, 110, 111, 116, 32, 98, 101, 32, 110, 101, 103, 97, 116, 105, 118, 101] }))) 20, none, []⟩,
   ⟨none, .raw (Go.Op.panic (Go.Operand.tmp 11)) 0, none, []⟩])
  .skip))
  (.seq (.reg [
  ⟨some 13, .mv (.t 0), none, []⟩,
  ⟨some 14, .len (.t 13), none, []⟩,
  ⟨some 15, .conv .u64 (.t 14), none, []⟩,
  ⟨some 16, .mv (.t 1), none, []⟩,
  ⟨some 17, .conv .u64 (.t 16), none, []⟩,
  ⟨some 18, .call 96 [.t 15, .t 17], none, []⟩,
  ⟨some 12, .mv (.t 18), none, []⟩,
  ⟨some 19, .ext (.t 12) 0, none, []⟩,
  ⟨some 20, .ext (.t 12) 1, none, []⟩,
  ⟨some 5, .mv (.t 19), none, []⟩,
  ⟨some 6, .mv (.t 20), none, []⟩])
  (.seq (.seq (.reg [
  ⟨some 21, .mv (.t 5), none, []⟩,
  ⟨some 22, .bin .gtr (.t 21) (.c (.int .u64 0)), none, []⟩,
  ⟨some 23, .mv (.t 22), none, []⟩,
  ⟨some 24, .mv (.t 6), some (23, false), []⟩,
  ⟨some 25, .bin .gtr (.t 24) (.c (.int .u64 9223372036854775807)), some (23, false), []⟩,
  ⟨some 26, .pick (.t 23) (.c (.bool true)) (.t 25), none, []⟩])
  (.cond (.t 26)
  (.reg [
   ⟨some 27, .raw (Go.Op.makeInterface 9 (Go.Operand.const (Go.Value.string { data := #[116, 104, 101, 32, 114, 101, 115, 117, 108, 116, 32, 111, 102, 32, 40, 108, 101, 110, 40, 120, 41, 32, 42, 32, 99, 111, 117, 110, 116, 41, 32, 111, 118, 101, 114, 102, 108, 111, 119, 115] }))) 20, none, []⟩,
   ⟨none, .raw (Go.Op.panic (Go.Operand.tmp 27)) 0, none, []⟩])
  .skip))
  (.seq (.reg [
  ⟨some 28, .mv (.t 6), none, []⟩,
  ⟨some 29, .conv .i64 (.t 28), none, []⟩,
  ⟨some 30, .mks 1 8 [.int .i64 0] 3 (.t 29), none, []⟩,
  ⟨some 7, .mv (.t 30), none, []⟩])
  (.seq (.reg [
  ⟨some 31, .mv (.t 7), none, []⟩,
  ⟨some 32, .mv (.t 0), none, []⟩,
  ⟨some 33, .cpy 1 (.t 31) (.t 32), none, []⟩,
  ⟨some 8, .mv (.t 33), none, []⟩])
  (.seq (.block 0 (.loop (.seq (.seq (.reg [
    ⟨some 34, .mv (.t 8), none, []⟩,
    ⟨some 35, .mv (.t 7), none, []⟩,
    ⟨some 36, .len (.t 35), none, []⟩,
    ⟨some 37, .bin .lss (.t 34) (.t 36), none, []⟩])
    (.cond (.t 37)
    .skip
    (.exit 0)))
    (.block 1 (.regd [1, 2, 3, 4, 5, 6, 0, 7, 8, 9] [
     .op ⟨some 39, .mv (.t 7), none, []⟩,
     .op ⟨some 40, .mv (.t 8), none, []⟩,
     .op ⟨some 41, .sub 1 (.t 39) (some (.t 40)) none, none, [1, 2]⟩,
     .op ⟨some 42, .mv (.t 7), none, []⟩,
     .op ⟨some 43, .mv (.t 8), none, []⟩,
     .op ⟨some 44, .sub 1 (.t 42) none (some (.t 43)), none, [4, 5]⟩,
     .hide (.t 41),
     .op ⟨some 38, .mv (.t 8), none, []⟩] 0 1 [
     ⟨some 45, .cpy 1 (.t 41) (.t 44), none, [3, 6]⟩,
     ⟨some 46, .bin .add (.t 38) (.t 45), none, [0, 7]⟩,
     ⟨some 8, .mv (.t 46), none, [0, 1, 2, 3, 4, 5, 6, 7, 8]⟩])))))
  (.seq (.reg [
  ⟨some 47, .mv (.t 7), none, []⟩,
  ⟨some 4, .mv (.t 47), none, []⟩])
  .ret))))))))
def r100 : List RV := [.tmp 4]
theorem n100 : Try.f100.ntmps = 48 := by kernel_rfl
theorem b100 : bodyB Try.prog 100 = true := by kernel_rfl
theorem c100_ok : cmpC Try.prog c100 ((Try.f100.body).getD .skip) = true := by kernel_rfl
theorem r100_ok : cmpR Try.prog r100 Try.f100.results.toList = true := by kernel_rfl
theorem t100 {args : List SV} {res : SV} (ka : KFL args) (kr : KF res) (h : sx Try.prog Y0 0 c100 (st0 args 48) (retK r100 res)) (hA : Nat.ble args.length 48 = true := by rfl) : Ct Try.prog 100 args res := ct_intro Try.func100 rfl b100 c100_ok r100_ok n100 (Nat.le_of_ble_eq_true hA) ka kr h
theorem y100 {Y : Hd} {n0 : Nat} {hp0 : List (Nat × HB)} {args : List SV} {Post : Ot → Prop} (h : sx Try.prog Y n0 c100 ⟨enum 0 args, hp0, n0, 48, []⟩ (retM r100 Post)) (hA : Nat.ble args.length 48 = true := by rfl) : CtY Try.prog Y 100 hp0 n0 args Post := cty_intro Try.func100 rfl c100_ok r100_ok n100 (Nat.le_of_ble_eq_true hA) h
theorem m100 {n0 : Nat} {hp0 : List (Nat × HB)} {args : List SV} {Post : Ot → Prop} (hh : hpb n0 hp0) (hx : ∀ o, Post o → KX o.res ∧ KXP o.hp) (h : sx Try.prog Y0 n0 c100 ⟨enum 0 args, hp0, n0, 48, []⟩ (retM r100 fun o => ∃ o', Post o' ∧ EntO n0 o o')) (hA : Nat.ble args.length 48 = true := by rfl) : CtM Try.prog 100 hp0 n0 args Post := ctm_intro Try.func100 rfl b100 c100_ok r100_ok n100 (Nat.le_of_ble_eq_true hA) hh hx h
/- slices.insertionSortCmpFunc[azalai/api.Meet] -/
def c105 : SC := (.seq (.reg [
  ⟨some 10, .mv (.t 1), none, []⟩,
  ⟨some 11, .bin .add (.t 10) (.c (.int .i64 1)), none, []⟩,
  ⟨some 8, .mv (.t 11), none, []⟩])
  (.block 0 (.loop (.seq (.seq (.reg [
    ⟨some 12, .mv (.t 8), none, []⟩,
    ⟨some 13, .mv (.t 2), none, []⟩,
    ⟨some 14, .bin .lss (.t 12) (.t 13), none, []⟩])
    (.cond (.t 14)
    .skip
    (.exit 0)))
    (.seq (.block 1 (.seq (.reg [
     ⟨some 17, .mv (.t 8), none, []⟩,
     ⟨some 9, .mv (.t 17), none, []⟩])
     (.block 2 (.loop (.seq (.seq (.regd [0, 1, 2, 3, 4, 5, 6, 7, 8, 9, 10, 11, 12, 13, 14, 15, 16] [
       .op ⟨some 18, .mv (.t 9), none, []⟩,
       .op ⟨some 19, .mv (.t 1), none, []⟩,
       .op ⟨some 20, .bin .gtr (.t 18) (.t 19), none, [0, 1]⟩,
       .op ⟨some 21, .mv (.t 20), none, [2]⟩,
       .op ⟨some 22, .mv (.t 3), some (21, true), [3]⟩,
       .op ⟨some 23, .mv (.t 0), some (21, true), [3]⟩,
       .op ⟨some 24, .mv (.t 9), some (21, true), [3]⟩,
       .op ⟨some 25, .ixs (.t 23) (.t 24) 4, some (21, true), [3, 5, 6]⟩,
       .op ⟨some 26, .ld (.t 25) 4 true, some (21, true), [3, 7]⟩,
       .op ⟨some 27, .mv (.t 0), some (21, true), [3]⟩,
       .op ⟨some 28, .mv (.t 9), some (21, true), [3]⟩,
       .op ⟨some 29, .bin .sub (.t 28) (.c (.int .i64 1)), some (21, true), [3, 10]⟩,
       .op ⟨some 30, .ixs (.t 27) (.t 29) 4, some (21, true), [3, 9, 11]⟩,
       .op ⟨some 31, .ld (.t 30) 4 true, some (21, true), [3, 12]⟩,
       .op ⟨some 32, .calv (.t 22) [.t 26, .t 31], some (21, true), [3, 4, 8, 13]⟩,
       .op ⟨some 33, .bin .lss (.t 32) (.c (.int .i64 0)), some (21, true), [3, 14]⟩,
       .op ⟨some 34, .pick (.t 21) (.t 33) (.c (.bool false)), none, [3, 15]⟩] 0 0 [
])
       (.cond (.t 34)
       .skip
       (.exit 2)))
       (.seq (.block 3 (.regd [0, 1, 5, 6, 7, 8, 9, 10, 11, 12, 13, 14, 2, 3, 4, 15, 16, 17] [
        .op ⟨some 37, .mv (.t 0), none, []⟩,
        .op ⟨some 38, .mv (.t 9), none, []⟩,
        .op ⟨some 42, .mv (.t 0), none, []⟩,
        .op ⟨some 43, .mv (.t 9), none, []⟩,
        .op ⟨some 44, .bin .sub (.t 43) (.c (.int .i64 1)), none, [6]⟩,
        .op ⟨some 45, .ixs (.t 42) (.t 44) 4, none, [5, 7]⟩,
        .op ⟨some 46, .ld (.t 45) 4 true, none, [8]⟩,
        .op ⟨some 47, .mv (.t 0), none, []⟩,
        .op ⟨some 48, .mv (.t 9), none, []⟩,
        .op ⟨some 49, .ixs (.t 47) (.t 48) 4, none, [10, 11]⟩,
        .op ⟨some 50, .ld (.t 49) 4 true, none, [12]⟩,
        .op ⟨some 51, .ixs (.t 37) (.t 38) 4, none, [0, 1, 5, 6, 7, 8, 9, 13]⟩,
        .hide (.t 51),
        .op ⟨some 39, .mv (.t 0), none, []⟩,
        .op ⟨some 40, .mv (.t 9), none, []⟩,
        .op ⟨some 41, .bin .sub (.t 40) (.c (.int .i64 1)), none, [3]⟩] 0 1 [
        ⟨none, .st (.t 51) (.t 46) 4, none, [0, 1, 5, 6, 7, 8, 9, 13, 14]⟩,
        ⟨some 52, .ixs (.t 39) (.t 41) 4, none, [0, 1, 2, 3, 4, 5, 6, 7, 8, 9, 10, 11, 12, 13, 14, 15]⟩,
        ⟨none, .st (.t 52) (.t 50) 4, none, [0, 1, 2, 3, 4, 5, 6, 7, 8, 9, 10, 11, 12, 13, 14, 15, 16]⟩]))
       (.reg [
       ⟨some 35, .mv (.t 9), none, []⟩,
       ⟨some 36, .bin .sub (.t 35) (.c (.int .i64 1)), none, []⟩,
       ⟨some 9, .mv (.t 36), none, []⟩])))))))
    (.reg [
    ⟨some 15, .mv (.t 8), none, []⟩,
    ⟨some 16, .bin .add (.t 15) (.c (.int .i64 1)), none, []⟩,
    ⟨some 8, .mv (.t 16), none, []⟩]))))))
def r105 : List RV := []
theorem n105 : Try.f105.ntmps = 53 := by kernel_rfl
theorem b105 : bodyB Try.prog 105 = true := by kernel_rfl
theorem c105_ok : cmpC Try.prog c105 ((Try.f105.body).getD .skip) = true := by kernel_rfl
theorem r105_ok : cmpR Try.prog r105 Try.f105.results.toList = true := by kernel_rfl
theorem t105 {args : List SV} {res : SV} (ka : KFL args) (kr : KF res) (h : sx Try.prog Y0 0 c105 (st0 args 53) (retK r105 res)) (hA : Nat.ble args.length 53 = true := by rfl) : Ct Try.prog 105 args res := ct_intro Try.func105 rfl b105 c105_ok r105_ok n105 (Nat.le_of_ble_eq_true hA) ka kr h
theorem y105 {Y : Hd} {n0 : Nat} {hp0 : List (Nat × HB)} {args : List SV} {Post : Ot → Prop} (h : sx Try.prog Y n0 c105 ⟨enum 0 args, hp0, n0, 53, []⟩ (retM r105 Post)) (hA : Nat.ble args.length 53 = true := by rfl) : CtY Try.prog Y 105 hp0 n0 args Post := cty_intro Try.func105 rfl c105_ok r105_ok n105 (Nat.le_of_ble_eq_true hA) h
theorem m105 {n0 : Nat} {hp0 : List (Nat × HB)} {args : List SV} {Post : Ot → Prop} (hh : hpb n0 hp0) (hx : ∀ o, Post o → KX o.res ∧ KXP o.hp) (h : sx Try.prog Y0 n0 c105 ⟨enum 0 args, hp0, n0, 53, []⟩ (retM r105 fun o => ∃ o', Post o' ∧ EntO n0 o o')) (hA : Nat.ble args.length 53 = true := by rfl) : CtM Try.prog 105 hp0 n0 args Post := ctm_intro Try.func105 rfl b105 c105_ok r105_ok n105 (Nat.le_of_ble_eq_true hA) hh hx h
/- slices.symMergeCmpFunc[azalai/api.Meet] -/
def c106 : SC := (.seq (.seq (.reg [
  ⟨some 25, .mv (.t 2), none, []⟩,
  ⟨some 26, .mv (.t 1), none, []⟩,
  ⟨some 27, .bin .sub (.t 25) (.t 26), none, []⟩,
  ⟨some 28, .bin .eql (.t 27) (.c (.int .i64 1)), none, []⟩])
  (.cond (.t 28)
  (.seq (.reg [
   ⟨some 29, .mv (.t 2), none, []⟩,
   ⟨some 10, .mv (.t 29), none, []⟩])
   (.seq (.reg [
   ⟨some 30, .mv (.t 3), none, []⟩,
   ⟨some 11, .mv (.t 30), none, []⟩])
   (.seq (.block 0 (.loop (.seq (.seq (.reg [
     ⟨some 31, .mv (.t 10), none, []⟩,
     ⟨some 32, .mv (.t 11), none, []⟩,
     ⟨some 33, .bin .lss (.t 31) (.t 32), none, []⟩])
     (.cond (.t 33)
     .skip
     (.exit 0)))
     (.block 1 (.seq (.reg [
      ⟨some 34, .mv (.t 10), none, []⟩,
      ⟨some 35, .mv (.t 11), none, []⟩,
      ⟨some 36, .bin .add (.t 34) (.t 35), none, []⟩,
      ⟨some 37, .conv .u64 (.t 36), none, []⟩,
      ⟨some 38, .raw (Go.Op.binOp Go.BinOp.shr 153 (Go.Operand.tmp 37) (Go.Operand.const (Go.Value.int Go.IntKind.u64 1)) 153) 153, none, []⟩,
      ⟨some 39, .conv .i64 (.t 38), none, []⟩,
      ⟨some 12, .mv (.t 39), none, []⟩])
      (.seq (.regd [0, 1, 2, 3, 4, 5, 6, 7, 8, 9, 10] [
      .op ⟨some 40, .mv (.t 4), none, []⟩,
      .op ⟨some 41, .mv (.t 0), none, []⟩,
      .op ⟨some 42, .mv (.t 12), none, []⟩,
      .op ⟨some 43, .ixs (.t 41) (.t 42) 4, none, [1, 2]⟩,
      .op ⟨some 44, .ld (.t 43) 4 true, none, [3]⟩,
      .op ⟨some 45, .mv (.t 0), none, []⟩,
      .op ⟨some 46, .mv (.t 1), none, []⟩,
      .op ⟨some 47, .ixs (.t 45) (.t 46) 4, none, [5, 6]⟩,
      .op ⟨some 48, .ld (.t 47) 4 true, none, [7]⟩,
      .op ⟨some 49, .calv (.t 40) [.t 44, .t 48], none, [0, 4, 8]⟩,
      .op ⟨some 50, .bin .lss (.t 49) (.c (.int .i64 0)), none, [9]⟩] 0 0 [
])
      (.cond (.t 50)
      (.reg [
       ⟨some 51, .mv (.t 12), none, []⟩,
       ⟨some 52, .bin .add (.t 51) (.c (.int .i64 1)), none, []⟩,
       ⟨some 10, .mv (.t 52), none, []⟩])
      (.reg [
       ⟨some 53, .mv (.t 12), none, []⟩,
       ⟨some 11, .mv (.t 53), none, []⟩]))))))))
   (.seq (.seq (.reg [
   ⟨some 54, .mv (.t 1), none, []⟩,
   ⟨some 13, .mv (.t 54), none, []⟩])
   (.block 2 (.loop (.seq (.seq (.reg [
     ⟨some 55, .mv (.t 13), none, []⟩,
     ⟨some 56, .mv (.t 10), none, []⟩,
     ⟨some 57, .bin .sub (.t 56) (.c (.int .i64 1)), none, []⟩,
     ⟨some 58, .bin .lss (.t 55) (.t 57), none, []⟩])
     (.cond (.t 58)
     .skip
     (.exit 2)))
     (.seq (.block 3 (.regd [0, 1, 5, 6, 7, 8, 9, 10, 11, 12, 13, 14, 2, 3, 4, 15, 16, 17] [
      .op ⟨some 61, .mv (.t 0), none, []⟩,
      .op ⟨some 62, .mv (.t 13), none, []⟩,
      .op ⟨some 66, .mv (.t 0), none, []⟩,
      .op ⟨some 67, .mv (.t 13), none, []⟩,
      .op ⟨some 68, .bin .add (.t 67) (.c (.int .i64 1)), none, [6]⟩,
      .op ⟨some 69, .ixs (.t 66) (.t 68) 4, none, [5, 7]⟩,
      .op ⟨some 70, .ld (.t 69) 4 true, none, [8]⟩,
      .op ⟨some 71, .mv (.t 0), none, []⟩,
      .op ⟨some 72, .mv (.t 13), none, []⟩,
      .op ⟨some 73, .ixs (.t 71) (.t 72) 4, none, [10, 11]⟩,
      .op ⟨some 74, .ld (.t 73) 4 true, none, [12]⟩,
      .op ⟨some 75, .ixs (.t 61) (.t 62) 4, none, [0, 1, 5, 6, 7, 8, 9, 13]⟩,
      .hide (.t 75),
      .op ⟨some 63, .mv (.t 0), none, []⟩,
      .op ⟨some 64, .mv (.t 13), none, []⟩,
      .op ⟨some 65, .bin .add (.t 64) (.c (.int .i64 1)), none, [3]⟩] 0 1 [
      ⟨none, .st (.t 75) (.t 70) 4, none, [0, 1, 5, 6, 7, 8, 9, 13, 14]⟩,
      ⟨some 76, .ixs (.t 63) (.t 65) 4, none, [0, 1, 2, 3, 4, 5, 6, 7, 8, 9, 10, 11, 12, 13, 14, 15]⟩,
      ⟨none, .st (.t 76) (.t 74) 4, none, [0, 1, 2, 3, 4, 5, 6, 7, 8, 9, 10, 11, 12, 13, 14, 15, 16]⟩]))
     (.reg [
     ⟨some 59, .mv (.t 13), none, []⟩,
     ⟨some 60, .bin .add (.t 59) (.c (.int .i64 1)), none, []⟩,
     ⟨some 13, .mv (.t 60), none, []⟩]))))))
   .ret))))
  .skip))
  (.seq (.seq (.reg [
  ⟨some 77, .mv (.t 3), none, []⟩,
  ⟨some 78, .mv (.t 2), none, []⟩,
  ⟨some 79, .bin .sub (.t 77) (.t 78), none, []⟩,
  ⟨some 80, .bin .eql (.t 79) (.c (.int .i64 1)), none, []⟩])
  (.cond (.t 80)
  (.seq (.reg [
   ⟨some 81, .mv (.t 1), none, []⟩,
   ⟨some 14, .mv (.t 81), none, []⟩])
   (.seq (.reg [
   ⟨some 82, .mv (.t 2), none, []⟩,
   ⟨some 15, .mv (.t 82), none, []⟩])
   (.seq (.block 4 (.loop (.seq (.seq (.reg [
     ⟨some 83, .mv (.t 14), none, []⟩,
     ⟨some 84, .mv (.t 15), none, []⟩,
     ⟨some 85, .bin .lss (.t 83) (.t 84), none, []⟩])
     (.cond (.t 85)
     .skip
     (.exit 4)))
     (.block 5 (.seq (.reg [
      ⟨some 86, .mv (.t 14), none, []⟩,
      ⟨some 87, .mv (.t 15), none, []⟩,
      ⟨some 88, .bin .add (.t 86) (.t 87), none, []⟩,
      ⟨some 89, .conv .u64 (.t 88), none, []⟩,
      ⟨some 90, .raw (Go.Op.binOp Go.BinOp.shr 153 (Go.Operand.tmp 89) (Go.Operand.const (Go.Value.int Go.IntKind.u64 1)) 153) 153, none, []⟩,
      ⟨some 91, .conv .i64 (.t 90), none, []⟩,
      ⟨some 16, .mv (.t 91), none, []⟩])
      (.seq (.regd [0, 1, 2, 3, 4, 5, 6, 7, 8, 9, 10, 11] [
      .op ⟨some 92, .mv (.t 4), none, []⟩,
      .op ⟨some 93, .mv (.t 0), none, []⟩,
      .op ⟨some 94, .mv (.t 2), none, []⟩,
      .op ⟨some 95, .ixs (.t 93) (.t 94) 4, none, [1, 2]⟩,
      .op ⟨some 96, .ld (.t 95) 4 true, none, [3]⟩,
      .op ⟨some 97, .mv (.t 0), none, []⟩,
      .op ⟨some 98, .mv (.t 16), none, []⟩,
      .op ⟨some 99, .ixs (.t 97) (.t 98) 4, none, [5, 6]⟩,
      .op ⟨some 100, .ld (.t 99) 4 true, none, [7]⟩,
      .op ⟨some 101, .calv (.t 92) [.t 96, .t 100], none, [0, 4, 8]⟩,
      .op ⟨some 102, .bin .lss (.t 101) (.c (.int .i64 0)), none, [9]⟩,
      .op ⟨some 103, .un .not (.t 102), none, [10]⟩] 0 0 [
])
      (.cond (.t 103)
      (.reg [
       ⟨some 104, .mv (.t 16), none, []⟩,
       ⟨some 105, .bin .add (.t 104) (.c (.int .i64 1)), none, []⟩,
       ⟨some 14, .mv (.t 105), none, []⟩])
      (.reg [
       ⟨some 106, .mv (.t 16), none, []⟩,
       ⟨some 15, .mv (.t 106), none, []⟩]))))))))
   (.seq (.seq (.reg [
   ⟨some 107, .mv (.t 2), none, []⟩,
   ⟨some 17, .mv (.t 107), none, []⟩])
   (.block 6 (.loop (.seq (.seq (.reg [
     ⟨some 108, .mv (.t 17), none, []⟩,
     ⟨some 109, .mv (.t 14), none, []⟩,
     ⟨some 110, .bin .gtr (.t 108) (.t 109), none, []⟩])
     (.cond (.t 110)
     .skip
     (.exit 6)))
     (.seq (.block 7 (.regd [0, 1, 5, 6, 7, 8, 9, 10, 11, 12, 13, 14, 2, 3, 4, 15, 16, 17] [
      .op ⟨some 113, .mv (.t 0), none, []⟩,
      .op ⟨some 114, .mv (.t 17), none, []⟩,
      .op ⟨some 118, .mv (.t 0), none, []⟩,
      .op ⟨some 119, .mv (.t 17), none, []⟩,
      .op ⟨some 120, .bin .sub (.t 119) (.c (.int .i64 1)), none, [6]⟩,
      .op ⟨some 121, .ixs (.t 118) (.t 120) 4, none, [5, 7]⟩,
      .op ⟨some 122, .ld (.t 121) 4 true, none, [8]⟩,
      .op ⟨some 123, .mv (.t 0), none, []⟩,
      .op ⟨some 124, .mv (.t 17), none, []⟩,
      .op ⟨some 125, .ixs (.t 123) (.t 124) 4, none, [10, 11]⟩,
      .op ⟨some 126, .ld (.t 125) 4 true, none, [12]⟩,
      .op ⟨some 127, .ixs (.t 113) (.t 114) 4, none, [0, 1, 5, 6, 7, 8, 9, 13]⟩,
      .hide (.t 127),
      .op ⟨some 115, .mv (.t 0), none, []⟩,
      .op ⟨some 116, .mv (.t 17), none, []⟩,
      .op ⟨some 117, .bin .sub (.t 116) (.c (.int .i64 1)), none, [3]⟩] 0 1 [
      ⟨none, .st (.t 127) (.t 122) 4, none, [0, 1, 5, 6, 7, 8, 9, 13, 14]⟩,
      ⟨some 128, .ixs (.t 115) (.t 117) 4, none, [0, 1, 2, 3, 4, 5, 6, 7, 8, 9, 10, 11, 12, 13, 14, 15]⟩,
      ⟨none, .st (.t 128) (.t 126) 4, none, [0, 1, 2, 3, 4, 5, 6, 7, 8, 9, 10, 11, 12, 13, 14, 15, 16]⟩]))
     (.reg [
     ⟨some 111, .mv (.t 17), none, []⟩,
     ⟨some 112, .bin .sub (.t 111) (.c (.int .i64 1)), none, []⟩,
     ⟨some 17, .mv (.t 112), none, []⟩]))))))
   .ret))))
  .skip))
  (.seq (.reg [
  ⟨some 129, .mv (.t 1), none, []⟩,
  ⟨some 130, .mv (.t 3), none, []⟩,
  ⟨some 131, .bin .add (.t 129) (.t 130), none, []⟩,
  ⟨some 132, .conv .u64 (.t 131), none, []⟩,
  ⟨some 133, .raw (Go.Op.binOp Go.BinOp.shr 153 (Go.Operand.tmp 132) (Go.Operand.const (Go.Value.int Go.IntKind.u64 1)) 153) 153, none, []⟩,
  ⟨some 134, .conv .i64 (.t 133), none, []⟩,
  ⟨some 18, .mv (.t 134), none, []⟩])
  (.seq (.reg [
  ⟨some 135, .mv (.t 18), none, []⟩,
  ⟨some 136, .mv (.t 2), none, []⟩,
  ⟨some 137, .bin .add (.t 135) (.t 136), none, []⟩,
  ⟨some 19, .mv (.t 137), none, []⟩])
  (.seq (.reg [
  ⟨some 20, .mv (.c (.int .i64 0)), none, []⟩,
  ⟨some 21, .mv (.c (.int .i64 0)), none, []⟩])
  (.seq (.seq (.reg [
  ⟨some 138, .mv (.t 2), none, []⟩,
  ⟨some 139, .mv (.t 18), none, []⟩,
  ⟨some 140, .bin .gtr (.t 138) (.t 139), none, []⟩])
  (.cond (.t 140)
  (.seq (.reg [
   ⟨some 141, .mv (.t 19), none, []⟩,
   ⟨some 142, .mv (.t 3), none, []⟩,
   ⟨some 143, .bin .sub (.t 141) (.t 142), none, []⟩,
   ⟨some 20, .mv (.t 143), none, []⟩])
   (.reg [
   ⟨some 144, .mv (.t 18), none, []⟩,
   ⟨some 21, .mv (.t 144), none, []⟩]))
  (.seq (.reg [
   ⟨some 145, .mv (.t 1), none, []⟩,
   ⟨some 20, .mv (.t 145), none, []⟩])
   (.reg [
   ⟨some 146, .mv (.t 2), none, []⟩,
   ⟨some 21, .mv (.t 146), none, []⟩]))))
  (.seq (.reg [
  ⟨some 147, .mv (.t 19), none, []⟩,
  ⟨some 148, .bin .sub (.t 147) (.c (.int .i64 1)), none, []⟩,
  ⟨some 22, .mv (.t 148), none, []⟩])
  (.seq (.block 8 (.loop (.seq (.seq (.reg [
    ⟨some 149, .mv (.t 20), none, []⟩,
    ⟨some 150, .mv (.t 21), none, []⟩,
    ⟨some 151, .bin .lss (.t 149) (.t 150), none, []⟩])
    (.cond (.t 151)
    .skip
    (.exit 8)))
    (.block 9 (.seq (.reg [
     ⟨some 152, .mv (.t 20), none, []⟩,
     ⟨some 153, .mv (.t 21), none, []⟩,
     ⟨some 154, .bin .add (.t 152) (.t 153), none, []⟩,
     ⟨some 155, .conv .u64 (.t 154), none, []⟩,
     ⟨some 156, .raw (Go.Op.binOp Go.BinOp.shr 153 (Go.Operand.tmp 155) (Go.Operand.const (Go.Value.int Go.IntKind.u64 1)) 153) 153, none, []⟩,
     ⟨some 157, .conv .i64 (.t 156), none, []⟩,
     ⟨some 23, .mv (.t 157), none, []⟩])
     (.seq (.regd [0, 1, 2, 3, 4, 5, 6, 7, 8, 9, 10, 11, 12, 13] [
     .op ⟨some 158, .mv (.t 4), none, []⟩,
     .op ⟨some 159, .mv (.t 0), none, []⟩,
     .op ⟨some 160, .mv (.t 22), none, []⟩,
     .op ⟨some 161, .mv (.t 23), none, []⟩,
     .op ⟨some 162, .bin .sub (.t 160) (.t 161), none, [2, 3]⟩,
     .op ⟨some 163, .ixs (.t 159) (.t 162) 4, none, [1, 4]⟩,
     .op ⟨some 164, .ld (.t 163) 4 true, none, [5]⟩,
     .op ⟨some 165, .mv (.t 0), none, []⟩,
     .op ⟨some 166, .mv (.t 23), none, []⟩,
     .op ⟨some 167, .ixs (.t 165) (.t 166) 4, none, [7, 8]⟩,
     .op ⟨some 168, .ld (.t 167) 4 true, none, [9]⟩,
     .op ⟨some 169, .calv (.t 158) [.t 164, .t 168], none, [0, 6, 10]⟩,
     .op ⟨some 170, .bin .lss (.t 169) (.c (.int .i64 0)), none, [11]⟩,
     .op ⟨some 171, .un .not (.t 170), none, [12]⟩] 0 0 [
])
     (.cond (.t 171)
     (.reg [
      ⟨some 172, .mv (.t 23), none, []⟩,
      ⟨some 173, .bin .add (.t 172) (.c (.int .i64 1)), none, []⟩,
      ⟨some 20, .mv (.t 173), none, []⟩])
     (.reg [
      ⟨some 174, .mv (.t 23), none, []⟩,
      ⟨some 21, .mv (.t 174), none, []⟩]))))))))
  (.seq (.reg [
  ⟨some 175, .mv (.t 19), none, []⟩,
  ⟨some 176, .mv (.t 20), none, []⟩,
  ⟨some 177, .bin .sub (.t 175) (.t 176), none, []⟩,
  ⟨some 24, .mv (.t 177), none, []⟩])
  (.seq (.seq (.reg [
  ⟨some 178, .mv (.t 20), none, []⟩,
  ⟨some 179, .mv (.t 2), none, []⟩,
  ⟨some 180, .bin .lss (.t 178) (.t 179), none, []⟩,
  ⟨some 181, .mv (.t 180), none, []⟩,
  ⟨some 182, .mv (.t 2), some (181, true), []⟩,
  ⟨some 183, .mv (.t 24), some (181, true), []⟩,
  ⟨some 184, .bin .lss (.t 182) (.t 183), some (181, true), []⟩,
  ⟨some 185, .pick (.t 181) (.t 184) (.c (.bool false)), none, []⟩])
  (.cond (.t 185)
  (.reg [
   ⟨some 186, .mv (.t 0), none, []⟩,
   ⟨some 187, .mv (.t 20), none, []⟩,
   ⟨some 188, .mv (.t 2), none, []⟩,
   ⟨some 189, .mv (.t 24), none, []⟩,
   ⟨some 190, .mv (.t 4), none, []⟩,
   ⟨some 191, .callm 107 [.t 186, .t 187, .t 188, .t 189, .t 190], none, []⟩])
  .skip))
  (.seq (.seq (.reg [
  ⟨some 192, .mv (.t 1), none, []⟩,
  ⟨some 193, .mv (.t 20), none, []⟩,
  ⟨some 194, .bin .lss (.t 192) (.t 193), none, []⟩,
  ⟨some 195, .mv (.t 194), none, []⟩,
  ⟨some 196, .mv (.t 20), some (195, true), []⟩,
  ⟨some 197, .mv (.t 18), some (195, true), []⟩,
  ⟨some 198, .bin .lss (.t 196) (.t 197), some (195, true), []⟩,
  ⟨some 199, .pick (.t 195) (.t 198) (.c (.bool false)), none, []⟩])
  (.cond (.t 199)
  (.reg [
   ⟨some 200, .mv (.t 0), none, []⟩,
   ⟨some 201, .mv (.t 1), none, []⟩,
   ⟨some 202, .mv (.t 20), none, []⟩,
   ⟨some 203, .mv (.t 18), none, []⟩,
   ⟨some 204, .mv (.t 4), none, []⟩,
   ⟨some 205, .callm 106 [.t 200, .t 201, .t 202, .t 203, .t 204], none, []⟩])
  .skip))
  (.seq (.reg [
  ⟨some 206, .mv (.t 18), none, []⟩,
  ⟨some 207, .mv (.t 24), none, []⟩,
  ⟨some 208, .bin .lss (.t 206) (.t 207), none, []⟩,
  ⟨some 209, .mv (.t 208), none, []⟩,
  ⟨some 210, .mv (.t 24), some (209, true), []⟩,
  ⟨some 211, .mv (.t 3), some (209, true), []⟩,
  ⟨some 212, .bin .lss (.t 210) (.t 211), some (209, true), []⟩,
  ⟨some 213, .pick (.t 209) (.t 212) (.c (.bool false)), none, []⟩])
  (.cond (.t 213)
  (.reg [
   ⟨some 214, .mv (.t 0), none, []⟩,
   ⟨some 215, .mv (.t 18), none, []⟩,
   ⟨some 216, .mv (.t 24), none, []⟩,
   ⟨some 217, .mv (.t 3), none, []⟩,
   ⟨some 218, .mv (.t 4), none, []⟩,
   ⟨some 219, .callm 106 [.t 214, .t 215, .t 216, .t 217, .t 218], none, []⟩])
  .skip)))))))))))))
def r106 : List RV := []
theorem n106 : Try.f106.ntmps = 220 := by kernel_rfl
theorem b106 : bodyB Try.prog 106 = true := by kernel_rfl
theorem c106_ok : cmpC Try.prog c106 ((Try.f106.body).getD .skip) = true := by kernel_rfl
theorem r106_ok : cmpR Try.prog r106 Try.f106.results.toList = true := by kernel_rfl
theorem t106 {args : List SV} {res : SV} (ka : KFL args) (kr : KF res) (h : sx Try.prog Y0 0 c106 (st0 args 220) (retK r106 res)) (hA : Nat.ble args.length 220 = true := by rfl) : Ct Try.prog 106 args res := ct_intro Try.func106 rfl b106 c106_ok r106_ok n106 (Nat.le_of_ble_eq_true hA) ka kr h
theorem y106 {Y : Hd} {n0 : Nat} {hp0 : List (Nat × HB)} {args : List SV} {Post : Ot → Prop} (h : sx Try.prog Y n0 c106 ⟨enum 0 args, hp0, n0, 220, []⟩ (retM r106 Post)) (hA : Nat.ble args.length 220 = true := by rfl) : CtY Try.prog Y 106 hp0 n0 args Post := cty_intro Try.func106 rfl c106_ok r106_ok n106 (Nat.le_of_ble_eq_true hA) h
theorem m106 {n0 : Nat} {hp0 : List (Nat × HB)} {args : List SV} {Post : Ot → Prop} (hh : hpb n0 hp0) (hx : ∀ o, Post o → KX o.res ∧ KXP o.hp) (h : sx Try.prog Y0 n0 c106 ⟨enum 0 args, hp0, n0, 220, []⟩ (retM r106 fun o => ∃ o', Post o' ∧ EntO n0 o o')) (hA : Nat.ble args.length 220 = true := by rfl) : CtM Try.prog 106 hp0 n0 args Post := ctm_intro Try.func106 rfl b106 c106_ok r106_ok n106 (Nat.le_of_ble_eq_true hA) hh hx h
/- slices.rotateCmpFunc[azalai/api.Meet] -/
def c107 : SC := (.seq (.reg [
  ⟨some 12, .mv (.t 2), none, []⟩,
  ⟨some 13, .mv (.t 1), none, []⟩,
  ⟨some 14, .bin .sub (.t 12) (.t 13), none, []⟩,
  ⟨some 10, .mv (.t 14), none, []⟩])
  (.seq (.reg [
  ⟨some 15, .mv (.t 3), none, []⟩,
  ⟨some 16, .mv (.t 2), none, []⟩,
  ⟨some 17, .bin .sub (.t 15) (.t 16), none, []⟩,
  ⟨some 11, .mv (.t 17), none, []⟩])
  (.seq (.block 0 (.loop (.seq (.seq (.reg [
    ⟨some 18, .mv (.t 10), none, []⟩,
    ⟨some 19, .mv (.t 11), none, []⟩,
    ⟨some 20, .bin .neq (.t 18) (.t 19), none, []⟩])
    (.cond (.t 20)
    .skip
    (.exit 0)))
    (.block 1 (.seq (.reg [
     ⟨some 21, .mv (.t 10), none, []⟩,
     ⟨some 22, .mv (.t 11), none, []⟩,
     ⟨some 23, .bin .gtr (.t 21) (.t 22), none, []⟩])
     (.cond (.t 23)
     (.seq (.reg [
      ⟨some 24, .mv (.t 0), none, []⟩,
      ⟨some 25, .mv (.t 2), none, []⟩,
      ⟨some 26, .mv (.t 10), none, []⟩,
      ⟨some 27, .bin .sub (.t 25) (.t 26), none, []⟩,
      ⟨some 28, .mv (.t 2), none, []⟩,
      ⟨some 29, .mv (.t 11), none, []⟩,
      ⟨some 30, .mv (.t 4), none, []⟩,
      ⟨some 31, .callm 108 [.t 24, .t 27, .t 28, .t 29, .t 30], none, []⟩])
      (.reg [
      ⟨some 32, .mv (.t 10), none, []⟩,
      ⟨some 33, .mv (.t 11), none, []⟩,
      ⟨some 34, .bin .sub (.t 32) (.t 33), none, []⟩,
      ⟨some 10, .mv (.t 34), none, []⟩]))
     (.seq (.reg [
      ⟨some 35, .mv (.t 0), none, []⟩,
      ⟨some 36, .mv (.t 2), none, []⟩,
      ⟨some 37, .mv (.t 10), none, []⟩,
      ⟨some 38, .bin .sub (.t 36) (.t 37), none, []⟩,
      ⟨some 39, .mv (.t 2), none, []⟩,
      ⟨some 40, .mv (.t 11), none, []⟩,
      ⟨some 41, .bin .add (.t 39) (.t 40), none, []⟩,
      ⟨some 42, .mv (.t 10), none, []⟩,
      ⟨some 43, .bin .sub (.t 41) (.t 42), none, []⟩,
      ⟨some 44, .mv (.t 10), none, []⟩,
      ⟨some 45, .mv (.t 4), none, []⟩,
      ⟨some 46, .callm 108 [.t 35, .t 38, .t 43, .t 44, .t 45], none, []⟩])
      (.reg [
      ⟨some 47, .mv (.t 11), none, []⟩,
      ⟨some 48, .mv (.t 10), none, []⟩,
      ⟨some 49, .bin .sub (.t 47) (.t 48), none, []⟩,
      ⟨some 11, .mv (.t 49), none, []⟩]))))))))
  (.reg [
  ⟨some 50, .mv (.t 0), none, []⟩,
  ⟨some 51, .mv (.t 2), none, []⟩,
  ⟨some 52, .mv (.t 10), none, []⟩,
  ⟨some 53, .bin .sub (.t 51) (.t 52), none, []⟩,
  ⟨some 54, .mv (.t 2), none, []⟩,
  ⟨some 55, .mv (.t 10), none, []⟩,
  ⟨some 56, .mv (.t 4), none, []⟩,
  ⟨some 57, .callm 108 [.t 50, .t 53, .t 54, .t 55, .t 56], none, []⟩]))))
def r107 : List RV := []
theorem n107 : Try.f107.ntmps = 58 := by kernel_rfl
theorem b107 : bodyB Try.prog 107 = true := by kernel_rfl
theorem c107_ok : cmpC Try.prog c107 ((Try.f107.body).getD .skip) = true := by kernel_rfl
theorem r107_ok : cmpR Try.prog r107 Try.f107.results.toList = true := by kernel_rfl
theorem t107 {args : List SV} {res : SV} (ka : KFL args) (kr : KF res) (h : sx Try.prog Y0 0 c107 (st0 args 58) (retK r107 res)) (hA : Nat.ble args.length 58 = true := by rfl) : Ct Try.prog 107 args res := ct_intro Try.func107 rfl b107 c107_ok r107_ok n107 (Nat.le_of_ble_eq_true hA) ka kr h
theorem y107 {Y : Hd} {n0 : Nat} {hp0 : List (Nat × HB)} {args : List SV} {Post : Ot → Prop} (h : sx Try.prog Y n0 c107 ⟨enum 0 args, hp0, n0, 58, []⟩ (retM r107 Post)) (hA : Nat.ble args.length 58 = true := by rfl) : CtY Try.prog Y 107 hp0 n0 args Post := cty_intro Try.func107 rfl c107_ok r107_ok n107 (Nat.le_of_ble_eq_true hA) h
theorem m107 {n0 : Nat} {hp0 : List (Nat × HB)} {args : List SV} {Post : Ot → Prop} (hh : hpb n0 hp0) (hx : ∀ o, Post o → KX o.res ∧ KXP o.hp) (h : sx Try.prog Y0 n0 c107 ⟨enum 0 args, hp0, n0, 58, []⟩ (retM r107 fun o => ∃ o', Post o' ∧ EntO n0 o o')) (hA : Nat.ble args.length 58 = true := by rfl) : CtM Try.prog 107 hp0 n0 args Post := ctm_intro Try.func107 rfl b107 c107_ok r107_ok n107 (Nat.le_of_ble_eq_true hA) hh hx h
/- slices.swapRangeCmpFunc[azalai/api.Meet] -/
def c108 : SC := (.seq (.reg [
  ⟨some 10, .mv (.c (.int .i64 0)), none, []⟩])
  (.block 0 (.loop (.seq (.seq (.reg [
    ⟨some 11, .mv (.t 10), none, []⟩,
    ⟨some 12, .mv (.t 3), none, []⟩,
    ⟨some 13, .bin .lss (.t 11) (.t 12), none, []⟩])
    (.cond (.t 13)
    .skip
    (.exit 0)))
    (.seq (.block 1 (.regd [0, 1, 2, 3, 8, 9, 10, 11, 12, 13, 14, 15, 16, 17, 18, 19, 20, 4, 5, 6, 7, 21, 22, 23] [
     .op ⟨some 16, .mv (.t 0), none, []⟩,
     .op ⟨some 17, .mv (.t 1), none, []⟩,
     .op ⟨some 18, .mv (.t 10), none, []⟩,
     .op ⟨some 19, .bin .add (.t 17) (.t 18), none, [1, 2]⟩,
     .op ⟨some 24, .mv (.t 0), none, []⟩,
     .op ⟨some 25, .mv (.t 2), none, []⟩,
     .op ⟨some 26, .mv (.t 10), none, []⟩,
     .op ⟨some 27, .bin .add (.t 25) (.t 26), none, [9, 10]⟩,
     .op ⟨some 28, .ixs (.t 24) (.t 27) 4, none, [8, 11]⟩,
     .op ⟨some 29, .ld (.t 28) 4 true, none, [12]⟩,
     .op ⟨some 30, .mv (.t 0), none, []⟩,
     .op ⟨some 31, .mv (.t 1), none, []⟩,
     .op ⟨some 32, .mv (.t 10), none, []⟩,
     .op ⟨some 33, .bin .add (.t 31) (.t 32), none, [15, 16]⟩,
     .op ⟨some 34, .ixs (.t 30) (.t 33) 4, none, [14, 17]⟩,
     .op ⟨some 35, .ld (.t 34) 4 true, none, [18]⟩,
     .op ⟨some 36, .ixs (.t 16) (.t 19) 4, none, [0, 1, 2, 3, 8, 9, 10, 11, 12, 13, 19]⟩,
     .hide (.t 36),
     .op ⟨some 20, .mv (.t 0), none, []⟩,
     .op ⟨some 21, .mv (.t 2), none, []⟩,
     .op ⟨some 22, .mv (.t 10), none, []⟩,
     .op ⟨some 23, .bin .add (.t 21) (.t 22), none, [5, 6]⟩] 0 1 [
     ⟨none, .st (.t 36) (.t 29) 4, none, [0, 1, 2, 3, 8, 9, 10, 11, 12, 13, 19, 20]⟩,
     ⟨some 37, .ixs (.t 20) (.t 23) 4, none, [0, 1, 2, 3, 4, 5, 6, 7, 8, 9, 10, 11, 12, 13, 14, 15, 16, 17, 18, 19, 20, 21]⟩,
     ⟨none, .st (.t 37) (.t 35) 4, none, [0, 1, 2, 3, 4, 5, 6, 7, 8, 9, 10, 11, 12, 13, 14, 15, 16, 17, 18, 19, 20, 21, 22]⟩]))
    (.reg [
    ⟨some 14, .mv (.t 10), none, []⟩,
    ⟨some 15, .bin .add (.t 14) (.c (.int .i64 1)), none, []⟩,
    ⟨some 10, .mv (.t 15), none, []⟩]))))))
def r108 : List RV := []
theorem n108 : Try.f108.ntmps = 38 := by kernel_rfl
theorem b108 : bodyB Try.prog 108 = true := by kernel_rfl
theorem c108_ok : cmpC Try.prog c108 ((Try.f108.body).getD .skip) = true := by kernel_rfl
theorem r108_ok : cmpR Try.prog r108 Try.f108.results.toList = true := by kernel_rfl
theorem t108 {args : List SV} {res : SV} (ka : KFL args) (kr : KF res) (h : sx Try.prog Y0 0 c108 (st0 args 38) (retK r108 res)) (hA : Nat.ble args.length 38 = true := by rfl) : Ct Try.prog 108 args res := ct_intro Try.func108 rfl b108 c108_ok r108_ok n108 (Nat.le_of_ble_eq_true hA) ka kr h
theorem y108 {Y : Hd} {n0 : Nat} {hp0 : List (Nat × HB)} {args : List SV} {Post : Ot → Prop} (h : sx Try.prog Y n0 c108 ⟨enum 0 args, hp0, n0, 38, []⟩ (retM r108 Post)) (hA : Nat.ble args.length 38 = true := by rfl) : CtY Try.prog Y 108 hp0 n0 args Post := cty_intro Try.func108 rfl c108_ok r108_ok n108 (Nat.le_of_ble_eq_true hA) h
theorem m108 {n0 : Nat} {hp0 : List (Nat × HB)} {args : List SV} {Post : Ot → Prop} (hh : hpb n0 hp0) (hx : ∀ o, Post o → KX o.res ∧ KXP o.hp) (h : sx Try.prog Y0 n0 c108 ⟨enum 0 args, hp0, n0, 38, []⟩ (retM r108 fun o => ∃ o', Post o' ∧ EntO n0 o o')) (hA : Nat.ble args.length 38 = true := by rfl) : CtM Try.prog 108 hp0 n0 args Post := ctm_intro Try.func108 rfl b108 c108_ok r108_ok n108 (Nat.le_of_ble_eq_true hA) hh hx h
end Go.Proofs.Ytnlfjchbhgikaaa
