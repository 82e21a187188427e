import Derived.Test.YtkjldleglbbkeaaSb
import Derived.Test.YtkjldleglbbkeaaProg
set_option maxRecDepth 100000
namespace Go.Proofs.Ytkjldleglbbkeaa
open Go Go.Sx
/- azalai/azalailaw03.WayWells -/
def c3 : SC := (.seq (.reg [
  ⟨some 6, .box (.t 0) 0 25, none, []⟩,
  ⟨some 12, .mv (.c (.bool false)), none, []⟩])
  (.seq (.seq (.reg [
  ⟨some 25, .ld (.t 6) 2 true, none, []⟩,
  ⟨some 26, .call 16 [.t 25], none, []⟩,
  ⟨some 27, .mv (.t 26), none, []⟩,
  ⟨some 28, .mv (.t 2), some (27, false), []⟩,
  ⟨some 29, .len (.t 28), some (27, false), []⟩,
  ⟨some 30, .bin .gtr (.t 29) (.c (.int .i64 250)), some (27, false), []⟩,
  ⟨some 31, .pick (.t 27) (.c (.bool true)) (.t 30), none, []⟩])
  (.cond (.t 31)
  (.seq (.reg [
   ⟨some 12, .mv (.c (.bool true)), none, []⟩])
   .ret)
  .skip))
  (.seq (.reg [
  ⟨some 32, .bsl 3 40 [], none, []⟩,
  ⟨some 33, .mv (.t 2), none, []⟩,
  ⟨some 34, .app 3 24 40 (.t 32) (.t 33), none, []⟩,
  ⟨some 13, .mv (.t 34), none, []⟩])
  (.seq (.reg [
  ⟨some 36, .ld (.t 6) 2 true, none, []⟩,
  ⟨some 37, .mv (.t 1), none, []⟩,
  ⟨some 38, .mv (.t 13), none, []⟩,
  ⟨some 39, .mv (.t 3), none, []⟩,
  ⟨some 40, .call 17 [.t 36, .t 37, .t 38, .t 39], none, []⟩,
  ⟨some 35, .mv (.t 40), none, []⟩,
  ⟨some 41, .ext (.t 35) 0, none, []⟩,
  ⟨some 42, .ext (.t 35) 1, none, []⟩,
  ⟨some 43, .ext (.t 35) 2, none, []⟩,
  ⟨some 14, .alloc [.int .i64 0, .int .i64 0] 29, none, []⟩,
  ⟨none, .st (.t 14) (.t 41) 2, none, []⟩,
  ⟨some 15, .mv (.t 42), none, []⟩,
  ⟨some 16, .mv (.t 43), none, []⟩])
  (.seq (.reg [
  ⟨some 45, .ld (.t 6) 2 true, none, []⟩,
  ⟨some 46, .mv (.t 1), none, []⟩,
  ⟨some 47, .mv (.t 2), none, []⟩,
  ⟨some 48, .mv (.t 3), none, []⟩,
  ⟨some 49, .call 18 [.t 45, .t 46, .t 47, .t 48], none, []⟩,
  ⟨some 44, .mv (.t 49), none, []⟩,
  ⟨some 50, .ext (.t 44) 0, none, []⟩,
  ⟨some 51, .ext (.t 44) 1, none, []⟩,
  ⟨some 52, .ext (.t 44) 2, none, []⟩,
  ⟨some 17, .alloc [.int .i64 0, .int .i64 0] 29, none, []⟩,
  ⟨none, .st (.t 17) (.t 50) 2, none, []⟩,
  ⟨some 18, .mv (.t 51), none, []⟩,
  ⟨some 19, .mv (.t 52), none, []⟩])
  (.seq (.reg [
  ⟨some 54, .ld (.t 6) 2 true, none, []⟩,
  ⟨some 55, .mv (.t 1), none, []⟩,
  ⟨some 56, .mv (.t 4), none, []⟩,
  ⟨some 57, .mv (.t 5), none, []⟩,
  ⟨some 58, .call 19 [.t 54, .t 55, .t 56, .t 57], none, []⟩,
  ⟨some 53, .mv (.t 58), none, []⟩,
  ⟨some 59, .ext (.t 53) 0, none, []⟩,
  ⟨some 60, .ext (.t 53) 1, none, []⟩,
  ⟨some 20, .mv (.t 59), none, []⟩,
  ⟨some 21, .mv (.t 60), none, []⟩])
  (.seq (.reg [
  ⟨some 62, .ld (.t 6) 2 true, none, []⟩,
  ⟨some 63, .mv (.t 1), none, []⟩,
  ⟨some 64, .mv (.t 4), none, []⟩,
  ⟨some 65, .mv (.t 5), none, []⟩,
  ⟨some 66, .call 20 [.t 62, .t 63, .t 64, .t 65], none, []⟩,
  ⟨some 61, .mv (.t 66), none, []⟩,
  ⟨some 67, .ext (.t 61) 0, none, []⟩,
  ⟨some 68, .ext (.t 61) 1, none, []⟩,
  ⟨some 22, .mv (.t 67), none, []⟩,
  ⟨some 23, .mv (.t 68), none, []⟩])
  (.seq (.seq (.reg [
  ⟨some 69, .mv (.t 2), none, []⟩,
  ⟨some 70, .len (.t 69), none, []⟩,
  ⟨some 71, .mv (.c (.int .i64 0)), none, []⟩])
  (.block 0 (.loop (.seq (.reg [
    ⟨some 72, .bin .lss (.t 71) (.t 70), none, []⟩])
    (.seq (.cond (.t 72)
    .skip
    (.exit 0))
    (.seq (.block 1 (.seq (.reg [
     ⟨some 73, .mv (.t 71), none, []⟩,
     ⟨some 24, .mv (.t 73), none, []⟩])
     (.seq (.regd [0, 1, 2, 3, 4, 5, 6, 7, 8] 9 [
     ⟨some 74, .mv (.t 13), none, []⟩,
     ⟨some 75, .mv (.t 24), none, []⟩,
     ⟨some 76, .ixs (.t 74) (.t 75) 3, none, [0, 1]⟩,
     ⟨some 77, .ld (.t 76) 3 true, none, [2]⟩,
     ⟨some 78, .mv (.t 2), none, []⟩,
     ⟨some 79, .mv (.t 24), none, []⟩,
     ⟨some 80, .ixs (.t 78) (.t 79) 3, none, [4, 5]⟩,
     ⟨some 81, .ld (.t 80) 3 true, none, [6]⟩,
     ⟨some 82, .eqs true true [1, 1, 1] (.t 77) (.t 81), none, [3, 7]⟩])
     (.cond (.t 82)
     (.seq (.reg [
      ⟨some 12, .mv (.c (.bool false)), none, []⟩])
      .ret)
     .skip))))
    (.reg [
    ⟨some 83, .bin .add (.t 71) (.c (.int .i64 1)), none, []⟩,
    ⟨some 71, .mv (.t 83), none, []⟩])))))))
  (.seq (.reg [
  ⟨some 84, .ld (.t 14) 2 true, none, []⟩,
  ⟨some 85, .ld (.t 17) 2 true, none, []⟩,
  ⟨some 86, .eqs false true [1, 1] (.t 84) (.t 85), none, []⟩,
  ⟨some 87, .mv (.t 86), none, []⟩,
  ⟨some 88, .mv (.t 15), some (87, true), []⟩,
  ⟨some 89, .mv (.t 18), some (87, true), []⟩,
  ⟨some 90, .bin .eql (.t 88) (.t 89), some (87, true), []⟩,
  ⟨some 91, .pick (.t 87) (.t 90) (.c (.bool false)), none, []⟩,
  ⟨some 92, .mv (.t 91), none, []⟩,
  ⟨some 93, .mv (.t 16), some (92, true), []⟩,
  ⟨some 94, .mv (.t 19), some (92, true), []⟩,
  ⟨some 95, .bin .eql (.t 93) (.t 94), some (92, true), []⟩,
  ⟨some 96, .pick (.t 92) (.t 95) (.c (.bool false)), none, []⟩,
  ⟨some 97, .mv (.t 96), none, []⟩,
  ⟨some 98, .mv (.t 20), some (97, true), []⟩,
  ⟨some 99, .mv (.t 22), some (97, true), []⟩,
  ⟨some 100, .bin .eql (.t 98) (.t 99), some (97, true), []⟩,
  ⟨some 101, .pick (.t 97) (.t 100) (.c (.bool false)), none, []⟩,
  ⟨some 102, .mv (.t 101), none, []⟩,
  ⟨some 103, .mv (.t 21), some (102, true), []⟩,
  ⟨some 104, .mv (.t 23), some (102, true), []⟩,
  ⟨some 105, .bin .eql (.t 103) (.t 104), some (102, true), []⟩,
  ⟨some 106, .pick (.t 102) (.t 105) (.c (.bool false)), none, []⟩,
  ⟨some 12, .mv (.t 106), none, []⟩])
  .ret)))))))))
def r3 : List RV := [.tmp 12]
theorem n3 : Try.f3.ntmps = 107 := by kernel_rfl
theorem b3 : bodyB Try.prog 3 = true := by kernel_rfl
theorem c3_ok : cmpC Try.prog c3 ((Try.f3.body).getD .skip) = true := by kernel_rfl
theorem r3_ok : cmpR Try.prog r3 Try.f3.results.toList = true := by kernel_rfl
theorem t3 {args : List SV} {res : SV} (ka : KFL args) (kr : KF res) (h : sx Try.prog c3 (st0 args 107) (retK r3 res)) (hA : Nat.ble args.length 107 = true := by rfl) : Ct Try.prog 3 args res := ct_intro Try.func3 rfl b3 c3_ok r3_ok n3 (Nat.le_of_ble_eq_true hA) ka kr h
/- azalai/azalairef03.Great -/
def c16 : SC := (.seq (.reg [
  ⟨some 1, .box (.t 0) 0 25, none, []⟩,
  ⟨some 2, .mv (.c (.bool false)), none, []⟩])
  (.seq (.seq (.reg [
  ⟨some 4, .addo (.t 1) 0, none, []⟩,
  ⟨some 5, .ld (.t 4) 1 false, none, []⟩,
  ⟨some 6, .len (.t 5), none, []⟩,
  ⟨some 7, .bin .gtr (.t 6) (.c (.int .i64 20)), none, []⟩,
  ⟨some 8, .mv (.t 7), none, []⟩,
  ⟨some 9, .addo (.t 1) 1, some (8, false), []⟩,
  ⟨some 10, .ld (.t 9) 1 false, some (8, false), []⟩,
  ⟨some 11, .len (.t 10), some (8, false), []⟩,
  ⟨some 12, .bin .gtr (.t 11) (.c (.int .i64 40)), some (8, false), []⟩,
  ⟨some 13, .pick (.t 8) (.c (.bool true)) (.t 12), none, []⟩])
  (.cond (.t 13)
  (.seq (.reg [
   ⟨some 2, .mv (.c (.bool true)), none, []⟩])
   .ret)
  .skip))
  (.seq (.seq (.reg [
  ⟨some 3, .mv (.c (.int .i64 0)), none, []⟩])
  (.block 0 (.loop (.seq (.seq (.reg [
    ⟨some 14, .mv (.t 3), none, []⟩,
    ⟨some 15, .addo (.t 1) 1, none, []⟩,
    ⟨some 16, .ld (.t 15) 1 false, none, []⟩,
    ⟨some 17, .len (.t 16), none, []⟩,
    ⟨some 18, .bin .lss (.t 14) (.t 17), none, []⟩])
    (.cond (.t 18)
    .skip
    (.exit 0)))
    (.seq (.block 1 (.seq (.reg [
     ⟨some 21, .addo (.t 1) 1, none, []⟩,
     ⟨some 22, .ld (.t 21) 1 false, none, []⟩,
     ⟨some 23, .mv (.t 3), none, []⟩,
     ⟨some 24, .ixs (.t 22) (.t 23) 5, none, []⟩,
     ⟨some 25, .addo (.t 24) 4, none, []⟩,
     ⟨some 26, .ld (.t 25) 1 false, none, []⟩,
     ⟨some 27, .len (.t 26), none, []⟩,
     ⟨some 28, .bin .gtr (.t 27) (.c (.int .i64 20)), none, []⟩])
     (.cond (.t 28)
     (.seq (.reg [
      ⟨some 2, .mv (.c (.bool true)), none, []⟩])
      .ret)
     .skip)))
    (.reg [
    ⟨some 19, .mv (.t 3), none, []⟩,
    ⟨some 20, .bin .add (.t 19) (.c (.int .i64 1)), none, []⟩,
    ⟨some 3, .mv (.t 20), none, []⟩]))))))
  (.seq (.reg [
  ⟨some 2, .mv (.c (.bool false)), none, []⟩])
  .ret))))
def r16 : List RV := [.tmp 2]
theorem n16 : Try.f16.ntmps = 29 := by kernel_rfl
theorem b16 : bodyB Try.prog 16 = true := by kernel_rfl
theorem c16_ok : cmpC Try.prog c16 ((Try.f16.body).getD .skip) = true := by kernel_rfl
theorem r16_ok : cmpR Try.prog r16 Try.f16.results.toList = true := by kernel_rfl
theorem t16 {args : List SV} {res : SV} (ka : KFL args) (kr : KF res) (h : sx Try.prog c16 (st0 args 29) (retK r16 res)) (hA : Nat.ble args.length 29 = true := by rfl) : Ct Try.prog 16 args res := ct_intro Try.func16 rfl b16 c16_ok r16_ok n16 (Nat.le_of_ble_eq_true hA) ka kr h
/- azalai/way.Water -/
def c17 : SC := (.seq (.reg [
  ⟨some 4, .box (.t 0) 0 25, none, []⟩,
  ⟨some 8, .alloc [.int .i64 0, .int .i64 0] 29, none, []⟩,
  ⟨some 9, .mv (.c (.int .i64 0)), none, []⟩,
  ⟨some 10, .mv (.c (.int .i64 0)), none, []⟩])
  (.seq (.seq (.reg [
  ⟨some 20, .ld (.t 4) 2 true, none, []⟩,
  ⟨some 21, .call 26 [.t 20], none, []⟩,
  ⟨some 11, .mv (.t 21), none, []⟩])
  (.block 0 (.seq (.reg [
   ⟨some 23, .mv (.t 11), none, []⟩,
   ⟨some 24, .bin .neq (.t 23) (.c (.int .i64 0)), none, []⟩,
   ⟨some 22, .mv (.t 24), none, []⟩])
   (.cond (.t 22)
   (.seq (.reg [
    ⟨some 25, .ld (.t 8) 2 true, none, []⟩,
    ⟨some 26, .mv (.t 11), none, []⟩,
    ⟨none, .st (.t 8) (.t 25) 2, none, []⟩,
    ⟨some 9, .mv (.c (.int .i64 0)), none, []⟩,
    ⟨some 10, .mv (.t 26), none, []⟩])
    .ret)
   (.seq (.reg [
    ⟨some 28, .addo (.t 4) 0, none, []⟩,
    ⟨some 29, .ld (.t 28) 1 false, none, []⟩,
    ⟨some 30, .len (.t 29), none, []⟩,
    ⟨some 31, .bin .sub (.t 30) (.c (.int .i64 1)), none, []⟩,
    ⟨some 32, .mv (.t 1), none, []⟩,
    ⟨some 33, .bsl 1 3 [.t 32], none, []⟩,
    ⟨some 34, .call 58 [.c (.int .i64 0), .t 31, .t 33], none, []⟩,
    ⟨some 35, .un .not (.t 34), none, []⟩,
    ⟨some 36, .mv (.t 35), none, []⟩,
    ⟨some 37, .mv (.t 3), some (36, false), []⟩,
    ⟨some 38, .bsl 1 3 [.t 37], some (36, false), []⟩,
    ⟨some 39, .call 58 [.c (.int .i64 0), .c (.int .i64 100000), .t 38], some (36, false), []⟩,
    ⟨some 40, .un .not (.t 39), some (36, false), []⟩,
    ⟨some 41, .pick (.t 36) (.c (.bool true)) (.t 40), none, []⟩,
    ⟨some 27, .mv (.t 41), none, []⟩])
    (.cond (.t 27)
    (.seq (.reg [
     ⟨some 42, .ld (.t 8) 2 true, none, []⟩,
     ⟨none, .st (.t 8) (.t 42) 2, none, []⟩,
     ⟨some 9, .mv (.c (.int .i64 0)), none, []⟩,
     ⟨some 10, .mv (.c (.int .i64 2)), none, []⟩])
     .ret)
    (.seq (.reg [
     ⟨some 44, .mv (.t 2), none, []⟩,
     ⟨some 45, .len (.t 44), none, []⟩,
     ⟨some 46, .bin .gtr (.t 45) (.c (.int .i64 200)), none, []⟩,
     ⟨some 43, .mv (.t 46), none, []⟩])
     (.cond (.t 43)
     (.seq (.reg [
      ⟨some 47, .ld (.t 8) 2 true, none, []⟩,
      ⟨none, .st (.t 8) (.t 47) 2, none, []⟩,
      ⟨some 9, .mv (.c (.int .i64 0)), none, []⟩,
      ⟨some 10, .mv (.c (.int .i64 4)), none, []⟩])
      .ret)
     .skip))))))))
  (.seq (.reg [
  ⟨some 12, .mv (.c (.int .i64 0)), none, []⟩])
  (.seq (.seq (.reg [
  ⟨some 48, .mv (.t 2), none, []⟩,
  ⟨some 49, .len (.t 48), none, []⟩,
  ⟨some 50, .mv (.c (.int .i64 0)), none, []⟩])
  (.block 1 (.loop (.seq (.reg [
    ⟨some 51, .bin .lss (.t 50) (.t 49), none, []⟩])
    (.seq (.cond (.t 51)
    .skip
    (.exit 1))
    (.seq (.block 2 (.seq (.reg [
     ⟨some 52, .ixs (.t 48) (.t 50) 3, none, []⟩,
     ⟨some 53, .ld (.t 52) 3 true, none, []⟩,
     ⟨some 14, .alloc [.int .i64 0, .int .i64 0, .int .i64 0] 40, none, []⟩,
     ⟨none, .st (.t 14) (.t 53) 3, none, []⟩])
     (.seq (.seq (.reg [
     ⟨some 54, .addo (.t 4) 0, none, []⟩,
     ⟨some 55, .ld (.t 54) 1 false, none, []⟩,
     ⟨some 56, .len (.t 55), none, []⟩,
     ⟨some 57, .bin .sub (.t 56) (.c (.int .i64 1)), none, []⟩,
     ⟨some 58, .addo (.t 14) 0, none, []⟩,
     ⟨some 59, .ld (.t 58) 1 false, none, []⟩,
     ⟨some 60, .bsl 1 3 [.t 59], none, []⟩,
     ⟨some 61, .call 58 [.c (.int .i64 0), .t 57, .t 60], none, []⟩,
     ⟨some 62, .un .not (.t 61), none, []⟩,
     ⟨some 63, .mv (.t 62), none, []⟩,
     ⟨some 64, .mv (.t 12), some (63, false), []⟩,
     ⟨some 65, .addo (.t 14) 1, some (63, false), []⟩,
     ⟨some 66, .ld (.t 65) 1 false, some (63, false), []⟩,
     ⟨some 67, .bsl 1 3 [.t 66], some (63, false), []⟩,
     ⟨some 68, .call 58 [.t 64, .c (.int .i64 100000), .t 67], some (63, false), []⟩,
     ⟨some 69, .un .not (.t 68), some (63, false), []⟩,
     ⟨some 70, .pick (.t 63) (.c (.bool true)) (.t 69), none, []⟩,
     ⟨some 71, .mv (.t 70), none, []⟩,
     ⟨some 72, .addo (.t 14) 2, some (71, false), []⟩,
     ⟨some 73, .ld (.t 72) 1 false, some (71, false), []⟩,
     ⟨some 74, .bsl 1 3 [.t 73], some (71, false), []⟩,
     ⟨some 75, .call 58 [.c (.int .i64 0), .c (.int .i64 1000000000), .t 74], some (71, false), []⟩,
     ⟨some 76, .un .not (.t 75), some (71, false), []⟩,
     ⟨some 77, .pick (.t 71) (.c (.bool true)) (.t 76), none, []⟩])
     (.cond (.t 77)
     (.seq (.reg [
      ⟨some 78, .ld (.t 8) 2 true, none, []⟩,
      ⟨none, .st (.t 8) (.t 78) 2, none, []⟩,
      ⟨some 9, .mv (.c (.int .i64 0)), none, []⟩,
      ⟨some 10, .mv (.c (.int .i64 32)), none, []⟩])
      .ret)
     .skip))
     (.reg [
     ⟨some 79, .addo (.t 14) 1, none, []⟩,
     ⟨some 80, .ld (.t 79) 1 false, none, []⟩,
     ⟨some 12, .mv (.t 80), none, []⟩]))))
    (.reg [
    ⟨some 81, .bin .add (.t 50) (.c (.int .i64 1)), none, []⟩,
    ⟨some 50, .mv (.t 81), none, []⟩])))))))
  (.seq (.reg [
  ⟨some 82, .addo (.t 4) 0, none, []⟩,
  ⟨some 83, .ld (.t 82) 1 false, none, []⟩,
  ⟨some 84, .mv (.t 1), none, []⟩,
  ⟨some 85, .ixs (.t 83) (.t 84) 9, none, []⟩,
  ⟨some 86, .ld (.t 85) 9 true, none, []⟩,
  ⟨some 15, .alloc [.int .i64 0, .int .i64 0, .int .i64 0, .int .i64 0, .int .i64 0, .int .i64 0, .int .i64 0, .int .i64 0, .int .i64 0] 109, none, []⟩,
  ⟨none, .st (.t 15) (.t 86) 9, none, []⟩])
  (.seq (.reg [
  ⟨some 87, .addo (.t 15) 6, none, []⟩,
  ⟨some 88, .ld (.t 87) 2 true, none, []⟩,
  ⟨some 16, .alloc [.int .i64 0, .int .i64 0] 29, none, []⟩,
  ⟨none, .st (.t 16) (.t 88) 2, none, []⟩,
  ⟨some 17, .mv (.c (.int .i64 (-1))), none, []⟩])
  (.seq (.seq (.reg [
  ⟨some 89, .mv (.t 2), none, []⟩,
  ⟨some 90, .len (.t 89), none, []⟩,
  ⟨some 91, .mv (.c (.int .i64 0)), none, []⟩])
  (.block 3 (.loop (.seq (.reg [
    ⟨some 92, .bin .lss (.t 91) (.t 90), none, []⟩])
    (.seq (.cond (.t 92)
    .skip
    (.exit 3))
    (.seq (.block 4 (.seq (.reg [
     ⟨some 93, .mv (.t 91), none, []⟩,
     ⟨some 94, .ixs (.t 89) (.t 91) 3, none, []⟩,
     ⟨some 95, .ld (.t 94) 3 true, none, []⟩,
     ⟨some 19, .alloc [.int .i64 0, .int .i64 0, .int .i64 0] 40, none, []⟩,
     ⟨some 18, .mv (.t 93), none, []⟩,
     ⟨none, .st (.t 19) (.t 95) 3, none, []⟩])
     (.seq (.seq (.reg [
     ⟨some 96, .addo (.t 19) 0, none, []⟩,
     ⟨some 97, .ld (.t 96) 1 false, none, []⟩,
     ⟨some 98, .mv (.t 1), none, []⟩,
     ⟨some 99, .bin .neq (.t 97) (.t 98), none, []⟩,
     ⟨some 100, .mv (.t 99), none, []⟩,
     ⟨some 101, .addo (.t 19) 1, some (100, false), []⟩,
     ⟨some 102, .ld (.t 101) 1 false, some (100, false), []⟩,
     ⟨some 103, .mv (.t 3), some (100, false), []⟩,
     ⟨some 104, .bin .geq (.t 102) (.t 103), some (100, false), []⟩,
     ⟨some 105, .pick (.t 100) (.c (.bool true)) (.t 104), none, []⟩])
     (.cond (.t 105)
     (.exit 4)
     .skip))
     (.seq (.reg [
     ⟨some 106, .ld (.t 15) 9 true, none, []⟩,
     ⟨some 107, .ld (.t 16) 2 true, none, []⟩,
     ⟨some 108, .addo (.t 19) 1, none, []⟩,
     ⟨some 109, .ld (.t 108) 1 false, none, []⟩,
     ⟨some 110, .mv (.t 17), none, []⟩,
     ⟨some 111, .bin .sub (.t 109) (.t 110), none, []⟩,
     ⟨some 112, .call 59 [.t 106, .t 107, .t 111], none, []⟩,
     ⟨none, .st (.t 16) (.t 112) 2, none, []⟩])
     (.seq (.reg [
     ⟨some 113, .addo (.t 19) 1, none, []⟩,
     ⟨some 114, .ld (.t 113) 1 false, none, []⟩,
     ⟨some 17, .mv (.t 114), none, []⟩])
     (.seq (.seq (.reg [
     ⟨some 115, .addo (.t 16) 1, none, []⟩,
     ⟨some 116, .ld (.t 115) 1 false, none, []⟩,
     ⟨some 117, .addo (.t 19) 2, none, []⟩,
     ⟨some 118, .ld (.t 117) 1 false, none, []⟩,
     ⟨some 119, .bin .lss (.t 116) (.t 118), none, []⟩])
     (.cond (.t 119)
     (.seq (.reg [
      ⟨some 120, .ld (.t 8) 2 true, none, []⟩,
      ⟨some 121, .mv (.t 18), none, []⟩,
      ⟨none, .st (.t 8) (.t 120) 2, none, []⟩,
      ⟨some 9, .mv (.t 121), none, []⟩,
      ⟨some 10, .mv (.c (.int .i64 33)), none, []⟩])
      .ret)
     .skip))
     (.reg [
     ⟨some 122, .addo (.t 16) 0, none, []⟩,
     ⟨some 123, .ld (.t 122) 1 false, none, []⟩,
     ⟨some 124, .addo (.t 19) 2, none, []⟩,
     ⟨some 125, .ld (.t 124) 1 false, none, []⟩,
     ⟨some 126, .bin .sub (.t 123) (.t 125), none, []⟩,
     ⟨some 127, .mm true [.c (.int .i64 0), .t 126], none, []⟩,
     ⟨some 128, .addo (.t 16) 1, none, []⟩,
     ⟨some 129, .ld (.t 128) 1 false, none, []⟩,
     ⟨some 130, .addo (.t 19) 2, none, []⟩,
     ⟨some 131, .ld (.t 130) 1 false, none, []⟩,
     ⟨some 132, .bin .sub (.t 129) (.t 131), none, []⟩,
     ⟨some 133, .build [.int .i64 0, .int .i64 0] [(0, 1, .t 127), (1, 1, .t 132)], none, []⟩,
     ⟨none, .st (.t 16) (.t 133) 2, none, []⟩])))))))
    (.reg [
    ⟨some 134, .bin .add (.t 91) (.c (.int .i64 1)), none, []⟩,
    ⟨some 91, .mv (.t 134), none, []⟩])))))))
  (.seq (.reg [
  ⟨some 135, .ld (.t 15) 9 true, none, []⟩,
  ⟨some 136, .ld (.t 16) 2 true, none, []⟩,
  ⟨some 137, .mv (.t 3), none, []⟩,
  ⟨some 138, .bin .sub (.t 137) (.c (.int .i64 1)), none, []⟩,
  ⟨some 139, .mv (.t 17), none, []⟩,
  ⟨some 140, .bin .sub (.t 138) (.t 139), none, []⟩,
  ⟨some 141, .call 59 [.t 135, .t 136, .t 140], none, []⟩,
  ⟨none, .st (.t 8) (.t 141) 2, none, []⟩,
  ⟨some 9, .mv (.c (.int .i64 0)), none, []⟩,
  ⟨some 10, .mv (.c (.int .i64 0)), none, []⟩])
  .ret))))))))
def r17 : List RV := [.cell 8 2 true, .tmp 9, .tmp 10]
theorem n17 : Try.f17.ntmps = 142 := by kernel_rfl
theorem b17 : bodyB Try.prog 17 = true := by kernel_rfl
theorem c17_ok : cmpC Try.prog c17 ((Try.f17.body).getD .skip) = true := by kernel_rfl
theorem r17_ok : cmpR Try.prog r17 Try.f17.results.toList = true := by kernel_rfl
theorem t17 {args : List SV} {res : SV} (ka : KFL args) (kr : KF res) (h : sx Try.prog c17 (st0 args 142) (retK r17 res)) (hA : Nat.ble args.length 142 = true := by rfl) : Ct Try.prog 17 args res := ct_intro Try.func17 rfl b17 c17_ok r17_ok n17 (Nat.le_of_ble_eq_true hA) ka kr h
/- azalai/azalairef03.Water -/
def c18 : SC := (.seq (.reg [
  ⟨some 4, .box (.t 0) 0 25, none, []⟩,
  ⟨some 8, .alloc [.int .i64 0, .int .i64 0] 29, none, []⟩,
  ⟨some 9, .mv (.c (.int .i64 0)), none, []⟩,
  ⟨some 10, .mv (.c (.int .i64 0)), none, []⟩])
  (.seq (.seq (.reg [
  ⟨some 16, .ld (.t 4) 2 true, none, []⟩,
  ⟨some 17, .call 60 [.t 16], none, []⟩,
  ⟨some 18, .un .not (.t 17), none, []⟩])
  (.cond (.t 18)
  (.seq (.reg [
   ⟨some 19, .build [.int .i64 0, .int .i64 0] [], none, []⟩,
   ⟨none, .st (.t 8) (.t 19) 2, none, []⟩,
   ⟨some 9, .mv (.c (.int .i64 0)), none, []⟩,
   ⟨some 10, .mv (.c (.int .i64 30)), none, []⟩])
   .ret)
  .skip))
  (.seq (.seq (.reg [
  ⟨some 20, .mv (.t 1), none, []⟩,
  ⟨some 21, .addo (.t 4) 0, none, []⟩,
  ⟨some 22, .ld (.t 21) 1 false, none, []⟩,
  ⟨some 23, .len (.t 22), none, []⟩,
  ⟨some 24, .bin .sub (.t 23) (.c (.int .i64 1)), none, []⟩,
  ⟨some 25, .call 61 [.t 20, .c (.int .i64 0), .t 24], none, []⟩,
  ⟨some 26, .un .not (.t 25), none, []⟩,
  ⟨some 27, .mv (.t 26), none, []⟩,
  ⟨some 28, .mv (.t 3), some (27, false), []⟩,
  ⟨some 29, .call 61 [.t 28, .c (.int .i64 0), .c (.int .i64 100000)], some (27, false), []⟩,
  ⟨some 30, .un .not (.t 29), some (27, false), []⟩,
  ⟨some 31, .pick (.t 27) (.c (.bool true)) (.t 30), none, []⟩])
  (.cond (.t 31)
  (.seq (.reg [
   ⟨some 32, .build [.int .i64 0, .int .i64 0] [], none, []⟩,
   ⟨none, .st (.t 8) (.t 32) 2, none, []⟩,
   ⟨some 9, .mv (.c (.int .i64 0)), none, []⟩,
   ⟨some 10, .mv (.c (.int .i64 2)), none, []⟩])
   .ret)
  .skip))
  (.seq (.seq (.reg [
  ⟨some 33, .mv (.t 2), none, []⟩,
  ⟨some 34, .len (.t 33), none, []⟩,
  ⟨some 35, .bin .gtr (.t 34) (.c (.int .i64 200)), none, []⟩])
  (.cond (.t 35)
  (.seq (.reg [
   ⟨some 36, .build [.int .i64 0, .int .i64 0] [], none, []⟩,
   ⟨none, .st (.t 8) (.t 36) 2, none, []⟩,
   ⟨some 9, .mv (.c (.int .i64 0)), none, []⟩,
   ⟨some 10, .mv (.c (.int .i64 4)), none, []⟩])
   .ret)
  .skip))
  (.seq (.seq (.reg [
  ⟨some 37, .ld (.t 4) 2 true, none, []⟩,
  ⟨some 38, .mv (.t 2), none, []⟩,
  ⟨some 39, .call 55 [.t 37, .t 38], none, []⟩,
  ⟨some 40, .un .not (.t 39), none, []⟩])
  (.cond (.t 40)
  (.seq (.reg [
   ⟨some 41, .build [.int .i64 0, .int .i64 0] [], none, []⟩,
   ⟨none, .st (.t 8) (.t 41) 2, none, []⟩,
   ⟨some 9, .mv (.c (.int .i64 0)), none, []⟩,
   ⟨some 10, .mv (.c (.int .i64 32)), none, []⟩])
   .ret)
  .skip))
  (.seq (.reg [
  ⟨some 42, .addo (.t 4) 0, none, []⟩,
  ⟨some 43, .ld (.t 42) 1 false, none, []⟩,
  ⟨some 44, .mv (.t 1), none, []⟩,
  ⟨some 45, .ixs (.t 43) (.t 44) 9, none, []⟩,
  ⟨some 46, .ld (.t 45) 9 true, none, []⟩,
  ⟨some 11, .alloc [.int .i64 0, .int .i64 0, .int .i64 0, .int .i64 0, .int .i64 0, .int .i64 0, .int .i64 0, .int .i64 0, .int .i64 0] 109, none, []⟩,
  ⟨none, .st (.t 11) (.t 46) 9, none, []⟩])
  (.seq (.reg [
  ⟨some 47, .addo (.t 11) 6, none, []⟩,
  ⟨some 48, .ld (.t 47) 2 true, none, []⟩,
  ⟨some 12, .alloc [.int .i64 0, .int .i64 0] 29, none, []⟩,
  ⟨none, .st (.t 12) (.t 48) 2, none, []⟩,
  ⟨some 13, .mv (.c (.int .i64 0)), none, []⟩])
  (.seq (.seq (.reg [
  ⟨some 14, .mv (.c (.int .i64 0)), none, []⟩])
  (.block 0 (.loop (.seq (.seq (.reg [
    ⟨some 49, .mv (.t 14), none, []⟩,
    ⟨some 50, .mv (.t 2), none, []⟩,
    ⟨some 51, .len (.t 50), none, []⟩,
    ⟨some 52, .bin .lss (.t 49) (.t 51), none, []⟩])
    (.cond (.t 52)
    .skip
    (.exit 0)))
    (.seq (.block 1 (.seq (.reg [
     ⟨some 55, .mv (.t 2), none, []⟩,
     ⟨some 56, .mv (.t 14), none, []⟩,
     ⟨some 57, .ixs (.t 55) (.t 56) 3, none, []⟩,
     ⟨some 58, .ld (.t 57) 3 true, none, []⟩,
     ⟨some 15, .alloc [.int .i64 0, .int .i64 0, .int .i64 0] 40, none, []⟩,
     ⟨none, .st (.t 15) (.t 58) 3, none, []⟩])
     (.seq (.seq (.reg [
     ⟨some 59, .addo (.t 15) 0, none, []⟩,
     ⟨some 60, .ld (.t 59) 1 false, none, []⟩,
     ⟨some 61, .mv (.t 1), none, []⟩,
     ⟨some 62, .bin .neq (.t 60) (.t 61), none, []⟩,
     ⟨some 63, .mv (.t 62), none, []⟩,
     ⟨some 64, .addo (.t 15) 1, some (63, false), []⟩,
     ⟨some 65, .ld (.t 64) 1 false, some (63, false), []⟩,
     ⟨some 66, .mv (.t 3), some (63, false), []⟩,
     ⟨some 67, .bin .geq (.t 65) (.t 66), some (63, false), []⟩,
     ⟨some 68, .pick (.t 63) (.c (.bool true)) (.t 67), none, []⟩])
     (.cond (.t 68)
     (.exit 1)
     .skip))
     (.seq (.reg [
     ⟨some 69, .ld (.t 11) 9 true, none, []⟩,
     ⟨some 70, .ld (.t 12) 2 true, none, []⟩,
     ⟨some 71, .addo (.t 15) 1, none, []⟩,
     ⟨some 72, .ld (.t 71) 1 false, none, []⟩,
     ⟨some 73, .bin .add (.t 72) (.c (.int .i64 1)), none, []⟩,
     ⟨some 74, .mv (.t 13), none, []⟩,
     ⟨some 75, .bin .sub (.t 73) (.t 74), none, []⟩,
     ⟨some 76, .call 62 [.t 69, .t 70, .t 75], none, []⟩,
     ⟨none, .st (.t 12) (.t 76) 2, none, []⟩])
     (.seq (.reg [
     ⟨some 77, .addo (.t 15) 1, none, []⟩,
     ⟨some 78, .ld (.t 77) 1 false, none, []⟩,
     ⟨some 79, .bin .add (.t 78) (.c (.int .i64 1)), none, []⟩,
     ⟨some 13, .mv (.t 79), none, []⟩])
     (.seq (.seq (.reg [
     ⟨some 80, .addo (.t 15) 2, none, []⟩,
     ⟨some 81, .ld (.t 80) 1 false, none, []⟩,
     ⟨some 82, .addo (.t 12) 1, none, []⟩,
     ⟨some 83, .ld (.t 82) 1 false, none, []⟩,
     ⟨some 84, .bin .gtr (.t 81) (.t 83), none, []⟩])
     (.cond (.t 84)
     (.seq (.reg [
      ⟨some 85, .build [.int .i64 0, .int .i64 0] [], none, []⟩,
      ⟨some 86, .mv (.t 14), none, []⟩,
      ⟨none, .st (.t 8) (.t 85) 2, none, []⟩,
      ⟨some 9, .mv (.t 86), none, []⟩,
      ⟨some 10, .mv (.c (.int .i64 33)), none, []⟩])
      .ret)
     .skip))
     (.reg [
     ⟨some 87, .addo (.t 12) 0, none, []⟩,
     ⟨some 88, .ld (.t 87) 1 false, none, []⟩,
     ⟨some 89, .addo (.t 15) 2, none, []⟩,
     ⟨some 90, .ld (.t 89) 1 false, none, []⟩,
     ⟨some 91, .bin .sub (.t 88) (.t 90), none, []⟩,
     ⟨some 92, .mm true [.c (.int .i64 0), .t 91], none, []⟩,
     ⟨some 93, .addo (.t 12) 1, none, []⟩,
     ⟨some 94, .ld (.t 93) 1 false, none, []⟩,
     ⟨some 95, .addo (.t 15) 2, none, []⟩,
     ⟨some 96, .ld (.t 95) 1 false, none, []⟩,
     ⟨some 97, .bin .sub (.t 94) (.t 96), none, []⟩,
     ⟨some 98, .build [.int .i64 0, .int .i64 0] [(0, 1, .t 92), (1, 1, .t 97)], none, []⟩,
     ⟨none, .st (.t 12) (.t 98) 2, none, []⟩])))))))
    (.reg [
    ⟨some 53, .mv (.t 14), none, []⟩,
    ⟨some 54, .bin .add (.t 53) (.c (.int .i64 1)), none, []⟩,
    ⟨some 14, .mv (.t 54), none, []⟩]))))))
  (.seq (.reg [
  ⟨some 99, .ld (.t 11) 9 true, none, []⟩,
  ⟨some 100, .ld (.t 12) 2 true, none, []⟩,
  ⟨some 101, .mv (.t 3), none, []⟩,
  ⟨some 102, .mv (.t 13), none, []⟩,
  ⟨some 103, .bin .sub (.t 101) (.t 102), none, []⟩,
  ⟨some 104, .call 62 [.t 99, .t 100, .t 103], none, []⟩,
  ⟨none, .st (.t 8) (.t 104) 2, none, []⟩,
  ⟨some 9, .mv (.c (.int .i64 0)), none, []⟩,
  ⟨some 10, .mv (.c (.int .i64 0)), none, []⟩])
  .ret)))))))))
def r18 : List RV := [.cell 8 2 true, .tmp 9, .tmp 10]
theorem n18 : Try.f18.ntmps = 105 := by kernel_rfl
theorem b18 : bodyB Try.prog 18 = true := by kernel_rfl
theorem c18_ok : cmpC Try.prog c18 ((Try.f18.body).getD .skip) = true := by kernel_rfl
theorem r18_ok : cmpR Try.prog r18 Try.f18.results.toList = true := by kernel_rfl
theorem t18 {args : List SV} {res : SV} (ka : KFL args) (kr : KF res) (h : sx Try.prog c18 (st0 args 105) (retK r18 res)) (hA : Nat.ble args.length 105 = true := by rfl) : Ct Try.prog 18 args res := ct_intro Try.func18 rfl b18 c18_ok r18_ok n18 (Nat.le_of_ble_eq_true hA) ka kr h
/- azalai/way.Work -/
def c19 : SC := (.seq (.reg [
  ⟨some 4, .box (.t 0) 0 25, none, []⟩,
  ⟨some 8, .mv (.c (.int .i64 0)), none, []⟩,
  ⟨some 9, .mv (.c (.int .i64 0)), none, []⟩])
  (.seq (.seq (.reg [
  ⟨some 12, .ld (.t 4) 2 true, none, []⟩,
  ⟨some 13, .call 26 [.t 12], none, []⟩,
  ⟨some 10, .mv (.t 13), none, []⟩])
  (.seq (.reg [
  ⟨some 14, .mv (.t 10), none, []⟩,
  ⟨some 15, .bin .neq (.t 14) (.c (.int .i64 0)), none, []⟩])
  (.cond (.t 15)
  (.seq (.reg [
   ⟨some 16, .mv (.t 10), none, []⟩,
   ⟨some 8, .mv (.c (.int .i64 0)), none, []⟩,
   ⟨some 9, .mv (.t 16), none, []⟩])
   .ret)
  .skip)))
  (.seq (.seq (.reg [
  ⟨some 17, .addo (.t 4) 0, none, []⟩,
  ⟨some 18, .ld (.t 17) 1 false, none, []⟩,
  ⟨some 19, .len (.t 18), none, []⟩,
  ⟨some 20, .bin .sub (.t 19) (.c (.int .i64 1)), none, []⟩,
  ⟨some 21, .mv (.t 1), none, []⟩,
  ⟨some 22, .bsl 1 3 [.t 21], none, []⟩,
  ⟨some 23, .call 58 [.c (.int .i64 0), .t 20, .t 22], none, []⟩,
  ⟨some 24, .un .not (.t 23), none, []⟩,
  ⟨some 25, .mv (.t 24), none, []⟩,
  ⟨some 26, .mv (.t 2), some (25, false), []⟩,
  ⟨some 27, .bsl 1 3 [.t 26], some (25, false), []⟩,
  ⟨some 28, .call 58 [.c (.int .i64 0), .c (.int .i64 1000000000), .t 27], some (25, false), []⟩,
  ⟨some 29, .un .not (.t 28), some (25, false), []⟩,
  ⟨some 30, .pick (.t 25) (.c (.bool true)) (.t 29), none, []⟩,
  ⟨some 31, .mv (.t 30), none, []⟩,
  ⟨some 32, .mv (.t 3), some (31, false), []⟩,
  ⟨some 33, .bsl 1 3 [.t 32], some (31, false), []⟩,
  ⟨some 34, .call 58 [.c (.int .i64 1), .c (.int .i64 100), .t 33], some (31, false), []⟩,
  ⟨some 35, .un .not (.t 34), some (31, false), []⟩,
  ⟨some 36, .pick (.t 31) (.c (.bool true)) (.t 35), none, []⟩])
  (.cond (.t 36)
  (.seq (.reg [
   ⟨some 8, .mv (.c (.int .i64 0)), none, []⟩,
   ⟨some 9, .mv (.c (.int .i64 2)), none, []⟩])
   .ret)
  .skip))
  (.seq (.reg [
  ⟨some 37, .mv (.t 3), none, []⟩,
  ⟨some 38, .bin .mul (.c (.int .i64 1000000)) (.t 37), none, []⟩,
  ⟨some 11, .mv (.t 38), none, []⟩])
  (.seq (.reg [
  ⟨some 39, .mv (.t 2), none, []⟩,
  ⟨some 40, .addo (.t 4) 0, none, []⟩,
  ⟨some 41, .ld (.t 40) 1 false, none, []⟩,
  ⟨some 42, .mv (.t 1), none, []⟩,
  ⟨some 43, .ixs (.t 41) (.t 42) 9, none, []⟩,
  ⟨some 44, .addo (.t 43) 2, none, []⟩,
  ⟨some 45, .ld (.t 44) 1 false, none, []⟩,
  ⟨some 46, .bin .mul (.t 39) (.t 45), none, []⟩,
  ⟨some 47, .mv (.t 11), none, []⟩,
  ⟨some 48, .bin .add (.t 46) (.t 47), none, []⟩,
  ⟨some 49, .bin .sub (.t 48) (.c (.int .i64 1)), none, []⟩,
  ⟨some 50, .mv (.t 11), none, []⟩,
  ⟨some 51, .div .quo (.t 49) (.t 50), none, []⟩,
  ⟨some 8, .mv (.t 51), none, []⟩,
  ⟨some 9, .mv (.c (.int .i64 0)), none, []⟩])
  .ret)))))
def r19 : List RV := [.tmp 8, .tmp 9]
theorem n19 : Try.f19.ntmps = 52 := by kernel_rfl
theorem b19 : bodyB Try.prog 19 = true := by kernel_rfl
theorem c19_ok : cmpC Try.prog c19 ((Try.f19.body).getD .skip) = true := by kernel_rfl
theorem r19_ok : cmpR Try.prog r19 Try.f19.results.toList = true := by kernel_rfl
theorem t19 {args : List SV} {res : SV} (ka : KFL args) (kr : KF res) (h : sx Try.prog c19 (st0 args 52) (retK r19 res)) (hA : Nat.ble args.length 52 = true := by rfl) : Ct Try.prog 19 args res := ct_intro Try.func19 rfl b19 c19_ok r19_ok n19 (Nat.le_of_ble_eq_true hA) ka kr h
/- azalai/azalairef03.Work -/
def c20 : SC := (.seq (.reg [
  ⟨some 4, .box (.t 0) 0 25, none, []⟩,
  ⟨some 8, .mv (.c (.int .i64 0)), none, []⟩,
  ⟨some 9, .mv (.c (.int .i64 0)), none, []⟩])
  (.seq (.seq (.reg [
  ⟨some 10, .ld (.t 4) 2 true, none, []⟩,
  ⟨some 11, .call 60 [.t 10], none, []⟩,
  ⟨some 12, .un .not (.t 11), none, []⟩])
  (.cond (.t 12)
  (.seq (.reg [
   ⟨some 8, .mv (.c (.int .i64 0)), none, []⟩,
   ⟨some 9, .mv (.c (.int .i64 30)), none, []⟩])
   .ret)
  .skip))
  (.seq (.seq (.reg [
  ⟨some 13, .mv (.t 1), none, []⟩,
  ⟨some 14, .addo (.t 4) 0, none, []⟩,
  ⟨some 15, .ld (.t 14) 1 false, none, []⟩,
  ⟨some 16, .len (.t 15), none, []⟩,
  ⟨some 17, .bin .sub (.t 16) (.c (.int .i64 1)), none, []⟩,
  ⟨some 18, .call 61 [.t 13, .c (.int .i64 0), .t 17], none, []⟩,
  ⟨some 19, .un .not (.t 18), none, []⟩,
  ⟨some 20, .mv (.t 19), none, []⟩,
  ⟨some 21, .mv (.t 2), some (20, false), []⟩,
  ⟨some 22, .call 61 [.t 21, .c (.int .i64 0), .c (.int .i64 1000000000)], some (20, false), []⟩,
  ⟨some 23, .un .not (.t 22), some (20, false), []⟩,
  ⟨some 24, .pick (.t 20) (.c (.bool true)) (.t 23), none, []⟩,
  ⟨some 25, .mv (.t 24), none, []⟩,
  ⟨some 26, .mv (.t 3), some (25, false), []⟩,
  ⟨some 27, .call 61 [.t 26, .c (.int .i64 1), .c (.int .i64 100)], some (25, false), []⟩,
  ⟨some 28, .un .not (.t 27), some (25, false), []⟩,
  ⟨some 29, .pick (.t 25) (.c (.bool true)) (.t 28), none, []⟩])
  (.cond (.t 29)
  (.seq (.reg [
   ⟨some 8, .mv (.c (.int .i64 0)), none, []⟩,
   ⟨some 9, .mv (.c (.int .i64 2)), none, []⟩])
   .ret)
  .skip))
  (.seq (.reg [
  ⟨some 30, .mv (.t 2), none, []⟩,
  ⟨some 31, .addo (.t 4) 0, none, []⟩,
  ⟨some 32, .ld (.t 31) 1 false, none, []⟩,
  ⟨some 33, .mv (.t 1), none, []⟩,
  ⟨some 34, .ixs (.t 32) (.t 33) 9, none, []⟩,
  ⟨some 35, .addo (.t 34) 2, none, []⟩,
  ⟨some 36, .ld (.t 35) 1 false, none, []⟩,
  ⟨some 37, .bin .mul (.t 30) (.t 36), none, []⟩,
  ⟨some 38, .mv (.t 3), none, []⟩,
  ⟨some 39, .bin .mul (.c (.int .i64 1000000)) (.t 38), none, []⟩,
  ⟨some 40, .bin .add (.t 37) (.t 39), none, []⟩,
  ⟨some 41, .bin .sub (.t 40) (.c (.int .i64 1)), none, []⟩,
  ⟨some 42, .mv (.t 3), none, []⟩,
  ⟨some 43, .bin .mul (.c (.int .i64 1000000)) (.t 42), none, []⟩,
  ⟨some 44, .div .quo (.t 41) (.t 43), none, []⟩,
  ⟨some 8, .mv (.t 44), none, []⟩,
  ⟨some 9, .mv (.c (.int .i64 0)), none, []⟩])
  .ret))))
def r20 : List RV := [.tmp 8, .tmp 9]
theorem n20 : Try.f20.ntmps = 45 := by kernel_rfl
theorem b20 : bodyB Try.prog 20 = true := by kernel_rfl
theorem c20_ok : cmpC Try.prog c20 ((Try.f20.body).getD .skip) = true := by kernel_rfl
theorem r20_ok : cmpR Try.prog r20 Try.f20.results.toList = true := by kernel_rfl
theorem t20 {args : List SV} {res : SV} (ka : KFL args) (kr : KF res) (h : sx Try.prog c20 (st0 args 45) (retK r20 res)) (hA : Nat.ble args.length 45 = true := by rfl) : Ct Try.prog 20 args res := ct_intro Try.func20 rfl b20 c20_ok r20_ok n20 (Nat.le_of_ble_eq_true hA) ka kr h
/- azalai/way.Check -/
def c26 : SC := (.seq (.reg [
  ⟨some 1, .box (.t 0) 0 25, none, []⟩,
  ⟨some 2, .mv (.c (.int .i64 0)), none, []⟩])
  (.seq (.reg [
  ⟨some 5, .addo (.t 1) 0, none, []⟩,
  ⟨some 6, .ld (.t 5) 1 false, none, []⟩,
  ⟨some 7, .call 71 [.t 6, .f 72], none, []⟩,
  ⟨some 8, .un .not (.t 7), none, []⟩,
  ⟨some 3, .mv (.t 8), none, []⟩])
  (.seq (.reg [
  ⟨some 9, .addo (.t 1) 1, none, []⟩,
  ⟨some 10, .ld (.t 9) 1 false, none, []⟩,
  ⟨some 11, .mkf 75 [.t 1], none, []⟩,
  ⟨some 12, .call 74 [.t 10, .t 11], none, []⟩,
  ⟨some 13, .un .not (.t 12), none, []⟩,
  ⟨some 4, .mv (.t 13), none, []⟩])
  (.seq (.seq (.reg [
  ⟨some 14, .addo (.t 1) 0, none, []⟩,
  ⟨some 15, .ld (.t 14) 1 false, none, []⟩,
  ⟨some 16, .len (.t 15), none, []⟩,
  ⟨some 17, .bsl 1 3 [.t 16], none, []⟩,
  ⟨some 18, .call 58 [.c (.int .i64 1), .c (.int .i64 12), .t 17], none, []⟩,
  ⟨some 19, .un .not (.t 18), none, []⟩,
  ⟨some 20, .mv (.t 19), none, []⟩,
  ⟨some 21, .addo (.t 1) 1, some (20, false), []⟩,
  ⟨some 22, .ld (.t 21) 1 false, some (20, false), []⟩,
  ⟨some 23, .len (.t 22), some (20, false), []⟩,
  ⟨some 24, .bin .gtr (.t 23) (.c (.int .i64 24)), some (20, false), []⟩,
  ⟨some 25, .pick (.t 20) (.c (.bool true)) (.t 24), none, []⟩,
  ⟨some 26, .mv (.t 25), none, []⟩,
  ⟨some 27, .mv (.t 3), some (26, false), []⟩,
  ⟨some 28, .un .not (.t 27), some (26, false), []⟩,
  ⟨some 29, .pick (.t 26) (.c (.bool true)) (.t 28), none, []⟩,
  ⟨some 30, .mv (.t 29), none, []⟩,
  ⟨some 31, .mv (.t 4), some (30, false), []⟩,
  ⟨some 32, .un .not (.t 31), some (30, false), []⟩,
  ⟨some 33, .pick (.t 30) (.c (.bool true)) (.t 32), none, []⟩])
  (.cond (.t 33)
  (.seq (.reg [
   ⟨some 2, .mv (.c (.int .i64 30)), none, []⟩])
   .ret)
  .skip))
  (.seq (.reg [
  ⟨some 2, .mv (.c (.int .i64 0)), none, []⟩])
  .ret)))))
def r26 : List RV := [.tmp 2]
theorem n26 : Try.f26.ntmps = 34 := by kernel_rfl
theorem b26 : bodyB Try.prog 26 = true := by kernel_rfl
theorem c26_ok : cmpC Try.prog c26 ((Try.f26.body).getD .skip) = true := by kernel_rfl
theorem r26_ok : cmpR Try.prog r26 Try.f26.results.toList = true := by kernel_rfl
theorem t26 {args : List SV} {res : SV} (ka : KFL args) (kr : KF res) (h : sx Try.prog c26 (st0 args 34) (retK r26 res)) (hA : Nat.ble args.length 34 = true := by rfl) : Ct Try.prog 26 args res := ct_intro Try.func26 rfl b26 c26_ok r26_ok n26 (Nat.le_of_ble_eq_true hA) ka kr h
/- azalai/azalairef03.Draws -/
def c55 : SC := (.seq (.reg [
  ⟨some 2, .box (.t 0) 0 25, none, []⟩,
  ⟨some 4, .mv (.c (.bool false)), none, []⟩])
  (.seq (.seq (.reg [
  ⟨some 5, .mv (.c (.int .i64 0)), none, []⟩])
  (.block 0 (.loop (.seq (.seq (.reg [
    ⟨some 7, .mv (.t 5), none, []⟩,
    ⟨some 8, .mv (.t 1), none, []⟩,
    ⟨some 9, .len (.t 8), none, []⟩,
    ⟨some 10, .bin .lss (.t 7) (.t 9), none, []⟩])
    (.cond (.t 10)
    .skip
    (.exit 0)))
    (.seq (.block 1 (.seq (.reg [
     ⟨some 13, .mv (.t 1), none, []⟩,
     ⟨some 14, .mv (.t 5), none, []⟩,
     ⟨some 15, .ixs (.t 13) (.t 14) 3, none, []⟩,
     ⟨some 16, .ld (.t 15) 3 true, none, []⟩,
     ⟨some 6, .alloc [.int .i64 0, .int .i64 0, .int .i64 0] 40, none, []⟩,
     ⟨none, .st (.t 6) (.t 16) 3, none, []⟩])
     (.seq (.regd [0, 1, 2, 3, 4, 5, 6, 7, 8, 9, 10, 11, 12, 13, 14, 15, 16, 17, 18, 19, 20, 21, 22, 23, 24, 25, 26, 27, 28, 29, 30, 31, 32, 33, 34] 35 [
     ⟨some 17, .addo (.t 6) 0, none, []⟩,
     ⟨some 18, .ld (.t 17) 1 false, none, [0]⟩,
     ⟨some 19, .addo (.t 2) 0, none, []⟩,
     ⟨some 20, .ld (.t 19) 1 false, none, [2]⟩,
     ⟨some 21, .len (.t 20), none, [3]⟩,
     ⟨some 22, .bin .sub (.t 21) (.c (.int .i64 1)), none, [4]⟩,
     ⟨some 23, .call 61 [.t 18, .c (.int .i64 0), .t 22], none, [1, 5]⟩,
     ⟨some 24, .un .not (.t 23), none, [6]⟩,
     ⟨some 25, .mv (.t 24), none, [6, 7]⟩,
     ⟨some 26, .addo (.t 6) 1, some (25, false), [8]⟩,
     ⟨some 27, .ld (.t 26) 1 false, some (25, false), [8, 9]⟩,
     ⟨some 28, .call 61 [.t 27, .c (.int .i64 0), .c (.int .i64 100000)], some (25, false), [8, 10]⟩,
     ⟨some 29, .un .not (.t 28), some (25, false), [8, 11]⟩,
     ⟨some 30, .pick (.t 25) (.c (.bool true)) (.t 29), none, [8, 12]⟩,
     ⟨some 31, .mv (.t 30), none, [11, 13]⟩,
     ⟨some 32, .addo (.t 6) 2, some (31, false), [14]⟩,
     ⟨some 33, .ld (.t 32) 1 false, some (31, false), [14, 15]⟩,
     ⟨some 34, .call 61 [.t 33, .c (.int .i64 0), .c (.int .i64 1000000000)], some (31, false), [14, 16]⟩,
     ⟨some 35, .un .not (.t 34), some (31, false), [14, 17]⟩,
     ⟨some 36, .pick (.t 31) (.c (.bool true)) (.t 35), none, [14, 18]⟩,
     ⟨some 37, .mv (.t 36), none, [17, 19]⟩,
     ⟨some 38, .mv (.t 5), some (37, false), [20]⟩,
     ⟨some 39, .bin .gtr (.t 38) (.c (.int .i64 0)), some (37, false), [20, 21]⟩,
     ⟨some 40, .mv (.t 39), some (37, false), [20, 22]⟩,
     ⟨some 41, .addo (.t 6) 1, some (40, true), [23]⟩,
     ⟨some 42, .ld (.t 41) 1 false, some (40, true), [23, 24]⟩,
     ⟨some 43, .mv (.t 1), some (40, true), [23]⟩,
     ⟨some 44, .mv (.t 5), some (40, true), [23]⟩,
     ⟨some 45, .bin .sub (.t 44) (.c (.int .i64 1)), some (40, true), [23, 27]⟩,
     ⟨some 46, .ixs (.t 43) (.t 45) 3, some (40, true), [23, 26, 28]⟩,
     ⟨some 47, .addo (.t 46) 1, some (40, true), [23, 29]⟩,
     ⟨some 48, .ld (.t 47) 1 false, some (40, true), [23, 30]⟩,
     ⟨some 49, .bin .lss (.t 42) (.t 48), some (40, true), [23, 25, 31]⟩,
     ⟨some 50, .pick (.t 40) (.t 49) (.c (.bool false)), some (37, false), [20, 23, 32]⟩,
     ⟨some 51, .pick (.t 37) (.c (.bool true)) (.t 50), none, [20, 33]⟩])
     (.cond (.t 51)
     (.seq (.reg [
      ⟨some 4, .mv (.c (.bool false)), none, []⟩])
      .ret)
     .skip))))
    (.reg [
    ⟨some 11, .mv (.t 5), none, []⟩,
    ⟨some 12, .bin .add (.t 11) (.c (.int .i64 1)), none, []⟩,
    ⟨some 5, .mv (.t 12), none, []⟩]))))))
  (.seq (.reg [
  ⟨some 4, .mv (.c (.bool true)), none, []⟩])
  .ret)))
def r55 : List RV := [.tmp 4]
theorem n55 : Try.f55.ntmps = 52 := by kernel_rfl
theorem b55 : bodyB Try.prog 55 = true := by kernel_rfl
theorem c55_ok : cmpC Try.prog c55 ((Try.f55.body).getD .skip) = true := by kernel_rfl
theorem r55_ok : cmpR Try.prog r55 Try.f55.results.toList = true := by kernel_rfl
theorem t55 {args : List SV} {res : SV} (ka : KFL args) (kr : KF res) (h : sx Try.prog c55 (st0 args 52) (retK r55 res)) (hA : Nat.ble args.length 52 = true := by rfl) : Ct Try.prog 55 args res := ct_intro Try.func55 rfl b55 c55_ok r55_ok n55 (Nat.le_of_ble_eq_true hA) ka kr h
/- azalai/way.from -/
def c58 : SC := (.seq (.reg [
  ⟨some 3, .box (.t 0) 0 3, none, []⟩,
  ⟨some 4, .box (.t 1) 0 3, none, []⟩,
  ⟨some 6, .mv (.c (.bool false)), none, []⟩])
  (.seq (.reg [
  ⟨some 7, .mv (.t 2), none, []⟩,
  ⟨some 8, .mkf 91 [.t 3, .t 4], none, []⟩,
  ⟨some 9, .call 90 [.t 7, .t 8], none, []⟩,
  ⟨some 10, .un .not (.t 9), none, []⟩,
  ⟨some 6, .mv (.t 10), none, []⟩])
  .ret))
def r58 : List RV := [.tmp 6]
theorem n58 : Try.f58.ntmps = 11 := by kernel_rfl
theorem b58 : bodyB Try.prog 58 = true := by kernel_rfl
theorem c58_ok : cmpC Try.prog c58 ((Try.f58.body).getD .skip) = true := by kernel_rfl
theorem r58_ok : cmpR Try.prog r58 Try.f58.results.toList = true := by kernel_rfl
theorem t58 {args : List SV} {res : SV} (ka : KFL args) (kr : KF res) (h : sx Try.prog c58 (st0 args 11) (retK r58 res)) (hA : Nat.ble args.length 11 = true := by rfl) : Ct Try.prog 58 args res := ct_intro Try.func58 rfl b58 c58_ok r58_ok n58 (Nat.le_of_ble_eq_true hA) ka kr h
/- azalai/way.filled -/
def c59 : SC := (.seq (.reg [
  ⟨some 3, .box (.t 0) 0 109, none, []⟩,
  ⟨some 4, .box (.t 1) 0 29, none, []⟩,
  ⟨some 6, .alloc [.int .i64 0, .int .i64 0] 29, none, []⟩])
  (.seq (.reg [
  ⟨some 7, .addo (.t 3) 5, none, []⟩,
  ⟨some 8, .ld (.t 7) 1 false, none, []⟩,
  ⟨some 9, .addo (.t 4) 0, none, []⟩,
  ⟨some 10, .ld (.t 9) 1 false, none, []⟩,
  ⟨some 11, .mv (.t 2), none, []⟩,
  ⟨some 12, .addo (.t 3) 3, none, []⟩,
  ⟨some 13, .addo (.t 12) 0, none, []⟩,
  ⟨some 14, .ld (.t 13) 1 false, none, []⟩,
  ⟨some 15, .bin .mul (.t 11) (.t 14), none, []⟩,
  ⟨some 16, .bin .add (.t 10) (.t 15), none, []⟩,
  ⟨some 17, .mm false [.t 8, .t 16], none, []⟩,
  ⟨some 18, .addo (.t 3) 5, none, []⟩,
  ⟨some 19, .ld (.t 18) 1 false, none, []⟩,
  ⟨some 20, .addo (.t 4) 1, none, []⟩,
  ⟨some 21, .ld (.t 20) 1 false, none, []⟩,
  ⟨some 22, .mv (.t 2), none, []⟩,
  ⟨some 23, .addo (.t 3) 3, none, []⟩,
  ⟨some 24, .addo (.t 23) 1, none, []⟩,
  ⟨some 25, .ld (.t 24) 1 false, none, []⟩,
  ⟨some 26, .bin .mul (.t 22) (.t 25), none, []⟩,
  ⟨some 27, .bin .add (.t 21) (.t 26), none, []⟩,
  ⟨some 28, .mm false [.t 19, .t 27], none, []⟩,
  ⟨some 29, .build [.int .i64 0, .int .i64 0] [(0, 1, .t 17), (1, 1, .t 28)], none, []⟩,
  ⟨none, .st (.t 6) (.t 29) 2, none, []⟩])
  .ret))
def r59 : List RV := [.cell 6 2 true]
theorem n59 : Try.f59.ntmps = 30 := by kernel_rfl
theorem b59 : bodyB Try.prog 59 = true := by kernel_rfl
theorem c59_ok : cmpC Try.prog c59 ((Try.f59.body).getD .skip) = true := by kernel_rfl
theorem r59_ok : cmpR Try.prog r59 Try.f59.results.toList = true := by kernel_rfl
theorem t59 {args : List SV} {res : SV} (ka : KFL args) (kr : KF res) (h : sx Try.prog c59 (st0 args 30) (retK r59 res)) (hA : Nat.ble args.length 30 = true := by rfl) : Ct Try.prog 59 args res := ct_intro Try.func59 rfl b59 c59_ok r59_ok n59 (Nat.le_of_ble_eq_true hA) ka kr h
/- azalai/azalairef03.Land -/
def c60 : SC := (.seq (.reg [
  ⟨some 1, .box (.t 0) 0 25, none, []⟩,
  ⟨some 2, .mv (.c (.bool false)), none, []⟩])
  (.seq (.seq (.reg [
  ⟨some 10, .addo (.t 1) 0, none, []⟩,
  ⟨some 11, .ld (.t 10) 1 false, none, []⟩,
  ⟨some 12, .len (.t 11), none, []⟩,
  ⟨some 13, .call 61 [.t 12, .c (.int .i64 1), .c (.int .i64 12)], none, []⟩,
  ⟨some 14, .un .not (.t 13), none, []⟩,
  ⟨some 15, .mv (.t 14), none, []⟩,
  ⟨some 16, .addo (.t 1) 1, some (15, false), []⟩,
  ⟨some 17, .ld (.t 16) 1 false, some (15, false), []⟩,
  ⟨some 18, .len (.t 17), some (15, false), []⟩,
  ⟨some 19, .bin .gtr (.t 18) (.c (.int .i64 24)), some (15, false), []⟩,
  ⟨some 20, .pick (.t 15) (.c (.bool true)) (.t 19), none, []⟩])
  (.cond (.t 20)
  (.seq (.reg [
   ⟨some 2, .mv (.c (.bool false)), none, []⟩])
   .ret)
  .skip))
  (.seq (.seq (.reg [
  ⟨some 3, .mv (.c (.int .i64 0)), none, []⟩])
  (.block 0 (.loop (.seq (.seq (.reg [
    ⟨some 21, .mv (.t 3), none, []⟩,
    ⟨some 22, .addo (.t 1) 0, none, []⟩,
    ⟨some 23, .ld (.t 22) 1 false, none, []⟩,
    ⟨some 24, .len (.t 23), none, []⟩,
    ⟨some 25, .bin .lss (.t 21) (.t 24), none, []⟩])
    (.cond (.t 25)
    .skip
    (.exit 0)))
    (.seq (.block 1 (.seq (.reg [
     ⟨some 28, .addo (.t 1) 0, none, []⟩,
     ⟨some 29, .ld (.t 28) 1 false, none, []⟩,
     ⟨some 30, .mv (.t 3), none, []⟩,
     ⟨some 31, .ixs (.t 29) (.t 30) 9, none, []⟩,
     ⟨some 32, .ld (.t 31) 9 true, none, []⟩,
     ⟨some 4, .alloc [.int .i64 0, .int .i64 0, .int .i64 0, .int .i64 0, .int .i64 0, .int .i64 0, .int .i64 0, .int .i64 0, .int .i64 0] 109, none, []⟩,
     ⟨none, .st (.t 4) (.t 32) 9, none, []⟩])
     (.seq (.reg [
     ⟨some 33, .addo (.t 4) 0, none, []⟩,
     ⟨some 34, .ld (.t 33) 1 false, none, []⟩,
     ⟨some 35, .call 61 [.t 34, .c (.int .i64 (-10000000)), .c (.int .i64 10000000)], none, []⟩,
     ⟨some 36, .un .not (.t 35), none, []⟩,
     ⟨some 37, .mv (.t 36), none, []⟩,
     ⟨some 38, .addo (.t 4) 1, some (37, false), []⟩,
     ⟨some 39, .ld (.t 38) 1 false, some (37, false), []⟩,
     ⟨some 40, .call 61 [.t 39, .c (.int .i64 (-10000000)), .c (.int .i64 10000000)], some (37, false), []⟩,
     ⟨some 41, .un .not (.t 40), some (37, false), []⟩,
     ⟨some 42, .pick (.t 37) (.c (.bool true)) (.t 41), none, []⟩,
     ⟨some 43, .mv (.t 42), none, []⟩,
     ⟨some 44, .addo (.t 4) 2, some (43, false), []⟩,
     ⟨some 45, .ld (.t 44) 1 false, some (43, false), []⟩,
     ⟨some 46, .call 61 [.t 45, .c (.int .i64 0), .c (.int .i64 200)], some (43, false), []⟩,
     ⟨some 47, .un .not (.t 46), some (43, false), []⟩,
     ⟨some 48, .pick (.t 43) (.c (.bool true)) (.t 47), none, []⟩,
     ⟨some 49, .mv (.t 48), none, []⟩,
     ⟨some 50, .addo (.t 4) 3, some (49, false), []⟩,
     ⟨some 51, .ld (.t 50) 2 true, some (49, false), []⟩,
     ⟨some 52, .call 92 [.t 51, .c (.int .i64 0), .c (.int .i64 10000000)], some (49, false), []⟩,
     ⟨some 53, .un .not (.t 52), some (49, false), []⟩,
     ⟨some 54, .pick (.t 49) (.c (.bool true)) (.t 53), none, []⟩,
     ⟨some 55, .mv (.t 54), none, []⟩,
     ⟨some 56, .addo (.t 4) 5, some (55, false), []⟩,
     ⟨some 57, .ld (.t 56) 1 false, some (55, false), []⟩,
     ⟨some 58, .call 61 [.t 57, .c (.int .i64 0), .c (.int .i64 1000000000)], some (55, false), []⟩,
     ⟨some 59, .un .not (.t 58), some (55, false), []⟩,
     ⟨some 60, .pick (.t 55) (.c (.bool true)) (.t 59), none, []⟩,
     ⟨some 61, .mv (.t 60), none, []⟩,
     ⟨some 62, .addo (.t 4) 6, some (61, false), []⟩,
     ⟨some 63, .ld (.t 62) 2 true, some (61, false), []⟩,
     ⟨some 64, .addo (.t 4) 5, some (61, false), []⟩,
     ⟨some 65, .ld (.t 64) 1 false, some (61, false), []⟩,
     ⟨some 66, .call 92 [.t 63, .c (.int .i64 0), .t 65], some (61, false), []⟩,
     ⟨some 67, .un .not (.t 66), some (61, false), []⟩,
     ⟨some 68, .pick (.t 61) (.c (.bool true)) (.t 67), none, []⟩,
     ⟨some 69, .mv (.t 68), none, []⟩,
     ⟨some 70, .addo (.t 4) 8, some (69, false), []⟩,
     ⟨some 71, .ld (.t 70) 1 false, some (69, false), []⟩,
     ⟨some 72, .call 61 [.t 71, .c (.int .i64 0), .c (.int .i64 9999)], some (69, false), []⟩,
     ⟨some 73, .un .not (.t 72), some (69, false), []⟩,
     ⟨some 74, .pick (.t 69) (.c (.bool true)) (.t 73), none, []⟩])
     (.cond (.t 74)
     (.seq (.reg [
      ⟨some 2, .mv (.c (.bool false)), none, []⟩])
      .ret)
     .skip))))
    (.reg [
    ⟨some 26, .mv (.t 3), none, []⟩,
    ⟨some 27, .bin .add (.t 26) (.c (.int .i64 1)), none, []⟩,
    ⟨some 3, .mv (.t 27), none, []⟩]))))))
  (.seq (.seq (.reg [
  ⟨some 5, .mv (.c (.int .i64 0)), none, []⟩])
  (.block 2 (.loop (.seq (.seq (.reg [
    ⟨some 75, .mv (.t 5), none, []⟩,
    ⟨some 76, .addo (.t 1) 1, none, []⟩,
    ⟨some 77, .ld (.t 76) 1 false, none, []⟩,
    ⟨some 78, .len (.t 77), none, []⟩,
    ⟨some 79, .bin .lss (.t 75) (.t 78), none, []⟩])
    (.cond (.t 79)
    .skip
    (.exit 2)))
    (.seq (.block 3 (.seq (.reg [
     ⟨some 82, .addo (.t 1) 1, none, []⟩,
     ⟨some 83, .ld (.t 82) 1 false, none, []⟩,
     ⟨some 84, .mv (.t 5), none, []⟩,
     ⟨some 85, .ixs (.t 83) (.t 84) 5, none, []⟩,
     ⟨some 86, .ld (.t 85) 5 true, none, []⟩,
     ⟨some 6, .alloc [.int .i64 0, .int .i64 0, .int .i64 0, .int .i64 0, .slice none 0 0] 86, none, []⟩,
     ⟨none, .st (.t 6) (.t 86) 5, none, []⟩])
     (.seq (.seq (.reg [
     ⟨some 87, .addo (.t 6) 0, none, []⟩,
     ⟨some 88, .ld (.t 87) 1 false, none, []⟩,
     ⟨some 89, .addo (.t 1) 0, none, []⟩,
     ⟨some 90, .ld (.t 89) 1 false, none, []⟩,
     ⟨some 91, .len (.t 90), none, []⟩,
     ⟨some 92, .bin .sub (.t 91) (.c (.int .i64 1)), none, []⟩,
     ⟨some 93, .call 61 [.t 88, .c (.int .i64 0), .t 92], none, []⟩,
     ⟨some 94, .un .not (.t 93), none, []⟩,
     ⟨some 95, .mv (.t 94), none, []⟩,
     ⟨some 96, .addo (.t 6) 1, some (95, false), []⟩,
     ⟨some 97, .ld (.t 96) 1 false, some (95, false), []⟩,
     ⟨some 98, .addo (.t 1) 0, some (95, false), []⟩,
     ⟨some 99, .ld (.t 98) 1 false, some (95, false), []⟩,
     ⟨some 100, .len (.t 99), some (95, false), []⟩,
     ⟨some 101, .bin .sub (.t 100) (.c (.int .i64 1)), some (95, false), []⟩,
     ⟨some 102, .call 61 [.t 97, .c (.int .i64 0), .t 101], some (95, false), []⟩,
     ⟨some 103, .un .not (.t 102), some (95, false), []⟩,
     ⟨some 104, .pick (.t 95) (.c (.bool true)) (.t 103), none, []⟩,
     ⟨some 105, .mv (.t 104), none, []⟩,
     ⟨some 106, .addo (.t 6) 0, some (105, false), []⟩,
     ⟨some 107, .ld (.t 106) 1 false, some (105, false), []⟩,
     ⟨some 108, .addo (.t 6) 1, some (105, false), []⟩,
     ⟨some 109, .ld (.t 108) 1 false, some (105, false), []⟩,
     ⟨some 110, .bin .eql (.t 107) (.t 109), some (105, false), []⟩,
     ⟨some 111, .pick (.t 105) (.c (.bool true)) (.t 110), none, []⟩,
     ⟨some 112, .mv (.t 111), none, []⟩,
     ⟨some 113, .addo (.t 6) 2, some (112, false), []⟩,
     ⟨some 114, .ld (.t 113) 2 true, some (112, false), []⟩,
     ⟨some 115, .call 92 [.t 114, .c (.int .i64 1), .c (.int .i64 1000000)], some (112, false), []⟩,
     ⟨some 116, .un .not (.t 115), some (112, false), []⟩,
     ⟨some 117, .pick (.t 112) (.c (.bool true)) (.t 116), none, []⟩,
     ⟨some 118, .mv (.t 117), none, []⟩,
     ⟨some 119, .addo (.t 6) 4, some (118, false), []⟩,
     ⟨some 120, .ld (.t 119) 1 false, some (118, false), []⟩,
     ⟨some 121, .len (.t 120), some (118, false), []⟩,
     ⟨some 122, .bin .gtr (.t 121) (.c (.int .i64 6)), some (118, false), []⟩,
     ⟨some 123, .pick (.t 118) (.c (.bool true)) (.t 122), none, []⟩])
     (.cond (.t 123)
     (.seq (.reg [
      ⟨some 2, .mv (.c (.bool false)), none, []⟩])
      .ret)
     .skip))
     (.seq (.reg [
     ⟨some 7, .mv (.c (.int .i64 (-1))), none, []⟩])
     (.seq (.reg [
     ⟨some 8, .mv (.c (.int .i64 0)), none, []⟩])
     (.block 4 (.loop (.seq (.seq (.reg [
       ⟨some 124, .mv (.t 8), none, []⟩,
       ⟨some 125, .addo (.t 6) 4, none, []⟩,
       ⟨some 126, .ld (.t 125) 1 false, none, []⟩,
       ⟨some 127, .len (.t 126), none, []⟩,
       ⟨some 128, .bin .lss (.t 124) (.t 127), none, []⟩])
       (.cond (.t 128)
       .skip
       (.exit 4)))
       (.seq (.block 5 (.seq (.reg [
        ⟨some 131, .addo (.t 6) 4, none, []⟩,
        ⟨some 132, .ld (.t 131) 1 false, none, []⟩,
        ⟨some 133, .mv (.t 8), none, []⟩,
        ⟨some 134, .ixs (.t 132) (.t 133) 4, none, []⟩,
        ⟨some 135, .ld (.t 134) 4 true, none, []⟩,
        ⟨some 9, .alloc [.int .i64 0, .int .i64 0, .int .i64 0, .int .i64 0] 95, none, []⟩,
        ⟨none, .st (.t 9) (.t 135) 4, none, []⟩])
        (.seq (.seq (.reg [
        ⟨some 136, .addo (.t 9) 0, none, []⟩,
        ⟨some 137, .ld (.t 136) 2 true, none, []⟩,
        ⟨some 138, .call 92 [.t 137, .c (.int .i64 0), .c (.int .i64 100000)], none, []⟩,
        ⟨some 139, .un .not (.t 138), none, []⟩,
        ⟨some 140, .mv (.t 139), none, []⟩,
        ⟨some 141, .addo (.t 9) 2, some (140, false), []⟩,
        ⟨some 142, .ld (.t 141) 2 true, some (140, false), []⟩,
        ⟨some 143, .call 92 [.t 142, .c (.int .i64 0), .c (.int .i64 100000)], some (140, false), []⟩,
        ⟨some 144, .un .not (.t 143), some (140, false), []⟩,
        ⟨some 145, .pick (.t 140) (.c (.bool true)) (.t 144), none, []⟩,
        ⟨some 146, .mv (.t 145), none, []⟩,
        ⟨some 147, .addo (.t 9) 0, some (146, false), []⟩,
        ⟨some 148, .addo (.t 147) 0, some (146, false), []⟩,
        ⟨some 149, .ld (.t 148) 1 false, some (146, false), []⟩,
        ⟨some 150, .addo (.t 9) 2, some (146, false), []⟩,
        ⟨some 151, .addo (.t 150) 1, some (146, false), []⟩,
        ⟨some 152, .ld (.t 151) 1 false, some (146, false), []⟩,
        ⟨some 153, .bin .gtr (.t 149) (.t 152), some (146, false), []⟩,
        ⟨some 154, .pick (.t 146) (.c (.bool true)) (.t 153), none, []⟩,
        ⟨some 155, .mv (.t 154), none, []⟩,
        ⟨some 156, .addo (.t 9) 0, some (155, false), []⟩,
        ⟨some 157, .addo (.t 156) 0, some (155, false), []⟩,
        ⟨some 158, .ld (.t 157) 1 false, some (155, false), []⟩,
        ⟨some 159, .mv (.t 7), some (155, false), []⟩,
        ⟨some 160, .bin .leq (.t 158) (.t 159), some (155, false), []⟩,
        ⟨some 161, .pick (.t 155) (.c (.bool true)) (.t 160), none, []⟩])
        (.cond (.t 161)
        (.seq (.reg [
         ⟨some 2, .mv (.c (.bool false)), none, []⟩])
         .ret)
        .skip))
        (.reg [
        ⟨some 162, .addo (.t 9) 2, none, []⟩,
        ⟨some 163, .addo (.t 162) 1, none, []⟩,
        ⟨some 164, .ld (.t 163) 1 false, none, []⟩,
        ⟨some 7, .mv (.t 164), none, []⟩]))))
       (.reg [
       ⟨some 129, .mv (.t 8), none, []⟩,
       ⟨some 130, .bin .add (.t 129) (.c (.int .i64 1)), none, []⟩,
       ⟨some 8, .mv (.t 130), none, []⟩]))))))))))
    (.reg [
    ⟨some 80, .mv (.t 5), none, []⟩,
    ⟨some 81, .bin .add (.t 80) (.c (.int .i64 1)), none, []⟩,
    ⟨some 5, .mv (.t 81), none, []⟩]))))))
  (.seq (.reg [
  ⟨some 2, .mv (.c (.bool true)), none, []⟩])
  .ret)))))
def r60 : List RV := [.tmp 2]
theorem n60 : Try.f60.ntmps = 165 := by kernel_rfl
theorem b60 : bodyB Try.prog 60 = true := by kernel_rfl
theorem c60_ok : cmpC Try.prog c60 ((Try.f60.body).getD .skip) = true := by kernel_rfl
theorem r60_ok : cmpR Try.prog r60 Try.f60.results.toList = true := by kernel_rfl
theorem t60 {args : List SV} {res : SV} (ka : KFL args) (kr : KF res) (h : sx Try.prog c60 (st0 args 165) (retK r60 res)) (hA : Nat.ble args.length 165 = true := by rfl) : Ct Try.prog 60 args res := ct_intro Try.func60 rfl b60 c60_ok r60_ok n60 (Nat.le_of_ble_eq_true hA) ka kr h
/- azalai/azalairef03.within -/
def c61 : SC := (.seq (.reg [
  ⟨some 6, .mv (.c (.bool false)), none, []⟩])
  (.seq (.reg [
  ⟨some 7, .mv (.t 0), none, []⟩,
  ⟨some 8, .mv (.t 1), none, []⟩,
  ⟨some 9, .bin .geq (.t 7) (.t 8), none, []⟩,
  ⟨some 10, .mv (.t 9), none, []⟩,
  ⟨some 11, .mv (.t 0), some (10, true), []⟩,
  ⟨some 12, .mv (.t 2), some (10, true), []⟩,
  ⟨some 13, .bin .leq (.t 11) (.t 12), some (10, true), []⟩,
  ⟨some 14, .pick (.t 10) (.t 13) (.c (.bool false)), none, []⟩,
  ⟨some 6, .mv (.t 14), none, []⟩])
  .ret))
def r61 : List RV := [.tmp 6]
theorem n61 : Try.f61.ntmps = 15 := by kernel_rfl
theorem b61 : bodyB Try.prog 61 = true := by kernel_rfl
theorem c61_ok : cmpC Try.prog c61 ((Try.f61.body).getD .skip) = true := by kernel_rfl
theorem r61_ok : cmpR Try.prog r61 Try.f61.results.toList = true := by kernel_rfl
theorem t61 {args : List SV} {res : SV} (ka : KFL args) (kr : KF res) (h : sx Try.prog c61 (st0 args 15) (retK r61 res)) (hA : Nat.ble args.length 15 = true := by rfl) : Ct Try.prog 61 args res := ct_intro Try.func61 rfl b61 c61_ok r61_ok n61 (Nat.le_of_ble_eq_true hA) ka kr h
/- azalai/azalairef03.filled -/
def c62 : SC := (.seq (.reg [
  ⟨some 3, .box (.t 0) 0 109, none, []⟩,
  ⟨some 4, .box (.t 1) 0 29, none, []⟩,
  ⟨some 6, .alloc [.int .i64 0, .int .i64 0] 29, none, []⟩])
  (.seq (.reg [
  ⟨some 7, .addo (.t 3) 5, none, []⟩,
  ⟨some 8, .ld (.t 7) 1 false, none, []⟩,
  ⟨some 9, .addo (.t 4) 0, none, []⟩,
  ⟨some 10, .ld (.t 9) 1 false, none, []⟩,
  ⟨some 11, .mv (.t 2), none, []⟩,
  ⟨some 12, .addo (.t 3) 3, none, []⟩,
  ⟨some 13, .addo (.t 12) 0, none, []⟩,
  ⟨some 14, .ld (.t 13) 1 false, none, []⟩,
  ⟨some 15, .bin .mul (.t 11) (.t 14), none, []⟩,
  ⟨some 16, .bin .add (.t 10) (.t 15), none, []⟩,
  ⟨some 17, .mm false [.t 8, .t 16], none, []⟩,
  ⟨some 18, .addo (.t 3) 5, none, []⟩,
  ⟨some 19, .ld (.t 18) 1 false, none, []⟩,
  ⟨some 20, .addo (.t 4) 1, none, []⟩,
  ⟨some 21, .ld (.t 20) 1 false, none, []⟩,
  ⟨some 22, .mv (.t 2), none, []⟩,
  ⟨some 23, .addo (.t 3) 3, none, []⟩,
  ⟨some 24, .addo (.t 23) 1, none, []⟩,
  ⟨some 25, .ld (.t 24) 1 false, none, []⟩,
  ⟨some 26, .bin .mul (.t 22) (.t 25), none, []⟩,
  ⟨some 27, .bin .add (.t 21) (.t 26), none, []⟩,
  ⟨some 28, .mm false [.t 19, .t 27], none, []⟩,
  ⟨some 29, .build [.int .i64 0, .int .i64 0] [(0, 1, .t 17), (1, 1, .t 28)], none, []⟩,
  ⟨none, .st (.t 6) (.t 29) 2, none, []⟩])
  .ret))
def r62 : List RV := [.cell 6 2 true]
theorem n62 : Try.f62.ntmps = 30 := by kernel_rfl
theorem b62 : bodyB Try.prog 62 = true := by kernel_rfl
theorem c62_ok : cmpC Try.prog c62 ((Try.f62.body).getD .skip) = true := by kernel_rfl
theorem r62_ok : cmpR Try.prog r62 Try.f62.results.toList = true := by kernel_rfl
theorem t62 {args : List SV} {res : SV} (ka : KFL args) (kr : KF res) (h : sx Try.prog c62 (st0 args 30) (retK r62 res)) (hA : Nat.ble args.length 30 = true := by rfl) : Ct Try.prog 62 args res := ct_intro Try.func62 rfl b62 c62_ok r62_ok n62 (Nat.le_of_ble_eq_true hA) ka kr h
/- slices.ContainsFunc[[]azalai/api.Well,azalai/api.Well] -/
def c71 : SC := (.seq (.reg [
  ⟨some 4, .mv (.c (.bool false)), none, []⟩])
  (.seq (.reg [
  ⟨some 5, .mv (.t 0), none, []⟩,
  ⟨some 6, .mv (.t 1), none, []⟩,
  ⟨some 7, .call 95 [.t 5, .t 6], none, []⟩,
  ⟨some 8, .bin .geq (.t 7) (.c (.int .i64 0)), none, []⟩,
  ⟨some 4, .mv (.t 8), none, []⟩])
  .ret))
def r71 : List RV := [.tmp 4]
theorem n71 : Try.f71.ntmps = 9 := by kernel_rfl
theorem b71 : bodyB Try.prog 71 = true := by kernel_rfl
theorem c71_ok : cmpC Try.prog c71 ((Try.f71.body).getD .skip) = true := by kernel_rfl
theorem r71_ok : cmpR Try.prog r71 Try.f71.results.toList = true := by kernel_rfl
theorem t71 {args : List SV} {res : SV} (ka : KFL args) (kr : KF res) (h : sx Try.prog c71 (st0 args 9) (retK r71 res)) (hA : Nat.ble args.length 9 = true := by rfl) : Ct Try.prog 71 args res := ct_intro Try.func71 rfl b71 c71_ok r71_ok n71 (Nat.le_of_ble_eq_true hA) ka kr h
/- azalai/way.Check$1 -/
def c72 : SC := (.seq (.reg [
  ⟨some 1, .box (.t 0) 0 109, none, []⟩,
  ⟨some 2, .mv (.c (.bool false)), none, []⟩])
  (.seq (.reg [
  ⟨some 3, .ld (.t 1) 9 true, none, []⟩,
  ⟨some 4, .call 73 [.t 3], none, []⟩,
  ⟨some 5, .un .not (.t 4), none, []⟩,
  ⟨some 2, .mv (.t 5), none, []⟩])
  .ret))
def r72 : List RV := [.tmp 2]
theorem n72 : Try.f72.ntmps = 6 := by kernel_rfl
theorem b72 : bodyB Try.prog 72 = true := by kernel_rfl
theorem c72_ok : cmpC Try.prog c72 ((Try.f72.body).getD .skip) = true := by kernel_rfl
theorem r72_ok : cmpR Try.prog r72 Try.f72.results.toList = true := by kernel_rfl
theorem t72 {args : List SV} {res : SV} (ka : KFL args) (kr : KF res) (h : sx Try.prog c72 (st0 args 6) (retK r72 res)) (hA : Nat.ble args.length 6 = true := by rfl) : Ct Try.prog 72 args res := ct_intro Try.func72 rfl b72 c72_ok r72_ok n72 (Nat.le_of_ble_eq_true hA) ka kr h
/- azalai/way.dug -/
def c73 : SC := (.seq (.reg [
  ⟨some 1, .box (.t 0) 0 109, none, []⟩,
  ⟨some 2, .mv (.c (.bool false)), none, []⟩])
  (.seq (.reg [
  ⟨some 3, .addo (.t 1) 0, none, []⟩,
  ⟨some 4, .ld (.t 3) 1 false, none, []⟩,
  ⟨some 5, .addo (.t 1) 1, none, []⟩,
  ⟨some 6, .ld (.t 5) 1 false, none, []⟩,
  ⟨some 7, .bsl 1 3 [.t 4, .t 6], none, []⟩,
  ⟨some 8, .call 58 [.c (.int .i64 (-10000000)), .c (.int .i64 10000000), .t 7], none, []⟩,
  ⟨some 9, .mv (.t 8), none, []⟩,
  ⟨some 10, .addo (.t 1) 2, some (9, true), []⟩,
  ⟨some 11, .ld (.t 10) 1 false, some (9, true), []⟩,
  ⟨some 12, .bsl 1 3 [.t 11], some (9, true), []⟩,
  ⟨some 13, .call 58 [.c (.int .i64 0), .c (.int .i64 200), .t 12], some (9, true), []⟩,
  ⟨some 14, .pick (.t 9) (.t 13) (.c (.bool false)), none, []⟩,
  ⟨some 15, .mv (.t 14), none, []⟩,
  ⟨some 16, .addo (.t 1) 3, some (15, true), []⟩,
  ⟨some 17, .ld (.t 16) 2 true, some (15, true), []⟩,
  ⟨some 18, .bsl 2 29 [.t 17], some (15, true), []⟩,
  ⟨some 19, .call 93 [.c (.int .i64 0), .c (.int .i64 10000000), .t 18], some (15, true), []⟩,
  ⟨some 20, .pick (.t 15) (.t 19) (.c (.bool false)), none, []⟩,
  ⟨some 21, .mv (.t 20), none, []⟩,
  ⟨some 22, .addo (.t 1) 5, some (21, true), []⟩,
  ⟨some 23, .ld (.t 22) 1 false, some (21, true), []⟩,
  ⟨some 24, .bsl 1 3 [.t 23], some (21, true), []⟩,
  ⟨some 25, .call 58 [.c (.int .i64 0), .c (.int .i64 1000000000), .t 24], some (21, true), []⟩,
  ⟨some 26, .pick (.t 21) (.t 25) (.c (.bool false)), none, []⟩,
  ⟨some 27, .mv (.t 26), none, []⟩,
  ⟨some 28, .addo (.t 1) 5, some (27, true), []⟩,
  ⟨some 29, .ld (.t 28) 1 false, some (27, true), []⟩,
  ⟨some 30, .addo (.t 1) 6, some (27, true), []⟩,
  ⟨some 31, .ld (.t 30) 2 true, some (27, true), []⟩,
  ⟨some 32, .bsl 2 29 [.t 31], some (27, true), []⟩,
  ⟨some 33, .call 93 [.c (.int .i64 0), .t 29, .t 32], some (27, true), []⟩,
  ⟨some 34, .pick (.t 27) (.t 33) (.c (.bool false)), none, []⟩,
  ⟨some 35, .mv (.t 34), none, []⟩,
  ⟨some 36, .addo (.t 1) 8, some (35, true), []⟩,
  ⟨some 37, .ld (.t 36) 1 false, some (35, true), []⟩,
  ⟨some 38, .bsl 1 3 [.t 37], some (35, true), []⟩,
  ⟨some 39, .call 58 [.c (.int .i64 0), .c (.int .i64 9999), .t 38], some (35, true), []⟩,
  ⟨some 40, .pick (.t 35) (.t 39) (.c (.bool false)), none, []⟩,
  ⟨some 2, .mv (.t 40), none, []⟩])
  .ret))
def r73 : List RV := [.tmp 2]
theorem n73 : Try.f73.ntmps = 41 := by kernel_rfl
theorem b73 : bodyB Try.prog 73 = true := by kernel_rfl
theorem c73_ok : cmpC Try.prog c73 ((Try.f73.body).getD .skip) = true := by kernel_rfl
theorem r73_ok : cmpR Try.prog r73 Try.f73.results.toList = true := by kernel_rfl
theorem t73 {args : List SV} {res : SV} (ka : KFL args) (kr : KF res) (h : sx Try.prog c73 (st0 args 41) (retK r73 res)) (hA : Nat.ble args.length 41 = true := by rfl) : Ct Try.prog 73 args res := ct_intro Try.func73 rfl b73 c73_ok r73_ok n73 (Nat.le_of_ble_eq_true hA) ka kr h
/- slices.ContainsFunc[[]azalai/api.Leg,azalai/api.Leg] -/
def c74 : SC := (.seq (.reg [
  ⟨some 4, .mv (.c (.bool false)), none, []⟩])
  (.seq (.reg [
  ⟨some 5, .mv (.t 0), none, []⟩,
  ⟨some 6, .mv (.t 1), none, []⟩,
  ⟨some 7, .call 96 [.t 5, .t 6], none, []⟩,
  ⟨some 8, .bin .geq (.t 7) (.c (.int .i64 0)), none, []⟩,
  ⟨some 4, .mv (.t 8), none, []⟩])
  .ret))
def r74 : List RV := [.tmp 4]
theorem n74 : Try.f74.ntmps = 9 := by kernel_rfl
theorem b74 : bodyB Try.prog 74 = true := by kernel_rfl
theorem c74_ok : cmpC Try.prog c74 ((Try.f74.body).getD .skip) = true := by kernel_rfl
theorem r74_ok : cmpR Try.prog r74 Try.f74.results.toList = true := by kernel_rfl
theorem t74 {args : List SV} {res : SV} (ka : KFL args) (kr : KF res) (h : sx Try.prog c74 (st0 args 9) (retK r74 res)) (hA : Nat.ble args.length 9 = true := by rfl) : Ct Try.prog 74 args res := ct_intro Try.func74 rfl b74 c74_ok r74_ok n74 (Nat.le_of_ble_eq_true hA) ka kr h
/- azalai/way.Check$2 -/
def c75 : SC := (.seq (.reg [
  ⟨some 2, .box (.t 0) 0 86, none, []⟩,
  ⟨some 3, .mv (.c (.bool false)), none, []⟩])
  (.seq (.reg [
  ⟨some 4, .ld (.t 2) 5 true, none, []⟩,
  ⟨some 5, .addo (.t 1) 0, none, []⟩,
  ⟨some 6, .ld (.t 5) 1 false, none, []⟩,
  ⟨some 7, .len (.t 6), none, []⟩,
  ⟨some 8, .call 76 [.t 4, .t 7], none, []⟩,
  ⟨some 9, .un .not (.t 8), none, []⟩,
  ⟨some 3, .mv (.t 9), none, []⟩])
  .ret))
def r75 : List RV := [.tmp 3]
theorem n75 : Try.f75.ntmps = 10 := by kernel_rfl
theorem b75 : bodyB Try.prog 75 = true := by kernel_rfl
theorem c75_ok : cmpC Try.prog c75 ((Try.f75.body).getD .skip) = true := by kernel_rfl
theorem r75_ok : cmpR Try.prog r75 Try.f75.results.toList = true := by kernel_rfl
theorem t75 {args : List SV} {res : SV} (ka : KFL args) (kr : KF res) (h : sx Try.prog c75 (st0 args 10) (retK r75 res)) (hA : Nat.ble args.length 10 = true := by rfl) : Ct Try.prog 75 args res := ct_intro Try.func75 rfl b75 c75_ok r75_ok n75 (Nat.le_of_ble_eq_true hA) ka kr h
/- azalai/way.trodden -/
def c76 : SC := (.seq (.reg [
  ⟨some 2, .box (.t 0) 0 86, none, []⟩,
  ⟨some 4, .mv (.c (.bool false)), none, []⟩])
  (.seq (.seq (.reg [
  ⟨some 8, .mv (.t 1), none, []⟩,
  ⟨some 9, .bin .sub (.t 8) (.c (.int .i64 1)), none, []⟩,
  ⟨some 10, .addo (.t 2) 0, none, []⟩,
  ⟨some 11, .ld (.t 10) 1 false, none, []⟩,
  ⟨some 12, .addo (.t 2) 1, none, []⟩,
  ⟨some 13, .ld (.t 12) 1 false, none, []⟩,
  ⟨some 14, .bsl 1 3 [.t 11, .t 13], none, []⟩,
  ⟨some 15, .call 58 [.c (.int .i64 0), .t 9, .t 14], none, []⟩,
  ⟨some 16, .un .not (.t 15), none, []⟩,
  ⟨some 17, .mv (.t 16), none, []⟩,
  ⟨some 18, .addo (.t 2) 0, some (17, false), []⟩,
  ⟨some 19, .ld (.t 18) 1 false, some (17, false), []⟩,
  ⟨some 20, .addo (.t 2) 1, some (17, false), []⟩,
  ⟨some 21, .ld (.t 20) 1 false, some (17, false), []⟩,
  ⟨some 22, .bin .eql (.t 19) (.t 21), some (17, false), []⟩,
  ⟨some 23, .pick (.t 17) (.c (.bool true)) (.t 22), none, []⟩,
  ⟨some 24, .mv (.t 23), none, []⟩,
  ⟨some 25, .addo (.t 2) 2, some (24, false), []⟩,
  ⟨some 26, .ld (.t 25) 2 true, some (24, false), []⟩,
  ⟨some 27, .bsl 2 29 [.t 26], some (24, false), []⟩,
  ⟨some 28, .call 93 [.c (.int .i64 1), .c (.int .i64 1000000), .t 27], some (24, false), []⟩,
  ⟨some 29, .un .not (.t 28), some (24, false), []⟩,
  ⟨some 30, .pick (.t 24) (.c (.bool true)) (.t 29), none, []⟩,
  ⟨some 31, .mv (.t 30), none, []⟩,
  ⟨some 32, .addo (.t 2) 4, some (31, false), []⟩,
  ⟨some 33, .ld (.t 32) 1 false, some (31, false), []⟩,
  ⟨some 34, .len (.t 33), some (31, false), []⟩,
  ⟨some 35, .bin .gtr (.t 34) (.c (.int .i64 6)), some (31, false), []⟩,
  ⟨some 36, .pick (.t 31) (.c (.bool true)) (.t 35), none, []⟩])
  (.cond (.t 36)
  (.seq (.reg [
   ⟨some 4, .mv (.c (.bool false)), none, []⟩])
   .ret)
  .skip))
  (.seq (.reg [
  ⟨some 5, .mv (.c (.int .i64 0)), none, []⟩])
  (.seq (.seq (.reg [
  ⟨some 37, .addo (.t 2) 4, none, []⟩,
  ⟨some 38, .ld (.t 37) 1 false, none, []⟩,
  ⟨some 39, .len (.t 38), none, []⟩,
  ⟨some 40, .mv (.c (.int .i64 0)), none, []⟩])
  (.block 0 (.loop (.seq (.reg [
    ⟨some 41, .bin .lss (.t 40) (.t 39), none, []⟩])
    (.seq (.cond (.t 41)
    .skip
    (.exit 0))
    (.seq (.block 1 (.seq (.reg [
     ⟨some 42, .ixs (.t 38) (.t 40) 4, none, []⟩,
     ⟨some 43, .ld (.t 42) 4 true, none, []⟩,
     ⟨some 7, .alloc [.int .i64 0, .int .i64 0, .int .i64 0, .int .i64 0] 95, none, []⟩,
     ⟨none, .st (.t 7) (.t 43) 4, none, []⟩])
     (.seq (.seq (.reg [
     ⟨some 44, .addo (.t 7) 0, none, []⟩,
     ⟨some 45, .ld (.t 44) 2 true, none, []⟩,
     ⟨some 46, .addo (.t 7) 2, none, []⟩,
     ⟨some 47, .ld (.t 46) 2 true, none, []⟩,
     ⟨some 48, .bsl 2 29 [.t 45, .t 47], none, []⟩,
     ⟨some 49, .call 93 [.c (.int .i64 0), .c (.int .i64 100000), .t 48], none, []⟩,
     ⟨some 50, .un .not (.t 49), none, []⟩,
     ⟨some 51, .mv (.t 50), none, []⟩,
     ⟨some 52, .mv (.t 5), some (51, false), []⟩,
     ⟨some 53, .addo (.t 7) 2, some (51, false), []⟩,
     ⟨some 54, .addo (.t 53) 1, some (51, false), []⟩,
     ⟨some 55, .ld (.t 54) 1 false, some (51, false), []⟩,
     ⟨some 56, .addo (.t 7) 0, some (51, false), []⟩,
     ⟨some 57, .addo (.t 56) 0, some (51, false), []⟩,
     ⟨some 58, .ld (.t 57) 1 false, some (51, false), []⟩,
     ⟨some 59, .bsl 1 3 [.t 58], some (51, false), []⟩,
     ⟨some 60, .call 58 [.t 52, .t 55, .t 59], some (51, false), []⟩,
     ⟨some 61, .un .not (.t 60), some (51, false), []⟩,
     ⟨some 62, .pick (.t 51) (.c (.bool true)) (.t 61), none, []⟩])
     (.cond (.t 62)
     (.seq (.reg [
      ⟨some 4, .mv (.c (.bool false)), none, []⟩])
      .ret)
     .skip))
     (.reg [
     ⟨some 63, .addo (.t 7) 2, none, []⟩,
     ⟨some 64, .addo (.t 63) 1, none, []⟩,
     ⟨some 65, .ld (.t 64) 1 false, none, []⟩,
     ⟨some 66, .bin .add (.t 65) (.c (.int .i64 1)), none, []⟩,
     ⟨some 5, .mv (.t 66), none, []⟩]))))
    (.reg [
    ⟨some 67, .bin .add (.t 40) (.c (.int .i64 1)), none, []⟩,
    ⟨some 40, .mv (.t 67), none, []⟩])))))))
  (.seq (.reg [
  ⟨some 4, .mv (.c (.bool true)), none, []⟩])
  .ret)))))
def r76 : List RV := [.tmp 4]
theorem n76 : Try.f76.ntmps = 68 := by kernel_rfl
theorem b76 : bodyB Try.prog 76 = true := by kernel_rfl
theorem c76_ok : cmpC Try.prog c76 ((Try.f76.body).getD .skip) = true := by kernel_rfl
theorem r76_ok : cmpR Try.prog r76 Try.f76.results.toList = true := by kernel_rfl
theorem t76 {args : List SV} {res : SV} (ka : KFL args) (kr : KF res) (h : sx Try.prog c76 (st0 args 68) (retK r76 res)) (hA : Nat.ble args.length 68 = true := by rfl) : Ct Try.prog 76 args res := ct_intro Try.func76 rfl b76 c76_ok r76_ok n76 (Nat.le_of_ble_eq_true hA) ka kr h
/- slices.ContainsFunc[[]int,int] -/
def c90 : SC := (.seq (.reg [
  ⟨some 4, .mv (.c (.bool false)), none, []⟩])
  (.seq (.reg [
  ⟨some 5, .mv (.t 0), none, []⟩,
  ⟨some 6, .mv (.t 1), none, []⟩,
  ⟨some 7, .call 101 [.t 5, .t 6], none, []⟩,
  ⟨some 8, .bin .geq (.t 7) (.c (.int .i64 0)), none, []⟩,
  ⟨some 4, .mv (.t 8), none, []⟩])
  .ret))
def r90 : List RV := [.tmp 4]
theorem n90 : Try.f90.ntmps = 9 := by kernel_rfl
theorem b90 : bodyB Try.prog 90 = true := by kernel_rfl
theorem c90_ok : cmpC Try.prog c90 ((Try.f90.body).getD .skip) = true := by kernel_rfl
theorem r90_ok : cmpR Try.prog r90 Try.f90.results.toList = true := by kernel_rfl
theorem t90 {args : List SV} {res : SV} (ka : KFL args) (kr : KF res) (h : sx Try.prog c90 (st0 args 9) (retK r90 res)) (hA : Nat.ble args.length 9 = true := by rfl) : Ct Try.prog 90 args res := ct_intro Try.func90 rfl b90 c90_ok r90_ok n90 (Nat.le_of_ble_eq_true hA) ka kr h
/- azalai/way.from$1 -/
def c91 : SC := (.seq (.reg [
  ⟨some 4, .mv (.c (.bool false)), none, []⟩])
  (.seq (.reg [
  ⟨some 5, .mv (.t 0), none, []⟩,
  ⟨some 6, .ld (.t 1) 1 false, none, []⟩,
  ⟨some 7, .bin .lss (.t 5) (.t 6), none, []⟩,
  ⟨some 8, .mv (.t 7), none, []⟩,
  ⟨some 9, .mv (.t 0), some (8, false), []⟩,
  ⟨some 10, .ld (.t 2) 1 false, some (8, false), []⟩,
  ⟨some 11, .bin .gtr (.t 9) (.t 10), some (8, false), []⟩,
  ⟨some 12, .pick (.t 8) (.c (.bool true)) (.t 11), none, []⟩,
  ⟨some 4, .mv (.t 12), none, []⟩])
  .ret))
def r91 : List RV := [.tmp 4]
theorem n91 : Try.f91.ntmps = 13 := by kernel_rfl
theorem b91 : bodyB Try.prog 91 = true := by kernel_rfl
theorem c91_ok : cmpC Try.prog c91 ((Try.f91.body).getD .skip) = true := by kernel_rfl
theorem r91_ok : cmpR Try.prog r91 Try.f91.results.toList = true := by kernel_rfl
theorem t91 {args : List SV} {res : SV} (ka : KFL args) (kr : KF res) (h : sx Try.prog c91 (st0 args 13) (retK r91 res)) (hA : Nat.ble args.length 13 = true := by rfl) : Ct Try.prog 91 args res := ct_intro Try.func91 rfl b91 c91_ok r91_ok n91 (Nat.le_of_ble_eq_true hA) ka kr h
/- azalai/azalairef03.spanned -/
def c92 : SC := (.seq (.reg [
  ⟨some 3, .box (.t 0) 0 29, none, []⟩,
  ⟨some 6, .mv (.c (.bool false)), none, []⟩])
  (.seq (.reg [
  ⟨some 7, .addo (.t 3) 0, none, []⟩,
  ⟨some 8, .ld (.t 7) 1 false, none, []⟩,
  ⟨some 9, .mv (.t 1), none, []⟩,
  ⟨some 10, .addo (.t 3) 1, none, []⟩,
  ⟨some 11, .ld (.t 10) 1 false, none, []⟩,
  ⟨some 12, .call 61 [.t 8, .t 9, .t 11], none, []⟩,
  ⟨some 13, .mv (.t 12), none, []⟩,
  ⟨some 14, .addo (.t 3) 1, some (13, true), []⟩,
  ⟨some 15, .ld (.t 14) 1 false, some (13, true), []⟩,
  ⟨some 16, .mv (.t 2), some (13, true), []⟩,
  ⟨some 17, .bin .leq (.t 15) (.t 16), some (13, true), []⟩,
  ⟨some 18, .pick (.t 13) (.t 17) (.c (.bool false)), none, []⟩,
  ⟨some 6, .mv (.t 18), none, []⟩])
  .ret))
def r92 : List RV := [.tmp 6]
theorem n92 : Try.f92.ntmps = 19 := by kernel_rfl
theorem b92 : bodyB Try.prog 92 = true := by kernel_rfl
theorem c92_ok : cmpC Try.prog c92 ((Try.f92.body).getD .skip) = true := by kernel_rfl
theorem r92_ok : cmpR Try.prog r92 Try.f92.results.toList = true := by kernel_rfl
theorem t92 {args : List SV} {res : SV} (ka : KFL args) (kr : KF res) (h : sx Try.prog c92 (st0 args 19) (retK r92 res)) (hA : Nat.ble args.length 19 = true := by rfl) : Ct Try.prog 92 args res := ct_intro Try.func92 rfl b92 c92_ok r92_ok n92 (Nat.le_of_ble_eq_true hA) ka kr h
/- azalai/way.ordered -/
def c93 : SC := (.seq (.reg [
  ⟨some 3, .box (.t 0) 0 3, none, []⟩,
  ⟨some 4, .box (.t 1) 0 3, none, []⟩,
  ⟨some 6, .mv (.c (.bool false)), none, []⟩])
  (.seq (.reg [
  ⟨some 7, .mv (.t 2), none, []⟩,
  ⟨some 8, .mkf 103 [.t 3, .t 4], none, []⟩,
  ⟨some 9, .call 102 [.t 7, .t 8], none, []⟩,
  ⟨some 10, .un .not (.t 9), none, []⟩,
  ⟨some 6, .mv (.t 10), none, []⟩])
  .ret))
def r93 : List RV := [.tmp 6]
theorem n93 : Try.f93.ntmps = 11 := by kernel_rfl
theorem b93 : bodyB Try.prog 93 = true := by kernel_rfl
theorem c93_ok : cmpC Try.prog c93 ((Try.f93.body).getD .skip) = true := by kernel_rfl
theorem r93_ok : cmpR Try.prog r93 Try.f93.results.toList = true := by kernel_rfl
theorem t93 {args : List SV} {res : SV} (ka : KFL args) (kr : KF res) (h : sx Try.prog c93 (st0 args 11) (retK r93 res)) (hA : Nat.ble args.length 11 = true := by rfl) : Ct Try.prog 93 args res := ct_intro Try.func93 rfl b93 c93_ok r93_ok n93 (Nat.le_of_ble_eq_true hA) ka kr h
/- slices.IndexFunc[[]azalai/api.Well,azalai/api.Well] -/
def c95 : SC := (.seq (.reg [
  ⟨some 4, .mv (.c (.int .i64 0)), none, []⟩])
  (.seq (.seq (.reg [
  ⟨some 6, .mv (.t 0), none, []⟩,
  ⟨some 7, .len (.t 6), none, []⟩,
  ⟨some 8, .mv (.c (.int .i64 0)), none, []⟩])
  (.block 0 (.loop (.seq (.reg [
    ⟨some 9, .bin .lss (.t 8) (.t 7), none, []⟩])
    (.seq (.cond (.t 9)
    .skip
    (.exit 0))
    (.seq (.block 1 (.seq (.reg [
     ⟨some 10, .mv (.t 8), none, []⟩,
     ⟨some 5, .mv (.t 10), none, []⟩])
     (.seq (.reg [
     ⟨some 11, .mv (.t 1), none, []⟩,
     ⟨some 12, .mv (.t 0), none, []⟩,
     ⟨some 13, .mv (.t 5), none, []⟩,
     ⟨some 14, .ixs (.t 12) (.t 13) 9, none, []⟩,
     ⟨some 15, .ld (.t 14) 9 true, none, []⟩,
     ⟨some 16, .calv (.t 11) [.t 15], none, []⟩])
     (.cond (.t 16)
     (.seq (.reg [
      ⟨some 17, .mv (.t 5), none, []⟩,
      ⟨some 4, .mv (.t 17), none, []⟩])
      .ret)
     .skip))))
    (.reg [
    ⟨some 18, .bin .add (.t 8) (.c (.int .i64 1)), none, []⟩,
    ⟨some 8, .mv (.t 18), none, []⟩])))))))
  (.seq (.reg [
  ⟨some 4, .mv (.c (.int .i64 (-1))), none, []⟩])
  .ret)))
def r95 : List RV := [.tmp 4]
theorem n95 : Try.f95.ntmps = 19 := by kernel_rfl
theorem b95 : bodyB Try.prog 95 = true := by kernel_rfl
theorem c95_ok : cmpC Try.prog c95 ((Try.f95.body).getD .skip) = true := by kernel_rfl
theorem r95_ok : cmpR Try.prog r95 Try.f95.results.toList = true := by kernel_rfl
theorem t95 {args : List SV} {res : SV} (ka : KFL args) (kr : KF res) (h : sx Try.prog c95 (st0 args 19) (retK r95 res)) (hA : Nat.ble args.length 19 = true := by rfl) : Ct Try.prog 95 args res := ct_intro Try.func95 rfl b95 c95_ok r95_ok n95 (Nat.le_of_ble_eq_true hA) ka kr h
/- slices.IndexFunc[[]azalai/api.Leg,azalai/api.Leg] -/
def c96 : SC := (.seq (.reg [
  ⟨some 4, .mv (.c (.int .i64 0)), none, []⟩])
  (.seq (.seq (.reg [
  ⟨some 6, .mv (.t 0), none, []⟩,
  ⟨some 7, .len (.t 6), none, []⟩,
  ⟨some 8, .mv (.c (.int .i64 0)), none, []⟩])
  (.block 0 (.loop (.seq (.reg [
    ⟨some 9, .bin .lss (.t 8) (.t 7), none, []⟩])
    (.seq (.cond (.t 9)
    .skip
    (.exit 0))
    (.seq (.block 1 (.seq (.reg [
     ⟨some 10, .mv (.t 8), none, []⟩,
     ⟨some 5, .mv (.t 10), none, []⟩])
     (.seq (.reg [
     ⟨some 11, .mv (.t 1), none, []⟩,
     ⟨some 12, .mv (.t 0), none, []⟩,
     ⟨some 13, .mv (.t 5), none, []⟩,
     ⟨some 14, .ixs (.t 12) (.t 13) 5, none, []⟩,
     ⟨some 15, .ld (.t 14) 5 true, none, []⟩,
     ⟨some 16, .calv (.t 11) [.t 15], none, []⟩])
     (.cond (.t 16)
     (.seq (.reg [
      ⟨some 17, .mv (.t 5), none, []⟩,
      ⟨some 4, .mv (.t 17), none, []⟩])
      .ret)
     .skip))))
    (.reg [
    ⟨some 18, .bin .add (.t 8) (.c (.int .i64 1)), none, []⟩,
    ⟨some 8, .mv (.t 18), none, []⟩])))))))
  (.seq (.reg [
  ⟨some 4, .mv (.c (.int .i64 (-1))), none, []⟩])
  .ret)))
def r96 : List RV := [.tmp 4]
theorem n96 : Try.f96.ntmps = 19 := by kernel_rfl
theorem b96 : bodyB Try.prog 96 = true := by kernel_rfl
theorem c96_ok : cmpC Try.prog c96 ((Try.f96.body).getD .skip) = true := by kernel_rfl
theorem r96_ok : cmpR Try.prog r96 Try.f96.results.toList = true := by kernel_rfl
theorem t96 {args : List SV} {res : SV} (ka : KFL args) (kr : KF res) (h : sx Try.prog c96 (st0 args 19) (retK r96 res)) (hA : Nat.ble args.length 19 = true := by rfl) : Ct Try.prog 96 args res := ct_intro Try.func96 rfl b96 c96_ok r96_ok n96 (Nat.le_of_ble_eq_true hA) ka kr h
/- slices.IndexFunc[[]int,int] -/
def c101 : SC := (.seq (.reg [
  ⟨some 4, .mv (.c (.int .i64 0)), none, []⟩])
  (.seq (.seq (.reg [
  ⟨some 6, .mv (.t 0), none, []⟩,
  ⟨some 7, .len (.t 6), none, []⟩,
  ⟨some 8, .mv (.c (.int .i64 0)), none, []⟩])
  (.block 0 (.loop (.seq (.reg [
    ⟨some 9, .bin .lss (.t 8) (.t 7), none, []⟩])
    (.seq (.cond (.t 9)
    .skip
    (.exit 0))
    (.seq (.block 1 (.seq (.reg [
     ⟨some 10, .mv (.t 8), none, []⟩,
     ⟨some 5, .mv (.t 10), none, []⟩])
     (.seq (.reg [
     ⟨some 11, .mv (.t 1), none, []⟩,
     ⟨some 12, .mv (.t 0), none, []⟩,
     ⟨some 13, .mv (.t 5), none, []⟩,
     ⟨some 14, .ixs (.t 12) (.t 13) 1, none, []⟩,
     ⟨some 15, .ld (.t 14) 1 false, none, []⟩,
     ⟨some 16, .calv (.t 11) [.t 15], none, []⟩])
     (.cond (.t 16)
     (.seq (.reg [
      ⟨some 17, .mv (.t 5), none, []⟩,
      ⟨some 4, .mv (.t 17), none, []⟩])
      .ret)
     .skip))))
    (.reg [
    ⟨some 18, .bin .add (.t 8) (.c (.int .i64 1)), none, []⟩,
    ⟨some 8, .mv (.t 18), none, []⟩])))))))
  (.seq (.reg [
  ⟨some 4, .mv (.c (.int .i64 (-1))), none, []⟩])
  .ret)))
def r101 : List RV := [.tmp 4]
theorem n101 : Try.f101.ntmps = 19 := by kernel_rfl
theorem b101 : bodyB Try.prog 101 = true := by kernel_rfl
theorem c101_ok : cmpC Try.prog c101 ((Try.f101.body).getD .skip) = true := by kernel_rfl
theorem r101_ok : cmpR Try.prog r101 Try.f101.results.toList = true := by kernel_rfl
theorem t101 {args : List SV} {res : SV} (ka : KFL args) (kr : KF res) (h : sx Try.prog c101 (st0 args 19) (retK r101 res)) (hA : Nat.ble args.length 19 = true := by rfl) : Ct Try.prog 101 args res := ct_intro Try.func101 rfl b101 c101_ok r101_ok n101 (Nat.le_of_ble_eq_true hA) ka kr h
/- slices.ContainsFunc[[]azalai/api.Span,azalai/api.Span] -/
def c102 : SC := (.seq (.reg [
  ⟨some 4, .mv (.c (.bool false)), none, []⟩])
  (.seq (.reg [
  ⟨some 5, .mv (.t 0), none, []⟩,
  ⟨some 6, .mv (.t 1), none, []⟩,
  ⟨some 7, .call 107 [.t 5, .t 6], none, []⟩,
  ⟨some 8, .bin .geq (.t 7) (.c (.int .i64 0)), none, []⟩,
  ⟨some 4, .mv (.t 8), none, []⟩])
  .ret))
def r102 : List RV := [.tmp 4]
theorem n102 : Try.f102.ntmps = 9 := by kernel_rfl
theorem b102 : bodyB Try.prog 102 = true := by kernel_rfl
theorem c102_ok : cmpC Try.prog c102 ((Try.f102.body).getD .skip) = true := by kernel_rfl
theorem r102_ok : cmpR Try.prog r102 Try.f102.results.toList = true := by kernel_rfl
theorem t102 {args : List SV} {res : SV} (ka : KFL args) (kr : KF res) (h : sx Try.prog c102 (st0 args 9) (retK r102 res)) (hA : Nat.ble args.length 9 = true := by rfl) : Ct Try.prog 102 args res := ct_intro Try.func102 rfl b102 c102_ok r102_ok n102 (Nat.le_of_ble_eq_true hA) ka kr h
/- azalai/way.ordered$1 -/
def c103 : SC := (.seq (.reg [
  ⟨some 3, .box (.t 0) 0 29, none, []⟩,
  ⟨some 4, .mv (.c (.bool false)), none, []⟩])
  (.seq (.reg [
  ⟨some 5, .addo (.t 3) 0, none, []⟩,
  ⟨some 6, .ld (.t 5) 1 false, none, []⟩,
  ⟨some 7, .addo (.t 3) 1, none, []⟩,
  ⟨some 8, .ld (.t 7) 1 false, none, []⟩,
  ⟨some 9, .bin .gtr (.t 6) (.t 8), none, []⟩,
  ⟨some 10, .mv (.t 9), none, []⟩,
  ⟨some 11, .ld (.t 1) 1 false, some (10, false), []⟩,
  ⟨some 12, .ld (.t 2) 1 false, some (10, false), []⟩,
  ⟨some 13, .addo (.t 3) 0, some (10, false), []⟩,
  ⟨some 14, .ld (.t 13) 1 false, some (10, false), []⟩,
  ⟨some 15, .addo (.t 3) 1, some (10, false), []⟩,
  ⟨some 16, .ld (.t 15) 1 false, some (10, false), []⟩,
  ⟨some 17, .bsl 1 3 [.t 14, .t 16], some (10, false), []⟩,
  ⟨some 18, .call 58 [.t 11, .t 12, .t 17], some (10, false), []⟩,
  ⟨some 19, .un .not (.t 18), some (10, false), []⟩,
  ⟨some 20, .pick (.t 10) (.c (.bool true)) (.t 19), none, []⟩,
  ⟨some 4, .mv (.t 20), none, []⟩])
  .ret))
def r103 : List RV := [.tmp 4]
theorem n103 : Try.f103.ntmps = 21 := by kernel_rfl
theorem b103 : bodyB Try.prog 103 = true := by kernel_rfl
theorem c103_ok : cmpC Try.prog c103 ((Try.f103.body).getD .skip) = true := by kernel_rfl
theorem r103_ok : cmpR Try.prog r103 Try.f103.results.toList = true := by kernel_rfl
theorem t103 {args : List SV} {res : SV} (ka : KFL args) (kr : KF res) (h : sx Try.prog c103 (st0 args 21) (retK r103 res)) (hA : Nat.ble args.length 21 = true := by rfl) : Ct Try.prog 103 args res := ct_intro Try.func103 rfl b103 c103_ok r103_ok n103 (Nat.le_of_ble_eq_true hA) ka kr h
/- slices.IndexFunc[[]azalai/api.Span,azalai/api.Span] -/
def c107 : SC := (.seq (.reg [
  ⟨some 4, .mv (.c (.int .i64 0)), none, []⟩])
  (.seq (.seq (.reg [
  ⟨some 6, .mv (.t 0), none, []⟩,
  ⟨some 7, .len (.t 6), none, []⟩,
  ⟨some 8, .mv (.c (.int .i64 0)), none, []⟩])
  (.block 0 (.loop (.seq (.reg [
    ⟨some 9, .bin .lss (.t 8) (.t 7), none, []⟩])
    (.seq (.cond (.t 9)
    .skip
    (.exit 0))
    (.seq (.block 1 (.seq (.reg [
     ⟨some 10, .mv (.t 8), none, []⟩,
     ⟨some 5, .mv (.t 10), none, []⟩])
     (.seq (.reg [
     ⟨some 11, .mv (.t 1), none, []⟩,
     ⟨some 12, .mv (.t 0), none, []⟩,
     ⟨some 13, .mv (.t 5), none, []⟩,
     ⟨some 14, .ixs (.t 12) (.t 13) 2, none, []⟩,
     ⟨some 15, .ld (.t 14) 2 true, none, []⟩,
     ⟨some 16, .calv (.t 11) [.t 15], none, []⟩])
     (.cond (.t 16)
     (.seq (.reg [
      ⟨some 17, .mv (.t 5), none, []⟩,
      ⟨some 4, .mv (.t 17), none, []⟩])
      .ret)
     .skip))))
    (.reg [
    ⟨some 18, .bin .add (.t 8) (.c (.int .i64 1)), none, []⟩,
    ⟨some 8, .mv (.t 18), none, []⟩])))))))
  (.seq (.reg [
  ⟨some 4, .mv (.c (.int .i64 (-1))), none, []⟩])
  .ret)))
def r107 : List RV := [.tmp 4]
theorem n107 : Try.f107.ntmps = 19 := by kernel_rfl
theorem b107 : bodyB Try.prog 107 = true := by kernel_rfl
theorem c107_ok : cmpC Try.prog c107 ((Try.f107.body).getD .skip) = true := by kernel_rfl
theorem r107_ok : cmpR Try.prog r107 Try.f107.results.toList = true := by kernel_rfl
theorem t107 {args : List SV} {res : SV} (ka : KFL args) (kr : KF res) (h : sx Try.prog c107 (st0 args 19) (retK r107 res)) (hA : Nat.ble args.length 19 = true := by rfl) : Ct Try.prog 107 args res := ct_intro Try.func107 rfl b107 c107_ok r107_ok n107 (Nat.le_of_ble_eq_true hA) ka kr h
end Go.Proofs.Ytkjldleglbbkeaa
