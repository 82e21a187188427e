import Derived.Test.YtkjldleglbbkeaaSb
import Derived.Test.YtkjldleglbbkeaaProg
set_option maxRecDepth 100000
namespace Go.Proofs.Ytkjldleglbbkeaa
open Go Go.Sx
/- azalai/azalailaw03.WayWells -/
def c3 : SC := (.seq (.reg [
  ⟨some 6, .box (.t 0) 0 25, none, []⟩,
  ⟨some 12, .mv (.c (.bool false)), none, []⟩])
  (.seq (.seq (.reg [
  ⟨some 25, .ld (.t 6) 2 true, none, []⟩,
  ⟨some 26, .call 16 [.t 25], none, []⟩,
  ⟨some 27, .mv (.t 26), none, []⟩,
  ⟨some 28, .mv (.t 2), some (27, false), []⟩,
  ⟨some 29, .len (.t 28), some (27, false), []⟩,
  ⟨some 30, .bin .gtr (.t 29) (.c (.int .i64 250)), some (27, false), []⟩,
  ⟨some 31, .pick (.t 27) (.c (.bool true)) (.t 30), none, []⟩])
  (.cond (.t 31)
  (.seq (.reg [
   ⟨some 12, .mv (.c (.bool true)), none, []⟩])
   .ret)
  .skip))
  (.seq (.reg [
  ⟨some 32, .bsl 3 40 [], none, []⟩,
  ⟨some 33, .mv (.t 2), none, []⟩,
  ⟨some 34, .app 3 24 40 (.t 32) (.t 33), none, []⟩,
  ⟨some 13, .mv (.t 34), none, []⟩])
  (.seq (.reg [
  ⟨some 36, .ld (.t 6) 2 true, none, []⟩,
  ⟨some 37, .mv (.t 1), none, []⟩,
  ⟨some 38, .mv (.t 13), none, []⟩,
  ⟨some 39, .mv (.t 3), none, []⟩,
  ⟨some 40, .call 17 [.t 36, .t 37, .t 38, .t 39], none, []⟩,
  ⟨some 35, .mv (.t 40), none, []⟩,
  ⟨some 41, .ext (.t 35) 0, none, []⟩,
  ⟨some 42, .ext (.t 35) 1, none, []⟩,
  ⟨some 43, .ext (.t 35) 2, none, []⟩,
  ⟨some 14, .alloc [.int .i64 0, .int .i64 0] 29, none, []⟩,
  ⟨none, .st (.t 14) (.t 41) 2, none, []⟩,
  ⟨some 15, .mv (.t 42), none, []⟩,
  ⟨some 16, .mv (.t 43), none, []⟩])
  (.seq (.reg [
  ⟨some 45, .ld (.t 6) 2 true, none, []⟩,
  ⟨some 46, .mv (.t 1), none, []⟩,
  ⟨some 47, .mv (.t 2), none, []⟩,
  ⟨some 48, .mv (.t 3), none, []⟩,
  ⟨some 49, .call 18 [.t 45, .t 46, .t 47, .t 48], none, []⟩,
  ⟨some 44, .mv (.t 49), none, []⟩,
  ⟨some 50, .ext (.t 44) 0, none, []⟩,
  ⟨some 51, .ext (.t 44) 1, none, []⟩,
  ⟨some 52, .ext (.t 44) 2, none, []⟩,
  ⟨some 17, .alloc [.int .i64 0, .int .i64 0] 29, none, []⟩,
  ⟨none, .st (.t 17) (.t 50) 2, none, []⟩,
  ⟨some 18, .mv (.t 51), none, []⟩,
  ⟨some 19, .mv (.t 52), none, []⟩])
  (.seq (.reg [
  ⟨some 54, .ld (.t 6) 2 true, none, []⟩,
  ⟨some 55, .mv (.t 1), none, []⟩,
  ⟨some 56, .mv (.t 4), none, []⟩,
  ⟨some 57, .mv (.t 5), none, []⟩,
  ⟨some 58, .call 19 [.t 54, .t 55, .t 56, .t 57], none, []⟩,
  ⟨some 53, .mv (.t 58), none, []⟩,
  ⟨some 59, .ext (.t 53) 0, none, []⟩,
  ⟨some 60, .ext (.t 53) 1, none, []⟩,
  ⟨some 20, .mv (.t 59), none, []⟩,
  ⟨some 21, .mv (.t 60), none, []⟩])
  (.seq (.reg [
  ⟨some 62, .ld (.t 6) 2 true, none, []⟩,
  ⟨some 63, .mv (.t 1), none, []⟩,
  ⟨some 64, .mv (.t 4), none, []⟩,
  ⟨some 65, .mv (.t 5), none, []⟩,
  ⟨some 66, .call 20 [.t 62, .t 63, .t 64, .t 65], none, []⟩,
  ⟨some 61, .mv (.t 66), none, []⟩,
  ⟨some 67, .ext (.t 61) 0, none, []⟩,
  ⟨some 68, .ext (.t 61) 1, none, []⟩,
  ⟨some 22, .mv (.t 67), none, []⟩,
  ⟨some 23, .mv (.t 68), none, []⟩])
  (.seq (.seq (.reg [
  ⟨some 69, .mv (.t 2), none, []⟩,
  ⟨some 70, .len (.t 69), none, []⟩,
  ⟨some 71, .mv (.c (.int .i64 0)), none, []⟩])
  (.block 0 (.loop (.seq (.reg [
    ⟨some 72, .bin .lss (.t 71) (.t 70), none, []⟩])
    (.seq (.cond (.t 72)
    .skip
    (.exit 0))
    (.seq (.block 1 (.seq (.reg [
     ⟨some 73, .mv (.t 71), none, []⟩,
     ⟨some 24, .mv (.t 73), none, []⟩])
     (.seq (.regd [0, 1, 2, 3, 4, 5, 6, 7, 8] [
     .op ⟨some 74, .mv (.t 13), none, []⟩,
     .op ⟨some 75, .mv (.t 24), none, []⟩,
     .op ⟨some 76, .ixs (.t 74) (.t 75) 3, none, [0, 1]⟩,
     .op ⟨some 77, .ld (.t 76) 3 true, none, [2]⟩,
     .op ⟨some 78, .mv (.t 2), none, []⟩,
     .op ⟨some 79, .mv (.t 24), none, []⟩,
     .op ⟨some 80, .ixs (.t 78) (.t 79) 3, none, [4, 5]⟩,
     .op ⟨some 81, .ld (.t 80) 3 true, none, [6]⟩,
     .op ⟨some 82, .eqs true true [1, 1, 1] (.t 77) (.t 81), none, [3, 7]⟩] 0 0 [
])
     (.cond (.t 82)
     (.seq (.reg [
      ⟨some 12, .mv (.c (.bool false)), none, []⟩])
      .ret)
     .skip))))
    (.reg [
    ⟨some 83, .bin .add (.t 71) (.c (.int .i64 1)), none, []⟩,
    ⟨some 71, .mv (.t 83), none, []⟩])))))))
  (.seq (.reg [
  ⟨some 84, .ld (.t 14) 2 true, none, []⟩,
  ⟨some 85, .ld (.t 17) 2 true, none, []⟩,
  ⟨some 86, .eqs false true [1, 1] (.t 84) (.t 85), none, []⟩,
  ⟨some 87, .mv (.t 86), none, []⟩,
  ⟨some 88, .mv (.t 15), some (87, true), []⟩,
  ⟨some 89, .mv (.t 18), some (87, true), []⟩,
  ⟨some 90, .bin .eql (.t 88) (.t 89), some (87, true), []⟩,
  ⟨some 91, .pick (.t 87) (.t 90) (.c (.bool false)), none, []⟩,
  ⟨some 92, .mv (.t 91), none, []⟩,
  ⟨some 93, .mv (.t 16), some (92, true), []⟩,
  ⟨some 94, .mv (.t 19), some (92, true), []⟩,
  ⟨some 95, .bin .eql (.t 93) (.t 94), some (92, true), []⟩,
  ⟨some 96, .pick (.t 92) (.t 95) (.c (.bool false)), none, []⟩,
  ⟨some 97, .mv (.t 96), none, []⟩,
  ⟨some 98, .mv (.t 20), some (97, true), []⟩,
  ⟨some 99, .mv (.t 22), some (97, true), []⟩,
  ⟨some 100, .bin .eql (.t 98) (.t 99), some (97, true), []⟩,
  ⟨some 101, .pick (.t 97) (.t 100) (.c (.bool false)), none, []⟩,
  ⟨some 102, .mv (.t 101), none, []⟩,
  ⟨some 103, .mv (.t 21), some (102, true), []⟩,
  ⟨some 104, .mv (.t 23), some (102, true), []⟩,
  ⟨some 105, .bin .eql (.t 103) (.t 104), some (102, true), []⟩,
  ⟨some 106, .pick (.t 102) (.t 105) (.c (.bool false)), none, []⟩,
  ⟨some 12, .mv (.t 106), none, []⟩])
  .ret)))))))))
def r3 : List RV := [.tmp 12]
theorem n3 : Try.f3.ntmps = 107 := by kernel_rfl
theorem b3 : bodyB Try.prog 3 = true := by kernel_rfl
theorem c3_ok : cmpC Try.prog c3 ((Try.f3.body).getD .skip) = true := by kernel_rfl
theorem r3_ok : cmpR Try.prog r3 Try.f3.results.toList = true := by kernel_rfl
theorem t3 {args : List SV} {res : SV} (ka : KFL args) (kr : KF res) (h : sx Try.prog c3 (st0 args 107) (retK r3 res)) (hA : Nat.ble args.length 107 = true := by rfl) : Ct Try.prog 3 args res := ct_intro Try.func3 rfl b3 c3_ok r3_ok n3 (Nat.le_of_ble_eq_true hA) ka kr h
/- azalai/azalairef03.Great -/
def c16 : SC := (.seq (.reg [
  ⟨some 1, .box (.t 0) 0 25, none, []⟩,
  ⟨some 2, .mv (.c (.bool false)), none, []⟩])
  (.seq (.seq (.reg [
  ⟨some 4, .addo (.t 1) 0, none, []⟩,
  ⟨some 5, .ld (.t 4) 1 false, none, []⟩,
  ⟨some 6, .len (.t 5), none, []⟩,
  ⟨some 7, .bin .gtr (.t 6) (.c (.int .i64 20)), none, []⟩,
  ⟨some 8, .mv (.t 7), none, []⟩,
  ⟨some 9, .addo (.t 1) 1, some (8, false), []⟩,
  ⟨some 10, .ld (.t 9) 1 false, some (8, false), []⟩,
  ⟨some 11, .len (.t 10), some (8, false), []⟩,
  ⟨some 12, .bin .gtr (.t 11) (.c (.int .i64 40)), some (8, false), []⟩,
  ⟨some 13, .pick (.t 8) (.c (.bool true)) (.t 12), none, []⟩])
  (.cond (.t 13)
  (.seq (.reg [
   ⟨some 2, .mv (.c (.bool true)), none, []⟩])
   .ret)
  .skip))
  (.seq (.seq (.reg [
  ⟨some 3, .mv (.c (.int .i64 0)), none, []⟩])
  (.block 0 (.loop (.seq (.seq (.reg [
    ⟨some 14, .mv (.t 3), none, []⟩,
    ⟨some 15, .addo (.t 1) 1, none, []⟩,
    ⟨some 16, .ld (.t 15) 1 false, none, []⟩,
    ⟨some 17, .len (.t 16), none, []⟩,
    ⟨some 18, .bin .lss (.t 14) (.t 17), none, []⟩])
    (.cond (.t 18)
    .skip
    (.exit 0)))
    (.seq (.block 1 (.seq (.reg [
     ⟨some 21, .addo (.t 1) 1, none, []⟩,
     ⟨some 22, .ld (.t 21) 1 false, none, []⟩,
     ⟨some 23, .mv (.t 3), none, []⟩,
     ⟨some 24, .ixs (.t 22) (.t 23) 5, none, []⟩,
     ⟨some 25, .addo (.t 24) 4, none, []⟩,
     ⟨some 26, .ld (.t 25) 1 false, none, []⟩,
     ⟨some 27, .len (.t 26), none, []⟩,
     ⟨some 28, .bin .gtr (.t 27) (.c (.int .i64 20)), none, []⟩])
     (.cond (.t 28)
     (.seq (.reg [
      ⟨some 2, .mv (.c (.bool true)), none, []⟩])
      .ret)
     .skip)))
    (.reg [
    ⟨some 19, .mv (.t 3), none, []⟩,
    ⟨some 20, .bin .add (.t 19) (.c (.int .i64 1)), none, []⟩,
    ⟨some 3, .mv (.t 20), none, []⟩]))))))
  (.seq (.reg [
  ⟨some 2, .mv (.c (.bool false)), none, []⟩])
  .ret))))
def r16 : List RV := [.tmp 2]
theorem n16 : Try.f16.ntmps = 29 := by kernel_rfl
theorem b16 : bodyB Try.prog 16 = true := by kernel_rfl
theorem c16_ok : cmpC Try.prog c16 ((Try.f16.body).getD .skip) = true := by kernel_rfl
theorem r16_ok : cmpR Try.prog r16 Try.f16.results.toList = true := by kernel_rfl
theorem t16 {args : List SV} {res : SV} (ka : KFL args) (kr : KF res) (h : sx Try.prog c16 (st0 args 29) (retK r16 res)) (hA : Nat.ble args.length 29 = true := by rfl) : Ct Try.prog 16 args res := ct_intro Try.func16 rfl b16 c16_ok r16_ok n16 (Nat.le_of_ble_eq_true hA) ka kr h
/- azalai/way.Water -/
def c17 : SC := (.seq (.reg [
  ⟨some 4, .box (.t 0) 0 25, none, []⟩,
  ⟨some 8, .alloc [.int .i64 0, .int .i64 0] 29, none, []⟩,
  ⟨some 9, .mv (.c (.int .i64 0)), none, []⟩,
  ⟨some 10, .mv (.c (.int .i64 0)), none, []⟩])
  (.seq (.seq (.reg [
  ⟨some 20, .ld (.t 4) 2 true, none, []⟩,
  ⟨some 21, .call 26 [.t 20], none, []⟩,
  ⟨some 11, .mv (.t 21), none, []⟩])
  (.block 0 (.seq (.reg [
   ⟨some 23, .mv (.t 11), none, []⟩,
   ⟨some 24, .bin .neq (.t 23) (.c (.int .i64 0)), none, []⟩,
   ⟨some 22, .mv (.t 24), none, []⟩])
   (.cond (.t 22)
   (.seq (.reg [
    ⟨some 25, .ld (.t 8) 2 true, none, []⟩,
    ⟨some 26, .mv (.t 11), none, []⟩,
    ⟨none, .st (.t 8) (.t 25) 2, none, []⟩,
    ⟨some 9, .mv (.c (.int .i64 0)), none, []⟩,
    ⟨some 10, .mv (.t 26), none, []⟩])
    .ret)
   (.seq (.reg [
    ⟨some 28, .addo (.t 4) 0, none, []⟩,
    ⟨some 29, .ld (.t 28) 1 false, none, []⟩,
    ⟨some 30, .len (.t 29), none, []⟩,
    ⟨some 31, .bin .sub (.t 30) (.c (.int .i64 1)), none, []⟩,
    ⟨some 32, .mv (.t 1), none, []⟩,
    ⟨some 33, .bsl 1 3 [.t 32], none, []⟩,
    ⟨some 34, .call 58 [.c (.int .i64 0), .t 31, .t 33], none, []⟩,
    ⟨some 35, .un .not (.t 34), none, []⟩,
    ⟨some 36, .mv (.t 35), none, []⟩,
    ⟨some 37, .mv (.t 3), some (36, false), []⟩,
    ⟨some 38, .bsl 1 3 [.t 37], some (36, false), []⟩,
    ⟨some 39, .call 58 [.c (.int .i64 0), .c (.int .i64 100000), .t 38], some (36, false), []⟩,
    ⟨some 40, .un .not (.t 39), some (36, false), []⟩,
    ⟨some 41, .pick (.t 36) (.c (.bool true)) (.t 40), none, []⟩,
    ⟨some 27, .mv (.t 41), none, []⟩])
    (.cond (.t 27)
    (.seq (.reg [
     ⟨some 42, .ld (.t 8) 2 true, none, []⟩,
     ⟨none, .st (.t 8) (.t 42) 2, none, []⟩,
     ⟨some 9, .mv (.c (.int .i64 0)), none, []⟩,
     ⟨some 10, .mv (.c (.int .i64 2)), none, []⟩])
     .ret)
    (.seq (.reg [
     ⟨some 44, .mv (.t 2), none, []⟩,
     ⟨some 45, .len (.t 44), none, []⟩,
     ⟨some 46, .bin .gtr (.t 45) (.c (.int .i64 200)), none, []⟩,
     ⟨some 43, .mv (.t 46), none, []⟩])
     (.cond (.t 43)
     (.seq (.reg [
      ⟨some 47, .ld (.t 8) 2 true, none, []⟩,
      ⟨none, .st (.t 8) (.t 47) 2, none, []⟩,
      ⟨some 9, .mv (.c (.int .i64 0)), none, []⟩,
      ⟨some 10, .mv (.c (.int .i64 4)), none, []⟩])
      .ret)
     .skip))))))))
  (.seq (.reg [
  ⟨some 12, .mv (.c (.int .i64 0)), none, []⟩])
  (.seq (.seq (.reg [
  ⟨some 48, .mv (.t 2), none, []⟩,
  ⟨some 49, .len (.t 48), none, []⟩,
  ⟨some 50, .mv (.c (.int .i64 0)), none, []⟩])
  (.block 1 (.loop (.seq (.reg [
    ⟨some 51, .bin .lss (.t 50) (.t 49), none, []⟩])
    (.seq (.cond (.t 51)
    .skip
    (.exit 1))
    (.seq (.block 2 (.seq (.reg [
     ⟨some 52, .ixs (.t 48) (.t 50) 3, none, []⟩,
     ⟨some 53, .ld (.t 52) 3 true, none, []⟩,
     ⟨some 14, .alloc [.int .i64 0, .int .i64 0, .int .i64 0] 40, none, []⟩,
     ⟨none, .st (.t 14) (.t 53) 3, none, []⟩])
     (.seq (.seq (.reg [
     ⟨some 54, .addo (.t 4) 0, none, []⟩,
     ⟨some 55, .ld (.t 54) 1 false, none, []⟩,
     ⟨some 56, .len (.t 55), none, []⟩,
     ⟨some 57, .bin .sub (.t 56) (.c (.int .i64 1)), none, []⟩,
     ⟨some 58, .addo (.t 14) 0, none, []⟩,
     ⟨some 59, .ld (.t 58) 1 false, none, []⟩,
     ⟨some 60, .bsl 1 3 [.t 59], none, []⟩,
     ⟨some 61, .call 58 [.c (.int .i64 0), .t 57, .t 60], none, []⟩,
     ⟨some 62, .un .not (.t 61), none, []⟩,
     ⟨some 63, .mv (.t 62), none, []⟩,
     ⟨some 64, .mv (.t 12), some (63, false), []⟩,
     ⟨some 65, .addo (.t 14) 1, some (63, false), []⟩,
     ⟨some 66, .ld (.t 65) 1 false, some (63, false), []⟩,
     ⟨some 67, .bsl 1 3 [.t 66], some (63, false), []⟩,
     ⟨some 68, .call 58 [.t 64, .c (.int .i64 100000), .t 67], some (63, false), []⟩,
     ⟨some 69, .un .not (.t 68), some (63, false), []⟩,
     ⟨some 70, .pick (.t 63) (.c (.bool true)) (.t 69), none, []⟩,
     ⟨some 71, .mv (.t 70), none, []⟩,
     ⟨some 72, .addo (.t 14) 2, some (71, false), []⟩,
     ⟨some 73, .ld (.t 72) 1 false, some (71, false), []⟩,
     ⟨some 74, .bsl 1 3 [.t 73], some (71, false), []⟩,
     ⟨some 75, .call 58 [.c (.int .i64 0), .c (.int .i64 1000000000), .t 74], some (71, false), []⟩,
     ⟨some 76, .un .not (.t 75), some (71, false), []⟩,
     ⟨some 77, .pick (.t 71) (.c (.bool true)) (.t 76), none, []⟩])
     (.cond (.t 77)
     (.seq (.reg [
      ⟨some 78, .ld (.t 8) 2 true, none, []⟩,
      ⟨none, .st (.t 8) (.t 78) 2, none, []⟩,
      ⟨some 9, .mv (.c (.int .i64 0)), none, []⟩,
      ⟨some 10, .mv (.c (.int .i64 32)), none, []⟩])
      .ret)
     .skip))
     (.reg [
     ⟨some 79, .addo (.t 14) 1, none, []⟩,
     ⟨some 80, .ld (.t 79) 1 false, none, []⟩,
     ⟨some 12, .mv (.t 80), none, []⟩]))))
    (.reg [
    ⟨some 81, .bin .add (.t 50) (.c (.int .i64 1)), none, []⟩,
    ⟨some 50, .mv (.t 81), none, []⟩])))))))
  (.seq (.reg [
  ⟨some 82, .addo (.t 4) 0, none, []⟩,
  ⟨some 83, .ld (.t 82) 1 false, none, []⟩,
  ⟨some 84, .mv (.t 1), none, []⟩,
  ⟨some 85, .ixs (.t 83) (.t 84) 9, none, []⟩,
  ⟨some 86, .ld (.t 85) 9 true, none, []⟩,
  ⟨some 15, .alloc [.int .i64 0, .int .i64 0, .int .i64 0, .int .i64 0, .int .i64 0, .int .i64 0, .int .i64 0, .int .i64 0, .int .i64 0] 109, none, []⟩,
  ⟨none, .st (.t 15) (.t 86) 9, none, []⟩])
  (.seq (.reg [
  ⟨some 87, .addo (.t 15) 6, none, []⟩,
  ⟨some 88, .ld (.t 87) 2 true, none, []⟩,
  ⟨some 16, .alloc [.int .i64 0, .int .i64 0] 29, none, []⟩,
  ⟨none, .st (.t 16) (.t 88) 2, none, []⟩,
  ⟨some 17, .mv (.c (.int .i64 (-1))), none, []⟩])
  (.seq (.seq (.reg [
  ⟨some 89, .mv (.t 2), none, []⟩,
  ⟨some 90, .len (.t 89), none, []⟩,
  ⟨some 91, .mv (.c (.int .i64 0)), none, []⟩])
  (.block 3 (.loop (.seq (.reg [
    ⟨some 92, .bin .lss (.t 91) (.t 90), none, []⟩])
    (.seq (.cond (.t 92)
    .skip
    (.exit 3))
    (.seq (.block 4 (.seq (.reg [
     ⟨some 93, .mv (.t 91), none, []⟩,
     ⟨some 94, .ixs (.t 89) (.t 91) 3, none, []⟩,
     ⟨some 95, .ld (.t 94) 3 true, none, []⟩,
     ⟨some 19, .alloc [.int .i64 0, .int .i64 0, .int .i64 0] 40, none, []⟩,
     ⟨some 18, .mv (.t 93), none, []⟩,
     ⟨none, .st (.t 19) (.t 95) 3, none, []⟩])
     (.seq (.seq (.reg [
     ⟨some 96, .addo (.t 19) 0, none, []⟩,
     ⟨some 97, .ld (.t 96) 1 false, none, []⟩,
     ⟨some 98, .mv (.t 1), none, []⟩,
     ⟨some 99, .bin .neq (.t 97) (.t 98), none, []⟩,
     ⟨some 100, .mv (.t 99), none, []⟩,
     ⟨some 101, .addo (.t 19) 1, some (100, false), []⟩,
     ⟨some 102, .ld (.t 101) 1 false, some (100, false), []⟩,
     ⟨some 103, .mv (.t 3), some (100, false), []⟩,
     ⟨some 104, .bin .geq (.t 102) (.t 103), some (100, false), []⟩,
     ⟨some 105, .pick (.t 100) (.c (.bool true)) (.t 104), none, []⟩])
     (.cond (.t 105)
     (.exit 4)
     .skip))
     (.seq (.reg [
     ⟨some 106, .ld (.t 15) 9 true, none, []⟩,
     ⟨some 107, .ld (.t 16) 2 true, none, []⟩,
     ⟨some 108, .addo (.t 19) 1, none, []⟩,
     ⟨some 109, .ld (.t 108) 1 false, none, []⟩,
     ⟨some 110, .mv (.t 17), none, []⟩,
     ⟨some 111, .bin .sub (.t 109) (.t 110), none, []⟩,
     ⟨some 112, .call 59 [.t 106, .t 107, .t 111], none, []⟩,
     ⟨none, .st (.t 16) (.t 112) 2, none, []⟩])
     (.seq (.reg [
     ⟨some 113, .addo (.t 19) 1, none, []⟩,
     ⟨some 114, .ld (.t 113) 1 false, none, []⟩,
     ⟨some 17, .mv (.t 114), none, []⟩])
     (.seq (.seq (.reg [
     ⟨some 115, .addo (.t 16) 1, none, []⟩,
     ⟨some 116, .ld (.t 115) 1 false, none, []⟩,
     ⟨some 117, .addo (.t 19) 2, none, []⟩,
     ⟨some 118, .ld (.t 117) 1 false, none, []⟩,
     ⟨some 119, .bin .lss (.t 116) (.t 118), none, []⟩])
     (.cond (.t 119)
     (.seq (.reg [
      ⟨some 120, .ld (.t 8) 2 true, none, []⟩,
      ⟨some 121, .mv (.t 18), none, []⟩,
      ⟨none, .st (.t 8) (.t 120) 2, none, []⟩,
      ⟨some 9, .mv (.t 121), none, []⟩,
      ⟨some 10, .mv (.c (.int .i64 33)), none, []⟩])
      .ret)
     .skip))
     (.reg [
     ⟨some 122, .addo (.t 16) 0, none, []⟩,
     ⟨some 123, .ld (.t 122) 1 false, none, []⟩,
     ⟨some 124, .addo (.t 19) 2, none, []⟩,
     ⟨some 125, .ld (.t 124) 1 false, none, []⟩,
     ⟨some 126, .bin .sub (.t 123) (.t 125), none, []⟩,
     ⟨some 127, .mm true [.c (.int .i64 0), .t 126], none, []⟩,
     ⟨some 128, .addo (.t 16) 1, none, []⟩,
     ⟨some 129, .ld (.t 128) 1 false, none, []⟩,
     ⟨some 130, .addo (.t 19) 2, none, []⟩,
     ⟨some 131, .ld (.t 130) 1 false, none, []⟩,
     ⟨some 132, .bin .sub (.t 129) (.t 131), none, []⟩,
     ⟨some 133, .build [.int .i64 0, .int .i64 0] [(0, 1, .t 127), (1, 1, .t 132)], none, []⟩,
     ⟨none, .st (.t 16) (.t 133) 2, none, []⟩])))))))
    (.reg [
    ⟨some 134, .bin .add (.t 91) (.c (.int .i64 1)), none, []⟩,
    ⟨some 91, .mv (.t 134), none, []⟩])))))))
  (.seq (.reg [
  ⟨some 135, .ld (.t 15) 9 true, none, []⟩,
  ⟨some 136, .ld (.t 16) 2 true, none, []⟩,
  ⟨some 137, .mv (.t 3), none, []⟩,
  ⟨some 138, .bin .sub (.t 137) (.c (.int .i64 1)), none, []⟩,
  ⟨some 139, .mv (.t 17), none, []⟩,
  ⟨some 140, .bin .sub (.t 138) (.t 139), none, []⟩,
  ⟨some 141, .call 59 [.t 135, .t 136, .t 140], none, []⟩,
  ⟨none, .st (.t 8) (.t 141) 2, none, []⟩,
  ⟨some 9, .mv (.c (.int .i64 0)), none, []⟩,
  ⟨some 10, .mv (.c (.int .i64 0)), none, []⟩])
  .ret))))))))
def r17 : List RV := [.cell 8 2 true, .tmp 9, .tmp 10]
theorem n17 : Try.f17.ntmps = 142 := by kernel_rfl
theorem b17 : bodyB Try.prog 17 = true := by kernel_rfl
theorem c17_ok : cmpC Try.prog c17 ((Try.f17.body).getD .skip) = true := by kernel_rfl
theorem r17_ok : cmpR Try.prog r17 Try.f17.results.toList = true := by kernel_rfl
theorem t17 {args : List SV} {res : SV} (ka : KFL args) (kr : KF res) (h : sx Try.prog c17 (st0 args 142) (retK r17 res)) (hA : Nat.ble args.length 142 = true := by rfl) : Ct Try.prog 17 args res := ct_intro Try.func17 rfl b17 c17_ok r17_ok n17 (Nat.le_of_ble_eq_true hA) ka kr h
/- azalai/azalairef03.Water -/
def c18 : SC := (.seq (.reg [
  ⟨some 4, .box (.t 0) 0 25, none, []⟩,
  ⟨some 8, .alloc [.int .i64 0, .int .i64 0] 29, none, []⟩,
  ⟨some 9, .mv (.c (.int .i64 0)), none, []⟩,
  ⟨some 10, .mv (.c (.int .i64 0)), none, []⟩])
  (.seq (.seq (.reg [
  ⟨some 16, .ld (.t 4) 2 true, none, []⟩,
  ⟨some 17, .call 60 [.t 16], none, []⟩,
  ⟨some 18, .un .not (.t 17), none, []⟩])
  (.cond (.t 18)
  (.seq (.reg [
   ⟨some 19, .build [.int .i64 0, .int .i64 0] [], none, []⟩,
   ⟨none, .st (.t 8) (.t 19) 2, none, []⟩,
   ⟨some 9, .mv (.c (.int .i64 0)), none, []⟩,
   ⟨some 10, .mv (.c (.int .i64 30)), none, []⟩])
   .ret)
  .skip))
  (.seq (.seq (.reg [
  ⟨some 20, .mv (.t 1), none, []⟩,
  ⟨some 21, .addo (.t 4) 0, none, []⟩,
  ⟨some 22, .ld (.t 21) 1 false, none, []⟩,
  ⟨some 23, .len (.t 22), none, []⟩,
  ⟨some 24, .bin .sub (.t 23) (.c (.int .i64 1)), none, []⟩,
  ⟨some 25, .call 61 [.t 20, .c (.int .i64 0), .t 24], none, []⟩,
  ⟨some 26, .un .not (.t 25), none, []⟩,
  ⟨some 27, .mv (.t 26), none, []⟩,
  ⟨some 28, .mv (.t 3), some (27, false), []⟩,
  ⟨some 29, .call 61 [.t 28, .c (.int .i64 0), .c (.int .i64 100000)], some (27, false), []⟩,
  ⟨some 30, .un .not (.t 29), some (27, false), []⟩,
  ⟨some 31, .pick (.t 27) (.c (.bool true)) (.t 30), none, []⟩])
  (.cond (.t 31)
  (.seq (.reg [
   ⟨some 32, .build [.int .i64 0, .int .i64 0] [], none, []⟩,
   ⟨none, .st (.t 8) (.t 32) 2, none, []⟩,
   ⟨some 9, .mv (.c (.int .i64 0)), none, []⟩,
   ⟨some 10, .mv (.c (.int .i64 2)), none, []⟩])
   .ret)
  .skip))
  (.seq (.seq (.reg [
  ⟨some 33, .mv (.t 2), none, []⟩,
  ⟨some 34, .len (.t 33), none, []⟩,
  ⟨some 35, .bin .gtr (.t 34) (.c (.int .i64 200)), none, []⟩])
  (.cond (.t 35)
  (.seq (.reg [
   ⟨some 36, .build [.int .i64 0, .int .i64 0] [], none, []⟩,
   ⟨none, .st (.t 8) (.t 36) 2, none, []⟩,
   ⟨some 9, .mv (.c (.int .i64 0)), none, []⟩,
   ⟨some 10, .mv (.c (.int .i64 4)), none, []⟩])
   .ret)
  .skip))
  (.seq (.seq (.reg [
  ⟨some 37, .ld (.t 4) 2 true, none, []⟩,
  ⟨some 38, .mv (.t 2), none, []⟩,
  ⟨some 39, .call 55 [.t 37, .t 38], none, []⟩,
  ⟨some 40, .un .not (.t 39), none, []⟩])
  (.cond (.t 40)
  (.seq (.reg [
   ⟨some 41, .build [.int .i64 0, .int .i64 0] [], none, []⟩,
   ⟨none, .st (.t 8) (.t 41) 2, none, []⟩,
   ⟨some 9, .mv (.c (.int .i64 0)), none, []⟩,
   ⟨some 10, .mv (.c (.int .i64 32)), none, []⟩])
   .ret)
  .skip))
  (.seq (.reg [
  ⟨some 42, .addo (.t 4) 0, none, []⟩,
  ⟨some 43, .ld (.t 42) 1 false, none, []⟩,
  ⟨some 44, .mv (.t 1), none, []⟩,
  ⟨some 45, .ixs (.t 43) (.t 44) 9, none, []⟩,
  ⟨some 46, .ld (.t 45) 9 true, none, []⟩,
  ⟨some 11, .alloc [.int .i64 0, .int .i64 0, .int .i64 0, .int .i64 0, .int .i64 0, .int .i64 0, .int .i64 0, .int .i64 0, .int .i64 0] 109, none, []⟩,
  ⟨none, .st (.t 11) (.t 46) 9, none, []⟩])
  (.seq (.reg [
  ⟨some 47, .addo (.t 11) 6, none, []⟩,
  ⟨some 48, .ld (.t 47) 2 true, none, []⟩,
  ⟨some 12, .alloc [.int .i64 0, .int .i64 0] 29, none, []⟩,
  ⟨none, .st (.t 12) (.t 48) 2, none, []⟩,
  ⟨some 13, .mv (.c (.int .i64 0)), none, []⟩])
  (.seq (.seq (.reg [
  ⟨some 14, .mv (.c (.int .i64 0)), none, []⟩])
  (.block 0 (.loop (.seq (.seq (.reg [
    ⟨some 49, .mv (.t 14), none, []⟩,
    ⟨some 50, .mv (.t 2), none, []⟩,
    ⟨some 51, .len (.t 50), none, []⟩,
    ⟨some 52, .bin .lss (.t 49) (.t 51), none, []⟩])
    (.cond (.t 52)
    .skip
    (.exit 0)))
    (.seq (.block 1 (.seq (.reg [
     ⟨some 55, .mv (.t 2), none, []⟩,
     ⟨some 56, .mv (.t 14), none, []⟩,
     ⟨some 57, .ixs (.t 55) (.t 56) 3, none, []⟩,
     ⟨some 58, .ld (.t 57) 3 true, none, []⟩,
     ⟨some 15, .alloc [.int .i64 0, .int .i64 0, .int .i64 0] 40, none, []⟩,
     ⟨none, .st (.t 15) (.t 58) 3, none, []⟩])
     (.seq (.seq (.reg [
     ⟨some 59, .addo (.t 15) 0, none, []⟩,
     ⟨some 60, .ld (.t 59) 1 false, none, []⟩,
     ⟨some 61, .mv (.t 1), none, []⟩,
     ⟨some 62, .bin .neq (.t 60) (.t 61), none, []⟩,
     ⟨some 63, .mv (.t 62), none, []⟩,
     ⟨some 64, .addo (.t 15) 1, some (63, false), []⟩,
     ⟨some 65, .ld (.t 64) 1 false, some (63, false), []⟩,
     ⟨some 66, .mv (.t 3), some (63, false), []⟩,
     ⟨some 67, .bin .geq (.t 65) (.t 66), some (63, false), []⟩,
     ⟨some 68, .pick (.t 63) (.c (.bool true)) (.t 67), none, []⟩])
     (.cond (.t 68)
     (.exit 1)
     .skip))
     (.seq (.reg [
     ⟨some 69, .ld (.t 11) 9 true, none, []⟩,
     ⟨some 70, .ld (.t 12) 2 true, none, []⟩,
     ⟨some 71, .addo (.t 15) 1, none, []⟩,
     ⟨some 72, .ld (.t 71) 1 false, none, []⟩,
     ⟨some 73, .bin .add (.t 72) (.c (.int .i64 1)), none, []⟩,
     ⟨some 74, .mv (.t 13), none, []⟩,
     ⟨some 75, .bin .sub (.t 73) (.t 74), none, []⟩,
     ⟨some 76, .call 62 [.t 69, .t 70, .t 75], none, []⟩,
     ⟨none, .st (.t 12) (.t 76) 2, none, []⟩])
     (.seq (.reg [
     ⟨some 77, .addo (.t 15) 1, none, []⟩,
     ⟨some 78, .ld (.t 77) 1 false, none, []⟩,
     ⟨some 79, .bin .add (.t 78) (.c (.int .i64 1)), none, []⟩,
     ⟨some 13, .mv (.t 79), none, []⟩])
     (.seq (.seq (.reg [
     ⟨some 80, .addo (.t 15) 2, none, []⟩,
     ⟨some 81, .ld (.t 80) 1 false, none, []⟩,
     ⟨some 82, .addo (.t 12) 1, none, []⟩,
     ⟨some 83, .ld (.t 82) 1 false, none, []⟩,
     ⟨some 84, .bin .gtr (.t 81) (.t 83), none, []⟩])
     (.cond (.t 84)
     (.seq (.reg [
      ⟨some 85, .build [.int .i64 0, .int .i64 0] [], none, []⟩,
      ⟨some 86, .mv (.t 14), none, []⟩,
      ⟨none, .st (.t 8) (.t 85) 2, none, []⟩,
      ⟨some 9, .mv (.t 86), none, []⟩,
      ⟨some 10, .mv (.c (.int .i64 33)), none, []⟩])
      .ret)
     .skip))
     (.reg [
     ⟨some 87, .addo (.t 12) 0, none, []⟩,
     ⟨some 88, .ld (.t 87) 1 false, none, []⟩,
     ⟨some 89, .addo (.t 15) 2, none, []⟩,
     ⟨some 90, .ld (.t 89) 1 false, none, []⟩,
     ⟨some 91, .bin .sub (.t 88) (.t 90), none, []⟩,
     ⟨some 92, .mm true [.c (.int .i64 0), .t 91], none, []⟩,
     ⟨some 93, .addo (.t 12) 1, none, []⟩,
     ⟨some 94, .ld (.t 93) 1 false, none, []⟩,
     ⟨some 95, .addo (.t 15) 2, none, []⟩,
     ⟨some 96, .ld (.t 95) 1 false, none, []⟩,
     ⟨some 97, .bin .sub (.t 94) (.t 96), none, []⟩,
     ⟨some 98, .build [.int .i64 0, .int .i64 0] [(0, 1, .t 92), (1, 1, .t 97)], none, []⟩,
     ⟨none, .st (.t 12) (.t 98) 2, none, []⟩])))))))
    (.reg [
    ⟨some 53, .mv (.t 14), none, []⟩,
    ⟨some 54, .bin .add (.t 53) (.c (.int .i64 1)), none, []⟩,
    ⟨some 14, .mv (.t 54), none, []⟩]))))))
  (.seq (.reg [
  ⟨some 99, .ld (.t 11) 9 true, none, []⟩,
  ⟨some 100, .ld (.t 12) 2 true, none, []⟩,
  ⟨some 101, .mv (.t 3), none, []⟩,
  ⟨some 102, .mv (.t 13), none, []⟩,
  ⟨some 103, .bin .sub (.t 101) (.t 102), none, []⟩,
  ⟨some 104, .call 62 [.t 99, .t 100, .t 103], none, []⟩,
  ⟨none, .st (.t 8) (.t 104) 2, none, []⟩,
  ⟨some 9, .mv (.c (.int .i64 0)), none, []⟩,
  ⟨some 10, .mv (.c (.int .i64 0)), none, []⟩])
  .ret)))))))))
def r18 : List RV := [.cell 8 2 true, .tmp 9, .tmp 10]
theorem n18 : Try.f18.ntmps = 105 := by kernel_rfl
theorem b18 : bodyB Try.prog 18 = true := by kernel_rfl
theorem c18_ok : cmpC Try.prog c18 ((Try.f18.body).getD .skip) = true := by kernel_rfl
theorem r18_ok : cmpR Try.prog r18 Try.f18.results.toList = true := by kernel_rfl
theorem t18 {args : List SV} {res : SV} (ka : KFL args) (kr : KF res) (h : sx Try.prog c18 (st0 args 105) (retK r18 res)) (hA : Nat.ble args.length 105 = true := by rfl) : Ct Try.prog 18 args res := ct_intro Try.func18 rfl b18 c18_ok r18_ok n18 (Nat.le_of_ble_eq_true hA) ka kr h
/- azalai/way.Work -/
def c19 : SC := (.seq (.reg [
  ⟨some 4, .box (.t 0) 0 25, none, []⟩,
  ⟨some 8, .mv (.c (.int .i64 0)), none, []⟩,
  ⟨some 9, .mv (.c (.int .i64 0)), none, []⟩])
  (.seq (.seq (.reg [
  ⟨some 12, .ld (.t 4) 2 true, none, []⟩,
  ⟨some 13, .call 26 [.t 12], none, []⟩,
  ⟨some 10, .mv (.t 13), none, []⟩])
  (.seq (.reg [
  ⟨some 14, .mv (.t 10), none, []⟩,
  ⟨some 15, .bin .neq (.t 14) (.c (.int .i64 0)), none, []⟩])
  (.cond (.t 15)
  (.seq (.reg [
   ⟨some 16, .mv (.t 10), none, []⟩,
   ⟨some 8, .mv (.c (.int .i64 0)), none, []⟩,
   ⟨some 9, .mv (.t 16), none, []⟩])
   .ret)
  .skip)))
  (.seq (.seq (.reg [
  ⟨some 17, .addo (.t 4) 0, none, []⟩,
  ⟨some 18, .ld (.t 17) 1 false, none, []⟩,
  ⟨some 19, .len (.t 18), none, []⟩,
  ⟨some 20, .bin .sub (.t 19) (.c (.int .i64 1)), none, []⟩,
  ⟨some 21, .mv (.t 1), none, []⟩,
  ⟨some 22, .bsl 1 3 [.t 21], none, []⟩,
  ⟨some 23, .call 58 [.c (.int .i64 0), .t 20, .t 22], none, []⟩,
  ⟨some 24, .un .not (.t 23), none, []⟩,
  ⟨some 25, .mv (.t 24), none, []⟩,
  ⟨some 26, .mv (.t 2), some (25, false), []⟩,
  ⟨some 27, .bsl 1 3 [.t 26], some (25, false), []⟩,
  ⟨some 28, .call 58 [.c (.int .i64 0), .c (.int .i64 1000000000), .t 27], some (25, false), []⟩,
  ⟨some 29, .un .not (.t 28), some (25, false), []⟩,
  ⟨some 30, .pick (.t 25) (.c (.bool true)) (.t 29), none, []⟩,
  ⟨some 31, .mv (.t 30), none, []⟩,
  ⟨some 32, .mv (.t 3), some (31, false), []⟩,
  ⟨some 33, .bsl 1 3 [.t 32], some (31, false), []⟩,
  ⟨some 34, .call 58 [.c (.int .i64 1), .c (.int .i64 100), .t 33], some (31, false), []⟩,
  ⟨some 35, .un .not (.t 34), some (31, false), []⟩,
  ⟨some 36, .pick (.t 31) (.c (.bool true)) (.t 35), none, []⟩])
  (.cond (.t 36)
  (.seq (.reg [
   ⟨some 8, .mv (.c (.int .i64 0)), none, []⟩,
   ⟨some 9, .mv (.c (.int .i64 2)), none, []⟩])
   .ret)
  .skip))
  (.seq (.reg [
  ⟨some 37, .mv (.t 3), none, []⟩,
  ⟨some 38, .bin .mul (.c (.int .i64 1000000)) (.t 37), none, []⟩,
  ⟨some 11, .mv (.t 38), none, []⟩])
  (.seq (.reg [
  ⟨some 39, .mv (.t 2), none, []⟩,
  ⟨some 40, .addo (.t 4) 0, none, []⟩,
  ⟨some 41, .ld (.t 40) 1 false, none, []⟩,
  ⟨some 42, .mv (.t 1), none, []⟩,
  ⟨some 43, .ixs (.t 41) (.t 42) 9, none, []⟩,
  ⟨some 44, .addo (.t 43) 2, none, []⟩,
  ⟨some 45, .ld (.t 44) 1 false, none, []⟩,
  ⟨some 46, .bin .mul (.t 39) (.t 45), none, []⟩,
  ⟨some 47, .mv (.t 11), none, []⟩,
  ⟨some 48, .bin .add (.t 46) (.t 47), none, []⟩,
  ⟨some 49, .bin .sub (.t 48) (.c (.int .i64 1)), none, []⟩,
  ⟨some 50, .mv (.t 11), none, []⟩,
  ⟨some 51, .div .quo (.t 49) (.t 50), none, []⟩,
  ⟨some 8, .mv (.t 51), none, []⟩,
  ⟨some 9, .mv (.c (.int .i64 0)), none, []⟩])
  .ret)))))
def r19 : List RV := [.tmp 8, .tmp 9]
theorem n19 : Try.f19.ntmps = 52 := by kernel_rfl
theorem b19 : bodyB Try.prog 19 = true := by kernel_rfl
theorem c19_ok : cmpC Try.prog c19 ((Try.f19.body).getD .skip) = true := by kernel_rfl
theorem r19_ok : cmpR Try.prog r19 Try.f19.results.toList = true := by kernel_rfl
theorem t19 {args : List SV} {res : SV} (ka : KFL args) (kr : KF res) (h : sx Try.prog c19 (st0 args 52) (retK r19 res)) (hA : Nat.ble args.length 52 = true := by rfl) : Ct Try.prog 19 args res := ct_intro Try.func19 rfl b19 c19_ok r19_ok n19 (Nat.le_of_ble_eq_true hA) ka kr h
/- azalai/azalairef03.Work -/
def c20 : SC := (.seq (.reg [
  ⟨some 4, .box (.t 0) 0 25, none, []⟩,
  ⟨some 8, .mv (.c (.int .i64 0)), none, []⟩,
  ⟨some 9, .mv (.c (.int .i64 0)), none, []⟩])
  (.seq (.seq (.reg [
  ⟨some 10, .ld (.t 4) 2 true, none, []⟩,
  ⟨some 11, .call 60 [.t 10], none, []⟩,
  ⟨some 12, .un .not (.t 11), none, []⟩])
  (.cond (.t 12)
  (.seq (.reg [
   ⟨some 8, .mv (.c (.int .i64 0)), none, []⟩,
   ⟨some 9, .mv (.c (.int .i64 30)), none, []⟩])
   .ret)
  .skip))
  (.seq (.seq (.reg [
  ⟨some 13, .mv (.t 1), none, []⟩,
  ⟨some 14, .addo (.t 4) 0, none, []⟩,
  ⟨some 15, .ld (.t 14) 1 false, none, []⟩,
  ⟨some 16, .len (.t 15), none, []⟩,
  ⟨some 17, .bin .sub (.t 16) (.c (.int .i64 1)), none, []⟩,
  ⟨some 18, .call 61 [.t 13, .c (.int .i64 0), .t 17], none, []⟩,
  ⟨some 19, .un .not (.t 18), none, []⟩,
  ⟨some 20, .mv (.t 19), none, []⟩,
  ⟨some 21, .mv (.t 2), some (20, false), []⟩,
  ⟨some 22, .call 61 [.t 21, .c (.int .i64 0), .c (.int .i64 1000000000)], some (20, false), []⟩,
  ⟨some 23, .un .not (.t 22), some (20, false), []⟩,
  ⟨some 24, .pick (.t 20) (.c (.bool true)) (.t 23), none, []⟩,
  ⟨some 25, .mv (.t 24), none, []⟩,
  ⟨some 26, .mv (.t 3), some (25, false), []⟩,
  ⟨some 27, .call 61 [.t 26, .c (.int .i64 1), .c (.int .i64 100)], some (25, false), []⟩,
  ⟨some 28, .un .not (.t 27), some (25, false), []⟩,
  ⟨some 29, .pick (.t 25) (.c (.bool true)) (.t 28), none, []⟩])
  (.cond (.t 29)
  (.seq (.reg [
   ⟨some 8, .mv (.c (.int .i64 0)), none, []⟩,
   ⟨some 9, .mv (.c (.int .i64 2)), none, []⟩])
   .ret)
  .skip))
  (.seq (.reg [
  ⟨some 30, .mv (.t 2), none, []⟩,
  ⟨some 31, .addo (.t 4) 0, none, []⟩,
  ⟨some 32, .ld (.t 31) 1 false, none, []⟩,
  ⟨some 33, .mv (.t 1), none, []⟩,
  ⟨some 34, .ixs (.t 32) (.t 33) 9, none, []⟩,
  ⟨some 35, .addo (.t 34) 2, none, []⟩,
  ⟨some 36, .ld (.t 35) 1 false, none, []⟩,
  ⟨some 37, .bin .mul (.t 30) (.t 36), none, []⟩,
  ⟨some 38, .mv (.t 3), none, []⟩,
  ⟨some 39, .bin .mul (.c (.int .i64 1000000)) (.t 38), none, []⟩,
  ⟨some 40, .bin .add (.t 37) (.t 39), none, []⟩,
  ⟨some 41, .bin .sub (.t 40) (.c (.int .i64 1)), none, []⟩,
  ⟨some 42, .mv (.t 3), none, []⟩,
  ⟨some 43, .bin .mul (.c (.int .i64 1000000)) (.t 42), none, []⟩,
  ⟨some 44, .div .quo (.t 41) (.t 43), none, []⟩,
  ⟨some 8, .mv (.t 44), none, []⟩,
  ⟨some 9, .mv (.c (.int .i64 0)), none, []⟩])
  .ret))))
def r20 : List RV := [.tmp 8, .tmp 9]
theorem n20 : Try.f20.ntmps = 45 := by kernel_rfl
theorem b20 : bodyB Try.prog 20 = true := by kernel_rfl
theorem c20_ok : cmpC Try.prog c20 ((Try.f20.body).getD .skip) = true := by kernel_rfl
theorem r20_ok : cmpR Try.prog r20 Try.f20.results.toList = true := by kernel_rfl
theorem t20 {args : List SV} {res : SV} (ka : KFL args) (kr : KF res) (h : sx Try.prog c20 (st0 args 45) (retK r20 res)) (hA : Nat.ble args.length 45 = true := by rfl) : Ct Try.prog 20 args res := ct_intro Try.func20 rfl b20 c20_ok r20_ok n20 (Nat.le_of_ble_eq_true hA) ka kr h
/- azalai/way.Check -/
def c26 : SC := (.seq (.reg [
  ⟨some 1, .box (.t 0) 0 25, none, []⟩,
  ⟨some 2, .mv (.c (.int .i64 0)), none, []⟩])
  (.seq (.reg [
  ⟨some 5, .addo (.t 1) 0, none, []⟩,
  ⟨some 6, .ld (.t 5) 1 false, none, []⟩,
  ⟨some 7, .call 71 [.t 6, .f 72], none, []⟩,
  ⟨some 8, .un .not (.t 7), none, []⟩,
  ⟨some 3, .mv (.t 8), none, []⟩])
  (.seq (.reg [
  ⟨some 9, .addo (.t 1) 1, none, []⟩,
  ⟨some 10, .ld (.t 9) 1 false, none, []⟩,
  ⟨some 11, .mkf 75 [.t 1], none, []⟩,
  ⟨some 12, .call 74 [.t 10, .t 11], none, []⟩,
  ⟨some 13, .un .not (.t 12), none, []⟩,
  ⟨some 4, .mv (.t 13), none, []⟩])
  (.seq (.seq (.reg [
  ⟨some 14, .addo (.t 1) 0, none, []⟩,
  ⟨some 15, .ld (.t 14) 1 false, none, []⟩,
  ⟨some 16, .len (.t 15), none, []⟩,
  ⟨some 17, .bsl 1 3 [.t 16], none, []⟩,
  ⟨some 18, .call 58 [.c (.int .i64 1), .c (.int .i64 12), .t 17], none, []⟩,
  ⟨some 19, .un .not (.t 18), none, []⟩,
  ⟨some 20, .mv (.t 19), none, []⟩,
  ⟨some 21, .addo (.t 1) 1, some (20, false), []⟩,
  ⟨some 22, .ld (.t 21) 1 false, some (20, false), []⟩,
  ⟨some 23, .len (.t 22), some (20, false), []⟩,
  ⟨some 24, .bin .gtr (.t 23) (.c (.int .i64 24)), some (20, false), []⟩,
  ⟨some 25, .pick (.t 20) (.c (.bool true)) (.t 24), none, []⟩,
  ⟨some 26, .mv (.t 25), none, []⟩,
  ⟨some 27, .mv (.t 3), some (26, false), []⟩,
  ⟨some 28, .un .not (.t 27), some (26, false), []⟩,
  ⟨some 29, .pick (.t 26) (.c (.bool true)) (.t 28), none, []⟩,
  ⟨some 30, .mv (.t 29), none, []⟩,
  ⟨some 31, .mv (.t 4), some (30, false), []⟩,
  ⟨some 32, .un .not (.t 31), some (30, false), []⟩,
  ⟨some 33, .pick (.t 30) (.c (.bool true)) (.t 32), none, []⟩])
  (.cond (.t 33)
  (.seq (.reg [
   ⟨some 2, .mv (.c (.int .i64 30)), none, []⟩])
   .ret)
  .skip))
  (.seq (.reg [
  ⟨some 2, .mv (.c (.int .i64 0)), none, []⟩])
  .ret)))))
def r26 : List RV := [.tmp 2]
theorem n26 : Try.f26.ntmps = 34 := by kernel_rfl
theorem b26 : bodyB Try.prog 26 = true := by kernel_rfl
theorem c26_ok : cmpC Try.prog c26 ((Try.f26.body).getD .skip) = true := by kernel_rfl
theorem r26_ok : cmpR Try.prog r26 Try.f26.results.toList = true := by kernel_rfl
theorem t26 {args : List SV} {res : SV} (ka : KFL args) (kr : KF res) (h : sx Try.prog c26 (st0 args 34) (retK r26 res)) (hA : Nat.ble args.length 34 = true := by rfl) : Ct Try.prog 26 args res := ct_intro Try.func26 rfl b26 c26_ok r26_ok n26 (Nat.le_of_ble_eq_true hA) ka kr h
/- azalai/azalairef03.Draws -/
def c55 : SC := (.seq (.reg [
  ⟨some 2, .box (.t 0) 0 25, none, []⟩,
  ⟨some 4, .mv (.c (.bool false)), none, []⟩])
  (.seq (.seq (.reg [
  ⟨some 5, .mv (.c (.int .i64 0)), none, []⟩])
  (.block 0 (.loop (.seq (.seq (.reg [
    ⟨some 7, .mv (.t 5), none, []⟩,
    ⟨some 8, .mv (.t 1), none, []⟩,
    ⟨some 9, .len (.t 8), none, []⟩,
    ⟨some 10, .bin .lss (.t 7) (.t 9), none, []⟩])
    (.cond (.t 10)
    .skip
    (.exit 0)))
    (.seq (.block 1 (.seq (.reg [
     ⟨some 13, .mv (.t 1), none, []⟩,
     ⟨some 14, .mv (.t 5), none, []⟩,
     ⟨some 15, .ixs (.t 13) (.t 14) 3, none, []⟩,
     ⟨some 16, .ld (.t 15) 3 true, none, []⟩,
     ⟨some 6, .alloc [.int .i64 0, .int .i64 0, .int .i64 0] 40, none, []⟩,
     ⟨none, .st (.t 6) (.t 16) 3, none, []⟩])
     (.seq (.regd [0, 1, 2, 3, 4, 5, 6, 7, 8, 9, 10, 11, 12, 13, 14, 15, 16, 17, 18, 19, 20, 21, 22, 23, 24, 25, 26, 27, 28, 29, 30, 31, 32, 33, 34] [
     .op ⟨some 17, .addo (.t 6) 0, none, []⟩,
     .op ⟨some 18, .ld (.t 17) 1 false, none, [0]⟩,
     .op ⟨some 19, .addo (.t 2) 0, none, []⟩,
     .op ⟨some 20, .ld (.t 19) 1 false, none, [2]⟩,
     .op ⟨some 21, .len (.t 20), none, [3]⟩,
     .op ⟨some 22, .bin .sub (.t 21) (.c (.int .i64 1)), none, [4]⟩,
     .op ⟨some 23, .call 61 [.t 18, .c (.int .i64 0), .t 22], none, [1, 5]⟩,
     .op ⟨some 24, .un .not (.t 23), none, [6]⟩,
     .op ⟨some 25, .mv (.t 24), none, [6, 7]⟩,
     .op ⟨some 26, .addo (.t 6) 1, some (25, false), [8]⟩,
     .op ⟨some 27, .ld (.t 26) 1 false, some (25, false), [8, 9]⟩,
     .op ⟨some 28, .call 61 [.t 27, .c (.int .i64 0), .c (.int .i64 100000)], some (25, false), [8, 10]⟩,
     .op ⟨some 29, .un .not (.t 28), some (25, false), [8, 11]⟩,
     .op ⟨some 30, .pick (.t 25) (.c (.bool true)) (.t 29), none, [8, 12]⟩,
     .op ⟨some 31, .mv (.t 30), none, [11, 13]⟩,
     .op ⟨some 32, .addo (.t 6) 2, some (31, false), [14]⟩,
     .op ⟨some 33, .ld (.t 32) 1 false, some (31, false), [14, 15]⟩,
     .op ⟨some 34, .call 61 [.t 33, .c (.int .i64 0), .c (.int .i64 1000000000)], some (31, false), [14, 16]⟩,
     .op ⟨some 35, .un .not (.t 34), some (31, false), [14, 17]⟩,
     .op ⟨some 36, .pick (.t 31) (.c (.bool true)) (.t 35), none, [14, 18]⟩,
     .op ⟨some 37, .mv (.t 36), none, [17, 19]⟩,
     .op ⟨some 38, .mv (.t 5), some (37, false), [20]⟩,
     .op ⟨some 39, .bin .gtr (.t 38) (.c (.int .i64 0)), some (37, false), [20, 21]⟩,
     .op ⟨some 40, .mv (.t 39), some (37, false), [20, 22]⟩,
     .op ⟨some 41, .addo (.t 6) 1, some (40, true), [23]⟩,
     .op ⟨some 42, .ld (.t 41) 1 false, some (40, true), [23, 24]⟩,
     .op ⟨some 43, .mv (.t 1), some (40, true), [23]⟩,
     .op ⟨some 44, .mv (.t 5), some (40, true), [23]⟩,
     .op ⟨some 45, .bin .sub (.t 44) (.c (.int .i64 1)), some (40, true), [23, 27]⟩,
     .op ⟨some 46, .ixs (.t 43) (.t 45) 3, some (40, true), [23, 26, 28]⟩,
     .op ⟨some 47, .addo (.t 46) 1, some (40, true), [23, 29]⟩,
     .op ⟨some 48, .ld (.t 47) 1 false, some (40, true), [23, 30]⟩,
     .op ⟨some 49, .bin .lss (.t 42) (.t 48), some (40, true), [23, 25, 31]⟩,
     .op ⟨some 50, .pick (.t 40) (.t 49) (.c (.bool false)), some (37, false), [20, 23, 32]⟩,
     .op ⟨some 51, .pick (.t 37) (.c (.bool true)) (.t 50), none, [20, 33]⟩] 0 0 [
])
     (.cond (.t 51)
     (.seq (.reg [
      ⟨some 4, .mv (.c (.bool false)), none, []⟩])
      .ret)
     .skip))))
    (.reg [
    ⟨some 11, .mv (.t 5), none, []⟩,
    ⟨some 12, .bin .add (.t 11) (.c (.int .i64 1)), none, []⟩,
    ⟨some 5, .mv (.t 12), none, []⟩]))))))
  (.seq (.reg [
  ⟨some 4, .mv (.c (.bool true)), none, []⟩])
  .ret)))
def r55 : List RV := [.tmp 4]
theorem n55 : Try.f55.ntmps = 52 := by kernel_rfl
theorem b55 : bodyB Try.prog 55 = true := by kernel_rfl
theorem c55_ok : cmpC Try.prog c55 ((Try.f55.body).getD .skip) = true := by kernel_rfl
theorem r55_ok : cmpR Try.prog r55 Try.f55.results.toList = true := by kernel_rfl
theorem t55 {args : List SV} {res : SV} (ka : KFL args) (kr : KF res) (h : sx Try.prog c55 (st0 args 52) (retK r55 res)) (hA : Nat.ble args.length 52 = true := by rfl) : Ct Try.prog 55 args res := ct_intro Try.func55 rfl b55 c55_ok r55_ok n55 (Nat.le_of_ble_eq_true hA) ka kr h
/- azalai/way.from -/
def c58 : SC := (.seq (.reg [
  ⟨some 3, .box (.t 0) 0 3, none, []⟩,
  ⟨some 4, .box (.t 1) 0 3, none, []⟩,
  ⟨some 6, .mv (.c (.bool false)), none, []⟩])
  (.seq (.reg [
  ⟨some 7, .mv (.t 2), none, []⟩,
  ⟨some 8, .mkf 91 [.t 3, .t 4], none, []⟩,
  ⟨some 9, .call 90 [.t 7, .t 8], none, []⟩,
  ⟨some 10, .un .not (.t 9), none, []⟩,
  ⟨some 6, .mv (.t 10), none, []⟩])
  .ret))
def r58 : List RV := [.tmp 6]
theorem n58 : Try.f58.ntmps = 11 := by kernel_rfl
theorem b58 : bodyB Try.prog 58 = true := by kernel_rfl
theorem c58_ok : cmpC Try.prog c58 ((Try.f58.body).getD .skip) = true := by kernel_rfl
theorem r58_ok : cmpR Try.prog r58 Try.f58.results.toList = true := by kernel_rfl
theorem t58 {args : List SV} {res : SV} (ka : KFL args) (kr : KF res) (h : sx Try.prog c58 (st0 args 11) (retK r58 res)) (hA : Nat.ble args.length 11 = true := by rfl) : Ct Try.prog 58 args res := ct_intro Try.func58 rfl b58 c58_ok r58_ok n58 (Nat.le_of_ble_eq_true hA) ka kr h
/- azalai/way.filled -/
def c59 : SC := (.seq (.reg [
  ⟨some 3, .box (.t 0) 0 109, none, []⟩,
  ⟨some 4, .box (.t 1) 0 29, none, []⟩,
  ⟨some 6, .alloc [.int .i64 0, .int .i64 0] 29, none, []⟩])
  (.seq (.reg [
  ⟨some 7, .addo (.t 3) 5, none, []⟩,
  ⟨some 8, .ld (.t 7) 1 false, none, []⟩,
  ⟨some 9, .addo (.t 4) 0, none, []⟩,
  ⟨some 10, .ld (.t 9) 1 false, none, []⟩,
  ⟨some 11, .mv (.t 2), none, []⟩,
  ⟨some 12, .addo (.t 3) 3, none, []⟩,
  ⟨some 13, .addo (.t 12) 0, none, []⟩,
  ⟨some 14, .ld (.t 13) 1 false, none, []⟩,
  ⟨some 15, .bin .mul (.t 11) (.t 14), none, []⟩,
  ⟨some 16, .bin .add (.t 10) (.t 15), none, []⟩,
  ⟨some 17, .mm false [.t 8, .t 16], none, []⟩,
  ⟨some 18, .addo (.t 3) 5, none, []⟩,
  ⟨some 19, .ld (.t 18) 1 false, none, []⟩,
  ⟨some 20, .addo (.t 4) 1, none, []⟩,
  ⟨some 21, .ld (.t 20) 1 false, none, []⟩,
  ⟨some 22, .mv (.t 2), none, []⟩,
  ⟨some 23, .addo (.t 3) 3, none, []⟩,
  ⟨some 24, .addo (.t 23) 1, none, []⟩,
  ⟨some 25, .ld (.t 24) 1 false, none, []⟩,
  ⟨some 26, .bin .mul (.t 22) (.t 25), none, []⟩,
  ⟨some 27, .bin .add (.t 21) (.t 26), none, []⟩,
  ⟨some 28, .mm false [.t 19, .t 27], none, []⟩,
  ⟨some 29, .build [.int .i64 0, .int .i64 0] [(0, 1, .t 17), (1, 1, .t 28)], none, []⟩,
  ⟨none, .st (.t 6) (.t 29) 2, none, []⟩])
  .ret))
def r59 : List RV := [.cell 6 2 true]
theorem n59 : Try.f59.ntmps = 30 := by kernel_rfl
theorem b59 : bodyB Try.prog 59 = true := by kernel_rfl
theorem c59_ok : cmpC Try.prog c59 ((Try.f59.body).getD .skip) = true := by kernel_rfl
theorem r59_ok : cmpR Try.prog r59 Try.f59.results.toList = true := by kernel_rfl
theorem t59 {args : List SV} {res : SV} (ka : KFL args) (kr : KF res) (h : sx Try.prog c59 (st0 args 30) (retK r59 res)) (hA : Nat.ble args.length 30 = true := by rfl) : Ct Try.prog 59 args res := ct_intro Try.func59 rfl b59 c59_ok r59_ok n59 (Nat.le_of_ble_eq_true hA) ka kr h
/- azalai/azalairef03.Land -/
def c60 : SC := (.seq (.reg [
  ⟨some 1, .box (.t 0) 0 25, none, []⟩,
  ⟨some 2, .mv (.c (.bool false)), none, []⟩])
  (.seq (.seq (.reg [
  ⟨some 10, .addo (.t 1) 0, none, []⟩,
  ⟨some 11, .ld (.t 10) 1 false, none, []⟩,
  ⟨some 12, .len (.t 11), none, []⟩,
  ⟨some 13, .call 61 [.t 12, .c (.int .i64 1), .c (.int .i64 12)], none, []⟩,
  ⟨some 14, .un .not (.t 13), none, []⟩,
  ⟨some 15, .mv (.t 14), none, []⟩,
  ⟨some 16, .addo (.t 1) 1, some (15, false), []⟩,
  ⟨some 17, .ld (.t 16) 1 false, some (15, false), []⟩,
  ⟨some 18, .len (.t 17), some (15, false), []⟩,
  ⟨some 19, .bin .gtr (.t 18) (.c (.int .i64 24)), some (15, false), []⟩,
  ⟨some 20, .pick (.t 15) (.c (.bool true)) (.t 19), none, []⟩])
  (.cond (.t 20)
  (.seq (.reg [
   ⟨some 2, .mv (.c (.bool false)), none, []⟩])
   .ret)
  .skip))
  (.seq (.seq (.reg [
  ⟨some 3, .mv (.c (.int .i64 0)), none, []⟩])
  (.block 0 (.loop (.seq (.seq (.reg [
    ⟨some 21, .mv (.t 3), none, []⟩,
    ⟨some 22, .addo (.t 1) 0, none, []⟩,
    ⟨some 23, .ld (.t 22) 1 false, none, []⟩,
    ⟨some 24, .len (.t 23), none, []⟩,
    ⟨some 25, .bin .lss (.t 21) (.t 24), none, []⟩])
    (.cond (.t 25)
    .skip
    (.exit 0)))
    (.seq (.block 1 (.seq (.reg [
     ⟨some 28, .addo (.t 1) 0, none, []⟩,
     ⟨some 29, .ld (.t 28) 1 false, none, []⟩,
     ⟨some 30, .mv (.t 3), none, []⟩,
     ⟨some 31, .ixs (.t 29) (.t 30) 9, none, []⟩,
     ⟨some 32, .ld (.t 31) 9 true, none, []⟩,
     ⟨some 4, .alloc [.int .i64 0, .int .i64 0, .int .i64 0, .int .i64 0, .int .i64 0, .int .i64 0, .int .i64 0, .int .i64 0, .int .i64 0] 109, none, []⟩,
     ⟨none, .st (.t 4) (.t 32) 9, none, []⟩])
     (.seq (.reg [
     ⟨some 33, .addo (.t 4) 0, none, []⟩,
     ⟨some 34, .ld (.t 33) 1 false, none, []⟩,
     ⟨some 35, .call 61 [.t 34, .c (.int .i64 (-10000000)), .c (.int .i64 10000000)], none, []⟩,
     ⟨some 36, .un .not (.t 35), none, []⟩,
     ⟨some 37, .mv (.t 36), none, []⟩,
     ⟨some 38, .addo (.t 4) 1, some (37, false), []⟩,
     ⟨some 39, .ld (.t 38) 1 false, some (37, false), []⟩,
     ⟨some 40, .call 61 [.t 39, .c (.int .i64 (-10000000)), .c (.int .i64 10000000)], some (37, false), []⟩,
     ⟨some 41, .un .not (.t 40), some (37, false), []⟩,
     ⟨some 42, .pick (.t 37) (.c (.bool true)) (.t 41), none, []⟩,
     ⟨some 43, .mv (.t 42), none, []⟩,
     ⟨some 44, .addo (.t 4) 2, some (43, false), []⟩,
     ⟨some 45, .ld (.t 44) 1 false, some (43, false), []⟩,
     ⟨some 46, .call 61 [.t 45, .c (.int .i64 0), .c (.int .i64 200)], some (43, false), []⟩,
     ⟨some 47, .un .not (.t 46), some (43, false), []⟩,
     ⟨some 48, .pick (.t 43) (.c (.bool true)) (.t 47), none, []⟩,
     ⟨some 49, .mv (.t 48), none, []⟩,
     ⟨some 50, .addo (.t 4) 3, some (49, false), []⟩,
     ⟨some 51, .ld (.t 50) 2 true, some (49, false), []⟩,
     ⟨some 52, .call 92 [.t 51, .c (.int .i64 0), .c (.int .i64 10000000)], some (49, false), []⟩,
     ⟨some 53, .un .not (.t 52), some (49, false), []⟩,
     ⟨some 54, .pick (.t 49) (.c (.bool true)) (.t 53), none, []⟩,
     ⟨some 55, .mv (.t 54), none, []⟩,
     ⟨some 56, .addo (.t 4) 5, some (55, false), []⟩,
     ⟨some 57, .ld (.t 56) 1 false, some (55, false), []⟩,
     ⟨some 58, .call 61 [.t 57, .c (.int .i64 0), .c (.int .i64 1000000000)], some (55, false), []⟩,
     ⟨some 59, .un .not (.t 58), some (55, false), []⟩,
     ⟨some 60, .pick (.t 55) (.c (.bool true)) (.t 59), none, []⟩,
     ⟨some 61, .mv (.t 60), none, []⟩,
     ⟨some 62, .addo (.t 4) 6, some (61, false), []⟩,
     ⟨some 63, .ld (.t 62) 2 true, some (61, false), []⟩,
     ⟨some 64, .addo (.t 4) 5, some (61, false), []⟩,
     ⟨some 65, .ld (.t 64) 1 false, some (61, false), []⟩,
     ⟨some 66, .call 92 [.t 63, .c (.int .i64 0), .t 65], some (61, false), []⟩,
     ⟨some 67, .un .not (.t 66), some (61, false), []⟩,
     ⟨some 68, .pick (.t 61) (.c (.bool true)) (.t 67), none, []⟩,
     ⟨some 69, .mv (.t 68), none, []⟩,
     ⟨some 70, .addo (.t 4) 8, some (69, false), []⟩,
     ⟨some 71, .ld (.t 70) 1 false, some (69, false), []⟩,
     ⟨some 72, .call 61 [.t 71, .c (.int .i64 0), .c (.int .i64 9999)], some (69, false), []⟩,
     ⟨some 73, .un .not (.t 72), some (69, false), []⟩,
     ⟨some 74, .pick (.t 69) (.c (.bool true)) (.t 73), none, []⟩])
     (.cond (.t 74)
     (.seq (.reg [
      ⟨some 2, .mv (.c (.bool false)), none, []⟩])
      .ret)
     .skip))))
    (.reg [
    ⟨some 26, .mv (.t 3), none, []⟩,
    ⟨some 27, .bin .add (.t 26) (.c (.int .i64 1)), none, []⟩,
    ⟨some 3, .mv (.t 27), none, []⟩]))))))
  (.seq (.seq (.reg [
  ⟨some 5, .mv (.c (.int .i64 0)), none, []⟩])
  (.block 2 (.loop (.seq (.seq (.reg [
    ⟨some 75, .mv (.t 5), none, []⟩,
    ⟨some 76, .addo (.t 1) 1, none, []⟩,
    ⟨some 77, .ld (.t 76) 1 false, none, []⟩,
    ⟨some 78, .len (.t 77), none, []⟩,
    ⟨some 79, .bin .lss (.t 75) (.t 78), none, []⟩])
    (.cond (.t 79)
    .skip
    (.exit 2)))
    (.seq (.block 3 (.seq (.reg [
     ⟨some 82, .addo (.t 1) 1, none, []⟩,
     ⟨some 83, .ld (.t 82) 1 false, none, []⟩,
     ⟨some 84, .mv (.t 5), none, []⟩,
     ⟨some 85, .ixs (.t 83) (.t 84) 5, none, []⟩,
     ⟨some 86, .ld (.t 85) 5 true, none, []⟩,
     ⟨some 6, .alloc [.int .i64 0, .int .i64 0, .int .i64 0, .int .i64 0, .slice none 0 0] 86, none, []⟩,
     ⟨none, .st (.t 6) (.t 86) 5, none, []⟩])
     (.seq (.seq (.reg [
     ⟨some 87, .addo (.t 6) 0, none, []⟩,
     ⟨some 88, .ld (.t 87) 1 false, none, []⟩,
     ⟨some 89, .addo (.t 1) 0, none, []⟩,
     ⟨some 90, .ld (.t 89) 1 false, none, []⟩,
     ⟨some 91, .len (.t 90), none, []⟩,
     ⟨some 92, .bin .sub (.t 91) (.c (.int .i64 1)), none, []⟩,
     ⟨some 93, .call 61 [.t 88, .c (.int .i64 0), .t 92], none, []⟩,
     ⟨some 94, .un .not (.t 93), none, []⟩,
     ⟨some 95, .mv (.t 94), none, []⟩,
     ⟨some 96, .addo (.t 6) 1, some (95, false), []⟩,
     ⟨some 97, .ld (.t 96) 1 false, some (95, false), []⟩,
     ⟨some 98, .addo (.t 1) 0, some (95, false), []⟩,
     ⟨some 99, .ld (.t 98) 1 false, some (95, false), []⟩,
     ⟨some 100, .len (.t 99), some (95, false), []⟩,
     ⟨some 101, .bin .sub (.t 100) (.c (.int .i64 1)), some (95, false), []⟩,
     ⟨some 102, .call 61 [.t 97, .c (.int .i64 0), .t 101], some (95, false), []⟩,
     ⟨some 103, .un .not (.t 102), some (95, false), []⟩,
     ⟨some 104, .pick (.t 95) (.c (.bool true)) (.t 103), none, []⟩,
     ⟨some 105, .mv (.t 104), none, []⟩,
     ⟨some 106, .addo (.t 6) 0, some (105, false), []⟩,
     ⟨some 107, .ld (.t 106) 1 false, some (105, false), []⟩,
     ⟨some 108, .addo (.t 6) 1, some (105, false), []⟩,
     ⟨some 109, .ld (.t 108) 1 false, some (105, false), []⟩,
     ⟨some 110, .bin .eql (.t 107) (.t 109), some (105, false), []⟩,
     ⟨some 111, .pick (.t 105) (.c (.bool true)) (.t 110), none, []⟩,
     ⟨some 112, .mv (.t 111), none, []⟩,
     ⟨some 113, .addo (.t 6) 2, some (112, false), []⟩,
     ⟨some 114, .ld (.t 113) 2 true, some (112, false), []⟩,
     ⟨some 115, .call 92 [.t 114, .c (.int .i64 1), .c (.int .i64 1000000)], some (112, false), []⟩,
     ⟨some 116, .un .not (.t 115), some (112, false), []⟩,
     ⟨some 117, .pick (.t 112) (.c (.bool true)) (.t 116), none, []⟩,
     ⟨some 118, .mv (.t 117), none, []⟩,
     ⟨some 119, .addo (.t 6) 4, some (118, false), []⟩,
     ⟨some 120, .ld (.t 119) 1 false, some (118, false), []⟩,
     ⟨some 121, .len (.t 120), some (118, false), []⟩,
     ⟨some 122, .bin .gtr (.t 121) (.c (.int .i64 6)), some (118, false), []⟩,
     ⟨some 123, .pick (.t 118) (.c (.bool true)) (.t 122), none, []⟩])
     (.cond (.t 123)
     (.seq (.reg [
      ⟨some 2, .mv (.c (.bool false)), none, []⟩])
      .ret)
     .skip))
     (.seq (.reg [
     ⟨some 7, .mv (.c (.int .i64 (-1))), none, []⟩])
     (.seq (.reg [
     ⟨some 8, .mv (.c (.int .i64 0)), none, []⟩])
     (.block 4 (.loop (.seq (.seq (.reg [
       ⟨some 124, .mv (.t 8), none, []⟩,
       ⟨some 125, .addo (.t 6) 4, none, []⟩,
       ⟨some 126, .ld (.t 125) 1 false, none, []⟩,
       ⟨some 127, .len (.t 126), none, []⟩,
       ⟨some 128, .bin .lss (.t 124) (.t 127), none, []⟩])
       (.cond (.t 128)
       .skip
       (.exit 4)))
       (.seq (.block 5 (.seq (.reg [
        ⟨some 131, .addo (.t 6) 4, none, []⟩,
        ⟨some 132, .ld (.t 131) 1 false, none, []⟩,
        ⟨some 133, .mv (.t 8), none, []⟩,
        ⟨some 134, .ixs (.t 132) (.t 133) 4, none, []⟩,
        ⟨some 135, .ld (.t 134) 4 true, none, []⟩,
        ⟨some 9, .alloc [.int .i64 0, .int .i64 0, .int .i64 0, .int .i64 0] 95, none, []⟩,
        ⟨none, .st (.t 9) (.t 135) 4, none, []⟩])
        (.seq (.seq (.reg [
        ⟨some 136, .addo (.t 9) 0, none, []⟩,
        ⟨some 137, .ld (.t 136) 2 true, none, []⟩,
        ⟨some 138, .call 92 [.t 137, .c (.int .i64 0), .c (.int .i64 100000)], none, []⟩,
        ⟨some 139, .un .not (.t 138), none, []⟩,
        ⟨some 140, .mv (.t 139), none, []⟩,
        ⟨some 141, .addo (.t 9) 2, some (140, false), []⟩,
        ⟨some 142, .ld (.t 141) 2 true, some (140, false), []⟩,
        ⟨some 143, .call 92 [.t 142, .c (.int .i64 0), .c (.int .i64 100000)], some (140, false), []⟩,
        ⟨some 144, .un .not (.t 143), some (140, false), []⟩,
        ⟨some 145, .pick (.t 140) (.c (.bool true)) (.t 144), none, []⟩,
        ⟨some 146, .mv (.t 145), none, []⟩,
        ⟨some 147, .addo (.t 9) 0, some (146, false), []⟩,
        ⟨some 148, .addo (.t 147) 0, some (146, false), []⟩,
        ⟨some 149, .ld (.t 148) 1 false, some (146, false), []⟩,
        ⟨some 150, .addo (.t 9) 2, some (146, false), []⟩,
        ⟨some 151, .addo (.t 150) 1, some (146, false), []⟩,
        ⟨some 152, .ld (.t 151) 1 false, some (146, false), []⟩,
        ⟨some 153, .bin .gtr (.t 149) (.t 152), some (146, false), []⟩,
        ⟨some 154, .pick (.t 146) (.c (.bool true)) (.t 153), none, []⟩,
        ⟨some 155, .mv (.t 154), none, []⟩,
        ⟨some 156, .addo (.t 9) 0, some (155, false), []⟩,
        ⟨some 157, .addo (.t 156) 0, some (155, false), []⟩,
        ⟨some 158, .ld (.t 157) 1 false, some (155, false), []⟩,
        ⟨some 159, .mv (.t 7), some (155, false), []⟩,
        ⟨some 160, .bin .leq (.t 158) (.t 159), some (155, false), []⟩,
        ⟨some 161, .pick (.t 155) (.c (.bool true)) (.t 160), none, []⟩])
        (.cond (.t 161)
        (.seq (.reg [
         ⟨some 2, .mv (.c (.bool false)), none, []⟩])
         .ret)
        .skip))
        (.reg [
        ⟨some 162, .addo (.t 9) 2, none, []⟩,
        ⟨some 163, .addo (.t 162) 1, none, []⟩,
        ⟨some 164, .ld (.t 163) 1 false, none, []⟩,
        ⟨some 7, .mv (.t 164), none, []⟩]))))
       (.reg [
       ⟨some 129, .mv (.t 8), none, []⟩,
       ⟨some 130, .bin .add (.t 129) (.c (.int .i64 1)), none, []⟩,
       ⟨some 8, .mv (.t 130), none, []⟩]))))))))))
    (.reg [
    ⟨some 80, .mv (.t 5), none, []⟩,
    ⟨some 81, .bin .add (.t 80) (.c (.int .i64 1)), none, []⟩,
    ⟨some 5, .mv (.t 81), none, []⟩]))))))
  (.seq (.reg [
  ⟨some 2, .mv (.c (.bool true)), none, []⟩])
  .ret)))))
def r60 : List RV := [.tmp 2]
theorem n60 : Try.f60.ntmps = 165 := by kernel_rfl
theorem b60 : bodyB Try.prog 60 = true := by kernel_rfl
theorem c60_ok : cmpC Try.prog c60 ((Try.f60.body).getD .skip) = true := by kernel_rfl
theorem r60_ok : cmpR Try.prog r60 Try.f60.results.toList = true := by kernel_rfl
theorem t60 {args : List SV} {res : SV} (ka : KFL args) (kr : KF res) (h : sx Try.prog c60 (st0 args 165) (retK r60 res)) (hA : Nat.ble args.length 165 = true := by rfl) : Ct Try.prog 60 args res := ct_intro Try.func60 rfl b60 c60_ok r60_ok n60 (Nat.le_of_ble_eq_true hA) ka kr h
/- azalai/azalairef03.within -/
def c61 : SC := (.seq (.reg [
  ⟨some 6, .mv (.c (.bool false)), none, []⟩])
  (.seq (.reg [
  ⟨some 7, .mv (.t 0), none, []⟩,
  ⟨some 8, .mv (.t 1), none, []⟩,
  ⟨some 9, .bin .geq (.t 7) (.t 8), none, []⟩,
  ⟨some 10, .mv (.t 9), none, []⟩,
  ⟨some 11, .mv (.t 0), some (10, true), []⟩,
  ⟨some 12, .mv (.t 2), some (10, true), []⟩,
  ⟨some 13, .bin .leq (.t 11) (.t 12), some (10, true), []⟩,
  ⟨some 14, .pick (.t 10) (.t 13) (.c (.bool false)), none, []⟩,
  ⟨some 6, .mv (.t 14), none, []⟩])
  .ret))
def r61 : List RV := [.tmp 6]
theorem n61 : Try.f61.ntmps = 15 := by kernel_rfl
theorem b61 : bodyB Try.prog 61 = true := by kernel_rfl
theorem c61_ok : cmpC Try.prog c61 ((Try.f61.body).getD .skip) = true := by kernel_rfl
theorem r61_ok : cmpR Try.prog r61 Try.f61.results.toList = true := by kernel_rfl
theorem t61 {args : List SV} {res : SV} (ka : KFL args) (kr : KF res) (h : sx Try.prog c61 (st0 args 15) (retK r61 res)) (hA : Nat.ble args.length 15 = true := by rfl) : Ct Try.prog 61 args res := ct_intro Try.func61 rfl b61 c61_ok r61_ok n61 (Nat.le_of_ble_eq_true hA) ka kr h
/- azalai/azalairef03.filled -/
def c62 : SC := (.seq (.reg [
  ⟨some 3, .box (.t 0) 0 109, none, []⟩,
  ⟨some 4, .box (.t 1) 0 29, none, []⟩,
  ⟨some 6, .alloc [.int .i64 0, .int .i64 0] 29, none, []⟩])
  (.seq (.reg [
  ⟨some 7, .addo (.t 3) 5, none, []⟩,
  ⟨some 8, .ld (.t 7) 1 false, none, []⟩,
  ⟨some 9, .addo (.t 4) 0, none, []⟩,
  ⟨some 10, .ld (.t 9) 1 false, none, []⟩,
  ⟨some 11, .mv (.t 2), none, []⟩,
  ⟨some 12, .addo (.t 3) 3, none, []⟩,
  ⟨some 13, .addo (.t 12) 0, none, []⟩,
  ⟨some 14, .ld (.t 13) 1 false, none, []⟩,
  ⟨some 15, .bin .mul (.t 11) (.t 14), none, []⟩,
  ⟨some 16, .bin .add (.t 10) (.t 15), none, []⟩,
  ⟨some 17, .mm false [.t 8, .t 16], none, []⟩,
  ⟨some 18, .addo (.t 3) 5, none, []⟩,
  ⟨some 19, .ld (.t 18) 1 false, none, []⟩,
  ⟨some 20, .addo (.t 4) 1, none, []⟩,
  ⟨some 21, .ld (.t 20) 1 false, none, []⟩,
  ⟨some 22, .mv (.t 2), none, []⟩,
  ⟨some 23, .addo (.t 3) 3, none, []⟩,
  ⟨some 24, .addo (.t 23) 1, none, []⟩,
  ⟨some 25, .ld (.t 24) 1 false, none, []⟩,
  ⟨some 26, .bin .mul (.t 22) (.t 25), none, []⟩,
  ⟨some 27, .bin .add (.t 21) (.t 26), none, []⟩,
  ⟨some 28, .mm false [.t 19, .t 27], none, []⟩,
  ⟨some 29, .build [.int .i64 0, .int .i64 0] [(0, 1, .t 17), (1, 1, .t 28)], none, []⟩,
  ⟨none, .st (.t 6) (.t 29) 2, none, []⟩])
  .ret))
def r62 : List RV := [.cell 6 2 true]
theorem n62 : Try.f62.ntmps = 30 := by kernel_rfl
theorem b62 : bodyB Try.prog 62 = true := by kernel_rfl
theorem c62_ok : cmpC Try.prog c62 ((Try.f62.body).getD .skip) = true := by kernel_rfl
theorem r62_ok : cmpR Try.prog r62 Try.f62.results.toList = true := by kernel_rfl
theorem t62 {args : List SV} {res : SV} (ka : KFL args) (kr : KF res) (h : sx Try.prog c62 (st0 args 30) (retK r62 res)) (hA : Nat.ble args.length 30 = true := by rfl) : Ct Try.prog 62 args res := ct_intro Try.func62 rfl b62 c62_ok r62_ok n62 (Nat.le_of_ble_eq_true hA) ka kr h
/- slices.ContainsFunc[[]azalai/api.Well,azalai/api.Well] -/
def c71 : SC := (.seq (.reg [
  ⟨some 4, .mv (.c (.bool false)), none, []⟩])
  (.seq (.reg [
  ⟨some 5, .mv (.t 0), none, []⟩,
  ⟨some 6, .mv (.t 1), none, []⟩,
  ⟨some 7, .call 95 [.t 5, .t 6], none, []⟩,
  ⟨some 8, .bin .geq (.t 7) (.c (.int .i64 0)), none, []⟩,
  ⟨some 4, .mv (.t 8), none, []⟩])
  .ret))
def r71 : List RV := [.tmp 4]
theorem n71 : Try.f71.ntmps = 9 := by kernel_rfl
theorem b71 : bodyB Try.prog 71 = true := by kernel_rfl
theorem c71_ok : cmpC Try.prog c71 ((Try.f71.body).getD .skip) = true := by kernel_rfl
theorem r71_ok : cmpR Try.prog r71 Try.f71.results.toList = true := by kernel_rfl
theorem t71 {args : List SV} {res : SV} (ka : KFL args) (kr : KF res) (h : sx Try.prog c71 (st0 args 9) (retK r71 res)) (hA : Nat.ble args.length 9 = true := by rfl) : Ct Try.prog 71 args res := ct_intro Try.func71 rfl b71 c71_ok r71_ok n71 (Nat.le_of_ble_eq_true hA) ka kr h
/- azalai/way.Check$1 -/
def c72 : SC := (.seq (.reg [
  ⟨some 1, .box (.t 0) 0 109, none, []⟩,
  ⟨some 2, .mv (.c (.bool false)), none, []⟩])
  (.seq (.reg [
  ⟨some 3, .ld (.t 1) 9 true, none, []⟩,
  ⟨some 4, .call 73 [.t 3], none, []⟩,
  ⟨some 5, .un .not (.t 4), none, []⟩,
  ⟨some 2, .mv (.t 5), none, []⟩])
  .ret))
def r72 : List RV := [.tmp 2]
theorem n72 : Try.f72.ntmps = 6 := by kernel_rfl
theorem b72 : bodyB Try.prog 72 = true := by kernel_rfl
theorem c72_ok : cmpC Try.prog c72 ((Try.f72.body).getD .skip) = true := by kernel_rfl
theorem r72_ok : cmpR Try.prog r72 Try.f72.results.toList = true := by kernel_rfl
theorem t72 {args : List SV} {res : SV} (ka : KFL args) (kr : KF res) (h : sx Try.prog c72 (st0 args 6) (retK r72 res)) (hA : Nat.ble args.length 6 = true := by rfl) : Ct Try.prog 72 args res := ct_intro Try.func72 rfl b72 c72_ok r72_ok n72 (Nat.le_of_ble_eq_true hA) ka kr h
/- azalai/way.dug -/
def c73 : SC := (.seq (.reg [
  ⟨some 1, .box (.t 0) 0 109, none, []⟩,
  ⟨some 2, .mv (.c (.bool false)), none, []⟩])
  (.seq (.reg [
  ⟨some 3, .addo (.t 1) 0, none, []⟩,
  ⟨some 4, .ld (.t 3) 1 false, none, []⟩,
  ⟨some 5, .addo (.t 1) 1, none, []⟩,
  ⟨some 6, .ld (.t 5) 1 false, none, []⟩,
  ⟨some 7, .bsl 1 3 [.t 4, .t 6], none, []⟩,
  ⟨some 8, .call 58 [.c (.int .i64 (-10000000)), .c (.int .i64 10000000), .t 7], none, []⟩,
  ⟨some 9, .mv (.t 8), none, []⟩,
  ⟨some 10, .addo (.t 1) 2, some (9, true), []⟩,
  ⟨some 11, .ld (.t 10) 1 false, some (9, true), []⟩,
  ⟨some 12, .bsl 1 3 [.t 11], some (9, true), []⟩,
  ⟨some 13, .call 58 [.c (.int .i64 0), .c (.int .i64 200), .t 12], some (9, true), []⟩,
  ⟨some 14, .pick (.t 9) (.t 13) (.c (.bool false)), none, []⟩,
  ⟨some 15, .mv (.t 14), none, []⟩,
  ⟨some 16, .addo (.t 1) 3, some (15, true), []⟩,
  ⟨some 17, .ld (.t 16) 2 true, some (15, true), []⟩,
  ⟨some 18, .bsl 2 29 [.t 17], some (15, true), []⟩,
  ⟨some 19, .call 93 [.c (.int .i64 0), .c (.int .i64 10000000), .t 18], some (15, true), []⟩,
  ⟨some 20, .pick (.t 15) (.t 19) (.c (.bool false)), none, []⟩,
  ⟨some 21, .mv (.t 20), none, []⟩,
  ⟨some 22, .addo (.t 1) 5, some (21, true), []⟩,
  ⟨some 23, .ld (.t 22) 1 false, some (21, true), []⟩,
  ⟨some 24, .bsl 1 3 [.t 23], some (21, true), []⟩,
  ⟨some 25, .call 58 [.c (.int .i64 0), .c (.int .i64 1000000000), .t 24], some (21, true), []⟩,
  ⟨some 26, .pick (.t 21) (.t 25) (.c (.bool false)), none, []⟩,
  ⟨some 27, .mv (.t 26), none, []⟩,
  ⟨some 28, .addo (.t 1) 5, some (27, true), []⟩,
  ⟨some 29, .ld (.t 28) 1 false, some (27, true), []⟩,
  ⟨some 30, .addo (.t 1) 6, some (27, true), []⟩,
  ⟨some 31, .ld (.t 30) 2 true, some (27, true), []⟩,
  ⟨some 32, .bsl 2 29 [.t 31], some (27, true), []⟩,
  ⟨some 33, .call 93 [.c (.int .i64 0), .t 29, .t 32], some (27, true), []⟩,
  ⟨some 34, .pick (.t 27) (.t 33) (.c (.bool false)), none, []⟩,
  ⟨some 35, .mv (.t 34), none, []⟩,
  ⟨some 36, .addo (.t 1) 8, some (35, true), []⟩,
  ⟨some 37, .ld (.t 36) 1 false, some (35, true), []⟩,
  ⟨some 38, .bsl 1 3 [.t 37], some (35, true), []⟩,
  ⟨some 39, .call 58 [.c (.int .i64 0), .c (.int .i64 9999), .t 38], some (35, true), []⟩,
  ⟨some 40, .pick (.t 35) (.t 39) (.c (.bool false)), none, []⟩,
  ⟨some 2, .mv (.t 40), none, []⟩])
  .ret))
def r73 : List RV := [.tmp 2]
theorem n73 : Try.f73.ntmps = 41 := by kernel_rfl
theorem b73 : bodyB Try.prog 73 = true := by kernel_rfl
theorem c73_ok : cmpC Try.prog c73 ((Try.f73.body).getD .skip) = true := by kernel_rfl
theorem r73_ok : cmpR Try.prog r73 Try.f73.results.toList = true := by kernel_rfl
theorem t73 {args : List SV} {res : SV} (ka : KFL args) (kr : KF res) (h : sx Try.prog c73 (st0 args 41) (retK r73 res)) (hA : Nat.ble args.length 41 = true := by rfl) : Ct Try.prog 73 args res := ct_intro Try.func73 rfl b73 c73_ok r73_ok n73 (Nat.le_of_ble_eq_true hA) ka kr h
/- slices.ContainsFunc[[]azalai/api.Leg,azalai/api.Leg] -/
def c74 : SC := (.seq (.reg [
  ⟨some 4, .mv (.c (.bool false)), none, []⟩])
  (.seq (.reg [
  ⟨some 5, .mv (.t 0), none, []⟩,
  ⟨some 6, .mv (.t 1), none, []⟩,
  ⟨some 7, .call 96 [.t 5, .t 6], none, []⟩,
  ⟨some 8, .bin .geq (.t 7) (.c (.int .i64 0)), none, []⟩,
  ⟨some 4, .mv (.t 8), none, []⟩])
  .ret))
def r74 : List RV := [.tmp 4]
theorem n74 : Try.f74.ntmps = 9 := by kernel_rfl
theorem b74 : bodyB Try.prog 74 = true := by kernel_rfl
theorem c74_ok : cmpC Try.prog c74 ((Try.f74.body).getD .skip) = true := by kernel_rfl
theorem r74_ok : cmpR Try.prog r74 Try.f74.results.toList = true := by kernel_rfl
theorem t74 {args : List SV} {res : SV} (ka : KFL args) (kr : KF res) (h : sx Try.prog c74 (st0 args 9) (retK r74 res)) (hA : Nat.ble args.length 9 = true := by rfl) : Ct Try.prog 74 args res := ct_intro Try.func74 rfl b74 c74_ok r74_ok n74 (Nat.le_of_ble_eq_true hA) ka kr h
/- azalai/way.Check$2 -/
def c75 : SC := (.seq (.reg [
  ⟨some 2, .box (.t 0) 0 86, none, []⟩,
  ⟨some 3, .mv (.c (.bool false)), none, []⟩])
  (.seq (.reg [
  ⟨some 4, .ld (.t 2) 5 true, none, []⟩,
  ⟨some 5, .addo (.t 1) 0, none, []⟩,
  ⟨some 6, .ld (.t 5) 1 false, none, []⟩,
  ⟨some 7, .len (.t 6), none, []⟩,
  ⟨some 8, .call 76 [.t 4, .t 7], none, []⟩,
  ⟨some 9, .un .not (.t 8), none, []⟩,
  ⟨some 3, .mv (.t 9), none, []⟩])
  .ret))
def r75 : List RV := [.tmp 3]
theorem n75 : Try.f75.ntmps = 10 := by kernel_rfl
theorem b75 : bodyB Try.prog 75 = true := by kernel_rfl
theorem c75_ok : cmpC Try.prog c75 ((Try.f75.body).getD .skip) = true := by kernel_rfl
theorem r75_ok : cmpR Try.prog r75 Try.f75.results.toList = true := by kernel_rfl
theorem t75 {args : List SV} {res : SV} (ka : KFL args) (kr : KF res) (h : sx Try.prog c75 (st0 args 10) (retK r75 res)) (hA : Nat.ble args.length 10 = true := by rfl) : Ct Try.prog 75 args res := ct_intro Try.func75 rfl b75 c75_ok r75_ok n75 (Nat.le_of_ble_eq_true hA) ka kr h
/- azalai/way.trodden -/
def c76 : SC := (.seq (.reg [
  ⟨some 2, .box (.t 0) 0 86, none, []⟩,
  ⟨some 4, .mv (.c (.bool false)), none, []⟩])
  (.seq (.seq (.reg [
  ⟨some 8, .mv (.t 1), none, []⟩,
  ⟨some 9, .bin .sub (.t 8) (.c (.int .i64 1)), none, []⟩,
  ⟨some 10, .addo (.t 2) 0, none, []⟩,
  ⟨some 11, .ld (.t 10) 1 false, none, []⟩,
  ⟨some 12, .addo (.t 2) 1, none, []⟩,
  ⟨some 13, .ld (.t 12) 1 false, none, []⟩,
  ⟨some 14, .bsl 1 3 [.t 11, .t 13], none, []⟩,
  ⟨some 15, .call 58 [.c (.int .i64 0), .t 9, .t 14], none, []⟩,
  ⟨some 16, .un .not (.t 15), none, []⟩,
  ⟨some 17, .mv (.t 16), none, []⟩,
  ⟨some 18, .addo (.t 2) 0, some (17, false), []⟩,
  ⟨some 19, .ld (.t 18) 1 false, some (17, false), []⟩,
  ⟨some 20, .addo (.t 2) 1, some (17, false), []⟩,
  ⟨some 21, .ld (.t 20) 1 false, some (17, false), []⟩,
  ⟨some 22, .bin .eql (.t 19) (.t 21), some (17, false), []⟩,
  ⟨some 23, .pick (.t 17) (.c (.bool true)) (.t 22), none, []⟩,
  ⟨some 24, .mv (.t 23), none, []⟩,
  ⟨some 25, .addo (.t 2) 2, some (24, false), []⟩,
  ⟨some 26, .ld (.t 25) 2 true, some (24, false), []⟩,
  ⟨some 27, .bsl 2 29 [.t 26], some (24, false), []⟩,
  ⟨some 28, .call 93 [.c (.int .i64 1), .c (.int .i64 1000000), .t 27], some (24, false), []⟩,
  ⟨some 29, .un .not (.t 28), some (24, false), []⟩,
  ⟨some 30, .pick (.t 24) (.c (.bool true)) (.t 29), none, []⟩,
  ⟨some 31, .mv (.t 30), none, []⟩,
  ⟨some 32, .addo (.t 2) 4, some (31, false), []⟩,
  ⟨some 33, .ld (.t 32) 1 false, some (31, false), []⟩,
  ⟨some 34, .len (.t 33), some (31, false), []⟩,
  ⟨some 35, .bin .gtr (.t 34) (.c (.int .i64 6)), some (31, false), []⟩,
  ⟨some 36, .pick (.t 31) (.c (.bool true)) (.t 35), none, []⟩])
  (.cond (.t 36)
  (.seq (.reg [
   ⟨some 4, .mv (.c (.bool false)), none, []⟩])
   .ret)
  .skip))
  (.seq (.reg [
  ⟨some 5, .mv (.c (.int .i64 0)), none, []⟩])
  (.seq (.seq (.reg [
  ⟨some 37, .addo (.t 2) 4, none, []⟩,
  ⟨some 38, .ld (.t 37) 1 false, none, []⟩,
  ⟨some 39, .len (.t 38), none, []⟩,
  ⟨some 40, .mv (.c (.int .i64 0)), none, []⟩])
  (.block 0 (.loop (.seq (.reg [
    ⟨some 41, .bin .lss (.t 40) (.t 39), none, []⟩])
    (.seq (.cond (.t 41)
    .skip
    (.exit 0))
    (.seq (.block 1 (.seq (.reg [
     ⟨some 42, .ixs (.t 38) (.t 40) 4, none, []⟩,
     ⟨some 43, .ld (.t 42) 4 true, none, []⟩,
     ⟨some 7, .alloc [.int .i64 0, .int .i64 0, .int .i64 0, .int .i64 0] 95, none, []⟩,
     ⟨none, .st (.t 7) (.t 43) 4, none, []⟩])
     (.seq (.seq (.reg [
     ⟨some 44, .addo (.t 7) 0, none, []⟩,
     ⟨some 45, .ld (.t 44) 2 true, none, []⟩,
     ⟨some 46, .addo (.t 7) 2, none, []⟩,
     ⟨some 47, .ld (.t 46) 2 true, none, []⟩,
     ⟨some 48, .bsl 2 29 [.t 45, .t 47], none, []⟩,
     ⟨some 49, .call 93 [.c (.int .i64 0), .c (.int .i64 100000), .t 48], none, []⟩,
     ⟨some 50, .un .not (.t 49), none, []⟩,
     ⟨some 51, .mv (.t 50), none, []⟩,
     ⟨some 52, .mv (.t 5), some (51, false), []⟩,
     ⟨some 53, .addo (.t 7) 2, some (51, false), []⟩,
     ⟨some 54, .addo (.t 53) 1, some (51, false), []⟩,
     ⟨some 55, .ld (.t 54) 1 false, some (51, false), []⟩,
     ⟨some 56, .addo (.t 7) 0, some (51, false), []⟩,
     ⟨some 57, .addo (.t 56) 0, some (51, false), []⟩,
     ⟨some 58, .ld (.t 57) 1 false, some (51, false), []⟩,
     ⟨some 59, .bsl 1 3 [.t 58], some (51, false), []⟩,
     ⟨some 60, .call 58 [.t 52, .t 55, .t 59], some (51, false), []⟩,
     ⟨some 61, .un .not (.t 60), some (51, false), []⟩,
     ⟨some 62, .pick (.t 51) (.c (.bool true)) (.t 61), none, []⟩])
     (.cond (.t 62)
     (.seq (.reg [
      ⟨some 4, .mv (.c (.bool false)), none, []⟩])
      .ret)
     .skip))
     (.reg [
     ⟨some 63, .addo (.t 7) 2, none, []⟩,
     ⟨some 64, .addo (.t 63) 1, none, []⟩,
     ⟨some 65, .ld (.t 64) 1 false, none, []⟩,
     ⟨some 66, .bin .add (.t 65) (.c (.int .i64 1)), none, []⟩,
     ⟨some 5, .mv (.t 66), none, []⟩]))))
    (.reg [
    ⟨some 67, .bin .add (.t 40) (.c (.int .i64 1)), none, []⟩,
    ⟨some 40, .mv (.t 67), none, []⟩])))))))
  (.seq (.reg [
  ⟨some 4, .mv (.c (.bool true)), none, []⟩])
  .ret)))))
def r76 : List RV := [.tmp 4]
theorem n76 : Try.f76.ntmps = 68 := by kernel_rfl
theorem b76 : bodyB Try.prog 76 = true := by kernel_rfl
theorem c76_ok : cmpC Try.prog c76 ((Try.f76.body).getD .skip) = true := by kernel_rfl
theorem r76_ok : cmpR Try.prog r76 Try.f76.results.toList = true := by kernel_rfl
theorem t76 {args : List SV} {res : SV} (ka : KFL args) (kr : KF res) (h : sx Try.prog c76 (st0 args 68) (retK r76 res)) (hA : Nat.ble args.length 68 = true := by rfl) : Ct Try.prog 76 args res := ct_intro Try.func76 rfl b76 c76_ok r76_ok n76 (Nat.le_of_ble_eq_true hA) ka kr h
/- slices.ContainsFunc[[]int,int] -/
def c90 : SC := (.seq (.reg [
  ⟨some 4, .mv (.c (.bool false)), none, []⟩])
  (.seq (.reg [
  ⟨some 5, .mv (.t 0), none, []⟩,
  ⟨some 6, .mv (.t 1), none, []⟩,
  ⟨some 7, .call 101 [.t 5, .t 6], none, []⟩,
  ⟨some 8, .bin .geq (.t 7) (.c (.int .i64 0)), none, []⟩,
  ⟨some 4, .mv (.t 8), none, []⟩])
  .ret))
def r90 : List RV := [.tmp 4]
theorem n90 : Try.f90.ntmps = 9 := by kernel_rfl
theorem b90 : bodyB Try.prog 90 = true := by kernel_rfl
theorem c90_ok : cmpC Try.prog c90 ((Try.f90.body).getD .skip) = true := by kernel_rfl
theorem r90_ok : cmpR Try.prog r90 Try.f90.results.toList = true := by kernel_rfl
theorem t90 {args : List SV} {res : SV} (ka : KFL args) (kr : KF res) (h : sx Try.prog c90 (st0 args 9) (retK r90 res)) (hA : Nat.ble args.length 9 = true := by rfl) : Ct Try.prog 90 args res := ct_intro Try.func90 rfl b90 c90_ok r90_ok n90 (Nat.le_of_ble_eq_true hA) ka kr h
/- azalai/way.from$1 -/
def c91 : SC := (.seq (.reg [
  ⟨some 4, .mv (.c (.bool false)), none, []⟩])
  (.seq (.reg [
  ⟨some 5, .mv (.t 0), none, []⟩,
  ⟨some 6, .ld (.t 1) 1 false, none, []⟩,
  ⟨some 7, .bin .lss (.t 5) (.t 6), none, []⟩,
  ⟨some 8, .mv (.t 7), none, []⟩,
  ⟨some 9, .mv (.t 0), some (8, false), []⟩,
  ⟨some 10, .ld (.t 2) 1 false, some (8, false), []⟩,
  ⟨some 11, .bin .gtr (.t 9) (.t 10), some (8, false), []⟩,
  ⟨some 12, .pick (.t 8) (.c (.bool true)) (.t 11), none, []⟩,
  ⟨some 4, .mv (.t 12), none, []⟩])
  .ret))
def r91 : List RV := [.tmp 4]
theorem n91 : Try.f91.ntmps = 13 := by kernel_rfl
theorem b91 : bodyB Try.prog 91 = true := by kernel_rfl
theorem c91_ok : cmpC Try.prog c91 ((Try.f91.body).getD .skip) = true := by kernel_rfl
theorem r91_ok : cmpR Try.prog r91 Try.f91.results.toList = true := by kernel_rfl
theorem t91 {args : List SV} {res : SV} (ka : KFL args) (kr : KF res) (h : sx Try.prog c91 (st0 args 13) (retK r91 res)) (hA : Nat.ble args.length 13 = true := by rfl) : Ct Try.prog 91 args res := ct_intro Try.func91 rfl b91 c91_ok r91_ok n91 (Nat.le_of_ble_eq_true hA) ka kr h
/- azalai/azalairef03.spanned -/
def c92 : SC := (.seq (.reg [
  ⟨some 3, .box (.t 0) 0 29, none, []⟩,
  ⟨some 6, .mv (.c (.bool false)), none, []⟩])
  (.seq (.reg [
  ⟨some 7, .addo (.t 3) 0, none, []⟩,
  ⟨some 8, .ld (.t 7) 1 false, none, []⟩,
  ⟨some 9, .mv (.t 1), none, []⟩,
  ⟨some 10, .addo (.t 3) 1, none, []⟩,
  ⟨some 11, .ld (.t 10) 1 false, none, []⟩,
  ⟨some 12, .call 61 [.t 8, .t 9, .t 11], none, []⟩,
  ⟨some 13, .mv (.t 12), none, []⟩,
  ⟨some 14, .addo (.t 3) 1, some (13, true), []⟩,
  ⟨some 15, .ld (.t 14) 1 false, some (13, true), []⟩,
  ⟨some 16, .mv (.t 2), some (13, true), []⟩,
  ⟨some 17, .bin .leq (.t 15) (.t 16), some (13, true), []⟩,
  ⟨some 18, .pick (.t 13) (.t 17) (.c (.bool false)), none, []⟩,
  ⟨some 6, .mv (.t 18), none, []⟩])
  .ret))
def r92 : List RV := [.tmp 6]
theorem n92 : Try.f92.ntmps = 19 := by kernel_rfl
theorem b92 : bodyB Try.prog 92 = true := by kernel_rfl
theorem c92_ok : cmpC Try.prog c92 ((Try.f92.body).getD .skip) = true := by kernel_rfl
theorem r92_ok : cmpR Try.prog r92 Try.f92.results.toList = true := by kernel_rfl
theorem t92 {args : List SV} {res : SV} (ka : KFL args) (kr : KF res) (h : sx Try.prog c92 (st0 args 19) (retK r92 res)) (hA : Nat.ble args.length 19 = true := by rfl) : Ct Try.prog 92 args res := ct_intro Try.func92 rfl b92 c92_ok r92_ok n92 (Nat.le_of_ble_eq_true hA) ka kr h
/- azalai/way.ordered -/
def c93 : SC := (.seq (.reg [
  ⟨some 3, .box (.t 0) 0 3, none, []⟩,
  ⟨some 4, .box (.t 1) 0 3, none, []⟩,
  ⟨some 6, .mv (.c (.bool false)), none, []⟩])
  (.seq (.reg [
  ⟨some 7, .mv (.t 2), none, []⟩,
  ⟨some 8, .mkf 103 [.t 3, .t 4], none, []⟩,
  ⟨some 9, .call 102 [.t 7, .t 8], none, []⟩,
  ⟨some 10, .un .not (.t 9), none, []⟩,
  ⟨some 6, .mv (.t 10), none, []⟩])
  .ret))
def r93 : List RV := [.tmp 6]
theorem n93 : Try.f93.ntmps = 11 := by kernel_rfl
theorem b93 : bodyB Try.prog 93 = true := by kernel_rfl
theorem c93_ok : cmpC Try.prog c93 ((Try.f93.body).getD .skip) = true := by kernel_rfl
theorem r93_ok : cmpR Try.prog r93 Try.f93.results.toList = true := by kernel_rfl
theorem t93 {args : List SV} {res : SV} (ka : KFL args) (kr : KF res) (h : sx Try.prog c93 (st0 args 11) (retK r93 res)) (hA : Nat.ble args.length 11 = true := by rfl) : Ct Try.prog 93 args res := ct_intro Try.func93 rfl b93 c93_ok r93_ok n93 (Nat.le_of_ble_eq_true hA) ka kr h
/- slices.IndexFunc[[]azalai/api.Well,azalai/api.Well] -/
def c95 : SC := (.seq (.reg [
  ⟨some 4, .mv (.c (.int .i64 0)), none, []⟩])
  (.seq (.seq (.reg [
  ⟨some 6, .mv (.t 0), none, []⟩,
  ⟨some 7, .len (.t 6), none, []⟩,
  ⟨some 8, .mv (.c (.int .i64 0)), none, []⟩])
  (.block 0 (.loop (.seq (.reg [
    ⟨some 9, .bin .lss (.t 8) (.t 7), none, []⟩])
    (.seq (.cond (.t 9)
    .skip
    (.exit 0))
    (.seq (.block 1 (.seq (.reg [
     ⟨some 10, .mv (.t 8), none, []⟩,
     ⟨some 5, .mv (.t 10), none, []⟩])
     (.seq (.reg [
     ⟨some 11, .mv (.t 1), none, []⟩,
     ⟨some 12, .mv (.t 0), none, []⟩,
     ⟨some 13, .mv (.t 5), none, []⟩,
     ⟨some 14, .ixs (.t 12) (.t 13) 9, none, []⟩,
     ⟨some 15, .ld (.t 14) 9 true, none, []⟩,
     ⟨some 16, .calv (.t 11) [.t 15], none, []⟩])
     (.cond (.t 16)
     (.seq (.reg [
      ⟨some 17, .mv (.t 5), none, []⟩,
      ⟨some 4, .mv (.t 17), none, []⟩])
      .ret)
     .skip))))
    (.reg [
    ⟨some 18, .bin .add (.t 8) (.c (.int .i64 1)), none, []⟩,
    ⟨some 8, .mv (.t 18), none, []⟩])))))))
  (.seq (.reg [
  ⟨some 4, .mv (.c (.int .i64 (-1))), none, []⟩])
  .ret)))
def r95 : List RV := [.tmp 4]
theorem n95 : Try.f95.ntmps = 19 := by kernel_rfl
theorem b95 : bodyB Try.prog 95 = true := by kernel_rfl
theorem c95_ok : cmpC Try.prog c95 ((Try.f95.body).getD .skip) = true := by kernel_rfl
theorem r95_ok : cmpR Try.prog r95 Try.f95.results.toList = true := by kernel_rfl
theorem t95 {args : List SV} {res : SV} (ka : KFL args) (kr : KF res) (h : sx Try.prog c95 (st0 args 19) (retK r95 res)) (hA : Nat.ble args.length 19 = true := by rfl) : Ct Try.prog 95 args res := ct_intro Try.func95 rfl b95 c95_ok r95_ok n95 (Nat.le_of_ble_eq_true hA) ka kr h
/- slices.IndexFunc[[]azalai/api.Leg,azalai/api.Leg] -/
def c96 : SC := (.seq (.reg [
  ⟨some 4, .mv (.c (.int .i64 0)), none, []⟩])
  (.seq (.seq (.reg [
  ⟨some 6, .mv (.t 0), none, []⟩,
  ⟨some 7, .len (.t 6), none, []⟩,
  ⟨some 8, .mv (.c (.int .i64 0)), none, []⟩])
  (.block 0 (.loop (.seq (.reg [
    ⟨some 9, .bin .lss (.t 8) (.t 7), none, []⟩])
    (.seq (.cond (.t 9)
    .skip
    (.exit 0))
    (.seq (.block 1 (.seq (.reg [
     ⟨some 10, .mv (.t 8), none, []⟩,
     ⟨some 5, .mv (.t 10), none, []⟩])
     (.seq (.reg [
     ⟨some 11, .mv (.t 1), none, []⟩,
     ⟨some 12, .mv (.t 0), none, []⟩,
     ⟨some 13, .mv (.t 5), none, []⟩,
     ⟨some 14, .ixs (.t 12) (.t 13) 5, none, []⟩,
     ⟨some 15, .ld (.t 14) 5 true, none, []⟩,
     ⟨some 16, .calv (.t 11) [.t 15], none, []⟩])
     (.cond (.t 16)
     (.seq (.reg [
      ⟨some 17, .mv (.t 5), none, []⟩,
      ⟨some 4, .mv (.t 17), none, []⟩])
      .ret)
     .skip))))
    (.reg [
    ⟨some 18, .bin .add (.t 8) (.c (.int .i64 1)), none, []⟩,
    ⟨some 8, .mv (.t 18), none, []⟩])))))))
  (.seq (.reg [
  ⟨some 4, .mv (.c (.int .i64 (-1))), none, []⟩])
  .ret)))
def r96 : List RV := [.tmp 4]
theorem n96 : Try.f96.ntmps = 19 := by kernel_rfl
theorem b96 : bodyB Try.prog 96 = true := by kernel_rfl
theorem c96_ok : cmpC Try.prog c96 ((Try.f96.body).getD .skip) = true := by kernel_rfl
theorem r96_ok : cmpR Try.prog r96 Try.f96.results.toList = true := by kernel_rfl
theorem t96 {args : List SV} {res : SV} (ka : KFL args) (kr : KF res) (h : sx Try.prog c96 (st0 args 19) (retK r96 res)) (hA : Nat.ble args.length 19 = true := by rfl) : Ct Try.prog 96 args res := ct_intro Try.func96 rfl b96 c96_ok r96_ok n96 (Nat.le_of_ble_eq_true hA) ka kr h
/- slices.IndexFunc[[]int,int] -/
def c101 : SC := (.seq (.reg [
  ⟨some 4, .mv (.c (.int .i64 0)), none, []⟩])
  (.seq (.seq (.reg [
  ⟨some 6, .mv (.t 0), none, []⟩,
  ⟨some 7, .len (.t 6), none, []⟩,
  ⟨some 8, .mv (.c (.int .i64 0)), none, []⟩])
  (.block 0 (.loop (.seq (.reg [
    ⟨some 9, .bin .lss (.t 8) (.t 7), none, []⟩])
    (.seq (.cond (.t 9)
    .skip
    (.exit 0))
    (.seq (.block 1 (.seq (.reg [
     ⟨some 10, .mv (.t 8), none, []⟩,
     ⟨some 5, .mv (.t 10), none, []⟩])
     (.seq (.reg [
     ⟨some 11, .mv (.t 1), none, []⟩,
     ⟨some 12, .mv (.t 0), none, []⟩,
     ⟨some 13, .mv (.t 5), none, []⟩,
     ⟨some 14, .ixs (.t 12) (.t 13) 1, none, []⟩,
     ⟨some 15, .ld (.t 14) 1 false, none, []⟩,
     ⟨some 16, .calv (.t 11) [.t 15], none, []⟩])
     (.cond (.t 16)
     (.seq (.reg [
      ⟨some 17, .mv (.t 5), none, []⟩,
      ⟨some 4, .mv (.t 17), none, []⟩])
      .ret)
     .skip))))
    (.reg [
    ⟨some 18, .bin .add (.t 8) (.c (.int .i64 1)), none, []⟩,
    ⟨some 8, .mv (.t 18), none, []⟩])))))))
  (.seq (.reg [
  ⟨some 4, .mv (.c (.int .i64 (-1))), none, []⟩])
  .ret)))
def r101 : List RV := [.tmp 4]
theorem n101 : Try.f101.ntmps = 19 := by kernel_rfl
theorem b101 : bodyB Try.prog 101 = true := by kernel_rfl
theorem c101_ok : cmpC Try.prog c101 ((Try.f101.body).getD .skip) = true := by kernel_rfl
theorem r101_ok : cmpR Try.prog r101 Try.f101.results.toList = true := by kernel_rfl
theorem t101 {args : List SV} {res : SV} (ka : KFL args) (kr : KF res) (h : sx Try.prog c101 (st0 args 19) (retK r101 res)) (hA : Nat.ble args.length 19 = true := by rfl) : Ct Try.prog 101 args res := ct_intro Try.func101 rfl b101 c101_ok r101_ok n101 (Nat.le_of_ble_eq_true hA) ka kr h
/- slices.ContainsFunc[[]azalai/api.Span,azalai/api.Span] -/
def c102 : SC := (.seq (.reg [
  ⟨some 4, .mv (.c (.bool false)), none, []⟩])
  (.seq (.reg [
  ⟨some 5, .mv (.t 0), none, []⟩,
  ⟨some 6, .mv (.t 1), none, []⟩,
  ⟨some 7, .call 107 [.t 5, .t 6], none, []⟩,
  ⟨some 8, .bin .geq (.t 7) (.c (.int .i64 0)), none, []⟩,
  ⟨some 4, .mv (.t 8), none, []⟩])
  .ret))
def r102 : List RV := [.tmp 4]
theorem n102 : Try.f102.ntmps = 9 := by kernel_rfl
theorem b102 : bodyB Try.prog 102 = true := by kernel_rfl
theorem c102_ok : cmpC Try.prog c102 ((Try.f102.body).getD .skip) = true := by kernel_rfl
theorem r102_ok : cmpR Try.prog r102 Try.f102.results.toList = true := by kernel_rfl
theorem t102 {args : List SV} {res : SV} (ka : KFL args) (kr : KF res) (h : sx Try.prog c102 (st0 args 9) (retK r102 res)) (hA : Nat.ble args.length 9 = true := by rfl) : Ct Try.prog 102 args res := ct_intro Try.func102 rfl b102 c102_ok r102_ok n102 (Nat.le_of_ble_eq_true hA) ka kr h
/- azalai/way.ordered$1 -/
def c103 : SC := (.seq (.reg [
  ⟨some 3, .box (.t 0) 0 29, none, []⟩,
  ⟨some 4, .mv (.c (.bool false)), none, []⟩])
  (.seq (.reg [
  ⟨some 5, .addo (.t 3) 0, none, []⟩,
  ⟨some 6, .ld (.t 5) 1 false, none, []⟩,
  ⟨some 7, .addo (.t 3) 1, none, []⟩,
  ⟨some 8, .ld (.t 7) 1 false, none, []⟩,
  ⟨some 9, .bin .gtr (.t 6) (.t 8), none, []⟩,
  ⟨some 10, .mv (.t 9), none, []⟩,
  ⟨some 11, .ld (.t 1) 1 false, some (10, false), []⟩,
  ⟨some 12, .ld (.t 2) 1 false, some (10, false), []⟩,
  ⟨some 13, .addo (.t 3) 0, some (10, false), []⟩,
  ⟨some 14, .ld (.t 13) 1 false, some (10, false), []⟩,
  ⟨some 15, .addo (.t 3) 1, some (10, false), []⟩,
  ⟨some 16, .ld (.t 15) 1 false, some (10, false), []⟩,
  ⟨some 17, .bsl 1 3 [.t 14, .t 16], some (10, false), []⟩,
  ⟨some 18, .call 58 [.t 11, .t 12, .t 17], some (10, false), []⟩,
  ⟨some 19, .un .not (.t 18), some (10, false), []⟩,
  ⟨some 20, .pick (.t 10) (.c (.bool true)) (.t 19), none, []⟩,
  ⟨some 4, .mv (.t 20), none, []⟩])
  .ret))
def r103 : List RV := [.tmp 4]
theorem n103 : Try.f103.ntmps = 21 := by kernel_rfl
theorem b103 : bodyB Try.prog 103 = true := by kernel_rfl
theorem c103_ok : cmpC Try.prog c103 ((Try.f103.body).getD .skip) = true := by kernel_rfl
theorem r103_ok : cmpR Try.prog r103 Try.f103.results.toList = true := by kernel_rfl
theorem t103 {args : List SV} {res : SV} (ka : KFL args) (kr : KF res) (h : sx Try.prog c103 (st0 args 21) (retK r103 res)) (hA : Nat.ble args.length 21 = true := by rfl) : Ct Try.prog 103 args res := ct_intro Try.func103 rfl b103 c103_ok r103_ok n103 (Nat.le_of_ble_eq_true hA) ka kr h
/- slices.IndexFunc[[]azalai/api.Span,azalai/api.Span] -/
def c107 : SC := (.seq (.reg [
  ⟨some 4, .mv (.c (.int .i64 0)), none, []⟩])
  (.seq (.seq (.reg [
  ⟨some 6, .mv (.t 0), none, []⟩,
  ⟨some 7, .len (.t 6), none, []⟩,
  ⟨some 8, .mv (.c (.int .i64 0)), none, []⟩])
  (.block 0 (.loop (.seq (.reg [
    ⟨some 9, .bin .lss (.t 8) (.t 7), none, []⟩])
    (.seq (.cond (.t 9)
    .skip
    (.exit 0))
    (.seq (.block 1 (.seq (.reg [
     ⟨some 10, .mv (.t 8), none, []⟩,
     ⟨some 5, .mv (.t 10), none, []⟩])
     (.seq (.reg [
     ⟨some 11, .mv (.t 1), none, []⟩,
     ⟨some 12, .mv (.t 0), none, []⟩,
     ⟨some 13, .mv (.t 5), none, []⟩,
     ⟨some 14, .ixs (.t 12) (.t 13) 2, none, []⟩,
     ⟨some 15, .ld (.t 14) 2 true, none, []⟩,
     ⟨some 16, .calv (.t 11) [.t 15], none, []⟩])
     (.cond (.t 16)
     (.seq (.reg [
      ⟨some 17, .mv (.t 5), none, []⟩,
      ⟨some 4, .mv (.t 17), none, []⟩])
      .ret)
     .skip))))
    (.reg [
    ⟨some 18, .bin .add (.t 8) (.c (.int .i64 1)), none, []⟩,
    ⟨some 8, .mv (.t 18), none, []⟩])))))))
  (.seq (.reg [
  ⟨some 4, .mv (.c (.int .i64 (-1))), none, []⟩])
  .ret)))
def r107 : List RV := [.tmp 4]
theorem n107 : Try.f107.ntmps = 19 := by kernel_rfl
theorem b107 : bodyB Try.prog 107 = true := by kernel_rfl
theorem c107_ok : cmpC Try.prog c107 ((Try.f107.body).getD .skip) = true := by kernel_rfl
theorem r107_ok : cmpR Try.prog r107 Try.f107.results.toList = true := by kernel_rfl
theorem t107 {args : List SV} {res : SV} (ka : KFL args) (kr : KF res) (h : sx Try.prog c107 (st0 args 19) (retK r107 res)) (hA : Nat.ble args.length 19 = true := by rfl) : Ct Try.prog 107 args res := ct_intro Try.func107 rfl b107 c107_ok r107_ok n107 (Nat.le_of_ble_eq_true hA) ka kr h
/- azalai/azalailaw03.WayLegs -/
def c4 : SC := (.seq (.reg [
  ⟨some 4, .box (.t 0) 0 25, none, []⟩,
  ⟨some 7, .box (.t 3) 0 29, none, []⟩,
  ⟨some 8, .mv (.c (.bool false)), none, []⟩])
  (.seq (.seq (.reg [
  ⟨some 18, .ld (.t 4) 2 true, none, []⟩,
  ⟨some 19, .call 16 [.t 18], none, []⟩])
  (.cond (.t 19)
  (.seq (.reg [
   ⟨some 8, .mv (.c (.bool true)), none, []⟩])
   .ret)
  .skip))
  (.seq (.reg [
  ⟨some 20, .ld (.t 4) 2 true, none, []⟩,
  ⟨some 21, .call 21 [.t 20], none, []⟩,
  ⟨some 9, .alloc [.slice none 0 0, .slice none 0 0] 25, none, []⟩,
  ⟨none, .st (.t 9) (.t 21) 2, none, []⟩])
  (.seq (.reg [
  ⟨some 23, .ld (.t 9) 2 true, none, []⟩,
  ⟨some 24, .mv (.t 1), none, []⟩,
  ⟨some 25, .ld (.t 7) 2 true, none, []⟩,
  ⟨some 26, .call 22 [.t 23, .t 24, .t 25], none, []⟩,
  ⟨some 22, .mv (.t 26), none, []⟩,
  ⟨some 27, .ext (.t 22) 0, none, []⟩,
  ⟨some 28, .ext (.t 22) 1, none, []⟩,
  ⟨some 10, .alloc [.int .i64 0, .int .i64 0] 29, none, []⟩,
  ⟨none, .st (.t 10) (.t 27) 2, none, []⟩,
  ⟨some 11, .mv (.t 28), none, []⟩])
  (.seq (.reg [
  ⟨some 30, .ld (.t 4) 2 true, none, []⟩,
  ⟨some 31, .mv (.t 1), none, []⟩,
  ⟨some 32, .ld (.t 7) 2 true, none, []⟩,
  ⟨some 33, .call 23 [.t 30, .t 31, .t 32], none, []⟩,
  ⟨some 29, .mv (.t 33), none, []⟩,
  ⟨some 34, .ext (.t 29) 0, none, []⟩,
  ⟨some 35, .ext (.t 29) 1, none, []⟩,
  ⟨some 12, .alloc [.int .i64 0, .int .i64 0] 29, none, []⟩,
  ⟨none, .st (.t 12) (.t 34) 2, none, []⟩,
  ⟨some 13, .mv (.t 35), none, []⟩])
  (.seq (.reg [
  ⟨some 37, .ld (.t 9) 2 true, none, []⟩,
  ⟨some 38, .mv (.t 1), none, []⟩,
  ⟨some 39, .mv (.t 2), none, []⟩,
  ⟨some 40, .ld (.t 7) 2 true, none, []⟩,
  ⟨some 41, .call 24 [.t 37, .t 38, .t 39, .t 40], none, []⟩,
  ⟨some 36, .mv (.t 41), none, []⟩,
  ⟨some 42, .ext (.t 36) 0, none, []⟩,
  ⟨some 43, .ext (.t 36) 1, none, []⟩,
  ⟨some 14, .alloc [.int .i64 0, .int .i64 0] 29, none, []⟩,
  ⟨none, .st (.t 14) (.t 42) 2, none, []⟩,
  ⟨some 15, .mv (.t 43), none, []⟩])
  (.seq (.reg [
  ⟨some 45, .ld (.t 4) 2 true, none, []⟩,
  ⟨some 46, .mv (.t 1), none, []⟩,
  ⟨some 47, .mv (.t 2), none, []⟩,
  ⟨some 48, .ld (.t 7) 2 true, none, []⟩,
  ⟨some 49, .call 25 [.t 45, .t 46, .t 47, .t 48], none, []⟩,
  ⟨some 44, .mv (.t 49), none, []⟩,
  ⟨some 50, .ext (.t 44) 0, none, []⟩,
  ⟨some 51, .ext (.t 44) 1, none, []⟩,
  ⟨some 16, .alloc [.int .i64 0, .int .i64 0] 29, none, []⟩,
  ⟨none, .st (.t 16) (.t 50) 2, none, []⟩,
  ⟨some 17, .mv (.t 51), none, []⟩])
  (.seq (.regd [0, 1, 2, 3, 4, 5, 6, 7, 8, 9, 10, 11, 12, 13, 14, 15, 16, 17, 18, 19, 20, 21, 22, 23, 24, 25, 26, 27, 28, 29, 30] [
  .op ⟨some 52, .ld (.t 9) 2 true, none, []⟩,
  .op ⟨some 53, .call 26 [.t 52], none, [0]⟩,
  .op ⟨some 54, .ld (.t 4) 2 true, none, []⟩,
  .op ⟨some 55, .call 27 [.t 54], none, [1, 2]⟩,
  .op ⟨some 56, .bin .eql (.t 53) (.t 55), none, [1, 3]⟩,
  .op ⟨some 57, .mv (.t 56), none, [3, 4]⟩,
  .op ⟨some 58, .ld (.t 10) 2 true, some (57, true), [5]⟩,
  .op ⟨some 59, .ld (.t 12) 2 true, some (57, true), [5]⟩,
  .op ⟨some 60, .eqs false true [1, 1] (.t 58) (.t 59), some (57, true), [5, 6, 7]⟩,
  .op ⟨some 61, .pick (.t 57) (.t 60) (.c (.bool false)), none, [5, 8]⟩,
  .op ⟨some 62, .mv (.t 61), none, [5, 9]⟩,
  .op ⟨some 63, .mv (.t 11), some (62, true), [10]⟩,
  .op ⟨some 64, .mv (.t 13), some (62, true), [10]⟩,
  .op ⟨some 65, .bin .eql (.t 63) (.t 64), some (62, true), [10, 11, 12]⟩,
  .op ⟨some 66, .pick (.t 62) (.t 65) (.c (.bool false)), none, [10, 13]⟩,
  .op ⟨some 67, .mv (.t 66), none, [10, 14]⟩,
  .op ⟨some 68, .ld (.t 14) 2 true, some (67, true), [15]⟩,
  .op ⟨some 69, .ld (.t 16) 2 true, some (67, true), [15]⟩,
  .op ⟨some 70, .eqs false true [1, 1] (.t 68) (.t 69), some (67, true), [15, 16, 17]⟩,
  .op ⟨some 71, .pick (.t 67) (.t 70) (.c (.bool false)), none, [15, 18]⟩,
  .op ⟨some 72, .mv (.t 71), none, [15, 19]⟩,
  .op ⟨some 73, .mv (.t 15), some (72, true), [20]⟩,
  .op ⟨some 74, .mv (.t 17), some (72, true), [20]⟩,
  .op ⟨some 75, .bin .eql (.t 73) (.t 74), some (72, true), [20, 21, 22]⟩,
  .op ⟨some 76, .pick (.t 72) (.t 75) (.c (.bool false)), none, [20, 23]⟩,
  .op ⟨some 77, .mv (.t 76), none, [20, 24]⟩,
  .op ⟨some 78, .ld (.t 9) 2 true, some (77, true), [25]⟩,
  .op ⟨some 79, .ld (.t 4) 2 true, some (77, true), [25]⟩,
  .op ⟨some 80, .call 28 [.t 78, .t 79], some (77, true), [25, 26, 27]⟩,
  .op ⟨some 81, .pick (.t 77) (.t 80) (.c (.bool false)), none, [25, 28]⟩,
  .op ⟨some 8, .mv (.t 81), none, [0, 1, 2, 3, 4, 5, 6, 7, 8, 9, 10, 11, 12, 13, 14, 15, 16, 17, 18, 19, 20, 21, 22, 23, 24, 25, 26, 27, 28, 29]⟩] 0 0 [
])
  .ret))))))))
def r4 : List RV := [.tmp 8]
theorem n4 : Try.f4.ntmps = 82 := by kernel_rfl
theorem b4 : bodyB Try.prog 4 = true := by kernel_rfl
theorem c4_ok : cmpC Try.prog c4 ((Try.f4.body).getD .skip) = true := by kernel_rfl
theorem r4_ok : cmpR Try.prog r4 Try.f4.results.toList = true := by kernel_rfl
theorem t4 {args : List SV} {res : SV} (ka : KFL args) (kr : KF res) (h : sx Try.prog c4 (st0 args 82) (retK r4 res)) (hA : Nat.ble args.length 82 = true := by rfl) : Ct Try.prog 4 args res := ct_intro Try.func4 rfl b4 c4_ok r4_ok n4 (Nat.le_of_ble_eq_true hA) ka kr h
/- azalai/azalairef03.Twin -/
def c21 : SC := (.seq (.reg [
  ⟨some 1, .box (.t 0) 0 25, none, []⟩,
  ⟨some 2, .alloc [.slice none 0 0, .slice none 0 0] 25, none, []⟩])
  (.seq (.reg [
  ⟨some 4, .bsl 9 109 [], none, []⟩,
  ⟨some 5, .addo (.t 1) 0, none, []⟩,
  ⟨some 6, .ld (.t 5) 1 false, none, []⟩,
  ⟨some 7, .app 9 72 109 (.t 4) (.t 6), none, []⟩,
  ⟨some 8, .addo (.t 1) 0, none, []⟩,
  ⟨none, .st (.t 8) (.t 7) 1, none, []⟩])
  (.seq (.reg [
  ⟨some 9, .bsl 5 86 [], none, []⟩,
  ⟨some 10, .addo (.t 1) 1, none, []⟩,
  ⟨some 11, .ld (.t 10) 1 false, none, []⟩,
  ⟨some 12, .cln 5 56 86 (.t 9) (.t 11), none, []⟩,
  ⟨some 13, .addo (.t 1) 1, none, []⟩,
  ⟨none, .st (.t 13) (.t 12) 1, none, []⟩])
  (.seq (.seq (.reg [
  ⟨some 3, .mv (.c (.int .i64 0)), none, []⟩])
  (.block 0 (.loop (.seq (.seq (.reg [
    ⟨some 14, .mv (.t 3), none, []⟩,
    ⟨some 15, .addo (.t 1) 1, none, []⟩,
    ⟨some 16, .ld (.t 15) 1 false, none, []⟩,
    ⟨some 17, .len (.t 16), none, []⟩,
    ⟨some 18, .bin .lss (.t 14) (.t 17), none, []⟩])
    (.cond (.t 18)
    .skip
    (.exit 0)))
    (.seq (.block 1 (.regd [0, 1, 2, 3, 4, 5, 6, 7, 8, 9, 10, 11, 12, 13] [
     .op ⟨some 21, .addo (.t 1) 1, none, []⟩,
     .op ⟨some 22, .ld (.t 21) 1 false, none, [0]⟩,
     .op ⟨some 23, .mv (.t 3), none, []⟩,
     .op ⟨some 24, .bsl 4 95 [], none, []⟩,
     .op ⟨some 25, .addo (.t 1) 1, none, []⟩,
     .op ⟨some 26, .ld (.t 25) 1 false, none, [4]⟩,
     .op ⟨some 27, .mv (.t 3), none, []⟩,
     .op ⟨some 28, .ixs (.t 26) (.t 27) 5, none, [5, 6]⟩,
     .op ⟨some 29, .addo (.t 28) 4, none, [7]⟩,
     .op ⟨some 30, .ld (.t 29) 1 false, none, [8]⟩,
     .op ⟨some 31, .app 4 32 95 (.t 24) (.t 30), none, [3, 9]⟩,
     .op ⟨some 32, .ixs (.t 22) (.t 23) 5, none, [0, 1, 2, 3, 4, 5, 6, 7, 8, 9, 10]⟩,
     .op ⟨some 33, .addo (.t 32) 4, none, [0, 1, 2, 3, 4, 5, 6, 7, 8, 9, 10, 11]⟩] 0 1 [
     ⟨none, .st (.t 33) (.t 31) 1, none, [0, 1, 2, 3, 4, 5, 6, 7, 8, 9, 10, 12]⟩]))
    (.reg [
    ⟨some 19, .mv (.t 3), none, []⟩,
    ⟨some 20, .bin .add (.t 19) (.c (.int .i64 1)), none, []⟩,
    ⟨some 3, .mv (.t 20), none, []⟩]))))))
  (.seq (.reg [
  ⟨some 34, .ld (.t 1) 2 true, none, []⟩,
  ⟨none, .st (.t 2) (.t 34) 2, none, []⟩])
  .ret)))))
def r21 : List RV := [.cell 2 2 true]
theorem n21 : Try.f21.ntmps = 35 := by kernel_rfl
theorem b21 : bodyB Try.prog 21 = true := by kernel_rfl
theorem c21_ok : cmpC Try.prog c21 ((Try.f21.body).getD .skip) = true := by kernel_rfl
theorem r21_ok : cmpR Try.prog r21 Try.f21.results.toList = true := by kernel_rfl
theorem t21 {args : List SV} {res : SV} (ka : KFL args) (kr : KF res) (h : sx Try.prog c21 (st0 args 35) (retK r21 res)) (hA : Nat.ble args.length 35 = true := by rfl) : Ct Try.prog 21 args res := ct_intro Try.func21 rfl b21 c21_ok r21_ok n21 (Nat.le_of_ble_eq_true hA) ka kr h
/- azalai/way.Days -/
def c22 : SC := (.seq (.reg [
  ⟨some 3, .box (.t 0) 0 25, none, []⟩,
  ⟨some 5, .box (.t 2) 0 29, none, []⟩,
  ⟨some 6, .alloc [.int .i64 0, .int .i64 0] 29, none, []⟩,
  ⟨some 7, .mv (.c (.int .i64 0)), none, []⟩])
  (.seq (.reg [
  ⟨some 11, .ld (.t 3) 2 true, none, []⟩,
  ⟨some 12, .ld (.t 5) 2 true, none, []⟩,
  ⟨some 13, .call 63 [.t 11, .t 12], none, []⟩,
  ⟨some 10, .mv (.t 13), none, []⟩,
  ⟨some 14, .ext (.t 10) 0, none, []⟩,
  ⟨some 15, .ext (.t 10) 1, none, []⟩,
  ⟨some 8, .alloc [.slice none 0 0, .slice none 0 0, .int .i64 0, .int .i64 0] 119, none, []⟩,
  ⟨none, .st (.t 8) (.t 14) 4, none, []⟩,
  ⟨some 9, .mv (.t 15), none, []⟩])
  (.seq (.block 0 (.seq (.reg [
   ⟨some 17, .mv (.t 9), none, []⟩,
   ⟨some 18, .bin .neq (.t 17) (.c (.int .i64 0)), none, []⟩,
   ⟨some 16, .mv (.t 18), none, []⟩])
   (.cond (.t 16)
   (.seq (.reg [
    ⟨some 19, .build [.int .i64 0, .int .i64 0] [], none, []⟩,
    ⟨some 20, .mv (.t 9), none, []⟩,
    ⟨none, .st (.t 6) (.t 19) 2, none, []⟩,
    ⟨some 7, .mv (.t 20), none, []⟩])
    .ret)
   (.seq (.reg [
    ⟨some 22, .addo (.t 3) 1, none, []⟩,
    ⟨some 23, .ld (.t 22) 1 false, none, []⟩,
    ⟨some 24, .len (.t 23), none, []⟩,
    ⟨some 25, .bin .sub (.t 24) (.c (.int .i64 1)), none, []⟩,
    ⟨some 26, .mv (.t 1), none, []⟩,
    ⟨some 27, .bsl 1 3 [.t 26], none, []⟩,
    ⟨some 28, .call 58 [.c (.int .i64 0), .t 25, .t 27], none, []⟩,
    ⟨some 29, .un .not (.t 28), none, []⟩,
    ⟨some 21, .mv (.t 29), none, []⟩])
    (.cond (.t 21)
    (.seq (.reg [
     ⟨some 30, .build [.int .i64 0, .int .i64 0] [], none, []⟩,
     ⟨none, .st (.t 6) (.t 30) 2, none, []⟩,
     ⟨some 7, .mv (.c (.int .i64 2)), none, []⟩])
     .ret)
    .skip)))))
  (.seq (.reg [
  ⟨some 31, .ld (.t 8) 4 true, none, []⟩,
  ⟨some 32, .mv (.t 1), none, []⟩,
  ⟨some 33, .call 64 [.t 31, .t 32], none, []⟩,
  ⟨some 34, .call 65 [.t 33], none, []⟩,
  ⟨none, .st (.t 6) (.t 34) 2, none, []⟩,
  ⟨some 7, .mv (.c (.int .i64 0)), none, []⟩])
  .ret))))
def r22 : List RV := [.cell 6 2 true, .tmp 7]
theorem n22 : Try.f22.ntmps = 35 := by kernel_rfl
theorem b22 : bodyB Try.prog 22 = true := by kernel_rfl
theorem c22_ok : cmpC Try.prog c22 ((Try.f22.body).getD .skip) = true := by kernel_rfl
theorem r22_ok : cmpR Try.prog r22 Try.f22.results.toList = true := by kernel_rfl
theorem t22 {args : List SV} {res : SV} (ka : KFL args) (kr : KF res) (h : sx Try.prog c22 (st0 args 35) (retK r22 res)) (hA : Nat.ble args.length 35 = true := by rfl) : Ct Try.prog 22 args res := ct_intro Try.func22 rfl b22 c22_ok r22_ok n22 (Nat.le_of_ble_eq_true hA) ka kr h
/- azalai/azalairef03.Days -/
def c23 : SC := (.seq (.reg [
  ⟨some 3, .box (.t 0) 0 25, none, []⟩,
  ⟨some 5, .box (.t 2) 0 29, none, []⟩,
  ⟨some 6, .alloc [.int .i64 0, .int .i64 0] 29, none, []⟩,
  ⟨some 7, .mv (.c (.int .i64 0)), none, []⟩])
  (.seq (.seq (.reg [
  ⟨some 9, .ld (.t 3) 2 true, none, []⟩,
  ⟨some 10, .ld (.t 5) 2 true, none, []⟩,
  ⟨some 11, .call 66 [.t 9, .t 10], none, []⟩,
  ⟨some 8, .mv (.t 11), none, []⟩])
  (.seq (.reg [
  ⟨some 12, .mv (.t 8), none, []⟩,
  ⟨some 13, .bin .neq (.t 12) (.c (.int .i64 0)), none, []⟩])
  (.cond (.t 13)
  (.seq (.reg [
   ⟨some 14, .build [.int .i64 0, .int .i64 0] [], none, []⟩,
   ⟨some 15, .mv (.t 8), none, []⟩,
   ⟨none, .st (.t 6) (.t 14) 2, none, []⟩,
   ⟨some 7, .mv (.t 15), none, []⟩])
   .ret)
  .skip)))
  (.seq (.seq (.reg [
  ⟨some 16, .mv (.t 1), none, []⟩,
  ⟨some 17, .addo (.t 3) 1, none, []⟩,
  ⟨some 18, .ld (.t 17) 1 false, none, []⟩,
  ⟨some 19, .len (.t 18), none, []⟩,
  ⟨some 20, .bin .sub (.t 19) (.c (.int .i64 1)), none, []⟩,
  ⟨some 21, .call 61 [.t 16, .c (.int .i64 0), .t 20], none, []⟩,
  ⟨some 22, .un .not (.t 21), none, []⟩])
  (.cond (.t 22)
  (.seq (.reg [
   ⟨some 23, .build [.int .i64 0, .int .i64 0] [], none, []⟩,
   ⟨none, .st (.t 6) (.t 23) 2, none, []⟩,
   ⟨some 7, .mv (.c (.int .i64 2)), none, []⟩])
   .ret)
  .skip))
  (.seq (.regd [0, 1, 2, 3, 4, 5, 6, 7, 8] [
  .op ⟨some 24, .addo (.t 3) 1, none, []⟩,
  .op ⟨some 25, .ld (.t 24) 1 false, none, [0]⟩,
  .op ⟨some 26, .mv (.t 1), none, []⟩,
  .op ⟨some 27, .ixs (.t 25) (.t 26) 5, none, [1, 2]⟩,
  .op ⟨some 28, .ld (.t 27) 5 true, none, [3]⟩,
  .op ⟨some 29, .ld (.t 5) 2 true, none, []⟩,
  .op ⟨some 30, .call 67 [.t 28, .t 29], none, [4, 5]⟩] 0 1 [
  ⟨none, .st (.t 6) (.t 30) 2, none, [0, 1, 2, 3, 4, 5, 6]⟩,
  ⟨some 7, .mv (.c (.int .i64 0)), none, [0, 1, 2, 3, 4, 5, 6, 7]⟩])
  .ret))))
def r23 : List RV := [.cell 6 2 true, .tmp 7]
theorem n23 : Try.f23.ntmps = 31 := by kernel_rfl
theorem b23 : bodyB Try.prog 23 = true := by kernel_rfl
theorem c23_ok : cmpC Try.prog c23 ((Try.f23.body).getD .skip) = true := by kernel_rfl
theorem r23_ok : cmpR Try.prog r23 Try.f23.results.toList = true := by kernel_rfl
theorem t23 {args : List SV} {res : SV} (ka : KFL args) (kr : KF res) (h : sx Try.prog c23 (st0 args 31) (retK r23 res)) (hA : Nat.ble args.length 31 = true := by rfl) : Ct Try.prog 23 args res := ct_intro Try.func23 rfl b23 c23_ok r23_ok n23 (Nat.le_of_ble_eq_true hA) ka kr h
/- azalai/way.Leave -/
def c24 : SC := (.seq (.reg [
  ⟨some 4, .box (.t 0) 0 25, none, []⟩,
  ⟨some 7, .box (.t 3) 0 29, none, []⟩,
  ⟨some 8, .alloc [.int .i64 0, .int .i64 0] 29, none, []⟩,
  ⟨some 9, .mv (.c (.int .i64 0)), none, []⟩])
  (.seq (.reg [
  ⟨some 13, .ld (.t 4) 2 true, none, []⟩,
  ⟨some 14, .ld (.t 7) 2 true, none, []⟩,
  ⟨some 15, .call 63 [.t 13, .t 14], none, []⟩,
  ⟨some 12, .mv (.t 15), none, []⟩,
  ⟨some 16, .ext (.t 12) 0, none, []⟩,
  ⟨some 17, .ext (.t 12) 1, none, []⟩,
  ⟨some 10, .alloc [.slice none 0 0, .slice none 0 0, .int .i64 0, .int .i64 0] 119, none, []⟩,
  ⟨none, .st (.t 10) (.t 16) 4, none, []⟩,
  ⟨some 11, .mv (.t 17), none, []⟩])
  (.seq (.block 0 (.seq (.reg [
   ⟨some 19, .mv (.t 11), none, []⟩,
   ⟨some 20, .bin .neq (.t 19) (.c (.int .i64 0)), none, []⟩,
   ⟨some 18, .mv (.t 20), none, []⟩])
   (.cond (.t 18)
   (.seq (.reg [
    ⟨some 21, .build [.int .i64 0, .int .i64 0] [], none, []⟩,
    ⟨some 22, .mv (.t 11), none, []⟩,
    ⟨none, .st (.t 8) (.t 21) 2, none, []⟩,
    ⟨some 9, .mv (.t 22), none, []⟩])
    .ret)
   (.seq (.reg [
    ⟨some 24, .addo (.t 4) 1, none, []⟩,
    ⟨some 25, .ld (.t 24) 1 false, none, []⟩,
    ⟨some 26, .len (.t 25), none, []⟩,
    ⟨some 27, .bin .sub (.t 26) (.c (.int .i64 1)), none, []⟩,
    ⟨some 28, .mv (.t 1), none, []⟩,
    ⟨some 29, .bsl 1 3 [.t 28], none, []⟩,
    ⟨some 30, .call 58 [.c (.int .i64 0), .t 27, .t 29], none, []⟩,
    ⟨some 31, .un .not (.t 30), none, []⟩,
    ⟨some 32, .mv (.t 31), none, []⟩,
    ⟨some 33, .mv (.t 2), some (32, false), []⟩,
    ⟨some 34, .bsl 1 3 [.t 33], some (32, false), []⟩,
    ⟨some 35, .call 58 [.c (.int .i64 0), .c (.int .i64 100000), .t 34], some (32, false), []⟩,
    ⟨some 36, .un .not (.t 35), some (32, false), []⟩,
    ⟨some 37, .pick (.t 32) (.c (.bool true)) (.t 36), none, []⟩,
    ⟨some 23, .mv (.t 37), none, []⟩])
    (.cond (.t 23)
    (.seq (.reg [
     ⟨some 38, .build [.int .i64 0, .int .i64 0] [], none, []⟩,
     ⟨none, .st (.t 8) (.t 38) 2, none, []⟩,
     ⟨some 9, .mv (.c (.int .i64 2)), none, []⟩])
     .ret)
    .skip)))))
  (.seq (.reg [
  ⟨some 39, .ld (.t 10) 4 true, none, []⟩,
  ⟨some 40, .mv (.t 1), none, []⟩,
  ⟨some 41, .mv (.t 2), none, []⟩,
  ⟨some 42, .mv (.t 2), none, []⟩,
  ⟨some 43, .build [.int .i64 0, .int .i64 0] [(0, 1, .t 41), (1, 1, .t 42)], none, []⟩,
  ⟨some 44, .call 68 [.t 39, .t 40, .t 43], none, []⟩,
  ⟨some 45, .call 65 [.t 44], none, []⟩,
  ⟨none, .st (.t 8) (.t 45) 2, none, []⟩,
  ⟨some 9, .mv (.c (.int .i64 0)), none, []⟩])
  .ret))))
def r24 : List RV := [.cell 8 2 true, .tmp 9]
theorem n24 : Try.f24.ntmps = 46 := by kernel_rfl
theorem b24 : bodyB Try.prog 24 = true := by kernel_rfl
theorem c24_ok : cmpC Try.prog c24 ((Try.f24.body).getD .skip) = true := by kernel_rfl
theorem r24_ok : cmpR Try.prog r24 Try.f24.results.toList = true := by kernel_rfl
theorem t24 {args : List SV} {res : SV} (ka : KFL args) (kr : KF res) (h : sx Try.prog c24 (st0 args 46) (retK r24 res)) (hA : Nat.ble args.length 46 = true := by rfl) : Ct Try.prog 24 args res := ct_intro Try.func24 rfl b24 c24_ok r24_ok n24 (Nat.le_of_ble_eq_true hA) ka kr h
/- azalai/azalairef03.Leave -/
def c25 : SC := (.seq (.reg [
  ⟨some 4, .box (.t 0) 0 25, none, []⟩,
  ⟨some 7, .box (.t 3) 0 29, none, []⟩,
  ⟨some 8, .alloc [.int .i64 0, .int .i64 0] 29, none, []⟩,
  ⟨some 9, .mv (.c (.int .i64 0)), none, []⟩])
  (.seq (.seq (.reg [
  ⟨some 11, .ld (.t 4) 2 true, none, []⟩,
  ⟨some 12, .ld (.t 7) 2 true, none, []⟩,
  ⟨some 13, .call 66 [.t 11, .t 12], none, []⟩,
  ⟨some 10, .mv (.t 13), none, []⟩])
  (.seq (.reg [
  ⟨some 14, .mv (.t 10), none, []⟩,
  ⟨some 15, .bin .neq (.t 14) (.c (.int .i64 0)), none, []⟩])
  (.cond (.t 15)
  (.seq (.reg [
   ⟨some 16, .build [.int .i64 0, .int .i64 0] [], none, []⟩,
   ⟨some 17, .mv (.t 10), none, []⟩,
   ⟨none, .st (.t 8) (.t 16) 2, none, []⟩,
   ⟨some 9, .mv (.t 17), none, []⟩])
   .ret)
  .skip)))
  (.seq (.seq (.reg [
  ⟨some 18, .mv (.t 1), none, []⟩,
  ⟨some 19, .addo (.t 4) 1, none, []⟩,
  ⟨some 20, .ld (.t 19) 1 false, none, []⟩,
  ⟨some 21, .len (.t 20), none, []⟩,
  ⟨some 22, .bin .sub (.t 21) (.c (.int .i64 1)), none, []⟩,
  ⟨some 23, .call 61 [.t 18, .c (.int .i64 0), .t 22], none, []⟩,
  ⟨some 24, .un .not (.t 23), none, []⟩,
  ⟨some 25, .mv (.t 24), none, []⟩,
  ⟨some 26, .mv (.t 2), some (25, false), []⟩,
  ⟨some 27, .call 61 [.t 26, .c (.int .i64 0), .c (.int .i64 100000)], some (25, false), []⟩,
  ⟨some 28, .un .not (.t 27), some (25, false), []⟩,
  ⟨some 29, .pick (.t 25) (.c (.bool true)) (.t 28), none, []⟩])
  (.cond (.t 29)
  (.seq (.reg [
   ⟨some 30, .build [.int .i64 0, .int .i64 0] [], none, []⟩,
   ⟨none, .st (.t 8) (.t 30) 2, none, []⟩,
   ⟨some 9, .mv (.c (.int .i64 2)), none, []⟩])
   .ret)
  .skip))
  (.seq (.regd [0, 1, 2, 3, 4, 5, 6, 7, 8, 9, 10, 11, 12, 13, 14, 15, 16, 17, 18] [
  .op ⟨some 31, .addo (.t 4) 1, none, []⟩,
  .op ⟨some 32, .ld (.t 31) 1 false, none, [0]⟩,
  .op ⟨some 33, .mv (.t 1), none, []⟩,
  .op ⟨some 34, .ixs (.t 32) (.t 33) 5, none, [1, 2]⟩,
  .op ⟨some 35, .ld (.t 34) 5 true, none, [3]⟩,
  .op ⟨some 36, .mv (.t 2), none, []⟩,
  .op ⟨some 37, .ld (.t 7) 2 true, none, []⟩,
  .op ⟨some 38, .call 69 [.t 35, .t 36, .t 37], none, [4, 5, 6]⟩,
  .op ⟨some 39, .addo (.t 4) 1, none, []⟩,
  .op ⟨some 40, .ld (.t 39) 1 false, none, [8]⟩,
  .op ⟨some 41, .mv (.t 1), none, []⟩,
  .op ⟨some 42, .ixs (.t 40) (.t 41) 5, none, [9, 10]⟩,
  .op ⟨some 43, .ld (.t 42) 5 true, none, [11]⟩,
  .op ⟨some 44, .mv (.t 2), none, []⟩,
  .op ⟨some 45, .ld (.t 7) 2 true, none, []⟩,
  .op ⟨some 46, .call 70 [.t 43, .t 44, .t 45], none, [7, 12, 13, 14]⟩,
  .op ⟨some 47, .build [.int .i64 0, .int .i64 0] [(0, 1, .t 38), (1, 1, .t 46)], none, [7, 15]⟩] 0 1 [
  ⟨none, .st (.t 8) (.t 47) 2, none, [0, 1, 2, 3, 4, 5, 6, 7, 8, 9, 10, 11, 12, 13, 14, 15, 16]⟩,
  ⟨some 9, .mv (.c (.int .i64 0)), none, [0, 1, 2, 3, 4, 5, 6, 7, 8, 9, 10, 11, 12, 13, 14, 15, 16, 17]⟩])
  .ret))))
def r25 : List RV := [.cell 8 2 true, .tmp 9]
theorem n25 : Try.f25.ntmps = 48 := by kernel_rfl
theorem b25 : bodyB Try.prog 25 = true := by kernel_rfl
theorem c25_ok : cmpC Try.prog c25 ((Try.f25.body).getD .skip) = true := by kernel_rfl
theorem r25_ok : cmpR Try.prog r25 Try.f25.results.toList = true := by kernel_rfl
theorem t25 {args : List SV} {res : SV} (ka : KFL args) (kr : KF res) (h : sx Try.prog c25 (st0 args 48) (retK r25 res)) (hA : Nat.ble args.length 48 = true := by rfl) : Ct Try.prog 25 args res := ct_intro Try.func25 rfl b25 c25_ok r25_ok n25 (Nat.le_of_ble_eq_true hA) ka kr h
/- azalai/azalairef03.Check -/
def c27 : SC := (.seq (.reg [
  ⟨some 1, .box (.t 0) 0 25, none, []⟩,
  ⟨some 2, .mv (.c (.int .i64 0)), none, []⟩])
  (.seq (.seq (.reg [
  ⟨some 3, .ld (.t 1) 2 true, none, []⟩,
  ⟨some 4, .call 60 [.t 3], none, []⟩,
  ⟨some 5, .un .not (.t 4), none, []⟩])
  (.cond (.t 5)
  (.seq (.reg [
   ⟨some 2, .mv (.c (.int .i64 30)), none, []⟩])
   .ret)
  .skip))
  (.seq (.reg [
  ⟨some 2, .mv (.c (.int .i64 0)), none, []⟩])
  .ret)))
def r27 : List RV := [.tmp 2]
theorem n27 : Try.f27.ntmps = 6 := by kernel_rfl
theorem b27 : bodyB Try.prog 27 = true := by kernel_rfl
theorem c27_ok : cmpC Try.prog c27 ((Try.f27.body).getD .skip) = true := by kernel_rfl
theorem r27_ok : cmpR Try.prog r27 Try.f27.results.toList = true := by kernel_rfl
theorem t27 {args : List SV} {res : SV} (ka : KFL args) (kr : KF res) (h : sx Try.prog c27 (st0 args 6) (retK r27 res)) (hA : Nat.ble args.length 6 = true := by rfl) : Ct Try.prog 27 args res := ct_intro Try.func27 rfl b27 c27_ok r27_ok n27 (Nat.le_of_ble_eq_true hA) ka kr h
/- azalai/azalairef03.Same -/
def c28 : SC := (.seq (.reg [
  ⟨some 2, .box (.t 0) 0 25, none, []⟩,
  ⟨some 3, .box (.t 1) 0 25, none, []⟩,
  ⟨some 4, .mv (.c (.bool false)), none, []⟩])
  (.seq (.seq (.reg [
  ⟨some 10, .addo (.t 2) 0, none, []⟩,
  ⟨some 11, .ld (.t 10) 1 false, none, []⟩,
  ⟨some 12, .len (.t 11), none, []⟩,
  ⟨some 13, .addo (.t 3) 0, none, []⟩,
  ⟨some 14, .ld (.t 13) 1 false, none, []⟩,
  ⟨some 15, .len (.t 14), none, []⟩,
  ⟨some 16, .bin .neq (.t 12) (.t 15), none, []⟩,
  ⟨some 17, .mv (.t 16), none, []⟩,
  ⟨some 18, .addo (.t 2) 1, some (17, false), []⟩,
  ⟨some 19, .ld (.t 18) 1 false, some (17, false), []⟩,
  ⟨some 20, .len (.t 19), some (17, false), []⟩,
  ⟨some 21, .addo (.t 3) 1, some (17, false), []⟩,
  ⟨some 22, .ld (.t 21) 1 false, some (17, false), []⟩,
  ⟨some 23, .len (.t 22), some (17, false), []⟩,
  ⟨some 24, .bin .neq (.t 20) (.t 23), some (17, false), []⟩,
  ⟨some 25, .pick (.t 17) (.c (.bool true)) (.t 24), none, []⟩])
  (.cond (.t 25)
  (.seq (.reg [
   ⟨some 4, .mv (.c (.bool false)), none, []⟩])
   .ret)
  .skip))
  (.seq (.seq (.reg [
  ⟨some 5, .mv (.c (.int .i64 0)), none, []⟩])
  (.block 0 (.loop (.seq (.seq (.reg [
    ⟨some 26, .mv (.t 5), none, []⟩,
    ⟨some 27, .addo (.t 2) 0, none, []⟩,
    ⟨some 28, .ld (.t 27) 1 false, none, []⟩,
    ⟨some 29, .len (.t 28), none, []⟩,
    ⟨some 30, .bin .lss (.t 26) (.t 29), none, []⟩])
    (.cond (.t 30)
    .skip
    (.exit 0)))
    (.seq (.block 1 (.seq (.regd [0, 1, 2, 3, 4, 5, 6, 7, 8, 9, 10] [
     .op ⟨some 33, .addo (.t 2) 0, none, []⟩,
     .op ⟨some 34, .ld (.t 33) 1 false, none, [0]⟩,
     .op ⟨some 35, .mv (.t 5), none, []⟩,
     .op ⟨some 36, .ixs (.t 34) (.t 35) 9, none, [1, 2]⟩,
     .op ⟨some 37, .ld (.t 36) 9 true, none, [3]⟩,
     .op ⟨some 38, .addo (.t 3) 0, none, []⟩,
     .op ⟨some 39, .ld (.t 38) 1 false, none, [5]⟩,
     .op ⟨some 40, .mv (.t 5), none, []⟩,
     .op ⟨some 41, .ixs (.t 39) (.t 40) 9, none, [6, 7]⟩,
     .op ⟨some 42, .ld (.t 41) 9 true, none, [8]⟩,
     .op ⟨some 43, .eqs true true [1, 1, 1, 1, 1, 1, 1, 1, 1] (.t 37) (.t 42), none, [4, 9]⟩] 0 0 [
])
     (.cond (.t 43)
     (.seq (.reg [
      ⟨some 4, .mv (.c (.bool false)), none, []⟩])
      .ret)
     .skip)))
    (.reg [
    ⟨some 31, .mv (.t 5), none, []⟩,
    ⟨some 32, .bin .add (.t 31) (.c (.int .i64 1)), none, []⟩,
    ⟨some 5, .mv (.t 32), none, []⟩]))))))
  (.seq (.seq (.reg [
  ⟨some 6, .mv (.c (.int .i64 0)), none, []⟩])
  (.block 2 (.loop (.seq (.seq (.reg [
    ⟨some 44, .mv (.t 6), none, []⟩,
    ⟨some 45, .addo (.t 2) 1, none, []⟩,
    ⟨some 46, .ld (.t 45) 1 false, none, []⟩,
    ⟨some 47, .len (.t 46), none, []⟩,
    ⟨some 48, .bin .lss (.t 44) (.t 47), none, []⟩])
    (.cond (.t 48)
    .skip
    (.exit 2)))
    (.seq (.block 3 (.seq (.regd [0, 1, 2, 3, 4, 5, 6, 7, 8, 9, 10, 11, 12, 13] [
     .op ⟨some 51, .addo (.t 2) 1, none, []⟩,
     .op ⟨some 52, .ld (.t 51) 1 false, none, [0]⟩,
     .op ⟨some 53, .mv (.t 6), none, []⟩,
     .op ⟨some 54, .ixs (.t 52) (.t 53) 5, none, [1, 2]⟩,
     .op ⟨some 55, .ld (.t 54) 5 true, none, [3]⟩,
     .op ⟨some 56, .addo (.t 3) 1, none, []⟩,
     .op ⟨some 57, .ld (.t 56) 1 false, none, [5]⟩,
     .op ⟨some 58, .mv (.t 6), none, []⟩,
     .op ⟨some 59, .ixs (.t 57) (.t 58) 5, none, [6, 7]⟩,
     .op ⟨some 60, .ld (.t 59) 5 true, none, [8]⟩] 2 2 [
     ⟨some 7, .alloc [.int .i64 0, .int .i64 0, .int .i64 0, .int .i64 0, .slice none 0 0] 86, none, []⟩,
     ⟨some 8, .alloc [.int .i64 0, .int .i64 0, .int .i64 0, .int .i64 0, .slice none 0 0] 86, none, []⟩,
     ⟨none, .st (.t 7) (.t 55) 5, none, [0, 1, 2, 3, 4, 10, 11]⟩,
     ⟨none, .st (.t 8) (.t 60) 5, none, [0, 1, 2, 3, 4, 5, 6, 7, 8, 9, 10, 11, 12]⟩])
     (.seq (.seq (.reg [
     ⟨some 61, .addo (.t 7) 0, none, []⟩,
     ⟨some 62, .ld (.t 61) 1 false, none, []⟩,
     ⟨some 63, .addo (.t 8) 0, none, []⟩,
     ⟨some 64, .ld (.t 63) 1 false, none, []⟩,
     ⟨some 65, .bin .neq (.t 62) (.t 64), none, []⟩,
     ⟨some 66, .mv (.t 65), none, []⟩,
     ⟨some 67, .addo (.t 7) 1, some (66, false), []⟩,
     ⟨some 68, .ld (.t 67) 1 false, some (66, false), []⟩,
     ⟨some 69, .addo (.t 8) 1, some (66, false), []⟩,
     ⟨some 70, .ld (.t 69) 1 false, some (66, false), []⟩,
     ⟨some 71, .bin .neq (.t 68) (.t 70), some (66, false), []⟩,
     ⟨some 72, .pick (.t 66) (.c (.bool true)) (.t 71), none, []⟩,
     ⟨some 73, .mv (.t 72), none, []⟩,
     ⟨some 74, .addo (.t 7) 2, some (73, false), []⟩,
     ⟨some 75, .ld (.t 74) 2 true, some (73, false), []⟩,
     ⟨some 76, .addo (.t 8) 2, some (73, false), []⟩,
     ⟨some 77, .ld (.t 76) 2 true, some (73, false), []⟩,
     ⟨some 78, .eqs true true [1, 1] (.t 75) (.t 77), some (73, false), []⟩,
     ⟨some 79, .pick (.t 73) (.c (.bool true)) (.t 78), none, []⟩,
     ⟨some 80, .mv (.t 79), none, []⟩,
     ⟨some 81, .addo (.t 7) 4, some (80, false), []⟩,
     ⟨some 82, .ld (.t 81) 1 false, some (80, false), []⟩,
     ⟨some 83, .len (.t 82), some (80, false), []⟩,
     ⟨some 84, .addo (.t 8) 4, some (80, false), []⟩,
     ⟨some 85, .ld (.t 84) 1 false, some (80, false), []⟩,
     ⟨some 86, .len (.t 85), some (80, false), []⟩,
     ⟨some 87, .bin .neq (.t 83) (.t 86), some (80, false), []⟩,
     ⟨some 88, .pick (.t 80) (.c (.bool true)) (.t 87), none, []⟩])
     (.cond (.t 88)
     (.seq (.reg [
      ⟨some 4, .mv (.c (.bool false)), none, []⟩])
      .ret)
     .skip))
     (.seq (.reg [
     ⟨some 9, .mv (.c (.int .i64 0)), none, []⟩])
     (.block 4 (.loop (.seq (.seq (.reg [
       ⟨some 89, .mv (.t 9), none, []⟩,
       ⟨some 90, .addo (.t 7) 4, none, []⟩,
       ⟨some 91, .ld (.t 90) 1 false, none, []⟩,
       ⟨some 92, .len (.t 91), none, []⟩,
       ⟨some 93, .bin .lss (.t 89) (.t 92), none, []⟩])
       (.cond (.t 93)
       .skip
       (.exit 4)))
       (.seq (.block 5 (.seq (.regd [0, 1, 2, 3, 4, 5, 6, 7, 8, 9, 10] [
        .op ⟨some 96, .addo (.t 7) 4, none, []⟩,
        .op ⟨some 97, .ld (.t 96) 1 false, none, [0]⟩,
        .op ⟨some 98, .mv (.t 9), none, []⟩,
        .op ⟨some 99, .ixs (.t 97) (.t 98) 4, none, [1, 2]⟩,
        .op ⟨some 100, .ld (.t 99) 4 true, none, [3]⟩,
        .op ⟨some 101, .addo (.t 8) 4, none, []⟩,
        .op ⟨some 102, .ld (.t 101) 1 false, none, [5]⟩,
        .op ⟨some 103, .mv (.t 9), none, []⟩,
        .op ⟨some 104, .ixs (.t 102) (.t 103) 4, none, [6, 7]⟩,
        .op ⟨some 105, .ld (.t 104) 4 true, none, [8]⟩,
        .op ⟨some 106, .eqs true true [1, 1, 1, 1] (.t 100) (.t 105), none, [4, 9]⟩] 0 0 [
])
        (.cond (.t 106)
        (.seq (.reg [
         ⟨some 4, .mv (.c (.bool false)), none, []⟩])
         .ret)
        .skip)))
       (.reg [
       ⟨some 94, .mv (.t 9), none, []⟩,
       ⟨some 95, .bin .add (.t 94) (.c (.int .i64 1)), none, []⟩,
       ⟨some 9, .mv (.t 95), none, []⟩])))))))))
    (.reg [
    ⟨some 49, .mv (.t 6), none, []⟩,
    ⟨some 50, .bin .add (.t 49) (.c (.int .i64 1)), none, []⟩,
    ⟨some 6, .mv (.t 50), none, []⟩]))))))
  (.seq (.reg [
  ⟨some 4, .mv (.c (.bool true)), none, []⟩])
  .ret)))))
def r28 : List RV := [.tmp 4]
theorem n28 : Try.f28.ntmps = 107 := by kernel_rfl
theorem b28 : bodyB Try.prog 28 = true := by kernel_rfl
theorem c28_ok : cmpC Try.prog c28 ((Try.f28.body).getD .skip) = true := by kernel_rfl
theorem r28_ok : cmpR Try.prog r28 Try.f28.results.toList = true := by kernel_rfl
theorem t28 {args : List SV} {res : SV} (ka : KFL args) (kr : KF res) (h : sx Try.prog c28 (st0 args 107) (retK r28 res)) (hA : Nat.ble args.length 107 = true := by rfl) : Ct Try.prog 28 args res := ct_intro Try.func28 rfl b28 c28_ok r28_ok n28 (Nat.le_of_ble_eq_true hA) ka kr h
/- azalai/way.open -/
def c63 : SC := (.seq (.reg [
  ⟨some 2, .box (.t 0) 0 25, none, []⟩,
  ⟨some 3, .box (.t 1) 0 29, none, []⟩,
  ⟨some 4, .alloc [.slice none 0 0, .slice none 0 0, .int .i64 0, .int .i64 0] 119, none, []⟩,
  ⟨some 5, .mv (.c (.int .i64 0)), none, []⟩])
  (.seq (.seq (.reg [
  ⟨some 7, .ld (.t 2) 2 true, none, []⟩,
  ⟨some 8, .call 26 [.t 7], none, []⟩,
  ⟨some 6, .mv (.t 8), none, []⟩])
  (.seq (.reg [
  ⟨some 9, .mv (.t 6), none, []⟩,
  ⟨some 10, .bin .neq (.t 9) (.c (.int .i64 0)), none, []⟩])
  (.cond (.t 10)
  (.seq (.reg [
   ⟨some 11, .build [.slice none 0 0, .slice none 0 0, .int .i64 0, .int .i64 0] [], none, []⟩,
   ⟨some 12, .mv (.t 6), none, []⟩,
   ⟨none, .st (.t 4) (.t 11) 4, none, []⟩,
   ⟨some 5, .mv (.t 12), none, []⟩])
   .ret)
  .skip)))
  (.seq (.seq (.reg [
  ⟨some 13, .ld (.t 3) 2 true, none, []⟩,
  ⟨some 14, .bsl 2 29 [.t 13], none, []⟩,
  ⟨some 15, .call 93 [.c (.int .i64 1), .c (.int .i64 100000), .t 14], none, []⟩,
  ⟨some 16, .un .not (.t 15), none, []⟩])
  (.cond (.t 16)
  (.seq (.reg [
   ⟨some 17, .build [.slice none 0 0, .slice none 0 0, .int .i64 0, .int .i64 0] [], none, []⟩,
   ⟨none, .st (.t 4) (.t 17) 4, none, []⟩,
   ⟨some 5, .mv (.c (.int .i64 31)), none, []⟩])
   .ret)
  .skip))
  (.seq (.reg [
  ⟨some 18, .ld (.t 2) 2 true, none, []⟩,
  ⟨some 19, .ld (.t 3) 2 true, none, []⟩,
  ⟨some 20, .build [.slice none 0 0, .slice none 0 0, .int .i64 0, .int .i64 0] [(0, 2, .t 18), (2, 2, .t 19)], none, []⟩,
  ⟨none, .st (.t 4) (.t 20) 4, none, []⟩,
  ⟨some 5, .mv (.c (.int .i64 0)), none, []⟩])
  .ret))))
def r63 : List RV := [.cell 4 4 true, .tmp 5]
theorem n63 : Try.f63.ntmps = 21 := by kernel_rfl
theorem b63 : bodyB Try.prog 63 = true := by kernel_rfl
theorem c63_ok : cmpC Try.prog c63 ((Try.f63.body).getD .skip) = true := by kernel_rfl
theorem r63_ok : cmpR Try.prog r63 Try.f63.results.toList = true := by kernel_rfl
theorem t63 {args : List SV} {res : SV} (ka : KFL args) (kr : KF res) (h : sx Try.prog c63 (st0 args 21) (retK r63 res)) (hA : Nat.ble args.length 21 = true := by rfl) : Ct Try.prog 63 args res := ct_intro Try.func63 rfl b63 c63_ok r63_ok n63 (Nat.le_of_ble_eq_true hA) ka kr h
/- (azalai/way.caravan).days -/
def c64 : SC := (.seq (.reg [
  ⟨some 2, .box (.t 0) 0 119, none, []⟩,
  ⟨some 4, .alloc [.int .i64 0, .int .i64 0] 123, none, []⟩])
  (.seq (.reg [
  ⟨some 6, .addo (.t 2) 0, none, []⟩,
  ⟨some 7, .addo (.t 6) 1, none, []⟩,
  ⟨some 8, .ld (.t 7) 1 false, none, []⟩,
  ⟨some 9, .mv (.t 1), none, []⟩,
  ⟨some 10, .ixs (.t 8) (.t 9) 5, none, []⟩,
  ⟨some 11, .addo (.t 10) 2, none, []⟩,
  ⟨some 12, .ld (.t 11) 2 true, none, []⟩,
  ⟨some 5, .alloc [.int .i64 0, .int .i64 0] 29, none, []⟩,
  ⟨none, .st (.t 5) (.t 12) 2, none, []⟩])
  (.seq (.regd [0, 1, 2, 3, 4, 5, 6, 7, 8, 9, 10, 11, 12, 13, 14, 15, 16, 17, 18, 19, 20, 21, 22, 23] [
  .op ⟨some 13, .addo (.t 5) 0, none, []⟩,
  .op ⟨some 14, .ld (.t 13) 1 false, none, [0]⟩,
  .op ⟨some 15, .addo (.t 2) 2, none, []⟩,
  .op ⟨some 16, .addo (.t 15) 1, none, [2]⟩,
  .op ⟨some 17, .ld (.t 16) 1 false, none, [3]⟩,
  .op ⟨some 18, .bin .add (.t 14) (.t 17), none, [1, 4]⟩,
  .op ⟨some 19, .bin .sub (.t 18) (.c (.int .i64 1)), none, [5]⟩,
  .op ⟨some 20, .addo (.t 2) 2, none, []⟩,
  .op ⟨some 21, .addo (.t 20) 1, none, [7]⟩,
  .op ⟨some 22, .ld (.t 21) 1 false, none, [8]⟩,
  .op ⟨some 23, .div .quo (.t 19) (.t 22), none, [6, 9]⟩,
  .op ⟨some 24, .addo (.t 5) 1, none, []⟩,
  .op ⟨some 25, .ld (.t 24) 1 false, none, [11]⟩,
  .op ⟨some 26, .addo (.t 2) 2, none, []⟩,
  .op ⟨some 27, .addo (.t 26) 0, none, [13]⟩,
  .op ⟨some 28, .ld (.t 27) 1 false, none, [14]⟩,
  .op ⟨some 29, .bin .add (.t 25) (.t 28), none, [12, 15]⟩,
  .op ⟨some 30, .bin .sub (.t 29) (.c (.int .i64 1)), none, [16]⟩,
  .op ⟨some 31, .addo (.t 2) 2, none, []⟩,
  .op ⟨some 32, .addo (.t 31) 0, none, [18]⟩,
  .op ⟨some 33, .ld (.t 32) 1 false, none, [19]⟩,
  .op ⟨some 34, .div .quo (.t 30) (.t 33), none, [17, 20]⟩,
  .op ⟨some 35, .build [.int .i64 0, .int .i64 0] [(0, 1, .t 23), (1, 1, .t 34)], none, [10, 21]⟩] 0 1 [
  ⟨none, .st (.t 4) (.t 35) 2, none, [0, 1, 2, 3, 4, 5, 6, 7, 8, 9, 10, 11, 12, 13, 14, 15, 16, 17, 18, 19, 20, 21, 22]⟩])
  .ret)))
def r64 : List RV := [.cell 4 2 true]
theorem n64 : Try.f64.ntmps = 36 := by kernel_rfl
theorem b64 : bodyB Try.prog 64 = true := by kernel_rfl
theorem c64_ok : cmpC Try.prog c64 ((Try.f64.body).getD .skip) = true := by kernel_rfl
theorem r64_ok : cmpR Try.prog r64 Try.f64.results.toList = true := by kernel_rfl
theorem t64 {args : List SV} {res : SV} (ka : KFL args) (kr : KF res) (h : sx Try.prog c64 (st0 args 36) (retK r64 res)) (hA : Nat.ble args.length 36 = true := by rfl) : Ct Try.prog 64 args res := ct_intro Try.func64 rfl b64 c64_ok r64_ok n64 (Nat.le_of_ble_eq_true hA) ka kr h
/- (azalai/way.both).span -/
def c65 : SC := (.seq (.reg [
  ⟨some 1, .box (.t 0) 0 123, none, []⟩,
  ⟨some 2, .alloc [.int .i64 0, .int .i64 0] 29, none, []⟩])
  (.seq (.reg [
  ⟨some 3, .ixa (.t 1) (.c (.int .i64 0)) 2 1, none, []⟩,
  ⟨some 4, .ld (.t 3) 1 false, none, []⟩,
  ⟨some 5, .ixa (.t 1) (.c (.int .i64 1)) 2 1, none, []⟩,
  ⟨some 6, .ld (.t 5) 1 false, none, []⟩,
  ⟨some 7, .build [.int .i64 0, .int .i64 0] [(0, 1, .t 4), (1, 1, .t 6)], none, []⟩,
  ⟨none, .st (.t 2) (.t 7) 2, none, []⟩])
  .ret))
def r65 : List RV := [.cell 2 2 true]
theorem n65 : Try.f65.ntmps = 8 := by kernel_rfl
theorem b65 : bodyB Try.prog 65 = true := by kernel_rfl
theorem c65_ok : cmpC Try.prog c65 ((Try.f65.body).getD .skip) = true := by kernel_rfl
theorem r65_ok : cmpR Try.prog r65 Try.f65.results.toList = true := by kernel_rfl
theorem t65 {args : List SV} {res : SV} (ka : KFL args) (kr : KF res) (h : sx Try.prog c65 (st0 args 8) (retK r65 res)) (hA : Nat.ble args.length 8 = true := by rfl) : Ct Try.prog 65 args res := ct_intro Try.func65 rfl b65 c65_ok r65_ok n65 (Nat.le_of_ble_eq_true hA) ka kr h
/- azalai/azalairef03.asked -/
def c66 : SC := (.seq (.reg [
  ⟨some 2, .box (.t 0) 0 25, none, []⟩,
  ⟨some 3, .box (.t 1) 0 29, none, []⟩,
  ⟨some 4, .mv (.c (.int .i64 0)), none, []⟩])
  (.seq (.seq (.reg [
  ⟨some 5, .ld (.t 2) 2 true, none, []⟩,
  ⟨some 6, .call 60 [.t 5], none, []⟩,
  ⟨some 7, .un .not (.t 6), none, []⟩])
  (.cond (.t 7)
  (.seq (.reg [
   ⟨some 4, .mv (.c (.int .i64 30)), none, []⟩])
   .ret)
  .skip))
  (.seq (.seq (.reg [
  ⟨some 8, .ld (.t 3) 2 true, none, []⟩,
  ⟨some 9, .call 89 [.t 8], none, []⟩,
  ⟨some 10, .un .not (.t 9), none, []⟩])
  (.cond (.t 10)
  (.seq (.reg [
   ⟨some 4, .mv (.c (.int .i64 31)), none, []⟩])
   .ret)
  .skip))
  (.seq (.reg [
  ⟨some 4, .mv (.c (.int .i64 0)), none, []⟩])
  .ret))))
def r66 : List RV := [.tmp 4]
theorem n66 : Try.f66.ntmps = 11 := by kernel_rfl
theorem b66 : bodyB Try.prog 66 = true := by kernel_rfl
theorem c66_ok : cmpC Try.prog c66 ((Try.f66.body).getD .skip) = true := by kernel_rfl
theorem r66_ok : cmpR Try.prog r66 Try.f66.results.toList = true := by kernel_rfl
theorem t66 {args : List SV} {res : SV} (ka : KFL args) (kr : KF res) (h : sx Try.prog c66 (st0 args 11) (retK r66 res)) (hA : Nat.ble args.length 11 = true := by rfl) : Ct Try.prog 66 args res := ct_intro Try.func66 rfl b66 c66_ok r66_ok n66 (Nat.le_of_ble_eq_true hA) ka kr h
/- azalai/azalairef03.days -/
def c67 : SC := (.seq (.reg [
  ⟨some 2, .box (.t 0) 0 86, none, []⟩,
  ⟨some 3, .box (.t 1) 0 29, none, []⟩,
  ⟨some 4, .alloc [.int .i64 0, .int .i64 0] 29, none, []⟩])
  (.seq (.regd [0, 1, 2, 3, 4, 5, 6, 7, 8, 9, 10, 11, 12, 13, 14, 15, 16, 17, 18, 19, 20, 21] [
  .op ⟨some 5, .addo (.t 2) 2, none, []⟩,
  .op ⟨some 6, .addo (.t 5) 0, none, [0]⟩,
  .op ⟨some 7, .ld (.t 6) 1 false, none, [1]⟩,
  .op ⟨some 8, .addo (.t 3) 1, none, []⟩,
  .op ⟨some 9, .ld (.t 8) 1 false, none, [3]⟩,
  .op ⟨some 10, .bin .add (.t 7) (.t 9), none, [2, 4]⟩,
  .op ⟨some 11, .bin .sub (.t 10) (.c (.int .i64 1)), none, [5]⟩,
  .op ⟨some 12, .addo (.t 3) 1, none, []⟩,
  .op ⟨some 13, .ld (.t 12) 1 false, none, [7]⟩,
  .op ⟨some 14, .div .quo (.t 11) (.t 13), none, [6, 8]⟩,
  .op ⟨some 15, .addo (.t 2) 2, none, []⟩,
  .op ⟨some 16, .addo (.t 15) 1, none, [10]⟩,
  .op ⟨some 17, .ld (.t 16) 1 false, none, [11]⟩,
  .op ⟨some 18, .addo (.t 3) 0, none, []⟩,
  .op ⟨some 19, .ld (.t 18) 1 false, none, [13]⟩,
  .op ⟨some 20, .bin .add (.t 17) (.t 19), none, [12, 14]⟩,
  .op ⟨some 21, .bin .sub (.t 20) (.c (.int .i64 1)), none, [15]⟩,
  .op ⟨some 22, .addo (.t 3) 0, none, []⟩,
  .op ⟨some 23, .ld (.t 22) 1 false, none, [17]⟩,
  .op ⟨some 24, .div .quo (.t 21) (.t 23), none, [16, 18]⟩,
  .op ⟨some 25, .build [.int .i64 0, .int .i64 0] [(0, 1, .t 14), (1, 1, .t 24)], none, [9, 19]⟩] 0 1 [
  ⟨none, .st (.t 4) (.t 25) 2, none, [0, 1, 2, 3, 4, 5, 6, 7, 8, 9, 10, 11, 12, 13, 14, 15, 16, 17, 18, 19, 20]⟩])
  .ret))
def r67 : List RV := [.cell 4 2 true]
theorem n67 : Try.f67.ntmps = 26 := by kernel_rfl
theorem b67 : bodyB Try.prog 67 = true := by kernel_rfl
theorem c67_ok : cmpC Try.prog c67 ((Try.f67.body).getD .skip) = true := by kernel_rfl
theorem r67_ok : cmpR Try.prog r67 Try.f67.results.toList = true := by kernel_rfl
theorem t67 {args : List SV} {res : SV} (ka : KFL args) (kr : KF res) (h : sx Try.prog c67 (st0 args 26) (retK r67 res)) (hA : Nat.ble args.length 26 = true := by rfl) : Ct Try.prog 67 args res := ct_intro Try.func67 rfl b67 c67_ok r67_ok n67 (Nat.le_of_ble_eq_true hA) ka kr h
/- (azalai/way.caravan).leave -/
def c68 : SC := (.seq (.reg [
  ⟨some 3, .box (.t 0) 0 119, none, []⟩,
  ⟨some 5, .box (.t 2) 0 123, none, []⟩,
  ⟨some 6, .alloc [.int .i64 0, .int .i64 0] 123, none, []⟩])
  (.seq (.reg [
  ⟨some 15, .ld (.t 3) 4 true, none, []⟩,
  ⟨some 16, .mv (.t 1), none, []⟩,
  ⟨some 17, .call 64 [.t 15, .t 16], none, []⟩,
  ⟨some 7, .alloc [.int .i64 0, .int .i64 0] 123, none, []⟩,
  ⟨none, .st (.t 7) (.t 17) 2, none, []⟩])
  (.seq (.reg [
  ⟨some 18, .build [.int .i64 0, .int .i64 0] [(0, 1, .c (.int .i64 100001)), (1, 1, .c (.int .i64 100001))], none, []⟩,
  ⟨some 8, .alloc [.int .i64 0, .int .i64 0] 123, none, []⟩,
  ⟨none, .st (.t 8) (.t 18) 2, none, []⟩])
  (.seq (.seq (.reg [
  ⟨some 19, .addo (.t 3) 0, none, []⟩,
  ⟨some 20, .addo (.t 19) 1, none, []⟩,
  ⟨some 21, .ld (.t 20) 1 false, none, []⟩,
  ⟨some 22, .mv (.t 1), none, []⟩,
  ⟨some 23, .ixs (.t 21) (.t 22) 5, none, []⟩,
  ⟨some 24, .addo (.t 23) 4, none, []⟩,
  ⟨some 25, .ld (.t 24) 1 false, none, []⟩,
  ⟨some 26, .len (.t 25), none, []⟩,
  ⟨some 27, .mv (.c (.int .i64 0)), none, []⟩])
  (.block 0 (.loop (.seq (.reg [
    ⟨some 28, .bin .lss (.t 27) (.t 26), none, []⟩])
    (.seq (.cond (.t 28)
    .skip
    (.exit 0))
    (.seq (.block 1 (.seq (.reg [
     ⟨some 29, .ixs (.t 25) (.t 27) 4, none, []⟩,
     ⟨some 30, .ld (.t 29) 4 true, none, []⟩,
     ⟨some 10, .alloc [.int .i64 0, .int .i64 0, .int .i64 0, .int .i64 0] 95, none, []⟩,
     ⟨none, .st (.t 10) (.t 30) 4, none, []⟩])
     (.seq (.regd [0, 1, 2, 3, 4, 5, 6, 7, 8, 9, 10, 11, 12, 13, 14, 15, 16, 17] [
     .op ⟨some 31, .addo (.t 10) 0, none, []⟩,
     .op ⟨some 32, .addo (.t 31) 0, none, [0]⟩,
     .op ⟨some 33, .ld (.t 32) 1 false, none, [1]⟩,
     .op ⟨some 34, .addo (.t 10) 0, none, []⟩,
     .op ⟨some 35, .addo (.t 34) 1, none, [3]⟩,
     .op ⟨some 36, .ld (.t 35) 1 false, none, [4]⟩,
     .op ⟨some 37, .build [.int .i64 0, .int .i64 0] [(0, 1, .t 33), (1, 1, .t 36)], none, [2, 5]⟩,
     .op ⟨some 38, .addo (.t 10) 2, none, []⟩,
     .op ⟨some 39, .addo (.t 38) 1, none, [7]⟩,
     .op ⟨some 40, .ld (.t 39) 1 false, none, [8]⟩,
     .op ⟨some 41, .addo (.t 10) 2, none, []⟩,
     .op ⟨some 42, .addo (.t 41) 0, none, [10]⟩,
     .op ⟨some 43, .ld (.t 42) 1 false, none, [11]⟩,
     .op ⟨some 44, .build [.int .i64 0, .int .i64 0] [(0, 1, .t 40), (1, 1, .t 43)], none, [9, 12]⟩] 2 2 [
     ⟨some 11, .alloc [.int .i64 0, .int .i64 0] 123, none, []⟩,
     ⟨some 12, .alloc [.int .i64 0, .int .i64 0] 123, none, []⟩,
     ⟨none, .st (.t 11) (.t 37) 2, none, [0, 1, 2, 3, 4, 5, 6, 14, 15]⟩,
     ⟨none, .st (.t 12) (.t 44) 2, none, [0, 1, 2, 3, 4, 5, 6, 7, 8, 9, 10, 11, 12, 13, 14, 15, 16]⟩])
     (.seq (.reg [
     ⟨some 45, .mv (.c (.int .i64 0)), none, []⟩])
     (.block 2 (.loop (.seq (.reg [
       ⟨some 46, .bin .lss (.t 45) (.c (.int .i64 2)), none, []⟩])
       (.seq (.cond (.t 46)
       .skip
       (.exit 2))
       (.seq (.block 3 (.seq (.reg [
        ⟨some 47, .mv (.t 45), none, []⟩,
        ⟨some 13, .mv (.t 47), none, []⟩])
        (.seq (.regd [0, 1, 2, 3, 4, 5, 6, 7] [
        .op ⟨some 48, .mv (.t 13), none, []⟩,
        .op ⟨some 49, .ixa (.t 5) (.t 48) 2 1, none, [0]⟩,
        .op ⟨some 50, .ld (.t 49) 1 false, none, [1]⟩,
        .op ⟨some 51, .mv (.t 13), none, []⟩,
        .op ⟨some 52, .ixa (.t 11) (.t 51) 2 1, none, [3]⟩,
        .op ⟨some 53, .ld (.t 52) 1 false, none, [4]⟩,
        .op ⟨some 54, .mm true [.t 50, .t 53], none, [2, 5]⟩,
        .op ⟨some 14, .mv (.t 54), none, [0, 1, 2, 3, 4, 5, 6]⟩] 0 0 [
])
        (.seq (.regd [0, 1, 2, 3, 4, 5, 6, 7, 8, 9] [
        .op ⟨some 55, .mv (.t 14), none, []⟩,
        .op ⟨some 56, .mv (.t 13), none, []⟩,
        .op ⟨some 57, .ixa (.t 7) (.t 56) 2 1, none, [1]⟩,
        .op ⟨some 58, .ld (.t 57) 1 false, none, [2]⟩,
        .op ⟨some 59, .bin .add (.t 55) (.t 58), none, [0, 3]⟩,
        .op ⟨some 60, .bin .sub (.t 59) (.c (.int .i64 1)), none, [4]⟩,
        .op ⟨some 61, .mv (.t 13), none, []⟩,
        .op ⟨some 62, .ixa (.t 12) (.t 61) 2 1, none, [6]⟩,
        .op ⟨some 63, .ld (.t 62) 1 false, none, [7]⟩,
        .op ⟨some 64, .bin .leq (.t 60) (.t 63), none, [5, 8]⟩] 0 0 [
])
        (.cond (.t 64)
        (.reg [
         ⟨some 65, .mv (.t 13), none, []⟩,
         ⟨some 66, .mv (.t 13), none, []⟩,
         ⟨some 67, .ixa (.t 8) (.t 66) 2 1, none, []⟩,
         ⟨some 68, .ld (.t 67) 1 false, none, []⟩,
         ⟨some 69, .mv (.t 14), none, []⟩,
         ⟨some 70, .bsl 1 3 [.t 68, .t 69], none, []⟩,
         ⟨some 71, .call 94 [.t 70], none, []⟩,
         ⟨some 72, .ixa (.t 8) (.t 65) 2 1, none, []⟩,
         ⟨none, .st (.t 72) (.t 71) 1, none, []⟩])
        .skip)))))
       (.reg [
       ⟨some 73, .bin .add (.t 45) (.c (.int .i64 1)), none, []⟩,
       ⟨some 45, .mv (.t 73), none, []⟩]))))))))))
    (.reg [
    ⟨some 74, .bin .add (.t 27) (.c (.int .i64 1)), none, []⟩,
    ⟨some 27, .mv (.t 74), none, []⟩])))))))
  (.seq (.reg [
  ⟨some 75, .ld (.t 8) 2 true, none, []⟩,
  ⟨none, .st (.t 6) (.t 75) 2, none, []⟩])
  .ret)))))
def r68 : List RV := [.cell 6 2 true]
theorem n68 : Try.f68.ntmps = 76 := by kernel_rfl
theorem b68 : bodyB Try.prog 68 = true := by kernel_rfl
theorem c68_ok : cmpC Try.prog c68 ((Try.f68.body).getD .skip) = true := by kernel_rfl
theorem r68_ok : cmpR Try.prog r68 Try.f68.results.toList = true := by kernel_rfl
theorem t68 {args : List SV} {res : SV} (ka : KFL args) (kr : KF res) (h : sx Try.prog c68 (st0 args 76) (retK r68 res)) (hA : Nat.ble args.length 76 = true := by rfl) : Ct Try.prog 68 args res := ct_intro Try.func68 rfl b68 c68_ok r68_ok n68 (Nat.le_of_ble_eq_true hA) ka kr h
/- azalai/azalairef03.may -/
def c69 : SC := (.seq (.reg [
  ⟨some 3, .box (.t 0) 0 86, none, []⟩,
  ⟨some 5, .box (.t 2) 0 29, none, []⟩,
  ⟨some 6, .mv (.c (.int .i64 0)), none, []⟩])
  (.seq (.seq (.reg [
  ⟨some 7, .mv (.c (.int .i64 0)), none, []⟩])
  (.block 0 (.loop (.seq (.seq (.reg [
    ⟨some 9, .mv (.t 7), none, []⟩,
    ⟨some 10, .addo (.t 3) 4, none, []⟩,
    ⟨some 11, .ld (.t 10) 1 false, none, []⟩,
    ⟨some 12, .len (.t 11), none, []⟩,
    ⟨some 13, .bin .lss (.t 9) (.t 12), none, []⟩])
    (.cond (.t 13)
    .skip
    (.exit 0)))
    (.seq (.block 1 (.seq (.reg [
     ⟨some 16, .mv (.t 1), none, []⟩,
     ⟨some 17, .addo (.t 3) 4, none, []⟩,
     ⟨some 18, .ld (.t 17) 1 false, none, []⟩,
     ⟨some 19, .mv (.t 7), none, []⟩,
     ⟨some 20, .ixs (.t 18) (.t 19) 4, none, []⟩,
     ⟨some 21, .addo (.t 20) 0, none, []⟩,
     ⟨some 22, .addo (.t 21) 0, none, []⟩,
     ⟨some 23, .ld (.t 22) 1 false, none, []⟩,
     ⟨some 24, .mm true [.t 16, .t 23], none, []⟩,
     ⟨some 8, .mv (.t 24), none, []⟩])
     (.seq (.regd [0, 1, 2, 3, 4, 5, 6, 7, 8, 9, 10, 11, 12, 13, 14] [
     .op ⟨some 25, .mv (.t 8), none, []⟩,
     .op ⟨some 26, .ld (.t 3) 5 true, none, []⟩,
     .op ⟨some 27, .ld (.t 5) 2 true, none, []⟩,
     .op ⟨some 28, .call 67 [.t 26, .t 27], none, [1, 2]⟩,
     .op ⟨some 29, .fld (.t 28) 0 1 false, none, [3]⟩,
     .op ⟨some 30, .bin .add (.t 25) (.t 29), none, [0, 4]⟩,
     .op ⟨some 31, .bin .sub (.t 30) (.c (.int .i64 1)), none, [5]⟩,
     .op ⟨some 32, .addo (.t 3) 4, none, []⟩,
     .op ⟨some 33, .ld (.t 32) 1 false, none, [7]⟩,
     .op ⟨some 34, .mv (.t 7), none, []⟩,
     .op ⟨some 35, .ixs (.t 33) (.t 34) 4, none, [8, 9]⟩,
     .op ⟨some 36, .addo (.t 35) 2, none, [10]⟩,
     .op ⟨some 37, .addo (.t 36) 1, none, [11]⟩,
     .op ⟨some 38, .ld (.t 37) 1 false, none, [12]⟩,
     .op ⟨some 39, .bin .leq (.t 31) (.t 38), none, [6, 13]⟩] 0 0 [
])
     (.cond (.t 39)
     (.seq (.reg [
      ⟨some 40, .mv (.t 8), none, []⟩,
      ⟨some 6, .mv (.t 40), none, []⟩])
      .ret)
     .skip))))
    (.reg [
    ⟨some 14, .mv (.t 7), none, []⟩,
    ⟨some 15, .bin .add (.t 14) (.c (.int .i64 1)), none, []⟩,
    ⟨some 7, .mv (.t 15), none, []⟩]))))))
  (.seq (.reg [
  ⟨some 6, .mv (.c (.int .i64 100001)), none, []⟩])
  .ret)))
def r69 : List RV := [.tmp 6]
theorem n69 : Try.f69.ntmps = 41 := by kernel_rfl
theorem b69 : bodyB Try.prog 69 = true := by kernel_rfl
theorem c69_ok : cmpC Try.prog c69 ((Try.f69.body).getD .skip) = true := by kernel_rfl
theorem r69_ok : cmpR Try.prog r69 Try.f69.results.toList = true := by kernel_rfl
theorem t69 {args : List SV} {res : SV} (ka : KFL args) (kr : KF res) (h : sx Try.prog c69 (st0 args 41) (retK r69 res)) (hA : Nat.ble args.length 41 = true := by rfl) : Ct Try.prog 69 args res := ct_intro Try.func69 rfl b69 c69_ok r69_ok n69 (Nat.le_of_ble_eq_true hA) ka kr h
/- azalai/azalairef03.can -/
def c70 : SC := (.seq (.reg [
  ⟨some 3, .box (.t 0) 0 86, none, []⟩,
  ⟨some 5, .box (.t 2) 0 29, none, []⟩,
  ⟨some 6, .mv (.c (.int .i64 0)), none, []⟩])
  (.seq (.seq (.reg [
  ⟨some 7, .mv (.c (.int .i64 0)), none, []⟩])
  (.block 0 (.loop (.seq (.seq (.reg [
    ⟨some 9, .mv (.t 7), none, []⟩,
    ⟨some 10, .addo (.t 3) 4, none, []⟩,
    ⟨some 11, .ld (.t 10) 1 false, none, []⟩,
    ⟨some 12, .len (.t 11), none, []⟩,
    ⟨some 13, .bin .lss (.t 9) (.t 12), none, []⟩])
    (.cond (.t 13)
    .skip
    (.exit 0)))
    (.seq (.block 1 (.seq (.reg [
     ⟨some 16, .mv (.t 1), none, []⟩,
     ⟨some 17, .addo (.t 3) 4, none, []⟩,
     ⟨some 18, .ld (.t 17) 1 false, none, []⟩,
     ⟨some 19, .mv (.t 7), none, []⟩,
     ⟨some 20, .ixs (.t 18) (.t 19) 4, none, []⟩,
     ⟨some 21, .addo (.t 20) 0, none, []⟩,
     ⟨some 22, .addo (.t 21) 1, none, []⟩,
     ⟨some 23, .ld (.t 22) 1 false, none, []⟩,
     ⟨some 24, .mm true [.t 16, .t 23], none, []⟩,
     ⟨some 8, .mv (.t 24), none, []⟩])
     (.seq (.regd [0, 1, 2, 3, 4, 5, 6, 7, 8, 9, 10, 11, 12, 13, 14] [
     .op ⟨some 25, .mv (.t 8), none, []⟩,
     .op ⟨some 26, .ld (.t 3) 5 true, none, []⟩,
     .op ⟨some 27, .ld (.t 5) 2 true, none, []⟩,
     .op ⟨some 28, .call 67 [.t 26, .t 27], none, [1, 2]⟩,
     .op ⟨some 29, .fld (.t 28) 1 1 false, none, [3]⟩,
     .op ⟨some 30, .bin .add (.t 25) (.t 29), none, [0, 4]⟩,
     .op ⟨some 31, .bin .sub (.t 30) (.c (.int .i64 1)), none, [5]⟩,
     .op ⟨some 32, .addo (.t 3) 4, none, []⟩,
     .op ⟨some 33, .ld (.t 32) 1 false, none, [7]⟩,
     .op ⟨some 34, .mv (.t 7), none, []⟩,
     .op ⟨some 35, .ixs (.t 33) (.t 34) 4, none, [8, 9]⟩,
     .op ⟨some 36, .addo (.t 35) 2, none, [10]⟩,
     .op ⟨some 37, .addo (.t 36) 0, none, [11]⟩,
     .op ⟨some 38, .ld (.t 37) 1 false, none, [12]⟩,
     .op ⟨some 39, .bin .leq (.t 31) (.t 38), none, [6, 13]⟩] 0 0 [
])
     (.cond (.t 39)
     (.seq (.reg [
      ⟨some 40, .mv (.t 8), none, []⟩,
      ⟨some 6, .mv (.t 40), none, []⟩])
      .ret)
     .skip))))
    (.reg [
    ⟨some 14, .mv (.t 7), none, []⟩,
    ⟨some 15, .bin .add (.t 14) (.c (.int .i64 1)), none, []⟩,
    ⟨some 7, .mv (.t 15), none, []⟩]))))))
  (.seq (.reg [
  ⟨some 6, .mv (.c (.int .i64 100001)), none, []⟩])
  .ret)))
def r70 : List RV := [.tmp 6]
theorem n70 : Try.f70.ntmps = 41 := by kernel_rfl
theorem b70 : bodyB Try.prog 70 = true := by kernel_rfl
theorem c70_ok : cmpC Try.prog c70 ((Try.f70.body).getD .skip) = true := by kernel_rfl
theorem r70_ok : cmpR Try.prog r70 Try.f70.results.toList = true := by kernel_rfl
theorem t70 {args : List SV} {res : SV} (ka : KFL args) (kr : KF res) (h : sx Try.prog c70 (st0 args 41) (retK r70 res)) (hA : Nat.ble args.length 41 = true := by rfl) : Ct Try.prog 70 args res := ct_intro Try.func70 rfl b70 c70_ok r70_ok n70 (Nat.le_of_ble_eq_true hA) ka kr h
/- azalai/azalairef03.Pace -/
def c89 : SC := (.seq (.reg [
  ⟨some 1, .box (.t 0) 0 29, none, []⟩,
  ⟨some 2, .mv (.c (.bool false)), none, []⟩])
  (.seq (.reg [
  ⟨some 3, .ld (.t 1) 2 true, none, []⟩,
  ⟨some 4, .call 92 [.t 3, .c (.int .i64 1), .c (.int .i64 100000)], none, []⟩,
  ⟨some 2, .mv (.t 4), none, []⟩])
  .ret))
def r89 : List RV := [.tmp 2]
theorem n89 : Try.f89.ntmps = 5 := by kernel_rfl
theorem b89 : bodyB Try.prog 89 = true := by kernel_rfl
theorem c89_ok : cmpC Try.prog c89 ((Try.f89.body).getD .skip) = true := by kernel_rfl
theorem r89_ok : cmpR Try.prog r89 Try.f89.results.toList = true := by kernel_rfl
theorem t89 {args : List SV} {res : SV} (ka : KFL args) (kr : KF res) (h : sx Try.prog c89 (st0 args 5) (retK r89 res)) (hA : Nat.ble args.length 5 = true := by rfl) : Ct Try.prog 89 args res := ct_intro Try.func89 rfl b89 c89_ok r89_ok n89 (Nat.le_of_ble_eq_true hA) ka kr h
/- azalai/way.first -/
def c94 : SC := (.seq (.reg [
  ⟨some 2, .mv (.c (.int .i64 0)), none, []⟩])
  (.seq (.reg [
  ⟨some 3, .mv (.t 0), none, []⟩,
  ⟨some 4, .bsl 1 3 [.c (.int .i64 100001)], none, []⟩,
  ⟨some 5, .app 1 8 3 (.t 3) (.t 4), none, []⟩,
  ⟨some 6, .call 104 [.t 5], none, []⟩,
  ⟨some 2, .mv (.t 6), none, []⟩])
  .ret))
def r94 : List RV := [.tmp 2]
theorem n94 : Try.f94.ntmps = 7 := by kernel_rfl
theorem b94 : bodyB Try.prog 94 = true := by kernel_rfl
theorem c94_ok : cmpC Try.prog c94 ((Try.f94.body).getD .skip) = true := by kernel_rfl
theorem r94_ok : cmpR Try.prog r94 Try.f94.results.toList = true := by kernel_rfl
theorem t94 {args : List SV} {res : SV} (ka : KFL args) (kr : KF res) (h : sx Try.prog c94 (st0 args 7) (retK r94 res)) (hA : Nat.ble args.length 7 = true := by rfl) : Ct Try.prog 94 args res := ct_intro Try.func94 rfl b94 c94_ok r94_ok n94 (Nat.le_of_ble_eq_true hA) ka kr h
/- slices.Min[[]int,int] -/
def c104 : SC := (.seq (.reg [
  ⟨some 2, .mv (.c (.int .i64 0)), none, []⟩])
  (.seq (.seq (.reg [
  ⟨some 5, .mv (.t 0), none, []⟩,
  ⟨some 6, .len (.t 5), none, []⟩,
  ⟨some 7, .bin .lss (.t 6) (.c (.int .i64 1)), none, []⟩])
  (.cond (.t 7)
  (.reg [
   ⟨some 8, .raw (Go.Op.makeInterface 9 (Go.Operand.const (Go.Value.string { data := #[115, 108, 105, 99, 101, 115, 46, 77, 105, 110, 58, 32, 101, 109, 112, 116, 121, 32, 108, 105, 115, 116] }))) 20, none, []⟩,
   ⟨none, .raw (Go.Op.panic (Go.Operand.tmp 8)) 0, none, []⟩])
  .skip))
  (.seq (.reg [
  ⟨some 9, .mv (.t 0), none, []⟩,
  ⟨some 10, .ixs (.t 9) (.c (.int .i64 0)) 1, none, []⟩,
  ⟨some 11, .ld (.t 10) 1 false, none, []⟩,
  ⟨some 3, .mv (.t 11), none, []⟩])
  (.seq (.seq (.reg [
  ⟨some 4, .mv (.c (.int .i64 1)), none, []⟩])
  (.block 0 (.loop (.seq (.seq (.reg [
    ⟨some 12, .mv (.t 4), none, []⟩,
    ⟨some 13, .mv (.t 0), none, []⟩,
    ⟨some 14, .len (.t 13), none, []⟩,
    ⟨some 15, .bin .lss (.t 12) (.t 14), none, []⟩])
    (.cond (.t 15)
    .skip
    (.exit 0)))
    (.seq (.block 1 (.reg [
     ⟨some 18, .mv (.t 3), none, []⟩,
     ⟨some 19, .mv (.t 0), none, []⟩,
     ⟨some 20, .mv (.t 4), none, []⟩,
     ⟨some 21, .ixs (.t 19) (.t 20) 1, none, []⟩,
     ⟨some 22, .ld (.t 21) 1 false, none, []⟩,
     ⟨some 23, .mm false [.t 18, .t 22], none, []⟩,
     ⟨some 3, .mv (.t 23), none, []⟩]))
    (.reg [
    ⟨some 16, .mv (.t 4), none, []⟩,
    ⟨some 17, .bin .add (.t 16) (.c (.int .i64 1)), none, []⟩,
    ⟨some 4, .mv (.t 17), none, []⟩]))))))
  (.seq (.reg [
  ⟨some 24, .mv (.t 3), none, []⟩,
  ⟨some 2, .mv (.t 24), none, []⟩])
  .ret)))))
def r104 : List RV := [.tmp 2]
theorem n104 : Try.f104.ntmps = 25 := by kernel_rfl
theorem b104 : bodyB Try.prog 104 = true := by kernel_rfl
theorem c104_ok : cmpC Try.prog c104 ((Try.f104.body).getD .skip) = true := by kernel_rfl
theorem r104_ok : cmpR Try.prog r104 Try.f104.results.toList = true := by kernel_rfl
theorem t104 {args : List SV} {res : SV} (ka : KFL args) (kr : KF res) (h : sx Try.prog c104 (st0 args 25) (retK r104 res)) (hA : Nat.ble args.length 25 = true := by rfl) : Ct Try.prog 104 args res := ct_intro Try.func104 rfl b104 c104_ok r104_ok n104 (Nat.le_of_ble_eq_true hA) ka kr h
end Go.Proofs.Ytkjldleglbbkeaa
