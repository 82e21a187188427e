/- Walks and plain laws that lead to the given statement, part 5 of 8. -/
import Derived.Test.YtkjldleglbbkeaaGD
import Derived.Test.YtkjldleglbbkeaaProg
set_option maxRecDepth 100000
namespace Go.Proofs.Ytkjldleglbbkeaa
open Go Go.Sx
def c3 : SC := (.seq (.reg [
  ⟨some 6, .box (.t 0) 0 25, none, []⟩,
  ⟨some 12, .mv (.c (.bool false)), none, []⟩])
  (.seq (.seq (.reg [
  ⟨some 25, .ld (.t 6) 2 true, none, []⟩,
  ⟨some 26, .call 16 [.t 25], none, []⟩,
  ⟨some 27, .mv (.t 26), none, []⟩,
  ⟨some 28, .mv (.t 2), some (27, false), []⟩,
  ⟨some 29, .len (.t 28), some (27, false), []⟩,
  ⟨some 30, .bin .gtr (.t 29) (.c (.int .i64 250)), some (27, false), []⟩,
  ⟨some 31, .pick (.t 27) (.c (.bool true)) (.t 30), none, []⟩])
  (.cond (.t 31)
  (.seq (.reg [
   ⟨some 12, .mv (.c (.bool true)), none, []⟩])
   .ret)
  .skip))
  (.seq (.reg [
  ⟨some 32, .bsl 3 40 [], none, []⟩,
  ⟨some 33, .mv (.t 2), none, []⟩,
  ⟨some 34, .app 3 24 40 (.t 32) (.t 33), none, []⟩,
  ⟨some 13, .mv (.t 34), none, []⟩])
  (.seq (.reg [
  ⟨some 36, .ld (.t 6) 2 true, none, []⟩,
  ⟨some 37, .mv (.t 1), none, []⟩,
  ⟨some 38, .mv (.t 13), none, []⟩,
  ⟨some 39, .mv (.t 3), none, []⟩,
  ⟨some 40, .call 17 [.t 36, .t 37, .t 38, .t 39], none, []⟩,
  ⟨some 35, .mv (.t 40), none, []⟩,
  ⟨some 41, .ext (.t 35) 0, none, []⟩,
  ⟨some 42, .ext (.t 35) 1, none, []⟩,
  ⟨some 43, .ext (.t 35) 2, none, []⟩,
  ⟨some 14, .alloc [.int .i64 0, .int .i64 0] 29, none, []⟩,
  ⟨none, .st (.t 14) (.t 41) 2, none, []⟩,
  ⟨some 15, .mv (.t 42), none, []⟩,
  ⟨some 16, .mv (.t 43), none, []⟩])
  (.seq (.reg [
  ⟨some 45, .ld (.t 6) 2 true, none, []⟩,
  ⟨some 46, .mv (.t 1), none, []⟩,
  ⟨some 47, .mv (.t 2), none, []⟩,
  ⟨some 48, .mv (.t 3), none, []⟩,
  ⟨some 49, .call 18 [.t 45, .t 46, .t 47, .t 48], none, []⟩,
  ⟨some 44, .mv (.t 49), none, []⟩,
  ⟨some 50, .ext (.t 44) 0, none, []⟩,
  ⟨some 51, .ext (.t 44) 1, none, []⟩,
  ⟨some 52, .ext (.t 44) 2, none, []⟩,
  ⟨some 17, .alloc [.int .i64 0, .int .i64 0] 29, none, []⟩,
  ⟨none, .st (.t 17) (.t 50) 2, none, []⟩,
  ⟨some 18, .mv (.t 51), none, []⟩,
  ⟨some 19, .mv (.t 52), none, []⟩])
  (.seq (.reg [
  ⟨some 54, .ld (.t 6) 2 true, none, []⟩,
  ⟨some 55, .mv (.t 1), none, []⟩,
  ⟨some 56, .mv (.t 4), none, []⟩,
  ⟨some 57, .mv (.t 5), none, []⟩,
  ⟨some 58, .call 19 [.t 54, .t 55, .t 56, .t 57], none, []⟩,
  ⟨some 53, .mv (.t 58), none, []⟩,
  ⟨some 59, .ext (.t 53) 0, none, []⟩,
  ⟨some 60, .ext (.t 53) 1, none, []⟩,
  ⟨some 20, .mv (.t 59), none, []⟩,
  ⟨some 21, .mv (.t 60), none, []⟩])
  (.seq (.reg [
  ⟨some 62, .ld (.t 6) 2 true, none, []⟩,
  ⟨some 63, .mv (.t 1), none, []⟩,
  ⟨some 64, .mv (.t 4), none, []⟩,
  ⟨some 65, .mv (.t 5), none, []⟩,
  ⟨some 66, .call 20 [.t 62, .t 63, .t 64, .t 65], none, []⟩,
  ⟨some 61, .mv (.t 66), none, []⟩,
  ⟨some 67, .ext (.t 61) 0, none, []⟩,
  ⟨some 68, .ext (.t 61) 1, none, []⟩,
  ⟨some 22, .mv (.t 67), none, []⟩,
  ⟨some 23, .mv (.t 68), none, []⟩])
  (.seq (.seq (.reg [
  ⟨some 69, .mv (.t 2), none, []⟩,
  ⟨some 70, .len (.t 69), none, []⟩,
  ⟨some 71, .mv (.c (.int .i64 0)), none, []⟩])
  (.block 0 (.loop (.seq (.reg [
    ⟨some 72, .bin .lss (.t 71) (.t 70), none, []⟩])
    (.seq (.cond (.t 72)
    .skip
    (.exit 0))
    (.seq (.block 1 (.seq (.reg [
     ⟨some 73, .mv (.t 71), none, []⟩,
     ⟨some 24, .mv (.t 73), none, []⟩])
     (.seq (.regd [0, 1, 2, 3, 4, 5, 6, 7, 8] [
     .op ⟨some 74, .mv (.t 13), none, []⟩,
     .op ⟨some 75, .mv (.t 24), none, []⟩,
     .op ⟨some 76, .ixs (.t 74) (.t 75) 3, none, [0, 1]⟩,
     .op ⟨some 77, .ld (.t 76) 3 true, none, [2]⟩,
     .op ⟨some 78, .mv (.t 2), none, []⟩,
     .op ⟨some 79, .mv (.t 24), none, []⟩,
     .op ⟨some 80, .ixs (.t 78) (.t 79) 3, none, [4, 5]⟩,
     .op ⟨some 81, .ld (.t 80) 3 true, none, [6]⟩,
     .op ⟨some 82, .eqs true true [1, 1, 1] (.t 77) (.t 81), none, [3, 7]⟩] 0 0 [
])
     (.cond (.t 82)
     (.seq (.reg [
      ⟨some 12, .mv (.c (.bool false)), none, []⟩])
      .ret)
     .skip))))
    (.reg [
    ⟨some 83, .bin .add (.t 71) (.c (.int .i64 1)), none, []⟩,
    ⟨some 71, .mv (.t 83), none, []⟩])))))))
  (.seq (.reg [
  ⟨some 84, .ld (.t 14) 2 true, none, []⟩,
  ⟨some 85, .ld (.t 17) 2 true, none, []⟩,
  ⟨some 86, .eqs false true [1, 1] (.t 84) (.t 85), none, []⟩,
  ⟨some 87, .mv (.t 86), none, []⟩,
  ⟨some 88, .mv (.t 15), some (87, true), []⟩,
  ⟨some 89, .mv (.t 18), some (87, true), []⟩,
  ⟨some 90, .bin .eql (.t 88) (.t 89), some (87, true), []⟩,
  ⟨some 91, .pick (.t 87) (.t 90) (.c (.bool false)), none, []⟩,
  ⟨some 92, .mv (.t 91), none, []⟩,
  ⟨some 93, .mv (.t 16), some (92, true), []⟩,
  ⟨some 94, .mv (.t 19), some (92, true), []⟩,
  ⟨some 95, .bin .eql (.t 93) (.t 94), some (92, true), []⟩,
  ⟨some 96, .pick (.t 92) (.t 95) (.c (.bool false)), none, []⟩,
  ⟨some 97, .mv (.t 96), none, []⟩,
  ⟨some 98, .mv (.t 20), some (97, true), []⟩,
  ⟨some 99, .mv (.t 22), some (97, true), []⟩,
  ⟨some 100, .bin .eql (.t 98) (.t 99), some (97, true), []⟩,
  ⟨some 101, .pick (.t 97) (.t 100) (.c (.bool false)), none, []⟩,
  ⟨some 102, .mv (.t 101), none, []⟩,
  ⟨some 103, .mv (.t 21), some (102, true), []⟩,
  ⟨some 104, .mv (.t 23), some (102, true), []⟩,
  ⟨some 105, .bin .eql (.t 103) (.t 104), some (102, true), []⟩,
  ⟨some 106, .pick (.t 102) (.t 105) (.c (.bool false)), none, []⟩,
  ⟨some 12, .mv (.t 106), none, []⟩])
  .ret)))))))))
def r3 : List RV := [.tmp 12]
theorem n3 : Try.f3.ntmps = 107 := by kernel_rfl
theorem b3 : bodyB Try.prog 3 = true := by kernel_rfl
theorem c3_ok : cmpC Try.prog c3 ((Try.f3.body).getD .skip) = true := by kernel_rfl
theorem r3_ok : cmpR Try.prog r3 Try.f3.results.toList = true := by kernel_rfl
theorem t3 {args : List SV} {res : SV} (ka : KFL args) (kr : KF res) (h : sx Try.prog Y0 0 c3 (st0 args 107) (retK r3 res)) (hA : Nat.ble args.length 107 = true := by rfl) : Ct Try.prog 3 args res := ct_intro Try.func3 rfl b3 c3_ok r3_ok n3 (Nat.le_of_ble_eq_true hA) ka kr h
def c16 : SC := (.seq (.reg [
  ⟨some 1, .box (.t 0) 0 25, none, []⟩,
  ⟨some 2, .mv (.c (.bool false)), none, []⟩])
  (.seq (.seq (.reg [
  ⟨some 4, .addo (.t 1) 0, none, []⟩,
  ⟨some 5, .ld (.t 4) 1 false, none, []⟩,
  ⟨some 6, .len (.t 5), none, []⟩,
  ⟨some 7, .bin .gtr (.t 6) (.c (.int .i64 20)), none, []⟩,
  ⟨some 8, .mv (.t 7), none, []⟩,
  ⟨some 9, .addo (.t 1) 1, some (8, false), []⟩,
  ⟨some 10, .ld (.t 9) 1 false, some (8, false), []⟩,
  ⟨some 11, .len (.t 10), some (8, false), []⟩,
  ⟨some 12, .bin .gtr (.t 11) (.c (.int .i64 40)), some (8, false), []⟩,
  ⟨some 13, .pick (.t 8) (.c (.bool true)) (.t 12), none, []⟩])
  (.cond (.t 13)
  (.seq (.reg [
   ⟨some 2, .mv (.c (.bool true)), none, []⟩])
   .ret)
  .skip))
  (.seq (.seq (.reg [
  ⟨some 3, .mv (.c (.int .i64 0)), none, []⟩])
  (.block 0 (.loop (.seq (.seq (.reg [
    ⟨some 14, .mv (.t 3), none, []⟩,
    ⟨some 15, .addo (.t 1) 1, none, []⟩,
    ⟨some 16, .ld (.t 15) 1 false, none, []⟩,
    ⟨some 17, .len (.t 16), none, []⟩,
    ⟨some 18, .bin .lss (.t 14) (.t 17), none, []⟩])
    (.cond (.t 18)
    .skip
    (.exit 0)))
    (.seq (.block 1 (.seq (.reg [
     ⟨some 21, .addo (.t 1) 1, none, []⟩,
     ⟨some 22, .ld (.t 21) 1 false, none, []⟩,
     ⟨some 23, .mv (.t 3), none, []⟩,
     ⟨some 24, .ixs (.t 22) (.t 23) 5, none, []⟩,
     ⟨some 25, .addo (.t 24) 4, none, []⟩,
     ⟨some 26, .ld (.t 25) 1 false, none, []⟩,
     ⟨some 27, .len (.t 26), none, []⟩,
     ⟨some 28, .bin .gtr (.t 27) (.c (.int .i64 20)), none, []⟩])
     (.cond (.t 28)
     (.seq (.reg [
      ⟨some 2, .mv (.c (.bool true)), none, []⟩])
      .ret)
     .skip)))
    (.reg [
    ⟨some 19, .mv (.t 3), none, []⟩,
    ⟨some 20, .bin .add (.t 19) (.c (.int .i64 1)), none, []⟩,
    ⟨some 3, .mv (.t 20), none, []⟩]))))))
  (.seq (.reg [
  ⟨some 2, .mv (.c (.bool false)), none, []⟩])
  .ret))))
def r16 : List RV := [.tmp 2]
theorem n16 : Try.f16.ntmps = 29 := by kernel_rfl
theorem b16 : bodyB Try.prog 16 = true := by kernel_rfl
theorem c16_ok : cmpC Try.prog c16 ((Try.f16.body).getD .skip) = true := by kernel_rfl
theorem r16_ok : cmpR Try.prog r16 Try.f16.results.toList = true := by kernel_rfl
theorem t16 {args : List SV} {res : SV} (ka : KFL args) (kr : KF res) (h : sx Try.prog Y0 0 c16 (st0 args 29) (retK r16 res)) (hA : Nat.ble args.length 29 = true := by rfl) : Ct Try.prog 16 args res := ct_intro Try.func16 rfl b16 c16_ok r16_ok n16 (Nat.le_of_ble_eq_true hA) ka kr h
def c26 : SC := (.seq (.reg [
  ⟨some 1, .box (.t 0) 0 25, none, []⟩,
  ⟨some 2, .mv (.c (.int .i64 0)), none, []⟩])
  (.seq (.reg [
  ⟨some 5, .addo (.t 1) 0, none, []⟩,
  ⟨some 6, .ld (.t 5) 1 false, none, []⟩,
  ⟨some 7, .call 71 [.t 6, .f 72], none, []⟩,
  ⟨some 8, .un .not (.t 7), none, []⟩,
  ⟨some 3, .mv (.t 8), none, []⟩])
  (.seq (.reg [
  ⟨some 9, .addo (.t 1) 1, none, []⟩,
  ⟨some 10, .ld (.t 9) 1 false, none, []⟩,
  ⟨some 11, .mkf 75 [.t 1], none, []⟩,
  ⟨some 12, .call 74 [.t 10, .t 11], none, []⟩,
  ⟨some 13, .un .not (.t 12), none, []⟩,
  ⟨some 4, .mv (.t 13), none, []⟩])
  (.seq (.seq (.reg [
  ⟨some 14, .addo (.t 1) 0, none, []⟩,
  ⟨some 15, .ld (.t 14) 1 false, none, []⟩,
  ⟨some 16, .len (.t 15), none, []⟩,
  ⟨some 17, .bsl 1 3 [.t 16], none, []⟩,
  ⟨some 18, .call 58 [.c (.int .i64 1), .c (.int .i64 12), .t 17], none, []⟩,
  ⟨some 19, .un .not (.t 18), none, []⟩,
  ⟨some 20, .mv (.t 19), none, []⟩,
  ⟨some 21, .addo (.t 1) 1, some (20, false), []⟩,
  ⟨some 22, .ld (.t 21) 1 false, some (20, false), []⟩,
  ⟨some 23, .len (.t 22), some (20, false), []⟩,
  ⟨some 24, .bin .gtr (.t 23) (.c (.int .i64 24)), some (20, false), []⟩,
  ⟨some 25, .pick (.t 20) (.c (.bool true)) (.t 24), none, []⟩,
  ⟨some 26, .mv (.t 25), none, []⟩,
  ⟨some 27, .mv (.t 3), some (26, false), []⟩,
  ⟨some 28, .un .not (.t 27), some (26, false), []⟩,
  ⟨some 29, .pick (.t 26) (.c (.bool true)) (.t 28), none, []⟩,
  ⟨some 30, .mv (.t 29), none, []⟩,
  ⟨some 31, .mv (.t 4), some (30, false), []⟩,
  ⟨some 32, .un .not (.t 31), some (30, false), []⟩,
  ⟨some 33, .pick (.t 30) (.c (.bool true)) (.t 32), none, []⟩])
  (.cond (.t 33)
  (.seq (.reg [
   ⟨some 2, .mv (.c (.int .i64 30)), none, []⟩])
   .ret)
  .skip))
  (.seq (.reg [
  ⟨some 2, .mv (.c (.int .i64 0)), none, []⟩])
  .ret)))))
def r26 : List RV := [.tmp 2]
theorem n26 : Try.f26.ntmps = 34 := by kernel_rfl
theorem b26 : bodyB Try.prog 26 = true := by kernel_rfl
theorem c26_ok : cmpC Try.prog c26 ((Try.f26.body).getD .skip) = true := by kernel_rfl
theorem r26_ok : cmpR Try.prog r26 Try.f26.results.toList = true := by kernel_rfl
theorem t26 {args : List SV} {res : SV} (ka : KFL args) (kr : KF res) (h : sx Try.prog Y0 0 c26 (st0 args 34) (retK r26 res)) (hA : Nat.ble args.length 34 = true := by rfl) : Ct Try.prog 26 args res := ct_intro Try.func26 rfl b26 c26_ok r26_ok n26 (Nat.le_of_ble_eq_true hA) ka kr h
def c58 : SC := (.seq (.reg [
  ⟨some 3, .box (.t 0) 0 3, none, []⟩,
  ⟨some 4, .box (.t 1) 0 3, none, []⟩,
  ⟨some 6, .mv (.c (.bool false)), none, []⟩])
  (.seq (.reg [
  ⟨some 7, .mv (.t 2), none, []⟩,
  ⟨some 8, .mkf 91 [.t 3, .t 4], none, []⟩,
  ⟨some 9, .call 90 [.t 7, .t 8], none, []⟩,
  ⟨some 10, .un .not (.t 9), none, []⟩,
  ⟨some 6, .mv (.t 10), none, []⟩])
  .ret))
def r58 : List RV := [.tmp 6]
theorem n58 : Try.f58.ntmps = 11 := by kernel_rfl
theorem b58 : bodyB Try.prog 58 = true := by kernel_rfl
theorem c58_ok : cmpC Try.prog c58 ((Try.f58.body).getD .skip) = true := by kernel_rfl
theorem r58_ok : cmpR Try.prog r58 Try.f58.results.toList = true := by kernel_rfl
theorem t58 {args : List SV} {res : SV} (ka : KFL args) (kr : KF res) (h : sx Try.prog Y0 0 c58 (st0 args 11) (retK r58 res)) (hA : Nat.ble args.length 11 = true := by rfl) : Ct Try.prog 58 args res := ct_intro Try.func58 rfl b58 c58_ok r58_ok n58 (Nat.le_of_ble_eq_true hA) ka kr h
def c60 : SC := (.seq (.reg [
  ⟨some 1, .box (.t 0) 0 25, none, []⟩,
  ⟨some 2, .mv (.c (.bool false)), none, []⟩])
  (.seq (.seq (.reg [
  ⟨some 10, .addo (.t 1) 0, none, []⟩,
  ⟨some 11, .ld (.t 10) 1 false, none, []⟩,
  ⟨some 12, .len (.t 11), none, []⟩,
  ⟨some 13, .call 61 [.t 12, .c (.int .i64 1), .c (.int .i64 12)], none, []⟩,
  ⟨some 14, .un .not (.t 13), none, []⟩,
  ⟨some 15, .mv (.t 14), none, []⟩,
  ⟨some 16, .addo (.t 1) 1, some (15, false), []⟩,
  ⟨some 17, .ld (.t 16) 1 false, some (15, false), []⟩,
  ⟨some 18, .len (.t 17), some (15, false), []⟩,
  ⟨some 19, .bin .gtr (.t 18) (.c (.int .i64 24)), some (15, false), []⟩,
  ⟨some 20, .pick (.t 15) (.c (.bool true)) (.t 19), none, []⟩])
  (.cond (.t 20)
  (.seq (.reg [
   ⟨some 2, .mv (.c (.bool false)), none, []⟩])
   .ret)
  .skip))
  (.seq (.seq (.reg [
  ⟨some 3, .mv (.c (.int .i64 0)), none, []⟩])
  (.block 0 (.loop (.seq (.seq (.reg [
    ⟨some 21, .mv (.t 3), none, []⟩,
    ⟨some 22, .addo (.t 1) 0, none, []⟩,
    ⟨some 23, .ld (.t 22) 1 false, none, []⟩,
    ⟨some 24, .len (.t 23), none, []⟩,
    ⟨some 25, .bin .lss (.t 21) (.t 24), none, []⟩])
    (.cond (.t 25)
    .skip
    (.exit 0)))
    (.seq (.block 1 (.seq (.reg [
     ⟨some 28, .addo (.t 1) 0, none, []⟩,
     ⟨some 29, .ld (.t 28) 1 false, none, []⟩,
     ⟨some 30, .mv (.t 3), none, []⟩,
     ⟨some 31, .ixs (.t 29) (.t 30) 9, none, []⟩,
     ⟨some 32, .ld (.t 31) 9 true, none, []⟩,
     ⟨some 4, .alloc [.int .i64 0, .int .i64 0, .int .i64 0, .int .i64 0, .int .i64 0, .int .i64 0, .int .i64 0, .int .i64 0, .int .i64 0] 109, none, []⟩,
     ⟨none, .st (.t 4) (.t 32) 9, none, []⟩])
     (.seq (.reg [
     ⟨some 33, .addo (.t 4) 0, none, []⟩,
     ⟨some 34, .ld (.t 33) 1 false, none, []⟩,
     ⟨some 35, .call 61 [.t 34, .c (.int .i64 (-10000000)), .c (.int .i64 10000000)], none, []⟩,
     ⟨some 36, .un .not (.t 35), none, []⟩,
     ⟨some 37, .mv (.t 36), none, []⟩,
     ⟨some 38, .addo (.t 4) 1, some (37, false), []⟩,
     ⟨some 39, .ld (.t 38) 1 false, some (37, false), []⟩,
     ⟨some 40, .call 61 [.t 39, .c (.int .i64 (-10000000)), .c (.int .i64 10000000)], some (37, false), []⟩,
     ⟨some 41, .un .not (.t 40), some (37, false), []⟩,
     ⟨some 42, .pick (.t 37) (.c (.bool true)) (.t 41), none, []⟩,
     ⟨some 43, .mv (.t 42), none, []⟩,
     ⟨some 44, .addo (.t 4) 2, some (43, false), []⟩,
     ⟨some 45, .ld (.t 44) 1 false, some (43, false), []⟩,
     ⟨some 46, .call 61 [.t 45, .c (.int .i64 0), .c (.int .i64 200)], some (43, false), []⟩,
     ⟨some 47, .un .not (.t 46), some (43, false), []⟩,
     ⟨some 48, .pick (.t 43) (.c (.bool true)) (.t 47), none, []⟩,
     ⟨some 49, .mv (.t 48), none, []⟩,
     ⟨some 50, .addo (.t 4) 3, some (49, false), []⟩,
     ⟨some 51, .ld (.t 50) 2 true, some (49, false), []⟩,
     ⟨some 52, .call 92 [.t 51, .c (.int .i64 0), .c (.int .i64 10000000)], some (49, false), []⟩,
     ⟨some 53, .un .not (.t 52), some (49, false), []⟩,
     ⟨some 54, .pick (.t 49) (.c (.bool true)) (.t 53), none, []⟩,
     ⟨some 55, .mv (.t 54), none, []⟩,
     ⟨some 56, .addo (.t 4) 5, some (55, false), []⟩,
     ⟨some 57, .ld (.t 56) 1 false, some (55, false), []⟩,
     ⟨some 58, .call 61 [.t 57, .c (.int .i64 0), .c (.int .i64 1000000000)], some (55, false), []⟩,
     ⟨some 59, .un .not (.t 58), some (55, false), []⟩,
     ⟨some 60, .pick (.t 55) (.c (.bool true)) (.t 59), none, []⟩,
     ⟨some 61, .mv (.t 60), none, []⟩,
     ⟨some 62, .addo (.t 4) 6, some (61, false), []⟩,
     ⟨some 63, .ld (.t 62) 2 true, some (61, false), []⟩,
     ⟨some 64, .addo (.t 4) 5, some (61, false), []⟩,
     ⟨some 65, .ld (.t 64) 1 false, some (61, false), []⟩,
     ⟨some 66, .call 92 [.t 63, .c (.int .i64 0), .t 65], some (61, false), []⟩,
     ⟨some 67, .un .not (.t 66), some (61, false), []⟩,
     ⟨some 68, .pick (.t 61) (.c (.bool true)) (.t 67), none, []⟩,
     ⟨some 69, .mv (.t 68), none, []⟩,
     ⟨some 70, .addo (.t 4) 8, some (69, false), []⟩,
     ⟨some 71, .ld (.t 70) 1 false, some (69, false), []⟩,
     ⟨some 72, .call 61 [.t 71, .c (.int .i64 0), .c (.int .i64 9999)], some (69, false), []⟩,
     ⟨some 73, .un .not (.t 72), some (69, false), []⟩,
     ⟨some 74, .pick (.t 69) (.c (.bool true)) (.t 73), none, []⟩])
     (.cond (.t 74)
     (.seq (.reg [
      ⟨some 2, .mv (.c (.bool false)), none, []⟩])
      .ret)
     .skip))))
    (.reg [
    ⟨some 26, .mv (.t 3), none, []⟩,
    ⟨some 27, .bin .add (.t 26) (.c (.int .i64 1)), none, []⟩,
    ⟨some 3, .mv (.t 27), none, []⟩]))))))
  (.seq (.seq (.reg [
  ⟨some 5, .mv (.c (.int .i64 0)), none, []⟩])
  (.block 2 (.loop (.seq (.seq (.reg [
    ⟨some 75, .mv (.t 5), none, []⟩,
    ⟨some 76, .addo (.t 1) 1, none, []⟩,
    ⟨some 77, .ld (.t 76) 1 false, none, []⟩,
    ⟨some 78, .len (.t 77), none, []⟩,
    ⟨some 79, .bin .lss (.t 75) (.t 78), none, []⟩])
    (.cond (.t 79)
    .skip
    (.exit 2)))
    (.seq (.block 3 (.seq (.reg [
     ⟨some 82, .addo (.t 1) 1, none, []⟩,
     ⟨some 83, .ld (.t 82) 1 false, none, []⟩,
     ⟨some 84, .mv (.t 5), none, []⟩,
     ⟨some 85, .ixs (.t 83) (.t 84) 5, none, []⟩,
     ⟨some 86, .ld (.t 85) 5 true, none, []⟩,
     ⟨some 6, .alloc [.int .i64 0, .int .i64 0, .int .i64 0, .int .i64 0, .slice none 0 0] 86, none, []⟩,
     ⟨none, .st (.t 6) (.t 86) 5, none, []⟩])
     (.seq (.seq (.reg [
     ⟨some 87, .addo (.t 6) 0, none, []⟩,
     ⟨some 88, .ld (.t 87) 1 false, none, []⟩,
     ⟨some 89, .addo (.t 1) 0, none, []⟩,
     ⟨some 90, .ld (.t 89) 1 false, none, []⟩,
     ⟨some 91, .len (.t 90), none, []⟩,
     ⟨some 92, .bin .sub (.t 91) (.c (.int .i64 1)), none, []⟩,
     ⟨some 93, .call 61 [.t 88, .c (.int .i64 0), .t 92], none, []⟩,
     ⟨some 94, .un .not (.t 93), none, []⟩,
     ⟨some 95, .mv (.t 94), none, []⟩,
     ⟨some 96, .addo (.t 6) 1, some (95, false), []⟩,
     ⟨some 97, .ld (.t 96) 1 false, some (95, false), []⟩,
     ⟨some 98, .addo (.t 1) 0, some (95, false), []⟩,
     ⟨some 99, .ld (.t 98) 1 false, some (95, false), []⟩,
     ⟨some 100, .len (.t 99), some (95, false), []⟩,
     ⟨some 101, .bin .sub (.t 100) (.c (.int .i64 1)), some (95, false), []⟩,
     ⟨some 102, .call 61 [.t 97, .c (.int .i64 0), .t 101], some (95, false), []⟩,
     ⟨some 103, .un .not (.t 102), some (95, false), []⟩,
     ⟨some 104, .pick (.t 95) (.c (.bool true)) (.t 103), none, []⟩,
     ⟨some 105, .mv (.t 104), none, []⟩,
     ⟨some 106, .addo (.t 6) 0, some (105, false), []⟩,
     ⟨some 107, .ld (.t 106) 1 false, some (105, false), []⟩,
     ⟨some 108, .addo (.t 6) 1, some (105, false), []⟩,
     ⟨some 109, .ld (.t 108) 1 false, some (105, false), []⟩,
     ⟨some 110, .bin .eql (.t 107) (.t 109), some (105, false), []⟩,
     ⟨some 111, .pick (.t 105) (.c (.bool true)) (.t 110), none, []⟩,
     ⟨some 112, .mv (.t 111), none, []⟩,
     ⟨some 113, .addo (.t 6) 2, some (112, false), []⟩,
     ⟨some 114, .ld (.t 113) 2 true, some (112, false), []⟩,
     ⟨some 115, .call 92 [.t 114, .c (.int .i64 1), .c (.int .i64 1000000)], some (112, false), []⟩,
     ⟨some 116, .un .not (.t 115), some (112, false), []⟩,
     ⟨some 117, .pick (.t 112) (.c (.bool true)) (.t 116), none, []⟩,
     ⟨some 118, .mv (.t 117), none, []⟩,
     ⟨some 119, .addo (.t 6) 4, some (118, false), []⟩,
     ⟨some 120, .ld (.t 119) 1 false, some (118, false), []⟩,
     ⟨some 121, .len (.t 120), some (118, false), []⟩,
     ⟨some 122, .bin .gtr (.t 121) (.c (.int .i64 6)), some (118, false), []⟩,
     ⟨some 123, .pick (.t 118) (.c (.bool true)) (.t 122), none, []⟩])
     (.cond (.t 123)
     (.seq (.reg [
      ⟨some 2, .mv (.c (.bool false)), none, []⟩])
      .ret)
     .skip))
     (.seq (.reg [
     ⟨some 7, .mv (.c (.int .i64 (-1))), none, []⟩])
     (.seq (.reg [
     ⟨some 8, .mv (.c (.int .i64 0)), none, []⟩])
     (.block 4 (.loop (.seq (.seq (.reg [
       ⟨some 124, .mv (.t 8), none, []⟩,
       ⟨some 125, .addo (.t 6) 4, none, []⟩,
       ⟨some 126, .ld (.t 125) 1 false, none, []⟩,
       ⟨some 127, .len (.t 126), none, []⟩,
       ⟨some 128, .bin .lss (.t 124) (.t 127), none, []⟩])
       (.cond (.t 128)
       .skip
       (.exit 4)))
       (.seq (.block 5 (.seq (.reg [
        ⟨some 131, .addo (.t 6) 4, none, []⟩,
        ⟨some 132, .ld (.t 131) 1 false, none, []⟩,
        ⟨some 133, .mv (.t 8), none, []⟩,
        ⟨some 134, .ixs (.t 132) (.t 133) 4, none, []⟩,
        ⟨some 135, .ld (.t 134) 4 true, none, []⟩,
        ⟨some 9, .alloc [.int .i64 0, .int .i64 0, .int .i64 0, .int .i64 0] 95, none, []⟩,
        ⟨none, .st (.t 9) (.t 135) 4, none, []⟩])
        (.seq (.seq (.reg [
        ⟨some 136, .addo (.t 9) 0, none, []⟩,
        ⟨some 137, .ld (.t 136) 2 true, none, []⟩,
        ⟨some 138, .call 92 [.t 137, .c (.int .i64 0), .c (.int .i64 100000)], none, []⟩,
        ⟨some 139, .un .not (.t 138), none, []⟩,
        ⟨some 140, .mv (.t 139), none, []⟩,
        ⟨some 141, .addo (.t 9) 2, some (140, false), []⟩,
        ⟨some 142, .ld (.t 141) 2 true, some (140, false), []⟩,
        ⟨some 143, .call 92 [.t 142, .c (.int .i64 0), .c (.int .i64 100000)], some (140, false), []⟩,
        ⟨some 144, .un .not (.t 143), some (140, false), []⟩,
        ⟨some 145, .pick (.t 140) (.c (.bool true)) (.t 144), none, []⟩,
        ⟨some 146, .mv (.t 145), none, []⟩,
        ⟨some 147, .addo (.t 9) 0, some (146, false), []⟩,
        ⟨some 148, .addo (.t 147) 0, some (146, false), []⟩,
        ⟨some 149, .ld (.t 148) 1 false, some (146, false), []⟩,
        ⟨some 150, .addo (.t 9) 2, some (146, false), []⟩,
        ⟨some 151, .addo (.t 150) 1, some (146, false), []⟩,
        ⟨some 152, .ld (.t 151) 1 false, some (146, false), []⟩,
        ⟨some 153, .bin .gtr (.t 149) (.t 152), some (146, false), []⟩,
        ⟨some 154, .pick (.t 146) (.c (.bool true)) (.t 153), none, []⟩,
        ⟨some 155, .mv (.t 154), none, []⟩,
        ⟨some 156, .addo (.t 9) 0, some (155, false), []⟩,
        ⟨some 157, .addo (.t 156) 0, some (155, false), []⟩,
        ⟨some 158, .ld (.t 157) 1 false, some (155, false), []⟩,
        ⟨some 159, .mv (.t 7), some (155, false), []⟩,
        ⟨some 160, .bin .leq (.t 158) (.t 159), some (155, false), []⟩,
        ⟨some 161, .pick (.t 155) (.c (.bool true)) (.t 160), none, []⟩])
        (.cond (.t 161)
        (.seq (.reg [
         ⟨some 2, .mv (.c (.bool false)), none, []⟩])
         .ret)
        .skip))
        (.reg [
        ⟨some 162, .addo (.t 9) 2, none, []⟩,
        ⟨some 163, .addo (.t 162) 1, none, []⟩,
        ⟨some 164, .ld (.t 163) 1 false, none, []⟩,
        ⟨some 7, .mv (.t 164), none, []⟩]))))
       (.reg [
       ⟨some 129, .mv (.t 8), none, []⟩,
       ⟨some 130, .bin .add (.t 129) (.c (.int .i64 1)), none, []⟩,
       ⟨some 8, .mv (.t 130), none, []⟩]))))))))))
    (.reg [
    ⟨some 80, .mv (.t 5), none, []⟩,
    ⟨some 81, .bin .add (.t 80) (.c (.int .i64 1)), none, []⟩,
    ⟨some 5, .mv (.t 81), none, []⟩]))))))
  (.seq (.reg [
  ⟨some 2, .mv (.c (.bool true)), none, []⟩])
  .ret)))))
def r60 : List RV := [.tmp 2]
theorem n60 : Try.f60.ntmps = 165 := by kernel_rfl
theorem b60 : bodyB Try.prog 60 = true := by kernel_rfl
theorem c60_ok : cmpC Try.prog c60 ((Try.f60.body).getD .skip) = true := by kernel_rfl
theorem r60_ok : cmpR Try.prog r60 Try.f60.results.toList = true := by kernel_rfl
theorem t60 {args : List SV} {res : SV} (ka : KFL args) (kr : KF res) (h : sx Try.prog Y0 0 c60 (st0 args 165) (retK r60 res)) (hA : Nat.ble args.length 165 = true := by rfl) : Ct Try.prog 60 args res := ct_intro Try.func60 rfl b60 c60_ok r60_ok n60 (Nat.le_of_ble_eq_true hA) ka kr h
def c61 : SC := (.seq (.reg [
  ⟨some 6, .mv (.c (.bool false)), none, []⟩])
  (.seq (.reg [
  ⟨some 7, .mv (.t 0), none, []⟩,
  ⟨some 8, .mv (.t 1), none, []⟩,
  ⟨some 9, .bin .geq (.t 7) (.t 8), none, []⟩,
  ⟨some 10, .mv (.t 9), none, []⟩,
  ⟨some 11, .mv (.t 0), some (10, true), []⟩,
  ⟨some 12, .mv (.t 2), some (10, true), []⟩,
  ⟨some 13, .bin .leq (.t 11) (.t 12), some (10, true), []⟩,
  ⟨some 14, .pick (.t 10) (.t 13) (.c (.bool false)), none, []⟩,
  ⟨some 6, .mv (.t 14), none, []⟩])
  .ret))
def r61 : List RV := [.tmp 6]
theorem n61 : Try.f61.ntmps = 15 := by kernel_rfl
theorem b61 : bodyB Try.prog 61 = true := by kernel_rfl
theorem c61_ok : cmpC Try.prog c61 ((Try.f61.body).getD .skip) = true := by kernel_rfl
theorem r61_ok : cmpR Try.prog r61 Try.f61.results.toList = true := by kernel_rfl
theorem t61 {args : List SV} {res : SV} (ka : KFL args) (kr : KF res) (h : sx Try.prog Y0 0 c61 (st0 args 15) (retK r61 res)) (hA : Nat.ble args.length 15 = true := by rfl) : Ct Try.prog 61 args res := ct_intro Try.func61 rfl b61 c61_ok r61_ok n61 (Nat.le_of_ble_eq_true hA) ka kr h
def c71 : SC := (.seq (.reg [
  ⟨some 4, .mv (.c (.bool false)), none, []⟩])
  (.seq (.reg [
  ⟨some 5, .mv (.t 0), none, []⟩,
  ⟨some 6, .mv (.t 1), none, []⟩,
  ⟨some 7, .call 95 [.t 5, .t 6], none, []⟩,
  ⟨some 8, .bin .geq (.t 7) (.c (.int .i64 0)), none, []⟩,
  ⟨some 4, .mv (.t 8), none, []⟩])
  .ret))
def r71 : List RV := [.tmp 4]
theorem n71 : Try.f71.ntmps = 9 := by kernel_rfl
theorem b71 : bodyB Try.prog 71 = true := by kernel_rfl
theorem c71_ok : cmpC Try.prog c71 ((Try.f71.body).getD .skip) = true := by kernel_rfl
theorem r71_ok : cmpR Try.prog r71 Try.f71.results.toList = true := by kernel_rfl
theorem t71 {args : List SV} {res : SV} (ka : KFL args) (kr : KF res) (h : sx Try.prog Y0 0 c71 (st0 args 9) (retK r71 res)) (hA : Nat.ble args.length 9 = true := by rfl) : Ct Try.prog 71 args res := ct_intro Try.func71 rfl b71 c71_ok r71_ok n71 (Nat.le_of_ble_eq_true hA) ka kr h
def c72 : SC := (.seq (.reg [
  ⟨some 1, .box (.t 0) 0 109, none, []⟩,
  ⟨some 2, .mv (.c (.bool false)), none, []⟩])
  (.seq (.reg [
  ⟨some 3, .ld (.t 1) 9 true, none, []⟩,
  ⟨some 4, .call 73 [.t 3], none, []⟩,
  ⟨some 5, .un .not (.t 4), none, []⟩,
  ⟨some 2, .mv (.t 5), none, []⟩])
  .ret))
def r72 : List RV := [.tmp 2]
theorem n72 : Try.f72.ntmps = 6 := by kernel_rfl
theorem b72 : bodyB Try.prog 72 = true := by kernel_rfl
theorem c72_ok : cmpC Try.prog c72 ((Try.f72.body).getD .skip) = true := by kernel_rfl
theorem r72_ok : cmpR Try.prog r72 Try.f72.results.toList = true := by kernel_rfl
theorem t72 {args : List SV} {res : SV} (ka : KFL args) (kr : KF res) (h : sx Try.prog Y0 0 c72 (st0 args 6) (retK r72 res)) (hA : Nat.ble args.length 6 = true := by rfl) : Ct Try.prog 72 args res := ct_intro Try.func72 rfl b72 c72_ok r72_ok n72 (Nat.le_of_ble_eq_true hA) ka kr h
def c73 : SC := (.seq (.reg [
  ⟨some 1, .box (.t 0) 0 109, none, []⟩,
  ⟨some 2, .mv (.c (.bool false)), none, []⟩])
  (.seq (.reg [
  ⟨some 3, .addo (.t 1) 0, none, []⟩,
  ⟨some 4, .ld (.t 3) 1 false, none, []⟩,
  ⟨some 5, .addo (.t 1) 1, none, []⟩,
  ⟨some 6, .ld (.t 5) 1 false, none, []⟩,
  ⟨some 7, .bsl 1 3 [.t 4, .t 6], none, []⟩,
  ⟨some 8, .call 58 [.c (.int .i64 (-10000000)), .c (.int .i64 10000000), .t 7], none, []⟩,
  ⟨some 9, .mv (.t 8), none, []⟩,
  ⟨some 10, .addo (.t 1) 2, some (9, true), []⟩,
  ⟨some 11, .ld (.t 10) 1 false, some (9, true), []⟩,
  ⟨some 12, .bsl 1 3 [.t 11], some (9, true), []⟩,
  ⟨some 13, .call 58 [.c (.int .i64 0), .c (.int .i64 200), .t 12], some (9, true), []⟩,
  ⟨some 14, .pick (.t 9) (.t 13) (.c (.bool false)), none, []⟩,
  ⟨some 15, .mv (.t 14), none, []⟩,
  ⟨some 16, .addo (.t 1) 3, some (15, true), []⟩,
  ⟨some 17, .ld (.t 16) 2 true, some (15, true), []⟩,
  ⟨some 18, .bsl 2 29 [.t 17], some (15, true), []⟩,
  ⟨some 19, .call 93 [.c (.int .i64 0), .c (.int .i64 10000000), .t 18], some (15, true), []⟩,
  ⟨some 20, .pick (.t 15) (.t 19) (.c (.bool false)), none, []⟩,
  ⟨some 21, .mv (.t 20), none, []⟩,
  ⟨some 22, .addo (.t 1) 5, some (21, true), []⟩,
  ⟨some 23, .ld (.t 22) 1 false, some (21, true), []⟩,
  ⟨some 24, .bsl 1 3 [.t 23], some (21, true), []⟩,
  ⟨some 25, .call 58 [.c (.int .i64 0), .c (.int .i64 1000000000), .t 24], some (21, true), []⟩,
  ⟨some 26, .pick (.t 21) (.t 25) (.c (.bool false)), none, []⟩,
  ⟨some 27, .mv (.t 26), none, []⟩,
  ⟨some 28, .addo (.t 1) 5, some (27, true), []⟩,
  ⟨some 29, .ld (.t 28) 1 false, some (27, true), []⟩,
  ⟨some 30, .addo (.t 1) 6, some (27, true), []⟩,
  ⟨some 31, .ld (.t 30) 2 true, some (27, true), []⟩,
  ⟨some 32, .bsl 2 29 [.t 31], some (27, true), []⟩,
  ⟨some 33, .call 93 [.c (.int .i64 0), .t 29, .t 32], some (27, true), []⟩,
  ⟨some 34, .pick (.t 27) (.t 33) (.c (.bool false)), none, []⟩,
  ⟨some 35, .mv (.t 34), none, []⟩,
  ⟨some 36, .addo (.t 1) 8, some (35, true), []⟩,
  ⟨some 37, .ld (.t 36) 1 false, some (35, true), []⟩,
  ⟨some 38, .bsl 1 3 [.t 37], some (35, true), []⟩,
  ⟨some 39, .call 58 [.c (.int .i64 0), .c (.int .i64 9999), .t 38], some (35, true), []⟩,
  ⟨some 40, .pick (.t 35) (.t 39) (.c (.bool false)), none, []⟩,
  ⟨some 2, .mv (.t 40), none, []⟩])
  .ret))
def r73 : List RV := [.tmp 2]
theorem n73 : Try.f73.ntmps = 41 := by kernel_rfl
theorem b73 : bodyB Try.prog 73 = true := by kernel_rfl
theorem c73_ok : cmpC Try.prog c73 ((Try.f73.body).getD .skip) = true := by kernel_rfl
theorem r73_ok : cmpR Try.prog r73 Try.f73.results.toList = true := by kernel_rfl
theorem t73 {args : List SV} {res : SV} (ka : KFL args) (kr : KF res) (h : sx Try.prog Y0 0 c73 (st0 args 41) (retK r73 res)) (hA : Nat.ble args.length 41 = true := by rfl) : Ct Try.prog 73 args res := ct_intro Try.func73 rfl b73 c73_ok r73_ok n73 (Nat.le_of_ble_eq_true hA) ka kr h
def c74 : SC := (.seq (.reg [
  ⟨some 4, .mv (.c (.bool false)), none, []⟩])
  (.seq (.reg [
  ⟨some 5, .mv (.t 0), none, []⟩,
  ⟨some 6, .mv (.t 1), none, []⟩,
  ⟨some 7, .call 96 [.t 5, .t 6], none, []⟩,
  ⟨some 8, .bin .geq (.t 7) (.c (.int .i64 0)), none, []⟩,
  ⟨some 4, .mv (.t 8), none, []⟩])
  .ret))
def r74 : List RV := [.tmp 4]
theorem n74 : Try.f74.ntmps = 9 := by kernel_rfl
theorem b74 : bodyB Try.prog 74 = true := by kernel_rfl
theorem c74_ok : cmpC Try.prog c74 ((Try.f74.body).getD .skip) = true := by kernel_rfl
theorem r74_ok : cmpR Try.prog r74 Try.f74.results.toList = true := by kernel_rfl
theorem t74 {args : List SV} {res : SV} (ka : KFL args) (kr : KF res) (h : sx Try.prog Y0 0 c74 (st0 args 9) (retK r74 res)) (hA : Nat.ble args.length 9 = true := by rfl) : Ct Try.prog 74 args res := ct_intro Try.func74 rfl b74 c74_ok r74_ok n74 (Nat.le_of_ble_eq_true hA) ka kr h
def c75 : SC := (.seq (.reg [
  ⟨some 2, .box (.t 0) 0 86, none, []⟩,
  ⟨some 3, .mv (.c (.bool false)), none, []⟩])
  (.seq (.reg [
  ⟨some 4, .ld (.t 2) 5 true, none, []⟩,
  ⟨some 5, .addo (.t 1) 0, none, []⟩,
  ⟨some 6, .ld (.t 5) 1 false, none, []⟩,
  ⟨some 7, .len (.t 6), none, []⟩,
  ⟨some 8, .call 76 [.t 4, .t 7], none, []⟩,
  ⟨some 9, .un .not (.t 8), none, []⟩,
  ⟨some 3, .mv (.t 9), none, []⟩])
  .ret))
def r75 : List RV := [.tmp 3]
theorem n75 : Try.f75.ntmps = 10 := by kernel_rfl
theorem b75 : bodyB Try.prog 75 = true := by kernel_rfl
theorem c75_ok : cmpC Try.prog c75 ((Try.f75.body).getD .skip) = true := by kernel_rfl
theorem r75_ok : cmpR Try.prog r75 Try.f75.results.toList = true := by kernel_rfl
theorem t75 {args : List SV} {res : SV} (ka : KFL args) (kr : KF res) (h : sx Try.prog Y0 0 c75 (st0 args 10) (retK r75 res)) (hA : Nat.ble args.length 10 = true := by rfl) : Ct Try.prog 75 args res := ct_intro Try.func75 rfl b75 c75_ok r75_ok n75 (Nat.le_of_ble_eq_true hA) ka kr h
def c76 : SC := (.seq (.reg [
  ⟨some 2, .box (.t 0) 0 86, none, []⟩,
  ⟨some 4, .mv (.c (.bool false)), none, []⟩])
  (.seq (.seq (.reg [
  ⟨some 8, .mv (.t 1), none, []⟩,
  ⟨some 9, .bin .sub (.t 8) (.c (.int .i64 1)), none, []⟩,
  ⟨some 10, .addo (.t 2) 0, none, []⟩,
  ⟨some 11, .ld (.t 10) 1 false, none, []⟩,
  ⟨some 12, .addo (.t 2) 1, none, []⟩,
  ⟨some 13, .ld (.t 12) 1 false, none, []⟩,
  ⟨some 14, .bsl 1 3 [.t 11, .t 13], none, []⟩,
  ⟨some 15, .call 58 [.c (.int .i64 0), .t 9, .t 14], none, []⟩,
  ⟨some 16, .un .not (.t 15), none, []⟩,
  ⟨some 17, .mv (.t 16), none, []⟩,
  ⟨some 18, .addo (.t 2) 0, some (17, false), []⟩,
  ⟨some 19, .ld (.t 18) 1 false, some (17, false), []⟩,
  ⟨some 20, .addo (.t 2) 1, some (17, false), []⟩,
  ⟨some 21, .ld (.t 20) 1 false, some (17, false), []⟩,
  ⟨some 22, .bin .eql (.t 19) (.t 21), some (17, false), []⟩,
  ⟨some 23, .pick (.t 17) (.c (.bool true)) (.t 22), none, []⟩,
  ⟨some 24, .mv (.t 23), none, []⟩,
  ⟨some 25, .addo (.t 2) 2, some (24, false), []⟩,
  ⟨some 26, .ld (.t 25) 2 true, some (24, false), []⟩,
  ⟨some 27, .bsl 2 29 [.t 26], some (24, false), []⟩,
  ⟨some 28, .call 93 [.c (.int .i64 1), .c (.int .i64 1000000), .t 27], some (24, false), []⟩,
  ⟨some 29, .un .not (.t 28), some (24, false), []⟩,
  ⟨some 30, .pick (.t 24) (.c (.bool true)) (.t 29), none, []⟩,
  ⟨some 31, .mv (.t 30), none, []⟩,
  ⟨some 32, .addo (.t 2) 4, some (31, false), []⟩,
  ⟨some 33, .ld (.t 32) 1 false, some (31, false), []⟩,
  ⟨some 34, .len (.t 33), some (31, false), []⟩,
  ⟨some 35, .bin .gtr (.t 34) (.c (.int .i64 6)), some (31, false), []⟩,
  ⟨some 36, .pick (.t 31) (.c (.bool true)) (.t 35), none, []⟩])
  (.cond (.t 36)
  (.seq (.reg [
   ⟨some 4, .mv (.c (.bool false)), none, []⟩])
   .ret)
  .skip))
  (.seq (.reg [
  ⟨some 5, .mv (.c (.int .i64 0)), none, []⟩])
  (.seq (.seq (.reg [
  ⟨some 37, .addo (.t 2) 4, none, []⟩,
  ⟨some 38, .ld (.t 37) 1 false, none, []⟩,
  ⟨some 39, .len (.t 38), none, []⟩,
  ⟨some 40, .mv (.c (.int .i64 0)), none, []⟩])
  (.block 0 (.loop (.seq (.reg [
    ⟨some 41, .bin .lss (.t 40) (.t 39), none, []⟩])
    (.seq (.cond (.t 41)
    .skip
    (.exit 0))
    (.seq (.block 1 (.seq (.reg [
     ⟨some 42, .ixs (.t 38) (.t 40) 4, none, []⟩,
     ⟨some 43, .ld (.t 42) 4 true, none, []⟩,
     ⟨some 7, .alloc [.int .i64 0, .int .i64 0, .int .i64 0, .int .i64 0] 95, none, []⟩,
     ⟨none, .st (.t 7) (.t 43) 4, none, []⟩])
     (.seq (.seq (.reg [
     ⟨some 44, .addo (.t 7) 0, none, []⟩,
     ⟨some 45, .ld (.t 44) 2 true, none, []⟩,
     ⟨some 46, .addo (.t 7) 2, none, []⟩,
     ⟨some 47, .ld (.t 46) 2 true, none, []⟩,
     ⟨some 48, .bsl 2 29 [.t 45, .t 47], none, []⟩,
     ⟨some 49, .call 93 [.c (.int .i64 0), .c (.int .i64 100000), .t 48], none, []⟩,
     ⟨some 50, .un .not (.t 49), none, []⟩,
     ⟨some 51, .mv (.t 50), none, []⟩,
     ⟨some 52, .mv (.t 5), some (51, false), []⟩,
     ⟨some 53, .addo (.t 7) 2, some (51, false), []⟩,
     ⟨some 54, .addo (.t 53) 1, some (51, false), []⟩,
     ⟨some 55, .ld (.t 54) 1 false, some (51, false), []⟩,
     ⟨some 56, .addo (.t 7) 0, some (51, false), []⟩,
     ⟨some 57, .addo (.t 56) 0, some (51, false), []⟩,
     ⟨some 58, .ld (.t 57) 1 false, some (51, false), []⟩,
     ⟨some 59, .bsl 1 3 [.t 58], some (51, false), []⟩,
     ⟨some 60, .call 58 [.t 52, .t 55, .t 59], some (51, false), []⟩,
     ⟨some 61, .un .not (.t 60), some (51, false), []⟩,
     ⟨some 62, .pick (.t 51) (.c (.bool true)) (.t 61), none, []⟩])
     (.cond (.t 62)
     (.seq (.reg [
      ⟨some 4, .mv (.c (.bool false)), none, []⟩])
      .ret)
     .skip))
     (.reg [
     ⟨some 63, .addo (.t 7) 2, none, []⟩,
     ⟨some 64, .addo (.t 63) 1, none, []⟩,
     ⟨some 65, .ld (.t 64) 1 false, none, []⟩,
     ⟨some 66, .bin .add (.t 65) (.c (.int .i64 1)), none, []⟩,
     ⟨some 5, .mv (.t 66), none, []⟩]))))
    (.reg [
    ⟨some 67, .bin .add (.t 40) (.c (.int .i64 1)), none, []⟩,
    ⟨some 40, .mv (.t 67), none, []⟩])))))))
  (.seq (.reg [
  ⟨some 4, .mv (.c (.bool true)), none, []⟩])
  .ret)))))
def r76 : List RV := [.tmp 4]
theorem n76 : Try.f76.ntmps = 68 := by kernel_rfl
theorem b76 : bodyB Try.prog 76 = true := by kernel_rfl
theorem c76_ok : cmpC Try.prog c76 ((Try.f76.body).getD .skip) = true := by kernel_rfl
theorem r76_ok : cmpR Try.prog r76 Try.f76.results.toList = true := by kernel_rfl
theorem t76 {args : List SV} {res : SV} (ka : KFL args) (kr : KF res) (h : sx Try.prog Y0 0 c76 (st0 args 68) (retK r76 res)) (hA : Nat.ble args.length 68 = true := by rfl) : Ct Try.prog 76 args res := ct_intro Try.func76 rfl b76 c76_ok r76_ok n76 (Nat.le_of_ble_eq_true hA) ka kr h
def c90 : SC := (.seq (.reg [
  ⟨some 4, .mv (.c (.bool false)), none, []⟩])
  (.seq (.reg [
  ⟨some 5, .mv (.t 0), none, []⟩,
  ⟨some 6, .mv (.t 1), none, []⟩,
  ⟨some 7, .call 101 [.t 5, .t 6], none, []⟩,
  ⟨some 8, .bin .geq (.t 7) (.c (.int .i64 0)), none, []⟩,
  ⟨some 4, .mv (.t 8), none, []⟩])
  .ret))
def r90 : List RV := [.tmp 4]
theorem n90 : Try.f90.ntmps = 9 := by kernel_rfl
theorem b90 : bodyB Try.prog 90 = true := by kernel_rfl
theorem c90_ok : cmpC Try.prog c90 ((Try.f90.body).getD .skip) = true := by kernel_rfl
theorem r90_ok : cmpR Try.prog r90 Try.f90.results.toList = true := by kernel_rfl
theorem t90 {args : List SV} {res : SV} (ka : KFL args) (kr : KF res) (h : sx Try.prog Y0 0 c90 (st0 args 9) (retK r90 res)) (hA : Nat.ble args.length 9 = true := by rfl) : Ct Try.prog 90 args res := ct_intro Try.func90 rfl b90 c90_ok r90_ok n90 (Nat.le_of_ble_eq_true hA) ka kr h
def c91 : SC := (.seq (.reg [
  ⟨some 4, .mv (.c (.bool false)), none, []⟩])
  (.seq (.reg [
  ⟨some 5, .mv (.t 0), none, []⟩,
  ⟨some 6, .ld (.t 1) 1 false, none, []⟩,
  ⟨some 7, .bin .lss (.t 5) (.t 6), none, []⟩,
  ⟨some 8, .mv (.t 7), none, []⟩,
  ⟨some 9, .mv (.t 0), some (8, false), []⟩,
  ⟨some 10, .ld (.t 2) 1 false, some (8, false), []⟩,
  ⟨some 11, .bin .gtr (.t 9) (.t 10), some (8, false), []⟩,
  ⟨some 12, .pick (.t 8) (.c (.bool true)) (.t 11), none, []⟩,
  ⟨some 4, .mv (.t 12), none, []⟩])
  .ret))
def r91 : List RV := [.tmp 4]
theorem n91 : Try.f91.ntmps = 13 := by kernel_rfl
theorem b91 : bodyB Try.prog 91 = true := by kernel_rfl
theorem c91_ok : cmpC Try.prog c91 ((Try.f91.body).getD .skip) = true := by kernel_rfl
theorem r91_ok : cmpR Try.prog r91 Try.f91.results.toList = true := by kernel_rfl
theorem t91 {args : List SV} {res : SV} (ka : KFL args) (kr : KF res) (h : sx Try.prog Y0 0 c91 (st0 args 13) (retK r91 res)) (hA : Nat.ble args.length 13 = true := by rfl) : Ct Try.prog 91 args res := ct_intro Try.func91 rfl b91 c91_ok r91_ok n91 (Nat.le_of_ble_eq_true hA) ka kr h
def c92 : SC := (.seq (.reg [
  ⟨some 3, .box (.t 0) 0 29, none, []⟩,
  ⟨some 6, .mv (.c (.bool false)), none, []⟩])
  (.seq (.reg [
  ⟨some 7, .addo (.t 3) 0, none, []⟩,
  ⟨some 8, .ld (.t 7) 1 false, none, []⟩,
  ⟨some 9, .mv (.t 1), none, []⟩,
  ⟨some 10, .addo (.t 3) 1, none, []⟩,
  ⟨some 11, .ld (.t 10) 1 false, none, []⟩,
  ⟨some 12, .call 61 [.t 8, .t 9, .t 11], none, []⟩,
  ⟨some 13, .mv (.t 12), none, []⟩,
  ⟨some 14, .addo (.t 3) 1, some (13, true), []⟩,
  ⟨some 15, .ld (.t 14) 1 false, some (13, true), []⟩,
  ⟨some 16, .mv (.t 2), some (13, true), []⟩,
  ⟨some 17, .bin .leq (.t 15) (.t 16), some (13, true), []⟩,
  ⟨some 18, .pick (.t 13) (.t 17) (.c (.bool false)), none, []⟩,
  ⟨some 6, .mv (.t 18), none, []⟩])
  .ret))
def r92 : List RV := [.tmp 6]
theorem n92 : Try.f92.ntmps = 19 := by kernel_rfl
theorem b92 : bodyB Try.prog 92 = true := by kernel_rfl
theorem c92_ok : cmpC Try.prog c92 ((Try.f92.body).getD .skip) = true := by kernel_rfl
theorem r92_ok : cmpR Try.prog r92 Try.f92.results.toList = true := by kernel_rfl
theorem t92 {args : List SV} {res : SV} (ka : KFL args) (kr : KF res) (h : sx Try.prog Y0 0 c92 (st0 args 19) (retK r92 res)) (hA : Nat.ble args.length 19 = true := by rfl) : Ct Try.prog 92 args res := ct_intro Try.func92 rfl b92 c92_ok r92_ok n92 (Nat.le_of_ble_eq_true hA) ka kr h
def c93 : SC := (.seq (.reg [
  ⟨some 3, .box (.t 0) 0 3, none, []⟩,
  ⟨some 4, .box (.t 1) 0 3, none, []⟩,
  ⟨some 6, .mv (.c (.bool false)), none, []⟩])
  (.seq (.reg [
  ⟨some 7, .mv (.t 2), none, []⟩,
  ⟨some 8, .mkf 103 [.t 3, .t 4], none, []⟩,
  ⟨some 9, .call 102 [.t 7, .t 8], none, []⟩,
  ⟨some 10, .un .not (.t 9), none, []⟩,
  ⟨some 6, .mv (.t 10), none, []⟩])
  .ret))
def r93 : List RV := [.tmp 6]
theorem n93 : Try.f93.ntmps = 11 := by kernel_rfl
theorem b93 : bodyB Try.prog 93 = true := by kernel_rfl
theorem c93_ok : cmpC Try.prog c93 ((Try.f93.body).getD .skip) = true := by kernel_rfl
theorem r93_ok : cmpR Try.prog r93 Try.f93.results.toList = true := by kernel_rfl
theorem t93 {args : List SV} {res : SV} (ka : KFL args) (kr : KF res) (h : sx Try.prog Y0 0 c93 (st0 args 11) (retK r93 res)) (hA : Nat.ble args.length 11 = true := by rfl) : Ct Try.prog 93 args res := ct_intro Try.func93 rfl b93 c93_ok r93_ok n93 (Nat.le_of_ble_eq_true hA) ka kr h
def c95 : SC := (.seq (.reg [
  ⟨some 4, .mv (.c (.int .i64 0)), none, []⟩])
  (.seq (.seq (.reg [
  ⟨some 6, .mv (.t 0), none, []⟩,
  ⟨some 7, .len (.t 6), none, []⟩,
  ⟨some 8, .mv (.c (.int .i64 0)), none, []⟩])
  (.block 0 (.loop (.seq (.reg [
    ⟨some 9, .bin .lss (.t 8) (.t 7), none, []⟩])
    (.seq (.cond (.t 9)
    .skip
    (.exit 0))
    (.seq (.block 1 (.seq (.reg [
     ⟨some 10, .mv (.t 8), none, []⟩,
     ⟨some 5, .mv (.t 10), none, []⟩])
     (.seq (.reg [
     ⟨some 11, .mv (.t 1), none, []⟩,
     ⟨some 12, .mv (.t 0), none, []⟩,
     ⟨some 13, .mv (.t 5), none, []⟩,
     ⟨some 14, .ixs (.t 12) (.t 13) 9, none, []⟩,
     ⟨some 15, .ld (.t 14) 9 true, none, []⟩,
     ⟨some 16, .calv (.t 11) [.t 15], none, []⟩])
     (.cond (.t 16)
     (.seq (.reg [
      ⟨some 17, .mv (.t 5), none, []⟩,
      ⟨some 4, .mv (.t 17), none, []⟩])
      .ret)
     .skip))))
    (.reg [
    ⟨some 18, .bin .add (.t 8) (.c (.int .i64 1)), none, []⟩,
    ⟨some 8, .mv (.t 18), none, []⟩])))))))
  (.seq (.reg [
  ⟨some 4, .mv (.c (.int .i64 (-1))), none, []⟩])
  .ret)))
def r95 : List RV := [.tmp 4]
theorem n95 : Try.f95.ntmps = 19 := by kernel_rfl
theorem b95 : bodyB Try.prog 95 = true := by kernel_rfl
theorem c95_ok : cmpC Try.prog c95 ((Try.f95.body).getD .skip) = true := by kernel_rfl
theorem r95_ok : cmpR Try.prog r95 Try.f95.results.toList = true := by kernel_rfl
theorem t95 {args : List SV} {res : SV} (ka : KFL args) (kr : KF res) (h : sx Try.prog Y0 0 c95 (st0 args 19) (retK r95 res)) (hA : Nat.ble args.length 19 = true := by rfl) : Ct Try.prog 95 args res := ct_intro Try.func95 rfl b95 c95_ok r95_ok n95 (Nat.le_of_ble_eq_true hA) ka kr h
def c96 : SC := (.seq (.reg [
  ⟨some 4, .mv (.c (.int .i64 0)), none, []⟩])
  (.seq (.seq (.reg [
  ⟨some 6, .mv (.t 0), none, []⟩,
  ⟨some 7, .len (.t 6), none, []⟩,
  ⟨some 8, .mv (.c (.int .i64 0)), none, []⟩])
  (.block 0 (.loop (.seq (.reg [
    ⟨some 9, .bin .lss (.t 8) (.t 7), none, []⟩])
    (.seq (.cond (.t 9)
    .skip
    (.exit 0))
    (.seq (.block 1 (.seq (.reg [
     ⟨some 10, .mv (.t 8), none, []⟩,
     ⟨some 5, .mv (.t 10), none, []⟩])
     (.seq (.reg [
     ⟨some 11, .mv (.t 1), none, []⟩,
     ⟨some 12, .mv (.t 0), none, []⟩,
     ⟨some 13, .mv (.t 5), none, []⟩,
     ⟨some 14, .ixs (.t 12) (.t 13) 5, none, []⟩,
     ⟨some 15, .ld (.t 14) 5 true, none, []⟩,
     ⟨some 16, .calv (.t 11) [.t 15], none, []⟩])
     (.cond (.t 16)
     (.seq (.reg [
      ⟨some 17, .mv (.t 5), none, []⟩,
      ⟨some 4, .mv (.t 17), none, []⟩])
      .ret)
     .skip))))
    (.reg [
    ⟨some 18, .bin .add (.t 8) (.c (.int .i64 1)), none, []⟩,
    ⟨some 8, .mv (.t 18), none, []⟩])))))))
  (.seq (.reg [
  ⟨some 4, .mv (.c (.int .i64 (-1))), none, []⟩])
  .ret)))
def r96 : List RV := [.tmp 4]
theorem n96 : Try.f96.ntmps = 19 := by kernel_rfl
theorem b96 : bodyB Try.prog 96 = true := by kernel_rfl
theorem c96_ok : cmpC Try.prog c96 ((Try.f96.body).getD .skip) = true := by kernel_rfl
theorem r96_ok : cmpR Try.prog r96 Try.f96.results.toList = true := by kernel_rfl
theorem t96 {args : List SV} {res : SV} (ka : KFL args) (kr : KF res) (h : sx Try.prog Y0 0 c96 (st0 args 19) (retK r96 res)) (hA : Nat.ble args.length 19 = true := by rfl) : Ct Try.prog 96 args res := ct_intro Try.func96 rfl b96 c96_ok r96_ok n96 (Nat.le_of_ble_eq_true hA) ka kr h
def c101 : SC := (.seq (.reg [
  ⟨some 4, .mv (.c (.int .i64 0)), none, []⟩])
  (.seq (.seq (.reg [
  ⟨some 6, .mv (.t 0), none, []⟩,
  ⟨some 7, .len (.t 6), none, []⟩,
  ⟨some 8, .mv (.c (.int .i64 0)), none, []⟩])
  (.block 0 (.loop (.seq (.reg [
    ⟨some 9, .bin .lss (.t 8) (.t 7), none, []⟩])
    (.seq (.cond (.t 9)
    .skip
    (.exit 0))
    (.seq (.block 1 (.seq (.reg [
     ⟨some 10, .mv (.t 8), none, []⟩,
     ⟨some 5, .mv (.t 10), none, []⟩])
     (.seq (.reg [
     ⟨some 11, .mv (.t 1), none, []⟩,
     ⟨some 12, .mv (.t 0), none, []⟩,
     ⟨some 13, .mv (.t 5), none, []⟩,
     ⟨some 14, .ixs (.t 12) (.t 13) 1, none, []⟩,
     ⟨some 15, .ld (.t 14) 1 false, none, []⟩,
     ⟨some 16, .calv (.t 11) [.t 15], none, []⟩])
     (.cond (.t 16)
     (.seq (.reg [
      ⟨some 17, .mv (.t 5), none, []⟩,
      ⟨some 4, .mv (.t 17), none, []⟩])
      .ret)
     .skip))))
    (.reg [
    ⟨some 18, .bin .add (.t 8) (.c (.int .i64 1)), none, []⟩,
    ⟨some 8, .mv (.t 18), none, []⟩])))))))
  (.seq (.reg [
  ⟨some 4, .mv (.c (.int .i64 (-1))), none, []⟩])
  .ret)))
def r101 : List RV := [.tmp 4]
theorem n101 : Try.f101.ntmps = 19 := by kernel_rfl
theorem b101 : bodyB Try.prog 101 = true := by kernel_rfl
theorem c101_ok : cmpC Try.prog c101 ((Try.f101.body).getD .skip) = true := by kernel_rfl
theorem r101_ok : cmpR Try.prog r101 Try.f101.results.toList = true := by kernel_rfl
theorem t101 {args : List SV} {res : SV} (ka : KFL args) (kr : KF res) (h : sx Try.prog Y0 0 c101 (st0 args 19) (retK r101 res)) (hA : Nat.ble args.length 19 = true := by rfl) : Ct Try.prog 101 args res := ct_intro Try.func101 rfl b101 c101_ok r101_ok n101 (Nat.le_of_ble_eq_true hA) ka kr h
def c102 : SC := (.seq (.reg [
  ⟨some 4, .mv (.c (.bool false)), none, []⟩])
  (.seq (.reg [
  ⟨some 5, .mv (.t 0), none, []⟩,
  ⟨some 6, .mv (.t 1), none, []⟩,
  ⟨some 7, .call 107 [.t 5, .t 6], none, []⟩,
  ⟨some 8, .bin .geq (.t 7) (.c (.int .i64 0)), none, []⟩,
  ⟨some 4, .mv (.t 8), none, []⟩])
  .ret))
def r102 : List RV := [.tmp 4]
theorem n102 : Try.f102.ntmps = 9 := by kernel_rfl
theorem b102 : bodyB Try.prog 102 = true := by kernel_rfl
theorem c102_ok : cmpC Try.prog c102 ((Try.f102.body).getD .skip) = true := by kernel_rfl
theorem r102_ok : cmpR Try.prog r102 Try.f102.results.toList = true := by kernel_rfl
theorem t102 {args : List SV} {res : SV} (ka : KFL args) (kr : KF res) (h : sx Try.prog Y0 0 c102 (st0 args 9) (retK r102 res)) (hA : Nat.ble args.length 9 = true := by rfl) : Ct Try.prog 102 args res := ct_intro Try.func102 rfl b102 c102_ok r102_ok n102 (Nat.le_of_ble_eq_true hA) ka kr h
def c103 : SC := (.seq (.reg [
  ⟨some 3, .box (.t 0) 0 29, none, []⟩,
  ⟨some 4, .mv (.c (.bool false)), none, []⟩])
  (.seq (.reg [
  ⟨some 5, .addo (.t 3) 0, none, []⟩,
  ⟨some 6, .ld (.t 5) 1 false, none, []⟩,
  ⟨some 7, .addo (.t 3) 1, none, []⟩,
  ⟨some 8, .ld (.t 7) 1 false, none, []⟩,
  ⟨some 9, .bin .gtr (.t 6) (.t 8), none, []⟩,
  ⟨some 10, .mv (.t 9), none, []⟩,
  ⟨some 11, .ld (.t 1) 1 false, some (10, false), []⟩,
  ⟨some 12, .ld (.t 2) 1 false, some (10, false), []⟩,
  ⟨some 13, .addo (.t 3) 0, some (10, false), []⟩,
  ⟨some 14, .ld (.t 13) 1 false, some (10, false), []⟩,
  ⟨some 15, .addo (.t 3) 1, some (10, false), []⟩,
  ⟨some 16, .ld (.t 15) 1 false, some (10, false), []⟩,
  ⟨some 17, .bsl 1 3 [.t 14, .t 16], some (10, false), []⟩,
  ⟨some 18, .call 58 [.t 11, .t 12, .t 17], some (10, false), []⟩,
  ⟨some 19, .un .not (.t 18), some (10, false), []⟩,
  ⟨some 20, .pick (.t 10) (.c (.bool true)) (.t 19), none, []⟩,
  ⟨some 4, .mv (.t 20), none, []⟩])
  .ret))
def r103 : List RV := [.tmp 4]
theorem n103 : Try.f103.ntmps = 21 := by kernel_rfl
theorem b103 : bodyB Try.prog 103 = true := by kernel_rfl
theorem c103_ok : cmpC Try.prog c103 ((Try.f103.body).getD .skip) = true := by kernel_rfl
theorem r103_ok : cmpR Try.prog r103 Try.f103.results.toList = true := by kernel_rfl
theorem t103 {args : List SV} {res : SV} (ka : KFL args) (kr : KF res) (h : sx Try.prog Y0 0 c103 (st0 args 21) (retK r103 res)) (hA : Nat.ble args.length 21 = true := by rfl) : Ct Try.prog 103 args res := ct_intro Try.func103 rfl b103 c103_ok r103_ok n103 (Nat.le_of_ble_eq_true hA) ka kr h
def c107 : SC := (.seq (.reg [
  ⟨some 4, .mv (.c (.int .i64 0)), none, []⟩])
  (.seq (.seq (.reg [
  ⟨some 6, .mv (.t 0), none, []⟩,
  ⟨some 7, .len (.t 6), none, []⟩,
  ⟨some 8, .mv (.c (.int .i64 0)), none, []⟩])
  (.block 0 (.loop (.seq (.reg [
    ⟨some 9, .bin .lss (.t 8) (.t 7), none, []⟩])
    (.seq (.cond (.t 9)
    .skip
    (.exit 0))
    (.seq (.block 1 (.seq (.reg [
     ⟨some 10, .mv (.t 8), none, []⟩,
     ⟨some 5, .mv (.t 10), none, []⟩])
     (.seq (.reg [
     ⟨some 11, .mv (.t 1), none, []⟩,
     ⟨some 12, .mv (.t 0), none, []⟩,
     ⟨some 13, .mv (.t 5), none, []⟩,
     ⟨some 14, .ixs (.t 12) (.t 13) 2, none, []⟩,
     ⟨some 15, .ld (.t 14) 2 true, none, []⟩,
     ⟨some 16, .calv (.t 11) [.t 15], none, []⟩])
     (.cond (.t 16)
     (.seq (.reg [
      ⟨some 17, .mv (.t 5), none, []⟩,
      ⟨some 4, .mv (.t 17), none, []⟩])
      .ret)
     .skip))))
    (.reg [
    ⟨some 18, .bin .add (.t 8) (.c (.int .i64 1)), none, []⟩,
    ⟨some 8, .mv (.t 18), none, []⟩])))))))
  (.seq (.reg [
  ⟨some 4, .mv (.c (.int .i64 (-1))), none, []⟩])
  .ret)))
def r107 : List RV := [.tmp 4]
theorem n107 : Try.f107.ntmps = 19 := by kernel_rfl
theorem b107 : bodyB Try.prog 107 = true := by kernel_rfl
theorem c107_ok : cmpC Try.prog c107 ((Try.f107.body).getD .skip) = true := by kernel_rfl
theorem r107_ok : cmpR Try.prog r107 Try.f107.results.toList = true := by kernel_rfl
theorem t107 {args : List SV} {res : SV} (ka : KFL args) (kr : KF res) (h : sx Try.prog Y0 0 c107 (st0 args 19) (retK r107 res)) (hA : Nat.ble args.length 19 = true := by rfl) : Ct Try.prog 107 args res := ct_intro Try.func107 rfl b107 c107_ok r107_ok n107 (Nat.le_of_ble_eq_true hA) ka kr h
def c4 : SC := (.seq (.reg [
  ⟨some 4, .box (.t 0) 0 25, none, []⟩,
  ⟨some 7, .box (.t 3) 0 29, none, []⟩,
  ⟨some 8, .mv (.c (.bool false)), none, []⟩])
  (.seq (.seq (.reg [
  ⟨some 18, .ld (.t 4) 2 true, none, []⟩,
  ⟨some 19, .call 16 [.t 18], none, []⟩])
  (.cond (.t 19)
  (.seq (.reg [
   ⟨some 8, .mv (.c (.bool true)), none, []⟩])
   .ret)
  .skip))
  (.seq (.reg [
  ⟨some 20, .ld (.t 4) 2 true, none, []⟩,
  ⟨some 21, .call 21 [.t 20], none, []⟩,
  ⟨some 9, .alloc [.slice none 0 0, .slice none 0 0] 25, none, []⟩,
  ⟨none, .st (.t 9) (.t 21) 2, none, []⟩])
  (.seq (.reg [
  ⟨some 23, .ld (.t 9) 2 true, none, []⟩,
  ⟨some 24, .mv (.t 1), none, []⟩,
  ⟨some 25, .ld (.t 7) 2 true, none, []⟩,
  ⟨some 26, .call 22 [.t 23, .t 24, .t 25], none, []⟩,
  ⟨some 22, .mv (.t 26), none, []⟩,
  ⟨some 27, .ext (.t 22) 0, none, []⟩,
  ⟨some 28, .ext (.t 22) 1, none, []⟩,
  ⟨some 10, .alloc [.int .i64 0, .int .i64 0] 29, none, []⟩,
  ⟨none, .st (.t 10) (.t 27) 2, none, []⟩,
  ⟨some 11, .mv (.t 28), none, []⟩])
  (.seq (.reg [
  ⟨some 30, .ld (.t 4) 2 true, none, []⟩,
  ⟨some 31, .mv (.t 1), none, []⟩,
  ⟨some 32, .ld (.t 7) 2 true, none, []⟩,
  ⟨some 33, .call 23 [.t 30, .t 31, .t 32], none, []⟩,
  ⟨some 29, .mv (.t 33), none, []⟩,
  ⟨some 34, .ext (.t 29) 0, none, []⟩,
  ⟨some 35, .ext (.t 29) 1, none, []⟩,
  ⟨some 12, .alloc [.int .i64 0, .int .i64 0] 29, none, []⟩,
  ⟨none, .st (.t 12) (.t 34) 2, none, []⟩,
  ⟨some 13, .mv (.t 35), none, []⟩])
  (.seq (.reg [
  ⟨some 37, .ld (.t 9) 2 true, none, []⟩,
  ⟨some 38, .mv (.t 1), none, []⟩,
  ⟨some 39, .mv (.t 2), none, []⟩,
  ⟨some 40, .ld (.t 7) 2 true, none, []⟩,
  ⟨some 41, .call 24 [.t 37, .t 38, .t 39, .t 40], none, []⟩,
  ⟨some 36, .mv (.t 41), none, []⟩,
  ⟨some 42, .ext (.t 36) 0, none, []⟩,
  ⟨some 43, .ext (.t 36) 1, none, []⟩,
  ⟨some 14, .alloc [.int .i64 0, .int .i64 0] 29, none, []⟩,
  ⟨none, .st (.t 14) (.t 42) 2, none, []⟩,
  ⟨some 15, .mv (.t 43), none, []⟩])
  (.seq (.reg [
  ⟨some 45, .ld (.t 4) 2 true, none, []⟩,
  ⟨some 46, .mv (.t 1), none, []⟩,
  ⟨some 47, .mv (.t 2), none, []⟩,
  ⟨some 48, .ld (.t 7) 2 true, none, []⟩,
  ⟨some 49, .call 25 [.t 45, .t 46, .t 47, .t 48], none, []⟩,
  ⟨some 44, .mv (.t 49), none, []⟩,
  ⟨some 50, .ext (.t 44) 0, none, []⟩,
  ⟨some 51, .ext (.t 44) 1, none, []⟩,
  ⟨some 16, .alloc [.int .i64 0, .int .i64 0] 29, none, []⟩,
  ⟨none, .st (.t 16) (.t 50) 2, none, []⟩,
  ⟨some 17, .mv (.t 51), none, []⟩])
  (.seq (.regd [0, 1, 2, 3, 4, 5, 6, 7, 8, 9, 10, 11, 12, 13, 14, 15, 16, 17, 18, 19, 20, 21, 22, 23, 24, 25, 26, 27, 28, 29, 30] [
  .op ⟨some 52, .ld (.t 9) 2 true, none, []⟩,
  .op ⟨some 53, .call 26 [.t 52], none, [0]⟩,
  .op ⟨some 54, .ld (.t 4) 2 true, none, []⟩,
  .op ⟨some 55, .call 27 [.t 54], none, [1, 2]⟩,
  .op ⟨some 56, .bin .eql (.t 53) (.t 55), none, [1, 3]⟩,
  .op ⟨some 57, .mv (.t 56), none, [3, 4]⟩,
  .op ⟨some 58, .ld (.t 10) 2 true, some (57, true), [5]⟩,
  .op ⟨some 59, .ld (.t 12) 2 true, some (57, true), [5]⟩,
  .op ⟨some 60, .eqs false true [1, 1] (.t 58) (.t 59), some (57, true), [5, 6, 7]⟩,
  .op ⟨some 61, .pick (.t 57) (.t 60) (.c (.bool false)), none, [5, 8]⟩,
  .op ⟨some 62, .mv (.t 61), none, [5, 9]⟩,
  .op ⟨some 63, .mv (.t 11), some (62, true), [10]⟩,
  .op ⟨some 64, .mv (.t 13), some (62, true), [10]⟩,
  .op ⟨some 65, .bin .eql (.t 63) (.t 64), some (62, true), [10, 11, 12]⟩,
  .op ⟨some 66, .pick (.t 62) (.t 65) (.c (.bool false)), none, [10, 13]⟩,
  .op ⟨some 67, .mv (.t 66), none, [10, 14]⟩,
  .op ⟨some 68, .ld (.t 14) 2 true, some (67, true), [15]⟩,
  .op ⟨some 69, .ld (.t 16) 2 true, some (67, true), [15]⟩,
  .op ⟨some 70, .eqs false true [1, 1] (.t 68) (.t 69), some (67, true), [15, 16, 17]⟩,
  .op ⟨some 71, .pick (.t 67) (.t 70) (.c (.bool false)), none, [15, 18]⟩,
  .op ⟨some 72, .mv (.t 71), none, [15, 19]⟩,
  .op ⟨some 73, .mv (.t 15), some (72, true), [20]⟩,
  .op ⟨some 74, .mv (.t 17), some (72, true), [20]⟩,
  .op ⟨some 75, .bin .eql (.t 73) (.t 74), some (72, true), [20, 21, 22]⟩,
  .op ⟨some 76, .pick (.t 72) (.t 75) (.c (.bool false)), none, [20, 23]⟩,
  .op ⟨some 77, .mv (.t 76), none, [20, 24]⟩,
  .op ⟨some 78, .ld (.t 9) 2 true, some (77, true), [25]⟩,
  .op ⟨some 79, .ld (.t 4) 2 true, some (77, true), [25]⟩,
  .op ⟨some 80, .call 28 [.t 78, .t 79], some (77, true), [25, 26, 27]⟩,
  .op ⟨some 81, .pick (.t 77) (.t 80) (.c (.bool false)), none, [25, 28]⟩,
  .op ⟨some 8, .mv (.t 81), none, [0, 1, 2, 3, 4, 5, 6, 7, 8, 9, 10, 11, 12, 13, 14, 15, 16, 17, 18, 19, 20, 21, 22, 23, 24, 25, 26, 27, 28, 29]⟩] 0 0 [
])
  .ret))))))))
def r4 : List RV := [.tmp 8]
theorem n4 : Try.f4.ntmps = 82 := by kernel_rfl
theorem b4 : bodyB Try.prog 4 = true := by kernel_rfl
theorem c4_ok : cmpC Try.prog c4 ((Try.f4.body).getD .skip) = true := by kernel_rfl
theorem r4_ok : cmpR Try.prog r4 Try.f4.results.toList = true := by kernel_rfl
theorem t4 {args : List SV} {res : SV} (ka : KFL args) (kr : KF res) (h : sx Try.prog Y0 0 c4 (st0 args 82) (retK r4 res)) (hA : Nat.ble args.length 82 = true := by rfl) : Ct Try.prog 4 args res := ct_intro Try.func4 rfl b4 c4_ok r4_ok n4 (Nat.le_of_ble_eq_true hA) ka kr h
def c21 : SC := (.seq (.reg [
  ⟨some 1, .box (.t 0) 0 25, none, []⟩,
  ⟨some 2, .alloc [.slice none 0 0, .slice none 0 0] 25, none, []⟩])
  (.seq (.reg [
  ⟨some 4, .bsl 9 109 [], none, []⟩,
  ⟨some 5, .addo (.t 1) 0, none, []⟩,
  ⟨some 6, .ld (.t 5) 1 false, none, []⟩,
  ⟨some 7, .app 9 72 109 (.t 4) (.t 6), none, []⟩,
  ⟨some 8, .addo (.t 1) 0, none, []⟩,
  ⟨none, .st (.t 8) (.t 7) 1, none, []⟩])
  (.seq (.reg [
  ⟨some 9, .bsl 5 86 [], none, []⟩,
  ⟨some 10, .addo (.t 1) 1, none, []⟩,
  ⟨some 11, .ld (.t 10) 1 false, none, []⟩,
  ⟨some 12, .cln 5 56 86 (.t 9) (.t 11), none, []⟩,
  ⟨some 13, .addo (.t 1) 1, none, []⟩,
  ⟨none, .st (.t 13) (.t 12) 1, none, []⟩])
  (.seq (.seq (.reg [
  ⟨some 3, .mv (.c (.int .i64 0)), none, []⟩])
  (.block 0 (.loop (.seq (.seq (.reg [
    ⟨some 14, .mv (.t 3), none, []⟩,
    ⟨some 15, .addo (.t 1) 1, none, []⟩,
    ⟨some 16, .ld (.t 15) 1 false, none, []⟩,
    ⟨some 17, .len (.t 16), none, []⟩,
    ⟨some 18, .bin .lss (.t 14) (.t 17), none, []⟩])
    (.cond (.t 18)
    .skip
    (.exit 0)))
    (.seq (.block 1 (.regd [0, 1, 2, 3, 4, 5, 6, 7, 8, 9, 10, 11, 12, 13] [
     .op ⟨some 21, .addo (.t 1) 1, none, []⟩,
     .op ⟨some 22, .ld (.t 21) 1 false, none, [0]⟩,
     .op ⟨some 23, .mv (.t 3), none, []⟩,
     .op ⟨some 24, .bsl 4 95 [], none, []⟩,
     .op ⟨some 25, .addo (.t 1) 1, none, []⟩,
     .op ⟨some 26, .ld (.t 25) 1 false, none, [4]⟩,
     .op ⟨some 27, .mv (.t 3), none, []⟩,
     .op ⟨some 28, .ixs (.t 26) (.t 27) 5, none, [5, 6]⟩,
     .op ⟨some 29, .addo (.t 28) 4, none, [7]⟩,
     .op ⟨some 30, .ld (.t 29) 1 false, none, [8]⟩,
     .op ⟨some 31, .app 4 32 95 (.t 24) (.t 30), none, [3, 9]⟩,
     .op ⟨some 32, .ixs (.t 22) (.t 23) 5, none, [0, 1, 2, 3, 4, 5, 6, 7, 8, 9, 10]⟩,
     .op ⟨some 33, .addo (.t 32) 4, none, [0, 1, 2, 3, 4, 5, 6, 7, 8, 9, 10, 11]⟩] 0 1 [
     ⟨none, .st (.t 33) (.t 31) 1, none, [0, 1, 2, 3, 4, 5, 6, 7, 8, 9, 10, 12]⟩]))
    (.reg [
    ⟨some 19, .mv (.t 3), none, []⟩,
    ⟨some 20, .bin .add (.t 19) (.c (.int .i64 1)), none, []⟩,
    ⟨some 3, .mv (.t 20), none, []⟩]))))))
  (.seq (.reg [
  ⟨some 34, .ld (.t 1) 2 true, none, []⟩,
  ⟨none, .st (.t 2) (.t 34) 2, none, []⟩])
  .ret)))))
def r21 : List RV := [.cell 2 2 true]
theorem n21 : Try.f21.ntmps = 35 := by kernel_rfl
theorem b21 : bodyB Try.prog 21 = true := by kernel_rfl
theorem c21_ok : cmpC Try.prog c21 ((Try.f21.body).getD .skip) = true := by kernel_rfl
theorem r21_ok : cmpR Try.prog r21 Try.f21.results.toList = true := by kernel_rfl
theorem t21 {args : List SV} {res : SV} (ka : KFL args) (kr : KF res) (h : sx Try.prog Y0 0 c21 (st0 args 35) (retK r21 res)) (hA : Nat.ble args.length 35 = true := by rfl) : Ct Try.prog 21 args res := ct_intro Try.func21 rfl b21 c21_ok r21_ok n21 (Nat.le_of_ble_eq_true hA) ka kr h
def r27 : List RV := [.tmp 2]
def c28 : SC := (.seq (.reg [
  ⟨some 2, .box (.t 0) 0 25, none, []⟩,
  ⟨some 3, .box (.t 1) 0 25, none, []⟩,
  ⟨some 4, .mv (.c (.bool false)), none, []⟩])
  (.seq (.seq (.reg [
  ⟨some 10, .addo (.t 2) 0, none, []⟩,
  ⟨some 11, .ld (.t 10) 1 false, none, []⟩,
  ⟨some 12, .len (.t 11), none, []⟩,
  ⟨some 13, .addo (.t 3) 0, none, []⟩,
  ⟨some 14, .ld (.t 13) 1 false, none, []⟩,
  ⟨some 15, .len (.t 14), none, []⟩,
  ⟨some 16, .bin .neq (.t 12) (.t 15), none, []⟩,
  ⟨some 17, .mv (.t 16), none, []⟩,
  ⟨some 18, .addo (.t 2) 1, some (17, false), []⟩,
  ⟨some 19, .ld (.t 18) 1 false, some (17, false), []⟩,
  ⟨some 20, .len (.t 19), some (17, false), []⟩,
  ⟨some 21, .addo (.t 3) 1, some (17, false), []⟩,
  ⟨some 22, .ld (.t 21) 1 false, some (17, false), []⟩,
  ⟨some 23, .len (.t 22), some (17, false), []⟩,
  ⟨some 24, .bin .neq (.t 20) (.t 23), some (17, false), []⟩,
  ⟨some 25, .pick (.t 17) (.c (.bool true)) (.t 24), none, []⟩])
  (.cond (.t 25)
  (.seq (.reg [
   ⟨some 4, .mv (.c (.bool false)), none, []⟩])
   .ret)
  .skip))
  (.seq (.seq (.reg [
  ⟨some 5, .mv (.c (.int .i64 0)), none, []⟩])
  (.block 0 (.loop (.seq (.seq (.reg [
    ⟨some 26, .mv (.t 5), none, []⟩,
    ⟨some 27, .addo (.t 2) 0, none, []⟩,
    ⟨some 28, .ld (.t 27) 1 false, none, []⟩,
    ⟨some 29, .len (.t 28), none, []⟩,
    ⟨some 30, .bin .lss (.t 26) (.t 29), none, []⟩])
    (.cond (.t 30)
    .skip
    (.exit 0)))
    (.seq (.block 1 (.seq (.regd [0, 1, 2, 3, 4, 5, 6, 7, 8, 9, 10] [
     .op ⟨some 33, .addo (.t 2) 0, none, []⟩,
     .op ⟨some 34, .ld (.t 33) 1 false, none, [0]⟩,
     .op ⟨some 35, .mv (.t 5), none, []⟩,
     .op ⟨some 36, .ixs (.t 34) (.t 35) 9, none, [1, 2]⟩,
     .op ⟨some 37, .ld (.t 36) 9 true, none, [3]⟩,
     .op ⟨some 38, .addo (.t 3) 0, none, []⟩,
     .op ⟨some 39, .ld (.t 38) 1 false, none, [5]⟩,
     .op ⟨some 40, .mv (.t 5), none, []⟩,
     .op ⟨some 41, .ixs (.t 39) (.t 40) 9, none, [6, 7]⟩,
     .op ⟨some 42, .ld (.t 41) 9 true, none, [8]⟩,
     .op ⟨some 43, .eqs true true [1, 1, 1, 1, 1, 1, 1, 1, 1] (.t 37) (.t 42), none, [4, 9]⟩] 0 0 [
])
     (.cond (.t 43)
     (.seq (.reg [
      ⟨some 4, .mv (.c (.bool false)), none, []⟩])
      .ret)
     .skip)))
    (.reg [
    ⟨some 31, .mv (.t 5), none, []⟩,
    ⟨some 32, .bin .add (.t 31) (.c (.int .i64 1)), none, []⟩,
    ⟨some 5, .mv (.t 32), none, []⟩]))))))
  (.seq (.seq (.reg [
  ⟨some 6, .mv (.c (.int .i64 0)), none, []⟩])
  (.block 2 (.loop (.seq (.seq (.reg [
    ⟨some 44, .mv (.t 6), none, []⟩,
    ⟨some 45, .addo (.t 2) 1, none, []⟩,
    ⟨some 46, .ld (.t 45) 1 false, none, []⟩,
    ⟨some 47, .len (.t 46), none, []⟩,
    ⟨some 48, .bin .lss (.t 44) (.t 47), none, []⟩])
    (.cond (.t 48)
    .skip
    (.exit 2)))
    (.seq (.block 3 (.seq (.regd [0, 1, 2, 3, 4, 5, 6, 7, 8, 9, 10, 11, 12, 13] [
     .op ⟨some 51, .addo (.t 2) 1, none, []⟩,
     .op ⟨some 52, .ld (.t 51) 1 false, none, [0]⟩,
     .op ⟨some 53, .mv (.t 6), none, []⟩,
     .op ⟨some 54, .ixs (.t 52) (.t 53) 5, none, [1, 2]⟩,
     .op ⟨some 55, .ld (.t 54) 5 true, none, [3]⟩,
     .op ⟨some 56, .addo (.t 3) 1, none, []⟩,
     .op ⟨some 57, .ld (.t 56) 1 false, none, [5]⟩,
     .op ⟨some 58, .mv (.t 6), none, []⟩,
     .op ⟨some 59, .ixs (.t 57) (.t 58) 5, none, [6, 7]⟩,
     .op ⟨some 60, .ld (.t 59) 5 true, none, [8]⟩] 2 2 [
     ⟨some 7, .alloc [.int .i64 0, .int .i64 0, .int .i64 0, .int .i64 0, .slice none 0 0] 86, none, []⟩,
     ⟨some 8, .alloc [.int .i64 0, .int .i64 0, .int .i64 0, .int .i64 0, .slice none 0 0] 86, none, []⟩,
     ⟨none, .st (.t 7) (.t 55) 5, none, [0, 1, 2, 3, 4, 10, 11]⟩,
     ⟨none, .st (.t 8) (.t 60) 5, none, [0, 1, 2, 3, 4, 5, 6, 7, 8, 9, 10, 11, 12]⟩])
     (.seq (.seq (.reg [
     ⟨some 61, .addo (.t 7) 0, none, []⟩,
     ⟨some 62, .ld (.t 61) 1 false, none, []⟩,
     ⟨some 63, .addo (.t 8) 0, none, []⟩,
     ⟨some 64, .ld (.t 63) 1 false, none, []⟩,
     ⟨some 65, .bin .neq (.t 62) (.t 64), none, []⟩,
     ⟨some 66, .mv (.t 65), none, []⟩,
     ⟨some 67, .addo (.t 7) 1, some (66, false), []⟩,
     ⟨some 68, .ld (.t 67) 1 false, some (66, false), []⟩,
     ⟨some 69, .addo (.t 8) 1, some (66, false), []⟩,
     ⟨some 70, .ld (.t 69) 1 false, some (66, false), []⟩,
     ⟨some 71, .bin .neq (.t 68) (.t 70), some (66, false), []⟩,
     ⟨some 72, .pick (.t 66) (.c (.bool true)) (.t 71), none, []⟩,
     ⟨some 73, .mv (.t 72), none, []⟩,
     ⟨some 74, .addo (.t 7) 2, some (73, false), []⟩,
     ⟨some 75, .ld (.t 74) 2 true, some (73, false), []⟩,
     ⟨some 76, .addo (.t 8) 2, some (73, false), []⟩,
     ⟨some 77, .ld (.t 76) 2 true, some (73, false), []⟩,
     ⟨some 78, .eqs true true [1, 1] (.t 75) (.t 77), some (73, false), []⟩,
     ⟨some 79, .pick (.t 73) (.c (.bool true)) (.t 78), none, []⟩,
     ⟨some 80, .mv (.t 79), none, []⟩,
     ⟨some 81, .addo (.t 7) 4, some (80, false), []⟩,
     ⟨some 82, .ld (.t 81) 1 false, some (80, false), []⟩,
     ⟨some 83, .len (.t 82), some (80, false), []⟩,
     ⟨some 84, .addo (.t 8) 4, some (80, false), []⟩,
     ⟨some 85, .ld (.t 84) 1 false, some (80, false), []⟩,
     ⟨some 86, .len (.t 85), some (80, false), []⟩,
     ⟨some 87, .bin .neq (.t 83) (.t 86), some (80, false), []⟩,
     ⟨some 88, .pick (.t 80) (.c (.bool true)) (.t 87), none, []⟩])
     (.cond (.t 88)
     (.seq (.reg [
      ⟨some 4, .mv (.c (.bool false)), none, []⟩])
      .ret)
     .skip))
     (.seq (.reg [
     ⟨some 9, .mv (.c (.int .i64 0)), none, []⟩])
     (.block 4 (.loop (.seq (.seq (.reg [
       ⟨some 89, .mv (.t 9), none, []⟩,
       ⟨some 90, .addo (.t 7) 4, none, []⟩,
       ⟨some 91, .ld (.t 90) 1 false, none, []⟩,
       ⟨some 92, .len (.t 91), none, []⟩,
       ⟨some 93, .bin .lss (.t 89) (.t 92), none, []⟩])
       (.cond (.t 93)
       .skip
       (.exit 4)))
       (.seq (.block 5 (.seq (.regd [0, 1, 2, 3, 4, 5, 6, 7, 8, 9, 10] [
        .op ⟨some 96, .addo (.t 7) 4, none, []⟩,
        .op ⟨some 97, .ld (.t 96) 1 false, none, [0]⟩,
        .op ⟨some 98, .mv (.t 9), none, []⟩,
        .op ⟨some 99, .ixs (.t 97) (.t 98) 4, none, [1, 2]⟩,
        .op ⟨some 100, .ld (.t 99) 4 true, none, [3]⟩,
        .op ⟨some 101, .addo (.t 8) 4, none, []⟩,
        .op ⟨some 102, .ld (.t 101) 1 false, none, [5]⟩,
        .op ⟨some 103, .mv (.t 9), none, []⟩,
        .op ⟨some 104, .ixs (.t 102) (.t 103) 4, none, [6, 7]⟩,
        .op ⟨some 105, .ld (.t 104) 4 true, none, [8]⟩,
        .op ⟨some 106, .eqs true true [1, 1, 1, 1] (.t 100) (.t 105), none, [4, 9]⟩] 0 0 [
])
        (.cond (.t 106)
        (.seq (.reg [
         ⟨some 4, .mv (.c (.bool false)), none, []⟩])
         .ret)
        .skip)))
       (.reg [
       ⟨some 94, .mv (.t 9), none, []⟩,
       ⟨some 95, .bin .add (.t 94) (.c (.int .i64 1)), none, []⟩,
       ⟨some 9, .mv (.t 95), none, []⟩])))))))))
    (.reg [
    ⟨some 49, .mv (.t 6), none, []⟩,
    ⟨some 50, .bin .add (.t 49) (.c (.int .i64 1)), none, []⟩,
    ⟨some 6, .mv (.t 50), none, []⟩]))))))
  (.seq (.reg [
  ⟨some 4, .mv (.c (.bool true)), none, []⟩])
  .ret)))))
def r28 : List RV := [.tmp 4]
theorem n28 : Try.f28.ntmps = 107 := by kernel_rfl
theorem b28 : bodyB Try.prog 28 = true := by kernel_rfl
theorem c28_ok : cmpC Try.prog c28 ((Try.f28.body).getD .skip) = true := by kernel_rfl
theorem r28_ok : cmpR Try.prog r28 Try.f28.results.toList = true := by kernel_rfl
theorem t28 {args : List SV} {res : SV} (ka : KFL args) (kr : KF res) (h : sx Try.prog Y0 0 c28 (st0 args 107) (retK r28 res)) (hA : Nat.ble args.length 107 = true := by rfl) : Ct Try.prog 28 args res := ct_intro Try.func28 rfl b28 c28_ok r28_ok n28 (Nat.le_of_ble_eq_true hA) ka kr h
def c63 : SC := (.seq (.reg [
  ⟨some 2, .box (.t 0) 0 25, none, []⟩,
  ⟨some 3, .box (.t 1) 0 29, none, []⟩,
  ⟨some 4, .alloc [.slice none 0 0, .slice none 0 0, .int .i64 0, .int .i64 0] 119, none, []⟩,
  ⟨some 5, .mv (.c (.int .i64 0)), none, []⟩])
  (.seq (.seq (.reg [
  ⟨some 7, .ld (.t 2) 2 true, none, []⟩,
  ⟨some 8, .call 26 [.t 7], none, []⟩,
  ⟨some 6, .mv (.t 8), none, []⟩])
  (.seq (.reg [
  ⟨some 9, .mv (.t 6), none, []⟩,
  ⟨some 10, .bin .neq (.t 9) (.c (.int .i64 0)), none, []⟩])
  (.cond (.t 10)
  (.seq (.reg [
   ⟨some 11, .build [.slice none 0 0, .slice none 0 0, .int .i64 0, .int .i64 0] [], none, []⟩,
   ⟨some 12, .mv (.t 6), none, []⟩,
   ⟨none, .st (.t 4) (.t 11) 4, none, []⟩,
   ⟨some 5, .mv (.t 12), none, []⟩])
   .ret)
  .skip)))
  (.seq (.seq (.reg [
  ⟨some 13, .ld (.t 3) 2 true, none, []⟩,
  ⟨some 14, .bsl 2 29 [.t 13], none, []⟩,
  ⟨some 15, .call 93 [.c (.int .i64 1), .c (.int .i64 100000), .t 14], none, []⟩,
  ⟨some 16, .un .not (.t 15), none, []⟩])
  (.cond (.t 16)
  (.seq (.reg [
   ⟨some 17, .build [.slice none 0 0, .slice none 0 0, .int .i64 0, .int .i64 0] [], none, []⟩,
   ⟨none, .st (.t 4) (.t 17) 4, none, []⟩,
   ⟨some 5, .mv (.c (.int .i64 31)), none, []⟩])
   .ret)
  .skip))
  (.seq (.reg [
  ⟨some 18, .ld (.t 2) 2 true, none, []⟩,
  ⟨some 19, .ld (.t 3) 2 true, none, []⟩,
  ⟨some 20, .build [.slice none 0 0, .slice none 0 0, .int .i64 0, .int .i64 0] [(0, 2, .t 18), (2, 2, .t 19)], none, []⟩,
  ⟨none, .st (.t 4) (.t 20) 4, none, []⟩,
  ⟨some 5, .mv (.c (.int .i64 0)), none, []⟩])
  .ret))))
def r63 : List RV := [.cell 4 4 true, .tmp 5]
theorem n63 : Try.f63.ntmps = 21 := by kernel_rfl
theorem b63 : bodyB Try.prog 63 = true := by kernel_rfl
theorem c63_ok : cmpC Try.prog c63 ((Try.f63.body).getD .skip) = true := by kernel_rfl
theorem r63_ok : cmpR Try.prog r63 Try.f63.results.toList = true := by kernel_rfl
theorem t63 {args : List SV} {res : SV} (ka : KFL args) (kr : KF res) (h : sx Try.prog Y0 0 c63 (st0 args 21) (retK r63 res)) (hA : Nat.ble args.length 21 = true := by rfl) : Ct Try.prog 63 args res := ct_intro Try.func63 rfl b63 c63_ok r63_ok n63 (Nat.le_of_ble_eq_true hA) ka kr h
def c64 : SC := (.seq (.reg [
  ⟨some 2, .box (.t 0) 0 119, none, []⟩,
  ⟨some 4, .alloc [.int .i64 0, .int .i64 0] 123, none, []⟩])
  (.seq (.reg [
  ⟨some 6, .addo (.t 2) 0, none, []⟩,
  ⟨some 7, .addo (.t 6) 1, none, []⟩,
  ⟨some 8, .ld (.t 7) 1 false, none, []⟩,
  ⟨some 9, .mv (.t 1), none, []⟩,
  ⟨some 10, .ixs (.t 8) (.t 9) 5, none, []⟩,
  ⟨some 11, .addo (.t 10) 2, none, []⟩,
  ⟨some 12, .ld (.t 11) 2 true, none, []⟩,
  ⟨some 5, .alloc [.int .i64 0, .int .i64 0] 29, none, []⟩,
  ⟨none, .st (.t 5) (.t 12) 2, none, []⟩])
  (.seq (.regd [0, 1, 2, 3, 4, 5, 6, 7, 8, 9, 10, 11, 12, 13, 14, 15, 16, 17, 18, 19, 20, 21, 22, 23] [
  .op ⟨some 13, .addo (.t 5) 0, none, []⟩,
  .op ⟨some 14, .ld (.t 13) 1 false, none, [0]⟩,
  .op ⟨some 15, .addo (.t 2) 2, none, []⟩,
  .op ⟨some 16, .addo (.t 15) 1, none, [2]⟩,
  .op ⟨some 17, .ld (.t 16) 1 false, none, [3]⟩,
  .op ⟨some 18, .bin .add (.t 14) (.t 17), none, [1, 4]⟩,
  .op ⟨some 19, .bin .sub (.t 18) (.c (.int .i64 1)), none, [5]⟩,
  .op ⟨some 20, .addo (.t 2) 2, none, []⟩,
  .op ⟨some 21, .addo (.t 20) 1, none, [7]⟩,
  .op ⟨some 22, .ld (.t 21) 1 false, none, [8]⟩,
  .op ⟨some 23, .div .quo (.t 19) (.t 22), none, [6, 9]⟩,
  .op ⟨some 24, .addo (.t 5) 1, none, []⟩,
  .op ⟨some 25, .ld (.t 24) 1 false, none, [11]⟩,
  .op ⟨some 26, .addo (.t 2) 2, none, []⟩,
  .op ⟨some 27, .addo (.t 26) 0, none, [13]⟩,
  .op ⟨some 28, .ld (.t 27) 1 false, none, [14]⟩,
  .op ⟨some 29, .bin .add (.t 25) (.t 28), none, [12, 15]⟩,
  .op ⟨some 30, .bin .sub (.t 29) (.c (.int .i64 1)), none, [16]⟩,
  .op ⟨some 31, .addo (.t 2) 2, none, []⟩,
  .op ⟨some 32, .addo (.t 31) 0, none, [18]⟩,
  .op ⟨some 33, .ld (.t 32) 1 false, none, [19]⟩,
  .op ⟨some 34, .div .quo (.t 30) (.t 33), none, [17, 20]⟩,
  .op ⟨some 35, .build [.int .i64 0, .int .i64 0] [(0, 1, .t 23), (1, 1, .t 34)], none, [10, 21]⟩] 0 1 [
  ⟨none, .st (.t 4) (.t 35) 2, none, [0, 1, 2, 3, 4, 5, 6, 7, 8, 9, 10, 11, 12, 13, 14, 15, 16, 17, 18, 19, 20, 21, 22]⟩])
  .ret)))
def r64 : List RV := [.cell 4 2 true]
theorem n64 : Try.f64.ntmps = 36 := by kernel_rfl
theorem b64 : bodyB Try.prog 64 = true := by kernel_rfl
theorem c64_ok : cmpC Try.prog c64 ((Try.f64.body).getD .skip) = true := by kernel_rfl
theorem r64_ok : cmpR Try.prog r64 Try.f64.results.toList = true := by kernel_rfl
theorem t64 {args : List SV} {res : SV} (ka : KFL args) (kr : KF res) (h : sx Try.prog Y0 0 c64 (st0 args 36) (retK r64 res)) (hA : Nat.ble args.length 36 = true := by rfl) : Ct Try.prog 64 args res := ct_intro Try.func64 rfl b64 c64_ok r64_ok n64 (Nat.le_of_ble_eq_true hA) ka kr h
def c65 : SC := (.seq (.reg [
  ⟨some 1, .box (.t 0) 0 123, none, []⟩,
  ⟨some 2, .alloc [.int .i64 0, .int .i64 0] 29, none, []⟩])
  (.seq (.reg [
  ⟨some 3, .ixa (.t 1) (.c (.int .i64 0)) 2 1, none, []⟩,
  ⟨some 4, .ld (.t 3) 1 false, none, []⟩,
  ⟨some 5, .ixa (.t 1) (.c (.int .i64 1)) 2 1, none, []⟩,
  ⟨some 6, .ld (.t 5) 1 false, none, []⟩,
  ⟨some 7, .build [.int .i64 0, .int .i64 0] [(0, 1, .t 4), (1, 1, .t 6)], none, []⟩,
  ⟨none, .st (.t 2) (.t 7) 2, none, []⟩])
  .ret))
def r65 : List RV := [.cell 2 2 true]
theorem n65 : Try.f65.ntmps = 8 := by kernel_rfl
theorem b65 : bodyB Try.prog 65 = true := by kernel_rfl
theorem c65_ok : cmpC Try.prog c65 ((Try.f65.body).getD .skip) = true := by kernel_rfl
theorem r65_ok : cmpR Try.prog r65 Try.f65.results.toList = true := by kernel_rfl
theorem t65 {args : List SV} {res : SV} (ka : KFL args) (kr : KF res) (h : sx Try.prog Y0 0 c65 (st0 args 8) (retK r65 res)) (hA : Nat.ble args.length 8 = true := by rfl) : Ct Try.prog 65 args res := ct_intro Try.func65 rfl b65 c65_ok r65_ok n65 (Nat.le_of_ble_eq_true hA) ka kr h
def c66 : SC := (.seq (.reg [
  ⟨some 2, .box (.t 0) 0 25, none, []⟩,
  ⟨some 3, .box (.t 1) 0 29, none, []⟩,
  ⟨some 4, .mv (.c (.int .i64 0)), none, []⟩])
  (.seq (.seq (.reg [
  ⟨some 5, .ld (.t 2) 2 true, none, []⟩,
  ⟨some 6, .call 60 [.t 5], none, []⟩,
  ⟨some 7, .un .not (.t 6), none, []⟩])
  (.cond (.t 7)
  (.seq (.reg [
   ⟨some 4, .mv (.c (.int .i64 30)), none, []⟩])
   .ret)
  .skip))
  (.seq (.seq (.reg [
  ⟨some 8, .ld (.t 3) 2 true, none, []⟩,
  ⟨some 9, .call 89 [.t 8], none, []⟩,
  ⟨some 10, .un .not (.t 9), none, []⟩])
  (.cond (.t 10)
  (.seq (.reg [
   ⟨some 4, .mv (.c (.int .i64 31)), none, []⟩])
   .ret)
  .skip))
  (.seq (.reg [
  ⟨some 4, .mv (.c (.int .i64 0)), none, []⟩])
  .ret))))
def r66 : List RV := [.tmp 4]
theorem n66 : Try.f66.ntmps = 11 := by kernel_rfl
theorem b66 : bodyB Try.prog 66 = true := by kernel_rfl
theorem c66_ok : cmpC Try.prog c66 ((Try.f66.body).getD .skip) = true := by kernel_rfl
theorem r66_ok : cmpR Try.prog r66 Try.f66.results.toList = true := by kernel_rfl
theorem t66 {args : List SV} {res : SV} (ka : KFL args) (kr : KF res) (h : sx Try.prog Y0 0 c66 (st0 args 11) (retK r66 res)) (hA : Nat.ble args.length 11 = true := by rfl) : Ct Try.prog 66 args res := ct_intro Try.func66 rfl b66 c66_ok r66_ok n66 (Nat.le_of_ble_eq_true hA) ka kr h
def c67 : SC := (.seq (.reg [
  ⟨some 2, .box (.t 0) 0 86, none, []⟩,
  ⟨some 3, .box (.t 1) 0 29, none, []⟩,
  ⟨some 4, .alloc [.int .i64 0, .int .i64 0] 29, none, []⟩])
  (.seq (.regd [0, 1, 2, 3, 4, 5, 6, 7, 8, 9, 10, 11, 12, 13, 14, 15, 16, 17, 18, 19, 20, 21] [
  .op ⟨some 5, .addo (.t 2) 2, none, []⟩,
  .op ⟨some 6, .addo (.t 5) 0, none, [0]⟩,
  .op ⟨some 7, .ld (.t 6) 1 false, none, [1]⟩,
  .op ⟨some 8, .addo (.t 3) 1, none, []⟩,
  .op ⟨some 9, .ld (.t 8) 1 false, none, [3]⟩,
  .op ⟨some 10, .bin .add (.t 7) (.t 9), none, [2, 4]⟩,
  .op ⟨some 11, .bin .sub (.t 10) (.c (.int .i64 1)), none, [5]⟩,
  .op ⟨some 12, .addo (.t 3) 1, none, []⟩,
  .op ⟨some 13, .ld (.t 12) 1 false, none, [7]⟩,
  .op ⟨some 14, .div .quo (.t 11) (.t 13), none, [6, 8]⟩,
  .op ⟨some 15, .addo (.t 2) 2, none, []⟩,
  .op ⟨some 16, .addo (.t 15) 1, none, [10]⟩,
  .op ⟨some 17, .ld (.t 16) 1 false, none, [11]⟩,
  .op ⟨some 18, .addo (.t 3) 0, none, []⟩,
  .op ⟨some 19, .ld (.t 18) 1 false, none, [13]⟩,
  .op ⟨some 20, .bin .add (.t 17) (.t 19), none, [12, 14]⟩,
  .op ⟨some 21, .bin .sub (.t 20) (.c (.int .i64 1)), none, [15]⟩,
  .op ⟨some 22, .addo (.t 3) 0, none, []⟩,
  .op ⟨some 23, .ld (.t 22) 1 false, none, [17]⟩,
  .op ⟨some 24, .div .quo (.t 21) (.t 23), none, [16, 18]⟩,
  .op ⟨some 25, .build [.int .i64 0, .int .i64 0] [(0, 1, .t 14), (1, 1, .t 24)], none, [9, 19]⟩] 0 1 [
  ⟨none, .st (.t 4) (.t 25) 2, none, [0, 1, 2, 3, 4, 5, 6, 7, 8, 9, 10, 11, 12, 13, 14, 15, 16, 17, 18, 19, 20]⟩])
  .ret))
def r67 : List RV := [.cell 4 2 true]
theorem n67 : Try.f67.ntmps = 26 := by kernel_rfl
theorem b67 : bodyB Try.prog 67 = true := by kernel_rfl
theorem c67_ok : cmpC Try.prog c67 ((Try.f67.body).getD .skip) = true := by kernel_rfl
theorem r67_ok : cmpR Try.prog r67 Try.f67.results.toList = true := by kernel_rfl
theorem t67 {args : List SV} {res : SV} (ka : KFL args) (kr : KF res) (h : sx Try.prog Y0 0 c67 (st0 args 26) (retK r67 res)) (hA : Nat.ble args.length 26 = true := by rfl) : Ct Try.prog 67 args res := ct_intro Try.func67 rfl b67 c67_ok r67_ok n67 (Nat.le_of_ble_eq_true hA) ka kr h
def c68 : SC := (.seq (.reg [
  ⟨some 3, .box (.t 0) 0 119, none, []⟩,
  ⟨some 5, .box (.t 2) 0 123, none, []⟩,
  ⟨some 6, .alloc [.int .i64 0, .int .i64 0] 123, none, []⟩])
  (.seq (.reg [
  ⟨some 15, .ld (.t 3) 4 true, none, []⟩,
  ⟨some 16, .mv (.t 1), none, []⟩,
  ⟨some 17, .call 64 [.t 15, .t 16], none, []⟩,
  ⟨some 7, .alloc [.int .i64 0, .int .i64 0] 123, none, []⟩,
  ⟨none, .st (.t 7) (.t 17) 2, none, []⟩])
  (.seq (.reg [
  ⟨some 18, .build [.int .i64 0, .int .i64 0] [(0, 1, .c (.int .i64 100001)), (1, 1, .c (.int .i64 100001))], none, []⟩,
  ⟨some 8, .alloc [.int .i64 0, .int .i64 0] 123, none, []⟩,
  ⟨none, .st (.t 8) (.t 18) 2, none, []⟩])
  (.seq (.seq (.reg [
  ⟨some 19, .addo (.t 3) 0, none, []⟩,
  ⟨some 20, .addo (.t 19) 1, none, []⟩,
  ⟨some 21, .ld (.t 20) 1 false, none, []⟩,
  ⟨some 22, .mv (.t 1), none, []⟩,
  ⟨some 23, .ixs (.t 21) (.t 22) 5, none, []⟩,
  ⟨some 24, .addo (.t 23) 4, none, []⟩,
  ⟨some 25, .ld (.t 24) 1 false, none, []⟩,
  ⟨some 26, .len (.t 25), none, []⟩,
  ⟨some 27, .mv (.c (.int .i64 0)), none, []⟩])
  (.block 0 (.loop (.seq (.reg [
    ⟨some 28, .bin .lss (.t 27) (.t 26), none, []⟩])
    (.seq (.cond (.t 28)
    .skip
    (.exit 0))
    (.seq (.block 1 (.seq (.reg [
     ⟨some 29, .ixs (.t 25) (.t 27) 4, none, []⟩,
     ⟨some 30, .ld (.t 29) 4 true, none, []⟩,
     ⟨some 10, .alloc [.int .i64 0, .int .i64 0, .int .i64 0, .int .i64 0] 95, none, []⟩,
     ⟨none, .st (.t 10) (.t 30) 4, none, []⟩])
     (.seq (.regd [0, 1, 2, 3, 4, 5, 6, 7, 8, 9, 10, 11, 12, 13, 14, 15, 16, 17] [
     .op ⟨some 31, .addo (.t 10) 0, none, []⟩,
     .op ⟨some 32, .addo (.t 31) 0, none, [0]⟩,
     .op ⟨some 33, .ld (.t 32) 1 false, none, [1]⟩,
     .op ⟨some 34, .addo (.t 10) 0, none, []⟩,
     .op ⟨some 35, .addo (.t 34) 1, none, [3]⟩,
     .op ⟨some 36, .ld (.t 35) 1 false, none, [4]⟩,
     .op ⟨some 37, .build [.int .i64 0, .int .i64 0] [(0, 1, .t 33), (1, 1, .t 36)], none, [2, 5]⟩,
     .op ⟨some 38, .addo (.t 10) 2, none, []⟩,
     .op ⟨some 39, .addo (.t 38) 1, none, [7]⟩,
     .op ⟨some 40, .ld (.t 39) 1 false, none, [8]⟩,
     .op ⟨some 41, .addo (.t 10) 2, none, []⟩,
     .op ⟨some 42, .addo (.t 41) 0, none, [10]⟩,
     .op ⟨some 43, .ld (.t 42) 1 false, none, [11]⟩,
     .op ⟨some 44, .build [.int .i64 0, .int .i64 0] [(0, 1, .t 40), (1, 1, .t 43)], none, [9, 12]⟩] 2 2 [
     ⟨some 11, .alloc [.int .i64 0, .int .i64 0] 123, none, []⟩,
     ⟨some 12, .alloc [.int .i64 0, .int .i64 0] 123, none, []⟩,
     ⟨none, .st (.t 11) (.t 37) 2, none, [0, 1, 2, 3, 4, 5, 6, 14, 15]⟩,
     ⟨none, .st (.t 12) (.t 44) 2, none, [0, 1, 2, 3, 4, 5, 6, 7, 8, 9, 10, 11, 12, 13, 14, 15, 16]⟩])
     (.seq (.reg [
     ⟨some 45, .mv (.c (.int .i64 0)), none, []⟩])
     (.block 2 (.loop (.seq (.reg [
       ⟨some 46, .bin .lss (.t 45) (.c (.int .i64 2)), none, []⟩])
       (.seq (.cond (.t 46)
       .skip
       (.exit 2))
       (.seq (.block 3 (.seq (.reg [
        ⟨some 47, .mv (.t 45), none, []⟩,
        ⟨some 13, .mv (.t 47), none, []⟩])
        (.seq (.regd [0, 1, 2, 3, 4, 5, 6, 7] [
        .op ⟨some 48, .mv (.t 13), none, []⟩,
        .op ⟨some 49, .ixa (.t 5) (.t 48) 2 1, none, [0]⟩,
        .op ⟨some 50, .ld (.t 49) 1 false, none, [1]⟩,
        .op ⟨some 51, .mv (.t 13), none, []⟩,
        .op ⟨some 52, .ixa (.t 11) (.t 51) 2 1, none, [3]⟩,
        .op ⟨some 53, .ld (.t 52) 1 false, none, [4]⟩,
        .op ⟨some 54, .mm true [.t 50, .t 53], none, [2, 5]⟩,
        .op ⟨some 14, .mv (.t 54), none, [0, 1, 2, 3, 4, 5, 6]⟩] 0 0 [
])
        (.seq (.regd [0, 1, 2, 3, 4, 5, 6, 7, 8, 9] [
        .op ⟨some 55, .mv (.t 14), none, []⟩,
        .op ⟨some 56, .mv (.t 13), none, []⟩,
        .op ⟨some 57, .ixa (.t 7) (.t 56) 2 1, none, [1]⟩,
        .op ⟨some 58, .ld (.t 57) 1 false, none, [2]⟩,
        .op ⟨some 59, .bin .add (.t 55) (.t 58), none, [0, 3]⟩,
        .op ⟨some 60, .bin .sub (.t 59) (.c (.int .i64 1)), none, [4]⟩,
        .op ⟨some 61, .mv (.t 13), none, []⟩,
        .op ⟨some 62, .ixa (.t 12) (.t 61) 2 1, none, [6]⟩,
        .op ⟨some 63, .ld (.t 62) 1 false, none, [7]⟩,
        .op ⟨some 64, .bin .leq (.t 60) (.t 63), none, [5, 8]⟩] 0 0 [
])
        (.cond (.t 64)
        (.reg [
         ⟨some 65, .mv (.t 13), none, []⟩,
         ⟨some 66, .mv (.t 13), none, []⟩,
         ⟨some 67, .ixa (.t 8) (.t 66) 2 1, none, []⟩,
         ⟨some 68, .ld (.t 67) 1 false, none, []⟩,
         ⟨some 69, .mv (.t 14), none, []⟩,
         ⟨some 70, .bsl 1 3 [.t 68, .t 69], none, []⟩,
         ⟨some 71, .call 94 [.t 70], none, []⟩,
         ⟨some 72, .ixa (.t 8) (.t 65) 2 1, none, []⟩,
         ⟨none, .st (.t 72) (.t 71) 1, none, []⟩])
        .skip)))))
       (.reg [
       ⟨some 73, .bin .add (.t 45) (.c (.int .i64 1)), none, []⟩,
       ⟨some 45, .mv (.t 73), none, []⟩]))))))))))
    (.reg [
    ⟨some 74, .bin .add (.t 27) (.c (.int .i64 1)), none, []⟩,
    ⟨some 27, .mv (.t 74), none, []⟩])))))))
  (.seq (.reg [
  ⟨some 75, .ld (.t 8) 2 true, none, []⟩,
  ⟨none, .st (.t 6) (.t 75) 2, none, []⟩])
  .ret)))))
def r68 : List RV := [.cell 6 2 true]
theorem n68 : Try.f68.ntmps = 76 := by kernel_rfl
theorem b68 : bodyB Try.prog 68 = true := by kernel_rfl
theorem c68_ok : cmpC Try.prog c68 ((Try.f68.body).getD .skip) = true := by kernel_rfl
theorem r68_ok : cmpR Try.prog r68 Try.f68.results.toList = true := by kernel_rfl
theorem t68 {args : List SV} {res : SV} (ka : KFL args) (kr : KF res) (h : sx Try.prog Y0 0 c68 (st0 args 76) (retK r68 res)) (hA : Nat.ble args.length 76 = true := by rfl) : Ct Try.prog 68 args res := ct_intro Try.func68 rfl b68 c68_ok r68_ok n68 (Nat.le_of_ble_eq_true hA) ka kr h
def c69 : SC := (.seq (.reg [
  ⟨some 3, .box (.t 0) 0 86, none, []⟩,
  ⟨some 5, .box (.t 2) 0 29, none, []⟩,
  ⟨some 6, .mv (.c (.int .i64 0)), none, []⟩])
  (.seq (.seq (.reg [
  ⟨some 7, .mv (.c (.int .i64 0)), none, []⟩])
  (.block 0 (.loop (.seq (.seq (.reg [
    ⟨some 9, .mv (.t 7), none, []⟩,
    ⟨some 10, .addo (.t 3) 4, none, []⟩,
    ⟨some 11, .ld (.t 10) 1 false, none, []⟩,
    ⟨some 12, .len (.t 11), none, []⟩,
    ⟨some 13, .bin .lss (.t 9) (.t 12), none, []⟩])
    (.cond (.t 13)
    .skip
    (.exit 0)))
    (.seq (.block 1 (.seq (.reg [
     ⟨some 16, .mv (.t 1), none, []⟩,
     ⟨some 17, .addo (.t 3) 4, none, []⟩,
     ⟨some 18, .ld (.t 17) 1 false, none, []⟩,
     ⟨some 19, .mv (.t 7), none, []⟩,
     ⟨some 20, .ixs (.t 18) (.t 19) 4, none, []⟩,
     ⟨some 21, .addo (.t 20) 0, none, []⟩,
     ⟨some 22, .addo (.t 21) 0, none, []⟩,
     ⟨some 23, .ld (.t 22) 1 false, none, []⟩,
     ⟨some 24, .mm true [.t 16, .t 23], none, []⟩,
     ⟨some 8, .mv (.t 24), none, []⟩])
     (.seq (.regd [0, 1, 2, 3, 4, 5, 6, 7, 8, 9, 10, 11, 12, 13, 14] [
     .op ⟨some 25, .mv (.t 8), none, []⟩,
     .op ⟨some 26, .ld (.t 3) 5 true, none, []⟩,
     .op ⟨some 27, .ld (.t 5) 2 true, none, []⟩,
     .op ⟨some 28, .call 67 [.t 26, .t 27], none, [1, 2]⟩,
     .op ⟨some 29, .fld (.t 28) 0 1 false, none, [3]⟩,
     .op ⟨some 30, .bin .add (.t 25) (.t 29), none, [0, 4]⟩,
     .op ⟨some 31, .bin .sub (.t 30) (.c (.int .i64 1)), none, [5]⟩,
     .op ⟨some 32, .addo (.t 3) 4, none, []⟩,
     .op ⟨some 33, .ld (.t 32) 1 false, none, [7]⟩,
     .op ⟨some 34, .mv (.t 7), none, []⟩,
     .op ⟨some 35, .ixs (.t 33) (.t 34) 4, none, [8, 9]⟩,
     .op ⟨some 36, .addo (.t 35) 2, none, [10]⟩,
     .op ⟨some 37, .addo (.t 36) 1, none, [11]⟩,
     .op ⟨some 38, .ld (.t 37) 1 false, none, [12]⟩,
     .op ⟨some 39, .bin .leq (.t 31) (.t 38), none, [6, 13]⟩] 0 0 [
])
     (.cond (.t 39)
     (.seq (.reg [
      ⟨some 40, .mv (.t 8), none, []⟩,
      ⟨some 6, .mv (.t 40), none, []⟩])
      .ret)
     .skip))))
    (.reg [
    ⟨some 14, .mv (.t 7), none, []⟩,
    ⟨some 15, .bin .add (.t 14) (.c (.int .i64 1)), none, []⟩,
    ⟨some 7, .mv (.t 15), none, []⟩]))))))
  (.seq (.reg [
  ⟨some 6, .mv (.c (.int .i64 100001)), none, []⟩])
  .ret)))
def r69 : List RV := [.tmp 6]
theorem n69 : Try.f69.ntmps = 41 := by kernel_rfl
theorem b69 : bodyB Try.prog 69 = true := by kernel_rfl
theorem c69_ok : cmpC Try.prog c69 ((Try.f69.body).getD .skip) = true := by kernel_rfl
theorem r69_ok : cmpR Try.prog r69 Try.f69.results.toList = true := by kernel_rfl
theorem t69 {args : List SV} {res : SV} (ka : KFL args) (kr : KF res) (h : sx Try.prog Y0 0 c69 (st0 args 41) (retK r69 res)) (hA : Nat.ble args.length 41 = true := by rfl) : Ct Try.prog 69 args res := ct_intro Try.func69 rfl b69 c69_ok r69_ok n69 (Nat.le_of_ble_eq_true hA) ka kr h
def c70 : SC := (.seq (.reg [
  ⟨some 3, .box (.t 0) 0 86, none, []⟩,
  ⟨some 5, .box (.t 2) 0 29, none, []⟩,
  ⟨some 6, .mv (.c (.int .i64 0)), none, []⟩])
  (.seq (.seq (.reg [
  ⟨some 7, .mv (.c (.int .i64 0)), none, []⟩])
  (.block 0 (.loop (.seq (.seq (.reg [
    ⟨some 9, .mv (.t 7), none, []⟩,
    ⟨some 10, .addo (.t 3) 4, none, []⟩,
    ⟨some 11, .ld (.t 10) 1 false, none, []⟩,
    ⟨some 12, .len (.t 11), none, []⟩,
    ⟨some 13, .bin .lss (.t 9) (.t 12), none, []⟩])
    (.cond (.t 13)
    .skip
    (.exit 0)))
    (.seq (.block 1 (.seq (.reg [
     ⟨some 16, .mv (.t 1), none, []⟩,
     ⟨some 17, .addo (.t 3) 4, none, []⟩,
     ⟨some 18, .ld (.t 17) 1 false, none, []⟩,
     ⟨some 19, .mv (.t 7), none, []⟩,
     ⟨some 20, .ixs (.t 18) (.t 19) 4, none, []⟩,
     ⟨some 21, .addo (.t 20) 0, none, []⟩,
     ⟨some 22, .addo (.t 21) 1, none, []⟩,
     ⟨some 23, .ld (.t 22) 1 false, none, []⟩,
     ⟨some 24, .mm true [.t 16, .t 23], none, []⟩,
     ⟨some 8, .mv (.t 24), none, []⟩])
     (.seq (.regd [0, 1, 2, 3, 4, 5, 6, 7, 8, 9, 10, 11, 12, 13, 14] [
     .op ⟨some 25, .mv (.t 8), none, []⟩,
     .op ⟨some 26, .ld (.t 3) 5 true, none, []⟩,
     .op ⟨some 27, .ld (.t 5) 2 true, none, []⟩,
     .op ⟨some 28, .call 67 [.t 26, .t 27], none, [1, 2]⟩,
     .op ⟨some 29, .fld (.t 28) 1 1 false, none, [3]⟩,
     .op ⟨some 30, .bin .add (.t 25) (.t 29), none, [0, 4]⟩,
     .op ⟨some 31, .bin .sub (.t 30) (.c (.int .i64 1)), none, [5]⟩,
     .op ⟨some 32, .addo (.t 3) 4, none, []⟩,
     .op ⟨some 33, .ld (.t 32) 1 false, none, [7]⟩,
     .op ⟨some 34, .mv (.t 7), none, []⟩,
     .op ⟨some 35, .ixs (.t 33) (.t 34) 4, none, [8, 9]⟩,
     .op ⟨some 36, .addo (.t 35) 2, none, [10]⟩,
     .op ⟨some 37, .addo (.t 36) 0, none, [11]⟩,
     .op ⟨some 38, .ld (.t 37) 1 false, none, [12]⟩,
     .op ⟨some 39, .bin .leq (.t 31) (.t 38), none, [6, 13]⟩] 0 0 [
])
     (.cond (.t 39)
     (.seq (.reg [
      ⟨some 40, .mv (.t 8), none, []⟩,
      ⟨some 6, .mv (.t 40), none, []⟩])
      .ret)
     .skip))))
    (.reg [
    ⟨some 14, .mv (.t 7), none, []⟩,
    ⟨some 15, .bin .add (.t 14) (.c (.int .i64 1)), none, []⟩,
    ⟨some 7, .mv (.t 15), none, []⟩]))))))
  (.seq (.reg [
  ⟨some 6, .mv (.c (.int .i64 100001)), none, []⟩])
  .ret)))
def r70 : List RV := [.tmp 6]
theorem n70 : Try.f70.ntmps = 41 := by kernel_rfl
theorem b70 : bodyB Try.prog 70 = true := by kernel_rfl
theorem c70_ok : cmpC Try.prog c70 ((Try.f70.body).getD .skip) = true := by kernel_rfl
theorem r70_ok : cmpR Try.prog r70 Try.f70.results.toList = true := by kernel_rfl
theorem t70 {args : List SV} {res : SV} (ka : KFL args) (kr : KF res) (h : sx Try.prog Y0 0 c70 (st0 args 41) (retK r70 res)) (hA : Nat.ble args.length 41 = true := by rfl) : Ct Try.prog 70 args res := ct_intro Try.func70 rfl b70 c70_ok r70_ok n70 (Nat.le_of_ble_eq_true hA) ka kr h
def c89 : SC := (.seq (.reg [
  ⟨some 1, .box (.t 0) 0 29, none, []⟩,
  ⟨some 2, .mv (.c (.bool false)), none, []⟩])
  (.seq (.reg [
  ⟨some 3, .ld (.t 1) 2 true, none, []⟩,
  ⟨some 4, .call 92 [.t 3, .c (.int .i64 1), .c (.int .i64 100000)], none, []⟩,
  ⟨some 2, .mv (.t 4), none, []⟩])
  .ret))
def r89 : List RV := [.tmp 2]
theorem n89 : Try.f89.ntmps = 5 := by kernel_rfl
theorem b89 : bodyB Try.prog 89 = true := by kernel_rfl
theorem c89_ok : cmpC Try.prog c89 ((Try.f89.body).getD .skip) = true := by kernel_rfl
theorem r89_ok : cmpR Try.prog r89 Try.f89.results.toList = true := by kernel_rfl
theorem t89 {args : List SV} {res : SV} (ka : KFL args) (kr : KF res) (h : sx Try.prog Y0 0 c89 (st0 args 5) (retK r89 res)) (hA : Nat.ble args.length 5 = true := by rfl) : Ct Try.prog 89 args res := ct_intro Try.func89 rfl b89 c89_ok r89_ok n89 (Nat.le_of_ble_eq_true hA) ka kr h
def c94 : SC := (.seq (.reg [
  ⟨some 2, .mv (.c (.int .i64 0)), none, []⟩])
  (.seq (.reg [
  ⟨some 3, .mv (.t 0), none, []⟩,
  ⟨some 4, .bsl 1 3 [.c (.int .i64 100001)], none, []⟩,
  ⟨some 5, .app 1 8 3 (.t 3) (.t 4), none, []⟩,
  ⟨some 6, .call 104 [.t 5], none, []⟩,
  ⟨some 2, .mv (.t 6), none, []⟩])
  .ret))
def r94 : List RV := [.tmp 2]
theorem n94 : Try.f94.ntmps = 7 := by kernel_rfl
theorem b94 : bodyB Try.prog 94 = true := by kernel_rfl
theorem c94_ok : cmpC Try.prog c94 ((Try.f94.body).getD .skip) = true := by kernel_rfl
theorem r94_ok : cmpR Try.prog r94 Try.f94.results.toList = true := by kernel_rfl
theorem t94 {args : List SV} {res : SV} (ka : KFL args) (kr : KF res) (h : sx Try.prog Y0 0 c94 (st0 args 7) (retK r94 res)) (hA : Nat.ble args.length 7 = true := by rfl) : Ct Try.prog 94 args res := ct_intro Try.func94 rfl b94 c94_ok r94_ok n94 (Nat.le_of_ble_eq_true hA) ka kr h
def c104 : SC := (.seq (.reg [
  ⟨some 2, .mv (.c (.int .i64 0)), none, []⟩])
  (.seq (.seq (.reg [
  ⟨some 5, .mv (.t 0), none, []⟩,
  ⟨some 6, .len (.t 5), none, []⟩,
  ⟨some 7, .bin .lss (.t 6) (.c (.int .i64 1)), none, []⟩])
  (.cond (.t 7)
  (.reg [
   ⟨some 8, .raw (Go.Op.makeInterface 9 (Go.Operand.const (Go.Value.string { data := #[115, 108, 105, 99, 101, 115, 46, 77, 105, 110, 58, 32, 101, 109, 112, 116, 121, 32, 108, 105, 115, 116] }))) 20, none, []⟩,
   ⟨none, .raw (Go.Op.panic (Go.Operand.tmp 8)) 0, none, []⟩])
  .skip))
  (.seq (.reg [
  ⟨some 9, .mv (.t 0), none, []⟩,
  ⟨some 10, .ixs (.t 9) (.c (.int .i64 0)) 1, none, []⟩,
  ⟨some 11, .ld (.t 10) 1 false, none, []⟩,
  ⟨some 3, .mv (.t 11), none, []⟩])
  (.seq (.seq (.reg [
  ⟨some 4, .mv (.c (.int .i64 1)), none, []⟩])
  (.block 0 (.loop (.seq (.seq (.reg [
    ⟨some 12, .mv (.t 4), none, []⟩,
    ⟨some 13, .mv (.t 0), none, []⟩,
    ⟨some 14, .len (.t 13), none, []⟩,
    ⟨some 15, .bin .lss (.t 12) (.t 14), none, []⟩])
    (.cond (.t 15)
    .skip
    (.exit 0)))
    (.seq (.block 1 (.reg [
     ⟨some 18, .mv (.t 3), none, []⟩,
     ⟨some 19, .mv (.t 0), none, []⟩,
     ⟨some 20, .mv (.t 4), none, []⟩,
     ⟨some 21, .ixs (.t 19) (.t 20) 1, none, []⟩,
     ⟨some 22, .ld (.t 21) 1 false, none, []⟩,
     ⟨some 23, .mm false [.t 18, .t 22], none, []⟩,
     ⟨some 3, .mv (.t 23), none, []⟩]))
    (.reg [
    ⟨some 16, .mv (.t 4), none, []⟩,
    ⟨some 17, .bin .add (.t 16) (.c (.int .i64 1)), none, []⟩,
    ⟨some 4, .mv (.t 17), none, []⟩]))))))
  (.seq (.reg [
  ⟨some 24, .mv (.t 3), none, []⟩,
  ⟨some 2, .mv (.t 24), none, []⟩])
  .ret)))))
def r104 : List RV := [.tmp 2]
theorem n104 : Try.f104.ntmps = 25 := by kernel_rfl
theorem b104 : bodyB Try.prog 104 = true := by kernel_rfl
theorem c104_ok : cmpC Try.prog c104 ((Try.f104.body).getD .skip) = true := by kernel_rfl
theorem r104_ok : cmpR Try.prog r104 Try.f104.results.toList = true := by kernel_rfl
theorem t104 {args : List SV} {res : SV} (ka : KFL args) (kr : KF res) (h : sx Try.prog Y0 0 c104 (st0 args 25) (retK r104 res)) (hA : Nat.ble args.length 25 = true := by rfl) : Ct Try.prog 104 args res := ct_intro Try.func104 rfl b104 c104_ok r104_ok n104 (Nat.le_of_ble_eq_true hA) ka kr h
end Go.Proofs.Ytkjldleglbbkeaa
namespace Go.Azalai
structure Span where
  lo : Int
  hi : Int
deriving DecidableEq
structure Well where
  x : Int
  y : Int
  depth : Int
  yld : Span
  room : Int
  has : Span
  owner : Int
deriving DecidableEq
structure Gate where
  opens : Span
  shuts : Span
deriving DecidableEq
structure Leg where
  a : Int
  b : Int
  long : Span
  gates : List Gate
deriving DecidableEq
structure Land where
  wells : List Well
  legs : List Leg
deriving DecidableEq
structure Draw where
  well : Int
  day : Int
  water : Int
deriving DecidableEq
def inR (lo hi n : Int) : Bool := decide (lo ≤ n ∧ n ≤ hi)
def okSp (lo hi : Int) (s : Span) : Bool := decide (lo ≤ s.lo ∧ s.lo ≤ s.hi ∧ s.hi ≤ hi)
def okWell (w : Well) : Bool :=
  inR (-10000000) 10000000 w.x && inR (-10000000) 10000000 w.y && inR 0 200 w.depth && okSp 0 10000000 w.yld && inR 0 1000000000 w.room && okSp 0 w.room w.has && inR 0 9999 w.owner
def okGates (next : Int) : List Gate → Bool
  | [] => true
  | g :: r => okSp 0 100000 g.opens && okSp 0 100000 g.shuts && inR next g.shuts.hi g.opens.lo && okGates (g.shuts.hi + 1) r
def okLeg (n : Int) (x : Leg) : Bool :=
  inR 0 (n - 1) x.a && inR 0 (n - 1) x.b && x.a != x.b && okSp 1 1000000 x.long && decide (x.gates.length ≤ 6) && okGates 0 x.gates
def okLand (l : Land) : Bool :=
  inR 1 12 l.wells.length && decide (l.legs.length ≤ 24) && l.wells.all okWell && l.legs.all (okLeg l.wells.length)
def idxF {α : Type} (g : α → Bool) : List α → Nat → Int
  | [], _ => -1
  | x :: l, k => if g x then k else idxF g l (k + 1)
theorem idxF_ge {α : Type} (g : α → Bool) : ∀ (l : List α) (k : Nat), decide (idxF g l k ≥ 0) = l.any g
  | [], k => by simp [idxF]
  | x :: l, k => by
    simp only [idxF, List.any_cons]
    by_cases hg : g x = true
    · simp [hg]
    · simpa [hg] using idxF_ge g l (k + 1)
def filled (w : Well) (has : Span) (days : Int) : Span := ⟨min w.room (has.lo + days * w.yld.lo), min w.room (has.hi + days * w.yld.hi)⟩
def okDraws (n last : Int) : List Draw → Bool
  | [] => true
  | x :: r => inR 0 (n - 1) x.well && inR last 100000 x.day && inR 0 1000000000 x.water && okDraws n x.day r
def waterL (w : Well) (well day : Int) (now : Span) (evening : Int) (i : Nat) : List Draw → Span × Int × Int
  | [] => (filled w now (day - 1 - evening), 0, 0)
  | x :: r =>
    if (x.well != well || decide (x.day ≥ day)) = true then waterL w well day now evening (i + 1) r
    else
      let f := filled w now (x.day - evening)
      if f.hi < x.water then (⟨0, 0⟩, i, 33) else waterL w well day ⟨max 0 (f.lo - x.water), f.hi - x.water⟩ x.day (i + 1) r
def waterF (l : Land) (well : Int) (draws : List Draw) (day : Int) : Span × Int × Int :=
  if okLand l = false then (⟨0, 0⟩, 0, 30)
  else if (inR 0 (l.wells.length - 1) well && inR 0 100000 day) = false then (⟨0, 0⟩, 0, 2)
  else if draws.length > 200 then (⟨0, 0⟩, 0, 4)
  else if okDraws l.wells.length 0 draws = false then (⟨0, 0⟩, 0, 32)
  else match l.wells[well.toNat]? with
    | some w => waterL w well day w.has (-1) 0 draws
    | none => (⟨0, 0⟩, 0, 0)
def workF (l : Land) (well water teams : Int) : Int × Int :=
  if okLand l = false then (0, 30)
  else if (inR 0 (l.wells.length - 1) well && inR 0 1000000000 water && inR 1 100 teams) = false then (0, 2)
  else match l.wells[well.toNat]? with
    | some w => ((water * w.depth + 1000000 * teams - 1).tdiv (1000000 * teams), 0)
    | none => (0, 0)
/-- a land with few parts -/
def Small (l : Land) : Prop := l.wells.length ≤ 1000 ∧ l.legs.length ≤ 1000 ∧ ∀ x ∈ l.legs, x.gates.length ≤ 1000
def greatF (l : Land) : Bool := decide (l.wells.length > 20) || decide (l.legs.length > 40) || l.legs.any fun x => decide (x.gates.length > 20)
theorem okLand_len {l : Land} (h : okLand l = true) : 1 ≤ l.wells.length ∧ l.wells.length ≤ 12 ∧ l.legs.length ≤ 24 := by
  simp only [okLand, Bool.and_eq_true, inR, decide_eq_true_eq] at h; omega
end Go.Azalai
set_option maxRecDepth 100000
set_option maxHeartbeats 4000000
namespace Go.Proofs.Ytkjldleglbbkeaa
open Go Go.Sx Go.Azalai
def intL (n : Int) : List SV := [I n]
def spanL (s : Span) : List SV := [I s.lo, I s.hi]
def gateL (g : Gate) : List SV := [I g.opens.lo, I g.opens.hi, I g.shuts.lo, I g.shuts.hi]
def wellL (w : Well) : List SV := [I w.x, I w.y, I w.depth, I w.yld.lo, I w.yld.hi, I w.room, I w.has.lo, I w.has.hi, I w.owner]
def legL (x : Leg) : List SV := [I x.a, I x.b, I x.long.lo, I x.long.hi, .sl false 4 (x.gates.map gateL)]
def landL (l : Land) : List SV := [.sl false 9 (l.wells.map wellL), .sl false 5 (l.legs.map legL)]
def drawL (d : Draw) : List SV := [I d.well, I d.day, I d.water]
theorem idxF_any {α : Type} (g : α → Bool) (l : List α) : decide (idxF g l 0 ≥ 0) = l.any g := idxF_ge g l 0

theorem idx101 (h : Nat) (caps : List SV) (hk : KFL caps) (g : Int → Bool) (l : List Int) (hg : ∀ x ∈ l, Ct Try.prog h (I x :: caps) (B (g x))) (hl : l.length < 4611686018427387904) {c : Bool} :
    Ct Try.prog 101 [.sl c 1 (l.map intL), .cl h caps] (I (idxF g l 0)) := by
  refine t101 ⟨by simp [KF, KFR_iff, KFL, intL], hk, trivial⟩ (by simp [KF]) ?_
  dsimp only [c101, r101, go_sem, Nat.reduceAdd, Nat.reduceMul, Nat.reduceSub]
  refine loopO (fun k : Nat => [(8, I k)]) (fun _ => []) (fun k => k ≤ l.length ∧ idxF g (l.drop k) k = idxF g l 0) (fun k => l.length - k) 0 ⟨Nat.zero_le _, rfl⟩ ?_ ?_
  · (refine ent_id ?_ ?_ ?_ rfl rfl <;> dsimp only [intL, hk, id, go_sem, Nat.reduceAdd, Nat.reduceMul, Nat.reduceSub] <;> simp [intL, hk, KFR_iff, KFR_app, KFR, KFL, KF, mtL_same, mtO, Nat.beq_refl])
  · intro k ⟨hk', hi⟩
    dsimp only [go_sem, Nat.reduceAdd, Nat.reduceMul, Nat.reduceSub]
    refine br ?_ ?_
    · intro hlt
      have hlt : k < l.length := by simpa using hlt
      dsimp only [go_sem, Nat.reduceAdd, Nat.reduceMul, Nat.reduceSub]
      refine ixs_map k hlt rfl ?_
      dsimp only [intL, go_sem, Nat.reduceAdd, Nat.reduceMul, Nat.reduceSub]
      refine call (hg l[k] (List.getElem_mem _)) ?_
      dsimp only [go_sem, Nat.reduceAdd, Nat.reduceMul, Nat.reduceSub]
      refine br ?_ ?_
      · intro hgx
        dsimp only [go_sem, Nat.reduceAdd, Nat.reduceMul, Nat.reduceSub]
        rw [← hi, List.drop_eq_getElem_cons hlt]
        simp [idxF, hgx]
      · intro hgx
        dsimp only [go_sem, Nat.reduceAdd, Nat.reduceMul, Nat.reduceSub]
        refine ⟨k + 1, ⟨by omega, ?_⟩, by omega, ?_⟩
        · rw [← hi, List.drop_eq_getElem_cons hlt]; simp [idxF, hgx]
        · rw [w64_in (by omega) (by omega)]
          (refine ent_id ?_ ?_ ?_ rfl rfl <;> dsimp only [intL, hk, id, go_sem, Nat.reduceAdd, Nat.reduceMul, Nat.reduceSub] <;> simp [intL, hk, KFR_iff, KFR_app, KFR, KFL, KF, mtL_same, mtO, Nat.beq_refl])
    · intro hlt
      have hlt : k = l.length := by simp at hlt; omega
      dsimp only [go_sem, Nat.reduceAdd, Nat.reduceMul, Nat.reduceSub]
      rw [← hi, hlt]; simp [idxF]

theorem con90 (h : Nat) (caps : List SV) (hk : KFL caps) (g : Int → Bool) (l : List Int) (hg : ∀ x ∈ l, Ct Try.prog h (I x :: caps) (B (g x))) (hl : l.length < 4611686018427387904) {c : Bool} :
    Ct Try.prog 90 [.sl c 1 (l.map intL), .cl h caps] (B (l.any g)) := by
  refine t90 ⟨by simp [KF, KFR_iff, KFL, intL], hk, trivial⟩ (by simp [KF]) ?_
  dsimp only [c90, r90, go_sem, Nat.reduceAdd, Nat.reduceMul, Nat.reduceSub]
  refine call (idx101 h caps hk g l hg hl) ?_
  dsimp only [go_sem, Nat.reduceAdd, Nat.reduceMul, Nat.reduceSub]
  rw [idxF_any]

theorem idx95 (h : Nat) (caps : List SV) (hk : KFL caps) (g : Well → Bool) (l : List Well) (hg : ∀ x ∈ l, Ct Try.prog h (.agg (wellL x) :: caps) (B (g x))) (hl : l.length < 4611686018427387904) {c : Bool} :
    Ct Try.prog 95 [.sl c 9 (l.map wellL), .cl h caps] (I (idxF g l 0)) := by
  refine t95 ⟨by simp [KF, KFR_iff, KFL, wellL], hk, trivial⟩ (by simp [KF]) ?_
  dsimp only [c95, r95, go_sem, Nat.reduceAdd, Nat.reduceMul, Nat.reduceSub]
  refine loopO (fun k : Nat => [(8, I k)]) (fun _ => []) (fun k => k ≤ l.length ∧ idxF g (l.drop k) k = idxF g l 0) (fun k => l.length - k) 0 ⟨Nat.zero_le _, rfl⟩ ?_ ?_
  · (refine ent_id ?_ ?_ ?_ rfl rfl <;> dsimp only [wellL, hk, id, go_sem, Nat.reduceAdd, Nat.reduceMul, Nat.reduceSub] <;> simp [wellL, hk, KFR_iff, KFR_app, KFR, KFL, KF, mtL_same, mtO, Nat.beq_refl])
  · intro k ⟨hk', hi⟩
    dsimp only [go_sem, Nat.reduceAdd, Nat.reduceMul, Nat.reduceSub]
    refine br ?_ ?_
    · intro hlt
      have hlt : k < l.length := by simpa using hlt
      dsimp only [go_sem, Nat.reduceAdd, Nat.reduceMul, Nat.reduceSub]
      refine ixs_map k hlt rfl ?_
      dsimp only [wellL, go_sem, Nat.reduceAdd, Nat.reduceMul, Nat.reduceSub]
      refine call (hg l[k] (List.getElem_mem _)) ?_
      dsimp only [go_sem, Nat.reduceAdd, Nat.reduceMul, Nat.reduceSub]
      refine br ?_ ?_
      · intro hgx
        dsimp only [go_sem, Nat.reduceAdd, Nat.reduceMul, Nat.reduceSub]
        rw [← hi, List.drop_eq_getElem_cons hlt]
        simp [idxF, hgx]
      · intro hgx
        dsimp only [go_sem, Nat.reduceAdd, Nat.reduceMul, Nat.reduceSub]
        refine ⟨k + 1, ⟨by omega, ?_⟩, by omega, ?_⟩
        · rw [← hi, List.drop_eq_getElem_cons hlt]; simp [idxF, hgx]
        · rw [w64_in (by omega) (by omega)]
          (refine ent_id ?_ ?_ ?_ rfl rfl <;> dsimp only [wellL, hk, id, go_sem, Nat.reduceAdd, Nat.reduceMul, Nat.reduceSub] <;> simp [wellL, hk, KFR_iff, KFR_app, KFR, KFL, KF, mtL_same, mtO, Nat.beq_refl])
    · intro hlt
      have hlt : k = l.length := by simp at hlt; omega
      dsimp only [go_sem, Nat.reduceAdd, Nat.reduceMul, Nat.reduceSub]
      rw [← hi, hlt]; simp [idxF]

theorem con71 (h : Nat) (caps : List SV) (hk : KFL caps) (g : Well → Bool) (l : List Well) (hg : ∀ x ∈ l, Ct Try.prog h (.agg (wellL x) :: caps) (B (g x))) (hl : l.length < 4611686018427387904) {c : Bool} :
    Ct Try.prog 71 [.sl c 9 (l.map wellL), .cl h caps] (B (l.any g)) := by
  refine t71 ⟨by simp [KF, KFR_iff, KFL, wellL], hk, trivial⟩ (by simp [KF]) ?_
  dsimp only [c71, r71, go_sem, Nat.reduceAdd, Nat.reduceMul, Nat.reduceSub]
  refine call (idx95 h caps hk g l hg hl) ?_
  dsimp only [go_sem, Nat.reduceAdd, Nat.reduceMul, Nat.reduceSub]
  rw [idxF_any]

theorem idx96 (h : Nat) (caps : List SV) (hk : KFL caps) (g : Leg → Bool) (l : List Leg) (hg : ∀ x ∈ l, Ct Try.prog h (.agg (legL x) :: caps) (B (g x))) (hl : l.length < 4611686018427387904) {c : Bool} :
    Ct Try.prog 96 [.sl c 5 (l.map legL), .cl h caps] (I (idxF g l 0)) := by
  refine t96 ⟨by simp [KF, KFR_iff, KFL, legL, gateL], hk, trivial⟩ (by simp [KF]) ?_
  dsimp only [c96, r96, go_sem, Nat.reduceAdd, Nat.reduceMul, Nat.reduceSub]
  refine loopO (fun k : Nat => [(8, I k)]) (fun _ => []) (fun k => k ≤ l.length ∧ idxF g (l.drop k) k = idxF g l 0) (fun k => l.length - k) 0 ⟨Nat.zero_le _, rfl⟩ ?_ ?_
  · (refine ent_id ?_ ?_ ?_ rfl rfl <;> dsimp only [legL, gateL, hk, id, go_sem, Nat.reduceAdd, Nat.reduceMul, Nat.reduceSub] <;> simp [legL, gateL, hk, KFR_iff, KFR_app, KFR, KFL, KF, mtL_same, mtO, Nat.beq_refl])
  · intro k ⟨hk', hi⟩
    dsimp only [go_sem, Nat.reduceAdd, Nat.reduceMul, Nat.reduceSub]
    refine br ?_ ?_
    · intro hlt
      have hlt : k < l.length := by simpa using hlt
      dsimp only [go_sem, Nat.reduceAdd, Nat.reduceMul, Nat.reduceSub]
      refine ixs_map k hlt rfl ?_
      dsimp only [legL, go_sem, Nat.reduceAdd, Nat.reduceMul, Nat.reduceSub]
      refine call (hg l[k] (List.getElem_mem _)) ?_
      dsimp only [go_sem, Nat.reduceAdd, Nat.reduceMul, Nat.reduceSub]
      refine br ?_ ?_
      · intro hgx
        dsimp only [go_sem, Nat.reduceAdd, Nat.reduceMul, Nat.reduceSub]
        rw [← hi, List.drop_eq_getElem_cons hlt]
        simp [idxF, hgx]
      · intro hgx
        dsimp only [go_sem, Nat.reduceAdd, Nat.reduceMul, Nat.reduceSub]
        refine ⟨k + 1, ⟨by omega, ?_⟩, by omega, ?_⟩
        · rw [← hi, List.drop_eq_getElem_cons hlt]; simp [idxF, hgx]
        · rw [w64_in (by omega) (by omega)]
          (refine ent_id ?_ ?_ ?_ rfl rfl <;> dsimp only [legL, gateL, hk, id, go_sem, Nat.reduceAdd, Nat.reduceMul, Nat.reduceSub] <;> simp [legL, gateL, hk, KFR_iff, KFR_app, KFR, KFL, KF, mtL_same, mtO, Nat.beq_refl])
    · intro hlt
      have hlt : k = l.length := by simp at hlt; omega
      dsimp only [go_sem, Nat.reduceAdd, Nat.reduceMul, Nat.reduceSub]
      rw [← hi, hlt]; simp [idxF]

theorem con74 (h : Nat) (caps : List SV) (hk : KFL caps) (g : Leg → Bool) (l : List Leg) (hg : ∀ x ∈ l, Ct Try.prog h (.agg (legL x) :: caps) (B (g x))) (hl : l.length < 4611686018427387904) {c : Bool} :
    Ct Try.prog 74 [.sl c 5 (l.map legL), .cl h caps] (B (l.any g)) := by
  refine t74 ⟨by simp [KF, KFR_iff, KFL, legL, gateL], hk, trivial⟩ (by simp [KF]) ?_
  dsimp only [c74, r74, go_sem, Nat.reduceAdd, Nat.reduceMul, Nat.reduceSub]
  refine call (idx96 h caps hk g l hg hl) ?_
  dsimp only [go_sem, Nat.reduceAdd, Nat.reduceMul, Nat.reduceSub]
  rw [idxF_any]

theorem idx107 (h : Nat) (caps : List SV) (hk : KFL caps) (g : Span → Bool) (l : List Span) (hg : ∀ x ∈ l, Ct Try.prog h (.agg (spanL x) :: caps) (B (g x))) (hl : l.length < 4611686018427387904) {c : Bool} :
    Ct Try.prog 107 [.sl c 2 (l.map spanL), .cl h caps] (I (idxF g l 0)) := by
  refine t107 ⟨by simp [KF, KFR_iff, KFL, spanL], hk, trivial⟩ (by simp [KF]) ?_
  dsimp only [c107, r107, go_sem, Nat.reduceAdd, Nat.reduceMul, Nat.reduceSub]
  refine loopO (fun k : Nat => [(8, I k)]) (fun _ => []) (fun k => k ≤ l.length ∧ idxF g (l.drop k) k = idxF g l 0) (fun k => l.length - k) 0 ⟨Nat.zero_le _, rfl⟩ ?_ ?_
  · (refine ent_id ?_ ?_ ?_ rfl rfl <;> dsimp only [spanL, hk, id, go_sem, Nat.reduceAdd, Nat.reduceMul, Nat.reduceSub] <;> simp [spanL, hk, KFR_iff, KFR_app, KFR, KFL, KF, mtL_same, mtO, Nat.beq_refl])
  · intro k ⟨hk', hi⟩
    dsimp only [go_sem, Nat.reduceAdd, Nat.reduceMul, Nat.reduceSub]
    refine br ?_ ?_
    · intro hlt
      have hlt : k < l.length := by simpa using hlt
      dsimp only [go_sem, Nat.reduceAdd, Nat.reduceMul, Nat.reduceSub]
      refine ixs_map k hlt rfl ?_
      dsimp only [spanL, go_sem, Nat.reduceAdd, Nat.reduceMul, Nat.reduceSub]
      refine call (hg l[k] (List.getElem_mem _)) ?_
      dsimp only [go_sem, Nat.reduceAdd, Nat.reduceMul, Nat.reduceSub]
      refine br ?_ ?_
      · intro hgx
        dsimp only [go_sem, Nat.reduceAdd, Nat.reduceMul, Nat.reduceSub]
        rw [← hi, List.drop_eq_getElem_cons hlt]
        simp [idxF, hgx]
      · intro hgx
        dsimp only [go_sem, Nat.reduceAdd, Nat.reduceMul, Nat.reduceSub]
        refine ⟨k + 1, ⟨by omega, ?_⟩, by omega, ?_⟩
        · rw [← hi, List.drop_eq_getElem_cons hlt]; simp [idxF, hgx]
        · rw [w64_in (by omega) (by omega)]
          (refine ent_id ?_ ?_ ?_ rfl rfl <;> dsimp only [spanL, hk, id, go_sem, Nat.reduceAdd, Nat.reduceMul, Nat.reduceSub] <;> simp [spanL, hk, KFR_iff, KFR_app, KFR, KFL, KF, mtL_same, mtO, Nat.beq_refl])
    · intro hlt
      have hlt : k = l.length := by simp at hlt; omega
      dsimp only [go_sem, Nat.reduceAdd, Nat.reduceMul, Nat.reduceSub]
      rw [← hi, hlt]; simp [idxF]

theorem con102 (h : Nat) (caps : List SV) (hk : KFL caps) (g : Span → Bool) (l : List Span) (hg : ∀ x ∈ l, Ct Try.prog h (.agg (spanL x) :: caps) (B (g x))) (hl : l.length < 4611686018427387904) {c : Bool} :
    Ct Try.prog 102 [.sl c 2 (l.map spanL), .cl h caps] (B (l.any g)) := by
  refine t102 ⟨by simp [KF, KFR_iff, KFL, spanL], hk, trivial⟩ (by simp [KF]) ?_
  dsimp only [c102, r102, go_sem, Nat.reduceAdd, Nat.reduceMul, Nat.reduceSub]
  refine call (idx107 h caps hk g l hg hl) ?_
  dsimp only [go_sem, Nat.reduceAdd, Nat.reduceMul, Nat.reduceSub]
  rw [idxF_any]

theorem within_ok (n lo hi : Int) : Ct Try.prog 61 [I n, I lo, I hi] (B (inR lo hi n)) := by
  refine t61 (by simp [KFL, KF]) (by simp [KFL, KF]) ?_
  dsimp only [c61, r61, go_sem, Nat.reduceAdd, Nat.reduceMul, Nat.reduceSub]
  refine gb ?_; dsimp only [go_sem, Nat.reduceAdd, Nat.reduceMul, Nat.reduceSub]
  refine gb ?_; dsimp only [go_sem, Nat.reduceAdd, Nat.reduceMul, Nat.reduceSub]
  refine gb ?_; dsimp only [go_sem, Nat.reduceAdd, Nat.reduceMul, Nat.reduceSub]
  simp [inR]
theorem spanned_ok (s : Span) (lo hi : Int) : Ct Try.prog 92 [.agg (spanL s), I lo, I hi] (B (okSp lo hi s)) := by
  refine t92 (by simp [spanL, KFL, KF]) (by simp [KFL, KF]) ?_
  dsimp only [c92, r92, spanL, go_sem, Nat.reduceAdd, Nat.reduceMul, Nat.reduceSub]
  refine call (within_ok _ _ _) ?_
  dsimp only [go_sem, Nat.reduceAdd, Nat.reduceMul, Nat.reduceSub]
  repeat (refine gb ?_; dsimp only [go_sem, Nat.reduceAdd, Nat.reduceMul, Nat.reduceSub])
  (simp only [okSp, inR, Option.some.injEq, SV.v.injEq, Value.bool.injEq] <;> grind)
theorem from1_ok (lo hi x : Int) : Ct Try.prog 91 [I x, .ps [I lo] 0, .ps [I hi] 0] (B (!inR lo hi x)) := by
  refine t91 (by simp [KFL, KF]) (by simp [KFL, KF]) ?_
  dsimp only [c91, r91, go_sem, Nat.reduceAdd, Nat.reduceMul, Nat.reduceSub]
  repeat (refine gb ?_; dsimp only [go_sem, Nat.reduceAdd, Nat.reduceMul, Nat.reduceSub])
  (simp only [inR, Option.some.injEq, SV.v.injEq, Value.bool.injEq] <;> grind)
theorem from_any (lo hi : Int) (l : List Int) (hl : l.length < 4611686018427387904) (c : Bool) : Ct Try.prog 58 [I lo, I hi, .sl c 1 (l.map intL)] (B (l.all (inR lo hi))) := by
  refine t58 (by simp [KFR_iff, intL, KFL, KF]) (by simp [KFL, KF]) ?_
  dsimp only [c58, r58, go_sem, Nat.reduceAdd, Nat.reduceMul, Nat.reduceSub]
  refine callv (by simp [FLT]) (res := B (l.any fun x => !inR lo hi x)) ?_ ?_
  · dsimp only [go_sem, Nat.reduceAdd, Nat.reduceMul, Nat.reduceSub]
    exact con90 91 [.ps [I lo] 0, .ps [I hi] 0] (by simp [KFL, KF]) (fun x => !inR lo hi x) l (fun x _ => from1_ok lo hi x) hl
  · dsimp only [go_sem, Nat.reduceAdd, Nat.reduceMul, Nat.reduceSub]
    simp [List.all_eq_not_any_not]
theorem from1 (lo hi a : Int) (c : Bool) : Ct Try.prog 58 [I lo, I hi, .sl c 1 [[I a]]] (B (inR lo hi a)) := by
  have := from_any lo hi [a] (by simp) c
  simpa [intL] using this
theorem from2 (lo hi a b : Int) (c : Bool) : Ct Try.prog 58 [I lo, I hi, .sl c 1 [[I a], [I b]]] (B (inR lo hi a && inR lo hi b)) := by
  have := from_any lo hi [a, b] (by simp) c
  simpa [intL] using this
theorem ordered1_ok (lo hi : Int) (s : Span) : Ct Try.prog 103 [.agg (spanL s), .ps [I lo] 0, .ps [I hi] 0] (B (!okSp lo hi s)) := by
  refine t103 (by simp [spanL, KFL, KF]) (by simp [KFL, KF]) ?_
  dsimp only [c103, r103, spanL, go_sem, Nat.reduceAdd, Nat.reduceMul, Nat.reduceSub]
  repeat (first | (refine gb ?_; dsimp only [go_sem, Nat.reduceAdd, Nat.reduceMul, Nat.reduceSub]) | (refine call (from2 _ _ _ _ _) ?_; dsimp only [go_sem, Nat.reduceAdd, Nat.reduceMul, Nat.reduceSub]))
  (simp only [okSp, inR, Option.some.injEq, SV.v.injEq, Value.bool.injEq] <;> grind)
theorem ordered_any (lo hi : Int) (l : List Span) (hl : l.length < 4611686018427387904) (c : Bool) : Ct Try.prog 93 [I lo, I hi, .sl c 2 (l.map spanL)] (B (l.all (okSp lo hi))) := by
  refine t93 (by simp [KFR_iff, spanL, KFL, KF]) (by simp [KFL, KF]) ?_
  dsimp only [c93, r93, go_sem, Nat.reduceAdd, Nat.reduceMul, Nat.reduceSub]
  refine callv (by simp [FLT]) (res := B (l.any fun x => !okSp lo hi x)) ?_ ?_
  · dsimp only [go_sem, Nat.reduceAdd, Nat.reduceMul, Nat.reduceSub]
    exact con102 103 [.ps [I lo] 0, .ps [I hi] 0] (by simp [KFL, KF]) (fun x => !okSp lo hi x) l (fun x _ => ordered1_ok lo hi x) hl
  · dsimp only [go_sem, Nat.reduceAdd, Nat.reduceMul, Nat.reduceSub]
    simp [List.all_eq_not_any_not]
theorem ordered1 (lo hi : Int) (s : Span) (c : Bool) : Ct Try.prog 93 [I lo, I hi, .sl c 2 [[I s.lo, I s.hi]]] (B (okSp lo hi s)) := by
  have := ordered_any lo hi [s] (by simp) c
  simpa [spanL] using this
theorem ordered2 (lo hi : Int) (s t : Span) (c : Bool) : Ct Try.prog 93 [I lo, I hi, .sl c 2 [[I s.lo, I s.hi], [I t.lo, I t.hi]]] (B (okSp lo hi s && okSp lo hi t)) := by
  have := ordered_any lo hi [s, t] (by simp) c
  simpa [spanL] using this
theorem dug_ok (w : Well) : Ct Try.prog 73 [.agg (wellL w)] (B (okWell w)) := by
  refine t73 (by simp [wellL, KFL, KF]) (by simp [KFL, KF]) ?_
  dsimp only [c73, r73, wellL, go_sem, Nat.reduceAdd, Nat.reduceMul, Nat.reduceSub]
  repeat (first | (refine gb ?_; dsimp only [go_sem, Nat.reduceAdd, Nat.reduceMul, Nat.reduceSub]) | (refine call (from1 _ _ _ _) ?_; dsimp only [go_sem, Nat.reduceAdd, Nat.reduceMul, Nat.reduceSub]) | (refine call (from2 _ _ _ _ _) ?_; dsimp only [go_sem, Nat.reduceAdd, Nat.reduceMul, Nat.reduceSub]) | (refine call (ordered1 _ _ w.yld _) ?_; dsimp only [go_sem, Nat.reduceAdd, Nat.reduceMul, Nat.reduceSub]) | (refine call (ordered1 _ _ w.has _) ?_; dsimp only [go_sem, Nat.reduceAdd, Nat.reduceMul, Nat.reduceSub]))
  simp [okWell, Bool.and_assoc]
theorem trodden_ok (x : Leg) (n : Int) (h0 : 0 ≤ n) (h1 : n ≤ 1000) (hg : x.gates.length < 4611686018427387904) : Ct Try.prog 76 [.agg (legL x), I n] (B (okLeg n x)) := by
  have hw : IntKind.i64.wrap (n - 1) = n - 1 := w64_in (by omega) (by omega)
  refine t76 (by simp [legL, KFR_iff, gateL, KFL, KF]) (by simp [KFL, KF]) ?_
  dsimp only [c76, r76, legL, hw, go_sem, Nat.reduceAdd, Nat.reduceMul, Nat.reduceSub]
  simp only [hw]
  repeat (first | (refine gb ?_; dsimp only [go_sem, Nat.reduceAdd, Nat.reduceMul, Nat.reduceSub]) | (refine call (from2 _ _ _ _ _) ?_; dsimp only [go_sem, Nat.reduceAdd, Nat.reduceMul, Nat.reduceSub]) | (refine call (ordered1 _ _ x.long _) ?_; dsimp only [go_sem, Nat.reduceAdd, Nat.reduceMul, Nat.reduceSub]))
  simp only [List.length_map]
  refine br ?_ ?_
  · intro h
    dsimp only [go_sem, Nat.reduceAdd, Nat.reduceMul, Nat.reduceSub]
    (simp only [okLeg, Option.some.injEq, SV.v.injEq, Value.bool.injEq] <;> grind)
  · intro h
    dsimp only [go_sem, Nat.reduceAdd, Nat.reduceMul, Nat.reduceSub]
    have hh : okLeg n x = okGates 0 x.gates := by simp only [okLeg]; grind
    rw [hh]
    refine loopO (fun s : Nat × Int => [(40, I s.1), (5, I s.2)]) (fun _ => []) (fun s => s.1 ≤ x.gates.length ∧ okGates s.2 (x.gates.drop s.1) = okGates 0 x.gates) (fun s => x.gates.length - s.1) (0, 0) ⟨Nat.zero_le _, rfl⟩ ?_ ?_
    · (refine ent_id ?_ ?_ ?_ rfl rfl <;> dsimp only [gateL, id, go_sem, Nat.reduceAdd, Nat.reduceMul, Nat.reduceSub] <;> simp [gateL, KFR_iff, KFR_app, KFR, KFL, KF, mtL_same, mtO, Nat.beq_refl])
    · rintro ⟨k, next⟩ ⟨hk, hi⟩
      dsimp only [go_sem, Nat.reduceAdd, Nat.reduceMul, Nat.reduceSub]
      refine br ?_ ?_
      · intro hlt
        have hlt : k < x.gates.length := by simpa using hlt
        dsimp only [go_sem, Nat.reduceAdd, Nat.reduceMul, Nat.reduceSub]
        refine ixs_map k hlt rfl ?_
        dsimp only [gateL, go_sem, Nat.reduceAdd, Nat.reduceMul, Nat.reduceSub]
        repeat (first | (refine gb ?_; dsimp only [go_sem, Nat.reduceAdd, Nat.reduceMul, Nat.reduceSub]) | (refine call (ordered2 _ _ x.gates[k].opens x.gates[k].shuts _) ?_; dsimp only [go_sem, Nat.reduceAdd, Nat.reduceMul, Nat.reduceSub]) | (refine call (from1 _ _ _ _) ?_; dsimp only [go_sem, Nat.reduceAdd, Nat.reduceMul, Nat.reduceSub]))
        have hd : x.gates.drop k = x.gates[k] :: x.gates.drop (k + 1) := List.drop_eq_getElem_cons hlt
        refine br ?_ ?_
        · intro hb
          dsimp only [go_sem, Nat.reduceAdd, Nat.reduceMul, Nat.reduceSub]
          rw [← hi, hd]
          (simp only [okGates, Option.some.injEq, SV.v.injEq, Value.bool.injEq] <;> grind)
        · intro hb
          dsimp only [go_sem, Nat.reduceAdd, Nat.reduceMul, Nat.reduceSub]
          have hs : okSp 0 100000 x.gates[k].shuts = true := by grind
          simp only [okSp, decide_eq_true_eq] at hs
          rw [w64_in (n := x.gates[k].shuts.hi + 1) (by omega) (by omega), w64_in (n := (k : Int) + 1) (by omega) (by omega)]
          refine ⟨(k + 1, x.gates[k].shuts.hi + 1), ⟨hlt, ?_⟩, by simp only; omega, ?_⟩
          · rw [← hi, hd]; simp only [okGates]; grind
          · (refine ent_id ?_ ?_ ?_ rfl rfl <;> dsimp only [gateL, id, go_sem, Nat.reduceAdd, Nat.reduceMul, Nat.reduceSub] <;> simp [gateL, KFR_iff, KFR_app, KFR, KFL, KF, mtL_same, mtO, Nat.beq_refl])
      · intro hlt
        have hlt : k = x.gates.length := by simp at hlt; omega
        dsimp only [go_sem, Nat.reduceAdd, Nat.reduceMul, Nat.reduceSub]
        rw [← hi, hlt]; simp [okGates]
theorem leg1_ok (l : Land) (x : Leg) (hs : Small l) (hx : x ∈ l.legs) : Ct Try.prog 75 [.agg (legL x), .ps (landL l) 0] (B (!okLeg l.wells.length x)) := by
  have hg := hs.2.2 x hx
  refine t75 (by simp [legL, landL, wellL, gateL, KFR_iff, KFL, KF]) (by simp [KFL, KF]) ?_
  dsimp only [c75, r75, legL, landL, go_sem, Nat.reduceAdd, Nat.reduceMul, Nat.reduceSub]
  simp only [List.length_map]
  refine call (trodden_ok x l.wells.length (by omega) (by have := hs.1; omega) (by omega)) ?_
  dsimp only [go_sem, Nat.reduceAdd, Nat.reduceMul, Nat.reduceSub]
theorem well1_ok (w : Well) : Ct Try.prog 72 [.agg (wellL w)] (B (!okWell w)) := by
  refine t72 (by simp [wellL, KFL, KF]) (by simp [KFL, KF]) ?_
  dsimp only [c72, r72, wellL, go_sem, Nat.reduceAdd, Nat.reduceMul, Nat.reduceSub]
  refine call (dug_ok w) ?_
  dsimp only [go_sem, Nat.reduceAdd, Nat.reduceMul, Nat.reduceSub]
theorem check_ok (l : Land) (hs : Small l) : Ct Try.prog 26 [.agg (landL l)] (I (if okLand l = true then 0 else 30)) := by
  refine t26 (by simp [landL, wellL, legL, gateL, KFR_iff, KFL, KF]) (by simp [KFL, KF]) ?_
  dsimp only [c26, r26, landL, go_sem, Nat.reduceAdd, Nat.reduceMul, Nat.reduceSub]
  refine call (con71 72 [] (by simp [KFL]) (fun w => !okWell w) l.wells (fun w _ => well1_ok w) (by have := hs.1; omega)) ?_
  dsimp only [go_sem, Nat.reduceAdd, Nat.reduceMul, Nat.reduceSub]
  refine callv (res := B (l.legs.any fun x => !okLeg l.wells.length x)) (by simp [FLT]) ?_ ?_
  · dsimp only [go_sem, Nat.reduceAdd, Nat.reduceMul, Nat.reduceSub]
    exact con74 75 [.ps (landL l) 0] (by simp [landL, wellL, legL, gateL, KFR_iff, KFL, KF]) (fun x => !okLeg l.wells.length x) l.legs (fun x hx => leg1_ok l x hs hx) (by have := hs.2.1; omega)
  dsimp only [go_sem, Nat.reduceAdd, Nat.reduceMul, Nat.reduceSub]
  repeat (first | (refine gb ?_; dsimp only [go_sem, Nat.reduceAdd, Nat.reduceMul, Nat.reduceSub]) | (refine call (from1 _ _ _ _) ?_; dsimp only [go_sem, Nat.reduceAdd, Nat.reduceMul, Nat.reduceSub]))
  simp only [List.length_map]
  have key : okLand l = !(!inR 1 12 l.wells.length || decide ((l.legs.length : Int) > 24) || !(!l.wells.any fun w => !okWell w) || !(!l.legs.any fun x => !okLeg l.wells.length x)) := by
    simp only [okLand, List.all_eq_not_any_not]; grind
  rw [key]
  refine br ?_ ?_
  · intro h
    dsimp only [go_sem, Nat.reduceAdd, Nat.reduceMul, Nat.reduceSub]
    rw [h]; rfl
  · intro h
    dsimp only [go_sem, Nat.reduceAdd, Nat.reduceMul, Nat.reduceSub]
    rw [h]; rfl
def wres (r : Span × Int × Int) : SV := .tup [.agg (spanL r.1), I r.2.1, I r.2.2]
end Go.Proofs.Ytkjldleglbbkeaa
set_option maxRecDepth 100000
set_option maxHeartbeats 4000000
namespace Go.Proofs.Ytkjldleglbbkeaa
open Go Go.Sx Go.Azalai
def wkres (r : Int × Int) : SV := .tup [I r.1, I r.2]
end Go.Proofs.Ytkjldleglbbkeaa
set_option maxRecDepth 100000
set_option maxHeartbeats 4000000
namespace Go.Proofs.Ytkjldleglbbkeaa
open Go Go.Sx Go.Azalai
theorem landR_ok (l : Land) (hs : Small l) : Ct Try.prog 60 [.agg (landL l)] (B (okLand l)) := by
  have hw1 : IntKind.i64.wrap ((l.wells.length : Int) - 1) = (l.wells.length : Int) - 1 := w64_in (by omega) (by have := hs.1; omega)
  refine t60 (by simp [landL, wellL, legL, gateL, KFR_iff, KFL, KF]) (by simp [KFL, KF]) ?_
  dsimp only [c60, r60, landL, go_sem, Nat.reduceAdd, Nat.reduceMul, Nat.reduceSub]
  refine call (within_ok _ _ _) ?_
  dsimp only [go_sem, Nat.reduceAdd, Nat.reduceMul, Nat.reduceSub]
  repeat (refine gb ?_; dsimp only [go_sem, Nat.reduceAdd, Nat.reduceMul, Nat.reduceSub])
  simp only [List.length_map]
  refine br ?_ ?_
  · intro h
    dsimp only [go_sem, Nat.reduceAdd, Nat.reduceMul, Nat.reduceSub]
    have : okLand l = false := by simp only [okLand]; grind
    rw [this]
  intro h
  dsimp only [go_sem, Nat.reduceAdd, Nat.reduceMul, Nat.reduceSub]
  have ho1 : okLand l = (l.wells.all okWell && l.legs.all (okLeg l.wells.length)) := by simp only [okLand]; grind
  refine loopO (fun k : Nat => [(3, I k)]) (fun _ => []) (fun k => k ≤ l.wells.length ∧ (l.wells.drop k).all okWell = l.wells.all okWell) (fun k => l.wells.length - k) 0 ⟨Nat.zero_le _, rfl⟩ ?_ ?_
  · (refine ent_id ?_ ?_ ?_ rfl rfl <;> dsimp only [gateL, wellL, legL, id, go_sem, Nat.reduceAdd, Nat.reduceMul, Nat.reduceSub] <;> simp [gateL, wellL, legL, KFR_iff, KFR_app, KFR, KFL, KF, mtL_same, mtO, Nat.beq_refl])
  intro k ⟨hk, hi⟩
  dsimp only [go_sem, Nat.reduceAdd, Nat.reduceMul, Nat.reduceSub]
  by_cases hlt : k < l.wells.length
  · refine br_t (by simpa using hlt) ?_
    dsimp only [go_sem, Nat.reduceAdd, Nat.reduceMul, Nat.reduceSub]
    refine ixs_map k hlt rfl ?_
    dsimp only [wellL, go_sem, Nat.reduceAdd, Nat.reduceMul, Nat.reduceSub]
    repeat (first | (refine gb ?_; dsimp only [go_sem, Nat.reduceAdd, Nat.reduceMul, Nat.reduceSub]) | (refine call (within_ok _ _ _) ?_; dsimp only [go_sem, Nat.reduceAdd, Nat.reduceMul, Nat.reduceSub]) | (refine call (spanned_ok l.wells[k].yld _ _) ?_; dsimp only [go_sem, Nat.reduceAdd, Nat.reduceMul, Nat.reduceSub]) | (refine call (spanned_ok l.wells[k].has _ _) ?_; dsimp only [go_sem, Nat.reduceAdd, Nat.reduceMul, Nat.reduceSub]))
    rw [List.drop_eq_getElem_cons hlt, List.all_cons] at hi
    refine br ?_ ?_
    · intro hb
      dsimp only [go_sem, Nat.reduceAdd, Nat.reduceMul, Nat.reduceSub]
      have : okWell l.wells[k] = false := by simp only [okWell]; grind
      rw [ho1, ← hi, this]; rfl
    · intro hb
      dsimp only [go_sem, Nat.reduceAdd, Nat.reduceMul, Nat.reduceSub]
      rw [w64_in (n := (k : Int) + 1) (by omega) (by have := hs.1; omega)]
      have : okWell l.wells[k] = true := by simp only [okWell]; grind
      rw [this, Bool.true_and] at hi
      refine ⟨k + 1, ⟨hlt, hi⟩, by omega, ?_⟩
      (refine ent_id ?_ ?_ ?_ rfl rfl <;> dsimp only [gateL, wellL, legL, id, go_sem, Nat.reduceAdd, Nat.reduceMul, Nat.reduceSub] <;> simp [gateL, wellL, legL, KFR_iff, KFR_app, KFR, KFL, KF, mtL_same, mtO, Nat.beq_refl])
  refine br_f (by simp; omega) ?_
  dsimp only [go_sem, Nat.reduceAdd, Nat.reduceMul, Nat.reduceSub]
  have hke : k = l.wells.length := by omega
  subst hke
  rw [List.drop_length] at hi
  rw [← hi] at ho1
  rw [show okLand l = l.legs.all (okLeg l.wells.length) from by rw [ho1]; simp]
  refine loopO (fun k : Nat => [(5, I k)]) (fun _ => []) (fun k => k ≤ l.legs.length ∧ (l.legs.drop k).all (okLeg l.wells.length) = l.legs.all (okLeg l.wells.length)) (fun k => l.legs.length - k) 0 ⟨Nat.zero_le _, rfl⟩ ?_ ?_
  · (refine ent_id ?_ ?_ ?_ rfl rfl <;> dsimp only [gateL, wellL, legL, id, go_sem, Nat.reduceAdd, Nat.reduceMul, Nat.reduceSub] <;> simp [gateL, wellL, legL, KFR_iff, KFR_app, KFR, KFL, KF, mtL_same, mtO, Nat.beq_refl])
  intro k ⟨hk, hi⟩
  dsimp only [go_sem, Nat.reduceAdd, Nat.reduceMul, Nat.reduceSub]
  by_cases hlt : k < l.legs.length
  · refine br_t (by simpa using hlt) ?_
    dsimp only [go_sem, Nat.reduceAdd, Nat.reduceMul, Nat.reduceSub]
    refine ixs_map k hlt rfl ?_
    dsimp only [legL, go_sem, Nat.reduceAdd, Nat.reduceMul, Nat.reduceSub]
    simp only [List.length_map, hw1]
    repeat (first | (refine gb ?_; dsimp only [go_sem, Nat.reduceAdd, Nat.reduceMul, Nat.reduceSub]) | (refine call (within_ok _ _ _) ?_; dsimp only [go_sem, Nat.reduceAdd, Nat.reduceMul, Nat.reduceSub]) | (refine call (spanned_ok l.legs[k].long _ _) ?_; dsimp only [go_sem, Nat.reduceAdd, Nat.reduceMul, Nat.reduceSub]))
    rw [List.drop_eq_getElem_cons hlt, List.all_cons] at hi
    simp only [List.length_map]
    have hgl := hs.2.2 l.legs[k] (List.getElem_mem _)
    generalize l.legs[k] = x at *
    refine br ?_ ?_
    · intro hb
      dsimp only [go_sem, Nat.reduceAdd, Nat.reduceMul, Nat.reduceSub]
      have : okLeg l.wells.length x = false := by simp only [okLeg]; grind
      rw [← hi, this]; rfl
    · intro hb
      dsimp only [go_sem, Nat.reduceAdd, Nat.reduceMul, Nat.reduceSub]
      have hx : okLeg l.wells.length x = okGates 0 x.gates := by simp only [okLeg]; grind
      refine loopO (fun s : Nat × Int => [(8, I s.1), (7, I s.2)]) (fun _ => []) (fun s => s.1 ≤ x.gates.length ∧ okGates (s.2 + 1) (x.gates.drop s.1) = okGates 0 x.gates) (fun s => x.gates.length - s.1) (0, -1) ⟨Nat.zero_le _, rfl⟩ ?_ ?_
      · (refine ent_id ?_ ?_ ?_ rfl rfl <;> dsimp only [gateL, wellL, legL, id, go_sem, Nat.reduceAdd, Nat.reduceMul, Nat.reduceSub] <;> simp [gateL, wellL, legL, KFR_iff, KFR_app, KFR, KFL, KF, mtL_same, mtO, Nat.beq_refl])
      rintro ⟨j, last⟩ ⟨hj, hji⟩
      simp only at hj hji
      dsimp only [go_sem, Nat.reduceAdd, Nat.reduceMul, Nat.reduceSub]
      by_cases hlt2 : j < x.gates.length
      · refine br_t (by simpa using hlt2) ?_
        dsimp only [go_sem, Nat.reduceAdd, Nat.reduceMul, Nat.reduceSub]
        refine ixs_map j hlt2 rfl ?_
        dsimp only [gateL, go_sem, Nat.reduceAdd, Nat.reduceMul, Nat.reduceSub]
        repeat (first | (refine gb ?_; dsimp only [go_sem, Nat.reduceAdd, Nat.reduceMul, Nat.reduceSub]) | (refine call (spanned_ok x.gates[j].opens _ _) ?_; dsimp only [go_sem, Nat.reduceAdd, Nat.reduceMul, Nat.reduceSub]) | (refine call (spanned_ok x.gates[j].shuts _ _) ?_; dsimp only [go_sem, Nat.reduceAdd, Nat.reduceMul, Nat.reduceSub]))
        rw [List.drop_eq_getElem_cons hlt2] at hji
        simp only [okGates] at hji
        refine br ?_ ?_
        · intro hb2
          dsimp only [go_sem, Nat.reduceAdd, Nat.reduceMul, Nat.reduceSub]
          have : okLeg l.wells.length x = false := by rw [hx, ← hji]; simp only [inR]; grind
          rw [← hi, this]; rfl
        · intro hb2
          dsimp only [go_sem, Nat.reduceAdd, Nat.reduceMul, Nat.reduceSub]
          rw [w64_in (n := (j : Int) + 1) (by omega) (by omega)]
          refine ⟨(j + 1, x.gates[j].shuts.hi), ⟨hlt2, ?_⟩, by simp only; omega, ?_⟩
          · simp only; rw [← hji]; simp only [inR]; grind
          · (refine ent_id ?_ ?_ ?_ rfl rfl <;> dsimp only [gateL, wellL, legL, id, go_sem, Nat.reduceAdd, Nat.reduceMul, Nat.reduceSub] <;> simp [gateL, wellL, legL, KFR_iff, KFR_app, KFR, KFL, KF, mtL_same, mtO, Nat.beq_refl])
      · refine br_f (by simp; omega) ?_
        dsimp only [go_sem, Nat.reduceAdd, Nat.reduceMul, Nat.reduceSub]
        rw [w64_in (n := (k : Int) + 1) (by omega) (by have := hs.2.1; omega)]
        have hje : j = x.gates.length := by omega
        subst hje
        rw [List.drop_length] at hji
        simp only [okGates] at hji
        rw [hx, ← hji, Bool.true_and] at hi
        refine ⟨k + 1, ⟨hlt, hi⟩, by omega, ?_⟩
        (refine ent_id ?_ ?_ ?_ rfl rfl <;> dsimp only [gateL, wellL, legL, id, go_sem, Nat.reduceAdd, Nat.reduceMul, Nat.reduceSub] <;> simp [gateL, wellL, legL, KFR_iff, KFR_app, KFR, KFL, KF, mtL_same, mtO, Nat.beq_refl])
  refine br_f (by simp; omega) ?_
  dsimp only [go_sem, Nat.reduceAdd, Nat.reduceMul, Nat.reduceSub]
  have hke : k = l.legs.length := by omega
  subst hke
  rw [List.drop_length] at hi
  rw [← hi]; rfl
theorem great_ok (l : Land) : Ct Try.prog 16 [.agg (landL l)] (B (greatF l)) := by
  refine t16 (by simp [landL, wellL, legL, gateL, KFR_iff, KFL, KF]) (by simp [KFL, KF]) ?_
  dsimp only [c16, r16, landL, go_sem, Nat.reduceAdd, Nat.reduceMul, Nat.reduceSub]
  repeat (refine gb ?_; dsimp only [go_sem, Nat.reduceAdd, Nat.reduceMul, Nat.reduceSub])
  simp only [List.length_map]
  refine br ?_ ?_
  · intro h
    dsimp only [go_sem, Nat.reduceAdd, Nat.reduceMul, Nat.reduceSub]
    (simp only [greatF, Option.some.injEq, SV.v.injEq, Value.bool.injEq] <;> grind)
  intro h
  dsimp only [go_sem, Nat.reduceAdd, Nat.reduceMul, Nat.reduceSub]
  have hg : greatF l = l.legs.any fun x => decide (x.gates.length > 20) := by simp only [greatF]; grind
  have hlen : l.legs.length ≤ 40 := by grind
  rw [hg]
  refine loopO (fun k : Nat => [(3, I k)]) (fun _ => []) (fun k => k ≤ l.legs.length ∧ ((l.legs.drop k).any fun x => decide (x.gates.length > 20)) = l.legs.any fun x => decide (x.gates.length > 20)) (fun k => l.legs.length - k) 0 ⟨Nat.zero_le _, rfl⟩ ?_ ?_
  · (refine ent_id ?_ ?_ ?_ rfl rfl <;> dsimp only [gateL, wellL, legL, id, go_sem, Nat.reduceAdd, Nat.reduceMul, Nat.reduceSub] <;> simp [gateL, wellL, legL, KFR_iff, KFR_app, KFR, KFL, KF, mtL_same, mtO, Nat.beq_refl])
  intro k ⟨hk, hi⟩
  dsimp only [go_sem, Nat.reduceAdd, Nat.reduceMul, Nat.reduceSub]
  by_cases hlt : k < l.legs.length
  · refine br_t (by simpa using hlt) ?_
    dsimp only [go_sem, Nat.reduceAdd, Nat.reduceMul, Nat.reduceSub]
    refine ixs_map k hlt rfl ?_
    dsimp only [legL, go_sem, Nat.reduceAdd, Nat.reduceMul, Nat.reduceSub]
    rw [List.drop_eq_getElem_cons hlt, List.any_cons] at hi
    refine br ?_ ?_
    · intro hb
      dsimp only [go_sem, Nat.reduceAdd, Nat.reduceMul, Nat.reduceSub]
      have : decide (l.legs[k].gates.length > 20) = true := by simp at hb ⊢; omega
      rw [← hi, this]; rfl
    · intro hb
      dsimp only [go_sem, Nat.reduceAdd, Nat.reduceMul, Nat.reduceSub]
      rw [w64_in (n := (k : Int) + 1) (by omega) (by omega)]
      have : decide (l.legs[k].gates.length > 20) = false := by simp at hb ⊢; omega
      rw [this, Bool.false_or] at hi
      refine ⟨k + 1, ⟨hlt, hi⟩, by omega, ?_⟩
      (refine ent_id ?_ ?_ ?_ rfl rfl <;> dsimp only [gateL, wellL, legL, id, go_sem, Nat.reduceAdd, Nat.reduceMul, Nat.reduceSub] <;> simp [gateL, wellL, legL, KFR_iff, KFR_app, KFR, KFL, KF, mtL_same, mtO, Nat.beq_refl])
  refine br_f (by simp; omega) ?_
  dsimp only [go_sem, Nat.reduceAdd, Nat.reduceMul, Nat.reduceSub]
  have hke : k = l.legs.length := by omega
  subst hke
  rw [List.drop_length] at hi
  rw [← hi]; rfl
end Go.Proofs.Ytkjldleglbbkeaa
set_option maxRecDepth 100000
set_option maxHeartbeats 4000000
namespace Go.Proofs.Ytkjldleglbbkeaa
open Go Go.Sx Go.Azalai
end Go.Proofs.Ytkjldleglbbkeaa
set_option maxRecDepth 100000
set_option maxHeartbeats 4000000
namespace Go.Azalai
def okPace (p : Span) : Bool := okSp 1 100000 p
def askF (l : Land) (p : Span) : Int := if okLand l = false then 30 else if okPace p = false then 31 else 0
def dayF (x : Leg) (p : Span) : Span := ⟨(x.long.lo + p.hi - 1).tdiv p.hi, (x.long.hi + p.lo - 1).tdiv p.lo⟩
/-- the first day on which one leaves through gates that open and shut on days -/
def outL (n day : Int) (o s : Gate → Int) : List Gate → Int
  | [] => 100001
  | g :: r => if max day (o g) + n - 1 ≤ s g then max day (o g) else outL n day o s r
def accL (n day : Int) (o s : Gate → Int) (acc : Int) : List Gate → Int
  | [] => acc
  | g :: r => accL n day o s (if max day (o g) + n - 1 ≤ s g then min (min acc (max day (o g))) 100001 else acc) r
def mayF (x : Leg) (p : Span) (day : Int) : Int := outL (dayF x p).lo day (·.opens.lo) (·.shuts.hi) x.gates
def canF (x : Leg) (p : Span) (day : Int) : Int := outL (dayF x p).hi day (·.opens.hi) (·.shuts.lo) x.gates
def daysF (l : Land) (leg : Int) (p : Span) : Span × Int :=
  if askF l p ≠ 0 then (⟨0, 0⟩, askF l p)
  else if inR 0 (l.legs.length - 1) leg = false then (⟨0, 0⟩, 2)
  else match l.legs[leg.toNat]? with
    | some x => (dayF x p, 0)
    | none => (⟨0, 0⟩, 0)
def leaveF (l : Land) (leg day : Int) (p : Span) : Span × Int :=
  if askF l p ≠ 0 then (⟨0, 0⟩, askF l p)
  else if (inR 0 (l.legs.length - 1) leg && inR 0 100000 day) = false then (⟨0, 0⟩, 2)
  else match l.legs[leg.toNat]? with
    | some x => (⟨mayF x p day, canF x p day⟩, 0)
    | none => (⟨0, 0⟩, 0)
/-- what holds of the legs of a good land -/
structure GoodLeg (x : Leg) : Prop where
  l1 : 1 ≤ x.long.lo
  l2 : x.long.lo ≤ x.long.hi
  l3 : x.long.hi ≤ 1000000
  g1 : x.gates.length ≤ 6
  g2 : okGates 0 x.gates = true
theorem okLand_leg {l : Land} (h : okLand l = true) : ∀ x ∈ l.legs, GoodLeg x := by
  simp only [okLand, Bool.and_eq_true, List.all_eq_true] at h
  intro x hx
  have := h.2 x hx
  simp only [okLeg, okSp, Bool.and_eq_true, decide_eq_true_eq] at this
  exact ⟨by omega, by omega, by omega, by omega, this.2⟩
theorem okGates_mem : ∀ {l : List Gate} {next : Int}, okGates next l = true → 0 ≤ next → ∀ g ∈ l, 0 ≤ g.opens.lo ∧ g.opens.lo ≤ g.opens.hi ∧ g.opens.hi ≤ 100000 ∧ 0 ≤ g.shuts.lo ∧ g.shuts.lo ≤ g.shuts.hi ∧ g.shuts.hi ≤ 100000 ∧ next ≤ g.opens.lo
  | [], _, _, _, g, hg => by simp at hg
  | x :: l, next, h, h0, g, hg => by
    simp only [okGates, okSp, inR, Bool.and_eq_true, decide_eq_true_eq] at h
    rcases List.mem_cons.1 hg with rfl | hg
    · omega
    · have := okGates_mem h.2 (by omega) g hg; omega
theorem acc_out {n day : Int} {o s : Gate → Int} (hn : 1 ≤ n) (ho : ∀ g, (0 ≤ g.opens.lo ∧ g.opens.lo ≤ g.opens.hi ∧ g.opens.hi ≤ 100000 ∧ 0 ≤ g.shuts.lo ∧ g.shuts.lo ≤ g.shuts.hi ∧ g.shuts.hi ≤ 100000) → g.opens.lo ≤ o g ∧ s g ≤ g.shuts.hi) :
    ∀ {l : List Gate} {next acc : Int}, okGates next l = true → 0 ≤ next → acc ≤ 100001 → accL n day o s acc l = min acc (outL n day o s l)
  | [], next, acc, _, _, ha => by simp only [accL, outL]; omega
  | x :: l, next, acc, h, h0, ha => by
    have hm := okGates_mem h h0 x (by simp)
    simp only [okGates, okSp, inR, Bool.and_eq_true, decide_eq_true_eq] at h
    have h1 := ho x ⟨hm.1, hm.2.1, hm.2.2.1, hm.2.2.2.1, hm.2.2.2.2.1, hm.2.2.2.2.2.1⟩
    have hrest : ∀ (l : List Gate), (∀ g ∈ l, x.shuts.hi + 1 ≤ o g) → x.shuts.hi + 1 ≤ outL n day o s l := fun l => by
      induction l with
      | nil => intro _; simp only [outL]; omega
      | cons g l ih => intro hg; simp only [outL]; have := hg g (by simp); have := ih (fun g' h' => hg g' (by simp [h'])); split <;> omega
    have hr := hrest l (fun g hg => by
      have q := okGates_mem h.2 (by omega) g hg
      have := ho g ⟨q.1, q.2.1, q.2.2.1, q.2.2.2.1, q.2.2.2.2.1, q.2.2.2.2.2.1⟩
      omega)
    simp only [accL, outL]
    rw [acc_out hn ho h.2 (by omega) (by split <;> omega)]
    repeat' split
    all_goals first | rfl | omega
theorem day_bd {x : Leg} {p : Span} (h : GoodLeg x) (hp : okPace p = true) : 1 ≤ (dayF x p).lo ∧ (dayF x p).lo ≤ 1000000 ∧ 1 ≤ (dayF x p).hi ∧ (dayF x p).hi ≤ 1000000 := by
  simp only [okPace, okSp, decide_eq_true_eq] at hp
  obtain ⟨p1, p2, p3⟩ := hp
  obtain ⟨h1, h2, h3, _, _⟩ := h
  simp only [dayF]
  have key : ∀ a b : Int, 1 ≤ a → a ≤ 1000000 → 1 ≤ b → 1 ≤ (a + b - 1).tdiv b ∧ (a + b - 1).tdiv b ≤ 1000000 := fun a b ha ha2 hb => by
    rw [Int.tdiv_eq_ediv_of_nonneg (by omega)]
    constructor
    · exact Int.le_ediv_of_mul_le (by omega) (by omega)
    · refine Int.le_of_lt_add_one (Int.ediv_lt_of_lt_mul (by omega) ?_)
      have : 1 * a ≤ b * a := Int.mul_le_mul_of_nonneg_right hb (by omega)
      have e : (1000000 + 1) * b = b * 1000000 + b := by rw [Int.add_mul]; omega
      have : b * a ≤ b * 1000000 := Int.mul_le_mul_of_nonneg_left ha2 (by omega)
      rw [e]
      have := Int.mul_le_mul_of_nonneg_left ha2 (show (0 : Int) ≤ b - 1 by omega)
      have q : (b - 1) * a = b * a - a := by rw [Int.sub_mul]; omega
      have q2 : (b - 1) * 1000000 = b * 1000000 - 1000000 := by rw [Int.sub_mul]; omega
      omega
  exact ⟨(key _ _ h1 (by omega) (by omega)).1, (key _ _ h1 (by omega) (by omega)).2, (key _ _ (by omega) h3 p1).1, (key _ _ (by omega) h3 p1).2⟩
end Go.Azalai
namespace Go.Proofs.Ytkjldleglbbkeaa
open Go Go.Sx Go.Azalai
def sres (r : Span × Int) : SV := .tup [.agg (spanL r.1), I r.2]
theorem paceR_ok (p : Span) : Ct Try.prog 89 [.agg (spanL p)] (B (okPace p)) := by
  refine t89 (by simp [spanL, KFL, KF]) (by simp [KFL, KF]) ?_
  dsimp only [c89, r89, spanL, go_sem, Nat.reduceAdd, Nat.reduceMul, Nat.reduceSub]
  refine call (spanned_ok p _ _) ?_
  dsimp only [go_sem, Nat.reduceAdd, Nat.reduceMul, Nat.reduceSub]
  simp [okPace]
theorem asked_ok (l : Land) (hs : Small l) (p : Span) : Ct Try.prog 66 [.agg (landL l), .agg (spanL p)] (I (askF l p)) := by
  refine t66 (by simp [landL, wellL, legL, gateL, spanL, KFR_iff, KFL, KF]) (by simp [KFL, KF]) ?_
  dsimp only [c66, r66, landL, spanL, go_sem, Nat.reduceAdd, Nat.reduceMul, Nat.reduceSub]
  refine call (landR_ok l hs) ?_
  dsimp only [go_sem, Nat.reduceAdd, Nat.reduceMul, Nat.reduceSub]
  refine br ?_ ?_
  · intro h
    dsimp only [go_sem, Nat.reduceAdd, Nat.reduceMul, Nat.reduceSub]
    have : okLand l = false := by simpa using h
    simp [askF, this]
  intro h
  dsimp only [go_sem, Nat.reduceAdd, Nat.reduceMul, Nat.reduceSub]
  refine call (paceR_ok p) ?_
  dsimp only [go_sem, Nat.reduceAdd, Nat.reduceMul, Nat.reduceSub]
  refine br ?_ ?_
  · intro h2
    dsimp only [go_sem, Nat.reduceAdd, Nat.reduceMul, Nat.reduceSub]
    have : okPace p = false := by simpa using h2
    simp_all [askF]
  · intro h2
    dsimp only [go_sem, Nat.reduceAdd, Nat.reduceMul, Nat.reduceSub]
    have : okPace p = true := by simpa using h2
    simp_all [askF]
theorem dayR_ok (x : Leg) (p : Span) (hx : GoodLeg x) (hp : okPace p = true) : Ct Try.prog 67 [.agg (legL x), .agg (spanL p)] (.agg (spanL (dayF x p))) := by
  have hb := day_bd hx hp
  have hp' := hp
  simp only [okPace, okSp, decide_eq_true_eq] at hp'
  obtain ⟨h1, h2, h3, h4, h5⟩ := hx
  refine t67 (by simp [legL, gateL, spanL, KFR_iff, KFL, KF]) (by simp [spanL, KFL, KF]) ?_
  dsimp only [c67, r67, legL, spanL, go_sem, Nat.reduceAdd, Nat.reduceMul, Nat.reduceSub]
  rw [w64_in (n := x.long.lo + p.hi) (by omega) (by omega), w64_in (n := x.long.lo + p.hi - 1) (by omega) (by omega)]
  refine div0 (by omega) ?_
  dsimp only [go_sem, Nat.reduceAdd, Nat.reduceMul, Nat.reduceSub]
  rw [w64_in (n := x.long.hi + p.lo) (by omega) (by omega), w64_in (n := x.long.hi + p.lo - 1) (by omega) (by omega)]
  refine div0 (by omega) ?_
  dsimp only [go_sem, Nat.reduceAdd, Nat.reduceMul, Nat.reduceSub]
  simp only [dayF] at hb ⊢
  rw [w64_in (n := (x.long.lo + p.hi - 1).tdiv p.hi) (by omega) (by omega), w64_in (n := (x.long.hi + p.lo - 1).tdiv p.lo) (by omega) (by omega)]
theorem may_ok (x : Leg) (day : Int) (p : Span) (hx : GoodLeg x) (hp : okPace p = true) (hd : inR 0 100001 day = true) : Ct Try.prog 69 [.agg (legL x), I day, .agg (spanL p)] (I (mayF x p day)) := by
  have hb := day_bd hx hp
  have hg := okGates_mem hx.g2 (Int.le_refl _)
  have hl := hx.g1
  simp only [inR, decide_eq_true_eq] at hd
  refine t69 (by simp [legL, gateL, spanL, KFR_iff, KFL, KF]) (by simp [KFL, KF]) ?_
  dsimp only [c69, r69, legL, spanL, go_sem, Nat.reduceAdd, Nat.reduceMul, Nat.reduceSub]
  refine loopO (fun k : Nat => [(7, I k)]) (fun _ => []) (fun k => k ≤ x.gates.length ∧ outL (dayF x p).lo day (·.opens.lo) (·.shuts.hi) (x.gates.drop k) = mayF x p day) (fun k => x.gates.length - k) 0 ⟨Nat.zero_le _, rfl⟩ ?_ ?_
  · (refine ent_id ?_ ?_ ?_ rfl rfl <;> dsimp only [gateL, legL, spanL, id, go_sem, Nat.reduceAdd, Nat.reduceMul, Nat.reduceSub] <;> simp [gateL, legL, spanL, KFR_iff, KFR_app, KFR, KFL, KF, mtL_same, mtO, Nat.beq_refl])
  intro k ⟨hk, hi⟩
  dsimp only [go_sem, Nat.reduceAdd, Nat.reduceMul, Nat.reduceSub]
  by_cases hlt : k < x.gates.length
  · refine br_t (by simpa using hlt) ?_
    dsimp only [go_sem, Nat.reduceAdd, Nat.reduceMul, Nat.reduceSub]
    have hgk := hg x.gates[k] (List.getElem_mem _)
    rw [List.drop_eq_getElem_cons hlt, outL] at hi
    refine ixs_map k hlt rfl ?_
    dsimp only [gateL, go_sem, Nat.reduceAdd, Nat.reduceMul, Nat.reduceSub]
    repeat (first | (refine gb ?_; dsimp only [go_sem, Nat.reduceAdd, Nat.reduceMul, Nat.reduceSub]) | (refine call (dayR_ok x p hx hp) ?_; dsimp only [spanL, go_sem, Nat.reduceAdd, Nat.reduceMul, Nat.reduceSub]) | (refine ixs_map k hlt rfl ?_; dsimp only [gateL, go_sem, Nat.reduceAdd, Nat.reduceMul, Nat.reduceSub]))
    rw [w64_in (n := max day x.gates[k].opens.lo + (dayF x p).lo) (by omega) (by omega), w64_in (n := max day x.gates[k].opens.lo + (dayF x p).lo - 1) (by omega) (by omega)]
    refine br ?_ ?_
    · intro h
      dsimp only [go_sem, Nat.reduceAdd, Nat.reduceMul, Nat.reduceSub]
      rw [if_pos (by simpa using h)] at hi
      rw [← hi]
    · intro h
      dsimp only [go_sem, Nat.reduceAdd, Nat.reduceMul, Nat.reduceSub]
      rw [if_neg (by simpa using h)] at hi
      rw [w64_in (n := (k : Int) + 1) (by omega) (by omega)]
      refine ⟨k + 1, ⟨hlt, hi⟩, by omega, ?_⟩
      (refine ent_id ?_ ?_ ?_ rfl rfl <;> dsimp only [gateL, legL, spanL, id, go_sem, Nat.reduceAdd, Nat.reduceMul, Nat.reduceSub] <;> simp [gateL, legL, spanL, KFR_iff, KFR_app, KFR, KFL, KF, mtL_same, mtO, Nat.beq_refl])
  refine br_f (by simp; omega) ?_
  dsimp only [go_sem, Nat.reduceAdd, Nat.reduceMul, Nat.reduceSub]
  have hke : k = x.gates.length := by omega
  subst hke
  rw [List.drop_length, outL] at hi
  rw [← hi]
theorem can_ok (x : Leg) (day : Int) (p : Span) (hx : GoodLeg x) (hp : okPace p = true) (hd : inR 0 100001 day = true) : Ct Try.prog 70 [.agg (legL x), I day, .agg (spanL p)] (I (canF x p day)) := by
  have hb := day_bd hx hp
  have hg := okGates_mem hx.g2 (Int.le_refl _)
  have hl := hx.g1
  simp only [inR, decide_eq_true_eq] at hd
  refine t70 (by simp [legL, gateL, spanL, KFR_iff, KFL, KF]) (by simp [KFL, KF]) ?_
  dsimp only [c70, r70, legL, spanL, go_sem, Nat.reduceAdd, Nat.reduceMul, Nat.reduceSub]
  refine loopO (fun k : Nat => [(7, I k)]) (fun _ => []) (fun k => k ≤ x.gates.length ∧ outL (dayF x p).hi day (·.opens.hi) (·.shuts.lo) (x.gates.drop k) = canF x p day) (fun k => x.gates.length - k) 0 ⟨Nat.zero_le _, rfl⟩ ?_ ?_
  · (refine ent_id ?_ ?_ ?_ rfl rfl <;> dsimp only [gateL, legL, spanL, id, go_sem, Nat.reduceAdd, Nat.reduceMul, Nat.reduceSub] <;> simp [gateL, legL, spanL, KFR_iff, KFR_app, KFR, KFL, KF, mtL_same, mtO, Nat.beq_refl])
  intro k ⟨hk, hi⟩
  dsimp only [go_sem, Nat.reduceAdd, Nat.reduceMul, Nat.reduceSub]
  by_cases hlt : k < x.gates.length
  · refine br_t (by simpa using hlt) ?_
    dsimp only [go_sem, Nat.reduceAdd, Nat.reduceMul, Nat.reduceSub]
    have hgk := hg x.gates[k] (List.getElem_mem _)
    rw [List.drop_eq_getElem_cons hlt, outL] at hi
    refine ixs_map k hlt rfl ?_
    dsimp only [gateL, go_sem, Nat.reduceAdd, Nat.reduceMul, Nat.reduceSub]
    repeat (first | (refine gb ?_; dsimp only [go_sem, Nat.reduceAdd, Nat.reduceMul, Nat.reduceSub]) | (refine call (dayR_ok x p hx hp) ?_; dsimp only [spanL, go_sem, Nat.reduceAdd, Nat.reduceMul, Nat.reduceSub]) | (refine ixs_map k hlt rfl ?_; dsimp only [gateL, go_sem, Nat.reduceAdd, Nat.reduceMul, Nat.reduceSub]))
    rw [w64_in (n := max day x.gates[k].opens.hi + (dayF x p).hi) (by omega) (by omega), w64_in (n := max day x.gates[k].opens.hi + (dayF x p).hi - 1) (by omega) (by omega)]
    refine br ?_ ?_
    · intro h
      dsimp only [go_sem, Nat.reduceAdd, Nat.reduceMul, Nat.reduceSub]
      rw [if_pos (by simpa using h)] at hi
      rw [← hi]
    · intro h
      dsimp only [go_sem, Nat.reduceAdd, Nat.reduceMul, Nat.reduceSub]
      rw [if_neg (by simpa using h)] at hi
      rw [w64_in (n := (k : Int) + 1) (by omega) (by omega)]
      refine ⟨k + 1, ⟨hlt, hi⟩, by omega, ?_⟩
      (refine ent_id ?_ ?_ ?_ rfl rfl <;> dsimp only [gateL, legL, spanL, id, go_sem, Nat.reduceAdd, Nat.reduceMul, Nat.reduceSub] <;> simp [gateL, legL, spanL, KFR_iff, KFR_app, KFR, KFL, KF, mtL_same, mtO, Nat.beq_refl])
  refine br_f (by simp; omega) ?_
  dsimp only [go_sem, Nat.reduceAdd, Nat.reduceMul, Nat.reduceSub]
  have hke : k = x.gates.length := by omega
  subst hke
  rw [List.drop_length, outL] at hi
  rw [← hi]
theorem ask0 {l : Land} {p : Span} (h : askF l p = 0) : okLand l = true ∧ okPace p = true := by
  unfold askF at h
  cases h1 : okLand l <;> cases h2 : okPace p <;> simp_all
end Go.Proofs.Ytkjldleglbbkeaa
set_option maxRecDepth 100000
set_option maxHeartbeats 4000000
namespace Go.Proofs.Ytkjldleglbbkeaa
open Go Go.Sx Go.Azalai
theorem min3_ok (a b d : Int) (c : Bool) : Ct Try.prog 104 [.sl c 1 [[I a], [I b], [I d]]] (I (min (min a b) d)) := by
  refine t104 (by simp [KFR, KFL, KF]) (by simp [KFL, KF]) ?_
  dsimp only [c104, r104, go_sem, Nat.reduceAdd, Nat.reduceMul, Nat.reduceSub]
  refine br_f (by decide) ?_
  dsimp only [go_sem, Nat.reduceAdd, Nat.reduceMul, Nat.reduceSub]
  refine ixs 0 [I a] rfl rfl ?_
  dsimp only [go_sem, Nat.reduceAdd, Nat.reduceMul, Nat.reduceSub]
  refine unroll 3 ?_
  dsimp only [rnds_succ, go_sem, Nat.reduceAdd, Nat.reduceMul, Nat.reduceSub]
  refine br_t (by decide) ?_
  dsimp only [rnds_succ, go_sem, Nat.reduceAdd, Nat.reduceMul, Nat.reduceSub]
  refine ixs 1 [I b] rfl rfl ?_
  dsimp only [rnds_succ, go_sem, Nat.reduceAdd, Nat.reduceMul, Nat.reduceSub]
  refine br_t (by decide) ?_
  dsimp only [rnds_succ, go_sem, Nat.reduceAdd, Nat.reduceMul, Nat.reduceSub]
  refine ixs 2 [I d] rfl rfl ?_
  dsimp only [rnds_succ, go_sem, Nat.reduceAdd, Nat.reduceMul, Nat.reduceSub]
  refine br_f (by decide) ?_
  dsimp only [go_sem, Nat.reduceAdd, Nat.reduceMul, Nat.reduceSub]
theorem first_ok (a b : Int) : Ct Try.prog 94 [.sl true 1 [[I a], [I b]]] (I (min (min a b) 100001)) := by
  refine t94 (by simp [KFR, KFL, KF]) (by simp [KFL, KF]) ?_
  dsimp only [c94, r94, go_sem, Nat.reduceAdd, Nat.reduceMul, Nat.reduceSub]
  refine app0 (by simp) ?_
  dsimp only [go_sem, Nat.reduceAdd, Nat.reduceMul, Nat.reduceSub]
  refine call (min3_ok a b 100001 false) ?_
  dsimp only [go_sem, Nat.reduceAdd, Nat.reduceMul, Nat.reduceSub]
theorem outL_le {n day : Int} {o s : Gate → Int} (hn : 1 ≤ n) : ∀ {l : List Gate}, (∀ g ∈ l, s g ≤ 100000) → outL n day o s l ≤ 100001
  | [], _ => by simp only [outL]; omega
  | x :: l, h => by
    have := h x (by simp)
    have := outL_le (day := day) (o := o) (s := s) (l := l) hn (fun g hg => h g (by simp [hg]))
    simp only [outL]; split <;> omega
def carL (l : Land) (p : Span) : List SV := [.sl false 9 (l.wells.map wellL), .sl false 5 (l.legs.map legL), I p.lo, I p.hi]
theorem open_ok (l : Land) (hs : Small l) (p : Span) (ha : askF l p = 0) : Ct Try.prog 63 [.agg (landL l), .agg (spanL p)] (.tup [.agg (carL l p), I 0]) := by
  obtain ⟨h1, h2⟩ := ask0 ha
  refine t63 (by simp [landL, wellL, legL, gateL, spanL, KFR_iff, KFL, KF]) (by simp [carL, wellL, legL, gateL, spanL, KFR_iff, KFL, KF]) ?_
  dsimp only [c63, r63, landL, spanL, go_sem, Nat.reduceAdd, Nat.reduceMul, Nat.reduceSub]
  refine call (check_ok l hs) ?_
  dsimp only [go_sem, Nat.reduceAdd, Nat.reduceMul, Nat.reduceSub]
  refine br_f (by simp [h1]) ?_
  dsimp only [go_sem, Nat.reduceAdd, Nat.reduceMul, Nat.reduceSub]
  refine call (ordered1 1 100000 p _) ?_
  dsimp only [go_sem, Nat.reduceAdd, Nat.reduceMul, Nat.reduceSub]
  refine br_f (by simpa [okPace] using h2) ?_
  dsimp only [carL, go_sem, Nat.reduceAdd, Nat.reduceMul, Nat.reduceSub]
theorem open_err (l : Land) (hs : Small l) (p : Span) (ha : askF l p ≠ 0) : Ct Try.prog 63 [.agg (landL l), .agg (spanL p)] (.tup [.agg [.v (.slice none 0 0), .v (.slice none 0 0), I 0, I 0], I (askF l p)]) := by
  refine t63 (by simp [landL, wellL, legL, gateL, spanL, KFR_iff, KFL, KF]) (by simp [KFL, KF]) ?_
  dsimp only [c63, r63, landL, spanL, go_sem, Nat.reduceAdd, Nat.reduceMul, Nat.reduceSub]
  refine call (check_ok l hs) ?_
  dsimp only [go_sem, Nat.reduceAdd, Nat.reduceMul, Nat.reduceSub]
  by_cases h1 : okLand l = true
  case neg =>
    refine br_t (by simp [h1]) ?_
    dsimp only [go_sem, Nat.reduceAdd, Nat.reduceMul, Nat.reduceSub]
    simp [askF, h1]
  refine br_f (by simp [h1]) ?_
  dsimp only [go_sem, Nat.reduceAdd, Nat.reduceMul, Nat.reduceSub]
  refine call (ordered1 1 100000 p _) ?_
  dsimp only [go_sem, Nat.reduceAdd, Nat.reduceMul, Nat.reduceSub]
  have h2 : okPace p = false := by
    by_cases h2 : okPace p = true
    · exact absurd (by simp [askF, h1, h2]) ha
    · simpa using h2
  refine br_t (by simpa [okPace] using h2) ?_
  dsimp only [go_sem, Nat.reduceAdd, Nat.reduceMul, Nat.reduceSub]
  simp [askF, h1, h2]
theorem cdays_ok (l : Land) (p : Span) (k : Nat) (hk : k < l.legs.length) (hx : GoodLeg l.legs[k]) (hp : okPace p = true) : Ct Try.prog 64 [.agg (carL l p), I k] (.agg (spanL (dayF l.legs[k] p))) := by
  have hb := day_bd hx hp
  have hp' := hp
  simp only [okPace, okSp, decide_eq_true_eq] at hp'
  obtain ⟨h1, h2, h3, h4, h5⟩ := hx
  refine t64 (by simp [carL, wellL, legL, gateL, spanL, KFR_iff, KFL, KF]) (by simp [spanL, KFL, KF]) ?_
  dsimp only [c64, r64, carL, go_sem, Nat.reduceAdd, Nat.reduceMul, Nat.reduceSub]
  refine ixs_map k hk rfl ?_
  dsimp only [legL, go_sem, Nat.reduceAdd, Nat.reduceMul, Nat.reduceSub]
  rw [w64_in (n := l.legs[k].long.lo + p.hi) (by omega) (by omega), w64_in (n := l.legs[k].long.lo + p.hi - 1) (by omega) (by omega)]
  refine div0 (by omega) ?_
  dsimp only [go_sem, Nat.reduceAdd, Nat.reduceMul, Nat.reduceSub]
  rw [w64_in (n := l.legs[k].long.hi + p.lo) (by omega) (by omega), w64_in (n := l.legs[k].long.hi + p.lo - 1) (by omega) (by omega)]
  refine div0 (by omega) ?_
  dsimp only [spanL, go_sem, Nat.reduceAdd, Nat.reduceMul, Nat.reduceSub]
  simp only [dayF] at hb ⊢
  rw [w64_in (n := (l.legs[k].long.lo + p.hi - 1).tdiv p.hi) (by omega) (by omega), w64_in (n := (l.legs[k].long.hi + p.lo - 1).tdiv p.lo) (by omega) (by omega)]
theorem bspan_ok (a b : Int) : Ct Try.prog 65 [.agg [I a, I b]] (.agg [I a, I b]) := by
  refine t65 (by simp [KFL, KF]) (by simp [KFL, KF]) ?_
  dsimp only [c65, r65, go_sem, Nat.reduceAdd, Nat.reduceMul, Nat.reduceSub]
  refine ixa 0 rfl (by decide) ?_
  dsimp only [go_sem, Nat.reduceAdd, Nat.reduceMul, Nat.reduceSub]
  refine ixa 1 rfl (by decide) ?_
  dsimp only [go_sem, Nat.reduceAdd, Nat.reduceMul, Nat.reduceSub]
theorem leave_ok (l : Land) (p : Span) (k : Nat) (hk : k < l.legs.length) (d0 d1 : Int) (hx : GoodLeg l.legs[k]) (hp : okPace p = true) (h0 : inR 0 100001 d0 = true) (h1 : inR 0 100001 d1 = true) :
    Ct Try.prog 68 [.agg (carL l p), I k, .agg [I d0, I d1]] (.agg [I (mayF l.legs[k] p d0), I (canF l.legs[k] p d1)]) := by
  have hb := day_bd hx hp
  have hg := okGates_mem hx.g2 (Int.le_refl _)
  have hl := hx.g1
  simp only [inR, decide_eq_true_eq] at h0 h1
  refine t68 (by simp [carL, wellL, legL, gateL, spanL, KFR_iff, KFL, KF]) (by simp [KFL, KF]) ?_
  dsimp only [c68, r68, carL, go_sem, Nat.reduceAdd, Nat.reduceMul, Nat.reduceSub]
  refine call (cdays_ok l p k hk hx hp) ?_
  dsimp only [spanL, go_sem, Nat.reduceAdd, Nat.reduceMul, Nat.reduceSub]
  refine ixs_map k hk rfl ?_
  dsimp only [legL, go_sem, Nat.reduceAdd, Nat.reduceMul, Nat.reduceSub]
  have e0 : accL (dayF l.legs[k] p).lo d0 (·.opens.lo) (·.shuts.hi) 100001 l.legs[k].gates = mayF l.legs[k] p d0 := by
    rw [acc_out hb.1 (fun g h => by omega) hx.g2 (Int.le_refl _) (by omega)]
    exact Int.min_eq_right (outL_le hb.1 (fun g h => by have := hg g h; omega))
  have e1 : accL (dayF l.legs[k] p).hi d1 (·.opens.hi) (·.shuts.lo) 100001 l.legs[k].gates = canF l.legs[k] p d1 := by
    rw [acc_out hb.2.2.1 (fun g h => by omega) hx.g2 (Int.le_refl _) (by omega)]
    exact Int.min_eq_right (outL_le hb.2.2.1 (fun g h => by have := hg g h; omega))
  generalize hnl : (dayF l.legs[k] p).lo = nl at hb e0
  generalize hnh : (dayF l.legs[k] p).hi = nh at hb e1
  refine loopO (fun s : Nat × Int × Int => [(27, I s.1)]) (fun s => [(4, .cells [I s.2.1, I s.2.2] 123)])
    (fun s => s.1 ≤ l.legs[k].gates.length ∧ accL nl d0 (·.opens.lo) (·.shuts.hi) s.2.1 (l.legs[k].gates.drop s.1) = mayF l.legs[k] p d0 ∧ accL nh d1 (·.opens.hi) (·.shuts.lo) s.2.2 (l.legs[k].gates.drop s.1) = canF l.legs[k] p d1)
    (fun s => l.legs[k].gates.length - s.1) (0, 100001, 100001) ⟨Nat.zero_le _, e0, e1⟩ ?_ ?_
  · (refine ent_id ?_ ?_ ?_ rfl rfl <;> dsimp only [gateL, wellL, legL, spanL, id, go_sem, Nat.reduceAdd, Nat.reduceMul, Nat.reduceSub] <;> simp [gateL, wellL, legL, spanL, KFR_iff, KFR_app, KFR, KFL, KF, mtL_same, mtO, Nat.beq_refl])
  rintro ⟨j, m0, m1⟩ ⟨hj, i0, i1⟩
  simp only at hj i0 i1
  dsimp only [go_sem, Nat.reduceAdd, Nat.reduceMul, Nat.reduceSub]
  by_cases hlt : j < l.legs[k].gates.length
  · refine br_t (by simpa using hlt) ?_
    dsimp only [go_sem, Nat.reduceAdd, Nat.reduceMul, Nat.reduceSub]
    have hgk := hg l.legs[k].gates[j] (List.getElem_mem _)
    rw [List.drop_eq_getElem_cons hlt, accL] at i0 i1
    refine ixs_map j hlt rfl ?_
    dsimp only [gateL, go_sem, Nat.reduceAdd, Nat.reduceMul, Nat.reduceSub]
    refine unroll 3 ?_
    dsimp only [rnds_succ, go_sem, Nat.reduceAdd, Nat.reduceMul, Nat.reduceSub]
    refine br_t (by decide) ?_
    dsimp only [rnds_succ, go_sem, Nat.reduceAdd, Nat.reduceMul, Nat.reduceSub]
    repeat (first | (refine ixa 0 rfl (by decide) ?_; dsimp only [rnds_succ, go_sem, Nat.reduceAdd, Nat.reduceMul, Nat.reduceSub]) | (refine call (first_ok _ _) ?_; dsimp only [rnds_succ, go_sem, Nat.reduceAdd, Nat.reduceMul, Nat.reduceSub]))
    rw [w64_in (n := max d0 l.legs[k].gates[j].opens.lo + nl) (by omega) (by omega), w64_in (n := max d0 l.legs[k].gates[j].opens.lo + nl - 1) (by omega) (by omega)]
    refine br ?_ ?_
    · intro hA
      dsimp only [rnds_succ, go_sem, Nat.reduceAdd, Nat.reduceMul, Nat.reduceSub]
      repeat (first | (refine ixa 0 rfl (by decide) ?_; dsimp only [rnds_succ, go_sem, Nat.reduceAdd, Nat.reduceMul, Nat.reduceSub]) | (refine call (first_ok _ _) ?_; dsimp only [rnds_succ, go_sem, Nat.reduceAdd, Nat.reduceMul, Nat.reduceSub]))
      rw [if_pos (by simpa using hA)] at i0
      refine br_t (by decide) ?_
      dsimp only [rnds_succ, go_sem, Nat.reduceAdd, Nat.reduceMul, Nat.reduceSub]
      repeat (first | (refine ixa 1 rfl (by decide) ?_; dsimp only [rnds_succ, go_sem, Nat.reduceAdd, Nat.reduceMul, Nat.reduceSub]) | (refine call (first_ok _ _) ?_; dsimp only [rnds_succ, go_sem, Nat.reduceAdd, Nat.reduceMul, Nat.reduceSub]))
      rw [w64_in (n := max d1 l.legs[k].gates[j].opens.hi + nh) (by omega) (by omega), w64_in (n := max d1 l.legs[k].gates[j].opens.hi + nh - 1) (by omega) (by omega)]
      refine br ?_ ?_
      · intro hB
        dsimp only [rnds_succ, go_sem, Nat.reduceAdd, Nat.reduceMul, Nat.reduceSub]
        repeat (first | (refine ixa 1 rfl (by decide) ?_; dsimp only [rnds_succ, go_sem, Nat.reduceAdd, Nat.reduceMul, Nat.reduceSub]) | (refine call (first_ok _ _) ?_; dsimp only [rnds_succ, go_sem, Nat.reduceAdd, Nat.reduceMul, Nat.reduceSub]))
        rw [if_pos (by simpa using hB)] at i1
        refine br_f (by decide) ?_
        dsimp only [go_sem, Nat.reduceAdd, Nat.reduceMul, Nat.reduceSub]
        rw [w64_in (n := (j : Int) + 1) (by omega) (by omega)]
        refine ⟨(j + 1, min (min m0 (max d0 l.legs[k].gates[j].opens.lo)) 100001, min (min m1 (max d1 l.legs[k].gates[j].opens.hi)) 100001), ⟨hlt, i0, i1⟩, by simp only; omega, ?_⟩
        (refine ent_id ?_ ?_ ?_ rfl rfl <;> dsimp only [gateL, wellL, legL, spanL, id, go_sem, Nat.reduceAdd, Nat.reduceMul, Nat.reduceSub] <;> simp [gateL, wellL, legL, spanL, KFR_iff, KFR_app, KFR, KFL, KF, mtL_same, mtO, Nat.beq_refl])
      · intro hB
        dsimp only [rnds_succ, go_sem, Nat.reduceAdd, Nat.reduceMul, Nat.reduceSub]
        rw [if_neg (by simpa using hB)] at i1
        refine br_f (by decide) ?_
        dsimp only [go_sem, Nat.reduceAdd, Nat.reduceMul, Nat.reduceSub]
        rw [w64_in (n := (j : Int) + 1) (by omega) (by omega)]
        refine ⟨(j + 1, min (min m0 (max d0 l.legs[k].gates[j].opens.lo)) 100001, m1), ⟨hlt, i0, i1⟩, by simp only; omega, ?_⟩
        (refine ent_id ?_ ?_ ?_ rfl rfl <;> dsimp only [gateL, wellL, legL, spanL, id, go_sem, Nat.reduceAdd, Nat.reduceMul, Nat.reduceSub] <;> simp [gateL, wellL, legL, spanL, KFR_iff, KFR_app, KFR, KFL, KF, mtL_same, mtO, Nat.beq_refl])
    · intro hA
      dsimp only [rnds_succ, go_sem, Nat.reduceAdd, Nat.reduceMul, Nat.reduceSub]
      rw [if_neg (by simpa using hA)] at i0
      refine br_t (by decide) ?_
      dsimp only [rnds_succ, go_sem, Nat.reduceAdd, Nat.reduceMul, Nat.reduceSub]
      repeat (first | (refine ixa 1 rfl (by decide) ?_; dsimp only [rnds_succ, go_sem, Nat.reduceAdd, Nat.reduceMul, Nat.reduceSub]) | (refine call (first_ok _ _) ?_; dsimp only [rnds_succ, go_sem, Nat.reduceAdd, Nat.reduceMul, Nat.reduceSub]))
      rw [w64_in (n := max d1 l.legs[k].gates[j].opens.hi + nh) (by omega) (by omega), w64_in (n := max d1 l.legs[k].gates[j].opens.hi + nh - 1) (by omega) (by omega)]
      refine br ?_ ?_
      · intro hB
        dsimp only [rnds_succ, go_sem, Nat.reduceAdd, Nat.reduceMul, Nat.reduceSub]
        repeat (first | (refine ixa 1 rfl (by decide) ?_; dsimp only [rnds_succ, go_sem, Nat.reduceAdd, Nat.reduceMul, Nat.reduceSub]) | (refine call (first_ok _ _) ?_; dsimp only [rnds_succ, go_sem, Nat.reduceAdd, Nat.reduceMul, Nat.reduceSub]))
        rw [if_pos (by simpa using hB)] at i1
        refine br_f (by decide) ?_
        dsimp only [go_sem, Nat.reduceAdd, Nat.reduceMul, Nat.reduceSub]
        rw [w64_in (n := (j : Int) + 1) (by omega) (by omega)]
        refine ⟨(j + 1, m0, min (min m1 (max d1 l.legs[k].gates[j].opens.hi)) 100001), ⟨hlt, i0, i1⟩, by simp only; omega, ?_⟩
        (refine ent_id ?_ ?_ ?_ rfl rfl <;> dsimp only [gateL, wellL, legL, spanL, id, go_sem, Nat.reduceAdd, Nat.reduceMul, Nat.reduceSub] <;> simp [gateL, wellL, legL, spanL, KFR_iff, KFR_app, KFR, KFL, KF, mtL_same, mtO, Nat.beq_refl])
      · intro hB
        dsimp only [rnds_succ, go_sem, Nat.reduceAdd, Nat.reduceMul, Nat.reduceSub]
        rw [if_neg (by simpa using hB)] at i1
        refine br_f (by decide) ?_
        dsimp only [go_sem, Nat.reduceAdd, Nat.reduceMul, Nat.reduceSub]
        rw [w64_in (n := (j : Int) + 1) (by omega) (by omega)]
        refine ⟨(j + 1, m0, m1), ⟨hlt, i0, i1⟩, by simp only; omega, ?_⟩
        (refine ent_id ?_ ?_ ?_ rfl rfl <;> dsimp only [gateL, wellL, legL, spanL, id, go_sem, Nat.reduceAdd, Nat.reduceMul, Nat.reduceSub] <;> simp [gateL, wellL, legL, spanL, KFR_iff, KFR_app, KFR, KFL, KF, mtL_same, mtO, Nat.beq_refl])
  refine br_f (by simp; omega) ?_
  dsimp only [go_sem, Nat.reduceAdd, Nat.reduceMul, Nat.reduceSub]
  have hke : j = l.legs[k].gates.length := by omega
  subst hke
  rw [List.drop_length, accL] at i0 i1
  rw [← i0, ← i1]
end Go.Proofs.Ytkjldleglbbkeaa
set_option maxRecDepth 100000
set_option maxHeartbeats 4000000
namespace Go.Proofs.Ytkjldleglbbkeaa
open Go Go.Sx Go.Azalai
theorem twin_ok (l : Land) (hs : Small l) : Ct Try.prog 21 [.agg (landL l)] (.agg (landL l)) := by
  refine t21 (by simp [landL, wellL, legL, gateL, KFR_iff, KFL, KF]) (by simp [landL, wellL, legL, gateL, KFR_iff, KFL, KF]) ?_
  dsimp only [c21, r21, landL, go_sem, Nat.reduceAdd, Nat.reduceMul, Nat.reduceSub]
  refine app0 (by simp; have := hs.1; omega) ?_
  dsimp only [go_sem, Nat.reduceAdd, Nat.reduceMul, Nat.reduceSub]
  refine ⟨by simp; have := hs.2.1; omega, ?_⟩
  dsimp only [go_sem, Nat.reduceAdd, Nat.reduceMul, Nat.reduceSub]
  refine loopO (fun k : Nat => [(3, I k)]) (fun _ => []) (fun k => k ≤ l.legs.length) (fun k => l.legs.length - k) 0 (Nat.zero_le _) ?_ ?_
  · (refine ent_id ?_ ?_ ?_ rfl rfl <;> dsimp only [gateL, wellL, legL, id, go_sem, Nat.reduceAdd, Nat.reduceMul, Nat.reduceSub] <;> simp [gateL, wellL, legL, KFR_iff, KFR_app, KFR, KFL, KF, mtL_same, mtO, Nat.beq_refl])
  intro k hk
  dsimp only [go_sem, Nat.reduceAdd, Nat.reduceMul, Nat.reduceSub]
  simp only [List.length_map]
  by_cases hlt : k < l.legs.length
  · refine br_t (by simpa using hlt) ?_
    dsimp only [go_sem, Nat.reduceAdd, Nat.reduceMul, Nat.reduceSub]
    refine ixrm k rfl (by simpa using hlt) ?_
    dsimp only [go_sem, Nat.reduceAdd, Nat.reduceMul, Nat.reduceSub]
    refine ldrm hlt ?_
    dsimp only [legL, go_sem, Nat.reduceAdd, Nat.reduceMul, Nat.reduceSub]
    refine app0 (by simp; have := hs.2.2 _ (List.getElem_mem hlt); omega) ?_
    dsimp only [go_sem, Nat.reduceAdd, Nat.reduceMul, Nat.reduceSub]
    refine ixrm k rfl (by simpa using hlt) ?_
    dsimp only [go_sem, Nat.reduceAdd, Nat.reduceMul, Nat.reduceSub]
    refine strm l.legs[k] hlt (by simp [legL]) (by simp [legL, splice]) ?_
    rw [List.set_getElem_self]
    dsimp only [go_sem, Nat.reduceAdd, Nat.reduceMul, Nat.reduceSub]
    rw [w64_in (n := (k : Int) + 1) (by omega) (by have := hs.2.1; omega)]
    refine ⟨k + 1, hlt, by omega, ?_⟩
    (refine ent_id ?_ ?_ ?_ rfl rfl <;> dsimp only [gateL, wellL, legL, id, go_sem, Nat.reduceAdd, Nat.reduceMul, Nat.reduceSub] <;> simp [gateL, wellL, legL, KFR_iff, KFR_app, KFR, KFL, KF, mtL_same, mtO, Nat.beq_refl])
  refine br_f (by simp; omega) ?_
  dsimp only [go_sem, Nat.reduceAdd, Nat.reduceMul, Nat.reduceSub]
theorem same_ok (l : Land) (hs : Small l) : Ct Try.prog 28 [.agg (landL l), .agg (landL l)] (B true) := by
  refine t28 (by simp [landL, wellL, legL, gateL, KFR_iff, KFL, KF]) (by simp [KFL, KF]) ?_
  dsimp only [c28, r28, landL, go_sem, Nat.reduceAdd, Nat.reduceMul, Nat.reduceSub]
  repeat (refine gb ?_; dsimp only [go_sem, Nat.reduceAdd, Nat.reduceMul, Nat.reduceSub])
  refine br_f (by simp) ?_
  dsimp only [go_sem, Nat.reduceAdd, Nat.reduceMul, Nat.reduceSub]
  refine loopO (fun k : Nat => [(5, I k)]) (fun _ => []) (fun k => k ≤ l.wells.length) (fun k => l.wells.length - k) 0 (Nat.zero_le _) ?_ ?_
  · (refine ent_id ?_ ?_ ?_ rfl rfl <;> dsimp only [gateL, wellL, legL, id, go_sem, Nat.reduceAdd, Nat.reduceMul, Nat.reduceSub] <;> simp [gateL, wellL, legL, KFR_iff, KFR_app, KFR, KFL, KF, mtL_same, mtO, Nat.beq_refl])
  · intro k hk
    dsimp only [go_sem, Nat.reduceAdd, Nat.reduceMul, Nat.reduceSub]
    by_cases hlt : k < l.wells.length
    · refine br_t (by simpa using hlt) ?_
      dsimp only [go_sem, Nat.reduceAdd, Nat.reduceMul, Nat.reduceSub]
      refine ixs_map k hlt rfl ?_
      dsimp only [go_sem, Nat.reduceAdd, Nat.reduceMul, Nat.reduceSub]
      refine ixs_map k hlt rfl ?_
      dsimp only [wellL, go_sem, Nat.reduceAdd, Nat.reduceMul, Nat.reduceSub]
      refine br_f (by simp [ngB]) ?_
      dsimp only [go_sem, Nat.reduceAdd, Nat.reduceMul, Nat.reduceSub]
      rw [w64_in (n := (k : Int) + 1) (by omega) (by have := hs.1; omega)]
      refine ⟨k + 1, hlt, by omega, ?_⟩
      (refine ent_id ?_ ?_ ?_ rfl rfl <;> dsimp only [gateL, wellL, legL, id, go_sem, Nat.reduceAdd, Nat.reduceMul, Nat.reduceSub] <;> simp [gateL, wellL, legL, KFR_iff, KFR_app, KFR, KFL, KF, mtL_same, mtO, Nat.beq_refl])
    refine br_f (by simp; omega) ?_
    dsimp only [go_sem, Nat.reduceAdd, Nat.reduceMul, Nat.reduceSub]
    refine loopO (fun k : Nat => [(6, I k)]) (fun _ => []) (fun k => k ≤ l.legs.length) (fun k => l.legs.length - k) 0 (Nat.zero_le _) ?_ ?_
    · (refine ent_id ?_ ?_ ?_ rfl rfl <;> dsimp only [gateL, wellL, legL, id, go_sem, Nat.reduceAdd, Nat.reduceMul, Nat.reduceSub] <;> simp [gateL, wellL, legL, KFR_iff, KFR_app, KFR, KFL, KF, mtL_same, mtO, Nat.beq_refl])
    · intro k hk
      dsimp only [go_sem, Nat.reduceAdd, Nat.reduceMul, Nat.reduceSub]
      by_cases hlt : k < l.legs.length
      · refine br_t (by simpa using hlt) ?_
        dsimp only [go_sem, Nat.reduceAdd, Nat.reduceMul, Nat.reduceSub]
        refine ixs_map k hlt rfl ?_
        dsimp only [go_sem, Nat.reduceAdd, Nat.reduceMul, Nat.reduceSub]
        refine ixs_map k hlt rfl ?_
        dsimp only [legL, go_sem, Nat.reduceAdd, Nat.reduceMul, Nat.reduceSub]
        repeat (refine gb ?_; dsimp only [go_sem, Nat.reduceAdd, Nat.reduceMul, Nat.reduceSub])
        refine br_f (by simp [ngB]) ?_
        dsimp only [go_sem, Nat.reduceAdd, Nat.reduceMul, Nat.reduceSub]
        refine loopO (fun k : Nat => [(9, I k)]) (fun _ => []) (fun j => j ≤ l.legs[k].gates.length) (fun j => l.legs[k].gates.length - j) 0 (Nat.zero_le _) ?_ ?_
        · (refine ent_id ?_ ?_ ?_ rfl rfl <;> dsimp only [gateL, wellL, legL, id, go_sem, Nat.reduceAdd, Nat.reduceMul, Nat.reduceSub] <;> simp [gateL, wellL, legL, KFR_iff, KFR_app, KFR, KFL, KF, mtL_same, mtO, Nat.beq_refl])
        · intro j hj
          dsimp only [go_sem, Nat.reduceAdd, Nat.reduceMul, Nat.reduceSub]
          by_cases hl2 : j < l.legs[k].gates.length
          · refine br_t (by simpa using hl2) ?_
            dsimp only [go_sem, Nat.reduceAdd, Nat.reduceMul, Nat.reduceSub]
            refine ixs_map j hl2 rfl ?_
            dsimp only [go_sem, Nat.reduceAdd, Nat.reduceMul, Nat.reduceSub]
            refine ixs_map j hl2 rfl ?_
            dsimp only [gateL, go_sem, Nat.reduceAdd, Nat.reduceMul, Nat.reduceSub]
            refine br_f (by simp [ngB]) ?_
            dsimp only [go_sem, Nat.reduceAdd, Nat.reduceMul, Nat.reduceSub]
            rw [w64_in (n := (j : Int) + 1) (by omega) (by have := hs.2.2 _ (List.getElem_mem hlt); omega)]
            refine ⟨j + 1, hl2, by omega, ?_⟩
            (refine ent_id ?_ ?_ ?_ rfl rfl <;> dsimp only [gateL, wellL, legL, id, go_sem, Nat.reduceAdd, Nat.reduceMul, Nat.reduceSub] <;> simp [gateL, wellL, legL, KFR_iff, KFR_app, KFR, KFL, KF, mtL_same, mtO, Nat.beq_refl])
          refine br_f (by simp; omega) ?_
          dsimp only [go_sem, Nat.reduceAdd, Nat.reduceMul, Nat.reduceSub]
          rw [w64_in (n := (k : Int) + 1) (by omega) (by have := hs.2.1; omega)]
          refine ⟨k + 1, hlt, by omega, ?_⟩
          (refine ent_id ?_ ?_ ?_ rfl rfl <;> dsimp only [gateL, wellL, legL, id, go_sem, Nat.reduceAdd, Nat.reduceMul, Nat.reduceSub] <;> simp [gateL, wellL, legL, KFR_iff, KFR_app, KFR, KFL, KF, mtL_same, mtO, Nat.beq_refl])
      refine br_f (by simp; omega) ?_
      dsimp only [go_sem, Nat.reduceAdd, Nat.reduceMul, Nat.reduceSub]
end Go.Proofs.Ytkjldleglbbkeaa
set_option maxRecDepth 100000
set_option maxHeartbeats 4000000
namespace Go.Azalai
theorem outL_bd {n day : Int} {o s : Gate → Int} (hn : 1 ≤ n) (hd : day ≤ 100001) : ∀ {l : List Gate}, (∀ g ∈ l, s g ≤ 100000) → (day ≤ outL n day o s l ∧ outL n day o s l ≤ 100001) ∧ (outL n day o s l = 100001 ∨ outL n day o s l + n ≤ 100001)
  | [], _ => ⟨⟨by simp only [outL]; omega, by simp only [outL]; omega⟩, .inl rfl⟩
  | x :: l, h => by
    have := h x (by simp)
    have := outL_bd (day := day) (o := o) (s := s) (l := l) hn hd (fun g hg => h g (by simp [hg]))
    simp only [outL]; split <;> omega
theorem outL_ub {n day : Int} {o s : Gate → Int} (hn : 1 ≤ n) : ∀ {l : List Gate}, (∀ g ∈ l, s g ≤ 100000) → outL n day o s l ≤ 100001
  | [], _ => by simp only [outL]; omega
  | x :: l, h => by
    have := h x (by simp)
    have := outL_ub (day := day) (o := o) (s := s) (l := l) hn (fun g hg => h g (by simp [hg]))
    simp only [outL]; split <;> omega
/-- the days of a leg, at best or for sure -/
def nK (k : Bool) (x : Leg) (p : Span) : Int := bif k then (dayF x p).hi else (dayF x p).lo
def leK (k : Bool) (x : Leg) (p : Span) (t : Int) : Int := bif k then canF x p t else mayF x p t
def arrK (k : Bool) (x : Leg) (p : Span) (t : Int) : Int := min 100001 (leK k x p t + nK k x p)
theorem nK_bd {k : Bool} {x : Leg} {p : Span} (h : GoodLeg x) (hp : okPace p = true) : 1 ≤ nK k x p ∧ nK k x p ≤ 1000000 := by
  have := day_bd h hp
  cases k <;> simp only [nK, cond_true, cond_false] <;> omega
theorem leK_acc {k : Bool} {x : Leg} {p : Span} {t : Int} (h : GoodLeg x) (hp : okPace p = true) :
    leK k x p t = accL (nK k x p) t (fun g => bif k then g.opens.hi else g.opens.lo) (fun g => bif k then g.shuts.lo else g.shuts.hi) 100001 x.gates ∧
    leK k x p t = outL (nK k x p) t (fun g => bif k then g.opens.hi else g.opens.lo) (fun g => bif k then g.shuts.lo else g.shuts.hi) x.gates ∧ ∀ g ∈ x.gates, (bif k then g.shuts.lo else g.shuts.hi) ≤ 100000 := by
  have hn := nK_bd (k := k) h hp
  have hg := okGates_mem h.g2 (Int.le_refl _)
  have h2 : ∀ g ∈ x.gates, (bif k then g.shuts.lo else g.shuts.hi) ≤ 100000 := fun g hm => by have := hg g hm; cases k <;> simp only [cond_true, cond_false] <;> omega
  have h1 : leK k x p t = outL (nK k x p) t (fun g => bif k then g.opens.hi else g.opens.lo) (fun g => bif k then g.shuts.lo else g.shuts.hi) x.gates := by cases k <;> rfl
  refine ⟨?_, h1, h2⟩
  rw [acc_out hn.1 (fun g q => by cases k <;> simp only [cond_true, cond_false] <;> omega) h.g2 (Int.le_refl _) (by omega), h1]
  have := outL_ub (day := t) (o := fun g => bif k then g.opens.hi else g.opens.lo) hn.1 h2
  omega
theorem accL_mono {n : Int} {o s : Gate → Int} {d d' : Int} (hn : 1 ≤ n) (hd : d ≤ d') : ∀ {l : List Gate} {a a' : Int}, a ≤ a' → a' ≤ 100001 → (∀ g ∈ l, s g ≤ 100000) → accL n d o s a l ≤ accL n d' o s a' l
  | [], a, a', ha, _, _ => by simpa only [accL] using ha
  | g :: l, a, a', ha, hb, hs => by
    simp only [accL]
    have := hs g (by simp)
    refine accL_mono hn hd ?_ ?_ (fun g hg => hs g (by simp [hg]))
    · repeat' split
      all_goals omega
    · split <;> omega
theorem arrK_mono {k : Bool} {x : Leg} {p : Span} {t t' : Int} (h : GoodLeg x) (hp : okPace p = true) (ht : t ≤ t') : arrK k x p t ≤ arrK k x p t' := by
  have hn := nK_bd (k := k) h hp
  obtain ⟨a1, _, a3⟩ := leK_acc (k := k) (t := t) h hp
  obtain ⟨b1, _, _⟩ := leK_acc (k := k) (t := t') h hp
  have := accL_mono (o := fun g => bif k then g.opens.hi else g.opens.lo) hn.1 ht (Int.le_refl 100001) (Int.le_refl _) a3
  simp only [arrK]; omega
theorem arrK_bd {k : Bool} {x : Leg} {p : Span} {t : Int} (h : GoodLeg x) (hp : okPace p = true) (ht : t ≤ 100001) : arrK k x p t ≤ 100001 ∧ (t + 1 ≤ arrK k x p t ∨ t = 100001 ∧ arrK k x p t = 100001) ∧ (arrK k x p t < 100001 → arrK k x p t = leK k x p t + nK k x p ∧ leK k x p t < 100001) ∧ (leK k x p t < 100001 → leK k x p t + nK k x p ≤ 100001) ∧ t ≤ leK k x p t ∧ leK k x p t ≤ 100001 := by
  have hn := nK_bd (k := k) h hp
  obtain ⟨_, a2, a3⟩ := leK_acc (k := k) (t := t) h hp
  have := outL_bd (o := fun g => bif k then g.opens.hi else g.opens.lo) hn.1 ht a3
  rw [← a2] at this
  simp only [arrK]; omega
theorem arrK_ge {k : Bool} {x : Leg} {p : Span} {t : Int} (h : GoodLeg x) (hp : okPace p = true) (ht : t ≤ 100001) : t ≤ arrK k x p t := by
  have := arrK_bd (k := k) h hp ht; omega
/-- the other end of a leg; -1 if it has none at a well -/
def otherF (x : Leg) (v : Int) : Int := if x.a = v then x.b else if x.b = v then x.a else -1
/-- where one is, and since when, after legs; nothing if one does not get there -/
def goW (k : Bool) (l : Land) (p : Span) : Int → Int → List Nat → Option (Int × Int)
  | v, t, [] => some (v, t)
  | v, t, i :: r => match l.legs[i]? with
    | none => none
    | some x => if otherF x v < 0 then none else if arrK k x p t > 100000 then none else goW k l p (otherF x v) (arrK k x p t) r
/-- good lands and paces -/
structure OkLP (l : Land) (p : Span) : Prop where
  land : okLand l = true
  pace : okPace p = true
theorem OkLP.leg {l : Land} {p : Span} (h : OkLP l p) {i : Nat} {x : Leg} (hx : l.legs[i]? = some x) : GoodLeg x := okLand_leg h.land x (List.mem_of_getElem? hx)
theorem OkLP.ends {l : Land} {p : Span} (h : OkLP l p) {x : Leg} (hx : x ∈ l.legs) : (0 ≤ x.a ∧ x.a < l.wells.length) ∧ (0 ≤ x.b ∧ x.b < l.wells.length) ∧ x.a ≠ x.b := by
  have h1 := h.land
  simp only [okLand, Bool.and_eq_true, List.all_eq_true] at h1
  have := h1.2 x hx
  simp only [okLeg, inR, Bool.and_eq_true, decide_eq_true_eq, bne_iff_ne] at this
  obtain ⟨⟨⟨⟨⟨q1, q2⟩, q3⟩, _⟩, _⟩, _⟩ := this
  refine ⟨by omega, by omega, q3⟩
theorem otherF_in {l : Land} {p : Span} (h : OkLP l p) {i : Nat} {x : Leg} (hx : l.legs[i]? = some x) {v : Int} (ho : ¬ otherF x v < 0) : (0 ≤ otherF x v ∧ otherF x v < l.wells.length) ∧ (x.a = v ∧ otherF x v = x.b ∨ x.b = v ∧ otherF x v = x.a) ∧ 0 ≤ v ∧ v < l.wells.length := by
  have := h.ends (List.mem_of_getElem? hx)
  unfold otherF at ho ⊢
  split
  · omega
  · split
    · omega
    · rw [if_neg (by assumption), if_neg (by assumption)] at ho; omega
theorem goW_app {k : Bool} {l : Land} {p : Span} : ∀ {a b : List Nat} {v t : Int}, goW k l p v t (a ++ b) = (goW k l p v t a).bind fun s => goW k l p s.1 s.2 b
  | [], b, v, t => rfl
  | i :: a, b, v, t => by
    simp only [List.cons_append, goW]
    cases l.legs[i]? with
    | none => rfl
    | some x =>
      simp only
      split
      · rfl
      · split
        · rfl
        · exact goW_app
theorem goW_bd {k : Bool} {l : Land} {p : Span} (h : OkLP l p) : ∀ {a : List Nat} {v t v' t' : Int}, goW k l p v t a = some (v', t') → t ≤ 100000 → 0 ≤ v → v < l.wells.length → t + a.length ≤ t' ∧ t' ≤ 100000 ∧ 0 ≤ v' ∧ v' < l.wells.length
  | [], v, t, v', t', e, ht, h0, h1 => by simp only [goW, Option.some.injEq, Prod.mk.injEq] at e; simp; omega
  | i :: a, v, t, v', t', e, ht, h0, h1 => by
    simp only [goW] at e
    cases hx : l.legs[i]? with
    | none => rw [hx] at e; cases e
    | some x =>
      rw [hx] at e
      simp only at e
      by_cases ho : otherF x v < 0
      · rw [if_pos ho] at e; cases e
      · rw [if_neg ho] at e
        by_cases hr : arrK k x p t > 100000
        · rw [if_pos hr] at e; cases e
        · rw [if_neg hr] at e
          have hb := arrK_bd (k := k) (h.leg hx) h.pace (show t ≤ 100001 by omega)
          have ho' := otherF_in h hx ho
          have := goW_bd h e (by omega) ho'.1.1 ho'.1.2
          simp only [List.length_cons]; omega
/-- days at wells that no leg makes less -/
def Closed (k : Bool) (l : Land) (p : Span) (d : Int → Int) : Prop := ∀ x ∈ l.legs, d x.b ≤ arrK k x p (d x.a) ∧ d x.a ≤ arrK k x p (d x.b)
theorem closed_go {k : Bool} {l : Land} {p : Span} {d : Int → Int} (h : OkLP l p) (hc : Closed k l p d) : ∀ {a : List Nat} {v t v' t' : Int}, goW k l p v t a = some (v', t') → d v ≤ t → d v' ≤ t'
  | [], v, t, v', t', e, ht => by simp only [goW, Option.some.injEq, Prod.mk.injEq] at e; rw [← e.1]; omega
  | i :: a, v, t, v', t', e, ht => by
    simp only [goW] at e
    cases hx : l.legs[i]? with
    | none => rw [hx] at e; cases e
    | some x =>
      rw [hx] at e
      simp only at e
      by_cases ho : otherF x v < 0
      · rw [if_pos ho] at e; cases e
      · rw [if_neg ho] at e
        by_cases hr : arrK k x p t > 100000
        · rw [if_pos hr] at e; cases e
        · rw [if_neg hr] at e
          refine closed_go h hc e ?_
          have hcx := hc x (List.mem_of_getElem? hx)
          have hm := arrK_mono (k := k) (h.leg hx) h.pace ht
          rcases (otherF_in h hx ho).2.1 with ⟨q1, q2⟩ | ⟨q1, q2⟩
          · rw [q2]; rw [← q1] at hm; omega
          · rw [q2]; rw [← q1] at hm; omega
open Classical in
/-- the first day at a well; 100001 if there is none -/
noncomputable def reachV (k : Bool) (l : Land) (p : Span) (s day v : Int) : Int :=
  if h : ∃ n : Nat, ∃ a, goW k l p s day a = some (v, (n : Int)) then ((Go.Sx.least_ex _ h).choose : Int) else 100001
theorem reachV_le {k : Bool} {l : Land} {p : Span} (h : OkLP l p) {s day v t : Int} {a : List Nat} (e : goW k l p s day a = some (v, t)) (hd : 0 ≤ day) (hd' : day ≤ 100000) (h0 : 0 ≤ s) (h1 : s < l.wells.length) : reachV k l p s day v ≤ t := by
  have hb := goW_bd h e hd' h0 h1
  have hex : ∃ n : Nat, ∃ a, goW k l p s day a = some (v, (n : Int)) := ⟨t.toNat, a, by rw [e, show ((t.toNat : Nat) : Int) = t by omega]⟩
  unfold reachV
  rw [dif_pos hex]
  have := (Go.Sx.least_ex _ hex).choose_spec.2 t.toNat ⟨a, by rw [e, show ((t.toNat : Nat) : Int) = t by omega]⟩
  omega
theorem reachV_real {k : Bool} {l : Land} {p : Span} {s day v : Int} : reachV k l p s day v = 100001 ∨ ∃ a, goW k l p s day a = some (v, reachV k l p s day v) := by
  unfold reachV
  by_cases hex : ∃ n : Nat, ∃ a, goW k l p s day a = some (v, (n : Int))
  · rw [dif_pos hex]; exact .inr (Go.Sx.least_ex _ hex).choose_spec.1
  · rw [dif_neg hex]; exact .inl rfl
theorem reachV_bd {k : Bool} {l : Land} {p : Span} (h : OkLP l p) {s day v : Int} (hd : 0 ≤ day) (hd' : day ≤ 100000) (h0 : 0 ≤ s) (h1 : s < l.wells.length) : day ≤ reachV k l p s day v ∧ reachV k l p s day v ≤ 100001 := by
  rcases reachV_real (k := k) (l := l) (p := p) (s := s) (day := day) (v := v) with e | ⟨a, e⟩
  · omega
  · have := goW_bd h e hd' h0 h1; omega
theorem goW_snoc {k : Bool} {l : Land} {p : Span} {a : List Nat} {s t v u : Int} {i : Nat} {x : Leg} (e : goW k l p s t a = some (v, u)) (hx : l.legs[i]? = some x) (ho : ¬ otherF x v < 0) (hr : ¬ arrK k x p u > 100000) : goW k l p s t (a ++ [i]) = some (otherF x v, arrK k x p u) := by
  rw [goW_app, e]
  simp only [Option.bind_some, goW, hx]
  rw [if_neg ho, if_neg hr]
/-- days that no leg makes less, and that are gone, are the first ones -/
theorem reach_eq {k : Bool} {l : Land} {p : Span} (h : OkLP l p) {s day : Int} (hd : 0 ≤ day) (hd' : day ≤ 100000) (h0 : 0 ≤ s) (h1 : s < l.wells.length) {d : Int → Int} (hs : d s ≤ day) (hc : Closed k l p d) (hb : ∀ v, d v ≤ 100001)
    (hr : ∀ v, d v = 100001 ∨ ∃ a, goW k l p s day a = some (v, d v)) (v : Int) : d v = reachV k l p s day v := by
  have h2 : reachV k l p s day v ≤ d v := by
    rcases hr v with e | ⟨a, e⟩
    · have := reachV_bd (k := k) (v := v) h hd hd' h0 h1; omega
    · exact reachV_le h e hd hd' h0 h1
  have h3 : d v ≤ reachV k l p s day v := by
    rcases reachV_real (k := k) (l := l) (p := p) (s := s) (day := day) (v := v) with e | ⟨a, e⟩
    · have := hb v; omega
    · exact closed_go h hc e hs
  omega
noncomputable def reachF (k : Bool) (l : Land) (p : Span) (s day : Int) : List Int := (List.range l.wells.length).map fun v : Nat => reachV k l p s day (v : Int)
end Go.Azalai
