import Derived.Test.YtnlfjchbhgikaaaSb
import Derived.Test.YtnlfjchbhgikaaaProg
set_option maxRecDepth 100000
namespace Go.Proofs.Ytnlfjchbhgikaaa
open Go Go.Sx
/- azalai/azalailaw01.CamelFits -/
def c3 : SC := (.seq (.reg [
  ⟨some 3, .box (.t 0) 0 25, none, []⟩,
  ⟨some 4, .box (.t 1) 0 27, none, []⟩,
  ⟨some 5, .box (.t 2) 0 29, none, []⟩,
  ⟨some 6, .mv (.c (.bool false)), none, []⟩])
  (.seq (.reg [
  ⟨some 22, .ld (.t 3) 17 true, none, []⟩,
  ⟨some 23, .ld (.t 4) 7 true, none, []⟩,
  ⟨some 24, .call 14 [.t 22, .t 23], none, []⟩,
  ⟨some 21, .mv (.t 24), none, []⟩,
  ⟨some 25, .ext (.t 21) 0, none, []⟩,
  ⟨some 26, .ext (.t 21) 1, none, []⟩,
  ⟨some 7, .alloc [.int .i64 0, .int .i64 0] 23, none, []⟩,
  ⟨none, .st (.t 7) (.t 25) 2, none, []⟩,
  ⟨some 8, .mv (.t 26), none, []⟩])
  (.seq (.reg [
  ⟨some 28, .ld (.t 3) 17 true, none, []⟩,
  ⟨some 29, .ld (.t 4) 7 true, none, []⟩,
  ⟨some 30, .call 15 [.t 28, .t 29], none, []⟩,
  ⟨some 27, .mv (.t 30), none, []⟩,
  ⟨some 31, .ext (.t 27) 0, none, []⟩,
  ⟨some 32, .ext (.t 27) 1, none, []⟩,
  ⟨some 9, .alloc [.int .i64 0, .int .i64 0] 23, none, []⟩,
  ⟨none, .st (.t 9) (.t 31) 2, none, []⟩,
  ⟨some 10, .mv (.t 32), none, []⟩])
  (.seq (.reg [
  ⟨some 34, .ld (.t 3) 17 true, none, []⟩,
  ⟨some 35, .ld (.t 4) 7 true, none, []⟩,
  ⟨some 36, .call 16 [.t 34, .t 35], none, []⟩,
  ⟨some 33, .mv (.t 36), none, []⟩,
  ⟨some 37, .ext (.t 33) 0, none, []⟩,
  ⟨some 38, .ext (.t 33) 1, none, []⟩,
  ⟨some 11, .alloc [.int .i64 0, .int .i64 0] 23, none, []⟩,
  ⟨none, .st (.t 11) (.t 37) 2, none, []⟩,
  ⟨some 12, .mv (.t 38), none, []⟩])
  (.seq (.reg [
  ⟨some 40, .ld (.t 3) 17 true, none, []⟩,
  ⟨some 41, .ld (.t 4) 7 true, none, []⟩,
  ⟨some 42, .call 17 [.t 40, .t 41], none, []⟩,
  ⟨some 39, .mv (.t 42), none, []⟩,
  ⟨some 43, .ext (.t 39) 0, none, []⟩,
  ⟨some 44, .ext (.t 39) 1, none, []⟩,
  ⟨some 13, .alloc [.int .i64 0, .int .i64 0] 23, none, []⟩,
  ⟨none, .st (.t 13) (.t 43) 2, none, []⟩,
  ⟨some 14, .mv (.t 44), none, []⟩])
  (.seq (.reg [
  ⟨some 46, .ld (.t 3) 17 true, none, []⟩,
  ⟨some 47, .addo (.t 4) 6, none, []⟩,
  ⟨some 48, .ld (.t 47) 1 false, none, []⟩,
  ⟨some 49, .ld (.t 5) 8 true, none, []⟩,
  ⟨some 50, .call 18 [.t 46, .t 48, .t 49], none, []⟩,
  ⟨some 45, .mv (.t 50), none, []⟩,
  ⟨some 51, .ext (.t 45) 0, none, []⟩,
  ⟨some 52, .ext (.t 45) 1, none, []⟩,
  ⟨some 53, .ext (.t 45) 2, none, []⟩,
  ⟨some 15, .alloc [.int .i64 0, .int .i64 0] 23, none, []⟩,
  ⟨some 16, .alloc [.int .i64 0, .int .i64 0] 23, none, []⟩,
  ⟨none, .st (.t 15) (.t 51) 2, none, []⟩,
  ⟨none, .st (.t 16) (.t 52) 2, none, []⟩,
  ⟨some 17, .mv (.t 53), none, []⟩])
  (.seq (.reg [
  ⟨some 55, .ld (.t 3) 17 true, none, []⟩,
  ⟨some 56, .addo (.t 4) 6, none, []⟩,
  ⟨some 57, .ld (.t 56) 1 false, none, []⟩,
  ⟨some 58, .ld (.t 5) 8 true, none, []⟩,
  ⟨some 59, .call 19 [.t 55, .t 57, .t 58], none, []⟩,
  ⟨some 54, .mv (.t 59), none, []⟩,
  ⟨some 60, .ext (.t 54) 0, none, []⟩,
  ⟨some 61, .ext (.t 54) 1, none, []⟩,
  ⟨some 62, .ext (.t 54) 2, none, []⟩,
  ⟨some 18, .alloc [.int .i64 0, .int .i64 0] 23, none, []⟩,
  ⟨some 19, .alloc [.int .i64 0, .int .i64 0] 23, none, []⟩,
  ⟨none, .st (.t 18) (.t 60) 2, none, []⟩,
  ⟨none, .st (.t 19) (.t 61) 2, none, []⟩,
  ⟨some 20, .mv (.t 62), none, []⟩])
  (.seq (.regd [0, 1, 2, 3, 4, 5, 6, 7, 8, 9, 10, 11, 12, 13, 14, 15, 16, 17, 18, 19, 20, 21, 22, 23, 24, 25, 26, 27, 28, 29, 30, 31, 32, 33, 34, 35, 36, 37, 38, 39, 40, 41, 42, 43, 44, 45, 46, 47, 48, 49] [
  .op ⟨some 63, .ld (.t 3) 17 true, none, []⟩,
  .op ⟨some 64, .call 20 [.t 63], none, [0]⟩,
  .op ⟨some 65, .ld (.t 3) 17 true, none, []⟩,
  .op ⟨some 66, .call 21 [.t 65], none, [1, 2]⟩,
  .op ⟨some 67, .bin .eql (.t 64) (.t 66), none, [1, 3]⟩,
  .op ⟨some 68, .mv (.t 67), none, [3, 4]⟩,
  .op ⟨some 69, .ld (.t 3) 17 true, some (68, true), [5]⟩,
  .op ⟨some 70, .ld (.t 4) 7 true, some (68, true), [5]⟩,
  .op ⟨some 71, .call 22 [.t 69, .t 70], some (68, true), [5, 6, 7]⟩,
  .op ⟨some 72, .ld (.t 3) 17 true, some (68, true), [5]⟩,
  .op ⟨some 73, .ld (.t 4) 7 true, some (68, true), [5]⟩,
  .op ⟨some 74, .call 23 [.t 72, .t 73], some (68, true), [5, 8, 9, 10]⟩,
  .op ⟨some 75, .bin .eql (.t 71) (.t 74), some (68, true), [5, 8, 11]⟩,
  .op ⟨some 76, .pick (.t 68) (.t 75) (.c (.bool false)), none, [5, 12]⟩,
  .op ⟨some 77, .mv (.t 76), none, [11, 13]⟩,
  .op ⟨some 78, .ld (.t 7) 2 true, some (77, true), [14]⟩,
  .op ⟨some 79, .ld (.t 9) 2 true, some (77, true), [14]⟩,
  .op ⟨some 80, .eqs false true [1, 1] (.t 78) (.t 79), some (77, true), [14, 15, 16]⟩,
  .op ⟨some 81, .pick (.t 77) (.t 80) (.c (.bool false)), none, [14, 17]⟩,
  .op ⟨some 82, .mv (.t 81), none, [14, 18]⟩,
  .op ⟨some 83, .mv (.t 8), some (82, true), [19]⟩,
  .op ⟨some 84, .mv (.t 10), some (82, true), [19]⟩,
  .op ⟨some 85, .bin .eql (.t 83) (.t 84), some (82, true), [19, 20, 21]⟩,
  .op ⟨some 86, .pick (.t 82) (.t 85) (.c (.bool false)), none, [19, 22]⟩,
  .op ⟨some 87, .mv (.t 86), none, [19, 23]⟩,
  .op ⟨some 88, .ld (.t 11) 2 true, some (87, true), [24]⟩,
  .op ⟨some 89, .ld (.t 13) 2 true, some (87, true), [24]⟩,
  .op ⟨some 90, .eqs false true [1, 1] (.t 88) (.t 89), some (87, true), [24, 25, 26]⟩,
  .op ⟨some 91, .pick (.t 87) (.t 90) (.c (.bool false)), none, [24, 27]⟩,
  .op ⟨some 92, .mv (.t 91), none, [24, 28]⟩,
  .op ⟨some 93, .mv (.t 12), some (92, true), [29]⟩,
  .op ⟨some 94, .mv (.t 14), some (92, true), [29]⟩,
  .op ⟨some 95, .bin .eql (.t 93) (.t 94), some (92, true), [29, 30, 31]⟩,
  .op ⟨some 96, .pick (.t 92) (.t 95) (.c (.bool false)), none, [29, 32]⟩,
  .op ⟨some 97, .mv (.t 96), none, [29, 33]⟩,
  .op ⟨some 98, .ld (.t 15) 2 true, some (97, true), [34]⟩,
  .op ⟨some 99, .ld (.t 18) 2 true, some (97, true), [34]⟩,
  .op ⟨some 100, .eqs false true [1, 1] (.t 98) (.t 99), some (97, true), [34, 35, 36]⟩,
  .op ⟨some 101, .pick (.t 97) (.t 100) (.c (.bool false)), none, [34, 37]⟩,
  .op ⟨some 102, .mv (.t 101), none, [34, 38]⟩,
  .op ⟨some 103, .ld (.t 16) 2 true, some (102, true), [39]⟩,
  .op ⟨some 104, .ld (.t 19) 2 true, some (102, true), [39]⟩,
  .op ⟨some 105, .eqs false true [1, 1] (.t 103) (.t 104), some (102, true), [39, 40, 41]⟩,
  .op ⟨some 106, .pick (.t 102) (.t 105) (.c (.bool false)), none, [39, 42]⟩,
  .op ⟨some 107, .mv (.t 106), none, [39, 43]⟩,
  .op ⟨some 108, .mv (.t 17), some (107, true), [44]⟩,
  .op ⟨some 109, .mv (.t 20), some (107, true), [44]⟩,
  .op ⟨some 110, .bin .eql (.t 108) (.t 109), some (107, true), [44, 45, 46]⟩,
  .op ⟨some 111, .pick (.t 107) (.t 110) (.c (.bool false)), none, [44, 47]⟩,
  .op ⟨some 6, .mv (.t 111), none, [0, 1, 2, 3, 4, 5, 6, 7, 8, 9, 10, 11, 12, 13, 14, 15, 16, 17, 18, 19, 20, 21, 22, 23, 24, 25, 26, 27, 28, 29, 30, 31, 32, 33, 34, 35, 36, 37, 38, 39, 40, 41, 42, 43, 44, 45, 46, 47, 48]⟩] 0 0 [
])
  .ret))))))))
def r3 : List RV := [.tmp 6]
theorem n3 : Try.f3.ntmps = 112 := by kernel_rfl
theorem b3 : bodyB Try.prog 3 = true := by kernel_rfl
theorem c3_ok : cmpC Try.prog c3 ((Try.f3.body).getD .skip) = true := by kernel_rfl
theorem r3_ok : cmpR Try.prog r3 Try.f3.results.toList = true := by kernel_rfl
theorem t3 {args : List SV} {res : SV} (ka : KFL args) (kr : KF res) (h : sx Try.prog c3 (st0 args 112) (retK r3 res)) (hA : Nat.ble args.length 112 = true := by rfl) : Ct Try.prog 3 args res := ct_intro Try.func3 rfl b3 c3_ok r3_ok n3 (Nat.le_of_ble_eq_true hA) ka kr h
/- azalai/camel.Fitness -/
def c14 : SC := (.seq (.reg [
  ⟨some 2, .box (.t 0) 0 25, none, []⟩,
  ⟨some 3, .box (.t 1) 0 27, none, []⟩,
  ⟨some 4, .alloc [.int .i64 0, .int .i64 0] 23, none, []⟩,
  ⟨some 5, .mv (.c (.int .i64 0)), none, []⟩])
  (.seq (.seq (.reg [
  ⟨some 7, .ld (.t 2) 17 true, none, []⟩,
  ⟨some 8, .ld (.t 3) 7 true, none, []⟩,
  ⟨some 9, .call 22 [.t 7, .t 8], none, []⟩,
  ⟨some 6, .mv (.t 9), none, []⟩])
  (.seq (.reg [
  ⟨some 10, .mv (.t 6), none, []⟩,
  ⟨some 11, .bin .neq (.t 10) (.c (.int .i64 0)), none, []⟩])
  (.cond (.t 11)
  (.seq (.reg [
   ⟨some 12, .build [.int .i64 0, .int .i64 0] [], none, []⟩,
   ⟨some 13, .mv (.t 6), none, []⟩,
   ⟨none, .st (.t 4) (.t 12) 2, none, []⟩,
   ⟨some 5, .mv (.t 13), none, []⟩])
   .ret)
  .skip)))
  (.seq (.reg [
  ⟨some 14, .ld (.t 2) 17 true, none, []⟩,
  ⟨some 15, .ld (.t 3) 7 true, none, []⟩,
  ⟨some 16, .build [.int .i64 0, .int .i64 0, .int .i64 0, .int .i64 0, .int .i64 0, .int .i64 0, .int .i64 0, .int .i64 0, .int .i64 0, .int .i64 0, .int .i64 0, .int .i64 0, .int .i64 0, .int .i64 0, .int .i64 0, .int .i64 0, .int .i64 0, .int .i64 0, .int .i64 0, .int .i64 0, .int .i64 0, .int .i64 0, .int .i64 0, .bool false] [(0, 17, .t 14), (17, 7, .t 15)], none, []⟩,
  ⟨some 17, .call 55 [.t 16], none, []⟩,
  ⟨none, .st (.t 4) (.t 17) 2, none, []⟩,
  ⟨some 5, .mv (.c (.int .i64 0)), none, []⟩])
  .ret)))
def r14 : List RV := [.cell 4 2 true, .tmp 5]
theorem n14 : Try.f14.ntmps = 18 := by kernel_rfl
theorem b14 : bodyB Try.prog 14 = true := by kernel_rfl
theorem c14_ok : cmpC Try.prog c14 ((Try.f14.body).getD .skip) = true := by kernel_rfl
theorem r14_ok : cmpR Try.prog r14 Try.f14.results.toList = true := by kernel_rfl
theorem t14 {args : List SV} {res : SV} (ka : KFL args) (kr : KF res) (h : sx Try.prog c14 (st0 args 18) (retK r14 res)) (hA : Nat.ble args.length 18 = true := by rfl) : Ct Try.prog 14 args res := ct_intro Try.func14 rfl b14 c14_ok r14_ok n14 (Nat.le_of_ble_eq_true hA) ka kr h
/- azalai/azalairef01.Fitness -/
def c15 : SC := (.seq (.reg [
  ⟨some 2, .box (.t 0) 0 25, none, []⟩,
  ⟨some 3, .box (.t 1) 0 27, none, []⟩,
  ⟨some 4, .alloc [.int .i64 0, .int .i64 0] 23, none, []⟩,
  ⟨some 5, .mv (.c (.int .i64 0)), none, []⟩])
  (.seq (.seq (.reg [
  ⟨some 7, .ld (.t 2) 17 true, none, []⟩,
  ⟨some 8, .ld (.t 3) 7 true, none, []⟩,
  ⟨some 9, .call 23 [.t 7, .t 8], none, []⟩,
  ⟨some 6, .mv (.t 9), none, []⟩])
  (.seq (.reg [
  ⟨some 10, .mv (.t 6), none, []⟩,
  ⟨some 11, .bin .neq (.t 10) (.c (.int .i64 0)), none, []⟩])
  (.cond (.t 11)
  (.seq (.reg [
   ⟨some 12, .build [.int .i64 0, .int .i64 0] [], none, []⟩,
   ⟨some 13, .mv (.t 6), none, []⟩,
   ⟨none, .st (.t 4) (.t 12) 2, none, []⟩,
   ⟨some 5, .mv (.t 13), none, []⟩])
   .ret)
  .skip)))
  (.seq (.reg [
  ⟨some 14, .ld (.t 2) 17 true, none, []⟩,
  ⟨some 15, .ld (.t 3) 7 true, none, []⟩,
  ⟨some 16, .call 56 [.t 14, .t 15], none, []⟩,
  ⟨none, .st (.t 4) (.t 16) 2, none, []⟩,
  ⟨some 5, .mv (.c (.int .i64 0)), none, []⟩])
  .ret)))
def r15 : List RV := [.cell 4 2 true, .tmp 5]
theorem n15 : Try.f15.ntmps = 17 := by kernel_rfl
theorem b15 : bodyB Try.prog 15 = true := by kernel_rfl
theorem c15_ok : cmpC Try.prog c15 ((Try.f15.body).getD .skip) = true := by kernel_rfl
theorem r15_ok : cmpR Try.prog r15 Try.f15.results.toList = true := by kernel_rfl
theorem t15 {args : List SV} {res : SV} (ka : KFL args) (kr : KF res) (h : sx Try.prog c15 (st0 args 17) (retK r15 res)) (hA : Nat.ble args.length 17 = true := by rfl) : Ct Try.prog 15 args res := ct_intro Try.func15 rfl b15 c15_ok r15_ok n15 (Nat.le_of_ble_eq_true hA) ka kr h
/- azalai/camel.Carries -/
def c16 : SC := (.seq (.reg [
  ⟨some 2, .box (.t 0) 0 25, none, []⟩,
  ⟨some 3, .box (.t 1) 0 27, none, []⟩,
  ⟨some 4, .alloc [.int .i64 0, .int .i64 0] 23, none, []⟩,
  ⟨some 5, .mv (.c (.int .i64 0)), none, []⟩])
  (.seq (.seq (.reg [
  ⟨some 7, .ld (.t 2) 17 true, none, []⟩,
  ⟨some 8, .ld (.t 3) 7 true, none, []⟩,
  ⟨some 9, .call 22 [.t 7, .t 8], none, []⟩,
  ⟨some 6, .mv (.t 9), none, []⟩])
  (.seq (.reg [
  ⟨some 10, .mv (.t 6), none, []⟩,
  ⟨some 11, .bin .neq (.t 10) (.c (.int .i64 0)), none, []⟩])
  (.cond (.t 11)
  (.seq (.reg [
   ⟨some 12, .build [.int .i64 0, .int .i64 0] [], none, []⟩,
   ⟨some 13, .mv (.t 6), none, []⟩,
   ⟨none, .st (.t 4) (.t 12) 2, none, []⟩,
   ⟨some 5, .mv (.t 13), none, []⟩])
   .ret)
  .skip)))
  (.seq (.reg [
  ⟨some 14, .ld (.t 2) 17 true, none, []⟩,
  ⟨some 15, .ld (.t 3) 7 true, none, []⟩,
  ⟨some 16, .build [.int .i64 0, .int .i64 0, .int .i64 0, .int .i64 0, .int .i64 0, .int .i64 0, .int .i64 0, .int .i64 0, .int .i64 0, .int .i64 0, .int .i64 0, .int .i64 0, .int .i64 0, .int .i64 0, .int .i64 0, .int .i64 0, .int .i64 0, .int .i64 0, .int .i64 0, .int .i64 0, .int .i64 0, .int .i64 0, .int .i64 0, .bool false] [(0, 17, .t 14), (17, 7, .t 15)], none, []⟩,
  ⟨some 17, .call 57 [.t 16], none, []⟩,
  ⟨none, .st (.t 4) (.t 17) 2, none, []⟩,
  ⟨some 5, .mv (.c (.int .i64 0)), none, []⟩])
  .ret)))
def r16 : List RV := [.cell 4 2 true, .tmp 5]
theorem n16 : Try.f16.ntmps = 18 := by kernel_rfl
theorem b16 : bodyB Try.prog 16 = true := by kernel_rfl
theorem c16_ok : cmpC Try.prog c16 ((Try.f16.body).getD .skip) = true := by kernel_rfl
theorem r16_ok : cmpR Try.prog r16 Try.f16.results.toList = true := by kernel_rfl
theorem t16 {args : List SV} {res : SV} (ka : KFL args) (kr : KF res) (h : sx Try.prog c16 (st0 args 18) (retK r16 res)) (hA : Nat.ble args.length 18 = true := by rfl) : Ct Try.prog 16 args res := ct_intro Try.func16 rfl b16 c16_ok r16_ok n16 (Nat.le_of_ble_eq_true hA) ka kr h
/- azalai/azalairef01.Carries -/
def c17 : SC := (.seq (.reg [
  ⟨some 2, .box (.t 0) 0 25, none, []⟩,
  ⟨some 3, .box (.t 1) 0 27, none, []⟩,
  ⟨some 4, .alloc [.int .i64 0, .int .i64 0] 23, none, []⟩,
  ⟨some 5, .mv (.c (.int .i64 0)), none, []⟩])
  (.seq (.reg [
  ⟨some 9, .ld (.t 2) 17 true, none, []⟩,
  ⟨some 10, .ld (.t 3) 7 true, none, []⟩,
  ⟨some 11, .call 15 [.t 9, .t 10], none, []⟩,
  ⟨some 8, .mv (.t 11), none, []⟩,
  ⟨some 12, .ext (.t 8) 0, none, []⟩,
  ⟨some 13, .ext (.t 8) 1, none, []⟩,
  ⟨some 6, .alloc [.int .i64 0, .int .i64 0] 23, none, []⟩,
  ⟨none, .st (.t 6) (.t 12) 2, none, []⟩,
  ⟨some 7, .mv (.t 13), none, []⟩])
  (.seq (.seq (.reg [
  ⟨some 14, .mv (.t 7), none, []⟩,
  ⟨some 15, .bin .neq (.t 14) (.c (.int .i64 0)), none, []⟩])
  (.cond (.t 15)
  (.seq (.reg [
   ⟨some 16, .build [.int .i64 0, .int .i64 0] [], none, []⟩,
   ⟨some 17, .mv (.t 7), none, []⟩,
   ⟨none, .st (.t 4) (.t 16) 2, none, []⟩,
   ⟨some 5, .mv (.t 17), none, []⟩])
   .ret)
  .skip))
  (.seq (.regd [0, 1, 2, 3, 4, 5, 6, 7, 8, 9, 10, 11, 12, 13, 14, 15, 16] [
  .op ⟨some 18, .addo (.t 2) 15, none, []⟩,
  .op ⟨some 19, .addo (.t 18) 0, none, [0]⟩,
  .op ⟨some 20, .ld (.t 19) 1 false, none, [1]⟩,
  .op ⟨some 21, .addo (.t 6) 0, none, []⟩,
  .op ⟨some 22, .ld (.t 21) 1 false, none, [3]⟩,
  .op ⟨some 23, .bin .mul (.t 20) (.t 22), none, [2, 4]⟩,
  .op ⟨some 24, .div .quo (.t 23) (.c (.int .i64 1000)), none, [5]⟩,
  .op ⟨some 25, .addo (.t 2) 15, none, []⟩,
  .op ⟨some 26, .addo (.t 25) 1, none, [7]⟩,
  .op ⟨some 27, .ld (.t 26) 1 false, none, [8]⟩,
  .op ⟨some 28, .addo (.t 6) 1, none, []⟩,
  .op ⟨some 29, .ld (.t 28) 1 false, none, [10]⟩,
  .op ⟨some 30, .bin .mul (.t 27) (.t 29), none, [9, 11]⟩,
  .op ⟨some 31, .call 58 [.t 30, .c (.int .i64 1000)], none, [12]⟩,
  .op ⟨some 32, .build [.int .i64 0, .int .i64 0] [(0, 1, .t 24), (1, 1, .t 31)], none, [6, 13]⟩] 0 1 [
  ⟨none, .st (.t 4) (.t 32) 2, none, [0, 1, 2, 3, 4, 5, 6, 7, 8, 9, 10, 11, 12, 13, 14]⟩,
  ⟨some 5, .mv (.c (.int .i64 0)), none, [0, 1, 2, 3, 4, 5, 6, 7, 8, 9, 10, 11, 12, 13, 14, 15]⟩])
  .ret))))
def r17 : List RV := [.cell 4 2 true, .tmp 5]
theorem n17 : Try.f17.ntmps = 33 := by kernel_rfl
theorem b17 : bodyB Try.prog 17 = true := by kernel_rfl
theorem c17_ok : cmpC Try.prog c17 ((Try.f17.body).getD .skip) = true := by kernel_rfl
theorem r17_ok : cmpR Try.prog r17 Try.f17.results.toList = true := by kernel_rfl
theorem t17 {args : List SV} {res : SV} (ka : KFL args) (kr : KF res) (h : sx Try.prog c17 (st0 args 33) (retK r17 res)) (hA : Nat.ble args.length 33 = true := by rfl) : Ct Try.prog 17 args res := ct_intro Try.func17 rfl b17 c17_ok r17_ok n17 (Nat.le_of_ble_eq_true hA) ka kr h
/- azalai/camel.Cost -/
def c18 : SC := (.seq (.reg [
  ⟨some 3, .box (.t 0) 0 25, none, []⟩,
  ⟨some 5, .box (.t 2) 0 29, none, []⟩,
  ⟨some 6, .alloc [.int .i64 0, .int .i64 0] 23, none, []⟩,
  ⟨some 7, .alloc [.int .i64 0, .int .i64 0] 23, none, []⟩,
  ⟨some 8, .mv (.c (.int .i64 0)), none, []⟩])
  (.seq (.seq (.reg [
  ⟨some 12, .ld (.t 3) 17 true, none, []⟩,
  ⟨some 13, .call 20 [.t 12], none, []⟩,
  ⟨some 9, .mv (.t 13), none, []⟩])
  (.seq (.reg [
  ⟨some 14, .mv (.t 9), none, []⟩,
  ⟨some 15, .bin .neq (.t 14) (.c (.int .i64 0)), none, []⟩])
  (.cond (.t 15)
  (.seq (.regd [0, 1, 2, 3, 4, 5] [
   .op ⟨some 16, .ld (.t 6) 2 true, none, []⟩,
   .hide (.t 6),
   .op ⟨some 17, .ld (.t 7) 2 true, none, []⟩,
   .hide (.t 7),
   .op ⟨some 18, .mv (.t 9), none, []⟩] 0 2 [
   ⟨none, .st (.t 6) (.t 16) 2, none, [0]⟩,
   ⟨none, .st (.t 7) (.t 17) 2, none, [0, 1, 3]⟩,
   ⟨some 8, .mv (.t 18), none, [0, 1, 2, 3, 4]⟩])
   .ret)
  .skip)))
  (.seq (.seq (.reg [
  ⟨some 19, .ld (.t 5) 8 true, none, []⟩,
  ⟨some 20, .bsl 8 29 [.t 19], none, []⟩,
  ⟨some 21, .call 59 [.t 20], none, []⟩,
  ⟨some 10, .mv (.t 21), none, []⟩])
  (.seq (.reg [
  ⟨some 22, .mv (.t 10), none, []⟩,
  ⟨some 23, .bin .neq (.t 22) (.c (.int .i64 0)), none, []⟩])
  (.cond (.t 23)
  (.seq (.regd [0, 1, 2, 3, 4, 5] [
   .op ⟨some 24, .ld (.t 6) 2 true, none, []⟩,
   .hide (.t 6),
   .op ⟨some 25, .ld (.t 7) 2 true, none, []⟩,
   .hide (.t 7),
   .op ⟨some 26, .mv (.t 10), none, []⟩] 0 2 [
   ⟨none, .st (.t 6) (.t 24) 2, none, [0]⟩,
   ⟨none, .st (.t 7) (.t 25) 2, none, [0, 1, 3]⟩,
   ⟨some 8, .mv (.t 26), none, [0, 1, 2, 3, 4]⟩])
   .ret)
  .skip)))
  (.seq (.reg [
  ⟨some 27, .ld (.t 3) 17 true, none, []⟩,
  ⟨some 28, .mv (.t 1), none, []⟩,
  ⟨some 29, .ld (.t 5) 8 true, none, []⟩,
  ⟨some 30, .call 60 [.t 27, .t 28, .t 29], none, []⟩,
  ⟨some 11, .alloc [.int .i64 0, .int .i64 0, .int .i64 0, .int .i64 0] 112, none, []⟩,
  ⟨none, .st (.t 11) (.t 30) 4, none, []⟩])
  (.seq (.regd [0, 1, 2, 3, 4, 5, 6] [
  .op ⟨some 31, .ixa (.t 11) (.c (.int .i64 0)) 2 2, none, []⟩,
  .op ⟨some 32, .ld (.t 31) 2 true, none, [0]⟩,
  .hide (.t 6),
  .op ⟨some 33, .ixa (.t 11) (.c (.int .i64 1)) 2 2, none, []⟩,
  .op ⟨some 34, .ld (.t 33) 2 true, none, [2]⟩] 0 2 [
  ⟨none, .st (.t 6) (.t 32) 2, none, [0, 1]⟩,
  ⟨none, .st (.t 7) (.t 34) 2, none, [0, 1, 2, 3, 4]⟩,
  ⟨some 8, .mv (.c (.int .i64 0)), none, [0, 1, 2, 3, 4, 5]⟩])
  .ret)))))
def r18 : List RV := [.cell 6 2 true, .cell 7 2 true, .tmp 8]
theorem n18 : Try.f18.ntmps = 35 := by kernel_rfl
theorem b18 : bodyB Try.prog 18 = true := by kernel_rfl
theorem c18_ok : cmpC Try.prog c18 ((Try.f18.body).getD .skip) = true := by kernel_rfl
theorem r18_ok : cmpR Try.prog r18 Try.f18.results.toList = true := by kernel_rfl
theorem t18 {args : List SV} {res : SV} (ka : KFL args) (kr : KF res) (h : sx Try.prog c18 (st0 args 35) (retK r18 res)) (hA : Nat.ble args.length 35 = true := by rfl) : Ct Try.prog 18 args res := ct_intro Try.func18 rfl b18 c18_ok r18_ok n18 (Nat.le_of_ble_eq_true hA) ka kr h
/- azalai/azalairef01.Cost -/
def c19 : SC := (.seq (.reg [
  ⟨some 3, .box (.t 0) 0 25, none, []⟩,
  ⟨some 5, .box (.t 2) 0 29, none, []⟩,
  ⟨some 6, .alloc [.int .i64 0, .int .i64 0] 23, none, []⟩,
  ⟨some 7, .alloc [.int .i64 0, .int .i64 0] 23, none, []⟩,
  ⟨some 8, .mv (.c (.int .i64 0)), none, []⟩])
  (.seq (.seq (.reg [
  ⟨some 11, .ld (.t 3) 17 true, none, []⟩,
  ⟨some 12, .call 61 [.t 11], none, []⟩,
  ⟨some 13, .un .not (.t 12), none, []⟩])
  (.cond (.t 13)
  (.seq (.reg [
   ⟨some 14, .build [.int .i64 0, .int .i64 0] [], none, []⟩,
   ⟨some 15, .build [.int .i64 0, .int .i64 0] [], none, []⟩,
   ⟨none, .st (.t 6) (.t 14) 2, none, []⟩,
   ⟨none, .st (.t 7) (.t 15) 2, none, []⟩,
   ⟨some 8, .mv (.c (.int .i64 10)), none, []⟩])
   .ret)
  .skip))
  (.seq (.seq (.reg [
  ⟨some 16, .ld (.t 5) 8 true, none, []⟩,
  ⟨some 17, .call 62 [.t 16], none, []⟩,
  ⟨some 18, .un .not (.t 17), none, []⟩])
  (.cond (.t 18)
  (.seq (.reg [
   ⟨some 19, .build [.int .i64 0, .int .i64 0] [], none, []⟩,
   ⟨some 20, .build [.int .i64 0, .int .i64 0] [], none, []⟩,
   ⟨none, .st (.t 6) (.t 19) 2, none, []⟩,
   ⟨none, .st (.t 7) (.t 20) 2, none, []⟩,
   ⟨some 8, .mv (.c (.int .i64 12)), none, []⟩])
   .ret)
  .skip))
  (.seq (.reg [
  ⟨some 22, .ld (.t 3) 17 true, none, []⟩,
  ⟨some 23, .mv (.t 1), none, []⟩,
  ⟨some 24, .ld (.t 5) 8 true, none, []⟩,
  ⟨some 25, .call 63 [.t 22, .t 23, .t 24], none, []⟩,
  ⟨some 21, .mv (.t 25), none, []⟩,
  ⟨some 26, .ext (.t 21) 0, none, []⟩,
  ⟨some 27, .ext (.t 21) 1, none, []⟩,
  ⟨some 9, .alloc [.int .i64 0, .int .i64 0] 23, none, []⟩,
  ⟨some 10, .alloc [.int .i64 0, .int .i64 0] 23, none, []⟩,
  ⟨none, .st (.t 9) (.t 26) 2, none, []⟩,
  ⟨none, .st (.t 10) (.t 27) 2, none, []⟩])
  (.seq (.regd [0, 1, 2, 3, 4] [
  .op ⟨some 28, .ld (.t 9) 2 true, none, []⟩,
  .hide (.t 6),
  .op ⟨some 29, .ld (.t 10) 2 true, none, []⟩] 0 2 [
  ⟨none, .st (.t 6) (.t 28) 2, none, [0]⟩,
  ⟨none, .st (.t 7) (.t 29) 2, none, [0, 1, 2]⟩,
  ⟨some 8, .mv (.c (.int .i64 0)), none, [0, 1, 2, 3]⟩])
  .ret)))))
def r19 : List RV := [.cell 6 2 true, .cell 7 2 true, .tmp 8]
theorem n19 : Try.f19.ntmps = 30 := by kernel_rfl
theorem b19 : bodyB Try.prog 19 = true := by kernel_rfl
theorem c19_ok : cmpC Try.prog c19 ((Try.f19.body).getD .skip) = true := by kernel_rfl
theorem r19_ok : cmpR Try.prog r19 Try.f19.results.toList = true := by kernel_rfl
theorem t19 {args : List SV} {res : SV} (ka : KFL args) (kr : KF res) (h : sx Try.prog c19 (st0 args 30) (retK r19 res)) (hA : Nat.ble args.length 30 = true := by rfl) : Ct Try.prog 19 args res := ct_intro Try.func19 rfl b19 c19_ok r19_ok n19 (Nat.le_of_ble_eq_true hA) ka kr h
/- azalai/camel.CheckBreed -/
def c20 : SC := (.seq (.reg [
  ⟨some 1, .box (.t 0) 0 25, none, []⟩,
  ⟨some 2, .mv (.c (.int .i64 0)), none, []⟩])
  (.seq (.seq (.reg [
  ⟨some 3, .addo (.t 1) 0, none, []⟩,
  ⟨some 4, .ld (.t 3) 1 false, none, []⟩,
  ⟨some 5, .addo (.t 1) 1, none, []⟩,
  ⟨some 6, .ld (.t 5) 1 false, none, []⟩,
  ⟨some 7, .bsl 1 3 [.t 4, .t 6], none, []⟩,
  ⟨some 8, .call 64 [.c (.int .i64 1), .c (.int .i64 1000000), .t 7], none, []⟩,
  ⟨some 9, .un .not (.t 8), none, []⟩,
  ⟨some 10, .mv (.t 9), none, []⟩,
  ⟨some 11, .addo (.t 1) 2, some (10, false), []⟩,
  ⟨some 12, .ld (.t 11) 2 true, some (10, false), []⟩,
  ⟨some 13, .addo (.t 1) 4, some (10, false), []⟩,
  ⟨some 14, .ld (.t 13) 2 true, some (10, false), []⟩,
  ⟨some 15, .addo (.t 1) 6, some (10, false), []⟩,
  ⟨some 16, .ld (.t 15) 2 true, some (10, false), []⟩,
  ⟨some 17, .addo (.t 1) 8, some (10, false), []⟩,
  ⟨some 18, .ld (.t 17) 2 true, some (10, false), []⟩,
  ⟨some 19, .addo (.t 1) 10, some (10, false), []⟩,
  ⟨some 20, .ld (.t 19) 2 true, some (10, false), []⟩,
  ⟨some 21, .addo (.t 1) 12, some (10, false), []⟩,
  ⟨some 22, .ld (.t 21) 2 true, some (10, false), []⟩,
  ⟨some 23, .bsl 2 23 [.t 12, .t 14, .t 16, .t 18, .t 20, .t 22], some (10, false), []⟩,
  ⟨some 24, .call 65 [.c (.int .i64 0), .c (.int .i64 100000), .t 23], some (10, false), []⟩,
  ⟨some 25, .un .not (.t 24), some (10, false), []⟩,
  ⟨some 26, .pick (.t 10) (.c (.bool true)) (.t 25), none, []⟩,
  ⟨some 27, .mv (.t 26), none, []⟩,
  ⟨some 28, .addo (.t 1) 15, some (27, false), []⟩,
  ⟨some 29, .ld (.t 28) 2 true, some (27, false), []⟩,
  ⟨some 30, .bsl 2 23 [.t 29], some (27, false), []⟩,
  ⟨some 31, .call 65 [.c (.int .i64 0), .c (.int .i64 1000000), .t 30], some (27, false), []⟩,
  ⟨some 32, .un .not (.t 31), some (27, false), []⟩,
  ⟨some 33, .pick (.t 27) (.c (.bool true)) (.t 32), none, []⟩,
  ⟨some 34, .mv (.t 33), none, []⟩,
  ⟨some 35, .addo (.t 1) 14, some (34, false), []⟩,
  ⟨some 36, .ld (.t 35) 1 false, some (34, false), []⟩,
  ⟨some 37, .bsl 1 3 [.t 36], some (34, false), []⟩,
  ⟨some 38, .call 64 [.c (.int .i64 0), .c (.int .i64 1000), .t 37], some (34, false), []⟩,
  ⟨some 39, .un .not (.t 38), some (34, false), []⟩,
  ⟨some 40, .pick (.t 34) (.c (.bool true)) (.t 39), none, []⟩])
  (.cond (.t 40)
  (.seq (.reg [
   ⟨some 2, .mv (.c (.int .i64 10)), none, []⟩])
   .ret)
  .skip))
  (.seq (.reg [
  ⟨some 2, .mv (.c (.int .i64 0)), none, []⟩])
  .ret)))
def r20 : List RV := [.tmp 2]
theorem n20 : Try.f20.ntmps = 41 := by kernel_rfl
theorem b20 : bodyB Try.prog 20 = true := by kernel_rfl
theorem c20_ok : cmpC Try.prog c20 ((Try.f20.body).getD .skip) = true := by kernel_rfl
theorem r20_ok : cmpR Try.prog r20 Try.f20.results.toList = true := by kernel_rfl
theorem t20 {args : List SV} {res : SV} (ka : KFL args) (kr : KF res) (h : sx Try.prog c20 (st0 args 41) (retK r20 res)) (hA : Nat.ble args.length 41 = true := by rfl) : Ct Try.prog 20 args res := ct_intro Try.func20 rfl b20 c20_ok r20_ok n20 (Nat.le_of_ble_eq_true hA) ka kr h
/- azalai/azalairef01.CheckBreed -/
def c21 : SC := (.seq (.reg [
  ⟨some 1, .box (.t 0) 0 25, none, []⟩,
  ⟨some 2, .mv (.c (.int .i64 0)), none, []⟩])
  (.seq (.seq (.reg [
  ⟨some 3, .ld (.t 1) 17 true, none, []⟩,
  ⟨some 4, .call 61 [.t 3], none, []⟩,
  ⟨some 5, .un .not (.t 4), none, []⟩])
  (.cond (.t 5)
  (.seq (.reg [
   ⟨some 2, .mv (.c (.int .i64 10)), none, []⟩])
   .ret)
  .skip))
  (.seq (.reg [
  ⟨some 2, .mv (.c (.int .i64 0)), none, []⟩])
  .ret)))
def r21 : List RV := [.tmp 2]
theorem n21 : Try.f21.ntmps = 6 := by kernel_rfl
theorem b21 : bodyB Try.prog 21 = true := by kernel_rfl
theorem c21_ok : cmpC Try.prog c21 ((Try.f21.body).getD .skip) = true := by kernel_rfl
theorem r21_ok : cmpR Try.prog r21 Try.f21.results.toList = true := by kernel_rfl
theorem t21 {args : List SV} {res : SV} (ka : KFL args) (kr : KF res) (h : sx Try.prog c21 (st0 args 6) (retK r21 res)) (hA : Nat.ble args.length 6 = true := by rfl) : Ct Try.prog 21 args res := ct_intro Try.func21 rfl b21 c21_ok r21_ok n21 (Nat.le_of_ble_eq_true hA) ka kr h
/- azalai/camel.CheckCamel -/
def c22 : SC := (.seq (.reg [
  ⟨some 2, .box (.t 0) 0 25, none, []⟩,
  ⟨some 3, .box (.t 1) 0 27, none, []⟩,
  ⟨some 4, .mv (.c (.int .i64 0)), none, []⟩])
  (.seq (.seq (.reg [
  ⟨some 6, .ld (.t 2) 17 true, none, []⟩,
  ⟨some 7, .call 20 [.t 6], none, []⟩,
  ⟨some 5, .mv (.t 7), none, []⟩])
  (.seq (.reg [
  ⟨some 8, .mv (.t 5), none, []⟩,
  ⟨some 9, .bin .neq (.t 8) (.c (.int .i64 0)), none, []⟩])
  (.cond (.t 9)
  (.seq (.reg [
   ⟨some 10, .mv (.t 5), none, []⟩,
   ⟨some 4, .mv (.t 10), none, []⟩])
   .ret)
  .skip)))
  (.seq (.seq (.reg [
  ⟨some 11, .addo (.t 2) 0, none, []⟩,
  ⟨some 12, .ld (.t 11) 1 false, none, []⟩,
  ⟨some 13, .addo (.t 3) 0, none, []⟩,
  ⟨some 14, .ld (.t 13) 2 true, none, []⟩,
  ⟨some 15, .bsl 2 23 [.t 14], none, []⟩,
  ⟨some 16, .call 65 [.c (.int .i64 0), .t 12, .t 15], none, []⟩,
  ⟨some 17, .un .not (.t 16), none, []⟩,
  ⟨some 18, .mv (.t 17), none, []⟩,
  ⟨some 19, .addo (.t 2) 1, some (18, false), []⟩,
  ⟨some 20, .ld (.t 19) 1 false, some (18, false), []⟩,
  ⟨some 21, .addo (.t 3) 2, some (18, false), []⟩,
  ⟨some 22, .ld (.t 21) 2 true, some (18, false), []⟩,
  ⟨some 23, .bsl 2 23 [.t 22], some (18, false), []⟩,
  ⟨some 24, .call 65 [.c (.int .i64 0), .t 20, .t 23], some (18, false), []⟩,
  ⟨some 25, .un .not (.t 24), some (18, false), []⟩,
  ⟨some 26, .pick (.t 18) (.c (.bool true)) (.t 25), none, []⟩,
  ⟨some 27, .mv (.t 26), none, []⟩,
  ⟨some 28, .addo (.t 3) 4, some (27, false), []⟩,
  ⟨some 29, .ld (.t 28) 2 true, some (27, false), []⟩,
  ⟨some 30, .bsl 2 23 [.t 29], some (27, false), []⟩,
  ⟨some 31, .call 65 [.c (.int .i64 0), .c (.int .i64 1000), .t 30], some (27, false), []⟩,
  ⟨some 32, .un .not (.t 31), some (27, false), []⟩,
  ⟨some 33, .pick (.t 27) (.c (.bool true)) (.t 32), none, []⟩])
  (.cond (.t 33)
  (.seq (.reg [
   ⟨some 4, .mv (.c (.int .i64 11)), none, []⟩])
   .ret)
  .skip))
  (.seq (.reg [
  ⟨some 4, .mv (.c (.int .i64 0)), none, []⟩])
  .ret))))
def r22 : List RV := [.tmp 4]
theorem n22 : Try.f22.ntmps = 34 := by kernel_rfl
theorem b22 : bodyB Try.prog 22 = true := by kernel_rfl
theorem c22_ok : cmpC Try.prog c22 ((Try.f22.body).getD .skip) = true := by kernel_rfl
theorem r22_ok : cmpR Try.prog r22 Try.f22.results.toList = true := by kernel_rfl
theorem t22 {args : List SV} {res : SV} (ka : KFL args) (kr : KF res) (h : sx Try.prog c22 (st0 args 34) (retK r22 res)) (hA : Nat.ble args.length 34 = true := by rfl) : Ct Try.prog 22 args res := ct_intro Try.func22 rfl b22 c22_ok r22_ok n22 (Nat.le_of_ble_eq_true hA) ka kr h
/- azalai/azalairef01.CheckCamel -/
def c23 : SC := (.seq (.reg [
  ⟨some 2, .box (.t 0) 0 25, none, []⟩,
  ⟨some 3, .box (.t 1) 0 27, none, []⟩,
  ⟨some 4, .mv (.c (.int .i64 0)), none, []⟩])
  (.seq (.seq (.reg [
  ⟨some 5, .ld (.t 2) 17 true, none, []⟩,
  ⟨some 6, .call 61 [.t 5], none, []⟩,
  ⟨some 7, .un .not (.t 6), none, []⟩])
  (.cond (.t 7)
  (.seq (.reg [
   ⟨some 4, .mv (.c (.int .i64 10)), none, []⟩])
   .ret)
  .skip))
  (.seq (.seq (.reg [
  ⟨some 8, .ld (.t 2) 17 true, none, []⟩,
  ⟨some 9, .ld (.t 3) 7 true, none, []⟩,
  ⟨some 10, .call 42 [.t 8, .t 9], none, []⟩,
  ⟨some 11, .un .not (.t 10), none, []⟩])
  (.cond (.t 11)
  (.seq (.reg [
   ⟨some 4, .mv (.c (.int .i64 11)), none, []⟩])
   .ret)
  .skip))
  (.seq (.reg [
  ⟨some 4, .mv (.c (.int .i64 0)), none, []⟩])
  .ret))))
def r23 : List RV := [.tmp 4]
theorem n23 : Try.f23.ntmps = 12 := by kernel_rfl
theorem b23 : bodyB Try.prog 23 = true := by kernel_rfl
theorem c23_ok : cmpC Try.prog c23 ((Try.f23.body).getD .skip) = true := by kernel_rfl
theorem r23_ok : cmpR Try.prog r23 Try.f23.results.toList = true := by kernel_rfl
theorem t23 {args : List SV} {res : SV} (ka : KFL args) (kr : KF res) (h : sx Try.prog c23 (st0 args 12) (retK r23 res)) (hA : Nat.ble args.length 12 = true := by rfl) : Ct Try.prog 23 args res := ct_intro Try.func23 rfl b23 c23_ok r23_ok n23 (Nat.le_of_ble_eq_true hA) ka kr h
/- azalai/azalairef01.Camel -/
def c42 : SC := (.seq (.reg [
  ⟨some 2, .box (.t 0) 0 25, none, []⟩,
  ⟨some 3, .box (.t 1) 0 27, none, []⟩,
  ⟨some 4, .mv (.c (.bool false)), none, []⟩])
  (.seq (.reg [
  ⟨some 5, .addo (.t 3) 0, none, []⟩,
  ⟨some 6, .ld (.t 5) 2 true, none, []⟩,
  ⟨some 7, .addo (.t 2) 0, none, []⟩,
  ⟨some 8, .ld (.t 7) 1 false, none, []⟩,
  ⟨some 9, .call 87 [.t 6, .c (.int .i64 0), .t 8], none, []⟩,
  ⟨some 10, .mv (.t 9), none, []⟩,
  ⟨some 11, .addo (.t 3) 2, some (10, true), []⟩,
  ⟨some 12, .ld (.t 11) 2 true, some (10, true), []⟩,
  ⟨some 13, .addo (.t 2) 1, some (10, true), []⟩,
  ⟨some 14, .ld (.t 13) 1 false, some (10, true), []⟩,
  ⟨some 15, .call 87 [.t 12, .c (.int .i64 0), .t 14], some (10, true), []⟩,
  ⟨some 16, .pick (.t 10) (.t 15) (.c (.bool false)), none, []⟩,
  ⟨some 17, .mv (.t 16), none, []⟩,
  ⟨some 18, .addo (.t 3) 4, some (17, true), []⟩,
  ⟨some 19, .ld (.t 18) 2 true, some (17, true), []⟩,
  ⟨some 20, .call 87 [.t 19, .c (.int .i64 0), .c (.int .i64 1000)], some (17, true), []⟩,
  ⟨some 21, .pick (.t 17) (.t 20) (.c (.bool false)), none, []⟩,
  ⟨some 4, .mv (.t 21), none, []⟩])
  .ret))
def r42 : List RV := [.tmp 4]
theorem n42 : Try.f42.ntmps = 22 := by kernel_rfl
theorem b42 : bodyB Try.prog 42 = true := by kernel_rfl
theorem c42_ok : cmpC Try.prog c42 ((Try.f42.body).getD .skip) = true := by kernel_rfl
theorem r42_ok : cmpR Try.prog r42 Try.f42.results.toList = true := by kernel_rfl
theorem t42 {args : List SV} {res : SV} (ka : KFL args) (kr : KF res) (h : sx Try.prog c42 (st0 args 22) (retK r42 res)) (hA : Nat.ble args.length 22 = true := by rfl) : Ct Try.prog 42 args res := ct_intro Try.func42 rfl b42 c42_ok r42_ok n42 (Nat.le_of_ble_eq_true hA) ka kr h
/- (azalai/camel.beast).fitness -/
def c55 : SC := (.seq (.reg [
  ⟨some 1, .box (.t 0) 0 107, none, []⟩,
  ⟨some 2, .alloc [.int .i64 0, .int .i64 0] 23, none, []⟩])
  (.seq (.reg [
  ⟨some 6, .build [.int .i64 0, .int .i64 0] [(0, 1, .c (.int .i64 1000)), (1, 1, .c (.int .i64 1000))], none, []⟩,
  ⟨some 3, .alloc [.int .i64 0, .int .i64 0] 23, none, []⟩,
  ⟨none, .st (.t 3) (.t 6) 2, none, []⟩])
  (.seq (.seq (.regd [0, 1, 2, 3, 4, 5, 6, 7, 8, 9, 10, 11, 12, 13, 14, 15, 16, 17, 18, 19, 20, 21] [
  .op ⟨some 7, .addo (.t 1) 17, none, []⟩,
  .op ⟨some 8, .addo (.t 7) 0, none, [0]⟩,
  .op ⟨some 9, .ld (.t 8) 2 true, none, [1]⟩,
  .op ⟨some 10, .addo (.t 1) 0, none, []⟩,
  .op ⟨some 11, .addo (.t 10) 0, none, [3]⟩,
  .op ⟨some 12, .ld (.t 11) 1 false, none, [4]⟩,
  .op ⟨some 13, .bsl 1 3 [.c (.int .i64 2), .c (.int .i64 1000)], none, []⟩,
  .op ⟨some 14, .call 89 [.t 9, .t 12, .t 13], none, [2, 5, 6]⟩,
  .op ⟨some 15, .addo (.t 1) 17, none, []⟩,
  .op ⟨some 16, .addo (.t 15) 2, none, [8]⟩,
  .op ⟨some 17, .ld (.t 16) 2 true, none, [9]⟩,
  .op ⟨some 18, .addo (.t 1) 0, none, []⟩,
  .op ⟨some 19, .addo (.t 18) 1, none, [11]⟩,
  .op ⟨some 20, .ld (.t 19) 1 false, none, [12]⟩,
  .op ⟨some 21, .bsl 1 3 [.c (.int .i64 2), .c (.int .i64 1000)], none, []⟩,
  .op ⟨some 22, .call 89 [.t 17, .t 20, .t 21], none, [7, 10, 13, 14]⟩,
  .op ⟨some 23, .addo (.t 1) 17, none, []⟩,
  .op ⟨some 24, .addo (.t 23) 4, none, [16]⟩,
  .op ⟨some 25, .ld (.t 24) 2 true, none, [17]⟩,
  .op ⟨some 26, .call 73 [.c (.int .i64 1000), .t 25], none, [15, 18]⟩,
  .op ⟨some 27, .build [.int .i64 0, .int .i64 0, .int .i64 0, .int .i64 0, .int .i64 0, .int .i64 0] [(0, 2, .t 14), (2, 2, .t 22), (4, 2, .t 26)], none, [7, 15, 19]⟩,
  .op ⟨some 28, .mv (.c (.int .i64 0)), none, []⟩] 0 0 [
])
  (.block 0 (.loop (.seq (.reg [
    ⟨some 29, .bin .lss (.t 28) (.c (.int .i64 3)), none, []⟩])
    (.seq (.cond (.t 29)
    .skip
    (.exit 0))
    (.seq (.block 1 (.seq (.reg [
     ⟨some 30, .idx (.t 27) (.t 28) 3 2 true, none, []⟩,
     ⟨some 5, .alloc [.int .i64 0, .int .i64 0] 23, none, []⟩,
     ⟨none, .st (.t 5) (.t 30) 2, none, []⟩])
     (.reg [
     ⟨some 31, .addo (.t 3) 0, none, []⟩,
     ⟨some 32, .ld (.t 31) 1 false, none, []⟩,
     ⟨some 33, .addo (.t 5) 0, none, []⟩,
     ⟨some 34, .ld (.t 33) 1 false, none, []⟩,
     ⟨some 35, .mm false [.t 32, .t 34], none, []⟩,
     ⟨some 36, .addo (.t 3) 1, none, []⟩,
     ⟨some 37, .ld (.t 36) 1 false, none, []⟩,
     ⟨some 38, .addo (.t 5) 1, none, []⟩,
     ⟨some 39, .ld (.t 38) 1 false, none, []⟩,
     ⟨some 40, .mm false [.t 37, .t 39], none, []⟩,
     ⟨some 41, .build [.int .i64 0, .int .i64 0] [(0, 1, .t 35), (1, 1, .t 40)], none, []⟩,
     ⟨none, .st (.t 3) (.t 41) 2, none, []⟩])))
    (.reg [
    ⟨some 42, .bin .add (.t 28) (.c (.int .i64 1)), none, []⟩,
    ⟨some 28, .mv (.t 42), none, []⟩])))))))
  (.seq (.reg [
  ⟨some 43, .ld (.t 3) 2 true, none, []⟩,
  ⟨none, .st (.t 2) (.t 43) 2, none, []⟩])
  .ret))))
def r55 : List RV := [.cell 2 2 true]
theorem n55 : Try.f55.ntmps = 44 := by kernel_rfl
theorem b55 : bodyB Try.prog 55 = true := by kernel_rfl
theorem c55_ok : cmpC Try.prog c55 ((Try.f55.body).getD .skip) = true := by kernel_rfl
theorem r55_ok : cmpR Try.prog r55 Try.f55.results.toList = true := by kernel_rfl
theorem t55 {args : List SV} {res : SV} (ka : KFL args) (kr : KF res) (h : sx Try.prog c55 (st0 args 44) (retK r55 res)) (hA : Nat.ble args.length 44 = true := by rfl) : Ct Try.prog 55 args res := ct_intro Try.func55 rfl b55 c55_ok r55_ok n55 (Nat.le_of_ble_eq_true hA) ka kr h
/- azalai/azalairef01.fitness -/
def c56 : SC := (.seq (.reg [
  ⟨some 2, .box (.t 0) 0 25, none, []⟩,
  ⟨some 3, .box (.t 1) 0 27, none, []⟩,
  ⟨some 4, .alloc [.int .i64 0, .int .i64 0] 23, none, []⟩])
  (.seq (.regd [0, 1, 2, 3, 4, 5, 6, 7, 8, 9, 10, 11, 12, 13, 14, 15, 16, 17, 18, 19, 20, 21, 22, 23, 24, 25, 26, 27, 28, 29, 30, 31, 32, 33, 34, 35, 36, 37, 38, 39] [
  .op ⟨some 5, .addo (.t 3) 0, none, []⟩,
  .op ⟨some 6, .addo (.t 5) 0, none, [0]⟩,
  .op ⟨some 7, .ld (.t 6) 1 false, none, [1]⟩,
  .op ⟨some 8, .bin .mul (.c (.int .i64 2000)) (.t 7), none, [2]⟩,
  .op ⟨some 9, .addo (.t 2) 0, none, []⟩,
  .op ⟨some 10, .ld (.t 9) 1 false, none, [4]⟩,
  .op ⟨some 11, .div .quo (.t 8) (.t 10), none, [3, 5]⟩,
  .op ⟨some 12, .addo (.t 3) 2, none, []⟩,
  .op ⟨some 13, .addo (.t 12) 0, none, [7]⟩,
  .op ⟨some 14, .ld (.t 13) 1 false, none, [8]⟩,
  .op ⟨some 15, .bin .mul (.c (.int .i64 2000)) (.t 14), none, [9]⟩,
  .op ⟨some 16, .addo (.t 2) 1, none, []⟩,
  .op ⟨some 17, .ld (.t 16) 1 false, none, [11]⟩,
  .op ⟨some 18, .div .quo (.t 15) (.t 17), none, [10, 12]⟩,
  .op ⟨some 19, .addo (.t 3) 4, none, []⟩,
  .op ⟨some 20, .addo (.t 19) 1, none, [14]⟩,
  .op ⟨some 21, .ld (.t 20) 1 false, none, [15]⟩,
  .op ⟨some 22, .bin .sub (.c (.int .i64 1000)) (.t 21), none, [16]⟩,
  .op ⟨some 23, .mm false [.c (.int .i64 1000), .t 11, .t 18, .t 22], none, [6, 13, 17]⟩,
  .op ⟨some 24, .addo (.t 3) 0, none, []⟩,
  .op ⟨some 25, .addo (.t 24) 1, none, [19]⟩,
  .op ⟨some 26, .ld (.t 25) 1 false, none, [20]⟩,
  .op ⟨some 27, .bin .mul (.c (.int .i64 2000)) (.t 26), none, [21]⟩,
  .op ⟨some 28, .addo (.t 2) 0, none, []⟩,
  .op ⟨some 29, .ld (.t 28) 1 false, none, [23]⟩,
  .op ⟨some 30, .call 58 [.t 27, .t 29], none, [22, 24]⟩,
  .op ⟨some 31, .addo (.t 3) 2, none, []⟩,
  .op ⟨some 32, .addo (.t 31) 1, none, [26]⟩,
  .op ⟨some 33, .ld (.t 32) 1 false, none, [27]⟩,
  .op ⟨some 34, .bin .mul (.c (.int .i64 2000)) (.t 33), none, [28]⟩,
  .op ⟨some 35, .addo (.t 2) 1, none, []⟩,
  .op ⟨some 36, .ld (.t 35) 1 false, none, [30]⟩,
  .op ⟨some 37, .call 58 [.t 34, .t 36], none, [25, 29, 31]⟩,
  .op ⟨some 38, .addo (.t 3) 4, none, []⟩,
  .op ⟨some 39, .addo (.t 38) 0, none, [33]⟩,
  .op ⟨some 40, .ld (.t 39) 1 false, none, [34]⟩,
  .op ⟨some 41, .bin .sub (.c (.int .i64 1000)) (.t 40), none, [35]⟩,
  .op ⟨some 42, .mm false [.c (.int .i64 1000), .t 30, .t 37, .t 41], none, [25, 32, 36]⟩,
  .op ⟨some 43, .build [.int .i64 0, .int .i64 0] [(0, 1, .t 23), (1, 1, .t 42)], none, [18, 37]⟩] 0 1 [
  ⟨none, .st (.t 4) (.t 43) 2, none, [0, 1, 2, 3, 4, 5, 6, 7, 8, 9, 10, 11, 12, 13, 14, 15, 16, 17, 18, 19, 20, 21, 22, 23, 24, 25, 26, 27, 28, 29, 30, 31, 32, 33, 34, 35, 36, 37, 38]⟩])
  .ret))
def r56 : List RV := [.cell 4 2 true]
theorem n56 : Try.f56.ntmps = 44 := by kernel_rfl
theorem b56 : bodyB Try.prog 56 = true := by kernel_rfl
theorem c56_ok : cmpC Try.prog c56 ((Try.f56.body).getD .skip) = true := by kernel_rfl
theorem r56_ok : cmpR Try.prog r56 Try.f56.results.toList = true := by kernel_rfl
theorem t56 {args : List SV} {res : SV} (ka : KFL args) (kr : KF res) (h : sx Try.prog c56 (st0 args 44) (retK r56 res)) (hA : Nat.ble args.length 44 = true := by rfl) : Ct Try.prog 56 args res := ct_intro Try.func56 rfl b56 c56_ok r56_ok n56 (Nat.le_of_ble_eq_true hA) ka kr h
/- (azalai/camel.beast).carries -/
def c57 : SC := (.seq (.reg [
  ⟨some 1, .box (.t 0) 0 107, none, []⟩,
  ⟨some 2, .alloc [.int .i64 0, .int .i64 0] 23, none, []⟩])
  (.seq (.reg [
  ⟨some 4, .ld (.t 1) 24 true, none, []⟩,
  ⟨some 5, .call 55 [.t 4], none, []⟩,
  ⟨some 3, .alloc [.int .i64 0, .int .i64 0] 23, none, []⟩,
  ⟨none, .st (.t 3) (.t 5) 2, none, []⟩])
  (.seq (.regd [0, 1, 2, 3, 4, 5, 6, 7, 8, 9, 10, 11, 12, 13, 14, 15, 16, 17] [
  .op ⟨some 6, .addo (.t 1) 0, none, []⟩,
  .op ⟨some 7, .addo (.t 6) 15, none, [0]⟩,
  .op ⟨some 8, .addo (.t 7) 0, none, [1]⟩,
  .op ⟨some 9, .ld (.t 8) 1 false, none, [2]⟩,
  .op ⟨some 10, .addo (.t 3) 0, none, []⟩,
  .op ⟨some 11, .ld (.t 10) 1 false, none, [4]⟩,
  .op ⟨some 12, .bin .mul (.t 9) (.t 11), none, [3, 5]⟩,
  .op ⟨some 13, .div .quo (.t 12) (.c (.int .i64 1000)), none, [6]⟩,
  .op ⟨some 14, .addo (.t 1) 0, none, []⟩,
  .op ⟨some 15, .addo (.t 14) 15, none, [8]⟩,
  .op ⟨some 16, .addo (.t 15) 1, none, [9]⟩,
  .op ⟨some 17, .ld (.t 16) 1 false, none, [10]⟩,
  .op ⟨some 18, .addo (.t 3) 1, none, []⟩,
  .op ⟨some 19, .ld (.t 18) 1 false, none, [12]⟩,
  .op ⟨some 20, .bin .mul (.t 17) (.t 19), none, [11, 13]⟩,
  .op ⟨some 21, .call 90 [.t 20, .c (.int .i64 1000)], none, [14]⟩,
  .op ⟨some 22, .build [.int .i64 0, .int .i64 0] [(0, 1, .t 13), (1, 1, .t 21)], none, [7, 15]⟩] 0 1 [
  ⟨none, .st (.t 2) (.t 22) 2, none, [0, 1, 2, 3, 4, 5, 6, 7, 8, 9, 10, 11, 12, 13, 14, 15, 16]⟩])
  .ret)))
def r57 : List RV := [.cell 2 2 true]
theorem n57 : Try.f57.ntmps = 23 := by kernel_rfl
theorem b57 : bodyB Try.prog 57 = true := by kernel_rfl
theorem c57_ok : cmpC Try.prog c57 ((Try.f57.body).getD .skip) = true := by kernel_rfl
theorem r57_ok : cmpR Try.prog r57 Try.f57.results.toList = true := by kernel_rfl
theorem t57 {args : List SV} {res : SV} (ka : KFL args) (kr : KF res) (h : sx Try.prog c57 (st0 args 23) (retK r57 res)) (hA : Nat.ble args.length 23 = true := by rfl) : Ct Try.prog 57 args res := ct_intro Try.func57 rfl b57 c57_ok r57_ok n57 (Nat.le_of_ble_eq_true hA) ka kr h
/- azalai/azalairef01.up -/
def c58 : SC := (.seq (.reg [
  ⟨some 4, .mv (.c (.int .i64 0)), none, []⟩])
  (.seq (.reg [
  ⟨some 5, .mv (.t 0), none, []⟩,
  ⟨some 6, .mv (.t 1), none, []⟩,
  ⟨some 7, .bin .add (.t 5) (.t 6), none, []⟩,
  ⟨some 8, .bin .sub (.t 7) (.c (.int .i64 1)), none, []⟩,
  ⟨some 9, .mv (.t 1), none, []⟩,
  ⟨some 10, .div .quo (.t 8) (.t 9), none, []⟩,
  ⟨some 4, .mv (.t 10), none, []⟩])
  .ret))
def r58 : List RV := [.tmp 4]
theorem n58 : Try.f58.ntmps = 11 := by kernel_rfl
theorem b58 : bodyB Try.prog 58 = true := by kernel_rfl
theorem c58_ok : cmpC Try.prog c58 ((Try.f58.body).getD .skip) = true := by kernel_rfl
theorem r58_ok : cmpR Try.prog r58 Try.f58.results.toList = true := by kernel_rfl
theorem t58 {args : List SV} {res : SV} (ka : KFL args) (kr : KF res) (h : sx Try.prog c58 (st0 args 11) (retK r58 res)) (hA : Nat.ble args.length 11 = true := by rfl) : Ct Try.prog 58 args res := ct_intro Try.func58 rfl b58 c58_ok r58_ok n58 (Nat.le_of_ble_eq_true hA) ka kr h
/- azalai/camel.checkDays -/
def c59 : SC := (.seq (.reg [
  ⟨some 2, .mv (.c (.int .i64 0)), none, []⟩])
  (.seq (.seq (.reg [
  ⟨some 5, .mv (.t 0), none, []⟩,
  ⟨some 6, .len (.t 5), none, []⟩,
  ⟨some 7, .mv (.c (.int .i64 0)), none, []⟩])
  (.block 0 (.loop (.seq (.reg [
    ⟨some 8, .bin .lss (.t 7) (.t 6), none, []⟩])
    (.seq (.cond (.t 8)
    .skip
    (.exit 0))
    (.seq (.block 1 (.seq (.reg [
     ⟨some 9, .ixs (.t 5) (.t 7) 8, none, []⟩,
     ⟨some 10, .ld (.t 9) 8 true, none, []⟩,
     ⟨some 4, .alloc [.int .i64 0, .int .i64 0, .int .i64 0, .int .i64 0, .int .i64 0, .int .i64 0, .int .i64 0, .int .i64 0] 29, none, []⟩,
     ⟨none, .st (.t 4) (.t 10) 8, none, []⟩])
     (.seq (.reg [
     ⟨some 11, .addo (.t 4) 0, none, []⟩,
     ⟨some 12, .ld (.t 11) 1 false, none, []⟩,
     ⟨some 13, .bsl 1 3 [.t 12], none, []⟩,
     ⟨some 14, .call 64 [.c (.int .i64 0), .c (.int .i64 24), .t 13], none, []⟩,
     ⟨some 15, .un .not (.t 14), none, []⟩,
     ⟨some 16, .mv (.t 15), none, []⟩,
     ⟨some 17, .addo (.t 4) 1, some (16, false), []⟩,
     ⟨some 18, .ld (.t 17) 1 false, some (16, false), []⟩,
     ⟨some 19, .bsl 1 3 [.t 18], some (16, false), []⟩,
     ⟨some 20, .call 64 [.c (.int .i64 0), .c (.int .i64 1000000), .t 19], some (16, false), []⟩,
     ⟨some 21, .un .not (.t 20), some (16, false), []⟩,
     ⟨some 22, .pick (.t 16) (.c (.bool true)) (.t 21), none, []⟩,
     ⟨some 23, .mv (.t 22), none, []⟩,
     ⟨some 24, .addo (.t 4) 2, some (23, false), []⟩,
     ⟨some 25, .ld (.t 24) 2 true, some (23, false), []⟩,
     ⟨some 26, .bsl 2 23 [.t 25], some (23, false), []⟩,
     ⟨some 27, .call 65 [.c (.int .i64 0), .c (.int .i64 60), .t 26], some (23, false), []⟩,
     ⟨some 28, .un .not (.t 27), some (23, false), []⟩,
     ⟨some 29, .pick (.t 23) (.c (.bool true)) (.t 28), none, []⟩,
     ⟨some 30, .mv (.t 29), none, []⟩,
     ⟨some 31, .addo (.t 4) 4, some (30, false), []⟩,
     ⟨some 32, .ld (.t 31) 2 true, some (30, false), []⟩,
     ⟨some 33, .addo (.t 4) 6, some (30, false), []⟩,
     ⟨some 34, .ld (.t 33) 2 true, some (30, false), []⟩,
     ⟨some 35, .bsl 2 23 [.t 32, .t 34], some (30, false), []⟩,
     ⟨some 36, .call 65 [.c (.int .i64 0), .c (.int .i64 1000000), .t 35], some (30, false), []⟩,
     ⟨some 37, .un .not (.t 36), some (30, false), []⟩,
     ⟨some 38, .pick (.t 30) (.c (.bool true)) (.t 37), none, []⟩])
     (.cond (.t 38)
     (.seq (.reg [
      ⟨some 2, .mv (.c (.int .i64 12)), none, []⟩])
      .ret)
     .skip))))
    (.reg [
    ⟨some 39, .bin .add (.t 7) (.c (.int .i64 1)), none, []⟩,
    ⟨some 7, .mv (.t 39), none, []⟩])))))))
  (.seq (.reg [
  ⟨some 2, .mv (.c (.int .i64 0)), none, []⟩])
  .ret)))
def r59 : List RV := [.tmp 2]
theorem n59 : Try.f59.ntmps = 40 := by kernel_rfl
theorem b59 : bodyB Try.prog 59 = true := by kernel_rfl
theorem c59_ok : cmpC Try.prog c59 ((Try.f59.body).getD .skip) = true := by kernel_rfl
theorem r59_ok : cmpR Try.prog r59 Try.f59.results.toList = true := by kernel_rfl
theorem t59 {args : List SV} {res : SV} (ka : KFL args) (kr : KF res) (h : sx Try.prog c59 (st0 args 40) (retK r59 res)) (hA : Nat.ble args.length 40 = true := by rfl) : Ct Try.prog 59 args res := ct_intro Try.func59 rfl b59 c59_ok r59_ok n59 (Nat.le_of_ble_eq_true hA) ka kr h
/- azalai/camel.cost -/
def c60 : SC := (.seq (.reg [
  ⟨some 3, .box (.t 0) 0 25, none, []⟩,
  ⟨some 5, .box (.t 2) 0 29, none, []⟩,
  ⟨some 6, .alloc [.int .i64 0, .int .i64 0, .int .i64 0, .int .i64 0] 112, none, []⟩])
  (.seq (.reg [
  ⟨some 10, .addo (.t 5) 2, none, []⟩,
  ⟨some 11, .addo (.t 10) 0, none, []⟩,
  ⟨some 12, .ld (.t 11) 1 false, none, []⟩,
  ⟨some 13, .bin .sub (.t 12) (.c (.int .i64 20)), none, []⟩,
  ⟨some 14, .mm true [.c (.int .i64 0), .t 13], none, []⟩,
  ⟨some 15, .addo (.t 5) 2, none, []⟩,
  ⟨some 16, .addo (.t 15) 1, none, []⟩,
  ⟨some 17, .ld (.t 16) 1 false, none, []⟩,
  ⟨some 18, .bin .sub (.t 17) (.c (.int .i64 20)), none, []⟩,
  ⟨some 19, .mm true [.c (.int .i64 0), .t 18], none, []⟩,
  ⟨some 20, .build [.int .i64 0, .int .i64 0] [(0, 1, .t 14), (1, 1, .t 19)], none, []⟩,
  ⟨some 7, .alloc [.int .i64 0, .int .i64 0] 23, none, []⟩,
  ⟨none, .st (.t 7) (.t 20) 2, none, []⟩])
  (.seq (.reg [
  ⟨some 21, .addo (.t 5) 0, none, []⟩,
  ⟨some 22, .ld (.t 21) 1 false, none, []⟩,
  ⟨some 23, .addo (.t 5) 1, none, []⟩,
  ⟨some 24, .ld (.t 23) 1 false, none, []⟩,
  ⟨some 25, .bin .add (.c (.int .i64 100000)) (.t 24), none, []⟩,
  ⟨some 26, .bin .mul (.t 22) (.t 25), none, []⟩,
  ⟨some 8, .mv (.t 26), none, []⟩])
  (.seq (.regd [0, 1, 2, 3, 4, 5, 6, 7, 8, 9, 10, 11, 12, 13, 14, 15, 16, 17, 18, 19, 20, 21, 22, 23] [
  .op ⟨some 27, .addo (.t 3) 2, none, []⟩,
  .op ⟨some 28, .ld (.t 27) 2 true, none, [0]⟩,
  .op ⟨some 29, .addo (.t 3) 4, none, []⟩,
  .op ⟨some 30, .addo (.t 29) 0, none, [2]⟩,
  .op ⟨some 31, .ld (.t 30) 1 false, none, [3]⟩,
  .op ⟨some 32, .addo (.t 7) 0, none, []⟩,
  .op ⟨some 33, .ld (.t 32) 1 false, none, [5]⟩,
  .op ⟨some 34, .bin .mul (.t 31) (.t 33), none, [4, 6]⟩,
  .op ⟨some 35, .addo (.t 3) 4, none, []⟩,
  .op ⟨some 36, .addo (.t 35) 1, none, [8]⟩,
  .op ⟨some 37, .ld (.t 36) 1 false, none, [9]⟩,
  .op ⟨some 38, .addo (.t 7) 1, none, []⟩,
  .op ⟨some 39, .ld (.t 38) 1 false, none, [11]⟩,
  .op ⟨some 40, .bin .mul (.t 37) (.t 39), none, [10, 12]⟩,
  .op ⟨some 41, .build [.int .i64 0, .int .i64 0] [(0, 1, .t 34), (1, 1, .t 40)], none, [7, 13]⟩,
  .op ⟨some 42, .addo (.t 3) 6, none, []⟩,
  .op ⟨some 43, .ld (.t 42) 2 true, none, [15]⟩,
  .op ⟨some 44, .mv (.t 8), none, []⟩,
  .op ⟨some 45, .bsl 1 3 [.t 44], none, [17]⟩,
  .op ⟨some 46, .call 89 [.t 43, .c (.int .i64 100000), .t 45], none, [16, 18]⟩,
  .op ⟨some 47, .bsl 2 23 [.t 28, .t 41, .t 46], none, [1, 14, 19]⟩,
  .op ⟨some 48, .call 72 [.t 47], none, [19, 20]⟩] 1 1 [
  ⟨some 9, .alloc [.int .i64 0, .int .i64 0] 23, none, []⟩,
  ⟨none, .st (.t 9) (.t 48) 2, none, [0, 1, 2, 3, 4, 5, 6, 7, 8, 9, 10, 11, 12, 13, 14, 15, 16, 17, 18, 19, 20, 21, 22]⟩])
  (.seq (.seq (.reg [
  ⟨some 49, .mv (.t 1), none, []⟩])
  (.cond (.t 49)
  (.reg [
   ⟨some 50, .ld (.t 9) 2 true, none, []⟩,
   ⟨some 51, .addo (.t 3) 12, none, []⟩,
   ⟨some 52, .ld (.t 51) 2 true, none, []⟩,
   ⟨some 53, .bsl 2 23 [.t 50, .t 52], none, []⟩,
   ⟨some 54, .call 72 [.t 53], none, []⟩,
   ⟨none, .st (.t 9) (.t 54) 2, none, []⟩])
  .skip))
  (.seq (.regd [0, 1, 2, 3, 4, 5, 6, 7] [
  .op ⟨some 55, .ld (.t 9) 2 true, none, []⟩,
  .op ⟨some 56, .addo (.t 3) 8, none, []⟩,
  .op ⟨some 57, .ld (.t 56) 2 true, none, [1]⟩,
  .op ⟨some 58, .mv (.t 8), none, []⟩,
  .op ⟨some 59, .bsl 1 3 [.t 58], none, [3]⟩,
  .op ⟨some 60, .call 89 [.t 57, .c (.int .i64 100000), .t 59], none, [2, 4]⟩,
  .op ⟨some 61, .build [.int .i64 0, .int .i64 0, .int .i64 0, .int .i64 0] [(0, 2, .t 55), (2, 2, .t 60)], none, [0, 5]⟩] 0 1 [
  ⟨none, .st (.t 6) (.t 61) 4, none, [0, 1, 2, 3, 4, 5, 6]⟩])
  .ret))))))
def r60 : List RV := [.cell 6 4 true]
theorem n60 : Try.f60.ntmps = 62 := by kernel_rfl
theorem b60 : bodyB Try.prog 60 = true := by kernel_rfl
theorem c60_ok : cmpC Try.prog c60 ((Try.f60.body).getD .skip) = true := by kernel_rfl
theorem r60_ok : cmpR Try.prog r60 Try.f60.results.toList = true := by kernel_rfl
theorem t60 {args : List SV} {res : SV} (ka : KFL args) (kr : KF res) (h : sx Try.prog c60 (st0 args 62) (retK r60 res)) (hA : Nat.ble args.length 62 = true := by rfl) : Ct Try.prog 60 args res := ct_intro Try.func60 rfl b60 c60_ok r60_ok n60 (Nat.le_of_ble_eq_true hA) ka kr h
/- azalai/azalairef01.Breed -/
def c61 : SC := (.seq (.reg [
  ⟨some 1, .box (.t 0) 0 25, none, []⟩,
  ⟨some 2, .mv (.c (.bool false)), none, []⟩])
  (.seq (.seq (.reg [
  ⟨some 3, .addo (.t 1) 0, none, []⟩,
  ⟨some 4, .ld (.t 3) 1 false, none, []⟩,
  ⟨some 5, .call 88 [.t 4, .c (.int .i64 1), .c (.int .i64 1000000)], none, []⟩,
  ⟨some 6, .un .not (.t 5), none, []⟩,
  ⟨some 7, .mv (.t 6), none, []⟩,
  ⟨some 8, .addo (.t 1) 1, some (7, false), []⟩,
  ⟨some 9, .ld (.t 8) 1 false, some (7, false), []⟩,
  ⟨some 10, .call 88 [.t 9, .c (.int .i64 1), .c (.int .i64 1000000)], some (7, false), []⟩,
  ⟨some 11, .un .not (.t 10), some (7, false), []⟩,
  ⟨some 12, .pick (.t 7) (.c (.bool true)) (.t 11), none, []⟩,
  ⟨some 13, .mv (.t 12), none, []⟩,
  ⟨some 14, .addo (.t 1) 14, some (13, false), []⟩,
  ⟨some 15, .ld (.t 14) 1 false, some (13, false), []⟩,
  ⟨some 16, .call 88 [.t 15, .c (.int .i64 0), .c (.int .i64 1000)], some (13, false), []⟩,
  ⟨some 17, .un .not (.t 16), some (13, false), []⟩,
  ⟨some 18, .pick (.t 13) (.c (.bool true)) (.t 17), none, []⟩,
  ⟨some 19, .mv (.t 18), none, []⟩,
  ⟨some 20, .addo (.t 1) 15, some (19, false), []⟩,
  ⟨some 21, .ld (.t 20) 2 true, some (19, false), []⟩,
  ⟨some 22, .call 87 [.t 21, .c (.int .i64 0), .c (.int .i64 1000000)], some (19, false), []⟩,
  ⟨some 23, .un .not (.t 22), some (19, false), []⟩,
  ⟨some 24, .pick (.t 19) (.c (.bool true)) (.t 23), none, []⟩])
  (.cond (.t 24)
  (.seq (.reg [
   ⟨some 2, .mv (.c (.bool false)), none, []⟩])
   .ret)
  .skip))
  (.seq (.reg [
  ⟨some 25, .addo (.t 1) 2, none, []⟩,
  ⟨some 26, .ld (.t 25) 2 true, none, []⟩,
  ⟨some 27, .call 87 [.t 26, .c (.int .i64 0), .c (.int .i64 100000)], none, []⟩,
  ⟨some 28, .mv (.t 27), none, []⟩,
  ⟨some 29, .addo (.t 1) 4, some (28, true), []⟩,
  ⟨some 30, .ld (.t 29) 2 true, some (28, true), []⟩,
  ⟨some 31, .call 87 [.t 30, .c (.int .i64 0), .c (.int .i64 100000)], some (28, true), []⟩,
  ⟨some 32, .pick (.t 28) (.t 31) (.c (.bool false)), none, []⟩,
  ⟨some 33, .mv (.t 32), none, []⟩,
  ⟨some 34, .addo (.t 1) 6, some (33, true), []⟩,
  ⟨some 35, .ld (.t 34) 2 true, some (33, true), []⟩,
  ⟨some 36, .call 87 [.t 35, .c (.int .i64 0), .c (.int .i64 100000)], some (33, true), []⟩,
  ⟨some 37, .pick (.t 33) (.t 36) (.c (.bool false)), none, []⟩,
  ⟨some 38, .mv (.t 37), none, []⟩,
  ⟨some 39, .addo (.t 1) 8, some (38, true), []⟩,
  ⟨some 40, .ld (.t 39) 2 true, some (38, true), []⟩,
  ⟨some 41, .call 87 [.t 40, .c (.int .i64 0), .c (.int .i64 100000)], some (38, true), []⟩,
  ⟨some 42, .pick (.t 38) (.t 41) (.c (.bool false)), none, []⟩,
  ⟨some 43, .mv (.t 42), none, []⟩,
  ⟨some 44, .addo (.t 1) 10, some (43, true), []⟩,
  ⟨some 45, .ld (.t 44) 2 true, some (43, true), []⟩,
  ⟨some 46, .call 87 [.t 45, .c (.int .i64 0), .c (.int .i64 100000)], some (43, true), []⟩,
  ⟨some 47, .pick (.t 43) (.t 46) (.c (.bool false)), none, []⟩,
  ⟨some 48, .mv (.t 47), none, []⟩,
  ⟨some 49, .addo (.t 1) 12, some (48, true), []⟩,
  ⟨some 50, .ld (.t 49) 2 true, some (48, true), []⟩,
  ⟨some 51, .call 87 [.t 50, .c (.int .i64 0), .c (.int .i64 100000)], some (48, true), []⟩,
  ⟨some 52, .pick (.t 48) (.t 51) (.c (.bool false)), none, []⟩,
  ⟨some 2, .mv (.t 52), none, []⟩])
  .ret)))
def r61 : List RV := [.tmp 2]
theorem n61 : Try.f61.ntmps = 53 := by kernel_rfl
theorem b61 : bodyB Try.prog 61 = true := by kernel_rfl
theorem c61_ok : cmpC Try.prog c61 ((Try.f61.body).getD .skip) = true := by kernel_rfl
theorem r61_ok : cmpR Try.prog r61 Try.f61.results.toList = true := by kernel_rfl
theorem t61 {args : List SV} {res : SV} (ka : KFL args) (kr : KF res) (h : sx Try.prog c61 (st0 args 53) (retK r61 res)) (hA : Nat.ble args.length 53 = true := by rfl) : Ct Try.prog 61 args res := ct_intro Try.func61 rfl b61 c61_ok r61_ok n61 (Nat.le_of_ble_eq_true hA) ka kr h
/- azalai/azalairef01.March -/
def c62 : SC := (.seq (.reg [
  ⟨some 1, .box (.t 0) 0 29, none, []⟩,
  ⟨some 2, .mv (.c (.bool false)), none, []⟩])
  (.seq (.reg [
  ⟨some 3, .addo (.t 1) 0, none, []⟩,
  ⟨some 4, .ld (.t 3) 1 false, none, []⟩,
  ⟨some 5, .call 88 [.t 4, .c (.int .i64 0), .c (.int .i64 24)], none, []⟩,
  ⟨some 6, .mv (.t 5), none, []⟩,
  ⟨some 7, .addo (.t 1) 1, some (6, true), []⟩,
  ⟨some 8, .ld (.t 7) 1 false, some (6, true), []⟩,
  ⟨some 9, .call 88 [.t 8, .c (.int .i64 0), .c (.int .i64 1000000)], some (6, true), []⟩,
  ⟨some 10, .pick (.t 6) (.t 9) (.c (.bool false)), none, []⟩,
  ⟨some 11, .mv (.t 10), none, []⟩,
  ⟨some 12, .addo (.t 1) 2, some (11, true), []⟩,
  ⟨some 13, .ld (.t 12) 2 true, some (11, true), []⟩,
  ⟨some 14, .call 87 [.t 13, .c (.int .i64 0), .c (.int .i64 60)], some (11, true), []⟩,
  ⟨some 15, .pick (.t 11) (.t 14) (.c (.bool false)), none, []⟩,
  ⟨some 16, .mv (.t 15), none, []⟩,
  ⟨some 17, .addo (.t 1) 4, some (16, true), []⟩,
  ⟨some 18, .ld (.t 17) 2 true, some (16, true), []⟩,
  ⟨some 19, .call 87 [.t 18, .c (.int .i64 0), .c (.int .i64 1000000)], some (16, true), []⟩,
  ⟨some 20, .pick (.t 16) (.t 19) (.c (.bool false)), none, []⟩,
  ⟨some 21, .mv (.t 20), none, []⟩,
  ⟨some 22, .addo (.t 1) 6, some (21, true), []⟩,
  ⟨some 23, .ld (.t 22) 2 true, some (21, true), []⟩,
  ⟨some 24, .call 87 [.t 23, .c (.int .i64 0), .c (.int .i64 1000000)], some (21, true), []⟩,
  ⟨some 25, .pick (.t 21) (.t 24) (.c (.bool false)), none, []⟩,
  ⟨some 2, .mv (.t 25), none, []⟩])
  .ret))
def r62 : List RV := [.tmp 2]
theorem n62 : Try.f62.ntmps = 26 := by kernel_rfl
theorem b62 : bodyB Try.prog 62 = true := by kernel_rfl
theorem c62_ok : cmpC Try.prog c62 ((Try.f62.body).getD .skip) = true := by kernel_rfl
theorem r62_ok : cmpR Try.prog r62 Try.f62.results.toList = true := by kernel_rfl
theorem t62 {args : List SV} {res : SV} (ka : KFL args) (kr : KF res) (h : sx Try.prog c62 (st0 args 26) (retK r62 res)) (hA : Nat.ble args.length 26 = true := by rfl) : Ct Try.prog 62 args res := ct_intro Try.func62 rfl b62 c62_ok r62_ok n62 (Nat.le_of_ble_eq_true hA) ka kr h
/- azalai/azalairef01.cost -/
def c63 : SC := (.seq (.reg [
  ⟨some 3, .box (.t 0) 0 25, none, []⟩,
  ⟨some 5, .box (.t 2) 0 29, none, []⟩,
  ⟨some 6, .alloc [.int .i64 0, .int .i64 0] 23, none, []⟩,
  ⟨some 7, .alloc [.int .i64 0, .int .i64 0] 23, none, []⟩])
  (.seq (.reg [
  ⟨some 10, .addo (.t 5) 0, none, []⟩,
  ⟨some 11, .ld (.t 10) 1 false, none, []⟩,
  ⟨some 12, .addo (.t 5) 1, none, []⟩,
  ⟨some 13, .ld (.t 12) 1 false, none, []⟩,
  ⟨some 14, .bin .add (.c (.int .i64 100000)) (.t 13), none, []⟩,
  ⟨some 15, .bin .mul (.t 11) (.t 14), none, []⟩,
  ⟨some 8, .mv (.t 15), none, []⟩])
  (.seq (.regd [0, 1, 2, 3, 4, 5, 6, 7, 8, 9, 10, 11, 12, 13, 14, 15, 16, 17, 18, 19, 20, 21, 22, 23, 24, 25, 26, 27, 28, 29, 30, 31, 32, 33, 34, 35, 36, 37, 38, 39, 40, 41, 42] [
  .op ⟨some 16, .addo (.t 3) 2, none, []⟩,
  .op ⟨some 17, .addo (.t 16) 0, none, [0]⟩,
  .op ⟨some 18, .ld (.t 17) 1 false, none, [1]⟩,
  .op ⟨some 19, .addo (.t 3) 4, none, []⟩,
  .op ⟨some 20, .addo (.t 19) 0, none, [3]⟩,
  .op ⟨some 21, .ld (.t 20) 1 false, none, [4]⟩,
  .op ⟨some 22, .addo (.t 5) 2, none, []⟩,
  .op ⟨some 23, .addo (.t 22) 0, none, [6]⟩,
  .op ⟨some 24, .ld (.t 23) 1 false, none, [7]⟩,
  .op ⟨some 25, .bin .sub (.t 24) (.c (.int .i64 20)), none, [8]⟩,
  .op ⟨some 26, .mm true [.c (.int .i64 0), .t 25], none, [9]⟩,
  .op ⟨some 27, .bin .mul (.t 21) (.t 26), none, [5, 10]⟩,
  .op ⟨some 28, .bin .add (.t 18) (.t 27), none, [2, 11]⟩,
  .op ⟨some 29, .addo (.t 3) 6, none, []⟩,
  .op ⟨some 30, .addo (.t 29) 0, none, [13]⟩,
  .op ⟨some 31, .ld (.t 30) 1 false, none, [14]⟩,
  .op ⟨some 32, .mv (.t 8), none, []⟩,
  .op ⟨some 33, .bin .mul (.t 31) (.t 32), none, [15, 16]⟩,
  .op ⟨some 34, .div .quo (.t 33) (.c (.int .i64 100000)), none, [17]⟩,
  .op ⟨some 35, .bin .add (.t 28) (.t 34), none, [12, 18]⟩,
  .op ⟨some 36, .addo (.t 3) 2, none, []⟩,
  .op ⟨some 37, .addo (.t 36) 1, none, [20]⟩,
  .op ⟨some 38, .ld (.t 37) 1 false, none, [21]⟩,
  .op ⟨some 39, .addo (.t 3) 4, none, []⟩,
  .op ⟨some 40, .addo (.t 39) 1, none, [23]⟩,
  .op ⟨some 41, .ld (.t 40) 1 false, none, [24]⟩,
  .op ⟨some 42, .addo (.t 5) 2, none, []⟩,
  .op ⟨some 43, .addo (.t 42) 1, none, [26]⟩,
  .op ⟨some 44, .ld (.t 43) 1 false, none, [27]⟩,
  .op ⟨some 45, .bin .sub (.t 44) (.c (.int .i64 20)), none, [28]⟩,
  .op ⟨some 46, .mm true [.c (.int .i64 0), .t 45], none, [29]⟩,
  .op ⟨some 47, .bin .mul (.t 41) (.t 46), none, [25, 30]⟩,
  .op ⟨some 48, .bin .add (.t 38) (.t 47), none, [22, 31]⟩,
  .op ⟨some 49, .addo (.t 3) 6, none, []⟩,
  .op ⟨some 50, .addo (.t 49) 1, none, [33]⟩,
  .op ⟨some 51, .ld (.t 50) 1 false, none, [34]⟩,
  .op ⟨some 52, .mv (.t 8), none, []⟩,
  .op ⟨some 53, .bin .mul (.t 51) (.t 52), none, [35, 36]⟩,
  .op ⟨some 54, .call 58 [.t 53, .c (.int .i64 100000)], none, [37]⟩,
  .op ⟨some 55, .bin .add (.t 48) (.t 54), none, [32, 38]⟩,
  .op ⟨some 56, .build [.int .i64 0, .int .i64 0] [(0, 1, .t 35), (1, 1, .t 55)], none, [19, 39]⟩] 1 1 [
  ⟨some 9, .alloc [.int .i64 0, .int .i64 0] 23, none, []⟩,
  ⟨none, .st (.t 9) (.t 56) 2, none, [0, 1, 2, 3, 4, 5, 6, 7, 8, 9, 10, 11, 12, 13, 14, 15, 16, 17, 18, 19, 20, 21, 22, 23, 24, 25, 26, 27, 28, 29, 30, 31, 32, 33, 34, 35, 36, 37, 38, 39, 40, 41]⟩])
  (.seq (.seq (.reg [
  ⟨some 57, .mv (.t 1), none, []⟩])
  (.cond (.t 57)
  (.seq (.reg [
   ⟨some 58, .addo (.t 9) 0, none, []⟩,
   ⟨some 59, .ld (.t 58) 1 false, none, []⟩,
   ⟨some 60, .addo (.t 3) 12, none, []⟩,
   ⟨some 61, .addo (.t 60) 0, none, []⟩,
   ⟨some 62, .ld (.t 61) 1 false, none, []⟩,
   ⟨some 63, .bin .add (.t 59) (.t 62), none, []⟩,
   ⟨some 64, .addo (.t 9) 0, none, []⟩,
   ⟨none, .st (.t 64) (.t 63) 1, none, []⟩])
   (.reg [
   ⟨some 65, .addo (.t 9) 1, none, []⟩,
   ⟨some 66, .ld (.t 65) 1 false, none, []⟩,
   ⟨some 67, .addo (.t 3) 12, none, []⟩,
   ⟨some 68, .addo (.t 67) 1, none, []⟩,
   ⟨some 69, .ld (.t 68) 1 false, none, []⟩,
   ⟨some 70, .bin .add (.t 66) (.t 69), none, []⟩,
   ⟨some 71, .addo (.t 9) 1, none, []⟩,
   ⟨none, .st (.t 71) (.t 70) 1, none, []⟩]))
  .skip))
  (.seq (.regd [0, 7, 8, 9, 10, 11, 12, 1, 2, 3, 4, 5, 6, 13, 14, 15] [
  .op ⟨some 72, .ld (.t 9) 2 true, none, []⟩,
  .op ⟨some 79, .addo (.t 3) 8, none, []⟩,
  .op ⟨some 80, .addo (.t 79) 1, none, [7]⟩,
  .op ⟨some 81, .ld (.t 80) 1 false, none, [8]⟩,
  .op ⟨some 82, .mv (.t 8), none, []⟩,
  .op ⟨some 83, .bin .mul (.t 81) (.t 82), none, [9, 10]⟩,
  .op ⟨some 84, .call 58 [.t 83, .c (.int .i64 100000)], none, [11]⟩,
  .hide (.t 6),
  .op ⟨some 73, .addo (.t 3) 8, none, []⟩,
  .op ⟨some 74, .addo (.t 73) 0, none, [1]⟩,
  .op ⟨some 75, .ld (.t 74) 1 false, none, [2]⟩,
  .op ⟨some 76, .mv (.t 8), none, []⟩,
  .op ⟨some 77, .bin .mul (.t 75) (.t 76), none, [3, 4]⟩,
  .op ⟨some 78, .div .quo (.t 77) (.c (.int .i64 100000)), none, [5]⟩,
  .op ⟨some 85, .build [.int .i64 0, .int .i64 0] [(0, 1, .t 78), (1, 1, .t 84)], none, [6, 12]⟩] 0 2 [
  ⟨none, .st (.t 6) (.t 72) 2, none, [0, 12]⟩,
  ⟨none, .st (.t 7) (.t 85) 2, none, [0, 1, 2, 3, 4, 5, 6, 7, 8, 9, 10, 11, 12, 13, 14]⟩])
  .ret)))))
def r63 : List RV := [.cell 6 2 true, .cell 7 2 true]
theorem n63 : Try.f63.ntmps = 86 := by kernel_rfl
theorem b63 : bodyB Try.prog 63 = true := by kernel_rfl
theorem c63_ok : cmpC Try.prog c63 ((Try.f63.body).getD .skip) = true := by kernel_rfl
theorem r63_ok : cmpR Try.prog r63 Try.f63.results.toList = true := by kernel_rfl
theorem t63 {args : List SV} {res : SV} (ka : KFL args) (kr : KF res) (h : sx Try.prog c63 (st0 args 86) (retK r63 res)) (hA : Nat.ble args.length 86 = true := by rfl) : Ct Try.prog 63 args res := ct_intro Try.func63 rfl b63 c63_ok r63_ok n63 (Nat.le_of_ble_eq_true hA) ka kr h
/- azalai/camel.from -/
def c64 : SC := (.seq (.reg [
  ⟨some 3, .box (.t 0) 0 3, none, []⟩,
  ⟨some 4, .box (.t 1) 0 3, none, []⟩,
  ⟨some 6, .mv (.c (.bool false)), none, []⟩])
  (.seq (.reg [
  ⟨some 7, .mv (.t 2), none, []⟩,
  ⟨some 8, .mkf 92 [.t 3, .t 4], none, []⟩,
  ⟨some 9, .call 91 [.t 7, .t 8], none, []⟩,
  ⟨some 10, .un .not (.t 9), none, []⟩,
  ⟨some 6, .mv (.t 10), none, []⟩])
  .ret))
def r64 : List RV := [.tmp 6]
theorem n64 : Try.f64.ntmps = 11 := by kernel_rfl
theorem b64 : bodyB Try.prog 64 = true := by kernel_rfl
theorem c64_ok : cmpC Try.prog c64 ((Try.f64.body).getD .skip) = true := by kernel_rfl
theorem r64_ok : cmpR Try.prog r64 Try.f64.results.toList = true := by kernel_rfl
theorem t64 {args : List SV} {res : SV} (ka : KFL args) (kr : KF res) (h : sx Try.prog c64 (st0 args 11) (retK r64 res)) (hA : Nat.ble args.length 11 = true := by rfl) : Ct Try.prog 64 args res := ct_intro Try.func64 rfl b64 c64_ok r64_ok n64 (Nat.le_of_ble_eq_true hA) ka kr h
/- azalai/camel.ordered -/
def c65 : SC := (.seq (.reg [
  ⟨some 3, .box (.t 0) 0 3, none, []⟩,
  ⟨some 4, .box (.t 1) 0 3, none, []⟩,
  ⟨some 6, .mv (.c (.bool false)), none, []⟩])
  (.seq (.reg [
  ⟨some 7, .mv (.t 2), none, []⟩,
  ⟨some 8, .mkf 94 [.t 3, .t 4], none, []⟩,
  ⟨some 9, .call 93 [.t 7, .t 8], none, []⟩,
  ⟨some 10, .un .not (.t 9), none, []⟩,
  ⟨some 6, .mv (.t 10), none, []⟩])
  .ret))
def r65 : List RV := [.tmp 6]
theorem n65 : Try.f65.ntmps = 11 := by kernel_rfl
theorem b65 : bodyB Try.prog 65 = true := by kernel_rfl
theorem c65_ok : cmpC Try.prog c65 ((Try.f65.body).getD .skip) = true := by kernel_rfl
theorem r65_ok : cmpR Try.prog r65 Try.f65.results.toList = true := by kernel_rfl
theorem t65 {args : List SV} {res : SV} (ka : KFL args) (kr : KF res) (h : sx Try.prog c65 (st0 args 11) (retK r65 res)) (hA : Nat.ble args.length 11 = true := by rfl) : Ct Try.prog 65 args res := ct_intro Try.func65 rfl b65 c65_ok r65_ok n65 (Nat.le_of_ble_eq_true hA) ka kr h
/- azalai/camel.plus -/
def c72 : SC := (.seq (.reg [
  ⟨some 2, .alloc [.int .i64 0, .int .i64 0] 23, none, []⟩])
  (.seq (.reg [
  ⟨some 3, .alloc [.int .i64 0, .int .i64 0] 23, none, []⟩])
  (.seq (.seq (.reg [
  ⟨some 6, .mv (.t 0), none, []⟩,
  ⟨some 7, .len (.t 6), none, []⟩,
  ⟨some 8, .mv (.c (.int .i64 0)), none, []⟩])
  (.block 0 (.loop (.seq (.reg [
    ⟨some 9, .bin .lss (.t 8) (.t 7), none, []⟩])
    (.seq (.cond (.t 9)
    .skip
    (.exit 0))
    (.seq (.block 1 (.seq (.reg [
     ⟨some 10, .ixs (.t 6) (.t 8) 2, none, []⟩,
     ⟨some 11, .ld (.t 10) 2 true, none, []⟩,
     ⟨some 5, .alloc [.int .i64 0, .int .i64 0] 23, none, []⟩,
     ⟨none, .st (.t 5) (.t 11) 2, none, []⟩])
     (.reg [
     ⟨some 12, .addo (.t 3) 0, none, []⟩,
     ⟨some 13, .ld (.t 12) 1 false, none, []⟩,
     ⟨some 14, .addo (.t 5) 0, none, []⟩,
     ⟨some 15, .ld (.t 14) 1 false, none, []⟩,
     ⟨some 16, .bin .add (.t 13) (.t 15), none, []⟩,
     ⟨some 17, .addo (.t 3) 1, none, []⟩,
     ⟨some 18, .ld (.t 17) 1 false, none, []⟩,
     ⟨some 19, .addo (.t 5) 1, none, []⟩,
     ⟨some 20, .ld (.t 19) 1 false, none, []⟩,
     ⟨some 21, .bin .add (.t 18) (.t 20), none, []⟩,
     ⟨some 22, .build [.int .i64 0, .int .i64 0] [(0, 1, .t 16), (1, 1, .t 21)], none, []⟩,
     ⟨none, .st (.t 3) (.t 22) 2, none, []⟩])))
    (.reg [
    ⟨some 23, .bin .add (.t 8) (.c (.int .i64 1)), none, []⟩,
    ⟨some 8, .mv (.t 23), none, []⟩])))))))
  (.seq (.reg [
  ⟨some 24, .ld (.t 3) 2 true, none, []⟩,
  ⟨none, .st (.t 2) (.t 24) 2, none, []⟩])
  .ret))))
def r72 : List RV := [.cell 2 2 true]
theorem n72 : Try.f72.ntmps = 25 := by kernel_rfl
theorem b72 : bodyB Try.prog 72 = true := by kernel_rfl
theorem c72_ok : cmpC Try.prog c72 ((Try.f72.body).getD .skip) = true := by kernel_rfl
theorem r72_ok : cmpR Try.prog r72 Try.f72.results.toList = true := by kernel_rfl
theorem t72 {args : List SV} {res : SV} (ka : KFL args) (kr : KF res) (h : sx Try.prog c72 (st0 args 25) (retK r72 res)) (hA : Nat.ble args.length 25 = true := by rfl) : Ct Try.prog 72 args res := ct_intro Try.func72 rfl b72 c72_ok r72_ok n72 (Nat.le_of_ble_eq_true hA) ka kr h
/- azalai/camel.rest -/
def c73 : SC := (.seq (.reg [
  ⟨some 3, .box (.t 1) 0 23, none, []⟩,
  ⟨some 4, .alloc [.int .i64 0, .int .i64 0] 23, none, []⟩])
  (.seq (.reg [
  ⟨some 5, .mv (.t 0), none, []⟩,
  ⟨some 6, .addo (.t 3) 1, none, []⟩,
  ⟨some 7, .ld (.t 6) 1 false, none, []⟩,
  ⟨some 8, .bin .sub (.t 5) (.t 7), none, []⟩,
  ⟨some 9, .mv (.t 0), none, []⟩,
  ⟨some 10, .addo (.t 3) 0, none, []⟩,
  ⟨some 11, .ld (.t 10) 1 false, none, []⟩,
  ⟨some 12, .bin .sub (.t 9) (.t 11), none, []⟩,
  ⟨some 13, .build [.int .i64 0, .int .i64 0] [(0, 1, .t 8), (1, 1, .t 12)], none, []⟩,
  ⟨none, .st (.t 4) (.t 13) 2, none, []⟩])
  .ret))
def r73 : List RV := [.cell 4 2 true]
theorem n73 : Try.f73.ntmps = 14 := by kernel_rfl
theorem b73 : bodyB Try.prog 73 = true := by kernel_rfl
theorem c73_ok : cmpC Try.prog c73 ((Try.f73.body).getD .skip) = true := by kernel_rfl
theorem r73_ok : cmpR Try.prog r73 Try.f73.results.toList = true := by kernel_rfl
theorem t73 {args : List SV} {res : SV} (ka : KFL args) (kr : KF res) (h : sx Try.prog c73 (st0 args 14) (retK r73 res)) (hA : Nat.ble args.length 14 = true := by rfl) : Ct Try.prog 73 args res := ct_intro Try.func73 rfl b73 c73_ok r73_ok n73 (Nat.le_of_ble_eq_true hA) ka kr h
/- azalai/azalairef01.spanned -/
def c87 : SC := (.seq (.reg [
  ⟨some 3, .box (.t 0) 0 23, none, []⟩,
  ⟨some 6, .mv (.c (.bool false)), none, []⟩])
  (.seq (.reg [
  ⟨some 7, .addo (.t 3) 0, none, []⟩,
  ⟨some 8, .ld (.t 7) 1 false, none, []⟩,
  ⟨some 9, .mv (.t 1), none, []⟩,
  ⟨some 10, .addo (.t 3) 1, none, []⟩,
  ⟨some 11, .ld (.t 10) 1 false, none, []⟩,
  ⟨some 12, .call 88 [.t 8, .t 9, .t 11], none, []⟩,
  ⟨some 13, .mv (.t 12), none, []⟩,
  ⟨some 14, .addo (.t 3) 1, some (13, true), []⟩,
  ⟨some 15, .ld (.t 14) 1 false, some (13, true), []⟩,
  ⟨some 16, .mv (.t 2), some (13, true), []⟩,
  ⟨some 17, .bin .leq (.t 15) (.t 16), some (13, true), []⟩,
  ⟨some 18, .pick (.t 13) (.t 17) (.c (.bool false)), none, []⟩,
  ⟨some 6, .mv (.t 18), none, []⟩])
  .ret))
def r87 : List RV := [.tmp 6]
theorem n87 : Try.f87.ntmps = 19 := by kernel_rfl
theorem b87 : bodyB Try.prog 87 = true := by kernel_rfl
theorem c87_ok : cmpC Try.prog c87 ((Try.f87.body).getD .skip) = true := by kernel_rfl
theorem r87_ok : cmpR Try.prog r87 Try.f87.results.toList = true := by kernel_rfl
theorem t87 {args : List SV} {res : SV} (ka : KFL args) (kr : KF res) (h : sx Try.prog c87 (st0 args 19) (retK r87 res)) (hA : Nat.ble args.length 19 = true := by rfl) : Ct Try.prog 87 args res := ct_intro Try.func87 rfl b87 c87_ok r87_ok n87 (Nat.le_of_ble_eq_true hA) ka kr h
/- azalai/azalairef01.within -/
def c88 : SC := (.seq (.reg [
  ⟨some 6, .mv (.c (.bool false)), none, []⟩])
  (.seq (.reg [
  ⟨some 7, .mv (.t 0), none, []⟩,
  ⟨some 8, .mv (.t 1), none, []⟩,
  ⟨some 9, .bin .geq (.t 7) (.t 8), none, []⟩,
  ⟨some 10, .mv (.t 9), none, []⟩,
  ⟨some 11, .mv (.t 0), some (10, true), []⟩,
  ⟨some 12, .mv (.t 2), some (10, true), []⟩,
  ⟨some 13, .bin .leq (.t 11) (.t 12), some (10, true), []⟩,
  ⟨some 14, .pick (.t 10) (.t 13) (.c (.bool false)), none, []⟩,
  ⟨some 6, .mv (.t 14), none, []⟩])
  .ret))
def r88 : List RV := [.tmp 6]
theorem n88 : Try.f88.ntmps = 15 := by kernel_rfl
theorem b88 : bodyB Try.prog 88 = true := by kernel_rfl
theorem c88_ok : cmpC Try.prog c88 ((Try.f88.body).getD .skip) = true := by kernel_rfl
theorem r88_ok : cmpR Try.prog r88 Try.f88.results.toList = true := by kernel_rfl
theorem t88 {args : List SV} {res : SV} (ka : KFL args) (kr : KF res) (h : sx Try.prog c88 (st0 args 15) (retK r88 res)) (hA : Nat.ble args.length 15 = true := by rfl) : Ct Try.prog 88 args res := ct_intro Try.func88 rfl b88 c88_ok r88_ok n88 (Nat.le_of_ble_eq_true hA) ka kr h
/- azalai/camel.scaled -/
def c89 : SC := (.seq (.reg [
  ⟨some 3, .box (.t 0) 0 23, none, []⟩,
  ⟨some 6, .alloc [.int .i64 0, .int .i64 0] 23, none, []⟩])
  (.seq (.seq (.reg [
  ⟨some 9, .mv (.t 2), none, []⟩,
  ⟨some 10, .len (.t 9), none, []⟩,
  ⟨some 11, .mv (.c (.int .i64 0)), none, []⟩])
  (.block 0 (.loop (.seq (.reg [
    ⟨some 12, .bin .lss (.t 11) (.t 10), none, []⟩])
    (.seq (.cond (.t 12)
    .skip
    (.exit 0))
    (.seq (.block 1 (.seq (.reg [
     ⟨some 13, .ixs (.t 9) (.t 11) 1, none, []⟩,
     ⟨some 14, .ld (.t 13) 1 false, none, []⟩,
     ⟨some 8, .mv (.t 14), none, []⟩])
     (.reg [
     ⟨some 15, .addo (.t 3) 0, none, []⟩,
     ⟨some 16, .ld (.t 15) 1 false, none, []⟩,
     ⟨some 17, .mv (.t 8), none, []⟩,
     ⟨some 18, .bin .mul (.t 16) (.t 17), none, []⟩,
     ⟨some 19, .addo (.t 3) 1, none, []⟩,
     ⟨some 20, .ld (.t 19) 1 false, none, []⟩,
     ⟨some 21, .mv (.t 8), none, []⟩,
     ⟨some 22, .bin .mul (.t 20) (.t 21), none, []⟩,
     ⟨some 23, .addo (.t 3) 0, none, []⟩,
     ⟨none, .st (.t 23) (.t 18) 1, none, []⟩,
     ⟨some 24, .addo (.t 3) 1, none, []⟩,
     ⟨none, .st (.t 24) (.t 22) 1, none, []⟩])))
    (.reg [
    ⟨some 25, .bin .add (.t 11) (.c (.int .i64 1)), none, []⟩,
    ⟨some 11, .mv (.t 25), none, []⟩])))))))
  (.seq (.regd [0, 1, 2, 3, 4, 5, 6, 7, 8, 9] [
  .op ⟨some 26, .addo (.t 3) 0, none, []⟩,
  .op ⟨some 27, .ld (.t 26) 1 false, none, [0]⟩,
  .op ⟨some 28, .mv (.t 1), none, []⟩,
  .op ⟨some 29, .div .quo (.t 27) (.t 28), none, [1, 2]⟩,
  .op ⟨some 30, .addo (.t 3) 1, none, []⟩,
  .op ⟨some 31, .ld (.t 30) 1 false, none, [4]⟩,
  .op ⟨some 32, .mv (.t 1), none, []⟩,
  .op ⟨some 33, .call 90 [.t 31, .t 32], none, [5, 6]⟩,
  .op ⟨some 34, .build [.int .i64 0, .int .i64 0] [(0, 1, .t 29), (1, 1, .t 33)], none, [3, 7]⟩] 0 1 [
  ⟨none, .st (.t 6) (.t 34) 2, none, [0, 1, 2, 3, 4, 5, 6, 7, 8]⟩])
  .ret)))
def r89 : List RV := [.cell 6 2 true]
theorem n89 : Try.f89.ntmps = 35 := by kernel_rfl
theorem b89 : bodyB Try.prog 89 = true := by kernel_rfl
theorem c89_ok : cmpC Try.prog c89 ((Try.f89.body).getD .skip) = true := by kernel_rfl
theorem r89_ok : cmpR Try.prog r89 Try.f89.results.toList = true := by kernel_rfl
theorem t89 {args : List SV} {res : SV} (ka : KFL args) (kr : KF res) (h : sx Try.prog c89 (st0 args 35) (retK r89 res)) (hA : Nat.ble args.length 35 = true := by rfl) : Ct Try.prog 89 args res := ct_intro Try.func89 rfl b89 c89_ok r89_ok n89 (Nat.le_of_ble_eq_true hA) ka kr h
/- azalai/camel.ceil -/
def c90 : SC := (.seq (.reg [
  ⟨some 4, .mv (.c (.int .i64 0)), none, []⟩])
  (.seq (.reg [
  ⟨some 5, .mv (.t 0), none, []⟩,
  ⟨some 6, .mv (.t 1), none, []⟩,
  ⟨some 7, .bin .add (.t 5) (.t 6), none, []⟩,
  ⟨some 8, .bin .sub (.t 7) (.c (.int .i64 1)), none, []⟩,
  ⟨some 9, .mv (.t 1), none, []⟩,
  ⟨some 10, .div .quo (.t 8) (.t 9), none, []⟩,
  ⟨some 4, .mv (.t 10), none, []⟩])
  .ret))
def r90 : List RV := [.tmp 4]
theorem n90 : Try.f90.ntmps = 11 := by kernel_rfl
theorem b90 : bodyB Try.prog 90 = true := by kernel_rfl
theorem c90_ok : cmpC Try.prog c90 ((Try.f90.body).getD .skip) = true := by kernel_rfl
theorem r90_ok : cmpR Try.prog r90 Try.f90.results.toList = true := by kernel_rfl
theorem t90 {args : List SV} {res : SV} (ka : KFL args) (kr : KF res) (h : sx Try.prog c90 (st0 args 11) (retK r90 res)) (hA : Nat.ble args.length 11 = true := by rfl) : Ct Try.prog 90 args res := ct_intro Try.func90 rfl b90 c90_ok r90_ok n90 (Nat.le_of_ble_eq_true hA) ka kr h
/- slices.ContainsFunc[[]int,int] -/
def c91 : SC := (.seq (.reg [
  ⟨some 4, .mv (.c (.bool false)), none, []⟩])
  (.seq (.reg [
  ⟨some 5, .mv (.t 0), none, []⟩,
  ⟨some 6, .mv (.t 1), none, []⟩,
  ⟨some 7, .call 101 [.t 5, .t 6], none, []⟩,
  ⟨some 8, .bin .geq (.t 7) (.c (.int .i64 0)), none, []⟩,
  ⟨some 4, .mv (.t 8), none, []⟩])
  .ret))
def r91 : List RV := [.tmp 4]
theorem n91 : Try.f91.ntmps = 9 := by kernel_rfl
theorem b91 : bodyB Try.prog 91 = true := by kernel_rfl
theorem c91_ok : cmpC Try.prog c91 ((Try.f91.body).getD .skip) = true := by kernel_rfl
theorem r91_ok : cmpR Try.prog r91 Try.f91.results.toList = true := by kernel_rfl
theorem t91 {args : List SV} {res : SV} (ka : KFL args) (kr : KF res) (h : sx Try.prog c91 (st0 args 9) (retK r91 res)) (hA : Nat.ble args.length 9 = true := by rfl) : Ct Try.prog 91 args res := ct_intro Try.func91 rfl b91 c91_ok r91_ok n91 (Nat.le_of_ble_eq_true hA) ka kr h
/- azalai/camel.from$1 -/
def c92 : SC := (.seq (.reg [
  ⟨some 4, .mv (.c (.bool false)), none, []⟩])
  (.seq (.reg [
  ⟨some 5, .mv (.t 0), none, []⟩,
  ⟨some 6, .ld (.t 1) 1 false, none, []⟩,
  ⟨some 7, .bin .lss (.t 5) (.t 6), none, []⟩,
  ⟨some 8, .mv (.t 7), none, []⟩,
  ⟨some 9, .mv (.t 0), some (8, false), []⟩,
  ⟨some 10, .ld (.t 2) 1 false, some (8, false), []⟩,
  ⟨some 11, .bin .gtr (.t 9) (.t 10), some (8, false), []⟩,
  ⟨some 12, .pick (.t 8) (.c (.bool true)) (.t 11), none, []⟩,
  ⟨some 4, .mv (.t 12), none, []⟩])
  .ret))
def r92 : List RV := [.tmp 4]
theorem n92 : Try.f92.ntmps = 13 := by kernel_rfl
theorem b92 : bodyB Try.prog 92 = true := by kernel_rfl
theorem c92_ok : cmpC Try.prog c92 ((Try.f92.body).getD .skip) = true := by kernel_rfl
theorem r92_ok : cmpR Try.prog r92 Try.f92.results.toList = true := by kernel_rfl
theorem t92 {args : List SV} {res : SV} (ka : KFL args) (kr : KF res) (h : sx Try.prog c92 (st0 args 13) (retK r92 res)) (hA : Nat.ble args.length 13 = true := by rfl) : Ct Try.prog 92 args res := ct_intro Try.func92 rfl b92 c92_ok r92_ok n92 (Nat.le_of_ble_eq_true hA) ka kr h
/- slices.ContainsFunc[[]azalai/api.Span,azalai/api.Span] -/
def c93 : SC := (.seq (.reg [
  ⟨some 4, .mv (.c (.bool false)), none, []⟩])
  (.seq (.reg [
  ⟨some 5, .mv (.t 0), none, []⟩,
  ⟨some 6, .mv (.t 1), none, []⟩,
  ⟨some 7, .call 102 [.t 5, .t 6], none, []⟩,
  ⟨some 8, .bin .geq (.t 7) (.c (.int .i64 0)), none, []⟩,
  ⟨some 4, .mv (.t 8), none, []⟩])
  .ret))
def r93 : List RV := [.tmp 4]
theorem n93 : Try.f93.ntmps = 9 := by kernel_rfl
theorem b93 : bodyB Try.prog 93 = true := by kernel_rfl
theorem c93_ok : cmpC Try.prog c93 ((Try.f93.body).getD .skip) = true := by kernel_rfl
theorem r93_ok : cmpR Try.prog r93 Try.f93.results.toList = true := by kernel_rfl
theorem t93 {args : List SV} {res : SV} (ka : KFL args) (kr : KF res) (h : sx Try.prog c93 (st0 args 9) (retK r93 res)) (hA : Nat.ble args.length 9 = true := by rfl) : Ct Try.prog 93 args res := ct_intro Try.func93 rfl b93 c93_ok r93_ok n93 (Nat.le_of_ble_eq_true hA) ka kr h
/- azalai/camel.ordered$1 -/
def c94 : SC := (.seq (.reg [
  ⟨some 3, .box (.t 0) 0 23, none, []⟩,
  ⟨some 4, .mv (.c (.bool false)), none, []⟩])
  (.seq (.reg [
  ⟨some 5, .addo (.t 3) 0, none, []⟩,
  ⟨some 6, .ld (.t 5) 1 false, none, []⟩,
  ⟨some 7, .addo (.t 3) 1, none, []⟩,
  ⟨some 8, .ld (.t 7) 1 false, none, []⟩,
  ⟨some 9, .bin .gtr (.t 6) (.t 8), none, []⟩,
  ⟨some 10, .mv (.t 9), none, []⟩,
  ⟨some 11, .ld (.t 1) 1 false, some (10, false), []⟩,
  ⟨some 12, .ld (.t 2) 1 false, some (10, false), []⟩,
  ⟨some 13, .addo (.t 3) 0, some (10, false), []⟩,
  ⟨some 14, .ld (.t 13) 1 false, some (10, false), []⟩,
  ⟨some 15, .addo (.t 3) 1, some (10, false), []⟩,
  ⟨some 16, .ld (.t 15) 1 false, some (10, false), []⟩,
  ⟨some 17, .bsl 1 3 [.t 14, .t 16], some (10, false), []⟩,
  ⟨some 18, .call 64 [.t 11, .t 12, .t 17], some (10, false), []⟩,
  ⟨some 19, .un .not (.t 18), some (10, false), []⟩,
  ⟨some 20, .pick (.t 10) (.c (.bool true)) (.t 19), none, []⟩,
  ⟨some 4, .mv (.t 20), none, []⟩])
  .ret))
def r94 : List RV := [.tmp 4]
theorem n94 : Try.f94.ntmps = 21 := by kernel_rfl
theorem b94 : bodyB Try.prog 94 = true := by kernel_rfl
theorem c94_ok : cmpC Try.prog c94 ((Try.f94.body).getD .skip) = true := by kernel_rfl
theorem r94_ok : cmpR Try.prog r94 Try.f94.results.toList = true := by kernel_rfl
theorem t94 {args : List SV} {res : SV} (ka : KFL args) (kr : KF res) (h : sx Try.prog c94 (st0 args 21) (retK r94 res)) (hA : Nat.ble args.length 21 = true := by rfl) : Ct Try.prog 94 args res := ct_intro Try.func94 rfl b94 c94_ok r94_ok n94 (Nat.le_of_ble_eq_true hA) ka kr h
/- slices.IndexFunc[[]int,int] -/
def c101 : SC := (.seq (.reg [
  ⟨some 4, .mv (.c (.int .i64 0)), none, []⟩])
  (.seq (.seq (.reg [
  ⟨some 6, .mv (.t 0), none, []⟩,
  ⟨some 7, .len (.t 6), none, []⟩,
  ⟨some 8, .mv (.c (.int .i64 0)), none, []⟩])
  (.block 0 (.loop (.seq (.reg [
    ⟨some 9, .bin .lss (.t 8) (.t 7), none, []⟩])
    (.seq (.cond (.t 9)
    .skip
    (.exit 0))
    (.seq (.block 1 (.seq (.reg [
     ⟨some 10, .mv (.t 8), none, []⟩,
     ⟨some 5, .mv (.t 10), none, []⟩])
     (.seq (.reg [
     ⟨some 11, .mv (.t 1), none, []⟩,
     ⟨some 12, .mv (.t 0), none, []⟩,
     ⟨some 13, .mv (.t 5), none, []⟩,
     ⟨some 14, .ixs (.t 12) (.t 13) 1, none, []⟩,
     ⟨some 15, .ld (.t 14) 1 false, none, []⟩,
     ⟨some 16, .calv (.t 11) [.t 15], none, []⟩])
     (.cond (.t 16)
     (.seq (.reg [
      ⟨some 17, .mv (.t 5), none, []⟩,
      ⟨some 4, .mv (.t 17), none, []⟩])
      .ret)
     .skip))))
    (.reg [
    ⟨some 18, .bin .add (.t 8) (.c (.int .i64 1)), none, []⟩,
    ⟨some 8, .mv (.t 18), none, []⟩])))))))
  (.seq (.reg [
  ⟨some 4, .mv (.c (.int .i64 (-1))), none, []⟩])
  .ret)))
def r101 : List RV := [.tmp 4]
theorem n101 : Try.f101.ntmps = 19 := by kernel_rfl
theorem b101 : bodyB Try.prog 101 = true := by kernel_rfl
theorem c101_ok : cmpC Try.prog c101 ((Try.f101.body).getD .skip) = true := by kernel_rfl
theorem r101_ok : cmpR Try.prog r101 Try.f101.results.toList = true := by kernel_rfl
theorem t101 {args : List SV} {res : SV} (ka : KFL args) (kr : KF res) (h : sx Try.prog c101 (st0 args 19) (retK r101 res)) (hA : Nat.ble args.length 19 = true := by rfl) : Ct Try.prog 101 args res := ct_intro Try.func101 rfl b101 c101_ok r101_ok n101 (Nat.le_of_ble_eq_true hA) ka kr h
/- slices.IndexFunc[[]azalai/api.Span,azalai/api.Span] -/
def c102 : SC := (.seq (.reg [
  ⟨some 4, .mv (.c (.int .i64 0)), none, []⟩])
  (.seq (.seq (.reg [
  ⟨some 6, .mv (.t 0), none, []⟩,
  ⟨some 7, .len (.t 6), none, []⟩,
  ⟨some 8, .mv (.c (.int .i64 0)), none, []⟩])
  (.block 0 (.loop (.seq (.reg [
    ⟨some 9, .bin .lss (.t 8) (.t 7), none, []⟩])
    (.seq (.cond (.t 9)
    .skip
    (.exit 0))
    (.seq (.block 1 (.seq (.reg [
     ⟨some 10, .mv (.t 8), none, []⟩,
     ⟨some 5, .mv (.t 10), none, []⟩])
     (.seq (.reg [
     ⟨some 11, .mv (.t 1), none, []⟩,
     ⟨some 12, .mv (.t 0), none, []⟩,
     ⟨some 13, .mv (.t 5), none, []⟩,
     ⟨some 14, .ixs (.t 12) (.t 13) 2, none, []⟩,
     ⟨some 15, .ld (.t 14) 2 true, none, []⟩,
     ⟨some 16, .calv (.t 11) [.t 15], none, []⟩])
     (.cond (.t 16)
     (.seq (.reg [
      ⟨some 17, .mv (.t 5), none, []⟩,
      ⟨some 4, .mv (.t 17), none, []⟩])
      .ret)
     .skip))))
    (.reg [
    ⟨some 18, .bin .add (.t 8) (.c (.int .i64 1)), none, []⟩,
    ⟨some 8, .mv (.t 18), none, []⟩])))))))
  (.seq (.reg [
  ⟨some 4, .mv (.c (.int .i64 (-1))), none, []⟩])
  .ret)))
def r102 : List RV := [.tmp 4]
theorem n102 : Try.f102.ntmps = 19 := by kernel_rfl
theorem b102 : bodyB Try.prog 102 = true := by kernel_rfl
theorem c102_ok : cmpC Try.prog c102 ((Try.f102.body).getD .skip) = true := by kernel_rfl
theorem r102_ok : cmpR Try.prog r102 Try.f102.results.toList = true := by kernel_rfl
theorem t102 {args : List SV} {res : SV} (ka : KFL args) (kr : KF res) (h : sx Try.prog c102 (st0 args 19) (retK r102 res)) (hA : Nat.ble args.length 19 = true := by rfl) : Ct Try.prog 102 args res := ct_intro Try.func102 rfl b102 c102_ok r102_ok n102 (Nat.le_of_ble_eq_true hA) ka kr h
end Go.Proofs.Ytnlfjchbhgikaaa
