import Derived.Test.YtnlfjchbhgikaaaSc
import Derived.Test.YtnlfjchbhgikaaaProg
set_option maxRecDepth 100000
namespace Go.Proofs.Ytnlfjchbhgikaaa
open Go Go.Sx
/- azalai/azalailaw01.CamelFits -/
def c3 : SC := (.seq (.reg [
  ⟨some 3, .box (.t 0) 0 25, none, []⟩,
  ⟨some 4, .box (.t 1) 0 27, none, []⟩,
  ⟨some 5, .box (.t 2) 0 29, none, []⟩,
  ⟨some 6, .mv (.c (.bool false)), none, []⟩])
  (.seq (.reg [
  ⟨some 22, .ld (.t 3) 17 true, none, []⟩,
  ⟨some 23, .ld (.t 4) 7 true, none, []⟩,
  ⟨some 24, .call 14 [.t 22, .t 23], none, []⟩,
  ⟨some 21, .mv (.t 24), none, []⟩,
  ⟨some 25, .ext (.t 21) 0, none, []⟩,
  ⟨some 26, .ext (.t 21) 1, none, []⟩,
  ⟨some 7, .alloc [.int .i64 0, .int .i64 0] 23, none, []⟩,
  ⟨none, .st (.t 7) (.t 25) 2, none, []⟩,
  ⟨some 8, .mv (.t 26), none, []⟩])
  (.seq (.reg [
  ⟨some 28, .ld (.t 3) 17 true, none, []⟩,
  ⟨some 29, .ld (.t 4) 7 true, none, []⟩,
  ⟨some 30, .call 15 [.t 28, .t 29], none, []⟩,
  ⟨some 27, .mv (.t 30), none, []⟩,
  ⟨some 31, .ext (.t 27) 0, none, []⟩,
  ⟨some 32, .ext (.t 27) 1, none, []⟩,
  ⟨some 9, .alloc [.int .i64 0, .int .i64 0] 23, none, []⟩,
  ⟨none, .st (.t 9) (.t 31) 2, none, []⟩,
  ⟨some 10, .mv (.t 32), none, []⟩])
  (.seq (.reg [
  ⟨some 34, .ld (.t 3) 17 true, none, []⟩,
  ⟨some 35, .ld (.t 4) 7 true, none, []⟩,
  ⟨some 36, .call 16 [.t 34, .t 35], none, []⟩,
  ⟨some 33, .mv (.t 36), none, []⟩,
  ⟨some 37, .ext (.t 33) 0, none, []⟩,
  ⟨some 38, .ext (.t 33) 1, none, []⟩,
  ⟨some 11, .alloc [.int .i64 0, .int .i64 0] 23, none, []⟩,
  ⟨none, .st (.t 11) (.t 37) 2, none, []⟩,
  ⟨some 12, .mv (.t 38), none, []⟩])
  (.seq (.reg [
  ⟨some 40, .ld (.t 3) 17 true, none, []⟩,
  ⟨some 41, .ld (.t 4) 7 true, none, []⟩,
  ⟨some 42, .call 17 [.t 40, .t 41], none, []⟩,
  ⟨some 39, .mv (.t 42), none, []⟩,
  ⟨some 43, .ext (.t 39) 0, none, []⟩,
  ⟨some 44, .ext (.t 39) 1, none, []⟩,
  ⟨some 13, .alloc [.int .i64 0, .int .i64 0] 23, none, []⟩,
  ⟨none, .st (.t 13) (.t 43) 2, none, []⟩,
  ⟨some 14, .mv (.t 44), none, []⟩])
  (.seq (.reg [
  ⟨some 46, .ld (.t 3) 17 true, none, []⟩,
  ⟨some 47, .addo (.t 4) 6, none, []⟩,
  ⟨some 48, .ld (.t 47) 1 false, none, []⟩,
  ⟨some 49, .ld (.t 5) 8 true, none, []⟩,
  ⟨some 50, .call 18 [.t 46, .t 48, .t 49], none, []⟩,
  ⟨some 45, .mv (.t 50), none, []⟩,
  ⟨some 51, .ext (.t 45) 0, none, []⟩,
  ⟨some 52, .ext (.t 45) 1, none, []⟩,
  ⟨some 53, .ext (.t 45) 2, none, []⟩,
  ⟨some 15, .alloc [.int .i64 0, .int .i64 0] 23, none, []⟩,
  ⟨some 16, .alloc [.int .i64 0, .int .i64 0] 23, none, []⟩,
  ⟨none, .st (.t 15) (.t 51) 2, none, []⟩,
  ⟨none, .st (.t 16) (.t 52) 2, none, []⟩,
  ⟨some 17, .mv (.t 53), none, []⟩])
  (.seq (.reg [
  ⟨some 55, .ld (.t 3) 17 true, none, []⟩,
  ⟨some 56, .addo (.t 4) 6, none, []⟩,
  ⟨some 57, .ld (.t 56) 1 false, none, []⟩,
  ⟨some 58, .ld (.t 5) 8 true, none, []⟩,
  ⟨some 59, .call 19 [.t 55, .t 57, .t 58], none, []⟩,
  ⟨some 54, .mv (.t 59), none, []⟩,
  ⟨some 60, .ext (.t 54) 0, none, []⟩,
  ⟨some 61, .ext (.t 54) 1, none, []⟩,
  ⟨some 62, .ext (.t 54) 2, none, []⟩,
  ⟨some 18, .alloc [.int .i64 0, .int .i64 0] 23, none, []⟩,
  ⟨some 19, .alloc [.int .i64 0, .int .i64 0] 23, none, []⟩,
  ⟨none, .st (.t 18) (.t 60) 2, none, []⟩,
  ⟨none, .st (.t 19) (.t 61) 2, none, []⟩,
  ⟨some 20, .mv (.t 62), none, []⟩])
  (.seq (.regd [0, 1, 2, 3, 4, 5, 6, 7, 8, 9, 10, 11, 12, 13, 14, 15, 16, 17, 18, 19, 20, 21, 22, 23, 24, 25, 26, 27, 28, 29, 30, 31, 32, 33, 34, 35, 36, 37, 38, 39, 40, 41, 42, 43, 44, 45, 46, 47, 48, 49] [
  .op ⟨some 63, .ld (.t 3) 17 true, none, []⟩,
  .op ⟨some 64, .call 20 [.t 63], none, [0]⟩,
  .op ⟨some 65, .ld (.t 3) 17 true, none, []⟩,
  .op ⟨some 66, .call 21 [.t 65], none, [1, 2]⟩,
  .op ⟨some 67, .bin .eql (.t 64) (.t 66), none, [1, 3]⟩,
  .op ⟨some 68, .mv (.t 67), none, [3, 4]⟩,
  .op ⟨some 69, .ld (.t 3) 17 true, some (68, true), [5]⟩,
  .op ⟨some 70, .ld (.t 4) 7 true, some (68, true), [5]⟩,
  .op ⟨some 71, .call 22 [.t 69, .t 70], some (68, true), [5, 6, 7]⟩,
  .op ⟨some 72, .ld (.t 3) 17 true, some (68, true), [5]⟩,
  .op ⟨some 73, .ld (.t 4) 7 true, some (68, true), [5]⟩,
  .op ⟨some 74, .call 23 [.t 72, .t 73], some (68, true), [5, 8, 9, 10]⟩,
  .op ⟨some 75, .bin .eql (.t 71) (.t 74), some (68, true), [5, 8, 11]⟩,
  .op ⟨some 76, .pick (.t 68) (.t 75) (.c (.bool false)), none, [5, 12]⟩,
  .op ⟨some 77, .mv (.t 76), none, [11, 13]⟩,
  .op ⟨some 78, .ld (.t 7) 2 true, some (77, true), [14]⟩,
  .op ⟨some 79, .ld (.t 9) 2 true, some (77, true), [14]⟩,
  .op ⟨some 80, .eqs false true [1, 1] (.t 78) (.t 79), some (77, true), [14, 15, 16]⟩,
  .op ⟨some 81, .pick (.t 77) (.t 80) (.c (.bool false)), none, [14, 17]⟩,
  .op ⟨some 82, .mv (.t 81), none, [14, 18]⟩,
  .op ⟨some 83, .mv (.t 8), some (82, true), [19]⟩,
  .op ⟨some 84, .mv (.t 10), some (82, true), [19]⟩,
  .op ⟨some 85, .bin .eql (.t 83) (.t 84), some (82, true), [19, 20, 21]⟩,
  .op ⟨some 86, .pick (.t 82) (.t 85) (.c (.bool false)), none, [19, 22]⟩,
  .op ⟨some 87, .mv (.t 86), none, [19, 23]⟩,
  .op ⟨some 88, .ld (.t 11) 2 true, some (87, true), [24]⟩,
  .op ⟨some 89, .ld (.t 13) 2 true, some (87, true), [24]⟩,
  .op ⟨some 90, .eqs false true [1, 1] (.t 88) (.t 89), some (87, true), [24, 25, 26]⟩,
  .op ⟨some 91, .pick (.t 87) (.t 90) (.c (.bool false)), none, [24, 27]⟩,
  .op ⟨some 92, .mv (.t 91), none, [24, 28]⟩,
  .op ⟨some 93, .mv (.t 12), some (92, true), [29]⟩,
  .op ⟨some 94, .mv (.t 14), some (92, true), [29]⟩,
  .op ⟨some 95, .bin .eql (.t 93) (.t 94), some (92, true), [29, 30, 31]⟩,
  .op ⟨some 96, .pick (.t 92) (.t 95) (.c (.bool false)), none, [29, 32]⟩,
  .op ⟨some 97, .mv (.t 96), none, [29, 33]⟩,
  .op ⟨some 98, .ld (.t 15) 2 true, some (97, true), [34]⟩,
  .op ⟨some 99, .ld (.t 18) 2 true, some (97, true), [34]⟩,
  .op ⟨some 100, .eqs false true [1, 1] (.t 98) (.t 99), some (97, true), [34, 35, 36]⟩,
  .op ⟨some 101, .pick (.t 97) (.t 100) (.c (.bool false)), none, [34, 37]⟩,
  .op ⟨some 102, .mv (.t 101), none, [34, 38]⟩,
  .op ⟨some 103, .ld (.t 16) 2 true, some (102, true), [39]⟩,
  .op ⟨some 104, .ld (.t 19) 2 true, some (102, true), [39]⟩,
  .op ⟨some 105, .eqs false true [1, 1] (.t 103) (.t 104), some (102, true), [39, 40, 41]⟩,
  .op ⟨some 106, .pick (.t 102) (.t 105) (.c (.bool false)), none, [39, 42]⟩,
  .op ⟨some 107, .mv (.t 106), none, [39, 43]⟩,
  .op ⟨some 108, .mv (.t 17), some (107, true), [44]⟩,
  .op ⟨some 109, .mv (.t 20), some (107, true), [44]⟩,
  .op ⟨some 110, .bin .eql (.t 108) (.t 109), some (107, true), [44, 45, 46]⟩,
  .op ⟨some 111, .pick (.t 107) (.t 110) (.c (.bool false)), none, [44, 47]⟩,
  .op ⟨some 6, .mv (.t 111), none, [0, 1, 2, 3, 4, 5, 6, 7, 8, 9, 10, 11, 12, 13, 14, 15, 16, 17, 18, 19, 20, 21, 22, 23, 24, 25, 26, 27, 28, 29, 30, 31, 32, 33, 34, 35, 36, 37, 38, 39, 40, 41, 42, 43, 44, 45, 46, 47, 48]⟩] 0 0 [
])
  .ret))))))))
def r3 : List RV := [.tmp 6]
theorem n3 : Try.f3.ntmps = 112 := by kernel_rfl
theorem b3 : bodyB Try.prog 3 = true := by kernel_rfl
theorem c3_ok : cmpC Try.prog c3 ((Try.f3.body).getD .skip) = true := by kernel_rfl
theorem r3_ok : cmpR Try.prog r3 Try.f3.results.toList = true := by kernel_rfl
theorem t3 {args : List SV} {res : SV} (ka : KFL args) (kr : KF res) (h : sx Try.prog Y0 0 c3 (st0 args 112) (retK r3 res)) (hA : Nat.ble args.length 112 = true := by rfl) : Ct Try.prog 3 args res := ct_intro Try.func3 rfl b3 c3_ok r3_ok n3 (Nat.le_of_ble_eq_true hA) ka kr h
/- azalai/camel.Fitness -/
def c14 : SC := (.seq (.reg [
  ⟨some 2, .box (.t 0) 0 25, none, []⟩,
  ⟨some 3, .box (.t 1) 0 27, none, []⟩,
  ⟨some 4, .alloc [.int .i64 0, .int .i64 0] 23, none, []⟩,
  ⟨some 5, .mv (.c (.int .i64 0)), none, []⟩])
  (.seq (.seq (.reg [
  ⟨some 7, .ld (.t 2) 17 true, none, []⟩,
  ⟨some 8, .ld (.t 3) 7 true, none, []⟩,
  ⟨some 9, .call 22 [.t 7, .t 8], none, []⟩,
  ⟨some 6, .mv (.t 9), none, []⟩])
  (.seq (.reg [
  ⟨some 10, .mv (.t 6), none, []⟩,
  ⟨some 11, .bin .neq (.t 10) (.c (.int .i64 0)), none, []⟩])
  (.cond (.t 11)
  (.seq (.reg [
   ⟨some 12, .build [.int .i64 0, .int .i64 0] [], none, []⟩,
   ⟨some 13, .mv (.t 6), none, []⟩,
   ⟨none, .st (.t 4) (.t 12) 2, none, []⟩,
   ⟨some 5, .mv (.t 13), none, []⟩])
   .ret)
  .skip)))
  (.seq (.reg [
  ⟨some 14, .ld (.t 2) 17 true, none, []⟩,
  ⟨some 15, .ld (.t 3) 7 true, none, []⟩,
  ⟨some 16, .build [.int .i64 0, .int .i64 0, .int .i64 0, .int .i64 0, .int .i64 0, .int .i64 0, .int .i64 0, .int .i64 0, .int .i64 0, .int .i64 0, .int .i64 0, .int .i64 0, .int .i64 0, .int .i64 0, .int .i64 0, .int .i64 0, .int .i64 0, .int .i64 0, .int .i64 0, .int .i64 0, .int .i64 0, .int .i64 0, .int .i64 0, .bool false] [(0, 17, .t 14), (17, 7, .t 15)], none, []⟩,
  ⟨some 17, .call 55 [.t 16], none, []⟩,
  ⟨none, .st (.t 4) (.t 17) 2, none, []⟩,
  ⟨some 5, .mv (.c (.int .i64 0)), none, []⟩])
  .ret)))
def r14 : List RV := [.cell 4 2 true, .tmp 5]
theorem n14 : Try.f14.ntmps = 18 := by kernel_rfl
theorem b14 : bodyB Try.prog 14 = true := by kernel_rfl
theorem c14_ok : cmpC Try.prog c14 ((Try.f14.body).getD .skip) = true := by kernel_rfl
theorem r14_ok : cmpR Try.prog r14 Try.f14.results.toList = true := by kernel_rfl
theorem t14 {args : List SV} {res : SV} (ka : KFL args) (kr : KF res) (h : sx Try.prog Y0 0 c14 (st0 args 18) (retK r14 res)) (hA : Nat.ble args.length 18 = true := by rfl) : Ct Try.prog 14 args res := ct_intro Try.func14 rfl b14 c14_ok r14_ok n14 (Nat.le_of_ble_eq_true hA) ka kr h
/- azalai/azalairef01.Fitness -/
def c15 : SC := (.seq (.reg [
  ⟨some 2, .box (.t 0) 0 25, none, []⟩,
  ⟨some 3, .box (.t 1) 0 27, none, []⟩,
  ⟨some 4, .alloc [.int .i64 0, .int .i64 0] 23, none, []⟩,
  ⟨some 5, .mv (.c (.int .i64 0)), none, []⟩])
  (.seq (.seq (.reg [
  ⟨some 7, .ld (.t 2) 17 true, none, []⟩,
  ⟨some 8, .ld (.t 3) 7 true, none, []⟩,
  ⟨some 9, .call 23 [.t 7, .t 8], none, []⟩,
  ⟨some 6, .mv (.t 9), none, []⟩])
  (.seq (.reg [
  ⟨some 10, .mv (.t 6), none, []⟩,
  ⟨some 11, .bin .neq (.t 10) (.c (.int .i64 0)), none, []⟩])
  (.cond (.t 11)
  (.seq (.reg [
   ⟨some 12, .build [.int .i64 0, .int .i64 0] [], none, []⟩,
   ⟨some 13, .mv (.t 6), none, []⟩,
   ⟨none, .st (.t 4) (.t 12) 2, none, []⟩,
   ⟨some 5, .mv (.t 13), none, []⟩])
   .ret)
  .skip)))
  (.seq (.reg [
  ⟨some 14, .ld (.t 2) 17 true, none, []⟩,
  ⟨some 15, .ld (.t 3) 7 true, none, []⟩,
  ⟨some 16, .call 56 [.t 14, .t 15], none, []⟩,
  ⟨none, .st (.t 4) (.t 16) 2, none, []⟩,
  ⟨some 5, .mv (.c (.int .i64 0)), none, []⟩])
  .ret)))
def r15 : List RV := [.cell 4 2 true, .tmp 5]
theorem n15 : Try.f15.ntmps = 17 := by kernel_rfl
theorem b15 : bodyB Try.prog 15 = true := by kernel_rfl
theorem c15_ok : cmpC Try.prog c15 ((Try.f15.body).getD .skip) = true := by kernel_rfl
theorem r15_ok : cmpR Try.prog r15 Try.f15.results.toList = true := by kernel_rfl
theorem t15 {args : List SV} {res : SV} (ka : KFL args) (kr : KF res) (h : sx Try.prog Y0 0 c15 (st0 args 17) (retK r15 res)) (hA : Nat.ble args.length 17 = true := by rfl) : Ct Try.prog 15 args res := ct_intro Try.func15 rfl b15 c15_ok r15_ok n15 (Nat.le_of_ble_eq_true hA) ka kr h
/- azalai/camel.Carries -/
def c16 : SC := (.seq (.reg [
  ⟨some 2, .box (.t 0) 0 25, none, []⟩,
  ⟨some 3, .box (.t 1) 0 27, none, []⟩,
  ⟨some 4, .alloc [.int .i64 0, .int .i64 0] 23, none, []⟩,
  ⟨some 5, .mv (.c (.int .i64 0)), none, []⟩])
  (.seq (.seq (.reg [
  ⟨some 7, .ld (.t 2) 17 true, none, []⟩,
  ⟨some 8, .ld (.t 3) 7 true, none, []⟩,
  ⟨some 9, .call 22 [.t 7, .t 8], none, []⟩,
  ⟨some 6, .mv (.t 9), none, []⟩])
  (.seq (.reg [
  ⟨some 10, .mv (.t 6), none, []⟩,
  ⟨some 11, .bin .neq (.t 10) (.c (.int .i64 0)), none, []⟩])
  (.cond (.t 11)
  (.seq (.reg [
   ⟨some 12, .build [.int .i64 0, .int .i64 0] [], none, []⟩,
   ⟨some 13, .mv (.t 6), none, []⟩,
   ⟨none, .st (.t 4) (.t 12) 2, none, []⟩,
   ⟨some 5, .mv (.t 13), none, []⟩])
   .ret)
  .skip)))
  (.seq (.reg [
  ⟨some 14, .ld (.t 2) 17 true, none, []⟩,
  ⟨some 15, .ld (.t 3) 7 true, none, []⟩,
  ⟨some 16, .build [.int .i64 0, .int .i64 0, .int .i64 0, .int .i64 0, .int .i64 0, .int .i64 0, .int .i64 0, .int .i64 0, .int .i64 0, .int .i64 0, .int .i64 0, .int .i64 0, .int .i64 0, .int .i64 0, .int .i64 0, .int .i64 0, .int .i64 0, .int .i64 0, .int .i64 0, .int .i64 0, .int .i64 0, .int .i64 0, .int .i64 0, .bool false] [(0, 17, .t 14), (17, 7, .t 15)], none, []⟩,
  ⟨some 17, .call 57 [.t 16], none, []⟩,
  ⟨none, .st (.t 4) (.t 17) 2, none, []⟩,
  ⟨some 5, .mv (.c (.int .i64 0)), none, []⟩])
  .ret)))
def r16 : List RV := [.cell 4 2 true, .tmp 5]
theorem n16 : Try.f16.ntmps = 18 := by kernel_rfl
theorem b16 : bodyB Try.prog 16 = true := by kernel_rfl
theorem c16_ok : cmpC Try.prog c16 ((Try.f16.body).getD .skip) = true := by kernel_rfl
theorem r16_ok : cmpR Try.prog r16 Try.f16.results.toList = true := by kernel_rfl
theorem t16 {args : List SV} {res : SV} (ka : KFL args) (kr : KF res) (h : sx Try.prog Y0 0 c16 (st0 args 18) (retK r16 res)) (hA : Nat.ble args.length 18 = true := by rfl) : Ct Try.prog 16 args res := ct_intro Try.func16 rfl b16 c16_ok r16_ok n16 (Nat.le_of_ble_eq_true hA) ka kr h
/- azalai/azalairef01.Carries -/
def c17 : SC := (.seq (.reg [
  ⟨some 2, .box (.t 0) 0 25, none, []⟩,
  ⟨some 3, .box (.t 1) 0 27, none, []⟩,
  ⟨some 4, .alloc [.int .i64 0, .int .i64 0] 23, none, []⟩,
  ⟨some 5, .mv (.c (.int .i64 0)), none, []⟩])
  (.seq (.reg [
  ⟨some 9, .ld (.t 2) 17 true, none, []⟩,
  ⟨some 10, .ld (.t 3) 7 true, none, []⟩,
  ⟨some 11, .call 15 [.t 9, .t 10], none, []⟩,
  ⟨some 8, .mv (.t 11), none, []⟩,
  ⟨some 12, .ext (.t 8) 0, none, []⟩,
  ⟨some 13, .ext (.t 8) 1, none, []⟩,
  ⟨some 6, .alloc [.int .i64 0, .int .i64 0] 23, none, []⟩,
  ⟨none, .st (.t 6) (.t 12) 2, none, []⟩,
  ⟨some 7, .mv (.t 13), none, []⟩])
  (.seq (.seq (.reg [
  ⟨some 14, .mv (.t 7), none, []⟩,
  ⟨some 15, .bin .neq (.t 14) (.c (.int .i64 0)), none, []⟩])
  (.cond (.t 15)
  (.seq (.reg [
   ⟨some 16, .build [.int .i64 0, .int .i64 0] [], none, []⟩,
   ⟨some 17, .mv (.t 7), none, []⟩,
   ⟨none, .st (.t 4) (.t 16) 2, none, []⟩,
   ⟨some 5, .mv (.t 17), none, []⟩])
   .ret)
  .skip))
  (.seq (.regd [0, 1, 2, 3, 4, 5, 6, 7, 8, 9, 10, 11, 12, 13, 14, 15, 16] [
  .op ⟨some 18, .addo (.t 2) 15, none, []⟩,
  .op ⟨some 19, .addo (.t 18) 0, none, [0]⟩,
  .op ⟨some 20, .ld (.t 19) 1 false, none, [1]⟩,
  .op ⟨some 21, .addo (.t 6) 0, none, []⟩,
  .op ⟨some 22, .ld (.t 21) 1 false, none, [3]⟩,
  .op ⟨some 23, .bin .mul (.t 20) (.t 22), none, [2, 4]⟩,
  .op ⟨some 24, .div .quo (.t 23) (.c (.int .i64 1000)), none, [5]⟩,
  .op ⟨some 25, .addo (.t 2) 15, none, []⟩,
  .op ⟨some 26, .addo (.t 25) 1, none, [7]⟩,
  .op ⟨some 27, .ld (.t 26) 1 false, none, [8]⟩,
  .op ⟨some 28, .addo (.t 6) 1, none, []⟩,
  .op ⟨some 29, .ld (.t 28) 1 false, none, [10]⟩,
  .op ⟨some 30, .bin .mul (.t 27) (.t 29), none, [9, 11]⟩,
  .op ⟨some 31, .call 58 [.t 30, .c (.int .i64 1000)], none, [12]⟩,
  .op ⟨some 32, .build [.int .i64 0, .int .i64 0] [(0, 1, .t 24), (1, 1, .t 31)], none, [6, 13]⟩] 0 1 [
  ⟨none, .st (.t 4) (.t 32) 2, none, [0, 1, 2, 3, 4, 5, 6, 7, 8, 9, 10, 11, 12, 13, 14]⟩,
  ⟨some 5, .mv (.c (.int .i64 0)), none, [0, 1, 2, 3, 4, 5, 6, 7, 8, 9, 10, 11, 12, 13, 14, 15]⟩])
  .ret))))
def r17 : List RV := [.cell 4 2 true, .tmp 5]
theorem n17 : Try.f17.ntmps = 33 := by kernel_rfl
theorem b17 : bodyB Try.prog 17 = true := by kernel_rfl
theorem c17_ok : cmpC Try.prog c17 ((Try.f17.body).getD .skip) = true := by kernel_rfl
theorem r17_ok : cmpR Try.prog r17 Try.f17.results.toList = true := by kernel_rfl
theorem t17 {args : List SV} {res : SV} (ka : KFL args) (kr : KF res) (h : sx Try.prog Y0 0 c17 (st0 args 33) (retK r17 res)) (hA : Nat.ble args.length 33 = true := by rfl) : Ct Try.prog 17 args res := ct_intro Try.func17 rfl b17 c17_ok r17_ok n17 (Nat.le_of_ble_eq_true hA) ka kr h
/- azalai/camel.Cost -/
def c18 : SC := (.seq (.reg [
  ⟨some 3, .box (.t 0) 0 25, none, []⟩,
  ⟨some 5, .box (.t 2) 0 29, none, []⟩,
  ⟨some 6, .alloc [.int .i64 0, .int .i64 0] 23, none, []⟩,
  ⟨some 7, .alloc [.int .i64 0, .int .i64 0] 23, none, []⟩,
  ⟨some 8, .mv (.c (.int .i64 0)), none, []⟩])
  (.seq (.seq (.reg [
  ⟨some 12, .ld (.t 3) 17 true, none, []⟩,
  ⟨some 13, .call 20 [.t 12], none, []⟩,
  ⟨some 9, .mv (.t 13), none, []⟩])
  (.seq (.reg [
  ⟨some 14, .mv (.t 9), none, []⟩,
  ⟨some 15, .bin .neq (.t 14) (.c (.int .i64 0)), none, []⟩])
  (.cond (.t 15)
  (.seq (.regd [0, 1, 2, 3, 4, 5] [
   .op ⟨some 16, .ld (.t 6) 2 true, none, []⟩,
   .hide (.t 6),
   .op ⟨some 17, .ld (.t 7) 2 true, none, []⟩,
   .hide (.t 7),
   .op ⟨some 18, .mv (.t 9), none, []⟩] 0 2 [
   ⟨none, .st (.t 6) (.t 16) 2, none, [0]⟩,
   ⟨none, .st (.t 7) (.t 17) 2, none, [0, 1, 3]⟩,
   ⟨some 8, .mv (.t 18), none, [0, 1, 2, 3, 4]⟩])
   .ret)
  .skip)))
  (.seq (.seq (.reg [
  ⟨some 19, .ld (.t 5) 8 true, none, []⟩,
  ⟨some 20, .bsl 8 29 [.t 19], none, []⟩,
  ⟨some 21, .call 59 [.t 20], none, []⟩,
  ⟨some 10, .mv (.t 21), none, []⟩])
  (.seq (.reg [
  ⟨some 22, .mv (.t 10), none, []⟩,
  ⟨some 23, .bin .neq (.t 22) (.c (.int .i64 0)), none, []⟩])
  (.cond (.t 23)
  (.seq (.regd [0, 1, 2, 3, 4, 5] [
   .op ⟨some 24, .ld (.t 6) 2 true, none, []⟩,
   .hide (.t 6),
   .op ⟨some 25, .ld (.t 7) 2 true, none, []⟩,
   .hide (.t 7),
   .op ⟨some 26, .mv (.t 10), none, []⟩] 0 2 [
   ⟨none, .st (.t 6) (.t 24) 2, none, [0]⟩,
   ⟨none, .st (.t 7) (.t 25) 2, none, [0, 1, 3]⟩,
   ⟨some 8, .mv (.t 26), none, [0, 1, 2, 3, 4]⟩])
   .ret)
  .skip)))
  (.seq (.reg [
  ⟨some 27, .ld (.t 3) 17 true, none, []⟩,
  ⟨some 28, .mv (.t 1), none, []⟩,
  ⟨some 29, .ld (.t 5) 8 true, none, []⟩,
  ⟨some 30, .call 60 [.t 27, .t 28, .t 29], none, []⟩,
  ⟨some 11, .alloc [.int .i64 0, .int .i64 0, .int .i64 0, .int .i64 0] 112, none, []⟩,
  ⟨none, .st (.t 11) (.t 30) 4, none, []⟩])
  (.seq (.regd [0, 1, 2, 3, 4, 5, 6] [
  .op ⟨some 31, .ixa (.t 11) (.c (.int .i64 0)) 2 2, none, []⟩,
  .op ⟨some 32, .ld (.t 31) 2 true, none, [0]⟩,
  .hide (.t 6),
  .op ⟨some 33, .ixa (.t 11) (.c (.int .i64 1)) 2 2, none, []⟩,
  .op ⟨some 34, .ld (.t 33) 2 true, none, [2]⟩] 0 2 [
  ⟨none, .st (.t 6) (.t 32) 2, none, [0, 1]⟩,
  ⟨none, .st (.t 7) (.t 34) 2, none, [0, 1, 2, 3, 4]⟩,
  ⟨some 8, .mv (.c (.int .i64 0)), none, [0, 1, 2, 3, 4, 5]⟩])
  .ret)))))
def r18 : List RV := [.cell 6 2 true, .cell 7 2 true, .tmp 8]
theorem n18 : Try.f18.ntmps = 35 := by kernel_rfl
theorem b18 : bodyB Try.prog 18 = true := by kernel_rfl
theorem c18_ok : cmpC Try.prog c18 ((Try.f18.body).getD .skip) = true := by kernel_rfl
theorem r18_ok : cmpR Try.prog r18 Try.f18.results.toList = true := by kernel_rfl
theorem t18 {args : List SV} {res : SV} (ka : KFL args) (kr : KF res) (h : sx Try.prog Y0 0 c18 (st0 args 35) (retK r18 res)) (hA : Nat.ble args.length 35 = true := by rfl) : Ct Try.prog 18 args res := ct_intro Try.func18 rfl b18 c18_ok r18_ok n18 (Nat.le_of_ble_eq_true hA) ka kr h
/- azalai/azalairef01.Cost -/
def c19 : SC := (.seq (.reg [
  ⟨some 3, .box (.t 0) 0 25, none, []⟩,
  ⟨some 5, .box (.t 2) 0 29, none, []⟩,
  ⟨some 6, .alloc [.int .i64 0, .int .i64 0] 23, none, []⟩,
  ⟨some 7, .alloc [.int .i64 0, .int .i64 0] 23, none, []⟩,
  ⟨some 8, .mv (.c (.int .i64 0)), none, []⟩])
  (.seq (.seq (.reg [
  ⟨some 11, .ld (.t 3) 17 true, none, []⟩,
  ⟨some 12, .call 61 [.t 11], none, []⟩,
  ⟨some 13, .un .not (.t 12), none, []⟩])
  (.cond (.t 13)
  (.seq (.reg [
   ⟨some 14, .build [.int .i64 0, .int .i64 0] [], none, []⟩,
   ⟨some 15, .build [.int .i64 0, .int .i64 0] [], none, []⟩,
   ⟨none, .st (.t 6) (.t 14) 2, none, []⟩,
   ⟨none, .st (.t 7) (.t 15) 2, none, []⟩,
   ⟨some 8, .mv (.c (.int .i64 10)), none, []⟩])
   .ret)
  .skip))
  (.seq (.seq (.reg [
  ⟨some 16, .ld (.t 5) 8 true, none, []⟩,
  ⟨some 17, .call 62 [.t 16], none, []⟩,
  ⟨some 18, .un .not (.t 17), none, []⟩])
  (.cond (.t 18)
  (.seq (.reg [
   ⟨some 19, .build [.int .i64 0, .int .i64 0] [], none, []⟩,
   ⟨some 20, .build [.int .i64 0, .int .i64 0] [], none, []⟩,
   ⟨none, .st (.t 6) (.t 19) 2, none, []⟩,
   ⟨none, .st (.t 7) (.t 20) 2, none, []⟩,
   ⟨some 8, .mv (.c (.int .i64 12)), none, []⟩])
   .ret)
  .skip))
  (.seq (.reg [
  ⟨some 22, .ld (.t 3) 17 true, none, []⟩,
  ⟨some 23, .mv (.t 1), none, []⟩,
  ⟨some 24, .ld (.t 5) 8 true, none, []⟩,
  ⟨some 25, .call 63 [.t 22, .t 23, .t 24], none, []⟩,
  ⟨some 21, .mv (.t 25), none, []⟩,
  ⟨some 26, .ext (.t 21) 0, none, []⟩,
  ⟨some 27, .ext (.t 21) 1, none, []⟩,
  ⟨some 9, .alloc [.int .i64 0, .int .i64 0] 23, none, []⟩,
  ⟨some 10, .alloc [.int .i64 0, .int .i64 0] 23, none, []⟩,
  ⟨none, .st (.t 9) (.t 26) 2, none, []⟩,
  ⟨none, .st (.t 10) (.t 27) 2, none, []⟩])
  (.seq (.regd [0, 1, 2, 3, 4] [
  .op ⟨some 28, .ld (.t 9) 2 true, none, []⟩,
  .hide (.t 6),
  .op ⟨some 29, .ld (.t 10) 2 true, none, []⟩] 0 2 [
  ⟨none, .st (.t 6) (.t 28) 2, none, [0]⟩,
  ⟨none, .st (.t 7) (.t 29) 2, none, [0, 1, 2]⟩,
  ⟨some 8, .mv (.c (.int .i64 0)), none, [0, 1, 2, 3]⟩])
  .ret)))))
def r19 : List RV := [.cell 6 2 true, .cell 7 2 true, .tmp 8]
theorem n19 : Try.f19.ntmps = 30 := by kernel_rfl
theorem b19 : bodyB Try.prog 19 = true := by kernel_rfl
theorem c19_ok : cmpC Try.prog c19 ((Try.f19.body).getD .skip) = true := by kernel_rfl
theorem r19_ok : cmpR Try.prog r19 Try.f19.results.toList = true := by kernel_rfl
theorem t19 {args : List SV} {res : SV} (ka : KFL args) (kr : KF res) (h : sx Try.prog Y0 0 c19 (st0 args 30) (retK r19 res)) (hA : Nat.ble args.length 30 = true := by rfl) : Ct Try.prog 19 args res := ct_intro Try.func19 rfl b19 c19_ok r19_ok n19 (Nat.le_of_ble_eq_true hA) ka kr h
/- azalai/camel.CheckBreed -/
def c20 : SC := (.seq (.reg [
  ⟨some 1, .box (.t 0) 0 25, none, []⟩,
  ⟨some 2, .mv (.c (.int .i64 0)), none, []⟩])
  (.seq (.seq (.reg [
  ⟨some 3, .addo (.t 1) 0, none, []⟩,
  ⟨some 4, .ld (.t 3) 1 false, none, []⟩,
  ⟨some 5, .addo (.t 1) 1, none, []⟩,
  ⟨some 6, .ld (.t 5) 1 false, none, []⟩,
  ⟨some 7, .bsl 1 3 [.t 4, .t 6], none, []⟩,
  ⟨some 8, .call 64 [.c (.int .i64 1), .c (.int .i64 1000000), .t 7], none, []⟩,
  ⟨some 9, .un .not (.t 8), none, []⟩,
  ⟨some 10, .mv (.t 9), none, []⟩,
  ⟨some 11, .addo (.t 1) 2, some (10, false), []⟩,
  ⟨some 12, .ld (.t 11) 2 true, some (10, false), []⟩,
  ⟨some 13, .addo (.t 1) 4, some (10, false), []⟩,
  ⟨some 14, .ld (.t 13) 2 true, some (10, false), []⟩,
  ⟨some 15, .addo (.t 1) 6, some (10, false), []⟩,
  ⟨some 16, .ld (.t 15) 2 true, some (10, false), []⟩,
  ⟨some 17, .addo (.t 1) 8, some (10, false), []⟩,
  ⟨some 18, .ld (.t 17) 2 true, some (10, false), []⟩,
  ⟨some 19, .addo (.t 1) 10, some (10, false), []⟩,
  ⟨some 20, .ld (.t 19) 2 true, some (10, false), []⟩,
  ⟨some 21, .addo (.t 1) 12, some (10, false), []⟩,
  ⟨some 22, .ld (.t 21) 2 true, some (10, false), []⟩,
  ⟨some 23, .bsl 2 23 [.t 12, .t 14, .t 16, .t 18, .t 20, .t 22], some (10, false), []⟩,
  ⟨some 24, .call 65 [.c (.int .i64 0), .c (.int .i64 100000), .t 23], some (10, false), []⟩,
  ⟨some 25, .un .not (.t 24), some (10, false), []⟩,
  ⟨some 26, .pick (.t 10) (.c (.bool true)) (.t 25), none, []⟩,
  ⟨some 27, .mv (.t 26), none, []⟩,
  ⟨some 28, .addo (.t 1) 15, some (27, false), []⟩,
  ⟨some 29, .ld (.t 28) 2 true, some (27, false), []⟩,
  ⟨some 30, .bsl 2 23 [.t 29], some (27, false), []⟩,
  ⟨some 31, .call 65 [.c (.int .i64 0), .c (.int .i64 1000000), .t 30], some (27, false), []⟩,
  ⟨some 32, .un .not (.t 31), some (27, false), []⟩,
  ⟨some 33, .pick (.t 27) (.c (.bool true)) (.t 32), none, []⟩,
  ⟨some 34, .mv (.t 33), none, []⟩,
  ⟨some 35, .addo (.t 1) 14, some (34, false), []⟩,
  ⟨some 36, .ld (.t 35) 1 false, some (34, false), []⟩,
  ⟨some 37, .bsl 1 3 [.t 36], some (34, false), []⟩,
  ⟨some 38, .call 64 [.c (.int .i64 0), .c (.int .i64 1000), .t 37], some (34, false), []⟩,
  ⟨some 39, .un .not (.t 38), some (34, false), []⟩,
  ⟨some 40, .pick (.t 34) (.c (.bool true)) (.t 39), none, []⟩])
  (.cond (.t 40)
  (.seq (.reg [
   ⟨some 2, .mv (.c (.int .i64 10)), none, []⟩])
   .ret)
  .skip))
  (.seq (.reg [
  ⟨some 2, .mv (.c (.int .i64 0)), none, []⟩])
  .ret)))
def r20 : List RV := [.tmp 2]
theorem n20 : Try.f20.ntmps = 41 := by kernel_rfl
theorem b20 : bodyB Try.prog 20 = true := by kernel_rfl
theorem c20_ok : cmpC Try.prog c20 ((Try.f20.body).getD .skip) = true := by kernel_rfl
theorem r20_ok : cmpR Try.prog r20 Try.f20.results.toList = true := by kernel_rfl
theorem t20 {args : List SV} {res : SV} (ka : KFL args) (kr : KF res) (h : sx Try.prog Y0 0 c20 (st0 args 41) (retK r20 res)) (hA : Nat.ble args.length 41 = true := by rfl) : Ct Try.prog 20 args res := ct_intro Try.func20 rfl b20 c20_ok r20_ok n20 (Nat.le_of_ble_eq_true hA) ka kr h
/- azalai/azalairef01.CheckBreed -/
def c21 : SC := (.seq (.reg [
  ⟨some 1, .box (.t 0) 0 25, none, []⟩,
  ⟨some 2, .mv (.c (.int .i64 0)), none, []⟩])
  (.seq (.seq (.reg [
  ⟨some 3, .ld (.t 1) 17 true, none, []⟩,
  ⟨some 4, .call 61 [.t 3], none, []⟩,
  ⟨some 5, .un .not (.t 4), none, []⟩])
  (.cond (.t 5)
  (.seq (.reg [
   ⟨some 2, .mv (.c (.int .i64 10)), none, []⟩])
   .ret)
  .skip))
  (.seq (.reg [
  ⟨some 2, .mv (.c (.int .i64 0)), none, []⟩])
  .ret)))
def r21 : List RV := [.tmp 2]
theorem n21 : Try.f21.ntmps = 6 := by kernel_rfl
theorem b21 : bodyB Try.prog 21 = true := by kernel_rfl
theorem c21_ok : cmpC Try.prog c21 ((Try.f21.body).getD .skip) = true := by kernel_rfl
theorem r21_ok : cmpR Try.prog r21 Try.f21.results.toList = true := by kernel_rfl
theorem t21 {args : List SV} {res : SV} (ka : KFL args) (kr : KF res) (h : sx Try.prog Y0 0 c21 (st0 args 6) (retK r21 res)) (hA : Nat.ble args.length 6 = true := by rfl) : Ct Try.prog 21 args res := ct_intro Try.func21 rfl b21 c21_ok r21_ok n21 (Nat.le_of_ble_eq_true hA) ka kr h
/- azalai/camel.CheckCamel -/
def c22 : SC := (.seq (.reg [
  ⟨some 2, .box (.t 0) 0 25, none, []⟩,
  ⟨some 3, .box (.t 1) 0 27, none, []⟩,
  ⟨some 4, .mv (.c (.int .i64 0)), none, []⟩])
  (.seq (.seq (.reg [
  ⟨some 6, .ld (.t 2) 17 true, none, []⟩,
  ⟨some 7, .call 20 [.t 6], none, []⟩,
  ⟨some 5, .mv (.t 7), none, []⟩])
  (.seq (.reg [
  ⟨some 8, .mv (.t 5), none, []⟩,
  ⟨some 9, .bin .neq (.t 8) (.c (.int .i64 0)), none, []⟩])
  (.cond (.t 9)
  (.seq (.reg [
   ⟨some 10, .mv (.t 5), none, []⟩,
   ⟨some 4, .mv (.t 10), none, []⟩])
   .ret)
  .skip)))
  (.seq (.seq (.reg [
  ⟨some 11, .addo (.t 2) 0, none, []⟩,
  ⟨some 12, .ld (.t 11) 1 false, none, []⟩,
  ⟨some 13, .addo (.t 3) 0, none, []⟩,
  ⟨some 14, .ld (.t 13) 2 true, none, []⟩,
  ⟨some 15, .bsl 2 23 [.t 14], none, []⟩,
  ⟨some 16, .call 65 [.c (.int .i64 0), .t 12, .t 15], none, []⟩,
  ⟨some 17, .un .not (.t 16), none, []⟩,
  ⟨some 18, .mv (.t 17), none, []⟩,
  ⟨some 19, .addo (.t 2) 1, some (18, false), []⟩,
  ⟨some 20, .ld (.t 19) 1 false, some (18, false), []⟩,
  ⟨some 21, .addo (.t 3) 2, some (18, false), []⟩,
  ⟨some 22, .ld (.t 21) 2 true, some (18, false), []⟩,
  ⟨some 23, .bsl 2 23 [.t 22], some (18, false), []⟩,
  ⟨some 24, .call 65 [.c (.int .i64 0), .t 20, .t 23], some (18, false), []⟩,
  ⟨some 25, .un .not (.t 24), some (18, false), []⟩,
  ⟨some 26, .pick (.t 18) (.c (.bool true)) (.t 25), none, []⟩,
  ⟨some 27, .mv (.t 26), none, []⟩,
  ⟨some 28, .addo (.t 3) 4, some (27, false), []⟩,
  ⟨some 29, .ld (.t 28) 2 true, some (27, false), []⟩,
  ⟨some 30, .bsl 2 23 [.t 29], some (27, false), []⟩,
  ⟨some 31, .call 65 [.c (.int .i64 0), .c (.int .i64 1000), .t 30], some (27, false), []⟩,
  ⟨some 32, .un .not (.t 31), some (27, false), []⟩,
  ⟨some 33, .pick (.t 27) (.c (.bool true)) (.t 32), none, []⟩])
  (.cond (.t 33)
  (.seq (.reg [
   ⟨some 4, .mv (.c (.int .i64 11)), none, []⟩])
   .ret)
  .skip))
  (.seq (.reg [
  ⟨some 4, .mv (.c (.int .i64 0)), none, []⟩])
  .ret))))
def r22 : List RV := [.tmp 4]
theorem n22 : Try.f22.ntmps = 34 := by kernel_rfl
theorem b22 : bodyB Try.prog 22 = true := by kernel_rfl
theorem c22_ok : cmpC Try.prog c22 ((Try.f22.body).getD .skip) = true := by kernel_rfl
theorem r22_ok : cmpR Try.prog r22 Try.f22.results.toList = true := by kernel_rfl
theorem t22 {args : List SV} {res : SV} (ka : KFL args) (kr : KF res) (h : sx Try.prog Y0 0 c22 (st0 args 34) (retK r22 res)) (hA : Nat.ble args.length 34 = true := by rfl) : Ct Try.prog 22 args res := ct_intro Try.func22 rfl b22 c22_ok r22_ok n22 (Nat.le_of_ble_eq_true hA) ka kr h
/- azalai/azalairef01.CheckCamel -/
def c23 : SC := (.seq (.reg [
  ⟨some 2, .box (.t 0) 0 25, none, []⟩,
  ⟨some 3, .box (.t 1) 0 27, none, []⟩,
  ⟨some 4, .mv (.c (.int .i64 0)), none, []⟩])
  (.seq (.seq (.reg [
  ⟨some 5, .ld (.t 2) 17 true, none, []⟩,
  ⟨some 6, .call 61 [.t 5], none, []⟩,
  ⟨some 7, .un .not (.t 6), none, []⟩])
  (.cond (.t 7)
  (.seq (.reg [
   ⟨some 4, .mv (.c (.int .i64 10)), none, []⟩])
   .ret)
  .skip))
  (.seq (.seq (.reg [
  ⟨some 8, .ld (.t 2) 17 true, none, []⟩,
  ⟨some 9, .ld (.t 3) 7 true, none, []⟩,
  ⟨some 10, .call 42 [.t 8, .t 9], none, []⟩,
  ⟨some 11, .un .not (.t 10), none, []⟩])
  (.cond (.t 11)
  (.seq (.reg [
   ⟨some 4, .mv (.c (.int .i64 11)), none, []⟩])
   .ret)
  .skip))
  (.seq (.reg [
  ⟨some 4, .mv (.c (.int .i64 0)), none, []⟩])
  .ret))))
def r23 : List RV := [.tmp 4]
theorem n23 : Try.f23.ntmps = 12 := by kernel_rfl
theorem b23 : bodyB Try.prog 23 = true := by kernel_rfl
theorem c23_ok : cmpC Try.prog c23 ((Try.f23.body).getD .skip) = true := by kernel_rfl
theorem r23_ok : cmpR Try.prog r23 Try.f23.results.toList = true := by kernel_rfl
theorem t23 {args : List SV} {res : SV} (ka : KFL args) (kr : KF res) (h : sx Try.prog Y0 0 c23 (st0 args 12) (retK r23 res)) (hA : Nat.ble args.length 12 = true := by rfl) : Ct Try.prog 23 args res := ct_intro Try.func23 rfl b23 c23_ok r23_ok n23 (Nat.le_of_ble_eq_true hA) ka kr h
/- azalai/azalairef01.Camel -/
def c42 : SC := (.seq (.reg [
  ⟨some 2, .box (.t 0) 0 25, none, []⟩,
  ⟨some 3, .box (.t 1) 0 27, none, []⟩,
  ⟨some 4, .mv (.c (.bool false)), none, []⟩])
  (.seq (.reg [
  ⟨some 5, .addo (.t 3) 0, none, []⟩,
  ⟨some 6, .ld (.t 5) 2 true, none, []⟩,
  ⟨some 7, .addo (.t 2) 0, none, []⟩,
  ⟨some 8, .ld (.t 7) 1 false, none, []⟩,
  ⟨some 9, .call 87 [.t 6, .c (.int .i64 0), .t 8], none, []⟩,
  ⟨some 10, .mv (.t 9), none, []⟩,
  ⟨some 11, .addo (.t 3) 2, some (10, true), []⟩,
  ⟨some 12, .ld (.t 11) 2 true, some (10, true), []⟩,
  ⟨some 13, .addo (.t 2) 1, some (10, true), []⟩,
  ⟨some 14, .ld (.t 13) 1 false, some (10, true), []⟩,
  ⟨some 15, .call 87 [.t 12, .c (.int .i64 0), .t 14], some (10, true), []⟩,
  ⟨some 16, .pick (.t 10) (.t 15) (.c (.bool false)), none, []⟩,
  ⟨some 17, .mv (.t 16), none, []⟩,
  ⟨some 18, .addo (.t 3) 4, some (17, true), []⟩,
  ⟨some 19, .ld (.t 18) 2 true, some (17, true), []⟩,
  ⟨some 20, .call 87 [.t 19, .c (.int .i64 0), .c (.int .i64 1000)], some (17, true), []⟩,
  ⟨some 21, .pick (.t 17) (.t 20) (.c (.bool false)), none, []⟩,
  ⟨some 4, .mv (.t 21), none, []⟩])
  .ret))
def r42 : List RV := [.tmp 4]
theorem n42 : Try.f42.ntmps = 22 := by kernel_rfl
theorem b42 : bodyB Try.prog 42 = true := by kernel_rfl
theorem c42_ok : cmpC Try.prog c42 ((Try.f42.body).getD .skip) = true := by kernel_rfl
theorem r42_ok : cmpR Try.prog r42 Try.f42.results.toList = true := by kernel_rfl
theorem t42 {args : List SV} {res : SV} (ka : KFL args) (kr : KF res) (h : sx Try.prog Y0 0 c42 (st0 args 22) (retK r42 res)) (hA : Nat.ble args.length 22 = true := by rfl) : Ct Try.prog 42 args res := ct_intro Try.func42 rfl b42 c42_ok r42_ok n42 (Nat.le_of_ble_eq_true hA) ka kr h
/- (azalai/camel.beast).fitness -/
def c55 : SC := (.seq (.reg [
  ⟨some 1, .box (.t 0) 0 107, none, []⟩,
  ⟨some 2, .alloc [.int .i64 0, .int .i64 0] 23, none, []⟩])
  (.seq (.reg [
  ⟨some 6, .build [.int .i64 0, .int .i64 0] [(0, 1, .c (.int .i64 1000)), (1, 1, .c (.int .i64 1000))], none, []⟩,
  ⟨some 3, .alloc [.int .i64 0, .int .i64 0] 23, none, []⟩,
  ⟨none, .st (.t 3) (.t 6) 2, none, []⟩])
  (.seq (.seq (.regd [0, 1, 2, 3, 4, 5, 6, 7, 8, 9, 10, 11, 12, 13, 14, 15, 16, 17, 18, 19, 20, 21] [
  .op ⟨some 7, .addo (.t 1) 17, none, []⟩,
  .op ⟨some 8, .addo (.t 7) 0, none, [0]⟩,
  .op ⟨some 9, .ld (.t 8) 2 true, none, [1]⟩,
  .op ⟨some 10, .addo (.t 1) 0, none, []⟩,
  .op ⟨some 11, .addo (.t 10) 0, none, [3]⟩,
  .op ⟨some 12, .ld (.t 11) 1 false, none, [4]⟩,
  .op ⟨some 13, .bsl 1 3 [.c (.int .i64 2), .c (.int .i64 1000)], none, []⟩,
  .op ⟨some 14, .call 89 [.t 9, .t 12, .t 13], none, [2, 5, 6]⟩,
  .op ⟨some 15, .addo (.t 1) 17, none, []⟩,
  .op ⟨some 16, .addo (.t 15) 2, none, [8]⟩,
  .op ⟨some 17, .ld (.t 16) 2 true, none, [9]⟩,
  .op ⟨some 18, .addo (.t 1) 0, none, []⟩,
  .op ⟨some 19, .addo (.t 18) 1, none, [11]⟩,
  .op ⟨some 20, .ld (.t 19) 1 false, none, [12]⟩,
  .op ⟨some 21, .bsl 1 3 [.c (.int .i64 2), .c (.int .i64 1000)], none, []⟩,
  .op ⟨some 22, .call 89 [.t 17, .t 20, .t 21], none, [7, 10, 13, 14]⟩,
  .op ⟨some 23, .addo (.t 1) 17, none, []⟩,
  .op ⟨some 24, .addo (.t 23) 4, none, [16]⟩,
  .op ⟨some 25, .ld (.t 24) 2 true, none, [17]⟩,
  .op ⟨some 26, .call 73 [.c (.int .i64 1000), .t 25], none, [15, 18]⟩,
  .op ⟨some 27, .build [.int .i64 0, .int .i64 0, .int .i64 0, .int .i64 0, .int .i64 0, .int .i64 0] [(0, 2, .t 14), (2, 2, .t 22), (4, 2, .t 26)], none, [7, 15, 19]⟩,
  .op ⟨some 28, .mv (.c (.int .i64 0)), none, []⟩] 0 0 [
])
  (.block 0 (.loop (.seq (.reg [
    ⟨some 29, .bin .lss (.t 28) (.c (.int .i64 3)), none, []⟩])
    (.seq (.cond (.t 29)
    .skip
    (.exit 0))
    (.seq (.block 1 (.seq (.reg [
     ⟨some 30, .idx (.t 27) (.t 28) 3 2 true, none, []⟩,
     ⟨some 5, .alloc [.int .i64 0, .int .i64 0] 23, none, []⟩,
     ⟨none, .st (.t 5) (.t 30) 2, none, []⟩])
     (.reg [
     ⟨some 31, .addo (.t 3) 0, none, []⟩,
     ⟨some 32, .ld (.t 31) 1 false, none, []⟩,
     ⟨some 33, .addo (.t 5) 0, none, []⟩,
     ⟨some 34, .ld (.t 33) 1 false, none, []⟩,
     ⟨some 35, .mm false [.t 32, .t 34], none, []⟩,
     ⟨some 36, .addo (.t 3) 1, none, []⟩,
     ⟨some 37, .ld (.t 36) 1 false, none, []⟩,
     ⟨some 38, .addo (.t 5) 1, none, []⟩,
     ⟨some 39, .ld (.t 38) 1 false, none, []⟩,
     ⟨some 40, .mm false [.t 37, .t 39], none, []⟩,
     ⟨some 41, .build [.int .i64 0, .int .i64 0] [(0, 1, .t 35), (1, 1, .t 40)], none, []⟩,
     ⟨none, .st (.t 3) (.t 41) 2, none, []⟩])))
    (.reg [
    ⟨some 42, .bin .add (.t 28) (.c (.int .i64 1)), none, []⟩,
    ⟨some 28, .mv (.t 42), none, []⟩])))))))
  (.seq (.reg [
  ⟨some 43, .ld (.t 3) 2 true, none, []⟩,
  ⟨none, .st (.t 2) (.t 43) 2, none, []⟩])
  .ret))))
def r55 : List RV := [.cell 2 2 true]
theorem n55 : Try.f55.ntmps = 44 := by kernel_rfl
theorem b55 : bodyB Try.prog 55 = true := by kernel_rfl
theorem c55_ok : cmpC Try.prog c55 ((Try.f55.body).getD .skip) = true := by kernel_rfl
theorem r55_ok : cmpR Try.prog r55 Try.f55.results.toList = true := by kernel_rfl
theorem t55 {args : List SV} {res : SV} (ka : KFL args) (kr : KF res) (h : sx Try.prog Y0 0 c55 (st0 args 44) (retK r55 res)) (hA : Nat.ble args.length 44 = true := by rfl) : Ct Try.prog 55 args res := ct_intro Try.func55 rfl b55 c55_ok r55_ok n55 (Nat.le_of_ble_eq_true hA) ka kr h
/- azalai/azalairef01.fitness -/
def c56 : SC := (.seq (.reg [
  ⟨some 2, .box (.t 0) 0 25, none, []⟩,
  ⟨some 3, .box (.t 1) 0 27, none, []⟩,
  ⟨some 4, .alloc [.int .i64 0, .int .i64 0] 23, none, []⟩])
  (.seq (.regd [0, 1, 2, 3, 4, 5, 6, 7, 8, 9, 10, 11, 12, 13, 14, 15, 16, 17, 18, 19, 20, 21, 22, 23, 24, 25, 26, 27, 28, 29, 30, 31, 32, 33, 34, 35, 36, 37, 38, 39] [
  .op ⟨some 5, .addo (.t 3) 0, none, []⟩,
  .op ⟨some 6, .addo (.t 5) 0, none, [0]⟩,
  .op ⟨some 7, .ld (.t 6) 1 false, none, [1]⟩,
  .op ⟨some 8, .bin .mul (.c (.int .i64 2000)) (.t 7), none, [2]⟩,
  .op ⟨some 9, .addo (.t 2) 0, none, []⟩,
  .op ⟨some 10, .ld (.t 9) 1 false, none, [4]⟩,
  .op ⟨some 11, .div .quo (.t 8) (.t 10), none, [3, 5]⟩,
  .op ⟨some 12, .addo (.t 3) 2, none, []⟩,
  .op ⟨some 13, .addo (.t 12) 0, none, [7]⟩,
  .op ⟨some 14, .ld (.t 13) 1 false, none, [8]⟩,
  .op ⟨some 15, .bin .mul (.c (.int .i64 2000)) (.t 14), none, [9]⟩,
  .op ⟨some 16, .addo (.t 2) 1, none, []⟩,
  .op ⟨some 17, .ld (.t 16) 1 false, none, [11]⟩,
  .op ⟨some 18, .div .quo (.t 15) (.t 17), none, [10, 12]⟩,
  .op ⟨some 19, .addo (.t 3) 4, none, []⟩,
  .op ⟨some 20, .addo (.t 19) 1, none, [14]⟩,
  .op ⟨some 21, .ld (.t 20) 1 false, none, [15]⟩,
  .op ⟨some 22, .bin .sub (.c (.int .i64 1000)) (.t 21), none, [16]⟩,
  .op ⟨some 23, .mm false [.c (.int .i64 1000), .t 11, .t 18, .t 22], none, [6, 13, 17]⟩,
  .op ⟨some 24, .addo (.t 3) 0, none, []⟩,
  .op ⟨some 25, .addo (.t 24) 1, none, [19]⟩,
  .op ⟨some 26, .ld (.t 25) 1 false, none, [20]⟩,
  .op ⟨some 27, .bin .mul (.c (.int .i64 2000)) (.t 26), none, [21]⟩,
  .op ⟨some 28, .addo (.t 2) 0, none, []⟩,
  .op ⟨some 29, .ld (.t 28) 1 false, none, [23]⟩,
  .op ⟨some 30, .call 58 [.t 27, .t 29], none, [22, 24]⟩,
  .op ⟨some 31, .addo (.t 3) 2, none, []⟩,
  .op ⟨some 32, .addo (.t 31) 1, none, [26]⟩,
  .op ⟨some 33, .ld (.t 32) 1 false, none, [27]⟩,
  .op ⟨some 34, .bin .mul (.c (.int .i64 2000)) (.t 33), none, [28]⟩,
  .op ⟨some 35, .addo (.t 2) 1, none, []⟩,
  .op ⟨some 36, .ld (.t 35) 1 false, none, [30]⟩,
  .op ⟨some 37, .call 58 [.t 34, .t 36], none, [25, 29, 31]⟩,
  .op ⟨some 38, .addo (.t 3) 4, none, []⟩,
  .op ⟨some 39, .addo (.t 38) 0, none, [33]⟩,
  .op ⟨some 40, .ld (.t 39) 1 false, none, [34]⟩,
  .op ⟨some 41, .bin .sub (.c (.int .i64 1000)) (.t 40), none, [35]⟩,
  .op ⟨some 42, .mm false [.c (.int .i64 1000), .t 30, .t 37, .t 41], none, [25, 32, 36]⟩,
  .op ⟨some 43, .build [.int .i64 0, .int .i64 0] [(0, 1, .t 23), (1, 1, .t 42)], none, [18, 37]⟩] 0 1 [
  ⟨none, .st (.t 4) (.t 43) 2, none, [0, 1, 2, 3, 4, 5, 6, 7, 8, 9, 10, 11, 12, 13, 14, 15, 16, 17, 18, 19, 20, 21, 22, 23, 24, 25, 26, 27, 28, 29, 30, 31, 32, 33, 34, 35, 36, 37, 38]⟩])
  .ret))
def r56 : List RV := [.cell 4 2 true]
theorem n56 : Try.f56.ntmps = 44 := by kernel_rfl
theorem b56 : bodyB Try.prog 56 = true := by kernel_rfl
theorem c56_ok : cmpC Try.prog c56 ((Try.f56.body).getD .skip) = true := by kernel_rfl
theorem r56_ok : cmpR Try.prog r56 Try.f56.results.toList = true := by kernel_rfl
theorem t56 {args : List SV} {res : SV} (ka : KFL args) (kr : KF res) (h : sx Try.prog Y0 0 c56 (st0 args 44) (retK r56 res)) (hA : Nat.ble args.length 44 = true := by rfl) : Ct Try.prog 56 args res := ct_intro Try.func56 rfl b56 c56_ok r56_ok n56 (Nat.le_of_ble_eq_true hA) ka kr h
/- (azalai/camel.beast).carries -/
def c57 : SC := (.seq (.reg [
  ⟨some 1, .box (.t 0) 0 107, none, []⟩,
  ⟨some 2, .alloc [.int .i64 0, .int .i64 0] 23, none, []⟩])
  (.seq (.reg [
  ⟨some 4, .ld (.t 1) 24 true, none, []⟩,
  ⟨some 5, .call 55 [.t 4], none, []⟩,
  ⟨some 3, .alloc [.int .i64 0, .int .i64 0] 23, none, []⟩,
  ⟨none, .st (.t 3) (.t 5) 2, none, []⟩])
  (.seq (.regd [0, 1, 2, 3, 4, 5, 6, 7, 8, 9, 10, 11, 12, 13, 14, 15, 16, 17] [
  .op ⟨some 6, .addo (.t 1) 0, none, []⟩,
  .op ⟨some 7, .addo (.t 6) 15, none, [0]⟩,
  .op ⟨some 8, .addo (.t 7) 0, none, [1]⟩,
  .op ⟨some 9, .ld (.t 8) 1 false, none, [2]⟩,
  .op ⟨some 10, .addo (.t 3) 0, none, []⟩,
  .op ⟨some 11, .ld (.t 10) 1 false, none, [4]⟩,
  .op ⟨some 12, .bin .mul (.t 9) (.t 11), none, [3, 5]⟩,
  .op ⟨some 13, .div .quo (.t 12) (.c (.int .i64 1000)), none, [6]⟩,
  .op ⟨some 14, .addo (.t 1) 0, none, []⟩,
  .op ⟨some 15, .addo (.t 14) 15, none, [8]⟩,
  .op ⟨some 16, .addo (.t 15) 1, none, [9]⟩,
  .op ⟨some 17, .ld (.t 16) 1 false, none, [10]⟩,
  .op ⟨some 18, .addo (.t 3) 1, none, []⟩,
  .op ⟨some 19, .ld (.t 18) 1 false, none, [12]⟩,
  .op ⟨some 20, .bin .mul (.t 17) (.t 19), none, [11, 13]⟩,
  .op ⟨some 21, .call 90 [.t 20, .c (.int .i64 1000)], none, [14]⟩,
  .op ⟨some 22, .build [.int .i64 0, .int .i64 0] [(0, 1, .t 13), (1, 1, .t 21)], none, [7, 15]⟩] 0 1 [
  ⟨none, .st (.t 2) (.t 22) 2, none, [0, 1, 2, 3, 4, 5, 6, 7, 8, 9, 10, 11, 12, 13, 14, 15, 16]⟩])
  .ret)))
def r57 : List RV := [.cell 2 2 true]
theorem n57 : Try.f57.ntmps = 23 := by kernel_rfl
theorem b57 : bodyB Try.prog 57 = true := by kernel_rfl
theorem c57_ok : cmpC Try.prog c57 ((Try.f57.body).getD .skip) = true := by kernel_rfl
theorem r57_ok : cmpR Try.prog r57 Try.f57.results.toList = true := by kernel_rfl
theorem t57 {args : List SV} {res : SV} (ka : KFL args) (kr : KF res) (h : sx Try.prog Y0 0 c57 (st0 args 23) (retK r57 res)) (hA : Nat.ble args.length 23 = true := by rfl) : Ct Try.prog 57 args res := ct_intro Try.func57 rfl b57 c57_ok r57_ok n57 (Nat.le_of_ble_eq_true hA) ka kr h
/- azalai/azalairef01.up -/
def c58 : SC := (.seq (.reg [
  ⟨some 4, .mv (.c (.int .i64 0)), none, []⟩])
  (.seq (.reg [
  ⟨some 5, .mv (.t 0), none, []⟩,
  ⟨some 6, .mv (.t 1), none, []⟩,
  ⟨some 7, .bin .add (.t 5) (.t 6), none, []⟩,
  ⟨some 8, .bin .sub (.t 7) (.c (.int .i64 1)), none, []⟩,
  ⟨some 9, .mv (.t 1), none, []⟩,
  ⟨some 10, .div .quo (.t 8) (.t 9), none, []⟩,
  ⟨some 4, .mv (.t 10), none, []⟩])
  .ret))
def r58 : List RV := [.tmp 4]
theorem n58 : Try.f58.ntmps = 11 := by kernel_rfl
theorem b58 : bodyB Try.prog 58 = true := by kernel_rfl
theorem c58_ok : cmpC Try.prog c58 ((Try.f58.body).getD .skip) = true := by kernel_rfl
theorem r58_ok : cmpR Try.prog r58 Try.f58.results.toList = true := by kernel_rfl
theorem t58 {args : List SV} {res : SV} (ka : KFL args) (kr : KF res) (h : sx Try.prog Y0 0 c58 (st0 args 11) (retK r58 res)) (hA : Nat.ble args.length 11 = true := by rfl) : Ct Try.prog 58 args res := ct_intro Try.func58 rfl b58 c58_ok r58_ok n58 (Nat.le_of_ble_eq_true hA) ka kr h
/- azalai/camel.checkDays -/
def c59 : SC := (.seq (.reg [
  ⟨some 2, .mv (.c (.int .i64 0)), none, []⟩])
  (.seq (.seq (.reg [
  ⟨some 5, .mv (.t 0), none, []⟩,
  ⟨some 6, .len (.t 5), none, []⟩,
  ⟨some 7, .mv (.c (.int .i64 0)), none, []⟩])
  (.block 0 (.loop (.seq (.reg [
    ⟨some 8, .bin .lss (.t 7) (.t 6), none, []⟩])
    (.seq (.cond (.t 8)
    .skip
    (.exit 0))
    (.seq (.block 1 (.seq (.reg [
     ⟨some 9, .ixs (.t 5) (.t 7) 8, none, []⟩,
     ⟨some 10, .ld (.t 9) 8 true, none, []⟩,
     ⟨some 4, .alloc [.int .i64 0, .int .i64 0, .int .i64 0, .int .i64 0, .int .i64 0, .int .i64 0, .int .i64 0, .int .i64 0] 29, none, []⟩,
     ⟨none, .st (.t 4) (.t 10) 8, none, []⟩])
     (.seq (.reg [
     ⟨some 11, .addo (.t 4) 0, none, []⟩,
     ⟨some 12, .ld (.t 11) 1 false, none, []⟩,
     ⟨some 13, .bsl 1 3 [.t 12], none, []⟩,
     ⟨some 14, .call 64 [.c (.int .i64 0), .c (.int .i64 24), .t 13], none, []⟩,
     ⟨some 15, .un .not (.t 14), none, []⟩,
     ⟨some 16, .mv (.t 15), none, []⟩,
     ⟨some 17, .addo (.t 4) 1, some (16, false), []⟩,
     ⟨some 18, .ld (.t 17) 1 false, some (16, false), []⟩,
     ⟨some 19, .bsl 1 3 [.t 18], some (16, false), []⟩,
     ⟨some 20, .call 64 [.c (.int .i64 0), .c (.int .i64 1000000), .t 19], some (16, false), []⟩,
     ⟨some 21, .un .not (.t 20), some (16, false), []⟩,
     ⟨some 22, .pick (.t 16) (.c (.bool true)) (.t 21), none, []⟩,
     ⟨some 23, .mv (.t 22), none, []⟩,
     ⟨some 24, .addo (.t 4) 2, some (23, false), []⟩,
     ⟨some 25, .ld (.t 24) 2 true, some (23, false), []⟩,
     ⟨some 26, .bsl 2 23 [.t 25], some (23, false), []⟩,
     ⟨some 27, .call 65 [.c (.int .i64 0), .c (.int .i64 60), .t 26], some (23, false), []⟩,
     ⟨some 28, .un .not (.t 27), some (23, false), []⟩,
     ⟨some 29, .pick (.t 23) (.c (.bool true)) (.t 28), none, []⟩,
     ⟨some 30, .mv (.t 29), none, []⟩,
     ⟨some 31, .addo (.t 4) 4, some (30, false), []⟩,
     ⟨some 32, .ld (.t 31) 2 true, some (30, false), []⟩,
     ⟨some 33, .addo (.t 4) 6, some (30, false), []⟩,
     ⟨some 34, .ld (.t 33) 2 true, some (30, false), []⟩,
     ⟨some 35, .bsl 2 23 [.t 32, .t 34], some (30, false), []⟩,
     ⟨some 36, .call 65 [.c (.int .i64 0), .c (.int .i64 1000000), .t 35], some (30, false), []⟩,
     ⟨some 37, .un .not (.t 36), some (30, false), []⟩,
     ⟨some 38, .pick (.t 30) (.c (.bool true)) (.t 37), none, []⟩])
     (.cond (.t 38)
     (.seq (.reg [
      ⟨some 2, .mv (.c (.int .i64 12)), none, []⟩])
      .ret)
     .skip))))
    (.reg [
    ⟨some 39, .bin .add (.t 7) (.c (.int .i64 1)), none, []⟩,
    ⟨some 7, .mv (.t 39), none, []⟩])))))))
  (.seq (.reg [
  ⟨some 2, .mv (.c (.int .i64 0)), none, []⟩])
  .ret)))
def r59 : List RV := [.tmp 2]
theorem n59 : Try.f59.ntmps = 40 := by kernel_rfl
theorem b59 : bodyB Try.prog 59 = true := by kernel_rfl
theorem c59_ok : cmpC Try.prog c59 ((Try.f59.body).getD .skip) = true := by kernel_rfl
theorem r59_ok : cmpR Try.prog r59 Try.f59.results.toList = true := by kernel_rfl
theorem t59 {args : List SV} {res : SV} (ka : KFL args) (kr : KF res) (h : sx Try.prog Y0 0 c59 (st0 args 40) (retK r59 res)) (hA : Nat.ble args.length 40 = true := by rfl) : Ct Try.prog 59 args res := ct_intro Try.func59 rfl b59 c59_ok r59_ok n59 (Nat.le_of_ble_eq_true hA) ka kr h
/- azalai/camel.cost -/
def c60 : SC := (.seq (.reg [
  ⟨some 3, .box (.t 0) 0 25, none, []⟩,
  ⟨some 5, .box (.t 2) 0 29, none, []⟩,
  ⟨some 6, .alloc [.int .i64 0, .int .i64 0, .int .i64 0, .int .i64 0] 112, none, []⟩])
  (.seq (.reg [
  ⟨some 10, .addo (.t 5) 2, none, []⟩,
  ⟨some 11, .addo (.t 10) 0, none, []⟩,
  ⟨some 12, .ld (.t 11) 1 false, none, []⟩,
  ⟨some 13, .bin .sub (.t 12) (.c (.int .i64 20)), none, []⟩,
  ⟨some 14, .mm true [.c (.int .i64 0), .t 13], none, []⟩,
  ⟨some 15, .addo (.t 5) 2, none, []⟩,
  ⟨some 16, .addo (.t 15) 1, none, []⟩,
  ⟨some 17, .ld (.t 16) 1 false, none, []⟩,
  ⟨some 18, .bin .sub (.t 17) (.c (.int .i64 20)), none, []⟩,
  ⟨some 19, .mm true [.c (.int .i64 0), .t 18], none, []⟩,
  ⟨some 20, .build [.int .i64 0, .int .i64 0] [(0, 1, .t 14), (1, 1, .t 19)], none, []⟩,
  ⟨some 7, .alloc [.int .i64 0, .int .i64 0] 23, none, []⟩,
  ⟨none, .st (.t 7) (.t 20) 2, none, []⟩])
  (.seq (.reg [
  ⟨some 21, .addo (.t 5) 0, none, []⟩,
  ⟨some 22, .ld (.t 21) 1 false, none, []⟩,
  ⟨some 23, .addo (.t 5) 1, none, []⟩,
  ⟨some 24, .ld (.t 23) 1 false, none, []⟩,
  ⟨some 25, .bin .add (.c (.int .i64 100000)) (.t 24), none, []⟩,
  ⟨some 26, .bin .mul (.t 22) (.t 25), none, []⟩,
  ⟨some 8, .mv (.t 26), none, []⟩])
  (.seq (.regd [0, 1, 2, 3, 4, 5, 6, 7, 8, 9, 10, 11, 12, 13, 14, 15, 16, 17, 18, 19, 20, 21, 22, 23] [
  .op ⟨some 27, .addo (.t 3) 2, none, []⟩,
  .op ⟨some 28, .ld (.t 27) 2 true, none, [0]⟩,
  .op ⟨some 29, .addo (.t 3) 4, none, []⟩,
  .op ⟨some 30, .addo (.t 29) 0, none, [2]⟩,
  .op ⟨some 31, .ld (.t 30) 1 false, none, [3]⟩,
  .op ⟨some 32, .addo (.t 7) 0, none, []⟩,
  .op ⟨some 33, .ld (.t 32) 1 false, none, [5]⟩,
  .op ⟨some 34, .bin .mul (.t 31) (.t 33), none, [4, 6]⟩,
  .op ⟨some 35, .addo (.t 3) 4, none, []⟩,
  .op ⟨some 36, .addo (.t 35) 1, none, [8]⟩,
  .op ⟨some 37, .ld (.t 36) 1 false, none, [9]⟩,
  .op ⟨some 38, .addo (.t 7) 1, none, []⟩,
  .op ⟨some 39, .ld (.t 38) 1 false, none, [11]⟩,
  .op ⟨some 40, .bin .mul (.t 37) (.t 39), none, [10, 12]⟩,
  .op ⟨some 41, .build [.int .i64 0, .int .i64 0] [(0, 1, .t 34), (1, 1, .t 40)], none, [7, 13]⟩,
  .op ⟨some 42, .addo (.t 3) 6, none, []⟩,
  .op ⟨some 43, .ld (.t 42) 2 true, none, [15]⟩,
  .op ⟨some 44, .mv (.t 8), none, []⟩,
  .op ⟨some 45, .bsl 1 3 [.t 44], none, [17]⟩,
  .op ⟨some 46, .call 89 [.t 43, .c (.int .i64 100000), .t 45], none, [16, 18]⟩,
  .op ⟨some 47, .bsl 2 23 [.t 28, .t 41, .t 46], none, [1, 14, 19]⟩,
  .op ⟨some 48, .call 72 [.t 47], none, [19, 20]⟩] 1 1 [
  ⟨some 9, .alloc [.int .i64 0, .int .i64 0] 23, none, []⟩,
  ⟨none, .st (.t 9) (.t 48) 2, none, [0, 1, 2, 3, 4, 5, 6, 7, 8, 9, 10, 11, 12, 13, 14, 15, 16, 17, 18, 19, 20, 21, 22]⟩])
  (.seq (.seq (.reg [
  ⟨some 49, .mv (.t 1), none, []⟩])
  (.cond (.t 49)
  (.reg [
   ⟨some 50, .ld (.t 9) 2 true, none, []⟩,
   ⟨some 51, .addo (.t 3) 12, none, []⟩,
   ⟨some 52, .ld (.t 51) 2 true, none, []⟩,
   ⟨some 53, .bsl 2 23 [.t 50, .t 52], none, []⟩,
   ⟨some 54, .call 72 [.t 53], none, []⟩,
   ⟨none, .st (.t 9) (.t 54) 2, none, []⟩])
  .skip))
  (.seq (.regd [0, 1, 2, 3, 4, 5, 6, 7] [
  .op ⟨some 55, .ld (.t 9) 2 true, none, []⟩,
  .op ⟨some 56, .addo (.t 3) 8, none, []⟩,
  .op ⟨some 57, .ld (.t 56) 2 true, none, [1]⟩,
  .op ⟨some 58, .mv (.t 8), none, []⟩,
  .op ⟨some 59, .bsl 1 3 [.t 58], none, [3]⟩,
  .op ⟨some 60, .call 89 [.t 57, .c (.int .i64 100000), .t 59], none, [2, 4]⟩,
  .op ⟨some 61, .build [.int .i64 0, .int .i64 0, .int .i64 0, .int .i64 0] [(0, 2, .t 55), (2, 2, .t 60)], none, [0, 5]⟩] 0 1 [
  ⟨none, .st (.t 6) (.t 61) 4, none, [0, 1, 2, 3, 4, 5, 6]⟩])
  .ret))))))
def r60 : List RV := [.cell 6 4 true]
theorem n60 : Try.f60.ntmps = 62 := by kernel_rfl
theorem b60 : bodyB Try.prog 60 = true := by kernel_rfl
theorem c60_ok : cmpC Try.prog c60 ((Try.f60.body).getD .skip) = true := by kernel_rfl
theorem r60_ok : cmpR Try.prog r60 Try.f60.results.toList = true := by kernel_rfl
theorem t60 {args : List SV} {res : SV} (ka : KFL args) (kr : KF res) (h : sx Try.prog Y0 0 c60 (st0 args 62) (retK r60 res)) (hA : Nat.ble args.length 62 = true := by rfl) : Ct Try.prog 60 args res := ct_intro Try.func60 rfl b60 c60_ok r60_ok n60 (Nat.le_of_ble_eq_true hA) ka kr h
/- azalai/azalairef01.Breed -/
def c61 : SC := (.seq (.reg [
  ⟨some 1, .box (.t 0) 0 25, none, []⟩,
  ⟨some 2, .mv (.c (.bool false)), none, []⟩])
  (.seq (.seq (.reg [
  ⟨some 3, .addo (.t 1) 0, none, []⟩,
  ⟨some 4, .ld (.t 3) 1 false, none, []⟩,
  ⟨some 5, .call 88 [.t 4, .c (.int .i64 1), .c (.int .i64 1000000)], none, []⟩,
  ⟨some 6, .un .not (.t 5), none, []⟩,
  ⟨some 7, .mv (.t 6), none, []⟩,
  ⟨some 8, .addo (.t 1) 1, some (7, false), []⟩,
  ⟨some 9, .ld (.t 8) 1 false, some (7, false), []⟩,
  ⟨some 10, .call 88 [.t 9, .c (.int .i64 1), .c (.int .i64 1000000)], some (7, false), []⟩,
  ⟨some 11, .un .not (.t 10), some (7, false), []⟩,
  ⟨some 12, .pick (.t 7) (.c (.bool true)) (.t 11), none, []⟩,
  ⟨some 13, .mv (.t 12), none, []⟩,
  ⟨some 14, .addo (.t 1) 14, some (13, false), []⟩,
  ⟨some 15, .ld (.t 14) 1 false, some (13, false), []⟩,
  ⟨some 16, .call 88 [.t 15, .c (.int .i64 0), .c (.int .i64 1000)], some (13, false), []⟩,
  ⟨some 17, .un .not (.t 16), some (13, false), []⟩,
  ⟨some 18, .pick (.t 13) (.c (.bool true)) (.t 17), none, []⟩,
  ⟨some 19, .mv (.t 18), none, []⟩,
  ⟨some 20, .addo (.t 1) 15, some (19, false), []⟩,
  ⟨some 21, .ld (.t 20) 2 true, some (19, false), []⟩,
  ⟨some 22, .call 87 [.t 21, .c (.int .i64 0), .c (.int .i64 1000000)], some (19, false), []⟩,
  ⟨some 23, .un .not (.t 22), some (19, false), []⟩,
  ⟨some 24, .pick (.t 19) (.c (.bool true)) (.t 23), none, []⟩])
  (.cond (.t 24)
  (.seq (.reg [
   ⟨some 2, .mv (.c (.bool false)), none, []⟩])
   .ret)
  .skip))
  (.seq (.reg [
  ⟨some 25, .addo (.t 1) 2, none, []⟩,
  ⟨some 26, .ld (.t 25) 2 true, none, []⟩,
  ⟨some 27, .call 87 [.t 26, .c (.int .i64 0), .c (.int .i64 100000)], none, []⟩,
  ⟨some 28, .mv (.t 27), none, []⟩,
  ⟨some 29, .addo (.t 1) 4, some (28, true), []⟩,
  ⟨some 30, .ld (.t 29) 2 true, some (28, true), []⟩,
  ⟨some 31, .call 87 [.t 30, .c (.int .i64 0), .c (.int .i64 100000)], some (28, true), []⟩,
  ⟨some 32, .pick (.t 28) (.t 31) (.c (.bool false)), none, []⟩,
  ⟨some 33, .mv (.t 32), none, []⟩,
  ⟨some 34, .addo (.t 1) 6, some (33, true), []⟩,
  ⟨some 35, .ld (.t 34) 2 true, some (33, true), []⟩,
  ⟨some 36, .call 87 [.t 35, .c (.int .i64 0), .c (.int .i64 100000)], some (33, true), []⟩,
  ⟨some 37, .pick (.t 33) (.t 36) (.c (.bool false)), none, []⟩,
  ⟨some 38, .mv (.t 37), none, []⟩,
  ⟨some 39, .addo (.t 1) 8, some (38, true), []⟩,
  ⟨some 40, .ld (.t 39) 2 true, some (38, true), []⟩,
  ⟨some 41, .call 87 [.t 40, .c (.int .i64 0), .c (.int .i64 100000)], some (38, true), []⟩,
  ⟨some 42, .pick (.t 38) (.t 41) (.c (.bool false)), none, []⟩,
  ⟨some 43, .mv (.t 42), none, []⟩,
  ⟨some 44, .addo (.t 1) 10, some (43, true), []⟩,
  ⟨some 45, .ld (.t 44) 2 true, some (43, true), []⟩,
  ⟨some 46, .call 87 [.t 45, .c (.int .i64 0), .c (.int .i64 100000)], some (43, true), []⟩,
  ⟨some 47, .pick (.t 43) (.t 46) (.c (.bool false)), none, []⟩,
  ⟨some 48, .mv (.t 47), none, []⟩,
  ⟨some 49, .addo (.t 1) 12, some (48, true), []⟩,
  ⟨some 50, .ld (.t 49) 2 true, some (48, true), []⟩,
  ⟨some 51, .call 87 [.t 50, .c (.int .i64 0), .c (.int .i64 100000)], some (48, true), []⟩,
  ⟨some 52, .pick (.t 48) (.t 51) (.c (.bool false)), none, []⟩,
  ⟨some 2, .mv (.t 52), none, []⟩])
  .ret)))
def r61 : List RV := [.tmp 2]
theorem n61 : Try.f61.ntmps = 53 := by kernel_rfl
theorem b61 : bodyB Try.prog 61 = true := by kernel_rfl
theorem c61_ok : cmpC Try.prog c61 ((Try.f61.body).getD .skip) = true := by kernel_rfl
theorem r61_ok : cmpR Try.prog r61 Try.f61.results.toList = true := by kernel_rfl
theorem t61 {args : List SV} {res : SV} (ka : KFL args) (kr : KF res) (h : sx Try.prog Y0 0 c61 (st0 args 53) (retK r61 res)) (hA : Nat.ble args.length 53 = true := by rfl) : Ct Try.prog 61 args res := ct_intro Try.func61 rfl b61 c61_ok r61_ok n61 (Nat.le_of_ble_eq_true hA) ka kr h
/- azalai/azalairef01.March -/
def c62 : SC := (.seq (.reg [
  ⟨some 1, .box (.t 0) 0 29, none, []⟩,
  ⟨some 2, .mv (.c (.bool false)), none, []⟩])
  (.seq (.reg [
  ⟨some 3, .addo (.t 1) 0, none, []⟩,
  ⟨some 4, .ld (.t 3) 1 false, none, []⟩,
  ⟨some 5, .call 88 [.t 4, .c (.int .i64 0), .c (.int .i64 24)], none, []⟩,
  ⟨some 6, .mv (.t 5), none, []⟩,
  ⟨some 7, .addo (.t 1) 1, some (6, true), []⟩,
  ⟨some 8, .ld (.t 7) 1 false, some (6, true), []⟩,
  ⟨some 9, .call 88 [.t 8, .c (.int .i64 0), .c (.int .i64 1000000)], some (6, true), []⟩,
  ⟨some 10, .pick (.t 6) (.t 9) (.c (.bool false)), none, []⟩,
  ⟨some 11, .mv (.t 10), none, []⟩,
  ⟨some 12, .addo (.t 1) 2, some (11, true), []⟩,
  ⟨some 13, .ld (.t 12) 2 true, some (11, true), []⟩,
  ⟨some 14, .call 87 [.t 13, .c (.int .i64 0), .c (.int .i64 60)], some (11, true), []⟩,
  ⟨some 15, .pick (.t 11) (.t 14) (.c (.bool false)), none, []⟩,
  ⟨some 16, .mv (.t 15), none, []⟩,
  ⟨some 17, .addo (.t 1) 4, some (16, true), []⟩,
  ⟨some 18, .ld (.t 17) 2 true, some (16, true), []⟩,
  ⟨some 19, .call 87 [.t 18, .c (.int .i64 0), .c (.int .i64 1000000)], some (16, true), []⟩,
  ⟨some 20, .pick (.t 16) (.t 19) (.c (.bool false)), none, []⟩,
  ⟨some 21, .mv (.t 20), none, []⟩,
  ⟨some 22, .addo (.t 1) 6, some (21, true), []⟩,
  ⟨some 23, .ld (.t 22) 2 true, some (21, true), []⟩,
  ⟨some 24, .call 87 [.t 23, .c (.int .i64 0), .c (.int .i64 1000000)], some (21, true), []⟩,
  ⟨some 25, .pick (.t 21) (.t 24) (.c (.bool false)), none, []⟩,
  ⟨some 2, .mv (.t 25), none, []⟩])
  .ret))
def r62 : List RV := [.tmp 2]
theorem n62 : Try.f62.ntmps = 26 := by kernel_rfl
theorem b62 : bodyB Try.prog 62 = true := by kernel_rfl
theorem c62_ok : cmpC Try.prog c62 ((Try.f62.body).getD .skip) = true := by kernel_rfl
theorem r62_ok : cmpR Try.prog r62 Try.f62.results.toList = true := by kernel_rfl
theorem t62 {args : List SV} {res : SV} (ka : KFL args) (kr : KF res) (h : sx Try.prog Y0 0 c62 (st0 args 26) (retK r62 res)) (hA : Nat.ble args.length 26 = true := by rfl) : Ct Try.prog 62 args res := ct_intro Try.func62 rfl b62 c62_ok r62_ok n62 (Nat.le_of_ble_eq_true hA) ka kr h
/- azalai/azalairef01.cost -/
def c63 : SC := (.seq (.reg [
  ⟨some 3, .box (.t 0) 0 25, none, []⟩,
  ⟨some 5, .box (.t 2) 0 29, none, []⟩,
  ⟨some 6, .alloc [.int .i64 0, .int .i64 0] 23, none, []⟩,
  ⟨some 7, .alloc [.int .i64 0, .int .i64 0] 23, none, []⟩])
  (.seq (.reg [
  ⟨some 10, .addo (.t 5) 0, none, []⟩,
  ⟨some 11, .ld (.t 10) 1 false, none, []⟩,
  ⟨some 12, .addo (.t 5) 1, none, []⟩,
  ⟨some 13, .ld (.t 12) 1 false, none, []⟩,
  ⟨some 14, .bin .add (.c (.int .i64 100000)) (.t 13), none, []⟩,
  ⟨some 15, .bin .mul (.t 11) (.t 14), none, []⟩,
  ⟨some 8, .mv (.t 15), none, []⟩])
  (.seq (.regd [0, 1, 2, 3, 4, 5, 6, 7, 8, 9, 10, 11, 12, 13, 14, 15, 16, 17, 18, 19, 20, 21, 22, 23, 24, 25, 26, 27, 28, 29, 30, 31, 32, 33, 34, 35, 36, 37, 38, 39, 40, 41, 42] [
  .op ⟨some 16, .addo (.t 3) 2, none, []⟩,
  .op ⟨some 17, .addo (.t 16) 0, none, [0]⟩,
  .op ⟨some 18, .ld (.t 17) 1 false, none, [1]⟩,
  .op ⟨some 19, .addo (.t 3) 4, none, []⟩,
  .op ⟨some 20, .addo (.t 19) 0, none, [3]⟩,
  .op ⟨some 21, .ld (.t 20) 1 false, none, [4]⟩,
  .op ⟨some 22, .addo (.t 5) 2, none, []⟩,
  .op ⟨some 23, .addo (.t 22) 0, none, [6]⟩,
  .op ⟨some 24, .ld (.t 23) 1 false, none, [7]⟩,
  .op ⟨some 25, .bin .sub (.t 24) (.c (.int .i64 20)), none, [8]⟩,
  .op ⟨some 26, .mm true [.c (.int .i64 0), .t 25], none, [9]⟩,
  .op ⟨some 27, .bin .mul (.t 21) (.t 26), none, [5, 10]⟩,
  .op ⟨some 28, .bin .add (.t 18) (.t 27), none, [2, 11]⟩,
  .op ⟨some 29, .addo (.t 3) 6, none, []⟩,
  .op ⟨some 30, .addo (.t 29) 0, none, [13]⟩,
  .op ⟨some 31, .ld (.t 30) 1 false, none, [14]⟩,
  .op ⟨some 32, .mv (.t 8), none, []⟩,
  .op ⟨some 33, .bin .mul (.t 31) (.t 32), none, [15, 16]⟩,
  .op ⟨some 34, .div .quo (.t 33) (.c (.int .i64 100000)), none, [17]⟩,
  .op ⟨some 35, .bin .add (.t 28) (.t 34), none, [12, 18]⟩,
  .op ⟨some 36, .addo (.t 3) 2, none, []⟩,
  .op ⟨some 37, .addo (.t 36) 1, none, [20]⟩,
  .op ⟨some 38, .ld (.t 37) 1 false, none, [21]⟩,
  .op ⟨some 39, .addo (.t 3) 4, none, []⟩,
  .op ⟨some 40, .addo (.t 39) 1, none, [23]⟩,
  .op ⟨some 41, .ld (.t 40) 1 false, none, [24]⟩,
  .op ⟨some 42, .addo (.t 5) 2, none, []⟩,
  .op ⟨some 43, .addo (.t 42) 1, none, [26]⟩,
  .op ⟨some 44, .ld (.t 43) 1 false, none, [27]⟩,
  .op ⟨some 45, .bin .sub (.t 44) (.c (.int .i64 20)), none, [28]⟩,
  .op ⟨some 46, .mm true [.c (.int .i64 0), .t 45], none, [29]⟩,
  .op ⟨some 47, .bin .mul (.t 41) (.t 46), none, [25, 30]⟩,
  .op ⟨some 48, .bin .add (.t 38) (.t 47), none, [22, 31]⟩,
  .op ⟨some 49, .addo (.t 3) 6, none, []⟩,
  .op ⟨some 50, .addo (.t 49) 1, none, [33]⟩,
  .op ⟨some 51, .ld (.t 50) 1 false, none, [34]⟩,
  .op ⟨some 52, .mv (.t 8), none, []⟩,
  .op ⟨some 53, .bin .mul (.t 51) (.t 52), none, [35, 36]⟩,
  .op ⟨some 54, .call 58 [.t 53, .c (.int .i64 100000)], none, [37]⟩,
  .op ⟨some 55, .bin .add (.t 48) (.t 54), none, [32, 38]⟩,
  .op ⟨some 56, .build [.int .i64 0, .int .i64 0] [(0, 1, .t 35), (1, 1, .t 55)], none, [19, 39]⟩] 1 1 [
  ⟨some 9, .alloc [.int .i64 0, .int .i64 0] 23, none, []⟩,
  ⟨none, .st (.t 9) (.t 56) 2, none, [0, 1, 2, 3, 4, 5, 6, 7, 8, 9, 10, 11, 12, 13, 14, 15, 16, 17, 18, 19, 20, 21, 22, 23, 24, 25, 26, 27, 28, 29, 30, 31, 32, 33, 34, 35, 36, 37, 38, 39, 40, 41]⟩])
  (.seq (.seq (.reg [
  ⟨some 57, .mv (.t 1), none, []⟩])
  (.cond (.t 57)
  (.seq (.reg [
   ⟨some 58, .addo (.t 9) 0, none, []⟩,
   ⟨some 59, .ld (.t 58) 1 false, none, []⟩,
   ⟨some 60, .addo (.t 3) 12, none, []⟩,
   ⟨some 61, .addo (.t 60) 0, none, []⟩,
   ⟨some 62, .ld (.t 61) 1 false, none, []⟩,
   ⟨some 63, .bin .add (.t 59) (.t 62), none, []⟩,
   ⟨some 64, .addo (.t 9) 0, none, []⟩,
   ⟨none, .st (.t 64) (.t 63) 1, none, []⟩])
   (.reg [
   ⟨some 65, .addo (.t 9) 1, none, []⟩,
   ⟨some 66, .ld (.t 65) 1 false, none, []⟩,
   ⟨some 67, .addo (.t 3) 12, none, []⟩,
   ⟨some 68, .addo (.t 67) 1, none, []⟩,
   ⟨some 69, .ld (.t 68) 1 false, none, []⟩,
   ⟨some 70, .bin .add (.t 66) (.t 69), none, []⟩,
   ⟨some 71, .addo (.t 9) 1, none, []⟩,
   ⟨none, .st (.t 71) (.t 70) 1, none, []⟩]))
  .skip))
  (.seq (.regd [0, 7, 8, 9, 10, 11, 12, 1, 2, 3, 4, 5, 6, 13, 14, 15] [
  .op ⟨some 72, .ld (.t 9) 2 true, none, []⟩,
  .op ⟨some 79, .addo (.t 3) 8, none, []⟩,
  .op ⟨some 80, .addo (.t 79) 1, none, [7]⟩,
  .op ⟨some 81, .ld (.t 80) 1 false, none, [8]⟩,
  .op ⟨some 82, .mv (.t 8), none, []⟩,
  .op ⟨some 83, .bin .mul (.t 81) (.t 82), none, [9, 10]⟩,
  .op ⟨some 84, .call 58 [.t 83, .c (.int .i64 100000)], none, [11]⟩,
  .hide (.t 6),
  .op ⟨some 73, .addo (.t 3) 8, none, []⟩,
  .op ⟨some 74, .addo (.t 73) 0, none, [1]⟩,
  .op ⟨some 75, .ld (.t 74) 1 false, none, [2]⟩,
  .op ⟨some 76, .mv (.t 8), none, []⟩,
  .op ⟨some 77, .bin .mul (.t 75) (.t 76), none, [3, 4]⟩,
  .op ⟨some 78, .div .quo (.t 77) (.c (.int .i64 100000)), none, [5]⟩,
  .op ⟨some 85, .build [.int .i64 0, .int .i64 0] [(0, 1, .t 78), (1, 1, .t 84)], none, [6, 12]⟩] 0 2 [
  ⟨none, .st (.t 6) (.t 72) 2, none, [0, 12]⟩,
  ⟨none, .st (.t 7) (.t 85) 2, none, [0, 1, 2, 3, 4, 5, 6, 7, 8, 9, 10, 11, 12, 13, 14]⟩])
  .ret)))))
def r63 : List RV := [.cell 6 2 true, .cell 7 2 true]
theorem n63 : Try.f63.ntmps = 86 := by kernel_rfl
theorem b63 : bodyB Try.prog 63 = true := by kernel_rfl
theorem c63_ok : cmpC Try.prog c63 ((Try.f63.body).getD .skip) = true := by kernel_rfl
theorem r63_ok : cmpR Try.prog r63 Try.f63.results.toList = true := by kernel_rfl
theorem t63 {args : List SV} {res : SV} (ka : KFL args) (kr : KF res) (h : sx Try.prog Y0 0 c63 (st0 args 86) (retK r63 res)) (hA : Nat.ble args.length 86 = true := by rfl) : Ct Try.prog 63 args res := ct_intro Try.func63 rfl b63 c63_ok r63_ok n63 (Nat.le_of_ble_eq_true hA) ka kr h
/- azalai/camel.from -/
def c64 : SC := (.seq (.reg [
  ⟨some 3, .box (.t 0) 0 3, none, []⟩,
  ⟨some 4, .box (.t 1) 0 3, none, []⟩,
  ⟨some 6, .mv (.c (.bool false)), none, []⟩])
  (.seq (.reg [
  ⟨some 7, .mv (.t 2), none, []⟩,
  ⟨some 8, .mkf 92 [.t 3, .t 4], none, []⟩,
  ⟨some 9, .call 91 [.t 7, .t 8], none, []⟩,
  ⟨some 10, .un .not (.t 9), none, []⟩,
  ⟨some 6, .mv (.t 10), none, []⟩])
  .ret))
def r64 : List RV := [.tmp 6]
theorem n64 : Try.f64.ntmps = 11 := by kernel_rfl
theorem b64 : bodyB Try.prog 64 = true := by kernel_rfl
theorem c64_ok : cmpC Try.prog c64 ((Try.f64.body).getD .skip) = true := by kernel_rfl
theorem r64_ok : cmpR Try.prog r64 Try.f64.results.toList = true := by kernel_rfl
theorem t64 {args : List SV} {res : SV} (ka : KFL args) (kr : KF res) (h : sx Try.prog Y0 0 c64 (st0 args 11) (retK r64 res)) (hA : Nat.ble args.length 11 = true := by rfl) : Ct Try.prog 64 args res := ct_intro Try.func64 rfl b64 c64_ok r64_ok n64 (Nat.le_of_ble_eq_true hA) ka kr h
/- azalai/camel.ordered -/
def c65 : SC := (.seq (.reg [
  ⟨some 3, .box (.t 0) 0 3, none, []⟩,
  ⟨some 4, .box (.t 1) 0 3, none, []⟩,
  ⟨some 6, .mv (.c (.bool false)), none, []⟩])
  (.seq (.reg [
  ⟨some 7, .mv (.t 2), none, []⟩,
  ⟨some 8, .mkf 94 [.t 3, .t 4], none, []⟩,
  ⟨some 9, .call 93 [.t 7, .t 8], none, []⟩,
  ⟨some 10, .un .not (.t 9), none, []⟩,
  ⟨some 6, .mv (.t 10), none, []⟩])
  .ret))
def r65 : List RV := [.tmp 6]
theorem n65 : Try.f65.ntmps = 11 := by kernel_rfl
theorem b65 : bodyB Try.prog 65 = true := by kernel_rfl
theorem c65_ok : cmpC Try.prog c65 ((Try.f65.body).getD .skip) = true := by kernel_rfl
theorem r65_ok : cmpR Try.prog r65 Try.f65.results.toList = true := by kernel_rfl
theorem t65 {args : List SV} {res : SV} (ka : KFL args) (kr : KF res) (h : sx Try.prog Y0 0 c65 (st0 args 11) (retK r65 res)) (hA : Nat.ble args.length 11 = true := by rfl) : Ct Try.prog 65 args res := ct_intro Try.func65 rfl b65 c65_ok r65_ok n65 (Nat.le_of_ble_eq_true hA) ka kr h
/- azalai/camel.plus -/
def c72 : SC := (.seq (.reg [
  ⟨some 2, .alloc [.int .i64 0, .int .i64 0] 23, none, []⟩])
  (.seq (.reg [
  ⟨some 3, .alloc [.int .i64 0, .int .i64 0] 23, none, []⟩])
  (.seq (.seq (.reg [
  ⟨some 6, .mv (.t 0), none, []⟩,
  ⟨some 7, .len (.t 6), none, []⟩,
  ⟨some 8, .mv (.c (.int .i64 0)), none, []⟩])
  (.block 0 (.loop (.seq (.reg [
    ⟨some 9, .bin .lss (.t 8) (.t 7), none, []⟩])
    (.seq (.cond (.t 9)
    .skip
    (.exit 0))
    (.seq (.block 1 (.seq (.reg [
     ⟨some 10, .ixs (.t 6) (.t 8) 2, none, []⟩,
     ⟨some 11, .ld (.t 10) 2 true, none, []⟩,
     ⟨some 5, .alloc [.int .i64 0, .int .i64 0] 23, none, []⟩,
     ⟨none, .st (.t 5) (.t 11) 2, none, []⟩])
     (.reg [
     ⟨some 12, .addo (.t 3) 0, none, []⟩,
     ⟨some 13, .ld (.t 12) 1 false, none, []⟩,
     ⟨some 14, .addo (.t 5) 0, none, []⟩,
     ⟨some 15, .ld (.t 14) 1 false, none, []⟩,
     ⟨some 16, .bin .add (.t 13) (.t 15), none, []⟩,
     ⟨some 17, .addo (.t 3) 1, none, []⟩,
     ⟨some 18, .ld (.t 17) 1 false, none, []⟩,
     ⟨some 19, .addo (.t 5) 1, none, []⟩,
     ⟨some 20, .ld (.t 19) 1 false, none, []⟩,
     ⟨some 21, .bin .add (.t 18) (.t 20), none, []⟩,
     ⟨some 22, .build [.int .i64 0, .int .i64 0] [(0, 1, .t 16), (1, 1, .t 21)], none, []⟩,
     ⟨none, .st (.t 3) (.t 22) 2, none, []⟩])))
    (.reg [
    ⟨some 23, .bin .add (.t 8) (.c (.int .i64 1)), none, []⟩,
    ⟨some 8, .mv (.t 23), none, []⟩])))))))
  (.seq (.reg [
  ⟨some 24, .ld (.t 3) 2 true, none, []⟩,
  ⟨none, .st (.t 2) (.t 24) 2, none, []⟩])
  .ret))))
def r72 : List RV := [.cell 2 2 true]
theorem n72 : Try.f72.ntmps = 25 := by kernel_rfl
theorem b72 : bodyB Try.prog 72 = true := by kernel_rfl
theorem c72_ok : cmpC Try.prog c72 ((Try.f72.body).getD .skip) = true := by kernel_rfl
theorem r72_ok : cmpR Try.prog r72 Try.f72.results.toList = true := by kernel_rfl
theorem t72 {args : List SV} {res : SV} (ka : KFL args) (kr : KF res) (h : sx Try.prog Y0 0 c72 (st0 args 25) (retK r72 res)) (hA : Nat.ble args.length 25 = true := by rfl) : Ct Try.prog 72 args res := ct_intro Try.func72 rfl b72 c72_ok r72_ok n72 (Nat.le_of_ble_eq_true hA) ka kr h
/- azalai/camel.rest -/
def c73 : SC := (.seq (.reg [
  ⟨some 3, .box (.t 1) 0 23, none, []⟩,
  ⟨some 4, .alloc [.int .i64 0, .int .i64 0] 23, none, []⟩])
  (.seq (.reg [
  ⟨some 5, .mv (.t 0), none, []⟩,
  ⟨some 6, .addo (.t 3) 1, none, []⟩,
  ⟨some 7, .ld (.t 6) 1 false, none, []⟩,
  ⟨some 8, .bin .sub (.t 5) (.t 7), none, []⟩,
  ⟨some 9, .mv (.t 0), none, []⟩,
  ⟨some 10, .addo (.t 3) 0, none, []⟩,
  ⟨some 11, .ld (.t 10) 1 false, none, []⟩,
  ⟨some 12, .bin .sub (.t 9) (.t 11), none, []⟩,
  ⟨some 13, .build [.int .i64 0, .int .i64 0] [(0, 1, .t 8), (1, 1, .t 12)], none, []⟩,
  ⟨none, .st (.t 4) (.t 13) 2, none, []⟩])
  .ret))
def r73 : List RV := [.cell 4 2 true]
theorem n73 : Try.f73.ntmps = 14 := by kernel_rfl
theorem b73 : bodyB Try.prog 73 = true := by kernel_rfl
theorem c73_ok : cmpC Try.prog c73 ((Try.f73.body).getD .skip) = true := by kernel_rfl
theorem r73_ok : cmpR Try.prog r73 Try.f73.results.toList = true := by kernel_rfl
theorem t73 {args : List SV} {res : SV} (ka : KFL args) (kr : KF res) (h : sx Try.prog Y0 0 c73 (st0 args 14) (retK r73 res)) (hA : Nat.ble args.length 14 = true := by rfl) : Ct Try.prog 73 args res := ct_intro Try.func73 rfl b73 c73_ok r73_ok n73 (Nat.le_of_ble_eq_true hA) ka kr h
/- azalai/azalairef01.spanned -/
def c87 : SC := (.seq (.reg [
  ⟨some 3, .box (.t 0) 0 23, none, []⟩,
  ⟨some 6, .mv (.c (.bool false)), none, []⟩])
  (.seq (.reg [
  ⟨some 7, .addo (.t 3) 0, none, []⟩,
  ⟨some 8, .ld (.t 7) 1 false, none, []⟩,
  ⟨some 9, .mv (.t 1), none, []⟩,
  ⟨some 10, .addo (.t 3) 1, none, []⟩,
  ⟨some 11, .ld (.t 10) 1 false, none, []⟩,
  ⟨some 12, .call 88 [.t 8, .t 9, .t 11], none, []⟩,
  ⟨some 13, .mv (.t 12), none, []⟩,
  ⟨some 14, .addo (.t 3) 1, some (13, true), []⟩,
  ⟨some 15, .ld (.t 14) 1 false, some (13, true), []⟩,
  ⟨some 16, .mv (.t 2), some (13, true), []⟩,
  ⟨some 17, .bin .leq (.t 15) (.t 16), some (13, true), []⟩,
  ⟨some 18, .pick (.t 13) (.t 17) (.c (.bool false)), none, []⟩,
  ⟨some 6, .mv (.t 18), none, []⟩])
  .ret))
def r87 : List RV := [.tmp 6]
theorem n87 : Try.f87.ntmps = 19 := by kernel_rfl
theorem b87 : bodyB Try.prog 87 = true := by kernel_rfl
theorem c87_ok : cmpC Try.prog c87 ((Try.f87.body).getD .skip) = true := by kernel_rfl
theorem r87_ok : cmpR Try.prog r87 Try.f87.results.toList = true := by kernel_rfl
theorem t87 {args : List SV} {res : SV} (ka : KFL args) (kr : KF res) (h : sx Try.prog Y0 0 c87 (st0 args 19) (retK r87 res)) (hA : Nat.ble args.length 19 = true := by rfl) : Ct Try.prog 87 args res := ct_intro Try.func87 rfl b87 c87_ok r87_ok n87 (Nat.le_of_ble_eq_true hA) ka kr h
/- azalai/azalairef01.within -/
def c88 : SC := (.seq (.reg [
  ⟨some 6, .mv (.c (.bool false)), none, []⟩])
  (.seq (.reg [
  ⟨some 7, .mv (.t 0), none, []⟩,
  ⟨some 8, .mv (.t 1), none, []⟩,
  ⟨some 9, .bin .geq (.t 7) (.t 8), none, []⟩,
  ⟨some 10, .mv (.t 9), none, []⟩,
  ⟨some 11, .mv (.t 0), some (10, true), []⟩,
  ⟨some 12, .mv (.t 2), some (10, true), []⟩,
  ⟨some 13, .bin .leq (.t 11) (.t 12), some (10, true), []⟩,
  ⟨some 14, .pick (.t 10) (.t 13) (.c (.bool false)), none, []⟩,
  ⟨some 6, .mv (.t 14), none, []⟩])
  .ret))
def r88 : List RV := [.tmp 6]
theorem n88 : Try.f88.ntmps = 15 := by kernel_rfl
theorem b88 : bodyB Try.prog 88 = true := by kernel_rfl
theorem c88_ok : cmpC Try.prog c88 ((Try.f88.body).getD .skip) = true := by kernel_rfl
theorem r88_ok : cmpR Try.prog r88 Try.f88.results.toList = true := by kernel_rfl
theorem t88 {args : List SV} {res : SV} (ka : KFL args) (kr : KF res) (h : sx Try.prog Y0 0 c88 (st0 args 15) (retK r88 res)) (hA : Nat.ble args.length 15 = true := by rfl) : Ct Try.prog 88 args res := ct_intro Try.func88 rfl b88 c88_ok r88_ok n88 (Nat.le_of_ble_eq_true hA) ka kr h
/- azalai/camel.scaled -/
def c89 : SC := (.seq (.reg [
  ⟨some 3, .box (.t 0) 0 23, none, []⟩,
  ⟨some 6, .alloc [.int .i64 0, .int .i64 0] 23, none, []⟩])
  (.seq (.seq (.reg [
  ⟨some 9, .mv (.t 2), none, []⟩,
  ⟨some 10, .len (.t 9), none, []⟩,
  ⟨some 11, .mv (.c (.int .i64 0)), none, []⟩])
  (.block 0 (.loop (.seq (.reg [
    ⟨some 12, .bin .lss (.t 11) (.t 10), none, []⟩])
    (.seq (.cond (.t 12)
    .skip
    (.exit 0))
    (.seq (.block 1 (.seq (.reg [
     ⟨some 13, .ixs (.t 9) (.t 11) 1, none, []⟩,
     ⟨some 14, .ld (.t 13) 1 false, none, []⟩,
     ⟨some 8, .mv (.t 14), none, []⟩])
     (.reg [
     ⟨some 15, .addo (.t 3) 0, none, []⟩,
     ⟨some 16, .ld (.t 15) 1 false, none, []⟩,
     ⟨some 17, .mv (.t 8), none, []⟩,
     ⟨some 18, .bin .mul (.t 16) (.t 17), none, []⟩,
     ⟨some 19, .addo (.t 3) 1, none, []⟩,
     ⟨some 20, .ld (.t 19) 1 false, none, []⟩,
     ⟨some 21, .mv (.t 8), none, []⟩,
     ⟨some 22, .bin .mul (.t 20) (.t 21), none, []⟩,
     ⟨some 23, .addo (.t 3) 0, none, []⟩,
     ⟨none, .st (.t 23) (.t 18) 1, none, []⟩,
     ⟨some 24, .addo (.t 3) 1, none, []⟩,
     ⟨none, .st (.t 24) (.t 22) 1, none, []⟩])))
    (.reg [
    ⟨some 25, .bin .add (.t 11) (.c (.int .i64 1)), none, []⟩,
    ⟨some 11, .mv (.t 25), none, []⟩])))))))
  (.seq (.regd [0, 1, 2, 3, 4, 5, 6, 7, 8, 9] [
  .op ⟨some 26, .addo (.t 3) 0, none, []⟩,
  .op ⟨some 27, .ld (.t 26) 1 false, none, [0]⟩,
  .op ⟨some 28, .mv (.t 1), none, []⟩,
  .op ⟨some 29, .div .quo (.t 27) (.t 28), none, [1, 2]⟩,
  .op ⟨some 30, .addo (.t 3) 1, none, []⟩,
  .op ⟨some 31, .ld (.t 30) 1 false, none, [4]⟩,
  .op ⟨some 32, .mv (.t 1), none, []⟩,
  .op ⟨some 33, .call 90 [.t 31, .t 32], none, [5, 6]⟩,
  .op ⟨some 34, .build [.int .i64 0, .int .i64 0] [(0, 1, .t 29), (1, 1, .t 33)], none, [3, 7]⟩] 0 1 [
  ⟨none, .st (.t 6) (.t 34) 2, none, [0, 1, 2, 3, 4, 5, 6, 7, 8]⟩])
  .ret)))
def r89 : List RV := [.cell 6 2 true]
theorem n89 : Try.f89.ntmps = 35 := by kernel_rfl
theorem b89 : bodyB Try.prog 89 = true := by kernel_rfl
theorem c89_ok : cmpC Try.prog c89 ((Try.f89.body).getD .skip) = true := by kernel_rfl
theorem r89_ok : cmpR Try.prog r89 Try.f89.results.toList = true := by kernel_rfl
theorem t89 {args : List SV} {res : SV} (ka : KFL args) (kr : KF res) (h : sx Try.prog Y0 0 c89 (st0 args 35) (retK r89 res)) (hA : Nat.ble args.length 35 = true := by rfl) : Ct Try.prog 89 args res := ct_intro Try.func89 rfl b89 c89_ok r89_ok n89 (Nat.le_of_ble_eq_true hA) ka kr h
/- azalai/camel.ceil -/
def c90 : SC := (.seq (.reg [
  ⟨some 4, .mv (.c (.int .i64 0)), none, []⟩])
  (.seq (.reg [
  ⟨some 5, .mv (.t 0), none, []⟩,
  ⟨some 6, .mv (.t 1), none, []⟩,
  ⟨some 7, .bin .add (.t 5) (.t 6), none, []⟩,
  ⟨some 8, .bin .sub (.t 7) (.c (.int .i64 1)), none, []⟩,
  ⟨some 9, .mv (.t 1), none, []⟩,
  ⟨some 10, .div .quo (.t 8) (.t 9), none, []⟩,
  ⟨some 4, .mv (.t 10), none, []⟩])
  .ret))
def r90 : List RV := [.tmp 4]
theorem n90 : Try.f90.ntmps = 11 := by kernel_rfl
theorem b90 : bodyB Try.prog 90 = true := by kernel_rfl
theorem c90_ok : cmpC Try.prog c90 ((Try.f90.body).getD .skip) = true := by kernel_rfl
theorem r90_ok : cmpR Try.prog r90 Try.f90.results.toList = true := by kernel_rfl
theorem t90 {args : List SV} {res : SV} (ka : KFL args) (kr : KF res) (h : sx Try.prog Y0 0 c90 (st0 args 11) (retK r90 res)) (hA : Nat.ble args.length 11 = true := by rfl) : Ct Try.prog 90 args res := ct_intro Try.func90 rfl b90 c90_ok r90_ok n90 (Nat.le_of_ble_eq_true hA) ka kr h
/- slices.ContainsFunc[[]int,int] -/
def c91 : SC := (.seq (.reg [
  ⟨some 4, .mv (.c (.bool false)), none, []⟩])
  (.seq (.reg [
  ⟨some 5, .mv (.t 0), none, []⟩,
  ⟨some 6, .mv (.t 1), none, []⟩,
  ⟨some 7, .call 101 [.t 5, .t 6], none, []⟩,
  ⟨some 8, .bin .geq (.t 7) (.c (.int .i64 0)), none, []⟩,
  ⟨some 4, .mv (.t 8), none, []⟩])
  .ret))
def r91 : List RV := [.tmp 4]
theorem n91 : Try.f91.ntmps = 9 := by kernel_rfl
theorem b91 : bodyB Try.prog 91 = true := by kernel_rfl
theorem c91_ok : cmpC Try.prog c91 ((Try.f91.body).getD .skip) = true := by kernel_rfl
theorem r91_ok : cmpR Try.prog r91 Try.f91.results.toList = true := by kernel_rfl
theorem t91 {args : List SV} {res : SV} (ka : KFL args) (kr : KF res) (h : sx Try.prog Y0 0 c91 (st0 args 9) (retK r91 res)) (hA : Nat.ble args.length 9 = true := by rfl) : Ct Try.prog 91 args res := ct_intro Try.func91 rfl b91 c91_ok r91_ok n91 (Nat.le_of_ble_eq_true hA) ka kr h
/- azalai/camel.from$1 -/
def c92 : SC := (.seq (.reg [
  ⟨some 4, .mv (.c (.bool false)), none, []⟩])
  (.seq (.reg [
  ⟨some 5, .mv (.t 0), none, []⟩,
  ⟨some 6, .ld (.t 1) 1 false, none, []⟩,
  ⟨some 7, .bin .lss (.t 5) (.t 6), none, []⟩,
  ⟨some 8, .mv (.t 7), none, []⟩,
  ⟨some 9, .mv (.t 0), some (8, false), []⟩,
  ⟨some 10, .ld (.t 2) 1 false, some (8, false), []⟩,
  ⟨some 11, .bin .gtr (.t 9) (.t 10), some (8, false), []⟩,
  ⟨some 12, .pick (.t 8) (.c (.bool true)) (.t 11), none, []⟩,
  ⟨some 4, .mv (.t 12), none, []⟩])
  .ret))
def r92 : List RV := [.tmp 4]
theorem n92 : Try.f92.ntmps = 13 := by kernel_rfl
theorem b92 : bodyB Try.prog 92 = true := by kernel_rfl
theorem c92_ok : cmpC Try.prog c92 ((Try.f92.body).getD .skip) = true := by kernel_rfl
theorem r92_ok : cmpR Try.prog r92 Try.f92.results.toList = true := by kernel_rfl
theorem t92 {args : List SV} {res : SV} (ka : KFL args) (kr : KF res) (h : sx Try.prog Y0 0 c92 (st0 args 13) (retK r92 res)) (hA : Nat.ble args.length 13 = true := by rfl) : Ct Try.prog 92 args res := ct_intro Try.func92 rfl b92 c92_ok r92_ok n92 (Nat.le_of_ble_eq_true hA) ka kr h
/- slices.ContainsFunc[[]azalai/api.Span,azalai/api.Span] -/
def c93 : SC := (.seq (.reg [
  ⟨some 4, .mv (.c (.bool false)), none, []⟩])
  (.seq (.reg [
  ⟨some 5, .mv (.t 0), none, []⟩,
  ⟨some 6, .mv (.t 1), none, []⟩,
  ⟨some 7, .call 102 [.t 5, .t 6], none, []⟩,
  ⟨some 8, .bin .geq (.t 7) (.c (.int .i64 0)), none, []⟩,
  ⟨some 4, .mv (.t 8), none, []⟩])
  .ret))
def r93 : List RV := [.tmp 4]
theorem n93 : Try.f93.ntmps = 9 := by kernel_rfl
theorem b93 : bodyB Try.prog 93 = true := by kernel_rfl
theorem c93_ok : cmpC Try.prog c93 ((Try.f93.body).getD .skip) = true := by kernel_rfl
theorem r93_ok : cmpR Try.prog r93 Try.f93.results.toList = true := by kernel_rfl
theorem t93 {args : List SV} {res : SV} (ka : KFL args) (kr : KF res) (h : sx Try.prog Y0 0 c93 (st0 args 9) (retK r93 res)) (hA : Nat.ble args.length 9 = true := by rfl) : Ct Try.prog 93 args res := ct_intro Try.func93 rfl b93 c93_ok r93_ok n93 (Nat.le_of_ble_eq_true hA) ka kr h
/- azalai/camel.ordered$1 -/
def c94 : SC := (.seq (.reg [
  ⟨some 3, .box (.t 0) 0 23, none, []⟩,
  ⟨some 4, .mv (.c (.bool false)), none, []⟩])
  (.seq (.reg [
  ⟨some 5, .addo (.t 3) 0, none, []⟩,
  ⟨some 6, .ld (.t 5) 1 false, none, []⟩,
  ⟨some 7, .addo (.t 3) 1, none, []⟩,
  ⟨some 8, .ld (.t 7) 1 false, none, []⟩,
  ⟨some 9, .bin .gtr (.t 6) (.t 8), none, []⟩,
  ⟨some 10, .mv (.t 9), none, []⟩,
  ⟨some 11, .ld (.t 1) 1 false, some (10, false), []⟩,
  ⟨some 12, .ld (.t 2) 1 false, some (10, false), []⟩,
  ⟨some 13, .addo (.t 3) 0, some (10, false), []⟩,
  ⟨some 14, .ld (.t 13) 1 false, some (10, false), []⟩,
  ⟨some 15, .addo (.t 3) 1, some (10, false), []⟩,
  ⟨some 16, .ld (.t 15) 1 false, some (10, false), []⟩,
  ⟨some 17, .bsl 1 3 [.t 14, .t 16], some (10, false), []⟩,
  ⟨some 18, .call 64 [.t 11, .t 12, .t 17], some (10, false), []⟩,
  ⟨some 19, .un .not (.t 18), some (10, false), []⟩,
  ⟨some 20, .pick (.t 10) (.c (.bool true)) (.t 19), none, []⟩,
  ⟨some 4, .mv (.t 20), none, []⟩])
  .ret))
def r94 : List RV := [.tmp 4]
theorem n94 : Try.f94.ntmps = 21 := by kernel_rfl
theorem b94 : bodyB Try.prog 94 = true := by kernel_rfl
theorem c94_ok : cmpC Try.prog c94 ((Try.f94.body).getD .skip) = true := by kernel_rfl
theorem r94_ok : cmpR Try.prog r94 Try.f94.results.toList = true := by kernel_rfl
theorem t94 {args : List SV} {res : SV} (ka : KFL args) (kr : KF res) (h : sx Try.prog Y0 0 c94 (st0 args 21) (retK r94 res)) (hA : Nat.ble args.length 21 = true := by rfl) : Ct Try.prog 94 args res := ct_intro Try.func94 rfl b94 c94_ok r94_ok n94 (Nat.le_of_ble_eq_true hA) ka kr h
/- slices.IndexFunc[[]int,int] -/
def c101 : SC := (.seq (.reg [
  ⟨some 4, .mv (.c (.int .i64 0)), none, []⟩])
  (.seq (.seq (.reg [
  ⟨some 6, .mv (.t 0), none, []⟩,
  ⟨some 7, .len (.t 6), none, []⟩,
  ⟨some 8, .mv (.c (.int .i64 0)), none, []⟩])
  (.block 0 (.loop (.seq (.reg [
    ⟨some 9, .bin .lss (.t 8) (.t 7), none, []⟩])
    (.seq (.cond (.t 9)
    .skip
    (.exit 0))
    (.seq (.block 1 (.seq (.reg [
     ⟨some 10, .mv (.t 8), none, []⟩,
     ⟨some 5, .mv (.t 10), none, []⟩])
     (.seq (.reg [
     ⟨some 11, .mv (.t 1), none, []⟩,
     ⟨some 12, .mv (.t 0), none, []⟩,
     ⟨some 13, .mv (.t 5), none, []⟩,
     ⟨some 14, .ixs (.t 12) (.t 13) 1, none, []⟩,
     ⟨some 15, .ld (.t 14) 1 false, none, []⟩,
     ⟨some 16, .calv (.t 11) [.t 15], none, []⟩])
     (.cond (.t 16)
     (.seq (.reg [
      ⟨some 17, .mv (.t 5), none, []⟩,
      ⟨some 4, .mv (.t 17), none, []⟩])
      .ret)
     .skip))))
    (.reg [
    ⟨some 18, .bin .add (.t 8) (.c (.int .i64 1)), none, []⟩,
    ⟨some 8, .mv (.t 18), none, []⟩])))))))
  (.seq (.reg [
  ⟨some 4, .mv (.c (.int .i64 (-1))), none, []⟩])
  .ret)))
def r101 : List RV := [.tmp 4]
theorem n101 : Try.f101.ntmps = 19 := by kernel_rfl
theorem b101 : bodyB Try.prog 101 = true := by kernel_rfl
theorem c101_ok : cmpC Try.prog c101 ((Try.f101.body).getD .skip) = true := by kernel_rfl
theorem r101_ok : cmpR Try.prog r101 Try.f101.results.toList = true := by kernel_rfl
theorem t101 {args : List SV} {res : SV} (ka : KFL args) (kr : KF res) (h : sx Try.prog Y0 0 c101 (st0 args 19) (retK r101 res)) (hA : Nat.ble args.length 19 = true := by rfl) : Ct Try.prog 101 args res := ct_intro Try.func101 rfl b101 c101_ok r101_ok n101 (Nat.le_of_ble_eq_true hA) ka kr h
/- slices.IndexFunc[[]azalai/api.Span,azalai/api.Span] -/
def c102 : SC := (.seq (.reg [
  ⟨some 4, .mv (.c (.int .i64 0)), none, []⟩])
  (.seq (.seq (.reg [
  ⟨some 6, .mv (.t 0), none, []⟩,
  ⟨some 7, .len (.t 6), none, []⟩,
  ⟨some 8, .mv (.c (.int .i64 0)), none, []⟩])
  (.block 0 (.loop (.seq (.reg [
    ⟨some 9, .bin .lss (.t 8) (.t 7), none, []⟩])
    (.seq (.cond (.t 9)
    .skip
    (.exit 0))
    (.seq (.block 1 (.seq (.reg [
     ⟨some 10, .mv (.t 8), none, []⟩,
     ⟨some 5, .mv (.t 10), none, []⟩])
     (.seq (.reg [
     ⟨some 11, .mv (.t 1), none, []⟩,
     ⟨some 12, .mv (.t 0), none, []⟩,
     ⟨some 13, .mv (.t 5), none, []⟩,
     ⟨some 14, .ixs (.t 12) (.t 13) 2, none, []⟩,
     ⟨some 15, .ld (.t 14) 2 true, none, []⟩,
     ⟨some 16, .calv (.t 11) [.t 15], none, []⟩])
     (.cond (.t 16)
     (.seq (.reg [
      ⟨some 17, .mv (.t 5), none, []⟩,
      ⟨some 4, .mv (.t 17), none, []⟩])
      .ret)
     .skip))))
    (.reg [
    ⟨some 18, .bin .add (.t 8) (.c (.int .i64 1)), none, []⟩,
    ⟨some 8, .mv (.t 18), none, []⟩])))))))
  (.seq (.reg [
  ⟨some 4, .mv (.c (.int .i64 (-1))), none, []⟩])
  .ret)))
def r102 : List RV := [.tmp 4]
theorem n102 : Try.f102.ntmps = 19 := by kernel_rfl
theorem b102 : bodyB Try.prog 102 = true := by kernel_rfl
theorem c102_ok : cmpC Try.prog c102 ((Try.f102.body).getD .skip) = true := by kernel_rfl
theorem r102_ok : cmpR Try.prog r102 Try.f102.results.toList = true := by kernel_rfl
theorem t102 {args : List SV} {res : SV} (ka : KFL args) (kr : KF res) (h : sx Try.prog Y0 0 c102 (st0 args 19) (retK r102 res)) (hA : Nat.ble args.length 19 = true := by rfl) : Ct Try.prog 102 args res := ct_intro Try.func102 rfl b102 c102_ok r102_ok n102 (Nat.le_of_ble_eq_true hA) ka kr h
/- azalai/azalailaw01.CamelLoads -/
def c4 : SC := (.seq (.reg [
  ⟨some 4, .box (.t 0) 0 25, none, []⟩,
  ⟨some 5, .box (.t 1) 0 27, none, []⟩,
  ⟨some 8, .mv (.c (.bool false)), none, []⟩])
  (.seq (.seq (.reg [
  ⟨some 18, .mv (.t 2), none, []⟩,
  ⟨some 19, .len (.t 18), none, []⟩,
  ⟨some 20, .bin .gtr (.t 19) (.c (.int .i64 100)), none, []⟩,
  ⟨some 21, .mv (.t 20), none, []⟩,
  ⟨some 22, .mv (.t 3), some (21, false), []⟩,
  ⟨some 23, .len (.t 22), some (21, false), []⟩,
  ⟨some 24, .bin .gtr (.t 23) (.c (.int .i64 50)), some (21, false), []⟩,
  ⟨some 25, .pick (.t 21) (.c (.bool true)) (.t 24), none, []⟩])
  (.cond (.t 25)
  (.seq (.reg [
   ⟨some 8, .mv (.c (.bool true)), none, []⟩])
   .ret)
  .skip))
  (.seq (.reg [
  ⟨some 26, .bsl 7 27 [], none, []⟩,
  ⟨some 27, .mv (.t 3), none, []⟩,
  ⟨some 28, .app 7 56 27 (.t 26) (.t 27), none, []⟩,
  ⟨some 9, .mv (.t 28), none, []⟩])
  (.seq (.reg [
  ⟨some 30, .ld (.t 4) 17 true, none, []⟩,
  ⟨some 31, .ld (.t 5) 7 true, none, []⟩,
  ⟨some 32, .mv (.t 2), none, []⟩,
  ⟨some 33, .call 24 [.t 30, .t 31, .t 32], none, []⟩,
  ⟨some 29, .mv (.t 33), none, []⟩,
  ⟨some 34, .ext (.t 29) 0, none, []⟩,
  ⟨some 35, .ext (.t 29) 1, none, []⟩,
  ⟨some 10, .mv (.t 34), none, []⟩,
  ⟨some 11, .mv (.t 35), none, []⟩])
  (.seq (.reg [
  ⟨some 37, .ld (.t 4) 17 true, none, []⟩,
  ⟨some 38, .ld (.t 5) 7 true, none, []⟩,
  ⟨some 39, .mv (.t 2), none, []⟩,
  ⟨some 40, .call 25 [.t 37, .t 38, .t 39], none, []⟩,
  ⟨some 36, .mv (.t 40), none, []⟩,
  ⟨some 41, .ext (.t 36) 0, none, []⟩,
  ⟨some 42, .ext (.t 36) 1, none, []⟩,
  ⟨some 12, .mv (.t 41), none, []⟩,
  ⟨some 13, .mv (.t 42), none, []⟩])
  (.seq (.reg [
  ⟨some 44, .ld (.t 4) 17 true, none, []⟩,
  ⟨some 45, .mv (.t 9), none, []⟩,
  ⟨some 46, .call 26 [.t 44, .t 45], none, []⟩,
  ⟨some 43, .mv (.t 46), none, []⟩,
  ⟨some 47, .ext (.t 43) 0, none, []⟩,
  ⟨some 48, .ext (.t 43) 1, none, []⟩,
  ⟨some 14, .alloc [.int .i64 0, .int .i64 0] 23, none, []⟩,
  ⟨none, .st (.t 14) (.t 47) 2, none, []⟩,
  ⟨some 15, .mv (.t 48), none, []⟩])
  (.seq (.reg [
  ⟨some 50, .ld (.t 4) 17 true, none, []⟩,
  ⟨some 51, .mv (.t 3), none, []⟩,
  ⟨some 52, .call 27 [.t 50, .t 51], none, []⟩,
  ⟨some 49, .mv (.t 52), none, []⟩,
  ⟨some 53, .ext (.t 49) 0, none, []⟩,
  ⟨some 54, .ext (.t 49) 1, none, []⟩,
  ⟨some 16, .alloc [.int .i64 0, .int .i64 0] 23, none, []⟩,
  ⟨none, .st (.t 16) (.t 53) 2, none, []⟩,
  ⟨some 17, .mv (.t 54), none, []⟩])
  (.seq (.reg [
  ⟨some 55, .mv (.t 10), none, []⟩,
  ⟨some 56, .mv (.t 12), none, []⟩,
  ⟨some 57, .bin .eql (.t 55) (.t 56), none, []⟩,
  ⟨some 58, .mv (.t 57), none, []⟩,
  ⟨some 59, .mv (.t 11), some (58, true), []⟩,
  ⟨some 60, .mv (.t 13), some (58, true), []⟩,
  ⟨some 61, .bin .eql (.t 59) (.t 60), some (58, true), []⟩,
  ⟨some 62, .pick (.t 58) (.t 61) (.c (.bool false)), none, []⟩,
  ⟨some 63, .mv (.t 62), none, []⟩,
  ⟨some 64, .ld (.t 14) 2 true, some (63, true), []⟩,
  ⟨some 65, .ld (.t 16) 2 true, some (63, true), []⟩,
  ⟨some 66, .eqs false true [1, 1] (.t 64) (.t 65), some (63, true), []⟩,
  ⟨some 67, .pick (.t 63) (.t 66) (.c (.bool false)), none, []⟩,
  ⟨some 68, .mv (.t 67), none, []⟩,
  ⟨some 69, .mv (.t 15), some (68, true), []⟩,
  ⟨some 70, .mv (.t 17), some (68, true), []⟩,
  ⟨some 71, .bin .eql (.t 69) (.t 70), some (68, true), []⟩,
  ⟨some 72, .pick (.t 68) (.t 71) (.c (.bool false)), none, []⟩,
  ⟨some 73, .mv (.t 72), none, []⟩,
  ⟨some 74, .mv (.t 9), some (73, true), []⟩,
  ⟨some 75, .mv (.t 3), some (73, true), []⟩,
  ⟨some 76, .call 28 [.t 74, .t 75], some (73, true), []⟩,
  ⟨some 77, .pick (.t 73) (.t 76) (.c (.bool false)), none, []⟩,
  ⟨some 8, .mv (.t 77), none, []⟩])
  .ret))))))))
def r4 : List RV := [.tmp 8]
theorem n4 : Try.f4.ntmps = 78 := by kernel_rfl
theorem b4 : bodyB Try.prog 4 = true := by kernel_rfl
theorem c4_ok : cmpC Try.prog c4 ((Try.f4.body).getD .skip) = true := by kernel_rfl
theorem r4_ok : cmpR Try.prog r4 Try.f4.results.toList = true := by kernel_rfl
theorem t4 {args : List SV} {res : SV} (ka : KFL args) (kr : KF res) (h : sx Try.prog Y0 0 c4 (st0 args 78) (retK r4 res)) (hA : Nat.ble args.length 78 = true := by rfl) : Ct Try.prog 4 args res := ct_intro Try.func4 rfl b4 c4_ok r4_ok n4 (Nat.le_of_ble_eq_true hA) ka kr h
/- azalai/camel.Heaviest -/
def c24 : SC := (.seq (.reg [
  ⟨some 3, .box (.t 0) 0 25, none, []⟩,
  ⟨some 4, .box (.t 1) 0 27, none, []⟩,
  ⟨some 5, .box (.t 2) 0 44, none, []⟩,
  ⟨some 6, .mv (.c (.int .i64 0)), none, []⟩,
  ⟨some 7, .mv (.c (.int .i64 0)), none, []⟩])
  (.seq (.seq (.reg [
  ⟨some 10, .ld (.t 3) 17 true, none, []⟩,
  ⟨some 11, .ld (.t 4) 7 true, none, []⟩,
  ⟨some 12, .ld (.t 5) 1 false, none, []⟩,
  ⟨some 13, .call 66 [.t 10, .t 11, .t 12], none, []⟩,
  ⟨some 8, .mv (.t 13), none, []⟩])
  (.seq (.reg [
  ⟨some 14, .mv (.t 8), none, []⟩,
  ⟨some 15, .bin .neq (.t 14) (.c (.int .i64 0)), none, []⟩])
  (.cond (.t 15)
  (.seq (.reg [
   ⟨some 16, .mv (.t 8), none, []⟩,
   ⟨some 6, .mv (.c (.int .i64 0)), none, []⟩,
   ⟨some 7, .mv (.t 16), none, []⟩])
   .ret)
  .skip)))
  (.seq (.reg [
  ⟨some 17, .mkf 67 [.t 3, .t 4, .t 5], none, []⟩,
  ⟨some 9, .mv (.t 17), none, []⟩])
  (.seq (.seq (.reg [
  ⟨some 18, .mv (.t 9), none, []⟩,
  ⟨some 19, .calv (.t 18) [.c (.int .i64 0)], none, []⟩,
  ⟨some 20, .un .not (.t 19), none, []⟩])
  (.cond (.t 20)
  (.seq (.reg [
   ⟨some 6, .mv (.c (.int .i64 0)), none, []⟩,
   ⟨some 7, .mv (.c (.int .i64 13)), none, []⟩])
   .ret)
  .skip))
  (.seq (.reg [
  ⟨some 21, .mv (.t 9), none, []⟩,
  ⟨some 22, .call 69 [.c (.int .i64 0), .c (.int .i64 1000000), .t 21], none, []⟩,
  ⟨some 6, .mv (.t 22), none, []⟩,
  ⟨some 7, .mv (.c (.int .i64 0)), none, []⟩])
  .ret)))))
def r24 : List RV := [.tmp 6, .tmp 7]
theorem n24 : Try.f24.ntmps = 23 := by kernel_rfl
theorem b24 : bodyB Try.prog 24 = true := by kernel_rfl
theorem c24_ok : cmpC Try.prog c24 ((Try.f24.body).getD .skip) = true := by kernel_rfl
theorem r24_ok : cmpR Try.prog r24 Try.f24.results.toList = true := by kernel_rfl
theorem t24 {args : List SV} {res : SV} (ka : KFL args) (kr : KF res) (h : sx Try.prog Y0 0 c24 (st0 args 23) (retK r24 res)) (hA : Nat.ble args.length 23 = true := by rfl) : Ct Try.prog 24 args res := ct_intro Try.func24 rfl b24 c24_ok r24_ok n24 (Nat.le_of_ble_eq_true hA) ka kr h
/- azalai/azalairef01.Heaviest -/
def c25 : SC := (.seq (.reg [
  ⟨some 3, .box (.t 0) 0 25, none, []⟩,
  ⟨some 4, .box (.t 1) 0 27, none, []⟩,
  ⟨some 6, .mv (.c (.int .i64 0)), none, []⟩,
  ⟨some 7, .mv (.c (.int .i64 0)), none, []⟩])
  (.seq (.seq (.reg [
  ⟨some 12, .ld (.t 3) 17 true, none, []⟩,
  ⟨some 13, .ld (.t 4) 7 true, none, []⟩,
  ⟨some 14, .mv (.t 2), none, []⟩,
  ⟨some 15, .call 70 [.t 12, .t 13, .t 14], none, []⟩,
  ⟨some 8, .mv (.t 15), none, []⟩])
  (.seq (.reg [
  ⟨some 16, .mv (.t 8), none, []⟩,
  ⟨some 17, .bin .neq (.t 16) (.c (.int .i64 0)), none, []⟩])
  (.cond (.t 17)
  (.seq (.reg [
   ⟨some 18, .mv (.t 8), none, []⟩,
   ⟨some 6, .mv (.c (.int .i64 0)), none, []⟩,
   ⟨some 7, .mv (.t 18), none, []⟩])
   .ret)
  .skip)))
  (.seq (.seq (.reg [
  ⟨some 19, .ld (.t 3) 17 true, none, []⟩,
  ⟨some 20, .ld (.t 4) 7 true, none, []⟩,
  ⟨some 21, .mv (.t 2), none, []⟩,
  ⟨some 22, .call 71 [.t 19, .t 20, .t 21, .c (.int .i64 0)], none, []⟩,
  ⟨some 23, .un .not (.t 22), none, []⟩])
  (.cond (.t 23)
  (.seq (.reg [
   ⟨some 6, .mv (.c (.int .i64 0)), none, []⟩,
   ⟨some 7, .mv (.c (.int .i64 13)), none, []⟩])
   .ret)
  .skip))
  (.seq (.reg [
  ⟨some 9, .mv (.c (.int .i64 0)), none, []⟩,
  ⟨some 10, .mv (.c (.int .i64 1000000)), none, []⟩])
  (.seq (.block 0 (.loop (.seq (.seq (.reg [
    ⟨some 24, .mv (.t 9), none, []⟩,
    ⟨some 25, .mv (.t 10), none, []⟩,
    ⟨some 26, .bin .lss (.t 24) (.t 25), none, []⟩])
    (.cond (.t 26)
    .skip
    (.exit 0)))
    (.block 1 (.seq (.reg [
     ⟨some 27, .mv (.t 9), none, []⟩,
     ⟨some 28, .mv (.t 10), none, []⟩,
     ⟨some 29, .bin .add (.t 27) (.t 28), none, []⟩,
     ⟨some 30, .bin .add (.t 29) (.c (.int .i64 1)), none, []⟩,
     ⟨some 31, .div .quo (.t 30) (.c (.int .i64 2)), none, []⟩,
     ⟨some 11, .mv (.t 31), none, []⟩])
     (.seq (.reg [
     ⟨some 32, .ld (.t 3) 17 true, none, []⟩,
     ⟨some 33, .ld (.t 4) 7 true, none, []⟩,
     ⟨some 34, .mv (.t 2), none, []⟩,
     ⟨some 35, .mv (.t 11), none, []⟩,
     ⟨some 36, .call 71 [.t 32, .t 33, .t 34, .t 35], none, []⟩])
     (.cond (.t 36)
     (.reg [
      ⟨some 37, .mv (.t 11), none, []⟩,
      ⟨some 9, .mv (.t 37), none, []⟩])
     (.reg [
      ⟨some 38, .mv (.t 11), none, []⟩,
      ⟨some 39, .bin .sub (.t 38) (.c (.int .i64 1)), none, []⟩,
      ⟨some 10, .mv (.t 39), none, []⟩]))))))))
  (.seq (.reg [
  ⟨some 40, .mv (.t 9), none, []⟩,
  ⟨some 6, .mv (.t 40), none, []⟩,
  ⟨some 7, .mv (.c (.int .i64 0)), none, []⟩])
  .ret))))))
def r25 : List RV := [.tmp 6, .tmp 7]
theorem n25 : Try.f25.ntmps = 41 := by kernel_rfl
theorem b25 : bodyB Try.prog 25 = true := by kernel_rfl
theorem c25_ok : cmpC Try.prog c25 ((Try.f25.body).getD .skip) = true := by kernel_rfl
theorem r25_ok : cmpR Try.prog r25 Try.f25.results.toList = true := by kernel_rfl
theorem t25 {args : List SV} {res : SV} (ka : KFL args) (kr : KF res) (h : sx Try.prog Y0 0 c25 (st0 args 41) (retK r25 res)) (hA : Nat.ble args.length 41 = true := by rfl) : Ct Try.prog 25 args res := ct_intro Try.func25 rfl b25 c25_ok r25_ok n25 (Nat.le_of_ble_eq_true hA) ka kr h
/- azalai/camel.Thirst -/
def c26 : SC := (.seq (.reg [
  ⟨some 2, .box (.t 0) 0 25, none, []⟩,
  ⟨some 4, .alloc [.int .i64 0, .int .i64 0] 23, none, []⟩,
  ⟨some 5, .mv (.c (.int .i64 0)), none, []⟩])
  (.seq (.seq (.reg [
  ⟨some 11, .ld (.t 2) 17 true, none, []⟩,
  ⟨some 12, .call 20 [.t 11], none, []⟩,
  ⟨some 6, .mv (.t 12), none, []⟩])
  (.seq (.reg [
  ⟨some 13, .mv (.t 6), none, []⟩,
  ⟨some 14, .bin .neq (.t 13) (.c (.int .i64 0)), none, []⟩])
  (.cond (.t 14)
  (.seq (.reg [
   ⟨some 15, .build [.int .i64 0, .int .i64 0] [], none, []⟩,
   ⟨some 16, .mv (.t 6), none, []⟩,
   ⟨none, .st (.t 4) (.t 15) 2, none, []⟩,
   ⟨some 5, .mv (.t 16), none, []⟩])
   .ret)
  .skip)))
  (.seq (.seq (.reg [
  ⟨some 17, .mv (.t 1), none, []⟩,
  ⟨some 18, .len (.t 17), none, []⟩,
  ⟨some 19, .bin .gtr (.t 18) (.c (.int .i64 30)), none, []⟩])
  (.cond (.t 19)
  (.seq (.reg [
   ⟨some 20, .build [.int .i64 0, .int .i64 0] [], none, []⟩,
   ⟨none, .st (.t 4) (.t 20) 2, none, []⟩,
   ⟨some 5, .mv (.c (.int .i64 4)), none, []⟩])
   .ret)
  .skip))
  (.seq (.reg [
  ⟨some 7, .alloc [.int .i64 0, .int .i64 0] 23, none, []⟩])
  (.seq (.seq (.reg [
  ⟨some 21, .mv (.t 1), none, []⟩,
  ⟨some 22, .len (.t 21), none, []⟩,
  ⟨some 23, .mv (.c (.int .i64 0)), none, []⟩])
  (.block 0 (.loop (.seq (.reg [
    ⟨some 24, .bin .lss (.t 23) (.t 22), none, []⟩])
    (.seq (.cond (.t 24)
    .skip
    (.exit 0))
    (.seq (.block 1 (.seq (.reg [
     ⟨some 25, .ixs (.t 21) (.t 23) 7, none, []⟩,
     ⟨some 26, .ld (.t 25) 7 true, none, []⟩,
     ⟨some 9, .alloc [.int .i64 0, .int .i64 0, .int .i64 0, .int .i64 0, .int .i64 0, .int .i64 0, .bool false] 27, none, []⟩,
     ⟨none, .st (.t 9) (.t 26) 7, none, []⟩])
     (.seq (.seq (.reg [
     ⟨some 27, .ld (.t 2) 17 true, none, []⟩,
     ⟨some 28, .ld (.t 9) 7 true, none, []⟩,
     ⟨some 29, .call 22 [.t 27, .t 28], none, []⟩,
     ⟨some 10, .mv (.t 29), none, []⟩])
     (.seq (.reg [
     ⟨some 30, .mv (.t 10), none, []⟩,
     ⟨some 31, .bin .neq (.t 30) (.c (.int .i64 0)), none, []⟩])
     (.cond (.t 31)
     (.seq (.reg [
      ⟨some 32, .build [.int .i64 0, .int .i64 0] [], none, []⟩,
      ⟨some 33, .mv (.t 10), none, []⟩,
      ⟨none, .st (.t 4) (.t 32) 2, none, []⟩,
      ⟨some 5, .mv (.t 33), none, []⟩])
      .ret)
     .skip)))
     (.regd [0, 1, 2, 3, 4, 5, 6, 7, 8] [
     .op ⟨some 34, .ld (.t 7) 2 true, none, []⟩,
     .op ⟨some 35, .addo (.t 2) 0, none, []⟩,
     .op ⟨some 36, .ld (.t 35) 1 false, none, [1]⟩,
     .op ⟨some 37, .addo (.t 9) 0, none, []⟩,
     .op ⟨some 38, .ld (.t 37) 2 true, none, [3]⟩,
     .op ⟨some 39, .call 73 [.t 36, .t 38], none, [2, 4]⟩,
     .op ⟨some 40, .bsl 2 23 [.t 34, .t 39], none, [0, 5]⟩,
     .op ⟨some 41, .call 72 [.t 40], none, [5, 6]⟩] 0 1 [
     ⟨none, .st (.t 7) (.t 41) 2, none, [0, 1, 2, 3, 4, 5, 6, 7]⟩]))))
    (.reg [
    ⟨some 42, .bin .add (.t 23) (.c (.int .i64 1)), none, []⟩,
    ⟨some 23, .mv (.t 42), none, []⟩])))))))
  (.seq (.reg [
  ⟨some 43, .ld (.t 7) 2 true, none, []⟩,
  ⟨none, .st (.t 4) (.t 43) 2, none, []⟩,
  ⟨some 5, .mv (.c (.int .i64 0)), none, []⟩])
  .ret))))))
def r26 : List RV := [.cell 4 2 true, .tmp 5]
theorem n26 : Try.f26.ntmps = 44 := by kernel_rfl
theorem b26 : bodyB Try.prog 26 = true := by kernel_rfl
theorem c26_ok : cmpC Try.prog c26 ((Try.f26.body).getD .skip) = true := by kernel_rfl
theorem r26_ok : cmpR Try.prog r26 Try.f26.results.toList = true := by kernel_rfl
theorem t26 {args : List SV} {res : SV} (ka : KFL args) (kr : KF res) (h : sx Try.prog Y0 0 c26 (st0 args 44) (retK r26 res)) (hA : Nat.ble args.length 44 = true := by rfl) : Ct Try.prog 26 args res := ct_intro Try.func26 rfl b26 c26_ok r26_ok n26 (Nat.le_of_ble_eq_true hA) ka kr h
/- azalai/azalairef01.Thirst -/
def c27 : SC := (.seq (.reg [
  ⟨some 2, .box (.t 0) 0 25, none, []⟩,
  ⟨some 4, .alloc [.int .i64 0, .int .i64 0] 23, none, []⟩,
  ⟨some 5, .mv (.c (.int .i64 0)), none, []⟩])
  (.seq (.seq (.reg [
  ⟨some 8, .ld (.t 2) 17 true, none, []⟩,
  ⟨some 9, .call 61 [.t 8], none, []⟩,
  ⟨some 10, .un .not (.t 9), none, []⟩])
  (.cond (.t 10)
  (.seq (.reg [
   ⟨some 11, .build [.int .i64 0, .int .i64 0] [], none, []⟩,
   ⟨none, .st (.t 4) (.t 11) 2, none, []⟩,
   ⟨some 5, .mv (.c (.int .i64 10)), none, []⟩])
   .ret)
  .skip))
  (.seq (.seq (.reg [
  ⟨some 12, .mv (.t 1), none, []⟩,
  ⟨some 13, .len (.t 12), none, []⟩,
  ⟨some 14, .bin .gtr (.t 13) (.c (.int .i64 30)), none, []⟩])
  (.cond (.t 14)
  (.seq (.reg [
   ⟨some 15, .build [.int .i64 0, .int .i64 0] [], none, []⟩,
   ⟨none, .st (.t 4) (.t 15) 2, none, []⟩,
   ⟨some 5, .mv (.c (.int .i64 4)), none, []⟩])
   .ret)
  .skip))
  (.seq (.reg [
  ⟨some 6, .alloc [.int .i64 0, .int .i64 0] 23, none, []⟩])
  (.seq (.seq (.reg [
  ⟨some 7, .mv (.c (.int .i64 0)), none, []⟩])
  (.block 0 (.loop (.seq (.seq (.reg [
    ⟨some 16, .mv (.t 7), none, []⟩,
    ⟨some 17, .mv (.t 1), none, []⟩,
    ⟨some 18, .len (.t 17), none, []⟩,
    ⟨some 19, .bin .lss (.t 16) (.t 18), none, []⟩])
    (.cond (.t 19)
    .skip
    (.exit 0)))
    (.seq (.block 1 (.seq (.seq (.regd [0, 1, 2, 3, 4, 5, 6] [
     .op ⟨some 22, .ld (.t 2) 17 true, none, []⟩,
     .op ⟨some 23, .mv (.t 1), none, []⟩,
     .op ⟨some 24, .mv (.t 7), none, []⟩,
     .op ⟨some 25, .ixs (.t 23) (.t 24) 7, none, [1, 2]⟩,
     .op ⟨some 26, .ld (.t 25) 7 true, none, [3]⟩,
     .op ⟨some 27, .call 42 [.t 22, .t 26], none, [0, 4]⟩,
     .op ⟨some 28, .un .not (.t 27), none, [5]⟩] 0 0 [
])
     (.cond (.t 28)
     (.seq (.reg [
      ⟨some 29, .build [.int .i64 0, .int .i64 0] [], none, []⟩,
      ⟨none, .st (.t 4) (.t 29) 2, none, []⟩,
      ⟨some 5, .mv (.c (.int .i64 11)), none, []⟩])
      .ret)
     .skip))
     (.seq (.regd [0, 1, 2, 3, 4, 5, 6, 7, 8, 9, 10, 11, 12, 13] [
     .op ⟨some 30, .addo (.t 6) 0, none, []⟩,
     .op ⟨some 31, .ld (.t 30) 1 false, none, [0]⟩,
     .op ⟨some 32, .addo (.t 2) 0, none, []⟩,
     .op ⟨some 33, .ld (.t 32) 1 false, none, [2]⟩,
     .op ⟨some 34, .mv (.t 1), none, []⟩,
     .op ⟨some 35, .mv (.t 7), none, []⟩,
     .op ⟨some 36, .ixs (.t 34) (.t 35) 7, none, [4, 5]⟩,
     .op ⟨some 37, .addo (.t 36) 0, none, [6]⟩,
     .op ⟨some 38, .addo (.t 37) 1, none, [7]⟩,
     .op ⟨some 39, .ld (.t 38) 1 false, none, [8]⟩,
     .op ⟨some 40, .bin .sub (.t 33) (.t 39), none, [3, 9]⟩,
     .op ⟨some 41, .bin .add (.t 31) (.t 40), none, [1, 10]⟩,
     .op ⟨some 42, .addo (.t 6) 0, none, [0, 1, 2, 3, 4, 5, 6, 7, 8, 9, 10, 11]⟩] 0 1 [
     ⟨none, .st (.t 42) (.t 41) 1, none, [0, 1, 2, 3, 4, 5, 6, 7, 8, 9, 10, 11, 12]⟩])
     (.regd [0, 1, 2, 3, 4, 5, 6, 7, 8, 9, 10, 11, 12, 13] [
     .op ⟨some 43, .addo (.t 6) 1, none, []⟩,
     .op ⟨some 44, .ld (.t 43) 1 false, none, [0]⟩,
     .op ⟨some 45, .addo (.t 2) 0, none, []⟩,
     .op ⟨some 46, .ld (.t 45) 1 false, none, [2]⟩,
     .op ⟨some 47, .mv (.t 1), none, []⟩,
     .op ⟨some 48, .mv (.t 7), none, []⟩,
     .op ⟨some 49, .ixs (.t 47) (.t 48) 7, none, [4, 5]⟩,
     .op ⟨some 50, .addo (.t 49) 0, none, [6]⟩,
     .op ⟨some 51, .addo (.t 50) 0, none, [7]⟩,
     .op ⟨some 52, .ld (.t 51) 1 false, none, [8]⟩,
     .op ⟨some 53, .bin .sub (.t 46) (.t 52), none, [3, 9]⟩,
     .op ⟨some 54, .bin .add (.t 44) (.t 53), none, [1, 10]⟩,
     .op ⟨some 55, .addo (.t 6) 1, none, [0, 1, 2, 3, 4, 5, 6, 7, 8, 9, 10, 11]⟩] 0 1 [
     ⟨none, .st (.t 55) (.t 54) 1, none, [0, 1, 2, 3, 4, 5, 6, 7, 8, 9, 10, 11, 12]⟩]))))
    (.reg [
    ⟨some 20, .mv (.t 7), none, []⟩,
    ⟨some 21, .bin .add (.t 20) (.c (.int .i64 1)), none, []⟩,
    ⟨some 7, .mv (.t 21), none, []⟩]))))))
  (.seq (.reg [
  ⟨some 56, .ld (.t 6) 2 true, none, []⟩,
  ⟨none, .st (.t 4) (.t 56) 2, none, []⟩,
  ⟨some 5, .mv (.c (.int .i64 0)), none, []⟩])
  .ret))))))
def r27 : List RV := [.cell 4 2 true, .tmp 5]
theorem n27 : Try.f27.ntmps = 57 := by kernel_rfl
theorem b27 : bodyB Try.prog 27 = true := by kernel_rfl
theorem c27_ok : cmpC Try.prog c27 ((Try.f27.body).getD .skip) = true := by kernel_rfl
theorem r27_ok : cmpR Try.prog r27 Try.f27.results.toList = true := by kernel_rfl
theorem t27 {args : List SV} {res : SV} (ka : KFL args) (kr : KF res) (h : sx Try.prog Y0 0 c27 (st0 args 57) (retK r27 res)) (hA : Nat.ble args.length 57 = true := by rfl) : Ct Try.prog 27 args res := ct_intro Try.func27 rfl b27 c27_ok r27_ok n27 (Nat.le_of_ble_eq_true hA) ka kr h
/- azalai/azalairef01.SameCamels -/
def c28 : SC := (.seq (.reg [
  ⟨some 4, .mv (.c (.bool false)), none, []⟩])
  (.seq (.seq (.reg [
  ⟨some 6, .mv (.t 0), none, []⟩,
  ⟨some 7, .len (.t 6), none, []⟩,
  ⟨some 8, .mv (.t 1), none, []⟩,
  ⟨some 9, .len (.t 8), none, []⟩,
  ⟨some 10, .bin .neq (.t 7) (.t 9), none, []⟩])
  (.cond (.t 10)
  (.seq (.reg [
   ⟨some 4, .mv (.c (.bool false)), none, []⟩])
   .ret)
  .skip))
  (.seq (.seq (.reg [
  ⟨some 5, .mv (.c (.int .i64 0)), none, []⟩])
  (.block 0 (.loop (.seq (.seq (.reg [
    ⟨some 11, .mv (.t 5), none, []⟩,
    ⟨some 12, .mv (.t 0), none, []⟩,
    ⟨some 13, .len (.t 12), none, []⟩,
    ⟨some 14, .bin .lss (.t 11) (.t 13), none, []⟩])
    (.cond (.t 14)
    .skip
    (.exit 0)))
    (.seq (.block 1 (.seq (.regd [0, 1, 2, 3, 4, 5, 6, 7, 8] [
     .op ⟨some 17, .mv (.t 0), none, []⟩,
     .op ⟨some 18, .mv (.t 5), none, []⟩,
     .op ⟨some 19, .ixs (.t 17) (.t 18) 7, none, [0, 1]⟩,
     .op ⟨some 20, .ld (.t 19) 7 true, none, [2]⟩,
     .op ⟨some 21, .mv (.t 1), none, []⟩,
     .op ⟨some 22, .mv (.t 5), none, []⟩,
     .op ⟨some 23, .ixs (.t 21) (.t 22) 7, none, [4, 5]⟩,
     .op ⟨some 24, .ld (.t 23) 7 true, none, [6]⟩,
     .op ⟨some 25, .eqs true true [1, 1, 1, 1, 1, 1, 0] (.t 20) (.t 24), none, [3, 7]⟩] 0 0 [
])
     (.cond (.t 25)
     (.seq (.reg [
      ⟨some 4, .mv (.c (.bool false)), none, []⟩])
      .ret)
     .skip)))
    (.reg [
    ⟨some 15, .mv (.t 5), none, []⟩,
    ⟨some 16, .bin .add (.t 15) (.c (.int .i64 1)), none, []⟩,
    ⟨some 5, .mv (.t 16), none, []⟩]))))))
  (.seq (.reg [
  ⟨some 4, .mv (.c (.bool true)), none, []⟩])
  .ret))))
def r28 : List RV := [.tmp 4]
theorem n28 : Try.f28.ntmps = 26 := by kernel_rfl
theorem b28 : bodyB Try.prog 28 = true := by kernel_rfl
theorem c28_ok : cmpC Try.prog c28 ((Try.f28.body).getD .skip) = true := by kernel_rfl
theorem r28_ok : cmpR Try.prog r28 Try.f28.results.toList = true := by kernel_rfl
theorem t28 {args : List SV} {res : SV} (ka : KFL args) (kr : KF res) (h : sx Try.prog Y0 0 c28 (st0 args 26) (retK r28 res)) (hA : Nat.ble args.length 26 = true := by rfl) : Ct Try.prog 28 args res := ct_intro Try.func28 rfl b28 c28_ok r28_ok n28 (Nat.le_of_ble_eq_true hA) ka kr h
/- azalai/camel.check -/
def c66 : SC := (.seq (.reg [
  ⟨some 3, .box (.t 0) 0 25, none, []⟩,
  ⟨some 4, .box (.t 1) 0 27, none, []⟩,
  ⟨some 6, .mv (.c (.int .i64 0)), none, []⟩])
  (.seq (.seq (.reg [
  ⟨some 8, .ld (.t 3) 17 true, none, []⟩,
  ⟨some 9, .ld (.t 4) 7 true, none, []⟩,
  ⟨some 10, .call 22 [.t 8, .t 9], none, []⟩,
  ⟨some 7, .mv (.t 10), none, []⟩])
  (.seq (.reg [
  ⟨some 11, .mv (.t 7), none, []⟩,
  ⟨some 12, .bin .neq (.t 11) (.c (.int .i64 0)), none, []⟩])
  (.cond (.t 12)
  (.seq (.reg [
   ⟨some 13, .mv (.t 7), none, []⟩,
   ⟨some 6, .mv (.t 13), none, []⟩])
   .ret)
  .skip)))
  (.seq (.seq (.reg [
  ⟨some 14, .mv (.t 2), none, []⟩,
  ⟨some 15, .len (.t 14), none, []⟩,
  ⟨some 16, .bin .gtr (.t 15) (.c (.int .i64 60)), none, []⟩])
  (.cond (.t 16)
  (.seq (.reg [
   ⟨some 6, .mv (.c (.int .i64 4)), none, []⟩])
   .ret)
  .skip))
  (.seq (.reg [
  ⟨some 17, .mv (.t 2), none, []⟩,
  ⟨some 18, .call 59 [.t 17], none, []⟩,
  ⟨some 6, .mv (.t 18), none, []⟩])
  .ret))))
def r66 : List RV := [.tmp 6]
theorem n66 : Try.f66.ntmps = 19 := by kernel_rfl
theorem b66 : bodyB Try.prog 66 = true := by kernel_rfl
theorem c66_ok : cmpC Try.prog c66 ((Try.f66.body).getD .skip) = true := by kernel_rfl
theorem r66_ok : cmpR Try.prog r66 Try.f66.results.toList = true := by kernel_rfl
theorem t66 {args : List SV} {res : SV} (ka : KFL args) (kr : KF res) (h : sx Try.prog Y0 0 c66 (st0 args 19) (retK r66 res)) (hA : Nat.ble args.length 19 = true := by rfl) : Ct Try.prog 66 args res := ct_intro Try.func66 rfl b66 c66_ok r66_ok n66 (Nat.le_of_ble_eq_true hA) ka kr h
/- azalai/camel.Heaviest$1 -/
def c67 : SC := (.seq (.reg [
  ⟨some 5, .mv (.c (.bool false)), none, []⟩])
  (.seq (.reg [
  ⟨some 11, .ld (.t 1) 17 true, none, []⟩,
  ⟨some 12, .ld (.t 2) 7 true, none, []⟩,
  ⟨some 13, .build [.int .i64 0, .int .i64 0, .int .i64 0, .int .i64 0, .int .i64 0, .int .i64 0, .int .i64 0, .int .i64 0, .int .i64 0, .int .i64 0, .int .i64 0, .int .i64 0, .int .i64 0, .int .i64 0, .int .i64 0, .int .i64 0, .int .i64 0, .int .i64 0, .int .i64 0, .int .i64 0, .int .i64 0, .int .i64 0, .int .i64 0, .bool false] [(0, 17, .t 11), (17, 7, .t 12)], none, []⟩,
  ⟨some 6, .alloc [.int .i64 0, .int .i64 0, .int .i64 0, .int .i64 0, .int .i64 0, .int .i64 0, .int .i64 0, .int .i64 0, .int .i64 0, .int .i64 0, .int .i64 0, .int .i64 0, .int .i64 0, .int .i64 0, .int .i64 0, .int .i64 0, .int .i64 0, .int .i64 0, .int .i64 0, .int .i64 0, .int .i64 0, .int .i64 0, .int .i64 0, .bool false] 107, none, []⟩,
  ⟨none, .st (.t 6) (.t 13) 24, none, []⟩])
  (.seq (.seq (.reg [
  ⟨some 14, .ld (.t 3) 1 false, none, []⟩,
  ⟨some 15, .len (.t 14), none, []⟩,
  ⟨some 16, .mv (.c (.int .i64 0)), none, []⟩])
  (.block 0 (.loop (.seq (.reg [
    ⟨some 17, .bin .lss (.t 16) (.t 15), none, []⟩])
    (.seq (.cond (.t 17)
    .skip
    (.exit 0))
    (.seq (.block 1 (.seq (.reg [
     ⟨some 18, .ixs (.t 14) (.t 16) 8, none, []⟩,
     ⟨some 19, .ld (.t 18) 8 true, none, []⟩,
     ⟨some 8, .alloc [.int .i64 0, .int .i64 0, .int .i64 0, .int .i64 0, .int .i64 0, .int .i64 0, .int .i64 0, .int .i64 0] 29, none, []⟩,
     ⟨none, .st (.t 8) (.t 19) 8, none, []⟩])
     (.seq (.seq (.reg [
     ⟨some 20, .mv (.t 0), none, []⟩,
     ⟨some 21, .addo (.t 8) 1, none, []⟩,
     ⟨none, .st (.t 21) (.t 20) 1, none, []⟩])
     (.seq (.reg [
     ⟨some 22, .addo (.t 8) 0, none, []⟩,
     ⟨some 23, .ld (.t 22) 1 false, none, []⟩,
     ⟨some 24, .bin .gtr (.t 23) (.c (.int .i64 0)), none, []⟩,
     ⟨some 25, .mv (.t 24), none, []⟩,
     ⟨some 26, .ld (.t 6) 24 true, some (25, true), []⟩,
     ⟨some 27, .call 57 [.t 26], some (25, true), []⟩,
     ⟨some 28, .fld (.t 27) 0 1 false, some (25, true), []⟩,
     ⟨some 29, .mv (.t 0), some (25, true), []⟩,
     ⟨some 30, .bin .lss (.t 28) (.t 29), some (25, true), []⟩,
     ⟨some 31, .pick (.t 25) (.t 30) (.c (.bool false)), none, []⟩])
     (.cond (.t 31)
     (.seq (.reg [
      ⟨some 5, .mv (.c (.bool false)), none, []⟩])
      .ret)
     .skip)))
     (.seq (.reg [
     ⟨some 33, .ld (.t 6) 24 true, none, []⟩,
     ⟨some 34, .ld (.t 8) 8 true, none, []⟩,
     ⟨some 35, .call 68 [.t 33, .t 34], none, []⟩,
     ⟨some 32, .mv (.t 35), none, []⟩,
     ⟨some 36, .ext (.t 32) 0, none, []⟩,
     ⟨some 37, .ext (.t 32) 1, none, []⟩,
     ⟨some 9, .alloc [.int .i64 0, .int .i64 0, .int .i64 0, .int .i64 0, .int .i64 0, .int .i64 0, .int .i64 0, .int .i64 0, .int .i64 0, .int .i64 0, .int .i64 0, .int .i64 0, .int .i64 0, .int .i64 0, .int .i64 0, .int .i64 0, .int .i64 0, .int .i64 0, .int .i64 0, .int .i64 0, .int .i64 0, .int .i64 0, .int .i64 0, .bool false] 107, none, []⟩,
     ⟨none, .st (.t 9) (.t 36) 24, none, []⟩,
     ⟨some 10, .mv (.t 37), none, []⟩])
     (.seq (.seq (.reg [
     ⟨some 38, .mv (.t 10), none, []⟩,
     ⟨some 39, .bin .neq (.t 38) (.c (.int .u8 0)), none, []⟩])
     (.cond (.t 39)
     (.seq (.reg [
      ⟨some 5, .mv (.c (.bool false)), none, []⟩])
      .ret)
     .skip))
     (.reg [
     ⟨some 40, .ld (.t 9) 24 true, none, []⟩,
     ⟨none, .st (.t 6) (.t 40) 24, none, []⟩]))))))
    (.reg [
    ⟨some 41, .bin .add (.t 16) (.c (.int .i64 1)), none, []⟩,
    ⟨some 16, .mv (.t 41), none, []⟩])))))))
  (.seq (.reg [
  ⟨some 5, .mv (.c (.bool true)), none, []⟩])
  .ret))))
def r67 : List RV := [.tmp 5]
theorem n67 : Try.f67.ntmps = 42 := by kernel_rfl
theorem b67 : bodyB Try.prog 67 = true := by kernel_rfl
theorem c67_ok : cmpC Try.prog c67 ((Try.f67.body).getD .skip) = true := by kernel_rfl
theorem r67_ok : cmpR Try.prog r67 Try.f67.results.toList = true := by kernel_rfl
theorem t67 {args : List SV} {res : SV} (ka : KFL args) (kr : KF res) (h : sx Try.prog Y0 0 c67 (st0 args 42) (retK r67 res)) (hA : Nat.ble args.length 42 = true := by rfl) : Ct Try.prog 67 args res := ct_intro Try.func67 rfl b67 c67_ok r67_ok n67 (Nat.le_of_ble_eq_true hA) ka kr h
/- (azalai/camel.beast).day -/
def c68 : SC := (.seq (.reg [
  ⟨some 2, .box (.t 0) 0 107, none, []⟩,
  ⟨some 3, .box (.t 1) 0 29, none, []⟩,
  ⟨some 4, .alloc [.int .i64 0, .int .i64 0, .int .i64 0, .int .i64 0, .int .i64 0, .int .i64 0, .int .i64 0, .int .i64 0, .int .i64 0, .int .i64 0, .int .i64 0, .int .i64 0, .int .i64 0, .int .i64 0, .int .i64 0, .int .i64 0, .int .i64 0, .int .i64 0, .int .i64 0, .int .i64 0, .int .i64 0, .int .i64 0, .int .i64 0, .bool false] 107, none, []⟩,
  ⟨some 5, .mv (.c (.int .u8 0)), none, []⟩])
  (.seq (.reg [
  ⟨some 16, .addo (.t 2) 17, none, []⟩,
  ⟨some 17, .addo (.t 16) 0, none, []⟩,
  ⟨some 18, .addo (.t 2) 17, none, []⟩,
  ⟨some 19, .addo (.t 18) 2, none, []⟩,
  ⟨some 20, .build [.pointer none, .pointer none] [(0, 1, .t 17), (1, 1, .t 19)], none, []⟩,
  ⟨some 6, .alloc [.pointer none, .pointer none] 151, none, []⟩,
  ⟨none, .st (.t 6) (.t 20) 2, none, []⟩])
  (.seq (.regd [0, 1, 2, 3, 4, 5, 6, 7, 8, 9, 10, 11, 12, 13, 14, 15] [
  .op ⟨some 21, .addo (.t 2) 0, none, []⟩,
  .op ⟨some 22, .addo (.t 21) 0, none, [0]⟩,
  .op ⟨some 23, .ld (.t 22) 1 false, none, [1]⟩,
  .op ⟨some 24, .addo (.t 2) 0, none, []⟩,
  .op ⟨some 25, .addo (.t 24) 1, none, [3]⟩,
  .op ⟨some 26, .ld (.t 25) 1 false, none, [4]⟩,
  .op ⟨some 27, .build [.int .i64 0, .int .i64 0] [(0, 1, .t 23), (1, 1, .t 26)], none, [2, 5]⟩,
  .op ⟨some 28, .addo (.t 3) 6, none, []⟩,
  .op ⟨some 29, .ld (.t 28) 2 true, none, [7]⟩,
  .op ⟨some 30, .addo (.t 3) 4, none, []⟩,
  .op ⟨some 31, .ld (.t 30) 2 true, none, [9]⟩,
  .op ⟨some 32, .build [.int .i64 0, .int .i64 0, .int .i64 0, .int .i64 0] [(0, 2, .t 29), (2, 2, .t 31)], none, [8, 10]⟩] 2 2 [
  ⟨some 7, .alloc [.int .i64 0, .int .i64 0] 97, none, []⟩,
  ⟨some 8, .alloc [.int .i64 0, .int .i64 0, .int .i64 0, .int .i64 0] 112, none, []⟩,
  ⟨none, .st (.t 7) (.t 27) 2, none, [0, 1, 2, 3, 4, 5, 6, 12, 13]⟩,
  ⟨none, .st (.t 8) (.t 32) 4, none, [0, 1, 2, 3, 4, 5, 6, 7, 8, 9, 10, 11, 12, 13, 14]⟩])
  (.seq (.reg [
  ⟨some 9, .mv (.c (.int .u8 0)), none, []⟩])
  (.seq (.seq (.reg [
  ⟨some 33, .addo (.t 2) 0, none, []⟩,
  ⟨some 34, .ld (.t 33) 17 true, none, []⟩,
  ⟨some 35, .addo (.t 2) 17, none, []⟩,
  ⟨some 36, .addo (.t 35) 6, none, []⟩,
  ⟨some 37, .ld (.t 36) 1 false, none, []⟩,
  ⟨some 38, .ld (.t 3) 8 true, none, []⟩,
  ⟨some 39, .call 60 [.t 34, .t 37, .t 38], none, []⟩,
  ⟨some 40, .mv (.c (.int .i64 0)), none, []⟩])
  (.block 0 (.loop (.seq (.reg [
    ⟨some 41, .bin .lss (.t 40) (.c (.int .i64 2)), none, []⟩])
    (.seq (.cond (.t 41)
    .skip
    (.exit 0))
    (.seq (.block 1 (.seq (.reg [
     ⟨some 42, .mv (.t 40), none, []⟩,
     ⟨some 43, .idx (.t 39) (.t 40) 2 2 true, none, []⟩,
     ⟨some 11, .alloc [.int .i64 0, .int .i64 0] 23, none, []⟩,
     ⟨some 10, .mv (.t 42), none, []⟩,
     ⟨none, .st (.t 11) (.t 43) 2, none, []⟩])
     (.seq (.reg [
     ⟨some 44, .mv (.t 10), none, []⟩,
     ⟨some 45, .ixa (.t 6) (.t 44) 2 1, none, []⟩,
     ⟨some 46, .ld (.t 45) 1 false, none, []⟩,
     ⟨some 12, .mv (.t 46), none, []⟩])
     (.seq (.block 2 (.seq (.regd [0, 1, 2, 3, 4, 5, 6, 7] [
      .op ⟨some 48, .mv (.t 12), none, []⟩,
      .op ⟨some 49, .nilc (.t 48), none, [0]⟩,
      .op ⟨some 50, .addo (.t 49) 1, none, [1]⟩,
      .op ⟨some 51, .ld (.t 50) 1 false, none, [2]⟩,
      .op ⟨some 52, .addo (.t 11) 0, none, []⟩,
      .op ⟨some 53, .ld (.t 52) 1 false, none, [4]⟩,
      .op ⟨some 54, .bin .lss (.t 51) (.t 53), none, [3, 5]⟩,
      .op ⟨some 47, .mv (.t 54), none, [6]⟩] 0 0 [
])
      (.cond (.t 47)
      (.seq (.reg [
       ⟨some 55, .build [.int .i64 0, .int .i64 0, .int .i64 0, .int .i64 0, .int .i64 0, .int .i64 0, .int .i64 0, .int .i64 0, .int .i64 0, .int .i64 0, .int .i64 0, .int .i64 0, .int .i64 0, .int .i64 0, .int .i64 0, .int .i64 0, .int .i64 0, .int .i64 0, .int .i64 0, .int .i64 0, .int .i64 0, .int .i64 0, .int .i64 0, .bool false] [], none, []⟩,
       ⟨none, .st (.t 4) (.t 55) 24, none, []⟩,
       ⟨some 5, .mv (.c (.int .u8 2)), none, []⟩])
       .ret)
      (.seq (.regd [0, 1, 2, 3, 4, 5, 6, 7] [
       .op ⟨some 57, .mv (.t 12), none, []⟩,
       .op ⟨some 58, .nilc (.t 57), none, [0]⟩,
       .op ⟨some 59, .addo (.t 58) 0, none, [1]⟩,
       .op ⟨some 60, .ld (.t 59) 1 false, none, [2]⟩,
       .op ⟨some 61, .addo (.t 11) 1, none, []⟩,
       .op ⟨some 62, .ld (.t 61) 1 false, none, [4]⟩,
       .op ⟨some 63, .bin .lss (.t 60) (.t 62), none, [3, 5]⟩,
       .op ⟨some 56, .mv (.t 63), none, [6]⟩] 0 0 [
])
       (.cond (.t 56)
       (.reg [
        ⟨some 9, .mv (.c (.int .u8 1)), none, []⟩])
       .skip)))))
     (.seq (.regd [0, 1, 2, 3, 4, 5, 6, 7, 8, 9, 10, 11, 12, 13, 14, 15, 16, 17, 18, 19, 20, 21, 22] [
     .op ⟨some 64, .mv (.t 12), none, []⟩,
     .op ⟨some 65, .nilc (.t 64), none, [0]⟩,
     .op ⟨some 66, .addo (.t 65) 0, none, [1]⟩,
     .op ⟨some 67, .ld (.t 66) 1 false, none, [2]⟩,
     .op ⟨some 68, .addo (.t 11) 1, none, []⟩,
     .op ⟨some 69, .ld (.t 68) 1 false, none, [4]⟩,
     .op ⟨some 70, .bin .sub (.t 67) (.t 69), none, [3, 5]⟩,
     .op ⟨some 71, .mm true [.c (.int .i64 0), .t 70], none, [6]⟩,
     .op ⟨some 72, .mv (.t 12), none, []⟩,
     .op ⟨some 73, .nilc (.t 72), none, [8]⟩,
     .op ⟨some 74, .addo (.t 73) 1, none, [9]⟩,
     .op ⟨some 75, .ld (.t 74) 1 false, none, [10]⟩,
     .op ⟨some 76, .addo (.t 11) 0, none, []⟩,
     .op ⟨some 77, .ld (.t 76) 1 false, none, [12]⟩,
     .op ⟨some 78, .bin .sub (.t 75) (.t 77), none, [11, 13]⟩,
     .op ⟨some 79, .build [.int .i64 0, .int .i64 0] [(0, 1, .t 71), (1, 1, .t 78)], none, [7, 14]⟩,
     .op ⟨some 80, .mv (.t 10), none, []⟩,
     .op ⟨some 81, .ixa (.t 8) (.t 80) 2 2, none, [16]⟩,
     .op ⟨some 82, .ld (.t 81) 2 true, none, [17]⟩,
     .op ⟨some 83, .bsl 2 23 [.t 79, .t 82], none, [15, 18]⟩,
     .op ⟨some 84, .call 72 [.t 83], none, [19]⟩] 1 1 [
     ⟨some 13, .alloc [.int .i64 0, .int .i64 0] 23, none, []⟩,
     ⟨none, .st (.t 13) (.t 84) 2, none, [0, 1, 2, 3, 4, 5, 6, 7, 8, 9, 10, 11, 12, 13, 14, 15, 16, 17, 18, 19, 20, 21]⟩])
     (.regd [0, 1, 2, 3, 4, 5, 6, 7, 8, 9, 10, 11, 12, 13, 14, 15] [
     .op ⟨some 85, .mv (.t 12), none, []⟩,
     .op ⟨some 86, .mv (.t 10), none, []⟩,
     .op ⟨some 87, .ixa (.t 7) (.t 86) 2 1, none, [1]⟩,
     .op ⟨some 88, .ld (.t 87) 1 false, none, [2]⟩,
     .op ⟨some 89, .addo (.t 13) 0, none, []⟩,
     .op ⟨some 90, .ld (.t 89) 1 false, none, [4]⟩,
     .op ⟨some 91, .mm false [.t 88, .t 90], none, [3, 5]⟩,
     .op ⟨some 92, .mv (.t 10), none, []⟩,
     .op ⟨some 93, .ixa (.t 7) (.t 92) 2 1, none, [7]⟩,
     .op ⟨some 94, .ld (.t 93) 1 false, none, [8]⟩,
     .op ⟨some 95, .addo (.t 13) 1, none, []⟩,
     .op ⟨some 96, .ld (.t 95) 1 false, none, [10]⟩,
     .op ⟨some 97, .mm false [.t 94, .t 96], none, [9, 11]⟩,
     .op ⟨some 98, .build [.int .i64 0, .int .i64 0] [(0, 1, .t 91), (1, 1, .t 97)], none, [6, 12]⟩,
     .op ⟨some 99, .nilc (.t 85), none, [0, 1, 2, 3, 4, 5, 6, 7, 8, 9, 10, 11, 12, 13]⟩] 0 1 [
     ⟨none, .st (.t 99) (.t 98) 2, none, [0, 1, 2, 3, 4, 5, 6, 7, 8, 9, 10, 11, 12, 13, 14]⟩]))))))
    (.reg [
    ⟨some 100, .bin .add (.t 40) (.c (.int .i64 1)), none, []⟩,
    ⟨some 40, .mv (.t 100), none, []⟩])))))))
  (.seq (.reg [
  ⟨some 101, .addo (.t 2) 17, none, []⟩,
  ⟨some 102, .addo (.t 101) 4, none, []⟩,
  ⟨some 14, .mv (.t 102), none, []⟩])
  (.seq (.seq (.reg [
  ⟨some 103, .addo (.t 3) 0, none, []⟩,
  ⟨some 104, .ld (.t 103) 1 false, none, []⟩,
  ⟨some 105, .bin .eql (.t 104) (.c (.int .i64 0)), none, []⟩])
  (.cond (.t 105)
  (.seq (.regd [0, 1, 2, 3, 4, 5, 6, 7, 8, 9, 10, 11, 12, 13, 14, 15, 16, 17, 18, 19, 20, 21] [
   .op ⟨some 106, .mv (.t 14), none, []⟩,
   .op ⟨some 107, .mv (.t 14), none, []⟩,
   .op ⟨some 108, .nilc (.t 107), none, [1]⟩,
   .op ⟨some 109, .addo (.t 108) 0, none, [2]⟩,
   .op ⟨some 110, .ld (.t 109) 1 false, none, [3]⟩,
   .op ⟨some 111, .addo (.t 2) 0, none, []⟩,
   .op ⟨some 112, .addo (.t 111) 14, none, [5]⟩,
   .op ⟨some 113, .ld (.t 112) 1 false, none, [6]⟩,
   .op ⟨some 114, .bin .sub (.t 110) (.t 113), none, [4, 7]⟩,
   .op ⟨some 115, .mm true [.c (.int .i64 0), .t 114], none, [8]⟩,
   .op ⟨some 116, .mv (.t 14), none, []⟩,
   .op ⟨some 117, .nilc (.t 116), none, [10]⟩,
   .op ⟨some 118, .addo (.t 117) 1, none, [11]⟩,
   .op ⟨some 119, .ld (.t 118) 1 false, none, [12]⟩,
   .op ⟨some 120, .addo (.t 2) 0, none, []⟩,
   .op ⟨some 121, .addo (.t 120) 14, none, [14]⟩,
   .op ⟨some 122, .ld (.t 121) 1 false, none, [15]⟩,
   .op ⟨some 123, .bin .sub (.t 119) (.t 122), none, [13, 16]⟩,
   .op ⟨some 124, .mm true [.c (.int .i64 0), .t 123], none, [17]⟩,
   .op ⟨some 125, .build [.int .i64 0, .int .i64 0] [(0, 1, .t 115), (1, 1, .t 124)], none, [9, 18]⟩,
   .op ⟨some 126, .nilc (.t 106), none, [0, 1, 2, 3, 4, 5, 6, 7, 8, 9, 10, 11, 12, 13, 14, 15, 16, 17, 18, 19]⟩] 0 1 [
   ⟨none, .st (.t 126) (.t 125) 2, none, [0, 1, 2, 3, 4, 5, 6, 7, 8, 9, 10, 11, 12, 13, 14, 15, 16, 17, 18, 19, 20]⟩])
   (.seq (.reg [
   ⟨some 127, .ld (.t 2) 24 true, none, []⟩,
   ⟨some 128, .mv (.t 9), none, []⟩,
   ⟨none, .st (.t 4) (.t 127) 24, none, []⟩,
   ⟨some 5, .mv (.t 128), none, []⟩])
   .ret))
  .skip))
  (.seq (.regd [0, 1, 2, 3, 4, 5, 6, 7, 8, 9, 10, 11, 12, 13, 14, 15] [
  .op ⟨some 129, .mv (.t 14), none, []⟩,
  .op ⟨some 130, .nilc (.t 129), none, [0]⟩,
  .op ⟨some 131, .ld (.t 130) 2 true, none, [1]⟩,
  .op ⟨some 132, .addo (.t 2) 0, none, []⟩,
  .op ⟨some 133, .addo (.t 132) 10, none, [3]⟩,
  .op ⟨some 134, .ld (.t 133) 2 true, none, [4]⟩,
  .op ⟨some 135, .addo (.t 3) 0, none, []⟩,
  .op ⟨some 136, .ld (.t 135) 1 false, none, [6]⟩,
  .op ⟨some 137, .addo (.t 3) 1, none, []⟩,
  .op ⟨some 138, .ld (.t 137) 1 false, none, [8]⟩,
  .op ⟨some 139, .bsl 1 3 [.t 136, .t 138], none, [7, 9]⟩,
  .op ⟨some 140, .call 89 [.t 134, .c (.int .i64 1000000), .t 139], none, [5, 10]⟩,
  .op ⟨some 141, .bsl 2 23 [.t 131, .t 140], none, [2, 11]⟩,
  .op ⟨some 142, .call 72 [.t 141], none, [11, 12]⟩] 1 1 [
  ⟨some 15, .alloc [.int .i64 0, .int .i64 0] 23, none, []⟩,
  ⟨none, .st (.t 15) (.t 142) 2, none, [0, 1, 2, 3, 4, 5, 6, 7, 8, 9, 10, 11, 12, 13, 14]⟩])
  (.seq (.reg [
  ⟨some 143, .mv (.t 14), none, []⟩,
  ⟨some 144, .addo (.t 15) 0, none, []⟩,
  ⟨some 145, .ld (.t 144) 1 false, none, []⟩,
  ⟨some 146, .mm false [.c (.int .i64 1000), .t 145], none, []⟩,
  ⟨some 147, .addo (.t 15) 1, none, []⟩,
  ⟨some 148, .ld (.t 147) 1 false, none, []⟩,
  ⟨some 149, .mm false [.c (.int .i64 1000), .t 148], none, []⟩,
  ⟨some 150, .build [.int .i64 0, .int .i64 0] [(0, 1, .t 146), (1, 1, .t 149)], none, []⟩,
  ⟨some 151, .nilc (.t 143), none, []⟩,
  ⟨none, .st (.t 151) (.t 150) 2, none, []⟩])
  (.seq (.reg [
  ⟨some 152, .ld (.t 2) 24 true, none, []⟩,
  ⟨some 153, .mv (.t 9), none, []⟩,
  ⟨none, .st (.t 4) (.t 152) 24, none, []⟩,
  ⟨some 5, .mv (.t 153), none, []⟩])
  .ret))))))))))
def r68 : List RV := [.cell 4 24 true, .tmp 5]
theorem n68 : Try.f68.ntmps = 154 := by kernel_rfl
theorem b68 : bodyB Try.prog 68 = true := by kernel_rfl
theorem c68_ok : cmpC Try.prog c68 ((Try.f68.body).getD .skip) = true := by kernel_rfl
theorem r68_ok : cmpR Try.prog r68 Try.f68.results.toList = true := by kernel_rfl
theorem t68 {args : List SV} {res : SV} (ka : KFL args) (kr : KF res) (h : sx Try.prog Y0 0 c68 (st0 args 154) (retK r68 res)) (hA : Nat.ble args.length 154 = true := by rfl) : Ct Try.prog 68 args res := ct_intro Try.func68 rfl b68 c68_ok r68_ok n68 (Nat.le_of_ble_eq_true hA) ka kr h
/- azalai/camel.greatest[int] -/
def c69 : SC := (.seq (.reg [
  ⟨some 6, .mv (.c (.int .i64 0)), none, []⟩])
  (.seq (.block 0 (.loop (.seq (.seq (.reg [
    ⟨some 8, .mv (.t 0), none, []⟩,
    ⟨some 9, .mv (.t 1), none, []⟩,
    ⟨some 10, .bin .lss (.t 8) (.t 9), none, []⟩])
    (.cond (.t 10)
    .skip
    (.exit 0)))
    (.block 1 (.seq (.reg [
     ⟨some 11, .mv (.t 1), none, []⟩,
     ⟨some 12, .mv (.t 1), none, []⟩,
     ⟨some 13, .mv (.t 0), none, []⟩,
     ⟨some 14, .bin .sub (.t 12) (.t 13), none, []⟩,
     ⟨some 15, .div .quo (.t 14) (.c (.int .i64 2)), none, []⟩,
     ⟨some 16, .bin .sub (.t 11) (.t 15), none, []⟩,
     ⟨some 7, .mv (.t 16), none, []⟩])
     (.seq (.reg [
     ⟨some 17, .mv (.t 2), none, []⟩,
     ⟨some 18, .mv (.t 7), none, []⟩,
     ⟨some 19, .calv (.t 17) [.t 18], none, []⟩])
     (.cond (.t 19)
     (.reg [
      ⟨some 20, .mv (.t 7), none, []⟩,
      ⟨some 0, .mv (.t 20), none, []⟩])
     (.reg [
      ⟨some 21, .mv (.t 7), none, []⟩,
      ⟨some 22, .bin .sub (.t 21) (.c (.int .i64 1)), none, []⟩,
      ⟨some 1, .mv (.t 22), none, []⟩]))))))))
  (.seq (.reg [
  ⟨some 23, .mv (.t 0), none, []⟩,
  ⟨some 6, .mv (.t 23), none, []⟩])
  .ret)))
def r69 : List RV := [.tmp 6]
theorem n69 : Try.f69.ntmps = 24 := by kernel_rfl
theorem b69 : bodyB Try.prog 69 = true := by kernel_rfl
theorem c69_ok : cmpC Try.prog c69 ((Try.f69.body).getD .skip) = true := by kernel_rfl
theorem r69_ok : cmpR Try.prog r69 Try.f69.results.toList = true := by kernel_rfl
theorem t69 {args : List SV} {res : SV} (ka : KFL args) (kr : KF res) (h : sx Try.prog Y0 0 c69 (st0 args 24) (retK r69 res)) (hA : Nat.ble args.length 24 = true := by rfl) : Ct Try.prog 69 args res := ct_intro Try.func69 rfl b69 c69_ok r69_ok n69 (Nat.le_of_ble_eq_true hA) ka kr h
/- azalai/azalairef01.asked -/
def c70 : SC := (.seq (.reg [
  ⟨some 3, .box (.t 0) 0 25, none, []⟩,
  ⟨some 4, .box (.t 1) 0 27, none, []⟩,
  ⟨some 6, .mv (.c (.int .i64 0)), none, []⟩])
  (.seq (.seq (.reg [
  ⟨some 9, .ld (.t 3) 17 true, none, []⟩,
  ⟨some 10, .ld (.t 4) 7 true, none, []⟩,
  ⟨some 11, .call 23 [.t 9, .t 10], none, []⟩,
  ⟨some 7, .mv (.t 11), none, []⟩])
  (.seq (.reg [
  ⟨some 12, .mv (.t 7), none, []⟩,
  ⟨some 13, .bin .neq (.t 12) (.c (.int .i64 0)), none, []⟩])
  (.cond (.t 13)
  (.seq (.reg [
   ⟨some 14, .mv (.t 7), none, []⟩,
   ⟨some 6, .mv (.t 14), none, []⟩])
   .ret)
  .skip)))
  (.seq (.seq (.reg [
  ⟨some 15, .mv (.t 2), none, []⟩,
  ⟨some 16, .len (.t 15), none, []⟩,
  ⟨some 17, .bin .gtr (.t 16) (.c (.int .i64 60)), none, []⟩])
  (.cond (.t 17)
  (.seq (.reg [
   ⟨some 6, .mv (.c (.int .i64 4)), none, []⟩])
   .ret)
  .skip))
  (.seq (.seq (.reg [
  ⟨some 8, .mv (.c (.int .i64 0)), none, []⟩])
  (.block 0 (.loop (.seq (.seq (.reg [
    ⟨some 18, .mv (.t 8), none, []⟩,
    ⟨some 19, .mv (.t 2), none, []⟩,
    ⟨some 20, .len (.t 19), none, []⟩,
    ⟨some 21, .bin .lss (.t 18) (.t 20), none, []⟩])
    (.cond (.t 21)
    .skip
    (.exit 0)))
    (.seq (.block 1 (.seq (.reg [
     ⟨some 24, .mv (.t 2), none, []⟩,
     ⟨some 25, .mv (.t 8), none, []⟩,
     ⟨some 26, .ixs (.t 24) (.t 25) 8, none, []⟩,
     ⟨some 27, .ld (.t 26) 8 true, none, []⟩,
     ⟨some 28, .call 62 [.t 27], none, []⟩,
     ⟨some 29, .un .not (.t 28), none, []⟩])
     (.cond (.t 29)
     (.seq (.reg [
      ⟨some 6, .mv (.c (.int .i64 12)), none, []⟩])
      .ret)
     .skip)))
    (.reg [
    ⟨some 22, .mv (.t 8), none, []⟩,
    ⟨some 23, .bin .add (.t 22) (.c (.int .i64 1)), none, []⟩,
    ⟨some 8, .mv (.t 23), none, []⟩]))))))
  (.seq (.reg [
  ⟨some 6, .mv (.c (.int .i64 0)), none, []⟩])
  .ret)))))
def r70 : List RV := [.tmp 6]
theorem n70 : Try.f70.ntmps = 30 := by kernel_rfl
theorem b70 : bodyB Try.prog 70 = true := by kernel_rfl
theorem c70_ok : cmpC Try.prog c70 ((Try.f70.body).getD .skip) = true := by kernel_rfl
theorem r70_ok : cmpR Try.prog r70 Try.f70.results.toList = true := by kernel_rfl
theorem t70 {args : List SV} {res : SV} (ka : KFL args) (kr : KF res) (h : sx Try.prog Y0 0 c70 (st0 args 30) (retK r70 res)) (hA : Nat.ble args.length 30 = true := by rfl) : Ct Try.prog 70 args res := ct_intro Try.func70 rfl b70 c70_ok r70_ok n70 (Nat.le_of_ble_eq_true hA) ka kr h
/- azalai/azalairef01.bears -/
def c71 : SC := (.seq (.reg [
  ⟨some 4, .box (.t 0) 0 25, none, []⟩,
  ⟨some 5, .box (.t 1) 0 27, none, []⟩,
  ⟨some 8, .mv (.c (.bool false)), none, []⟩])
  (.seq (.seq (.reg [
  ⟨some 9, .mv (.c (.int .i64 0)), none, []⟩])
  (.block 0 (.loop (.seq (.seq (.reg [
    ⟨some 13, .mv (.t 9), none, []⟩,
    ⟨some 14, .mv (.t 2), none, []⟩,
    ⟨some 15, .len (.t 14), none, []⟩,
    ⟨some 16, .bin .lss (.t 13) (.t 15), none, []⟩])
    (.cond (.t 16)
    .skip
    (.exit 0)))
    (.seq (.block 1 (.seq (.reg [
     ⟨some 19, .mv (.t 2), none, []⟩,
     ⟨some 20, .mv (.t 9), none, []⟩,
     ⟨some 21, .ixs (.t 19) (.t 20) 8, none, []⟩,
     ⟨some 22, .ld (.t 21) 8 true, none, []⟩,
     ⟨some 10, .alloc [.int .i64 0, .int .i64 0, .int .i64 0, .int .i64 0, .int .i64 0, .int .i64 0, .int .i64 0, .int .i64 0] 29, none, []⟩,
     ⟨none, .st (.t 10) (.t 22) 8, none, []⟩])
     (.seq (.reg [
     ⟨some 23, .mv (.t 3), none, []⟩,
     ⟨some 24, .addo (.t 10) 1, none, []⟩,
     ⟨none, .st (.t 24) (.t 23) 1, none, []⟩])
     (.seq (.seq (.regd [0, 1, 2, 3, 4, 5, 6, 7, 8, 9, 10, 11, 12, 13, 14, 15] [
     .op ⟨some 25, .addo (.t 10) 0, none, []⟩,
     .op ⟨some 26, .ld (.t 25) 1 false, none, [0]⟩,
     .op ⟨some 27, .bin .gtr (.t 26) (.c (.int .i64 0)), none, [1]⟩,
     .op ⟨some 28, .mv (.t 27), none, [2]⟩,
     .op ⟨some 29, .mv (.t 3), some (28, true), [3]⟩,
     .op ⟨some 30, .addo (.t 4) 15, some (28, true), [3]⟩,
     .op ⟨some 31, .addo (.t 30) 0, some (28, true), [3, 5]⟩,
     .op ⟨some 32, .ld (.t 31) 1 false, some (28, true), [3, 6]⟩,
     .op ⟨some 33, .ld (.t 4) 17 true, some (28, true), [3]⟩,
     .op ⟨some 34, .ld (.t 5) 7 true, some (28, true), [3]⟩,
     .op ⟨some 35, .call 56 [.t 33, .t 34], some (28, true), [3, 8, 9]⟩,
     .op ⟨some 36, .fld (.t 35) 0 1 false, some (28, true), [3, 10]⟩,
     .op ⟨some 37, .bin .mul (.t 32) (.t 36), some (28, true), [3, 7, 11]⟩,
     .op ⟨some 38, .div .quo (.t 37) (.c (.int .i64 1000)), some (28, true), [3, 12]⟩,
     .op ⟨some 39, .bin .gtr (.t 29) (.t 38), some (28, true), [3, 4, 13]⟩,
     .op ⟨some 40, .pick (.t 28) (.t 39) (.c (.bool false)), none, [3, 14]⟩] 0 0 [
])
     (.cond (.t 40)
     (.seq (.reg [
      ⟨some 8, .mv (.c (.bool false)), none, []⟩])
      .ret)
     .skip))
     (.seq (.reg [
     ⟨some 42, .ld (.t 4) 17 true, none, []⟩,
     ⟨some 43, .ld (.t 5) 7 true, none, []⟩,
     ⟨some 44, .ld (.t 10) 8 true, none, []⟩,
     ⟨some 45, .call 74 [.t 42, .t 43, .t 44], none, []⟩,
     ⟨some 41, .mv (.t 45), none, []⟩,
     ⟨some 46, .ext (.t 41) 0, none, []⟩,
     ⟨some 47, .ext (.t 41) 1, none, []⟩,
     ⟨some 11, .alloc [.int .i64 0, .int .i64 0, .int .i64 0, .int .i64 0, .int .i64 0, .int .i64 0, .bool false] 27, none, []⟩,
     ⟨none, .st (.t 11) (.t 46) 7, none, []⟩,
     ⟨some 12, .mv (.t 47), none, []⟩])
     (.seq (.seq (.reg [
     ⟨some 48, .mv (.t 12), none, []⟩,
     ⟨some 49, .bin .neq (.t 48) (.c (.int .i64 0)), none, []⟩])
     (.cond (.t 49)
     (.seq (.reg [
      ⟨some 8, .mv (.c (.bool false)), none, []⟩])
      .ret)
     .skip))
     (.reg [
     ⟨some 50, .ld (.t 11) 7 true, none, []⟩,
     ⟨none, .st (.t 5) (.t 50) 7, none, []⟩])))))))
    (.reg [
    ⟨some 17, .mv (.t 9), none, []⟩,
    ⟨some 18, .bin .add (.t 17) (.c (.int .i64 1)), none, []⟩,
    ⟨some 9, .mv (.t 18), none, []⟩]))))))
  (.seq (.reg [
  ⟨some 8, .mv (.c (.bool true)), none, []⟩])
  .ret)))
def r71 : List RV := [.tmp 8]
theorem n71 : Try.f71.ntmps = 51 := by kernel_rfl
theorem b71 : bodyB Try.prog 71 = true := by kernel_rfl
theorem c71_ok : cmpC Try.prog c71 ((Try.f71.body).getD .skip) = true := by kernel_rfl
theorem r71_ok : cmpR Try.prog r71 Try.f71.results.toList = true := by kernel_rfl
theorem t71 {args : List SV} {res : SV} (ka : KFL args) (kr : KF res) (h : sx Try.prog Y0 0 c71 (st0 args 51) (retK r71 res)) (hA : Nat.ble args.length 51 = true := by rfl) : Ct Try.prog 71 args res := ct_intro Try.func71 rfl b71 c71_ok r71_ok n71 (Nat.le_of_ble_eq_true hA) ka kr h
/- azalai/azalairef01.after -/
def c74 : SC := (.seq (.reg [
  ⟨some 3, .box (.t 0) 0 25, none, []⟩,
  ⟨some 4, .box (.t 1) 0 27, none, []⟩,
  ⟨some 5, .box (.t 2) 0 29, none, []⟩,
  ⟨some 6, .alloc [.int .i64 0, .int .i64 0, .int .i64 0, .int .i64 0, .int .i64 0, .int .i64 0, .bool false] 27, none, []⟩,
  ⟨some 7, .mv (.c (.int .i64 0)), none, []⟩])
  (.seq (.reg [
  ⟨some 14, .ld (.t 3) 17 true, none, []⟩,
  ⟨some 15, .addo (.t 4) 6, none, []⟩,
  ⟨some 16, .ld (.t 15) 1 false, none, []⟩,
  ⟨some 17, .ld (.t 5) 8 true, none, []⟩,
  ⟨some 18, .call 63 [.t 14, .t 16, .t 17], none, []⟩,
  ⟨some 13, .mv (.t 18), none, []⟩,
  ⟨some 19, .ext (.t 13) 0, none, []⟩,
  ⟨some 20, .ext (.t 13) 1, none, []⟩,
  ⟨some 8, .alloc [.int .i64 0, .int .i64 0] 23, none, []⟩,
  ⟨some 9, .alloc [.int .i64 0, .int .i64 0] 23, none, []⟩,
  ⟨none, .st (.t 8) (.t 19) 2, none, []⟩,
  ⟨none, .st (.t 9) (.t 20) 2, none, []⟩])
  (.seq (.seq (.reg [
  ⟨some 21, .addo (.t 4) 0, none, []⟩,
  ⟨some 22, .addo (.t 21) 1, none, []⟩,
  ⟨some 23, .ld (.t 22) 1 false, none, []⟩,
  ⟨some 24, .addo (.t 8) 0, none, []⟩,
  ⟨some 25, .ld (.t 24) 1 false, none, []⟩,
  ⟨some 26, .bin .lss (.t 23) (.t 25), none, []⟩,
  ⟨some 27, .mv (.t 26), none, []⟩,
  ⟨some 28, .addo (.t 4) 2, some (27, false), []⟩,
  ⟨some 29, .addo (.t 28) 1, some (27, false), []⟩,
  ⟨some 30, .ld (.t 29) 1 false, some (27, false), []⟩,
  ⟨some 31, .addo (.t 9) 0, some (27, false), []⟩,
  ⟨some 32, .ld (.t 31) 1 false, some (27, false), []⟩,
  ⟨some 33, .bin .lss (.t 30) (.t 32), some (27, false), []⟩,
  ⟨some 34, .pick (.t 27) (.c (.bool true)) (.t 33), none, []⟩])
  (.cond (.t 34)
  (.seq (.reg [
   ⟨some 35, .build [.int .i64 0, .int .i64 0, .int .i64 0, .int .i64 0, .int .i64 0, .int .i64 0, .bool false] [], none, []⟩,
   ⟨none, .st (.t 6) (.t 35) 7, none, []⟩,
   ⟨some 7, .mv (.c (.int .i64 2)), none, []⟩])
   .ret)
  .skip))
  (.seq (.reg [
  ⟨some 10, .mv (.c (.int .i64 1)), none, []⟩])
  (.seq (.seq (.reg [
  ⟨some 36, .addo (.t 4) 0, none, []⟩,
  ⟨some 37, .addo (.t 36) 0, none, []⟩,
  ⟨some 38, .ld (.t 37) 1 false, none, []⟩,
  ⟨some 39, .addo (.t 8) 1, none, []⟩,
  ⟨some 40, .ld (.t 39) 1 false, none, []⟩,
  ⟨some 41, .bin .geq (.t 38) (.t 40), none, []⟩,
  ⟨some 42, .mv (.t 41), none, []⟩,
  ⟨some 43, .addo (.t 4) 2, some (42, true), []⟩,
  ⟨some 44, .addo (.t 43) 0, some (42, true), []⟩,
  ⟨some 45, .ld (.t 44) 1 false, some (42, true), []⟩,
  ⟨some 46, .addo (.t 9) 1, some (42, true), []⟩,
  ⟨some 47, .ld (.t 46) 1 false, some (42, true), []⟩,
  ⟨some 48, .bin .geq (.t 45) (.t 47), some (42, true), []⟩,
  ⟨some 49, .pick (.t 42) (.t 48) (.c (.bool false)), none, []⟩])
  (.cond (.t 49)
  (.reg [
   ⟨some 10, .mv (.c (.int .i64 0)), none, []⟩])
  .skip))
  (.seq (.reg [
  ⟨some 50, .addo (.t 4) 6, none, []⟩,
  ⟨some 51, .ld (.t 50) 1 false, none, []⟩,
  ⟨some 52, .build [.int .i64 0, .int .i64 0, .int .i64 0, .int .i64 0, .int .i64 0, .int .i64 0, .bool false] [(6, 1, .t 51)], none, []⟩,
  ⟨some 11, .alloc [.int .i64 0, .int .i64 0, .int .i64 0, .int .i64 0, .int .i64 0, .int .i64 0, .bool false] 27, none, []⟩,
  ⟨none, .st (.t 11) (.t 52) 7, none, []⟩])
  (.seq (.reg [
  ⟨some 53, .addo (.t 3) 0, none, []⟩,
  ⟨some 54, .ld (.t 53) 1 false, none, []⟩,
  ⟨some 55, .addo (.t 4) 0, none, []⟩,
  ⟨some 56, .addo (.t 55) 0, none, []⟩,
  ⟨some 57, .ld (.t 56) 1 false, none, []⟩,
  ⟨some 58, .addo (.t 8) 1, none, []⟩,
  ⟨some 59, .ld (.t 58) 1 false, none, []⟩,
  ⟨some 60, .bin .sub (.t 57) (.t 59), none, []⟩,
  ⟨some 61, .mm true [.c (.int .i64 0), .t 60], none, []⟩,
  ⟨some 62, .addo (.t 5) 6, none, []⟩,
  ⟨some 63, .addo (.t 62) 0, none, []⟩,
  ⟨some 64, .ld (.t 63) 1 false, none, []⟩,
  ⟨some 65, .bin .add (.t 61) (.t 64), none, []⟩,
  ⟨some 66, .mm false [.t 54, .t 65], none, []⟩,
  ⟨some 67, .addo (.t 3) 0, none, []⟩,
  ⟨some 68, .ld (.t 67) 1 false, none, []⟩,
  ⟨some 69, .addo (.t 4) 0, none, []⟩,
  ⟨some 70, .addo (.t 69) 1, none, []⟩,
  ⟨some 71, .ld (.t 70) 1 false, none, []⟩,
  ⟨some 72, .addo (.t 8) 0, none, []⟩,
  ⟨some 73, .ld (.t 72) 1 false, none, []⟩,
  ⟨some 74, .bin .sub (.t 71) (.t 73), none, []⟩,
  ⟨some 75, .addo (.t 5) 6, none, []⟩,
  ⟨some 76, .addo (.t 75) 1, none, []⟩,
  ⟨some 77, .ld (.t 76) 1 false, none, []⟩,
  ⟨some 78, .bin .add (.t 74) (.t 77), none, []⟩,
  ⟨some 79, .mm false [.t 68, .t 78], none, []⟩,
  ⟨some 80, .build [.int .i64 0, .int .i64 0] [(0, 1, .t 66), (1, 1, .t 79)], none, []⟩,
  ⟨some 81, .addo (.t 11) 0, none, []⟩,
  ⟨none, .st (.t 81) (.t 80) 2, none, []⟩])
  (.seq (.reg [
  ⟨some 82, .addo (.t 3) 1, none, []⟩,
  ⟨some 83, .ld (.t 82) 1 false, none, []⟩,
  ⟨some 84, .addo (.t 4) 2, none, []⟩,
  ⟨some 85, .addo (.t 84) 0, none, []⟩,
  ⟨some 86, .ld (.t 85) 1 false, none, []⟩,
  ⟨some 87, .addo (.t 9) 1, none, []⟩,
  ⟨some 88, .ld (.t 87) 1 false, none, []⟩,
  ⟨some 89, .bin .sub (.t 86) (.t 88), none, []⟩,
  ⟨some 90, .mm true [.c (.int .i64 0), .t 89], none, []⟩,
  ⟨some 91, .addo (.t 5) 4, none, []⟩,
  ⟨some 92, .addo (.t 91) 0, none, []⟩,
  ⟨some 93, .ld (.t 92) 1 false, none, []⟩,
  ⟨some 94, .bin .add (.t 90) (.t 93), none, []⟩,
  ⟨some 95, .mm false [.t 83, .t 94], none, []⟩,
  ⟨some 96, .addo (.t 3) 1, none, []⟩,
  ⟨some 97, .ld (.t 96) 1 false, none, []⟩,
  ⟨some 98, .addo (.t 4) 2, none, []⟩,
  ⟨some 99, .addo (.t 98) 1, none, []⟩,
  ⟨some 100, .ld (.t 99) 1 false, none, []⟩,
  ⟨some 101, .addo (.t 9) 0, none, []⟩,
  ⟨some 102, .ld (.t 101) 1 false, none, []⟩,
  ⟨some 103, .bin .sub (.t 100) (.t 102), none, []⟩,
  ⟨some 104, .addo (.t 5) 4, none, []⟩,
  ⟨some 105, .addo (.t 104) 1, none, []⟩,
  ⟨some 106, .ld (.t 105) 1 false, none, []⟩,
  ⟨some 107, .bin .add (.t 103) (.t 106), none, []⟩,
  ⟨some 108, .mm false [.t 97, .t 107], none, []⟩,
  ⟨some 109, .build [.int .i64 0, .int .i64 0] [(0, 1, .t 95), (1, 1, .t 108)], none, []⟩,
  ⟨some 110, .addo (.t 11) 2, none, []⟩,
  ⟨none, .st (.t 110) (.t 109) 2, none, []⟩])
  (.seq (.reg [
  ⟨some 111, .addo (.t 5) 0, none, []⟩,
  ⟨some 112, .ld (.t 111) 1 false, none, []⟩,
  ⟨some 113, .addo (.t 5) 1, none, []⟩,
  ⟨some 114, .ld (.t 113) 1 false, none, []⟩,
  ⟨some 115, .bin .mul (.t 112) (.t 114), none, []⟩,
  ⟨some 12, .mv (.t 115), none, []⟩])
  (.seq (.regd [0, 1, 2, 3, 4, 5, 6, 7, 8, 9, 10, 11, 12, 13, 14, 15, 16, 17, 18, 19, 20, 21, 22, 23, 24] [
  .op ⟨some 116, .addo (.t 4) 4, none, []⟩,
  .op ⟨some 117, .addo (.t 116) 0, none, [0]⟩,
  .op ⟨some 118, .ld (.t 117) 1 false, none, [1]⟩,
  .op ⟨some 119, .addo (.t 3) 10, none, []⟩,
  .op ⟨some 120, .addo (.t 119) 0, none, [3]⟩,
  .op ⟨some 121, .ld (.t 120) 1 false, none, [4]⟩,
  .op ⟨some 122, .mv (.t 12), none, []⟩,
  .op ⟨some 123, .bin .mul (.t 121) (.t 122), none, [5, 6]⟩,
  .op ⟨some 124, .div .quo (.t 123) (.c (.int .i64 1000000)), none, [7]⟩,
  .op ⟨some 125, .bin .add (.t 118) (.t 124), none, [2, 8]⟩,
  .op ⟨some 126, .mm false [.c (.int .i64 1000), .t 125], none, [9]⟩,
  .op ⟨some 127, .addo (.t 4) 4, none, []⟩,
  .op ⟨some 128, .addo (.t 127) 1, none, [11]⟩,
  .op ⟨some 129, .ld (.t 128) 1 false, none, [12]⟩,
  .op ⟨some 130, .addo (.t 3) 10, none, []⟩,
  .op ⟨some 131, .addo (.t 130) 1, none, [14]⟩,
  .op ⟨some 132, .ld (.t 131) 1 false, none, [15]⟩,
  .op ⟨some 133, .mv (.t 12), none, []⟩,
  .op ⟨some 134, .bin .mul (.t 132) (.t 133), none, [16, 17]⟩,
  .op ⟨some 135, .call 58 [.t 134, .c (.int .i64 1000000)], none, [18]⟩,
  .op ⟨some 136, .bin .add (.t 129) (.t 135), none, [13, 19]⟩,
  .op ⟨some 137, .mm false [.c (.int .i64 1000), .t 136], none, [20]⟩,
  .op ⟨some 138, .build [.int .i64 0, .int .i64 0] [(0, 1, .t 126), (1, 1, .t 137)], none, [10, 21]⟩,
  .op ⟨some 139, .addo (.t 11) 4, none, [0, 1, 2, 3, 4, 5, 6, 7, 8, 9, 10, 11, 12, 13, 14, 15, 16, 17, 18, 19, 20, 21, 22]⟩] 0 1 [
  ⟨none, .st (.t 139) (.t 138) 2, none, [0, 1, 2, 3, 4, 5, 6, 7, 8, 9, 10, 11, 12, 13, 14, 15, 16, 17, 18, 19, 20, 21, 22, 23]⟩])
  (.seq (.seq (.reg [
  ⟨some 140, .addo (.t 5) 0, none, []⟩,
  ⟨some 141, .ld (.t 140) 1 false, none, []⟩,
  ⟨some 142, .bin .eql (.t 141) (.c (.int .i64 0)), none, []⟩])
  (.cond (.t 142)
  (.reg [
   ⟨some 143, .addo (.t 4) 4, none, []⟩,
   ⟨some 144, .addo (.t 143) 0, none, []⟩,
   ⟨some 145, .ld (.t 144) 1 false, none, []⟩,
   ⟨some 146, .addo (.t 3) 14, none, []⟩,
   ⟨some 147, .ld (.t 146) 1 false, none, []⟩,
   ⟨some 148, .bin .sub (.t 145) (.t 147), none, []⟩,
   ⟨some 149, .mm true [.c (.int .i64 0), .t 148], none, []⟩,
   ⟨some 150, .addo (.t 4) 4, none, []⟩,
   ⟨some 151, .addo (.t 150) 1, none, []⟩,
   ⟨some 152, .ld (.t 151) 1 false, none, []⟩,
   ⟨some 153, .addo (.t 3) 14, none, []⟩,
   ⟨some 154, .ld (.t 153) 1 false, none, []⟩,
   ⟨some 155, .bin .sub (.t 152) (.t 154), none, []⟩,
   ⟨some 156, .mm true [.c (.int .i64 0), .t 155], none, []⟩,
   ⟨some 157, .build [.int .i64 0, .int .i64 0] [(0, 1, .t 149), (1, 1, .t 156)], none, []⟩,
   ⟨some 158, .addo (.t 11) 4, none, []⟩,
   ⟨none, .st (.t 158) (.t 157) 2, none, []⟩])
  .skip))
  (.seq (.reg [
  ⟨some 159, .ld (.t 11) 7 true, none, []⟩,
  ⟨some 160, .mv (.t 10), none, []⟩,
  ⟨none, .st (.t 6) (.t 159) 7, none, []⟩,
  ⟨some 7, .mv (.t 160), none, []⟩])
  .ret))))))))))))
def r74 : List RV := [.cell 6 7 true, .tmp 7]
theorem n74 : Try.f74.ntmps = 161 := by kernel_rfl
theorem b74 : bodyB Try.prog 74 = true := by kernel_rfl
theorem c74_ok : cmpC Try.prog c74 ((Try.f74.body).getD .skip) = true := by kernel_rfl
theorem r74_ok : cmpR Try.prog r74 Try.f74.results.toList = true := by kernel_rfl
theorem t74 {args : List SV} {res : SV} (ka : KFL args) (kr : KF res) (h : sx Try.prog Y0 0 c74 (st0 args 161) (retK r74 res)) (hA : Nat.ble args.length 161 = true := by rfl) : Ct Try.prog 74 args res := ct_intro Try.func74 rfl b74 c74_ok r74_ok n74 (Nat.le_of_ble_eq_true hA) ka kr h
/- azalai/camel.After -/
def c29 : SC := (.seq (.reg [
  ⟨some 3, .box (.t 0) 0 25, none, []⟩,
  ⟨some 4, .box (.t 1) 0 27, none, []⟩,
  ⟨some 5, .box (.t 2) 0 29, none, []⟩,
  ⟨some 6, .alloc [.int .i64 0, .int .i64 0, .int .i64 0, .int .i64 0, .int .i64 0, .int .i64 0, .bool false] 27, none, []⟩,
  ⟨some 7, .mv (.c (.int .u8 0)), none, []⟩,
  ⟨some 8, .mv (.c (.int .i64 0)), none, []⟩])
  (.seq (.seq (.reg [
  ⟨some 12, .ld (.t 3) 17 true, none, []⟩,
  ⟨some 13, .ld (.t 4) 7 true, none, []⟩,
  ⟨some 14, .call 22 [.t 12, .t 13], none, []⟩,
  ⟨some 9, .mv (.t 14), none, []⟩])
  (.seq (.reg [
  ⟨some 15, .mv (.t 9), none, []⟩,
  ⟨some 16, .bin .neq (.t 15) (.c (.int .i64 0)), none, []⟩])
  (.cond (.t 16)
  (.seq (.reg [
   ⟨some 17, .ld (.t 6) 7 true, none, []⟩,
   ⟨some 18, .mv (.t 9), none, []⟩,
   ⟨none, .st (.t 6) (.t 17) 7, none, []⟩,
   ⟨some 7, .mv (.c (.int .u8 0)), none, []⟩,
   ⟨some 8, .mv (.t 18), none, []⟩])
   .ret)
  .skip)))
  (.seq (.seq (.reg [
  ⟨some 19, .ld (.t 5) 8 true, none, []⟩,
  ⟨some 20, .bsl 8 29 [.t 19], none, []⟩,
  ⟨some 21, .call 59 [.t 20], none, []⟩,
  ⟨some 10, .mv (.t 21), none, []⟩])
  (.seq (.reg [
  ⟨some 22, .mv (.t 10), none, []⟩,
  ⟨some 23, .bin .neq (.t 22) (.c (.int .i64 0)), none, []⟩])
  (.cond (.t 23)
  (.seq (.reg [
   ⟨some 24, .ld (.t 6) 7 true, none, []⟩,
   ⟨some 25, .mv (.t 10), none, []⟩,
   ⟨none, .st (.t 6) (.t 24) 7, none, []⟩,
   ⟨some 7, .mv (.c (.int .u8 0)), none, []⟩,
   ⟨some 8, .mv (.t 25), none, []⟩])
   .ret)
  .skip)))
  (.seq (.reg [
  ⟨some 27, .ld (.t 3) 17 true, none, []⟩,
  ⟨some 28, .ld (.t 4) 7 true, none, []⟩,
  ⟨some 29, .build [.int .i64 0, .int .i64 0, .int .i64 0, .int .i64 0, .int .i64 0, .int .i64 0, .int .i64 0, .int .i64 0, .int .i64 0, .int .i64 0, .int .i64 0, .int .i64 0, .int .i64 0, .int .i64 0, .int .i64 0, .int .i64 0, .int .i64 0, .int .i64 0, .int .i64 0, .int .i64 0, .int .i64 0, .int .i64 0, .int .i64 0, .bool false] [(0, 17, .t 27), (17, 7, .t 28)], none, []⟩,
  ⟨some 30, .ld (.t 5) 8 true, none, []⟩,
  ⟨some 31, .call 68 [.t 29, .t 30], none, []⟩,
  ⟨some 26, .mv (.t 31), none, []⟩,
  ⟨some 32, .ext (.t 26) 0, none, []⟩,
  ⟨some 33, .ext (.t 26) 1, none, []⟩,
  ⟨some 11, .alloc [.int .i64 0, .int .i64 0, .int .i64 0, .int .i64 0, .int .i64 0, .int .i64 0, .int .i64 0, .int .i64 0, .int .i64 0, .int .i64 0, .int .i64 0, .int .i64 0, .int .i64 0, .int .i64 0, .int .i64 0, .int .i64 0, .int .i64 0, .int .i64 0, .int .i64 0, .int .i64 0, .int .i64 0, .int .i64 0, .int .i64 0, .bool false] 107, none, []⟩,
  ⟨none, .st (.t 11) (.t 32) 24, none, []⟩,
  ⟨some 7, .mv (.t 33), none, []⟩])
  (.seq (.seq (.reg [
  ⟨some 34, .mv (.t 7), none, []⟩,
  ⟨some 35, .bin .eql (.t 34) (.c (.int .u8 2)), none, []⟩])
  (.cond (.t 35)
  (.seq (.reg [
   ⟨some 36, .ld (.t 6) 7 true, none, []⟩,
   ⟨none, .st (.t 6) (.t 36) 7, none, []⟩,
   ⟨some 7, .mv (.c (.int .u8 0)), none, []⟩,
   ⟨some 8, .mv (.c (.int .i64 13)), none, []⟩])
   .ret)
  .skip))
  (.seq (.reg [
  ⟨some 37, .addo (.t 11) 17, none, []⟩,
  ⟨some 38, .ld (.t 37) 7 true, none, []⟩,
  ⟨some 39, .mv (.t 7), none, []⟩,
  ⟨none, .st (.t 6) (.t 38) 7, none, []⟩,
  ⟨some 7, .mv (.t 39), none, []⟩,
  ⟨some 8, .mv (.c (.int .i64 0)), none, []⟩])
  .ret))))))
def r29 : List RV := [.cell 6 7 true, .tmp 7, .tmp 8]
theorem n29 : Try.f29.ntmps = 40 := by kernel_rfl
theorem b29 : bodyB Try.prog 29 = true := by kernel_rfl
theorem c29_ok : cmpC Try.prog c29 ((Try.f29.body).getD .skip) = true := by kernel_rfl
theorem r29_ok : cmpR Try.prog r29 Try.f29.results.toList = true := by kernel_rfl
theorem t29 {args : List SV} {res : SV} (ka : KFL args) (kr : KF res) (h : sx Try.prog Y0 0 c29 (st0 args 40) (retK r29 res)) (hA : Nat.ble args.length 40 = true := by rfl) : Ct Try.prog 29 args res := ct_intro Try.func29 rfl b29 c29_ok r29_ok n29 (Nat.le_of_ble_eq_true hA) ka kr h
/- azalai/azalairef01.After -/
def c30 : SC := (.seq (.reg [
  ⟨some 3, .box (.t 0) 0 25, none, []⟩,
  ⟨some 4, .box (.t 1) 0 27, none, []⟩,
  ⟨some 5, .box (.t 2) 0 29, none, []⟩,
  ⟨some 6, .alloc [.int .i64 0, .int .i64 0, .int .i64 0, .int .i64 0, .int .i64 0, .int .i64 0, .bool false] 27, none, []⟩,
  ⟨some 7, .mv (.c (.int .i64 0)), none, []⟩,
  ⟨some 8, .mv (.c (.int .i64 0)), none, []⟩])
  (.seq (.seq (.reg [
  ⟨some 12, .ld (.t 3) 17 true, none, []⟩,
  ⟨some 13, .ld (.t 4) 7 true, none, []⟩,
  ⟨some 14, .call 23 [.t 12, .t 13], none, []⟩,
  ⟨some 9, .mv (.t 14), none, []⟩])
  (.seq (.reg [
  ⟨some 15, .mv (.t 9), none, []⟩,
  ⟨some 16, .bin .neq (.t 15) (.c (.int .i64 0)), none, []⟩])
  (.cond (.t 16)
  (.seq (.reg [
   ⟨some 17, .build [.int .i64 0, .int .i64 0, .int .i64 0, .int .i64 0, .int .i64 0, .int .i64 0, .bool false] [], none, []⟩,
   ⟨some 18, .mv (.t 9), none, []⟩,
   ⟨none, .st (.t 6) (.t 17) 7, none, []⟩,
   ⟨some 7, .mv (.c (.int .i64 0)), none, []⟩,
   ⟨some 8, .mv (.t 18), none, []⟩])
   .ret)
  .skip)))
  (.seq (.seq (.reg [
  ⟨some 19, .ld (.t 5) 8 true, none, []⟩,
  ⟨some 20, .call 62 [.t 19], none, []⟩,
  ⟨some 21, .un .not (.t 20), none, []⟩])
  (.cond (.t 21)
  (.seq (.reg [
   ⟨some 22, .build [.int .i64 0, .int .i64 0, .int .i64 0, .int .i64 0, .int .i64 0, .int .i64 0, .bool false] [], none, []⟩,
   ⟨none, .st (.t 6) (.t 22) 7, none, []⟩,
   ⟨some 7, .mv (.c (.int .i64 0)), none, []⟩,
   ⟨some 8, .mv (.c (.int .i64 12)), none, []⟩])
   .ret)
  .skip))
  (.seq (.reg [
  ⟨some 24, .ld (.t 3) 17 true, none, []⟩,
  ⟨some 25, .ld (.t 4) 7 true, none, []⟩,
  ⟨some 26, .ld (.t 5) 8 true, none, []⟩,
  ⟨some 27, .call 74 [.t 24, .t 25, .t 26], none, []⟩,
  ⟨some 23, .mv (.t 27), none, []⟩,
  ⟨some 28, .ext (.t 23) 0, none, []⟩,
  ⟨some 29, .ext (.t 23) 1, none, []⟩,
  ⟨some 10, .alloc [.int .i64 0, .int .i64 0, .int .i64 0, .int .i64 0, .int .i64 0, .int .i64 0, .bool false] 27, none, []⟩,
  ⟨none, .st (.t 10) (.t 28) 7, none, []⟩,
  ⟨some 11, .mv (.t 29), none, []⟩])
  (.seq (.seq (.reg [
  ⟨some 30, .mv (.t 11), none, []⟩,
  ⟨some 31, .bin .eql (.t 30) (.c (.int .i64 2)), none, []⟩])
  (.cond (.t 31)
  (.seq (.reg [
   ⟨some 32, .build [.int .i64 0, .int .i64 0, .int .i64 0, .int .i64 0, .int .i64 0, .int .i64 0, .bool false] [], none, []⟩,
   ⟨none, .st (.t 6) (.t 32) 7, none, []⟩,
   ⟨some 7, .mv (.c (.int .i64 0)), none, []⟩,
   ⟨some 8, .mv (.c (.int .i64 13)), none, []⟩])
   .ret)
  .skip))
  (.seq (.reg [
  ⟨some 33, .ld (.t 10) 7 true, none, []⟩,
  ⟨some 34, .mv (.t 11), none, []⟩,
  ⟨none, .st (.t 6) (.t 33) 7, none, []⟩,
  ⟨some 7, .mv (.t 34), none, []⟩,
  ⟨some 8, .mv (.c (.int .i64 0)), none, []⟩])
  .ret))))))
def r30 : List RV := [.cell 6 7 true, .tmp 7, .tmp 8]
theorem n30 : Try.f30.ntmps = 35 := by kernel_rfl
theorem b30 : bodyB Try.prog 30 = true := by kernel_rfl
theorem c30_ok : cmpC Try.prog c30 ((Try.f30.body).getD .skip) = true := by kernel_rfl
theorem r30_ok : cmpR Try.prog r30 Try.f30.results.toList = true := by kernel_rfl
theorem t30 {args : List SV} {res : SV} (ka : KFL args) (kr : KF res) (h : sx Try.prog Y0 0 c30 (st0 args 35) (retK r30 res)) (hA : Nat.ble args.length 35 = true := by rfl) : Ct Try.prog 30 args res := ct_intro Try.func30 rfl b30 c30_ok r30_ok n30 (Nat.le_of_ble_eq_true hA) ka kr h
/- azalai/camel.Days -/
def c31 : SC := (.seq (.reg [
  ⟨some 3, .box (.t 0) 0 25, none, []⟩,
  ⟨some 4, .box (.t 1) 0 27, none, []⟩,
  ⟨some 6, .alloc [.slice none 0 0] 45, none, []⟩,
  ⟨some 7, .alloc [.int .u8 0] 5, none, []⟩,
  ⟨some 8, .alloc [.int .i64 0] 3, none, []⟩,
  ⟨some 9, .alloc [.int .i64 0] 30, none, []⟩])
  (.seq (.seq (.reg [
  ⟨some 13, .ld (.t 3) 17 true, none, []⟩,
  ⟨some 14, .ld (.t 4) 7 true, none, []⟩,
  ⟨some 15, .mv (.t 2), none, []⟩,
  ⟨some 16, .call 66 [.t 13, .t 14, .t 15], none, []⟩,
  ⟨some 10, .mv (.t 16), none, []⟩])
  (.seq (.reg [
  ⟨some 17, .mv (.t 10), none, []⟩,
  ⟨some 18, .bin .neq (.t 17) (.c (.int .i64 0)), none, []⟩])
  (.cond (.t 18)
  (.seq (.reg [
   ⟨some 19, .mv (.t 10), none, []⟩,
   ⟨none, .st (.t 6) (.c (.slice none 0 0)) 1, none, []⟩,
   ⟨none, .st (.t 7) (.c (.int .u8 0)) 1, none, []⟩,
   ⟨none, .st (.t 8) (.c (.int .i64 0)) 1, none, []⟩,
   ⟨none, .st (.t 9) (.t 19) 1, none, []⟩])
   .ret)
  .skip)))
  (.seq (.seq (.reg [
  ⟨some 20, .ld (.t 3) 17 true, none, []⟩,
  ⟨some 21, .ld (.t 4) 7 true, none, []⟩,
  ⟨some 22, .build [.int .i64 0, .int .i64 0, .int .i64 0, .int .i64 0, .int .i64 0, .int .i64 0, .int .i64 0, .int .i64 0, .int .i64 0, .int .i64 0, .int .i64 0, .int .i64 0, .int .i64 0, .int .i64 0, .int .i64 0, .int .i64 0, .int .i64 0, .int .i64 0, .int .i64 0, .int .i64 0, .int .i64 0, .int .i64 0, .int .i64 0, .bool false] [(0, 17, .t 20), (17, 7, .t 21)], none, []⟩,
  ⟨some 23, .mv (.t 2), none, []⟩,
  ⟨some 24, .callm 75 [.t 22, .t 23], none, []⟩])
  (.block 0 (.gh (.rfun (.t 24) [25, 26] (.seq (.reg [
    ⟨some 11, .alloc [.int .i64 0, .int .i64 0, .int .i64 0, .int .i64 0, .int .i64 0, .int .i64 0, .int .i64 0, .int .i64 0, .int .i64 0, .int .i64 0, .int .i64 0, .int .i64 0, .int .i64 0, .int .i64 0, .int .i64 0, .int .i64 0, .int .i64 0, .int .i64 0, .int .i64 0, .int .i64 0, .int .i64 0, .int .i64 0, .int .i64 0, .bool false] 107, none, []⟩,
    ⟨none, .st (.t 11) (.t 25) 24, none, []⟩])
    (.reg [
    ⟨some 12, .mv (.t 26), none, []⟩]))
   (.block 1 (.seq (.seq (.reg [
     ⟨some 27, .mv (.t 12), none, []⟩,
     ⟨some 28, .bin .eql (.t 27) (.c (.int .u8 2)), none, []⟩])
     (.cond (.t 28)
     (.seq (.reg [
      ⟨some 29, .mv (.t 12), none, []⟩,
      ⟨some 30, .ld (.t 6) 1 false, none, []⟩,
      ⟨some 31, .len (.t 30), none, []⟩,
      ⟨none, .st (.t 6) (.c (.slice none 0 0)) 1, none, []⟩,
      ⟨none, .st (.t 7) (.t 29) 1, none, []⟩,
      ⟨none, .st (.t 8) (.t 31) 1, none, []⟩,
      ⟨none, .st (.t 9) (.c (.int .i64 13)) 1, none, []⟩])
      .ret)
     .skip))
     (.regd [0, 1, 2, 3, 5, 6, 7, 4, 8, 9] [
     .op ⟨some 32, .ld (.t 6) 1 false, none, []⟩,
     .op ⟨some 33, .addo (.t 11) 17, none, []⟩,
     .op ⟨some 34, .ld (.t 33) 7 true, none, [1]⟩,
     .op ⟨some 35, .bsl 7 27 [.t 34], none, [2]⟩,
     .hide (.t 32),
     .hide (.t 6),
     .op ⟨some 37, .ld (.t 7) 1 false, none, []⟩,
     .op ⟨some 38, .mv (.t 12), none, []⟩,
     .op ⟨some 39, .mm true [.t 37, .t 38], none, [5, 6]⟩] 0 3 [
     ⟨some 36, .appm 7 56 27 (.t 32) (.t 35), none, [0, 3]⟩,
     ⟨none, .st (.t 6) (.t 36) 1, none, [0, 1, 2, 3, 4]⟩,
     ⟨none, .st (.t 7) (.t 39) 1, none, [0, 1, 2, 3, 4, 5, 6, 7, 8]⟩])))))))
  (.seq (.regd [0, 1, 2, 3, 4, 5] [
  .op ⟨some 40, .ld (.t 6) 1 false, none, []⟩,
  .hide (.t 6),
  .op ⟨some 41, .ld (.t 7) 1 false, none, []⟩] 0 4 [
  ⟨none, .st (.t 6) (.t 40) 1, none, [0]⟩,
  ⟨none, .st (.t 7) (.t 41) 1, none, [0, 1, 2]⟩,
  ⟨none, .st (.t 8) (.c (.int .i64 0)) 1, none, [0, 1, 2, 3]⟩,
  ⟨none, .st (.t 9) (.c (.int .i64 0)) 1, none, [0, 1, 2, 3, 4]⟩])
  .ret))))
def r31 : List RV := [.cell 6 1 false, .cell 7 1 false, .cell 8 1 false, .cell 9 1 false]
theorem n31 : Try.f31.ntmps = 42 := by kernel_rfl
theorem b31 : bodyB Try.prog 31 = true := by kernel_rfl
theorem c31_ok : cmpC Try.prog c31 ((Try.f31.body).getD .skip) = true := by kernel_rfl
theorem r31_ok : cmpR Try.prog r31 Try.f31.results.toList = true := by kernel_rfl
theorem t31 {args : List SV} {res : SV} (ka : KFL args) (kr : KF res) (h : sx Try.prog Y0 0 c31 (st0 args 42) (retK r31 res)) (hA : Nat.ble args.length 42 = true := by rfl) : Ct Try.prog 31 args res := ct_intro Try.func31 rfl b31 c31_ok r31_ok n31 (Nat.le_of_ble_eq_true hA) ka kr h
/- azalai/azalairef01.Days -/
def c32 : SC := (.seq (.reg [
  ⟨some 3, .box (.t 0) 0 25, none, []⟩,
  ⟨some 4, .box (.t 1) 0 27, none, []⟩,
  ⟨some 6, .mv (.c (.slice none 0 0)), none, []⟩,
  ⟨some 7, .mv (.c (.int .i64 0)), none, []⟩,
  ⟨some 8, .mv (.c (.int .i64 0)), none, []⟩,
  ⟨some 9, .mv (.c (.int .i64 0)), none, []⟩])
  (.seq (.seq (.reg [
  ⟨some 16, .ld (.t 3) 17 true, none, []⟩,
  ⟨some 17, .ld (.t 4) 7 true, none, []⟩,
  ⟨some 18, .mv (.t 2), none, []⟩,
  ⟨some 19, .call 70 [.t 16, .t 17, .t 18], none, []⟩,
  ⟨some 10, .mv (.t 19), none, []⟩])
  (.seq (.reg [
  ⟨some 20, .mv (.t 10), none, []⟩,
  ⟨some 21, .bin .neq (.t 20) (.c (.int .i64 0)), none, []⟩])
  (.cond (.t 21)
  (.seq (.reg [
   ⟨some 22, .mv (.t 10), none, []⟩,
   ⟨some 6, .mv (.c (.slice none 0 0)), none, []⟩,
   ⟨some 7, .mv (.c (.int .i64 0)), none, []⟩,
   ⟨some 8, .mv (.c (.int .i64 0)), none, []⟩,
   ⟨some 9, .mv (.t 22), none, []⟩])
   .ret)
  .skip)))
  (.seq (.reg [
  ⟨some 11, .mv (.c (.slice none 0 0)), none, []⟩])
  (.seq (.reg [
  ⟨some 12, .mv (.c (.int .i64 0)), none, []⟩])
  (.seq (.seq (.reg [
  ⟨some 13, .mv (.c (.int .i64 0)), none, []⟩])
  (.block 0 (.loop (.seq (.seq (.reg [
    ⟨some 23, .mv (.t 13), none, []⟩,
    ⟨some 24, .mv (.t 2), none, []⟩,
    ⟨some 25, .len (.t 24), none, []⟩,
    ⟨some 26, .bin .lss (.t 23) (.t 25), none, []⟩])
    (.cond (.t 26)
    .skip
    (.exit 0)))
    (.seq (.block 1 (.seq (.regd [0, 1, 2, 3, 4, 5, 6, 7, 8, 9, 10, 11, 12] [
     .op ⟨some 30, .ld (.t 3) 17 true, none, []⟩,
     .op ⟨some 31, .ld (.t 4) 7 true, none, []⟩,
     .op ⟨some 32, .mv (.t 2), none, []⟩,
     .op ⟨some 33, .mv (.t 13), none, []⟩,
     .op ⟨some 34, .ixs (.t 32) (.t 33) 8, none, [2, 3]⟩,
     .op ⟨some 35, .ld (.t 34) 8 true, none, [4]⟩,
     .op ⟨some 36, .call 74 [.t 30, .t 31, .t 35], none, [0, 1, 5]⟩,
     .op ⟨some 29, .mv (.t 36), none, [6]⟩,
     .op ⟨some 37, .ext (.t 29) 0, none, [7]⟩,
     .op ⟨some 38, .ext (.t 29) 1, none, [7]⟩] 1 1 [
     ⟨some 14, .alloc [.int .i64 0, .int .i64 0, .int .i64 0, .int .i64 0, .int .i64 0, .int .i64 0, .bool false] 27, none, []⟩,
     ⟨none, .st (.t 14) (.t 37) 7, none, [0, 1, 2, 3, 4, 5, 6, 7, 8, 10]⟩,
     ⟨some 15, .mv (.t 38), none, [0, 1, 2, 3, 4, 5, 6, 7, 8, 9, 10, 11]⟩])
     (.seq (.seq (.reg [
     ⟨some 39, .mv (.t 15), none, []⟩,
     ⟨some 40, .bin .eql (.t 39) (.c (.int .i64 2)), none, []⟩])
     (.cond (.t 40)
     (.seq (.reg [
      ⟨some 41, .mv (.t 13), none, []⟩,
      ⟨some 6, .mv (.c (.slice none 0 0)), none, []⟩,
      ⟨some 7, .mv (.c (.int .i64 2)), none, []⟩,
      ⟨some 8, .mv (.t 41), none, []⟩,
      ⟨some 9, .mv (.c (.int .i64 13)), none, []⟩])
      .ret)
     .skip))
     (.seq (.reg [
     ⟨some 42, .mv (.t 12), none, []⟩,
     ⟨some 43, .mv (.t 15), none, []⟩,
     ⟨some 44, .mm true [.t 42, .t 43], none, []⟩,
     ⟨some 12, .mv (.t 44), none, []⟩])
     (.seq (.reg [
     ⟨some 45, .mv (.t 11), none, []⟩,
     ⟨some 46, .ld (.t 14) 7 true, none, []⟩,
     ⟨some 47, .bsl 7 27 [.t 46], none, []⟩,
     ⟨some 48, .appm 7 56 27 (.t 45) (.t 47), none, []⟩,
     ⟨some 11, .mv (.t 48), none, []⟩])
     (.reg [
     ⟨some 49, .ld (.t 14) 7 true, none, []⟩,
     ⟨none, .st (.t 4) (.t 49) 7, none, []⟩]))))))
    (.reg [
    ⟨some 27, .mv (.t 13), none, []⟩,
    ⟨some 28, .bin .add (.t 27) (.c (.int .i64 1)), none, []⟩,
    ⟨some 13, .mv (.t 28), none, []⟩]))))))
  (.seq (.reg [
  ⟨some 50, .mv (.t 11), none, []⟩,
  ⟨some 51, .mv (.t 12), none, []⟩,
  ⟨some 6, .mv (.t 50), none, []⟩,
  ⟨some 7, .mv (.t 51), none, []⟩,
  ⟨some 8, .mv (.c (.int .i64 0)), none, []⟩,
  ⟨some 9, .mv (.c (.int .i64 0)), none, []⟩])
  .ret))))))
def r32 : List RV := [.tmp 6, .tmp 7, .tmp 8, .tmp 9]
theorem n32 : Try.f32.ntmps = 52 := by kernel_rfl
theorem b32 : bodyB Try.prog 32 = true := by kernel_rfl
theorem c32_ok : cmpC Try.prog c32 ((Try.f32.body).getD .skip) = true := by kernel_rfl
theorem r32_ok : cmpR Try.prog r32 Try.f32.results.toList = true := by kernel_rfl
theorem t32 {args : List SV} {res : SV} (ka : KFL args) (kr : KF res) (h : sx Try.prog Y0 0 c32 (st0 args 52) (retK r32 res)) (hA : Nat.ble args.length 52 = true := by rfl) : Ct Try.prog 32 args res := ct_intro Try.func32 rfl b32 c32_ok r32_ok n32 (Nat.le_of_ble_eq_true hA) ka kr h
/- azalai/camel.Lasts -/
def c33 : SC := (.seq (.reg [
  ⟨some 3, .box (.t 0) 0 25, none, []⟩,
  ⟨some 4, .box (.t 1) 0 27, none, []⟩,
  ⟨some 5, .box (.t 2) 0 29, none, []⟩,
  ⟨some 6, .alloc [.int .i64 0, .int .i64 0] 23, none, []⟩,
  ⟨some 7, .mv (.c (.int .i64 0)), none, []⟩])
  (.seq (.seq (.reg [
  ⟨some 13, .ld (.t 3) 17 true, none, []⟩,
  ⟨some 14, .ld (.t 4) 7 true, none, []⟩,
  ⟨some 15, .ld (.t 5) 8 true, none, []⟩,
  ⟨some 16, .bsl 8 29 [.t 15], none, []⟩,
  ⟨some 17, .call 66 [.t 13, .t 14, .t 16], none, []⟩,
  ⟨some 8, .mv (.t 17), none, []⟩])
  (.seq (.reg [
  ⟨some 18, .mv (.t 8), none, []⟩,
  ⟨some 19, .bin .neq (.t 18) (.c (.int .i64 0)), none, []⟩])
  (.cond (.t 19)
  (.seq (.reg [
   ⟨some 20, .build [.int .i64 0, .int .i64 0] [], none, []⟩,
   ⟨some 21, .mv (.t 8), none, []⟩,
   ⟨none, .st (.t 6) (.t 20) 2, none, []⟩,
   ⟨some 7, .mv (.t 21), none, []⟩])
   .ret)
  .skip)))
  (.seq (.reg [
  ⟨some 9, .alloc [.int .i64 0, .int .i64 0] 23, none, []⟩])
  (.seq (.reg [
  ⟨some 10, .alloc [.bool false] 4, none, []⟩,
  ⟨none, .st (.t 10) (.c (.bool true)) 1, none, []⟩])
  (.seq (.seq (.regd [0, 1, 2, 3, 4, 5, 6] [
  .op ⟨some 22, .ld (.t 3) 17 true, none, []⟩,
  .op ⟨some 23, .ld (.t 4) 7 true, none, []⟩,
  .op ⟨some 24, .build [.int .i64 0, .int .i64 0, .int .i64 0, .int .i64 0, .int .i64 0, .int .i64 0, .int .i64 0, .int .i64 0, .int .i64 0, .int .i64 0, .int .i64 0, .int .i64 0, .int .i64 0, .int .i64 0, .int .i64 0, .int .i64 0, .int .i64 0, .int .i64 0, .int .i64 0, .int .i64 0, .int .i64 0, .int .i64 0, .int .i64 0, .bool false] [(0, 17, .t 22), (17, 7, .t 23)], none, [0, 1]⟩,
  .op ⟨some 25, .ld (.t 5) 8 true, none, []⟩,
  .op ⟨some 26, .bsl 8 29 [.t 25], none, [3]⟩,
  .op ⟨some 27, .call 76 [.t 26, .c (.int .i64 60)], none, [4]⟩] 0 0 [
  ⟨some 28, .callm 75 [.t 24, .t 27], none, [2, 5]⟩])
  (.block 0 (.gh (.rfun (.t 28) [29, 30] (.reg [
    ⟨some 12, .mv (.t 30), none, []⟩])
   (.block 1 (.seq (.seq (.reg [
     ⟨some 31, .mv (.t 12), none, []⟩,
     ⟨some 32, .bin .eql (.t 31) (.c (.int .u8 2)), none, []⟩])
     (.cond (.t 32)
     (.exit 0)
     .skip))
     (.seq (.reg [
     ⟨some 33, .addo (.t 9) 1, none, []⟩,
     ⟨some 34, .ld (.t 33) 1 false, none, []⟩,
     ⟨some 35, .bin .add (.t 34) (.c (.int .i64 1)), none, []⟩,
     ⟨some 36, .addo (.t 9) 1, none, []⟩,
     ⟨none, .st (.t 36) (.t 35) 1, none, []⟩])
     (.seq (.reg [
     ⟨some 37, .ld (.t 10) 1 false, none, []⟩,
     ⟨some 38, .mv (.t 37), none, []⟩,
     ⟨some 39, .mv (.t 12), some (38, true), []⟩,
     ⟨some 40, .bin .eql (.t 39) (.c (.int .u8 0)), some (38, true), []⟩,
     ⟨some 41, .pick (.t 38) (.t 40) (.c (.bool false)), none, []⟩,
     ⟨none, .st (.t 10) (.t 41) 1, none, []⟩])
     (.seq (.reg [
     ⟨some 42, .ld (.t 10) 1 false, none, []⟩])
     (.cond (.t 42)
     (.reg [
      ⟨some 43, .addo (.t 9) 0, none, []⟩,
      ⟨some 44, .ld (.t 43) 1 false, none, []⟩,
      ⟨some 45, .bin .add (.t 44) (.c (.int .i64 1)), none, []⟩,
      ⟨some 46, .addo (.t 9) 0, none, []⟩,
      ⟨none, .st (.t 46) (.t 45) 1, none, []⟩])
     .skip))))))))))
  (.seq (.reg [
  ⟨some 47, .ld (.t 9) 2 true, none, []⟩,
  ⟨none, .st (.t 6) (.t 47) 2, none, []⟩,
  ⟨some 7, .mv (.c (.int .i64 0)), none, []⟩])
  .ret))))))
def r33 : List RV := [.cell 6 2 true, .tmp 7]
theorem n33 : Try.f33.ntmps = 48 := by kernel_rfl
theorem b33 : bodyB Try.prog 33 = true := by kernel_rfl
theorem c33_ok : cmpC Try.prog c33 ((Try.f33.body).getD .skip) = true := by kernel_rfl
theorem r33_ok : cmpR Try.prog r33 Try.f33.results.toList = true := by kernel_rfl
theorem t33 {args : List SV} {res : SV} (ka : KFL args) (kr : KF res) (h : sx Try.prog Y0 0 c33 (st0 args 48) (retK r33 res)) (hA : Nat.ble args.length 48 = true := by rfl) : Ct Try.prog 33 args res := ct_intro Try.func33 rfl b33 c33_ok r33_ok n33 (Nat.le_of_ble_eq_true hA) ka kr h
/- azalai/azalairef01.Lasts -/
def c34 : SC := (.seq (.reg [
  ⟨some 3, .box (.t 0) 0 25, none, []⟩,
  ⟨some 4, .box (.t 1) 0 27, none, []⟩,
  ⟨some 5, .box (.t 2) 0 29, none, []⟩,
  ⟨some 6, .alloc [.int .i64 0, .int .i64 0] 23, none, []⟩,
  ⟨some 7, .mv (.c (.int .i64 0)), none, []⟩])
  (.seq (.seq (.reg [
  ⟨some 13, .ld (.t 3) 17 true, none, []⟩,
  ⟨some 14, .ld (.t 4) 7 true, none, []⟩,
  ⟨some 15, .ld (.t 5) 8 true, none, []⟩,
  ⟨some 16, .bsl 8 29 [.t 15], none, []⟩,
  ⟨some 17, .call 70 [.t 13, .t 14, .t 16], none, []⟩,
  ⟨some 8, .mv (.t 17), none, []⟩])
  (.seq (.reg [
  ⟨some 18, .mv (.t 8), none, []⟩,
  ⟨some 19, .bin .neq (.t 18) (.c (.int .i64 0)), none, []⟩])
  (.cond (.t 19)
  (.seq (.reg [
   ⟨some 20, .build [.int .i64 0, .int .i64 0] [], none, []⟩,
   ⟨some 21, .mv (.t 8), none, []⟩,
   ⟨none, .st (.t 6) (.t 20) 2, none, []⟩,
   ⟨some 7, .mv (.t 21), none, []⟩])
   .ret)
  .skip)))
  (.seq (.reg [
  ⟨some 22, .build [.int .i64 0, .int .i64 0] [(0, 1, .c (.int .i64 60)), (1, 1, .c (.int .i64 60))], none, []⟩,
  ⟨some 9, .alloc [.int .i64 0, .int .i64 0] 23, none, []⟩,
  ⟨none, .st (.t 9) (.t 22) 2, none, []⟩])
  (.seq (.seq (.reg [
  ⟨some 10, .mv (.c (.int .i64 0)), none, []⟩])
  (.block 0 (.loop (.seq (.seq (.reg [
    ⟨some 23, .mv (.t 10), none, []⟩,
    ⟨some 24, .bin .lss (.t 23) (.c (.int .i64 60)), none, []⟩])
    (.cond (.t 24)
    .skip
    (.exit 0)))
    (.seq (.block 1 (.seq (.reg [
     ⟨some 28, .ld (.t 3) 17 true, none, []⟩,
     ⟨some 29, .ld (.t 4) 7 true, none, []⟩,
     ⟨some 30, .ld (.t 5) 8 true, none, []⟩,
     ⟨some 31, .call 74 [.t 28, .t 29, .t 30], none, []⟩,
     ⟨some 27, .mv (.t 31), none, []⟩,
     ⟨some 32, .ext (.t 27) 0, none, []⟩,
     ⟨some 33, .ext (.t 27) 1, none, []⟩,
     ⟨some 11, .alloc [.int .i64 0, .int .i64 0, .int .i64 0, .int .i64 0, .int .i64 0, .int .i64 0, .bool false] 27, none, []⟩,
     ⟨none, .st (.t 11) (.t 32) 7, none, []⟩,
     ⟨some 12, .mv (.t 33), none, []⟩])
     (.seq (.seq (.reg [
     ⟨some 34, .mv (.t 12), none, []⟩,
     ⟨some 35, .bin .eql (.t 34) (.c (.int .i64 2)), none, []⟩])
     (.cond (.t 35)
     (.seq (.reg [
      ⟨some 36, .mv (.t 10), none, []⟩,
      ⟨some 37, .addo (.t 9) 1, none, []⟩,
      ⟨none, .st (.t 37) (.t 36) 1, none, []⟩])
      (.seq (.reg [
      ⟨some 38, .addo (.t 9) 0, none, []⟩,
      ⟨some 39, .ld (.t 38) 1 false, none, []⟩,
      ⟨some 40, .mv (.t 10), none, []⟩,
      ⟨some 41, .mm false [.t 39, .t 40], none, []⟩,
      ⟨some 42, .addo (.t 9) 0, none, []⟩,
      ⟨none, .st (.t 42) (.t 41) 1, none, []⟩])
      (.exit 0)))
     .skip))
     (.seq (.seq (.reg [
     ⟨some 43, .mv (.t 12), none, []⟩,
     ⟨some 44, .bin .eql (.t 43) (.c (.int .i64 1)), none, []⟩])
     (.cond (.t 44)
     (.reg [
      ⟨some 45, .addo (.t 9) 0, none, []⟩,
      ⟨some 46, .ld (.t 45) 1 false, none, []⟩,
      ⟨some 47, .mv (.t 10), none, []⟩,
      ⟨some 48, .mm false [.t 46, .t 47], none, []⟩,
      ⟨some 49, .addo (.t 9) 0, none, []⟩,
      ⟨none, .st (.t 49) (.t 48) 1, none, []⟩])
     .skip))
     (.reg [
     ⟨some 50, .ld (.t 11) 7 true, none, []⟩,
     ⟨none, .st (.t 4) (.t 50) 7, none, []⟩])))))
    (.reg [
    ⟨some 25, .mv (.t 10), none, []⟩,
    ⟨some 26, .bin .add (.t 25) (.c (.int .i64 1)), none, []⟩,
    ⟨some 10, .mv (.t 26), none, []⟩]))))))
  (.seq (.reg [
  ⟨some 51, .ld (.t 9) 2 true, none, []⟩,
  ⟨none, .st (.t 6) (.t 51) 2, none, []⟩,
  ⟨some 7, .mv (.c (.int .i64 0)), none, []⟩])
  .ret)))))
def r34 : List RV := [.cell 6 2 true, .tmp 7]
theorem n34 : Try.f34.ntmps = 52 := by kernel_rfl
theorem b34 : bodyB Try.prog 34 = true := by kernel_rfl
theorem c34_ok : cmpC Try.prog c34 ((Try.f34.body).getD .skip) = true := by kernel_rfl
theorem r34_ok : cmpR Try.prog r34 Try.f34.results.toList = true := by kernel_rfl
theorem t34 {args : List SV} {res : SV} (ka : KFL args) (kr : KF res) (h : sx Try.prog Y0 0 c34 (st0 args 52) (retK r34 res)) (hA : Nat.ble args.length 52 = true := by rfl) : Ct Try.prog 34 args res := ct_intro Try.func34 rfl b34 c34_ok r34_ok n34 (Nat.le_of_ble_eq_true hA) ka kr h
/- (azalai/camel.beast).days -/
def c75 : SC := (.seq (.reg [
  ⟨some 2, .box (.t 0) 0 107, none, []⟩,
  ⟨some 3, .box (.t 1) 0 44, none, []⟩,
  ⟨some 4, .mv (.c (.nilFunc)), none, []⟩])
  (.seq (.reg [
  ⟨some 5, .mkf 95 [.t 3, .t 2], none, []⟩,
  ⟨some 4, .mv (.t 5), none, []⟩])
  .ret))
def r75 : List RV := [.tmp 4]
theorem n75 : Try.f75.ntmps = 6 := by kernel_rfl
theorem b75 : bodyB Try.prog 75 = true := by kernel_rfl
theorem c75_ok : cmpC Try.prog c75 ((Try.f75.body).getD .skip) = true := by kernel_rfl
theorem r75_ok : cmpR Try.prog r75 Try.f75.results.toList = true := by kernel_rfl
theorem t75 {args : List SV} {res : SV} (ka : KFL args) (kr : KF res) (h : sx Try.prog Y0 0 c75 (st0 args 6) (retK r75 res)) (hA : Nat.ble args.length 6 = true := by rfl) : Ct Try.prog 75 args res := ct_intro Try.func75 rfl b75 c75_ok r75_ok n75 (Nat.le_of_ble_eq_true hA) ka kr h
theorem y75 {Y : Hd} {n0 : Nat} {hp0 : List (Nat × HB)} {args : List SV} {Post : Ot → Prop} (h : sx Try.prog Y n0 c75 ⟨enum 0 args, hp0, n0, 6, []⟩ (retM r75 Post)) (hA : Nat.ble args.length 6 = true := by rfl) : CtY Try.prog Y 75 hp0 n0 args Post := cty_intro Try.func75 rfl c75_ok r75_ok n75 (Nat.le_of_ble_eq_true hA) h
theorem m75 {n0 : Nat} {hp0 : List (Nat × HB)} {args : List SV} {Post : Ot → Prop} (hh : hpb n0 hp0) (hx : ∀ o, Post o → KX o.res ∧ KXP o.hp) (h : sx Try.prog Y0 n0 c75 ⟨enum 0 args, hp0, n0, 6, []⟩ (retM r75 fun o => ∃ o', Post o' ∧ EntO n0 o o')) (hA : Nat.ble args.length 6 = true := by rfl) : CtM Try.prog 75 hp0 n0 args Post := ctm_intro Try.func75 rfl b75 c75_ok r75_ok n75 (Nat.le_of_ble_eq_true hA) hh hx h
/- (azalai/camel.beast).days$1 -/
def c95 : SC := (.seq (.reg [
  ⟨some 8, .ld (.t 1) 1 false, none, []⟩,
  ⟨some 9, .len (.t 8), none, []⟩,
  ⟨some 10, .mv (.c (.int .i64 0)), none, []⟩])
  (.block 0 (.loop (.seq (.reg [
    ⟨some 11, .bin .lss (.t 10) (.t 9), none, []⟩])
    (.seq (.cond (.t 11)
    .skip
    (.exit 0))
    (.seq (.block 1 (.seq (.reg [
     ⟨some 12, .ixs (.t 8) (.t 10) 8, none, []⟩,
     ⟨some 13, .ld (.t 12) 8 true, none, []⟩,
     ⟨some 5, .alloc [.int .i64 0, .int .i64 0, .int .i64 0, .int .i64 0, .int .i64 0, .int .i64 0, .int .i64 0, .int .i64 0] 29, none, []⟩,
     ⟨none, .st (.t 5) (.t 13) 8, none, []⟩])
     (.seq (.reg [
     ⟨some 15, .ld (.t 2) 24 true, none, []⟩,
     ⟨some 16, .ld (.t 5) 8 true, none, []⟩,
     ⟨some 17, .call 68 [.t 15, .t 16], none, []⟩,
     ⟨some 14, .mv (.t 17), none, []⟩,
     ⟨some 18, .ext (.t 14) 0, none, []⟩,
     ⟨some 19, .ext (.t 14) 1, none, []⟩,
     ⟨some 6, .alloc [.int .i64 0, .int .i64 0, .int .i64 0, .int .i64 0, .int .i64 0, .int .i64 0, .int .i64 0, .int .i64 0, .int .i64 0, .int .i64 0, .int .i64 0, .int .i64 0, .int .i64 0, .int .i64 0, .int .i64 0, .int .i64 0, .int .i64 0, .int .i64 0, .int .i64 0, .int .i64 0, .int .i64 0, .int .i64 0, .int .i64 0, .bool false] 107, none, []⟩,
     ⟨none, .st (.t 6) (.t 18) 24, none, []⟩,
     ⟨some 7, .mv (.t 19), none, []⟩])
     (.seq (.seq (.reg [
     ⟨some 20, .mv (.t 0), none, []⟩,
     ⟨some 21, .ld (.t 6) 24 true, none, []⟩,
     ⟨some 22, .mv (.t 7), none, []⟩,
     ⟨some 23, .calvm (.t 20) [.t 21, .t 22], none, []⟩,
     ⟨some 24, .un .not (.t 23), none, []⟩,
     ⟨some 25, .mv (.t 24), none, []⟩,
     ⟨some 26, .mv (.t 7), some (25, false), []⟩,
     ⟨some 27, .bin .eql (.t 26) (.c (.int .u8 2)), some (25, false), []⟩,
     ⟨some 28, .pick (.t 25) (.c (.bool true)) (.t 27), none, []⟩])
     (.cond (.t 28)
     .ret
     .skip))
     (.reg [
     ⟨some 29, .ld (.t 6) 24 true, none, []⟩,
     ⟨none, .st (.t 2) (.t 29) 24, none, []⟩])))))
    (.reg [
    ⟨some 30, .bin .add (.t 10) (.c (.int .i64 1)), none, []⟩,
    ⟨some 10, .mv (.t 30), none, []⟩])))))))
def r95 : List RV := []
theorem n95 : Try.f95.ntmps = 31 := by kernel_rfl
theorem b95 : bodyB Try.prog 95 = true := by kernel_rfl
theorem c95_ok : cmpC Try.prog c95 ((Try.f95.body).getD .skip) = true := by kernel_rfl
theorem r95_ok : cmpR Try.prog r95 Try.f95.results.toList = true := by kernel_rfl
theorem t95 {args : List SV} {res : SV} (ka : KFL args) (kr : KF res) (h : sx Try.prog Y0 0 c95 (st0 args 31) (retK r95 res)) (hA : Nat.ble args.length 31 = true := by rfl) : Ct Try.prog 95 args res := ct_intro Try.func95 rfl b95 c95_ok r95_ok n95 (Nat.le_of_ble_eq_true hA) ka kr h
theorem y95 {Y : Hd} {n0 : Nat} {hp0 : List (Nat × HB)} {args : List SV} {Post : Ot → Prop} (h : sx Try.prog Y n0 c95 ⟨enum 0 args, hp0, n0, 31, []⟩ (retM r95 Post)) (hA : Nat.ble args.length 31 = true := by rfl) : CtY Try.prog Y 95 hp0 n0 args Post := cty_intro Try.func95 rfl c95_ok r95_ok n95 (Nat.le_of_ble_eq_true hA) h
theorem m95 {n0 : Nat} {hp0 : List (Nat × HB)} {args : List SV} {Post : Ot → Prop} (hh : hpb n0 hp0) (hx : ∀ o, Post o → KX o.res ∧ KXP o.hp) (h : sx Try.prog Y0 n0 c95 ⟨enum 0 args, hp0, n0, 31, []⟩ (retM r95 fun o => ∃ o', Post o' ∧ EntO n0 o o')) (hA : Nat.ble args.length 31 = true := by rfl) : CtM Try.prog 95 hp0 n0 args Post := ctm_intro Try.func95 rfl b95 c95_ok r95_ok n95 (Nat.le_of_ble_eq_true hA) hh hx h
/- azalai/azalailaw01.CamelDays -/
def c5 : SC := (.seq (.reg [
  ⟨some 4, .box (.t 0) 0 25, none, []⟩,
  ⟨some 5, .box (.t 1) 0 27, none, []⟩,
  ⟨some 7, .box (.t 3) 0 29, none, []⟩,
  ⟨some 8, .mv (.c (.bool false)), none, []⟩])
  (.seq (.seq (.reg [
  ⟨some 29, .mv (.t 2), none, []⟩,
  ⟨some 30, .len (.t 29), none, []⟩,
  ⟨some 31, .bin .gtr (.t 30) (.c (.int .i64 100)), none, []⟩])
  (.cond (.t 31)
  (.seq (.reg [
   ⟨some 8, .mv (.c (.bool true)), none, []⟩])
   .ret)
  .skip))
  (.seq (.reg [
  ⟨some 32, .bsl 8 29 [], none, []⟩,
  ⟨some 33, .mv (.t 2), none, []⟩,
  ⟨some 34, .app 8 64 29 (.t 32) (.t 33), none, []⟩,
  ⟨some 9, .mv (.t 34), none, []⟩])
  (.seq (.reg [
  ⟨some 36, .ld (.t 4) 17 true, none, []⟩,
  ⟨some 37, .ld (.t 5) 7 true, none, []⟩,
  ⟨some 38, .ld (.t 7) 8 true, none, []⟩,
  ⟨some 39, .call 29 [.t 36, .t 37, .t 38], none, []⟩,
  ⟨some 35, .mv (.t 39), none, []⟩,
  ⟨some 40, .ext (.t 35) 0, none, []⟩,
  ⟨some 41, .ext (.t 35) 1, none, []⟩,
  ⟨some 42, .ext (.t 35) 2, none, []⟩,
  ⟨some 10, .alloc [.int .i64 0, .int .i64 0, .int .i64 0, .int .i64 0, .int .i64 0, .int .i64 0, .bool false] 27, none, []⟩,
  ⟨none, .st (.t 10) (.t 40) 7, none, []⟩,
  ⟨some 11, .mv (.t 41), none, []⟩,
  ⟨some 12, .mv (.t 42), none, []⟩])
  (.seq (.reg [
  ⟨some 44, .ld (.t 4) 17 true, none, []⟩,
  ⟨some 45, .ld (.t 5) 7 true, none, []⟩,
  ⟨some 46, .ld (.t 7) 8 true, none, []⟩,
  ⟨some 47, .call 30 [.t 44, .t 45, .t 46], none, []⟩,
  ⟨some 43, .mv (.t 47), none, []⟩,
  ⟨some 48, .ext (.t 43) 0, none, []⟩,
  ⟨some 49, .ext (.t 43) 1, none, []⟩,
  ⟨some 50, .ext (.t 43) 2, none, []⟩,
  ⟨some 13, .alloc [.int .i64 0, .int .i64 0, .int .i64 0, .int .i64 0, .int .i64 0, .int .i64 0, .bool false] 27, none, []⟩,
  ⟨none, .st (.t 13) (.t 48) 7, none, []⟩,
  ⟨some 14, .mv (.t 49), none, []⟩,
  ⟨some 15, .mv (.t 50), none, []⟩])
  (.seq (.reg [
  ⟨some 52, .ld (.t 4) 17 true, none, []⟩,
  ⟨some 53, .ld (.t 5) 7 true, none, []⟩,
  ⟨some 54, .mv (.t 9), none, []⟩,
  ⟨some 55, .call 31 [.t 52, .t 53, .t 54], none, []⟩,
  ⟨some 51, .mv (.t 55), none, []⟩,
  ⟨some 56, .ext (.t 51) 0, none, []⟩,
  ⟨some 57, .ext (.t 51) 1, none, []⟩,
  ⟨some 58, .ext (.t 51) 2, none, []⟩,
  ⟨some 59, .ext (.t 51) 3, none, []⟩,
  ⟨some 16, .mv (.t 56), none, []⟩,
  ⟨some 17, .mv (.t 57), none, []⟩,
  ⟨some 18, .mv (.t 58), none, []⟩,
  ⟨some 19, .mv (.t 59), none, []⟩])
  (.seq (.reg [
  ⟨some 61, .ld (.t 4) 17 true, none, []⟩,
  ⟨some 62, .ld (.t 5) 7 true, none, []⟩,
  ⟨some 63, .mv (.t 2), none, []⟩,
  ⟨some 64, .call 32 [.t 61, .t 62, .t 63], none, []⟩,
  ⟨some 60, .mv (.t 64), none, []⟩,
  ⟨some 65, .ext (.t 60) 0, none, []⟩,
  ⟨some 66, .ext (.t 60) 1, none, []⟩,
  ⟨some 67, .ext (.t 60) 2, none, []⟩,
  ⟨some 68, .ext (.t 60) 3, none, []⟩,
  ⟨some 20, .mv (.t 65), none, []⟩,
  ⟨some 21, .mv (.t 66), none, []⟩,
  ⟨some 22, .mv (.t 67), none, []⟩,
  ⟨some 23, .mv (.t 68), none, []⟩])
  (.seq (.reg [
  ⟨some 70, .ld (.t 4) 17 true, none, []⟩,
  ⟨some 71, .ld (.t 5) 7 true, none, []⟩,
  ⟨some 72, .ld (.t 7) 8 true, none, []⟩,
  ⟨some 73, .call 33 [.t 70, .t 71, .t 72], none, []⟩,
  ⟨some 69, .mv (.t 73), none, []⟩,
  ⟨some 74, .ext (.t 69) 0, none, []⟩,
  ⟨some 75, .ext (.t 69) 1, none, []⟩,
  ⟨some 24, .alloc [.int .i64 0, .int .i64 0] 23, none, []⟩,
  ⟨none, .st (.t 24) (.t 74) 2, none, []⟩,
  ⟨some 25, .mv (.t 75), none, []⟩])
  (.seq (.reg [
  ⟨some 77, .ld (.t 4) 17 true, none, []⟩,
  ⟨some 78, .ld (.t 5) 7 true, none, []⟩,
  ⟨some 79, .ld (.t 7) 8 true, none, []⟩,
  ⟨some 80, .call 34 [.t 77, .t 78, .t 79], none, []⟩,
  ⟨some 76, .mv (.t 80), none, []⟩,
  ⟨some 81, .ext (.t 76) 0, none, []⟩,
  ⟨some 82, .ext (.t 76) 1, none, []⟩,
  ⟨some 26, .alloc [.int .i64 0, .int .i64 0] 23, none, []⟩,
  ⟨none, .st (.t 26) (.t 81) 2, none, []⟩,
  ⟨some 27, .mv (.t 82), none, []⟩])
  (.seq (.seq (.reg [
  ⟨some 83, .mv (.t 2), none, []⟩,
  ⟨some 84, .len (.t 83), none, []⟩,
  ⟨some 85, .mv (.c (.int .i64 0)), none, []⟩])
  (.block 0 (.loop (.seq (.reg [
    ⟨some 86, .bin .lss (.t 85) (.t 84), none, []⟩])
    (.seq (.cond (.t 86)
    .skip
    (.exit 0))
    (.seq (.block 1 (.seq (.reg [
     ⟨some 87, .mv (.t 85), none, []⟩,
     ⟨some 28, .mv (.t 87), none, []⟩])
     (.seq (.regd [0, 1, 2, 3, 4, 5, 6, 7, 8] [
     .op ⟨some 88, .mv (.t 9), none, []⟩,
     .op ⟨some 89, .mv (.t 28), none, []⟩,
     .op ⟨some 90, .ixs (.t 88) (.t 89) 8, none, [0, 1]⟩,
     .op ⟨some 91, .ld (.t 90) 8 true, none, [2]⟩,
     .op ⟨some 92, .mv (.t 2), none, []⟩,
     .op ⟨some 93, .mv (.t 28), none, []⟩,
     .op ⟨some 94, .ixs (.t 92) (.t 93) 8, none, [4, 5]⟩,
     .op ⟨some 95, .ld (.t 94) 8 true, none, [6]⟩,
     .op ⟨some 96, .eqs true true [1, 1, 1, 1, 1, 1, 1, 1] (.t 91) (.t 95), none, [3, 7]⟩] 0 0 [
])
     (.cond (.t 96)
     (.seq (.reg [
      ⟨some 8, .mv (.c (.bool false)), none, []⟩])
      .ret)
     .skip))))
    (.reg [
    ⟨some 97, .bin .add (.t 85) (.c (.int .i64 1)), none, []⟩,
    ⟨some 85, .mv (.t 97), none, []⟩])))))))
  (.seq (.reg [
  ⟨some 98, .ld (.t 10) 7 true, none, []⟩,
  ⟨some 99, .ld (.t 13) 7 true, none, []⟩,
  ⟨some 100, .eqs false true [1, 1, 1, 1, 1, 1, 0] (.t 98) (.t 99), none, []⟩,
  ⟨some 101, .mv (.t 100), none, []⟩,
  ⟨some 102, .mv (.t 11), some (101, true), []⟩,
  ⟨some 103, .conv .i64 (.t 102), some (101, true), []⟩,
  ⟨some 104, .mv (.t 14), some (101, true), []⟩,
  ⟨some 105, .bin .eql (.t 103) (.t 104), some (101, true), []⟩,
  ⟨some 106, .pick (.t 101) (.t 105) (.c (.bool false)), none, []⟩,
  ⟨some 107, .mv (.t 106), none, []⟩,
  ⟨some 108, .mv (.t 12), some (107, true), []⟩,
  ⟨some 109, .mv (.t 15), some (107, true), []⟩,
  ⟨some 110, .bin .eql (.t 108) (.t 109), some (107, true), []⟩,
  ⟨some 111, .pick (.t 107) (.t 110) (.c (.bool false)), none, []⟩,
  ⟨some 112, .mv (.t 111), none, []⟩,
  ⟨some 113, .mv (.t 16), some (112, true), []⟩,
  ⟨some 114, .mv (.t 20), some (112, true), []⟩,
  ⟨some 115, .call 28 [.t 113, .t 114], some (112, true), []⟩,
  ⟨some 116, .pick (.t 112) (.t 115) (.c (.bool false)), none, []⟩,
  ⟨some 117, .mv (.t 116), none, []⟩,
  ⟨some 118, .mv (.t 17), some (117, true), []⟩,
  ⟨some 119, .conv .i64 (.t 118), some (117, true), []⟩,
  ⟨some 120, .mv (.t 21), some (117, true), []⟩,
  ⟨some 121, .bin .eql (.t 119) (.t 120), some (117, true), []⟩,
  ⟨some 122, .pick (.t 117) (.t 121) (.c (.bool false)), none, []⟩,
  ⟨some 123, .mv (.t 122), none, []⟩,
  ⟨some 124, .mv (.t 18), some (123, true), []⟩,
  ⟨some 125, .mv (.t 22), some (123, true), []⟩,
  ⟨some 126, .bin .eql (.t 124) (.t 125), some (123, true), []⟩,
  ⟨some 127, .pick (.t 123) (.t 126) (.c (.bool false)), none, []⟩,
  ⟨some 128, .mv (.t 127), none, []⟩,
  ⟨some 129, .mv (.t 19), some (128, true), []⟩,
  ⟨some 130, .mv (.t 23), some (128, true), []⟩,
  ⟨some 131, .bin .eql (.t 129) (.t 130), some (128, true), []⟩,
  ⟨some 132, .pick (.t 128) (.t 131) (.c (.bool false)), none, []⟩,
  ⟨some 133, .mv (.t 132), none, []⟩,
  ⟨some 134, .ld (.t 24) 2 true, some (133, true), []⟩,
  ⟨some 135, .ld (.t 26) 2 true, some (133, true), []⟩,
  ⟨some 136, .eqs false true [1, 1] (.t 134) (.t 135), some (133, true), []⟩,
  ⟨some 137, .pick (.t 133) (.t 136) (.c (.bool false)), none, []⟩,
  ⟨some 138, .mv (.t 137), none, []⟩,
  ⟨some 139, .mv (.t 25), some (138, true), []⟩,
  ⟨some 140, .mv (.t 27), some (138, true), []⟩,
  ⟨some 141, .bin .eql (.t 139) (.t 140), some (138, true), []⟩,
  ⟨some 142, .pick (.t 138) (.t 141) (.c (.bool false)), none, []⟩,
  ⟨some 8, .mv (.t 142), none, []⟩])
  .ret)))))))))))
def r5 : List RV := [.tmp 8]
theorem n5 : Try.f5.ntmps = 143 := by kernel_rfl
theorem b5 : bodyB Try.prog 5 = true := by kernel_rfl
theorem c5_ok : cmpC Try.prog c5 ((Try.f5.body).getD .skip) = true := by kernel_rfl
theorem r5_ok : cmpR Try.prog r5 Try.f5.results.toList = true := by kernel_rfl
theorem t5 {args : List SV} {res : SV} (ka : KFL args) (kr : KF res) (h : sx Try.prog Y0 0 c5 (st0 args 143) (retK r5 res)) (hA : Nat.ble args.length 143 = true := by rfl) : Ct Try.prog 5 args res := ct_intro Try.func5 rfl b5 c5_ok r5_ok n5 (Nat.le_of_ble_eq_true hA) ka kr h
/- slices.Repeat[[]azalai/api.March,azalai/api.March] -/
def c76 : SC := (.seq (.reg [
  ⟨some 4, .mv (.c (.slice none 0 0)), none, []⟩])
  (.seq (.seq (.reg [
  ⟨some 9, .mv (.t 1), none, []⟩,
  ⟨some 10, .bin .lss (.t 9) (.c (.int .i64 0)), none, []⟩])
  (.cond (.t 10)
  (.reg [
   ⟨some 11, .raw (Go.Op.makeInterface 9 (Go.Operand.const (Go.Value.string { data := #[99, 97, 110, 110, 111, 116, 32, 98, 101, 32, 110, 101, 103, 97, 116, 105, 118, 101] }))) 20, none, []⟩,
   ⟨none, .raw (Go.Op.panic (Go.Operand.tmp 11)) 0, none, []⟩])
  .skip))
  (.seq (.reg [
  ⟨some 13, .mv (.t 0), none, []⟩,
  ⟨some 14, .len (.t 13), none, []⟩,
  ⟨some 15, .conv .u64 (.t 14), none, []⟩,
  ⟨some 16, .mv (.t 1), none, []⟩,
  ⟨some 17, .conv .u64 (.t 16), none, []⟩,
  ⟨some 18, .call 96 [.t 15, .t 17], none, []⟩,
  ⟨some 12, .mv (.t 18), none, []⟩,
  ⟨some 19, .ext (.t 12) 0, none, []⟩,
  ⟨some 20, .ext (.t 12) 1, none, []⟩,
  ⟨some 5, .mv (.t 19), none, []⟩,
  ⟨some 6, .mv (.t 20), none, []⟩])
  (.seq (.seq (.reg [
  ⟨some 21, .mv (.t 5), none, []⟩,
  ⟨some 22, .bin .gtr (.t 21) (.c (.int .u64 0)), none, []⟩,
  ⟨some 23, .mv (.t 22), none, []⟩,
  ⟨some 24, .mv (.t 6), some (23, false), []⟩,
  ⟨some 25, .bin .gtr (.t 24) (.c (.int .u64 9223372036854775807)), some (23, false), []⟩,
  ⟨some 26, .pick (.t 23) (.c (.bool true)) (.t 25), none, []⟩])
  (.cond (.t 26)
  (.reg [
   ⟨some 27, .raw (Go.Op.makeInterface 9 (Go.Operand.const (Go.Value.string { data := #[116, 104, 101, 32, 114, 101, 115, 117, 108, 116, 32, 111, 102, 32, 40, 108, 101, 110, 40, 120, 41, 32, 42, 32, 99, 111, 117, 110, 116, 41, 32, 111, 118, 101, 114, 102, 108, 111, 119, 115] }))) 20, none, []⟩,
   ⟨none, .raw (Go.Op.panic (Go.Operand.tmp 27)) 0, none, []⟩])
  .skip))
  (.seq (.reg [
  ⟨some 28, .mv (.t 6), none, []⟩,
  ⟨some 29, .conv .i64 (.t 28), none, []⟩,
  ⟨some 30, .mks 8 64 [.int .i64 0, .int .i64 0, .int .i64 0, .int .i64 0, .int .i64 0, .int .i64 0, .int .i64 0, .int .i64 0] 29 (.t 29), none, []⟩,
  ⟨some 7, .mv (.t 30), none, []⟩])
  (.seq (.reg [
  ⟨some 31, .mv (.t 7), none, []⟩,
  ⟨some 32, .mv (.t 0), none, []⟩,
  ⟨some 33, .cpy 8 (.t 31) (.t 32), none, []⟩,
  ⟨some 8, .mv (.t 33), none, []⟩])
  (.seq (.block 0 (.loop (.seq (.seq (.reg [
    ⟨some 34, .mv (.t 8), none, []⟩,
    ⟨some 35, .mv (.t 7), none, []⟩,
    ⟨some 36, .len (.t 35), none, []⟩,
    ⟨some 37, .bin .lss (.t 34) (.t 36), none, []⟩])
    (.cond (.t 37)
    .skip
    (.exit 0)))
    (.block 1 (.regd [1, 2, 3, 4, 5, 6, 0, 7, 8, 9] [
     .op ⟨some 39, .mv (.t 7), none, []⟩,
     .op ⟨some 40, .mv (.t 8), none, []⟩,
     .op ⟨some 41, .sub 8 (.t 39) (some (.t 40)) none, none, [1, 2]⟩,
     .op ⟨some 42, .mv (.t 7), none, []⟩,
     .op ⟨some 43, .mv (.t 8), none, []⟩,
     .op ⟨some 44, .sub 8 (.t 42) none (some (.t 43)), none, [4, 5]⟩,
     .hide (.t 41),
     .op ⟨some 38, .mv (.t 8), none, []⟩] 0 1 [
     ⟨some 45, .cpy 8 (.t 41) (.t 44), none, [3, 6]⟩,
     ⟨some 46, .bin .add (.t 38) (.t 45), none, [0, 7]⟩,
     ⟨some 8, .mv (.t 46), none, [0, 1, 2, 3, 4, 5, 6, 7, 8]⟩])))))
  (.seq (.reg [
  ⟨some 47, .mv (.t 7), none, []⟩,
  ⟨some 4, .mv (.t 47), none, []⟩])
  .ret))))))))
def r76 : List RV := [.tmp 4]
theorem n76 : Try.f76.ntmps = 48 := by kernel_rfl
theorem b76 : bodyB Try.prog 76 = true := by kernel_rfl
theorem c76_ok : cmpC Try.prog c76 ((Try.f76.body).getD .skip) = true := by kernel_rfl
theorem r76_ok : cmpR Try.prog r76 Try.f76.results.toList = true := by kernel_rfl
theorem t76 {args : List SV} {res : SV} (ka : KFL args) (kr : KF res) (h : sx Try.prog Y0 0 c76 (st0 args 48) (retK r76 res)) (hA : Nat.ble args.length 48 = true := by rfl) : Ct Try.prog 76 args res := ct_intro Try.func76 rfl b76 c76_ok r76_ok n76 (Nat.le_of_ble_eq_true hA) ka kr h
theorem y76 {Y : Hd} {n0 : Nat} {hp0 : List (Nat × HB)} {args : List SV} {Post : Ot → Prop} (h : sx Try.prog Y n0 c76 ⟨enum 0 args, hp0, n0, 48, []⟩ (retM r76 Post)) (hA : Nat.ble args.length 48 = true := by rfl) : CtY Try.prog Y 76 hp0 n0 args Post := cty_intro Try.func76 rfl c76_ok r76_ok n76 (Nat.le_of_ble_eq_true hA) h
theorem m76 {n0 : Nat} {hp0 : List (Nat × HB)} {args : List SV} {Post : Ot → Prop} (hh : hpb n0 hp0) (hx : ∀ o, Post o → KX o.res ∧ KXP o.hp) (h : sx Try.prog Y0 n0 c76 ⟨enum 0 args, hp0, n0, 48, []⟩ (retM r76 fun o => ∃ o', Post o' ∧ EntO n0 o o')) (hA : Nat.ble args.length 48 = true := by rfl) : CtM Try.prog 76 hp0 n0 args Post := ctm_intro Try.func76 rfl b76 c76_ok r76_ok n76 (Nat.le_of_ble_eq_true hA) hh hx h
/- math/bits.Mul -/
def c96 : SC := (.seq (.reg [
  ⟨some 4, .mv (.c (.int .u64 0)), none, []⟩,
  ⟨some 5, .mv (.c (.int .u64 0)), none, []⟩])
  (.seq (.cond (.c (.bool false))
  (.seq (.reg [
   ⟨some 11, .mv (.t 0), none, []⟩,
   ⟨some 12, .conv .u32 (.t 11), none, []⟩,
   ⟨some 13, .mv (.t 1), none, []⟩,
   ⟨some 14, .conv .u32 (.t 13), none, []⟩,
   ⟨some 15, .call 103 [.t 12, .t 14], none, []⟩,
   ⟨some 10, .mv (.t 15), none, []⟩,
   ⟨some 16, .ext (.t 10) 0, none, []⟩,
   ⟨some 17, .ext (.t 10) 1, none, []⟩,
   ⟨some 6, .mv (.t 16), none, []⟩,
   ⟨some 7, .mv (.t 17), none, []⟩])
   (.seq (.reg [
   ⟨some 18, .mv (.t 6), none, []⟩,
   ⟨some 19, .conv .u64 (.t 18), none, []⟩,
   ⟨some 20, .mv (.t 7), none, []⟩,
   ⟨some 21, .conv .u64 (.t 20), none, []⟩,
   ⟨some 4, .mv (.t 19), none, []⟩,
   ⟨some 5, .mv (.t 21), none, []⟩])
   .ret))
  .skip)
  (.seq (.reg [
  ⟨some 23, .mv (.t 0), none, []⟩,
  ⟨some 24, .mv (.t 1), none, []⟩,
  ⟨some 25, .call 104 [.t 23, .t 24], none, []⟩,
  ⟨some 22, .mv (.t 25), none, []⟩,
  ⟨some 26, .ext (.t 22) 0, none, []⟩,
  ⟨some 27, .ext (.t 22) 1, none, []⟩,
  ⟨some 8, .mv (.t 26), none, []⟩,
  ⟨some 9, .mv (.t 27), none, []⟩])
  (.seq (.reg [
  ⟨some 28, .mv (.t 8), none, []⟩,
  ⟨some 29, .mv (.t 9), none, []⟩,
  ⟨some 4, .mv (.t 28), none, []⟩,
  ⟨some 5, .mv (.t 29), none, []⟩])
  .ret))))
def r96 : List RV := [.tmp 4, .tmp 5]
theorem n96 : Try.f96.ntmps = 30 := by kernel_rfl
theorem b96 : bodyB Try.prog 96 = true := by kernel_rfl
theorem c96_ok : cmpC Try.prog c96 ((Try.f96.body).getD .skip) = true := by kernel_rfl
theorem r96_ok : cmpR Try.prog r96 Try.f96.results.toList = true := by kernel_rfl
theorem t96 {args : List SV} {res : SV} (ka : KFL args) (kr : KF res) (h : sx Try.prog Y0 0 c96 (st0 args 30) (retK r96 res)) (hA : Nat.ble args.length 30 = true := by rfl) : Ct Try.prog 96 args res := ct_intro Try.func96 rfl b96 c96_ok r96_ok n96 (Nat.le_of_ble_eq_true hA) ka kr h
/- math/bits.Mul64 -/
def c104 : SC := (.seq (.reg [
  ⟨some 4, .mv (.c (.int .u64 0)), none, []⟩,
  ⟨some 5, .mv (.c (.int .u64 0)), none, []⟩])
  (.seq (.reg [
  ⟨some 14, .mv (.t 0), none, []⟩,
  ⟨some 15, .raw (Go.Op.binOp Go.BinOp.and 164 (Go.Operand.tmp 14) (Go.Operand.const (Go.Value.int Go.IntKind.u64 4294967295)) 164) 164, none, []⟩,
  ⟨some 6, .mv (.t 15), none, []⟩])
  (.seq (.reg [
  ⟨some 16, .mv (.t 0), none, []⟩,
  ⟨some 17, .raw (Go.Op.binOp Go.BinOp.shr 164 (Go.Operand.tmp 16) (Go.Operand.const (Go.Value.int Go.IntKind.u64 32)) 153) 164, none, []⟩,
  ⟨some 7, .mv (.t 17), none, []⟩])
  (.seq (.reg [
  ⟨some 18, .mv (.t 1), none, []⟩,
  ⟨some 19, .raw (Go.Op.binOp Go.BinOp.and 164 (Go.Operand.tmp 18) (Go.Operand.const (Go.Value.int Go.IntKind.u64 4294967295)) 164) 164, none, []⟩,
  ⟨some 8, .mv (.t 19), none, []⟩])
  (.seq (.reg [
  ⟨some 20, .mv (.t 1), none, []⟩,
  ⟨some 21, .raw (Go.Op.binOp Go.BinOp.shr 164 (Go.Operand.tmp 20) (Go.Operand.const (Go.Value.int Go.IntKind.u64 32)) 153) 164, none, []⟩,
  ⟨some 9, .mv (.t 21), none, []⟩])
  (.seq (.reg [
  ⟨some 22, .mv (.t 6), none, []⟩,
  ⟨some 23, .mv (.t 8), none, []⟩,
  ⟨some 24, .bin .mul (.t 22) (.t 23), none, []⟩,
  ⟨some 10, .mv (.t 24), none, []⟩])
  (.seq (.reg [
  ⟨some 25, .mv (.t 7), none, []⟩,
  ⟨some 26, .mv (.t 8), none, []⟩,
  ⟨some 27, .bin .mul (.t 25) (.t 26), none, []⟩,
  ⟨some 28, .mv (.t 10), none, []⟩,
  ⟨some 29, .raw (Go.Op.binOp Go.BinOp.shr 164 (Go.Operand.tmp 28) (Go.Operand.const (Go.Value.int Go.IntKind.u64 32)) 153) 164, none, []⟩,
  ⟨some 30, .bin .add (.t 27) (.t 29), none, []⟩,
  ⟨some 11, .mv (.t 30), none, []⟩])
  (.seq (.reg [
  ⟨some 31, .mv (.t 11), none, []⟩,
  ⟨some 32, .raw (Go.Op.binOp Go.BinOp.and 164 (Go.Operand.tmp 31) (Go.Operand.const (Go.Value.int Go.IntKind.u64 4294967295)) 164) 164, none, []⟩,
  ⟨some 12, .mv (.t 32), none, []⟩])
  (.seq (.reg [
  ⟨some 33, .mv (.t 11), none, []⟩,
  ⟨some 34, .raw (Go.Op.binOp Go.BinOp.shr 164 (Go.Operand.tmp 33) (Go.Operand.const (Go.Value.int Go.IntKind.u64 32)) 153) 164, none, []⟩,
  ⟨some 13, .mv (.t 34), none, []⟩])
  (.seq (.reg [
  ⟨some 35, .mv (.t 12), none, []⟩,
  ⟨some 36, .mv (.t 6), none, []⟩,
  ⟨some 37, .mv (.t 9), none, []⟩,
  ⟨some 38, .bin .mul (.t 36) (.t 37), none, []⟩,
  ⟨some 39, .bin .add (.t 35) (.t 38), none, []⟩,
  ⟨some 12, .mv (.t 39), none, []⟩])
  (.seq (.reg [
  ⟨some 40, .mv (.t 7), none, []⟩,
  ⟨some 41, .mv (.t 9), none, []⟩,
  ⟨some 42, .bin .mul (.t 40) (.t 41), none, []⟩,
  ⟨some 43, .mv (.t 13), none, []⟩,
  ⟨some 44, .bin .add (.t 42) (.t 43), none, []⟩,
  ⟨some 45, .mv (.t 12), none, []⟩,
  ⟨some 46, .raw (Go.Op.binOp Go.BinOp.shr 164 (Go.Operand.tmp 45) (Go.Operand.const (Go.Value.int Go.IntKind.u64 32)) 153) 164, none, []⟩,
  ⟨some 47, .bin .add (.t 44) (.t 46), none, []⟩,
  ⟨some 4, .mv (.t 47), none, []⟩])
  (.seq (.reg [
  ⟨some 48, .mv (.t 0), none, []⟩,
  ⟨some 49, .mv (.t 1), none, []⟩,
  ⟨some 50, .bin .mul (.t 48) (.t 49), none, []⟩,
  ⟨some 5, .mv (.t 50), none, []⟩])
  .ret))))))))))))
def r104 : List RV := [.tmp 4, .tmp 5]
theorem n104 : Try.f104.ntmps = 51 := by kernel_rfl
theorem b104 : bodyB Try.prog 104 = true := by kernel_rfl
theorem c104_ok : cmpC Try.prog c104 ((Try.f104.body).getD .skip) = true := by kernel_rfl
theorem r104_ok : cmpR Try.prog r104 Try.f104.results.toList = true := by kernel_rfl
theorem t104 {args : List SV} {res : SV} (ka : KFL args) (kr : KF res) (h : sx Try.prog Y0 0 c104 (st0 args 51) (retK r104 res)) (hA : Nat.ble args.length 51 = true := by rfl) : Ct Try.prog 104 args res := ct_intro Try.func104 rfl b104 c104_ok r104_ok n104 (Nat.le_of_ble_eq_true hA) ka kr h
end Go.Proofs.Ytnlfjchbhgikaaa
