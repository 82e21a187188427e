/- Walks and plain laws that lead to the given statement, part 6 of 8. -/
import Derived.Test.YtkjldleglbbkeaaGE
import Derived.Test.YtkjldleglbbkeaaProg
import Derived.MapKept
import Derived.WideKeyRuns
set_option maxRecDepth 100000
namespace Go.Proofs.Ytkjldleglbbkeaa
open Go Go.Sx
def c79 : SC := (.seq (.reg [
  ⟨some 2, .box (.t 0) 0 119, none, []⟩,
  ⟨some 3, .box (.t 1) 0 3, none, []⟩,
  ⟨some 4, .mv (.c (.nilFunc)), none, []⟩])
  (.seq (.reg [
  ⟨some 5, .mkf 97 [.t 2, .t 3], none, []⟩,
  ⟨some 4, .mv (.t 5), none, []⟩])
  .ret))
def r79 : List RV := [.tmp 4]
theorem n79 : Try.f79.ntmps = 6 := by kernel_rfl
theorem b79 : bodyB Try.prog 79 = true := by kernel_rfl
theorem c79_ok : cmpC Try.prog c79 ((Try.f79.body).getD .skip) = true := by kernel_rfl
theorem r79_ok : cmpR Try.prog r79 Try.f79.results.toList = true := by kernel_rfl
theorem m79 {n0 : Nat} {hp0 : List (Nat × HB)} {args : List SV} {Post : Ot → Prop} (hh : hpb n0 hp0) (hx : ∀ o, Post o → KX o.res ∧ KXP o.hp) (h : sx Try.prog Y0 n0 c79 ⟨enum 0 args, hp0, n0, 6, []⟩ (retM r79 fun o => ∃ o', Post o' ∧ EntO n0 o o')) (hA : Nat.ble args.length 6 = true := by rfl) : CtM Try.prog 79 hp0 n0 args Post := ctm_intro Try.func79 rfl b79 c79_ok r79_ok n79 (Nat.le_of_ble_eq_true hA) hh hx h
def c97 : SC := (.seq (.reg [
  ⟨some 6, .addo (.t 1) 0, none, []⟩,
  ⟨some 7, .addo (.t 6) 1, none, []⟩,
  ⟨some 8, .ld (.t 7) 1 false, none, []⟩,
  ⟨some 9, .len (.t 8), none, []⟩,
  ⟨some 10, .mv (.c (.int .i64 0)), none, []⟩])
  (.block 0 (.loop (.seq (.reg [
    ⟨some 11, .bin .lss (.t 10) (.t 9), none, []⟩])
    (.seq (.cond (.t 11)
    .skip
    (.exit 0))
    (.seq (.block 1 (.seq (.reg [
     ⟨some 12, .mv (.t 10), none, []⟩,
     ⟨some 13, .ixs (.t 8) (.t 10) 5, none, []⟩,
     ⟨some 14, .ld (.t 13) 5 true, none, []⟩,
     ⟨some 5, .alloc [.int .i64 0, .int .i64 0, .int .i64 0, .int .i64 0, .slice none 0 0] 86, none, []⟩,
     ⟨some 4, .mv (.t 12), none, []⟩,
     ⟨none, .st (.t 5) (.t 14) 5, none, []⟩])
     (.seq (.reg [
     ⟨some 15, .ld (.t 2) 1 false, none, []⟩])
     (.block 2 (.seq (.reg [
      ⟨some 17, .addo (.t 5) 0, none, []⟩,
      ⟨some 18, .ld (.t 17) 1 false, none, []⟩,
      ⟨some 19, .bin .eql (.t 15) (.t 18), none, []⟩,
      ⟨some 16, .mv (.t 19), none, []⟩])
      (.cond (.t 16)
      (.seq (.reg [
       ⟨some 20, .mv (.t 0), none, []⟩,
       ⟨some 21, .mv (.t 4), none, []⟩,
       ⟨some 22, .addo (.t 5) 1, none, []⟩,
       ⟨some 23, .ld (.t 22) 1 false, none, []⟩,
       ⟨some 24, .calvm (.t 20) [.t 21, .t 23], none, []⟩,
       ⟨some 25, .un .not (.t 24), none, []⟩])
       (.cond (.t 25)
       .ret
       .skip))
      (.seq (.reg [
       ⟨some 27, .addo (.t 5) 1, none, []⟩,
       ⟨some 28, .ld (.t 27) 1 false, none, []⟩,
       ⟨some 29, .bin .eql (.t 15) (.t 28), none, []⟩,
       ⟨some 26, .mv (.t 29), none, []⟩])
       (.cond (.t 26)
       (.seq (.reg [
        ⟨some 30, .mv (.t 0), none, []⟩,
        ⟨some 31, .mv (.t 4), none, []⟩,
        ⟨some 32, .addo (.t 5) 0, none, []⟩,
        ⟨some 33, .ld (.t 32) 1 false, none, []⟩,
        ⟨some 34, .calvm (.t 30) [.t 31, .t 33], none, []⟩,
        ⟨some 35, .un .not (.t 34), none, []⟩])
        (.cond (.t 35)
        .ret
        .skip))
       .skip))))))))
    (.reg [
    ⟨some 36, .bin .add (.t 10) (.c (.int .i64 1)), none, []⟩,
    ⟨some 10, .mv (.t 36), none, []⟩])))))))
def r97 : List RV := []
theorem n97 : Try.f97.ntmps = 37 := by kernel_rfl
theorem b97 : bodyB Try.prog 97 = true := by kernel_rfl
theorem c97_ok : cmpC Try.prog c97 ((Try.f97.body).getD .skip) = true := by kernel_rfl
theorem r97_ok : cmpR Try.prog r97 Try.f97.results.toList = true := by kernel_rfl
theorem y97 {Y : Hd} {n0 : Nat} {hp0 : List (Nat × HB)} {args : List SV} {Post : Ot → Prop} (h : sx Try.prog Y n0 c97 ⟨enum 0 args, hp0, n0, 37, []⟩ (retM r97 Post)) (hA : Nat.ble args.length 37 = true := by rfl) : CtY Try.prog Y 97 hp0 n0 args Post := cty_intro Try.func97 rfl c97_ok r97_ok n97 (Nat.le_of_ble_eq_true hA) h
def c85 : SC := (.seq (.reg [
  ⟨some 3, .box (.t 0) 0 119, none, []⟩,
  ⟨some 4, .box (.t 1) 0 3, none, []⟩,
  ⟨some 6, .alloc [.int .i64 0] 3, none, []⟩])
  (.seq (.seq (.reg [
  ⟨some 9, .ld (.t 3) 4 true, none, []⟩,
  ⟨some 10, .mv (.t 2), none, []⟩,
  ⟨some 11, .callm 79 [.t 9, .t 10], none, []⟩])
  (.block 0 (.gh (.rfun (.t 11) [12, 13] (.seq (.reg [
    ⟨some 7, .mv (.t 12), none, []⟩])
    (.reg [
    ⟨some 8, .mv (.t 13), none, []⟩]))
   (.block 1 (.seq (.reg [
     ⟨some 14, .mv (.t 7), none, []⟩,
     ⟨some 15, .ld (.t 4) 1 false, none, []⟩,
     ⟨some 16, .bin .eql (.t 14) (.t 15), none, []⟩])
     (.cond (.t 16)
     (.seq (.reg [
      ⟨some 17, .mv (.t 8), none, []⟩,
      ⟨none, .st (.t 6) (.t 17) 1, none, []⟩])
      .ret)
     .skip)))))))
  (.seq (.reg [
  ⟨none, .st (.t 6) (.c (.int .i64 (-1))) 1, none, []⟩])
  .ret)))
def r85 : List RV := [.cell 6 1 false]
theorem n85 : Try.f85.ntmps = 18 := by kernel_rfl
theorem b85 : bodyB Try.prog 85 = true := by kernel_rfl
theorem c85_ok : cmpC Try.prog c85 ((Try.f85.body).getD .skip) = true := by kernel_rfl
theorem r85_ok : cmpR Try.prog r85 Try.f85.results.toList = true := by kernel_rfl
theorem t85 {args : List SV} {res : SV} (ka : KFL args) (kr : KF res) (h : sx Try.prog Y0 0 c85 (st0 args 18) (retK r85 res)) (hA : Nat.ble args.length 18 = true := by rfl) : Ct Try.prog 85 args res := ct_intro Try.func85 rfl b85 c85_ok r85_ok n85 (Nat.le_of_ble_eq_true hA) ka kr h
def c80 : SC := (.seq (.reg [
  ⟨some 3, .box (.t 0) 0 119, none, []⟩,
  ⟨some 5, .box (.t 2) 0 123, none, []⟩,
  ⟨some 6, .alloc [.int .i64 0, .int .i64 0] 123, none, []⟩])
  (.seq (.regd [0, 1, 2, 3, 4, 5, 6, 7, 8, 9, 10] [
  .op ⟨some 10, .ld (.t 3) 4 true, none, []⟩,
  .op ⟨some 11, .mv (.t 1), none, []⟩,
  .op ⟨some 12, .ld (.t 5) 2 true, none, []⟩,
  .op ⟨some 13, .call 68 [.t 10, .t 11, .t 12], none, [0, 1, 2]⟩,
  .op ⟨some 14, .ld (.t 3) 4 true, none, []⟩,
  .op ⟨some 15, .mv (.t 1), none, []⟩,
  .op ⟨some 16, .call 64 [.t 14, .t 15], none, [3, 4, 5]⟩] 2 2 [
  ⟨some 7, .alloc [.int .i64 0, .int .i64 0] 123, none, []⟩,
  ⟨some 8, .alloc [.int .i64 0, .int .i64 0] 123, none, []⟩,
  ⟨none, .st (.t 7) (.t 13) 2, none, [0, 1, 2, 3, 6, 7, 8]⟩,
  ⟨none, .st (.t 8) (.t 16) 2, none, [0, 1, 2, 3, 4, 5, 6, 7, 8, 9]⟩])
  (.seq (.seq (.reg [
  ⟨some 17, .mv (.c (.int .i64 0)), none, []⟩])
  (.block 0 (.loop (.seq (.reg [
    ⟨some 18, .bin .lss (.t 17) (.c (.int .i64 2)), none, []⟩])
    (.seq (.cond (.t 18)
    .skip
    (.exit 0))
    (.seq (.block 1 (.seq (.reg [
     ⟨some 19, .mv (.t 17), none, []⟩,
     ⟨some 9, .mv (.t 19), none, []⟩])
     (.regd [0, 1, 2, 3, 4, 5, 6, 7, 8, 9, 10, 11] [
     .op ⟨some 20, .mv (.t 9), none, []⟩,
     .op ⟨some 21, .mv (.t 9), none, []⟩,
     .op ⟨some 22, .ixa (.t 7) (.t 21) 2 1, none, [1]⟩,
     .op ⟨some 23, .ld (.t 22) 1 false, none, [2]⟩,
     .op ⟨some 24, .mv (.t 9), none, []⟩,
     .op ⟨some 25, .ixa (.t 8) (.t 24) 2 1, none, [4]⟩,
     .op ⟨some 26, .ld (.t 25) 1 false, none, [5]⟩,
     .op ⟨some 27, .bin .add (.t 23) (.t 26), none, [3, 6]⟩,
     .op ⟨some 28, .bsl 1 3 [.t 27], none, [7]⟩,
     .op ⟨some 29, .call 94 [.t 28], none, [8]⟩,
     .op ⟨some 30, .ixa (.t 7) (.t 20) 2 1, none, [0, 1, 2, 3, 4, 5, 6, 7, 8, 9]⟩] 0 1 [
     ⟨none, .st (.t 30) (.t 29) 1, none, [0, 1, 2, 3, 4, 5, 6, 7, 8, 9, 10]⟩])))
    (.reg [
    ⟨some 31, .bin .add (.t 17) (.c (.int .i64 1)), none, []⟩,
    ⟨some 17, .mv (.t 31), none, []⟩])))))))
  (.seq (.reg [
  ⟨some 32, .ld (.t 7) 2 true, none, []⟩,
  ⟨none, .st (.t 6) (.t 32) 2, none, []⟩])
  .ret))))
def r80 : List RV := [.cell 6 2 true]
theorem n80 : Try.f80.ntmps = 33 := by kernel_rfl
theorem b80 : bodyB Try.prog 80 = true := by kernel_rfl
theorem c80_ok : cmpC Try.prog c80 ((Try.f80.body).getD .skip) = true := by kernel_rfl
theorem r80_ok : cmpR Try.prog r80 Try.f80.results.toList = true := by kernel_rfl
theorem t80 {args : List SV} {res : SV} (ka : KFL args) (kr : KF res) (h : sx Try.prog Y0 0 c80 (st0 args 33) (retK r80 res)) (hA : Nat.ble args.length 33 = true := by rfl) : Ct Try.prog 80 args res := ct_intro Try.func80 rfl b80 c80_ok r80_ok n80 (Nat.le_of_ble_eq_true hA) ka kr h
def c83 : SC := (.seq (.reg [
  ⟨some 4, .box (.t 0) 0 119, none, []⟩,
  ⟨some 7, .box (.t 3) 0 3, none, []⟩,
  ⟨some 8, .mv (.c (.slice none 0 0)), none, []⟩])
  (.seq (.reg [
  ⟨some 16, .bsl 1 3 [.c (.int .i64 100001)], none, []⟩,
  ⟨some 17, .addo (.t 4) 0, none, []⟩,
  ⟨some 18, .addo (.t 17) 0, none, []⟩,
  ⟨some 19, .ld (.t 18) 1 false, none, []⟩,
  ⟨some 20, .len (.t 19), none, []⟩,
  ⟨some 21, .callm 99 [.t 16, .t 20], none, []⟩,
  ⟨some 9, .alloc [.slice none 0 0] 59, none, []⟩,
  ⟨none, .st (.t 9) (.t 21) 1, none, []⟩])
  (.seq (.reg [
  ⟨some 22, .ld (.t 9) 1 false, none, []⟩,
  ⟨some 23, .mv (.t 1), none, []⟩,
  ⟨some 24, .mv (.t 2), none, []⟩,
  ⟨some 25, .ixs (.t 22) (.t 23) 1, none, []⟩,
  ⟨none, .st (.t 25) (.t 24) 1, none, []⟩])
  (.seq (.reg [
  ⟨some 26, .raw (Go.Op.makeMap 99 Option.none) 99, none, []⟩,
  ⟨some 10, .mv (.t 26), none, []⟩])
  (.seq (.seq (.reg [
  ⟨some 27, .ld (.t 9) 1 false, none, []⟩,
  ⟨some 28, .len (.t 27), none, []⟩,
  ⟨some 29, .mv (.c (.int .i64 0)), none, []⟩])
  (.block 0 (.loop (.seq (.reg [
    ⟨some 30, .bin .lss (.t 29) (.t 28), none, []⟩])
    (.seq (.cond (.t 30)
    .skip
    (.exit 0))
    (.seq (.block 1 (.seq (.reg [
     ⟨some 31, .mv (.t 29), none, []⟩,
     ⟨some 11, .mv (.t 31), none, []⟩])
     (.reg [
     ⟨some 32, .mv (.t 10), none, []⟩,
     ⟨some 33, .mv (.t 11), none, []⟩,
     ⟨none, .raw (Go.Op.mapUpdate 99 (Go.Operand.tmp 32) (Go.Operand.tmp 33) (Go.Operand.const (Go.Value.bool Bool.true))) 0, none, []⟩])))
    (.reg [
    ⟨some 34, .bin .add (.t 29) (.c (.int .i64 1)), none, []⟩,
    ⟨some 29, .mv (.t 34), none, []⟩])))))))
  (.seq (.block 2 (.loop (.seq (.seq (.reg [
    ⟨some 35, .mv (.t 10), none, []⟩,
    ⟨some 36, .raw (Go.Op.call { callee := (Go.Callee.builtin Go.Builtin.len), args := #[(Go.Operand.tmp 35)], argTypes := #[99] }) 3, none, []⟩,
    ⟨some 37, .bin .gtr (.t 36) (.c (.int .i64 0)), none, []⟩])
    (.cond (.t 37)
    .skip
    (.exit 2)))
    (.block 3 (.seq (.reg [
     ⟨some 12, .alloc [.int .i64 0] 3, none, []⟩,
     ⟨none, .st (.t 12) (.c (.int .i64 (-1))) 1, none, []⟩])
     (.seq (.seq (.reg [
     ⟨some 38, .mv (.t 10), none, []⟩,
     ⟨some 39, .raw (Go.Op.range 99 (Go.Operand.tmp 38)) 0, none, []⟩])
     (.block 4 (.loop (.seq (.reg [
       ⟨some 40, .raw (Go.Op.next (Go.Operand.tmp 39) Bool.false) 0, none, []⟩,
       ⟨some 41, .ext (.t 40) 0, none, []⟩])
       (.seq (.cond (.t 41)
       .skip
       (.exit 4))
       (.block 5 (.seq (.reg [
        ⟨some 42, .raw (Go.Op.entry (Go.Operand.tmp 39)) 0, none, []⟩,
        ⟨some 43, .ext (.t 42) 0, none, []⟩,
        ⟨some 13, .mv (.t 43), none, []⟩])
        (.seq (.regd [0, 1, 2, 3, 4, 5, 6, 7, 8, 9, 10, 11, 12, 13, 14, 15, 16, 17, 18, 19, 20, 21, 22, 23, 24, 25, 26, 27, 28] [
        .op ⟨some 44, .ld (.t 12) 1 false, none, []⟩,
        .op ⟨some 45, .bin .lss (.t 44) (.c (.int .i64 0)), none, [0]⟩,
        .op ⟨some 46, .mv (.t 45), none, [1]⟩,
        .op ⟨some 47, .ld (.t 9) 1 false, some (46, false), [2]⟩,
        .op ⟨some 48, .mv (.t 13), some (46, false), [2]⟩,
        .op ⟨some 49, .ixs (.t 47) (.t 48) 1, some (46, false), [2, 3, 4]⟩,
        .op ⟨some 50, .ld (.t 49) 1 false, some (46, false), [2, 5]⟩,
        .op ⟨some 51, .ld (.t 9) 1 false, some (46, false), [2]⟩,
        .op ⟨some 52, .ld (.t 12) 1 false, some (46, false), [2]⟩,
        .op ⟨some 53, .ixs (.t 51) (.t 52) 1, some (46, false), [2, 7, 8]⟩,
        .op ⟨some 54, .ld (.t 53) 1 false, some (46, false), [2, 9]⟩,
        .op ⟨some 55, .bin .lss (.t 50) (.t 54), some (46, false), [2, 6, 10]⟩,
        .op ⟨some 56, .pick (.t 46) (.c (.bool true)) (.t 55), none, [2, 11]⟩,
        .op ⟨some 57, .mv (.t 56), none, [2, 12]⟩,
        .op ⟨some 58, .ld (.t 9) 1 false, some (57, false), [13]⟩,
        .op ⟨some 59, .mv (.t 13), some (57, false), [13]⟩,
        .op ⟨some 60, .ixs (.t 58) (.t 59) 1, some (57, false), [13, 14, 15]⟩,
        .op ⟨some 61, .ld (.t 60) 1 false, some (57, false), [13, 16]⟩,
        .op ⟨some 62, .ld (.t 9) 1 false, some (57, false), [13]⟩,
        .op ⟨some 63, .ld (.t 12) 1 false, some (57, false), [13]⟩,
        .op ⟨some 64, .ixs (.t 62) (.t 63) 1, some (57, false), [13, 18, 19]⟩,
        .op ⟨some 65, .ld (.t 64) 1 false, some (57, false), [13, 20]⟩,
        .op ⟨some 66, .bin .eql (.t 61) (.t 65), some (57, false), [13, 17, 21]⟩,
        .op ⟨some 67, .mv (.t 66), some (57, false), [13, 22]⟩,
        .op ⟨some 68, .mv (.t 13), some (67, true), [23]⟩,
        .op ⟨some 69, .ld (.t 12) 1 false, some (67, true), [23]⟩,
        .op ⟨some 70, .bin .lss (.t 68) (.t 69), some (67, true), [23, 24, 25]⟩,
        .op ⟨some 71, .pick (.t 67) (.t 70) (.c (.bool false)), some (57, false), [13, 23, 26]⟩,
        .op ⟨some 72, .pick (.t 57) (.c (.bool true)) (.t 71), none, [13, 27]⟩] 0 0 [
])
        (.cond (.t 72)
        (.reg [
         ⟨some 73, .mv (.t 13), none, []⟩,
         ⟨none, .st (.t 12) (.t 73) 1, none, []⟩])
        .skip)))))))))
     (.seq (.reg [
     ⟨some 74, .mv (.t 10), none, []⟩,
     ⟨some 75, .ld (.t 12) 1 false, none, []⟩,
     ⟨none, .raw (Go.Op.call { callee := (Go.Callee.builtin Go.Builtin.delete), args := #[(Go.Operand.tmp 74), (Go.Operand.tmp 75)], argTypes := #[99, 3] }) 0, none, []⟩])
     (.seq (.reg [
     ⟨some 76, .ld (.t 4) 4 true, none, []⟩,
     ⟨some 77, .ld (.t 12) 1 false, none, []⟩,
     ⟨some 78, .callm 79 [.t 76, .t 77], none, []⟩])
     (.block 6 (.gh (.rfun (.t 78) [79, 80] (.seq (.reg [
       ⟨some 14, .mv (.t 79), none, []⟩])
       (.reg [
       ⟨some 15, .mv (.t 80), none, []⟩]))
      (.block 7 (.regd [0, 1, 2, 3, 4, 5, 6, 7, 8, 9, 10, 11, 12, 13, 14, 15, 16, 17, 18, 19, 20, 21, 22] [
        .op ⟨some 81, .ld (.t 9) 1 false, none, []⟩,
        .op ⟨some 82, .mv (.t 15), none, []⟩,
        .op ⟨some 83, .ld (.t 9) 1 false, none, []⟩,
        .op ⟨some 84, .mv (.t 15), none, []⟩,
        .op ⟨some 85, .ixs (.t 83) (.t 84) 1, none, [2, 3]⟩,
        .op ⟨some 86, .ld (.t 85) 1 false, none, [4]⟩,
        .op ⟨some 87, .ld (.t 4) 4 true, none, []⟩,
        .op ⟨some 88, .mv (.t 14), none, []⟩,
        .op ⟨some 89, .ld (.t 9) 1 false, none, []⟩,
        .op ⟨some 90, .ld (.t 12) 1 false, none, []⟩,
        .op ⟨some 91, .ixs (.t 89) (.t 90) 1, none, [8, 9]⟩,
        .op ⟨some 92, .ld (.t 91) 1 false, none, [10]⟩,
        .op ⟨some 93, .ld (.t 9) 1 false, none, []⟩,
        .op ⟨some 94, .ld (.t 12) 1 false, none, []⟩,
        .op ⟨some 95, .ixs (.t 93) (.t 94) 1, none, [12, 13]⟩,
        .op ⟨some 96, .ld (.t 95) 1 false, none, [14]⟩,
        .op ⟨some 97, .build [.int .i64 0, .int .i64 0] [(0, 1, .t 92), (1, 1, .t 96)], none, [11, 15]⟩,
        .op ⟨some 98, .call 80 [.t 87, .t 88, .t 97], none, [6, 7, 16]⟩,
        .op ⟨some 99, .ld (.t 7) 1 false, none, []⟩,
        .op ⟨some 100, .idx (.t 98) (.t 99) 2 1 false, none, [17, 18]⟩,
        .op ⟨some 101, .mm false [.t 86, .t 100], none, [5, 19]⟩,
        .op ⟨some 102, .ixs (.t 81) (.t 82) 1, none, [0, 1, 2, 3, 4, 5, 6, 7, 8, 9, 10, 11, 12, 13, 14, 15, 16, 17, 18, 19, 20]⟩] 0 1 [
        ⟨none, .st (.t 102) (.t 101) 1, none, [0, 1, 2, 3, 4, 5, 6, 7, 8, 9, 10, 11, 12, 13, 14, 15, 16, 17, 18, 19, 20, 21]⟩])))))))))))))
  (.seq (.reg [
  ⟨some 103, .ld (.t 9) 1 false, none, []⟩,
  ⟨some 8, .mv (.t 103), none, []⟩])
  .ret)))))))
def r83 : List RV := [.tmp 8]
theorem n83 : Try.f83.ntmps = 104 := by kernel_rfl
theorem b83 : bodyB Try.prog 83 = true := by kernel_rfl
theorem c83_ok : cmpC Try.prog c83 ((Try.f83.body).getD .skip) = true := by kernel_rfl
theorem r83_ok : cmpR Try.prog r83 Try.f83.results.toList = true := by kernel_rfl
theorem t83 {args : List SV} {res : SV} (ka : KFL args) (kr : KF res) (h : sx Try.prog Y0 0 c83 (st0 args 104) (retK r83 res)) (hA : Nat.ble args.length 104 = true := by rfl) : Ct Try.prog 83 args res := ct_intro Try.func83 rfl b83 c83_ok r83_ok n83 (Nat.le_of_ble_eq_true hA) ka kr h
def c32 : SC := (.seq (.reg [
  ⟨some 4, .box (.t 0) 0 25, none, []⟩,
  ⟨some 7, .box (.t 3) 0 29, none, []⟩,
  ⟨some 8, .mv (.c (.slice none 0 0)), none, []⟩,
  ⟨some 9, .mv (.c (.int .i64 0)), none, []⟩])
  (.seq (.reg [
  ⟨some 17, .ld (.t 4) 2 true, none, []⟩,
  ⟨some 18, .ld (.t 7) 2 true, none, []⟩,
  ⟨some 19, .call 63 [.t 17, .t 18], none, []⟩,
  ⟨some 16, .mv (.t 19), none, []⟩,
  ⟨some 20, .ext (.t 16) 0, none, []⟩,
  ⟨some 21, .ext (.t 16) 1, none, []⟩,
  ⟨some 10, .alloc [.slice none 0 0, .slice none 0 0, .int .i64 0, .int .i64 0] 119, none, []⟩,
  ⟨none, .st (.t 10) (.t 20) 4, none, []⟩,
  ⟨some 11, .mv (.t 21), none, []⟩])
  (.seq (.block 0 (.seq (.reg [
   ⟨some 23, .mv (.t 11), none, []⟩,
   ⟨some 24, .bin .neq (.t 23) (.c (.int .i64 0)), none, []⟩,
   ⟨some 22, .mv (.t 24), none, []⟩])
   (.cond (.t 22)
   (.seq (.reg [
    ⟨some 25, .mv (.t 11), none, []⟩,
    ⟨some 8, .mv (.c (.slice none 0 0)), none, []⟩,
    ⟨some 9, .mv (.t 25), none, []⟩])
    .ret)
   (.seq (.reg [
    ⟨some 27, .addo (.t 4) 0, none, []⟩,
    ⟨some 28, .ld (.t 27) 1 false, none, []⟩,
    ⟨some 29, .len (.t 28), none, []⟩,
    ⟨some 30, .bin .sub (.t 29) (.c (.int .i64 1)), none, []⟩,
    ⟨some 31, .mv (.t 1), none, []⟩,
    ⟨some 32, .bsl 1 3 [.t 31], none, []⟩,
    ⟨some 33, .call 58 [.c (.int .i64 0), .t 30, .t 32], none, []⟩,
    ⟨some 34, .un .not (.t 33), none, []⟩,
    ⟨some 35, .mv (.t 34), none, []⟩,
    ⟨some 36, .mv (.t 2), some (35, false), []⟩,
    ⟨some 37, .bsl 1 3 [.t 36], some (35, false), []⟩,
    ⟨some 38, .call 58 [.c (.int .i64 0), .c (.int .i64 100000), .t 37], some (35, false), []⟩,
    ⟨some 39, .un .not (.t 38), some (35, false), []⟩,
    ⟨some 40, .pick (.t 35) (.c (.bool true)) (.t 39), none, []⟩,
    ⟨some 26, .mv (.t 40), none, []⟩])
    (.cond (.t 26)
    (.seq (.reg [
     ⟨some 8, .mv (.c (.slice none 0 0)), none, []⟩,
     ⟨some 9, .mv (.c (.int .i64 2)), none, []⟩])
     .ret)
    .skip)))))
  (.seq (.reg [
  ⟨some 12, .mv (.c (.slice none 0 0)), none, []⟩])
  (.seq (.reg [
  ⟨some 41, .ld (.t 10) 4 true, none, []⟩,
  ⟨some 42, .mv (.t 1), none, []⟩,
  ⟨some 43, .mv (.t 2), none, []⟩,
  ⟨some 44, .call 83 [.t 41, .t 42, .t 43, .c (.int .i64 1)], none, []⟩,
  ⟨some 13, .mv (.t 44), none, []⟩])
  (.seq (.seq (.reg [
  ⟨some 45, .ld (.t 10) 4 true, none, []⟩,
  ⟨some 46, .mv (.t 1), none, []⟩,
  ⟨some 47, .mv (.t 2), none, []⟩,
  ⟨some 48, .call 83 [.t 45, .t 46, .t 47, .c (.int .i64 0)], none, []⟩,
  ⟨some 49, .len (.t 48), none, []⟩,
  ⟨some 50, .mv (.c (.int .i64 0)), none, []⟩])
  (.block 1 (.loop (.seq (.reg [
    ⟨some 51, .bin .lss (.t 50) (.t 49), none, []⟩])
    (.seq (.cond (.t 51)
    .skip
    (.exit 1))
    (.seq (.block 2 (.seq (.reg [
     ⟨some 52, .mv (.t 50), none, []⟩,
     ⟨some 53, .ixs (.t 48) (.t 50) 1, none, []⟩,
     ⟨some 54, .ld (.t 53) 1 false, none, []⟩,
     ⟨some 14, .mv (.t 52), none, []⟩,
     ⟨some 15, .mv (.t 54), none, []⟩])
     (.reg [
     ⟨some 55, .mv (.t 12), none, []⟩,
     ⟨some 56, .mv (.t 15), none, []⟩,
     ⟨some 57, .mv (.t 13), none, []⟩,
     ⟨some 58, .mv (.t 14), none, []⟩,
     ⟨some 59, .ixs (.t 57) (.t 58) 1, none, []⟩,
     ⟨some 60, .ld (.t 59) 1 false, none, []⟩,
     ⟨some 61, .build [.int .i64 0, .int .i64 0] [(0, 1, .t 56), (1, 1, .t 60)], none, []⟩,
     ⟨some 62, .bsl 2 29 [.t 61], none, []⟩,
     ⟨some 63, .appm 2 16 29 (.t 55) (.t 62), none, []⟩,
     ⟨some 12, .mv (.t 63), none, []⟩])))
    (.reg [
    ⟨some 64, .bin .add (.t 50) (.c (.int .i64 1)), none, []⟩,
    ⟨some 50, .mv (.t 64), none, []⟩])))))))
  (.seq (.reg [
  ⟨some 65, .mv (.t 12), none, []⟩,
  ⟨some 8, .mv (.t 65), none, []⟩,
  ⟨some 9, .mv (.c (.int .i64 0)), none, []⟩])
  .ret)))))))
def r32 : List RV := [.tmp 8, .tmp 9]
theorem n32 : Try.f32.ntmps = 66 := by kernel_rfl
theorem b32 : bodyB Try.prog 32 = true := by kernel_rfl
theorem c32_ok : cmpC Try.prog c32 ((Try.f32.body).getD .skip) = true := by kernel_rfl
theorem r32_ok : cmpR Try.prog r32 Try.f32.results.toList = true := by kernel_rfl
theorem t32 {args : List SV} {res : SV} (ka : KFL args) (kr : KF res) (h : sx Try.prog Y0 0 c32 (st0 args 66) (retK r32 res)) (hA : Nat.ble args.length 66 = true := by rfl) : Ct Try.prog 32 args res := ct_intro Try.func32 rfl b32 c32_ok r32_ok n32 (Nat.le_of_ble_eq_true hA) ka kr h
def c34 : SC := (.seq (.reg [
  ⟨some 5, .box (.t 0) 0 25, none, []⟩,
  ⟨some 8, .box (.t 3) 0 29, none, []⟩,
  ⟨some 10, .mv (.c (.slice none 0 0)), none, []⟩,
  ⟨some 11, .mv (.c (.int .i64 0)), none, []⟩,
  ⟨some 12, .mv (.c (.int .i64 0)), none, []⟩])
  (.seq (.reg [
  ⟨some 23, .ld (.t 5) 2 true, none, []⟩,
  ⟨some 24, .ld (.t 8) 2 true, none, []⟩,
  ⟨some 25, .call 63 [.t 23, .t 24], none, []⟩,
  ⟨some 22, .mv (.t 25), none, []⟩,
  ⟨some 26, .ext (.t 22) 0, none, []⟩,
  ⟨some 27, .ext (.t 22) 1, none, []⟩,
  ⟨some 13, .alloc [.slice none 0 0, .slice none 0 0, .int .i64 0, .int .i64 0] 119, none, []⟩,
  ⟨none, .st (.t 13) (.t 26) 4, none, []⟩,
  ⟨some 12, .mv (.t 27), none, []⟩])
  (.seq (.block 0 (.seq (.reg [
   ⟨some 29, .mv (.t 12), none, []⟩,
   ⟨some 30, .bin .neq (.t 29) (.c (.int .i64 0)), none, []⟩,
   ⟨some 28, .mv (.t 30), none, []⟩])
   (.cond (.t 28)
   (.seq (.reg [
    ⟨some 31, .mv (.t 12), none, []⟩,
    ⟨some 10, .mv (.c (.slice none 0 0)), none, []⟩,
    ⟨some 11, .mv (.c (.int .i64 0)), none, []⟩,
    ⟨some 12, .mv (.t 31), none, []⟩])
    .ret)
   (.seq (.reg [
    ⟨some 33, .addo (.t 5) 0, none, []⟩,
    ⟨some 34, .ld (.t 33) 1 false, none, []⟩,
    ⟨some 35, .len (.t 34), none, []⟩,
    ⟨some 36, .bin .sub (.t 35) (.c (.int .i64 1)), none, []⟩,
    ⟨some 37, .mv (.t 1), none, []⟩,
    ⟨some 38, .bsl 1 3 [.t 37], none, []⟩,
    ⟨some 39, .call 58 [.c (.int .i64 0), .t 36, .t 38], none, []⟩,
    ⟨some 40, .un .not (.t 39), none, []⟩,
    ⟨some 41, .mv (.t 40), none, []⟩,
    ⟨some 42, .mv (.t 2), some (41, false), []⟩,
    ⟨some 43, .bsl 1 3 [.t 42], some (41, false), []⟩,
    ⟨some 44, .call 58 [.c (.int .i64 0), .c (.int .i64 100000), .t 43], some (41, false), []⟩,
    ⟨some 45, .un .not (.t 44), some (41, false), []⟩,
    ⟨some 46, .pick (.t 41) (.c (.bool true)) (.t 45), none, []⟩,
    ⟨some 32, .mv (.t 46), none, []⟩])
    (.cond (.t 32)
    (.seq (.reg [
     ⟨some 10, .mv (.c (.slice none 0 0)), none, []⟩,
     ⟨some 11, .mv (.c (.int .i64 0)), none, []⟩,
     ⟨some 12, .mv (.c (.int .i64 2)), none, []⟩])
     .ret)
    (.seq (.reg [
     ⟨some 48, .mv (.t 4), none, []⟩,
     ⟨some 49, .len (.t 48), none, []⟩,
     ⟨some 50, .bin .gtr (.t 49) (.c (.int .i64 24)), none, []⟩,
     ⟨some 47, .mv (.t 50), none, []⟩])
     (.cond (.t 47)
     (.seq (.reg [
      ⟨some 10, .mv (.c (.slice none 0 0)), none, []⟩,
      ⟨some 11, .mv (.c (.int .i64 0)), none, []⟩,
      ⟨some 12, .mv (.c (.int .i64 4)), none, []⟩])
      .ret)
     .skip)))))))
  (.seq (.reg [
  ⟨some 14, .mv (.c (.slice none 0 0)), none, []⟩])
  (.seq (.reg [
  ⟨some 51, .mv (.t 1), none, []⟩,
  ⟨some 15, .mv (.t 51), none, []⟩])
  (.seq (.seq (.reg [
  ⟨some 52, .mv (.t 4), none, []⟩,
  ⟨some 53, .len (.t 52), none, []⟩,
  ⟨some 54, .mv (.c (.int .i64 0)), none, []⟩])
  (.block 1 (.loop (.seq (.reg [
    ⟨some 55, .bin .lss (.t 54) (.t 53), none, []⟩])
    (.seq (.cond (.t 55)
    .skip
    (.exit 1))
    (.seq (.block 2 (.seq (.reg [
     ⟨some 56, .mv (.t 54), none, []⟩,
     ⟨some 57, .ixs (.t 52) (.t 54) 1, none, []⟩,
     ⟨some 58, .ld (.t 57) 1 false, none, []⟩,
     ⟨some 16, .mv (.t 56), none, []⟩,
     ⟨some 17, .mv (.t 58), none, []⟩])
     (.seq (.seq (.reg [
     ⟨some 59, .ld (.t 13) 4 true, none, []⟩,
     ⟨some 60, .mv (.t 17), none, []⟩,
     ⟨some 61, .mv (.t 15), none, []⟩,
     ⟨some 62, .call 85 [.t 59, .t 60, .t 61], none, []⟩,
     ⟨some 15, .mv (.t 62), none, []⟩])
     (.seq (.reg [
     ⟨some 63, .mv (.t 15), none, []⟩,
     ⟨some 64, .bin .lss (.t 63) (.c (.int .i64 0)), none, []⟩])
     (.cond (.t 64)
     (.seq (.reg [
      ⟨some 65, .mv (.t 16), none, []⟩,
      ⟨some 10, .mv (.c (.slice none 0 0)), none, []⟩,
      ⟨some 11, .mv (.t 65), none, []⟩,
      ⟨some 12, .mv (.c (.int .i64 8)), none, []⟩])
      .ret)
     .skip)))
     (.reg [
     ⟨some 66, .mv (.t 14), none, []⟩,
     ⟨some 67, .mv (.t 15), none, []⟩,
     ⟨some 68, .bsl 1 3 [.t 67], none, []⟩,
     ⟨some 69, .appm 1 8 3 (.t 66) (.t 68), none, []⟩,
     ⟨some 14, .mv (.t 69), none, []⟩]))))
    (.reg [
    ⟨some 70, .bin .add (.t 54) (.c (.int .i64 1)), none, []⟩,
    ⟨some 54, .mv (.t 70), none, []⟩])))))))
  (.seq (.reg [
  ⟨some 71, .mv (.t 2), none, []⟩,
  ⟨some 72, .mv (.t 2), none, []⟩,
  ⟨some 73, .build [.int .i64 0, .int .i64 0] [(0, 1, .t 71), (1, 1, .t 72)], none, []⟩,
  ⟨some 18, .alloc [.int .i64 0, .int .i64 0] 123, none, []⟩,
  ⟨none, .st (.t 18) (.t 73) 2, none, []⟩])
  (.seq (.seq (.reg [
  ⟨some 74, .mv (.t 4), none, []⟩,
  ⟨some 75, .len (.t 74), none, []⟩,
  ⟨some 76, .mv (.c (.int .i64 0)), none, []⟩])
  (.block 3 (.loop (.seq (.reg [
    ⟨some 77, .bin .lss (.t 76) (.t 75), none, []⟩])
    (.seq (.cond (.t 77)
    .skip
    (.exit 3))
    (.seq (.block 4 (.seq (.reg [
     ⟨some 78, .mv (.t 76), none, []⟩,
     ⟨some 79, .ixs (.t 74) (.t 76) 1, none, []⟩,
     ⟨some 80, .ld (.t 79) 1 false, none, []⟩,
     ⟨some 19, .mv (.t 78), none, []⟩,
     ⟨some 20, .mv (.t 80), none, []⟩])
     (.seq (.reg [
     ⟨some 81, .ld (.t 13) 4 true, none, []⟩,
     ⟨some 82, .mv (.t 20), none, []⟩,
     ⟨some 83, .ld (.t 18) 2 true, none, []⟩,
     ⟨some 84, .call 68 [.t 81, .t 82, .t 83], none, []⟩,
     ⟨some 21, .alloc [.int .i64 0, .int .i64 0] 123, none, []⟩,
     ⟨none, .st (.t 21) (.t 84) 2, none, []⟩])
     (.seq (.seq (.reg [
     ⟨some 85, .ld (.t 13) 4 true, none, []⟩,
     ⟨some 86, .mv (.t 20), none, []⟩,
     ⟨some 87, .ld (.t 18) 2 true, none, []⟩,
     ⟨some 88, .call 80 [.t 85, .t 86, .t 87], none, []⟩,
     ⟨none, .st (.t 18) (.t 88) 2, none, []⟩])
     (.seq (.reg [
     ⟨some 89, .ixa (.t 18) (.c (.int .i64 1)) 2 1, none, []⟩,
     ⟨some 90, .ld (.t 89) 1 false, none, []⟩,
     ⟨some 91, .bin .gtr (.t 90) (.c (.int .i64 100000)), none, []⟩])
     (.cond (.t 91)
     (.seq (.reg [
      ⟨some 92, .mv (.t 19), none, []⟩,
      ⟨some 10, .mv (.c (.slice none 0 0)), none, []⟩,
      ⟨some 11, .mv (.t 92), none, []⟩,
      ⟨some 12, .mv (.c (.int .i64 34)), none, []⟩])
      .ret)
     .skip)))
     (.regd [0, 1, 2, 3, 4, 5, 6, 7, 8, 9, 10, 11, 12, 13] [
     .op ⟨some 93, .mv (.t 10), none, []⟩,
     .op ⟨some 94, .mv (.t 20), none, []⟩,
     .op ⟨some 95, .mv (.t 14), none, []⟩,
     .op ⟨some 96, .mv (.t 19), none, []⟩,
     .op ⟨some 97, .ixs (.t 95) (.t 96) 1, none, [2, 3]⟩,
     .op ⟨some 98, .ld (.t 97) 1 false, none, [4]⟩,
     .op ⟨some 99, .ld (.t 21) 2 true, none, []⟩,
     .op ⟨some 100, .call 65 [.t 99], none, [6]⟩,
     .op ⟨some 101, .ld (.t 18) 2 true, none, []⟩,
     .op ⟨some 102, .call 65 [.t 101], none, [7, 8]⟩,
     .op ⟨some 103, .build [.int .i64 0, .int .i64 0, .int .i64 0, .int .i64 0, .int .i64 0, .int .i64 0] [(0, 1, .t 94), (1, 1, .t 98), (2, 2, .t 100), (4, 2, .t 102)], none, [1, 5, 7, 9]⟩,
     .op ⟨some 104, .bsl 6 92 [.t 103], none, [10]⟩] 0 1 [
     ⟨some 105, .appm 6 48 92 (.t 93) (.t 104), none, [0, 9, 11]⟩,
     ⟨some 10, .mv (.t 105), none, [0, 1, 2, 3, 4, 5, 6, 7, 8, 9, 10, 11, 12]⟩])))))
    (.reg [
    ⟨some 106, .bin .add (.t 76) (.c (.int .i64 1)), none, []⟩,
    ⟨some 76, .mv (.t 106), none, []⟩])))))))
  (.seq (.reg [
  ⟨some 107, .mv (.t 10), none, []⟩,
  ⟨some 10, .mv (.t 107), none, []⟩,
  ⟨some 11, .mv (.c (.int .i64 0)), none, []⟩,
  ⟨some 12, .mv (.c (.int .i64 0)), none, []⟩])
  .ret)))))))))
def r34 : List RV := [.tmp 10, .tmp 11, .tmp 12]
theorem n34 : Try.f34.ntmps = 108 := by kernel_rfl
theorem b34 : bodyB Try.prog 34 = true := by kernel_rfl
theorem c34_ok : cmpC Try.prog c34 ((Try.f34.body).getD .skip) = true := by kernel_rfl
theorem r34_ok : cmpR Try.prog r34 Try.f34.results.toList = true := by kernel_rfl
theorem t34 {args : List SV} {res : SV} (ka : KFL args) (kr : KF res) (h : sx Try.prog Y0 0 c34 (st0 args 108) (retK r34 res)) (hA : Nat.ble args.length 108 = true := by rfl) : Ct Try.prog 34 args res := ct_intro Try.func34 rfl b34 c34_ok r34_ok n34 (Nat.le_of_ble_eq_true hA) ka kr h
def c36 : SC := (.seq (.reg [
  ⟨some 5, .box (.t 0) 0 25, none, []⟩,
  ⟨some 9, .box (.t 4) 0 29, none, []⟩,
  ⟨some 10, .mv (.c (.slice none 0 0)), none, []⟩,
  ⟨some 11, .mv (.c (.int .i64 0)), none, []⟩])
  (.seq (.reg [
  ⟨some 28, .ld (.t 5) 2 true, none, []⟩,
  ⟨some 29, .ld (.t 9) 2 true, none, []⟩,
  ⟨some 30, .call 63 [.t 28, .t 29], none, []⟩,
  ⟨some 27, .mv (.t 30), none, []⟩,
  ⟨some 31, .ext (.t 27) 0, none, []⟩,
  ⟨some 32, .ext (.t 27) 1, none, []⟩,
  ⟨some 12, .alloc [.slice none 0 0, .slice none 0 0, .int .i64 0, .int .i64 0] 119, none, []⟩,
  ⟨none, .st (.t 12) (.t 31) 4, none, []⟩,
  ⟨some 13, .mv (.t 32), none, []⟩])
  (.seq (.block 0 (.seq (.reg [
   ⟨some 34, .mv (.t 13), none, []⟩,
   ⟨some 35, .bin .neq (.t 34) (.c (.int .i64 0)), none, []⟩,
   ⟨some 33, .mv (.t 35), none, []⟩])
   (.cond (.t 33)
   (.seq (.reg [
    ⟨some 36, .mv (.t 13), none, []⟩,
    ⟨some 10, .mv (.c (.slice none 0 0)), none, []⟩,
    ⟨some 11, .mv (.t 36), none, []⟩])
    .ret)
   (.seq (.reg [
    ⟨some 38, .addo (.t 5) 0, none, []⟩,
    ⟨some 39, .ld (.t 38) 1 false, none, []⟩,
    ⟨some 40, .len (.t 39), none, []⟩,
    ⟨some 41, .bin .sub (.t 40) (.c (.int .i64 1)), none, []⟩,
    ⟨some 42, .mv (.t 1), none, []⟩,
    ⟨some 43, .mv (.t 2), none, []⟩,
    ⟨some 44, .bsl 1 3 [.t 42, .t 43], none, []⟩,
    ⟨some 45, .call 58 [.c (.int .i64 0), .t 41, .t 44], none, []⟩,
    ⟨some 46, .un .not (.t 45), none, []⟩,
    ⟨some 47, .mv (.t 46), none, []⟩,
    ⟨some 48, .mv (.t 3), some (47, false), []⟩,
    ⟨some 49, .bsl 1 3 [.t 48], some (47, false), []⟩,
    ⟨some 50, .call 58 [.c (.int .i64 0), .c (.int .i64 100000), .t 49], some (47, false), []⟩,
    ⟨some 51, .un .not (.t 50), some (47, false), []⟩,
    ⟨some 52, .pick (.t 47) (.c (.bool true)) (.t 51), none, []⟩,
    ⟨some 37, .mv (.t 52), none, []⟩])
    (.cond (.t 37)
    (.seq (.reg [
     ⟨some 10, .mv (.c (.slice none 0 0)), none, []⟩,
     ⟨some 11, .mv (.c (.int .i64 2)), none, []⟩])
     .ret)
    .skip)))))
  (.seq (.reg [
  ⟨some 53, .mv (.t 2), none, []⟩,
  ⟨some 54, .ld (.t 12) 4 true, none, []⟩,
  ⟨some 55, .mv (.t 1), none, []⟩,
  ⟨some 56, .mv (.t 3), none, []⟩,
  ⟨some 57, .call 83 [.t 54, .t 55, .t 56, .c (.int .i64 1)], none, []⟩,
  ⟨some 58, .mv (.t 2), none, []⟩,
  ⟨some 59, .ixs (.t 57) (.t 58) 1, none, []⟩,
  ⟨some 60, .ld (.t 59) 1 false, none, []⟩,
  ⟨some 61, .build [.int .i64 0, .int .i64 0] [(0, 1, .t 53), (1, 1, .t 60)], none, []⟩,
  ⟨some 14, .alloc [.int .i64 0, .int .i64 0] 136, none, []⟩,
  ⟨none, .st (.t 14) (.t 61) 2, none, []⟩])
  (.seq (.seq (.reg [
  ⟨some 62, .addo (.t 14) 1, none, []⟩,
  ⟨some 63, .ld (.t 62) 1 false, none, []⟩,
  ⟨some 64, .bin .gtr (.t 63) (.c (.int .i64 100000)), none, []⟩])
  (.cond (.t 64)
  (.seq (.reg [
   ⟨some 10, .mv (.c (.slice none 0 0)), none, []⟩,
   ⟨some 11, .mv (.c (.int .i64 6)), none, []⟩])
   .ret)
  .skip))
  (.seq (.reg [
  ⟨some 65, .raw (Go.Op.makeMap 147 Option.none) 147, none, []⟩,
  ⟨some 66, .mv (.t 1), none, []⟩,
  ⟨some 67, .mv (.t 3), none, []⟩,
  ⟨some 68, .build [.int .i64 0, .int .i64 0] [(0, 1, .t 66), (1, 1, .t 67)], none, []⟩,
  ⟨none, .raw (Go.Op.insert 147 (Go.Operand.tmp 65) (Go.Operand.tmp 68) (Go.Operand.const (Go.Value.slice Option.none 0 0))) 0, none, []⟩,
  ⟨some 69, .mv (.t 65), none, []⟩,
  ⟨some 15, .mv (.t 69), none, []⟩])
  (.block 1 (.loop (.block 2 (.seq (.seq (.reg [
     ⟨some 71, .mv (.t 15), none, []⟩,
     ⟨some 72, .ld (.t 14) 2 true, none, []⟩,
     ⟨some 73, .raw (Go.Op.lookup 147 (Go.Operand.tmp 71) (Go.Operand.tmp 72) Bool.true) 148, none, []⟩,
     ⟨some 70, .mv (.t 73), none, []⟩,
     ⟨some 74, .ext (.t 70) 0, none, []⟩,
     ⟨some 75, .ext (.t 70) 1, none, []⟩,
     ⟨some 16, .mv (.t 74), none, []⟩,
     ⟨some 17, .mv (.t 75), none, []⟩])
     (.seq (.reg [
     ⟨some 76, .mv (.t 17), none, []⟩])
     (.cond (.t 76)
     (.seq (.reg [
      ⟨some 77, .mv (.t 16), none, []⟩,
      ⟨some 10, .mv (.t 77), none, []⟩,
      ⟨some 11, .mv (.c (.int .i64 0)), none, []⟩])
      .ret)
     .skip)))
     (.seq (.reg [
     ⟨some 78, .raw (Go.Op.makeMap 147 Option.none) 147, none, []⟩,
     ⟨some 18, .alloc [.map none] 147, none, []⟩,
     ⟨none, .st (.t 18) (.t 78) 1, none, []⟩])
     (.seq (.seq (.reg [
     ⟨some 79, .mv (.t 15), none, []⟩,
     ⟨some 80, .raw (Go.Op.range 147 (Go.Operand.tmp 79)) 0, none, []⟩])
     (.block 3 (.loop (.seq (.reg [
       ⟨some 81, .raw (Go.Op.next (Go.Operand.tmp 80) Bool.false) 0, none, []⟩,
       ⟨some 82, .ext (.t 81) 0, none, []⟩])
       (.seq (.cond (.t 82)
       .skip
       (.exit 3))
       (.block 4 (.seq (.reg [
        ⟨some 83, .raw (Go.Op.entry (Go.Operand.tmp 80)) 0, none, []⟩,
        ⟨some 84, .ext (.t 83) 0, none, []⟩,
        ⟨some 85, .ext (.t 83) 1, none, []⟩,
        ⟨some 19, .alloc [.int .i64 0, .int .i64 0] 136, none, []⟩,
        ⟨some 20, .alloc [.slice none 0 0] 59, none, []⟩,
        ⟨none, .st (.t 19) (.t 84) 2, none, []⟩,
        ⟨none, .st (.t 20) (.t 85) 1, none, []⟩])
        (.seq (.reg [
        ⟨some 86, .ld (.t 12) 4 true, none, []⟩,
        ⟨some 87, .addo (.t 19) 0, none, []⟩,
        ⟨some 88, .ld (.t 87) 1 false, none, []⟩,
        ⟨some 89, .callm 79 [.t 86, .t 88], none, []⟩])
        (.block 5 (.gh (.rfun (.t 89) [90, 91] (.seq (.reg [
          ⟨some 21, .mv (.t 90), none, []⟩])
          (.reg [
          ⟨some 22, .mv (.t 91), none, []⟩]))
         (.block 6 (.seq (.reg [
           ⟨some 92, .mv (.t 22), none, []⟩,
           ⟨some 93, .ld (.t 12) 4 true, none, []⟩,
           ⟨some 94, .mv (.t 21), none, []⟩,
           ⟨some 95, .addo (.t 19) 1, none, []⟩,
           ⟨some 96, .ld (.t 95) 1 false, none, []⟩,
           ⟨some 97, .addo (.t 19) 1, none, []⟩,
           ⟨some 98, .ld (.t 97) 1 false, none, []⟩,
           ⟨some 99, .build [.int .i64 0, .int .i64 0] [(0, 1, .t 96), (1, 1, .t 98)], none, []⟩,
           ⟨some 100, .call 80 [.t 93, .t 94, .t 99], none, []⟩,
           ⟨some 101, .idx (.t 100) (.c (.int .i64 1)) 2 1 false, none, []⟩,
           ⟨some 102, .build [.int .i64 0, .int .i64 0] [(0, 1, .t 92), (1, 1, .t 101)], none, []⟩,
           ⟨some 23, .alloc [.int .i64 0, .int .i64 0] 136, none, []⟩,
           ⟨none, .st (.t 23) (.t 102) 2, none, []⟩])
           (.seq (.seq (.reg [
           ⟨some 103, .addo (.t 23) 1, none, []⟩,
           ⟨some 104, .ld (.t 103) 1 false, none, []⟩,
           ⟨some 105, .addo (.t 14) 1, none, []⟩,
           ⟨some 106, .ld (.t 105) 1 false, none, []⟩,
           ⟨some 107, .bin .gtr (.t 104) (.t 106), none, []⟩])
           (.cond (.t 107)
           (.exit 6)
           .skip))
           (.seq (.reg [
           ⟨some 108, .ld (.t 20) 1 false, none, []⟩,
           ⟨some 109, .mv (.t 21), none, []⟩,
           ⟨some 110, .call 81 [.t 108, .t 109], none, []⟩,
           ⟨some 24, .mv (.t 110), none, []⟩])
           (.seq (.reg [
           ⟨some 112, .ld (.t 18) 1 false, none, []⟩,
           ⟨some 113, .ld (.t 23) 2 true, none, []⟩,
           ⟨some 114, .raw (Go.Op.lookup 147 (Go.Operand.tmp 112) (Go.Operand.tmp 113) Bool.true) 148, none, []⟩,
           ⟨some 111, .mv (.t 114), none, []⟩,
           ⟨some 115, .ext (.t 111) 0, none, []⟩,
           ⟨some 116, .ext (.t 111) 1, none, []⟩,
           ⟨some 25, .mv (.t 115), none, []⟩,
           ⟨some 26, .mv (.t 116), none, []⟩])
           (.seq (.reg [
           ⟨some 117, .mv (.t 26), none, []⟩,
           ⟨some 118, .un .not (.t 117), none, []⟩,
           ⟨some 119, .mv (.t 118), none, []⟩,
           ⟨some 120, .mv (.t 24), some (119, false), []⟩,
           ⟨some 121, .mv (.t 25), some (119, false), []⟩,
           ⟨some 122, .call 87 [.t 120, .t 121], some (119, false), []⟩,
           ⟨some 123, .bin .lss (.t 122) (.c (.int .i64 0)), some (119, false), []⟩,
           ⟨some 124, .pick (.t 119) (.c (.bool true)) (.t 123), none, []⟩])
           (.cond (.t 124)
           (.reg [
            ⟨some 125, .ld (.t 18) 1 false, none, []⟩,
            ⟨some 126, .ld (.t 23) 2 true, none, []⟩,
            ⟨some 127, .mv (.t 24), none, []⟩,
            ⟨none, .raw (Go.Op.mapUpdate 147 (Go.Operand.tmp 125) (Go.Operand.tmp 126) (Go.Operand.tmp 127)) 0, none, []⟩])
           .skip))))))))))))))))))
     (.reg [
     ⟨some 128, .ld (.t 18) 1 false, none, []⟩,
     ⟨some 15, .mv (.t 128), none, []⟩])))))))))))))
def r36 : List RV := [.tmp 10, .tmp 11]
theorem n36 : Try.f36.ntmps = 129 := by kernel_rfl
theorem b36 : bodyB Try.prog 36 = true := by kernel_rfl
theorem c36_ok : cmpC Try.prog c36 ((Try.f36.body).getD .skip) = true := by kernel_rfl
theorem r36_ok : cmpR Try.prog r36 Try.f36.results.toList = true := by kernel_rfl
theorem t36 {args : List SV} {res : SV} (ka : KFL args) (kr : KF res) (h : sx Try.prog Y0 0 c36 (st0 args 129) (retK r36 res)) (hA : Nat.ble args.length 129 = true := by rfl) : Ct Try.prog 36 args res := ct_intro Try.func36 rfl b36 c36_ok r36_ok n36 (Nat.le_of_ble_eq_true hA) ka kr h
def r29 : List RV := [.tmp 12, .tmp 13]
def c81 : SC := (.seq (.reg [
  ⟨some 4, .mv (.c (.slice none 0 0)), none, []⟩])
  (.seq (.reg [
  ⟨some 5, .mv (.t 0), none, []⟩,
  ⟨some 6, .call 78 [.t 5], none, []⟩,
  ⟨some 7, .call 98 [.t 6], none, []⟩,
  ⟨some 8, .mv (.t 1), none, []⟩,
  ⟨some 9, .bsl 1 3 [.t 8], none, []⟩,
  ⟨some 10, .app 1 8 3 (.t 7) (.t 9), none, []⟩,
  ⟨some 4, .mv (.t 10), none, []⟩])
  .ret))
def r81 : List RV := [.tmp 4]
theorem n81 : Try.f81.ntmps = 11 := by kernel_rfl
theorem b81 : bodyB Try.prog 81 = true := by kernel_rfl
theorem c81_ok : cmpC Try.prog c81 ((Try.f81.body).getD .skip) = true := by kernel_rfl
theorem r81_ok : cmpR Try.prog r81 Try.f81.results.toList = true := by kernel_rfl
theorem t81 {args : List SV} {res : SV} (ka : KFL args) (kr : KF res) (h : sx Try.prog Y0 0 c81 (st0 args 11) (retK r81 res)) (hA : Nat.ble args.length 11 = true := by rfl) : Ct Try.prog 81 args res := ct_intro Try.func81 rfl b81 c81_ok r81_ok n81 (Nat.le_of_ble_eq_true hA) ka kr h
def c78 : SC := (.seq (.reg [
  ⟨some 2, .mv (.c (.slice none 0 0)), none, []⟩])
  (.seq (.seq (.reg [
  ⟨some 3, .mv (.t 0), none, []⟩,
  ⟨some 4, .isn (.t 3), none, []⟩])
  (.cond (.t 4)
  (.seq (.reg [
   ⟨some 2, .mv (.c (.slice none 0 0)), none, []⟩])
   .ret)
  .skip))
  (.seq (.reg [
  ⟨some 5, .bsl 1 3 [], none, []⟩,
  ⟨some 6, .mv (.t 0), none, []⟩,
  ⟨some 7, .app 1 8 3 (.t 5) (.t 6), none, []⟩,
  ⟨some 2, .mv (.t 7), none, []⟩])
  .ret)))
def r78 : List RV := [.tmp 2]
theorem n78 : Try.f78.ntmps = 8 := by kernel_rfl
theorem b78 : bodyB Try.prog 78 = true := by kernel_rfl
theorem c78_ok : cmpC Try.prog c78 ((Try.f78.body).getD .skip) = true := by kernel_rfl
theorem r78_ok : cmpR Try.prog r78 Try.f78.results.toList = true := by kernel_rfl
def c98 : SC := (.seq (.reg [
  ⟨some 2, .mv (.c (.slice none 0 0)), none, []⟩])
  (.seq (.reg [
  ⟨some 3, .mv (.t 0), none, []⟩,
  ⟨some 4, .mv (.t 0), none, []⟩,
  ⟨some 5, .len (.t 4), none, []⟩,
  ⟨some 6, .mv (.t 0), none, []⟩,
  ⟨some 7, .len (.t 6), none, []⟩,
  ⟨some 8, .slc (.t 3) (.t 5) (.t 7), none, []⟩,
  ⟨some 2, .mv (.t 8), none, []⟩])
  .ret))
def r98 : List RV := [.tmp 2]
theorem n98 : Try.f98.ntmps = 9 := by kernel_rfl
theorem b98 : bodyB Try.prog 98 = true := by kernel_rfl
theorem c98_ok : cmpC Try.prog c98 ((Try.f98.body).getD .skip) = true := by kernel_rfl
theorem r98_ok : cmpR Try.prog r98 Try.f98.results.toList = true := by kernel_rfl
theorem t98 {args : List SV} {res : SV} (ka : KFL args) (kr : KF res) (h : sx Try.prog Y0 0 c98 (st0 args 9) (retK r98 res)) (hA : Nat.ble args.length 9 = true := by rfl) : Ct Try.prog 98 args res := ct_intro Try.func98 rfl b98 c98_ok r98_ok n98 (Nat.le_of_ble_eq_true hA) ka kr h
def c87 : SC := (.seq (.reg [
  ⟨some 4, .mv (.c (.int .i64 0)), none, []⟩])
  (.seq (.seq (.reg [
  ⟨some 9, .mv (.t 0), none, []⟩,
  ⟨some 10, .len (.t 9), none, []⟩,
  ⟨some 11, .mv (.c (.int .i64 0)), none, []⟩])
  (.block 0 (.loop (.seq (.reg [
    ⟨some 12, .bin .lss (.t 11) (.t 10), none, []⟩])
    (.seq (.cond (.t 12)
    .skip
    (.exit 0))
    (.seq (.block 1 (.seq (.reg [
     ⟨some 13, .mv (.t 11), none, []⟩,
     ⟨some 14, .ixs (.t 9) (.t 11) 1, none, []⟩,
     ⟨some 15, .ld (.t 14) 1 false, none, []⟩,
     ⟨some 5, .mv (.t 13), none, []⟩,
     ⟨some 6, .mv (.t 15), none, []⟩])
     (.seq (.seq (.reg [
     ⟨some 16, .mv (.t 5), none, []⟩,
     ⟨some 17, .mv (.t 1), none, []⟩,
     ⟨some 18, .len (.t 17), none, []⟩,
     ⟨some 19, .bin .geq (.t 16) (.t 18), none, []⟩])
     (.cond (.t 19)
     (.seq (.reg [
      ⟨some 4, .mv (.c (.int .i64 1)), none, []⟩])
      .ret)
     .skip))
     (.seq (.reg [
     ⟨some 20, .mv (.t 1), none, []⟩,
     ⟨some 21, .mv (.t 5), none, []⟩,
     ⟨some 22, .ixs (.t 20) (.t 21) 1, none, []⟩,
     ⟨some 23, .ld (.t 22) 1 false, none, []⟩,
     ⟨some 7, .mv (.t 23), none, []⟩])
     (.seq (.reg [
     ⟨some 24, .mv (.t 6), none, []⟩,
     ⟨some 25, .mv (.t 7), none, []⟩,
     ⟨some 26, .call 100 [.t 24, .t 25], none, []⟩,
     ⟨some 8, .mv (.t 26), none, []⟩])
     (.seq (.reg [
     ⟨some 27, .mv (.t 8), none, []⟩,
     ⟨some 28, .bin .neq (.t 27) (.c (.int .i64 0)), none, []⟩])
     (.cond (.t 28)
     (.seq (.reg [
      ⟨some 29, .mv (.t 8), none, []⟩,
      ⟨some 4, .mv (.t 29), none, []⟩])
      .ret)
     .skip)))))))
    (.reg [
    ⟨some 30, .bin .add (.t 11) (.c (.int .i64 1)), none, []⟩,
    ⟨some 11, .mv (.t 30), none, []⟩])))))))
  (.seq (.seq (.reg [
  ⟨some 31, .mv (.t 0), none, []⟩,
  ⟨some 32, .len (.t 31), none, []⟩,
  ⟨some 33, .mv (.t 1), none, []⟩,
  ⟨some 34, .len (.t 33), none, []⟩,
  ⟨some 35, .bin .lss (.t 32) (.t 34), none, []⟩])
  (.cond (.t 35)
  (.seq (.reg [
   ⟨some 4, .mv (.c (.int .i64 (-1))), none, []⟩])
   .ret)
  .skip))
  (.seq (.reg [
  ⟨some 4, .mv (.c (.int .i64 0)), none, []⟩])
  .ret))))
def r87 : List RV := [.tmp 4]
theorem n87 : Try.f87.ntmps = 36 := by kernel_rfl
theorem b87 : bodyB Try.prog 87 = true := by kernel_rfl
theorem c87_ok : cmpC Try.prog c87 ((Try.f87.body).getD .skip) = true := by kernel_rfl
theorem r87_ok : cmpR Try.prog r87 Try.f87.results.toList = true := by kernel_rfl
theorem t87 {args : List SV} {res : SV} (ka : KFL args) (kr : KF res) (h : sx Try.prog Y0 0 c87 (st0 args 36) (retK r87 res)) (hA : Nat.ble args.length 36 = true := by rfl) : Ct Try.prog 87 args res := ct_intro Try.func87 rfl b87 c87_ok r87_ok n87 (Nat.le_of_ble_eq_true hA) ka kr h
def c100 : SC := (.seq (.reg [
  ⟨some 4, .mv (.c (.int .i64 0)), none, []⟩])
  (.seq (.reg [
  ⟨some 7, .mv (.t 0), none, []⟩,
  ⟨some 8, .call 106 [.t 7], none, []⟩,
  ⟨some 5, .mv (.t 8), none, []⟩])
  (.seq (.reg [
  ⟨some 9, .mv (.t 1), none, []⟩,
  ⟨some 10, .call 106 [.t 9], none, []⟩,
  ⟨some 6, .mv (.t 10), none, []⟩])
  (.seq (.seq (.reg [
  ⟨some 11, .mv (.t 5), none, []⟩])
  (.cond (.t 11)
  (.seq (.seq (.reg [
   ⟨some 12, .mv (.t 6), none, []⟩])
   (.cond (.t 12)
   (.seq (.reg [
    ⟨some 4, .mv (.c (.int .i64 0)), none, []⟩])
    .ret)
   .skip))
   (.seq (.reg [
   ⟨some 4, .mv (.c (.int .i64 (-1))), none, []⟩])
   .ret))
  .skip))
  (.seq (.seq (.reg [
  ⟨some 13, .mv (.t 6), none, []⟩])
  (.cond (.t 13)
  (.seq (.reg [
   ⟨some 4, .mv (.c (.int .i64 1)), none, []⟩])
   .ret)
  .skip))
  (.seq (.seq (.reg [
  ⟨some 14, .mv (.t 0), none, []⟩,
  ⟨some 15, .mv (.t 1), none, []⟩,
  ⟨some 16, .bin .lss (.t 14) (.t 15), none, []⟩])
  (.cond (.t 16)
  (.seq (.reg [
   ⟨some 4, .mv (.c (.int .i64 (-1))), none, []⟩])
   .ret)
  .skip))
  (.seq (.seq (.reg [
  ⟨some 17, .mv (.t 0), none, []⟩,
  ⟨some 18, .mv (.t 1), none, []⟩,
  ⟨some 19, .bin .gtr (.t 17) (.t 18), none, []⟩])
  (.cond (.t 19)
  (.seq (.reg [
   ⟨some 4, .mv (.c (.int .i64 1)), none, []⟩])
   .ret)
  .skip))
  (.seq (.reg [
  ⟨some 4, .mv (.c (.int .i64 0)), none, []⟩])
  .ret))))))))
def r100 : List RV := [.tmp 4]
theorem n100 : Try.f100.ntmps = 20 := by kernel_rfl
theorem b100 : bodyB Try.prog 100 = true := by kernel_rfl
theorem c100_ok : cmpC Try.prog c100 ((Try.f100.body).getD .skip) = true := by kernel_rfl
theorem r100_ok : cmpR Try.prog r100 Try.f100.results.toList = true := by kernel_rfl
theorem t100 {args : List SV} {res : SV} (ka : KFL args) (kr : KF res) (h : sx Try.prog Y0 0 c100 (st0 args 20) (retK r100 res)) (hA : Nat.ble args.length 20 = true := by rfl) : Ct Try.prog 100 args res := ct_intro Try.func100 rfl b100 c100_ok r100_ok n100 (Nat.le_of_ble_eq_true hA) ka kr h
def c106 : SC := (.seq (.reg [
  ⟨some 2, .mv (.c (.bool false)), none, []⟩])
  (.seq (.reg [
  ⟨some 3, .mv (.t 0), none, []⟩,
  ⟨some 4, .mv (.t 0), none, []⟩,
  ⟨some 5, .bin .neq (.t 3) (.t 4), none, []⟩,
  ⟨some 2, .mv (.t 5), none, []⟩])
  .ret))
def r106 : List RV := [.tmp 2]
theorem n106 : Try.f106.ntmps = 6 := by kernel_rfl
theorem b106 : bodyB Try.prog 106 = true := by kernel_rfl
theorem c106_ok : cmpC Try.prog c106 ((Try.f106.body).getD .skip) = true := by kernel_rfl
theorem r106_ok : cmpR Try.prog r106 Try.f106.results.toList = true := by kernel_rfl
theorem t106 {args : List SV} {res : SV} (ka : KFL args) (kr : KF res) (h : sx Try.prog Y0 0 c106 (st0 args 6) (retK r106 res)) (hA : Nat.ble args.length 6 = true := by rfl) : Ct Try.prog 106 args res := ct_intro Try.func106 rfl b106 c106_ok r106_ok n106 (Nat.le_of_ble_eq_true hA) ka kr h
def c99 : SC := (.seq (.reg [
  ⟨some 4, .mv (.c (.slice none 0 0)), none, []⟩])
  (.seq (.seq (.reg [
  ⟨some 9, .mv (.t 1), none, []⟩,
  ⟨some 10, .bin .lss (.t 9) (.c (.int .i64 0)), none, []⟩])
  (.cond (.t 10)
  (.reg [
   ⟨some 11, .raw (Go.Op.makeInterface 9 (Go.Operand.const (Go.Value.string { data := #[99, 97, 110, 110, 111, 116, 32, 98, 101, 32, 110, 101, 103, 97, 116, 105, 118, 101] }))) 20, none, []⟩,
   ⟨none, .raw (Go.Op.panic (Go.Operand.tmp 11)) 0, none, []⟩])
  .skip))
  (.seq (.reg [
  ⟨some 13, .mv (.t 0), none, []⟩,
  ⟨some 14, .len (.t 13), none, []⟩,
  ⟨some 15, .conv .u64 (.t 14), none, []⟩,
  ⟨some 16, .mv (.t 1), none, []⟩,
  ⟨some 17, .conv .u64 (.t 16), none, []⟩,
  ⟨some 18, .call 105 [.t 15, .t 17], none, []⟩,
  ⟨some 12, .mv (.t 18), none, []⟩,
  ⟨some 19, .ext (.t 12) 0, none, []⟩,
  ⟨some 20, .ext (.t 12) 1, none, []⟩,
  ⟨some 5, .mv (.t 19), none, []⟩,
  ⟨some 6, .mv (.t 20), none, []⟩])
  (.seq (.seq (.reg [
  ⟨some 21, .mv (.t 5), none, []⟩,
  ⟨some 22, .bin .gtr (.t 21) (.c (.int .u64 0)), none, []⟩,
  ⟨some 23, .mv (.t 22), none, []⟩,
  ⟨some 24, .mv (.t 6), some (23, false), []⟩,
  ⟨some 25, .bin .gtr (.t 24) (.c (.int .u64 9223372036854775807)), some (23, false), []⟩,
  ⟨some 26, .pick (.t 23) (.c (.bool true)) (.t 25), none, []⟩])
  (.cond (.t 26)
  (.reg [
   ⟨some 27, .raw (Go.Op.makeInterface 9 (Go.Operand.const (Go.Value.string { data := #[116, 104, 101, 32, 114, 101, 115, 117, 108, 116, 32, 111, 102, 32, 40, 108, 101, 110, 40, 120, 41, 32, 42, 32, 99, 111, 117, 110, 116, 41, 32, 111, 118, 101, 114, 102, 108, 111, 119, 115] }))) 20, none, []⟩,
   ⟨none, .raw (Go.Op.panic (Go.Operand.tmp 27)) 0, none, []⟩])
  .skip))
  (.seq (.reg [
  ⟨some 28, .mv (.t 6), none, []⟩,
  ⟨some 29, .conv .i64 (.t 28), none, []⟩,
  ⟨some 30, .mks 1 8 [.int .i64 0] 3 (.t 29), none, []⟩,
  ⟨some 7, .mv (.t 30), none, []⟩])
  (.seq (.reg [
  ⟨some 31, .mv (.t 7), none, []⟩,
  ⟨some 32, .mv (.t 0), none, []⟩,
  ⟨some 33, .cpy 1 (.t 31) (.t 32), none, []⟩,
  ⟨some 8, .mv (.t 33), none, []⟩])
  (.seq (.block 0 (.loop (.seq (.seq (.reg [
    ⟨some 34, .mv (.t 8), none, []⟩,
    ⟨some 35, .mv (.t 7), none, []⟩,
    ⟨some 36, .len (.t 35), none, []⟩,
    ⟨some 37, .bin .lss (.t 34) (.t 36), none, []⟩])
    (.cond (.t 37)
    .skip
    (.exit 0)))
    (.block 1 (.regd [1, 2, 3, 4, 5, 6, 0, 7, 8, 9] [
     .op ⟨some 39, .mv (.t 7), none, []⟩,
     .op ⟨some 40, .mv (.t 8), none, []⟩,
     .op ⟨some 41, .sub 1 (.t 39) (some (.t 40)) none, none, [1, 2]⟩,
     .op ⟨some 42, .mv (.t 7), none, []⟩,
     .op ⟨some 43, .mv (.t 8), none, []⟩,
     .op ⟨some 44, .sub 1 (.t 42) none (some (.t 43)), none, [4, 5]⟩,
     .hide (.t 41),
     .op ⟨some 38, .mv (.t 8), none, []⟩] 0 1 [
     ⟨some 45, .cpy 1 (.t 41) (.t 44), none, [3, 6]⟩,
     ⟨some 46, .bin .add (.t 38) (.t 45), none, [0, 7]⟩,
     ⟨some 8, .mv (.t 46), none, [0, 1, 2, 3, 4, 5, 6, 7, 8]⟩])))))
  (.seq (.reg [
  ⟨some 47, .mv (.t 7), none, []⟩,
  ⟨some 4, .mv (.t 47), none, []⟩])
  .ret))))))))
def r99 : List RV := [.tmp 4]
theorem n99 : Try.f99.ntmps = 48 := by kernel_rfl
theorem b99 : bodyB Try.prog 99 = true := by kernel_rfl
theorem c99_ok : cmpC Try.prog c99 ((Try.f99.body).getD .skip) = true := by kernel_rfl
theorem r99_ok : cmpR Try.prog r99 Try.f99.results.toList = true := by kernel_rfl
theorem m99 {n0 : Nat} {hp0 : List (Nat × HB)} {args : List SV} {Post : Ot → Prop} (hh : hpb n0 hp0) (hx : ∀ o, Post o → KX o.res ∧ KXP o.hp) (h : sx Try.prog Y0 n0 c99 ⟨enum 0 args, hp0, n0, 48, []⟩ (retM r99 fun o => ∃ o', Post o' ∧ EntO n0 o o')) (hA : Nat.ble args.length 48 = true := by rfl) : CtM Try.prog 99 hp0 n0 args Post := ctm_intro Try.func99 rfl b99 c99_ok r99_ok n99 (Nat.le_of_ble_eq_true hA) hh hx h
def c105 : SC := (.seq (.reg [
  ⟨some 4, .mv (.c (.int .u64 0)), none, []⟩,
  ⟨some 5, .mv (.c (.int .u64 0)), none, []⟩])
  (.seq (.cond (.c (.bool false))
  (.seq (.reg [
   ⟨some 11, .mv (.t 0), none, []⟩,
   ⟨some 12, .conv .u32 (.t 11), none, []⟩,
   ⟨some 13, .mv (.t 1), none, []⟩,
   ⟨some 14, .conv .u32 (.t 13), none, []⟩,
   ⟨some 15, .call 108 [.t 12, .t 14], none, []⟩,
   ⟨some 10, .mv (.t 15), none, []⟩,
   ⟨some 16, .ext (.t 10) 0, none, []⟩,
   ⟨some 17, .ext (.t 10) 1, none, []⟩,
   ⟨some 6, .mv (.t 16), none, []⟩,
   ⟨some 7, .mv (.t 17), none, []⟩])
   (.seq (.reg [
   ⟨some 18, .mv (.t 6), none, []⟩,
   ⟨some 19, .conv .u64 (.t 18), none, []⟩,
   ⟨some 20, .mv (.t 7), none, []⟩,
   ⟨some 21, .conv .u64 (.t 20), none, []⟩,
   ⟨some 4, .mv (.t 19), none, []⟩,
   ⟨some 5, .mv (.t 21), none, []⟩])
   .ret))
  .skip)
  (.seq (.reg [
  ⟨some 23, .mv (.t 0), none, []⟩,
  ⟨some 24, .mv (.t 1), none, []⟩,
  ⟨some 25, .call 109 [.t 23, .t 24], none, []⟩,
  ⟨some 22, .mv (.t 25), none, []⟩,
  ⟨some 26, .ext (.t 22) 0, none, []⟩,
  ⟨some 27, .ext (.t 22) 1, none, []⟩,
  ⟨some 8, .mv (.t 26), none, []⟩,
  ⟨some 9, .mv (.t 27), none, []⟩])
  (.seq (.reg [
  ⟨some 28, .mv (.t 8), none, []⟩,
  ⟨some 29, .mv (.t 9), none, []⟩,
  ⟨some 4, .mv (.t 28), none, []⟩,
  ⟨some 5, .mv (.t 29), none, []⟩])
  .ret))))
def r105 : List RV := [.tmp 4, .tmp 5]
theorem n105 : Try.f105.ntmps = 30 := by kernel_rfl
theorem b105 : bodyB Try.prog 105 = true := by kernel_rfl
theorem c105_ok : cmpC Try.prog c105 ((Try.f105.body).getD .skip) = true := by kernel_rfl
theorem r105_ok : cmpR Try.prog r105 Try.f105.results.toList = true := by kernel_rfl
theorem t105 {args : List SV} {res : SV} (ka : KFL args) (kr : KF res) (h : sx Try.prog Y0 0 c105 (st0 args 30) (retK r105 res)) (hA : Nat.ble args.length 30 = true := by rfl) : Ct Try.prog 105 args res := ct_intro Try.func105 rfl b105 c105_ok r105_ok n105 (Nat.le_of_ble_eq_true hA) ka kr h
def c109 : SC := (.seq (.reg [
  ⟨some 4, .mv (.c (.int .u64 0)), none, []⟩,
  ⟨some 5, .mv (.c (.int .u64 0)), none, []⟩])
  (.seq (.reg [
  ⟨some 14, .mv (.t 0), none, []⟩,
  ⟨some 15, .raw (Go.Op.binOp Go.BinOp.and 168 (Go.Operand.tmp 14) (Go.Operand.const (Go.Value.int Go.IntKind.u64 4294967295)) 168) 168, none, []⟩,
  ⟨some 6, .mv (.t 15), none, []⟩])
  (.seq (.reg [
  ⟨some 16, .mv (.t 0), none, []⟩,
  ⟨some 17, .raw (Go.Op.binOp Go.BinOp.shr 168 (Go.Operand.tmp 16) (Go.Operand.const (Go.Value.int Go.IntKind.u64 32)) 162) 168, none, []⟩,
  ⟨some 7, .mv (.t 17), none, []⟩])
  (.seq (.reg [
  ⟨some 18, .mv (.t 1), none, []⟩,
  ⟨some 19, .raw (Go.Op.binOp Go.BinOp.and 168 (Go.Operand.tmp 18) (Go.Operand.const (Go.Value.int Go.IntKind.u64 4294967295)) 168) 168, none, []⟩,
  ⟨some 8, .mv (.t 19), none, []⟩])
  (.seq (.reg [
  ⟨some 20, .mv (.t 1), none, []⟩,
  ⟨some 21, .raw (Go.Op.binOp Go.BinOp.shr 168 (Go.Operand.tmp 20) (Go.Operand.const (Go.Value.int Go.IntKind.u64 32)) 162) 168, none, []⟩,
  ⟨some 9, .mv (.t 21), none, []⟩])
  (.seq (.reg [
  ⟨some 22, .mv (.t 6), none, []⟩,
  ⟨some 23, .mv (.t 8), none, []⟩,
  ⟨some 24, .bin .mul (.t 22) (.t 23), none, []⟩,
  ⟨some 10, .mv (.t 24), none, []⟩])
  (.seq (.reg [
  ⟨some 25, .mv (.t 7), none, []⟩,
  ⟨some 26, .mv (.t 8), none, []⟩,
  ⟨some 27, .bin .mul (.t 25) (.t 26), none, []⟩,
  ⟨some 28, .mv (.t 10), none, []⟩,
  ⟨some 29, .raw (Go.Op.binOp Go.BinOp.shr 168 (Go.Operand.tmp 28) (Go.Operand.const (Go.Value.int Go.IntKind.u64 32)) 162) 168, none, []⟩,
  ⟨some 30, .bin .add (.t 27) (.t 29), none, []⟩,
  ⟨some 11, .mv (.t 30), none, []⟩])
  (.seq (.reg [
  ⟨some 31, .mv (.t 11), none, []⟩,
  ⟨some 32, .raw (Go.Op.binOp Go.BinOp.and 168 (Go.Operand.tmp 31) (Go.Operand.const (Go.Value.int Go.IntKind.u64 4294967295)) 168) 168, none, []⟩,
  ⟨some 12, .mv (.t 32), none, []⟩])
  (.seq (.reg [
  ⟨some 33, .mv (.t 11), none, []⟩,
  ⟨some 34, .raw (Go.Op.binOp Go.BinOp.shr 168 (Go.Operand.tmp 33) (Go.Operand.const (Go.Value.int Go.IntKind.u64 32)) 162) 168, none, []⟩,
  ⟨some 13, .mv (.t 34), none, []⟩])
  (.seq (.reg [
  ⟨some 35, .mv (.t 12), none, []⟩,
  ⟨some 36, .mv (.t 6), none, []⟩,
  ⟨some 37, .mv (.t 9), none, []⟩,
  ⟨some 38, .bin .mul (.t 36) (.t 37), none, []⟩,
  ⟨some 39, .bin .add (.t 35) (.t 38), none, []⟩,
  ⟨some 12, .mv (.t 39), none, []⟩])
  (.seq (.reg [
  ⟨some 40, .mv (.t 7), none, []⟩,
  ⟨some 41, .mv (.t 9), none, []⟩,
  ⟨some 42, .bin .mul (.t 40) (.t 41), none, []⟩,
  ⟨some 43, .mv (.t 13), none, []⟩,
  ⟨some 44, .bin .add (.t 42) (.t 43), none, []⟩,
  ⟨some 45, .mv (.t 12), none, []⟩,
  ⟨some 46, .raw (Go.Op.binOp Go.BinOp.shr 168 (Go.Operand.tmp 45) (Go.Operand.const (Go.Value.int Go.IntKind.u64 32)) 162) 168, none, []⟩,
  ⟨some 47, .bin .add (.t 44) (.t 46), none, []⟩,
  ⟨some 4, .mv (.t 47), none, []⟩])
  (.seq (.reg [
  ⟨some 48, .mv (.t 0), none, []⟩,
  ⟨some 49, .mv (.t 1), none, []⟩,
  ⟨some 50, .bin .mul (.t 48) (.t 49), none, []⟩,
  ⟨some 5, .mv (.t 50), none, []⟩])
  .ret))))))))))))
def r109 : List RV := [.tmp 4, .tmp 5]
theorem n109 : Try.f109.ntmps = 51 := by kernel_rfl
theorem b109 : bodyB Try.prog 109 = true := by kernel_rfl
theorem c109_ok : cmpC Try.prog c109 ((Try.f109.body).getD .skip) = true := by kernel_rfl
theorem r109_ok : cmpR Try.prog r109 Try.f109.results.toList = true := by kernel_rfl
theorem t109 {args : List SV} {res : SV} (ka : KFL args) (kr : KF res) (h : sx Try.prog Y0 0 c109 (st0 args 51) (retK r109 res)) (hA : Nat.ble args.length 51 = true := by rfl) : Ct Try.prog 109 args res := ct_intro Try.func109 rfl b109 c109_ok r109_ok n109 (Nat.le_of_ble_eq_true hA) ka kr h
def c84 : SC := (.seq (.reg [
  ⟨some 3, .box (.t 0) 0 86, none, []⟩,
  ⟨some 4, .box (.t 1) 0 29, none, []⟩,
  ⟨some 5, .box (.t 2) 0 29, none, []⟩,
  ⟨some 6, .alloc [.int .i64 0, .int .i64 0] 29, none, []⟩])
  (.seq (.reg [
  ⟨some 10, .build [.int .i64 0, .int .i64 0] [(0, 1, .c (.int .i64 100001)), (1, 1, .c (.int .i64 100001))], none, []⟩,
  ⟨some 7, .alloc [.int .i64 0, .int .i64 0] 29, none, []⟩,
  ⟨none, .st (.t 7) (.t 10) 2, none, []⟩])
  (.seq (.seq (.reg [
  ⟨some 11, .ld (.t 3) 5 true, none, []⟩,
  ⟨some 12, .addo (.t 4) 0, none, []⟩,
  ⟨some 13, .ld (.t 12) 1 false, none, []⟩,
  ⟨some 14, .ld (.t 5) 2 true, none, []⟩,
  ⟨some 15, .call 69 [.t 11, .t 13, .t 14], none, []⟩,
  ⟨some 8, .mv (.t 15), none, []⟩])
  (.seq (.reg [
  ⟨some 16, .mv (.t 8), none, []⟩,
  ⟨some 17, .bin .lss (.t 16) (.c (.int .i64 100001)), none, []⟩])
  (.cond (.t 17)
  (.reg [
   ⟨some 18, .mv (.t 8), none, []⟩,
   ⟨some 19, .ld (.t 3) 5 true, none, []⟩,
   ⟨some 20, .ld (.t 5) 2 true, none, []⟩,
   ⟨some 21, .call 67 [.t 19, .t 20], none, []⟩,
   ⟨some 22, .fld (.t 21) 0 1 false, none, []⟩,
   ⟨some 23, .bin .add (.t 18) (.t 22), none, []⟩,
   ⟨some 24, .mm false [.c (.int .i64 100001), .t 23], none, []⟩,
   ⟨some 25, .addo (.t 7) 0, none, []⟩,
   ⟨none, .st (.t 25) (.t 24) 1, none, []⟩])
  .skip)))
  (.seq (.seq (.reg [
  ⟨some 26, .ld (.t 3) 5 true, none, []⟩,
  ⟨some 27, .addo (.t 4) 1, none, []⟩,
  ⟨some 28, .ld (.t 27) 1 false, none, []⟩,
  ⟨some 29, .ld (.t 5) 2 true, none, []⟩,
  ⟨some 30, .call 70 [.t 26, .t 28, .t 29], none, []⟩,
  ⟨some 9, .mv (.t 30), none, []⟩])
  (.seq (.reg [
  ⟨some 31, .mv (.t 9), none, []⟩,
  ⟨some 32, .bin .lss (.t 31) (.c (.int .i64 100001)), none, []⟩])
  (.cond (.t 32)
  (.reg [
   ⟨some 33, .mv (.t 9), none, []⟩,
   ⟨some 34, .ld (.t 3) 5 true, none, []⟩,
   ⟨some 35, .ld (.t 5) 2 true, none, []⟩,
   ⟨some 36, .call 67 [.t 34, .t 35], none, []⟩,
   ⟨some 37, .fld (.t 36) 1 1 false, none, []⟩,
   ⟨some 38, .bin .add (.t 33) (.t 37), none, []⟩,
   ⟨some 39, .mm false [.c (.int .i64 100001), .t 38], none, []⟩,
   ⟨some 40, .addo (.t 7) 1, none, []⟩,
   ⟨none, .st (.t 40) (.t 39) 1, none, []⟩])
  .skip)))
  (.seq (.reg [
  ⟨some 41, .ld (.t 7) 2 true, none, []⟩,
  ⟨none, .st (.t 6) (.t 41) 2, none, []⟩])
  .ret)))))
def r84 : List RV := [.cell 6 2 true]
theorem n84 : Try.f84.ntmps = 42 := by kernel_rfl
theorem b84 : bodyB Try.prog 84 = true := by kernel_rfl
theorem c84_ok : cmpC Try.prog c84 ((Try.f84.body).getD .skip) = true := by kernel_rfl
theorem r84_ok : cmpR Try.prog r84 Try.f84.results.toList = true := by kernel_rfl
theorem t84 {args : List SV} {res : SV} (ka : KFL args) (kr : KF res) (h : sx Try.prog Y0 0 c84 (st0 args 42) (retK r84 res)) (hA : Nat.ble args.length 42 = true := by rfl) : Ct Try.prog 84 args res := ct_intro Try.func84 rfl b84 c84_ok r84_ok n84 (Nat.le_of_ble_eq_true hA) ka kr h
def c33 : SC := (.seq (.reg [
  ⟨some 4, .box (.t 0) 0 25, none, []⟩,
  ⟨some 7, .box (.t 3) 0 29, none, []⟩,
  ⟨some 8, .mv (.c (.slice none 0 0)), none, []⟩,
  ⟨some 9, .mv (.c (.int .i64 0)), none, []⟩])
  (.seq (.seq (.reg [
  ⟨some 20, .ld (.t 4) 2 true, none, []⟩,
  ⟨some 21, .ld (.t 7) 2 true, none, []⟩,
  ⟨some 22, .call 66 [.t 20, .t 21], none, []⟩,
  ⟨some 10, .mv (.t 22), none, []⟩])
  (.seq (.reg [
  ⟨some 23, .mv (.t 10), none, []⟩,
  ⟨some 24, .bin .neq (.t 23) (.c (.int .i64 0)), none, []⟩])
  (.cond (.t 24)
  (.seq (.reg [
   ⟨some 25, .mv (.t 10), none, []⟩,
   ⟨some 8, .mv (.c (.slice none 0 0)), none, []⟩,
   ⟨some 9, .mv (.t 25), none, []⟩])
   .ret)
  .skip)))
  (.seq (.seq (.reg [
  ⟨some 26, .mv (.t 1), none, []⟩,
  ⟨some 27, .addo (.t 4) 0, none, []⟩,
  ⟨some 28, .ld (.t 27) 1 false, none, []⟩,
  ⟨some 29, .len (.t 28), none, []⟩,
  ⟨some 30, .bin .sub (.t 29) (.c (.int .i64 1)), none, []⟩,
  ⟨some 31, .call 61 [.t 26, .c (.int .i64 0), .t 30], none, []⟩,
  ⟨some 32, .un .not (.t 31), none, []⟩,
  ⟨some 33, .mv (.t 32), none, []⟩,
  ⟨some 34, .mv (.t 2), some (33, false), []⟩,
  ⟨some 35, .call 61 [.t 34, .c (.int .i64 0), .c (.int .i64 100000)], some (33, false), []⟩,
  ⟨some 36, .un .not (.t 35), some (33, false), []⟩,
  ⟨some 37, .pick (.t 33) (.c (.bool true)) (.t 36), none, []⟩])
  (.cond (.t 37)
  (.seq (.reg [
   ⟨some 8, .mv (.c (.slice none 0 0)), none, []⟩,
   ⟨some 9, .mv (.c (.int .i64 2)), none, []⟩])
   .ret)
  .skip))
  (.seq (.reg [
  ⟨some 11, .mv (.c (.slice none 0 0)), none, []⟩])
  (.seq (.seq (.reg [
  ⟨some 12, .mv (.c (.int .i64 0)), none, []⟩])
  (.block 0 (.loop (.seq (.seq (.reg [
    ⟨some 38, .mv (.t 12), none, []⟩,
    ⟨some 39, .addo (.t 4) 0, none, []⟩,
    ⟨some 40, .ld (.t 39) 1 false, none, []⟩,
    ⟨some 41, .len (.t 40), none, []⟩,
    ⟨some 42, .bin .lss (.t 38) (.t 41), none, []⟩])
    (.cond (.t 42)
    .skip
    (.exit 0)))
    (.seq (.block 1 (.reg [
     ⟨some 45, .mv (.t 11), none, []⟩,
     ⟨some 46, .build [.int .i64 0, .int .i64 0] [(0, 1, .c (.int .i64 100001)), (1, 1, .c (.int .i64 100001))], none, []⟩,
     ⟨some 47, .bsl 2 29 [.t 46], none, []⟩,
     ⟨some 48, .appm 2 16 29 (.t 45) (.t 47), none, []⟩,
     ⟨some 11, .mv (.t 48), none, []⟩]))
    (.reg [
    ⟨some 43, .mv (.t 12), none, []⟩,
    ⟨some 44, .bin .add (.t 43) (.c (.int .i64 1)), none, []⟩,
    ⟨some 12, .mv (.t 44), none, []⟩]))))))
  (.seq (.reg [
  ⟨some 49, .mv (.t 11), none, []⟩,
  ⟨some 50, .mv (.t 1), none, []⟩,
  ⟨some 51, .mv (.t 2), none, []⟩,
  ⟨some 52, .mv (.t 2), none, []⟩,
  ⟨some 53, .build [.int .i64 0, .int .i64 0] [(0, 1, .t 51), (1, 1, .t 52)], none, []⟩,
  ⟨some 54, .ixs (.t 49) (.t 50) 2, none, []⟩,
  ⟨none, .st (.t 54) (.t 53) 2, none, []⟩])
  (.seq (.seq (.reg [
  ⟨some 13, .mv (.c (.bool true)), none, []⟩])
  (.block 2 (.loop (.seq (.seq (.reg [
    ⟨some 55, .mv (.t 13), none, []⟩])
    (.cond (.t 55)
    .skip
    (.exit 2)))
    (.block 3 (.seq (.reg [
     ⟨some 13, .mv (.c (.bool false)), none, []⟩])
     (.seq (.reg [
     ⟨some 14, .mv (.c (.int .i64 0)), none, []⟩])
     (.block 4 (.loop (.seq (.seq (.reg [
       ⟨some 56, .mv (.t 14), none, []⟩,
       ⟨some 57, .addo (.t 4) 1, none, []⟩,
       ⟨some 58, .ld (.t 57) 1 false, none, []⟩,
       ⟨some 59, .len (.t 58), none, []⟩,
       ⟨some 60, .bin .lss (.t 56) (.t 59), none, []⟩])
       (.cond (.t 60)
       .skip
       (.exit 4)))
       (.seq (.block 5 (.seq (.reg [
        ⟨some 63, .addo (.t 4) 1, none, []⟩,
        ⟨some 64, .ld (.t 63) 1 false, none, []⟩,
        ⟨some 65, .mv (.t 14), none, []⟩,
        ⟨some 66, .ixs (.t 64) (.t 65) 5, none, []⟩,
        ⟨some 67, .ld (.t 66) 5 true, none, []⟩,
        ⟨some 15, .alloc [.int .i64 0, .int .i64 0, .int .i64 0, .int .i64 0, .slice none 0 0] 86, none, []⟩,
        ⟨none, .st (.t 15) (.t 67) 5, none, []⟩])
        (.seq (.reg [
        ⟨some 16, .mv (.c (.int .i64 0)), none, []⟩])
        (.block 6 (.loop (.seq (.seq (.reg [
          ⟨some 68, .mv (.t 16), none, []⟩,
          ⟨some 69, .bin .lss (.t 68) (.c (.int .i64 2)), none, []⟩])
          (.cond (.t 69)
          .skip
          (.exit 6)))
          (.seq (.block 7 (.seq (.regd [0, 1, 2, 3, 4, 5] [
           .op ⟨some 72, .addo (.t 15) 0, none, []⟩,
           .op ⟨some 73, .ld (.t 72) 1 false, none, [0]⟩,
           .op ⟨some 74, .addo (.t 15) 1, none, []⟩,
           .op ⟨some 75, .ld (.t 74) 1 false, none, [2]⟩,
           .op ⟨some 17, .mv (.t 73), none, [0, 1]⟩,
           .op ⟨some 18, .mv (.t 75), none, [0, 1, 2, 3, 4]⟩] 0 0 [
])
           (.seq (.seq (.reg [
           ⟨some 76, .mv (.t 16), none, []⟩,
           ⟨some 77, .bin .eql (.t 76) (.c (.int .i64 1)), none, []⟩])
           (.cond (.t 77)
           (.reg [
            ⟨some 78, .mv (.t 18), none, []⟩,
            ⟨some 79, .mv (.t 17), none, []⟩,
            ⟨some 17, .mv (.t 78), none, []⟩,
            ⟨some 18, .mv (.t 79), none, []⟩])
           .skip))
           (.seq (.regd [0, 1, 2, 3, 4, 5, 6, 7, 8] [
           .op ⟨some 80, .ld (.t 15) 5 true, none, []⟩,
           .op ⟨some 81, .mv (.t 11), none, []⟩,
           .op ⟨some 82, .mv (.t 17), none, []⟩,
           .op ⟨some 83, .ixs (.t 81) (.t 82) 2, none, [1, 2]⟩,
           .op ⟨some 84, .ld (.t 83) 2 true, none, [3]⟩,
           .op ⟨some 85, .ld (.t 7) 2 true, none, []⟩,
           .op ⟨some 86, .call 84 [.t 80, .t 84, .t 85], none, [0, 4, 5]⟩] 1 1 [
           ⟨some 19, .alloc [.int .i64 0, .int .i64 0] 29, none, []⟩,
           ⟨none, .st (.t 19) (.t 86) 2, none, [0, 1, 2, 3, 4, 5, 6, 7]⟩])
           (.seq (.regd [0, 1, 2, 3, 4, 5, 6, 7, 8, 9, 10, 11, 12, 13, 14, 15, 16, 17] [
           .op ⟨some 87, .addo (.t 19) 0, none, []⟩,
           .op ⟨some 88, .ld (.t 87) 1 false, none, [0]⟩,
           .op ⟨some 89, .mv (.t 11), none, []⟩,
           .op ⟨some 90, .mv (.t 18), none, []⟩,
           .op ⟨some 91, .ixs (.t 89) (.t 90) 2, none, [2, 3]⟩,
           .op ⟨some 92, .addo (.t 91) 0, none, [4]⟩,
           .op ⟨some 93, .ld (.t 92) 1 false, none, [5]⟩,
           .op ⟨some 94, .bin .lss (.t 88) (.t 93), none, [1, 6]⟩,
           .op ⟨some 95, .mv (.t 94), none, [7]⟩,
           .op ⟨some 96, .addo (.t 19) 1, some (95, false), [8]⟩,
           .op ⟨some 97, .ld (.t 96) 1 false, some (95, false), [8, 9]⟩,
           .op ⟨some 98, .mv (.t 11), some (95, false), [8]⟩,
           .op ⟨some 99, .mv (.t 18), some (95, false), [8]⟩,
           .op ⟨some 100, .ixs (.t 98) (.t 99) 2, some (95, false), [8, 11, 12]⟩,
           .op ⟨some 101, .addo (.t 100) 1, some (95, false), [8, 13]⟩,
           .op ⟨some 102, .ld (.t 101) 1 false, some (95, false), [8, 14]⟩,
           .op ⟨some 103, .bin .lss (.t 97) (.t 102), some (95, false), [8, 10, 15]⟩,
           .op ⟨some 104, .pick (.t 95) (.c (.bool true)) (.t 103), none, [8, 16]⟩] 0 0 [
])
           (.cond (.t 104)
           (.seq (.regd [0, 1, 2, 3, 4, 5, 6, 7, 8, 9, 10, 11, 12, 13, 14, 15, 16, 17, 18, 19, 20] [
            .op ⟨some 105, .mv (.t 11), none, []⟩,
            .op ⟨some 106, .mv (.t 18), none, []⟩,
            .op ⟨some 107, .mv (.t 11), none, []⟩,
            .op ⟨some 108, .mv (.t 18), none, []⟩,
            .op ⟨some 109, .ixs (.t 107) (.t 108) 2, none, [2, 3]⟩,
            .op ⟨some 110, .addo (.t 109) 0, none, [4]⟩,
            .op ⟨some 111, .ld (.t 110) 1 false, none, [5]⟩,
            .op ⟨some 112, .addo (.t 19) 0, none, []⟩,
            .op ⟨some 113, .ld (.t 112) 1 false, none, [7]⟩,
            .op ⟨some 114, .mm false [.t 111, .t 113], none, [6, 8]⟩,
            .op ⟨some 115, .mv (.t 11), none, []⟩,
            .op ⟨some 116, .mv (.t 18), none, []⟩,
            .op ⟨some 117, .ixs (.t 115) (.t 116) 2, none, [10, 11]⟩,
            .op ⟨some 118, .addo (.t 117) 1, none, [12]⟩,
            .op ⟨some 119, .ld (.t 118) 1 false, none, [13]⟩,
            .op ⟨some 120, .addo (.t 19) 1, none, []⟩,
            .op ⟨some 121, .ld (.t 120) 1 false, none, [15]⟩,
            .op ⟨some 122, .mm false [.t 119, .t 121], none, [14, 16]⟩,
            .op ⟨some 123, .build [.int .i64 0, .int .i64 0] [(0, 1, .t 114), (1, 1, .t 122)], none, [9, 17]⟩,
            .op ⟨some 124, .ixs (.t 105) (.t 106) 2, none, [0, 1, 2, 3, 4, 5, 6, 7, 8, 9, 10, 11, 12, 13, 14, 15, 16, 17, 18]⟩] 0 1 [
            ⟨none, .st (.t 124) (.t 123) 2, none, [0, 1, 2, 3, 4, 5, 6, 7, 8, 9, 10, 11, 12, 13, 14, 15, 16, 17, 18, 19]⟩])
            (.reg [
            ⟨some 13, .mv (.c (.bool true)), none, []⟩]))
           .skip))))))
          (.reg [
          ⟨some 70, .mv (.t 16), none, []⟩,
          ⟨some 71, .bin .add (.t 70) (.c (.int .i64 1)), none, []⟩,
          ⟨some 16, .mv (.t 71), none, []⟩]))))))))
       (.reg [
       ⟨some 61, .mv (.t 14), none, []⟩,
       ⟨some 62, .bin .add (.t 61) (.c (.int .i64 1)), none, []⟩,
       ⟨some 14, .mv (.t 62), none, []⟩]))))))))))))
  (.seq (.reg [
  ⟨some 125, .mv (.t 11), none, []⟩,
  ⟨some 8, .mv (.t 125), none, []⟩,
  ⟨some 9, .mv (.c (.int .i64 0)), none, []⟩])
  .ret))))))))
def r33 : List RV := [.tmp 8, .tmp 9]
theorem n33 : Try.f33.ntmps = 126 := by kernel_rfl
theorem b33 : bodyB Try.prog 33 = true := by kernel_rfl
theorem c33_ok : cmpC Try.prog c33 ((Try.f33.body).getD .skip) = true := by kernel_rfl
theorem r33_ok : cmpR Try.prog r33 Try.f33.results.toList = true := by kernel_rfl
theorem t33 {args : List SV} {res : SV} (ka : KFL args) (kr : KF res) (h : sx Try.prog Y0 0 c33 (st0 args 126) (retK r33 res)) (hA : Nat.ble args.length 126 = true := by rfl) : Ct Try.prog 33 args res := ct_intro Try.func33 rfl b33 c33_ok r33_ok n33 (Nat.le_of_ble_eq_true hA) ka kr h
def c35 : SC := (.seq (.reg [
  ⟨some 5, .box (.t 0) 0 25, none, []⟩,
  ⟨some 8, .box (.t 3) 0 29, none, []⟩,
  ⟨some 10, .mv (.c (.slice none 0 0)), none, []⟩,
  ⟨some 11, .mv (.c (.int .i64 0)), none, []⟩,
  ⟨some 12, .mv (.c (.int .i64 0)), none, []⟩])
  (.seq (.seq (.reg [
  ⟨some 21, .ld (.t 5) 2 true, none, []⟩,
  ⟨some 22, .ld (.t 8) 2 true, none, []⟩,
  ⟨some 23, .call 66 [.t 21, .t 22], none, []⟩,
  ⟨some 13, .mv (.t 23), none, []⟩])
  (.seq (.reg [
  ⟨some 24, .mv (.t 13), none, []⟩,
  ⟨some 25, .bin .neq (.t 24) (.c (.int .i64 0)), none, []⟩])
  (.cond (.t 25)
  (.seq (.reg [
   ⟨some 26, .mv (.t 13), none, []⟩,
   ⟨some 10, .mv (.c (.slice none 0 0)), none, []⟩,
   ⟨some 11, .mv (.c (.int .i64 0)), none, []⟩,
   ⟨some 12, .mv (.t 26), none, []⟩])
   .ret)
  .skip)))
  (.seq (.seq (.reg [
  ⟨some 27, .mv (.t 1), none, []⟩,
  ⟨some 28, .addo (.t 5) 0, none, []⟩,
  ⟨some 29, .ld (.t 28) 1 false, none, []⟩,
  ⟨some 30, .len (.t 29), none, []⟩,
  ⟨some 31, .bin .sub (.t 30) (.c (.int .i64 1)), none, []⟩,
  ⟨some 32, .call 61 [.t 27, .c (.int .i64 0), .t 31], none, []⟩,
  ⟨some 33, .un .not (.t 32), none, []⟩,
  ⟨some 34, .mv (.t 33), none, []⟩,
  ⟨some 35, .mv (.t 2), some (34, false), []⟩,
  ⟨some 36, .call 61 [.t 35, .c (.int .i64 0), .c (.int .i64 100000)], some (34, false), []⟩,
  ⟨some 37, .un .not (.t 36), some (34, false), []⟩,
  ⟨some 38, .pick (.t 34) (.c (.bool true)) (.t 37), none, []⟩])
  (.cond (.t 38)
  (.seq (.reg [
   ⟨some 10, .mv (.c (.slice none 0 0)), none, []⟩,
   ⟨some 11, .mv (.c (.int .i64 0)), none, []⟩,
   ⟨some 12, .mv (.c (.int .i64 2)), none, []⟩])
   .ret)
  .skip))
  (.seq (.seq (.reg [
  ⟨some 39, .mv (.t 4), none, []⟩,
  ⟨some 40, .len (.t 39), none, []⟩,
  ⟨some 41, .bin .gtr (.t 40) (.c (.int .i64 24)), none, []⟩])
  (.cond (.t 41)
  (.seq (.reg [
   ⟨some 10, .mv (.c (.slice none 0 0)), none, []⟩,
   ⟨some 11, .mv (.c (.int .i64 0)), none, []⟩,
   ⟨some 12, .mv (.c (.int .i64 4)), none, []⟩])
   .ret)
  .skip))
  (.seq (.reg [
  ⟨some 42, .mv (.t 1), none, []⟩,
  ⟨some 14, .mv (.t 42), none, []⟩])
  (.seq (.seq (.reg [
  ⟨some 15, .mv (.c (.int .i64 0)), none, []⟩])
  (.block 0 (.loop (.seq (.seq (.reg [
    ⟨some 43, .mv (.t 15), none, []⟩,
    ⟨some 44, .mv (.t 4), none, []⟩,
    ⟨some 45, .len (.t 44), none, []⟩,
    ⟨some 46, .bin .lss (.t 43) (.t 45), none, []⟩])
    (.cond (.t 46)
    .skip
    (.exit 0)))
    (.seq (.block 1 (.seq (.seq (.regd [0, 1, 2, 3, 4, 5, 6, 7, 8, 9, 10, 11, 12, 13, 14, 15, 16, 17, 18, 19, 20, 21, 22] [
     .op ⟨some 49, .mv (.t 4), none, []⟩,
     .op ⟨some 50, .mv (.t 15), none, []⟩,
     .op ⟨some 51, .ixs (.t 49) (.t 50) 1, none, [0, 1]⟩,
     .op ⟨some 52, .ld (.t 51) 1 false, none, [2]⟩,
     .op ⟨some 53, .addo (.t 5) 1, none, []⟩,
     .op ⟨some 54, .ld (.t 53) 1 false, none, [4]⟩,
     .op ⟨some 55, .len (.t 54), none, [5]⟩,
     .op ⟨some 56, .bin .sub (.t 55) (.c (.int .i64 1)), none, [6]⟩,
     .op ⟨some 57, .call 61 [.t 52, .c (.int .i64 0), .t 56], none, [3, 7]⟩,
     .op ⟨some 58, .un .not (.t 57), none, [8]⟩,
     .op ⟨some 59, .mv (.t 58), none, [8, 9]⟩,
     .op ⟨some 60, .addo (.t 5) 1, some (59, false), [10]⟩,
     .op ⟨some 61, .ld (.t 60) 1 false, some (59, false), [10, 11]⟩,
     .op ⟨some 62, .mv (.t 4), some (59, false), [10]⟩,
     .op ⟨some 63, .mv (.t 15), some (59, false), [10]⟩,
     .op ⟨some 64, .ixs (.t 62) (.t 63) 1, some (59, false), [10, 13, 14]⟩,
     .op ⟨some 65, .ld (.t 64) 1 false, some (59, false), [10, 15]⟩,
     .op ⟨some 66, .ixs (.t 61) (.t 65) 5, some (59, false), [10, 12, 16]⟩,
     .op ⟨some 67, .ld (.t 66) 5 true, some (59, false), [10, 17]⟩,
     .op ⟨some 68, .mv (.t 14), some (59, false), [10]⟩,
     .op ⟨some 69, .call 86 [.t 67, .t 68], some (59, false), [10, 18, 19]⟩,
     .op ⟨some 70, .bin .lss (.t 69) (.c (.int .i64 0)), some (59, false), [10, 20]⟩,
     .op ⟨some 71, .pick (.t 59) (.c (.bool true)) (.t 70), none, [10, 21]⟩] 0 0 [
])
     (.cond (.t 71)
     (.seq (.reg [
      ⟨some 72, .mv (.t 15), none, []⟩,
      ⟨some 10, .mv (.c (.slice none 0 0)), none, []⟩,
      ⟨some 11, .mv (.t 72), none, []⟩,
      ⟨some 12, .mv (.c (.int .i64 8)), none, []⟩])
      .ret)
     .skip))
     (.regd [0, 1, 2, 3, 4, 5, 6, 7, 8, 9, 10] [
     .op ⟨some 73, .addo (.t 5) 1, none, []⟩,
     .op ⟨some 74, .ld (.t 73) 1 false, none, [0]⟩,
     .op ⟨some 75, .mv (.t 4), none, []⟩,
     .op ⟨some 76, .mv (.t 15), none, []⟩,
     .op ⟨some 77, .ixs (.t 75) (.t 76) 1, none, [2, 3]⟩,
     .op ⟨some 78, .ld (.t 77) 1 false, none, [4]⟩,
     .op ⟨some 79, .ixs (.t 74) (.t 78) 5, none, [1, 5]⟩,
     .op ⟨some 80, .ld (.t 79) 5 true, none, [6]⟩,
     .op ⟨some 81, .mv (.t 14), none, []⟩,
     .op ⟨some 82, .call 86 [.t 80, .t 81], none, [7, 8]⟩] 0 0 [
     ⟨some 14, .mv (.t 82), none, [0, 1, 2, 3, 4, 5, 6, 7, 8, 9]⟩])))
    (.reg [
    ⟨some 47, .mv (.t 15), none, []⟩,
    ⟨some 48, .bin .add (.t 47) (.c (.int .i64 1)), none, []⟩,
    ⟨some 15, .mv (.t 48), none, []⟩]))))))
  (.seq (.reg [
  ⟨some 16, .mv (.c (.slice none 0 0)), none, []⟩])
  (.seq (.reg [
  ⟨some 83, .mv (.t 2), none, []⟩,
  ⟨some 84, .mv (.t 2), none, []⟩,
  ⟨some 85, .build [.int .i64 0, .int .i64 0] [(0, 1, .t 83), (1, 1, .t 84)], none, []⟩,
  ⟨some 17, .alloc [.int .i64 0, .int .i64 0] 29, none, []⟩,
  ⟨none, .st (.t 17) (.t 85) 2, none, []⟩])
  (.seq (.reg [
  ⟨some 86, .mv (.t 1), none, []⟩,
  ⟨some 14, .mv (.t 86), none, []⟩])
  (.seq (.seq (.reg [
  ⟨some 18, .mv (.c (.int .i64 0)), none, []⟩])
  (.block 2 (.loop (.seq (.seq (.reg [
    ⟨some 87, .mv (.t 18), none, []⟩,
    ⟨some 88, .mv (.t 4), none, []⟩,
    ⟨some 89, .len (.t 88), none, []⟩,
    ⟨some 90, .bin .lss (.t 87) (.t 89), none, []⟩])
    (.cond (.t 90)
    .skip
    (.exit 2)))
    (.seq (.block 3 (.seq (.regd [0, 1, 2, 3, 4, 5, 6, 7, 8, 9] [
     .op ⟨some 93, .addo (.t 5) 1, none, []⟩,
     .op ⟨some 94, .ld (.t 93) 1 false, none, [0]⟩,
     .op ⟨some 95, .mv (.t 4), none, []⟩,
     .op ⟨some 96, .mv (.t 18), none, []⟩,
     .op ⟨some 97, .ixs (.t 95) (.t 96) 1, none, [2, 3]⟩,
     .op ⟨some 98, .ld (.t 97) 1 false, none, [4]⟩,
     .op ⟨some 99, .ixs (.t 94) (.t 98) 5, none, [1, 5]⟩,
     .op ⟨some 100, .ld (.t 99) 5 true, none, [6]⟩] 1 1 [
     ⟨some 19, .alloc [.int .i64 0, .int .i64 0, .int .i64 0, .int .i64 0, .slice none 0 0] 86, none, []⟩,
     ⟨none, .st (.t 19) (.t 100) 5, none, [0, 1, 2, 3, 4, 5, 6, 7, 8]⟩])
     (.seq (.reg [
     ⟨some 101, .ld (.t 19) 5 true, none, []⟩,
     ⟨some 102, .ld (.t 17) 2 true, none, []⟩,
     ⟨some 103, .ld (.t 8) 2 true, none, []⟩,
     ⟨some 104, .call 84 [.t 101, .t 102, .t 103], none, []⟩,
     ⟨some 20, .alloc [.int .i64 0, .int .i64 0] 29, none, []⟩,
     ⟨none, .st (.t 20) (.t 104) 2, none, []⟩])
     (.seq (.seq (.reg [
     ⟨some 105, .addo (.t 20) 1, none, []⟩,
     ⟨some 106, .ld (.t 105) 1 false, none, []⟩,
     ⟨some 107, .bin .eql (.t 106) (.c (.int .i64 100001)), none, []⟩])
     (.cond (.t 107)
     (.seq (.reg [
      ⟨some 108, .mv (.t 18), none, []⟩,
      ⟨some 10, .mv (.c (.slice none 0 0)), none, []⟩,
      ⟨some 11, .mv (.t 108), none, []⟩,
      ⟨some 12, .mv (.c (.int .i64 34)), none, []⟩])
      .ret)
     .skip))
     (.seq (.reg [
     ⟨some 109, .ld (.t 19) 5 true, none, []⟩,
     ⟨some 110, .mv (.t 14), none, []⟩,
     ⟨some 111, .call 86 [.t 109, .t 110], none, []⟩,
     ⟨some 14, .mv (.t 111), none, []⟩])
     (.seq (.regd [0, 1, 2, 3, 4, 5, 6, 7, 8, 9, 10, 11, 12, 13, 14, 15, 16, 17, 18, 19, 20, 21] [
     .op ⟨some 112, .mv (.t 16), none, []⟩,
     .op ⟨some 113, .mv (.t 4), none, []⟩,
     .op ⟨some 114, .mv (.t 18), none, []⟩,
     .op ⟨some 115, .ixs (.t 113) (.t 114) 1, none, [1, 2]⟩,
     .op ⟨some 116, .ld (.t 115) 1 false, none, [3]⟩,
     .op ⟨some 117, .mv (.t 14), none, []⟩,
     .op ⟨some 118, .ld (.t 19) 5 true, none, []⟩,
     .op ⟨some 119, .addo (.t 17) 0, none, []⟩,
     .op ⟨some 120, .ld (.t 119) 1 false, none, [7]⟩,
     .op ⟨some 121, .ld (.t 8) 2 true, none, []⟩,
     .op ⟨some 122, .call 69 [.t 118, .t 120, .t 121], none, [6, 8, 9]⟩,
     .op ⟨some 123, .ld (.t 19) 5 true, none, []⟩,
     .op ⟨some 124, .addo (.t 17) 1, none, []⟩,
     .op ⟨some 125, .ld (.t 124) 1 false, none, [12]⟩,
     .op ⟨some 126, .ld (.t 8) 2 true, none, []⟩,
     .op ⟨some 127, .call 70 [.t 123, .t 125, .t 126], none, [10, 11, 13, 14]⟩,
     .op ⟨some 128, .build [.int .i64 0, .int .i64 0] [(0, 1, .t 122), (1, 1, .t 127)], none, [10, 15]⟩,
     .op ⟨some 129, .ld (.t 20) 2 true, none, []⟩,
     .op ⟨some 130, .build [.int .i64 0, .int .i64 0, .int .i64 0, .int .i64 0, .int .i64 0, .int .i64 0] [(0, 1, .t 116), (1, 1, .t 117), (2, 2, .t 128), (4, 2, .t 129)], none, [4, 5, 16, 17]⟩,
     .op ⟨some 131, .bsl 6 92 [.t 130], none, [18]⟩] 0 1 [
     ⟨some 132, .appm 6 48 92 (.t 112) (.t 131), none, [0, 15, 19]⟩,
     ⟨some 16, .mv (.t 132), none, [0, 1, 2, 3, 4, 5, 6, 7, 8, 9, 10, 11, 12, 13, 14, 15, 16, 17, 18, 19, 20]⟩])
     (.reg [
     ⟨some 133, .ld (.t 20) 2 true, none, []⟩,
     ⟨none, .st (.t 17) (.t 133) 2, none, []⟩])))))))
    (.reg [
    ⟨some 91, .mv (.t 18), none, []⟩,
    ⟨some 92, .bin .add (.t 91) (.c (.int .i64 1)), none, []⟩,
    ⟨some 18, .mv (.t 92), none, []⟩]))))))
  (.seq (.reg [
  ⟨some 134, .mv (.t 16), none, []⟩,
  ⟨some 10, .mv (.t 134), none, []⟩,
  ⟨some 11, .mv (.c (.int .i64 0)), none, []⟩,
  ⟨some 12, .mv (.c (.int .i64 0)), none, []⟩])
  .ret)))))))))))
def r35 : List RV := [.tmp 10, .tmp 11, .tmp 12]
theorem n35 : Try.f35.ntmps = 135 := by kernel_rfl
theorem b35 : bodyB Try.prog 35 = true := by kernel_rfl
theorem c35_ok : cmpC Try.prog c35 ((Try.f35.body).getD .skip) = true := by kernel_rfl
theorem r35_ok : cmpR Try.prog r35 Try.f35.results.toList = true := by kernel_rfl
theorem t35 {args : List SV} {res : SV} (ka : KFL args) (kr : KF res) (h : sx Try.prog Y0 0 c35 (st0 args 135) (retK r35 res)) (hA : Nat.ble args.length 135 = true := by rfl) : Ct Try.prog 35 args res := ct_intro Try.func35 rfl b35 c35_ok r35_ok n35 (Nat.le_of_ble_eq_true hA) ka kr h
def c37 : SC := (.seq (.reg [
  ⟨some 5, .box (.t 0) 0 25, none, []⟩,
  ⟨some 9, .box (.t 4) 0 29, none, []⟩,
  ⟨some 10, .mv (.c (.slice none 0 0)), none, []⟩,
  ⟨some 11, .mv (.c (.int .i64 0)), none, []⟩])
  (.seq (.seq (.reg [
  ⟨some 23, .ld (.t 5) 2 true, none, []⟩,
  ⟨some 24, .ld (.t 9) 2 true, none, []⟩,
  ⟨some 25, .call 66 [.t 23, .t 24], none, []⟩,
  ⟨some 12, .mv (.t 25), none, []⟩])
  (.seq (.reg [
  ⟨some 26, .mv (.t 12), none, []⟩,
  ⟨some 27, .bin .neq (.t 26) (.c (.int .i64 0)), none, []⟩])
  (.cond (.t 27)
  (.seq (.reg [
   ⟨some 28, .mv (.t 12), none, []⟩,
   ⟨some 10, .mv (.c (.slice none 0 0)), none, []⟩,
   ⟨some 11, .mv (.t 28), none, []⟩])
   .ret)
  .skip)))
  (.seq (.seq (.reg [
  ⟨some 29, .mv (.t 1), none, []⟩,
  ⟨some 30, .addo (.t 5) 0, none, []⟩,
  ⟨some 31, .ld (.t 30) 1 false, none, []⟩,
  ⟨some 32, .len (.t 31), none, []⟩,
  ⟨some 33, .bin .sub (.t 32) (.c (.int .i64 1)), none, []⟩,
  ⟨some 34, .call 61 [.t 29, .c (.int .i64 0), .t 33], none, []⟩,
  ⟨some 35, .un .not (.t 34), none, []⟩,
  ⟨some 36, .mv (.t 35), none, []⟩,
  ⟨some 37, .mv (.t 2), some (36, false), []⟩,
  ⟨some 38, .addo (.t 5) 0, some (36, false), []⟩,
  ⟨some 39, .ld (.t 38) 1 false, some (36, false), []⟩,
  ⟨some 40, .len (.t 39), some (36, false), []⟩,
  ⟨some 41, .bin .sub (.t 40) (.c (.int .i64 1)), some (36, false), []⟩,
  ⟨some 42, .call 61 [.t 37, .c (.int .i64 0), .t 41], some (36, false), []⟩,
  ⟨some 43, .un .not (.t 42), some (36, false), []⟩,
  ⟨some 44, .pick (.t 36) (.c (.bool true)) (.t 43), none, []⟩,
  ⟨some 45, .mv (.t 44), none, []⟩,
  ⟨some 46, .mv (.t 3), some (45, false), []⟩,
  ⟨some 47, .call 61 [.t 46, .c (.int .i64 0), .c (.int .i64 100000)], some (45, false), []⟩,
  ⟨some 48, .un .not (.t 47), some (45, false), []⟩,
  ⟨some 49, .pick (.t 45) (.c (.bool true)) (.t 48), none, []⟩])
  (.cond (.t 49)
  (.seq (.reg [
   ⟨some 10, .mv (.c (.slice none 0 0)), none, []⟩,
   ⟨some 11, .mv (.c (.int .i64 2)), none, []⟩])
   .ret)
  .skip))
  (.seq (.reg [
  ⟨some 51, .ld (.t 5) 2 true, none, []⟩,
  ⟨some 52, .mv (.t 1), none, []⟩,
  ⟨some 53, .mv (.t 3), none, []⟩,
  ⟨some 54, .ld (.t 9) 2 true, none, []⟩,
  ⟨some 55, .call 33 [.t 51, .t 52, .t 53, .t 54], none, []⟩,
  ⟨some 50, .mv (.t 55), none, []⟩,
  ⟨some 56, .ext (.t 50) 0, none, []⟩,
  ⟨some 57, .ext (.t 50) 1, none, []⟩,
  ⟨some 13, .mv (.t 56), none, []⟩,
  ⟨some 14, .mv (.t 57), none, []⟩])
  (.seq (.reg [
  ⟨some 58, .mv (.t 13), none, []⟩,
  ⟨some 59, .mv (.t 2), none, []⟩,
  ⟨some 60, .ixs (.t 58) (.t 59) 2, none, []⟩,
  ⟨some 61, .addo (.t 60) 1, none, []⟩,
  ⟨some 62, .ld (.t 61) 1 false, none, []⟩,
  ⟨some 15, .mv (.t 62), none, []⟩])
  (.seq (.seq (.reg [
  ⟨some 63, .mv (.t 15), none, []⟩,
  ⟨some 64, .bin .eql (.t 63) (.c (.int .i64 100001)), none, []⟩])
  (.cond (.t 64)
  (.seq (.reg [
   ⟨some 10, .mv (.c (.slice none 0 0)), none, []⟩,
   ⟨some 11, .mv (.c (.int .i64 6)), none, []⟩])
   .ret)
  .skip))
  (.seq (.reg [
  ⟨some 16, .mv (.c (.int .i64 0)), none, []⟩])
  (.seq (.block 0 (.loop (.seq (.seq (.reg [
    ⟨some 65, .ld (.t 5) 2 true, none, []⟩,
    ⟨some 66, .mv (.t 1), none, []⟩,
    ⟨some 67, .mv (.t 2), none, []⟩,
    ⟨some 68, .mv (.t 3), none, []⟩,
    ⟨some 69, .mv (.t 16), none, []⟩,
    ⟨some 70, .ld (.t 9) 2 true, none, []⟩,
    ⟨some 71, .call 88 [.t 65, .t 66, .t 67, .t 68, .t 69, .t 70], none, []⟩,
    ⟨some 72, .mv (.t 15), none, []⟩,
    ⟨some 73, .bin .neq (.t 71) (.t 72), none, []⟩])
    (.cond (.t 73)
    .skip
    (.exit 0)))
    (.block 1 (.reg [
     ⟨some 74, .mv (.t 16), none, []⟩,
     ⟨some 75, .bin .add (.t 74) (.c (.int .i64 1)), none, []⟩,
     ⟨some 16, .mv (.t 75), none, []⟩])))))
  (.seq (.reg [
  ⟨some 17, .mv (.c (.slice none 0 0)), none, []⟩])
  (.seq (.reg [
  ⟨some 76, .mv (.t 1), none, []⟩,
  ⟨some 18, .mv (.t 76), none, []⟩])
  (.seq (.block 2 (.loop (.seq (.seq (.reg [
    ⟨some 77, .mv (.t 16), none, []⟩,
    ⟨some 78, .bin .gtr (.t 77) (.c (.int .i64 0)), none, []⟩])
    (.cond (.t 78)
    .skip
    (.exit 2)))
    (.block 3 (.seq (.seq (.reg [
     ⟨some 19, .mv (.c (.int .i64 0)), none, []⟩])
     (.block 4 (.loop (.seq (.seq (.reg [
       ⟨some 79, .mv (.t 19), none, []⟩,
       ⟨some 80, .addo (.t 5) 1, none, []⟩,
       ⟨some 81, .ld (.t 80) 1 false, none, []⟩,
       ⟨some 82, .len (.t 81), none, []⟩,
       ⟨some 83, .bin .lss (.t 79) (.t 82), none, []⟩])
       (.cond (.t 83)
       .skip
       (.exit 4)))
       (.seq (.block 5 (.seq (.reg [
        ⟨some 86, .addo (.t 5) 1, none, []⟩,
        ⟨some 87, .ld (.t 86) 1 false, none, []⟩,
        ⟨some 88, .mv (.t 19), none, []⟩,
        ⟨some 89, .ixs (.t 87) (.t 88) 5, none, []⟩,
        ⟨some 90, .ld (.t 89) 5 true, none, []⟩,
        ⟨some 20, .alloc [.int .i64 0, .int .i64 0, .int .i64 0, .int .i64 0, .slice none 0 0] 86, none, []⟩,
        ⟨none, .st (.t 20) (.t 90) 5, none, []⟩])
        (.seq (.reg [
        ⟨some 91, .ld (.t 20) 5 true, none, []⟩,
        ⟨some 92, .mv (.t 18), none, []⟩,
        ⟨some 93, .call 86 [.t 91, .t 92], none, []⟩,
        ⟨some 21, .mv (.t 93), none, []⟩])
        (.seq (.seq (.reg [
        ⟨some 94, .mv (.t 21), none, []⟩,
        ⟨some 95, .bin .lss (.t 94) (.c (.int .i64 0)), none, []⟩])
        (.cond (.t 95)
        (.exit 5)
        .skip))
        (.seq (.reg [
        ⟨some 96, .ld (.t 20) 5 true, none, []⟩,
        ⟨some 97, .mv (.t 3), none, []⟩,
        ⟨some 98, .mv (.t 3), none, []⟩,
        ⟨some 99, .build [.int .i64 0, .int .i64 0] [(0, 1, .t 97), (1, 1, .t 98)], none, []⟩,
        ⟨some 100, .ld (.t 9) 2 true, none, []⟩,
        ⟨some 101, .call 84 [.t 96, .t 99, .t 100], none, []⟩,
        ⟨some 102, .fld (.t 101) 1 1 false, none, []⟩,
        ⟨some 22, .mv (.t 102), none, []⟩])
        (.seq (.reg [
        ⟨some 103, .mv (.t 22), none, []⟩,
        ⟨some 104, .bin .lss (.t 103) (.c (.int .i64 100001)), none, []⟩,
        ⟨some 105, .mv (.t 104), none, []⟩,
        ⟨some 106, .ld (.t 5) 2 true, some (105, true), []⟩,
        ⟨some 107, .mv (.t 21), some (105, true), []⟩,
        ⟨some 108, .mv (.t 2), some (105, true), []⟩,
        ⟨some 109, .mv (.t 22), some (105, true), []⟩,
        ⟨some 110, .mv (.t 16), some (105, true), []⟩,
        ⟨some 111, .bin .sub (.t 110) (.c (.int .i64 1)), some (105, true), []⟩,
        ⟨some 112, .ld (.t 9) 2 true, some (105, true), []⟩,
        ⟨some 113, .call 88 [.t 106, .t 107, .t 108, .t 109, .t 111, .t 112], some (105, true), []⟩,
        ⟨some 114, .mv (.t 15), some (105, true), []⟩,
        ⟨some 115, .bin .eql (.t 113) (.t 114), some (105, true), []⟩,
        ⟨some 116, .pick (.t 105) (.t 115) (.c (.bool false)), none, []⟩])
        (.cond (.t 116)
        (.seq (.reg [
         ⟨some 117, .mv (.t 17), none, []⟩,
         ⟨some 118, .mv (.t 19), none, []⟩,
         ⟨some 119, .bsl 1 3 [.t 118], none, []⟩,
         ⟨some 120, .appm 1 8 3 (.t 117) (.t 119), none, []⟩,
         ⟨some 17, .mv (.t 120), none, []⟩])
         (.seq (.reg [
         ⟨some 121, .mv (.t 21), none, []⟩,
         ⟨some 122, .mv (.t 22), none, []⟩,
         ⟨some 18, .mv (.t 121), none, []⟩,
         ⟨some 3, .mv (.t 122), none, []⟩])
         (.exit 4)))
        .skip)))))))
       (.reg [
       ⟨some 84, .mv (.t 19), none, []⟩,
       ⟨some 85, .bin .add (.t 84) (.c (.int .i64 1)), none, []⟩,
       ⟨some 19, .mv (.t 85), none, []⟩]))))))
     (.reg [
     ⟨some 123, .mv (.t 16), none, []⟩,
     ⟨some 124, .bin .sub (.t 123) (.c (.int .i64 1)), none, []⟩,
     ⟨some 16, .mv (.t 124), none, []⟩]))))))
  (.seq (.reg [
  ⟨some 125, .mv (.t 17), none, []⟩,
  ⟨some 10, .mv (.t 125), none, []⟩,
  ⟨some 11, .mv (.c (.int .i64 0)), none, []⟩])
  .ret))))))))))))
def r37 : List RV := [.tmp 10, .tmp 11]
theorem n37 : Try.f37.ntmps = 126 := by kernel_rfl
theorem b37 : bodyB Try.prog 37 = true := by kernel_rfl
theorem c37_ok : cmpC Try.prog c37 ((Try.f37.body).getD .skip) = true := by kernel_rfl
theorem r37_ok : cmpR Try.prog r37 Try.f37.results.toList = true := by kernel_rfl
theorem t37 {args : List SV} {res : SV} (ka : KFL args) (kr : KF res) (h : sx Try.prog Y0 0 c37 (st0 args 126) (retK r37 res)) (hA : Nat.ble args.length 126 = true := by rfl) : Ct Try.prog 37 args res := ct_intro Try.func37 rfl b37 c37_ok r37_ok n37 (Nat.le_of_ble_eq_true hA) ka kr h
def c88 : SC := (.seq (.reg [
  ⟨some 6, .box (.t 0) 0 25, none, []⟩,
  ⟨some 11, .box (.t 5) 0 29, none, []⟩,
  ⟨some 12, .mv (.c (.int .i64 0)), none, []⟩])
  (.seq (.reg [
  ⟨some 20, .addo (.t 6) 0, none, []⟩,
  ⟨some 21, .ld (.t 20) 1 false, none, []⟩,
  ⟨some 22, .len (.t 21), none, []⟩,
  ⟨some 23, .mks 1 8 [.int .i64 0] 3 (.t 22), none, []⟩,
  ⟨some 13, .mv (.t 23), none, []⟩])
  (.seq (.seq (.reg [
  ⟨some 14, .mv (.c (.int .i64 0)), none, []⟩])
  (.block 0 (.loop (.seq (.seq (.reg [
    ⟨some 24, .mv (.t 14), none, []⟩,
    ⟨some 25, .mv (.t 13), none, []⟩,
    ⟨some 26, .len (.t 25), none, []⟩,
    ⟨some 27, .bin .lss (.t 24) (.t 26), none, []⟩])
    (.cond (.t 27)
    .skip
    (.exit 0)))
    (.seq (.block 1 (.reg [
     ⟨some 30, .mv (.t 13), none, []⟩,
     ⟨some 31, .mv (.t 14), none, []⟩,
     ⟨some 32, .ixs (.t 30) (.t 31) 1, none, []⟩,
     ⟨none, .st (.t 32) (.c (.int .i64 100001)) 1, none, []⟩]))
    (.reg [
    ⟨some 28, .mv (.t 14), none, []⟩,
    ⟨some 29, .bin .add (.t 28) (.c (.int .i64 1)), none, []⟩,
    ⟨some 14, .mv (.t 29), none, []⟩]))))))
  (.seq (.reg [
  ⟨some 33, .mv (.t 13), none, []⟩,
  ⟨some 34, .mv (.t 1), none, []⟩,
  ⟨some 35, .mv (.t 3), none, []⟩,
  ⟨some 36, .ixs (.t 33) (.t 34) 1, none, []⟩,
  ⟨none, .st (.t 36) (.t 35) 1, none, []⟩])
  (.seq (.seq (.reg [
  ⟨some 15, .mv (.c (.int .i64 0)), none, []⟩])
  (.block 2 (.loop (.seq (.seq (.reg [
    ⟨some 37, .mv (.t 15), none, []⟩,
    ⟨some 38, .mv (.t 4), none, []⟩,
    ⟨some 39, .bin .lss (.t 37) (.t 38), none, []⟩])
    (.cond (.t 39)
    .skip
    (.exit 2)))
    (.seq (.block 3 (.seq (.reg [
     ⟨some 42, .mv (.t 13), none, []⟩,
     ⟨some 43, .len (.t 42), none, []⟩,
     ⟨some 44, .mks 1 8 [.int .i64 0] 3 (.t 43), none, []⟩,
     ⟨some 16, .mv (.t 44), none, []⟩])
     (.seq (.seq (.reg [
     ⟨some 17, .mv (.c (.int .i64 0)), none, []⟩])
     (.block 4 (.loop (.seq (.seq (.reg [
       ⟨some 45, .mv (.t 17), none, []⟩,
       ⟨some 46, .mv (.t 16), none, []⟩,
       ⟨some 47, .len (.t 46), none, []⟩,
       ⟨some 48, .bin .lss (.t 45) (.t 47), none, []⟩])
       (.cond (.t 48)
       .skip
       (.exit 4)))
       (.seq (.block 5 (.reg [
        ⟨some 51, .mv (.t 16), none, []⟩,
        ⟨some 52, .mv (.t 17), none, []⟩,
        ⟨some 53, .ixs (.t 51) (.t 52) 1, none, []⟩,
        ⟨none, .st (.t 53) (.c (.int .i64 100001)) 1, none, []⟩]))
       (.reg [
       ⟨some 49, .mv (.t 17), none, []⟩,
       ⟨some 50, .bin .add (.t 49) (.c (.int .i64 1)), none, []⟩,
       ⟨some 17, .mv (.t 50), none, []⟩]))))))
     (.seq (.seq (.reg [
     ⟨some 18, .mv (.c (.int .i64 0)), none, []⟩])
     (.block 6 (.loop (.seq (.seq (.reg [
       ⟨some 54, .mv (.t 18), none, []⟩,
       ⟨some 55, .addo (.t 6) 1, none, []⟩,
       ⟨some 56, .ld (.t 55) 1 false, none, []⟩,
       ⟨some 57, .len (.t 56), none, []⟩,
       ⟨some 58, .bin .lss (.t 54) (.t 57), none, []⟩])
       (.cond (.t 58)
       .skip
       (.exit 6)))
       (.seq (.block 7 (.seq (.reg [
        ⟨some 61, .addo (.t 6) 1, none, []⟩,
        ⟨some 62, .ld (.t 61) 1 false, none, []⟩,
        ⟨some 63, .mv (.t 18), none, []⟩,
        ⟨some 64, .ixs (.t 62) (.t 63) 5, none, []⟩,
        ⟨some 65, .ld (.t 64) 5 true, none, []⟩,
        ⟨some 19, .alloc [.int .i64 0, .int .i64 0, .int .i64 0, .int .i64 0, .slice none 0 0] 86, none, []⟩,
        ⟨none, .st (.t 19) (.t 65) 5, none, []⟩])
        (.seq (.regd [0, 1, 2, 3, 4, 5, 6, 7, 8, 9, 10, 11, 12, 13, 14, 15, 16, 17, 18, 19, 20, 21, 22, 23, 24, 25] [
        .op ⟨some 66, .mv (.t 16), none, []⟩,
        .op ⟨some 67, .addo (.t 19) 1, none, []⟩,
        .op ⟨some 68, .ld (.t 67) 1 false, none, [1]⟩,
        .op ⟨some 69, .mv (.t 16), none, []⟩,
        .op ⟨some 70, .addo (.t 19) 1, none, []⟩,
        .op ⟨some 71, .ld (.t 70) 1 false, none, [4]⟩,
        .op ⟨some 72, .ixs (.t 69) (.t 71) 1, none, [3, 5]⟩,
        .op ⟨some 73, .ld (.t 72) 1 false, none, [6]⟩,
        .op ⟨some 74, .ld (.t 19) 5 true, none, []⟩,
        .op ⟨some 75, .mv (.t 13), none, []⟩,
        .op ⟨some 76, .addo (.t 19) 0, none, []⟩,
        .op ⟨some 77, .ld (.t 76) 1 false, none, [10]⟩,
        .op ⟨some 78, .ixs (.t 75) (.t 77) 1, none, [9, 11]⟩,
        .op ⟨some 79, .ld (.t 78) 1 false, none, [12]⟩,
        .op ⟨some 80, .mv (.t 13), none, []⟩,
        .op ⟨some 81, .addo (.t 19) 0, none, []⟩,
        .op ⟨some 82, .ld (.t 81) 1 false, none, [15]⟩,
        .op ⟨some 83, .ixs (.t 80) (.t 82) 1, none, [14, 16]⟩,
        .op ⟨some 84, .ld (.t 83) 1 false, none, [17]⟩,
        .op ⟨some 85, .build [.int .i64 0, .int .i64 0] [(0, 1, .t 79), (1, 1, .t 84)], none, [13, 18]⟩,
        .op ⟨some 86, .ld (.t 11) 2 true, none, []⟩,
        .op ⟨some 87, .call 84 [.t 74, .t 85, .t 86], none, [8, 19, 20]⟩,
        .op ⟨some 88, .fld (.t 87) 1 1 false, none, [21]⟩,
        .op ⟨some 89, .mm false [.t 73, .t 88], none, [7, 22]⟩,
        .op ⟨some 90, .ixs (.t 66) (.t 68) 1, none, [0, 1, 2, 3, 4, 5, 6, 7, 8, 9, 10, 11, 12, 13, 14, 15, 16, 17, 18, 19, 20, 21, 22, 23]⟩] 0 1 [
        ⟨none, .st (.t 90) (.t 89) 1, none, [0, 1, 2, 3, 4, 5, 6, 7, 8, 9, 10, 11, 12, 13, 14, 15, 16, 17, 18, 19, 20, 21, 22, 23, 24]⟩])
        (.regd [0, 1, 2, 3, 4, 5, 6, 7, 8, 9, 10, 11, 12, 13, 14, 15, 16, 17, 18, 19, 20, 21, 22, 23, 24, 25] [
        .op ⟨some 91, .mv (.t 16), none, []⟩,
        .op ⟨some 92, .addo (.t 19) 0, none, []⟩,
        .op ⟨some 93, .ld (.t 92) 1 false, none, [1]⟩,
        .op ⟨some 94, .mv (.t 16), none, []⟩,
        .op ⟨some 95, .addo (.t 19) 0, none, []⟩,
        .op ⟨some 96, .ld (.t 95) 1 false, none, [4]⟩,
        .op ⟨some 97, .ixs (.t 94) (.t 96) 1, none, [3, 5]⟩,
        .op ⟨some 98, .ld (.t 97) 1 false, none, [6]⟩,
        .op ⟨some 99, .ld (.t 19) 5 true, none, []⟩,
        .op ⟨some 100, .mv (.t 13), none, []⟩,
        .op ⟨some 101, .addo (.t 19) 1, none, []⟩,
        .op ⟨some 102, .ld (.t 101) 1 false, none, [10]⟩,
        .op ⟨some 103, .ixs (.t 100) (.t 102) 1, none, [9, 11]⟩,
        .op ⟨some 104, .ld (.t 103) 1 false, none, [12]⟩,
        .op ⟨some 105, .mv (.t 13), none, []⟩,
        .op ⟨some 106, .addo (.t 19) 1, none, []⟩,
        .op ⟨some 107, .ld (.t 106) 1 false, none, [15]⟩,
        .op ⟨some 108, .ixs (.t 105) (.t 107) 1, none, [14, 16]⟩,
        .op ⟨some 109, .ld (.t 108) 1 false, none, [17]⟩,
        .op ⟨some 110, .build [.int .i64 0, .int .i64 0] [(0, 1, .t 104), (1, 1, .t 109)], none, [13, 18]⟩,
        .op ⟨some 111, .ld (.t 11) 2 true, none, []⟩,
        .op ⟨some 112, .call 84 [.t 99, .t 110, .t 111], none, [8, 19, 20]⟩,
        .op ⟨some 113, .fld (.t 112) 1 1 false, none, [21]⟩,
        .op ⟨some 114, .mm false [.t 98, .t 113], none, [7, 22]⟩,
        .op ⟨some 115, .ixs (.t 91) (.t 93) 1, none, [0, 1, 2, 3, 4, 5, 6, 7, 8, 9, 10, 11, 12, 13, 14, 15, 16, 17, 18, 19, 20, 21, 22, 23]⟩] 0 1 [
        ⟨none, .st (.t 115) (.t 114) 1, none, [0, 1, 2, 3, 4, 5, 6, 7, 8, 9, 10, 11, 12, 13, 14, 15, 16, 17, 18, 19, 20, 21, 22, 23, 24]⟩]))))
       (.reg [
       ⟨some 59, .mv (.t 18), none, []⟩,
       ⟨some 60, .bin .add (.t 59) (.c (.int .i64 1)), none, []⟩,
       ⟨some 18, .mv (.t 60), none, []⟩]))))))
     (.reg [
     ⟨some 116, .mv (.t 16), none, []⟩,
     ⟨some 13, .mv (.t 116), none, []⟩])))))
    (.reg [
    ⟨some 40, .mv (.t 15), none, []⟩,
    ⟨some 41, .bin .add (.t 40) (.c (.int .i64 1)), none, []⟩,
    ⟨some 15, .mv (.t 41), none, []⟩]))))))
  (.seq (.reg [
  ⟨some 117, .mv (.t 13), none, []⟩,
  ⟨some 118, .mv (.t 2), none, []⟩,
  ⟨some 119, .ixs (.t 117) (.t 118) 1, none, []⟩,
  ⟨some 120, .ld (.t 119) 1 false, none, []⟩,
  ⟨some 12, .mv (.t 120), none, []⟩])
  .ret))))))
def r88 : List RV := [.tmp 12]
theorem n88 : Try.f88.ntmps = 121 := by kernel_rfl
theorem b88 : bodyB Try.prog 88 = true := by kernel_rfl
theorem c88_ok : cmpC Try.prog c88 ((Try.f88.body).getD .skip) = true := by kernel_rfl
theorem r88_ok : cmpR Try.prog r88 Try.f88.results.toList = true := by kernel_rfl
theorem t88 {args : List SV} {res : SV} (ka : KFL args) (kr : KF res) (h : sx Try.prog Y0 0 c88 (st0 args 121) (retK r88 res)) (hA : Nat.ble args.length 121 = true := by rfl) : Ct Try.prog 88 args res := ct_intro Try.func88 rfl b88 c88_ok r88_ok n88 (Nat.le_of_ble_eq_true hA) ka kr h
def r30 : List RV := [.tmp 12, .tmp 13]
def r31 : List RV := [.tmp 4]
def c38 : SC := (.seq (.reg [
  ⟨some 4, .mv (.c (.bool false)), none, []⟩])
  (.seq (.seq (.reg [
  ⟨some 6, .mv (.t 0), none, []⟩,
  ⟨some 7, .len (.t 6), none, []⟩,
  ⟨some 8, .mv (.t 1), none, []⟩,
  ⟨some 9, .len (.t 8), none, []⟩,
  ⟨some 10, .bin .neq (.t 7) (.t 9), none, []⟩])
  (.cond (.t 10)
  (.seq (.reg [
   ⟨some 4, .mv (.c (.bool false)), none, []⟩])
   .ret)
  .skip))
  (.seq (.seq (.reg [
  ⟨some 5, .mv (.c (.int .i64 0)), none, []⟩])
  (.block 0 (.loop (.seq (.seq (.reg [
    ⟨some 11, .mv (.t 5), none, []⟩,
    ⟨some 12, .mv (.t 0), none, []⟩,
    ⟨some 13, .len (.t 12), none, []⟩,
    ⟨some 14, .bin .lss (.t 11) (.t 13), none, []⟩])
    (.cond (.t 14)
    .skip
    (.exit 0)))
    (.seq (.block 1 (.seq (.regd [0, 1, 2, 3, 4, 5, 6, 7, 8] [
     .op ⟨some 17, .mv (.t 0), none, []⟩,
     .op ⟨some 18, .mv (.t 5), none, []⟩,
     .op ⟨some 19, .ixs (.t 17) (.t 18) 2, none, [0, 1]⟩,
     .op ⟨some 20, .ld (.t 19) 2 true, none, [2]⟩,
     .op ⟨some 21, .mv (.t 1), none, []⟩,
     .op ⟨some 22, .mv (.t 5), none, []⟩,
     .op ⟨some 23, .ixs (.t 21) (.t 22) 2, none, [4, 5]⟩,
     .op ⟨some 24, .ld (.t 23) 2 true, none, [6]⟩,
     .op ⟨some 25, .eqs true true [1, 1] (.t 20) (.t 24), none, [3, 7]⟩] 0 0 [
])
     (.cond (.t 25)
     (.seq (.reg [
      ⟨some 4, .mv (.c (.bool false)), none, []⟩])
      .ret)
     .skip)))
    (.reg [
    ⟨some 15, .mv (.t 5), none, []⟩,
    ⟨some 16, .bin .add (.t 15) (.c (.int .i64 1)), none, []⟩,
    ⟨some 5, .mv (.t 16), none, []⟩]))))))
  (.seq (.reg [
  ⟨some 4, .mv (.c (.bool true)), none, []⟩])
  .ret))))
def r38 : List RV := [.tmp 4]
theorem n38 : Try.f38.ntmps = 26 := by kernel_rfl
theorem b38 : bodyB Try.prog 38 = true := by kernel_rfl
theorem c38_ok : cmpC Try.prog c38 ((Try.f38.body).getD .skip) = true := by kernel_rfl
theorem r38_ok : cmpR Try.prog r38 Try.f38.results.toList = true := by kernel_rfl
theorem t38 {args : List SV} {res : SV} (ka : KFL args) (kr : KF res) (h : sx Try.prog Y0 0 c38 (st0 args 26) (retK r38 res)) (hA : Nat.ble args.length 26 = true := by rfl) : Ct Try.prog 38 args res := ct_intro Try.func38 rfl b38 c38_ok r38_ok n38 (Nat.le_of_ble_eq_true hA) ka kr h
def c39 : SC := (.seq (.reg [
  ⟨some 4, .mv (.c (.bool false)), none, []⟩])
  (.seq (.seq (.reg [
  ⟨some 6, .mv (.t 0), none, []⟩,
  ⟨some 7, .len (.t 6), none, []⟩,
  ⟨some 8, .mv (.t 1), none, []⟩,
  ⟨some 9, .len (.t 8), none, []⟩,
  ⟨some 10, .bin .neq (.t 7) (.t 9), none, []⟩])
  (.cond (.t 10)
  (.seq (.reg [
   ⟨some 4, .mv (.c (.bool false)), none, []⟩])
   .ret)
  .skip))
  (.seq (.seq (.reg [
  ⟨some 5, .mv (.c (.int .i64 0)), none, []⟩])
  (.block 0 (.loop (.seq (.seq (.reg [
    ⟨some 11, .mv (.t 5), none, []⟩,
    ⟨some 12, .mv (.t 0), none, []⟩,
    ⟨some 13, .len (.t 12), none, []⟩,
    ⟨some 14, .bin .lss (.t 11) (.t 13), none, []⟩])
    (.cond (.t 14)
    .skip
    (.exit 0)))
    (.seq (.block 1 (.seq (.regd [0, 1, 2, 3, 4, 5, 6, 7, 8] [
     .op ⟨some 17, .mv (.t 0), none, []⟩,
     .op ⟨some 18, .mv (.t 5), none, []⟩,
     .op ⟨some 19, .ixs (.t 17) (.t 18) 6, none, [0, 1]⟩,
     .op ⟨some 20, .ld (.t 19) 6 true, none, [2]⟩,
     .op ⟨some 21, .mv (.t 1), none, []⟩,
     .op ⟨some 22, .mv (.t 5), none, []⟩,
     .op ⟨some 23, .ixs (.t 21) (.t 22) 6, none, [4, 5]⟩,
     .op ⟨some 24, .ld (.t 23) 6 true, none, [6]⟩,
     .op ⟨some 25, .eqs true true [1, 1, 1, 1, 1, 1] (.t 20) (.t 24), none, [3, 7]⟩] 0 0 [
])
     (.cond (.t 25)
     (.seq (.reg [
      ⟨some 4, .mv (.c (.bool false)), none, []⟩])
      .ret)
     .skip)))
    (.reg [
    ⟨some 15, .mv (.t 5), none, []⟩,
    ⟨some 16, .bin .add (.t 15) (.c (.int .i64 1)), none, []⟩,
    ⟨some 5, .mv (.t 16), none, []⟩]))))))
  (.seq (.reg [
  ⟨some 4, .mv (.c (.bool true)), none, []⟩])
  .ret))))
def r39 : List RV := [.tmp 4]
theorem n39 : Try.f39.ntmps = 26 := by kernel_rfl
theorem b39 : bodyB Try.prog 39 = true := by kernel_rfl
theorem c39_ok : cmpC Try.prog c39 ((Try.f39.body).getD .skip) = true := by kernel_rfl
theorem r39_ok : cmpR Try.prog r39 Try.f39.results.toList = true := by kernel_rfl
theorem t39 {args : List SV} {res : SV} (ka : KFL args) (kr : KF res) (h : sx Try.prog Y0 0 c39 (st0 args 26) (retK r39 res)) (hA : Nat.ble args.length 26 = true := by rfl) : Ct Try.prog 39 args res := ct_intro Try.func39 rfl b39 c39_ok r39_ok n39 (Nat.le_of_ble_eq_true hA) ka kr h
def c40 : SC := (.seq (.reg [
  ⟨some 4, .mv (.c (.bool false)), none, []⟩])
  (.seq (.seq (.reg [
  ⟨some 6, .mv (.t 0), none, []⟩,
  ⟨some 7, .len (.t 6), none, []⟩,
  ⟨some 8, .mv (.t 1), none, []⟩,
  ⟨some 9, .len (.t 8), none, []⟩,
  ⟨some 10, .bin .neq (.t 7) (.t 9), none, []⟩])
  (.cond (.t 10)
  (.seq (.reg [
   ⟨some 4, .mv (.c (.bool false)), none, []⟩])
   .ret)
  .skip))
  (.seq (.seq (.reg [
  ⟨some 5, .mv (.c (.int .i64 0)), none, []⟩])
  (.block 0 (.loop (.seq (.seq (.reg [
    ⟨some 11, .mv (.t 5), none, []⟩,
    ⟨some 12, .mv (.t 0), none, []⟩,
    ⟨some 13, .len (.t 12), none, []⟩,
    ⟨some 14, .bin .lss (.t 11) (.t 13), none, []⟩])
    (.cond (.t 14)
    .skip
    (.exit 0)))
    (.seq (.block 1 (.seq (.regd [0, 1, 2, 3, 4, 5, 6, 7, 8] [
     .op ⟨some 17, .mv (.t 0), none, []⟩,
     .op ⟨some 18, .mv (.t 5), none, []⟩,
     .op ⟨some 19, .ixs (.t 17) (.t 18) 1, none, [0, 1]⟩,
     .op ⟨some 20, .ld (.t 19) 1 false, none, [2]⟩,
     .op ⟨some 21, .mv (.t 1), none, []⟩,
     .op ⟨some 22, .mv (.t 5), none, []⟩,
     .op ⟨some 23, .ixs (.t 21) (.t 22) 1, none, [4, 5]⟩,
     .op ⟨some 24, .ld (.t 23) 1 false, none, [6]⟩,
     .op ⟨some 25, .bin .neq (.t 20) (.t 24), none, [3, 7]⟩] 0 0 [
])
     (.cond (.t 25)
     (.seq (.reg [
      ⟨some 4, .mv (.c (.bool false)), none, []⟩])
      .ret)
     .skip)))
    (.reg [
    ⟨some 15, .mv (.t 5), none, []⟩,
    ⟨some 16, .bin .add (.t 15) (.c (.int .i64 1)), none, []⟩,
    ⟨some 5, .mv (.t 16), none, []⟩]))))))
  (.seq (.reg [
  ⟨some 4, .mv (.c (.bool true)), none, []⟩])
  .ret))))
def r40 : List RV := [.tmp 4]
theorem n40 : Try.f40.ntmps = 26 := by kernel_rfl
theorem b40 : bodyB Try.prog 40 = true := by kernel_rfl
theorem c40_ok : cmpC Try.prog c40 ((Try.f40.body).getD .skip) = true := by kernel_rfl
theorem r40_ok : cmpR Try.prog r40 Try.f40.results.toList = true := by kernel_rfl
theorem t40 {args : List SV} {res : SV} (ka : KFL args) (kr : KF res) (h : sx Try.prog Y0 0 c40 (st0 args 26) (retK r40 res)) (hA : Nat.ble args.length 26 = true := by rfl) : Ct Try.prog 40 args res := ct_intro Try.func40 rfl b40 c40_ok r40_ok n40 (Nat.le_of_ble_eq_true hA) ka kr h
def c86 : SC := (.seq (.reg [
  ⟨some 2, .box (.t 0) 0 86, none, []⟩,
  ⟨some 4, .mv (.c (.int .i64 0)), none, []⟩])
  (.seq (.seq (.reg [
  ⟨some 5, .addo (.t 2) 0, none, []⟩,
  ⟨some 6, .ld (.t 5) 1 false, none, []⟩,
  ⟨some 7, .mv (.t 1), none, []⟩,
  ⟨some 8, .bin .eql (.t 6) (.t 7), none, []⟩])
  (.cond (.t 8)
  (.seq (.reg [
   ⟨some 9, .addo (.t 2) 1, none, []⟩,
   ⟨some 10, .ld (.t 9) 1 false, none, []⟩,
   ⟨some 4, .mv (.t 10), none, []⟩])
   .ret)
  .skip))
  (.seq (.seq (.reg [
  ⟨some 11, .addo (.t 2) 1, none, []⟩,
  ⟨some 12, .ld (.t 11) 1 false, none, []⟩,
  ⟨some 13, .mv (.t 1), none, []⟩,
  ⟨some 14, .bin .eql (.t 12) (.t 13), none, []⟩])
  (.cond (.t 14)
  (.seq (.reg [
   ⟨some 15, .addo (.t 2) 0, none, []⟩,
   ⟨some 16, .ld (.t 15) 1 false, none, []⟩,
   ⟨some 4, .mv (.t 16), none, []⟩])
   .ret)
  .skip))
  (.seq (.reg [
  ⟨some 4, .mv (.c (.int .i64 (-1))), none, []⟩])
  .ret))))
def r86 : List RV := [.tmp 4]
theorem n86 : Try.f86.ntmps = 17 := by kernel_rfl
theorem b86 : bodyB Try.prog 86 = true := by kernel_rfl
theorem c86_ok : cmpC Try.prog c86 ((Try.f86.body).getD .skip) = true := by kernel_rfl
theorem r86_ok : cmpR Try.prog r86 Try.f86.results.toList = true := by kernel_rfl
theorem t86 {args : List SV} {res : SV} (ka : KFL args) (kr : KF res) (h : sx Try.prog Y0 0 c86 (st0 args 17) (retK r86 res)) (hA : Nat.ble args.length 17 = true := by rfl) : Ct Try.prog 86 args res := ct_intro Try.func86 rfl b86 c86_ok r86_ok n86 (Nat.le_of_ble_eq_true hA) ka kr h
end Go.Proofs.Ytkjldleglbbkeaa
set_option maxRecDepth 100000
set_option maxHeartbeats 4000000
namespace Go.Proofs.Ytkjldleglbbkeaa
open Go Go.Sx Go.Azalai
theorem min2_ok (a b : Int) (c : Bool) : Ct Try.prog 104 [.sl c 1 [[I a], [I b]]] (I (min a b)) := by
  refine t104 (by simp [KFR, KFL, KF]) (by simp [KFL, KF]) ?_
  dsimp only [c104, r104, go_sem, Nat.reduceAdd, Nat.reduceMul, Nat.reduceSub]
  refine br_f (by decide) ?_
  dsimp only [go_sem, Nat.reduceAdd, Nat.reduceMul, Nat.reduceSub]
  refine ixs 0 [I a] rfl rfl ?_
  dsimp only [go_sem, Nat.reduceAdd, Nat.reduceMul, Nat.reduceSub]
  refine unroll 2 ?_
  dsimp only [rnds_succ, go_sem, Nat.reduceAdd, Nat.reduceMul, Nat.reduceSub]
  refine br_t (by decide) ?_
  dsimp only [rnds_succ, go_sem, Nat.reduceAdd, Nat.reduceMul, Nat.reduceSub]
  refine ixs 1 [I b] rfl rfl ?_
  dsimp only [rnds_succ, go_sem, Nat.reduceAdd, Nat.reduceMul, Nat.reduceSub]
  refine br_f (by decide) ?_
  dsimp only [go_sem, Nat.reduceAdd, Nat.reduceMul, Nat.reduceSub]
theorem first1_ok (a : Int) : Ct Try.prog 94 [.sl true 1 [[I a]]] (I (min a 100001)) := by
  refine t94 (by simp [KFR, KFL, KF]) (by simp [KFL, KF]) ?_
  dsimp only [c94, r94, go_sem, Nat.reduceAdd, Nat.reduceMul, Nat.reduceSub]
  refine app0 (by simp) ?_
  dsimp only [go_sem, Nat.reduceAdd, Nat.reduceMul, Nat.reduceSub]
  refine call (min2_ok a 100001 false) ?_
  dsimp only [go_sem, Nat.reduceAdd, Nat.reduceMul, Nat.reduceSub]
theorem arrive_ok (l : Land) (p : Span) (k : Nat) (hk : k < l.legs.length) (d0 d1 : Int) (hx : GoodLeg l.legs[k]) (hp : okPace p = true) (h0 : inR 0 100001 d0 = true) (h1 : inR 0 100001 d1 = true) :
    Ct Try.prog 80 [.agg (carL l p), I k, .agg [I d0, I d1]] (.agg [I (arrK false l.legs[k] p d0), I (arrK true l.legs[k] p d1)]) := by
  have hb := day_bd hx hp
  refine t80 (by simp [carL, wellL, legL, gateL, spanL, KFR_iff, KFL, KF]) (by simp [KFL, KF]) ?_
  dsimp only [c80, r80, carL, go_sem, Nat.reduceAdd, Nat.reduceMul, Nat.reduceSub]
  refine call (leave_ok l p k hk d0 d1 hx hp h0 h1) ?_
  dsimp only [carL, go_sem, Nat.reduceAdd, Nat.reduceMul, Nat.reduceSub]
  refine call (cdays_ok l p k hk hx hp) ?_
  dsimp only [spanL, go_sem, Nat.reduceAdd, Nat.reduceMul, Nat.reduceSub]
  simp only [inR, decide_eq_true_eq] at h0 h1
  have a0 := arrK_bd (k := false) hx hp h0.2
  have a1 := arrK_bd (k := true) hx hp h1.2
  simp only [leK, nK, cond_true, cond_false] at a0 a1
  refine unroll 3 ?_
  dsimp only [rnds_succ, go_sem, Nat.reduceAdd, Nat.reduceMul, Nat.reduceSub]
  refine br_t (by decide) ?_
  dsimp only [rnds_succ, go_sem, Nat.reduceAdd, Nat.reduceMul, Nat.reduceSub]
  repeat (refine ixa 0 rfl (by decide) ?_; dsimp only [rnds_succ, go_sem, Nat.reduceAdd, Nat.reduceMul, Nat.reduceSub])
  rw [w64_in (n := mayF l.legs[k] p d0 + (dayF l.legs[k] p).lo) (by omega) (by omega)]
  refine call (first1_ok _) ?_
  dsimp only [rnds_succ, go_sem, Nat.reduceAdd, Nat.reduceMul, Nat.reduceSub]
  repeat (refine ixa 0 rfl (by decide) ?_; dsimp only [rnds_succ, go_sem, Nat.reduceAdd, Nat.reduceMul, Nat.reduceSub])
  refine br_t (by decide) ?_
  dsimp only [rnds_succ, go_sem, Nat.reduceAdd, Nat.reduceMul, Nat.reduceSub]
  repeat (refine ixa 1 rfl (by decide) ?_; dsimp only [rnds_succ, go_sem, Nat.reduceAdd, Nat.reduceMul, Nat.reduceSub])
  rw [w64_in (n := canF l.legs[k] p d1 + (dayF l.legs[k] p).hi) (by omega) (by omega)]
  refine call (first1_ok _) ?_
  dsimp only [rnds_succ, go_sem, Nat.reduceAdd, Nat.reduceMul, Nat.reduceSub]
  repeat (refine ixa 1 rfl (by decide) ?_; dsimp only [rnds_succ, go_sem, Nat.reduceAdd, Nat.reduceMul, Nat.reduceSub])
  refine br_f (by decide) ?_
  dsimp only [go_sem, Nat.reduceAdd, Nat.reduceMul, Nat.reduceSub]
  simp only [arrK, leK, nK, cond_true, cond_false]
  rw [Int.min_comm, Int.min_comm 100001 (canF l.legs[k] p d1 + (dayF l.legs[k] p).hi)]
theorem arrives_ok (x : Leg) (p : Span) (d0 d1 : Int) (hx : GoodLeg x) (hp : okPace p = true) (h0 : inR 0 100001 d0 = true) (h1 : inR 0 100001 d1 = true) :
    Ct Try.prog 84 [.agg (legL x), .agg [I d0, I d1], .agg (spanL p)] (.agg [I (arrK false x p d0), I (arrK true x p d1)]) := by
  have hb := day_bd hx hp
  refine t84 (by simp [legL, gateL, spanL, KFR_iff, KFL, KF]) (by simp [KFL, KF]) ?_
  dsimp only [c84, r84, legL, spanL, go_sem, Nat.reduceAdd, Nat.reduceMul, Nat.reduceSub]
  refine call (may_ok x d0 p hx hp h0) ?_
  dsimp only [go_sem, Nat.reduceAdd, Nat.reduceMul, Nat.reduceSub]
  simp only [inR, decide_eq_true_eq] at h0 h1
  have a0 := arrK_bd (k := false) hx hp h0.2
  have a1 := arrK_bd (k := true) hx hp h1.2
  simp only [leK, nK, cond_true, cond_false] at a0 a1
  have key : ∀ q0, q0 = arrK false x p d0 → True := fun _ _ => trivial
  by_cases g0 : mayF x p d0 < 100001
  · refine br_t (by simpa using g0) ?_
    dsimp only [go_sem, Nat.reduceAdd, Nat.reduceMul, Nat.reduceSub]
    refine call (dayR_ok x p hx hp) ?_
    dsimp only [spanL, go_sem, Nat.reduceAdd, Nat.reduceMul, Nat.reduceSub]
    rw [w64_in (n := mayF x p d0 + (dayF x p).lo) (by omega) (by omega)]
    refine call (can_ok x d1 p hx hp (by simp [inR]; omega)) ?_
    dsimp only [go_sem, Nat.reduceAdd, Nat.reduceMul, Nat.reduceSub]
    by_cases g1 : canF x p d1 < 100001
    · refine br_t (by simpa using g1) ?_
      dsimp only [go_sem, Nat.reduceAdd, Nat.reduceMul, Nat.reduceSub]
      refine call (dayR_ok x p hx hp) ?_
      dsimp only [spanL, go_sem, Nat.reduceAdd, Nat.reduceMul, Nat.reduceSub]
      rw [w64_in (n := canF x p d1 + (dayF x p).hi) (by omega) (by omega)]
      dsimp only [arrK, leK, nK, go_sem, Nat.reduceAdd, Nat.reduceMul, Nat.reduceSub]
    · refine br_f (by simpa using g1) ?_
      dsimp only [go_sem, Nat.reduceAdd, Nat.reduceMul, Nat.reduceSub]
      rw [show arrK true x p d1 = 100001 by simp only [arrK, leK, nK, cond_true]; omega]
      dsimp only [arrK, leK, nK, go_sem, Nat.reduceAdd, Nat.reduceMul, Nat.reduceSub]
  · refine br_f (by simpa using g0) ?_
    dsimp only [go_sem, Nat.reduceAdd, Nat.reduceMul, Nat.reduceSub]
    refine call (can_ok x d1 p hx hp (by simp [inR]; omega)) ?_
    dsimp only [go_sem, Nat.reduceAdd, Nat.reduceMul, Nat.reduceSub]
    rw [show arrK false x p d0 = 100001 by simp only [arrK, leK, nK, cond_false]; omega]
    by_cases g1 : canF x p d1 < 100001
    · refine br_t (by simpa using g1) ?_
      dsimp only [go_sem, Nat.reduceAdd, Nat.reduceMul, Nat.reduceSub]
      refine call (dayR_ok x p hx hp) ?_
      dsimp only [spanL, go_sem, Nat.reduceAdd, Nat.reduceMul, Nat.reduceSub]
      rw [w64_in (n := canF x p d1 + (dayF x p).hi) (by omega) (by omega)]
      dsimp only [arrK, leK, nK, go_sem, Nat.reduceAdd, Nat.reduceMul, Nat.reduceSub]
    · refine br_f (by simpa using g1) ?_
      dsimp only [go_sem, Nat.reduceAdd, Nat.reduceMul, Nat.reduceSub]
      rw [show arrK true x p d1 = 100001 by simp only [arrK, leK, nK, cond_true]; omega]
theorem otherR_ok (x : Leg) (v : Int) : Ct Try.prog 86 [.agg (legL x), I v] (I (otherF x v)) := by
  refine t86 (by simp [legL, gateL, KFR_iff, KFL, KF]) (by simp [KFL, KF]) ?_
  dsimp only [c86, r86, legL, go_sem, Nat.reduceAdd, Nat.reduceMul, Nat.reduceSub]
  by_cases h1 : x.a = v
  · refine br_t (by simpa using h1) ?_
    dsimp only [go_sem, Nat.reduceAdd, Nat.reduceMul, Nat.reduceSub]
    simp [otherF, h1]
  · refine br_f (by simpa using h1) ?_
    dsimp only [go_sem, Nat.reduceAdd, Nat.reduceMul, Nat.reduceSub]
    by_cases h2 : x.b = v
    · refine br_t (by simpa using h2) ?_
      dsimp only [go_sem, Nat.reduceAdd, Nat.reduceMul, Nat.reduceSub]
      simp [otherF, h1, h2]
    · refine br_f (by simpa using h2) ?_
      dsimp only [go_sem, Nat.reduceAdd, Nat.reduceMul, Nat.reduceSub]
      simp [otherF, h1, h2]
def leadsO (l : Land) (p : Span) (v : Int) : Ot := ⟨false, .cl 97 [.p 0 0, .p 1 0], [(1, .cells [I v] 3), (0, .cells (carL l p) 119)], 2⟩
theorem leads_ok (l : Land) (p : Span) (v : Int) : CtM Try.prog 79 [] 0 [.agg (carL l p), I v] (fun o => o = leadsO l p v) := by
  refine m79 (by simp [hpb]) (fun o ho => by subst ho; simp [leadsO, KX, KXL, KXP, KXH, KFR_iff, KFL, KF, carL, wellL, legL, gateL]) ?_
  dsimp only [c79, r79, carL, go_sem, Nat.reduceAdd, Nat.reduceMul, Nat.reduceSub]
  refine ⟨_, rfl, ?_⟩
  simp only [leadsO]
  (refine entO_id ?_ ?_ ?_ rfl <;> dsimp only [carL, wellL, legL, gateL, id, go_sem, Nat.reduceAdd, Nat.reduceMul, Nat.reduceSub] <;> simp [carL, wellL, legL, gateL, KFR_iff, KFR_app, KFR, KFL, KF, mtL_same, mtO, Nat.beq_refl])
end Go.Proofs.Ytkjldleglbbkeaa
set_option maxRecDepth 100000
set_option maxHeartbeats 4000000
namespace Go.Azalai
def endF (l : Land) (leg v : Int) : Int := if h : 0 ≤ leg ∧ leg.toNat < l.legs.length then otherF l.legs[leg.toNat] v else -1
end Go.Azalai
namespace Go.Proofs.Ytkjldleglbbkeaa
open Go Go.Sx Go.Azalai
theorem end_ok (l : Land) (p : Span) (leg v : Int) (hl : l.legs.length ≤ 1000) : Ct Try.prog 85 [.agg (carL l p), I leg, I v] (I (endF l leg v)) := by
  refine t85 (by simp [carL, wellL, legL, gateL, KFR_iff, KFL, KF]) (by simp [KFL, KF]) ?_
  dsimp only [c85, r85, carL, go_sem, Nat.reduceAdd, Nat.reduceMul, Nat.reduceSub]
  refine callmL [] (leads_ok l p v) rfl rfl rfl ?_ ?_ ?_
  · exact mtL_same (by simp [carL, wellL, legL, gateL, KFR_iff, KFL, KF])
  · trivial
  dsimp only [leadsO, carL, go_sem, Nat.reduceAdd, Nat.reduceMul, Nat.reduceSub]
  refine gh ent_refl ?_
  dsimp only [go_sem, Nat.reduceAdd, Nat.reduceMul, Nat.reduceSub]
  refine ⟨b97, fun rec => ?_⟩
  refine y97 ?_
  dsimp only [c97, r97, go_sem, Nat.reduceAdd, Nat.reduceMul, Nat.reduceSub]
  refine loopO (fun j : Nat => [(10, I j)]) (fun _ => []) (fun j => j ≤ l.legs.length ∧ (0 ≤ leg → leg < j → endF l leg v = -1)) (fun j => l.legs.length - j) 0 ⟨Nat.zero_le _, fun h1 h2 => by omega⟩ ?_ ?_
  · (refine ent_id ?_ ?_ ?_ rfl rfl <;> dsimp only [carL, wellL, legL, gateL, id, go_sem, Nat.reduceAdd, Nat.reduceMul, Nat.reduceSub] <;> simp [carL, wellL, legL, gateL, KFR_iff, KFR_app, KFR, KFL, KF, mtL_same, mtO, Nat.beq_refl])
  rintro j ⟨hj, hi⟩
  dsimp only [go_sem, Nat.reduceAdd, Nat.reduceMul, Nat.reduceSub]
  simp only [List.length_map]
  by_cases hlt : j < l.legs.length
  · refine br_t (by simpa using hlt) ?_
    dsimp only [go_sem, Nat.reduceAdd, Nat.reduceMul, Nat.reduceSub]
    refine ixs_map j hlt rfl ?_
    dsimp only [legL, go_sem, Nat.reduceAdd, Nat.reduceMul, Nat.reduceSub]
    have hend : leg = j → endF l leg v = otherF l.legs[j] v := fun he => by
      subst he
      unfold endF
      rw [dif_pos ⟨by omega, by simpa using hlt⟩]
      simp
    by_cases ha : v = l.legs[j].a
    · refine br_t (by simpa using ha) ?_
      dsimp only [go_sem, Nat.reduceAdd, Nat.reduceMul, Nat.reduceSub]
      refine ⟨rfl, rfl, ?_⟩
      by_cases he : leg = j
      · refine br_t (by simp [he]) ?_
        dsimp only [go_sem, Nat.reduceAdd, Nat.reduceMul, Nat.reduceSub]
        refine ⟨rfl, ?_⟩
        refine br_t (by decide) ?_
        dsimp only [go_sem, Nat.reduceAdd, Nat.reduceMul, Nat.reduceSub]
        rw [hend he, otherF, if_pos ha.symm]
      · refine br_f (by simp; omega) ?_
        dsimp only [go_sem, Nat.reduceAdd, Nat.reduceMul, Nat.reduceSub]
        refine ⟨rfl, ?_⟩
        refine br_f (by decide) ?_
        dsimp only [go_sem, Nat.reduceAdd, Nat.reduceMul, Nat.reduceSub]
        rw [w64_in (n := (j : Int) + 1) (by omega) (by omega)]
        refine ⟨j + 1, ⟨hlt, fun h1 h2 => hi h1 (by omega)⟩, by omega, ?_⟩
        (refine ent_id ?_ ?_ ?_ rfl rfl <;> dsimp only [carL, wellL, legL, gateL, id, go_sem, Nat.reduceAdd, Nat.reduceMul, Nat.reduceSub] <;> simp [carL, wellL, legL, gateL, KFR_iff, KFR_app, KFR, KFL, KF, mtL_same, mtO, Nat.beq_refl])
    refine br_f (by simpa using ha) ?_
    dsimp only [go_sem, Nat.reduceAdd, Nat.reduceMul, Nat.reduceSub]
    by_cases hb : v = l.legs[j].b
    · refine br_t (by simpa using hb) ?_
      dsimp only [go_sem, Nat.reduceAdd, Nat.reduceMul, Nat.reduceSub]
      refine ⟨rfl, rfl, ?_⟩
      by_cases he : leg = j
      · refine br_t (by simp [he]) ?_
        dsimp only [go_sem, Nat.reduceAdd, Nat.reduceMul, Nat.reduceSub]
        refine ⟨rfl, ?_⟩
        refine br_t (by decide) ?_
        dsimp only [go_sem, Nat.reduceAdd, Nat.reduceMul, Nat.reduceSub]
        rw [hend he, otherF, if_neg (fun e => ha e.symm), if_pos hb.symm]
      · refine br_f (by simp; omega) ?_
        dsimp only [go_sem, Nat.reduceAdd, Nat.reduceMul, Nat.reduceSub]
        refine ⟨rfl, ?_⟩
        refine br_f (by decide) ?_
        dsimp only [go_sem, Nat.reduceAdd, Nat.reduceMul, Nat.reduceSub]
        rw [w64_in (n := (j : Int) + 1) (by omega) (by omega)]
        refine ⟨j + 1, ⟨hlt, fun h1 h2 => hi h1 (by omega)⟩, by omega, ?_⟩
        (refine ent_id ?_ ?_ ?_ rfl rfl <;> dsimp only [carL, wellL, legL, gateL, id, go_sem, Nat.reduceAdd, Nat.reduceMul, Nat.reduceSub] <;> simp [carL, wellL, legL, gateL, KFR_iff, KFR_app, KFR, KFL, KF, mtL_same, mtO, Nat.beq_refl])
    refine br_f (by simpa using hb) ?_
    dsimp only [go_sem, Nat.reduceAdd, Nat.reduceMul, Nat.reduceSub]
    rw [w64_in (n := (j : Int) + 1) (by omega) (by omega)]
    refine ⟨j + 1, ⟨hlt, fun h1 h2 => ?_⟩, by omega, ?_⟩
    · by_cases he : leg = j
      · rw [hend he, otherF, if_neg (fun e => ha e.symm), if_neg (fun e => hb e.symm)]
      · exact hi h1 (by omega)
    (refine ent_id ?_ ?_ ?_ rfl rfl <;> dsimp only [carL, wellL, legL, gateL, id, go_sem, Nat.reduceAdd, Nat.reduceMul, Nat.reduceSub] <;> simp [carL, wellL, legL, gateL, KFR_iff, KFR_app, KFR, KFL, KF, mtL_same, mtO, Nat.beq_refl])
  refine br_f (by simp; omega) ?_
  dsimp only [go_sem, Nat.reduceAdd, Nat.reduceMul, Nat.reduceSub]
  have hz : endF l leg v = -1 := by
    by_cases h1 : 0 ≤ leg
    · by_cases h2 : leg < j
      · exact hi h1 h2
      · unfold endF; rw [dif_neg (by omega)]
    · unfold endF; rw [dif_neg (by omega)]
  rw [hz]
end Go.Proofs.Ytkjldleglbbkeaa
set_option maxRecDepth 100000
set_option maxHeartbeats 4000000
namespace Go.Proofs.Ytkjldleglbbkeaa
open Go Go.Sx Go.Azalai
def U64 (n : Int) : SV := .v (.int .u64 n)
theorem uw {n : Int} (h0 : 0 ≤ n) (h1 : n < 18446744073709551616) : IntKind.u64.wrap n = n := by
  have e : n % 2 ^ IntKind.u64.bits = n := Int.emod_eq_of_lt h0 (by show n < 2 ^ 64; omega)
  simp only [IntKind.wrap, e, show IntKind.u64.signed = false from rfl, Bool.false_and]
  rfl
theorem mul64_ok (n : Int) (h0 : 0 ≤ n) (h1 : n ≤ 1000000) : Ct Try.prog 109 [U64 1, U64 n] (.tup [U64 0, U64 n]) := by
  refine t109 (by simp [U64, KFL, KF]) (by simp [U64, KFL, KF]) ?_
  dsimp only [c109, r109, U64, go_sem, Nat.reduceAdd, Nat.reduceMul, Nat.reduceSub]
  have sh : ∀ (m : Int), 0 ≤ m → m < 4294967296 → ∀ w : World, (binOp .shr 168 (.int .u64 m) (.int .u64 32)).run Try.prog w = .ok (.int .u64 0) w := fun m q0 q1 w => by
    simp only [binOp, Op.shift]
    rw [if_neg (by decide)]
    have : m.fdiv (2 ^ 32) = 0 := by rw [Int.fdiv_eq_ediv_of_nonneg _ (by decide)]; omega
    show Result.ok (Value.int .u64 (m.fdiv (2 ^ (min (32 : Int).toNat IntKind.u64.bits)))) w = _
    rw [show min (32 : Int).toNat IntKind.u64.bits = 32 from by decide, this]
  have an : ∀ (m : Int), 0 ≤ m → m < 4294967296 → ∀ w : World, (binOp .and 168 (.int .u64 m) (.int .u64 4294967295)).run Try.prog w = .ok (.int .u64 m) w := fun m q0 q1 w => by
    obtain ⟨k, rfl⟩ := Int.eq_ofNat_of_zero_le q0
    have hk : k < 4294967296 := by omega
    have e : (BitVec.ofInt 64 (k : Int) &&& BitVec.ofInt 64 4294967295).toNat = k := by
      rw [BitVec.toNat_and, show (BitVec.ofInt 64 4294967295).toNat = 2 ^ 32 - 1 from by decide, Nat.and_two_pow_sub_one_eq_mod, BitVec.ofInt_natCast, BitVec.toNat_ofNat]
      omega
    show Result.ok (Value.int .u64 (IntKind.u64.wrap (((BitVec.ofInt 64 (k : Int) &&& BitVec.ofInt 64 4294967295).toNat : Nat) : Int))) w = _
    rw [e, uw (by omega) (by omega)]
  refine raw_bin rfl (.inl rfl) (an 1 (by omega) (by omega)) rfl ?_
  dsimp only [go_sem, Nat.reduceAdd, Nat.reduceMul, Nat.reduceSub]
  refine raw_bin rfl (.inr rfl) (sh 1 (by omega) (by omega)) rfl ?_
  dsimp only [go_sem, Nat.reduceAdd, Nat.reduceMul, Nat.reduceSub]
  refine raw_bin rfl (.inl rfl) (an n (by omega) (by omega)) rfl ?_
  dsimp only [go_sem, Nat.reduceAdd, Nat.reduceMul, Nat.reduceSub]
  refine raw_bin rfl (.inr rfl) (sh n (by omega) (by omega)) rfl ?_
  dsimp only [go_sem, Nat.reduceAdd, Nat.reduceMul, Nat.reduceSub]
  simp (disch := omega) only [uw, Int.one_mul, Int.zero_mul, Int.mul_zero, Int.add_zero, Int.zero_add]
  refine raw_bin rfl (.inr rfl) (sh n (by omega) (by omega)) rfl ?_
  dsimp only [go_sem, Nat.reduceAdd, Nat.reduceMul, Nat.reduceSub]
  simp (disch := omega) only [uw, Int.one_mul, Int.zero_mul, Int.mul_zero, Int.add_zero, Int.zero_add]
  refine raw_bin rfl (.inl rfl) (an 0 (by omega) (by omega)) rfl ?_
  dsimp only [go_sem, Nat.reduceAdd, Nat.reduceMul, Nat.reduceSub]
  refine raw_bin rfl (.inr rfl) (sh 0 (by omega) (by omega)) rfl ?_
  dsimp only [go_sem, Nat.reduceAdd, Nat.reduceMul, Nat.reduceSub]
  simp (disch := omega) only [uw, Int.one_mul, Int.zero_mul, Int.mul_zero, Int.add_zero, Int.zero_add]
  refine raw_bin rfl (.inr rfl) (sh 0 (by omega) (by omega)) rfl ?_
  dsimp only [go_sem, Nat.reduceAdd, Nat.reduceMul, Nat.reduceSub]
  simp (disch := omega) only [uw, Int.one_mul, Int.zero_mul, Int.mul_zero, Int.add_zero, Int.zero_add]
theorem mul_ok (n : Int) (h0 : 0 ≤ n) (h1 : n ≤ 1000000) : Ct Try.prog 105 [U64 1, U64 n] (.tup [U64 0, U64 n]) := by
  refine t105 (by simp [U64, KFL, KF]) (by simp [U64, KFL, KF]) ?_
  dsimp only [c105, r105, U64, go_sem, Nat.reduceAdd, Nat.reduceMul, Nat.reduceSub]
  refine br_f (by decide) ?_
  dsimp only [go_sem, Nat.reduceAdd, Nat.reduceMul, Nat.reduceSub]
  refine call (mul64_ok n h0 h1) ?_
  dsimp only [U64, go_sem, Nat.reduceAdd, Nat.reduceMul, Nat.reduceSub]
theorem kfr_rep {r : List SV} (h : KFL r) : ∀ n, KFR (List.replicate n r)
  | 0 => trivial
  | n + 1 => ⟨h, kfr_rep h n⟩
/-- a row of one number, n times -/
theorem repi_ok (x : Int) (n : Nat) (h0 : 1 ≤ n) (h1 : n ≤ 1000) (k : Bool) : CtM Try.prog 99 [] 0 [.sl k 1 [[I x]], I n] (fun o => o = ⟨false, .mr 0 0, [(0, .row 0 1 (List.replicate n [I x]) 3)], 1⟩) := by
  have hm : KFL [I x] := by simp [KFL, KF]
  have hone : allOne [I x] = true := rfl
  have hkr := kfr_rep hm n
  refine m99 (by simp [hpb]) (fun o ho => by subst ho; simp only [KX, KXL, KXP, KXH]; exact ⟨trivial, hkr, trivial⟩) ?_
  generalize [I x] = row at hm hone hkr
  dsimp only [c99, r99, go_sem, Nat.reduceAdd, Nat.reduceMul, Nat.reduceSub]
  refine br_f (by simp) ?_
  dsimp only [go_sem, Nat.reduceAdd, Nat.reduceMul, Nat.reduceSub]
  rw [show ((1 : Nat) : Int) = 1 from rfl]
  simp (disch := omega) only [uw]
  refine call (mul_ok n (by omega) (by omega)) ?_
  dsimp only [U64, go_sem, Nat.reduceAdd, Nat.reduceMul, Nat.reduceSub]
  refine gb ?_
  dsimp only [go_sem, Nat.reduceAdd, Nat.reduceMul, Nat.reduceSub]
  refine gb ?_
  dsimp only [go_sem, Nat.reduceAdd, Nat.reduceMul, Nat.reduceSub]
  refine br_f (by simp; omega) ?_
  dsimp only [go_sem, Nat.reduceAdd, Nat.reduceMul, Nat.reduceSub]
  refine ⟨n, w64_in (by omega) (by omega), by omega, ?_⟩
  have hz : KFL [SV.v (Value.int IntKind.i64 0)] := by simp [KFL, KF]
  generalize [SV.v (Value.int IntKind.i64 0)] = z at hz
  dsimp only [go_sem, Nat.reduceAdd, Nat.reduceMul, Nat.reduceSub]
  refine ⟨(by intro c hc; simp only [List.mem_singleton] at hc; subst hc; exact hone), by simp, ?_⟩
  have hmin : min n 1 = 1 := by omega
  simp only [List.length_replicate, List.length_singleton, hmin, List.drop_replicate]
  dsimp only [go_sem, Nat.reduceAdd, Nat.reduceMul, Nat.reduceSub]
  refine loopO (fun j : Nat => [(8, I j)]) (fun j => [(0, .row 0 1 (List.replicate j row ++ List.replicate (n - j) z) 3)]) (fun j => 1 ≤ j ∧ j ≤ n) (fun j => n - j) 1 ⟨Nat.le_refl _, h0⟩ ?_ ?_
  · refine ent_id ?_ ?_ ?_ rfl rfl <;> dsimp only [id, go_sem, Nat.reduceAdd, Nat.reduceMul, Nat.reduceSub] <;> simp [KFR_app, kfr_rep, hz, hm, mtL_same, mtO, Nat.beq_refl, KFR, KFL, KF]
  rintro j ⟨hj0, hj⟩
  dsimp only [go_sem, Nat.reduceAdd, Nat.reduceMul, Nat.reduceSub]
  simp only [List.length_append, List.length_replicate, show j + (n - j) = n from by omega]
  by_cases hlt : j < n
  · refine br_t (by simpa using hlt) ?_
    dsimp only [go_sem, Nat.reduceAdd, Nat.reduceMul, Nat.reduceSub]
    refine ⟨j, n, ⟨rfl, by simp; omega, by omega, by simp; omega⟩, ?_⟩
    dsimp only [go_sem, Nat.reduceAdd, Nat.reduceMul, Nat.reduceSub]
    refine ⟨0, j, ⟨rfl, rfl, by omega, by simp⟩, ?_⟩
    dsimp only [go_sem, Nat.reduceAdd, Nat.reduceMul, Nat.reduceSub]
    have hx : List.take (j - 0) (List.replicate j row ++ List.replicate (n - j) z) = List.replicate j row := by rw [Nat.sub_zero]; exact List.take_left' (by simp)
    have hx' : List.take j (List.replicate j row ++ List.replicate (n - j) z) = List.replicate j row := List.take_left' (by simp)
    rw [hx]
    refine ⟨by simp, (by intro c hc; rw [List.eq_of_mem_replicate hc]; exact hone), by simp, ?_⟩
    simp only [List.length_replicate]
    generalize hN : min (n - j) j = N
    have e : List.take j (List.replicate j row ++ List.replicate (n - j) z) ++ (List.take N (List.replicate j row) ++ List.drop (j + N) (List.replicate j row ++ List.replicate (n - j) z)) = List.replicate (j + N) row ++ List.replicate (n - (j + N)) z := by
      rw [hx', List.take_replicate, List.drop_append, List.drop_of_length_le (l := List.replicate j row) (by simp), List.length_replicate, List.nil_append, List.drop_replicate, ← List.append_assoc, List.replicate_append_replicate, show min N j = N from by omega]
      congr 2; omega
    rw [e]
    dsimp only [go_sem, Nat.reduceAdd, Nat.reduceMul, Nat.reduceSub]
    rw [show (j : Int) + (N : Int) = ((j + N : Nat) : Int) from by omega, w64_in (n := ((j + N : Nat) : Int)) (by omega) (by omega)]
    refine ⟨j + N, ⟨by omega, by omega⟩, by omega, ?_⟩
    refine ent_id ?_ ?_ ?_ rfl rfl <;> dsimp only [id, go_sem, Nat.reduceAdd, Nat.reduceMul, Nat.reduceSub] <;> simp [KFR_app, kfr_rep, hz, hm, mtL_same, mtO, Nat.beq_refl, KFR, KFL, KF]
  refine br_f (by simp; omega) ?_
  dsimp only [go_sem, Nat.reduceAdd, Nat.reduceMul, Nat.reduceSub]
  have hje : j = n := by omega
  subst hje
  simp only [Nat.sub_self, List.replicate_zero, List.append_nil]
  refine ⟨_, rfl, ?_⟩
  refine entO_id ?_ ?_ ?_ rfl <;> dsimp only [id, go_sem, Nat.reduceAdd, Nat.reduceMul, Nat.reduceSub] <;> simp [KFR_app, kfr_rep, hm, mtL_same, mtO, Nat.beq_refl, KFR, KFL, KF]
end Go.Proofs.Ytkjldleglbbkeaa
namespace Go.Sx
open Go Go.RowKit
section typed
variable {K V : Type} [DecidableEq K]
def mpS (key : K → Value) (val : V → SV) (L : List (Nat × K × V)) : List (Nat × Value × SV) := L.map fun e => (e.1, key e.2.1, val e.2.2)
def mget (k : K) : List (Nat × K × V) → Option V
  | [] => none
  | e :: l => if e.2.1 = k then some e.2.2 else mget k l
def mset (c : Nat) (k : K) (v : V) : List (Nat × K × V) → List (Nat × K × V)
  | [] => [(c, k, v)]
  | e :: l => if e.2.1 = k then (e.1, k, v) :: l else e :: mset c k v l
def mdel (k : K) : List (Nat × K × V) → List (Nat × K × V)
  | [] => []
  | e :: l => if e.2.1 = k then l else e :: mdel k l
def mclk (c : Nat) (k : K) (L : List (Nat × K × V)) : Nat := bif (mget k L).isSome then c else c + 1
def fI (k : K) : List K → List MapEntry → Nat → Option (Nat × Value)
  | q :: ks, e :: ys, i => if q = k then some (i, e.val) else fI k ks ys (i + 1)
  | _, _, _ => none
/-- a type of keys, in plain form -/
structure KeyT (P : Program) (kt : TypeId) (key : K → Value) (sv : K → SV) : Prop where
  chk : ∀ (em : Bool) (k : K) (w : World), (Instr.checkKey em 10000 kt (key k)).run P w = .ok () w
  fnd : ∀ (k : K) (ks : List K) (ys : List MapEntry) (w : World), ys.map (·.key) = ks.map key → (Instr.findKey kt (key k) ys).run P w = .ok (fI k ks ys 0) w
  same : ∀ k, Instr.sameBits 10000 (key k) (key k) = true
  svR : ∀ {w : World} {E : Env} {n ok : Nat → Prop} (k : K) (y : Value), R w E n ok (sv k) y ↔ y = key k
theorem fI_spec {w : World} {E : Env} {n ok : Nat → Prop} {key : K → Value} {val : V → SV} (k : K) : ∀ (L : List (Nat × K × V)) (ys : List MapEntry) (i : Nat), RM w E n ok (mpS key val L) ys →
    (mget k L = none ∧ fI k (L.map (·.2.1)) ys i = none ∧ mdel k L = L ∧ ∀ {w' : World} {E' : Env} {n' ok' : Nat → Prop} c v' y', R w' E' n' ok' (val v') y' → RM w' E' n' ok' (mpS key val L) ys → RM w' E' n' ok' (mpS key val (mset c k v' L)) (ys ++ [⟨key k, y', c⟩])) ∨
    ∃ j v e, mget k L = some v ∧ fI k (L.map (·.2.1)) ys i = some (i + j, e.val) ∧ ys[j]? = some e ∧ e.key = key k ∧ R w E n ok (val v) e.val ∧
      (∀ {w' : World} {E' : Env} {n' ok' : Nat → Prop}, RM w' E' n' ok' (mpS key val L) ys → RM w' E' n' ok' (mpS key val (mdel k L)) (ys.eraseIdx j) ∧ ∀ c v' y', R w' E' n' ok' (val v') y' → RM w' E' n' ok' (mpS key val (mset c k v' L)) (ys.modify j fun e => { e with key := key k, val := y' }))
  | [], ys, i, h => by
    simp only [mpS, List.map_nil, RM] at h
    subst h
    exact .inl ⟨rfl, rfl, rfl, fun c v' y' hR _ => by simp only [mset, mpS, List.map_cons, List.map_nil, List.nil_append, RM]; exact ⟨y', [], rfl, hR, rfl⟩⟩
  | e :: l, ys, i, h => by
    simp only [mpS, List.map_cons, RM] at h
    obtain ⟨y, r, rfl, h1, h2⟩ := h
    by_cases hk : e.2.1 = k
    · refine .inr ⟨0, e.2.2, ⟨key e.2.1, y, e.1⟩, by simp [mget, hk], by simp [fI, hk], rfl, by simp [hk], h1, fun {w' E' n' ok'} h' => ?_⟩
      simp only [mpS, List.map_cons, RM] at h'
      obtain ⟨y0, r0, e0, h3, h4⟩ := h'
      cases e0
      refine ⟨by simpa [mdel, hk, mpS] using h4, fun c v' y' hR => ?_⟩
      simp only [mset, hk, if_true, mpS, List.map_cons, RM]
      exact ⟨y', r, by simp, hR, h4⟩
    · rcases fI_spec k l r (i + 1) h2 with ⟨a1, a2, a3, a4⟩ | ⟨j, v, e', b1, b2, b3, b4, b5, b6⟩
      · refine .inl ⟨by simp [mget, hk, a1], by simp [fI, hk, a2], by simp [mdel, hk, a3], fun {w' E' n' ok'} c v' y' hR h' => ?_⟩
        simp only [mpS, List.map_cons, RM] at h'
        obtain ⟨y0, r0, e0, h3, h4⟩ := h'
        cases e0
        simp only [mset, hk, if_false, mpS, List.map_cons, RM]
        exact ⟨y, _, rfl, h3, a4 c v' y' hR h4⟩
      · refine .inr ⟨j + 1, v, e', by simp [mget, hk, b1], by simp [fI, hk, b2]; omega, by simpa using b3, b4, b5, fun {w' E' n' ok'} h' => ?_⟩
        simp only [mpS, List.map_cons, RM] at h'
        obtain ⟨y0, r0, e0, h3, h4⟩ := h'
        cases e0
        obtain ⟨c1, c2⟩ := b6 h4
        refine ⟨?_, fun c v' y' hR => ?_⟩
        · simp only [mdel, hk, if_false, mpS, List.map_cons, RM]
          exact ⟨y, _, by simp, h3, c1⟩
        · simp only [mset, hk, if_false, mpS, List.map_cons, RM]
          exact ⟨y, _, by simp, h3, c2 c v' y' hR⟩
omit [DecidableEq K] in
theorem RM_keys {w : World} {E : Env} {n ok : Nat → Prop} {key : K → Value} {val : V → SV} : ∀ {L : List (Nat × K × V)} {ys : List MapEntry}, RM w E n ok (mpS key val L) ys → ys.map (·.key) = (L.map (·.2.1)).map key
  | [], ys, h => by simp only [mpS, List.map_nil, RM] at h; subst h; rfl
  | e :: l, ys, h => by
    simp only [mpS, List.map_cons, RM] at h
    obtain ⟨y, r, rfl, h1, h2⟩ := h
    simp only [List.map_cons, List.cons.injEq, true_and]
    exact RM_keys h2
theorem RM_len {w : World} {E : Env} {n ok : Nat → Prop} : ∀ {L : List (Nat × Value × SV)} {ys : List MapEntry}, RM w E n ok L ys → ys.length = L.length
  | [], ys, h => by simp only [RM] at h; subst h; rfl
  | e :: l, ys, h => by simp only [RM] at h; obtain ⟨y, r, rfl, h1, h2⟩ := h; simp [RM_len h2]
theorem RM_mem {w : World} {E : Env} {n ok : Nat → Prop} : ∀ {L : List (Nat × Value × SV)} {ys : List MapEntry}, RM w E n ok L ys → ∀ e ∈ ys, ∃ x ∈ L, e.born = x.1 ∧ e.key = x.2.1 ∧ R w E n ok x.2.2 e.val
  | [], ys, h => by simp only [RM] at h; subst h; simp
  | e :: l, ys, h => by
    simp only [RM] at h; obtain ⟨y, r, rfl, h1, h2⟩ := h
    intro e' he'
    rcases List.mem_cons.1 he' with rfl | he'
    · exact ⟨e, by simp, rfl, rfl, h1⟩
    · obtain ⟨x, hx, h⟩ := RM_mem h2 e' he'; exact ⟨x, by simp [hx], h⟩
theorem RM_mem' {w : World} {E : Env} {n ok : Nat → Prop} : ∀ {L : List (Nat × Value × SV)} {ys : List MapEntry}, RM w E n ok L ys → ∀ x ∈ L, ∃ e ∈ ys, e.born = x.1
  | [], ys, h => by simp
  | e :: l, ys, h => by
    simp only [RM] at h; obtain ⟨y, r, rfl, h1, h2⟩ := h
    intro x hx
    rcases List.mem_cons.1 hx with rfl | hx
    · exact ⟨_, List.mem_cons_self, rfl⟩
    · obtain ⟨e', he', h⟩ := RM_mem' h2 x hx; exact ⟨e', by simp [he'], h⟩
/-- numbers of one kind as keys -/
theorem keyInt {P : Program} {kt : TypeId} {kd : IntKind} (hu : P.underlying kt = some (.int kd)) : KeyT P kt (fun n : Int => .int kd n) (fun n => .v (.int kd n)) := by
  refine ⟨fun em k w => MapKept.run_checkKey hu (by simp [MapKept.IsKey]) em _, fun k ks ys w h => ?_, fun k => by simp [Instr.sameBits], fun k y => by simp only [R]⟩
  have : ∀ (ks : List Int) (ys : List MapEntry) (i : Nat), ys.map (·.key) = ks.map (fun n : Int => Value.int kd n) → Instr.findNow (.int kd) (.int kd k) ys i = some (fI k ks ys i) := by
    intro ks ys
    induction ys generalizing ks with
    | nil => intro i h; cases ks with
      | nil => rfl
      | cons a b => simp at h
    | cons e ys ih => intro i h; cases ks with
      | nil => simp at h
      | cons a b =>
        simp only [List.map_cons, List.cons.injEq] at h
        simp only [Instr.findNow, h.1, Instr.sameNow, if_true, fI]
        by_cases ha : a = k
        · subst ha; simp
        · have : (k == a) = false := by simpa using fun e => ha e.symm
          simp [this, ha, ih b (i + 1) h.2]
  exact MapKept.run_findKey hu (this ks ys 0 h)
/-- pairs of numbers of one kind as keys -/
theorem keyInt2 {P : Program} {kt t1 : TypeId} {f1 f2 : Field} (hu : P.underlying kt = some (.struct #[f1, f2])) (hu1 : P.underlying t1 = some (.int .i64)) (h1 : f1.type = t1) (h2 : f2.type = t1) (ho1 : f1.offset = 0) (ho2 : f2.offset = 1)
    (hs : szOf P t1 = some 1) (ha : agOf P t1 = some false) (hn : f1.name ≠ "_") (hn2 : f2.name ≠ "_") (he : ∀ (a b c d : Int) (w : World), (Op.equal kt (.agg #[.int .i64 a, .int .i64 b]) (.agg #[.int .i64 c, .int .i64 d])).run P w = .ok (a == c && b == d) w) :
    KeyT P kt (fun n : Int × Int => .agg #[.int .i64 n.1, .int .i64 n.2]) (fun n => .agg [.v (.int .i64 n.1), .v (.int .i64 n.2)]) := by
  refine ⟨fun em k w => ?_, fun k ks ys w h => ?_, fun k => by simp [Instr.sameBits], fun k y => ?_⟩
  · have p1 : (part t1 #[Value.int .i64 k.1, .int .i64 k.2] 0).run P w = .ok (.int .i64 k.1) w := run_part (ag := false) ha hs _ (fun _ => by simp)
    have p2 : (part t1 #[Value.int .i64 k.1, .int .i64 k.2] 1).run P w = .ok (.int .i64 k.2) w := run_part (ag := false) ha hs _ (fun _ => by simp)
    have q : ∀ x, (Instr.checkKey em 9999 t1 (.int .i64 x)).run P w = .ok () w := fun x => MapKept.run_checkKey hu1 (by simp [MapKept.IsKey]) em _
    rw [show (10000 : Nat) = 9999 + 1 from rfl, Instr.checkKey]
    simp [Sem.run_bind, run_underlying hu, h1, h2, ho1, ho2, hn, hn2, p1, p2, q]
  · rw [run_findKey_eq w (by rw [hu])]
    have : ∀ (ks : List (Int × Int)) (ys : List MapEntry) (i : Nat), ys.map (·.key) = ks.map (fun n : Int × Int => Value.agg #[.int .i64 n.1, .int .i64 n.2]) → (Instr.findAsking kt (.agg #[.int .i64 k.1, .int .i64 k.2]) ys i).run P w = .ok (fI k ks ys i) w := by
      intro ks ys
      induction ys generalizing ks with
      | nil => intro i h; cases ks with
        | nil => rfl
        | cons a b => simp at h
      | cons e ys ih => intro i h; cases ks with
        | nil => simp at h
        | cons a b =>
          simp only [List.map_cons, List.cons.injEq] at h
          simp only [Instr.findAsking, h.1, Sem.run_bind, he, Result.andThen_ok, fI]
          by_cases hak : a = k
          · subst hak; simp
          · have : (k.1 == a.1 && k.2 == a.2) = false := by
              rw [Bool.eq_false_iff]; intro hh
              simp only [Bool.and_eq_true, beq_iff_eq] at hh
              exact hak (Prod.ext hh.1.symm hh.2.symm)
            simp [this, hak, ih b (i + 1) h.2]
    exact this ks ys 0 h
  · simp only [R, RL]
    constructor
    · rintro ⟨cs, rfl, y1, r, hcs, rfl, y2, r2, rfl, rfl, rfl⟩
      simp only [Value.agg.injEq]
      apply Array.toList_inj.1; simp [hcs]
    · rintro rfl
      exact ⟨_, rfl, _, _, rfl, rfl, _, _, rfl, rfl, rfl⟩
end typed
section
variable {P : Program} {C : Cx} {E : Env} {σ : St} {a : Act} {w : World}
/-- what an operand says -/
def oprS (σ : St) : Operand → SV
  | .tmp u => lk u σ.fr
  | .const x => .v x
  | _ => .any
theorem opr_R (h : Sim C E σ a w) {o : Operand} {s : SV} (hs : oprS σ o = s) (hg : ∀ j b u, s ≠ .gd j b u) : R w E (ltn σ.n) (okS C E σ.hp) s (a.eval o) := by
  cases o with
  | tmp u =>
    have := FR_R (h.fr u) (fun j b u' e => hg j b u' (by rw [← hs]; exact e))
    simp only [oprS] at hs; rw [hs] at this; exact this
  | const x => simp only [oprS] at hs; subst hs; simp only [R]; rfl
  | _ => simp only [oprS] at hs; subst hs; simp only [R]
theorem map_of (h : Sim C E σ a w) {km c : Nat} {es : List (Nat × Value × SV)} (hk : lkh km σ.hp = .map es c) :
    ltn σ.n km ∧ ∃ ys, w.heap[E.β km]? = some (.map ys c) ∧ RM w E (ltn σ.n) (okS C E σ.hp) es ys.toList := by
  have hb := h.hs.bk km
  rw [hk] at hb
  refine ⟨?_, hb⟩
  rcases Classical.em (ltn σ.n km) with q | q
  · exact q
  · rw [h.hs.kn km q] at hk; cases hk
theorem put_go {d : Option Nat} {s : SV} {r : KT} {K : RK} {y : Value} {w' : World} {E' : Env} {hp' : List (Nat × HB)} {n' : Nat} {next : Act → World → Prop} (hk : putK d s none ⟨σ.fr, hp', n', σ.N, σ.gs⟩ r K) (h : Sim C E σ a w)
    (hst : Stays w w' (okS C E σ.hp) (okS C E' hp')) (hE : ∀ k, k < σ.n → Ele E E' k k) (hn : σ.n ≤ n') (hh : HSim C E' hp' (ltn n') w') (hR : R w' E' (ltn n') (okS C E' hp') s y)
    (hnext : ∀ σ' E' a' w', r σ' K → Sim C E' σ' a' w' → next a' w') : next (a.put d y) w' := by
  rcases putK_ex hk with ⟨g1, g2⟩ | ⟨t, g1, g2, g3, g4, g5⟩
  · rw [g1]; exact hnext _ E' _ _ g2 (Sim_same (σ := σ) h hst hE hn hh)
  · rw [g1]
    exact hnext _ E' _ _ g5 (Sim_put (σ := σ) h hst hE hn hh g2 g3 (fun j b u e => by rw [e] at g4; cases g4) hR)
theorem put_go0 {d : Option Nat} {s : SV} {r : KT} {K : RK} {y : Value} {next : Act → World → Prop} (hk : putK d s none σ r K) (h : Sim C E σ a w) (hR : R w E (ltn σ.n) (okS C E σ.hp) s y)
    (hnext : ∀ σ' E' a' w', r σ' K → Sim C E' σ' a' w' → next a' w') : next (a.put d y) w :=
  put_go (hp' := σ.hp) (n' := σ.n) hk h (fun b hb _ => ⟨hb, rfl⟩) (fun _ _ => Ele.rfl) (Nat.le_refl _) h.hs hR hnext
theorem svR_ng {K' : Type} [DecidableEq K'] {kt : TypeId} {key : K' → Value} {sv : K' → SV} (hK : KeyT P kt key sv) (k : K') : ∀ j b u, sv k ≠ .gd j b u := fun j b u e => by
  have := (hK.svR (w := default) (E := ⟨fun _ => 0, fun _ _ => undef, fun _ => 0⟩) (n := fun _ => True) (ok := fun _ => True) k (key k)).2 rfl
  rw [e] at this; simp only [R] at this
theorem HSim_newO {hp : List (Nat × HB)} {n : Nat → Prop} {q : Nat} {hb : HB} {o : Obj} (h : HSim C E hp n w) (hq : ¬ n q) (hocc : ∀ (E : Env) b, occ E q hb b ↔ b = E.β q)
    (hok : ∀ E', (∀ k, n k → Ele E E' k k) → E'.β q = w.heap.size → HBok (w.alloc o) E' (fun k => n k ∨ k = q) (okS C E' ((q, hb) :: hp)) q hb) :
    ∃ E', (∀ k, n k → Ele E E' k k) ∧ E'.β q = w.heap.size ∧ HSim C E' ((q, hb) :: hp) (fun k => n k ∨ k = q) (w.alloc o) ∧ Stays w (w.alloc o) (okS C E hp) (okS C E' ((q, hb) :: hp)) := by
  let E' : Env := ⟨fun k => if k = q then w.heap.size else E.β k, E.hv, E.iss⟩
  have hE : ∀ k, n k → Ele E E' k k := fun k hk => ⟨by simp [E', show k ≠ q from by rintro rfl; exact hq hk], Nat.le_refl _, fun _ _ => rfl⟩
  have hEn : E'.β q = w.heap.size := by simp [E']
  have hbel : Below w.heap.size w (w.alloc o) := (Below.refl _ _).alloc (Nat.le_refl _) _
  have hoc : ∀ j b, j ≠ q → (occ E' j (lkh j ((q, hb) :: hp)) b ↔ occ E j (lkh j hp) b) := fun j b hj => by
    rw [lkh_cons, if_neg hj]
    cases hl : lkh j hp <;> simp only [occ, E', if_neg hj]
  have hocn : ∀ b, occ E' q (lkh q ((q, hb) :: hp)) b ↔ b = w.heap.size := fun b => by
    rw [lkh_cons, if_pos rfl, hocc, hEn]
  have hlt : ∀ b, b < w.heap.size → (okS C E' ((q, hb) :: hp) b ↔ okS C E hp b) := fun b hb' => by
    unfold okS
    constructor
    · rintro ⟨h1, h2⟩
      refine ⟨h1, fun j hj => ?_⟩
      by_cases hjn : j = q
      · subst hjn; rw [h.kn j hq] at hj; exact hj
      · exact h2 j ((hoc j b hjn).2 hj)
    · rintro ⟨h1, h2⟩
      refine ⟨h1, fun j hj => ?_⟩
      by_cases hjn : j = q
      · subst hjn; rw [hocn] at hj; omega
      · exact h2 j ((hoc j b hjn).1 hj)
  have hst : Stays w (w.alloc o) (okS C E hp) (okS C E' ((q, hb) :: hp)) := fun b hb' hs => by
    have hlt' : b < w.heap.size := by
      obtain ⟨o, ho⟩ := Option.isSome_iff_exists.1 hs
      exact (Array.getElem?_eq_some_iff.1 ho).1
    exact ⟨(hlt b hlt').2 hb', hbel.block b hlt'⟩
  refine ⟨E', hE, hEn, ⟨fun j hj => ?_, fun j => ?_, fun j j' b h1 h2 => ?_, fun j b h1 => ?_, keeps_below h.kp hbel, fun k hk => (by obtain ⟨p1, p2⟩ := h.pin k hk; exact ⟨.inl p1, p2.trans (hE k p1)⟩)⟩, hst⟩
  · rw [lkh_cons, if_neg (fun e => hj (.inr e))]; exact h.kn j (fun e => hj (.inl e))
  · rw [lkh_cons]
    by_cases hj : j = q
    · subst hj; rw [if_pos rfl]
      exact hok E' hE hEn
    · rw [if_neg hj]
      refine HBok_mono hst hE (fun _ h => .inl h) ?_ (fun b ho => hbel.block b (occ_lt h ho)) (by simp [E', hj]) (h.bk j)
      rcases Classical.em (n j) with h' | h'
      · exact .inr h'
      · exact .inl (h.kn j h')
  · by_cases hj : j = q <;> by_cases hj' : j' = q
    · omega
    · subst hj; rw [hocn] at h1; rw [hoc j' b hj'] at h2; have := occ_lt h h2; omega
    · subst hj'; rw [hocn] at h2; rw [hoc j b hj] at h1; have := occ_lt h h1; omega
    · exact h.dj j j' b ((hoc j b hj).1 h1) ((hoc j' b hj').1 h2)
  · by_cases hj : j = q
    · subst hj; rw [hocn] at h1; exact .inl (by rw [h1]; exact h.kp.size)
    · exact h.lo j b ((hoc j b hj).1 h1)
end
section
variable {P : Program} {K' V : Type} [DecidableEq K'] {key : K' → Value} {sv : K' → SV} {val : V → SV} {L : List (Nat × K' × V)} {km c : Nat} {kt et t ty : TypeId} {mx ix vx : Operand} {σ : St} {r : KT} {K : RK} {d : Option Nat} {k : K'}
theorem raw_mkmap {u : Nat} {rs : Option Operand} (hr : rs = none) (h1 : memb u σ.gs = false) (h2 : Nat.blt u σ.N = true) (h : r ⟨(u, .mp σ.n) :: σ.fr, (σ.n, .map [] 0) :: σ.hp, σ.n + 1, σ.N, σ.gs⟩ K) :
    RAW P (some u) (.makeMap t rs) ty σ r K := by
  subst hr
  intro o C E a w next Q e1 e2 e3 hS hn hq
  obtain ⟨E', k1, k2, k3, k4⟩ := HSim_newO (q := σ.n) (hb := .map [] 0) (o := .map #[] 0) hS.hs (by simp [ltn]) (fun E b => by simp only [occ]) (fun E' g1 g2 => by
    simp only [HBok, g2]; exact ⟨#[], heap_alloc_new _ _, rfl⟩)
  have hV : (fun k => ltn σ.n k ∨ k = σ.n) = ltn (σ.n + 1) := by funext k; simp only [ltn, eq_iff_iff]; omega
  rw [hV] at k3
  have hx : (execOp a.eval o).run P w = .ok (.value (.map (some w.heap.size))) (w.alloc (.map #[] 0)) := by
    obtain ⟨dst', op', ty', pos, after, guard⟩ := o
    simp only at e2; subst e2
    simp [execOp, Sem.run_bind, Instr.makeMap, run_newO, Sem.run_pure]
  refine wpq_res hx (by simp) ?_
  show next (a.put o.dst _) _
  rw [e1]
  refine hn _ E' _ _ h (Sim_put hS k4 k1 (by omega) k3 (fun hh => ?_) (by simpa [Nat.blt_eq] using h2) (fun _ _ _ e => by cases e) ?_)
  · rw [memb_iff.2 hh] at h1; cases h1
  · simp only [R, k2]; exact ⟨by simp [ltn], trivial⟩
theorem raw_get {ok : Bool} {zs : SV} {z : Value} (hm : oprS σ mx = .mp km) (hh : lkh km σ.hp = .map (mpS key val L) c) (ht : P.underlying t = some (.map kt et)) (hK : KeyT P kt key sv) (hi : oprS σ ix = sv k)
    (hz : zeroOf P et = some z) (hzR : ∀ w E n ok, R w E n ok zs z)
    (h1 : ∀ v, mget k L = some v → putK d (bif ok then .tup [val v, .v (.bool true)] else val v) none σ r K) (h0 : mget k L = none → putK d (bif ok then .tup [zs, .v (.bool false)] else zs) none σ r K) :
    RAW P d (.lookup t mx ix ok) ty σ r K := by
  intro o C E a w next Q e1 e2 e3 hS hn hq
  have hmv := opr_R hS hm (fun _ _ _ => by simp)
  have hiv := (hK.svR k _).1 (opr_R hS hi (svR_ng hK k))
  simp only [R] at hmv
  obtain ⟨g0, ys, g1, g2⟩ := map_of hS hh
  have hfn := fun w => hK.fnd k _ _ w (RM_keys g2)
  have hex : ∀ y, (Instr.lookup t (a.eval mx) (a.eval ix) ok).run P w = .ok y w → (execOp a.eval o).run P w = .ok (.value y) w := fun y hy => by
    obtain ⟨dst', op', ty', pos, after, guard⟩ := o
    simp only at e2; subst e2
    simp only [execOp, Sem.run_bind, hy, Result.andThen_ok, Sem.run_pure]
  rcases fI_spec (w := w) (E := E) (n := ltn σ.n) (ok := okS C E σ.hp) k L ys.toList 0 g2 with ⟨a1, a2, -, -⟩ | ⟨j, v, e, b1, b2, b3, b4, b5, -⟩
  · have hrun : (Instr.lookup t (a.eval mx) (a.eval ix) ok).run P w = .ok (if ok then .tuple #[z, .bool false] else z) w := by
      rw [hmv.2, hiv]
      simp only [Instr.lookup, Sem.run_bind, run_underlying ht, Result.andThen_ok, run_getO g1 rfl, Sem.run_pure, hK.chk, hfn, a2, run_zeroOf hz]
    refine wpq_res (hex _ hrun) (by simp) ?_
    show next (a.put o.dst _) _
    rw [e1]
    refine put_go0 (h0 a1) hS ?_ hn
    cases ok
    · exact hzR _ _ _ _
    · simp only [cond_true, if_true, R, RL]; exact ⟨_, rfl, _, _, rfl, hzR _ _ _ _, _, _, rfl, rfl, rfl⟩
  · have hrun : (Instr.lookup t (a.eval mx) (a.eval ix) ok).run P w = .ok (if ok then .tuple #[e.val, .bool true] else e.val) w := by
      rw [hmv.2, hiv]
      simp only [Instr.lookup, Sem.run_bind, run_underlying ht, Result.andThen_ok, run_getO g1 rfl, Sem.run_pure, hK.chk, hfn, b2]
    refine wpq_res (hex _ hrun) (by simp) ?_
    show next (a.put o.dst _) _
    rw [e1]
    refine put_go0 (h1 v b1) hS ?_ hn
    cases ok
    · exact b5
    · simp only [cond_true, if_true, R, RL]; exact ⟨_, rfl, _, _, rfl, b5, _, _, rfl, rfl, rfl⟩
/-- an entry is set, to what may be told otherwise than it is given -/
theorem raw_setG {v : V} {s : SV} {ins : Bool} (hm : oprS σ mx = .mp km) (hh : lkh km σ.hp = .map (mpS key val L) c) (ht : P.underlying t = some (.map kt et)) (hK : KeyT P kt key sv) (hi : oprS σ ix = sv k)
    (hv : oprS σ vx = s) (hvg : ∀ j b u, s ≠ .gd j b u) (hsv : ∀ w E n ok y, R w E n ok s y → R w E n ok (val v) y) (h : r ⟨σ.fr, (km, .map (mpS key val (mset c k v L)) (mclk c k L)) :: σ.hp, σ.n, σ.N, σ.gs⟩ K) :
    RAW P none (bif ins then .insert t mx ix vx else .mapUpdate t mx ix vx) ty σ r K := by
  intro o C E a w next Q e1 e2 e3 hS hn hq
  have hmv := opr_R hS hm (fun _ _ _ => by simp)
  have hiv := (hK.svR k _).1 (opr_R hS hi (svR_ng hK k))
  have hvv := hsv _ _ _ _ _ (opr_R hS hv hvg)
  simp only [R] at hmv
  obtain ⟨g0, ys, g1, g2⟩ := map_of hS hh
  have hfn := fun w => hK.fnd k _ _ w (RM_keys g2)
  have hex : ∀ w', (Instr.mapUpdate t (a.eval mx) (a.eval ix) (a.eval vx)).run P w = .ok () w' → (execOp a.eval o).run P w = .ok .skip w' := fun w' hy => by
    obtain ⟨dst', op', ty', pos, after, guard⟩ := o
    simp only at e2; subst e2
    cases ins <;> simp only [cond_true, cond_false, execOp, Sem.run_bind, hy, Result.andThen_ok, Sem.run_pure]
  have hfin : ∀ ys', ((ys' : Array MapEntry), mclk c k L) = (ys', mclk c k L) → (∀ {w' : World} {ok' : Nat → Prop}, RM w' E (ltn σ.n) ok' (mpS key val L) ys.toList → R w' E (ltn σ.n) ok' (val v) (a.eval vx) → RM w' E (ltn σ.n) ok' (mpS key val (mset c k v L)) ys'.toList) →
      next (a.put o.dst undef) (wset w (E.β km) (.map ys' (mclk c k L))) := fun ys' _ hRM => by
    obtain ⟨q1, q2⟩ := HSim_obj (k := km) (hb := .map (mpS key val (mset c k v L)) (mclk c k L)) (o := .map ys' (mclk c k L)) hS.hs (fun b => by rw [hh]; simp only [occ]) (fun b => by simp only [occ]) (fun hlt hst => by
      simp only [HBok]
      exact ⟨ys', wset_same hlt, hRM (RM_mono hst.c (fun _ _ => Ele.rfl) (fun _ h => h) _ _ g2) (R_mono hst.c (fun _ _ => Ele.rfl) (fun _ h => h) _ _ hvv)⟩)
    rw [e1]
    exact hn _ E _ _ h (Sim_same hS q2 (fun _ _ => Ele.rfl) (Nat.le_refl _) q1)
  rcases fI_spec (w := w) (E := E) (n := ltn σ.n) (ok := okS C E σ.hp) k L ys.toList 0 g2 with ⟨a1, a2, -, a4⟩ | ⟨j, v0, e, b1, b2, b3, b4, b5, b6⟩
  · have hc : mclk c k L = c + 1 := by simp [mclk, a1]
    have hrun : (Instr.mapUpdate t (a.eval mx) (a.eval ix) (a.eval vx)).run P w = .ok () (wset w (E.β km) (.map (ys.push ⟨key k, a.eval vx, c⟩) (c + 1))) := by
      rw [hmv.2, hiv]
      simp only [Instr.mapUpdate, Sem.run_bind, run_underlying ht, Result.andThen_ok, run_getO g1 rfl, Sem.run_pure, hK.chk, hfn, a2, run_setO _ g1 rfl]
    refine wpq_res (hex _ hrun) (by simp) ?_
    show next (a.put o.dst undef) _
    rw [← hc]
    exact hfin _ rfl fun h1 h2 => by rw [Array.toList_push]; exact a4 c v _ h2 h1
  · have hc : mclk c k L = c := by simp [mclk, b1]
    rw [Nat.zero_add] at b2
    have hek : ((ys[j]?).map (·.key)).getD (key k) = key k := by
      have : ys[j]? = some e := by simpa using b3
      simp [this, b4]
    have hrun : (Instr.mapUpdate t (a.eval mx) (a.eval ix) (a.eval vx)).run P w = .ok () (wset w (E.β km) (.map (ys.modify j fun e => { e with key := key k, val := a.eval vx }) c)) := by
      rw [hmv.2, hiv]
      simp only [Instr.mapUpdate, Sem.run_bind, run_underlying ht, Result.andThen_ok, run_getO g1 rfl, Sem.run_pure, hK.chk, hfn, b2, hek, Instr.keyThatStays, hK.same, if_true, run_setO _ g1 rfl]
    refine wpq_res (hex _ hrun) (by simp) ?_
    show next (a.put o.dst undef) _
    have := hfin (ys.modify j fun e => { e with key := key k, val := a.eval vx }) rfl fun {w' ok'} h1 h2 => by
      rw [Array.toList_modify]; exact (b6 h1).2 c v _ h2
    rw [hc] at this; exact this
theorem raw_set {v : V} {ins : Bool} (hm : oprS σ mx = .mp km) (hh : lkh km σ.hp = .map (mpS key val L) c) (ht : P.underlying t = some (.map kt et)) (hK : KeyT P kt key sv) (hi : oprS σ ix = sv k)
    (hv : oprS σ vx = val v) (hvg : ∀ j b u, val v ≠ .gd j b u) (h : r ⟨σ.fr, (km, .map (mpS key val (mset c k v L)) (mclk c k L)) :: σ.hp, σ.n, σ.N, σ.gs⟩ K) :
    RAW P none (bif ins then .insert t mx ix vx else .mapUpdate t mx ix vx) ty σ r K := raw_setG hm hh ht hK hi hv hvg (fun _ _ _ _ _ h => h) h
theorem raw_del (hm : oprS σ mx = .mp km) (hh : lkh km σ.hp = .map (mpS key val L) c) (ht : P.underlying t = some (.map kt et)) (hK : KeyT P kt key sv) (hi : oprS σ ix = sv k) {ats : Array TypeId} (ha : ats[0]? = some t)
    (h : r ⟨σ.fr, (km, .map (mpS key val (mdel k L)) c) :: σ.hp, σ.n, σ.N, σ.gs⟩ K) :
    RAW P none (.call { callee := .builtin .delete, args := #[mx, ix], argTypes := ats }) ty σ r K := by
  intro o C E a w next Q e1 e2 e3 hS hn hq
  have hmv := opr_R hS hm (fun _ _ _ => by simp)
  have hiv := (hK.svR k _).1 (opr_R hS hi (svR_ng hK k))
  simp only [R] at hmv
  obtain ⟨g0, ys, g1, g2⟩ := map_of hS hh
  have hfn := fun w => hK.fnd k _ _ w (RM_keys g2)
  have hex : ∀ w', (Builtin.delete_ ats ty #[a.eval mx, a.eval ix]).run P w = .ok (.tuple #[]) w' → (execOp a.eval o).run P w = .ok (.value (.tuple #[])) w' := fun w' hy => by
    obtain ⟨dst', op', ty', pos, after, guard⟩ := o
    simp only at e2 e3; subst e2; subst e3
    simp [execOp, resolve, invoke, builtin, hy]
  have hfin : ∀ ys' : Array MapEntry, (∀ {w' : World} {ok' : Nat → Prop}, RM w' E (ltn σ.n) ok' (mpS key val L) ys.toList → RM w' E (ltn σ.n) ok' (mpS key val (mdel k L)) ys'.toList) →
      next (a.put o.dst (.tuple #[])) (wset w (E.β km) (.map ys' c)) := fun ys' hRM => by
    obtain ⟨q1, q2⟩ := HSim_obj (k := km) (hb := .map (mpS key val (mdel k L)) c) (o := .map ys' c) hS.hs (fun b => by rw [hh]; simp only [occ]) (fun b => by simp only [occ]) (fun hlt hst => by
      simp only [HBok]
      exact ⟨ys', wset_same hlt, hRM (RM_mono hst.c (fun _ _ => Ele.rfl) (fun _ h => h) _ _ g2)⟩)
    rw [e1]
    exact hn _ E _ _ h (Sim_same hS q2 (fun _ _ => Ele.rfl) (Nat.le_refl _) q1)
  rcases fI_spec (w := w) (E := E) (n := ltn σ.n) (ok := okS C E σ.hp) k L ys.toList 0 g2 with ⟨a1, a2, a3, -⟩ | ⟨j, v0, e, b1, b2, b3, b4, b5, b6⟩
  · have hrun : (Builtin.delete_ ats ty #[a.eval mx, a.eval ix]).run P w = .ok (.tuple #[]) (wset w (E.β km) (.map ys c)) := by
      rw [hmv.2, hiv]
      simp [Builtin.delete_, Sem.run_bind, ha, run_underlying ht, Result.andThen_ok, run_getO g1 rfl, Sem.run_pure, hK.chk, hfn, a2, run_setO _ g1 rfl]
    refine wpq_res (hex _ hrun) (by simp) ?_
    show next (a.put o.dst _) _
    exact hfin _ fun h1 => by rw [a3]; exact h1
  · rw [Nat.zero_add] at b2
    have hlt : j < ys.size := by
      have : ys[j]? = some e := by simpa using b3
      exact (Array.getElem?_eq_some_iff.1 this).1
    have hrun : (Builtin.delete_ ats ty #[a.eval mx, a.eval ix]).run P w = .ok (.tuple #[]) (wset w (E.β km) (.map (ys.eraseIdxIfInBounds j) c)) := by
      rw [hmv.2, hiv]
      simp [Builtin.delete_, Sem.run_bind, ha, run_underlying ht, Result.andThen_ok, run_getO g1 rfl, Sem.run_pure, hK.chk, hfn, b2, run_setO _ g1 rfl]
    refine wpq_res (hex _ hrun) (by simp) ?_
    show next (a.put o.dst _) _
    exact hfin _ fun {w' ok'} h1 => by
      have : (ys.eraseIdxIfInBounds j).toList = ys.toList.eraseIdx j := by simp [Array.eraseIdxIfInBounds, hlt]
      rw [this]; exact (b6 h1).1
theorem raw_mlen {es : List (Nat × Value × SV)} (hm : oprS σ mx = .mp km) (hh : lkh km σ.hp = .map es c) (ht : P.underlying t = some (.map kt et)) {ats : Array TypeId} (ha : ats[0]? = some t)
    (h : putK d (.v (.int .i64 es.length)) none σ r K) : RAW P d (.call { callee := .builtin .len, args := #[mx], argTypes := ats }) ty σ r K := by
  intro o C E a w next Q e1 e2 e3 hS hn hq
  have hmv := opr_R hS hm (fun _ _ _ => by simp)
  simp only [R] at hmv
  obtain ⟨g0, ys, g1, g2⟩ := map_of hS hh
  have hl := RM_len g2
  have hrun : (Builtin.len_ ats ty #[a.eval mx]).run P w = .ok (.int .i64 es.length) w := by
    rw [hmv.2]
    simp [Builtin.len_, Sem.run_bind, ha, run_underlying ht, Result.andThen_ok, run_getO g1 rfl, Sem.run_pure, goInt, ← hl]
  have hx : (execOp a.eval o).run P w = .ok (.value (.int .i64 es.length)) w := by
    obtain ⟨dst', op', ty', pos, after, guard⟩ := o
    simp only at e2 e3; subst e2; subst e3
    simp [execOp, resolve, invoke, builtin, hrun]
  refine wpq_res hx (by simp) ?_
  show next (a.put o.dst _) _
  rw [e1]
  exact put_go0 h hS (by simp only [R]) hn
theorem raw_range {u : Nat} {es : List (Nat × Value × SV)} (hm : oprS σ mx = .mp km) (hh : lkh km σ.hp = .map es c) (ht : P.underlying t = some (.map kt et)) (h1 : memb u σ.gs = false) (h2 : Nat.blt u σ.N = true)
    (h : r ⟨(u, .p σ.n 0) :: σ.fr, (σ.n, .it km c [] c) :: σ.hp, σ.n + 1, σ.N, σ.gs⟩ K) : RAW P (some u) (.range t mx) ty σ r K := by
  intro o C E a w next Q e1 e2 e3 hS hn hq
  have hmv := opr_R hS hm (fun _ _ _ => by simp)
  simp only [R] at hmv
  obtain ⟨g0, ys, g1, g2⟩ := map_of hS hh
  obtain ⟨E', k1, k2, k3, k4⟩ := HSim_newO (q := σ.n) (hb := .it km c [] c) (o := .mapIter (some (E.β km)) c #[] c) hS.hs (by simp [ltn]) (fun E b => by simp only [occ]) (fun E' q1 q2 => by
    simp only [HBok, q2]; exact ⟨.inl g0, by rw [(q1 km g0).1]; exact heap_alloc_new _ _⟩)
  have hV : (fun k => ltn σ.n k ∨ k = σ.n) = ltn (σ.n + 1) := by funext k; simp only [ltn, eq_iff_iff]; omega
  rw [hV] at k3
  have hx : (execOp a.eval o).run P w = .ok (.value (.pointer (some ⟨w.heap.size, 0, none⟩))) (w.alloc (.mapIter (some (E.β km)) c #[] c)) := by
    obtain ⟨dst', op', ty', pos, after, guard⟩ := o
    simp only at e2; subst e2
    simp only [execOp, hmv.2]
    simp [Sem.run_bind, Instr.range, run_underlying ht, run_getO g1 rfl, run_newO, Sem.run_pure]
  refine wpq_res hx (by simp) ?_
  show next (a.put o.dst _) _
  rw [e1]
  refine hn _ E' _ _ h (Sim_put hS k4 k1 (by omega) k3 (fun hh => ?_) (by simpa [Nat.blt_eq] using h2) (fun _ _ _ e => by cases e) ?_)
  · rw [memb_iff.2 hh] at h1; cases h1
  · simp only [R, k2]; exact ⟨by simp [ltn], trivial⟩
theorem run_next0 (w : World) (ty : TypeId) (rr bm since last : Nat) (seen : Array Nat) (es : Array MapEntry) (clock : Nat)
    (hr : w.heap[rr]? = some (.mapIter (some bm) since seen last)) (hb : w.heap[bm]? = some (.map es clock)) (hold : ∀ x ∈ es.toList, x.born < since) (hsc : since ≤ last) :
    ((∀ x ∈ es.toList, seen.contains x.born = true) ∧ (Instr.next (.pointer (some ⟨rr, 0, none⟩)) false ty).run P w = .ok (.tuple #[.bool false]) w) ∨
    ∃ e ∈ es.toList, seen.contains e.born = false ∧ ∃ k, (Instr.next (.pointer (some ⟨rr, 0, none⟩)) false ty).run P w = .ok (.tuple #[.bool true, e.key, e.val]) (wset { w with drawn := k } rr (.mapIter (some bm) since (seen.push e.born) clock)) := by
  have htest : (!seen.isEmpty && !es.isEmpty && es.all (fun x => decide (x.born ≥ last))) = false := by
    rw [Bool.eq_false_iff]
    intro hh
    simp only [Bool.and_eq_true, Bool.not_eq_true'] at hh
    obtain ⟨⟨-, h2⟩, h3⟩ := hh
    have h0 : 0 < es.size := by
      rcases Nat.eq_zero_or_pos es.size with h0 | h0
      · simp [Array.isEmpty, h0] at h2
      · exact h0
    rw [Array.all_eq_true_iff_forall_mem] at h3
    have h4 := h3 _ (Array.getElem_mem h0)
    have h5 := hold es[0] (by simp)
    simp at h4; omega
  have hL : (Array.filter (fun e => !seen.contains e.born) es).filter (fun x => decide (x.born < since)) = Array.filter (fun e => !seen.contains e.born) es :=
    Array.filter_eq_self.2 fun x hx => by
      simp only [Array.mem_filter] at hx; simpa using hold x (by simpa using hx.1)
  have hL2 : (Array.filter (fun e => !seen.contains e.born) es).filter (fun x => decide (x.born ≥ since)) = #[] := by
    rw [Array.filter_eq_empty_iff]
    intro x hx
    simp only [Array.mem_filter] at hx
    have := hold x (by simpa using hx.1)
    simp; omega
  simp only [Instr.next, Sem.run_bind, run_getO hr rfl, run_getO hb rfl, Result.andThen_ok, htest, Bool.false_eq_true, if_false, hL, hL2, Array.append_empty]
  have hmem : ∀ x, x ∈ Array.filter (fun e => !seen.contains e.born) es ↔ x ∈ es.toList ∧ seen.contains x.born = false := fun x => by
    simp [Array.mem_filter]
  generalize hF : Array.filter (fun e => !seen.contains e.born) es = F at hmem ⊢
  by_cases h0 : F.size = 0
  · left
    have hE : F = #[] := Array.eq_empty_of_size_eq_zero h0
    subst hE
    refine ⟨fun x hx => ?_, ?_⟩
    · cases hc : seen.contains x.born with
      | true => rfl
      | false => have := (hmem x).2 ⟨hx, hc⟩; simp at this
    · simp [choose, Sem.run, Question.forced]
  · right
    have hne : F.isEmpty = false := by simp [Array.isEmpty, h0]
    simp only [hne, Bool.false_eq_true, if_false, Array.empty_append, Array.size_map]
    have hch : ∃ (j : Nat) (k : Nat), j < F.size ∧ (choose (Question.mapNext F.size)).run P w = .ok j { w with drawn := k } := by
      by_cases hf : F.size ≤ 1
      · exact ⟨0, w.drawn, by omega, by simp [choose, Sem.run, Question.forced, hf]⟩
      · exact ⟨_, w.drawn + 1, Nat.mod_lt _ (by omega), by
          simp only [choose, Sem.run, Question.forced, decide_eq_true_eq, hf, if_false, Question.cut]
          rfl⟩
    obtain ⟨j, k, hj, hrun⟩ := hch
    have hm := (hmem F[j]).1 (Array.getElem_mem hj)
    refine ⟨F[j], hm.1, hm.2, k, ?_⟩
    have hr1 : ({ w with drawn := k } : World).heap[rr]? = some (.mapIter (some bm) since seen last) := hr
    simp only [hrun, Array.getElem?_map, Array.getElem?_eq_getElem hj, Option.map_some, Sem.run_bind, Result.andThen_ok, run_setO _ hr1 rfl, Sem.run_pure]
theorem raw_next {q since last : Nat} {seen : List Nat} (hm : oprS σ mx = .p q 0) (hq : lkh q σ.hp = .it km since seen last) (hh : lkh km σ.hp = .map (mpS key val L) c) (hold : ∀ e ∈ L, e.1 < since) (hsc : since ≤ last) (hK : KeyT P kt key sv)
    (h0 : (∀ e ∈ L, e.1 ∈ seen) → putK d (.tup [.v (.bool false)]) none σ r K)
    (h1 : ∀ e ∈ L, e.1 ∉ seen → putK d (.tup [.v (.bool true), sv e.2.1, val e.2.2]) none ⟨σ.fr, (q, .it km since (seen ++ [e.1]) c) :: σ.hp, σ.n, σ.N, σ.gs⟩ r K) :
    RAW P d (.next mx false) ty σ r K := by
  intro o C E a w next Q e1 e2 e3 hS hn _
  have hmv := opr_R hS hm (fun _ _ _ => by simp)
  simp only [R] at hmv
  obtain ⟨g0, ys, g1, g2⟩ := map_of hS hh
  have hb := hS.hs.bk q
  rw [hq] at hb
  obtain ⟨-, hit⟩ := hb
  have hex : ∀ y w', (Instr.next (a.eval mx) false ty).run P w = .ok y w' → (execOp a.eval o).run P w = .ok (.value y) w' := fun y w' hy => by
    obtain ⟨dst', op', ty', pos, after, guard⟩ := o
    simp only at e2 e3; subst e2; subst e3
    simp only [execOp, Sem.run_bind, hy, Result.andThen_ok, Sem.run_pure]
  rw [hmv.2] at hex
  rcases run_next0 (P := P) w ty (E.β q) (E.β km) since last seen.toArray ys c hit g1 (fun x hx => by
      obtain ⟨z, hz, z1, z2, z3⟩ := RM_mem g2 x hx
      obtain ⟨e, he, rfl⟩ := List.mem_map.1 hz
      rw [z1]; exact hold e he) hsc with ⟨k1, k2⟩ | ⟨e, k1, k2, k, k3⟩
  · refine wpq_res (hex _ _ k2) (by simp) ?_
    show next (a.put o.dst _) _
    rw [e1]
    refine put_go0 (h0 fun e he => ?_) hS (by simp only [R, RL]; exact ⟨_, rfl, _, _, rfl, rfl, rfl⟩) hn
    obtain ⟨y, hy, hyb⟩ := RM_mem' g2 (e.1, key e.2.1, val e.2.2) (List.mem_map.2 ⟨e, he, rfl⟩)
    have := k1 y hy
    rw [hyb] at this
    simpa using this
  · refine wpq_res (hex _ _ k3) (by simp) ?_
    show next (a.put o.dst _) _
    obtain ⟨z, hz, z1, z2, z3⟩ := RM_mem g2 e k1
    obtain ⟨x, hx, rfl⟩ := List.mem_map.1 hz
    simp only at z1 z2 z3
    have hS' := sim_drawn hS k
    have hqn : ltn σ.n q := by
      rcases Classical.em (ltn σ.n q) with h | h
      · exact h
      · rw [hS.hs.kn q h] at hq; cases hq
    obtain ⟨q1, q2⟩ := HSim_obj (k := q) (hb := .it km since (seen ++ [x.1]) c) (o := .mapIter (some (E.β km)) since (seen.toArray.push e.born) c) hS'.hs (fun b => by rw [hq]; simp only [occ]) (fun b => by simp only [occ]) (fun hlt hst => by
      simp only [HBok]
      refine ⟨g0, ?_⟩
      rw [z1]
      have : (seen ++ [x.1]).toArray = seen.toArray.push x.1 := by simp
      rw [this]
      exact wset_same hlt)
    rw [e1]
    refine put_go (h1 x hx (by rw [z1] at k2; simpa using k2)) hS' q2 (fun _ _ => Ele.rfl) (Nat.le_refl _) q1 ?_ hn
    simp only [R, RL]
    have e4 := (hK.svR (w := wset { w with drawn := k } (E.β q) (.mapIter (some (E.β km)) since (seen.toArray.push e.born) c)) (E := E) (n := ltn σ.n) (ok := okS C E ((q, .it km since (seen ++ [x.1]) c) :: σ.hp)) x.2.1 e.key).2 z2
    have z4 : R { w with drawn := k } E (ltn σ.n) (okS C E σ.hp) (val x.2.2) e.val := R_mono (w := w) (w' := { w with drawn := k }) (ok := okS C E σ.hp) (fun b hb _ => ⟨hb, rfl⟩) (fun _ _ => Ele.rfl) (fun _ h => h) _ _ z3
    exact ⟨_, rfl, _, _, rfl, rfl, _, _, rfl, e4, _, _, rfl, R_mono q2.c (fun _ _ => Ele.rfl) (fun _ h => h) _ _ z4, rfl⟩
/-- what a step over a map has shown, read again -/
theorem raw_entry {q since : Nat} {seen : List Nat} {e : Nat × K' × V} (hm : oprS σ mx = .p q 0) (hq : lkh q σ.hp = .it km since (seen ++ [e.1]) c) (hh : lkh km σ.hp = .map (mpS key val L) c) (he : e ∈ L) (hn : (L.map (·.1)).Nodup) (hK : KeyT P kt key sv)
    (hk : putK d (.tup [sv e.2.1, val e.2.2]) none σ r K) : RAW P d (.entry mx) ty σ r K := by
  intro o C E a w next Q e1 e2 e3 hS hnx _
  have hmv := opr_R hS hm (fun _ _ _ => by simp)
  simp only [R] at hmv
  obtain ⟨g0, ys, g1, g2⟩ := map_of hS hh
  have hb := hS.hs.bk q
  rw [hq] at hb
  obtain ⟨-, hit⟩ := hb
  have hfind : ∀ (L : List (Nat × K' × V)) (ys : List MapEntry), RM w E (ltn σ.n) (okS C E σ.hp) (mpS key val L) ys → e ∈ L → (L.map (·.1)).Nodup → ∃ y, ys.find? (·.born == e.1) = some y ∧ y.key = key e.2.1 ∧ R w E (ltn σ.n) (okS C E σ.hp) (val e.2.2) y.val := by
    intro L
    induction L with
    | nil => intro ys _ he; cases he
    | cons x l ih =>
      intro ys h he hn
      simp only [mpS, List.map_cons, RM] at h
      obtain ⟨y, r, rfl, h1, h2⟩ := h
      simp only [List.map_cons, List.nodup_cons] at hn
      rcases List.mem_cons.1 he with rfl | he
      · exact ⟨⟨key e.2.1, y, e.1⟩, by simp, rfl, h1⟩
      · obtain ⟨y', q1, q2⟩ := ih r h2 he hn.2
        refine ⟨y', ?_, q2⟩
        have : x.1 ≠ e.1 := fun hx => hn.1 (hx ▸ List.mem_map.2 ⟨e, he, rfl⟩)
        simp [this, q1]
  obtain ⟨y, f1, f2, f3⟩ := hfind L ys.toList g2 he hn
  have f1' : ys.find? (·.born == e.1) = some y := by rw [← Array.find?_toList]; exact f1
  have hrun : (Instr.entry (.pointer (some ⟨E.β q, 0, none⟩))).run P w = .ok (.tuple #[y.key, y.val]) w := by
    have : (seen ++ [e.1]).toArray.back? = some e.1 := by simp
    simp only [Instr.entry, Sem.run_bind, run_getO hit rfl, run_getO g1 rfl, Result.andThen_ok, this, bne_self_eq_false, Bool.false_eq_true, if_false, f1', Sem.run_pure]
  have hx : (execOp a.eval o).run P w = .ok (.value (.tuple #[y.key, y.val])) w := by
    obtain ⟨dst', op', ty', pos, after, guard⟩ := o
    simp only at e2; subst e2
    simp only [execOp, Sem.run_bind, hmv.2, hrun, Result.andThen_ok, Sem.run_pure]
  refine wpq_res hx (by simp) ?_
  show next (a.put o.dst _) _
  rw [e1]
  refine put_go0 hk hS ?_ hnx
  simp only [R, RL]
  exact ⟨_, rfl, _, _, rfl, (hK.svR _ _).2 f2, _, _, rfl, f3, rfl⟩
end
section
variable {K V : Type} [DecidableEq K] {k k' : K} {v : V} {c : Nat} {L : List (Nat × K × V)}
structure MW (L : List (Nat × K × V)) (c : Nat) : Prop where
  bn : (L.map (·.1)).Nodup
  bl : ∀ e ∈ L, e.1 < c
  kn : (L.map (·.2.1)).Nodup
omit [DecidableEq K] in
theorem MW.nil {c : Nat} : MW ([] : List (Nat × K × V)) c := ⟨List.nodup_nil, (fun e h => by cases h), List.nodup_nil⟩
theorem mget_mem : ∀ {L : List (Nat × K × V)}, mget k L = some v → ∃ b, (b, k, v) ∈ L
  | [], h => by cases h
  | e :: l, h => by
    simp only [mget] at h
    split at h
    · rename_i hk; cases h; subst hk; exact ⟨e.1, by simp⟩
    · obtain ⟨b, hb⟩ := mget_mem h; exact ⟨b, by simp [hb]⟩
theorem mget_none : ∀ {L : List (Nat × K × V)}, mget k L = none ↔ ∀ e ∈ L, e.2.1 ≠ k
  | [] => by simp [mget]
  | e :: l => by
    simp only [mget]
    split
    · rename_i hk; simp [hk]
    · rename_i hk; rw [mget_none]; simp [hk]
theorem mget_of : ∀ {L : List (Nat × K × V)} {e : Nat × K × V}, (L.map (·.2.1)).Nodup → e ∈ L → mget e.2.1 L = some e.2.2
  | x :: l, e, hn, he => by
    simp only [List.map_cons, List.nodup_cons] at hn
    simp only [mget]
    rcases List.mem_cons.1 he with rfl | he
    · simp
    · rw [if_neg (fun hx : x.2.1 = e.2.1 => hn.1 (by rw [hx]; exact List.mem_map.2 ⟨e, he, rfl⟩))]
      exact mget_of hn.2 he
theorem mget_set : ∀ {L : List (Nat × K × V)}, mget k' (mset c k v L) = if k' = k then some v else mget k' L
  | [] => by simp only [mset, mget]; by_cases h : k = k' <;> simp [h, eq_comm]
  | e :: l => by
    simp only [mset]
    by_cases he : e.2.1 = k
    · rw [if_pos he]
      simp only [mget]
      by_cases hk : k = k'
      · subst hk; simp
      · rw [if_neg hk, if_neg (fun h => hk h.symm), if_neg (fun h => hk (he.symm.trans h))]
    · rw [if_neg he]
      simp only [mget]
      by_cases hk : e.2.1 = k'
      · rw [if_pos hk, if_neg (fun h => he (hk.trans h)), if_pos hk]
      · rw [if_neg hk, if_neg hk, mget_set]
theorem mset_new : ∀ {L : List (Nat × K × V)}, mget k L = none → mset c k v L = L ++ [(c, k, v)]
  | [], _ => rfl
  | e :: l, h => by
    simp only [mget] at h
    split at h
    · cases h
    · rename_i he; simp only [mset, if_neg he, mset_new h, List.cons_append]
theorem mset_map : ∀ {L : List (Nat × K × V)}, (mget k L).isSome → (mset c k v L).map (fun e => (e.1, e.2.1)) = L.map fun e => (e.1, e.2.1)
  | [], h => by simp [mget] at h
  | e :: l, h => by
    simp only [mget] at h
    simp only [mset]
    split
    · rename_i he; simp [he]
    · rename_i he; rw [if_neg he] at h; simp [mset_map h]
theorem MW.set (h : MW L c) (v : V) : MW (mset c k v L) (mclk c k L) := by
  cases hg : mget k L with
  | none =>
    have hc : mclk c k L = c + 1 := by simp [mclk, hg]
    rw [mset_new hg, hc]
    have hk := mget_none.1 hg
    refine ⟨?_, fun e he => ?_, ?_⟩
    · rw [List.map_append, List.nodup_append]
      refine ⟨h.bn, by simp, fun a ha b hb => ?_⟩
      obtain ⟨e, he, rfl⟩ := List.mem_map.1 ha
      simp only [List.map_cons, List.map_nil, List.mem_singleton] at hb
      have := h.bl e he; omega
    · rcases List.mem_append.1 he with he | he
      · have := h.bl e he; omega
      · simp only [List.mem_singleton] at he; subst he; simp
    · rw [List.map_append, List.nodup_append]
      refine ⟨h.kn, by simp, fun a ha b hb => ?_⟩
      obtain ⟨e, he, rfl⟩ := List.mem_map.1 ha
      simp only [List.map_cons, List.map_nil, List.mem_singleton] at hb
      rw [hb]; exact hk e he
  | some v0 =>
    have hc : mclk c k L = c := by simp [mclk, hg]
    have hm := mset_map (c := c) (v := v) (k := k) (L := L) (by rw [hg]; rfl)
    have e1 : (mset c k v L).map (·.1) = L.map (·.1) := by
      have := congrArg (List.map Prod.fst) hm; simpa [List.map_map, Function.comp_def] using this
    have e2 : (mset c k v L).map (·.2.1) = L.map (·.2.1) := by
      have := congrArg (List.map Prod.snd) hm; simpa [List.map_map, Function.comp_def] using this
    rw [hc]
    refine ⟨by rw [e1]; exact h.bn, fun e he => ?_, by rw [e2]; exact h.kn⟩
    have : e.1 ∈ L.map (·.1) := by rw [← e1]; exact List.mem_map.2 ⟨e, he, rfl⟩
    obtain ⟨x, hx, hxe⟩ := List.mem_map.1 this
    rw [← hxe]; exact h.bl x hx
theorem mdel_sub : ∀ {L : List (Nat × K × V)}, (mdel k L).Sublist L
  | [] => .slnil
  | e :: l => by
    simp only [mdel]
    split
    · exact List.sublist_cons_self _ _
    · exact mdel_sub.cons_cons _
theorem MW.del (h : MW L c) : MW (mdel k L) c := ⟨(mdel_sub.map _).nodup h.bn, fun e he => h.bl e (mdel_sub.subset he), (mdel_sub.map _).nodup h.kn⟩
theorem mget_del : ∀ {L : List (Nat × K × V)}, (L.map (·.2.1)).Nodup → mget k' (mdel k L) = if k' = k then none else mget k' L
  | [], _ => by simp [mdel, mget]
  | e :: l, hn => by
    simp only [List.map_cons, List.nodup_cons] at hn
    simp only [mdel]
    by_cases he : e.2.1 = k
    · rw [if_pos he]
      by_cases hk : k' = k
      · rw [if_pos hk, mget_none]
        intro x hx hxe
        exact hn.1 (by rw [he, ← hk, ← hxe]; exact List.mem_map.2 ⟨x, hx, rfl⟩)
      · rw [if_neg hk]; simp only [mget]; rw [if_neg (fun h => hk (h.symm.trans he))]
    · rw [if_neg he]
      simp only [mget]
      by_cases hk : e.2.1 = k'
      · rw [if_pos hk, if_pos hk, if_neg (fun h => he (hk.trans h))]
      · rw [if_neg hk, if_neg hk, mget_del hn.2]
theorem mdel_len : ∀ {L : List (Nat × K × V)}, (mget k L).isSome → (mdel k L).length + 1 = L.length
  | [], h => by simp [mget] at h
  | e :: l, h => by
    simp only [mget] at h
    simp only [mdel]
    split
    · simp
    · rename_i he; rw [if_neg he] at h; simp [mdel_len h]
omit [DecidableEq K] in
theorem mpS_kf {key : K → Value} {val : V → SV} : (∀ e ∈ mpS key val L, KF e.2.2) ↔ ∀ v ∈ L.map (·.2.2), KF (val v) := by
  simp only [mpS, List.mem_map]
  exact ⟨fun h v ⟨e, he, hv⟩ => hv ▸ h _ ⟨e, he, rfl⟩, fun h _ ⟨e, he, hx⟩ => hx ▸ h _ ⟨e, he, rfl⟩⟩
omit [DecidableEq K] in
theorem mpS_kf3 {key : K → Value} {val : V → SV} : (∀ (a : Nat) (b : Value) (c : SV), (a, b, c) ∈ mpS key val L → KF c) ↔ ∀ v ∈ L.map (·.2.2), KF (val v) := by
  rw [← mpS_kf (key := key)]
  exact ⟨fun h e he => h e.1 e.2.1 e.2.2 he, fun h a b c he => h _ he⟩
omit [DecidableEq K] in
/-- entries that a walk has not shown yet -/
def leftN (L : List (Nat × K × V)) (seen : List Nat) : Nat := (L.filter fun e => !seen.contains e.1).length
omit [DecidableEq K] in
theorem leftN_lt {e : Nat × K × V} {seen : List Nat} (he : e ∈ L) (hs : e.1 ∉ seen) : leftN L (seen ++ [e.1]) < leftN L seen := by
  unfold leftN
  have hsub : (L.filter fun x => !(seen ++ [e.1]).contains x.1) = (L.filter fun x => !seen.contains x.1).filter fun x => !(x.1 == e.1) := by
    rw [List.filter_filter]
    congr 1; funext x
    simp only [List.contains_append, Bool.not_or]
    rw [Bool.and_comm]
    congr 1
    simp only [List.contains_cons, List.contains_nil, Bool.or_false]
  rw [hsub]
  refine Nat.lt_of_le_of_ne (List.length_filter_le _ _) fun h => ?_
  have := List.length_filter_eq_length_iff.1 h e (by simp [he, hs])
  simp at this
end
end Go.Sx
set_option maxRecDepth 100000
set_option maxHeartbeats 4000000
namespace Go.Azalai
open Go.Sx
def dv (d : List Int) (v : Int) : Int := if 0 ≤ v then d.getD v.toNat 100001 else 100001
theorem dv_get {d : List Int} {i : Nat} (h : i < d.length) : dv d i = d[i] := by simp [dv, h]
theorem dv_out {d : List Int} {v : Int} (h : ¬ (0 ≤ v ∧ v < d.length)) : dv d v = 100001 := by
  unfold dv
  split
  · have : ¬ v.toNat < d.length := by omega
    simp [List.getD_eq_getElem?_getD, List.getElem?_eq_none (Nat.le_of_not_lt this)]
  · rfl
theorem dv_set {d : List Int} {i : Nat} {x v : Int} (h : i < d.length) : dv (d.set i x) v = if v = i then x else dv d v := by
  unfold dv
  by_cases hv : 0 ≤ v
  · rw [if_pos hv, if_pos hv]
    by_cases he : v = i
    · subst he; simp [h]
    · rw [if_neg he]
      have : i ≠ v.toNat := by omega
      simp [List.getD_eq_getElem?_getD, this]
  · rw [if_neg hv, if_neg hv, if_neg (by omega)]
/-- days that are gone from a well and a day on -/
structure Gone (k : Bool) (l : Land) (p : Span) (s day : Int) (d : List Int) : Prop where
  len : d.length = l.wells.length
  ub : ∀ v, dv d v ≤ 100001
  real : ∀ v, dv d v = 100001 ∨ ∃ a, goW k l p s day a = some (v, dv d v)
  st : dv d s ≤ day
theorem Gone.lb {k : Bool} {l : Land} {p : Span} {s day : Int} {d : List Int} (h : Gone k l p s day d) (hg : OkLP l p) (hd : 0 ≤ day) (hd' : day ≤ 100000) (h0 : 0 ≤ s) (h1 : s < l.wells.length) (v : Int) : day ≤ dv d v := by
  rcases h.real v with e | ⟨a, e⟩
  · omega
  · have := goW_bd hg e hd' h0 h1; omega
/-- a leg makes the days at a well less -/
theorem Gone.relax {k : Bool} {l : Land} {p : Span} {s day : Int} {d : List Int} (h : Gone k l p s day d) (hg : OkLP l p) {i : Nat} {x : Leg} (hx : l.legs[i]? = some x) {v : Int} {w : Nat} (hw : otherF x v = w) (hd : 0 ≤ day) (hd' : day ≤ 100000) (h0 : 0 ≤ s) (h1 : s < l.wells.length) :
    Gone k l p s day (d.set w (min (dv d w) (arrK k x p (dv d v)))) ∧ w < d.length := by
  have hwl := (otherF_in hg hx (v := v) (by omega)).1
  have hwd : w < d.length := by rw [h.len]; omega
  refine ⟨⟨by simp [h.len], fun u => ?_, fun u => ?_, ?_⟩, hwd⟩
  · rw [dv_set hwd]; split
    · have := h.ub w; omega
    · exact h.ub u
  · rw [dv_set hwd]; split
    · rename_i hu
      by_cases hr : arrK k x p (dv d v) > 100000
      · have := h.ub w
        have hb := arrK_bd (k := k) (hg.leg hx) hg.pace (h.ub v)
        rw [show min (dv d w) (arrK k x p (dv d v)) = dv d w by omega, hu]
        exact h.real w
      · by_cases hm : dv d w ≤ arrK k x p (dv d v)
        · rw [Int.min_eq_left hm, hu]; exact h.real w
        · rw [Int.min_eq_right (by omega), hu]
          have hb := arrK_bd (k := k) (hg.leg hx) hg.pace (h.ub v)
          rcases h.real v with e | ⟨a, e⟩
          · omega
          · refine .inr ⟨a ++ [i], ?_⟩
            have := goW_snoc e hx (by omega) hr
            rw [hw] at this; exact this
    · exact h.real u
  · rw [dv_set hwd]; split
    · rename_i hs; have := h.st; rw [hs] at this; omega
    · exact h.st
/-- wells that are done, of days that are gone: no leg from them makes days less, and no other well is sooner -/
structure Dij (k : Bool) (l : Land) (p : Span) (s day : Int) (d : List Int) (left : Int → Prop) : Prop where
  g : Gone k l p s day d
  cl : ∀ x ∈ l.legs, ∀ v : Int, 0 ≤ v → v < l.wells.length → ¬ left v → 0 ≤ otherF x v → dv d (otherF x v) ≤ arrK k x p (dv d v)
  or : ∀ u v : Int, 0 ≤ u → u < l.wells.length → ¬ left u → 0 ≤ v → v < l.wells.length → left v → dv d u ≤ dv d v
theorem Dij.done {k : Bool} {l : Land} {p : Span} {s day : Int} {d : List Int} {left : Int → Prop} (h : Dij k l p s day d left) (hg : OkLP l p) (he : ∀ v, ¬ left v) (hd : 0 ≤ day) (hd' : day ≤ 100000) (h0 : 0 ≤ s) (h1 : s < l.wells.length) : d = reachF k l p s day := by
  have hc : Closed k l p (dv d) := fun x hx => by
    have hen := hg.ends hx
    have q1 := h.cl x hx x.a hen.1.1 hen.1.2 (he _) (by simp [otherF]; omega)
    have q2 := h.cl x hx x.b hen.2.1.1 hen.2.1.2 (he _) (by simp [otherF, hen.2.2]; omega)
    simp only [otherF, if_true] at q1
    simp only [otherF, if_neg hen.2.2, if_true] at q2
    exact ⟨q1, q2⟩
  have heq := reach_eq (k := k) hg hd hd' h0 h1 h.g.st hc h.g.ub h.g.real
  refine List.ext_getElem (by simp [reachF, h.g.len]) fun i hi hi' => ?_
  simp only [reachF, List.getElem_map, List.getElem_range]
  rw [← heq, dv_get hi]
/-- one round: from the nearest well that is left, legs up to one are gone -/
structure Rnd (k : Bool) (l : Land) (p : Span) (s day : Int) (d0 d : List Int) (near : Int) (j : Nat) : Prop where
  g : Gone k l p s day d
  le : ∀ v, dv d v ≤ dv d0 v
  ch : ∀ v, dv d v = dv d0 v ∨ dv d0 near ≤ dv d v
  nr : dv d near = dv d0 near
  cl : ∀ i x, i < j → l.legs[i]? = some x → 0 ≤ otherF x near → dv d (otherF x near) ≤ arrK k x p (dv d0 near)
theorem Rnd.start {k : Bool} {l : Land} {p : Span} {s day : Int} {d : List Int} {near : Int} (h : Gone k l p s day d) : Rnd k l p s day d d near 0 :=
  ⟨h, fun _ => Int.le_refl _, fun _ => .inl rfl, rfl, fun i x hi => by omega⟩
theorem Rnd.skip {k : Bool} {l : Land} {p : Span} {s day : Int} {d0 d : List Int} {near : Int} {j : Nat} (h : Rnd k l p s day d0 d near j) {x : Leg} (hx : l.legs[j]? = some x) (ho : otherF x near < 0) : Rnd k l p s day d0 d near (j + 1) :=
  ⟨h.g, h.le, h.ch, h.nr, fun i y hi hy h0 => by
    by_cases he : i = j
    · subst he; rw [hx] at hy; cases hy; omega
    · exact h.cl i y (by omega) hy h0⟩
theorem Rnd.step {k : Bool} {l : Land} {p : Span} {s day : Int} {d0 d : List Int} {near : Int} {j : Nat} (h : Rnd k l p s day d0 d near j) (hg : OkLP l p) {x : Leg} (hx : l.legs[j]? = some x) {w : Nat} (hw : otherF x near = w) (hd : 0 ≤ day) (hd' : day ≤ 100000) (h0 : 0 ≤ s) (h1 : s < l.wells.length) :
    Rnd k l p s day d0 (d.set w (min (dv d w) (arrK k x p (dv d near)))) near (j + 1) := by
  obtain ⟨q1, q2⟩ := h.g.relax hg hx hw hd hd' h0 h1
  have hge := arrK_ge (k := k) (hg.leg hx) hg.pace (h.g.ub near)
  have hwn : (w : Int) ≠ near := fun e => by
    have := hg.ends (List.mem_of_getElem? hx)
    unfold otherF at hw
    split at hw
    · omega
    · split at hw
      · omega
      · omega
  rw [h.nr] at hge
  refine ⟨q1, fun v => ?_, fun v => ?_, ?_, fun i y hi hy ho => ?_⟩
  · rw [dv_set q2]; split
    · rename_i hv; have := h.le w; rw [hv]; omega
    · exact h.le v
  · rw [dv_set q2]; split
    · rename_i hv; rw [hv, h.nr]
      have := h.ch w
      have := h.le w
      omega
    · exact h.ch v
  · rw [dv_set q2, if_neg (fun e => hwn e.symm)]; exact h.nr
  · rw [dv_set q2]
    by_cases he : i = j
    · subst he; rw [hx] at hy; cases hy; rw [if_pos hw, h.nr]; omega
    · have := h.cl i y (by omega) hy ho
      split
      · rename_i hv; rw [hv] at this; omega
      · exact this
theorem Rnd.finish {k : Bool} {l : Land} {p : Span} {s day : Int} {d0 d : List Int} {near : Int} {left left' : Int → Prop} (hD : Dij k l p s day d0 left) (h : Rnd k l p s day d0 d near l.legs.length) (hn : left near) (hn0 : 0 ≤ near) (hn1 : near < l.wells.length)
    (hmin : ∀ v : Int, 0 ≤ v → v < l.wells.length → left v → dv d0 near ≤ dv d0 v) (hl : ∀ v, left' v ↔ left v ∧ v ≠ near) (hg : OkLP l p) : Dij k l p s day d left' := by
  have keep : ∀ u : Int, 0 ≤ u → u < l.wells.length → ¬ left' u → dv d u = dv d0 u := fun u q1 q2 q3 => by
    by_cases he : u = near
    · rw [he]; exact h.nr
    · have hnl : ¬ left u := fun hh => q3 ((hl u).2 ⟨hh, he⟩)
      have := hD.or u near q1 q2 hnl hn0 hn1 hn
      have := h.ch u
      have := h.le u
      omega
  refine ⟨h.g, fun x hx v q1 q2 q3 ho => ?_, fun u v q1 q2 q3 q4 q5 q6 => ?_⟩
  · by_cases he : v = near
    · subst he
      obtain ⟨i, hi⟩ := List.mem_iff_getElem?.1 hx
      have := h.cl i x (by rcases List.getElem?_eq_some_iff.1 hi with ⟨a, _⟩; exact a) hi ho
      rw [keep _ q1 q2 q3]; exact this
    · have hnl : ¬ left v := fun hh => q3 ((hl v).2 ⟨hh, he⟩)
      have := hD.cl x hx v q1 q2 hnl ho
      rw [keep v q1 q2 q3]
      have := h.le (otherF x v)
      omega
  · rw [keep u q1 q2 q3]
    have hv := (hl v).1 q6
    have hun : dv d0 u ≤ dv d0 near := by
      by_cases he : u = near
      · rw [he]; omega
      · exact hD.or u near q1 q2 (fun hh => q3 ((hl u).2 ⟨hh, he⟩)) hn0 hn1 hn
    have := hmin v q4 q5 hv.1
    have := h.ch v
    omega
theorem gone_start {k : Bool} {l : Land} {p : Span} {s : Nat} {day : Int} (hs : s < l.wells.length) (hd : day ≤ 100000) : Gone k l p s day ((List.replicate l.wells.length 100001).set s day) := by
  have hl : s < (List.replicate l.wells.length (100001 : Int)).length := by simpa using hs
  have hz : ∀ v, dv (List.replicate l.wells.length (100001 : Int)) v = 100001 := fun v => by
    unfold dv
    split
    · simp only [List.getD_eq_getElem?_getD, List.getElem?_replicate]; split <;> rfl
    · rfl
  refine ⟨by simp, fun v => ?_, fun v => ?_, ?_⟩
  · rw [dv_set hl, hz]; split <;> omega
  · rw [dv_set hl, hz]; split
    · rename_i hv; exact .inr ⟨[], by rw [hv]; rfl⟩
    · exact .inl rfl
  · rw [dv_set hl, if_pos rfl]; exact Int.le_refl _
theorem dij_start {k : Bool} {l : Land} {p : Span} {s day : Int} {d : List Int} {left : Int → Prop} (h : Gone k l p s day d) (hl : ∀ v : Int, 0 ≤ v → v < l.wells.length → left v) : Dij k l p s day d left :=
  ⟨h, fun _ _ v h0 h1 hn => absurd (hl v h0 h1) hn, fun u _ h0 h1 hn => absurd (hl u h0 h1) hn⟩
end Go.Azalai
set_option maxRecDepth 100000
set_option maxHeartbeats 4000000
namespace Go.Proofs.Ytkjldleglbbkeaa
open Go Go.Sx Go.Azalai
theorem u99 : Try.prog.underlying 99 = some (.map 3 4) := by kernel_rfl
theorem u3 : Try.prog.underlying 3 = some (.int .i64) := by kernel_rfl
theorem key3 : KeyT Try.prog 3 (fun n : Int => .int .i64 n) (fun n => .v (.int .i64 n)) := keyInt u3
abbrev kI : Int → Value := fun n => .int .i64 n
abbrev sI : Int → SV := fun n => .v (.int .i64 n)
def mpR (n : Nat) : List (Nat × Int × Bool) := (List.range n).map fun j => (j, (j : Int), true)
theorem mpR_succ (n : Nat) : mset n (n : Int) true (mpR n) = mpR (n + 1) ∧ mclk n (n : Int) (mpR n) = n + 1 := by
  have h : mget (n : Int) (mpR n) = none := by
    rw [mget_none]
    intro e he
    simp only [mpR, List.mem_map, List.mem_range] at he
    obtain ⟨j, hj, rfl⟩ := he
    simp only; omega
  rw [mset_new h]
  exact ⟨by simp [mpR, List.range_succ], by simp [mclk, h]⟩
theorem mpR_MW (n : Nat) : MW (mpR n) n := by
  induction n with
  | zero => exact MW.nil
  | succ n ih =>
    have := ih.set (k := (n : Int)) true
    rw [(mpR_succ n).1, (mpR_succ n).2] at this
    exact this
theorem inj_of_nodup {K V : Type} {L : List (Nat × K × V)} (h : (L.map (·.1)).Nodup) {e e' : Nat × K × V} (he : e ∈ L) (he' : e' ∈ L) (hb : e.1 = e'.1) : e = e' := by
  induction L with
  | nil => cases he
  | cons x l ih =>
    simp only [List.map_cons, List.nodup_cons] at h
    rcases List.mem_cons.1 he with h1 | h1 <;> rcases List.mem_cons.1 he' with h2 | h2
    · rw [h1, h2]
    · exact absurd (by rw [← h1, hb]; exact List.mem_map.2 ⟨e', h2, rfl⟩) h.1
    · exact absurd (by rw [← h2, ← hb]; exact List.mem_map.2 ⟨e, h1, rfl⟩) h.1
    · exact ih h.2 h1 h2
theorem reach_ok (l : Land) (p : Span) (hs : Small l) (hg : OkLP l p) (s : Nat) (hsl : s < l.wells.length) (day : Int) (hd : inR 0 100000 day = true) (k : Bool) :
    Ct Try.prog 83 [.agg (carL l p), I s, I day, I (bif k then 1 else 0)] (.sl false 1 ((reachF k l p s day).map intL)) := by
  refine t83 (by simp [carL, wellL, legL, gateL, KFR_iff, KFL, KF]) (by simp [KFR_iff, intL, KFL, KF]) ?_
  simp only [inR, decide_eq_true_eq] at hd
  have hw := hs.1
  have hleg := hs.2.1
  generalize hkk : (bif k then (1 : Int) else 0) = kk
  have hkk' : kk = ((bif k then 1 else 0 : Nat) : Int) := by cases k <;> simp [← hkk]
  dsimp only [c83, r83, carL, go_sem, Nat.reduceAdd, Nat.reduceMul, Nat.reduceSub]
  simp only [List.length_map]
  refine callmL [] (repi_ok 100001 l.wells.length (by omega) hw true) rfl rfl rfl ?_ ?_ ?_
  · exact mtL_same (by simp [KFR, KFL, KF])
  · trivial
  dsimp only [go_sem, Nat.reduceAdd, Nat.reduceMul, Nat.reduceSub]
  rw [show List.replicate l.wells.length [I 100001] = (List.replicate l.wells.length (100001 : Int)).map intL by simp [intL]]
  refine ixrm s rfl (by simpa using hsl) ?_
  dsimp only [go_sem, Nat.reduceAdd, Nat.reduceMul, Nat.reduceSub]
  refine strm day (by simpa using hsl) (by simp [intL]) (by simp [intL, splice]) ?_
  dsimp only [go_sem, Nat.reduceAdd, Nat.reduceMul, Nat.reduceSub]
  refine raw_mkmap rfl rfl rfl ?_
  dsimp only [go_sem, Nat.reduceAdd, Nat.reduceMul, Nat.reduceSub]
  have hgo := gone_start (k := k) (l := l) (p := p) (s := s) (day := day) hsl hd.2
  generalize (List.replicate l.wells.length (100001 : Int)).set s day = d0 at hgo
  have hlen := hgo.len
  simp only [List.length_map, hlen]
  refine loopO (fun j : Nat => [(29, I j)]) (fun j => [(4, .map (mpS kI B (mpR j)) j)]) (fun j => j ≤ l.wells.length) (fun j => l.wells.length - j) 0 (Nat.zero_le _) ?_ ?_
  · (refine ent_id ?_ ?_ ?_ rfl rfl <;> dsimp only [carL, wellL, legL, gateL, intL, mpS, mpR, id, go_sem, Nat.reduceAdd, Nat.reduceMul, Nat.reduceSub] <;> simp [carL, wellL, legL, gateL, intL, mpS, mpR, KFR_iff, KFR_app, KFR, KFL, KF, mtL_same, mtO, Nat.beq_refl])
  · intro j hj
    dsimp only [go_sem, Nat.reduceAdd, Nat.reduceMul, Nat.reduceSub]
    by_cases hlt : j < l.wells.length
    · refine br_t (by simpa using hlt) ?_
      dsimp only [go_sem, Nat.reduceAdd, Nat.reduceMul, Nat.reduceSub]
      refine raw_set (ins := false) (key := kI) (val := B) (L := mpR j) (k := (j : Int)) (v := true) rfl rfl u99 key3 rfl rfl (by simp) ?_
      dsimp only [go_sem, Nat.reduceAdd, Nat.reduceMul, Nat.reduceSub]
      rw [(mpR_succ j).1, (mpR_succ j).2, w64_in (n := (j : Int) + 1) (by omega) (by omega)]
      refine ⟨j + 1, hlt, by omega, ?_⟩
      (refine ent_id ?_ ?_ ?_ rfl rfl <;> dsimp only [carL, wellL, legL, gateL, intL, mpS, mpR, id, go_sem, Nat.reduceAdd, Nat.reduceMul, Nat.reduceSub] <;> simp [carL, wellL, legL, gateL, intL, mpS, mpR, KFR_iff, KFR_app, KFR, KFL, KF, mtL_same, mtO, Nat.beq_refl])
    refine br_f (by simp; omega) ?_
    dsimp only [go_sem, Nat.reduceAdd, Nat.reduceMul, Nat.reduceSub]
    have hje : j = l.wells.length := by omega
    subst hje
    have hmem0 : ∀ v : Int, 0 ≤ v → v < l.wells.length → (mget v (mpR l.wells.length)).isSome = true := fun v h0 h1 => by
      cases hq : mget v (mpR l.wells.length) with
      | some _ => rfl
      | none =>
        have := mget_none.1 hq (v.toNat, v, true) (by simp only [mpR, List.mem_map, List.mem_range]; exact ⟨v.toNat, by omega, by simp; omega⟩)
        exact absurd rfl this
    refine loopO (fun _ : List Int × List (Nat × Int × Bool) => []) (fun q => [(2, .row 0 1 (q.1.map intL) 3), (4, .map (mpS kI B q.2) l.wells.length)])
      (fun q => Dij k l p s day q.1 (fun v => (mget v q.2).isSome = true) ∧ MW q.2 l.wells.length ∧ ∀ e ∈ q.2, 0 ≤ e.2.1 ∧ e.2.1 < l.wells.length) (fun q => q.2.length) (d0, mpR l.wells.length)
      ⟨dij_start hgo hmem0, mpR_MW _, fun e he => (by simp only [mpR, List.mem_map, List.mem_range] at he; obtain ⟨i, hi, rfl⟩ := he; simp only; omega)⟩ ?_ ?_
    · (refine ent_id ?_ ?_ ?_ rfl rfl <;> dsimp only [carL, wellL, legL, gateL, intL, mpS_kf, mpS_kf3, id, go_sem, Nat.reduceAdd, Nat.reduceMul, Nat.reduceSub] <;> simp [carL, wellL, legL, gateL, intL, mpS_kf, mpS_kf3, KFR_iff, KFR_app, KFR, KFL, KF, mtL_same, mtO, Nat.beq_refl])
    rintro ⟨d, L⟩ ⟨hD, hM, hb⟩
    simp only at hD hM hb
    have hdl := hD.g.len
    dsimp only [go_sem, Nat.reduceAdd, Nat.reduceMul, Nat.reduceSub]
    refine raw_mlen rfl rfl u99 rfl ?_
    dsimp only [go_sem, Nat.reduceAdd, Nat.reduceMul, Nat.reduceSub]
    by_cases hL : L = []
    · subst hL
      refine br_f (by simp [mpS]) ?_
      dsimp only [go_sem, Nat.reduceAdd, Nat.reduceMul, Nat.reduceSub]
      have := hD.done hg (fun v => by simp [mget]) hd.1 hd.2 (by omega) (by omega)
      rw [this]
    refine br_t (by simp [mpS, List.length_pos_iff.2 hL]) ?_
    dsimp only [go_sem, Nat.reduceAdd, Nat.reduceMul, Nat.reduceSub]
    refine raw_range rfl rfl u99 rfl rfl ?_
    dsimp only [go_sem, Nat.reduceAdd, Nat.reduceMul, Nat.reduceSub]
    have hd0 : ∀ v, 0 ≤ dv d v ∧ dv d v ≤ 100001 := fun v => ⟨by have := hD.g.lb hg hd.1 hd.2 (by omega) (by omega) v; omega, hD.g.ub v⟩
    refine loopO (fun _ : List Nat × Int => []) (fun q => [(5, .cells [I q.2] 3), (6, .it 4 l.wells.length q.1 l.wells.length)])
      (fun q => (q.2 = -1 ∧ ∀ e ∈ L, e.1 ∉ q.1) ∨ (0 ≤ q.2 ∧ q.2 < l.wells.length ∧ (mget q.2 L).isSome = true ∧ ∀ e ∈ L, e.1 ∈ q.1 → dv d q.2 < dv d e.2.1 ∨ dv d q.2 = dv d e.2.1 ∧ q.2 ≤ e.2.1))
      (fun q => leftN L q.1) ([], -1) (.inl ⟨rfl, by simp⟩) ?_ ?_
    · (refine ent_id ?_ ?_ ?_ rfl rfl <;> dsimp only [carL, wellL, legL, gateL, intL, mpS_kf, mpS_kf3, id, go_sem, Nat.reduceAdd, Nat.reduceMul, Nat.reduceSub] <;> simp [carL, wellL, legL, gateL, intL, mpS_kf, mpS_kf3, KFR_iff, KFR_app, KFR, KFL, KF, mtL_same, mtO, Nat.beq_refl])
    rintro ⟨seen, near⟩ hi
    simp only at hi
    dsimp only [go_sem, Nat.reduceAdd, Nat.reduceMul, Nat.reduceSub]
    refine raw_next (key := kI) (sv := sI) (val := B) (L := L) (c := l.wells.length) rfl rfl rfl hM.bl (Nat.le_refl _) key3 ?_ ?_
    · intro hall
      dsimp only [go_sem, Nat.reduceAdd, Nat.reduceMul, Nat.reduceSub]
      refine br_f rfl ?_
      dsimp only [go_sem, Nat.reduceAdd, Nat.reduceMul, Nat.reduceSub]
      have hnn : (0 ≤ near ∧ near < l.wells.length ∧ (mget near L).isSome = true ∧ ∀ e ∈ L, e.1 ∈ seen → dv d near < dv d e.2.1 ∨ dv d near = dv d e.2.1 ∧ near ≤ e.2.1) := by
        rcases hi with ⟨_, hi⟩ | hi
        · obtain ⟨e, he⟩ := List.exists_mem_of_ne_nil _ hL
          exact absurd (hall e he) (hi e he)
        · exact hi
      obtain ⟨hn0, hn1, hn2, hn3⟩ := hnn
      have hmin : ∀ v : Int, 0 ≤ v → v < l.wells.length → (mget v L).isSome = true → dv d near ≤ dv d v := fun v _ _ hv => by
        obtain ⟨y, hy⟩ := Option.isSome_iff_exists.1 hv
        obtain ⟨b, hbm⟩ := mget_mem hy
        have := hn3 _ hbm (hall _ hbm)
        simp only at this; omega
      obtain ⟨m, rfl⟩ : ∃ m : Nat, near = (m : Int) := ⟨near.toNat, by omega⟩
      have hml : m < d.length := by omega
      refine raw_del (key := kI) (sv := sI) (val := B) (L := L) (k := (m : Int)) rfl rfl u99 key3 rfl rfl ?_
      dsimp only [go_sem, Nat.reduceAdd, Nat.reduceMul, Nat.reduceSub]
      refine callmL [] (leads_ok l p m) rfl rfl rfl ?_ ?_ ?_
      · exact mtL_same (by simp [carL, wellL, legL, gateL, KFR_iff, KFL, KF])
      · trivial
      dsimp only [leadsO, carL, go_sem, Nat.reduceAdd, Nat.reduceMul, Nat.reduceSub]
      refine gh ent_refl ?_
      dsimp only [go_sem, Nat.reduceAdd, Nat.reduceMul, Nat.reduceSub]
      refine ⟨b97, fun rec => ?_⟩
      refine y97 ?_
      dsimp only [c97, r97, go_sem, Nat.reduceAdd, Nat.reduceMul, Nat.reduceSub]
      refine loopO (fun q : Nat × List Int => [(10, I q.1)]) (fun q => [(2, .row 0 1 (q.2.map intL) 3)]) (fun q => q.1 ≤ l.legs.length ∧ Rnd k l p s day d q.2 m q.1) (fun q => l.legs.length - q.1) (0, d) ⟨Nat.zero_le _, .start hD.g⟩ ?_ ?_
      · (refine ent_id ?_ ?_ ?_ rfl rfl <;> dsimp only [carL, wellL, legL, gateL, intL, mpS_kf, mpS_kf3, id, go_sem, Nat.reduceAdd, Nat.reduceMul, Nat.reduceSub] <;> simp [carL, wellL, legL, gateL, intL, mpS_kf, mpS_kf3, KFR_iff, KFR_app, KFR, KFL, KF, mtL_same, mtO, Nat.beq_refl])
      rintro ⟨j, d'⟩ ⟨hj, hR⟩
      simp only at hj hR
      have hdl' := hR.g.len
      dsimp only [go_sem, Nat.reduceAdd, Nat.reduceMul, Nat.reduceSub]
      simp only [List.length_map]
      by_cases hlt : j < l.legs.length
      · refine br_t (by simpa using hlt) ?_
        dsimp only [go_sem, Nat.reduceAdd, Nat.reduceMul, Nat.reduceSub]
        refine ixs_map j hlt rfl ?_
        dsimp only [legL, go_sem, Nat.reduceAdd, Nat.reduceMul, Nat.reduceSub]
        have hgl : GoodLeg l.legs[j] := okLand_leg hg.land _ (List.getElem_mem _)
        have hends := hg.ends (List.getElem_mem hlt)
        obtain ⟨wa, hwa⟩ : ∃ w : Nat, l.legs[j].a = (w : Int) := ⟨l.legs[j].a.toNat, by omega⟩
        obtain ⟨wb, hwb⟩ : ∃ w : Nat, l.legs[j].b = (w : Int) := ⟨l.legs[j].b.toNat, by omega⟩
        have hwal : wa < d'.length := by omega
        have hwbl : wb < d'.length := by omega
        have hml' : m < d'.length := by omega
        have hxj : l.legs[j]? = some l.legs[j] := List.getElem?_eq_getElem hlt
        have hin : inR 0 100001 d'[m] = true := by
          have q1 := hR.g.lb hg hd.1 hd.2 (by omega) (by omega) (m : Int)
          have q2 := hR.g.ub (m : Int)
          rw [dv_get hml'] at q1 q2
          simp only [inR, decide_eq_true_eq]; omega
        by_cases hca : (m : Int) = l.legs[j].a
        · refine br_t (by simpa using hca) ?_
          dsimp only [go_sem, Nat.reduceAdd, Nat.reduceMul, Nat.reduceSub]
          refine ⟨rfl, rfl, ?_⟩
          simp only [hwb, List.length_map]
          refine ixrm wb rfl hwbl ?_
          dsimp only [go_sem, Nat.reduceAdd, Nat.reduceMul, Nat.reduceSub]
          refine ldrm hwbl ?_
          dsimp only [intL, go_sem, Nat.reduceAdd, Nat.reduceMul, Nat.reduceSub]
          simp only [List.length_map]
          refine ixrm m rfl hml' ?_
          dsimp only [go_sem, Nat.reduceAdd, Nat.reduceMul, Nat.reduceSub]
          refine ldrm hml' ?_
          dsimp only [intL, go_sem, Nat.reduceAdd, Nat.reduceMul, Nat.reduceSub]
          simp only [List.length_map]
          refine ixrm m rfl hml' ?_
          dsimp only [go_sem, Nat.reduceAdd, Nat.reduceMul, Nat.reduceSub]
          refine ldrm hml' ?_
          dsimp only [intL, go_sem, Nat.reduceAdd, Nat.reduceMul, Nat.reduceSub]
          refine call (arrive_ok l p j hlt d'[m] d'[m] hgl hg.pace hin hin) ?_
          dsimp only [go_sem, Nat.reduceAdd, Nat.reduceMul, Nat.reduceSub]
          refine ixa (bif k then 1 else 0) hkk' (by cases k <;> decide) ?_
          rw [show nth [I (arrK false l.legs[j] p d'[m]), I (arrK true l.legs[j] p d'[m])] ((bif k then 1 else 0) * 1) = some (I (arrK k l.legs[j] p d'[m])) from by cases k <;> rfl]
          dsimp only [go_sem, Nat.reduceAdd, Nat.reduceMul, Nat.reduceSub]
          simp only [List.length_map]
          refine ixrm wb rfl hwbl ?_
          dsimp only [go_sem, Nat.reduceAdd, Nat.reduceMul, Nat.reduceSub]
          refine strm (min d'[wb] (arrK k l.legs[j] p d'[m])) hwbl (by simp [intL]) (by simp [intL, splice]) ?_
          dsimp only [go_sem, Nat.reduceAdd, Nat.reduceMul, Nat.reduceSub]
          refine ⟨rfl, ?_⟩
          refine br_f (by decide) ?_
          dsimp only [go_sem, Nat.reduceAdd, Nat.reduceMul, Nat.reduceSub]
          rw [w64_in (n := (j : Int) + 1) (by omega) (by omega)]
          have hst := hR.step hg hxj (w := wb) (by rw [otherF, if_pos hca.symm, hwb]) hd.1 hd.2 (by omega) (by omega)
          rw [dv_get hwbl, dv_get hml'] at hst
          generalize d'.set wb (min d'[wb] (arrK k l.legs[j] p d'[m])) = d2 at hst ⊢
          refine ⟨(j + 1, d2), ⟨hlt, hst⟩, by simp only; omega, ?_⟩
          (refine ent_id ?_ ?_ ?_ rfl rfl <;> dsimp only [carL, wellL, legL, gateL, intL, mpS_kf, mpS_kf3, id, go_sem, Nat.reduceAdd, Nat.reduceMul, Nat.reduceSub] <;> simp [carL, wellL, legL, gateL, intL, mpS_kf, mpS_kf3, KFR_iff, KFR_app, KFR, KFL, KF, mtL_same, mtO, Nat.beq_refl])
        refine br_f (by simpa using hca) ?_
        dsimp only [go_sem, Nat.reduceAdd, Nat.reduceMul, Nat.reduceSub]
        by_cases hcb : (m : Int) = l.legs[j].b
        · refine br_t (by simpa using hcb) ?_
          dsimp only [go_sem, Nat.reduceAdd, Nat.reduceMul, Nat.reduceSub]
          refine ⟨rfl, rfl, ?_⟩
          simp only [hwa, List.length_map]
          refine ixrm wa rfl hwal ?_
          dsimp only [go_sem, Nat.reduceAdd, Nat.reduceMul, Nat.reduceSub]
          refine ldrm hwal ?_
          dsimp only [intL, go_sem, Nat.reduceAdd, Nat.reduceMul, Nat.reduceSub]
          simp only [List.length_map]
          refine ixrm m rfl hml' ?_
          dsimp only [go_sem, Nat.reduceAdd, Nat.reduceMul, Nat.reduceSub]
          refine ldrm hml' ?_
          dsimp only [intL, go_sem, Nat.reduceAdd, Nat.reduceMul, Nat.reduceSub]
          simp only [List.length_map]
          refine ixrm m rfl hml' ?_
          dsimp only [go_sem, Nat.reduceAdd, Nat.reduceMul, Nat.reduceSub]
          refine ldrm hml' ?_
          dsimp only [intL, go_sem, Nat.reduceAdd, Nat.reduceMul, Nat.reduceSub]
          refine call (arrive_ok l p j hlt d'[m] d'[m] hgl hg.pace hin hin) ?_
          dsimp only [go_sem, Nat.reduceAdd, Nat.reduceMul, Nat.reduceSub]
          refine ixa (bif k then 1 else 0) hkk' (by cases k <;> decide) ?_
          rw [show nth [I (arrK false l.legs[j] p d'[m]), I (arrK true l.legs[j] p d'[m])] ((bif k then 1 else 0) * 1) = some (I (arrK k l.legs[j] p d'[m])) from by cases k <;> rfl]
          dsimp only [go_sem, Nat.reduceAdd, Nat.reduceMul, Nat.reduceSub]
          simp only [List.length_map]
          refine ixrm wa rfl hwal ?_
          dsimp only [go_sem, Nat.reduceAdd, Nat.reduceMul, Nat.reduceSub]
          refine strm (min d'[wa] (arrK k l.legs[j] p d'[m])) hwal (by simp [intL]) (by simp [intL, splice]) ?_
          dsimp only [go_sem, Nat.reduceAdd, Nat.reduceMul, Nat.reduceSub]
          refine ⟨rfl, ?_⟩
          refine br_f (by decide) ?_
          dsimp only [go_sem, Nat.reduceAdd, Nat.reduceMul, Nat.reduceSub]
          rw [w64_in (n := (j : Int) + 1) (by omega) (by omega)]
          have hst := hR.step hg hxj (w := wa) (by rw [otherF, if_neg (fun e => hca e.symm), if_pos hcb.symm, hwa]) hd.1 hd.2 (by omega) (by omega)
          rw [dv_get hwal, dv_get hml'] at hst
          generalize d'.set wa (min d'[wa] (arrK k l.legs[j] p d'[m])) = d2 at hst ⊢
          refine ⟨(j + 1, d2), ⟨hlt, hst⟩, by simp only; omega, ?_⟩
          (refine ent_id ?_ ?_ ?_ rfl rfl <;> dsimp only [carL, wellL, legL, gateL, intL, mpS_kf, mpS_kf3, id, go_sem, Nat.reduceAdd, Nat.reduceMul, Nat.reduceSub] <;> simp [carL, wellL, legL, gateL, intL, mpS_kf, mpS_kf3, KFR_iff, KFR_app, KFR, KFL, KF, mtL_same, mtO, Nat.beq_refl])
        refine br_f (by simpa using hcb) ?_
        dsimp only [go_sem, Nat.reduceAdd, Nat.reduceMul, Nat.reduceSub]
        rw [w64_in (n := (j : Int) + 1) (by omega) (by omega)]
        refine ⟨(j + 1, d'), ⟨hlt, hR.skip hxj (by rw [otherF, if_neg (fun e => hca e.symm), if_neg (fun e => hcb e.symm)]; decide)⟩, by simp only; omega, ?_⟩
        (refine ent_id ?_ ?_ ?_ rfl rfl <;> dsimp only [carL, wellL, legL, gateL, intL, mpS_kf, mpS_kf3, id, go_sem, Nat.reduceAdd, Nat.reduceMul, Nat.reduceSub] <;> simp [carL, wellL, legL, gateL, intL, mpS_kf, mpS_kf3, KFR_iff, KFR_app, KFR, KFL, KF, mtL_same, mtO, Nat.beq_refl])
      refine br_f (by simp; omega) ?_
      dsimp only [go_sem, Nat.reduceAdd, Nat.reduceMul, Nat.reduceSub]
      have hje : j = l.legs.length := by omega
      subst hje
      have hfin := Rnd.finish (left' := fun v => (mget v (mdel (m : Int) L)).isSome = true) hD hR hn2 hn0 hn1 hmin (fun v => by
        rw [mget_del hM.kn]
        by_cases hv : v = (m : Int)
        · simp [hv]
        · simp [hv]) hg
      refine ⟨(d', mdel (m : Int) L), ⟨hfin, hM.del, fun e he => hb e (mdel_sub.subset he)⟩, by simp only; have := mdel_len hn2; omega, ?_⟩
      (refine ent_id ?_ ?_ ?_ rfl rfl <;> dsimp only [carL, wellL, legL, gateL, intL, mpS_kf, mpS_kf3, id, go_sem, Nat.reduceAdd, Nat.reduceMul, Nat.reduceSub] <;> simp [carL, wellL, legL, gateL, intL, mpS_kf, mpS_kf3, KFR_iff, KFR_app, KFR, KFL, KF, mtL_same, mtO, Nat.beq_refl])
    intro e he hse
    dsimp only [go_sem, Nat.reduceAdd, Nat.reduceMul, Nat.reduceSub]
    refine br_t rfl ?_
    dsimp only [go_sem, Nat.reduceAdd, Nat.reduceMul, Nat.reduceSub]
    refine raw_entry (key := kI) (sv := sI) (val := B) (L := L) (c := l.wells.length) (e := e) rfl rfl rfl he hM.bn key3 ?_
    dsimp only [go_sem, Nat.reduceAdd, Nat.reduceMul, Nat.reduceSub]
    have hbe := hb e he
    have hget := mget_of hM.kn he
    obtain ⟨m, hm⟩ : ∃ m : Nat, e.2.1 = (m : Int) := ⟨e.2.1.toNat, by omega⟩
    rw [hm] at hbe hget
    simp only [hm]
    have hml : m < d.length := by omega
    have hmeas := leftN_lt he hse
    have hnl : near.toNat < d.length := by rcases hi with ⟨rfl, _⟩ | ⟨_, _, _⟩ <;> omega
    refine gb ?_
    dsimp only [go_sem, Nat.reduceAdd, Nat.reduceMul, Nat.reduceSub]
    refine gb ?_
    dsimp only [go_sem, Nat.reduceAdd, Nat.reduceMul, Nat.reduceSub]
    refine gb ?_
    dsimp only [go_sem, Nat.reduceAdd, Nat.reduceMul, Nat.reduceSub]
    simp only [List.length_map]
    refine ixrm m rfl hml ?_
    dsimp only [go_sem, Nat.reduceAdd, Nat.reduceMul, Nat.reduceSub]
    refine gb ?_
    dsimp only [go_sem, Nat.reduceAdd, Nat.reduceMul, Nat.reduceSub]
    refine ldrm hml ?_
    dsimp only [intL, go_sem, Nat.reduceAdd, Nat.reduceMul, Nat.reduceSub]
    refine gb ?_
    dsimp only [go_sem, Nat.reduceAdd, Nat.reduceMul, Nat.reduceSub]
    refine gb ?_
    dsimp only [go_sem, Nat.reduceAdd, Nat.reduceMul, Nat.reduceSub]
    refine gb ?_
    dsimp only [go_sem, Nat.reduceAdd, Nat.reduceMul, Nat.reduceSub]
    simp only [List.length_map]
    refine ixrm_v near.toNat rfl (fun h => ⟨by simp at h; omega, hnl⟩) ?_
    dsimp only [go_sem, Nat.reduceAdd, Nat.reduceMul, Nat.reduceSub]
    refine gb ?_
    dsimp only [go_sem, Nat.reduceAdd, Nat.reduceMul, Nat.reduceSub]
    refine ldrm hnl ?_
    dsimp only [intL, go_sem, Nat.reduceAdd, Nat.reduceMul, Nat.reduceSub]
    refine gb ?_
    dsimp only [go_sem, Nat.reduceAdd, Nat.reduceMul, Nat.reduceSub]
    refine gb ?_
    dsimp only [go_sem, Nat.reduceAdd, Nat.reduceMul, Nat.reduceSub]
    refine gb ?_
    dsimp only [go_sem, Nat.reduceAdd, Nat.reduceMul, Nat.reduceSub]
    refine gb ?_
    dsimp only [go_sem, Nat.reduceAdd, Nat.reduceMul, Nat.reduceSub]
    simp only [List.length_map]
    refine ixrm m rfl hml ?_
    dsimp only [go_sem, Nat.reduceAdd, Nat.reduceMul, Nat.reduceSub]
    refine gb ?_
    dsimp only [go_sem, Nat.reduceAdd, Nat.reduceMul, Nat.reduceSub]
    refine ldrm hml ?_
    dsimp only [intL, go_sem, Nat.reduceAdd, Nat.reduceMul, Nat.reduceSub]
    refine gb ?_
    dsimp only [go_sem, Nat.reduceAdd, Nat.reduceMul, Nat.reduceSub]
    refine gb ?_
    dsimp only [go_sem, Nat.reduceAdd, Nat.reduceMul, Nat.reduceSub]
    refine gb ?_
    dsimp only [go_sem, Nat.reduceAdd, Nat.reduceMul, Nat.reduceSub]
    simp only [List.length_map]
    refine ixrm_v near.toNat rfl (fun h => ⟨by simp at h; omega, hnl⟩) ?_
    dsimp only [go_sem, Nat.reduceAdd, Nat.reduceMul, Nat.reduceSub]
    refine gb ?_
    dsimp only [go_sem, Nat.reduceAdd, Nat.reduceMul, Nat.reduceSub]
    refine ldrm hnl ?_
    dsimp only [intL, go_sem, Nat.reduceAdd, Nat.reduceMul, Nat.reduceSub]
    repeat (refine gb ?_; dsimp only [go_sem, Nat.reduceAdd, Nat.reduceMul, Nat.reduceSub])
    have hdm : dv d (m : Int) = d[m] := dv_get hml
    have hdn : 0 ≤ near → dv d near = d[near.toNat] := fun h => by
      have := dv_get hnl; rw [← this]; congr 1; omega
    have hse' : ∀ e' ∈ L, e'.1 ∈ seen ++ [e.1] → e'.1 ∈ seen ∨ e'.2.1 = m := fun e' he' h => by
      rcases List.mem_append.1 h with h | h
      · exact .inl h
      · refine .inr ?_
        simp only [List.mem_singleton] at h
        have : e' = e := inj_of_nodup hM.bn he' he h
        rw [this, hm]
    refine br ?_ ?_
    · intro hA
      dsimp only [go_sem, Nat.reduceAdd, Nat.reduceMul, Nat.reduceSub]
      refine ⟨(seen ++ [e.1], m), .inr ⟨by simp only; omega, by simp only; omega, by simp only; rw [hget]; rfl, fun e' he' h => ?_⟩, hmeas, ?_⟩
      · simp only [hdm]
        rcases hse' e' he' h with h | h
        · rcases hi with ⟨rfl, hi⟩ | ⟨hn0, hn1, hn2, hi⟩
          · exact absurd h (hi e' he')
          · have := hi e' he' h
            rw [hdn hn0] at this
            simp only [Bool.or_eq_true, Bool.and_eq_true, decide_eq_true_eq, beq_iff_eq] at hA
            omega
        · rw [h, hdm]; omega
      (refine ent_id ?_ ?_ ?_ rfl rfl <;> dsimp only [carL, wellL, legL, gateL, intL, mpS_kf, mpS_kf3, id, go_sem, Nat.reduceAdd, Nat.reduceMul, Nat.reduceSub] <;> simp [carL, wellL, legL, gateL, intL, mpS_kf, mpS_kf3, KFR_iff, KFR_app, KFR, KFL, KF, mtL_same, mtO, Nat.beq_refl])
    · intro hA
      dsimp only [go_sem, Nat.reduceAdd, Nat.reduceMul, Nat.reduceSub]
      simp only [Bool.or_eq_false_iff, Bool.and_eq_false_iff, decide_eq_false_iff_not, beq_eq_false_iff_ne] at hA
      refine ⟨(seen ++ [e.1], near), .inr ?_, hmeas, ?_⟩
      · rcases hi with ⟨rfl, hi⟩ | ⟨hn0, hn1, hn2, hi⟩
        · omega
        · refine ⟨hn0, hn1, hn2, fun e' he' h => ?_⟩
          simp only [hdn hn0]
          rcases hse' e' he' h with h | h
          · have := hi e' he' h; rw [hdn hn0] at this; exact this
          · rw [h, hdm]; omega
      (refine ent_id ?_ ?_ ?_ rfl rfl <;> dsimp only [carL, wellL, legL, gateL, intL, mpS_kf, mpS_kf3, id, go_sem, Nat.reduceAdd, Nat.reduceMul, Nat.reduceSub] <;> simp [carL, wellL, legL, gateL, intL, mpS_kf, mpS_kf3, KFR_iff, KFR_app, KFR, KFL, KF, mtL_same, mtO, Nat.beq_refl])
end Go.Proofs.Ytkjldleglbbkeaa
set_option maxRecDepth 100000
set_option maxHeartbeats 4000000
namespace Go.Azalai
noncomputable def reachL (l : Land) (p : Span) (s day : Int) : List Span := List.zipWith Span.mk (reachF false l p s day) (reachF true l p s day)
def reachE (l : Land) (p : Span) (s day : Int) : Int := if askF l p ≠ 0 then askF l p else if (inR 0 (l.wells.length - 1) s && inR 0 100000 day) = false then 2 else 0
theorem reachF_len {k : Bool} {l : Land} {p : Span} {s day : Int} : (reachF k l p s day).length = l.wells.length := by simp [reachF]
theorem reachL_len {l : Land} {p : Span} {s day : Int} : (reachL l p s day).length = l.wells.length := by simp [reachL, reachF_len]
theorem ask_ok {l : Land} {p : Span} (h : askF l p = 0) : OkLP l p := by
  unfold askF at h
  split at h
  · omega
  · split at h
    · omega
    · rename_i h1 h2; exact ⟨by simpa using h1, by simpa using h2⟩
end Go.Azalai
namespace Go.Proofs.Ytkjldleglbbkeaa
open Go Go.Sx Go.Azalai
theorem kfr_take {xs : List (List SV)} {n : Nat} (h : KFR xs) : KFR (xs.take n) := by
  induction xs generalizing n with
  | nil => simpa using h
  | cons x l ih => cases n with
    | zero => simp [KFR]
    | succ n => simp only [List.take_succ_cons, KFR] at h ⊢; exact ⟨h.1, ih h.2⟩
def rowsZ (e : Int) (m : Nat) (xs : List (List SV)) : SV := if e = 0 then .sl false m xs else .v (.slice none 0 0)
theorem wreach_ok (l : Land) (hs : Small l) (s day : Int) (p : Span) : Ct Try.prog 32 [.agg (landL l), I s, I day, .agg (spanL p)] (.tup [rowsZ (reachE l p s day) 2 ((reachL l p s day).map spanL), I (reachE l p s day)]) := by
  have hw := hs.1
  refine t32 (by simp [landL, wellL, legL, gateL, spanL, KFR_iff, KFL, KF]) (by unfold rowsZ; split <;> simp [KFL, KF, KFR_iff, spanL]) ?_
  dsimp only [c32, r32, landL, spanL, go_sem, Nat.reduceAdd, Nat.reduceMul, Nat.reduceSub]
  by_cases ha : askF l p = 0
  case neg =>
    refine call (open_err l hs p ha) ?_
    dsimp only [go_sem, Nat.reduceAdd, Nat.reduceMul, Nat.reduceSub]
    refine br_t (by simpa using ha) ?_
    dsimp only [go_sem, Nat.reduceAdd, Nat.reduceMul, Nat.reduceSub]
    simp [reachE, ha, rowsZ]
  have hok := ask_ok ha
  refine call (open_ok l hs p ha) ?_
  dsimp only [carL, go_sem, Nat.reduceAdd, Nat.reduceMul, Nat.reduceSub]
  refine br_f (by decide) ?_
  dsimp only [go_sem, Nat.reduceAdd, Nat.reduceMul, Nat.reduceSub]
  simp only [List.length_map]
  have h1 := okLand_len hok.land
  rw [w64_in (n := (l.wells.length : Int) - 1) (by omega) (by omega)]
  refine call (from1 0 (l.wells.length - 1) s true) ?_
  dsimp only [go_sem, Nat.reduceAdd, Nat.reduceMul, Nat.reduceSub]
  repeat (first | (refine gb ?_; dsimp only [go_sem, Nat.reduceAdd, Nat.reduceMul, Nat.reduceSub]) | (refine call (from1 0 100000 day true) ?_; dsimp only [go_sem, Nat.reduceAdd, Nat.reduceMul, Nat.reduceSub]))
  by_cases hr : (inR 0 (l.wells.length - 1) s && inR 0 100000 day) = true
  case neg =>
    refine br_t (by simpa [Bool.and_eq_true, ← Bool.not_and] using hr) ?_
    dsimp only [go_sem, Nat.reduceAdd, Nat.reduceMul, Nat.reduceSub]
    simp [reachE, ha, rowsZ, hr]
  refine br_f (by simpa [← Bool.not_and] using hr) ?_
  dsimp only [go_sem, Nat.reduceAdd, Nat.reduceMul, Nat.reduceSub]
  have he : reachE l p s day = 0 := by simp [reachE, ha, hr]
  rw [he]
  simp only [Bool.and_eq_true] at hr
  obtain ⟨hr1, hr2⟩ := hr
  obtain ⟨s0, hs0, rfl⟩ : ∃ s0 : Nat, s0 < l.wells.length ∧ s = (s0 : Int) := by
    simp only [inR, decide_eq_true_eq] at hr1
    exact ⟨s.toNat, by omega, by omega⟩
  refine call (reach_ok l p hs hok s0 hs0 day hr2 true) ?_
  dsimp only [go_sem, Nat.reduceAdd, Nat.reduceMul, Nat.reduceSub]
  refine call (reach_ok l p hs hok s0 hs0 day hr2 false) ?_
  dsimp only [go_sem, Nat.reduceAdd, Nat.reduceMul, Nat.reduceSub]
  simp only [List.length_map, reachF_len]
  refine loopG (ent_nilslot 12 2 29 rfl rfl) (fun q : Nat × Nat => [(50, I q.1), (12, .mr 3 q.2)]) (fun q => [(3, .row q.2 2 (((reachL l p s0 day).take q.1).map spanL) 29)]) (fun q => q.1 ≤ l.wells.length) (fun q => l.wells.length - q.1) (0, 0) (Nat.zero_le _) ?_ ?_
  · (refine ent_id ?_ ?_ ?_ rfl rfl <;> dsimp only [spanL, wellL, legL, gateL, intL, kfr_take, id, go_sem, Nat.reduceAdd, Nat.reduceMul, Nat.reduceSub] <;> simp [spanL, wellL, legL, gateL, intL, kfr_take, KFR_iff, KFR_app, KFR, KFL, KF, mtL_same, mtO, Nat.beq_refl])
  rintro ⟨j, v⟩ hj
  simp only at hj
  dsimp only [go_sem, Nat.reduceAdd, Nat.reduceMul, Nat.reduceSub]
  by_cases hlt : j < l.wells.length
  · refine br_t (by simpa using hlt) ?_
    dsimp only [go_sem, Nat.reduceAdd, Nat.reduceMul, Nat.reduceSub]
    have hf0 : j < (reachF false l p s0 day).length := by rw [reachF_len]; exact hlt
    have hf1 : j < (reachF true l p s0 day).length := by rw [reachF_len]; exact hlt
    refine ixs_map j hf0 rfl ?_
    dsimp only [intL, go_sem, Nat.reduceAdd, Nat.reduceMul, Nat.reduceSub]
    refine ixs_map j hf1 rfl ?_
    dsimp only [intL, go_sem, Nat.reduceAdd, Nat.reduceMul, Nat.reduceSub]
    simp only [Nat.beq_refl]
    dsimp only [go_sem, Nat.reduceAdd, Nat.reduceMul, Nat.reduceSub]
    have hlen : (((reachL l p s0 day).take j).map spanL).length = j := by simp [reachL_len]; omega
    refine ⟨(by intro c hc; simp only [List.mem_singleton] at hc; subst hc; rfl), by simp only [List.length_append, hlen, List.length_singleton]; omega, ?_⟩
    dsimp only [go_sem, Nat.reduceAdd, Nat.reduceMul, Nat.reduceSub]
    rw [w64_in (n := (j : Int) + 1) (by omega) (by omega)]
    have hjl : j < (reachL l p s0 day).length := by rw [reachL_len]; exact hlt
    have e : ((reachL l p s0 day).take j).map spanL ++ [[SV.v (.int .i64 (reachF false l p s0 day)[j]), SV.v (.int .i64 (reachF true l p s0 day)[j])]] = ((reachL l p s0 day).take (j + 1)).map spanL := by
      rw [List.take_succ_eq_append_getElem hjl, List.map_append]
      simp [reachL, spanL]
    rw [e]
    refine ⟨(j + 1, v + 1), hlt, by simp only; omega, ?_⟩
    (refine ent_id ?_ ?_ ?_ rfl rfl <;> dsimp only [spanL, wellL, legL, gateL, intL, kfr_take, id, go_sem, Nat.reduceAdd, Nat.reduceMul, Nat.reduceSub] <;> simp [spanL, wellL, legL, gateL, intL, kfr_take, KFR_iff, KFR_app, KFR, KFL, KF, mtL_same, mtO, Nat.beq_refl])
  refine br_f (by simp; omega) ?_
  dsimp only [go_sem, Nat.reduceAdd, Nat.reduceMul, Nat.reduceSub]
  have hje : j = l.wells.length := by omega
  subst hje
  have : (reachL l p s0 day).take l.wells.length = reachL l p s0 day := List.take_of_length_le (by rw [reachL_len]; exact Nat.le_refl _)
  rw [this]
  simp [rowsZ, vwN]
end Go.Proofs.Ytkjldleglbbkeaa
set_option maxRecDepth 100000
set_option maxHeartbeats 4000000
namespace Go.Azalai
def losS (S : List Span) : List Int := S.map (·.lo)
def hisS (S : List Span) : List Int := S.map (·.hi)
def calmS (p : Span) (S : List Span) (x : Leg) (v : Int) : Prop := 0 ≤ otherF x v → dv (losS S) (otherF x v) ≤ arrK false x p (dv (losS S) v) ∧ dv (hisS S) (otherF x v) ≤ arrK true x p (dv (hisS S) v)
def sumS (S : List Span) : Nat := (S.map fun s => s.lo.toNat + s.hi.toNat).sum
theorem sumS_set : ∀ (S : List Span) (i : Nat) (y : Span) (h : i < S.length), sumS (S.set i y) + (S[i].lo.toNat + S[i].hi.toNat) = sumS S + (y.lo.toNat + y.hi.toNat)
  | a :: S, 0, y, h => by simp only [sumS, List.set_cons_zero, List.map_cons, List.sum_cons, List.getElem_cons_zero]; omega
  | a :: S, i + 1, y, h => by
    have := sumS_set S i y (by simpa using h)
    simp only [sumS, List.set_cons_succ, List.map_cons, List.sum_cons, List.getElem_cons_succ] at this ⊢
    omega
def sideV (x : Leg) (c : Nat) : Int := if c % 2 = 0 then x.a else x.b
structure RI (l : Land) (p : Span) (s day : Int) (S0 S : List Span) (ch : Bool) (c : Nat) : Prop where
  g0 : Gone false l p s day (losS S)
  g1 : Gone true l p s day (hisS S)
  le : sumS S ≤ sumS S0
  dec : ch = true → sumS S < sumS S0
  same : ch = false → S = S0 ∧ ∀ c' x, c' < c → l.legs[c' / 2]? = some x → calmS p S0 x (sideV x c')
theorem RI.start {l : Land} {p : Span} {s day : Int} {S : List Span} (h0 : Gone false l p s day (losS S)) (h1 : Gone true l p s day (hisS S)) : RI l p s day S S false 0 :=
  ⟨h0, h1, Nat.le_refl _, fun h => (by cases h), fun _ => ⟨rfl, fun c' x h => absurd h (Nat.not_lt_zero _)⟩⟩
theorem RI.len {l : Land} {p : Span} {s day : Int} {S0 S : List Span} {ch : Bool} {c : Nat} (h : RI l p s day S0 S ch c) : S.length = l.wells.length := by have := h.g0.len; simpa [losS] using this
theorem dv_los {S : List Span} {i : Nat} (h : i < S.length) : dv (losS S) i = S[i].lo ∧ dv (hisS S) i = S[i].hi := by
  constructor
  · rw [dv_get (by simpa [losS] using h)]; simp [losS]
  · rw [dv_get (by simpa [hisS] using h)]; simp [hisS]
theorem RI.in {l : Land} {p : Span} {s day : Int} {S0 S : List Span} {ch : Bool} {c : Nat} (h : RI l p s day S0 S ch c) (hg : OkLP l p) (hd : 0 ≤ day) (hd' : day ≤ 100000) (h0 : 0 ≤ s) (h1 : s < l.wells.length) {i : Nat} (hi : i < S.length) :
    (0 ≤ S[i].lo ∧ S[i].lo ≤ 100001) ∧ 0 ≤ S[i].hi ∧ S[i].hi ≤ 100001 := by
  have q := dv_los hi
  have a1 := h.g0.lb hg hd hd' h0 h1 i
  have a2 := h.g0.ub i
  have b1 := h.g1.lb hg hd hd' h0 h1 i
  have b2 := h.g1.ub i
  omega
theorem RI.calm {l : Land} {p : Span} {s day : Int} {S0 S : List Span} {ch : Bool} {c : Nat} (h : RI l p s day S0 S ch c) {x : Leg} (hx : l.legs[c / 2]? = some x) {v w : Nat} (hv : sideV x c = v) (hw : otherF x v = w) (hvl : v < S.length) (hwl : w < S.length)
    (hn : ¬ (arrK false x p S[v].lo < S[w].lo ∨ arrK true x p S[v].hi < S[w].hi)) : RI l p s day S0 S ch (c + 1) := by
  refine ⟨h.g0, h.g1, h.le, h.dec, fun hc => ?_⟩
  obtain ⟨q1, q2⟩ := h.same hc
  refine ⟨q1, fun c' y hc' hy => ?_⟩
  by_cases he : c' = c
  · subst he
    rw [hx] at hy; cases hy
    subst q1
    intro _
    have d1 := dv_los hvl
    have d2 := dv_los hwl
    rw [hv, hw, d1.1, d1.2, d2.1, d2.2]
    omega
  · exact q2 c' y (by omega) hy
theorem RI.improve {l : Land} {p : Span} {s day : Int} {S0 S : List Span} {ch : Bool} {c : Nat} (h : RI l p s day S0 S ch c) (hg : OkLP l p) (hd : 0 ≤ day) (hd' : day ≤ 100000) (h0 : 0 ≤ s) (h1 : s < l.wells.length) {x : Leg} (hx : l.legs[c / 2]? = some x) {v w : Nat} (hw : otherF x v = w) (hvl : v < S.length) (hwl : w < S.length)
    (hn : arrK false x p S[v].lo < S[w].lo ∨ arrK true x p S[v].hi < S[w].hi) : RI l p s day S0 (S.set w ⟨min S[w].lo (arrK false x p S[v].lo), min S[w].hi (arrK true x p S[v].hi)⟩) true (c + 1) := by
  have d1 := dv_los hvl
  have d2 := dv_los hwl
  have b1 := h.in hg hd hd' h0 h1 hvl
  have b2 := h.in hg hd hd' h0 h1 hwl
  have r0 := (h.g0.relax hg hx hw hd hd' h0 h1).1
  have r1 := (h.g1.relax hg hx hw hd hd' h0 h1).1
  rw [d1.1, d2.1] at r0
  rw [d1.2, d2.2] at r1
  have e0 : losS (S.set w ⟨min S[w].lo (arrK false x p S[v].lo), min S[w].hi (arrK true x p S[v].hi)⟩) = (losS S).set w (min S[w].lo (arrK false x p S[v].lo)) := by simp [losS, List.map_set]
  have e1 : hisS (S.set w ⟨min S[w].lo (arrK false x p S[v].lo), min S[w].hi (arrK true x p S[v].hi)⟩) = (hisS S).set w (min S[w].hi (arrK true x p S[v].hi)) := by simp [hisS, List.map_set]
  have hsum := sumS_set S w ⟨min S[w].lo (arrK false x p S[v].lo), min S[w].hi (arrK true x p S[v].hi)⟩ hwl
  simp only at hsum
  have g1 := arrK_ge (k := false) (hg.leg hx) hg.pace b1.1.2
  have g2 := arrK_ge (k := true) (hg.leg hx) hg.pace b1.2.2
  have hlt : sumS (S.set w ⟨min S[w].lo (arrK false x p S[v].lo), min S[w].hi (arrK true x p S[v].hi)⟩) < sumS S := by omega
  have := h.le
  exact ⟨by rw [e0]; exact r0, by rw [e1]; exact r1, by omega, fun _ => by omega, fun hc => by cases hc⟩
theorem RI.done {l : Land} {p : Span} {s day : Int} {S0 S : List Span} {c : Nat} (h : RI l p s day S0 S false c) (hc : 2 * l.legs.length ≤ c) (hg : OkLP l p) (hd : 0 ≤ day) (hd' : day ≤ 100000) (h0 : 0 ≤ s) (h1 : s < l.wells.length) : S = reachL l p s day := by
  obtain ⟨q1, q2⟩ := h.same rfl
  subst q1
  have hcl : ∀ x ∈ l.legs, (dv (losS S) x.b ≤ arrK false x p (dv (losS S) x.a) ∧ dv (losS S) x.a ≤ arrK false x p (dv (losS S) x.b)) ∧ (dv (hisS S) x.b ≤ arrK true x p (dv (hisS S) x.a) ∧ dv (hisS S) x.a ≤ arrK true x p (dv (hisS S) x.b)) := fun x hx => by
    obtain ⟨i, hi⟩ := List.mem_iff_getElem?.1 hx
    have hil : i < l.legs.length := (List.getElem?_eq_some_iff.1 hi).1
    have hen := hg.ends hx
    have k1 := q2 (2 * i) x (by omega) (by rw [show 2 * i / 2 = i by omega]; exact hi)
    have k2 := q2 (2 * i + 1) x (by omega) (by rw [show (2 * i + 1) / 2 = i by omega]; exact hi)
    simp only [calmS, sideV, show 2 * i % 2 = 0 by omega, show ¬ (2 * i + 1) % 2 = 0 by omega, if_true, if_false, otherF, if_neg hen.2.2] at k1 k2
    have m1 := k1 hen.2.1.1
    have m2 := k2 hen.1.1
    exact ⟨⟨m1.1, m2.1⟩, ⟨m1.2, m2.2⟩⟩
  have e0 := reach_eq (k := false) hg hd hd' h0 h1 h.g0.st (fun x hx => (hcl x hx).1) h.g0.ub h.g0.real
  have e1 := reach_eq (k := true) hg hd hd' h0 h1 h.g1.st (fun x hx => (hcl x hx).2) h.g1.ub h.g1.real
  have hl := h.len
  refine List.ext_getElem (by rw [hl, reachL_len]) fun i hi hi' => ?_
  have d := dv_los hi
  simp only [reachL, List.getElem_zipWith, reachF, List.getElem_map, List.getElem_range]
  rw [← e0, ← e1, d.1, d.2]
theorem RI.again {l : Land} {p : Span} {s day : Int} {S0 S : List Span} {ch : Bool} {c : Nat} (h : RI l p s day S0 S ch c) : RI l p s day S S false 0 := .start h.g0 h.g1
end Go.Azalai
set_option maxRecDepth 100000
set_option maxHeartbeats 4000000
namespace Go.Azalai
open Go.Sx
/-- a list comes before another one -/
def lexB : List Nat → List Nat → Bool
  | [], [] => false
  | [], _ :: _ => true
  | _ :: _, [] => false
  | x :: a, y :: b => decide (x < y) || (x == y && lexB a b)
theorem lexB_irr : ∀ a : List Nat, lexB a a = false
  | [] => rfl
  | x :: a => by simp [lexB, lexB_irr a]
theorem lexB_tri : ∀ {a b : List Nat}, lexB a b = false → lexB b a = false → a = b
  | [], [], _, _ => rfl
  | [], _ :: _, h, _ => by simp [lexB] at h
  | _ :: _, [], _, h => by simp [lexB] at h
  | x :: a, y :: b, h, h' => by
    simp only [lexB, Bool.or_eq_false_iff, decide_eq_false_iff_not, Bool.and_eq_false_iff, beq_eq_false_iff_ne] at h h'
    have hxy : x = y := by omega
    subst hxy
    rw [lexB_tri (a := a) (b := b) (by simpa using h.2) (by simpa using h'.2)]
theorem lexB_trans : ∀ {a b c : List Nat}, lexB a b = true → lexB b c = true → lexB a c = true
  | [], [], _, h, _ => by simp [lexB] at h
  | [], _ :: _, [], _, h => by simp [lexB] at h
  | [], _ :: _, _ :: _, _, _ => rfl
  | _ :: _, [], _, h, _ => by simp [lexB] at h
  | _ :: _, _ :: _, [], _, h => by simp [lexB] at h
  | x :: a, y :: b, z :: c, h, h' => by
    simp only [lexB, Bool.or_eq_true, decide_eq_true_eq, Bool.and_eq_true, beq_iff_eq] at h h' ⊢
    rcases h with h | ⟨rfl, h⟩
    · rcases h' with h' | ⟨rfl, h'⟩
      · exact .inl (by omega)
      · exact .inl h
    · rcases h' with h' | ⟨rfl, h'⟩
      · exact .inl h'
      · exact .inr ⟨rfl, lexB_trans h h'⟩
theorem lexB_app : ∀ {a b c d : List Nat}, a.length = b.length → lexB (a ++ c) (b ++ d) = (lexB a b || (decide (a = b) && lexB c d))
  | [], [], c, d, _ => by simp [lexB]
  | x :: a, y :: b, c, d, h => by
    rw [List.cons_append, List.cons_append, lexB, lexB, lexB_app (a := a) (b := b) (c := c) (d := d) (by simpa using h)]
    by_cases hxy : x = y
    · subst hxy; simp
    · have hb : (x == y) = false := beq_eq_false_iff_ne.2 hxy
      have hc : decide (x :: a = y :: b) = false := by simp [hxy]
      rw [hb, hc]; simp
  | [], _ :: _, _, _, h => by simp at h
  | _ :: _, [], _, _, h => by simp at h
/-- the first one of lists -/
def Best (W : List Nat → Prop) (a : List Nat) : Prop := W a ∧ ∀ b, W b → lexB b a = false
theorem Best.uniq {W : List Nat → Prop} {a b : List Nat} (h : Best W a) (h' : Best W b) : a = b := lexB_tri (h'.2 a h.1) (h.2 b h'.1)
theorem Best.congr {W W' : List Nat → Prop} {a : List Nat} (h : Best W a) (hw : ∀ b, W' b ↔ W b) : Best W' a := ⟨(hw a).2 h.1, fun b hb => h.2 b ((hw b).1 hb)⟩
def WayN (l : Land) (p : Span) (s day : Int) (n : Nat) (q : Int × Int) (a : List Nat) : Prop := a.length = n ∧ goW true l p s day a = some q
theorem goW_last {l : Land} {p : Span} {s day : Int} {a : List Nat} {i : Nat} {q : Int × Int} (h : goW true l p s day (a ++ [i]) = some q) :
    ∃ u x, goW true l p s day a = some u ∧ l.legs[i]? = some x ∧ 0 ≤ otherF x u.1 ∧ arrK true x p u.2 ≤ 100000 ∧ q = (otherF x u.1, arrK true x p u.2) := by
  rw [goW_app] at h
  cases hu : goW true l p s day a with
  | none => rw [hu] at h; simp at h
  | some u =>
    rw [hu] at h
    simp only [Option.bind_some, goW] at h
    cases hx : l.legs[i]? with
    | none => rw [hx] at h; cases h
    | some x =>
      rw [hx] at h
      simp only at h
      split at h
      · cases h
      · split at h
        · cases h
        · exact ⟨u, x, rfl, rfl, by omega, by omega, by injection h with h; exact h.symm⟩
/-- ways by one leg more, of those that are done -/
def Cand (l : Land) (p : Span) (G : Int) (L : Int × Int → Option (List Nat)) (done : Int × Int → Nat → Prop) (q : Int × Int) (a : List Nat) : Prop :=
  ∃ u w i x, L u = some w ∧ done u i ∧ l.legs[i]? = some x ∧ 0 ≤ otherF x u.1 ∧ arrK true x p u.2 ≤ G ∧ q = (otherF x u.1, arrK true x p u.2) ∧ a = w ++ [i]
def BestO (W : List Nat → Prop) : Option (List Nat) → Prop
  | none => ∀ a, ¬ W a
  | some a => Best W a
theorem BestO.congr {W W' : List Nat → Prop} {o : Option (List Nat)} (h : BestO W o) (hw : ∀ b, W' b ↔ W b) : BestO W' o := by
  cases o with
  | none => exact fun a ha => h a ((hw a).1 ha)
  | some a => exact Best.congr h hw
def bestU (c : List Nat) : Option (List Nat) → Option (List Nat)
  | none => some c
  | some d => if lexB c d = true then some c else some d
/-- one list more -/
theorem BestO.more {W W' : List Nat → Prop} {o : Option (List Nat)} {c : List Nat} (h : BestO W o) (hw : ∀ b, W' b ↔ W b ∨ b = c) :
    BestO W' (bestU c o) := by
  cases o with
  | none => exact ⟨(hw c).2 (.inr rfl), fun b hb => by
      rcases (hw b).1 hb with hb | rfl
      · exact absurd hb (h b)
      · exact lexB_irr _⟩
  | some d =>
    simp only [bestU]
    split
    · rename_i hcd
      refine ⟨(hw c).2 (.inr rfl), fun b hb => ?_⟩
      rcases (hw b).1 hb with hb | rfl
      · cases hq : lexB b c with
        | false => rfl
        | true => have := lexB_trans hq hcd; rw [h.2 b hb] at this; cases this
      · exact lexB_irr _
    · rename_i hcd
      refine ⟨(hw d).2 (.inl h.1), fun b hb => ?_⟩
      rcases (hw b).1 hb with hb | rfl
      · exact h.2 b hb
      · simpa using hcd
def Nxt (l : Land) (p : Span) (G : Int) (L N : Int × Int → Option (List Nat)) (done : Int × Int → Nat → Prop) : Prop := ∀ q, BestO (Cand l p G L done q) (N q)
theorem Nxt.congr {l : Land} {p : Span} {G : Int} {L N N' : Int × Int → Option (List Nat)} {done done' : Int × Int → Nat → Prop} (h : Nxt l p G L N done) (hN : ∀ q, N' q = N q) (hd : ∀ u w i, L u = some w → i < l.legs.length → (done' u i ↔ done u i)) : Nxt l p G L N' done' := fun q => by
  rw [hN]
  refine (h q).congr fun b => ⟨?_, ?_⟩
  · rintro ⟨u, w, i, x, h1, h2, h3⟩; exact ⟨u, w, i, x, h1, (hd u w i h1 (List.getElem?_eq_some_iff.1 h3.1).1).1 h2, h3⟩
  · rintro ⟨u, w, i, x, h1, h2, h3⟩; exact ⟨u, w, i, x, h1, (hd u w i h1 (List.getElem?_eq_some_iff.1 h3.1).1).2 h2, h3⟩
theorem Nxt.start {l : Land} {p : Span} {G : Int} {L N : Int × Int → Option (List Nat)} (hN : ∀ q, N q = none) : Nxt l p G L N (fun _ _ => False) := fun q => by
  rw [hN]; rintro a ⟨_, _, _, _, _, h, _⟩; exact h
theorem Nxt.skip {l : Land} {p : Span} {G : Int} {L N : Int × Int → Option (List Nat)} {done : Int × Int → Nat → Prop} (h : Nxt l p G L N done) {u : Int × Int} {i : Nat} {x : Leg} (hx : l.legs[i]? = some x) (hn : ¬ (0 ≤ otherF x u.1 ∧ arrK true x p u.2 ≤ G)) :
    Nxt l p G L N (fun u' i' => done u' i' ∨ u' = u ∧ i' = i) := fun q => (h q).congr fun b => ⟨by
      rintro ⟨u', w, i', x', h1, h2, h3, h4, h5, h6⟩
      rcases h2 with h2 | ⟨rfl, rfl⟩
      · exact ⟨u', w, i', x', h1, h2, h3, h4, h5, h6⟩
      · rw [hx] at h3; cases h3; exact absurd ⟨h4, h5⟩ hn, by
      rintro ⟨u', w, i', x', h1, h2, h3⟩; exact ⟨u', w, i', x', h1, .inl h2, h3⟩⟩
theorem Nxt.step {l : Land} {p : Span} {G : Int} {L N N' : Int × Int → Option (List Nat)} {done : Int × Int → Nat → Prop} (h : Nxt l p G L N done) {u : Int × Int} {w : List Nat} {i : Nat} {x : Leg} (hL : L u = some w) (hx : l.legs[i]? = some x) (h0 : 0 ≤ otherF x u.1) (h1 : arrK true x p u.2 ≤ G)
    (hN : ∀ q, N' q = if q = (otherF x u.1, arrK true x p u.2) then bestU (w ++ [i]) (N q) else N q) :
    Nxt l p G L N' (fun u' i' => done u' i' ∨ u' = u ∧ i' = i) := fun q => by
  rw [hN]
  by_cases hq : q = (otherF x u.1, arrK true x p u.2)
  · rw [if_pos hq]
    refine BestO.more (h q) fun b => ⟨?_, ?_⟩
    · rintro ⟨u', w', i', x', k1, k2, k3, k4, k5, k6, k7⟩
      rcases k2 with k2 | ⟨rfl, rfl⟩
      · exact .inl ⟨u', w', i', x', k1, k2, k3, k4, k5, k6, k7⟩
      · rw [hL] at k1; cases k1; exact .inr k7
    · rintro (⟨u', w', i', x', k1, k2, k3⟩ | rfl)
      · exact ⟨u', w', i', x', k1, .inl k2, k3⟩
      · exact ⟨u, w, i, x, hL, .inr ⟨rfl, rfl⟩, hx, h0, h1, hq, rfl⟩
  · rw [if_neg hq]
    refine (h q).congr fun b => ⟨?_, ?_⟩
    · rintro ⟨u', w', i', x', k1, k2, k3, k4, k5, k6, k7⟩
      rcases k2 with k2 | ⟨rfl, rfl⟩
      · exact ⟨u', w', i', x', k1, k2, k3, k4, k5, k6, k7⟩
      · rw [hx] at k3; cases k3; exact absurd k6 hq
    · rintro ⟨u', w', i', x', k1, k2, k3⟩
      exact ⟨u', w', i', x', k1, .inl k2, k3⟩
/-- all first ways of so many legs, until a day -/
def Rd (l : Land) (p : Span) (s day G : Int) (n : Nat) (L : Int × Int → Option (List Nat)) : Prop := ∀ q, BestO (fun a => q.2 ≤ G ∧ WayN l p s day n q a) (L q)
theorem Rd.start {l : Land} {p : Span} {s day G : Int} {L : Int × Int → Option (List Nat)} (hG : day ≤ G) (hL : ∀ q, L q = if q = (s, day) then some [] else none) : Rd l p s day G 0 L := fun q => by
  rw [hL]
  split
  · rename_i hq
    subst hq
    exact ⟨⟨hG, rfl, rfl⟩, fun b hb => by rw [List.eq_nil_of_length_eq_zero hb.2.1]; rfl⟩
  · rename_i hq
    rintro a ⟨_, h1, h2⟩
    rw [List.eq_nil_of_length_eq_zero h1] at h2
    simp only [goW, Option.some.injEq] at h2
    exact hq h2.symm
theorem Rd.next {l : Land} {p : Span} {s day G : Int} {n : Nat} {L N : Int × Int → Option (List Nat)} {done : Int × Int → Nat → Prop} (hg : OkLP l p) (h : Rd l p s day G n L) (hN : Nxt l p G L N done) (hd : ∀ u w i, L u = some w → i < l.legs.length → done u i) (hG : G ≤ 100000)
    (hd' : day ≤ 100000) (h0 : 0 ≤ s) (h1 : s < l.wells.length) : Rd l p s day G (n + 1) N := fun q => by
  have hq := hN q
  have one : ∀ a, Cand l p G L done q a → q.2 ≤ G ∧ WayN l p s day (n + 1) q a := by
    rintro a ⟨u, w, i, x, k1, _, k3, k4, k5, rfl, rfl⟩
    have := h u
    rw [k1] at this
    obtain ⟨⟨g1, g2, g3⟩, _⟩ := this
    exact ⟨k5, by simp [g2], goW_snoc (v := u.1) (u := u.2) g3 k3 (by omega) (by omega)⟩
  have two : ∀ b, (q.2 ≤ G ∧ WayN l p s day (n + 1) q b) → ∃ a, Cand l p G L done q a ∧ lexB b a = false := by
    rintro b ⟨k1, k2, k3⟩
    obtain ⟨c, i, rfl⟩ : ∃ c i, b = c ++ [i] := by
      rcases List.eq_nil_or_concat b with rfl | ⟨c, i, rfl⟩
      · simp at k2
      · exact ⟨c, i, by simp⟩
    obtain ⟨u, x, g1, g2, g3, g4, g5⟩ := goW_last k3
    have hub := goW_bd hg (v' := u.1) (t' := u.2) g1 hd' h0 h1
    have hge := arrK_ge (k := true) (t := u.2) (hg.leg g2) hg.pace (by omega)
    have hq2 : q.2 = arrK true x p u.2 := by rw [g5]
    have hu := h u
    cases hLu : L u with
    | none => rw [hLu] at hu; exact absurd ⟨by omega, by simpa using k2, g1⟩ (hu c)
    | some w =>
      rw [hLu] at hu
      have hlen : c.length = w.length := by rw [hu.1.2.1]; simpa using k2
      refine ⟨w ++ [i], ⟨u, w, i, x, hLu, hd u w i hLu (List.getElem?_eq_some_iff.1 g2).1, g2, g3, by omega, g5, rfl⟩, ?_⟩
      rw [lexB_app hlen, hu.2 c ⟨by omega, by simpa using k2, g1⟩]
      simp [lexB]
  cases hNq : N q with
  | none =>
    rw [hNq] at hq
    intro b hb
    obtain ⟨a, ha, _⟩ := two b hb
    exact hq a ha
  | some a =>
    rw [hNq] at hq
    refine ⟨one a hq.1, fun b hb => ?_⟩
    obtain ⟨c, hc, hbc⟩ := two b hb
    cases hba : lexB b a with
    | false => rfl
    | true =>
      have hca := hq.2 c hc
      cases hcb : lexB c b with
      | true => have := lexB_trans hcb hba; rw [hca] at this; cases this
      | false => rw [lexB_tri hbc hcb, hca] at hba; cases hba
/-- the surest way: it has the fewest legs, and is the first of these -/
def IsSure (l : Land) (p : Span) (s to day : Int) (a : List Nat) : Prop :=
  goW true l p s day a = some (to, reachV true l p s day to) ∧ ∀ b, goW true l p s day b = some (to, reachV true l p s day to) → a.length < b.length ∨ (a.length = b.length ∧ lexB b a = false)
theorem IsSure.uniq {l : Land} {p : Span} {s to day : Int} {a b : List Nat} (h : IsSure l p s to day a) (h' : IsSure l p s to day b) : a = b := by
  have h1 := h.2 b h'.1
  have h2 := h'.2 a h.1
  refine lexB_tri ?_ ?_
  · rcases h2 with h2 | h2
    · omega
    · exact h2.2
  · rcases h1 with h1 | h1
    · omega
    · exact h1.2
open Classical in
noncomputable def sureL (l : Land) (p : Span) (s to day : Int) : List Nat := if h : ∃ a, IsSure l p s to day a then h.choose else []
theorem sureL_eq {l : Land} {p : Span} {s to day : Int} {a : List Nat} (h : IsSure l p s to day a) : sureL l p s to day = a := by
  unfold sureL
  have hex : ∃ a, IsSure l p s to day a := ⟨a, h⟩
  rw [dif_pos hex]
  exact hex.choose_spec.uniq h
theorem Rd.sure {l : Land} {p : Span} {s to day G : Int} {n : Nat} {L : Int × Int → Option (List Nat)} {a : List Nat} (h : Rd l p s day G n L) (hG : G = reachV true l p s day to) (hL : L (to, G) = some a) (hm : ∀ m, m < n → ∀ b, ¬ WayN l p s day m (to, G) b) : IsSure l p s to day a := by
  subst hG
  have hq := h (to, reachV true l p s day to)
  rw [hL] at hq
  refine ⟨hq.1.2.2, fun b hb => ?_⟩
  by_cases hlt : b.length < n
  · exact absurd ⟨rfl, hb⟩ (hm b.length hlt b)
  · have hn := hq.1.2.1
    by_cases he : b.length = n
    · exact .inr ⟨by omega, hq.2 b ⟨Int.le_refl _, he, hb⟩⟩
    · exact .inl (by omega)
theorem Rd.not {l : Land} {p : Span} {s to day G : Int} {n : Nat} {L : Int × Int → Option (List Nat)} (h : Rd l p s day G n L) (hL : L (to, G) = none) (hm : ∀ m, m < n → ∀ b, ¬ WayN l p s day m (to, G) b) : ∀ m, m < n + 1 → ∀ b, ¬ WayN l p s day m (to, G) b := fun m hmn b hb => by
  by_cases he : m = n
  · subst he
    have := h (to, G)
    rw [hL] at this
    exact this b ⟨Int.le_refl _, hb⟩
  · exact hm m (by omega) b hb
end Go.Azalai
set_option maxRecDepth 100000
set_option maxHeartbeats 4000000
namespace Go.Azalai
open Go.Sx
open Classical in
/-- the first day at a well by just so many legs; 100001 if there is none -/
noncomputable def leastV (l : Land) (p : Span) (v t : Int) (n : Nat) (w : Int) : Int :=
  if h : ∃ m : Nat, ∃ a, WayN l p v t n (w, (m : Int)) a then ((Go.Sx.least_ex _ h).choose : Int) else 100001
theorem leastV_le {l : Land} {p : Span} (h : OkLP l p) {v t w u : Int} {n : Nat} {a : List Nat} (e : WayN l p v t n (w, u) a) (ht : 0 ≤ t) (ht' : t ≤ 100000) (h0 : 0 ≤ v) (h1 : v < l.wells.length) : leastV l p v t n w ≤ u := by
  have hb := goW_bd h e.2 ht' h0 h1
  have eu : ((u.toNat : Nat) : Int) = u := by omega
  have hex : ∃ m : Nat, ∃ a, WayN l p v t n (w, (m : Int)) a := ⟨u.toNat, a, by rw [eu]; exact e⟩
  unfold leastV
  rw [dif_pos hex]
  have := (Go.Sx.least_ex _ hex).choose_spec.2 u.toNat ⟨a, by rw [eu]; exact e⟩
  omega
theorem leastV_real {l : Land} {p : Span} {v t w : Int} {n : Nat} : leastV l p v t n w = 100001 ∨ ∃ a, WayN l p v t n (w, leastV l p v t n w) a := by
  unfold leastV
  by_cases hex : ∃ m : Nat, ∃ a, WayN l p v t n (w, (m : Int)) a
  · rw [dif_pos hex]; exact .inr (Go.Sx.least_ex _ hex).choose_spec.1
  · rw [dif_neg hex]; exact .inl rfl
theorem leastV_bd {l : Land} {p : Span} (h : OkLP l p) {v t w : Int} {n : Nat} (ht : 0 ≤ t) (ht' : t ≤ 100000) (h0 : 0 ≤ v) (h1 : v < l.wells.length) : t ≤ leastV l p v t n w ∧ leastV l p v t n w ≤ 100001 := by
  rcases leastV_real (l := l) (p := p) (v := v) (t := t) (n := n) (w := w) with e | ⟨a, e⟩
  · omega
  · have := goW_bd h e.2 ht' h0 h1; omega
theorem leastV_0 {l : Land} {p : Span} (h : OkLP l p) {v t w : Int} (ht : 0 ≤ t) (ht' : t ≤ 100000) (h0 : 0 ≤ v) (h1 : v < l.wells.length) : leastV l p v t 0 w = if w = v then t else 100001 := by
  rcases leastV_real (l := l) (p := p) (v := v) (t := t) (n := 0) (w := w) with e | ⟨a, e1, e2⟩
  · split
    · rename_i hw
      subst hw
      have := leastV_le (u := t) (a := []) (n := 0) (w := w) h ⟨rfl, rfl⟩ ht ht' h0 h1
      omega
    · exact e
  · rw [List.eq_nil_of_length_eq_zero e1] at e2
    simp only [goW, Option.some.injEq, Prod.mk.injEq] at e2
    rw [if_pos e2.1.symm]; exact e2.2.symm
noncomputable def leastR (l : Land) (p : Span) (v t : Int) (n : Nat) : List Int := (List.range l.wells.length).map fun w : Nat => leastV l p v t n (w : Int)
theorem leastR_len {l : Land} {p : Span} {v t : Int} {n : Nat} : (leastR l p v t n).length = l.wells.length := by simp [leastR]
theorem dv_least {l : Land} {p : Span} {v t w : Int} {n : Nat} (h0 : 0 ≤ w) (h1 : w < l.wells.length) : dv (leastR l p v t n) w = leastV l p v t n w := by
  obtain ⟨i, rfl⟩ : ∃ i : Nat, w = (i : Int) := ⟨w.toNat, by omega⟩
  rw [dv_get (by rw [leastR_len]; omega)]
  simp [leastR]
/-- days by one leg more, of the first legs -/
structure Lst (l : Land) (p : Span) (c d : List Int) (j : Nat) : Prop where
  len : d.length = l.wells.length
  ub : ∀ w, dv d w ≤ 100001
  le : ∀ (i : Nat) (x : Leg) (v : Int), i < j → l.legs[i]? = some x → 0 ≤ otherF x v → dv d (otherF x v) ≤ arrK true x p (dv c v)
  real : ∀ w, dv d w = 100001 ∨ ∃ (i : Nat) (x : Leg) (v : Int), l.legs[i]? = some x ∧ 0 ≤ otherF x v ∧ otherF x v = w ∧ dv d w = arrK true x p (dv c v)
theorem Lst.start {l : Land} {p : Span} {c : List Int} : Lst l p c (List.replicate l.wells.length 100001) 0 := by
  have e : ∀ w, dv (List.replicate l.wells.length 100001) w = 100001 := fun w => by
    by_cases hw : 0 ≤ w ∧ w < (List.replicate l.wells.length (100001 : Int)).length
    · obtain ⟨i, rfl⟩ : ∃ i : Nat, w = (i : Int) := ⟨w.toNat, by omega⟩
      rw [dv_get (by omega)]; simp
    · exact dv_out hw
  exact ⟨by simp, fun w => by rw [e]; exact Int.le_refl _, fun i x v h => by omega, fun w => .inl (e w)⟩
theorem lst_relax {l : Land} {p : Span} {c d : List Int} {x : Leg} {v : Int} {w : Nat} (hlen : d.length = l.wells.length) (hw : w < d.length) {i : Nat} (hx : l.legs[i]? = some x) (ho : otherF x v = w) (hub : ∀ w, dv d w ≤ 100001) (hr : ∀ w, dv d w = 100001 ∨ ∃ (i : Nat) (x : Leg) (v : Int), l.legs[i]? = some x ∧ 0 ≤ otherF x v ∧ otherF x v = w ∧ dv d w = arrK true x p (dv c v)) :
    (∀ u, dv (d.set w (min (dv d w) (arrK true x p (dv c v)))) u ≤ dv d u) ∧ (dv (d.set w (min (dv d w) (arrK true x p (dv c v)))) w ≤ arrK true x p (dv c v)) ∧
    ∀ u, dv (d.set w (min (dv d w) (arrK true x p (dv c v)))) u = 100001 ∨ ∃ (i : Nat) (y : Leg) (v' : Int), l.legs[i]? = some y ∧ 0 ≤ otherF y v' ∧ otherF y v' = u ∧ dv (d.set w (min (dv d w) (arrK true x p (dv c v)))) u = arrK true y p (dv c v') := by
  refine ⟨fun u => ?_, ?_, fun u => ?_⟩
  · rw [dv_set hw]; split
    · rename_i hu; rw [hu]; omega
    · exact Int.le_refl _
  · rw [dv_set hw, if_pos rfl]; omega
  · rw [dv_set hw]; split
    · rename_i hu
      by_cases hm : dv d w ≤ arrK true x p (dv c v)
      · rw [Int.min_eq_left hm, hu]; exact hr w
      · rw [Int.min_eq_right (by omega)]
        exact .inr ⟨i, x, v, hx, by omega, by omega, rfl⟩
    · exact hr u
theorem Lst.step {l : Land} {p : Span} {c d : List Int} {j : Nat} (h : Lst l p c d j) (hg : OkLP l p) {x : Leg} (hx : l.legs[j]? = some x) {a b : Nat} (ha : x.a = a) (hb : x.b = b) :
    Lst l p c ((d.set b (min (dv d b) (arrK true x p (dv c a)))).set a (min (dv (d.set b (min (dv d b) (arrK true x p (dv c a)))) a) (arrK true x p (dv c b)))) (j + 1) := by
  have hen := hg.ends (List.mem_of_getElem? hx)
  have hbl : b < d.length := by rw [h.len]; omega
  have hal : a < d.length := by rw [h.len]; omega
  have o1 : otherF x (a : Int) = (b : Int) := by rw [otherF, if_pos ha, hb]
  have o2 : otherF x (b : Int) = (a : Int) := by rw [otherF, if_neg (by omega), if_pos hb, ha]
  obtain ⟨q1, q2, q3⟩ := lst_relax (v := (a : Int)) h.len hbl hx o1 h.ub h.real
  have hl1 : (d.set b (min (dv d b) (arrK true x p (dv c a)))).length = d.length := List.length_set
  generalize d.set b (min (dv d b) (arrK true x p (dv c a))) = d1 at q1 q2 q3 hl1
  obtain ⟨r1, r2, r3⟩ := lst_relax (v := (b : Int)) (hl1.trans h.len) (by omega : a < d1.length) hx o2 (fun w => Int.le_trans (q1 w) (h.ub w)) q3
  have hl2 : (d1.set a (min (dv d1 a) (arrK true x p (dv c b)))).length = d1.length := List.length_set
  generalize d1.set a (min (dv d1 a) (arrK true x p (dv c b))) = d2 at r1 r2 r3 hl2
  refine ⟨by rw [hl2, hl1, h.len], fun w => Int.le_trans (r1 w) (Int.le_trans (q1 w) (h.ub w)), fun i y v hi hy ho => ?_, r3⟩
  by_cases he : i = j
  · subst he
    rw [hx] at hy; cases hy
    rcases (otherF_in hg hx (v := v) (by omega)).2.1 with ⟨e1, e2⟩ | ⟨e1, e2⟩
    · have ev : v = (a : Int) := by omega
      subst ev
      rw [o1]
      exact Int.le_trans (r1 _) q2
    · have ev : v = (b : Int) := by omega
      subst ev
      rw [o2]; exact r2
  · exact Int.le_trans (r1 _) (Int.le_trans (q1 _) (h.le i y v (by omega) hy ho))
theorem Lst.done {l : Land} {p : Span} {v t : Int} {n : Nat} {d : List Int} (h : Lst l p (leastR l p v t n) d l.legs.length) (hg : OkLP l p) (ht : 0 ≤ t) (ht' : t ≤ 100000) (h0 : 0 ≤ v) (h1 : v < l.wells.length) : d = leastR l p v t (n + 1) := by
  refine List.ext_getElem (by rw [h.len, leastR_len]) fun i hi hi' => ?_
  have hil : i < l.wells.length := by rw [h.len] at hi; exact hi
  rw [show (leastR l p v t (n + 1))[i] = leastV l p v t (n + 1) i by simp [leastR], ← dv_get hi]
  have hlow : leastV l p v t (n + 1) i ≤ dv d i := by
    rcases h.real i with e | ⟨k, x, u, hx, ho, hou, e⟩
    · rw [e]; exact (leastV_bd hg ht ht' h0 h1).2
    · have hin := otherF_in hg hx (v := u) (by omega)
      rw [dv_least hin.2.2.1 hin.2.2.2] at e
      by_cases hr : dv d i = 100001
      · rw [hr]; exact (leastV_bd hg ht ht' h0 h1).2
      · have hub := h.ub i
        have hb := arrK_bd (k := true) (t := leastV l p v t n u) (hg.leg hx) hg.pace (leastV_bd hg ht ht' h0 h1).2
        rcases leastV_real (l := l) (p := p) (v := v) (t := t) (n := n) (w := u) with e' | ⟨a, e1, e2⟩
        · omega
        · rw [e, ← hou]
          exact leastV_le hg ⟨by simp [e1], goW_snoc e2 hx (by omega) (by omega)⟩ ht ht' h0 h1
  have hup : dv d i ≤ leastV l p v t (n + 1) i := by
    rcases leastV_real (l := l) (p := p) (v := v) (t := t) (n := n + 1) (w := i) with e' | ⟨b, e1, e2⟩
    · rw [e']; exact h.ub i
    · obtain ⟨c, k, rfl⟩ : ∃ c k, b = c ++ [k] := by
        rcases List.eq_nil_or_concat b with rfl | ⟨c, k, rfl⟩
        · simp at e1
        · exact ⟨c, k, by simp⟩
      obtain ⟨u, x, g1, g2, g3, g4, g5⟩ := goW_last e2
      have hin := otherF_in hg g2 (v := u.1) (by omega)
      have := h.le k x u.1 (List.getElem?_eq_some_iff.1 g2).1 g2 g3
      rw [dv_least hin.2.2.1 hin.2.2.2] at this
      have hl := leastV_le (n := n) (w := u.1) (u := u.2) hg ⟨by simpa using e1, g1⟩ ht ht' h0 h1
      have hm := arrK_mono (k := true) (hg.leg g2) hg.pace hl
      simp only [Prod.mk.injEq] at g5
      rw [← g5.1] at this
      omega
  omega
theorem leastR_0 {l : Land} {p : Span} (hg : OkLP l p) {t : Int} {v : Nat} (ht : 0 ≤ t) (ht' : t ≤ 100000) (h1 : v < l.wells.length) : (List.replicate l.wells.length (100001 : Int)).set v t = leastR l p v t 0 := by
  refine List.ext_getElem (by simp [leastR_len]) fun i hi hi' => ?_
  simp only [leastR, List.getElem_map, List.getElem_range, List.getElem_set, List.getElem_replicate]
  rw [leastV_0 hg ht ht' (by omega) (by omega)]
  by_cases e : v = i
  · subst e; simp
  · rw [if_neg e, if_neg (by omega)]
/-- the way leg by leg: what is gone is the beginning of the first one of all that have as many legs -/
structure Gr (l : Land) (p : Span) (s day to best : Int) (n0 n : Nat) (v t : Int) (out : List Nat) : Prop where
  go : goW true l p s day out = some (v, t)
  len : out.length + n = n0
  least : leastV l p v t n to = best
  pre : ∀ b, b.length = n0 → goW true l p s day b = some (to, best) → b.take out.length = out ∨ lexB out (b.take out.length) = true
/-- a leg by which one is there in time -/
def Fit (l : Land) (p : Span) (to best : Int) (n : Nat) (v t : Int) (i : Nat) : Prop := ∃ x, l.legs[i]? = some x ∧ 0 ≤ otherF x v ∧ arrK true x p t < 100001 ∧ leastV l p (otherF x v) (arrK true x p t) n to = best
theorem Gr.start {l : Land} {p : Span} {s day to best : Int} {n : Nat} (h : leastV l p s day n to = best) : Gr l p s day to best n n s day [] := ⟨rfl, by simp, h, fun _ _ _ => .inl (by simp)⟩
theorem goW_cons {l : Land} {p : Span} {v t : Int} {i : Nat} {c : List Nat} {q : Int × Int} (h : goW true l p v t (i :: c) = some q) : ∃ x, l.legs[i]? = some x ∧ 0 ≤ otherF x v ∧ arrK true x p t ≤ 100000 ∧ goW true l p (otherF x v) (arrK true x p t) c = some q := by
  simp only [goW] at h
  cases hx : l.legs[i]? with
  | none => rw [hx] at h; cases h
  | some x =>
    rw [hx] at h
    simp only at h
    split at h
    · cases h
    · split at h
      · cases h
      · exact ⟨x, rfl, by omega, by omega, h⟩
/-- a leg that is the next one of a whole way fits -/
theorem Gr.fit {l : Land} {p : Span} {s day to best : Int} {n0 n : Nat} {v t : Int} {out : List Nat} (h : Gr l p s day to best n0 (n + 1) v t out) (hg : OkLP l p) (hd : 0 ≤ day) (hd' : day ≤ 100000) (h0 : 0 ≤ s) (h1 : s < l.wells.length) (hb : best = reachV true l p s day to) {i : Nat} {c : List Nat} (hc : c.length = n)
    (hw : goW true l p v t (i :: c) = some (to, best)) : Fit l p to best n v t i := by
  obtain ⟨x, g1, g2, g3, g4⟩ := goW_cons hw
  have hbd := goW_bd hg h.go hd' h0 h1
  have hin := otherF_in hg g1 (v := v) (by omega)
  have ha := arrK_bd (k := true) (t := t) (hg.leg g1) hg.pace (by omega)
  have hle := leastV_le (n := n) (w := to) (u := best) hg ⟨hc, g4⟩ (by omega) g3 hin.1.1 hin.1.2
  refine ⟨x, g1, g2, by omega, ?_⟩
  rcases leastV_real (l := l) (p := p) (v := otherF x v) (t := arrK true x p t) (n := n) (w := to) with e | ⟨a, e1, e2⟩
  · have := goW_bd hg g4 g3 hin.1.1 hin.1.2; omega
  · have hgo : goW true l p s day (out ++ (i :: a)) = some (to, leastV l p (otherF x v) (arrK true x p t) n to) := by
      rw [goW_app, h.go]
      simp only [Option.bind_some, goW, g1]
      rw [if_neg (by omega), if_neg (by omega)]
      exact e2
    have := reachV_le hg hgo hd hd' h0 h1
    omega
theorem Gr.ex {l : Land} {p : Span} {s day to best : Int} {n0 n : Nat} {v t : Int} {out : List Nat} (h : Gr l p s day to best n0 (n + 1) v t out) (hg : OkLP l p) (hd : 0 ≤ day) (hd' : day ≤ 100000) (h0 : 0 ≤ s) (h1 : s < l.wells.length) (hb : best = reachV true l p s day to) (hb' : best ≤ 100000) :
    ∃ i, i < l.legs.length ∧ Fit l p to best n v t i := by
  rcases leastV_real (l := l) (p := p) (v := v) (t := t) (n := n + 1) (w := to) with e | ⟨a, e1, e2⟩
  · have := h.least; omega
  · rw [h.least] at e2
    cases a with
    | nil => simp at e1
    | cons i c =>
      have hf := h.fit hg hd hd' h0 h1 hb (by simpa using e1) e2
      have hf' := hf
      obtain ⟨x, hx, _⟩ := hf'
      exact ⟨i, (List.getElem?_eq_some_iff.1 hx).1, hf⟩
theorem Gr.step {l : Land} {p : Span} {s day to best : Int} {n0 n : Nat} {v t : Int} {out : List Nat} (h : Gr l p s day to best n0 (n + 1) v t out) (hg : OkLP l p) (hd : 0 ≤ day) (hd' : day ≤ 100000) (h0 : 0 ≤ s) (h1 : s < l.wells.length) (hb : best = reachV true l p s day to) {i : Nat} {x : Leg} (hx : l.legs[i]? = some x) (ho : 0 ≤ otherF x v) (ha : arrK true x p t < 100001)
    (hf : leastV l p (otherF x v) (arrK true x p t) n to = best) (hm : ∀ j, j < i → ¬ Fit l p to best n v t j) : Gr l p s day to best n0 n (otherF x v) (arrK true x p t) (out ++ [i]) := by
  refine ⟨goW_snoc h.go hx (by omega) (by omega), by have := h.len; simp; omega, hf, fun b hbl hbw => ?_⟩
  have hlen := h.len
  have hsplit : b.take (out ++ [i]).length = b.take out.length ++ (b[out.length]?).toList := by
    rw [List.length_append, List.length_singleton]; exact List.take_add_one
  have hlt : out.length < b.length := by omega
  rw [hsplit, List.getElem?_eq_getElem hlt, Option.toList_some]
  have hl : out.length = (b.take out.length).length := by rw [List.length_take]; omega
  rcases h.pre b hbl hbw with e | e
  · rw [e]
    have hbeq : b = out ++ (b[out.length] :: b.drop (out.length + 1)) := by
      conv => lhs; rw [← List.take_append_drop out.length b, e, List.drop_eq_getElem_cons hlt]
    have hw2 : goW true l p v t (b[out.length] :: b.drop (out.length + 1)) = some (to, best) := by
      rw [hbeq, goW_app, h.go] at hbw
      simpa using hbw
    have hfit := h.fit hg hd hd' h0 h1 hb (by rw [List.length_drop]; omega) hw2
    by_cases heq : b[out.length] = i
    · left; rw [heq]
    · right
      have : ¬ b[out.length] < i := fun hlt' => hm _ hlt' hfit
      rw [lexB_app rfl]
      simp [lexB, lexB_irr]
      omega
  · right
    rw [lexB_app hl, e]; rfl
theorem Gr.done {l : Land} {p : Span} {s day to best : Int} {n0 : Nat} {v t : Int} {out : List Nat} (h : Gr l p s day to best n0 0 v t out) (hg : OkLP l p) (hd : 0 ≤ day) (hd' : day ≤ 100000) (h0 : 0 ≤ s) (h1 : s < l.wells.length) (hb : best = reachV true l p s day to) (hb' : best ≤ 100000)
    (hm : ∀ m, m < n0 → leastV l p s day m to ≠ best) : IsSure l p s to day out := by
  have hbd := goW_bd hg h.go hd' h0 h1
  have h2 := h.least
  rw [leastV_0 hg (by omega) (by omega) hbd.2.2.1 hbd.2.2.2] at h2
  split at h2
  case isFalse => omega
  rename_i hv
  subst hv; subst h2
  have hlen := h.len
  refine ⟨by rw [← hb]; exact h.go, fun b hbw => ?_⟩
  rw [← hb] at hbw
  by_cases hlt : b.length < n0
  · refine absurd ?_ (hm b.length hlt)
    have q1 := leastV_le (n := b.length) hg ⟨rfl, hbw⟩ hd hd' h0 h1
    rcases leastV_real (l := l) (p := p) (v := s) (t := day) (n := b.length) (w := to) with e | ⟨a, e1, e2⟩
    · omega
    · have := reachV_le hg e2 hd hd' h0 h1; omega
  · by_cases he : b.length = n0
    · refine .inr ⟨by omega, ?_⟩
      have hpre := h.pre b he hbw
      rw [List.take_of_length_le (by omega)] at hpre
      rcases hpre with rfl | hpre
      · exact lexB_irr _
      · cases hq : lexB b out with
        | false => rfl
        | true => have := lexB_trans hpre hq; rw [lexB_irr] at this; cases this
    · exact .inl (by omega)
/-- there is a number of legs by which one is there first -/
theorem least_some {l : Land} {p : Span} {s day to : Int} (hg : OkLP l p) (hd : 0 ≤ day) (hd' : day ≤ 100000) (h0 : 0 ≤ s) (h1 : s < l.wells.length) (hb : reachV true l p s day to ≤ 100000) : ∃ n, n ≤ 100000 ∧ leastV l p s day n to = reachV true l p s day to ∧ ∀ m, m < n → leastV l p s day m to ≠ reachV true l p s day to := by
  have hex : ∃ n, leastV l p s day n to = reachV true l p s day to := by
    rcases reachV_real (k := true) (l := l) (p := p) (s := s) (day := day) (v := to) with e | ⟨a, e⟩
    · omega
    · refine ⟨a.length, ?_⟩
      have q1 := leastV_le (n := a.length) hg ⟨rfl, e⟩ hd hd' h0 h1
      rcases leastV_real (l := l) (p := p) (v := s) (t := day) (n := a.length) (w := to) with e' | ⟨b, e1, e2⟩
      · omega
      · have := reachV_le hg e2 hd hd' h0 h1; omega
  obtain ⟨n, hn, hmin⟩ := Go.Sx.least_ex _ hex
  refine ⟨n, ?_, hn, fun m hm e => by have := hmin m e; omega⟩
  rcases leastV_real (l := l) (p := p) (v := s) (t := day) (n := n) (w := to) with e' | ⟨b, e1, e2⟩
  · omega
  · have := goW_bd hg e2 hd' h0 h1; omega
end Go.Azalai
set_option maxRecDepth 100000
set_option maxHeartbeats 4000000
namespace Go.Azalai
open Go.Sx
structure Stop where
  leg : Int
  well : Int
  leaves : Span
  arrives : Span
deriving DecidableEq
/-- the place of the first leg that has no end where one is -/
def badAt (l : Land) : Int → List Int → Nat → Option Nat
  | _, [], _ => none
  | v, i :: r, k => if endF l i v < 0 then some k else badAt l (endF l i v) r (k + 1)
/-- the wells that one comes to -/
def endsW (l : Land) : Int → List Int → List Int
  | _, [] => []
  | v, i :: r => if endF l i v < 0 then [] else endF l i v :: endsW l (endF l i v) r
def goS (l : Land) (p : Span) : Int → Int → Int → List Int → Nat → List Stop → List Stop × Int × Int
  | _, _, _, [], _, acc => (acc, 0, 0)
  | v, a, b, i :: r, k, acc => match l.legs[i.toNat]? with
    | none => ([], 0, 0)
    | some x => if arrK true x p b > 100000 then ([], k, 34)
      else goS l p (otherF x v) (arrK false x p a) (arrK true x p b) r (k + 1) (acc ++ [⟨i, otherF x v, ⟨leK false x p a, leK true x p b⟩, ⟨arrK false x p a, arrK true x p b⟩⟩])
def walkF (l : Land) (p : Span) (s day : Int) (legs : List Int) : List Stop × Int × Int :=
  if askF l p ≠ 0 then ([], 0, askF l p)
  else if (inR 0 (l.wells.length - 1) s && inR 0 100000 day) = false then ([], 0, 2)
  else if legs.length > 24 then ([], 0, 4)
  else match badAt l s legs 0 with
    | some k => ([], k, 8)
    | none => goS l p s day day legs 0 []
theorem endF_ok {l : Land} {i v : Int} (h : ¬ endF l i v < 0) : ∃ k : Nat, ∃ x, i = (k : Int) ∧ ∃ hk : k < l.legs.length, l.legs[k]? = some x ∧ l.legs[k] = x ∧ endF l i v = otherF x v := by
  unfold endF at h ⊢
  split at h
  · rename_i hk
    refine ⟨i.toNat, l.legs[i.toNat], by omega, hk.2, by simp [hk.2], rfl, ?_⟩
    rw [dif_pos hk]
  · omega
theorem endF_le {l : Land} {i v : Int} : i < 0 ∨ (l.legs.length : Int) ≤ i → endF l i v = -1 := fun h => by
  unfold endF; rw [dif_neg (by omega)]
theorem endF_at {l : Land} {k : Nat} {v : Int} (hk : k < l.legs.length) : endF l k v = otherF l.legs[k] v := by
  unfold endF; rw [dif_pos ⟨by omega, by simpa using hk⟩]; simp
theorem drop_succ {α : Type} {l : List α} {j : Nat} (h : j < l.length) : l.drop j = l[j] :: l.drop (j + 1) := List.drop_eq_getElem_cons h
/-- the ends in a row: of a way without a bad leg -/
theorem endsW_len {l : Land} : ∀ {legs : List Int} {v : Int} {k : Nat}, badAt l v legs k = none → (endsW l v legs).length = legs.length
  | [], _, _, _ => rfl
  | i :: r, v, k, h => by
    simp only [badAt] at h
    simp only [endsW]
    split at h
    · cases h
    · rename_i hn; rw [if_neg hn, List.length_cons, List.length_cons, endsW_len h]
/-- first loop: so far no bad leg, and one is at a well -/
structure W1 (l : Land) (s : Int) (legs : List Int) (j : Nat) (v : Int) (ends : List Int) : Prop where
  bad : badAt l s legs 0 = badAt l v (legs.drop j) j
  eds : endsW l s legs = ends ++ endsW l v (legs.drop j)
  len : ends.length = j
  inn : 0 ≤ v ∧ v < l.wells.length
theorem W1.start {l : Land} {s : Int} {legs : List Int} (h : 0 ≤ s ∧ s < l.wells.length) : W1 l s legs 0 s [] := ⟨by simp, by simp, rfl, h⟩
theorem W1.step {l : Land} {p : Span} {s : Int} {legs : List Int} {j : Nat} {v : Int} {ends : List Int} (h : W1 l s legs j v ends) (hg : OkLP l p) (hj : j < legs.length) (he : ¬ endF l legs[j] v < 0) : W1 l s legs (j + 1) (endF l legs[j] v) (ends ++ [endF l legs[j] v]) := by
  obtain ⟨k, x, _, _, hx, _, e⟩ := endF_ok he
  refine ⟨?_, ?_, by simp [h.len], by rw [e] at he ⊢; exact (otherF_in hg hx he).1⟩
  · rw [h.bad, drop_succ hj]; simp only [badAt]; rw [if_neg he]
  · rw [h.eds, drop_succ hj]; simp only [endsW]; rw [if_neg he]; simp
theorem W1.stop {l : Land} {s : Int} {legs : List Int} {j : Nat} {v : Int} {ends : List Int} (h : W1 l s legs j v ends) (hj : j < legs.length) (he : endF l legs[j] v < 0) : badAt l s legs 0 = some j := by
  rw [h.bad, drop_succ hj]; simp only [badAt]; rw [if_pos he]
theorem W1.done {l : Land} {s : Int} {legs : List Int} {v : Int} {ends : List Int} (h : W1 l s legs legs.length v ends) : badAt l s legs 0 = none ∧ ends = endsW l s legs := by
  have h1 := h.bad
  have h2 := h.eds
  rw [List.drop_of_length_le (Nat.le_refl _)] at h1 h2
  exact ⟨by rw [h1]; rfl, by rw [h2]; simp [endsW]⟩
/-- second loop -/
structure W2 (l : Land) (p : Span) (s day : Int) (legs : List Int) (j : Nat) (v a b : Int) (acc : List Stop) : Prop where
  eq : goS l p s day day legs 0 [] = goS l p v a b (legs.drop j) j acc
  bad : badAt l v (legs.drop j) j = none
  ends : (endsW l s legs).drop j = endsW l v (legs.drop j)
  inn : 0 ≤ v ∧ v < l.wells.length
  da : 0 ≤ a ∧ a ≤ 100001
  db : 0 ≤ b ∧ b ≤ 100000
  len : acc.length = j
theorem W2.start {l : Land} {p : Span} {s day : Int} {legs : List Int} (h : badAt l s legs 0 = none) (hs : 0 ≤ s ∧ s < l.wells.length) (hd : 0 ≤ day ∧ day ≤ 100000) : W2 l p s day legs 0 s day day [] := ⟨by simp, by simpa using h, by simp, hs, ⟨hd.1, by omega⟩, hd, rfl⟩
theorem W2.at {l : Land} {p : Span} {s day : Int} {legs : List Int} {j : Nat} {v a b : Int} {acc : List Stop} (h : W2 l p s day legs j v a b acc) (hj : j < legs.length) : ∃ k : Nat, ∃ hk : k < l.legs.length, legs[j] = (k : Int) ∧ endF l legs[j] v = otherF l.legs[k] v ∧ 0 ≤ otherF l.legs[k] v ∧ (endsW l s legs)[j]? = some (otherF l.legs[k] v) := by
  have hb := h.bad
  have he := h.ends
  rw [drop_succ hj] at hb he
  simp only [badAt] at hb
  simp only [endsW] at he
  split at hb
  · cases hb
  · rename_i hn
    rw [if_neg hn] at he
    obtain ⟨k, x, e1, hk, e2, e3, e4⟩ := endF_ok hn
    subst e3
    refine ⟨k, hk, e1, e4, by omega, ?_⟩
    have := congrArg (fun q => q[0]?) he
    simp only [List.getElem?_drop, Nat.add_zero, List.getElem?_cons_zero] at this
    rw [this, e4]
theorem W2.step {l : Land} {p : Span} {s day : Int} {legs : List Int} {j : Nat} {v a b : Int} {acc : List Stop} (h : W2 l p s day legs j v a b acc) (hg : OkLP l p) (hj : j < legs.length) {k : Nat} (hk : k < l.legs.length) (hl : legs[j] = (k : Int)) (hr : ¬ arrK true l.legs[k] p b > 100000) (ho : 0 ≤ otherF l.legs[k] v) :
    W2 l p s day legs (j + 1) (otherF l.legs[k] v) (arrK false l.legs[k] p a) (arrK true l.legs[k] p b) (acc ++ [⟨k, otherF l.legs[k] v, ⟨leK false l.legs[k] p a, leK true l.legs[k] p b⟩, ⟨arrK false l.legs[k] p a, arrK true l.legs[k] p b⟩⟩]) := by
  have hx : l.legs[k]? = some l.legs[k] := List.getElem?_eq_getElem hk
  have hend : endF l legs[j] v = otherF l.legs[k] v := by rw [hl]; exact endF_at hk
  have hb := h.bad
  have he := h.ends
  rw [drop_succ hj] at hb he
  simp only [badAt, hend] at hb
  rw [if_neg (by omega)] at hb
  simp only [endsW, hend] at he
  rw [if_neg (by omega)] at he
  have ha := arrK_ge (k := false) (hg.leg hx) hg.pace h.da.2
  have ha' := arrK_bd (k := false) (hg.leg hx) hg.pace h.da.2
  have hb' := arrK_ge (k := true) (t := b) (hg.leg hx) hg.pace (by have := h.db; omega)
  have h1 := h.da
  have h2 := h.db
  refine ⟨?_, hb, ?_, (otherF_in hg hx (by omega)).1, by omega, by omega, by simp [h.len]⟩
  · rw [h.eq, drop_succ hj, hl]
    simp only [goS, Int.toNat_natCast, hx]
    rw [if_neg hr]
  · have := congrArg (List.drop 1) he
    simpa [List.drop_drop, Nat.add_comm] using this
theorem W2.stop {l : Land} {p : Span} {s day : Int} {legs : List Int} {j : Nat} {v a b : Int} {acc : List Stop} (h : W2 l p s day legs j v a b acc) (hj : j < legs.length) {k : Nat} (hk : k < l.legs.length) (hl : legs[j] = (k : Int)) (hr : arrK true l.legs[k] p b > 100000) : goS l p s day day legs 0 [] = ([], (j : Int), 34) := by
  rw [h.eq, drop_succ hj, hl]
  simp only [goS, Int.toNat_natCast, List.getElem?_eq_getElem hk]
  rw [if_pos hr]
theorem W2.done {l : Land} {p : Span} {s day : Int} {legs : List Int} {v a b : Int} {acc : List Stop} (h : W2 l p s day legs legs.length v a b acc) : goS l p s day day legs 0 [] = (acc, 0, 0) := by
  rw [h.eq, List.drop_of_length_le (Nat.le_refl _)]; rfl
end Go.Azalai
set_option maxRecDepth 100000
set_option maxHeartbeats 4000000
namespace Go.Proofs.Ytkjldleglbbkeaa
open Go Go.Sx Go.Azalai
def stopL (s : Stop) : List SV := [I s.leg, I s.well, I s.leaves.lo, I s.leaves.hi, I s.arrives.lo, I s.arrives.hi]
def walkR (r : List Stop × Int × Int) : SV := .tup [rowsZ r.2.2 6 (r.1.map stopL), I r.2.1, I r.2.2]
theorem walkR_kf (r : List Stop × Int × Int) : KF (walkR r) := by
  unfold walkR rowsZ; split <;> simp [KFL, KF, KFR_iff, stopL]
theorem wwalk_ok (l : Land) (hs : Small l) (s day : Int) (p : Span) (legs : List Int) (hl : legs.length ≤ 1000) (c : Bool) : Ct Try.prog 34 [.agg (landL l), I s, I day, .agg (spanL p), .sl c 1 (legs.map intL)] (walkR (walkF l p s day legs)) := by
  have hw := hs.1
  have hleg := hs.2.1
  refine t34 (by simp [landL, wellL, legL, gateL, spanL, intL, KFR_iff, KFL, KF]) (walkR_kf _) ?_
  dsimp only [c34, r34, landL, spanL, go_sem, Nat.reduceAdd, Nat.reduceMul, Nat.reduceSub]
  by_cases ha : askF l p = 0
  case neg =>
    refine call (open_err l hs p ha) ?_
    dsimp only [go_sem, Nat.reduceAdd, Nat.reduceMul, Nat.reduceSub]
    refine br_t (by simpa using ha) ?_
    dsimp only [go_sem, Nat.reduceAdd, Nat.reduceMul, Nat.reduceSub]
    simp [walkF, ha, walkR, rowsZ]
  have hok := ask_ok ha
  refine call (open_ok l hs p ha) ?_
  dsimp only [carL, go_sem, Nat.reduceAdd, Nat.reduceMul, Nat.reduceSub]
  refine br_f (by decide) ?_
  dsimp only [go_sem, Nat.reduceAdd, Nat.reduceMul, Nat.reduceSub]
  simp only [List.length_map]
  have h1 := okLand_len hok.land
  rw [w64_in (n := (l.wells.length : Int) - 1) (by omega) (by omega)]
  refine call (from1 0 (l.wells.length - 1) s true) ?_
  dsimp only [go_sem, Nat.reduceAdd, Nat.reduceMul, Nat.reduceSub]
  repeat (first | (refine gb ?_; dsimp only [go_sem, Nat.reduceAdd, Nat.reduceMul, Nat.reduceSub]) | (refine call (from1 0 100000 day true) ?_; dsimp only [go_sem, Nat.reduceAdd, Nat.reduceMul, Nat.reduceSub]))
  by_cases hr : (inR 0 (l.wells.length - 1) s && inR 0 100000 day) = true
  case neg =>
    refine br_t (by simpa [Bool.and_eq_true, ← Bool.not_and] using hr) ?_
    dsimp only [go_sem, Nat.reduceAdd, Nat.reduceMul, Nat.reduceSub]
    simp [walkF, ha, walkR, rowsZ, hr]
  refine br_f (by simpa [← Bool.not_and] using hr) ?_
  dsimp only [go_sem, Nat.reduceAdd, Nat.reduceMul, Nat.reduceSub]
  simp only [List.length_map]
  by_cases hm : legs.length > 24
  · refine br_t (by simp; omega) ?_
    dsimp only [go_sem, Nat.reduceAdd, Nat.reduceMul, Nat.reduceSub]
    simp only [walkF, ha, hr, ne_eq, not_true_eq_false, if_false, Bool.true_eq_false, hm, if_true, walkR, rowsZ]
    simp
  refine br_f (by simp; omega) ?_
  dsimp only [go_sem, Nat.reduceAdd, Nat.reduceMul, Nat.reduceSub]
  simp only [List.length_map]
  have hF1 : ∀ k, badAt l s legs 0 = some k → walkF l p s day legs = ([], (k : Int), 8) := fun k h => by
    simp only [walkF, ha, hr, ne_eq, not_true_eq_false, if_false, Bool.true_eq_false, hm, h]
  have hF2 : badAt l s legs 0 = none → walkF l p s day legs = goS l p s day day legs 0 [] := fun h => by
    simp only [walkF, ha, hr, ne_eq, not_true_eq_false, if_false, Bool.true_eq_false, hm, h]
  simp only [Bool.and_eq_true, inR, decide_eq_true_eq] at hr
  obtain ⟨hr1, hd⟩ := hr
  refine loopG (ent_nilslot 14 1 3 rfl rfl) (fun q : Nat × Nat × Int × List Int => [(54, I q.1), (14, .mr 3 q.2.1), (15, I q.2.2.1)]) (fun q => [(3, .row q.2.1 1 (q.2.2.2.map intL) 3)])
    (fun q => q.1 ≤ legs.length ∧ W1 l s legs q.1 q.2.2.1 q.2.2.2) (fun q => legs.length - q.1) (0, 0, s, []) ⟨Nat.zero_le _, W1.start (by omega)⟩ ?_ ?_
  · (refine ent_id ?_ ?_ ?_ rfl rfl <;> dsimp only [spanL, wellL, legL, gateL, intL, id, go_sem, Nat.reduceAdd, Nat.reduceMul, Nat.reduceSub] <;> simp [spanL, wellL, legL, gateL, intL, KFR_iff, KFR_app, KFR, KFL, KF, mtL_same, mtO, Nat.beq_refl])
  rintro ⟨j, v, well, ends⟩ ⟨hj, hI⟩
  simp only at hj hI
  dsimp only [go_sem, Nat.reduceAdd, Nat.reduceMul, Nat.reduceSub]
  by_cases hlt : j < legs.length
  · refine br_t (by simpa using hlt) ?_
    dsimp only [go_sem, Nat.reduceAdd, Nat.reduceMul, Nat.reduceSub]
    refine ixs_map j hlt rfl ?_
    dsimp only [intL, go_sem, Nat.reduceAdd, Nat.reduceMul, Nat.reduceSub]
    refine call (end_ok l p legs[j] well hleg) ?_
    dsimp only [go_sem, Nat.reduceAdd, Nat.reduceMul, Nat.reduceSub]
    by_cases hn : endF l legs[j] well < 0
    · refine br_t (by simpa using hn) ?_
      dsimp only [go_sem, Nat.reduceAdd, Nat.reduceMul, Nat.reduceSub]
      rw [hF1 j (hI.stop hlt hn)]
      simp [walkR, rowsZ]
    refine br_f (by simpa using hn) ?_
    dsimp only [go_sem, Nat.reduceAdd, Nat.reduceMul, Nat.reduceSub]
    simp only [Nat.beq_refl]
    dsimp only [go_sem, Nat.reduceAdd, Nat.reduceMul, Nat.reduceSub]
    have hst := hI.step hok hlt hn
    refine ⟨(by intro c hc; simp only [List.mem_singleton] at hc; subst hc; rfl), by have := hI.len; simp; omega, ?_⟩
    dsimp only [go_sem, Nat.reduceAdd, Nat.reduceMul, Nat.reduceSub]
    rw [w64_in (n := (j : Int) + 1) (by omega) (by omega)]
    have e : ends.map intL ++ [[SV.v (.int .i64 (endF l legs[j] well))]] = (ends ++ [endF l legs[j] well]).map intL := by simp [intL]
    rw [e]
    refine ⟨(j + 1, v + 1, endF l legs[j] well, ends ++ [endF l legs[j] well]), ⟨hlt, hst⟩, by simp only; omega, ?_⟩
    (refine ent_id ?_ ?_ ?_ rfl rfl <;> dsimp only [spanL, wellL, legL, gateL, intL, id, go_sem, Nat.reduceAdd, Nat.reduceMul, Nat.reduceSub] <;> simp [spanL, wellL, legL, gateL, intL, KFR_iff, KFR_app, KFR, KFL, KF, mtL_same, mtO, Nat.beq_refl])
  refine br_f (by simp; omega) ?_
  dsimp only [go_sem, Nat.reduceAdd, Nat.reduceMul, Nat.reduceSub]
  have hje : j = legs.length := by omega
  subst hje
  obtain ⟨hbad, hends⟩ := hI.done
  subst hends
  have hF := hF2 hbad
  have hlen := endsW_len hbad
  have h2 := W2.start (p := p) hbad (by omega) hd
  clear hI
  refine loopG (ent_nilslot 10 6 92 rfl rfl) (fun q : Nat × Nat × Int × Int × Int × List Stop => [(76, I q.1), (10, .mr 5 q.2.1)]) (fun q => [(5, .row q.2.1 6 (q.2.2.2.2.2.map stopL) 92), (4, .cells [I q.2.2.2.1, I q.2.2.2.2.1] 123)])
    (fun q => q.1 ≤ legs.length ∧ W2 l p s day legs q.1 q.2.2.1 q.2.2.2.1 q.2.2.2.2.1 q.2.2.2.2.2) (fun q => legs.length - q.1) (0, 0, s, day, day, []) ⟨Nat.zero_le _, h2⟩ ?_ ?_
  · (refine ent_id ?_ ?_ ?_ rfl rfl <;> dsimp only [spanL, wellL, legL, gateL, intL, stopL, id, go_sem, Nat.reduceAdd, Nat.reduceMul, Nat.reduceSub] <;> simp [spanL, wellL, legL, gateL, intL, stopL, KFR_iff, KFR_app, KFR, KFL, KF, mtL_same, mtO, Nat.beq_refl])
  clear h2
  rintro ⟨j, u, wl, a, b, acc⟩ ⟨hj, hI⟩
  simp only at hj hI
  dsimp only [go_sem, Nat.reduceAdd, Nat.reduceMul, Nat.reduceSub]
  by_cases hlt : j < legs.length
  · refine br_t (by simpa using hlt) ?_
    dsimp only [go_sem, Nat.reduceAdd, Nat.reduceMul, Nat.reduceSub]
    refine ixs_map j hlt rfl ?_
    dsimp only [intL, go_sem, Nat.reduceAdd, Nat.reduceMul, Nat.reduceSub]
    obtain ⟨k, hk, hlk, _, ho, hej⟩ := hI.at hlt
    have hgl : GoodLeg l.legs[k] := okLand_leg hok.land _ (List.getElem_mem _)
    have hda := hI.da
    have hdb := hI.db
    have q0 : inR 0 100001 a = true := by simp only [inR, decide_eq_true_eq]; omega
    have q1 : inR 0 100001 b = true := by simp only [inR, decide_eq_true_eq]; omega
    simp only [hlk]
    refine call (leave_ok l p k hk a b hgl hok.pace q0 q1) ?_
    dsimp only [go_sem, Nat.reduceAdd, Nat.reduceMul, Nat.reduceSub]
    refine call (arrive_ok l p k hk a b hgl hok.pace q0 q1) ?_
    dsimp only [go_sem, Nat.reduceAdd, Nat.reduceMul, Nat.reduceSub]
    refine ixa 1 rfl (by decide) ?_
    dsimp only [go_sem, Nat.reduceAdd, Nat.reduceMul, Nat.reduceSub]
    by_cases hR : arrK true l.legs[k] p b > 100000
    · refine br_t (by simpa using hR) ?_
      dsimp only [go_sem, Nat.reduceAdd, Nat.reduceMul, Nat.reduceSub]
      rw [hF, hI.stop hlt hk hlk hR]
      simp [walkR, rowsZ]
    refine br_f (by simpa using hR) ?_
    dsimp only [go_sem, Nat.reduceAdd, Nat.reduceMul, Nat.reduceSub]
    simp only [Nat.beq_refl]
    dsimp only [go_sem, Nat.reduceAdd, Nat.reduceMul, Nat.reduceSub]
    have hjl : j < (endsW l s legs).length := by omega
    simp only [List.length_map]
    refine ixrm j rfl hjl ?_
    dsimp only [go_sem, Nat.reduceAdd, Nat.reduceMul, Nat.reduceSub]
    simp only [Nat.beq_refl]
    dsimp only [go_sem, Nat.reduceAdd, Nat.reduceMul, Nat.reduceSub]
    refine ldrm hjl ?_
    dsimp only [intL, go_sem, Nat.reduceAdd, Nat.reduceMul, Nat.reduceSub]
    have hej' : (endsW l s legs)[j] = otherF l.legs[k] wl := by rw [List.getElem?_eq_getElem hjl] at hej; exact Option.some.inj hej
    rw [hej']
    refine call (bspan_ok _ _) ?_
    dsimp only [go_sem, Nat.reduceAdd, Nat.reduceMul, Nat.reduceSub]
    refine call (bspan_ok _ _) ?_
    dsimp only [go_sem, Nat.reduceAdd, Nat.reduceMul, Nat.reduceSub]
    simp only [Nat.beq_refl]
    dsimp only [go_sem, Nat.reduceAdd, Nat.reduceMul, Nat.reduceSub]
    have hst := hI.step hok hlt hk hlk hR ho
    refine ⟨(by intro c hc; simp only [List.mem_singleton] at hc; subst hc; rfl), by have := hI.len; simp; omega, ?_⟩
    dsimp only [go_sem, Nat.reduceAdd, Nat.reduceMul, Nat.reduceSub]
    rw [w64_in (n := (j : Int) + 1) (by omega) (by omega)]
    have e : acc.map stopL ++ [[SV.v (.int .i64 (k : Int)), SV.v (.int .i64 (otherF l.legs[k] wl)), SV.v (.int .i64 (mayF l.legs[k] p a)), SV.v (.int .i64 (canF l.legs[k] p b)), SV.v (.int .i64 (arrK false l.legs[k] p a)), SV.v (.int .i64 (arrK true l.legs[k] p b))]] =
      (acc ++ [(⟨(k : Int), otherF l.legs[k] wl, ⟨leK false l.legs[k] p a, leK true l.legs[k] p b⟩, ⟨arrK false l.legs[k] p a, arrK true l.legs[k] p b⟩⟩ : Stop)]).map stopL := by simp [stopL, leK]
    rw [e]
    refine ⟨(j + 1, u + 1, otherF l.legs[k] wl, arrK false l.legs[k] p a, arrK true l.legs[k] p b, _), ⟨hlt, hst⟩, by simp only; omega, ?_⟩
    (refine ent_id ?_ ?_ ?_ rfl rfl <;> dsimp only [spanL, wellL, legL, gateL, intL, stopL, id, go_sem, Nat.reduceAdd, Nat.reduceMul, Nat.reduceSub] <;> simp [spanL, wellL, legL, gateL, intL, stopL, KFR_iff, KFR_app, KFR, KFL, KF, mtL_same, mtO, Nat.beq_refl])
  refine br_f (by simp; omega) ?_
  dsimp only [go_sem, Nat.reduceAdd, Nat.reduceMul, Nat.reduceSub]
  have hje : j = legs.length := by omega
  subst hje
  simp only [Nat.beq_refl]
  dsimp only [go_sem, Nat.reduceAdd, Nat.reduceMul, Nat.reduceSub]
  rw [hF, hI.done]
  simp [walkR, rowsZ, vwN]
end Go.Proofs.Ytkjldleglbbkeaa
