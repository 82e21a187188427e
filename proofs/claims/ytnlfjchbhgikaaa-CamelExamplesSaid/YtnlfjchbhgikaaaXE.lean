/- Walks and plain laws that lead to the given statement, part 5 of 8. -/
import Derived.Test.YtnlfjchbhgikaaaXD
import Derived.Test.YtnlfjchbhgikaaaProg
open Nat renaming reduceAdd→rA,reduceMul→rM,reduceSub→rS,beq_refl→nbr
set_option maxRecDepth 100000
namespace Go.Proofs.Ytnlfjchbhgikaaa
open Go Go.Sx
def c3:SC:=(.seq (.reg [
 ⟨some 3,.box (.t 0) 0 25,none,[]⟩,
 ⟨some 4,.box (.t 1) 0 27,none,[]⟩,
 ⟨some 5,.box (.t 2) 0 29,none,[]⟩,
 ⟨some 6,.mv (.c (.bool false)),none,[]⟩])
 (.seq (.reg [
 ⟨some 22,.ld (.t 3) 17 true,none,[]⟩,
 ⟨some 23,.ld (.t 4) 7 true,none,[]⟩,
 ⟨some 24,.call 14 [.t 22,.t 23],none,[]⟩,
 ⟨some 21,.mv (.t 24),none,[]⟩,
 ⟨some 25,.ext (.t 21) 0,none,[]⟩,
 ⟨some 26,.ext (.t 21) 1,none,[]⟩,
 ⟨some 7,.alloc [.int .i64 0,.int .i64 0] 23,none,[]⟩,
 ⟨none,.st (.t 7) (.t 25) 2,none,[]⟩,
 ⟨some 8,.mv (.t 26),none,[]⟩])
 (.seq (.reg [
 ⟨some 28,.ld (.t 3) 17 true,none,[]⟩,
 ⟨some 29,.ld (.t 4) 7 true,none,[]⟩,
 ⟨some 30,.call 15 [.t 28,.t 29],none,[]⟩,
 ⟨some 27,.mv (.t 30),none,[]⟩,
 ⟨some 31,.ext (.t 27) 0,none,[]⟩,
 ⟨some 32,.ext (.t 27) 1,none,[]⟩,
 ⟨some 9,.alloc [.int .i64 0,.int .i64 0] 23,none,[]⟩,
 ⟨none,.st (.t 9) (.t 31) 2,none,[]⟩,
 ⟨some 10,.mv (.t 32),none,[]⟩])
 (.seq (.reg [
 ⟨some 34,.ld (.t 3) 17 true,none,[]⟩,
 ⟨some 35,.ld (.t 4) 7 true,none,[]⟩,
 ⟨some 36,.call 16 [.t 34,.t 35],none,[]⟩,
 ⟨some 33,.mv (.t 36),none,[]⟩,
 ⟨some 37,.ext (.t 33) 0,none,[]⟩,
 ⟨some 38,.ext (.t 33) 1,none,[]⟩,
 ⟨some 11,.alloc [.int .i64 0,.int .i64 0] 23,none,[]⟩,
 ⟨none,.st (.t 11) (.t 37) 2,none,[]⟩,
 ⟨some 12,.mv (.t 38),none,[]⟩])
 (.seq (.reg [
 ⟨some 40,.ld (.t 3) 17 true,none,[]⟩,
 ⟨some 41,.ld (.t 4) 7 true,none,[]⟩,
 ⟨some 42,.call 17 [.t 40,.t 41],none,[]⟩,
 ⟨some 39,.mv (.t 42),none,[]⟩,
 ⟨some 43,.ext (.t 39) 0,none,[]⟩,
 ⟨some 44,.ext (.t 39) 1,none,[]⟩,
 ⟨some 13,.alloc [.int .i64 0,.int .i64 0] 23,none,[]⟩,
 ⟨none,.st (.t 13) (.t 43) 2,none,[]⟩,
 ⟨some 14,.mv (.t 44),none,[]⟩])
 (.seq (.reg [
 ⟨some 46,.ld (.t 3) 17 true,none,[]⟩,
 ⟨some 47,.addo (.t 4) 6,none,[]⟩,
 ⟨some 48,.ld (.t 47) 1 false,none,[]⟩,
 ⟨some 49,.ld (.t 5) 8 true,none,[]⟩,
 ⟨some 50,.call 18 [.t 46,.t 48,.t 49],none,[]⟩,
 ⟨some 45,.mv (.t 50),none,[]⟩,
 ⟨some 51,.ext (.t 45) 0,none,[]⟩,
 ⟨some 52,.ext (.t 45) 1,none,[]⟩,
 ⟨some 53,.ext (.t 45) 2,none,[]⟩,
 ⟨some 15,.alloc [.int .i64 0,.int .i64 0] 23,none,[]⟩,
 ⟨some 16,.alloc [.int .i64 0,.int .i64 0] 23,none,[]⟩,
 ⟨none,.st (.t 15) (.t 51) 2,none,[]⟩,
 ⟨none,.st (.t 16) (.t 52) 2,none,[]⟩,
 ⟨some 17,.mv (.t 53),none,[]⟩])
 (.seq (.reg [
 ⟨some 55,.ld (.t 3) 17 true,none,[]⟩,
 ⟨some 56,.addo (.t 4) 6,none,[]⟩,
 ⟨some 57,.ld (.t 56) 1 false,none,[]⟩,
 ⟨some 58,.ld (.t 5) 8 true,none,[]⟩,
 ⟨some 59,.call 19 [.t 55,.t 57,.t 58],none,[]⟩,
 ⟨some 54,.mv (.t 59),none,[]⟩,
 ⟨some 60,.ext (.t 54) 0,none,[]⟩,
 ⟨some 61,.ext (.t 54) 1,none,[]⟩,
 ⟨some 62,.ext (.t 54) 2,none,[]⟩,
 ⟨some 18,.alloc [.int .i64 0,.int .i64 0] 23,none,[]⟩,
 ⟨some 19,.alloc [.int .i64 0,.int .i64 0] 23,none,[]⟩,
 ⟨none,.st (.t 18) (.t 60) 2,none,[]⟩,
 ⟨none,.st (.t 19) (.t 61) 2,none,[]⟩,
 ⟨some 20,.mv (.t 62),none,[]⟩])
 (.seq (.regd [0,1,2,3,4,5,6,7,8,9,10,11,12,13,14,15,16,17,18,19,20,21,22,23,24,25,26,27,28,29,30,31,32,33,34,35,36,37,38,39,40,41,42,43,44,45,46,47,48,49] [
 .op ⟨some 63,.ld (.t 3) 17 true,none,[]⟩,
 .op ⟨some 64,.call 20 [.t 63],none,[0]⟩,
 .op ⟨some 65,.ld (.t 3) 17 true,none,[]⟩,
 .op ⟨some 66,.call 21 [.t 65],none,[1,2]⟩,
 .op ⟨some 67,.bin .eql (.t 64) (.t 66),none,[1,3]⟩,
 .op ⟨some 68,.mv (.t 67),none,[3,4]⟩,
 .op ⟨some 69,.ld (.t 3) 17 true,some (68,true),[5]⟩,
 .op ⟨some 70,.ld (.t 4) 7 true,some (68,true),[5]⟩,
 .op ⟨some 71,.call 22 [.t 69,.t 70],some (68,true),[5,6,7]⟩,
 .op ⟨some 72,.ld (.t 3) 17 true,some (68,true),[5]⟩,
 .op ⟨some 73,.ld (.t 4) 7 true,some (68,true),[5]⟩,
 .op ⟨some 74,.call 23 [.t 72,.t 73],some (68,true),[5,8,9,10]⟩,
 .op ⟨some 75,.bin .eql (.t 71) (.t 74),some (68,true),[5,8,11]⟩,
 .op ⟨some 76,.pick (.t 68) (.t 75) (.c (.bool false)),none,[5,12]⟩,
 .op ⟨some 77,.mv (.t 76),none,[11,13]⟩,
 .op ⟨some 78,.ld (.t 7) 2 true,some (77,true),[14]⟩,
 .op ⟨some 79,.ld (.t 9) 2 true,some (77,true),[14]⟩,
 .op ⟨some 80,.eqs false true [1,1] (.t 78) (.t 79),some (77,true),[14,15,16]⟩,
 .op ⟨some 81,.pick (.t 77) (.t 80) (.c (.bool false)),none,[14,17]⟩,
 .op ⟨some 82,.mv (.t 81),none,[14,18]⟩,
 .op ⟨some 83,.mv (.t 8),some (82,true),[19]⟩,
 .op ⟨some 84,.mv (.t 10),some (82,true),[19]⟩,
 .op ⟨some 85,.bin .eql (.t 83) (.t 84),some (82,true),[19,20,21]⟩,
 .op ⟨some 86,.pick (.t 82) (.t 85) (.c (.bool false)),none,[19,22]⟩,
 .op ⟨some 87,.mv (.t 86),none,[19,23]⟩,
 .op ⟨some 88,.ld (.t 11) 2 true,some (87,true),[24]⟩,
 .op ⟨some 89,.ld (.t 13) 2 true,some (87,true),[24]⟩,
 .op ⟨some 90,.eqs false true [1,1] (.t 88) (.t 89),some (87,true),[24,25,26]⟩,
 .op ⟨some 91,.pick (.t 87) (.t 90) (.c (.bool false)),none,[24,27]⟩,
 .op ⟨some 92,.mv (.t 91),none,[24,28]⟩,
 .op ⟨some 93,.mv (.t 12),some (92,true),[29]⟩,
 .op ⟨some 94,.mv (.t 14),some (92,true),[29]⟩,
 .op ⟨some 95,.bin .eql (.t 93) (.t 94),some (92,true),[29,30,31]⟩,
 .op ⟨some 96,.pick (.t 92) (.t 95) (.c (.bool false)),none,[29,32]⟩,
 .op ⟨some 97,.mv (.t 96),none,[29,33]⟩,
 .op ⟨some 98,.ld (.t 15) 2 true,some (97,true),[34]⟩,
 .op ⟨some 99,.ld (.t 18) 2 true,some (97,true),[34]⟩,
 .op ⟨some 100,.eqs false true [1,1] (.t 98) (.t 99),some (97,true),[34,35,36]⟩,
 .op ⟨some 101,.pick (.t 97) (.t 100) (.c (.bool false)),none,[34,37]⟩,
 .op ⟨some 102,.mv (.t 101),none,[34,38]⟩,
 .op ⟨some 103,.ld (.t 16) 2 true,some (102,true),[39]⟩,
 .op ⟨some 104,.ld (.t 19) 2 true,some (102,true),[39]⟩,
 .op ⟨some 105,.eqs false true [1,1] (.t 103) (.t 104),some (102,true),[39,40,41]⟩,
 .op ⟨some 106,.pick (.t 102) (.t 105) (.c (.bool false)),none,[39,42]⟩,
 .op ⟨some 107,.mv (.t 106),none,[39,43]⟩,
 .op ⟨some 108,.mv (.t 17),some (107,true),[44]⟩,
 .op ⟨some 109,.mv (.t 20),some (107,true),[44]⟩,
 .op ⟨some 110,.bin .eql (.t 108) (.t 109),some (107,true),[44,45,46]⟩,
 .op ⟨some 111,.pick (.t 107) (.t 110) (.c (.bool false)),none,[44,47]⟩,
 .op ⟨some 6,.mv (.t 111),none,[0,1,2,3,4,5,6,7,8,9,10,11,12,13,14,15,16,17,18,19,20,21,22,23,24,25,26,27,28,29,30,31,32,33,34,35,36,37,38,39,40,41,42,43,44,45,46,47,48]⟩] 0 0 [
])
 .ret))))))))
def r3:List RV:=[.tmp 6]
theorem n3:Try.f3.ntmps = 112:=by kernel_rfl
theorem b3:bodyB Try.prog 3 = true:=by kernel_rfl
theorem c3_ok:cmpC Try.prog c3 ((Try.f3.body).getD .skip) = true:=by kernel_rfl
theorem r3_ok:cmpR Try.prog r3 Try.f3.results.toList = true:=by kernel_rfl
theorem t3 {args:List SV} {res:SV} (ka:KFL args) (kr:KF res) (h:sx Try.prog Y0 0 c3 (st0 args 112) (retK r3 res)) (hA:Nat.ble args.length 112 = true:=by rfl):Ct Try.prog 3 args res:=ct_intro Try.func3 rfl b3 c3_ok r3_ok n3 (Nat.le_of_ble_eq_true hA) ka kr h
def c14:SC:=(.seq (.reg [
 ⟨some 2,.box (.t 0) 0 25,none,[]⟩,
 ⟨some 3,.box (.t 1) 0 27,none,[]⟩,
 ⟨some 4,.alloc [.int .i64 0,.int .i64 0] 23,none,[]⟩,
 ⟨some 5,.mv (.c (.int .i64 0)),none,[]⟩])
 (.seq (.seq (.reg [
 ⟨some 7,.ld (.t 2) 17 true,none,[]⟩,
 ⟨some 8,.ld (.t 3) 7 true,none,[]⟩,
 ⟨some 9,.call 22 [.t 7,.t 8],none,[]⟩,
 ⟨some 6,.mv (.t 9),none,[]⟩])
 (.seq (.reg [
 ⟨some 10,.mv (.t 6),none,[]⟩,
 ⟨some 11,.bin .neq (.t 10) (.c (.int .i64 0)),none,[]⟩])
 (.cond (.t 11)
 (.seq (.reg [
  ⟨some 12,.build [.int .i64 0,.int .i64 0] [],none,[]⟩,
  ⟨some 13,.mv (.t 6),none,[]⟩,
  ⟨none,.st (.t 4) (.t 12) 2,none,[]⟩,
  ⟨some 5,.mv (.t 13),none,[]⟩])
  .ret)
 .skip)))
 (.seq (.reg [
 ⟨some 14,.ld (.t 2) 17 true,none,[]⟩,
 ⟨some 15,.ld (.t 3) 7 true,none,[]⟩,
 ⟨some 16,.build [.int .i64 0,.int .i64 0,.int .i64 0,.int .i64 0,.int .i64 0,.int .i64 0,.int .i64 0,.int .i64 0,.int .i64 0,.int .i64 0,.int .i64 0,.int .i64 0,.int .i64 0,.int .i64 0,.int .i64 0,.int .i64 0,.int .i64 0,.int .i64 0,.int .i64 0,.int .i64 0,.int .i64 0,.int .i64 0,.int .i64 0,.bool false] [(0,17,.t 14),(17,7,.t 15)],none,[]⟩,
 ⟨some 17,.call 55 [.t 16],none,[]⟩,
 ⟨none,.st (.t 4) (.t 17) 2,none,[]⟩,
 ⟨some 5,.mv (.c (.int .i64 0)),none,[]⟩])
 .ret)))
def r14:List RV:=[.cell 4 2 true,.tmp 5]
theorem n14:Try.f14.ntmps = 18:=by kernel_rfl
theorem b14:bodyB Try.prog 14 = true:=by kernel_rfl
theorem c14_ok:cmpC Try.prog c14 ((Try.f14.body).getD .skip) = true:=by kernel_rfl
theorem r14_ok:cmpR Try.prog r14 Try.f14.results.toList = true:=by kernel_rfl
theorem t14 {args:List SV} {res:SV} (ka:KFL args) (kr:KF res) (h:sx Try.prog Y0 0 c14 (st0 args 18) (retK r14 res)) (hA:Nat.ble args.length 18 = true:=by rfl):Ct Try.prog 14 args res:=ct_intro Try.func14 rfl b14 c14_ok r14_ok n14 (Nat.le_of_ble_eq_true hA) ka kr h
def c16:SC:=(.seq (.reg [
 ⟨some 2,.box (.t 0) 0 25,none,[]⟩,
 ⟨some 3,.box (.t 1) 0 27,none,[]⟩,
 ⟨some 4,.alloc [.int .i64 0,.int .i64 0] 23,none,[]⟩,
 ⟨some 5,.mv (.c (.int .i64 0)),none,[]⟩])
 (.seq (.seq (.reg [
 ⟨some 7,.ld (.t 2) 17 true,none,[]⟩,
 ⟨some 8,.ld (.t 3) 7 true,none,[]⟩,
 ⟨some 9,.call 22 [.t 7,.t 8],none,[]⟩,
 ⟨some 6,.mv (.t 9),none,[]⟩])
 (.seq (.reg [
 ⟨some 10,.mv (.t 6),none,[]⟩,
 ⟨some 11,.bin .neq (.t 10) (.c (.int .i64 0)),none,[]⟩])
 (.cond (.t 11)
 (.seq (.reg [
  ⟨some 12,.build [.int .i64 0,.int .i64 0] [],none,[]⟩,
  ⟨some 13,.mv (.t 6),none,[]⟩,
  ⟨none,.st (.t 4) (.t 12) 2,none,[]⟩,
  ⟨some 5,.mv (.t 13),none,[]⟩])
  .ret)
 .skip)))
 (.seq (.reg [
 ⟨some 14,.ld (.t 2) 17 true,none,[]⟩,
 ⟨some 15,.ld (.t 3) 7 true,none,[]⟩,
 ⟨some 16,.build [.int .i64 0,.int .i64 0,.int .i64 0,.int .i64 0,.int .i64 0,.int .i64 0,.int .i64 0,.int .i64 0,.int .i64 0,.int .i64 0,.int .i64 0,.int .i64 0,.int .i64 0,.int .i64 0,.int .i64 0,.int .i64 0,.int .i64 0,.int .i64 0,.int .i64 0,.int .i64 0,.int .i64 0,.int .i64 0,.int .i64 0,.bool false] [(0,17,.t 14),(17,7,.t 15)],none,[]⟩,
 ⟨some 17,.call 57 [.t 16],none,[]⟩,
 ⟨none,.st (.t 4) (.t 17) 2,none,[]⟩,
 ⟨some 5,.mv (.c (.int .i64 0)),none,[]⟩])
 .ret)))
def r16:List RV:=[.cell 4 2 true,.tmp 5]
theorem n16:Try.f16.ntmps = 18:=by kernel_rfl
theorem b16:bodyB Try.prog 16 = true:=by kernel_rfl
theorem c16_ok:cmpC Try.prog c16 ((Try.f16.body).getD .skip) = true:=by kernel_rfl
theorem r16_ok:cmpR Try.prog r16 Try.f16.results.toList = true:=by kernel_rfl
theorem t16 {args:List SV} {res:SV} (ka:KFL args) (kr:KF res) (h:sx Try.prog Y0 0 c16 (st0 args 18) (retK r16 res)) (hA:Nat.ble args.length 18 = true:=by rfl):Ct Try.prog 16 args res:=ct_intro Try.func16 rfl b16 c16_ok r16_ok n16 (Nat.le_of_ble_eq_true hA) ka kr h
def c18:SC:=(.seq (.reg [
 ⟨some 3,.box (.t 0) 0 25,none,[]⟩,
 ⟨some 5,.box (.t 2) 0 29,none,[]⟩,
 ⟨some 6,.alloc [.int .i64 0,.int .i64 0] 23,none,[]⟩,
 ⟨some 7,.alloc [.int .i64 0,.int .i64 0] 23,none,[]⟩,
 ⟨some 8,.mv (.c (.int .i64 0)),none,[]⟩])
 (.seq (.seq (.reg [
 ⟨some 12,.ld (.t 3) 17 true,none,[]⟩,
 ⟨some 13,.call 20 [.t 12],none,[]⟩,
 ⟨some 9,.mv (.t 13),none,[]⟩])
 (.seq (.reg [
 ⟨some 14,.mv (.t 9),none,[]⟩,
 ⟨some 15,.bin .neq (.t 14) (.c (.int .i64 0)),none,[]⟩])
 (.cond (.t 15)
 (.seq (.regd [0,1,2,3,4,5] [
  .op ⟨some 16,.ld (.t 6) 2 true,none,[]⟩,
  .hide (.t 6),
  .op ⟨some 17,.ld (.t 7) 2 true,none,[]⟩,
  .hide (.t 7),
  .op ⟨some 18,.mv (.t 9),none,[]⟩] 0 3 [
  ⟨none,.st (.t 6) (.t 16) 2,none,[0]⟩,
  ⟨none,.st (.t 7) (.t 17) 2,none,[0,1,3]⟩,
  ⟨some 8,.mv (.t 18),none,[0,1,2,3,4]⟩])
  .ret)
 .skip)))
 (.seq (.seq (.reg [
 ⟨some 19,.ld (.t 5) 8 true,none,[]⟩,
 ⟨some 20,.bsl 8 29 [.t 19],none,[]⟩,
 ⟨some 21,.call 59 [.t 20],none,[]⟩,
 ⟨some 10,.mv (.t 21),none,[]⟩])
 (.seq (.reg [
 ⟨some 22,.mv (.t 10),none,[]⟩,
 ⟨some 23,.bin .neq (.t 22) (.c (.int .i64 0)),none,[]⟩])
 (.cond (.t 23)
 (.seq (.regd [0,1,2,3,4,5] [
  .op ⟨some 24,.ld (.t 6) 2 true,none,[]⟩,
  .hide (.t 6),
  .op ⟨some 25,.ld (.t 7) 2 true,none,[]⟩,
  .hide (.t 7),
  .op ⟨some 26,.mv (.t 10),none,[]⟩] 0 3 [
  ⟨none,.st (.t 6) (.t 24) 2,none,[0]⟩,
  ⟨none,.st (.t 7) (.t 25) 2,none,[0,1,3]⟩,
  ⟨some 8,.mv (.t 26),none,[0,1,2,3,4]⟩])
  .ret)
 .skip)))
 (.seq (.reg [
 ⟨some 27,.ld (.t 3) 17 true,none,[]⟩,
 ⟨some 28,.mv (.t 1),none,[]⟩,
 ⟨some 29,.ld (.t 5) 8 true,none,[]⟩,
 ⟨some 30,.call 60 [.t 27,.t 28,.t 29],none,[]⟩,
 ⟨some 11,.alloc [.int .i64 0,.int .i64 0,.int .i64 0,.int .i64 0] 112,none,[]⟩,
 ⟨none,.st (.t 11) (.t 30) 4,none,[]⟩])
 (.seq (.regd [0,1,2,3,4,5,6] [
 .op ⟨some 31,.ixa (.t 11) (.c (.int .i64 0)) 2 2,none,[]⟩,
 .op ⟨some 32,.ld (.t 31) 2 true,none,[0]⟩,
 .hide (.t 6),
 .op ⟨some 33,.ixa (.t 11) (.c (.int .i64 1)) 2 2,none,[]⟩,
 .op ⟨some 34,.ld (.t 33) 2 true,none,[2]⟩] 0 3 [
 ⟨none,.st (.t 6) (.t 32) 2,none,[0,1]⟩,
 ⟨none,.st (.t 7) (.t 34) 2,none,[0,1,2,3,4]⟩,
 ⟨some 8,.mv (.c (.int .i64 0)),none,[0,1,2,3,4,5]⟩])
 .ret)))))
def r18:List RV:=[.cell 6 2 true,.cell 7 2 true,.tmp 8]
theorem n18:Try.f18.ntmps = 35:=by kernel_rfl
theorem b18:bodyB Try.prog 18 = true:=by kernel_rfl
theorem c18_ok:cmpC Try.prog c18 ((Try.f18.body).getD .skip) = true:=by kernel_rfl
theorem r18_ok:cmpR Try.prog r18 Try.f18.results.toList = true:=by kernel_rfl
theorem t18 {args:List SV} {res:SV} (ka:KFL args) (kr:KF res) (h:sx Try.prog Y0 0 c18 (st0 args 35) (retK r18 res)) (hA:Nat.ble args.length 35 = true:=by rfl):Ct Try.prog 18 args res:=ct_intro Try.func18 rfl b18 c18_ok r18_ok n18 (Nat.le_of_ble_eq_true hA) ka kr h
def c20:SC:=(.seq (.reg [
 ⟨some 1,.box (.t 0) 0 25,none,[]⟩,
 ⟨some 2,.mv (.c (.int .i64 0)),none,[]⟩])
 (.seq (.seq (.reg [
 ⟨some 3,.addo (.t 1) 0,none,[]⟩,
 ⟨some 4,.ld (.t 3) 1 false,none,[]⟩,
 ⟨some 5,.addo (.t 1) 1,none,[]⟩,
 ⟨some 6,.ld (.t 5) 1 false,none,[]⟩,
 ⟨some 7,.bsl 1 3 [.t 4,.t 6],none,[]⟩,
 ⟨some 8,.call 64 [.c (.int .i64 1),.c (.int .i64 1000000),.t 7],none,[]⟩,
 ⟨some 9,.un .not (.t 8),none,[]⟩,
 ⟨some 10,.mv (.t 9),none,[]⟩,
 ⟨some 11,.addo (.t 1) 2,some (10,false),[]⟩,
 ⟨some 12,.ld (.t 11) 2 true,some (10,false),[]⟩,
 ⟨some 13,.addo (.t 1) 4,some (10,false),[]⟩,
 ⟨some 14,.ld (.t 13) 2 true,some (10,false),[]⟩,
 ⟨some 15,.addo (.t 1) 6,some (10,false),[]⟩,
 ⟨some 16,.ld (.t 15) 2 true,some (10,false),[]⟩,
 ⟨some 17,.addo (.t 1) 8,some (10,false),[]⟩,
 ⟨some 18,.ld (.t 17) 2 true,some (10,false),[]⟩,
 ⟨some 19,.addo (.t 1) 10,some (10,false),[]⟩,
 ⟨some 20,.ld (.t 19) 2 true,some (10,false),[]⟩,
 ⟨some 21,.addo (.t 1) 12,some (10,false),[]⟩,
 ⟨some 22,.ld (.t 21) 2 true,some (10,false),[]⟩,
 ⟨some 23,.bsl 2 23 [.t 12,.t 14,.t 16,.t 18,.t 20,.t 22],some (10,false),[]⟩,
 ⟨some 24,.call 65 [.c (.int .i64 0),.c (.int .i64 100000),.t 23],some (10,false),[]⟩,
 ⟨some 25,.un .not (.t 24),some (10,false),[]⟩,
 ⟨some 26,.pick (.t 10) (.c (.bool true)) (.t 25),none,[]⟩,
 ⟨some 27,.mv (.t 26),none,[]⟩,
 ⟨some 28,.addo (.t 1) 15,some (27,false),[]⟩,
 ⟨some 29,.ld (.t 28) 2 true,some (27,false),[]⟩,
 ⟨some 30,.bsl 2 23 [.t 29],some (27,false),[]⟩,
 ⟨some 31,.call 65 [.c (.int .i64 0),.c (.int .i64 1000000),.t 30],some (27,false),[]⟩,
 ⟨some 32,.un .not (.t 31),some (27,false),[]⟩,
 ⟨some 33,.pick (.t 27) (.c (.bool true)) (.t 32),none,[]⟩,
 ⟨some 34,.mv (.t 33),none,[]⟩,
 ⟨some 35,.addo (.t 1) 14,some (34,false),[]⟩,
 ⟨some 36,.ld (.t 35) 1 false,some (34,false),[]⟩,
 ⟨some 37,.bsl 1 3 [.t 36],some (34,false),[]⟩,
 ⟨some 38,.call 64 [.c (.int .i64 0),.c (.int .i64 1000),.t 37],some (34,false),[]⟩,
 ⟨some 39,.un .not (.t 38),some (34,false),[]⟩,
 ⟨some 40,.pick (.t 34) (.c (.bool true)) (.t 39),none,[]⟩])
 (.cond (.t 40)
 (.seq (.reg [
  ⟨some 2,.mv (.c (.int .i64 10)),none,[]⟩])
  .ret)
 .skip))
 (.seq (.reg [
 ⟨some 2,.mv (.c (.int .i64 0)),none,[]⟩])
 .ret)))
def r20:List RV:=[.tmp 2]
theorem n20:Try.f20.ntmps = 41:=by kernel_rfl
theorem b20:bodyB Try.prog 20 = true:=by kernel_rfl
theorem c20_ok:cmpC Try.prog c20 ((Try.f20.body).getD .skip) = true:=by kernel_rfl
theorem r20_ok:cmpR Try.prog r20 Try.f20.results.toList = true:=by kernel_rfl
theorem t20 {args:List SV} {res:SV} (ka:KFL args) (kr:KF res) (h:sx Try.prog Y0 0 c20 (st0 args 41) (retK r20 res)) (hA:Nat.ble args.length 41 = true:=by rfl):Ct Try.prog 20 args res:=ct_intro Try.func20 rfl b20 c20_ok r20_ok n20 (Nat.le_of_ble_eq_true hA) ka kr h
def c22:SC:=(.seq (.reg [
 ⟨some 2,.box (.t 0) 0 25,none,[]⟩,
 ⟨some 3,.box (.t 1) 0 27,none,[]⟩,
 ⟨some 4,.mv (.c (.int .i64 0)),none,[]⟩])
 (.seq (.seq (.reg [
 ⟨some 6,.ld (.t 2) 17 true,none,[]⟩,
 ⟨some 7,.call 20 [.t 6],none,[]⟩,
 ⟨some 5,.mv (.t 7),none,[]⟩])
 (.seq (.reg [
 ⟨some 8,.mv (.t 5),none,[]⟩,
 ⟨some 9,.bin .neq (.t 8) (.c (.int .i64 0)),none,[]⟩])
 (.cond (.t 9)
 (.seq (.reg [
  ⟨some 10,.mv (.t 5),none,[]⟩,
  ⟨some 4,.mv (.t 10),none,[]⟩])
  .ret)
 .skip)))
 (.seq (.seq (.reg [
 ⟨some 11,.addo (.t 2) 0,none,[]⟩,
 ⟨some 12,.ld (.t 11) 1 false,none,[]⟩,
 ⟨some 13,.addo (.t 3) 0,none,[]⟩,
 ⟨some 14,.ld (.t 13) 2 true,none,[]⟩,
 ⟨some 15,.bsl 2 23 [.t 14],none,[]⟩,
 ⟨some 16,.call 65 [.c (.int .i64 0),.t 12,.t 15],none,[]⟩,
 ⟨some 17,.un .not (.t 16),none,[]⟩,
 ⟨some 18,.mv (.t 17),none,[]⟩,
 ⟨some 19,.addo (.t 2) 1,some (18,false),[]⟩,
 ⟨some 20,.ld (.t 19) 1 false,some (18,false),[]⟩,
 ⟨some 21,.addo (.t 3) 2,some (18,false),[]⟩,
 ⟨some 22,.ld (.t 21) 2 true,some (18,false),[]⟩,
 ⟨some 23,.bsl 2 23 [.t 22],some (18,false),[]⟩,
 ⟨some 24,.call 65 [.c (.int .i64 0),.t 20,.t 23],some (18,false),[]⟩,
 ⟨some 25,.un .not (.t 24),some (18,false),[]⟩,
 ⟨some 26,.pick (.t 18) (.c (.bool true)) (.t 25),none,[]⟩,
 ⟨some 27,.mv (.t 26),none,[]⟩,
 ⟨some 28,.addo (.t 3) 4,some (27,false),[]⟩,
 ⟨some 29,.ld (.t 28) 2 true,some (27,false),[]⟩,
 ⟨some 30,.bsl 2 23 [.t 29],some (27,false),[]⟩,
 ⟨some 31,.call 65 [.c (.int .i64 0),.c (.int .i64 1000),.t 30],some (27,false),[]⟩,
 ⟨some 32,.un .not (.t 31),some (27,false),[]⟩,
 ⟨some 33,.pick (.t 27) (.c (.bool true)) (.t 32),none,[]⟩])
 (.cond (.t 33)
 (.seq (.reg [
  ⟨some 4,.mv (.c (.int .i64 11)),none,[]⟩])
  .ret)
 .skip))
 (.seq (.reg [
 ⟨some 4,.mv (.c (.int .i64 0)),none,[]⟩])
 .ret))))
def r22:List RV:=[.tmp 4]
theorem n22:Try.f22.ntmps = 34:=by kernel_rfl
theorem b22:bodyB Try.prog 22 = true:=by kernel_rfl
theorem c22_ok:cmpC Try.prog c22 ((Try.f22.body).getD .skip) = true:=by kernel_rfl
theorem r22_ok:cmpR Try.prog r22 Try.f22.results.toList = true:=by kernel_rfl
theorem t22 {args:List SV} {res:SV} (ka:KFL args) (kr:KF res) (h:sx Try.prog Y0 0 c22 (st0 args 34) (retK r22 res)) (hA:Nat.ble args.length 34 = true:=by rfl):Ct Try.prog 22 args res:=ct_intro Try.func22 rfl b22 c22_ok r22_ok n22 (Nat.le_of_ble_eq_true hA) ka kr h
def c55:SC:=(.seq (.reg [
 ⟨some 1,.box (.t 0) 0 107,none,[]⟩,
 ⟨some 2,.alloc [.int .i64 0,.int .i64 0] 23,none,[]⟩])
 (.seq (.reg [
 ⟨some 6,.build [.int .i64 0,.int .i64 0] [(0,1,.c (.int .i64 1000)),(1,1,.c (.int .i64 1000))],none,[]⟩,
 ⟨some 3,.alloc [.int .i64 0,.int .i64 0] 23,none,[]⟩,
 ⟨none,.st (.t 3) (.t 6) 2,none,[]⟩])
 (.seq (.seq (.regd [0,1,2,3,4,5,6,7,8,9,10,11,12,13,14,15,16,17,18,19,20,21] [
 .op ⟨some 7,.addo (.t 1) 17,none,[]⟩,
 .op ⟨some 8,.addo (.t 7) 0,none,[0]⟩,
 .op ⟨some 9,.ld (.t 8) 2 true,none,[1]⟩,
 .op ⟨some 10,.addo (.t 1) 0,none,[]⟩,
 .op ⟨some 11,.addo (.t 10) 0,none,[3]⟩,
 .op ⟨some 12,.ld (.t 11) 1 false,none,[4]⟩,
 .op ⟨some 13,.bsl 1 3 [.c (.int .i64 2),.c (.int .i64 1000)],none,[]⟩,
 .op ⟨some 14,.call 89 [.t 9,.t 12,.t 13],none,[2,5,6]⟩,
 .op ⟨some 15,.addo (.t 1) 17,none,[]⟩,
 .op ⟨some 16,.addo (.t 15) 2,none,[8]⟩,
 .op ⟨some 17,.ld (.t 16) 2 true,none,[9]⟩,
 .op ⟨some 18,.addo (.t 1) 0,none,[]⟩,
 .op ⟨some 19,.addo (.t 18) 1,none,[11]⟩,
 .op ⟨some 20,.ld (.t 19) 1 false,none,[12]⟩,
 .op ⟨some 21,.bsl 1 3 [.c (.int .i64 2),.c (.int .i64 1000)],none,[]⟩,
 .op ⟨some 22,.call 89 [.t 17,.t 20,.t 21],none,[7,10,13,14]⟩,
 .op ⟨some 23,.addo (.t 1) 17,none,[]⟩,
 .op ⟨some 24,.addo (.t 23) 4,none,[16]⟩,
 .op ⟨some 25,.ld (.t 24) 2 true,none,[17]⟩,
 .op ⟨some 26,.call 73 [.c (.int .i64 1000),.t 25],none,[15,18]⟩,
 .op ⟨some 27,.build [.int .i64 0,.int .i64 0,.int .i64 0,.int .i64 0,.int .i64 0,.int .i64 0] [(0,2,.t 14),(2,2,.t 22),(4,2,.t 26)],none,[7,15,19]⟩,
 .op ⟨some 28,.mv (.c (.int .i64 0)),none,[]⟩] 0 0 [
])
 (.block 0 (.loop (.seq (.reg [
  ⟨some 29,.bin .lss (.t 28) (.c (.int .i64 3)),none,[]⟩])
  (.seq (.cond (.t 29)
  .skip
  (.exit 0))
  (.seq (.block 1 (.seq (.reg [
   ⟨some 30,.idx (.t 27) (.t 28) 3 2 true,none,[]⟩,
   ⟨some 5,.alloc [.int .i64 0,.int .i64 0] 23,none,[]⟩,
   ⟨none,.st (.t 5) (.t 30) 2,none,[]⟩])
   (.reg [
   ⟨some 31,.addo (.t 3) 0,none,[]⟩,
   ⟨some 32,.ld (.t 31) 1 false,none,[]⟩,
   ⟨some 33,.addo (.t 5) 0,none,[]⟩,
   ⟨some 34,.ld (.t 33) 1 false,none,[]⟩,
   ⟨some 35,.mm false [.t 32,.t 34],none,[]⟩,
   ⟨some 36,.addo (.t 3) 1,none,[]⟩,
   ⟨some 37,.ld (.t 36) 1 false,none,[]⟩,
   ⟨some 38,.addo (.t 5) 1,none,[]⟩,
   ⟨some 39,.ld (.t 38) 1 false,none,[]⟩,
   ⟨some 40,.mm false [.t 37,.t 39],none,[]⟩,
   ⟨some 41,.build [.int .i64 0,.int .i64 0] [(0,1,.t 35),(1,1,.t 40)],none,[]⟩,
   ⟨none,.st (.t 3) (.t 41) 2,none,[]⟩])))
  (.reg [
  ⟨some 42,.bin .add (.t 28) (.c (.int .i64 1)),none,[]⟩,
  ⟨some 28,.mv (.t 42),none,[]⟩])))))))
 (.seq (.reg [
 ⟨some 43,.ld (.t 3) 2 true,none,[]⟩,
 ⟨none,.st (.t 2) (.t 43) 2,none,[]⟩])
 .ret))))
def r55:List RV:=[.cell 2 2 true]
theorem n55:Try.f55.ntmps = 44:=by kernel_rfl
theorem b55:bodyB Try.prog 55 = true:=by kernel_rfl
theorem c55_ok:cmpC Try.prog c55 ((Try.f55.body).getD .skip) = true:=by kernel_rfl
theorem r55_ok:cmpR Try.prog r55 Try.f55.results.toList = true:=by kernel_rfl
theorem t55 {args:List SV} {res:SV} (ka:KFL args) (kr:KF res) (h:sx Try.prog Y0 0 c55 (st0 args 44) (retK r55 res)) (hA:Nat.ble args.length 44 = true:=by rfl):Ct Try.prog 55 args res:=ct_intro Try.func55 rfl b55 c55_ok r55_ok n55 (Nat.le_of_ble_eq_true hA) ka kr h
def c57:SC:=(.seq (.reg [
 ⟨some 1,.box (.t 0) 0 107,none,[]⟩,
 ⟨some 2,.alloc [.int .i64 0,.int .i64 0] 23,none,[]⟩])
 (.seq (.reg [
 ⟨some 4,.ld (.t 1) 24 true,none,[]⟩,
 ⟨some 5,.call 55 [.t 4],none,[]⟩,
 ⟨some 3,.alloc [.int .i64 0,.int .i64 0] 23,none,[]⟩,
 ⟨none,.st (.t 3) (.t 5) 2,none,[]⟩])
 (.seq (.regd [0,1,2,3,4,5,6,7,8,9,10,11,12,13,14,15,16,17] [
 .op ⟨some 6,.addo (.t 1) 0,none,[]⟩,
 .op ⟨some 7,.addo (.t 6) 15,none,[0]⟩,
 .op ⟨some 8,.addo (.t 7) 0,none,[1]⟩,
 .op ⟨some 9,.ld (.t 8) 1 false,none,[2]⟩,
 .op ⟨some 10,.addo (.t 3) 0,none,[]⟩,
 .op ⟨some 11,.ld (.t 10) 1 false,none,[4]⟩,
 .op ⟨some 12,.bin .mul (.t 9) (.t 11),none,[3,5]⟩,
 .op ⟨some 13,.div .quo (.t 12) (.c (.int .i64 1000)),none,[6]⟩,
 .op ⟨some 14,.addo (.t 1) 0,none,[]⟩,
 .op ⟨some 15,.addo (.t 14) 15,none,[8]⟩,
 .op ⟨some 16,.addo (.t 15) 1,none,[9]⟩,
 .op ⟨some 17,.ld (.t 16) 1 false,none,[10]⟩,
 .op ⟨some 18,.addo (.t 3) 1,none,[]⟩,
 .op ⟨some 19,.ld (.t 18) 1 false,none,[12]⟩,
 .op ⟨some 20,.bin .mul (.t 17) (.t 19),none,[11,13]⟩,
 .op ⟨some 21,.call 90 [.t 20,.c (.int .i64 1000)],none,[14]⟩,
 .op ⟨some 22,.build [.int .i64 0,.int .i64 0] [(0,1,.t 13),(1,1,.t 21)],none,[7,15]⟩] 0 1 [
 ⟨none,.st (.t 2) (.t 22) 2,none,[0,1,2,3,4,5,6,7,8,9,10,11,12,13,14,15,16]⟩])
 .ret)))
def r57:List RV:=[.cell 2 2 true]
theorem n57:Try.f57.ntmps = 23:=by kernel_rfl
theorem b57:bodyB Try.prog 57 = true:=by kernel_rfl
theorem c57_ok:cmpC Try.prog c57 ((Try.f57.body).getD .skip) = true:=by kernel_rfl
theorem r57_ok:cmpR Try.prog r57 Try.f57.results.toList = true:=by kernel_rfl
theorem t57 {args:List SV} {res:SV} (ka:KFL args) (kr:KF res) (h:sx Try.prog Y0 0 c57 (st0 args 23) (retK r57 res)) (hA:Nat.ble args.length 23 = true:=by rfl):Ct Try.prog 57 args res:=ct_intro Try.func57 rfl b57 c57_ok r57_ok n57 (Nat.le_of_ble_eq_true hA) ka kr h
def c59:SC:=(.seq (.reg [
 ⟨some 2,.mv (.c (.int .i64 0)),none,[]⟩])
 (.seq (.seq (.reg [
 ⟨some 5,.mv (.t 0),none,[]⟩,
 ⟨some 6,.len (.t 5),none,[]⟩,
 ⟨some 7,.mv (.c (.int .i64 0)),none,[]⟩])
 (.block 0 (.loop (.seq (.reg [
  ⟨some 8,.bin .lss (.t 7) (.t 6),none,[]⟩])
  (.seq (.cond (.t 8)
  .skip
  (.exit 0))
  (.seq (.block 1 (.seq (.reg [
   ⟨some 9,.ixs (.t 5) (.t 7) 8,none,[]⟩,
   ⟨some 10,.ld (.t 9) 8 true,none,[]⟩,
   ⟨some 4,.alloc [.int .i64 0,.int .i64 0,.int .i64 0,.int .i64 0,.int .i64 0,.int .i64 0,.int .i64 0,.int .i64 0] 29,none,[]⟩,
   ⟨none,.st (.t 4) (.t 10) 8,none,[]⟩])
   (.seq (.reg [
   ⟨some 11,.addo (.t 4) 0,none,[]⟩,
   ⟨some 12,.ld (.t 11) 1 false,none,[]⟩,
   ⟨some 13,.bsl 1 3 [.t 12],none,[]⟩,
   ⟨some 14,.call 64 [.c (.int .i64 0),.c (.int .i64 24),.t 13],none,[]⟩,
   ⟨some 15,.un .not (.t 14),none,[]⟩,
   ⟨some 16,.mv (.t 15),none,[]⟩,
   ⟨some 17,.addo (.t 4) 1,some (16,false),[]⟩,
   ⟨some 18,.ld (.t 17) 1 false,some (16,false),[]⟩,
   ⟨some 19,.bsl 1 3 [.t 18],some (16,false),[]⟩,
   ⟨some 20,.call 64 [.c (.int .i64 0),.c (.int .i64 1000000),.t 19],some (16,false),[]⟩,
   ⟨some 21,.un .not (.t 20),some (16,false),[]⟩,
   ⟨some 22,.pick (.t 16) (.c (.bool true)) (.t 21),none,[]⟩,
   ⟨some 23,.mv (.t 22),none,[]⟩,
   ⟨some 24,.addo (.t 4) 2,some (23,false),[]⟩,
   ⟨some 25,.ld (.t 24) 2 true,some (23,false),[]⟩,
   ⟨some 26,.bsl 2 23 [.t 25],some (23,false),[]⟩,
   ⟨some 27,.call 65 [.c (.int .i64 0),.c (.int .i64 60),.t 26],some (23,false),[]⟩,
   ⟨some 28,.un .not (.t 27),some (23,false),[]⟩,
   ⟨some 29,.pick (.t 23) (.c (.bool true)) (.t 28),none,[]⟩,
   ⟨some 30,.mv (.t 29),none,[]⟩,
   ⟨some 31,.addo (.t 4) 4,some (30,false),[]⟩,
   ⟨some 32,.ld (.t 31) 2 true,some (30,false),[]⟩,
   ⟨some 33,.addo (.t 4) 6,some (30,false),[]⟩,
   ⟨some 34,.ld (.t 33) 2 true,some (30,false),[]⟩,
   ⟨some 35,.bsl 2 23 [.t 32,.t 34],some (30,false),[]⟩,
   ⟨some 36,.call 65 [.c (.int .i64 0),.c (.int .i64 1000000),.t 35],some (30,false),[]⟩,
   ⟨some 37,.un .not (.t 36),some (30,false),[]⟩,
   ⟨some 38,.pick (.t 30) (.c (.bool true)) (.t 37),none,[]⟩])
   (.cond (.t 38)
   (.seq (.reg [
    ⟨some 2,.mv (.c (.int .i64 12)),none,[]⟩])
    .ret)
   .skip))))
  (.reg [
  ⟨some 39,.bin .add (.t 7) (.c (.int .i64 1)),none,[]⟩,
  ⟨some 7,.mv (.t 39),none,[]⟩])))))))
 (.seq (.reg [
 ⟨some 2,.mv (.c (.int .i64 0)),none,[]⟩])
 .ret)))
def r59:List RV:=[.tmp 2]
theorem n59:Try.f59.ntmps = 40:=by kernel_rfl
theorem b59:bodyB Try.prog 59 = true:=by kernel_rfl
theorem c59_ok:cmpC Try.prog c59 ((Try.f59.body).getD .skip) = true:=by kernel_rfl
theorem r59_ok:cmpR Try.prog r59 Try.f59.results.toList = true:=by kernel_rfl
theorem t59 {args:List SV} {res:SV} (ka:KFL args) (kr:KF res) (h:sx Try.prog Y0 0 c59 (st0 args 40) (retK r59 res)) (hA:Nat.ble args.length 40 = true:=by rfl):Ct Try.prog 59 args res:=ct_intro Try.func59 rfl b59 c59_ok r59_ok n59 (Nat.le_of_ble_eq_true hA) ka kr h
def c60:SC:=(.seq (.reg [
 ⟨some 3,.box (.t 0) 0 25,none,[]⟩,
 ⟨some 5,.box (.t 2) 0 29,none,[]⟩,
 ⟨some 6,.alloc [.int .i64 0,.int .i64 0,.int .i64 0,.int .i64 0] 112,none,[]⟩])
 (.seq (.reg [
 ⟨some 10,.addo (.t 5) 2,none,[]⟩,
 ⟨some 11,.addo (.t 10) 0,none,[]⟩,
 ⟨some 12,.ld (.t 11) 1 false,none,[]⟩,
 ⟨some 13,.bin .sub (.t 12) (.c (.int .i64 20)),none,[]⟩,
 ⟨some 14,.mm true [.c (.int .i64 0),.t 13],none,[]⟩,
 ⟨some 15,.addo (.t 5) 2,none,[]⟩,
 ⟨some 16,.addo (.t 15) 1,none,[]⟩,
 ⟨some 17,.ld (.t 16) 1 false,none,[]⟩,
 ⟨some 18,.bin .sub (.t 17) (.c (.int .i64 20)),none,[]⟩,
 ⟨some 19,.mm true [.c (.int .i64 0),.t 18],none,[]⟩,
 ⟨some 20,.build [.int .i64 0,.int .i64 0] [(0,1,.t 14),(1,1,.t 19)],none,[]⟩,
 ⟨some 7,.alloc [.int .i64 0,.int .i64 0] 23,none,[]⟩,
 ⟨none,.st (.t 7) (.t 20) 2,none,[]⟩])
 (.seq (.reg [
 ⟨some 21,.addo (.t 5) 0,none,[]⟩,
 ⟨some 22,.ld (.t 21) 1 false,none,[]⟩,
 ⟨some 23,.addo (.t 5) 1,none,[]⟩,
 ⟨some 24,.ld (.t 23) 1 false,none,[]⟩,
 ⟨some 25,.bin .add (.c (.int .i64 100000)) (.t 24),none,[]⟩,
 ⟨some 26,.bin .mul (.t 22) (.t 25),none,[]⟩,
 ⟨some 8,.mv (.t 26),none,[]⟩])
 (.seq (.regd [0,1,2,3,4,5,6,7,8,9,10,11,12,13,14,15,16,17,18,19,20,21,22,23] [
 .op ⟨some 27,.addo (.t 3) 2,none,[]⟩,
 .op ⟨some 28,.ld (.t 27) 2 true,none,[0]⟩,
 .op ⟨some 29,.addo (.t 3) 4,none,[]⟩,
 .op ⟨some 30,.addo (.t 29) 0,none,[2]⟩,
 .op ⟨some 31,.ld (.t 30) 1 false,none,[3]⟩,
 .op ⟨some 32,.addo (.t 7) 0,none,[]⟩,
 .op ⟨some 33,.ld (.t 32) 1 false,none,[5]⟩,
 .op ⟨some 34,.bin .mul (.t 31) (.t 33),none,[4,6]⟩,
 .op ⟨some 35,.addo (.t 3) 4,none,[]⟩,
 .op ⟨some 36,.addo (.t 35) 1,none,[8]⟩,
 .op ⟨some 37,.ld (.t 36) 1 false,none,[9]⟩,
 .op ⟨some 38,.addo (.t 7) 1,none,[]⟩,
 .op ⟨some 39,.ld (.t 38) 1 false,none,[11]⟩,
 .op ⟨some 40,.bin .mul (.t 37) (.t 39),none,[10,12]⟩,
 .op ⟨some 41,.build [.int .i64 0,.int .i64 0] [(0,1,.t 34),(1,1,.t 40)],none,[7,13]⟩,
 .op ⟨some 42,.addo (.t 3) 6,none,[]⟩,
 .op ⟨some 43,.ld (.t 42) 2 true,none,[15]⟩,
 .op ⟨some 44,.mv (.t 8),none,[]⟩,
 .op ⟨some 45,.bsl 1 3 [.t 44],none,[17]⟩,
 .op ⟨some 46,.call 89 [.t 43,.c (.int .i64 100000),.t 45],none,[16,18]⟩,
 .op ⟨some 47,.bsl 2 23 [.t 28,.t 41,.t 46],none,[1,14,19]⟩,
 .op ⟨some 48,.call 72 [.t 47],none,[19,20]⟩] 1 1 [
 ⟨some 9,.alloc [.int .i64 0,.int .i64 0] 23,none,[]⟩,
 ⟨none,.st (.t 9) (.t 48) 2,none,[0,1,2,3,4,5,6,7,8,9,10,11,12,13,14,15,16,17,18,19,20,21,22]⟩])
 (.seq (.seq (.reg [
 ⟨some 49,.mv (.t 1),none,[]⟩])
 (.cond (.t 49)
 (.reg [
  ⟨some 50,.ld (.t 9) 2 true,none,[]⟩,
  ⟨some 51,.addo (.t 3) 12,none,[]⟩,
  ⟨some 52,.ld (.t 51) 2 true,none,[]⟩,
  ⟨some 53,.bsl 2 23 [.t 50,.t 52],none,[]⟩,
  ⟨some 54,.call 72 [.t 53],none,[]⟩,
  ⟨none,.st (.t 9) (.t 54) 2,none,[]⟩])
 .skip))
 (.seq (.regd [0,1,2,3,4,5,6,7] [
 .op ⟨some 55,.ld (.t 9) 2 true,none,[]⟩,
 .op ⟨some 56,.addo (.t 3) 8,none,[]⟩,
 .op ⟨some 57,.ld (.t 56) 2 true,none,[1]⟩,
 .op ⟨some 58,.mv (.t 8),none,[]⟩,
 .op ⟨some 59,.bsl 1 3 [.t 58],none,[3]⟩,
 .op ⟨some 60,.call 89 [.t 57,.c (.int .i64 100000),.t 59],none,[2,4]⟩,
 .op ⟨some 61,.build [.int .i64 0,.int .i64 0,.int .i64 0,.int .i64 0] [(0,2,.t 55),(2,2,.t 60)],none,[0,5]⟩] 0 1 [
 ⟨none,.st (.t 6) (.t 61) 4,none,[0,1,2,3,4,5,6]⟩])
 .ret))))))
def r60:List RV:=[.cell 6 4 true]
theorem n60:Try.f60.ntmps = 62:=by kernel_rfl
theorem b60:bodyB Try.prog 60 = true:=by kernel_rfl
theorem c60_ok:cmpC Try.prog c60 ((Try.f60.body).getD .skip) = true:=by kernel_rfl
theorem r60_ok:cmpR Try.prog r60 Try.f60.results.toList = true:=by kernel_rfl
theorem t60 {args:List SV} {res:SV} (ka:KFL args) (kr:KF res) (h:sx Try.prog Y0 0 c60 (st0 args 62) (retK r60 res)) (hA:Nat.ble args.length 62 = true:=by rfl):Ct Try.prog 60 args res:=ct_intro Try.func60 rfl b60 c60_ok r60_ok n60 (Nat.le_of_ble_eq_true hA) ka kr h
def c64:SC:=(.seq (.reg [
 ⟨some 3,.box (.t 0) 0 3,none,[]⟩,
 ⟨some 4,.box (.t 1) 0 3,none,[]⟩,
 ⟨some 6,.mv (.c (.bool false)),none,[]⟩])
 (.seq (.reg [
 ⟨some 7,.mv (.t 2),none,[]⟩,
 ⟨some 8,.mkf 92 [.t 3,.t 4],none,[]⟩,
 ⟨some 9,.call 91 [.t 7,.t 8],none,[]⟩,
 ⟨some 10,.un .not (.t 9),none,[]⟩,
 ⟨some 6,.mv (.t 10),none,[]⟩])
 .ret))
def r64:List RV:=[.tmp 6]
theorem n64:Try.f64.ntmps = 11:=by kernel_rfl
theorem b64:bodyB Try.prog 64 = true:=by kernel_rfl
theorem c64_ok:cmpC Try.prog c64 ((Try.f64.body).getD .skip) = true:=by kernel_rfl
theorem r64_ok:cmpR Try.prog r64 Try.f64.results.toList = true:=by kernel_rfl
theorem t64 {args:List SV} {res:SV} (ka:KFL args) (kr:KF res) (h:sx Try.prog Y0 0 c64 (st0 args 11) (retK r64 res)) (hA:Nat.ble args.length 11 = true:=by rfl):Ct Try.prog 64 args res:=ct_intro Try.func64 rfl b64 c64_ok r64_ok n64 (Nat.le_of_ble_eq_true hA) ka kr h
def c65:SC:=(.seq (.reg [
 ⟨some 3,.box (.t 0) 0 3,none,[]⟩,
 ⟨some 4,.box (.t 1) 0 3,none,[]⟩,
 ⟨some 6,.mv (.c (.bool false)),none,[]⟩])
 (.seq (.reg [
 ⟨some 7,.mv (.t 2),none,[]⟩,
 ⟨some 8,.mkf 94 [.t 3,.t 4],none,[]⟩,
 ⟨some 9,.call 93 [.t 7,.t 8],none,[]⟩,
 ⟨some 10,.un .not (.t 9),none,[]⟩,
 ⟨some 6,.mv (.t 10),none,[]⟩])
 .ret))
def r65:List RV:=[.tmp 6]
theorem n65:Try.f65.ntmps = 11:=by kernel_rfl
theorem b65:bodyB Try.prog 65 = true:=by kernel_rfl
theorem c65_ok:cmpC Try.prog c65 ((Try.f65.body).getD .skip) = true:=by kernel_rfl
theorem r65_ok:cmpR Try.prog r65 Try.f65.results.toList = true:=by kernel_rfl
theorem t65 {args:List SV} {res:SV} (ka:KFL args) (kr:KF res) (h:sx Try.prog Y0 0 c65 (st0 args 11) (retK r65 res)) (hA:Nat.ble args.length 11 = true:=by rfl):Ct Try.prog 65 args res:=ct_intro Try.func65 rfl b65 c65_ok r65_ok n65 (Nat.le_of_ble_eq_true hA) ka kr h
def c72:SC:=(.seq (.reg [
 ⟨some 2,.alloc [.int .i64 0,.int .i64 0] 23,none,[]⟩])
 (.seq (.reg [
 ⟨some 3,.alloc [.int .i64 0,.int .i64 0] 23,none,[]⟩])
 (.seq (.seq (.reg [
 ⟨some 6,.mv (.t 0),none,[]⟩,
 ⟨some 7,.len (.t 6),none,[]⟩,
 ⟨some 8,.mv (.c (.int .i64 0)),none,[]⟩])
 (.block 0 (.loop (.seq (.reg [
  ⟨some 9,.bin .lss (.t 8) (.t 7),none,[]⟩])
  (.seq (.cond (.t 9)
  .skip
  (.exit 0))
  (.seq (.block 1 (.seq (.reg [
   ⟨some 10,.ixs (.t 6) (.t 8) 2,none,[]⟩,
   ⟨some 11,.ld (.t 10) 2 true,none,[]⟩,
   ⟨some 5,.alloc [.int .i64 0,.int .i64 0] 23,none,[]⟩,
   ⟨none,.st (.t 5) (.t 11) 2,none,[]⟩])
   (.reg [
   ⟨some 12,.addo (.t 3) 0,none,[]⟩,
   ⟨some 13,.ld (.t 12) 1 false,none,[]⟩,
   ⟨some 14,.addo (.t 5) 0,none,[]⟩,
   ⟨some 15,.ld (.t 14) 1 false,none,[]⟩,
   ⟨some 16,.bin .add (.t 13) (.t 15),none,[]⟩,
   ⟨some 17,.addo (.t 3) 1,none,[]⟩,
   ⟨some 18,.ld (.t 17) 1 false,none,[]⟩,
   ⟨some 19,.addo (.t 5) 1,none,[]⟩,
   ⟨some 20,.ld (.t 19) 1 false,none,[]⟩,
   ⟨some 21,.bin .add (.t 18) (.t 20),none,[]⟩,
   ⟨some 22,.build [.int .i64 0,.int .i64 0] [(0,1,.t 16),(1,1,.t 21)],none,[]⟩,
   ⟨none,.st (.t 3) (.t 22) 2,none,[]⟩])))
  (.reg [
  ⟨some 23,.bin .add (.t 8) (.c (.int .i64 1)),none,[]⟩,
  ⟨some 8,.mv (.t 23),none,[]⟩])))))))
 (.seq (.reg [
 ⟨some 24,.ld (.t 3) 2 true,none,[]⟩,
 ⟨none,.st (.t 2) (.t 24) 2,none,[]⟩])
 .ret))))
def r72:List RV:=[.cell 2 2 true]
theorem n72:Try.f72.ntmps = 25:=by kernel_rfl
theorem b72:bodyB Try.prog 72 = true:=by kernel_rfl
theorem c72_ok:cmpC Try.prog c72 ((Try.f72.body).getD .skip) = true:=by kernel_rfl
theorem r72_ok:cmpR Try.prog r72 Try.f72.results.toList = true:=by kernel_rfl
theorem t72 {args:List SV} {res:SV} (ka:KFL args) (kr:KF res) (h:sx Try.prog Y0 0 c72 (st0 args 25) (retK r72 res)) (hA:Nat.ble args.length 25 = true:=by rfl):Ct Try.prog 72 args res:=ct_intro Try.func72 rfl b72 c72_ok r72_ok n72 (Nat.le_of_ble_eq_true hA) ka kr h
def c73:SC:=(.seq (.reg [
 ⟨some 3,.box (.t 1) 0 23,none,[]⟩,
 ⟨some 4,.alloc [.int .i64 0,.int .i64 0] 23,none,[]⟩])
 (.seq (.reg [
 ⟨some 5,.mv (.t 0),none,[]⟩,
 ⟨some 6,.addo (.t 3) 1,none,[]⟩,
 ⟨some 7,.ld (.t 6) 1 false,none,[]⟩,
 ⟨some 8,.bin .sub (.t 5) (.t 7),none,[]⟩,
 ⟨some 9,.mv (.t 0),none,[]⟩,
 ⟨some 10,.addo (.t 3) 0,none,[]⟩,
 ⟨some 11,.ld (.t 10) 1 false,none,[]⟩,
 ⟨some 12,.bin .sub (.t 9) (.t 11),none,[]⟩,
 ⟨some 13,.build [.int .i64 0,.int .i64 0] [(0,1,.t 8),(1,1,.t 12)],none,[]⟩,
 ⟨none,.st (.t 4) (.t 13) 2,none,[]⟩])
 .ret))
def r73:List RV:=[.cell 4 2 true]
theorem n73:Try.f73.ntmps = 14:=by kernel_rfl
theorem b73:bodyB Try.prog 73 = true:=by kernel_rfl
theorem c73_ok:cmpC Try.prog c73 ((Try.f73.body).getD .skip) = true:=by kernel_rfl
theorem r73_ok:cmpR Try.prog r73 Try.f73.results.toList = true:=by kernel_rfl
theorem t73 {args:List SV} {res:SV} (ka:KFL args) (kr:KF res) (h:sx Try.prog Y0 0 c73 (st0 args 14) (retK r73 res)) (hA:Nat.ble args.length 14 = true:=by rfl):Ct Try.prog 73 args res:=ct_intro Try.func73 rfl b73 c73_ok r73_ok n73 (Nat.le_of_ble_eq_true hA) ka kr h
def c89:SC:=(.seq (.reg [
 ⟨some 3,.box (.t 0) 0 23,none,[]⟩,
 ⟨some 6,.alloc [.int .i64 0,.int .i64 0] 23,none,[]⟩])
 (.seq (.seq (.reg [
 ⟨some 9,.mv (.t 2),none,[]⟩,
 ⟨some 10,.len (.t 9),none,[]⟩,
 ⟨some 11,.mv (.c (.int .i64 0)),none,[]⟩])
 (.block 0 (.loop (.seq (.reg [
  ⟨some 12,.bin .lss (.t 11) (.t 10),none,[]⟩])
  (.seq (.cond (.t 12)
  .skip
  (.exit 0))
  (.seq (.block 1 (.seq (.reg [
   ⟨some 13,.ixs (.t 9) (.t 11) 1,none,[]⟩,
   ⟨some 14,.ld (.t 13) 1 false,none,[]⟩,
   ⟨some 8,.mv (.t 14),none,[]⟩])
   (.reg [
   ⟨some 15,.addo (.t 3) 0,none,[]⟩,
   ⟨some 16,.ld (.t 15) 1 false,none,[]⟩,
   ⟨some 17,.mv (.t 8),none,[]⟩,
   ⟨some 18,.bin .mul (.t 16) (.t 17),none,[]⟩,
   ⟨some 19,.addo (.t 3) 1,none,[]⟩,
   ⟨some 20,.ld (.t 19) 1 false,none,[]⟩,
   ⟨some 21,.mv (.t 8),none,[]⟩,
   ⟨some 22,.bin .mul (.t 20) (.t 21),none,[]⟩,
   ⟨some 23,.addo (.t 3) 0,none,[]⟩,
   ⟨none,.st (.t 23) (.t 18) 1,none,[]⟩,
   ⟨some 24,.addo (.t 3) 1,none,[]⟩,
   ⟨none,.st (.t 24) (.t 22) 1,none,[]⟩])))
  (.reg [
  ⟨some 25,.bin .add (.t 11) (.c (.int .i64 1)),none,[]⟩,
  ⟨some 11,.mv (.t 25),none,[]⟩])))))))
 (.seq (.regd [0,1,2,3,4,5,6,7,8,9] [
 .op ⟨some 26,.addo (.t 3) 0,none,[]⟩,
 .op ⟨some 27,.ld (.t 26) 1 false,none,[0]⟩,
 .op ⟨some 28,.mv (.t 1),none,[]⟩,
 .op ⟨some 29,.div .quo (.t 27) (.t 28),none,[1,2]⟩,
 .op ⟨some 30,.addo (.t 3) 1,none,[]⟩,
 .op ⟨some 31,.ld (.t 30) 1 false,none,[4]⟩,
 .op ⟨some 32,.mv (.t 1),none,[]⟩,
 .op ⟨some 33,.call 90 [.t 31,.t 32],none,[5,6]⟩,
 .op ⟨some 34,.build [.int .i64 0,.int .i64 0] [(0,1,.t 29),(1,1,.t 33)],none,[3,7]⟩] 0 1 [
 ⟨none,.st (.t 6) (.t 34) 2,none,[0,1,2,3,4,5,6,7,8]⟩])
 .ret)))
def r89:List RV:=[.cell 6 2 true]
theorem n89:Try.f89.ntmps = 35:=by kernel_rfl
theorem b89:bodyB Try.prog 89 = true:=by kernel_rfl
theorem c89_ok:cmpC Try.prog c89 ((Try.f89.body).getD .skip) = true:=by kernel_rfl
theorem r89_ok:cmpR Try.prog r89 Try.f89.results.toList = true:=by kernel_rfl
theorem t89 {args:List SV} {res:SV} (ka:KFL args) (kr:KF res) (h:sx Try.prog Y0 0 c89 (st0 args 35) (retK r89 res)) (hA:Nat.ble args.length 35 = true:=by rfl):Ct Try.prog 89 args res:=ct_intro Try.func89 rfl b89 c89_ok r89_ok n89 (Nat.le_of_ble_eq_true hA) ka kr h
def c90:SC:=(.seq (.reg [
 ⟨some 4,.mv (.c (.int .i64 0)),none,[]⟩])
 (.seq (.reg [
 ⟨some 5,.mv (.t 0),none,[]⟩,
 ⟨some 6,.mv (.t 1),none,[]⟩,
 ⟨some 7,.bin .add (.t 5) (.t 6),none,[]⟩,
 ⟨some 8,.bin .sub (.t 7) (.c (.int .i64 1)),none,[]⟩,
 ⟨some 9,.mv (.t 1),none,[]⟩,
 ⟨some 10,.div .quo (.t 8) (.t 9),none,[]⟩,
 ⟨some 4,.mv (.t 10),none,[]⟩])
 .ret))
def r90:List RV:=[.tmp 4]
theorem n90:Try.f90.ntmps = 11:=by kernel_rfl
theorem b90:bodyB Try.prog 90 = true:=by kernel_rfl
theorem c90_ok:cmpC Try.prog c90 ((Try.f90.body).getD .skip) = true:=by kernel_rfl
theorem r90_ok:cmpR Try.prog r90 Try.f90.results.toList = true:=by kernel_rfl
theorem t90 {args:List SV} {res:SV} (ka:KFL args) (kr:KF res) (h:sx Try.prog Y0 0 c90 (st0 args 11) (retK r90 res)) (hA:Nat.ble args.length 11 = true:=by rfl):Ct Try.prog 90 args res:=ct_intro Try.func90 rfl b90 c90_ok r90_ok n90 (Nat.le_of_ble_eq_true hA) ka kr h
def c91:SC:=(.seq (.reg [
 ⟨some 4,.mv (.c (.bool false)),none,[]⟩])
 (.seq (.reg [
 ⟨some 5,.mv (.t 0),none,[]⟩,
 ⟨some 6,.mv (.t 1),none,[]⟩,
 ⟨some 7,.call 101 [.t 5,.t 6],none,[]⟩,
 ⟨some 8,.bin .geq (.t 7) (.c (.int .i64 0)),none,[]⟩,
 ⟨some 4,.mv (.t 8),none,[]⟩])
 .ret))
def r91:List RV:=[.tmp 4]
theorem n91:Try.f91.ntmps = 9:=by kernel_rfl
theorem b91:bodyB Try.prog 91 = true:=by kernel_rfl
theorem c91_ok:cmpC Try.prog c91 ((Try.f91.body).getD .skip) = true:=by kernel_rfl
theorem r91_ok:cmpR Try.prog r91 Try.f91.results.toList = true:=by kernel_rfl
theorem t91 {args:List SV} {res:SV} (ka:KFL args) (kr:KF res) (h:sx Try.prog Y0 0 c91 (st0 args 9) (retK r91 res)) (hA:Nat.ble args.length 9 = true:=by rfl):Ct Try.prog 91 args res:=ct_intro Try.func91 rfl b91 c91_ok r91_ok n91 (Nat.le_of_ble_eq_true hA) ka kr h
def c92:SC:=(.seq (.reg [
 ⟨some 4,.mv (.c (.bool false)),none,[]⟩])
 (.seq (.reg [
 ⟨some 5,.mv (.t 0),none,[]⟩,
 ⟨some 6,.ld (.t 1) 1 false,none,[]⟩,
 ⟨some 7,.bin .lss (.t 5) (.t 6),none,[]⟩,
 ⟨some 8,.mv (.t 7),none,[]⟩,
 ⟨some 9,.mv (.t 0),some (8,false),[]⟩,
 ⟨some 10,.ld (.t 2) 1 false,some (8,false),[]⟩,
 ⟨some 11,.bin .gtr (.t 9) (.t 10),some (8,false),[]⟩,
 ⟨some 12,.pick (.t 8) (.c (.bool true)) (.t 11),none,[]⟩,
 ⟨some 4,.mv (.t 12),none,[]⟩])
 .ret))
def r92:List RV:=[.tmp 4]
theorem n92:Try.f92.ntmps = 13:=by kernel_rfl
theorem b92:bodyB Try.prog 92 = true:=by kernel_rfl
theorem c92_ok:cmpC Try.prog c92 ((Try.f92.body).getD .skip) = true:=by kernel_rfl
theorem r92_ok:cmpR Try.prog r92 Try.f92.results.toList = true:=by kernel_rfl
theorem t92 {args:List SV} {res:SV} (ka:KFL args) (kr:KF res) (h:sx Try.prog Y0 0 c92 (st0 args 13) (retK r92 res)) (hA:Nat.ble args.length 13 = true:=by rfl):Ct Try.prog 92 args res:=ct_intro Try.func92 rfl b92 c92_ok r92_ok n92 (Nat.le_of_ble_eq_true hA) ka kr h
def c93:SC:=(.seq (.reg [
 ⟨some 4,.mv (.c (.bool false)),none,[]⟩])
 (.seq (.reg [
 ⟨some 5,.mv (.t 0),none,[]⟩,
 ⟨some 6,.mv (.t 1),none,[]⟩,
 ⟨some 7,.call 102 [.t 5,.t 6],none,[]⟩,
 ⟨some 8,.bin .geq (.t 7) (.c (.int .i64 0)),none,[]⟩,
 ⟨some 4,.mv (.t 8),none,[]⟩])
 .ret))
def r93:List RV:=[.tmp 4]
theorem n93:Try.f93.ntmps = 9:=by kernel_rfl
theorem b93:bodyB Try.prog 93 = true:=by kernel_rfl
theorem c93_ok:cmpC Try.prog c93 ((Try.f93.body).getD .skip) = true:=by kernel_rfl
theorem r93_ok:cmpR Try.prog r93 Try.f93.results.toList = true:=by kernel_rfl
theorem t93 {args:List SV} {res:SV} (ka:KFL args) (kr:KF res) (h:sx Try.prog Y0 0 c93 (st0 args 9) (retK r93 res)) (hA:Nat.ble args.length 9 = true:=by rfl):Ct Try.prog 93 args res:=ct_intro Try.func93 rfl b93 c93_ok r93_ok n93 (Nat.le_of_ble_eq_true hA) ka kr h
def c94:SC:=(.seq (.reg [
 ⟨some 3,.box (.t 0) 0 23,none,[]⟩,
 ⟨some 4,.mv (.c (.bool false)),none,[]⟩])
 (.seq (.reg [
 ⟨some 5,.addo (.t 3) 0,none,[]⟩,
 ⟨some 6,.ld (.t 5) 1 false,none,[]⟩,
 ⟨some 7,.addo (.t 3) 1,none,[]⟩,
 ⟨some 8,.ld (.t 7) 1 false,none,[]⟩,
 ⟨some 9,.bin .gtr (.t 6) (.t 8),none,[]⟩,
 ⟨some 10,.mv (.t 9),none,[]⟩,
 ⟨some 11,.ld (.t 1) 1 false,some (10,false),[]⟩,
 ⟨some 12,.ld (.t 2) 1 false,some (10,false),[]⟩,
 ⟨some 13,.addo (.t 3) 0,some (10,false),[]⟩,
 ⟨some 14,.ld (.t 13) 1 false,some (10,false),[]⟩,
 ⟨some 15,.addo (.t 3) 1,some (10,false),[]⟩,
 ⟨some 16,.ld (.t 15) 1 false,some (10,false),[]⟩,
 ⟨some 17,.bsl 1 3 [.t 14,.t 16],some (10,false),[]⟩,
 ⟨some 18,.call 64 [.t 11,.t 12,.t 17],some (10,false),[]⟩,
 ⟨some 19,.un .not (.t 18),some (10,false),[]⟩,
 ⟨some 20,.pick (.t 10) (.c (.bool true)) (.t 19),none,[]⟩,
 ⟨some 4,.mv (.t 20),none,[]⟩])
 .ret))
def r94:List RV:=[.tmp 4]
theorem n94:Try.f94.ntmps = 21:=by kernel_rfl
theorem b94:bodyB Try.prog 94 = true:=by kernel_rfl
theorem c94_ok:cmpC Try.prog c94 ((Try.f94.body).getD .skip) = true:=by kernel_rfl
theorem r94_ok:cmpR Try.prog r94 Try.f94.results.toList = true:=by kernel_rfl
theorem t94 {args:List SV} {res:SV} (ka:KFL args) (kr:KF res) (h:sx Try.prog Y0 0 c94 (st0 args 21) (retK r94 res)) (hA:Nat.ble args.length 21 = true:=by rfl):Ct Try.prog 94 args res:=ct_intro Try.func94 rfl b94 c94_ok r94_ok n94 (Nat.le_of_ble_eq_true hA) ka kr h
def c101:SC:=(.seq (.reg [
 ⟨some 4,.mv (.c (.int .i64 0)),none,[]⟩])
 (.seq (.seq (.reg [
 ⟨some 6,.mv (.t 0),none,[]⟩,
 ⟨some 7,.len (.t 6),none,[]⟩,
 ⟨some 8,.mv (.c (.int .i64 0)),none,[]⟩])
 (.block 0 (.loop (.seq (.reg [
  ⟨some 9,.bin .lss (.t 8) (.t 7),none,[]⟩])
  (.seq (.cond (.t 9)
  .skip
  (.exit 0))
  (.seq (.block 1 (.seq (.reg [
   ⟨some 10,.mv (.t 8),none,[]⟩,
   ⟨some 5,.mv (.t 10),none,[]⟩])
   (.seq (.reg [
   ⟨some 11,.mv (.t 1),none,[]⟩,
   ⟨some 12,.mv (.t 0),none,[]⟩,
   ⟨some 13,.mv (.t 5),none,[]⟩,
   ⟨some 14,.ixs (.t 12) (.t 13) 1,none,[]⟩,
   ⟨some 15,.ld (.t 14) 1 false,none,[]⟩,
   ⟨some 16,.calv (.t 11) [.t 15],none,[]⟩])
   (.cond (.t 16)
   (.seq (.reg [
    ⟨some 17,.mv (.t 5),none,[]⟩,
    ⟨some 4,.mv (.t 17),none,[]⟩])
    .ret)
   .skip))))
  (.reg [
  ⟨some 18,.bin .add (.t 8) (.c (.int .i64 1)),none,[]⟩,
  ⟨some 8,.mv (.t 18),none,[]⟩])))))))
 (.seq (.reg [
 ⟨some 4,.mv (.c (.int .i64 (-1))),none,[]⟩])
 .ret)))
def r101:List RV:=[.tmp 4]
theorem n101:Try.f101.ntmps = 19:=by kernel_rfl
theorem b101:bodyB Try.prog 101 = true:=by kernel_rfl
theorem c101_ok:cmpC Try.prog c101 ((Try.f101.body).getD .skip) = true:=by kernel_rfl
theorem r101_ok:cmpR Try.prog r101 Try.f101.results.toList = true:=by kernel_rfl
theorem t101 {args:List SV} {res:SV} (ka:KFL args) (kr:KF res) (h:sx Try.prog Y0 0 c101 (st0 args 19) (retK r101 res)) (hA:Nat.ble args.length 19 = true:=by rfl):Ct Try.prog 101 args res:=ct_intro Try.func101 rfl b101 c101_ok r101_ok n101 (Nat.le_of_ble_eq_true hA) ka kr h
def c102:SC:=(.seq (.reg [
 ⟨some 4,.mv (.c (.int .i64 0)),none,[]⟩])
 (.seq (.seq (.reg [
 ⟨some 6,.mv (.t 0),none,[]⟩,
 ⟨some 7,.len (.t 6),none,[]⟩,
 ⟨some 8,.mv (.c (.int .i64 0)),none,[]⟩])
 (.block 0 (.loop (.seq (.reg [
  ⟨some 9,.bin .lss (.t 8) (.t 7),none,[]⟩])
  (.seq (.cond (.t 9)
  .skip
  (.exit 0))
  (.seq (.block 1 (.seq (.reg [
   ⟨some 10,.mv (.t 8),none,[]⟩,
   ⟨some 5,.mv (.t 10),none,[]⟩])
   (.seq (.reg [
   ⟨some 11,.mv (.t 1),none,[]⟩,
   ⟨some 12,.mv (.t 0),none,[]⟩,
   ⟨some 13,.mv (.t 5),none,[]⟩,
   ⟨some 14,.ixs (.t 12) (.t 13) 2,none,[]⟩,
   ⟨some 15,.ld (.t 14) 2 true,none,[]⟩,
   ⟨some 16,.calv (.t 11) [.t 15],none,[]⟩])
   (.cond (.t 16)
   (.seq (.reg [
    ⟨some 17,.mv (.t 5),none,[]⟩,
    ⟨some 4,.mv (.t 17),none,[]⟩])
    .ret)
   .skip))))
  (.reg [
  ⟨some 18,.bin .add (.t 8) (.c (.int .i64 1)),none,[]⟩,
  ⟨some 8,.mv (.t 18),none,[]⟩])))))))
 (.seq (.reg [
 ⟨some 4,.mv (.c (.int .i64 (-1))),none,[]⟩])
 .ret)))
def r102:List RV:=[.tmp 4]
theorem n102:Try.f102.ntmps = 19:=by kernel_rfl
theorem b102:bodyB Try.prog 102 = true:=by kernel_rfl
theorem c102_ok:cmpC Try.prog c102 ((Try.f102.body).getD .skip) = true:=by kernel_rfl
theorem r102_ok:cmpR Try.prog r102 Try.f102.results.toList = true:=by kernel_rfl
theorem t102 {args:List SV} {res:SV} (ka:KFL args) (kr:KF res) (h:sx Try.prog Y0 0 c102 (st0 args 19) (retK r102 res)) (hA:Nat.ble args.length 19 = true:=by rfl):Ct Try.prog 102 args res:=ct_intro Try.func102 rfl b102 c102_ok r102_ok n102 (Nat.le_of_ble_eq_true hA) ka kr h
def c4:SC:=(.seq (.reg [
 ⟨some 4,.box (.t 0) 0 25,none,[]⟩,
 ⟨some 5,.box (.t 1) 0 27,none,[]⟩,
 ⟨some 8,.mv (.c (.bool false)),none,[]⟩])
 (.seq (.seq (.reg [
 ⟨some 18,.mv (.t 2),none,[]⟩,
 ⟨some 19,.len (.t 18),none,[]⟩,
 ⟨some 20,.bin .gtr (.t 19) (.c (.int .i64 100)),none,[]⟩,
 ⟨some 21,.mv (.t 20),none,[]⟩,
 ⟨some 22,.mv (.t 3),some (21,false),[]⟩,
 ⟨some 23,.len (.t 22),some (21,false),[]⟩,
 ⟨some 24,.bin .gtr (.t 23) (.c (.int .i64 50)),some (21,false),[]⟩,
 ⟨some 25,.pick (.t 21) (.c (.bool true)) (.t 24),none,[]⟩])
 (.cond (.t 25)
 (.seq (.reg [
  ⟨some 8,.mv (.c (.bool true)),none,[]⟩])
  .ret)
 .skip))
 (.seq (.reg [
 ⟨some 26,.bsl 7 27 [],none,[]⟩,
 ⟨some 27,.mv (.t 3),none,[]⟩,
 ⟨some 28,.app 7 56 27 (.t 26) (.t 27),none,[]⟩,
 ⟨some 9,.mv (.t 28),none,[]⟩])
 (.seq (.reg [
 ⟨some 30,.ld (.t 4) 17 true,none,[]⟩,
 ⟨some 31,.ld (.t 5) 7 true,none,[]⟩,
 ⟨some 32,.mv (.t 2),none,[]⟩,
 ⟨some 33,.call 24 [.t 30,.t 31,.t 32],none,[]⟩,
 ⟨some 29,.mv (.t 33),none,[]⟩,
 ⟨some 34,.ext (.t 29) 0,none,[]⟩,
 ⟨some 35,.ext (.t 29) 1,none,[]⟩,
 ⟨some 10,.mv (.t 34),none,[]⟩,
 ⟨some 11,.mv (.t 35),none,[]⟩])
 (.seq (.reg [
 ⟨some 37,.ld (.t 4) 17 true,none,[]⟩,
 ⟨some 38,.ld (.t 5) 7 true,none,[]⟩,
 ⟨some 39,.mv (.t 2),none,[]⟩,
 ⟨some 40,.call 25 [.t 37,.t 38,.t 39],none,[]⟩,
 ⟨some 36,.mv (.t 40),none,[]⟩,
 ⟨some 41,.ext (.t 36) 0,none,[]⟩,
 ⟨some 42,.ext (.t 36) 1,none,[]⟩,
 ⟨some 12,.mv (.t 41),none,[]⟩,
 ⟨some 13,.mv (.t 42),none,[]⟩])
 (.seq (.reg [
 ⟨some 44,.ld (.t 4) 17 true,none,[]⟩,
 ⟨some 45,.mv (.t 9),none,[]⟩,
 ⟨some 46,.call 26 [.t 44,.t 45],none,[]⟩,
 ⟨some 43,.mv (.t 46),none,[]⟩,
 ⟨some 47,.ext (.t 43) 0,none,[]⟩,
 ⟨some 48,.ext (.t 43) 1,none,[]⟩,
 ⟨some 14,.alloc [.int .i64 0,.int .i64 0] 23,none,[]⟩,
 ⟨none,.st (.t 14) (.t 47) 2,none,[]⟩,
 ⟨some 15,.mv (.t 48),none,[]⟩])
 (.seq (.reg [
 ⟨some 50,.ld (.t 4) 17 true,none,[]⟩,
 ⟨some 51,.mv (.t 3),none,[]⟩,
 ⟨some 52,.call 27 [.t 50,.t 51],none,[]⟩,
 ⟨some 49,.mv (.t 52),none,[]⟩,
 ⟨some 53,.ext (.t 49) 0,none,[]⟩,
 ⟨some 54,.ext (.t 49) 1,none,[]⟩,
 ⟨some 16,.alloc [.int .i64 0,.int .i64 0] 23,none,[]⟩,
 ⟨none,.st (.t 16) (.t 53) 2,none,[]⟩,
 ⟨some 17,.mv (.t 54),none,[]⟩])
 (.seq (.reg [
 ⟨some 55,.mv (.t 10),none,[]⟩,
 ⟨some 56,.mv (.t 12),none,[]⟩,
 ⟨some 57,.bin .eql (.t 55) (.t 56),none,[]⟩,
 ⟨some 58,.mv (.t 57),none,[]⟩,
 ⟨some 59,.mv (.t 11),some (58,true),[]⟩,
 ⟨some 60,.mv (.t 13),some (58,true),[]⟩,
 ⟨some 61,.bin .eql (.t 59) (.t 60),some (58,true),[]⟩,
 ⟨some 62,.pick (.t 58) (.t 61) (.c (.bool false)),none,[]⟩,
 ⟨some 63,.mv (.t 62),none,[]⟩,
 ⟨some 64,.ld (.t 14) 2 true,some (63,true),[]⟩,
 ⟨some 65,.ld (.t 16) 2 true,some (63,true),[]⟩,
 ⟨some 66,.eqs false true [1,1] (.t 64) (.t 65),some (63,true),[]⟩,
 ⟨some 67,.pick (.t 63) (.t 66) (.c (.bool false)),none,[]⟩,
 ⟨some 68,.mv (.t 67),none,[]⟩,
 ⟨some 69,.mv (.t 15),some (68,true),[]⟩,
 ⟨some 70,.mv (.t 17),some (68,true),[]⟩,
 ⟨some 71,.bin .eql (.t 69) (.t 70),some (68,true),[]⟩,
 ⟨some 72,.pick (.t 68) (.t 71) (.c (.bool false)),none,[]⟩,
 ⟨some 73,.mv (.t 72),none,[]⟩,
 ⟨some 74,.mv (.t 9),some (73,true),[]⟩,
 ⟨some 75,.mv (.t 3),some (73,true),[]⟩,
 ⟨some 76,.call 28 [.t 74,.t 75],some (73,true),[]⟩,
 ⟨some 77,.pick (.t 73) (.t 76) (.c (.bool false)),none,[]⟩,
 ⟨some 8,.mv (.t 77),none,[]⟩])
 .ret))))))))
def r4:List RV:=[.tmp 8]
theorem n4:Try.f4.ntmps = 78:=by kernel_rfl
theorem b4:bodyB Try.prog 4 = true:=by kernel_rfl
theorem c4_ok:cmpC Try.prog c4 ((Try.f4.body).getD .skip) = true:=by kernel_rfl
theorem r4_ok:cmpR Try.prog r4 Try.f4.results.toList = true:=by kernel_rfl
theorem t4 {args:List SV} {res:SV} (ka:KFL args) (kr:KF res) (h:sx Try.prog Y0 0 c4 (st0 args 78) (retK r4 res)) (hA:Nat.ble args.length 78 = true:=by rfl):Ct Try.prog 4 args res:=ct_intro Try.func4 rfl b4 c4_ok r4_ok n4 (Nat.le_of_ble_eq_true hA) ka kr h
def c24:SC:=(.seq (.reg [
 ⟨some 3,.box (.t 0) 0 25,none,[]⟩,
 ⟨some 4,.box (.t 1) 0 27,none,[]⟩,
 ⟨some 5,.box (.t 2) 0 44,none,[]⟩,
 ⟨some 6,.mv (.c (.int .i64 0)),none,[]⟩,
 ⟨some 7,.mv (.c (.int .i64 0)),none,[]⟩])
 (.seq (.seq (.reg [
 ⟨some 10,.ld (.t 3) 17 true,none,[]⟩,
 ⟨some 11,.ld (.t 4) 7 true,none,[]⟩,
 ⟨some 12,.ld (.t 5) 1 false,none,[]⟩,
 ⟨some 13,.call 66 [.t 10,.t 11,.t 12],none,[]⟩,
 ⟨some 8,.mv (.t 13),none,[]⟩])
 (.seq (.reg [
 ⟨some 14,.mv (.t 8),none,[]⟩,
 ⟨some 15,.bin .neq (.t 14) (.c (.int .i64 0)),none,[]⟩])
 (.cond (.t 15)
 (.seq (.reg [
  ⟨some 16,.mv (.t 8),none,[]⟩,
  ⟨some 6,.mv (.c (.int .i64 0)),none,[]⟩,
  ⟨some 7,.mv (.t 16),none,[]⟩])
  .ret)
 .skip)))
 (.seq (.reg [
 ⟨some 17,.mkf 67 [.t 3,.t 4,.t 5],none,[]⟩,
 ⟨some 9,.mv (.t 17),none,[]⟩])
 (.seq (.seq (.reg [
 ⟨some 18,.mv (.t 9),none,[]⟩,
 ⟨some 19,.calv (.t 18) [.c (.int .i64 0)],none,[]⟩,
 ⟨some 20,.un .not (.t 19),none,[]⟩])
 (.cond (.t 20)
 (.seq (.reg [
  ⟨some 6,.mv (.c (.int .i64 0)),none,[]⟩,
  ⟨some 7,.mv (.c (.int .i64 13)),none,[]⟩])
  .ret)
 .skip))
 (.seq (.reg [
 ⟨some 21,.mv (.t 9),none,[]⟩,
 ⟨some 22,.call 69 [.c (.int .i64 0),.c (.int .i64 1000000),.t 21],none,[]⟩,
 ⟨some 6,.mv (.t 22),none,[]⟩,
 ⟨some 7,.mv (.c (.int .i64 0)),none,[]⟩])
 .ret)))))
def r24:List RV:=[.tmp 6,.tmp 7]
theorem n24:Try.f24.ntmps = 23:=by kernel_rfl
theorem b24:bodyB Try.prog 24 = true:=by kernel_rfl
theorem c24_ok:cmpC Try.prog c24 ((Try.f24.body).getD .skip) = true:=by kernel_rfl
theorem r24_ok:cmpR Try.prog r24 Try.f24.results.toList = true:=by kernel_rfl
theorem t24 {args:List SV} {res:SV} (ka:KFL args) (kr:KF res) (h:sx Try.prog Y0 0 c24 (st0 args 23) (retK r24 res)) (hA:Nat.ble args.length 23 = true:=by rfl):Ct Try.prog 24 args res:=ct_intro Try.func24 rfl b24 c24_ok r24_ok n24 (Nat.le_of_ble_eq_true hA) ka kr h
def c26:SC:=(.seq (.reg [
 ⟨some 2,.box (.t 0) 0 25,none,[]⟩,
 ⟨some 4,.alloc [.int .i64 0,.int .i64 0] 23,none,[]⟩,
 ⟨some 5,.mv (.c (.int .i64 0)),none,[]⟩])
 (.seq (.seq (.reg [
 ⟨some 11,.ld (.t 2) 17 true,none,[]⟩,
 ⟨some 12,.call 20 [.t 11],none,[]⟩,
 ⟨some 6,.mv (.t 12),none,[]⟩])
 (.seq (.reg [
 ⟨some 13,.mv (.t 6),none,[]⟩,
 ⟨some 14,.bin .neq (.t 13) (.c (.int .i64 0)),none,[]⟩])
 (.cond (.t 14)
 (.seq (.reg [
  ⟨some 15,.build [.int .i64 0,.int .i64 0] [],none,[]⟩,
  ⟨some 16,.mv (.t 6),none,[]⟩,
  ⟨none,.st (.t 4) (.t 15) 2,none,[]⟩,
  ⟨some 5,.mv (.t 16),none,[]⟩])
  .ret)
 .skip)))
 (.seq (.seq (.reg [
 ⟨some 17,.mv (.t 1),none,[]⟩,
 ⟨some 18,.len (.t 17),none,[]⟩,
 ⟨some 19,.bin .gtr (.t 18) (.c (.int .i64 30)),none,[]⟩])
 (.cond (.t 19)
 (.seq (.reg [
  ⟨some 20,.build [.int .i64 0,.int .i64 0] [],none,[]⟩,
  ⟨none,.st (.t 4) (.t 20) 2,none,[]⟩,
  ⟨some 5,.mv (.c (.int .i64 4)),none,[]⟩])
  .ret)
 .skip))
 (.seq (.reg [
 ⟨some 7,.alloc [.int .i64 0,.int .i64 0] 23,none,[]⟩])
 (.seq (.seq (.reg [
 ⟨some 21,.mv (.t 1),none,[]⟩,
 ⟨some 22,.len (.t 21),none,[]⟩,
 ⟨some 23,.mv (.c (.int .i64 0)),none,[]⟩])
 (.block 0 (.loop (.seq (.reg [
  ⟨some 24,.bin .lss (.t 23) (.t 22),none,[]⟩])
  (.seq (.cond (.t 24)
  .skip
  (.exit 0))
  (.seq (.block 1 (.seq (.reg [
   ⟨some 25,.ixs (.t 21) (.t 23) 7,none,[]⟩,
   ⟨some 26,.ld (.t 25) 7 true,none,[]⟩,
   ⟨some 9,.alloc [.int .i64 0,.int .i64 0,.int .i64 0,.int .i64 0,.int .i64 0,.int .i64 0,.bool false] 27,none,[]⟩,
   ⟨none,.st (.t 9) (.t 26) 7,none,[]⟩])
   (.seq (.seq (.reg [
   ⟨some 27,.ld (.t 2) 17 true,none,[]⟩,
   ⟨some 28,.ld (.t 9) 7 true,none,[]⟩,
   ⟨some 29,.call 22 [.t 27,.t 28],none,[]⟩,
   ⟨some 10,.mv (.t 29),none,[]⟩])
   (.seq (.reg [
   ⟨some 30,.mv (.t 10),none,[]⟩,
   ⟨some 31,.bin .neq (.t 30) (.c (.int .i64 0)),none,[]⟩])
   (.cond (.t 31)
   (.seq (.reg [
    ⟨some 32,.build [.int .i64 0,.int .i64 0] [],none,[]⟩,
    ⟨some 33,.mv (.t 10),none,[]⟩,
    ⟨none,.st (.t 4) (.t 32) 2,none,[]⟩,
    ⟨some 5,.mv (.t 33),none,[]⟩])
    .ret)
   .skip)))
   (.regd [0,1,2,3,4,5,6,7,8] [
   .op ⟨some 34,.ld (.t 7) 2 true,none,[]⟩,
   .op ⟨some 35,.addo (.t 2) 0,none,[]⟩,
   .op ⟨some 36,.ld (.t 35) 1 false,none,[1]⟩,
   .op ⟨some 37,.addo (.t 9) 0,none,[]⟩,
   .op ⟨some 38,.ld (.t 37) 2 true,none,[3]⟩,
   .op ⟨some 39,.call 73 [.t 36,.t 38],none,[2,4]⟩,
   .op ⟨some 40,.bsl 2 23 [.t 34,.t 39],none,[0,5]⟩,
   .op ⟨some 41,.call 72 [.t 40],none,[5,6]⟩] 0 1 [
   ⟨none,.st (.t 7) (.t 41) 2,none,[0,1,2,3,4,5,6,7]⟩]))))
  (.reg [
  ⟨some 42,.bin .add (.t 23) (.c (.int .i64 1)),none,[]⟩,
  ⟨some 23,.mv (.t 42),none,[]⟩])))))))
 (.seq (.reg [
 ⟨some 43,.ld (.t 7) 2 true,none,[]⟩,
 ⟨none,.st (.t 4) (.t 43) 2,none,[]⟩,
 ⟨some 5,.mv (.c (.int .i64 0)),none,[]⟩])
 .ret))))))
def r26:List RV:=[.cell 4 2 true,.tmp 5]
theorem n26:Try.f26.ntmps = 44:=by kernel_rfl
theorem b26:bodyB Try.prog 26 = true:=by kernel_rfl
theorem c26_ok:cmpC Try.prog c26 ((Try.f26.body).getD .skip) = true:=by kernel_rfl
theorem r26_ok:cmpR Try.prog r26 Try.f26.results.toList = true:=by kernel_rfl
theorem t26 {args:List SV} {res:SV} (ka:KFL args) (kr:KF res) (h:sx Try.prog Y0 0 c26 (st0 args 44) (retK r26 res)) (hA:Nat.ble args.length 44 = true:=by rfl):Ct Try.prog 26 args res:=ct_intro Try.func26 rfl b26 c26_ok r26_ok n26 (Nat.le_of_ble_eq_true hA) ka kr h
def c66:SC:=(.seq (.reg [
 ⟨some 3,.box (.t 0) 0 25,none,[]⟩,
 ⟨some 4,.box (.t 1) 0 27,none,[]⟩,
 ⟨some 6,.mv (.c (.int .i64 0)),none,[]⟩])
 (.seq (.seq (.reg [
 ⟨some 8,.ld (.t 3) 17 true,none,[]⟩,
 ⟨some 9,.ld (.t 4) 7 true,none,[]⟩,
 ⟨some 10,.call 22 [.t 8,.t 9],none,[]⟩,
 ⟨some 7,.mv (.t 10),none,[]⟩])
 (.seq (.reg [
 ⟨some 11,.mv (.t 7),none,[]⟩,
 ⟨some 12,.bin .neq (.t 11) (.c (.int .i64 0)),none,[]⟩])
 (.cond (.t 12)
 (.seq (.reg [
  ⟨some 13,.mv (.t 7),none,[]⟩,
  ⟨some 6,.mv (.t 13),none,[]⟩])
  .ret)
 .skip)))
 (.seq (.seq (.reg [
 ⟨some 14,.mv (.t 2),none,[]⟩,
 ⟨some 15,.len (.t 14),none,[]⟩,
 ⟨some 16,.bin .gtr (.t 15) (.c (.int .i64 60)),none,[]⟩])
 (.cond (.t 16)
 (.seq (.reg [
  ⟨some 6,.mv (.c (.int .i64 4)),none,[]⟩])
  .ret)
 .skip))
 (.seq (.reg [
 ⟨some 17,.mv (.t 2),none,[]⟩,
 ⟨some 18,.call 59 [.t 17],none,[]⟩,
 ⟨some 6,.mv (.t 18),none,[]⟩])
 .ret))))
def r66:List RV:=[.tmp 6]
theorem n66:Try.f66.ntmps = 19:=by kernel_rfl
theorem b66:bodyB Try.prog 66 = true:=by kernel_rfl
theorem c66_ok:cmpC Try.prog c66 ((Try.f66.body).getD .skip) = true:=by kernel_rfl
theorem r66_ok:cmpR Try.prog r66 Try.f66.results.toList = true:=by kernel_rfl
theorem t66 {args:List SV} {res:SV} (ka:KFL args) (kr:KF res) (h:sx Try.prog Y0 0 c66 (st0 args 19) (retK r66 res)) (hA:Nat.ble args.length 19 = true:=by rfl):Ct Try.prog 66 args res:=ct_intro Try.func66 rfl b66 c66_ok r66_ok n66 (Nat.le_of_ble_eq_true hA) ka kr h
def c67:SC:=(.seq (.reg [
 ⟨some 5,.mv (.c (.bool false)),none,[]⟩])
 (.seq (.reg [
 ⟨some 11,.ld (.t 1) 17 true,none,[]⟩,
 ⟨some 12,.ld (.t 2) 7 true,none,[]⟩,
 ⟨some 13,.build [.int .i64 0,.int .i64 0,.int .i64 0,.int .i64 0,.int .i64 0,.int .i64 0,.int .i64 0,.int .i64 0,.int .i64 0,.int .i64 0,.int .i64 0,.int .i64 0,.int .i64 0,.int .i64 0,.int .i64 0,.int .i64 0,.int .i64 0,.int .i64 0,.int .i64 0,.int .i64 0,.int .i64 0,.int .i64 0,.int .i64 0,.bool false] [(0,17,.t 11),(17,7,.t 12)],none,[]⟩,
 ⟨some 6,.alloc [.int .i64 0,.int .i64 0,.int .i64 0,.int .i64 0,.int .i64 0,.int .i64 0,.int .i64 0,.int .i64 0,.int .i64 0,.int .i64 0,.int .i64 0,.int .i64 0,.int .i64 0,.int .i64 0,.int .i64 0,.int .i64 0,.int .i64 0,.int .i64 0,.int .i64 0,.int .i64 0,.int .i64 0,.int .i64 0,.int .i64 0,.bool false] 107,none,[]⟩,
 ⟨none,.st (.t 6) (.t 13) 24,none,[]⟩])
 (.seq (.seq (.reg [
 ⟨some 14,.ld (.t 3) 1 false,none,[]⟩,
 ⟨some 15,.len (.t 14),none,[]⟩,
 ⟨some 16,.mv (.c (.int .i64 0)),none,[]⟩])
 (.block 0 (.loop (.seq (.reg [
  ⟨some 17,.bin .lss (.t 16) (.t 15),none,[]⟩])
  (.seq (.cond (.t 17)
  .skip
  (.exit 0))
  (.seq (.block 1 (.seq (.reg [
   ⟨some 18,.ixs (.t 14) (.t 16) 8,none,[]⟩,
   ⟨some 19,.ld (.t 18) 8 true,none,[]⟩,
   ⟨some 8,.alloc [.int .i64 0,.int .i64 0,.int .i64 0,.int .i64 0,.int .i64 0,.int .i64 0,.int .i64 0,.int .i64 0] 29,none,[]⟩,
   ⟨none,.st (.t 8) (.t 19) 8,none,[]⟩])
   (.seq (.seq (.reg [
   ⟨some 20,.mv (.t 0),none,[]⟩,
   ⟨some 21,.addo (.t 8) 1,none,[]⟩,
   ⟨none,.st (.t 21) (.t 20) 1,none,[]⟩])
   (.seq (.reg [
   ⟨some 22,.addo (.t 8) 0,none,[]⟩,
   ⟨some 23,.ld (.t 22) 1 false,none,[]⟩,
   ⟨some 24,.bin .gtr (.t 23) (.c (.int .i64 0)),none,[]⟩,
   ⟨some 25,.mv (.t 24),none,[]⟩,
   ⟨some 26,.ld (.t 6) 24 true,some (25,true),[]⟩,
   ⟨some 27,.call 57 [.t 26],some (25,true),[]⟩,
   ⟨some 28,.fld (.t 27) 0 1 false,some (25,true),[]⟩,
   ⟨some 29,.mv (.t 0),some (25,true),[]⟩,
   ⟨some 30,.bin .lss (.t 28) (.t 29),some (25,true),[]⟩,
   ⟨some 31,.pick (.t 25) (.t 30) (.c (.bool false)),none,[]⟩])
   (.cond (.t 31)
   (.seq (.reg [
    ⟨some 5,.mv (.c (.bool false)),none,[]⟩])
    .ret)
   .skip)))
   (.seq (.reg [
   ⟨some 33,.ld (.t 6) 24 true,none,[]⟩,
   ⟨some 34,.ld (.t 8) 8 true,none,[]⟩,
   ⟨some 35,.call 68 [.t 33,.t 34],none,[]⟩,
   ⟨some 32,.mv (.t 35),none,[]⟩,
   ⟨some 36,.ext (.t 32) 0,none,[]⟩,
   ⟨some 37,.ext (.t 32) 1,none,[]⟩,
   ⟨some 9,.alloc [.int .i64 0,.int .i64 0,.int .i64 0,.int .i64 0,.int .i64 0,.int .i64 0,.int .i64 0,.int .i64 0,.int .i64 0,.int .i64 0,.int .i64 0,.int .i64 0,.int .i64 0,.int .i64 0,.int .i64 0,.int .i64 0,.int .i64 0,.int .i64 0,.int .i64 0,.int .i64 0,.int .i64 0,.int .i64 0,.int .i64 0,.bool false] 107,none,[]⟩,
   ⟨none,.st (.t 9) (.t 36) 24,none,[]⟩,
   ⟨some 10,.mv (.t 37),none,[]⟩])
   (.seq (.seq (.reg [
   ⟨some 38,.mv (.t 10),none,[]⟩,
   ⟨some 39,.bin .neq (.t 38) (.c (.int .u8 0)),none,[]⟩])
   (.cond (.t 39)
   (.seq (.reg [
    ⟨some 5,.mv (.c (.bool false)),none,[]⟩])
    .ret)
   .skip))
   (.reg [
   ⟨some 40,.ld (.t 9) 24 true,none,[]⟩,
   ⟨none,.st (.t 6) (.t 40) 24,none,[]⟩]))))))
  (.reg [
  ⟨some 41,.bin .add (.t 16) (.c (.int .i64 1)),none,[]⟩,
  ⟨some 16,.mv (.t 41),none,[]⟩])))))))
 (.seq (.reg [
 ⟨some 5,.mv (.c (.bool true)),none,[]⟩])
 .ret))))
def r67:List RV:=[.tmp 5]
theorem n67:Try.f67.ntmps = 42:=by kernel_rfl
theorem b67:bodyB Try.prog 67 = true:=by kernel_rfl
theorem c67_ok:cmpC Try.prog c67 ((Try.f67.body).getD .skip) = true:=by kernel_rfl
theorem r67_ok:cmpR Try.prog r67 Try.f67.results.toList = true:=by kernel_rfl
theorem t67 {args:List SV} {res:SV} (ka:KFL args) (kr:KF res) (h:sx Try.prog Y0 0 c67 (st0 args 42) (retK r67 res)) (hA:Nat.ble args.length 42 = true:=by rfl):Ct Try.prog 67 args res:=ct_intro Try.func67 rfl b67 c67_ok r67_ok n67 (Nat.le_of_ble_eq_true hA) ka kr h
def c68:SC:=(.seq (.reg [
 ⟨some 2,.box (.t 0) 0 107,none,[]⟩,
 ⟨some 3,.box (.t 1) 0 29,none,[]⟩,
 ⟨some 4,.alloc [.int .i64 0,.int .i64 0,.int .i64 0,.int .i64 0,.int .i64 0,.int .i64 0,.int .i64 0,.int .i64 0,.int .i64 0,.int .i64 0,.int .i64 0,.int .i64 0,.int .i64 0,.int .i64 0,.int .i64 0,.int .i64 0,.int .i64 0,.int .i64 0,.int .i64 0,.int .i64 0,.int .i64 0,.int .i64 0,.int .i64 0,.bool false] 107,none,[]⟩,
 ⟨some 5,.mv (.c (.int .u8 0)),none,[]⟩])
 (.seq (.reg [
 ⟨some 16,.addo (.t 2) 17,none,[]⟩,
 ⟨some 17,.addo (.t 16) 0,none,[]⟩,
 ⟨some 18,.addo (.t 2) 17,none,[]⟩,
 ⟨some 19,.addo (.t 18) 2,none,[]⟩,
 ⟨some 20,.build [.pointer none,.pointer none] [(0,1,.t 17),(1,1,.t 19)],none,[]⟩,
 ⟨some 6,.alloc [.pointer none,.pointer none] 151,none,[]⟩,
 ⟨none,.st (.t 6) (.t 20) 2,none,[]⟩])
 (.seq (.regd [0,1,2,3,4,5,6,7,8,9,10,11,12,13,14,15] [
 .op ⟨some 21,.addo (.t 2) 0,none,[]⟩,
 .op ⟨some 22,.addo (.t 21) 0,none,[0]⟩,
 .op ⟨some 23,.ld (.t 22) 1 false,none,[1]⟩,
 .op ⟨some 24,.addo (.t 2) 0,none,[]⟩,
 .op ⟨some 25,.addo (.t 24) 1,none,[3]⟩,
 .op ⟨some 26,.ld (.t 25) 1 false,none,[4]⟩,
 .op ⟨some 27,.build [.int .i64 0,.int .i64 0] [(0,1,.t 23),(1,1,.t 26)],none,[2,5]⟩,
 .op ⟨some 28,.addo (.t 3) 6,none,[]⟩,
 .op ⟨some 29,.ld (.t 28) 2 true,none,[7]⟩,
 .op ⟨some 30,.addo (.t 3) 4,none,[]⟩,
 .op ⟨some 31,.ld (.t 30) 2 true,none,[9]⟩,
 .op ⟨some 32,.build [.int .i64 0,.int .i64 0,.int .i64 0,.int .i64 0] [(0,2,.t 29),(2,2,.t 31)],none,[8,10]⟩] 2 2 [
 ⟨some 7,.alloc [.int .i64 0,.int .i64 0] 97,none,[]⟩,
 ⟨some 8,.alloc [.int .i64 0,.int .i64 0,.int .i64 0,.int .i64 0] 112,none,[]⟩,
 ⟨none,.st (.t 7) (.t 27) 2,none,[0,1,2,3,4,5,6,12,13]⟩,
 ⟨none,.st (.t 8) (.t 32) 4,none,[0,1,2,3,4,5,6,7,8,9,10,11,12,13,14]⟩])
 (.seq (.reg [
 ⟨some 9,.mv (.c (.int .u8 0)),none,[]⟩])
 (.seq (.seq (.reg [
 ⟨some 33,.addo (.t 2) 0,none,[]⟩,
 ⟨some 34,.ld (.t 33) 17 true,none,[]⟩,
 ⟨some 35,.addo (.t 2) 17,none,[]⟩,
 ⟨some 36,.addo (.t 35) 6,none,[]⟩,
 ⟨some 37,.ld (.t 36) 1 false,none,[]⟩,
 ⟨some 38,.ld (.t 3) 8 true,none,[]⟩,
 ⟨some 39,.call 60 [.t 34,.t 37,.t 38],none,[]⟩,
 ⟨some 40,.mv (.c (.int .i64 0)),none,[]⟩])
 (.block 0 (.loop (.seq (.reg [
  ⟨some 41,.bin .lss (.t 40) (.c (.int .i64 2)),none,[]⟩])
  (.seq (.cond (.t 41)
  .skip
  (.exit 0))
  (.seq (.block 1 (.seq (.reg [
   ⟨some 42,.mv (.t 40),none,[]⟩,
   ⟨some 43,.idx (.t 39) (.t 40) 2 2 true,none,[]⟩,
   ⟨some 11,.alloc [.int .i64 0,.int .i64 0] 23,none,[]⟩,
   ⟨some 10,.mv (.t 42),none,[]⟩,
   ⟨none,.st (.t 11) (.t 43) 2,none,[]⟩])
   (.seq (.reg [
   ⟨some 44,.mv (.t 10),none,[]⟩,
   ⟨some 45,.ixa (.t 6) (.t 44) 2 1,none,[]⟩,
   ⟨some 46,.ld (.t 45) 1 false,none,[]⟩,
   ⟨some 12,.mv (.t 46),none,[]⟩])
   (.seq (.block 2 (.seq (.regd [0,1,2,3,4,5,6,7] [
    .op ⟨some 48,.mv (.t 12),none,[]⟩,
    .op ⟨some 49,.nilc (.t 48),none,[0]⟩,
    .op ⟨some 50,.addo (.t 49) 1,none,[1]⟩,
    .op ⟨some 51,.ld (.t 50) 1 false,none,[2]⟩,
    .op ⟨some 52,.addo (.t 11) 0,none,[]⟩,
    .op ⟨some 53,.ld (.t 52) 1 false,none,[4]⟩,
    .op ⟨some 54,.bin .lss (.t 51) (.t 53),none,[3,5]⟩,
    .op ⟨some 47,.mv (.t 54),none,[6]⟩] 0 0 [
])
 (.cond (.t 47)
 (.seq (.reg [
  ⟨some 55,.build [.int .i64 0,.int .i64 0,.int .i64 0,.int .i64 0,.int .i64 0,.int .i64 0,.int .i64 0,.int .i64 0,.int .i64 0,.int .i64 0,.int .i64 0,.int .i64 0,.int .i64 0,.int .i64 0,.int .i64 0,.int .i64 0,.int .i64 0,.int .i64 0,.int .i64 0,.int .i64 0,.int .i64 0,.int .i64 0,.int .i64 0,.bool false] [],none,[]⟩,
  ⟨none,.st (.t 4) (.t 55) 24,none,[]⟩,
  ⟨some 5,.mv (.c (.int .u8 2)),none,[]⟩])
  .ret)
 (.seq (.regd [0,1,2,3,4,5,6,7] [
  .op ⟨some 57,.mv (.t 12),none,[]⟩,
  .op ⟨some 58,.nilc (.t 57),none,[0]⟩,
  .op ⟨some 59,.addo (.t 58) 0,none,[1]⟩,
  .op ⟨some 60,.ld (.t 59) 1 false,none,[2]⟩,
  .op ⟨some 61,.addo (.t 11) 1,none,[]⟩,
  .op ⟨some 62,.ld (.t 61) 1 false,none,[4]⟩,
  .op ⟨some 63,.bin .lss (.t 60) (.t 62),none,[3,5]⟩,
  .op ⟨some 56,.mv (.t 63),none,[6]⟩] 0 0 [
])
 (.cond (.t 56)
 (.reg [
  ⟨some 9,.mv (.c (.int .u8 1)),none,[]⟩])
 .skip)))))
 (.seq (.regd [0,1,2,3,4,5,6,7,8,9,10,11,12,13,14,15,16,17,18,19,20,21,22] [
 .op ⟨some 64,.mv (.t 12),none,[]⟩,
 .op ⟨some 65,.nilc (.t 64),none,[0]⟩,
 .op ⟨some 66,.addo (.t 65) 0,none,[1]⟩,
 .op ⟨some 67,.ld (.t 66) 1 false,none,[2]⟩,
 .op ⟨some 68,.addo (.t 11) 1,none,[]⟩,
 .op ⟨some 69,.ld (.t 68) 1 false,none,[4]⟩,
 .op ⟨some 70,.bin .sub (.t 67) (.t 69),none,[3,5]⟩,
 .op ⟨some 71,.mm true [.c (.int .i64 0),.t 70],none,[6]⟩,
 .op ⟨some 72,.mv (.t 12),none,[]⟩,
 .op ⟨some 73,.nilc (.t 72),none,[8]⟩,
 .op ⟨some 74,.addo (.t 73) 1,none,[9]⟩,
 .op ⟨some 75,.ld (.t 74) 1 false,none,[10]⟩,
 .op ⟨some 76,.addo (.t 11) 0,none,[]⟩,
 .op ⟨some 77,.ld (.t 76) 1 false,none,[12]⟩,
 .op ⟨some 78,.bin .sub (.t 75) (.t 77),none,[11,13]⟩,
 .op ⟨some 79,.build [.int .i64 0,.int .i64 0] [(0,1,.t 71),(1,1,.t 78)],none,[7,14]⟩,
 .op ⟨some 80,.mv (.t 10),none,[]⟩,
 .op ⟨some 81,.ixa (.t 8) (.t 80) 2 2,none,[16]⟩,
 .op ⟨some 82,.ld (.t 81) 2 true,none,[17]⟩,
 .op ⟨some 83,.bsl 2 23 [.t 79,.t 82],none,[15,18]⟩,
 .op ⟨some 84,.call 72 [.t 83],none,[19]⟩] 1 1 [
 ⟨some 13,.alloc [.int .i64 0,.int .i64 0] 23,none,[]⟩,
 ⟨none,.st (.t 13) (.t 84) 2,none,[0,1,2,3,4,5,6,7,8,9,10,11,12,13,14,15,16,17,18,19,20,21]⟩])
 (.regd [0,1,2,3,4,5,6,7,8,9,10,11,12,13,14,15] [
 .op ⟨some 85,.mv (.t 12),none,[]⟩,
 .op ⟨some 86,.mv (.t 10),none,[]⟩,
 .op ⟨some 87,.ixa (.t 7) (.t 86) 2 1,none,[1]⟩,
 .op ⟨some 88,.ld (.t 87) 1 false,none,[2]⟩,
 .op ⟨some 89,.addo (.t 13) 0,none,[]⟩,
 .op ⟨some 90,.ld (.t 89) 1 false,none,[4]⟩,
 .op ⟨some 91,.mm false [.t 88,.t 90],none,[3,5]⟩,
 .op ⟨some 92,.mv (.t 10),none,[]⟩,
 .op ⟨some 93,.ixa (.t 7) (.t 92) 2 1,none,[7]⟩,
 .op ⟨some 94,.ld (.t 93) 1 false,none,[8]⟩,
 .op ⟨some 95,.addo (.t 13) 1,none,[]⟩,
 .op ⟨some 96,.ld (.t 95) 1 false,none,[10]⟩,
 .op ⟨some 97,.mm false [.t 94,.t 96],none,[9,11]⟩,
 .op ⟨some 98,.build [.int .i64 0,.int .i64 0] [(0,1,.t 91),(1,1,.t 97)],none,[6,12]⟩,
 .op ⟨some 99,.nilc (.t 85),none,[0,1,2,3,4,5,6,7,8,9,10,11,12,13]⟩] 0 1 [
 ⟨none,.st (.t 99) (.t 98) 2,none,[0,1,2,3,4,5,6,7,8,9,10,11,12,13,14]⟩]))))))
 (.reg [
 ⟨some 100,.bin .add (.t 40) (.c (.int .i64 1)),none,[]⟩,
 ⟨some 40,.mv (.t 100),none,[]⟩])))))))
 (.seq (.reg [
 ⟨some 101,.addo (.t 2) 17,none,[]⟩,
 ⟨some 102,.addo (.t 101) 4,none,[]⟩,
 ⟨some 14,.mv (.t 102),none,[]⟩])
 (.seq (.seq (.reg [
 ⟨some 103,.addo (.t 3) 0,none,[]⟩,
 ⟨some 104,.ld (.t 103) 1 false,none,[]⟩,
 ⟨some 105,.bin .eql (.t 104) (.c (.int .i64 0)),none,[]⟩])
 (.cond (.t 105)
 (.seq (.regd [0,1,2,3,4,5,6,7,8,9,10,11,12,13,14,15,16,17,18,19,20,21] [
  .op ⟨some 106,.mv (.t 14),none,[]⟩,
  .op ⟨some 107,.mv (.t 14),none,[]⟩,
  .op ⟨some 108,.nilc (.t 107),none,[1]⟩,
  .op ⟨some 109,.addo (.t 108) 0,none,[2]⟩,
  .op ⟨some 110,.ld (.t 109) 1 false,none,[3]⟩,
  .op ⟨some 111,.addo (.t 2) 0,none,[]⟩,
  .op ⟨some 112,.addo (.t 111) 14,none,[5]⟩,
  .op ⟨some 113,.ld (.t 112) 1 false,none,[6]⟩,
  .op ⟨some 114,.bin .sub (.t 110) (.t 113),none,[4,7]⟩,
  .op ⟨some 115,.mm true [.c (.int .i64 0),.t 114],none,[8]⟩,
  .op ⟨some 116,.mv (.t 14),none,[]⟩,
  .op ⟨some 117,.nilc (.t 116),none,[10]⟩,
  .op ⟨some 118,.addo (.t 117) 1,none,[11]⟩,
  .op ⟨some 119,.ld (.t 118) 1 false,none,[12]⟩,
  .op ⟨some 120,.addo (.t 2) 0,none,[]⟩,
  .op ⟨some 121,.addo (.t 120) 14,none,[14]⟩,
  .op ⟨some 122,.ld (.t 121) 1 false,none,[15]⟩,
  .op ⟨some 123,.bin .sub (.t 119) (.t 122),none,[13,16]⟩,
  .op ⟨some 124,.mm true [.c (.int .i64 0),.t 123],none,[17]⟩,
  .op ⟨some 125,.build [.int .i64 0,.int .i64 0] [(0,1,.t 115),(1,1,.t 124)],none,[9,18]⟩,
  .op ⟨some 126,.nilc (.t 106),none,[0,1,2,3,4,5,6,7,8,9,10,11,12,13,14,15,16,17,18,19]⟩] 0 1 [
  ⟨none,.st (.t 126) (.t 125) 2,none,[0,1,2,3,4,5,6,7,8,9,10,11,12,13,14,15,16,17,18,19,20]⟩])
  (.seq (.reg [
  ⟨some 127,.ld (.t 2) 24 true,none,[]⟩,
  ⟨some 128,.mv (.t 9),none,[]⟩,
  ⟨none,.st (.t 4) (.t 127) 24,none,[]⟩,
  ⟨some 5,.mv (.t 128),none,[]⟩])
  .ret))
 .skip))
 (.seq (.regd [0,1,2,3,4,5,6,7,8,9,10,11,12,13,14,15] [
 .op ⟨some 129,.mv (.t 14),none,[]⟩,
 .op ⟨some 130,.nilc (.t 129),none,[0]⟩,
 .op ⟨some 131,.ld (.t 130) 2 true,none,[1]⟩,
 .op ⟨some 132,.addo (.t 2) 0,none,[]⟩,
 .op ⟨some 133,.addo (.t 132) 10,none,[3]⟩,
 .op ⟨some 134,.ld (.t 133) 2 true,none,[4]⟩,
 .op ⟨some 135,.addo (.t 3) 0,none,[]⟩,
 .op ⟨some 136,.ld (.t 135) 1 false,none,[6]⟩,
 .op ⟨some 137,.addo (.t 3) 1,none,[]⟩,
 .op ⟨some 138,.ld (.t 137) 1 false,none,[8]⟩,
 .op ⟨some 139,.bsl 1 3 [.t 136,.t 138],none,[7,9]⟩,
 .op ⟨some 140,.call 89 [.t 134,.c (.int .i64 1000000),.t 139],none,[5,10]⟩,
 .op ⟨some 141,.bsl 2 23 [.t 131,.t 140],none,[2,11]⟩,
 .op ⟨some 142,.call 72 [.t 141],none,[11,12]⟩] 1 1 [
 ⟨some 15,.alloc [.int .i64 0,.int .i64 0] 23,none,[]⟩,
 ⟨none,.st (.t 15) (.t 142) 2,none,[0,1,2,3,4,5,6,7,8,9,10,11,12,13,14]⟩])
 (.seq (.reg [
 ⟨some 143,.mv (.t 14),none,[]⟩,
 ⟨some 144,.addo (.t 15) 0,none,[]⟩,
 ⟨some 145,.ld (.t 144) 1 false,none,[]⟩,
 ⟨some 146,.mm false [.c (.int .i64 1000),.t 145],none,[]⟩,
 ⟨some 147,.addo (.t 15) 1,none,[]⟩,
 ⟨some 148,.ld (.t 147) 1 false,none,[]⟩,
 ⟨some 149,.mm false [.c (.int .i64 1000),.t 148],none,[]⟩,
 ⟨some 150,.build [.int .i64 0,.int .i64 0] [(0,1,.t 146),(1,1,.t 149)],none,[]⟩,
 ⟨some 151,.nilc (.t 143),none,[]⟩,
 ⟨none,.st (.t 151) (.t 150) 2,none,[]⟩])
 (.seq (.reg [
 ⟨some 152,.ld (.t 2) 24 true,none,[]⟩,
 ⟨some 153,.mv (.t 9),none,[]⟩,
 ⟨none,.st (.t 4) (.t 152) 24,none,[]⟩,
 ⟨some 5,.mv (.t 153),none,[]⟩])
 .ret))))))))))
def r68:List RV:=[.cell 4 24 true,.tmp 5]
theorem n68:Try.f68.ntmps = 154:=by kernel_rfl
theorem b68:bodyB Try.prog 68 = true:=by kernel_rfl
theorem c68_ok:cmpC Try.prog c68 ((Try.f68.body).getD .skip) = true:=by kernel_rfl
theorem r68_ok:cmpR Try.prog r68 Try.f68.results.toList = true:=by kernel_rfl
theorem t68 {args:List SV} {res:SV} (ka:KFL args) (kr:KF res) (h:sx Try.prog Y0 0 c68 (st0 args 154) (retK r68 res)) (hA:Nat.ble args.length 154 = true:=by rfl):Ct Try.prog 68 args res:=ct_intro Try.func68 rfl b68 c68_ok r68_ok n68 (Nat.le_of_ble_eq_true hA) ka kr h
def c69:SC:=(.seq (.reg [
 ⟨some 6,.mv (.c (.int .i64 0)),none,[]⟩])
 (.seq (.block 0 (.loop (.seq (.seq (.reg [
  ⟨some 8,.mv (.t 0),none,[]⟩,
  ⟨some 9,.mv (.t 1),none,[]⟩,
  ⟨some 10,.bin .lss (.t 8) (.t 9),none,[]⟩])
  (.cond (.t 10)
  .skip
  (.exit 0)))
  (.block 1 (.seq (.reg [
   ⟨some 11,.mv (.t 1),none,[]⟩,
   ⟨some 12,.mv (.t 1),none,[]⟩,
   ⟨some 13,.mv (.t 0),none,[]⟩,
   ⟨some 14,.bin .sub (.t 12) (.t 13),none,[]⟩,
   ⟨some 15,.div .quo (.t 14) (.c (.int .i64 2)),none,[]⟩,
   ⟨some 16,.bin .sub (.t 11) (.t 15),none,[]⟩,
   ⟨some 7,.mv (.t 16),none,[]⟩])
   (.seq (.reg [
   ⟨some 17,.mv (.t 2),none,[]⟩,
   ⟨some 18,.mv (.t 7),none,[]⟩,
   ⟨some 19,.calv (.t 17) [.t 18],none,[]⟩])
   (.cond (.t 19)
   (.reg [
    ⟨some 20,.mv (.t 7),none,[]⟩,
    ⟨some 0,.mv (.t 20),none,[]⟩])
   (.reg [
    ⟨some 21,.mv (.t 7),none,[]⟩,
    ⟨some 22,.bin .sub (.t 21) (.c (.int .i64 1)),none,[]⟩,
    ⟨some 1,.mv (.t 22),none,[]⟩]))))))))
 (.seq (.reg [
 ⟨some 23,.mv (.t 0),none,[]⟩,
 ⟨some 6,.mv (.t 23),none,[]⟩])
 .ret)))
def r69:List RV:=[.tmp 6]
theorem n69:Try.f69.ntmps = 24:=by kernel_rfl
theorem b69:bodyB Try.prog 69 = true:=by kernel_rfl
theorem c69_ok:cmpC Try.prog c69 ((Try.f69.body).getD .skip) = true:=by kernel_rfl
theorem r69_ok:cmpR Try.prog r69 Try.f69.results.toList = true:=by kernel_rfl
theorem t69 {args:List SV} {res:SV} (ka:KFL args) (kr:KF res) (h:sx Try.prog Y0 0 c69 (st0 args 24) (retK r69 res)) (hA:Nat.ble args.length 24 = true:=by rfl):Ct Try.prog 69 args res:=ct_intro Try.func69 rfl b69 c69_ok r69_ok n69 (Nat.le_of_ble_eq_true hA) ka kr h
def c29:SC:=(.seq (.reg [
 ⟨some 3,.box (.t 0) 0 25,none,[]⟩,
 ⟨some 4,.box (.t 1) 0 27,none,[]⟩,
 ⟨some 5,.box (.t 2) 0 29,none,[]⟩,
 ⟨some 6,.alloc [.int .i64 0,.int .i64 0,.int .i64 0,.int .i64 0,.int .i64 0,.int .i64 0,.bool false] 27,none,[]⟩,
 ⟨some 7,.mv (.c (.int .u8 0)),none,[]⟩,
 ⟨some 8,.mv (.c (.int .i64 0)),none,[]⟩])
 (.seq (.seq (.reg [
 ⟨some 12,.ld (.t 3) 17 true,none,[]⟩,
 ⟨some 13,.ld (.t 4) 7 true,none,[]⟩,
 ⟨some 14,.call 22 [.t 12,.t 13],none,[]⟩,
 ⟨some 9,.mv (.t 14),none,[]⟩])
 (.seq (.reg [
 ⟨some 15,.mv (.t 9),none,[]⟩,
 ⟨some 16,.bin .neq (.t 15) (.c (.int .i64 0)),none,[]⟩])
 (.cond (.t 16)
 (.seq (.reg [
  ⟨some 17,.ld (.t 6) 7 true,none,[]⟩,
  ⟨some 18,.mv (.t 9),none,[]⟩,
  ⟨none,.st (.t 6) (.t 17) 7,none,[]⟩,
  ⟨some 7,.mv (.c (.int .u8 0)),none,[]⟩,
  ⟨some 8,.mv (.t 18),none,[]⟩])
  .ret)
 .skip)))
 (.seq (.seq (.reg [
 ⟨some 19,.ld (.t 5) 8 true,none,[]⟩,
 ⟨some 20,.bsl 8 29 [.t 19],none,[]⟩,
 ⟨some 21,.call 59 [.t 20],none,[]⟩,
 ⟨some 10,.mv (.t 21),none,[]⟩])
 (.seq (.reg [
 ⟨some 22,.mv (.t 10),none,[]⟩,
 ⟨some 23,.bin .neq (.t 22) (.c (.int .i64 0)),none,[]⟩])
 (.cond (.t 23)
 (.seq (.reg [
  ⟨some 24,.ld (.t 6) 7 true,none,[]⟩,
  ⟨some 25,.mv (.t 10),none,[]⟩,
  ⟨none,.st (.t 6) (.t 24) 7,none,[]⟩,
  ⟨some 7,.mv (.c (.int .u8 0)),none,[]⟩,
  ⟨some 8,.mv (.t 25),none,[]⟩])
  .ret)
 .skip)))
 (.seq (.reg [
 ⟨some 27,.ld (.t 3) 17 true,none,[]⟩,
 ⟨some 28,.ld (.t 4) 7 true,none,[]⟩,
 ⟨some 29,.build [.int .i64 0,.int .i64 0,.int .i64 0,.int .i64 0,.int .i64 0,.int .i64 0,.int .i64 0,.int .i64 0,.int .i64 0,.int .i64 0,.int .i64 0,.int .i64 0,.int .i64 0,.int .i64 0,.int .i64 0,.int .i64 0,.int .i64 0,.int .i64 0,.int .i64 0,.int .i64 0,.int .i64 0,.int .i64 0,.int .i64 0,.bool false] [(0,17,.t 27),(17,7,.t 28)],none,[]⟩,
 ⟨some 30,.ld (.t 5) 8 true,none,[]⟩,
 ⟨some 31,.call 68 [.t 29,.t 30],none,[]⟩,
 ⟨some 26,.mv (.t 31),none,[]⟩,
 ⟨some 32,.ext (.t 26) 0,none,[]⟩,
 ⟨some 33,.ext (.t 26) 1,none,[]⟩,
 ⟨some 11,.alloc [.int .i64 0,.int .i64 0,.int .i64 0,.int .i64 0,.int .i64 0,.int .i64 0,.int .i64 0,.int .i64 0,.int .i64 0,.int .i64 0,.int .i64 0,.int .i64 0,.int .i64 0,.int .i64 0,.int .i64 0,.int .i64 0,.int .i64 0,.int .i64 0,.int .i64 0,.int .i64 0,.int .i64 0,.int .i64 0,.int .i64 0,.bool false] 107,none,[]⟩,
 ⟨none,.st (.t 11) (.t 32) 24,none,[]⟩,
 ⟨some 7,.mv (.t 33),none,[]⟩])
 (.seq (.seq (.reg [
 ⟨some 34,.mv (.t 7),none,[]⟩,
 ⟨some 35,.bin .eql (.t 34) (.c (.int .u8 2)),none,[]⟩])
 (.cond (.t 35)
 (.seq (.reg [
  ⟨some 36,.ld (.t 6) 7 true,none,[]⟩,
  ⟨none,.st (.t 6) (.t 36) 7,none,[]⟩,
  ⟨some 7,.mv (.c (.int .u8 0)),none,[]⟩,
  ⟨some 8,.mv (.c (.int .i64 13)),none,[]⟩])
  .ret)
 .skip))
 (.seq (.reg [
 ⟨some 37,.addo (.t 11) 17,none,[]⟩,
 ⟨some 38,.ld (.t 37) 7 true,none,[]⟩,
 ⟨some 39,.mv (.t 7),none,[]⟩,
 ⟨none,.st (.t 6) (.t 38) 7,none,[]⟩,
 ⟨some 7,.mv (.t 39),none,[]⟩,
 ⟨some 8,.mv (.c (.int .i64 0)),none,[]⟩])
 .ret))))))
def r29:List RV:=[.cell 6 7 true,.tmp 7,.tmp 8]
theorem n29:Try.f29.ntmps = 40:=by kernel_rfl
theorem b29:bodyB Try.prog 29 = true:=by kernel_rfl
theorem c29_ok:cmpC Try.prog c29 ((Try.f29.body).getD .skip) = true:=by kernel_rfl
theorem r29_ok:cmpR Try.prog r29 Try.f29.results.toList = true:=by kernel_rfl
theorem t29 {args:List SV} {res:SV} (ka:KFL args) (kr:KF res) (h:sx Try.prog Y0 0 c29 (st0 args 40) (retK r29 res)) (hA:Nat.ble args.length 40 = true:=by rfl):Ct Try.prog 29 args res:=ct_intro Try.func29 rfl b29 c29_ok r29_ok n29 (Nat.le_of_ble_eq_true hA) ka kr h
def c31:SC:=(.seq (.reg [
 ⟨some 3,.box (.t 0) 0 25,none,[]⟩,
 ⟨some 4,.box (.t 1) 0 27,none,[]⟩,
 ⟨some 6,.alloc [.slice none 0 0] 45,none,[]⟩,
 ⟨some 7,.alloc [.int .u8 0] 5,none,[]⟩,
 ⟨some 8,.alloc [.int .i64 0] 3,none,[]⟩,
 ⟨some 9,.alloc [.int .i64 0] 30,none,[]⟩])
 (.seq (.seq (.reg [
 ⟨some 13,.ld (.t 3) 17 true,none,[]⟩,
 ⟨some 14,.ld (.t 4) 7 true,none,[]⟩,
 ⟨some 15,.mv (.t 2),none,[]⟩,
 ⟨some 16,.call 66 [.t 13,.t 14,.t 15],none,[]⟩,
 ⟨some 10,.mv (.t 16),none,[]⟩])
 (.seq (.reg [
 ⟨some 17,.mv (.t 10),none,[]⟩,
 ⟨some 18,.bin .neq (.t 17) (.c (.int .i64 0)),none,[]⟩])
 (.cond (.t 18)
 (.seq (.reg [
  ⟨some 19,.mv (.t 10),none,[]⟩,
  ⟨none,.st (.t 6) (.c (.slice none 0 0)) 1,none,[]⟩,
  ⟨none,.st (.t 7) (.c (.int .u8 0)) 1,none,[]⟩,
  ⟨none,.st (.t 8) (.c (.int .i64 0)) 1,none,[]⟩,
  ⟨none,.st (.t 9) (.t 19) 1,none,[]⟩])
  .ret)
 .skip)))
 (.seq (.seq (.reg [
 ⟨some 20,.ld (.t 3) 17 true,none,[]⟩,
 ⟨some 21,.ld (.t 4) 7 true,none,[]⟩,
 ⟨some 22,.build [.int .i64 0,.int .i64 0,.int .i64 0,.int .i64 0,.int .i64 0,.int .i64 0,.int .i64 0,.int .i64 0,.int .i64 0,.int .i64 0,.int .i64 0,.int .i64 0,.int .i64 0,.int .i64 0,.int .i64 0,.int .i64 0,.int .i64 0,.int .i64 0,.int .i64 0,.int .i64 0,.int .i64 0,.int .i64 0,.int .i64 0,.bool false] [(0,17,.t 20),(17,7,.t 21)],none,[]⟩,
 ⟨some 23,.mv (.t 2),none,[]⟩,
 ⟨some 24,.callm 75 [.t 22,.t 23],none,[]⟩])
 (.block 0 (.gh (.rfun (.t 24) [25,26] (.seq (.reg [
  ⟨some 11,.alloc [.int .i64 0,.int .i64 0,.int .i64 0,.int .i64 0,.int .i64 0,.int .i64 0,.int .i64 0,.int .i64 0,.int .i64 0,.int .i64 0,.int .i64 0,.int .i64 0,.int .i64 0,.int .i64 0,.int .i64 0,.int .i64 0,.int .i64 0,.int .i64 0,.int .i64 0,.int .i64 0,.int .i64 0,.int .i64 0,.int .i64 0,.bool false] 107,none,[]⟩,
  ⟨none,.st (.t 11) (.t 25) 24,none,[]⟩])
  (.reg [
  ⟨some 12,.mv (.t 26),none,[]⟩]))
  (.block 1 (.seq (.seq (.reg [
   ⟨some 27,.mv (.t 12),none,[]⟩,
   ⟨some 28,.bin .eql (.t 27) (.c (.int .u8 2)),none,[]⟩])
   (.cond (.t 28)
   (.seq (.reg [
    ⟨some 29,.mv (.t 12),none,[]⟩,
    ⟨some 30,.ld (.t 6) 1 false,none,[]⟩,
    ⟨some 31,.len (.t 30),none,[]⟩,
    ⟨none,.st (.t 6) (.c (.slice none 0 0)) 1,none,[]⟩,
    ⟨none,.st (.t 7) (.t 29) 1,none,[]⟩,
    ⟨none,.st (.t 8) (.t 31) 1,none,[]⟩,
    ⟨none,.st (.t 9) (.c (.int .i64 13)) 1,none,[]⟩])
    .ret)
   .skip))
   (.regd [0,1,2,3,5,6,7,4,8,9] [
   .op ⟨some 32,.ld (.t 6) 1 false,none,[]⟩,
   .op ⟨some 33,.addo (.t 11) 17,none,[]⟩,
   .op ⟨some 34,.ld (.t 33) 7 true,none,[1]⟩,
   .op ⟨some 35,.bsl 7 27 [.t 34],none,[2]⟩,
   .hide (.t 32),
   .hide (.t 6),
   .op ⟨some 37,.ld (.t 7) 1 false,none,[]⟩,
   .op ⟨some 38,.mv (.t 12),none,[]⟩,
   .op ⟨some 39,.mm true [.t 37,.t 38],none,[5,6]⟩] 0 3 [
   ⟨some 36,.appm 7 56 27 (.t 32) (.t 35),none,[0,3]⟩,
   ⟨none,.st (.t 6) (.t 36) 1,none,[0,1,2,3,4]⟩,
   ⟨none,.st (.t 7) (.t 39) 1,none,[0,1,2,3,4,5,6,7,8]⟩])))))))
 (.seq (.regd [0,1,2,3,4,5] [
 .op ⟨some 40,.ld (.t 6) 1 false,none,[]⟩,
 .hide (.t 6),
 .op ⟨some 41,.ld (.t 7) 1 false,none,[]⟩] 0 4 [
 ⟨none,.st (.t 6) (.t 40) 1,none,[0]⟩,
 ⟨none,.st (.t 7) (.t 41) 1,none,[0,1,2]⟩,
 ⟨none,.st (.t 8) (.c (.int .i64 0)) 1,none,[0,1,2,3]⟩,
 ⟨none,.st (.t 9) (.c (.int .i64 0)) 1,none,[0,1,2,3,4]⟩])
 .ret))))
def r31:List RV:=[.cell 6 1 false,.cell 7 1 false,.cell 8 1 false,.cell 9 1 false]
theorem n31:Try.f31.ntmps = 42:=by kernel_rfl
theorem b31:bodyB Try.prog 31 = true:=by kernel_rfl
theorem c31_ok:cmpC Try.prog c31 ((Try.f31.body).getD .skip) = true:=by kernel_rfl
theorem r31_ok:cmpR Try.prog r31 Try.f31.results.toList = true:=by kernel_rfl
theorem t31 {args:List SV} {res:SV} (ka:KFL args) (kr:KF res) (h:sx Try.prog Y0 0 c31 (st0 args 42) (retK r31 res)) (hA:Nat.ble args.length 42 = true:=by rfl):Ct Try.prog 31 args res:=ct_intro Try.func31 rfl b31 c31_ok r31_ok n31 (Nat.le_of_ble_eq_true hA) ka kr h
def c33:SC:=(.seq (.reg [
 ⟨some 3,.box (.t 0) 0 25,none,[]⟩,
 ⟨some 4,.box (.t 1) 0 27,none,[]⟩,
 ⟨some 5,.box (.t 2) 0 29,none,[]⟩,
 ⟨some 6,.alloc [.int .i64 0,.int .i64 0] 23,none,[]⟩,
 ⟨some 7,.mv (.c (.int .i64 0)),none,[]⟩])
 (.seq (.seq (.reg [
 ⟨some 13,.ld (.t 3) 17 true,none,[]⟩,
 ⟨some 14,.ld (.t 4) 7 true,none,[]⟩,
 ⟨some 15,.ld (.t 5) 8 true,none,[]⟩,
 ⟨some 16,.bsl 8 29 [.t 15],none,[]⟩,
 ⟨some 17,.call 66 [.t 13,.t 14,.t 16],none,[]⟩,
 ⟨some 8,.mv (.t 17),none,[]⟩])
 (.seq (.reg [
 ⟨some 18,.mv (.t 8),none,[]⟩,
 ⟨some 19,.bin .neq (.t 18) (.c (.int .i64 0)),none,[]⟩])
 (.cond (.t 19)
 (.seq (.reg [
  ⟨some 20,.build [.int .i64 0,.int .i64 0] [],none,[]⟩,
  ⟨some 21,.mv (.t 8),none,[]⟩,
  ⟨none,.st (.t 6) (.t 20) 2,none,[]⟩,
  ⟨some 7,.mv (.t 21),none,[]⟩])
  .ret)
 .skip)))
 (.seq (.reg [
 ⟨some 9,.alloc [.int .i64 0,.int .i64 0] 23,none,[]⟩])
 (.seq (.reg [
 ⟨some 10,.alloc [.bool false] 4,none,[]⟩,
 ⟨none,.st (.t 10) (.c (.bool true)) 1,none,[]⟩])
 (.seq (.seq (.regd [0,1,2,3,4,5,6] [
 .op ⟨some 22,.ld (.t 3) 17 true,none,[]⟩,
 .op ⟨some 23,.ld (.t 4) 7 true,none,[]⟩,
 .op ⟨some 24,.build [.int .i64 0,.int .i64 0,.int .i64 0,.int .i64 0,.int .i64 0,.int .i64 0,.int .i64 0,.int .i64 0,.int .i64 0,.int .i64 0,.int .i64 0,.int .i64 0,.int .i64 0,.int .i64 0,.int .i64 0,.int .i64 0,.int .i64 0,.int .i64 0,.int .i64 0,.int .i64 0,.int .i64 0,.int .i64 0,.int .i64 0,.bool false] [(0,17,.t 22),(17,7,.t 23)],none,[0,1]⟩,
 .op ⟨some 25,.ld (.t 5) 8 true,none,[]⟩,
 .op ⟨some 26,.bsl 8 29 [.t 25],none,[3]⟩,
 .op ⟨some 27,.call 76 [.t 26,.c (.int .i64 60)],none,[4]⟩] 0 0 [
 ⟨some 28,.callm 75 [.t 24,.t 27],none,[2,5]⟩])
 (.block 0 (.gh (.rfun (.t 28) [29,30] (.reg [
  ⟨some 12,.mv (.t 30),none,[]⟩])
  (.block 1 (.seq (.seq (.reg [
   ⟨some 31,.mv (.t 12),none,[]⟩,
   ⟨some 32,.bin .eql (.t 31) (.c (.int .u8 2)),none,[]⟩])
   (.cond (.t 32)
   (.exit 0)
   .skip))
   (.seq (.reg [
   ⟨some 33,.addo (.t 9) 1,none,[]⟩,
   ⟨some 34,.ld (.t 33) 1 false,none,[]⟩,
   ⟨some 35,.bin .add (.t 34) (.c (.int .i64 1)),none,[]⟩,
   ⟨some 36,.addo (.t 9) 1,none,[]⟩,
   ⟨none,.st (.t 36) (.t 35) 1,none,[]⟩])
   (.seq (.reg [
   ⟨some 37,.ld (.t 10) 1 false,none,[]⟩,
   ⟨some 38,.mv (.t 37),none,[]⟩,
   ⟨some 39,.mv (.t 12),some (38,true),[]⟩,
   ⟨some 40,.bin .eql (.t 39) (.c (.int .u8 0)),some (38,true),[]⟩,
   ⟨some 41,.pick (.t 38) (.t 40) (.c (.bool false)),none,[]⟩,
   ⟨none,.st (.t 10) (.t 41) 1,none,[]⟩])
   (.seq (.reg [
   ⟨some 42,.ld (.t 10) 1 false,none,[]⟩])
   (.cond (.t 42)
   (.reg [
    ⟨some 43,.addo (.t 9) 0,none,[]⟩,
    ⟨some 44,.ld (.t 43) 1 false,none,[]⟩,
    ⟨some 45,.bin .add (.t 44) (.c (.int .i64 1)),none,[]⟩,
    ⟨some 46,.addo (.t 9) 0,none,[]⟩,
    ⟨none,.st (.t 46) (.t 45) 1,none,[]⟩])
   .skip))))))))))
 (.seq (.reg [
 ⟨some 47,.ld (.t 9) 2 true,none,[]⟩,
 ⟨none,.st (.t 6) (.t 47) 2,none,[]⟩,
 ⟨some 7,.mv (.c (.int .i64 0)),none,[]⟩])
 .ret))))))
def r33:List RV:=[.cell 6 2 true,.tmp 7]
theorem n33:Try.f33.ntmps = 48:=by kernel_rfl
theorem b33:bodyB Try.prog 33 = true:=by kernel_rfl
theorem c33_ok:cmpC Try.prog c33 ((Try.f33.body).getD .skip) = true:=by kernel_rfl
theorem r33_ok:cmpR Try.prog r33 Try.f33.results.toList = true:=by kernel_rfl
theorem t33 {args:List SV} {res:SV} (ka:KFL args) (kr:KF res) (h:sx Try.prog Y0 0 c33 (st0 args 48) (retK r33 res)) (hA:Nat.ble args.length 48 = true:=by rfl):Ct Try.prog 33 args res:=ct_intro Try.func33 rfl b33 c33_ok r33_ok n33 (Nat.le_of_ble_eq_true hA) ka kr h
def c75:SC:=(.seq (.reg [
 ⟨some 2,.box (.t 0) 0 107,none,[]⟩,
 ⟨some 3,.box (.t 1) 0 44,none,[]⟩,
 ⟨some 4,.mv (.c (.nilFunc)),none,[]⟩])
 (.seq (.reg [
 ⟨some 5,.mkf 95 [.t 3,.t 2],none,[]⟩,
 ⟨some 4,.mv (.t 5),none,[]⟩])
 .ret))
def r75:List RV:=[.tmp 4]
theorem n75:Try.f75.ntmps = 6:=by kernel_rfl
theorem b75:bodyB Try.prog 75 = true:=by kernel_rfl
theorem c75_ok:cmpC Try.prog c75 ((Try.f75.body).getD .skip) = true:=by kernel_rfl
theorem r75_ok:cmpR Try.prog r75 Try.f75.results.toList = true:=by kernel_rfl
theorem m75 {n0:Nat} {hp0:List (Nat × HB)} {args:List SV} {Post:Ot → Prop} (hh:hpb n0 hp0) (hx:∀ o,Post o → KX o.res ∧ KXP o.hp) (h:sx Try.prog Y0 n0 c75 ⟨enum 0 args,hp0,n0,6,[]⟩ (retM r75 fun o=>∃ o',Post o' ∧ EntO n0 o o')) (hA:Nat.ble args.length 6 = true:=by rfl):CtM Try.prog 75 hp0 n0 args Post:=ctm_intro Try.func75 rfl b75 c75_ok r75_ok n75 (Nat.le_of_ble_eq_true hA) hh hx h
def c95:SC:=(.seq (.reg [
 ⟨some 8,.ld (.t 1) 1 false,none,[]⟩,
 ⟨some 9,.len (.t 8),none,[]⟩,
 ⟨some 10,.mv (.c (.int .i64 0)),none,[]⟩])
 (.block 0 (.loop (.seq (.reg [
  ⟨some 11,.bin .lss (.t 10) (.t 9),none,[]⟩])
  (.seq (.cond (.t 11)
  .skip
  (.exit 0))
  (.seq (.block 1 (.seq (.reg [
   ⟨some 12,.ixs (.t 8) (.t 10) 8,none,[]⟩,
   ⟨some 13,.ld (.t 12) 8 true,none,[]⟩,
   ⟨some 5,.alloc [.int .i64 0,.int .i64 0,.int .i64 0,.int .i64 0,.int .i64 0,.int .i64 0,.int .i64 0,.int .i64 0] 29,none,[]⟩,
   ⟨none,.st (.t 5) (.t 13) 8,none,[]⟩])
   (.seq (.reg [
   ⟨some 15,.ld (.t 2) 24 true,none,[]⟩,
   ⟨some 16,.ld (.t 5) 8 true,none,[]⟩,
   ⟨some 17,.call 68 [.t 15,.t 16],none,[]⟩,
   ⟨some 14,.mv (.t 17),none,[]⟩,
   ⟨some 18,.ext (.t 14) 0,none,[]⟩,
   ⟨some 19,.ext (.t 14) 1,none,[]⟩,
   ⟨some 6,.alloc [.int .i64 0,.int .i64 0,.int .i64 0,.int .i64 0,.int .i64 0,.int .i64 0,.int .i64 0,.int .i64 0,.int .i64 0,.int .i64 0,.int .i64 0,.int .i64 0,.int .i64 0,.int .i64 0,.int .i64 0,.int .i64 0,.int .i64 0,.int .i64 0,.int .i64 0,.int .i64 0,.int .i64 0,.int .i64 0,.int .i64 0,.bool false] 107,none,[]⟩,
   ⟨none,.st (.t 6) (.t 18) 24,none,[]⟩,
   ⟨some 7,.mv (.t 19),none,[]⟩])
   (.seq (.seq (.reg [
   ⟨some 20,.mv (.t 0),none,[]⟩,
   ⟨some 21,.ld (.t 6) 24 true,none,[]⟩,
   ⟨some 22,.mv (.t 7),none,[]⟩,
   ⟨some 23,.calvm (.t 20) [.t 21,.t 22],none,[]⟩,
   ⟨some 24,.un .not (.t 23),none,[]⟩,
   ⟨some 25,.mv (.t 24),none,[]⟩,
   ⟨some 26,.mv (.t 7),some (25,false),[]⟩,
   ⟨some 27,.bin .eql (.t 26) (.c (.int .u8 2)),some (25,false),[]⟩,
   ⟨some 28,.pick (.t 25) (.c (.bool true)) (.t 27),none,[]⟩])
   (.cond (.t 28)
   .ret
   .skip))
   (.reg [
   ⟨some 29,.ld (.t 6) 24 true,none,[]⟩,
   ⟨none,.st (.t 2) (.t 29) 24,none,[]⟩])))))
  (.reg [
  ⟨some 30,.bin .add (.t 10) (.c (.int .i64 1)),none,[]⟩,
  ⟨some 10,.mv (.t 30),none,[]⟩])))))))
def r95:List RV:=[]
theorem n95:Try.f95.ntmps = 31:=by kernel_rfl
theorem b95:bodyB Try.prog 95 = true:=by kernel_rfl
theorem c95_ok:cmpC Try.prog c95 ((Try.f95.body).getD .skip) = true:=by kernel_rfl
theorem r95_ok:cmpR Try.prog r95 Try.f95.results.toList = true:=by kernel_rfl
theorem y95 {Y:Hd} {n0:Nat} {hp0:List (Nat × HB)} {args:List SV} {Post:Ot → Prop} (h:sx Try.prog Y n0 c95 ⟨enum 0 args,hp0,n0,31,[]⟩ (retM r95 Post)) (hA:Nat.ble args.length 31 = true:=by rfl):CtY Try.prog Y 95 hp0 n0 args Post:=cty_intro Try.func95 rfl c95_ok r95_ok n95 (Nat.le_of_ble_eq_true hA) h
def c76:SC:=(.seq (.reg [
 ⟨some 4,.mv (.c (.slice none 0 0)),none,[]⟩])
 (.seq (.seq (.reg [
 ⟨some 9,.mv (.t 1),none,[]⟩,
 ⟨some 10,.bin .lss (.t 9) (.c (.int .i64 0)),none,[]⟩])
 (.cond (.t 10)
 (.reg [
  ⟨some 11,.raw (Go.Op.makeInterface 9 (Go.Operand.const (Go.Value.string { data:=#[99,97,110,110,111,116,32,98,101,32,110,101,103,97,116,105,118,101] }))) 20,none,[]⟩,
  ⟨none,.raw (Go.Op.panic (Go.Operand.tmp 11)) 0,none,[]⟩])
 .skip))
 (.seq (.reg [
 ⟨some 13,.mv (.t 0),none,[]⟩,
 ⟨some 14,.len (.t 13),none,[]⟩,
 ⟨some 15,.conv .u64 (.t 14),none,[]⟩,
 ⟨some 16,.mv (.t 1),none,[]⟩,
 ⟨some 17,.conv .u64 (.t 16),none,[]⟩,
 ⟨some 18,.call 96 [.t 15,.t 17],none,[]⟩,
 ⟨some 12,.mv (.t 18),none,[]⟩,
 ⟨some 19,.ext (.t 12) 0,none,[]⟩,
 ⟨some 20,.ext (.t 12) 1,none,[]⟩,
 ⟨some 5,.mv (.t 19),none,[]⟩,
 ⟨some 6,.mv (.t 20),none,[]⟩])
 (.seq (.seq (.reg [
 ⟨some 21,.mv (.t 5),none,[]⟩,
 ⟨some 22,.bin .gtr (.t 21) (.c (.int .u64 0)),none,[]⟩,
 ⟨some 23,.mv (.t 22),none,[]⟩,
 ⟨some 24,.mv (.t 6),some (23,false),[]⟩,
 ⟨some 25,.bin .gtr (.t 24) (.c (.int .u64 9223372036854775807)),some (23,false),[]⟩,
 ⟨some 26,.pick (.t 23) (.c (.bool true)) (.t 25),none,[]⟩])
 (.cond (.t 26)
 (.reg [
  ⟨some 27,.raw (Go.Op.makeInterface 9 (Go.Operand.const (Go.Value.string { data:=#[116,104,101,32,114,101,115,117,108,116,32,111,102,32,40,108,101,110,40,120,41,32,42,32,99,111,117,110,116,41,32,111,118,101,114,102,108,111,119,115] }))) 20,none,[]⟩,
  ⟨none,.raw (Go.Op.panic (Go.Operand.tmp 27)) 0,none,[]⟩])
 .skip))
 (.seq (.reg [
 ⟨some 28,.mv (.t 6),none,[]⟩,
 ⟨some 29,.conv .i64 (.t 28),none,[]⟩,
 ⟨some 30,.mks 8 64 [.int .i64 0,.int .i64 0,.int .i64 0,.int .i64 0,.int .i64 0,.int .i64 0,.int .i64 0,.int .i64 0] 29 (.t 29),none,[]⟩,
 ⟨some 7,.mv (.t 30),none,[]⟩])
 (.seq (.reg [
 ⟨some 31,.mv (.t 7),none,[]⟩,
 ⟨some 32,.mv (.t 0),none,[]⟩,
 ⟨some 33,.cpy 8 (.t 31) (.t 32),none,[]⟩,
 ⟨some 8,.mv (.t 33),none,[]⟩])
 (.seq (.block 0 (.loop (.seq (.seq (.reg [
  ⟨some 34,.mv (.t 8),none,[]⟩,
  ⟨some 35,.mv (.t 7),none,[]⟩,
  ⟨some 36,.len (.t 35),none,[]⟩,
  ⟨some 37,.bin .lss (.t 34) (.t 36),none,[]⟩])
  (.cond (.t 37)
  .skip
  (.exit 0)))
  (.block 1 (.regd [1,2,3,4,5,6,0,7,8,9] [
   .op ⟨some 39,.mv (.t 7),none,[]⟩,
   .op ⟨some 40,.mv (.t 8),none,[]⟩,
   .op ⟨some 41,.sub 8 (.t 39) (some (.t 40)) none,none,[1,2]⟩,
   .op ⟨some 42,.mv (.t 7),none,[]⟩,
   .op ⟨some 43,.mv (.t 8),none,[]⟩,
   .op ⟨some 44,.sub 8 (.t 42) none (some (.t 43)),none,[4,5]⟩,
   .hide (.t 41),
   .op ⟨some 38,.mv (.t 8),none,[]⟩] 0 1 [
   ⟨some 45,.cpy 8 (.t 41) (.t 44),none,[3,6]⟩,
   ⟨some 46,.bin .add (.t 38) (.t 45),none,[0,7]⟩,
   ⟨some 8,.mv (.t 46),none,[0,1,2,3,4,5,6,7,8]⟩])))))
 (.seq (.reg [
 ⟨some 47,.mv (.t 7),none,[]⟩,
 ⟨some 4,.mv (.t 47),none,[]⟩])
 .ret))))))))
def r76:List RV:=[.tmp 4]
theorem n76:Try.f76.ntmps = 48:=by kernel_rfl
theorem b76:bodyB Try.prog 76 = true:=by kernel_rfl
theorem c76_ok:cmpC Try.prog c76 ((Try.f76.body).getD .skip) = true:=by kernel_rfl
theorem r76_ok:cmpR Try.prog r76 Try.f76.results.toList = true:=by kernel_rfl
theorem t76 {args:List SV} {res:SV} (ka:KFL args) (kr:KF res) (h:sx Try.prog Y0 0 c76 (st0 args 48) (retK r76 res)) (hA:Nat.ble args.length 48 = true:=by rfl):Ct Try.prog 76 args res:=ct_intro Try.func76 rfl b76 c76_ok r76_ok n76 (Nat.le_of_ble_eq_true hA) ka kr h
def c96:SC:=(.seq (.reg [
 ⟨some 4,.mv (.c (.int .u64 0)),none,[]⟩,
 ⟨some 5,.mv (.c (.int .u64 0)),none,[]⟩])
 (.seq (.cond (.c (.bool false))
 (.seq (.reg [
  ⟨some 11,.mv (.t 0),none,[]⟩,
  ⟨some 12,.conv .u32 (.t 11),none,[]⟩,
  ⟨some 13,.mv (.t 1),none,[]⟩,
  ⟨some 14,.conv .u32 (.t 13),none,[]⟩,
  ⟨some 15,.call 103 [.t 12,.t 14],none,[]⟩,
  ⟨some 10,.mv (.t 15),none,[]⟩,
  ⟨some 16,.ext (.t 10) 0,none,[]⟩,
  ⟨some 17,.ext (.t 10) 1,none,[]⟩,
  ⟨some 6,.mv (.t 16),none,[]⟩,
  ⟨some 7,.mv (.t 17),none,[]⟩])
  (.seq (.reg [
  ⟨some 18,.mv (.t 6),none,[]⟩,
  ⟨some 19,.conv .u64 (.t 18),none,[]⟩,
  ⟨some 20,.mv (.t 7),none,[]⟩,
  ⟨some 21,.conv .u64 (.t 20),none,[]⟩,
  ⟨some 4,.mv (.t 19),none,[]⟩,
  ⟨some 5,.mv (.t 21),none,[]⟩])
  .ret))
 .skip)
 (.seq (.reg [
 ⟨some 23,.mv (.t 0),none,[]⟩,
 ⟨some 24,.mv (.t 1),none,[]⟩,
 ⟨some 25,.call 104 [.t 23,.t 24],none,[]⟩,
 ⟨some 22,.mv (.t 25),none,[]⟩,
 ⟨some 26,.ext (.t 22) 0,none,[]⟩,
 ⟨some 27,.ext (.t 22) 1,none,[]⟩,
 ⟨some 8,.mv (.t 26),none,[]⟩,
 ⟨some 9,.mv (.t 27),none,[]⟩])
 (.seq (.reg [
 ⟨some 28,.mv (.t 8),none,[]⟩,
 ⟨some 29,.mv (.t 9),none,[]⟩,
 ⟨some 4,.mv (.t 28),none,[]⟩,
 ⟨some 5,.mv (.t 29),none,[]⟩])
 .ret))))
def r96:List RV:=[.tmp 4,.tmp 5]
theorem n96:Try.f96.ntmps = 30:=by kernel_rfl
theorem b96:bodyB Try.prog 96 = true:=by kernel_rfl
theorem c96_ok:cmpC Try.prog c96 ((Try.f96.body).getD .skip) = true:=by kernel_rfl
theorem r96_ok:cmpR Try.prog r96 Try.f96.results.toList = true:=by kernel_rfl
theorem t96 {args:List SV} {res:SV} (ka:KFL args) (kr:KF res) (h:sx Try.prog Y0 0 c96 (st0 args 30) (retK r96 res)) (hA:Nat.ble args.length 30 = true:=by rfl):Ct Try.prog 96 args res:=ct_intro Try.func96 rfl b96 c96_ok r96_ok n96 (Nat.le_of_ble_eq_true hA) ka kr h
def c104:SC:=(.seq (.reg [
 ⟨some 4,.mv (.c (.int .u64 0)),none,[]⟩,
 ⟨some 5,.mv (.c (.int .u64 0)),none,[]⟩])
 (.seq (.reg [
 ⟨some 14,.mv (.t 0),none,[]⟩,
 ⟨some 15,.raw (Go.Op.binOp Go.BinOp.and 164 (Go.Operand.tmp 14) (Go.Operand.const (Go.Value.int Go.IntKind.u64 4294967295)) 164) 164,none,[]⟩,
 ⟨some 6,.mv (.t 15),none,[]⟩])
 (.seq (.reg [
 ⟨some 16,.mv (.t 0),none,[]⟩,
 ⟨some 17,.raw (Go.Op.binOp Go.BinOp.shr 164 (Go.Operand.tmp 16) (Go.Operand.const (Go.Value.int Go.IntKind.u64 32)) 153) 164,none,[]⟩,
 ⟨some 7,.mv (.t 17),none,[]⟩])
 (.seq (.reg [
 ⟨some 18,.mv (.t 1),none,[]⟩,
 ⟨some 19,.raw (Go.Op.binOp Go.BinOp.and 164 (Go.Operand.tmp 18) (Go.Operand.const (Go.Value.int Go.IntKind.u64 4294967295)) 164) 164,none,[]⟩,
 ⟨some 8,.mv (.t 19),none,[]⟩])
 (.seq (.reg [
 ⟨some 20,.mv (.t 1),none,[]⟩,
 ⟨some 21,.raw (Go.Op.binOp Go.BinOp.shr 164 (Go.Operand.tmp 20) (Go.Operand.const (Go.Value.int Go.IntKind.u64 32)) 153) 164,none,[]⟩,
 ⟨some 9,.mv (.t 21),none,[]⟩])
 (.seq (.reg [
 ⟨some 22,.mv (.t 6),none,[]⟩,
 ⟨some 23,.mv (.t 8),none,[]⟩,
 ⟨some 24,.bin .mul (.t 22) (.t 23),none,[]⟩,
 ⟨some 10,.mv (.t 24),none,[]⟩])
 (.seq (.reg [
 ⟨some 25,.mv (.t 7),none,[]⟩,
 ⟨some 26,.mv (.t 8),none,[]⟩,
 ⟨some 27,.bin .mul (.t 25) (.t 26),none,[]⟩,
 ⟨some 28,.mv (.t 10),none,[]⟩,
 ⟨some 29,.raw (Go.Op.binOp Go.BinOp.shr 164 (Go.Operand.tmp 28) (Go.Operand.const (Go.Value.int Go.IntKind.u64 32)) 153) 164,none,[]⟩,
 ⟨some 30,.bin .add (.t 27) (.t 29),none,[]⟩,
 ⟨some 11,.mv (.t 30),none,[]⟩])
 (.seq (.reg [
 ⟨some 31,.mv (.t 11),none,[]⟩,
 ⟨some 32,.raw (Go.Op.binOp Go.BinOp.and 164 (Go.Operand.tmp 31) (Go.Operand.const (Go.Value.int Go.IntKind.u64 4294967295)) 164) 164,none,[]⟩,
 ⟨some 12,.mv (.t 32),none,[]⟩])
 (.seq (.reg [
 ⟨some 33,.mv (.t 11),none,[]⟩,
 ⟨some 34,.raw (Go.Op.binOp Go.BinOp.shr 164 (Go.Operand.tmp 33) (Go.Operand.const (Go.Value.int Go.IntKind.u64 32)) 153) 164,none,[]⟩,
 ⟨some 13,.mv (.t 34),none,[]⟩])
 (.seq (.reg [
 ⟨some 35,.mv (.t 12),none,[]⟩,
 ⟨some 36,.mv (.t 6),none,[]⟩,
 ⟨some 37,.mv (.t 9),none,[]⟩,
 ⟨some 38,.bin .mul (.t 36) (.t 37),none,[]⟩,
 ⟨some 39,.bin .add (.t 35) (.t 38),none,[]⟩,
 ⟨some 12,.mv (.t 39),none,[]⟩])
 (.seq (.reg [
 ⟨some 40,.mv (.t 7),none,[]⟩,
 ⟨some 41,.mv (.t 9),none,[]⟩,
 ⟨some 42,.bin .mul (.t 40) (.t 41),none,[]⟩,
 ⟨some 43,.mv (.t 13),none,[]⟩,
 ⟨some 44,.bin .add (.t 42) (.t 43),none,[]⟩,
 ⟨some 45,.mv (.t 12),none,[]⟩,
 ⟨some 46,.raw (Go.Op.binOp Go.BinOp.shr 164 (Go.Operand.tmp 45) (Go.Operand.const (Go.Value.int Go.IntKind.u64 32)) 153) 164,none,[]⟩,
 ⟨some 47,.bin .add (.t 44) (.t 46),none,[]⟩,
 ⟨some 4,.mv (.t 47),none,[]⟩])
 (.seq (.reg [
 ⟨some 48,.mv (.t 0),none,[]⟩,
 ⟨some 49,.mv (.t 1),none,[]⟩,
 ⟨some 50,.bin .mul (.t 48) (.t 49),none,[]⟩,
 ⟨some 5,.mv (.t 50),none,[]⟩])
 .ret))))))))))))
def r104:List RV:=[.tmp 4,.tmp 5]
theorem n104:Try.f104.ntmps = 51:=by kernel_rfl
theorem b104:bodyB Try.prog 104 = true:=by kernel_rfl
theorem c104_ok:cmpC Try.prog c104 ((Try.f104.body).getD .skip) = true:=by kernel_rfl
theorem r104_ok:cmpR Try.prog r104 Try.f104.results.toList = true:=by kernel_rfl
theorem t104 {args:List SV} {res:SV} (ka:KFL args) (kr:KF res) (h:sx Try.prog Y0 0 c104 (st0 args 51) (retK r104 res)) (hA:Nat.ble args.length 51 = true:=by rfl):Ct Try.prog 104 args res:=ct_intro Try.func104 rfl b104 c104_ok r104_ok n104 (Nat.le_of_ble_eq_true hA) ka kr h
end Go.Proofs.Ytnlfjchbhgikaaa
namespace Go.Azalai
structure Span where
 lo:Int
 hi:Int
deriving DecidableEq
structure Breed where
 full:Int
 fed:Int
 rest:Span
 heat:Span
 toil:Span
 burn:Span
 rub:Span
 milk:Span
 heal:Int
 strong:Span
deriving DecidableEq
structure Camel where
 water:Span
 fat:Span
 sore:Span
 milks:Bool
deriving DecidableEq
structure March where
 hours:Int
 load:Int
 heat:Span
 grass:Span
 drinks:Span
deriving DecidableEq
def inR (lo hi n:Int):Bool:=decide (lo ≤ n ∧ n ≤ hi)
def okSp (lo hi:Int) (s:Span):Bool:=decide (lo ≤ s.lo ∧ s.lo ≤ s.hi ∧ s.hi ≤ hi)
def okBreed (b:Breed):Bool :=
 inR 1 1000000 b.full && inR 1 1000000 b.fed && inR 0 1000 b.heal && okSp 0 1000000 b.strong && okSp 0 100000 b.rest && okSp 0 100000 b.heat && okSp 0 100000 b.toil && okSp 0 100000 b.burn && okSp 0 100000 b.rub && okSp 0 100000 b.milk
def okCamel (b:Breed) (c:Camel):Bool:=okSp 0 b.full c.water && okSp 0 b.fed c.fat && okSp 0 1000 c.sore
def okMarch (m:March):Bool:=inR 0 24 m.hours && inR 0 1000000 m.load && okSp 0 60 m.heat && okSp 0 1000000 m.grass && okSp 0 1000000 m.drinks
def errB (b:Breed):Int:=if okBreed b = true then 0 else 10
def errC (b:Breed) (c:Camel):Int:=if okBreed b = false then 10 else if okCamel b c = false then 11 else 0
def upF (a b:Int):Int:=(a + b - 1).tdiv b
def zeroS:Span:=⟨0,0⟩
def fitF (b:Breed) (c:Camel):Span :=
 ⟨min 1000 (min ((2000 * c.water.lo).tdiv b.full) (min ((2000 * c.fat.lo).tdiv b.fed) (1000 - c.sore.hi))),min 1000 (min (upF (2000 * c.water.hi) b.full) (min (upF (2000 * c.fat.hi) b.fed) (1000 - c.sore.lo)))⟩
def carF (b:Breed) (c:Camel):Span:=⟨(b.strong.lo * (fitF b c).lo).tdiv 1000,upF (b.strong.hi * (fitF b c).hi) 1000⟩
def workF (m:March):Int:=m.hours * (100000 + m.load)
def costW (b:Breed) (milks:Bool) (m:March):Span :=
 ⟨b.rest.lo + b.heat.lo * max 0 (m.heat.lo - 20) + (b.toil.lo * workF m).tdiv 100000 + (if milks then b.milk.lo else 0),b.rest.hi + b.heat.hi * max 0 (m.heat.hi - 20) + upF (b.toil.hi * workF m) 100000 + (if milks then b.milk.hi else 0)⟩
def costF (b:Breed) (m:March):Span:=⟨(b.burn.lo * workF m).tdiv 100000,upF (b.burn.hi * workF m) 100000⟩
theorem tdiv_bd {a A d:Int} (h0:0 ≤ a) (h1:a ≤ A) (hd:1 ≤ d):0 ≤ a.tdiv d ∧ a.tdiv d ≤ A :=
 ⟨Int.tdiv_nonneg h0 (by omega),Int.le_trans (Int.tdiv_le_self d h0) h1⟩
theorem up_bd {a A d:Int} (h0:0 ≤ a) (h1:a ≤ A) (hd:1 ≤ d):0 ≤ upF a d ∧ upF a d ≤ A + d:=by
 have:=tdiv_bd (a:=a + d - 1) (A:=A + d) (d:=d) (by omega) (by omega) hd
 exact this
def idxF {α : Type} (g:α → Bool):List α → Nat → Int
 | [],_=>-1
 | x :: l,k=>if g x then k else idxF g l (k + 1)
theorem idxF_ge {α : Type} (g:α → Bool):∀ (l:List α) (k:Nat),decide (idxF g l k ≥ 0) = l.any g
 | [],k=>by simp [idxF]
 | x :: l,k=>by
  simp only [idxF,List.any_cons]
  by_cases hg:g x = true
  · simp [hg]
  · simpa [hg] using idxF_ge g l (k + 1)
end Go.Azalai
set_option maxRecDepth 100000
set_option maxHeartbeats 4000000
namespace Go.Proofs.Ytnlfjchbhgikaaa
open Go Go.Sx Go.Azalai
def intL (n:Int):List SV:=[I n]
def spanL (s:Span):List SV:=[I s.lo,I s.hi]
def breedL (b:Breed):List SV:=[I b.full,I b.fed,I b.rest.lo,I b.rest.hi,I b.heat.lo,I b.heat.hi,I b.toil.lo,I b.toil.hi,I b.burn.lo,I b.burn.hi,I b.rub.lo,I b.rub.hi,I b.milk.lo,I b.milk.hi,I b.heal,I b.strong.lo,I b.strong.hi]
def camelL (c:Camel):List SV:=[I c.water.lo,I c.water.hi,I c.fat.lo,I c.fat.hi,I c.sore.lo,I c.sore.hi,B c.milks]
def beastL (b:Breed) (c:Camel):List SV:=[I b.full,I b.fed,I b.rest.lo,I b.rest.hi,I b.heat.lo,I b.heat.hi,I b.toil.lo,I b.toil.hi,I b.burn.lo,I b.burn.hi,I b.rub.lo,I b.rub.hi,I b.milk.lo,I b.milk.hi,I b.heal,I b.strong.lo,I b.strong.hi,I c.water.lo,I c.water.hi,I c.fat.lo,I c.fat.hi,I c.sore.lo,I c.sore.hi,B c.milks]
def marchL (m:March):List SV:=[I m.hours,I m.load,I m.heat.lo,I m.heat.hi,I m.grass.lo,I m.grass.hi,I m.drinks.lo,I m.drinks.hi]
theorem idxF_any {α : Type} (g:α → Bool) (l:List α):decide (idxF g l 0 ≥ 0) = l.any g:=idxF_ge g l 0
theorem idx101 (h:Nat) (caps:List SV) (hk:KFL caps) (g:Int → Bool) (l:List Int) (hg:∀ x ∈ l,Ct Try.prog h (I x :: caps) (B (g x))) (hl:l.length < 4611686018427387904) {c:Bool} :
 Ct Try.prog 101 [.sl c 1 (l.map intL),.cl h caps] (I (idxF g l 0)):=by
 refine t101 ⟨by simp [KF,KFR_iff,KFL,intL],hk,trivial⟩ (by simp [KF]) ?_
 dsimp only [c101,r101,go_sem,rA,rM,rS]
 refine loopO (fun k:Nat=>[(8,I k)]) (fun _=>[]) (fun k=>k ≤ l.length ∧ idxF g (l.drop k) k = idxF g l 0) (fun k=>l.length - k) 0 ⟨Nat.zero_le _,rfl⟩ ?_ ?_
 · (refine ent_id ?_ ?_ ?_ rfl rfl <;> dsimp only [intL,hk,id,go_sem,rA,rM,rS] <;> simp [intL,hk,KFR_iff,KFR_app,KFR,KFL,KF,mtL_same,mtO,nbr])
 · intro k ⟨hk',hi⟩
   dsimp only [go_sem,rA,rM,rS]
   refine br ?_ ?_
   · intro hlt
     have hlt:k < l.length:=by simpa using hlt
     dsimp only [go_sem,rA,rM,rS]
     refine ixs_map k hlt rfl ?_
     dsimp only [intL,go_sem,rA,rM,rS]
     refine call (hg l[k] (List.getElem_mem _)) ?_
     dsimp only [go_sem,rA,rM,rS]
     refine br ?_ ?_
     · intro hgx
       dsimp only [go_sem,rA,rM,rS]
       rw [← hi,List.drop_eq_getElem_cons hlt]
       simp [idxF,hgx]
     · intro hgx
       dsimp only [go_sem,rA,rM,rS]
       refine ⟨k + 1,⟨by omega,?_⟩,by omega,?_⟩
       · rw [← hi,List.drop_eq_getElem_cons hlt];simp [idxF,hgx]
       · rw [w64_in (by omega) (by omega)]
         (refine ent_id ?_ ?_ ?_ rfl rfl <;> dsimp only [intL,hk,id,go_sem,rA,rM,rS] <;> simp [intL,hk,KFR_iff,KFR_app,KFR,KFL,KF,mtL_same,mtO,nbr])
   · intro hlt
     have hlt:k = l.length:=by simp at hlt;omega
     dsimp only [go_sem,rA,rM,rS]
     rw [← hi,hlt];simp [idxF]
theorem con91 (h:Nat) (caps:List SV) (hk:KFL caps) (g:Int → Bool) (l:List Int) (hg:∀ x ∈ l,Ct Try.prog h (I x :: caps) (B (g x))) (hl:l.length < 4611686018427387904) {c:Bool} :
 Ct Try.prog 91 [.sl c 1 (l.map intL),.cl h caps] (B (l.any g)):=by
 refine t91 ⟨by simp [KF,KFR_iff,KFL,intL],hk,trivial⟩ (by simp [KF]) ?_
 dsimp only [c91,r91,go_sem,rA,rM,rS]
 refine call (idx101 h caps hk g l hg hl) ?_
 dsimp only [go_sem,rA,rM,rS]
 rw [idxF_any]
theorem idx102 (h:Nat) (caps:List SV) (hk:KFL caps) (g:Span → Bool) (l:List Span) (hg:∀ x ∈ l,Ct Try.prog h (.agg (spanL x) :: caps) (B (g x))) (hl:l.length < 4611686018427387904) {c:Bool} :
 Ct Try.prog 102 [.sl c 2 (l.map spanL),.cl h caps] (I (idxF g l 0)):=by
 refine t102 ⟨by simp [KF,KFR_iff,KFL,spanL],hk,trivial⟩ (by simp [KF]) ?_
 dsimp only [c102,r102,go_sem,rA,rM,rS]
 refine loopO (fun k:Nat=>[(8,I k)]) (fun _=>[]) (fun k=>k ≤ l.length ∧ idxF g (l.drop k) k = idxF g l 0) (fun k=>l.length - k) 0 ⟨Nat.zero_le _,rfl⟩ ?_ ?_
 · (refine ent_id ?_ ?_ ?_ rfl rfl <;> dsimp only [spanL,hk,id,go_sem,rA,rM,rS] <;> simp [spanL,hk,KFR_iff,KFR_app,KFR,KFL,KF,mtL_same,mtO,nbr])
 · intro k ⟨hk',hi⟩
   dsimp only [go_sem,rA,rM,rS]
   refine br ?_ ?_
   · intro hlt
     have hlt:k < l.length:=by simpa using hlt
     dsimp only [go_sem,rA,rM,rS]
     refine ixs_map k hlt rfl ?_
     dsimp only [spanL,go_sem,rA,rM,rS]
     refine call (hg l[k] (List.getElem_mem _)) ?_
     dsimp only [go_sem,rA,rM,rS]
     refine br ?_ ?_
     · intro hgx
       dsimp only [go_sem,rA,rM,rS]
       rw [← hi,List.drop_eq_getElem_cons hlt]
       simp [idxF,hgx]
     · intro hgx
       dsimp only [go_sem,rA,rM,rS]
       refine ⟨k + 1,⟨by omega,?_⟩,by omega,?_⟩
       · rw [← hi,List.drop_eq_getElem_cons hlt];simp [idxF,hgx]
       · rw [w64_in (by omega) (by omega)]
         (refine ent_id ?_ ?_ ?_ rfl rfl <;> dsimp only [spanL,hk,id,go_sem,rA,rM,rS] <;> simp [spanL,hk,KFR_iff,KFR_app,KFR,KFL,KF,mtL_same,mtO,nbr])
   · intro hlt
     have hlt:k = l.length:=by simp at hlt;omega
     dsimp only [go_sem,rA,rM,rS]
     rw [← hi,hlt];simp [idxF]
theorem con93 (h:Nat) (caps:List SV) (hk:KFL caps) (g:Span → Bool) (l:List Span) (hg:∀ x ∈ l,Ct Try.prog h (.agg (spanL x) :: caps) (B (g x))) (hl:l.length < 4611686018427387904) {c:Bool} :
 Ct Try.prog 93 [.sl c 2 (l.map spanL),.cl h caps] (B (l.any g)):=by
 refine t93 ⟨by simp [KF,KFR_iff,KFL,spanL],hk,trivial⟩ (by simp [KF]) ?_
 dsimp only [c93,r93,go_sem,rA,rM,rS]
 refine call (idx102 h caps hk g l hg hl) ?_
 dsimp only [go_sem,rA,rM,rS]
 rw [idxF_any]
theorem from1_ok (lo hi x:Int):Ct Try.prog 92 [I x,.ps [I lo] 0,.ps [I hi] 0] (B (!inR lo hi x)):=by
 refine t92 (by simp [KFL,KF]) (by simp [KFL,KF]) ?_
 dsimp only [c92,r92,go_sem,rA,rM,rS]
 repeat (refine gb ?_;dsimp only [go_sem,rA,rM,rS])
 (simp only [inR,Option.some.injEq,SV.v.injEq,Value.bool.injEq] <;> grind)
theorem from_any (lo hi:Int) (l:List Int) (hl:l.length < 4611686018427387904) (c:Bool):Ct Try.prog 64 [I lo,I hi,.sl c 1 (l.map intL)] (B (l.all (inR lo hi))):=by
 refine t64 (by simp [KFR_iff,intL,KFL,KF]) (by simp [KFL,KF]) ?_
 dsimp only [c64,r64,go_sem,rA,rM,rS]
 refine callv (by simp [FLT]) (res:=B (l.any fun x=>!inR lo hi x)) ?_ ?_
 · dsimp only [go_sem,rA,rM,rS]
   exact con91 92 [.ps [I lo] 0,.ps [I hi] 0] (by simp [KFL,KF]) (fun x=>!inR lo hi x) l (fun x _=>from1_ok lo hi x) hl
 · dsimp only [go_sem,rA,rM,rS]
   simp [List.all_eq_not_any_not]
theorem from1 (lo hi a:Int) (c:Bool):Ct Try.prog 64 [I lo,I hi,.sl c 1 [[I a]]] (B (inR lo hi a)):=by
 have:=from_any lo hi [a] (by simp) c
 simpa [intL] using this
theorem from2 (lo hi a b:Int) (c:Bool):Ct Try.prog 64 [I lo,I hi,.sl c 1 [[I a],[I b]]] (B (inR lo hi a && inR lo hi b)):=by
 have:=from_any lo hi [a,b] (by simp) c
 simpa [intL] using this
theorem ordered1_ok (lo hi:Int) (s:Span):Ct Try.prog 94 [.agg (spanL s),.ps [I lo] 0,.ps [I hi] 0] (B (!okSp lo hi s)):=by
 refine t94 (by simp [spanL,KFL,KF]) (by simp [KFL,KF]) ?_
 dsimp only [c94,r94,spanL,go_sem,rA,rM,rS]
 repeat (first | (refine gb ?_;dsimp only [go_sem,rA,rM,rS]) | (refine call (from2 _ _ _ _ _) ?_;dsimp only [go_sem,rA,rM,rS]))
 (simp only [okSp,inR,Option.some.injEq,SV.v.injEq,Value.bool.injEq] <;> grind)
theorem ordered_any (lo hi:Int) (l:List Span) (hl:l.length < 4611686018427387904) (c:Bool):Ct Try.prog 65 [I lo,I hi,.sl c 2 (l.map spanL)] (B (l.all (okSp lo hi))):=by
 refine t65 (by simp [KFR_iff,spanL,KFL,KF]) (by simp [KFL,KF]) ?_
 dsimp only [c65,r65,go_sem,rA,rM,rS]
 refine callv (by simp [FLT]) (res:=B (l.any fun x=>!okSp lo hi x)) ?_ ?_
 · dsimp only [go_sem,rA,rM,rS]
   exact con93 94 [.ps [I lo] 0,.ps [I hi] 0] (by simp [KFL,KF]) (fun x=>!okSp lo hi x) l (fun x _=>ordered1_ok lo hi x) hl
 · dsimp only [go_sem,rA,rM,rS]
   simp [List.all_eq_not_any_not]
theorem ordered1 (lo hi:Int) (s:Span) (c:Bool):Ct Try.prog 65 [I lo,I hi,.sl c 2 [[I s.lo,I s.hi]]] (B (okSp lo hi s)):=by
 have:=ordered_any lo hi [s] (by simp) c
 simpa [spanL] using this
theorem ordered2 (lo hi:Int) (s t:Span) (c:Bool):Ct Try.prog 65 [I lo,I hi,.sl c 2 [[I s.lo,I s.hi],[I t.lo,I t.hi]]] (B (okSp lo hi s && okSp lo hi t)):=by
 have:=ordered_any lo hi [s,t] (by simp) c
 simpa [spanL] using this
theorem ordered6 (lo hi:Int) (a b c d e f:Span) (k:Bool):Ct Try.prog 65 [I lo,I hi,.sl k 2 [[I a.lo,I a.hi],[I b.lo,I b.hi],[I c.lo,I c.hi],[I d.lo,I d.hi],[I e.lo,I e.hi],[I f.lo,I f.hi]]]
 (B (okSp lo hi a && (okSp lo hi b && (okSp lo hi c && (okSp lo hi d && (okSp lo hi e && okSp lo hi f)))))):=by
 have:=ordered_any lo hi [a,b,c,d,e,f] (by simp) k
 simpa [spanL] using this
theorem checkBreed_ok (b:Breed):Ct Try.prog 20 [.agg (breedL b)] (I (errB b)):=by
 refine t20 (by simp [breedL,KFL,KF]) (by simp [KFL,KF]) ?_
 dsimp only [c20,r20,breedL,go_sem,rA,rM,rS]
 repeat (first | (refine gb ?_;dsimp only [go_sem,rA,rM,rS]) | (refine call (from1 _ _ _ _) ?_;dsimp only [go_sem,rA,rM,rS]) | (refine call (from2 _ _ _ _ _) ?_;dsimp only [go_sem,rA,rM,rS]) | (refine call (ordered6 _ _ b.rest b.heat b.toil b.burn b.rub b.milk _) ?_;dsimp only [go_sem,rA,rM,rS]) | (refine call (ordered1 _ _ b.strong _) ?_;dsimp only [go_sem,rA,rM,rS]))
 refine br ?_ ?_
 · intro h
   dsimp only [go_sem,rA,rM,rS]
   have:okBreed b = false:=by simp only [okBreed];grind
   simp [errB,this]
 · intro h
   dsimp only [go_sem,rA,rM,rS]
   have:okBreed b = true:=by simp only [okBreed];grind
   simp [errB,this]
theorem checkCamel_ok (b:Breed) (c:Camel):Ct Try.prog 22 [.agg (breedL b),.agg (camelL c)] (I (errC b c)):=by
 refine t22 (by simp [breedL,camelL,KFL,KF]) (by simp [KFL,KF]) ?_
 dsimp only [c22,r22,breedL,camelL,go_sem,rA,rM,rS]
 refine call (checkBreed_ok b) ?_
 dsimp only [go_sem,rA,rM,rS]
 by_cases hb:okBreed b = true
 case neg =>
  refine br_t (by simp [errB,hb]) ?_
  dsimp only [go_sem,rA,rM,rS]
  simp [errB,errC,hb]
 refine br_f (by simp [errB,hb]) ?_
 dsimp only [go_sem,rA,rM,rS]
 repeat (first | (refine gb ?_;dsimp only [go_sem,rA,rM,rS]) | (refine call (ordered1 _ _ c.water _) ?_;dsimp only [go_sem,rA,rM,rS]) | (refine call (ordered1 _ _ c.fat _) ?_;dsimp only [go_sem,rA,rM,rS]) | (refine call (ordered1 _ _ c.sore _) ?_;dsimp only [go_sem,rA,rM,rS]))
 refine br ?_ ?_
 · intro h
   dsimp only [go_sem,rA,rM,rS]
   have:okCamel b c = false:=by simp only [okCamel];grind
   simp [errC,this,hb]
 · intro h
   dsimp only [go_sem,rA,rM,rS]
   have:okCamel b c = true:=by simp only [okCamel];grind
   simp [errC,this,hb]
theorem checkDays_ok (l:List March) (hl:l.length < 4611686018427387904) (c:Bool):Ct Try.prog 59 [.sl c 8 (l.map marchL)] (I (if l.all okMarch = true then 0 else 12)):=by
 refine t59 (by simp [marchL,KFR_iff,KFL,KF]) (by simp [KFL,KF]) ?_
 dsimp only [c59,r59,go_sem,rA,rM,rS]
 refine loopO (fun k:Nat=>[(7,I k)]) (fun _=>[]) (fun k=>k ≤ l.length ∧ (l.drop k).all okMarch = l.all okMarch) (fun k=>l.length - k) 0 ⟨Nat.zero_le _,rfl⟩ ?_ ?_
 · (refine ent_id ?_ ?_ ?_ rfl rfl <;> dsimp only [marchL,id,go_sem,rA,rM,rS] <;> simp [marchL,KFR_iff,KFR_app,KFR,KFL,KF,mtL_same,mtO,nbr])
 intro k ⟨hk,hi⟩
 dsimp only [go_sem,rA,rM,rS]
 by_cases hlt:k < l.length
 · refine br_t (by simpa using hlt) ?_
   dsimp only [go_sem,rA,rM,rS]
   refine ixs_map k hlt rfl ?_
   dsimp only [marchL,go_sem,rA,rM,rS]
   repeat (first | (refine gb ?_;dsimp only [go_sem,rA,rM,rS]) | (refine call (from1 _ _ _ _) ?_;dsimp only [go_sem,rA,rM,rS]) | (refine call (ordered1 _ _ l[k].heat _) ?_;dsimp only [go_sem,rA,rM,rS]) | (refine call (ordered2 _ _ l[k].grass l[k].drinks _) ?_;dsimp only [go_sem,rA,rM,rS]))
   rw [List.drop_eq_getElem_cons hlt,List.all_cons] at hi
   refine br ?_ ?_
   · intro h
     dsimp only [go_sem,rA,rM,rS]
     have:okMarch l[k] = false:=by simp only [okMarch];grind
     rw [← hi,this];rfl
   · intro h
     dsimp only [go_sem,rA,rM,rS]
     have:okMarch l[k] = true:=by simp only [okMarch];grind
     rw [this,Bool.true_and] at hi
     rw [w64_in (n:=(k:Int) + 1) (by omega) (by omega)]
     refine ⟨k + 1,⟨hlt,hi⟩,by omega,?_⟩
     (refine ent_id ?_ ?_ ?_ rfl rfl <;> dsimp only [marchL,id,go_sem,rA,rM,rS] <;> simp [marchL,KFR_iff,KFR_app,KFR,KFL,KF,mtL_same,mtO,nbr])
 · refine br_f (by simp;omega) ?_
   dsimp only [go_sem,rA,rM,rS]
   have hke:k = l.length:=by omega
   subst hke
   rw [List.drop_length] at hi
   rw [← hi];rfl
theorem checkDay1 (m:March) (c:Bool):Ct Try.prog 59 [.sl c 8 [marchL m]] (I (if okMarch m = true then 0 else 12)):=by
 have:=checkDays_ok [m] (by simp) c
 simpa using this
end Go.Proofs.Ytnlfjchbhgikaaa
set_option maxRecDepth 100000
set_option maxHeartbeats 4000000
namespace Go.Proofs.Ytnlfjchbhgikaaa
open Go Go.Sx Go.Azalai
theorem up_wrap {a b A:Int} (h0:0 ≤ a) (h1:a ≤ A) (hA:A ≤ 1000000000000000) (hb:1 ≤ b) (hb2:b ≤ 1000000000) :
 IntKind.i64.wrap (a + b) = a + b ∧ IntKind.i64.wrap (a + b - 1) = a + b - 1 ∧ IntKind.i64.wrap ((a + b - 1).tdiv b) = upF a b:=by
 have:=up_bd h0 h1 hb
 refine ⟨w64_in (by omega) (by omega),w64_in (by omega) (by omega),?_⟩
 unfold upF at *
 exact w64_in (by omega) (by omega)
theorem ceil_ok (a b:Int) (h0:0 ≤ a) (h1:a ≤ 1000000000000000) (hb:1 ≤ b) (hb2:b ≤ 1000000000):Ct Try.prog 90 [I a,I b] (I (upF a b)):=by
 obtain ⟨q1,q2,q3⟩:=up_wrap h0 h1 (Int.le_refl _) hb hb2
 refine t90 (by simp [KFL,KF]) (by simp [KFL,KF]) ?_
 dsimp only [c90,r90,go_sem,rA,rM,rS]
 simp only [q1,q2]
 refine div0 (by omega) ?_
 dsimp only [go_sem,rA,rM,rS]
 rw [q3]
def scl (s:Span) (b n:Int):Span:=⟨(s.lo * n).tdiv b,upF (s.hi * n) b⟩
theorem scaled1 (s:Span) (b n A:Int) (c:Bool) (h1:0 ≤ s.lo) (h2:s.lo ≤ s.hi) (h3:0 ≤ n) (h4:s.hi * n ≤ 100000000000000) (hb:1 ≤ b) (hb2:b ≤ 1000000000) :
 Ct Try.prog 89 [.agg (spanL s),I b,.sl c 1 [[I n]]] (.agg (spanL (scl s b n))):=by
 have k1:0 ≤ s.lo * n:=Int.mul_nonneg h1 h3
 have k2:s.lo * n ≤ s.hi * n:=Int.mul_le_mul_of_nonneg_right h2 h3
 refine t89 (by simp [spanL,KFR,KFL,KF]) (by simp [spanL,KFL,KF]) ?_
 dsimp only [c89,r89,spanL,go_sem,rA,rM,rS]
 refine unroll 2 ?_
 dsimp only [rnds_succ,go_sem,rA,rM,rS]
 refine br_t (by decide) ?_
 dsimp only [rnds_succ,go_sem,rA,rM,rS]
 refine ixs 0 [I n] rfl rfl ?_
 dsimp only [rnds_succ,go_sem,rA,rM,rS]
 refine br_f (by decide) ?_
 dsimp only [go_sem,rA,rM,rS]
 rw [w64_in (n:=s.lo * n) (by omega) (by omega),w64_in (n:=s.hi * n) (by omega) (by omega)]
 refine div0 (by omega) ?_
 dsimp only [go_sem,rA,rM,rS]
 refine call (ceil_ok _ _ (by omega) (by omega) hb hb2) ?_
 dsimp only [go_sem,rA,rM,rS]
 have:=tdiv_bd k1 (Int.le_trans k2 h4) hb
 rw [w64_in (n:=(s.lo * n).tdiv b) (by omega) (by omega)]
 rfl
theorem scaled2 (s:Span) (b n m A:Int) (c:Bool) (h1:0 ≤ s.lo) (h2:s.lo ≤ s.hi) (h3:0 ≤ n) (h3':0 ≤ m) (h4:s.hi * n ≤ 100000000000000) (h5:s.hi * n * m ≤ 100000000000000) (hb:1 ≤ b) (hb2:b ≤ 1000000000) :
 Ct Try.prog 89 [.agg (spanL s),I b,.sl c 1 [[I n],[I m]]] (.agg (spanL ⟨(s.lo * n * m).tdiv b,upF (s.hi * n * m) b⟩)):=by
 have k1:0 ≤ s.lo * n:=Int.mul_nonneg h1 h3
 have k2:s.lo * n ≤ s.hi * n:=Int.mul_le_mul_of_nonneg_right h2 h3
 have k3:0 ≤ s.lo * n * m:=Int.mul_nonneg k1 h3'
 have k4:s.lo * n * m ≤ s.hi * n * m:=Int.mul_le_mul_of_nonneg_right k2 h3'
 refine t89 (by simp [spanL,KFR,KFL,KF]) (by simp [spanL,KFL,KF]) ?_
 dsimp only [c89,r89,spanL,go_sem,rA,rM,rS]
 refine unroll 3 ?_
 dsimp only [rnds_succ,go_sem,rA,rM,rS]
 refine br_t (by decide) ?_
 dsimp only [rnds_succ,go_sem,rA,rM,rS]
 refine ixs 0 [I n] rfl rfl ?_
 dsimp only [rnds_succ,go_sem,rA,rM,rS]
 refine br_t (by decide) ?_
 dsimp only [rnds_succ,go_sem,rA,rM,rS]
 refine ixs 1 [I m] rfl rfl ?_
 dsimp only [rnds_succ,go_sem,rA,rM,rS]
 refine br_f (by decide) ?_
 dsimp only [go_sem,rA,rM,rS]
 rw [w64_in (n:=s.lo * n) (by omega) (by omega),w64_in (n:=s.hi * n) (by omega) (by omega),w64_in (n:=s.lo * n * m) (by omega) (by omega),w64_in (n:=s.hi * n * m) (by omega) (by omega)]
 refine div0 (by omega) ?_
 dsimp only [go_sem,rA,rM,rS]
 refine call (ceil_ok _ _ (by omega) (by omega) hb hb2) ?_
 dsimp only [go_sem,rA,rM,rS]
 have:=tdiv_bd k3 (Int.le_trans k4 h5) hb
 rw [w64_in (n:=(s.lo * n * m).tdiv b) (by omega) (by omega)]
def bdS (A:Int) (s:Span):Prop:=0 ≤ s.lo ∧ s.lo ≤ A ∧ 0 ≤ s.hi ∧ s.hi ≤ A
theorem plus2 (s t:Span) (c:Bool) (h1:bdS 1000000000000000 s) (h2:bdS 1000000000000000 t):Ct Try.prog 72 [.sl c 2 [[I s.lo,I s.hi],[I t.lo,I t.hi]]] (.agg (spanL ⟨s.lo + t.lo,s.hi + t.hi⟩)):=by
 unfold bdS at h1 h2
 refine t72 (by simp [KFR,KFL,KF]) (by simp [spanL,KFL,KF]) ?_
 dsimp only [c72,r72,spanL,go_sem,rA,rM,rS]
 refine unroll 3 ?_
 dsimp only [rnds_succ,go_sem,rA,rM,rS]
 refine br_t (by decide) ?_
 dsimp only [rnds_succ,go_sem,rA,rM,rS]
 refine ixs 0 [I s.lo,I s.hi] rfl rfl ?_
 dsimp only [rnds_succ,go_sem,rA,rM,rS]
 refine br_t (by decide) ?_
 dsimp only [rnds_succ,go_sem,rA,rM,rS]
 refine ixs 1 [I t.lo,I t.hi] rfl rfl ?_
 dsimp only [rnds_succ,go_sem,rA,rM,rS]
 refine br_f (by decide) ?_
 dsimp only [go_sem,rA,rM,rS]
 simp only [Int.zero_add]
 rw [w64_in (n:=s.lo) (by omega) (by omega),w64_in (n:=s.hi) (by omega) (by omega),w64_in (n:=s.lo + t.lo) (by omega) (by omega),w64_in (n:=s.hi + t.hi) (by omega) (by omega)]
theorem plus3 (s t u:Span) (c:Bool) (h1:bdS 1000000000000000 s) (h2:bdS 1000000000000000 t) (h3:bdS 1000000000000000 u):Ct Try.prog 72 [.sl c 2 [[I s.lo,I s.hi],[I t.lo,I t.hi],[I u.lo,I u.hi]]] (.agg (spanL ⟨s.lo + t.lo + u.lo,s.hi + t.hi + u.hi⟩)):=by
 unfold bdS at h1 h2 h3
 refine t72 (by simp [KFR,KFL,KF]) (by simp [spanL,KFL,KF]) ?_
 dsimp only [c72,r72,spanL,go_sem,rA,rM,rS]
 refine unroll 4 ?_
 dsimp only [rnds_succ,go_sem,rA,rM,rS]
 refine br_t (by decide) ?_
 dsimp only [rnds_succ,go_sem,rA,rM,rS]
 refine ixs 0 [I s.lo,I s.hi] rfl rfl ?_
 dsimp only [rnds_succ,go_sem,rA,rM,rS]
 refine br_t (by decide) ?_
 dsimp only [rnds_succ,go_sem,rA,rM,rS]
 refine ixs 1 [I t.lo,I t.hi] rfl rfl ?_
 dsimp only [rnds_succ,go_sem,rA,rM,rS]
 refine br_t (by decide) ?_
 dsimp only [rnds_succ,go_sem,rA,rM,rS]
 refine ixs 2 [I u.lo,I u.hi] rfl rfl ?_
 dsimp only [rnds_succ,go_sem,rA,rM,rS]
 refine br_f (by decide) ?_
 dsimp only [go_sem,rA,rM,rS]
 simp only [Int.zero_add]
 rw [w64_in (n:=s.lo) (by omega) (by omega),w64_in (n:=s.hi) (by omega) (by omega),w64_in (n:=s.lo + t.lo) (by omega) (by omega),w64_in (n:=s.hi + t.hi) (by omega) (by omega),w64_in (n:=s.lo + t.lo + u.lo) (by omega) (by omega),w64_in (n:=s.hi + t.hi + u.hi) (by omega) (by omega)]
theorem rest_ok (n:Int) (s:Span) (h1:0 ≤ n) (h2:n ≤ 1000000) (h3:bdS 1000000 s):Ct Try.prog 73 [I n,.agg (spanL s)] (.agg (spanL ⟨n - s.hi,n - s.lo⟩)):=by
 unfold bdS at h3
 refine t73 (by simp [spanL,KFL,KF]) (by simp [spanL,KFL,KF]) ?_
 dsimp only [c73,r73,spanL,go_sem,rA,rM,rS]
 rw [w64_in (n:=n - s.hi) (by omega) (by omega),w64_in (n:=n - s.lo) (by omega) (by omega)]
end Go.Proofs.Ytnlfjchbhgikaaa
set_option maxRecDepth 100000
set_option maxHeartbeats 4000000
namespace Go.Proofs.Ytnlfjchbhgikaaa
open Go Go.Sx Go.Azalai
theorem breed_bd {b:Breed} (h:okBreed b = true):1 ≤ b.full ∧ b.full ≤ 1000000 ∧ 1 ≤ b.fed ∧ b.fed ≤ 1000000 ∧ 0 ≤ b.heal ∧ b.heal ≤ 1000 ∧ (0 ≤ b.strong.lo ∧ b.strong.lo ≤ b.strong.hi ∧ b.strong.hi ≤ 1000000) ∧ (0 ≤ b.rest.lo ∧ b.rest.lo ≤ b.rest.hi ∧ b.rest.hi ≤ 100000) ∧
 (0 ≤ b.heat.lo ∧ b.heat.lo ≤ b.heat.hi ∧ b.heat.hi ≤ 100000) ∧ (0 ≤ b.toil.lo ∧ b.toil.lo ≤ b.toil.hi ∧ b.toil.hi ≤ 100000) ∧ (0 ≤ b.burn.lo ∧ b.burn.lo ≤ b.burn.hi ∧ b.burn.hi ≤ 100000) ∧ (0 ≤ b.rub.lo ∧ b.rub.lo ≤ b.rub.hi ∧ b.rub.hi ≤ 100000) ∧ (0 ≤ b.milk.lo ∧ b.milk.lo ≤ b.milk.hi ∧ b.milk.hi ≤ 100000):=by
 simp only [okBreed,okSp,inR,Bool.and_eq_true,decide_eq_true_eq] at h;omega
theorem camel_bd {b:Breed} {c:Camel} (hb:okBreed b = true) (h:okCamel b c = true):(0 ≤ c.water.lo ∧ c.water.lo ≤ c.water.hi ∧ c.water.hi ≤ b.full) ∧ (0 ≤ c.fat.lo ∧ c.fat.lo ≤ c.fat.hi ∧ c.fat.hi ≤ b.fed) ∧ (0 ≤ c.sore.lo ∧ c.sore.lo ≤ c.sore.hi ∧ c.sore.hi ≤ 1000):=by
 simp only [okCamel,okSp,Bool.and_eq_true,decide_eq_true_eq] at h;omega
theorem march_bd {m:March} (h:okMarch m = true):0 ≤ m.hours ∧ m.hours ≤ 24 ∧ 0 ≤ m.load ∧ m.load ≤ 1000000 ∧ (0 ≤ m.heat.lo ∧ m.heat.lo ≤ m.heat.hi ∧ m.heat.hi ≤ 60) ∧ (0 ≤ m.grass.lo ∧ m.grass.lo ≤ m.grass.hi ∧ m.grass.hi ≤ 1000000) ∧ (0 ≤ m.drinks.lo ∧ m.drinks.lo ≤ m.drinks.hi ∧ m.drinks.hi ≤ 1000000):=by
 simp only [okMarch,okSp,inR,Bool.and_eq_true,decide_eq_true_eq] at h;omega
theorem fit_ok (b:Breed) (c:Camel) (hb:okBreed b = true) (hc:okCamel b c = true):Ct Try.prog 55 [.agg (beastL b c)] (.agg (spanL (fitF b c))):=by
 obtain ⟨b1,b2,b3,b4,_⟩:=breed_bd hb
 obtain ⟨⟨w1,w2,w3⟩,⟨f1,f2,f3⟩,⟨s1,s2,s3⟩⟩:=camel_bd hb hc
 refine t55 (by simp [beastL,KFL,KF]) (by simp [spanL,KFL,KF]) ?_
 dsimp only [c55,r55,beastL,go_sem,rA,rM,rS]
 refine call (scaled2 c.water b.full 2 1000 0 true w1 w2 (by omega) (by omega) (by omega) (by omega) b1 (by omega)) ?_
 dsimp only [spanL,go_sem,rA,rM,rS]
 refine call (scaled2 c.fat b.fed 2 1000 0 true f1 f2 (by omega) (by omega) (by omega) (by omega) b3 (by omega)) ?_
 dsimp only [spanL,go_sem,rA,rM,rS]
 refine call (rest_ok 1000 c.sore (by omega) (by omega) ⟨by omega,by omega,by omega,by omega⟩) ?_
 dsimp only [spanL,go_sem,rA,rM,rS]
 refine unroll 4 ?_
 dsimp only [rnds_succ,go_sem,rA,rM,rS]
 refine br_t (by decide) ?_
 dsimp only [rnds_succ,go_sem,rA,rM,rS]
 refine ixa 0 rfl (by decide) ?_
 dsimp only [rnds_succ,go_sem,rA,rM,rS]
 refine br_t (by decide) ?_
 dsimp only [rnds_succ,go_sem,rA,rM,rS]
 refine ixa 1 rfl (by decide) ?_
 dsimp only [rnds_succ,go_sem,rA,rM,rS]
 refine br_t (by decide) ?_
 dsimp only [rnds_succ,go_sem,rA,rM,rS]
 refine ixa 2 rfl (by decide) ?_
 dsimp only [rnds_succ,go_sem,rA,rM,rS]
 refine br_f (by decide) ?_
 dsimp only [go_sem,rA,rM,rS]
 have e1:c.water.lo * 2 * 1000 = 2000 * c.water.lo:=by omega
 have e2:c.water.hi * 2 * 1000 = 2000 * c.water.hi:=by omega
 have e3:c.fat.lo * 2 * 1000 = 2000 * c.fat.lo:=by omega
 have e4:c.fat.hi * 2 * 1000 = 2000 * c.fat.hi:=by omega
 simp only [e1,e2,e3,e4,fitF,Int.min_assoc]
theorem fit_bd {b:Breed} {c:Camel} (hb:okBreed b = true) (hc:okCamel b c = true):0 ≤ (fitF b c).lo ∧ (fitF b c).lo ≤ 1000 ∧ 0 ≤ (fitF b c).hi ∧ (fitF b c).hi ≤ 1000:=by
 obtain ⟨b1,b2,b3,b4,_⟩:=breed_bd hb
 obtain ⟨⟨w1,w2,w3⟩,⟨f1,f2,f3⟩,⟨s1,s2,s3⟩⟩:=camel_bd hb hc
 have d1:=tdiv_bd (a:=2000 * c.water.lo) (A:=2000000000) (d:=b.full) (by omega) (by omega) b1
 have d2:=tdiv_bd (a:=2000 * c.fat.lo) (A:=2000000000) (d:=b.fed) (by omega) (by omega) b3
 have d3:=up_bd (a:=2000 * c.water.hi) (A:=2000000000) (d:=b.full) (by omega) (by omega) b1
 have d4:=up_bd (a:=2000 * c.fat.hi) (A:=2000000000) (d:=b.fed) (by omega) (by omega) b3
 simp only [fitF];omega
theorem car_ok (b:Breed) (c:Camel) (hb:okBreed b = true) (hc:okCamel b c = true):Ct Try.prog 57 [.agg (beastL b c)] (.agg (spanL (carF b c))):=by
 obtain ⟨b1,b2,b3,b4,_,_,⟨g1,g2,g3⟩,_⟩:=breed_bd hb
 obtain ⟨q1,q2,q3,q4⟩:=fit_bd hb hc
 have k1:=mul_bd (a:=b.strong.lo) (A:=1000000) (b:=(fitF b c).lo) (B:=1000) (by omega) (by omega) q1 q2
 have k2:=mul_bd (a:=b.strong.hi) (A:=1000000) (b:=(fitF b c).hi) (B:=1000) (by omega) (by omega) q3 q4
 refine t57 (by simp [beastL,KFL,KF]) (by simp [spanL,KFL,KF]) ?_
 dsimp only [c57,r57,beastL,go_sem,rA,rM,rS]
 refine call (fit_ok b c hb hc) ?_
 dsimp only [spanL,go_sem,rA,rM,rS]
 rw [w64_in (n:=b.strong.lo * (fitF b c).lo) (by omega) (by omega)]
 refine div0 (by omega) ?_
 dsimp only [go_sem,rA,rM,rS]
 rw [w64_in (n:=b.strong.hi * (fitF b c).hi) (by omega) (by omega)]
 refine call (ceil_ok _ _ (by omega) (by omega) (by omega) (by omega)) ?_
 dsimp only [go_sem,rA,rM,rS]
 have d1:=tdiv_bd (a:=b.strong.lo * (fitF b c).lo) (d:=1000) k1.1 k1.2 (by omega)
 rw [w64_in (n:=(b.strong.lo * (fitF b c).lo).tdiv 1000) (by omega) (by omega)]
 rfl
def sres (b:Breed) (c:Camel) (s:Span):SV:=.tup [.agg (spanL (if errC b c = 0 then s else zeroS)),I (errC b c)]
theorem errC_0 {b:Breed} {c:Camel}:errC b c = 0 ↔ okBreed b = true ∧ okCamel b c = true:=by
 simp only [errC];cases okBreed b <;> cases okCamel b c <;> simp
theorem fitness_ok (b:Breed) (c:Camel):Ct Try.prog 14 [.agg (breedL b),.agg (camelL c)] (sres b c (fitF b c)):=by
 refine t14 (by simp [breedL,camelL,KFL,KF]) (by simp [sres,spanL,KFL,KF]) ?_
 dsimp only [c14,r14,breedL,camelL,go_sem,rA,rM,rS]
 refine call (checkCamel_ok b c) ?_
 dsimp only [go_sem,rA,rM,rS]
 by_cases h:errC b c = 0
 case neg =>
  refine br_t (by simpa using h) ?_
  dsimp only [sres,spanL,go_sem,rA,rM,rS]
  rw [if_neg h];rfl
 refine br_f (by simpa using h) ?_
 obtain ⟨hb,hc⟩:=errC_0.1 h
 dsimp only [go_sem,rA,rM,rS]
 refine call (fit_ok b c hb hc) ?_
 dsimp only [spanL,sres,go_sem,rA,rM,rS]
 rw [if_pos h,h]
theorem carries_ok (b:Breed) (c:Camel):Ct Try.prog 16 [.agg (breedL b),.agg (camelL c)] (sres b c (carF b c)):=by
 refine t16 (by simp [breedL,camelL,KFL,KF]) (by simp [sres,spanL,KFL,KF]) ?_
 dsimp only [c16,r16,breedL,camelL,go_sem,rA,rM,rS]
 refine call (checkCamel_ok b c) ?_
 dsimp only [go_sem,rA,rM,rS]
 by_cases h:errC b c = 0
 case neg =>
  refine br_t (by simpa using h) ?_
  dsimp only [sres,spanL,go_sem,rA,rM,rS]
  rw [if_neg h];rfl
 refine br_f (by simpa using h) ?_
 obtain ⟨hb,hc⟩:=errC_0.1 h
 dsimp only [go_sem,rA,rM,rS]
 refine call (car_ok b c hb hc) ?_
 dsimp only [spanL,sres,go_sem,rA,rM,rS]
 rw [if_pos h,h]
end Go.Proofs.Ytnlfjchbhgikaaa
set_option maxRecDepth 100000
set_option maxHeartbeats 4000000
namespace Go.Proofs.Ytnlfjchbhgikaaa
open Go Go.Sx Go.Azalai
theorem work_bd {m:March} (h:okMarch m = true):0 ≤ workF m ∧ workF m ≤ 26400000:=by
 obtain ⟨h1,h2,h3,h4,_⟩:=march_bd h
 have:=mul_bd (a:=m.hours) (A:=24) (b:=100000 + m.load) (B:=1100000) h1 h2 (by omega) (by omega)
 exact this
theorem toil_bd {m:March} {x:Int} (h:okMarch m = true) (h0:0 ≤ x) (h1:x ≤ 100000):0 ≤ x * workF m ∧ x * workF m ≤ 2640000000000:=by
 obtain ⟨w1,w2⟩:=work_bd h
 exact mul_bd h0 h1 w1 w2
theorem heat_bd {x y:Int} (h0:0 ≤ x) (h1:x ≤ 100000) (h2:0 ≤ y) (h3:y ≤ 60):0 ≤ x * max 0 (y - 20) ∧ x * max 0 (y - 20) ≤ 4000000 :=
 mul_bd h0 h1 (B:=40) (by omega) (by omega)
theorem cost_ok (b:Breed) (k:Bool) (m:March) (hb:okBreed b = true) (hm:okMarch m = true):Ct Try.prog 60 [.agg (breedL b),B k,.agg (marchL m)] (.agg [I (costW b k m).lo,I (costW b k m).hi,I (costF b m).lo,I (costF b m).hi]):=by
 obtain ⟨_,_,_,_,_,_,_,⟨r1,r2,r3⟩,⟨a1,a2,a3⟩,⟨t1,t2,t3⟩,⟨u1,u2,u3⟩,_,⟨k1,k2,k3⟩⟩:=breed_bd hb
 obtain ⟨m1,m2,m3,m4,⟨g1,g2,g3⟩,_⟩:=march_bd hm
 have w0:=work_bd hm
 have e1:=heat_bd (x:=b.heat.lo) (y:=m.heat.lo) (by omega) (by omega) (by omega) (by omega)
 have e2:=heat_bd (x:=b.heat.hi) (y:=m.heat.hi) (by omega) (by omega) (by omega) (by omega)
 have f1:=toil_bd (x:=b.toil.lo) hm (by omega) (by omega)
 have f2:=toil_bd (x:=b.toil.hi) hm (by omega) (by omega)
 have f3:=toil_bd (x:=b.burn.lo) hm (by omega) (by omega)
 have f4:=toil_bd (x:=b.burn.hi) hm (by omega) (by omega)
 have d1:=tdiv_bd f1.1 f1.2 (d:=100000) (by omega)
 have d2:=up_bd f2.1 f2.2 (d:=100000) (by omega)
 have hw:IntKind.i64.wrap (m.hours * IntKind.i64.wrap (100000 + m.load)) = workF m:=by
  rw [w64_in (n:=100000 + m.load) (by omega) (by omega)]
  unfold workF at *
  exact w64_in (by omega) (by omega)
 refine t60 (by simp [breedL,marchL,KFL,KF]) (by simp [KFL,KF]) ?_
 dsimp only [c60,r60,breedL,marchL,go_sem,rA,rM,rS]
 rw [hw,w64_in (n:=m.heat.lo - 20) (by omega) (by omega),w64_in (n:=m.heat.hi - 20) (by omega) (by omega),w64_in (n:=b.heat.lo * max 0 (m.heat.lo - 20)) (by omega) (by omega),w64_in (n:=b.heat.hi * max 0 (m.heat.hi - 20)) (by omega) (by omega)]
 refine call (scaled1 b.toil 100000 (workF m) 0 true t1 t2 w0.1 (by omega) (by omega) (by omega)) ?_
 dsimp only [spanL,go_sem,rA,rM,rS]
 refine call (plus3 b.rest ⟨b.heat.lo * max 0 (m.heat.lo - 20),b.heat.hi * max 0 (m.heat.hi - 20)⟩ (scl b.toil 100000 (workF m)) true ⟨by omega,by omega,by omega,by omega⟩ ⟨e1.1,by simp only;omega,e2.1,by simp only;omega⟩
  ⟨d1.1,by simp only [scl];omega,d2.1,by simp only [scl];omega⟩) ?_
 dsimp only [spanL,go_sem,rA,rM,rS]
 refine br ?_ ?_
 · intro hk
   dsimp only [go_sem,rA,rM,rS]
   refine call (plus2 ⟨b.rest.lo + b.heat.lo * max 0 (m.heat.lo - 20) + (scl b.toil 100000 (workF m)).lo,b.rest.hi + b.heat.hi * max 0 (m.heat.hi - 20) + (scl b.toil 100000 (workF m)).hi⟩ b.milk true
    ⟨by simp only [scl];omega,by simp only [scl];omega,by simp only [scl];omega,by simp only [scl];omega⟩ ⟨by omega,by omega,by omega,by omega⟩) ?_
   dsimp only [spanL,go_sem,rA,rM,rS]
   refine call (scaled1 b.burn 100000 (workF m) 0 true u1 u2 w0.1 (by omega) (by omega) (by omega)) ?_
   dsimp only [spanL,go_sem,rA,rM,rS]
   simp only [costW,costF,hk,scl,if_true]
 · intro hk
   dsimp only [go_sem,rA,rM,rS]
   refine call (scaled1 b.burn 100000 (workF m) 0 true u1 u2 w0.1 (by omega) (by omega) (by omega)) ?_
   dsimp only [spanL,go_sem,rA,rM,rS]
   simp only [costW,costF,hk,scl,Bool.false_eq_true,if_false,Int.add_zero]
def errM (b:Breed) (m:March):Int:=if okBreed b = false then 10 else if okMarch m = false then 12 else 0
def cres (b:Breed) (k:Bool) (m:March):SV:=.tup [.agg (spanL (if errM b m = 0 then costW b k m else zeroS)),.agg (spanL (if errM b m = 0 then costF b m else zeroS)),I (errM b m)]
theorem Cost_ok (b:Breed) (k:Bool) (m:March):Ct Try.prog 18 [.agg (breedL b),B k,.agg (marchL m)] (cres b k m):=by
 refine t18 (by simp [breedL,marchL,KFL,KF]) (by simp [cres,spanL,KFL,KF]) ?_
 dsimp only [c18,r18,breedL,marchL,go_sem,rA,rM,rS]
 refine call (checkBreed_ok b) ?_
 dsimp only [go_sem,rA,rM,rS]
 by_cases hb:okBreed b = true
 case neg =>
  refine br_t (by simp [errB,hb]) ?_
  dsimp only [cres,spanL,go_sem,rA,rM,rS]
  simp [errB,errM,hb,zeroS]
 refine br_f (by simp [errB,hb]) ?_
 dsimp only [go_sem,rA,rM,rS]
 refine call (checkDay1 m true) ?_
 dsimp only [go_sem,rA,rM,rS]
 by_cases hm:okMarch m = true
 case neg =>
  refine br_t (by simp [hm]) ?_
  dsimp only [cres,spanL,go_sem,rA,rM,rS]
  simp [errM,hb,hm,zeroS]
 refine br_f (by simp [hm]) ?_
 dsimp only [go_sem,rA,rM,rS]
 refine call (cost_ok b k m hb hm) ?_
 dsimp only [go_sem,rA,rM,rS]
 refine ixa 0 rfl (by decide) ?_
 dsimp only [go_sem,rA,rM,rS]
 refine ixa 1 rfl (by decide) ?_
 dsimp only [cres,spanL,go_sem,rA,rM,rS]
 simp [errM,hb,hm]
end Go.Proofs.Ytnlfjchbhgikaaa
set_option maxRecDepth 100000
set_option maxHeartbeats 4000000
namespace Go.Azalai
def errL (b:Breed) (c:Camel) (l:List March):Int:=if errC b c ≠ 0 then errC b c else if l.length > 60 then 4 else if l.all okMarch = false then 12 else 0
def thirstL (b:Breed) (sum:Span):List Camel → Span × Int
 | []=>(sum,0)
 | c :: r=>if okCamel b c = false then (⟨0,0⟩,11) else thirstL b ⟨sum.lo + (b.full - c.water.hi),sum.hi + (b.full - c.water.lo)⟩ r
def thirstF (b:Breed) (l:List Camel):Span × Int :=
 if okBreed b = false then (⟨0,0⟩,10) else if l.length > 30 then (⟨0,0⟩,4) else thirstL b ⟨0,0⟩ l
end Go.Azalai
namespace Go.Proofs.Ytnlfjchbhgikaaa
open Go Go.Sx Go.Azalai
def tres (r:Span × Int):SV:=.tup [.agg (spanL r.1),I r.2]
theorem checkL_ok (b:Breed) (c:Camel) (l:List March) (hl:l.length < 4611686018427387904) (k:Bool):Ct Try.prog 66 [.agg (breedL b),.agg (camelL c),.sl k 8 (l.map marchL)] (I (errL b c l)):=by
 refine t66 (by simp [breedL,camelL,marchL,KFR_iff,KFL,KF]) (by simp [KFL,KF]) ?_
 dsimp only [c66,r66,breedL,camelL,go_sem,rA,rM,rS]
 refine call (checkCamel_ok b c) ?_
 dsimp only [go_sem,rA,rM,rS]
 by_cases h0:errC b c = 0
 case neg =>
  refine br_t (by simpa using h0) ?_
  dsimp only [go_sem,rA,rM,rS]
  simp [errL,h0]
 refine br_f (by simpa using h0) ?_
 dsimp only [go_sem,rA,rM,rS]
 simp only [List.length_map]
 by_cases h1:l.length > 60
 case pos =>
  refine br_t (by simp;omega) ?_
  dsimp only [go_sem,rA,rM,rS]
  simp [errL,h0,h1]
 refine br_f (by simp;omega) ?_
 dsimp only [go_sem,rA,rM,rS]
 refine call (checkDays_ok l hl k) ?_
 dsimp only [go_sem,rA,rM,rS]
 simp only [errL,h0,h1]
 by_cases h2:l.all okMarch = true
 · simp [h2]
 · simp [h2]
end Go.Proofs.Ytnlfjchbhgikaaa
set_option maxRecDepth 100000
set_option maxHeartbeats 4000000
namespace Go.Proofs.Ytnlfjchbhgikaaa
open Go Go.Sx Go.Azalai
theorem thirst_ok (b:Breed) (l:List Camel) (hl:l.length ≤ 1000) (k:Bool):Ct Try.prog 26 [.agg (breedL b),.sl k 7 (l.map camelL)] (tres (thirstF b l)):=by
 refine t26 (by simp [breedL,camelL,KFR_iff,KFL,KF]) (by simp [tres,spanL,KFL,KF]) ?_
 dsimp only [c26,r26,breedL,go_sem,rA,rM,rS]
 refine call (checkBreed_ok b) ?_
 dsimp only [go_sem,rA,rM,rS]
 by_cases h0:okBreed b = true
 case neg =>
  refine br_t (by simp [errB,h0]) ?_
  dsimp only [go_sem,rA,rM,rS]
  simp [thirstF,errB,h0,tres,spanL]
 refine br_f (by simp [errB,h0]) ?_
 dsimp only [go_sem,rA,rM,rS]
 simp only [List.length_map]
 by_cases h1:l.length > 30
 case pos =>
  refine br_t (by simp;omega) ?_
  dsimp only [go_sem,rA,rM,rS]
  simp [thirstF,h0,h1,tres,spanL]
 refine br_f (by simp;omega) ?_
 dsimp only [go_sem,rA,rM,rS]
 have hbd:=breed_bd h0
 have he:thirstF b l = thirstL b ⟨0,0⟩ l:=by simp [thirstF,h0,h1]
 rw [he]
 refine loopO (fun s:Nat × Span=>[(23,I s.1)]) (fun s=>[(2,.cells (spanL s.2) 23)]) (fun s=>s.1 ≤ l.length ∧ thirstL b s.2 (l.drop s.1) = thirstL b ⟨0,0⟩ l ∧ 0 ≤ s.2.lo ∧ s.2.lo ≤ s.1 * 1000000 ∧ 0 ≤ s.2.hi ∧ s.2.hi ≤ s.1 * 1000000) (fun s=>l.length - s.1) (0,⟨0,0⟩) ⟨Nat.zero_le _,rfl,by simp,by simp,by simp,by simp⟩ ?_ ?_
 · (refine ent_id ?_ ?_ ?_ rfl rfl <;> dsimp only [breedL,camelL,spanL,id,go_sem,rA,rM,rS] <;> simp [breedL,camelL,spanL,KFR_iff,KFR_app,KFR,KFL,KF,mtL_same,mtO,nbr])
 rintro ⟨j,sum⟩ ⟨hj,hi,n1,n2,n3,n4⟩
 simp only at hj hi n1 n2 n3 n4
 dsimp only [spanL,go_sem,rA,rM,rS]
 by_cases hlt:j < l.length
 · refine br_t (by simpa using hlt) ?_
   dsimp only [go_sem,rA,rM,rS]
   rw [List.drop_eq_getElem_cons hlt,thirstL] at hi
   refine ixs_map j hlt rfl ?_
   dsimp only [camelL,go_sem,rA,rM,rS]
   refine call (checkCamel_ok b l[j]) ?_
   dsimp only [go_sem,rA,rM,rS]
   by_cases hm:okCamel b l[j] = true
   case neg =>
    refine br_t (by simp [errC,h0,hm]) ?_
    dsimp only [go_sem,rA,rM,rS]
    rw [if_pos (by simpa using hm)] at hi
    rw [← hi];simp [errC,h0,hm,tres,spanL]
   refine br_f (by simp [errC,h0,hm]) ?_
   dsimp only [go_sem,rA,rM,rS]
   rw [if_neg (by simp [hm])] at hi
   have hc:=camel_bd h0 hm
   refine call (rest_ok b.full l[j].water (by omega) (by omega) (by unfold bdS;omega)) ?_
   dsimp only [spanL,go_sem,rA,rM,rS]
   refine call (plus2 sum ⟨b.full - l[j].water.hi,b.full - l[j].water.lo⟩ _ (by unfold bdS;omega) (by unfold bdS;simp only;omega)) ?_
   dsimp only [spanL,go_sem,rA,rM,rS]
   rw [w64_in (n:=(j:Int) + 1) (by omega) (by omega)]
   refine ⟨(j + 1,⟨sum.lo + (b.full - l[j].water.hi),sum.hi + (b.full - l[j].water.lo)⟩),⟨hlt,hi,by simp only;omega,by simp only;omega,by simp only;omega,by simp only;omega⟩,by simp only;omega,?_⟩
   (refine ent_id ?_ ?_ ?_ rfl rfl <;> dsimp only [breedL,camelL,spanL,id,go_sem,rA,rM,rS] <;> simp [breedL,camelL,spanL,KFR_iff,KFR_app,KFR,KFL,KF,mtL_same,mtO,nbr])
 refine br_f (by simp;omega) ?_
 dsimp only [go_sem,rA,rM,rS]
 have hje:j = l.length:=by omega
 subst hje
 rw [List.drop_length,thirstL] at hi
 rw [← hi];rfl
end Go.Proofs.Ytnlfjchbhgikaaa
set_option maxRecDepth 100000
set_option maxHeartbeats 4000000
namespace Go.Azalai
def zeroC:Camel:=⟨⟨0,0⟩,⟨0,0⟩,⟨0,0⟩,false⟩
def lostF (most:Int) (has cost gets:Span):Span:=⟨min most (max 0 (has.lo - cost.hi) + gets.lo),min most (has.hi - cost.lo + gets.hi)⟩
def soreF (b:Breed) (s:Span) (m:March):Span :=
 if m.hours = 0 then ⟨max 0 (s.lo - b.heal),max 0 (s.hi - b.heal)⟩
 else ⟨min 1000 (s.lo + (b.rub.lo * (m.hours * m.load)).tdiv 1000000),min 1000 (s.hi + upF (b.rub.hi * (m.hours * m.load)) 1000000)⟩
def afterF (b:Breed) (c:Camel) (m:March):Camel × Int :=
 let w:=costW b c.milks m
 let f:=costF b m
 if c.water.hi < w.lo ∨ c.fat.hi < f.lo then (zeroC,2)
 else (⟨lostF b.full c.water w m.drinks,lostF b.fed c.fat f m.grass,soreF b c.sore m,c.milks⟩,if c.water.lo ≥ w.hi ∧ c.fat.lo ≥ f.hi then 0 else 1)
theorem costW_bd {b:Breed} {k:Bool} {m:March} (hb:okBreed b = true) (hm:okMarch m = true):0 ≤ (costW b k m).lo ∧ (costW b k m).lo ≤ 1000000000 ∧ 0 ≤ (costW b k m).hi ∧ (costW b k m).hi ≤ 1000000000:=by
 have h:=Go.Proofs.Ytnlfjchbhgikaaa.breed_bd hb
 have h2:=Go.Proofs.Ytnlfjchbhgikaaa.march_bd hm
 have q1:=Go.Proofs.Ytnlfjchbhgikaaa.toil_bd (x:=b.toil.lo) hm (by omega) (by omega)
 have q2:=Go.Proofs.Ytnlfjchbhgikaaa.toil_bd (x:=b.toil.hi) hm (by omega) (by omega)
 have q3:=Go.Proofs.Ytnlfjchbhgikaaa.heat_bd (x:=b.heat.lo) (y:=m.heat.lo) (by omega) (by omega) (by omega) (by omega)
 have q4:=Go.Proofs.Ytnlfjchbhgikaaa.heat_bd (x:=b.heat.hi) (y:=m.heat.hi) (by omega) (by omega) (by omega) (by omega)
 have r1:0 ≤ (b.toil.lo * workF m).tdiv 100000 ∧ (b.toil.lo * workF m).tdiv 100000 ≤ 26400000:=by
  rw [Int.tdiv_eq_ediv_of_nonneg q1.1];omega
 have r2:0 ≤ upF (b.toil.hi * workF m) 100000 ∧ upF (b.toil.hi * workF m) 100000 ≤ 26400001:=by
  unfold upF;rw [Int.tdiv_eq_ediv_of_nonneg (by omega)];omega
 simp only [costW]
 cases k <;> simp <;> omega
theorem costF_bd {b:Breed} {m:March} (hb:okBreed b = true) (hm:okMarch m = true):0 ≤ (costF b m).lo ∧ (costF b m).lo ≤ 1000000000 ∧ 0 ≤ (costF b m).hi ∧ (costF b m).hi ≤ 1000000000:=by
 have h:=Go.Proofs.Ytnlfjchbhgikaaa.breed_bd hb
 have q1:=Go.Proofs.Ytnlfjchbhgikaaa.toil_bd (x:=b.burn.lo) hm (by omega) (by omega)
 have q2:=Go.Proofs.Ytnlfjchbhgikaaa.toil_bd (x:=b.burn.hi) hm (by omega) (by omega)
 have r1:0 ≤ (b.burn.lo * workF m).tdiv 100000 ∧ (b.burn.lo * workF m).tdiv 100000 ≤ 26400000:=by
  rw [Int.tdiv_eq_ediv_of_nonneg q1.1];omega
 have r2:0 ≤ upF (b.burn.hi * workF m) 100000 ∧ upF (b.burn.hi * workF m) 100000 ≤ 26400001:=by
  unfold upF;rw [Int.tdiv_eq_ediv_of_nonneg (by omega)];omega
 simp only [costF]
 omega
end Go.Azalai
namespace Go.Proofs.Ytnlfjchbhgikaaa
open Go Go.Sx Go.Azalai
end Go.Proofs.Ytnlfjchbhgikaaa
set_option maxRecDepth 100000
set_option maxHeartbeats 4000000
namespace Go.Proofs.Ytnlfjchbhgikaaa
open Go Go.Sx Go.Azalai
theorem day_ok (b:Breed) (c:Camel) (m:March) (hb:okBreed b = true) (hc:okCamel b c = true) (hm:okMarch m = true) (hd:(afterF b c m).2 ≠ 2) :
 Ct Try.prog 68 [.agg (beastL b c),.agg (marchL m)] (.tup [.agg (beastL b (afterF b c m).1),.v (.int .u8 (afterF b c m).2)]):=by
 have h1:=breed_bd hb
 have h2:=camel_bd hb hc
 have h3:=march_bd hm
 have w1:=costW_bd (k:=c.milks) hb hm
 have w2:=costF_bd hb hm
 have k0:=mul_bd (a:=m.hours) (b:=m.load) (A:=24) (B:=1000000) (by omega) (by omega) (by omega) (by omega)
 have k1:=mul_bd (a:=b.rub.lo) (b:=m.hours * m.load) (A:=100000) (B:=24000000) (by omega) (by omega) (by omega) (by omega)
 have k2:=mul_bd (a:=b.rub.hi) (b:=m.hours * m.load) (A:=100000) (B:=24000000) (by omega) (by omega) (by omega) (by omega)
 have k3:=tdiv_bd k1.1 k1.2 (d:=1000000) (by omega)
 have k4:=up_bd k2.1 k2.2 (d:=1000000) (by omega)
 refine t68 (by simp [beastL,marchL,KFL,KF]) (by simp [beastL,KFL,KF]) ?_
 dsimp only [c68,r68,beastL,marchL,go_sem,rA,rM,rS]
 refine call (cost_ok b c.milks m hb hm) ?_
 dsimp only [go_sem,rA,rM,rS]
 generalize hW:costW b c.milks m = W at w1
 generalize hF:costF b m = F at w2
 have hd':W.lo ≤ c.water.hi ∧ F.lo ≤ c.fat.hi:=by
  by_cases h:c.water.hi < W.lo ∨ c.fat.hi < F.lo
  · exact absurd (by simp only [afterF,hW,hF,if_pos h]) hd
  · omega
 clear hd
 have k5:=mul_bd (a:=b.rub.hi) (b:=m.hours) (A:=100000) (B:=24) (by omega) (by omega) (by omega) (by omega)
 have k6:b.rub.hi * m.hours * m.load ≤ 100000000000000:=by rw [Int.mul_assoc];omega
 have hd0:¬ (c.water.hi < W.lo ∨ c.fat.hi < F.lo):=by omega
 by_cases hp:c.water.lo < W.hi <;> by_cases hq:c.fat.lo < F.hi
 · refine unroll 3 ?_
   dsimp only [rnds_succ,go_sem,rA,rM,rS]
   refine br_t (by decide) ?_
   dsimp only [rnds_succ,go_sem,rA,rM,rS]
   repeat (first | (refine ixa 0 rfl (by decide) ?_;dsimp only [rnds_succ,go_sem,rA,rM,rS]) | (refine br_f (by simp;omega) ?_;dsimp only [rnds_succ,go_sem,rA,rM,rS]) | (refine br_t (by simp;omega) ?_;dsimp only [rnds_succ,go_sem,rA,rM,rS]))
   simp (disch:=omega) only [w64_in]
   refine call (plus2 ⟨max 0 (c.water.lo - W.hi),c.water.hi - W.lo⟩ m.drinks _ (by unfold bdS;simp only;omega) (by unfold bdS;omega)) ?_
   dsimp only [rnds_succ,spanL,go_sem,rA,rM,rS]
   repeat (first | (refine ixa 0 rfl (by decide) ?_;dsimp only [rnds_succ,go_sem,rA,rM,rS]) | (refine br_f (by simp;omega) ?_;dsimp only [rnds_succ,go_sem,rA,rM,rS]) | (refine br_t (by simp;omega) ?_;dsimp only [rnds_succ,go_sem,rA,rM,rS]))
   simp (disch:=omega) only [w64_in]
   refine br_t (by decide) ?_
   dsimp only [rnds_succ,go_sem,rA,rM,rS]
   repeat (first | (refine ixa 1 rfl (by decide) ?_;dsimp only [rnds_succ,go_sem,rA,rM,rS]) | (refine br_f (by simp;omega) ?_;dsimp only [rnds_succ,go_sem,rA,rM,rS]) | (refine br_t (by simp;omega) ?_;dsimp only [rnds_succ,go_sem,rA,rM,rS]))
   simp (disch:=omega) only [w64_in]
   refine call (plus2 ⟨max 0 (c.fat.lo - F.hi),c.fat.hi - F.lo⟩ m.grass _ (by unfold bdS;simp only;omega) (by unfold bdS;omega)) ?_
   dsimp only [rnds_succ,spanL,go_sem,rA,rM,rS]
   repeat (first | (refine ixa 1 rfl (by decide) ?_;dsimp only [rnds_succ,go_sem,rA,rM,rS]) | (refine br_f (by simp;omega) ?_;dsimp only [rnds_succ,go_sem,rA,rM,rS]) | (refine br_t (by simp;omega) ?_;dsimp only [rnds_succ,go_sem,rA,rM,rS]))
   refine br_f (by decide) ?_
   dsimp only [go_sem,rA,rM,rS]
   have e:(if c.water.lo ≥ W.hi ∧ c.fat.lo ≥ F.hi then (0:Int) else 1) = 1:=if_neg (by omega)
   by_cases hz:m.hours = 0
   · refine br_t (by simpa using hz) ?_
     dsimp only [go_sem,rA,rM,rS]
     simp (disch:=omega) only [w64_in]
     simp only [afterF,hW,hF,if_neg hd0,lostF,soreF,beastL,e,if_pos hz]
   · refine br_f (by simpa using hz) ?_
     dsimp only [go_sem,rA,rM,rS]
     refine call (scaled2 b.rub 1000000 m.hours m.load 0 _ (by omega) (by omega) (by omega) (by omega) (by omega) k6 (by omega) (by omega)) ?_
     dsimp only [spanL,go_sem,rA,rM,rS]
     simp only [Int.mul_assoc]
     refine call (plus2 c.sore ⟨(b.rub.lo * (m.hours * m.load)).tdiv 1000000,upF (b.rub.hi * (m.hours * m.load)) 1000000⟩ _ (by unfold bdS;omega) (by unfold bdS;simp only;omega)) ?_
     dsimp only [spanL,go_sem,rA,rM,rS]
     simp only [afterF,hW,hF,if_neg hd0,lostF,soreF,beastL,e,if_neg hz]
 · refine unroll 3 ?_
   dsimp only [rnds_succ,go_sem,rA,rM,rS]
   refine br_t (by decide) ?_
   dsimp only [rnds_succ,go_sem,rA,rM,rS]
   repeat (first | (refine ixa 0 rfl (by decide) ?_;dsimp only [rnds_succ,go_sem,rA,rM,rS]) | (refine br_f (by simp;omega) ?_;dsimp only [rnds_succ,go_sem,rA,rM,rS]) | (refine br_t (by simp;omega) ?_;dsimp only [rnds_succ,go_sem,rA,rM,rS]))
   simp (disch:=omega) only [w64_in]
   refine call (plus2 ⟨max 0 (c.water.lo - W.hi),c.water.hi - W.lo⟩ m.drinks _ (by unfold bdS;simp only;omega) (by unfold bdS;omega)) ?_
   dsimp only [rnds_succ,spanL,go_sem,rA,rM,rS]
   repeat (first | (refine ixa 0 rfl (by decide) ?_;dsimp only [rnds_succ,go_sem,rA,rM,rS]) | (refine br_f (by simp;omega) ?_;dsimp only [rnds_succ,go_sem,rA,rM,rS]) | (refine br_t (by simp;omega) ?_;dsimp only [rnds_succ,go_sem,rA,rM,rS]))
   simp (disch:=omega) only [w64_in]
   refine br_t (by decide) ?_
   dsimp only [rnds_succ,go_sem,rA,rM,rS]
   repeat (first | (refine ixa 1 rfl (by decide) ?_;dsimp only [rnds_succ,go_sem,rA,rM,rS]) | (refine br_f (by simp;omega) ?_;dsimp only [rnds_succ,go_sem,rA,rM,rS]) | (refine br_t (by simp;omega) ?_;dsimp only [rnds_succ,go_sem,rA,rM,rS]))
   simp (disch:=omega) only [w64_in]
   refine call (plus2 ⟨max 0 (c.fat.lo - F.hi),c.fat.hi - F.lo⟩ m.grass _ (by unfold bdS;simp only;omega) (by unfold bdS;omega)) ?_
   dsimp only [rnds_succ,spanL,go_sem,rA,rM,rS]
   repeat (first | (refine ixa 1 rfl (by decide) ?_;dsimp only [rnds_succ,go_sem,rA,rM,rS]) | (refine br_f (by simp;omega) ?_;dsimp only [rnds_succ,go_sem,rA,rM,rS]) | (refine br_t (by simp;omega) ?_;dsimp only [rnds_succ,go_sem,rA,rM,rS]))
   refine br_f (by decide) ?_
   dsimp only [go_sem,rA,rM,rS]
   have e:(if c.water.lo ≥ W.hi ∧ c.fat.lo ≥ F.hi then (0:Int) else 1) = 1:=if_neg (by omega)
   by_cases hz:m.hours = 0
   · refine br_t (by simpa using hz) ?_
     dsimp only [go_sem,rA,rM,rS]
     simp (disch:=omega) only [w64_in]
     simp only [afterF,hW,hF,if_neg hd0,lostF,soreF,beastL,e,if_pos hz]
   · refine br_f (by simpa using hz) ?_
     dsimp only [go_sem,rA,rM,rS]
     refine call (scaled2 b.rub 1000000 m.hours m.load 0 _ (by omega) (by omega) (by omega) (by omega) (by omega) k6 (by omega) (by omega)) ?_
     dsimp only [spanL,go_sem,rA,rM,rS]
     simp only [Int.mul_assoc]
     refine call (plus2 c.sore ⟨(b.rub.lo * (m.hours * m.load)).tdiv 1000000,upF (b.rub.hi * (m.hours * m.load)) 1000000⟩ _ (by unfold bdS;omega) (by unfold bdS;simp only;omega)) ?_
     dsimp only [spanL,go_sem,rA,rM,rS]
     simp only [afterF,hW,hF,if_neg hd0,lostF,soreF,beastL,e,if_neg hz]
 · refine unroll 3 ?_
   dsimp only [rnds_succ,go_sem,rA,rM,rS]
   refine br_t (by decide) ?_
   dsimp only [rnds_succ,go_sem,rA,rM,rS]
   repeat (first | (refine ixa 0 rfl (by decide) ?_;dsimp only [rnds_succ,go_sem,rA,rM,rS]) | (refine br_f (by simp;omega) ?_;dsimp only [rnds_succ,go_sem,rA,rM,rS]) | (refine br_t (by simp;omega) ?_;dsimp only [rnds_succ,go_sem,rA,rM,rS]))
   simp (disch:=omega) only [w64_in]
   refine call (plus2 ⟨max 0 (c.water.lo - W.hi),c.water.hi - W.lo⟩ m.drinks _ (by unfold bdS;simp only;omega) (by unfold bdS;omega)) ?_
   dsimp only [rnds_succ,spanL,go_sem,rA,rM,rS]
   repeat (first | (refine ixa 0 rfl (by decide) ?_;dsimp only [rnds_succ,go_sem,rA,rM,rS]) | (refine br_f (by simp;omega) ?_;dsimp only [rnds_succ,go_sem,rA,rM,rS]) | (refine br_t (by simp;omega) ?_;dsimp only [rnds_succ,go_sem,rA,rM,rS]))
   simp (disch:=omega) only [w64_in]
   refine br_t (by decide) ?_
   dsimp only [rnds_succ,go_sem,rA,rM,rS]
   repeat (first | (refine ixa 1 rfl (by decide) ?_;dsimp only [rnds_succ,go_sem,rA,rM,rS]) | (refine br_f (by simp;omega) ?_;dsimp only [rnds_succ,go_sem,rA,rM,rS]) | (refine br_t (by simp;omega) ?_;dsimp only [rnds_succ,go_sem,rA,rM,rS]))
   simp (disch:=omega) only [w64_in]
   refine call (plus2 ⟨max 0 (c.fat.lo - F.hi),c.fat.hi - F.lo⟩ m.grass _ (by unfold bdS;simp only;omega) (by unfold bdS;omega)) ?_
   dsimp only [rnds_succ,spanL,go_sem,rA,rM,rS]
   repeat (first | (refine ixa 1 rfl (by decide) ?_;dsimp only [rnds_succ,go_sem,rA,rM,rS]) | (refine br_f (by simp;omega) ?_;dsimp only [rnds_succ,go_sem,rA,rM,rS]) | (refine br_t (by simp;omega) ?_;dsimp only [rnds_succ,go_sem,rA,rM,rS]))
   refine br_f (by decide) ?_
   dsimp only [go_sem,rA,rM,rS]
   have e:(if c.water.lo ≥ W.hi ∧ c.fat.lo ≥ F.hi then (0:Int) else 1) = 1:=if_neg (by omega)
   by_cases hz:m.hours = 0
   · refine br_t (by simpa using hz) ?_
     dsimp only [go_sem,rA,rM,rS]
     simp (disch:=omega) only [w64_in]
     simp only [afterF,hW,hF,if_neg hd0,lostF,soreF,beastL,e,if_pos hz]
   · refine br_f (by simpa using hz) ?_
     dsimp only [go_sem,rA,rM,rS]
     refine call (scaled2 b.rub 1000000 m.hours m.load 0 _ (by omega) (by omega) (by omega) (by omega) (by omega) k6 (by omega) (by omega)) ?_
     dsimp only [spanL,go_sem,rA,rM,rS]
     simp only [Int.mul_assoc]
     refine call (plus2 c.sore ⟨(b.rub.lo * (m.hours * m.load)).tdiv 1000000,upF (b.rub.hi * (m.hours * m.load)) 1000000⟩ _ (by unfold bdS;omega) (by unfold bdS;simp only;omega)) ?_
     dsimp only [spanL,go_sem,rA,rM,rS]
     simp only [afterF,hW,hF,if_neg hd0,lostF,soreF,beastL,e,if_neg hz]
 · refine unroll 3 ?_
   dsimp only [rnds_succ,go_sem,rA,rM,rS]
   refine br_t (by decide) ?_
   dsimp only [rnds_succ,go_sem,rA,rM,rS]
   repeat (first | (refine ixa 0 rfl (by decide) ?_;dsimp only [rnds_succ,go_sem,rA,rM,rS]) | (refine br_f (by simp;omega) ?_;dsimp only [rnds_succ,go_sem,rA,rM,rS]) | (refine br_t (by simp;omega) ?_;dsimp only [rnds_succ,go_sem,rA,rM,rS]))
   simp (disch:=omega) only [w64_in]
   refine call (plus2 ⟨max 0 (c.water.lo - W.hi),c.water.hi - W.lo⟩ m.drinks _ (by unfold bdS;simp only;omega) (by unfold bdS;omega)) ?_
   dsimp only [rnds_succ,spanL,go_sem,rA,rM,rS]
   repeat (first | (refine ixa 0 rfl (by decide) ?_;dsimp only [rnds_succ,go_sem,rA,rM,rS]) | (refine br_f (by simp;omega) ?_;dsimp only [rnds_succ,go_sem,rA,rM,rS]) | (refine br_t (by simp;omega) ?_;dsimp only [rnds_succ,go_sem,rA,rM,rS]))
   simp (disch:=omega) only [w64_in]
   refine br_t (by decide) ?_
   dsimp only [rnds_succ,go_sem,rA,rM,rS]
   repeat (first | (refine ixa 1 rfl (by decide) ?_;dsimp only [rnds_succ,go_sem,rA,rM,rS]) | (refine br_f (by simp;omega) ?_;dsimp only [rnds_succ,go_sem,rA,rM,rS]) | (refine br_t (by simp;omega) ?_;dsimp only [rnds_succ,go_sem,rA,rM,rS]))
   simp (disch:=omega) only [w64_in]
   refine call (plus2 ⟨max 0 (c.fat.lo - F.hi),c.fat.hi - F.lo⟩ m.grass _ (by unfold bdS;simp only;omega) (by unfold bdS;omega)) ?_
   dsimp only [rnds_succ,spanL,go_sem,rA,rM,rS]
   repeat (first | (refine ixa 1 rfl (by decide) ?_;dsimp only [rnds_succ,go_sem,rA,rM,rS]) | (refine br_f (by simp;omega) ?_;dsimp only [rnds_succ,go_sem,rA,rM,rS]) | (refine br_t (by simp;omega) ?_;dsimp only [rnds_succ,go_sem,rA,rM,rS]))
   refine br_f (by decide) ?_
   dsimp only [go_sem,rA,rM,rS]
   have e:(if c.water.lo ≥ W.hi ∧ c.fat.lo ≥ F.hi then (0:Int) else 1) = 0:=if_pos (by omega)
   by_cases hz:m.hours = 0
   · refine br_t (by simpa using hz) ?_
     dsimp only [go_sem,rA,rM,rS]
     simp (disch:=omega) only [w64_in]
     simp only [afterF,hW,hF,if_neg hd0,lostF,soreF,beastL,e,if_pos hz]
   · refine br_f (by simpa using hz) ?_
     dsimp only [go_sem,rA,rM,rS]
     refine call (scaled2 b.rub 1000000 m.hours m.load 0 _ (by omega) (by omega) (by omega) (by omega) (by omega) k6 (by omega) (by omega)) ?_
     dsimp only [spanL,go_sem,rA,rM,rS]
     simp only [Int.mul_assoc]
     refine call (plus2 c.sore ⟨(b.rub.lo * (m.hours * m.load)).tdiv 1000000,upF (b.rub.hi * (m.hours * m.load)) 1000000⟩ _ (by unfold bdS;omega) (by unfold bdS;simp only;omega)) ?_
     dsimp only [spanL,go_sem,rA,rM,rS]
     simp only [afterF,hW,hF,if_neg hd0,lostF,soreF,beastL,e,if_neg hz]
end Go.Proofs.Ytnlfjchbhgikaaa
set_option maxRecDepth 100000
set_option maxHeartbeats 4000000
namespace Go.Azalai
def bearsL (b:Breed) (load:Int) (c:Camel):List March → Bool
 | []=>true
 | m :: r=>if m.hours > 0 ∧ load > (carF b c).lo then false else if (afterF b c { m with load:=load }).2 ≠ 0 then false else bearsL b load (afterF b c { m with load:=load }).1 r
theorem tdiv_up {x y d:Int} (hd:1 ≤ d) (h0:0 ≤ x) (h:x ≤ y):x.tdiv d ≤ upF y d:=by
 unfold upF
 rw [Int.tdiv_eq_ediv_of_nonneg h0,Int.tdiv_eq_ediv_of_nonneg (by omega)]
 exact Int.ediv_le_ediv (by omega) (by omega)
theorem costW_le {b:Breed} {k:Bool} {m:March} (hb:okBreed b = true) (hm:okMarch m = true):(costW b k m).lo ≤ (costW b k m).hi:=by
 have h:=Go.Proofs.Ytnlfjchbhgikaaa.breed_bd hb
 have h2:=Go.Proofs.Ytnlfjchbhgikaaa.march_bd hm
 have hw:=Go.Proofs.Ytnlfjchbhgikaaa.work_bd hm
 have q1:(b.toil.lo * workF m).tdiv 100000 ≤ upF (b.toil.hi * workF m) 100000:=tdiv_up (by omega) (Int.mul_nonneg (by omega) hw.1) (Int.mul_le_mul_of_nonneg_right (by omega) hw.1)
 have q2:b.heat.lo * max 0 (m.heat.lo - 20) ≤ b.heat.hi * max 0 (m.heat.hi - 20):=Int.mul_le_mul (by omega) (by omega) (by omega) (by omega)
 simp only [costW]
 cases k <;> simp <;> omega
theorem costF_le {b:Breed} {m:March} (hb:okBreed b = true) (hm:okMarch m = true):(costF b m).lo ≤ (costF b m).hi:=by
 have h:=Go.Proofs.Ytnlfjchbhgikaaa.breed_bd hb
 have hw:=Go.Proofs.Ytnlfjchbhgikaaa.work_bd hm
 exact tdiv_up (by omega) (Int.mul_nonneg (by omega) hw.1) (Int.mul_le_mul_of_nonneg_right (by omega) hw.1)
theorem after_ok {b:Breed} {c:Camel} {m:March} (hb:okBreed b = true) (hc:okCamel b c = true) (hm:okMarch m = true) (hd:(afterF b c m).2 ≠ 2):okCamel b (afterF b c m).1 = true:=by
 have h1:=Go.Proofs.Ytnlfjchbhgikaaa.breed_bd hb
 have h2:=Go.Proofs.Ytnlfjchbhgikaaa.camel_bd hb hc
 have h3:=Go.Proofs.Ytnlfjchbhgikaaa.march_bd hm
 have w1:=costW_bd (k:=c.milks) hb hm
 have w2:=costF_bd hb hm
 have hlo:(costW b c.milks m).lo ≤ (costW b c.milks m).hi:=costW_le hb hm
 have hlf:(costF b m).lo ≤ (costF b m).hi:=costF_le hb hm
 have hr:(b.rub.lo * (m.hours * m.load)).tdiv 1000000 ≤ upF (b.rub.hi * (m.hours * m.load)) 1000000 :=
  tdiv_up (by omega) (Int.mul_nonneg (by omega) (Int.mul_nonneg (by omega) (by omega))) (Int.mul_le_mul_of_nonneg_right (by omega) (Int.mul_nonneg (by omega) (by omega)))
 have hr0:0 ≤ (b.rub.lo * (m.hours * m.load)).tdiv 1000000 :=
  Int.tdiv_nonneg (Int.mul_nonneg (by omega) (Int.mul_nonneg (by omega) (by omega))) (by omega)
 unfold afterF at hd ⊢
 simp only at hd ⊢
 split at hd
 · exact absurd rfl hd
 · rename_i h
   rw [if_neg h]
   simp only [okCamel,okSp,lostF,soreF,Bool.and_eq_true,decide_eq_true_eq]
   by_cases hz:m.hours = 0
   · simp only [if_pos hz,Bool.and_eq_true,decide_eq_true_eq]
     refine ⟨⟨decide_eq_true ⟨by omega,by omega,by omega⟩,decide_eq_true ⟨by omega,by omega,by omega⟩⟩,by omega,by omega,by omega⟩
   · simp only [if_neg hz,Bool.and_eq_true,decide_eq_true_eq]
     refine ⟨⟨decide_eq_true ⟨by omega,by omega,by omega⟩,decide_eq_true ⟨by omega,by omega,by omega⟩⟩,by omega,by omega,by omega⟩
end Go.Azalai
namespace Go.Proofs.Ytnlfjchbhgikaaa
open Go Go.Sx Go.Azalai
end Go.Proofs.Ytnlfjchbhgikaaa
set_option maxRecDepth 100000
set_option maxHeartbeats 4000000
namespace Go.Azalai
def seekN (g:Int → Bool):Nat → Int → Int → Int
 | 0,lo,_=>lo
 | n + 1,lo,hi=>if lo < hi then (if g ((lo + hi + 1).tdiv 2) then seekN g n ((lo + hi + 1).tdiv 2) hi else seekN g n lo ((lo + hi + 1).tdiv 2 - 1)) else lo
def heavyF (b:Breed) (c:Camel) (l:List March):Int × Int :=
 if errL b c l ≠ 0 then (0,errL b c l) else if bearsL b 0 c l = false then (0,13) else (seekN (fun n=>bearsL b n c l) 2000000 0 1000000,0)
theorem seek_enough {g:Int → Bool}:∀ (n m:Nat) (lo hi:Int),0 ≤ lo → hi - lo ≤ n → n ≤ m → seekN g m lo hi = seekN g n lo hi
 | 0,0,lo,hi,_,_,_=>rfl
 | 0,m + 1,lo,hi,_,h,_=>by simp only [seekN];rw [if_neg (by omega)]
 | n + 1,0,lo,hi,_,_,h=>by omega
 | n + 1,m + 1,lo,hi,h0,h,hm=>by
  simp only [seekN]
  split
  · rename_i hlt
    have e:(lo + hi + 1).tdiv 2 = (lo + hi + 1) / 2:=Int.tdiv_eq_ediv_of_nonneg (by omega)
    rw [e]
    rw [seek_enough n m _ hi (by omega) (by omega) (by omega),seek_enough n m lo _ (by omega) (by omega) (by omega)]
  · rfl
end Go.Azalai
namespace Go.Proofs.Ytnlfjchbhgikaaa
open Go Go.Sx Go.Azalai
end Go.Proofs.Ytnlfjchbhgikaaa
set_option maxRecDepth 100000
set_option maxHeartbeats 4000000
namespace Go.Proofs.Ytnlfjchbhgikaaa
open Go Go.Sx Go.Azalai
theorem greatest_ok (f:Nat) (caps:List SV) (hk:KFL caps) (g:Int → Bool) (hg:∀ n,inR 0 1000000 n = true → Ct Try.prog f (I n :: caps) (B (g n))):Ct Try.prog 69 [I 0,I 1000000,.cl f caps] (I (seekN g 2000000 0 1000000)):=by
 refine t69 (by simp [KFL,KF,hk]) (by simp [KFL,KF]) ?_
 dsimp only [c69,r69,go_sem,rA,rM,rS]
 refine loopO (fun s:Int × Int=>[(0,I s.1),(1,I s.2)]) (fun _=>[]) (fun s=>0 ≤ s.1 ∧ s.1 ≤ s.2 ∧ s.2 ≤ 1000000 ∧ seekN g 2000000 s.1 s.2 = seekN g 2000000 0 1000000) (fun s=>(s.2 - s.1).toNat) (0,1000000) ⟨by decide,by decide,by decide,rfl⟩ ?_ ?_
 · (refine ent_id ?_ ?_ ?_ rfl rfl <;> dsimp only [hk,id,go_sem,rA,rM,rS] <;> simp [hk,KFR_iff,KFR_app,KFR,KFL,KF,mtL_same,mtO,nbr])
 rintro ⟨lo,hi⟩ ⟨g1,g2,g3,g4⟩
 simp only at g1 g2 g3 g4
 dsimp only [go_sem,rA,rM,rS]
 by_cases hlt:lo < hi
 · refine br_t (by simpa using hlt) ?_
   dsimp only [go_sem,rA,rM,rS]
   simp (disch:=omega) only [w64_in]
   have e:(lo + hi + 1).tdiv 2 = (lo + hi + 1) / 2:=Int.tdiv_eq_ediv_of_nonneg (by omega)
   have g5:seekN g 2000000 lo hi = if g ((lo + hi + 1).tdiv 2) then seekN g 2000000 ((lo + hi + 1).tdiv 2) hi else seekN g 2000000 lo ((lo + hi + 1).tdiv 2 - 1):=by
    rw [← seek_enough 2000000 2000001 lo hi g1 (by omega) (by omega)]
    rw [seekN,if_pos hlt]
   rw [g4] at g5
   refine div0 (by decide) ?_
   dsimp only [go_sem,rA,rM,rS]
   have e2:(hi - lo).tdiv 2 = (hi - lo) / 2:=Int.tdiv_eq_ediv_of_nonneg (by omega)
   have e3:hi - (hi - lo) / 2 = (lo + hi + 1) / 2:=by omega
   simp only [e] at g5
   simp only [e2]
   rw [w64_in (n:=(hi - lo) / 2) (by omega) (by omega),w64_in (n:=hi - (hi - lo) / 2) (by omega) (by omega),e3]
   refine call (hg ((lo + hi + 1) / 2) (by simp only [inR,decide_eq_true_eq];omega)) ?_
   dsimp only [go_sem,rA,rM,rS]
   refine br ?_ ?_
   · intro hb1
     dsimp only [go_sem,rA,rM,rS]
     rw [if_pos hb1] at g5
     refine ⟨((lo + hi + 1) / 2,hi),⟨by simp only;omega,by simp only;omega,by simp only;omega,g5.symm⟩,by simp only;omega,?_⟩
     (refine ent_id ?_ ?_ ?_ rfl rfl <;> dsimp only [hk,id,go_sem,rA,rM,rS] <;> simp [hk,KFR_iff,KFR_app,KFR,KFL,KF,mtL_same,mtO,nbr])
   · intro hb1
     dsimp only [go_sem,rA,rM,rS]
     simp (disch:=omega) only [w64_in]
     rw [if_neg (by simpa using hb1)] at g5
     refine ⟨(lo,(lo + hi + 1) / 2 - 1),⟨by simp only;omega,by simp only;omega,by simp only;omega,g5.symm⟩,by simp only;omega,?_⟩
     (refine ent_id ?_ ?_ ?_ rfl rfl <;> dsimp only [hk,id,go_sem,rA,rM,rS] <;> simp [hk,KFR_iff,KFR_app,KFR,KFL,KF,mtL_same,mtO,nbr])
 refine br_f (by simp;omega) ?_
 dsimp only [go_sem,rA,rM,rS]
 have:seekN g 2000000 lo hi = lo:=by
  rw [← seek_enough 2000000 2000001 lo hi g1 (by omega) (by omega),seekN,if_neg hlt]
 rw [← g4,this]
theorem day_dies (b:Breed) (c:Camel) (m:March) (hb:okBreed b = true) (hc:okCamel b c = true) (hm:okMarch m = true) (hd:(afterF b c m).2 = 2) :
 Ct Try.prog 68 [.agg (beastL b c),.agg (marchL m)] (.tup [.agg (beastL ⟨0,0,⟨0,0⟩,⟨0,0⟩,⟨0,0⟩,⟨0,0⟩,⟨0,0⟩,⟨0,0⟩,0,⟨0,0⟩⟩ zeroC),.v (.int .u8 2)]):=by
 have h1:=breed_bd hb
 have h2:=camel_bd hb hc
 have h3:=march_bd hm
 have w1:=costW_bd (k:=c.milks) hb hm
 have w2:=costF_bd hb hm
 refine t68 (by simp [beastL,marchL,KFL,KF]) (by simp [beastL,zeroC,KFL,KF]) ?_
 dsimp only [c68,r68,beastL,marchL,go_sem,rA,rM,rS]
 refine call (cost_ok b c.milks m hb hm) ?_
 dsimp only [go_sem,rA,rM,rS]
 generalize hW:costW b c.milks m = W at w1
 generalize hF:costF b m = F at w2
 have hd':c.water.hi < W.lo ∨ c.fat.hi < F.lo:=by
  by_cases h:c.water.hi < W.lo ∨ c.fat.hi < F.lo
  · exact h
  · simp only [afterF,hW,hF,if_neg h] at hd
    split at hd <;> cases hd
 by_cases hw:c.water.hi < W.lo
 · refine unroll 3 ?_
   dsimp only [rnds_succ,go_sem,rA,rM,rS]
   refine br_t (by decide) ?_
   dsimp only [rnds_succ,go_sem,rA,rM,rS]
   repeat (first | (refine ixa 0 rfl (by decide) ?_;dsimp only [rnds_succ,go_sem,rA,rM,rS]) | (refine br_t (by simp;omega) ?_;dsimp only [rnds_succ,zeroC,go_sem,rA,rM,rS]))
 · have hf:c.fat.hi < F.lo:=by omega
   by_cases hp:c.water.lo < W.hi
   · refine unroll 3 ?_
     dsimp only [rnds_succ,go_sem,rA,rM,rS]
     refine br_t (by decide) ?_
     dsimp only [rnds_succ,go_sem,rA,rM,rS]
     repeat (first | (refine ixa 0 rfl (by decide) ?_;dsimp only [rnds_succ,go_sem,rA,rM,rS]) | (refine br_f (by simp;omega) ?_;dsimp only [rnds_succ,go_sem,rA,rM,rS]) | (refine br_t (by simp;omega) ?_;dsimp only [rnds_succ,go_sem,rA,rM,rS]))
     simp (disch:=omega) only [w64_in]
     refine call (plus2 ⟨max 0 (c.water.lo - W.hi),c.water.hi - W.lo⟩ m.drinks _ (by unfold bdS;simp only;omega) (by unfold bdS;omega)) ?_
     dsimp only [rnds_succ,spanL,go_sem,rA,rM,rS]
     repeat (first | (refine ixa 0 rfl (by decide) ?_;dsimp only [rnds_succ,go_sem,rA,rM,rS]) | (refine br_f (by simp;omega) ?_;dsimp only [rnds_succ,go_sem,rA,rM,rS]) | (refine br_t (by simp;omega) ?_;dsimp only [rnds_succ,go_sem,rA,rM,rS]))
     simp (disch:=omega) only [w64_in]
     refine br_t (by decide) ?_
     dsimp only [rnds_succ,go_sem,rA,rM,rS]
     repeat (first | (refine ixa 1 rfl (by decide) ?_;dsimp only [rnds_succ,go_sem,rA,rM,rS]) | (refine br_t (by simp;omega) ?_;dsimp only [rnds_succ,zeroC,go_sem,rA,rM,rS]))
   · refine unroll 3 ?_
     dsimp only [rnds_succ,go_sem,rA,rM,rS]
     refine br_t (by decide) ?_
     dsimp only [rnds_succ,go_sem,rA,rM,rS]
     repeat (first | (refine ixa 0 rfl (by decide) ?_;dsimp only [rnds_succ,go_sem,rA,rM,rS]) | (refine br_f (by simp;omega) ?_;dsimp only [rnds_succ,go_sem,rA,rM,rS]) | (refine br_t (by simp;omega) ?_;dsimp only [rnds_succ,go_sem,rA,rM,rS]))
     simp (disch:=omega) only [w64_in]
     refine call (plus2 ⟨max 0 (c.water.lo - W.hi),c.water.hi - W.lo⟩ m.drinks _ (by unfold bdS;simp only;omega) (by unfold bdS;omega)) ?_
     dsimp only [rnds_succ,spanL,go_sem,rA,rM,rS]
     repeat (first | (refine ixa 0 rfl (by decide) ?_;dsimp only [rnds_succ,go_sem,rA,rM,rS]) | (refine br_f (by simp;omega) ?_;dsimp only [rnds_succ,go_sem,rA,rM,rS]) | (refine br_t (by simp;omega) ?_;dsimp only [rnds_succ,go_sem,rA,rM,rS]))
     simp (disch:=omega) only [w64_in]
     refine br_t (by decide) ?_
     dsimp only [rnds_succ,go_sem,rA,rM,rS]
     repeat (first | (refine ixa 1 rfl (by decide) ?_;dsimp only [rnds_succ,go_sem,rA,rM,rS]) | (refine br_t (by simp;omega) ?_;dsimp only [rnds_succ,zeroC,go_sem,rA,rM,rS]))
end Go.Proofs.Ytnlfjchbhgikaaa
set_option maxRecDepth 100000
set_option maxHeartbeats 4000000
namespace Go.Proofs.Ytnlfjchbhgikaaa
open Go Go.Sx Go.Azalai
theorem bears_ok (b:Breed) (c:Camel) (l:List March) (load:Int) (hb:okBreed b = true) (hc:okCamel b c = true) (hl:l.all okMarch = true) (h60:l.length ≤ 60) (h0:inR 0 1000000 load = true) (k:Bool) :
 Ct Try.prog 67 [I load,.ps (breedL b) 0,.ps (camelL c) 0,.ps [.sl k 8 (l.map marchL)] 0] (B (bearsL b load c l)):=by
 have hbd:=breed_bd hb
 have hlo:=h0
 simp only [inR,decide_eq_true_eq] at hlo
 have hall:=List.all_eq_true.1 hl
 refine t67 (by simp [breedL,camelL,marchL,KFR_iff,KFL,KF]) (by simp [KFL,KF]) ?_
 dsimp only [c67,r67,breedL,camelL,go_sem,rA,rM,rS]
 refine loopO (fun s:Nat × Camel=>[(16,I s.1)]) (fun s=>[(0,.cells (beastL b s.2) 107)]) (fun s=>s.1 ≤ l.length ∧ okCamel b s.2 = true ∧ bearsL b load s.2 (l.drop s.1) = bearsL b load c l) (fun s=>l.length - s.1) (0,c) ⟨Nat.zero_le _,hc,rfl⟩ ?_ ?_
 · (refine ent_id ?_ ?_ ?_ rfl rfl <;> dsimp only [breedL,camelL,marchL,beastL,id,go_sem,rA,rM,rS] <;> simp [breedL,camelL,marchL,beastL,KFR_iff,KFR_app,KFR,KFL,KF,mtL_same,mtO,nbr])
 rintro ⟨j,c1⟩ ⟨hj,hc1,hi⟩
 simp only at hj hc1 hi
 dsimp only [beastL,go_sem,rA,rM,rS]
 simp only [List.length_map]
 by_cases hlt:j < l.length
 · refine br_t (by simpa using hlt) ?_
   dsimp only [go_sem,rA,rM,rS]
   rw [List.drop_eq_getElem_cons hlt,bearsL] at hi
   have hm:=hall l[j] (List.getElem_mem _)
   have hm':okMarch { l[j] with load:=load } = true:=by
    simp only [okMarch,Bool.and_eq_true] at hm ⊢
    exact ⟨⟨⟨⟨hm.1.1.1.1,h0⟩,hm.1.1.2⟩,hm.1.2⟩,hm.2⟩
   refine ixs_map j hlt rfl ?_
   dsimp only [marchL,go_sem,rA,rM,rS]
   repeat (first | (refine gb ?_;dsimp only [go_sem,rA,rM,rS]) | (refine call (car_ok b c1 hb hc1) ?_;dsimp only [spanL,go_sem,rA,rM,rS]))
   by_cases hcar:l[j].hours > 0 ∧ load > (carF b c1).lo
   case pos =>
    refine br_t (by grind) ?_
    dsimp only [go_sem,rA,rM,rS]
    rw [if_pos hcar] at hi
    rw [← hi]
   refine br_f (by grind) ?_
   dsimp only [go_sem,rA,rM,rS]
   rw [if_neg hcar] at hi
   by_cases hf2:(afterF b c1 { l[j] with load:=load }).2 = 2
   · refine call (day_dies b c1 { l[j] with load:=load } hb hc1 hm' hf2) ?_
     dsimp only [beastL,zeroC,go_sem,rA,rM,rS]
     refine br_t (by decide) ?_
     dsimp only [go_sem,rA,rM,rS]
     rw [if_pos (by rw [hf2];decide)] at hi
     rw [← hi]
   refine call (day_ok b c1 { l[j] with load:=load } hb hc1 hm' hf2) ?_
   dsimp only [beastL,go_sem,rA,rM,rS]
   by_cases hf0:(afterF b c1 { l[j] with load:=load }).2 = 0
   case neg =>
    refine br_t (by simpa using hf0) ?_
    dsimp only [go_sem,rA,rM,rS]
    rw [if_pos hf0] at hi
    rw [← hi]
   refine br_f (by simpa using hf0) ?_
   dsimp only [go_sem,rA,rM,rS]
   rw [if_neg (by simpa using hf0)] at hi
   rw [w64_in (n:=(j:Int) + 1) (by omega) (by omega)]
   refine ⟨(j + 1,(afterF b c1 { l[j] with load:=load }).1),⟨hlt,after_ok hb hc1 hm' hf2,hi⟩,by simp only;omega,?_⟩
   (refine ent_id ?_ ?_ ?_ rfl rfl <;> dsimp only [breedL,camelL,marchL,beastL,id,go_sem,rA,rM,rS] <;> simp [breedL,camelL,marchL,beastL,KFR_iff,KFR_app,KFR,KFL,KF,mtL_same,mtO,nbr])
 refine br_f (by simp;omega) ?_
 dsimp only [go_sem,rA,rM,rS]
 have hje:j = l.length:=by omega
 subst hje
 rw [List.drop_length,bearsL] at hi
 rw [← hi]
theorem heavy_ok (b:Breed) (c:Camel) (l:List March) (k:Bool) (hl:l.length ≤ 1000):Ct Try.prog 24 [.agg (breedL b),.agg (camelL c),.sl k 8 (l.map marchL)] (.tup [I (heavyF b c l).1,I (heavyF b c l).2]):=by
 refine t24 (by simp [breedL,camelL,marchL,KFR_iff,KFL,KF]) (by simp [KFL,KF]) ?_
 dsimp only [c24,r24,breedL,camelL,go_sem,rA,rM,rS]
 refine call (checkL_ok b c l (by omega) k) ?_
 dsimp only [go_sem,rA,rM,rS]
 by_cases h0:errL b c l = 0
 case neg =>
  refine br_t (by simpa using h0) ?_
  dsimp only [go_sem,rA,rM,rS]
  simp [heavyF,h0]
 refine br_f (by simpa using h0) ?_
 dsimp only [go_sem,rA,rM,rS]
 have hq:okBreed b = true ∧ okCamel b c = true ∧ l.length ≤ 60 ∧ l.all okMarch = true:=by
  unfold errL at h0
  by_cases e1:errC b c = 0
  · obtain ⟨q1,q2⟩:=errC_0.1 e1
    by_cases e2:l.length > 60
    · simp [e1,e2] at h0
    · by_cases e3:l.all okMarch = true
      · exact ⟨q1,q2,by omega,e3⟩
      · simp only [e1,e2] at h0;simp at e3 h0;grind
  · simp [e1] at h0
 obtain ⟨q1,q2,q3,q4⟩:=hq
 have hbear:∀ n,inR 0 1000000 n = true → Ct Try.prog 67 [I n,.ps (breedL b) 0,.ps (camelL c) 0,.ps [.sl k 8 (l.map marchL)] 0] (B (bearsL b n c l)):=fun n hn=>bears_ok b c l n q1 q2 q4 q3 hn k
 refine callv (by simp [FLT]) (res:=B (bearsL b 0 c l)) ?_ ?_
 · dsimp only [go_sem,rA,rM,rS]
   exact hbear 0 (by decide)
 dsimp only [go_sem,rA,rM,rS]
 by_cases hb0:bearsL b 0 c l = true
 case neg =>
  refine br_t (by simpa using hb0) ?_
  dsimp only [go_sem,rA,rM,rS]
  have:bearsL b 0 c l = false:=by simpa using hb0
  simp [heavyF,h0,this]
 refine br_f (by simp [hb0]) ?_
 dsimp only [go_sem,rA,rM,rS]
 have hh:heavyF b c l = (seekN (fun n=>bearsL b n c l) 2000000 0 1000000,0):=by simp [heavyF,h0,hb0]
 rw [hh]
 refine callv (by simp [FLT]) (res:=I (seekN (fun n=>bearsL b n c l) 2000000 0 1000000)) ?_ ?_
 · dsimp only [go_sem,rA,rM,rS]
   exact greatest_ok 67 [.ps (breedL b) 0,.ps (camelL c) 0,.ps [.sl k 8 (l.map marchL)] 0] (by simp [breedL,camelL,marchL,KFR_iff,KFL,KF]) (fun n=>bearsL b n c l) hbear
 dsimp only [go_sem,rA,rM,rS]
end Go.Proofs.Ytnlfjchbhgikaaa
set_option maxRecDepth 100000
set_option maxHeartbeats 4000000
namespace Go.Azalai
def afterE (b:Breed) (c:Camel) (m:March):Camel × Int × Int :=
 if errC b c ≠ 0 then (zeroC,0,errC b c) else if okMarch m = false then (zeroC,0,12) else if (afterF b c m).2 = 2 then (zeroC,0,13) else ((afterF b c m).1,(afterF b c m).2,0)
def daysG (b:Breed) (c:Camel) (out:List Camel) (worst:Int):List March → List Camel × Int × Int × Int
 | []=>(out,worst,0,0)
 | m :: r=>if (afterF b c m).2 = 2 then ([],2,out.length,13) else daysG b (afterF b c m).1 (out ++ [(afterF b c m).1]) (max worst (afterF b c m).2) r
def daysF (b:Breed) (c:Camel) (l:List March):List Camel × Int × Int × Int:=if errL b c l ≠ 0 then ([],0,0,errL b c l) else daysG b c [] 0 l
end Go.Azalai
namespace Go.Proofs.Ytnlfjchbhgikaaa
open Go Go.Sx Go.Azalai
def rowsE (e:Int) (l:List Camel):SV:=if e = 0 then .sl false 7 (l.map camelL) else .v (.slice none 0 0)
def U8 (n:Int):SV:=.v (.int .u8 n)
theorem after1_ok (b:Breed) (c:Camel) (m:March):Ct Try.prog 29 [.agg (breedL b),.agg (camelL c),.agg (marchL m)] (.tup [.agg (camelL (afterE b c m).1),U8 (afterE b c m).2.1,I (afterE b c m).2.2]):=by
 refine t29 (by simp [breedL,camelL,marchL,KFL,KF]) (by simp [camelL,U8,KFL,KF]) ?_
 dsimp only [c29,r29,breedL,camelL,marchL,go_sem,rA,rM,rS]
 refine call (checkCamel_ok b c) ?_
 dsimp only [go_sem,rA,rM,rS]
 by_cases h0:errC b c = 0
 case neg =>
  refine br_t (by simpa using h0) ?_
  dsimp only [go_sem,rA,rM,rS]
  simp [afterE,h0,zeroC,U8,camelL]
 refine br_f (by simpa using h0) ?_
 dsimp only [go_sem,rA,rM,rS]
 obtain ⟨hb,hc⟩:=errC_0.1 h0
 refine call (checkDay1 m true) ?_
 dsimp only [go_sem,rA,rM,rS]
 by_cases hm:okMarch m = true
 case neg =>
  refine br_t (by simp [hm]) ?_
  dsimp only [go_sem,rA,rM,rS]
  simp [afterE,h0,hm,zeroC,U8,camelL]
 refine br_f (by simp [hm]) ?_
 dsimp only [go_sem,rA,rM,rS]
 by_cases hd:(afterF b c m).2 = 2
 · refine call (day_dies b c m hb hc hm hd) ?_
   dsimp only [beastL,zeroC,go_sem,rA,rM,rS]
   refine br_t (by decide) ?_
   dsimp only [go_sem,rA,rM,rS]
   simp [afterE,h0,hm,hd,zeroC,U8,camelL]
 refine call (day_ok b c m hb hc hm hd) ?_
 dsimp only [beastL,go_sem,rA,rM,rS]
 refine br_f (by simpa using hd) ?_
 dsimp only [go_sem,rA,rM,rS]
 simp [afterE,h0,hm,hd,U8,camelL]
theorem errL_0 {b:Breed} {c:Camel} {l:List March} (h0:errL b c l = 0):okBreed b = true ∧ okCamel b c = true ∧ l.length ≤ 60 ∧ l.all okMarch = true:=by
 unfold errL at h0
 by_cases e1:errC b c = 0
 · obtain ⟨q1,q2⟩:=errC_0.1 e1
   by_cases e2:l.length > 60
   · simp [e1,e2] at h0
   · by_cases e3:l.all okMarch = true
     · exact ⟨q1,q2,by omega,e3⟩
     · simp only [e1,e2] at h0;simp at e3 h0;grind
 · simp [e1] at h0
end Go.Proofs.Ytnlfjchbhgikaaa
set_option maxRecDepth 100000
set_option maxHeartbeats 4000000
namespace Go.Proofs.Ytnlfjchbhgikaaa
open Go Go.Sx Go.Azalai
def iterO (b:Breed) (c:Camel) (l:List March) (k:Bool):Ot:=⟨false,.cl 95 [.p 1 0,.p 0 0],[(1,.cells [.sl k 8 (l.map marchL)] 44),(0,.cells (beastL b c) 107)],2⟩
theorem iter_ok (b:Breed) (c:Camel) (l:List March) (k:Bool):CtM Try.prog 75 [] 0 [.agg (beastL b c),.sl k 8 (l.map marchL)] (fun o=>o = iterO b c l k):=by
 refine m75 (by simp [hpb]) (fun o ho=>by subst ho;simp [iterO,KX,KXL,KXP,KXH,KFR_iff,KFL,KF,marchL,beastL]) ?_
 dsimp only [c75,r75,beastL,go_sem,rA,rM,rS]
 refine ⟨_,rfl,?_⟩
 simp only [iterO]
 (refine entO_id ?_ ?_ ?_ rfl <;> dsimp only [beastL,marchL,id,go_sem,rA,rM,rS] <;> simp [beastL,marchL,KFR_iff,KFR_app,KFR,KFL,KF,mtL_same,mtO,nbr])
theorem days_ok (b:Breed) (c:Camel) (l:List March) (k:Bool) (hl0:l.length < 4611686018427387904):Ct Try.prog 31 [.agg (breedL b),.agg (camelL c),.sl k 8 (l.map marchL)] (.tup [rowsE (daysF b c l).2.2.2 (daysF b c l).1,U8 (daysF b c l).2.1,I (daysF b c l).2.2.1,I (daysF b c l).2.2.2]):=by
 refine t31 (by simp [breedL,camelL,marchL,KFR_iff,KFL,KF]) (by unfold rowsE;split <;> simp [KFL,KF,KFR_iff,camelL,U8]) ?_
 dsimp only [c31,r31,breedL,camelL,go_sem,rA,rM,rS]
 refine call (checkL_ok b c l hl0 k) ?_
 dsimp only [go_sem,rA,rM,rS]
 by_cases h0:errL b c l = 0
 case neg =>
  refine br_t (by simpa using h0) ?_
  dsimp only [go_sem,rA,rM,rS]
  simp [daysF,h0,rowsE,U8]
 refine br_f (by simpa using h0) ?_
 dsimp only [go_sem,rA,rM,rS]
 obtain ⟨hb,hc,h60,hl⟩:=errL_0 h0
 have hall:=List.all_eq_true.1 hl
 have hbd:=breed_bd hb
 have hF:daysF b c l = daysG b c [] 0 l:=by simp [daysF,h0]
 rw [hF]
 refine callmL [] (iter_ok b c l k) rfl rfl rfl ?_ ?_ ?_
 · exact mtL_same (by simp [breedL,camelL,beastL,marchL,KFR_iff,KFL,KF])
 · trivial
 dsimp only [iterO,beastL,go_sem,rA,rM,rS]
 refine gh (ent_nilcell 2 0 7 27 rfl rfl) ?_
 dsimp only [go_sem,rA,rM,rS]
 refine ⟨b95,fun rec=>?_⟩
 refine y95 ?_
 dsimp only [c95,r95,go_sem,rA,rM,rS]
 refine loopO (fun s:Nat × Nat × Camel × List Camel × Int=>[(10,I s.1)]) (fun s=>[(6,.cells (beastL b s.2.2.1) 107),(2,.cells [.mr 8 s.2.1] 45),(3,.cells [U8 s.2.2.2.2] 5),(8,.row s.2.1 7 (s.2.2.2.1.map camelL) 27)])
  (fun s=>s.1 ≤ l.length ∧ okCamel b s.2.2.1 = true ∧ s.2.2.2.1.length = s.1 ∧ (0 ≤ s.2.2.2.2 ∧ s.2.2.2.2 ≤ 2) ∧ daysG b s.2.2.1 s.2.2.2.1 s.2.2.2.2 (l.drop s.1) = daysG b c [] 0 l) (fun s=>l.length - s.1) (0,0,c,[],0) ⟨Nat.zero_le _,hc,rfl,⟨Int.le_refl _,by simp⟩,rfl⟩ ?_ ?_
 · (refine ent_id ?_ ?_ ?_ rfl rfl <;> dsimp only [breedL,camelL,marchL,beastL,U8,id,go_sem,rA,rM,rS] <;> simp [breedL,camelL,marchL,beastL,U8,KFR_iff,KFR_app,KFR,KFL,KF,mtL_same,mtO,nbr])
 rintro ⟨j,v,c1,out,worst⟩ ⟨hj,hc1,ho,hw,hi⟩
 simp only at hj hc1 ho hw hi
 dsimp only [beastL,U8,go_sem,rA,rM,rS]
 simp only [List.length_map]
 by_cases hlt:j < l.length
 · refine br_t (by simpa using hlt) ?_
   dsimp only [go_sem,rA,rM,rS]
   rw [List.drop_eq_getElem_cons hlt,daysG] at hi
   have hm:=hall l[j] (List.getElem_mem _)
   refine ixs_map j hlt rfl ?_
   dsimp only [marchL,go_sem,rA,rM,rS]
   by_cases hf2:(afterF b c1 l[j]).2 = 2
   · refine call (day_dies b c1 l[j] hb hc1 hm hf2) ?_
     dsimp only [beastL,zeroC,go_sem,rA,rM,rS]
     refine ⟨rfl,rfl,?_⟩
     refine br_t (by decide) ?_
     dsimp only [go_sem,rA,rM,rS]
     simp only [nbr]
     dsimp only [go_sem,rA,rM,rS]
     refine ⟨rfl,?_⟩
     refine gb ?_
     dsimp only [go_sem,rA,rM,rS]
     refine gb ?_
     dsimp only [go_sem,rA,rM,rS]
     refine br_t (by decide) ?_
     dsimp only [go_sem,rA,rM,rS]
     rw [if_pos hf2] at hi
     rw [← hi]
     simp [rowsE]
   refine call (day_ok b c1 l[j] hb hc1 hm hf2) ?_
   dsimp only [beastL,go_sem,rA,rM,rS]
   refine ⟨rfl,rfl,?_⟩
   refine br_f (by simpa using hf2) ?_
   dsimp only [go_sem,rA,rM,rS]
   simp only [nbr]
   dsimp only [go_sem,rA,rM,rS]
   refine ⟨(by intro c hc;simp only [List.mem_singleton] at hc;subst hc;rfl),by simp;omega,?_⟩
   dsimp only [go_sem,rA,rM,rS]
   refine ⟨rfl,?_⟩
   refine gb ?_
   dsimp only [go_sem,rA,rM,rS]
   refine gb ?_
   dsimp only [go_sem,rA,rM,rS]
   refine br_f (by simpa using hf2) ?_
   dsimp only [go_sem,rA,rM,rS]
   rw [if_neg (by simpa using hf2)] at hi
   have hfr:0 ≤ (afterF b c1 l[j]).2 ∧ (afterF b c1 l[j]).2 ≤ 2:=by
    unfold afterF;simp only;split
    · simp
    · simp only;split <;> simp
   rw [w64_in (n:=(j:Int) + 1) (by omega) (by omega)]
   refine ⟨(j + 1,v + 1,(afterF b c1 l[j]).1,out ++ [(afterF b c1 l[j]).1],max worst (afterF b c1 l[j]).2),⟨hlt,after_ok hb hc1 hm hf2,by simp [ho],(by simp only;omega),hi⟩,by simp only;omega,?_⟩
   (refine ent_id ?_ ?_ ?_ rfl rfl <;> dsimp only [breedL,camelL,marchL,beastL,U8,id,go_sem,rA,rM,rS] <;> simp [breedL,camelL,marchL,beastL,U8,KFR_iff,KFR_app,KFR,KFL,KF,mtL_same,mtO,nbr])
 refine br_f (by simp;omega) ?_
 dsimp only [go_sem,rA,rM,rS]
 have hje:j = l.length:=by omega
 subst hje
 rw [List.drop_length,daysG] at hi
 simp only [nbr]
 rw [← hi]
 simp [rowsE,vwN]
end Go.Proofs.Ytnlfjchbhgikaaa
set_option maxRecDepth 100000
set_option maxHeartbeats 4000000
namespace Go.Sx
open Go
end Go.Sx
namespace Go.Proofs.Ytnlfjchbhgikaaa
open Go Go.Sx Go.Azalai
def U64 (n:Int):SV:=.v (.int .u64 n)
theorem uw {n:Int} (h0:0 ≤ n) (h1:n < 18446744073709551616):IntKind.u64.wrap n = n:=by
 have e:n % 2 ^ IntKind.u64.bits = n:=Int.emod_eq_of_lt h0 (by show n < 2 ^ 64;omega)
 simp only [IntKind.wrap,e,show IntKind.u64.signed = false from rfl,Bool.false_and]
 rfl
theorem mul64_ok (n:Int) (h0:0 ≤ n) (h1:n ≤ 1000000):Ct Try.prog 104 [U64 1,U64 n] (.tup [U64 0,U64 n]):=by
 refine t104 (by simp [U64,KFL,KF]) (by simp [U64,KFL,KF]) ?_
 dsimp only [c104,r104,U64,go_sem,rA,rM,rS]
 have sh:∀ (m:Int),0 ≤ m → m < 4294967296 → ∀ w:World,(binOp .shr 164 (.int .u64 m) (.int .u64 32)).run Try.prog w = .ok (.int .u64 0) w:=fun m q0 q1 w=>by
  simp only [binOp,Op.shift]
  rw [if_neg (by decide)]
  have:m.fdiv (2 ^ 32) = 0:=by rw [Int.fdiv_eq_ediv_of_nonneg _ (by decide)];omega
  show Result.ok (Value.int .u64 (m.fdiv (2 ^ (min (32:Int).toNat IntKind.u64.bits)))) w = _
  rw [show min (32:Int).toNat IntKind.u64.bits = 32 from by decide,this]
 have an:∀ (m:Int),0 ≤ m → m < 4294967296 → ∀ w:World,(binOp .and 164 (.int .u64 m) (.int .u64 4294967295)).run Try.prog w = .ok (.int .u64 m) w:=fun m q0 q1 w=>by
  obtain ⟨k,rfl⟩:=Int.eq_ofNat_of_zero_le q0
  have hk:k < 4294967296:=by omega
  have e:(BitVec.ofInt 64 (k:Int) &&& BitVec.ofInt 64 4294967295).toNat = k:=by
   rw [BitVec.toNat_and,show (BitVec.ofInt 64 4294967295).toNat = 2 ^ 32 - 1 from by decide,Nat.and_two_pow_sub_one_eq_mod,BitVec.ofInt_natCast,BitVec.toNat_ofNat]
   omega
  show Result.ok (Value.int .u64 (IntKind.u64.wrap (((BitVec.ofInt 64 (k:Int) &&& BitVec.ofInt 64 4294967295).toNat:Nat):Int))) w = _
  rw [e,uw (by omega) (by omega)]
 refine raw_bin rfl (.inl rfl) (an 1 (by omega) (by omega)) rfl ?_
 dsimp only [go_sem,rA,rM,rS]
 refine raw_bin rfl (.inr rfl) (sh 1 (by omega) (by omega)) rfl ?_
 dsimp only [go_sem,rA,rM,rS]
 refine raw_bin rfl (.inl rfl) (an n (by omega) (by omega)) rfl ?_
 dsimp only [go_sem,rA,rM,rS]
 refine raw_bin rfl (.inr rfl) (sh n (by omega) (by omega)) rfl ?_
 dsimp only [go_sem,rA,rM,rS]
 simp (disch:=omega) only [uw,Int.one_mul,Int.zero_mul,Int.mul_zero,Int.add_zero,Int.zero_add]
 refine raw_bin rfl (.inr rfl) (sh n (by omega) (by omega)) rfl ?_
 dsimp only [go_sem,rA,rM,rS]
 simp (disch:=omega) only [uw,Int.one_mul,Int.zero_mul,Int.mul_zero,Int.add_zero,Int.zero_add]
 refine raw_bin rfl (.inl rfl) (an 0 (by omega) (by omega)) rfl ?_
 dsimp only [go_sem,rA,rM,rS]
 refine raw_bin rfl (.inr rfl) (sh 0 (by omega) (by omega)) rfl ?_
 dsimp only [go_sem,rA,rM,rS]
 simp (disch:=omega) only [uw,Int.one_mul,Int.zero_mul,Int.mul_zero,Int.add_zero,Int.zero_add]
 refine raw_bin rfl (.inr rfl) (sh 0 (by omega) (by omega)) rfl ?_
 dsimp only [go_sem,rA,rM,rS]
 simp (disch:=omega) only [uw,Int.one_mul,Int.zero_mul,Int.mul_zero,Int.add_zero,Int.zero_add]
theorem mul_ok (n:Int) (h0:0 ≤ n) (h1:n ≤ 1000000):Ct Try.prog 96 [U64 1,U64 n] (.tup [U64 0,U64 n]):=by
 refine t96 (by simp [U64,KFL,KF]) (by simp [U64,KFL,KF]) ?_
 dsimp only [c96,r96,U64,go_sem,rA,rM,rS]
 refine br_f (by decide) ?_
 dsimp only [go_sem,rA,rM,rS]
 refine call (mul64_ok n h0 h1) ?_
 dsimp only [U64,go_sem,rA,rM,rS]
theorem kfr_rep {r:List SV} (h:KFL r):∀ n,KFR (List.replicate n r)
 | 0=>trivial
 | n + 1=>⟨h,kfr_rep h n⟩
theorem rep_ok (m:March) (n:Nat) (h0:1 ≤ n) (h1:n ≤ 1000) (k:Bool):Ct Try.prog 76 [.sl k 8 [marchL m],I n] (.sl false 8 (List.replicate n (marchL m))):=by
 have hm:KFL (marchL m):=by simp [marchL,KFL,KF]
 have hone:allOne (marchL m) = true:=rfl
 refine t76 (by simp [marchL,KFR,KFL,KF]) (by simp only [KF];exact kfr_rep hm n) ?_
 generalize marchL m = row at hm hone
 dsimp only [c76,r76,go_sem,rA,rM,rS]
 refine br_f (by simp) ?_
 dsimp only [go_sem,rA,rM,rS]
 rw [show ((1:Nat):Int) = 1 from rfl]
 simp (disch:=omega) only [uw]
 refine call (mul_ok n (by omega) (by omega)) ?_
 dsimp only [U64,go_sem,rA,rM,rS]
 refine gb ?_
 dsimp only [go_sem,rA,rM,rS]
 refine gb ?_
 dsimp only [go_sem,rA,rM,rS]
 refine br_f (by simp;omega) ?_
 dsimp only [go_sem,rA,rM,rS]
 refine ⟨n,w64_in (by omega) (by omega),by omega,?_⟩
 have hz:KFL [SV.v (Value.int IntKind.i64 0),SV.v (Value.int IntKind.i64 0),SV.v (Value.int IntKind.i64 0),SV.v (Value.int IntKind.i64 0),SV.v (Value.int IntKind.i64 0),SV.v (Value.int IntKind.i64 0),SV.v (Value.int IntKind.i64 0),SV.v (Value.int IntKind.i64 0)]:=by simp [KFL,KF]
 generalize [SV.v (Value.int IntKind.i64 0),SV.v (Value.int IntKind.i64 0),SV.v (Value.int IntKind.i64 0),SV.v (Value.int IntKind.i64 0),SV.v (Value.int IntKind.i64 0),SV.v (Value.int IntKind.i64 0),SV.v (Value.int IntKind.i64 0),SV.v (Value.int IntKind.i64 0)] = z at hz
 dsimp only [go_sem,rA,rM,rS]
 refine ⟨(by intro c hc;simp only [List.mem_singleton] at hc;subst hc;exact hone),by simp,?_⟩
 have hmin:min n 1 = 1:=by omega
 simp only [List.length_replicate,List.length_singleton,hmin,List.drop_replicate]
 dsimp only [go_sem,rA,rM,rS]
 refine loopO (fun j:Nat=>[(8,I j)]) (fun j=>[(0,.row 0 8 (List.replicate j row ++ List.replicate (n - j) z) 29)]) (fun j=>1 ≤ j ∧ j ≤ n) (fun j=>n - j) 1 ⟨Nat.le_refl _,h0⟩ ?_ ?_
 · refine ent_id ?_ ?_ ?_ rfl rfl <;> dsimp only [id,go_sem,rA,rM,rS] <;> simp [KFR_app,kfr_rep,hz,hm,mtL_same,mtO,nbr,KFR,KFL,KF]
 rintro j ⟨hj0,hj⟩
 dsimp only [go_sem,rA,rM,rS]
 simp only [List.length_append,List.length_replicate,show j + (n - j) = n from by omega]
 by_cases hlt:j < n
 · refine br_t (by simpa using hlt) ?_
   dsimp only [go_sem,rA,rM,rS]
   refine ⟨j,n,⟨rfl,by simp;omega,by omega,by simp;omega⟩,?_⟩
   dsimp only [go_sem,rA,rM,rS]
   refine ⟨0,j,⟨rfl,rfl,by omega,by simp⟩,?_⟩
   dsimp only [go_sem,rA,rM,rS]
   have hx:List.take (j - 0) (List.replicate j row ++ List.replicate (n - j) z) = List.replicate j row:=by rw [Nat.sub_zero];exact List.take_left' (by simp)
   have hx':List.take j (List.replicate j row ++ List.replicate (n - j) z) = List.replicate j row:=List.take_left' (by simp)
   rw [hx]
   refine ⟨by simp,(by intro c hc;rw [List.eq_of_mem_replicate hc];exact hone),by simp,?_⟩
   simp only [List.length_replicate]
   generalize hN:min (n - j) j = N
   have e:List.take j (List.replicate j row ++ List.replicate (n - j) z) ++ (List.take N (List.replicate j row) ++ List.drop (j + N) (List.replicate j row ++ List.replicate (n - j) z)) = List.replicate (j + N) row ++ List.replicate (n - (j + N)) z:=by
    rw [hx',List.take_replicate,List.drop_append,List.drop_of_length_le (l:=List.replicate j row) (by simp),List.length_replicate,List.nil_append,List.drop_replicate,← List.append_assoc,List.replicate_append_replicate,show min N j = N from by omega]
    congr 2;omega
   rw [e]
   dsimp only [go_sem,rA,rM,rS]
   rw [show (j:Int) + (N:Int) = ((j + N:Nat):Int) from by omega,w64_in (n:=((j + N:Nat):Int)) (by omega) (by omega)]
   refine ⟨j + N,⟨by omega,by omega⟩,by omega,?_⟩
   refine ent_id ?_ ?_ ?_ rfl rfl <;> dsimp only [id,go_sem,rA,rM,rS] <;> simp [KFR_app,kfr_rep,hz,hm,mtL_same,mtO,nbr,KFR,KFL,KF]
 refine br_f (by simp;omega) ?_
 dsimp only [go_sem,rA,rM,rS]
 have hje:j = n:=by omega
 subst hje
 simp
end Go.Proofs.Ytnlfjchbhgikaaa
set_option maxRecDepth 100000
set_option maxHeartbeats 4000000
namespace Go.Azalai
def lastsG (b:Breed) (m:March):Nat → Camel → Int → Int → Bool → Span
 | 0,_,lo,hi,_=>⟨lo,hi⟩
 | k + 1,c,lo,hi,s =>
  if (afterF b c m).2 = 2 then ⟨lo,hi⟩
  else lastsG b m k (afterF b c m).1 (if (s && decide ((afterF b c m).2 = 0)) = true then lo + 1 else lo) (hi + 1) (s && decide ((afterF b c m).2 = 0))
def lastsF (b:Breed) (c:Camel) (m:March):Span × Int:=if errL b c [m] ≠ 0 then (⟨0,0⟩,errL b c [m]) else (lastsG b m 60 c 0 0 true,0)
end Go.Azalai
namespace Go.Proofs.Ytnlfjchbhgikaaa
open Go Go.Sx Go.Azalai
theorem lasts_ok (b:Breed) (c:Camel) (m:March):Ct Try.prog 33 [.agg (breedL b),.agg (camelL c),.agg (marchL m)] (tres (lastsF b c m)):=by
 refine t33 (by simp [breedL,camelL,marchL,KFL,KF]) (by simp [tres,spanL,KFL,KF]) ?_
 dsimp only [c33,r33,breedL,camelL,marchL,tres,spanL,go_sem,rA,rM,rS]
 refine call (checkL_ok b c [m] (by simp) true) ?_
 dsimp only [go_sem,rA,rM,rS]
 by_cases h0:errL b c [m] = 0
 case neg =>
  refine br_t (by simpa using h0) ?_
  dsimp only [go_sem,rA,rM,rS]
  simp [lastsF,h0]
 refine br_f (by simpa using h0) ?_
 dsimp only [go_sem,rA,rM,rS]
 obtain ⟨hb,hc,_,hl⟩:=errL_0 h0
 have hm:okMarch m = true:=by simpa using hl
 have hF:lastsF b c m = (lastsG b m 60 c 0 0 true,0):=by simp [lastsF,h0]
 rw [hF]
 refine call (rep_ok m 60 (by decide) (by decide) true) ?_
 rw [← List.map_replicate]
 obtain ⟨l,hl⟩:∃ l,l = List.replicate 60 m:=⟨_,rfl⟩
 rw [← hl]
 have hl60:l.length = 60:=by rw [hl];simp
 have hlm:∀ (j:Nat) (h:j < l.length),l[j] = m:=fun j h=>by subst hl;exact List.getElem_replicate _
 clear hl
 dsimp only [go_sem,rA,rM,rS]
 refine callmL [] (iter_ok b c l false) rfl rfl rfl ?_ ?_ ?_
 · exact mtL_same (by simp [breedL,camelL,beastL,marchL,KFR_iff,KFL,KF])
 · trivial
 dsimp only [iterO,beastL,go_sem,rA,rM,rS]
 refine gh ent_refl ?_
 dsimp only [go_sem,rA,rM,rS]
 refine ⟨b95,fun rec=>?_⟩
 refine y95 ?_
 dsimp only [c95,r95,go_sem,rA,rM,rS]
 refine loopO (fun s:Nat × Camel × Int × Bool=>[(10,I s.1)]) (fun s=>[(6,.cells (beastL b s.2.1) 107),(4,.cells [I s.2.2.1,I s.1] 23),(5,.cells [B s.2.2.2] 4)])
  (fun s=>s.1 ≤ 60 ∧ okCamel b s.2.1 = true ∧ (0 ≤ s.2.2.1 ∧ s.2.2.1 ≤ s.1) ∧ lastsG b m (60 - s.1) s.2.1 s.2.2.1 s.1 s.2.2.2 = lastsG b m 60 c 0 0 true) (fun s=>60 - s.1) (0,c,0,true) ⟨by simp,hc,by simp,rfl⟩ ?_ ?_
 · (refine ent_id ?_ ?_ ?_ rfl rfl <;> dsimp only [breedL,camelL,marchL,beastL,id,go_sem,rA,rM,rS] <;> simp [breedL,camelL,marchL,beastL,KFR_iff,KFR_app,KFR,KFL,KF,mtL_same,mtO,nbr])
 rintro ⟨j,c1,lo,s⟩ ⟨hj,hc1,hs,hi⟩
 simp only at hj hc1 hs hi
 dsimp only [beastL,go_sem,rA,rM,rS]
 simp only [List.length_map,hl60]
 by_cases hlt:j < 60
 · refine br_t (by simp;omega) ?_
   dsimp only [go_sem,rA,rM,rS]
   rw [show 60 - j = (60 - (j + 1)) + 1 from by omega,lastsG] at hi
   refine ixs_map j (by omega) rfl ?_
   rw [hlm]
   dsimp only [marchL,go_sem,rA,rM,rS]
   by_cases hf2:(afterF b c1 m).2 = 2
   · refine call (day_dies b c1 m hb hc1 hm hf2) ?_
     dsimp only [beastL,zeroC,go_sem,rA,rM,rS]
     refine ⟨rfl,rfl,?_⟩
     refine br_t (by decide) ?_
     dsimp only [go_sem,rA,rM,rS]
     refine ⟨rfl,?_⟩
     refine gb ?_
     dsimp only [go_sem,rA,rM,rS]
     refine gb ?_
     dsimp only [go_sem,rA,rM,rS]
     refine br_t (by decide) ?_
     dsimp only [go_sem,rA,rM,rS]
     rw [if_pos hf2] at hi
     rw [← hi]
   refine call (day_ok b c1 m hb hc1 hm hf2) ?_
   dsimp only [beastL,go_sem,rA,rM,rS]
   refine ⟨rfl,rfl,?_⟩
   refine br_f (by simpa using hf2) ?_
   dsimp only [go_sem,rA,rM,rS]
   rw [if_neg hf2] at hi
   rw [w64_in (n:=(j:Int) + 1) (by omega) (by omega)]
   cases s
   · refine gb ?_
     dsimp only [go_sem,rA,rM,rS]
     refine gb ?_
     dsimp only [go_sem,rA,rM,rS]
     have hf0:True:=trivial
     simp only [Bool.false_and]
     refine br_f rfl ?_
     dsimp only [go_sem,rA,rM,rS]
     refine ⟨rfl,?_⟩
     refine gb ?_
     dsimp only [go_sem,rA,rM,rS]
     refine gb ?_
     dsimp only [go_sem,rA,rM,rS]
     refine br_f (by simpa using hf2) ?_
     dsimp only [go_sem,rA,rM,rS]
     rw [w64_in (n:=(j:Int) + 1) (by omega) (by omega)]
     refine ⟨(j + 1,(afterF b c1 m).1,lo,false),⟨by simp only;omega,after_ok hb hc1 hm hf2,by simp only;omega,by simpa [hf0] using hi⟩,by simp only;omega,?_⟩
     (refine ent_id ?_ ?_ ?_ rfl rfl <;> dsimp only [breedL,camelL,marchL,beastL,id,go_sem,rA,rM,rS] <;> simp [breedL,camelL,marchL,beastL,KFR_iff,KFR_app,KFR,KFL,KF,mtL_same,mtO,nbr])
   · refine gb ?_
     dsimp only [go_sem,rA,rM,rS]
     refine gb ?_
     dsimp only [go_sem,rA,rM,rS]
     by_cases hf0:(afterF b c1 m).2 = 0
     · rw [show (true && (afterF b c1 m).2 == 0) = true from by simp [hf0]]
       refine br_t rfl ?_
       dsimp only [go_sem,rA,rM,rS]
       rw [w64_in (n:=lo + 1) (by omega) (by omega)]
       refine ⟨rfl,?_⟩
       refine gb ?_
       dsimp only [go_sem,rA,rM,rS]
       refine gb ?_
       dsimp only [go_sem,rA,rM,rS]
       refine br_f (by simpa using hf2) ?_
       dsimp only [go_sem,rA,rM,rS]
       rw [w64_in (n:=(j:Int) + 1) (by omega) (by omega)]
       refine ⟨(j + 1,(afterF b c1 m).1,lo + 1,true),⟨by simp only;omega,after_ok hb hc1 hm hf2,by simp only;omega,by simpa [hf0] using hi⟩,by simp only;omega,?_⟩
       (refine ent_id ?_ ?_ ?_ rfl rfl <;> dsimp only [breedL,camelL,marchL,beastL,id,go_sem,rA,rM,rS] <;> simp [breedL,camelL,marchL,beastL,KFR_iff,KFR_app,KFR,KFL,KF,mtL_same,mtO,nbr])
     · rw [show (true && (afterF b c1 m).2 == 0) = false from by simp [hf0]]
       refine br_f rfl ?_
       dsimp only [go_sem,rA,rM,rS]
       refine ⟨rfl,?_⟩
       refine gb ?_
       dsimp only [go_sem,rA,rM,rS]
       refine gb ?_
       dsimp only [go_sem,rA,rM,rS]
       refine br_f (by simpa using hf2) ?_
       dsimp only [go_sem,rA,rM,rS]
       rw [w64_in (n:=(j:Int) + 1) (by omega) (by omega)]
       refine ⟨(j + 1,(afterF b c1 m).1,lo,false),⟨by simp only;omega,after_ok hb hc1 hm hf2,by simp only;omega,by simpa [hf0] using hi⟩,by simp only;omega,?_⟩
       (refine ent_id ?_ ?_ ?_ rfl rfl <;> dsimp only [breedL,camelL,marchL,beastL,id,go_sem,rA,rM,rS] <;> simp [breedL,camelL,marchL,beastL,KFR_iff,KFR_app,KFR,KFL,KF,mtL_same,mtO,nbr])
 refine br_f (by simp;omega) ?_
 dsimp only [go_sem,rA,rM,rS]
 have hje:j = 60:=by omega
 subst hje
 rw [show 60 - 60 = 0 from rfl,lastsG] at hi
 rw [← hi]
end Go.Proofs.Ytnlfjchbhgikaaa
set_option maxRecDepth 100000
set_option maxHeartbeats 4000000
namespace Go.Azalai
end Go.Azalai
namespace Go.Proofs.Ytnlfjchbhgikaaa
open Go Go.Sx Go.Azalai
end Go.Proofs.Ytnlfjchbhgikaaa
set_option maxRecDepth 100000
namespace Go.Proofs.Ytnlfjchbhgikaaa
open Go Go.Sx
def c38:SC:=(.seq (.reg [
 ⟨some 0,.mv (.c (.bool false)),none,[]⟩])
 (.seq (.reg [
 ⟨some 16,.call 52 [],none,[]⟩,
 ⟨some 17,.call 53 [],none,[]⟩,
 ⟨some 18,.call 14 [.t 16,.t 17],none,[]⟩,
 ⟨some 15,.mv (.t 18),none,[]⟩,
 ⟨some 19,.ext (.t 15) 0,none,[]⟩,
 ⟨some 20,.ext (.t 15) 1,none,[]⟩,
 ⟨some 1,.alloc [.int .i64 0,.int .i64 0] 23,none,[]⟩,
 ⟨none,.st (.t 1) (.t 19) 2,none,[]⟩,
 ⟨some 2,.mv (.t 20),none,[]⟩])
 (.seq (.reg [
 ⟨some 22,.call 52 [],none,[]⟩,
 ⟨some 23,.call 53 [],none,[]⟩,
 ⟨some 24,.call 16 [.t 22,.t 23],none,[]⟩,
 ⟨some 21,.mv (.t 24),none,[]⟩,
 ⟨some 25,.ext (.t 21) 0,none,[]⟩,
 ⟨some 26,.ext (.t 21) 1,none,[]⟩,
 ⟨some 3,.alloc [.int .i64 0,.int .i64 0] 23,none,[]⟩,
 ⟨none,.st (.t 3) (.t 25) 2,none,[]⟩,
 ⟨some 4,.mv (.t 26),none,[]⟩])
 (.seq (.reg [
 ⟨some 28,.call 52 [],none,[]⟩,
 ⟨some 29,.call 54 [],none,[]⟩,
 ⟨some 30,.call 18 [.t 28,.c (.bool false),.t 29],none,[]⟩,
 ⟨some 27,.mv (.t 30),none,[]⟩,
 ⟨some 31,.ext (.t 27) 0,none,[]⟩,
 ⟨some 32,.ext (.t 27) 1,none,[]⟩,
 ⟨some 33,.ext (.t 27) 2,none,[]⟩,
 ⟨some 5,.alloc [.int .i64 0,.int .i64 0] 23,none,[]⟩,
 ⟨some 6,.alloc [.int .i64 0,.int .i64 0] 23,none,[]⟩,
 ⟨none,.st (.t 5) (.t 31) 2,none,[]⟩,
 ⟨none,.st (.t 6) (.t 32) 2,none,[]⟩,
 ⟨some 7,.mv (.t 33),none,[]⟩])
 (.seq (.reg [
 ⟨some 35,.call 52 [],none,[]⟩,
 ⟨some 36,.call 53 [],none,[]⟩,
 ⟨some 37,.call 54 [],none,[]⟩,
 ⟨some 38,.call 29 [.t 35,.t 36,.t 37],none,[]⟩,
 ⟨some 34,.mv (.t 38),none,[]⟩,
 ⟨some 39,.ext (.t 34) 0,none,[]⟩,
 ⟨some 40,.ext (.t 34) 1,none,[]⟩,
 ⟨some 41,.ext (.t 34) 2,none,[]⟩,
 ⟨some 8,.alloc [.int .i64 0,.int .i64 0,.int .i64 0,.int .i64 0,.int .i64 0,.int .i64 0,.bool false] 27,none,[]⟩,
 ⟨none,.st (.t 8) (.t 39) 7,none,[]⟩,
 ⟨some 9,.mv (.t 40),none,[]⟩,
 ⟨some 10,.mv (.t 41),none,[]⟩])
 (.seq (.reg [
 ⟨some 43,.call 52 [],none,[]⟩,
 ⟨some 44,.call 53 [],none,[]⟩,
 ⟨some 45,.call 54 [],none,[]⟩,
 ⟨some 46,.call 33 [.t 43,.t 44,.t 45],none,[]⟩,
 ⟨some 42,.mv (.t 46),none,[]⟩,
 ⟨some 47,.ext (.t 42) 0,none,[]⟩,
 ⟨some 48,.ext (.t 42) 1,none,[]⟩,
 ⟨some 11,.alloc [.int .i64 0,.int .i64 0] 23,none,[]⟩,
 ⟨none,.st (.t 11) (.t 47) 2,none,[]⟩,
 ⟨some 12,.mv (.t 48),none,[]⟩])
 (.seq (.reg [
 ⟨some 50,.bsl 1 3 [.c (.int .i64 0)],none,[]⟩,
 ⟨some 51,.call 51 [],none,[]⟩,
 ⟨some 52,.call 48 [.c (.int .i64 3),.c (.int .i64 5)],none,[]⟩,
 ⟨some 53,.call 35 [.c (.int .i64 3),.t 50,.t 51,.t 52,.c (.int .i64 8)],none,[]⟩,
 ⟨some 49,.mv (.t 53),none,[]⟩,
 ⟨some 54,.ext (.t 49) 0,none,[]⟩,
 ⟨some 55,.ext (.t 49) 1,none,[]⟩,
 ⟨some 13,.mv (.t 54),none,[]⟩,
 ⟨some 14,.mv (.t 55),none,[]⟩])
 (.seq (.regd [0,1,2,3,4,5,6,7,8,9,10,11,12,13,14,15,16,17,18,19,20,21,22,23,24,25,26,27,28,29,30,31,32,33,34,35,36,37,38,39,40,41,42,43,44,45,46,47,48,49,50,51,52,53,54,55,56,57,58,59,60,61,62,63,64] [
 .op ⟨some 56,.mv (.t 2),none,[]⟩,
 .op ⟨some 57,.bin .eql (.t 56) (.c (.int .i64 0)),none,[0]⟩,
 .op ⟨some 58,.mv (.t 57),none,[1]⟩,
 .op ⟨some 59,.ld (.t 1) 2 true,some (58,true),[2]⟩,
 .op ⟨some 60,.call 48 [.c (.int .i64 800),.c (.int .i64 1000)],some (58,true),[2]⟩,
 .op ⟨some 61,.eqs false true [1,1] (.t 59) (.t 60),some (58,true),[2,3,4]⟩,
 .op ⟨some 62,.pick (.t 58) (.t 61) (.c (.bool false)),none,[2,5]⟩,
 .op ⟨some 63,.mv (.t 62),none,[4,6]⟩,
 .op ⟨some 64,.mv (.t 4),some (63,true),[7]⟩,
 .op ⟨some 65,.bin .eql (.t 64) (.c (.int .i64 0)),some (63,true),[7,8]⟩,
 .op ⟨some 66,.pick (.t 63) (.t 65) (.c (.bool false)),none,[7,9]⟩,
 .op ⟨some 67,.mv (.t 66),none,[7,10]⟩,
 .op ⟨some 68,.ld (.t 3) 2 true,some (67,true),[11]⟩,
 .op ⟨some 69,.call 48 [.c (.int .i64 120000),.c (.int .i64 200000)],some (67,true),[11]⟩,
 .op ⟨some 70,.eqs false true [1,1] (.t 68) (.t 69),some (67,true),[11,12,13]⟩,
 .op ⟨some 71,.pick (.t 67) (.t 70) (.c (.bool false)),none,[11,14]⟩,
 .op ⟨some 72,.mv (.t 71),none,[13,15]⟩,
 .op ⟨some 73,.mv (.t 7),some (72,true),[16]⟩,
 .op ⟨some 74,.bin .eql (.t 73) (.c (.int .i64 0)),some (72,true),[16,17]⟩,
 .op ⟨some 75,.pick (.t 72) (.t 74) (.c (.bool false)),none,[16,18]⟩,
 .op ⟨some 76,.mv (.t 75),none,[16,19]⟩,
 .op ⟨some 77,.ld (.t 5) 2 true,some (76,true),[20]⟩,
 .op ⟨some 78,.call 48 [.c (.int .i64 7000),.c (.int .i64 9500)],some (76,true),[20]⟩,
 .op ⟨some 79,.eqs false true [1,1] (.t 77) (.t 78),some (76,true),[20,21,22]⟩,
 .op ⟨some 80,.pick (.t 76) (.t 79) (.c (.bool false)),none,[20,23]⟩,
 .op ⟨some 81,.mv (.t 80),none,[22,24]⟩,
 .op ⟨some 82,.ld (.t 6) 2 true,some (81,true),[25]⟩,
 .op ⟨some 83,.call 48 [.c (.int .i64 800),.c (.int .i64 1000)],some (81,true),[25]⟩,
 .op ⟨some 84,.eqs false true [1,1] (.t 82) (.t 83),some (81,true),[25,26,27]⟩,
 .op ⟨some 85,.pick (.t 81) (.t 84) (.c (.bool false)),none,[25,28]⟩,
 .op ⟨some 86,.mv (.t 85),none,[27,29]⟩,
 .op ⟨some 87,.mv (.t 10),some (86,true),[30]⟩,
 .op ⟨some 88,.bin .eql (.t 87) (.c (.int .i64 0)),some (86,true),[30,31]⟩,
 .op ⟨some 89,.pick (.t 86) (.t 88) (.c (.bool false)),none,[30,32]⟩,
 .op ⟨some 90,.mv (.t 89),none,[30,33]⟩,
 .op ⟨some 91,.mv (.t 9),some (90,true),[34]⟩,
 .op ⟨some 92,.bin .eql (.t 91) (.c (.int .u8 0)),some (90,true),[34,35]⟩,
 .op ⟨some 93,.pick (.t 90) (.t 92) (.c (.bool false)),none,[34,36]⟩,
 .op ⟨some 94,.mv (.t 93),none,[34,37]⟩,
 .op ⟨some 95,.ld (.t 8) 7 true,some (94,true),[38]⟩,
 .op ⟨some 96,.call 48 [.c (.int .i64 50500),.c (.int .i64 63000)],some (94,true),[38]⟩,
 .op ⟨some 97,.call 48 [.c (.int .i64 19000),.c (.int .i64 29200)],some (94,true),[38,40]⟩,
 .op ⟨some 98,.call 48 [.c (.int .i64 100),.c (.int .i64 300)],some (94,true),[38,41]⟩,
 .op ⟨some 99,.build [.int .i64 0,.int .i64 0,.int .i64 0,.int .i64 0,.int .i64 0,.int .i64 0,.bool false] [(0,2,.t 96),(2,2,.t 97),(4,2,.t 98)],some (94,true),[38,40,41,42]⟩,
 .op ⟨some 100,.eqs false true [1,1,1,1,1,1,0] (.t 95) (.t 99),some (94,true),[38,39,43]⟩,
 .op ⟨some 101,.pick (.t 94) (.t 100) (.c (.bool false)),none,[38,44]⟩,
 .op ⟨some 102,.mv (.t 101),none,[42,45]⟩,
 .op ⟨some 103,.mv (.t 12),some (102,true),[46]⟩,
 .op ⟨some 104,.bin .eql (.t 103) (.c (.int .i64 0)),some (102,true),[46,47]⟩,
 .op ⟨some 105,.pick (.t 102) (.t 104) (.c (.bool false)),none,[46,48]⟩,
 .op ⟨some 106,.mv (.t 105),none,[46,49]⟩,
 .op ⟨some 107,.ld (.t 11) 2 true,some (106,true),[50]⟩,
 .op ⟨some 108,.call 48 [.c (.int .i64 6),.c (.int .i64 10)],some (106,true),[50]⟩,
 .op ⟨some 109,.eqs false true [1,1] (.t 107) (.t 108),some (106,true),[50,51,52]⟩,
 .op ⟨some 110,.pick (.t 106) (.t 109) (.c (.bool false)),none,[50,53]⟩,
 .op ⟨some 111,.mv (.t 110),none,[52,54]⟩,
 .op ⟨some 112,.mv (.t 14),some (111,true),[55]⟩,
 .op ⟨some 113,.bin .eql (.t 112) (.c (.int .i64 0)),some (111,true),[55,56]⟩,
 .op ⟨some 114,.pick (.t 111) (.t 113) (.c (.bool false)),none,[55,57]⟩,
 .op ⟨some 115,.mv (.t 114),none,[55,58]⟩,
 .op ⟨some 116,.mv (.t 13),some (115,true),[59]⟩] 0 0 [
 ⟨some 117,.raw (Go.Op.convert 67 9 (Go.Operand.tmp 116)) 9,some (115,true),[59,60]⟩,
 ⟨some 118,.raw (Go.Op.binOp Go.BinOp.eql 9 (Go.Operand.tmp 117) (Go.Operand.const (Go.Value.string { data:=#[2,1,0] })) 9) 4,some (115,true),[59,61]⟩,
 ⟨some 119,.pick (.t 115) (.t 118) (.c (.bool false)),none,[59,62]⟩,
 ⟨some 0,.mv (.t 119),none,[0,1,2,3,4,5,6,7,8,9,10,11,12,13,14,15,16,17,18,19,20,21,22,23,24,25,26,27,28,29,30,31,32,33,34,35,36,37,38,39,40,41,42,43,44,45,46,47,48,49,50,51,52,53,54,55,56,57,58,59,60,61,62,63]⟩])
 .ret))))))))
def r38:List RV:=[.tmp 0]
theorem n38:Try.f38.ntmps = 120:=by kernel_rfl
theorem b38:bodyB Try.prog 38 = true:=by kernel_rfl
theorem c38_ok:cmpC Try.prog c38 ((Try.f38.body).getD .skip) = true:=by kernel_rfl
theorem r38_ok:cmpR Try.prog r38 Try.f38.results.toList = true:=by kernel_rfl
theorem t38 {args:List SV} {res:SV} (ka:KFL args) (kr:KF res) (h:sx Try.prog Y0 0 c38 (st0 args 120) (retK r38 res)) (hA:Nat.ble args.length 120 = true:=by rfl):Ct Try.prog 38 args res:=ct_intro Try.func38 rfl b38 c38_ok r38_ok n38 (Nat.le_of_ble_eq_true hA) ka kr h
def c48:SC:=(.seq (.reg [
 ⟨some 4,.alloc [.int .i64 0,.int .i64 0] 23,none,[]⟩])
 (.seq (.reg [
 ⟨some 5,.mv (.t 0),none,[]⟩,
 ⟨some 6,.mv (.t 1),none,[]⟩,
 ⟨some 7,.build [.int .i64 0,.int .i64 0] [(0,1,.t 5),(1,1,.t 6)],none,[]⟩,
 ⟨none,.st (.t 4) (.t 7) 2,none,[]⟩])
 .ret))
def r48:List RV:=[.cell 4 2 true]
theorem n48:Try.f48.ntmps = 8:=by kernel_rfl
theorem b48:bodyB Try.prog 48 = true:=by kernel_rfl
theorem c48_ok:cmpC Try.prog c48 ((Try.f48.body).getD .skip) = true:=by kernel_rfl
theorem r48_ok:cmpR Try.prog r48 Try.f48.results.toList = true:=by kernel_rfl
theorem t48 {args:List SV} {res:SV} (ka:KFL args) (kr:KF res) (h:sx Try.prog Y0 0 c48 (st0 args 8) (retK r48 res)) (hA:Nat.ble args.length 8 = true:=by rfl):Ct Try.prog 48 args res:=ct_intro Try.func48 rfl b48 c48_ok r48_ok n48 (Nat.le_of_ble_eq_true hA) ka kr h
def c51:SC:=(.seq (.reg [
 ⟨some 0,.mv (.c (.slice none 0 0)),none,[]⟩])
 (.seq (.reg [
 ⟨some 1,.build [.int .i64 0,.int .i64 0,.int .i64 0,.bool false] [(0,1,.c (.int .i64 0)),(1,1,.c (.int .i64 1)),(2,1,.c (.int .i64 5))],none,[]⟩,
 ⟨some 2,.build [.int .i64 0,.int .i64 0,.int .i64 0,.bool false] [(0,1,.c (.int .i64 1)),(1,1,.c (.int .i64 2)),(2,1,.c (.int .i64 9)),(3,1,.c (.bool true))],none,[]⟩,
 ⟨some 3,.bsl 4 73 [.t 1,.t 2],none,[]⟩,
 ⟨some 0,.mv (.t 3),none,[]⟩])
 .ret))
def r51:List RV:=[.tmp 0]
theorem n51:Try.f51.ntmps = 4:=by kernel_rfl
theorem b51:bodyB Try.prog 51 = true:=by kernel_rfl
theorem c51_ok:cmpC Try.prog c51 ((Try.f51.body).getD .skip) = true:=by kernel_rfl
theorem r51_ok:cmpR Try.prog r51 Try.f51.results.toList = true:=by kernel_rfl
theorem t51 {args:List SV} {res:SV} (ka:KFL args) (kr:KF res) (h:sx Try.prog Y0 0 c51 (st0 args 4) (retK r51 res)) (hA:Nat.ble args.length 4 = true:=by rfl):Ct Try.prog 51 args res:=ct_intro Try.func51 rfl b51 c51_ok r51_ok n51 (Nat.le_of_ble_eq_true hA) ka kr h
def c52:SC:=(.seq (.reg [
 ⟨some 0,.alloc [.int .i64 0,.int .i64 0,.int .i64 0,.int .i64 0,.int .i64 0,.int .i64 0,.int .i64 0,.int .i64 0,.int .i64 0,.int .i64 0,.int .i64 0,.int .i64 0,.int .i64 0,.int .i64 0,.int .i64 0,.int .i64 0,.int .i64 0] 25,none,[]⟩])
 (.seq (.reg [
 ⟨some 1,.call 48 [.c (.int .i64 2000),.c (.int .i64 2500)],none,[]⟩,
 ⟨some 2,.call 48 [.c (.int .i64 100),.c (.int .i64 100)],none,[]⟩,
 ⟨some 3,.call 48 [.c (.int .i64 200),.c (.int .i64 250)],none,[]⟩,
 ⟨some 4,.call 48 [.c (.int .i64 40),.c (.int .i64 50)],none,[]⟩,
 ⟨some 5,.call 48 [.c (.int .i64 100),.c (.int .i64 200)],none,[]⟩,
 ⟨some 6,.call 48 [.c (.int .i64 1000),.c (.int .i64 1500)],none,[]⟩,
 ⟨some 7,.call 48 [.c (.int .i64 150000),.c (.int .i64 200000)],none,[]⟩,
 ⟨some 8,.build [.int .i64 0,.int .i64 0,.int .i64 0,.int .i64 0,.int .i64 0,.int .i64 0,.int .i64 0,.int .i64 0,.int .i64 0,.int .i64 0,.int .i64 0,.int .i64 0,.int .i64 0,.int .i64 0,.int .i64 0,.int .i64 0,.int .i64 0] [(0,1,.c (.int .i64 100000)),(1,1,.c (.int .i64 50000)),(2,2,.t 1),(4,2,.t 2),(6,2,.t 3),(8,2,.t 4),(10,2,.t 5),(12,2,.t 6),(14,1,.c (.int .i64 50)),(15,2,.t 7)],none,[]⟩,
 ⟨none,.st (.t 0) (.t 8) 17,none,[]⟩])
 .ret))
def r52:List RV:=[.cell 0 17 true]
theorem n52:Try.f52.ntmps = 9:=by kernel_rfl
theorem b52:bodyB Try.prog 52 = true:=by kernel_rfl
theorem c52_ok:cmpC Try.prog c52 ((Try.f52.body).getD .skip) = true:=by kernel_rfl
theorem r52_ok:cmpR Try.prog r52 Try.f52.results.toList = true:=by kernel_rfl
theorem t52 {args:List SV} {res:SV} (ka:KFL args) (kr:KF res) (h:sx Try.prog Y0 0 c52 (st0 args 9) (retK r52 res)) (hA:Nat.ble args.length 9 = true:=by rfl):Ct Try.prog 52 args res:=ct_intro Try.func52 rfl b52 c52_ok r52_ok n52 (Nat.le_of_ble_eq_true hA) ka kr h
def c53:SC:=(.seq (.reg [
 ⟨some 0,.alloc [.int .i64 0,.int .i64 0,.int .i64 0,.int .i64 0,.int .i64 0,.int .i64 0,.bool false] 27,none,[]⟩])
 (.seq (.reg [
 ⟨some 1,.call 48 [.c (.int .i64 60000),.c (.int .i64 70000)],none,[]⟩,
 ⟨some 2,.call 48 [.c (.int .i64 20000),.c (.int .i64 30000)],none,[]⟩,
 ⟨some 3,.call 48 [.c (.int .i64 0),.c (.int .i64 100)],none,[]⟩,
 ⟨some 4,.build [.int .i64 0,.int .i64 0,.int .i64 0,.int .i64 0,.int .i64 0,.int .i64 0,.bool false] [(0,2,.t 1),(2,2,.t 2),(4,2,.t 3)],none,[]⟩,
 ⟨none,.st (.t 0) (.t 4) 7,none,[]⟩])
 .ret))
def r53:List RV:=[.cell 0 7 true]
theorem n53:Try.f53.ntmps = 5:=by kernel_rfl
theorem b53:bodyB Try.prog 53 = true:=by kernel_rfl
theorem c53_ok:cmpC Try.prog c53 ((Try.f53.body).getD .skip) = true:=by kernel_rfl
theorem r53_ok:cmpR Try.prog r53 Try.f53.results.toList = true:=by kernel_rfl
theorem t53 {args:List SV} {res:SV} (ka:KFL args) (kr:KF res) (h:sx Try.prog Y0 0 c53 (st0 args 5) (retK r53 res)) (hA:Nat.ble args.length 5 = true:=by rfl):Ct Try.prog 53 args res:=ct_intro Try.func53 rfl b53 c53_ok r53_ok n53 (Nat.le_of_ble_eq_true hA) ka kr h
def c54:SC:=(.seq (.reg [
 ⟨some 0,.alloc [.int .i64 0,.int .i64 0,.int .i64 0,.int .i64 0,.int .i64 0,.int .i64 0,.int .i64 0,.int .i64 0] 29,none,[]⟩])
 (.seq (.reg [
 ⟨some 1,.call 48 [.c (.int .i64 30),.c (.int .i64 40)],none,[]⟩,
 ⟨some 2,.build [.int .i64 0,.int .i64 0,.int .i64 0,.int .i64 0,.int .i64 0,.int .i64 0,.int .i64 0,.int .i64 0] [(0,1,.c (.int .i64 10)),(1,1,.c (.int .i64 100000)),(2,2,.t 1)],none,[]⟩,
 ⟨none,.st (.t 0) (.t 2) 8,none,[]⟩])
 .ret))
def r54:List RV:=[.cell 0 8 true]
theorem n54:Try.f54.ntmps = 3:=by kernel_rfl
theorem b54:bodyB Try.prog 54 = true:=by kernel_rfl
theorem c54_ok:cmpC Try.prog c54 ((Try.f54.body).getD .skip) = true:=by kernel_rfl
theorem r54_ok:cmpR Try.prog r54 Try.f54.results.toList = true:=by kernel_rfl
theorem t54 {args:List SV} {res:SV} (ka:KFL args) (kr:KF res) (h:sx Try.prog Y0 0 c54 (st0 args 3) (retK r54 res)) (hA:Nat.ble args.length 3 = true:=by rfl):Ct Try.prog 54 args res:=ct_intro Try.func54 rfl b54 c54_ok r54_ok n54 (Nat.le_of_ble_eq_true hA) ka kr h
end Go.Proofs.Ytnlfjchbhgikaaa
set_option maxRecDepth 100000
set_option maxHeartbeats 4000000
namespace Go.Azalai
def W32:={n:Int // 0 ≤ n ∧ n < 4294967296}
def atF (l:List W32) (i:Nat):Int:=match l[i % l.length]? with | some x=>x.val | none=>0
def breedE:Breed:=⟨100000,50000,⟨2000,2500⟩,⟨100,100⟩,⟨200,250⟩,⟨40,50⟩,⟨100,200⟩,⟨1000,1500⟩,50,⟨150000,200000⟩⟩
def animalE:Camel:=⟨⟨60000,70000⟩,⟨20000,30000⟩,⟨0,100⟩,false⟩
def dayE:March:=⟨10,100000,⟨30,40⟩,⟨0,0⟩,⟨0,0⟩⟩
def readyF (b:Breed) (c:Camel) (l:List March):Bool:=decide (errC b c = 0) && decide (l.length ≤ 60) && l.all okMarch
end Go.Azalai
namespace Go.Proofs.Ytnlfjchbhgikaaa
open Go Go.Sx Go.Azalai
def U32 (n:Int):SV:=.v (.int .u32 n)
def w32L (x:W32):List SV:=[U32 x.val]
theorem span_ok (lo hi:Int):Ct Try.prog 48 [I lo,I hi] (.agg [I lo,I hi]):=by
 refine t48 (by simp [KFL,KF]) (by simp [KFL,KF]) ?_
 dsimp only [c48,r48,go_sem,rA,rM,rS]
theorem breedE_ok:Ct Try.prog 52 [] (.agg (breedL breedE)):=by
 refine t52 (by simp [KFL,KF]) (by simp [breedL,KFL,KF]) ?_
 dsimp only [c52,r52,go_sem,rA,rM,rS]
 repeat (first | (refine call (span_ok _ _) ?_;dsimp only [go_sem,rA,rM,rS]))
 rfl
theorem animalE_ok:Ct Try.prog 53 [] (.agg (camelL animalE)):=by
 refine t53 (by simp [KFL,KF]) (by simp [camelL,KFL,KF]) ?_
 dsimp only [c53,r53,go_sem,rA,rM,rS]
 repeat (first | (refine call (span_ok _ _) ?_;dsimp only [go_sem,rA,rM,rS]))
 rfl
theorem dayE_ok:Ct Try.prog 54 [] (.agg (marchL dayE)):=by
 refine t54 (by simp [KFL,KF]) (by simp [marchL,KFL,KF]) ?_
 dsimp only [c54,r54,go_sem,rA,rM,rS]
 repeat (first | (refine call (span_ok _ _) ?_;dsimp only [go_sem,rA,rM,rS]))
 rfl
end Go.Proofs.Ytnlfjchbhgikaaa
