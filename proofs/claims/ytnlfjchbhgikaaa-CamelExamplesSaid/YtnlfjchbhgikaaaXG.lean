/- Walks and plain laws that lead to the given statement, part 7 of 8. -/
import Derived.Test.YtnlfjchbhgikaaaXF
import Derived.Test.YtnlfjchbhgikaaaProg
import Derived.MapKept
import Derived.WideKeyRuns
open Nat renaming reduceAdd→rA,reduceMul→rM,reduceSub→rS,beq_refl→nbr
set_option maxRecDepth 100000
namespace Go.Proofs.Ytnlfjchbhgikaaa
open Go Go.Sx
def c13:SC:=(.seq (.reg [
 ⟨some 0,.mv (.c (.bool false)),none,[]⟩])
 (.seq (.seq (.reg [
 ⟨some 24,.mv (.c (.bool false)),none,[]⟩,
 ⟨some 25,.call 38 [],some (24,false),[]⟩,
 ⟨some 26,.un .not (.t 25),some (24,false),[]⟩,
 ⟨some 27,.pick (.t 24) (.c (.bool true)) (.t 26),none,[]⟩])
 (.cond (.t 27)
 (.seq (.reg [
  ⟨some 0,.mv (.c (.bool false)),none,[]⟩])
  .ret)
 .skip))
 (.seq (.reg [
 ⟨some 29,.bsl 1 3 [.c (.int .i64 0)],none,[]⟩,
 ⟨some 30,.call 51 [],none,[]⟩,
 ⟨some 31,.call 48 [.c (.int .i64 3),.c (.int .i64 5)],none,[]⟩,
 ⟨some 32,.call 35 [.c (.int .i64 3),.t 29,.t 30,.t 31,.c (.int .i64 7)],none,[]⟩,
 ⟨some 28,.mv (.t 32),none,[]⟩,
 ⟨some 33,.ext (.t 28) 0,none,[]⟩,
 ⟨some 34,.ext (.t 28) 1,none,[]⟩,
 ⟨some 1,.mv (.t 33),none,[]⟩,
 ⟨some 2,.mv (.t 34),none,[]⟩])
 (.seq (.reg [
 ⟨some 36,.bsl 1 3 [.c (.int .i64 0)],none,[]⟩,
 ⟨some 37,.call 51 [],none,[]⟩,
 ⟨some 38,.call 48 [.c (.int .i64 3),.c (.int .i64 5)],none,[]⟩,
 ⟨some 39,.call 35 [.c (.int .i64 3),.t 36,.t 37,.t 38,.c (.int .i64 12)],none,[]⟩,
 ⟨some 35,.mv (.t 39),none,[]⟩,
 ⟨some 40,.ext (.t 35) 0,none,[]⟩,
 ⟨some 41,.ext (.t 35) 1,none,[]⟩,
 ⟨some 3,.mv (.t 40),none,[]⟩,
 ⟨some 4,.mv (.t 41),none,[]⟩])
 (.seq (.reg [
 ⟨some 43,.call 52 [],none,[]⟩,
 ⟨some 44,.call 53 [],none,[]⟩,
 ⟨some 45,.call 53 [],none,[]⟩,
 ⟨some 46,.bsl 7 27 [.t 44,.t 45],none,[]⟩,
 ⟨some 47,.call 26 [.t 43,.t 46],none,[]⟩,
 ⟨some 42,.mv (.t 47),none,[]⟩,
 ⟨some 48,.ext (.t 42) 0,none,[]⟩,
 ⟨some 49,.ext (.t 42) 1,none,[]⟩,
 ⟨some 5,.alloc [.int .i64 0,.int .i64 0] 23,none,[]⟩,
 ⟨none,.st (.t 5) (.t 48) 2,none,[]⟩,
 ⟨some 6,.mv (.t 49),none,[]⟩])
 (.seq (.reg [
 ⟨some 51,.call 52 [],none,[]⟩,
 ⟨some 52,.call 53 [],none,[]⟩,
 ⟨some 53,.call 54 [],none,[]⟩,
 ⟨some 54,.bsl 8 29 [.t 53],none,[]⟩,
 ⟨some 55,.call 24 [.t 51,.t 52,.t 54],none,[]⟩,
 ⟨some 50,.mv (.t 55),none,[]⟩,
 ⟨some 56,.ext (.t 50) 0,none,[]⟩,
 ⟨some 57,.ext (.t 50) 1,none,[]⟩,
 ⟨some 7,.mv (.t 56),none,[]⟩,
 ⟨some 8,.mv (.t 57),none,[]⟩])
 (.seq (.seq (.regs [0,1,2,3,4,5,6,7,8,9,10,11,12,13,14,15,16,17,18,19,20,21,22,23,24,25,26,27,28,29,30,31,32] ⟨[
 .op ⟨some 58,.mv (.t 2),none,[]⟩],0,0,[
]⟩ [⟨[
 .op ⟨some 59,.bin .neq (.t 58) (.c (.int .i64 0)),none,[0]⟩],0,0,[
]⟩,⟨[
 .op ⟨some 60,.mv (.t 59),none,[1]⟩],0,0,[
]⟩,⟨[
 .op ⟨some 61,.mv (.t 1),some (60,false),[2]⟩],0,0,[
]⟩,⟨[
],0,0,[
 ⟨some 62,.raw (Go.Op.convert 67 9 (Go.Operand.tmp 61)) 9,some (60,false),[2,3]⟩]⟩,⟨[
],0,0,[
 ⟨some 63,.raw (Go.Op.binOp Go.BinOp.neq 9 (Go.Operand.tmp 62) (Go.Operand.const (Go.Value.string { data:=#[2,0,0] })) 9) 4,some (60,false),[2,4]⟩]⟩,⟨[
 .op ⟨some 64,.pick (.t 60) (.c (.bool true)) (.t 63),none,[2,5]⟩],0,0,[
]⟩,⟨[
 .op ⟨some 65,.mv (.t 64),none,[2,6]⟩],0,0,[
]⟩,⟨[
 .op ⟨some 66,.mv (.t 4),some (65,false),[7]⟩],0,0,[
]⟩,⟨[
 .op ⟨some 67,.bin .neq (.t 66) (.c (.int .i64 0)),some (65,false),[7,8]⟩],0,0,[
]⟩,⟨[
 .op ⟨some 68,.pick (.t 65) (.c (.bool true)) (.t 67),none,[7,9]⟩],0,0,[
]⟩,⟨[
 .op ⟨some 69,.mv (.t 68),none,[7,10]⟩],0,0,[
]⟩,⟨[
 .op ⟨some 70,.mv (.t 3),some (69,false),[11]⟩],0,0,[
]⟩,⟨[
],0,0,[
 ⟨some 71,.raw (Go.Op.convert 67 9 (Go.Operand.tmp 70)) 9,some (69,false),[11,12]⟩]⟩,⟨[
],0,0,[
 ⟨some 72,.raw (Go.Op.binOp Go.BinOp.neq 9 (Go.Operand.tmp 71) (Go.Operand.const (Go.Value.string { data:=#[2,1,1] })) 9) 4,some (69,false),[11,13]⟩]⟩,⟨[
 .op ⟨some 73,.pick (.t 69) (.c (.bool true)) (.t 72),none,[11,14]⟩,
 .op ⟨some 74,.mv (.t 73),none,[11,15]⟩,
 .op ⟨some 75,.mv (.t 6),some (74,false),[16]⟩,
 .op ⟨some 76,.bin .neq (.t 75) (.c (.int .i64 0)),some (74,false),[16,17]⟩,
 .op ⟨some 77,.pick (.t 74) (.c (.bool true)) (.t 76),none,[16,18]⟩,
 .op ⟨some 78,.mv (.t 77),none,[16,19]⟩,
 .op ⟨some 79,.ld (.t 5) 2 true,some (78,false),[20]⟩,
 .op ⟨some 80,.call 48 [.c (.int .i64 60000),.c (.int .i64 80000)],some (78,false),[20]⟩,
 .op ⟨some 81,.eqs true true [1,1] (.t 79) (.t 80),some (78,false),[20,21,22]⟩,
 .op ⟨some 82,.pick (.t 78) (.c (.bool true)) (.t 81),none,[20,23]⟩,
 .op ⟨some 83,.mv (.t 82),none,[22,24]⟩,
 .op ⟨some 84,.mv (.t 8),some (83,false),[25]⟩,
 .op ⟨some 85,.bin .neq (.t 84) (.c (.int .i64 0)),some (83,false),[25,26]⟩,
 .op ⟨some 86,.pick (.t 83) (.c (.bool true)) (.t 85),none,[25,27]⟩,
 .op ⟨some 87,.mv (.t 86),none,[25,28]⟩,
 .op ⟨some 88,.mv (.t 7),some (87,false),[29]⟩,
 .op ⟨some 89,.bin .neq (.t 88) (.c (.int .i64 120000)),some (87,false),[29,30]⟩,
 .op ⟨some 90,.pick (.t 87) (.c (.bool true)) (.t 89),none,[29,31]⟩],0,0,[
]⟩])
 (.cond (.t 90)
 (.seq (.reg [
  ⟨some 0,.mv (.c (.bool false)),none,[]⟩])
  .ret)
 .skip))
 (.seq (.reg [
 ⟨some 91,.call 53 [],none,[]⟩,
 ⟨some 9,.alloc [.int .i64 0,.int .i64 0,.int .i64 0,.int .i64 0,.int .i64 0,.int .i64 0,.bool false] 27,none,[]⟩,
 ⟨none,.st (.t 9) (.t 91) 7,none,[]⟩])
 (.seq (.reg [
 ⟨some 92,.call 48 [.c (.int .i64 0),.c (.int .i64 6999)],none,[]⟩,
 ⟨some 93,.addo (.t 9) 0,none,[]⟩,
 ⟨none,.st (.t 93) (.t 92) 2,none,[]⟩])
 (.seq (.reg [
 ⟨some 95,.build [.int .i64 0,.int .i64 0,.int .i64 0,.int .i64 0,.int .i64 0,.int .i64 0,.int .i64 0,.int .i64 0,.int .i64 0,.int .i64 0,.int .i64 0,.int .i64 0,.int .i64 0,.int .i64 0,.int .i64 0,.int .i64 0,.int .i64 0] [],none,[]⟩,
 ⟨some 96,.ld (.t 9) 7 true,none,[]⟩,
 ⟨some 97,.call 14 [.t 95,.t 96],none,[]⟩,
 ⟨some 94,.mv (.t 97),none,[]⟩,
 ⟨some 98,.ext (.t 94) 0,none,[]⟩,
 ⟨some 99,.ext (.t 94) 1,none,[]⟩,
 ⟨some 2,.mv (.t 99),none,[]⟩])
 (.seq (.reg [
 ⟨some 101,.call 52 [],none,[]⟩,
 ⟨some 102,.call 48 [.c (.int .i64 0),.c (.int .i64 1001)],none,[]⟩,
 ⟨some 103,.build [.int .i64 0,.int .i64 0,.int .i64 0,.int .i64 0,.int .i64 0,.int .i64 0,.bool false] [(4,2,.t 102)],none,[]⟩,
 ⟨some 104,.call 14 [.t 101,.t 103],none,[]⟩,
 ⟨some 100,.mv (.t 104),none,[]⟩,
 ⟨some 105,.ext (.t 100) 0,none,[]⟩,
 ⟨some 106,.ext (.t 100) 1,none,[]⟩,
 ⟨some 4,.mv (.t 106),none,[]⟩])
 (.seq (.reg [
 ⟨some 108,.call 52 [],none,[]⟩,
 ⟨some 109,.build [.int .i64 0,.int .i64 0,.int .i64 0,.int .i64 0,.int .i64 0,.int .i64 0,.int .i64 0,.int .i64 0] [(0,1,.c (.int .i64 25))],none,[]⟩,
 ⟨some 110,.call 18 [.t 108,.c (.bool false),.t 109],none,[]⟩,
 ⟨some 107,.mv (.t 110),none,[]⟩,
 ⟨some 111,.ext (.t 107) 0,none,[]⟩,
 ⟨some 112,.ext (.t 107) 1,none,[]⟩,
 ⟨some 113,.ext (.t 107) 2,none,[]⟩,
 ⟨some 6,.mv (.t 113),none,[]⟩])
 (.seq (.regd [0,1,2,3,4,5,6,7,8] [
 .op ⟨some 115,.call 52 [],none,[]⟩,
 .op ⟨some 116,.ld (.t 9) 7 true,none,[]⟩,
 .op ⟨some 117,.call 54 [],none,[0]⟩,
 .op ⟨some 118,.call 29 [.t 115,.t 116,.t 117],none,[0,1,2]⟩,
 .op ⟨some 114,.mv (.t 118),none,[3]⟩,
 .op ⟨some 119,.ext (.t 114) 0,none,[4]⟩,
 .op ⟨some 120,.ext (.t 114) 1,none,[4]⟩,
 .op ⟨some 121,.ext (.t 114) 2,none,[4]⟩,
 .op ⟨some 8,.mv (.t 121),none,[0,1,2,3,4,5,6,7]⟩] 0 0 [
])
 (.seq (.regd [0,1,2,3,4,5,6,7,8,9,10,11,12,13,14] [
 .op ⟨some 123,.call 52 [],none,[]⟩,
 .op ⟨some 124,.ld (.t 9) 7 true,none,[]⟩,
 .op ⟨some 125,.build [.int .i64 0,.int .i64 0,.int .i64 0,.int .i64 0,.int .i64 0,.int .i64 0,.int .i64 0,.int .i64 0] [],none,[]⟩,
 .op ⟨some 126,.call 54 [],none,[0]⟩,
 .op ⟨some 127,.bsl 8 29 [.t 125,.t 126],none,[2,3]⟩,
 .op ⟨some 128,.call 31 [.t 123,.t 124,.t 127],none,[0,1,3,4]⟩,
 .op ⟨some 122,.mv (.t 128),none,[5]⟩,
 .op ⟨some 129,.ext (.t 122) 0,none,[6]⟩,
 .op ⟨some 130,.ext (.t 122) 1,none,[6]⟩,
 .op ⟨some 131,.ext (.t 122) 2,none,[6]⟩,
 .op ⟨some 132,.ext (.t 122) 3,none,[6]⟩,
 .op ⟨some 10,.mv (.t 129),none,[0,1,2,3,4,5,6,7]⟩,
 .op ⟨some 11,.mv (.t 130),none,[0,1,2,3,4,5,6,7,8,11]⟩,
 .op ⟨some 12,.mv (.t 131),none,[0,1,2,3,4,5,6,7,8,9,11,12]⟩,
 .op ⟨some 13,.mv (.t 132),none,[0,1,2,3,4,5,6,7,8,9,10,11,12,13]⟩] 0 0 [
])
 (.seq (.regs [0,1,2,3,4,5,6,7,8,9,10,11,12] ⟨[
 .op ⟨some 134,.call 52 [],none,[]⟩,
 .op ⟨some 135,.call 53 [],none,[0]⟩],1,0,[
 ⟨some 136,.mks 8 64 [.int .i64 0,.int .i64 0,.int .i64 0,.int .i64 0,.int .i64 0,.int .i64 0,.int .i64 0,.int .i64 0] 29 (.c (.int .i64 61)),none,[]⟩,
 ⟨some 137,.call 31 [.t 134,.t 135,.t 136],none,[0,1,2]⟩]⟩ [⟨[
 .op ⟨some 133,.mv (.t 137),none,[3]⟩,
 .op ⟨some 138,.ext (.t 133) 0,none,[4]⟩,
 .op ⟨some 139,.ext (.t 133) 1,none,[4]⟩,
 .op ⟨some 140,.ext (.t 133) 2,none,[4]⟩,
 .op ⟨some 141,.ext (.t 133) 3,none,[4]⟩],4,0,[
 ⟨some 14,.mv (.t 138),none,[0,1,2,3,4,5]⟩,
 ⟨some 15,.mv (.t 139),none,[0,1,2,3,4,5,6,9]⟩,
 ⟨some 16,.mv (.t 140),none,[0,1,2,3,4,5,6,7,9,10]⟩,
 ⟨some 17,.mv (.t 141),none,[0,1,2,3,4,5,6,7,8,9,10,11]⟩]⟩])
 (.seq (.reg [
 ⟨some 143,.call 48 [.c (.int .i64 1),.c (.int .i64 1)],none,[]⟩,
 ⟨some 144,.call 35 [.c (.int .i64 0),.c (.slice none 0 0),.c (.slice none 0 0),.t 143,.c (.int .i64 0)],none,[]⟩,
 ⟨some 142,.mv (.t 144),none,[]⟩,
 ⟨some 145,.ext (.t 142) 0,none,[]⟩,
 ⟨some 146,.ext (.t 142) 1,none,[]⟩,
 ⟨some 18,.mv (.t 145),none,[]⟩,
 ⟨some 19,.mv (.t 146),none,[]⟩])
 (.seq (.reg [
 ⟨some 148,.bsl 1 3 [.c (.int .i64 1)],none,[]⟩,
 ⟨some 149,.call 48 [.c (.int .i64 1),.c (.int .i64 1)],none,[]⟩,
 ⟨some 150,.call 35 [.c (.int .i64 1),.t 148,.c (.slice none 0 0),.t 149,.c (.int .i64 0)],none,[]⟩,
 ⟨some 147,.mv (.t 150),none,[]⟩,
 ⟨some 151,.ext (.t 147) 0,none,[]⟩,
 ⟨some 152,.ext (.t 147) 1,none,[]⟩,
 ⟨some 20,.mv (.t 151),none,[]⟩,
 ⟨some 21,.mv (.t 152),none,[]⟩])
 (.seq (.regd [0,1,2,3,4,5,6,7,8,9] [
 .op ⟨some 154,.call 52 [],none,[]⟩,
 .op ⟨some 155,.ld (.t 9) 7 true,none,[]⟩,
 .op ⟨some 156,.call 54 [],none,[0]⟩,
 .op ⟨some 157,.bsl 8 29 [.t 156],none,[2]⟩,
 .op ⟨some 158,.call 24 [.t 154,.t 155,.t 157],none,[0,1,2,3]⟩,
 .op ⟨some 153,.mv (.t 158),none,[4]⟩,
 .op ⟨some 159,.ext (.t 153) 0,none,[5]⟩,
 .op ⟨some 160,.ext (.t 153) 1,none,[5]⟩,
 .op ⟨some 22,.mv (.t 159),none,[0,1,2,3,4,5,6]⟩,
 .op ⟨some 23,.mv (.t 160),none,[0,1,2,3,4,5,6,7,8]⟩] 0 0 [
])
 (.seq (.reg [
 ⟨some 161,.mv (.t 2),none,[]⟩,
 ⟨some 162,.bin .eql (.t 161) (.c (.int .i64 10)),none,[]⟩,
 ⟨some 163,.mv (.t 162),none,[]⟩,
 ⟨some 164,.mv (.t 4),some (163,true),[]⟩,
 ⟨some 165,.bin .eql (.t 164) (.c (.int .i64 11)),some (163,true),[]⟩,
 ⟨some 166,.pick (.t 163) (.t 165) (.c (.bool false)),none,[]⟩,
 ⟨some 167,.mv (.t 166),none,[]⟩,
 ⟨some 168,.mv (.t 6),some (167,true),[]⟩,
 ⟨some 169,.bin .eql (.t 168) (.c (.int .i64 12)),some (167,true),[]⟩,
 ⟨some 170,.pick (.t 167) (.t 169) (.c (.bool false)),none,[]⟩,
 ⟨some 171,.mv (.t 170),none,[]⟩,
 ⟨some 172,.mv (.t 8),some (171,true),[]⟩,
 ⟨some 173,.bin .eql (.t 172) (.c (.int .i64 13)),some (171,true),[]⟩,
 ⟨some 174,.pick (.t 171) (.t 173) (.c (.bool false)),none,[]⟩,
 ⟨some 175,.mv (.t 174),none,[]⟩,
 ⟨some 176,.mv (.t 11),some (175,true),[]⟩,
 ⟨some 177,.bin .eql (.t 176) (.c (.int .u8 2)),some (175,true),[]⟩,
 ⟨some 178,.pick (.t 175) (.t 177) (.c (.bool false)),none,[]⟩,
 ⟨some 179,.mv (.t 178),none,[]⟩,
 ⟨some 180,.mv (.t 12),some (179,true),[]⟩,
 ⟨some 181,.bin .eql (.t 180) (.c (.int .i64 1)),some (179,true),[]⟩,
 ⟨some 182,.pick (.t 179) (.t 181) (.c (.bool false)),none,[]⟩,
 ⟨some 183,.mv (.t 182),none,[]⟩,
 ⟨some 184,.mv (.t 13),some (183,true),[]⟩,
 ⟨some 185,.bin .eql (.t 184) (.c (.int .i64 13)),some (183,true),[]⟩,
 ⟨some 186,.pick (.t 183) (.t 185) (.c (.bool false)),none,[]⟩,
 ⟨some 187,.mv (.t 186),none,[]⟩,
 ⟨some 188,.mv (.t 17),some (187,true),[]⟩,
 ⟨some 189,.bin .eql (.t 188) (.c (.int .i64 4)),some (187,true),[]⟩,
 ⟨some 190,.pick (.t 187) (.t 189) (.c (.bool false)),none,[]⟩,
 ⟨some 191,.mv (.t 190),none,[]⟩,
 ⟨some 192,.mv (.t 19),some (191,true),[]⟩,
 ⟨some 193,.bin .eql (.t 192) (.c (.int .i64 2)),some (191,true),[]⟩,
 ⟨some 194,.pick (.t 191) (.t 193) (.c (.bool false)),none,[]⟩,
 ⟨some 195,.mv (.t 194),none,[]⟩,
 ⟨some 196,.mv (.t 21),some (195,true),[]⟩,
 ⟨some 197,.bin .eql (.t 196) (.c (.int .i64 14)),some (195,true),[]⟩,
 ⟨some 198,.pick (.t 195) (.t 197) (.c (.bool false)),none,[]⟩,
 ⟨some 199,.mv (.t 198),none,[]⟩,
 ⟨some 200,.mv (.t 23),some (199,true),[]⟩,
 ⟨some 201,.bin .eql (.t 200) (.c (.int .i64 13)),some (199,true),[]⟩,
 ⟨some 202,.pick (.t 199) (.t 201) (.c (.bool false)),none,[]⟩,
 ⟨some 0,.mv (.t 202),none,[]⟩])
 .ret)))))))))))))))))))
def r13:List RV:=[.tmp 0]
theorem n13:Try.f13.ntmps = 203:=by kernel_rfl
theorem b13:bodyB Try.prog 13 = true:=by kernel_rfl
theorem c13_ok:cmpC Try.prog c13 ((Try.f13.body).getD .skip) = true:=by kernel_rfl
theorem r13_ok:cmpR Try.prog r13 Try.f13.results.toList = true:=by kernel_rfl
theorem t13 {args:List SV} {res:SV} (ka:KFL args) (kr:KF res) (h:sx Try.prog Y0 0 c13 (st0 args 203) (retK r13 res)) (hA:Nat.ble args.length 203 = true:=by rfl):Ct Try.prog 13 args res:=ct_intro Try.func13 rfl b13 c13_ok r13_ok n13 (Nat.le_of_ble_eq_true hA) ka kr h
end Go.Proofs.Ytnlfjchbhgikaaa
namespace Go.Sx
open Go Go.RowKit
section typed
variable {K V:Type} [DecidableEq K]
def mpS (key:K → Value) (val:V → SV) (L:List (Nat × K × V)):List (Nat × Value × SV):=L.map fun e=>(e.1,key e.2.1,val e.2.2)
def mget (k:K):List (Nat × K × V) → Option V
 | []=>none
 | e :: l=>if e.2.1 = k then some e.2.2 else mget k l
def mset (c:Nat) (k:K) (v:V):List (Nat × K × V) → List (Nat × K × V)
 | []=>[(c,k,v)]
 | e :: l=>if e.2.1 = k then (e.1,k,v) :: l else e :: mset c k v l
def mdel (k:K):List (Nat × K × V) → List (Nat × K × V)
 | []=>[]
 | e :: l=>if e.2.1 = k then l else e :: mdel k l
def mclk (c:Nat) (k:K) (L:List (Nat × K × V)):Nat:=bif (mget k L).isSome then c else c + 1
def fI (k:K):List K → List MapEntry → Nat → Option (Nat × Value)
 | q :: ks,e :: ys,i=>if q = k then some (i,e.val) else fI k ks ys (i + 1)
 | _,_,_=>none
structure KeyT (P:Program) (kt:TypeId) (key:K → Value) (sv:K → SV):Prop where
 chk:∀ (em:Bool) (k:K) (w:World),(Instr.checkKey em 10000 kt (key k)).run P w = .ok () w
 fnd:∀ (k:K) (ks:List K) (ys:List MapEntry) (w:World),ys.map (·.key) = ks.map key → (Instr.findKey kt (key k) ys).run P w = .ok (fI k ks ys 0) w
 same:∀ k,Instr.sameBits 10000 (key k) (key k) = true
 svR:∀ {w:World} {E:Env} {n ok:Nat → Prop} (k:K) (y:Value),R w E n ok (sv k) y ↔ y = key k
end typed
section
variable {P:Program} {C:Cx} {E:Env} {σ : St} {a:Act} {w:World}
def oprS (σ : St):Operand → SV
 | .tmp u=>lk u σ.fr
 | .const x=>.v x
 | _=>.any
end
section
variable {P:Program} {K' V:Type} [DecidableEq K'] {key:K' → Value} {sv:K' → SV} {val:V → SV} {L:List (Nat × K' × V)} {km c:Nat} {kt et t ty:TypeId} {mx ix vx:Operand} {σ : St} {r:KT} {K:RK} {d:Option Nat} {k:K'}
end
section
variable {K V:Type} [DecidableEq K] {k k':K} {v:V} {c:Nat} {L:List (Nat × K × V)}
structure MW (L:List (Nat × K × V)) (c:Nat):Prop where
 bn:(L.map (·.1)).Nodup
 bl:∀ e ∈ L,e.1 < c
 kn:(L.map (·.2.1)).Nodup
omit [DecidableEq K] in
theorem MW.nil {c:Nat}:MW ([]:List (Nat × K × V)) c:=⟨List.nodup_nil,(fun e h=>by cases h),List.nodup_nil⟩
theorem mget_none:∀ {L:List (Nat × K × V)},mget k L = none ↔ ∀ e ∈ L,e.2.1 ≠ k
 | []=>by simp [mget]
 | e :: l=>by
  simp only [mget]
  split
  · rename_i hk;simp [hk]
  · rename_i hk;rw [mget_none];simp [hk]
theorem mset_new:∀ {L:List (Nat × K × V)},mget k L = none → mset c k v L = L ++ [(c,k,v)]
 | [],_=>rfl
 | e :: l,h=>by
  simp only [mget] at h
  split at h
  · cases h
  · rename_i he;simp only [mset,if_neg he,mset_new h,List.cons_append]
theorem mset_map:∀ {L:List (Nat × K × V)},(mget k L).isSome → (mset c k v L).map (fun e=>(e.1,e.2.1)) = L.map fun e=>(e.1,e.2.1)
 | [],h=>by simp [mget] at h
 | e :: l,h=>by
  simp only [mget] at h
  simp only [mset]
  split
  · rename_i he;simp [he]
  · rename_i he;rw [if_neg he] at h;simp [mset_map h]
theorem MW.set (h:MW L c) (v:V):MW (mset c k v L) (mclk c k L):=by
 cases hg:mget k L with
 | none =>
  have hc:mclk c k L = c + 1:=by simp [mclk,hg]
  rw [mset_new hg,hc]
  have hk:=mget_none.1 hg
  refine ⟨?_,fun e he=>?_,?_⟩
  · rw [List.map_append,List.nodup_append]
    refine ⟨h.bn,by simp,fun a ha b hb=>?_⟩
    obtain ⟨e,he,rfl⟩:=List.mem_map.1 ha
    simp only [List.map_cons,List.map_nil,List.mem_singleton] at hb
    have:=h.bl e he;omega
  · rcases List.mem_append.1 he with he | he
    · have:=h.bl e he;omega
    · simp only [List.mem_singleton] at he;subst he;simp
  · rw [List.map_append,List.nodup_append]
    refine ⟨h.kn,by simp,fun a ha b hb=>?_⟩
    obtain ⟨e,he,rfl⟩:=List.mem_map.1 ha
    simp only [List.map_cons,List.map_nil,List.mem_singleton] at hb
    rw [hb];exact hk e he
 | some v0 =>
  have hc:mclk c k L = c:=by simp [mclk,hg]
  have hm:=mset_map (c:=c) (v:=v) (k:=k) (L:=L) (by rw [hg];rfl)
  have e1:(mset c k v L).map (·.1) = L.map (·.1):=by
   have:=congrArg (List.map Prod.fst) hm;simpa [List.map_map,Function.comp_def] using this
  have e2:(mset c k v L).map (·.2.1) = L.map (·.2.1):=by
   have:=congrArg (List.map Prod.snd) hm;simpa [List.map_map,Function.comp_def] using this
  rw [hc]
  refine ⟨by rw [e1];exact h.bn,fun e he=>?_,by rw [e2];exact h.kn⟩
  have:e.1 ∈ L.map (·.1):=by rw [← e1];exact List.mem_map.2 ⟨e,he,rfl⟩
  obtain ⟨x,hx,hxe⟩:=List.mem_map.1 this
  rw [← hxe];exact h.bl x hx
def leftN (L:List (Nat × K × V)) (seen:List Nat):Nat:=(L.filter fun e=>!seen.contains e.1).length
omit [DecidableEq K] in
end
end Go.Sx
namespace Go.Sx
open Go Go.RowKit
def Weak (s s':SV):Prop:=∀ (w:World) (E:Env) (n ok:Nat → Prop) (y:Value),R w E n ok s y → R w E n ok s' y
theorem Weak.rfl {s:SV}:Weak s s:=fun _ _ _ _ _ h=>h
theorem weak_nil {c:Bool} {m:Nat}:Weak (.v (.slice none 0 0)) (.sl c m []):=fun w E n ok y h=>by
 simp only [R] at h ⊢
 exact ⟨none,0,0,h,by simp,⟨Nat.le_refl _,fun _=>Eq.refl _⟩,by simp,by simp⟩
theorem weak_cons {s s':SV} {l l':List SV} (h1:Weak s s') (h2:∀ (w:World) (E:Env) (n ok:Nat → Prop) (ys:List Value),RL w E n ok l ys → RL w E n ok l' ys):∀ (w:World) (E:Env) (n ok:Nat → Prop) (ys:List Value),RL w E n ok (s :: l) ys → RL w E n ok (s' :: l') ys:=fun w E n ok ys h=>by
 simp only [RL] at h ⊢
 obtain ⟨y,r,q1,q2,q3⟩:=h
 exact ⟨y,r,q1,h1 _ _ _ _ _ q2,h2 _ _ _ _ _ q3⟩
def retW (rs:List RV) (res:SV):Ex → St → Prop
 | .ex _,_=>False
 | .n,σ=>∃ s,rvR rs σ = some s ∧ Weak s res
 | .ret,σ=>∃ s,rvR rs σ = some s ∧ Weak s res
 | .pan _,_=>False
theorem retW_n (rs:List RV) (res:SV) (σ : St):retW rs res .n σ = ∃ s,rvR rs σ = some s ∧ Weak s res:=rfl
theorem retW_ret (rs:List RV) (res:SV) (σ : St):retW rs res .ret σ = ∃ s,rvR rs σ = some s ∧ Weak s res:=rfl
attribute [go_sem] retW_n retW_ret
section
variable {P:Program}
end
def two64 (P:Program) (kt t1:TypeId):Bool :=
 match P.underlying kt with
 | some (.struct fs)=>match fs.toList with
  | [f1,f2]=>f1.type == t1 && f2.type == t1 && f1.offset == 0 && f2.offset == 1 && f1.name != "_" && f2.name != "_"
  | _=>false
 | _=>false
theorem Ct.args {P:Program} {f:FuncId} {args args0:List SV} {res:SV} (h:Ct P f args res) (ka:KFL args0) (hw:∀ (w:World) (E:Env) (n ok:Nat → Prop) (ys:List Value),RL w E n ok args0 ys → RL w E n ok args ys):Ct P f args0 res :=
 ⟨h.1,ka,h.3,fun w ok vs hR=>h.4 w ok vs (hw _ _ _ _ _ hR)⟩
end Go.Sx
set_option maxRecDepth 100000
set_option maxHeartbeats 4000000
namespace Go.Azalai
def dryE:Camel:=⟨⟨0,6999⟩,⟨20000,30000⟩,⟨0,100⟩,false⟩
def breed0:Breed:=⟨0,0,⟨0,0⟩,⟨0,0⟩,⟨0,0⟩,⟨0,0⟩,⟨0,0⟩,⟨0,0⟩,0,⟨0,0⟩⟩
def soreE:Camel:=⟨⟨0,0⟩,⟨0,0⟩,⟨0,1001⟩,false⟩
def march0:March:=⟨0,0,⟨0,0⟩,⟨0,0⟩,⟨0,0⟩⟩
def longE:March:=⟨25,0,⟨0,0⟩,⟨0,0⟩,⟨0,0⟩⟩
end Go.Azalai
namespace Go.Proofs.Ytnlfjchbhgikaaa
open Go Go.Sx Go.Azalai
theorem xThirst:tres (thirstF breedE [animalE,animalE]) = .tup [.agg [I 60000,I 80000],I 0]:=by kernel_rfl
theorem xHeavy:heavyF breedE animalE [dayE] = (120000,0):=by decide +kernel
theorem xHeavy2:heavyF breedE dryE [dayE] = (0,13):=by decide +kernel
theorem xMeet (day:Int) (h:0 ≤ day ∧ day ≤ 100000):meetsE 3 [0] herdE ⟨3,5⟩ day = 0:=by
 unfold meetsE
 rw [if_neg (by simp [inR,okSp];omega),if_neg (by decide),if_neg (by decide)]
theorem xKn7:([knF 7 0 0,knF 7 8 never,knF 7 12 never]:List Int) = [2,0,0]:=by kernel_rfl
theorem xKn12:([knF 12 0 0,knF 12 8 never,knF 12 12 never]:List Int) = [2,1,1]:=by kernel_rfl
theorem xFit1:sres breed0 dryE (fitF breed0 dryE) = .tup [.agg [I 0,I 0],I 10]:=by kernel_rfl
theorem xFit2:sres breedE soreE (fitF breedE soreE) = .tup [.agg [I 0,I 0],I 11]:=by kernel_rfl
theorem xCost:cres breedE false longE = .tup [.agg [I 0,I 0],.agg [I 0,I 0],I 12]:=by kernel_rfl
theorem xAft:afterE breedE dryE dayE = (zeroC,0,13):=by kernel_rfl
theorem xDays:daysF breedE dryE [march0,dayE] = ([],2,1,13):=by kernel_rfl
theorem xDays2:daysF breedE animalE (List.replicate 61 march0) = ([],0,0,4):=by kernel_rfl
theorem xMange1:meetsE 0 [] [] ⟨1,1⟩ 0 = 2:=by kernel_rfl
theorem xMange2:meetsE 1 [1] [] ⟨1,1⟩ 0 = 14:=by kernel_rfl
theorem xm1:Ct Try.prog 35 [I 0,.v (.slice none 0 0),.v (.slice none 0 0),.agg [I 1,I 1],I 0] (.tup [.v (.slice none 0 0),I 2]):=by
 have h:=mange_ok 0 [] [] ⟨1,1⟩ 0 false false (by decide) (by decide)
 rw [xMange1,show ∀ l,rowsK 2 l = .v (.slice none 0 0) from fun _=>rfl] at h
 exact h.args (by simp [KFL,KF]) (weak_cons Weak.rfl (weak_cons weak_nil (weak_cons weak_nil fun _ _ _ _ _ h=>h)))
theorem xm2:Ct Try.prog 35 [I 1,.sl true 1 [[I 1]],.v (.slice none 0 0),.agg [I 1,I 1],I 0] (.tup [.v (.slice none 0 0),I 14]):=by
 have h:=mange_ok 1 [1] [] ⟨1,1⟩ 0 true false (by decide) (by decide)
 rw [xMange2,show ∀ l,rowsK 14 l = .v (.slice none 0 0) from fun _=>rfl] at h
 exact h.args (by simp [KFL,KF,KFR]) (weak_cons Weak.rfl (weak_cons Weak.rfl (weak_cons weak_nil fun _ _ _ _ _ h=>h)))
theorem exLaw_ok:Ct Try.prog 13 [] (B true):=by
 refine t13 (by simp [KFL,KF]) (by simp [KFL,KF]) ?_
 dsimp only [c13,r13,go_sem,rA,rM,rS]
 refine .inl ⟨rfl,?_⟩
 dsimp only [go_sem,rA,rM,rS]
 refine call alive_ok ?_
 dsimp only [go_sem,rA,rM,rS]
 refine .inl ⟨rfl,?_⟩
 dsimp only [go_sem,rA,rM,rS]
 refine br_f rfl ?_
 dsimp only [go_sem,rA,rM,rS]
 refine call herd_ok ?_
 dsimp only [go_sem,rA,rM,rS]
 refine call (span_ok 3 5) ?_
 dsimp only [go_sem,rA,rM,rS]
 refine call (mange_ok 3 [0] herdE ⟨3,5⟩ 7 true true (by decide) (by decide)) ?_
 rw [herdK,xMeet 7 (by decide),xKn7,show rowsK 0 [2,0,0] = .sl false 1 ([2,0,0].map u8L) from rfl]
 dsimp only [go_sem,rA,rM,rS]
 refine call herd_ok ?_
 dsimp only [go_sem,rA,rM,rS]
 refine call (span_ok 3 5) ?_
 dsimp only [go_sem,rA,rM,rS]
 refine call (mange_ok 3 [0] herdE ⟨3,5⟩ 12 true true (by decide) (by decide)) ?_
 rw [herdK,xMeet 12 (by decide),xKn12,show rowsK 0 [2,1,1] = .sl false 1 ([2,1,1].map u8L) from rfl]
 dsimp only [go_sem,rA,rM,rS]
 refine call breedE_ok ?_
 dsimp only [go_sem,rA,rM,rS]
 refine call animalE_ok ?_
 dsimp only [go_sem,rA,rM,rS]
 refine call animalE_ok ?_
 dsimp only [go_sem,rA,rM,rS]
 refine call (thirst_ok breedE [animalE,animalE] (by decide) true) ?_
 rw [xThirst]
 dsimp only [go_sem,rA,rM,rS]
 refine call breedE_ok ?_
 dsimp only [go_sem,rA,rM,rS]
 refine call animalE_ok ?_
 dsimp only [go_sem,rA,rM,rS]
 refine call dayE_ok ?_
 dsimp only [go_sem,rA,rM,rS]
 refine call (heavy_ok breedE animalE [dayE] true (by decide)) ?_
 rw [xHeavy]
 dsimp only [go_sem,rA,rM,rS]
 repeat (refine .inl ⟨rfl,?_⟩;dsimp only [go_sem,rA,rM,rS])
 refine raw_str (e:=5) (ns:=[2,0,0]) rfl (fun _ _ _ e=>by cases e) rfl (by kernel_rfl) (by kernel_rfl) (by kernel_rfl) ?_
 dsimp only [go_sem,rA,rM,rS]
 refine .inl ⟨rfl,?_⟩
 dsimp only [go_sem,rA,rM,rS]
 refine raw_seqc (q:=false) rfl (.inr ⟨rfl,by decide +kernel⟩) ?_
 dsimp only [go_sem,rA,rM,rS]
 repeat (refine .inl ⟨rfl,?_⟩;dsimp only [go_sem,rA,rM,rS])
 refine raw_str (e:=5) (ns:=[2,1,1]) rfl (fun _ _ _ e=>by cases e) rfl (by kernel_rfl) (by kernel_rfl) (by kernel_rfl) ?_
 dsimp only [go_sem,rA,rM,rS]
 refine .inl ⟨rfl,?_⟩
 dsimp only [go_sem,rA,rM,rS]
 refine raw_seqc (q:=false) rfl (.inr ⟨rfl,by decide +kernel⟩) ?_
 dsimp only [go_sem,rA,rM,rS]
 repeat (first | (refine .inl ⟨rfl,?_⟩;dsimp only [go_sem,rA,rM,rS]) | (refine call (span_ok _ _) ?_;dsimp only [go_sem,rA,rM,rS]))
 refine br_f rfl ?_
 dsimp only [go_sem,rA,rM,rS]
 refine call animalE_ok ?_
 dsimp only [go_sem,rA,rM,rS]
 refine call (span_ok _ _) ?_
 dsimp only [go_sem,rA,rM,rS]
 dsimp only [camelL,animalE,go_sem,rA,rM,rS]
 refine call (fitness_ok breed0 dryE) ?_
 rw [xFit1]
 dsimp only [go_sem,rA,rM,rS]
 refine call breedE_ok ?_
 dsimp only [go_sem,rA,rM,rS]
 refine call (span_ok _ _) ?_
 dsimp only [go_sem,rA,rM,rS]
 refine call (fitness_ok breedE soreE) ?_
 rw [xFit2]
 dsimp only [go_sem,rA,rM,rS]
 refine call breedE_ok ?_
 dsimp only [go_sem,rA,rM,rS]
 refine call (Cost_ok breedE false longE) ?_
 rw [xCost]
 dsimp only [go_sem,rA,rM,rS]
 refine call breedE_ok ?_
 dsimp only [go_sem,rA,rM,rS]
 refine call dayE_ok ?_
 dsimp only [go_sem,rA,rM,rS]
 refine call (after1_ok breedE dryE dayE) ?_
 rw [xAft]
 dsimp only [U8,go_sem,rA,rM,rS]
 refine call breedE_ok ?_
 dsimp only [go_sem,rA,rM,rS]
 refine call dayE_ok ?_
 dsimp only [go_sem,rA,rM,rS]
 refine call (days_ok breedE dryE [march0,dayE] true (by decide)) ?_
 rw [xDays]
 dsimp only [U8,go_sem,rA,rM,rS]
 rw [show rowsE 13 [] = .v (.slice none 0 0) from rfl]
 dsimp only [go_sem,rA,rM,rS]
 refine call breedE_ok ?_
 dsimp only [go_sem,rA,rM,rS]
 refine call animalE_ok ?_
 dsimp only [go_sem,rA,rM,rS]
 refine ⟨61,rfl,by decide,?_⟩
 generalize hrow:List.replicate 61 _ = row61
 have hrow2:row61 = (List.replicate 61 march0).map marchL:=by rw [← hrow,List.map_replicate];exact congrArg (List.replicate 61) (show _ = marchL march0 from rfl)
 clear hrow
 generalize hl61:List.replicate 61 march0 = l61 at hrow2
 have hlen:l61.length = 61:=by rw [← hl61];simp
 have hd61:daysF breedE animalE l61 = ([],0,0,4):=by rw [← hl61];exact xDays2
 clear hl61
 subst hrow2
 dsimp only [go_sem,rA,rM,rS]
 refine callv (by simp [FLT,FLTL,U8]) (res:=.tup [.v (.slice none 0 0),U8 0,I 0,I 4]) ?_ ?_
 · dsimp only [go_sem,rA,rM,rS]
   have:=days_ok breedE animalE l61 false (by omega)
   rw [hd61] at this
   exact this
 dsimp only [U8,go_sem,rA,rM,rS]
 refine call (span_ok _ _) ?_
 dsimp only [go_sem,rA,rM,rS]
 refine call xm1 ?_
 dsimp only [go_sem,rA,rM,rS]
 refine call (span_ok _ _) ?_
 dsimp only [go_sem,rA,rM,rS]
 refine call xm2 ?_
 dsimp only [go_sem,rA,rM,rS]
 refine call breedE_ok ?_
 dsimp only [go_sem,rA,rM,rS]
 refine call dayE_ok ?_
 dsimp only [go_sem,rA,rM,rS]
 refine call (heavy_ok breedE dryE [dayE] true (by decide)) ?_
 rw [xHeavy2]
 dsimp only [go_sem,rA,rM,rS]
 repeat (refine .inl ⟨rfl,?_⟩;dsimp only [go_sem,rA,rM,rS])
 rfl
end Go.Proofs.Ytnlfjchbhgikaaa
