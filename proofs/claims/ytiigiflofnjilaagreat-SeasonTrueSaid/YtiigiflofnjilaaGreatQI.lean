/- Walks and plain laws that lead to the given statement, part 9 of 10. -/
import Derived.Test.YtiigiflofnjilaaGreatQH
import Derived.Test.YtiigiflofnjilaaGreatProg
set_option maxRecDepth 100000
set_option maxHeartbeats 8000000
set_option linter.all false
open Nat renaming reduceAdd->rA,reduceMul->rM,reduceSub->rS,beq_refl->nbr
namespace Go.Proofs.YtiigiflofnjilaaGreat
open Go Go.Sx
def cw34:SC:=(sr1 [
 o1 4 (.box (.t 0) 0 77),
 o1 5 (.box (.t 1) 0 29),
 o1 8 (.mv (.c (.bool false)))]
 (sr1 [
 m1 9 3,
 o1 10 (.bin .mul (.t 9) (.c (.int .i64 100000))),
 o1 11 (.addo (.t 5) 0),
 o1 12 (.ld (.t 11) 1 false),
 o1 13 (.bin .mul (.t 10) (.t 12)),
 m1 14 2,
 o1 15 (.bin .mul (.t 14) (.c (.int .i64 2))),
 o1 16 (.addo (.t 4) 0),
 o1 17 (.ld (.t 16) 1 false),
 o1 18 (.bin .mul (.t 15) (.t 17)),
 o1 19 (.bin .leq (.t 13) (.t 18)),
 m1 20 19,
 ⟨some 21,.mv (.t 3),some (20,true),[]⟩,
 ⟨some 22,.bin .mul (.t 21) (.c (.int .i64 100000)),some (20,true),[]⟩,
 ⟨some 23,.addo (.t 5) 1,some (20,true),[]⟩,
 ⟨some 24,.ld (.t 23) 1 false,some (20,true),[]⟩,
 ⟨some 25,.bin .mul (.t 22) (.t 24),some (20,true),[]⟩,
 ⟨some 26,.mv (.t 2),some (20,true),[]⟩,
 ⟨some 27,.bin .mul (.t 26) (.c (.int .i64 2)),some (20,true),[]⟩,
 ⟨some 28,.addo (.t 4) 1,some (20,true),[]⟩,
 ⟨some 29,.ld (.t 28) 1 false,some (20,true),[]⟩,
 ⟨some 30,.bin .mul (.t 27) (.t 29),some (20,true),[]⟩,
 ⟨some 31,.bin .leq (.t 25) (.t 30),some (20,true),[]⟩,
 o1 32 (.pick (.t 20) (.t 31) (.c (.bool false))),
 m1 33 32,
 ⟨some 34,.mv (.t 3),some (33,true),[]⟩,
 ⟨some 35,.mv (.t 2),some (33,true),[]⟩,
 ⟨some 36,.bin .leq (.t 34) (.t 35),some (33,true),[]⟩,
 o1 37 (.pick (.t 33) (.t 36) (.c (.bool false))),
 m1 38 37,
 ⟨some 39,.mv (.t 3),some (38,true),[]⟩,
 ⟨some 40,.bin .mul (.t 39) (.c (.int .i64 1000)),some (38,true),[]⟩,
 ⟨some 41,.bin .mul (.t 40) (.c (.int .i64 1000000)),some (38,true),[]⟩,
 ⟨some 42,.mv (.t 2),some (38,true),[]⟩,
 ⟨some 43,.addo (.t 4) 2,some (38,true),[]⟩,
 ⟨some 44,.ld (.t 43) 1 false,some (38,true),[]⟩,
 ⟨some 45,.bin .sub (.c (.int .i64 1000000000)) (.t 44),some (38,true),[]⟩,
 ⟨some 46,.bin .mul (.t 42) (.t 45),some (38,true),[]⟩,
 ⟨some 47,.bin .leq (.t 41) (.t 46),some (38,true),[]⟩,
 o1 48 (.pick (.t 38) (.t 47) (.c (.bool false))),
 m1 8 48]
 .ret))
def rw34:List RV:=[.tmp 8]
theorem tw34:Qt1 Tryz.prog 34 cw34 rw34 49:=Z8 Tryz.func34 rfl (by kernel_rfl) (by kernel_rfl) (by kernel_rfl) (by kernel_rfl)
def cw35:SC:=(sr1 [
 o1 7 (.box (.t 1) 0 29),
 o1 9 (.box (.t 3) 0 80),
 o1 12 (.mv (.c (.bool false)))]
 (sr1 [
 o1 14 (.addo (.t 9) 0),
 o1 15 (.ld (.t 14) 1 false),
 o1 16 (.addo (.t 9) 1),
 o1 17 (.ld (.t 16) 1 false),
 o1 18 (.bin .add (.c (.int .i64 100000)) (.t 17)),
 o1 19 (.bin .mul (.t 15) (.t 18)),
 m1 13 19]
 (.seq (.regd [0,1,2,3,4,5,6,7,8,9,10,11,12,13,14,15,16,17,18,19,20,21,22,23,24,25,26,27,28,29,30,31,32,33,34,35,36,37,38,39,40,41,42] [
 .op (m1 20 0),
 .op ⟨some 21,.nilc (.t 20),none,[0]⟩,
 .op ⟨some 22,.addo (.t 21) 0,none,[1]⟩,
 .op ⟨some 23,.ld (.t 22) 1 false,none,[2]⟩,
 .op (o1 24 (.addo (.t 7) 2)),
 .op ⟨some 25,.ld (.t 24) 2 true,none,[4]⟩,
 .op (m1 26 4),
 .op (m1 27 5),
 .op ⟨some 28,.call 33 [.t 26,.t 27],none,[6,7]⟩,
 .op ⟨some 29,.call 32 [.t 25,.t 28],none,[5,8]⟩,
 .op (o1 30 (.addo (.t 7) 4)),
 .op ⟨some 31,.ld (.t 30) 2 true,none,[10]⟩,
 .op (m1 32 4),
 .op (m1 33 5),
 .op ⟨some 34,.bin .add (.t 33) (.c (.int .i64 1)),none,[13]⟩,
 .op ⟨some 35,.call 33 [.t 32,.t 34],none,[9,12,14]⟩,
 .op ⟨some 36,.call 32 [.t 31,.t 35],none,[11,15]⟩,
 .op (o1 37 (.addo (.t 9) 2)),
 .op ⟨some 38,.ld (.t 37) 2 true,none,[17]⟩,
 .op (m1 39 4),
 .op (m1 40 5),
 .op ⟨some 41,.bin .add (.t 40) (.c (.int .i64 2)),none,[20]⟩,
 .op ⟨some 42,.call 33 [.t 39,.t 41],none,[16,19,21]⟩,
 .op ⟨some 43,.call 32 [.t 38,.t 42],none,[18,22]⟩,
 .op ⟨some 44,.bin .sub (.t 43) (.c (.int .i64 20)),none,[23]⟩,
 .op ⟨some 45,.mm true [.c (.int .i64 0),.t 44],none,[24]⟩,
 .op ⟨some 46,.bin .mul (.t 36) (.t 45),none,[16,25]⟩,
 .op ⟨some 47,.bin .add (.t 29) (.t 46),none,[9,26]⟩,
 .op ⟨some 48,.bin .mul (.c (.int .i64 100000)) (.t 47),none,[27]⟩,
 .op (o1 49 (.addo (.t 7) 6)),
 .op ⟨some 50,.ld (.t 49) 2 true,none,[29]⟩,
 .op (m1 51 4),
 .op (m1 52 5),
 .op ⟨some 53,.bin .add (.t 52) (.c (.int .i64 3)),none,[32]⟩,
 .op ⟨some 54,.call 33 [.t 51,.t 53],none,[23,31,33]⟩,
 .op ⟨some 55,.call 32 [.t 50,.t 54],none,[30,34]⟩,
 .op (m1 56 13),
 .op ⟨some 57,.bin .mul (.t 55) (.t 56),none,[35,36]⟩,
 .op ⟨some 58,.bin .add (.t 48) (.t 57),none,[28,37]⟩,
 .op ⟨some 59,.bin .sub (.t 23) (.t 58),none,[3,38]⟩,
 .op ⟨some 60,.nilc (.t 20),none,[0,1,2,3,4,5,6,7,8,9,10,11,12,13,14,15,16,17,18,19,20,21,22,23,24,25,26,27,28,29,30,31,32,33,34,35,36,37,38,39]⟩,
 .op ⟨some 61,.addo (.t 60) 0,none,[0,1,2,3,4,5,6,7,8,9,10,11,12,13,14,15,16,17,18,19,20,21,22,23,24,25,26,27,28,29,30,31,32,33,34,35,36,37,38,39,40]⟩] 0 1 [
 ⟨none,.st (.t 61) (.t 59) 1,none,[0,1,2,3,4,5,6,7,8,9,10,11,12,13,14,15,16,17,18,19,20,21,22,23,24,25,26,27,28,29,30,31,32,33,34,35,36,37,38,39,41]⟩])
 (.seq (sr1 [
 m1 62 2]
 (.cond (.t 62)
 (.regd [0,1,2,3,4,5,6,7,8,9,10,11,12,13,14,15] [
  .op (m1 63 0),
  .op ⟨some 64,.nilc (.t 63),none,[0]⟩,
  .op ⟨some 65,.addo (.t 64) 0,none,[1]⟩,
  .op ⟨some 66,.ld (.t 65) 1 false,none,[2]⟩,
  .op (o1 67 (.addo (.t 7) 12)),
  .op ⟨some 68,.ld (.t 67) 2 true,none,[4]⟩,
  .op (m1 69 4),
  .op (m1 70 5),
  .op ⟨some 71,.bin .add (.t 70) (.c (.int .i64 4)),none,[7]⟩,
  .op ⟨some 72,.call 33 [.t 69,.t 71],none,[6,8]⟩,
  .op ⟨some 73,.call 32 [.t 68,.t 72],none,[5,9]⟩,
  .op ⟨some 74,.bin .mul (.c (.int .i64 100000)) (.t 73),none,[10]⟩,
  .op ⟨some 75,.bin .sub (.t 66) (.t 74),none,[3,11]⟩,
  .op ⟨some 76,.nilc (.t 63),none,[0,1,2,3,4,5,6,7,8,9,10,11,12]⟩,
  .op ⟨some 77,.addo (.t 76) 0,none,[0,1,2,3,4,5,6,7,8,9,10,11,12,13]⟩] 0 1 [
  ⟨none,.st (.t 77) (.t 75) 1,none,[0,1,2,3,4,5,6,7,8,9,10,11,12,14]⟩])
 .skip))
 (.seq (.regd [0,1,2,3,4,5,6,7,8,9,10,11,12,13,14,15,16] [
 .op (m1 78 0),
 .op ⟨some 79,.nilc (.t 78),none,[0]⟩,
 .op ⟨some 80,.addo (.t 79) 1,none,[1]⟩,
 .op ⟨some 81,.ld (.t 80) 1 false,none,[2]⟩,
 .op (o1 82 (.addo (.t 7) 8)),
 .op ⟨some 83,.ld (.t 82) 2 true,none,[4]⟩,
 .op (m1 84 4),
 .op (m1 85 5),
 .op ⟨some 86,.bin .add (.t 85) (.c (.int .i64 5)),none,[7]⟩,
 .op ⟨some 87,.call 33 [.t 84,.t 86],none,[6,8]⟩,
 .op ⟨some 88,.call 32 [.t 83,.t 87],none,[5,9]⟩,
 .op (m1 89 13),
 .op ⟨some 90,.bin .mul (.t 88) (.t 89),none,[10,11]⟩,
 .op ⟨some 91,.bin .sub (.t 81) (.t 90),none,[3,12]⟩,
 .op ⟨some 92,.nilc (.t 78),none,[0,1,2,3,4,5,6,7,8,9,10,11,12,13]⟩,
 .op ⟨some 93,.addo (.t 92) 1,none,[0,1,2,3,4,5,6,7,8,9,10,11,12,13,14]⟩] 0 1 [
 ⟨none,.st (.t 93) (.t 91) 1,none,[0,1,2,3,4,5,6,7,8,9,10,11,12,13,15]⟩])
 (.seq (sr1 [
 m1 94 0,
 o1 95 (.nilc (.t 94)),
 o1 96 (.addo (.t 95) 0),
 o1 97 (.ld (.t 96) 1 false),
 o1 98 (.bin .lss (.t 97) (.c (.int .i64 0))),
 m1 99 98,
 ⟨some 100,.mv (.t 0),some (99,false),[]⟩,
 ⟨some 101,.nilc (.t 100),some (99,false),[]⟩,
 ⟨some 102,.addo (.t 101) 1,some (99,false),[]⟩,
 ⟨some 103,.ld (.t 102) 1 false,some (99,false),[]⟩,
 ⟨some 104,.bin .lss (.t 103) (.c (.int .i64 0)),some (99,false),[]⟩,
 o1 105 (.pick (.t 99) (.c (.bool true)) (.t 104))]
 (.cond (.t 105)
 (sr1 [
  o1 12 (.mv (.c (.bool false)))]
  .ret)
 .skip))
 (.seq (.regd [0,1,2,3,4,5,6,7,8,9,10,11,12,13,14,15,16,17,18,19,20] [
 .op (m1 106 0),
 .op (o1 107 (.addo (.t 7) 1)),
 .op ⟨some 108,.ld (.t 107) 1 false,none,[1]⟩,
 .op ⟨some 109,.bin .mul (.c (.int .i64 100000)) (.t 108),none,[2]⟩,
 .op (m1 110 0),
 .op ⟨some 111,.nilc (.t 110),none,[4]⟩,
 .op ⟨some 112,.addo (.t 111) 1,none,[5]⟩,
 .op ⟨some 113,.ld (.t 112) 1 false,none,[6]⟩,
 .op (o1 114 (.addo (.t 9) 4)),
 .op ⟨some 115,.ld (.t 114) 2 true,none,[8]⟩,
 .op (m1 116 4),
 .op (m1 117 5),
 .op ⟨some 118,.bin .add (.t 117) (.c (.int .i64 6)),none,[11]⟩,
 .op ⟨some 119,.call 33 [.t 116,.t 118],none,[10,12]⟩,
 .op ⟨some 120,.call 32 [.t 115,.t 119],none,[9,13]⟩,
 .op ⟨some 121,.bin .mul (.c (.int .i64 100000)) (.t 120),none,[14]⟩,
 .op ⟨some 122,.bin .add (.t 113) (.t 121),none,[7,15]⟩,
 .op ⟨some 123,.mm false [.t 109,.t 122],none,[3,16]⟩,
 .op ⟨some 124,.nilc (.t 106),none,[0,1,2,3,4,5,6,7,8,9,10,11,12,13,14,15,16,17]⟩,
 .op ⟨some 125,.addo (.t 124) 1,none,[0,1,2,3,4,5,6,7,8,9,10,11,12,13,14,15,16,17,18]⟩] 0 1 [
 ⟨none,.st (.t 125) (.t 123) 1,none,[0,1,2,3,4,5,6,7,8,9,10,11,12,13,14,15,16,17,19]⟩])
 (.seq (.regd [0,1,2,3,4,5,6,7,8,9,10,11,12,13,14,15,16,17,18,19,20,21,22] [
 .op (m1 126 0),
 .op (m1 127 0),
 .op ⟨some 128,.nilc (.t 127),none,[1]⟩,
 .op ⟨some 129,.addo (.t 128) 2,none,[2]⟩,
 .op ⟨some 130,.ld (.t 129) 1 false,none,[3]⟩,
 .op (o1 131 (.addo (.t 7) 10)),
 .op ⟨some 132,.ld (.t 131) 2 true,none,[5]⟩,
 .op (m1 133 4),
 .op (m1 134 5),
 .op ⟨some 135,.bin .add (.t 134) (.c (.int .i64 7)),none,[8]⟩,
 .op ⟨some 136,.call 33 [.t 133,.t 135],none,[7,9]⟩,
 .op ⟨some 137,.call 32 [.t 132,.t 136],none,[6,10]⟩,
 .op (o1 138 (.addo (.t 9) 0)),
 .op ⟨some 139,.ld (.t 138) 1 false,none,[12]⟩,
 .op ⟨some 140,.bin .mul (.t 137) (.t 139),none,[11,13]⟩,
 .op (o1 141 (.addo (.t 9) 1)),
 .op ⟨some 142,.ld (.t 141) 1 false,none,[15]⟩,
 .op ⟨some 143,.bin .mul (.t 140) (.t 142),none,[14,16]⟩,
 .op ⟨some 144,.bin .add (.t 130) (.t 143),none,[4,17]⟩,
 .op ⟨some 145,.mm false [.c (.int .i64 1000000000),.t 144],none,[18]⟩,
 .op ⟨some 146,.nilc (.t 126),none,[0,1,2,3,4,5,6,7,8,9,10,11,12,13,14,15,16,17,18,19]⟩,
 .op ⟨some 147,.addo (.t 146) 2,none,[0,1,2,3,4,5,6,7,8,9,10,11,12,13,14,15,16,17,18,19,20]⟩] 0 1 [
 ⟨none,.st (.t 147) (.t 145) 1,none,[0,1,2,3,4,5,6,7,8,9,10,11,12,13,14,15,16,17,18,19,21]⟩])
 (sr1 [
 o1 12 (.mv (.c (.bool true)))]
 .ret)))))))))
def rw35:List RV:=[.tmp 12]
theorem nw35:Tryz.f35.ntmps=148:=by kernel_rfl
theorem bw35:YP Tryz.prog 35=true:=by kernel_rfl
theorem Zvn:XK Tryz.prog cw35 ((Tryz.f35.body).getD .skip)=true:=by kernel_rfl
theorem Zt5:Wx Tryz.prog rw35 Tryz.f35.results.toList=true:=by kernel_rfl
theorem mw35 {n0:Nat} {hp0:List (Nat × HB)} {args:List SV} {Yi:Ot->Prop} (hh:hpb n0 hp0) (hx:∀ o,Yi o->KX o.res/\KXP o.hp) (h:sx Tryz.prog Y0 n0 cw35 ⟨Wu 0 args,hp0,n0,148,[]⟩ (ZcF rw35 fun o=>∃ o',Yi o'/\ZeW n0 o o')) (hA:Nat.ble args.length 148=true:=by rfl):CtM Tryz.prog 35 hp0 n0 args Yi:=XA Tryz.func35 rfl bw35 Zvn Zt5 nw35 (Nat.le_of_ble_eq_true hA) hh hx h
def cw6:SC:=(sr1 [
 o1 4 (.box (.t 0) 0 34),
 o1 5 (.box (.t 1) 0 37),
 o1 8 (.mv (.c (.bool false)))]
 (sr1 [
 o1 40 (.call 30 []),
 m1 9 40]
 (.seq (sr1 [
 m1 41 9,
 o1 42 (.un .not (.t 41))]
 (.cond (.t 42)
 (sr1 [
  o1 8 (.mv (.c (.bool false)))]
  .ret)
 .skip))
 (.seq (sr1 [
 o1 43 (.ld (.t 4) 37 true),
 o1 44 (.ld (.t 5) 3 true),
 o1 45 (.call 31 [.t 43,.t 44]),
 o1 46 (.un .not (.t 45))]
 (.cond (.t 46)
 (sr1 [
  m1 47 9,
  m1 8 47]
  .ret)
 .skip))
 (sr1 [
 o1 49 (.ld (.t 4) 37 true),
 o1 50 (.ld (.t 5) 3 true),
 o1 51 (.call 14 [.t 49,.t 50]),
 m1 48 51,
 o1 52 (.ext (.t 48) 0),
 o1 53 (.ext (.t 48) 1),
 o1 54 (.ext (.t 48) 2),
 o1 55 (.ext (.t 48) 3),
 m1 10 52,
 m1 11 53,
 m1 12 54,
 m1 13 55]
 (.seq (sr1 [
 m1 56 13,
 o1 57 (.bin .neq (.t 56) (.c (.int .i64 0))),
 m1 58 57,
 ⟨some 59,.mv (.t 10),some (58,false),[]⟩,
 ⟨some 60,.bin .neq (.t 59) (.c (.int .u8 0)),some (58,false),[]⟩,
 o1 61 (.pick (.t 58) (.c (.bool true)) (.t 60))]
 (.cond (.t 61)
 (sr1 [
  m1 62 9,
  m1 63 62,
  ⟨some 64,.mv (.t 13),some (63,true),[]⟩,
  ⟨some 65,.bin .eql (.t 64) (.c (.int .i64 0)),some (63,true),[]⟩,
  o1 66 (.pick (.t 63) (.t 65) (.c (.bool false))),
  m1 8 66]
  .ret)
 .skip))
 (sr1 [
 o1 68 (.ld (.t 4) 37 true),
 o1 69 (.ld (.t 5) 3 true),
 o1 70 (.call 20 [.t 68,.t 69]),
 m1 67 70,
 o1 71 (.ext (.t 67) 0),
 o1 72 (.ext (.t 67) 1),
 m1 14 71,
 m1 13 72]
 (.seq (sr1 [
 m1 73 13,
 o1 74 (.bin .neq (.t 73) (.c (.int .i64 0)))]
 (.cond (.t 74)
 (sr1 [
  o1 8 (.mv (.c (.bool false)))]
  .ret)
 .skip))
 (sr1 [
 m1 75 2,
 o1 76 (.conv .i64 (.t 75)),
 o1 77 (.addo (.t 4) 36),
 o1 78 (.ld (.t 77) 1 false),
 o1 79 (.len (.t 78)),
 o1 80 (.div .rem (.t 76) (.t 79)),
 m1 15 80]
 (sr1 [
 o1 81 (.addo (.t 4) 36),
 o1 82 (.ld (.t 81) 1 false),
 m1 83 15,
 o1 84 (.ixs (.t 82) (.t 83) 6),
 o1 85 (.ld (.t 84) 6 true),
 o1 16 (.alloc zv5 72),
 ⟨none,.st (.t 16) (.t 85) 6,none,[]⟩]
 (.seq (.regd [0,1,2,3,4,5,6,7,8,9,10,11,12,13,14,15,16,17,18,19,20,21,22,23] [
 .op (o1 86 (.addo (.t 4) 21)),
 .op ⟨some 87,.addo (.t 86) 0,none,[0]⟩,
 .op ⟨some 88,.ld (.t 87) 2 true,none,[1]⟩,
 .op (m1 89 3),
 .op ⟨some 90,.call 33 [.t 89,.c (.int .i64 0)],none,[3]⟩,
 .op ⟨some 91,.call 32 [.t 88,.t 90],none,[2,4]⟩,
 .op ⟨some 92,.bin .mul (.c (.int .i64 100000)) (.t 91),none,[5]⟩,
 .op (o1 93 (.addo (.t 4) 21)),
 .op ⟨some 94,.addo (.t 93) 2,none,[7]⟩,
 .op ⟨some 95,.ld (.t 94) 2 true,none,[8]⟩,
 .op (m1 96 3),
 .op ⟨some 97,.call 33 [.t 96,.c (.int .i64 1)],none,[5,10]⟩,
 .op ⟨some 98,.call 32 [.t 95,.t 97],none,[9,11]⟩,
 .op ⟨some 99,.bin .mul (.c (.int .i64 100000)) (.t 98),none,[12]⟩,
 .op (o1 100 (.addo (.t 4) 21)),
 .op ⟨some 101,.addo (.t 100) 4,none,[14]⟩,
 .op ⟨some 102,.ld (.t 101) 2 true,none,[15]⟩,
 .op (m1 103 3),
 .op ⟨some 104,.call 33 [.t 103,.c (.int .i64 2)],none,[12,17]⟩,
 .op ⟨some 105,.call 32 [.t 102,.t 104],none,[16,18]⟩,
 .op ⟨some 106,.bin .mul (.c (.int .i64 1000000)) (.t 105),none,[19]⟩,
 .op ⟨some 107,.build [.int .i64 0,.int .i64 0,.int .i64 0] [(0,1,.t 92),(1,1,.t 99),(2,1,.t 106)],none,[6,13,20]⟩] 1 1 [
 o1 17 (.alloc [.int .i64 0,.int .i64 0,.int .i64 0] 77),
 ⟨none,.st (.t 17) (.t 107) 3,none,[0,1,2,3,4,5,6,7,8,9,10,11,12,13,14,15,16,17,18,19,20,21,22]⟩])
 (.seq (.regd [0,1,2,3,4,5] [
 .op (o1 108 (.addo (.t 4) 34)),
 .op ⟨some 109,.ld (.t 108) 1 false,none,[0]⟩,
 .op (o1 110 (.addo (.t 4) 33)),
 .op ⟨some 111,.ld (.t 110) 1 false,none,[2]⟩,
 .op ⟨some 18,.mv (.t 109),none,[0,1]⟩,
 .op ⟨some 19,.mv (.t 111),none,[0,1,2,3,4]⟩] 0 0 [
])
 (sr1 [
 o1 112 (.addo (.t 5) 2),
 o1 113 (.ld (.t 112) 1 false),
 o1 114 (.addo (.t 4) 30),
 o1 115 (.ld (.t 114) 1 false),
 o1 116 (.bin .mul (.t 113) (.t 115)),
 m1 20 116]
 (.seq (.regd [0,1,2,3,4,5,6] [
 .op (o1 117 (.addo (.t 4) 4)),
 .op ⟨some 118,.addo (.t 117) 15,none,[0]⟩,
 .op ⟨some 119,.ld (.t 118) 2 true,none,[1]⟩,
 .op (m1 120 3),
 .op ⟨some 121,.call 33 [.t 120,.c (.int .i64 3)],none,[3]⟩,
 .op ⟨some 122,.call 32 [.t 119,.t 121],none,[2,4]⟩,
 .op ⟨some 21,.mv (.t 122),none,[0,1,2,3,4,5]⟩] 0 0 [
])
 (sr1 [
 o1 123 (.addo (.t 5) 1),
 o1 124 (.ld (.t 123) 1 false),
 o1 125 (.bin .gtr (.t 124) (.c (.int .i64 0))),
 m1 22 125]
 (.seq (sr1 [
 m1 126 22,
 m1 127 126,
 ⟨some 128,.addo (.t 5) 0,some (127,true),[]⟩,
 ⟨some 129,.ld (.t 128) 1 false,some (127,true),[]⟩,
 ⟨some 130,.len (.t 129),some (127,true),[]⟩,
 ⟨some 131,.bin .eql (.t 130) (.c (.int .i64 0)),some (127,true),[]⟩,
 o1 132 (.pick (.t 127) (.t 131) (.c (.bool false))),
 m1 133 132,
 ⟨some 134,.ld (.t 17) 3 true,some (133,true),[]⟩,
 ⟨some 135,.addo (.t 4) 4,some (133,true),[]⟩,
 ⟨some 136,.ld (.t 135) 17 true,some (133,true),[]⟩,
 ⟨some 137,.mv (.t 21),some (133,true),[]⟩,
 ⟨some 138,.mv (.t 20),some (133,true),[]⟩,
 ⟨some 139,.call 34 [.t 134,.t 136,.t 137,.t 138],some (133,true),[]⟩,
 ⟨some 140,.un .not (.t 139),some (133,true),[]⟩,
 o1 141 (.pick (.t 133) (.t 140) (.c (.bool false)))]
 (.cond (.t 141)
 (sr1 [
  o1 8 (.mv (.c (.bool false)))]
  .ret)
 .skip))
 (sr1 [
 o1 142 (.addo (.t 4) 29),
 o1 143 (.ld (.t 142) 1 false),
 m1 144 20,
 o1 145 (.addo (.t 16) 0),
 o1 146 (.ld (.t 145) 2 true),
 o1 147 (.addo (.t 16) 2),
 o1 148 (.ld (.t 147) 2 true),
 o1 149 (.build zv6 [(0,1,.t 143),(1,1,.t 144),(2,2,.t 146),(4,2,.t 148)]),
 o1 23 (.alloc zv6 80),
 ⟨none,.st (.t 23) (.t 149) 8,none,[]⟩]
 (.seq (sr1 [
 o1 150 (.addo (.t 5) 0),
 o1 151 (.ld (.t 150) 1 false),
 o1 152 (.len (.t 151)),
 o1 153 (.mv (.c (.int .i64 0)))]
 (.block 0 (.loop (sr1 [
  o1 154 (.bin .lss (.t 153) (.t 152))]
  (.seq (.cond (.t 154)
  .skip
  (.exit 0))
  (.seq (.block 1 (sr1 [
   m1 155 153,
   o1 156 (.ixs (.t 151) (.t 153) 1),
   o1 157 (.ld (.t 156) 1 false),
   m1 24 155,
   m1 25 157]
   (sr1 [
   o1 158 (.addo (.t 4) 0),
   o1 159 (.addo (.t 158) 1),
   o1 160 (.ld (.t 159) 1 false),
   m1 161 25,
   o1 162 (.ixs (.t 160) (.t 161) 5),
   o1 163 (.ld (.t 162) 5 true),
   o1 26 (.alloc zv7 83),
   ⟨none,.st (.t 26) (.t 163) 5,none,[]⟩]
   (.seq (.regd [0,1,2,3,4,5,6,7,8] [
   .op (o1 164 (.addo (.t 4) 2)),
   .op ⟨some 165,.ld (.t 164) 2 true,none,[0]⟩,
   .op (m1 166 3),
   .op (m1 167 24),
   .op ⟨some 168,.bin .mul (.c (.int .i64 4)) (.t 167),none,[3]⟩,
   .op ⟨some 169,.bin .add (.t 168) (.c (.int .i64 4)),none,[4]⟩,
   .op ⟨some 170,.call 33 [.t 166,.t 169],none,[2,5]⟩,
   .op ⟨some 171,.call 32 [.t 165,.t 170],none,[1,6]⟩,
   .op ⟨some 27,.mv (.t 171),none,[0,1,2,3,4,5,6,7]⟩] 0 0 [
])
 (.seq (.regd [0,1,2,3,4,5,6,7,8,9,10,11,12,13] [
 .op (o1 172 (.addo (.t 26) 2)),
 .op ⟨some 173,.ld (.t 172) 2 true,none,[0]⟩,
 .op (m1 174 3),
 .op (m1 175 24),
 .op ⟨some 176,.bin .mul (.c (.int .i64 4)) (.t 175),none,[3]⟩,
 .op ⟨some 177,.bin .add (.t 176) (.c (.int .i64 5)),none,[4]⟩,
 .op ⟨some 178,.call 33 [.t 174,.t 177],none,[2,5]⟩,
 .op ⟨some 179,.call 32 [.t 173,.t 178],none,[1,6]⟩,
 .op (m1 180 27),
 .op ⟨some 181,.bin .add (.t 179) (.t 180),none,[7,8]⟩,
 .op ⟨some 182,.bin .sub (.t 181) (.c (.int .i64 1)),none,[9]⟩,
 .op (m1 183 27),
 .op ⟨some 184,.div .quo (.t 182) (.t 183),none,[10,11]⟩,
 .op ⟨some 28,.mv (.t 184),none,[0,1,2,3,4,5,6,7,8,9,10,11,12]⟩] 0 0 [
])
 (sr1 [
 o1 29 (.mv (.c (.int .i64 100001)))]
 (.seq (sr1 [
 o1 185 (.addo (.t 26) 4),
 o1 186 (.ld (.t 185) 1 false),
 o1 187 (.len (.t 186)),
 o1 188 (.mv (.c (.int .i64 0)))]
 (.block 2 (.loop (sr1 [
  o1 189 (.bin .lss (.t 188) (.t 187))]
  (.seq (.cond (.t 189)
  .skip
  (.exit 2))
  (.seq (.block 3 (sr1 [
   m1 190 188,
   o1 191 (.ixs (.t 186) (.t 188) 4),
   o1 192 (.ld (.t 191) 4 true),
   o1 31 (.alloc [.int .i64 0,.int .i64 0,.int .i64 0,.int .i64 0] 85),
   m1 30 190,
   ⟨none,.st (.t 31) (.t 192) 4,none,[]⟩]
   (.seq (.regd [0,1,2,3,4,5,6,7,8,9,10,11,12,13,14,15,16,17,18,19,20,21,22] [
   .op (o1 193 (.addo (.t 31) 0)),
   .op ⟨some 194,.ld (.t 193) 2 true,none,[0]⟩,
   .op (m1 195 3),
   .op (m1 196 24),
   .op ⟨some 197,.bin .mul (.c (.int .i64 2)) (.t 196),none,[3]⟩,
   .op (m1 198 30),
   .op ⟨some 199,.bin .mul (.c (.int .i64 3)) (.t 198),none,[5]⟩,
   .op ⟨some 200,.bin .add (.t 197) (.t 199),none,[4,6]⟩,
   .op ⟨some 201,.call 33 [.t 195,.t 200],none,[2,7]⟩,
   .op ⟨some 202,.call 32 [.t 194,.t 201],none,[1,8]⟩,
   .op (o1 203 (.addo (.t 31) 2)),
   .op ⟨some 204,.ld (.t 203) 2 true,none,[10]⟩,
   .op (m1 205 3),
   .op (m1 206 24),
   .op ⟨some 207,.bin .mul (.c (.int .i64 2)) (.t 206),none,[13]⟩,
   .op (m1 208 30),
   .op ⟨some 209,.bin .mul (.c (.int .i64 3)) (.t 208),none,[15]⟩,
   .op ⟨some 210,.bin .add (.t 207) (.t 209),none,[14,16]⟩,
   .op ⟨some 211,.bin .add (.t 210) (.c (.int .i64 1)),none,[17]⟩,
   .op ⟨some 212,.call 33 [.t 205,.t 211],none,[9,12,18]⟩,
   .op ⟨some 213,.call 32 [.t 204,.t 212],none,[11,19]⟩,
   .op ⟨some 32,.mv (.t 202),none,[0,1,2,3,4,5,6,7,8,9,20]⟩,
   .op ⟨some 33,.mv (.t 213),none,[0,1,2,3,4,5,6,7,8,9,10,11,12,13,14,15,16,17,18,19,20,21]⟩] 0 0 [
])
 (sr1 [
 m1 214 18,
 m1 215 32,
 o1 216 (.mm true [.t 214,.t 215]),
 m1 34 216]
 (sr1 [
 m1 217 34,
 m1 218 28,
 o1 219 (.bin .add (.t 217) (.t 218)),
 o1 220 (.bin .sub (.t 219) (.c (.int .i64 1))),
 m1 221 33,
 o1 222 (.bin .leq (.t 220) (.t 221))]
 (.cond (.t 222)
 (.reg [
  m1 223 29,
  m1 224 34,
  o1 225 (.mm false [.t 223,.t 224]),
  m1 29 225])
 .skip))))))
 (.reg [
 o1 226 (.bin .add (.t 188) (.c (.int .i64 1))),
 m1 188 226])))))))
 (sr1 [
 m1 227 29,
 m1 228 28,
 o1 229 (.bin .add (.t 227) (.t 228)),
 m1 18 229]
 (sr1 [
 o1 230 (.addo (.t 26) 0),
 o1 231 (.ld (.t 230) 1 false),
 o1 232 (.addo (.t 26) 1),
 o1 233 (.ld (.t 232) 1 false),
 o1 234 (.bin .add (.t 231) (.t 233)),
 m1 235 19,
 o1 236 (.bin .sub (.t 234) (.t 235)),
 m1 19 236]
 (.seq (sr1 [
 m1 237 18,
 o1 238 (.addo (.t 4) 35),
 o1 239 (.ld (.t 238) 1 false),
 o1 240 (.bin .gtr (.t 237) (.t 239))]
 (.cond (.t 240)
 (sr1 [
  o1 8 (.mv (.c (.bool false)))]
  .ret)
 .skip))
 (.seq (sr1 [
 m1 241 22,
 o1 242 (.un .not (.t 241))]
 (.cond (.t 242)
 (.exit 1)
 .skip))
 (.seq (sr1 [
 m1 243 28,
 o1 244 (.mv (.c (.int .i64 0)))]
 (.block 4 (.loop (sr1 [
  o1 245 (.bin .lss (.t 244) (.t 243))]
  (.seq (.cond (.t 245)
  .skip
  (.exit 4))
  (.seq (.block 5 (sr1 [
   m1 246 244,
   m1 35 246]
   (sr1 [
   o1 247 (.ld (.t 17) 3 true),
   o1 248 (.addo (.t 4) 4),
   o1 249 (.ld (.t 248) 17 true),
   m1 250 21,
   m1 251 20,
   o1 252 (.call 34 [.t 247,.t 249,.t 250,.t 251]),
   o1 253 (.un .not (.t 252)),
   m1 254 253,
   ⟨some 255,.addo (.t 4) 4,some (254,false),[]⟩,
   ⟨some 256,.ld (.t 255) 17 true,some (254,false),[]⟩,
   ⟨some 257,.addo (.t 4) 21,some (254,false),[]⟩,
   ⟨some 258,.addo (.t 257) 6,some (254,false),[]⟩,
   ⟨some 259,.ld (.t 258) 1 false,some (254,false),[]⟩,
   ⟨some 260,.ld (.t 23) 8 true,some (254,false),[]⟩,
   ⟨some 261,.mv (.t 3),some (254,false),[]⟩,
   ⟨some 262,.mv (.t 24),some (254,false),[]⟩,
   ⟨some 263,.bin .mul (.c (.int .i64 9)) (.t 262),some (254,false),[]⟩,
   ⟨some 264,.mv (.t 35),some (254,false),[]⟩,
   ⟨some 265,.bin .mul (.c (.int .i64 8)) (.t 264),some (254,false),[]⟩,
   ⟨some 266,.bin .add (.t 263) (.t 265),some (254,false),[]⟩,
   ⟨some 267,.callm 35 [.t 17,.t 256,.t 259,.t 260,.t 261,.t 266],some (254,false),[]⟩,
   ⟨some 268,.un .not (.t 267),some (254,false),[]⟩,
   o1 269 (.pick (.t 254) (.c (.bool true)) (.t 268))]
   (.cond (.t 269)
   (sr1 [
    o1 8 (.mv (.c (.bool false)))]
    .ret)
   .skip))))
  (.reg [
  o1 270 (.bin .add (.t 244) (.c (.int .i64 1))),
  m1 244 270])))))))
 (.seq (sr1 [
 m1 271 24,
 o1 272 (.bin .add (.t 271) (.c (.int .i64 1))),
 o1 273 (.addo (.t 5) 0),
 o1 274 (.ld (.t 273) 1 false),
 o1 275 (.len (.t 274)),
 o1 276 (.bin .eql (.t 272) (.t 275))]
 (.cond (.t 276)
 (.exit 0)
 .skip))
 (sr1 [
 o1 277 (.addo (.t 4) 0),
 o1 278 (.addo (.t 277) 0),
 o1 279 (.ld (.t 278) 1 false),
 m1 280 19,
 o1 281 (.ixs (.t 279) (.t 280) 9),
 o1 282 (.ld (.t 281) 9 true),
 o1 36 (.alloc zv3 88),
 ⟨none,.st (.t 36) (.t 282) 9,none,[]⟩]
 (.seq (.regd [0,1,2,3,4,5,6] [
 .op (o1 283 (.addo (.t 36) 6)),
 .op ⟨some 284,.ld (.t 283) 2 true,none,[0]⟩,
 .op (m1 285 3),
 .op (m1 286 24),
 .op ⟨some 287,.call 33 [.t 285,.t 286],none,[2,3]⟩,
 .op ⟨some 288,.call 32 [.t 284,.t 287],none,[1,4]⟩,
 .op ⟨some 37,.mv (.t 288),none,[0,1,2,3,4,5]⟩] 0 0 [
])
 (.seq (sr1 [
 m1 289 18,
 o1 290 (.mv (.c (.int .i64 0)))]
 (.block 6 (.loop (sr1 [
  o1 291 (.bin .lss (.t 290) (.t 289))]
  (.seq (.cond (.t 291)
  .skip
  (.exit 6))
  (.seq (.block 7 (sr1 [
   m1 292 290,
   m1 38 292]
   (.regd [0,1,2,3,4,5,6,7,8,9,10,11,12,13,14,15,16] [
   .op (o1 293 (.addo (.t 36) 5)),
   .op ⟨some 294,.ld (.t 293) 1 false,none,[0]⟩,
   .op (m1 295 37),
   .op (o1 296 (.addo (.t 16) 4)),
   .op ⟨some 297,.ld (.t 296) 1 false,none,[3]⟩,
   .op (m1 298 19),
   .op ⟨some 299,.ixs (.t 297) (.t 298) 2,none,[4,5]⟩,
   .op ⟨some 300,.ld (.t 299) 2 true,none,[6]⟩,
   .op (m1 301 3),
   .op (m1 302 38),
   .op (m1 303 24),
   .op ⟨some 304,.bin .add (.t 302) (.t 303),none,[9,10]⟩,
   .op ⟨some 305,.call 33 [.t 301,.t 304],none,[8,11]⟩,
   .op ⟨some 306,.call 32 [.t 300,.t 305],none,[7,12]⟩,
   .op ⟨some 307,.bin .add (.t 295) (.t 306),none,[2,13]⟩,
   .op ⟨some 308,.mm false [.t 294,.t 307],none,[1,14]⟩] 0 0 [
   ⟨some 37,.mv (.t 308),none,[0,1,2,3,4,5,6,7,8,9,10,11,12,13,14,15]⟩])))
  (.reg [
  o1 309 (.bin .add (.t 290) (.c (.int .i64 1))),
  m1 290 309])))))))
 (.seq (sr1 [
 o1 310 (.addo (.t 5) 1),
 o1 311 (.ld (.t 310) 1 false),
 o1 312 (.addo (.t 4) 4),
 o1 313 (.addo (.t 312) 0),
 o1 314 (.ld (.t 313) 1 false),
 o1 315 (.bin .mul (.c (.int .i64 100000)) (.t 314)),
 o1 316 (.addo (.t 17) 0),
 o1 317 (.ld (.t 316) 1 false),
 o1 318 (.bin .sub (.t 315) (.t 317)),
 o1 319 (.bin .mul (.t 311) (.t 318)),
 m1 320 37,
 o1 321 (.bin .mul (.c (.int .i64 100000)) (.t 320)),
 o1 322 (.bin .gtr (.t 319) (.t 321))]
 (.cond (.t 322)
 (sr1 [
  o1 8 (.mv (.c (.bool false)))]
  .ret)
 .skip))
 (.reg [
 o1 323 (.addo (.t 4) 4),
 o1 324 (.addo (.t 323) 0),
 o1 325 (.ld (.t 324) 1 false),
 o1 326 (.bin .mul (.c (.int .i64 100000)) (.t 325)),
 o1 327 (.addo (.t 17) 0),
 ⟨none,.st (.t 327) (.t 326) 1,none,[]⟩]))))))))))))))))))
 (.reg [
 o1 328 (.bin .add (.t 153) (.c (.int .i64 1))),
 m1 153 328])))))))
 (.seq (.regd [0,1,2,3,4,5,6,7,8,9,10,11,12,13,14,15,16,17,18,19,20,21,22,23] [
 .op (o1 329 (.addo (.t 5) 1)),
 .op ⟨some 330,.ld (.t 329) 1 false,none,[0]⟩,
 .op (o1 331 (.addo (.t 5) 2)),
 .op ⟨some 332,.ld (.t 331) 1 false,none,[2]⟩,
 .op ⟨some 333,.bin .mul (.t 330) (.t 332),none,[1,3]⟩,
 .op (o1 334 (.addo (.t 16) 5)),
 .op ⟨some 335,.ld (.t 334) 1 false,none,[5]⟩,
 .op (m1 336 19),
 .op ⟨some 337,.ixs (.t 335) (.t 336) 1,none,[6,7]⟩,
 .op ⟨some 338,.ld (.t 337) 1 false,none,[8]⟩,
 .op (o1 339 (.addo (.t 4) 31)),
 .op ⟨some 340,.ld (.t 339) 1 false,none,[10]⟩,
 .op ⟨some 341,.bin .sub (.t 338) (.t 340),none,[9,11]⟩,
 .op ⟨some 342,.bin .mul (.t 333) (.t 341),none,[4,12]⟩,
 .op (o1 343 (.addo (.t 4) 28)),
 .op ⟨some 344,.ld (.t 343) 1 false,none,[14]⟩,
 .op (o1 345 (.addo (.t 5) 1)),
 .op ⟨some 346,.ld (.t 345) 1 false,none,[16]⟩,
 .op ⟨some 347,.bin .sub (.t 344) (.t 346),none,[15,17]⟩,
 .op (o1 348 (.addo (.t 4) 32)),
 .op ⟨some 349,.ld (.t 348) 1 false,none,[19]⟩,
 .op ⟨some 350,.bin .mul (.t 347) (.t 349),none,[18,20]⟩,
 .op ⟨some 351,.bin .add (.t 342) (.t 350),none,[13,21]⟩,
 .op ⟨some 39,.mv (.t 351),none,[0,1,2,3,4,5,6,7,8,9,10,11,12,13,14,15,16,17,18,19,20,21,22]⟩] 0 0 [
])
 (sr1 [
 m1 352 9,
 m1 353 352,
 ⟨some 354,.mv (.t 39),some (353,true),[]⟩,
 ⟨some 355,.mv (.t 14),some (353,true),[]⟩,
 ⟨some 356,.bin .geq (.t 354) (.t 355),some (353,true),[]⟩,
 o1 357 (.pick (.t 353) (.t 356) (.c (.bool false))),
 m1 8 357]
 .ret))))))))))))))))))))
def rw6:List RV:=[.tmp 8]
theorem tw6:Qt1 Tryz.prog 6 cw6 rw6 358:=Z8 Tryz.func6 rfl (by kernel_rfl) (by kernel_rfl) (by kernel_rfl) (by kernel_rfl)
end Go.Proofs.YtiigiflofnjilaaGreat
namespace Go.Azalai
structure Tbd (t:Truth):Prop where
 water:0<=t.water/\t.water<=100000000000
 fat:0<=t.fat/\t.fat<=100000000000
 sore:0<=t.sore/\t.sore<=1000000000
theorem Zf2 {b:Breed} {c:Camel} {t:Truth} (hb:Zx b=true) (hc:Zu b c=true) (h:Tin t c):Tbd t:=by
 have hbb:=Go.Proofs.YtiigiflofnjilaaGreat.Cm.breed_bd hb
 simp only [Zu,Z6,Bool.and_eq_true,decide_eq_true_eq] at hc
 obtain ⟨h1,h2,h3⟩:=h
 exact ⟨by omega,by omega,by omega⟩
end Go.Azalai
namespace Go.Proofs.YtiigiflofnjilaaGreat
open Go Go.Sx Go.Azalai
def ZN (t:Truth):List SV:=[I t.water,I t.fat,I t.sore]
theorem at_ok (l:List W32) (i:Nat) (hl:l.length<=9223372036854775807) (hi:i<=1000000) (c:Bool):Ct Tryz.prog 33 [.sl c 1 (l.map Uq),I i] (U32 (atF l i)):=by
 refine t33.1 (by simp [Za,Uq,U32,KFL,KF]) (by simp [U32,KFL,KF]) ?_
 dsimp only [c33,r33,go_sem,rA,rM,rS]
 simp only [List.length_map]
 by_cases h0:l.length=0
 . refine Zv (by simpa using h0) ?_
   dsimp only [go_sem,rA,rM,rS]
   have:l=[]:=List.eq_nil_of_length_eq_zero h0
   subst this
   rfl
 refine Zw (by simpa using h0) ?_
 dsimp only [go_sem,rA,rM,rS]
 refine Zir (by simpa using h0) ?_
 dsimp only [go_sem,rA,rM,rS]
 have hlt:i % l.length < l.length:=Nat.mod_lt _ (by omega)
 simp only [List.length_map,Zof]
 rw [show ((i:Int)).tmod (l.length:Int)=((i % l.length:Nat):Int) from by rw [Int.tmod_eq_emod_of_nonneg (by omega)];rfl]
 refine Zp (i % l.length) hlt rfl ?_
 dsimp only [Uq,U32,go_sem,rA,rM,rS]
 unfold atF
 rw [List.getElem?_eq_getElem hlt]
theorem YZ (l:List W32) (i:Int) (k:Nat) (h:i=k) (hl:l.length<=9223372036854775807) (hi:k<=1000000) (c:Bool):Ct Tryz.prog 33 [.sl c 1 (l.map Uq),I i] (U32 (atF l k)):=by
 rw [h];exact at_ok l k hl hi c
theorem Zv6 (s:Span) (n:Int) (h1:0<=s.lo) (h2:s.lo<=s.hi) (h3:s.hi<=1000000000) (hn:0<=n/\n < 4294967296):Ct Tryz.prog 32 [.agg (Zd s),U32 n] (I (YY s n)):=by
 refine t32.1 (by simp [Zd,U32,KFL,KF]) (by simp [KFL,KF]) ?_
 dsimp only [c32,r32,Zd,U32,go_sem,rA,rM,rS]
 rw [Zf (n:=n) (by omega) (by omega),Zf (n:=s.hi - s.lo) (by omega) (by omega),Zf (n:=s.hi - s.lo+1) (by omega) (by omega)]
 refine Zir (by omega) ?_
 dsimp only [go_sem,rA,rM,rS]
 simp only [Zof]
 have hr:0<=n.tmod (s.hi - s.lo+1)/\n.tmod (s.hi - s.lo+1) < s.hi - s.lo+1:=⟨Int.tmod_nonneg _ (by omega),Int.tmod_lt_of_pos _ (by omega)⟩
 unfold YY
 generalize n.tmod (s.hi - s.lo+1)=r at *
 rw [Zf (n:=s.lo+r) (by omega) (by omega)]
theorem Yk (s:Span) (n:Int) (h1:0<=s.lo) (h2:s.lo<=s.hi) (h3:s.hi<=1000000000) (hn:0<=n/\n < 4294967296):Ct Tryz.prog 32 [.agg [I s.lo,I s.hi],U32 n] (I (YY s n)):=Zv6 s n h1 h2 h3 hn
theorem Zas (b:Breed) (t:Truth) (x load:Int) (hb:Zx b=true) (ht:Tbd t) (hx:0<=x/\x<=1000000) (hl:0<=load/\load<=12000000):Ct Tryz.prog 34 [.agg (ZN t),.agg (Cm.breedL b),I x,I load] (B (carT b x load t)):=by
 have hbb:=Cm.breed_bd hb
 obtain ⟨t1,t2,t3⟩:=ht
 have q1:=Xg (a:=load * 100000) (b:=b.full) (A:=1200000000000) (B:=1000000) (by omega) (by omega) (by omega) (by omega)
 have q2:=Xg (a:=x * 2) (b:=t.water) (A:=2000000) (B:=100000000000) (by omega) (by omega) (by omega) (by omega)
 have q3:=Xg (a:=load * 100000) (b:=b.fed) (A:=1200000000000) (B:=1000000) (by omega) (by omega) (by omega) (by omega)
 have q4:=Xg (a:=x * 2) (b:=t.fat) (A:=2000000) (B:=100000000000) (by omega) (by omega) (by omega) (by omega)
 have q5:=Xg (a:=x) (b:=1000000000 - t.sore) (A:=1000000) (B:=1000000000) (by omega) (by omega) (by omega) (by omega)
 refine tw34.1 (by simp [ZN,Cm.breedL,KFL,KF]) (by simp [KFL,KF]) ?_
 dsimp only [cw34,rw34,ZN,Cm.breedL,go_sem,rA,rM,rS]
 simp (disch:=omega) only [Zf]
 repeat (refine gb ?_;dsimp only [go_sem,rA,rM,rS])
 simp (disch:=omega) only [Zf]
 rfl
theorem Zox (b:Breed) (m:March) (t:Truth) (ns:List W32) (i:Nat) (kk:Bool) (hns:ns.length<=9223372036854775807) (hi:i<=900000) (hb:Zx b=true) (hm:ZY m=true) (ht:Tbd t) (k:Bool) :
 CtM Tryz.prog 35 [(0,.cells (ZN t) 77)] 1 [.p 0 0,.agg (Cm.breedL b),B kk,.agg (Cm.marchL m),.sl k 1 (ns.map Uq),I i] (fun o=>∃ u:Truth,(XJ (pkS b m ns i) kk m t=true->u=goT (pkS b m ns i) b kk m t)/\o=⟨false,B (XJ (pkS b m ns i) kk m t),[(0,.cells (ZN u) 77)],1⟩):=by
 refine mw35 (by simp [hpb]) (fun o ho=>by obtain ⟨u,_,rfl⟩:=ho;simp [KX,KXL,KXP,KXH,Za,KFL,KF,ZN]) ?_
 have hbb:=Cm.breed_bd hb
 have hmm:=Cm.march_bd hm
 obtain ⟨hw0,hw1⟩:=Cm.work_bd hm
 obtain ⟨p,hpe⟩:∃ p,p=pkS b m ns i:=⟨_,rfl⟩
 rw [<- hpe]
 have v_rest:=Ya ns i
 have b_rest:b.rest.lo<=p.rest/\p.rest<=b.rest.hi:=by rw [hpe];exact Yh (by omega) v_rest.1
 have c_rest:Ct Tryz.prog 32 [.agg [I b.rest.lo,I b.rest.hi],U32 (atF ns i)] (I p.rest):=by rw [hpe];exact Yk b.rest _ (by omega) (by omega) (by omega) v_rest
 have v_heat:=Ya ns (i+1)
 have b_heat:b.heat.lo<=p.heat/\p.heat<=b.heat.hi:=by rw [hpe];exact Yh (by omega) v_heat.1
 have c_heat:Ct Tryz.prog 32 [.agg [I b.heat.lo,I b.heat.hi],U32 (atF ns (i+1))] (I p.heat):=by rw [hpe];exact Yk b.heat _ (by omega) (by omega) (by omega) v_heat
 have v_mheat:=Ya ns (i+2)
 have b_mheat:m.heat.lo<=p.mheat/\p.mheat<=m.heat.hi:=by rw [hpe];exact Yh (by omega) v_mheat.1
 have c_mheat:Ct Tryz.prog 32 [.agg [I m.heat.lo,I m.heat.hi],U32 (atF ns (i+2))] (I p.mheat):=by rw [hpe];exact Yk m.heat _ (by omega) (by omega) (by omega) v_mheat
 have v_toil:=Ya ns (i+3)
 have b_toil:b.toil.lo<=p.toil/\p.toil<=b.toil.hi:=by rw [hpe];exact Yh (by omega) v_toil.1
 have c_toil:Ct Tryz.prog 32 [.agg [I b.toil.lo,I b.toil.hi],U32 (atF ns (i+3))] (I p.toil):=by rw [hpe];exact Yk b.toil _ (by omega) (by omega) (by omega) v_toil
 have v_milk:=Ya ns (i+4)
 have b_milk:b.milk.lo<=p.milk/\p.milk<=b.milk.hi:=by rw [hpe];exact Yh (by omega) v_milk.1
 have c_milk:Ct Tryz.prog 32 [.agg [I b.milk.lo,I b.milk.hi],U32 (atF ns (i+4))] (I p.milk):=by rw [hpe];exact Yk b.milk _ (by omega) (by omega) (by omega) v_milk
 have v_burn:=Ya ns (i+5)
 have b_burn:b.burn.lo<=p.burn/\p.burn<=b.burn.hi:=by rw [hpe];exact Yh (by omega) v_burn.1
 have c_burn:Ct Tryz.prog 32 [.agg [I b.burn.lo,I b.burn.hi],U32 (atF ns (i+5))] (I p.burn):=by rw [hpe];exact Yk b.burn _ (by omega) (by omega) (by omega) v_burn
 have v_grass:=Ya ns (i+6)
 have b_grass:m.grass.lo<=p.grass/\p.grass<=m.grass.hi:=by rw [hpe];exact Yh (by omega) v_grass.1
 have c_grass:Ct Tryz.prog 32 [.agg [I m.grass.lo,I m.grass.hi],U32 (atF ns (i+6))] (I p.grass):=by rw [hpe];exact Yk m.grass _ (by omega) (by omega) (by omega) v_grass
 have v_rub:=Ya ns (i+7)
 have b_rub:b.rub.lo<=p.rub/\p.rub<=b.rub.hi:=by rw [hpe];exact Yh (by omega) v_rub.1
 have c_rub:Ct Tryz.prog 32 [.agg [I b.rub.lo,I b.rub.hi],U32 (atF ns (i+7))] (I p.rub):=by rw [hpe];exact Yk b.rub _ (by omega) (by omega) (by omega) v_rub
 obtain ⟨t1,t2,t3⟩:=ht
 have q1:=Xg (a:=p.heat) (b:=max 0 (p.mheat - 20)) (A:=100000) (B:=40) (by omega) (by omega) (by omega) (by omega)
 have q2:=Xg (a:=p.toil) (b:=ZB m) (A:=100000) (B:=26400000) (by omega) (by omega) hw0 hw1
 have q3:=Xg (a:=p.burn) (b:=ZB m) (A:=100000) (B:=26400000) (by omega) (by omega) hw0 hw1
 have q4:=Xg (a:=p.rub) (b:=m.hours) (A:=100000) (B:=24) (by omega) (by omega) (by omega) (by omega)
 have q5:=Xg (a:=p.rub * m.hours) (b:=m.load) (A:=2400000) (B:=1000000) (by omega) (by omega) (by omega) (by omega)
 dsimp only [cw35,rw35,Cm.breedL,Cm.marchL,ZN,go_sem,rA,rM,rS]
 rw [Zf (n:=100000+m.load) (by omega) (by omega),show m.hours * (100000+m.load)=ZB m from rfl,Zf (n:=ZB m) (by omega) (by omega)]
 refine call (YZ ns _ i (by omega) hns (by omega) k) ?_
 dsimp only [U32,go_sem,rA,rM,rS]
 refine call c_rest ?_
 dsimp only [go_sem,rA,rM,rS]
 try simp (disch:=omega) only [Zf]
 refine call (YZ ns _ (i+1) (by omega) hns (by omega) k) ?_
 dsimp only [U32,go_sem,rA,rM,rS]
 refine call c_heat ?_
 dsimp only [go_sem,rA,rM,rS]
 try simp (disch:=omega) only [Zf]
 refine call (YZ ns _ (i+2) (by omega) hns (by omega) k) ?_
 dsimp only [U32,go_sem,rA,rM,rS]
 refine call c_mheat ?_
 dsimp only [go_sem,rA,rM,rS]
 try simp (disch:=omega) only [Zf]
 refine call (YZ ns _ (i+3) (by omega) hns (by omega) k) ?_
 dsimp only [U32,go_sem,rA,rM,rS]
 refine call c_toil ?_
 dsimp only [go_sem,rA,rM,rS]
 try simp (disch:=omega) only [Zf]
 cases kk with
 | true =>
  refine Zv rfl ?_
  dsimp only [go_sem,rA,rM,rS]
  try simp (disch:=omega) only [Zf]
  refine call (YZ ns _ (i+4) (by omega) hns (by omega) k) ?_
  dsimp only [U32,go_sem,rA,rM,rS]
  refine call c_milk ?_
  dsimp only [go_sem,rA,rM,rS]
  try simp (disch:=omega) only [Zf]
  rw [show t.water - (100000 * (p.rest+p.heat * max 0 (p.mheat - 20))+p.toil * ZB m) - 100000 * p.milk=Ve p true m t from rfl]
  have hlw:-10000000000000<=Ve p true m t/\Ve p true m t<=100000000000:=by simp [Ve];omega
  try simp (disch:=omega) only [Zf]
  refine call (YZ ns _ (i+5) (by omega) hns (by omega) k) ?_
  dsimp only [U32,go_sem,rA,rM,rS]
  refine call c_burn ?_
  dsimp only [go_sem,rA,rM,rS]
  try simp (disch:=omega) only [Zf]
  rw [show t.fat - p.burn * ZB m=Vr p m t from rfl]
  have hfw:-10000000000000<=Vr p m t/\Vr p m t<=100000000000:=by simp only [Vr];omega
  repeat (refine gb ?_;dsimp only [go_sem,rA,rM,rS])
  by_cases hl:XJ p true m t=true
  case neg =>
   have hl':XJ p true m t=false:=by simpa using hl
   refine Zv (by simp only [XJ,Bool.and_eq_true,decide_eq_true_eq] at hl;simp;omega) ?_
   (repeat first | dsimp only [go_sem,rA,rM,rS] | simp only [nbr])
   refine ⟨_,⟨⟨Ve p true m t,Vr p m t,t.sore⟩,fun h=>absurd h hl,rfl⟩,?_⟩
   rw [hl']
   (refine Z1 ?_ ?_ ?_ rfl<;>dsimp only [ZN,Cm.breedL,Cm.marchL,id,go_sem,rA,rM,rS]<;>simp [ZN,Cm.breedL,Cm.marchL,Za,Ze,KFR,KFL,KF,Zc,mtO,nbr])
  refine Zw (by have:=hl;simp only [XJ,Bool.and_eq_true,decide_eq_true_eq] at this;simp;omega) ?_
  (repeat first | dsimp only [go_sem,rA,rM,rS] | simp only [nbr])
  have hl2:=hl
  simp only [XJ,Bool.and_eq_true,decide_eq_true_eq] at hl2
  try simp (disch:=omega) only [Zf]
  refine call (YZ ns _ (i+6) (by omega) hns (by omega) k) ?_
  dsimp only [U32,go_sem,rA,rM,rS]
  refine call c_grass ?_
  dsimp only [go_sem,rA,rM,rS]
  try simp (disch:=omega) only [Zf]
  try simp (disch:=omega) only [Zf]
  refine call (YZ ns _ (i+7) (by omega) hns (by omega) k) ?_
  dsimp only [U32,go_sem,rA,rM,rS]
  refine call c_rub ?_
  dsimp only [go_sem,rA,rM,rS]
  try simp (disch:=omega) only [Zf]
  (repeat first | dsimp only [go_sem,rA,rM,rS] | simp only [nbr])
  refine ⟨_,⟨goT p b true m t,fun _=>rfl,rfl⟩,?_⟩
  rw [hl]
  (refine Z1 ?_ ?_ ?_ rfl<;>dsimp only [ZN,goT,Cm.breedL,Cm.marchL,id,go_sem,rA,rM,rS]<;>simp [ZN,goT,Cm.breedL,Cm.marchL,Za,Ze,KFR,KFL,KF,Zc,mtO,nbr])
 | false =>
  refine Zw rfl ?_
  dsimp only [go_sem,rA,rM,rS]
  rw [show t.water - (100000 * (p.rest+p.heat * max 0 (p.mheat - 20))+p.toil * ZB m)=Ve p false m t from rfl]
  have hlw:-10000000000000<=Ve p false m t/\Ve p false m t<=100000000000:=by simp [Ve];omega
  try simp (disch:=omega) only [Zf]
  refine call (YZ ns _ (i+5) (by omega) hns (by omega) k) ?_
  dsimp only [U32,go_sem,rA,rM,rS]
  refine call c_burn ?_
  dsimp only [go_sem,rA,rM,rS]
  try simp (disch:=omega) only [Zf]
  rw [show t.fat - p.burn * ZB m=Vr p m t from rfl]
  have hfw:-10000000000000<=Vr p m t/\Vr p m t<=100000000000:=by simp only [Vr];omega
  repeat (refine gb ?_;dsimp only [go_sem,rA,rM,rS])
  by_cases hl:XJ p false m t=true
  case neg =>
   have hl':XJ p false m t=false:=by simpa using hl
   refine Zv (by simp only [XJ,Bool.and_eq_true,decide_eq_true_eq] at hl;simp;omega) ?_
   (repeat first | dsimp only [go_sem,rA,rM,rS] | simp only [nbr])
   refine ⟨_,⟨⟨Ve p false m t,Vr p m t,t.sore⟩,fun h=>absurd h hl,rfl⟩,?_⟩
   rw [hl']
   (refine Z1 ?_ ?_ ?_ rfl<;>dsimp only [ZN,Cm.breedL,Cm.marchL,id,go_sem,rA,rM,rS]<;>simp [ZN,Cm.breedL,Cm.marchL,Za,Ze,KFR,KFL,KF,Zc,mtO,nbr])
  refine Zw (by have:=hl;simp only [XJ,Bool.and_eq_true,decide_eq_true_eq] at this;simp;omega) ?_
  (repeat first | dsimp only [go_sem,rA,rM,rS] | simp only [nbr])
  have hl2:=hl
  simp only [XJ,Bool.and_eq_true,decide_eq_true_eq] at hl2
  try simp (disch:=omega) only [Zf]
  refine call (YZ ns _ (i+6) (by omega) hns (by omega) k) ?_
  dsimp only [U32,go_sem,rA,rM,rS]
  refine call c_grass ?_
  dsimp only [go_sem,rA,rM,rS]
  try simp (disch:=omega) only [Zf]
  try simp (disch:=omega) only [Zf]
  refine call (YZ ns _ (i+7) (by omega) hns (by omega) k) ?_
  dsimp only [U32,go_sem,rA,rM,rS]
  refine call c_rub ?_
  dsimp only [go_sem,rA,rM,rS]
  try simp (disch:=omega) only [Zf]
  (repeat first | dsimp only [go_sem,rA,rM,rS] | simp only [nbr])
  refine ⟨_,⟨goT p b false m t,fun _=>rfl,rfl⟩,?_⟩
  rw [hl]
  (refine Z1 ?_ ?_ ?_ rfl<;>dsimp only [ZN,goT,Cm.breedL,Cm.marchL,id,go_sem,rA,rM,rS]<;>simp [ZN,goT,Cm.breedL,Cm.marchL,Za,Ze,KFR,KFL,KF,Zc,mtO,nbr])
theorem Zdi (s:Season) (p:Plan) (sc:Int) (hsc:0<=sc/\sc < 256) (ns:List W32) (hns:ns.length<=9223372036854775807):Ct Tryz.prog 6 [.agg (Zr s),.agg (ZC p),U8 sc,.sl false 1 (ns.map Uq)] (B true):=by
 refine tw6.1 (by simp [Zr,ZC,Zj,Zg,Zm,Zh,Zd,Zo,Za,Uq,U32,KFL,KF]) (by simp [KFL,KF]) ?_
 dsimp only [cw6,rw6,Zr,ZC,go_sem,rA,rM,rS]
 refine call Zrp ?_
 dsimp only [go_sem,rA,rM,rS]
 refine Zw rfl ?_
 dsimp only [go_sem,rA,rM,rS]
 refine call (ZnB s p) ?_
 dsimp only [go_sem,rA,rM,rS]
 by_cases hr:WQ s p=true
 case neg =>
  refine Zv (by simpa using hr) ?_
  dsimp only [go_sem,rA,rM,rS]
 refine Zw (by simpa using hr) ?_
 dsimp only [go_sem,rA,rM,rS]
 obtain ⟨hgr,h,hlegs,hp,htill⟩:=Zha hr
 have hn:=h.num
 have hst:=h.start
 have hs4:=h.scs
 have hbb:=Cm.breed_bd h.beast.1
 have hcc:=h.beast.2
 simp only [Zu,Z6,Bool.and_eq_true,decide_eq_true_eq] at hcc
 have hpc:=h.pace
 simp only [ZX,Z6,decide_eq_true_eq] at hpc
 obtain ⟨_,hpl⟩:=VB hp
 obtain ⟨mto,hmto,hto⟩:=ZzP h hp
 refine call (VN s h.small p (by omega)) ?_
 dsimp only [Zcu,go_sem,rA,rM,rS]
 obtain ⟨hH0,hH1⟩:=ZcB h.ok hp
 rw [hH0]
 repeat (refine gb ?_;dsimp only [go_sem,rA,rM,rS])
 by_cases hw0:(Yr s p).1=0
 case neg =>
  refine Zv (by simpa using hw0) ?_
  dsimp only [go_sem,rA,rM,rS]
  repeat (refine gb ?_;dsimp only [go_sem,rA,rM,rS])
  rfl
 refine Zw (by simpa using hw0) ?_
 dsimp only [go_sem,rA,rM,rS]
 have hfa:=hH1.1 hw0
 have hwo:=Zel s h.small p (by omega)
 rw [ZlA h.ok hp hfa hto] at hwo
 refine call hwo ?_
 dsimp only [go_sem,rA,rM,rS]
 refine Zw rfl ?_
 dsimp only [go_sem,rA,rM,rS]
 simp only [List.length_map]
 refine Zir (by omega) ?_
 dsimp only [go_sem,rA,rM,rS]
 have hrem:0<=sc.tmod s.scenes.length/\sc.tmod s.scenes.length < s.scenes.length:=⟨Int.tmod_nonneg _ hsc.1,Int.tmod_lt_of_pos _ (by omega)⟩
 obtain ⟨k,hk⟩:∃ k:Nat,sc.tmod s.scenes.length=k:=⟨(sc.tmod s.scenes.length).toNat,by omega⟩
 have hdv:Zof .rem .i64 (IntKind.i64.wrap sc) s.scenes.length=(k:Int):=by
  rw [Zf (n:=sc) (by omega) (by omega)]
  exact hk
 rw [hdv]
 have hklt:k < s.scenes.length:=by omega
 refine Zp k hklt rfl ?_
 dsimp only [Zj,go_sem,rA,rM,rS]
 have hf:=hfa _ (List.getElem_mem hklt)
 have hsure:W7 s p.legs=true:=by
  unfold XI at hf
  split at hf
  . simp at hf
  . rename_i q;simpa using q
 obtain ⟨ht,hl,hwk⟩:=Zkh h hp hsure
 have hsi:(ZJ s p.legs).length=0\/(Zd3 (ZJ s p.legs)).arrives.hi<=s.till:=by
  simp only [W7,Bool.and_eq_true,Bool.or_eq_true,decide_eq_true_eq] at hsure;exact hsure.2
 have hx:=h.scene _ (List.getElem_mem hklt)
 have hy:s.scenes[k].yields.length=s.land.wells.length:=by simp only [Z9,Bool.and_eq_true,decide_eq_true_eq] at hx;omega
 have hyl:∀ (u:Nat) (hu:u < s.scenes[k].yields.length),0<=(s.scenes[k].yields[u]).lo/\(s.scenes[k].yields[u]).lo<=(s.scenes[k].yields[u]).hi/\(s.scenes[k].yields[u]).hi<=10000000:=fun u hu=>by
  simp only [Z9,Bool.and_eq_true,List.all_eq_true] at hx
  have:=hx.1.2 _ (List.getElem_mem hu)
  simpa [Z6] using this
 have hb:0<=p.slabs * s.slab/\p.slabs * s.slab<=12 * 1000000:=⟨Int.mul_nonneg hpl.2.2.1 (by omega),Int.mul_le_mul hpl.2.2.2 (by omega) (by omega) (by decide)⟩
 have hhis:=(Zk0 h.lp ht (by omega)).1
 have hgF:p.animals≠0->(goF s s.scenes[k] p.slabs (ZJ s p.legs)).1=0/\∀ q ∈ (goF s s.scenes[k] p.slabs (ZJ s p.legs)).2.2,p.animals * q.1<=q.2:=fun hn0=>((ZuW (a:=p.legs) (k:=p.slabs) hn0).1 hf).2
 generalize hS:ZJ s p.legs=S at *
 have pk0:=Yh (s:=s.camel.water) (n:=atF ns 0) (by omega) (Ya ns 0).1
 have pk1:=Yh (s:=s.camel.fat) (n:=atF ns 1) (by omega) (Ya ns 1).1
 have pk2:=Yh (s:=s.camel.sore) (n:=atF ns 2) (by omega) (Ya ns 2).1
 have pk3:=Yh (s:=s.breed.strong) (n:=atF ns 3) (by omega) (Ya ns 3).1
 refine call (YZ ns _ 0 (by omega) hns (by omega) false) ?_
 dsimp only [U32,go_sem,rA,rM,rS]
 refine call (Yk s.camel.water _ (by omega) (by omega) (by omega) (Ya ns 0)) ?_
 dsimp only [go_sem,rA,rM,rS]
 refine call (YZ ns _ 1 (by omega) hns (by omega) false) ?_
 dsimp only [U32,go_sem,rA,rM,rS]
 refine call (Yk s.camel.fat _ (by omega) (by omega) (by omega) (Ya ns 1)) ?_
 dsimp only [go_sem,rA,rM,rS]
 refine call (YZ ns _ 2 (by omega) hns (by omega) false) ?_
 dsimp only [U32,go_sem,rA,rM,rS]
 refine call (Yk s.camel.sore _ (by omega) (by omega) (by omega) (Ya ns 2)) ?_
 dsimp only [go_sem,rA,rM,rS]
 simp (disch:=omega) only [Zf]
 refine call (YZ ns _ 3 (by omega) hns (by omega) false) ?_
 dsimp only [U32,go_sem,rA,rM,rS]
 refine call (Yk s.breed.strong _ (by omega) (by omega) (by omega) (Ya ns 3)) ?_
 dsimp only [go_sem,rA,rM,rS]
 obtain ⟨xs,hxs⟩:∃ xs,xs=YY s.breed.strong (atF ns 3):=⟨_,rfl⟩
 rw [<- hxs] at pk3 ⊢
 obtain ⟨t0,ht0⟩:∃ t0:Truth,t0=⟨100000 * YY s.camel.water (atF ns 0),100000 * YY s.camel.fat (atF ns 1),1000000 * YY s.camel.sore (atF ns 2)⟩:=⟨_,rfl⟩
 have hT0:Tin t0 s.camel:=by rw [ht0];exact ⟨by simp only;omega,by simp only;omega,by simp only;omega⟩
 have hcl0:[I (100000 * YY s.camel.water (atF ns 0)),I (100000 * YY s.camel.fat (atF ns 1)),I (1000000 * YY s.camel.sore (atF ns 2))]=ZN t0:=by rw [ht0];rfl
 have hc0:=Zas s.breed t0 xs (p.slabs * s.slab) h.beast.1 (Zf2 h.beast.1 h.beast.2 hT0) (by omega) (by omega)
 rw [<- hcl0] at hc0
 repeat (first | (refine gb ?_;dsimp only [go_sem,rA,rM,rS]) | (refine call hc0 ?_;dsimp only [go_sem,rA,rM,rS]))
 try simp only [List.length_map]
 refine Zw ?_ ?_
 . by_cases hz:p.animals > 0/\p.legs.length=0
   . have hS0:S=[]:=List.eq_nil_of_length_eq_zero (by omega)
     have hg:=(hgF (by omega)).1
     rw [hS0] at hg
     unfold goF at hg
     rw [if_pos rfl] at hg
     simp only at hg
     split at hg
     . simp at hg
     . rename_i hle
       rw [Ziz h.beast.1 h.beast.2 hT0 pk3 (by omega)];simp
   . by_cases hz1:p.animals > 0
     . have:¬ p.legs.length=0:=fun e=>hz ⟨hz1,e⟩
       have h2:p.legs≠[]:=fun e=>this (by rw [e];rfl)
       simp [h2]
     . simp [show ¬ (0 < p.animals) from by omega]
 dsimp only [go_sem,rA,rM,rS]
 simp only [List.length_map]
 rw [hcl0]
 have hdr0:(XB s s.scenes[k] p.slabs).drinks=⟨0,0⟩:=rfl
 have hgo:goF s s.scenes[k] p.slabs S=goG s s.scenes[k] p.slabs S 0 s.camel []\/S=[]:=by
  unfold goF;split
  . rename_i q;exact .inr q
  . exact .inl rfl
 have hwl0:=h.land
 simp only [ZM,inR,Bool.and_eq_true,decide_eq_true_eq,List.all_eq_true] at hwl0
 refine WH [3,4,5,9,14,16,17,18,19,20,21,22,23,151,152,153] rfl
  (fun q:Nat × Int × Int × Int × Int × Camel × Truth × List (Int × Int) × List Int=>[(153,I q.1),(18,I q.2.2.2.2.1),(19,I q.2.1)]) (fun q=>[(3,.cells (ZN q.2.2.2.2.2.2.1) 77)])
  (fun q=>q.1<=S.length/\Trk s.land s.pace q.2.1 q.2.2.1 q.2.2.2.1 (p.legs.drop q.1) (S.drop q.1)/\YH s.land q.2.1 q.2.2.2.2.2.2.2.2 (p.legs.drop q.1)=some (mto:Int)/\(0<=q.2.2.1/\q.2.2.1<=q.2.2.2.2.1/\q.2.2.2.2.1<=q.2.2.2.1/\q.2.2.2.1<=100000) /\
   (0<=q.2.1/\q.2.1 < s.land.wells.length)/\(p.animals > 0->q.1 < S.length->Zu s.breed q.2.2.2.2.2.1=true/\q.2.2.2.2.2.1.milks=s.camel.milks/\Tin q.2.2.2.2.2.2.1 q.2.2.2.2.2.1 /\
    goG s s.scenes[k] p.slabs (S.drop q.1) q.1 q.2.2.2.2.2.1 q.2.2.2.2.2.2.2.1=goF s s.scenes[k] p.slabs S)) (fun q=>S.length - q.1)
  (0,s.start,s.day,s.day,s.day,s.camel,t0,[],[s.start]) ⟨Nat.zero_le _,ht,hto,by simp only;omega,hst,fun _ hlt=>⟨h.beast.2,rfl,hT0,(hgo.resolve_right (fun e=>by rw [e] at hlt;simp at hlt)).symm⟩⟩ ?_ ?_
 . (refine Zl ?_ ?_ ?_ rfl rfl<;>dsimp only [Cm.camelL,Cm.marchL,Cm.breedL,ZN,Zg,Zm,Zh,Zj,Zd,Zo,Uq,U32,id,go_sem,rA,rM,rS]<;>simp [Cm.camelL,Cm.marchL,Cm.breedL,ZN,Zg,Zm,Zh,Zj,Zd,Zo,Uq,U32,Za,Ze,KFR,KFL,KF,Zc,mtO,nbr])
 rintro ⟨i,v,a,b,now,c,t,acc,been⟩ ⟨hi0,htk,hgl,hdays,hv,hcam⟩
 simp only at hi0 htk hgl hdays hv hcam
 dsimp only [ZN,go_sem,rA,rM,rS]
 by_cases hilt:i < S.length
 case neg =>
  refine Zw (by simp;omega) ?_
  dsimp only [go_sem,rA,rM,rS]
  rw [List.drop_eq_nil_of_le (by omega),YH,Option.some.injEq] at hgl
  subst hgl
  obtain ⟨hq,_⟩:=UL h hklt (m:=mto) hmto
  refine Zp mto hq rfl ?_
  dsimp only [Zo,go_sem,rA,rM,rS]
  obtain ⟨hww,_⟩:=Zfm h hp hklt hmto hq
  rw [hww]
  repeat (refine gb ?_;dsimp only [go_sem,rA,rM,rS])
  have hge:ZcD s p mto<=V6 s p mto s.scenes[k]:=ZiH (List.mem_map.2 ⟨_,List.getElem_mem hklt,rfl⟩)
  simp;omega
 have hil:i < p.legs.length:=by omega
 refine Zv (by simpa using hil) ?_
 dsimp only [go_sem,rA,rM,rS]
 refine Zp i hil rfl ?_
 dsimp only [Zo,go_sem,rA,rM,rS]
 have hnexti:IntKind.i64.wrap ((i:Int)+1)=((i+1:Nat):Int):=by rw [Zf (by omega) (by omega)];omega
 rw [List.drop_eq_getElem_cons hil,List.drop_eq_getElem_cons hilt] at htk
 obtain ⟨kk,x,hkk,hxx,hox,hrx,hSi,htk'⟩:=htk
 rw [List.drop_eq_getElem_cons hil,YH,hkk,Zc9,hxx] at hgl
 simp only at hgl
 rw [if_neg (by omega)] at hgl
 split at hgl
 . cases hgl
 obtain ⟨hkl,hxe⟩:=List.getElem?_eq_some_iff.1 hxx
 have hgood:=h.lp.leg hxx
 have hgl1:=hgood.l1
 have hgl2:=hgood.l2
 have hgl3:=hgood.l3
 have hoin:=ZW (v:=v) h.lp hxx (by omega)
 have hSh:S[i].arrives.hi=ZK true x s.pace b/\S[i].arrives.lo=ZK false x s.pace a/\S[i].well=Zk x v/\S[i].leg=(kk:Int):=by rw [hSi];exact ⟨rfl,rfl,rfl,rfl⟩
 rw [hkk]
 refine Zp kk hkl rfl ?_
 rw [hxe]
 dsimp only [Zm,go_sem,rA,rM,rS]
 try simp (disch:=omega) only [Zf]
 refine call (YZ ns _ (4 * i+4) (by omega) hns (by omega) false) ?_
 dsimp only [U32,go_sem,rA,rM,rS]
 refine call (Yk s.pace _ (by omega) (by omega) (by omega) (Ya ns (4 * i+4))) ?_
 dsimp only [go_sem,rA,rM,rS]
 have pkp:=Yh (s:=s.pace) (n:=atF ns (4 * i+4)) (by omega) (Ya ns (4 * i+4)).1
 have pkl:=Yh (s:=x.long) (n:=atF ns (4 * i+5)) (by omega) (Ya ns (4 * i+5)).1
 try simp (disch:=omega) only [Zf]
 refine call (YZ ns _ (4 * i+5) (by omega) hns (by omega) false) ?_
 dsimp only [U32,go_sem,rA,rM,rS]
 refine call (Yk x.long _ (by omega) (by omega) (by omega) (Ya ns (4 * i+5))) ?_
 dsimp only [go_sem,rA,rM,rS]
 generalize YY s.pace (atF ns (4 * i+4))=pc at *
 generalize YY x.long (atF ns (4 * i+5))=lg at *
 try simp (disch:=omega) only [Zf]
 refine Zir (by omega) ?_
 dsimp only [go_sem,rA,rM,rS]
 have hnin:=nK_in hgood h.pace (a:=lg) (q:=pc) (by omega) (by omega) (by omega) (by omega)
 have hnb1:=ZeF (k:=true) hgood h.pace
 have hnb0:=ZeF (k:=false) hgood h.pace
 try simp only [Zof]
 obtain ⟨n,hnn⟩:∃ n,n=(lg+pc - 1).tdiv pc:=⟨_,rfl⟩
 rw [<- hnn] at hnin ⊢
 rw [Zf (n:=n) (by omega) (by omega)]
 have hA0:=Vs (k:=false) hgood h.pace (show a<=100001 from by omega)
 have hgt:=Zz2 (ns:=ns) (i:=i) hgood h.pace hdays.1 hdays.2.1 hdays.2.2.1 hnin.1 hnin.2 hrx
 simp only [List.length_map]
 have hgm:=YQ hgood.g2 (Int.le_refl _)
 have hgl6:=hgood.g1
 refine WH [3,4,5,9,14,16,17,18,19,20,21,22,23,151,152,153,24,25,26,28,29,186,187,188] rfl (fun q:Nat × Int=>[(188,I q.1),(29,I q.2)]) (fun _=>[])
  (fun q=>q.1<=x.gates.length/\Zco n now (fun g=>g.opens.lo) (fun g=>g.shuts.lo) q.2 (Vn ns i q.1 (x.gates.drop q.1))=V7 now n (Vn ns i 0 x.gates)/\0<=q.2/\q.2<=100001) (fun q=>x.gates.length - q.1) (0,100001) ⟨Nat.zero_le _,rfl,by simp only;omega,by simp only;omega⟩ ?_ ?_
 . (refine Zl ?_ ?_ ?_ rfl rfl<;>dsimp only [Cm.camelL,Cm.marchL,Cm.breedL,ZN,Zg,Zm,Zh,Zj,Zd,Zo,Uq,U32,id,go_sem,rA,rM,rS]<;>simp [Cm.camelL,Cm.marchL,Cm.breedL,ZN,Zg,Zm,Zh,Zj,Zd,Zo,Uq,U32,Za,Ze,KFR,KFL,KF,Zc,mtO,nbr])
 rintro ⟨j,lv⟩ ⟨hj0,hj1,hj2,hj3⟩
 simp only at hj0 hj1 hj2 hj3
 dsimp only [go_sem,rA,rM,rS]
 by_cases hjlt:j < x.gates.length
 . refine Zv (by simpa using hjlt) ?_
   dsimp only [go_sem,rA,rM,rS]
   refine Zp j hjlt rfl ?_
   dsimp only [Zh,go_sem,rA,rM,rS]
   rw [List.drop_eq_getElem_cons hjlt,Vn,Zco] at hj1
   have hgj:=hgm _ (List.getElem_mem hjlt)
   try simp (disch:=omega) only [Zf]
   refine call (YZ ns _ (2 * i+3 * j) (by omega) hns (by omega) false) ?_
   dsimp only [U32,go_sem,rA,rM,rS]
   refine call (Yk (x.gates[j]).opens _ (by omega) (by omega) (by omega) (Ya ns (2 * i+3 * j))) ?_
   dsimp only [go_sem,rA,rM,rS]
   try simp (disch:=omega) only [Zf]
   refine call (YZ ns _ (2 * i+3 * j+1) (by omega) hns (by omega) false) ?_
   dsimp only [U32,go_sem,rA,rM,rS]
   refine call (Yk (x.gates[j]).shuts _ (by omega) (by omega) (by omega) (Ya ns (2 * i+3 * j+1))) ?_
   dsimp only [go_sem,rA,rM,rS]
   have po:=Yh (s:=(x.gates[j]).opens) (n:=atF ns (2 * i+3 * j)) (by omega) (Ya ns _).1
   have ps:=Yh (s:=(x.gates[j]).shuts) (n:=atF ns (2 * i+3 * j+1)) (by omega) (Ya ns _).1
   generalize YY (x.gates[j]).opens (atF ns (2 * i+3 * j))=op at *
   generalize YY (x.gates[j]).shuts (atF ns (2 * i+3 * j+1))=sh at *
   have hnj:IntKind.i64.wrap ((j:Int)+1)=((j+1:Nat):Int):=by rw [Zf (by omega) (by omega)];omega
   rw [Zf (n:=max now op+n) (by omega) (by omega),Zf (n:=max now op+n - 1) (by omega) (by omega)]
   simp only at hj1
   by_cases hsh:max now op+n - 1<=sh
   . refine Zv (by simpa using hsh) ?_
     dsimp only [go_sem,rA,rM,rS]
     rw [hnj]
     rw [if_pos hsh,show min (min lv (max now op)) 100001=min lv (max now op) from by omega] at hj1
     refine ⟨(j+1,min lv (max now op)),⟨hjlt,hj1,by simp only;omega,by simp only;omega⟩,by simp only;omega,?_⟩
     (refine Zl ?_ ?_ ?_ rfl rfl<;>dsimp only [Cm.camelL,Cm.marchL,Cm.breedL,ZN,Zg,Zm,Zh,Zj,Zd,Zo,Uq,U32,id,go_sem,rA,rM,rS]<;>simp [Cm.camelL,Cm.marchL,Cm.breedL,ZN,Zg,Zm,Zh,Zj,Zd,Zo,Uq,U32,Za,Ze,KFR,KFL,KF,Zc,mtO,nbr])
   . refine Zw (by simpa using hsh) ?_
     dsimp only [go_sem,rA,rM,rS]
     rw [hnj]
     rw [if_neg hsh] at hj1
     refine ⟨(j+1,lv),⟨hjlt,hj1,hj2,hj3⟩,by simp only;omega,?_⟩
     (refine Zl ?_ ?_ ?_ rfl rfl<;>dsimp only [Cm.camelL,Cm.marchL,Cm.breedL,ZN,Zg,Zm,Zh,Zj,Zd,Zo,Uq,U32,id,go_sem,rA,rM,rS]<;>simp [Cm.camelL,Cm.marchL,Cm.breedL,ZN,Zg,Zm,Zh,Zj,Zd,Zo,Uq,U32,Za,Ze,KFR,KFL,KF,Zc,mtO,nbr])
 refine Zw (by simp;omega) ?_
 dsimp only [go_sem,rA,rM,rS]
 rw [List.drop_eq_nil_of_le (by omega),Vn,Zco] at hj1
 rw [<- hj1] at hgt
 rw [Zf (n:=lv+n) (by omega) (by omega)]
 have hoth:IntKind.i64.wrap (IntKind.i64.wrap (x.a+x.b) - v)=Zk x v:=by
  rw [Zf (n:=x.a+x.b) (by omega) (by omega),Zf (by omega) (by omega)]
  omega
 rw [hoth]
 have hti:=Zkg hhis hsi hilt
 rw [hSh.1] at hti
 refine Zw (by simp;omega) ?_
 dsimp only [go_sem,rA,rM,rS]
 by_cases hsome:p.animals > 0
 case neg =>
  refine Zv (by simp;omega) ?_
  dsimp only [go_sem,rA,rM,rS]
  rw [hnexti]
  try rw [hnexti]
  refine ⟨(i+1,Zk x v,ZK false x s.pace a,ZK true x s.pace b,lv+n,c,t,acc,Zk x v :: been),⟨hilt,htk',hgl,by simp only;omega,hoin.1,fun q=>absurd q hsome⟩,by simp only;omega,?_⟩
  (refine Zl ?_ ?_ ?_ rfl rfl<;>dsimp only [Cm.camelL,Cm.marchL,Cm.breedL,ZN,Zg,Zm,Zh,Zj,Zd,Zo,Uq,U32,id,go_sem,rA,rM,rS]<;>simp [Cm.camelL,Cm.marchL,Cm.breedL,ZN,Zg,Zm,Zh,Zj,Zd,Zo,Uq,U32,Za,Ze,KFR,KFL,KF,Zc,mtO,nbr])
 refine Zw (by simp;omega) ?_
 dsimp only [go_sem,rA,rM,rS]
 obtain ⟨hc,hmk,htin,hgoG⟩:=hcam hsome hilt
 obtain ⟨hg0,hgq⟩:=hgF (by omega)
 rw [List.drop_eq_getElem_cons hilt,goG,hSh.2.2.2] at hgoG
 have hDe:XL s.land (kk:Int) s.pace=(V2 x s.pace,0):=by
  unfold XL
  rw [if_neg (by simp [ZaE,h.land,h.pace]),if_neg (by simp [inR];omega)]
  simp only [Int.toNat_natCast,hxx]
 rw [hDe] at hgoG
 simp only at hgoG
 have hbo:=Zch (x:=s.scenes[k]) (d:=V2 x s.pace) (slabs:=p.slabs) h.beast.1 hc
 by_cases hB0:(Xl s s.scenes[k] (V2 x s.pace) p.slabs c).2=0
 case neg =>
  rw [if_pos hB0] at hgoG
  rw [<- hgoG] at hg0
  exact absurd hg0 hB0
 rw [if_neg (by simpa using hB0)] at hgoG
 obtain ⟨hba,hbs,_⟩:=ZeQ (b:=s.breed) (m:=XB s s.scenes[k] p.slabs) (lo:=(V2 x s.pace).lo) (j:=(V2 x s.pace).hi.toNat) (n:=0) (c:=c) (out:=Xk) hB0
 have hnlo:(V2 x s.pace).lo=nK false x s.pace:=rfl
 have hnhi:(V2 x s.pace).hi=nK true x s.pace:=rfl
 refine WH [3,4,5,9,14,16,17,18,19,20,21,22,23,151,152,153,24,25,26,28,243,244] rfl (fun q:Nat × Truth=>[(244,I q.1)]) (fun q=>[(3,.cells (ZN q.2) 77)])
  (fun q=>q.1<=n.toNat/\Tin q.2 (itC s.breed (XB s s.scenes[k] p.slabs) q.1 c)/\Zu s.breed (itC s.breed (XB s s.scenes[k] p.slabs) q.1 c)=true/\(itC s.breed (XB s s.scenes[k] p.slabs) q.1 c).milks=s.camel.milks) (fun q=>n.toNat - q.1) (0,t) ⟨Nat.zero_le _,htin,hc,hmk⟩ ?_ ?_
 . (refine Zl ?_ ?_ ?_ rfl rfl<;>dsimp only [Cm.camelL,Cm.marchL,Cm.breedL,ZN,Zg,Zm,Zh,Zj,Zd,Zo,Uq,U32,id,go_sem,rA,rM,rS]<;>simp [Cm.camelL,Cm.marchL,Cm.breedL,ZN,Zg,Zm,Zh,Zj,Zd,Zo,Uq,U32,Za,Ze,KFR,KFL,KF,Zc,mtO,nbr])
 rintro ⟨d,t1⟩ ⟨hd0,hd1,hd2,hd3⟩
 simp only at hd0 hd1 hd2 hd3
 dsimp only [ZN,go_sem,rA,rM,rS]
 by_cases hdlt:d < n.toNat
 . refine Zv (by simp;omega) ?_
   dsimp only [go_sem,rA,rM,rS]
   obtain ⟨w1,w2,w3⟩:=hba d (by omega)
   have hmload:(XB s s.scenes[k] p.slabs).load=p.slabs * s.slab:=rfl
   obtain ⟨y1,y2,y3,y4,y5⟩:=Zpu (k:=9 * i+8 * d) ns h.beast.1 hd2 hdr0 (show s.hours≠0 by omega) hd1 w2 w3
   have hcr:=Zas s.breed t1 xs (p.slabs * s.slab) h.beast.1 (Zf2 h.beast.1 hd2 hd1) (by omega) (by omega)
   rw [Ziz h.beast.1 hd2 hd1 pk3 (by omega)] at hcr
   simp only [ZN] at hcr
   refine call hcr ?_
   dsimp only [go_sem,rA,rM,rS]
   iterate 12 (refine Yn rfl ?_;dsimp only [go_sem,rA,rM,rS])
   refine Yn rfl ?_
   dsimp only [go_sem,rA,rM,rS]
   try simp (disch:=omega) only [Zf]
   have hgo1:=Zox s.breed (XB s s.scenes[k] p.slabs) t1 ns (9 * i+8 * d) (itC s.breed (XB s s.scenes[k] p.slabs) d c).milks hns (by omega) h.beast.1 y1 (Zf2 h.beast.1 hd2 hd1) false
   rw [y2] at hgo1
   rw [hd3] at hgo1 y3
   refine YO [3] hgo1 rfl rfl rfl ?_ ?_ ?_
   . (repeat first | dsimp only [ZN,go_sem,rA,rM,rS] | simp only [nbr])
     simp [mtL,mtB,mtS,Za,KFL,KF,Cm.breedL,Cm.marchL,XB,Uq,U32]
   . (repeat first | dsimp only [ZN,go_sem,rA,rM,rS] | simp only [nbr])
     simp
   rintro _ ⟨u,hu,rfl⟩
   (repeat first | dsimp only [ZN,go_sem,rA,rM,rS] | simp only [nbr])
   have hue:=hu rfl
   subst hue
   refine Yn rfl ?_
   (repeat first | dsimp only [go_sem,rA,rM,rS] | simp only [nbr])
   refine Zw rfl ?_
   dsimp only [go_sem,rA,rM,rS]
   rw [Zf (n:=(d:Int)+1) (by omega) (by omega)]
   refine ⟨(d+1,goT (pkS s.breed (XB s s.scenes[k] p.slabs) ns (9 * i+8 * d)) s.breed s.camel.milks (XB s s.scenes[k] p.slabs) t1),⟨by simp only;omega,by simp only;rw [ZaO];exact y3,by simp only;rw [ZaO];exact y4,by simp only;rw [ZaO,y5];exact hd3⟩,by simp only;omega,?_⟩
   (refine Zl ?_ ?_ ?_ rfl rfl<;>dsimp only [Cm.camelL,Cm.marchL,Cm.breedL,ZN,Zg,Zm,Zh,Zj,Zd,Zo,Uq,U32,id,go_sem,rA,rM,rS]<;>simp [Cm.camelL,Cm.marchL,Cm.breedL,ZN,Zg,Zm,Zh,Zj,Zd,Zo,Uq,U32,Za,Ze,KFR,KFL,KF,Zc,mtO,nbr])
 refine Zw (by simp;omega) ?_
 dsimp only [go_sem,rA,rM,rS]
 have hmilk:=ZbI (b:=s.breed) (m:=XB s s.scenes[k] p.slabs) (lo:=(V2 x s.pace).lo) (K:=s.camel.milks) h.beast.1 (j:=(V2 x s.pace).hi.toNat) (n:=0) (c:=c) (out:=Xk) hB0 hc hmk (fun q=>by omega) (by omega)
 have hTB:Tin t1 (Xl s s.scenes[k] (V2 x s.pace) p.slabs c).1:=by
  have hsub:=hbs (n.toNat - 1) (by omega) (by omega)
  rw [show n.toNat - 1+1=d from by omega] at hsub
  exact Zu3 hd1 hsub
 have hmilk':(Xl s s.scenes[k] (V2 x s.pace) p.slabs c).1.milks=s.camel.milks:=hmilk
 have htb1:=Zf2 h.beast.1 hd2 hd1
 clear hmilk hbs hba hd1 hd2 hd3
 generalize (Xl s s.scenes[k] (V2 x s.pace) p.slabs c).1=B1 at *
 rw [hnexti]
 try simp only [List.length_map]
 by_cases hlst:i+1=p.legs.length
 . refine Zv (by simp;omega) ?_
   dsimp only [go_sem,rA,rM,rS]
   rw [List.drop_eq_nil_of_le (by omega),YH,Option.some.injEq] at hgl
   rw [hgl]
   obtain ⟨hq,_⟩:=UL h hklt (m:=mto) hmto
   refine Zp mto hq rfl ?_
   dsimp only [Zo,go_sem,rA,rM,rS]
   obtain ⟨hww,_⟩:=Zfm h hp hklt hmto hq
   rw [hww]
   repeat (refine gb ?_;dsimp only [go_sem,rA,rM,rS])
   have hge:ZcD s p mto<=V6 s p mto s.scenes[k]:=ZiH (List.mem_map.2 ⟨_,List.getElem_mem hklt,rfl⟩)
   simp;omega
 refine Zw (by simp;omega) ?_
 dsimp only [go_sem,rA,rM,rS]
 obtain ⟨wn,hwn⟩:∃ wn:Nat,Zk x v=wn:=⟨(Zk x v).toNat,by omega⟩
 have hwlt:wn < s.land.wells.length:=by omega
 refine Zp wn hwlt hwn ?_
 dsimp only [Zg,go_sem,rA,rM,rS]
 have hwel:=hwl0.1.2 _ (List.getElem_mem hwlt)
 simp only [YM,Z6,inR,Bool.and_eq_true,decide_eq_true_eq] at hwel
 refine call (YZ ns _ i (by omega) hns (by omega) false) ?_
 dsimp only [U32,go_sem,rA,rM,rS]
 refine call (Yk (s.land.wells[wn]).has _ (by omega) (by omega) (by omega) (Ya ns i)) ?_
 dsimp only [go_sem,rA,rM,rS]
 have pkh:=Yh (s:=(s.land.wells[wn]).has) (n:=atF ns i) (by omega) (Ya ns i).1
 have hyw:wn < s.scenes[k].yields.length:=by omega
 have hyb:=hyl wn hyw
 obtain ⟨yf,hyf⟩:∃ yf:Nat->Int,yf=fun u=>YY (s.scenes[k].yields[wn]) (atF ns (u+i)):=⟨_,rfl⟩
 have hyp:∀ u,(s.scenes[k].yields[wn]).lo<=yf u/\yf u<=(s.scenes[k].yields[wn]).hi:=fun u=>by rw [hyf];exact Yh (by omega) (Ya ns (u+i)).1
 generalize YY (s.land.wells[wn]).has (atF ns i)=h0 at *
 have hHb:=ZjZ (room:=(s.land.wells[wn]).room) (h0:=h0) (y:=yf) (by omega) (fun u=>by have:=hyp u;omega)
 refine WH [3,4,5,9,14,16,17,18,19,20,21,22,23,151,152,153,24,36,37,289,290] rfl (fun q:Nat × Int=>[(290,I q.1),(37,I q.2)]) (fun _=>[])
  (fun q=>q.1<=(lv+n).toNat/\q.2=ZqY (s.land.wells[wn]).room yf h0 q.1) (fun q=>(lv+n).toNat - q.1) (0,h0) ⟨Nat.zero_le _,rfl⟩ ?_ ?_
 . (refine Zl ?_ ?_ ?_ rfl rfl<;>dsimp only [Cm.camelL,Cm.marchL,Cm.breedL,ZN,Zg,Zm,Zh,Zj,Zd,Zo,Uq,U32,id,go_sem,rA,rM,rS]<;>simp [Cm.camelL,Cm.marchL,Cm.breedL,ZN,Zg,Zm,Zh,Zj,Zd,Zo,Uq,U32,Za,Ze,KFR,KFL,KF,Zc,mtO,nbr])
 rintro ⟨e,hs⟩ ⟨he0,he1⟩
 simp only at he0 he1
 dsimp only [go_sem,rA,rM,rS]
 have hHe:=hHb e
 by_cases helt:e < (lv+n).toNat
 . refine Zv (by simp;omega) ?_
   dsimp only [go_sem,rA,rM,rS]
   refine Zp wn hyw hwn ?_
   dsimp only [Zd,go_sem,rA,rM,rS]
   try simp (disch:=omega) only [Zf]
   refine call (YZ ns _ (e+i) (by omega) hns (by omega) false) ?_
   dsimp only [U32,go_sem,rA,rM,rS]
   refine call (Yk (s.scenes[k].yields[wn]) _ (by omega) (by omega) (by omega) (Ya ns (e+i))) ?_
   dsimp only [go_sem,rA,rM,rS]
   have hype:=hyp e
   have hyfe:YY (s.scenes[k].yields[wn]) (atF ns (e+i))=yf e:=by rw [hyf]
   rw [hyfe,Zf (n:=hs+yf e) (by omega) (by omega),Zf (n:=(e:Int)+1) (by omega) (by omega)]
   refine ⟨(e+1,min (s.land.wells[wn]).room (hs+yf e)),⟨by simp only;omega,by simp only [ZqY];rw [he1]⟩,by simp only;omega,?_⟩
   (refine Zl ?_ ?_ ?_ rfl rfl<;>dsimp only [Cm.camelL,Cm.marchL,Cm.breedL,ZN,Zg,Zm,Zh,Zj,Zd,Zo,Uq,U32,id,go_sem,rA,rM,rS]<;>simp [Cm.camelL,Cm.marchL,Cm.breedL,ZN,Zg,Zm,Zh,Zj,Zd,Zo,Uq,U32,Za,Ze,KFR,KFL,KF,Zc,mtO,nbr])
 refine Zw (by simp;omega) ?_
 dsimp only [go_sem,rA,rM,rS]
 rw [if_neg (by intro q;rw [List.drop_eq_nil_iff] at q;omega)] at hgoG
 obtain ⟨more,hmore⟩:=ZdA (s:=s) (x:=s.scenes[k]) (slabs:=p.slabs) (l:=S.drop (i+1)) (i:=i+1) (c:=Zag s.breed B1) (acc:=acc ++ [(s.breed.full - B1.water.lo,ZaY s s.scenes[k] S[i])])
 have hdry:=hgq (s.breed.full - B1.water.lo,ZaY s s.scenes[k] S[i]) (by rw [<- hgoG,hmore];simp)
 simp only at hdry
 have hge:=ZkG (room:=(s.land.wells[wn]).room) (h0:=h0) (lo:=(s.land.wells[wn]).has.lo) (yl:=(s.scenes[k].yields[wn]).lo) (y:=yf) (by omega) (by omega) (by omega) (fun u=>(hyp u).1) e
 have hhe:=Zx6 (s:=s) (x:=s.scenes[k]) (st:=S[i]) (wn:=wn) h.land hx hwlt (by rw [hSh.2.2.1];exact hwn) (by rw [hSh.2.1];omega)
 rw [hSh.2.1,List.getElem?_eq_getElem hyw,Option.getD_some] at hhe
 have hmono:(ZK false x s.pace a - 1 - -1) * (s.scenes[k].yields[wn]).lo<=(e:Int) * (s.scenes[k].yields[wn]).lo:=Int.mul_le_mul_of_nonneg_right (by omega) (by omega)
 have hwater:=hTB.water.1
 have hwater2:=hTB.water.2
 have hcb:=Cm.camel_bd h.beast.1 hbo
 have hB1:=Zdk h.beast.1 hbo
 have e1:p.animals * (100000 * s.breed.full - t1.water)<=p.animals * (100000 * (s.breed.full - B1.water.lo)):=Int.mul_le_mul_of_nonneg_left (by omega) hpl.1
 have e2:p.animals * (100000 * (s.breed.full - B1.water.lo))=100000 * (p.animals * (s.breed.full - B1.water.lo)):=by ac_rfl
 have e3:-(30 * 100000000000)<=p.animals * (100000 * s.breed.full - t1.water)/\p.animals * (100000 * s.breed.full - t1.water)<=30 * 100000000000:=Ze4 hpl.1 (by omega) (by omega) (by omega)
 rw [Zf (n:=100000 * s.breed.full) (by omega) (by omega),Zf (n:=100000 * s.breed.full - t1.water) (by omega) (by omega),Zf (n:=p.animals * (100000 * s.breed.full - t1.water)) (by omega) (by omega),Zf (n:=100000 * hs) (by omega) (by omega)]
 refine Zw (by simp;omega) ?_
 dsimp only [go_sem,rA,rM,rS]
 try rw [Zf (n:=100000 * s.breed.full) (by omega) (by omega)]
 try rw [hnexti]
 refine ⟨(i+1,Zk x v,ZK false x s.pace a,ZK true x s.pace b,lv+n,Zag s.breed B1,⟨100000 * s.breed.full,t1.fat,t1.sore⟩,acc ++ [(s.breed.full - B1.water.lo,ZaY s s.scenes[k] S[i])],Zk x v :: been),
  ⟨hilt,htk',hgl,by simp only;omega,hoin.1,fun _ _=>⟨ZaV h.beast.1 hbo,hmilk',⟨⟨by simp only [Zag];omega,by simp only [Zag];omega⟩,hTB.fat,hTB.sore⟩,hgoG⟩⟩,by simp only;omega,?_⟩
 (refine Zl ?_ ?_ ?_ rfl rfl<;>dsimp only [Cm.camelL,Cm.marchL,Cm.breedL,ZN,Zg,Zm,Zh,Zj,Zd,Zo,Uq,U32,id,go_sem,rA,rM,rS]<;>simp [Cm.camelL,Cm.marchL,Cm.breedL,ZN,Zg,Zm,Zh,Zj,Zd,Zo,Uq,U32,Za,Ze,KFR,KFL,KF,Zc,mtO,nbr])
end Go.Proofs.YtiigiflofnjilaaGreat
