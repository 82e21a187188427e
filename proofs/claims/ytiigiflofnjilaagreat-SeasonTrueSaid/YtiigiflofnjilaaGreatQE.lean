/- Walks and plain laws that lead to the given statement, part 5 of 10. -/
import Derived.Test.YtiigiflofnjilaaGreatQD
import Derived.Test.YtiigiflofnjilaaGreatProg
set_option maxRecDepth 100000
set_option maxHeartbeats 4000000
set_option linter.all false
open Nat renaming reduceAdd->rA,reduceMul->rM,reduceSub->rS,beq_refl->nbr
namespace Go.Sx
def m1 (d t:Nat):Ins:=⟨some d,.mv (.t t),none,[]⟩
def o1 (d:Nat) (i:SI):Ins:=⟨some d,i,none,[]⟩
def sr1 (l:List Ins) (c:SC):SC:=.seq (.reg l) c
attribute [go_sem] m1 o1 sr1
open Go
structure Qt1 (P:Program) (f:FuncId) (c:SC) (r:List RV) (N:Nat):Prop where
 h:∀ {args:List SV} {res:SV},KFL args->KF res->sx P Y0 0 c (st0 args N) (ZAh r res)->(hA:Nat.ble args.length N=true:=by rfl)->Ct P f args res
theorem Z8 {P:Program} {f:FuncId} {fn:Func} {c:SC} {r:List RV} {N:Nat} (hf:P.funcs[f]?=some fn) (hd:fn.body.isSome=true) (hb:YP P f=true) (hc:XK P c (fn.body.getD .skip)=true) (hr:Wx P r fn.results.toList=true) (hN:fn.ntmps=N):Qt1 P f c r N:=⟨fun {args res} ka kr h hA=>by
 cases hq:fn.body with
 | none=>rw [hq] at hd;cases hd
 | some code=>rw [hq] at hc;exact Zog hf hq hb hc hr hN (Nat.le_of_ble_eq_true hA) ka kr h⟩
def zv0:List Value:=[.slice none 0 0,.slice none 0 0,.int .i64 0,.int .i64 0,.int .i64 0,.int .i64 0,.int .i64 0,.int .i64 0,.int .i64 0,.int .i64 0,.int .i64 0,.int .i64 0,.int .i64 0,.int .i64 0,.int .i64 0,.int .i64 0,.int .i64 0,.int .i64 0,.int .i64 0,.int .i64 0,.int .i64 0,.int .i64 0,.int .i64 0,.int .i64 0,.int .i64 0,.int .i64 0,.int .i64 0,.bool false,.int .i64 0,.int .i64 0,.int .i64 0,.int .i64 0,.int .i64 0,.int .i64 0,.int .i64 0,.int .i64 0,.slice none 0 0,.int .i64 0]
def zv1:List Value:=[.int .i64 0,.int .i64 0,.int .i64 0,.int .i64 0,.int .i64 0,.int .i64 0,.int .i64 0,.int .i64 0,.int .i64 0,.int .i64 0,.int .i64 0,.int .i64 0,.int .i64 0,.int .i64 0,.int .i64 0,.int .i64 0,.int .i64 0,.int .i64 0,.int .i64 0,.int .i64 0,.int .i64 0,.int .i64 0,.int .i64 0,.bool false]
def zv2:List Value:=[.slice none 0 0,.slice none 0 0,.int .i64 0,.int .i64 0,.int .i64 0,.int .i64 0,.int .i64 0,.int .i64 0,.int .i64 0,.int .i64 0,.int .i64 0,.int .i64 0,.int .i64 0,.int .i64 0,.int .i64 0,.int .i64 0,.int .i64 0,.int .i64 0,.int .i64 0,.int .i64 0,.int .i64 0,.int .i64 0,.int .i64 0,.int .i64 0,.int .i64 0,.int .i64 0,.int .i64 0,.bool false,.int .i64 0,.int .i64 0,.int .i64 0,.int .i64 0,.int .i64 0,.int .i64 0,.int .i64 0,.int .i64 0,.slice none 0 0]
def zv3:List Value:=[.int .i64 0,.int .i64 0,.int .i64 0,.int .i64 0,.int .i64 0,.int .i64 0,.int .i64 0,.int .i64 0,.int .i64 0]
def zv4:List Value:=[.int .i64 0,.int .i64 0,.int .i64 0,.int .i64 0,.int .i64 0,.int .i64 0,.bool false]
def zv5:List Value:=[.int .i64 0,.int .i64 0,.int .i64 0,.int .i64 0,.slice none 0 0,.slice none 0 0]
def zv6:List Value:=[.int .i64 0,.int .i64 0,.int .i64 0,.int .i64 0,.int .i64 0,.int .i64 0,.int .i64 0,.int .i64 0]
def zv7:List Value:=[.int .i64 0,.int .i64 0,.int .i64 0,.int .i64 0,.slice none 0 0]
def zv8:List Value:=[.int .i64 0,.int .i64 0,.int .i64 0,.int .i64 0,.int .i64 0,.int .i64 0]
attribute [go_sem] zv0 zv1 zv2 zv3 zv4 zv5 zv6 zv7 zv8
end Go.Sx
namespace Go.Proofs.YtiigiflofnjilaaGreat
open Go Go.Sx
def c37:SC:=(sr1 [
 o1 2 (.box (.t 0) 0 29),
 o1 3 (.box (.t 1) 0 31),
 o1 4 (.alloc [.int .i64 0,.int .i64 0] 27),
 o1 5 (.mv (.c (.int .i64 0)))]
 (.seq (sr1 [
 o1 7 (.ld (.t 2) 17 true),
 o1 8 (.ld (.t 3) 7 true),
 o1 9 (.call 54 [.t 7,.t 8]),
 m1 6 9]
 (sr1 [
 m1 10 6,
 o1 11 (.bin .neq (.t 10) (.c (.int .i64 0)))]
 (.cond (.t 11)
 (sr1 [
  o1 12 (.build [.int .i64 0,.int .i64 0] []),
  m1 13 6,
  ⟨none,.st (.t 4) (.t 12) 2,none,[]⟩,
  m1 5 13]
  .ret)
 .skip)))
 (sr1 [
 o1 14 (.ld (.t 2) 17 true),
 o1 15 (.ld (.t 3) 7 true),
 o1 16 (.build zv1 [(0,17,.t 14),(17,7,.t 15)]),
 o1 17 (.call 81 [.t 16]),
 ⟨none,.st (.t 4) (.t 17) 2,none,[]⟩,
 o1 5 (.mv (.c (.int .i64 0)))]
 .ret)))
def r37:List RV:=[.cell 4 2 true,.tmp 5]
theorem t37:Qt1 Tryz.prog 37 c37 r37 18:=Z8 Tryz.func37 rfl (by kernel_rfl) (by kernel_rfl) (by kernel_rfl) (by kernel_rfl)
def c100:SC:=(sr1 [
 o1 1 (.box (.t 0) 0 29),
 o1 2 (.mv (.c (.int .i64 0)))]
 (.seq (sr1 [
 o1 3 (.addo (.t 1) 0),
 o1 4 (.ld (.t 3) 1 false),
 o1 5 (.addo (.t 1) 1),
 o1 6 (.ld (.t 5) 1 false),
 o1 7 (.bsl 1 3 [.t 4,.t 6]),
 o1 8 (.call 125 [.c (.int .i64 1),.c (.int .i64 1000000),.t 7]),
 o1 9 (.un .not (.t 8)),
 m1 10 9,
 ⟨some 11,.addo (.t 1) 2,some (10,false),[]⟩,
 ⟨some 12,.ld (.t 11) 2 true,some (10,false),[]⟩,
 ⟨some 13,.addo (.t 1) 4,some (10,false),[]⟩,
 ⟨some 14,.ld (.t 13) 2 true,some (10,false),[]⟩,
 ⟨some 15,.addo (.t 1) 6,some (10,false),[]⟩,
 ⟨some 16,.ld (.t 15) 2 true,some (10,false),[]⟩,
 ⟨some 17,.addo (.t 1) 8,some (10,false),[]⟩,
 ⟨some 18,.ld (.t 17) 2 true,some (10,false),[]⟩,
 ⟨some 19,.addo (.t 1) 10,some (10,false),[]⟩,
 ⟨some 20,.ld (.t 19) 2 true,some (10,false),[]⟩,
 ⟨some 21,.addo (.t 1) 12,some (10,false),[]⟩,
 ⟨some 22,.ld (.t 21) 2 true,some (10,false),[]⟩,
 ⟨some 23,.bsl 2 27 [.t 12,.t 14,.t 16,.t 18,.t 20,.t 22],some (10,false),[]⟩,
 ⟨some 24,.call 101 [.c (.int .i64 0),.c (.int .i64 100000),.t 23],some (10,false),[]⟩,
 ⟨some 25,.un .not (.t 24),some (10,false),[]⟩,
 o1 26 (.pick (.t 10) (.c (.bool true)) (.t 25)),
 m1 27 26,
 ⟨some 28,.addo (.t 1) 15,some (27,false),[]⟩,
 ⟨some 29,.ld (.t 28) 2 true,some (27,false),[]⟩,
 ⟨some 30,.bsl 2 27 [.t 29],some (27,false),[]⟩,
 ⟨some 31,.call 101 [.c (.int .i64 0),.c (.int .i64 1000000),.t 30],some (27,false),[]⟩,
 ⟨some 32,.un .not (.t 31),some (27,false),[]⟩,
 o1 33 (.pick (.t 27) (.c (.bool true)) (.t 32)),
 m1 34 33,
 ⟨some 35,.addo (.t 1) 14,some (34,false),[]⟩,
 ⟨some 36,.ld (.t 35) 1 false,some (34,false),[]⟩,
 ⟨some 37,.bsl 1 3 [.t 36],some (34,false),[]⟩,
 ⟨some 38,.call 125 [.c (.int .i64 0),.c (.int .i64 1000),.t 37],some (34,false),[]⟩,
 ⟨some 39,.un .not (.t 38),some (34,false),[]⟩,
 o1 40 (.pick (.t 34) (.c (.bool true)) (.t 39))]
 (.cond (.t 40)
 (sr1 [
  o1 2 (.mv (.c (.int .i64 10)))]
  .ret)
 .skip))
 (sr1 [
 o1 2 (.mv (.c (.int .i64 0)))]
 .ret)))
def r100:List RV:=[.tmp 2]
theorem t100:Qt1 Tryz.prog 100 c100 r100 41:=Z8 Tryz.func100 rfl (by kernel_rfl) (by kernel_rfl) (by kernel_rfl) (by kernel_rfl)
def c54:SC:=(sr1 [
 o1 2 (.box (.t 0) 0 29),
 o1 3 (.box (.t 1) 0 31),
 o1 4 (.mv (.c (.int .i64 0)))]
 (.seq (sr1 [
 o1 6 (.ld (.t 2) 17 true),
 o1 7 (.call 100 [.t 6]),
 m1 5 7]
 (sr1 [
 m1 8 5,
 o1 9 (.bin .neq (.t 8) (.c (.int .i64 0)))]
 (.cond (.t 9)
 (sr1 [
  m1 10 5,
  m1 4 10]
  .ret)
 .skip)))
 (.seq (sr1 [
 o1 11 (.addo (.t 2) 0),
 o1 12 (.ld (.t 11) 1 false),
 o1 13 (.addo (.t 3) 0),
 o1 14 (.ld (.t 13) 2 true),
 o1 15 (.bsl 2 27 [.t 14]),
 o1 16 (.call 101 [.c (.int .i64 0),.t 12,.t 15]),
 o1 17 (.un .not (.t 16)),
 m1 18 17,
 ⟨some 19,.addo (.t 2) 1,some (18,false),[]⟩,
 ⟨some 20,.ld (.t 19) 1 false,some (18,false),[]⟩,
 ⟨some 21,.addo (.t 3) 2,some (18,false),[]⟩,
 ⟨some 22,.ld (.t 21) 2 true,some (18,false),[]⟩,
 ⟨some 23,.bsl 2 27 [.t 22],some (18,false),[]⟩,
 ⟨some 24,.call 101 [.c (.int .i64 0),.t 20,.t 23],some (18,false),[]⟩,
 ⟨some 25,.un .not (.t 24),some (18,false),[]⟩,
 o1 26 (.pick (.t 18) (.c (.bool true)) (.t 25)),
 m1 27 26,
 ⟨some 28,.addo (.t 3) 4,some (27,false),[]⟩,
 ⟨some 29,.ld (.t 28) 2 true,some (27,false),[]⟩,
 ⟨some 30,.bsl 2 27 [.t 29],some (27,false),[]⟩,
 ⟨some 31,.call 101 [.c (.int .i64 0),.c (.int .i64 1000),.t 30],some (27,false),[]⟩,
 ⟨some 32,.un .not (.t 31),some (27,false),[]⟩,
 o1 33 (.pick (.t 27) (.c (.bool true)) (.t 32))]
 (.cond (.t 33)
 (sr1 [
  o1 4 (.mv (.c (.int .i64 11)))]
  .ret)
 .skip))
 (sr1 [
 o1 4 (.mv (.c (.int .i64 0)))]
 .ret))))
def r54:List RV:=[.tmp 4]
theorem t54:Qt1 Tryz.prog 54 c54 r54 34:=Z8 Tryz.func54 rfl (by kernel_rfl) (by kernel_rfl) (by kernel_rfl) (by kernel_rfl)
def c95:SC:=(sr1 [
 o1 2 (.box (.t 0) 0 29),
 o1 3 (.box (.t 1) 0 31),
 o1 4 (.mv (.c (.int .i64 0)))]
 (.seq (sr1 [
 o1 5 (.ld (.t 2) 17 true),
 o1 6 (.call 138 [.t 5]),
 o1 7 (.un .not (.t 6))]
 (.cond (.t 7)
 (sr1 [
  o1 4 (.mv (.c (.int .i64 10)))]
  .ret)
 .skip))
 (.seq (sr1 [
 o1 8 (.ld (.t 2) 17 true),
 o1 9 (.ld (.t 3) 7 true),
 o1 10 (.call 139 [.t 8,.t 9]),
 o1 11 (.un .not (.t 10))]
 (.cond (.t 11)
 (sr1 [
  o1 4 (.mv (.c (.int .i64 11)))]
  .ret)
 .skip))
 (sr1 [
 o1 4 (.mv (.c (.int .i64 0)))]
 .ret))))
def r95:List RV:=[.tmp 4]
theorem t95:Qt1 Tryz.prog 95 c95 r95 12:=Z8 Tryz.func95 rfl (by kernel_rfl) (by kernel_rfl) (by kernel_rfl) (by kernel_rfl)
def c139:SC:=(sr1 [
 o1 2 (.box (.t 0) 0 29),
 o1 3 (.box (.t 1) 0 31),
 o1 4 (.mv (.c (.bool false)))]
 (sr1 [
 o1 5 (.addo (.t 3) 0),
 o1 6 (.ld (.t 5) 2 true),
 o1 7 (.addo (.t 2) 0),
 o1 8 (.ld (.t 7) 1 false),
 o1 9 (.call 166 [.t 6,.c (.int .i64 0),.t 8]),
 m1 10 9,
 ⟨some 11,.addo (.t 3) 2,some (10,true),[]⟩,
 ⟨some 12,.ld (.t 11) 2 true,some (10,true),[]⟩,
 ⟨some 13,.addo (.t 2) 1,some (10,true),[]⟩,
 ⟨some 14,.ld (.t 13) 1 false,some (10,true),[]⟩,
 ⟨some 15,.call 166 [.t 12,.c (.int .i64 0),.t 14],some (10,true),[]⟩,
 o1 16 (.pick (.t 10) (.t 15) (.c (.bool false))),
 m1 17 16,
 ⟨some 18,.addo (.t 3) 4,some (17,true),[]⟩,
 ⟨some 19,.ld (.t 18) 2 true,some (17,true),[]⟩,
 ⟨some 20,.call 166 [.t 19,.c (.int .i64 0),.c (.int .i64 1000)],some (17,true),[]⟩,
 o1 21 (.pick (.t 17) (.t 20) (.c (.bool false))),
 m1 4 21]
 .ret))
def r139:List RV:=[.tmp 4]
theorem t139:Qt1 Tryz.prog 139 c139 r139 22:=Z8 Tryz.func139 rfl (by kernel_rfl) (by kernel_rfl) (by kernel_rfl) (by kernel_rfl)
def c123:SC:=(sr1 [
 o1 1 (.box (.t 0) 0 169),
 o1 2 (.alloc [.int .i64 0,.int .i64 0] 27)]
 (sr1 [
 o1 6 (.build [.int .i64 0,.int .i64 0] [(0,1,.c (.int .i64 1000)),(1,1,.c (.int .i64 1000))]),
 o1 3 (.alloc [.int .i64 0,.int .i64 0] 27),
 ⟨none,.st (.t 3) (.t 6) 2,none,[]⟩]
 (.seq (.seq (.regd [0,1,2,3,4,5,6,7,8,9,10,11,12,13,14,15,16,17,18,19,20,21] [
 .op (o1 7 (.addo (.t 1) 17)),
 .op ⟨some 8,.addo (.t 7) 0,none,[0]⟩,
 .op ⟨some 9,.ld (.t 8) 2 true,none,[1]⟩,
 .op (o1 10 (.addo (.t 1) 0)),
 .op ⟨some 11,.addo (.t 10) 0,none,[3]⟩,
 .op ⟨some 12,.ld (.t 11) 1 false,none,[4]⟩,
 .op (o1 13 (.bsl 1 3 [.c (.int .i64 2),.c (.int .i64 1000)])),
 .op ⟨some 14,.call 128 [.t 9,.t 12,.t 13],none,[2,5,6]⟩,
 .op (o1 15 (.addo (.t 1) 17)),
 .op ⟨some 16,.addo (.t 15) 2,none,[8]⟩,
 .op ⟨some 17,.ld (.t 16) 2 true,none,[9]⟩,
 .op (o1 18 (.addo (.t 1) 0)),
 .op ⟨some 19,.addo (.t 18) 1,none,[11]⟩,
 .op ⟨some 20,.ld (.t 19) 1 false,none,[12]⟩,
 .op (o1 21 (.bsl 1 3 [.c (.int .i64 2),.c (.int .i64 1000)])),
 .op ⟨some 22,.call 128 [.t 17,.t 20,.t 21],none,[7,10,13,14]⟩,
 .op (o1 23 (.addo (.t 1) 17)),
 .op ⟨some 24,.addo (.t 23) 4,none,[16]⟩,
 .op ⟨some 25,.ld (.t 24) 2 true,none,[17]⟩,
 .op ⟨some 26,.call 159 [.c (.int .i64 1000),.t 25],none,[15,18]⟩,
 .op ⟨some 27,.build zv8 [(0,2,.t 14),(2,2,.t 22),(4,2,.t 26)],none,[7,15,19]⟩,
 .op (o1 28 (.mv (.c (.int .i64 0))))] 0 0 [
])
 (.block 0 (.loop (sr1 [
  o1 29 (.bin .lss (.t 28) (.c (.int .i64 3)))]
  (.seq (.cond (.t 29)
  .skip
  (.exit 0))
  (.seq (.block 1 (sr1 [
   o1 30 (.idx (.t 27) (.t 28) 3 2 true),
   o1 5 (.alloc [.int .i64 0,.int .i64 0] 27),
   ⟨none,.st (.t 5) (.t 30) 2,none,[]⟩]
   (.reg [
   o1 31 (.addo (.t 3) 0),
   o1 32 (.ld (.t 31) 1 false),
   o1 33 (.addo (.t 5) 0),
   o1 34 (.ld (.t 33) 1 false),
   o1 35 (.mm false [.t 32,.t 34]),
   o1 36 (.addo (.t 3) 1),
   o1 37 (.ld (.t 36) 1 false),
   o1 38 (.addo (.t 5) 1),
   o1 39 (.ld (.t 38) 1 false),
   o1 40 (.mm false [.t 37,.t 39]),
   o1 41 (.build [.int .i64 0,.int .i64 0] [(0,1,.t 35),(1,1,.t 40)]),
   ⟨none,.st (.t 3) (.t 41) 2,none,[]⟩])))
  (.reg [
  o1 42 (.bin .add (.t 28) (.c (.int .i64 1))),
  m1 28 42])))))))
 (sr1 [
 o1 43 (.ld (.t 3) 2 true),
 ⟨none,.st (.t 2) (.t 43) 2,none,[]⟩]
 .ret))))
def r123:List RV:=[.cell 2 2 true]
theorem t123:Qt1 Tryz.prog 123 c123 r123 44:=Z8 Tryz.func123 rfl (by kernel_rfl) (by kernel_rfl) (by kernel_rfl) (by kernel_rfl)
def c81:SC:=(sr1 [
 o1 1 (.box (.t 0) 0 169),
 o1 2 (.alloc [.int .i64 0,.int .i64 0] 27)]
 (sr1 [
 o1 4 (.ld (.t 1) 24 true),
 o1 5 (.call 123 [.t 4]),
 o1 3 (.alloc [.int .i64 0,.int .i64 0] 27),
 ⟨none,.st (.t 3) (.t 5) 2,none,[]⟩]
 (.seq (.regd [0,1,2,3,4,5,6,7,8,9,10,11,12,13,14,15,16,17] [
 .op (o1 6 (.addo (.t 1) 0)),
 .op ⟨some 7,.addo (.t 6) 15,none,[0]⟩,
 .op ⟨some 8,.addo (.t 7) 0,none,[1]⟩,
 .op ⟨some 9,.ld (.t 8) 1 false,none,[2]⟩,
 .op (o1 10 (.addo (.t 3) 0)),
 .op ⟨some 11,.ld (.t 10) 1 false,none,[4]⟩,
 .op ⟨some 12,.bin .mul (.t 9) (.t 11),none,[3,5]⟩,
 .op ⟨some 13,.div .quo (.t 12) (.c (.int .i64 1000)),none,[6]⟩,
 .op (o1 14 (.addo (.t 1) 0)),
 .op ⟨some 15,.addo (.t 14) 15,none,[8]⟩,
 .op ⟨some 16,.addo (.t 15) 1,none,[9]⟩,
 .op ⟨some 17,.ld (.t 16) 1 false,none,[10]⟩,
 .op (o1 18 (.addo (.t 3) 1)),
 .op ⟨some 19,.ld (.t 18) 1 false,none,[12]⟩,
 .op ⟨some 20,.bin .mul (.t 17) (.t 19),none,[11,13]⟩,
 .op ⟨some 21,.call 124 [.t 20,.c (.int .i64 1000)],none,[14]⟩,
 .op ⟨some 22,.build [.int .i64 0,.int .i64 0] [(0,1,.t 13),(1,1,.t 21)],none,[7,15]⟩] 0 1 [
 ⟨none,.st (.t 2) (.t 22) 2,none,[0,1,2,3,4,5,6,7,8,9,10,11,12,13,14,15,16]⟩])
 .ret)))
def r81:List RV:=[.cell 2 2 true]
theorem t81:Qt1 Tryz.prog 81 c81 r81 23:=Z8 Tryz.func81 rfl (by kernel_rfl) (by kernel_rfl) (by kernel_rfl) (by kernel_rfl)
def c83:SC:=(sr1 [
 o1 2 (.mv (.c (.int .i64 0)))]
 (.seq (sr1 [
 m1 5 0,
 o1 6 (.len (.t 5)),
 o1 7 (.mv (.c (.int .i64 0)))]
 (.block 0 (.loop (sr1 [
  o1 8 (.bin .lss (.t 7) (.t 6))]
  (.seq (.cond (.t 8)
  .skip
  (.exit 0))
  (.seq (.block 1 (sr1 [
   o1 9 (.ixs (.t 5) (.t 7) 8),
   o1 10 (.ld (.t 9) 8 true),
   o1 4 (.alloc zv6 80),
   ⟨none,.st (.t 4) (.t 10) 8,none,[]⟩]
   (sr1 [
   o1 11 (.addo (.t 4) 0),
   o1 12 (.ld (.t 11) 1 false),
   o1 13 (.bsl 1 3 [.t 12]),
   o1 14 (.call 125 [.c (.int .i64 0),.c (.int .i64 24),.t 13]),
   o1 15 (.un .not (.t 14)),
   m1 16 15,
   ⟨some 17,.addo (.t 4) 1,some (16,false),[]⟩,
   ⟨some 18,.ld (.t 17) 1 false,some (16,false),[]⟩,
   ⟨some 19,.bsl 1 3 [.t 18],some (16,false),[]⟩,
   ⟨some 20,.call 125 [.c (.int .i64 0),.c (.int .i64 1000000),.t 19],some (16,false),[]⟩,
   ⟨some 21,.un .not (.t 20),some (16,false),[]⟩,
   o1 22 (.pick (.t 16) (.c (.bool true)) (.t 21)),
   m1 23 22,
   ⟨some 24,.addo (.t 4) 2,some (23,false),[]⟩,
   ⟨some 25,.ld (.t 24) 2 true,some (23,false),[]⟩,
   ⟨some 26,.bsl 2 27 [.t 25],some (23,false),[]⟩,
   ⟨some 27,.call 101 [.c (.int .i64 0),.c (.int .i64 60),.t 26],some (23,false),[]⟩,
   ⟨some 28,.un .not (.t 27),some (23,false),[]⟩,
   o1 29 (.pick (.t 23) (.c (.bool true)) (.t 28)),
   m1 30 29,
   ⟨some 31,.addo (.t 4) 4,some (30,false),[]⟩,
   ⟨some 32,.ld (.t 31) 2 true,some (30,false),[]⟩,
   ⟨some 33,.addo (.t 4) 6,some (30,false),[]⟩,
   ⟨some 34,.ld (.t 33) 2 true,some (30,false),[]⟩,
   ⟨some 35,.bsl 2 27 [.t 32,.t 34],some (30,false),[]⟩,
   ⟨some 36,.call 101 [.c (.int .i64 0),.c (.int .i64 1000000),.t 35],some (30,false),[]⟩,
   ⟨some 37,.un .not (.t 36),some (30,false),[]⟩,
   o1 38 (.pick (.t 30) (.c (.bool true)) (.t 37))]
   (.cond (.t 38)
   (sr1 [
    o1 2 (.mv (.c (.int .i64 12)))]
    .ret)
   .skip))))
  (.reg [
  o1 39 (.bin .add (.t 7) (.c (.int .i64 1))),
  m1 7 39])))))))
 (sr1 [
 o1 2 (.mv (.c (.int .i64 0)))]
 .ret)))
def r83:List RV:=[.tmp 2]
theorem t83:Qt1 Tryz.prog 83 c83 r83 40:=Z8 Tryz.func83 rfl (by kernel_rfl) (by kernel_rfl) (by kernel_rfl) (by kernel_rfl)
def c126:SC:=(sr1 [
 o1 3 (.box (.t 0) 0 29),
 o1 5 (.box (.t 2) 0 80),
 o1 6 (.alloc [.int .i64 0,.int .i64 0,.int .i64 0,.int .i64 0] 217)]
 (sr1 [
 o1 10 (.addo (.t 5) 2),
 o1 11 (.addo (.t 10) 0),
 o1 12 (.ld (.t 11) 1 false),
 o1 13 (.bin .sub (.t 12) (.c (.int .i64 20))),
 o1 14 (.mm true [.c (.int .i64 0),.t 13]),
 o1 15 (.addo (.t 5) 2),
 o1 16 (.addo (.t 15) 1),
 o1 17 (.ld (.t 16) 1 false),
 o1 18 (.bin .sub (.t 17) (.c (.int .i64 20))),
 o1 19 (.mm true [.c (.int .i64 0),.t 18]),
 o1 20 (.build [.int .i64 0,.int .i64 0] [(0,1,.t 14),(1,1,.t 19)]),
 o1 7 (.alloc [.int .i64 0,.int .i64 0] 27),
 ⟨none,.st (.t 7) (.t 20) 2,none,[]⟩]
 (sr1 [
 o1 21 (.addo (.t 5) 0),
 o1 22 (.ld (.t 21) 1 false),
 o1 23 (.addo (.t 5) 1),
 o1 24 (.ld (.t 23) 1 false),
 o1 25 (.bin .add (.c (.int .i64 100000)) (.t 24)),
 o1 26 (.bin .mul (.t 22) (.t 25)),
 m1 8 26]
 (.seq (.regd [0,1,2,3,4,5,6,7,8,9,10,11,12,13,14,15,16,17,18,19,20,21,22,23] [
 .op (o1 27 (.addo (.t 3) 2)),
 .op ⟨some 28,.ld (.t 27) 2 true,none,[0]⟩,
 .op (o1 29 (.addo (.t 3) 4)),
 .op ⟨some 30,.addo (.t 29) 0,none,[2]⟩,
 .op ⟨some 31,.ld (.t 30) 1 false,none,[3]⟩,
 .op (o1 32 (.addo (.t 7) 0)),
 .op ⟨some 33,.ld (.t 32) 1 false,none,[5]⟩,
 .op ⟨some 34,.bin .mul (.t 31) (.t 33),none,[4,6]⟩,
 .op (o1 35 (.addo (.t 3) 4)),
 .op ⟨some 36,.addo (.t 35) 1,none,[8]⟩,
 .op ⟨some 37,.ld (.t 36) 1 false,none,[9]⟩,
 .op (o1 38 (.addo (.t 7) 1)),
 .op ⟨some 39,.ld (.t 38) 1 false,none,[11]⟩,
 .op ⟨some 40,.bin .mul (.t 37) (.t 39),none,[10,12]⟩,
 .op ⟨some 41,.build [.int .i64 0,.int .i64 0] [(0,1,.t 34),(1,1,.t 40)],none,[7,13]⟩,
 .op (o1 42 (.addo (.t 3) 6)),
 .op ⟨some 43,.ld (.t 42) 2 true,none,[15]⟩,
 .op (m1 44 8),
 .op ⟨some 45,.bsl 1 3 [.t 44],none,[17]⟩,
 .op ⟨some 46,.call 128 [.t 43,.c (.int .i64 100000),.t 45],none,[16,18]⟩,
 .op ⟨some 47,.bsl 2 27 [.t 28,.t 41,.t 46],none,[1,14,19]⟩,
 .op ⟨some 48,.call 127 [.t 47],none,[19,20]⟩] 1 1 [
 o1 9 (.alloc [.int .i64 0,.int .i64 0] 27),
 ⟨none,.st (.t 9) (.t 48) 2,none,[0,1,2,3,4,5,6,7,8,9,10,11,12,13,14,15,16,17,18,19,20,21,22]⟩])
 (.seq (sr1 [
 m1 49 1]
 (.cond (.t 49)
 (.reg [
  o1 50 (.ld (.t 9) 2 true),
  o1 51 (.addo (.t 3) 12),
  o1 52 (.ld (.t 51) 2 true),
  o1 53 (.bsl 2 27 [.t 50,.t 52]),
  o1 54 (.call 127 [.t 53]),
  ⟨none,.st (.t 9) (.t 54) 2,none,[]⟩])
 .skip))
 (.seq (.regd [0,1,2,3,4,5,6,7] [
 .op (o1 55 (.ld (.t 9) 2 true)),
 .op (o1 56 (.addo (.t 3) 8)),
 .op ⟨some 57,.ld (.t 56) 2 true,none,[1]⟩,
 .op (m1 58 8),
 .op ⟨some 59,.bsl 1 3 [.t 58],none,[3]⟩,
 .op ⟨some 60,.call 128 [.t 57,.c (.int .i64 100000),.t 59],none,[2,4]⟩,
 .op ⟨some 61,.build [.int .i64 0,.int .i64 0,.int .i64 0,.int .i64 0] [(0,2,.t 55),(2,2,.t 60)],none,[0,5]⟩] 0 1 [
 ⟨none,.st (.t 6) (.t 61) 4,none,[0,1,2,3,4,5,6]⟩])
 .ret))))))
def r126:List RV:=[.cell 6 4 true]
theorem t126:Qt1 Tryz.prog 126 c126 r126 62:=Z8 Tryz.func126 rfl (by kernel_rfl) (by kernel_rfl) (by kernel_rfl) (by kernel_rfl)
def c138:SC:=(sr1 [
 o1 1 (.box (.t 0) 0 29),
 o1 2 (.mv (.c (.bool false)))]
 (.seq (sr1 [
 o1 3 (.addo (.t 1) 0),
 o1 4 (.ld (.t 3) 1 false),
 o1 5 (.call 165 [.t 4,.c (.int .i64 1),.c (.int .i64 1000000)]),
 o1 6 (.un .not (.t 5)),
 m1 7 6,
 ⟨some 8,.addo (.t 1) 1,some (7,false),[]⟩,
 ⟨some 9,.ld (.t 8) 1 false,some (7,false),[]⟩,
 ⟨some 10,.call 165 [.t 9,.c (.int .i64 1),.c (.int .i64 1000000)],some (7,false),[]⟩,
 ⟨some 11,.un .not (.t 10),some (7,false),[]⟩,
 o1 12 (.pick (.t 7) (.c (.bool true)) (.t 11)),
 m1 13 12,
 ⟨some 14,.addo (.t 1) 14,some (13,false),[]⟩,
 ⟨some 15,.ld (.t 14) 1 false,some (13,false),[]⟩,
 ⟨some 16,.call 165 [.t 15,.c (.int .i64 0),.c (.int .i64 1000)],some (13,false),[]⟩,
 ⟨some 17,.un .not (.t 16),some (13,false),[]⟩,
 o1 18 (.pick (.t 13) (.c (.bool true)) (.t 17)),
 m1 19 18,
 ⟨some 20,.addo (.t 1) 15,some (19,false),[]⟩,
 ⟨some 21,.ld (.t 20) 2 true,some (19,false),[]⟩,
 ⟨some 22,.call 166 [.t 21,.c (.int .i64 0),.c (.int .i64 1000000)],some (19,false),[]⟩,
 ⟨some 23,.un .not (.t 22),some (19,false),[]⟩,
 o1 24 (.pick (.t 19) (.c (.bool true)) (.t 23))]
 (.cond (.t 24)
 (sr1 [
  o1 2 (.mv (.c (.bool false)))]
  .ret)
 .skip))
 (sr1 [
 o1 25 (.addo (.t 1) 2),
 o1 26 (.ld (.t 25) 2 true),
 o1 27 (.call 166 [.t 26,.c (.int .i64 0),.c (.int .i64 100000)]),
 m1 28 27,
 ⟨some 29,.addo (.t 1) 4,some (28,true),[]⟩,
 ⟨some 30,.ld (.t 29) 2 true,some (28,true),[]⟩,
 ⟨some 31,.call 166 [.t 30,.c (.int .i64 0),.c (.int .i64 100000)],some (28,true),[]⟩,
 o1 32 (.pick (.t 28) (.t 31) (.c (.bool false))),
 m1 33 32,
 ⟨some 34,.addo (.t 1) 6,some (33,true),[]⟩,
 ⟨some 35,.ld (.t 34) 2 true,some (33,true),[]⟩,
 ⟨some 36,.call 166 [.t 35,.c (.int .i64 0),.c (.int .i64 100000)],some (33,true),[]⟩,
 o1 37 (.pick (.t 33) (.t 36) (.c (.bool false))),
 m1 38 37,
 ⟨some 39,.addo (.t 1) 8,some (38,true),[]⟩,
 ⟨some 40,.ld (.t 39) 2 true,some (38,true),[]⟩,
 ⟨some 41,.call 166 [.t 40,.c (.int .i64 0),.c (.int .i64 100000)],some (38,true),[]⟩,
 o1 42 (.pick (.t 38) (.t 41) (.c (.bool false))),
 m1 43 42,
 ⟨some 44,.addo (.t 1) 10,some (43,true),[]⟩,
 ⟨some 45,.ld (.t 44) 2 true,some (43,true),[]⟩,
 ⟨some 46,.call 166 [.t 45,.c (.int .i64 0),.c (.int .i64 100000)],some (43,true),[]⟩,
 o1 47 (.pick (.t 43) (.t 46) (.c (.bool false))),
 m1 48 47,
 ⟨some 49,.addo (.t 1) 12,some (48,true),[]⟩,
 ⟨some 50,.ld (.t 49) 2 true,some (48,true),[]⟩,
 ⟨some 51,.call 166 [.t 50,.c (.int .i64 0),.c (.int .i64 100000)],some (48,true),[]⟩,
 o1 52 (.pick (.t 48) (.t 51) (.c (.bool false))),
 m1 2 52]
 .ret)))
def r138:List RV:=[.tmp 2]
theorem t138:Qt1 Tryz.prog 138 c138 r138 53:=Z8 Tryz.func138 rfl (by kernel_rfl) (by kernel_rfl) (by kernel_rfl) (by kernel_rfl)
def c125:SC:=(sr1 [
 o1 3 (.box (.t 0) 0 3),
 o1 4 (.box (.t 1) 0 3),
 o1 6 (.mv (.c (.bool false)))]
 (sr1 [
 m1 7 2,
 o1 8 (.mkf 160 [.t 3,.t 4]),
 o1 9 (.call 98 [.t 7,.t 8]),
 o1 10 (.un .not (.t 9)),
 m1 6 10]
 .ret))
def r125:List RV:=[.tmp 6]
theorem t125:Qt1 Tryz.prog 125 c125 r125 11:=Z8 Tryz.func125 rfl (by kernel_rfl) (by kernel_rfl) (by kernel_rfl) (by kernel_rfl)
def c101:SC:=(sr1 [
 o1 3 (.box (.t 0) 0 3),
 o1 4 (.box (.t 1) 0 3),
 o1 6 (.mv (.c (.bool false)))]
 (sr1 [
 m1 7 2,
 o1 8 (.mkf 142 [.t 3,.t 4]),
 o1 9 (.call 102 [.t 7,.t 8]),
 o1 10 (.un .not (.t 9)),
 m1 6 10]
 .ret))
def r101:List RV:=[.tmp 6]
theorem t101:Qt1 Tryz.prog 101 c101 r101 11:=Z8 Tryz.func101 rfl (by kernel_rfl) (by kernel_rfl) (by kernel_rfl) (by kernel_rfl)
def c127:SC:=(sr1 [
 o1 2 (.alloc [.int .i64 0,.int .i64 0] 27)]
 (sr1 [
 o1 3 (.alloc [.int .i64 0,.int .i64 0] 27)]
 (.seq (sr1 [
 m1 6 0,
 o1 7 (.len (.t 6)),
 o1 8 (.mv (.c (.int .i64 0)))]
 (.block 0 (.loop (sr1 [
  o1 9 (.bin .lss (.t 8) (.t 7))]
  (.seq (.cond (.t 9)
  .skip
  (.exit 0))
  (.seq (.block 1 (sr1 [
   o1 10 (.ixs (.t 6) (.t 8) 2),
   o1 11 (.ld (.t 10) 2 true),
   o1 5 (.alloc [.int .i64 0,.int .i64 0] 27),
   ⟨none,.st (.t 5) (.t 11) 2,none,[]⟩]
   (.reg [
   o1 12 (.addo (.t 3) 0),
   o1 13 (.ld (.t 12) 1 false),
   o1 14 (.addo (.t 5) 0),
   o1 15 (.ld (.t 14) 1 false),
   o1 16 (.bin .add (.t 13) (.t 15)),
   o1 17 (.addo (.t 3) 1),
   o1 18 (.ld (.t 17) 1 false),
   o1 19 (.addo (.t 5) 1),
   o1 20 (.ld (.t 19) 1 false),
   o1 21 (.bin .add (.t 18) (.t 20)),
   o1 22 (.build [.int .i64 0,.int .i64 0] [(0,1,.t 16),(1,1,.t 21)]),
   ⟨none,.st (.t 3) (.t 22) 2,none,[]⟩])))
  (.reg [
  o1 23 (.bin .add (.t 8) (.c (.int .i64 1))),
  m1 8 23])))))))
 (sr1 [
 o1 24 (.ld (.t 3) 2 true),
 ⟨none,.st (.t 2) (.t 24) 2,none,[]⟩]
 .ret))))
def r127:List RV:=[.cell 2 2 true]
theorem t127:Qt1 Tryz.prog 127 c127 r127 25:=Z8 Tryz.func127 rfl (by kernel_rfl) (by kernel_rfl) (by kernel_rfl) (by kernel_rfl)
def c159:SC:=(sr1 [
 o1 3 (.box (.t 1) 0 27),
 o1 4 (.alloc [.int .i64 0,.int .i64 0] 27)]
 (sr1 [
 m1 5 0,
 o1 6 (.addo (.t 3) 1),
 o1 7 (.ld (.t 6) 1 false),
 o1 8 (.bin .sub (.t 5) (.t 7)),
 m1 9 0,
 o1 10 (.addo (.t 3) 0),
 o1 11 (.ld (.t 10) 1 false),
 o1 12 (.bin .sub (.t 9) (.t 11)),
 o1 13 (.build [.int .i64 0,.int .i64 0] [(0,1,.t 8),(1,1,.t 12)]),
 ⟨none,.st (.t 4) (.t 13) 2,none,[]⟩]
 .ret))
def r159:List RV:=[.cell 4 2 true]
theorem t159:Qt1 Tryz.prog 159 c159 r159 14:=Z8 Tryz.func159 rfl (by kernel_rfl) (by kernel_rfl) (by kernel_rfl) (by kernel_rfl)
def c166:SC:=(sr1 [
 o1 3 (.box (.t 0) 0 27),
 o1 6 (.mv (.c (.bool false)))]
 (sr1 [
 o1 7 (.addo (.t 3) 0),
 o1 8 (.ld (.t 7) 1 false),
 m1 9 1,
 o1 10 (.addo (.t 3) 1),
 o1 11 (.ld (.t 10) 1 false),
 o1 12 (.call 165 [.t 8,.t 9,.t 11]),
 m1 13 12,
 ⟨some 14,.addo (.t 3) 1,some (13,true),[]⟩,
 ⟨some 15,.ld (.t 14) 1 false,some (13,true),[]⟩,
 ⟨some 16,.mv (.t 2),some (13,true),[]⟩,
 ⟨some 17,.bin .leq (.t 15) (.t 16),some (13,true),[]⟩,
 o1 18 (.pick (.t 13) (.t 17) (.c (.bool false))),
 m1 6 18]
 .ret))
def r166:List RV:=[.tmp 6]
theorem t166:Qt1 Tryz.prog 166 c166 r166 19:=Z8 Tryz.func166 rfl (by kernel_rfl) (by kernel_rfl) (by kernel_rfl) (by kernel_rfl)
def c165:SC:=(sr1 [
 o1 6 (.mv (.c (.bool false)))]
 (sr1 [
 m1 7 0,
 m1 8 1,
 o1 9 (.bin .geq (.t 7) (.t 8)),
 m1 10 9,
 ⟨some 11,.mv (.t 0),some (10,true),[]⟩,
 ⟨some 12,.mv (.t 2),some (10,true),[]⟩,
 ⟨some 13,.bin .leq (.t 11) (.t 12),some (10,true),[]⟩,
 o1 14 (.pick (.t 10) (.t 13) (.c (.bool false))),
 m1 6 14]
 .ret))
def r165:List RV:=[.tmp 6]
theorem t165:Qt1 Tryz.prog 165 c165 r165 15:=Z8 Tryz.func165 rfl (by kernel_rfl) (by kernel_rfl) (by kernel_rfl) (by kernel_rfl)
def c128:SC:=(sr1 [
 o1 3 (.box (.t 0) 0 27),
 o1 6 (.alloc [.int .i64 0,.int .i64 0] 27)]
 (.seq (sr1 [
 m1 9 2,
 o1 10 (.len (.t 9)),
 o1 11 (.mv (.c (.int .i64 0)))]
 (.block 0 (.loop (sr1 [
  o1 12 (.bin .lss (.t 11) (.t 10))]
  (.seq (.cond (.t 12)
  .skip
  (.exit 0))
  (.seq (.block 1 (sr1 [
   o1 13 (.ixs (.t 9) (.t 11) 1),
   o1 14 (.ld (.t 13) 1 false),
   m1 8 14]
   (.reg [
   o1 15 (.addo (.t 3) 0),
   o1 16 (.ld (.t 15) 1 false),
   m1 17 8,
   o1 18 (.bin .mul (.t 16) (.t 17)),
   o1 19 (.addo (.t 3) 1),
   o1 20 (.ld (.t 19) 1 false),
   m1 21 8,
   o1 22 (.bin .mul (.t 20) (.t 21)),
   o1 23 (.addo (.t 3) 0),
   ⟨none,.st (.t 23) (.t 18) 1,none,[]⟩,
   o1 24 (.addo (.t 3) 1),
   ⟨none,.st (.t 24) (.t 22) 1,none,[]⟩])))
  (.reg [
  o1 25 (.bin .add (.t 11) (.c (.int .i64 1))),
  m1 11 25])))))))
 (.seq (.regd [0,1,2,3,4,5,6,7,8,9] [
 .op (o1 26 (.addo (.t 3) 0)),
 .op ⟨some 27,.ld (.t 26) 1 false,none,[0]⟩,
 .op (m1 28 1),
 .op ⟨some 29,.div .quo (.t 27) (.t 28),none,[1,2]⟩,
 .op (o1 30 (.addo (.t 3) 1)),
 .op ⟨some 31,.ld (.t 30) 1 false,none,[4]⟩,
 .op (m1 32 1),
 .op ⟨some 33,.call 124 [.t 31,.t 32],none,[5,6]⟩,
 .op ⟨some 34,.build [.int .i64 0,.int .i64 0] [(0,1,.t 29),(1,1,.t 33)],none,[3,7]⟩] 0 1 [
 ⟨none,.st (.t 6) (.t 34) 2,none,[0,1,2,3,4,5,6,7,8]⟩])
 .ret)))
def r128:List RV:=[.cell 6 2 true]
theorem t128:Qt1 Tryz.prog 128 c128 r128 35:=Z8 Tryz.func128 rfl (by kernel_rfl) (by kernel_rfl) (by kernel_rfl) (by kernel_rfl)
def c124:SC:=(sr1 [
 o1 4 (.mv (.c (.int .i64 0)))]
 (sr1 [
 m1 5 0,
 m1 6 1,
 o1 7 (.bin .add (.t 5) (.t 6)),
 o1 8 (.bin .sub (.t 7) (.c (.int .i64 1))),
 m1 9 1,
 o1 10 (.div .quo (.t 8) (.t 9)),
 m1 4 10]
 .ret))
def r124:List RV:=[.tmp 4]
theorem t124:Qt1 Tryz.prog 124 c124 r124 11:=Z8 Tryz.func124 rfl (by kernel_rfl) (by kernel_rfl) (by kernel_rfl) (by kernel_rfl)
def c160:SC:=(sr1 [
 o1 4 (.mv (.c (.bool false)))]
 (sr1 [
 m1 5 0,
 o1 6 (.ld (.t 1) 1 false),
 o1 7 (.bin .lss (.t 5) (.t 6)),
 m1 8 7,
 ⟨some 9,.mv (.t 0),some (8,false),[]⟩,
 ⟨some 10,.ld (.t 2) 1 false,some (8,false),[]⟩,
 ⟨some 11,.bin .gtr (.t 9) (.t 10),some (8,false),[]⟩,
 o1 12 (.pick (.t 8) (.c (.bool true)) (.t 11)),
 m1 4 12]
 .ret))
def r160:List RV:=[.tmp 4]
theorem t160:Qt1 Tryz.prog 160 c160 r160 13:=Z8 Tryz.func160 rfl (by kernel_rfl) (by kernel_rfl) (by kernel_rfl) (by kernel_rfl)
def c142:SC:=(sr1 [
 o1 3 (.box (.t 0) 0 27),
 o1 4 (.mv (.c (.bool false)))]
 (sr1 [
 o1 5 (.addo (.t 3) 0),
 o1 6 (.ld (.t 5) 1 false),
 o1 7 (.addo (.t 3) 1),
 o1 8 (.ld (.t 7) 1 false),
 o1 9 (.bin .gtr (.t 6) (.t 8)),
 m1 10 9,
 ⟨some 11,.ld (.t 1) 1 false,some (10,false),[]⟩,
 ⟨some 12,.ld (.t 2) 1 false,some (10,false),[]⟩,
 ⟨some 13,.addo (.t 3) 0,some (10,false),[]⟩,
 ⟨some 14,.ld (.t 13) 1 false,some (10,false),[]⟩,
 ⟨some 15,.addo (.t 3) 1,some (10,false),[]⟩,
 ⟨some 16,.ld (.t 15) 1 false,some (10,false),[]⟩,
 ⟨some 17,.bsl 1 3 [.t 14,.t 16],some (10,false),[]⟩,
 ⟨some 18,.call 125 [.t 11,.t 12,.t 17],some (10,false),[]⟩,
 ⟨some 19,.un .not (.t 18),some (10,false),[]⟩,
 o1 20 (.pick (.t 10) (.c (.bool true)) (.t 19)),
 m1 4 20]
 .ret))
def r142:List RV:=[.tmp 4]
theorem t142:Qt1 Tryz.prog 142 c142 r142 21:=Z8 Tryz.func142 rfl (by kernel_rfl) (by kernel_rfl) (by kernel_rfl) (by kernel_rfl)
def c84:SC:=(sr1 [
 o1 2 (.box (.t 0) 0 169),
 o1 3 (.box (.t 1) 0 80),
 o1 4 (.alloc zv1 169),
 o1 5 (.mv (.c (.int .u8 0)))]
 (sr1 [
 o1 16 (.addo (.t 2) 17),
 o1 17 (.addo (.t 16) 0),
 o1 18 (.addo (.t 2) 17),
 o1 19 (.addo (.t 18) 2),
 o1 20 (.build [.pointer none,.pointer none] [(0,1,.t 17),(1,1,.t 19)]),
 o1 6 (.alloc [.pointer none,.pointer none] 216),
 ⟨none,.st (.t 6) (.t 20) 2,none,[]⟩]
 (.seq (.regd [0,1,2,3,4,5,6,7,8,9,10,11,12,13,14,15] [
 .op (o1 21 (.addo (.t 2) 0)),
 .op ⟨some 22,.addo (.t 21) 0,none,[0]⟩,
 .op ⟨some 23,.ld (.t 22) 1 false,none,[1]⟩,
 .op (o1 24 (.addo (.t 2) 0)),
 .op ⟨some 25,.addo (.t 24) 1,none,[3]⟩,
 .op ⟨some 26,.ld (.t 25) 1 false,none,[4]⟩,
 .op ⟨some 27,.build [.int .i64 0,.int .i64 0] [(0,1,.t 23),(1,1,.t 26)],none,[2,5]⟩,
 .op (o1 28 (.addo (.t 3) 6)),
 .op ⟨some 29,.ld (.t 28) 2 true,none,[7]⟩,
 .op (o1 30 (.addo (.t 3) 4)),
 .op ⟨some 31,.ld (.t 30) 2 true,none,[9]⟩,
 .op ⟨some 32,.build [.int .i64 0,.int .i64 0,.int .i64 0,.int .i64 0] [(0,2,.t 29),(2,2,.t 31)],none,[8,10]⟩] 2 2 [
 o1 7 (.alloc [.int .i64 0,.int .i64 0] 164),
 o1 8 (.alloc [.int .i64 0,.int .i64 0,.int .i64 0,.int .i64 0] 217),
 ⟨none,.st (.t 7) (.t 27) 2,none,[0,1,2,3,4,5,6,12,13]⟩,
 ⟨none,.st (.t 8) (.t 32) 4,none,[0,1,2,3,4,5,6,7,8,9,10,11,12,13,14]⟩])
 (sr1 [
 o1 9 (.mv (.c (.int .u8 0)))]
 (.seq (sr1 [
 o1 33 (.addo (.t 2) 0),
 o1 34 (.ld (.t 33) 17 true),
 o1 35 (.addo (.t 2) 17),
 o1 36 (.addo (.t 35) 6),
 o1 37 (.ld (.t 36) 1 false),
 o1 38 (.ld (.t 3) 8 true),
 o1 39 (.call 126 [.t 34,.t 37,.t 38]),
 o1 40 (.mv (.c (.int .i64 0)))]
 (.block 0 (.loop (sr1 [
  o1 41 (.bin .lss (.t 40) (.c (.int .i64 2)))]
  (.seq (.cond (.t 41)
  .skip
  (.exit 0))
  (.seq (.block 1 (sr1 [
   m1 42 40,
   o1 43 (.idx (.t 39) (.t 40) 2 2 true),
   o1 11 (.alloc [.int .i64 0,.int .i64 0] 27),
   m1 10 42,
   ⟨none,.st (.t 11) (.t 43) 2,none,[]⟩]
   (sr1 [
   m1 44 10,
   o1 45 (.ixa (.t 6) (.t 44) 2 1),
   o1 46 (.ld (.t 45) 1 false),
   m1 12 46]
   (.seq (.block 2 (.seq (.regd [0,1,2,3,4,5,6,7] [
    .op (m1 48 12),
    .op ⟨some 49,.nilc (.t 48),none,[0]⟩,
    .op ⟨some 50,.addo (.t 49) 1,none,[1]⟩,
    .op ⟨some 51,.ld (.t 50) 1 false,none,[2]⟩,
    .op (o1 52 (.addo (.t 11) 0)),
    .op ⟨some 53,.ld (.t 52) 1 false,none,[4]⟩,
    .op ⟨some 54,.bin .lss (.t 51) (.t 53),none,[3,5]⟩,
    .op ⟨some 47,.mv (.t 54),none,[6]⟩] 0 0 [
])
 (.cond (.t 47)
 (sr1 [
  o1 55 (.build zv1 []),
  ⟨none,.st (.t 4) (.t 55) 24,none,[]⟩,
  o1 5 (.mv (.c (.int .u8 2)))]
  .ret)
 (.seq (.regd [0,1,2,3,4,5,6,7] [
  .op (m1 57 12),
  .op ⟨some 58,.nilc (.t 57),none,[0]⟩,
  .op ⟨some 59,.addo (.t 58) 0,none,[1]⟩,
  .op ⟨some 60,.ld (.t 59) 1 false,none,[2]⟩,
  .op (o1 61 (.addo (.t 11) 1)),
  .op ⟨some 62,.ld (.t 61) 1 false,none,[4]⟩,
  .op ⟨some 63,.bin .lss (.t 60) (.t 62),none,[3,5]⟩,
  .op ⟨some 56,.mv (.t 63),none,[6]⟩] 0 0 [
])
 (.cond (.t 56)
 (.reg [
  o1 9 (.mv (.c (.int .u8 1)))])
 .skip)))))
 (.seq (.regd [0,1,2,3,4,5,6,7,8,9,10,11,12,13,14,15,16,17,18,19,20,21,22] [
 .op (m1 64 12),
 .op ⟨some 65,.nilc (.t 64),none,[0]⟩,
 .op ⟨some 66,.addo (.t 65) 0,none,[1]⟩,
 .op ⟨some 67,.ld (.t 66) 1 false,none,[2]⟩,
 .op (o1 68 (.addo (.t 11) 1)),
 .op ⟨some 69,.ld (.t 68) 1 false,none,[4]⟩,
 .op ⟨some 70,.bin .sub (.t 67) (.t 69),none,[3,5]⟩,
 .op ⟨some 71,.mm true [.c (.int .i64 0),.t 70],none,[6]⟩,
 .op (m1 72 12),
 .op ⟨some 73,.nilc (.t 72),none,[8]⟩,
 .op ⟨some 74,.addo (.t 73) 1,none,[9]⟩,
 .op ⟨some 75,.ld (.t 74) 1 false,none,[10]⟩,
 .op (o1 76 (.addo (.t 11) 0)),
 .op ⟨some 77,.ld (.t 76) 1 false,none,[12]⟩,
 .op ⟨some 78,.bin .sub (.t 75) (.t 77),none,[11,13]⟩,
 .op ⟨some 79,.build [.int .i64 0,.int .i64 0] [(0,1,.t 71),(1,1,.t 78)],none,[7,14]⟩,
 .op (m1 80 10),
 .op ⟨some 81,.ixa (.t 8) (.t 80) 2 2,none,[16]⟩,
 .op ⟨some 82,.ld (.t 81) 2 true,none,[17]⟩,
 .op ⟨some 83,.bsl 2 27 [.t 79,.t 82],none,[15,18]⟩,
 .op ⟨some 84,.call 127 [.t 83],none,[19]⟩] 1 1 [
 o1 13 (.alloc [.int .i64 0,.int .i64 0] 27),
 ⟨none,.st (.t 13) (.t 84) 2,none,[0,1,2,3,4,5,6,7,8,9,10,11,12,13,14,15,16,17,18,19,20,21]⟩])
 (.regd [0,1,2,3,4,5,6,7,8,9,10,11,12,13,14,15] [
 .op (m1 85 12),
 .op (m1 86 10),
 .op ⟨some 87,.ixa (.t 7) (.t 86) 2 1,none,[1]⟩,
 .op ⟨some 88,.ld (.t 87) 1 false,none,[2]⟩,
 .op (o1 89 (.addo (.t 13) 0)),
 .op ⟨some 90,.ld (.t 89) 1 false,none,[4]⟩,
 .op ⟨some 91,.mm false [.t 88,.t 90],none,[3,5]⟩,
 .op (m1 92 10),
 .op ⟨some 93,.ixa (.t 7) (.t 92) 2 1,none,[7]⟩,
 .op ⟨some 94,.ld (.t 93) 1 false,none,[8]⟩,
 .op (o1 95 (.addo (.t 13) 1)),
 .op ⟨some 96,.ld (.t 95) 1 false,none,[10]⟩,
 .op ⟨some 97,.mm false [.t 94,.t 96],none,[9,11]⟩,
 .op ⟨some 98,.build [.int .i64 0,.int .i64 0] [(0,1,.t 91),(1,1,.t 97)],none,[6,12]⟩,
 .op ⟨some 99,.nilc (.t 85),none,[0,1,2,3,4,5,6,7,8,9,10,11,12,13]⟩] 0 1 [
 ⟨none,.st (.t 99) (.t 98) 2,none,[0,1,2,3,4,5,6,7,8,9,10,11,12,13,14]⟩]))))))
 (.reg [
 o1 100 (.bin .add (.t 40) (.c (.int .i64 1))),
 m1 40 100])))))))
 (sr1 [
 o1 101 (.addo (.t 2) 17),
 o1 102 (.addo (.t 101) 4),
 m1 14 102]
 (.seq (sr1 [
 o1 103 (.addo (.t 3) 0),
 o1 104 (.ld (.t 103) 1 false),
 o1 105 (.bin .eql (.t 104) (.c (.int .i64 0)))]
 (.cond (.t 105)
 (.seq (.regd [0,1,2,3,4,5,6,7,8,9,10,11,12,13,14,15,16,17,18,19,20,21] [
  .op (m1 106 14),
  .op (m1 107 14),
  .op ⟨some 108,.nilc (.t 107),none,[1]⟩,
  .op ⟨some 109,.addo (.t 108) 0,none,[2]⟩,
  .op ⟨some 110,.ld (.t 109) 1 false,none,[3]⟩,
  .op (o1 111 (.addo (.t 2) 0)),
  .op ⟨some 112,.addo (.t 111) 14,none,[5]⟩,
  .op ⟨some 113,.ld (.t 112) 1 false,none,[6]⟩,
  .op ⟨some 114,.bin .sub (.t 110) (.t 113),none,[4,7]⟩,
  .op ⟨some 115,.mm true [.c (.int .i64 0),.t 114],none,[8]⟩,
  .op (m1 116 14),
  .op ⟨some 117,.nilc (.t 116),none,[10]⟩,
  .op ⟨some 118,.addo (.t 117) 1,none,[11]⟩,
  .op ⟨some 119,.ld (.t 118) 1 false,none,[12]⟩,
  .op (o1 120 (.addo (.t 2) 0)),
  .op ⟨some 121,.addo (.t 120) 14,none,[14]⟩,
  .op ⟨some 122,.ld (.t 121) 1 false,none,[15]⟩,
  .op ⟨some 123,.bin .sub (.t 119) (.t 122),none,[13,16]⟩,
  .op ⟨some 124,.mm true [.c (.int .i64 0),.t 123],none,[17]⟩,
  .op ⟨some 125,.build [.int .i64 0,.int .i64 0] [(0,1,.t 115),(1,1,.t 124)],none,[9,18]⟩,
  .op ⟨some 126,.nilc (.t 106),none,[0,1,2,3,4,5,6,7,8,9,10,11,12,13,14,15,16,17,18,19]⟩] 0 1 [
  ⟨none,.st (.t 126) (.t 125) 2,none,[0,1,2,3,4,5,6,7,8,9,10,11,12,13,14,15,16,17,18,19,20]⟩])
  (sr1 [
  o1 127 (.ld (.t 2) 24 true),
  m1 128 9,
  ⟨none,.st (.t 4) (.t 127) 24,none,[]⟩,
  m1 5 128]
  .ret))
 .skip))
 (.seq (.regd [0,1,2,3,4,5,6,7,8,9,10,11,12,13,14,15] [
 .op (m1 129 14),
 .op ⟨some 130,.nilc (.t 129),none,[0]⟩,
 .op ⟨some 131,.ld (.t 130) 2 true,none,[1]⟩,
 .op (o1 132 (.addo (.t 2) 0)),
 .op ⟨some 133,.addo (.t 132) 10,none,[3]⟩,
 .op ⟨some 134,.ld (.t 133) 2 true,none,[4]⟩,
 .op (o1 135 (.addo (.t 3) 0)),
 .op ⟨some 136,.ld (.t 135) 1 false,none,[6]⟩,
 .op (o1 137 (.addo (.t 3) 1)),
 .op ⟨some 138,.ld (.t 137) 1 false,none,[8]⟩,
 .op ⟨some 139,.bsl 1 3 [.t 136,.t 138],none,[7,9]⟩,
 .op ⟨some 140,.call 128 [.t 134,.c (.int .i64 1000000),.t 139],none,[5,10]⟩,
 .op ⟨some 141,.bsl 2 27 [.t 131,.t 140],none,[2,11]⟩,
 .op ⟨some 142,.call 127 [.t 141],none,[11,12]⟩] 1 1 [
 o1 15 (.alloc [.int .i64 0,.int .i64 0] 27),
 ⟨none,.st (.t 15) (.t 142) 2,none,[0,1,2,3,4,5,6,7,8,9,10,11,12,13,14]⟩])
 (sr1 [
 m1 143 14,
 o1 144 (.addo (.t 15) 0),
 o1 145 (.ld (.t 144) 1 false),
 o1 146 (.mm false [.c (.int .i64 1000),.t 145]),
 o1 147 (.addo (.t 15) 1),
 o1 148 (.ld (.t 147) 1 false),
 o1 149 (.mm false [.c (.int .i64 1000),.t 148]),
 o1 150 (.build [.int .i64 0,.int .i64 0] [(0,1,.t 146),(1,1,.t 149)]),
 o1 151 (.nilc (.t 143)),
 ⟨none,.st (.t 151) (.t 150) 2,none,[]⟩]
 (sr1 [
 o1 152 (.ld (.t 2) 24 true),
 m1 153 9,
 ⟨none,.st (.t 4) (.t 152) 24,none,[]⟩,
 m1 5 153]
 .ret))))))))))
def r84:List RV:=[.cell 4 24 true,.tmp 5]
theorem t84:Qt1 Tryz.prog 84 c84 r84 154:=Z8 Tryz.func84 rfl (by kernel_rfl) (by kernel_rfl) (by kernel_rfl) (by kernel_rfl)
def c40:SC:=(sr1 [
 o1 3 (.box (.t 0) 0 29),
 o1 4 (.box (.t 1) 0 31),
 o1 5 (.box (.t 2) 0 80),
 o1 6 (.alloc zv4 31),
 o1 7 (.mv (.c (.int .u8 0))),
 o1 8 (.mv (.c (.int .i64 0)))]
 (.seq (sr1 [
 o1 12 (.ld (.t 3) 17 true),
 o1 13 (.ld (.t 4) 7 true),
 o1 14 (.call 54 [.t 12,.t 13]),
 m1 9 14]
 (sr1 [
 m1 15 9,
 o1 16 (.bin .neq (.t 15) (.c (.int .i64 0)))]
 (.cond (.t 16)
 (sr1 [
  o1 17 (.ld (.t 6) 7 true),
  m1 18 9,
  ⟨none,.st (.t 6) (.t 17) 7,none,[]⟩,
  o1 7 (.mv (.c (.int .u8 0))),
  m1 8 18]
  .ret)
 .skip)))
 (.seq (sr1 [
 o1 19 (.ld (.t 5) 8 true),
 o1 20 (.bsl 8 80 [.t 19]),
 o1 21 (.call 83 [.t 20]),
 m1 10 21]
 (sr1 [
 m1 22 10,
 o1 23 (.bin .neq (.t 22) (.c (.int .i64 0)))]
 (.cond (.t 23)
 (sr1 [
  o1 24 (.ld (.t 6) 7 true),
  m1 25 10,
  ⟨none,.st (.t 6) (.t 24) 7,none,[]⟩,
  o1 7 (.mv (.c (.int .u8 0))),
  m1 8 25]
  .ret)
 .skip)))
 (sr1 [
 o1 27 (.ld (.t 3) 17 true),
 o1 28 (.ld (.t 4) 7 true),
 o1 29 (.build zv1 [(0,17,.t 27),(17,7,.t 28)]),
 o1 30 (.ld (.t 5) 8 true),
 o1 31 (.call 84 [.t 29,.t 30]),
 m1 26 31,
 o1 32 (.ext (.t 26) 0),
 o1 33 (.ext (.t 26) 1),
 o1 11 (.alloc zv1 169),
 ⟨none,.st (.t 11) (.t 32) 24,none,[]⟩,
 m1 7 33]
 (.seq (sr1 [
 m1 34 7,
 o1 35 (.bin .eql (.t 34) (.c (.int .u8 2)))]
 (.cond (.t 35)
 (sr1 [
  o1 36 (.ld (.t 6) 7 true),
  ⟨none,.st (.t 6) (.t 36) 7,none,[]⟩,
  o1 7 (.mv (.c (.int .u8 0))),
  o1 8 (.mv (.c (.int .i64 13)))]
  .ret)
 .skip))
 (sr1 [
 o1 37 (.addo (.t 11) 17),
 o1 38 (.ld (.t 37) 7 true),
 m1 39 7,
 ⟨none,.st (.t 6) (.t 38) 7,none,[]⟩,
 m1 7 39,
 o1 8 (.mv (.c (.int .i64 0)))]
 .ret))))))
def r40:List RV:=[.cell 6 7 true,.tmp 7,.tmp 8]
theorem t40:Qt1 Tryz.prog 40 c40 r40 40:=Z8 Tryz.func40 rfl (by kernel_rfl) (by kernel_rfl) (by kernel_rfl) (by kernel_rfl)
def c46:SC:=(sr1 [
 o1 1 (.box (.t 0) 0 25),
 o1 2 (.mv (.c (.bool false)))]
 (.seq (sr1 [
 o1 4 (.addo (.t 1) 0),
 o1 5 (.ld (.t 4) 1 false),
 o1 6 (.len (.t 5)),
 o1 7 (.bin .gtr (.t 6) (.c (.int .i64 20))),
 m1 8 7,
 ⟨some 9,.addo (.t 1) 1,some (8,false),[]⟩,
 ⟨some 10,.ld (.t 9) 1 false,some (8,false),[]⟩,
 ⟨some 11,.len (.t 10),some (8,false),[]⟩,
 ⟨some 12,.bin .gtr (.t 11) (.c (.int .i64 40)),some (8,false),[]⟩,
 o1 13 (.pick (.t 8) (.c (.bool true)) (.t 12))]
 (.cond (.t 13)
 (sr1 [
  o1 2 (.mv (.c (.bool true)))]
  .ret)
 .skip))
 (.seq (sr1 [
 o1 3 (.mv (.c (.int .i64 0)))]
 (.block 0 (.loop (.seq (sr1 [
  m1 14 3,
  o1 15 (.addo (.t 1) 1),
  o1 16 (.ld (.t 15) 1 false),
  o1 17 (.len (.t 16)),
  o1 18 (.bin .lss (.t 14) (.t 17))]
  (.cond (.t 18)
  .skip
  (.exit 0)))
  (.seq (.block 1 (sr1 [
   o1 21 (.addo (.t 1) 1),
   o1 22 (.ld (.t 21) 1 false),
   m1 23 3,
   o1 24 (.ixs (.t 22) (.t 23) 5),
   o1 25 (.addo (.t 24) 4),
   o1 26 (.ld (.t 25) 1 false),
   o1 27 (.len (.t 26)),
   o1 28 (.bin .gtr (.t 27) (.c (.int .i64 20)))]
   (.cond (.t 28)
   (sr1 [
    o1 2 (.mv (.c (.bool true)))]
    .ret)
   .skip)))
  (.reg [
  m1 19 3,
  o1 20 (.bin .add (.t 19) (.c (.int .i64 1))),
  m1 3 20]))))))
 (sr1 [
 o1 2 (.mv (.c (.bool false)))]
 .ret))))
def r46:List RV:=[.tmp 2]
theorem t46:Qt1 Tryz.prog 46 c46 r46 29:=Z8 Tryz.func46 rfl (by kernel_rfl) (by kernel_rfl) (by kernel_rfl) (by kernel_rfl)
def c42:SC:=(sr1 [
 o1 4 (.box (.t 0) 0 25),
 o1 8 (.alloc [.int .i64 0,.int .i64 0] 27),
 o1 9 (.mv (.c (.int .i64 0))),
 o1 10 (.mv (.c (.int .i64 0)))]
 (.seq (sr1 [
 o1 20 (.ld (.t 4) 2 true),
 o1 21 (.call 85 [.t 20]),
 m1 11 21]
 (.block 0 (sr1 [
  m1 23 11,
  o1 24 (.bin .neq (.t 23) (.c (.int .i64 0))),
  m1 22 24]
  (.cond (.t 22)
  (sr1 [
   o1 25 (.ld (.t 8) 2 true),
   m1 26 11,
   ⟨none,.st (.t 8) (.t 25) 2,none,[]⟩,
   o1 9 (.mv (.c (.int .i64 0))),
   m1 10 26]
   .ret)
  (sr1 [
   o1 28 (.addo (.t 4) 0),
   o1 29 (.ld (.t 28) 1 false),
   o1 30 (.len (.t 29)),
   o1 31 (.bin .sub (.t 30) (.c (.int .i64 1))),
   m1 32 1,
   o1 33 (.bsl 1 3 [.t 32]),
   o1 34 (.call 76 [.c (.int .i64 0),.t 31,.t 33]),
   o1 35 (.un .not (.t 34)),
   m1 36 35,
   ⟨some 37,.mv (.t 3),some (36,false),[]⟩,
   ⟨some 38,.bsl 1 3 [.t 37],some (36,false),[]⟩,
   ⟨some 39,.call 76 [.c (.int .i64 0),.c (.int .i64 100000),.t 38],some (36,false),[]⟩,
   ⟨some 40,.un .not (.t 39),some (36,false),[]⟩,
   o1 41 (.pick (.t 36) (.c (.bool true)) (.t 40)),
   m1 27 41]
   (.cond (.t 27)
   (sr1 [
    o1 42 (.ld (.t 8) 2 true),
    ⟨none,.st (.t 8) (.t 42) 2,none,[]⟩,
    o1 9 (.mv (.c (.int .i64 0))),
    o1 10 (.mv (.c (.int .i64 2)))]
    .ret)
   (sr1 [
    m1 44 2,
    o1 45 (.len (.t 44)),
    o1 46 (.bin .gtr (.t 45) (.c (.int .i64 200))),
    m1 43 46]
    (.cond (.t 43)
    (sr1 [
     o1 47 (.ld (.t 8) 2 true),
     ⟨none,.st (.t 8) (.t 47) 2,none,[]⟩,
     o1 9 (.mv (.c (.int .i64 0))),
     o1 10 (.mv (.c (.int .i64 4)))]
     .ret)
    .skip))))))))
 (sr1 [
 o1 12 (.mv (.c (.int .i64 0)))]
 (.seq (sr1 [
 m1 48 2,
 o1 49 (.len (.t 48)),
 o1 50 (.mv (.c (.int .i64 0)))]
 (.block 1 (.loop (sr1 [
  o1 51 (.bin .lss (.t 50) (.t 49))]
  (.seq (.cond (.t 51)
  .skip
  (.exit 1))
  (.seq (.block 2 (sr1 [
   o1 52 (.ixs (.t 48) (.t 50) 3),
   o1 53 (.ld (.t 52) 3 true),
   o1 14 (.alloc [.int .i64 0,.int .i64 0,.int .i64 0] 111),
   ⟨none,.st (.t 14) (.t 53) 3,none,[]⟩]
   (.seq (sr1 [
   o1 54 (.addo (.t 4) 0),
   o1 55 (.ld (.t 54) 1 false),
   o1 56 (.len (.t 55)),
   o1 57 (.bin .sub (.t 56) (.c (.int .i64 1))),
   o1 58 (.addo (.t 14) 0),
   o1 59 (.ld (.t 58) 1 false),
   o1 60 (.bsl 1 3 [.t 59]),
   o1 61 (.call 76 [.c (.int .i64 0),.t 57,.t 60]),
   o1 62 (.un .not (.t 61)),
   m1 63 62,
   ⟨some 64,.mv (.t 12),some (63,false),[]⟩,
   ⟨some 65,.addo (.t 14) 1,some (63,false),[]⟩,
   ⟨some 66,.ld (.t 65) 1 false,some (63,false),[]⟩,
   ⟨some 67,.bsl 1 3 [.t 66],some (63,false),[]⟩,
   ⟨some 68,.call 76 [.t 64,.c (.int .i64 100000),.t 67],some (63,false),[]⟩,
   ⟨some 69,.un .not (.t 68),some (63,false),[]⟩,
   o1 70 (.pick (.t 63) (.c (.bool true)) (.t 69)),
   m1 71 70,
   ⟨some 72,.addo (.t 14) 2,some (71,false),[]⟩,
   ⟨some 73,.ld (.t 72) 1 false,some (71,false),[]⟩,
   ⟨some 74,.bsl 1 3 [.t 73],some (71,false),[]⟩,
   ⟨some 75,.call 76 [.c (.int .i64 0),.c (.int .i64 1000000000),.t 74],some (71,false),[]⟩,
   ⟨some 76,.un .not (.t 75),some (71,false),[]⟩,
   o1 77 (.pick (.t 71) (.c (.bool true)) (.t 76))]
   (.cond (.t 77)
   (sr1 [
    o1 78 (.ld (.t 8) 2 true),
    ⟨none,.st (.t 8) (.t 78) 2,none,[]⟩,
    o1 9 (.mv (.c (.int .i64 0))),
    o1 10 (.mv (.c (.int .i64 32)))]
    .ret)
   .skip))
   (.reg [
   o1 79 (.addo (.t 14) 1),
   o1 80 (.ld (.t 79) 1 false),
   m1 12 80]))))
  (.reg [
  o1 81 (.bin .add (.t 50) (.c (.int .i64 1))),
  m1 50 81])))))))
 (sr1 [
 o1 82 (.addo (.t 4) 0),
 o1 83 (.ld (.t 82) 1 false),
 m1 84 1,
 o1 85 (.ixs (.t 83) (.t 84) 9),
 o1 86 (.ld (.t 85) 9 true),
 o1 15 (.alloc zv3 88),
 ⟨none,.st (.t 15) (.t 86) 9,none,[]⟩]
 (sr1 [
 o1 87 (.addo (.t 15) 6),
 o1 88 (.ld (.t 87) 2 true),
 o1 16 (.alloc [.int .i64 0,.int .i64 0] 27),
 ⟨none,.st (.t 16) (.t 88) 2,none,[]⟩,
 o1 17 (.mv (.c (.int .i64 (-1))))]
 (.seq (sr1 [
 m1 89 2,
 o1 90 (.len (.t 89)),
 o1 91 (.mv (.c (.int .i64 0)))]
 (.block 3 (.loop (sr1 [
  o1 92 (.bin .lss (.t 91) (.t 90))]
  (.seq (.cond (.t 92)
  .skip
  (.exit 3))
  (.seq (.block 4 (sr1 [
   m1 93 91,
   o1 94 (.ixs (.t 89) (.t 91) 3),
   o1 95 (.ld (.t 94) 3 true),
   o1 19 (.alloc [.int .i64 0,.int .i64 0,.int .i64 0] 111),
   m1 18 93,
   ⟨none,.st (.t 19) (.t 95) 3,none,[]⟩]
   (.seq (sr1 [
   o1 96 (.addo (.t 19) 0),
   o1 97 (.ld (.t 96) 1 false),
   m1 98 1,
   o1 99 (.bin .neq (.t 97) (.t 98)),
   m1 100 99,
   ⟨some 101,.addo (.t 19) 1,some (100,false),[]⟩,
   ⟨some 102,.ld (.t 101) 1 false,some (100,false),[]⟩,
   ⟨some 103,.mv (.t 3),some (100,false),[]⟩,
   ⟨some 104,.bin .geq (.t 102) (.t 103),some (100,false),[]⟩,
   o1 105 (.pick (.t 100) (.c (.bool true)) (.t 104))]
   (.cond (.t 105)
   (.exit 4)
   .skip))
   (sr1 [
   o1 106 (.ld (.t 15) 9 true),
   o1 107 (.ld (.t 16) 2 true),
   o1 108 (.addo (.t 19) 1),
   o1 109 (.ld (.t 108) 1 false),
   m1 110 17,
   o1 111 (.bin .sub (.t 109) (.t 110)),
   o1 112 (.call 86 [.t 106,.t 107,.t 111]),
   ⟨none,.st (.t 16) (.t 112) 2,none,[]⟩]
   (sr1 [
   o1 113 (.addo (.t 19) 1),
   o1 114 (.ld (.t 113) 1 false),
   m1 17 114]
   (.seq (sr1 [
   o1 115 (.addo (.t 16) 1),
   o1 116 (.ld (.t 115) 1 false),
   o1 117 (.addo (.t 19) 2),
   o1 118 (.ld (.t 117) 1 false),
   o1 119 (.bin .lss (.t 116) (.t 118))]
   (.cond (.t 119)
   (sr1 [
    o1 120 (.ld (.t 8) 2 true),
    m1 121 18,
    ⟨none,.st (.t 8) (.t 120) 2,none,[]⟩,
    m1 9 121,
    o1 10 (.mv (.c (.int .i64 33)))]
    .ret)
   .skip))
   (.reg [
   o1 122 (.addo (.t 16) 0),
   o1 123 (.ld (.t 122) 1 false),
   o1 124 (.addo (.t 19) 2),
   o1 125 (.ld (.t 124) 1 false),
   o1 126 (.bin .sub (.t 123) (.t 125)),
   o1 127 (.mm true [.c (.int .i64 0),.t 126]),
   o1 128 (.addo (.t 16) 1),
   o1 129 (.ld (.t 128) 1 false),
   o1 130 (.addo (.t 19) 2),
   o1 131 (.ld (.t 130) 1 false),
   o1 132 (.bin .sub (.t 129) (.t 131)),
   o1 133 (.build [.int .i64 0,.int .i64 0] [(0,1,.t 127),(1,1,.t 132)]),
   ⟨none,.st (.t 16) (.t 133) 2,none,[]⟩])))))))
  (.reg [
  o1 134 (.bin .add (.t 91) (.c (.int .i64 1))),
  m1 91 134])))))))
 (sr1 [
 o1 135 (.ld (.t 15) 9 true),
 o1 136 (.ld (.t 16) 2 true),
 m1 137 3,
 o1 138 (.bin .sub (.t 137) (.c (.int .i64 1))),
 m1 139 17,
 o1 140 (.bin .sub (.t 138) (.t 139)),
 o1 141 (.call 86 [.t 135,.t 136,.t 140]),
 ⟨none,.st (.t 8) (.t 141) 2,none,[]⟩,
 o1 9 (.mv (.c (.int .i64 0))),
 o1 10 (.mv (.c (.int .i64 0)))]
 .ret))))))))
def r42:List RV:=[.cell 8 2 true,.tmp 9,.tmp 10]
theorem t42:Qt1 Tryz.prog 42 c42 r42 142:=Z8 Tryz.func42 rfl (by kernel_rfl) (by kernel_rfl) (by kernel_rfl) (by kernel_rfl)
def c85:SC:=(sr1 [
 o1 1 (.box (.t 0) 0 25),
 o1 2 (.mv (.c (.int .i64 0)))]
 (sr1 [
 o1 5 (.addo (.t 1) 0),
 o1 6 (.ld (.t 5) 1 false),
 o1 7 (.call 129 [.t 6,.f 130]),
 o1 8 (.un .not (.t 7)),
 m1 3 8]
 (sr1 [
 o1 9 (.addo (.t 1) 1),
 o1 10 (.ld (.t 9) 1 false),
 o1 11 (.mkf 133 [.t 1]),
 o1 12 (.call 132 [.t 10,.t 11]),
 o1 13 (.un .not (.t 12)),
 m1 4 13]
 (.seq (sr1 [
 o1 14 (.addo (.t 1) 0),
 o1 15 (.ld (.t 14) 1 false),
 o1 16 (.len (.t 15)),
 o1 17 (.bsl 1 3 [.t 16]),
 o1 18 (.call 76 [.c (.int .i64 1),.c (.int .i64 12),.t 17]),
 o1 19 (.un .not (.t 18)),
 m1 20 19,
 ⟨some 21,.addo (.t 1) 1,some (20,false),[]⟩,
 ⟨some 22,.ld (.t 21) 1 false,some (20,false),[]⟩,
 ⟨some 23,.len (.t 22),some (20,false),[]⟩,
 ⟨some 24,.bin .gtr (.t 23) (.c (.int .i64 24)),some (20,false),[]⟩,
 o1 25 (.pick (.t 20) (.c (.bool true)) (.t 24)),
 m1 26 25,
 ⟨some 27,.mv (.t 3),some (26,false),[]⟩,
 ⟨some 28,.un .not (.t 27),some (26,false),[]⟩,
 o1 29 (.pick (.t 26) (.c (.bool true)) (.t 28)),
 m1 30 29,
 ⟨some 31,.mv (.t 4),some (30,false),[]⟩,
 ⟨some 32,.un .not (.t 31),some (30,false),[]⟩,
 o1 33 (.pick (.t 30) (.c (.bool true)) (.t 32))]
 (.cond (.t 33)
 (sr1 [
  o1 2 (.mv (.c (.int .i64 30)))]
  .ret)
 .skip))
 (sr1 [
 o1 2 (.mv (.c (.int .i64 0)))]
 .ret)))))
def r85:List RV:=[.tmp 2]
theorem t85:Qt1 Tryz.prog 85 c85 r85 34:=Z8 Tryz.func85 rfl (by kernel_rfl) (by kernel_rfl) (by kernel_rfl) (by kernel_rfl)
def c76:SC:=(sr1 [
 o1 3 (.box (.t 0) 0 3),
 o1 4 (.box (.t 1) 0 3),
 o1 6 (.mv (.c (.bool false)))]
 (sr1 [
 m1 7 2,
 o1 8 (.mkf 121 [.t 3,.t 4]),
 o1 9 (.call 98 [.t 7,.t 8]),
 o1 10 (.un .not (.t 9)),
 m1 6 10]
 .ret))
def r76:List RV:=[.tmp 6]
theorem t76:Qt1 Tryz.prog 76 c76 r76 11:=Z8 Tryz.func76 rfl (by kernel_rfl) (by kernel_rfl) (by kernel_rfl) (by kernel_rfl)
def c86:SC:=(sr1 [
 o1 3 (.box (.t 0) 0 88),
 o1 4 (.box (.t 1) 0 27),
 o1 6 (.alloc [.int .i64 0,.int .i64 0] 27)]
 (sr1 [
 o1 7 (.addo (.t 3) 5),
 o1 8 (.ld (.t 7) 1 false),
 o1 9 (.addo (.t 4) 0),
 o1 10 (.ld (.t 9) 1 false),
 m1 11 2,
 o1 12 (.addo (.t 3) 3),
 o1 13 (.addo (.t 12) 0),
 o1 14 (.ld (.t 13) 1 false),
 o1 15 (.bin .mul (.t 11) (.t 14)),
 o1 16 (.bin .add (.t 10) (.t 15)),
 o1 17 (.mm false [.t 8,.t 16]),
 o1 18 (.addo (.t 3) 5),
 o1 19 (.ld (.t 18) 1 false),
 o1 20 (.addo (.t 4) 1),
 o1 21 (.ld (.t 20) 1 false),
 m1 22 2,
 o1 23 (.addo (.t 3) 3),
 o1 24 (.addo (.t 23) 1),
 o1 25 (.ld (.t 24) 1 false),
 o1 26 (.bin .mul (.t 22) (.t 25)),
 o1 27 (.bin .add (.t 21) (.t 26)),
 o1 28 (.mm false [.t 19,.t 27]),
 o1 29 (.build [.int .i64 0,.int .i64 0] [(0,1,.t 17),(1,1,.t 28)]),
 ⟨none,.st (.t 6) (.t 29) 2,none,[]⟩]
 .ret))
def r86:List RV:=[.cell 6 2 true]
theorem t86:Qt1 Tryz.prog 86 c86 r86 30:=Z8 Tryz.func86 rfl (by kernel_rfl) (by kernel_rfl) (by kernel_rfl) (by kernel_rfl)
def c136:SC:=(sr1 [
 o1 1 (.box (.t 0) 0 25),
 o1 2 (.mv (.c (.bool false)))]
 (.seq (sr1 [
 o1 10 (.addo (.t 1) 0),
 o1 11 (.ld (.t 10) 1 false),
 o1 12 (.len (.t 11)),
 o1 13 (.call 88 [.t 12,.c (.int .i64 1),.c (.int .i64 12)]),
 o1 14 (.un .not (.t 13)),
 m1 15 14,
 ⟨some 16,.addo (.t 1) 1,some (15,false),[]⟩,
 ⟨some 17,.ld (.t 16) 1 false,some (15,false),[]⟩,
 ⟨some 18,.len (.t 17),some (15,false),[]⟩,
 ⟨some 19,.bin .gtr (.t 18) (.c (.int .i64 24)),some (15,false),[]⟩,
 o1 20 (.pick (.t 15) (.c (.bool true)) (.t 19))]
 (.cond (.t 20)
 (sr1 [
  o1 2 (.mv (.c (.bool false)))]
  .ret)
 .skip))
 (.seq (sr1 [
 o1 3 (.mv (.c (.int .i64 0)))]
 (.block 0 (.loop (.seq (sr1 [
  m1 21 3,
  o1 22 (.addo (.t 1) 0),
  o1 23 (.ld (.t 22) 1 false),
  o1 24 (.len (.t 23)),
  o1 25 (.bin .lss (.t 21) (.t 24))]
  (.cond (.t 25)
  .skip
  (.exit 0)))
  (.seq (.block 1 (sr1 [
   o1 28 (.addo (.t 1) 0),
   o1 29 (.ld (.t 28) 1 false),
   m1 30 3,
   o1 31 (.ixs (.t 29) (.t 30) 9),
   o1 32 (.ld (.t 31) 9 true),
   o1 4 (.alloc zv3 88),
   ⟨none,.st (.t 4) (.t 32) 9,none,[]⟩]
   (sr1 [
   o1 33 (.addo (.t 4) 0),
   o1 34 (.ld (.t 33) 1 false),
   o1 35 (.call 88 [.t 34,.c (.int .i64 (-10000000)),.c (.int .i64 10000000)]),
   o1 36 (.un .not (.t 35)),
   m1 37 36,
   ⟨some 38,.addo (.t 4) 1,some (37,false),[]⟩,
   ⟨some 39,.ld (.t 38) 1 false,some (37,false),[]⟩,
   ⟨some 40,.call 88 [.t 39,.c (.int .i64 (-10000000)),.c (.int .i64 10000000)],some (37,false),[]⟩,
   ⟨some 41,.un .not (.t 40),some (37,false),[]⟩,
   o1 42 (.pick (.t 37) (.c (.bool true)) (.t 41)),
   m1 43 42,
   ⟨some 44,.addo (.t 4) 2,some (43,false),[]⟩,
   ⟨some 45,.ld (.t 44) 1 false,some (43,false),[]⟩,
   ⟨some 46,.call 88 [.t 45,.c (.int .i64 0),.c (.int .i64 200)],some (43,false),[]⟩,
   ⟨some 47,.un .not (.t 46),some (43,false),[]⟩,
   o1 48 (.pick (.t 43) (.c (.bool true)) (.t 47)),
   m1 49 48,
   ⟨some 50,.addo (.t 4) 3,some (49,false),[]⟩,
   ⟨some 51,.ld (.t 50) 2 true,some (49,false),[]⟩,
   ⟨some 52,.call 137 [.t 51,.c (.int .i64 0),.c (.int .i64 10000000)],some (49,false),[]⟩,
   ⟨some 53,.un .not (.t 52),some (49,false),[]⟩,
   o1 54 (.pick (.t 49) (.c (.bool true)) (.t 53)),
   m1 55 54,
   ⟨some 56,.addo (.t 4) 5,some (55,false),[]⟩,
   ⟨some 57,.ld (.t 56) 1 false,some (55,false),[]⟩,
   ⟨some 58,.call 88 [.t 57,.c (.int .i64 0),.c (.int .i64 1000000000)],some (55,false),[]⟩,
   ⟨some 59,.un .not (.t 58),some (55,false),[]⟩,
   o1 60 (.pick (.t 55) (.c (.bool true)) (.t 59)),
   m1 61 60,
   ⟨some 62,.addo (.t 4) 6,some (61,false),[]⟩,
   ⟨some 63,.ld (.t 62) 2 true,some (61,false),[]⟩,
   ⟨some 64,.addo (.t 4) 5,some (61,false),[]⟩,
   ⟨some 65,.ld (.t 64) 1 false,some (61,false),[]⟩,
   ⟨some 66,.call 137 [.t 63,.c (.int .i64 0),.t 65],some (61,false),[]⟩,
   ⟨some 67,.un .not (.t 66),some (61,false),[]⟩,
   o1 68 (.pick (.t 61) (.c (.bool true)) (.t 67)),
   m1 69 68,
   ⟨some 70,.addo (.t 4) 8,some (69,false),[]⟩,
   ⟨some 71,.ld (.t 70) 1 false,some (69,false),[]⟩,
   ⟨some 72,.call 88 [.t 71,.c (.int .i64 0),.c (.int .i64 9999)],some (69,false),[]⟩,
   ⟨some 73,.un .not (.t 72),some (69,false),[]⟩,
   o1 74 (.pick (.t 69) (.c (.bool true)) (.t 73))]
   (.cond (.t 74)
   (sr1 [
    o1 2 (.mv (.c (.bool false)))]
    .ret)
   .skip))))
  (.reg [
  m1 26 3,
  o1 27 (.bin .add (.t 26) (.c (.int .i64 1))),
  m1 3 27]))))))
 (.seq (sr1 [
 o1 5 (.mv (.c (.int .i64 0)))]
 (.block 2 (.loop (.seq (sr1 [
  m1 75 5,
  o1 76 (.addo (.t 1) 1),
  o1 77 (.ld (.t 76) 1 false),
  o1 78 (.len (.t 77)),
  o1 79 (.bin .lss (.t 75) (.t 78))]
  (.cond (.t 79)
  .skip
  (.exit 2)))
  (.seq (.block 3 (sr1 [
   o1 82 (.addo (.t 1) 1),
   o1 83 (.ld (.t 82) 1 false),
   m1 84 5,
   o1 85 (.ixs (.t 83) (.t 84) 5),
   o1 86 (.ld (.t 85) 5 true),
   o1 6 (.alloc zv7 83),
   ⟨none,.st (.t 6) (.t 86) 5,none,[]⟩]
   (.seq (sr1 [
   o1 87 (.addo (.t 6) 0),
   o1 88 (.ld (.t 87) 1 false),
   o1 89 (.addo (.t 1) 0),
   o1 90 (.ld (.t 89) 1 false),
   o1 91 (.len (.t 90)),
   o1 92 (.bin .sub (.t 91) (.c (.int .i64 1))),
   o1 93 (.call 88 [.t 88,.c (.int .i64 0),.t 92]),
   o1 94 (.un .not (.t 93)),
   m1 95 94,
   ⟨some 96,.addo (.t 6) 1,some (95,false),[]⟩,
   ⟨some 97,.ld (.t 96) 1 false,some (95,false),[]⟩,
   ⟨some 98,.addo (.t 1) 0,some (95,false),[]⟩,
   ⟨some 99,.ld (.t 98) 1 false,some (95,false),[]⟩,
   ⟨some 100,.len (.t 99),some (95,false),[]⟩,
   ⟨some 101,.bin .sub (.t 100) (.c (.int .i64 1)),some (95,false),[]⟩,
   ⟨some 102,.call 88 [.t 97,.c (.int .i64 0),.t 101],some (95,false),[]⟩,
   ⟨some 103,.un .not (.t 102),some (95,false),[]⟩,
   o1 104 (.pick (.t 95) (.c (.bool true)) (.t 103)),
   m1 105 104,
   ⟨some 106,.addo (.t 6) 0,some (105,false),[]⟩,
   ⟨some 107,.ld (.t 106) 1 false,some (105,false),[]⟩,
   ⟨some 108,.addo (.t 6) 1,some (105,false),[]⟩,
   ⟨some 109,.ld (.t 108) 1 false,some (105,false),[]⟩,
   ⟨some 110,.bin .eql (.t 107) (.t 109),some (105,false),[]⟩,
   o1 111 (.pick (.t 105) (.c (.bool true)) (.t 110)),
   m1 112 111,
   ⟨some 113,.addo (.t 6) 2,some (112,false),[]⟩,
   ⟨some 114,.ld (.t 113) 2 true,some (112,false),[]⟩,
   ⟨some 115,.call 137 [.t 114,.c (.int .i64 1),.c (.int .i64 1000000)],some (112,false),[]⟩,
   ⟨some 116,.un .not (.t 115),some (112,false),[]⟩,
   o1 117 (.pick (.t 112) (.c (.bool true)) (.t 116)),
   m1 118 117,
   ⟨some 119,.addo (.t 6) 4,some (118,false),[]⟩,
   ⟨some 120,.ld (.t 119) 1 false,some (118,false),[]⟩,
   ⟨some 121,.len (.t 120),some (118,false),[]⟩,
   ⟨some 122,.bin .gtr (.t 121) (.c (.int .i64 6)),some (118,false),[]⟩,
   o1 123 (.pick (.t 118) (.c (.bool true)) (.t 122))]
   (.cond (.t 123)
   (sr1 [
    o1 2 (.mv (.c (.bool false)))]
    .ret)
   .skip))
   (sr1 [
   o1 7 (.mv (.c (.int .i64 (-1))))]
   (sr1 [
   o1 8 (.mv (.c (.int .i64 0)))]
   (.block 4 (.loop (.seq (sr1 [
    m1 124 8,
    o1 125 (.addo (.t 6) 4),
    o1 126 (.ld (.t 125) 1 false),
    o1 127 (.len (.t 126)),
    o1 128 (.bin .lss (.t 124) (.t 127))]
    (.cond (.t 128)
    .skip
    (.exit 4)))
    (.seq (.block 5 (sr1 [
     o1 131 (.addo (.t 6) 4),
     o1 132 (.ld (.t 131) 1 false),
     m1 133 8,
     o1 134 (.ixs (.t 132) (.t 133) 4),
     o1 135 (.ld (.t 134) 4 true),
     o1 9 (.alloc [.int .i64 0,.int .i64 0,.int .i64 0,.int .i64 0] 85),
     ⟨none,.st (.t 9) (.t 135) 4,none,[]⟩]
     (.seq (sr1 [
     o1 136 (.addo (.t 9) 0),
     o1 137 (.ld (.t 136) 2 true),
     o1 138 (.call 137 [.t 137,.c (.int .i64 0),.c (.int .i64 100000)]),
     o1 139 (.un .not (.t 138)),
     m1 140 139,
     ⟨some 141,.addo (.t 9) 2,some (140,false),[]⟩,
     ⟨some 142,.ld (.t 141) 2 true,some (140,false),[]⟩,
     ⟨some 143,.call 137 [.t 142,.c (.int .i64 0),.c (.int .i64 100000)],some (140,false),[]⟩,
     ⟨some 144,.un .not (.t 143),some (140,false),[]⟩,
     o1 145 (.pick (.t 140) (.c (.bool true)) (.t 144)),
     m1 146 145,
     ⟨some 147,.addo (.t 9) 0,some (146,false),[]⟩,
     ⟨some 148,.addo (.t 147) 0,some (146,false),[]⟩,
     ⟨some 149,.ld (.t 148) 1 false,some (146,false),[]⟩,
     ⟨some 150,.addo (.t 9) 2,some (146,false),[]⟩,
     ⟨some 151,.addo (.t 150) 1,some (146,false),[]⟩,
     ⟨some 152,.ld (.t 151) 1 false,some (146,false),[]⟩,
     ⟨some 153,.bin .gtr (.t 149) (.t 152),some (146,false),[]⟩,
     o1 154 (.pick (.t 146) (.c (.bool true)) (.t 153)),
     m1 155 154,
     ⟨some 156,.addo (.t 9) 0,some (155,false),[]⟩,
     ⟨some 157,.addo (.t 156) 0,some (155,false),[]⟩,
     ⟨some 158,.ld (.t 157) 1 false,some (155,false),[]⟩,
     ⟨some 159,.mv (.t 7),some (155,false),[]⟩,
     ⟨some 160,.bin .leq (.t 158) (.t 159),some (155,false),[]⟩,
     o1 161 (.pick (.t 155) (.c (.bool true)) (.t 160))]
     (.cond (.t 161)
     (sr1 [
      o1 2 (.mv (.c (.bool false)))]
      .ret)
     .skip))
     (.reg [
     o1 162 (.addo (.t 9) 2),
     o1 163 (.addo (.t 162) 1),
     o1 164 (.ld (.t 163) 1 false),
     m1 7 164]))))
    (.reg [
    m1 129 8,
    o1 130 (.bin .add (.t 129) (.c (.int .i64 1))),
    m1 8 130]))))))))))
  (.reg [
  m1 80 5,
  o1 81 (.bin .add (.t 80) (.c (.int .i64 1))),
  m1 5 81]))))))
 (sr1 [
 o1 2 (.mv (.c (.bool true)))]
 .ret)))))
def r136:List RV:=[.tmp 2]
theorem t136:Qt1 Tryz.prog 136 c136 r136 165:=Z8 Tryz.func136 rfl (by kernel_rfl) (by kernel_rfl) (by kernel_rfl) (by kernel_rfl)
def c88:SC:=(sr1 [
 o1 6 (.mv (.c (.bool false)))]
 (sr1 [
 m1 7 0,
 m1 8 1,
 o1 9 (.bin .geq (.t 7) (.t 8)),
 m1 10 9,
 ⟨some 11,.mv (.t 0),some (10,true),[]⟩,
 ⟨some 12,.mv (.t 2),some (10,true),[]⟩,
 ⟨some 13,.bin .leq (.t 11) (.t 12),some (10,true),[]⟩,
 o1 14 (.pick (.t 10) (.t 13) (.c (.bool false))),
 m1 6 14]
 .ret))
def r88:List RV:=[.tmp 6]
theorem t88:Qt1 Tryz.prog 88 c88 r88 15:=Z8 Tryz.func88 rfl (by kernel_rfl) (by kernel_rfl) (by kernel_rfl) (by kernel_rfl)
def c129:SC:=(sr1 [
 o1 4 (.mv (.c (.bool false)))]
 (sr1 [
 m1 5 0,
 m1 6 1,
 o1 7 (.call 161 [.t 5,.t 6]),
 o1 8 (.bin .geq (.t 7) (.c (.int .i64 0))),
 m1 4 8]
 .ret))
def r129:List RV:=[.tmp 4]
theorem t129:Qt1 Tryz.prog 129 c129 r129 9:=Z8 Tryz.func129 rfl (by kernel_rfl) (by kernel_rfl) (by kernel_rfl) (by kernel_rfl)
def c130:SC:=(sr1 [
 o1 1 (.box (.t 0) 0 88),
 o1 2 (.mv (.c (.bool false)))]
 (sr1 [
 o1 3 (.ld (.t 1) 9 true),
 o1 4 (.call 131 [.t 3]),
 o1 5 (.un .not (.t 4)),
 m1 2 5]
 .ret))
def r130:List RV:=[.tmp 2]
theorem t130:Qt1 Tryz.prog 130 c130 r130 6:=Z8 Tryz.func130 rfl (by kernel_rfl) (by kernel_rfl) (by kernel_rfl) (by kernel_rfl)
def c131:SC:=(sr1 [
 o1 1 (.box (.t 0) 0 88),
 o1 2 (.mv (.c (.bool false)))]
 (sr1 [
 o1 3 (.addo (.t 1) 0),
 o1 4 (.ld (.t 3) 1 false),
 o1 5 (.addo (.t 1) 1),
 o1 6 (.ld (.t 5) 1 false),
 o1 7 (.bsl 1 3 [.t 4,.t 6]),
 o1 8 (.call 76 [.c (.int .i64 (-10000000)),.c (.int .i64 10000000),.t 7]),
 m1 9 8,
 ⟨some 10,.addo (.t 1) 2,some (9,true),[]⟩,
 ⟨some 11,.ld (.t 10) 1 false,some (9,true),[]⟩,
 ⟨some 12,.bsl 1 3 [.t 11],some (9,true),[]⟩,
 ⟨some 13,.call 76 [.c (.int .i64 0),.c (.int .i64 200),.t 12],some (9,true),[]⟩,
 o1 14 (.pick (.t 9) (.t 13) (.c (.bool false))),
 m1 15 14,
 ⟨some 16,.addo (.t 1) 3,some (15,true),[]⟩,
 ⟨some 17,.ld (.t 16) 2 true,some (15,true),[]⟩,
 ⟨some 18,.bsl 2 27 [.t 17],some (15,true),[]⟩,
 ⟨some 19,.call 120 [.c (.int .i64 0),.c (.int .i64 10000000),.t 18],some (15,true),[]⟩,
 o1 20 (.pick (.t 15) (.t 19) (.c (.bool false))),
 m1 21 20,
 ⟨some 22,.addo (.t 1) 5,some (21,true),[]⟩,
 ⟨some 23,.ld (.t 22) 1 false,some (21,true),[]⟩,
 ⟨some 24,.bsl 1 3 [.t 23],some (21,true),[]⟩,
 ⟨some 25,.call 76 [.c (.int .i64 0),.c (.int .i64 1000000000),.t 24],some (21,true),[]⟩,
 o1 26 (.pick (.t 21) (.t 25) (.c (.bool false))),
 m1 27 26,
 ⟨some 28,.addo (.t 1) 5,some (27,true),[]⟩,
 ⟨some 29,.ld (.t 28) 1 false,some (27,true),[]⟩,
 ⟨some 30,.addo (.t 1) 6,some (27,true),[]⟩,
 ⟨some 31,.ld (.t 30) 2 true,some (27,true),[]⟩,
 ⟨some 32,.bsl 2 27 [.t 31],some (27,true),[]⟩,
 ⟨some 33,.call 120 [.c (.int .i64 0),.t 29,.t 32],some (27,true),[]⟩,
 o1 34 (.pick (.t 27) (.t 33) (.c (.bool false))),
 m1 35 34,
 ⟨some 36,.addo (.t 1) 8,some (35,true),[]⟩,
 ⟨some 37,.ld (.t 36) 1 false,some (35,true),[]⟩,
 ⟨some 38,.bsl 1 3 [.t 37],some (35,true),[]⟩,
 ⟨some 39,.call 76 [.c (.int .i64 0),.c (.int .i64 9999),.t 38],some (35,true),[]⟩,
 o1 40 (.pick (.t 35) (.t 39) (.c (.bool false))),
 m1 2 40]
 .ret))
def r131:List RV:=[.tmp 2]
theorem t131:Qt1 Tryz.prog 131 c131 r131 41:=Z8 Tryz.func131 rfl (by kernel_rfl) (by kernel_rfl) (by kernel_rfl) (by kernel_rfl)
def c132:SC:=(sr1 [
 o1 4 (.mv (.c (.bool false)))]
 (sr1 [
 m1 5 0,
 m1 6 1,
 o1 7 (.call 162 [.t 5,.t 6]),
 o1 8 (.bin .geq (.t 7) (.c (.int .i64 0))),
 m1 4 8]
 .ret))
def r132:List RV:=[.tmp 4]
theorem t132:Qt1 Tryz.prog 132 c132 r132 9:=Z8 Tryz.func132 rfl (by kernel_rfl) (by kernel_rfl) (by kernel_rfl) (by kernel_rfl)
def c133:SC:=(sr1 [
 o1 2 (.box (.t 0) 0 83),
 o1 3 (.mv (.c (.bool false)))]
 (sr1 [
 o1 4 (.ld (.t 2) 5 true),
 o1 5 (.addo (.t 1) 0),
 o1 6 (.ld (.t 5) 1 false),
 o1 7 (.len (.t 6)),
 o1 8 (.call 134 [.t 4,.t 7]),
 o1 9 (.un .not (.t 8)),
 m1 3 9]
 .ret))
def r133:List RV:=[.tmp 3]
theorem t133:Qt1 Tryz.prog 133 c133 r133 10:=Z8 Tryz.func133 rfl (by kernel_rfl) (by kernel_rfl) (by kernel_rfl) (by kernel_rfl)
def c134:SC:=(sr1 [
 o1 2 (.box (.t 0) 0 83),
 o1 4 (.mv (.c (.bool false)))]
 (.seq (sr1 [
 m1 8 1,
 o1 9 (.bin .sub (.t 8) (.c (.int .i64 1))),
 o1 10 (.addo (.t 2) 0),
 o1 11 (.ld (.t 10) 1 false),
 o1 12 (.addo (.t 2) 1),
 o1 13 (.ld (.t 12) 1 false),
 o1 14 (.bsl 1 3 [.t 11,.t 13]),
 o1 15 (.call 76 [.c (.int .i64 0),.t 9,.t 14]),
 o1 16 (.un .not (.t 15)),
 m1 17 16,
 ⟨some 18,.addo (.t 2) 0,some (17,false),[]⟩,
 ⟨some 19,.ld (.t 18) 1 false,some (17,false),[]⟩,
 ⟨some 20,.addo (.t 2) 1,some (17,false),[]⟩,
 ⟨some 21,.ld (.t 20) 1 false,some (17,false),[]⟩,
 ⟨some 22,.bin .eql (.t 19) (.t 21),some (17,false),[]⟩,
 o1 23 (.pick (.t 17) (.c (.bool true)) (.t 22)),
 m1 24 23,
 ⟨some 25,.addo (.t 2) 2,some (24,false),[]⟩,
 ⟨some 26,.ld (.t 25) 2 true,some (24,false),[]⟩,
 ⟨some 27,.bsl 2 27 [.t 26],some (24,false),[]⟩,
 ⟨some 28,.call 120 [.c (.int .i64 1),.c (.int .i64 1000000),.t 27],some (24,false),[]⟩,
 ⟨some 29,.un .not (.t 28),some (24,false),[]⟩,
 o1 30 (.pick (.t 24) (.c (.bool true)) (.t 29)),
 m1 31 30,
 ⟨some 32,.addo (.t 2) 4,some (31,false),[]⟩,
 ⟨some 33,.ld (.t 32) 1 false,some (31,false),[]⟩,
 ⟨some 34,.len (.t 33),some (31,false),[]⟩,
 ⟨some 35,.bin .gtr (.t 34) (.c (.int .i64 6)),some (31,false),[]⟩,
 o1 36 (.pick (.t 31) (.c (.bool true)) (.t 35))]
 (.cond (.t 36)
 (sr1 [
  o1 4 (.mv (.c (.bool false)))]
  .ret)
 .skip))
 (sr1 [
 o1 5 (.mv (.c (.int .i64 0)))]
 (.seq (sr1 [
 o1 37 (.addo (.t 2) 4),
 o1 38 (.ld (.t 37) 1 false),
 o1 39 (.len (.t 38)),
 o1 40 (.mv (.c (.int .i64 0)))]
 (.block 0 (.loop (sr1 [
  o1 41 (.bin .lss (.t 40) (.t 39))]
  (.seq (.cond (.t 41)
  .skip
  (.exit 0))
  (.seq (.block 1 (sr1 [
   o1 42 (.ixs (.t 38) (.t 40) 4),
   o1 43 (.ld (.t 42) 4 true),
   o1 7 (.alloc [.int .i64 0,.int .i64 0,.int .i64 0,.int .i64 0] 85),
   ⟨none,.st (.t 7) (.t 43) 4,none,[]⟩]
   (.seq (sr1 [
   o1 44 (.addo (.t 7) 0),
   o1 45 (.ld (.t 44) 2 true),
   o1 46 (.addo (.t 7) 2),
   o1 47 (.ld (.t 46) 2 true),
   o1 48 (.bsl 2 27 [.t 45,.t 47]),
   o1 49 (.call 120 [.c (.int .i64 0),.c (.int .i64 100000),.t 48]),
   o1 50 (.un .not (.t 49)),
   m1 51 50,
   ⟨some 52,.mv (.t 5),some (51,false),[]⟩,
   ⟨some 53,.addo (.t 7) 2,some (51,false),[]⟩,
   ⟨some 54,.addo (.t 53) 1,some (51,false),[]⟩,
   ⟨some 55,.ld (.t 54) 1 false,some (51,false),[]⟩,
   ⟨some 56,.addo (.t 7) 0,some (51,false),[]⟩,
   ⟨some 57,.addo (.t 56) 0,some (51,false),[]⟩,
   ⟨some 58,.ld (.t 57) 1 false,some (51,false),[]⟩,
   ⟨some 59,.bsl 1 3 [.t 58],some (51,false),[]⟩,
   ⟨some 60,.call 76 [.t 52,.t 55,.t 59],some (51,false),[]⟩,
   ⟨some 61,.un .not (.t 60),some (51,false),[]⟩,
   o1 62 (.pick (.t 51) (.c (.bool true)) (.t 61))]
   (.cond (.t 62)
   (sr1 [
    o1 4 (.mv (.c (.bool false)))]
    .ret)
   .skip))
   (.reg [
   o1 63 (.addo (.t 7) 2),
   o1 64 (.addo (.t 63) 1),
   o1 65 (.ld (.t 64) 1 false),
   o1 66 (.bin .add (.t 65) (.c (.int .i64 1))),
   m1 5 66]))))
  (.reg [
  o1 67 (.bin .add (.t 40) (.c (.int .i64 1))),
  m1 40 67])))))))
 (sr1 [
 o1 4 (.mv (.c (.bool true)))]
 .ret)))))
def r134:List RV:=[.tmp 4]
theorem t134:Qt1 Tryz.prog 134 c134 r134 68:=Z8 Tryz.func134 rfl (by kernel_rfl) (by kernel_rfl) (by kernel_rfl) (by kernel_rfl)
def c98:SC:=(sr1 [
 o1 4 (.mv (.c (.bool false)))]
 (sr1 [
 m1 5 0,
 m1 6 1,
 o1 7 (.call 141 [.t 5,.t 6]),
 o1 8 (.bin .geq (.t 7) (.c (.int .i64 0))),
 m1 4 8]
 .ret))
def r98:List RV:=[.tmp 4]
theorem t98:Qt1 Tryz.prog 98 c98 r98 9:=Z8 Tryz.func98 rfl (by kernel_rfl) (by kernel_rfl) (by kernel_rfl) (by kernel_rfl)
def c121:SC:=(sr1 [
 o1 4 (.mv (.c (.bool false)))]
 (sr1 [
 m1 5 0,
 o1 6 (.ld (.t 1) 1 false),
 o1 7 (.bin .lss (.t 5) (.t 6)),
 m1 8 7,
 ⟨some 9,.mv (.t 0),some (8,false),[]⟩,
 ⟨some 10,.ld (.t 2) 1 false,some (8,false),[]⟩,
 ⟨some 11,.bin .gtr (.t 9) (.t 10),some (8,false),[]⟩,
 o1 12 (.pick (.t 8) (.c (.bool true)) (.t 11)),
 m1 4 12]
 .ret))
def r121:List RV:=[.tmp 4]
theorem t121:Qt1 Tryz.prog 121 c121 r121 13:=Z8 Tryz.func121 rfl (by kernel_rfl) (by kernel_rfl) (by kernel_rfl) (by kernel_rfl)
def c137:SC:=(sr1 [
 o1 3 (.box (.t 0) 0 27),
 o1 6 (.mv (.c (.bool false)))]
 (sr1 [
 o1 7 (.addo (.t 3) 0),
 o1 8 (.ld (.t 7) 1 false),
 m1 9 1,
 o1 10 (.addo (.t 3) 1),
 o1 11 (.ld (.t 10) 1 false),
 o1 12 (.call 88 [.t 8,.t 9,.t 11]),
 m1 13 12,
 ⟨some 14,.addo (.t 3) 1,some (13,true),[]⟩,
 ⟨some 15,.ld (.t 14) 1 false,some (13,true),[]⟩,
 ⟨some 16,.mv (.t 2),some (13,true),[]⟩,
 ⟨some 17,.bin .leq (.t 15) (.t 16),some (13,true),[]⟩,
 o1 18 (.pick (.t 13) (.t 17) (.c (.bool false))),
 m1 6 18]
 .ret))
def r137:List RV:=[.tmp 6]
theorem t137:Qt1 Tryz.prog 137 c137 r137 19:=Z8 Tryz.func137 rfl (by kernel_rfl) (by kernel_rfl) (by kernel_rfl) (by kernel_rfl)
def c120:SC:=(sr1 [
 o1 3 (.box (.t 0) 0 3),
 o1 4 (.box (.t 1) 0 3),
 o1 6 (.mv (.c (.bool false)))]
 (sr1 [
 m1 7 2,
 o1 8 (.mkf 158 [.t 3,.t 4]),
 o1 9 (.call 102 [.t 7,.t 8]),
 o1 10 (.un .not (.t 9)),
 m1 6 10]
 .ret))
def r120:List RV:=[.tmp 6]
theorem t120:Qt1 Tryz.prog 120 c120 r120 11:=Z8 Tryz.func120 rfl (by kernel_rfl) (by kernel_rfl) (by kernel_rfl) (by kernel_rfl)
def c161:SC:=(sr1 [
 o1 4 (.mv (.c (.int .i64 0)))]
 (.seq (sr1 [
 m1 6 0,
 o1 7 (.len (.t 6)),
 o1 8 (.mv (.c (.int .i64 0)))]
 (.block 0 (.loop (sr1 [
  o1 9 (.bin .lss (.t 8) (.t 7))]
  (.seq (.cond (.t 9)
  .skip
  (.exit 0))
  (.seq (.block 1 (sr1 [
   m1 10 8,
   m1 5 10]
   (sr1 [
   m1 11 1,
   m1 12 0,
   m1 13 5,
   o1 14 (.ixs (.t 12) (.t 13) 9),
   o1 15 (.ld (.t 14) 9 true),
   o1 16 (.calv (.t 11) [.t 15])]
   (.cond (.t 16)
   (sr1 [
    m1 17 5,
    m1 4 17]
    .ret)
   .skip))))
  (.reg [
  o1 18 (.bin .add (.t 8) (.c (.int .i64 1))),
  m1 8 18])))))))
 (sr1 [
 o1 4 (.mv (.c (.int .i64 (-1))))]
 .ret)))
def r161:List RV:=[.tmp 4]
theorem t161:Qt1 Tryz.prog 161 c161 r161 19:=Z8 Tryz.func161 rfl (by kernel_rfl) (by kernel_rfl) (by kernel_rfl) (by kernel_rfl)
def c162:SC:=(sr1 [
 o1 4 (.mv (.c (.int .i64 0)))]
 (.seq (sr1 [
 m1 6 0,
 o1 7 (.len (.t 6)),
 o1 8 (.mv (.c (.int .i64 0)))]
 (.block 0 (.loop (sr1 [
  o1 9 (.bin .lss (.t 8) (.t 7))]
  (.seq (.cond (.t 9)
  .skip
  (.exit 0))
  (.seq (.block 1 (sr1 [
   m1 10 8,
   m1 5 10]
   (sr1 [
   m1 11 1,
   m1 12 0,
   m1 13 5,
   o1 14 (.ixs (.t 12) (.t 13) 5),
   o1 15 (.ld (.t 14) 5 true),
   o1 16 (.calv (.t 11) [.t 15])]
   (.cond (.t 16)
   (sr1 [
    m1 17 5,
    m1 4 17]
    .ret)
   .skip))))
  (.reg [
  o1 18 (.bin .add (.t 8) (.c (.int .i64 1))),
  m1 8 18])))))))
 (sr1 [
 o1 4 (.mv (.c (.int .i64 (-1))))]
 .ret)))
def r162:List RV:=[.tmp 4]
theorem t162:Qt1 Tryz.prog 162 c162 r162 19:=Z8 Tryz.func162 rfl (by kernel_rfl) (by kernel_rfl) (by kernel_rfl) (by kernel_rfl)
def c141:SC:=(sr1 [
 o1 4 (.mv (.c (.int .i64 0)))]
 (.seq (sr1 [
 m1 6 0,
 o1 7 (.len (.t 6)),
 o1 8 (.mv (.c (.int .i64 0)))]
 (.block 0 (.loop (sr1 [
  o1 9 (.bin .lss (.t 8) (.t 7))]
  (.seq (.cond (.t 9)
  .skip
  (.exit 0))
  (.seq (.block 1 (sr1 [
   m1 10 8,
   m1 5 10]
   (sr1 [
   m1 11 1,
   m1 12 0,
   m1 13 5,
   o1 14 (.ixs (.t 12) (.t 13) 1),
   o1 15 (.ld (.t 14) 1 false),
   o1 16 (.calv (.t 11) [.t 15])]
   (.cond (.t 16)
   (sr1 [
    m1 17 5,
    m1 4 17]
    .ret)
   .skip))))
  (.reg [
  o1 18 (.bin .add (.t 8) (.c (.int .i64 1))),
  m1 8 18])))))))
 (sr1 [
 o1 4 (.mv (.c (.int .i64 (-1))))]
 .ret)))
def r141:List RV:=[.tmp 4]
theorem t141:Qt1 Tryz.prog 141 c141 r141 19:=Z8 Tryz.func141 rfl (by kernel_rfl) (by kernel_rfl) (by kernel_rfl) (by kernel_rfl)
def c102:SC:=(sr1 [
 o1 4 (.mv (.c (.bool false)))]
 (sr1 [
 m1 5 0,
 m1 6 1,
 o1 7 (.call 143 [.t 5,.t 6]),
 o1 8 (.bin .geq (.t 7) (.c (.int .i64 0))),
 m1 4 8]
 .ret))
def r102:List RV:=[.tmp 4]
theorem t102:Qt1 Tryz.prog 102 c102 r102 9:=Z8 Tryz.func102 rfl (by kernel_rfl) (by kernel_rfl) (by kernel_rfl) (by kernel_rfl)
def c158:SC:=(sr1 [
 o1 3 (.box (.t 0) 0 27),
 o1 4 (.mv (.c (.bool false)))]
 (sr1 [
 o1 5 (.addo (.t 3) 0),
 o1 6 (.ld (.t 5) 1 false),
 o1 7 (.addo (.t 3) 1),
 o1 8 (.ld (.t 7) 1 false),
 o1 9 (.bin .gtr (.t 6) (.t 8)),
 m1 10 9,
 ⟨some 11,.ld (.t 1) 1 false,some (10,false),[]⟩,
 ⟨some 12,.ld (.t 2) 1 false,some (10,false),[]⟩,
 ⟨some 13,.addo (.t 3) 0,some (10,false),[]⟩,
 ⟨some 14,.ld (.t 13) 1 false,some (10,false),[]⟩,
 ⟨some 15,.addo (.t 3) 1,some (10,false),[]⟩,
 ⟨some 16,.ld (.t 15) 1 false,some (10,false),[]⟩,
 ⟨some 17,.bsl 1 3 [.t 14,.t 16],some (10,false),[]⟩,
 ⟨some 18,.call 76 [.t 11,.t 12,.t 17],some (10,false),[]⟩,
 ⟨some 19,.un .not (.t 18),some (10,false),[]⟩,
 o1 20 (.pick (.t 10) (.c (.bool true)) (.t 19)),
 m1 4 20]
 .ret))
def r158:List RV:=[.tmp 4]
theorem t158:Qt1 Tryz.prog 158 c158 r158 21:=Z8 Tryz.func158 rfl (by kernel_rfl) (by kernel_rfl) (by kernel_rfl) (by kernel_rfl)
def c143:SC:=(sr1 [
 o1 4 (.mv (.c (.int .i64 0)))]
 (.seq (sr1 [
 m1 6 0,
 o1 7 (.len (.t 6)),
 o1 8 (.mv (.c (.int .i64 0)))]
 (.block 0 (.loop (sr1 [
  o1 9 (.bin .lss (.t 8) (.t 7))]
  (.seq (.cond (.t 9)
  .skip
  (.exit 0))
  (.seq (.block 1 (sr1 [
   m1 10 8,
   m1 5 10]
   (sr1 [
   m1 11 1,
   m1 12 0,
   m1 13 5,
   o1 14 (.ixs (.t 12) (.t 13) 2),
   o1 15 (.ld (.t 14) 2 true),
   o1 16 (.calv (.t 11) [.t 15])]
   (.cond (.t 16)
   (sr1 [
    m1 17 5,
    m1 4 17]
    .ret)
   .skip))))
  (.reg [
  o1 18 (.bin .add (.t 8) (.c (.int .i64 1))),
  m1 8 18])))))))
 (sr1 [
 o1 4 (.mv (.c (.int .i64 (-1))))]
 .ret)))
def r143:List RV:=[.tmp 4]
theorem t143:Qt1 Tryz.prog 143 c143 r143 19:=Z8 Tryz.func143 rfl (by kernel_rfl) (by kernel_rfl) (by kernel_rfl) (by kernel_rfl)
def c39:SC:=(sr1 [
 o1 3 (.box (.t 0) 0 25),
 o1 5 (.box (.t 2) 0 27),
 o1 6 (.alloc [.int .i64 0,.int .i64 0] 27),
 o1 7 (.mv (.c (.int .i64 0)))]
 (sr1 [
 o1 11 (.ld (.t 3) 2 true),
 o1 12 (.ld (.t 5) 2 true),
 o1 13 (.call 75 [.t 11,.t 12]),
 m1 10 13,
 o1 14 (.ext (.t 10) 0),
 o1 15 (.ext (.t 10) 1),
 o1 8 (.alloc [.slice none 0 0,.slice none 0 0,.int .i64 0,.int .i64 0] 160),
 ⟨none,.st (.t 8) (.t 14) 4,none,[]⟩,
 m1 9 15]
 (.seq (.block 0 (sr1 [
  m1 17 9,
  o1 18 (.bin .neq (.t 17) (.c (.int .i64 0))),
  m1 16 18]
  (.cond (.t 16)
  (sr1 [
   o1 19 (.build [.int .i64 0,.int .i64 0] []),
   m1 20 9,
   ⟨none,.st (.t 6) (.t 19) 2,none,[]⟩,
   m1 7 20]
   .ret)
  (sr1 [
   o1 22 (.addo (.t 3) 1),
   o1 23 (.ld (.t 22) 1 false),
   o1 24 (.len (.t 23)),
   o1 25 (.bin .sub (.t 24) (.c (.int .i64 1))),
   m1 26 1,
   o1 27 (.bsl 1 3 [.t 26]),
   o1 28 (.call 76 [.c (.int .i64 0),.t 25,.t 27]),
   o1 29 (.un .not (.t 28)),
   m1 21 29]
   (.cond (.t 21)
   (sr1 [
    o1 30 (.build [.int .i64 0,.int .i64 0] []),
    ⟨none,.st (.t 6) (.t 30) 2,none,[]⟩,
    o1 7 (.mv (.c (.int .i64 2)))]
    .ret)
   .skip)))))
 (sr1 [
 o1 31 (.ld (.t 8) 4 true),
 m1 32 1,
 o1 33 (.call 82 [.t 31,.t 32]),
 o1 34 (.call 80 [.t 33]),
 ⟨none,.st (.t 6) (.t 34) 2,none,[]⟩,
 o1 7 (.mv (.c (.int .i64 0)))]
 .ret))))
def r39:List RV:=[.cell 6 2 true,.tmp 7]
theorem t39:Qt1 Tryz.prog 39 c39 r39 35:=Z8 Tryz.func39 rfl (by kernel_rfl) (by kernel_rfl) (by kernel_rfl) (by kernel_rfl)
def c93:SC:=(sr1 [
 o1 1 (.box (.t 0) 0 25),
 o1 2 (.mv (.c (.int .i64 0)))]
 (.seq (sr1 [
 o1 3 (.ld (.t 1) 2 true),
 o1 4 (.call 136 [.t 3]),
 o1 5 (.un .not (.t 4))]
 (.cond (.t 5)
 (sr1 [
  o1 2 (.mv (.c (.int .i64 30)))]
  .ret)
 .skip))
 (sr1 [
 o1 2 (.mv (.c (.int .i64 0)))]
 .ret)))
def r93:List RV:=[.tmp 2]
theorem t93:Qt1 Tryz.prog 93 c93 r93 6:=Z8 Tryz.func93 rfl (by kernel_rfl) (by kernel_rfl) (by kernel_rfl) (by kernel_rfl)
def c75:SC:=(sr1 [
 o1 2 (.box (.t 0) 0 25),
 o1 3 (.box (.t 1) 0 27),
 o1 4 (.alloc [.slice none 0 0,.slice none 0 0,.int .i64 0,.int .i64 0] 160),
 o1 5 (.mv (.c (.int .i64 0)))]
 (.seq (sr1 [
 o1 7 (.ld (.t 2) 2 true),
 o1 8 (.call 85 [.t 7]),
 m1 6 8]
 (sr1 [
 m1 9 6,
 o1 10 (.bin .neq (.t 9) (.c (.int .i64 0)))]
 (.cond (.t 10)
 (sr1 [
  o1 11 (.build [.slice none 0 0,.slice none 0 0,.int .i64 0,.int .i64 0] []),
  m1 12 6,
  ⟨none,.st (.t 4) (.t 11) 4,none,[]⟩,
  m1 5 12]
  .ret)
 .skip)))
 (.seq (sr1 [
 o1 13 (.ld (.t 3) 2 true),
 o1 14 (.bsl 2 27 [.t 13]),
 o1 15 (.call 120 [.c (.int .i64 1),.c (.int .i64 100000),.t 14]),
 o1 16 (.un .not (.t 15))]
 (.cond (.t 16)
 (sr1 [
  o1 17 (.build [.slice none 0 0,.slice none 0 0,.int .i64 0,.int .i64 0] []),
  ⟨none,.st (.t 4) (.t 17) 4,none,[]⟩,
  o1 5 (.mv (.c (.int .i64 31)))]
  .ret)
 .skip))
 (sr1 [
 o1 18 (.ld (.t 2) 2 true),
 o1 19 (.ld (.t 3) 2 true),
 o1 20 (.build [.slice none 0 0,.slice none 0 0,.int .i64 0,.int .i64 0] [(0,2,.t 18),(2,2,.t 19)]),
 ⟨none,.st (.t 4) (.t 20) 4,none,[]⟩,
 o1 5 (.mv (.c (.int .i64 0)))]
 .ret))))
def r75:List RV:=[.cell 4 4 true,.tmp 5]
theorem t75:Qt1 Tryz.prog 75 c75 r75 21:=Z8 Tryz.func75 rfl (by kernel_rfl) (by kernel_rfl) (by kernel_rfl) (by kernel_rfl)
def c82:SC:=(sr1 [
 o1 2 (.box (.t 0) 0 160),
 o1 4 (.alloc [.int .i64 0,.int .i64 0] 165)]
 (sr1 [
 o1 6 (.addo (.t 2) 0),
 o1 7 (.addo (.t 6) 1),
 o1 8 (.ld (.t 7) 1 false),
 m1 9 1,
 o1 10 (.ixs (.t 8) (.t 9) 5),
 o1 11 (.addo (.t 10) 2),
 o1 12 (.ld (.t 11) 2 true),
 o1 5 (.alloc [.int .i64 0,.int .i64 0] 27),
 ⟨none,.st (.t 5) (.t 12) 2,none,[]⟩]
 (.seq (.regd [0,1,2,3,4,5,6,7,8,9,10,11,12,13,14,15,16,17,18,19,20,21,22,23] [
 .op (o1 13 (.addo (.t 5) 0)),
 .op ⟨some 14,.ld (.t 13) 1 false,none,[0]⟩,
 .op (o1 15 (.addo (.t 2) 2)),
 .op ⟨some 16,.addo (.t 15) 1,none,[2]⟩,
 .op ⟨some 17,.ld (.t 16) 1 false,none,[3]⟩,
 .op ⟨some 18,.bin .add (.t 14) (.t 17),none,[1,4]⟩,
 .op ⟨some 19,.bin .sub (.t 18) (.c (.int .i64 1)),none,[5]⟩,
 .op (o1 20 (.addo (.t 2) 2)),
 .op ⟨some 21,.addo (.t 20) 1,none,[7]⟩,
 .op ⟨some 22,.ld (.t 21) 1 false,none,[8]⟩,
 .op ⟨some 23,.div .quo (.t 19) (.t 22),none,[6,9]⟩,
 .op (o1 24 (.addo (.t 5) 1)),
 .op ⟨some 25,.ld (.t 24) 1 false,none,[11]⟩,
 .op (o1 26 (.addo (.t 2) 2)),
 .op ⟨some 27,.addo (.t 26) 0,none,[13]⟩,
 .op ⟨some 28,.ld (.t 27) 1 false,none,[14]⟩,
 .op ⟨some 29,.bin .add (.t 25) (.t 28),none,[12,15]⟩,
 .op ⟨some 30,.bin .sub (.t 29) (.c (.int .i64 1)),none,[16]⟩,
 .op (o1 31 (.addo (.t 2) 2)),
 .op ⟨some 32,.addo (.t 31) 0,none,[18]⟩,
 .op ⟨some 33,.ld (.t 32) 1 false,none,[19]⟩,
 .op ⟨some 34,.div .quo (.t 30) (.t 33),none,[17,20]⟩,
 .op ⟨some 35,.build [.int .i64 0,.int .i64 0] [(0,1,.t 23),(1,1,.t 34)],none,[10,21]⟩] 0 1 [
 ⟨none,.st (.t 4) (.t 35) 2,none,[0,1,2,3,4,5,6,7,8,9,10,11,12,13,14,15,16,17,18,19,20,21,22]⟩])
 .ret)))
def r82:List RV:=[.cell 4 2 true]
theorem t82:Qt1 Tryz.prog 82 c82 r82 36:=Z8 Tryz.func82 rfl (by kernel_rfl) (by kernel_rfl) (by kernel_rfl) (by kernel_rfl)
def c80:SC:=(sr1 [
 o1 1 (.box (.t 0) 0 165),
 o1 2 (.alloc [.int .i64 0,.int .i64 0] 27)]
 (sr1 [
 o1 3 (.ixa (.t 1) (.c (.int .i64 0)) 2 1),
 o1 4 (.ld (.t 3) 1 false),
 o1 5 (.ixa (.t 1) (.c (.int .i64 1)) 2 1),
 o1 6 (.ld (.t 5) 1 false),
 o1 7 (.build [.int .i64 0,.int .i64 0] [(0,1,.t 4),(1,1,.t 6)]),
 ⟨none,.st (.t 2) (.t 7) 2,none,[]⟩]
 .ret))
def r80:List RV:=[.cell 2 2 true]
theorem t80:Qt1 Tryz.prog 80 c80 r80 8:=Z8 Tryz.func80 rfl (by kernel_rfl) (by kernel_rfl) (by kernel_rfl) (by kernel_rfl)
def c78:SC:=(sr1 [
 o1 3 (.box (.t 0) 0 160),
 o1 5 (.box (.t 2) 0 165),
 o1 6 (.alloc [.int .i64 0,.int .i64 0] 165)]
 (sr1 [
 o1 15 (.ld (.t 3) 4 true),
 m1 16 1,
 o1 17 (.call 82 [.t 15,.t 16]),
 o1 7 (.alloc [.int .i64 0,.int .i64 0] 165),
 ⟨none,.st (.t 7) (.t 17) 2,none,[]⟩]
 (sr1 [
 o1 18 (.build [.int .i64 0,.int .i64 0] [(0,1,.c (.int .i64 100001)),(1,1,.c (.int .i64 100001))]),
 o1 8 (.alloc [.int .i64 0,.int .i64 0] 165),
 ⟨none,.st (.t 8) (.t 18) 2,none,[]⟩]
 (.seq (sr1 [
 o1 19 (.addo (.t 3) 0),
 o1 20 (.addo (.t 19) 1),
 o1 21 (.ld (.t 20) 1 false),
 m1 22 1,
 o1 23 (.ixs (.t 21) (.t 22) 5),
 o1 24 (.addo (.t 23) 4),
 o1 25 (.ld (.t 24) 1 false),
 o1 26 (.len (.t 25)),
 o1 27 (.mv (.c (.int .i64 0)))]
 (.block 0 (.loop (sr1 [
  o1 28 (.bin .lss (.t 27) (.t 26))]
  (.seq (.cond (.t 28)
  .skip
  (.exit 0))
  (.seq (.block 1 (sr1 [
   o1 29 (.ixs (.t 25) (.t 27) 4),
   o1 30 (.ld (.t 29) 4 true),
   o1 10 (.alloc [.int .i64 0,.int .i64 0,.int .i64 0,.int .i64 0] 85),
   ⟨none,.st (.t 10) (.t 30) 4,none,[]⟩]
   (.seq (.regd [0,1,2,3,4,5,6,7,8,9,10,11,12,13,14,15,16,17] [
   .op (o1 31 (.addo (.t 10) 0)),
   .op ⟨some 32,.addo (.t 31) 0,none,[0]⟩,
   .op ⟨some 33,.ld (.t 32) 1 false,none,[1]⟩,
   .op (o1 34 (.addo (.t 10) 0)),
   .op ⟨some 35,.addo (.t 34) 1,none,[3]⟩,
   .op ⟨some 36,.ld (.t 35) 1 false,none,[4]⟩,
   .op ⟨some 37,.build [.int .i64 0,.int .i64 0] [(0,1,.t 33),(1,1,.t 36)],none,[2,5]⟩,
   .op (o1 38 (.addo (.t 10) 2)),
   .op ⟨some 39,.addo (.t 38) 1,none,[7]⟩,
   .op ⟨some 40,.ld (.t 39) 1 false,none,[8]⟩,
   .op (o1 41 (.addo (.t 10) 2)),
   .op ⟨some 42,.addo (.t 41) 0,none,[10]⟩,
   .op ⟨some 43,.ld (.t 42) 1 false,none,[11]⟩,
   .op ⟨some 44,.build [.int .i64 0,.int .i64 0] [(0,1,.t 40),(1,1,.t 43)],none,[9,12]⟩] 2 2 [
   o1 11 (.alloc [.int .i64 0,.int .i64 0] 165),
   o1 12 (.alloc [.int .i64 0,.int .i64 0] 165),
   ⟨none,.st (.t 11) (.t 37) 2,none,[0,1,2,3,4,5,6,14,15]⟩,
   ⟨none,.st (.t 12) (.t 44) 2,none,[0,1,2,3,4,5,6,7,8,9,10,11,12,13,14,15,16]⟩])
   (sr1 [
   o1 45 (.mv (.c (.int .i64 0)))]
   (.block 2 (.loop (sr1 [
    o1 46 (.bin .lss (.t 45) (.c (.int .i64 2)))]
    (.seq (.cond (.t 46)
    .skip
    (.exit 2))
    (.seq (.block 3 (sr1 [
     m1 47 45,
     m1 13 47]
     (.seq (.regd [0,1,2,3,4,5,6,7] [
     .op (m1 48 13),
     .op ⟨some 49,.ixa (.t 5) (.t 48) 2 1,none,[0]⟩,
     .op ⟨some 50,.ld (.t 49) 1 false,none,[1]⟩,
     .op (m1 51 13),
     .op ⟨some 52,.ixa (.t 11) (.t 51) 2 1,none,[3]⟩,
     .op ⟨some 53,.ld (.t 52) 1 false,none,[4]⟩,
     .op ⟨some 54,.mm true [.t 50,.t 53],none,[2,5]⟩,
     .op ⟨some 14,.mv (.t 54),none,[0,1,2,3,4,5,6]⟩] 0 0 [
])
 (.seq (.regd [0,1,2,3,4,5,6,7,8,9] [
 .op (m1 55 14),
 .op (m1 56 13),
 .op ⟨some 57,.ixa (.t 7) (.t 56) 2 1,none,[1]⟩,
 .op ⟨some 58,.ld (.t 57) 1 false,none,[2]⟩,
 .op ⟨some 59,.bin .add (.t 55) (.t 58),none,[0,3]⟩,
 .op ⟨some 60,.bin .sub (.t 59) (.c (.int .i64 1)),none,[4]⟩,
 .op (m1 61 13),
 .op ⟨some 62,.ixa (.t 12) (.t 61) 2 1,none,[6]⟩,
 .op ⟨some 63,.ld (.t 62) 1 false,none,[7]⟩,
 .op ⟨some 64,.bin .leq (.t 60) (.t 63),none,[5,8]⟩] 0 0 [
])
 (.cond (.t 64)
 (.reg [
  m1 65 13,
  m1 66 13,
  o1 67 (.ixa (.t 8) (.t 66) 2 1),
  o1 68 (.ld (.t 67) 1 false),
  m1 69 14,
  o1 70 (.bsl 1 3 [.t 68,.t 69]),
  o1 71 (.call 122 [.t 70]),
  o1 72 (.ixa (.t 8) (.t 65) 2 1),
  ⟨none,.st (.t 72) (.t 71) 1,none,[]⟩])
 .skip)))))
 (.reg [
 o1 73 (.bin .add (.t 45) (.c (.int .i64 1))),
 m1 45 73]))))))))))
 (.reg [
 o1 74 (.bin .add (.t 27) (.c (.int .i64 1))),
 m1 27 74])))))))
 (sr1 [
 o1 75 (.ld (.t 8) 2 true),
 ⟨none,.st (.t 6) (.t 75) 2,none,[]⟩]
 .ret)))))
def r78:List RV:=[.cell 6 2 true]
theorem t78:Qt1 Tryz.prog 78 c78 r78 76:=Z8 Tryz.func78 rfl (by kernel_rfl) (by kernel_rfl) (by kernel_rfl) (by kernel_rfl)
def c94:SC:=(sr1 [
 o1 1 (.box (.t 0) 0 27),
 o1 2 (.mv (.c (.bool false)))]
 (sr1 [
 o1 3 (.ld (.t 1) 2 true),
 o1 4 (.call 137 [.t 3,.c (.int .i64 1),.c (.int .i64 100000)]),
 m1 2 4]
 .ret))
def r94:List RV:=[.tmp 2]
theorem t94:Qt1 Tryz.prog 94 c94 r94 5:=Z8 Tryz.func94 rfl (by kernel_rfl) (by kernel_rfl) (by kernel_rfl) (by kernel_rfl)
def c122:SC:=(sr1 [
 o1 2 (.mv (.c (.int .i64 0)))]
 (sr1 [
 m1 3 0,
 o1 4 (.bsl 1 3 [.c (.int .i64 100001)]),
 o1 5 (.app 1 8 3 (.t 3) (.t 4)),
 o1 6 (.call 71 [.t 5]),
 m1 2 6]
 .ret))
def r122:List RV:=[.tmp 2]
theorem t122:Qt1 Tryz.prog 122 c122 r122 7:=Z8 Tryz.func122 rfl (by kernel_rfl) (by kernel_rfl) (by kernel_rfl) (by kernel_rfl)
def c71:SC:=(sr1 [
 o1 2 (.mv (.c (.int .i64 0)))]
 (.seq (sr1 [
 m1 5 0,
 o1 6 (.len (.t 5)),
 o1 7 (.bin .lss (.t 6) (.c (.int .i64 1)))]
 (.cond (.t 7)
 (.reg [
  o1 8 (.raw (Go.Op.makeInterface 9 (Go.Operand.const (Go.Value.string { data:=#[115,108,105,99,101,115,46,77,105,110,58,32,101,109,112,116,121,32,108,105,115,116] }))) 20),
  ⟨none,.raw (Go.Op.panic (Go.Operand.tmp 8)) 0,none,[]⟩])
 .skip))
 (sr1 [
 m1 9 0,
 o1 10 (.ixs (.t 9) (.c (.int .i64 0)) 1),
 o1 11 (.ld (.t 10) 1 false),
 m1 3 11]
 (.seq (sr1 [
 o1 4 (.mv (.c (.int .i64 1)))]
 (.block 0 (.loop (.seq (sr1 [
  m1 12 4,
  m1 13 0,
  o1 14 (.len (.t 13)),
  o1 15 (.bin .lss (.t 12) (.t 14))]
  (.cond (.t 15)
  .skip
  (.exit 0)))
  (.seq (.block 1 (.reg [
   m1 18 3,
   m1 19 0,
   m1 20 4,
   o1 21 (.ixs (.t 19) (.t 20) 1),
   o1 22 (.ld (.t 21) 1 false),
   o1 23 (.mm false [.t 18,.t 22]),
   m1 3 23]))
  (.reg [
  m1 16 4,
  o1 17 (.bin .add (.t 16) (.c (.int .i64 1))),
  m1 4 17]))))))
 (sr1 [
 m1 24 3,
 m1 2 24]
 .ret)))))
def r71:List RV:=[.tmp 2]
theorem t71:Qt1 Tryz.prog 71 c71 r71 25:=Z8 Tryz.func71 rfl (by kernel_rfl) (by kernel_rfl) (by kernel_rfl) (by kernel_rfl)
end Go.Proofs.YtiigiflofnjilaaGreat
namespace Go.Azalai
structure Span where
 lo:Int
 hi:Int
deriving DecidableEq
structure Well where
 x:Int
 y:Int
 depth:Int
 yld:Span
 room:Int
 has:Span
 owner:Int
deriving DecidableEq
structure Gate where
 opens:Span
 shuts:Span
deriving DecidableEq
structure Leg where
 a:Int
 b:Int
 long:Span
 gates:List Gate
deriving DecidableEq
structure Land where
 wells:List Well
 legs:List Leg
deriving DecidableEq
structure Draw where
 well:Int
 day:Int
 water:Int
deriving DecidableEq
def inR (lo hi n:Int):Bool:=decide (lo<=n/\n<=hi)
def Z6 (lo hi:Int) (s:Span):Bool:=decide (lo<=s.lo/\s.lo<=s.hi/\s.hi<=hi)
def YM (w:Well):Bool :=
 inR (-10000000) 10000000 w.x && inR (-10000000) 10000000 w.y && inR 0 200 w.depth && Z6 0 10000000 w.yld && inR 0 1000000000 w.room && Z6 0 w.room w.has && inR 0 9999 w.owner
def YJ (next:Int):List Gate->Bool
 | []=>true
 | g :: r=>Z6 0 100000 g.opens && Z6 0 100000 g.shuts && inR next g.shuts.hi g.opens.lo && YJ (g.shuts.hi+1) r
def WL (n:Int) (x:Leg):Bool :=
 inR 0 (n - 1) x.a && inR 0 (n - 1) x.b && x.a != x.b && Z6 1 1000000 x.long && decide (x.gates.length<=6) && YJ 0 x.gates
def ZM (l:Land):Bool :=
 inR 1 12 l.wells.length && decide (l.legs.length<=24) && l.wells.all YM && l.legs.all (WL l.wells.length)
def Ww {α : Type} (g:α->Bool):List α->Nat->Int
 | [],_=>-1
 | x :: l,k=>if g x then k else Ww g l (k+1)
theorem ZfH {α : Type} (g:α->Bool):∀ (l:List α) (k:Nat),decide (Ww g l k ≥ 0)=l.any g
 | [],k=>by simp [Ww]
 | x :: l,k=>by
  simp only [Ww,List.any_cons]
  by_cases hg:g x=true
  . simp [hg]
  . simpa [hg] using ZfH g l (k+1)
def Wm (w:Well) (has:Span) (days:Int):Span:=⟨min w.room (has.lo+days * w.yld.lo),min w.room (has.hi+days * w.yld.hi)⟩
def Wt (n last:Int):List Draw->Bool
 | []=>true
 | x :: r=>inR 0 (n - 1) x.well && inR last 100000 x.day && inR 0 1000000000 x.water && Wt n x.day r
def Vw (w:Well) (well day:Int) (now:Span) (evening:Int) (i:Nat):List Draw->Span × Int × Int
 | []=>(Wm w now (day - 1 - evening),0,0)
 | x :: r =>
  if (x.well != well || decide (x.day ≥ day))=true then Vw w well day now evening (i+1) r
  else
   let f:=Wm w now (x.day - evening)
   if f.hi < x.water then (⟨0,0⟩,i,33) else Vw w well day ⟨max 0 (f.lo - x.water),f.hi - x.water⟩ x.day (i+1) r
def X1 (l:Land) (well:Int) (draws:List Draw) (day:Int):Span × Int × Int :=
 if ZM l=false then (⟨0,0⟩,0,30)
 else if (inR 0 (l.wells.length - 1) well && inR 0 100000 day)=false then (⟨0,0⟩,0,2)
 else if draws.length > 200 then (⟨0,0⟩,0,4)
 else if Wt l.wells.length 0 draws=false then (⟨0,0⟩,0,32)
 else match l.wells[well.toNat]? with
  | some w=>Vw w well day w.has (-1) 0 draws
  | none=>(⟨0,0⟩,0,0)
def Vl (l:Land):Prop:=l.wells.length<=1000/\l.legs.length<=1000/\∀ x ∈ l.legs,x.gates.length<=1000
def Zcb (l:Land):Bool:=decide (l.wells.length > 20) || decide (l.legs.length > 40) || l.legs.any fun x=>decide (x.gates.length > 20)
theorem Zff {l:Land} (h:ZM l=true):∀ w ∈ l.wells,YM w=true:=by
 simp only [ZM,Bool.and_eq_true,List.all_eq_true] at h;exact h.1.2
theorem U5 {l:Land} (h:ZM l=true):1<=l.wells.length/\l.wells.length<=12/\l.legs.length<=24:=by
 simp only [ZM,Bool.and_eq_true,inR,decide_eq_true_eq] at h;omega
theorem Zb9 {n:Int}:∀ {l:List Draw} {last:Int},Wt n last l=true->0<=last->∀ x ∈ l,0<=x.day/\x.day<=100000/\0<=x.water/\x.water<=1000000000
 | [],_,_,_,x,h=>by simp at h
 | y :: l,last,h,h0,x,hx=>by
  simp only [Wt,Bool.and_eq_true,inR,decide_eq_true_eq] at h
  rcases List.mem_cons.1 hx with rfl | hx
  . omega
  . exact Zb9 h.2 (by omega) x hx
end Go.Azalai
namespace Go.Proofs.YtiigiflofnjilaaGreat
open Go Go.Sx Go.Azalai
def Zo (n:Int):List SV:=[I n]
def Zd (s:Span):List SV:=[I s.lo,I s.hi]
def Zh (g:Gate):List SV:=[I g.opens.lo,I g.opens.hi,I g.shuts.lo,I g.shuts.hi]
def Zg (w:Well):List SV:=[I w.x,I w.y,I w.depth,I w.yld.lo,I w.yld.hi,I w.room,I w.has.lo,I w.has.hi,I w.owner]
def Zm (x:Leg):List SV:=[I x.a,I x.b,I x.long.lo,I x.long.hi,.sl false 4 (x.gates.map Zh)]
def Yo (l:Land):List SV:=[.sl false 9 (l.wells.map Zg),.sl false 5 (l.legs.map Zm)]
def Z5 (d:Draw):List SV:=[I d.well,I d.day,I d.water]
theorem Vc {α : Type} (g:α->Bool) (l:List α):decide (Ww g l 0 ≥ 0)=l.any g:=ZfH g l 0
theorem ZjQ (h:Nat) (caps:List SV) (hk:KFL caps) (g:Int->Bool) (l:List Int) (hg:∀ x ∈ l,Ct Tryz.prog h (I x :: caps) (B (g x))) (hl:l.length < 4611686018427387904) {c:Bool} :
 Ct Tryz.prog 141 [.sl c 1 (l.map Zo),.cl h caps] (I (Ww g l 0)):=by
 refine t141.1 ⟨by simp [KF,Za,KFL,Zo],hk,trivial⟩ (by simp [KF]) ?_
 dsimp only [c141,r141,go_sem,rA,rM,rS]
 refine Xt (fun k:Nat=>[(8,I k)]) (fun _=>[]) (fun k=>k<=l.length/\Ww g (l.drop k) k=Ww g l 0) (fun k=>l.length - k) 0 ⟨Nat.zero_le _,rfl⟩ ?_ ?_
 . (refine Zl ?_ ?_ ?_ rfl rfl<;>dsimp only [Zo,hk,id,go_sem,rA,rM,rS]<;>simp [Zo,hk,Za,Ze,KFR,KFL,KF,Zc,mtO,nbr])
 . intro k ⟨hk',hi⟩
   dsimp only [go_sem,rA,rM,rS]
   refine br ?_ ?_
   . intro hlt
     have hlt:k < l.length:=by simpa using hlt
     dsimp only [go_sem,rA,rM,rS]
     refine Zp k hlt rfl ?_
     dsimp only [Zo,go_sem,rA,rM,rS]
     refine call (hg l[k] (List.getElem_mem _)) ?_
     dsimp only [go_sem,rA,rM,rS]
     refine br ?_ ?_
     . intro hgx
       dsimp only [go_sem,rA,rM,rS]
       rw [<- hi,List.drop_eq_getElem_cons hlt]
       simp [Ww,hgx]
     . intro hgx
       dsimp only [go_sem,rA,rM,rS]
       refine ⟨k+1,⟨by omega,?_⟩,by omega,?_⟩
       . rw [<- hi,List.drop_eq_getElem_cons hlt];simp [Ww,hgx]
       . rw [Zf (by omega) (by omega)]
         (refine Zl ?_ ?_ ?_ rfl rfl<;>dsimp only [Zo,hk,id,go_sem,rA,rM,rS]<;>simp [Zo,hk,Za,Ze,KFR,KFL,KF,Zc,mtO,nbr])
   . intro hlt
     have hlt:k=l.length:=by simp at hlt;omega
     dsimp only [go_sem,rA,rM,rS]
     rw [<- hi,hlt];simp [Ww]
theorem ZyB (h:Nat) (caps:List SV) (hk:KFL caps) (g:Int->Bool) (l:List Int) (hg:∀ x ∈ l,Ct Tryz.prog h (I x :: caps) (B (g x))) (hl:l.length < 4611686018427387904) {c:Bool} :
 Ct Tryz.prog 98 [.sl c 1 (l.map Zo),.cl h caps] (B (l.any g)):=by
 refine t98.1 ⟨by simp [KF,Za,KFL,Zo],hk,trivial⟩ (by simp [KF]) ?_
 dsimp only [c98,r98,go_sem,rA,rM,rS]
 refine call (ZjQ h caps hk g l hg hl) ?_
 dsimp only [go_sem,rA,rM,rS]
 rw [Vc]
theorem idx95 (h:Nat) (caps:List SV) (hk:KFL caps) (g:Well->Bool) (l:List Well) (hg:∀ x ∈ l,Ct Tryz.prog h (.agg (Zg x) :: caps) (B (g x))) (hl:l.length < 4611686018427387904) {c:Bool} :
 Ct Tryz.prog 161 [.sl c 9 (l.map Zg),.cl h caps] (I (Ww g l 0)):=by
 refine t161.1 ⟨by simp [KF,Za,KFL,Zg],hk,trivial⟩ (by simp [KF]) ?_
 dsimp only [c161,r161,go_sem,rA,rM,rS]
 refine Xt (fun k:Nat=>[(8,I k)]) (fun _=>[]) (fun k=>k<=l.length/\Ww g (l.drop k) k=Ww g l 0) (fun k=>l.length - k) 0 ⟨Nat.zero_le _,rfl⟩ ?_ ?_
 . (refine Zl ?_ ?_ ?_ rfl rfl<;>dsimp only [Zg,hk,id,go_sem,rA,rM,rS]<;>simp [Zg,hk,Za,Ze,KFR,KFL,KF,Zc,mtO,nbr])
 . intro k ⟨hk',hi⟩
   dsimp only [go_sem,rA,rM,rS]
   refine br ?_ ?_
   . intro hlt
     have hlt:k < l.length:=by simpa using hlt
     dsimp only [go_sem,rA,rM,rS]
     refine Zp k hlt rfl ?_
     dsimp only [Zg,go_sem,rA,rM,rS]
     refine call (hg l[k] (List.getElem_mem _)) ?_
     dsimp only [go_sem,rA,rM,rS]
     refine br ?_ ?_
     . intro hgx
       dsimp only [go_sem,rA,rM,rS]
       rw [<- hi,List.drop_eq_getElem_cons hlt]
       simp [Ww,hgx]
     . intro hgx
       dsimp only [go_sem,rA,rM,rS]
       refine ⟨k+1,⟨by omega,?_⟩,by omega,?_⟩
       . rw [<- hi,List.drop_eq_getElem_cons hlt];simp [Ww,hgx]
       . rw [Zf (by omega) (by omega)]
         (refine Zl ?_ ?_ ?_ rfl rfl<;>dsimp only [Zg,hk,id,go_sem,rA,rM,rS]<;>simp [Zg,hk,Za,Ze,KFR,KFL,KF,Zc,mtO,nbr])
   . intro hlt
     have hlt:k=l.length:=by simp at hlt;omega
     dsimp only [go_sem,rA,rM,rS]
     rw [<- hi,hlt];simp [Ww]
theorem con71 (h:Nat) (caps:List SV) (hk:KFL caps) (g:Well->Bool) (l:List Well) (hg:∀ x ∈ l,Ct Tryz.prog h (.agg (Zg x) :: caps) (B (g x))) (hl:l.length < 4611686018427387904) {c:Bool} :
 Ct Tryz.prog 129 [.sl c 9 (l.map Zg),.cl h caps] (B (l.any g)):=by
 refine t129.1 ⟨by simp [KF,Za,KFL,Zg],hk,trivial⟩ (by simp [KF]) ?_
 dsimp only [c129,r129,go_sem,rA,rM,rS]
 refine call (idx95 h caps hk g l hg hl) ?_
 dsimp only [go_sem,rA,rM,rS]
 rw [Vc]
theorem idx96 (h:Nat) (caps:List SV) (hk:KFL caps) (g:Leg->Bool) (l:List Leg) (hg:∀ x ∈ l,Ct Tryz.prog h (.agg (Zm x) :: caps) (B (g x))) (hl:l.length < 4611686018427387904) {c:Bool} :
 Ct Tryz.prog 162 [.sl c 5 (l.map Zm),.cl h caps] (I (Ww g l 0)):=by
 refine t162.1 ⟨by simp [KF,Za,KFL,Zm,Zh],hk,trivial⟩ (by simp [KF]) ?_
 dsimp only [c162,r162,go_sem,rA,rM,rS]
 refine Xt (fun k:Nat=>[(8,I k)]) (fun _=>[]) (fun k=>k<=l.length/\Ww g (l.drop k) k=Ww g l 0) (fun k=>l.length - k) 0 ⟨Nat.zero_le _,rfl⟩ ?_ ?_
 . (refine Zl ?_ ?_ ?_ rfl rfl<;>dsimp only [Zm,Zh,hk,id,go_sem,rA,rM,rS]<;>simp [Zm,Zh,hk,Za,Ze,KFR,KFL,KF,Zc,mtO,nbr])
 . intro k ⟨hk',hi⟩
   dsimp only [go_sem,rA,rM,rS]
   refine br ?_ ?_
   . intro hlt
     have hlt:k < l.length:=by simpa using hlt
     dsimp only [go_sem,rA,rM,rS]
     refine Zp k hlt rfl ?_
     dsimp only [Zm,go_sem,rA,rM,rS]
     refine call (hg l[k] (List.getElem_mem _)) ?_
     dsimp only [go_sem,rA,rM,rS]
     refine br ?_ ?_
     . intro hgx
       dsimp only [go_sem,rA,rM,rS]
       rw [<- hi,List.drop_eq_getElem_cons hlt]
       simp [Ww,hgx]
     . intro hgx
       dsimp only [go_sem,rA,rM,rS]
       refine ⟨k+1,⟨by omega,?_⟩,by omega,?_⟩
       . rw [<- hi,List.drop_eq_getElem_cons hlt];simp [Ww,hgx]
       . rw [Zf (by omega) (by omega)]
         (refine Zl ?_ ?_ ?_ rfl rfl<;>dsimp only [Zm,Zh,hk,id,go_sem,rA,rM,rS]<;>simp [Zm,Zh,hk,Za,Ze,KFR,KFL,KF,Zc,mtO,nbr])
   . intro hlt
     have hlt:k=l.length:=by simp at hlt;omega
     dsimp only [go_sem,rA,rM,rS]
     rw [<- hi,hlt];simp [Ww]
theorem con74 (h:Nat) (caps:List SV) (hk:KFL caps) (g:Leg->Bool) (l:List Leg) (hg:∀ x ∈ l,Ct Tryz.prog h (.agg (Zm x) :: caps) (B (g x))) (hl:l.length < 4611686018427387904) {c:Bool} :
 Ct Tryz.prog 132 [.sl c 5 (l.map Zm),.cl h caps] (B (l.any g)):=by
 refine t132.1 ⟨by simp [KF,Za,KFL,Zm,Zh],hk,trivial⟩ (by simp [KF]) ?_
 dsimp only [c132,r132,go_sem,rA,rM,rS]
 refine call (idx96 h caps hk g l hg hl) ?_
 dsimp only [go_sem,rA,rM,rS]
 rw [Vc]
theorem ZyU (h:Nat) (caps:List SV) (hk:KFL caps) (g:Span->Bool) (l:List Span) (hg:∀ x ∈ l,Ct Tryz.prog h (.agg (Zd x) :: caps) (B (g x))) (hl:l.length < 4611686018427387904) {c:Bool} :
 Ct Tryz.prog 143 [.sl c 2 (l.map Zd),.cl h caps] (I (Ww g l 0)):=by
 refine t143.1 ⟨by simp [KF,Za,KFL,Zd],hk,trivial⟩ (by simp [KF]) ?_
 dsimp only [c143,r143,go_sem,rA,rM,rS]
 refine Xt (fun k:Nat=>[(8,I k)]) (fun _=>[]) (fun k=>k<=l.length/\Ww g (l.drop k) k=Ww g l 0) (fun k=>l.length - k) 0 ⟨Nat.zero_le _,rfl⟩ ?_ ?_
 . (refine Zl ?_ ?_ ?_ rfl rfl<;>dsimp only [Zd,hk,id,go_sem,rA,rM,rS]<;>simp [Zd,hk,Za,Ze,KFR,KFL,KF,Zc,mtO,nbr])
 . intro k ⟨hk',hi⟩
   dsimp only [go_sem,rA,rM,rS]
   refine br ?_ ?_
   . intro hlt
     have hlt:k < l.length:=by simpa using hlt
     dsimp only [go_sem,rA,rM,rS]
     refine Zp k hlt rfl ?_
     dsimp only [Zd,go_sem,rA,rM,rS]
     refine call (hg l[k] (List.getElem_mem _)) ?_
     dsimp only [go_sem,rA,rM,rS]
     refine br ?_ ?_
     . intro hgx
       dsimp only [go_sem,rA,rM,rS]
       rw [<- hi,List.drop_eq_getElem_cons hlt]
       simp [Ww,hgx]
     . intro hgx
       dsimp only [go_sem,rA,rM,rS]
       refine ⟨k+1,⟨by omega,?_⟩,by omega,?_⟩
       . rw [<- hi,List.drop_eq_getElem_cons hlt];simp [Ww,hgx]
       . rw [Zf (by omega) (by omega)]
         (refine Zl ?_ ?_ ?_ rfl rfl<;>dsimp only [Zd,hk,id,go_sem,rA,rM,rS]<;>simp [Zd,hk,Za,Ze,KFR,KFL,KF,Zc,mtO,nbr])
   . intro hlt
     have hlt:k=l.length:=by simp at hlt;omega
     dsimp only [go_sem,rA,rM,rS]
     rw [<- hi,hlt];simp [Ww]
theorem Zse (h:Nat) (caps:List SV) (hk:KFL caps) (g:Span->Bool) (l:List Span) (hg:∀ x ∈ l,Ct Tryz.prog h (.agg (Zd x) :: caps) (B (g x))) (hl:l.length < 4611686018427387904) {c:Bool} :
 Ct Tryz.prog 102 [.sl c 2 (l.map Zd),.cl h caps] (B (l.any g)):=by
 refine t102.1 ⟨by simp [KF,Za,KFL,Zd],hk,trivial⟩ (by simp [KF]) ?_
 dsimp only [c102,r102,go_sem,rA,rM,rS]
 refine call (ZyU h caps hk g l hg hl) ?_
 dsimp only [go_sem,rA,rM,rS]
 rw [Vc]
theorem X8 (n lo hi:Int):Ct Tryz.prog 88 [I n,I lo,I hi] (B (inR lo hi n)):=by
 refine t88.1 (by simp [KFL,KF]) (by simp [KFL,KF]) ?_
 dsimp only [c88,r88,go_sem,rA,rM,rS]
 refine gb ?_;dsimp only [go_sem,rA,rM,rS]
 refine gb ?_;dsimp only [go_sem,rA,rM,rS]
 refine gb ?_;dsimp only [go_sem,rA,rM,rS]
 simp [inR]
theorem ZR (s:Span) (lo hi:Int):Ct Tryz.prog 137 [.agg (Zd s),I lo,I hi] (B (Z6 lo hi s)):=by
 refine t137.1 (by simp [Zd,KFL,KF]) (by simp [KFL,KF]) ?_
 dsimp only [c137,r137,Zd,go_sem,rA,rM,rS]
 refine call (X8 _ _ _) ?_
 dsimp only [go_sem,rA,rM,rS]
 repeat (refine gb ?_;dsimp only [go_sem,rA,rM,rS])
 (simp only [Z6,inR,Option.some.injEq,SV.v.injEq,Value.bool.injEq]<;>grind)
theorem Zdm (lo hi x:Int):Ct Tryz.prog 121 [I x,.ps [I lo] 0,.ps [I hi] 0] (B (!inR lo hi x)):=by
 refine t121.1 (by simp [KFL,KF]) (by simp [KFL,KF]) ?_
 dsimp only [c121,r121,go_sem,rA,rM,rS]
 repeat (refine gb ?_;dsimp only [go_sem,rA,rM,rS])
 (simp only [inR,Option.some.injEq,SV.v.injEq,Value.bool.injEq]<;>grind)
theorem Uz (lo hi:Int) (l:List Int) (hl:l.length < 4611686018427387904) (c:Bool):Ct Tryz.prog 76 [I lo,I hi,.sl c 1 (l.map Zo)] (B (l.all (inR lo hi))):=by
 refine t76.1 (by simp [Za,Zo,KFL,KF]) (by simp [KFL,KF]) ?_
 dsimp only [c76,r76,go_sem,rA,rM,rS]
 refine ZeE (by simp [FLT]) (res:=B (l.any fun x=>!inR lo hi x)) ?_ ?_
 . dsimp only [go_sem,rA,rM,rS]
   exact ZyB 121 [.ps [I lo] 0,.ps [I hi] 0] (by simp [KFL,KF]) (fun x=>!inR lo hi x) l (fun x _=>Zdm lo hi x) hl
 . dsimp only [go_sem,rA,rM,rS]
   simp [List.all_eq_not_any_not]
theorem UX (lo hi a:Int) (c:Bool):Ct Tryz.prog 76 [I lo,I hi,.sl c 1 [[I a]]] (B (inR lo hi a)):=by
 have:=Uz lo hi [a] (by simp) c
 simpa [Zo] using this
theorem ZeH (lo hi a b:Int) (c:Bool):Ct Tryz.prog 76 [I lo,I hi,.sl c 1 [[I a],[I b]]] (B (inR lo hi a && inR lo hi b)):=by
 have:=Uz lo hi [a,b] (by simp) c
 simpa [Zo] using this
theorem Uf (lo hi:Int) (s:Span):Ct Tryz.prog 158 [.agg (Zd s),.ps [I lo] 0,.ps [I hi] 0] (B (!Z6 lo hi s)):=by
 refine t158.1 (by simp [Zd,KFL,KF]) (by simp [KFL,KF]) ?_
 dsimp only [c158,r158,Zd,go_sem,rA,rM,rS]
 repeat (first | (refine gb ?_;dsimp only [go_sem,rA,rM,rS]) | (refine call (ZeH _ _ _ _ _) ?_;dsimp only [go_sem,rA,rM,rS]))
 (simp only [Z6,inR,Option.some.injEq,SV.v.injEq,Value.bool.injEq]<;>grind)
theorem Xr (lo hi:Int) (l:List Span) (hl:l.length < 4611686018427387904) (c:Bool):Ct Tryz.prog 120 [I lo,I hi,.sl c 2 (l.map Zd)] (B (l.all (Z6 lo hi))):=by
 refine t120.1 (by simp [Za,Zd,KFL,KF]) (by simp [KFL,KF]) ?_
 dsimp only [c120,r120,go_sem,rA,rM,rS]
 refine ZeE (by simp [FLT]) (res:=B (l.any fun x=>!Z6 lo hi x)) ?_ ?_
 . dsimp only [go_sem,rA,rM,rS]
   exact Zse 158 [.ps [I lo] 0,.ps [I hi] 0] (by simp [KFL,KF]) (fun x=>!Z6 lo hi x) l (fun x _=>Uf lo hi x) hl
 . dsimp only [go_sem,rA,rM,rS]
   simp [List.all_eq_not_any_not]
theorem Xe (lo hi:Int) (s:Span) (c:Bool):Ct Tryz.prog 120 [I lo,I hi,.sl c 2 [[I s.lo,I s.hi]]] (B (Z6 lo hi s)):=by
 have:=Xr lo hi [s] (by simp) c
 simpa [Zd] using this
theorem ZdE (lo hi:Int) (s t:Span) (c:Bool):Ct Tryz.prog 120 [I lo,I hi,.sl c 2 [[I s.lo,I s.hi],[I t.lo,I t.hi]]] (B (Z6 lo hi s && Z6 lo hi t)):=by
 have:=Xr lo hi [s,t] (by simp) c
 simpa [Zd] using this
theorem Zy1 (w:Well):Ct Tryz.prog 131 [.agg (Zg w)] (B (YM w)):=by
 refine t131.1 (by simp [Zg,KFL,KF]) (by simp [KFL,KF]) ?_
 dsimp only [c131,r131,Zg,go_sem,rA,rM,rS]
 repeat (first | (refine gb ?_;dsimp only [go_sem,rA,rM,rS]) | (refine call (UX _ _ _ _) ?_;dsimp only [go_sem,rA,rM,rS]) | (refine call (ZeH _ _ _ _ _) ?_;dsimp only [go_sem,rA,rM,rS]) | (refine call (Xe _ _ w.yld _) ?_;dsimp only [go_sem,rA,rM,rS]) | (refine call (Xe _ _ w.has _) ?_;dsimp only [go_sem,rA,rM,rS]))
 simp [YM,Bool.and_assoc]
theorem ZgR (x:Leg) (n:Int) (h0:0<=n) (h1:n<=1000) (hg:x.gates.length < 4611686018427387904):Ct Tryz.prog 134 [.agg (Zm x),I n] (B (WL n x)):=by
 have hw:IntKind.i64.wrap (n - 1)=n - 1:=Zf (by omega) (by omega)
 refine t134.1 (by simp [Zm,Za,Zh,KFL,KF]) (by simp [KFL,KF]) ?_
 dsimp only [c134,r134,Zm,hw,go_sem,rA,rM,rS]
 simp only [hw]
 repeat (first | (refine gb ?_;dsimp only [go_sem,rA,rM,rS]) | (refine call (ZeH _ _ _ _ _) ?_;dsimp only [go_sem,rA,rM,rS]) | (refine call (Xe _ _ x.long _) ?_;dsimp only [go_sem,rA,rM,rS]))
 simp only [List.length_map]
 refine br ?_ ?_
 . intro h
   dsimp only [go_sem,rA,rM,rS]
   (simp only [WL,Option.some.injEq,SV.v.injEq,Value.bool.injEq]<;>grind)
 . intro h
   dsimp only [go_sem,rA,rM,rS]
   have hh:WL n x=YJ 0 x.gates:=by simp only [WL];grind
   rw [hh]
   refine Xt (fun s:Nat × Int=>[(40,I s.1),(5,I s.2)]) (fun _=>[]) (fun s=>s.1<=x.gates.length/\YJ s.2 (x.gates.drop s.1)=YJ 0 x.gates) (fun s=>x.gates.length - s.1) (0,0) ⟨Nat.zero_le _,rfl⟩ ?_ ?_
   . (refine Zl ?_ ?_ ?_ rfl rfl<;>dsimp only [Zh,id,go_sem,rA,rM,rS]<;>simp [Zh,Za,Ze,KFR,KFL,KF,Zc,mtO,nbr])
   . rintro ⟨k,next⟩ ⟨hk,hi⟩
     dsimp only [go_sem,rA,rM,rS]
     refine br ?_ ?_
     . intro hlt
       have hlt:k < x.gates.length:=by simpa using hlt
       dsimp only [go_sem,rA,rM,rS]
       refine Zp k hlt rfl ?_
       dsimp only [Zh,go_sem,rA,rM,rS]
       repeat (first | (refine gb ?_;dsimp only [go_sem,rA,rM,rS]) | (refine call (ZdE _ _ x.gates[k].opens x.gates[k].shuts _) ?_;dsimp only [go_sem,rA,rM,rS]) | (refine call (UX _ _ _ _) ?_;dsimp only [go_sem,rA,rM,rS]))
       have hd:x.gates.drop k=x.gates[k] :: x.gates.drop (k+1):=List.drop_eq_getElem_cons hlt
       refine br ?_ ?_
       . intro hb
         dsimp only [go_sem,rA,rM,rS]
         rw [<- hi,hd]
         (simp only [YJ,Option.some.injEq,SV.v.injEq,Value.bool.injEq]<;>grind)
       . intro hb
         dsimp only [go_sem,rA,rM,rS]
         have hs:Z6 0 100000 x.gates[k].shuts=true:=by grind
         simp only [Z6,decide_eq_true_eq] at hs
         rw [Zf (n:=x.gates[k].shuts.hi+1) (by omega) (by omega),Zf (n:=(k:Int)+1) (by omega) (by omega)]
         refine ⟨(k+1,x.gates[k].shuts.hi+1),⟨hlt,?_⟩,by simp only;omega,?_⟩
         . rw [<- hi,hd];simp only [YJ];grind
         . (refine Zl ?_ ?_ ?_ rfl rfl<;>dsimp only [Zh,id,go_sem,rA,rM,rS]<;>simp [Zh,Za,Ze,KFR,KFL,KF,Zc,mtO,nbr])
     . intro hlt
       have hlt:k=x.gates.length:=by simp at hlt;omega
       dsimp only [go_sem,rA,rM,rS]
       rw [<- hi,hlt];simp [YJ]
theorem Zw7 (l:Land) (x:Leg) (hs:Vl l) (hx:x ∈ l.legs):Ct Tryz.prog 133 [.agg (Zm x),.ps (Yo l) 0] (B (!WL l.wells.length x)):=by
 have hg:=hs.2.2 x hx
 refine t133.1 (by simp [Zm,Yo,Zg,Zh,Za,KFL,KF]) (by simp [KFL,KF]) ?_
 dsimp only [c133,r133,Zm,Yo,go_sem,rA,rM,rS]
 simp only [List.length_map]
 refine call (ZgR x l.wells.length (by omega) (by have:=hs.1;omega) (by omega)) ?_
 dsimp only [go_sem,rA,rM,rS]
theorem Zo3 (w:Well):Ct Tryz.prog 130 [.agg (Zg w)] (B (!YM w)):=by
 refine t130.1 (by simp [Zg,KFL,KF]) (by simp [KFL,KF]) ?_
 dsimp only [c130,r130,Zg,go_sem,rA,rM,rS]
 refine call (Zy1 w) ?_
 dsimp only [go_sem,rA,rM,rS]
theorem Zc7 (l:Land) (hs:Vl l):Ct Tryz.prog 85 [.agg (Yo l)] (I (if ZM l=true then 0 else 30)):=by
 refine t85.1 (by simp [Yo,Zg,Zm,Zh,Za,KFL,KF]) (by simp [KFL,KF]) ?_
 dsimp only [c85,r85,Yo,go_sem,rA,rM,rS]
 refine call (con71 130 [] (by simp [KFL]) (fun w=>!YM w) l.wells (fun w _=>Zo3 w) (by have:=hs.1;omega)) ?_
 dsimp only [go_sem,rA,rM,rS]
 refine ZeE (res:=B (l.legs.any fun x=>!WL l.wells.length x)) (by simp [FLT]) ?_ ?_
 . dsimp only [go_sem,rA,rM,rS]
   exact con74 133 [.ps (Yo l) 0] (by simp [Yo,Zg,Zm,Zh,Za,KFL,KF]) (fun x=>!WL l.wells.length x) l.legs (fun x hx=>Zw7 l x hs hx) (by have:=hs.2.1;omega)
 dsimp only [go_sem,rA,rM,rS]
 repeat (first | (refine gb ?_;dsimp only [go_sem,rA,rM,rS]) | (refine call (UX _ _ _ _) ?_;dsimp only [go_sem,rA,rM,rS]))
 simp only [List.length_map]
 have key:ZM l = !(!inR 1 12 l.wells.length || decide ((l.legs.length:Int) > 24) || !(!l.wells.any fun w=>!YM w) || !(!l.legs.any fun x=>!WL l.wells.length x)):=by
  simp only [ZM,List.all_eq_not_any_not];grind
 rw [key]
 refine br ?_ ?_
 . intro h
   dsimp only [go_sem,rA,rM,rS]
   rw [h];rfl
 . intro h
   dsimp only [go_sem,rA,rM,rS]
   rw [h];rfl
theorem ZfT {w:Well} {s:Span} {n:Int} (hw:YM w=true) (h1:0<=s.lo) (h2:s.lo<=w.room) (h3:0<=s.hi) (h4:s.hi<=w.room) (h5:-200000<=n) (h6:n<=200000) :
 IntKind.i64.wrap (s.lo+IntKind.i64.wrap (n * w.yld.lo))=s.lo+n * w.yld.lo/\IntKind.i64.wrap (s.hi+IntKind.i64.wrap (n * w.yld.hi))=s.hi+n * w.yld.hi:=by
 simp only [YM,Z6,inR,Bool.and_eq_true,decide_eq_true_eq] at hw
 have key:∀ y:Int,0<=y->y<=10000000->-2000000000000<=n * y/\n * y<=2000000000000:=fun y a b=>by
  constructor
  . have:=Int.mul_le_mul_of_nonneg_right h5 a;omega
  . have:=Int.mul_le_mul_of_nonneg_right h6 a;omega
 have k1:=key w.yld.lo (by omega) (by omega)
 have k2:=key w.yld.hi (by omega) (by omega)
 rw [Zf (n:=n * w.yld.lo) (by omega) (by omega),Zf (n:=n * w.yld.hi) (by omega) (by omega),Zf (by omega) (by omega),Zf (by omega) (by omega)]
 exact ⟨rfl,rfl⟩
theorem Zmh {w:Well} {s:Span} {n:Int} (hw:YM w=true) (h1:0<=s.lo) (h2:s.lo<=w.room) (h3:0<=s.hi) (h4:s.hi<=w.room) (h5:-200000<=n) (h6:n<=200000):-2000000000000<=(Wm w s n).lo:=by
 simp only [YM,Z6,inR,Bool.and_eq_true,decide_eq_true_eq] at hw
 have k1:-2000000000000<=n * w.yld.lo:=by
  have:=Int.mul_le_mul_of_nonneg_right h5 (show 0<=w.yld.lo by omega);omega
 simp only [Wm];omega
theorem Zd9 (w:Well) (s:Span) (n:Int) (hw:YM w=true) (h1:0<=s.lo) (h2:s.lo<=w.room) (h3:0<=s.hi) (h4:s.hi<=w.room) (h5:-200000<=n) (h6:n<=200000) :
 Ct Tryz.prog 86 [.agg (Zg w),.agg (Zd s),I n] (.agg (Zd (Wm w s n))):=by
 obtain ⟨k1,k2⟩:=ZfT hw h1 h2 h3 h4 h5 h6
 refine t86.1 (by simp [Zg,Zd,KFL,KF]) (by simp [Zd,KFL,KF]) ?_
 dsimp only [c86,r86,Zg,Zd,go_sem,rA,rM,rS]
 simp only [k1,k2,Wm]
def ZqE (r:Span × Int × Int):SV:=.tup [.agg (Zd r.1),I r.2.1,I r.2.2]
theorem Zng {l:Land} {well:Int} (h:inR 0 (l.wells.length - 1) well=true):∃ (k:Nat) (hk:k < l.wells.length),well=(k:Int)/\l.wells[well.toNat]? = some l.wells[k]:=by
 simp only [inR,decide_eq_true_eq] at h
 refine ⟨well.toNat,by omega,by omega,?_⟩
 rw [List.getElem?_eq_getElem (by omega)]
theorem ZnN (l:Land) (hs:Vl l) (well day:Int) (draws:List Draw) (hd:draws.length<=1000) :
 Ct Tryz.prog 42 [.agg (Yo l),I well,.sl false 3 (draws.map Z5),I day] (ZqE (X1 l well draws day)):=by
 have hw1:IntKind.i64.wrap ((l.wells.length:Int) - 1)=(l.wells.length:Int) - 1:=Zf (by omega) (by have:=hs.1;omega)
 refine t42.1 (by simp [Yo,Zg,Zm,Zh,Z5,Za,KFL,KF]) (by simp [ZqE,Zd,KFL,KF]) ?_
 dsimp only [c42,r42,Yo,go_sem,rA,rM,rS]
 refine call (Zc7 l hs) ?_
 dsimp only [go_sem,rA,rM,rS]
 by_cases ho:ZM l=true
 case neg =>
  rw [if_neg ho]
  refine Zv rfl ?_
  dsimp only [go_sem,rA,rM,rS]
  simp [X1,ho,ZqE,Zd]
 rw [if_pos ho]
 refine Zw rfl ?_
 dsimp only [go_sem,rA,rM,rS]
 simp only [List.length_map,hw1]
 repeat (first | (refine gb ?_;dsimp only [go_sem,rA,rM,rS]) | (refine call (UX _ _ _ _) ?_;dsimp only [go_sem,rA,rM,rS]))
 by_cases ha:(inR 0 (l.wells.length - 1) well && inR 0 100000 day)=true
 case neg =>
  refine Zv (by grind) ?_
  dsimp only [go_sem,rA,rM,rS]
  simp [X1,ho,ZqE,Zd,ha]
 refine Zw (by grind) ?_
 dsimp only [go_sem,rA,rM,rS]
 by_cases hm:draws.length > 200
 case pos =>
  refine Zv (by simp;omega) ?_
  dsimp only [go_sem,rA,rM,rS]
  simp [X1,ho,ZqE,Zd,ha,hm]
 refine Zw (by simp;omega) ?_
 dsimp only [go_sem,rA,rM,rS]
 refine Xt (fun s:Nat × Int=>[(50,I s.1),(12,I s.2)]) (fun _=>[]) (fun s=>s.1<=draws.length/\Wt l.wells.length s.2 (draws.drop s.1)=Wt l.wells.length 0 draws) (fun s=>draws.length - s.1) (0,0) ⟨Nat.zero_le _,rfl⟩ ?_ ?_
 . (refine Zl ?_ ?_ ?_ rfl rfl<;>dsimp only [Zh,Zg,Zm,Z5,id,go_sem,rA,rM,rS]<;>simp [Zh,Zg,Zm,Z5,Za,Ze,KFR,KFL,KF,Zc,mtO,nbr])
 . rintro ⟨k,last⟩ ⟨hk,hi⟩
   simp only at hk hi
   dsimp only [go_sem,rA,rM,rS]
   by_cases hlt:k < draws.length
   . refine Zv (by simpa using hlt) ?_
     dsimp only [go_sem,rA,rM,rS]
     refine Zp k hlt rfl ?_
     dsimp only [Z5,go_sem,rA,rM,rS]
     simp only [List.length_map,hw1]
     repeat (first | (refine gb ?_;dsimp only [go_sem,rA,rM,rS]) | (refine call (UX _ _ _ _) ?_;dsimp only [go_sem,rA,rM,rS]))
     have hdr:draws.drop k=draws[k] :: draws.drop (k+1):=List.drop_eq_getElem_cons hlt
     rw [hdr] at hi
     simp only [Wt] at hi
     refine br ?_ ?_
     . intro h
       dsimp only [go_sem,rA,rM,rS]
       have:Wt l.wells.length 0 draws=false:=by rw [<- hi];grind
       simp [X1,ho,ZqE,Zd,ha,hm,this]
     . intro h
       dsimp only [go_sem,rA,rM,rS]
       rw [Zf (n:=(k:Int)+1) (by omega) (by omega)]
       refine ⟨(k+1,draws[k].day),⟨hlt,?_⟩,by simp only;omega,?_⟩
       . simp only;grind
       . (refine Zl ?_ ?_ ?_ rfl rfl<;>dsimp only [Zh,Zg,Zm,Z5,id,go_sem,rA,rM,rS]<;>simp [Zh,Zg,Zm,Z5,Za,Ze,KFR,KFL,KF,Zc,mtO,nbr])
   . refine Zw (by simp;omega) ?_
     dsimp only [go_sem,rA,rM,rS]
     have hk':k=draws.length:=by omega
     subst hk'
     simp only [List.drop_length,Wt] at hi
     obtain ⟨kw,hkw,rfl,hget⟩:=Zng (Bool.and_eq_true_iff.1 ha).1
     refine Zp kw hkw rfl ?_
     dsimp only [Zg,go_sem,rA,rM,rS]
     have hwf:X1 l kw draws day=Vw l.wells[kw] kw day l.wells[kw].has (-1) 0 draws:=by
      simp only [X1,ho,ha,hm,<- hi,hget];simp
     rw [hwf]
     have hok:=Zff ho l.wells[kw] (List.getElem_mem _)
     have hmem:=Zb9 hi.symm (Int.le_refl _)
     have hday:0<=day/\day<=100000:=by simp only [inR,Bool.and_eq_true,decide_eq_true_eq] at ha;omega
     have hroom:0<=l.wells[kw].has.lo/\l.wells[kw].has.lo<=l.wells[kw].room/\0<=l.wells[kw].has.hi/\l.wells[kw].has.hi<=l.wells[kw].room/\l.wells[kw].room<=1000000000:=by
      simp only [YM,Z6,inR,Bool.and_eq_true,decide_eq_true_eq] at hok;omega
     have hroom2:∀ x:Int,x<=l.wells[kw].room->x<=1000000000:=fun x h=>by omega
     refine Xt (fun s:Nat × Span × Int=>[(91,I s.1),(17,I s.2.2)]) (fun s=>[(3,.cells (Zd s.2.1) 27)])
      (fun s=>s.1<=draws.length/\Vw l.wells[kw] kw day s.2.1 s.2.2 s.1 (draws.drop s.1)=Vw l.wells[kw] kw day l.wells[kw].has (-1) 0 draws /\
       0<=s.2.1.lo/\s.2.1.lo<=l.wells[kw].room/\0<=s.2.1.hi/\s.2.1.hi<=l.wells[kw].room/\-1<=s.2.2/\s.2.2<=100000) (fun s=>draws.length - s.1) (0,l.wells[kw].has,-1)
      ⟨Nat.zero_le _,rfl,hroom.1,hroom.2.1,hroom.2.2.1,hroom.2.2.2.1,by simp,by simp⟩ ?_ ?_
     . (refine Zl ?_ ?_ ?_ rfl rfl<;>dsimp only [Zh,Zg,Zm,Z5,Zd,id,go_sem,rA,rM,rS]<;>simp [Zh,Zg,Zm,Z5,Zd,Za,Ze,KFR,KFL,KF,Zc,mtO,nbr])
     . rintro ⟨k,now,ev⟩ ⟨hk2,hi2,n1,n2,n3,n4,e1,e2⟩
       simp only at hk2 hi2 n1 n2 n3 n4 e1 e2
       dsimp only [Zd,go_sem,rA,rM,rS]
       by_cases hlt2:k < draws.length
       . refine Zv (by simpa using hlt2) ?_
         dsimp only [go_sem,rA,rM,rS]
         refine Zp k hlt2 rfl ?_
         dsimp only [Z5,go_sem,rA,rM,rS]
         repeat (first | (refine gb ?_;dsimp only [go_sem,rA,rM,rS]))
         have hx:=hmem draws[k] (List.getElem_mem _)
         have hdr:draws.drop k=draws[k] :: draws.drop (k+1):=List.drop_eq_getElem_cons hlt2
         rw [hdr] at hi2
         simp only [Vw] at hi2
         by_cases hc:(draws[k].well != (kw:Int) || decide (draws[k].day ≥ day))=true
         . refine Zv hc ?_
           dsimp only [go_sem,rA,rM,rS]
           rw [if_pos hc] at hi2
           rw [Zf (n:=(k:Int)+1) (by omega) (by omega)]
           refine ⟨(k+1,now,ev),⟨hlt2,hi2,n1,n2,n3,n4,e1,e2⟩,by simp only;omega,?_⟩
           (refine Zl ?_ ?_ ?_ rfl rfl<;>dsimp only [Zh,Zg,Zm,Z5,Zd,id,go_sem,rA,rM,rS]<;>simp [Zh,Zg,Zm,Z5,Zd,Za,Ze,KFR,KFL,KF,Zc,mtO,nbr])
         . refine Zw (by simpa using hc) ?_
           rw [if_neg hc] at hi2
           dsimp only [go_sem,rA,rM,rS]
           rw [Zf (n:=draws[k].day - ev) (by omega) (by omega)]
           refine call (Zd9 l.wells[kw] now (draws[k].day - ev) hok n1 n2 n3 n4 (by omega) (by omega)) ?_
           dsimp only [Zd,go_sem,rA,rM,rS]
           have hbig:-2000000000000<=(Wm l.wells[kw] now (draws[k].day - ev)).lo:=Zmh hok n1 n2 n3 n4 (by omega) (by omega)
           have hf2:(Wm l.wells[kw] now (draws[k].day - ev)).hi<=l.wells[kw].room:=by simp only [Wm];omega
           have hf1:(Wm l.wells[kw] now (draws[k].day - ev)).lo<=l.wells[kw].room:=by simp only [Wm];omega
           generalize hF:Wm l.wells[kw] now (draws[k].day - ev)=F at *
           by_cases hdry:F.hi < draws[k].water
           . refine Zv (by simpa using hdry) ?_
             dsimp only [go_sem,rA,rM,rS]
             rw [if_pos hdry] at hi2
             rw [<- hi2];rfl
           . refine Zw (by simpa using hdry) ?_
             dsimp only [go_sem,rA,rM,rS]
             rw [if_neg hdry] at hi2
             rw [Zf (n:=F.lo - draws[k].water) (by omega) (by omega),Zf (n:=F.hi - draws[k].water) (by omega) (by omega),Zf (n:=(k:Int)+1) (by omega) (by omega)]
             refine ⟨(k+1,⟨max 0 (F.lo - draws[k].water),F.hi - draws[k].water⟩,draws[k].day),⟨hlt2,hi2,by simp only;omega,by simp only;omega,by simp only;omega,by simp only;omega,by simp only;omega,by simp only;omega⟩,by simp only;omega,?_⟩
             (refine Zl ?_ ?_ ?_ rfl rfl<;>dsimp only [Zh,Zg,Zm,Z5,Zd,id,go_sem,rA,rM,rS]<;>simp [Zh,Zg,Zm,Z5,Zd,Za,Ze,KFR,KFL,KF,Zc,mtO,nbr])
       . refine Zw (by simp;omega) ?_
         dsimp only [go_sem,rA,rM,rS]
         rw [Zf (n:=day - 1) (by omega) (by omega),Zf (n:=day - 1 - ev) (by omega) (by omega)]
         refine call (Zd9 l.wells[kw] now (day - 1 - ev) hok n1 n2 n3 n4 (by omega) (by omega)) ?_
         dsimp only [Zd,go_sem,rA,rM,rS]
         have hk':k=draws.length:=by omega
         subst hk'
         simp only [List.drop_length,Vw] at hi2
         rw [<- hi2];rfl
end Go.Proofs.YtiigiflofnjilaaGreat
namespace Go.Azalai
structure Breed where
 full:Int
 fed:Int
 rest:Span
 heat:Span
 toil:Span
 burn:Span
 rub:Span
 milk:Span
 heal:Int
 strong:Span
deriving DecidableEq
structure Camel where
 water:Span
 fat:Span
 sore:Span
 milks:Bool
deriving DecidableEq
structure March where
 hours:Int
 load:Int
 heat:Span
 grass:Span
 drinks:Span
deriving DecidableEq
def Zx (b:Breed):Bool :=
 inR 1 1000000 b.full && inR 1 1000000 b.fed && inR 0 1000 b.heal && Z6 0 1000000 b.strong && Z6 0 100000 b.rest && Z6 0 100000 b.heat && Z6 0 100000 b.toil && Z6 0 100000 b.burn && Z6 0 100000 b.rub && Z6 0 100000 b.milk
def Zu (b:Breed) (c:Camel):Bool:=Z6 0 b.full c.water && Z6 0 b.fed c.fat && Z6 0 1000 c.sore
def ZY (m:March):Bool:=inR 0 24 m.hours && inR 0 1000000 m.load && Z6 0 60 m.heat && Z6 0 1000000 m.grass && Z6 0 1000000 m.drinks
def ZxW (b:Breed):Int:=if Zx b=true then 0 else 10
def Zcn (b:Breed) (c:Camel):Int:=if Zx b=false then 10 else if Zu b c=false then 11 else 0
def upF (a b:Int):Int:=(a+b - 1).tdiv b
def ZaF:Span:=⟨0,0⟩
def Wy (b:Breed) (c:Camel):Span :=
 ⟨min 1000 (min ((2000 * c.water.lo).tdiv b.full) (min ((2000 * c.fat.lo).tdiv b.fed) (1000 - c.sore.hi))),min 1000 (min (upF (2000 * c.water.hi) b.full) (min (upF (2000 * c.fat.hi) b.fed) (1000 - c.sore.lo)))⟩
def Zmy (b:Breed) (c:Camel):Span:=⟨(b.strong.lo * (Wy b c).lo).tdiv 1000,upF (b.strong.hi * (Wy b c).hi) 1000⟩
def ZB (m:March):Int:=m.hours * (100000+m.load)
def X4 (b:Breed) (milks:Bool) (m:March):Span :=
 ⟨b.rest.lo+b.heat.lo * max 0 (m.heat.lo - 20)+(b.toil.lo * ZB m).tdiv 100000+(if milks then b.milk.lo else 0),b.rest.hi+b.heat.hi * max 0 (m.heat.hi - 20)+upF (b.toil.hi * ZB m) 100000+(if milks then b.milk.hi else 0)⟩
def WB (b:Breed) (m:March):Span:=⟨(b.burn.lo * ZB m).tdiv 100000,upF (b.burn.hi * ZB m) 100000⟩
theorem Wv {a A d:Int} (h0:0<=a) (h1:a<=A) (hd:1<=d):0<=a.tdiv d/\a.tdiv d<=A :=
 ⟨Int.tdiv_nonneg h0 (by omega),Int.le_trans (Int.tdiv_le_self d h0) h1⟩
theorem ZfL {a A d:Int} (h0:0<=a) (h1:a<=A) (hd:1<=d):0<=upF a d/\upF a d<=A+d:=by
 have:=Wv (a:=a+d - 1) (A:=A+d) (d:=d) (by omega) (by omega) hd
 exact this
end Go.Azalai
namespace Go.Proofs.YtiigiflofnjilaaGreat.Cm
open Go Go.Sx Go.Azalai
def breedL (b:Breed):List SV:=[I b.full,I b.fed,I b.rest.lo,I b.rest.hi,I b.heat.lo,I b.heat.hi,I b.toil.lo,I b.toil.hi,I b.burn.lo,I b.burn.hi,I b.rub.lo,I b.rub.hi,I b.milk.lo,I b.milk.hi,I b.heal,I b.strong.lo,I b.strong.hi]
def camelL (c:Camel):List SV:=[I c.water.lo,I c.water.hi,I c.fat.lo,I c.fat.hi,I c.sore.lo,I c.sore.hi,B c.milks]
def YB (b:Breed) (c:Camel):List SV:=[I b.full,I b.fed,I b.rest.lo,I b.rest.hi,I b.heat.lo,I b.heat.hi,I b.toil.lo,I b.toil.hi,I b.burn.lo,I b.burn.hi,I b.rub.lo,I b.rub.hi,I b.milk.lo,I b.milk.hi,I b.heal,I b.strong.lo,I b.strong.hi,I c.water.lo,I c.water.hi,I c.fat.lo,I c.fat.hi,I c.sore.lo,I c.sore.hi,B c.milks]
def marchL (m:March):List SV:=[I m.hours,I m.load,I m.heat.lo,I m.heat.hi,I m.grass.lo,I m.grass.hi,I m.drinks.lo,I m.drinks.hi]
theorem Vc {α : Type} (g:α->Bool) (l:List α):decide (Ww g l 0 ≥ 0)=l.any g:=ZfH g l 0
theorem ZjQ (h:Nat) (caps:List SV) (hk:KFL caps) (g:Int->Bool) (l:List Int) (hg:∀ x ∈ l,Ct Tryz.prog h (I x :: caps) (B (g x))) (hl:l.length < 4611686018427387904) {c:Bool} :
 Ct Tryz.prog 141 [.sl c 1 (l.map Zo),.cl h caps] (I (Ww g l 0)):=by
 refine t141.1 ⟨by simp [KF,Za,KFL,Zo],hk,trivial⟩ (by simp [KF]) ?_
 dsimp only [c141,r141,go_sem,rA,rM,rS]
 refine Xt (fun k:Nat=>[(8,I k)]) (fun _=>[]) (fun k=>k<=l.length/\Ww g (l.drop k) k=Ww g l 0) (fun k=>l.length - k) 0 ⟨Nat.zero_le _,rfl⟩ ?_ ?_
 . (refine Zl ?_ ?_ ?_ rfl rfl<;>dsimp only [Zo,hk,id,go_sem,rA,rM,rS]<;>simp [Zo,hk,Za,Ze,KFR,KFL,KF,Zc,mtO,nbr])
 . intro k ⟨hk',hi⟩
   dsimp only [go_sem,rA,rM,rS]
   refine br ?_ ?_
   . intro hlt
     have hlt:k < l.length:=by simpa using hlt
     dsimp only [go_sem,rA,rM,rS]
     refine Zp k hlt rfl ?_
     dsimp only [Zo,go_sem,rA,rM,rS]
     refine call (hg l[k] (List.getElem_mem _)) ?_
     dsimp only [go_sem,rA,rM,rS]
     refine br ?_ ?_
     . intro hgx
       dsimp only [go_sem,rA,rM,rS]
       rw [<- hi,List.drop_eq_getElem_cons hlt]
       simp [Ww,hgx]
     . intro hgx
       dsimp only [go_sem,rA,rM,rS]
       refine ⟨k+1,⟨by omega,?_⟩,by omega,?_⟩
       . rw [<- hi,List.drop_eq_getElem_cons hlt];simp [Ww,hgx]
       . rw [Zf (by omega) (by omega)]
         (refine Zl ?_ ?_ ?_ rfl rfl<;>dsimp only [Zo,hk,id,go_sem,rA,rM,rS]<;>simp [Zo,hk,Za,Ze,KFR,KFL,KF,Zc,mtO,nbr])
   . intro hlt
     have hlt:k=l.length:=by simp at hlt;omega
     dsimp only [go_sem,rA,rM,rS]
     rw [<- hi,hlt];simp [Ww]
theorem con91 (h:Nat) (caps:List SV) (hk:KFL caps) (g:Int->Bool) (l:List Int) (hg:∀ x ∈ l,Ct Tryz.prog h (I x :: caps) (B (g x))) (hl:l.length < 4611686018427387904) {c:Bool} :
 Ct Tryz.prog 98 [.sl c 1 (l.map Zo),.cl h caps] (B (l.any g)):=by
 refine t98.1 ⟨by simp [KF,Za,KFL,Zo],hk,trivial⟩ (by simp [KF]) ?_
 dsimp only [c98,r98,go_sem,rA,rM,rS]
 refine call (ZjQ h caps hk g l hg hl) ?_
 dsimp only [go_sem,rA,rM,rS]
 rw [Vc]
theorem ZyA (h:Nat) (caps:List SV) (hk:KFL caps) (g:Span->Bool) (l:List Span) (hg:∀ x ∈ l,Ct Tryz.prog h (.agg (Zd x) :: caps) (B (g x))) (hl:l.length < 4611686018427387904) {c:Bool} :
 Ct Tryz.prog 143 [.sl c 2 (l.map Zd),.cl h caps] (I (Ww g l 0)):=by
 refine t143.1 ⟨by simp [KF,Za,KFL,Zd],hk,trivial⟩ (by simp [KF]) ?_
 dsimp only [c143,r143,go_sem,rA,rM,rS]
 refine Xt (fun k:Nat=>[(8,I k)]) (fun _=>[]) (fun k=>k<=l.length/\Ww g (l.drop k) k=Ww g l 0) (fun k=>l.length - k) 0 ⟨Nat.zero_le _,rfl⟩ ?_ ?_
 . (refine Zl ?_ ?_ ?_ rfl rfl<;>dsimp only [Zd,hk,id,go_sem,rA,rM,rS]<;>simp [Zd,hk,Za,Ze,KFR,KFL,KF,Zc,mtO,nbr])
 . intro k ⟨hk',hi⟩
   dsimp only [go_sem,rA,rM,rS]
   refine br ?_ ?_
   . intro hlt
     have hlt:k < l.length:=by simpa using hlt
     dsimp only [go_sem,rA,rM,rS]
     refine Zp k hlt rfl ?_
     dsimp only [Zd,go_sem,rA,rM,rS]
     refine call (hg l[k] (List.getElem_mem _)) ?_
     dsimp only [go_sem,rA,rM,rS]
     refine br ?_ ?_
     . intro hgx
       dsimp only [go_sem,rA,rM,rS]
       rw [<- hi,List.drop_eq_getElem_cons hlt]
       simp [Ww,hgx]
     . intro hgx
       dsimp only [go_sem,rA,rM,rS]
       refine ⟨k+1,⟨by omega,?_⟩,by omega,?_⟩
       . rw [<- hi,List.drop_eq_getElem_cons hlt];simp [Ww,hgx]
       . rw [Zf (by omega) (by omega)]
         (refine Zl ?_ ?_ ?_ rfl rfl<;>dsimp only [Zd,hk,id,go_sem,rA,rM,rS]<;>simp [Zd,hk,Za,Ze,KFR,KFL,KF,Zc,mtO,nbr])
   . intro hlt
     have hlt:k=l.length:=by simp at hlt;omega
     dsimp only [go_sem,rA,rM,rS]
     rw [<- hi,hlt];simp [Ww]
theorem con93 (h:Nat) (caps:List SV) (hk:KFL caps) (g:Span->Bool) (l:List Span) (hg:∀ x ∈ l,Ct Tryz.prog h (.agg (Zd x) :: caps) (B (g x))) (hl:l.length < 4611686018427387904) {c:Bool} :
 Ct Tryz.prog 102 [.sl c 2 (l.map Zd),.cl h caps] (B (l.any g)):=by
 refine t102.1 ⟨by simp [KF,Za,KFL,Zd],hk,trivial⟩ (by simp [KF]) ?_
 dsimp only [c102,r102,go_sem,rA,rM,rS]
 refine call (ZyA h caps hk g l hg hl) ?_
 dsimp only [go_sem,rA,rM,rS]
 rw [Vc]
theorem X8 (n lo hi:Int):Ct Tryz.prog 165 [I n,I lo,I hi] (B (inR lo hi n)):=by
 refine t165.1 (by simp [KFL,KF]) (by simp [KFL,KF]) ?_
 dsimp only [c165,r165,go_sem,rA,rM,rS]
 refine gb ?_;dsimp only [go_sem,rA,rM,rS]
 refine gb ?_;dsimp only [go_sem,rA,rM,rS]
 refine gb ?_;dsimp only [go_sem,rA,rM,rS]
 simp [inR]
theorem ZR (s:Span) (lo hi:Int):Ct Tryz.prog 166 [.agg (Zd s),I lo,I hi] (B (Z6 lo hi s)):=by
 refine t166.1 (by simp [Zd,KFL,KF]) (by simp [KFL,KF]) ?_
 dsimp only [c166,r166,Zd,go_sem,rA,rM,rS]
 refine call (X8 _ _ _) ?_
 dsimp only [go_sem,rA,rM,rS]
 repeat (refine gb ?_;dsimp only [go_sem,rA,rM,rS])
 (simp only [Z6,inR,Option.some.injEq,SV.v.injEq,Value.bool.injEq]<;>grind)
theorem Zdm (lo hi x:Int):Ct Tryz.prog 160 [I x,.ps [I lo] 0,.ps [I hi] 0] (B (!inR lo hi x)):=by
 refine t160.1 (by simp [KFL,KF]) (by simp [KFL,KF]) ?_
 dsimp only [c160,r160,go_sem,rA,rM,rS]
 repeat (refine gb ?_;dsimp only [go_sem,rA,rM,rS])
 (simp only [inR,Option.some.injEq,SV.v.injEq,Value.bool.injEq]<;>grind)
theorem Uz (lo hi:Int) (l:List Int) (hl:l.length < 4611686018427387904) (c:Bool):Ct Tryz.prog 125 [I lo,I hi,.sl c 1 (l.map Zo)] (B (l.all (inR lo hi))):=by
 refine t125.1 (by simp [Za,Zo,KFL,KF]) (by simp [KFL,KF]) ?_
 dsimp only [c125,r125,go_sem,rA,rM,rS]
 refine ZeE (by simp [FLT]) (res:=B (l.any fun x=>!inR lo hi x)) ?_ ?_
 . dsimp only [go_sem,rA,rM,rS]
   exact con91 160 [.ps [I lo] 0,.ps [I hi] 0] (by simp [KFL,KF]) (fun x=>!inR lo hi x) l (fun x _=>Zdm lo hi x) hl
 . dsimp only [go_sem,rA,rM,rS]
   simp [List.all_eq_not_any_not]
theorem UX (lo hi a:Int) (c:Bool):Ct Tryz.prog 125 [I lo,I hi,.sl c 1 [[I a]]] (B (inR lo hi a)):=by
 have:=Uz lo hi [a] (by simp) c
 simpa [Zo] using this
theorem ZeH (lo hi a b:Int) (c:Bool):Ct Tryz.prog 125 [I lo,I hi,.sl c 1 [[I a],[I b]]] (B (inR lo hi a && inR lo hi b)):=by
 have:=Uz lo hi [a,b] (by simp) c
 simpa [Zo] using this
theorem Uf (lo hi:Int) (s:Span):Ct Tryz.prog 142 [.agg (Zd s),.ps [I lo] 0,.ps [I hi] 0] (B (!Z6 lo hi s)):=by
 refine t142.1 (by simp [Zd,KFL,KF]) (by simp [KFL,KF]) ?_
 dsimp only [c142,r142,Zd,go_sem,rA,rM,rS]
 repeat (first | (refine gb ?_;dsimp only [go_sem,rA,rM,rS]) | (refine call (ZeH _ _ _ _ _) ?_;dsimp only [go_sem,rA,rM,rS]))
 (simp only [Z6,inR,Option.some.injEq,SV.v.injEq,Value.bool.injEq]<;>grind)
theorem Xr (lo hi:Int) (l:List Span) (hl:l.length < 4611686018427387904) (c:Bool):Ct Tryz.prog 101 [I lo,I hi,.sl c 2 (l.map Zd)] (B (l.all (Z6 lo hi))):=by
 refine t101.1 (by simp [Za,Zd,KFL,KF]) (by simp [KFL,KF]) ?_
 dsimp only [c101,r101,go_sem,rA,rM,rS]
 refine ZeE (by simp [FLT]) (res:=B (l.any fun x=>!Z6 lo hi x)) ?_ ?_
 . dsimp only [go_sem,rA,rM,rS]
   exact con93 142 [.ps [I lo] 0,.ps [I hi] 0] (by simp [KFL,KF]) (fun x=>!Z6 lo hi x) l (fun x _=>Uf lo hi x) hl
 . dsimp only [go_sem,rA,rM,rS]
   simp [List.all_eq_not_any_not]
theorem Xe (lo hi:Int) (s:Span) (c:Bool):Ct Tryz.prog 101 [I lo,I hi,.sl c 2 [[I s.lo,I s.hi]]] (B (Z6 lo hi s)):=by
 have:=Xr lo hi [s] (by simp) c
 simpa [Zd] using this
theorem ZdE (lo hi:Int) (s t:Span) (c:Bool):Ct Tryz.prog 101 [I lo,I hi,.sl c 2 [[I s.lo,I s.hi],[I t.lo,I t.hi]]] (B (Z6 lo hi s && Z6 lo hi t)):=by
 have:=Xr lo hi [s,t] (by simp) c
 simpa [Zd] using this
theorem Zri (lo hi:Int) (a b c d e f:Span) (k:Bool):Ct Tryz.prog 101 [I lo,I hi,.sl k 2 [[I a.lo,I a.hi],[I b.lo,I b.hi],[I c.lo,I c.hi],[I d.lo,I d.hi],[I e.lo,I e.hi],[I f.lo,I f.hi]]]
 (B (Z6 lo hi a && (Z6 lo hi b && (Z6 lo hi c && (Z6 lo hi d && (Z6 lo hi e && Z6 lo hi f)))))):=by
 have:=Xr lo hi [a,b,c,d,e,f] (by simp) k
 simpa [Zd] using this
theorem ZdI (b:Breed):Ct Tryz.prog 100 [.agg (breedL b)] (I (ZxW b)):=by
 refine t100.1 (by simp [breedL,KFL,KF]) (by simp [KFL,KF]) ?_
 dsimp only [c100,r100,breedL,go_sem,rA,rM,rS]
 repeat (first | (refine gb ?_;dsimp only [go_sem,rA,rM,rS]) | (refine call (UX _ _ _ _) ?_;dsimp only [go_sem,rA,rM,rS]) | (refine call (ZeH _ _ _ _ _) ?_;dsimp only [go_sem,rA,rM,rS]) | (refine call (Zri _ _ b.rest b.heat b.toil b.burn b.rub b.milk _) ?_;dsimp only [go_sem,rA,rM,rS]) | (refine call (Xe _ _ b.strong _) ?_;dsimp only [go_sem,rA,rM,rS]))
 refine br ?_ ?_
 . intro h
   dsimp only [go_sem,rA,rM,rS]
   have:Zx b=false:=by simp only [Zx];grind
   simp [ZxW,this]
 . intro h
   dsimp only [go_sem,rA,rM,rS]
   have:Zx b=true:=by simp only [Zx];grind
   simp [ZxW,this]
theorem Zi8 (b:Breed):Ct Tryz.prog 138 [.agg (breedL b)] (B (Zx b)):=by
 refine t138.1 (by simp [breedL,KFL,KF]) (by simp [KFL,KF]) ?_
 dsimp only [c138,r138,breedL,go_sem,rA,rM,rS]
 repeat (first | (refine gb ?_;dsimp only [go_sem,rA,rM,rS]) | (refine call (X8 _ _ _) ?_;dsimp only [go_sem,rA,rM,rS]) | (refine call (ZR b.strong _ _) ?_;dsimp only [go_sem,rA,rM,rS]))
 refine br ?_ ?_
 . intro h
   dsimp only [go_sem,rA,rM,rS]
   have:Zx b=false:=by simp only [Zx];grind
   simp [this]
 . intro h
   dsimp only [go_sem,rA,rM,rS]
   repeat (first | (refine gb ?_;dsimp only [go_sem,rA,rM,rS]) | (refine call (ZR b.rest _ _) ?_;dsimp only [go_sem,rA,rM,rS]) | (refine call (ZR b.heat _ _) ?_;dsimp only [go_sem,rA,rM,rS]) | (refine call (ZR b.toil _ _) ?_;dsimp only [go_sem,rA,rM,rS]) | (refine call (ZR b.burn _ _) ?_;dsimp only [go_sem,rA,rM,rS]) | (refine call (ZR b.rub _ _) ?_;dsimp only [go_sem,rA,rM,rS]) | (refine call (ZR b.milk _ _) ?_;dsimp only [go_sem,rA,rM,rS]))
   (simp only [Zx,Option.some.injEq,SV.v.injEq,Value.bool.injEq]<;>grind)
theorem checkCamel_ok (b:Breed) (c:Camel):Ct Tryz.prog 54 [.agg (breedL b),.agg (camelL c)] (I (Zcn b c)):=by
 refine t54.1 (by simp [breedL,camelL,KFL,KF]) (by simp [KFL,KF]) ?_
 dsimp only [c54,r54,breedL,camelL,go_sem,rA,rM,rS]
 refine call (ZdI b) ?_
 dsimp only [go_sem,rA,rM,rS]
 by_cases hb:Zx b=true
 case neg =>
  refine Zv (by simp [ZxW,hb]) ?_
  dsimp only [go_sem,rA,rM,rS]
  simp [ZxW,Zcn,hb]
 refine Zw (by simp [ZxW,hb]) ?_
 dsimp only [go_sem,rA,rM,rS]
 repeat (first | (refine gb ?_;dsimp only [go_sem,rA,rM,rS]) | (refine call (Xe _ _ c.water _) ?_;dsimp only [go_sem,rA,rM,rS]) | (refine call (Xe _ _ c.fat _) ?_;dsimp only [go_sem,rA,rM,rS]) | (refine call (Xe _ _ c.sore _) ?_;dsimp only [go_sem,rA,rM,rS]))
 refine br ?_ ?_
 . intro h
   dsimp only [go_sem,rA,rM,rS]
   have:Zu b c=false:=by simp only [Zu];grind
   simp [Zcn,this,hb]
 . intro h
   dsimp only [go_sem,rA,rM,rS]
   have:Zu b c=true:=by simp only [Zu];grind
   simp [Zcn,this,hb]
theorem ZlS (b:Breed) (c:Camel):Ct Tryz.prog 139 [.agg (breedL b),.agg (camelL c)] (B (Zu b c)):=by
 refine t139.1 (by simp [breedL,camelL,KFL,KF]) (by simp [KFL,KF]) ?_
 dsimp only [c139,r139,breedL,camelL,go_sem,rA,rM,rS]
 repeat (first | (refine gb ?_;dsimp only [go_sem,rA,rM,rS]) | (refine call (ZR c.water _ _) ?_;dsimp only [go_sem,rA,rM,rS]) | (refine call (ZR c.fat _ _) ?_;dsimp only [go_sem,rA,rM,rS]) | (refine call (ZR c.sore _ _) ?_;dsimp only [go_sem,rA,rM,rS]))
 (simp only [Zu,Option.some.injEq,SV.v.injEq,Value.bool.injEq]<;>grind)
theorem checkCamelR_ok (b:Breed) (c:Camel):Ct Tryz.prog 95 [.agg (breedL b),.agg (camelL c)] (I (Zcn b c)):=by
 refine t95.1 (by simp [breedL,camelL,KFL,KF]) (by simp [KFL,KF]) ?_
 dsimp only [c95,r95,breedL,camelL,go_sem,rA,rM,rS]
 refine call (Zi8 b) ?_
 dsimp only [go_sem,rA,rM,rS]
 by_cases hb:Zx b=true
 case neg =>
  refine Zv (by simp [hb]) ?_
  dsimp only [go_sem,rA,rM,rS]
  simp [Zcn,hb]
 refine Zw (by simp [hb]) ?_
 dsimp only [go_sem,rA,rM,rS]
 refine call (ZlS b c) ?_
 dsimp only [go_sem,rA,rM,rS]
 refine br ?_ ?_
 . intro h
   dsimp only [go_sem,rA,rM,rS]
   have:Zu b c=false:=by simpa using h
   simp [Zcn,this,hb]
 . intro h
   dsimp only [go_sem,rA,rM,rS]
   have:Zu b c=true:=by simpa using h
   simp [Zcn,this,hb]
theorem ZeR (l:List March) (hl:l.length < 4611686018427387904) (c:Bool):Ct Tryz.prog 83 [.sl c 8 (l.map marchL)] (I (if l.all ZY=true then 0 else 12)):=by
 refine t83.1 (by simp [marchL,Za,KFL,KF]) (by simp [KFL,KF]) ?_
 dsimp only [c83,r83,go_sem,rA,rM,rS]
 refine Xt (fun k:Nat=>[(7,I k)]) (fun _=>[]) (fun k=>k<=l.length/\(l.drop k).all ZY=l.all ZY) (fun k=>l.length - k) 0 ⟨Nat.zero_le _,rfl⟩ ?_ ?_
 . (refine Zl ?_ ?_ ?_ rfl rfl<;>dsimp only [marchL,id,go_sem,rA,rM,rS]<;>simp [marchL,Za,Ze,KFR,KFL,KF,Zc,mtO,nbr])
 intro k ⟨hk,hi⟩
 dsimp only [go_sem,rA,rM,rS]
 by_cases hlt:k < l.length
 . refine Zv (by simpa using hlt) ?_
   dsimp only [go_sem,rA,rM,rS]
   refine Zp k hlt rfl ?_
   dsimp only [marchL,go_sem,rA,rM,rS]
   repeat (first | (refine gb ?_;dsimp only [go_sem,rA,rM,rS]) | (refine call (UX _ _ _ _) ?_;dsimp only [go_sem,rA,rM,rS]) | (refine call (Xe _ _ l[k].heat _) ?_;dsimp only [go_sem,rA,rM,rS]) | (refine call (ZdE _ _ l[k].grass l[k].drinks _) ?_;dsimp only [go_sem,rA,rM,rS]))
   rw [List.drop_eq_getElem_cons hlt,List.all_cons] at hi
   refine br ?_ ?_
   . intro h
     dsimp only [go_sem,rA,rM,rS]
     have:ZY l[k]=false:=by simp only [ZY];grind
     rw [<- hi,this];rfl
   . intro h
     dsimp only [go_sem,rA,rM,rS]
     have:ZY l[k]=true:=by simp only [ZY];grind
     rw [this,Bool.true_and] at hi
     rw [Zf (n:=(k:Int)+1) (by omega) (by omega)]
     refine ⟨k+1,⟨hlt,hi⟩,by omega,?_⟩
     (refine Zl ?_ ?_ ?_ rfl rfl<;>dsimp only [marchL,id,go_sem,rA,rM,rS]<;>simp [marchL,Za,Ze,KFR,KFL,KF,Zc,mtO,nbr])
 . refine Zw (by simp;omega) ?_
   dsimp only [go_sem,rA,rM,rS]
   have hke:k=l.length:=by omega
   subst hke
   rw [List.drop_length] at hi
   rw [<- hi];rfl
theorem ZlY (m:March) (c:Bool):Ct Tryz.prog 83 [.sl c 8 [marchL m]] (I (if ZY m=true then 0 else 12)):=by
 have:=ZeR [m] (by simp) c
 simpa using this
theorem ZuM {a b A:Int} (h0:0<=a) (h1:a<=A) (hA:A<=1000000000000000) (hb:1<=b) (hb2:b<=1000000000) :
 IntKind.i64.wrap (a+b)=a+b/\IntKind.i64.wrap (a+b - 1)=a+b - 1/\IntKind.i64.wrap ((a+b - 1).tdiv b)=upF a b:=by
 have:=ZfL h0 h1 hb
 refine ⟨Zf (by omega) (by omega),Zf (by omega) (by omega),?_⟩
 unfold upF at *
 exact Zf (by omega) (by omega)
theorem Zfo (a b:Int) (h0:0<=a) (h1:a<=1000000000000000) (hb:1<=b) (hb2:b<=1000000000):Ct Tryz.prog 124 [I a,I b] (I (upF a b)):=by
 obtain ⟨q1,q2,q3⟩:=ZuM h0 h1 (Int.le_refl _) hb hb2
 refine t124.1 (by simp [KFL,KF]) (by simp [KFL,KF]) ?_
 dsimp only [c124,r124,go_sem,rA,rM,rS]
 simp only [q1,q2]
 refine Zir (by omega) ?_
 dsimp only [go_sem,rA,rM,rS]
 rw [q3]
def scl (s:Span) (b n:Int):Span:=⟨(s.lo * n).tdiv b,upF (s.hi * n) b⟩
theorem Zfr (s:Span) (b n A:Int) (c:Bool) (h1:0<=s.lo) (h2:s.lo<=s.hi) (h3:0<=n) (h4:s.hi * n<=100000000000000) (hb:1<=b) (hb2:b<=1000000000) :
 Ct Tryz.prog 128 [.agg (Zd s),I b,.sl c 1 [[I n]]] (.agg (Zd (scl s b n))):=by
 have k1:0<=s.lo * n:=Int.mul_nonneg h1 h3
 have k2:s.lo * n<=s.hi * n:=Int.mul_le_mul_of_nonneg_right h2 h3
 refine t128.1 (by simp [Zd,KFR,KFL,KF]) (by simp [Zd,KFL,KF]) ?_
 dsimp only [c128,r128,Zd,go_sem,rA,rM,rS]
 refine Xp 2 ?_
 dsimp only [Zb,go_sem,rA,rM,rS]
 refine Zv (by decide) ?_
 dsimp only [Zb,go_sem,rA,rM,rS]
 refine ixs 0 [I n] rfl rfl ?_
 dsimp only [Zb,go_sem,rA,rM,rS]
 refine Zw (by decide) ?_
 dsimp only [go_sem,rA,rM,rS]
 rw [Zf (n:=s.lo * n) (by omega) (by omega),Zf (n:=s.hi * n) (by omega) (by omega)]
 refine Zir (by omega) ?_
 dsimp only [go_sem,rA,rM,rS]
 refine call (Zfo _ _ (by omega) (by omega) hb hb2) ?_
 dsimp only [go_sem,rA,rM,rS]
 have:=Wv k1 (Int.le_trans k2 h4) hb
 rw [Zf (n:=(s.lo * n).tdiv b) (by omega) (by omega)]
 rfl
theorem U7 (s:Span) (b n m A:Int) (c:Bool) (h1:0<=s.lo) (h2:s.lo<=s.hi) (h3:0<=n) (h3':0<=m) (h4:s.hi * n<=100000000000000) (h5:s.hi * n * m<=100000000000000) (hb:1<=b) (hb2:b<=1000000000) :
 Ct Tryz.prog 128 [.agg (Zd s),I b,.sl c 1 [[I n],[I m]]] (.agg (Zd ⟨(s.lo * n * m).tdiv b,upF (s.hi * n * m) b⟩)):=by
 have k1:0<=s.lo * n:=Int.mul_nonneg h1 h3
 have k2:s.lo * n<=s.hi * n:=Int.mul_le_mul_of_nonneg_right h2 h3
 have k3:0<=s.lo * n * m:=Int.mul_nonneg k1 h3'
 have k4:s.lo * n * m<=s.hi * n * m:=Int.mul_le_mul_of_nonneg_right k2 h3'
 refine t128.1 (by simp [Zd,KFR,KFL,KF]) (by simp [Zd,KFL,KF]) ?_
 dsimp only [c128,r128,Zd,go_sem,rA,rM,rS]
 refine Xp 3 ?_
 dsimp only [Zb,go_sem,rA,rM,rS]
 refine Zv (by decide) ?_
 dsimp only [Zb,go_sem,rA,rM,rS]
 refine ixs 0 [I n] rfl rfl ?_
 dsimp only [Zb,go_sem,rA,rM,rS]
 refine Zv (by decide) ?_
 dsimp only [Zb,go_sem,rA,rM,rS]
 refine ixs 1 [I m] rfl rfl ?_
 dsimp only [Zb,go_sem,rA,rM,rS]
 refine Zw (by decide) ?_
 dsimp only [go_sem,rA,rM,rS]
 rw [Zf (n:=s.lo * n) (by omega) (by omega),Zf (n:=s.hi * n) (by omega) (by omega),Zf (n:=s.lo * n * m) (by omega) (by omega),Zf (n:=s.hi * n * m) (by omega) (by omega)]
 refine Zir (by omega) ?_
 dsimp only [go_sem,rA,rM,rS]
 refine call (Zfo _ _ (by omega) (by omega) hb hb2) ?_
 dsimp only [go_sem,rA,rM,rS]
 have:=Wv k3 (Int.le_trans k4 h5) hb
 rw [Zf (n:=(s.lo * n * m).tdiv b) (by omega) (by omega)]
def bdS (A:Int) (s:Span):Prop:=0<=s.lo/\s.lo<=A/\0<=s.hi/\s.hi<=A
theorem Up (s t:Span) (c:Bool) (h1:bdS 1000000000000000 s) (h2:bdS 1000000000000000 t):Ct Tryz.prog 127 [.sl c 2 [[I s.lo,I s.hi],[I t.lo,I t.hi]]] (.agg (Zd ⟨s.lo+t.lo,s.hi+t.hi⟩)):=by
 unfold bdS at h1 h2
 refine t127.1 (by simp [KFR,KFL,KF]) (by simp [Zd,KFL,KF]) ?_
 dsimp only [c127,r127,Zd,go_sem,rA,rM,rS]
 refine Xp 3 ?_
 dsimp only [Zb,go_sem,rA,rM,rS]
 refine Zv (by decide) ?_
 dsimp only [Zb,go_sem,rA,rM,rS]
 refine ixs 0 [I s.lo,I s.hi] rfl rfl ?_
 dsimp only [Zb,go_sem,rA,rM,rS]
 refine Zv (by decide) ?_
 dsimp only [Zb,go_sem,rA,rM,rS]
 refine ixs 1 [I t.lo,I t.hi] rfl rfl ?_
 dsimp only [Zb,go_sem,rA,rM,rS]
 refine Zw (by decide) ?_
 dsimp only [go_sem,rA,rM,rS]
 simp only [Int.zero_add]
 rw [Zf (n:=s.lo) (by omega) (by omega),Zf (n:=s.hi) (by omega) (by omega),Zf (n:=s.lo+t.lo) (by omega) (by omega),Zf (n:=s.hi+t.hi) (by omega) (by omega)]
theorem plus3 (s t u:Span) (c:Bool) (h1:bdS 1000000000000000 s) (h2:bdS 1000000000000000 t) (h3:bdS 1000000000000000 u):Ct Tryz.prog 127 [.sl c 2 [[I s.lo,I s.hi],[I t.lo,I t.hi],[I u.lo,I u.hi]]] (.agg (Zd ⟨s.lo+t.lo+u.lo,s.hi+t.hi+u.hi⟩)):=by
 unfold bdS at h1 h2 h3
 refine t127.1 (by simp [KFR,KFL,KF]) (by simp [Zd,KFL,KF]) ?_
 dsimp only [c127,r127,Zd,go_sem,rA,rM,rS]
 refine Xp 4 ?_
 dsimp only [Zb,go_sem,rA,rM,rS]
 refine Zv (by decide) ?_
 dsimp only [Zb,go_sem,rA,rM,rS]
 refine ixs 0 [I s.lo,I s.hi] rfl rfl ?_
 dsimp only [Zb,go_sem,rA,rM,rS]
 refine Zv (by decide) ?_
 dsimp only [Zb,go_sem,rA,rM,rS]
 refine ixs 1 [I t.lo,I t.hi] rfl rfl ?_
 dsimp only [Zb,go_sem,rA,rM,rS]
 refine Zv (by decide) ?_
 dsimp only [Zb,go_sem,rA,rM,rS]
 refine ixs 2 [I u.lo,I u.hi] rfl rfl ?_
 dsimp only [Zb,go_sem,rA,rM,rS]
 refine Zw (by decide) ?_
 dsimp only [go_sem,rA,rM,rS]
 simp only [Int.zero_add]
 rw [Zf (n:=s.lo) (by omega) (by omega),Zf (n:=s.hi) (by omega) (by omega),Zf (n:=s.lo+t.lo) (by omega) (by omega),Zf (n:=s.hi+t.hi) (by omega) (by omega),Zf (n:=s.lo+t.lo+u.lo) (by omega) (by omega),Zf (n:=s.hi+t.hi+u.hi) (by omega) (by omega)]
theorem Zvv (n:Int) (s:Span) (h1:0<=n) (h2:n<=1000000) (h3:bdS 1000000 s):Ct Tryz.prog 159 [I n,.agg (Zd s)] (.agg (Zd ⟨n - s.hi,n - s.lo⟩)):=by
 unfold bdS at h3
 refine t159.1 (by simp [Zd,KFL,KF]) (by simp [Zd,KFL,KF]) ?_
 dsimp only [c159,r159,Zd,go_sem,rA,rM,rS]
 rw [Zf (n:=n - s.hi) (by omega) (by omega),Zf (n:=n - s.lo) (by omega) (by omega)]
theorem breed_bd {b:Breed} (h:Zx b=true):1<=b.full/\b.full<=1000000/\1<=b.fed/\b.fed<=1000000/\0<=b.heal/\b.heal<=1000/\(0<=b.strong.lo/\b.strong.lo<=b.strong.hi/\b.strong.hi<=1000000)/\(0<=b.rest.lo/\b.rest.lo<=b.rest.hi/\b.rest.hi<=100000) /\
 (0<=b.heat.lo/\b.heat.lo<=b.heat.hi/\b.heat.hi<=100000)/\(0<=b.toil.lo/\b.toil.lo<=b.toil.hi/\b.toil.hi<=100000)/\(0<=b.burn.lo/\b.burn.lo<=b.burn.hi/\b.burn.hi<=100000)/\(0<=b.rub.lo/\b.rub.lo<=b.rub.hi/\b.rub.hi<=100000)/\(0<=b.milk.lo/\b.milk.lo<=b.milk.hi/\b.milk.hi<=100000):=by
 simp only [Zx,Z6,inR,Bool.and_eq_true,decide_eq_true_eq] at h;omega
theorem camel_bd {b:Breed} {c:Camel} (hb:Zx b=true) (h:Zu b c=true):(0<=c.water.lo/\c.water.lo<=c.water.hi/\c.water.hi<=b.full)/\(0<=c.fat.lo/\c.fat.lo<=c.fat.hi/\c.fat.hi<=b.fed)/\(0<=c.sore.lo/\c.sore.lo<=c.sore.hi/\c.sore.hi<=1000):=by
 simp only [Zu,Z6,Bool.and_eq_true,decide_eq_true_eq] at h;omega
theorem march_bd {m:March} (h:ZY m=true):0<=m.hours/\m.hours<=24/\0<=m.load/\m.load<=1000000/\(0<=m.heat.lo/\m.heat.lo<=m.heat.hi/\m.heat.hi<=60)/\(0<=m.grass.lo/\m.grass.lo<=m.grass.hi/\m.grass.hi<=1000000)/\(0<=m.drinks.lo/\m.drinks.lo<=m.drinks.hi/\m.drinks.hi<=1000000):=by
 simp only [ZY,Z6,inR,Bool.and_eq_true,decide_eq_true_eq] at h;omega
theorem Zyy (b:Breed) (c:Camel) (hb:Zx b=true) (hc:Zu b c=true):Ct Tryz.prog 123 [.agg (YB b c)] (.agg (Zd (Wy b c))):=by
 obtain ⟨b1,b2,b3,b4,_⟩:=breed_bd hb
 obtain ⟨⟨w1,w2,w3⟩,⟨f1,f2,f3⟩,⟨s1,s2,s3⟩⟩:=camel_bd hb hc
 refine t123.1 (by simp [YB,KFL,KF]) (by simp [Zd,KFL,KF]) ?_
 dsimp only [c123,r123,YB,go_sem,rA,rM,rS]
 refine call (U7 c.water b.full 2 1000 0 true w1 w2 (by omega) (by omega) (by omega) (by omega) b1 (by omega)) ?_
 dsimp only [Zd,go_sem,rA,rM,rS]
 refine call (U7 c.fat b.fed 2 1000 0 true f1 f2 (by omega) (by omega) (by omega) (by omega) b3 (by omega)) ?_
 dsimp only [Zd,go_sem,rA,rM,rS]
 refine call (Zvv 1000 c.sore (by omega) (by omega) ⟨by omega,by omega,by omega,by omega⟩) ?_
 dsimp only [Zd,go_sem,rA,rM,rS]
 refine Xp 4 ?_
 dsimp only [Zb,go_sem,rA,rM,rS]
 refine Zv (by decide) ?_
 dsimp only [Zb,go_sem,rA,rM,rS]
 refine ixa 0 rfl (by decide) ?_
 dsimp only [Zb,go_sem,rA,rM,rS]
 refine Zv (by decide) ?_
 dsimp only [Zb,go_sem,rA,rM,rS]
 refine ixa 1 rfl (by decide) ?_
 dsimp only [Zb,go_sem,rA,rM,rS]
 refine Zv (by decide) ?_
 dsimp only [Zb,go_sem,rA,rM,rS]
 refine ixa 2 rfl (by decide) ?_
 dsimp only [Zb,go_sem,rA,rM,rS]
 refine Zw (by decide) ?_
 dsimp only [go_sem,rA,rM,rS]
 have e1:c.water.lo * 2 * 1000=2000 * c.water.lo:=by omega
 have e2:c.water.hi * 2 * 1000=2000 * c.water.hi:=by omega
 have e3:c.fat.lo * 2 * 1000=2000 * c.fat.lo:=by omega
 have e4:c.fat.hi * 2 * 1000=2000 * c.fat.hi:=by omega
 simp only [e1,e2,e3,e4,Wy,Int.min_assoc]
theorem fit_bd {b:Breed} {c:Camel} (hb:Zx b=true) (hc:Zu b c=true):0<=(Wy b c).lo/\(Wy b c).lo<=1000/\0<=(Wy b c).hi/\(Wy b c).hi<=1000:=by
 obtain ⟨b1,b2,b3,b4,_⟩:=breed_bd hb
 obtain ⟨⟨w1,w2,w3⟩,⟨f1,f2,f3⟩,⟨s1,s2,s3⟩⟩:=camel_bd hb hc
 have d1:=Wv (a:=2000 * c.water.lo) (A:=2000000000) (d:=b.full) (by omega) (by omega) b1
 have d2:=Wv (a:=2000 * c.fat.lo) (A:=2000000000) (d:=b.fed) (by omega) (by omega) b3
 have d3:=ZfL (a:=2000 * c.water.hi) (A:=2000000000) (d:=b.full) (by omega) (by omega) b1
 have d4:=ZfL (a:=2000 * c.fat.hi) (A:=2000000000) (d:=b.fed) (by omega) (by omega) b3
 simp only [Wy];omega
theorem Zzb (b:Breed) (c:Camel) (hb:Zx b=true) (hc:Zu b c=true):Ct Tryz.prog 81 [.agg (YB b c)] (.agg (Zd (Zmy b c))):=by
 obtain ⟨b1,b2,b3,b4,_,_,⟨g1,g2,g3⟩,_⟩:=breed_bd hb
 obtain ⟨q1,q2,q3,q4⟩:=fit_bd hb hc
 have k1:=Xg (a:=b.strong.lo) (A:=1000000) (b:=(Wy b c).lo) (B:=1000) (by omega) (by omega) q1 q2
 have k2:=Xg (a:=b.strong.hi) (A:=1000000) (b:=(Wy b c).hi) (B:=1000) (by omega) (by omega) q3 q4
 refine t81.1 (by simp [YB,KFL,KF]) (by simp [Zd,KFL,KF]) ?_
 dsimp only [c81,r81,YB,go_sem,rA,rM,rS]
 refine call (Zyy b c hb hc) ?_
 dsimp only [Zd,go_sem,rA,rM,rS]
 rw [Zf (n:=b.strong.lo * (Wy b c).lo) (by omega) (by omega)]
 refine Zir (by omega) ?_
 dsimp only [go_sem,rA,rM,rS]
 rw [Zf (n:=b.strong.hi * (Wy b c).hi) (by omega) (by omega)]
 refine call (Zfo _ _ (by omega) (by omega) (by omega) (by omega)) ?_
 dsimp only [go_sem,rA,rM,rS]
 have d1:=Wv (a:=b.strong.lo * (Wy b c).lo) (d:=1000) k1.1 k1.2 (by omega)
 rw [Zf (n:=(b.strong.lo * (Wy b c).lo).tdiv 1000) (by omega) (by omega)]
 rfl
def sres (b:Breed) (c:Camel) (s:Span):SV:=.tup [.agg (Zd (if Zcn b c=0 then s else ZaF)),I (Zcn b c)]
theorem errC_0 {b:Breed} {c:Camel}:Zcn b c=0↔Zx b=true/\Zu b c=true:=by
 simp only [Zcn];cases Zx b<;>cases Zu b c<;>simp
theorem carries_ok (b:Breed) (c:Camel):Ct Tryz.prog 37 [.agg (breedL b),.agg (camelL c)] (sres b c (Zmy b c)):=by
 refine t37.1 (by simp [breedL,camelL,KFL,KF]) (by simp [sres,Zd,KFL,KF]) ?_
 dsimp only [c37,r37,breedL,camelL,go_sem,rA,rM,rS]
 refine call (checkCamel_ok b c) ?_
 dsimp only [go_sem,rA,rM,rS]
 by_cases h:Zcn b c=0
 case neg =>
  refine Zv (by simpa using h) ?_
  dsimp only [sres,Zd,go_sem,rA,rM,rS]
  rw [if_neg h];rfl
 refine Zw (by simpa using h) ?_
 obtain ⟨hb,hc⟩:=errC_0.1 h
 dsimp only [go_sem,rA,rM,rS]
 refine call (Zzb b c hb hc) ?_
 dsimp only [Zd,sres,go_sem,rA,rM,rS]
 rw [if_pos h,h]
theorem work_bd {m:March} (h:ZY m=true):0<=ZB m/\ZB m<=26400000:=by
 obtain ⟨h1,h2,h3,h4,_⟩:=march_bd h
 have:=Xg (a:=m.hours) (A:=24) (b:=100000+m.load) (B:=1100000) h1 h2 (by omega) (by omega)
 exact this
theorem toil_bd {m:March} {x:Int} (h:ZY m=true) (h0:0<=x) (h1:x<=100000):0<=x * ZB m/\x * ZB m<=2640000000000:=by
 obtain ⟨w1,w2⟩:=work_bd h
 exact Xg h0 h1 w1 w2
theorem heat_bd {x y:Int} (h0:0<=x) (h1:x<=100000) (h2:0<=y) (h3:y<=60):0<=x * max 0 (y - 20)/\x * max 0 (y - 20)<=4000000 :=
 Xg h0 h1 (B:=40) (by omega) (by omega)
theorem Zlf (b:Breed) (k:Bool) (m:March) (hb:Zx b=true) (hm:ZY m=true):Ct Tryz.prog 126 [.agg (breedL b),B k,.agg (marchL m)] (.agg [I (X4 b k m).lo,I (X4 b k m).hi,I (WB b m).lo,I (WB b m).hi]):=by
 obtain ⟨_,_,_,_,_,_,_,⟨r1,r2,r3⟩,⟨a1,a2,a3⟩,⟨t1,t2,t3⟩,⟨u1,u2,u3⟩,_,⟨k1,k2,k3⟩⟩:=breed_bd hb
 obtain ⟨m1,m2,m3,m4,⟨g1,g2,g3⟩,_⟩:=march_bd hm
 have w0:=work_bd hm
 have e1:=heat_bd (x:=b.heat.lo) (y:=m.heat.lo) (by omega) (by omega) (by omega) (by omega)
 have e2:=heat_bd (x:=b.heat.hi) (y:=m.heat.hi) (by omega) (by omega) (by omega) (by omega)
 have f1:=toil_bd (x:=b.toil.lo) hm (by omega) (by omega)
 have f2:=toil_bd (x:=b.toil.hi) hm (by omega) (by omega)
 have f3:=toil_bd (x:=b.burn.lo) hm (by omega) (by omega)
 have f4:=toil_bd (x:=b.burn.hi) hm (by omega) (by omega)
 have d1:=Wv f1.1 f1.2 (d:=100000) (by omega)
 have d2:=ZfL f2.1 f2.2 (d:=100000) (by omega)
 have hw:IntKind.i64.wrap (m.hours * IntKind.i64.wrap (100000+m.load))=ZB m:=by
  rw [Zf (n:=100000+m.load) (by omega) (by omega)]
  unfold ZB at *
  exact Zf (by omega) (by omega)
 refine t126.1 (by simp [breedL,marchL,KFL,KF]) (by simp [KFL,KF]) ?_
 dsimp only [c126,r126,breedL,marchL,go_sem,rA,rM,rS]
 rw [hw,Zf (n:=m.heat.lo - 20) (by omega) (by omega),Zf (n:=m.heat.hi - 20) (by omega) (by omega),Zf (n:=b.heat.lo * max 0 (m.heat.lo - 20)) (by omega) (by omega),Zf (n:=b.heat.hi * max 0 (m.heat.hi - 20)) (by omega) (by omega)]
 refine call (Zfr b.toil 100000 (ZB m) 0 true t1 t2 w0.1 (by omega) (by omega) (by omega)) ?_
 dsimp only [Zd,go_sem,rA,rM,rS]
 refine call (plus3 b.rest ⟨b.heat.lo * max 0 (m.heat.lo - 20),b.heat.hi * max 0 (m.heat.hi - 20)⟩ (scl b.toil 100000 (ZB m)) true ⟨by omega,by omega,by omega,by omega⟩ ⟨e1.1,by simp only;omega,e2.1,by simp only;omega⟩
  ⟨d1.1,by simp only [scl];omega,d2.1,by simp only [scl];omega⟩) ?_
 dsimp only [Zd,go_sem,rA,rM,rS]
 refine br ?_ ?_
 . intro hk
   dsimp only [go_sem,rA,rM,rS]
   refine call (Up ⟨b.rest.lo+b.heat.lo * max 0 (m.heat.lo - 20)+(scl b.toil 100000 (ZB m)).lo,b.rest.hi+b.heat.hi * max 0 (m.heat.hi - 20)+(scl b.toil 100000 (ZB m)).hi⟩ b.milk true
    ⟨by simp only [scl];omega,by simp only [scl];omega,by simp only [scl];omega,by simp only [scl];omega⟩ ⟨by omega,by omega,by omega,by omega⟩) ?_
   dsimp only [Zd,go_sem,rA,rM,rS]
   refine call (Zfr b.burn 100000 (ZB m) 0 true u1 u2 w0.1 (by omega) (by omega) (by omega)) ?_
   dsimp only [Zd,go_sem,rA,rM,rS]
   simp only [X4,WB,hk,scl,if_true]
 . intro hk
   dsimp only [go_sem,rA,rM,rS]
   refine call (Zfr b.burn 100000 (ZB m) 0 true u1 u2 w0.1 (by omega) (by omega) (by omega)) ?_
   dsimp only [Zd,go_sem,rA,rM,rS]
   simp only [X4,WB,hk,scl,Bool.false_eq_true,if_false,Int.add_zero]
end Go.Proofs.YtiigiflofnjilaaGreat.Cm
namespace Go.Azalai
end Go.Azalai
namespace Go.Proofs.YtiigiflofnjilaaGreat.Cm
open Go Go.Sx Go.Azalai
end Go.Proofs.YtiigiflofnjilaaGreat.Cm
namespace Go.Azalai
def Xk:Camel:=⟨⟨0,0⟩,⟨0,0⟩,⟨0,0⟩,false⟩
def ZaC (most:Int) (has cost gets:Span):Span:=⟨min most (max 0 (has.lo - cost.hi)+gets.lo),min most (has.hi - cost.lo+gets.hi)⟩
def U3 (b:Breed) (s:Span) (m:March):Span :=
 if m.hours=0 then ⟨max 0 (s.lo - b.heal),max 0 (s.hi - b.heal)⟩
 else ⟨min 1000 (s.lo+(b.rub.lo * (m.hours * m.load)).tdiv 1000000),min 1000 (s.hi+upF (b.rub.hi * (m.hours * m.load)) 1000000)⟩
def Yl (b:Breed) (c:Camel) (m:March):Camel × Int :=
 let w:=X4 b c.milks m
 let f:=WB b m
 if c.water.hi < w.lo\/c.fat.hi < f.lo then (Xk,2)
 else (⟨ZaC b.full c.water w m.drinks,ZaC b.fed c.fat f m.grass,U3 b c.sore m,c.milks⟩,if c.water.lo ≥ w.hi/\c.fat.lo ≥ f.hi then 0 else 1)
theorem ZdG {b:Breed} {k:Bool} {m:March} (hb:Zx b=true) (hm:ZY m=true):0<=(X4 b k m).lo/\(X4 b k m).lo<=1000000000/\0<=(X4 b k m).hi/\(X4 b k m).hi<=1000000000:=by
 have h:=Go.Proofs.YtiigiflofnjilaaGreat.Cm.breed_bd hb
 have h2:=Go.Proofs.YtiigiflofnjilaaGreat.Cm.march_bd hm
 have q1:=Go.Proofs.YtiigiflofnjilaaGreat.Cm.toil_bd (x:=b.toil.lo) hm (by omega) (by omega)
 have q2:=Go.Proofs.YtiigiflofnjilaaGreat.Cm.toil_bd (x:=b.toil.hi) hm (by omega) (by omega)
 have q3:=Go.Proofs.YtiigiflofnjilaaGreat.Cm.heat_bd (x:=b.heat.lo) (y:=m.heat.lo) (by omega) (by omega) (by omega) (by omega)
 have q4:=Go.Proofs.YtiigiflofnjilaaGreat.Cm.heat_bd (x:=b.heat.hi) (y:=m.heat.hi) (by omega) (by omega) (by omega) (by omega)
 have r1:0<=(b.toil.lo * ZB m).tdiv 100000/\(b.toil.lo * ZB m).tdiv 100000<=26400000:=by
  rw [Int.tdiv_eq_ediv_of_nonneg q1.1];omega
 have r2:0<=upF (b.toil.hi * ZB m) 100000/\upF (b.toil.hi * ZB m) 100000<=26400001:=by
  unfold upF;rw [Int.tdiv_eq_ediv_of_nonneg (by omega)];omega
 simp only [X4]
 cases k<;>simp<;>omega
theorem Zdl {b:Breed} {m:March} (hb:Zx b=true) (hm:ZY m=true):0<=(WB b m).lo/\(WB b m).lo<=1000000000/\0<=(WB b m).hi/\(WB b m).hi<=1000000000:=by
 have h:=Go.Proofs.YtiigiflofnjilaaGreat.Cm.breed_bd hb
 have q1:=Go.Proofs.YtiigiflofnjilaaGreat.Cm.toil_bd (x:=b.burn.lo) hm (by omega) (by omega)
 have q2:=Go.Proofs.YtiigiflofnjilaaGreat.Cm.toil_bd (x:=b.burn.hi) hm (by omega) (by omega)
 have r1:0<=(b.burn.lo * ZB m).tdiv 100000/\(b.burn.lo * ZB m).tdiv 100000<=26400000:=by
  rw [Int.tdiv_eq_ediv_of_nonneg q1.1];omega
 have r2:0<=upF (b.burn.hi * ZB m) 100000/\upF (b.burn.hi * ZB m) 100000<=26400001:=by
  unfold upF;rw [Int.tdiv_eq_ediv_of_nonneg (by omega)];omega
 simp only [WB]
 omega
end Go.Azalai
namespace Go.Proofs.YtiigiflofnjilaaGreat.Cm
open Go Go.Sx Go.Azalai
theorem Zyi (b:Breed) (c:Camel) (m:March) (hb:Zx b=true) (hc:Zu b c=true) (hm:ZY m=true) (hd:(Yl b c m).2≠2) :
 Ct Tryz.prog 84 [.agg (YB b c),.agg (marchL m)] (.tup [.agg (YB b (Yl b c m).1),.v (.int .u8 (Yl b c m).2)]):=by
 have h1:=breed_bd hb
 have h2:=camel_bd hb hc
 have h3:=march_bd hm
 have w1:=ZdG (k:=c.milks) hb hm
 have w2:=Zdl hb hm
 have k0:=Xg (a:=m.hours) (b:=m.load) (A:=24) (B:=1000000) (by omega) (by omega) (by omega) (by omega)
 have k1:=Xg (a:=b.rub.lo) (b:=m.hours * m.load) (A:=100000) (B:=24000000) (by omega) (by omega) (by omega) (by omega)
 have k2:=Xg (a:=b.rub.hi) (b:=m.hours * m.load) (A:=100000) (B:=24000000) (by omega) (by omega) (by omega) (by omega)
 have k3:=Wv k1.1 k1.2 (d:=1000000) (by omega)
 have k4:=ZfL k2.1 k2.2 (d:=1000000) (by omega)
 refine t84.1 (by simp [YB,marchL,KFL,KF]) (by simp [YB,KFL,KF]) ?_
 dsimp only [c84,r84,YB,marchL,go_sem,rA,rM,rS]
 refine call (Zlf b c.milks m hb hm) ?_
 dsimp only [go_sem,rA,rM,rS]
 generalize hW:X4 b c.milks m=W at w1
 generalize hF:WB b m=F at w2
 have hd':W.lo<=c.water.hi/\F.lo<=c.fat.hi:=by
  by_cases h:c.water.hi < W.lo\/c.fat.hi < F.lo
  . exact absurd (by simp only [Yl,hW,hF,if_pos h]) hd
  . omega
 clear hd
 have k5:=Xg (a:=b.rub.hi) (b:=m.hours) (A:=100000) (B:=24) (by omega) (by omega) (by omega) (by omega)
 have k6:b.rub.hi * m.hours * m.load<=100000000000000:=by rw [Int.mul_assoc];omega
 have hd0:¬ (c.water.hi < W.lo\/c.fat.hi < F.lo):=by omega
 by_cases hp:c.water.lo < W.hi<;>by_cases hq:c.fat.lo < F.hi
 . refine Xp 3 ?_
   dsimp only [Zb,go_sem,rA,rM,rS]
   refine Zv (by decide) ?_
   dsimp only [Zb,go_sem,rA,rM,rS]
   repeat (first | (refine ixa 0 rfl (by decide) ?_;dsimp only [Zb,go_sem,rA,rM,rS]) | (refine Zw (by simp;omega) ?_;dsimp only [Zb,go_sem,rA,rM,rS]) | (refine Zv (by simp;omega) ?_;dsimp only [Zb,go_sem,rA,rM,rS]))
   simp (disch:=omega) only [Zf]
   refine call (Up ⟨max 0 (c.water.lo - W.hi),c.water.hi - W.lo⟩ m.drinks _ (by unfold bdS;simp only;omega) (by unfold bdS;omega)) ?_
   dsimp only [Zb,Zd,go_sem,rA,rM,rS]
   repeat (first | (refine ixa 0 rfl (by decide) ?_;dsimp only [Zb,go_sem,rA,rM,rS]) | (refine Zw (by simp;omega) ?_;dsimp only [Zb,go_sem,rA,rM,rS]) | (refine Zv (by simp;omega) ?_;dsimp only [Zb,go_sem,rA,rM,rS]))
   simp (disch:=omega) only [Zf]
   refine Zv (by decide) ?_
   dsimp only [Zb,go_sem,rA,rM,rS]
   repeat (first | (refine ixa 1 rfl (by decide) ?_;dsimp only [Zb,go_sem,rA,rM,rS]) | (refine Zw (by simp;omega) ?_;dsimp only [Zb,go_sem,rA,rM,rS]) | (refine Zv (by simp;omega) ?_;dsimp only [Zb,go_sem,rA,rM,rS]))
   simp (disch:=omega) only [Zf]
   refine call (Up ⟨max 0 (c.fat.lo - F.hi),c.fat.hi - F.lo⟩ m.grass _ (by unfold bdS;simp only;omega) (by unfold bdS;omega)) ?_
   dsimp only [Zb,Zd,go_sem,rA,rM,rS]
   repeat (first | (refine ixa 1 rfl (by decide) ?_;dsimp only [Zb,go_sem,rA,rM,rS]) | (refine Zw (by simp;omega) ?_;dsimp only [Zb,go_sem,rA,rM,rS]) | (refine Zv (by simp;omega) ?_;dsimp only [Zb,go_sem,rA,rM,rS]))
   refine Zw (by decide) ?_
   dsimp only [go_sem,rA,rM,rS]
   have e:(if c.water.lo ≥ W.hi/\c.fat.lo ≥ F.hi then (0:Int) else 1)=1:=if_neg (by omega)
   by_cases hz:m.hours=0
   . refine Zv (by simpa using hz) ?_
     dsimp only [go_sem,rA,rM,rS]
     simp (disch:=omega) only [Zf]
     simp only [Yl,hW,hF,if_neg hd0,ZaC,U3,YB,e,if_pos hz]
   . refine Zw (by simpa using hz) ?_
     dsimp only [go_sem,rA,rM,rS]
     refine call (U7 b.rub 1000000 m.hours m.load 0 _ (by omega) (by omega) (by omega) (by omega) (by omega) k6 (by omega) (by omega)) ?_
     dsimp only [Zd,go_sem,rA,rM,rS]
     simp only [Int.mul_assoc]
     refine call (Up c.sore ⟨(b.rub.lo * (m.hours * m.load)).tdiv 1000000,upF (b.rub.hi * (m.hours * m.load)) 1000000⟩ _ (by unfold bdS;omega) (by unfold bdS;simp only;omega)) ?_
     dsimp only [Zd,go_sem,rA,rM,rS]
     simp only [Yl,hW,hF,if_neg hd0,ZaC,U3,YB,e,if_neg hz]
 . refine Xp 3 ?_
   dsimp only [Zb,go_sem,rA,rM,rS]
   refine Zv (by decide) ?_
   dsimp only [Zb,go_sem,rA,rM,rS]
   repeat (first | (refine ixa 0 rfl (by decide) ?_;dsimp only [Zb,go_sem,rA,rM,rS]) | (refine Zw (by simp;omega) ?_;dsimp only [Zb,go_sem,rA,rM,rS]) | (refine Zv (by simp;omega) ?_;dsimp only [Zb,go_sem,rA,rM,rS]))
   simp (disch:=omega) only [Zf]
   refine call (Up ⟨max 0 (c.water.lo - W.hi),c.water.hi - W.lo⟩ m.drinks _ (by unfold bdS;simp only;omega) (by unfold bdS;omega)) ?_
   dsimp only [Zb,Zd,go_sem,rA,rM,rS]
   repeat (first | (refine ixa 0 rfl (by decide) ?_;dsimp only [Zb,go_sem,rA,rM,rS]) | (refine Zw (by simp;omega) ?_;dsimp only [Zb,go_sem,rA,rM,rS]) | (refine Zv (by simp;omega) ?_;dsimp only [Zb,go_sem,rA,rM,rS]))
   simp (disch:=omega) only [Zf]
   refine Zv (by decide) ?_
   dsimp only [Zb,go_sem,rA,rM,rS]
   repeat (first | (refine ixa 1 rfl (by decide) ?_;dsimp only [Zb,go_sem,rA,rM,rS]) | (refine Zw (by simp;omega) ?_;dsimp only [Zb,go_sem,rA,rM,rS]) | (refine Zv (by simp;omega) ?_;dsimp only [Zb,go_sem,rA,rM,rS]))
   simp (disch:=omega) only [Zf]
   refine call (Up ⟨max 0 (c.fat.lo - F.hi),c.fat.hi - F.lo⟩ m.grass _ (by unfold bdS;simp only;omega) (by unfold bdS;omega)) ?_
   dsimp only [Zb,Zd,go_sem,rA,rM,rS]
   repeat (first | (refine ixa 1 rfl (by decide) ?_;dsimp only [Zb,go_sem,rA,rM,rS]) | (refine Zw (by simp;omega) ?_;dsimp only [Zb,go_sem,rA,rM,rS]) | (refine Zv (by simp;omega) ?_;dsimp only [Zb,go_sem,rA,rM,rS]))
   refine Zw (by decide) ?_
   dsimp only [go_sem,rA,rM,rS]
   have e:(if c.water.lo ≥ W.hi/\c.fat.lo ≥ F.hi then (0:Int) else 1)=1:=if_neg (by omega)
   by_cases hz:m.hours=0
   . refine Zv (by simpa using hz) ?_
     dsimp only [go_sem,rA,rM,rS]
     simp (disch:=omega) only [Zf]
     simp only [Yl,hW,hF,if_neg hd0,ZaC,U3,YB,e,if_pos hz]
   . refine Zw (by simpa using hz) ?_
     dsimp only [go_sem,rA,rM,rS]
     refine call (U7 b.rub 1000000 m.hours m.load 0 _ (by omega) (by omega) (by omega) (by omega) (by omega) k6 (by omega) (by omega)) ?_
     dsimp only [Zd,go_sem,rA,rM,rS]
     simp only [Int.mul_assoc]
     refine call (Up c.sore ⟨(b.rub.lo * (m.hours * m.load)).tdiv 1000000,upF (b.rub.hi * (m.hours * m.load)) 1000000⟩ _ (by unfold bdS;omega) (by unfold bdS;simp only;omega)) ?_
     dsimp only [Zd,go_sem,rA,rM,rS]
     simp only [Yl,hW,hF,if_neg hd0,ZaC,U3,YB,e,if_neg hz]
 . refine Xp 3 ?_
   dsimp only [Zb,go_sem,rA,rM,rS]
   refine Zv (by decide) ?_
   dsimp only [Zb,go_sem,rA,rM,rS]
   repeat (first | (refine ixa 0 rfl (by decide) ?_;dsimp only [Zb,go_sem,rA,rM,rS]) | (refine Zw (by simp;omega) ?_;dsimp only [Zb,go_sem,rA,rM,rS]) | (refine Zv (by simp;omega) ?_;dsimp only [Zb,go_sem,rA,rM,rS]))
   simp (disch:=omega) only [Zf]
   refine call (Up ⟨max 0 (c.water.lo - W.hi),c.water.hi - W.lo⟩ m.drinks _ (by unfold bdS;simp only;omega) (by unfold bdS;omega)) ?_
   dsimp only [Zb,Zd,go_sem,rA,rM,rS]
   repeat (first | (refine ixa 0 rfl (by decide) ?_;dsimp only [Zb,go_sem,rA,rM,rS]) | (refine Zw (by simp;omega) ?_;dsimp only [Zb,go_sem,rA,rM,rS]) | (refine Zv (by simp;omega) ?_;dsimp only [Zb,go_sem,rA,rM,rS]))
   simp (disch:=omega) only [Zf]
   refine Zv (by decide) ?_
   dsimp only [Zb,go_sem,rA,rM,rS]
   repeat (first | (refine ixa 1 rfl (by decide) ?_;dsimp only [Zb,go_sem,rA,rM,rS]) | (refine Zw (by simp;omega) ?_;dsimp only [Zb,go_sem,rA,rM,rS]) | (refine Zv (by simp;omega) ?_;dsimp only [Zb,go_sem,rA,rM,rS]))
   simp (disch:=omega) only [Zf]
   refine call (Up ⟨max 0 (c.fat.lo - F.hi),c.fat.hi - F.lo⟩ m.grass _ (by unfold bdS;simp only;omega) (by unfold bdS;omega)) ?_
   dsimp only [Zb,Zd,go_sem,rA,rM,rS]
   repeat (first | (refine ixa 1 rfl (by decide) ?_;dsimp only [Zb,go_sem,rA,rM,rS]) | (refine Zw (by simp;omega) ?_;dsimp only [Zb,go_sem,rA,rM,rS]) | (refine Zv (by simp;omega) ?_;dsimp only [Zb,go_sem,rA,rM,rS]))
   refine Zw (by decide) ?_
   dsimp only [go_sem,rA,rM,rS]
   have e:(if c.water.lo ≥ W.hi/\c.fat.lo ≥ F.hi then (0:Int) else 1)=1:=if_neg (by omega)
   by_cases hz:m.hours=0
   . refine Zv (by simpa using hz) ?_
     dsimp only [go_sem,rA,rM,rS]
     simp (disch:=omega) only [Zf]
     simp only [Yl,hW,hF,if_neg hd0,ZaC,U3,YB,e,if_pos hz]
   . refine Zw (by simpa using hz) ?_
     dsimp only [go_sem,rA,rM,rS]
     refine call (U7 b.rub 1000000 m.hours m.load 0 _ (by omega) (by omega) (by omega) (by omega) (by omega) k6 (by omega) (by omega)) ?_
     dsimp only [Zd,go_sem,rA,rM,rS]
     simp only [Int.mul_assoc]
     refine call (Up c.sore ⟨(b.rub.lo * (m.hours * m.load)).tdiv 1000000,upF (b.rub.hi * (m.hours * m.load)) 1000000⟩ _ (by unfold bdS;omega) (by unfold bdS;simp only;omega)) ?_
     dsimp only [Zd,go_sem,rA,rM,rS]
     simp only [Yl,hW,hF,if_neg hd0,ZaC,U3,YB,e,if_neg hz]
 . refine Xp 3 ?_
   dsimp only [Zb,go_sem,rA,rM,rS]
   refine Zv (by decide) ?_
   dsimp only [Zb,go_sem,rA,rM,rS]
   repeat (first | (refine ixa 0 rfl (by decide) ?_;dsimp only [Zb,go_sem,rA,rM,rS]) | (refine Zw (by simp;omega) ?_;dsimp only [Zb,go_sem,rA,rM,rS]) | (refine Zv (by simp;omega) ?_;dsimp only [Zb,go_sem,rA,rM,rS]))
   simp (disch:=omega) only [Zf]
   refine call (Up ⟨max 0 (c.water.lo - W.hi),c.water.hi - W.lo⟩ m.drinks _ (by unfold bdS;simp only;omega) (by unfold bdS;omega)) ?_
   dsimp only [Zb,Zd,go_sem,rA,rM,rS]
   repeat (first | (refine ixa 0 rfl (by decide) ?_;dsimp only [Zb,go_sem,rA,rM,rS]) | (refine Zw (by simp;omega) ?_;dsimp only [Zb,go_sem,rA,rM,rS]) | (refine Zv (by simp;omega) ?_;dsimp only [Zb,go_sem,rA,rM,rS]))
   simp (disch:=omega) only [Zf]
   refine Zv (by decide) ?_
   dsimp only [Zb,go_sem,rA,rM,rS]
   repeat (first | (refine ixa 1 rfl (by decide) ?_;dsimp only [Zb,go_sem,rA,rM,rS]) | (refine Zw (by simp;omega) ?_;dsimp only [Zb,go_sem,rA,rM,rS]) | (refine Zv (by simp;omega) ?_;dsimp only [Zb,go_sem,rA,rM,rS]))
   simp (disch:=omega) only [Zf]
   refine call (Up ⟨max 0 (c.fat.lo - F.hi),c.fat.hi - F.lo⟩ m.grass _ (by unfold bdS;simp only;omega) (by unfold bdS;omega)) ?_
   dsimp only [Zb,Zd,go_sem,rA,rM,rS]
   repeat (first | (refine ixa 1 rfl (by decide) ?_;dsimp only [Zb,go_sem,rA,rM,rS]) | (refine Zw (by simp;omega) ?_;dsimp only [Zb,go_sem,rA,rM,rS]) | (refine Zv (by simp;omega) ?_;dsimp only [Zb,go_sem,rA,rM,rS]))
   refine Zw (by decide) ?_
   dsimp only [go_sem,rA,rM,rS]
   have e:(if c.water.lo ≥ W.hi/\c.fat.lo ≥ F.hi then (0:Int) else 1)=0:=if_pos (by omega)
   by_cases hz:m.hours=0
   . refine Zv (by simpa using hz) ?_
     dsimp only [go_sem,rA,rM,rS]
     simp (disch:=omega) only [Zf]
     simp only [Yl,hW,hF,if_neg hd0,ZaC,U3,YB,e,if_pos hz]
   . refine Zw (by simpa using hz) ?_
     dsimp only [go_sem,rA,rM,rS]
     refine call (U7 b.rub 1000000 m.hours m.load 0 _ (by omega) (by omega) (by omega) (by omega) (by omega) k6 (by omega) (by omega)) ?_
     dsimp only [Zd,go_sem,rA,rM,rS]
     simp only [Int.mul_assoc]
     refine call (Up c.sore ⟨(b.rub.lo * (m.hours * m.load)).tdiv 1000000,upF (b.rub.hi * (m.hours * m.load)) 1000000⟩ _ (by unfold bdS;omega) (by unfold bdS;simp only;omega)) ?_
     dsimp only [Zd,go_sem,rA,rM,rS]
     simp only [Yl,hW,hF,if_neg hd0,ZaC,U3,YB,e,if_neg hz]
end Go.Proofs.YtiigiflofnjilaaGreat.Cm
namespace Go.Azalai
theorem Zfk {x y d:Int} (hd:1<=d) (h0:0<=x) (h:x<=y):x.tdiv d<=upF y d:=by
 unfold upF
 rw [Int.tdiv_eq_ediv_of_nonneg h0,Int.tdiv_eq_ediv_of_nonneg (by omega)]
 exact Int.ediv_le_ediv (by omega) (by omega)
theorem ZqJ {b:Breed} {k:Bool} {m:March} (hb:Zx b=true) (hm:ZY m=true):(X4 b k m).lo<=(X4 b k m).hi:=by
 have h:=Go.Proofs.YtiigiflofnjilaaGreat.Cm.breed_bd hb
 have h2:=Go.Proofs.YtiigiflofnjilaaGreat.Cm.march_bd hm
 have hw:=Go.Proofs.YtiigiflofnjilaaGreat.Cm.work_bd hm
 have q1:(b.toil.lo * ZB m).tdiv 100000<=upF (b.toil.hi * ZB m) 100000:=Zfk (by omega) (Int.mul_nonneg (by omega) hw.1) (Int.mul_le_mul_of_nonneg_right (by omega) hw.1)
 have q2:b.heat.lo * max 0 (m.heat.lo - 20)<=b.heat.hi * max 0 (m.heat.hi - 20):=Int.mul_le_mul (by omega) (by omega) (by omega) (by omega)
 simp only [X4]
 cases k<;>simp<;>omega
theorem Zrg {b:Breed} {m:March} (hb:Zx b=true) (hm:ZY m=true):(WB b m).lo<=(WB b m).hi:=by
 have h:=Go.Proofs.YtiigiflofnjilaaGreat.Cm.breed_bd hb
 have hw:=Go.Proofs.YtiigiflofnjilaaGreat.Cm.work_bd hm
 exact Zfk (by omega) (Int.mul_nonneg (by omega) hw.1) (Int.mul_le_mul_of_nonneg_right (by omega) hw.1)
theorem after_ok {b:Breed} {c:Camel} {m:March} (hb:Zx b=true) (hc:Zu b c=true) (hm:ZY m=true) (hd:(Yl b c m).2≠2):Zu b (Yl b c m).1=true:=by
 have h1:=Go.Proofs.YtiigiflofnjilaaGreat.Cm.breed_bd hb
 have h2:=Go.Proofs.YtiigiflofnjilaaGreat.Cm.camel_bd hb hc
 have h3:=Go.Proofs.YtiigiflofnjilaaGreat.Cm.march_bd hm
 have w1:=ZdG (k:=c.milks) hb hm
 have w2:=Zdl hb hm
 have hlo:(X4 b c.milks m).lo<=(X4 b c.milks m).hi:=ZqJ hb hm
 have hlf:(WB b m).lo<=(WB b m).hi:=Zrg hb hm
 have hr:(b.rub.lo * (m.hours * m.load)).tdiv 1000000<=upF (b.rub.hi * (m.hours * m.load)) 1000000 :=
  Zfk (by omega) (Int.mul_nonneg (by omega) (Int.mul_nonneg (by omega) (by omega))) (Int.mul_le_mul_of_nonneg_right (by omega) (Int.mul_nonneg (by omega) (by omega)))
 have hr0:0<=(b.rub.lo * (m.hours * m.load)).tdiv 1000000 :=
  Int.tdiv_nonneg (Int.mul_nonneg (by omega) (Int.mul_nonneg (by omega) (by omega))) (by omega)
 unfold Yl at hd ⊢
 simp only at hd ⊢
 split at hd
 . exact absurd rfl hd
 . rename_i h
   rw [if_neg h]
   simp only [Zu,Z6,ZaC,U3,Bool.and_eq_true,decide_eq_true_eq]
   by_cases hz:m.hours=0
   . simp only [if_pos hz,Bool.and_eq_true,decide_eq_true_eq]
     refine ⟨⟨decide_eq_true ⟨by omega,by omega,by omega⟩,decide_eq_true ⟨by omega,by omega,by omega⟩⟩,by omega,by omega,by omega⟩
   . simp only [if_neg hz,Bool.and_eq_true,decide_eq_true_eq]
     refine ⟨⟨decide_eq_true ⟨by omega,by omega,by omega⟩,decide_eq_true ⟨by omega,by omega,by omega⟩⟩,by omega,by omega,by omega⟩
end Go.Azalai
namespace Go.Proofs.YtiigiflofnjilaaGreat.Cm
open Go Go.Sx Go.Azalai
end Go.Proofs.YtiigiflofnjilaaGreat.Cm
namespace Go.Azalai
end Go.Azalai
namespace Go.Proofs.YtiigiflofnjilaaGreat.Cm
open Go Go.Sx Go.Azalai
theorem Zm0 (b:Breed) (c:Camel) (m:March) (hb:Zx b=true) (hc:Zu b c=true) (hm:ZY m=true) (hd:(Yl b c m).2=2) :
 Ct Tryz.prog 84 [.agg (YB b c),.agg (marchL m)] (.tup [.agg (YB ⟨0,0,⟨0,0⟩,⟨0,0⟩,⟨0,0⟩,⟨0,0⟩,⟨0,0⟩,⟨0,0⟩,0,⟨0,0⟩⟩ Xk),.v (.int .u8 2)]):=by
 have h1:=breed_bd hb
 have h2:=camel_bd hb hc
 have h3:=march_bd hm
 have w1:=ZdG (k:=c.milks) hb hm
 have w2:=Zdl hb hm
 refine t84.1 (by simp [YB,marchL,KFL,KF]) (by simp [YB,Xk,KFL,KF]) ?_
 dsimp only [c84,r84,YB,marchL,go_sem,rA,rM,rS]
 refine call (Zlf b c.milks m hb hm) ?_
 dsimp only [go_sem,rA,rM,rS]
 generalize hW:X4 b c.milks m=W at w1
 generalize hF:WB b m=F at w2
 have hd':c.water.hi < W.lo\/c.fat.hi < F.lo:=by
  by_cases h:c.water.hi < W.lo\/c.fat.hi < F.lo
  . exact h
  . simp only [Yl,hW,hF,if_neg h] at hd
    split at hd<;>cases hd
 by_cases hw:c.water.hi < W.lo
 . refine Xp 3 ?_
   dsimp only [Zb,go_sem,rA,rM,rS]
   refine Zv (by decide) ?_
   dsimp only [Zb,go_sem,rA,rM,rS]
   repeat (first | (refine ixa 0 rfl (by decide) ?_;dsimp only [Zb,go_sem,rA,rM,rS]) | (refine Zv (by simp;omega) ?_;dsimp only [Zb,Xk,go_sem,rA,rM,rS]))
 . have hf:c.fat.hi < F.lo:=by omega
   by_cases hp:c.water.lo < W.hi
   . refine Xp 3 ?_
     dsimp only [Zb,go_sem,rA,rM,rS]
     refine Zv (by decide) ?_
     dsimp only [Zb,go_sem,rA,rM,rS]
     repeat (first | (refine ixa 0 rfl (by decide) ?_;dsimp only [Zb,go_sem,rA,rM,rS]) | (refine Zw (by simp;omega) ?_;dsimp only [Zb,go_sem,rA,rM,rS]) | (refine Zv (by simp;omega) ?_;dsimp only [Zb,go_sem,rA,rM,rS]))
     simp (disch:=omega) only [Zf]
     refine call (Up ⟨max 0 (c.water.lo - W.hi),c.water.hi - W.lo⟩ m.drinks _ (by unfold bdS;simp only;omega) (by unfold bdS;omega)) ?_
     dsimp only [Zb,Zd,go_sem,rA,rM,rS]
     repeat (first | (refine ixa 0 rfl (by decide) ?_;dsimp only [Zb,go_sem,rA,rM,rS]) | (refine Zw (by simp;omega) ?_;dsimp only [Zb,go_sem,rA,rM,rS]) | (refine Zv (by simp;omega) ?_;dsimp only [Zb,go_sem,rA,rM,rS]))
     simp (disch:=omega) only [Zf]
     refine Zv (by decide) ?_
     dsimp only [Zb,go_sem,rA,rM,rS]
     repeat (first | (refine ixa 1 rfl (by decide) ?_;dsimp only [Zb,go_sem,rA,rM,rS]) | (refine Zv (by simp;omega) ?_;dsimp only [Zb,Xk,go_sem,rA,rM,rS]))
   . refine Xp 3 ?_
     dsimp only [Zb,go_sem,rA,rM,rS]
     refine Zv (by decide) ?_
     dsimp only [Zb,go_sem,rA,rM,rS]
     repeat (first | (refine ixa 0 rfl (by decide) ?_;dsimp only [Zb,go_sem,rA,rM,rS]) | (refine Zw (by simp;omega) ?_;dsimp only [Zb,go_sem,rA,rM,rS]) | (refine Zv (by simp;omega) ?_;dsimp only [Zb,go_sem,rA,rM,rS]))
     simp (disch:=omega) only [Zf]
     refine call (Up ⟨max 0 (c.water.lo - W.hi),c.water.hi - W.lo⟩ m.drinks _ (by unfold bdS;simp only;omega) (by unfold bdS;omega)) ?_
     dsimp only [Zb,Zd,go_sem,rA,rM,rS]
     repeat (first | (refine ixa 0 rfl (by decide) ?_;dsimp only [Zb,go_sem,rA,rM,rS]) | (refine Zw (by simp;omega) ?_;dsimp only [Zb,go_sem,rA,rM,rS]) | (refine Zv (by simp;omega) ?_;dsimp only [Zb,go_sem,rA,rM,rS]))
     simp (disch:=omega) only [Zf]
     refine Zv (by decide) ?_
     dsimp only [Zb,go_sem,rA,rM,rS]
     repeat (first | (refine ixa 1 rfl (by decide) ?_;dsimp only [Zb,go_sem,rA,rM,rS]) | (refine Zv (by simp;omega) ?_;dsimp only [Zb,Xk,go_sem,rA,rM,rS]))
end Go.Proofs.YtiigiflofnjilaaGreat.Cm
namespace Go.Proofs.YtiigiflofnjilaaGreat
open Go Go.Sx Go.Azalai
theorem ZnZ (l:Land) (hs:Vl l):Ct Tryz.prog 136 [.agg (Yo l)] (B (ZM l)):=by
 have hw1:IntKind.i64.wrap ((l.wells.length:Int) - 1)=(l.wells.length:Int) - 1:=Zf (by omega) (by have:=hs.1;omega)
 refine t136.1 (by simp [Yo,Zg,Zm,Zh,Za,KFL,KF]) (by simp [KFL,KF]) ?_
 dsimp only [c136,r136,Yo,go_sem,rA,rM,rS]
 refine call (X8 _ _ _) ?_
 dsimp only [go_sem,rA,rM,rS]
 repeat (refine gb ?_;dsimp only [go_sem,rA,rM,rS])
 simp only [List.length_map]
 refine br ?_ ?_
 . intro h
   dsimp only [go_sem,rA,rM,rS]
   have:ZM l=false:=by simp only [ZM];grind
   rw [this]
 intro h
 dsimp only [go_sem,rA,rM,rS]
 have ho1:ZM l=(l.wells.all YM && l.legs.all (WL l.wells.length)):=by simp only [ZM];grind
 refine Xt (fun k:Nat=>[(3,I k)]) (fun _=>[]) (fun k=>k<=l.wells.length/\(l.wells.drop k).all YM=l.wells.all YM) (fun k=>l.wells.length - k) 0 ⟨Nat.zero_le _,rfl⟩ ?_ ?_
 . (refine Zl ?_ ?_ ?_ rfl rfl<;>dsimp only [Zh,Zg,Zm,id,go_sem,rA,rM,rS]<;>simp [Zh,Zg,Zm,Za,Ze,KFR,KFL,KF,Zc,mtO,nbr])
 intro k ⟨hk,hi⟩
 dsimp only [go_sem,rA,rM,rS]
 by_cases hlt:k < l.wells.length
 . refine Zv (by simpa using hlt) ?_
   dsimp only [go_sem,rA,rM,rS]
   refine Zp k hlt rfl ?_
   dsimp only [Zg,go_sem,rA,rM,rS]
   repeat (first | (refine gb ?_;dsimp only [go_sem,rA,rM,rS]) | (refine call (X8 _ _ _) ?_;dsimp only [go_sem,rA,rM,rS]) | (refine call (ZR l.wells[k].yld _ _) ?_;dsimp only [go_sem,rA,rM,rS]) | (refine call (ZR l.wells[k].has _ _) ?_;dsimp only [go_sem,rA,rM,rS]))
   rw [List.drop_eq_getElem_cons hlt,List.all_cons] at hi
   refine br ?_ ?_
   . intro hb
     dsimp only [go_sem,rA,rM,rS]
     have:YM l.wells[k]=false:=by simp only [YM];grind
     rw [ho1,<- hi,this];rfl
   . intro hb
     dsimp only [go_sem,rA,rM,rS]
     rw [Zf (n:=(k:Int)+1) (by omega) (by have:=hs.1;omega)]
     have:YM l.wells[k]=true:=by simp only [YM];grind
     rw [this,Bool.true_and] at hi
     refine ⟨k+1,⟨hlt,hi⟩,by omega,?_⟩
     (refine Zl ?_ ?_ ?_ rfl rfl<;>dsimp only [Zh,Zg,Zm,id,go_sem,rA,rM,rS]<;>simp [Zh,Zg,Zm,Za,Ze,KFR,KFL,KF,Zc,mtO,nbr])
 refine Zw (by simp;omega) ?_
 dsimp only [go_sem,rA,rM,rS]
 have hke:k=l.wells.length:=by omega
 subst hke
 rw [List.drop_length] at hi
 rw [<- hi] at ho1
 rw [show ZM l=l.legs.all (WL l.wells.length) from by rw [ho1];simp]
 refine Xt (fun k:Nat=>[(5,I k)]) (fun _=>[]) (fun k=>k<=l.legs.length/\(l.legs.drop k).all (WL l.wells.length)=l.legs.all (WL l.wells.length)) (fun k=>l.legs.length - k) 0 ⟨Nat.zero_le _,rfl⟩ ?_ ?_
 . (refine Zl ?_ ?_ ?_ rfl rfl<;>dsimp only [Zh,Zg,Zm,id,go_sem,rA,rM,rS]<;>simp [Zh,Zg,Zm,Za,Ze,KFR,KFL,KF,Zc,mtO,nbr])
 intro k ⟨hk,hi⟩
 dsimp only [go_sem,rA,rM,rS]
 by_cases hlt:k < l.legs.length
 . refine Zv (by simpa using hlt) ?_
   dsimp only [go_sem,rA,rM,rS]
   refine Zp k hlt rfl ?_
   dsimp only [Zm,go_sem,rA,rM,rS]
   simp only [List.length_map,hw1]
   repeat (first | (refine gb ?_;dsimp only [go_sem,rA,rM,rS]) | (refine call (X8 _ _ _) ?_;dsimp only [go_sem,rA,rM,rS]) | (refine call (ZR l.legs[k].long _ _) ?_;dsimp only [go_sem,rA,rM,rS]))
   rw [List.drop_eq_getElem_cons hlt,List.all_cons] at hi
   simp only [List.length_map]
   have hgl:=hs.2.2 l.legs[k] (List.getElem_mem _)
   generalize l.legs[k]=x at *
   refine br ?_ ?_
   . intro hb
     dsimp only [go_sem,rA,rM,rS]
     have:WL l.wells.length x=false:=by simp only [WL];grind
     rw [<- hi,this];rfl
   . intro hb
     dsimp only [go_sem,rA,rM,rS]
     have hx:WL l.wells.length x=YJ 0 x.gates:=by simp only [WL];grind
     refine Xt (fun s:Nat × Int=>[(8,I s.1),(7,I s.2)]) (fun _=>[]) (fun s=>s.1<=x.gates.length/\YJ (s.2+1) (x.gates.drop s.1)=YJ 0 x.gates) (fun s=>x.gates.length - s.1) (0,-1) ⟨Nat.zero_le _,rfl⟩ ?_ ?_
     . (refine Zl ?_ ?_ ?_ rfl rfl<;>dsimp only [Zh,Zg,Zm,id,go_sem,rA,rM,rS]<;>simp [Zh,Zg,Zm,Za,Ze,KFR,KFL,KF,Zc,mtO,nbr])
     rintro ⟨j,last⟩ ⟨hj,hji⟩
     simp only at hj hji
     dsimp only [go_sem,rA,rM,rS]
     by_cases hlt2:j < x.gates.length
     . refine Zv (by simpa using hlt2) ?_
       dsimp only [go_sem,rA,rM,rS]
       refine Zp j hlt2 rfl ?_
       dsimp only [Zh,go_sem,rA,rM,rS]
       repeat (first | (refine gb ?_;dsimp only [go_sem,rA,rM,rS]) | (refine call (ZR x.gates[j].opens _ _) ?_;dsimp only [go_sem,rA,rM,rS]) | (refine call (ZR x.gates[j].shuts _ _) ?_;dsimp only [go_sem,rA,rM,rS]))
       rw [List.drop_eq_getElem_cons hlt2] at hji
       simp only [YJ] at hji
       refine br ?_ ?_
       . intro hb2
         dsimp only [go_sem,rA,rM,rS]
         have:WL l.wells.length x=false:=by rw [hx,<- hji];simp only [inR];grind
         rw [<- hi,this];rfl
       . intro hb2
         dsimp only [go_sem,rA,rM,rS]
         rw [Zf (n:=(j:Int)+1) (by omega) (by omega)]
         refine ⟨(j+1,x.gates[j].shuts.hi),⟨hlt2,?_⟩,by simp only;omega,?_⟩
         . simp only;rw [<- hji];simp only [inR];grind
         . (refine Zl ?_ ?_ ?_ rfl rfl<;>dsimp only [Zh,Zg,Zm,id,go_sem,rA,rM,rS]<;>simp [Zh,Zg,Zm,Za,Ze,KFR,KFL,KF,Zc,mtO,nbr])
     . refine Zw (by simp;omega) ?_
       dsimp only [go_sem,rA,rM,rS]
       rw [Zf (n:=(k:Int)+1) (by omega) (by have:=hs.2.1;omega)]
       have hje:j=x.gates.length:=by omega
       subst hje
       rw [List.drop_length] at hji
       simp only [YJ] at hji
       rw [hx,<- hji,Bool.true_and] at hi
       refine ⟨k+1,⟨hlt,hi⟩,by omega,?_⟩
       (refine Zl ?_ ?_ ?_ rfl rfl<;>dsimp only [Zh,Zg,Zm,id,go_sem,rA,rM,rS]<;>simp [Zh,Zg,Zm,Za,Ze,KFR,KFL,KF,Zc,mtO,nbr])
 refine Zw (by simp;omega) ?_
 dsimp only [go_sem,rA,rM,rS]
 have hke:k=l.legs.length:=by omega
 subst hke
 rw [List.drop_length] at hi
 rw [<- hi];rfl
theorem Zq9 (l:Land):Ct Tryz.prog 46 [.agg (Yo l)] (B (Zcb l)):=by
 refine t46.1 (by simp [Yo,Zg,Zm,Zh,Za,KFL,KF]) (by simp [KFL,KF]) ?_
 dsimp only [c46,r46,Yo,go_sem,rA,rM,rS]
 repeat (refine gb ?_;dsimp only [go_sem,rA,rM,rS])
 simp only [List.length_map]
 refine br ?_ ?_
 . intro h
   dsimp only [go_sem,rA,rM,rS]
   (simp only [Zcb,Option.some.injEq,SV.v.injEq,Value.bool.injEq]<;>grind)
 intro h
 dsimp only [go_sem,rA,rM,rS]
 have hg:Zcb l=l.legs.any fun x=>decide (x.gates.length > 20):=by simp only [Zcb];grind
 have hlen:l.legs.length<=40:=by grind
 rw [hg]
 refine Xt (fun k:Nat=>[(3,I k)]) (fun _=>[]) (fun k=>k<=l.legs.length/\((l.legs.drop k).any fun x=>decide (x.gates.length > 20))=l.legs.any fun x=>decide (x.gates.length > 20)) (fun k=>l.legs.length - k) 0 ⟨Nat.zero_le _,rfl⟩ ?_ ?_
 . (refine Zl ?_ ?_ ?_ rfl rfl<;>dsimp only [Zh,Zg,Zm,id,go_sem,rA,rM,rS]<;>simp [Zh,Zg,Zm,Za,Ze,KFR,KFL,KF,Zc,mtO,nbr])
 intro k ⟨hk,hi⟩
 dsimp only [go_sem,rA,rM,rS]
 by_cases hlt:k < l.legs.length
 . refine Zv (by simpa using hlt) ?_
   dsimp only [go_sem,rA,rM,rS]
   refine Zp k hlt rfl ?_
   dsimp only [Zm,go_sem,rA,rM,rS]
   rw [List.drop_eq_getElem_cons hlt,List.any_cons] at hi
   refine br ?_ ?_
   . intro hb
     dsimp only [go_sem,rA,rM,rS]
     have:decide (l.legs[k].gates.length > 20)=true:=by simp at hb ⊢;omega
     rw [<- hi,this];rfl
   . intro hb
     dsimp only [go_sem,rA,rM,rS]
     rw [Zf (n:=(k:Int)+1) (by omega) (by omega)]
     have:decide (l.legs[k].gates.length > 20)=false:=by simp at hb ⊢;omega
     rw [this,Bool.false_or] at hi
     refine ⟨k+1,⟨hlt,hi⟩,by omega,?_⟩
     (refine Zl ?_ ?_ ?_ rfl rfl<;>dsimp only [Zh,Zg,Zm,id,go_sem,rA,rM,rS]<;>simp [Zh,Zg,Zm,Za,Ze,KFR,KFL,KF,Zc,mtO,nbr])
 refine Zw (by simp;omega) ?_
 dsimp only [go_sem,rA,rM,rS]
 have hke:k=l.legs.length:=by omega
 subst hke
 rw [List.drop_length] at hi
 rw [<- hi];rfl
end Go.Proofs.YtiigiflofnjilaaGreat
namespace Go.Azalai
def ZX (p:Span):Bool:=Z6 1 100000 p
def ZaE (l:Land) (p:Span):Int:=if ZM l=false then 30 else if ZX p=false then 31 else 0
def V2 (x:Leg) (p:Span):Span:=⟨(x.long.lo+p.hi - 1).tdiv p.hi,(x.long.hi+p.lo - 1).tdiv p.lo⟩
def ZaK (n day:Int) (o s:Gate->Int):List Gate->Int
 | []=>100001
 | g :: r=>if max day (o g)+n - 1<=s g then max day (o g) else ZaK n day o s r
def Zco (n day:Int) (o s:Gate->Int) (acc:Int):List Gate->Int
 | []=>acc
 | g :: r=>Zco n day o s (if max day (o g)+n - 1<=s g then min (min acc (max day (o g))) 100001 else acc) r
def ZxQ (x:Leg) (p:Span) (day:Int):Int:=ZaK (V2 x p).lo day (·.opens.lo) (·.shuts.hi) x.gates
def Zu6 (x:Leg) (p:Span) (day:Int):Int:=ZaK (V2 x p).hi day (·.opens.hi) (·.shuts.lo) x.gates
def XL (l:Land) (leg:Int) (p:Span):Span × Int :=
 if ZaE l p≠0 then (⟨0,0⟩,ZaE l p)
 else if inR 0 (l.legs.length - 1) leg=false then (⟨0,0⟩,2)
 else match l.legs[leg.toNat]? with
  | some x=>(V2 x p,0)
  | none=>(⟨0,0⟩,0)
structure GoodLeg (x:Leg):Prop where
 l1:1<=x.long.lo
 l2:x.long.lo<=x.long.hi
 l3:x.long.hi<=1000000
 g1:x.gates.length<=6
 g2:YJ 0 x.gates=true
theorem XW {l:Land} (h:ZM l=true):∀ x ∈ l.legs,GoodLeg x:=by
 simp only [ZM,Bool.and_eq_true,List.all_eq_true] at h
 intro x hx
 have:=h.2 x hx
 simp only [WL,Z6,Bool.and_eq_true,decide_eq_true_eq] at this
 exact ⟨by omega,by omega,by omega,by omega,this.2⟩
theorem YQ:∀ {l:List Gate} {next:Int},YJ next l=true->0<=next->∀ g ∈ l,0<=g.opens.lo/\g.opens.lo<=g.opens.hi/\g.opens.hi<=100000/\0<=g.shuts.lo/\g.shuts.lo<=g.shuts.hi/\g.shuts.hi<=100000/\next<=g.opens.lo
 | [],_,_,_,g,hg=>by simp at hg
 | x :: l,next,h,h0,g,hg=>by
  simp only [YJ,Z6,inR,Bool.and_eq_true,decide_eq_true_eq] at h
  rcases List.mem_cons.1 hg with rfl | hg
  . omega
  . have:=YQ h.2 (by omega) g hg;omega
theorem ZdD {n day:Int} {o s:Gate->Int} (hn:1<=n) (ho:∀ g,(0<=g.opens.lo/\g.opens.lo<=g.opens.hi/\g.opens.hi<=100000/\0<=g.shuts.lo/\g.shuts.lo<=g.shuts.hi/\g.shuts.hi<=100000)->g.opens.lo<=o g/\s g<=g.shuts.hi) :
 ∀ {l:List Gate} {next acc:Int},YJ next l=true->0<=next->acc<=100001->Zco n day o s acc l=min acc (ZaK n day o s l)
 | [],next,acc,_,_,ha=>by simp only [Zco,ZaK];omega
 | x :: l,next,acc,h,h0,ha=>by
  have hm:=YQ h h0 x (by simp)
  simp only [YJ,Z6,inR,Bool.and_eq_true,decide_eq_true_eq] at h
  have h1:=ho x ⟨hm.1,hm.2.1,hm.2.2.1,hm.2.2.2.1,hm.2.2.2.2.1,hm.2.2.2.2.2.1⟩
  have hrest:∀ (l:List Gate),(∀ g ∈ l,x.shuts.hi+1<=o g)->x.shuts.hi+1<=ZaK n day o s l:=fun l=>by
   induction l with
   | nil=>intro _;simp only [ZaK];omega
   | cons g l ih=>intro hg;simp only [ZaK];have:=hg g (by simp);have:=ih (fun g' h'=>hg g' (by simp [h']));split<;>omega
  have hr:=hrest l (fun g hg=>by
   have q:=YQ h.2 (by omega) g hg
   have:=ho g ⟨q.1,q.2.1,q.2.2.1,q.2.2.2.1,q.2.2.2.2.1,q.2.2.2.2.2.1⟩
   omega)
  simp only [Zco,ZaK]
  rw [ZdD hn ho h.2 (by omega) (by split<;>omega)]
  repeat' split
  all_goals first | rfl | omega
theorem day_bd {x:Leg} {p:Span} (h:GoodLeg x) (hp:ZX p=true):1<=(V2 x p).lo/\(V2 x p).lo<=1000000/\1<=(V2 x p).hi/\(V2 x p).hi<=1000000:=by
 simp only [ZX,Z6,decide_eq_true_eq] at hp
 obtain ⟨p1,p2,p3⟩:=hp
 obtain ⟨h1,h2,h3,_,_⟩:=h
 simp only [V2]
 have key:∀ a b:Int,1<=a->a<=1000000->1<=b->1<=(a+b - 1).tdiv b/\(a+b - 1).tdiv b<=1000000:=fun a b ha ha2 hb=>by
  rw [Int.tdiv_eq_ediv_of_nonneg (by omega)]
  constructor
  . exact Int.le_ediv_of_mul_le (by omega) (by omega)
  . refine Int.le_of_lt_add_one (Int.ediv_lt_of_lt_mul (by omega) ?_)
    have:1 * a<=b * a:=Int.mul_le_mul_of_nonneg_right hb (by omega)
    have e:(1000000+1) * b=b * 1000000+b:=by rw [Int.add_mul];omega
    have:b * a<=b * 1000000:=Int.mul_le_mul_of_nonneg_left ha2 (by omega)
    rw [e]
    have:=Int.mul_le_mul_of_nonneg_left ha2 (show (0:Int)<=b - 1 by omega)
    have q:(b - 1) * a=b * a - a:=by rw [Int.sub_mul];omega
    have q2:(b - 1) * 1000000=b * 1000000 - 1000000:=by rw [Int.sub_mul];omega
    omega
 exact ⟨(key _ _ h1 (by omega) (by omega)).1,(key _ _ h1 (by omega) (by omega)).2,(key _ _ (by omega) h3 p1).1,(key _ _ (by omega) h3 p1).2⟩
end Go.Azalai
namespace Go.Proofs.YtiigiflofnjilaaGreat
open Go Go.Sx Go.Azalai
def sres (r:Span × Int):SV:=.tup [.agg (Zd r.1),I r.2]
theorem Zi7 (l:Land) (hs:Vl l):Ct Tryz.prog 93 [.agg (Yo l)] (I (if ZM l=true then 0 else 30)):=by
 refine t93.1 (by simp [Yo,Zg,Zm,Zh,Za,KFL,KF]) (by simp [KFL,KF]) ?_
 dsimp only [c93,r93,Yo,go_sem,rA,rM,rS]
 refine call (ZnZ l hs) ?_
 dsimp only [go_sem,rA,rM,rS]
 refine br ?_ ?_
 . intro h
   dsimp only [go_sem,rA,rM,rS]
   have:ZM l=false:=by simpa using h
   simp [this]
 . intro h
   dsimp only [go_sem,rA,rM,rS]
   have:ZM l=true:=by simpa using h
   simp [this]
theorem Zm8 (p:Span):Ct Tryz.prog 94 [.agg (Zd p)] (B (ZX p)):=by
 refine t94.1 (by simp [Zd,KFL,KF]) (by simp [KFL,KF]) ?_
 dsimp only [c94,r94,Zd,go_sem,rA,rM,rS]
 refine call (ZR p _ _) ?_
 dsimp only [go_sem,rA,rM,rS]
 simp [ZX]
theorem Zt3 {l:Land} {leg:Int} (h:inR 0 (l.legs.length - 1) leg=true):∃ (k:Nat) (hk:k < l.legs.length),leg=(k:Int)/\l.legs[leg.toNat]? = some l.legs[k]:=by
 simp only [inR,decide_eq_true_eq] at h
 refine ⟨leg.toNat,by omega,by omega,?_⟩
 rw [List.getElem?_eq_getElem (by omega)]
theorem ask0 {l:Land} {p:Span} (h:ZaE l p=0):ZM l=true/\ZX p=true:=by
 unfold ZaE at h
 cases h1:ZM l<;>cases h2:ZX p<;>simp_all
end Go.Proofs.YtiigiflofnjilaaGreat
