/- Walks and plain laws that lead to the given statement, part 5 of 7. -/
import Derived.Test.YtkjldleglbbkeaaQD
import Derived.Test.YtkjldleglbbkeaaProg
import Derived.MapKept
import Derived.WideKeyRuns
set_option maxRecDepth 100000
set_option maxHeartbeats 4000000
set_option linter.all false
open Nat renaming reduceAdd->rA,reduceMul->rM,reduceSub->rS,beq_refl->nbr
namespace Go.Sx
def m1 (d t:Nat):Ins:=⟨some d,.mv (.t t),none,[]⟩
def o1 (d:Nat) (i:SI):Ins:=⟨some d,i,none,[]⟩
def sr1 (l:List Ins) (c:SC):SC:=.seq (.reg l) c
def ao (x o:Nat):SI:=.addo (.t x) o
def lt (x m:Nat):SI:=.ld (.t x) m true
def lf (x m:Nat):SI:=.ld (.t x) m false
def cn (n:Int):X:=.c (.int .i64 n)
def g1 (d t:Nat) (b:Bool) (i:SI):Ins:=⟨some d,i,some (t,b),[]⟩
def p1 (d:Nat) (i:SI) (l:List Nat):Ins:=⟨some d,i,none,l⟩
def q1 (d t:Nat) (b:Bool) (i:SI) (l:List Nat):Ins:=⟨some d,i,some (t,b),l⟩
attribute [go_sem] m1 o1 sr1 ao lt lf cn g1 p1 q1
open Go
structure Qt1 (P:Program) (f:FuncId) (c:SC) (r:List RV) (N:Nat):Prop where
 h:∀ {args:List SV} {res:SV},KFL args->KF res->sx P Y0 0 c (st0 args N) (ZuT r res)->(hA:Nat.ble args.length N=true:=by rfl)->Ct P f args res
theorem Xl {P:Program} {f:FuncId} {fn:Func} {c:SC} {r:List RV} {N:Nat} (hf:P.funcs[f]?=some fn) (hd:fn.body.isSome=true) (hb:YQ P f=true) (hc:Xo P c (fn.body.getD .skip)=true) (hr:WD P r fn.results.toList=true) (hN:fn.ntmps=N):Qt1 P f c r N:=⟨fun {args res} ka kr h hA=>by
 cases hq:fn.body with
 | none=>rw [hq] at hd;cases hd
 | some code=>rw [hq] at hc;exact Znq hf hq hb hc hr hN (Nat.le_of_ble_eq_true hA) ka kr h⟩
def zv0:List Value:=[.int .i64 0,.int .i64 0,.int .i64 0,.int .i64 0,.slice none 0 0]
attribute [go_sem] zv0
end Go.Sx
namespace Go.Proofs.Ytkjldleglbbkeaa
open Go Go.Sx
def c3:SC:=(sr1 [
 o1 6 (.box (.t 0) 0 25),
 o1 12 (.mv (.c (.bool false)))]
 (.seq (sr1 [
 o1 25 (lt 6 2),
 o1 26 (.call 16 [.t 25]),
 m1 27 26,
 g1 28 27 false (.mv (.t 2)),
 g1 29 27 false (.len (.t 28)),
 g1 30 27 false (.bin .gtr (.t 29) (cn 250)),
 o1 31 (.pick (.t 27) (.c (.bool true)) (.t 30))]
 (.cond (.t 31)
 (sr1 [
  o1 12 (.mv (.c (.bool true)))]
  .ret)
 .skip))
 (sr1 [
 o1 32 (.bsl 3 40 []),
 m1 33 2,
 o1 34 (.app 3 24 40 (.t 32) (.t 33)),
 m1 13 34]
 (sr1 [
 o1 36 (lt 6 2),
 m1 37 1,
 m1 38 13,
 m1 39 3,
 o1 40 (.call 17 [.t 36,.t 37,.t 38,.t 39]),
 m1 35 40,
 o1 41 (.ext (.t 35) 0),
 o1 42 (.ext (.t 35) 1),
 o1 43 (.ext (.t 35) 2),
 o1 14 (.alloc [.int .i64 0,.int .i64 0] 29),
 ⟨none,.st (.t 14) (.t 41) 2,none,[]⟩,
 m1 15 42,
 m1 16 43]
 (sr1 [
 o1 45 (lt 6 2),
 m1 46 1,
 m1 47 2,
 m1 48 3,
 o1 49 (.call 18 [.t 45,.t 46,.t 47,.t 48]),
 m1 44 49,
 o1 50 (.ext (.t 44) 0),
 o1 51 (.ext (.t 44) 1),
 o1 52 (.ext (.t 44) 2),
 o1 17 (.alloc [.int .i64 0,.int .i64 0] 29),
 ⟨none,.st (.t 17) (.t 50) 2,none,[]⟩,
 m1 18 51,
 m1 19 52]
 (sr1 [
 o1 54 (lt 6 2),
 m1 55 1,
 m1 56 4,
 m1 57 5,
 o1 58 (.call 19 [.t 54,.t 55,.t 56,.t 57]),
 m1 53 58,
 o1 59 (.ext (.t 53) 0),
 o1 60 (.ext (.t 53) 1),
 m1 20 59,
 m1 21 60]
 (sr1 [
 o1 62 (lt 6 2),
 m1 63 1,
 m1 64 4,
 m1 65 5,
 o1 66 (.call 20 [.t 62,.t 63,.t 64,.t 65]),
 m1 61 66,
 o1 67 (.ext (.t 61) 0),
 o1 68 (.ext (.t 61) 1),
 m1 22 67,
 m1 23 68]
 (.seq (sr1 [
 m1 69 2,
 o1 70 (.len (.t 69)),
 o1 71 (.mv (cn 0))]
 (.block 0 (.loop (sr1 [
  o1 72 (.bin .lss (.t 71) (.t 70))]
  (.seq (.cond (.t 72)
  .skip
  (.exit 0))
  (.seq (.block 1 (sr1 [
   m1 73 71,
   m1 24 73]
   (.seq (.regd [0,1,2,3,4,5,6,7,8] [
   .op (m1 74 13),
   .op (m1 75 24),
   .op (p1 76 (.ixs (.t 74) (.t 75) 3) [0,1]),
   .op (p1 77 (lt 76 3) [2]),
   .op (m1 78 2),
   .op (m1 79 24),
   .op (p1 80 (.ixs (.t 78) (.t 79) 3) [4,5]),
   .op (p1 81 (lt 80 3) [6]),
   .op (p1 82 (.eqs true true [1,1,1] (.t 77) (.t 81)) [3,7])] 0 0 [
])
 (.cond (.t 82)
 (sr1 [
  o1 12 (.mv (.c (.bool false)))]
  .ret)
 .skip))))
 (.reg [
 o1 83 (.bin .add (.t 71) (cn 1)),
 m1 71 83])))))))
 (sr1 [
 o1 84 (lt 14 2),
 o1 85 (lt 17 2),
 o1 86 (.eqs false true [1,1] (.t 84) (.t 85)),
 m1 87 86,
 g1 88 87 true (.mv (.t 15)),
 g1 89 87 true (.mv (.t 18)),
 g1 90 87 true (.bin .eql (.t 88) (.t 89)),
 o1 91 (.pick (.t 87) (.t 90) (.c (.bool false))),
 m1 92 91,
 g1 93 92 true (.mv (.t 16)),
 g1 94 92 true (.mv (.t 19)),
 g1 95 92 true (.bin .eql (.t 93) (.t 94)),
 o1 96 (.pick (.t 92) (.t 95) (.c (.bool false))),
 m1 97 96,
 g1 98 97 true (.mv (.t 20)),
 g1 99 97 true (.mv (.t 22)),
 g1 100 97 true (.bin .eql (.t 98) (.t 99)),
 o1 101 (.pick (.t 97) (.t 100) (.c (.bool false))),
 m1 102 101,
 g1 103 102 true (.mv (.t 21)),
 g1 104 102 true (.mv (.t 23)),
 g1 105 102 true (.bin .eql (.t 103) (.t 104)),
 o1 106 (.pick (.t 102) (.t 105) (.c (.bool false))),
 m1 12 106]
 .ret)))))))))
def r3:List RV:=[.tmp 12]
theorem b3:YQ Try.prog 3=true:=by kernel_rfl
theorem t3:Qt1 Try.prog 3 c3 r3 107:=Xl Try.func3 rfl b3 (by kernel_rfl) (by kernel_rfl) (by kernel_rfl)
def c16:SC:=(sr1 [
 o1 1 (.box (.t 0) 0 25),
 o1 2 (.mv (.c (.bool false)))]
 (.seq (sr1 [
 o1 4 (ao 1 0),
 o1 5 (lf 4 1),
 o1 6 (.len (.t 5)),
 o1 7 (.bin .gtr (.t 6) (cn 20)),
 m1 8 7,
 g1 9 8 false (ao 1 1),
 g1 10 8 false (lf 9 1),
 g1 11 8 false (.len (.t 10)),
 g1 12 8 false (.bin .gtr (.t 11) (cn 40)),
 o1 13 (.pick (.t 8) (.c (.bool true)) (.t 12))]
 (.cond (.t 13)
 (sr1 [
  o1 2 (.mv (.c (.bool true)))]
  .ret)
 .skip))
 (.seq (sr1 [
 o1 3 (.mv (cn 0))]
 (.block 0 (.loop (.seq (sr1 [
  m1 14 3,
  o1 15 (ao 1 1),
  o1 16 (lf 15 1),
  o1 17 (.len (.t 16)),
  o1 18 (.bin .lss (.t 14) (.t 17))]
  (.cond (.t 18)
  .skip
  (.exit 0)))
  (.seq (.block 1 (sr1 [
   o1 21 (ao 1 1),
   o1 22 (lf 21 1),
   m1 23 3,
   o1 24 (.ixs (.t 22) (.t 23) 5),
   o1 25 (ao 24 4),
   o1 26 (lf 25 1),
   o1 27 (.len (.t 26)),
   o1 28 (.bin .gtr (.t 27) (cn 20))]
   (.cond (.t 28)
   (sr1 [
    o1 2 (.mv (.c (.bool true)))]
    .ret)
   .skip)))
  (.reg [
  m1 19 3,
  o1 20 (.bin .add (.t 19) (cn 1)),
  m1 3 20]))))))
 (sr1 [
 o1 2 (.mv (.c (.bool false)))]
 .ret))))
def r16:List RV:=[.tmp 2]
theorem t16:Qt1 Try.prog 16 c16 r16 29:=Xl Try.func16 rfl (by kernel_rfl) (by kernel_rfl) (by kernel_rfl) (by kernel_rfl)
def c26:SC:=(sr1 [
 o1 1 (.box (.t 0) 0 25),
 o1 2 (.mv (cn 0))]
 (sr1 [
 o1 5 (ao 1 0),
 o1 6 (lf 5 1),
 o1 7 (.call 71 [.t 6,.f 72]),
 o1 8 (.un .not (.t 7)),
 m1 3 8]
 (sr1 [
 o1 9 (ao 1 1),
 o1 10 (lf 9 1),
 o1 11 (.mkf 75 [.t 1]),
 o1 12 (.call 74 [.t 10,.t 11]),
 o1 13 (.un .not (.t 12)),
 m1 4 13]
 (.seq (sr1 [
 o1 14 (ao 1 0),
 o1 15 (lf 14 1),
 o1 16 (.len (.t 15)),
 o1 17 (.bsl 1 3 [.t 16]),
 o1 18 (.call 58 [.c (.int .i64 1),.c (.int .i64 12),.t 17]),
 o1 19 (.un .not (.t 18)),
 m1 20 19,
 g1 21 20 false (ao 1 1),
 g1 22 20 false (lf 21 1),
 g1 23 20 false (.len (.t 22)),
 g1 24 20 false (.bin .gtr (.t 23) (cn 24)),
 o1 25 (.pick (.t 20) (.c (.bool true)) (.t 24)),
 m1 26 25,
 g1 27 26 false (.mv (.t 3)),
 g1 28 26 false (.un .not (.t 27)),
 o1 29 (.pick (.t 26) (.c (.bool true)) (.t 28)),
 m1 30 29,
 g1 31 30 false (.mv (.t 4)),
 g1 32 30 false (.un .not (.t 31)),
 o1 33 (.pick (.t 30) (.c (.bool true)) (.t 32))]
 (.cond (.t 33)
 (sr1 [
  o1 2 (.mv (cn 30))]
  .ret)
 .skip))
 (sr1 [
 o1 2 (.mv (cn 0))]
 .ret)))))
def r26:List RV:=[.tmp 2]
theorem t26:Qt1 Try.prog 26 c26 r26 34:=Xl Try.func26 rfl (by kernel_rfl) (by kernel_rfl) (by kernel_rfl) (by kernel_rfl)
def c58:SC:=(sr1 [
 o1 3 (.box (.t 0) 0 3),
 o1 4 (.box (.t 1) 0 3),
 o1 6 (.mv (.c (.bool false)))]
 (sr1 [
 m1 7 2,
 o1 8 (.mkf 91 [.t 3,.t 4]),
 o1 9 (.call 90 [.t 7,.t 8]),
 o1 10 (.un .not (.t 9)),
 m1 6 10]
 .ret))
def r58:List RV:=[.tmp 6]
theorem t58:Qt1 Try.prog 58 c58 r58 11:=Xl Try.func58 rfl (by kernel_rfl) (by kernel_rfl) (by kernel_rfl) (by kernel_rfl)
def c60:SC:=(sr1 [
 o1 1 (.box (.t 0) 0 25),
 o1 2 (.mv (.c (.bool false)))]
 (.seq (sr1 [
 o1 10 (ao 1 0),
 o1 11 (lf 10 1),
 o1 12 (.len (.t 11)),
 o1 13 (.call 61 [.t 12,.c (.int .i64 1),.c (.int .i64 12)]),
 o1 14 (.un .not (.t 13)),
 m1 15 14,
 g1 16 15 false (ao 1 1),
 g1 17 15 false (lf 16 1),
 g1 18 15 false (.len (.t 17)),
 g1 19 15 false (.bin .gtr (.t 18) (cn 24)),
 o1 20 (.pick (.t 15) (.c (.bool true)) (.t 19))]
 (.cond (.t 20)
 (sr1 [
  o1 2 (.mv (.c (.bool false)))]
  .ret)
 .skip))
 (.seq (sr1 [
 o1 3 (.mv (cn 0))]
 (.block 0 (.loop (.seq (sr1 [
  m1 21 3,
  o1 22 (ao 1 0),
  o1 23 (lf 22 1),
  o1 24 (.len (.t 23)),
  o1 25 (.bin .lss (.t 21) (.t 24))]
  (.cond (.t 25)
  .skip
  (.exit 0)))
  (.seq (.block 1 (sr1 [
   o1 28 (ao 1 0),
   o1 29 (lf 28 1),
   m1 30 3,
   o1 31 (.ixs (.t 29) (.t 30) 9),
   o1 32 (lt 31 9),
   o1 4 (.alloc [.int .i64 0,.int .i64 0,.int .i64 0,.int .i64 0,.int .i64 0,.int .i64 0,.int .i64 0,.int .i64 0,.int .i64 0] 109),
   ⟨none,.st (.t 4) (.t 32) 9,none,[]⟩]
   (sr1 [
   o1 33 (ao 4 0),
   o1 34 (lf 33 1),
   o1 35 (.call 61 [.t 34,.c (.int .i64 (-10000000)),.c (.int .i64 10000000)]),
   o1 36 (.un .not (.t 35)),
   m1 37 36,
   g1 38 37 false (ao 4 1),
   g1 39 37 false (lf 38 1),
   g1 40 37 false (.call 61 [.t 39,.c (.int .i64 (-10000000)),.c (.int .i64 10000000)]),
   g1 41 37 false (.un .not (.t 40)),
   o1 42 (.pick (.t 37) (.c (.bool true)) (.t 41)),
   m1 43 42,
   g1 44 43 false (ao 4 2),
   g1 45 43 false (lf 44 1),
   g1 46 43 false (.call 61 [.t 45,.c (.int .i64 0),.c (.int .i64 200)]),
   g1 47 43 false (.un .not (.t 46)),
   o1 48 (.pick (.t 43) (.c (.bool true)) (.t 47)),
   m1 49 48,
   g1 50 49 false (ao 4 3),
   g1 51 49 false (lt 50 2),
   g1 52 49 false (.call 92 [.t 51,.c (.int .i64 0),.c (.int .i64 10000000)]),
   g1 53 49 false (.un .not (.t 52)),
   o1 54 (.pick (.t 49) (.c (.bool true)) (.t 53)),
   m1 55 54,
   g1 56 55 false (ao 4 5),
   g1 57 55 false (lf 56 1),
   g1 58 55 false (.call 61 [.t 57,.c (.int .i64 0),.c (.int .i64 1000000000)]),
   g1 59 55 false (.un .not (.t 58)),
   o1 60 (.pick (.t 55) (.c (.bool true)) (.t 59)),
   m1 61 60,
   g1 62 61 false (ao 4 6),
   g1 63 61 false (lt 62 2),
   g1 64 61 false (ao 4 5),
   g1 65 61 false (lf 64 1),
   g1 66 61 false (.call 92 [.t 63,.c (.int .i64 0),.t 65]),
   g1 67 61 false (.un .not (.t 66)),
   o1 68 (.pick (.t 61) (.c (.bool true)) (.t 67)),
   m1 69 68,
   g1 70 69 false (ao 4 8),
   g1 71 69 false (lf 70 1),
   g1 72 69 false (.call 61 [.t 71,.c (.int .i64 0),.c (.int .i64 9999)]),
   g1 73 69 false (.un .not (.t 72)),
   o1 74 (.pick (.t 69) (.c (.bool true)) (.t 73))]
   (.cond (.t 74)
   (sr1 [
    o1 2 (.mv (.c (.bool false)))]
    .ret)
   .skip))))
  (.reg [
  m1 26 3,
  o1 27 (.bin .add (.t 26) (cn 1)),
  m1 3 27]))))))
 (.seq (sr1 [
 o1 5 (.mv (cn 0))]
 (.block 2 (.loop (.seq (sr1 [
  m1 75 5,
  o1 76 (ao 1 1),
  o1 77 (lf 76 1),
  o1 78 (.len (.t 77)),
  o1 79 (.bin .lss (.t 75) (.t 78))]
  (.cond (.t 79)
  .skip
  (.exit 2)))
  (.seq (.block 3 (sr1 [
   o1 82 (ao 1 1),
   o1 83 (lf 82 1),
   m1 84 5,
   o1 85 (.ixs (.t 83) (.t 84) 5),
   o1 86 (lt 85 5),
   o1 6 (.alloc zv0 86),
   ⟨none,.st (.t 6) (.t 86) 5,none,[]⟩]
   (.seq (sr1 [
   o1 87 (ao 6 0),
   o1 88 (lf 87 1),
   o1 89 (ao 1 0),
   o1 90 (lf 89 1),
   o1 91 (.len (.t 90)),
   o1 92 (.bin .sub (.t 91) (cn 1)),
   o1 93 (.call 61 [.t 88,.c (.int .i64 0),.t 92]),
   o1 94 (.un .not (.t 93)),
   m1 95 94,
   g1 96 95 false (ao 6 1),
   g1 97 95 false (lf 96 1),
   g1 98 95 false (ao 1 0),
   g1 99 95 false (lf 98 1),
   g1 100 95 false (.len (.t 99)),
   g1 101 95 false (.bin .sub (.t 100) (cn 1)),
   g1 102 95 false (.call 61 [.t 97,.c (.int .i64 0),.t 101]),
   g1 103 95 false (.un .not (.t 102)),
   o1 104 (.pick (.t 95) (.c (.bool true)) (.t 103)),
   m1 105 104,
   g1 106 105 false (ao 6 0),
   g1 107 105 false (lf 106 1),
   g1 108 105 false (ao 6 1),
   g1 109 105 false (lf 108 1),
   g1 110 105 false (.bin .eql (.t 107) (.t 109)),
   o1 111 (.pick (.t 105) (.c (.bool true)) (.t 110)),
   m1 112 111,
   g1 113 112 false (ao 6 2),
   g1 114 112 false (lt 113 2),
   g1 115 112 false (.call 92 [.t 114,.c (.int .i64 1),.c (.int .i64 1000000)]),
   g1 116 112 false (.un .not (.t 115)),
   o1 117 (.pick (.t 112) (.c (.bool true)) (.t 116)),
   m1 118 117,
   g1 119 118 false (ao 6 4),
   g1 120 118 false (lf 119 1),
   g1 121 118 false (.len (.t 120)),
   g1 122 118 false (.bin .gtr (.t 121) (cn 6)),
   o1 123 (.pick (.t 118) (.c (.bool true)) (.t 122))]
   (.cond (.t 123)
   (sr1 [
    o1 2 (.mv (.c (.bool false)))]
    .ret)
   .skip))
   (sr1 [
   o1 7 (.mv (.c (.int .i64 (-1))))]
   (sr1 [
   o1 8 (.mv (cn 0))]
   (.block 4 (.loop (.seq (sr1 [
    m1 124 8,
    o1 125 (ao 6 4),
    o1 126 (lf 125 1),
    o1 127 (.len (.t 126)),
    o1 128 (.bin .lss (.t 124) (.t 127))]
    (.cond (.t 128)
    .skip
    (.exit 4)))
    (.seq (.block 5 (sr1 [
     o1 131 (ao 6 4),
     o1 132 (lf 131 1),
     m1 133 8,
     o1 134 (.ixs (.t 132) (.t 133) 4),
     o1 135 (lt 134 4),
     o1 9 (.alloc [.int .i64 0,.int .i64 0,.int .i64 0,.int .i64 0] 95),
     ⟨none,.st (.t 9) (.t 135) 4,none,[]⟩]
     (.seq (sr1 [
     o1 136 (ao 9 0),
     o1 137 (lt 136 2),
     o1 138 (.call 92 [.t 137,.c (.int .i64 0),.c (.int .i64 100000)]),
     o1 139 (.un .not (.t 138)),
     m1 140 139,
     g1 141 140 false (ao 9 2),
     g1 142 140 false (lt 141 2),
     g1 143 140 false (.call 92 [.t 142,.c (.int .i64 0),.c (.int .i64 100000)]),
     g1 144 140 false (.un .not (.t 143)),
     o1 145 (.pick (.t 140) (.c (.bool true)) (.t 144)),
     m1 146 145,
     g1 147 146 false (ao 9 0),
     g1 148 146 false (ao 147 0),
     g1 149 146 false (lf 148 1),
     g1 150 146 false (ao 9 2),
     g1 151 146 false (ao 150 1),
     g1 152 146 false (lf 151 1),
     g1 153 146 false (.bin .gtr (.t 149) (.t 152)),
     o1 154 (.pick (.t 146) (.c (.bool true)) (.t 153)),
     m1 155 154,
     g1 156 155 false (ao 9 0),
     g1 157 155 false (ao 156 0),
     g1 158 155 false (lf 157 1),
     g1 159 155 false (.mv (.t 7)),
     g1 160 155 false (.bin .leq (.t 158) (.t 159)),
     o1 161 (.pick (.t 155) (.c (.bool true)) (.t 160))]
     (.cond (.t 161)
     (sr1 [
      o1 2 (.mv (.c (.bool false)))]
      .ret)
     .skip))
     (.reg [
     o1 162 (ao 9 2),
     o1 163 (ao 162 1),
     o1 164 (lf 163 1),
     m1 7 164]))))
    (.reg [
    m1 129 8,
    o1 130 (.bin .add (.t 129) (cn 1)),
    m1 8 130]))))))))))
  (.reg [
  m1 80 5,
  o1 81 (.bin .add (.t 80) (cn 1)),
  m1 5 81]))))))
 (sr1 [
 o1 2 (.mv (.c (.bool true)))]
 .ret)))))
def r60:List RV:=[.tmp 2]
theorem t60:Qt1 Try.prog 60 c60 r60 165:=Xl Try.func60 rfl (by kernel_rfl) (by kernel_rfl) (by kernel_rfl) (by kernel_rfl)
def c61:SC:=(sr1 [
 o1 6 (.mv (.c (.bool false)))]
 (sr1 [
 m1 7 0,
 m1 8 1,
 o1 9 (.bin .geq (.t 7) (.t 8)),
 m1 10 9,
 g1 11 10 true (.mv (.t 0)),
 g1 12 10 true (.mv (.t 2)),
 g1 13 10 true (.bin .leq (.t 11) (.t 12)),
 o1 14 (.pick (.t 10) (.t 13) (.c (.bool false))),
 m1 6 14]
 .ret))
def r61:List RV:=[.tmp 6]
theorem t61:Qt1 Try.prog 61 c61 r61 15:=Xl Try.func61 rfl (by kernel_rfl) (by kernel_rfl) (by kernel_rfl) (by kernel_rfl)
def c71:SC:=(sr1 [
 o1 4 (.mv (.c (.bool false)))]
 (sr1 [
 m1 5 0,
 m1 6 1,
 o1 7 (.call 95 [.t 5,.t 6]),
 o1 8 (.bin .geq (.t 7) (cn 0)),
 m1 4 8]
 .ret))
def r71:List RV:=[.tmp 4]
theorem t71:Qt1 Try.prog 71 c71 r71 9:=Xl Try.func71 rfl (by kernel_rfl) (by kernel_rfl) (by kernel_rfl) (by kernel_rfl)
def c72:SC:=(sr1 [
 o1 1 (.box (.t 0) 0 109),
 o1 2 (.mv (.c (.bool false)))]
 (sr1 [
 o1 3 (lt 1 9),
 o1 4 (.call 73 [.t 3]),
 o1 5 (.un .not (.t 4)),
 m1 2 5]
 .ret))
def r72:List RV:=[.tmp 2]
theorem t72:Qt1 Try.prog 72 c72 r72 6:=Xl Try.func72 rfl (by kernel_rfl) (by kernel_rfl) (by kernel_rfl) (by kernel_rfl)
def c73:SC:=(sr1 [
 o1 1 (.box (.t 0) 0 109),
 o1 2 (.mv (.c (.bool false)))]
 (sr1 [
 o1 3 (ao 1 0),
 o1 4 (lf 3 1),
 o1 5 (ao 1 1),
 o1 6 (lf 5 1),
 o1 7 (.bsl 1 3 [.t 4,.t 6]),
 o1 8 (.call 58 [.c (.int .i64 (-10000000)),.c (.int .i64 10000000),.t 7]),
 m1 9 8,
 g1 10 9 true (ao 1 2),
 g1 11 9 true (lf 10 1),
 g1 12 9 true (.bsl 1 3 [.t 11]),
 g1 13 9 true (.call 58 [.c (.int .i64 0),.c (.int .i64 200),.t 12]),
 o1 14 (.pick (.t 9) (.t 13) (.c (.bool false))),
 m1 15 14,
 g1 16 15 true (ao 1 3),
 g1 17 15 true (lt 16 2),
 g1 18 15 true (.bsl 2 29 [.t 17]),
 g1 19 15 true (.call 93 [.c (.int .i64 0),.c (.int .i64 10000000),.t 18]),
 o1 20 (.pick (.t 15) (.t 19) (.c (.bool false))),
 m1 21 20,
 g1 22 21 true (ao 1 5),
 g1 23 21 true (lf 22 1),
 g1 24 21 true (.bsl 1 3 [.t 23]),
 g1 25 21 true (.call 58 [.c (.int .i64 0),.c (.int .i64 1000000000),.t 24]),
 o1 26 (.pick (.t 21) (.t 25) (.c (.bool false))),
 m1 27 26,
 g1 28 27 true (ao 1 5),
 g1 29 27 true (lf 28 1),
 g1 30 27 true (ao 1 6),
 g1 31 27 true (lt 30 2),
 g1 32 27 true (.bsl 2 29 [.t 31]),
 g1 33 27 true (.call 93 [.c (.int .i64 0),.t 29,.t 32]),
 o1 34 (.pick (.t 27) (.t 33) (.c (.bool false))),
 m1 35 34,
 g1 36 35 true (ao 1 8),
 g1 37 35 true (lf 36 1),
 g1 38 35 true (.bsl 1 3 [.t 37]),
 g1 39 35 true (.call 58 [.c (.int .i64 0),.c (.int .i64 9999),.t 38]),
 o1 40 (.pick (.t 35) (.t 39) (.c (.bool false))),
 m1 2 40]
 .ret))
def r73:List RV:=[.tmp 2]
theorem t73:Qt1 Try.prog 73 c73 r73 41:=Xl Try.func73 rfl (by kernel_rfl) (by kernel_rfl) (by kernel_rfl) (by kernel_rfl)
def c74:SC:=(sr1 [
 o1 4 (.mv (.c (.bool false)))]
 (sr1 [
 m1 5 0,
 m1 6 1,
 o1 7 (.call 96 [.t 5,.t 6]),
 o1 8 (.bin .geq (.t 7) (cn 0)),
 m1 4 8]
 .ret))
def r74:List RV:=[.tmp 4]
theorem t74:Qt1 Try.prog 74 c74 r74 9:=Xl Try.func74 rfl (by kernel_rfl) (by kernel_rfl) (by kernel_rfl) (by kernel_rfl)
def c75:SC:=(sr1 [
 o1 2 (.box (.t 0) 0 86),
 o1 3 (.mv (.c (.bool false)))]
 (sr1 [
 o1 4 (lt 2 5),
 o1 5 (ao 1 0),
 o1 6 (lf 5 1),
 o1 7 (.len (.t 6)),
 o1 8 (.call 76 [.t 4,.t 7]),
 o1 9 (.un .not (.t 8)),
 m1 3 9]
 .ret))
def r75:List RV:=[.tmp 3]
theorem t75:Qt1 Try.prog 75 c75 r75 10:=Xl Try.func75 rfl (by kernel_rfl) (by kernel_rfl) (by kernel_rfl) (by kernel_rfl)
def c76:SC:=(sr1 [
 o1 2 (.box (.t 0) 0 86),
 o1 4 (.mv (.c (.bool false)))]
 (.seq (sr1 [
 m1 8 1,
 o1 9 (.bin .sub (.t 8) (cn 1)),
 o1 10 (ao 2 0),
 o1 11 (lf 10 1),
 o1 12 (ao 2 1),
 o1 13 (lf 12 1),
 o1 14 (.bsl 1 3 [.t 11,.t 13]),
 o1 15 (.call 58 [.c (.int .i64 0),.t 9,.t 14]),
 o1 16 (.un .not (.t 15)),
 m1 17 16,
 g1 18 17 false (ao 2 0),
 g1 19 17 false (lf 18 1),
 g1 20 17 false (ao 2 1),
 g1 21 17 false (lf 20 1),
 g1 22 17 false (.bin .eql (.t 19) (.t 21)),
 o1 23 (.pick (.t 17) (.c (.bool true)) (.t 22)),
 m1 24 23,
 g1 25 24 false (ao 2 2),
 g1 26 24 false (lt 25 2),
 g1 27 24 false (.bsl 2 29 [.t 26]),
 g1 28 24 false (.call 93 [.c (.int .i64 1),.c (.int .i64 1000000),.t 27]),
 g1 29 24 false (.un .not (.t 28)),
 o1 30 (.pick (.t 24) (.c (.bool true)) (.t 29)),
 m1 31 30,
 g1 32 31 false (ao 2 4),
 g1 33 31 false (lf 32 1),
 g1 34 31 false (.len (.t 33)),
 g1 35 31 false (.bin .gtr (.t 34) (cn 6)),
 o1 36 (.pick (.t 31) (.c (.bool true)) (.t 35))]
 (.cond (.t 36)
 (sr1 [
  o1 4 (.mv (.c (.bool false)))]
  .ret)
 .skip))
 (sr1 [
 o1 5 (.mv (cn 0))]
 (.seq (sr1 [
 o1 37 (ao 2 4),
 o1 38 (lf 37 1),
 o1 39 (.len (.t 38)),
 o1 40 (.mv (cn 0))]
 (.block 0 (.loop (sr1 [
  o1 41 (.bin .lss (.t 40) (.t 39))]
  (.seq (.cond (.t 41)
  .skip
  (.exit 0))
  (.seq (.block 1 (sr1 [
   o1 42 (.ixs (.t 38) (.t 40) 4),
   o1 43 (lt 42 4),
   o1 7 (.alloc [.int .i64 0,.int .i64 0,.int .i64 0,.int .i64 0] 95),
   ⟨none,.st (.t 7) (.t 43) 4,none,[]⟩]
   (.seq (sr1 [
   o1 44 (ao 7 0),
   o1 45 (lt 44 2),
   o1 46 (ao 7 2),
   o1 47 (lt 46 2),
   o1 48 (.bsl 2 29 [.t 45,.t 47]),
   o1 49 (.call 93 [.c (.int .i64 0),.c (.int .i64 100000),.t 48]),
   o1 50 (.un .not (.t 49)),
   m1 51 50,
   g1 52 51 false (.mv (.t 5)),
   g1 53 51 false (ao 7 2),
   g1 54 51 false (ao 53 1),
   g1 55 51 false (lf 54 1),
   g1 56 51 false (ao 7 0),
   g1 57 51 false (ao 56 0),
   g1 58 51 false (lf 57 1),
   g1 59 51 false (.bsl 1 3 [.t 58]),
   g1 60 51 false (.call 58 [.t 52,.t 55,.t 59]),
   g1 61 51 false (.un .not (.t 60)),
   o1 62 (.pick (.t 51) (.c (.bool true)) (.t 61))]
   (.cond (.t 62)
   (sr1 [
    o1 4 (.mv (.c (.bool false)))]
    .ret)
   .skip))
   (.reg [
   o1 63 (ao 7 2),
   o1 64 (ao 63 1),
   o1 65 (lf 64 1),
   o1 66 (.bin .add (.t 65) (cn 1)),
   m1 5 66]))))
  (.reg [
  o1 67 (.bin .add (.t 40) (cn 1)),
  m1 40 67])))))))
 (sr1 [
 o1 4 (.mv (.c (.bool true)))]
 .ret)))))
def r76:List RV:=[.tmp 4]
theorem t76:Qt1 Try.prog 76 c76 r76 68:=Xl Try.func76 rfl (by kernel_rfl) (by kernel_rfl) (by kernel_rfl) (by kernel_rfl)
def c90:SC:=(sr1 [
 o1 4 (.mv (.c (.bool false)))]
 (sr1 [
 m1 5 0,
 m1 6 1,
 o1 7 (.call 101 [.t 5,.t 6]),
 o1 8 (.bin .geq (.t 7) (cn 0)),
 m1 4 8]
 .ret))
def r90:List RV:=[.tmp 4]
theorem t90:Qt1 Try.prog 90 c90 r90 9:=Xl Try.func90 rfl (by kernel_rfl) (by kernel_rfl) (by kernel_rfl) (by kernel_rfl)
def c91:SC:=(sr1 [
 o1 4 (.mv (.c (.bool false)))]
 (sr1 [
 m1 5 0,
 o1 6 (lf 1 1),
 o1 7 (.bin .lss (.t 5) (.t 6)),
 m1 8 7,
 g1 9 8 false (.mv (.t 0)),
 g1 10 8 false (lf 2 1),
 g1 11 8 false (.bin .gtr (.t 9) (.t 10)),
 o1 12 (.pick (.t 8) (.c (.bool true)) (.t 11)),
 m1 4 12]
 .ret))
def r91:List RV:=[.tmp 4]
theorem t91:Qt1 Try.prog 91 c91 r91 13:=Xl Try.func91 rfl (by kernel_rfl) (by kernel_rfl) (by kernel_rfl) (by kernel_rfl)
def c92:SC:=(sr1 [
 o1 3 (.box (.t 0) 0 29),
 o1 6 (.mv (.c (.bool false)))]
 (sr1 [
 o1 7 (ao 3 0),
 o1 8 (lf 7 1),
 m1 9 1,
 o1 10 (ao 3 1),
 o1 11 (lf 10 1),
 o1 12 (.call 61 [.t 8,.t 9,.t 11]),
 m1 13 12,
 g1 14 13 true (ao 3 1),
 g1 15 13 true (lf 14 1),
 g1 16 13 true (.mv (.t 2)),
 g1 17 13 true (.bin .leq (.t 15) (.t 16)),
 o1 18 (.pick (.t 13) (.t 17) (.c (.bool false))),
 m1 6 18]
 .ret))
def r92:List RV:=[.tmp 6]
theorem t92:Qt1 Try.prog 92 c92 r92 19:=Xl Try.func92 rfl (by kernel_rfl) (by kernel_rfl) (by kernel_rfl) (by kernel_rfl)
def c93:SC:=(sr1 [
 o1 3 (.box (.t 0) 0 3),
 o1 4 (.box (.t 1) 0 3),
 o1 6 (.mv (.c (.bool false)))]
 (sr1 [
 m1 7 2,
 o1 8 (.mkf 103 [.t 3,.t 4]),
 o1 9 (.call 102 [.t 7,.t 8]),
 o1 10 (.un .not (.t 9)),
 m1 6 10]
 .ret))
def r93:List RV:=[.tmp 6]
theorem t93:Qt1 Try.prog 93 c93 r93 11:=Xl Try.func93 rfl (by kernel_rfl) (by kernel_rfl) (by kernel_rfl) (by kernel_rfl)
def c95:SC:=(sr1 [
 o1 4 (.mv (cn 0))]
 (.seq (sr1 [
 m1 6 0,
 o1 7 (.len (.t 6)),
 o1 8 (.mv (cn 0))]
 (.block 0 (.loop (sr1 [
  o1 9 (.bin .lss (.t 8) (.t 7))]
  (.seq (.cond (.t 9)
  .skip
  (.exit 0))
  (.seq (.block 1 (sr1 [
   m1 10 8,
   m1 5 10]
   (sr1 [
   m1 11 1,
   m1 12 0,
   m1 13 5,
   o1 14 (.ixs (.t 12) (.t 13) 9),
   o1 15 (lt 14 9),
   o1 16 (.calv (.t 11) [.t 15])]
   (.cond (.t 16)
   (sr1 [
    m1 17 5,
    m1 4 17]
    .ret)
   .skip))))
  (.reg [
  o1 18 (.bin .add (.t 8) (cn 1)),
  m1 8 18])))))))
 (sr1 [
 o1 4 (.mv (.c (.int .i64 (-1))))]
 .ret)))
def r95:List RV:=[.tmp 4]
theorem t95:Qt1 Try.prog 95 c95 r95 19:=Xl Try.func95 rfl (by kernel_rfl) (by kernel_rfl) (by kernel_rfl) (by kernel_rfl)
def c96:SC:=(sr1 [
 o1 4 (.mv (cn 0))]
 (.seq (sr1 [
 m1 6 0,
 o1 7 (.len (.t 6)),
 o1 8 (.mv (cn 0))]
 (.block 0 (.loop (sr1 [
  o1 9 (.bin .lss (.t 8) (.t 7))]
  (.seq (.cond (.t 9)
  .skip
  (.exit 0))
  (.seq (.block 1 (sr1 [
   m1 10 8,
   m1 5 10]
   (sr1 [
   m1 11 1,
   m1 12 0,
   m1 13 5,
   o1 14 (.ixs (.t 12) (.t 13) 5),
   o1 15 (lt 14 5),
   o1 16 (.calv (.t 11) [.t 15])]
   (.cond (.t 16)
   (sr1 [
    m1 17 5,
    m1 4 17]
    .ret)
   .skip))))
  (.reg [
  o1 18 (.bin .add (.t 8) (cn 1)),
  m1 8 18])))))))
 (sr1 [
 o1 4 (.mv (.c (.int .i64 (-1))))]
 .ret)))
def r96:List RV:=[.tmp 4]
theorem t96:Qt1 Try.prog 96 c96 r96 19:=Xl Try.func96 rfl (by kernel_rfl) (by kernel_rfl) (by kernel_rfl) (by kernel_rfl)
def c101:SC:=(sr1 [
 o1 4 (.mv (cn 0))]
 (.seq (sr1 [
 m1 6 0,
 o1 7 (.len (.t 6)),
 o1 8 (.mv (cn 0))]
 (.block 0 (.loop (sr1 [
  o1 9 (.bin .lss (.t 8) (.t 7))]
  (.seq (.cond (.t 9)
  .skip
  (.exit 0))
  (.seq (.block 1 (sr1 [
   m1 10 8,
   m1 5 10]
   (sr1 [
   m1 11 1,
   m1 12 0,
   m1 13 5,
   o1 14 (.ixs (.t 12) (.t 13) 1),
   o1 15 (lf 14 1),
   o1 16 (.calv (.t 11) [.t 15])]
   (.cond (.t 16)
   (sr1 [
    m1 17 5,
    m1 4 17]
    .ret)
   .skip))))
  (.reg [
  o1 18 (.bin .add (.t 8) (cn 1)),
  m1 8 18])))))))
 (sr1 [
 o1 4 (.mv (.c (.int .i64 (-1))))]
 .ret)))
def r101:List RV:=[.tmp 4]
theorem t101:Qt1 Try.prog 101 c101 r101 19:=Xl Try.func101 rfl (by kernel_rfl) (by kernel_rfl) (by kernel_rfl) (by kernel_rfl)
def c102:SC:=(sr1 [
 o1 4 (.mv (.c (.bool false)))]
 (sr1 [
 m1 5 0,
 m1 6 1,
 o1 7 (.call 107 [.t 5,.t 6]),
 o1 8 (.bin .geq (.t 7) (cn 0)),
 m1 4 8]
 .ret))
def r102:List RV:=[.tmp 4]
theorem t102:Qt1 Try.prog 102 c102 r102 9:=Xl Try.func102 rfl (by kernel_rfl) (by kernel_rfl) (by kernel_rfl) (by kernel_rfl)
def c103:SC:=(sr1 [
 o1 3 (.box (.t 0) 0 29),
 o1 4 (.mv (.c (.bool false)))]
 (sr1 [
 o1 5 (ao 3 0),
 o1 6 (lf 5 1),
 o1 7 (ao 3 1),
 o1 8 (lf 7 1),
 o1 9 (.bin .gtr (.t 6) (.t 8)),
 m1 10 9,
 g1 11 10 false (lf 1 1),
 g1 12 10 false (lf 2 1),
 g1 13 10 false (ao 3 0),
 g1 14 10 false (lf 13 1),
 g1 15 10 false (ao 3 1),
 g1 16 10 false (lf 15 1),
 g1 17 10 false (.bsl 1 3 [.t 14,.t 16]),
 g1 18 10 false (.call 58 [.t 11,.t 12,.t 17]),
 g1 19 10 false (.un .not (.t 18)),
 o1 20 (.pick (.t 10) (.c (.bool true)) (.t 19)),
 m1 4 20]
 .ret))
def r103:List RV:=[.tmp 4]
theorem t103:Qt1 Try.prog 103 c103 r103 21:=Xl Try.func103 rfl (by kernel_rfl) (by kernel_rfl) (by kernel_rfl) (by kernel_rfl)
def c107:SC:=(sr1 [
 o1 4 (.mv (cn 0))]
 (.seq (sr1 [
 m1 6 0,
 o1 7 (.len (.t 6)),
 o1 8 (.mv (cn 0))]
 (.block 0 (.loop (sr1 [
  o1 9 (.bin .lss (.t 8) (.t 7))]
  (.seq (.cond (.t 9)
  .skip
  (.exit 0))
  (.seq (.block 1 (sr1 [
   m1 10 8,
   m1 5 10]
   (sr1 [
   m1 11 1,
   m1 12 0,
   m1 13 5,
   o1 14 (.ixs (.t 12) (.t 13) 2),
   o1 15 (lt 14 2),
   o1 16 (.calv (.t 11) [.t 15])]
   (.cond (.t 16)
   (sr1 [
    m1 17 5,
    m1 4 17]
    .ret)
   .skip))))
  (.reg [
  o1 18 (.bin .add (.t 8) (cn 1)),
  m1 8 18])))))))
 (sr1 [
 o1 4 (.mv (.c (.int .i64 (-1))))]
 .ret)))
def r107:List RV:=[.tmp 4]
theorem t107:Qt1 Try.prog 107 c107 r107 19:=Xl Try.func107 rfl (by kernel_rfl) (by kernel_rfl) (by kernel_rfl) (by kernel_rfl)
def c4:SC:=(sr1 [
 o1 4 (.box (.t 0) 0 25),
 o1 7 (.box (.t 3) 0 29),
 o1 8 (.mv (.c (.bool false)))]
 (.seq (sr1 [
 o1 18 (lt 4 2),
 o1 19 (.call 16 [.t 18])]
 (.cond (.t 19)
 (sr1 [
  o1 8 (.mv (.c (.bool true)))]
  .ret)
 .skip))
 (sr1 [
 o1 20 (lt 4 2),
 o1 21 (.call 21 [.t 20]),
 o1 9 (.alloc [.slice none 0 0,.slice none 0 0] 25),
 ⟨none,.st (.t 9) (.t 21) 2,none,[]⟩]
 (sr1 [
 o1 23 (lt 9 2),
 m1 24 1,
 o1 25 (lt 7 2),
 o1 26 (.call 22 [.t 23,.t 24,.t 25]),
 m1 22 26,
 o1 27 (.ext (.t 22) 0),
 o1 28 (.ext (.t 22) 1),
 o1 10 (.alloc [.int .i64 0,.int .i64 0] 29),
 ⟨none,.st (.t 10) (.t 27) 2,none,[]⟩,
 m1 11 28]
 (sr1 [
 o1 30 (lt 4 2),
 m1 31 1,
 o1 32 (lt 7 2),
 o1 33 (.call 23 [.t 30,.t 31,.t 32]),
 m1 29 33,
 o1 34 (.ext (.t 29) 0),
 o1 35 (.ext (.t 29) 1),
 o1 12 (.alloc [.int .i64 0,.int .i64 0] 29),
 ⟨none,.st (.t 12) (.t 34) 2,none,[]⟩,
 m1 13 35]
 (sr1 [
 o1 37 (lt 9 2),
 m1 38 1,
 m1 39 2,
 o1 40 (lt 7 2),
 o1 41 (.call 24 [.t 37,.t 38,.t 39,.t 40]),
 m1 36 41,
 o1 42 (.ext (.t 36) 0),
 o1 43 (.ext (.t 36) 1),
 o1 14 (.alloc [.int .i64 0,.int .i64 0] 29),
 ⟨none,.st (.t 14) (.t 42) 2,none,[]⟩,
 m1 15 43]
 (sr1 [
 o1 45 (lt 4 2),
 m1 46 1,
 m1 47 2,
 o1 48 (lt 7 2),
 o1 49 (.call 25 [.t 45,.t 46,.t 47,.t 48]),
 m1 44 49,
 o1 50 (.ext (.t 44) 0),
 o1 51 (.ext (.t 44) 1),
 o1 16 (.alloc [.int .i64 0,.int .i64 0] 29),
 ⟨none,.st (.t 16) (.t 50) 2,none,[]⟩,
 m1 17 51]
 (.seq (.regd [0,1,2,3,4,5,6,7,8,9,10,11,12,13,14,15,16,17,18,19,20,21,22,23,24,25,26,27,28,29,30] [
 .op (o1 52 (lt 9 2)),
 .op (p1 53 (.call 26 [.t 52]) [0]),
 .op (o1 54 (lt 4 2)),
 .op (p1 55 (.call 27 [.t 54]) [1,2]),
 .op (p1 56 (.bin .eql (.t 53) (.t 55)) [1,3]),
 .op (p1 57 (.mv (.t 56)) [3,4]),
 .op (q1 58 57 true (lt 10 2) [5]),
 .op (q1 59 57 true (lt 12 2) [5]),
 .op (q1 60 57 true (.eqs false true [1,1] (.t 58) (.t 59)) [5,6,7]),
 .op (p1 61 (.pick (.t 57) (.t 60) (.c (.bool false))) [5,8]),
 .op (p1 62 (.mv (.t 61)) [5,9]),
 .op (q1 63 62 true (.mv (.t 11)) [10]),
 .op (q1 64 62 true (.mv (.t 13)) [10]),
 .op (q1 65 62 true (.bin .eql (.t 63) (.t 64)) [10,11,12]),
 .op (p1 66 (.pick (.t 62) (.t 65) (.c (.bool false))) [10,13]),
 .op (p1 67 (.mv (.t 66)) [10,14]),
 .op (q1 68 67 true (lt 14 2) [15]),
 .op (q1 69 67 true (lt 16 2) [15]),
 .op (q1 70 67 true (.eqs false true [1,1] (.t 68) (.t 69)) [15,16,17]),
 .op (p1 71 (.pick (.t 67) (.t 70) (.c (.bool false))) [15,18]),
 .op (p1 72 (.mv (.t 71)) [15,19]),
 .op (q1 73 72 true (.mv (.t 15)) [20]),
 .op (q1 74 72 true (.mv (.t 17)) [20]),
 .op (q1 75 72 true (.bin .eql (.t 73) (.t 74)) [20,21,22]),
 .op (p1 76 (.pick (.t 72) (.t 75) (.c (.bool false))) [20,23]),
 .op (p1 77 (.mv (.t 76)) [20,24]),
 .op (q1 78 77 true (lt 9 2) [25]),
 .op (q1 79 77 true (lt 4 2) [25]),
 .op (q1 80 77 true (.call 28 [.t 78,.t 79]) [25,26,27]),
 .op (p1 81 (.pick (.t 77) (.t 80) (.c (.bool false))) [25,28]),
 .op (p1 8 (.mv (.t 81)) [0,1,2,3,4,5,6,7,8,9,10,11,12,13,14,15,16,17,18,19,20,21,22,23,24,25,26,27,28,29])] 0 0 [
])
 .ret))))))))
def r4:List RV:=[.tmp 8]
theorem b4:YQ Try.prog 4=true:=by kernel_rfl
theorem t4:Qt1 Try.prog 4 c4 r4 82:=Xl Try.func4 rfl b4 (by kernel_rfl) (by kernel_rfl) (by kernel_rfl)
def c21:SC:=(sr1 [
 o1 1 (.box (.t 0) 0 25),
 o1 2 (.alloc [.slice none 0 0,.slice none 0 0] 25)]
 (sr1 [
 o1 4 (.bsl 9 109 []),
 o1 5 (ao 1 0),
 o1 6 (lf 5 1),
 o1 7 (.app 9 72 109 (.t 4) (.t 6)),
 o1 8 (ao 1 0),
 ⟨none,.st (.t 8) (.t 7) 1,none,[]⟩]
 (sr1 [
 o1 9 (.bsl 5 86 []),
 o1 10 (ao 1 1),
 o1 11 (lf 10 1),
 o1 12 (.cln 5 56 86 (.t 9) (.t 11)),
 o1 13 (ao 1 1),
 ⟨none,.st (.t 13) (.t 12) 1,none,[]⟩]
 (.seq (sr1 [
 o1 3 (.mv (cn 0))]
 (.block 0 (.loop (.seq (sr1 [
  m1 14 3,
  o1 15 (ao 1 1),
  o1 16 (lf 15 1),
  o1 17 (.len (.t 16)),
  o1 18 (.bin .lss (.t 14) (.t 17))]
  (.cond (.t 18)
  .skip
  (.exit 0)))
  (.seq (.block 1 (.regd [0,1,2,3,4,5,6,7,8,9,10,11,12,13] [
   .op (o1 21 (ao 1 1)),
   .op (p1 22 (lf 21 1) [0]),
   .op (m1 23 3),
   .op (o1 24 (.bsl 4 95 [])),
   .op (o1 25 (ao 1 1)),
   .op (p1 26 (lf 25 1) [4]),
   .op (m1 27 3),
   .op (p1 28 (.ixs (.t 26) (.t 27) 5) [5,6]),
   .op (p1 29 (ao 28 4) [7]),
   .op (p1 30 (lf 29 1) [8]),
   .op (p1 31 (.app 4 32 95 (.t 24) (.t 30)) [3,9]),
   .op (p1 32 (.ixs (.t 22) (.t 23) 5) [0,1,2,3,4,5,6,7,8,9,10]),
   .op (p1 33 (ao 32 4) [0,1,2,3,4,5,6,7,8,9,10,11])] 0 1 [
   ⟨none,.st (.t 33) (.t 31) 1,none,[0,1,2,3,4,5,6,7,8,9,10,12]⟩]))
  (.reg [
  m1 19 3,
  o1 20 (.bin .add (.t 19) (cn 1)),
  m1 3 20]))))))
 (sr1 [
 o1 34 (lt 1 2),
 ⟨none,.st (.t 2) (.t 34) 2,none,[]⟩]
 .ret)))))
def r21:List RV:=[.cell 2 2 true]
theorem t21:Qt1 Try.prog 21 c21 r21 35:=Xl Try.func21 rfl (by kernel_rfl) (by kernel_rfl) (by kernel_rfl) (by kernel_rfl)
def c28:SC:=(sr1 [
 o1 2 (.box (.t 0) 0 25),
 o1 3 (.box (.t 1) 0 25),
 o1 4 (.mv (.c (.bool false)))]
 (.seq (sr1 [
 o1 10 (ao 2 0),
 o1 11 (lf 10 1),
 o1 12 (.len (.t 11)),
 o1 13 (ao 3 0),
 o1 14 (lf 13 1),
 o1 15 (.len (.t 14)),
 o1 16 (.bin .neq (.t 12) (.t 15)),
 m1 17 16,
 g1 18 17 false (ao 2 1),
 g1 19 17 false (lf 18 1),
 g1 20 17 false (.len (.t 19)),
 g1 21 17 false (ao 3 1),
 g1 22 17 false (lf 21 1),
 g1 23 17 false (.len (.t 22)),
 g1 24 17 false (.bin .neq (.t 20) (.t 23)),
 o1 25 (.pick (.t 17) (.c (.bool true)) (.t 24))]
 (.cond (.t 25)
 (sr1 [
  o1 4 (.mv (.c (.bool false)))]
  .ret)
 .skip))
 (.seq (sr1 [
 o1 5 (.mv (cn 0))]
 (.block 0 (.loop (.seq (sr1 [
  m1 26 5,
  o1 27 (ao 2 0),
  o1 28 (lf 27 1),
  o1 29 (.len (.t 28)),
  o1 30 (.bin .lss (.t 26) (.t 29))]
  (.cond (.t 30)
  .skip
  (.exit 0)))
  (.seq (.block 1 (.seq (.regd [0,1,2,3,4,5,6,7,8,9,10] [
   .op (o1 33 (ao 2 0)),
   .op (p1 34 (lf 33 1) [0]),
   .op (m1 35 5),
   .op (p1 36 (.ixs (.t 34) (.t 35) 9) [1,2]),
   .op (p1 37 (lt 36 9) [3]),
   .op (o1 38 (ao 3 0)),
   .op (p1 39 (lf 38 1) [5]),
   .op (m1 40 5),
   .op (p1 41 (.ixs (.t 39) (.t 40) 9) [6,7]),
   .op (p1 42 (lt 41 9) [8]),
   .op (p1 43 (.eqs true true [1,1,1,1,1,1,1,1,1] (.t 37) (.t 42)) [4,9])] 0 0 [
])
 (.cond (.t 43)
 (sr1 [
  o1 4 (.mv (.c (.bool false)))]
  .ret)
 .skip)))
 (.reg [
 m1 31 5,
 o1 32 (.bin .add (.t 31) (cn 1)),
 m1 5 32]))))))
 (.seq (sr1 [
 o1 6 (.mv (cn 0))]
 (.block 2 (.loop (.seq (sr1 [
  m1 44 6,
  o1 45 (ao 2 1),
  o1 46 (lf 45 1),
  o1 47 (.len (.t 46)),
  o1 48 (.bin .lss (.t 44) (.t 47))]
  (.cond (.t 48)
  .skip
  (.exit 2)))
  (.seq (.block 3 (.seq (.regd [0,1,2,3,4,5,6,7,8,9,10,11,12,13] [
   .op (o1 51 (ao 2 1)),
   .op (p1 52 (lf 51 1) [0]),
   .op (m1 53 6),
   .op (p1 54 (.ixs (.t 52) (.t 53) 5) [1,2]),
   .op (p1 55 (lt 54 5) [3]),
   .op (o1 56 (ao 3 1)),
   .op (p1 57 (lf 56 1) [5]),
   .op (m1 58 6),
   .op (p1 59 (.ixs (.t 57) (.t 58) 5) [6,7]),
   .op (p1 60 (lt 59 5) [8])] 2 2 [
   o1 7 (.alloc zv0 86),
   o1 8 (.alloc zv0 86),
   ⟨none,.st (.t 7) (.t 55) 5,none,[0,1,2,3,4,10,11]⟩,
   ⟨none,.st (.t 8) (.t 60) 5,none,[0,1,2,3,4,5,6,7,8,9,10,11,12]⟩])
   (.seq (sr1 [
   o1 61 (ao 7 0),
   o1 62 (lf 61 1),
   o1 63 (ao 8 0),
   o1 64 (lf 63 1),
   o1 65 (.bin .neq (.t 62) (.t 64)),
   m1 66 65,
   g1 67 66 false (ao 7 1),
   g1 68 66 false (lf 67 1),
   g1 69 66 false (ao 8 1),
   g1 70 66 false (lf 69 1),
   g1 71 66 false (.bin .neq (.t 68) (.t 70)),
   o1 72 (.pick (.t 66) (.c (.bool true)) (.t 71)),
   m1 73 72,
   g1 74 73 false (ao 7 2),
   g1 75 73 false (lt 74 2),
   g1 76 73 false (ao 8 2),
   g1 77 73 false (lt 76 2),
   g1 78 73 false (.eqs true true [1,1] (.t 75) (.t 77)),
   o1 79 (.pick (.t 73) (.c (.bool true)) (.t 78)),
   m1 80 79,
   g1 81 80 false (ao 7 4),
   g1 82 80 false (lf 81 1),
   g1 83 80 false (.len (.t 82)),
   g1 84 80 false (ao 8 4),
   g1 85 80 false (lf 84 1),
   g1 86 80 false (.len (.t 85)),
   g1 87 80 false (.bin .neq (.t 83) (.t 86)),
   o1 88 (.pick (.t 80) (.c (.bool true)) (.t 87))]
   (.cond (.t 88)
   (sr1 [
    o1 4 (.mv (.c (.bool false)))]
    .ret)
   .skip))
   (sr1 [
   o1 9 (.mv (cn 0))]
   (.block 4 (.loop (.seq (sr1 [
    m1 89 9,
    o1 90 (ao 7 4),
    o1 91 (lf 90 1),
    o1 92 (.len (.t 91)),
    o1 93 (.bin .lss (.t 89) (.t 92))]
    (.cond (.t 93)
    .skip
    (.exit 4)))
    (.seq (.block 5 (.seq (.regd [0,1,2,3,4,5,6,7,8,9,10] [
     .op (o1 96 (ao 7 4)),
     .op (p1 97 (lf 96 1) [0]),
     .op (m1 98 9),
     .op (p1 99 (.ixs (.t 97) (.t 98) 4) [1,2]),
     .op (p1 100 (lt 99 4) [3]),
     .op (o1 101 (ao 8 4)),
     .op (p1 102 (lf 101 1) [5]),
     .op (m1 103 9),
     .op (p1 104 (.ixs (.t 102) (.t 103) 4) [6,7]),
     .op (p1 105 (lt 104 4) [8]),
     .op (p1 106 (.eqs true true [1,1,1,1] (.t 100) (.t 105)) [4,9])] 0 0 [
])
 (.cond (.t 106)
 (sr1 [
  o1 4 (.mv (.c (.bool false)))]
  .ret)
 .skip)))
 (.reg [
 m1 94 9,
 o1 95 (.bin .add (.t 94) (cn 1)),
 m1 9 95])))))))))
 (.reg [
 m1 49 6,
 o1 50 (.bin .add (.t 49) (cn 1)),
 m1 6 50]))))))
 (sr1 [
 o1 4 (.mv (.c (.bool true)))]
 .ret)))))
def r28:List RV:=[.tmp 4]
theorem t28:Qt1 Try.prog 28 c28 r28 107:=Xl Try.func28 rfl (by kernel_rfl) (by kernel_rfl) (by kernel_rfl) (by kernel_rfl)
def c63:SC:=(sr1 [
 o1 2 (.box (.t 0) 0 25),
 o1 3 (.box (.t 1) 0 29),
 o1 4 (.alloc [.slice none 0 0,.slice none 0 0,.int .i64 0,.int .i64 0] 119),
 o1 5 (.mv (cn 0))]
 (.seq (sr1 [
 o1 7 (lt 2 2),
 o1 8 (.call 26 [.t 7]),
 m1 6 8]
 (sr1 [
 m1 9 6,
 o1 10 (.bin .neq (.t 9) (cn 0))]
 (.cond (.t 10)
 (sr1 [
  o1 11 (.build [.slice none 0 0,.slice none 0 0,.int .i64 0,.int .i64 0] []),
  m1 12 6,
  ⟨none,.st (.t 4) (.t 11) 4,none,[]⟩,
  m1 5 12]
  .ret)
 .skip)))
 (.seq (sr1 [
 o1 13 (lt 3 2),
 o1 14 (.bsl 2 29 [.t 13]),
 o1 15 (.call 93 [.c (.int .i64 1),.c (.int .i64 100000),.t 14]),
 o1 16 (.un .not (.t 15))]
 (.cond (.t 16)
 (sr1 [
  o1 17 (.build [.slice none 0 0,.slice none 0 0,.int .i64 0,.int .i64 0] []),
  ⟨none,.st (.t 4) (.t 17) 4,none,[]⟩,
  o1 5 (.mv (cn 31))]
  .ret)
 .skip))
 (sr1 [
 o1 18 (lt 2 2),
 o1 19 (lt 3 2),
 o1 20 (.build [.slice none 0 0,.slice none 0 0,.int .i64 0,.int .i64 0] [(0,2,.t 18),(2,2,.t 19)]),
 ⟨none,.st (.t 4) (.t 20) 4,none,[]⟩,
 o1 5 (.mv (cn 0))]
 .ret))))
def r63:List RV:=[.cell 4 4 true,.tmp 5]
theorem t63:Qt1 Try.prog 63 c63 r63 21:=Xl Try.func63 rfl (by kernel_rfl) (by kernel_rfl) (by kernel_rfl) (by kernel_rfl)
def c64:SC:=(sr1 [
 o1 2 (.box (.t 0) 0 119),
 o1 4 (.alloc [.int .i64 0,.int .i64 0] 123)]
 (sr1 [
 o1 6 (ao 2 0),
 o1 7 (ao 6 1),
 o1 8 (lf 7 1),
 m1 9 1,
 o1 10 (.ixs (.t 8) (.t 9) 5),
 o1 11 (ao 10 2),
 o1 12 (lt 11 2),
 o1 5 (.alloc [.int .i64 0,.int .i64 0] 29),
 ⟨none,.st (.t 5) (.t 12) 2,none,[]⟩]
 (.seq (.regd [0,1,2,3,4,5,6,7,8,9,10,11,12,13,14,15,16,17,18,19,20,21,22,23] [
 .op (o1 13 (ao 5 0)),
 .op (p1 14 (lf 13 1) [0]),
 .op (o1 15 (ao 2 2)),
 .op (p1 16 (ao 15 1) [2]),
 .op (p1 17 (lf 16 1) [3]),
 .op (p1 18 (.bin .add (.t 14) (.t 17)) [1,4]),
 .op (p1 19 (.bin .sub (.t 18) (cn 1)) [5]),
 .op (o1 20 (ao 2 2)),
 .op (p1 21 (ao 20 1) [7]),
 .op (p1 22 (lf 21 1) [8]),
 .op (p1 23 (.div .quo (.t 19) (.t 22)) [6,9]),
 .op (o1 24 (ao 5 1)),
 .op (p1 25 (lf 24 1) [11]),
 .op (o1 26 (ao 2 2)),
 .op (p1 27 (ao 26 0) [13]),
 .op (p1 28 (lf 27 1) [14]),
 .op (p1 29 (.bin .add (.t 25) (.t 28)) [12,15]),
 .op (p1 30 (.bin .sub (.t 29) (cn 1)) [16]),
 .op (o1 31 (ao 2 2)),
 .op (p1 32 (ao 31 0) [18]),
 .op (p1 33 (lf 32 1) [19]),
 .op (p1 34 (.div .quo (.t 30) (.t 33)) [17,20]),
 .op (p1 35 (.build [.int .i64 0,.int .i64 0] [(0,1,.t 23),(1,1,.t 34)]) [10,21])] 0 1 [
 ⟨none,.st (.t 4) (.t 35) 2,none,[0,1,2,3,4,5,6,7,8,9,10,11,12,13,14,15,16,17,18,19,20,21,22]⟩])
 .ret)))
def r64:List RV:=[.cell 4 2 true]
theorem t64:Qt1 Try.prog 64 c64 r64 36:=Xl Try.func64 rfl (by kernel_rfl) (by kernel_rfl) (by kernel_rfl) (by kernel_rfl)
def c66:SC:=(sr1 [
 o1 2 (.box (.t 0) 0 25),
 o1 3 (.box (.t 1) 0 29),
 o1 4 (.mv (cn 0))]
 (.seq (sr1 [
 o1 5 (lt 2 2),
 o1 6 (.call 60 [.t 5]),
 o1 7 (.un .not (.t 6))]
 (.cond (.t 7)
 (sr1 [
  o1 4 (.mv (cn 30))]
  .ret)
 .skip))
 (.seq (sr1 [
 o1 8 (lt 3 2),
 o1 9 (.call 89 [.t 8]),
 o1 10 (.un .not (.t 9))]
 (.cond (.t 10)
 (sr1 [
  o1 4 (.mv (cn 31))]
  .ret)
 .skip))
 (sr1 [
 o1 4 (.mv (cn 0))]
 .ret))))
def r66:List RV:=[.tmp 4]
theorem t66:Qt1 Try.prog 66 c66 r66 11:=Xl Try.func66 rfl (by kernel_rfl) (by kernel_rfl) (by kernel_rfl) (by kernel_rfl)
def c67:SC:=(sr1 [
 o1 2 (.box (.t 0) 0 86),
 o1 3 (.box (.t 1) 0 29),
 o1 4 (.alloc [.int .i64 0,.int .i64 0] 29)]
 (.seq (.regd [0,1,2,3,4,5,6,7,8,9,10,11,12,13,14,15,16,17,18,19,20,21] [
 .op (o1 5 (ao 2 2)),
 .op (p1 6 (ao 5 0) [0]),
 .op (p1 7 (lf 6 1) [1]),
 .op (o1 8 (ao 3 1)),
 .op (p1 9 (lf 8 1) [3]),
 .op (p1 10 (.bin .add (.t 7) (.t 9)) [2,4]),
 .op (p1 11 (.bin .sub (.t 10) (cn 1)) [5]),
 .op (o1 12 (ao 3 1)),
 .op (p1 13 (lf 12 1) [7]),
 .op (p1 14 (.div .quo (.t 11) (.t 13)) [6,8]),
 .op (o1 15 (ao 2 2)),
 .op (p1 16 (ao 15 1) [10]),
 .op (p1 17 (lf 16 1) [11]),
 .op (o1 18 (ao 3 0)),
 .op (p1 19 (lf 18 1) [13]),
 .op (p1 20 (.bin .add (.t 17) (.t 19)) [12,14]),
 .op (p1 21 (.bin .sub (.t 20) (cn 1)) [15]),
 .op (o1 22 (ao 3 0)),
 .op (p1 23 (lf 22 1) [17]),
 .op (p1 24 (.div .quo (.t 21) (.t 23)) [16,18]),
 .op (p1 25 (.build [.int .i64 0,.int .i64 0] [(0,1,.t 14),(1,1,.t 24)]) [9,19])] 0 1 [
 ⟨none,.st (.t 4) (.t 25) 2,none,[0,1,2,3,4,5,6,7,8,9,10,11,12,13,14,15,16,17,18,19,20]⟩])
 .ret))
def r67:List RV:=[.cell 4 2 true]
theorem t67:Qt1 Try.prog 67 c67 r67 26:=Xl Try.func67 rfl (by kernel_rfl) (by kernel_rfl) (by kernel_rfl) (by kernel_rfl)
def c68:SC:=(sr1 [
 o1 3 (.box (.t 0) 0 119),
 o1 5 (.box (.t 2) 0 123),
 o1 6 (.alloc [.int .i64 0,.int .i64 0] 123)]
 (sr1 [
 o1 15 (lt 3 4),
 m1 16 1,
 o1 17 (.call 64 [.t 15,.t 16]),
 o1 7 (.alloc [.int .i64 0,.int .i64 0] 123),
 ⟨none,.st (.t 7) (.t 17) 2,none,[]⟩]
 (sr1 [
 o1 18 (.build [.int .i64 0,.int .i64 0] [(0,1,.c (.int .i64 100001)),(1,1,.c (.int .i64 100001))]),
 o1 8 (.alloc [.int .i64 0,.int .i64 0] 123),
 ⟨none,.st (.t 8) (.t 18) 2,none,[]⟩]
 (.seq (sr1 [
 o1 19 (ao 3 0),
 o1 20 (ao 19 1),
 o1 21 (lf 20 1),
 m1 22 1,
 o1 23 (.ixs (.t 21) (.t 22) 5),
 o1 24 (ao 23 4),
 o1 25 (lf 24 1),
 o1 26 (.len (.t 25)),
 o1 27 (.mv (cn 0))]
 (.block 0 (.loop (sr1 [
  o1 28 (.bin .lss (.t 27) (.t 26))]
  (.seq (.cond (.t 28)
  .skip
  (.exit 0))
  (.seq (.block 1 (sr1 [
   o1 29 (.ixs (.t 25) (.t 27) 4),
   o1 30 (lt 29 4),
   o1 10 (.alloc [.int .i64 0,.int .i64 0,.int .i64 0,.int .i64 0] 95),
   ⟨none,.st (.t 10) (.t 30) 4,none,[]⟩]
   (.seq (.regd [0,1,2,3,4,5,6,7,8,9,10,11,12,13,14,15,16,17] [
   .op (o1 31 (ao 10 0)),
   .op (p1 32 (ao 31 0) [0]),
   .op (p1 33 (lf 32 1) [1]),
   .op (o1 34 (ao 10 0)),
   .op (p1 35 (ao 34 1) [3]),
   .op (p1 36 (lf 35 1) [4]),
   .op (p1 37 (.build [.int .i64 0,.int .i64 0] [(0,1,.t 33),(1,1,.t 36)]) [2,5]),
   .op (o1 38 (ao 10 2)),
   .op (p1 39 (ao 38 1) [7]),
   .op (p1 40 (lf 39 1) [8]),
   .op (o1 41 (ao 10 2)),
   .op (p1 42 (ao 41 0) [10]),
   .op (p1 43 (lf 42 1) [11]),
   .op (p1 44 (.build [.int .i64 0,.int .i64 0] [(0,1,.t 40),(1,1,.t 43)]) [9,12])] 2 2 [
   o1 11 (.alloc [.int .i64 0,.int .i64 0] 123),
   o1 12 (.alloc [.int .i64 0,.int .i64 0] 123),
   ⟨none,.st (.t 11) (.t 37) 2,none,[0,1,2,3,4,5,6,14,15]⟩,
   ⟨none,.st (.t 12) (.t 44) 2,none,[0,1,2,3,4,5,6,7,8,9,10,11,12,13,14,15,16]⟩])
   (sr1 [
   o1 45 (.mv (cn 0))]
   (.block 2 (.loop (sr1 [
    o1 46 (.bin .lss (.t 45) (cn 2))]
    (.seq (.cond (.t 46)
    .skip
    (.exit 2))
    (.seq (.block 3 (sr1 [
     m1 47 45,
     m1 13 47]
     (.seq (.regd [0,1,2,3,4,5,6,7] [
     .op (m1 48 13),
     .op (p1 49 (.ixa (.t 5) (.t 48) 2 1) [0]),
     .op (p1 50 (lf 49 1) [1]),
     .op (m1 51 13),
     .op (p1 52 (.ixa (.t 11) (.t 51) 2 1) [3]),
     .op (p1 53 (lf 52 1) [4]),
     .op (p1 54 (.mm true [.t 50,.t 53]) [2,5]),
     .op (p1 14 (.mv (.t 54)) [0,1,2,3,4,5,6])] 0 0 [
])
 (.seq (.regd [0,1,2,3,4,5,6,7,8,9] [
 .op (m1 55 14),
 .op (m1 56 13),
 .op (p1 57 (.ixa (.t 7) (.t 56) 2 1) [1]),
 .op (p1 58 (lf 57 1) [2]),
 .op (p1 59 (.bin .add (.t 55) (.t 58)) [0,3]),
 .op (p1 60 (.bin .sub (.t 59) (cn 1)) [4]),
 .op (m1 61 13),
 .op (p1 62 (.ixa (.t 12) (.t 61) 2 1) [6]),
 .op (p1 63 (lf 62 1) [7]),
 .op (p1 64 (.bin .leq (.t 60) (.t 63)) [5,8])] 0 0 [
])
 (.cond (.t 64)
 (.reg [
  m1 65 13,
  m1 66 13,
  o1 67 (.ixa (.t 8) (.t 66) 2 1),
  o1 68 (lf 67 1),
  m1 69 14,
  o1 70 (.bsl 1 3 [.t 68,.t 69]),
  o1 71 (.call 94 [.t 70]),
  o1 72 (.ixa (.t 8) (.t 65) 2 1),
  ⟨none,.st (.t 72) (.t 71) 1,none,[]⟩])
 .skip)))))
 (.reg [
 o1 73 (.bin .add (.t 45) (cn 1)),
 m1 45 73]))))))))))
 (.reg [
 o1 74 (.bin .add (.t 27) (cn 1)),
 m1 27 74])))))))
 (sr1 [
 o1 75 (lt 8 2),
 ⟨none,.st (.t 6) (.t 75) 2,none,[]⟩]
 .ret)))))
def r68:List RV:=[.cell 6 2 true]
theorem t68:Qt1 Try.prog 68 c68 r68 76:=Xl Try.func68 rfl (by kernel_rfl) (by kernel_rfl) (by kernel_rfl) (by kernel_rfl)
def c69:SC:=(sr1 [
 o1 3 (.box (.t 0) 0 86),
 o1 5 (.box (.t 2) 0 29),
 o1 6 (.mv (cn 0))]
 (.seq (sr1 [
 o1 7 (.mv (cn 0))]
 (.block 0 (.loop (.seq (sr1 [
  m1 9 7,
  o1 10 (ao 3 4),
  o1 11 (lf 10 1),
  o1 12 (.len (.t 11)),
  o1 13 (.bin .lss (.t 9) (.t 12))]
  (.cond (.t 13)
  .skip
  (.exit 0)))
  (.seq (.block 1 (sr1 [
   m1 16 1,
   o1 17 (ao 3 4),
   o1 18 (lf 17 1),
   m1 19 7,
   o1 20 (.ixs (.t 18) (.t 19) 4),
   o1 21 (ao 20 0),
   o1 22 (ao 21 0),
   o1 23 (lf 22 1),
   o1 24 (.mm true [.t 16,.t 23]),
   m1 8 24]
   (.seq (.regd [0,1,2,3,4,5,6,7,8,9,10,11,12,13,14] [
   .op (m1 25 8),
   .op (o1 26 (lt 3 5)),
   .op (o1 27 (lt 5 2)),
   .op (p1 28 (.call 67 [.t 26,.t 27]) [1,2]),
   .op (p1 29 (.fld (.t 28) 0 1 false) [3]),
   .op (p1 30 (.bin .add (.t 25) (.t 29)) [0,4]),
   .op (p1 31 (.bin .sub (.t 30) (cn 1)) [5]),
   .op (o1 32 (ao 3 4)),
   .op (p1 33 (lf 32 1) [7]),
   .op (m1 34 7),
   .op (p1 35 (.ixs (.t 33) (.t 34) 4) [8,9]),
   .op (p1 36 (ao 35 2) [10]),
   .op (p1 37 (ao 36 1) [11]),
   .op (p1 38 (lf 37 1) [12]),
   .op (p1 39 (.bin .leq (.t 31) (.t 38)) [6,13])] 0 0 [
])
 (.cond (.t 39)
 (sr1 [
  m1 40 8,
  m1 6 40]
  .ret)
 .skip))))
 (.reg [
 m1 14 7,
 o1 15 (.bin .add (.t 14) (cn 1)),
 m1 7 15]))))))
 (sr1 [
 o1 6 (.mv (cn 100001))]
 .ret)))
def r69:List RV:=[.tmp 6]
theorem t69:Qt1 Try.prog 69 c69 r69 41:=Xl Try.func69 rfl (by kernel_rfl) (by kernel_rfl) (by kernel_rfl) (by kernel_rfl)
def c70:SC:=(sr1 [
 o1 3 (.box (.t 0) 0 86),
 o1 5 (.box (.t 2) 0 29),
 o1 6 (.mv (cn 0))]
 (.seq (sr1 [
 o1 7 (.mv (cn 0))]
 (.block 0 (.loop (.seq (sr1 [
  m1 9 7,
  o1 10 (ao 3 4),
  o1 11 (lf 10 1),
  o1 12 (.len (.t 11)),
  o1 13 (.bin .lss (.t 9) (.t 12))]
  (.cond (.t 13)
  .skip
  (.exit 0)))
  (.seq (.block 1 (sr1 [
   m1 16 1,
   o1 17 (ao 3 4),
   o1 18 (lf 17 1),
   m1 19 7,
   o1 20 (.ixs (.t 18) (.t 19) 4),
   o1 21 (ao 20 0),
   o1 22 (ao 21 1),
   o1 23 (lf 22 1),
   o1 24 (.mm true [.t 16,.t 23]),
   m1 8 24]
   (.seq (.regd [0,1,2,3,4,5,6,7,8,9,10,11,12,13,14] [
   .op (m1 25 8),
   .op (o1 26 (lt 3 5)),
   .op (o1 27 (lt 5 2)),
   .op (p1 28 (.call 67 [.t 26,.t 27]) [1,2]),
   .op (p1 29 (.fld (.t 28) 1 1 false) [3]),
   .op (p1 30 (.bin .add (.t 25) (.t 29)) [0,4]),
   .op (p1 31 (.bin .sub (.t 30) (cn 1)) [5]),
   .op (o1 32 (ao 3 4)),
   .op (p1 33 (lf 32 1) [7]),
   .op (m1 34 7),
   .op (p1 35 (.ixs (.t 33) (.t 34) 4) [8,9]),
   .op (p1 36 (ao 35 2) [10]),
   .op (p1 37 (ao 36 0) [11]),
   .op (p1 38 (lf 37 1) [12]),
   .op (p1 39 (.bin .leq (.t 31) (.t 38)) [6,13])] 0 0 [
])
 (.cond (.t 39)
 (sr1 [
  m1 40 8,
  m1 6 40]
  .ret)
 .skip))))
 (.reg [
 m1 14 7,
 o1 15 (.bin .add (.t 14) (cn 1)),
 m1 7 15]))))))
 (sr1 [
 o1 6 (.mv (cn 100001))]
 .ret)))
def r70:List RV:=[.tmp 6]
theorem t70:Qt1 Try.prog 70 c70 r70 41:=Xl Try.func70 rfl (by kernel_rfl) (by kernel_rfl) (by kernel_rfl) (by kernel_rfl)
def c89:SC:=(sr1 [
 o1 1 (.box (.t 0) 0 29),
 o1 2 (.mv (.c (.bool false)))]
 (sr1 [
 o1 3 (lt 1 2),
 o1 4 (.call 92 [.t 3,.c (.int .i64 1),.c (.int .i64 100000)]),
 m1 2 4]
 .ret))
def r89:List RV:=[.tmp 2]
theorem t89:Qt1 Try.prog 89 c89 r89 5:=Xl Try.func89 rfl (by kernel_rfl) (by kernel_rfl) (by kernel_rfl) (by kernel_rfl)
def c94:SC:=(sr1 [
 o1 2 (.mv (cn 0))]
 (sr1 [
 m1 3 0,
 o1 4 (.bsl 1 3 [.c (.int .i64 100001)]),
 o1 5 (.app 1 8 3 (.t 3) (.t 4)),
 o1 6 (.call 104 [.t 5]),
 m1 2 6]
 .ret))
def r94:List RV:=[.tmp 2]
theorem t94:Qt1 Try.prog 94 c94 r94 7:=Xl Try.func94 rfl (by kernel_rfl) (by kernel_rfl) (by kernel_rfl) (by kernel_rfl)
def c104:SC:=(sr1 [
 o1 2 (.mv (cn 0))]
 (.seq (sr1 [
 m1 5 0,
 o1 6 (.len (.t 5)),
 o1 7 (.bin .lss (.t 6) (cn 1))]
 (.cond (.t 7)
 (.reg [
  o1 8 (.raw (Go.Op.makeInterface 9 (Go.Operand.const (Go.Value.string { data:=#[115,108,105,99,101,115,46,77,105,110,58,32,101,109,112,116,121,32,108,105,115,116] }))) 20),
  ⟨none,.raw (Go.Op.panic (Go.Operand.tmp 8)) 0,none,[]⟩])
 .skip))
 (sr1 [
 m1 9 0,
 o1 10 (.ixs (.t 9) (cn 0) 1),
 o1 11 (lf 10 1),
 m1 3 11]
 (.seq (sr1 [
 o1 4 (.mv (cn 1))]
 (.block 0 (.loop (.seq (sr1 [
  m1 12 4,
  m1 13 0,
  o1 14 (.len (.t 13)),
  o1 15 (.bin .lss (.t 12) (.t 14))]
  (.cond (.t 15)
  .skip
  (.exit 0)))
  (.seq (.block 1 (.reg [
   m1 18 3,
   m1 19 0,
   m1 20 4,
   o1 21 (.ixs (.t 19) (.t 20) 1),
   o1 22 (lf 21 1),
   o1 23 (.mm false [.t 18,.t 22]),
   m1 3 23]))
  (.reg [
  m1 16 4,
  o1 17 (.bin .add (.t 16) (cn 1)),
  m1 4 17]))))))
 (sr1 [
 m1 24 3,
 m1 2 24]
 .ret)))))
def r104:List RV:=[.tmp 2]
theorem t104:Qt1 Try.prog 104 c104 r104 25:=Xl Try.func104 rfl (by kernel_rfl) (by kernel_rfl) (by kernel_rfl) (by kernel_rfl)
end Go.Proofs.Ytkjldleglbbkeaa
namespace Go.Azalai
structure Span where
 lo:Int
 hi:Int
deriving DecidableEq
structure Well where
 x:Int
 y:Int
 depth:Int
 yld:Span
 room:Int
 has:Span
 owner:Int
deriving DecidableEq
structure Gate where
 opens:Span
 shuts:Span
deriving DecidableEq
structure Leg where
 a:Int
 b:Int
 long:Span
 gates:List Gate
deriving DecidableEq
structure Land where
 wells:List Well
 legs:List Leg
deriving DecidableEq
structure Draw where
 well:Int
 day:Int
 water:Int
deriving DecidableEq
def inR (lo hi n:Int):Bool:=decide (lo<=n/\n<=hi)
def VO (lo hi:Int) (s:Span):Bool:=decide (lo<=s.lo/\s.lo<=s.hi/\s.hi<=hi)
def XA (w:Well):Bool :=
 inR (-10000000) 10000000 w.x && inR (-10000000) 10000000 w.y && inR 0 200 w.depth && VO 0 10000000 w.yld && inR 0 1000000000 w.room && VO 0 w.room w.has && inR 0 9999 w.owner
def Z8 (next:Int):List Gate->Bool
 | []=>true
 | g :: r=>VO 0 100000 g.opens && VO 0 100000 g.shuts && inR next g.shuts.hi g.opens.lo && Z8 (g.shuts.hi+1) r
def Xq (n:Int) (x:Leg):Bool :=
 inR 0 (n - 1) x.a && inR 0 (n - 1) x.b && x.a != x.b && VO 1 1000000 x.long && decide (x.gates.length<=6) && Z8 0 x.gates
def Yr (l:Land):Bool :=
 inR 1 12 l.wells.length && decide (l.legs.length<=24) && l.wells.all XA && l.legs.all (Xq l.wells.length)
def W6 {α : Type} (g:α->Bool):List α->Nat->Int
 | [],_=>-1
 | x :: l,k=>if g x then k else W6 g l (k+1)
theorem Zh4 {α : Type} (g:α->Bool):∀ (l:List α) (k:Nat),decide (W6 g l k ≥ 0)=l.any g
 | [],k=>by simp [W6]
 | x :: l,k=>by
  simp only [W6,List.any_cons]
  by_cases hg:g x=true
  . simp [hg]
  . simpa [hg] using Zh4 g l (k+1)
def Vw (l:Land):Prop:=l.wells.length<=1000/\l.legs.length<=1000/\∀ x ∈ l.legs,x.gates.length<=1000
def U8 (l:Land):Bool:=decide (l.wells.length > 20) || decide (l.legs.length > 40) || l.legs.any fun x=>decide (x.gates.length > 20)
theorem Zai {l:Land} (h:Yr l=true):1<=l.wells.length/\l.wells.length<=12/\l.legs.length<=24:=by
 simp only [Yr,Bool.and_eq_true,inR,decide_eq_true_eq] at h;omega
end Go.Azalai
namespace Go.Proofs.Ytkjldleglbbkeaa
open Go Go.Sx Go.Azalai
def Vi (n:Int):List SV:=[I n]
def Zi (s:Span):List SV:=[I s.lo,I s.hi]
def Ze (g:Gate):List SV:=[I g.opens.lo,I g.opens.hi,I g.shuts.lo,I g.shuts.hi]
def Zf (w:Well):List SV:=[I w.x,I w.y,I w.depth,I w.yld.lo,I w.yld.hi,I w.room,I w.has.lo,I w.has.hi,I w.owner]
def Zm (x:Leg):List SV:=[I x.a,I x.b,I x.long.lo,I x.long.hi,.sl false 4 (x.gates.map Ze)]
def Zt (l:Land):List SV:=[.sl false 9 (l.wells.map Zf),.sl false 5 (l.legs.map Zm)]
theorem V3 {α : Type} (g:α->Bool) (l:List α):decide (W6 g l 0 ≥ 0)=l.any g:=Zh4 g l 0
theorem ZtG (h:Nat) (caps:List SV) (hk:KFL caps) (g:Int->Bool) (l:List Int) (hg:∀ x ∈ l,Ct Try.prog h (I x :: caps) (B (g x))) (hl:l.length < 4611686018427387904) {c:Bool} :
 Ct Try.prog 101 [.sl c 1 (l.map Vi),.cl h caps] (I (W6 g l 0)):=by
 refine t101.1 ⟨by simp [KF,Za,KFL,Vi],hk,trivial⟩ (by simp [KF]) ?_
 dsimp only [c101,r101,go_sem,rA,rM,rS]
 refine Xw (fun k:Nat=>[(8,I k)]) (fun _=>[]) (fun k=>k<=l.length/\W6 g (l.drop k) k=W6 g l 0) (fun k=>l.length - k) 0 ⟨Nat.zero_le _,rfl⟩ ?_ ?_
 . (refine Zk ?_ ?_ ?_ rfl rfl<;>dsimp only [Vi,hk,id,go_sem,rA,rM,rS]<;>simp [Vi,hk,Za,Zd,KFR,KFL,KF,Zc,mtO,nbr])
 . intro k ⟨hk',hi⟩
   dsimp only [go_sem,rA,rM,rS]
   refine br ?_ ?_
   . intro hlt
     have hlt:k < l.length:=by simpa using hlt
     dsimp only [go_sem,rA,rM,rS]
     refine ZG k hlt rfl ?_
     dsimp only [Vi,go_sem,rA,rM,rS]
     refine call (hg l[k] (List.getElem_mem _)) ?_
     dsimp only [go_sem,rA,rM,rS]
     refine br ?_ ?_
     . intro hgx
       dsimp only [go_sem,rA,rM,rS]
       rw [<- hi,List.drop_eq_getElem_cons hlt]
       simp [W6,hgx]
     . intro hgx
       dsimp only [go_sem,rA,rM,rS]
       refine ⟨k+1,⟨by omega,?_⟩,by omega,?_⟩
       . rw [<- hi,List.drop_eq_getElem_cons hlt];simp [W6,hgx]
       . rw [Zn (by omega) (by omega)]
         (refine Zk ?_ ?_ ?_ rfl rfl<;>dsimp only [Vi,hk,id,go_sem,rA,rM,rS]<;>simp [Vi,hk,Za,Zd,KFR,KFL,KF,Zc,mtO,nbr])
   . intro hlt
     have hlt:k=l.length:=by simp at hlt;omega
     dsimp only [go_sem,rA,rM,rS]
     rw [<- hi,hlt];simp [W6]
theorem con90 (h:Nat) (caps:List SV) (hk:KFL caps) (g:Int->Bool) (l:List Int) (hg:∀ x ∈ l,Ct Try.prog h (I x :: caps) (B (g x))) (hl:l.length < 4611686018427387904) {c:Bool} :
 Ct Try.prog 90 [.sl c 1 (l.map Vi),.cl h caps] (B (l.any g)):=by
 refine t90.1 ⟨by simp [KF,Za,KFL,Vi],hk,trivial⟩ (by simp [KF]) ?_
 dsimp only [c90,r90,go_sem,rA,rM,rS]
 refine call (ZtG h caps hk g l hg hl) ?_
 dsimp only [go_sem,rA,rM,rS]
 rw [V3]
theorem idx95 (h:Nat) (caps:List SV) (hk:KFL caps) (g:Well->Bool) (l:List Well) (hg:∀ x ∈ l,Ct Try.prog h (.agg (Zf x) :: caps) (B (g x))) (hl:l.length < 4611686018427387904) {c:Bool} :
 Ct Try.prog 95 [.sl c 9 (l.map Zf),.cl h caps] (I (W6 g l 0)):=by
 refine t95.1 ⟨by simp [KF,Za,KFL,Zf],hk,trivial⟩ (by simp [KF]) ?_
 dsimp only [c95,r95,go_sem,rA,rM,rS]
 refine Xw (fun k:Nat=>[(8,I k)]) (fun _=>[]) (fun k=>k<=l.length/\W6 g (l.drop k) k=W6 g l 0) (fun k=>l.length - k) 0 ⟨Nat.zero_le _,rfl⟩ ?_ ?_
 . (refine Zk ?_ ?_ ?_ rfl rfl<;>dsimp only [Zf,hk,id,go_sem,rA,rM,rS]<;>simp [Zf,hk,Za,Zd,KFR,KFL,KF,Zc,mtO,nbr])
 . intro k ⟨hk',hi⟩
   dsimp only [go_sem,rA,rM,rS]
   refine br ?_ ?_
   . intro hlt
     have hlt:k < l.length:=by simpa using hlt
     dsimp only [go_sem,rA,rM,rS]
     refine ZG k hlt rfl ?_
     dsimp only [Zf,go_sem,rA,rM,rS]
     refine call (hg l[k] (List.getElem_mem _)) ?_
     dsimp only [go_sem,rA,rM,rS]
     refine br ?_ ?_
     . intro hgx
       dsimp only [go_sem,rA,rM,rS]
       rw [<- hi,List.drop_eq_getElem_cons hlt]
       simp [W6,hgx]
     . intro hgx
       dsimp only [go_sem,rA,rM,rS]
       refine ⟨k+1,⟨by omega,?_⟩,by omega,?_⟩
       . rw [<- hi,List.drop_eq_getElem_cons hlt];simp [W6,hgx]
       . rw [Zn (by omega) (by omega)]
         (refine Zk ?_ ?_ ?_ rfl rfl<;>dsimp only [Zf,hk,id,go_sem,rA,rM,rS]<;>simp [Zf,hk,Za,Zd,KFR,KFL,KF,Zc,mtO,nbr])
   . intro hlt
     have hlt:k=l.length:=by simp at hlt;omega
     dsimp only [go_sem,rA,rM,rS]
     rw [<- hi,hlt];simp [W6]
theorem con71 (h:Nat) (caps:List SV) (hk:KFL caps) (g:Well->Bool) (l:List Well) (hg:∀ x ∈ l,Ct Try.prog h (.agg (Zf x) :: caps) (B (g x))) (hl:l.length < 4611686018427387904) {c:Bool} :
 Ct Try.prog 71 [.sl c 9 (l.map Zf),.cl h caps] (B (l.any g)):=by
 refine t71.1 ⟨by simp [KF,Za,KFL,Zf],hk,trivial⟩ (by simp [KF]) ?_
 dsimp only [c71,r71,go_sem,rA,rM,rS]
 refine call (idx95 h caps hk g l hg hl) ?_
 dsimp only [go_sem,rA,rM,rS]
 rw [V3]
theorem idx96 (h:Nat) (caps:List SV) (hk:KFL caps) (g:Leg->Bool) (l:List Leg) (hg:∀ x ∈ l,Ct Try.prog h (.agg (Zm x) :: caps) (B (g x))) (hl:l.length < 4611686018427387904) {c:Bool} :
 Ct Try.prog 96 [.sl c 5 (l.map Zm),.cl h caps] (I (W6 g l 0)):=by
 refine t96.1 ⟨by simp [KF,Za,KFL,Zm,Ze],hk,trivial⟩ (by simp [KF]) ?_
 dsimp only [c96,r96,go_sem,rA,rM,rS]
 refine Xw (fun k:Nat=>[(8,I k)]) (fun _=>[]) (fun k=>k<=l.length/\W6 g (l.drop k) k=W6 g l 0) (fun k=>l.length - k) 0 ⟨Nat.zero_le _,rfl⟩ ?_ ?_
 . (refine Zk ?_ ?_ ?_ rfl rfl<;>dsimp only [Zm,Ze,hk,id,go_sem,rA,rM,rS]<;>simp [Zm,Ze,hk,Za,Zd,KFR,KFL,KF,Zc,mtO,nbr])
 . intro k ⟨hk',hi⟩
   dsimp only [go_sem,rA,rM,rS]
   refine br ?_ ?_
   . intro hlt
     have hlt:k < l.length:=by simpa using hlt
     dsimp only [go_sem,rA,rM,rS]
     refine ZG k hlt rfl ?_
     dsimp only [Zm,go_sem,rA,rM,rS]
     refine call (hg l[k] (List.getElem_mem _)) ?_
     dsimp only [go_sem,rA,rM,rS]
     refine br ?_ ?_
     . intro hgx
       dsimp only [go_sem,rA,rM,rS]
       rw [<- hi,List.drop_eq_getElem_cons hlt]
       simp [W6,hgx]
     . intro hgx
       dsimp only [go_sem,rA,rM,rS]
       refine ⟨k+1,⟨by omega,?_⟩,by omega,?_⟩
       . rw [<- hi,List.drop_eq_getElem_cons hlt];simp [W6,hgx]
       . rw [Zn (by omega) (by omega)]
         (refine Zk ?_ ?_ ?_ rfl rfl<;>dsimp only [Zm,Ze,hk,id,go_sem,rA,rM,rS]<;>simp [Zm,Ze,hk,Za,Zd,KFR,KFL,KF,Zc,mtO,nbr])
   . intro hlt
     have hlt:k=l.length:=by simp at hlt;omega
     dsimp only [go_sem,rA,rM,rS]
     rw [<- hi,hlt];simp [W6]
theorem con74 (h:Nat) (caps:List SV) (hk:KFL caps) (g:Leg->Bool) (l:List Leg) (hg:∀ x ∈ l,Ct Try.prog h (.agg (Zm x) :: caps) (B (g x))) (hl:l.length < 4611686018427387904) {c:Bool} :
 Ct Try.prog 74 [.sl c 5 (l.map Zm),.cl h caps] (B (l.any g)):=by
 refine t74.1 ⟨by simp [KF,Za,KFL,Zm,Ze],hk,trivial⟩ (by simp [KF]) ?_
 dsimp only [c74,r74,go_sem,rA,rM,rS]
 refine call (idx96 h caps hk g l hg hl) ?_
 dsimp only [go_sem,rA,rM,rS]
 rw [V3]
theorem ZuA (h:Nat) (caps:List SV) (hk:KFL caps) (g:Span->Bool) (l:List Span) (hg:∀ x ∈ l,Ct Try.prog h (.agg (Zi x) :: caps) (B (g x))) (hl:l.length < 4611686018427387904) {c:Bool} :
 Ct Try.prog 107 [.sl c 2 (l.map Zi),.cl h caps] (I (W6 g l 0)):=by
 refine t107.1 ⟨by simp [KF,Za,KFL,Zi],hk,trivial⟩ (by simp [KF]) ?_
 dsimp only [c107,r107,go_sem,rA,rM,rS]
 refine Xw (fun k:Nat=>[(8,I k)]) (fun _=>[]) (fun k=>k<=l.length/\W6 g (l.drop k) k=W6 g l 0) (fun k=>l.length - k) 0 ⟨Nat.zero_le _,rfl⟩ ?_ ?_
 . (refine Zk ?_ ?_ ?_ rfl rfl<;>dsimp only [Zi,hk,id,go_sem,rA,rM,rS]<;>simp [Zi,hk,Za,Zd,KFR,KFL,KF,Zc,mtO,nbr])
 . intro k ⟨hk',hi⟩
   dsimp only [go_sem,rA,rM,rS]
   refine br ?_ ?_
   . intro hlt
     have hlt:k < l.length:=by simpa using hlt
     dsimp only [go_sem,rA,rM,rS]
     refine ZG k hlt rfl ?_
     dsimp only [Zi,go_sem,rA,rM,rS]
     refine call (hg l[k] (List.getElem_mem _)) ?_
     dsimp only [go_sem,rA,rM,rS]
     refine br ?_ ?_
     . intro hgx
       dsimp only [go_sem,rA,rM,rS]
       rw [<- hi,List.drop_eq_getElem_cons hlt]
       simp [W6,hgx]
     . intro hgx
       dsimp only [go_sem,rA,rM,rS]
       refine ⟨k+1,⟨by omega,?_⟩,by omega,?_⟩
       . rw [<- hi,List.drop_eq_getElem_cons hlt];simp [W6,hgx]
       . rw [Zn (by omega) (by omega)]
         (refine Zk ?_ ?_ ?_ rfl rfl<;>dsimp only [Zi,hk,id,go_sem,rA,rM,rS]<;>simp [Zi,hk,Za,Zd,KFR,KFL,KF,Zc,mtO,nbr])
   . intro hlt
     have hlt:k=l.length:=by simp at hlt;omega
     dsimp only [go_sem,rA,rM,rS]
     rw [<- hi,hlt];simp [W6]
theorem ZtL (h:Nat) (caps:List SV) (hk:KFL caps) (g:Span->Bool) (l:List Span) (hg:∀ x ∈ l,Ct Try.prog h (.agg (Zi x) :: caps) (B (g x))) (hl:l.length < 4611686018427387904) {c:Bool} :
 Ct Try.prog 102 [.sl c 2 (l.map Zi),.cl h caps] (B (l.any g)):=by
 refine t102.1 ⟨by simp [KF,Za,KFL,Zi],hk,trivial⟩ (by simp [KF]) ?_
 dsimp only [c102,r102,go_sem,rA,rM,rS]
 refine call (ZuA h caps hk g l hg hl) ?_
 dsimp only [go_sem,rA,rM,rS]
 rw [V3]
theorem YK (n lo hi:Int):Ct Try.prog 61 [I n,I lo,I hi] (B (inR lo hi n)):=by
 refine t61.1 (by simp [KFL,KF]) (by simp [KFL,KF]) ?_
 dsimp only [c61,r61,go_sem,rA,rM,rS]
 refine gb ?_;dsimp only [go_sem,rA,rM,rS]
 refine gb ?_;dsimp only [go_sem,rA,rM,rS]
 refine gb ?_;dsimp only [go_sem,rA,rM,rS]
 simp [inR]
theorem Y1 (s:Span) (lo hi:Int):Ct Try.prog 92 [.agg (Zi s),I lo,I hi] (B (VO lo hi s)):=by
 refine t92.1 (by simp [Zi,KFL,KF]) (by simp [KFL,KF]) ?_
 dsimp only [c92,r92,Zi,go_sem,rA,rM,rS]
 refine call (YK _ _ _) ?_
 dsimp only [go_sem,rA,rM,rS]
 repeat (refine gb ?_;dsimp only [go_sem,rA,rM,rS])
 (simp only [VO,inR,Option.some.injEq,SV.v.injEq,Value.bool.injEq]<;>grind)
theorem ZmG (lo hi x:Int):Ct Try.prog 91 [I x,.ps [I lo] 0,.ps [I hi] 0] (B (!inR lo hi x)):=by
 refine t91.1 (by simp [KFL,KF]) (by simp [KFL,KF]) ?_
 dsimp only [c91,r91,go_sem,rA,rM,rS]
 repeat (refine gb ?_;dsimp only [go_sem,rA,rM,rS])
 (simp only [inR,Option.some.injEq,SV.v.injEq,Value.bool.injEq]<;>grind)
theorem Zdi (lo hi:Int) (l:List Int) (hl:l.length < 4611686018427387904) (c:Bool):Ct Try.prog 58 [I lo,I hi,.sl c 1 (l.map Vi)] (B (l.all (inR lo hi))):=by
 refine t58.1 (by simp [Za,Vi,KFL,KF]) (by simp [KFL,KF]) ?_
 dsimp only [c58,r58,go_sem,rA,rM,rS]
 refine ZmR (by simp [FLT]) (res:=B (l.any fun x=>!inR lo hi x)) ?_ ?_
 . dsimp only [go_sem,rA,rM,rS]
   exact con90 91 [.ps [I lo] 0,.ps [I hi] 0] (by simp [KFL,KF]) (fun x=>!inR lo hi x) l (fun x _=>ZmG lo hi x) hl
 . dsimp only [go_sem,rA,rM,rS]
   simp [List.all_eq_not_any_not]
theorem ZrA (lo hi a:Int) (c:Bool):Ct Try.prog 58 [I lo,I hi,.sl c 1 [[I a]]] (B (inR lo hi a)):=by
 have:=Zdi lo hi [a] (by simp) c
 simpa [Vi] using this
theorem Zf5 (lo hi a b:Int) (c:Bool):Ct Try.prog 58 [I lo,I hi,.sl c 1 [[I a],[I b]]] (B (inR lo hi a && inR lo hi b)):=by
 have:=Zdi lo hi [a,b] (by simp) c
 simpa [Vi] using this
theorem ZbW (lo hi:Int) (s:Span):Ct Try.prog 103 [.agg (Zi s),.ps [I lo] 0,.ps [I hi] 0] (B (!VO lo hi s)):=by
 refine t103.1 (by simp [Zi,KFL,KF]) (by simp [KFL,KF]) ?_
 dsimp only [c103,r103,Zi,go_sem,rA,rM,rS]
 repeat (first | (refine gb ?_;dsimp only [go_sem,rA,rM,rS]) | (refine call (Zf5 _ _ _ _ _) ?_;dsimp only [go_sem,rA,rM,rS]))
 (simp only [VO,inR,Option.some.injEq,SV.v.injEq,Value.bool.injEq]<;>grind)
theorem Ub (lo hi:Int) (l:List Span) (hl:l.length < 4611686018427387904) (c:Bool):Ct Try.prog 93 [I lo,I hi,.sl c 2 (l.map Zi)] (B (l.all (VO lo hi))):=by
 refine t93.1 (by simp [Za,Zi,KFL,KF]) (by simp [KFL,KF]) ?_
 dsimp only [c93,r93,go_sem,rA,rM,rS]
 refine ZmR (by simp [FLT]) (res:=B (l.any fun x=>!VO lo hi x)) ?_ ?_
 . dsimp only [go_sem,rA,rM,rS]
   exact ZtL 103 [.ps [I lo] 0,.ps [I hi] 0] (by simp [KFL,KF]) (fun x=>!VO lo hi x) l (fun x _=>ZbW lo hi x) hl
 . dsimp only [go_sem,rA,rM,rS]
   simp [List.all_eq_not_any_not]
theorem W5 (lo hi:Int) (s:Span) (c:Bool):Ct Try.prog 93 [I lo,I hi,.sl c 2 [[I s.lo,I s.hi]]] (B (VO lo hi s)):=by
 have:=Ub lo hi [s] (by simp) c
 simpa [Zi] using this
theorem ZiC (lo hi:Int) (s t:Span) (c:Bool):Ct Try.prog 93 [I lo,I hi,.sl c 2 [[I s.lo,I s.hi],[I t.lo,I t.hi]]] (B (VO lo hi s && VO lo hi t)):=by
 have:=Ub lo hi [s,t] (by simp) c
 simpa [Zi] using this
theorem ZtW (w:Well):Ct Try.prog 73 [.agg (Zf w)] (B (XA w)):=by
 refine t73.1 (by simp [Zf,KFL,KF]) (by simp [KFL,KF]) ?_
 dsimp only [c73,r73,Zf,go_sem,rA,rM,rS]
 repeat (first | (refine gb ?_;dsimp only [go_sem,rA,rM,rS]) | (refine call (ZrA _ _ _ _) ?_;dsimp only [go_sem,rA,rM,rS]) | (refine call (Zf5 _ _ _ _ _) ?_;dsimp only [go_sem,rA,rM,rS]) | (refine call (W5 _ _ w.yld _) ?_;dsimp only [go_sem,rA,rM,rS]) | (refine call (W5 _ _ w.has _) ?_;dsimp only [go_sem,rA,rM,rS]))
 simp [XA,Bool.and_assoc]
theorem ZdE (x:Leg) (n:Int) (h0:0<=n) (h1:n<=1000) (hg:x.gates.length < 4611686018427387904):Ct Try.prog 76 [.agg (Zm x),I n] (B (Xq n x)):=by
 have hw:IntKind.i64.wrap (n - 1)=n - 1:=Zn (by omega) (by omega)
 refine t76.1 (by simp [Zm,Za,Ze,KFL,KF]) (by simp [KFL,KF]) ?_
 dsimp only [c76,r76,Zm,hw,go_sem,rA,rM,rS]
 simp only [hw]
 repeat (first | (refine gb ?_;dsimp only [go_sem,rA,rM,rS]) | (refine call (Zf5 _ _ _ _ _) ?_;dsimp only [go_sem,rA,rM,rS]) | (refine call (W5 _ _ x.long _) ?_;dsimp only [go_sem,rA,rM,rS]))
 simp only [List.length_map]
 refine br ?_ ?_
 . intro h
   dsimp only [go_sem,rA,rM,rS]
   (simp only [Xq,Option.some.injEq,SV.v.injEq,Value.bool.injEq]<;>grind)
 . intro h
   dsimp only [go_sem,rA,rM,rS]
   have hh:Xq n x=Z8 0 x.gates:=by simp only [Xq];grind
   rw [hh]
   refine Xw (fun s:Nat × Int=>[(40,I s.1),(5,I s.2)]) (fun _=>[]) (fun s=>s.1<=x.gates.length/\Z8 s.2 (x.gates.drop s.1)=Z8 0 x.gates) (fun s=>x.gates.length - s.1) (0,0) ⟨Nat.zero_le _,rfl⟩ ?_ ?_
   . (refine Zk ?_ ?_ ?_ rfl rfl<;>dsimp only [Ze,id,go_sem,rA,rM,rS]<;>simp [Ze,Za,Zd,KFR,KFL,KF,Zc,mtO,nbr])
   . rintro ⟨k,next⟩ ⟨hk,hi⟩
     dsimp only [go_sem,rA,rM,rS]
     refine br ?_ ?_
     . intro hlt
       have hlt:k < x.gates.length:=by simpa using hlt
       dsimp only [go_sem,rA,rM,rS]
       refine ZG k hlt rfl ?_
       dsimp only [Ze,go_sem,rA,rM,rS]
       repeat (first | (refine gb ?_;dsimp only [go_sem,rA,rM,rS]) | (refine call (ZiC _ _ x.gates[k].opens x.gates[k].shuts _) ?_;dsimp only [go_sem,rA,rM,rS]) | (refine call (ZrA _ _ _ _) ?_;dsimp only [go_sem,rA,rM,rS]))
       have hd:x.gates.drop k=x.gates[k] :: x.gates.drop (k+1):=List.drop_eq_getElem_cons hlt
       refine br ?_ ?_
       . intro hb
         dsimp only [go_sem,rA,rM,rS]
         rw [<- hi,hd]
         (simp only [Z8,Option.some.injEq,SV.v.injEq,Value.bool.injEq]<;>grind)
       . intro hb
         dsimp only [go_sem,rA,rM,rS]
         have hs:VO 0 100000 x.gates[k].shuts=true:=by grind
         simp only [VO,decide_eq_true_eq] at hs
         rw [Zn (n:=x.gates[k].shuts.hi+1) (by omega) (by omega),Zn (n:=(k:Int)+1) (by omega) (by omega)]
         refine ⟨(k+1,x.gates[k].shuts.hi+1),⟨hlt,?_⟩,by simp only;omega,?_⟩
         . rw [<- hi,hd];simp only [Z8];grind
         . (refine Zk ?_ ?_ ?_ rfl rfl<;>dsimp only [Ze,id,go_sem,rA,rM,rS]<;>simp [Ze,Za,Zd,KFR,KFL,KF,Zc,mtO,nbr])
     . intro hlt
       have hlt:k=x.gates.length:=by simp at hlt;omega
       dsimp only [go_sem,rA,rM,rS]
       rw [<- hi,hlt];simp [Z8]
theorem Zqb (l:Land) (x:Leg) (hs:Vw l) (hx:x ∈ l.legs):Ct Try.prog 75 [.agg (Zm x),.ps (Zt l) 0] (B (!Xq l.wells.length x)):=by
 have hg:=hs.2.2 x hx
 refine t75.1 (by simp [Zm,Zt,Zf,Ze,Za,KFL,KF]) (by simp [KFL,KF]) ?_
 dsimp only [c75,r75,Zm,Zt,go_sem,rA,rM,rS]
 simp only [List.length_map]
 refine call (ZdE x l.wells.length (by omega) (by have:=hs.1;omega) (by omega)) ?_
 dsimp only [go_sem,rA,rM,rS]
theorem ZiS (w:Well):Ct Try.prog 72 [.agg (Zf w)] (B (!XA w)):=by
 refine t72.1 (by simp [Zf,KFL,KF]) (by simp [KFL,KF]) ?_
 dsimp only [c72,r72,Zf,go_sem,rA,rM,rS]
 refine call (ZtW w) ?_
 dsimp only [go_sem,rA,rM,rS]
theorem ZcC (l:Land) (hs:Vw l):Ct Try.prog 26 [.agg (Zt l)] (I (if Yr l=true then 0 else 30)):=by
 refine t26.1 (by simp [Zt,Zf,Zm,Ze,Za,KFL,KF]) (by simp [KFL,KF]) ?_
 dsimp only [c26,r26,Zt,go_sem,rA,rM,rS]
 refine call (con71 72 [] (by simp [KFL]) (fun w=>!XA w) l.wells (fun w _=>ZiS w) (by have:=hs.1;omega)) ?_
 dsimp only [go_sem,rA,rM,rS]
 refine ZmR (res:=B (l.legs.any fun x=>!Xq l.wells.length x)) (by simp [FLT]) ?_ ?_
 . dsimp only [go_sem,rA,rM,rS]
   exact con74 75 [.ps (Zt l) 0] (by simp [Zt,Zf,Zm,Ze,Za,KFL,KF]) (fun x=>!Xq l.wells.length x) l.legs (fun x hx=>Zqb l x hs hx) (by have:=hs.2.1;omega)
 dsimp only [go_sem,rA,rM,rS]
 repeat (first | (refine gb ?_;dsimp only [go_sem,rA,rM,rS]) | (refine call (ZrA _ _ _ _) ?_;dsimp only [go_sem,rA,rM,rS]))
 simp only [List.length_map]
 have key:Yr l = !(!inR 1 12 l.wells.length || decide ((l.legs.length:Int) > 24) || !(!l.wells.any fun w=>!XA w) || !(!l.legs.any fun x=>!Xq l.wells.length x)):=by
  simp only [Yr,List.all_eq_not_any_not];grind
 rw [key]
 refine br ?_ ?_
 . intro h
   dsimp only [go_sem,rA,rM,rS]
   rw [h];rfl
 . intro h
   dsimp only [go_sem,rA,rM,rS]
   rw [h];rfl
theorem ZjG (l:Land) (hs:Vw l):Ct Try.prog 60 [.agg (Zt l)] (B (Yr l)):=by
 have hw1:IntKind.i64.wrap ((l.wells.length:Int) - 1)=(l.wells.length:Int) - 1:=Zn (by omega) (by have:=hs.1;omega)
 refine t60.1 (by simp [Zt,Zf,Zm,Ze,Za,KFL,KF]) (by simp [KFL,KF]) ?_
 dsimp only [c60,r60,Zt,go_sem,rA,rM,rS]
 refine call (YK _ _ _) ?_
 dsimp only [go_sem,rA,rM,rS]
 repeat (refine gb ?_;dsimp only [go_sem,rA,rM,rS])
 simp only [List.length_map]
 refine br ?_ ?_
 . intro h
   dsimp only [go_sem,rA,rM,rS]
   have:Yr l=false:=by simp only [Yr];grind
   rw [this]
 intro h
 dsimp only [go_sem,rA,rM,rS]
 have ho1:Yr l=(l.wells.all XA && l.legs.all (Xq l.wells.length)):=by simp only [Yr];grind
 refine Xw (fun k:Nat=>[(3,I k)]) (fun _=>[]) (fun k=>k<=l.wells.length/\(l.wells.drop k).all XA=l.wells.all XA) (fun k=>l.wells.length - k) 0 ⟨Nat.zero_le _,rfl⟩ ?_ ?_
 . (refine Zk ?_ ?_ ?_ rfl rfl<;>dsimp only [Ze,Zf,Zm,id,go_sem,rA,rM,rS]<;>simp [Ze,Zf,Zm,Za,Zd,KFR,KFL,KF,Zc,mtO,nbr])
 intro k ⟨hk,hi⟩
 dsimp only [go_sem,rA,rM,rS]
 by_cases hlt:k < l.wells.length
 . refine YH (by simpa using hlt) ?_
   dsimp only [go_sem,rA,rM,rS]
   refine ZG k hlt rfl ?_
   dsimp only [Zf,go_sem,rA,rM,rS]
   repeat (first | (refine gb ?_;dsimp only [go_sem,rA,rM,rS]) | (refine call (YK _ _ _) ?_;dsimp only [go_sem,rA,rM,rS]) | (refine call (Y1 l.wells[k].yld _ _) ?_;dsimp only [go_sem,rA,rM,rS]) | (refine call (Y1 l.wells[k].has _ _) ?_;dsimp only [go_sem,rA,rM,rS]))
   rw [List.drop_eq_getElem_cons hlt,List.all_cons] at hi
   refine br ?_ ?_
   . intro hb
     dsimp only [go_sem,rA,rM,rS]
     have:XA l.wells[k]=false:=by simp only [XA];grind
     rw [ho1,<- hi,this];rfl
   . intro hb
     dsimp only [go_sem,rA,rM,rS]
     rw [Zn (n:=(k:Int)+1) (by omega) (by have:=hs.1;omega)]
     have:XA l.wells[k]=true:=by simp only [XA];grind
     rw [this,Bool.true_and] at hi
     refine ⟨k+1,⟨hlt,hi⟩,by omega,?_⟩
     (refine Zk ?_ ?_ ?_ rfl rfl<;>dsimp only [Ze,Zf,Zm,id,go_sem,rA,rM,rS]<;>simp [Ze,Zf,Zm,Za,Zd,KFR,KFL,KF,Zc,mtO,nbr])
 refine Yi (by simp;omega) ?_
 dsimp only [go_sem,rA,rM,rS]
 have hke:k=l.wells.length:=by omega
 subst hke
 rw [List.drop_length] at hi
 rw [<- hi] at ho1
 rw [show Yr l=l.legs.all (Xq l.wells.length) from by rw [ho1];simp]
 refine Xw (fun k:Nat=>[(5,I k)]) (fun _=>[]) (fun k=>k<=l.legs.length/\(l.legs.drop k).all (Xq l.wells.length)=l.legs.all (Xq l.wells.length)) (fun k=>l.legs.length - k) 0 ⟨Nat.zero_le _,rfl⟩ ?_ ?_
 . (refine Zk ?_ ?_ ?_ rfl rfl<;>dsimp only [Ze,Zf,Zm,id,go_sem,rA,rM,rS]<;>simp [Ze,Zf,Zm,Za,Zd,KFR,KFL,KF,Zc,mtO,nbr])
 intro k ⟨hk,hi⟩
 dsimp only [go_sem,rA,rM,rS]
 by_cases hlt:k < l.legs.length
 . refine YH (by simpa using hlt) ?_
   dsimp only [go_sem,rA,rM,rS]
   refine ZG k hlt rfl ?_
   dsimp only [Zm,go_sem,rA,rM,rS]
   simp only [List.length_map,hw1]
   repeat (first | (refine gb ?_;dsimp only [go_sem,rA,rM,rS]) | (refine call (YK _ _ _) ?_;dsimp only [go_sem,rA,rM,rS]) | (refine call (Y1 l.legs[k].long _ _) ?_;dsimp only [go_sem,rA,rM,rS]))
   rw [List.drop_eq_getElem_cons hlt,List.all_cons] at hi
   simp only [List.length_map]
   have hgl:=hs.2.2 l.legs[k] (List.getElem_mem _)
   generalize l.legs[k]=x at *
   refine br ?_ ?_
   . intro hb
     dsimp only [go_sem,rA,rM,rS]
     have:Xq l.wells.length x=false:=by simp only [Xq];grind
     rw [<- hi,this];rfl
   . intro hb
     dsimp only [go_sem,rA,rM,rS]
     have hx:Xq l.wells.length x=Z8 0 x.gates:=by simp only [Xq];grind
     refine Xw (fun s:Nat × Int=>[(8,I s.1),(7,I s.2)]) (fun _=>[]) (fun s=>s.1<=x.gates.length/\Z8 (s.2+1) (x.gates.drop s.1)=Z8 0 x.gates) (fun s=>x.gates.length - s.1) (0,-1) ⟨Nat.zero_le _,rfl⟩ ?_ ?_
     . (refine Zk ?_ ?_ ?_ rfl rfl<;>dsimp only [Ze,Zf,Zm,id,go_sem,rA,rM,rS]<;>simp [Ze,Zf,Zm,Za,Zd,KFR,KFL,KF,Zc,mtO,nbr])
     rintro ⟨j,last⟩ ⟨hj,hji⟩
     simp only at hj hji
     dsimp only [go_sem,rA,rM,rS]
     by_cases hlt2:j < x.gates.length
     . refine YH (by simpa using hlt2) ?_
       dsimp only [go_sem,rA,rM,rS]
       refine ZG j hlt2 rfl ?_
       dsimp only [Ze,go_sem,rA,rM,rS]
       repeat (first | (refine gb ?_;dsimp only [go_sem,rA,rM,rS]) | (refine call (Y1 x.gates[j].opens _ _) ?_;dsimp only [go_sem,rA,rM,rS]) | (refine call (Y1 x.gates[j].shuts _ _) ?_;dsimp only [go_sem,rA,rM,rS]))
       rw [List.drop_eq_getElem_cons hlt2] at hji
       simp only [Z8] at hji
       refine br ?_ ?_
       . intro hb2
         dsimp only [go_sem,rA,rM,rS]
         have:Xq l.wells.length x=false:=by rw [hx,<- hji];simp only [inR];grind
         rw [<- hi,this];rfl
       . intro hb2
         dsimp only [go_sem,rA,rM,rS]
         rw [Zn (n:=(j:Int)+1) (by omega) (by omega)]
         refine ⟨(j+1,x.gates[j].shuts.hi),⟨hlt2,?_⟩,by simp only;omega,?_⟩
         . simp only;rw [<- hji];simp only [inR];grind
         . (refine Zk ?_ ?_ ?_ rfl rfl<;>dsimp only [Ze,Zf,Zm,id,go_sem,rA,rM,rS]<;>simp [Ze,Zf,Zm,Za,Zd,KFR,KFL,KF,Zc,mtO,nbr])
     . refine Yi (by simp;omega) ?_
       dsimp only [go_sem,rA,rM,rS]
       rw [Zn (n:=(k:Int)+1) (by omega) (by have:=hs.2.1;omega)]
       have hje:j=x.gates.length:=by omega
       subst hje
       rw [List.drop_length] at hji
       simp only [Z8] at hji
       rw [hx,<- hji,Bool.true_and] at hi
       refine ⟨k+1,⟨hlt,hi⟩,by omega,?_⟩
       (refine Zk ?_ ?_ ?_ rfl rfl<;>dsimp only [Ze,Zf,Zm,id,go_sem,rA,rM,rS]<;>simp [Ze,Zf,Zm,Za,Zd,KFR,KFL,KF,Zc,mtO,nbr])
 refine Yi (by simp;omega) ?_
 dsimp only [go_sem,rA,rM,rS]
 have hke:k=l.legs.length:=by omega
 subst hke
 rw [List.drop_length] at hi
 rw [<- hi];rfl
theorem ZmW (l:Land):Ct Try.prog 16 [.agg (Zt l)] (B (U8 l)):=by
 refine t16.1 (by simp [Zt,Zf,Zm,Ze,Za,KFL,KF]) (by simp [KFL,KF]) ?_
 dsimp only [c16,r16,Zt,go_sem,rA,rM,rS]
 repeat (refine gb ?_;dsimp only [go_sem,rA,rM,rS])
 simp only [List.length_map]
 refine br ?_ ?_
 . intro h
   dsimp only [go_sem,rA,rM,rS]
   (simp only [U8,Option.some.injEq,SV.v.injEq,Value.bool.injEq]<;>grind)
 intro h
 dsimp only [go_sem,rA,rM,rS]
 have hg:U8 l=l.legs.any fun x=>decide (x.gates.length > 20):=by simp only [U8];grind
 have hlen:l.legs.length<=40:=by grind
 rw [hg]
 refine Xw (fun k:Nat=>[(3,I k)]) (fun _=>[]) (fun k=>k<=l.legs.length/\((l.legs.drop k).any fun x=>decide (x.gates.length > 20))=l.legs.any fun x=>decide (x.gates.length > 20)) (fun k=>l.legs.length - k) 0 ⟨Nat.zero_le _,rfl⟩ ?_ ?_
 . (refine Zk ?_ ?_ ?_ rfl rfl<;>dsimp only [Ze,Zf,Zm,id,go_sem,rA,rM,rS]<;>simp [Ze,Zf,Zm,Za,Zd,KFR,KFL,KF,Zc,mtO,nbr])
 intro k ⟨hk,hi⟩
 dsimp only [go_sem,rA,rM,rS]
 by_cases hlt:k < l.legs.length
 . refine YH (by simpa using hlt) ?_
   dsimp only [go_sem,rA,rM,rS]
   refine ZG k hlt rfl ?_
   dsimp only [Zm,go_sem,rA,rM,rS]
   rw [List.drop_eq_getElem_cons hlt,List.any_cons] at hi
   refine br ?_ ?_
   . intro hb
     dsimp only [go_sem,rA,rM,rS]
     have:decide (l.legs[k].gates.length > 20)=true:=by simp at hb ⊢;omega
     rw [<- hi,this];rfl
   . intro hb
     dsimp only [go_sem,rA,rM,rS]
     rw [Zn (n:=(k:Int)+1) (by omega) (by omega)]
     have:decide (l.legs[k].gates.length > 20)=false:=by simp at hb ⊢;omega
     rw [this,Bool.false_or] at hi
     refine ⟨k+1,⟨hlt,hi⟩,by omega,?_⟩
     (refine Zk ?_ ?_ ?_ rfl rfl<;>dsimp only [Ze,Zf,Zm,id,go_sem,rA,rM,rS]<;>simp [Ze,Zf,Zm,Za,Zd,KFR,KFL,KF,Zc,mtO,nbr])
 refine Yi (by simp;omega) ?_
 dsimp only [go_sem,rA,rM,rS]
 have hke:k=l.legs.length:=by omega
 subst hke
 rw [List.drop_length] at hi
 rw [<- hi];rfl
end Go.Proofs.Ytkjldleglbbkeaa
namespace Go.Azalai
def ZY (p:Span):Bool:=VO 1 100000 p
def ZaV (l:Land) (p:Span):Int:=if Yr l=false then 30 else if ZY p=false then 31 else 0
def WW (x:Leg) (p:Span):Span:=⟨(x.long.lo+p.hi - 1).tdiv p.hi,(x.long.hi+p.lo - 1).tdiv p.lo⟩
def WN (n day:Int) (o s:Gate->Int):List Gate->Int
 | []=>100001
 | g :: r=>if max day (o g)+n - 1<=s g then max day (o g) else WN n day o s r
def Zb3 (n day:Int) (o s:Gate->Int) (acc:Int):List Gate->Int
 | []=>acc
 | g :: r=>Zb3 n day o s (if max day (o g)+n - 1<=s g then min (min acc (max day (o g))) 100001 else acc) r
def Znl (x:Leg) (p:Span) (day:Int):Int:=WN (WW x p).lo day (·.opens.lo) (·.shuts.hi) x.gates
def ZeO (x:Leg) (p:Span) (day:Int):Int:=WN (WW x p).hi day (·.opens.hi) (·.shuts.lo) x.gates
structure GoodLeg (x:Leg):Prop where
 l1:1<=x.long.lo
 l2:x.long.lo<=x.long.hi
 l3:x.long.hi<=1000000
 g1:x.gates.length<=6
 g2:Z8 0 x.gates=true
theorem Vs {l:Land} (h:Yr l=true):∀ x ∈ l.legs,GoodLeg x:=by
 simp only [Yr,Bool.and_eq_true,List.all_eq_true] at h
 intro x hx
 have:=h.2 x hx
 simp only [Xq,VO,Bool.and_eq_true,decide_eq_true_eq] at this
 exact ⟨by omega,by omega,by omega,by omega,this.2⟩
theorem Ym:∀ {l:List Gate} {next:Int},Z8 next l=true->0<=next->∀ g ∈ l,0<=g.opens.lo/\g.opens.lo<=g.opens.hi/\g.opens.hi<=100000/\0<=g.shuts.lo/\g.shuts.lo<=g.shuts.hi/\g.shuts.hi<=100000/\next<=g.opens.lo
 | [],_,_,_,g,hg=>by simp at hg
 | x :: l,next,h,h0,g,hg=>by
  simp only [Z8,VO,inR,Bool.and_eq_true,decide_eq_true_eq] at h
  rcases List.mem_cons.1 hg with rfl | hg
  . omega
  . have:=Ym h.2 (by omega) g hg;omega
theorem Zay {n day:Int} {o s:Gate->Int} (hn:1<=n) (ho:∀ g,(0<=g.opens.lo/\g.opens.lo<=g.opens.hi/\g.opens.hi<=100000/\0<=g.shuts.lo/\g.shuts.lo<=g.shuts.hi/\g.shuts.hi<=100000)->g.opens.lo<=o g/\s g<=g.shuts.hi) :
 ∀ {l:List Gate} {next acc:Int},Z8 next l=true->0<=next->acc<=100001->Zb3 n day o s acc l=min acc (WN n day o s l)
 | [],next,acc,_,_,ha=>by simp only [Zb3,WN];omega
 | x :: l,next,acc,h,h0,ha=>by
  have hm:=Ym h h0 x (by simp)
  simp only [Z8,VO,inR,Bool.and_eq_true,decide_eq_true_eq] at h
  have h1:=ho x ⟨hm.1,hm.2.1,hm.2.2.1,hm.2.2.2.1,hm.2.2.2.2.1,hm.2.2.2.2.2.1⟩
  have hrest:∀ (l:List Gate),(∀ g ∈ l,x.shuts.hi+1<=o g)->x.shuts.hi+1<=WN n day o s l:=fun l=>by
   induction l with
   | nil=>intro _;simp only [WN];omega
   | cons g l ih=>intro hg;simp only [WN];have:=hg g (by simp);have:=ih (fun g' h'=>hg g' (by simp [h']));split<;>omega
  have hr:=hrest l (fun g hg=>by
   have q:=Ym h.2 (by omega) g hg
   have:=ho g ⟨q.1,q.2.1,q.2.2.1,q.2.2.2.1,q.2.2.2.2.1,q.2.2.2.2.2.1⟩
   omega)
  simp only [Zb3,WN]
  rw [Zay hn ho h.2 (by omega) (by split<;>omega)]
  repeat' split
  all_goals first | rfl | omega
theorem VB {x:Leg} {p:Span} (h:GoodLeg x) (hp:ZY p=true):1<=(WW x p).lo/\(WW x p).lo<=1000000/\1<=(WW x p).hi/\(WW x p).hi<=1000000:=by
 simp only [ZY,VO,decide_eq_true_eq] at hp
 obtain ⟨p1,p2,p3⟩:=hp
 obtain ⟨h1,h2,h3,_,_⟩:=h
 simp only [WW]
 have key:∀ a b:Int,1<=a->a<=1000000->1<=b->1<=(a+b - 1).tdiv b/\(a+b - 1).tdiv b<=1000000:=fun a b ha ha2 hb=>by
  rw [Int.tdiv_eq_ediv_of_nonneg (by omega)]
  constructor
  . exact Int.le_ediv_of_mul_le (by omega) (by omega)
  . refine Int.le_of_lt_add_one (Int.ediv_lt_of_lt_mul (by omega) ?_)
    have:1 * a<=b * a:=Int.mul_le_mul_of_nonneg_right hb (by omega)
    have e:(1000000+1) * b=b * 1000000+b:=by rw [Int.add_mul];omega
    have:b * a<=b * 1000000:=Int.mul_le_mul_of_nonneg_left ha2 (by omega)
    rw [e]
    have:=Int.mul_le_mul_of_nonneg_left ha2 (show (0:Int)<=b - 1 by omega)
    have q:(b - 1) * a=b * a - a:=by rw [Int.sub_mul];omega
    have q2:(b - 1) * 1000000=b * 1000000 - 1000000:=by rw [Int.sub_mul];omega
    omega
 exact ⟨(key _ _ h1 (by omega) (by omega)).1,(key _ _ h1 (by omega) (by omega)).2,(key _ _ (by omega) h3 p1).1,(key _ _ (by omega) h3 p1).2⟩
end Go.Azalai
namespace Go.Proofs.Ytkjldleglbbkeaa
open Go Go.Sx Go.Azalai
theorem ZjZ (p:Span):Ct Try.prog 89 [.agg (Zi p)] (B (ZY p)):=by
 refine t89.1 (by simp [Zi,KFL,KF]) (by simp [KFL,KF]) ?_
 dsimp only [c89,r89,Zi,go_sem,rA,rM,rS]
 refine call (Y1 p _ _) ?_
 dsimp only [go_sem,rA,rM,rS]
 simp [ZY]
theorem Znx (l:Land) (hs:Vw l) (p:Span):Ct Try.prog 66 [.agg (Zt l),.agg (Zi p)] (I (ZaV l p)):=by
 refine t66.1 (by simp [Zt,Zf,Zm,Ze,Zi,Za,KFL,KF]) (by simp [KFL,KF]) ?_
 dsimp only [c66,r66,Zt,Zi,go_sem,rA,rM,rS]
 refine call (ZjG l hs) ?_
 dsimp only [go_sem,rA,rM,rS]
 refine br ?_ ?_
 . intro h
   dsimp only [go_sem,rA,rM,rS]
   have:Yr l=false:=by simpa using h
   simp [ZaV,this]
 intro h
 dsimp only [go_sem,rA,rM,rS]
 refine call (ZjZ p) ?_
 dsimp only [go_sem,rA,rM,rS]
 refine br ?_ ?_
 . intro h2
   dsimp only [go_sem,rA,rM,rS]
   have:ZY p=false:=by simpa using h2
   simp_all [ZaV]
 . intro h2
   dsimp only [go_sem,rA,rM,rS]
   have:ZY p=true:=by simpa using h2
   simp_all [ZaV]
theorem Uc (x:Leg) (p:Span) (hx:GoodLeg x) (hp:ZY p=true):Ct Try.prog 67 [.agg (Zm x),.agg (Zi p)] (.agg (Zi (WW x p))):=by
 have hb:=VB hx hp
 have hp':=hp
 simp only [ZY,VO,decide_eq_true_eq] at hp'
 obtain ⟨h1,h2,h3,h4,h5⟩:=hx
 refine t67.1 (by simp [Zm,Ze,Zi,Za,KFL,KF]) (by simp [Zi,KFL,KF]) ?_
 dsimp only [c67,r67,Zm,Zi,go_sem,rA,rM,rS]
 rw [Zn (n:=x.long.lo+p.hi) (by omega) (by omega),Zn (n:=x.long.lo+p.hi - 1) (by omega) (by omega)]
 refine ZuQ (by omega) ?_
 dsimp only [go_sem,rA,rM,rS]
 rw [Zn (n:=x.long.hi+p.lo) (by omega) (by omega),Zn (n:=x.long.hi+p.lo - 1) (by omega) (by omega)]
 refine ZuQ (by omega) ?_
 dsimp only [go_sem,rA,rM,rS]
 simp only [WW] at hb ⊢
 rw [Zn (n:=(x.long.lo+p.hi - 1).tdiv p.hi) (by omega) (by omega),Zn (n:=(x.long.hi+p.lo - 1).tdiv p.lo) (by omega) (by omega)]
theorem ZtX (x:Leg) (day:Int) (p:Span) (hx:GoodLeg x) (hp:ZY p=true) (hd:inR 0 100001 day=true):Ct Try.prog 69 [.agg (Zm x),I day,.agg (Zi p)] (I (Znl x p day)):=by
 have hb:=VB hx hp
 have hg:=Ym hx.g2 (Int.le_refl _)
 have hl:=hx.g1
 simp only [inR,decide_eq_true_eq] at hd
 refine t69.1 (by simp [Zm,Ze,Zi,Za,KFL,KF]) (by simp [KFL,KF]) ?_
 dsimp only [c69,r69,Zm,Zi,go_sem,rA,rM,rS]
 refine Xw (fun k:Nat=>[(7,I k)]) (fun _=>[]) (fun k=>k<=x.gates.length/\WN (WW x p).lo day (·.opens.lo) (·.shuts.hi) (x.gates.drop k)=Znl x p day) (fun k=>x.gates.length - k) 0 ⟨Nat.zero_le _,rfl⟩ ?_ ?_
 . (refine Zk ?_ ?_ ?_ rfl rfl<;>dsimp only [Ze,Zm,Zi,id,go_sem,rA,rM,rS]<;>simp [Ze,Zm,Zi,Za,Zd,KFR,KFL,KF,Zc,mtO,nbr])
 intro k ⟨hk,hi⟩
 dsimp only [go_sem,rA,rM,rS]
 by_cases hlt:k < x.gates.length
 . refine YH (by simpa using hlt) ?_
   dsimp only [go_sem,rA,rM,rS]
   have hgk:=hg x.gates[k] (List.getElem_mem _)
   rw [List.drop_eq_getElem_cons hlt,WN] at hi
   refine ZG k hlt rfl ?_
   dsimp only [Ze,go_sem,rA,rM,rS]
   repeat (first | (refine gb ?_;dsimp only [go_sem,rA,rM,rS]) | (refine call (Uc x p hx hp) ?_;dsimp only [Zi,go_sem,rA,rM,rS]) | (refine ZG k hlt rfl ?_;dsimp only [Ze,go_sem,rA,rM,rS]))
   rw [Zn (n:=max day x.gates[k].opens.lo+(WW x p).lo) (by omega) (by omega),Zn (n:=max day x.gates[k].opens.lo+(WW x p).lo - 1) (by omega) (by omega)]
   refine br ?_ ?_
   . intro h
     dsimp only [go_sem,rA,rM,rS]
     rw [if_pos (by simpa using h)] at hi
     rw [<- hi]
   . intro h
     dsimp only [go_sem,rA,rM,rS]
     rw [if_neg (by simpa using h)] at hi
     rw [Zn (n:=(k:Int)+1) (by omega) (by omega)]
     refine ⟨k+1,⟨hlt,hi⟩,by omega,?_⟩
     (refine Zk ?_ ?_ ?_ rfl rfl<;>dsimp only [Ze,Zm,Zi,id,go_sem,rA,rM,rS]<;>simp [Ze,Zm,Zi,Za,Zd,KFR,KFL,KF,Zc,mtO,nbr])
 refine Yi (by simp;omega) ?_
 dsimp only [go_sem,rA,rM,rS]
 have hke:k=x.gates.length:=by omega
 subst hke
 rw [List.drop_length,WN] at hi
 rw [<- hi]
theorem ZnO (x:Leg) (day:Int) (p:Span) (hx:GoodLeg x) (hp:ZY p=true) (hd:inR 0 100001 day=true):Ct Try.prog 70 [.agg (Zm x),I day,.agg (Zi p)] (I (ZeO x p day)):=by
 have hb:=VB hx hp
 have hg:=Ym hx.g2 (Int.le_refl _)
 have hl:=hx.g1
 simp only [inR,decide_eq_true_eq] at hd
 refine t70.1 (by simp [Zm,Ze,Zi,Za,KFL,KF]) (by simp [KFL,KF]) ?_
 dsimp only [c70,r70,Zm,Zi,go_sem,rA,rM,rS]
 refine Xw (fun k:Nat=>[(7,I k)]) (fun _=>[]) (fun k=>k<=x.gates.length/\WN (WW x p).hi day (·.opens.hi) (·.shuts.lo) (x.gates.drop k)=ZeO x p day) (fun k=>x.gates.length - k) 0 ⟨Nat.zero_le _,rfl⟩ ?_ ?_
 . (refine Zk ?_ ?_ ?_ rfl rfl<;>dsimp only [Ze,Zm,Zi,id,go_sem,rA,rM,rS]<;>simp [Ze,Zm,Zi,Za,Zd,KFR,KFL,KF,Zc,mtO,nbr])
 intro k ⟨hk,hi⟩
 dsimp only [go_sem,rA,rM,rS]
 by_cases hlt:k < x.gates.length
 . refine YH (by simpa using hlt) ?_
   dsimp only [go_sem,rA,rM,rS]
   have hgk:=hg x.gates[k] (List.getElem_mem _)
   rw [List.drop_eq_getElem_cons hlt,WN] at hi
   refine ZG k hlt rfl ?_
   dsimp only [Ze,go_sem,rA,rM,rS]
   repeat (first | (refine gb ?_;dsimp only [go_sem,rA,rM,rS]) | (refine call (Uc x p hx hp) ?_;dsimp only [Zi,go_sem,rA,rM,rS]) | (refine ZG k hlt rfl ?_;dsimp only [Ze,go_sem,rA,rM,rS]))
   rw [Zn (n:=max day x.gates[k].opens.hi+(WW x p).hi) (by omega) (by omega),Zn (n:=max day x.gates[k].opens.hi+(WW x p).hi - 1) (by omega) (by omega)]
   refine br ?_ ?_
   . intro h
     dsimp only [go_sem,rA,rM,rS]
     rw [if_pos (by simpa using h)] at hi
     rw [<- hi]
   . intro h
     dsimp only [go_sem,rA,rM,rS]
     rw [if_neg (by simpa using h)] at hi
     rw [Zn (n:=(k:Int)+1) (by omega) (by omega)]
     refine ⟨k+1,⟨hlt,hi⟩,by omega,?_⟩
     (refine Zk ?_ ?_ ?_ rfl rfl<;>dsimp only [Ze,Zm,Zi,id,go_sem,rA,rM,rS]<;>simp [Ze,Zm,Zi,Za,Zd,KFR,KFL,KF,Zc,mtO,nbr])
 refine Yi (by simp;omega) ?_
 dsimp only [go_sem,rA,rM,rS]
 have hke:k=x.gates.length:=by omega
 subst hke
 rw [List.drop_length,WN] at hi
 rw [<- hi]
theorem ask0 {l:Land} {p:Span} (h:ZaV l p=0):Yr l=true/\ZY p=true:=by
 unfold ZaV at h
 cases h1:Yr l<;>cases h2:ZY p<;>simp_all
theorem ZpG (a b d:Int) (c:Bool):Ct Try.prog 104 [.sl c 1 [[I a],[I b],[I d]]] (I (min (min a b) d)):=by
 refine t104.1 (by simp [KFR,KFL,KF]) (by simp [KFL,KF]) ?_
 dsimp only [c104,r104,go_sem,rA,rM,rS]
 refine Yi (by decide) ?_
 dsimp only [go_sem,rA,rM,rS]
 refine ixs 0 [I a] rfl rfl ?_
 dsimp only [go_sem,rA,rM,rS]
 refine ZaW 3 ?_
 dsimp only [Zj,go_sem,rA,rM,rS]
 refine YH (by decide) ?_
 dsimp only [Zj,go_sem,rA,rM,rS]
 refine ixs 1 [I b] rfl rfl ?_
 dsimp only [Zj,go_sem,rA,rM,rS]
 refine YH (by decide) ?_
 dsimp only [Zj,go_sem,rA,rM,rS]
 refine ixs 2 [I d] rfl rfl ?_
 dsimp only [Zj,go_sem,rA,rM,rS]
 refine Yi (by decide) ?_
 dsimp only [go_sem,rA,rM,rS]
theorem Wc (a b:Int):Ct Try.prog 94 [.sl true 1 [[I a],[I b]]] (I (min (min a b) 100001)):=by
 refine t94.1 (by simp [KFR,KFL,KF]) (by simp [KFL,KF]) ?_
 dsimp only [c94,r94,go_sem,rA,rM,rS]
 refine ZsF (by simp) ?_
 dsimp only [go_sem,rA,rM,rS]
 refine call (ZpG a b 100001 false) ?_
 dsimp only [go_sem,rA,rM,rS]
theorem ZbQ {n day:Int} {o s:Gate->Int} (hn:1<=n):∀ {l:List Gate},(∀ g ∈ l,s g<=100000)->WN n day o s l<=100001
 | [],_=>by simp only [WN];omega
 | x :: l,h=>by
  have:=h x (by simp)
  have:=ZbQ (day:=day) (o:=o) (s:=s) (l:=l) hn (fun g hg=>h g (by simp [hg]))
  simp only [WN];split<;>omega
def Z7 (l:Land) (p:Span):List SV:=[.sl false 9 (l.wells.map Zf),.sl false 5 (l.legs.map Zm),I p.lo,I p.hi]
theorem ZqR (l:Land) (hs:Vw l) (p:Span) (ha:ZaV l p=0):Ct Try.prog 63 [.agg (Zt l),.agg (Zi p)] (.tup [.agg (Z7 l p),I 0]):=by
 obtain ⟨h1,h2⟩:=ask0 ha
 refine t63.1 (by simp [Zt,Zf,Zm,Ze,Zi,Za,KFL,KF]) (by simp [Z7,Zf,Zm,Ze,Zi,Za,KFL,KF]) ?_
 dsimp only [c63,r63,Zt,Zi,go_sem,rA,rM,rS]
 refine call (ZcC l hs) ?_
 dsimp only [go_sem,rA,rM,rS]
 refine Yi (by simp [h1]) ?_
 dsimp only [go_sem,rA,rM,rS]
 refine call (W5 1 100000 p _) ?_
 dsimp only [go_sem,rA,rM,rS]
 refine Yi (by simpa [ZY] using h2) ?_
 dsimp only [Z7,go_sem,rA,rM,rS]
theorem Zjv (l:Land) (hs:Vw l) (p:Span) (ha:ZaV l p≠0):Ct Try.prog 63 [.agg (Zt l),.agg (Zi p)] (.tup [.agg [.v (.slice none 0 0),.v (.slice none 0 0),I 0,I 0],I (ZaV l p)]):=by
 refine t63.1 (by simp [Zt,Zf,Zm,Ze,Zi,Za,KFL,KF]) (by simp [KFL,KF]) ?_
 dsimp only [c63,r63,Zt,Zi,go_sem,rA,rM,rS]
 refine call (ZcC l hs) ?_
 dsimp only [go_sem,rA,rM,rS]
 by_cases h1:Yr l=true
 case neg =>
  refine YH (by simp [h1]) ?_
  dsimp only [go_sem,rA,rM,rS]
  simp [ZaV,h1]
 refine Yi (by simp [h1]) ?_
 dsimp only [go_sem,rA,rM,rS]
 refine call (W5 1 100000 p _) ?_
 dsimp only [go_sem,rA,rM,rS]
 have h2:ZY p=false:=by
  by_cases h2:ZY p=true
  . exact absurd (by simp [ZaV,h1,h2]) ha
  . simpa using h2
 refine YH (by simpa [ZY] using h2) ?_
 dsimp only [go_sem,rA,rM,rS]
 simp [ZaV,h1,h2]
theorem Zc0 (l:Land) (p:Span) (k:Nat) (hk:k < l.legs.length) (hx:GoodLeg l.legs[k]) (hp:ZY p=true):Ct Try.prog 64 [.agg (Z7 l p),I k] (.agg (Zi (WW l.legs[k] p))):=by
 have hb:=VB hx hp
 have hp':=hp
 simp only [ZY,VO,decide_eq_true_eq] at hp'
 obtain ⟨h1,h2,h3,h4,h5⟩:=hx
 refine t64.1 (by simp [Z7,Zf,Zm,Ze,Zi,Za,KFL,KF]) (by simp [Zi,KFL,KF]) ?_
 dsimp only [c64,r64,Z7,go_sem,rA,rM,rS]
 refine ZG k hk rfl ?_
 dsimp only [Zm,go_sem,rA,rM,rS]
 rw [Zn (n:=l.legs[k].long.lo+p.hi) (by omega) (by omega),Zn (n:=l.legs[k].long.lo+p.hi - 1) (by omega) (by omega)]
 refine ZuQ (by omega) ?_
 dsimp only [go_sem,rA,rM,rS]
 rw [Zn (n:=l.legs[k].long.hi+p.lo) (by omega) (by omega),Zn (n:=l.legs[k].long.hi+p.lo - 1) (by omega) (by omega)]
 refine ZuQ (by omega) ?_
 dsimp only [Zi,go_sem,rA,rM,rS]
 simp only [WW] at hb ⊢
 rw [Zn (n:=(l.legs[k].long.lo+p.hi - 1).tdiv p.hi) (by omega) (by omega),Zn (n:=(l.legs[k].long.hi+p.lo - 1).tdiv p.lo) (by omega) (by omega)]
theorem XE (l:Land) (p:Span) (k:Nat) (hk:k < l.legs.length) (d0 d1:Int) (hx:GoodLeg l.legs[k]) (hp:ZY p=true) (h0:inR 0 100001 d0=true) (h1:inR 0 100001 d1=true) :
 Ct Try.prog 68 [.agg (Z7 l p),I k,.agg [I d0,I d1]] (.agg [I (Znl l.legs[k] p d0),I (ZeO l.legs[k] p d1)]):=by
 have hb:=VB hx hp
 have hg:=Ym hx.g2 (Int.le_refl _)
 have hl:=hx.g1
 simp only [inR,decide_eq_true_eq] at h0 h1
 refine t68.1 (by simp [Z7,Zf,Zm,Ze,Zi,Za,KFL,KF]) (by simp [KFL,KF]) ?_
 dsimp only [c68,r68,Z7,go_sem,rA,rM,rS]
 refine call (Zc0 l p k hk hx hp) ?_
 dsimp only [Zi,go_sem,rA,rM,rS]
 refine ZG k hk rfl ?_
 dsimp only [Zm,go_sem,rA,rM,rS]
 have e0:Zb3 (WW l.legs[k] p).lo d0 (·.opens.lo) (·.shuts.hi) 100001 l.legs[k].gates=Znl l.legs[k] p d0:=by
  rw [Zay hb.1 (fun g h=>by omega) hx.g2 (Int.le_refl _) (by omega)]
  exact Int.min_eq_right (ZbQ hb.1 (fun g h=>by have:=hg g h;omega))
 have e1:Zb3 (WW l.legs[k] p).hi d1 (·.opens.hi) (·.shuts.lo) 100001 l.legs[k].gates=ZeO l.legs[k] p d1:=by
  rw [Zay hb.2.2.1 (fun g h=>by omega) hx.g2 (Int.le_refl _) (by omega)]
  exact Int.min_eq_right (ZbQ hb.2.2.1 (fun g h=>by have:=hg g h;omega))
 generalize hnl:(WW l.legs[k] p).lo=nl at hb e0
 generalize hnh:(WW l.legs[k] p).hi=nh at hb e1
 refine Xw (fun s:Nat × Int × Int=>[(27,I s.1)]) (fun s=>[(4,.cells [I s.2.1,I s.2.2] 123)])
  (fun s=>s.1<=l.legs[k].gates.length/\Zb3 nl d0 (·.opens.lo) (·.shuts.hi) s.2.1 (l.legs[k].gates.drop s.1)=Znl l.legs[k] p d0/\Zb3 nh d1 (·.opens.hi) (·.shuts.lo) s.2.2 (l.legs[k].gates.drop s.1)=ZeO l.legs[k] p d1)
  (fun s=>l.legs[k].gates.length - s.1) (0,100001,100001) ⟨Nat.zero_le _,e0,e1⟩ ?_ ?_
 . (refine Zk ?_ ?_ ?_ rfl rfl<;>dsimp only [Ze,Zf,Zm,Zi,id,go_sem,rA,rM,rS]<;>simp [Ze,Zf,Zm,Zi,Za,Zd,KFR,KFL,KF,Zc,mtO,nbr])
 rintro ⟨j,m0,m1⟩ ⟨hj,i0,i1⟩
 simp only at hj i0 i1
 dsimp only [go_sem,rA,rM,rS]
 by_cases hlt:j < l.legs[k].gates.length
 . refine YH (by simpa using hlt) ?_
   dsimp only [go_sem,rA,rM,rS]
   have hgk:=hg l.legs[k].gates[j] (List.getElem_mem _)
   rw [List.drop_eq_getElem_cons hlt,Zb3] at i0 i1
   refine ZG j hlt rfl ?_
   dsimp only [Ze,go_sem,rA,rM,rS]
   refine ZaW 3 ?_
   dsimp only [Zj,go_sem,rA,rM,rS]
   refine YH (by decide) ?_
   dsimp only [Zj,go_sem,rA,rM,rS]
   repeat (first | (refine ixa 0 rfl (by decide) ?_;dsimp only [Zj,go_sem,rA,rM,rS]) | (refine call (Wc _ _) ?_;dsimp only [Zj,go_sem,rA,rM,rS]))
   rw [Zn (n:=max d0 l.legs[k].gates[j].opens.lo+nl) (by omega) (by omega),Zn (n:=max d0 l.legs[k].gates[j].opens.lo+nl - 1) (by omega) (by omega)]
   refine br ?_ ?_
   . intro hA
     dsimp only [Zj,go_sem,rA,rM,rS]
     repeat (first | (refine ixa 0 rfl (by decide) ?_;dsimp only [Zj,go_sem,rA,rM,rS]) | (refine call (Wc _ _) ?_;dsimp only [Zj,go_sem,rA,rM,rS]))
     rw [if_pos (by simpa using hA)] at i0
     refine YH (by decide) ?_
     dsimp only [Zj,go_sem,rA,rM,rS]
     repeat (first | (refine ixa 1 rfl (by decide) ?_;dsimp only [Zj,go_sem,rA,rM,rS]) | (refine call (Wc _ _) ?_;dsimp only [Zj,go_sem,rA,rM,rS]))
     rw [Zn (n:=max d1 l.legs[k].gates[j].opens.hi+nh) (by omega) (by omega),Zn (n:=max d1 l.legs[k].gates[j].opens.hi+nh - 1) (by omega) (by omega)]
     refine br ?_ ?_
     . intro hB
       dsimp only [Zj,go_sem,rA,rM,rS]
       repeat (first | (refine ixa 1 rfl (by decide) ?_;dsimp only [Zj,go_sem,rA,rM,rS]) | (refine call (Wc _ _) ?_;dsimp only [Zj,go_sem,rA,rM,rS]))
       rw [if_pos (by simpa using hB)] at i1
       refine Yi (by decide) ?_
       dsimp only [go_sem,rA,rM,rS]
       rw [Zn (n:=(j:Int)+1) (by omega) (by omega)]
       refine ⟨(j+1,min (min m0 (max d0 l.legs[k].gates[j].opens.lo)) 100001,min (min m1 (max d1 l.legs[k].gates[j].opens.hi)) 100001),⟨hlt,i0,i1⟩,by simp only;omega,?_⟩
       (refine Zk ?_ ?_ ?_ rfl rfl<;>dsimp only [Ze,Zf,Zm,Zi,id,go_sem,rA,rM,rS]<;>simp [Ze,Zf,Zm,Zi,Za,Zd,KFR,KFL,KF,Zc,mtO,nbr])
     . intro hB
       dsimp only [Zj,go_sem,rA,rM,rS]
       rw [if_neg (by simpa using hB)] at i1
       refine Yi (by decide) ?_
       dsimp only [go_sem,rA,rM,rS]
       rw [Zn (n:=(j:Int)+1) (by omega) (by omega)]
       refine ⟨(j+1,min (min m0 (max d0 l.legs[k].gates[j].opens.lo)) 100001,m1),⟨hlt,i0,i1⟩,by simp only;omega,?_⟩
       (refine Zk ?_ ?_ ?_ rfl rfl<;>dsimp only [Ze,Zf,Zm,Zi,id,go_sem,rA,rM,rS]<;>simp [Ze,Zf,Zm,Zi,Za,Zd,KFR,KFL,KF,Zc,mtO,nbr])
   . intro hA
     dsimp only [Zj,go_sem,rA,rM,rS]
     rw [if_neg (by simpa using hA)] at i0
     refine YH (by decide) ?_
     dsimp only [Zj,go_sem,rA,rM,rS]
     repeat (first | (refine ixa 1 rfl (by decide) ?_;dsimp only [Zj,go_sem,rA,rM,rS]) | (refine call (Wc _ _) ?_;dsimp only [Zj,go_sem,rA,rM,rS]))
     rw [Zn (n:=max d1 l.legs[k].gates[j].opens.hi+nh) (by omega) (by omega),Zn (n:=max d1 l.legs[k].gates[j].opens.hi+nh - 1) (by omega) (by omega)]
     refine br ?_ ?_
     . intro hB
       dsimp only [Zj,go_sem,rA,rM,rS]
       repeat (first | (refine ixa 1 rfl (by decide) ?_;dsimp only [Zj,go_sem,rA,rM,rS]) | (refine call (Wc _ _) ?_;dsimp only [Zj,go_sem,rA,rM,rS]))
       rw [if_pos (by simpa using hB)] at i1
       refine Yi (by decide) ?_
       dsimp only [go_sem,rA,rM,rS]
       rw [Zn (n:=(j:Int)+1) (by omega) (by omega)]
       refine ⟨(j+1,m0,min (min m1 (max d1 l.legs[k].gates[j].opens.hi)) 100001),⟨hlt,i0,i1⟩,by simp only;omega,?_⟩
       (refine Zk ?_ ?_ ?_ rfl rfl<;>dsimp only [Ze,Zf,Zm,Zi,id,go_sem,rA,rM,rS]<;>simp [Ze,Zf,Zm,Zi,Za,Zd,KFR,KFL,KF,Zc,mtO,nbr])
     . intro hB
       dsimp only [Zj,go_sem,rA,rM,rS]
       rw [if_neg (by simpa using hB)] at i1
       refine Yi (by decide) ?_
       dsimp only [go_sem,rA,rM,rS]
       rw [Zn (n:=(j:Int)+1) (by omega) (by omega)]
       refine ⟨(j+1,m0,m1),⟨hlt,i0,i1⟩,by simp only;omega,?_⟩
       (refine Zk ?_ ?_ ?_ rfl rfl<;>dsimp only [Ze,Zf,Zm,Zi,id,go_sem,rA,rM,rS]<;>simp [Ze,Zf,Zm,Zi,Za,Zd,KFR,KFL,KF,Zc,mtO,nbr])
 refine Yi (by simp;omega) ?_
 dsimp only [go_sem,rA,rM,rS]
 have hke:j=l.legs[k].gates.length:=by omega
 subst hke
 rw [List.drop_length,Zb3] at i0 i1
 rw [<- i0,<- i1]
theorem Zq0 (l:Land) (hs:Vw l):Ct Try.prog 21 [.agg (Zt l)] (.agg (Zt l)):=by
 refine t21.1 (by simp [Zt,Zf,Zm,Ze,Za,KFL,KF]) (by simp [Zt,Zf,Zm,Ze,Za,KFL,KF]) ?_
 dsimp only [c21,r21,Zt,go_sem,rA,rM,rS]
 refine ZsF (by simp;have:=hs.1;omega) ?_
 dsimp only [go_sem,rA,rM,rS]
 refine ⟨by simp;have:=hs.2.1;omega,?_⟩
 dsimp only [go_sem,rA,rM,rS]
 refine Xw (fun k:Nat=>[(3,I k)]) (fun _=>[]) (fun k=>k<=l.legs.length) (fun k=>l.legs.length - k) 0 (Nat.zero_le _) ?_ ?_
 . (refine Zk ?_ ?_ ?_ rfl rfl<;>dsimp only [Ze,Zf,Zm,id,go_sem,rA,rM,rS]<;>simp [Ze,Zf,Zm,Za,Zd,KFR,KFL,KF,Zc,mtO,nbr])
 intro k hk
 dsimp only [go_sem,rA,rM,rS]
 simp only [List.length_map]
 by_cases hlt:k < l.legs.length
 . refine YH (by simpa using hlt) ?_
   dsimp only [go_sem,rA,rM,rS]
   refine ZnI k rfl (by simpa using hlt) ?_
   dsimp only [go_sem,rA,rM,rS]
   refine ldrm hlt ?_
   dsimp only [Zm,go_sem,rA,rM,rS]
   refine ZsF (by simp;have:=hs.2.2 _ (List.getElem_mem hlt);omega) ?_
   dsimp only [go_sem,rA,rM,rS]
   refine ZnI k rfl (by simpa using hlt) ?_
   dsimp only [go_sem,rA,rM,rS]
   refine Zva l.legs[k] hlt (by simp [Zm]) (by simp [Zm,Zo]) ?_
   rw [List.set_getElem_self]
   dsimp only [go_sem,rA,rM,rS]
   rw [Zn (n:=(k:Int)+1) (by omega) (by have:=hs.2.1;omega)]
   refine ⟨k+1,hlt,by omega,?_⟩
   (refine Zk ?_ ?_ ?_ rfl rfl<;>dsimp only [Ze,Zf,Zm,id,go_sem,rA,rM,rS]<;>simp [Ze,Zf,Zm,Za,Zd,KFR,KFL,KF,Zc,mtO,nbr])
 refine Yi (by simp;omega) ?_
 dsimp only [go_sem,rA,rM,rS]
theorem ZgZ (l:Land) (hs:Vw l):Ct Try.prog 28 [.agg (Zt l),.agg (Zt l)] (B true):=by
 refine t28.1 (by simp [Zt,Zf,Zm,Ze,Za,KFL,KF]) (by simp [KFL,KF]) ?_
 dsimp only [c28,r28,Zt,go_sem,rA,rM,rS]
 repeat (refine gb ?_;dsimp only [go_sem,rA,rM,rS])
 refine Yi (by simp) ?_
 dsimp only [go_sem,rA,rM,rS]
 refine Xw (fun k:Nat=>[(5,I k)]) (fun _=>[]) (fun k=>k<=l.wells.length) (fun k=>l.wells.length - k) 0 (Nat.zero_le _) ?_ ?_
 . (refine Zk ?_ ?_ ?_ rfl rfl<;>dsimp only [Ze,Zf,Zm,id,go_sem,rA,rM,rS]<;>simp [Ze,Zf,Zm,Za,Zd,KFR,KFL,KF,Zc,mtO,nbr])
 . intro k hk
   dsimp only [go_sem,rA,rM,rS]
   by_cases hlt:k < l.wells.length
   . refine YH (by simpa using hlt) ?_
     dsimp only [go_sem,rA,rM,rS]
     refine ZG k hlt rfl ?_
     dsimp only [go_sem,rA,rM,rS]
     refine ZG k hlt rfl ?_
     dsimp only [Zf,go_sem,rA,rM,rS]
     refine Yi (by simp [ngB]) ?_
     dsimp only [go_sem,rA,rM,rS]
     rw [Zn (n:=(k:Int)+1) (by omega) (by have:=hs.1;omega)]
     refine ⟨k+1,hlt,by omega,?_⟩
     (refine Zk ?_ ?_ ?_ rfl rfl<;>dsimp only [Ze,Zf,Zm,id,go_sem,rA,rM,rS]<;>simp [Ze,Zf,Zm,Za,Zd,KFR,KFL,KF,Zc,mtO,nbr])
   refine Yi (by simp;omega) ?_
   dsimp only [go_sem,rA,rM,rS]
   refine Xw (fun k:Nat=>[(6,I k)]) (fun _=>[]) (fun k=>k<=l.legs.length) (fun k=>l.legs.length - k) 0 (Nat.zero_le _) ?_ ?_
   . (refine Zk ?_ ?_ ?_ rfl rfl<;>dsimp only [Ze,Zf,Zm,id,go_sem,rA,rM,rS]<;>simp [Ze,Zf,Zm,Za,Zd,KFR,KFL,KF,Zc,mtO,nbr])
   . intro k hk
     dsimp only [go_sem,rA,rM,rS]
     by_cases hlt:k < l.legs.length
     . refine YH (by simpa using hlt) ?_
       dsimp only [go_sem,rA,rM,rS]
       refine ZG k hlt rfl ?_
       dsimp only [go_sem,rA,rM,rS]
       refine ZG k hlt rfl ?_
       dsimp only [Zm,go_sem,rA,rM,rS]
       repeat (refine gb ?_;dsimp only [go_sem,rA,rM,rS])
       refine Yi (by simp [ngB]) ?_
       dsimp only [go_sem,rA,rM,rS]
       refine Xw (fun k:Nat=>[(9,I k)]) (fun _=>[]) (fun j=>j<=l.legs[k].gates.length) (fun j=>l.legs[k].gates.length - j) 0 (Nat.zero_le _) ?_ ?_
       . (refine Zk ?_ ?_ ?_ rfl rfl<;>dsimp only [Ze,Zf,Zm,id,go_sem,rA,rM,rS]<;>simp [Ze,Zf,Zm,Za,Zd,KFR,KFL,KF,Zc,mtO,nbr])
       . intro j hj
         dsimp only [go_sem,rA,rM,rS]
         by_cases hl2:j < l.legs[k].gates.length
         . refine YH (by simpa using hl2) ?_
           dsimp only [go_sem,rA,rM,rS]
           refine ZG j hl2 rfl ?_
           dsimp only [go_sem,rA,rM,rS]
           refine ZG j hl2 rfl ?_
           dsimp only [Ze,go_sem,rA,rM,rS]
           refine Yi (by simp [ngB]) ?_
           dsimp only [go_sem,rA,rM,rS]
           rw [Zn (n:=(j:Int)+1) (by omega) (by have:=hs.2.2 _ (List.getElem_mem hlt);omega)]
           refine ⟨j+1,hl2,by omega,?_⟩
           (refine Zk ?_ ?_ ?_ rfl rfl<;>dsimp only [Ze,Zf,Zm,id,go_sem,rA,rM,rS]<;>simp [Ze,Zf,Zm,Za,Zd,KFR,KFL,KF,Zc,mtO,nbr])
         refine Yi (by simp;omega) ?_
         dsimp only [go_sem,rA,rM,rS]
         rw [Zn (n:=(k:Int)+1) (by omega) (by have:=hs.2.1;omega)]
         refine ⟨k+1,hlt,by omega,?_⟩
         (refine Zk ?_ ?_ ?_ rfl rfl<;>dsimp only [Ze,Zf,Zm,id,go_sem,rA,rM,rS]<;>simp [Ze,Zf,Zm,Za,Zd,KFR,KFL,KF,Zc,mtO,nbr])
     refine Yi (by simp;omega) ?_
     dsimp only [go_sem,rA,rM,rS]
end Go.Proofs.Ytkjldleglbbkeaa
namespace Go.Azalai
theorem Zg9 {n day:Int} {o s:Gate->Int} (hn:1<=n) (hd:day<=100001):∀ {l:List Gate},(∀ g ∈ l,s g<=100000)->(day<=WN n day o s l/\WN n day o s l<=100001)/\(WN n day o s l=100001\/WN n day o s l+n<=100001)
 | [],_=>⟨⟨by simp only [WN];omega,by simp only [WN];omega⟩,.inl rfl⟩
 | x :: l,h=>by
  have:=h x (by simp)
  have:=Zg9 (day:=day) (o:=o) (s:=s) (l:=l) hn hd (fun g hg=>h g (by simp [hg]))
  simp only [WN];split<;>omega
theorem Ze6 {n day:Int} {o s:Gate->Int} (hn:1<=n):∀ {l:List Gate},(∀ g ∈ l,s g<=100000)->WN n day o s l<=100001
 | [],_=>by simp only [WN];omega
 | x :: l,h=>by
  have:=h x (by simp)
  have:=Ze6 (day:=day) (o:=o) (s:=s) (l:=l) hn (fun g hg=>h g (by simp [hg]))
  simp only [WN];split<;>omega
def nK (k:Bool) (x:Leg) (p:Span):Int:=bif k then (WW x p).hi else (WW x p).lo
def leK (k:Bool) (x:Leg) (p:Span) (t:Int):Int:=bif k then ZeO x p t else Znl x p t
def ZR (k:Bool) (x:Leg) (p:Span) (t:Int):Int:=min 100001 (leK k x p t+nK k x p)
theorem Zpr {k:Bool} {x:Leg} {p:Span} (h:GoodLeg x) (hp:ZY p=true):1<=nK k x p/\nK k x p<=1000000:=by
 have:=VB h hp
 cases k<;>simp only [nK,cond_true,cond_false]<;>omega
theorem Zch {k:Bool} {x:Leg} {p:Span} {t:Int} (h:GoodLeg x) (hp:ZY p=true) :
 leK k x p t=Zb3 (nK k x p) t (fun g=>bif k then g.opens.hi else g.opens.lo) (fun g=>bif k then g.shuts.lo else g.shuts.hi) 100001 x.gates /\
 leK k x p t=WN (nK k x p) t (fun g=>bif k then g.opens.hi else g.opens.lo) (fun g=>bif k then g.shuts.lo else g.shuts.hi) x.gates/\∀ g ∈ x.gates,(bif k then g.shuts.lo else g.shuts.hi)<=100000:=by
 have hn:=Zpr (k:=k) h hp
 have hg:=Ym h.g2 (Int.le_refl _)
 have h2:∀ g ∈ x.gates,(bif k then g.shuts.lo else g.shuts.hi)<=100000:=fun g hm=>by have:=hg g hm;cases k<;>simp only [cond_true,cond_false]<;>omega
 have h1:leK k x p t=WN (nK k x p) t (fun g=>bif k then g.opens.hi else g.opens.lo) (fun g=>bif k then g.shuts.lo else g.shuts.hi) x.gates:=by cases k<;>rfl
 refine ⟨?_,h1,h2⟩
 rw [Zay hn.1 (fun g q=>by cases k<;>simp only [cond_true,cond_false]<;>omega) h.g2 (Int.le_refl _) (by omega),h1]
 have:=Ze6 (day:=t) (o:=fun g=>bif k then g.opens.hi else g.opens.lo) hn.1 h2
 omega
theorem Zbr {n:Int} {o s:Gate->Int} {d d':Int} (hn:1<=n) (hd:d<=d'):∀ {l:List Gate} {a a':Int},a<=a'->a'<=100001->(∀ g ∈ l,s g<=100000)->Zb3 n d o s a l<=Zb3 n d' o s a' l
 | [],a,a',ha,_,_=>by simpa only [Zb3] using ha
 | g :: l,a,a',ha,hb,hs=>by
  simp only [Zb3]
  have:=hs g (by simp)
  refine Zbr hn hd ?_ ?_ (fun g hg=>hs g (by simp [hg]))
  . repeat' split
    all_goals omega
  . split<;>omega
theorem ZaY {k:Bool} {x:Leg} {p:Span} {t t':Int} (h:GoodLeg x) (hp:ZY p=true) (ht:t<=t'):ZR k x p t<=ZR k x p t':=by
 have hn:=Zpr (k:=k) h hp
 obtain ⟨a1,_,a3⟩:=Zch (k:=k) (t:=t) h hp
 obtain ⟨b1,_,_⟩:=Zch (k:=k) (t:=t') h hp
 have:=Zbr (o:=fun g=>bif k then g.opens.hi else g.opens.lo) hn.1 ht (Int.le_refl 100001) (Int.le_refl _) a3
 simp only [ZR];omega
theorem YC {k:Bool} {x:Leg} {p:Span} {t:Int} (h:GoodLeg x) (hp:ZY p=true) (ht:t<=100001):ZR k x p t<=100001/\(t+1<=ZR k x p t\/t=100001/\ZR k x p t=100001)/\(ZR k x p t < 100001->ZR k x p t=leK k x p t+nK k x p/\leK k x p t < 100001)/\(leK k x p t < 100001->leK k x p t+nK k x p<=100001)/\t<=leK k x p t/\leK k x p t<=100001:=by
 have hn:=Zpr (k:=k) h hp
 obtain ⟨_,a2,a3⟩:=Zch (k:=k) (t:=t) h hp
 have:=Zg9 (o:=fun g=>bif k then g.opens.hi else g.opens.lo) hn.1 ht a3
 rw [<- a2] at this
 simp only [ZR];omega
theorem ZaT {k:Bool} {x:Leg} {p:Span} {t:Int} (h:GoodLeg x) (hp:ZY p=true) (ht:t<=100001):t<=ZR k x p t:=by
 have:=YC (k:=k) h hp ht;omega
def Zg (x:Leg) (v:Int):Int:=if x.a=v then x.b else if x.b=v then x.a else -1
def goW (k:Bool) (l:Land) (p:Span):Int->Int->List Nat->Option (Int × Int)
 | v,t,[]=>some (v,t)
 | v,t,i :: r=>match l.legs[i]? with
  | none=>none
  | some x=>if Zg x v < 0 then none else if ZR k x p t > 100000 then none else goW k l p (Zg x v) (ZR k x p t) r
structure OkLP (l:Land) (p:Span):Prop where
 land:Yr l=true
 pace:ZY p=true
theorem OkLP.leg {l:Land} {p:Span} (h:OkLP l p) {i:Nat} {x:Leg} (hx:l.legs[i]? = some x):GoodLeg x:=Vs h.land x (List.mem_of_getElem? hx)
theorem OkLP.ends {l:Land} {p:Span} (h:OkLP l p) {x:Leg} (hx:x ∈ l.legs):(0<=x.a/\x.a < l.wells.length)/\(0<=x.b/\x.b < l.wells.length)/\x.a≠x.b:=by
 have h1:=h.land
 simp only [Yr,Bool.and_eq_true,List.all_eq_true] at h1
 have:=h1.2 x hx
 simp only [Xq,inR,Bool.and_eq_true,decide_eq_true_eq,bne_iff_ne] at this
 obtain ⟨⟨⟨⟨⟨q1,q2⟩,q3⟩,_⟩,_⟩,_⟩:=this
 refine ⟨by omega,by omega,q3⟩
theorem Z6 {l:Land} {p:Span} (h:OkLP l p) {i:Nat} {x:Leg} (hx:l.legs[i]? = some x) {v:Int} (ho:¬ Zg x v < 0):(0<=Zg x v/\Zg x v < l.wells.length)/\(x.a=v/\Zg x v=x.b\/x.b=v/\Zg x v=x.a)/\0<=v/\v < l.wells.length:=by
 have:=h.ends (List.mem_of_getElem? hx)
 unfold Zg at ho ⊢
 split
 . omega
 . split
   . omega
   . rw [if_neg (by assumption),if_neg (by assumption)] at ho;omega
theorem UA {k:Bool} {l:Land} {p:Span}:∀ {a b:List Nat} {v t:Int},goW k l p v t (a ++ b)=(goW k l p v t a).bind fun s=>goW k l p s.1 s.2 b
 | [],b,v,t=>rfl
 | i :: a,b,v,t=>by
  simp only [List.cons_append,goW]
  cases l.legs[i]? with
  | none=>rfl
  | some x =>
   simp only
   split
   . rfl
   . split
     . rfl
     . exact UA
theorem WC {k:Bool} {l:Land} {p:Span} (h:OkLP l p):∀ {a:List Nat} {v t v' t':Int},goW k l p v t a=some (v',t')->t<=100000->0<=v->v < l.wells.length->t+a.length<=t'/\t'<=100000/\0<=v'/\v' < l.wells.length
 | [],v,t,v',t',e,ht,h0,h1=>by simp only [goW,Option.some.injEq,Prod.mk.injEq] at e;simp;omega
 | i :: a,v,t,v',t',e,ht,h0,h1=>by
  simp only [goW] at e
  cases hx:l.legs[i]? with
  | none=>rw [hx] at e;cases e
  | some x =>
   rw [hx] at e
   simp only at e
   by_cases ho:Zg x v < 0
   . rw [if_pos ho] at e;cases e
   . rw [if_neg ho] at e
     by_cases hr:ZR k x p t > 100000
     . rw [if_pos hr] at e;cases e
     . rw [if_neg hr] at e
       have hb:=YC (k:=k) (h.leg hx) h.pace (show t<=100001 by omega)
       have ho':=Z6 h hx ho
       have:=WC h e (by omega) ho'.1.1 ho'.1.2
       simp only [List.length_cons];omega
def Zgq (k:Bool) (l:Land) (p:Span) (d:Int->Int):Prop:=∀ x ∈ l.legs,d x.b<=ZR k x p (d x.a)/\d x.a<=ZR k x p (d x.b)
theorem Za0 {k:Bool} {l:Land} {p:Span} {d:Int->Int} (h:OkLP l p) (hc:Zgq k l p d):∀ {a:List Nat} {v t v' t':Int},goW k l p v t a=some (v',t')->d v<=t->d v'<=t'
 | [],v,t,v',t',e,ht=>by simp only [goW,Option.some.injEq,Prod.mk.injEq] at e;rw [<- e.1];omega
 | i :: a,v,t,v',t',e,ht=>by
  simp only [goW] at e
  cases hx:l.legs[i]? with
  | none=>rw [hx] at e;cases e
  | some x =>
   rw [hx] at e
   simp only at e
   by_cases ho:Zg x v < 0
   . rw [if_pos ho] at e;cases e
   . rw [if_neg ho] at e
     by_cases hr:ZR k x p t > 100000
     . rw [if_pos hr] at e;cases e
     . rw [if_neg hr] at e
       refine Za0 h hc e ?_
       have hcx:=hc x (List.mem_of_getElem? hx)
       have hm:=ZaY (k:=k) (h.leg hx) h.pace ht
       rcases (Z6 h hx ho).2.1 with ⟨q1,q2⟩ | ⟨q1,q2⟩
       . rw [q2];rw [<- q1] at hm;omega
       . rw [q2];rw [<- q1] at hm;omega
open Classical in
noncomputable def Yx (k:Bool) (l:Land) (p:Span) (s day v:Int):Int :=
 if h:∃ n:Nat,∃ a,goW k l p s day a=some (v,(n:Int)) then ((Go.Sx.least_ex _ h).choose:Int) else 100001
theorem Ui {k:Bool} {l:Land} {p:Span} (h:OkLP l p) {s day v t:Int} {a:List Nat} (e:goW k l p s day a=some (v,t)) (hd:0<=day) (hd':day<=100000) (h0:0<=s) (h1:s < l.wells.length):Yx k l p s day v<=t:=by
 have hb:=WC h e hd' h0 h1
 have hex:∃ n:Nat,∃ a,goW k l p s day a=some (v,(n:Int)):=⟨t.toNat,a,by rw [e,show ((t.toNat:Nat):Int)=t by omega]⟩
 unfold Yx
 rw [dif_pos hex]
 have:=(Go.Sx.least_ex _ hex).choose_spec.2 t.toNat ⟨a,by rw [e,show ((t.toNat:Nat):Int)=t by omega]⟩
 omega
theorem UG {k:Bool} {l:Land} {p:Span} {s day v:Int}:Yx k l p s day v=100001\/∃ a,goW k l p s day a=some (v,Yx k l p s day v):=by
 unfold Yx
 by_cases hex:∃ n:Nat,∃ a,goW k l p s day a=some (v,(n:Int))
 . rw [dif_pos hex];exact .inr (Go.Sx.least_ex _ hex).choose_spec.1
 . rw [dif_neg hex];exact .inl rfl
theorem Zfh {k:Bool} {l:Land} {p:Span} (h:OkLP l p) {s day v:Int} (hd:0<=day) (hd':day<=100000) (h0:0<=s) (h1:s < l.wells.length):day<=Yx k l p s day v/\Yx k l p s day v<=100001:=by
 rcases UG (k:=k) (l:=l) (p:=p) (s:=s) (day:=day) (v:=v) with e | ⟨a,e⟩
 . omega
 . have:=WC h e hd' h0 h1;omega
theorem VR {k:Bool} {l:Land} {p:Span} {a:List Nat} {s t v u:Int} {i:Nat} {x:Leg} (e:goW k l p s t a=some (v,u)) (hx:l.legs[i]? = some x) (ho:¬ Zg x v < 0) (hr:¬ ZR k x p u > 100000):goW k l p s t (a ++ [i])=some (Zg x v,ZR k x p u):=by
 rw [UA,e]
 simp only [Option.bind_some,goW,hx]
 rw [if_neg ho,if_neg hr]
theorem ZaO {k:Bool} {l:Land} {p:Span} (h:OkLP l p) {s day:Int} (hd:0<=day) (hd':day<=100000) (h0:0<=s) (h1:s < l.wells.length) {d:Int->Int} (hs:d s<=day) (hc:Zgq k l p d) (hb:∀ v,d v<=100001)
 (hr:∀ v,d v=100001\/∃ a,goW k l p s day a=some (v,d v)) (v:Int):d v=Yx k l p s day v:=by
 have h2:Yx k l p s day v<=d v:=by
  rcases hr v with e | ⟨a,e⟩
  . have:=Zfh (k:=k) (v:=v) h hd hd' h0 h1;omega
  . exact Ui h e hd hd' h0 h1
 have h3:d v<=Yx k l p s day v:=by
  rcases UG (k:=k) (l:=l) (p:=p) (s:=s) (day:=day) (v:=v) with e | ⟨a,e⟩
  . have:=hb v;omega
  . exact Za0 h hc e hs
 omega
noncomputable def VG (k:Bool) (l:Land) (p:Span) (s day:Int):List Int:=(List.range l.wells.length).map fun v:Nat=>Yx k l p s day (v:Int)
end Go.Azalai
namespace Go.Proofs.Ytkjldleglbbkeaa
open Go Go.Sx
def c79:SC:=(sr1 [
 o1 2 (.box (.t 0) 0 119),
 o1 3 (.box (.t 1) 0 3),
 o1 4 (.mv (.c (.nilFunc)))]
 (sr1 [
 o1 5 (.mkf 97 [.t 2,.t 3]),
 m1 4 5]
 .ret))
def r79:List RV:=[.tmp 4]
theorem n79:Try.f79.ntmps=6:=by kernel_rfl
theorem b79:YQ Try.prog 79=true:=by kernel_rfl
theorem Zuu:Xo Try.prog c79 ((Try.f79.body).getD .skip)=true:=by kernel_rfl
theorem ZtF:WD Try.prog r79 Try.f79.results.toList=true:=by kernel_rfl
theorem m79 {n0:Nat} {hp0:List (Nat × HB)} {args:List SV} {Yd:Ot->Prop} (hh:hpb n0 hp0) (hx:∀ o,Yd o->KX o.res/\KXP o.hp) (h:sx Try.prog Y0 n0 c79 ⟨XS 0 args,hp0,n0,6,[]⟩ (ZcS r79 fun o=>∃ o',Yd o'/\Zhx n0 o o')) (hA:Nat.ble args.length 6=true:=by rfl):CtM Try.prog 79 hp0 n0 args Yd:=Vf Try.func79 rfl b79 Zuu ZtF n79 (Nat.le_of_ble_eq_true hA) hh hx h
def c97:SC:=(sr1 [
 o1 6 (ao 1 0),
 o1 7 (ao 6 1),
 o1 8 (lf 7 1),
 o1 9 (.len (.t 8)),
 o1 10 (.mv (cn 0))]
 (.block 0 (.loop (sr1 [
  o1 11 (.bin .lss (.t 10) (.t 9))]
  (.seq (.cond (.t 11)
  .skip
  (.exit 0))
  (.seq (.block 1 (sr1 [
   m1 12 10,
   o1 13 (.ixs (.t 8) (.t 10) 5),
   o1 14 (lt 13 5),
   o1 5 (.alloc zv0 86),
   m1 4 12,
   ⟨none,.st (.t 5) (.t 14) 5,none,[]⟩]
   (sr1 [
   o1 15 (lf 2 1)]
   (.block 2 (sr1 [
    o1 17 (ao 5 0),
    o1 18 (lf 17 1),
    o1 19 (.bin .eql (.t 15) (.t 18)),
    m1 16 19]
    (.cond (.t 16)
    (sr1 [
     m1 20 0,
     m1 21 4,
     o1 22 (ao 5 1),
     o1 23 (lf 22 1),
     o1 24 (.calvm (.t 20) [.t 21,.t 23]),
     o1 25 (.un .not (.t 24))]
     (.cond (.t 25)
     .ret
     .skip))
    (sr1 [
     o1 27 (ao 5 1),
     o1 28 (lf 27 1),
     o1 29 (.bin .eql (.t 15) (.t 28)),
     m1 26 29]
     (.cond (.t 26)
     (sr1 [
      m1 30 0,
      m1 31 4,
      o1 32 (ao 5 0),
      o1 33 (lf 32 1),
      o1 34 (.calvm (.t 30) [.t 31,.t 33]),
      o1 35 (.un .not (.t 34))]
      (.cond (.t 35)
      .ret
      .skip))
     .skip))))))))
  (.reg [
  o1 36 (.bin .add (.t 10) (cn 1)),
  m1 10 36])))))))
def r97:List RV:=[]
theorem n97:Try.f97.ntmps=37:=by kernel_rfl
theorem b97:YQ Try.prog 97=true:=by kernel_rfl
theorem Ztu:Xo Try.prog c97 ((Try.f97.body).getD .skip)=true:=by kernel_rfl
theorem ZsZ:WD Try.prog r97 Try.f97.results.toList=true:=by kernel_rfl
theorem y97 {Y:Hd} {n0:Nat} {hp0:List (Nat × HB)} {args:List SV} {Yd:Ot->Prop} (h:sx Try.prog Y n0 c97 ⟨XS 0 args,hp0,n0,37,[]⟩ (ZcS r97 Yd)) (hA:Nat.ble args.length 37=true:=by rfl):CtY Try.prog Y 97 hp0 n0 args Yd:=Za9 Try.func97 rfl Ztu ZsZ n97 (Nat.le_of_ble_eq_true hA) h
def c80:SC:=(sr1 [
 o1 3 (.box (.t 0) 0 119),
 o1 5 (.box (.t 2) 0 123),
 o1 6 (.alloc [.int .i64 0,.int .i64 0] 123)]
 (.seq (.regd [0,1,2,3,4,5,6,7,8,9,10] [
 .op (o1 10 (lt 3 4)),
 .op (m1 11 1),
 .op (o1 12 (lt 5 2)),
 .op (p1 13 (.call 68 [.t 10,.t 11,.t 12]) [0,1,2]),
 .op (o1 14 (lt 3 4)),
 .op (m1 15 1),
 .op (p1 16 (.call 64 [.t 14,.t 15]) [3,4,5])] 2 2 [
 o1 7 (.alloc [.int .i64 0,.int .i64 0] 123),
 o1 8 (.alloc [.int .i64 0,.int .i64 0] 123),
 ⟨none,.st (.t 7) (.t 13) 2,none,[0,1,2,3,6,7,8]⟩,
 ⟨none,.st (.t 8) (.t 16) 2,none,[0,1,2,3,4,5,6,7,8,9]⟩])
 (.seq (sr1 [
 o1 17 (.mv (cn 0))]
 (.block 0 (.loop (sr1 [
  o1 18 (.bin .lss (.t 17) (cn 2))]
  (.seq (.cond (.t 18)
  .skip
  (.exit 0))
  (.seq (.block 1 (sr1 [
   m1 19 17,
   m1 9 19]
   (.regd [0,1,2,3,4,5,6,7,8,9,10,11] [
   .op (m1 20 9),
   .op (m1 21 9),
   .op (p1 22 (.ixa (.t 7) (.t 21) 2 1) [1]),
   .op (p1 23 (lf 22 1) [2]),
   .op (m1 24 9),
   .op (p1 25 (.ixa (.t 8) (.t 24) 2 1) [4]),
   .op (p1 26 (lf 25 1) [5]),
   .op (p1 27 (.bin .add (.t 23) (.t 26)) [3,6]),
   .op (p1 28 (.bsl 1 3 [.t 27]) [7]),
   .op (p1 29 (.call 94 [.t 28]) [8]),
   .op (p1 30 (.ixa (.t 7) (.t 20) 2 1) [0,1,2,3,4,5,6,7,8,9])] 0 1 [
   ⟨none,.st (.t 30) (.t 29) 1,none,[0,1,2,3,4,5,6,7,8,9,10]⟩])))
  (.reg [
  o1 31 (.bin .add (.t 17) (cn 1)),
  m1 17 31])))))))
 (sr1 [
 o1 32 (lt 7 2),
 ⟨none,.st (.t 6) (.t 32) 2,none,[]⟩]
 .ret))))
def r80:List RV:=[.cell 6 2 true]
theorem t80:Qt1 Try.prog 80 c80 r80 33:=Xl Try.func80 rfl (by kernel_rfl) (by kernel_rfl) (by kernel_rfl) (by kernel_rfl)
def c81:SC:=(sr1 [
 o1 4 (.mv (.c (.slice none 0 0)))]
 (sr1 [
 m1 5 0,
 o1 6 (.call 78 [.t 5]),
 o1 7 (.call 98 [.t 6]),
 m1 8 1,
 o1 9 (.bsl 1 3 [.t 8]),
 o1 10 (.app 1 8 3 (.t 7) (.t 9)),
 m1 4 10]
 .ret))
def r81:List RV:=[.tmp 4]
theorem t81:Qt1 Try.prog 81 c81 r81 11:=Xl Try.func81 rfl (by kernel_rfl) (by kernel_rfl) (by kernel_rfl) (by kernel_rfl)
def c78:SC:=(sr1 [
 o1 2 (.mv (.c (.slice none 0 0)))]
 (.seq (sr1 [
 m1 3 0,
 o1 4 (.isn (.t 3))]
 (.cond (.t 4)
 (sr1 [
  o1 2 (.mv (.c (.slice none 0 0)))]
  .ret)
 .skip))
 (sr1 [
 o1 5 (.bsl 1 3 []),
 m1 6 0,
 o1 7 (.app 1 8 3 (.t 5) (.t 6)),
 m1 2 7]
 .ret)))
def r78:List RV:=[.tmp 2]
theorem n78:Try.f78.ntmps=8:=by kernel_rfl
theorem b78:YQ Try.prog 78=true:=by kernel_rfl
theorem ZtR:Xo Try.prog c78 ((Try.f78.body).getD .skip)=true:=by kernel_rfl
theorem Zt6:WD Try.prog r78 Try.f78.results.toList=true:=by kernel_rfl
def c98:SC:=(sr1 [
 o1 2 (.mv (.c (.slice none 0 0)))]
 (sr1 [
 m1 3 0,
 m1 4 0,
 o1 5 (.len (.t 4)),
 m1 6 0,
 o1 7 (.len (.t 6)),
 o1 8 (.slc (.t 3) (.t 5) (.t 7)),
 m1 2 8]
 .ret))
def r98:List RV:=[.tmp 2]
theorem t98:Qt1 Try.prog 98 c98 r98 9:=Xl Try.func98 rfl (by kernel_rfl) (by kernel_rfl) (by kernel_rfl) (by kernel_rfl)
def c84:SC:=(sr1 [
 o1 3 (.box (.t 0) 0 86),
 o1 4 (.box (.t 1) 0 29),
 o1 5 (.box (.t 2) 0 29),
 o1 6 (.alloc [.int .i64 0,.int .i64 0] 29)]
 (sr1 [
 o1 10 (.build [.int .i64 0,.int .i64 0] [(0,1,.c (.int .i64 100001)),(1,1,.c (.int .i64 100001))]),
 o1 7 (.alloc [.int .i64 0,.int .i64 0] 29),
 ⟨none,.st (.t 7) (.t 10) 2,none,[]⟩]
 (.seq (sr1 [
 o1 11 (lt 3 5),
 o1 12 (ao 4 0),
 o1 13 (lf 12 1),
 o1 14 (lt 5 2),
 o1 15 (.call 69 [.t 11,.t 13,.t 14]),
 m1 8 15]
 (sr1 [
 m1 16 8,
 o1 17 (.bin .lss (.t 16) (cn 100001))]
 (.cond (.t 17)
 (.reg [
  m1 18 8,
  o1 19 (lt 3 5),
  o1 20 (lt 5 2),
  o1 21 (.call 67 [.t 19,.t 20]),
  o1 22 (.fld (.t 21) 0 1 false),
  o1 23 (.bin .add (.t 18) (.t 22)),
  o1 24 (.mm false [.c (.int .i64 100001),.t 23]),
  o1 25 (ao 7 0),
  ⟨none,.st (.t 25) (.t 24) 1,none,[]⟩])
 .skip)))
 (.seq (sr1 [
 o1 26 (lt 3 5),
 o1 27 (ao 4 1),
 o1 28 (lf 27 1),
 o1 29 (lt 5 2),
 o1 30 (.call 70 [.t 26,.t 28,.t 29]),
 m1 9 30]
 (sr1 [
 m1 31 9,
 o1 32 (.bin .lss (.t 31) (cn 100001))]
 (.cond (.t 32)
 (.reg [
  m1 33 9,
  o1 34 (lt 3 5),
  o1 35 (lt 5 2),
  o1 36 (.call 67 [.t 34,.t 35]),
  o1 37 (.fld (.t 36) 1 1 false),
  o1 38 (.bin .add (.t 33) (.t 37)),
  o1 39 (.mm false [.c (.int .i64 100001),.t 38]),
  o1 40 (ao 7 1),
  ⟨none,.st (.t 40) (.t 39) 1,none,[]⟩])
 .skip)))
 (sr1 [
 o1 41 (lt 7 2),
 ⟨none,.st (.t 6) (.t 41) 2,none,[]⟩]
 .ret)))))
def r84:List RV:=[.cell 6 2 true]
theorem t84:Qt1 Try.prog 84 c84 r84 42:=Xl Try.func84 rfl (by kernel_rfl) (by kernel_rfl) (by kernel_rfl) (by kernel_rfl)
def c40:SC:=(sr1 [
 o1 4 (.mv (.c (.bool false)))]
 (.seq (sr1 [
 m1 6 0,
 o1 7 (.len (.t 6)),
 m1 8 1,
 o1 9 (.len (.t 8)),
 o1 10 (.bin .neq (.t 7) (.t 9))]
 (.cond (.t 10)
 (sr1 [
  o1 4 (.mv (.c (.bool false)))]
  .ret)
 .skip))
 (.seq (sr1 [
 o1 5 (.mv (cn 0))]
 (.block 0 (.loop (.seq (sr1 [
  m1 11 5,
  m1 12 0,
  o1 13 (.len (.t 12)),
  o1 14 (.bin .lss (.t 11) (.t 13))]
  (.cond (.t 14)
  .skip
  (.exit 0)))
  (.seq (.block 1 (.seq (.regd [0,1,2,3,4,5,6,7,8] [
   .op (m1 17 0),
   .op (m1 18 5),
   .op (p1 19 (.ixs (.t 17) (.t 18) 1) [0,1]),
   .op (p1 20 (lf 19 1) [2]),
   .op (m1 21 1),
   .op (m1 22 5),
   .op (p1 23 (.ixs (.t 21) (.t 22) 1) [4,5]),
   .op (p1 24 (lf 23 1) [6]),
   .op (p1 25 (.bin .neq (.t 20) (.t 24)) [3,7])] 0 0 [
])
 (.cond (.t 25)
 (sr1 [
  o1 4 (.mv (.c (.bool false)))]
  .ret)
 .skip)))
 (.reg [
 m1 15 5,
 o1 16 (.bin .add (.t 15) (cn 1)),
 m1 5 16]))))))
 (sr1 [
 o1 4 (.mv (.c (.bool true)))]
 .ret))))
def r40:List RV:=[.tmp 4]
theorem t40:Qt1 Try.prog 40 c40 r40 26:=Xl Try.func40 rfl (by kernel_rfl) (by kernel_rfl) (by kernel_rfl) (by kernel_rfl)
def c86:SC:=(sr1 [
 o1 2 (.box (.t 0) 0 86),
 o1 4 (.mv (cn 0))]
 (.seq (sr1 [
 o1 5 (ao 2 0),
 o1 6 (lf 5 1),
 m1 7 1,
 o1 8 (.bin .eql (.t 6) (.t 7))]
 (.cond (.t 8)
 (sr1 [
  o1 9 (ao 2 1),
  o1 10 (lf 9 1),
  m1 4 10]
  .ret)
 .skip))
 (.seq (sr1 [
 o1 11 (ao 2 1),
 o1 12 (lf 11 1),
 m1 13 1,
 o1 14 (.bin .eql (.t 12) (.t 13))]
 (.cond (.t 14)
 (sr1 [
  o1 15 (ao 2 0),
  o1 16 (lf 15 1),
  m1 4 16]
  .ret)
 .skip))
 (sr1 [
 o1 4 (.mv (.c (.int .i64 (-1))))]
 .ret))))
def r86:List RV:=[.tmp 4]
theorem t86:Qt1 Try.prog 86 c86 r86 17:=Xl Try.func86 rfl (by kernel_rfl) (by kernel_rfl) (by kernel_rfl) (by kernel_rfl)
open Go.Azalai
theorem Zpj (a b:Int) (c:Bool):Ct Try.prog 104 [.sl c 1 [[I a],[I b]]] (I (min a b)):=by
 refine t104.1 (by simp [KFR,KFL,KF]) (by simp [KFL,KF]) ?_
 dsimp only [c104,r104,go_sem,rA,rM,rS]
 refine Yi (by decide) ?_
 dsimp only [go_sem,rA,rM,rS]
 refine ixs 0 [I a] rfl rfl ?_
 dsimp only [go_sem,rA,rM,rS]
 refine ZaW 2 ?_
 dsimp only [Zj,go_sem,rA,rM,rS]
 refine YH (by decide) ?_
 dsimp only [Zj,go_sem,rA,rM,rS]
 refine ixs 1 [I b] rfl rfl ?_
 dsimp only [Zj,go_sem,rA,rM,rS]
 refine Yi (by decide) ?_
 dsimp only [go_sem,rA,rM,rS]
theorem Za1 (a:Int):Ct Try.prog 94 [.sl true 1 [[I a]]] (I (min a 100001)):=by
 refine t94.1 (by simp [KFR,KFL,KF]) (by simp [KFL,KF]) ?_
 dsimp only [c94,r94,go_sem,rA,rM,rS]
 refine ZsF (by simp) ?_
 dsimp only [go_sem,rA,rM,rS]
 refine call (Zpj a 100001 false) ?_
 dsimp only [go_sem,rA,rM,rS]
theorem Za4 (l:Land) (p:Span) (k:Nat) (hk:k < l.legs.length) (d0 d1:Int) (hx:GoodLeg l.legs[k]) (hp:ZY p=true) (h0:inR 0 100001 d0=true) (h1:inR 0 100001 d1=true) :
 Ct Try.prog 80 [.agg (Z7 l p),I k,.agg [I d0,I d1]] (.agg [I (ZR false l.legs[k] p d0),I (ZR true l.legs[k] p d1)]):=by
 have hb:=VB hx hp
 refine t80.1 (by simp [Z7,Zf,Zm,Ze,Zi,Za,KFL,KF]) (by simp [KFL,KF]) ?_
 dsimp only [c80,r80,Z7,go_sem,rA,rM,rS]
 refine call (XE l p k hk d0 d1 hx hp h0 h1) ?_
 dsimp only [Z7,go_sem,rA,rM,rS]
 refine call (Zc0 l p k hk hx hp) ?_
 dsimp only [Zi,go_sem,rA,rM,rS]
 simp only [inR,decide_eq_true_eq] at h0 h1
 have a0:=YC (k:=false) hx hp h0.2
 have a1:=YC (k:=true) hx hp h1.2
 simp only [leK,nK,cond_true,cond_false] at a0 a1
 refine ZaW 3 ?_
 dsimp only [Zj,go_sem,rA,rM,rS]
 refine YH (by decide) ?_
 dsimp only [Zj,go_sem,rA,rM,rS]
 repeat (refine ixa 0 rfl (by decide) ?_;dsimp only [Zj,go_sem,rA,rM,rS])
 rw [Zn (n:=Znl l.legs[k] p d0+(WW l.legs[k] p).lo) (by omega) (by omega)]
 refine call (Za1 _) ?_
 dsimp only [Zj,go_sem,rA,rM,rS]
 repeat (refine ixa 0 rfl (by decide) ?_;dsimp only [Zj,go_sem,rA,rM,rS])
 refine YH (by decide) ?_
 dsimp only [Zj,go_sem,rA,rM,rS]
 repeat (refine ixa 1 rfl (by decide) ?_;dsimp only [Zj,go_sem,rA,rM,rS])
 rw [Zn (n:=ZeO l.legs[k] p d1+(WW l.legs[k] p).hi) (by omega) (by omega)]
 refine call (Za1 _) ?_
 dsimp only [Zj,go_sem,rA,rM,rS]
 repeat (refine ixa 1 rfl (by decide) ?_;dsimp only [Zj,go_sem,rA,rM,rS])
 refine Yi (by decide) ?_
 dsimp only [go_sem,rA,rM,rS]
 simp only [ZR,leK,nK,cond_true,cond_false]
 rw [Int.min_comm,Int.min_comm 100001 (ZeO l.legs[k] p d1+(WW l.legs[k] p).hi)]
theorem ZdC (x:Leg) (p:Span) (d0 d1:Int) (hx:GoodLeg x) (hp:ZY p=true) (h0:inR 0 100001 d0=true) (h1:inR 0 100001 d1=true) :
 Ct Try.prog 84 [.agg (Zm x),.agg [I d0,I d1],.agg (Zi p)] (.agg [I (ZR false x p d0),I (ZR true x p d1)]):=by
 have hb:=VB hx hp
 refine t84.1 (by simp [Zm,Ze,Zi,Za,KFL,KF]) (by simp [KFL,KF]) ?_
 dsimp only [c84,r84,Zm,Zi,go_sem,rA,rM,rS]
 refine call (ZtX x d0 p hx hp h0) ?_
 dsimp only [go_sem,rA,rM,rS]
 simp only [inR,decide_eq_true_eq] at h0 h1
 have a0:=YC (k:=false) hx hp h0.2
 have a1:=YC (k:=true) hx hp h1.2
 simp only [leK,nK,cond_true,cond_false] at a0 a1
 have key:∀ q0,q0=ZR false x p d0->True:=fun _ _=>trivial
 by_cases g0:Znl x p d0 < 100001
 . refine YH (by simpa using g0) ?_
   dsimp only [go_sem,rA,rM,rS]
   refine call (Uc x p hx hp) ?_
   dsimp only [Zi,go_sem,rA,rM,rS]
   rw [Zn (n:=Znl x p d0+(WW x p).lo) (by omega) (by omega)]
   refine call (ZnO x d1 p hx hp (by simp [inR];omega)) ?_
   dsimp only [go_sem,rA,rM,rS]
   by_cases g1:ZeO x p d1 < 100001
   . refine YH (by simpa using g1) ?_
     dsimp only [go_sem,rA,rM,rS]
     refine call (Uc x p hx hp) ?_
     dsimp only [Zi,go_sem,rA,rM,rS]
     rw [Zn (n:=ZeO x p d1+(WW x p).hi) (by omega) (by omega)]
     dsimp only [ZR,leK,nK,go_sem,rA,rM,rS]
   . refine Yi (by simpa using g1) ?_
     dsimp only [go_sem,rA,rM,rS]
     rw [show ZR true x p d1=100001 by simp only [ZR,leK,nK,cond_true];omega]
     dsimp only [ZR,leK,nK,go_sem,rA,rM,rS]
 . refine Yi (by simpa using g0) ?_
   dsimp only [go_sem,rA,rM,rS]
   refine call (ZnO x d1 p hx hp (by simp [inR];omega)) ?_
   dsimp only [go_sem,rA,rM,rS]
   rw [show ZR false x p d0=100001 by simp only [ZR,leK,nK,cond_false];omega]
   by_cases g1:ZeO x p d1 < 100001
   . refine YH (by simpa using g1) ?_
     dsimp only [go_sem,rA,rM,rS]
     refine call (Uc x p hx hp) ?_
     dsimp only [Zi,go_sem,rA,rM,rS]
     rw [Zn (n:=ZeO x p d1+(WW x p).hi) (by omega) (by omega)]
     dsimp only [ZR,leK,nK,go_sem,rA,rM,rS]
   . refine Yi (by simpa using g1) ?_
     dsimp only [go_sem,rA,rM,rS]
     rw [show ZR true x p d1=100001 by simp only [ZR,leK,nK,cond_true];omega]
theorem ZhP (x:Leg) (v:Int):Ct Try.prog 86 [.agg (Zm x),I v] (I (Zg x v)):=by
 refine t86.1 (by simp [Zm,Ze,Za,KFL,KF]) (by simp [KFL,KF]) ?_
 dsimp only [c86,r86,Zm,go_sem,rA,rM,rS]
 by_cases h1:x.a=v
 . refine YH (by simpa using h1) ?_
   dsimp only [go_sem,rA,rM,rS]
   simp [Zg,h1]
 . refine Yi (by simpa using h1) ?_
   dsimp only [go_sem,rA,rM,rS]
   by_cases h2:x.b=v
   . refine YH (by simpa using h2) ?_
     dsimp only [go_sem,rA,rM,rS]
     simp [Zg,h1,h2]
   . refine Yi (by simpa using h2) ?_
     dsimp only [go_sem,rA,rM,rS]
     simp [Zg,h1,h2]
def ZcV (l:Land) (p:Span) (v:Int):Ot:=⟨false,.cl 97 [.p 0 0,.p 1 0],[(1,.cells [I v] 3),(0,.cells (Z7 l p) 119)],2⟩
theorem ZkT (l:Land) (p:Span) (v:Int):CtM Try.prog 79 [] 0 [.agg (Z7 l p),I v] (fun o=>o=ZcV l p v):=by
 refine m79 (by simp [hpb]) (fun o ho=>by subst ho;simp [ZcV,KX,KXL,KXP,KXH,Za,KFL,KF,Z7,Zf,Zm,Ze]) ?_
 dsimp only [c79,r79,Z7,go_sem,rA,rM,rS]
 refine ⟨_,rfl,?_⟩
 simp only [ZcV]
 (refine YR ?_ ?_ ?_ rfl<;>dsimp only [Z7,Zf,Zm,Ze,id,go_sem,rA,rM,rS]<;>simp [Z7,Zf,Zm,Ze,Za,Zd,KFR,KFL,KF,Zc,mtO,nbr])
end Go.Proofs.Ytkjldleglbbkeaa
namespace Go.Azalai
def Zct (l:Land) (leg v:Int):Int:=if h:0<=leg/\leg.toNat < l.legs.length then Zg l.legs[leg.toNat] v else -1
end Go.Azalai
namespace Go.Proofs.Ytkjldleglbbkeaa
open Go Go.Sx Go.Azalai
theorem ZaD {r:List SV} (h:KFL r):∀ n,KFR (List.replicate n r)
 | 0=>trivial
 | n+1=>⟨h,ZaD h n⟩
end Go.Proofs.Ytkjldleglbbkeaa
namespace Go.Sx
open Go Go.RowKit
section typed
variable {K V:Type} [DecidableEq K]
def mpS (key:K->Value) (val:V->SV) (L:List (Nat × K × V)):List (Nat × Value × SV):=L.map fun e=>(e.1,key e.2.1,val e.2.2)
def WR (k:K):List (Nat × K × V)->Option V
 | []=>none
 | e :: l=>if e.2.1=k then some e.2.2 else WR k l
def VW (c:Nat) (k:K) (v:V):List (Nat × K × V)->List (Nat × K × V)
 | []=>[(c,k,v)]
 | e :: l=>if e.2.1=k then (e.1,k,v) :: l else e :: VW c k v l
def Zau (k:K):List (Nat × K × V)->List (Nat × K × V)
 | []=>[]
 | e :: l=>if e.2.1=k then l else e :: Zau k l
def Zbo (c:Nat) (k:K) (L:List (Nat × K × V)):Nat:=bif (WR k L).isSome then c else c+1
def fI (k:K):List K->List MapEntry->Nat->Option (Nat × Value)
 | q :: ks,e :: ys,i=>if q=k then some (i,e.val) else fI k ks ys (i+1)
 | _,_,_=>none
structure KeyT (P:Program) (kt:TypeId) (key:K->Value) (sv:K->SV):Prop where
 chk:∀ (em:Bool) (k:K) (w:World),(Instr.checkKey em 10000 kt (key k)).run P w = .ok () w
 fnd:∀ (k:K) (ks:List K) (ys:List MapEntry) (w:World),ys.map (·.key)=ks.map key->(Instr.findKey kt (key k) ys).run P w = .ok (fI k ks ys 0) w
 same:∀ k,Instr.sameBits 10000 (key k) (key k)=true
 svR:∀ {w:World} {E:Env} {n ok:Nat->Prop} (k:K) (y:Value),R w E n ok (sv k) y↔y=key k
theorem ZaQ {w:World} {E:Env} {n ok:Nat->Prop} {key:K->Value} {val:V->SV} (k:K):∀ (L:List (Nat × K × V)) (ys:List MapEntry) (i:Nat),RM w E n ok (mpS key val L) ys ->
 (WR k L=none/\fI k (L.map (·.2.1)) ys i=none/\Zau k L=L/\∀ {w':World} {E':Env} {n' ok':Nat->Prop} c v' y',R w' E' n' ok' (val v') y'->RM w' E' n' ok' (mpS key val L) ys->RM w' E' n' ok' (mpS key val (VW c k v' L)) (ys ++ [⟨key k,y',c⟩])) \/
 ∃ j v e,WR k L=some v/\fI k (L.map (·.2.1)) ys i=some (i+j,e.val)/\ys[j]? = some e/\e.key=key k/\R w E n ok (val v) e.val /\
  (∀ {w':World} {E':Env} {n' ok':Nat->Prop},RM w' E' n' ok' (mpS key val L) ys->RM w' E' n' ok' (mpS key val (Zau k L)) (ys.eraseIdx j)/\∀ c v' y',R w' E' n' ok' (val v') y'->RM w' E' n' ok' (mpS key val (VW c k v' L)) (ys.modify j fun e=>{ e with key:=key k,val:=y' }))
 | [],ys,i,h=>by
  simp only [mpS,List.map_nil,RM] at h
  subst h
  exact .inl ⟨rfl,rfl,rfl,fun c v' y' hR _=>by simp only [VW,mpS,List.map_cons,List.map_nil,List.nil_append,RM];exact ⟨y',[],rfl,hR,rfl⟩⟩
 | e :: l,ys,i,h=>by
  simp only [mpS,List.map_cons,RM] at h
  obtain ⟨y,r,rfl,h1,h2⟩:=h
  by_cases hk:e.2.1=k
  . refine .inr ⟨0,e.2.2,⟨key e.2.1,y,e.1⟩,by simp [WR,hk],by simp [fI,hk],rfl,by simp [hk],h1,fun {w' E' n' ok'} h'=>?_⟩
    simp only [mpS,List.map_cons,RM] at h'
    obtain ⟨y0,r0,e0,h3,h4⟩:=h'
    cases e0
    refine ⟨by simpa [Zau,hk,mpS] using h4,fun c v' y' hR=>?_⟩
    simp only [VW,hk,if_true,mpS,List.map_cons,RM]
    exact ⟨y',r,by simp,hR,h4⟩
  . rcases ZaQ k l r (i+1) h2 with ⟨a1,a2,a3,a4⟩ | ⟨j,v,e',b1,b2,b3,b4,b5,b6⟩
    . refine .inl ⟨by simp [WR,hk,a1],by simp [fI,hk,a2],by simp [Zau,hk,a3],fun {w' E' n' ok'} c v' y' hR h'=>?_⟩
      simp only [mpS,List.map_cons,RM] at h'
      obtain ⟨y0,r0,e0,h3,h4⟩:=h'
      cases e0
      simp only [VW,hk,if_false,mpS,List.map_cons,RM]
      exact ⟨y,_,rfl,h3,a4 c v' y' hR h4⟩
    . refine .inr ⟨j+1,v,e',by simp [WR,hk,b1],by simp [fI,hk,b2];omega,by simpa using b3,b4,b5,fun {w' E' n' ok'} h'=>?_⟩
      simp only [mpS,List.map_cons,RM] at h'
      obtain ⟨y0,r0,e0,h3,h4⟩:=h'
      cases e0
      obtain ⟨c1,c2⟩:=b6 h4
      refine ⟨?_,fun c v' y' hR=>?_⟩
      . simp only [Zau,hk,if_false,mpS,List.map_cons,RM]
        exact ⟨y,_,by simp,h3,c1⟩
      . simp only [VW,hk,if_false,mpS,List.map_cons,RM]
        exact ⟨y,_,by simp,h3,c2 c v' y' hR⟩
omit [DecidableEq K] in
theorem ZaN {w:World} {E:Env} {n ok:Nat->Prop} {key:K->Value} {val:V->SV}:∀ {L:List (Nat × K × V)} {ys:List MapEntry},RM w E n ok (mpS key val L) ys->ys.map (·.key)=(L.map (·.2.1)).map key
 | [],ys,h=>by simp only [mpS,List.map_nil,RM] at h;subst h;rfl
 | e :: l,ys,h=>by
  simp only [mpS,List.map_cons,RM] at h
  obtain ⟨y,r,rfl,h1,h2⟩:=h
  simp only [List.map_cons,List.cons.injEq,true_and]
  exact ZaN h2
theorem ZuH {P:Program} {kt:TypeId} {kd:IntKind} (hu:P.underlying kt=some (.int kd)):KeyT P kt (fun n:Int=>.int kd n) (fun n=>.v (.int kd n)):=by
 refine ⟨fun em k w=>MapKept.run_checkKey hu (by simp [MapKept.IsKey]) em _,fun k ks ys w h=>?_,fun k=>by simp [Instr.sameBits],fun k y=>by simp only [R]⟩
 have:∀ (ks:List Int) (ys:List MapEntry) (i:Nat),ys.map (·.key)=ks.map (fun n:Int=>Value.int kd n)->Instr.findNow (.int kd) (.int kd k) ys i=some (fI k ks ys i):=by
  intro ks ys
  induction ys generalizing ks with
  | nil=>intro i h;cases ks with
   | nil=>rfl
   | cons a b=>simp at h
  | cons e ys ih=>intro i h;cases ks with
   | nil=>simp at h
   | cons a b =>
    simp only [List.map_cons,List.cons.injEq] at h
    simp only [Instr.findNow,h.1,Instr.sameNow,if_true,fI]
    by_cases ha:a=k
    . subst ha;simp
    . have:(k == a)=false:=by simpa using fun e=>ha e.symm
      simp [this,ha,ih b (i+1) h.2]
 exact MapKept.run_findKey hu (this ks ys 0 h)
end typed
section
variable {P:Program} {C:Cx} {E:Env} {σ : St} {a:Act} {w:World}
def ZbI (σ : St):Operand->SV
 | .tmp u=>lk u σ.fr
 | .const x=>.v x
 | _=>.any
theorem Zci (h:Sim C E σ a w) {o:Operand} {s:SV} (hs:ZbI σ o=s) (hg:∀ j b u,s≠.gd j b u):R w E (ltn σ.n) (okS C E σ.hp) s (a.eval o):=by
 cases o with
 | tmp u =>
  have:=Zso (h.fr u) (fun j b u' e=>hg j b u' (by rw [<- hs];exact e))
  simp only [ZbI] at hs;rw [hs] at this;exact this
 | const x=>simp only [ZbI] at hs;subst hs;simp only [R];rfl
 | _=>simp only [ZbI] at hs;subst hs;simp only [R]
theorem Zhi (h:Sim C E σ a w) {km c:Nat} {es:List (Nat × Value × SV)} (hk:lkh km σ.hp = .map es c) :
 ltn σ.n km/\∃ ys,w.heap[E.β km]? = some (.map ys c)/\RM w E (ltn σ.n) (okS C E σ.hp) es ys.toList:=by
 have hb:=h.hs.bk km
 rw [hk] at hb
 refine ⟨?_,hb⟩
 rcases Classical.em (ltn σ.n km) with q | q
 . exact q
 . rw [h.hs.kn km q] at hk;cases hk
theorem ZuL {d:Option Nat} {s:SV} {r:KT} {K:RK} {y:Value} {w':World} {E':Env} {hp':List (Nat × HB)} {n':Nat} {next:Act->World->Prop} (hk:Yc d s none ⟨σ.fr,hp',n',σ.N,σ.gs⟩ r K) (h:Sim C E σ a w)
 (hst:Zr w w' (okS C E σ.hp) (okS C E' hp')) (hE:∀ k,k < σ.n->Ele E E' k k) (hn:σ.n<=n') (hh:HSim C E' hp' (ltn n') w') (hR:R w' E' (ltn n') (okS C E' hp') s y)
 (hnext:∀ σ' E' a' w',r σ' K->Sim C E' σ' a' w'->next a' w'):next (a.put d y) w':=by
 rcases Ur hk with ⟨g1,g2⟩ | ⟨t,g1,g2,g3,g4,g5⟩
 . rw [g1];exact hnext _ E' _ _ g2 (ZZ (σ:=σ) h hst hE hn hh)
 . rw [g1]
   exact hnext _ E' _ _ g5 (Xe (σ:=σ) h hst hE hn hh g2 g3 (fun j b u e=>by rw [e] at g4;cases g4) hR)
theorem Zhw {d:Option Nat} {s:SV} {r:KT} {K:RK} {y:Value} {next:Act->World->Prop} (hk:Yc d s none σ r K) (h:Sim C E σ a w) (hR:R w E (ltn σ.n) (okS C E σ.hp) s y)
 (hnext:∀ σ' E' a' w',r σ' K->Sim C E' σ' a' w'->next a' w'):next (a.put d y) w :=
 ZuL (hp':=σ.hp) (n':=σ.n) hk h (fun b hb _=>⟨hb,rfl⟩) (fun _ _=>Ele.rfl) (Nat.le_refl _) h.hs hR hnext
theorem Zoh {K':Type} [DecidableEq K'] {kt:TypeId} {key:K'->Value} {sv:K'->SV} (hK:KeyT P kt key sv) (k:K'):∀ j b u,sv k≠.gd j b u:=fun j b u e=>by
 have:=(hK.svR (w:=default) (E:=⟨fun _=>0,fun _ _=>undef,fun _=>0⟩) (n:=fun _=>True) (ok:=fun _=>True) k (key k)).2 rfl
 rw [e] at this;simp only [R] at this
theorem Zgm {hp:List (Nat × HB)} {n:Nat->Prop} {q:Nat} {hb:HB} {o:Obj} (h:HSim C E hp n w) (hq:¬ n q) (hocc:∀ (E:Env) b,occ E q hb b↔b=E.β q)
 (hok:∀ E',(∀ k,n k->Ele E E' k k)->E'.β q=w.heap.size->ZP (w.alloc o) E' (fun k=>n k\/k=q) (okS C E' ((q,hb) :: hp)) q hb) :
 ∃ E',(∀ k,n k->Ele E E' k k)/\E'.β q=w.heap.size/\HSim C E' ((q,hb) :: hp) (fun k=>n k\/k=q) (w.alloc o)/\Zr w (w.alloc o) (okS C E hp) (okS C E' ((q,hb) :: hp)):=by
 let E':Env:=⟨fun k=>if k=q then w.heap.size else E.β k,E.hv,E.iss⟩
 have hE:∀ k,n k->Ele E E' k k:=fun k hk=>⟨by simp [E',show k≠q from by rintro rfl;exact hq hk],Nat.le_refl _,fun _ _=>rfl⟩
 have hEn:E'.β q=w.heap.size:=by simp [E']
 have hbel:Below w.heap.size w (w.alloc o):=(Below.refl _ _).alloc (Nat.le_refl _) _
 have hoc:∀ j b,j≠q->(occ E' j (lkh j ((q,hb) :: hp)) b↔occ E j (lkh j hp) b):=fun j b hj=>by
  rw [Zh,if_neg hj]
  cases hl:lkh j hp<;>simp only [occ,E',if_neg hj]
 have hocn:∀ b,occ E' q (lkh q ((q,hb) :: hp)) b↔b=w.heap.size:=fun b=>by
  rw [Zh,if_pos rfl,hocc,hEn]
 have hlt:∀ b,b < w.heap.size->(okS C E' ((q,hb) :: hp) b↔okS C E hp b):=fun b hb'=>by
  unfold okS
  constructor
  . rintro ⟨h1,h2⟩
    refine ⟨h1,fun j hj=>?_⟩
    by_cases hjn:j=q
    . subst hjn;rw [h.kn j hq] at hj;exact hj
    . exact h2 j ((hoc j b hjn).2 hj)
  . rintro ⟨h1,h2⟩
    refine ⟨h1,fun j hj=>?_⟩
    by_cases hjn:j=q
    . subst hjn;rw [hocn] at hj;omega
    . exact h2 j ((hoc j b hjn).1 hj)
 have hst:Zr w (w.alloc o) (okS C E hp) (okS C E' ((q,hb) :: hp)):=fun b hb' hs=>by
  have hlt':b < w.heap.size:=by
   obtain ⟨o,ho⟩:=Option.isSome_iff_exists.1 hs
   exact (Array.getElem?_eq_some_iff.1 ho).1
  exact ⟨(hlt b hlt').2 hb',hbel.block b hlt'⟩
 refine ⟨E',hE,hEn,⟨fun j hj=>?_,fun j=>?_,fun j j' b h1 h2=>?_,fun j b h1=>?_,XH h.kp hbel,fun k hk=>(by obtain ⟨p1,p2⟩:=h.pin k hk;exact ⟨.inl p1,p2.trans (hE k p1)⟩)⟩,hst⟩
 . rw [Zh,if_neg (fun e=>hj (.inr e))];exact h.kn j (fun e=>hj (.inl e))
 . rw [Zh]
   by_cases hj:j=q
   . subst hj;rw [if_pos rfl]
     exact hok E' hE hEn
   . rw [if_neg hj]
     refine ZU hst hE (fun _ h=>.inl h) ?_ (fun b ho=>hbel.block b (ZV h ho)) (by simp [E',hj]) (h.bk j)
     rcases Classical.em (n j) with h' | h'
     . exact .inr h'
     . exact .inl (h.kn j h')
 . by_cases hj:j=q<;>by_cases hj':j'=q
   . omega
   . subst hj;rw [hocn] at h1;rw [hoc j' b hj'] at h2;have:=ZV h h2;omega
   . subst hj';rw [hocn] at h2;rw [hoc j b hj] at h1;have:=ZV h h1;omega
   . exact h.dj j j' b ((hoc j b hj).1 h1) ((hoc j' b hj').1 h2)
 . by_cases hj:j=q
   . subst hj;rw [hocn] at h1;exact .inl (by rw [h1];exact h.kp.size)
   . exact h.lo j b ((hoc j b hj).1 h1)
end
section
variable {P:Program} {K' V:Type} [DecidableEq K'] {key:K'->Value} {sv:K'->SV} {val:V->SV} {L:List (Nat × K' × V)} {km c:Nat} {kt et t ty:TypeId} {mx ix vx:Operand} {σ : St} {r:KT} {K:RK} {d:Option Nat} {k:K'}
theorem ZfO {u:Nat} {rs:Option Operand} (hr:rs=none) (h1:Yz u σ.gs=false) (h2:Nat.blt u σ.N=true) (h:r ⟨(u,.mp σ.n) :: σ.fr,(σ.n,.map [] 0) :: σ.hp,σ.n+1,σ.N,σ.gs⟩ K) :
 RAW P (some u) (.makeMap t rs) ty σ r K:=by
 subst hr
 intro o C E a w next Q e1 e2 e3 hS hn hq
 obtain ⟨E',k1,k2,k3,k4⟩:=Zgm (q:=σ.n) (hb:=.map [] 0) (o:=.map #[] 0) hS.hs (by simp [ltn]) (fun E b=>by simp only [occ]) (fun E' g1 g2=>by
  simp only [ZP,g2];exact ⟨#[],heap_alloc_new _ _,rfl⟩)
 have hV:(fun k=>ltn σ.n k\/k = σ.n)=ltn (σ.n+1):=by funext k;simp only [ltn,eq_iff_iff];omega
 rw [hV] at k3
 have hx:(execOp a.eval o).run P w = .ok (.value (.map (some w.heap.size))) (w.alloc (.map #[] 0)):=by
  obtain ⟨dst',op',ty',pos,after,guard⟩:=o
  simp only at e2;subst e2
  simp [execOp,Sem.run_bind,Instr.makeMap,ZcX,Sem.run_pure]
 refine ZO hx (by simp) ?_
 show next (a.put o.dst _) _
 rw [e1]
 refine hn _ E' _ _ h (Xe hS k4 k1 (by omega) k3 (fun hh=>?_) (by simpa [Nat.blt_eq] using h2) (fun _ _ _ e=>by cases e) ?_)
 . rw [ZC.2 hh] at h1;cases h1
 . simp only [R,k2];exact ⟨by simp [ltn],trivial⟩
theorem ZfP {ok:Bool} {zs:SV} {z:Value} (hm:ZbI σ mx = .mp km) (hh:lkh km σ.hp = .map (mpS key val L) c) (ht:P.underlying t=some (.map kt et)) (hK:KeyT P kt key sv) (hi:ZbI σ ix=sv k)
 (hz:Yf P et=some z) (hzR:∀ w E n ok,R w E n ok zs z)
 (h1:∀ v,WR k L=some v->Yc d (bif ok then .tup [val v,.v (.bool true)] else val v) none σ r K) (h0:WR k L=none->Yc d (bif ok then .tup [zs,.v (.bool false)] else zs) none σ r K) :
 RAW P d (.lookup t mx ix ok) ty σ r K:=by
 intro o C E a w next Q e1 e2 e3 hS hn hq
 have hmv:=Zci hS hm (fun _ _ _=>by simp)
 have hiv:=(hK.svR k _).1 (Zci hS hi (Zoh hK k))
 simp only [R] at hmv
 obtain ⟨g0,ys,g1,g2⟩:=Zhi hS hh
 have hfn:=fun w=>hK.fnd k _ _ w (ZaN g2)
 have hex:∀ y,(Instr.lookup t (a.eval mx) (a.eval ix) ok).run P w = .ok y w->(execOp a.eval o).run P w = .ok (.value y) w:=fun y hy=>by
  obtain ⟨dst',op',ty',pos,after,guard⟩:=o
  simp only at e2;subst e2
  simp only [execOp,Sem.run_bind,hy,Result.andThen_ok,Sem.run_pure]
 rcases ZaQ (w:=w) (E:=E) (n:=ltn σ.n) (ok:=okS C E σ.hp) k L ys.toList 0 g2 with ⟨a1,a2,-,-⟩ | ⟨j,v,e,b1,b2,b3,b4,b5,-⟩
 . have hrun:(Instr.lookup t (a.eval mx) (a.eval ix) ok).run P w = .ok (if ok then .tuple #[z,.bool false] else z) w:=by
    rw [hmv.2,hiv]
    simp only [Instr.lookup,Sem.run_bind,run_underlying ht,Result.andThen_ok,YS g1 rfl,Sem.run_pure,hK.chk,hfn,a2,Wq hz]
   refine ZO (hex _ hrun) (by simp) ?_
   show next (a.put o.dst _) _
   rw [e1]
   refine Zhw (h0 a1) hS ?_ hn
   cases ok
   . exact hzR _ _ _ _
   . simp only [cond_true,if_true,R,RL];exact ⟨_,rfl,_,_,rfl,hzR _ _ _ _,_,_,rfl,rfl,rfl⟩
 . have hrun:(Instr.lookup t (a.eval mx) (a.eval ix) ok).run P w = .ok (if ok then .tuple #[e.val,.bool true] else e.val) w:=by
    rw [hmv.2,hiv]
    simp only [Instr.lookup,Sem.run_bind,run_underlying ht,Result.andThen_ok,YS g1 rfl,Sem.run_pure,hK.chk,hfn,b2]
   refine ZO (hex _ hrun) (by simp) ?_
   show next (a.put o.dst _) _
   rw [e1]
   refine Zhw (h1 v b1) hS ?_ hn
   cases ok
   . exact b5
   . simp only [cond_true,if_true,R,RL];exact ⟨_,rfl,_,_,rfl,b5,_,_,rfl,rfl,rfl⟩
theorem Zno {v:V} {s:SV} {ins:Bool} (hm:ZbI σ mx = .mp km) (hh:lkh km σ.hp = .map (mpS key val L) c) (ht:P.underlying t=some (.map kt et)) (hK:KeyT P kt key sv) (hi:ZbI σ ix=sv k)
 (hv:ZbI σ vx=s) (hvg:∀ j b u,s≠.gd j b u) (hsv:∀ w E n ok y,R w E n ok s y->R w E n ok (val v) y) (h:r ⟨σ.fr,(km,.map (mpS key val (VW c k v L)) (Zbo c k L)) :: σ.hp,σ.n,σ.N,σ.gs⟩ K) :
 RAW P none (bif ins then .insert t mx ix vx else .mapUpdate t mx ix vx) ty σ r K:=by
 intro o C E a w next Q e1 e2 e3 hS hn hq
 have hmv:=Zci hS hm (fun _ _ _=>by simp)
 have hiv:=(hK.svR k _).1 (Zci hS hi (Zoh hK k))
 have hvv:=hsv _ _ _ _ _ (Zci hS hv hvg)
 simp only [R] at hmv
 obtain ⟨g0,ys,g1,g2⟩:=Zhi hS hh
 have hfn:=fun w=>hK.fnd k _ _ w (ZaN g2)
 have hex:∀ w',(Instr.mapUpdate t (a.eval mx) (a.eval ix) (a.eval vx)).run P w = .ok () w'->(execOp a.eval o).run P w = .ok .skip w':=fun w' hy=>by
  obtain ⟨dst',op',ty',pos,after,guard⟩:=o
  simp only at e2;subst e2
  cases ins<;>simp only [cond_true,cond_false,execOp,Sem.run_bind,hy,Result.andThen_ok,Sem.run_pure]
 have hfin:∀ ys',((ys':Array MapEntry),Zbo c k L)=(ys',Zbo c k L)->(∀ {w':World} {ok':Nat->Prop},RM w' E (ltn σ.n) ok' (mpS key val L) ys.toList->R w' E (ltn σ.n) ok' (val v) (a.eval vx)->RM w' E (ltn σ.n) ok' (mpS key val (VW c k v L)) ys'.toList) ->
  next (a.put o.dst undef) (VL w (E.β km) (.map ys' (Zbo c k L))):=fun ys' _ hRM=>by
  obtain ⟨q1,q2⟩:=W4 (k:=km) (hb:=.map (mpS key val (VW c k v L)) (Zbo c k L)) (o:=.map ys' (Zbo c k L)) hS.hs (fun b=>by rw [hh];simp only [occ]) (fun b=>by simp only [occ]) (fun hlt hst=>by
   simp only [ZP]
   exact ⟨ys',X0 hlt,hRM (Zaq hst.c (fun _ _=>Ele.rfl) (fun _ h=>h) _ _ g2) (ZE hst.c (fun _ _=>Ele.rfl) (fun _ h=>h) _ _ hvv)⟩)
  rw [e1]
  exact hn _ E _ _ h (ZZ hS q2 (fun _ _=>Ele.rfl) (Nat.le_refl _) q1)
 rcases ZaQ (w:=w) (E:=E) (n:=ltn σ.n) (ok:=okS C E σ.hp) k L ys.toList 0 g2 with ⟨a1,a2,-,a4⟩ | ⟨j,v0,e,b1,b2,b3,b4,b5,b6⟩
 . have hc:Zbo c k L=c+1:=by simp [Zbo,a1]
   have hrun:(Instr.mapUpdate t (a.eval mx) (a.eval ix) (a.eval vx)).run P w = .ok () (VL w (E.β km) (.map (ys.push ⟨key k,a.eval vx,c⟩) (c+1))):=by
    rw [hmv.2,hiv]
    simp only [Instr.mapUpdate,Sem.run_bind,run_underlying ht,Result.andThen_ok,YS g1 rfl,Sem.run_pure,hK.chk,hfn,a2,YU _ g1 rfl]
   refine ZO (hex _ hrun) (by simp) ?_
   show next (a.put o.dst undef) _
   rw [<- hc]
   exact hfin _ rfl fun h1 h2=>by rw [Array.toList_push];exact a4 c v _ h2 h1
 . have hc:Zbo c k L=c:=by simp [Zbo,b1]
   rw [Nat.zero_add] at b2
   have hek:((ys[j]?).map (·.key)).getD (key k)=key k:=by
    have:ys[j]? = some e:=by simpa using b3
    simp [this,b4]
   have hrun:(Instr.mapUpdate t (a.eval mx) (a.eval ix) (a.eval vx)).run P w = .ok () (VL w (E.β km) (.map (ys.modify j fun e=>{ e with key:=key k,val:=a.eval vx }) c)):=by
    rw [hmv.2,hiv]
    simp only [Instr.mapUpdate,Sem.run_bind,run_underlying ht,Result.andThen_ok,YS g1 rfl,Sem.run_pure,hK.chk,hfn,b2,hek,Instr.keyThatStays,hK.same,if_true,YU _ g1 rfl]
   refine ZO (hex _ hrun) (by simp) ?_
   show next (a.put o.dst undef) _
   have:=hfin (ys.modify j fun e=>{ e with key:=key k,val:=a.eval vx }) rfl fun {w' ok'} h1 h2=>by
    rw [Array.toList_modify];exact (b6 h1).2 c v _ h2
   rw [hc] at this;exact this
theorem ZqQ {v:V} {ins:Bool} (hm:ZbI σ mx = .mp km) (hh:lkh km σ.hp = .map (mpS key val L) c) (ht:P.underlying t=some (.map kt et)) (hK:KeyT P kt key sv) (hi:ZbI σ ix=sv k)
 (hv:ZbI σ vx=val v) (hvg:∀ j b u,val v≠.gd j b u) (h:r ⟨σ.fr,(km,.map (mpS key val (VW c k v L)) (Zbo c k L)) :: σ.hp,σ.n,σ.N,σ.gs⟩ K) :
 RAW P none (bif ins then .insert t mx ix vx else .mapUpdate t mx ix vx) ty σ r K:=Zno hm hh ht hK hi hv hvg (fun _ _ _ _ _ h=>h) h
end
section
variable {K V:Type} [DecidableEq K] {k k':K} {v:V} {c:Nat} {L:List (Nat × K × V)}
structure MW (L:List (Nat × K × V)) (c:Nat):Prop where
 bn:(L.map (·.1)).Nodup
 bl:∀ e ∈ L,e.1 < c
 kn:(L.map (·.2.1)).Nodup
omit [DecidableEq K] in
theorem MW.nil {c:Nat}:MW ([]:List (Nat × K × V)) c:=⟨List.nodup_nil,(fun e h=>by cases h),List.nodup_nil⟩
theorem X6:∀ {L:List (Nat × K × V)},WR k L=none↔∀ e ∈ L,e.2.1≠k
 | []=>by simp [WR]
 | e :: l=>by
  simp only [WR]
  split
  . rename_i hk;simp [hk]
  . rename_i hk;rw [X6];simp [hk]
theorem ZcO:∀ {L:List (Nat × K × V)},WR k' (VW c k v L)=if k'=k then some v else WR k' L
 | []=>by simp only [VW,WR];by_cases h:k=k'<;>simp [h,eq_comm]
 | e :: l=>by
  simp only [VW]
  by_cases he:e.2.1=k
  . rw [if_pos he]
    simp only [WR]
    by_cases hk:k=k'
    . subst hk;simp
    . rw [if_neg hk,if_neg (fun h=>hk h.symm),if_neg (fun h=>hk (he.symm.trans h))]
  . rw [if_neg he]
    simp only [WR]
    by_cases hk:e.2.1=k'
    . rw [if_pos hk,if_neg (fun h=>he (hk.trans h)),if_pos hk]
    . rw [if_neg hk,if_neg hk,ZcO]
theorem Zas:∀ {L:List (Nat × K × V)},WR k L=none->VW c k v L=L ++ [(c,k,v)]
 | [],_=>rfl
 | e :: l,h=>by
  simp only [WR] at h
  split at h
  . cases h
  . rename_i he;simp only [VW,if_neg he,Zas h,List.cons_append]
theorem ZcA:∀ {L:List (Nat × K × V)},(WR k L).isSome->(VW c k v L).map (fun e=>(e.1,e.2.1))=L.map fun e=>(e.1,e.2.1)
 | [],h=>by simp [WR] at h
 | e :: l,h=>by
  simp only [WR] at h
  simp only [VW]
  split
  . rename_i he;simp [he]
  . rename_i he;rw [if_neg he] at h;simp [ZcA h]
theorem MW.set (h:MW L c) (v:V):MW (VW c k v L) (Zbo c k L):=by
 cases hg:WR k L with
 | none =>
  have hc:Zbo c k L=c+1:=by simp [Zbo,hg]
  rw [Zas hg,hc]
  have hk:=X6.1 hg
  refine ⟨?_,fun e he=>?_,?_⟩
  . rw [List.map_append,List.nodup_append]
    refine ⟨h.bn,by simp,fun a ha b hb=>?_⟩
    obtain ⟨e,he,rfl⟩:=List.mem_map.1 ha
    simp only [List.map_cons,List.map_nil,List.mem_singleton] at hb
    have:=h.bl e he;omega
  . rcases List.mem_append.1 he with he | he
    . have:=h.bl e he;omega
    . simp only [List.mem_singleton] at he;subst he;simp
  . rw [List.map_append,List.nodup_append]
    refine ⟨h.kn,by simp,fun a ha b hb=>?_⟩
    obtain ⟨e,he,rfl⟩:=List.mem_map.1 ha
    simp only [List.map_cons,List.map_nil,List.mem_singleton] at hb
    rw [hb];exact hk e he
 | some v0 =>
  have hc:Zbo c k L=c:=by simp [Zbo,hg]
  have hm:=ZcA (c:=c) (v:=v) (k:=k) (L:=L) (by rw [hg];rfl)
  have e1:(VW c k v L).map (·.1)=L.map (·.1):=by
   have:=congrArg (List.map Prod.fst) hm;simpa [List.map_map,Function.comp_def] using this
  have e2:(VW c k v L).map (·.2.1)=L.map (·.2.1):=by
   have:=congrArg (List.map Prod.snd) hm;simpa [List.map_map,Function.comp_def] using this
  rw [hc]
  refine ⟨by rw [e1];exact h.bn,fun e he=>?_,by rw [e2];exact h.kn⟩
  have:e.1 ∈ L.map (·.1):=by rw [<- e1];exact List.mem_map.2 ⟨e,he,rfl⟩
  obtain ⟨x,hx,hxe⟩:=List.mem_map.1 this
  rw [<- hxe];exact h.bl x hx
theorem VU:∀ {L:List (Nat × K × V)},(Zau k L).Sublist L
 | []=>.slnil
 | e :: l=>by
  simp only [Zau]
  split
  . exact List.sublist_cons_self _ _
  . exact VU.cons_cons _
theorem MW.del (h:MW L c):MW (Zau k L) c:=⟨(VU.map _).nodup h.bn,fun e he=>h.bl e (VU.subset he),(VU.map _).nodup h.kn⟩
omit [DecidableEq K] in
theorem ZM {key:K->Value} {val:V->SV}:(∀ e ∈ mpS key val L,KF e.2.2)↔∀ v ∈ L.map (·.2.2),KF (val v):=by
 simp only [mpS,List.mem_map]
 exact ⟨fun h v ⟨e,he,hv⟩=>hv ▸ h _ ⟨e,he,rfl⟩,fun h _ ⟨e,he,hx⟩=>hx ▸ h _ ⟨e,he,rfl⟩⟩
omit [DecidableEq K] in
theorem Zx {key:K->Value} {val:V->SV}:(∀ (a:Nat) (b:Value) (c:SV),(a,b,c) ∈ mpS key val L->KF c)↔∀ v ∈ L.map (·.2.2),KF (val v):=by
 rw [<- ZM (key:=key)]
 exact ⟨fun h e he=>h e.1 e.2.1 e.2.2 he,fun h a b c he=>h _ he⟩
end
end Go.Sx
namespace Go.Azalai
open Go.Sx
def dv (d:List Int) (v:Int):Int:=if 0<=v then d.getD v.toNat 100001 else 100001
theorem Zan {d:List Int} {i:Nat} (h:i < d.length):dv d i=d[i]:=by simp [dv,h]
theorem Zs6 {d:List Int} {v:Int} (h:¬ (0<=v/\v < d.length)):dv d v=100001:=by
 unfold dv
 split
 . have:¬ v.toNat < d.length:=by omega
   simp [List.getD_eq_getElem?_getD,List.getElem?_eq_none (Nat.le_of_not_lt this)]
 . rfl
theorem WE {d:List Int} {i:Nat} {x v:Int} (h:i < d.length):dv (d.set i x) v=if v=i then x else dv d v:=by
 unfold dv
 by_cases hv:0<=v
 . rw [if_pos hv,if_pos hv]
   by_cases he:v=i
   . subst he;simp [h]
   . rw [if_neg he]
     have:i≠v.toNat:=by omega
     simp [List.getD_eq_getElem?_getD,this]
 . rw [if_neg hv,if_neg hv,if_neg (by omega)]
structure Gone (k:Bool) (l:Land) (p:Span) (s day:Int) (d:List Int):Prop where
 len:d.length=l.wells.length
 ub:∀ v,dv d v<=100001
 real:∀ v,dv d v=100001\/∃ a,goW k l p s day a=some (v,dv d v)
 st:dv d s<=day
theorem Gone.lb {k:Bool} {l:Land} {p:Span} {s day:Int} {d:List Int} (h:Gone k l p s day d) (hg:OkLP l p) (hd:0<=day) (hd':day<=100000) (h0:0<=s) (h1:s < l.wells.length) (v:Int):day<=dv d v:=by
 rcases h.real v with e | ⟨a,e⟩
 . omega
 . have:=WC hg e hd' h0 h1;omega
theorem Gone.relax {k:Bool} {l:Land} {p:Span} {s day:Int} {d:List Int} (h:Gone k l p s day d) (hg:OkLP l p) {i:Nat} {x:Leg} (hx:l.legs[i]? = some x) {v:Int} {w:Nat} (hw:Zg x v=w) (hd:0<=day) (hd':day<=100000) (h0:0<=s) (h1:s < l.wells.length) :
 Gone k l p s day (d.set w (min (dv d w) (ZR k x p (dv d v))))/\w < d.length:=by
 have hwl:=(Z6 hg hx (v:=v) (by omega)).1
 have hwd:w < d.length:=by rw [h.len];omega
 refine ⟨⟨by simp [h.len],fun u=>?_,fun u=>?_,?_⟩,hwd⟩
 . rw [WE hwd];split
   . have:=h.ub w;omega
   . exact h.ub u
 . rw [WE hwd];split
   . rename_i hu
     by_cases hr:ZR k x p (dv d v) > 100000
     . have:=h.ub w
       have hb:=YC (k:=k) (hg.leg hx) hg.pace (h.ub v)
       rw [show min (dv d w) (ZR k x p (dv d v))=dv d w by omega,hu]
       exact h.real w
     . by_cases hm:dv d w<=ZR k x p (dv d v)
       . rw [Int.min_eq_left hm,hu];exact h.real w
       . rw [Int.min_eq_right (by omega),hu]
         have hb:=YC (k:=k) (hg.leg hx) hg.pace (h.ub v)
         rcases h.real v with e | ⟨a,e⟩
         . omega
         . refine .inr ⟨a ++ [i],?_⟩
           have:=VR e hx (by omega) hr
           rw [hw] at this;exact this
   . exact h.real u
 . rw [WE hwd];split
   . rename_i hs;have:=h.st;rw [hs] at this;omega
   . exact h.st
structure Dij (k:Bool) (l:Land) (p:Span) (s day:Int) (d:List Int) (left:Int->Prop):Prop where
 g:Gone k l p s day d
 cl:∀ x ∈ l.legs,∀ v:Int,0<=v->v < l.wells.length->¬ left v->0<=Zg x v->dv d (Zg x v)<=ZR k x p (dv d v)
 or:∀ u v:Int,0<=u->u < l.wells.length->¬ left u->0<=v->v < l.wells.length->left v->dv d u<=dv d v
theorem Dij.done {k:Bool} {l:Land} {p:Span} {s day:Int} {d:List Int} {left:Int->Prop} (h:Dij k l p s day d left) (hg:OkLP l p) (he:∀ v,¬ left v) (hd:0<=day) (hd':day<=100000) (h0:0<=s) (h1:s < l.wells.length):d=VG k l p s day:=by
 have hc:Zgq k l p (dv d):=fun x hx=>by
  have hen:=hg.ends hx
  have q1:=h.cl x hx x.a hen.1.1 hen.1.2 (he _) (by simp [Zg];omega)
  have q2:=h.cl x hx x.b hen.2.1.1 hen.2.1.2 (he _) (by simp [Zg,hen.2.2];omega)
  simp only [Zg,if_true] at q1
  simp only [Zg,if_neg hen.2.2,if_true] at q2
  exact ⟨q1,q2⟩
 have heq:=ZaO (k:=k) hg hd hd' h0 h1 h.g.st hc h.g.ub h.g.real
 refine List.ext_getElem (by simp [VG,h.g.len]) fun i hi hi'=>?_
 simp only [VG,List.getElem_map,List.getElem_range]
 rw [<- heq,Zan hi]
structure Rnd (k:Bool) (l:Land) (p:Span) (s day:Int) (d0 d:List Int) (near:Int) (j:Nat):Prop where
 g:Gone k l p s day d
 le:∀ v,dv d v<=dv d0 v
 ch:∀ v,dv d v=dv d0 v\/dv d0 near<=dv d v
 nr:dv d near=dv d0 near
 cl:∀ i x,i < j->l.legs[i]? = some x->0<=Zg x near->dv d (Zg x near)<=ZR k x p (dv d0 near)
theorem Rnd.start {k:Bool} {l:Land} {p:Span} {s day:Int} {d:List Int} {near:Int} (h:Gone k l p s day d):Rnd k l p s day d d near 0 :=
 ⟨h,fun _=>Int.le_refl _,fun _=>.inl rfl,rfl,fun i x hi=>by omega⟩
theorem Rnd.skip {k:Bool} {l:Land} {p:Span} {s day:Int} {d0 d:List Int} {near:Int} {j:Nat} (h:Rnd k l p s day d0 d near j) {x:Leg} (hx:l.legs[j]? = some x) (ho:Zg x near < 0):Rnd k l p s day d0 d near (j+1) :=
 ⟨h.g,h.le,h.ch,h.nr,fun i y hi hy h0=>by
  by_cases he:i=j
  . subst he;rw [hx] at hy;cases hy;omega
  . exact h.cl i y (by omega) hy h0⟩
theorem Rnd.step {k:Bool} {l:Land} {p:Span} {s day:Int} {d0 d:List Int} {near:Int} {j:Nat} (h:Rnd k l p s day d0 d near j) (hg:OkLP l p) {x:Leg} (hx:l.legs[j]? = some x) {w:Nat} (hw:Zg x near=w) (hd:0<=day) (hd':day<=100000) (h0:0<=s) (h1:s < l.wells.length) :
 Rnd k l p s day d0 (d.set w (min (dv d w) (ZR k x p (dv d near)))) near (j+1):=by
 obtain ⟨q1,q2⟩:=h.g.relax hg hx hw hd hd' h0 h1
 have hge:=ZaT (k:=k) (hg.leg hx) hg.pace (h.g.ub near)
 have hwn:(w:Int)≠near:=fun e=>by
  have:=hg.ends (List.mem_of_getElem? hx)
  unfold Zg at hw
  split at hw
  . omega
  . split at hw
    . omega
    . omega
 rw [h.nr] at hge
 refine ⟨q1,fun v=>?_,fun v=>?_,?_,fun i y hi hy ho=>?_⟩
 . rw [WE q2];split
   . rename_i hv;have:=h.le w;rw [hv];omega
   . exact h.le v
 . rw [WE q2];split
   . rename_i hv;rw [hv,h.nr]
     have:=h.ch w
     have:=h.le w
     omega
   . exact h.ch v
 . rw [WE q2,if_neg (fun e=>hwn e.symm)];exact h.nr
 . rw [WE q2]
   by_cases he:i=j
   . subst he;rw [hx] at hy;cases hy;rw [if_pos hw,h.nr];omega
   . have:=h.cl i y (by omega) hy ho
     split
     . rename_i hv;rw [hv] at this;omega
     . exact this
theorem Rnd.finish {k:Bool} {l:Land} {p:Span} {s day:Int} {d0 d:List Int} {near:Int} {left left':Int->Prop} (hD:Dij k l p s day d0 left) (h:Rnd k l p s day d0 d near l.legs.length) (hn:left near) (hn0:0<=near) (hn1:near < l.wells.length)
 (hmin:∀ v:Int,0<=v->v < l.wells.length->left v->dv d0 near<=dv d0 v) (hl:∀ v,left' v↔left v/\v≠near) (hg:OkLP l p):Dij k l p s day d left':=by
 have keep:∀ u:Int,0<=u->u < l.wells.length->¬ left' u->dv d u=dv d0 u:=fun u q1 q2 q3=>by
  by_cases he:u=near
  . rw [he];exact h.nr
  . have hnl:¬ left u:=fun hh=>q3 ((hl u).2 ⟨hh,he⟩)
    have:=hD.or u near q1 q2 hnl hn0 hn1 hn
    have:=h.ch u
    have:=h.le u
    omega
 refine ⟨h.g,fun x hx v q1 q2 q3 ho=>?_,fun u v q1 q2 q3 q4 q5 q6=>?_⟩
 . by_cases he:v=near
   . subst he
     obtain ⟨i,hi⟩:=List.mem_iff_getElem?.1 hx
     have:=h.cl i x (by rcases List.getElem?_eq_some_iff.1 hi with ⟨a,_⟩;exact a) hi ho
     rw [keep _ q1 q2 q3];exact this
   . have hnl:¬ left v:=fun hh=>q3 ((hl v).2 ⟨hh,he⟩)
     have:=hD.cl x hx v q1 q2 hnl ho
     rw [keep v q1 q2 q3]
     have:=h.le (Zg x v)
     omega
 . rw [keep u q1 q2 q3]
   have hv:=(hl v).1 q6
   have hun:dv d0 u<=dv d0 near:=by
    by_cases he:u=near
    . rw [he];omega
    . exact hD.or u near q1 q2 (fun hh=>q3 ((hl u).2 ⟨hh,he⟩)) hn0 hn1 hn
   have:=hmin v q4 q5 hv.1
   have:=h.ch v
   omega
end Go.Azalai
namespace Go.Proofs.Ytkjldleglbbkeaa
open Go Go.Sx Go.Azalai
theorem u99:Try.prog.underlying 99=some (.map 3 4):=by kernel_rfl
theorem u3:Try.prog.underlying 3=some (.int .i64):=by kernel_rfl
theorem Zsu:KeyT Try.prog 3 (fun n:Int=>.int .i64 n) (fun n=>.v (.int .i64 n)):=ZuH u3
abbrev kI:Int->Value:=fun n=>.int .i64 n
abbrev sI:Int->SV:=fun n=>.v (.int .i64 n)
end Go.Proofs.Ytkjldleglbbkeaa
namespace Go.Azalai
noncomputable def Zdj (l:Land) (p:Span) (s day:Int):List Span:=List.zipWith Span.mk (VG false l p s day) (VG true l p s day)
theorem Zdq {k:Bool} {l:Land} {p:Span} {s day:Int}:(VG k l p s day).length=l.wells.length:=by simp [VG]
theorem Zdr {l:Land} {p:Span} {s day:Int}:(Zdj l p s day).length=l.wells.length:=by simp [Zdj,Zdq]
theorem ZnV {l:Land} {p:Span} (h:ZaV l p=0):OkLP l p:=by
 unfold ZaV at h
 split at h
 . omega
 . split at h
   . omega
   . rename_i h1 h2;exact ⟨by simpa using h1,by simpa using h2⟩
end Go.Azalai
namespace Go.Proofs.Ytkjldleglbbkeaa
open Go Go.Sx Go.Azalai
def ZaJ (e:Int) (m:Nat) (xs:List (List SV)):SV:=if e=0 then .sl false m xs else .v (.slice none 0 0)
end Go.Proofs.Ytkjldleglbbkeaa
namespace Go.Azalai
def ZeQ (S:List Span):List Int:=S.map (·.lo)
def Zie (S:List Span):List Int:=S.map (·.hi)
def ZuK (p:Span) (S:List Span) (x:Leg) (v:Int):Prop:=0<=Zg x v->dv (ZeQ S) (Zg x v)<=ZR false x p (dv (ZeQ S) v)/\dv (Zie S) (Zg x v)<=ZR true x p (dv (Zie S) v)
def Zvb (S:List Span):Nat:=(S.map fun s=>s.lo.toNat+s.hi.toNat).sum
def Ztx (x:Leg) (c:Nat):Int:=if c % 2=0 then x.a else x.b
structure RI (l:Land) (p:Span) (s day:Int) (S0 S:List Span) (ch:Bool) (c:Nat):Prop where
 g0:Gone false l p s day (ZeQ S)
 g1:Gone true l p s day (Zie S)
 le:Zvb S<=Zvb S0
 dec:ch=true->Zvb S < Zvb S0
 same:ch=false->S=S0/\∀ c' x,c' < c->l.legs[c' / 2]? = some x->ZuK p S0 x (Ztx x c')
theorem RI.start {l:Land} {p:Span} {s day:Int} {S:List Span} (h0:Gone false l p s day (ZeQ S)) (h1:Gone true l p s day (Zie S)):RI l p s day S S false 0 :=
 ⟨h0,h1,Nat.le_refl _,fun h=>(by cases h),fun _=>⟨rfl,fun c' x h=>absurd h (Nat.not_lt_zero _)⟩⟩
theorem RI.len {l:Land} {p:Span} {s day:Int} {S0 S:List Span} {ch:Bool} {c:Nat} (h:RI l p s day S0 S ch c):S.length=l.wells.length:=by have:=h.g0.len;simpa [ZeQ] using this
theorem ZnZ {S:List Span} {i:Nat} (h:i < S.length):dv (ZeQ S) i=S[i].lo/\dv (Zie S) i=S[i].hi:=by
 constructor
 . rw [Zan (by simpa [ZeQ] using h)];simp [ZeQ]
 . rw [Zan (by simpa [Zie] using h)];simp [Zie]
theorem RI.in {l:Land} {p:Span} {s day:Int} {S0 S:List Span} {ch:Bool} {c:Nat} (h:RI l p s day S0 S ch c) (hg:OkLP l p) (hd:0<=day) (hd':day<=100000) (h0:0<=s) (h1:s < l.wells.length) {i:Nat} (hi:i < S.length) :
 (0<=S[i].lo/\S[i].lo<=100001)/\0<=S[i].hi/\S[i].hi<=100001:=by
 have q:=ZnZ hi
 have a1:=h.g0.lb hg hd hd' h0 h1 i
 have a2:=h.g0.ub i
 have b1:=h.g1.lb hg hd hd' h0 h1 i
 have b2:=h.g1.ub i
 omega
theorem RI.done {l:Land} {p:Span} {s day:Int} {S0 S:List Span} {c:Nat} (h:RI l p s day S0 S false c) (hc:2 * l.legs.length<=c) (hg:OkLP l p) (hd:0<=day) (hd':day<=100000) (h0:0<=s) (h1:s < l.wells.length):S=Zdj l p s day:=by
 obtain ⟨q1,q2⟩:=h.same rfl
 subst q1
 have hcl:∀ x ∈ l.legs,(dv (ZeQ S) x.b<=ZR false x p (dv (ZeQ S) x.a)/\dv (ZeQ S) x.a<=ZR false x p (dv (ZeQ S) x.b))/\(dv (Zie S) x.b<=ZR true x p (dv (Zie S) x.a)/\dv (Zie S) x.a<=ZR true x p (dv (Zie S) x.b)):=fun x hx=>by
  obtain ⟨i,hi⟩:=List.mem_iff_getElem?.1 hx
  have hil:i < l.legs.length:=(List.getElem?_eq_some_iff.1 hi).1
  have hen:=hg.ends hx
  have k1:=q2 (2 * i) x (by omega) (by rw [show 2 * i / 2=i by omega];exact hi)
  have k2:=q2 (2 * i+1) x (by omega) (by rw [show (2 * i+1) / 2=i by omega];exact hi)
  simp only [ZuK,Ztx,show 2 * i % 2=0 by omega,show ¬ (2 * i+1) % 2=0 by omega,if_true,if_false,Zg,if_neg hen.2.2] at k1 k2
  have m1:=k1 hen.2.1.1
  have m2:=k2 hen.1.1
  exact ⟨⟨m1.1,m2.1⟩,⟨m1.2,m2.2⟩⟩
 have e0:=ZaO (k:=false) hg hd hd' h0 h1 h.g0.st (fun x hx=>(hcl x hx).1) h.g0.ub h.g0.real
 have e1:=ZaO (k:=true) hg hd hd' h0 h1 h.g1.st (fun x hx=>(hcl x hx).2) h.g1.ub h.g1.real
 have hl:=h.len
 refine List.ext_getElem (by rw [hl,Zdr]) fun i hi hi'=>?_
 have d:=ZnZ hi
 simp only [Zdj,List.getElem_zipWith,VG,List.getElem_map,List.getElem_range]
 rw [<- e0,<- e1,d.1,d.2]
theorem RI.again {l:Land} {p:Span} {s day:Int} {S0 S:List Span} {ch:Bool} {c:Nat} (h:RI l p s day S0 S ch c):RI l p s day S S false 0:=.start h.g0 h.g1
open Go.Sx
def Wt:List Nat->List Nat->Bool
 | [],[]=>false
 | [],_ :: _=>true
 | _ :: _,[]=>false
 | x :: a,y :: b=>decide (x < y) || (x == y && Wt a b)
theorem Wo:∀ a:List Nat,Wt a a=false
 | []=>rfl
 | x :: a=>by simp [Wt,Wo a]
theorem Zde:∀ {a b:List Nat},Wt a b=false->Wt b a=false->a=b
 | [],[],_,_=>rfl
 | [],_ :: _,h,_=>by simp [Wt] at h
 | _ :: _,[],_,h=>by simp [Wt] at h
 | x :: a,y :: b,h,h'=>by
  simp only [Wt,Bool.or_eq_false_iff,decide_eq_false_iff_not,Bool.and_eq_false_iff,beq_eq_false_iff_ne] at h h'
  have hxy:x=y:=by omega
  subst hxy
  rw [Zde (a:=a) (b:=b) (by simpa using h.2) (by simpa using h'.2)]
theorem Wb:∀ {a b c:List Nat},Wt a b=true->Wt b c=true->Wt a c=true
 | [],[],_,h,_=>by simp [Wt] at h
 | [],_ :: _,[],_,h=>by simp [Wt] at h
 | [],_ :: _,_ :: _,_,_=>rfl
 | _ :: _,[],_,h,_=>by simp [Wt] at h
 | _ :: _,_ :: _,[],_,h=>by simp [Wt] at h
 | x :: a,y :: b,z :: c,h,h'=>by
  simp only [Wt,Bool.or_eq_true,decide_eq_true_eq,Bool.and_eq_true,beq_iff_eq] at h h' ⊢
  rcases h with h | ⟨rfl,h⟩
  . rcases h' with h' | ⟨rfl,h'⟩
    . exact .inl (by omega)
    . exact .inl h
  . rcases h' with h' | ⟨rfl,h'⟩
    . exact .inl h'
    . exact .inr ⟨rfl,Wb h h'⟩
theorem VQ:∀ {a b c d:List Nat},a.length=b.length->Wt (a ++ c) (b ++ d)=(Wt a b || (decide (a=b) && Wt c d))
 | [],[],c,d,_=>by simp [Wt]
 | x :: a,y :: b,c,d,h=>by
  rw [List.cons_append,List.cons_append,Wt,Wt,VQ (a:=a) (b:=b) (c:=c) (d:=d) (by simpa using h)]
  by_cases hxy:x=y
  . subst hxy;simp
  . have hb:(x == y)=false:=beq_eq_false_iff_ne.2 hxy
    have hc:decide (x :: a=y :: b)=false:=by simp [hxy]
    rw [hb,hc];simp
 | [],_ :: _,_,_,h=>by simp at h
 | _ :: _,[],_,_,h=>by simp at h
def Ztj (W:List Nat->Prop) (a:List Nat):Prop:=W a/\∀ b,W b->Wt b a=false
theorem Ztj.congr {W W':List Nat->Prop} {a:List Nat} (h:Ztj W a) (hw:∀ b,W' b↔W b):Ztj W' a:=⟨(hw a).2 h.1,fun b hb=>h.2 b ((hw b).1 hb)⟩
def Zh6 (l:Land) (p:Span) (s day:Int) (n:Nat) (q:Int × Int) (a:List Nat):Prop:=a.length=n/\goW true l p s day a=some q
theorem ZcP {l:Land} {p:Span} {s day:Int} {a:List Nat} {i:Nat} {q:Int × Int} (h:goW true l p s day (a ++ [i])=some q) :
 ∃ u x,goW true l p s day a=some u/\l.legs[i]? = some x/\0<=Zg x u.1/\ZR true x p u.2<=100000/\q=(Zg x u.1,ZR true x p u.2):=by
 rw [UA] at h
 cases hu:goW true l p s day a with
 | none=>rw [hu] at h;simp at h
 | some u =>
  rw [hu] at h
  simp only [Option.bind_some,goW] at h
  cases hx:l.legs[i]? with
  | none=>rw [hx] at h;cases h
  | some x =>
   rw [hx] at h
   simp only at h
   split at h
   . cases h
   . split at h
     . cases h
     . exact ⟨u,x,rfl,rfl,by omega,by omega,by injection h with h;exact h.symm⟩
def Cand (l:Land) (p:Span) (G:Int) (L:Int × Int->Option (List Nat)) (done:Int × Int->Nat->Prop) (q:Int × Int) (a:List Nat):Prop :=
 ∃ u w i x,L u=some w/\done u i/\l.legs[i]? = some x/\0<=Zg x u.1/\ZR true x p u.2<=G/\q=(Zg x u.1,ZR true x p u.2)/\a=w ++ [i]
def Zax (W:List Nat->Prop):Option (List Nat)->Prop
 | none=>∀ a,¬ W a
 | some a=>Ztj W a
theorem Zax.congr {W W':List Nat->Prop} {o:Option (List Nat)} (h:Zax W o) (hw:∀ b,W' b↔W b):Zax W' o:=by
 cases o with
 | none=>exact fun a ha=>h a ((hw a).1 ha)
 | some a=>exact Ztj.congr h hw
def Zqc (c:List Nat):Option (List Nat)->Option (List Nat)
 | none=>some c
 | some d=>if Wt c d=true then some c else some d
theorem Zax.more {W W':List Nat->Prop} {o:Option (List Nat)} {c:List Nat} (h:Zax W o) (hw:∀ b,W' b↔W b\/b=c) :
 Zax W' (Zqc c o):=by
 cases o with
 | none=>exact ⟨(hw c).2 (.inr rfl),fun b hb=>by
  rcases (hw b).1 hb with hb | rfl
  . exact absurd hb (h b)
  . exact Wo _⟩
 | some d =>
  simp only [Zqc]
  split
  . rename_i hcd
    refine ⟨(hw c).2 (.inr rfl),fun b hb=>?_⟩
    rcases (hw b).1 hb with hb | rfl
    . cases hq:Wt b c with
      | false=>rfl
      | true=>have:=Wb hq hcd;rw [h.2 b hb] at this;cases this
    . exact Wo _
  . rename_i hcd
    refine ⟨(hw d).2 (.inl h.1),fun b hb=>?_⟩
    rcases (hw b).1 hb with hb | rfl
    . exact h.2 b hb
    . simpa using hcd
def Nxt (l:Land) (p:Span) (G:Int) (L N:Int × Int->Option (List Nat)) (done:Int × Int->Nat->Prop):Prop:=∀ q,Zax (Cand l p G L done q) (N q)
theorem Nxt.congr {l:Land} {p:Span} {G:Int} {L N N':Int × Int->Option (List Nat)} {done done':Int × Int->Nat->Prop} (h:Nxt l p G L N done) (hN:∀ q,N' q=N q) (hd:∀ u w i,L u=some w->i < l.legs.length->(done' u i↔done u i)):Nxt l p G L N' done':=fun q=>by
 rw [hN]
 refine (h q).congr fun b=>⟨?_,?_⟩
 . rintro ⟨u,w,i,x,h1,h2,h3⟩;exact ⟨u,w,i,x,h1,(hd u w i h1 (List.getElem?_eq_some_iff.1 h3.1).1).1 h2,h3⟩
 . rintro ⟨u,w,i,x,h1,h2,h3⟩;exact ⟨u,w,i,x,h1,(hd u w i h1 (List.getElem?_eq_some_iff.1 h3.1).1).2 h2,h3⟩
theorem Nxt.start {l:Land} {p:Span} {G:Int} {L N:Int × Int->Option (List Nat)} (hN:∀ q,N q=none):Nxt l p G L N (fun _ _=>False):=fun q=>by
 rw [hN];rintro a ⟨_,_,_,_,_,h,_⟩;exact h
theorem Nxt.skip {l:Land} {p:Span} {G:Int} {L N:Int × Int->Option (List Nat)} {done:Int × Int->Nat->Prop} (h:Nxt l p G L N done) {u:Int × Int} {i:Nat} {x:Leg} (hx:l.legs[i]? = some x) (hn:¬ (0<=Zg x u.1/\ZR true x p u.2<=G)) :
 Nxt l p G L N (fun u' i'=>done u' i'\/u'=u/\i'=i):=fun q=>(h q).congr fun b=>⟨by
  rintro ⟨u',w,i',x',h1,h2,h3,h4,h5,h6⟩
  rcases h2 with h2 | ⟨rfl,rfl⟩
  . exact ⟨u',w,i',x',h1,h2,h3,h4,h5,h6⟩
  . rw [hx] at h3;cases h3;exact absurd ⟨h4,h5⟩ hn,by
  rintro ⟨u',w,i',x',h1,h2,h3⟩;exact ⟨u',w,i',x',h1,.inl h2,h3⟩⟩
theorem Nxt.step {l:Land} {p:Span} {G:Int} {L N N':Int × Int->Option (List Nat)} {done:Int × Int->Nat->Prop} (h:Nxt l p G L N done) {u:Int × Int} {w:List Nat} {i:Nat} {x:Leg} (hL:L u=some w) (hx:l.legs[i]? = some x) (h0:0<=Zg x u.1) (h1:ZR true x p u.2<=G)
 (hN:∀ q,N' q=if q=(Zg x u.1,ZR true x p u.2) then Zqc (w ++ [i]) (N q) else N q) :
 Nxt l p G L N' (fun u' i'=>done u' i'\/u'=u/\i'=i):=fun q=>by
 rw [hN]
 by_cases hq:q=(Zg x u.1,ZR true x p u.2)
 . rw [if_pos hq]
   refine Zax.more (h q) fun b=>⟨?_,?_⟩
   . rintro ⟨u',w',i',x',k1,k2,k3,k4,k5,k6,k7⟩
     rcases k2 with k2 | ⟨rfl,rfl⟩
     . exact .inl ⟨u',w',i',x',k1,k2,k3,k4,k5,k6,k7⟩
     . rw [hL] at k1;cases k1;exact .inr k7
   . rintro (⟨u',w',i',x',k1,k2,k3⟩ | rfl)
     . exact ⟨u',w',i',x',k1,.inl k2,k3⟩
     . exact ⟨u,w,i,x,hL,.inr ⟨rfl,rfl⟩,hx,h0,h1,hq,rfl⟩
 . rw [if_neg hq]
   refine (h q).congr fun b=>⟨?_,?_⟩
   . rintro ⟨u',w',i',x',k1,k2,k3,k4,k5,k6,k7⟩
     rcases k2 with k2 | ⟨rfl,rfl⟩
     . exact ⟨u',w',i',x',k1,k2,k3,k4,k5,k6,k7⟩
     . rw [hx] at k3;cases k3;exact absurd k6 hq
   . rintro ⟨u',w',i',x',k1,k2,k3⟩
     exact ⟨u',w',i',x',k1,.inl k2,k3⟩
def Rd (l:Land) (p:Span) (s day G:Int) (n:Nat) (L:Int × Int->Option (List Nat)):Prop:=∀ q,Zax (fun a=>q.2<=G/\Zh6 l p s day n q a) (L q)
theorem Rd.start {l:Land} {p:Span} {s day G:Int} {L:Int × Int->Option (List Nat)} (hG:day<=G) (hL:∀ q,L q=if q=(s,day) then some [] else none):Rd l p s day G 0 L:=fun q=>by
 rw [hL]
 split
 . rename_i hq
   subst hq
   exact ⟨⟨hG,rfl,rfl⟩,fun b hb=>by rw [List.eq_nil_of_length_eq_zero hb.2.1];rfl⟩
 . rename_i hq
   rintro a ⟨_,h1,h2⟩
   rw [List.eq_nil_of_length_eq_zero h1] at h2
   simp only [goW,Option.some.injEq] at h2
   exact hq h2.symm
theorem Rd.next {l:Land} {p:Span} {s day G:Int} {n:Nat} {L N:Int × Int->Option (List Nat)} {done:Int × Int->Nat->Prop} (hg:OkLP l p) (h:Rd l p s day G n L) (hN:Nxt l p G L N done) (hd:∀ u w i,L u=some w->i < l.legs.length->done u i) (hG:G<=100000)
 (hd':day<=100000) (h0:0<=s) (h1:s < l.wells.length):Rd l p s day G (n+1) N:=fun q=>by
 have hq:=hN q
 have one:∀ a,Cand l p G L done q a->q.2<=G/\Zh6 l p s day (n+1) q a:=by
  rintro a ⟨u,w,i,x,k1,_,k3,k4,k5,rfl,rfl⟩
  have:=h u
  rw [k1] at this
  obtain ⟨⟨g1,g2,g3⟩,_⟩:=this
  exact ⟨k5,by simp [g2],VR (v:=u.1) (u:=u.2) g3 k3 (by omega) (by omega)⟩
 have two:∀ b,(q.2<=G/\Zh6 l p s day (n+1) q b)->∃ a,Cand l p G L done q a/\Wt b a=false:=by
  rintro b ⟨k1,k2,k3⟩
  obtain ⟨c,i,rfl⟩:∃ c i,b=c ++ [i]:=by
   rcases List.eq_nil_or_concat b with rfl | ⟨c,i,rfl⟩
   . simp at k2
   . exact ⟨c,i,by simp⟩
  obtain ⟨u,x,g1,g2,g3,g4,g5⟩:=ZcP k3
  have hub:=WC hg (v':=u.1) (t':=u.2) g1 hd' h0 h1
  have hge:=ZaT (k:=true) (t:=u.2) (hg.leg g2) hg.pace (by omega)
  have hq2:q.2=ZR true x p u.2:=by rw [g5]
  have hu:=h u
  cases hLu:L u with
  | none=>rw [hLu] at hu;exact absurd ⟨by omega,by simpa using k2,g1⟩ (hu c)
  | some w =>
   rw [hLu] at hu
   have hlen:c.length=w.length:=by rw [hu.1.2.1];simpa using k2
   refine ⟨w ++ [i],⟨u,w,i,x,hLu,hd u w i hLu (List.getElem?_eq_some_iff.1 g2).1,g2,g3,by omega,g5,rfl⟩,?_⟩
   rw [VQ hlen,hu.2 c ⟨by omega,by simpa using k2,g1⟩]
   simp [Wt]
 cases hNq:N q with
 | none =>
  rw [hNq] at hq
  intro b hb
  obtain ⟨a,ha,_⟩:=two b hb
  exact hq a ha
 | some a =>
  rw [hNq] at hq
  refine ⟨one a hq.1,fun b hb=>?_⟩
  obtain ⟨c,hc,hbc⟩:=two b hb
  cases hba:Wt b a with
  | false=>rfl
  | true =>
   have hca:=hq.2 c hc
   cases hcb:Wt c b with
   | true=>have:=Wb hcb hba;rw [hca] at this;cases this
   | false=>rw [Zde hbc hcb,hca] at hba;cases hba
def Zoe (l:Land) (p:Span) (s to day:Int) (a:List Nat):Prop :=
 goW true l p s day a=some (to,Yx true l p s day to)/\∀ b,goW true l p s day b=some (to,Yx true l p s day to)->a.length < b.length\/(a.length=b.length/\Wt b a=false)
theorem Rd.sure {l:Land} {p:Span} {s to day G:Int} {n:Nat} {L:Int × Int->Option (List Nat)} {a:List Nat} (h:Rd l p s day G n L) (hG:G=Yx true l p s day to) (hL:L (to,G)=some a) (hm:∀ m,m < n->∀ b,¬ Zh6 l p s day m (to,G) b):Zoe l p s to day a:=by
 subst hG
 have hq:=h (to,Yx true l p s day to)
 rw [hL] at hq
 refine ⟨hq.1.2.2,fun b hb=>?_⟩
 by_cases hlt:b.length < n
 . exact absurd ⟨rfl,hb⟩ (hm b.length hlt b)
 . have hn:=hq.1.2.1
   by_cases he:b.length=n
   . exact .inr ⟨by omega,hq.2 b ⟨Int.le_refl _,he,hb⟩⟩
   . exact .inl (by omega)
theorem Rd.not {l:Land} {p:Span} {s to day G:Int} {n:Nat} {L:Int × Int->Option (List Nat)} (h:Rd l p s day G n L) (hL:L (to,G)=none) (hm:∀ m,m < n->∀ b,¬ Zh6 l p s day m (to,G) b):∀ m,m < n+1->∀ b,¬ Zh6 l p s day m (to,G) b:=fun m hmn b hb=>by
 by_cases he:m=n
 . subst he
   have:=h (to,G)
   rw [hL] at this
   exact this b ⟨Int.le_refl _,hb⟩
 . exact hm m (by omega) b hb
open Classical in
noncomputable def Yq (l:Land) (p:Span) (v t:Int) (n:Nat) (w:Int):Int :=
 if h:∃ m:Nat,∃ a,Zh6 l p v t n (w,(m:Int)) a then ((Go.Sx.least_ex _ h).choose:Int) else 100001
theorem XZ {l:Land} {p:Span} (h:OkLP l p) {v t w u:Int} {n:Nat} {a:List Nat} (e:Zh6 l p v t n (w,u) a) (ht:0<=t) (ht':t<=100000) (h0:0<=v) (h1:v < l.wells.length):Yq l p v t n w<=u:=by
 have hb:=WC h e.2 ht' h0 h1
 have eu:((u.toNat:Nat):Int)=u:=by omega
 have hex:∃ m:Nat,∃ a,Zh6 l p v t n (w,(m:Int)) a:=⟨u.toNat,a,by rw [eu];exact e⟩
 unfold Yq
 rw [dif_pos hex]
 have:=(Go.Sx.least_ex _ hex).choose_spec.2 u.toNat ⟨a,by rw [eu];exact e⟩
 omega
theorem Yn {l:Land} {p:Span} {v t w:Int} {n:Nat}:Yq l p v t n w=100001\/∃ a,Zh6 l p v t n (w,Yq l p v t n w) a:=by
 unfold Yq
 by_cases hex:∃ m:Nat,∃ a,Zh6 l p v t n (w,(m:Int)) a
 . rw [dif_pos hex];exact .inr (Go.Sx.least_ex _ hex).choose_spec.1
 . rw [dif_neg hex];exact .inl rfl
theorem Ud {l:Land} {p:Span} (h:OkLP l p) {v t w:Int} {n:Nat} (ht:0<=t) (ht':t<=100000) (h0:0<=v) (h1:v < l.wells.length):t<=Yq l p v t n w/\Yq l p v t n w<=100001:=by
 rcases Yn (l:=l) (p:=p) (v:=v) (t:=t) (n:=n) (w:=w) with e | ⟨a,e⟩
 . omega
 . have:=WC h e.2 ht' h0 h1;omega
theorem ZiD {l:Land} {p:Span} (h:OkLP l p) {v t w:Int} (ht:0<=t) (ht':t<=100000) (h0:0<=v) (h1:v < l.wells.length):Yq l p v t 0 w=if w=v then t else 100001:=by
 rcases Yn (l:=l) (p:=p) (v:=v) (t:=t) (n:=0) (w:=w) with e | ⟨a,e1,e2⟩
 . split
   . rename_i hw
     subst hw
     have:=XZ (u:=t) (a:=[]) (n:=0) (w:=w) h ⟨rfl,rfl⟩ ht ht' h0 h1
     omega
   . exact e
 . rw [List.eq_nil_of_length_eq_zero e1] at e2
   simp only [goW,Option.some.injEq,Prod.mk.injEq] at e2
   rw [if_pos e2.1.symm];exact e2.2.symm
noncomputable def VK (l:Land) (p:Span) (v t:Int) (n:Nat):List Int:=(List.range l.wells.length).map fun w:Nat=>Yq l p v t n (w:Int)
theorem Zaj {l:Land} {p:Span} {v t:Int} {n:Nat}:(VK l p v t n).length=l.wells.length:=by simp [VK]
theorem Zda {l:Land} {p:Span} {v t w:Int} {n:Nat} (h0:0<=w) (h1:w < l.wells.length):dv (VK l p v t n) w=Yq l p v t n w:=by
 obtain ⟨i,rfl⟩:∃ i:Nat,w=(i:Int):=⟨w.toNat,by omega⟩
 rw [Zan (by rw [Zaj];omega)]
 simp [VK]
structure Lst (l:Land) (p:Span) (c d:List Int) (j:Nat):Prop where
 len:d.length=l.wells.length
 ub:∀ w,dv d w<=100001
 le:∀ (i:Nat) (x:Leg) (v:Int),i < j->l.legs[i]? = some x->0<=Zg x v->dv d (Zg x v)<=ZR true x p (dv c v)
 real:∀ w,dv d w=100001\/∃ (i:Nat) (x:Leg) (v:Int),l.legs[i]? = some x/\0<=Zg x v/\Zg x v=w/\dv d w=ZR true x p (dv c v)
theorem Lst.start {l:Land} {p:Span} {c:List Int}:Lst l p c (List.replicate l.wells.length 100001) 0:=by
 have e:∀ w,dv (List.replicate l.wells.length 100001) w=100001:=fun w=>by
  by_cases hw:0<=w/\w < (List.replicate l.wells.length (100001:Int)).length
  . obtain ⟨i,rfl⟩:∃ i:Nat,w=(i:Int):=⟨w.toNat,by omega⟩
    rw [Zan (by omega)];simp
  . exact Zs6 hw
 exact ⟨by simp,fun w=>by rw [e];exact Int.le_refl _,fun i x v h=>by omega,fun w=>.inl (e w)⟩
theorem Za2 {l:Land} {p:Span} {c d:List Int} {x:Leg} {v:Int} {w:Nat} (hlen:d.length=l.wells.length) (hw:w < d.length) {i:Nat} (hx:l.legs[i]? = some x) (ho:Zg x v=w) (hub:∀ w,dv d w<=100001) (hr:∀ w,dv d w=100001\/∃ (i:Nat) (x:Leg) (v:Int),l.legs[i]? = some x/\0<=Zg x v/\Zg x v=w/\dv d w=ZR true x p (dv c v)) :
 (∀ u,dv (d.set w (min (dv d w) (ZR true x p (dv c v)))) u<=dv d u)/\(dv (d.set w (min (dv d w) (ZR true x p (dv c v)))) w<=ZR true x p (dv c v)) /\
 ∀ u,dv (d.set w (min (dv d w) (ZR true x p (dv c v)))) u=100001\/∃ (i:Nat) (y:Leg) (v':Int),l.legs[i]? = some y/\0<=Zg y v'/\Zg y v'=u/\dv (d.set w (min (dv d w) (ZR true x p (dv c v)))) u=ZR true y p (dv c v'):=by
 refine ⟨fun u=>?_,?_,fun u=>?_⟩
 . rw [WE hw];split
   . rename_i hu;rw [hu];omega
   . exact Int.le_refl _
 . rw [WE hw,if_pos rfl];omega
 . rw [WE hw];split
   . rename_i hu
     by_cases hm:dv d w<=ZR true x p (dv c v)
     . rw [Int.min_eq_left hm,hu];exact hr w
     . rw [Int.min_eq_right (by omega)]
       exact .inr ⟨i,x,v,hx,by omega,by omega,rfl⟩
   . exact hr u
theorem Lst.step {l:Land} {p:Span} {c d:List Int} {j:Nat} (h:Lst l p c d j) (hg:OkLP l p) {x:Leg} (hx:l.legs[j]? = some x) {a b:Nat} (ha:x.a=a) (hb:x.b=b) :
 Lst l p c ((d.set b (min (dv d b) (ZR true x p (dv c a)))).set a (min (dv (d.set b (min (dv d b) (ZR true x p (dv c a)))) a) (ZR true x p (dv c b)))) (j+1):=by
 have hen:=hg.ends (List.mem_of_getElem? hx)
 have hbl:b < d.length:=by rw [h.len];omega
 have hal:a < d.length:=by rw [h.len];omega
 have o1:Zg x (a:Int)=(b:Int):=by rw [Zg,if_pos ha,hb]
 have o2:Zg x (b:Int)=(a:Int):=by rw [Zg,if_neg (by omega),if_pos hb,ha]
 obtain ⟨q1,q2,q3⟩:=Za2 (v:=(a:Int)) h.len hbl hx o1 h.ub h.real
 have hl1:(d.set b (min (dv d b) (ZR true x p (dv c a)))).length=d.length:=List.length_set
 generalize d.set b (min (dv d b) (ZR true x p (dv c a)))=d1 at q1 q2 q3 hl1
 obtain ⟨r1,r2,r3⟩:=Za2 (v:=(b:Int)) (hl1.trans h.len) (by omega:a < d1.length) hx o2 (fun w=>Int.le_trans (q1 w) (h.ub w)) q3
 have hl2:(d1.set a (min (dv d1 a) (ZR true x p (dv c b)))).length=d1.length:=List.length_set
 generalize d1.set a (min (dv d1 a) (ZR true x p (dv c b)))=d2 at r1 r2 r3 hl2
 refine ⟨by rw [hl2,hl1,h.len],fun w=>Int.le_trans (r1 w) (Int.le_trans (q1 w) (h.ub w)),fun i y v hi hy ho=>?_,r3⟩
 by_cases he:i=j
 . subst he
   rw [hx] at hy;cases hy
   rcases (Z6 hg hx (v:=v) (by omega)).2.1 with ⟨e1,e2⟩ | ⟨e1,e2⟩
   . have ev:v=(a:Int):=by omega
     subst ev
     rw [o1]
     exact Int.le_trans (r1 _) q2
   . have ev:v=(b:Int):=by omega
     subst ev
     rw [o2];exact r2
 . exact Int.le_trans (r1 _) (Int.le_trans (q1 _) (h.le i y v (by omega) hy ho))
theorem Lst.done {l:Land} {p:Span} {v t:Int} {n:Nat} {d:List Int} (h:Lst l p (VK l p v t n) d l.legs.length) (hg:OkLP l p) (ht:0<=t) (ht':t<=100000) (h0:0<=v) (h1:v < l.wells.length):d=VK l p v t (n+1):=by
 refine List.ext_getElem (by rw [h.len,Zaj]) fun i hi hi'=>?_
 have hil:i < l.wells.length:=by rw [h.len] at hi;exact hi
 rw [show (VK l p v t (n+1))[i]=Yq l p v t (n+1) i by simp [VK],<- Zan hi]
 have hlow:Yq l p v t (n+1) i<=dv d i:=by
  rcases h.real i with e | ⟨k,x,u,hx,ho,hou,e⟩
  . rw [e];exact (Ud hg ht ht' h0 h1).2
  . have hin:=Z6 hg hx (v:=u) (by omega)
    rw [Zda hin.2.2.1 hin.2.2.2] at e
    by_cases hr:dv d i=100001
    . rw [hr];exact (Ud hg ht ht' h0 h1).2
    . have hub:=h.ub i
      have hb:=YC (k:=true) (t:=Yq l p v t n u) (hg.leg hx) hg.pace (Ud hg ht ht' h0 h1).2
      rcases Yn (l:=l) (p:=p) (v:=v) (t:=t) (n:=n) (w:=u) with e' | ⟨a,e1,e2⟩
      . omega
      . rw [e,<- hou]
        exact XZ hg ⟨by simp [e1],VR e2 hx (by omega) (by omega)⟩ ht ht' h0 h1
 have hup:dv d i<=Yq l p v t (n+1) i:=by
  rcases Yn (l:=l) (p:=p) (v:=v) (t:=t) (n:=n+1) (w:=i) with e' | ⟨b,e1,e2⟩
  . rw [e'];exact h.ub i
  . obtain ⟨c,k,rfl⟩:∃ c k,b=c ++ [k]:=by
     rcases List.eq_nil_or_concat b with rfl | ⟨c,k,rfl⟩
     . simp at e1
     . exact ⟨c,k,by simp⟩
    obtain ⟨u,x,g1,g2,g3,g4,g5⟩:=ZcP e2
    have hin:=Z6 hg g2 (v:=u.1) (by omega)
    have:=h.le k x u.1 (List.getElem?_eq_some_iff.1 g2).1 g2 g3
    rw [Zda hin.2.2.1 hin.2.2.2] at this
    have hl:=XZ (n:=n) (w:=u.1) (u:=u.2) hg ⟨by simpa using e1,g1⟩ ht ht' h0 h1
    have hm:=ZaY (k:=true) (hg.leg g2) hg.pace hl
    simp only [Prod.mk.injEq] at g5
    rw [<- g5.1] at this
    omega
 omega
structure Gr (l:Land) (p:Span) (s day to best:Int) (n0 n:Nat) (v t:Int) (out:List Nat):Prop where
 go:goW true l p s day out=some (v,t)
 len:out.length+n=n0
 least:Yq l p v t n to=best
 pre:∀ b,b.length=n0->goW true l p s day b=some (to,best)->b.take out.length=out\/Wt out (b.take out.length)=true
def Fit (l:Land) (p:Span) (to best:Int) (n:Nat) (v t:Int) (i:Nat):Prop:=∃ x,l.legs[i]? = some x/\0<=Zg x v/\ZR true x p t < 100001/\Yq l p (Zg x v) (ZR true x p t) n to=best
theorem Gr.start {l:Land} {p:Span} {s day to best:Int} {n:Nat} (h:Yq l p s day n to=best):Gr l p s day to best n n s day []:=⟨rfl,by simp,h,fun _ _ _=>.inl (by simp)⟩
theorem ZkO {l:Land} {p:Span} {v t:Int} {i:Nat} {c:List Nat} {q:Int × Int} (h:goW true l p v t (i :: c)=some q):∃ x,l.legs[i]? = some x/\0<=Zg x v/\ZR true x p t<=100000/\goW true l p (Zg x v) (ZR true x p t) c=some q:=by
 simp only [goW] at h
 cases hx:l.legs[i]? with
 | none=>rw [hx] at h;cases h
 | some x =>
  rw [hx] at h
  simp only at h
  split at h
  . cases h
  . split at h
    . cases h
    . exact ⟨x,rfl,by omega,by omega,h⟩
theorem Gr.fit {l:Land} {p:Span} {s day to best:Int} {n0 n:Nat} {v t:Int} {out:List Nat} (h:Gr l p s day to best n0 (n+1) v t out) (hg:OkLP l p) (hd:0<=day) (hd':day<=100000) (h0:0<=s) (h1:s < l.wells.length) (hb:best=Yx true l p s day to) {i:Nat} {c:List Nat} (hc:c.length=n)
 (hw:goW true l p v t (i :: c)=some (to,best)):Fit l p to best n v t i:=by
 obtain ⟨x,g1,g2,g3,g4⟩:=ZkO hw
 have hbd:=WC hg h.go hd' h0 h1
 have hin:=Z6 hg g1 (v:=v) (by omega)
 have ha:=YC (k:=true) (t:=t) (hg.leg g1) hg.pace (by omega)
 have hle:=XZ (n:=n) (w:=to) (u:=best) hg ⟨hc,g4⟩ (by omega) g3 hin.1.1 hin.1.2
 refine ⟨x,g1,g2,by omega,?_⟩
 rcases Yn (l:=l) (p:=p) (v:=Zg x v) (t:=ZR true x p t) (n:=n) (w:=to) with e | ⟨a,e1,e2⟩
 . have:=WC hg g4 g3 hin.1.1 hin.1.2;omega
 . have hgo:goW true l p s day (out ++ (i :: a))=some (to,Yq l p (Zg x v) (ZR true x p t) n to):=by
    rw [UA,h.go]
    simp only [Option.bind_some,goW,g1]
    rw [if_neg (by omega),if_neg (by omega)]
    exact e2
   have:=Ui hg hgo hd hd' h0 h1
   omega
theorem Gr.ex {l:Land} {p:Span} {s day to best:Int} {n0 n:Nat} {v t:Int} {out:List Nat} (h:Gr l p s day to best n0 (n+1) v t out) (hg:OkLP l p) (hd:0<=day) (hd':day<=100000) (h0:0<=s) (h1:s < l.wells.length) (hb:best=Yx true l p s day to) (hb':best<=100000) :
 ∃ i,i < l.legs.length/\Fit l p to best n v t i:=by
 rcases Yn (l:=l) (p:=p) (v:=v) (t:=t) (n:=n+1) (w:=to) with e | ⟨a,e1,e2⟩
 . have:=h.least;omega
 . rw [h.least] at e2
   cases a with
   | nil=>simp at e1
   | cons i c =>
    have hf:=h.fit hg hd hd' h0 h1 hb (by simpa using e1) e2
    have hf':=hf
    obtain ⟨x,hx,_⟩:=hf'
    exact ⟨i,(List.getElem?_eq_some_iff.1 hx).1,hf⟩
theorem Gr.step {l:Land} {p:Span} {s day to best:Int} {n0 n:Nat} {v t:Int} {out:List Nat} (h:Gr l p s day to best n0 (n+1) v t out) (hg:OkLP l p) (hd:0<=day) (hd':day<=100000) (h0:0<=s) (h1:s < l.wells.length) (hb:best=Yx true l p s day to) {i:Nat} {x:Leg} (hx:l.legs[i]? = some x) (ho:0<=Zg x v) (ha:ZR true x p t < 100001)
 (hf:Yq l p (Zg x v) (ZR true x p t) n to=best) (hm:∀ j,j < i->¬ Fit l p to best n v t j):Gr l p s day to best n0 n (Zg x v) (ZR true x p t) (out ++ [i]):=by
 refine ⟨VR h.go hx (by omega) (by omega),by have:=h.len;simp;omega,hf,fun b hbl hbw=>?_⟩
 have hlen:=h.len
 have hsplit:b.take (out ++ [i]).length=b.take out.length ++ (b[out.length]?).toList:=by
  rw [List.length_append,List.length_singleton];exact List.take_add_one
 have hlt:out.length < b.length:=by omega
 rw [hsplit,List.getElem?_eq_getElem hlt,Option.toList_some]
 have hl:out.length=(b.take out.length).length:=by rw [List.length_take];omega
 rcases h.pre b hbl hbw with e | e
 . rw [e]
   have hbeq:b=out ++ (b[out.length] :: b.drop (out.length+1)):=by
    conv=>lhs;rw [<- List.take_append_drop out.length b,e,List.drop_eq_getElem_cons hlt]
   have hw2:goW true l p v t (b[out.length] :: b.drop (out.length+1))=some (to,best):=by
    rw [hbeq,UA,h.go] at hbw
    simpa using hbw
   have hfit:=h.fit hg hd hd' h0 h1 hb (by rw [List.length_drop];omega) hw2
   by_cases heq:b[out.length]=i
   . left;rw [heq]
   . right
     have:¬ b[out.length] < i:=fun hlt'=>hm _ hlt' hfit
     rw [VQ rfl]
     simp [Wt,Wo]
     omega
 . right
   rw [VQ hl,e];rfl
theorem Gr.done {l:Land} {p:Span} {s day to best:Int} {n0:Nat} {v t:Int} {out:List Nat} (h:Gr l p s day to best n0 0 v t out) (hg:OkLP l p) (hd:0<=day) (hd':day<=100000) (h0:0<=s) (h1:s < l.wells.length) (hb:best=Yx true l p s day to) (hb':best<=100000)
 (hm:∀ m,m < n0->Yq l p s day m to≠best):Zoe l p s to day out:=by
 have hbd:=WC hg h.go hd' h0 h1
 have h2:=h.least
 rw [ZiD hg (by omega) (by omega) hbd.2.2.1 hbd.2.2.2] at h2
 split at h2
 case isFalse=>omega
 rename_i hv
 subst hv;subst h2
 have hlen:=h.len
 refine ⟨by rw [<- hb];exact h.go,fun b hbw=>?_⟩
 rw [<- hb] at hbw
 by_cases hlt:b.length < n0
 . refine absurd ?_ (hm b.length hlt)
   have q1:=XZ (n:=b.length) hg ⟨rfl,hbw⟩ hd hd' h0 h1
   rcases Yn (l:=l) (p:=p) (v:=s) (t:=day) (n:=b.length) (w:=to) with e | ⟨a,e1,e2⟩
   . omega
   . have:=Ui hg e2 hd hd' h0 h1;omega
 . by_cases he:b.length=n0
   . refine .inr ⟨by omega,?_⟩
     have hpre:=h.pre b he hbw
     rw [List.take_of_length_le (by omega)] at hpre
     rcases hpre with rfl | hpre
     . exact Wo _
     . cases hq:Wt b out with
       | false=>rfl
       | true=>have:=Wb hpre hq;rw [Wo] at this;cases this
   . exact .inl (by omega)
structure Stop where
 leg:Int
 well:Int
 leaves:Span
 arrives:Span
deriving DecidableEq
def ZaP (l:Land):Int->List Int->Nat->Option Nat
 | _,[],_=>none
 | v,i :: r,k=>if Zct l i v < 0 then some k else ZaP l (Zct l i v) r (k+1)
def Uo (l:Land):Int->List Int->List Int
 | _,[]=>[]
 | v,i :: r=>if Zct l i v < 0 then [] else Zct l i v :: Uo l (Zct l i v) r
def goS (l:Land) (p:Span):Int->Int->Int->List Int->Nat->List Stop->List Stop × Int × Int
 | _,_,_,[],_,acc=>(acc,0,0)
 | v,a,b,i :: r,k,acc=>match l.legs[i.toNat]? with
  | none=>([],0,0)
  | some x=>if ZR true x p b > 100000 then ([],k,34)
   else goS l p (Zg x v) (ZR false x p a) (ZR true x p b) r (k+1) (acc ++ [⟨i,Zg x v,⟨leK false x p a,leK true x p b⟩,⟨ZR false x p a,ZR true x p b⟩⟩])
theorem Zid {l:Land} {i v:Int} (h:¬ Zct l i v < 0):∃ k:Nat,∃ x,i=(k:Int)/\∃ hk:k < l.legs.length,l.legs[k]? = some x/\l.legs[k]=x/\Zct l i v=Zg x v:=by
 unfold Zct at h ⊢
 split at h
 . rename_i hk
   refine ⟨i.toNat,l.legs[i.toNat],by omega,hk.2,by simp [hk.2],rfl,?_⟩
   rw [dif_pos hk]
 . omega
theorem Zo4 {l:Land} {k:Nat} {v:Int} (hk:k < l.legs.length):Zct l k v=Zg l.legs[k] v:=by
 unfold Zct;rw [dif_pos ⟨by omega,by simpa using hk⟩];simp
theorem X7 {α : Type} {l:List α} {j:Nat} (h:j < l.length):l.drop j=l[j] :: l.drop (j+1):=List.drop_eq_getElem_cons h
structure W1 (l:Land) (s:Int) (legs:List Int) (j:Nat) (v:Int) (ends:List Int):Prop where
 bad:ZaP l s legs 0=ZaP l v (legs.drop j) j
 eds:Uo l s legs=ends ++ Uo l v (legs.drop j)
 len:ends.length=j
 inn:0<=v/\v < l.wells.length
theorem W1.start {l:Land} {s:Int} {legs:List Int} (h:0<=s/\s < l.wells.length):W1 l s legs 0 s []:=⟨by simp,by simp,rfl,h⟩
theorem W1.step {l:Land} {p:Span} {s:Int} {legs:List Int} {j:Nat} {v:Int} {ends:List Int} (h:W1 l s legs j v ends) (hg:OkLP l p) (hj:j < legs.length) (he:¬ Zct l legs[j] v < 0):W1 l s legs (j+1) (Zct l legs[j] v) (ends ++ [Zct l legs[j] v]):=by
 obtain ⟨k,x,_,_,hx,_,e⟩:=Zid he
 refine ⟨?_,?_,by simp [h.len],by rw [e] at he ⊢;exact (Z6 hg hx he).1⟩
 . rw [h.bad,X7 hj];simp only [ZaP];rw [if_neg he]
 . rw [h.eds,X7 hj];simp only [Uo];rw [if_neg he];simp
theorem W1.done {l:Land} {s:Int} {legs:List Int} {v:Int} {ends:List Int} (h:W1 l s legs legs.length v ends):ZaP l s legs 0=none/\ends=Uo l s legs:=by
 have h1:=h.bad
 have h2:=h.eds
 rw [List.drop_of_length_le (Nat.le_refl _)] at h1 h2
 exact ⟨by rw [h1];rfl,by rw [h2];simp [Uo]⟩
structure W2 (l:Land) (p:Span) (s day:Int) (legs:List Int) (j:Nat) (v a b:Int) (acc:List Stop):Prop where
 eq:goS l p s day day legs 0 []=goS l p v a b (legs.drop j) j acc
 bad:ZaP l v (legs.drop j) j=none
 ends:(Uo l s legs).drop j=Uo l v (legs.drop j)
 inn:0<=v/\v < l.wells.length
 da:0<=a/\a<=100001
 db:0<=b/\b<=100000
 len:acc.length=j
theorem W2.start {l:Land} {p:Span} {s day:Int} {legs:List Int} (h:ZaP l s legs 0=none) (hs:0<=s/\s < l.wells.length) (hd:0<=day/\day<=100000):W2 l p s day legs 0 s day day []:=⟨by simp,by simpa using h,by simp,hs,⟨hd.1,by omega⟩,hd,rfl⟩
theorem W2.at {l:Land} {p:Span} {s day:Int} {legs:List Int} {j:Nat} {v a b:Int} {acc:List Stop} (h:W2 l p s day legs j v a b acc) (hj:j < legs.length):∃ k:Nat,∃ hk:k < l.legs.length,legs[j]=(k:Int)/\Zct l legs[j] v=Zg l.legs[k] v/\0<=Zg l.legs[k] v/\(Uo l s legs)[j]? = some (Zg l.legs[k] v):=by
 have hb:=h.bad
 have he:=h.ends
 rw [X7 hj] at hb he
 simp only [ZaP] at hb
 simp only [Uo] at he
 split at hb
 . cases hb
 . rename_i hn
   rw [if_neg hn] at he
   obtain ⟨k,x,e1,hk,e2,e3,e4⟩:=Zid hn
   subst e3
   refine ⟨k,hk,e1,e4,by omega,?_⟩
   have:=congrArg (fun q=>q[0]?) he
   simp only [List.getElem?_drop,Nat.add_zero,List.getElem?_cons_zero] at this
   rw [this,e4]
theorem W2.step {l:Land} {p:Span} {s day:Int} {legs:List Int} {j:Nat} {v a b:Int} {acc:List Stop} (h:W2 l p s day legs j v a b acc) (hg:OkLP l p) (hj:j < legs.length) {k:Nat} (hk:k < l.legs.length) (hl:legs[j]=(k:Int)) (hr:¬ ZR true l.legs[k] p b > 100000) (ho:0<=Zg l.legs[k] v) :
 W2 l p s day legs (j+1) (Zg l.legs[k] v) (ZR false l.legs[k] p a) (ZR true l.legs[k] p b) (acc ++ [⟨k,Zg l.legs[k] v,⟨leK false l.legs[k] p a,leK true l.legs[k] p b⟩,⟨ZR false l.legs[k] p a,ZR true l.legs[k] p b⟩⟩]):=by
 have hx:l.legs[k]? = some l.legs[k]:=List.getElem?_eq_getElem hk
 have hend:Zct l legs[j] v=Zg l.legs[k] v:=by rw [hl];exact Zo4 hk
 have hb:=h.bad
 have he:=h.ends
 rw [X7 hj] at hb he
 simp only [ZaP,hend] at hb
 rw [if_neg (by omega)] at hb
 simp only [Uo,hend] at he
 rw [if_neg (by omega)] at he
 have ha:=ZaT (k:=false) (hg.leg hx) hg.pace h.da.2
 have ha':=YC (k:=false) (hg.leg hx) hg.pace h.da.2
 have hb':=ZaT (k:=true) (t:=b) (hg.leg hx) hg.pace (by have:=h.db;omega)
 have h1:=h.da
 have h2:=h.db
 refine ⟨?_,hb,?_,(Z6 hg hx (by omega)).1,by omega,by omega,by simp [h.len]⟩
 . rw [h.eq,X7 hj,hl]
   simp only [goS,Int.toNat_natCast,hx]
   rw [if_neg hr]
 . have:=congrArg (List.drop 1) he
   simpa [List.drop_drop,Nat.add_comm] using this
theorem W2.done {l:Land} {p:Span} {s day:Int} {legs:List Int} {v a b:Int} {acc:List Stop} (h:W2 l p s day legs legs.length v a b acc):goS l p s day day legs 0 []=(acc,0,0):=by
 rw [h.eq,List.drop_of_length_le (Nat.le_refl _)];rfl
def YD (l:Land) (p:Span) (to till:Int):Nat->List Int->Int->Int->List (List Nat)
 | 0,_,_,_=>[]
 | f+1,been,v,t =>
  if t > till then []
  else if v=to then [[]]
  else (List.range l.legs.length).flatMap fun i=>match l.legs[i]? with
   | none=>[]
   | some x=>if Zg x v < 0\/Zg x v ∈ v :: been then [] else (YD l p to till f (v :: been) (Zg x v) (ZR true x p t)).map (i :: ·)
def Y9 (l:Land) (p:Span) (to till:Int) (f:Nat) (been:List Int) (v t:Int) (i:Nat):List (List Nat) :=
 match l.legs[i]? with
 | none=>[]
 | some x=>if Zg x v < 0\/Zg x v ∈ v :: been then [] else (YD l p to till f (v :: been) (Zg x v) (ZR true x p t)).map (i :: ·)
def ZX (l:Land) (p:Span) (to till:Int) (f:Nat) (been:List Int) (v t:Int) (j:Nat):List (List Nat):=(List.range j).flatMap (Y9 l p to till f been v t)
theorem Za6 {l:Land} {p:Span} {to till:Int} {f:Nat} {been:List Int} {v t:Int}:ZX l p to till f been v t 0=[]:=rfl
theorem ZJ {l:Land} {p:Span} {to till:Int} {f:Nat} {been:List Int} {v t:Int} {j:Nat}:ZX l p to till f been v t (j+1)=ZX l p to till f been v t j ++ Y9 l p to till f been v t j:=by
 simp [ZX,List.range_succ]
theorem YB {l:Land} {p:Span} {to till:Int} {f:Nat} {been:List Int} {v t:Int}:YD l p to till (f+1) been v t=if t > till then [] else if v=to then [[]] else ZX l p to till f been v t l.legs.length:=rfl
theorem We {l:Land} {p:Span} {to till:Int} {f:Nat} {been:List Int} {v t:Int} (h:t > till):YD l p to till f been v t=[]:=by
 cases f with
 | zero=>rfl
 | succ f=>rw [YB,if_pos h]
def cap (L:List (List Nat)):List (List Nat):=L.take 201
theorem ZbR {A B:List (List Nat)} (h:A.length > 200):cap (A ++ B)=cap A:=by
 unfold cap;rw [List.take_append_of_le_length (by omega)]
theorem W8 {A:List (List Nat)} (h:A.length<=201):cap A=A:=List.take_of_length_le h
def Zk3 (l:Land) (f:Nat) (been:List Int):Prop:=been.Nodup/\(∀ v ∈ been,0<=v/\v < l.wells.length)/\f+been.length=l.wells.length+1
theorem Zg2 {n:Nat}:∀ {been:List Int},been.Nodup->(∀ v ∈ been,0<=v/\v < n)->been.length<=n:=by
 intro been hn hb
 have h1:(been.map Int.toNat).Nodup:=by
  rw [List.Nodup,List.pairwise_map]
  refine List.Pairwise.imp_of_mem (fun {a b} ha hb' hab=>?_) hn
  have:=hb a ha;have:=hb b hb';omega
 have h2:∀ x ∈ been.map Int.toNat,x ∈ List.range n:=fun x hx=>by
  obtain ⟨v,hv,rfl⟩:=List.mem_map.1 hx
  have:=hb v hv
  simp only [List.mem_range];omega
 have:=List.Nodup.length_le_of_subset h1 h2
 simpa using this
theorem Zk3.pos {l:Land} {f:Nat} {been:List Int} {v:Int} (h:Zk3 l f been) (hv:v ∉ been) (hi:0<=v/\v < l.wells.length):∃ g,f=g+1/\Zk3 l g (v :: been):=by
 obtain ⟨h1,h2,h3⟩:=h
 have hn:(v :: been).Nodup:=List.nodup_cons.2 ⟨hv,h1⟩
 have hb:∀ u ∈ v :: been,0<=u/\u < l.wells.length:=fun u hu=>by
  rcases List.mem_cons.1 hu with rfl | hu
  . exact hi
  . exact h2 u hu
 have:=Zg2 hn hb
 simp only [List.length_cons] at this
 exact ⟨f - 1,by omega,hn,hb,by simp only [List.length_cons];omega⟩
theorem Zk3.start {l:Land}:Zk3 l (l.wells.length+1) []:=⟨List.nodup_nil,fun v h=>(by cases h),by simp⟩
def Xv (l:Land) (p:Span) (s to day till:Int):Int :=
 if ZaV l p≠0 then ZaV l p
 else if (inR 0 (l.wells.length - 1) s && inR 0 (l.wells.length - 1) to && inR 0 100000 day && inR 0 100000 till)=false then 2
 else if (YD l p to till (l.wells.length+1) [] s day).length > 200 then 9 else 0
def Xh (l:Land) (p:Span) (s to day till:Int):List (List Nat):=YD l p to till (l.wells.length+1) [] s day
end Go.Azalai
namespace Go.Proofs.Ytkjldleglbbkeaa
open Go Go.Sx Go.Azalai
end Go.Proofs.Ytkjldleglbbkeaa
