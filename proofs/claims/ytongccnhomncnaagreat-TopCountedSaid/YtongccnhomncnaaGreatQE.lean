/- Walks and plain laws that lead to the given statement, part 5 of 10. -/
import Derived.Test.YtongccnhomncnaaGreatQD
import Derived.Test.YtongccnhomncnaaGreatProg
set_option maxRecDepth 100000
set_option maxHeartbeats 4000000
set_option linter.all false
open Nat renaming beq_refl->nbr
namespace Go.Sx
def m1 (d t:Nat):Ins:=⟨some d,.mv (.t t),none,[]⟩
def o1 (d:Nat) (i:SI):Ins:=⟨some d,i,none,[]⟩
def sr1 (l:List Ins) (c:SC):SC:=.seq (.reg l) c
def ao (x o:Nat):SI:=.addo (.t x) o
def lt (x m:Nat):SI:=.ld (.t x) m true
def lf (x m:Nat):SI:=.ld (.t x) m false
def cn (n:Int):X:=.c (.int .i64 n)
def g1 (d t:Nat) (b:Bool) (i:SI):Ins:=⟨some d,i,some (t,b),[]⟩
def p1 (d:Nat) (i:SI) (l:List Nat):Ins:=⟨some d,i,none,l⟩
def q1 (d t:Nat) (b:Bool) (i:SI) (l:List Nat):Ins:=⟨some d,i,some (t,b),l⟩
def Jr (n:Nat):List Nat:=List.range n
def Ji (a:Nat) (x y:SC):SC:=.cond (.t a) x y
def Jh (a:Nat):SI:=.un .not (.t a)
def Jz (a o:Nat) (T:TypeId):SI:=.box (.t a) o T
def Jw (d:Nat) (x:X):Ins:=⟨some d,.mv x,none,[]⟩
def Js (a b m:Nat):Ins:=⟨none,.st (.t a) (.t b) m,none,[]⟩
def Ju (a b m:Nat) (l:List Nat):Ins:=⟨none,.st (.t a) (.t b) m,none,l⟩
def Jv (a:Nat) (x:X) (m:Nat):Ins:=⟨none,.st (.t a) x m,none,[]⟩
def Jt:X:=.c (.bool true)
def Jf:X:=.c (.bool false)
def Jb (o:BinOp) (a b:Nat):SI:=.bin o (.t a) (.t b)
def Jc (o:BinOp) (a:Nat) (k:Int):SI:=.bin o (.t a) (cn k)
def Jx (a b m:Nat):SI:=.ixs (.t a) (.t b) m
def Jl (a:Nat):SI:=.len (.t a)
def Je (a k:Nat):SI:=.ext (.t a) k
def Jk (d:Nat) (k:Int):Ins:=⟨some d,.mv (cn k),none,[]⟩
def J1 (f a:Nat):SI:=.call f [.t a]
def J2 (f a b:Nat):SI:=.call f [.t a,.t b]
def J3 (f a b c:Nat):SI:=.call f [.t a,.t b,.t c]
def J4 (f a b c d:Nat):SI:=.call f [.t a,.t b,.t c,.t d]
def J5 (f a b c d e:Nat):SI:=.call f [.t a,.t b,.t c,.t d,.t e]
def J6 (f a b c d e g:Nat):SI:=.call f [.t a,.t b,.t c,.t d,.t e,.t g]
def Jp (d:Nat) (i:SI) (l:List Nat):VI:=.op ⟨some d,i,none,l⟩
def Jm (d x:Nat):VI:=.op ⟨some d,.mv (.t x),none,[]⟩
def Jo (d:Nat) (i:SI):VI:=.op ⟨some d,i,none,[]⟩
def Jq (d t:Nat) (b:Bool) (i:SI) (l:List Nat):VI:=.op ⟨some d,i,some (t,b),l⟩
def Jg (d t:Nat) (b:Bool) (i:SI):VI:=.op ⟨some d,i,some (t,b),[]⟩
attribute [go_sem] m1 o1 sr1 ao lt lf cn g1 p1 q1 Ji Jh Jz Jw Js Ju Jv Jt Jf Jb Jc Jx Jl Je Jk J1 J2 J3 J4 J5 J6 Jp Jm Jo Jq Jg
open Go
structure Qt1 (P:Program) (f:FuncId) (c:SC) (r:List RV) (N:Nat):Prop where
 h:∀ {args:List SV} {res:SV},KFL args->KF res->sx P Y0 0 c (st0 args N) (ZBD r res)->(hA:Nat.ble args.length N=true:=by rfl)->Ct P f args res
theorem ZH {P:Program} {f:FuncId} {fn:Func} {c:SC} {r:List RV} {N:Nat} (hf:P.funcs[f]?=some fn) (hd:fn.body.isSome=true:=by rfl) (hb:Yn P f=true:=by kernel_rfl) (hc:Xi P c (fn.body.getD .skip)=true:=by kernel_rfl) (hr:XV P r fn.results.toList=true:=by kernel_rfl) (hN:fn.ntmps=N:=by kernel_rfl):Qt1 P f c r N:=⟨λ{args res} ka kr h hA=>by
 cases hq:fn.body with
 | none=>rw [hq] at hd;cases hd
 | some code=>rw [hq] at hc;exact Zpp hf hq hb hc hr hN (Nat.le_of_ble_eq_true hA) ka kr h⟩
def zv0:List Value:=[.int .i64 0,.int .i64 0]
def zv1:List Value:=[.int .i64 0,.int .i64 0,.int .i64 0,.int .i64 0,.int .i64 0,.int .i64 0,.int .i64 0,.int .i64 0,.int .i64 0,.int .i64 0,.int .i64 0,.int .i64 0,.int .i64 0,.int .i64 0,.int .i64 0,.int .i64 0,.int .i64 0,.int .i64 0,.int .i64 0,.int .i64 0,.int .i64 0,.int .i64 0,.int .i64 0,.bool false]
def zv2:List Value:=[.slice none 0 0,.slice none 0 0,.int .i64 0,.int .i64 0,.int .i64 0,.int .i64 0,.int .i64 0,.int .i64 0,.int .i64 0,.int .i64 0,.int .i64 0,.int .i64 0,.int .i64 0,.int .i64 0,.int .i64 0,.int .i64 0,.int .i64 0,.int .i64 0,.int .i64 0,.int .i64 0,.int .i64 0,.int .i64 0,.int .i64 0,.int .i64 0,.int .i64 0,.int .i64 0,.int .i64 0,.bool false,.int .i64 0,.int .i64 0,.int .i64 0,.int .i64 0,.int .i64 0,.int .i64 0,.int .i64 0,.int .i64 0,.slice none 0 0,.int .i64 0]
def zv3:List Value:=[.slice none 0 0,.slice none 0 0,.int .i64 0,.int .i64 0,.int .i64 0,.int .i64 0,.int .i64 0,.int .i64 0,.int .i64 0,.int .i64 0,.int .i64 0,.int .i64 0,.int .i64 0,.int .i64 0,.int .i64 0,.int .i64 0,.int .i64 0,.int .i64 0,.int .i64 0,.int .i64 0,.int .i64 0,.int .i64 0,.int .i64 0,.int .i64 0,.int .i64 0,.int .i64 0,.int .i64 0,.bool false,.int .i64 0,.int .i64 0,.int .i64 0,.int .i64 0,.int .i64 0,.int .i64 0,.int .i64 0,.int .i64 0,.slice none 0 0]
def zv4:List Value:=[.int .i64 0,.int .i64 0,.int .i64 0]
def zv5:List Value:=[.int .i64 0,.int .i64 0,.int .i64 0,.int .i64 0,.int .i64 0,.int .i64 0,.int .i64 0,.int .i64 0,.int .i64 0,.int .i64 0,.int .i64 0,.int .i64 0,.int .i64 0,.int .i64 0]
def zv6:List Value:=[.int .i64 0,.int .i64 0,.int .i64 0,.int .i64 0,.int .i64 0,.int .i64 0,.bool false]
def zv7:List Value:=[.int .i64 0,.int .i64 0,.int .i64 0,.int .i64 0,.int .i64 0,.int .i64 0,.int .i64 0,.int .i64 0,.int .i64 0,.int .i64 0,.int .i64 0,.int .i64 0,.int .i64 0,.int .i64 0,.int .i64 0,.int .i64 0,.int .i64 0]
def zv8:List Value:=[.int .i64 0,.int .i64 0,.int .i64 0,.int .i64 0,.int .i64 0,.int .i64 0,.int .i64 0,.int .i64 0]
def zv9:List Value:=[.int .i64 0,.int .i64 0,.int .i64 0,.int .i64 0]
def ZqK:List Value:=[.int .i64 0,.int .i64 0,.int .i64 0,.int .i64 0,.int .i64 0,.int .i64 0]
def ZoM:List Value:=[.slice none 0 0,.slice none 0 0,.int .i64 0,.int .i64 0]
def ZzO:List Value:=[.int .i64 0,.int .i64 0,.int .i64 0,.int .i64 0,.int .i64 0,.int .i64 0,.int .i64 0,.int .i64 0,.int .i64 0]
def ZyB:List Value:=[.int .i64 0,.int .i64 0,.int .i64 0,.int .i64 0,.slice none 0 0,.slice none 0 0]
def ZqB:List Value:=[.slice none 0 0,.int .i64 0,.int .i64 0]
def Zyv:List Value:=[.int .i64 0,.int .i64 0,.int .i64 0,.int .i64 0,.slice none 0 0]
def Zwo:List Value:=[.int .u8 0,.int .i64 0]
def ZBF:List Value:=[.slice none 0 0,.slice none 0 0]
attribute [go_sem] zv0 zv1 zv2 zv3 zv4 zv5 zv6 zv7 zv8 zv9 ZqK ZoM ZzO ZyB ZqB Zyv Zwo ZBF
end Go.Sx
namespace Go.Proofs.YtongccnhomncnaaGreat
open Go Go.Sx
def c13:SC:=(sr1 [o1 1 (Jz 0 0 34),Jw 2 Jf] (.seq (sr1 [o1 4 (ao 1 0),o1 5 (lt 4 2),o1 6 (J1 40 5),m1 7 6,g1 8 7 false (ao 1 36),g1 9 7 false (lf 8 1),g1 10 7 false (Jl 9),g1 11 7 false (Jc .gtr 10 8),o1 12 (.pick (.t 7) Jt (.t 11))] (Ji 12 (sr1 [Jw 2
 Jt] .ret) .skip)) (.seq (sr1 [Jk 3 0] (.block 0 (.loop (.seq (sr1 [m1 13 3,o1 14 (ao 1 36),o1 15 (lf 14 1),o1 16 (Jl 15),o1 17 (Jb .lss 13 16)] (Ji 17 .skip (.exit 0))) (.seq (.block 1 (sr1 [o1 20 (ao 1 36),o1 21 (lf 20 1),m1 22 3,o1 23 (Jx 21 22
 6),o1 24 (ao 23 4),o1 25 (lf 24 1),o1 26 (Jl 25),o1 27 (Jc .gtr 26 20),m1 28 27,g1 29 28 false (ao 1 36),g1 30 28 false (lf 29 1),g1 31 28 false (.mv (.t 3)),g1 32 28 false (Jx 30 31 6),g1 33 28 false (ao 32 5),g1 34 28 false (lf 33 1),g1 35 28 false
 (Jl 34),g1 36 28 false (Jc .gtr 35 20),o1 37 (.pick (.t 28) Jt (.t 36))] (Ji 37 (sr1 [Jw 2 Jt] .ret) .skip))) (.reg [m1 18 3,o1 19 (Jc .add 18 1),m1 3 19])))))) (sr1 [Jw 2 Jf] .ret))))
def r13:List RV:=[.tmp 2]
theorem t13:Qt1 Tryz.prog 13 c13 r13 38:=ZH Tryz.func13
def c27:SC:=(sr1 [o1 1 (Jz 0 0 34),Jk 2 0] (sr1 [o1 9 (ao 1 0),o1 10 (ao 9 0),o1 11 (lf 10 1),o1 12 (Jl 11),m1 3 12] (sr1 [o1 14 (ao 1 0),o1 15 (lt 14 2),o1 16 (ao 1 33),o1 17 (lf 16 1),o1 18 (ao 1 34),o1 19 (lf 18 1),o1 20 (ao 1 2),o1 21 (lt 20 2),o1
 22 (J4 53 15 17 19 21),m1 13 22,o1 23 (Je 13 0),o1 24 (Je 13 1),m1 4 23,m1 5 24] (sr1 [o1 25 (ao 1 28),o1 26 (lf 25 1),o1 27 (.bsl 1 3 [.t 26]),o1 28 (.call 46 [cn 1,cn 30,.t 27]),m1 29 28,g1 30 29 true (ao 1 29),g1 31 29 true (lf 30 1),g1 32 29 true
 (.bsl 1 3 [.t 31]),g1 33 29 true (.call 46 [cn 1,cn 24,.t 32]),o1 34 (.pick (.t 29) (.t 33) Jf),m1 35 34,g1 36 35 true (ao 1 30),g1 37 35 true (lf 36 1),g1 38 35 true (.bsl 1 3 [.t 37]),g1 39 35 true (.call 46 [cn 1,cn 1000000,.t 38]),o1 40 (.pick
 (.t 35) (.t 39) Jf),m1 41 40,g1 42 41 true (ao 1 31),g1 43 41 true (lf 42 1),g1 44 41 true (ao 1 32),g1 45 41 true (lf 44 1),g1 46 41 true (.bsl 1 3 [.t 43,.t 45]),g1 47 41 true (.call 46 [cn 0,cn 1000000,.t 46]),o1 48 (.pick (.t 41) (.t 47) Jf),m1
 49 48,g1 50 49 true (ao 1 35),g1 51 49 true (lf 50 1),g1 52 49 true (ao 1 34),g1 53 49 true (lf 52 1),g1 54 49 true (.bsl 1 3 [.t 53]),g1 55 49 true (.call 46 [cn 0,.t 51,.t 54]),o1 56 (.pick (.t 49) (.t 55) Jf),m1 57 56,g1 58 57 true (ao 1 35),g1 59
 57 true (lf 58 1),g1 60 57 true (Jc .leq 59 100000),o1 61 (.pick (.t 57) (.t 60) Jf),m1 6 61] (.seq (sr1 [m1 62 5,o1 63 (Jc .neq 62 0),m1 64 63,g1 65 64 false (ao 1 4),g1 66 64 false (lt 65 17),g1 67 64 false (ao 1 21),g1 68 64 false (lt 67 7),g1 69
 64 false (J2 54 66 68),g1 70 64 false (Jc .neq 69 0),o1 71 (.pick (.t 64) Jt (.t 70)),m1 72 71,g1 73 72 false (.mv (.t 6)),g1 74 72 false (Jh 73),o1 75 (.pick (.t 72) Jt (.t 74)),m1 76 75,g1 77 76 false (ao 1 36),g1 78 76 false (lf 77 1),g1 79 76
 false (Jl 78),g1 80 76 false (.bsl 1 3 [.t 79]),g1 81 76 false (.call 46 [cn 1,cn 4,.t 80]),g1 82 76 false (Jh 81),o1 83 (.pick (.t 76) Jt (.t 82))] (Ji 83 (sr1 [Jk 2 90] .ret) .skip)) (.seq (sr1 [o1 84 (ao 1 36),o1 85 (lf 84 1),o1 86 (Jl 85),Jk 87
 0] (.block 0 (.loop (sr1 [o1 88 (Jb .lss 87 86)] (.seq (Ji 88 .skip (.exit 0)) (.seq (.block 1 (sr1 [o1 89 (Jx 85 87 6),o1 90 (lt 89 6),o1 8 (.alloc ZyB 89),Js 8 90 6] (sr1 [o1 91 (ao 8 0),o1 92 (lt 91 2),o1 93 (.bsl 2 27 [.t 92]),o1 94 (.call 55 [cn
 0,cn 60,.t 93]),o1 95 (Jh 94),m1 96 95,g1 97 96 false (ao 8 2),g1 98 96 false (lt 97 2),g1 99 96 false (.bsl 2 27 [.t 98]),g1 100 96 false (.call 55 [cn 0,cn 1000000,.t 99]),g1 101 96 false (Jh 100),o1 102 (.pick (.t 96) Jt (.t 101)),m1 103 102,g1
 104 103 false (ao 8 4),g1 105 103 false (lf 104 1),g1 106 103 false (Jl 105),g1 107 103 false (.mv (.t 3)),g1 108 103 false (Jb .neq 106 107),o1 109 (.pick (.t 103) Jt (.t 108)),m1 110 109,g1 111 110 false (ao 8 4),g1 112 110 false (lf 111 1),g1 113
 110 false (.call 55 [cn 0,cn 10000000,.t 112]),g1 114 110 false (Jh 113),o1 115 (.pick (.t 110) Jt (.t 114)),m1 116 115,g1 117 116 false (ao 8 5),g1 118 116 false (lf 117 1),g1 119 116 false (Jl 118),g1 120 116 false (.mv (.t 3)),g1 121 116 false (Jb
 .neq 119 120),o1 122 (.pick (.t 116) Jt (.t 121)),m1 123 122,g1 124 123 false (ao 8 5),g1 125 123 false (lf 124 1),g1 126 123 false (.call 46 [cn 0,cn 1000000,.t 125]),g1 127 123 false (Jh 126),o1 128 (.pick (.t 123) Jt (.t 127))] (Ji 128 (sr1 [Jk 2
 90] .ret) .skip)))) (.reg [o1 129 (Jc .add 87 1),m1 87 129]))))))) (sr1 [Jk 2 0] .ret)))))))
def r27:List RV:=[.tmp 2]
theorem t27:Qt1 Tryz.prog 27 c27 r27 130:=ZH Tryz.func27
def c14:SC:=(sr1 [o1 1 (Jz 0 0 34),Jk 2 0] (.seq (sr1 [o1 3 (lt 1 37),o1 4 (J1 41 3),o1 5 (Jh 4)] (Ji 5 (sr1 [Jk 2 90] .ret) .skip)) (sr1 [Jk 2 0] .ret)))
def r14:List RV:=[.tmp 2]
theorem t14:Qt1 Tryz.prog 14 c14 r14 6:=ZH Tryz.func14
def c12:SC:=(sr1 [o1 2 (Jz 0 0 37),o1 3 (Jz 1 0 37),Jw 4 Jf] (sr1 [o1 5 (ao 2 1),o1 6 (lf 5 1),o1 7 (ao 3 1),o1 8 (lf 7 1),o1 9 (Jb .eql 6 8),m1 10 9,g1 11 10 true (ao 2 2),g1 12 10 true (lf 11 1),g1 13 10 true (ao 3 2),g1 14 10 true (lf 13 1),g1 15
 10 true (Jb .eql 12 14),o1 16 (.pick (.t 10) (.t 15) Jf),m1 17 16,g1 18 17 true (ao 2 0),g1 19 17 true (lf 18 1),g1 20 17 true (ao 3 0),g1 21 17 true (lf 20 1),g1 22 17 true (J2 39 19 21),o1 23 (.pick (.t 17) (.t 22) Jf),m1 4 23] .ret))
def r12:List RV:=[.tmp 4]
theorem t12:Qt1 Tryz.prog 12 c12 r12 24:=ZH Tryz.func12
def c44:SC:=(sr1 [o1 2 (Jz 0 0 34),o1 3 (Jz 1 0 37),Jk 4 0] (.seq (sr1 [o1 8 (lt 2 37),o1 9 (J1 27 8),m1 5 9] (sr1 [m1 10 5,o1 11 (Jc .neq 10 0)] (Ji 11 (sr1 [m1 12 5,m1 4 12] .ret) .skip))) (.seq (sr1 [o1 14 (lt 2 37),o1 15 (ao 3 0),o1 16 (lf 15
 1),o1 17 (J2 17 14 16),m1 13 17,o1 18 (Je 13 0),o1 19 (Je 13 1),m1 6 18,m1 7 19] (sr1 [m1 20 7,o1 21 (Jh 20),m1 22 21,g1 23 22 false (ao 2 28),g1 24 22 false (lf 23 1),g1 25 22 false (ao 3 1),g1 26 22 false (lf 25 1),g1 27 22 false (.bsl 1 3 [.t
 26]),g1 28 22 false (.call 46 [cn 0,.t 24,.t 27]),g1 29 22 false (Jh 28),o1 30 (.pick (.t 22) Jt (.t 29)),m1 31 30,g1 32 31 false (ao 3 2),g1 33 31 false (lf 32 1),g1 34 31 false (.bsl 1 3 [.t 33]),g1 35 31 false (.call 46 [cn 0,cn 12,.t 34]),g1 36
 31 false (Jh 35),o1 37 (.pick (.t 31) Jt (.t 36))] (Ji 37 (sr1 [Jk 4 91] .ret) .skip))) (sr1 [Jk 4 0] .ret))))
def r44:List RV:=[.tmp 4]
theorem t44:Qt1 Tryz.prog 44 c44 r44 38:=ZH Tryz.func44
def c41:SC:=(sr1 [o1 1 (Jz 0 0 34),Jw 2 Jf] (.seq (sr1 [o1 6 (ao 1 0),o1 7 (lt 6 2),o1 8 (J1 76 7),o1 9 (Jc .neq 8 0),m1 10 9,g1 11 10 false (ao 1 2),g1 12 10 false (lt 11 2),g1 13 10 false (J1 77 12),g1 14 10 false (Jh 13),o1 15 (.pick (.t 10) Jt (.t
 14)),m1 16 15,g1 17 16 false (ao 1 4),g1 18 16 false (lt 17 17),g1 19 16 false (ao 1 21),g1 20 16 false (lt 19 7),g1 21 16 false (J2 78 18 20),g1 22 16 false (Jc .neq 21 0),o1 23 (.pick (.t 16) Jt (.t 22))] (Ji 23 (sr1 [Jw 2 Jf] .ret) .skip)) (.seq
 (sr1 [o1 24 (ao 1 28),o1 25 (lf 24 1),o1 26 (.call 43 [.t 25,cn 1,cn 30]),o1 27 (Jh 26),m1 28 27,g1 29 28 false (ao 1 29),g1 30 28 false (lf 29 1),g1 31 28 false (.call 43 [.t 30,cn 1,cn 24]),g1 32 28 false (Jh 31),o1 33 (.pick (.t 28) Jt (.t 32)),m1
 34 33,g1 35 34 false (ao 1 30),g1 36 34 false (lf 35 1),g1 37 34 false (.call 43 [.t 36,cn 1,cn 1000000]),g1 38 34 false (Jh 37),o1 39 (.pick (.t 34) Jt (.t 38)),m1 40 39,g1 41 40 false (ao 1 31),g1 42 40 false (lf 41 1),g1 43 40 false (.call 43 [.t
 42,cn 0,cn 1000000]),g1 44 40 false (Jh 43),o1 45 (.pick (.t 40) Jt (.t 44)),m1 46 45,g1 47 46 false (ao 1 32),g1 48 46 false (lf 47 1),g1 49 46 false (.call 43 [.t 48,cn 0,cn 1000000]),g1 50 46 false (Jh 49),o1 51 (.pick (.t 46) Jt (.t 50))] (Ji 51
 (sr1 [Jw 2 Jf] .ret) .skip)) (.seq (sr1 [o1 52 (ao 1 33),o1 53 (lf 52 1),o1 54 (ao 1 0),o1 55 (ao 54 0),o1 56 (lf 55 1),o1 57 (Jl 56),o1 58 (Jc .sub 57 1),o1 59 (.call 43 [.t 53,cn 0,.t 58]),o1 60 (Jh 59),m1 61 60,g1 62 61 false (ao 1 34),g1 63 61
 false (lf 62 1),g1 64 61 false (ao 1 35),g1 65 61 false (lf 64 1),g1 66 61 false (.call 43 [.t 63,cn 0,.t 65]),g1 67 61 false (Jh 66),o1 68 (.pick (.t 61) Jt (.t 67)),m1 69 68,g1 70 69 false (ao 1 35),g1 71 69 false (lf 70 1),g1 72 69 false (Jc .gtr
 71 100000),o1 73 (.pick (.t 69) Jt (.t 72)),m1 74 73,g1 75 74 false (ao 1 36),g1 76 74 false (lf 75 1),g1 77 74 false (Jl 76),g1 78 74 false (.call 43 [.t 77,cn 1,cn 4]),g1 79 74 false (Jh 78),o1 80 (.pick (.t 74) Jt (.t 79))] (Ji 80 (sr1 [Jw 2 Jf]
 .ret) .skip)) (.seq (sr1 [Jk 3 0] (.block 0 (.loop (.seq (sr1 [m1 81 3,o1 82 (ao 1 36),o1 83 (lf 82 1),o1 84 (Jl 83),o1 85 (Jb .lss 81 84)] (Ji 85 .skip (.exit 0))) (.seq (.block 1 (sr1 [o1 88 (ao 1 36),o1 89 (lf 88 1),m1 90 3,o1 91 (Jx 89 90 6),o1
 92 (lt 91 6),o1 4 (.alloc ZyB 89),Js 4 92 6] (.seq (sr1 [o1 93 (ao 4 0),o1 94 (lt 93 2),o1 95 (.call 79 [.t 94,cn 0,cn 60]),o1 96 (Jh 95),m1 97 96,g1 98 97 false (ao 4 2),g1 99 97 false (lt 98 2),g1 100 97 false (.call 79 [.t 99,cn 0,cn 1000000]),g1
 101 97 false (Jh 100),o1 102 (.pick (.t 97) Jt (.t 101)),m1 103 102,g1 104 103 false (ao 4 4),g1 105 103 false (lf 104 1),g1 106 103 false (Jl 105),g1 107 103 false (ao 1 0),g1 108 103 false (ao 107 0),g1 109 103 false (lf 108 1),g1 110 103 false (Jl
 109),g1 111 103 false (Jb .neq 106 110),o1 112 (.pick (.t 103) Jt (.t 111)),m1 113 112,g1 114 113 false (ao 4 5),g1 115 113 false (lf 114 1),g1 116 113 false (Jl 115),g1 117 113 false (ao 1 0),g1 118 113 false (ao 117 0),g1 119 113 false (lf 118
 1),g1 120 113 false (Jl 119),g1 121 113 false (Jb .neq 116 120),o1 122 (.pick (.t 113) Jt (.t 121))] (Ji 122 (sr1 [Jw 2 Jf] .ret) .skip)) (sr1 [Jk 5 0] (.block 2 (.loop (.seq (sr1 [m1 123 5,o1 124 (ao 4 4),o1 125 (lf 124 1),o1 126 (Jl 125),o1 127 (Jb
 .lss 123 126)] (Ji 127 .skip (.exit 2))) (.seq (.block 3 (sr1 [o1 130 (ao 4 4),o1 131 (lf 130 1),m1 132 5,o1 133 (Jx 131 132 2),o1 134 (lt 133 2),o1 135 (.call 79 [.t 134,cn 0,cn 10000000]),o1 136 (Jh 135),m1 137 136,g1 138 137 false (ao 4 5),g1 139
 137 false (lf 138 1),g1 140 137 false (.mv (.t 5)),g1 141 137 false (Jx 139 140 1),g1 142 137 false (lf 141 1),g1 143 137 false (.call 43 [.t 142,cn 0,cn 1000000]),g1 144 137 false (Jh 143),o1 145 (.pick (.t 137) Jt (.t 144))] (Ji 145 (sr1 [Jw 2 Jf]
 .ret) .skip))) (.reg [m1 128 5,o1 129 (Jc .add 128 1),m1 5 129]))))))))) (.reg [m1 86 3,o1 87 (Jc .add 86 1),m1 3 87])))))) (sr1 [Jw 2 Jt] .ret))))))
def r41:List RV:=[.tmp 2]
theorem t41:Qt1 Tryz.prog 41 c41 r41 146:=ZH Tryz.func41
def c46:SC:=(sr1 [o1 3 (Jz 0 0 3),o1 4 (Jz 1 0 3),Jw 6 Jf] (sr1 [m1 7 2,o1 8 (.mkf 85 [.t 3,.t 4]),o1 9 (J2 84 7 8),o1 10 (Jh 9),m1 6 10] .ret))
def r46:List RV:=[.tmp 6]
theorem t46:Qt1 Tryz.prog 46 c46 r46 11:=ZH Tryz.func46
def c55:SC:=(sr1 [o1 3 (Jz 0 0 3),o1 4 (Jz 1 0 3),Jw 6 Jf] (sr1 [m1 7 2,o1 8 (.mkf 91 [.t 3,.t 4]),o1 9 (J2 48 7 8),o1 10 (Jh 9),m1 6 10] .ret))
def r55:List RV:=[.tmp 6]
theorem t55:Qt1 Tryz.prog 55 c55 r55 11:=ZH Tryz.func55
def c17:SC:=(sr1 [o1 2 (Jz 0 0 34),Jk 4 0,Jw 5 Jf] (sr1 [o1 10 (.raw (Go.Op.makeMap 116 Option.none) 116),o1 11 (ao 2 33),o1 12 (lf 11 1),⟨none,.raw (Go.Op.insert 116 (Go.Operand.tmp 10) (Go.Operand.tmp 12) (Go.Operand.const (Go.Value.bool
 Bool.true))) 0,none,[]⟩,m1 13 10,m1 6 13] (sr1 [o1 14 (ao 2 33),o1 15 (lf 14 1),m1 4 15] (.seq (sr1 [m1 16 1,o1 17 (Jl 16),Jk 18 0] (.block 0 (.loop (sr1 [o1 19 (Jb .lss 18 17)] (.seq (Ji 19 .skip (.exit 0)) (.seq (.block 1 (sr1 [o1 20 (Jx 16 18
 1),o1 21 (lf 20 1),m1 8 21] (.seq (sr1 [o1 22 (ao 2 0),o1 23 (ao 22 1),o1 24 (lf 23 1),o1 25 (Jl 24),o1 26 (Jc .sub 25 1),m1 27 8,o1 28 (.bsl 1 3 [.t 27]),o1 29 (.call 46 [cn 0,.t 26,.t 28]),o1 30 (Jh 29)] (Ji 30 (sr1 [Jk 4 0,Jw 5 Jf] .ret) .skip))
 (sr1 [o1 31 (ao 2 0),o1 32 (ao 31 1),o1 33 (lf 32 1),m1 34 8,o1 35 (Jx 33 34 5),o1 36 (lt 35 5),o1 9 (.alloc Zyv 120),Js 9 36 5] (.seq (sr1 [m1 37 4,o1 38 (ao 9 0),o1 39 (lf 38 1),o1 40 (Jb .neq 37 39),m1 41 40,g1 42 41 true (.mv (.t 4)),g1 43 41
 true (ao 9 1),g1 44 41 true (lf 43 1),g1 45 41 true (Jb .neq 42 44),o1 46 (.pick (.t 41) (.t 45) Jf)] (Ji 46 (sr1 [Jk 4 0,Jw 5 Jf] .ret) .skip)) (sr1 [o1 47 (ao 9 0),o1 48 (lf 47 1),o1 49 (ao 9 1),o1 50 (lf 49 1),o1 51 (Jb .add 48 50),m1 52 4,o1 53
 (Jb .sub 51 52),m1 4 53] (.seq (sr1 [m1 54 6,m1 55 4,o1 56 (.raw (Go.Op.lookup 116 (Go.Operand.tmp 54) (Go.Operand.tmp 55) Bool.false) 4)] (Ji 56 (sr1 [Jk 4 0,Jw 5 Jf] .ret) .skip)) (.reg [m1 57 6,m1 58 4,⟨none,.raw (Go.Op.mapUpdate 116
 (Go.Operand.tmp 57) (Go.Operand.tmp 58) (Go.Operand.const (Go.Value.bool Bool.true))) 0,none,[]⟩])))))))) (.reg [o1 59 (Jc .add 18 1),m1 18 59]))))))) (sr1 [m1 60 4,m1 4 60,Jw 5 Jt] .ret)))))
def r17:List RV:=[.tmp 4,.tmp 5]
theorem t17:Qt1 Tryz.prog 17 c17 r17 61:=ZH Tryz.func17
def c43:SC:=(sr1 [Jw 6 Jf] (sr1 [m1 7 0,m1 8 1,o1 9 (Jb .geq 7 8),m1 10 9,g1 11 10 true (.mv (.t 0)),g1 12 10 true (.mv (.t 2)),g1 13 10 true (Jb .leq 11 12),o1 14 (.pick (.t 10) (.t 13) Jf),m1 6 14] .ret))
def r43:List RV:=[.tmp 6]
theorem t43:Qt1 Tryz.prog 43 c43 r43 15:=ZH Tryz.func43
def c42:SC:=(sr1 [o1 2 (Jz 0 0 34),Jk 4 0] (sr1 [o1 9 (ao 2 0),o1 10 (ao 9 0),o1 11 (lf 10 1),o1 12 (Jl 11),o1 13 (.mks 1 1 [.bool false] 4 (.t 12)),m1 5 13] (sr1 [o1 14 (ao 2 33),o1 15 (lf 14 1),m1 6 15] (sr1 [m1 16 5,m1 17 6,o1 18 (Jx 16 17 1),Jv 18
 Jt 1] (.seq (sr1 [Jk 7 0] (.block 0 (.loop (.seq (sr1 [m1 19 7,m1 20 1,o1 21 (Jl 20),o1 22 (Jb .lss 19 21)] (Ji 22 .skip (.exit 0))) (.seq (.block 1 (.seq (.seq (.regd (Jr 11) [Jm 25 1,Jm 26 7,Jp 27 (Jx 25 26 1) [0,1],Jp 28 (lf 27 1) [2],Jo 29 (ao 2
 0),Jp 30 (ao 29 1) [4],Jp 31 (lf 30 1) [5],Jp 32 (Jl 31) [6],Jp 33 (Jc .sub 32 1) [7],Jp 34 (.call 43 [.t 28,cn 0,.t 33]) [3,8],Jp 35 (Jh 34) [9]] 0 0 []) (Ji 35 (sr1 [o1 4 (.mv (cn (-1)))] .ret) .skip)) (.seq (.regd (Jr 11) [Jo 36 (ao 2 0),Jp 37 (ao
 36 1) [0],Jp 38 (lf 37 1) [1],Jm 39 1,Jm 40 7,Jp 41 (Jx 39 40 1) [3,4],Jp 42 (lf 41 1) [5],Jp 43 (Jx 38 42 5) [2,6],Jp 44 (lt 43 5) [7]] 1 1 [o1 8 (.alloc Zyv 120),Ju 8 44 5 (Jr 10)]) (.seq (sr1 [m1 45 6] (.block 2 (sr1 [o1 47 (ao 8 0),o1 48 (lf 47
 1),o1 49 (Jb .eql 45 48),m1 46 49] (Ji 46 (.reg [o1 50 (ao 8 1),o1 51 (lf 50 1),m1 6 51]) (sr1 [o1 53 (ao 8 1),o1 54 (lf 53 1),o1 55 (Jb .eql 45 54),m1 52 55] (Ji 52 (.reg [o1 56 (ao 8 0),o1 57 (lf 56 1),m1 6 57]) (sr1 [o1 4 (.mv (cn (-1)))]
 .ret))))))) (.seq (sr1 [m1 58 5,m1 59 6,o1 60 (Jx 58 59 1),o1 61 (lf 60 1)] (Ji 61 (sr1 [o1 4 (.mv (cn (-1)))] .ret) .skip)) (.reg [m1 62 5,m1 63 6,o1 64 (Jx 62 63 1),Jv 64 Jt 1])))))) (.reg [m1 23 7,o1 24 (Jc .add 23 1),m1 7 24])))))) (sr1 [m1 65
 6,m1 4 65] .ret))))))
def r42:List RV:=[.tmp 4]
theorem t42:Qt1 Tryz.prog 42 c42 r42 66:=ZH Tryz.func42
def c79:SC:=(sr1 [o1 3 (Jz 0 0 27),Jw 6 Jf] (sr1 [o1 7 (ao 3 0),o1 8 (lf 7 1),m1 9 1,o1 10 (ao 3 1),o1 11 (lf 10 1),o1 12 (J3 43 8 9 11),m1 13 12,g1 14 13 true (ao 3 1),g1 15 13 true (lf 14 1),g1 16 13 true (.mv (.t 2)),g1 17 13 true (Jb .leq 15 16),o1 18 (.pick (.t 13) (.t 17) Jf),m1 6 18] .ret))
def r79:List RV:=[.tmp 6]
theorem t79:Qt1 Tryz.prog 79 c79 r79 19:=ZH Tryz.func79
def c85:SC:=(sr1 [Jw 4 Jf] (sr1 [m1 5 0,o1 6 (lf 1 1),o1 7 (Jb .lss 5 6),m1 8 7,g1 9 8 false (.mv (.t 0)),g1 10 8 false (lf 2 1),g1 11 8 false (Jb .gtr 9 10),o1 12 (.pick (.t 8) Jt (.t 11)),m1 4 12] .ret))
def r85:List RV:=[.tmp 4]
theorem t85:Qt1 Tryz.prog 85 c85 r85 13:=ZH Tryz.func85
def c91:SC:=(sr1 [o1 3 (Jz 0 0 27),Jw 4 Jf] (sr1 [o1 5 (ao 3 0),o1 6 (lf 5 1),o1 7 (ao 3 1),o1 8 (lf 7 1),o1 9 (Jb .gtr 6 8),m1 10 9,g1 11 10 false (lf 1 1),g1 12 10 false (lf 2 1),g1 13 10 false (ao 3 0),g1 14 10 false (lf 13 1),g1 15 10 false (ao 3
 1),g1 16 10 false (lf 15 1),g1 17 10 false (.bsl 1 3 [.t 14,.t 16]),g1 18 10 false (J3 46 11 12 17),g1 19 10 false (Jh 18),o1 20 (.pick (.t 10) Jt (.t 19)),m1 4 20] .ret))
def r91:List RV:=[.tmp 4]
theorem t91:Qt1 Tryz.prog 91 c91 r91 21:=ZH Tryz.func91
def c15:SC:=(sr1 [o1 2 (Jz 0 0 34),o1 3 (Jz 1 0 37),Jw 4 Jf] (sr1 [o1 5 (lt 2 37),o1 6 (ao 3 0),o1 7 (lf 6 1),o1 8 (J2 42 5 7),o1 9 (Jc .geq 8 0),m1 10 9,g1 11 10 true (ao 3 1),g1 12 10 true (lf 11 1),g1 13 10 true (ao 2 28),g1 14 10 true (lf 13 1),g1
 15 10 true (.call 43 [.t 12,cn 0,.t 14]),o1 16 (.pick (.t 10) (.t 15) Jf),m1 17 16,g1 18 17 true (ao 3 2),g1 19 17 true (lf 18 1),g1 20 17 true (.call 43 [.t 19,cn 0,cn 12]),o1 21 (.pick (.t 17) (.t 20) Jf),m1 4 21] .ret))
def r15:List RV:=[.tmp 4]
theorem t15:Qt1 Tryz.prog 15 c15 r15 22:=ZH Tryz.func15
def c82:SC:=(sr1 [m1 6 0,o1 7 (Jh 6)] (Ji 7 (.reg [m1 8 1,m1 9 2,o1 10 (.build Zwo [(0,1,.t 8),(1,1,.t 9)]),o1 11 (.raw (Go.Op.makeInterface 111 (Go.Operand.tmp 10)) 20),⟨none,.raw (Go.Op.panic (Go.Operand.tmp 11)) 0,none,[]⟩]) .skip))
def r82:List RV:=[]
theorem n82:Tryz.f82.ntmps=12:=by kernel_rfl
theorem b82:Yn Tryz.prog 82=true:=by kernel_rfl
theorem ZBv:Xi Tryz.prog c82 ((Tryz.f82.body).getD .skip)=true:=by kernel_rfl
theorem Zzu:XV Tryz.prog r82 Tryz.f82.results.toList=true:=by kernel_rfl
theorem m82 {n0:Nat} {hp0:List (Nat × HB)} {args:List SV} {ZO:Ot->Prop} (hh:hpb n0 hp0) (hx:∀ o,ZO o->KX o.res/\KXP o.hp) (h:sx Tryz.prog Y0 n0 c82 ⟨Xx 0 args,hp0,n0,12,[]⟩ (Uk r82 λo=>∃ o',ZO o'/\Zbs n0 o o')) (hA:Nat.ble args.length 12=true:=by rfl):CtM Tryz.prog 82 hp0 n0 args ZO:=Yf Tryz.func82 rfl b82 ZBv Zzu n82 (Nat.le_of_ble_eq_true hA) hh hx h
def c83:SC:=(sr1 [o1 4 (Jz 0 0 114),o1 5 (Jz 1 0 178),o1 6 (Jz 2 0 3),o1 8 (.mv (.c (.slice none 0 0)))] (.seq (sr1 [o1 17 (lf 5 1),o1 18 (Jl 17),o1 19 (Jc .eql 18 0)] (Ji 19 (sr1 [o1 21 (ao 4 0),o1 22 (ao 21 4),o1 23 (lt 22 17),o1 24 (ao 4 0),o1 25
 (ao 24 21),o1 26 (lt 25 7),o1 27 (J2 126 23 26),m1 20 27,o1 28 (Je 20 0),o1 29 (Je 20 1),o1 9 (.alloc zv0 27),Js 9 28 2,m1 10 29] (sr1 [o1 30 (lf 6 1),o1 31 (Jc .eql 30 0),m1 32 31,g1 33 32 false (.mv (.t 3)),g1 34 32 false (ao 4 0),g1 35 32 false
 (ao 34 30),g1 36 32 false (lf 35 1),g1 37 32 false (Jb .mul 33 36),g1 38 32 false (ao 9 0),g1 39 32 false (lf 38 1),g1 40 32 false (Jb .leq 37 39),o1 41 (.pick (.t 32) Jt (.t 40)),o1 42 (.callm 82 [.t 41,.c (.int .u8 2),cn 0])] (sr1 [o1 8 (.mv (.c
 (.slice none 0 0)))] .ret))) .skip)) (sr1 [o1 11 (.alloc [.slice none 0 0] 109)] (.seq (sr1 [o1 43 (lf 6 1),o1 44 (Jc .eql 43 0)] (Ji 44 (.seq (sr1 [o1 45 (lf 5 1),o1 46 (lf 5 1),o1 47 (Jl 46),o1 48 (Jc .sub 47 1),o1 49 (.sub 6 (.t 45) none (some (.t
 48))),o1 50 (Jl 49),Jk 51 0] (.block 0 (.loop (sr1 [o1 52 (Jb .lss 51 50)] (.seq (Ji 52 .skip (.exit 0)) (.seq (.block 1 (sr1 [o1 53 (Jx 49 51 6),o1 54 (lt 53 6),o1 13 (.alloc ZqK 148),Js 13 54 6] (.reg [o1 55 (lf 11 1),o1 56 (ao 13 1),o1 57 (lf 56
 1),o1 58 (ao 13 4),o1 59 (ao 58 0),o1 60 (lf 59 1),o1 61 (.build zv4 [(0,1,.t 57),(1,1,.t 60)]),o1 62 (.bsl 3 145 [.t 61]),o1 63 (.appm 3 24 145 (.t 55) (.t 62)),Js 11 63 1]))) (.reg [o1 64 (Jc .add 51 1),m1 51 64]))))))) (sr1 [o1 65 (lf 11 1),m1 8
 65] .ret)) .skip)) (.seq (sr1 [o1 66 (lt 4 38),o1 67 (lf 5 1),m1 68 3,o1 69 (.callm 127 [.t 66,.t 67,.t 68])] (.block 2 (.gh (.rfun (.t 69) [70,71] (sr1 [m1 14 70] (.reg [o1 15 (.alloc zv6 31),Js 15 71 7])) (.block 3 (.seq (sr1 [m1 72 14,o1 73 (Jc
 .add 72 1),o1 74 (lf 5 1),o1 75 (Jl 74),o1 76 (Jb .eql 73 75)] (Ji 76 (.exit 2) .skip)) (.seq (.regd (Jr 24) [Jo 77 (lf 5 1),Jm 78 14,Jp 79 (Jx 77 78 6) [0,1],Jp 80 (ao 79 1) [2],Jp 81 (lf 80 1) [3],Jo 82 (lf 5 1),Jm 83 14,Jp 84 (Jx 82 83 6) [5,6],Jp
 85 (ao 84 4) [7],Jp 86 (ao 85 0) [8],Jp 87 (lf 86 1) [9],Jo 88 (lf 6 1),Jo 89 (ao 4 0),Jp 90 (ao 89 4) [12],Jp 91 (ao 90 0) [13],Jp 92 (lf 91 1) [14],Jo 93 (ao 15 0),Jp 94 (ao 93 0) [16],Jp 95 (lf 94 1) [17],Jp 96 (Jb .sub 92 95) [15,18],Jp 97 (Jb
 .mul 88 96) [11,19],Jp 98 (.build zv4 [(0,1,.t 81),(1,1,.t 87),(2,1,.t 97)]) [4,10,20]] 1 1 [o1 16 (.alloc zv4 145),Ju 16 98 3 (Jr 23)]) (.seq (.regd (Jr 11) [Jo 99 (ao 16 2),Jp 100 (lf 99 1) [0],Jo 101 (lt 4 38),Jo 102 (lf 5 1),Jm 103 14,Jp 104 (Jx
 102 103 6) [3,4],Jp 105 (lt 104 6) [5],Jp 106 (J2 63 101 105) [2,6],Jp 107 (Jb .leq 100 106) [1,7],Jm 108 14] 0 0 [⟨some 109,.callm 82 [.t 107,.c (.int .u8 4),.t 108],none,[7,8,9]⟩]) (.reg [o1 110 (lf 11 1),o1 111 (lt 16 3),o1 112 (.bsl 3 145 [.t
 111]),o1 113 (.appm 3 24 145 (.t 110) (.t 112)),Js 11 113 1]))))))))) (sr1 [o1 114 (lf 11 1),m1 8 114] .ret))))))
def r83:List RV:=[.tmp 8]
theorem n83:Tryz.f83.ntmps=115:=by kernel_rfl
theorem b83:Yn Tryz.prog 83=true:=by kernel_rfl
theorem ZzR:Xi Tryz.prog c83 ((Tryz.f83.body).getD .skip)=true:=by kernel_rfl
theorem ZBu:XV Tryz.prog r83 Tryz.f83.results.toList=true:=by kernel_rfl
theorem m83 {n0:Nat} {hp0:List (Nat × HB)} {args:List SV} {ZO:Ot->Prop} (hh:hpb n0 hp0) (hx:∀ o,ZO o->KX o.res/\KXP o.hp) (h:sx Tryz.prog Y0 n0 c83 ⟨Xx 0 args,hp0,n0,115,[]⟩ (Uk r83 λo=>∃ o',ZO o'/\Zbs n0 o o')) (hA:Nat.ble args.length 115=true:=by rfl):CtM Tryz.prog 83 hp0 n0 args ZO:=Yf Tryz.func83 rfl b83 ZzR ZBu n83 (Nat.le_of_ble_eq_true hA) hh hx h
def c127:SC:=(sr1 [o1 3 (Jz 0 0 114),o1 4 (Jz 1 0 178),o1 5 (Jz 2 0 3),o1 6 (.mv (.c (.nilFunc)))] (sr1 [o1 7 (.mkf 161 [.t 3,.t 4,.t 5]),m1 6 7] .ret))
def r127:List RV:=[.tmp 6]
theorem n127:Tryz.f127.ntmps=8:=by kernel_rfl
theorem b127:Yn Tryz.prog 127=true:=by kernel_rfl
theorem Zvo:Xi Tryz.prog c127 ((Tryz.f127.body).getD .skip)=true:=by kernel_rfl
theorem ZwG:XV Tryz.prog r127 Tryz.f127.results.toList=true:=by kernel_rfl
theorem m127 {n0:Nat} {hp0:List (Nat × HB)} {args:List SV} {ZO:Ot->Prop} (hh:hpb n0 hp0) (hx:∀ o,ZO o->KX o.res/\KXP o.hp) (h:sx Tryz.prog Y0 n0 c127 ⟨Xx 0 args,hp0,n0,8,[]⟩ (Uk r127 λo=>∃ o',ZO o'/\Zbs n0 o o')) (hA:Nat.ble args.length 8=true:=by rfl):CtM Tryz.prog 127 hp0 n0 args ZO:=Yf Tryz.func127 rfl b127 Zvo ZwG n127 (Nat.le_of_ble_eq_true hA) hh hx h
def c101:SC:=(sr1 [o1 1 (Jz 0 0 114),o1 2 (.alloc ZyB 89)] (sr1 [o1 3 (ao 1 0),o1 4 (ao 3 36),o1 5 (lf 4 1),o1 6 (ao 1 37),o1 7 (lf 6 1),o1 8 (Jx 5 7 6),o1 9 (lt 8 6),Js 2 9 6] .ret))
def r101:List RV:=[.cell 2 6 true]
theorem t101:Qt1 Tryz.prog 101 c101 r101 10:=ZH Tryz.func101
def c161:SC:=(sr1 [o1 10 (ao 1 0),o1 11 (ao 10 21),o1 12 (lt 11 7),o1 5 (.alloc zv6 31),Js 5 12 7] (sr1 [o1 13 (lf 2 1),o1 14 (Jl 13),Jk 15 0] (.block 0 (.loop (sr1 [o1 16 (Jb .lss 15 14)] (.seq (Ji 16 .skip (.exit 0)) (.seq (.block 1 (sr1 [m1 17
 15,o1 18 (Jx 13 15 6),o1 19 (lt 18 6),o1 7 (.alloc ZqK 148),m1 6 17,Js 7 19 6] (sr1 [o1 21 (ao 1 0),o1 22 (ao 21 0),o1 23 (lt 22 2),o1 24 (ao 7 0),o1 25 (lf 24 1),o1 26 (ao 1 0),o1 27 (ao 26 2),o1 28 (lt 27 2),o1 29 (J3 73 23 25 28),m1 20 29,o1 30
 (Je 20 0),o1 31 (Je 20 1),o1 8 (.alloc zv0 27),Js 8 30 2,m1 9 31] (.seq (sr1 [o1 32 (lt 1 38),m1 33 6,o1 34 (lt 5 7),o1 35 (lt 8 2),o1 36 (lf 3 1),o1 37 (.callm 162 [.t 32,.t 33,.t 34,.t 35,.t 36]),Js 5 37 7] (sr1 [m1 38 0,m1 39 6,o1 40 (lt 5 7),o1
 41 (.calvm (.t 38) [.t 39,.t 40]),o1 42 (Jh 41)] (Ji 42 .ret .skip))) (.reg [o1 43 (ao 1 0),o1 44 (ao 43 4),o1 45 (ao 44 0),o1 46 (lf 45 1),o1 47 (ao 1 0),o1 48 (ao 47 4),o1 49 (ao 48 0),o1 50 (lf 49 1),o1 51 (.build zv0 [(0,1,.t 46),(1,1,.t 50)]),o1
 52 (ao 5 0),Js 52 51 2]))))) (.reg [o1 53 (Jc .add 15 1),m1 15 53]))))))))
def r161:List RV:=[]
theorem n161:Tryz.f161.ntmps=54:=by kernel_rfl
theorem b161:Yn Tryz.prog 161=true:=by kernel_rfl
theorem Zv9:Xi Tryz.prog c161 ((Tryz.f161.body).getD .skip)=true:=by kernel_rfl
theorem ZtG:XV Tryz.prog r161 Tryz.f161.results.toList=true:=by kernel_rfl
theorem y161 {Y:Hd} {n0:Nat} {hp0:List (Nat × HB)} {args:List SV} {ZO:Ot->Prop} (h:sx Tryz.prog Y n0 c161 ⟨Xx 0 args,hp0,n0,54,[]⟩ (Uk r161 ZO)) (hA:Nat.ble args.length 54=true:=by rfl):CtY Tryz.prog Y 161 hp0 n0 args ZO:=WC Tryz.func161 rfl Zv9 ZtG n161 (Nat.le_of_ble_eq_true hA) h
def c162:SC:=(sr1 [o1 5 (Jz 0 0 114),o1 7 (Jz 2 0 31),o1 8 (Jz 3 0 27),o1 10 (.alloc zv6 31)] (.seq (.regd (Jr 17) [Jo 19 (ao 5 0),Jp 20 (ao 19 29) [0],Jp 21 (lf 20 1) [1],Jm 22 4,Jo 23 (ao 5 0),Jp 24 (ao 23 30) [4],Jp 25 (lf 24 1) [5],Jp 26 (Jb .mul
 22 25) [3,6],Jo 27 (lt 5 38),Jp 28 (J1 101 27) [8],Jp 29 (.fld (.t 28) 0 2 true) [9],Jo 30 (lt 5 38),Jp 31 (J1 101 30) [9,11],Jp 32 (.fld (.t 31) 2 2 true) [12],Jp 33 (.build zv8 [(0,1,.t 21),(1,1,.t 26),(2,2,.t 29),(4,2,.t 32)]) [2,7,10,13]] 1 1 [o1
 11 (.alloc zv8 168),Ju 11 33 8 (Jr 16)]) (sr1 [o1 12 (.alloc zv6 31)] (.seq (sr1 [o1 34 (ao 8 1),o1 35 (lf 34 1),Jk 36 0] (.block 0 (.loop (sr1 [o1 37 (Jb .lss 36 35)] (.seq (Ji 37 .skip (.exit 0)) (.seq (.block 1 (sr1 [m1 38 36,m1 13 38] (sr1 [o1 40
 (ao 5 0),o1 41 (ao 40 4),o1 42 (lt 41 17),o1 43 (lt 7 7),o1 44 (J2 126 42 43),m1 39 44,o1 45 (Je 39 0),o1 46 (Je 39 1),o1 14 (.alloc zv0 27),Js 14 45 2,m1 15 46] (sr1 [o1 47 (ao 11 1),o1 48 (lf 47 1),o1 49 (ao 14 0),o1 50 (lf 49 1),o1 51 (Jb .leq 48
 50),m1 52 1,o1 53 (.callm 82 [.t 51,.c (.int .u8 2),.t 52])] (sr1 [o1 55 (ao 5 0),o1 56 (ao 55 4),o1 57 (lt 56 17),o1 58 (lt 7 7),o1 59 (lt 11 8),o1 60 (J3 176 57 58 59),m1 54 60,o1 61 (Je 54 0),o1 62 (Je 54 1),o1 63 (Je 54 2),o1 16 (.alloc zv6
 31),Js 16 61 7,m1 17 62,m1 18 63] (sr1 [m1 64 18,o1 65 (Jc .eql 64 0),m1 66 65,g1 67 66 true (.mv (.t 17)),g1 68 66 true (.bin .eql (.t 67) (.c (.int .u8 0))),o1 69 (.pick (.t 66) (.t 68) Jf),m1 70 1,o1 71 (.callm 82 [.t 69,.c (.int .u8 3),.t 70])]
 (sr1 [o1 72 (lt 16 7),Js 7 72 7] (.block 2 (sr1 [m1 74 13,o1 75 (Jc .add 74 1),o1 76 (ao 8 0),o1 77 (lf 76 1),o1 78 (Jb .eql 75 77),m1 73 78] (Ji 73 (.reg [o1 79 (lt 7 7),Js 12 79 7]) (sr1 [m1 81 13,o1 82 (Jc .add 81 1),o1 83 (ao 8 0),o1 84 (lf 83
 1),o1 85 (Jb .gtr 82 84),m1 80 85] (Ji 80 (.regd (Jr 24) [Jo 86 (ao 12 0),Jp 87 (lt 86 2) [0],Jo 88 (ao 7 0),Jp 89 (lt 88 2) [2],Jp 90 (.bsl 2 27 [.t 89]) [3],Jp 91 (J2 177 87 90) [1,4],Jo 92 (ao 12 2),Jp 93 (lt 92 2) [6],Jo 94 (ao 7 2),Jp 95 (lt 94
 2) [8],Jp 96 (.bsl 2 27 [.t 95]) [9],Jp 97 (J2 177 93 96) [5,7,10],Jo 98 (ao 12 4),Jp 99 (lt 98 2) [12],Jo 100 (ao 7 4),Jp 101 (lt 100 2) [14],Jp 102 (.bsl 2 27 [.t 101]) [15],Jp 103 (J2 177 99 102) [11,13,16],Jp 104 (ao 12 0)
 [0,1,2,3,4,5,6,7,12,13]] 0 1 [Ju 104 91 2 [0,1,2,3,4,5,6,7,12,13,17,18],⟨some 105,ao 12 2,none,[0,1,2,3,4,5,6,7,8,9,10,11,12,13,18,19]⟩,Ju 105 97 2 [0,1,2,3,4,5,6,7,8,9,10,11,12,13,18,19,20],⟨some 106,ao 12 4,none,(Jr 22)⟩,Ju 106 103 2 (Jr 23)])
 .skip)))))))))))) (.reg [o1 107 (Jc .add 36 1),m1 36 107]))))))) (sr1 [o1 108 (lt 12 7),Js 10 108 7] .ret)))))
def r162:List RV:=[.cell 10 7 true]
theorem n162:Tryz.f162.ntmps=109:=by kernel_rfl
theorem b162:Yn Tryz.prog 162=true:=by kernel_rfl
theorem Zwu:Xi Tryz.prog c162 ((Tryz.f162.body).getD .skip)=true:=by kernel_rfl
theorem Zv5:XV Tryz.prog r162 Tryz.f162.results.toList=true:=by kernel_rfl
theorem m162 {n0:Nat} {hp0:List (Nat × HB)} {args:List SV} {ZO:Ot->Prop} (hh:hpb n0 hp0) (hx:∀ o,ZO o->KX o.res/\KXP o.hp) (h:sx Tryz.prog Y0 n0 c162 ⟨Xx 0 args,hp0,n0,109,[]⟩ (Uk r162 λo=>∃ o',ZO o'/\Zbs n0 o o')) (hA:Nat.ble args.length 109=true:=by rfl):CtM Tryz.prog 162 hp0 n0 args ZO:=Yf Tryz.func162 rfl b162 Zwu Zv5 n162 (Nat.le_of_ble_eq_true hA) hh hx h
def c177:SC:=(sr1 [o1 2 (Jz 0 0 27),o1 4 (.alloc zv0 27)] (.seq (sr1 [m1 7 1,o1 8 (Jl 7),Jk 9 0] (.block 0 (.loop (sr1 [o1 10 (Jb .lss 9 8)] (.seq (Ji 10 .skip (.exit 0)) (.seq (.block 1 (sr1 [o1 11 (Jx 7 9 2),o1 12 (lt 11 2),o1 6 (.alloc zv0 27),Js 6
 12 2] (.reg [o1 13 (ao 2 0),o1 14 (lf 13 1),o1 15 (ao 6 0),o1 16 (lf 15 1),o1 17 (.mm false [.t 14,.t 16]),o1 18 (ao 2 1),o1 19 (lf 18 1),o1 20 (ao 6 1),o1 21 (lf 20 1),o1 22 (.mm true [.t 19,.t 21]),o1 23 (.build zv0 [(0,1,.t 17),(1,1,.t 22)]),Js 2
 23 2]))) (.reg [o1 24 (Jc .add 9 1),m1 9 24]))))))) (sr1 [o1 25 (lt 2 2),Js 4 25 2] .ret)))
def r177:List RV:=[.cell 4 2 true]
theorem t177:Qt1 Tryz.prog 177 c177 r177 26:=ZH Tryz.func177
def c81:SC:=(sr1 [o1 2 (Jz 0 0 34),o1 4 (.mv (.c (.slice none 0 0))),Jw 5 Jf] (sr1 [o1 10 (ao 2 0),o1 11 (lt 10 2),o1 12 (ao 2 33),o1 13 (lf 12 1),o1 14 (ao 2 34),o1 15 (lf 14 1),o1 16 (ao 2 2),o1 17 (lt 16 2),m1 18 1,o1 19 (J5 125 11 13 15 17 18),m1
 9 19,o1 20 (Je 9 0),o1 21 (Je 9 1),o1 22 (Je 9 2),m1 6 20,m1 7 21,m1 8 22] (.seq (.regd (Jr 23) [Jm 23 6,Jm 24 8,Jp 25 (Jc .eql 24 0) [1],Jp 26 (.mv (.t 25)) [2],Jq 27 26 true (.mv (.t 6)) [3],Jq 28 26 true (Jl 27) [3,4],Jq 29 26 true (Jc .eql 28 0)
 [3,5],Jq 30 26 true (.mv (.t 29)) [3,6],Jq 31 30 false (.mv (.t 6)) [7],Jq 32 30 false (.mv (.t 6)) [7],Jq 33 30 false (Jl 32) [7,9],Jq 34 30 false (Jc .sub 33 1) [7,10],Jq 35 30 false (Jx 31 34 6) [7,8,11],Jq 36 30 false (ao 35 4) [7,12],Jq 37 30
 false (ao 36 1) [7,13],Jq 38 30 false (lf 37 1) [7,14],Jq 39 30 false (ao 2 35) [7],Jq 40 30 false (lf 39 1) [7,16],Jq 41 30 false (Jb .leq 38 40) [7,15,17],Jq 42 26 true (.pick (.t 30) Jt (.t 41)) [3,7,18],Jp 43 (.pick (.t 26) (.t 42) Jf) [3,19],Jp
 4 (.mv (.t 23)) [0,7],Jp 5 (.mv (.t 43)) (Jr 22)] 0 0 []) .ret)))
def r81:List RV:=[.tmp 4,.tmp 5]
theorem t81:Qt1 Tryz.prog 81 c81 r81 44:=ZH Tryz.func81
def c45:FB:=(.seq (.reg [
 o1 2 (.box (.t 0) 0 114),
 o1 3 (.box (.t 1) 0 37),
 o1 4 (.alloc [.slice none 0 0] 109),
 o1 5 (.alloc Zwo 111)])
 (.rcv [
 o1 8 (.mkf 80 [.t 4,.t 5])] (.t 8)
 (.tail (.seq (.reg [
 o1 10 (.addo (.t 2) 0),
 o1 11 (.ld (.t 10) 37 true),
 o1 12 (.addo (.t 3) 0),
 o1 13 (.ld (.t 12) 1 false),
 o1 14 (.call 81 [.t 11,.t 13]),
 m1 9 14,
 o1 15 (.ext (.t 9) 0),
 o1 16 (.ext (.t 9) 1),
 m1 6 15,
 m1 7 16])
 (.seq (.reg [
 m1 17 7,
 o1 18 (.callm 82 [.t 17,.c (.int .u8 1),.c (.int .i64 0)])])
 (.seq (.reg [
 o1 19 (.ld (.t 2) 38 true),
 m1 20 6,
 o1 21 (.addo (.t 3) 1),
 o1 22 (.ld (.t 21) 1 false),
 o1 23 (.addo (.t 3) 2),
 o1 24 (.ld (.t 23) 1 false),
 o1 25 (.callm 83 [.t 19,.t 20,.t 22,.t 24]),
 o1 26 (.build Zwo []),
 ⟨none,.st (.t 4) (.t 25) 1,none,[]⟩,
 ⟨none,.st (.t 5) (.t 26) 2,none,[]⟩])
 .ret))))))
def r45:List RV:=[.cell 4 1 false,.cell 5 2 true]
theorem n45:Tryz.f45.ntmps=27:=by kernel_rfl
theorem b45:Yn Tryz.prog 45=true:=by kernel_rfl
theorem Zze:Zaz Tryz.prog c45 ((Tryz.f45.body).getD .skip)=true:=by kernel_rfl
theorem ZzF:XV Tryz.prog r45 Tryz.f45.results.toList=true:=by kernel_rfl
theorem m45 {n0:Nat} {hp0:List (Nat × HB)} {args:List SV} {ZO:Ot->Prop} (hh:hpb n0 hp0) (hx:∀ o,ZO o->KX o.res/\KXP o.hp) (h:fx Tryz.prog n0 c45 ⟨Xx 0 args,hp0,n0,27,[]⟩ (Uk r45 λo=>∃ o',ZO o'/\Zbs n0 o o')) (hA:Nat.ble args.length 27=true:=by rfl):CtM Tryz.prog 45 hp0 n0 args ZO:=Zcq Tryz.func45 rfl b45 Zze ZzF n45 (Nat.le_of_ble_eq_true hA) hh hx h
def c126:SC:=(sr1 [o1 2 (Jz 0 0 29),o1 3 (Jz 1 0 31),o1 4 (.alloc zv0 27),Jk 5 0] (.seq (sr1 [o1 7 (lt 2 17),o1 8 (lt 3 7),o1 9 (J2 54 7 8),m1 6 9] (sr1 [m1 10 6,o1 11 (Jc .neq 10 0)] (Ji 11 (sr1 [o1 12 (.build zv0 []),m1 13 6,Js 4 12 2,m1 5 13] .ret)
 .skip))) (sr1 [o1 14 (lt 2 17),o1 15 (lt 3 7),o1 16 (.build zv1 [(0,17,.t 14),(17,7,.t 15)]),o1 17 (J1 160 16),Js 4 17 2,Jk 5 0] .ret)))
def r126:List RV:=[.cell 4 2 true,.tmp 5]
theorem t126:Qt1 Tryz.prog 126 c126 r126 18:=ZH Tryz.func126
def c89:SC:=(sr1 [o1 1 (Jz 0 0 29),Jk 2 0] (.seq (sr1 [o1 3 (ao 1 0),o1 4 (lf 3 1),o1 5 (ao 1 1),o1 6 (lf 5 1),o1 7 (.bsl 1 3 [.t 4,.t 6]),o1 8 (.call 130 [cn 1,cn 1000000,.t 7]),o1 9 (Jh 8),m1 10 9,g1 11 10 false (ao 1 2),g1 12 10 false (lt 11 2),g1
 13 10 false (ao 1 4),g1 14 10 false (lt 13 2),g1 15 10 false (ao 1 6),g1 16 10 false (lt 15 2),g1 17 10 false (ao 1 8),g1 18 10 false (lt 17 2),g1 19 10 false (ao 1 10),g1 20 10 false (lt 19 2),g1 21 10 false (ao 1 12),g1 22 10 false (lt 21 2),g1 23
 10 false (.bsl 2 27 [.t 12,.t 14,.t 16,.t 18,.t 20,.t 22]),g1 24 10 false (.call 90 [cn 0,cn 100000,.t 23]),g1 25 10 false (Jh 24),o1 26 (.pick (.t 10) Jt (.t 25)),m1 27 26,g1 28 27 false (ao 1 15),g1 29 27 false (lt 28 2),g1 30 27 false (.bsl 2 27
 [.t 29]),g1 31 27 false (.call 90 [cn 0,cn 1000000,.t 30]),g1 32 27 false (Jh 31),o1 33 (.pick (.t 27) Jt (.t 32)),m1 34 33,g1 35 34 false (ao 1 14),g1 36 34 false (lf 35 1),g1 37 34 false (.bsl 1 3 [.t 36]),g1 38 34 false (.call 130 [cn 0,cn 1000,.t
 37]),g1 39 34 false (Jh 38),o1 40 (.pick (.t 34) Jt (.t 39))] (Ji 40 (sr1 [Jk 2 10] .ret) .skip)) (sr1 [Jk 2 0] .ret)))
def r89:List RV:=[.tmp 2]
theorem t89:Qt1 Tryz.prog 89 c89 r89 41:=ZH Tryz.func89
def c54:SC:=(sr1 [o1 2 (Jz 0 0 29),o1 3 (Jz 1 0 31),Jk 4 0] (.seq (sr1 [o1 6 (lt 2 17),o1 7 (J1 89 6),m1 5 7] (sr1 [m1 8 5,o1 9 (Jc .neq 8 0)] (Ji 9 (sr1 [m1 10 5,m1 4 10] .ret) .skip))) (.seq (sr1 [o1 11 (ao 2 0),o1 12 (lf 11 1),o1 13 (ao 3 0),o1 14
 (lt 13 2),o1 15 (.bsl 2 27 [.t 14]),o1 16 (.call 90 [cn 0,.t 12,.t 15]),o1 17 (Jh 16),m1 18 17,g1 19 18 false (ao 2 1),g1 20 18 false (lf 19 1),g1 21 18 false (ao 3 2),g1 22 18 false (lt 21 2),g1 23 18 false (.bsl 2 27 [.t 22]),g1 24 18 false (.call
 90 [cn 0,.t 20,.t 23]),g1 25 18 false (Jh 24),o1 26 (.pick (.t 18) Jt (.t 25)),m1 27 26,g1 28 27 false (ao 3 4),g1 29 27 false (lt 28 2),g1 30 27 false (.bsl 2 27 [.t 29]),g1 31 27 false (.call 90 [cn 0,cn 1000,.t 30]),g1 32 27 false (Jh 31),o1 33
 (.pick (.t 27) Jt (.t 32))] (Ji 33 (sr1 [Jk 4 11] .ret) .skip)) (sr1 [Jk 4 0] .ret))))
def r54:List RV:=[.tmp 4]
theorem t54:Qt1 Tryz.prog 54 c54 r54 34:=ZH Tryz.func54
def c78:SC:=(sr1 [o1 2 (Jz 0 0 29),o1 3 (Jz 1 0 31),Jk 4 0] (.seq (sr1 [o1 5 (lt 2 17),o1 6 (J1 123 5),o1 7 (Jh 6)] (Ji 7 (sr1 [Jk 4 10] .ret) .skip)) (.seq (sr1 [o1 8 (lt 2 17),o1 9 (lt 3 7),o1 10 (J2 124 8 9),o1 11 (Jh 10)] (Ji 11 (sr1 [Jk 4 11] .ret) .skip)) (sr1 [Jk 4 0] .ret))))
def r78:List RV:=[.tmp 4]
theorem t78:Qt1 Tryz.prog 78 c78 r78 12:=ZH Tryz.func78
def c124:SC:=(sr1 [o1 2 (Jz 0 0 29),o1 3 (Jz 1 0 31),Jw 4 Jf] (sr1 [o1 5 (ao 3 0),o1 6 (lt 5 2),o1 7 (ao 2 0),o1 8 (lf 7 1),o1 9 (.call 158 [.t 6,cn 0,.t 8]),m1 10 9,g1 11 10 true (ao 3 2),g1 12 10 true (lt 11 2),g1 13 10 true (ao 2 1),g1 14 10 true
 (lf 13 1),g1 15 10 true (.call 158 [.t 12,cn 0,.t 14]),o1 16 (.pick (.t 10) (.t 15) Jf),m1 17 16,g1 18 17 true (ao 3 4),g1 19 17 true (lt 18 2),g1 20 17 true (.call 158 [.t 19,cn 0,cn 1000]),o1 21 (.pick (.t 17) (.t 20) Jf),m1 4 21] .ret))
def r124:List RV:=[.tmp 4]
theorem t124:Qt1 Tryz.prog 124 c124 r124 22:=ZH Tryz.func124
def c174:SC:=(sr1 [o1 1 (Jz 0 0 215),o1 2 (.alloc zv0 27)] (sr1 [o1 6 (.build zv0 [(0,1,.c (.int .i64 1000)),(1,1,.c (.int .i64 1000))]),o1 3 (.alloc zv0 27),Js 3 6 2] (.seq (.seq (.regd (Jr 22) [Jo 7 (ao 1 17),Jp 8 (ao 7 0) [0],Jp 9 (lt 8 2) [1],Jo
 10 (ao 1 0),Jp 11 (ao 10 0) [3],Jp 12 (lf 11 1) [4],Jo 13 (.bsl 1 3 [cn 2,cn 1000]),Jp 14 (J3 171 9 12 13) [2,5,6],Jo 15 (ao 1 17),Jp 16 (ao 15 2) [8],Jp 17 (lt 16 2) [9],Jo 18 (ao 1 0),Jp 19 (ao 18 1) [11],Jp 20 (lf 19 1) [12],Jo 21 (.bsl 1 3 [cn
 2,cn 1000]),Jp 22 (J3 171 17 20 21) [7,10,13,14],Jo 23 (ao 1 17),Jp 24 (ao 23 4) [16],Jp 25 (lt 24 2) [17],Jp 26 (.call 178 [cn 1000,.t 25]) [15,18],Jp 27 (.build ZqK [(0,2,.t 14),(2,2,.t 22),(4,2,.t 26)]) [7,15,19],.op (Jk 28 0)] 0 0 []) (.block 0
 (.loop (sr1 [o1 29 (Jc .lss 28 3)] (.seq (Ji 29 .skip (.exit 0)) (.seq (.block 1 (sr1 [o1 30 (.idx (.t 27) (.t 28) 3 2 true),o1 5 (.alloc zv0 27),Js 5 30 2] (.reg [o1 31 (ao 3 0),o1 32 (lf 31 1),o1 33 (ao 5 0),o1 34 (lf 33 1),o1 35 (.mm false [.t
 32,.t 34]),o1 36 (ao 3 1),o1 37 (lf 36 1),o1 38 (ao 5 1),o1 39 (lf 38 1),o1 40 (.mm false [.t 37,.t 39]),o1 41 (.build zv0 [(0,1,.t 35),(1,1,.t 40)]),Js 3 41 2]))) (.reg [o1 42 (Jc .add 28 1),m1 28 42]))))))) (sr1 [o1 43 (lt 3 2),Js 2 43 2] .ret))))
def r174:List RV:=[.cell 2 2 true]
theorem t174:Qt1 Tryz.prog 174 c174 r174 44:=ZH Tryz.func174
def c160:SC:=(sr1 [o1 1 (Jz 0 0 215),o1 2 (.alloc zv0 27)] (sr1 [o1 4 (lt 1 24),o1 5 (J1 174 4),o1 3 (.alloc zv0 27),Js 3 5 2] (.seq (.regd (Jr 18) [Jo 6 (ao 1 0),Jp 7 (ao 6 15) [0],Jp 8 (ao 7 0) [1],Jp 9 (lf 8 1) [2],Jo 10 (ao 3 0),Jp 11 (lf 10 1)
 [4],Jp 12 (Jb .mul 9 11) [3,5],Jp 13 (.div .quo (.t 12) (cn 1000)) [6],Jo 14 (ao 1 0),Jp 15 (ao 14 15) [8],Jp 16 (ao 15 1) [9],Jp 17 (lf 16 1) [10],Jo 18 (ao 3 1),Jp 19 (lf 18 1) [12],Jp 20 (Jb .mul 17 19) [11,13],Jp 21 (.call 175 [.t 20,cn 1000])
 [14],Jp 22 (.build zv0 [(0,1,.t 13),(1,1,.t 21)]) [7,15]] 0 1 [Ju 2 22 2 (Jr 17)]) .ret)))
def r160:List RV:=[.cell 2 2 true]
theorem t160:Qt1 Tryz.prog 160 c160 r160 23:=ZH Tryz.func160
def c152:SC:=(sr1 [Jk 2 0] (.seq (sr1 [m1 5 0,o1 6 (Jl 5),Jk 7 0] (.block 0 (.loop (sr1 [o1 8 (Jb .lss 7 6)] (.seq (Ji 8 .skip (.exit 0)) (.seq (.block 1 (sr1 [o1 9 (Jx 5 7 8),o1 10 (lt 9 8),o1 4 (.alloc zv8 168),Js 4 10 8] (sr1 [o1 11 (ao 4 0),o1 12
 (lf 11 1),o1 13 (.bsl 1 3 [.t 12]),o1 14 (.call 130 [cn 0,cn 24,.t 13]),o1 15 (Jh 14),m1 16 15,g1 17 16 false (ao 4 1),g1 18 16 false (lf 17 1),g1 19 16 false (.bsl 1 3 [.t 18]),g1 20 16 false (.call 130 [cn 0,cn 1000000,.t 19]),g1 21 16 false (Jh
 20),o1 22 (.pick (.t 16) Jt (.t 21)),m1 23 22,g1 24 23 false (ao 4 2),g1 25 23 false (lt 24 2),g1 26 23 false (.bsl 2 27 [.t 25]),g1 27 23 false (.call 90 [cn 0,cn 60,.t 26]),g1 28 23 false (Jh 27),o1 29 (.pick (.t 23) Jt (.t 28)),m1 30 29,g1 31 30
 false (ao 4 4),g1 32 30 false (lt 31 2),g1 33 30 false (ao 4 6),g1 34 30 false (lt 33 2),g1 35 30 false (.bsl 2 27 [.t 32,.t 34]),g1 36 30 false (.call 90 [cn 0,cn 1000000,.t 35]),g1 37 30 false (Jh 36),o1 38 (.pick (.t 30) Jt (.t 37))] (Ji 38 (sr1
 [Jk 2 12] .ret) .skip)))) (.reg [o1 39 (Jc .add 7 1),m1 7 39]))))))) (sr1 [Jk 2 0] .ret)))
def r152:List RV:=[.tmp 2]
theorem t152:Qt1 Tryz.prog 152 c152 r152 40:=ZH Tryz.func152
def c169:SC:=(sr1 [o1 3 (Jz 0 0 29),o1 5 (Jz 2 0 168),o1 6 (.alloc zv9 251)] (sr1 [o1 10 (ao 5 2),o1 11 (ao 10 0),o1 12 (lf 11 1),o1 13 (Jc .sub 12 20),o1 14 (.mm true [cn 0,.t 13]),o1 15 (ao 5 2),o1 16 (ao 15 1),o1 17 (lf 16 1),o1 18 (Jc .sub 17
 20),o1 19 (.mm true [cn 0,.t 18]),o1 20 (.build zv0 [(0,1,.t 14),(1,1,.t 19)]),o1 7 (.alloc zv0 27),Js 7 20 2] (sr1 [o1 21 (ao 5 0),o1 22 (lf 21 1),o1 23 (ao 5 1),o1 24 (lf 23 1),o1 25 (.bin .add (cn 100000) (.t 24)),o1 26 (Jb .mul 22 25),m1 8 26]
 (.seq (.regd (Jr 24) [Jo 27 (ao 3 2),Jp 28 (lt 27 2) [0],Jo 29 (ao 3 4),Jp 30 (ao 29 0) [2],Jp 31 (lf 30 1) [3],Jo 32 (ao 7 0),Jp 33 (lf 32 1) [5],Jp 34 (Jb .mul 31 33) [4,6],Jo 35 (ao 3 4),Jp 36 (ao 35 1) [8],Jp 37 (lf 36 1) [9],Jo 38 (ao 7 1),Jp 39
 (lf 38 1) [11],Jp 40 (Jb .mul 37 39) [10,12],Jp 41 (.build zv0 [(0,1,.t 34),(1,1,.t 40)]) [7,13],Jo 42 (ao 3 6),Jp 43 (lt 42 2) [15],Jm 44 8,Jp 45 (.bsl 1 3 [.t 44]) [17],Jp 46 (.call 171 [.t 43,cn 100000,.t 45]) [16,18],Jp 47 (.bsl 2 27 [.t 28,.t
 41,.t 46]) [1,14,19],Jp 48 (J1 170 47) [19,20]] 1 1 [o1 9 (.alloc zv0 27),Ju 9 48 2 (Jr 23)]) (.seq (sr1 [m1 49 1] (Ji 49 (.reg [o1 50 (lt 9 2),o1 51 (ao 3 12),o1 52 (lt 51 2),o1 53 (.bsl 2 27 [.t 50,.t 52]),o1 54 (J1 170 53),Js 9 54 2]) .skip))
 (.seq (.regd (Jr 8) [Jo 55 (lt 9 2),Jo 56 (ao 3 8),Jp 57 (lt 56 2) [1],Jm 58 8,Jp 59 (.bsl 1 3 [.t 58]) [3],Jp 60 (.call 171 [.t 57,cn 100000,.t 59]) [2,4],Jp 61 (.build zv9 [(0,2,.t 55),(2,2,.t 60)]) [0,5]] 0 1 [Ju 6 61 4 (Jr 7)]) .ret))))))
def r169:List RV:=[.cell 6 4 true]
theorem t169:Qt1 Tryz.prog 169 c169 r169 62:=ZH Tryz.func169
def c123:SC:=(sr1 [o1 1 (Jz 0 0 29),Jw 2 Jf] (.seq (sr1 [o1 3 (ao 1 0),o1 4 (lf 3 1),o1 5 (.call 157 [.t 4,cn 1,cn 1000000]),o1 6 (Jh 5),m1 7 6,g1 8 7 false (ao 1 1),g1 9 7 false (lf 8 1),g1 10 7 false (.call 157 [.t 9,cn 1,cn 1000000]),g1 11 7 false
 (Jh 10),o1 12 (.pick (.t 7) Jt (.t 11)),m1 13 12,g1 14 13 false (ao 1 14),g1 15 13 false (lf 14 1),g1 16 13 false (.call 157 [.t 15,cn 0,cn 1000]),g1 17 13 false (Jh 16),o1 18 (.pick (.t 13) Jt (.t 17)),m1 19 18,g1 20 19 false (ao 1 15),g1 21 19
 false (lt 20 2),g1 22 19 false (.call 158 [.t 21,cn 0,cn 1000000]),g1 23 19 false (Jh 22),o1 24 (.pick (.t 19) Jt (.t 23))] (Ji 24 (sr1 [Jw 2 Jf] .ret) .skip)) (sr1 [o1 25 (ao 1 2),o1 26 (lt 25 2),o1 27 (.call 158 [.t 26,cn 0,cn 100000]),m1 28 27,g1
 29 28 true (ao 1 4),g1 30 28 true (lt 29 2),g1 31 28 true (.call 158 [.t 30,cn 0,cn 100000]),o1 32 (.pick (.t 28) (.t 31) Jf),m1 33 32,g1 34 33 true (ao 1 6),g1 35 33 true (lt 34 2),g1 36 33 true (.call 158 [.t 35,cn 0,cn 100000]),o1 37 (.pick (.t
 33) (.t 36) Jf),m1 38 37,g1 39 38 true (ao 1 8),g1 40 38 true (lt 39 2),g1 41 38 true (.call 158 [.t 40,cn 0,cn 100000]),o1 42 (.pick (.t 38) (.t 41) Jf),m1 43 42,g1 44 43 true (ao 1 10),g1 45 43 true (lt 44 2),g1 46 43 true (.call 158 [.t 45,cn 0,cn
 100000]),o1 47 (.pick (.t 43) (.t 46) Jf),m1 48 47,g1 49 48 true (ao 1 12),g1 50 48 true (lt 49 2),g1 51 48 true (.call 158 [.t 50,cn 0,cn 100000]),o1 52 (.pick (.t 48) (.t 51) Jf),m1 2 52] .ret)))
def r123:List RV:=[.tmp 2]
theorem t123:Qt1 Tryz.prog 123 c123 r123 53:=ZH Tryz.func123
def c130:SC:=(sr1 [o1 3 (Jz 0 0 3),o1 4 (Jz 1 0 3),Jw 6 Jf] (sr1 [m1 7 2,o1 8 (.mkf 163 [.t 3,.t 4]),o1 9 (J2 84 7 8),o1 10 (Jh 9),m1 6 10] .ret))
def r130:List RV:=[.tmp 6]
theorem t130:Qt1 Tryz.prog 130 c130 r130 11:=ZH Tryz.func130
def c90:SC:=(sr1 [o1 3 (Jz 0 0 3),o1 4 (Jz 1 0 3),Jw 6 Jf] (sr1 [m1 7 2,o1 8 (.mkf 131 [.t 3,.t 4]),o1 9 (J2 48 7 8),o1 10 (Jh 9),m1 6 10] .ret))
def r90:List RV:=[.tmp 6]
theorem t90:Qt1 Tryz.prog 90 c90 r90 11:=ZH Tryz.func90
def c170:SC:=(sr1 [o1 2 (.alloc zv0 27)] (sr1 [o1 3 (.alloc zv0 27)] (.seq (sr1 [m1 6 0,o1 7 (Jl 6),Jk 8 0] (.block 0 (.loop (sr1 [o1 9 (Jb .lss 8 7)] (.seq (Ji 9 .skip (.exit 0)) (.seq (.block 1 (sr1 [o1 10 (Jx 6 8 2),o1 11 (lt 10 2),o1 5 (.alloc zv0
 27),Js 5 11 2] (.reg [o1 12 (ao 3 0),o1 13 (lf 12 1),o1 14 (ao 5 0),o1 15 (lf 14 1),o1 16 (Jb .add 13 15),o1 17 (ao 3 1),o1 18 (lf 17 1),o1 19 (ao 5 1),o1 20 (lf 19 1),o1 21 (Jb .add 18 20),o1 22 (.build zv0 [(0,1,.t 16),(1,1,.t 21)]),Js 3 22 2])))
 (.reg [o1 23 (Jc .add 8 1),m1 8 23]))))))) (sr1 [o1 24 (lt 3 2),Js 2 24 2] .ret))))
def r170:List RV:=[.cell 2 2 true]
theorem t170:Qt1 Tryz.prog 170 c170 r170 25:=ZH Tryz.func170
def c178:SC:=(sr1 [o1 3 (Jz 1 0 27),o1 4 (.alloc zv0 27)] (sr1 [m1 5 0,o1 6 (ao 3 1),o1 7 (lf 6 1),o1 8 (Jb .sub 5 7),m1 9 0,o1 10 (ao 3 0),o1 11 (lf 10 1),o1 12 (Jb .sub 9 11),o1 13 (.build zv0 [(0,1,.t 8),(1,1,.t 12)]),Js 4 13 2] .ret))
def r178:List RV:=[.cell 4 2 true]
theorem t178:Qt1 Tryz.prog 178 c178 r178 14:=ZH Tryz.func178
def c158:SC:=(sr1 [o1 3 (Jz 0 0 27),Jw 6 Jf] (sr1 [o1 7 (ao 3 0),o1 8 (lf 7 1),m1 9 1,o1 10 (ao 3 1),o1 11 (lf 10 1),o1 12 (J3 157 8 9 11),m1 13 12,g1 14 13 true (ao 3 1),g1 15 13 true (lf 14 1),g1 16 13 true (.mv (.t 2)),g1 17 13 true (Jb .leq 15
 16),o1 18 (.pick (.t 13) (.t 17) Jf),m1 6 18] .ret))
def r158:List RV:=[.tmp 6]
theorem t158:Qt1 Tryz.prog 158 c158 r158 19:=ZH Tryz.func158
def c157:SC:=(sr1 [Jw 6 Jf] (sr1 [m1 7 0,m1 8 1,o1 9 (Jb .geq 7 8),m1 10 9,g1 11 10 true (.mv (.t 0)),g1 12 10 true (.mv (.t 2)),g1 13 10 true (Jb .leq 11 12),o1 14 (.pick (.t 10) (.t 13) Jf),m1 6 14] .ret))
def r157:List RV:=[.tmp 6]
theorem t157:Qt1 Tryz.prog 157 c157 r157 15:=ZH Tryz.func157
def c171:SC:=(sr1 [o1 3 (Jz 0 0 27),o1 6 (.alloc zv0 27)] (.seq (sr1 [m1 9 2,o1 10 (Jl 9),Jk 11 0] (.block 0 (.loop (sr1 [o1 12 (Jb .lss 11 10)] (.seq (Ji 12 .skip (.exit 0)) (.seq (.block 1 (sr1 [o1 13 (Jx 9 11 1),o1 14 (lf 13 1),m1 8 14] (.reg [o1
 15 (ao 3 0),o1 16 (lf 15 1),m1 17 8,o1 18 (Jb .mul 16 17),o1 19 (ao 3 1),o1 20 (lf 19 1),m1 21 8,o1 22 (Jb .mul 20 21),o1 23 (ao 3 0),Js 23 18 1,o1 24 (ao 3 1),Js 24 22 1]))) (.reg [o1 25 (Jc .add 11 1),m1 11 25]))))))) (.seq (.regd (Jr 10) [Jo 26
 (ao 3 0),Jp 27 (lf 26 1) [0],Jm 28 1,Jp 29 (.div .quo (.t 27) (.t 28)) [1,2],Jo 30 (ao 3 1),Jp 31 (lf 30 1) [4],Jm 32 1,Jp 33 (J2 175 31 32) [5,6],Jp 34 (.build zv0 [(0,1,.t 29),(1,1,.t 33)]) [3,7]] 0 1 [Ju 6 34 2 (Jr 9)]) .ret)))
def r171:List RV:=[.cell 6 2 true]
theorem t171:Qt1 Tryz.prog 171 c171 r171 35:=ZH Tryz.func171
def c175:SC:=(sr1 [Jk 4 0] (sr1 [m1 5 0,m1 6 1,o1 7 (Jb .add 5 6),o1 8 (Jc .sub 7 1),m1 9 1,o1 10 (.div .quo (.t 8) (.t 9)),m1 4 10] .ret))
def r175:List RV:=[.tmp 4]
theorem t175:Qt1 Tryz.prog 175 c175 r175 11:=ZH Tryz.func175
def c163:SC:=(sr1 [Jw 4 Jf] (sr1 [m1 5 0,o1 6 (lf 1 1),o1 7 (Jb .lss 5 6),m1 8 7,g1 9 8 false (.mv (.t 0)),g1 10 8 false (lf 2 1),g1 11 8 false (Jb .gtr 9 10),o1 12 (.pick (.t 8) Jt (.t 11)),m1 4 12] .ret))
def r163:List RV:=[.tmp 4]
theorem t163:Qt1 Tryz.prog 163 c163 r163 13:=ZH Tryz.func163
def c131:SC:=(sr1 [o1 3 (Jz 0 0 27),Jw 4 Jf] (sr1 [o1 5 (ao 3 0),o1 6 (lf 5 1),o1 7 (ao 3 1),o1 8 (lf 7 1),o1 9 (Jb .gtr 6 8),m1 10 9,g1 11 10 false (lf 1 1),g1 12 10 false (lf 2 1),g1 13 10 false (ao 3 0),g1 14 10 false (lf 13 1),g1 15 10 false (ao 3
 1),g1 16 10 false (lf 15 1),g1 17 10 false (.bsl 1 3 [.t 14,.t 16]),g1 18 10 false (J3 130 11 12 17),g1 19 10 false (Jh 18),o1 20 (.pick (.t 10) Jt (.t 19)),m1 4 20] .ret))
def r131:List RV:=[.tmp 4]
theorem t131:Qt1 Tryz.prog 131 c131 r131 21:=ZH Tryz.func131
def c154:SC:=(sr1 [o1 2 (Jz 0 0 215),o1 3 (Jz 1 0 168),o1 4 (.alloc zv1 215),o1 5 (.mv (.c (.int .u8 0)))] (sr1 [o1 16 (ao 2 17),o1 17 (ao 16 0),o1 18 (ao 2 17),o1 19 (ao 18 2),o1 20 (.build [.pointer none,.pointer none] [(0,1,.t 17),(1,1,.t 19)]),o1
 6 (.alloc [.pointer none,.pointer none] 250),Js 6 20 2] (.seq (.regd (Jr 16) [Jo 21 (ao 2 0),Jp 22 (ao 21 0) [0],Jp 23 (lf 22 1) [1],Jo 24 (ao 2 0),Jp 25 (ao 24 1) [3],Jp 26 (lf 25 1) [4],Jp 27 (.build zv0 [(0,1,.t 23),(1,1,.t 26)]) [2,5],Jo 28 (ao 3
 6),Jp 29 (lt 28 2) [7],Jo 30 (ao 3 4),Jp 31 (lt 30 2) [9],Jp 32 (.build zv9 [(0,2,.t 29),(2,2,.t 31)]) [8,10]] 2 2 [o1 7 (.alloc zv0 140),o1 8 (.alloc zv9 251),Ju 7 27 2 [0,1,2,3,4,5,6,12,13],Ju 8 32 4 (Jr 15)]) (sr1 [o1 9 (.mv (.c (.int .u8 0)))]
 (.seq (sr1 [o1 33 (ao 2 0),o1 34 (lt 33 17),o1 35 (ao 2 17),o1 36 (ao 35 6),o1 37 (lf 36 1),o1 38 (lt 3 8),o1 39 (J3 169 34 37 38),Jk 40 0] (.block 0 (.loop (sr1 [o1 41 (Jc .lss 40 2)] (.seq (Ji 41 .skip (.exit 0)) (.seq (.block 1 (sr1 [m1 42 40,o1
 43 (.idx (.t 39) (.t 40) 2 2 true),o1 11 (.alloc zv0 27),m1 10 42,Js 11 43 2] (sr1 [m1 44 10,o1 45 (.ixa (.t 6) (.t 44) 2 1),o1 46 (lf 45 1),m1 12 46] (.seq (.block 2 (.seq (.regd (Jr 8) [Jm 48 12,Jp 49 (.nilc (.t 48)) [0],Jp 50 (ao 49 1) [1],Jp 51
 (lf 50 1) [2],Jo 52 (ao 11 0),Jp 53 (lf 52 1) [4],Jp 54 (Jb .lss 51 53) [3,5],Jp 47 (.mv (.t 54)) [6]] 0 0 []) (Ji 47 (sr1 [o1 55 (.build zv1 []),Js 4 55 24,o1 5 (.mv (.c (.int .u8 2)))] .ret) (.seq (.regd (Jr 8) [Jm 57 12,Jp 58 (.nilc (.t 57))
 [0],Jp 59 (ao 58 0) [1],Jp 60 (lf 59 1) [2],Jo 61 (ao 11 1),Jp 62 (lf 61 1) [4],Jp 63 (Jb .lss 60 62) [3,5],Jp 56 (.mv (.t 63)) [6]] 0 0 []) (Ji 56 (.reg [o1 9 (.mv (.c (.int .u8 1)))]) .skip))))) (.seq (.regd (Jr 23) [Jm 64 12,Jp 65 (.nilc (.t 64))
 [0],Jp 66 (ao 65 0) [1],Jp 67 (lf 66 1) [2],Jo 68 (ao 11 1),Jp 69 (lf 68 1) [4],Jp 70 (Jb .sub 67 69) [3,5],Jp 71 (.mm true [cn 0,.t 70]) [6],Jm 72 12,Jp 73 (.nilc (.t 72)) [8],Jp 74 (ao 73 1) [9],Jp 75 (lf 74 1) [10],Jo 76 (ao 11 0),Jp 77 (lf 76 1)
 [12],Jp 78 (Jb .sub 75 77) [11,13],Jp 79 (.build zv0 [(0,1,.t 71),(1,1,.t 78)]) [7,14],Jm 80 10,Jp 81 (.ixa (.t 8) (.t 80) 2 2) [16],Jp 82 (lt 81 2) [17],Jp 83 (.bsl 2 27 [.t 79,.t 82]) [15,18],Jp 84 (J1 170 83) [19]] 1 1 [o1 13 (.alloc zv0 27),Ju 13
 84 2 (Jr 22)]) (.regd (Jr 16) [Jm 85 12,Jm 86 10,Jp 87 (.ixa (.t 7) (.t 86) 2 1) [1],Jp 88 (lf 87 1) [2],Jo 89 (ao 13 0),Jp 90 (lf 89 1) [4],Jp 91 (.mm false [.t 88,.t 90]) [3,5],Jm 92 10,Jp 93 (.ixa (.t 7) (.t 92) 2 1) [7],Jp 94 (lf 93 1) [8],Jo 95
 (ao 13 1),Jp 96 (lf 95 1) [10],Jp 97 (.mm false [.t 94,.t 96]) [9,11],Jp 98 (.build zv0 [(0,1,.t 91),(1,1,.t 97)]) [6,12],Jp 99 (.nilc (.t 85)) (Jr 14)] 0 1 [Ju 99 98 2 (Jr 15)])))))) (.reg [o1 100 (Jc .add 40 1),m1 40 100]))))))) (sr1 [o1 101 (ao 2
 17),o1 102 (ao 101 4),m1 14 102] (.seq (sr1 [o1 103 (ao 3 0),o1 104 (lf 103 1),o1 105 (Jc .eql 104 0)] (Ji 105 (.seq (.regd (Jr 22) [Jm 106 14,Jm 107 14,Jp 108 (.nilc (.t 107)) [1],Jp 109 (ao 108 0) [2],Jp 110 (lf 109 1) [3],Jo 111 (ao 2 0),Jp 112
 (ao 111 14) [5],Jp 113 (lf 112 1) [6],Jp 114 (Jb .sub 110 113) [4,7],Jp 115 (.mm true [cn 0,.t 114]) [8],Jm 116 14,Jp 117 (.nilc (.t 116)) [10],Jp 118 (ao 117 1) [11],Jp 119 (lf 118 1) [12],Jo 120 (ao 2 0),Jp 121 (ao 120 14) [14],Jp 122 (lf 121 1)
 [15],Jp 123 (Jb .sub 119 122) [13,16],Jp 124 (.mm true [cn 0,.t 123]) [17],Jp 125 (.build zv0 [(0,1,.t 115),(1,1,.t 124)]) [9,18],Jp 126 (.nilc (.t 106)) (Jr 20)] 0 1 [Ju 126 125 2 (Jr 21)]) (sr1 [o1 127 (lt 2 24),m1 128 9,Js 4 127 24,m1 5 128]
 .ret)) .skip)) (.seq (.regd (Jr 16) [Jm 129 14,Jp 130 (.nilc (.t 129)) [0],Jp 131 (lt 130 2) [1],Jo 132 (ao 2 0),Jp 133 (ao 132 10) [3],Jp 134 (lt 133 2) [4],Jo 135 (ao 3 0),Jp 136 (lf 135 1) [6],Jo 137 (ao 3 1),Jp 138 (lf 137 1) [8],Jp 139 (.bsl 1 3
 [.t 136,.t 138]) [7,9],Jp 140 (.call 171 [.t 134,cn 1000000,.t 139]) [5,10],Jp 141 (.bsl 2 27 [.t 131,.t 140]) [2,11],Jp 142 (J1 170 141) [11,12]] 1 1 [o1 15 (.alloc zv0 27),Ju 15 142 2 (Jr 15)]) (sr1 [m1 143 14,o1 144 (ao 15 0),o1 145 (lf 144 1),o1
 146 (.mm false [cn 1000,.t 145]),o1 147 (ao 15 1),o1 148 (lf 147 1),o1 149 (.mm false [cn 1000,.t 148]),o1 150 (.build zv0 [(0,1,.t 146),(1,1,.t 149)]),o1 151 (.nilc (.t 143)),Js 151 150 2] (sr1 [o1 152 (lt 2 24),m1 153 9,Js 4 152 24,m1 5 153]
 .ret))))))))))
def r154:List RV:=[.cell 4 24 true,.tmp 5]
theorem t154:Qt1 Tryz.prog 154 c154 r154 154:=ZH Tryz.func154
def c176:SC:=(sr1 [o1 3 (Jz 0 0 29),o1 4 (Jz 1 0 31),o1 5 (Jz 2 0 168),o1 6 (.alloc zv6 31),o1 7 (.mv (.c (.int .u8 0))),Jk 8 0] (.seq (sr1 [o1 12 (lt 3 17),o1 13 (lt 4 7),o1 14 (J2 54 12 13),m1 9 14] (sr1 [m1 15 9,o1 16 (Jc .neq 15 0)] (Ji 16 (sr1
 [o1 17 (lt 6 7),m1 18 9,Js 6 17 7,o1 7 (.mv (.c (.int .u8 0))),m1 8 18] .ret) .skip))) (.seq (sr1 [o1 19 (lt 5 8),o1 20 (.bsl 8 168 [.t 19]),o1 21 (J1 152 20),m1 10 21] (sr1 [m1 22 10,o1 23 (Jc .neq 22 0)] (Ji 23 (sr1 [o1 24 (lt 6 7),m1 25 10,Js 6 24
 7,o1 7 (.mv (.c (.int .u8 0))),m1 8 25] .ret) .skip))) (sr1 [o1 27 (lt 3 17),o1 28 (lt 4 7),o1 29 (.build zv1 [(0,17,.t 27),(17,7,.t 28)]),o1 30 (lt 5 8),o1 31 (J2 154 29 30),m1 26 31,o1 32 (Je 26 0),o1 33 (Je 26 1),o1 11 (.alloc zv1 215),Js 11 32
 24,m1 7 33] (.seq (sr1 [m1 34 7,o1 35 (.bin .eql (.t 34) (.c (.int .u8 2)))] (Ji 35 (sr1 [o1 36 (lt 6 7),Js 6 36 7,o1 7 (.mv (.c (.int .u8 0))),Jk 8 13] .ret) .skip)) (sr1 [o1 37 (ao 11 17),o1 38 (lt 37 7),m1 39 7,Js 6 38 7,m1 7 39,Jk 8 0] .ret))))))
def r176:List RV:=[.cell 6 7 true,.tmp 7,.tmp 8]
theorem t176:Qt1 Tryz.prog 176 c176 r176 40:=ZH Tryz.func176
def c40:SC:=(sr1 [o1 1 (Jz 0 0 25),Jw 2 Jf] (.seq (sr1 [o1 4 (ao 1 0),o1 5 (lf 4 1),o1 6 (Jl 5),o1 7 (Jc .gtr 6 20),m1 8 7,g1 9 8 false (ao 1 1),g1 10 8 false (lf 9 1),g1 11 8 false (Jl 10),g1 12 8 false (Jc .gtr 11 40),o1 13 (.pick (.t 8) Jt (.t
 12))] (Ji 13 (sr1 [Jw 2 Jt] .ret) .skip)) (.seq (sr1 [Jk 3 0] (.block 0 (.loop (.seq (sr1 [m1 14 3,o1 15 (ao 1 1),o1 16 (lf 15 1),o1 17 (Jl 16),o1 18 (Jb .lss 14 17)] (Ji 18 .skip (.exit 0))) (.seq (.block 1 (sr1 [o1 21 (ao 1 1),o1 22 (lf 21 1),m1 23
 3,o1 24 (Jx 22 23 5),o1 25 (ao 24 4),o1 26 (lf 25 1),o1 27 (Jl 26),o1 28 (Jc .gtr 27 20)] (Ji 28 (sr1 [Jw 2 Jt] .ret) .skip))) (.reg [m1 19 3,o1 20 (Jc .add 19 1),m1 3 20])))))) (sr1 [Jw 2 Jf] .ret))))
def r40:List RV:=[.tmp 2]
theorem t40:Qt1 Tryz.prog 40 c40 r40 29:=ZH Tryz.func40
def c102:SC:=(sr1 [o1 4 (Jz 0 0 25),o1 8 (.alloc zv0 27),Jk 9 0,Jk 10 0] (.seq (sr1 [o1 20 (lt 4 2),o1 21 (J1 92 20),m1 11 21] (.block 0 (sr1 [m1 23 11,o1 24 (Jc .neq 23 0),m1 22 24] (Ji 22 (sr1 [o1 25 (lt 8 2),m1 26 11,Js 8 25 2,Jk 9 0,m1 10 26]
 .ret) (sr1 [o1 28 (ao 4 0),o1 29 (lf 28 1),o1 30 (Jl 29),o1 31 (Jc .sub 30 1),m1 32 1,o1 33 (.bsl 1 3 [.t 32]),o1 34 (.call 57 [cn 0,.t 31,.t 33]),o1 35 (Jh 34),m1 36 35,g1 37 36 false (.mv (.t 3)),g1 38 36 false (.bsl 1 3 [.t 37]),g1 39 36 false
 (.call 57 [cn 0,cn 100000,.t 38]),g1 40 36 false (Jh 39),o1 41 (.pick (.t 36) Jt (.t 40)),m1 27 41] (Ji 27 (sr1 [o1 42 (lt 8 2),Js 8 42 2,Jk 9 0,Jk 10 2] .ret) (sr1 [m1 44 2,o1 45 (Jl 44),o1 46 (Jc .gtr 45 200),m1 43 46] (Ji 43 (sr1 [o1 47 (lt 8
 2),Js 8 47 2,Jk 9 0,Jk 10 4] .ret) .skip)))))))) (sr1 [Jk 12 0] (.seq (sr1 [m1 48 2,o1 49 (Jl 48),Jk 50 0] (.block 1 (.loop (sr1 [o1 51 (Jb .lss 50 49)] (.seq (Ji 51 .skip (.exit 1)) (.seq (.block 2 (sr1 [o1 52 (Jx 48 50 3),o1 53 (lt 52 3),o1 14
 (.alloc zv4 145),Js 14 53 3] (.seq (sr1 [o1 54 (ao 4 0),o1 55 (lf 54 1),o1 56 (Jl 55),o1 57 (Jc .sub 56 1),o1 58 (ao 14 0),o1 59 (lf 58 1),o1 60 (.bsl 1 3 [.t 59]),o1 61 (.call 57 [cn 0,.t 57,.t 60]),o1 62 (Jh 61),m1 63 62,g1 64 63 false (.mv (.t
 12)),g1 65 63 false (ao 14 1),g1 66 63 false (lf 65 1),g1 67 63 false (.bsl 1 3 [.t 66]),g1 68 63 false (.call 57 [.t 64,cn 100000,.t 67]),g1 69 63 false (Jh 68),o1 70 (.pick (.t 63) Jt (.t 69)),m1 71 70,g1 72 71 false (ao 14 2),g1 73 71 false (lf 72
 1),g1 74 71 false (.bsl 1 3 [.t 73]),g1 75 71 false (.call 57 [cn 0,cn 1000000000,.t 74]),g1 76 71 false (Jh 75),o1 77 (.pick (.t 71) Jt (.t 76))] (Ji 77 (sr1 [o1 78 (lt 8 2),Js 8 78 2,Jk 9 0,Jk 10 32] .ret) .skip)) (.reg [o1 79 (ao 14 1),o1 80 (lf
 79 1),m1 12 80])))) (.reg [o1 81 (Jc .add 50 1),m1 50 81]))))))) (sr1 [o1 82 (ao 4 0),o1 83 (lf 82 1),m1 84 1,o1 85 (Jx 83 84 9),o1 86 (lt 85 9),o1 15 (.alloc ZzO 151),Js 15 86 9] (sr1 [o1 87 (ao 15 6),o1 88 (lt 87 2),o1 16 (.alloc zv0 27),Js 16 88
 2,o1 17 (.mv (cn (-1)))] (.seq (sr1 [m1 89 2,o1 90 (Jl 89),Jk 91 0] (.block 3 (.loop (sr1 [o1 92 (Jb .lss 91 90)] (.seq (Ji 92 .skip (.exit 3)) (.seq (.block 4 (sr1 [m1 93 91,o1 94 (Jx 89 91 3),o1 95 (lt 94 3),o1 19 (.alloc zv4 145),m1 18 93,Js 19 95
 3] (.seq (sr1 [o1 96 (ao 19 0),o1 97 (lf 96 1),m1 98 1,o1 99 (Jb .neq 97 98),m1 100 99,g1 101 100 false (ao 19 1),g1 102 100 false (lf 101 1),g1 103 100 false (.mv (.t 3)),g1 104 100 false (Jb .geq 102 103),o1 105 (.pick (.t 100) Jt (.t 104))] (Ji
 105 (.exit 4) .skip)) (sr1 [o1 106 (lt 15 9),o1 107 (lt 16 2),o1 108 (ao 19 1),o1 109 (lf 108 1),m1 110 17,o1 111 (Jb .sub 109 110),o1 112 (J3 139 106 107 111),Js 16 112 2] (sr1 [o1 113 (ao 19 1),o1 114 (lf 113 1),m1 17 114] (.seq (sr1 [o1 115 (ao 16
 1),o1 116 (lf 115 1),o1 117 (ao 19 2),o1 118 (lf 117 1),o1 119 (Jb .lss 116 118)] (Ji 119 (sr1 [o1 120 (lt 8 2),m1 121 18,Js 8 120 2,m1 9 121,Jk 10 33] .ret) .skip)) (.reg [o1 122 (ao 16 0),o1 123 (lf 122 1),o1 124 (ao 19 2),o1 125 (lf 124 1),o1 126
 (Jb .sub 123 125),o1 127 (.mm true [cn 0,.t 126]),o1 128 (ao 16 1),o1 129 (lf 128 1),o1 130 (ao 19 2),o1 131 (lf 130 1),o1 132 (Jb .sub 129 131),o1 133 (.build zv0 [(0,1,.t 127),(1,1,.t 132)]),Js 16 133 2]))))))) (.reg [o1 134 (Jc .add 91 1),m1 91
 134]))))))) (sr1 [o1 135 (lt 15 9),o1 136 (lt 16 2),m1 137 3,o1 138 (Jc .sub 137 1),m1 139 17,o1 140 (Jb .sub 138 139),o1 141 (J3 139 135 136 140),Js 8 141 2,Jk 9 0,Jk 10 0] .ret))))))))
def r102:List RV:=[.cell 8 2 true,.tmp 9,.tmp 10]
theorem t102:Qt1 Tryz.prog 102 c102 r102 142:=ZH Tryz.func102
def c92:SC:=(sr1 [o1 1 (Jz 0 0 25),Jk 2 0] (sr1 [o1 5 (ao 1 0),o1 6 (lf 5 1),o1 7 (.call 132 [.t 6,.f 133]),o1 8 (Jh 7),m1 3 8] (sr1 [o1 9 (ao 1 1),o1 10 (lf 9 1),o1 11 (.mkf 136 [.t 1]),o1 12 (J2 135 10 11),o1 13 (Jh 12),m1 4 13] (.seq (sr1 [o1 14
 (ao 1 0),o1 15 (lf 14 1),o1 16 (Jl 15),o1 17 (.bsl 1 3 [.t 16]),o1 18 (.call 57 [cn 1,cn 12,.t 17]),o1 19 (Jh 18),m1 20 19,g1 21 20 false (ao 1 1),g1 22 20 false (lf 21 1),g1 23 20 false (Jl 22),g1 24 20 false (Jc .gtr 23 24),o1 25 (.pick (.t 20) Jt
 (.t 24)),m1 26 25,g1 27 26 false (.mv (.t 3)),g1 28 26 false (Jh 27),o1 29 (.pick (.t 26) Jt (.t 28)),m1 30 29,g1 31 30 false (.mv (.t 4)),g1 32 30 false (Jh 31),o1 33 (.pick (.t 30) Jt (.t 32))] (Ji 33 (sr1 [Jk 2 30] .ret) .skip)) (sr1 [Jk 2 0]
 .ret)))))
def r92:List RV:=[.tmp 2]
theorem t92:Qt1 Tryz.prog 92 c92 r92 34:=ZH Tryz.func92
def c57:SC:=(sr1 [o1 3 (Jz 0 0 3),o1 4 (Jz 1 0 3),Jw 6 Jf] (sr1 [m1 7 2,o1 8 (.mkf 94 [.t 3,.t 4]),o1 9 (J2 84 7 8),o1 10 (Jh 9),m1 6 10] .ret))
def r57:List RV:=[.tmp 6]
theorem t57:Qt1 Tryz.prog 57 c57 r57 11:=ZH Tryz.func57
def c139:SC:=(sr1 [o1 3 (Jz 0 0 151),o1 4 (Jz 1 0 27),o1 6 (.alloc zv0 27)] (sr1 [o1 7 (ao 3 5),o1 8 (lf 7 1),o1 9 (ao 4 0),o1 10 (lf 9 1),m1 11 2,o1 12 (ao 3 3),o1 13 (ao 12 0),o1 14 (lf 13 1),o1 15 (Jb .mul 11 14),o1 16 (Jb .add 10 15),o1 17 (.mm
 false [.t 8,.t 16]),o1 18 (ao 3 5),o1 19 (lf 18 1),o1 20 (ao 4 1),o1 21 (lf 20 1),m1 22 2,o1 23 (ao 3 3),o1 24 (ao 23 1),o1 25 (lf 24 1),o1 26 (Jb .mul 22 25),o1 27 (Jb .add 21 26),o1 28 (.mm false [.t 19,.t 27]),o1 29 (.build zv0 [(0,1,.t
 17),(1,1,.t 28)]),Js 6 29 2] .ret))
def r139:List RV:=[.cell 6 2 true]
theorem t139:Qt1 Tryz.prog 139 c139 r139 30:=ZH Tryz.func139
def c121:SC:=(sr1 [o1 1 (Jz 0 0 25),Jw 2 Jf] (.seq (sr1 [o1 10 (ao 1 0),o1 11 (lf 10 1),o1 12 (Jl 11),o1 13 (.call 156 [.t 12,cn 1,cn 12]),o1 14 (Jh 13),m1 15 14,g1 16 15 false (ao 1 1),g1 17 15 false (lf 16 1),g1 18 15 false (Jl 17),g1 19 15 false
 (Jc .gtr 18 24),o1 20 (.pick (.t 15) Jt (.t 19))] (Ji 20 (sr1 [Jw 2 Jf] .ret) .skip)) (.seq (sr1 [Jk 3 0] (.block 0 (.loop (.seq (sr1 [m1 21 3,o1 22 (ao 1 0),o1 23 (lf 22 1),o1 24 (Jl 23),o1 25 (Jb .lss 21 24)] (Ji 25 .skip (.exit 0))) (.seq (.block
 1 (sr1 [o1 28 (ao 1 0),o1 29 (lf 28 1),m1 30 3,o1 31 (Jx 29 30 9),o1 32 (lt 31 9),o1 4 (.alloc ZzO 151),Js 4 32 9] (sr1 [o1 33 (ao 4 0),o1 34 (lf 33 1),o1 35 (.call 156 [.t 34,.c (.int .i64 (-10000000)),cn 10000000]),o1 36 (Jh 35),m1 37 36,g1 38 37
 false (ao 4 1),g1 39 37 false (lf 38 1),g1 40 37 false (.call 156 [.t 39,.c (.int .i64 (-10000000)),cn 10000000]),g1 41 37 false (Jh 40),o1 42 (.pick (.t 37) Jt (.t 41)),m1 43 42,g1 44 43 false (ao 4 2),g1 45 43 false (lf 44 1),g1 46 43 false (.call
 156 [.t 45,cn 0,cn 200]),g1 47 43 false (Jh 46),o1 48 (.pick (.t 43) Jt (.t 47)),m1 49 48,g1 50 49 false (ao 4 3),g1 51 49 false (lt 50 2),g1 52 49 false (.call 122 [.t 51,cn 0,cn 10000000]),g1 53 49 false (Jh 52),o1 54 (.pick (.t 49) Jt (.t 53)),m1
 55 54,g1 56 55 false (ao 4 5),g1 57 55 false (lf 56 1),g1 58 55 false (.call 156 [.t 57,cn 0,cn 1000000000]),g1 59 55 false (Jh 58),o1 60 (.pick (.t 55) Jt (.t 59)),m1 61 60,g1 62 61 false (ao 4 6),g1 63 61 false (lt 62 2),g1 64 61 false (ao 4 5),g1
 65 61 false (lf 64 1),g1 66 61 false (.call 122 [.t 63,cn 0,.t 65]),g1 67 61 false (Jh 66),o1 68 (.pick (.t 61) Jt (.t 67)),m1 69 68,g1 70 69 false (ao 4 8),g1 71 69 false (lf 70 1),g1 72 69 false (.call 156 [.t 71,cn 0,cn 9999]),g1 73 69 false (Jh
 72),o1 74 (.pick (.t 69) Jt (.t 73))] (Ji 74 (sr1 [Jw 2 Jf] .ret) .skip)))) (.reg [m1 26 3,o1 27 (Jc .add 26 1),m1 3 27])))))) (.seq (sr1 [Jk 5 0] (.block 2 (.loop (.seq (sr1 [m1 75 5,o1 76 (ao 1 1),o1 77 (lf 76 1),o1 78 (Jl 77),o1 79 (Jb .lss 75
 78)] (Ji 79 .skip (.exit 2))) (.seq (.block 3 (sr1 [o1 82 (ao 1 1),o1 83 (lf 82 1),m1 84 5,o1 85 (Jx 83 84 5),o1 86 (lt 85 5),o1 6 (.alloc Zyv 120),Js 6 86 5] (.seq (sr1 [o1 87 (ao 6 0),o1 88 (lf 87 1),o1 89 (ao 1 0),o1 90 (lf 89 1),o1 91 (Jl 90),o1
 92 (Jc .sub 91 1),o1 93 (.call 156 [.t 88,cn 0,.t 92]),o1 94 (Jh 93),m1 95 94,g1 96 95 false (ao 6 1),g1 97 95 false (lf 96 1),g1 98 95 false (ao 1 0),g1 99 95 false (lf 98 1),g1 100 95 false (Jl 99),g1 101 95 false (Jc .sub 100 1),g1 102 95 false
 (.call 156 [.t 97,cn 0,.t 101]),g1 103 95 false (Jh 102),o1 104 (.pick (.t 95) Jt (.t 103)),m1 105 104,g1 106 105 false (ao 6 0),g1 107 105 false (lf 106 1),g1 108 105 false (ao 6 1),g1 109 105 false (lf 108 1),g1 110 105 false (Jb .eql 107 109),o1
 111 (.pick (.t 105) Jt (.t 110)),m1 112 111,g1 113 112 false (ao 6 2),g1 114 112 false (lt 113 2),g1 115 112 false (.call 122 [.t 114,cn 1,cn 1000000]),g1 116 112 false (Jh 115),o1 117 (.pick (.t 112) Jt (.t 116)),m1 118 117,g1 119 118 false (ao 6
 4),g1 120 118 false (lf 119 1),g1 121 118 false (Jl 120),g1 122 118 false (Jc .gtr 121 6),o1 123 (.pick (.t 118) Jt (.t 122))] (Ji 123 (sr1 [Jw 2 Jf] .ret) .skip)) (sr1 [o1 7 (.mv (cn (-1)))] (sr1 [Jk 8 0] (.block 4 (.loop (.seq (sr1 [m1 124 8,o1 125
 (ao 6 4),o1 126 (lf 125 1),o1 127 (Jl 126),o1 128 (Jb .lss 124 127)] (Ji 128 .skip (.exit 4))) (.seq (.block 5 (sr1 [o1 131 (ao 6 4),o1 132 (lf 131 1),m1 133 8,o1 134 (Jx 132 133 4),o1 135 (lt 134 4),o1 9 (.alloc zv9 153),Js 9 135 4] (.seq (sr1 [o1
 136 (ao 9 0),o1 137 (lt 136 2),o1 138 (.call 122 [.t 137,cn 0,cn 100000]),o1 139 (Jh 138),m1 140 139,g1 141 140 false (ao 9 2),g1 142 140 false (lt 141 2),g1 143 140 false (.call 122 [.t 142,cn 0,cn 100000]),g1 144 140 false (Jh 143),o1 145 (.pick
 (.t 140) Jt (.t 144)),m1 146 145,g1 147 146 false (ao 9 0),g1 148 146 false (ao 147 0),g1 149 146 false (lf 148 1),g1 150 146 false (ao 9 2),g1 151 146 false (ao 150 1),g1 152 146 false (lf 151 1),g1 153 146 false (Jb .gtr 149 152),o1 154 (.pick (.t
 146) Jt (.t 153)),m1 155 154,g1 156 155 false (ao 9 0),g1 157 155 false (ao 156 0),g1 158 155 false (lf 157 1),g1 159 155 false (.mv (.t 7)),g1 160 155 false (Jb .leq 158 159),o1 161 (.pick (.t 155) Jt (.t 160))] (Ji 161 (sr1 [Jw 2 Jf] .ret) .skip))
 (.reg [o1 162 (ao 9 2),o1 163 (ao 162 1),o1 164 (lf 163 1),m1 7 164])))) (.reg [m1 129 8,o1 130 (Jc .add 129 1),m1 8 130])))))))))) (.reg [m1 80 5,o1 81 (Jc .add 80 1),m1 5 81])))))) (sr1 [Jw 2 Jt] .ret)))))
def r121:List RV:=[.tmp 2]
theorem t121:Qt1 Tryz.prog 121 c121 r121 165:=ZH Tryz.func121
def c156:SC:=(sr1 [Jw 6 Jf] (sr1 [m1 7 0,m1 8 1,o1 9 (Jb .geq 7 8),m1 10 9,g1 11 10 true (.mv (.t 0)),g1 12 10 true (.mv (.t 2)),g1 13 10 true (Jb .leq 11 12),o1 14 (.pick (.t 10) (.t 13) Jf),m1 6 14] .ret))
def r156:List RV:=[.tmp 6]
theorem t156:Qt1 Tryz.prog 156 c156 r156 15:=ZH Tryz.func156
def c132:SC:=(sr1 [Jw 4 Jf] (sr1 [m1 5 0,m1 6 1,o1 7 (J2 164 5 6),o1 8 (Jc .geq 7 0),m1 4 8] .ret))
def r132:List RV:=[.tmp 4]
theorem t132:Qt1 Tryz.prog 132 c132 r132 9:=ZH Tryz.func132
def c133:SC:=(sr1 [o1 1 (Jz 0 0 151),Jw 2 Jf] (sr1 [o1 3 (lt 1 9),o1 4 (J1 134 3),o1 5 (Jh 4),m1 2 5] .ret))
def r133:List RV:=[.tmp 2]
theorem t133:Qt1 Tryz.prog 133 c133 r133 6:=ZH Tryz.func133
def c134:SC:=(sr1 [o1 1 (Jz 0 0 151),Jw 2 Jf] (sr1 [o1 3 (ao 1 0),o1 4 (lf 3 1),o1 5 (ao 1 1),o1 6 (lf 5 1),o1 7 (.bsl 1 3 [.t 4,.t 6]),o1 8 (.call 57 [.c (.int .i64 (-10000000)),cn 10000000,.t 7]),m1 9 8,g1 10 9 true (ao 1 2),g1 11 9 true (lf 10
 1),g1 12 9 true (.bsl 1 3 [.t 11]),g1 13 9 true (.call 57 [cn 0,cn 200,.t 12]),o1 14 (.pick (.t 9) (.t 13) Jf),m1 15 14,g1 16 15 true (ao 1 3),g1 17 15 true (lt 16 2),g1 18 15 true (.bsl 2 27 [.t 17]),g1 19 15 true (.call 93 [cn 0,cn 10000000,.t
 18]),o1 20 (.pick (.t 15) (.t 19) Jf),m1 21 20,g1 22 21 true (ao 1 5),g1 23 21 true (lf 22 1),g1 24 21 true (.bsl 1 3 [.t 23]),g1 25 21 true (.call 57 [cn 0,cn 1000000000,.t 24]),o1 26 (.pick (.t 21) (.t 25) Jf),m1 27 26,g1 28 27 true (ao 1 5),g1 29
 27 true (lf 28 1),g1 30 27 true (ao 1 6),g1 31 27 true (lt 30 2),g1 32 27 true (.bsl 2 27 [.t 31]),g1 33 27 true (.call 93 [cn 0,.t 29,.t 32]),o1 34 (.pick (.t 27) (.t 33) Jf),m1 35 34,g1 36 35 true (ao 1 8),g1 37 35 true (lf 36 1),g1 38 35 true
 (.bsl 1 3 [.t 37]),g1 39 35 true (.call 57 [cn 0,cn 9999,.t 38]),o1 40 (.pick (.t 35) (.t 39) Jf),m1 2 40] .ret))
def r134:List RV:=[.tmp 2]
theorem t134:Qt1 Tryz.prog 134 c134 r134 41:=ZH Tryz.func134
def c135:SC:=(sr1 [Jw 4 Jf] (sr1 [m1 5 0,m1 6 1,o1 7 (J2 165 5 6),o1 8 (Jc .geq 7 0),m1 4 8] .ret))
def r135:List RV:=[.tmp 4]
theorem t135:Qt1 Tryz.prog 135 c135 r135 9:=ZH Tryz.func135
def c136:SC:=(sr1 [o1 2 (Jz 0 0 120),Jw 3 Jf] (sr1 [o1 4 (lt 2 5),o1 5 (ao 1 0),o1 6 (lf 5 1),o1 7 (Jl 6),o1 8 (J2 137 4 7),o1 9 (Jh 8),m1 3 9] .ret))
def r136:List RV:=[.tmp 3]
theorem t136:Qt1 Tryz.prog 136 c136 r136 10:=ZH Tryz.func136
def c137:SC:=(sr1 [o1 2 (Jz 0 0 120),Jw 4 Jf] (.seq (sr1 [m1 8 1,o1 9 (Jc .sub 8 1),o1 10 (ao 2 0),o1 11 (lf 10 1),o1 12 (ao 2 1),o1 13 (lf 12 1),o1 14 (.bsl 1 3 [.t 11,.t 13]),o1 15 (.call 57 [cn 0,.t 9,.t 14]),o1 16 (Jh 15),m1 17 16,g1 18 17 false
 (ao 2 0),g1 19 17 false (lf 18 1),g1 20 17 false (ao 2 1),g1 21 17 false (lf 20 1),g1 22 17 false (Jb .eql 19 21),o1 23 (.pick (.t 17) Jt (.t 22)),m1 24 23,g1 25 24 false (ao 2 2),g1 26 24 false (lt 25 2),g1 27 24 false (.bsl 2 27 [.t 26]),g1 28 24
 false (.call 93 [cn 1,cn 1000000,.t 27]),g1 29 24 false (Jh 28),o1 30 (.pick (.t 24) Jt (.t 29)),m1 31 30,g1 32 31 false (ao 2 4),g1 33 31 false (lf 32 1),g1 34 31 false (Jl 33),g1 35 31 false (Jc .gtr 34 6),o1 36 (.pick (.t 31) Jt (.t 35))] (Ji 36
 (sr1 [Jw 4 Jf] .ret) .skip)) (sr1 [Jk 5 0] (.seq (sr1 [o1 37 (ao 2 4),o1 38 (lf 37 1),o1 39 (Jl 38),Jk 40 0] (.block 0 (.loop (sr1 [o1 41 (Jb .lss 40 39)] (.seq (Ji 41 .skip (.exit 0)) (.seq (.block 1 (sr1 [o1 42 (Jx 38 40 4),o1 43 (lt 42 4),o1 7
 (.alloc zv9 153),Js 7 43 4] (.seq (sr1 [o1 44 (ao 7 0),o1 45 (lt 44 2),o1 46 (ao 7 2),o1 47 (lt 46 2),o1 48 (.bsl 2 27 [.t 45,.t 47]),o1 49 (.call 93 [cn 0,cn 100000,.t 48]),o1 50 (Jh 49),m1 51 50,g1 52 51 false (.mv (.t 5)),g1 53 51 false (ao 7
 2),g1 54 51 false (ao 53 1),g1 55 51 false (lf 54 1),g1 56 51 false (ao 7 0),g1 57 51 false (ao 56 0),g1 58 51 false (lf 57 1),g1 59 51 false (.bsl 1 3 [.t 58]),g1 60 51 false (J3 57 52 55 59),g1 61 51 false (Jh 60),o1 62 (.pick (.t 51) Jt (.t 61))]
 (Ji 62 (sr1 [Jw 4 Jf] .ret) .skip)) (.reg [o1 63 (ao 7 2),o1 64 (ao 63 1),o1 65 (lf 64 1),o1 66 (Jc .add 65 1),m1 5 66])))) (.reg [o1 67 (Jc .add 40 1),m1 40 67]))))))) (sr1 [Jw 4 Jt] .ret)))))
def r137:List RV:=[.tmp 4]
theorem t137:Qt1 Tryz.prog 137 c137 r137 68:=ZH Tryz.func137
def c84:SC:=(sr1 [Jw 4 Jf] (sr1 [m1 5 0,m1 6 1,o1 7 (J2 128 5 6),o1 8 (Jc .geq 7 0),m1 4 8] .ret))
def r84:List RV:=[.tmp 4]
theorem t84:Qt1 Tryz.prog 84 c84 r84 9:=ZH Tryz.func84
def c94:SC:=(sr1 [Jw 4 Jf] (sr1 [m1 5 0,o1 6 (lf 1 1),o1 7 (Jb .lss 5 6),m1 8 7,g1 9 8 false (.mv (.t 0)),g1 10 8 false (lf 2 1),g1 11 8 false (Jb .gtr 9 10),o1 12 (.pick (.t 8) Jt (.t 11)),m1 4 12] .ret))
def r94:List RV:=[.tmp 4]
theorem t94:Qt1 Tryz.prog 94 c94 r94 13:=ZH Tryz.func94
def c122:SC:=(sr1 [o1 3 (Jz 0 0 27),Jw 6 Jf] (sr1 [o1 7 (ao 3 0),o1 8 (lf 7 1),m1 9 1,o1 10 (ao 3 1),o1 11 (lf 10 1),o1 12 (J3 156 8 9 11),m1 13 12,g1 14 13 true (ao 3 1),g1 15 13 true (lf 14 1),g1 16 13 true (.mv (.t 2)),g1 17 13 true (Jb .leq 15
 16),o1 18 (.pick (.t 13) (.t 17) Jf),m1 6 18] .ret))
def r122:List RV:=[.tmp 6]
theorem t122:Qt1 Tryz.prog 122 c122 r122 19:=ZH Tryz.func122
def c93:SC:=(sr1 [o1 3 (Jz 0 0 3),o1 4 (Jz 1 0 3),Jw 6 Jf] (sr1 [m1 7 2,o1 8 (.mkf 138 [.t 3,.t 4]),o1 9 (J2 48 7 8),o1 10 (Jh 9),m1 6 10] .ret))
def r93:List RV:=[.tmp 6]
theorem t93:Qt1 Tryz.prog 93 c93 r93 11:=ZH Tryz.func93
def c164:SC:=(sr1 [Jk 4 0] (.seq (sr1 [m1 6 0,o1 7 (Jl 6),Jk 8 0] (.block 0 (.loop (sr1 [o1 9 (Jb .lss 8 7)] (.seq (Ji 9 .skip (.exit 0)) (.seq (.block 1 (sr1 [m1 10 8,m1 5 10] (sr1 [m1 11 1,m1 12 0,m1 13 5,o1 14 (Jx 12 13 9),o1 15 (lt 14 9),o1 16
 (.calv (.t 11) [.t 15])] (Ji 16 (sr1 [m1 17 5,m1 4 17] .ret) .skip)))) (.reg [o1 18 (Jc .add 8 1),m1 8 18]))))))) (sr1 [o1 4 (.mv (cn (-1)))] .ret)))
def r164:List RV:=[.tmp 4]
theorem t164:Qt1 Tryz.prog 164 c164 r164 19:=ZH Tryz.func164
def c165:SC:=(sr1 [Jk 4 0] (.seq (sr1 [m1 6 0,o1 7 (Jl 6),Jk 8 0] (.block 0 (.loop (sr1 [o1 9 (Jb .lss 8 7)] (.seq (Ji 9 .skip (.exit 0)) (.seq (.block 1 (sr1 [m1 10 8,m1 5 10] (sr1 [m1 11 1,m1 12 0,m1 13 5,o1 14 (Jx 12 13 5),o1 15 (lt 14 5),o1 16
 (.calv (.t 11) [.t 15])] (Ji 16 (sr1 [m1 17 5,m1 4 17] .ret) .skip)))) (.reg [o1 18 (Jc .add 8 1),m1 8 18]))))))) (sr1 [o1 4 (.mv (cn (-1)))] .ret)))
def r165:List RV:=[.tmp 4]
theorem t165:Qt1 Tryz.prog 165 c165 r165 19:=ZH Tryz.func165
def c128:SC:=(sr1 [Jk 4 0] (.seq (sr1 [m1 6 0,o1 7 (Jl 6),Jk 8 0] (.block 0 (.loop (sr1 [o1 9 (Jb .lss 8 7)] (.seq (Ji 9 .skip (.exit 0)) (.seq (.block 1 (sr1 [m1 10 8,m1 5 10] (sr1 [m1 11 1,m1 12 0,m1 13 5,o1 14 (Jx 12 13 1),o1 15 (lf 14 1),o1 16
 (.calv (.t 11) [.t 15])] (Ji 16 (sr1 [m1 17 5,m1 4 17] .ret) .skip)))) (.reg [o1 18 (Jc .add 8 1),m1 8 18]))))))) (sr1 [o1 4 (.mv (cn (-1)))] .ret)))
def r128:List RV:=[.tmp 4]
theorem t128:Qt1 Tryz.prog 128 c128 r128 19:=ZH Tryz.func128
def c48:SC:=(sr1 [Jw 4 Jf] (sr1 [m1 5 0,m1 6 1,o1 7 (J2 86 5 6),o1 8 (Jc .geq 7 0),m1 4 8] .ret))
def r48:List RV:=[.tmp 4]
theorem t48:Qt1 Tryz.prog 48 c48 r48 9:=ZH Tryz.func48
def c138:SC:=(sr1 [o1 3 (Jz 0 0 27),Jw 4 Jf] (sr1 [o1 5 (ao 3 0),o1 6 (lf 5 1),o1 7 (ao 3 1),o1 8 (lf 7 1),o1 9 (Jb .gtr 6 8),m1 10 9,g1 11 10 false (lf 1 1),g1 12 10 false (lf 2 1),g1 13 10 false (ao 3 0),g1 14 10 false (lf 13 1),g1 15 10 false (ao 3
 1),g1 16 10 false (lf 15 1),g1 17 10 false (.bsl 1 3 [.t 14,.t 16]),g1 18 10 false (J3 57 11 12 17),g1 19 10 false (Jh 18),o1 20 (.pick (.t 10) Jt (.t 19)),m1 4 20] .ret))
def r138:List RV:=[.tmp 4]
theorem t138:Qt1 Tryz.prog 138 c138 r138 21:=ZH Tryz.func138
def c86:SC:=(sr1 [Jk 4 0] (.seq (sr1 [m1 6 0,o1 7 (Jl 6),Jk 8 0] (.block 0 (.loop (sr1 [o1 9 (Jb .lss 8 7)] (.seq (Ji 9 .skip (.exit 0)) (.seq (.block 1 (sr1 [m1 10 8,m1 5 10] (sr1 [m1 11 1,m1 12 0,m1 13 5,o1 14 (Jx 12 13 2),o1 15 (lt 14 2),o1 16
 (.calv (.t 11) [.t 15])] (Ji 16 (sr1 [m1 17 5,m1 4 17] .ret) .skip)))) (.reg [o1 18 (Jc .add 8 1),m1 8 18]))))))) (sr1 [o1 4 (.mv (cn (-1)))] .ret)))
def r86:List RV:=[.tmp 4]
theorem t86:Qt1 Tryz.prog 86 c86 r86 19:=ZH Tryz.func86
def c73:SC:=(sr1 [o1 3 (Jz 0 0 25),o1 5 (Jz 2 0 27),o1 6 (.alloc zv0 27),Jk 7 0] (sr1 [o1 11 (lt 3 2),o1 12 (lt 5 2),o1 13 (J2 56 11 12),m1 10 13,o1 14 (Je 10 0),o1 15 (Je 10 1),o1 8 (.alloc ZoM 130),Js 8 14 4,m1 9 15] (.seq (.block 0 (sr1 [m1 17 9,o1
 18 (Jc .neq 17 0),m1 16 18] (Ji 16 (sr1 [o1 19 (.build zv0 []),m1 20 9,Js 6 19 2,m1 7 20] .ret) (sr1 [o1 22 (ao 3 1),o1 23 (lf 22 1),o1 24 (Jl 23),o1 25 (Jc .sub 24 1),m1 26 1,o1 27 (.bsl 1 3 [.t 26]),o1 28 (.call 57 [cn 0,.t 25,.t 27]),o1 29 (Jh
 28),m1 21 29] (Ji 21 (sr1 [o1 30 (.build zv0 []),Js 6 30 2,Jk 7 2] .ret) .skip))))) (sr1 [o1 31 (lt 8 4),m1 32 1,o1 33 (J2 97 31 32),o1 34 (J1 117 33),Js 6 34 2,Jk 7 0] .ret))))
def r73:List RV:=[.cell 6 2 true,.tmp 7]
theorem t73:Qt1 Tryz.prog 73 c73 r73 35:=ZH Tryz.func73
def c76:SC:=(sr1 [o1 1 (Jz 0 0 25),Jk 2 0] (.seq (sr1 [o1 3 (lt 1 2),o1 4 (J1 121 3),o1 5 (Jh 4)] (Ji 5 (sr1 [Jk 2 30] .ret) .skip)) (sr1 [Jk 2 0] .ret)))
def r76:List RV:=[.tmp 2]
theorem t76:Qt1 Tryz.prog 76 c76 r76 6:=ZH Tryz.func76
def c56:SC:=(sr1 [o1 2 (Jz 0 0 25),o1 3 (Jz 1 0 27),o1 4 (.alloc ZoM 130),Jk 5 0] (.seq (sr1 [o1 7 (lt 2 2),o1 8 (J1 92 7),m1 6 8] (sr1 [m1 9 6,o1 10 (Jc .neq 9 0)] (Ji 10 (sr1 [o1 11 (.build ZoM []),m1 12 6,Js 4 11 4,m1 5 12] .ret) .skip))) (.seq
 (sr1 [o1 13 (lt 3 2),o1 14 (.bsl 2 27 [.t 13]),o1 15 (.call 93 [cn 1,cn 100000,.t 14]),o1 16 (Jh 15)] (Ji 16 (sr1 [o1 17 (.build ZoM []),Js 4 17 4,Jk 5 31] .ret) .skip)) (sr1 [o1 18 (lt 2 2),o1 19 (lt 3 2),o1 20 (.build ZoM [(0,2,.t 18),(2,2,.t
 19)]),Js 4 20 4,Jk 5 0] .ret))))
def r56:List RV:=[.cell 4 4 true,.tmp 5]
theorem t56:Qt1 Tryz.prog 56 c56 r56 21:=ZH Tryz.func56
def c97:SC:=(sr1 [o1 2 (Jz 0 0 130),o1 4 (.alloc zv0 141)] (sr1 [o1 6 (ao 2 0),o1 7 (ao 6 1),o1 8 (lf 7 1),m1 9 1,o1 10 (Jx 8 9 5),o1 11 (ao 10 2),o1 12 (lt 11 2),o1 5 (.alloc zv0 27),Js 5 12 2] (.seq (.regd (Jr 24) [Jo 13 (ao 5 0),Jp 14 (lf 13 1)
 [0],Jo 15 (ao 2 2),Jp 16 (ao 15 1) [2],Jp 17 (lf 16 1) [3],Jp 18 (Jb .add 14 17) [1,4],Jp 19 (Jc .sub 18 1) [5],Jo 20 (ao 2 2),Jp 21 (ao 20 1) [7],Jp 22 (lf 21 1) [8],Jp 23 (.div .quo (.t 19) (.t 22)) [6,9],Jo 24 (ao 5 1),Jp 25 (lf 24 1) [11],Jo 26
 (ao 2 2),Jp 27 (ao 26 0) [13],Jp 28 (lf 27 1) [14],Jp 29 (Jb .add 25 28) [12,15],Jp 30 (Jc .sub 29 1) [16],Jo 31 (ao 2 2),Jp 32 (ao 31 0) [18],Jp 33 (lf 32 1) [19],Jp 34 (.div .quo (.t 30) (.t 33)) [17,20],Jp 35 (.build zv0 [(0,1,.t 23),(1,1,.t 34)])
 [10,21]] 0 1 [Ju 4 35 2 (Jr 23)]) .ret)))
def r97:List RV:=[.cell 4 2 true]
theorem t97:Qt1 Tryz.prog 97 c97 r97 36:=ZH Tryz.func97
def c117:SC:=(sr1 [o1 1 (Jz 0 0 141),o1 2 (.alloc zv0 27)] (sr1 [o1 3 (.ixa (.t 1) (cn 0) 2 1),o1 4 (lf 3 1),o1 5 (.ixa (.t 1) (cn 1) 2 1),o1 6 (lf 5 1),o1 7 (.build zv0 [(0,1,.t 4),(1,1,.t 6)]),Js 2 7 2] .ret))
def r117:List RV:=[.cell 2 2 true]
theorem t117:Qt1 Tryz.prog 117 c117 r117 8:=ZH Tryz.func117
def c96:SC:=(sr1 [o1 3 (Jz 0 0 130),o1 5 (Jz 2 0 141),o1 6 (.alloc zv0 141)] (sr1 [o1 15 (lt 3 4),m1 16 1,o1 17 (J2 97 15 16),o1 7 (.alloc zv0 141),Js 7 17 2] (sr1 [o1 18 (.build zv0 [(0,1,.c (.int .i64 100001)),(1,1,.c (.int .i64 100001))]),o1 8
 (.alloc zv0 141),Js 8 18 2] (.seq (sr1 [o1 19 (ao 3 0),o1 20 (ao 19 1),o1 21 (lf 20 1),m1 22 1,o1 23 (Jx 21 22 5),o1 24 (ao 23 4),o1 25 (lf 24 1),o1 26 (Jl 25),Jk 27 0] (.block 0 (.loop (sr1 [o1 28 (Jb .lss 27 26)] (.seq (Ji 28 .skip (.exit 0)) (.seq
 (.block 1 (sr1 [o1 29 (Jx 25 27 4),o1 30 (lt 29 4),o1 10 (.alloc zv9 153),Js 10 30 4] (.seq (.regd (Jr 18) [Jo 31 (ao 10 0),Jp 32 (ao 31 0) [0],Jp 33 (lf 32 1) [1],Jo 34 (ao 10 0),Jp 35 (ao 34 1) [3],Jp 36 (lf 35 1) [4],Jp 37 (.build zv0 [(0,1,.t
 33),(1,1,.t 36)]) [2,5],Jo 38 (ao 10 2),Jp 39 (ao 38 1) [7],Jp 40 (lf 39 1) [8],Jo 41 (ao 10 2),Jp 42 (ao 41 0) [10],Jp 43 (lf 42 1) [11],Jp 44 (.build zv0 [(0,1,.t 40),(1,1,.t 43)]) [9,12]] 2 2 [o1 11 (.alloc zv0 141),o1 12 (.alloc zv0 141),Ju 11 37
 2 [0,1,2,3,4,5,6,14,15],Ju 12 44 2 (Jr 17)]) (sr1 [Jk 45 0] (.block 2 (.loop (sr1 [o1 46 (Jc .lss 45 2)] (.seq (Ji 46 .skip (.exit 2)) (.seq (.block 3 (sr1 [m1 47 45,m1 13 47] (.seq (.regd (Jr 8) [Jm 48 13,Jp 49 (.ixa (.t 5) (.t 48) 2 1) [0],Jp 50
 (lf 49 1) [1],Jm 51 13,Jp 52 (.ixa (.t 11) (.t 51) 2 1) [3],Jp 53 (lf 52 1) [4],Jp 54 (.mm true [.t 50,.t 53]) [2,5],Jp 14 (.mv (.t 54)) (Jr 7)] 0 0 []) (.seq (.regd (Jr 10) [Jm 55 14,Jm 56 13,Jp 57 (.ixa (.t 7) (.t 56) 2 1) [1],Jp 58 (lf 57 1)
 [2],Jp 59 (Jb .add 55 58) [0,3],Jp 60 (Jc .sub 59 1) [4],Jm 61 13,Jp 62 (.ixa (.t 12) (.t 61) 2 1) [6],Jp 63 (lf 62 1) [7],Jp 64 (Jb .leq 60 63) [5,8]] 0 0 []) (Ji 64 (.reg [m1 65 13,m1 66 13,o1 67 (.ixa (.t 8) (.t 66) 2 1),o1 68 (lf 67 1),m1 69
 14,o1 70 (.bsl 1 3 [.t 68,.t 69]),o1 71 (J1 98 70),o1 72 (.ixa (.t 8) (.t 65) 2 1),Js 72 71 1]) .skip))))) (.reg [o1 73 (Jc .add 45 1),m1 45 73])))))))))) (.reg [o1 74 (Jc .add 27 1),m1 27 74]))))))) (sr1 [o1 75 (lt 8 2),Js 6 75 2] .ret)))))
def r96:List RV:=[.cell 6 2 true]
theorem t96:Qt1 Tryz.prog 96 c96 r96 76:=ZH Tryz.func96
def c77:SC:=(sr1 [o1 1 (Jz 0 0 27),Jw 2 Jf] (sr1 [o1 3 (lt 1 2),o1 4 (.call 122 [.t 3,cn 1,cn 100000]),m1 2 4] .ret))
def r77:List RV:=[.tmp 2]
theorem t77:Qt1 Tryz.prog 77 c77 r77 5:=ZH Tryz.func77
def c98:SC:=(sr1 [Jk 2 0] (sr1 [m1 3 0,o1 4 (.bsl 1 3 [cn 100001]),o1 5 (.app 1 8 3 (.t 3) (.t 4)),o1 6 (J1 47 5),m1 2 6] .ret))
def r98:List RV:=[.tmp 2]
theorem t98:Qt1 Tryz.prog 98 c98 r98 7:=ZH Tryz.func98
def c47:SC:=(sr1 [Jk 2 0] (.seq (sr1 [m1 5 0,o1 6 (Jl 5),o1 7 (Jc .lss 6 1)] (Ji 7 (.reg [o1 8 (.raw (Go.Op.makeInterface 9 (Go.Operand.const (Go.Value.string { data:=#[115,108,105,99,101,115,46,77,105,110,58,32,101,109,112,116,121,32,108,105,115,116] })))
 20),⟨none,.raw (Go.Op.panic (Go.Operand.tmp 8)) 0,none,[]⟩]) .skip)) (sr1 [m1 9 0,o1 10 (.ixs (.t 9) (cn 0) 1),o1 11 (lf 10 1),m1 3 11] (.seq (sr1 [Jk 4 1] (.block 0 (.loop (.seq (sr1 [m1 12 4,m1 13 0,o1 14 (Jl 13),o1 15 (Jb .lss 12 14)] (Ji 15 .skip
 (.exit 0))) (.seq (.block 1 (.reg [m1 18 3,m1 19 0,m1 20 4,o1 21 (Jx 19 20 1),o1 22 (lf 21 1),o1 23 (.mm false [.t 18,.t 22]),m1 3 23])) (.reg [m1 16 4,o1 17 (Jc .add 16 1),m1 4 17])))))) (sr1 [m1 24 3,m1 2 24] .ret)))))
def r47:List RV:=[.tmp 2]
theorem t47:Qt1 Tryz.prog 47 c47 r47 25:=ZH Tryz.func47
end Go.Proofs.YtongccnhomncnaaGreat
namespace Go.Azalai
structure Span where
 lo:Int
 hi:Int
deriving DecidableEq
structure Well where
 x:Int
 y:Int
 depth:Int
 yld:Span
 room:Int
 has:Span
 owner:Int
deriving DecidableEq
structure Gate where
 opens:Span
 shuts:Span
deriving DecidableEq
structure Leg where
 a:Int
 b:Int
 long:Span
 gates:List Gate
deriving DecidableEq
structure Land where
 wells:List Well
 legs:List Leg
deriving DecidableEq
structure Draw where
 well:Int
 day:Int
 water:Int
deriving DecidableEq
def inR (lo hi n:Int):Bool:=decide (lo<=n/\n<=hi)
def ZX (lo hi:Int) (s:Span):Bool:=decide (lo<=s.lo/\s.lo<=s.hi/\s.hi<=hi)
def YL (w:Well):Bool :=
 inR (-10000000) 10000000 w.x && inR (-10000000) 10000000 w.y && inR 0 200 w.depth && ZX 0 10000000 w.yld && inR 0 1000000000 w.room && ZX 0 w.room w.has && inR 0 9999 w.owner
def YD (next:Int):List Gate->Bool
 | []=>true
 | g :: r=>ZX 0 100000 g.opens && ZX 0 100000 g.shuts && inR next g.shuts.hi g.opens.lo && YD (g.shuts.hi+1) r
def Ww (n:Int) (x:Leg):Bool :=
 inR 0 (n - 1) x.a && inR 0 (n - 1) x.b && x.a != x.b && ZX 1 1000000 x.long && decide (x.gates.length<=6) && YD 0 x.gates
def Z1 (l:Land):Bool :=
 inR 1 12 l.wells.length && decide (l.legs.length<=24) && l.wells.all YL && l.legs.all (Ww l.wells.length)
def Xv {α : Type} (g:α->Bool):List α->Nat->Int
 | [],_=>-1
 | x :: l,k=>if g x then k else Xv g l (k+1)
theorem Zfg {α : Type} (g:α->Bool):∀ (l:List α) (k:Nat),decide (Xv g l k ≥ 0)=l.any g
 | [],k=>by simp [Xv]
 | x :: l,k=>by
  simp only [Xv,List.any_cons];by_cases hg:g x=true
  . simp [hg]
  . simpa [hg] using Zfg g l (k+1)
def Wf (w:Well) (has:Span) (days:Int):Span:=⟨min w.room (has.lo+days * w.yld.lo),min w.room (has.hi+days * w.yld.hi)⟩
def W0 (n last:Int):List Draw->Bool
 | []=>true
 | x :: r=>inR 0 (n - 1) x.well && inR last 100000 x.day && inR 0 1000000000 x.water && W0 n x.day r
def V2 (w:Well) (well day:Int) (now:Span) (evening:Int) (i:Nat):List Draw->Span × Int × Int
 | []=>(Wf w now (day - 1 - evening),0,0)
 | x :: r =>
  if (x.well != well || decide (x.day ≥ day))=true then V2 w well day now evening (i+1) r
  else
   let f:=Wf w now (x.day - evening)
   if f.hi < x.water then (⟨0,0⟩,i,33) else V2 w well day ⟨max 0 (f.lo - x.water),f.hi - x.water⟩ x.day (i+1) r
def WJ (l:Land) (well:Int) (draws:List Draw) (day:Int):Span × Int × Int :=
 if Z1 l=false then (⟨0,0⟩,0,30)
 else if (inR 0 (l.wells.length - 1) well && inR 0 100000 day)=false then (⟨0,0⟩,0,2)
 else if draws.length > 200 then (⟨0,0⟩,0,4)
 else if W0 l.wells.length 0 draws=false then (⟨0,0⟩,0,32)
 else match l.wells[well.toNat]? with
  | some w=>V2 w well day w.has (-1) 0 draws
  | none=>(⟨0,0⟩,0,0)
def WT (l:Land):Prop:=l.wells.length<=1000/\l.legs.length<=1000/\∀ x ∈ l.legs,x.gates.length<=1000
def Zbr (l:Land):Bool:=decide (l.wells.length > 20) || decide (l.legs.length > 40) || l.legs.any λx=>decide (x.gates.length > 20)
theorem ZfS {l:Land} (h:Z1 l=true):∀ w ∈ l.wells,YL w=true:=by
 simp only [Z1,Bool.and_eq_true,List.all_eq_true] at h;exact h.1.2
theorem U1 {l:Land} (h:Z1 l=true):1<=l.wells.length/\l.wells.length<=12/\l.legs.length<=24:=by
 simp only [Z1,Bool.and_eq_true,inR,decide_eq_true_eq] at h;omega
theorem Zbl {n:Int}:∀ {l:List Draw} {last:Int},W0 n last l=true->0<=last->∀ x ∈ l,0<=x.day/\x.day<=100000/\0<=x.water/\x.water<=1000000000
 | [],_,_,_,x,h=>by simp at h
 | y :: l,last,h,h0,x,hx=>by
  simp only [W0,Bool.and_eq_true,inR,decide_eq_true_eq] at h;rcases List.mem_cons.1 hx with rfl | hx
  . omega
  . exact Zbl h.2 (by omega) x hx
end Go.Azalai
namespace Go.Proofs.YtongccnhomncnaaGreat
open Go Go.Sx Go.Azalai
def Zq (n:Int):List SV:=[I n]
def Ze (s:Span):List SV:=[I s.lo,I s.hi]
def Zi (g:Gate):List SV:=[I g.opens.lo,I g.opens.hi,I g.shuts.lo,I g.shuts.hi]
def Zh (w:Well):List SV:=[I w.x,I w.y,I w.depth,I w.yld.lo,I w.yld.hi,I w.room,I w.has.lo,I w.has.hi,I w.owner]
def Zn (x:Leg):List SV:=[I x.a,I x.b,I x.long.lo,I x.long.hi,.sl false 4 (x.gates.map Zi)]
def Ye (l:Land):List SV:=[.sl false 9 (l.wells.map Zh),.sl false 5 (l.legs.map Zn)]
def Ym (d:Draw):List SV:=[I d.well,I d.day,I d.water]
theorem XL {α : Type} (g:α->Bool) (l:List α):decide (Xv g l 0 ≥ 0)=l.any g:=Zfg g l 0
theorem Zk1 (h:Nat) (caps:List SV) (hk:KFL caps) (g:Int->Bool) (l:List Int) (hg:∀ x ∈ l,Ct Tryz.prog h (I x :: caps) (B (g x))) (hl:l.length < 4611686018427387904) {c:Bool} :
 Ct Tryz.prog 128 [.sl c 1 (l.map Zq),.cl h caps] (I (Xv g l 0)):=by
 refine t128.1 ⟨by simp [KF,Za,KFL,Zq],hk,trivial⟩ (by simp [KF]) ?_;dsimp only [c128,r128,go_sem];refine YF (λk:Nat=>[(8,I k)]) (λ_=>[]) (λk=>k<=l.length/\Xv g (l.drop k) k=Xv g l 0) (λk=>l.length - k) 0 ⟨Nat.zero_le _,rfl⟩ ?_ ?_
 . (refine Zj ?_ ?_ ?_ rfl rfl<;>dsimp only [Zq,hk,id,go_sem]<;>simp [Zq,hk,Za])
 . intro k ⟨hk',hi⟩;dsimp only [go_sem];refine br ?_ ?_
   . intro hlt;have hlt:k < l.length:=by simpa using hlt
     dsimp only [go_sem];refine Zp k hlt rfl ?_;dsimp only [Zq,go_sem];refine call (hg l[k] (List.getElem_mem _)) ?_;dsimp only [go_sem];refine br ?_ ?_
     . intro hgx;dsimp only [go_sem];rw [<- hi,List.drop_eq_getElem_cons hlt];simp [Xv,hgx]
     . intro hgx;dsimp only [go_sem];refine ⟨k+1,⟨by omega,?_⟩,by omega,?_⟩
       . rw [<- hi,List.drop_eq_getElem_cons hlt];simp [Xv,hgx]
       . rw [Zg (by omega) (by omega)];(refine Zj ?_ ?_ ?_ rfl rfl<;>dsimp only [Zq,hk,id,go_sem]<;>simp [Zq,hk,Za])
   . intro hlt;have hlt:k=l.length:=by simp at hlt;omega
     dsimp only [go_sem];rw [<- hi,hlt];simp [Xv]
theorem Zpw (h:Nat) (caps:List SV) (hk:KFL caps) (g:Int->Bool) (l:List Int) (hg:∀ x ∈ l,Ct Tryz.prog h (I x :: caps) (B (g x))) (hl:l.length < 4611686018427387904) {c:Bool} :
 Ct Tryz.prog 84 [.sl c 1 (l.map Zq),.cl h caps] (B (l.any g)):=by
 refine t84.1 ⟨by simp [KF,Za,KFL,Zq],hk,trivial⟩ (by simp [KF]) ?_;dsimp only [c84,r84,go_sem];refine call (Zk1 h caps hk g l hg hl) ?_;dsimp only [go_sem];rw [XL]
theorem idx95 (h:Nat) (caps:List SV) (hk:KFL caps) (g:Well->Bool) (l:List Well) (hg:∀ x ∈ l,Ct Tryz.prog h (.agg (Zh x) :: caps) (B (g x))) (hl:l.length < 4611686018427387904) {c:Bool} :
 Ct Tryz.prog 164 [.sl c 9 (l.map Zh),.cl h caps] (I (Xv g l 0)):=by
 refine t164.1 ⟨by simp [KF,Za,KFL,Zh],hk,trivial⟩ (by simp [KF]) ?_;dsimp only [c164,r164,go_sem];refine YF (λk:Nat=>[(8,I k)]) (λ_=>[]) (λk=>k<=l.length/\Xv g (l.drop k) k=Xv g l 0) (λk=>l.length - k) 0 ⟨Nat.zero_le _,rfl⟩ ?_ ?_
 . (refine Zj ?_ ?_ ?_ rfl rfl<;>dsimp only [Zh,hk,id,go_sem]<;>simp [Zh,hk,Za])
 . intro k ⟨hk',hi⟩;dsimp only [go_sem];refine br ?_ ?_
   . intro hlt;have hlt:k < l.length:=by simpa using hlt
     dsimp only [go_sem];refine Zp k hlt rfl ?_;dsimp only [Zh,go_sem];refine call (hg l[k] (List.getElem_mem _)) ?_;dsimp only [go_sem];refine br ?_ ?_
     . intro hgx;dsimp only [go_sem];rw [<- hi,List.drop_eq_getElem_cons hlt];simp [Xv,hgx]
     . intro hgx;dsimp only [go_sem];refine ⟨k+1,⟨by omega,?_⟩,by omega,?_⟩
       . rw [<- hi,List.drop_eq_getElem_cons hlt];simp [Xv,hgx]
       . rw [Zg (by omega) (by omega)];(refine Zj ?_ ?_ ?_ rfl rfl<;>dsimp only [Zh,hk,id,go_sem]<;>simp [Zh,hk,Za])
   . intro hlt;have hlt:k=l.length:=by simp at hlt;omega
     dsimp only [go_sem];rw [<- hi,hlt];simp [Xv]
theorem con71 (h:Nat) (caps:List SV) (hk:KFL caps) (g:Well->Bool) (l:List Well) (hg:∀ x ∈ l,Ct Tryz.prog h (.agg (Zh x) :: caps) (B (g x))) (hl:l.length < 4611686018427387904) {c:Bool} :
 Ct Tryz.prog 132 [.sl c 9 (l.map Zh),.cl h caps] (B (l.any g)):=by
 refine t132.1 ⟨by simp [KF,Za,KFL,Zh],hk,trivial⟩ (by simp [KF]) ?_;dsimp only [c132,r132,go_sem];refine call (idx95 h caps hk g l hg hl) ?_;dsimp only [go_sem];rw [XL]
theorem idx96 (h:Nat) (caps:List SV) (hk:KFL caps) (g:Leg->Bool) (l:List Leg) (hg:∀ x ∈ l,Ct Tryz.prog h (.agg (Zn x) :: caps) (B (g x))) (hl:l.length < 4611686018427387904) {c:Bool} :
 Ct Tryz.prog 165 [.sl c 5 (l.map Zn),.cl h caps] (I (Xv g l 0)):=by
 refine t165.1 ⟨by simp [KF,Za,KFL,Zn,Zi],hk,trivial⟩ (by simp [KF]) ?_;dsimp only [c165,r165,go_sem];refine YF (λk:Nat=>[(8,I k)]) (λ_=>[]) (λk=>k<=l.length/\Xv g (l.drop k) k=Xv g l 0) (λk=>l.length - k) 0 ⟨Nat.zero_le _,rfl⟩ ?_ ?_
 . (refine Zj ?_ ?_ ?_ rfl rfl<;>dsimp only [Zn,Zi,hk,id,go_sem]<;>simp [Zn,Zi,hk,Za])
 . intro k ⟨hk',hi⟩;dsimp only [go_sem];refine br ?_ ?_
   . intro hlt;have hlt:k < l.length:=by simpa using hlt
     dsimp only [go_sem];refine Zp k hlt rfl ?_;dsimp only [Zn,go_sem];refine call (hg l[k] (List.getElem_mem _)) ?_;dsimp only [go_sem];refine br ?_ ?_
     . intro hgx;dsimp only [go_sem];rw [<- hi,List.drop_eq_getElem_cons hlt];simp [Xv,hgx]
     . intro hgx;dsimp only [go_sem];refine ⟨k+1,⟨by omega,?_⟩,by omega,?_⟩
       . rw [<- hi,List.drop_eq_getElem_cons hlt];simp [Xv,hgx]
       . rw [Zg (by omega) (by omega)];(refine Zj ?_ ?_ ?_ rfl rfl<;>dsimp only [Zn,Zi,hk,id,go_sem]<;>simp [Zn,Zi,hk,Za])
   . intro hlt;have hlt:k=l.length:=by simp at hlt;omega
     dsimp only [go_sem];rw [<- hi,hlt];simp [Xv]
theorem con74 (h:Nat) (caps:List SV) (hk:KFL caps) (g:Leg->Bool) (l:List Leg) (hg:∀ x ∈ l,Ct Tryz.prog h (.agg (Zn x) :: caps) (B (g x))) (hl:l.length < 4611686018427387904) {c:Bool} :
 Ct Tryz.prog 135 [.sl c 5 (l.map Zn),.cl h caps] (B (l.any g)):=by
 refine t135.1 ⟨by simp [KF,Za,KFL,Zn,Zi],hk,trivial⟩ (by simp [KF]) ?_;dsimp only [c135,r135,go_sem];refine call (idx96 h caps hk g l hg hl) ?_;dsimp only [go_sem];rw [XL]
theorem ZAW (h:Nat) (caps:List SV) (hk:KFL caps) (g:Span->Bool) (l:List Span) (hg:∀ x ∈ l,Ct Tryz.prog h (.agg (Ze x) :: caps) (B (g x))) (hl:l.length < 4611686018427387904) {c:Bool} :
 Ct Tryz.prog 86 [.sl c 2 (l.map Ze),.cl h caps] (I (Xv g l 0)):=by
 refine t86.1 ⟨by simp [KF,Za,KFL,Ze],hk,trivial⟩ (by simp [KF]) ?_;dsimp only [c86,r86,go_sem];refine YF (λk:Nat=>[(8,I k)]) (λ_=>[]) (λk=>k<=l.length/\Xv g (l.drop k) k=Xv g l 0) (λk=>l.length - k) 0 ⟨Nat.zero_le _,rfl⟩ ?_ ?_
 . (refine Zj ?_ ?_ ?_ rfl rfl<;>dsimp only [Ze,hk,id,go_sem]<;>simp [Ze,hk,Za])
 . intro k ⟨hk',hi⟩;dsimp only [go_sem];refine br ?_ ?_
   . intro hlt;have hlt:k < l.length:=by simpa using hlt
     dsimp only [go_sem];refine Zp k hlt rfl ?_;dsimp only [Ze,go_sem];refine call (hg l[k] (List.getElem_mem _)) ?_;dsimp only [go_sem];refine br ?_ ?_
     . intro hgx;dsimp only [go_sem];rw [<- hi,List.drop_eq_getElem_cons hlt];simp [Xv,hgx]
     . intro hgx;dsimp only [go_sem];refine ⟨k+1,⟨by omega,?_⟩,by omega,?_⟩
       . rw [<- hi,List.drop_eq_getElem_cons hlt];simp [Xv,hgx]
       . rw [Zg (by omega) (by omega)];(refine Zj ?_ ?_ ?_ rfl rfl<;>dsimp only [Ze,hk,id,go_sem]<;>simp [Ze,hk,Za])
   . intro hlt;have hlt:k=l.length:=by simp at hlt;omega
     dsimp only [go_sem];rw [<- hi,hlt];simp [Xv]
theorem ZgD (h:Nat) (caps:List SV) (hk:KFL caps) (g:Span->Bool) (l:List Span) (hg:∀ x ∈ l,Ct Tryz.prog h (.agg (Ze x) :: caps) (B (g x))) (hl:l.length < 4611686018427387904) {c:Bool} :
 Ct Tryz.prog 48 [.sl c 2 (l.map Ze),.cl h caps] (B (l.any g)):=by
 refine t48.1 ⟨by simp [KF,Za,KFL,Ze],hk,trivial⟩ (by simp [KF]) ?_;dsimp only [c48,r48,go_sem];refine call (ZAW h caps hk g l hg hl) ?_;dsimp only [go_sem];rw [XL]
theorem XY (n lo hi:Int):Ct Tryz.prog 156 [I n,I lo,I hi] (B (inR lo hi n)):=by
 refine t156.1 (by simp) (by simp) ?_;dsimp only [c156,r156,go_sem];refine gb ?_;dsimp only [go_sem];refine gb ?_;dsimp only [go_sem];refine gb ?_;dsimp only [go_sem];simp [inR]
theorem ZV (s:Span) (lo hi:Int):Ct Tryz.prog 122 [.agg (Ze s),I lo,I hi] (B (ZX lo hi s)):=by
 refine t122.1 (by simp [Ze]) (by simp) ?_;dsimp only [c122,r122,Ze,go_sem];refine call (XY _ _ _) ?_;dsimp only [go_sem];repeat (refine gb ?_;dsimp only [go_sem])
 (simp only [ZX,inR,Option.some.injEq,SV.v.injEq,Value.bool.injEq]<;>grind)
theorem Zdg (lo hi x:Int):Ct Tryz.prog 94 [I x,.ps [I lo] 0,.ps [I hi] 0] (B (!inR lo hi x)):=by
 refine t94.1 (by simp) (by simp) ?_;dsimp only [c94,r94,go_sem];repeat (refine gb ?_;dsimp only [go_sem])
 (simp only [inR,Option.some.injEq,SV.v.injEq,Value.bool.injEq]<;>grind)
theorem UO (lo hi:Int) (l:List Int) (hl:l.length < 4611686018427387904) (c:Bool):Ct Tryz.prog 57 [I lo,I hi,.sl c 1 (l.map Zq)] (B (l.all (inR lo hi))):=by
 refine t57.1 (by simp [Za,Zq]) (by simp) ?_;dsimp only [c57,r57,go_sem];refine Vi (by simp [FLT]) (res:=B (l.any λx=>!inR lo hi x)) ?_ ?_
 . dsimp only [go_sem];exact Zpw 94 [.ps [I lo] 0,.ps [I hi] 0] (by simp) (λx=>!inR lo hi x) l (λx _=>Zdg lo hi x) hl
 . dsimp only [go_sem];simp [List.all_eq_not_any_not]
theorem Zaa (lo hi a:Int) (c:Bool):Ct Tryz.prog 57 [I lo,I hi,.sl c 1 [[I a]]] (B (inR lo hi a)):=by
 have:=UO lo hi [a] (by simp) c;simpa [Zq] using this
theorem ZdY (lo hi a b:Int) (c:Bool):Ct Tryz.prog 57 [I lo,I hi,.sl c 1 [[I a],[I b]]] (B (inR lo hi a && inR lo hi b)):=by
 have:=UO lo hi [a,b] (by simp) c;simpa [Zq] using this
theorem V6 (lo hi:Int) (s:Span):Ct Tryz.prog 138 [.agg (Ze s),.ps [I lo] 0,.ps [I hi] 0] (B (!ZX lo hi s)):=by
 refine t138.1 (by simp [Ze]) (by simp) ?_;dsimp only [c138,r138,Ze,go_sem];repeat (first | (refine gb ?_;dsimp only [go_sem]) | (refine call (ZdY _ _ _ _ _) ?_;dsimp only [go_sem]))
 (simp only [ZX,inR,Option.some.injEq,SV.v.injEq,Value.bool.injEq]<;>grind)
theorem Xq (lo hi:Int) (l:List Span) (hl:l.length < 4611686018427387904) (c:Bool):Ct Tryz.prog 93 [I lo,I hi,.sl c 2 (l.map Ze)] (B (l.all (ZX lo hi))):=by
 refine t93.1 (by simp [Za,Ze]) (by simp) ?_;dsimp only [c93,r93,go_sem];refine Vi (by simp [FLT]) (res:=B (l.any λx=>!ZX lo hi x)) ?_ ?_
 . dsimp only [go_sem];exact ZgD 138 [.ps [I lo] 0,.ps [I hi] 0] (by simp) (λx=>!ZX lo hi x) l (λx _=>V6 lo hi x) hl
 . dsimp only [go_sem];simp [List.all_eq_not_any_not]
theorem Y8 (lo hi:Int) (s:Span) (c:Bool):Ct Tryz.prog 93 [I lo,I hi,.sl c 2 [[I s.lo,I s.hi]]] (B (ZX lo hi s)):=by
 have:=Xq lo hi [s] (by simp) c;simpa [Ze] using this
theorem ZcY (lo hi:Int) (s t:Span) (c:Bool):Ct Tryz.prog 93 [I lo,I hi,.sl c 2 [[I s.lo,I s.hi],[I t.lo,I t.hi]]] (B (ZX lo hi s && ZX lo hi t)):=by
 have:=Xq lo hi [s,t] (by simp) c;simpa [Ze] using this
theorem ZAM (w:Well):Ct Tryz.prog 134 [.agg (Zh w)] (B (YL w)):=by
 refine t134.1 (by simp [Zh]) (by simp) ?_;dsimp only [c134,r134,Zh,go_sem];repeat (first | (refine gb ?_;dsimp only [go_sem]) | (refine call (Zaa _ _ _ _) ?_;dsimp only [go_sem]) | (refine call (ZdY _ _ _ _ _) ?_;dsimp only [go_sem]) | (refine call (Y8 _ _ w.yld _) ?_;dsimp only [go_sem]) | (refine call (Y8 _ _ w.has _) ?_;dsimp only [go_sem]))
 simp [YL,Bool.and_assoc]
theorem Zhv (x:Leg) (n:Int) (h0:0<=n) (h1:n<=1000) (hg:x.gates.length < 4611686018427387904):Ct Tryz.prog 137 [.agg (Zn x),I n] (B (Ww n x)):=by
 have hw:IntKind.i64.wrap (n - 1)=n - 1:=Zg (by omega) (by omega);refine t137.1 (by simp [Zn,Za,Zi]) (by simp) ?_;dsimp only [c137,r137,Zn,hw,go_sem];simp only [hw];repeat (first | (refine gb ?_;dsimp only [go_sem]) | (refine call (ZdY _ _ _ _ _) ?_;dsimp only [go_sem]) | (refine call (Y8 _ _ x.long _) ?_;dsimp only [go_sem]))
 simp only [List.length_map];refine br ?_ ?_
 . intro h;dsimp only [go_sem]
   (simp only [Ww,Option.some.injEq,SV.v.injEq,Value.bool.injEq]<;>grind)
 . intro h;dsimp only [go_sem];have hh:Ww n x=YD 0 x.gates:=by simp only [Ww];grind
   rw [hh];refine YF (λs:Nat × Int=>[(40,I s.1),(5,I s.2)]) (λ_=>[]) (λs=>s.1<=x.gates.length/\YD s.2 (x.gates.drop s.1)=YD 0 x.gates) (λs=>x.gates.length - s.1) (0,0) ⟨Nat.zero_le _,rfl⟩ ?_ ?_
   . (refine Zj ?_ ?_ ?_ rfl rfl<;>dsimp only [Zi,id,go_sem]<;>simp [Zi,Za])
   . rintro ⟨k,next⟩ ⟨hk,hi⟩;dsimp only [go_sem];refine br ?_ ?_
     . intro hlt;have hlt:k < x.gates.length:=by simpa using hlt
       dsimp only [go_sem];refine Zp k hlt rfl ?_;dsimp only [Zi,go_sem];repeat (first | (refine gb ?_;dsimp only [go_sem]) | (refine call (ZcY _ _ x.gates[k].opens x.gates[k].shuts _) ?_;dsimp only [go_sem]) | (refine call (Zaa _ _ _ _) ?_;dsimp only [go_sem]))
       have hd:x.gates.drop k=x.gates[k] :: x.gates.drop (k+1):=List.drop_eq_getElem_cons hlt;refine br ?_ ?_
       . intro hb;dsimp only [go_sem];rw [<- hi,hd]
         (simp only [YD,Option.some.injEq,SV.v.injEq,Value.bool.injEq]<;>grind)
       . intro hb;dsimp only [go_sem];have hs:ZX 0 100000 x.gates[k].shuts=true:=by grind
         simp only [ZX,decide_eq_true_eq] at hs;rw [Zg (n:=x.gates[k].shuts.hi+1) (by omega) (by omega),Zg (n:=(k:Int)+1) (by omega) (by omega)];refine ⟨(k+1,x.gates[k].shuts.hi+1),⟨hlt,?_⟩,by simp only;omega,?_⟩
         . rw [<- hi,hd];simp only [YD];grind
         . (refine Zj ?_ ?_ ?_ rfl rfl<;>dsimp only [Zi,id,go_sem]<;>simp [Zi,Za])
     . intro hlt;have hlt:k=x.gates.length:=by simp at hlt;omega
       dsimp only [go_sem];rw [<- hi,hlt];simp [YD]
theorem ZwM (l:Land) (x:Leg) (hs:WT l) (hx:x ∈ l.legs):Ct Tryz.prog 136 [.agg (Zn x),.ps (Ye l) 0] (B (!Ww l.wells.length x)):=by
 have hg:=hs.2.2 x hx;refine t136.1 (by simp [Zn,Ye,Zh,Zi,Za]) (by simp) ?_;dsimp only [c136,r136,Zn,Ye,go_sem];simp only [List.length_map];refine call (Zhv x l.wells.length (by omega) (by have:=hs.1;omega) (by omega)) ?_;dsimp only [go_sem]
theorem ZqE (w:Well):Ct Tryz.prog 133 [.agg (Zh w)] (B (!YL w)):=by
 refine t133.1 (by simp [Zh]) (by simp) ?_;dsimp only [c133,r133,Zh,go_sem];refine call (ZAM w) ?_;dsimp only [go_sem]
theorem ZcS (l:Land) (hs:WT l):Ct Tryz.prog 92 [.agg (Ye l)] (I (if Z1 l=true then 0 else 30)):=by
 refine t92.1 (by simp [Ye,Zh,Zn,Zi,Za]) (by simp) ?_;dsimp only [c92,r92,Ye,go_sem];refine call (con71 133 [] (by simp [KFL]) (λw=>!YL w) l.wells (λw _=>ZqE w) (by have:=hs.1;omega)) ?_;dsimp only [go_sem];refine Vi (res:=B (l.legs.any λx=>!Ww l.wells.length x)) (by simp [FLT]) ?_ ?_
 . dsimp only [go_sem];exact con74 136 [.ps (Ye l) 0] (by simp [Ye,Zh,Zn,Zi,Za]) (λx=>!Ww l.wells.length x) l.legs (λx hx=>ZwM l x hs hx) (by have:=hs.2.1;omega)
 dsimp only [go_sem];repeat (first | (refine gb ?_;dsimp only [go_sem]) | (refine call (Zaa _ _ _ _) ?_;dsimp only [go_sem]))
 simp only [List.length_map];have key:Z1 l = !(!inR 1 12 l.wells.length || decide ((l.legs.length:Int) > 24) || !(!l.wells.any λw=>!YL w) || !(!l.legs.any λx=>!Ww l.wells.length x)):=by
  simp only [Z1,List.all_eq_not_any_not];grind
 rw [key];refine br ?_ ?_
 . intro h;dsimp only [go_sem];rw [h];rfl
 . intro h;dsimp only [go_sem];rw [h];rfl
theorem ZfO {w:Well} {s:Span} {n:Int} (hw:YL w=true) (h1:0<=s.lo) (h2:s.lo<=w.room) (h3:0<=s.hi) (h4:s.hi<=w.room) (h5:-200000<=n) (h6:n<=200000) :
 IntKind.i64.wrap (s.lo+IntKind.i64.wrap (n * w.yld.lo))=s.lo+n * w.yld.lo/\IntKind.i64.wrap (s.hi+IntKind.i64.wrap (n * w.yld.hi))=s.hi+n * w.yld.hi:=by
 simp only [YL,ZX,inR,Bool.and_eq_true,decide_eq_true_eq] at hw;have key:∀ y:Int,0<=y->y<=10000000->-2000000000000<=n * y/\n * y<=2000000000000:=λy a b=>by
  constructor
  . have:=Int.mul_le_mul_of_nonneg_right h5 a;omega
  . have:=Int.mul_le_mul_of_nonneg_right h6 a;omega
 have k1:=key w.yld.lo (by omega) (by omega);have k2:=key w.yld.hi (by omega) (by omega);rw [Zg (n:=n * w.yld.lo) (by omega) (by omega),Zg (n:=n * w.yld.hi) (by omega) (by omega),Zg (by omega) (by omega),Zg (by omega) (by omega)];exact ⟨rfl,rfl⟩
theorem Zj9 {w:Well} {s:Span} {n:Int} (hw:YL w=true) (h1:0<=s.lo) (h2:s.lo<=w.room) (h3:0<=s.hi) (h4:s.hi<=w.room) (h5:-200000<=n) (h6:n<=200000):-2000000000000<=(Wf w s n).lo:=by
 simp only [YL,ZX,inR,Bool.and_eq_true,decide_eq_true_eq] at hw;have k1:-2000000000000<=n * w.yld.lo:=by
  have:=Int.mul_le_mul_of_nonneg_right h5 (show 0<=w.yld.lo by omega);omega
 simp only [Wf];omega
theorem ZeC (w:Well) (s:Span) (n:Int) (hw:YL w=true) (h1:0<=s.lo) (h2:s.lo<=w.room) (h3:0<=s.hi) (h4:s.hi<=w.room) (h5:-200000<=n) (h6:n<=200000) :
 Ct Tryz.prog 139 [.agg (Zh w),.agg (Ze s),I n] (.agg (Ze (Wf w s n))):=by
 obtain ⟨k1,k2⟩:=ZfO hw h1 h2 h3 h4 h5 h6;refine t139.1 (by simp [Zh,Ze]) (by simp [Ze]) ?_;dsimp only [c139,r139,Zh,Ze,go_sem];simp only [k1,k2,Wf]
def Zpn (r:Span × Int × Int):SV:=.tup [.agg (Ze r.1),I r.2.1,I r.2.2]
theorem Zsd {l:Land} {well:Int} (h:inR 0 (l.wells.length - 1) well=true):∃ (k:Nat) (hk:k < l.wells.length),well=(k:Int)/\l.wells[well.toNat]? = some l.wells[k]:=by
 simp only [inR,decide_eq_true_eq] at h;refine ⟨well.toNat,by omega,by omega,?_⟩;rw [List.getElem?_eq_getElem (by omega)]
theorem ZnQ (l:Land) (hs:WT l) (well day:Int) (draws:List Draw) (hd:draws.length<=1000) :
 Ct Tryz.prog 102 [.agg (Ye l),I well,.sl false 3 (draws.map Ym),I day] (Zpn (WJ l well draws day)):=by
 have hw1:IntKind.i64.wrap ((l.wells.length:Int) - 1)=(l.wells.length:Int) - 1:=Zg (by omega) (by have:=hs.1;omega);refine t102.1 (by simp [Ye,Zh,Zn,Zi,Ym,Za]) (by simp [Zpn,Ze]) ?_;dsimp only [c102,r102,Ye,go_sem];refine call (ZcS l hs) ?_;dsimp only [go_sem];by_cases ho:Z1 l=true
 case neg =>
  rw [if_neg ho];refine Zr rfl ?_;dsimp only [go_sem];simp [WJ,ho,Zpn,Ze]
 rw [if_pos ho];refine Zo rfl ?_;dsimp only [go_sem];simp only [List.length_map,hw1];repeat (first | (refine gb ?_;dsimp only [go_sem]) | (refine call (Zaa _ _ _ _) ?_;dsimp only [go_sem]))
 by_cases ha:(inR 0 (l.wells.length - 1) well && inR 0 100000 day)=true
 case neg =>
  refine Zr (by grind) ?_;dsimp only [go_sem];simp [WJ,ho,Zpn,Ze,ha]
 refine Zo (by grind) ?_;dsimp only [go_sem];by_cases hm:draws.length > 200
 case pos =>
  refine Zr (by simp;omega) ?_;dsimp only [go_sem];simp [WJ,ho,Zpn,Ze,ha,hm]
 refine Zo (by simp;omega) ?_;dsimp only [go_sem];refine YF (λs:Nat × Int=>[(50,I s.1),(12,I s.2)]) (λ_=>[]) (λs=>s.1<=draws.length/\W0 l.wells.length s.2 (draws.drop s.1)=W0 l.wells.length 0 draws) (λs=>draws.length - s.1) (0,0) ⟨Nat.zero_le _,rfl⟩ ?_ ?_
 . (refine Zj ?_ ?_ ?_ rfl rfl<;>dsimp only [Zi,Zh,Zn,Ym,id,go_sem]<;>simp [Zi,Zh,Zn,Ym,Za])
 . rintro ⟨k,last⟩ ⟨hk,hi⟩;simp only at hk hi;dsimp only [go_sem];by_cases hlt:k < draws.length
   . refine Zr (by simpa using hlt) ?_;dsimp only [go_sem];refine Zp k hlt rfl ?_;dsimp only [Ym,go_sem];simp only [List.length_map,hw1];repeat (first | (refine gb ?_;dsimp only [go_sem]) | (refine call (Zaa _ _ _ _) ?_;dsimp only [go_sem]))
     have hdr:draws.drop k=draws[k] :: draws.drop (k+1):=List.drop_eq_getElem_cons hlt;rw [hdr] at hi;simp only [W0] at hi;refine br ?_ ?_
     . intro h;dsimp only [go_sem];have:W0 l.wells.length 0 draws=false:=by rw [<- hi];grind
       simp [WJ,ho,Zpn,Ze,ha,hm,this]
     . intro h;dsimp only [go_sem];rw [Zg (n:=(k:Int)+1) (by omega) (by omega)];refine ⟨(k+1,draws[k].day),⟨hlt,?_⟩,by simp only;omega,?_⟩
       . simp only;grind
       . (refine Zj ?_ ?_ ?_ rfl rfl<;>dsimp only [Zi,Zh,Zn,Ym,id,go_sem]<;>simp [Zi,Zh,Zn,Ym,Za])
   . refine Zo (by simp;omega) ?_;dsimp only [go_sem];have hk':k=draws.length:=by omega
     subst hk';simp only [List.drop_length,W0] at hi;obtain ⟨kw,hkw,rfl,hget⟩:=Zsd (Bool.and_eq_true_iff.1 ha).1;refine Zp kw hkw rfl ?_;dsimp only [Zh,go_sem];have hwf:WJ l kw draws day=V2 l.wells[kw] kw day l.wells[kw].has (-1) 0 draws:=by
      simp only [WJ,ho,ha,hm,<- hi,hget];simp
     rw [hwf];have hok:=ZfS ho l.wells[kw] (List.getElem_mem _);have hmem:=Zbl hi.symm (Int.le_refl _);have hday:0<=day/\day<=100000:=by simp only [inR,Bool.and_eq_true,decide_eq_true_eq] at ha;omega
     have hroom:0<=l.wells[kw].has.lo/\l.wells[kw].has.lo<=l.wells[kw].room/\0<=l.wells[kw].has.hi/\l.wells[kw].has.hi<=l.wells[kw].room/\l.wells[kw].room<=1000000000:=by
      simp only [YL,ZX,inR,Bool.and_eq_true,decide_eq_true_eq] at hok;omega
     have hroom2:∀ x:Int,x<=l.wells[kw].room->x<=1000000000:=λx h=>by omega
     refine YF (λs:Nat × Span × Int=>[(91,I s.1),(17,I s.2.2)]) (λs=>[(3,.cells (Ze s.2.1) 27)])
      (λs=>s.1<=draws.length/\V2 l.wells[kw] kw day s.2.1 s.2.2 s.1 (draws.drop s.1)=V2 l.wells[kw] kw day l.wells[kw].has (-1) 0 draws /\
       0<=s.2.1.lo/\s.2.1.lo<=l.wells[kw].room/\0<=s.2.1.hi/\s.2.1.hi<=l.wells[kw].room/\-1<=s.2.2/\s.2.2<=100000) (λs=>draws.length - s.1) (0,l.wells[kw].has,-1)
      ⟨Nat.zero_le _,rfl,hroom.1,hroom.2.1,hroom.2.2.1,hroom.2.2.2.1,by simp,by simp⟩ ?_ ?_
     . (refine Zj ?_ ?_ ?_ rfl rfl<;>dsimp only [Zi,Zh,Zn,Ym,Ze,id,go_sem]<;>simp [Zi,Zh,Zn,Ym,Ze,Za])
     . rintro ⟨k,now,ev⟩ ⟨hk2,hi2,n1,n2,n3,n4,e1,e2⟩;simp only at hk2 hi2 n1 n2 n3 n4 e1 e2;dsimp only [Ze,go_sem];by_cases hlt2:k < draws.length
       . refine Zr (by simpa using hlt2) ?_;dsimp only [go_sem];refine Zp k hlt2 rfl ?_;dsimp only [Ym,go_sem];repeat (first | (refine gb ?_;dsimp only [go_sem]))
         have hx:=hmem draws[k] (List.getElem_mem _);have hdr:draws.drop k=draws[k] :: draws.drop (k+1):=List.drop_eq_getElem_cons hlt2;rw [hdr] at hi2;simp only [V2] at hi2;by_cases hc:(draws[k].well != (kw:Int) || decide (draws[k].day ≥ day))=true
         . refine Zr hc ?_;dsimp only [go_sem];rw [if_pos hc] at hi2;rw [Zg (n:=(k:Int)+1) (by omega) (by omega)];refine ⟨(k+1,now,ev),⟨hlt2,hi2,n1,n2,n3,n4,e1,e2⟩,by simp only;omega,?_⟩;(refine Zj ?_ ?_ ?_ rfl rfl<;>dsimp only [Zi,Zh,Zn,Ym,Ze,id,go_sem]<;>simp [Zi,Zh,Zn,Ym,Ze,Za])
         . refine Zo (by simpa using hc) ?_;rw [if_neg hc] at hi2;dsimp only [go_sem];rw [Zg (n:=draws[k].day - ev) (by omega) (by omega)];refine call (ZeC l.wells[kw] now (draws[k].day - ev) hok n1 n2 n3 n4 (by omega) (by omega)) ?_;dsimp only [Ze,go_sem];have hbig:-2000000000000<=(Wf l.wells[kw] now (draws[k].day - ev)).lo:=Zj9 hok n1 n2 n3 n4 (by omega) (by omega);have hf2:(Wf l.wells[kw] now (draws[k].day - ev)).hi<=l.wells[kw].room:=by simp only [Wf];omega
           have hf1:(Wf l.wells[kw] now (draws[k].day - ev)).lo<=l.wells[kw].room:=by simp only [Wf];omega
           generalize hF:Wf l.wells[kw] now (draws[k].day - ev)=F at *;by_cases hdry:F.hi < draws[k].water
           . refine Zr (by simpa using hdry) ?_;dsimp only [go_sem];rw [if_pos hdry] at hi2;rw [<- hi2];rfl
           . refine Zo (by simpa using hdry) ?_;dsimp only [go_sem];rw [if_neg hdry] at hi2;rw [Zg (n:=F.lo - draws[k].water) (by omega) (by omega),Zg (n:=F.hi - draws[k].water) (by omega) (by omega),Zg (n:=(k:Int)+1) (by omega) (by omega)];refine ⟨(k+1,⟨max 0 (F.lo - draws[k].water),F.hi - draws[k].water⟩,draws[k].day),⟨hlt2,hi2,by simp only;omega,by simp only;omega,by simp only;omega,by simp only;omega,by simp only;omega,by simp only;omega⟩,by simp only;omega,?_⟩
             (refine Zj ?_ ?_ ?_ rfl rfl<;>dsimp only [Zi,Zh,Zn,Ym,Ze,id,go_sem]<;>simp [Zi,Zh,Zn,Ym,Ze,Za])
       . refine Zo (by simp;omega) ?_;dsimp only [go_sem];rw [Zg (n:=day - 1) (by omega) (by omega),Zg (n:=day - 1 - ev) (by omega) (by omega)];refine call (ZeC l.wells[kw] now (day - 1 - ev) hok n1 n2 n3 n4 (by omega) (by omega)) ?_;dsimp only [Ze,go_sem];have hk':k=draws.length:=by omega
         subst hk';simp only [List.drop_length,V2] at hi2;rw [<- hi2];rfl
end Go.Proofs.YtongccnhomncnaaGreat
namespace Go.Azalai
structure Breed where
 full:Int
 fed:Int
 rest:Span
 heat:Span
 toil:Span
 burn:Span
 rub:Span
 milk:Span
 heal:Int
 strong:Span
deriving DecidableEq
structure Camel where
 water:Span
 fat:Span
 sore:Span
 milks:Bool
deriving DecidableEq
structure March where
 hours:Int
 load:Int
 heat:Span
 grass:Span
 drinks:Span
deriving DecidableEq
def ZD (b:Breed):Bool :=
 inR 1 1000000 b.full && inR 1 1000000 b.fed && inR 0 1000 b.heal && ZX 0 1000000 b.strong && ZX 0 100000 b.rest && ZX 0 100000 b.heat && ZX 0 100000 b.toil && ZX 0 100000 b.burn && ZX 0 100000 b.rub && ZX 0 100000 b.milk
def Zz (b:Breed) (c:Camel):Bool:=ZX 0 b.full c.water && ZX 0 b.fed c.fat && ZX 0 1000 c.sore
def Z3 (m:March):Bool:=inR 0 24 m.hours && inR 0 1000000 m.load && ZX 0 60 m.heat && ZX 0 1000000 m.grass && ZX 0 1000000 m.drinks
def ZyM (b:Breed):Int:=if ZD b=true then 0 else 10
def Zav (b:Breed) (c:Camel):Int:=if ZD b=false then 10 else if Zz b c=false then 11 else 0
def upF (a b:Int):Int:=(a+b - 1).tdiv b
def ZaC:Span:=⟨0,0⟩
def Zfc (b:Breed) (c:Camel):Span :=
 ⟨min 1000 (min ((2000 * c.water.lo).tdiv b.full) (min ((2000 * c.fat.lo).tdiv b.fed) (1000 - c.sore.hi))),min 1000 (min (upF (2000 * c.water.hi) b.full) (min (upF (2000 * c.fat.hi) b.fed) (1000 - c.sore.lo)))⟩
def Zzr (b:Breed) (c:Camel):Span:=⟨(b.strong.lo * (Zfc b c).lo).tdiv 1000,upF (b.strong.hi * (Zfc b c).hi) 1000⟩
def Yx (m:March):Int:=m.hours * (100000+m.load)
def Vu (b:Breed) (milks:Bool) (m:March):Span :=
 ⟨b.rest.lo+b.heat.lo * max 0 (m.heat.lo - 20)+(b.toil.lo * Yx m).tdiv 100000+(if milks then b.milk.lo else 0),b.rest.hi+b.heat.hi * max 0 (m.heat.hi - 20)+upF (b.toil.hi * Yx m) 100000+(if milks then b.milk.hi else 0)⟩
def VX (b:Breed) (m:March):Span:=⟨(b.burn.lo * Yx m).tdiv 100000,upF (b.burn.hi * Yx m) 100000⟩
theorem WR {a A d:Int} (h0:0<=a) (h1:a<=A) (hd:1<=d):0<=a.tdiv d/\a.tdiv d<=A :=
 ⟨Int.tdiv_nonneg h0 (by omega),Int.le_trans (Int.tdiv_le_self d h0) h1⟩
theorem Zlh {a A d:Int} (h0:0<=a) (h1:a<=A) (hd:1<=d):0<=upF a d/\upF a d<=A+d:=by
 have:=WR (a:=a+d - 1) (A:=A+d) (d:=d) (by omega) (by omega) hd;exact this
end Go.Azalai
namespace Go.Proofs.YtongccnhomncnaaGreat.Cm
open Go Go.Sx Go.Azalai
def breedL (b:Breed):List SV:=[I b.full,I b.fed,I b.rest.lo,I b.rest.hi,I b.heat.lo,I b.heat.hi,I b.toil.lo,I b.toil.hi,I b.burn.lo,I b.burn.hi,I b.rub.lo,I b.rub.hi,I b.milk.lo,I b.milk.hi,I b.heal,I b.strong.lo,I b.strong.hi]
def camelL (c:Camel):List SV:=[I c.water.lo,I c.water.hi,I c.fat.lo,I c.fat.hi,I c.sore.lo,I c.sore.hi,B c.milks]
def ZA (b:Breed) (c:Camel):List SV:=[I b.full,I b.fed,I b.rest.lo,I b.rest.hi,I b.heat.lo,I b.heat.hi,I b.toil.lo,I b.toil.hi,I b.burn.lo,I b.burn.hi,I b.rub.lo,I b.rub.hi,I b.milk.lo,I b.milk.hi,I b.heal,I b.strong.lo,I b.strong.hi,I c.water.lo,I c.water.hi,I c.fat.lo,I c.fat.hi,I c.sore.lo,I c.sore.hi,B c.milks]
def marchL (m:March):List SV:=[I m.hours,I m.load,I m.heat.lo,I m.heat.hi,I m.grass.lo,I m.grass.hi,I m.drinks.lo,I m.drinks.hi]
theorem XL {α : Type} (g:α->Bool) (l:List α):decide (Xv g l 0 ≥ 0)=l.any g:=Zfg g l 0
theorem Zk1 (h:Nat) (caps:List SV) (hk:KFL caps) (g:Int->Bool) (l:List Int) (hg:∀ x ∈ l,Ct Tryz.prog h (I x :: caps) (B (g x))) (hl:l.length < 4611686018427387904) {c:Bool} :
 Ct Tryz.prog 128 [.sl c 1 (l.map Zq),.cl h caps] (I (Xv g l 0)):=by
 refine t128.1 ⟨by simp [KF,Za,KFL,Zq],hk,trivial⟩ (by simp [KF]) ?_;dsimp only [c128,r128,go_sem];refine YF (λk:Nat=>[(8,I k)]) (λ_=>[]) (λk=>k<=l.length/\Xv g (l.drop k) k=Xv g l 0) (λk=>l.length - k) 0 ⟨Nat.zero_le _,rfl⟩ ?_ ?_
 . (refine Zj ?_ ?_ ?_ rfl rfl<;>dsimp only [Zq,hk,id,go_sem]<;>simp [Zq,hk,Za])
 . intro k ⟨hk',hi⟩;dsimp only [go_sem];refine br ?_ ?_
   . intro hlt;have hlt:k < l.length:=by simpa using hlt
     dsimp only [go_sem];refine Zp k hlt rfl ?_;dsimp only [Zq,go_sem];refine call (hg l[k] (List.getElem_mem _)) ?_;dsimp only [go_sem];refine br ?_ ?_
     . intro hgx;dsimp only [go_sem];rw [<- hi,List.drop_eq_getElem_cons hlt];simp [Xv,hgx]
     . intro hgx;dsimp only [go_sem];refine ⟨k+1,⟨by omega,?_⟩,by omega,?_⟩
       . rw [<- hi,List.drop_eq_getElem_cons hlt];simp [Xv,hgx]
       . rw [Zg (by omega) (by omega)];(refine Zj ?_ ?_ ?_ rfl rfl<;>dsimp only [Zq,hk,id,go_sem]<;>simp [Zq,hk,Za])
   . intro hlt;have hlt:k=l.length:=by simp at hlt;omega
     dsimp only [go_sem];rw [<- hi,hlt];simp [Xv]
theorem con91 (h:Nat) (caps:List SV) (hk:KFL caps) (g:Int->Bool) (l:List Int) (hg:∀ x ∈ l,Ct Tryz.prog h (I x :: caps) (B (g x))) (hl:l.length < 4611686018427387904) {c:Bool} :
 Ct Tryz.prog 84 [.sl c 1 (l.map Zq),.cl h caps] (B (l.any g)):=by
 refine t84.1 ⟨by simp [KF,Za,KFL,Zq],hk,trivial⟩ (by simp [KF]) ?_;dsimp only [c84,r84,go_sem];refine call (Zk1 h caps hk g l hg hl) ?_;dsimp only [go_sem];rw [XL]
theorem ZBe (h:Nat) (caps:List SV) (hk:KFL caps) (g:Span->Bool) (l:List Span) (hg:∀ x ∈ l,Ct Tryz.prog h (.agg (Ze x) :: caps) (B (g x))) (hl:l.length < 4611686018427387904) {c:Bool} :
 Ct Tryz.prog 86 [.sl c 2 (l.map Ze),.cl h caps] (I (Xv g l 0)):=by
 refine t86.1 ⟨by simp [KF,Za,KFL,Ze],hk,trivial⟩ (by simp [KF]) ?_;dsimp only [c86,r86,go_sem];refine YF (λk:Nat=>[(8,I k)]) (λ_=>[]) (λk=>k<=l.length/\Xv g (l.drop k) k=Xv g l 0) (λk=>l.length - k) 0 ⟨Nat.zero_le _,rfl⟩ ?_ ?_
 . (refine Zj ?_ ?_ ?_ rfl rfl<;>dsimp only [Ze,hk,id,go_sem]<;>simp [Ze,hk,Za])
 . intro k ⟨hk',hi⟩;dsimp only [go_sem];refine br ?_ ?_
   . intro hlt;have hlt:k < l.length:=by simpa using hlt
     dsimp only [go_sem];refine Zp k hlt rfl ?_;dsimp only [Ze,go_sem];refine call (hg l[k] (List.getElem_mem _)) ?_;dsimp only [go_sem];refine br ?_ ?_
     . intro hgx;dsimp only [go_sem];rw [<- hi,List.drop_eq_getElem_cons hlt];simp [Xv,hgx]
     . intro hgx;dsimp only [go_sem];refine ⟨k+1,⟨by omega,?_⟩,by omega,?_⟩
       . rw [<- hi,List.drop_eq_getElem_cons hlt];simp [Xv,hgx]
       . rw [Zg (by omega) (by omega)];(refine Zj ?_ ?_ ?_ rfl rfl<;>dsimp only [Ze,hk,id,go_sem]<;>simp [Ze,hk,Za])
   . intro hlt;have hlt:k=l.length:=by simp at hlt;omega
     dsimp only [go_sem];rw [<- hi,hlt];simp [Xv]
theorem con93 (h:Nat) (caps:List SV) (hk:KFL caps) (g:Span->Bool) (l:List Span) (hg:∀ x ∈ l,Ct Tryz.prog h (.agg (Ze x) :: caps) (B (g x))) (hl:l.length < 4611686018427387904) {c:Bool} :
 Ct Tryz.prog 48 [.sl c 2 (l.map Ze),.cl h caps] (B (l.any g)):=by
 refine t48.1 ⟨by simp [KF,Za,KFL,Ze],hk,trivial⟩ (by simp [KF]) ?_;dsimp only [c48,r48,go_sem];refine call (ZBe h caps hk g l hg hl) ?_;dsimp only [go_sem];rw [XL]
theorem XY (n lo hi:Int):Ct Tryz.prog 157 [I n,I lo,I hi] (B (inR lo hi n)):=by
 refine t157.1 (by simp) (by simp) ?_;dsimp only [c157,r157,go_sem];refine gb ?_;dsimp only [go_sem];refine gb ?_;dsimp only [go_sem];refine gb ?_;dsimp only [go_sem];simp [inR]
theorem ZV (s:Span) (lo hi:Int):Ct Tryz.prog 158 [.agg (Ze s),I lo,I hi] (B (ZX lo hi s)):=by
 refine t158.1 (by simp [Ze]) (by simp) ?_;dsimp only [c158,r158,Ze,go_sem];refine call (XY _ _ _) ?_;dsimp only [go_sem];repeat (refine gb ?_;dsimp only [go_sem])
 (simp only [ZX,inR,Option.some.injEq,SV.v.injEq,Value.bool.injEq]<;>grind)
theorem Zdg (lo hi x:Int):Ct Tryz.prog 163 [I x,.ps [I lo] 0,.ps [I hi] 0] (B (!inR lo hi x)):=by
 refine t163.1 (by simp) (by simp) ?_;dsimp only [c163,r163,go_sem];repeat (refine gb ?_;dsimp only [go_sem])
 (simp only [inR,Option.some.injEq,SV.v.injEq,Value.bool.injEq]<;>grind)
theorem UO (lo hi:Int) (l:List Int) (hl:l.length < 4611686018427387904) (c:Bool):Ct Tryz.prog 130 [I lo,I hi,.sl c 1 (l.map Zq)] (B (l.all (inR lo hi))):=by
 refine t130.1 (by simp [Za,Zq]) (by simp) ?_;dsimp only [c130,r130,go_sem];refine Vi (by simp [FLT]) (res:=B (l.any λx=>!inR lo hi x)) ?_ ?_
 . dsimp only [go_sem];exact con91 163 [.ps [I lo] 0,.ps [I hi] 0] (by simp) (λx=>!inR lo hi x) l (λx _=>Zdg lo hi x) hl
 . dsimp only [go_sem];simp [List.all_eq_not_any_not]
theorem Zaa (lo hi a:Int) (c:Bool):Ct Tryz.prog 130 [I lo,I hi,.sl c 1 [[I a]]] (B (inR lo hi a)):=by
 have:=UO lo hi [a] (by simp) c;simpa [Zq] using this
theorem ZdY (lo hi a b:Int) (c:Bool):Ct Tryz.prog 130 [I lo,I hi,.sl c 1 [[I a],[I b]]] (B (inR lo hi a && inR lo hi b)):=by
 have:=UO lo hi [a,b] (by simp) c;simpa [Zq] using this
theorem V6 (lo hi:Int) (s:Span):Ct Tryz.prog 131 [.agg (Ze s),.ps [I lo] 0,.ps [I hi] 0] (B (!ZX lo hi s)):=by
 refine t131.1 (by simp [Ze]) (by simp) ?_;dsimp only [c131,r131,Ze,go_sem];repeat (first | (refine gb ?_;dsimp only [go_sem]) | (refine call (ZdY _ _ _ _ _) ?_;dsimp only [go_sem]))
 (simp only [ZX,inR,Option.some.injEq,SV.v.injEq,Value.bool.injEq]<;>grind)
theorem Xq (lo hi:Int) (l:List Span) (hl:l.length < 4611686018427387904) (c:Bool):Ct Tryz.prog 90 [I lo,I hi,.sl c 2 (l.map Ze)] (B (l.all (ZX lo hi))):=by
 refine t90.1 (by simp [Za,Ze]) (by simp) ?_;dsimp only [c90,r90,go_sem];refine Vi (by simp [FLT]) (res:=B (l.any λx=>!ZX lo hi x)) ?_ ?_
 . dsimp only [go_sem];exact con93 131 [.ps [I lo] 0,.ps [I hi] 0] (by simp) (λx=>!ZX lo hi x) l (λx _=>V6 lo hi x) hl
 . dsimp only [go_sem];simp [List.all_eq_not_any_not]
theorem Y8 (lo hi:Int) (s:Span) (c:Bool):Ct Tryz.prog 90 [I lo,I hi,.sl c 2 [[I s.lo,I s.hi]]] (B (ZX lo hi s)):=by
 have:=Xq lo hi [s] (by simp) c;simpa [Ze] using this
theorem ZcY (lo hi:Int) (s t:Span) (c:Bool):Ct Tryz.prog 90 [I lo,I hi,.sl c 2 [[I s.lo,I s.hi],[I t.lo,I t.hi]]] (B (ZX lo hi s && ZX lo hi t)):=by
 have:=Xq lo hi [s,t] (by simp) c;simpa [Ze] using this
theorem ZoX (lo hi:Int) (a b c d e f:Span) (k:Bool):Ct Tryz.prog 90 [I lo,I hi,.sl k 2 [[I a.lo,I a.hi],[I b.lo,I b.hi],[I c.lo,I c.hi],[I d.lo,I d.hi],[I e.lo,I e.hi],[I f.lo,I f.hi]]]
 (B (ZX lo hi a && (ZX lo hi b && (ZX lo hi c && (ZX lo hi d && (ZX lo hi e && ZX lo hi f)))))):=by
 have:=Xq lo hi [a,b,c,d,e,f] (by simp) k;simpa [Ze] using this
theorem Zdq (b:Breed):Ct Tryz.prog 89 [.agg (breedL b)] (I (ZyM b)):=by
 refine t89.1 (by simp [breedL]) (by simp) ?_;dsimp only [c89,r89,breedL,go_sem];repeat (first | (refine gb ?_;dsimp only [go_sem]) | (refine call (Zaa _ _ _ _) ?_;dsimp only [go_sem]) | (refine call (ZdY _ _ _ _ _) ?_;dsimp only [go_sem]) | (refine call (ZoX _ _ b.rest b.heat b.toil b.burn b.rub b.milk _) ?_;dsimp only [go_sem]) | (refine call (Y8 _ _ b.strong _) ?_;dsimp only [go_sem]))
 refine br ?_ ?_
 . intro h;dsimp only [go_sem];have:ZD b=false:=by simp only [ZD];grind
   simp [ZyM,this]
 . intro h;dsimp only [go_sem];have:ZD b=true:=by simp only [ZD];grind
   simp [ZyM,this]
theorem Zmh (b:Breed):Ct Tryz.prog 123 [.agg (breedL b)] (B (ZD b)):=by
 refine t123.1 (by simp [breedL]) (by simp) ?_;dsimp only [c123,r123,breedL,go_sem];repeat (first | (refine gb ?_;dsimp only [go_sem]) | (refine call (XY _ _ _) ?_;dsimp only [go_sem]) | (refine call (ZV b.strong _ _) ?_;dsimp only [go_sem]))
 refine br ?_ ?_
 . intro h;dsimp only [go_sem];have:ZD b=false:=by simp only [ZD];grind
   simp [this]
 . intro h;dsimp only [go_sem];repeat (first | (refine gb ?_;dsimp only [go_sem]) | (refine call (ZV b.rest _ _) ?_;dsimp only [go_sem]) | (refine call (ZV b.heat _ _) ?_;dsimp only [go_sem]) | (refine call (ZV b.toil _ _) ?_;dsimp only [go_sem]) | (refine call (ZV b.burn _ _) ?_;dsimp only [go_sem]) | (refine call (ZV b.rub _ _) ?_;dsimp only [go_sem]) | (refine call (ZV b.milk _ _) ?_;dsimp only [go_sem]))
   (simp only [ZD,Option.some.injEq,SV.v.injEq,Value.bool.injEq]<;>grind)
theorem checkCamel_ok (b:Breed) (c:Camel):Ct Tryz.prog 54 [.agg (breedL b),.agg (camelL c)] (I (Zav b c)):=by
 refine t54.1 (by simp [breedL,camelL]) (by simp) ?_;dsimp only [c54,r54,breedL,camelL,go_sem];refine call (Zdq b) ?_;dsimp only [go_sem];by_cases hb:ZD b=true
 case neg =>
  refine Zr (by simp [ZyM,hb]) ?_;dsimp only [go_sem];simp [ZyM,Zav,hb]
 refine Zo (by simp [ZyM,hb]) ?_;dsimp only [go_sem];repeat (first | (refine gb ?_;dsimp only [go_sem]) | (refine call (Y8 _ _ c.water _) ?_;dsimp only [go_sem]) | (refine call (Y8 _ _ c.fat _) ?_;dsimp only [go_sem]) | (refine call (Y8 _ _ c.sore _) ?_;dsimp only [go_sem]))
 refine br ?_ ?_
 . intro h;dsimp only [go_sem];have:Zz b c=false:=by simp only [Zz];grind
   simp [Zav,this,hb]
 . intro h;dsimp only [go_sem];have:Zz b c=true:=by simp only [Zz];grind
   simp [Zav,this,hb]
theorem ZjJ (b:Breed) (c:Camel):Ct Tryz.prog 124 [.agg (breedL b),.agg (camelL c)] (B (Zz b c)):=by
 refine t124.1 (by simp [breedL,camelL]) (by simp) ?_;dsimp only [c124,r124,breedL,camelL,go_sem];repeat (first | (refine gb ?_;dsimp only [go_sem]) | (refine call (ZV c.water _ _) ?_;dsimp only [go_sem]) | (refine call (ZV c.fat _ _) ?_;dsimp only [go_sem]) | (refine call (ZV c.sore _ _) ?_;dsimp only [go_sem]))
 (simp only [Zz,Option.some.injEq,SV.v.injEq,Value.bool.injEq]<;>grind)
theorem checkCamelR_ok (b:Breed) (c:Camel):Ct Tryz.prog 78 [.agg (breedL b),.agg (camelL c)] (I (Zav b c)):=by
 refine t78.1 (by simp [breedL,camelL]) (by simp) ?_;dsimp only [c78,r78,breedL,camelL,go_sem];refine call (Zmh b) ?_;dsimp only [go_sem];by_cases hb:ZD b=true
 case neg =>
  refine Zr (by simp [hb]) ?_;dsimp only [go_sem];simp [Zav,hb]
 refine Zo (by simp [hb]) ?_;dsimp only [go_sem];refine call (ZjJ b c) ?_;dsimp only [go_sem];refine br ?_ ?_
 . intro h;dsimp only [go_sem];have:Zz b c=false:=by simpa using h
   simp [Zav,this,hb]
 . intro h;dsimp only [go_sem];have:Zz b c=true:=by simpa using h
   simp [Zav,this,hb]
theorem Zas (l:List March) (hl:l.length < 4611686018427387904) (c:Bool):Ct Tryz.prog 152 [.sl c 8 (l.map marchL)] (I (if l.all Z3=true then 0 else 12)):=by
 refine t152.1 (by simp [marchL,Za]) (by simp) ?_;dsimp only [c152,r152,go_sem];refine YF (λk:Nat=>[(7,I k)]) (λ_=>[]) (λk=>k<=l.length/\(l.drop k).all Z3=l.all Z3) (λk=>l.length - k) 0 ⟨Nat.zero_le _,rfl⟩ ?_ ?_
 . (refine Zj ?_ ?_ ?_ rfl rfl<;>dsimp only [marchL,id,go_sem]<;>simp [marchL,Za])
 intro k ⟨hk,hi⟩;dsimp only [go_sem];by_cases hlt:k < l.length
 . refine Zr (by simpa using hlt) ?_;dsimp only [go_sem];refine Zp k hlt rfl ?_;dsimp only [marchL,go_sem];repeat (first | (refine gb ?_;dsimp only [go_sem]) | (refine call (Zaa _ _ _ _) ?_;dsimp only [go_sem]) | (refine call (Y8 _ _ l[k].heat _) ?_;dsimp only [go_sem]) | (refine call (ZcY _ _ l[k].grass l[k].drinks _) ?_;dsimp only [go_sem]))
   rw [List.drop_eq_getElem_cons hlt,List.all_cons] at hi;refine br ?_ ?_
   . intro h;dsimp only [go_sem];have:Z3 l[k]=false:=by simp only [Z3];grind
     rw [<- hi,this];rfl
   . intro h;dsimp only [go_sem];have:Z3 l[k]=true:=by simp only [Z3];grind
     rw [this,Bool.true_and] at hi;rw [Zg (n:=(k:Int)+1) (by omega) (by omega)];refine ⟨k+1,⟨hlt,hi⟩,by omega,?_⟩;(refine Zj ?_ ?_ ?_ rfl rfl<;>dsimp only [marchL,id,go_sem]<;>simp [marchL,Za])
 . refine Zo (by simp;omega) ?_;dsimp only [go_sem];have hke:k=l.length:=by omega
   subst hke;rw [List.drop_length] at hi;rw [<- hi];rfl
theorem ZkN (m:March) (c:Bool):Ct Tryz.prog 152 [.sl c 8 [marchL m]] (I (if Z3 m=true then 0 else 12)):=by
 have:=Zas [m] (by simp) c;simpa using this
end Go.Proofs.YtongccnhomncnaaGreat.Cm
