/- Walks and plain laws that lead to the given statement, part 5 of 11. -/
import Derived.Test.YtiigiflofnjilaaGreatQD
import Derived.Test.YtiigiflofnjilaaGreatProg
set_option maxRecDepth 100000
set_option linter.all false
namespace Go.Sx
def m1 (d t:Nat):Ins:=⟨some d,.mv (.t t),none,[]⟩
def o1 (d:Nat) (i:SI):Ins:=⟨some d,i,none,[]⟩
def sr1 (l:List Ins) (c:SC):SC:=.seq (.reg l) c
def ao (x o:Nat):SI:=.addo (.t x) o
def lt (x m:Nat):SI:=.ld (.t x) m true
def lf (x m:Nat):SI:=.ld (.t x) m false
def cn (n:Int):X:=.c (.int .i64 n)
def g1 (d t:Nat) (b:Bool) (i:SI):Ins:=⟨some d,i,some (t,b),[]⟩
def p1 (d:Nat) (i:SI) (l:List Nat):Ins:=⟨some d,i,none,l⟩
def q1 (d t:Nat) (b:Bool) (i:SI) (l:List Nat):Ins:=⟨some d,i,some (t,b),l⟩
def Jr (n:Nat):List Nat:=List.range n
def Ji (a:Nat) (x y:SC):SC:=.cond (.t a) x y
def Jh (a:Nat):SI:=.un .not (.t a)
def Jz (a o:Nat) (T:TypeId):SI:=.box (.t a) o T
def Jw (d:Nat) (x:X):Ins:=⟨some d,.mv x,none,[]⟩
def Js (a b m:Nat):Ins:=⟨none,.st (.t a) (.t b) m,none,[]⟩
def Ju (a b m:Nat) (l:List Nat):Ins:=⟨none,.st (.t a) (.t b) m,none,l⟩
def Jv (a:Nat) (x:X) (m:Nat):Ins:=⟨none,.st (.t a) x m,none,[]⟩
def Jt:X:=.c (.bool true)
def Jf:X:=.c (.bool false)
def Jb (o:BinOp) (a b:Nat):SI:=.bin o (.t a) (.t b)
def Jc (o:BinOp) (a:Nat) (k:Int):SI:=.bin o (.t a) (cn k)
def Jx (a b m:Nat):SI:=.ixs (.t a) (.t b) m
def Jl (a:Nat):SI:=.len (.t a)
def Je (a k:Nat):SI:=.ext (.t a) k
def Jk (d:Nat) (k:Int):Ins:=⟨some d,.mv (cn k),none,[]⟩
def J1 (f a:Nat):SI:=.call f [.t a]
def J2 (f a b:Nat):SI:=.call f [.t a,.t b]
def J3 (f a b c:Nat):SI:=.call f [.t a,.t b,.t c]
def J4 (f a b c d:Nat):SI:=.call f [.t a,.t b,.t c,.t d]
def J5 (f a b c d e:Nat):SI:=.call f [.t a,.t b,.t c,.t d,.t e]
def J6 (f a b c d e g:Nat):SI:=.call f [.t a,.t b,.t c,.t d,.t e,.t g]
def Jp (d:Nat) (i:SI) (l:List Nat):VI:=.op ⟨some d,i,none,l⟩
def Jm (d x:Nat):VI:=.op ⟨some d,.mv (.t x),none,[]⟩
def Jo (d:Nat) (i:SI):VI:=.op ⟨some d,i,none,[]⟩
def Jq (d t:Nat) (b:Bool) (i:SI) (l:List Nat):VI:=.op ⟨some d,i,some (t,b),l⟩
def Jg (d t:Nat) (b:Bool) (i:SI):VI:=.op ⟨some d,i,some (t,b),[]⟩
attribute [go_sem] m1 o1 sr1 ao lt lf cn g1 p1 q1 Ji Jh Jz Jw Js Ju Jv Jt Jf Jb Jc Jx Jl Je Jk J1 J2 J3 J4 J5 J6 Jp Jm Jo Jq Jg
open Go
structure Qt1 (P:Program) (f:FuncId) (c:SC) (r:List RV) (N:Nat):Prop where
 h:∀ {args:List SV} {res:SV},KFL args->KF res->sx P Y0 0 c (st0 args N) (ZBl r res)->(hA:Nat.ble args.length N=true:=by rfl)->Ct P f args res
theorem Z0 {P:Program} {f:FuncId} {fn:Func} {c:SC} {r:List RV} {N:Nat} (hf:P.funcs[f]?=some fn) (hd:fn.body.isSome=true:=by rfl) (hb:YO P f=true:=by kernel_rfl) (hc:XM P c (fn.body.getD .skip)=true:=by kernel_rfl) (hr:Wu P r fn.results.toList=true:=by kernel_rfl) (hN:fn.ntmps=N:=by kernel_rfl):Qt1 P f c r N:=⟨λ{args res} ka kr h hA=>by
 cases hq:fn.body with
 | none=>rw [hq] at hd;cases hd
 | some code=>rw [hq] at hc;exact Zpz hf hq hb hc hr hN (Nat.le_of_ble_eq_true hA) ka kr h⟩
def zv0:List Value:=[.int .i64 0,.int .i64 0]
def zv1:List Value:=[.int .i64 0,.int .i64 0,.int .i64 0,.int .i64 0,.int .i64 0,.int .i64 0,.bool false]
def zv2:List Value:=[.int .i64 0,.int .i64 0,.int .i64 0,.int .i64 0,.int .i64 0,.int .i64 0,.int .i64 0,.int .i64 0,.int .i64 0,.int .i64 0,.int .i64 0,.int .i64 0,.int .i64 0,.int .i64 0,.int .i64 0,.int .i64 0,.int .i64 0,.int .i64 0,.int .i64 0,.int .i64 0,.int .i64 0,.int .i64 0,.int .i64 0,.bool false]
def zv3:List Value:=[.slice none 0 0,.slice none 0 0,.int .i64 0,.int .i64 0,.int .i64 0,.int .i64 0,.int .i64 0,.int .i64 0,.int .i64 0,.int .i64 0,.int .i64 0,.int .i64 0,.int .i64 0,.int .i64 0,.int .i64 0,.int .i64 0,.int .i64 0,.int .i64 0,.int .i64 0,.int .i64 0,.int .i64 0,.int .i64 0,.int .i64 0,.int .i64 0,.int .i64 0,.int .i64 0,.int .i64 0,.bool false,.int .i64 0,.int .i64 0,.int .i64 0,.int .i64 0,.int .i64 0,.int .i64 0,.int .i64 0,.int .i64 0,.slice none 0 0,.int .i64 0]
def zv4:List Value:=[.slice none 0 0,.slice none 0 0,.int .i64 0,.int .i64 0,.int .i64 0,.int .i64 0,.int .i64 0,.int .i64 0,.int .i64 0,.int .i64 0,.int .i64 0,.int .i64 0,.int .i64 0,.int .i64 0,.int .i64 0,.int .i64 0,.int .i64 0,.int .i64 0,.int .i64 0,.int .i64 0,.int .i64 0,.int .i64 0,.int .i64 0,.int .i64 0,.int .i64 0,.int .i64 0,.int .i64 0,.bool false,.int .i64 0,.int .i64 0,.int .i64 0,.int .i64 0,.int .i64 0,.int .i64 0,.int .i64 0,.int .i64 0,.slice none 0 0]
def zv5:List Value:=[.int .i64 0,.int .i64 0,.int .i64 0,.int .i64 0,.slice none 0 0,.slice none 0 0]
def zv6:List Value:=[.slice none 0 0,.int .i64 0,.int .i64 0]
def zv7:List Value:=[.int .i64 0,.int .i64 0,.int .i64 0,.int .i64 0]
def zv8:List Value:=[.int .i64 0,.int .i64 0,.int .i64 0,.int .i64 0,.slice none 0 0]
def zv9:List Value:=[.int .i64 0,.int .i64 0,.int .i64 0,.int .i64 0,.int .i64 0,.int .i64 0,.int .i64 0,.int .i64 0]
def ZqU:List Value:=[.slice none 0 0,.slice none 0 0,.int .i64 0,.int .i64 0]
def Zu5:List Value:=[.int .i64 0,.int .i64 0,.int .i64 0,.int .i64 0,.int .i64 0,.int .i64 0]
def ZBq:List Value:=[.int .i64 0,.int .i64 0,.int .i64 0,.int .i64 0,.int .i64 0,.int .i64 0,.int .i64 0,.int .i64 0,.int .i64 0]
def ZoO:List Value:=[.int .i64 0,.int .i64 0,.int .i64 0]
def ZwA:List Value:=[.slice none 0 0,.slice none 0 0]
def ZBm:List Value:=[.int .u8 0,.int .i64 0,.slice none 0 0,.slice none 0 0]
def ZyQ:List Value:=[.int .u8 0,.int .i64 0]
attribute [go_sem] zv0 zv1 zv2 zv3 zv4 zv5 zv6 zv7 zv8 zv9 ZqU Zu5 ZBq ZoO ZwA ZBm ZyQ
end Go.Sx
namespace Go.Proofs.YtiigiflofnjilaaGreat
open Go Go.Sx
def c12:SC:=(sr1 [o1 1 (Jz 0 0 34),Jw 2 Jf] (.seq (sr1 [o1 4 (ao 1 0),o1 5 (lt 4 2),o1 6 (J1 46 5),m1 7 6,g1 8 7 false (ao 1 36),g1 9 7 false (lf 8 1),g1 10 7 false (Jl 9),g1 11 7 false (Jc .gtr 10 8),o1 12 (.pick (.t 7) Jt (.t 11))] (Ji 12 (sr1 [Jw 2
 Jt] .ret) .skip)) (.seq (sr1 [Jk 3 0] (.block 0 (.loop (.seq (sr1 [m1 13 3,o1 14 (ao 1 36),o1 15 (lf 14 1),o1 16 (Jl 15),o1 17 (Jb .lss 13 16)] (Ji 17 .skip (.exit 0))) (.seq (.block 1 (sr1 [o1 20 (ao 1 36),o1 21 (lf 20 1),m1 22 3,o1 23 (Jx 21 22
 6),o1 24 (ao 23 4),o1 25 (lf 24 1),o1 26 (Jl 25),o1 27 (Jc .gtr 26 20),m1 28 27,g1 29 28 false (ao 1 36),g1 30 28 false (lf 29 1),g1 31 28 false (.mv (.t 3)),g1 32 28 false (Jx 30 31 6),g1 33 28 false (ao 32 5),g1 34 28 false (lf 33 1),g1 35 28 false
 (Jl 34),g1 36 28 false (Jc .gtr 35 20),o1 37 (.pick (.t 28) Jt (.t 36))] (Ji 37 (sr1 [Jw 2 Jt] .ret) .skip))) (.reg [m1 18 3,o1 19 (Jc .add 18 1),m1 3 19])))))) (sr1 [Jw 2 Jf] .ret))))
def r12:List RV:=[.tmp 2]
theorem b12:YO Tryz.prog 12=true:=by kernel_rfl
theorem t12:Qt1 Tryz.prog 12 c12 r12 38:=Z0 Tryz.func12 rfl b12 (by kernel_rfl) (by kernel_rfl) (by kernel_rfl)
def c13:SC:=(sr1 [o1 1 (Jz 0 0 34),o1 2 (.alloc zv4 34)] (sr1 [o1 4 (ao 1 0),o1 5 (lt 4 2),o1 6 (J1 47 5),o1 7 (ao 1 0),Js 7 6 2] (sr1 [o1 8 (.bsl 6 72 []),o1 9 (ao 1 36),o1 10 (lf 9 1),o1 11 (.cln 6 80 72 (.t 8) (.t 10)),o1 12 (ao 1 36),Js 12 11 1]
 (.seq (sr1 [Jk 3 0] (.block 0 (.loop (.seq (sr1 [m1 13 3,o1 14 (ao 1 36),o1 15 (lf 14 1),o1 16 (Jl 15),o1 17 (Jb .lss 13 16)] (Ji 17 .skip (.exit 0))) (.seq (.block 1 (.seq (.regd (Jr 14) [Jo 20 (ao 1 36),Jp 21 (lf 20 1) [0],Jm 22 3,Jo 23 (.bsl 2 27
 []),Jo 24 (ao 1 36),Jp 25 (lf 24 1) [4],Jm 26 3,Jp 27 (Jx 25 26 6) [5,6],Jp 28 (ao 27 4) [7],Jp 29 (lf 28 1) [8],Jp 30 (.app 2 16 27 (.t 23) (.t 29)) [3,9],Jp 31 (Jx 21 22 6) (Jr 11),Jp 32 (ao 31 4) (Jr 12)] 0 1 [Ju 32 30 1
 [0,1,2,3,4,5,6,7,8,9,10,12]]) (.regd (Jr 14) [Jo 33 (ao 1 36),Jp 34 (lf 33 1) [0],Jm 35 3,Jo 36 (.bsl 1 3 []),Jo 37 (ao 1 36),Jp 38 (lf 37 1) [4],Jm 39 3,Jp 40 (Jx 38 39 6) [5,6],Jp 41 (ao 40 5) [7],Jp 42 (lf 41 1) [8],Jp 43 (.app 1 8 3 (.t 36) (.t
 42)) [3,9],Jp 44 (Jx 34 35 6) (Jr 11),Jp 45 (ao 44 5) (Jr 12)] 0 1 [Ju 45 43 1 [0,1,2,3,4,5,6,7,8,9,10,12]]))) (.reg [m1 18 3,o1 19 (Jc .add 18 1),m1 3 19])))))) (sr1 [o1 46 (lt 1 37),Js 2 46 37] .ret)))))
def r13:List RV:=[.cell 2 37 true]
theorem t13:Qt1 Tryz.prog 13 c13 r13 47:=Z0 Tryz.func13
def c16:SC:=(sr1 [o1 1 (Jz 0 0 34),Jk 2 0] (sr1 [o1 9 (ao 1 0),o1 10 (ao 9 0),o1 11 (lf 10 1),o1 12 (Jl 11),m1 3 12] (sr1 [o1 14 (ao 1 0),o1 15 (lt 14 2),o1 16 (ao 1 33),o1 17 (lf 16 1),o1 18 (ao 1 34),o1 19 (lf 18 1),o1 20 (ao 1 2),o1 21 (lt 20 2),o1
 22 (J4 52 15 17 19 21),m1 13 22,o1 23 (Je 13 0),o1 24 (Je 13 1),m1 4 23,m1 5 24] (sr1 [o1 25 (ao 1 28),o1 26 (lf 25 1),o1 27 (.bsl 1 3 [.t 26]),o1 28 (.call 53 [cn 1,cn 30,.t 27]),m1 29 28,g1 30 29 true (ao 1 29),g1 31 29 true (lf 30 1),g1 32 29 true
 (.bsl 1 3 [.t 31]),g1 33 29 true (.call 53 [cn 1,cn 24,.t 32]),o1 34 (.pick (.t 29) (.t 33) Jf),m1 35 34,g1 36 35 true (ao 1 30),g1 37 35 true (lf 36 1),g1 38 35 true (.bsl 1 3 [.t 37]),g1 39 35 true (.call 53 [cn 1,cn 1000000,.t 38]),o1 40 (.pick
 (.t 35) (.t 39) Jf),m1 41 40,g1 42 41 true (ao 1 31),g1 43 41 true (lf 42 1),g1 44 41 true (ao 1 32),g1 45 41 true (lf 44 1),g1 46 41 true (.bsl 1 3 [.t 43,.t 45]),g1 47 41 true (.call 53 [cn 0,cn 1000000,.t 46]),o1 48 (.pick (.t 41) (.t 47) Jf),m1
 49 48,g1 50 49 true (ao 1 35),g1 51 49 true (lf 50 1),g1 52 49 true (ao 1 34),g1 53 49 true (lf 52 1),g1 54 49 true (.bsl 1 3 [.t 53]),g1 55 49 true (.call 53 [cn 0,.t 51,.t 54]),o1 56 (.pick (.t 49) (.t 55) Jf),m1 57 56,g1 58 57 true (ao 1 35),g1 59
 57 true (lf 58 1),g1 60 57 true (Jc .leq 59 100000),o1 61 (.pick (.t 57) (.t 60) Jf),m1 6 61] (.seq (sr1 [m1 62 5,o1 63 (Jc .neq 62 0),m1 64 63,g1 65 64 false (ao 1 4),g1 66 64 false (lt 65 17),g1 67 64 false (ao 1 21),g1 68 64 false (lt 67 7),g1 69
 64 false (J2 54 66 68),g1 70 64 false (Jc .neq 69 0),o1 71 (.pick (.t 64) Jt (.t 70)),m1 72 71,g1 73 72 false (.mv (.t 6)),g1 74 72 false (Jh 73),o1 75 (.pick (.t 72) Jt (.t 74)),m1 76 75,g1 77 76 false (ao 1 36),g1 78 76 false (lf 77 1),g1 79 76
 false (Jl 78),g1 80 76 false (.bsl 1 3 [.t 79]),g1 81 76 false (.call 53 [cn 1,cn 4,.t 80]),g1 82 76 false (Jh 81),o1 83 (.pick (.t 76) Jt (.t 82))] (Ji 83 (sr1 [Jk 2 90] .ret) .skip)) (.seq (sr1 [o1 84 (ao 1 36),o1 85 (lf 84 1),o1 86 (Jl 85),Jk 87
 0] (.block 0 (.loop (sr1 [o1 88 (Jb .lss 87 86)] (.seq (Ji 88 .skip (.exit 0)) (.seq (.block 1 (sr1 [o1 89 (Jx 85 87 6),o1 90 (lt 89 6),o1 8 (.alloc zv5 72),Js 8 90 6] (sr1 [o1 91 (ao 8 0),o1 92 (lt 91 2),o1 93 (.bsl 2 27 [.t 92]),o1 94 (.call 55 [cn
 0,cn 60,.t 93]),o1 95 (Jh 94),m1 96 95,g1 97 96 false (ao 8 2),g1 98 96 false (lt 97 2),g1 99 96 false (.bsl 2 27 [.t 98]),g1 100 96 false (.call 55 [cn 0,cn 1000000,.t 99]),g1 101 96 false (Jh 100),o1 102 (.pick (.t 96) Jt (.t 101)),m1 103 102,g1
 104 103 false (ao 8 4),g1 105 103 false (lf 104 1),g1 106 103 false (Jl 105),g1 107 103 false (.mv (.t 3)),g1 108 103 false (Jb .neq 106 107),o1 109 (.pick (.t 103) Jt (.t 108)),m1 110 109,g1 111 110 false (ao 8 4),g1 112 110 false (lf 111 1),g1 113
 110 false (.call 55 [cn 0,cn 10000000,.t 112]),g1 114 110 false (Jh 113),o1 115 (.pick (.t 110) Jt (.t 114)),m1 116 115,g1 117 116 false (ao 8 5),g1 118 116 false (lf 117 1),g1 119 116 false (Jl 118),g1 120 116 false (.mv (.t 3)),g1 121 116 false (Jb
 .neq 119 120),o1 122 (.pick (.t 116) Jt (.t 121)),m1 123 122,g1 124 123 false (ao 8 5),g1 125 123 false (lf 124 1),g1 126 123 false (.call 53 [cn 0,cn 1000000,.t 125]),g1 127 123 false (Jh 126),o1 128 (.pick (.t 123) Jt (.t 127))] (Ji 128 (sr1 [Jk 2
 90] .ret) .skip)))) (.reg [o1 129 (Jc .add 87 1),m1 87 129]))))))) (sr1 [Jk 2 0] .ret)))))))
def r16:List RV:=[.tmp 2]
theorem t16:Qt1 Tryz.prog 16 c16 r16 130:=Z0 Tryz.func16
def c18:SC:=(sr1 [o1 2 (Jz 0 0 34),o1 3 (Jz 1 0 34),Jw 4 Jf] (.seq (sr1 [o1 8 (ao 2 0),o1 9 (lt 8 2),o1 10 (ao 3 0),o1 11 (lt 10 2),o1 12 (J2 29 9 11),o1 13 (Jh 12),m1 14 13,g1 15 14 false (ao 2 2),g1 16 14 false (lt 15 2),g1 17 14 false (ao 3 2),g1
 18 14 false (lt 17 2),g1 19 14 false (.eqs true true [1,1] (.t 16) (.t 18)),o1 20 (.pick (.t 14) Jt (.t 19)),m1 21 20,g1 22 21 false (ao 2 4),g1 23 21 false (lt 22 17),g1 24 21 false (ao 3 4),g1 25 21 false (lt 24 17),g1 26 21 false (.eqs true true
 [1,1,1,1,1,1,1,1,1,1,1,1,1,1,1,1,1] (.t 23) (.t 25)),o1 27 (.pick (.t 21) Jt (.t 26)),m1 28 27,g1 29 28 false (ao 2 21),g1 30 28 false (lt 29 7),g1 31 28 false (ao 3 21),g1 32 28 false (lt 31 7),g1 33 28 false (.eqs true true [1,1,1,1,1,1,0] (.t 30)
 (.t 32)),o1 34 (.pick (.t 28) Jt (.t 33)),m1 35 34,g1 36 35 false (ao 2 36),g1 37 35 false (lf 36 1),g1 38 35 false (Jl 37),g1 39 35 false (ao 3 36),g1 40 35 false (lf 39 1),g1 41 35 false (Jl 40),g1 42 35 false (Jb .neq 38 41),o1 43 (.pick (.t 35)
 Jt (.t 42))] (Ji 43 (sr1 [Jw 4 Jf] .ret) .skip)) (.seq (sr1 [o1 44 (ao 2 28),o1 45 (lf 44 1),o1 46 (ao 3 28),o1 47 (lf 46 1),o1 48 (Jb .neq 45 47),m1 49 48,g1 50 49 false (ao 2 29),g1 51 49 false (lf 50 1),g1 52 49 false (ao 3 29),g1 53 49 false (lf
 52 1),g1 54 49 false (Jb .neq 51 53),o1 55 (.pick (.t 49) Jt (.t 54)),m1 56 55,g1 57 56 false (ao 2 30),g1 58 56 false (lf 57 1),g1 59 56 false (ao 3 30),g1 60 56 false (lf 59 1),g1 61 56 false (Jb .neq 58 60),o1 62 (.pick (.t 56) Jt (.t 61)),m1 63
 62,g1 64 63 false (ao 2 31),g1 65 63 false (lf 64 1),g1 66 63 false (ao 3 31),g1 67 63 false (lf 66 1),g1 68 63 false (Jb .neq 65 67),o1 69 (.pick (.t 63) Jt (.t 68)),m1 70 69,g1 71 70 false (ao 2 32),g1 72 70 false (lf 71 1),g1 73 70 false (ao 3
 32),g1 74 70 false (lf 73 1),g1 75 70 false (Jb .neq 72 74),o1 76 (.pick (.t 70) Jt (.t 75)),m1 77 76,g1 78 77 false (ao 2 33),g1 79 77 false (lf 78 1),g1 80 77 false (ao 3 33),g1 81 77 false (lf 80 1),g1 82 77 false (Jb .neq 79 81),o1 83 (.pick (.t
 77) Jt (.t 82)),m1 84 83,g1 85 84 false (ao 2 34),g1 86 84 false (lf 85 1),g1 87 84 false (ao 3 34),g1 88 84 false (lf 87 1),g1 89 84 false (Jb .neq 86 88),o1 90 (.pick (.t 84) Jt (.t 89)),m1 91 90,g1 92 91 false (ao 2 35),g1 93 91 false (lf 92 1),g1
 94 91 false (ao 3 35),g1 95 91 false (lf 94 1),g1 96 91 false (Jb .neq 93 95),o1 97 (.pick (.t 91) Jt (.t 96))] (Ji 97 (sr1 [Jw 4 Jf] .ret) .skip)) (.seq (sr1 [Jk 5 0] (.block 0 (.loop (.seq (sr1 [m1 98 5,o1 99 (ao 2 36),o1 100 (lf 99 1),o1 101 (Jl
 100),o1 102 (Jb .lss 98 101)] (Ji 102 .skip (.exit 0))) (.seq (.block 1 (.seq (.regd (Jr 14) [Jo 105 (ao 2 36),Jp 106 (lf 105 1) [0],Jm 107 5,Jp 108 (Jx 106 107 6) [1,2],Jp 109 (lt 108 6) [3],Jo 110 (ao 3 36),Jp 111 (lf 110 1) [5],Jm 112 5,Jp 113 (Jx
 111 112 6) [6,7],Jp 114 (lt 113 6) [8]] 2 2 [o1 6 (.alloc zv5 72),o1 7 (.alloc zv5 72),Ju 6 109 6 [0,1,2,3,4,10,11],Ju 7 114 6 (Jr 13)]) (sr1 [o1 115 (ao 6 0),o1 116 (lt 115 2),o1 117 (ao 7 0),o1 118 (lt 117 2),o1 119 (.eqs true true [1,1] (.t 116)
 (.t 118)),m1 120 119,g1 121 120 false (ao 6 2),g1 122 120 false (lt 121 2),g1 123 120 false (ao 7 2),g1 124 120 false (lt 123 2),g1 125 120 false (.eqs true true [1,1] (.t 122) (.t 124)),o1 126 (.pick (.t 120) Jt (.t 125)),m1 127 126,g1 128 127 false
 (ao 6 4),g1 129 127 false (lf 128 1),g1 130 127 false (ao 7 4),g1 131 127 false (lf 130 1),g1 132 127 false (J2 56 129 131),g1 133 127 false (Jh 132),o1 134 (.pick (.t 127) Jt (.t 133)),m1 135 134,g1 136 135 false (ao 6 5),g1 137 135 false (lf 136
 1),g1 138 135 false (ao 7 5),g1 139 135 false (lf 138 1),g1 140 135 false (J2 57 137 139),g1 141 135 false (Jh 140),o1 142 (.pick (.t 135) Jt (.t 141))] (Ji 142 (sr1 [Jw 4 Jf] .ret) .skip)))) (.reg [m1 103 5,o1 104 (Jc .add 103 1),m1 5 104]))))))
 (sr1 [Jw 4 Jt] .ret)))))
def r18:List RV:=[.tmp 4]
theorem t18:Qt1 Tryz.prog 18 c18 r18 143:=Z0 Tryz.func18
def c19:SC:=(sr1 [o1 2 (Jz 0 0 37),o1 3 (Jz 1 0 37),Jw 4 Jf] (sr1 [o1 5 (ao 2 1),o1 6 (lf 5 1),o1 7 (ao 3 1),o1 8 (lf 7 1),o1 9 (Jb .eql 6 8),m1 10 9,g1 11 10 true (ao 2 2),g1 12 10 true (lf 11 1),g1 13 10 true (ao 3 2),g1 14 10 true (lf 13 1),g1 15
 10 true (Jb .eql 12 14),o1 16 (.pick (.t 10) (.t 15) Jf),m1 17 16,g1 18 17 true (ao 2 0),g1 19 17 true (lf 18 1),g1 20 17 true (ao 3 0),g1 21 17 true (lf 20 1),g1 22 17 true (J2 57 19 21),o1 23 (.pick (.t 17) (.t 22) Jf),m1 4 23] .ret))
def r19:List RV:=[.tmp 4]
theorem t19:Qt1 Tryz.prog 19 c19 r19 24:=Z0 Tryz.func19
def c50:SC:=(sr1 [o1 1 (Jz 0 0 34),Jw 2 Jf] (.seq (sr1 [o1 6 (ao 1 0),o1 7 (lt 6 2),o1 8 (J1 93 7),o1 9 (Jc .neq 8 0),m1 10 9,g1 11 10 false (ao 1 2),g1 12 10 false (lt 11 2),g1 13 10 false (J1 94 12),g1 14 10 false (Jh 13),o1 15 (.pick (.t 10) Jt (.t
 14)),m1 16 15,g1 17 16 false (ao 1 4),g1 18 16 false (lt 17 17),g1 19 16 false (ao 1 21),g1 20 16 false (lt 19 7),g1 21 16 false (J2 95 18 20),g1 22 16 false (Jc .neq 21 0),o1 23 (.pick (.t 16) Jt (.t 22))] (Ji 23 (sr1 [Jw 2 Jf] .ret) .skip)) (.seq
 (sr1 [o1 24 (ao 1 28),o1 25 (lf 24 1),o1 26 (.call 61 [.t 25,cn 1,cn 30]),o1 27 (Jh 26),m1 28 27,g1 29 28 false (ao 1 29),g1 30 28 false (lf 29 1),g1 31 28 false (.call 61 [.t 30,cn 1,cn 24]),g1 32 28 false (Jh 31),o1 33 (.pick (.t 28) Jt (.t 32)),m1
 34 33,g1 35 34 false (ao 1 30),g1 36 34 false (lf 35 1),g1 37 34 false (.call 61 [.t 36,cn 1,cn 1000000]),g1 38 34 false (Jh 37),o1 39 (.pick (.t 34) Jt (.t 38)),m1 40 39,g1 41 40 false (ao 1 31),g1 42 40 false (lf 41 1),g1 43 40 false (.call 61 [.t
 42,cn 0,cn 1000000]),g1 44 40 false (Jh 43),o1 45 (.pick (.t 40) Jt (.t 44)),m1 46 45,g1 47 46 false (ao 1 32),g1 48 46 false (lf 47 1),g1 49 46 false (.call 61 [.t 48,cn 0,cn 1000000]),g1 50 46 false (Jh 49),o1 51 (.pick (.t 46) Jt (.t 50))] (Ji 51
 (sr1 [Jw 2 Jf] .ret) .skip)) (.seq (sr1 [o1 52 (ao 1 33),o1 53 (lf 52 1),o1 54 (ao 1 0),o1 55 (ao 54 0),o1 56 (lf 55 1),o1 57 (Jl 56),o1 58 (Jc .sub 57 1),o1 59 (.call 61 [.t 53,cn 0,.t 58]),o1 60 (Jh 59),m1 61 60,g1 62 61 false (ao 1 34),g1 63 61
 false (lf 62 1),g1 64 61 false (ao 1 35),g1 65 61 false (lf 64 1),g1 66 61 false (.call 61 [.t 63,cn 0,.t 65]),g1 67 61 false (Jh 66),o1 68 (.pick (.t 61) Jt (.t 67)),m1 69 68,g1 70 69 false (ao 1 35),g1 71 69 false (lf 70 1),g1 72 69 false (Jc .gtr
 71 100000),o1 73 (.pick (.t 69) Jt (.t 72)),m1 74 73,g1 75 74 false (ao 1 36),g1 76 74 false (lf 75 1),g1 77 74 false (Jl 76),g1 78 74 false (.call 61 [.t 77,cn 1,cn 4]),g1 79 74 false (Jh 78),o1 80 (.pick (.t 74) Jt (.t 79))] (Ji 80 (sr1 [Jw 2 Jf]
 .ret) .skip)) (.seq (sr1 [Jk 3 0] (.block 0 (.loop (.seq (sr1 [m1 81 3,o1 82 (ao 1 36),o1 83 (lf 82 1),o1 84 (Jl 83),o1 85 (Jb .lss 81 84)] (Ji 85 .skip (.exit 0))) (.seq (.block 1 (sr1 [o1 88 (ao 1 36),o1 89 (lf 88 1),m1 90 3,o1 91 (Jx 89 90 6),o1
 92 (lt 91 6),o1 4 (.alloc zv5 72),Js 4 92 6] (.seq (sr1 [o1 93 (ao 4 0),o1 94 (lt 93 2),o1 95 (.call 96 [.t 94,cn 0,cn 60]),o1 96 (Jh 95),m1 97 96,g1 98 97 false (ao 4 2),g1 99 97 false (lt 98 2),g1 100 97 false (.call 96 [.t 99,cn 0,cn 1000000]),g1
 101 97 false (Jh 100),o1 102 (.pick (.t 97) Jt (.t 101)),m1 103 102,g1 104 103 false (ao 4 4),g1 105 103 false (lf 104 1),g1 106 103 false (Jl 105),g1 107 103 false (ao 1 0),g1 108 103 false (ao 107 0),g1 109 103 false (lf 108 1),g1 110 103 false (Jl
 109),g1 111 103 false (Jb .neq 106 110),o1 112 (.pick (.t 103) Jt (.t 111)),m1 113 112,g1 114 113 false (ao 4 5),g1 115 113 false (lf 114 1),g1 116 113 false (Jl 115),g1 117 113 false (ao 1 0),g1 118 113 false (ao 117 0),g1 119 113 false (lf 118
 1),g1 120 113 false (Jl 119),g1 121 113 false (Jb .neq 116 120),o1 122 (.pick (.t 113) Jt (.t 121))] (Ji 122 (sr1 [Jw 2 Jf] .ret) .skip)) (sr1 [Jk 5 0] (.block 2 (.loop (.seq (sr1 [m1 123 5,o1 124 (ao 4 4),o1 125 (lf 124 1),o1 126 (Jl 125),o1 127 (Jb
 .lss 123 126)] (Ji 127 .skip (.exit 2))) (.seq (.block 3 (sr1 [o1 130 (ao 4 4),o1 131 (lf 130 1),m1 132 5,o1 133 (Jx 131 132 2),o1 134 (lt 133 2),o1 135 (.call 96 [.t 134,cn 0,cn 10000000]),o1 136 (Jh 135),m1 137 136,g1 138 137 false (ao 4 5),g1 139
 137 false (lf 138 1),g1 140 137 false (.mv (.t 5)),g1 141 137 false (Jx 139 140 1),g1 142 137 false (lf 141 1),g1 143 137 false (.call 61 [.t 142,cn 0,cn 1000000]),g1 144 137 false (Jh 143),o1 145 (.pick (.t 137) Jt (.t 144))] (Ji 145 (sr1 [Jw 2 Jf]
 .ret) .skip))) (.reg [m1 128 5,o1 129 (Jc .add 128 1),m1 5 129]))))))))) (.reg [m1 86 3,o1 87 (Jc .add 86 1),m1 3 87])))))) (sr1 [Jw 2 Jt] .ret))))))
def r50:List RV:=[.tmp 2]
theorem t50:Qt1 Tryz.prog 50 c50 r50 146:=Z0 Tryz.func50
def c53:SC:=(sr1 [o1 3 (Jz 0 0 3),o1 4 (Jz 1 0 3),Jw 6 Jf] (sr1 [m1 7 2,o1 8 (.mkf 99 [.t 3,.t 4]),o1 9 (J2 98 7 8),o1 10 (Jh 9),m1 6 10] .ret))
def r53:List RV:=[.tmp 6]
theorem t53:Qt1 Tryz.prog 53 c53 r53 11:=Z0 Tryz.func53
def c55:SC:=(sr1 [o1 3 (Jz 0 0 3),o1 4 (Jz 1 0 3),Jw 6 Jf] (sr1 [m1 7 2,o1 8 (.mkf 103 [.t 3,.t 4]),o1 9 (J2 102 7 8),o1 10 (Jh 9),m1 6 10] .ret))
def r55:List RV:=[.tmp 6]
theorem t55:Qt1 Tryz.prog 55 c55 r55 11:=Z0 Tryz.func55
def c61:SC:=(sr1 [Jw 6 Jf] (sr1 [m1 7 0,m1 8 1,o1 9 (Jb .geq 7 8),m1 10 9,g1 11 10 true (.mv (.t 0)),g1 12 10 true (.mv (.t 2)),g1 13 10 true (Jb .leq 11 12),o1 14 (.pick (.t 10) (.t 13) Jf),m1 6 14] .ret))
def r61:List RV:=[.tmp 6]
theorem t61:Qt1 Tryz.prog 61 c61 r61 15:=Z0 Tryz.func61
def c62:SC:=(sr1 [o1 2 (Jz 0 0 34),o1 4 (.mv (.c (.slice none 0 0))),Jw 5 Jf] (sr1 [o1 10 (ao 2 0),o1 11 (lt 10 2),o1 12 (ao 2 33),o1 13 (lf 12 1),o1 14 (ao 2 34),o1 15 (lf 14 1),o1 16 (ao 2 2),o1 17 (lt 16 2),m1 18 1,o1 19 (J5 104 11 13 15 17 18),m1
 9 19,o1 20 (Je 9 0),o1 21 (Je 9 1),o1 22 (Je 9 2),m1 6 20,m1 7 21,m1 8 22] (.seq (.regd (Jr 23) [Jm 23 6,Jm 24 8,Jp 25 (Jc .eql 24 0) [1],Jp 26 (.mv (.t 25)) [2],Jq 27 26 true (.mv (.t 6)) [3],Jq 28 26 true (Jl 27) [3,4],Jq 29 26 true (Jc .eql 28 0)
 [3,5],Jq 30 26 true (.mv (.t 29)) [3,6],Jq 31 30 false (.mv (.t 6)) [7],Jq 32 30 false (.mv (.t 6)) [7],Jq 33 30 false (Jl 32) [7,9],Jq 34 30 false (Jc .sub 33 1) [7,10],Jq 35 30 false (Jx 31 34 6) [7,8,11],Jq 36 30 false (ao 35 4) [7,12],Jq 37 30
 false (ao 36 1) [7,13],Jq 38 30 false (lf 37 1) [7,14],Jq 39 30 false (ao 2 35) [7],Jq 40 30 false (lf 39 1) [7,16],Jq 41 30 false (Jb .leq 38 40) [7,15,17],Jq 42 26 true (.pick (.t 30) Jt (.t 41)) [3,7,18],Jp 43 (.pick (.t 26) (.t 42) Jf) [3,19],Jp
 4 (.mv (.t 23)) [0,7],Jp 5 (.mv (.t 43)) (Jr 22)] 0 0 []) .ret)))
def r62:List RV:=[.tmp 4,.tmp 5]
theorem t62:Qt1 Tryz.prog 62 c62 r62 44:=Z0 Tryz.func62
def c87:SC:=(sr1 [o1 2 (Jz 0 0 34),Jk 4 0] (sr1 [o1 9 (ao 2 0),o1 10 (ao 9 0),o1 11 (lf 10 1),o1 12 (Jl 11),o1 13 (.mks 1 1 [.bool false] 4 (.t 12)),m1 5 13] (sr1 [o1 14 (ao 2 33),o1 15 (lf 14 1),m1 6 15] (sr1 [m1 16 5,m1 17 6,o1 18 (Jx 16 17 1),Jv 18
 Jt 1] (.seq (sr1 [Jk 7 0] (.block 0 (.loop (.seq (sr1 [m1 19 7,m1 20 1,o1 21 (Jl 20),o1 22 (Jb .lss 19 21)] (Ji 22 .skip (.exit 0))) (.seq (.block 1 (.seq (.seq (.regd (Jr 11) [Jm 25 1,Jm 26 7,Jp 27 (Jx 25 26 1) [0,1],Jp 28 (lf 27 1) [2],Jo 29 (ao 2
 0),Jp 30 (ao 29 1) [4],Jp 31 (lf 30 1) [5],Jp 32 (Jl 31) [6],Jp 33 (Jc .sub 32 1) [7],Jp 34 (.call 61 [.t 28,cn 0,.t 33]) [3,8],Jp 35 (Jh 34) [9]] 0 0 []) (Ji 35 (sr1 [o1 4 (.mv (cn (-1)))] .ret) .skip)) (.seq (.regd (Jr 11) [Jo 36 (ao 2 0),Jp 37 (ao
 36 1) [0],Jp 38 (lf 37 1) [1],Jm 39 1,Jm 40 7,Jp 41 (Jx 39 40 1) [3,4],Jp 42 (lf 41 1) [5],Jp 43 (Jx 38 42 5) [2,6],Jp 44 (lt 43 5) [7]] 1 1 [o1 8 (.alloc zv8 83),Ju 8 44 5 (Jr 10)]) (.seq (sr1 [m1 45 6] (.block 2 (sr1 [o1 47 (ao 8 0),o1 48 (lf 47
 1),o1 49 (Jb .eql 45 48),m1 46 49] (Ji 46 (.reg [o1 50 (ao 8 1),o1 51 (lf 50 1),m1 6 51]) (sr1 [o1 53 (ao 8 1),o1 54 (lf 53 1),o1 55 (Jb .eql 45 54),m1 52 55] (Ji 52 (.reg [o1 56 (ao 8 0),o1 57 (lf 56 1),m1 6 57]) (sr1 [o1 4 (.mv (cn (-1)))]
 .ret))))))) (.seq (sr1 [m1 58 5,m1 59 6,o1 60 (Jx 58 59 1),o1 61 (lf 60 1)] (Ji 61 (sr1 [o1 4 (.mv (cn (-1)))] .ret) .skip)) (.reg [m1 62 5,m1 63 6,o1 64 (Jx 62 63 1),Jv 64 Jt 1])))))) (.reg [m1 23 7,o1 24 (Jc .add 23 1),m1 7 24])))))) (sr1 [m1 65
 6,m1 4 65] .ret))))))
def r87:List RV:=[.tmp 4]
theorem t87:Qt1 Tryz.prog 87 c87 r87 66:=Z0 Tryz.func87
def c96:SC:=(sr1 [o1 3 (Jz 0 0 27),Jw 6 Jf] (sr1 [o1 7 (ao 3 0),o1 8 (lf 7 1),m1 9 1,o1 10 (ao 3 1),o1 11 (lf 10 1),o1 12 (J3 61 8 9 11),m1 13 12,g1 14 13 true (ao 3 1),g1 15 13 true (lf 14 1),g1 16 13 true (.mv (.t 2)),g1 17 13 true (Jb .leq 15 16),o1 18 (.pick (.t 13) (.t 17) Jf),m1 6 18] .ret))
def r96:List RV:=[.tmp 6]
theorem t96:Qt1 Tryz.prog 96 c96 r96 19:=Z0 Tryz.func96
def c99:SC:=(sr1 [Jw 4 Jf] (sr1 [m1 5 0,o1 6 (lf 1 1),o1 7 (Jb .lss 5 6),m1 8 7,g1 9 8 false (.mv (.t 0)),g1 10 8 false (lf 2 1),g1 11 8 false (Jb .gtr 9 10),o1 12 (.pick (.t 8) Jt (.t 11)),m1 4 12] .ret))
def r99:List RV:=[.tmp 4]
theorem t99:Qt1 Tryz.prog 99 c99 r99 13:=Z0 Tryz.func99
def c103:SC:=(sr1 [o1 3 (Jz 0 0 27),Jw 4 Jf] (sr1 [o1 5 (ao 3 0),o1 6 (lf 5 1),o1 7 (ao 3 1),o1 8 (lf 7 1),o1 9 (Jb .gtr 6 8),m1 10 9,g1 11 10 false (lf 1 1),g1 12 10 false (lf 2 1),g1 13 10 false (ao 3 0),g1 14 10 false (lf 13 1),g1 15 10 false (ao 3
 1),g1 16 10 false (lf 15 1),g1 17 10 false (.bsl 1 3 [.t 14,.t 16]),g1 18 10 false (J3 53 11 12 17),g1 19 10 false (Jh 18),o1 20 (.pick (.t 10) Jt (.t 19)),m1 4 20] .ret))
def r103:List RV:=[.tmp 4]
theorem t103:Qt1 Tryz.prog 103 c103 r103 21:=Z0 Tryz.func103
def c63:SC:=(sr1 [o1 5 (Jz 0 0 34),o1 10 (.alloc ZBm 139)] (sr1 [o1 11 (.alloc ZBm 139)] (sr1 [o1 25 (ao 5 36),o1 26 (lf 25 1),m1 27 1,o1 28 (Jx 26 27 6),o1 29 (lt 28 6),o1 12 (.alloc zv5 72),Js 12 29 6] (sr1 [o1 30 (ao 5 21),o1 31 (lt 30 7),o1 13
 (.alloc zv1 31),Js 13 31 7] (.seq (sr1 [m1 32 2,o1 33 (Jl 32),o1 34 (Jc .eql 33 0)] (Ji 34 (.seq (sr1 [o1 36 (ao 5 4),o1 37 (lt 36 17),o1 38 (lt 13 7),o1 39 (J2 105 37 38),m1 35 39,o1 40 (Je 35 0),o1 41 (Je 35 1),o1 14 (.alloc zv0 27),Js 14 40 2,m1
 15 41] (sr1 [m1 42 4,o1 43 (ao 5 30),o1 44 (lf 43 1),o1 45 (Jb .mul 42 44),o1 46 (ao 14 0),o1 47 (lf 46 1),o1 48 (Jb .gtr 45 47)] (Ji 48 (.reg [o1 49 (ao 11 0),Jv 49 (.c (.int .u8 2)) 1]) .skip))) (sr1 [o1 50 (lt 11 4),Js 10 50 4] .ret)) .skip)) (sr1
 [o1 51 (lt 5 37),m1 52 1,o1 53 (J2 38 51 52),o1 16 (.alloc ZwA 25),Js 16 53 2] (.seq (sr1 [Jk 17 0] (.block 0 (.loop (.seq (sr1 [m1 54 17,m1 55 2,o1 56 (Jl 55),o1 57 (Jb .lss 54 56)] (Ji 57 .skip (.exit 0))) (.seq (.block 1 (.seq (.regd (Jr 15) [Jo
 61 (ao 5 0),Jp 62 (lt 61 2) [0],Jm 63 2,Jm 64 17,Jp 65 (Jx 63 64 1) [2,3],Jp 66 (lf 65 1) [4],Jo 67 (ao 5 2),Jp 68 (lt 67 2) [6],Jp 69 (J3 106 62 66 68) [1,5,7],Jp 60 (.mv (.t 69)) [8],Jp 70 (Je 60 0) [9],Jp 71 (Je 60 1) [9]] 1 2 [o1 18 (.alloc zv0
 27),Ju 18 70 2 [0,1,2,3,4,5,6,7,8,9,10,12],⟨some 19,.mv (.t 71),none,(Jr 14)⟩]) (sr1 [o1 73 (lt 5 37),o1 74 (lt 12 6),o1 75 (lt 13 7),o1 76 (lt 18 2),m1 77 4,o1 78 (J5 107 73 74 75 76 77),m1 72 78,o1 79 (Je 72 0),o1 80 (Je 72 1),o1 20 (.alloc zv1
 31),Js 20 79 7,m1 21 80] (.seq (sr1 [m1 81 21,o1 82 (.bin .neq (.t 81) (.c (.int .u8 0)))] (Ji 82 (sr1 [m1 83 21,m1 84 17,o1 85 (ao 11 0),Js 85 83 1,o1 86 (ao 11 1),Js 86 84 1] (sr1 [o1 87 (lt 11 4),Js 10 87 4] .ret)) .skip)) (.seq (sr1 [m1 88 17,o1
 89 (Jc .add 88 1),m1 90 2,o1 91 (Jl 90),o1 92 (Jb .lss 89 91)] (Ji 92 (.seq (.regd (Jr 21) [Jo 94 (lt 16 2),Jm 95 3,Jm 96 17,Jp 97 (Jx 95 96 6) [1,2],Jp 98 (ao 97 1) [3],Jp 99 (lf 98 1) [4],Jm 100 3,Jm 101 17,Jp 102 (Jx 100 101 6) [6,7],Jp 103 (ao
 102 4) [8],Jp 104 (ao 103 0) [9],Jp 105 (lf 104 1) [10],Jp 106 (.call 108 [.t 94,.t 99,.c (.slice none 0 0),.t 105]) [0,5,11],Jp 93 (.mv (.t 106)) [12],Jp 107 (Je 93 0) [13],Jp 108 (Je 93 1) [13],Jp 109 (Je 93 2) [13]] 1 3 [o1 22 (.alloc zv0 27),Ju
 22 107 2 [0,1,2,3,4,5,6,7,8,9,10,11,12,13,14,17],⟨some 23,.mv (.t 108),none,[0,1,2,3,4,5,6,7,8,9,10,11,12,13,14,15,17,18]⟩,⟨some 24,.mv (.t 109),none,(Jr 20)⟩]) (sr1 [o1 110 (ao 11 2),o1 111 (lf 110 1),o1 112 (ao 5 4),o1 113 (ao 112 0),o1 114 (lf 113
 1),o1 115 (ao 20 0),o1 116 (ao 115 0),o1 117 (lf 116 1),o1 118 (Jb .sub 114 117),o1 119 (.bsl 1 3 [.t 118]),o1 120 (.appm 1 8 3 (.t 111) (.t 119)),o1 121 (ao 11 2),Js 121 120 1] (.reg [o1 122 (ao 11 3),o1 123 (lf 122 1),o1 124 (ao 22 0),o1 125 (lf
 124 1),o1 126 (.bsl 1 3 [.t 125]),o1 127 (.appm 1 8 3 (.t 123) (.t 126)),o1 128 (ao 11 3),Js 128 127 1]))) .skip)) (sr1 [o1 129 (lt 20 7),Js 13 129 7] (.reg [o1 130 (ao 5 4),o1 131 (ao 130 0),o1 132 (lf 131 1),o1 133 (ao 5 4),o1 134 (ao 133 0),o1 135
 (lf 134 1),o1 136 (.build zv0 [(0,1,.t 132),(1,1,.t 135)]),o1 137 (ao 13 0),Js 137 136 2]))))))) (.reg [m1 58 17,o1 59 (Jc .add 58 1),m1 17 59])))))) (sr1 [o1 138 (lt 11 4),Js 10 138 4] .ret))))))))
def r63:List RV:=[.cell 10 4 true]
theorem n63:Tryz.f63.ntmps=139:=by kernel_rfl
theorem b63:YO Tryz.prog 63=true:=by kernel_rfl
theorem ZzU:XM Tryz.prog c63 ((Tryz.f63.body).getD .skip)=true:=by kernel_rfl
theorem ZzQ:Wu Tryz.prog r63 Tryz.f63.results.toList=true:=by kernel_rfl
def c107:SC:=(sr1 [o1 5 (Jz 0 0 34),o1 6 (Jz 1 0 72),o1 7 (Jz 2 0 31),o1 8 (Jz 3 0 27),o1 10 (.alloc zv1 31),o1 11 (.mv (.c (.int .u8 0)))] (sr1 [o1 20 (ao 5 29),o1 21 (lf 20 1),m1 22 4,o1 23 (ao 5 30),o1 24 (lf 23 1),o1 25 (Jb .mul 22 24),o1 26 (ao 6
 0),o1 27 (lt 26 2),o1 28 (ao 6 2),o1 29 (lt 28 2),o1 30 (.build zv9 [(0,1,.t 21),(1,1,.t 25),(2,2,.t 27),(4,2,.t 29)]),o1 12 (.alloc zv9 80),Js 12 30 8] (sr1 [o1 13 (.alloc zv1 31)] (.seq (sr1 [Jk 14 1] (.block 0 (.loop (.seq (sr1 [m1 31 14,o1 32 (ao
 8 1),o1 33 (lf 32 1),o1 34 (Jb .leq 31 33)] (Ji 34 .skip (.exit 0))) (.seq (.block 1 (sr1 [o1 38 (ao 5 4),o1 39 (lt 38 17),o1 40 (lt 7 7),o1 41 (J2 105 39 40),m1 37 41,o1 42 (Je 37 0),o1 43 (Je 37 1),o1 15 (.alloc zv0 27),Js 15 42 2,m1 16 43] (.seq
 (sr1 [o1 44 (ao 12 1),o1 45 (lf 44 1),o1 46 (ao 15 0),o1 47 (lf 46 1),o1 48 (Jb .gtr 45 47)] (Ji 48 (sr1 [o1 49 (.build zv1 []),Js 10 49 7,o1 11 (.mv (.c (.int .u8 2)))] .ret) .skip)) (sr1 [o1 51 (ao 5 4),o1 52 (lt 51 17),o1 53 (lt 7 7),o1 54 (lt 12
 8),o1 55 (J3 150 52 53 54),m1 50 55,o1 56 (Je 50 0),o1 57 (Je 50 1),o1 58 (Je 50 2),o1 17 (.alloc zv1 31),Js 17 56 7,m1 18 57,m1 19 58] (.seq (sr1 [m1 59 19,o1 60 (Jc .neq 59 0),m1 61 60,g1 62 61 false (.mv (.t 18)),g1 63 61 false (Jc .neq 62 0),o1
 64 (.pick (.t 61) Jt (.t 63))] (Ji 64 (sr1 [o1 65 (.build zv1 []),Js 10 65 7,o1 11 (.mv (.c (.int .u8 3)))] .ret) .skip)) (sr1 [o1 66 (lt 17 7),Js 7 66 7] (.seq (sr1 [m1 67 14,o1 68 (ao 8 0),o1 69 (lf 68 1),o1 70 (Jb .eql 67 69)] (Ji 70 (.reg [o1 71
 (lt 7 7),Js 13 71 7]) .skip)) (sr1 [m1 72 14,o1 73 (ao 8 0),o1 74 (lf 73 1),o1 75 (Jb .gtr 72 74)] (Ji 75 (.regd (Jr 21) [Jo 76 (ao 13 0),Jp 77 (lt 76 2) [0],Jo 78 (ao 7 0),Jp 79 (lt 78 2) [2],Jp 80 (J2 151 77 79) [1,3],Jo 81 (ao 13 2),Jp 82 (lt 81
 2) [5],Jo 83 (ao 7 2),Jp 84 (lt 83 2) [7],Jp 85 (J2 151 82 84) [4,6,8],Jo 86 (ao 13 4),Jp 87 (lt 86 2) [10],Jo 88 (ao 7 4),Jp 89 (lt 88 2) [12],Jp 90 (J2 151 87 89) [9,11,13],Jp 91 (ao 13 0) [0,1,2,3,4,5,6,10,11]] 0 1 [Ju 91 80 2
 [0,1,2,3,4,5,6,10,11,14,15],⟨some 92,ao 13 2,none,[0,1,2,3,4,5,6,7,8,9,10,11,15,16]⟩,Ju 92 85 2 [0,1,2,3,4,5,6,7,8,9,10,11,15,16,17],⟨some 93,ao 13 4,none,(Jr 19)⟩,Ju 93 90 2 (Jr 20)]) .skip))))))))) (.reg [m1 35 14,o1 36 (Jc .add 35 1),m1 14
 36])))))) (sr1 [o1 94 (lt 13 7),Js 10 94 7,o1 11 (.mv (.c (.int .u8 0)))] .ret)))))
def r107:List RV:=[.cell 10 7 true,.tmp 11]
theorem t107:Qt1 Tryz.prog 107 c107 r107 95:=Z0 Tryz.func107
def c151:SC:=(sr1 [o1 2 (Jz 0 0 27),o1 3 (Jz 1 0 27),o1 4 (.alloc zv0 27)] (sr1 [o1 5 (ao 2 0),o1 6 (lf 5 1),o1 7 (ao 3 0),o1 8 (lf 7 1),o1 9 (.mm false [.t 6,.t 8]),o1 10 (ao 2 1),o1 11 (lf 10 1),o1 12 (ao 3 1),o1 13 (lf 12 1),o1 14 (.mm true [.t
 11,.t 13]),o1 15 (.build zv0 [(0,1,.t 9),(1,1,.t 14)]),Js 4 15 2] .ret))
def r151:List RV:=[.cell 4 2 true]
theorem t151:Qt1 Tryz.prog 151 c151 r151 16:=Z0 Tryz.func151
def c91:SC:=(sr1 [m1 6 0,o1 7 (Jh 6)] (Ji 7 (.reg [m1 8 1,m1 9 2,o1 10 (.build ZyQ [(0,1,.t 8),(1,1,.t 9)]),o1 11 (.raw (Go.Op.makeInterface 117 (Go.Operand.tmp 10)) 20),⟨none,.raw (Go.Op.panic (Go.Operand.tmp 11)) 0,none,[]⟩]) .skip))
def r91:List RV:=[]
theorem n91:Tryz.f91.ntmps=12:=by kernel_rfl
theorem b91:YO Tryz.prog 91=true:=by kernel_rfl
theorem Zz8:XM Tryz.prog c91 ((Tryz.f91.body).getD .skip)=true:=by kernel_rfl
theorem ZBg:Wu Tryz.prog r91 Tryz.f91.results.toList=true:=by kernel_rfl
theorem m91 {n0:Nat} {hp0:List (Nat × HB)} {args:List SV} {Z8:Ot->Prop} (hh:hpb n0 hp0) (hx:∀ o,Z8 o->KX o.res/\KXP o.hp) (h:sx Tryz.prog Y0 n0 c91 ⟨X8 0 args,hp0,n0,12,[]⟩ (Zbm r91 λo=>∃ o',Z8 o'/\ZcU n0 o o')) (hA:Nat.ble args.length 12=true:=by rfl):CtM Tryz.prog 91 hp0 n0 args Z8:=YN Tryz.func91 rfl b91 Zz8 ZBg n91 (Nat.le_of_ble_eq_true hA) hh hx h
def c92:SC:=(sr1 [o1 4 (Jz 0 0 120),o1 5 (Jz 1 0 90),o1 6 (Jz 2 0 3),o1 8 (.mv (.c (.slice none 0 0)))] (.seq (sr1 [o1 17 (lf 5 1),o1 18 (Jl 17),o1 19 (Jc .eql 18 0)] (Ji 19 (sr1 [o1 21 (ao 4 0),o1 22 (ao 21 4),o1 23 (lt 22 17),o1 24 (ao 4 0),o1 25
 (ao 24 21),o1 26 (lt 25 7),o1 27 (J2 37 23 26),m1 20 27,o1 28 (Je 20 0),o1 29 (Je 20 1),o1 9 (.alloc zv0 27),Js 9 28 2,m1 10 29] (sr1 [o1 30 (lf 6 1),o1 31 (Jc .eql 30 0),m1 32 31,g1 33 32 false (.mv (.t 3)),g1 34 32 false (ao 4 0),g1 35 32 false (ao
 34 30),g1 36 32 false (lf 35 1),g1 37 32 false (Jb .mul 33 36),g1 38 32 false (ao 9 0),g1 39 32 false (lf 38 1),g1 40 32 false (Jb .leq 37 39),o1 41 (.pick (.t 32) Jt (.t 40)),o1 42 (.callm 91 [.t 41,.c (.int .u8 2),cn 0])] (sr1 [o1 8 (.mv (.c
 (.slice none 0 0)))] .ret))) .skip)) (sr1 [o1 11 (.alloc [.slice none 0 0] 54)] (.seq (sr1 [o1 43 (lf 6 1),o1 44 (Jc .eql 43 0)] (Ji 44 (.seq (sr1 [o1 45 (lf 5 1),o1 46 (lf 5 1),o1 47 (Jl 46),o1 48 (Jc .sub 47 1),o1 49 (.sub 6 (.t 45) none (some (.t
 48))),o1 50 (Jl 49),Jk 51 0] (.block 0 (.loop (sr1 [o1 52 (Jb .lss 51 50)] (.seq (Ji 52 .skip (.exit 0)) (.seq (.block 1 (sr1 [o1 53 (Jx 49 51 6),o1 54 (lt 53 6),o1 13 (.alloc Zu5 94),Js 13 54 6] (.reg [o1 55 (lf 11 1),o1 56 (ao 13 1),o1 57 (lf 56
 1),o1 58 (ao 13 4),o1 59 (ao 58 0),o1 60 (lf 59 1),o1 61 (.build ZoO [(0,1,.t 57),(1,1,.t 60)]),o1 62 (.bsl 3 111 [.t 61]),o1 63 (.appm 3 24 111 (.t 55) (.t 62)),Js 11 63 1]))) (.reg [o1 64 (Jc .add 51 1),m1 51 64]))))))) (sr1 [o1 65 (lf 11 1),m1 8
 65] .ret)) .skip)) (.seq (sr1 [o1 66 (lt 4 38),o1 67 (lf 5 1),m1 68 3,o1 69 (.callm 135 [.t 66,.t 67,.t 68])] (.block 2 (.gh (.rfun (.t 69) [70,71] (sr1 [m1 14 70] (.reg [o1 15 (.alloc zv1 31),Js 15 71 7])) (.block 3 (.seq (sr1 [m1 72 14,o1 73 (Jc
 .add 72 1),o1 74 (lf 5 1),o1 75 (Jl 74),o1 76 (Jb .eql 73 75)] (Ji 76 (.exit 2) .skip)) (.seq (.regd (Jr 24) [Jo 77 (lf 5 1),Jm 78 14,Jp 79 (Jx 77 78 6) [0,1],Jp 80 (ao 79 1) [2],Jp 81 (lf 80 1) [3],Jo 82 (lf 5 1),Jm 83 14,Jp 84 (Jx 82 83 6) [5,6],Jp
 85 (ao 84 4) [7],Jp 86 (ao 85 0) [8],Jp 87 (lf 86 1) [9],Jo 88 (lf 6 1),Jo 89 (ao 4 0),Jp 90 (ao 89 4) [12],Jp 91 (ao 90 0) [13],Jp 92 (lf 91 1) [14],Jo 93 (ao 15 0),Jp 94 (ao 93 0) [16],Jp 95 (lf 94 1) [17],Jp 96 (Jb .sub 92 95) [15,18],Jp 97 (Jb
 .mul 88 96) [11,19],Jp 98 (.build ZoO [(0,1,.t 81),(1,1,.t 87),(2,1,.t 97)]) [4,10,20]] 1 1 [o1 16 (.alloc ZoO 111),Ju 16 98 3 (Jr 23)]) (.seq (.regd (Jr 11) [Jo 99 (ao 16 2),Jp 100 (lf 99 1) [0],Jo 101 (lt 4 38),Jo 102 (lf 5 1),Jm 103 14,Jp 104 (Jx
 102 103 6) [3,4],Jp 105 (lt 104 6) [5],Jp 106 (J2 113 101 105) [2,6],Jp 107 (Jb .leq 100 106) [1,7],Jm 108 14] 0 0 [⟨some 109,.callm 91 [.t 107,.c (.int .u8 4),.t 108],none,[7,8,9]⟩]) (.reg [o1 110 (lf 11 1),o1 111 (lt 16 3),o1 112 (.bsl 3 111 [.t
 111]),o1 113 (.appm 3 24 111 (.t 110) (.t 112)),Js 11 113 1]))))))))) (sr1 [o1 114 (lf 11 1),m1 8 114] .ret))))))
def r92:List RV:=[.tmp 8]
theorem n92:Tryz.f92.ntmps=115:=by kernel_rfl
theorem b92:YO Tryz.prog 92=true:=by kernel_rfl
theorem Zz6:XM Tryz.prog c92 ((Tryz.f92.body).getD .skip)=true:=by kernel_rfl
theorem Zzj:Wu Tryz.prog r92 Tryz.f92.results.toList=true:=by kernel_rfl
theorem m92 {n0:Nat} {hp0:List (Nat × HB)} {args:List SV} {Z8:Ot->Prop} (hh:hpb n0 hp0) (hx:∀ o,Z8 o->KX o.res/\KXP o.hp) (h:sx Tryz.prog Y0 n0 c92 ⟨X8 0 args,hp0,n0,115,[]⟩ (Zbm r92 λo=>∃ o',Z8 o'/\ZcU n0 o o')) (hA:Nat.ble args.length 115=true:=by rfl):CtM Tryz.prog 92 hp0 n0 args Z8:=YN Tryz.func92 rfl b92 Zz6 Zzj n92 (Nat.le_of_ble_eq_true hA) hh hx h
def c135:SC:=(sr1 [o1 3 (Jz 0 0 120),o1 4 (Jz 1 0 90),o1 5 (Jz 2 0 3),o1 6 (.mv (.c (.nilFunc)))] (sr1 [o1 7 (.mkf 163 [.t 3,.t 4,.t 5]),m1 6 7] .ret))
def r135:List RV:=[.tmp 6]
theorem n135:Tryz.f135.ntmps=8:=by kernel_rfl
theorem b135:YO Tryz.prog 135=true:=by kernel_rfl
theorem ZuM:XM Tryz.prog c135 ((Tryz.f135.body).getD .skip)=true:=by kernel_rfl
theorem Zxx:Wu Tryz.prog r135 Tryz.f135.results.toList=true:=by kernel_rfl
theorem m135 {n0:Nat} {hp0:List (Nat × HB)} {args:List SV} {Z8:Ot->Prop} (hh:hpb n0 hp0) (hx:∀ o,Z8 o->KX o.res/\KXP o.hp) (h:sx Tryz.prog Y0 n0 c135 ⟨X8 0 args,hp0,n0,8,[]⟩ (Zbm r135 λo=>∃ o',Z8 o'/\ZcU n0 o o')) (hA:Nat.ble args.length 8=true:=by rfl):CtM Tryz.prog 135 hp0 n0 args Z8:=YN Tryz.func135 rfl b135 ZuM Zxx n135 (Nat.le_of_ble_eq_true hA) hh hx h
def c156:SC:=(sr1 [o1 1 (Jz 0 0 120),o1 2 (.alloc zv5 72)] (sr1 [o1 3 (ao 1 0),o1 4 (ao 3 36),o1 5 (lf 4 1),o1 6 (ao 1 37),o1 7 (lf 6 1),o1 8 (Jx 5 7 6),o1 9 (lt 8 6),Js 2 9 6] .ret))
def r156:List RV:=[.cell 2 6 true]
theorem t156:Qt1 Tryz.prog 156 c156 r156 10:=Z0 Tryz.func156
def c163:SC:=(sr1 [o1 10 (ao 1 0),o1 11 (ao 10 21),o1 12 (lt 11 7),o1 5 (.alloc zv1 31),Js 5 12 7] (sr1 [o1 13 (lf 2 1),o1 14 (Jl 13),Jk 15 0] (.block 0 (.loop (sr1 [o1 16 (Jb .lss 15 14)] (.seq (Ji 16 .skip (.exit 0)) (.seq (.block 1 (sr1 [m1 17
 15,o1 18 (Jx 13 15 6),o1 19 (lt 18 6),o1 7 (.alloc Zu5 94),m1 6 17,Js 7 19 6] (sr1 [o1 21 (ao 1 0),o1 22 (ao 21 0),o1 23 (lt 22 2),o1 24 (ao 7 0),o1 25 (lf 24 1),o1 26 (ao 1 0),o1 27 (ao 26 2),o1 28 (lt 27 2),o1 29 (J3 39 23 25 28),m1 20 29,o1 30 (Je
 20 0),o1 31 (Je 20 1),o1 8 (.alloc zv0 27),Js 8 30 2,m1 9 31] (.seq (sr1 [o1 32 (lt 1 38),m1 33 6,o1 34 (lt 5 7),o1 35 (lt 8 2),o1 36 (lf 3 1),o1 37 (.callm 164 [.t 32,.t 33,.t 34,.t 35,.t 36]),Js 5 37 7] (sr1 [m1 38 0,m1 39 6,o1 40 (lt 5 7),o1 41
 (.calvm (.t 38) [.t 39,.t 40]),o1 42 (Jh 41)] (Ji 42 .ret .skip))) (.reg [o1 43 (ao 1 0),o1 44 (ao 43 4),o1 45 (ao 44 0),o1 46 (lf 45 1),o1 47 (ao 1 0),o1 48 (ao 47 4),o1 49 (ao 48 0),o1 50 (lf 49 1),o1 51 (.build zv0 [(0,1,.t 46),(1,1,.t 50)]),o1 52
 (ao 5 0),Js 52 51 2]))))) (.reg [o1 53 (Jc .add 15 1),m1 15 53]))))))))
def r163:List RV:=[]
theorem n163:Tryz.f163.ntmps=54:=by kernel_rfl
theorem b163:YO Tryz.prog 163=true:=by kernel_rfl
theorem Zvb:XM Tryz.prog c163 ((Tryz.f163.body).getD .skip)=true:=by kernel_rfl
theorem ZuV:Wu Tryz.prog r163 Tryz.f163.results.toList=true:=by kernel_rfl
theorem y163 {Y:Hd} {n0:Nat} {hp0:List (Nat × HB)} {args:List SV} {Z8:Ot->Prop} (h:sx Tryz.prog Y n0 c163 ⟨X8 0 args,hp0,n0,54,[]⟩ (Zbm r163 Z8)) (hA:Nat.ble args.length 54=true:=by rfl):CtY Tryz.prog Y 163 hp0 n0 args Z8:=Zb6 Tryz.func163 rfl Zvb ZuV n163 (Nat.le_of_ble_eq_true hA) h
def c164:SC:=(sr1 [o1 5 (Jz 0 0 120),o1 7 (Jz 2 0 31),o1 8 (Jz 3 0 27),o1 10 (.alloc zv1 31)] (.seq (.regd (Jr 17) [Jo 19 (ao 5 0),Jp 20 (ao 19 29) [0],Jp 21 (lf 20 1) [1],Jm 22 4,Jo 23 (ao 5 0),Jp 24 (ao 23 30) [4],Jp 25 (lf 24 1) [5],Jp 26 (Jb .mul
 22 25) [3,6],Jo 27 (lt 5 38),Jp 28 (J1 156 27) [8],Jp 29 (.fld (.t 28) 0 2 true) [9],Jo 30 (lt 5 38),Jp 31 (J1 156 30) [9,11],Jp 32 (.fld (.t 31) 2 2 true) [12],Jp 33 (.build zv9 [(0,1,.t 21),(1,1,.t 26),(2,2,.t 29),(4,2,.t 32)]) [2,7,10,13]] 1 1 [o1
 11 (.alloc zv9 80),Ju 11 33 8 (Jr 16)]) (sr1 [o1 12 (.alloc zv1 31)] (.seq (sr1 [o1 34 (ao 8 1),o1 35 (lf 34 1),Jk 36 0] (.block 0 (.loop (sr1 [o1 37 (Jb .lss 36 35)] (.seq (Ji 37 .skip (.exit 0)) (.seq (.block 1 (sr1 [m1 38 36,m1 13 38] (sr1 [o1 40
 (ao 5 0),o1 41 (ao 40 4),o1 42 (lt 41 17),o1 43 (lt 7 7),o1 44 (J2 37 42 43),m1 39 44,o1 45 (Je 39 0),o1 46 (Je 39 1),o1 14 (.alloc zv0 27),Js 14 45 2,m1 15 46] (sr1 [o1 47 (ao 11 1),o1 48 (lf 47 1),o1 49 (ao 14 0),o1 50 (lf 49 1),o1 51 (Jb .leq 48
 50),m1 52 1,o1 53 (.callm 91 [.t 51,.c (.int .u8 2),.t 52])] (sr1 [o1 55 (ao 5 0),o1 56 (ao 55 4),o1 57 (lt 56 17),o1 58 (lt 7 7),o1 59 (lt 11 8),o1 60 (J3 40 57 58 59),m1 54 60,o1 61 (Je 54 0),o1 62 (Je 54 1),o1 63 (Je 54 2),o1 16 (.alloc zv1 31),Js
 16 61 7,m1 17 62,m1 18 63] (sr1 [m1 64 18,o1 65 (Jc .eql 64 0),m1 66 65,g1 67 66 true (.mv (.t 17)),g1 68 66 true (.bin .eql (.t 67) (.c (.int .u8 0))),o1 69 (.pick (.t 66) (.t 68) Jf),m1 70 1,o1 71 (.callm 91 [.t 69,.c (.int .u8 3),.t 70])] (sr1 [o1
 72 (lt 16 7),Js 7 72 7] (.block 2 (sr1 [m1 74 13,o1 75 (Jc .add 74 1),o1 76 (ao 8 0),o1 77 (lf 76 1),o1 78 (Jb .eql 75 77),m1 73 78] (Ji 73 (.reg [o1 79 (lt 7 7),Js 12 79 7]) (sr1 [m1 81 13,o1 82 (Jc .add 81 1),o1 83 (ao 8 0),o1 84 (lf 83 1),o1 85
 (Jb .gtr 82 84),m1 80 85] (Ji 80 (.regd (Jr 24) [Jo 86 (ao 12 0),Jp 87 (lt 86 2) [0],Jo 88 (ao 7 0),Jp 89 (lt 88 2) [2],Jp 90 (.bsl 2 27 [.t 89]) [3],Jp 91 (J2 172 87 90) [1,4],Jo 92 (ao 12 2),Jp 93 (lt 92 2) [6],Jo 94 (ao 7 2),Jp 95 (lt 94 2) [8],Jp
 96 (.bsl 2 27 [.t 95]) [9],Jp 97 (J2 172 93 96) [5,7,10],Jo 98 (ao 12 4),Jp 99 (lt 98 2) [12],Jo 100 (ao 7 4),Jp 101 (lt 100 2) [14],Jp 102 (.bsl 2 27 [.t 101]) [15],Jp 103 (J2 172 99 102) [11,13,16],Jp 104 (ao 12 0) [0,1,2,3,4,5,6,7,12,13]] 0 1 [Ju
 104 91 2 [0,1,2,3,4,5,6,7,12,13,17,18],⟨some 105,ao 12 2,none,[0,1,2,3,4,5,6,7,8,9,10,11,12,13,18,19]⟩,Ju 105 97 2 [0,1,2,3,4,5,6,7,8,9,10,11,12,13,18,19,20],⟨some 106,ao 12 4,none,(Jr 22)⟩,Ju 106 103 2 (Jr 23)]) .skip)))))))))))) (.reg [o1 107 (Jc
 .add 36 1),m1 36 107]))))))) (sr1 [o1 108 (lt 12 7),Js 10 108 7] .ret)))))
def r164:List RV:=[.cell 10 7 true]
theorem n164:Tryz.f164.ntmps=109:=by kernel_rfl
theorem b164:YO Tryz.prog 164=true:=by kernel_rfl
theorem Zxz:XM Tryz.prog c164 ((Tryz.f164.body).getD .skip)=true:=by kernel_rfl
theorem Zxw:Wu Tryz.prog r164 Tryz.f164.results.toList=true:=by kernel_rfl
theorem m164 {n0:Nat} {hp0:List (Nat × HB)} {args:List SV} {Z8:Ot->Prop} (hh:hpb n0 hp0) (hx:∀ o,Z8 o->KX o.res/\KXP o.hp) (h:sx Tryz.prog Y0 n0 c164 ⟨X8 0 args,hp0,n0,109,[]⟩ (Zbm r164 λo=>∃ o',Z8 o'/\ZcU n0 o o')) (hA:Nat.ble args.length 109=true:=by rfl):CtM Tryz.prog 164 hp0 n0 args Z8:=YN Tryz.func164 rfl b164 Zxz Zxw n164 (Nat.le_of_ble_eq_true hA) hh hx h
def c172:SC:=(sr1 [o1 2 (Jz 0 0 27),o1 4 (.alloc zv0 27)] (.seq (sr1 [m1 7 1,o1 8 (Jl 7),Jk 9 0] (.block 0 (.loop (sr1 [o1 10 (Jb .lss 9 8)] (.seq (Ji 10 .skip (.exit 0)) (.seq (.block 1 (sr1 [o1 11 (Jx 7 9 2),o1 12 (lt 11 2),o1 6 (.alloc zv0 27),Js 6
 12 2] (.reg [o1 13 (ao 2 0),o1 14 (lf 13 1),o1 15 (ao 6 0),o1 16 (lf 15 1),o1 17 (.mm false [.t 14,.t 16]),o1 18 (ao 2 1),o1 19 (lf 18 1),o1 20 (ao 6 1),o1 21 (lf 20 1),o1 22 (.mm true [.t 19,.t 21]),o1 23 (.build zv0 [(0,1,.t 17),(1,1,.t 22)]),Js 2
 23 2]))) (.reg [o1 24 (Jc .add 9 1),m1 9 24]))))))) (sr1 [o1 25 (lt 2 2),Js 4 25 2] .ret)))
def r172:List RV:=[.cell 4 2 true]
theorem t172:Qt1 Tryz.prog 172 c172 r172 26:=Z0 Tryz.func172
def c90:SC:=(sr1 [o1 2 (Jz 0 0 34),o1 4 (.mv (.c (.slice none 0 0))),Jw 5 Jf] (sr1 [o1 10 (ao 2 0),o1 11 (lt 10 2),o1 12 (ao 2 33),o1 13 (lf 12 1),o1 14 (ao 2 34),o1 15 (lf 14 1),o1 16 (ao 2 2),o1 17 (lt 16 2),m1 18 1,o1 19 (J5 36 11 13 15 17 18),m1 9
 19,o1 20 (Je 9 0),o1 21 (Je 9 1),o1 22 (Je 9 2),m1 6 20,m1 7 21,m1 8 22] (.seq (.regd (Jr 23) [Jm 23 6,Jm 24 8,Jp 25 (Jc .eql 24 0) [1],Jp 26 (.mv (.t 25)) [2],Jq 27 26 true (.mv (.t 6)) [3],Jq 28 26 true (Jl 27) [3,4],Jq 29 26 true (Jc .eql 28 0)
 [3,5],Jq 30 26 true (.mv (.t 29)) [3,6],Jq 31 30 false (.mv (.t 6)) [7],Jq 32 30 false (.mv (.t 6)) [7],Jq 33 30 false (Jl 32) [7,9],Jq 34 30 false (Jc .sub 33 1) [7,10],Jq 35 30 false (Jx 31 34 6) [7,8,11],Jq 36 30 false (ao 35 4) [7,12],Jq 37 30
 false (ao 36 1) [7,13],Jq 38 30 false (lf 37 1) [7,14],Jq 39 30 false (ao 2 35) [7],Jq 40 30 false (lf 39 1) [7,16],Jq 41 30 false (Jb .leq 38 40) [7,15,17],Jq 42 26 true (.pick (.t 30) Jt (.t 41)) [3,7,18],Jp 43 (.pick (.t 26) (.t 42) Jf) [3,19],Jp
 4 (.mv (.t 23)) [0,7],Jp 5 (.mv (.t 43)) (Jr 22)] 0 0 []) .ret)))
def r90:List RV:=[.tmp 4,.tmp 5]
theorem t90:Qt1 Tryz.prog 90 c90 r90 44:=Z0 Tryz.func90
def c49:FB:=(.seq (.reg [
 o1 2 (.box (.t 0) 0 120),
 o1 3 (.box (.t 1) 0 37),
 o1 4 (.alloc [.slice none 0 0] 54),
 o1 5 (.alloc ZyQ 117)])
 (.rcv [
 o1 8 (.mkf 89 [.t 4,.t 5])] (.t 8)
 (.tail (.seq (.reg [
 o1 10 (.addo (.t 2) 0),
 o1 11 (.ld (.t 10) 37 true),
 o1 12 (.addo (.t 3) 0),
 o1 13 (.ld (.t 12) 1 false),
 o1 14 (.call 90 [.t 11,.t 13]),
 m1 9 14,
 o1 15 (.ext (.t 9) 0),
 o1 16 (.ext (.t 9) 1),
 m1 6 15,
 m1 7 16])
 (.seq (.reg [
 m1 17 7,
 o1 18 (.callm 91 [.t 17,.c (.int .u8 1),.c (.int .i64 0)])])
 (.seq (.reg [
 o1 19 (.ld (.t 2) 38 true),
 m1 20 6,
 o1 21 (.addo (.t 3) 1),
 o1 22 (.ld (.t 21) 1 false),
 o1 23 (.addo (.t 3) 2),
 o1 24 (.ld (.t 23) 1 false),
 o1 25 (.callm 92 [.t 19,.t 20,.t 22,.t 24]),
 o1 26 (.build ZyQ []),
 ⟨none,.st (.t 4) (.t 25) 1,none,[]⟩,
 ⟨none,.st (.t 5) (.t 26) 2,none,[]⟩])
 .ret))))))
def r49:List RV:=[.cell 4 1 false,.cell 5 2 true]
theorem n49:Tryz.f49.ntmps=27:=by kernel_rfl
theorem b49:YO Tryz.prog 49=true:=by kernel_rfl
theorem ZAk:Za4 Tryz.prog c49 ((Tryz.f49.body).getD .skip)=true:=by kernel_rfl
theorem ZzF:Wu Tryz.prog r49 Tryz.f49.results.toList=true:=by kernel_rfl
theorem m49 {n0:Nat} {hp0:List (Nat × HB)} {args:List SV} {Z8:Ot->Prop} (hh:hpb n0 hp0) (hx:∀ o,Z8 o->KX o.res/\KXP o.hp) (h:fx Tryz.prog n0 c49 ⟨X8 0 args,hp0,n0,27,[]⟩ (Zbm r49 λo=>∃ o',Z8 o'/\ZcU n0 o o')) (hA:Nat.ble args.length 27=true:=by rfl):CtM Tryz.prog 49 hp0 n0 args Z8:=ZcM Tryz.func49 rfl b49 ZAk ZzF n49 (Nat.le_of_ble_eq_true hA) hh hx h
def c147:SC:=(sr1 [o1 2 (Jz 0 0 29),o1 3 (Jz 1 0 31),o1 4 (.alloc zv0 27),Jk 5 0] (.seq (sr1 [o1 7 (lt 2 17),o1 8 (lt 3 7),o1 9 (J2 95 7 8),m1 6 9] (sr1 [m1 10 6,o1 11 (Jc .neq 10 0)] (Ji 11 (sr1 [o1 12 (.build zv0 []),m1 13 6,Js 4 12 2,m1 5 13] .ret)
 .skip))) (sr1 [o1 14 (lt 2 17),o1 15 (lt 3 7),o1 16 (J2 168 14 15),Js 4 16 2,Jk 5 0] .ret)))
def r147:List RV:=[.cell 4 2 true,.tmp 5]
theorem t147:Qt1 Tryz.prog 147 c147 r147 17:=Z0 Tryz.func147
def c37:SC:=(sr1 [o1 2 (Jz 0 0 29),o1 3 (Jz 1 0 31),o1 4 (.alloc zv0 27),Jk 5 0] (.seq (sr1 [o1 7 (lt 2 17),o1 8 (lt 3 7),o1 9 (J2 54 7 8),m1 6 9] (sr1 [m1 10 6,o1 11 (Jc .neq 10 0)] (Ji 11 (sr1 [o1 12 (.build zv0 []),m1 13 6,Js 4 12 2,m1 5 13] .ret)
 .skip))) (sr1 [o1 14 (lt 2 17),o1 15 (lt 3 7),o1 16 (.build zv2 [(0,17,.t 14),(17,7,.t 15)]),o1 17 (J1 81 16),Js 4 17 2,Jk 5 0] .ret)))
def r37:List RV:=[.cell 4 2 true,.tmp 5]
theorem t37:Qt1 Tryz.prog 37 c37 r37 18:=Z0 Tryz.func37
def c105:SC:=(sr1 [o1 2 (Jz 0 0 29),o1 3 (Jz 1 0 31),o1 4 (.alloc zv0 27),Jk 5 0] (sr1 [o1 9 (lt 2 17),o1 10 (lt 3 7),o1 11 (J2 147 9 10),m1 8 11,o1 12 (Je 8 0),o1 13 (Je 8 1),o1 6 (.alloc zv0 27),Js 6 12 2,m1 7 13] (.seq (sr1 [m1 14 7,o1 15 (Jc .neq
 14 0)] (Ji 15 (sr1 [o1 16 (.build zv0 []),m1 17 7,Js 4 16 2,m1 5 17] .ret) .skip)) (.seq (.regd (Jr 17) [Jo 18 (ao 2 15),Jp 19 (ao 18 0) [0],Jp 20 (lf 19 1) [1],Jo 21 (ao 6 0),Jp 22 (lf 21 1) [3],Jp 23 (Jb .mul 20 22) [2,4],Jp 24 (.div .quo (.t 23)
 (cn 1000)) [5],Jo 25 (ao 2 15),Jp 26 (ao 25 1) [7],Jp 27 (lf 26 1) [8],Jo 28 (ao 6 1),Jp 29 (lf 28 1) [10],Jp 30 (Jb .mul 27 29) [9,11],Jp 31 (.call 148 [.t 30,cn 1000]) [12],Jp 32 (.build zv0 [(0,1,.t 24),(1,1,.t 31)]) [6,13]] 0 2 [Ju 4 32 2 (Jr
 15),⟨some 5,.mv (cn 0),none,(Jr 16)⟩]) .ret))))
def r105:List RV:=[.cell 4 2 true,.tmp 5]
theorem t105:Qt1 Tryz.prog 105 c105 r105 33:=Z0 Tryz.func105
def c100:SC:=(sr1 [o1 1 (Jz 0 0 29),Jk 2 0] (.seq (sr1 [o1 3 (ao 1 0),o1 4 (lf 3 1),o1 5 (ao 1 1),o1 6 (lf 5 1),o1 7 (.bsl 1 3 [.t 4,.t 6]),o1 8 (.call 125 [cn 1,cn 1000000,.t 7]),o1 9 (Jh 8),m1 10 9,g1 11 10 false (ao 1 2),g1 12 10 false (lt 11 2),g1
 13 10 false (ao 1 4),g1 14 10 false (lt 13 2),g1 15 10 false (ao 1 6),g1 16 10 false (lt 15 2),g1 17 10 false (ao 1 8),g1 18 10 false (lt 17 2),g1 19 10 false (ao 1 10),g1 20 10 false (lt 19 2),g1 21 10 false (ao 1 12),g1 22 10 false (lt 21 2),g1 23
 10 false (.bsl 2 27 [.t 12,.t 14,.t 16,.t 18,.t 20,.t 22]),g1 24 10 false (.call 101 [cn 0,cn 100000,.t 23]),g1 25 10 false (Jh 24),o1 26 (.pick (.t 10) Jt (.t 25)),m1 27 26,g1 28 27 false (ao 1 15),g1 29 27 false (lt 28 2),g1 30 27 false (.bsl 2 27
 [.t 29]),g1 31 27 false (.call 101 [cn 0,cn 1000000,.t 30]),g1 32 27 false (Jh 31),o1 33 (.pick (.t 27) Jt (.t 32)),m1 34 33,g1 35 34 false (ao 1 14),g1 36 34 false (lf 35 1),g1 37 34 false (.bsl 1 3 [.t 36]),g1 38 34 false (.call 125 [cn 0,cn
 1000,.t 37]),g1 39 34 false (Jh 38),o1 40 (.pick (.t 34) Jt (.t 39))] (Ji 40 (sr1 [Jk 2 10] .ret) .skip)) (sr1 [Jk 2 0] .ret)))
def r100:List RV:=[.tmp 2]
theorem t100:Qt1 Tryz.prog 100 c100 r100 41:=Z0 Tryz.func100
def c54:SC:=(sr1 [o1 2 (Jz 0 0 29),o1 3 (Jz 1 0 31),Jk 4 0] (.seq (sr1 [o1 6 (lt 2 17),o1 7 (J1 100 6),m1 5 7] (sr1 [m1 8 5,o1 9 (Jc .neq 8 0)] (Ji 9 (sr1 [m1 10 5,m1 4 10] .ret) .skip))) (.seq (sr1 [o1 11 (ao 2 0),o1 12 (lf 11 1),o1 13 (ao 3 0),o1 14
 (lt 13 2),o1 15 (.bsl 2 27 [.t 14]),o1 16 (.call 101 [cn 0,.t 12,.t 15]),o1 17 (Jh 16),m1 18 17,g1 19 18 false (ao 2 1),g1 20 18 false (lf 19 1),g1 21 18 false (ao 3 2),g1 22 18 false (lt 21 2),g1 23 18 false (.bsl 2 27 [.t 22]),g1 24 18 false (.call
 101 [cn 0,.t 20,.t 23]),g1 25 18 false (Jh 24),o1 26 (.pick (.t 18) Jt (.t 25)),m1 27 26,g1 28 27 false (ao 3 4),g1 29 27 false (lt 28 2),g1 30 27 false (.bsl 2 27 [.t 29]),g1 31 27 false (.call 101 [cn 0,cn 1000,.t 30]),g1 32 27 false (Jh 31),o1 33
 (.pick (.t 27) Jt (.t 32))] (Ji 33 (sr1 [Jk 4 11] .ret) .skip)) (sr1 [Jk 4 0] .ret))))
def r54:List RV:=[.tmp 4]
theorem t54:Qt1 Tryz.prog 54 c54 r54 34:=Z0 Tryz.func54
def c95:SC:=(sr1 [o1 2 (Jz 0 0 29),o1 3 (Jz 1 0 31),Jk 4 0] (.seq (sr1 [o1 5 (lt 2 17),o1 6 (J1 138 5),o1 7 (Jh 6)] (Ji 7 (sr1 [Jk 4 10] .ret) .skip)) (.seq (sr1 [o1 8 (lt 2 17),o1 9 (lt 3 7),o1 10 (J2 139 8 9),o1 11 (Jh 10)] (Ji 11 (sr1 [Jk 4 11] .ret) .skip)) (sr1 [Jk 4 0] .ret))))
def r95:List RV:=[.tmp 4]
theorem t95:Qt1 Tryz.prog 95 c95 r95 12:=Z0 Tryz.func95
def c139:SC:=(sr1 [o1 2 (Jz 0 0 29),o1 3 (Jz 1 0 31),Jw 4 Jf] (sr1 [o1 5 (ao 3 0),o1 6 (lt 5 2),o1 7 (ao 2 0),o1 8 (lf 7 1),o1 9 (.call 166 [.t 6,cn 0,.t 8]),m1 10 9,g1 11 10 true (ao 3 2),g1 12 10 true (lt 11 2),g1 13 10 true (ao 2 1),g1 14 10 true
 (lf 13 1),g1 15 10 true (.call 166 [.t 12,cn 0,.t 14]),o1 16 (.pick (.t 10) (.t 15) Jf),m1 17 16,g1 18 17 true (ao 3 4),g1 19 17 true (lt 18 2),g1 20 17 true (.call 166 [.t 19,cn 0,cn 1000]),o1 21 (.pick (.t 17) (.t 20) Jf),m1 4 21] .ret))
def r139:List RV:=[.tmp 4]
theorem t139:Qt1 Tryz.prog 139 c139 r139 22:=Z0 Tryz.func139
def c123:SC:=(sr1 [o1 1 (Jz 0 0 169),o1 2 (.alloc zv0 27)] (sr1 [o1 6 (.build zv0 [(0,1,.c (.int .i64 1000)),(1,1,.c (.int .i64 1000))]),o1 3 (.alloc zv0 27),Js 3 6 2] (.seq (.seq (.regd (Jr 22) [Jo 7 (ao 1 17),Jp 8 (ao 7 0) [0],Jp 9 (lt 8 2) [1],Jo
 10 (ao 1 0),Jp 11 (ao 10 0) [3],Jp 12 (lf 11 1) [4],Jo 13 (.bsl 1 3 [cn 2,cn 1000]),Jp 14 (J3 128 9 12 13) [2,5,6],Jo 15 (ao 1 17),Jp 16 (ao 15 2) [8],Jp 17 (lt 16 2) [9],Jo 18 (ao 1 0),Jp 19 (ao 18 1) [11],Jp 20 (lf 19 1) [12],Jo 21 (.bsl 1 3 [cn
 2,cn 1000]),Jp 22 (J3 128 17 20 21) [7,10,13,14],Jo 23 (ao 1 17),Jp 24 (ao 23 4) [16],Jp 25 (lt 24 2) [17],Jp 26 (.call 159 [cn 1000,.t 25]) [15,18],Jp 27 (.build Zu5 [(0,2,.t 14),(2,2,.t 22),(4,2,.t 26)]) [7,15,19],.op (Jk 28 0)] 0 0 []) (.block 0
 (.loop (sr1 [o1 29 (Jc .lss 28 3)] (.seq (Ji 29 .skip (.exit 0)) (.seq (.block 1 (sr1 [o1 30 (.idx (.t 27) (.t 28) 3 2 true),o1 5 (.alloc zv0 27),Js 5 30 2] (.reg [o1 31 (ao 3 0),o1 32 (lf 31 1),o1 33 (ao 5 0),o1 34 (lf 33 1),o1 35 (.mm false [.t
 32,.t 34]),o1 36 (ao 3 1),o1 37 (lf 36 1),o1 38 (ao 5 1),o1 39 (lf 38 1),o1 40 (.mm false [.t 37,.t 39]),o1 41 (.build zv0 [(0,1,.t 35),(1,1,.t 40)]),Js 3 41 2]))) (.reg [o1 42 (Jc .add 28 1),m1 28 42]))))))) (sr1 [o1 43 (lt 3 2),Js 2 43 2] .ret))))
def r123:List RV:=[.cell 2 2 true]
theorem t123:Qt1 Tryz.prog 123 c123 r123 44:=Z0 Tryz.func123
def c168:SC:=(sr1 [o1 2 (Jz 0 0 29),o1 3 (Jz 1 0 31),o1 4 (.alloc zv0 27)] (.seq (.regd (Jr 40) [Jo 5 (ao 3 0),Jp 6 (ao 5 0) [0],Jp 7 (lf 6 1) [1],Jp 8 (.bin .mul (cn 2000) (.t 7)) [2],Jo 9 (ao 2 0),Jp 10 (lf 9 1) [4],Jp 11 (.div .quo (.t 8) (.t 10))
 [3,5],Jo 12 (ao 3 2),Jp 13 (ao 12 0) [7],Jp 14 (lf 13 1) [8],Jp 15 (.bin .mul (cn 2000) (.t 14)) [9],Jo 16 (ao 2 1),Jp 17 (lf 16 1) [11],Jp 18 (.div .quo (.t 15) (.t 17)) [10,12],Jo 19 (ao 3 4),Jp 20 (ao 19 1) [14],Jp 21 (lf 20 1) [15],Jp 22 (.bin
 .sub (cn 1000) (.t 21)) [16],Jp 23 (.mm false [cn 1000,.t 11,.t 18,.t 22]) [6,13,17],Jo 24 (ao 3 0),Jp 25 (ao 24 1) [19],Jp 26 (lf 25 1) [20],Jp 27 (.bin .mul (cn 2000) (.t 26)) [21],Jo 28 (ao 2 0),Jp 29 (lf 28 1) [23],Jp 30 (J2 148 27 29) [22,24],Jo
 31 (ao 3 2),Jp 32 (ao 31 1) [26],Jp 33 (lf 32 1) [27],Jp 34 (.bin .mul (cn 2000) (.t 33)) [28],Jo 35 (ao 2 1),Jp 36 (lf 35 1) [30],Jp 37 (J2 148 34 36) [25,29,31],Jo 38 (ao 3 4),Jp 39 (ao 38 0) [33],Jp 40 (lf 39 1) [34],Jp 41 (.bin .sub (cn 1000) (.t
 40)) [35],Jp 42 (.mm false [cn 1000,.t 30,.t 37,.t 41]) [25,32,36],Jp 43 (.build zv0 [(0,1,.t 23),(1,1,.t 42)]) [18,37]] 0 1 [Ju 4 43 2 (Jr 39)]) .ret))
def r168:List RV:=[.cell 4 2 true]
theorem t168:Qt1 Tryz.prog 168 c168 r168 44:=Z0 Tryz.func168
def c81:SC:=(sr1 [o1 1 (Jz 0 0 169),o1 2 (.alloc zv0 27)] (sr1 [o1 4 (lt 1 24),o1 5 (J1 123 4),o1 3 (.alloc zv0 27),Js 3 5 2] (.seq (.regd (Jr 18) [Jo 6 (ao 1 0),Jp 7 (ao 6 15) [0],Jp 8 (ao 7 0) [1],Jp 9 (lf 8 1) [2],Jo 10 (ao 3 0),Jp 11 (lf 10 1)
 [4],Jp 12 (Jb .mul 9 11) [3,5],Jp 13 (.div .quo (.t 12) (cn 1000)) [6],Jo 14 (ao 1 0),Jp 15 (ao 14 15) [8],Jp 16 (ao 15 1) [9],Jp 17 (lf 16 1) [10],Jo 18 (ao 3 1),Jp 19 (lf 18 1) [12],Jp 20 (Jb .mul 17 19) [11,13],Jp 21 (.call 124 [.t 20,cn 1000])
 [14],Jp 22 (.build zv0 [(0,1,.t 13),(1,1,.t 21)]) [7,15]] 0 1 [Ju 2 22 2 (Jr 17)]) .ret)))
def r81:List RV:=[.cell 2 2 true]
theorem t81:Qt1 Tryz.prog 81 c81 r81 23:=Z0 Tryz.func81
def c148:SC:=(sr1 [Jk 4 0] (sr1 [m1 5 0,m1 6 1,o1 7 (Jb .add 5 6),o1 8 (Jc .sub 7 1),m1 9 1,o1 10 (.div .quo (.t 8) (.t 9)),m1 4 10] .ret))
def r148:List RV:=[.tmp 4]
theorem t148:Qt1 Tryz.prog 148 c148 r148 11:=Z0 Tryz.func148
def c83:SC:=(sr1 [Jk 2 0] (.seq (sr1 [m1 5 0,o1 6 (Jl 5),Jk 7 0] (.block 0 (.loop (sr1 [o1 8 (Jb .lss 7 6)] (.seq (Ji 8 .skip (.exit 0)) (.seq (.block 1 (sr1 [o1 9 (Jx 5 7 8),o1 10 (lt 9 8),o1 4 (.alloc zv9 80),Js 4 10 8] (sr1 [o1 11 (ao 4 0),o1 12
 (lf 11 1),o1 13 (.bsl 1 3 [.t 12]),o1 14 (.call 125 [cn 0,cn 24,.t 13]),o1 15 (Jh 14),m1 16 15,g1 17 16 false (ao 4 1),g1 18 16 false (lf 17 1),g1 19 16 false (.bsl 1 3 [.t 18]),g1 20 16 false (.call 125 [cn 0,cn 1000000,.t 19]),g1 21 16 false (Jh
 20),o1 22 (.pick (.t 16) Jt (.t 21)),m1 23 22,g1 24 23 false (ao 4 2),g1 25 23 false (lt 24 2),g1 26 23 false (.bsl 2 27 [.t 25]),g1 27 23 false (.call 101 [cn 0,cn 60,.t 26]),g1 28 23 false (Jh 27),o1 29 (.pick (.t 23) Jt (.t 28)),m1 30 29,g1 31 30
 false (ao 4 4),g1 32 30 false (lt 31 2),g1 33 30 false (ao 4 6),g1 34 30 false (lt 33 2),g1 35 30 false (.bsl 2 27 [.t 32,.t 34]),g1 36 30 false (.call 101 [cn 0,cn 1000000,.t 35]),g1 37 30 false (Jh 36),o1 38 (.pick (.t 30) Jt (.t 37))] (Ji 38 (sr1
 [Jk 2 12] .ret) .skip)))) (.reg [o1 39 (Jc .add 7 1),m1 7 39]))))))) (sr1 [Jk 2 0] .ret)))
def r83:List RV:=[.tmp 2]
theorem t83:Qt1 Tryz.prog 83 c83 r83 40:=Z0 Tryz.func83
def c126:SC:=(sr1 [o1 3 (Jz 0 0 29),o1 5 (Jz 2 0 80),o1 6 (.alloc zv7 217)] (sr1 [o1 10 (ao 5 2),o1 11 (ao 10 0),o1 12 (lf 11 1),o1 13 (Jc .sub 12 20),o1 14 (.mm true [cn 0,.t 13]),o1 15 (ao 5 2),o1 16 (ao 15 1),o1 17 (lf 16 1),o1 18 (Jc .sub 17
 20),o1 19 (.mm true [cn 0,.t 18]),o1 20 (.build zv0 [(0,1,.t 14),(1,1,.t 19)]),o1 7 (.alloc zv0 27),Js 7 20 2] (sr1 [o1 21 (ao 5 0),o1 22 (lf 21 1),o1 23 (ao 5 1),o1 24 (lf 23 1),o1 25 (.bin .add (cn 100000) (.t 24)),o1 26 (Jb .mul 22 25),m1 8 26]
 (.seq (.regd (Jr 24) [Jo 27 (ao 3 2),Jp 28 (lt 27 2) [0],Jo 29 (ao 3 4),Jp 30 (ao 29 0) [2],Jp 31 (lf 30 1) [3],Jo 32 (ao 7 0),Jp 33 (lf 32 1) [5],Jp 34 (Jb .mul 31 33) [4,6],Jo 35 (ao 3 4),Jp 36 (ao 35 1) [8],Jp 37 (lf 36 1) [9],Jo 38 (ao 7 1),Jp 39
 (lf 38 1) [11],Jp 40 (Jb .mul 37 39) [10,12],Jp 41 (.build zv0 [(0,1,.t 34),(1,1,.t 40)]) [7,13],Jo 42 (ao 3 6),Jp 43 (lt 42 2) [15],Jm 44 8,Jp 45 (.bsl 1 3 [.t 44]) [17],Jp 46 (.call 128 [.t 43,cn 100000,.t 45]) [16,18],Jp 47 (.bsl 2 27 [.t 28,.t
 41,.t 46]) [1,14,19],Jp 48 (J1 127 47) [19,20]] 1 1 [o1 9 (.alloc zv0 27),Ju 9 48 2 (Jr 23)]) (.seq (sr1 [m1 49 1] (Ji 49 (.reg [o1 50 (lt 9 2),o1 51 (ao 3 12),o1 52 (lt 51 2),o1 53 (.bsl 2 27 [.t 50,.t 52]),o1 54 (J1 127 53),Js 9 54 2]) .skip))
 (.seq (.regd (Jr 8) [Jo 55 (lt 9 2),Jo 56 (ao 3 8),Jp 57 (lt 56 2) [1],Jm 58 8,Jp 59 (.bsl 1 3 [.t 58]) [3],Jp 60 (.call 128 [.t 57,cn 100000,.t 59]) [2,4],Jp 61 (.build zv7 [(0,2,.t 55),(2,2,.t 60)]) [0,5]] 0 1 [Ju 6 61 4 (Jr 7)]) .ret))))))
def r126:List RV:=[.cell 6 4 true]
theorem t126:Qt1 Tryz.prog 126 c126 r126 62:=Z0 Tryz.func126
def c138:SC:=(sr1 [o1 1 (Jz 0 0 29),Jw 2 Jf] (.seq (sr1 [o1 3 (ao 1 0),o1 4 (lf 3 1),o1 5 (.call 165 [.t 4,cn 1,cn 1000000]),o1 6 (Jh 5),m1 7 6,g1 8 7 false (ao 1 1),g1 9 7 false (lf 8 1),g1 10 7 false (.call 165 [.t 9,cn 1,cn 1000000]),g1 11 7 false
 (Jh 10),o1 12 (.pick (.t 7) Jt (.t 11)),m1 13 12,g1 14 13 false (ao 1 14),g1 15 13 false (lf 14 1),g1 16 13 false (.call 165 [.t 15,cn 0,cn 1000]),g1 17 13 false (Jh 16),o1 18 (.pick (.t 13) Jt (.t 17)),m1 19 18,g1 20 19 false (ao 1 15),g1 21 19
 false (lt 20 2),g1 22 19 false (.call 166 [.t 21,cn 0,cn 1000000]),g1 23 19 false (Jh 22),o1 24 (.pick (.t 19) Jt (.t 23))] (Ji 24 (sr1 [Jw 2 Jf] .ret) .skip)) (sr1 [o1 25 (ao 1 2),o1 26 (lt 25 2),o1 27 (.call 166 [.t 26,cn 0,cn 100000]),m1 28 27,g1
 29 28 true (ao 1 4),g1 30 28 true (lt 29 2),g1 31 28 true (.call 166 [.t 30,cn 0,cn 100000]),o1 32 (.pick (.t 28) (.t 31) Jf),m1 33 32,g1 34 33 true (ao 1 6),g1 35 33 true (lt 34 2),g1 36 33 true (.call 166 [.t 35,cn 0,cn 100000]),o1 37 (.pick (.t
 33) (.t 36) Jf),m1 38 37,g1 39 38 true (ao 1 8),g1 40 38 true (lt 39 2),g1 41 38 true (.call 166 [.t 40,cn 0,cn 100000]),o1 42 (.pick (.t 38) (.t 41) Jf),m1 43 42,g1 44 43 true (ao 1 10),g1 45 43 true (lt 44 2),g1 46 43 true (.call 166 [.t 45,cn 0,cn
 100000]),o1 47 (.pick (.t 43) (.t 46) Jf),m1 48 47,g1 49 48 true (ao 1 12),g1 50 48 true (lt 49 2),g1 51 48 true (.call 166 [.t 50,cn 0,cn 100000]),o1 52 (.pick (.t 48) (.t 51) Jf),m1 2 52] .ret)))
def r138:List RV:=[.tmp 2]
theorem t138:Qt1 Tryz.prog 138 c138 r138 53:=Z0 Tryz.func138
def c169:SC:=(sr1 [o1 1 (Jz 0 0 80),Jw 2 Jf] (sr1 [o1 3 (ao 1 0),o1 4 (lf 3 1),o1 5 (.call 165 [.t 4,cn 0,cn 24]),m1 6 5,g1 7 6 true (ao 1 1),g1 8 6 true (lf 7 1),g1 9 6 true (.call 165 [.t 8,cn 0,cn 1000000]),o1 10 (.pick (.t 6) (.t 9) Jf),m1 11
 10,g1 12 11 true (ao 1 2),g1 13 11 true (lt 12 2),g1 14 11 true (.call 166 [.t 13,cn 0,cn 60]),o1 15 (.pick (.t 11) (.t 14) Jf),m1 16 15,g1 17 16 true (ao 1 4),g1 18 16 true (lt 17 2),g1 19 16 true (.call 166 [.t 18,cn 0,cn 1000000]),o1 20 (.pick (.t
 16) (.t 19) Jf),m1 21 20,g1 22 21 true (ao 1 6),g1 23 21 true (lt 22 2),g1 24 21 true (.call 166 [.t 23,cn 0,cn 1000000]),o1 25 (.pick (.t 21) (.t 24) Jf),m1 2 25] .ret))
def r169:List RV:=[.tmp 2]
theorem t169:Qt1 Tryz.prog 169 c169 r169 26:=Z0 Tryz.func169
def c175:SC:=(sr1 [o1 3 (Jz 0 0 29),o1 5 (Jz 2 0 80),o1 6 (.alloc zv0 27),o1 7 (.alloc zv0 27)] (sr1 [o1 10 (ao 5 0),o1 11 (lf 10 1),o1 12 (ao 5 1),o1 13 (lf 12 1),o1 14 (.bin .add (cn 100000) (.t 13)),o1 15 (Jb .mul 11 14),m1 8 15] (.seq (.regd (Jr
 43) [Jo 16 (ao 3 2),Jp 17 (ao 16 0) [0],Jp 18 (lf 17 1) [1],Jo 19 (ao 3 4),Jp 20 (ao 19 0) [3],Jp 21 (lf 20 1) [4],Jo 22 (ao 5 2),Jp 23 (ao 22 0) [6],Jp 24 (lf 23 1) [7],Jp 25 (Jc .sub 24 20) [8],Jp 26 (.mm true [cn 0,.t 25]) [9],Jp 27 (Jb .mul 21
 26) [5,10],Jp 28 (Jb .add 18 27) [2,11],Jo 29 (ao 3 6),Jp 30 (ao 29 0) [13],Jp 31 (lf 30 1) [14],Jm 32 8,Jp 33 (Jb .mul 31 32) [15,16],Jp 34 (.div .quo (.t 33) (cn 100000)) [17],Jp 35 (Jb .add 28 34) [12,18],Jo 36 (ao 3 2),Jp 37 (ao 36 1) [20],Jp 38
 (lf 37 1) [21],Jo 39 (ao 3 4),Jp 40 (ao 39 1) [23],Jp 41 (lf 40 1) [24],Jo 42 (ao 5 2),Jp 43 (ao 42 1) [26],Jp 44 (lf 43 1) [27],Jp 45 (Jc .sub 44 20) [28],Jp 46 (.mm true [cn 0,.t 45]) [29],Jp 47 (Jb .mul 41 46) [25,30],Jp 48 (Jb .add 38 47)
 [22,31],Jo 49 (ao 3 6),Jp 50 (ao 49 1) [33],Jp 51 (lf 50 1) [34],Jm 52 8,Jp 53 (Jb .mul 51 52) [35,36],Jp 54 (.call 148 [.t 53,cn 100000]) [37],Jp 55 (Jb .add 48 54) [32,38],Jp 56 (.build zv0 [(0,1,.t 35),(1,1,.t 55)]) [19,39]] 1 1 [o1 9 (.alloc zv0
 27),Ju 9 56 2 (Jr 42)]) (.seq (sr1 [m1 57 1] (Ji 57 (sr1 [o1 58 (ao 9 0),o1 59 (lf 58 1),o1 60 (ao 3 12),o1 61 (ao 60 0),o1 62 (lf 61 1),o1 63 (Jb .add 59 62),o1 64 (ao 9 0),Js 64 63 1] (.reg [o1 65 (ao 9 1),o1 66 (lf 65 1),o1 67 (ao 3 12),o1 68 (ao
 67 1),o1 69 (lf 68 1),o1 70 (Jb .add 66 69),o1 71 (ao 9 1),Js 71 70 1])) .skip)) (.seq (.regd [0,7,8,9,10,11,12,1,2,3,4,5,6,13,14,15] [Jo 72 (lt 9 2),Jo 79 (ao 3 8),Jp 80 (ao 79 1) [7],Jp 81 (lf 80 1) [8],Jm 82 8,Jp 83 (Jb .mul 81 82) [9,10],Jp 84
 (.call 148 [.t 83,cn 100000]) [11],.hide (.t 6),Jo 73 (ao 3 8),Jp 74 (ao 73 0) [1],Jp 75 (lf 74 1) [2],Jm 76 8,Jp 77 (Jb .mul 75 76) [3,4],Jp 78 (.div .quo (.t 77) (cn 100000)) [5],Jp 85 (.build zv0 [(0,1,.t 78),(1,1,.t 84)]) [6,12]] 0 2 [Ju 6 72 2
 [0,12],Ju 7 85 2 (Jr 15)]) .ret)))))
def r175:List RV:=[.cell 6 2 true,.cell 7 2 true]
theorem t175:Qt1 Tryz.prog 175 c175 r175 86:=Z0 Tryz.func175
def c125:SC:=(sr1 [o1 3 (Jz 0 0 3),o1 4 (Jz 1 0 3),Jw 6 Jf] (sr1 [m1 7 2,o1 8 (.mkf 160 [.t 3,.t 4]),o1 9 (J2 98 7 8),o1 10 (Jh 9),m1 6 10] .ret))
def r125:List RV:=[.tmp 6]
theorem t125:Qt1 Tryz.prog 125 c125 r125 11:=Z0 Tryz.func125
def c101:SC:=(sr1 [o1 3 (Jz 0 0 3),o1 4 (Jz 1 0 3),Jw 6 Jf] (sr1 [m1 7 2,o1 8 (.mkf 142 [.t 3,.t 4]),o1 9 (J2 102 7 8),o1 10 (Jh 9),m1 6 10] .ret))
def r101:List RV:=[.tmp 6]
theorem t101:Qt1 Tryz.prog 101 c101 r101 11:=Z0 Tryz.func101
def c127:SC:=(sr1 [o1 2 (.alloc zv0 27)] (sr1 [o1 3 (.alloc zv0 27)] (.seq (sr1 [m1 6 0,o1 7 (Jl 6),Jk 8 0] (.block 0 (.loop (sr1 [o1 9 (Jb .lss 8 7)] (.seq (Ji 9 .skip (.exit 0)) (.seq (.block 1 (sr1 [o1 10 (Jx 6 8 2),o1 11 (lt 10 2),o1 5 (.alloc zv0
 27),Js 5 11 2] (.reg [o1 12 (ao 3 0),o1 13 (lf 12 1),o1 14 (ao 5 0),o1 15 (lf 14 1),o1 16 (Jb .add 13 15),o1 17 (ao 3 1),o1 18 (lf 17 1),o1 19 (ao 5 1),o1 20 (lf 19 1),o1 21 (Jb .add 18 20),o1 22 (.build zv0 [(0,1,.t 16),(1,1,.t 21)]),Js 3 22 2])))
 (.reg [o1 23 (Jc .add 8 1),m1 8 23]))))))) (sr1 [o1 24 (lt 3 2),Js 2 24 2] .ret))))
def r127:List RV:=[.cell 2 2 true]
theorem t127:Qt1 Tryz.prog 127 c127 r127 25:=Z0 Tryz.func127
def c159:SC:=(sr1 [o1 3 (Jz 1 0 27),o1 4 (.alloc zv0 27)] (sr1 [m1 5 0,o1 6 (ao 3 1),o1 7 (lf 6 1),o1 8 (Jb .sub 5 7),m1 9 0,o1 10 (ao 3 0),o1 11 (lf 10 1),o1 12 (Jb .sub 9 11),o1 13 (.build zv0 [(0,1,.t 8),(1,1,.t 12)]),Js 4 13 2] .ret))
def r159:List RV:=[.cell 4 2 true]
theorem t159:Qt1 Tryz.prog 159 c159 r159 14:=Z0 Tryz.func159
def c166:SC:=(sr1 [o1 3 (Jz 0 0 27),Jw 6 Jf] (sr1 [o1 7 (ao 3 0),o1 8 (lf 7 1),m1 9 1,o1 10 (ao 3 1),o1 11 (lf 10 1),o1 12 (J3 165 8 9 11),m1 13 12,g1 14 13 true (ao 3 1),g1 15 13 true (lf 14 1),g1 16 13 true (.mv (.t 2)),g1 17 13 true (Jb .leq 15
 16),o1 18 (.pick (.t 13) (.t 17) Jf),m1 6 18] .ret))
def r166:List RV:=[.tmp 6]
theorem t166:Qt1 Tryz.prog 166 c166 r166 19:=Z0 Tryz.func166
def c165:SC:=(sr1 [Jw 6 Jf] (sr1 [m1 7 0,m1 8 1,o1 9 (Jb .geq 7 8),m1 10 9,g1 11 10 true (.mv (.t 0)),g1 12 10 true (.mv (.t 2)),g1 13 10 true (Jb .leq 11 12),o1 14 (.pick (.t 10) (.t 13) Jf),m1 6 14] .ret))
def r165:List RV:=[.tmp 6]
theorem t165:Qt1 Tryz.prog 165 c165 r165 15:=Z0 Tryz.func165
def c128:SC:=(sr1 [o1 3 (Jz 0 0 27),o1 6 (.alloc zv0 27)] (.seq (sr1 [m1 9 2,o1 10 (Jl 9),Jk 11 0] (.block 0 (.loop (sr1 [o1 12 (Jb .lss 11 10)] (.seq (Ji 12 .skip (.exit 0)) (.seq (.block 1 (sr1 [o1 13 (Jx 9 11 1),o1 14 (lf 13 1),m1 8 14] (.reg [o1
 15 (ao 3 0),o1 16 (lf 15 1),m1 17 8,o1 18 (Jb .mul 16 17),o1 19 (ao 3 1),o1 20 (lf 19 1),m1 21 8,o1 22 (Jb .mul 20 21),o1 23 (ao 3 0),Js 23 18 1,o1 24 (ao 3 1),Js 24 22 1]))) (.reg [o1 25 (Jc .add 11 1),m1 11 25]))))))) (.seq (.regd (Jr 10) [Jo 26
 (ao 3 0),Jp 27 (lf 26 1) [0],Jm 28 1,Jp 29 (.div .quo (.t 27) (.t 28)) [1,2],Jo 30 (ao 3 1),Jp 31 (lf 30 1) [4],Jm 32 1,Jp 33 (J2 124 31 32) [5,6],Jp 34 (.build zv0 [(0,1,.t 29),(1,1,.t 33)]) [3,7]] 0 1 [Ju 6 34 2 (Jr 9)]) .ret)))
def r128:List RV:=[.cell 6 2 true]
theorem t128:Qt1 Tryz.prog 128 c128 r128 35:=Z0 Tryz.func128
def c124:SC:=(sr1 [Jk 4 0] (sr1 [m1 5 0,m1 6 1,o1 7 (Jb .add 5 6),o1 8 (Jc .sub 7 1),m1 9 1,o1 10 (.div .quo (.t 8) (.t 9)),m1 4 10] .ret))
def r124:List RV:=[.tmp 4]
theorem t124:Qt1 Tryz.prog 124 c124 r124 11:=Z0 Tryz.func124
def c160:SC:=(sr1 [Jw 4 Jf] (sr1 [m1 5 0,o1 6 (lf 1 1),o1 7 (Jb .lss 5 6),m1 8 7,g1 9 8 false (.mv (.t 0)),g1 10 8 false (lf 2 1),g1 11 8 false (Jb .gtr 9 10),o1 12 (.pick (.t 8) Jt (.t 11)),m1 4 12] .ret))
def r160:List RV:=[.tmp 4]
theorem t160:Qt1 Tryz.prog 160 c160 r160 13:=Z0 Tryz.func160
def c142:SC:=(sr1 [o1 3 (Jz 0 0 27),Jw 4 Jf] (sr1 [o1 5 (ao 3 0),o1 6 (lf 5 1),o1 7 (ao 3 1),o1 8 (lf 7 1),o1 9 (Jb .gtr 6 8),m1 10 9,g1 11 10 false (lf 1 1),g1 12 10 false (lf 2 1),g1 13 10 false (ao 3 0),g1 14 10 false (lf 13 1),g1 15 10 false (ao 3
 1),g1 16 10 false (lf 15 1),g1 17 10 false (.bsl 1 3 [.t 14,.t 16]),g1 18 10 false (J3 125 11 12 17),g1 19 10 false (Jh 18),o1 20 (.pick (.t 10) Jt (.t 19)),m1 4 20] .ret))
def r142:List RV:=[.tmp 4]
theorem t142:Qt1 Tryz.prog 142 c142 r142 21:=Z0 Tryz.func142
def c84:SC:=(sr1 [o1 2 (Jz 0 0 169),o1 3 (Jz 1 0 80),o1 4 (.alloc zv2 169),o1 5 (.mv (.c (.int .u8 0)))] (sr1 [o1 16 (ao 2 17),o1 17 (ao 16 0),o1 18 (ao 2 17),o1 19 (ao 18 2),o1 20 (.build [.pointer none,.pointer none] [(0,1,.t 17),(1,1,.t 19)]),o1 6
 (.alloc [.pointer none,.pointer none] 216),Js 6 20 2] (.seq (.regd (Jr 16) [Jo 21 (ao 2 0),Jp 22 (ao 21 0) [0],Jp 23 (lf 22 1) [1],Jo 24 (ao 2 0),Jp 25 (ao 24 1) [3],Jp 26 (lf 25 1) [4],Jp 27 (.build zv0 [(0,1,.t 23),(1,1,.t 26)]) [2,5],Jo 28 (ao 3
 6),Jp 29 (lt 28 2) [7],Jo 30 (ao 3 4),Jp 31 (lt 30 2) [9],Jp 32 (.build zv7 [(0,2,.t 29),(2,2,.t 31)]) [8,10]] 2 2 [o1 7 (.alloc zv0 164),o1 8 (.alloc zv7 217),Ju 7 27 2 [0,1,2,3,4,5,6,12,13],Ju 8 32 4 (Jr 15)]) (sr1 [o1 9 (.mv (.c (.int .u8 0)))]
 (.seq (sr1 [o1 33 (ao 2 0),o1 34 (lt 33 17),o1 35 (ao 2 17),o1 36 (ao 35 6),o1 37 (lf 36 1),o1 38 (lt 3 8),o1 39 (J3 126 34 37 38),Jk 40 0] (.block 0 (.loop (sr1 [o1 41 (Jc .lss 40 2)] (.seq (Ji 41 .skip (.exit 0)) (.seq (.block 1 (sr1 [m1 42 40,o1
 43 (.idx (.t 39) (.t 40) 2 2 true),o1 11 (.alloc zv0 27),m1 10 42,Js 11 43 2] (sr1 [m1 44 10,o1 45 (.ixa (.t 6) (.t 44) 2 1),o1 46 (lf 45 1),m1 12 46] (.seq (.block 2 (.seq (.regd (Jr 8) [Jm 48 12,Jp 49 (.nilc (.t 48)) [0],Jp 50 (ao 49 1) [1],Jp 51
 (lf 50 1) [2],Jo 52 (ao 11 0),Jp 53 (lf 52 1) [4],Jp 54 (Jb .lss 51 53) [3,5],Jp 47 (.mv (.t 54)) [6]] 0 0 []) (Ji 47 (sr1 [o1 55 (.build zv2 []),Js 4 55 24,o1 5 (.mv (.c (.int .u8 2)))] .ret) (.seq (.regd (Jr 8) [Jm 57 12,Jp 58 (.nilc (.t 57))
 [0],Jp 59 (ao 58 0) [1],Jp 60 (lf 59 1) [2],Jo 61 (ao 11 1),Jp 62 (lf 61 1) [4],Jp 63 (Jb .lss 60 62) [3,5],Jp 56 (.mv (.t 63)) [6]] 0 0 []) (Ji 56 (.reg [o1 9 (.mv (.c (.int .u8 1)))]) .skip))))) (.seq (.regd (Jr 23) [Jm 64 12,Jp 65 (.nilc (.t 64))
 [0],Jp 66 (ao 65 0) [1],Jp 67 (lf 66 1) [2],Jo 68 (ao 11 1),Jp 69 (lf 68 1) [4],Jp 70 (Jb .sub 67 69) [3,5],Jp 71 (.mm true [cn 0,.t 70]) [6],Jm 72 12,Jp 73 (.nilc (.t 72)) [8],Jp 74 (ao 73 1) [9],Jp 75 (lf 74 1) [10],Jo 76 (ao 11 0),Jp 77 (lf 76 1)
 [12],Jp 78 (Jb .sub 75 77) [11,13],Jp 79 (.build zv0 [(0,1,.t 71),(1,1,.t 78)]) [7,14],Jm 80 10,Jp 81 (.ixa (.t 8) (.t 80) 2 2) [16],Jp 82 (lt 81 2) [17],Jp 83 (.bsl 2 27 [.t 79,.t 82]) [15,18],Jp 84 (J1 127 83) [19]] 1 1 [o1 13 (.alloc zv0 27),Ju 13
 84 2 (Jr 22)]) (.regd (Jr 16) [Jm 85 12,Jm 86 10,Jp 87 (.ixa (.t 7) (.t 86) 2 1) [1],Jp 88 (lf 87 1) [2],Jo 89 (ao 13 0),Jp 90 (lf 89 1) [4],Jp 91 (.mm false [.t 88,.t 90]) [3,5],Jm 92 10,Jp 93 (.ixa (.t 7) (.t 92) 2 1) [7],Jp 94 (lf 93 1) [8],Jo 95
 (ao 13 1),Jp 96 (lf 95 1) [10],Jp 97 (.mm false [.t 94,.t 96]) [9,11],Jp 98 (.build zv0 [(0,1,.t 91),(1,1,.t 97)]) [6,12],Jp 99 (.nilc (.t 85)) (Jr 14)] 0 1 [Ju 99 98 2 (Jr 15)])))))) (.reg [o1 100 (Jc .add 40 1),m1 40 100]))))))) (sr1 [o1 101 (ao 2
 17),o1 102 (ao 101 4),m1 14 102] (.seq (sr1 [o1 103 (ao 3 0),o1 104 (lf 103 1),o1 105 (Jc .eql 104 0)] (Ji 105 (.seq (.regd (Jr 22) [Jm 106 14,Jm 107 14,Jp 108 (.nilc (.t 107)) [1],Jp 109 (ao 108 0) [2],Jp 110 (lf 109 1) [3],Jo 111 (ao 2 0),Jp 112
 (ao 111 14) [5],Jp 113 (lf 112 1) [6],Jp 114 (Jb .sub 110 113) [4,7],Jp 115 (.mm true [cn 0,.t 114]) [8],Jm 116 14,Jp 117 (.nilc (.t 116)) [10],Jp 118 (ao 117 1) [11],Jp 119 (lf 118 1) [12],Jo 120 (ao 2 0),Jp 121 (ao 120 14) [14],Jp 122 (lf 121 1)
 [15],Jp 123 (Jb .sub 119 122) [13,16],Jp 124 (.mm true [cn 0,.t 123]) [17],Jp 125 (.build zv0 [(0,1,.t 115),(1,1,.t 124)]) [9,18],Jp 126 (.nilc (.t 106)) (Jr 20)] 0 1 [Ju 126 125 2 (Jr 21)]) (sr1 [o1 127 (lt 2 24),m1 128 9,Js 4 127 24,m1 5 128]
 .ret)) .skip)) (.seq (.regd (Jr 16) [Jm 129 14,Jp 130 (.nilc (.t 129)) [0],Jp 131 (lt 130 2) [1],Jo 132 (ao 2 0),Jp 133 (ao 132 10) [3],Jp 134 (lt 133 2) [4],Jo 135 (ao 3 0),Jp 136 (lf 135 1) [6],Jo 137 (ao 3 1),Jp 138 (lf 137 1) [8],Jp 139 (.bsl 1 3
 [.t 136,.t 138]) [7,9],Jp 140 (.call 128 [.t 134,cn 1000000,.t 139]) [5,10],Jp 141 (.bsl 2 27 [.t 131,.t 140]) [2,11],Jp 142 (J1 127 141) [11,12]] 1 1 [o1 15 (.alloc zv0 27),Ju 15 142 2 (Jr 15)]) (sr1 [m1 143 14,o1 144 (ao 15 0),o1 145 (lf 144 1),o1
 146 (.mm false [cn 1000,.t 145]),o1 147 (ao 15 1),o1 148 (lf 147 1),o1 149 (.mm false [cn 1000,.t 148]),o1 150 (.build zv0 [(0,1,.t 146),(1,1,.t 149)]),o1 151 (.nilc (.t 143)),Js 151 150 2] (sr1 [o1 152 (lt 2 24),m1 153 9,Js 4 152 24,m1 5 153]
 .ret))))))))))
def r84:List RV:=[.cell 4 24 true,.tmp 5]
theorem t84:Qt1 Tryz.prog 84 c84 r84 154:=Z0 Tryz.func84
def c170:SC:=(sr1 [o1 3 (Jz 0 0 29),o1 4 (Jz 1 0 31),o1 5 (Jz 2 0 80),o1 6 (.alloc zv1 31),Jk 7 0] (sr1 [o1 14 (lt 3 17),o1 15 (ao 4 6),o1 16 (lf 15 1),o1 17 (lt 5 8),o1 18 (J3 175 14 16 17),m1 13 18,o1 19 (Je 13 0),o1 20 (Je 13 1),o1 8 (.alloc zv0
 27),o1 9 (.alloc zv0 27),Js 8 19 2,Js 9 20 2] (.seq (sr1 [o1 21 (ao 4 0),o1 22 (ao 21 1),o1 23 (lf 22 1),o1 24 (ao 8 0),o1 25 (lf 24 1),o1 26 (Jb .lss 23 25),m1 27 26,g1 28 27 false (ao 4 2),g1 29 27 false (ao 28 1),g1 30 27 false (lf 29 1),g1 31 27
 false (ao 9 0),g1 32 27 false (lf 31 1),g1 33 27 false (Jb .lss 30 32),o1 34 (.pick (.t 27) Jt (.t 33))] (Ji 34 (sr1 [o1 35 (.build zv1 []),Js 6 35 7,Jk 7 2] .ret) .skip)) (sr1 [Jk 10 1] (.seq (sr1 [o1 36 (ao 4 0),o1 37 (ao 36 0),o1 38 (lf 37 1),o1
 39 (ao 8 1),o1 40 (lf 39 1),o1 41 (Jb .geq 38 40),m1 42 41,g1 43 42 true (ao 4 2),g1 44 42 true (ao 43 0),g1 45 42 true (lf 44 1),g1 46 42 true (ao 9 1),g1 47 42 true (lf 46 1),g1 48 42 true (Jb .geq 45 47),o1 49 (.pick (.t 42) (.t 48) Jf)] (Ji 49
 (.reg [Jk 10 0]) .skip)) (sr1 [o1 50 (ao 4 6),o1 51 (lf 50 1),o1 52 (.build zv1 [(6,1,.t 51)]),o1 11 (.alloc zv1 31),Js 11 52 7] (sr1 [o1 53 (ao 3 0),o1 54 (lf 53 1),o1 55 (ao 4 0),o1 56 (ao 55 0),o1 57 (lf 56 1),o1 58 (ao 8 1),o1 59 (lf 58 1),o1 60
 (Jb .sub 57 59),o1 61 (.mm true [cn 0,.t 60]),o1 62 (ao 5 6),o1 63 (ao 62 0),o1 64 (lf 63 1),o1 65 (Jb .add 61 64),o1 66 (.mm false [.t 54,.t 65]),o1 67 (ao 3 0),o1 68 (lf 67 1),o1 69 (ao 4 0),o1 70 (ao 69 1),o1 71 (lf 70 1),o1 72 (ao 8 0),o1 73 (lf
 72 1),o1 74 (Jb .sub 71 73),o1 75 (ao 5 6),o1 76 (ao 75 1),o1 77 (lf 76 1),o1 78 (Jb .add 74 77),o1 79 (.mm false [.t 68,.t 78]),o1 80 (.build zv0 [(0,1,.t 66),(1,1,.t 79)]),o1 81 (ao 11 0),Js 81 80 2] (sr1 [o1 82 (ao 3 1),o1 83 (lf 82 1),o1 84 (ao 4
 2),o1 85 (ao 84 0),o1 86 (lf 85 1),o1 87 (ao 9 1),o1 88 (lf 87 1),o1 89 (Jb .sub 86 88),o1 90 (.mm true [cn 0,.t 89]),o1 91 (ao 5 4),o1 92 (ao 91 0),o1 93 (lf 92 1),o1 94 (Jb .add 90 93),o1 95 (.mm false [.t 83,.t 94]),o1 96 (ao 3 1),o1 97 (lf 96
 1),o1 98 (ao 4 2),o1 99 (ao 98 1),o1 100 (lf 99 1),o1 101 (ao 9 0),o1 102 (lf 101 1),o1 103 (Jb .sub 100 102),o1 104 (ao 5 4),o1 105 (ao 104 1),o1 106 (lf 105 1),o1 107 (Jb .add 103 106),o1 108 (.mm false [.t 97,.t 107]),o1 109 (.build zv0 [(0,1,.t
 95),(1,1,.t 108)]),o1 110 (ao 11 2),Js 110 109 2] (sr1 [o1 111 (ao 5 0),o1 112 (lf 111 1),o1 113 (ao 5 1),o1 114 (lf 113 1),o1 115 (Jb .mul 112 114),m1 12 115] (.seq (.regd (Jr 25) [Jo 116 (ao 4 4),Jp 117 (ao 116 0) [0],Jp 118 (lf 117 1) [1],Jo 119
 (ao 3 10),Jp 120 (ao 119 0) [3],Jp 121 (lf 120 1) [4],Jm 122 12,Jp 123 (Jb .mul 121 122) [5,6],Jp 124 (.div .quo (.t 123) (cn 1000000)) [7],Jp 125 (Jb .add 118 124) [2,8],Jp 126 (.mm false [cn 1000,.t 125]) [9],Jo 127 (ao 4 4),Jp 128 (ao 127 1)
 [11],Jp 129 (lf 128 1) [12],Jo 130 (ao 3 10),Jp 131 (ao 130 1) [14],Jp 132 (lf 131 1) [15],Jm 133 12,Jp 134 (Jb .mul 132 133) [16,17],Jp 135 (.call 148 [.t 134,cn 1000000]) [18],Jp 136 (Jb .add 129 135) [13,19],Jp 137 (.mm false [cn 1000,.t 136])
 [20],Jp 138 (.build zv0 [(0,1,.t 126),(1,1,.t 137)]) [10,21],Jp 139 (ao 11 4) (Jr 23)] 0 1 [Ju 139 138 2 (Jr 24)]) (.seq (sr1 [o1 140 (ao 5 0),o1 141 (lf 140 1),o1 142 (Jc .eql 141 0)] (Ji 142 (.reg [o1 143 (ao 4 4),o1 144 (ao 143 0),o1 145 (lf 144
 1),o1 146 (ao 3 14),o1 147 (lf 146 1),o1 148 (Jb .sub 145 147),o1 149 (.mm true [cn 0,.t 148]),o1 150 (ao 4 4),o1 151 (ao 150 1),o1 152 (lf 151 1),o1 153 (ao 3 14),o1 154 (lf 153 1),o1 155 (Jb .sub 152 154),o1 156 (.mm true [cn 0,.t 155]),o1 157
 (.build zv0 [(0,1,.t 149),(1,1,.t 156)]),o1 158 (ao 11 4),Js 158 157 2]) .skip)) (sr1 [o1 159 (lt 11 7),m1 160 10,Js 6 159 7,m1 7 160] .ret))))))))))))
def r170:List RV:=[.cell 6 7 true,.tmp 7]
theorem t170:Qt1 Tryz.prog 170 c170 r170 161:=Z0 Tryz.func170
def c40:SC:=(sr1 [o1 3 (Jz 0 0 29),o1 4 (Jz 1 0 31),o1 5 (Jz 2 0 80),o1 6 (.alloc zv1 31),o1 7 (.mv (.c (.int .u8 0))),Jk 8 0] (.seq (sr1 [o1 12 (lt 3 17),o1 13 (lt 4 7),o1 14 (J2 54 12 13),m1 9 14] (sr1 [m1 15 9,o1 16 (Jc .neq 15 0)] (Ji 16 (sr1 [o1
 17 (lt 6 7),m1 18 9,Js 6 17 7,o1 7 (.mv (.c (.int .u8 0))),m1 8 18] .ret) .skip))) (.seq (sr1 [o1 19 (lt 5 8),o1 20 (.bsl 8 80 [.t 19]),o1 21 (J1 83 20),m1 10 21] (sr1 [m1 22 10,o1 23 (Jc .neq 22 0)] (Ji 23 (sr1 [o1 24 (lt 6 7),m1 25 10,Js 6 24 7,o1
 7 (.mv (.c (.int .u8 0))),m1 8 25] .ret) .skip))) (sr1 [o1 27 (lt 3 17),o1 28 (lt 4 7),o1 29 (.build zv2 [(0,17,.t 27),(17,7,.t 28)]),o1 30 (lt 5 8),o1 31 (J2 84 29 30),m1 26 31,o1 32 (Je 26 0),o1 33 (Je 26 1),o1 11 (.alloc zv2 169),Js 11 32 24,m1 7
 33] (.seq (sr1 [m1 34 7,o1 35 (.bin .eql (.t 34) (.c (.int .u8 2)))] (Ji 35 (sr1 [o1 36 (lt 6 7),Js 6 36 7,o1 7 (.mv (.c (.int .u8 0))),Jk 8 13] .ret) .skip)) (sr1 [o1 37 (ao 11 17),o1 38 (lt 37 7),m1 39 7,Js 6 38 7,m1 7 39,Jk 8 0] .ret))))))
def r40:List RV:=[.cell 6 7 true,.tmp 7,.tmp 8]
theorem t40:Qt1 Tryz.prog 40 c40 r40 40:=Z0 Tryz.func40
def c150:SC:=(sr1 [o1 3 (Jz 0 0 29),o1 4 (Jz 1 0 31),o1 5 (Jz 2 0 80),o1 6 (.alloc zv1 31),Jk 7 0,Jk 8 0] (.seq (sr1 [o1 12 (lt 3 17),o1 13 (lt 4 7),o1 14 (J2 95 12 13),m1 9 14] (sr1 [m1 15 9,o1 16 (Jc .neq 15 0)] (Ji 16 (sr1 [o1 17 (.build zv1 []),m1
 18 9,Js 6 17 7,Jk 7 0,m1 8 18] .ret) .skip))) (.seq (sr1 [o1 19 (lt 5 8),o1 20 (J1 169 19),o1 21 (Jh 20)] (Ji 21 (sr1 [o1 22 (.build zv1 []),Js 6 22 7,Jk 7 0,Jk 8 12] .ret) .skip)) (sr1 [o1 24 (lt 3 17),o1 25 (lt 4 7),o1 26 (lt 5 8),o1 27 (J3 170 24
 25 26),m1 23 27,o1 28 (Je 23 0),o1 29 (Je 23 1),o1 10 (.alloc zv1 31),Js 10 28 7,m1 11 29] (.seq (sr1 [m1 30 11,o1 31 (Jc .eql 30 2)] (Ji 31 (sr1 [o1 32 (.build zv1 []),Js 6 32 7,Jk 7 0,Jk 8 13] .ret) .skip)) (sr1 [o1 33 (lt 10 7),m1 34 11,Js 6 33
 7,m1 7 34,Jk 8 0] .ret))))))
def r150:List RV:=[.cell 6 7 true,.tmp 7,.tmp 8]
theorem t150:Qt1 Tryz.prog 150 c150 r150 35:=Z0 Tryz.func150
end Go.Proofs.YtiigiflofnjilaaGreat
