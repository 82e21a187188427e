/- Walks and plain laws that lead to the given statement, part 5 of 9. -/
import Derived.Test.YtkpkgafhfakpdaaGreatDoorQD
import Derived.Test.YtkpkgafhfakpdaaGreatDoorProg
import Derived.MapKept
import Derived.WideKeyRuns
set_option maxRecDepth 100000
set_option maxHeartbeats 4000000
set_option linter.all false
open Nat renaming beq_refl->nbr
namespace Go.Sx
def m1 (d t:Nat):Ins:=⟨some d,.mv (.t t),none,[]⟩
def o1 (d:Nat) (i:SI):Ins:=⟨some d,i,none,[]⟩
def sr1 (l:List Ins) (c:SC):SC:=.seq (.reg l) c
def ao (x o:Nat):SI:=.addo (.t x) o
def lt (x m:Nat):SI:=.ld (.t x) m true
def lf (x m:Nat):SI:=.ld (.t x) m false
def cn (n:Int):X:=.c (.int .i64 n)
def g1 (d t:Nat) (b:Bool) (i:SI):Ins:=⟨some d,i,some (t,b),[]⟩
def p1 (d:Nat) (i:SI) (l:List Nat):Ins:=⟨some d,i,none,l⟩
def q1 (d t:Nat) (b:Bool) (i:SI) (l:List Nat):Ins:=⟨some d,i,some (t,b),l⟩
def Jr (n:Nat):List Nat:=List.range n
def Ji (a:Nat) (x y:SC):SC:=.cond (.t a) x y
def Jh (a:Nat):SI:=.un .not (.t a)
def Jz (a o:Nat) (T:TypeId):SI:=.box (.t a) o T
def Jw (d:Nat) (x:X):Ins:=⟨some d,.mv x,none,[]⟩
def Js (a b m:Nat):Ins:=⟨none,.st (.t a) (.t b) m,none,[]⟩
def Ju (a b m:Nat) (l:List Nat):Ins:=⟨none,.st (.t a) (.t b) m,none,l⟩
def Jv (a:Nat) (x:X) (m:Nat):Ins:=⟨none,.st (.t a) x m,none,[]⟩
def Jt:X:=.c (.bool true)
def Jf:X:=.c (.bool false)
def Jb (o:BinOp) (a b:Nat):SI:=.bin o (.t a) (.t b)
def Jc (o:BinOp) (a:Nat) (k:Int):SI:=.bin o (.t a) (cn k)
def Jx (a b m:Nat):SI:=.ixs (.t a) (.t b) m
def Jl (a:Nat):SI:=.len (.t a)
def Je (a k:Nat):SI:=.ext (.t a) k
def Jk (d:Nat) (k:Int):Ins:=⟨some d,.mv (cn k),none,[]⟩
def J1 (f a:Nat):SI:=.call f [.t a]
def J2 (f a b:Nat):SI:=.call f [.t a,.t b]
def J3 (f a b c:Nat):SI:=.call f [.t a,.t b,.t c]
def J4 (f a b c d:Nat):SI:=.call f [.t a,.t b,.t c,.t d]
def J5 (f a b c d e:Nat):SI:=.call f [.t a,.t b,.t c,.t d,.t e]
def J6 (f a b c d e g:Nat):SI:=.call f [.t a,.t b,.t c,.t d,.t e,.t g]
def Jp (d:Nat) (i:SI) (l:List Nat):VI:=.op ⟨some d,i,none,l⟩
def Jm (d x:Nat):VI:=.op ⟨some d,.mv (.t x),none,[]⟩
def Jo (d:Nat) (i:SI):VI:=.op ⟨some d,i,none,[]⟩
def Jq (d t:Nat) (b:Bool) (i:SI) (l:List Nat):VI:=.op ⟨some d,i,some (t,b),l⟩
def Jg (d t:Nat) (b:Bool) (i:SI):VI:=.op ⟨some d,i,some (t,b),[]⟩
attribute [go_sem] m1 o1 sr1 ao lt lf cn g1 p1 q1 Ji Jh Jz Jw Js Ju Jv Jt Jf Jb Jc Jx Jl Je Jk J1 J2 J3 J4 J5 J6 Jp Jm Jo Jq Jg
open Go
structure Qt1 (P:Program) (f:FuncId) (c:SC) (r:List RV) (N:Nat):Prop where
 h:∀ {args:List SV} {res:SV},KFL args->KF res->sx P Y0 0 c (st0 args N) (ZyS r res)->(hA:Nat.ble args.length N=true:=by rfl)->Ct P f args res
theorem ZU {P:Program} {f:FuncId} {fn:Func} {c:SC} {r:List RV} {N:Nat} (hf:P.funcs[f]?=some fn) (hd:fn.body.isSome=true:=by rfl) (hb:Z5 P f=true:=by kernel_rfl) (hc:YC P c (fn.body.getD .skip)=true:=by kernel_rfl) (hr:Y2 P r fn.results.toList=true:=by kernel_rfl) (hN:fn.ntmps=N:=by kernel_rfl):Qt1 P f c r N:=⟨λ{args res} ka kr h hA=>by
 cases hq:fn.body with
 | none=>rw [hq] at hd;cases hd
 | some code=>rw [hq] at hc;exact Zmw hf hq hb hc hr hN (Nat.le_of_ble_eq_true hA) ka kr h⟩
def zv0:List Value:=[.int .i64 0,.int .i64 0,.int .i64 0,.int .i64 0,.int .i64 0,.int .i64 0,.int .i64 0,.int .i64 0,.int .i64 0,.int .i64 0,.int .i64 0,.int .i64 0,.int .i64 0,.int .i64 0,.int .i64 0,.int .i64 0,.int .i64 0,.int .i64 0,.int .i64 0,.int .i64 0,.int .i64 0,.int .i64 0,.int .i64 0,.bool false]
def zv1:List Value:=[.int .i64 0,.int .i64 0]
def zv2:List Value:=[.int .i64 0,.int .i64 0,.int .i64 0,.int .i64 0,.int .i64 0,.int .i64 0,.int .i64 0,.int .i64 0,.int .i64 0,.int .i64 0,.int .i64 0,.int .i64 0,.int .i64 0,.int .i64 0,.int .i64 0,.int .i64 0,.int .i64 0]
def zv3:List Value:=[.int .i64 0,.int .i64 0,.int .i64 0,.int .i64 0,.int .i64 0,.int .i64 0,.int .i64 0,.int .i64 0]
def zv4:List Value:=[.int .i64 0,.int .i64 0,.int .i64 0,.int .i64 0,.int .i64 0,.int .i64 0,.bool false]
def zv5:List Value:=[.int .u8 0,.int .i64 0,.int .i64 0,.int .i64 0,.int .i64 0,.int .i64 0,.int .i64 0,.int .i64 0,.int .i64 0,.int .i64 0,.int .i64 0]
def zv6:List Value:=[.int .i64 0,.int .i64 0,.int .i64 0,.int .i64 0,.slice none 0 0]
def zv7:List Value:=[.slice none 0 0,.slice none 0 0,.slice none 0 0,.slice none 0 0]
def zv8:List Value:=[.int .i64 0,.int .i64 0,.int .i64 0,.int .i64 0]
def zv9:List Value:=[.slice none 0 0,.slice none 0 0,.slice none 0 0]
def zv10:List Value:=[.int .i64 0,.int .i64 0,.int .i64 0,.int .i64 0,.int .i64 0,.int .i64 0,.int .i64 0,.int .i64 0,.int .i64 0]
def zv11:List Value:=[.int .i64 0,.int .i64 0,.int .i64 0,.bool false]
def ZyX:List Value:=[.int .i64 0,.int .i64 0,.int .i64 0]
def zv14:List Value:=[.slice none 0 0,.slice none 0 0]
attribute [go_sem] zv0 zv1 zv2 zv3 zv4 zv5 zv6 zv7 zv8 zv9 zv10 zv11 ZyX zv14
end Go.Sx
namespace Go.Proofs.YtkpkgafhfakpdaaGreatDoor
open Go Go.Sx
def c60:SC:=(sr1 [o1 2 (Jz 0 0 25),o1 3 (Jz 1 0 27),o1 4 (.alloc zv1 23),Jk 5 0] (.seq (sr1 [o1 7 (lt 2 17),o1 8 (lt 3 7),o1 9 (J2 62 7 8),m1 6 9] (sr1 [m1 10 6,o1 11 (Jc .neq 10 0)] (Ji 11 (sr1 [o1 12 (.build zv1 []),m1 13 6,Js 4 12 2,m1 5 13] .ret)
 .skip))) (sr1 [o1 14 (lt 2 17),o1 15 (lt 3 7),o1 16 (.build zv0 [(0,17,.t 14),(17,7,.t 15)]),o1 17 (J1 56 16),Js 4 17 2,Jk 5 0] .ret)))
def r60:List RV:=[.cell 4 2 true,.tmp 5]
theorem t60:Qt1 Tryz.prog 60 c60 r60 18:=ZU Tryz.func60
def c118:SC:=(sr1 [o1 1 (Jz 0 0 25),Jk 2 0] (.seq (sr1 [o1 3 (ao 1 0),o1 4 (lf 3 1),o1 5 (ao 1 1),o1 6 (lf 5 1),o1 7 (.bsl 1 3 [.t 4,.t 6]),o1 8 (.call 120 [cn 1,cn 1000000,.t 7]),o1 9 (Jh 8),m1 10 9,g1 11 10 false (ao 1 2),g1 12 10 false (lt 11 2),g1
 13 10 false (ao 1 4),g1 14 10 false (lt 13 2),g1 15 10 false (ao 1 6),g1 16 10 false (lt 15 2),g1 17 10 false (ao 1 8),g1 18 10 false (lt 17 2),g1 19 10 false (ao 1 10),g1 20 10 false (lt 19 2),g1 21 10 false (ao 1 12),g1 22 10 false (lt 21 2),g1 23
 10 false (.bsl 2 23 [.t 12,.t 14,.t 16,.t 18,.t 20,.t 22]),g1 24 10 false (.call 119 [cn 0,cn 100000,.t 23]),g1 25 10 false (Jh 24),o1 26 (.pick (.t 10) Jt (.t 25)),m1 27 26,g1 28 27 false (ao 1 15),g1 29 27 false (lt 28 2),g1 30 27 false (.bsl 2 23
 [.t 29]),g1 31 27 false (.call 119 [cn 0,cn 1000000,.t 30]),g1 32 27 false (Jh 31),o1 33 (.pick (.t 27) Jt (.t 32)),m1 34 33,g1 35 34 false (ao 1 14),g1 36 34 false (lf 35 1),g1 37 34 false (.bsl 1 3 [.t 36]),g1 38 34 false (.call 120 [cn 0,cn
 1000,.t 37]),g1 39 34 false (Jh 38),o1 40 (.pick (.t 34) Jt (.t 39))] (Ji 40 (sr1 [Jk 2 10] .ret) .skip)) (sr1 [Jk 2 0] .ret)))
def r118:List RV:=[.tmp 2]
theorem t118:Qt1 Tryz.prog 118 c118 r118 41:=ZU Tryz.func118
def c62:SC:=(sr1 [o1 2 (Jz 0 0 25),o1 3 (Jz 1 0 27),Jk 4 0] (.seq (sr1 [o1 6 (lt 2 17),o1 7 (J1 118 6),m1 5 7] (sr1 [m1 8 5,o1 9 (Jc .neq 8 0)] (Ji 9 (sr1 [m1 10 5,m1 4 10] .ret) .skip))) (.seq (sr1 [o1 11 (ao 2 0),o1 12 (lf 11 1),o1 13 (ao 3 0),o1 14
 (lt 13 2),o1 15 (.bsl 2 23 [.t 14]),o1 16 (.call 119 [cn 0,.t 12,.t 15]),o1 17 (Jh 16),m1 18 17,g1 19 18 false (ao 2 1),g1 20 18 false (lf 19 1),g1 21 18 false (ao 3 2),g1 22 18 false (lt 21 2),g1 23 18 false (.bsl 2 23 [.t 22]),g1 24 18 false (.call
 119 [cn 0,.t 20,.t 23]),g1 25 18 false (Jh 24),o1 26 (.pick (.t 18) Jt (.t 25)),m1 27 26,g1 28 27 false (ao 3 4),g1 29 27 false (lt 28 2),g1 30 27 false (.bsl 2 23 [.t 29]),g1 31 27 false (.call 119 [cn 0,cn 1000,.t 30]),g1 32 27 false (Jh 31),o1 33
 (.pick (.t 27) Jt (.t 32))] (Ji 33 (sr1 [Jk 4 11] .ret) .skip)) (sr1 [Jk 4 0] .ret))))
def r62:List RV:=[.tmp 4]
theorem t62:Qt1 Tryz.prog 62 c62 r62 34:=ZU Tryz.func62
def c44:SC:=(sr1 [o1 2 (Jz 0 0 25),o1 3 (Jz 1 0 27),Jk 4 0] (.seq (sr1 [o1 5 (lt 2 17),o1 6 (J1 107 5),o1 7 (Jh 6)] (Ji 7 (sr1 [Jk 4 10] .ret) .skip)) (.seq (sr1 [o1 8 (lt 2 17),o1 9 (lt 3 7),o1 10 (J2 108 8 9),o1 11 (Jh 10)] (Ji 11 (sr1 [Jk 4 11] .ret) .skip)) (sr1 [Jk 4 0] .ret))))
def r44:List RV:=[.tmp 4]
theorem t44:Qt1 Tryz.prog 44 c44 r44 12:=ZU Tryz.func44
def c108:SC:=(sr1 [o1 2 (Jz 0 0 25),o1 3 (Jz 1 0 27),Jw 4 Jf] (sr1 [o1 5 (ao 3 0),o1 6 (lt 5 2),o1 7 (ao 2 0),o1 8 (lf 7 1),o1 9 (.call 169 [.t 6,cn 0,.t 8]),m1 10 9,g1 11 10 true (ao 3 2),g1 12 10 true (lt 11 2),g1 13 10 true (ao 2 1),g1 14 10 true
 (lf 13 1),g1 15 10 true (.call 169 [.t 12,cn 0,.t 14]),o1 16 (.pick (.t 10) (.t 15) Jf),m1 17 16,g1 18 17 true (ao 3 4),g1 19 17 true (lt 18 2),g1 20 17 true (.call 169 [.t 19,cn 0,cn 1000]),o1 21 (.pick (.t 17) (.t 20) Jf),m1 4 21] .ret))
def r108:List RV:=[.tmp 4]
theorem t108:Qt1 Tryz.prog 108 c108 r108 22:=ZU Tryz.func108
def c113:SC:=(sr1 [o1 1 (Jz 0 0 128),o1 2 (.alloc zv1 23)] (sr1 [o1 6 (.build zv1 [(0,1,.c (.int .i64 1000)),(1,1,.c (.int .i64 1000))]),o1 3 (.alloc zv1 23),Js 3 6 2] (.seq (.seq (.regd (Jr 22) [Jo 7 (ao 1 17),Jp 8 (ao 7 0) [0],Jp 9 (lt 8 2) [1],Jo
 10 (ao 1 0),Jp 11 (ao 10 0) [3],Jp 12 (lf 11 1) [4],Jo 13 (.bsl 1 3 [cn 2,cn 1000]),Jp 14 (J3 117 9 12 13) [2,5,6],Jo 15 (ao 1 17),Jp 16 (ao 15 2) [8],Jp 17 (lt 16 2) [9],Jo 18 (ao 1 0),Jp 19 (ao 18 1) [11],Jp 20 (lf 19 1) [12],Jo 21 (.bsl 1 3 [cn
 2,cn 1000]),Jp 22 (J3 117 17 20 21) [7,10,13,14],Jo 23 (ao 1 17),Jp 24 (ao 23 4) [16],Jp 25 (lt 24 2) [17],Jp 26 (.call 161 [cn 1000,.t 25]) [15,18],Jp 27 (.build [.int .i64 0,.int .i64 0,.int .i64 0,.int .i64 0,.int .i64 0,.int .i64 0] [(0,2,.t
 14),(2,2,.t 22),(4,2,.t 26)]) [7,15,19],.op (Jk 28 0)] 0 0 []) (.block 0 (.loop (sr1 [o1 29 (Jc .lss 28 3)] (.seq (Ji 29 .skip (.exit 0)) (.seq (.block 1 (sr1 [o1 30 (.idx (.t 27) (.t 28) 3 2 true),o1 5 (.alloc zv1 23),Js 5 30 2] (.reg [o1 31 (ao 3
 0),o1 32 (lf 31 1),o1 33 (ao 5 0),o1 34 (lf 33 1),o1 35 (.mm false [.t 32,.t 34]),o1 36 (ao 3 1),o1 37 (lf 36 1),o1 38 (ao 5 1),o1 39 (lf 38 1),o1 40 (.mm false [.t 37,.t 39]),o1 41 (.build zv1 [(0,1,.t 35),(1,1,.t 40)]),Js 3 41 2]))) (.reg [o1 42
 (Jc .add 28 1),m1 28 42]))))))) (sr1 [o1 43 (lt 3 2),Js 2 43 2] .ret))))
def r113:List RV:=[.cell 2 2 true]
theorem t113:Qt1 Tryz.prog 113 c113 r113 44:=ZU Tryz.func113
def c56:SC:=(sr1 [o1 1 (Jz 0 0 128),o1 2 (.alloc zv1 23)] (sr1 [o1 4 (lt 1 24),o1 5 (J1 113 4),o1 3 (.alloc zv1 23),Js 3 5 2] (.seq (.regd (Jr 18) [Jo 6 (ao 1 0),Jp 7 (ao 6 15) [0],Jp 8 (ao 7 0) [1],Jp 9 (lf 8 1) [2],Jo 10 (ao 3 0),Jp 11 (lf 10 1)
 [4],Jp 12 (Jb .mul 9 11) [3,5],Jp 13 (.div .quo (.t 12) (cn 1000)) [6],Jo 14 (ao 1 0),Jp 15 (ao 14 15) [8],Jp 16 (ao 15 1) [9],Jp 17 (lf 16 1) [10],Jo 18 (ao 3 1),Jp 19 (lf 18 1) [12],Jp 20 (Jb .mul 17 19) [11,13],Jp 21 (.call 114 [.t 20,cn 1000])
 [14],Jp 22 (.build zv1 [(0,1,.t 13),(1,1,.t 21)]) [7,15]] 0 1 [Ju 2 22 2 (Jr 17)]) .ret)))
def r56:List RV:=[.cell 2 2 true]
theorem t56:Qt1 Tryz.prog 56 c56 r56 23:=ZU Tryz.func56
def c63:SC:=(sr1 [Jk 2 0] (.seq (sr1 [m1 5 0,o1 6 (Jl 5),Jk 7 0] (.block 0 (.loop (sr1 [o1 8 (Jb .lss 7 6)] (.seq (Ji 8 .skip (.exit 0)) (.seq (.block 1 (sr1 [o1 9 (Jx 5 7 8),o1 10 (lt 9 8),o1 4 (.alloc zv3 43),Js 4 10 8] (sr1 [o1 11 (ao 4 0),o1 12
 (lf 11 1),o1 13 (.bsl 1 3 [.t 12]),o1 14 (.call 120 [cn 0,cn 24,.t 13]),o1 15 (Jh 14),m1 16 15,g1 17 16 false (ao 4 1),g1 18 16 false (lf 17 1),g1 19 16 false (.bsl 1 3 [.t 18]),g1 20 16 false (.call 120 [cn 0,cn 1000000,.t 19]),g1 21 16 false (Jh
 20),o1 22 (.pick (.t 16) Jt (.t 21)),m1 23 22,g1 24 23 false (ao 4 2),g1 25 23 false (lt 24 2),g1 26 23 false (.bsl 2 23 [.t 25]),g1 27 23 false (.call 119 [cn 0,cn 60,.t 26]),g1 28 23 false (Jh 27),o1 29 (.pick (.t 23) Jt (.t 28)),m1 30 29,g1 31 30
 false (ao 4 4),g1 32 30 false (lt 31 2),g1 33 30 false (ao 4 6),g1 34 30 false (lt 33 2),g1 35 30 false (.bsl 2 23 [.t 32,.t 34]),g1 36 30 false (.call 119 [cn 0,cn 1000000,.t 35]),g1 37 30 false (Jh 36),o1 38 (.pick (.t 30) Jt (.t 37))] (Ji 38 (sr1
 [Jk 2 12] .ret) .skip)))) (.reg [o1 39 (Jc .add 7 1),m1 7 39]))))))) (sr1 [Jk 2 0] .ret)))
def r63:List RV:=[.tmp 2]
theorem t63:Qt1 Tryz.prog 63 c63 r63 40:=ZU Tryz.func63
def c115:SC:=(sr1 [o1 3 (Jz 0 0 25),o1 5 (Jz 2 0 43),o1 6 (.alloc zv8 218)] (sr1 [o1 10 (ao 5 2),o1 11 (ao 10 0),o1 12 (lf 11 1),o1 13 (Jc .sub 12 20),o1 14 (.mm true [cn 0,.t 13]),o1 15 (ao 5 2),o1 16 (ao 15 1),o1 17 (lf 16 1),o1 18 (Jc .sub 17
 20),o1 19 (.mm true [cn 0,.t 18]),o1 20 (.build zv1 [(0,1,.t 14),(1,1,.t 19)]),o1 7 (.alloc zv1 23),Js 7 20 2] (sr1 [o1 21 (ao 5 0),o1 22 (lf 21 1),o1 23 (ao 5 1),o1 24 (lf 23 1),o1 25 (.bin .add (cn 100000) (.t 24)),o1 26 (Jb .mul 22 25),m1 8 26]
 (.seq (.regd (Jr 24) [Jo 27 (ao 3 2),Jp 28 (lt 27 2) [0],Jo 29 (ao 3 4),Jp 30 (ao 29 0) [2],Jp 31 (lf 30 1) [3],Jo 32 (ao 7 0),Jp 33 (lf 32 1) [5],Jp 34 (Jb .mul 31 33) [4,6],Jo 35 (ao 3 4),Jp 36 (ao 35 1) [8],Jp 37 (lf 36 1) [9],Jo 38 (ao 7 1),Jp 39
 (lf 38 1) [11],Jp 40 (Jb .mul 37 39) [10,12],Jp 41 (.build zv1 [(0,1,.t 34),(1,1,.t 40)]) [7,13],Jo 42 (ao 3 6),Jp 43 (lt 42 2) [15],Jm 44 8,Jp 45 (.bsl 1 3 [.t 44]) [17],Jp 46 (.call 117 [.t 43,cn 100000,.t 45]) [16,18],Jp 47 (.bsl 2 23 [.t 28,.t
 41,.t 46]) [1,14,19],Jp 48 (J1 116 47) [19,20]] 1 1 [o1 9 (.alloc zv1 23),Ju 9 48 2 (Jr 23)]) (.seq (sr1 [m1 49 1] (Ji 49 (.reg [o1 50 (lt 9 2),o1 51 (ao 3 12),o1 52 (lt 51 2),o1 53 (.bsl 2 23 [.t 50,.t 52]),o1 54 (J1 116 53),Js 9 54 2]) .skip))
 (.seq (.regd (Jr 8) [Jo 55 (lt 9 2),Jo 56 (ao 3 8),Jp 57 (lt 56 2) [1],Jm 58 8,Jp 59 (.bsl 1 3 [.t 58]) [3],Jp 60 (.call 117 [.t 57,cn 100000,.t 59]) [2,4],Jp 61 (.build zv8 [(0,2,.t 55),(2,2,.t 60)]) [0,5]] 0 1 [Ju 6 61 4 (Jr 7)]) .ret))))))
def r115:List RV:=[.cell 6 4 true]
theorem t115:Qt1 Tryz.prog 115 c115 r115 62:=ZU Tryz.func115
def c107:SC:=(sr1 [o1 1 (Jz 0 0 25),Jw 2 Jf] (.seq (sr1 [o1 3 (ao 1 0),o1 4 (lf 3 1),o1 5 (.call 168 [.t 4,cn 1,cn 1000000]),o1 6 (Jh 5),m1 7 6,g1 8 7 false (ao 1 1),g1 9 7 false (lf 8 1),g1 10 7 false (.call 168 [.t 9,cn 1,cn 1000000]),g1 11 7 false
 (Jh 10),o1 12 (.pick (.t 7) Jt (.t 11)),m1 13 12,g1 14 13 false (ao 1 14),g1 15 13 false (lf 14 1),g1 16 13 false (.call 168 [.t 15,cn 0,cn 1000]),g1 17 13 false (Jh 16),o1 18 (.pick (.t 13) Jt (.t 17)),m1 19 18,g1 20 19 false (ao 1 15),g1 21 19
 false (lt 20 2),g1 22 19 false (.call 169 [.t 21,cn 0,cn 1000000]),g1 23 19 false (Jh 22),o1 24 (.pick (.t 19) Jt (.t 23))] (Ji 24 (sr1 [Jw 2 Jf] .ret) .skip)) (sr1 [o1 25 (ao 1 2),o1 26 (lt 25 2),o1 27 (.call 169 [.t 26,cn 0,cn 100000]),m1 28 27,g1
 29 28 true (ao 1 4),g1 30 28 true (lt 29 2),g1 31 28 true (.call 169 [.t 30,cn 0,cn 100000]),o1 32 (.pick (.t 28) (.t 31) Jf),m1 33 32,g1 34 33 true (ao 1 6),g1 35 33 true (lt 34 2),g1 36 33 true (.call 169 [.t 35,cn 0,cn 100000]),o1 37 (.pick (.t
 33) (.t 36) Jf),m1 38 37,g1 39 38 true (ao 1 8),g1 40 38 true (lt 39 2),g1 41 38 true (.call 169 [.t 40,cn 0,cn 100000]),o1 42 (.pick (.t 38) (.t 41) Jf),m1 43 42,g1 44 43 true (ao 1 10),g1 45 43 true (lt 44 2),g1 46 43 true (.call 169 [.t 45,cn 0,cn
 100000]),o1 47 (.pick (.t 43) (.t 46) Jf),m1 48 47,g1 49 48 true (ao 1 12),g1 50 48 true (lt 49 2),g1 51 48 true (.call 169 [.t 50,cn 0,cn 100000]),o1 52 (.pick (.t 48) (.t 51) Jf),m1 2 52] .ret)))
def r107:List RV:=[.tmp 2]
theorem t107:Qt1 Tryz.prog 107 c107 r107 53:=ZU Tryz.func107
def c120:SC:=(sr1 [o1 3 (Jz 0 0 3),o1 4 (Jz 1 0 3),Jw 6 Jf] (sr1 [m1 7 2,o1 8 (.mkf 175 [.t 3,.t 4]),o1 9 (J2 140 7 8),o1 10 (Jh 9),m1 6 10] .ret))
def r120:List RV:=[.tmp 6]
theorem t120:Qt1 Tryz.prog 120 c120 r120 11:=ZU Tryz.func120
def c119:SC:=(sr1 [o1 3 (Jz 0 0 3),o1 4 (Jz 1 0 3),Jw 6 Jf] (sr1 [m1 7 2,o1 8 (.mkf 174 [.t 3,.t 4]),o1 9 (J2 173 7 8),o1 10 (Jh 9),m1 6 10] .ret))
def r119:List RV:=[.tmp 6]
theorem t119:Qt1 Tryz.prog 119 c119 r119 11:=ZU Tryz.func119
def c116:SC:=(sr1 [o1 2 (.alloc zv1 23)] (sr1 [o1 3 (.alloc zv1 23)] (.seq (sr1 [m1 6 0,o1 7 (Jl 6),Jk 8 0] (.block 0 (.loop (sr1 [o1 9 (Jb .lss 8 7)] (.seq (Ji 9 .skip (.exit 0)) (.seq (.block 1 (sr1 [o1 10 (Jx 6 8 2),o1 11 (lt 10 2),o1 5 (.alloc zv1
 23),Js 5 11 2] (.reg [o1 12 (ao 3 0),o1 13 (lf 12 1),o1 14 (ao 5 0),o1 15 (lf 14 1),o1 16 (Jb .add 13 15),o1 17 (ao 3 1),o1 18 (lf 17 1),o1 19 (ao 5 1),o1 20 (lf 19 1),o1 21 (Jb .add 18 20),o1 22 (.build zv1 [(0,1,.t 16),(1,1,.t 21)]),Js 3 22 2])))
 (.reg [o1 23 (Jc .add 8 1),m1 8 23]))))))) (sr1 [o1 24 (lt 3 2),Js 2 24 2] .ret))))
def r116:List RV:=[.cell 2 2 true]
theorem t116:Qt1 Tryz.prog 116 c116 r116 25:=ZU Tryz.func116
def c161:SC:=(sr1 [o1 3 (Jz 1 0 23),o1 4 (.alloc zv1 23)] (sr1 [m1 5 0,o1 6 (ao 3 1),o1 7 (lf 6 1),o1 8 (Jb .sub 5 7),m1 9 0,o1 10 (ao 3 0),o1 11 (lf 10 1),o1 12 (Jb .sub 9 11),o1 13 (.build zv1 [(0,1,.t 8),(1,1,.t 12)]),Js 4 13 2] .ret))
def r161:List RV:=[.cell 4 2 true]
theorem t161:Qt1 Tryz.prog 161 c161 r161 14:=ZU Tryz.func161
def c169:SC:=(sr1 [o1 3 (Jz 0 0 23),Jw 6 Jf] (sr1 [o1 7 (ao 3 0),o1 8 (lf 7 1),m1 9 1,o1 10 (ao 3 1),o1 11 (lf 10 1),o1 12 (J3 168 8 9 11),m1 13 12,g1 14 13 true (ao 3 1),g1 15 13 true (lf 14 1),g1 16 13 true (.mv (.t 2)),g1 17 13 true (Jb .leq 15
 16),o1 18 (.pick (.t 13) (.t 17) Jf),m1 6 18] .ret))
def r169:List RV:=[.tmp 6]
theorem t169:Qt1 Tryz.prog 169 c169 r169 19:=ZU Tryz.func169
def c168:SC:=(sr1 [Jw 6 Jf] (sr1 [m1 7 0,m1 8 1,o1 9 (Jb .geq 7 8),m1 10 9,g1 11 10 true (.mv (.t 0)),g1 12 10 true (.mv (.t 2)),g1 13 10 true (Jb .leq 11 12),o1 14 (.pick (.t 10) (.t 13) Jf),m1 6 14] .ret))
def r168:List RV:=[.tmp 6]
theorem t168:Qt1 Tryz.prog 168 c168 r168 15:=ZU Tryz.func168
def c117:SC:=(sr1 [o1 3 (Jz 0 0 23),o1 6 (.alloc zv1 23)] (.seq (sr1 [m1 9 2,o1 10 (Jl 9),Jk 11 0] (.block 0 (.loop (sr1 [o1 12 (Jb .lss 11 10)] (.seq (Ji 12 .skip (.exit 0)) (.seq (.block 1 (sr1 [o1 13 (Jx 9 11 1),o1 14 (lf 13 1),m1 8 14] (.reg [o1
 15 (ao 3 0),o1 16 (lf 15 1),m1 17 8,o1 18 (Jb .mul 16 17),o1 19 (ao 3 1),o1 20 (lf 19 1),m1 21 8,o1 22 (Jb .mul 20 21),o1 23 (ao 3 0),Js 23 18 1,o1 24 (ao 3 1),Js 24 22 1]))) (.reg [o1 25 (Jc .add 11 1),m1 11 25]))))))) (.seq (.regd (Jr 10) [Jo 26
 (ao 3 0),Jp 27 (lf 26 1) [0],Jm 28 1,Jp 29 (.div .quo (.t 27) (.t 28)) [1,2],Jo 30 (ao 3 1),Jp 31 (lf 30 1) [4],Jm 32 1,Jp 33 (J2 114 31 32) [5,6],Jp 34 (.build zv1 [(0,1,.t 29),(1,1,.t 33)]) [3,7]] 0 1 [Ju 6 34 2 (Jr 9)]) .ret)))
def r117:List RV:=[.cell 6 2 true]
theorem t117:Qt1 Tryz.prog 117 c117 r117 35:=ZU Tryz.func117
def c114:SC:=(sr1 [Jk 4 0] (sr1 [m1 5 0,m1 6 1,o1 7 (Jb .add 5 6),o1 8 (Jc .sub 7 1),m1 9 1,o1 10 (.div .quo (.t 8) (.t 9)),m1 4 10] .ret))
def r114:List RV:=[.tmp 4]
theorem t114:Qt1 Tryz.prog 114 c114 r114 11:=ZU Tryz.func114
def c175:SC:=(sr1 [Jw 4 Jf] (sr1 [m1 5 0,o1 6 (lf 1 1),o1 7 (Jb .lss 5 6),m1 8 7,g1 9 8 false (.mv (.t 0)),g1 10 8 false (lf 2 1),g1 11 8 false (Jb .gtr 9 10),o1 12 (.pick (.t 8) Jt (.t 11)),m1 4 12] .ret))
def r175:List RV:=[.tmp 4]
theorem t175:Qt1 Tryz.prog 175 c175 r175 13:=ZU Tryz.func175
def c174:SC:=(sr1 [o1 3 (Jz 0 0 23),Jw 4 Jf] (sr1 [o1 5 (ao 3 0),o1 6 (lf 5 1),o1 7 (ao 3 1),o1 8 (lf 7 1),o1 9 (Jb .gtr 6 8),m1 10 9,g1 11 10 false (lf 1 1),g1 12 10 false (lf 2 1),g1 13 10 false (ao 3 0),g1 14 10 false (lf 13 1),g1 15 10 false (ao 3
 1),g1 16 10 false (lf 15 1),g1 17 10 false (.bsl 1 3 [.t 14,.t 16]),g1 18 10 false (J3 120 11 12 17),g1 19 10 false (Jh 18),o1 20 (.pick (.t 10) Jt (.t 19)),m1 4 20] .ret))
def r174:List RV:=[.tmp 4]
theorem t174:Qt1 Tryz.prog 174 c174 r174 21:=ZU Tryz.func174
def c11:SC:=(sr1 [o1 3 (Jz 0 0 25),o1 4 (Jz 1 0 27),o1 5 (Jz 2 0 32),Jk 6 0,Jk 7 0] (.seq (sr1 [o1 10 (lt 3 17),o1 11 (lt 4 7),o1 12 (lf 5 1),o1 13 (J3 54 10 11 12),m1 8 13] (sr1 [m1 14 8,o1 15 (Jc .neq 14 0)] (Ji 15 (sr1 [m1 16 8,Jk 6 0,m1 7 16]
 .ret) .skip))) (sr1 [o1 17 (.mkf 55 [.t 3,.t 4,.t 5]),m1 9 17] (.seq (sr1 [m1 18 9,o1 19 (.calv (.t 18) [cn 0]),o1 20 (Jh 19)] (Ji 20 (sr1 [Jk 6 0,Jk 7 13] .ret) .skip)) (sr1 [m1 21 9,o1 22 (.call 58 [cn 0,cn 1000000,.t 21]),m1 6 22,Jk 7 0] .ret)))))
def r11:List RV:=[.tmp 6,.tmp 7]
theorem t11:Qt1 Tryz.prog 11 c11 r11 23:=ZU Tryz.func11
def c101:SC:=(sr1 [o1 2 (Jz 0 0 25),o1 4 (.alloc zv1 23),Jk 5 0] (.seq (sr1 [o1 11 (lt 2 17),o1 12 (J1 118 11),m1 6 12] (sr1 [m1 13 6,o1 14 (Jc .neq 13 0)] (Ji 14 (sr1 [o1 15 (.build zv1 []),m1 16 6,Js 4 15 2,m1 5 16] .ret) .skip))) (.seq (sr1 [m1 17
 1,o1 18 (Jl 17),o1 19 (Jc .gtr 18 30)] (Ji 19 (sr1 [o1 20 (.build zv1 []),Js 4 20 2,Jk 5 4] .ret) .skip)) (sr1 [o1 7 (.alloc zv1 23)] (.seq (sr1 [m1 21 1,o1 22 (Jl 21),Jk 23 0] (.block 0 (.loop (sr1 [o1 24 (Jb .lss 23 22)] (.seq (Ji 24 .skip (.exit
 0)) (.seq (.block 1 (sr1 [o1 25 (Jx 21 23 7),o1 26 (lt 25 7),o1 9 (.alloc zv4 27),Js 9 26 7] (.seq (sr1 [o1 27 (lt 2 17),o1 28 (lt 9 7),o1 29 (J2 62 27 28),m1 10 29] (sr1 [m1 30 10,o1 31 (Jc .neq 30 0)] (Ji 31 (sr1 [o1 32 (.build zv1 []),m1 33 10,Js
 4 32 2,m1 5 33] .ret) .skip))) (.regd (Jr 9) [Jo 34 (lt 7 2),Jo 35 (ao 2 0),Jp 36 (lf 35 1) [1],Jo 37 (ao 9 0),Jp 38 (lt 37 2) [3],Jp 39 (J2 161 36 38) [2,4],Jp 40 (.bsl 2 23 [.t 34,.t 39]) [0,5],Jp 41 (J1 116 40) [5,6]] 0 1 [Ju 7 41 2 (Jr 8)]))))
 (.reg [o1 42 (Jc .add 23 1),m1 23 42]))))))) (sr1 [o1 43 (lt 7 2),Js 4 43 2,Jk 5 0] .ret))))))
def r101:List RV:=[.cell 4 2 true,.tmp 5]
theorem t101:Qt1 Tryz.prog 101 c101 r101 44:=ZU Tryz.func101
def c54:SC:=(sr1 [o1 3 (Jz 0 0 25),o1 4 (Jz 1 0 27),Jk 6 0] (.seq (sr1 [o1 8 (lt 3 17),o1 9 (lt 4 7),o1 10 (J2 62 8 9),m1 7 10] (sr1 [m1 11 7,o1 12 (Jc .neq 11 0)] (Ji 12 (sr1 [m1 13 7,m1 6 13] .ret) .skip))) (.seq (sr1 [m1 14 2,o1 15 (Jl 14),o1 16
 (Jc .gtr 15 60)] (Ji 16 (sr1 [Jk 6 4] .ret) .skip)) (sr1 [m1 17 2,o1 18 (J1 63 17),m1 6 18] .ret))))
def r54:List RV:=[.tmp 6]
theorem t54:Qt1 Tryz.prog 54 c54 r54 19:=ZU Tryz.func54
def c55:SC:=(sr1 [Jw 5 Jf] (sr1 [o1 11 (lt 1 17),o1 12 (lt 2 7),o1 13 (.build zv0 [(0,17,.t 11),(17,7,.t 12)]),o1 6 (.alloc zv0 128),Js 6 13 24] (.seq (sr1 [o1 14 (lf 3 1),o1 15 (Jl 14),Jk 16 0] (.block 0 (.loop (sr1 [o1 17 (Jb .lss 16 15)] (.seq (Ji
 17 .skip (.exit 0)) (.seq (.block 1 (sr1 [o1 18 (Jx 14 16 8),o1 19 (lt 18 8),o1 8 (.alloc zv3 43),Js 8 19 8] (.seq (sr1 [m1 20 0,o1 21 (ao 8 1),Js 21 20 1] (sr1 [o1 22 (ao 8 0),o1 23 (lf 22 1),o1 24 (Jc .gtr 23 0),m1 25 24,g1 26 25 true (lt 6 24),g1
 27 25 true (J1 56 26),g1 28 25 true (.fld (.t 27) 0 1 false),g1 29 25 true (.mv (.t 0)),g1 30 25 true (Jb .lss 28 29),o1 31 (.pick (.t 25) (.t 30) Jf)] (Ji 31 (sr1 [Jw 5 Jf] .ret) .skip))) (sr1 [o1 33 (lt 6 24),o1 34 (lt 8 8),o1 35 (J2 57 33 34),m1
 32 35,o1 36 (Je 32 0),o1 37 (Je 32 1),o1 9 (.alloc zv0 128),Js 9 36 24,m1 10 37] (.seq (sr1 [m1 38 10,o1 39 (.bin .neq (.t 38) (.c (.int .u8 0)))] (Ji 39 (sr1 [Jw 5 Jf] .ret) .skip)) (.reg [o1 40 (lt 9 24),Js 6 40 24])))))) (.reg [o1 41 (Jc .add 16
 1),m1 16 41]))))))) (sr1 [Jw 5 Jt] .ret))))
def r55:List RV:=[.tmp 5]
theorem t55:Qt1 Tryz.prog 55 c55 r55 42:=ZU Tryz.func55
def c57:SC:=(sr1 [o1 2 (Jz 0 0 128),o1 3 (Jz 1 0 43),o1 4 (.alloc zv0 128),o1 5 (.mv (.c (.int .u8 0)))] (sr1 [o1 16 (ao 2 17),o1 17 (ao 16 0),o1 18 (ao 2 17),o1 19 (ao 18 2),o1 20 (.build [.pointer none,.pointer none] [(0,1,.t 17),(1,1,.t 19)]),o1 6
 (.alloc [.pointer none,.pointer none] 217),Js 6 20 2] (.seq (.regd (Jr 16) [Jo 21 (ao 2 0),Jp 22 (ao 21 0) [0],Jp 23 (lf 22 1) [1],Jo 24 (ao 2 0),Jp 25 (ao 24 1) [3],Jp 26 (lf 25 1) [4],Jp 27 (.build zv1 [(0,1,.t 23),(1,1,.t 26)]) [2,5],Jo 28 (ao 3
 6),Jp 29 (lt 28 2) [7],Jo 30 (ao 3 4),Jp 31 (lt 30 2) [9],Jp 32 (.build zv8 [(0,2,.t 29),(2,2,.t 31)]) [8,10]] 2 2 [o1 7 (.alloc zv1 172),o1 8 (.alloc zv8 218),Ju 7 27 2 [0,1,2,3,4,5,6,12,13],Ju 8 32 4 (Jr 15)]) (sr1 [o1 9 (.mv (.c (.int .u8 0)))]
 (.seq (sr1 [o1 33 (ao 2 0),o1 34 (lt 33 17),o1 35 (ao 2 17),o1 36 (ao 35 6),o1 37 (lf 36 1),o1 38 (lt 3 8),o1 39 (J3 115 34 37 38),Jk 40 0] (.block 0 (.loop (sr1 [o1 41 (Jc .lss 40 2)] (.seq (Ji 41 .skip (.exit 0)) (.seq (.block 1 (sr1 [m1 42 40,o1
 43 (.idx (.t 39) (.t 40) 2 2 true),o1 11 (.alloc zv1 23),m1 10 42,Js 11 43 2] (sr1 [m1 44 10,o1 45 (.ixa (.t 6) (.t 44) 2 1),o1 46 (lf 45 1),m1 12 46] (.seq (.block 2 (.seq (.regd (Jr 8) [Jm 48 12,Jp 49 (.nilc (.t 48)) [0],Jp 50 (ao 49 1) [1],Jp 51
 (lf 50 1) [2],Jo 52 (ao 11 0),Jp 53 (lf 52 1) [4],Jp 54 (Jb .lss 51 53) [3,5],Jp 47 (.mv (.t 54)) [6]] 0 0 []) (Ji 47 (sr1 [o1 55 (.build zv0 []),Js 4 55 24,o1 5 (.mv (.c (.int .u8 2)))] .ret) (.seq (.regd (Jr 8) [Jm 57 12,Jp 58 (.nilc (.t 57))
 [0],Jp 59 (ao 58 0) [1],Jp 60 (lf 59 1) [2],Jo 61 (ao 11 1),Jp 62 (lf 61 1) [4],Jp 63 (Jb .lss 60 62) [3,5],Jp 56 (.mv (.t 63)) [6]] 0 0 []) (Ji 56 (.reg [o1 9 (.mv (.c (.int .u8 1)))]) .skip))))) (.seq (.regd (Jr 23) [Jm 64 12,Jp 65 (.nilc (.t 64))
 [0],Jp 66 (ao 65 0) [1],Jp 67 (lf 66 1) [2],Jo 68 (ao 11 1),Jp 69 (lf 68 1) [4],Jp 70 (Jb .sub 67 69) [3,5],Jp 71 (.mm true [cn 0,.t 70]) [6],Jm 72 12,Jp 73 (.nilc (.t 72)) [8],Jp 74 (ao 73 1) [9],Jp 75 (lf 74 1) [10],Jo 76 (ao 11 0),Jp 77 (lf 76 1)
 [12],Jp 78 (Jb .sub 75 77) [11,13],Jp 79 (.build zv1 [(0,1,.t 71),(1,1,.t 78)]) [7,14],Jm 80 10,Jp 81 (.ixa (.t 8) (.t 80) 2 2) [16],Jp 82 (lt 81 2) [17],Jp 83 (.bsl 2 23 [.t 79,.t 82]) [15,18],Jp 84 (J1 116 83) [19]] 1 1 [o1 13 (.alloc zv1 23),Ju 13
 84 2 (Jr 22)]) (.regd (Jr 16) [Jm 85 12,Jm 86 10,Jp 87 (.ixa (.t 7) (.t 86) 2 1) [1],Jp 88 (lf 87 1) [2],Jo 89 (ao 13 0),Jp 90 (lf 89 1) [4],Jp 91 (.mm false [.t 88,.t 90]) [3,5],Jm 92 10,Jp 93 (.ixa (.t 7) (.t 92) 2 1) [7],Jp 94 (lf 93 1) [8],Jo 95
 (ao 13 1),Jp 96 (lf 95 1) [10],Jp 97 (.mm false [.t 94,.t 96]) [9,11],Jp 98 (.build zv1 [(0,1,.t 91),(1,1,.t 97)]) [6,12],Jp 99 (.nilc (.t 85)) (Jr 14)] 0 1 [Ju 99 98 2 (Jr 15)])))))) (.reg [o1 100 (Jc .add 40 1),m1 40 100]))))))) (sr1 [o1 101 (ao 2
 17),o1 102 (ao 101 4),m1 14 102] (.seq (sr1 [o1 103 (ao 3 0),o1 104 (lf 103 1),o1 105 (Jc .eql 104 0)] (Ji 105 (.seq (.regd (Jr 22) [Jm 106 14,Jm 107 14,Jp 108 (.nilc (.t 107)) [1],Jp 109 (ao 108 0) [2],Jp 110 (lf 109 1) [3],Jo 111 (ao 2 0),Jp 112
 (ao 111 14) [5],Jp 113 (lf 112 1) [6],Jp 114 (Jb .sub 110 113) [4,7],Jp 115 (.mm true [cn 0,.t 114]) [8],Jm 116 14,Jp 117 (.nilc (.t 116)) [10],Jp 118 (ao 117 1) [11],Jp 119 (lf 118 1) [12],Jo 120 (ao 2 0),Jp 121 (ao 120 14) [14],Jp 122 (lf 121 1)
 [15],Jp 123 (Jb .sub 119 122) [13,16],Jp 124 (.mm true [cn 0,.t 123]) [17],Jp 125 (.build zv1 [(0,1,.t 115),(1,1,.t 124)]) [9,18],Jp 126 (.nilc (.t 106)) (Jr 20)] 0 1 [Ju 126 125 2 (Jr 21)]) (sr1 [o1 127 (lt 2 24),m1 128 9,Js 4 127 24,m1 5 128]
 .ret)) .skip)) (.seq (.regd (Jr 16) [Jm 129 14,Jp 130 (.nilc (.t 129)) [0],Jp 131 (lt 130 2) [1],Jo 132 (ao 2 0),Jp 133 (ao 132 10) [3],Jp 134 (lt 133 2) [4],Jo 135 (ao 3 0),Jp 136 (lf 135 1) [6],Jo 137 (ao 3 1),Jp 138 (lf 137 1) [8],Jp 139 (.bsl 1 3
 [.t 136,.t 138]) [7,9],Jp 140 (.call 117 [.t 134,cn 1000000,.t 139]) [5,10],Jp 141 (.bsl 2 23 [.t 131,.t 140]) [2,11],Jp 142 (J1 116 141) [11,12]] 1 1 [o1 15 (.alloc zv1 23),Ju 15 142 2 (Jr 15)]) (sr1 [m1 143 14,o1 144 (ao 15 0),o1 145 (lf 144 1),o1
 146 (.mm false [cn 1000,.t 145]),o1 147 (ao 15 1),o1 148 (lf 147 1),o1 149 (.mm false [cn 1000,.t 148]),o1 150 (.build zv1 [(0,1,.t 146),(1,1,.t 149)]),o1 151 (.nilc (.t 143)),Js 151 150 2] (sr1 [o1 152 (lt 2 24),m1 153 9,Js 4 152 24,m1 5 153]
 .ret))))))))))
def r57:List RV:=[.cell 4 24 true,.tmp 5]
theorem t57:Qt1 Tryz.prog 57 c57 r57 154:=ZU Tryz.func57
def c58:SC:=(sr1 [Jk 6 0] (.seq (.block 0 (.loop (.seq (sr1 [m1 8 0,m1 9 1,o1 10 (Jb .lss 8 9)] (Ji 10 .skip (.exit 0))) (.block 1 (sr1 [m1 11 1,m1 12 1,m1 13 0,o1 14 (Jb .sub 12 13),o1 15 (.div .quo (.t 14) (cn 2)),o1 16 (Jb .sub 11 15),m1 7 16] (sr1
 [m1 17 2,m1 18 7,o1 19 (.calv (.t 17) [.t 18])] (Ji 19 (.reg [m1 20 7,m1 0 20]) (.reg [m1 21 7,o1 22 (Jc .sub 21 1),m1 1 22])))))))) (sr1 [m1 23 0,m1 6 23] .ret)))
def r58:List RV:=[.tmp 6]
theorem t58:Qt1 Tryz.prog 58 c58 r58 24:=ZU Tryz.func58
def c13:SC:=(sr1 [o1 3 (Jz 0 0 25),o1 4 (Jz 1 0 27),o1 5 (Jz 2 0 43),o1 6 (.alloc zv4 27),o1 7 (.mv (.c (.int .u8 0))),Jk 8 0] (.seq (sr1 [o1 12 (lt 3 17),o1 13 (lt 4 7),o1 14 (J2 62 12 13),m1 9 14] (sr1 [m1 15 9,o1 16 (Jc .neq 15 0)] (Ji 16 (sr1 [o1
 17 (lt 6 7),m1 18 9,Js 6 17 7,o1 7 (.mv (.c (.int .u8 0))),m1 8 18] .ret) .skip))) (.seq (sr1 [o1 19 (lt 5 8),o1 20 (.bsl 8 43 [.t 19]),o1 21 (J1 63 20),m1 10 21] (sr1 [m1 22 10,o1 23 (Jc .neq 22 0)] (Ji 23 (sr1 [o1 24 (lt 6 7),m1 25 10,Js 6 24 7,o1
 7 (.mv (.c (.int .u8 0))),m1 8 25] .ret) .skip))) (sr1 [o1 27 (lt 3 17),o1 28 (lt 4 7),o1 29 (.build zv0 [(0,17,.t 27),(17,7,.t 28)]),o1 30 (lt 5 8),o1 31 (J2 57 29 30),m1 26 31,o1 32 (Je 26 0),o1 33 (Je 26 1),o1 11 (.alloc zv0 128),Js 11 32 24,m1 7
 33] (.seq (sr1 [m1 34 7,o1 35 (.bin .eql (.t 34) (.c (.int .u8 2)))] (Ji 35 (sr1 [o1 36 (lt 6 7),Js 6 36 7,o1 7 (.mv (.c (.int .u8 0))),Jk 8 13] .ret) .skip)) (sr1 [o1 37 (ao 11 17),o1 38 (lt 37 7),m1 39 7,Js 6 38 7,m1 7 39,Jk 8 0] .ret))))))
def r13:List RV:=[.cell 6 7 true,.tmp 7,.tmp 8]
theorem t13:Qt1 Tryz.prog 13 c13 r13 40:=ZU Tryz.func13
def c102:SC:=(sr1 [o1 4 (Jz 0 0 68),o1 8 (.alloc zv1 23),Jk 9 0,Jk 10 0] (.seq (sr1 [o1 20 (lt 4 2),o1 21 (J1 138 20),m1 11 21] (.block 0 (sr1 [m1 23 11,o1 24 (Jc .neq 23 0),m1 22 24] (Ji 22 (sr1 [o1 25 (lt 8 2),m1 26 11,Js 8 25 2,Jk 9 0,m1 10 26]
 .ret) (sr1 [o1 28 (ao 4 0),o1 29 (lf 28 1),o1 30 (Jl 29),o1 31 (Jc .sub 30 1),m1 32 1,o1 33 (.bsl 1 3 [.t 32]),o1 34 (.call 79 [cn 0,.t 31,.t 33]),o1 35 (Jh 34),m1 36 35,g1 37 36 false (.mv (.t 3)),g1 38 36 false (.bsl 1 3 [.t 37]),g1 39 36 false
 (.call 79 [cn 0,cn 100000,.t 38]),g1 40 36 false (Jh 39),o1 41 (.pick (.t 36) Jt (.t 40)),m1 27 41] (Ji 27 (sr1 [o1 42 (lt 8 2),Js 8 42 2,Jk 9 0,Jk 10 2] .ret) (sr1 [m1 44 2,o1 45 (Jl 44),o1 46 (Jc .gtr 45 200),m1 43 46] (Ji 43 (sr1 [o1 47 (lt 8
 2),Js 8 47 2,Jk 9 0,Jk 10 4] .ret) .skip)))))))) (sr1 [Jk 12 0] (.seq (sr1 [m1 48 2,o1 49 (Jl 48),Jk 50 0] (.block 1 (.loop (sr1 [o1 51 (Jb .lss 50 49)] (.seq (Ji 51 .skip (.exit 1)) (.seq (.block 2 (sr1 [o1 52 (Jx 48 50 3),o1 53 (lt 52 3),o1 14
 (.alloc ZyX 206),Js 14 53 3] (.seq (sr1 [o1 54 (ao 4 0),o1 55 (lf 54 1),o1 56 (Jl 55),o1 57 (Jc .sub 56 1),o1 58 (ao 14 0),o1 59 (lf 58 1),o1 60 (.bsl 1 3 [.t 59]),o1 61 (.call 79 [cn 0,.t 57,.t 60]),o1 62 (Jh 61),m1 63 62,g1 64 63 false (.mv (.t
 12)),g1 65 63 false (ao 14 1),g1 66 63 false (lf 65 1),g1 67 63 false (.bsl 1 3 [.t 66]),g1 68 63 false (.call 79 [.t 64,cn 100000,.t 67]),g1 69 63 false (Jh 68),o1 70 (.pick (.t 63) Jt (.t 69)),m1 71 70,g1 72 71 false (ao 14 2),g1 73 71 false (lf 72
 1),g1 74 71 false (.bsl 1 3 [.t 73]),g1 75 71 false (.call 79 [cn 0,cn 1000000000,.t 74]),g1 76 71 false (Jh 75),o1 77 (.pick (.t 71) Jt (.t 76))] (Ji 77 (sr1 [o1 78 (lt 8 2),Js 8 78 2,Jk 9 0,Jk 10 32] .ret) .skip)) (.reg [o1 79 (ao 14 1),o1 80 (lf
 79 1),m1 12 80])))) (.reg [o1 81 (Jc .add 50 1),m1 50 81]))))))) (sr1 [o1 82 (ao 4 0),o1 83 (lf 82 1),m1 84 1,o1 85 (Jx 83 84 9),o1 86 (lt 85 9),o1 15 (.alloc zv10 264),Js 15 86 9] (sr1 [o1 87 (ao 15 6),o1 88 (lt 87 2),o1 16 (.alloc zv1 23),Js 16 88
 2,o1 17 (.mv (cn (-1)))] (.seq (sr1 [m1 89 2,o1 90 (Jl 89),Jk 91 0] (.block 3 (.loop (sr1 [o1 92 (Jb .lss 91 90)] (.seq (Ji 92 .skip (.exit 3)) (.seq (.block 4 (sr1 [m1 93 91,o1 94 (Jx 89 91 3),o1 95 (lt 94 3),o1 19 (.alloc ZyX 206),m1 18 93,Js 19 95
 3] (.seq (sr1 [o1 96 (ao 19 0),o1 97 (lf 96 1),m1 98 1,o1 99 (Jb .neq 97 98),m1 100 99,g1 101 100 false (ao 19 1),g1 102 100 false (lf 101 1),g1 103 100 false (.mv (.t 3)),g1 104 100 false (Jb .geq 102 103),o1 105 (.pick (.t 100) Jt (.t 104))] (Ji
 105 (.exit 4) .skip)) (sr1 [o1 106 (lt 15 9),o1 107 (lt 16 2),o1 108 (ao 19 1),o1 109 (lf 108 1),m1 110 17,o1 111 (Jb .sub 109 110),o1 112 (J3 162 106 107 111),Js 16 112 2] (sr1 [o1 113 (ao 19 1),o1 114 (lf 113 1),m1 17 114] (.seq (sr1 [o1 115 (ao 16
 1),o1 116 (lf 115 1),o1 117 (ao 19 2),o1 118 (lf 117 1),o1 119 (Jb .lss 116 118)] (Ji 119 (sr1 [o1 120 (lt 8 2),m1 121 18,Js 8 120 2,m1 9 121,Jk 10 33] .ret) .skip)) (.reg [o1 122 (ao 16 0),o1 123 (lf 122 1),o1 124 (ao 19 2),o1 125 (lf 124 1),o1 126
 (Jb .sub 123 125),o1 127 (.mm true [cn 0,.t 126]),o1 128 (ao 16 1),o1 129 (lf 128 1),o1 130 (ao 19 2),o1 131 (lf 130 1),o1 132 (Jb .sub 129 131),o1 133 (.build zv1 [(0,1,.t 127),(1,1,.t 132)]),Js 16 133 2]))))))) (.reg [o1 134 (Jc .add 91 1),m1 91
 134]))))))) (sr1 [o1 135 (lt 15 9),o1 136 (lt 16 2),m1 137 3,o1 138 (Jc .sub 137 1),m1 139 17,o1 140 (Jb .sub 138 139),o1 141 (J3 162 135 136 140),Js 8 141 2,Jk 9 0,Jk 10 0] .ret))))))))
def r102:List RV:=[.cell 8 2 true,.tmp 9,.tmp 10]
theorem t102:Qt1 Tryz.prog 102 c102 r102 142:=ZU Tryz.func102
def c138:SC:=(sr1 [o1 1 (Jz 0 0 68),Jk 2 0] (sr1 [o1 5 (ao 1 0),o1 6 (lf 5 1),o1 7 (.call 185 [.t 6,.f 186]),o1 8 (Jh 7),m1 3 8] (sr1 [o1 9 (ao 1 1),o1 10 (lf 9 1),o1 11 (.mkf 189 [.t 1]),o1 12 (J2 188 10 11),o1 13 (Jh 12),m1 4 13] (.seq (sr1 [o1 14
 (ao 1 0),o1 15 (lf 14 1),o1 16 (Jl 15),o1 17 (.bsl 1 3 [.t 16]),o1 18 (.call 79 [cn 1,cn 12,.t 17]),o1 19 (Jh 18),m1 20 19,g1 21 20 false (ao 1 1),g1 22 20 false (lf 21 1),g1 23 20 false (Jl 22),g1 24 20 false (Jc .gtr 23 24),o1 25 (.pick (.t 20) Jt
 (.t 24)),m1 26 25,g1 27 26 false (.mv (.t 3)),g1 28 26 false (Jh 27),o1 29 (.pick (.t 26) Jt (.t 28)),m1 30 29,g1 31 30 false (.mv (.t 4)),g1 32 30 false (Jh 31),o1 33 (.pick (.t 30) Jt (.t 32))] (Ji 33 (sr1 [Jk 2 30] .ret) .skip)) (sr1 [Jk 2 0]
 .ret)))))
def r138:List RV:=[.tmp 2]
theorem t138:Qt1 Tryz.prog 138 c138 r138 34:=ZU Tryz.func138
def c79:SC:=(sr1 [o1 3 (Jz 0 0 3),o1 4 (Jz 1 0 3),Jw 6 Jf] (sr1 [m1 7 2,o1 8 (.mkf 141 [.t 3,.t 4]),o1 9 (J2 140 7 8),o1 10 (Jh 9),m1 6 10] .ret))
def r79:List RV:=[.tmp 6]
theorem t79:Qt1 Tryz.prog 79 c79 r79 11:=ZU Tryz.func79
def c162:SC:=(sr1 [o1 3 (Jz 0 0 264),o1 4 (Jz 1 0 23),o1 6 (.alloc zv1 23)] (sr1 [o1 7 (ao 3 5),o1 8 (lf 7 1),o1 9 (ao 4 0),o1 10 (lf 9 1),m1 11 2,o1 12 (ao 3 3),o1 13 (ao 12 0),o1 14 (lf 13 1),o1 15 (Jb .mul 11 14),o1 16 (Jb .add 10 15),o1 17 (.mm
 false [.t 8,.t 16]),o1 18 (ao 3 5),o1 19 (lf 18 1),o1 20 (ao 4 1),o1 21 (lf 20 1),m1 22 2,o1 23 (ao 3 3),o1 24 (ao 23 1),o1 25 (lf 24 1),o1 26 (Jb .mul 22 25),o1 27 (Jb .add 21 26),o1 28 (.mm false [.t 19,.t 27]),o1 29 (.build zv1 [(0,1,.t
 17),(1,1,.t 28)]),Js 6 29 2] .ret))
def r162:List RV:=[.cell 6 2 true]
theorem t162:Qt1 Tryz.prog 162 c162 r162 30:=ZU Tryz.func162
def c185:SC:=(sr1 [Jw 4 Jf] (sr1 [m1 5 0,m1 6 1,o1 7 (J2 221 5 6),o1 8 (Jc .geq 7 0),m1 4 8] .ret))
def r185:List RV:=[.tmp 4]
theorem t185:Qt1 Tryz.prog 185 c185 r185 9:=ZU Tryz.func185
def c186:SC:=(sr1 [o1 1 (Jz 0 0 264),Jw 2 Jf] (sr1 [o1 3 (lt 1 9),o1 4 (J1 187 3),o1 5 (Jh 4),m1 2 5] .ret))
def r186:List RV:=[.tmp 2]
theorem t186:Qt1 Tryz.prog 186 c186 r186 6:=ZU Tryz.func186
def c187:SC:=(sr1 [o1 1 (Jz 0 0 264),Jw 2 Jf] (sr1 [o1 3 (ao 1 0),o1 4 (lf 3 1),o1 5 (ao 1 1),o1 6 (lf 5 1),o1 7 (.bsl 1 3 [.t 4,.t 6]),o1 8 (.call 79 [.c (.int .i64 (-10000000)),cn 10000000,.t 7]),m1 9 8,g1 10 9 true (ao 1 2),g1 11 9 true (lf 10
 1),g1 12 9 true (.bsl 1 3 [.t 11]),g1 13 9 true (.call 79 [cn 0,cn 200,.t 12]),o1 14 (.pick (.t 9) (.t 13) Jf),m1 15 14,g1 16 15 true (ao 1 3),g1 17 15 true (lt 16 2),g1 18 15 true (.bsl 2 23 [.t 17]),g1 19 15 true (.call 139 [cn 0,cn 10000000,.t
 18]),o1 20 (.pick (.t 15) (.t 19) Jf),m1 21 20,g1 22 21 true (ao 1 5),g1 23 21 true (lf 22 1),g1 24 21 true (.bsl 1 3 [.t 23]),g1 25 21 true (.call 79 [cn 0,cn 1000000000,.t 24]),o1 26 (.pick (.t 21) (.t 25) Jf),m1 27 26,g1 28 27 true (ao 1 5),g1 29
 27 true (lf 28 1),g1 30 27 true (ao 1 6),g1 31 27 true (lt 30 2),g1 32 27 true (.bsl 2 23 [.t 31]),g1 33 27 true (.call 139 [cn 0,.t 29,.t 32]),o1 34 (.pick (.t 27) (.t 33) Jf),m1 35 34,g1 36 35 true (ao 1 8),g1 37 35 true (lf 36 1),g1 38 35 true
 (.bsl 1 3 [.t 37]),g1 39 35 true (.call 79 [cn 0,cn 9999,.t 38]),o1 40 (.pick (.t 35) (.t 39) Jf),m1 2 40] .ret))
def r187:List RV:=[.tmp 2]
theorem t187:Qt1 Tryz.prog 187 c187 r187 41:=ZU Tryz.func187
def c188:SC:=(sr1 [Jw 4 Jf] (sr1 [m1 5 0,m1 6 1,o1 7 (J2 222 5 6),o1 8 (Jc .geq 7 0),m1 4 8] .ret))
def r188:List RV:=[.tmp 4]
theorem t188:Qt1 Tryz.prog 188 c188 r188 9:=ZU Tryz.func188
def c189:SC:=(sr1 [o1 2 (Jz 0 0 165),Jw 3 Jf] (sr1 [o1 4 (lt 2 5),o1 5 (ao 1 0),o1 6 (lf 5 1),o1 7 (Jl 6),o1 8 (J2 190 4 7),o1 9 (Jh 8),m1 3 9] .ret))
def r189:List RV:=[.tmp 3]
theorem t189:Qt1 Tryz.prog 189 c189 r189 10:=ZU Tryz.func189
def c190:SC:=(sr1 [o1 2 (Jz 0 0 165),Jw 4 Jf] (.seq (sr1 [m1 8 1,o1 9 (Jc .sub 8 1),o1 10 (ao 2 0),o1 11 (lf 10 1),o1 12 (ao 2 1),o1 13 (lf 12 1),o1 14 (.bsl 1 3 [.t 11,.t 13]),o1 15 (.call 79 [cn 0,.t 9,.t 14]),o1 16 (Jh 15),m1 17 16,g1 18 17 false
 (ao 2 0),g1 19 17 false (lf 18 1),g1 20 17 false (ao 2 1),g1 21 17 false (lf 20 1),g1 22 17 false (Jb .eql 19 21),o1 23 (.pick (.t 17) Jt (.t 22)),m1 24 23,g1 25 24 false (ao 2 2),g1 26 24 false (lt 25 2),g1 27 24 false (.bsl 2 23 [.t 26]),g1 28 24
 false (.call 139 [cn 1,cn 1000000,.t 27]),g1 29 24 false (Jh 28),o1 30 (.pick (.t 24) Jt (.t 29)),m1 31 30,g1 32 31 false (ao 2 4),g1 33 31 false (lf 32 1),g1 34 31 false (Jl 33),g1 35 31 false (Jc .gtr 34 6),o1 36 (.pick (.t 31) Jt (.t 35))] (Ji 36
 (sr1 [Jw 4 Jf] .ret) .skip)) (sr1 [Jk 5 0] (.seq (sr1 [o1 37 (ao 2 4),o1 38 (lf 37 1),o1 39 (Jl 38),Jk 40 0] (.block 0 (.loop (sr1 [o1 41 (Jb .lss 40 39)] (.seq (Ji 41 .skip (.exit 0)) (.seq (.block 1 (sr1 [o1 42 (Jx 38 40 4),o1 43 (lt 42 4),o1 7
 (.alloc zv8 240),Js 7 43 4] (.seq (sr1 [o1 44 (ao 7 0),o1 45 (lt 44 2),o1 46 (ao 7 2),o1 47 (lt 46 2),o1 48 (.bsl 2 23 [.t 45,.t 47]),o1 49 (.call 139 [cn 0,cn 100000,.t 48]),o1 50 (Jh 49),m1 51 50,g1 52 51 false (.mv (.t 5)),g1 53 51 false (ao 7
 2),g1 54 51 false (ao 53 1),g1 55 51 false (lf 54 1),g1 56 51 false (ao 7 0),g1 57 51 false (ao 56 0),g1 58 51 false (lf 57 1),g1 59 51 false (.bsl 1 3 [.t 58]),g1 60 51 false (J3 79 52 55 59),g1 61 51 false (Jh 60),o1 62 (.pick (.t 51) Jt (.t 61))]
 (Ji 62 (sr1 [Jw 4 Jf] .ret) .skip)) (.reg [o1 63 (ao 7 2),o1 64 (ao 63 1),o1 65 (lf 64 1),o1 66 (Jc .add 65 1),m1 5 66])))) (.reg [o1 67 (Jc .add 40 1),m1 40 67]))))))) (sr1 [Jw 4 Jt] .ret)))))
def r190:List RV:=[.tmp 4]
theorem t190:Qt1 Tryz.prog 190 c190 r190 68:=ZU Tryz.func190
def c140:SC:=(sr1 [Jw 4 Jf] (sr1 [m1 5 0,m1 6 1,o1 7 (J2 192 5 6),o1 8 (Jc .geq 7 0),m1 4 8] .ret))
def r140:List RV:=[.tmp 4]
theorem t140:Qt1 Tryz.prog 140 c140 r140 9:=ZU Tryz.func140
def c141:SC:=(sr1 [Jw 4 Jf] (sr1 [m1 5 0,o1 6 (lf 1 1),o1 7 (Jb .lss 5 6),m1 8 7,g1 9 8 false (.mv (.t 0)),g1 10 8 false (lf 2 1),g1 11 8 false (Jb .gtr 9 10),o1 12 (.pick (.t 8) Jt (.t 11)),m1 4 12] .ret))
def r141:List RV:=[.tmp 4]
theorem t141:Qt1 Tryz.prog 141 c141 r141 13:=ZU Tryz.func141
def c139:SC:=(sr1 [o1 3 (Jz 0 0 3),o1 4 (Jz 1 0 3),Jw 6 Jf] (sr1 [m1 7 2,o1 8 (.mkf 191 [.t 3,.t 4]),o1 9 (J2 173 7 8),o1 10 (Jh 9),m1 6 10] .ret))
def r139:List RV:=[.tmp 6]
theorem t139:Qt1 Tryz.prog 139 c139 r139 11:=ZU Tryz.func139
def c221:SC:=(sr1 [Jk 4 0] (.seq (sr1 [m1 6 0,o1 7 (Jl 6),Jk 8 0] (.block 0 (.loop (sr1 [o1 9 (Jb .lss 8 7)] (.seq (Ji 9 .skip (.exit 0)) (.seq (.block 1 (sr1 [m1 10 8,m1 5 10] (sr1 [m1 11 1,m1 12 0,m1 13 5,o1 14 (Jx 12 13 9),o1 15 (lt 14 9),o1 16
 (.calv (.t 11) [.t 15])] (Ji 16 (sr1 [m1 17 5,m1 4 17] .ret) .skip)))) (.reg [o1 18 (Jc .add 8 1),m1 8 18]))))))) (sr1 [o1 4 (.mv (cn (-1)))] .ret)))
def r221:List RV:=[.tmp 4]
theorem t221:Qt1 Tryz.prog 221 c221 r221 19:=ZU Tryz.func221
def c222:SC:=(sr1 [Jk 4 0] (.seq (sr1 [m1 6 0,o1 7 (Jl 6),Jk 8 0] (.block 0 (.loop (sr1 [o1 9 (Jb .lss 8 7)] (.seq (Ji 9 .skip (.exit 0)) (.seq (.block 1 (sr1 [m1 10 8,m1 5 10] (sr1 [m1 11 1,m1 12 0,m1 13 5,o1 14 (Jx 12 13 5),o1 15 (lt 14 5),o1 16
 (.calv (.t 11) [.t 15])] (Ji 16 (sr1 [m1 17 5,m1 4 17] .ret) .skip)))) (.reg [o1 18 (Jc .add 8 1),m1 8 18]))))))) (sr1 [o1 4 (.mv (cn (-1)))] .ret)))
def r222:List RV:=[.tmp 4]
theorem t222:Qt1 Tryz.prog 222 c222 r222 19:=ZU Tryz.func222
def c192:SC:=(sr1 [Jk 4 0] (.seq (sr1 [m1 6 0,o1 7 (Jl 6),Jk 8 0] (.block 0 (.loop (sr1 [o1 9 (Jb .lss 8 7)] (.seq (Ji 9 .skip (.exit 0)) (.seq (.block 1 (sr1 [m1 10 8,m1 5 10] (sr1 [m1 11 1,m1 12 0,m1 13 5,o1 14 (Jx 12 13 1),o1 15 (lf 14 1),o1 16
 (.calv (.t 11) [.t 15])] (Ji 16 (sr1 [m1 17 5,m1 4 17] .ret) .skip)))) (.reg [o1 18 (Jc .add 8 1),m1 8 18]))))))) (sr1 [o1 4 (.mv (cn (-1)))] .ret)))
def r192:List RV:=[.tmp 4]
theorem t192:Qt1 Tryz.prog 192 c192 r192 19:=ZU Tryz.func192
def c173:SC:=(sr1 [Jw 4 Jf] (sr1 [m1 5 0,m1 6 1,o1 7 (J2 216 5 6),o1 8 (Jc .geq 7 0),m1 4 8] .ret))
def r173:List RV:=[.tmp 4]
theorem t173:Qt1 Tryz.prog 173 c173 r173 9:=ZU Tryz.func173
def c191:SC:=(sr1 [o1 3 (Jz 0 0 23),Jw 4 Jf] (sr1 [o1 5 (ao 3 0),o1 6 (lf 5 1),o1 7 (ao 3 1),o1 8 (lf 7 1),o1 9 (Jb .gtr 6 8),m1 10 9,g1 11 10 false (lf 1 1),g1 12 10 false (lf 2 1),g1 13 10 false (ao 3 0),g1 14 10 false (lf 13 1),g1 15 10 false (ao 3
 1),g1 16 10 false (lf 15 1),g1 17 10 false (.bsl 1 3 [.t 14,.t 16]),g1 18 10 false (J3 79 11 12 17),g1 19 10 false (Jh 18),o1 20 (.pick (.t 10) Jt (.t 19)),m1 4 20] .ret))
def r191:List RV:=[.tmp 4]
theorem t191:Qt1 Tryz.prog 191 c191 r191 21:=ZU Tryz.func191
def c216:SC:=(sr1 [Jk 4 0] (.seq (sr1 [m1 6 0,o1 7 (Jl 6),Jk 8 0] (.block 0 (.loop (sr1 [o1 9 (Jb .lss 8 7)] (.seq (Ji 9 .skip (.exit 0)) (.seq (.block 1 (sr1 [m1 10 8,m1 5 10] (sr1 [m1 11 1,m1 12 0,m1 13 5,o1 14 (Jx 12 13 2),o1 15 (lt 14 2),o1 16
 (.calv (.t 11) [.t 15])] (Ji 16 (sr1 [m1 17 5,m1 4 17] .ret) .skip)))) (.reg [o1 18 (Jc .add 8 1),m1 8 18]))))))) (sr1 [o1 4 (.mv (cn (-1)))] .ret)))
def r216:List RV:=[.tmp 4]
theorem t216:Qt1 Tryz.prog 216 c216 r216 19:=ZU Tryz.func216
end Go.Proofs.YtkpkgafhfakpdaaGreatDoor
namespace Go.Azalai
structure Span where
 lo:Int
 hi:Int
deriving DecidableEq
structure Well where
 x:Int
 y:Int
 depth:Int
 yld:Span
 room:Int
 has:Span
 owner:Int
deriving DecidableEq
structure Gate where
 opens:Span
 shuts:Span
deriving DecidableEq
structure Leg where
 a:Int
 b:Int
 long:Span
 gates:List Gate
deriving DecidableEq
structure Land where
 wells:List Well
 legs:List Leg
deriving DecidableEq
structure Draw where
 well:Int
 day:Int
 water:Int
deriving DecidableEq
def inR (lo hi n:Int):Bool:=decide (lo<=n/\n<=hi)
def Z4 (lo hi:Int) (s:Span):Bool:=decide (lo<=s.lo/\s.lo<=s.hi/\s.hi<=hi)
def XJ (w:Well):Bool :=
 inR (-10000000) 10000000 w.x && inR (-10000000) 10000000 w.y && inR 0 200 w.depth && Z4 0 10000000 w.yld && inR 0 1000000000 w.room && Z4 0 w.room w.has && inR 0 9999 w.owner
def Wh (next:Int):List Gate->Bool
 | []=>true
 | g :: r=>Z4 0 100000 g.opens && Z4 0 100000 g.shuts && inR next g.shuts.hi g.opens.lo && Wh (g.shuts.hi+1) r
def ZbD (n:Int) (x:Leg):Bool :=
 inR 0 (n - 1) x.a && inR 0 (n - 1) x.b && x.a != x.b && Z4 1 1000000 x.long && decide (x.gates.length<=6) && Wh 0 x.gates
def Zaa (l:Land):Bool :=
 inR 1 12 l.wells.length && decide (l.legs.length<=24) && l.wells.all XJ && l.legs.all (ZbD l.wells.length)
def Yw {α : Type} (g:α->Bool):List α->Nat->Int
 | [],_=>-1
 | x :: l,k=>if g x then k else Yw g l (k+1)
theorem Zdu {α : Type} (g:α->Bool):∀ (l:List α) (k:Nat),decide (Yw g l k ≥ 0)=l.any g
 | [],k=>by simp [Yw]
 | x :: l,k=>by
  simp only [Yw,List.any_cons];by_cases hg:g x=true
  . simp [hg]
  . simpa [hg] using Zdu g l (k+1)
def X9 (w:Well) (has:Span) (days:Int):Span:=⟨min w.room (has.lo+days * w.yld.lo),min w.room (has.hi+days * w.yld.hi)⟩
def X1 (n last:Int):List Draw->Bool
 | []=>true
 | x :: r=>inR 0 (n - 1) x.well && inR last 100000 x.day && inR 0 1000000000 x.water && X1 n x.day r
def Uh (w:Well) (well day:Int) (now:Span) (evening:Int) (i:Nat):List Draw->Span × Int × Int
 | []=>(X9 w now (day - 1 - evening),0,0)
 | x :: r =>
  if (x.well != well || decide (x.day ≥ day))=true then Uh w well day now evening (i+1) r
  else
   let f:=X9 w now (x.day - evening)
   if f.hi < x.water then (⟨0,0⟩,i,33) else Uh w well day ⟨max 0 (f.lo - x.water),f.hi - x.water⟩ x.day (i+1) r
def Ui (l:Land) (well:Int) (draws:List Draw) (day:Int):Span × Int × Int :=
 if Zaa l=false then (⟨0,0⟩,0,30)
 else if (inR 0 (l.wells.length - 1) well && inR 0 100000 day)=false then (⟨0,0⟩,0,2)
 else if draws.length > 200 then (⟨0,0⟩,0,4)
 else if X1 l.wells.length 0 draws=false then (⟨0,0⟩,0,32)
 else match l.wells[well.toNat]? with
  | some w=>Uh w well day w.has (-1) 0 draws
  | none=>(⟨0,0⟩,0,0)
def ZlP (l:Land):Prop:=l.wells.length<=1000/\l.legs.length<=1000/\∀ x ∈ l.legs,x.gates.length<=1000
theorem ZdY {l:Land} (h:Zaa l=true):∀ w ∈ l.wells,XJ w=true:=by
 simp only [Zaa,Bool.and_eq_true,List.all_eq_true] at h;exact h.1.2
theorem U4 {n:Int}:∀ {l:List Draw} {last:Int},X1 n last l=true->0<=last->∀ x ∈ l,0<=x.day/\x.day<=100000/\0<=x.water/\x.water<=1000000000
 | [],_,_,_,x,h=>by simp at h
 | y :: l,last,h,h0,x,hx=>by
  simp only [X1,Bool.and_eq_true,inR,decide_eq_true_eq] at h;rcases List.mem_cons.1 hx with rfl | hx
  . omega
  . exact U4 h.2 (by omega) x hx
end Go.Azalai
namespace Go.Proofs.YtkpkgafhfakpdaaGreatDoor
open Go Go.Sx Go.Azalai
def Zk (n:Int):List SV:=[I n]
def Zh (s:Span):List SV:=[I s.lo,I s.hi]
def YK (g:Gate):List SV:=[I g.opens.lo,I g.opens.hi,I g.shuts.lo,I g.shuts.hi]
def Yg (w:Well):List SV:=[I w.x,I w.y,I w.depth,I w.yld.lo,I w.yld.hi,I w.room,I w.has.lo,I w.has.hi,I w.owner]
def WP (x:Leg):List SV:=[I x.a,I x.b,I x.long.lo,I x.long.hi,.sl false 4 (x.gates.map YK)]
def VL (l:Land):List SV:=[.sl false 9 (l.wells.map Yg),.sl false 5 (l.legs.map WP)]
def Vt (d:Draw):List SV:=[I d.well,I d.day,I d.water]
theorem Y9 {α : Type} (g:α->Bool) (l:List α):decide (Yw g l 0 ≥ 0)=l.any g:=Zdu g l 0
theorem Zip (h:Nat) (caps:List SV) (hk:KFL caps) (g:Int->Bool) (l:List Int) (hg:∀ x ∈ l,Ct Tryz.prog h (I x :: caps) (B (g x))) (hl:l.length < 4611686018427387904) {c:Bool} :
 Ct Tryz.prog 192 [.sl c 1 (l.map Zk),.cl h caps] (I (Yw g l 0)):=by
 refine t192.1 ⟨by simp [KF,Za,KFL,Zk],hk,trivial⟩ (by simp [KF]) ?_;dsimp only [c192,r192,go_sem];refine Z1 (λk:Nat=>[(8,I k)]) (λ_=>[]) (λk=>k<=l.length/\Yw g (l.drop k) k=Yw g l 0) (λk=>l.length - k) 0 ⟨Nat.zero_le _,rfl⟩ ?_ ?_
 . (refine Zi ?_ ?_ ?_ rfl rfl<;>dsimp only [Zk,hk,id,go_sem]<;>simp [Zk,hk,Za])
 . intro k ⟨hk',hi⟩;dsimp only [go_sem];refine br ?_ ?_
   . intro hlt;have hlt:k < l.length:=by simpa using hlt
     dsimp only [go_sem];refine Zu k hlt rfl ?_;dsimp only [Zk,go_sem];refine call (hg l[k] (List.getElem_mem _)) ?_;dsimp only [go_sem];refine br ?_ ?_
     . intro hgx;dsimp only [go_sem];rw [<- hi,List.drop_eq_getElem_cons hlt];simp [Yw,hgx]
     . intro hgx;dsimp only [go_sem];refine ⟨k+1,⟨by omega,?_⟩,by omega,?_⟩
       . rw [<- hi,List.drop_eq_getElem_cons hlt];simp [Yw,hgx]
       . rw [Zf (by omega) (by omega)];(refine Zi ?_ ?_ ?_ rfl rfl<;>dsimp only [Zk,hk,id,go_sem]<;>simp [Zk,hk,Za])
   . intro hlt;have hlt:k=l.length:=by simp at hlt;omega
     dsimp only [go_sem];rw [<- hi,hlt];simp [Yw]
theorem Zsv (h:Nat) (caps:List SV) (hk:KFL caps) (g:Int->Bool) (l:List Int) (hg:∀ x ∈ l,Ct Tryz.prog h (I x :: caps) (B (g x))) (hl:l.length < 4611686018427387904) {c:Bool} :
 Ct Tryz.prog 140 [.sl c 1 (l.map Zk),.cl h caps] (B (l.any g)):=by
 refine t140.1 ⟨by simp [KF,Za,KFL,Zk],hk,trivial⟩ (by simp [KF]) ?_;dsimp only [c140,r140,go_sem];refine call (Zip h caps hk g l hg hl) ?_;dsimp only [go_sem];rw [Y9]
theorem idx95 (h:Nat) (caps:List SV) (hk:KFL caps) (g:Well->Bool) (l:List Well) (hg:∀ x ∈ l,Ct Tryz.prog h (.agg (Yg x) :: caps) (B (g x))) (hl:l.length < 4611686018427387904) {c:Bool} :
 Ct Tryz.prog 221 [.sl c 9 (l.map Yg),.cl h caps] (I (Yw g l 0)):=by
 refine t221.1 ⟨by simp [KF,Za,KFL,Yg],hk,trivial⟩ (by simp [KF]) ?_;dsimp only [c221,r221,go_sem];refine Z1 (λk:Nat=>[(8,I k)]) (λ_=>[]) (λk=>k<=l.length/\Yw g (l.drop k) k=Yw g l 0) (λk=>l.length - k) 0 ⟨Nat.zero_le _,rfl⟩ ?_ ?_
 . (refine Zi ?_ ?_ ?_ rfl rfl<;>dsimp only [Yg,hk,id,go_sem]<;>simp [Yg,hk,Za])
 . intro k ⟨hk',hi⟩;dsimp only [go_sem];refine br ?_ ?_
   . intro hlt;have hlt:k < l.length:=by simpa using hlt
     dsimp only [go_sem];refine Zu k hlt rfl ?_;dsimp only [Yg,go_sem];refine call (hg l[k] (List.getElem_mem _)) ?_;dsimp only [go_sem];refine br ?_ ?_
     . intro hgx;dsimp only [go_sem];rw [<- hi,List.drop_eq_getElem_cons hlt];simp [Yw,hgx]
     . intro hgx;dsimp only [go_sem];refine ⟨k+1,⟨by omega,?_⟩,by omega,?_⟩
       . rw [<- hi,List.drop_eq_getElem_cons hlt];simp [Yw,hgx]
       . rw [Zf (by omega) (by omega)];(refine Zi ?_ ?_ ?_ rfl rfl<;>dsimp only [Yg,hk,id,go_sem]<;>simp [Yg,hk,Za])
   . intro hlt;have hlt:k=l.length:=by simp at hlt;omega
     dsimp only [go_sem];rw [<- hi,hlt];simp [Yw]
theorem con71 (h:Nat) (caps:List SV) (hk:KFL caps) (g:Well->Bool) (l:List Well) (hg:∀ x ∈ l,Ct Tryz.prog h (.agg (Yg x) :: caps) (B (g x))) (hl:l.length < 4611686018427387904) {c:Bool} :
 Ct Tryz.prog 185 [.sl c 9 (l.map Yg),.cl h caps] (B (l.any g)):=by
 refine t185.1 ⟨by simp [KF,Za,KFL,Yg],hk,trivial⟩ (by simp [KF]) ?_;dsimp only [c185,r185,go_sem];refine call (idx95 h caps hk g l hg hl) ?_;dsimp only [go_sem];rw [Y9]
theorem idx96 (h:Nat) (caps:List SV) (hk:KFL caps) (g:Leg->Bool) (l:List Leg) (hg:∀ x ∈ l,Ct Tryz.prog h (.agg (WP x) :: caps) (B (g x))) (hl:l.length < 4611686018427387904) {c:Bool} :
 Ct Tryz.prog 222 [.sl c 5 (l.map WP),.cl h caps] (I (Yw g l 0)):=by
 refine t222.1 ⟨by simp [KF,Za,KFL,WP,YK],hk,trivial⟩ (by simp [KF]) ?_;dsimp only [c222,r222,go_sem];refine Z1 (λk:Nat=>[(8,I k)]) (λ_=>[]) (λk=>k<=l.length/\Yw g (l.drop k) k=Yw g l 0) (λk=>l.length - k) 0 ⟨Nat.zero_le _,rfl⟩ ?_ ?_
 . (refine Zi ?_ ?_ ?_ rfl rfl<;>dsimp only [WP,YK,hk,id,go_sem]<;>simp [WP,YK,hk,Za])
 . intro k ⟨hk',hi⟩;dsimp only [go_sem];refine br ?_ ?_
   . intro hlt;have hlt:k < l.length:=by simpa using hlt
     dsimp only [go_sem];refine Zu k hlt rfl ?_;dsimp only [WP,go_sem];refine call (hg l[k] (List.getElem_mem _)) ?_;dsimp only [go_sem];refine br ?_ ?_
     . intro hgx;dsimp only [go_sem];rw [<- hi,List.drop_eq_getElem_cons hlt];simp [Yw,hgx]
     . intro hgx;dsimp only [go_sem];refine ⟨k+1,⟨by omega,?_⟩,by omega,?_⟩
       . rw [<- hi,List.drop_eq_getElem_cons hlt];simp [Yw,hgx]
       . rw [Zf (by omega) (by omega)];(refine Zi ?_ ?_ ?_ rfl rfl<;>dsimp only [WP,YK,hk,id,go_sem]<;>simp [WP,YK,hk,Za])
   . intro hlt;have hlt:k=l.length:=by simp at hlt;omega
     dsimp only [go_sem];rw [<- hi,hlt];simp [Yw]
theorem con74 (h:Nat) (caps:List SV) (hk:KFL caps) (g:Leg->Bool) (l:List Leg) (hg:∀ x ∈ l,Ct Tryz.prog h (.agg (WP x) :: caps) (B (g x))) (hl:l.length < 4611686018427387904) {c:Bool} :
 Ct Tryz.prog 188 [.sl c 5 (l.map WP),.cl h caps] (B (l.any g)):=by
 refine t188.1 ⟨by simp [KF,Za,KFL,WP,YK],hk,trivial⟩ (by simp [KF]) ?_;dsimp only [c188,r188,go_sem];refine call (idx96 h caps hk g l hg hl) ?_;dsimp only [go_sem];rw [Y9]
theorem Zyc (h:Nat) (caps:List SV) (hk:KFL caps) (g:Span->Bool) (l:List Span) (hg:∀ x ∈ l,Ct Tryz.prog h (.agg (Zh x) :: caps) (B (g x))) (hl:l.length < 4611686018427387904) {c:Bool} :
 Ct Tryz.prog 216 [.sl c 2 (l.map Zh),.cl h caps] (I (Yw g l 0)):=by
 refine t216.1 ⟨by simp [KF,Za,KFL,Zh],hk,trivial⟩ (by simp [KF]) ?_;dsimp only [c216,r216,go_sem];refine Z1 (λk:Nat=>[(8,I k)]) (λ_=>[]) (λk=>k<=l.length/\Yw g (l.drop k) k=Yw g l 0) (λk=>l.length - k) 0 ⟨Nat.zero_le _,rfl⟩ ?_ ?_
 . (refine Zi ?_ ?_ ?_ rfl rfl<;>dsimp only [Zh,hk,id,go_sem]<;>simp [Zh,hk,Za])
 . intro k ⟨hk',hi⟩;dsimp only [go_sem];refine br ?_ ?_
   . intro hlt;have hlt:k < l.length:=by simpa using hlt
     dsimp only [go_sem];refine Zu k hlt rfl ?_;dsimp only [Zh,go_sem];refine call (hg l[k] (List.getElem_mem _)) ?_;dsimp only [go_sem];refine br ?_ ?_
     . intro hgx;dsimp only [go_sem];rw [<- hi,List.drop_eq_getElem_cons hlt];simp [Yw,hgx]
     . intro hgx;dsimp only [go_sem];refine ⟨k+1,⟨by omega,?_⟩,by omega,?_⟩
       . rw [<- hi,List.drop_eq_getElem_cons hlt];simp [Yw,hgx]
       . rw [Zf (by omega) (by omega)];(refine Zi ?_ ?_ ?_ rfl rfl<;>dsimp only [Zh,hk,id,go_sem]<;>simp [Zh,hk,Za])
   . intro hlt;have hlt:k=l.length:=by simp at hlt;omega
     dsimp only [go_sem];rw [<- hi,hlt];simp [Yw]
theorem Zqk (h:Nat) (caps:List SV) (hk:KFL caps) (g:Span->Bool) (l:List Span) (hg:∀ x ∈ l,Ct Tryz.prog h (.agg (Zh x) :: caps) (B (g x))) (hl:l.length < 4611686018427387904) {c:Bool} :
 Ct Tryz.prog 173 [.sl c 2 (l.map Zh),.cl h caps] (B (l.any g)):=by
 refine t173.1 ⟨by simp [KF,Za,KFL,Zh],hk,trivial⟩ (by simp [KF]) ?_;dsimp only [c173,r173,go_sem];refine call (Zyc h caps hk g l hg hl) ?_;dsimp only [go_sem];rw [Y9]
theorem ZbN (lo hi x:Int):Ct Tryz.prog 141 [I x,.ps [I lo] 0,.ps [I hi] 0] (B (!inR lo hi x)):=by
 refine t141.1 (by simp) (by simp) ?_;dsimp only [c141,r141,go_sem];repeat (refine gb ?_;dsimp only [go_sem])
 (simp only [inR,Option.some.injEq,SV.v.injEq,Value.bool.injEq]<;>grind)
theorem WN (lo hi:Int) (l:List Int) (hl:l.length < 4611686018427387904) (c:Bool):Ct Tryz.prog 79 [I lo,I hi,.sl c 1 (l.map Zk)] (B (l.all (inR lo hi))):=by
 refine t79.1 (by simp [Za,Zk]) (by simp) ?_;dsimp only [c79,r79,go_sem];refine XK (by simp [FLT]) (res:=B (l.any λx=>!inR lo hi x)) ?_ ?_
 . dsimp only [go_sem];exact Zsv 141 [.ps [I lo] 0,.ps [I hi] 0] (by simp) (λx=>!inR lo hi x) l (λx _=>ZbN lo hi x) hl
 . dsimp only [go_sem];simp [List.all_eq_not_any_not]
theorem Zal (lo hi a:Int) (c:Bool):Ct Tryz.prog 79 [I lo,I hi,.sl c 1 [[I a]]] (B (inR lo hi a)):=by
 have:=WN lo hi [a] (by simp) c;simpa [Zk] using this
theorem Zdm (lo hi a b:Int) (c:Bool):Ct Tryz.prog 79 [I lo,I hi,.sl c 1 [[I a],[I b]]] (B (inR lo hi a && inR lo hi b)):=by
 have:=WN lo hi [a,b] (by simp) c;simpa [Zk] using this
theorem W0 (lo hi:Int) (s:Span):Ct Tryz.prog 191 [.agg (Zh s),.ps [I lo] 0,.ps [I hi] 0] (B (!Z4 lo hi s)):=by
 refine t191.1 (by simp [Zh]) (by simp) ?_;dsimp only [c191,r191,Zh,go_sem];repeat (first | (refine gb ?_;dsimp only [go_sem]) | (refine call (Zdm _ _ _ _ _) ?_;dsimp only [go_sem]))
 (simp only [Z4,inR,Option.some.injEq,SV.v.injEq,Value.bool.injEq]<;>grind)
theorem YR (lo hi:Int) (l:List Span) (hl:l.length < 4611686018427387904) (c:Bool):Ct Tryz.prog 139 [I lo,I hi,.sl c 2 (l.map Zh)] (B (l.all (Z4 lo hi))):=by
 refine t139.1 (by simp [Za,Zh]) (by simp) ?_;dsimp only [c139,r139,go_sem];refine XK (by simp [FLT]) (res:=B (l.any λx=>!Z4 lo hi x)) ?_ ?_
 . dsimp only [go_sem];exact Zqk 191 [.ps [I lo] 0,.ps [I hi] 0] (by simp) (λx=>!Z4 lo hi x) l (λx _=>W0 lo hi x) hl
 . dsimp only [go_sem];simp [List.all_eq_not_any_not]
theorem YV (lo hi:Int) (s:Span) (c:Bool):Ct Tryz.prog 139 [I lo,I hi,.sl c 2 [[I s.lo,I s.hi]]] (B (Z4 lo hi s)):=by
 have:=YR lo hi [s] (by simp) c;simpa [Zh] using this
theorem ZbC (lo hi:Int) (s t:Span) (c:Bool):Ct Tryz.prog 139 [I lo,I hi,.sl c 2 [[I s.lo,I s.hi],[I t.lo,I t.hi]]] (B (Z4 lo hi s && Z4 lo hi t)):=by
 have:=YR lo hi [s,t] (by simp) c;simpa [Zh] using this
theorem Zx2 (w:Well):Ct Tryz.prog 187 [.agg (Yg w)] (B (XJ w)):=by
 refine t187.1 (by simp [Yg]) (by simp) ?_;dsimp only [c187,r187,Yg,go_sem];repeat (first | (refine gb ?_;dsimp only [go_sem]) | (refine call (Zal _ _ _ _) ?_;dsimp only [go_sem]) | (refine call (Zdm _ _ _ _ _) ?_;dsimp only [go_sem]) | (refine call (YV _ _ w.yld _) ?_;dsimp only [go_sem]) | (refine call (YV _ _ w.has _) ?_;dsimp only [go_sem]))
 simp [XJ,Bool.and_assoc]
theorem Zfn (x:Leg) (n:Int) (h0:0<=n) (h1:n<=1000) (hg:x.gates.length < 4611686018427387904):Ct Tryz.prog 190 [.agg (WP x),I n] (B (ZbD n x)):=by
 have hw:IntKind.i64.wrap (n - 1)=n - 1:=Zf (by omega) (by omega);refine t190.1 (by simp [WP,Za,YK]) (by simp) ?_;dsimp only [c190,r190,WP,hw,go_sem];simp only [hw];repeat (first | (refine gb ?_;dsimp only [go_sem]) | (refine call (Zdm _ _ _ _ _) ?_;dsimp only [go_sem]) | (refine call (YV _ _ x.long _) ?_;dsimp only [go_sem]))
 simp only [List.length_map];refine br ?_ ?_
 . intro h;dsimp only [go_sem]
   (simp only [ZbD,Option.some.injEq,SV.v.injEq,Value.bool.injEq]<;>grind)
 . intro h;dsimp only [go_sem];have hh:ZbD n x=Wh 0 x.gates:=by simp only [ZbD];grind
   rw [hh];refine Z1 (λs:Nat × Int=>[(40,I s.1),(5,I s.2)]) (λ_=>[]) (λs=>s.1<=x.gates.length/\Wh s.2 (x.gates.drop s.1)=Wh 0 x.gates) (λs=>x.gates.length - s.1) (0,0) ⟨Nat.zero_le _,rfl⟩ ?_ ?_
   . (refine Zi ?_ ?_ ?_ rfl rfl<;>dsimp only [YK,id,go_sem]<;>simp [YK,Za])
   . rintro ⟨k,next⟩ ⟨hk,hi⟩;dsimp only [go_sem];refine br ?_ ?_
     . intro hlt;have hlt:k < x.gates.length:=by simpa using hlt
       dsimp only [go_sem];refine Zu k hlt rfl ?_;dsimp only [YK,go_sem];repeat (first | (refine gb ?_;dsimp only [go_sem]) | (refine call (ZbC _ _ x.gates[k].opens x.gates[k].shuts _) ?_;dsimp only [go_sem]) | (refine call (Zal _ _ _ _) ?_;dsimp only [go_sem]))
       have hd:x.gates.drop k=x.gates[k] :: x.gates.drop (k+1):=List.drop_eq_getElem_cons hlt;refine br ?_ ?_
       . intro hb;dsimp only [go_sem];rw [<- hi,hd]
         (simp only [Wh,Option.some.injEq,SV.v.injEq,Value.bool.injEq]<;>grind)
       . intro hb;dsimp only [go_sem];have hs:Z4 0 100000 x.gates[k].shuts=true:=by grind
         simp only [Z4,decide_eq_true_eq] at hs;rw [Zf (n:=x.gates[k].shuts.hi+1) (by omega) (by omega),Zf (n:=(k:Int)+1) (by omega) (by omega)];refine ⟨(k+1,x.gates[k].shuts.hi+1),⟨hlt,?_⟩,by simp only;omega,?_⟩
         . rw [<- hi,hd];simp only [Wh];grind
         . (refine Zi ?_ ?_ ?_ rfl rfl<;>dsimp only [YK,id,go_sem]<;>simp [YK,Za])
     . intro hlt;have hlt:k=x.gates.length:=by simp at hlt;omega
       dsimp only [go_sem];rw [<- hi,hlt];simp [Wh]
theorem ZtL (l:Land) (x:Leg) (hs:ZlP l) (hx:x ∈ l.legs):Ct Tryz.prog 189 [.agg (WP x),.ps (VL l) 0] (B (!ZbD l.wells.length x)):=by
 have hg:=hs.2.2 x hx;refine t189.1 (by simp [WP,VL,Yg,YK,Za]) (by simp) ?_;dsimp only [c189,r189,WP,VL,go_sem];simp only [List.length_map];refine call (Zfn x l.wells.length (by omega) (by have:=hs.1;omega) (by omega)) ?_;dsimp only [go_sem]
theorem ZnL (w:Well):Ct Tryz.prog 186 [.agg (Yg w)] (B (!XJ w)):=by
 refine t186.1 (by simp [Yg]) (by simp) ?_;dsimp only [c186,r186,Yg,go_sem];refine call (Zx2 w) ?_;dsimp only [go_sem]
theorem Zkv (l:Land) (hs:ZlP l):Ct Tryz.prog 138 [.agg (VL l)] (I (if Zaa l=true then 0 else 30)):=by
 refine t138.1 (by simp [VL,Yg,WP,YK,Za]) (by simp) ?_;dsimp only [c138,r138,VL,go_sem];refine call (con71 186 [] (by simp [KFL]) (λw=>!XJ w) l.wells (λw _=>ZnL w) (by have:=hs.1;omega)) ?_;dsimp only [go_sem];refine XK (res:=B (l.legs.any λx=>!ZbD l.wells.length x)) (by simp [FLT]) ?_ ?_
 . dsimp only [go_sem];exact con74 189 [.ps (VL l) 0] (by simp [VL,Yg,WP,YK,Za]) (λx=>!ZbD l.wells.length x) l.legs (λx hx=>ZtL l x hs hx) (by have:=hs.2.1;omega)
 dsimp only [go_sem];repeat (first | (refine gb ?_;dsimp only [go_sem]) | (refine call (Zal _ _ _ _) ?_;dsimp only [go_sem]))
 simp only [List.length_map];have key:Zaa l = !(!inR 1 12 l.wells.length || decide ((l.legs.length:Int) > 24) || !(!l.wells.any λw=>!XJ w) || !(!l.legs.any λx=>!ZbD l.wells.length x)):=by
  simp only [Zaa,List.all_eq_not_any_not];grind
 rw [key];refine br ?_ ?_
 . intro h;dsimp only [go_sem];rw [h];rfl
 . intro h;dsimp only [go_sem];rw [h];rfl
theorem ZdV {w:Well} {s:Span} {n:Int} (hw:XJ w=true) (h1:0<=s.lo) (h2:s.lo<=w.room) (h3:0<=s.hi) (h4:s.hi<=w.room) (h5:-200000<=n) (h6:n<=200000) :
 IntKind.i64.wrap (s.lo+IntKind.i64.wrap (n * w.yld.lo))=s.lo+n * w.yld.lo/\IntKind.i64.wrap (s.hi+IntKind.i64.wrap (n * w.yld.hi))=s.hi+n * w.yld.hi:=by
 simp only [XJ,Z4,inR,Bool.and_eq_true,decide_eq_true_eq] at hw;have key:∀ y:Int,0<=y->y<=10000000->-2000000000000<=n * y/\n * y<=2000000000000:=λy a b=>by
  constructor
  . have:=Int.mul_le_mul_of_nonneg_right h5 a;omega
  . have:=Int.mul_le_mul_of_nonneg_right h6 a;omega
 have k1:=key w.yld.lo (by omega) (by omega);have k2:=key w.yld.hi (by omega) (by omega);rw [Zf (n:=n * w.yld.lo) (by omega) (by omega),Zf (n:=n * w.yld.hi) (by omega) (by omega),Zf (by omega) (by omega),Zf (by omega) (by omega)];exact ⟨rfl,rfl⟩
theorem ZhH {w:Well} {s:Span} {n:Int} (hw:XJ w=true) (h1:0<=s.lo) (h2:s.lo<=w.room) (h3:0<=s.hi) (h4:s.hi<=w.room) (h5:-200000<=n) (h6:n<=200000):-2000000000000<=(X9 w s n).lo:=by
 simp only [XJ,Z4,inR,Bool.and_eq_true,decide_eq_true_eq] at hw;have k1:-2000000000000<=n * w.yld.lo:=by
  have:=Int.mul_le_mul_of_nonneg_right h5 (show 0<=w.yld.lo by omega);omega
 simp only [X9];omega
theorem ZcU (w:Well) (s:Span) (n:Int) (hw:XJ w=true) (h1:0<=s.lo) (h2:s.lo<=w.room) (h3:0<=s.hi) (h4:s.hi<=w.room) (h5:-200000<=n) (h6:n<=200000) :
 Ct Tryz.prog 162 [.agg (Yg w),.agg (Zh s),I n] (.agg (Zh (X9 w s n))):=by
 obtain ⟨k1,k2⟩:=ZdV hw h1 h2 h3 h4 h5 h6;refine t162.1 (by simp [Yg,Zh]) (by simp [Zh]) ?_;dsimp only [c162,r162,Yg,Zh,go_sem];simp only [k1,k2,X9]
def Zsp (r:Span × Int × Int):SV:=.tup [.agg (Zh r.1),I r.2.1,I r.2.2]
theorem Zpa {l:Land} {well:Int} (h:inR 0 (l.wells.length - 1) well=true):∃ (k:Nat) (hk:k < l.wells.length),well=(k:Int)/\l.wells[well.toNat]? = some l.wells[k]:=by
 simp only [inR,decide_eq_true_eq] at h;refine ⟨well.toNat,by omega,by omega,?_⟩;rw [List.getElem?_eq_getElem (by omega)]
theorem Zk0 (l:Land) (hs:ZlP l) (well day:Int) (draws:List Draw) (hd:draws.length<=1000) :
 Ct Tryz.prog 102 [.agg (VL l),I well,.sl false 3 (draws.map Vt),I day] (Zsp (Ui l well draws day)):=by
 have hw1:IntKind.i64.wrap ((l.wells.length:Int) - 1)=(l.wells.length:Int) - 1:=Zf (by omega) (by have:=hs.1;omega);refine t102.1 (by simp [VL,Yg,WP,YK,Vt,Za]) (by simp [Zsp,Zh]) ?_;dsimp only [c102,r102,VL,go_sem];refine call (Zkv l hs) ?_;dsimp only [go_sem];by_cases ho:Zaa l=true
 case neg =>
  rw [if_neg ho];refine Zs rfl ?_;dsimp only [go_sem];simp [Ui,ho,Zsp,Zh]
 rw [if_pos ho];refine Zp rfl ?_;dsimp only [go_sem];simp only [List.length_map,hw1];repeat (first | (refine gb ?_;dsimp only [go_sem]) | (refine call (Zal _ _ _ _) ?_;dsimp only [go_sem]))
 by_cases ha:(inR 0 (l.wells.length - 1) well && inR 0 100000 day)=true
 case neg =>
  refine Zs (by grind) ?_;dsimp only [go_sem];simp [Ui,ho,Zsp,Zh,ha]
 refine Zp (by grind) ?_;dsimp only [go_sem];by_cases hm:draws.length > 200
 case pos =>
  refine Zs (by simp;omega) ?_;dsimp only [go_sem];simp [Ui,ho,Zsp,Zh,ha,hm]
 refine Zp (by simp;omega) ?_;dsimp only [go_sem];refine Z1 (λs:Nat × Int=>[(50,I s.1),(12,I s.2)]) (λ_=>[]) (λs=>s.1<=draws.length/\X1 l.wells.length s.2 (draws.drop s.1)=X1 l.wells.length 0 draws) (λs=>draws.length - s.1) (0,0) ⟨Nat.zero_le _,rfl⟩ ?_ ?_
 . (refine Zi ?_ ?_ ?_ rfl rfl<;>dsimp only [YK,Yg,WP,Vt,id,go_sem]<;>simp [YK,Yg,WP,Vt,Za])
 . rintro ⟨k,last⟩ ⟨hk,hi⟩;simp only at hk hi;dsimp only [go_sem];by_cases hlt:k < draws.length
   . refine Zs (by simpa using hlt) ?_;dsimp only [go_sem];refine Zu k hlt rfl ?_;dsimp only [Vt,go_sem];simp only [List.length_map,hw1];repeat (first | (refine gb ?_;dsimp only [go_sem]) | (refine call (Zal _ _ _ _) ?_;dsimp only [go_sem]))
     have hdr:draws.drop k=draws[k] :: draws.drop (k+1):=List.drop_eq_getElem_cons hlt;rw [hdr] at hi;simp only [X1] at hi;refine br ?_ ?_
     . intro h;dsimp only [go_sem];have:X1 l.wells.length 0 draws=false:=by rw [<- hi];grind
       simp [Ui,ho,Zsp,Zh,ha,hm,this]
     . intro h;dsimp only [go_sem];rw [Zf (n:=(k:Int)+1) (by omega) (by omega)];refine ⟨(k+1,draws[k].day),⟨hlt,?_⟩,by simp only;omega,?_⟩
       . simp only;grind
       . (refine Zi ?_ ?_ ?_ rfl rfl<;>dsimp only [YK,Yg,WP,Vt,id,go_sem]<;>simp [YK,Yg,WP,Vt,Za])
   . refine Zp (by simp;omega) ?_;dsimp only [go_sem];have hk':k=draws.length:=by omega
     subst hk';simp only [List.drop_length,X1] at hi;obtain ⟨kw,hkw,rfl,hget⟩:=Zpa (Bool.and_eq_true_iff.1 ha).1;refine Zu kw hkw rfl ?_;dsimp only [Yg,go_sem];have hwf:Ui l kw draws day=Uh l.wells[kw] kw day l.wells[kw].has (-1) 0 draws:=by
      simp only [Ui,ho,ha,hm,<- hi,hget];simp
     rw [hwf];have hok:=ZdY ho l.wells[kw] (List.getElem_mem _);have hmem:=U4 hi.symm (Int.le_refl _);have hday:0<=day/\day<=100000:=by simp only [inR,Bool.and_eq_true,decide_eq_true_eq] at ha;omega
     have hroom:0<=l.wells[kw].has.lo/\l.wells[kw].has.lo<=l.wells[kw].room/\0<=l.wells[kw].has.hi/\l.wells[kw].has.hi<=l.wells[kw].room/\l.wells[kw].room<=1000000000:=by
      simp only [XJ,Z4,inR,Bool.and_eq_true,decide_eq_true_eq] at hok;omega
     have hroom2:∀ x:Int,x<=l.wells[kw].room->x<=1000000000:=λx h=>by omega
     refine Z1 (λs:Nat × Span × Int=>[(91,I s.1),(17,I s.2.2)]) (λs=>[(3,.cells (Zh s.2.1) 23)])
      (λs=>s.1<=draws.length/\Uh l.wells[kw] kw day s.2.1 s.2.2 s.1 (draws.drop s.1)=Uh l.wells[kw] kw day l.wells[kw].has (-1) 0 draws /\
       0<=s.2.1.lo/\s.2.1.lo<=l.wells[kw].room/\0<=s.2.1.hi/\s.2.1.hi<=l.wells[kw].room/\-1<=s.2.2/\s.2.2<=100000) (λs=>draws.length - s.1) (0,l.wells[kw].has,-1)
      ⟨Nat.zero_le _,rfl,hroom.1,hroom.2.1,hroom.2.2.1,hroom.2.2.2.1,by simp,by simp⟩ ?_ ?_
     . (refine Zi ?_ ?_ ?_ rfl rfl<;>dsimp only [YK,Yg,WP,Vt,Zh,id,go_sem]<;>simp [YK,Yg,WP,Vt,Zh,Za])
     . rintro ⟨k,now,ev⟩ ⟨hk2,hi2,n1,n2,n3,n4,e1,e2⟩;simp only at hk2 hi2 n1 n2 n3 n4 e1 e2;dsimp only [Zh,go_sem];by_cases hlt2:k < draws.length
       . refine Zs (by simpa using hlt2) ?_;dsimp only [go_sem];refine Zu k hlt2 rfl ?_;dsimp only [Vt,go_sem];repeat (first | (refine gb ?_;dsimp only [go_sem]))
         have hx:=hmem draws[k] (List.getElem_mem _);have hdr:draws.drop k=draws[k] :: draws.drop (k+1):=List.drop_eq_getElem_cons hlt2;rw [hdr] at hi2;simp only [Uh] at hi2;by_cases hc:(draws[k].well != (kw:Int) || decide (draws[k].day ≥ day))=true
         . refine Zs hc ?_;dsimp only [go_sem];rw [if_pos hc] at hi2;rw [Zf (n:=(k:Int)+1) (by omega) (by omega)];refine ⟨(k+1,now,ev),⟨hlt2,hi2,n1,n2,n3,n4,e1,e2⟩,by simp only;omega,?_⟩;(refine Zi ?_ ?_ ?_ rfl rfl<;>dsimp only [YK,Yg,WP,Vt,Zh,id,go_sem]<;>simp [YK,Yg,WP,Vt,Zh,Za])
         . refine Zp (by simpa using hc) ?_;rw [if_neg hc] at hi2;dsimp only [go_sem];rw [Zf (n:=draws[k].day - ev) (by omega) (by omega)];refine call (ZcU l.wells[kw] now (draws[k].day - ev) hok n1 n2 n3 n4 (by omega) (by omega)) ?_;dsimp only [Zh,go_sem];have hbig:-2000000000000<=(X9 l.wells[kw] now (draws[k].day - ev)).lo:=ZhH hok n1 n2 n3 n4 (by omega) (by omega);have hf2:(X9 l.wells[kw] now (draws[k].day - ev)).hi<=l.wells[kw].room:=by simp only [X9];omega
           have hf1:(X9 l.wells[kw] now (draws[k].day - ev)).lo<=l.wells[kw].room:=by simp only [X9];omega
           generalize hF:X9 l.wells[kw] now (draws[k].day - ev)=F at *;by_cases hdry:F.hi < draws[k].water
           . refine Zs (by simpa using hdry) ?_;dsimp only [go_sem];rw [if_pos hdry] at hi2;rw [<- hi2];rfl
           . refine Zp (by simpa using hdry) ?_;dsimp only [go_sem];rw [if_neg hdry] at hi2;rw [Zf (n:=F.lo - draws[k].water) (by omega) (by omega),Zf (n:=F.hi - draws[k].water) (by omega) (by omega),Zf (n:=(k:Int)+1) (by omega) (by omega)];refine ⟨(k+1,⟨max 0 (F.lo - draws[k].water),F.hi - draws[k].water⟩,draws[k].day),⟨hlt2,hi2,by simp only;omega,by simp only;omega,by simp only;omega,by simp only;omega,by simp only;omega,by simp only;omega⟩,by simp only;omega,?_⟩
             (refine Zi ?_ ?_ ?_ rfl rfl<;>dsimp only [YK,Yg,WP,Vt,Zh,id,go_sem]<;>simp [YK,Yg,WP,Vt,Zh,Za])
       . refine Zp (by simp;omega) ?_;dsimp only [go_sem];rw [Zf (n:=day - 1) (by omega) (by omega),Zf (n:=day - 1 - ev) (by omega) (by omega)];refine call (ZcU l.wells[kw] now (day - 1 - ev) hok n1 n2 n3 n4 (by omega) (by omega)) ?_;dsimp only [Zh,go_sem];have hk':k=draws.length:=by omega
         subst hk';simp only [List.drop_length,Uh] at hi2;rw [<- hi2];rfl
end Go.Proofs.YtkpkgafhfakpdaaGreatDoor
namespace Go.Azalai
structure Breed where
 full:Int
 fed:Int
 rest:Span
 heat:Span
 toil:Span
 burn:Span
 rub:Span
 milk:Span
 heal:Int
 strong:Span
deriving DecidableEq
structure Camel where
 water:Span
 fat:Span
 sore:Span
 milks:Bool
deriving DecidableEq
structure March where
 hours:Int
 load:Int
 heat:Span
 grass:Span
 drinks:Span
deriving DecidableEq
def Zw (b:Breed):Bool :=
 inR 1 1000000 b.full && inR 1 1000000 b.fed && inR 0 1000 b.heal && Z4 0 1000000 b.strong && Z4 0 100000 b.rest && Z4 0 100000 b.heat && Z4 0 100000 b.toil && Z4 0 100000 b.burn && Z4 0 100000 b.rub && Z4 0 100000 b.milk
def Zz (b:Breed) (c:Camel):Bool:=Z4 0 b.full c.water && Z4 0 b.fed c.fat && Z4 0 1000 c.sore
def Zt (m:March):Bool:=inR 0 24 m.hours && inR 0 1000000 m.load && Z4 0 60 m.heat && Z4 0 1000000 m.grass && Z4 0 1000000 m.drinks
def ZnT (b:Breed):Int:=if Zw b=true then 0 else 10
def Ve (b:Breed) (c:Camel):Int:=if Zw b=false then 10 else if Zz b c=false then 11 else 0
def upF (a b:Int):Int:=(a+b - 1).tdiv b
def ZB:Span:=⟨0,0⟩
def ZaP (b:Breed) (c:Camel):Span :=
 ⟨min 1000 (min ((2000 * c.water.lo).tdiv b.full) (min ((2000 * c.fat.lo).tdiv b.fed) (1000 - c.sore.hi))),min 1000 (min (upF (2000 * c.water.hi) b.full) (min (upF (2000 * c.fat.hi) b.fed) (1000 - c.sore.lo)))⟩
def Ul (b:Breed) (c:Camel):Span:=⟨(b.strong.lo * (ZaP b c).lo).tdiv 1000,upF (b.strong.hi * (ZaP b c).hi) 1000⟩
def ZV (m:March):Int:=m.hours * (100000+m.load)
def Y4 (b:Breed) (milks:Bool) (m:March):Span :=
 ⟨b.rest.lo+b.heat.lo * max 0 (m.heat.lo - 20)+(b.toil.lo * ZV m).tdiv 100000+(if milks then b.milk.lo else 0),b.rest.hi+b.heat.hi * max 0 (m.heat.hi - 20)+upF (b.toil.hi * ZV m) 100000+(if milks then b.milk.hi else 0)⟩
def Xc (b:Breed) (m:March):Span:=⟨(b.burn.lo * ZV m).tdiv 100000,upF (b.burn.hi * ZV m) 100000⟩
theorem Wg {a A d:Int} (h0:0<=a) (h1:a<=A) (hd:1<=d):0<=a.tdiv d/\a.tdiv d<=A :=
 ⟨Int.tdiv_nonneg h0 (by omega),Int.le_trans (Int.tdiv_le_self d h0) h1⟩
theorem ZiD {a A d:Int} (h0:0<=a) (h1:a<=A) (hd:1<=d):0<=upF a d/\upF a d<=A+d:=by
 have:=Wg (a:=a+d - 1) (A:=A+d) (d:=d) (by omega) (by omega) hd;exact this
end Go.Azalai
namespace Go.Proofs.YtkpkgafhfakpdaaGreatDoor.Cm
open Go Go.Sx Go.Azalai
def breedL (b:Breed):List SV:=[I b.full,I b.fed,I b.rest.lo,I b.rest.hi,I b.heat.lo,I b.heat.hi,I b.toil.lo,I b.toil.hi,I b.burn.lo,I b.burn.hi,I b.rub.lo,I b.rub.hi,I b.milk.lo,I b.milk.hi,I b.heal,I b.strong.lo,I b.strong.hi]
def camelL (c:Camel):List SV:=[I c.water.lo,I c.water.hi,I c.fat.lo,I c.fat.hi,I c.sore.lo,I c.sore.hi,B c.milks]
def ZY (b:Breed) (c:Camel):List SV:=[I b.full,I b.fed,I b.rest.lo,I b.rest.hi,I b.heat.lo,I b.heat.hi,I b.toil.lo,I b.toil.hi,I b.burn.lo,I b.burn.hi,I b.rub.lo,I b.rub.hi,I b.milk.lo,I b.milk.hi,I b.heal,I b.strong.lo,I b.strong.hi,I c.water.lo,I c.water.hi,I c.fat.lo,I c.fat.hi,I c.sore.lo,I c.sore.hi,B c.milks]
def marchL (m:March):List SV:=[I m.hours,I m.load,I m.heat.lo,I m.heat.hi,I m.grass.lo,I m.grass.hi,I m.drinks.lo,I m.drinks.hi]
theorem Y9 {α : Type} (g:α->Bool) (l:List α):decide (Yw g l 0 ≥ 0)=l.any g:=Zdu g l 0
theorem Zip (h:Nat) (caps:List SV) (hk:KFL caps) (g:Int->Bool) (l:List Int) (hg:∀ x ∈ l,Ct Tryz.prog h (I x :: caps) (B (g x))) (hl:l.length < 4611686018427387904) {c:Bool} :
 Ct Tryz.prog 192 [.sl c 1 (l.map Zk),.cl h caps] (I (Yw g l 0)):=by
 refine t192.1 ⟨by simp [KF,Za,KFL,Zk],hk,trivial⟩ (by simp [KF]) ?_;dsimp only [c192,r192,go_sem];refine Z1 (λk:Nat=>[(8,I k)]) (λ_=>[]) (λk=>k<=l.length/\Yw g (l.drop k) k=Yw g l 0) (λk=>l.length - k) 0 ⟨Nat.zero_le _,rfl⟩ ?_ ?_
 . (refine Zi ?_ ?_ ?_ rfl rfl<;>dsimp only [Zk,hk,id,go_sem]<;>simp [Zk,hk,Za])
 . intro k ⟨hk',hi⟩;dsimp only [go_sem];refine br ?_ ?_
   . intro hlt;have hlt:k < l.length:=by simpa using hlt
     dsimp only [go_sem];refine Zu k hlt rfl ?_;dsimp only [Zk,go_sem];refine call (hg l[k] (List.getElem_mem _)) ?_;dsimp only [go_sem];refine br ?_ ?_
     . intro hgx;dsimp only [go_sem];rw [<- hi,List.drop_eq_getElem_cons hlt];simp [Yw,hgx]
     . intro hgx;dsimp only [go_sem];refine ⟨k+1,⟨by omega,?_⟩,by omega,?_⟩
       . rw [<- hi,List.drop_eq_getElem_cons hlt];simp [Yw,hgx]
       . rw [Zf (by omega) (by omega)];(refine Zi ?_ ?_ ?_ rfl rfl<;>dsimp only [Zk,hk,id,go_sem]<;>simp [Zk,hk,Za])
   . intro hlt;have hlt:k=l.length:=by simp at hlt;omega
     dsimp only [go_sem];rw [<- hi,hlt];simp [Yw]
theorem con91 (h:Nat) (caps:List SV) (hk:KFL caps) (g:Int->Bool) (l:List Int) (hg:∀ x ∈ l,Ct Tryz.prog h (I x :: caps) (B (g x))) (hl:l.length < 4611686018427387904) {c:Bool} :
 Ct Tryz.prog 140 [.sl c 1 (l.map Zk),.cl h caps] (B (l.any g)):=by
 refine t140.1 ⟨by simp [KF,Za,KFL,Zk],hk,trivial⟩ (by simp [KF]) ?_;dsimp only [c140,r140,go_sem];refine call (Zip h caps hk g l hg hl) ?_;dsimp only [go_sem];rw [Y9]
theorem Zyr (h:Nat) (caps:List SV) (hk:KFL caps) (g:Span->Bool) (l:List Span) (hg:∀ x ∈ l,Ct Tryz.prog h (.agg (Zh x) :: caps) (B (g x))) (hl:l.length < 4611686018427387904) {c:Bool} :
 Ct Tryz.prog 216 [.sl c 2 (l.map Zh),.cl h caps] (I (Yw g l 0)):=by
 refine t216.1 ⟨by simp [KF,Za,KFL,Zh],hk,trivial⟩ (by simp [KF]) ?_;dsimp only [c216,r216,go_sem];refine Z1 (λk:Nat=>[(8,I k)]) (λ_=>[]) (λk=>k<=l.length/\Yw g (l.drop k) k=Yw g l 0) (λk=>l.length - k) 0 ⟨Nat.zero_le _,rfl⟩ ?_ ?_
 . (refine Zi ?_ ?_ ?_ rfl rfl<;>dsimp only [Zh,hk,id,go_sem]<;>simp [Zh,hk,Za])
 . intro k ⟨hk',hi⟩;dsimp only [go_sem];refine br ?_ ?_
   . intro hlt;have hlt:k < l.length:=by simpa using hlt
     dsimp only [go_sem];refine Zu k hlt rfl ?_;dsimp only [Zh,go_sem];refine call (hg l[k] (List.getElem_mem _)) ?_;dsimp only [go_sem];refine br ?_ ?_
     . intro hgx;dsimp only [go_sem];rw [<- hi,List.drop_eq_getElem_cons hlt];simp [Yw,hgx]
     . intro hgx;dsimp only [go_sem];refine ⟨k+1,⟨by omega,?_⟩,by omega,?_⟩
       . rw [<- hi,List.drop_eq_getElem_cons hlt];simp [Yw,hgx]
       . rw [Zf (by omega) (by omega)];(refine Zi ?_ ?_ ?_ rfl rfl<;>dsimp only [Zh,hk,id,go_sem]<;>simp [Zh,hk,Za])
   . intro hlt;have hlt:k=l.length:=by simp at hlt;omega
     dsimp only [go_sem];rw [<- hi,hlt];simp [Yw]
theorem con93 (h:Nat) (caps:List SV) (hk:KFL caps) (g:Span->Bool) (l:List Span) (hg:∀ x ∈ l,Ct Tryz.prog h (.agg (Zh x) :: caps) (B (g x))) (hl:l.length < 4611686018427387904) {c:Bool} :
 Ct Tryz.prog 173 [.sl c 2 (l.map Zh),.cl h caps] (B (l.any g)):=by
 refine t173.1 ⟨by simp [KF,Za,KFL,Zh],hk,trivial⟩ (by simp [KF]) ?_;dsimp only [c173,r173,go_sem];refine call (Zyr h caps hk g l hg hl) ?_;dsimp only [go_sem];rw [Y9]
theorem Zcm (n lo hi:Int):Ct Tryz.prog 168 [I n,I lo,I hi] (B (inR lo hi n)):=by
 refine t168.1 (by simp) (by simp) ?_;dsimp only [c168,r168,go_sem];refine gb ?_;dsimp only [go_sem];refine gb ?_;dsimp only [go_sem];refine gb ?_;dsimp only [go_sem];simp [inR]
theorem Ym (s:Span) (lo hi:Int):Ct Tryz.prog 169 [.agg (Zh s),I lo,I hi] (B (Z4 lo hi s)):=by
 refine t169.1 (by simp [Zh]) (by simp) ?_;dsimp only [c169,r169,Zh,go_sem];refine call (Zcm _ _ _) ?_;dsimp only [go_sem];repeat (refine gb ?_;dsimp only [go_sem])
 (simp only [Z4,inR,Option.some.injEq,SV.v.injEq,Value.bool.injEq]<;>grind)
theorem ZbN (lo hi x:Int):Ct Tryz.prog 175 [I x,.ps [I lo] 0,.ps [I hi] 0] (B (!inR lo hi x)):=by
 refine t175.1 (by simp) (by simp) ?_;dsimp only [c175,r175,go_sem];repeat (refine gb ?_;dsimp only [go_sem])
 (simp only [inR,Option.some.injEq,SV.v.injEq,Value.bool.injEq]<;>grind)
theorem WN (lo hi:Int) (l:List Int) (hl:l.length < 4611686018427387904) (c:Bool):Ct Tryz.prog 120 [I lo,I hi,.sl c 1 (l.map Zk)] (B (l.all (inR lo hi))):=by
 refine t120.1 (by simp [Za,Zk]) (by simp) ?_;dsimp only [c120,r120,go_sem];refine XK (by simp [FLT]) (res:=B (l.any λx=>!inR lo hi x)) ?_ ?_
 . dsimp only [go_sem];exact con91 175 [.ps [I lo] 0,.ps [I hi] 0] (by simp) (λx=>!inR lo hi x) l (λx _=>ZbN lo hi x) hl
 . dsimp only [go_sem];simp [List.all_eq_not_any_not]
theorem Zal (lo hi a:Int) (c:Bool):Ct Tryz.prog 120 [I lo,I hi,.sl c 1 [[I a]]] (B (inR lo hi a)):=by
 have:=WN lo hi [a] (by simp) c;simpa [Zk] using this
theorem Zdm (lo hi a b:Int) (c:Bool):Ct Tryz.prog 120 [I lo,I hi,.sl c 1 [[I a],[I b]]] (B (inR lo hi a && inR lo hi b)):=by
 have:=WN lo hi [a,b] (by simp) c;simpa [Zk] using this
theorem W0 (lo hi:Int) (s:Span):Ct Tryz.prog 174 [.agg (Zh s),.ps [I lo] 0,.ps [I hi] 0] (B (!Z4 lo hi s)):=by
 refine t174.1 (by simp [Zh]) (by simp) ?_;dsimp only [c174,r174,Zh,go_sem];repeat (first | (refine gb ?_;dsimp only [go_sem]) | (refine call (Zdm _ _ _ _ _) ?_;dsimp only [go_sem]))
 (simp only [Z4,inR,Option.some.injEq,SV.v.injEq,Value.bool.injEq]<;>grind)
theorem YR (lo hi:Int) (l:List Span) (hl:l.length < 4611686018427387904) (c:Bool):Ct Tryz.prog 119 [I lo,I hi,.sl c 2 (l.map Zh)] (B (l.all (Z4 lo hi))):=by
 refine t119.1 (by simp [Za,Zh]) (by simp) ?_;dsimp only [c119,r119,go_sem];refine XK (by simp [FLT]) (res:=B (l.any λx=>!Z4 lo hi x)) ?_ ?_
 . dsimp only [go_sem];exact con93 174 [.ps [I lo] 0,.ps [I hi] 0] (by simp) (λx=>!Z4 lo hi x) l (λx _=>W0 lo hi x) hl
 . dsimp only [go_sem];simp [List.all_eq_not_any_not]
theorem YV (lo hi:Int) (s:Span) (c:Bool):Ct Tryz.prog 119 [I lo,I hi,.sl c 2 [[I s.lo,I s.hi]]] (B (Z4 lo hi s)):=by
 have:=YR lo hi [s] (by simp) c;simpa [Zh] using this
theorem ZbC (lo hi:Int) (s t:Span) (c:Bool):Ct Tryz.prog 119 [I lo,I hi,.sl c 2 [[I s.lo,I s.hi],[I t.lo,I t.hi]]] (B (Z4 lo hi s && Z4 lo hi t)):=by
 have:=YR lo hi [s,t] (by simp) c;simpa [Zh] using this
theorem Zl9 (lo hi:Int) (a b c d e f:Span) (k:Bool):Ct Tryz.prog 119 [I lo,I hi,.sl k 2 [[I a.lo,I a.hi],[I b.lo,I b.hi],[I c.lo,I c.hi],[I d.lo,I d.hi],[I e.lo,I e.hi],[I f.lo,I f.hi]]]
 (B (Z4 lo hi a && (Z4 lo hi b && (Z4 lo hi c && (Z4 lo hi d && (Z4 lo hi e && Z4 lo hi f)))))):=by
 have:=YR lo hi [a,b,c,d,e,f] (by simp) k;simpa [Zh] using this
theorem VA (b:Breed):Ct Tryz.prog 118 [.agg (breedL b)] (I (ZnT b)):=by
 refine t118.1 (by simp [breedL]) (by simp) ?_;dsimp only [c118,r118,breedL,go_sem];repeat (first | (refine gb ?_;dsimp only [go_sem]) | (refine call (Zal _ _ _ _) ?_;dsimp only [go_sem]) | (refine call (Zdm _ _ _ _ _) ?_;dsimp only [go_sem]) | (refine call (Zl9 _ _ b.rest b.heat b.toil b.burn b.rub b.milk _) ?_;dsimp only [go_sem]) | (refine call (YV _ _ b.strong _) ?_;dsimp only [go_sem]))
 refine br ?_ ?_
 . intro h;dsimp only [go_sem];have:Zw b=false:=by simp only [Zw];grind
   simp [ZnT,this]
 . intro h;dsimp only [go_sem];have:Zw b=true:=by simp only [Zw];grind
   simp [ZnT,this]
theorem Zjz (b:Breed):Ct Tryz.prog 107 [.agg (breedL b)] (B (Zw b)):=by
 refine t107.1 (by simp [breedL]) (by simp) ?_;dsimp only [c107,r107,breedL,go_sem];repeat (first | (refine gb ?_;dsimp only [go_sem]) | (refine call (Zcm _ _ _) ?_;dsimp only [go_sem]) | (refine call (Ym b.strong _ _) ?_;dsimp only [go_sem]))
 refine br ?_ ?_
 . intro h;dsimp only [go_sem];have:Zw b=false:=by simp only [Zw];grind
   simp [this]
 . intro h;dsimp only [go_sem];repeat (first | (refine gb ?_;dsimp only [go_sem]) | (refine call (Ym b.rest _ _) ?_;dsimp only [go_sem]) | (refine call (Ym b.heat _ _) ?_;dsimp only [go_sem]) | (refine call (Ym b.toil _ _) ?_;dsimp only [go_sem]) | (refine call (Ym b.burn _ _) ?_;dsimp only [go_sem]) | (refine call (Ym b.rub _ _) ?_;dsimp only [go_sem]) | (refine call (Ym b.milk _ _) ?_;dsimp only [go_sem]))
   (simp only [Zw,Option.some.injEq,SV.v.injEq,Value.bool.injEq]<;>grind)
theorem Y8 (b:Breed) (c:Camel):Ct Tryz.prog 62 [.agg (breedL b),.agg (camelL c)] (I (Ve b c)):=by
 refine t62.1 (by simp [breedL,camelL]) (by simp) ?_;dsimp only [c62,r62,breedL,camelL,go_sem];refine call (VA b) ?_;dsimp only [go_sem];by_cases hb:Zw b=true
 case neg =>
  refine Zs (by simp [ZnT,hb]) ?_;dsimp only [go_sem];simp [ZnT,Ve,hb]
 refine Zp (by simp [ZnT,hb]) ?_;dsimp only [go_sem];repeat (first | (refine gb ?_;dsimp only [go_sem]) | (refine call (YV _ _ c.water _) ?_;dsimp only [go_sem]) | (refine call (YV _ _ c.fat _) ?_;dsimp only [go_sem]) | (refine call (YV _ _ c.sore _) ?_;dsimp only [go_sem]))
 refine br ?_ ?_
 . intro h;dsimp only [go_sem];have:Zz b c=false:=by simp only [Zz];grind
   simp [Ve,this,hb]
 . intro h;dsimp only [go_sem];have:Zz b c=true:=by simp only [Zz];grind
   simp [Ve,this,hb]
theorem Zhg (b:Breed) (c:Camel):Ct Tryz.prog 108 [.agg (breedL b),.agg (camelL c)] (B (Zz b c)):=by
 refine t108.1 (by simp [breedL,camelL]) (by simp) ?_;dsimp only [c108,r108,breedL,camelL,go_sem];repeat (first | (refine gb ?_;dsimp only [go_sem]) | (refine call (Ym c.water _ _) ?_;dsimp only [go_sem]) | (refine call (Ym c.fat _ _) ?_;dsimp only [go_sem]) | (refine call (Ym c.sore _ _) ?_;dsimp only [go_sem]))
 (simp only [Zz,Option.some.injEq,SV.v.injEq,Value.bool.injEq]<;>grind)
theorem checkCamelR_ok (b:Breed) (c:Camel):Ct Tryz.prog 44 [.agg (breedL b),.agg (camelL c)] (I (Ve b c)):=by
 refine t44.1 (by simp [breedL,camelL]) (by simp) ?_;dsimp only [c44,r44,breedL,camelL,go_sem];refine call (Zjz b) ?_;dsimp only [go_sem];by_cases hb:Zw b=true
 case neg =>
  refine Zs (by simp [hb]) ?_;dsimp only [go_sem];simp [Ve,hb]
 refine Zp (by simp [hb]) ?_;dsimp only [go_sem];refine call (Zhg b c) ?_;dsimp only [go_sem];refine br ?_ ?_
 . intro h;dsimp only [go_sem];have:Zz b c=false:=by simpa using h
   simp [Ve,this,hb]
 . intro h;dsimp only [go_sem];have:Zz b c=true:=by simpa using h
   simp [Ve,this,hb]
theorem Ug (l:List March) (hl:l.length < 4611686018427387904) (c:Bool):Ct Tryz.prog 63 [.sl c 8 (l.map marchL)] (I (if l.all Zt=true then 0 else 12)):=by
 refine t63.1 (by simp [marchL,Za]) (by simp) ?_;dsimp only [c63,r63,go_sem];refine Z1 (λk:Nat=>[(7,I k)]) (λ_=>[]) (λk=>k<=l.length/\(l.drop k).all Zt=l.all Zt) (λk=>l.length - k) 0 ⟨Nat.zero_le _,rfl⟩ ?_ ?_
 . (refine Zi ?_ ?_ ?_ rfl rfl<;>dsimp only [marchL,id,go_sem]<;>simp [marchL,Za])
 intro k ⟨hk,hi⟩;dsimp only [go_sem];by_cases hlt:k < l.length
 . refine Zs (by simpa using hlt) ?_;dsimp only [go_sem];refine Zu k hlt rfl ?_;dsimp only [marchL,go_sem];repeat (first | (refine gb ?_;dsimp only [go_sem]) | (refine call (Zal _ _ _ _) ?_;dsimp only [go_sem]) | (refine call (YV _ _ l[k].heat _) ?_;dsimp only [go_sem]) | (refine call (ZbC _ _ l[k].grass l[k].drinks _) ?_;dsimp only [go_sem]))
   rw [List.drop_eq_getElem_cons hlt,List.all_cons] at hi;refine br ?_ ?_
   . intro h;dsimp only [go_sem];have:Zt l[k]=false:=by simp only [Zt];grind
     rw [<- hi,this];rfl
   . intro h;dsimp only [go_sem];have:Zt l[k]=true:=by simp only [Zt];grind
     rw [this,Bool.true_and] at hi;rw [Zf (n:=(k:Int)+1) (by omega) (by omega)];refine ⟨k+1,⟨hlt,hi⟩,by omega,?_⟩;(refine Zi ?_ ?_ ?_ rfl rfl<;>dsimp only [marchL,id,go_sem]<;>simp [marchL,Za])
 . refine Zp (by simp;omega) ?_;dsimp only [go_sem];have hke:k=l.length:=by omega
   subst hke;rw [List.drop_length] at hi;rw [<- hi];rfl
theorem Zig (m:March) (c:Bool):Ct Tryz.prog 63 [.sl c 8 [marchL m]] (I (if Zt m=true then 0 else 12)):=by
 have:=Ug [m] (by simp) c;simpa using this
theorem Zrn {a b A:Int} (h0:0<=a) (h1:a<=A) (hA:A<=1000000000000000) (hb:1<=b) (hb2:b<=1000000000) :
 IntKind.i64.wrap (a+b)=a+b/\IntKind.i64.wrap (a+b - 1)=a+b - 1/\IntKind.i64.wrap ((a+b - 1).tdiv b)=upF a b:=by
 have:=ZiD h0 h1 hb;refine ⟨Zf (by omega) (by omega),Zf (by omega) (by omega),?_⟩;unfold upF at *;exact Zf (by omega) (by omega)
theorem ZdT (a b:Int) (h0:0<=a) (h1:a<=1000000000000000) (hb:1<=b) (hb2:b<=1000000000):Ct Tryz.prog 114 [I a,I b] (I (upF a b)):=by
 obtain ⟨q1,q2,q3⟩:=Zrn h0 h1 (Int.le_refl _) hb hb2;refine t114.1 (by simp) (by simp) ?_;dsimp only [c114,r114,go_sem];simp only [q1,q2];refine ZsA (by omega) ?_;dsimp only [go_sem];rw [q3]
def scl (s:Span) (b n:Int):Span:=⟨(s.lo * n).tdiv b,upF (s.hi * n) b⟩
theorem Zdx (s:Span) (b n A:Int) (c:Bool) (h1:0<=s.lo) (h2:s.lo<=s.hi) (h3:0<=n) (h4:s.hi * n<=100000000000000) (hb:1<=b) (hb2:b<=1000000000) :
 Ct Tryz.prog 117 [.agg (Zh s),I b,.sl c 1 [[I n]]] (.agg (Zh (scl s b n))):=by
 have k1:0<=s.lo * n:=Int.mul_nonneg h1 h3;have k2:s.lo * n<=s.hi * n:=Int.mul_le_mul_of_nonneg_right h2 h3;refine t117.1 (by simp [Zh,KFR]) (by simp [Zh]) ?_;dsimp only [c117,r117,Zh,go_sem];refine Yn 2 ?_;dsimp only [Zc,go_sem];refine Zs (by decide) ?_;dsimp only [Zc,go_sem];refine ixs 0 [I n] rfl rfl ?_;dsimp only [Zc,go_sem];refine Zp (by decide) ?_;dsimp only [go_sem];rw [Zf (n:=s.lo * n) (by omega) (by omega),Zf (n:=s.hi * n) (by omega) (by omega)]
 refine ZsA (by omega) ?_;dsimp only [go_sem];refine call (ZdT _ _ (by omega) (by omega) hb hb2) ?_;dsimp only [go_sem];have:=Wg k1 (Int.le_trans k2 h4) hb;rw [Zf (n:=(s.lo * n).tdiv b) (by omega) (by omega)];rfl
theorem VV (s:Span) (b n m A:Int) (c:Bool) (h1:0<=s.lo) (h2:s.lo<=s.hi) (h3:0<=n) (h3':0<=m) (h4:s.hi * n<=100000000000000) (h5:s.hi * n * m<=100000000000000) (hb:1<=b) (hb2:b<=1000000000) :
 Ct Tryz.prog 117 [.agg (Zh s),I b,.sl c 1 [[I n],[I m]]] (.agg (Zh ⟨(s.lo * n * m).tdiv b,upF (s.hi * n * m) b⟩)):=by
 have k1:0<=s.lo * n:=Int.mul_nonneg h1 h3;have k2:s.lo * n<=s.hi * n:=Int.mul_le_mul_of_nonneg_right h2 h3;have k3:0<=s.lo * n * m:=Int.mul_nonneg k1 h3';have k4:s.lo * n * m<=s.hi * n * m:=Int.mul_le_mul_of_nonneg_right k2 h3';refine t117.1 (by simp [Zh,KFR]) (by simp [Zh]) ?_;dsimp only [c117,r117,Zh,go_sem];refine Yn 3 ?_;dsimp only [Zc,go_sem];refine Zs (by decide) ?_;dsimp only [Zc,go_sem];refine ixs 0 [I n] rfl rfl ?_
 dsimp only [Zc,go_sem];refine Zs (by decide) ?_;dsimp only [Zc,go_sem];refine ixs 1 [I m] rfl rfl ?_;dsimp only [Zc,go_sem];refine Zp (by decide) ?_;dsimp only [go_sem];rw [Zf (n:=s.lo * n) (by omega) (by omega),Zf (n:=s.hi * n) (by omega) (by omega),Zf (n:=s.lo * n * m) (by omega) (by omega),Zf (n:=s.hi * n * m) (by omega) (by omega)];refine ZsA (by omega) ?_;dsimp only [go_sem];refine call (ZdT _ _ (by omega) (by omega) hb hb2) ?_
 dsimp only [go_sem];have:=Wg k3 (Int.le_trans k4 h5) hb;rw [Zf (n:=(s.lo * n * m).tdiv b) (by omega) (by omega)]
def bdS (A:Int) (s:Span):Prop:=0<=s.lo/\s.lo<=A/\0<=s.hi/\s.hi<=A
theorem WS (s t:Span) (c:Bool) (h1:bdS 1000000000000000 s) (h2:bdS 1000000000000000 t):Ct Tryz.prog 116 [.sl c 2 [[I s.lo,I s.hi],[I t.lo,I t.hi]]] (.agg (Zh ⟨s.lo+t.lo,s.hi+t.hi⟩)):=by
 unfold bdS at h1 h2;refine t116.1 (by simp [KFR]) (by simp [Zh]) ?_;dsimp only [c116,r116,Zh,go_sem];refine Yn 3 ?_;dsimp only [Zc,go_sem];refine Zs (by decide) ?_;dsimp only [Zc,go_sem];refine ixs 0 [I s.lo,I s.hi] rfl rfl ?_;dsimp only [Zc,go_sem];refine Zs (by decide) ?_;dsimp only [Zc,go_sem];refine ixs 1 [I t.lo,I t.hi] rfl rfl ?_;dsimp only [Zc,go_sem];refine Zp (by decide) ?_;dsimp only [go_sem]
 simp only [Int.zero_add];rw [Zf (n:=s.lo) (by omega) (by omega),Zf (n:=s.hi) (by omega) (by omega),Zf (n:=s.lo+t.lo) (by omega) (by omega),Zf (n:=s.hi+t.hi) (by omega) (by omega)]
theorem plus3 (s t u:Span) (c:Bool) (h1:bdS 1000000000000000 s) (h2:bdS 1000000000000000 t) (h3:bdS 1000000000000000 u):Ct Tryz.prog 116 [.sl c 2 [[I s.lo,I s.hi],[I t.lo,I t.hi],[I u.lo,I u.hi]]] (.agg (Zh ⟨s.lo+t.lo+u.lo,s.hi+t.hi+u.hi⟩)):=by
 unfold bdS at h1 h2 h3;refine t116.1 (by simp [KFR]) (by simp [Zh]) ?_;dsimp only [c116,r116,Zh,go_sem];refine Yn 4 ?_;dsimp only [Zc,go_sem];refine Zs (by decide) ?_;dsimp only [Zc,go_sem];refine ixs 0 [I s.lo,I s.hi] rfl rfl ?_;dsimp only [Zc,go_sem];refine Zs (by decide) ?_;dsimp only [Zc,go_sem];refine ixs 1 [I t.lo,I t.hi] rfl rfl ?_;dsimp only [Zc,go_sem];refine Zs (by decide) ?_;dsimp only [Zc,go_sem]
 refine ixs 2 [I u.lo,I u.hi] rfl rfl ?_;dsimp only [Zc,go_sem];refine Zp (by decide) ?_;dsimp only [go_sem];simp only [Int.zero_add];rw [Zf (n:=s.lo) (by omega) (by omega),Zf (n:=s.hi) (by omega) (by omega),Zf (n:=s.lo+t.lo) (by omega) (by omega),Zf (n:=s.hi+t.hi) (by omega) (by omega),Zf (n:=s.lo+t.lo+u.lo) (by omega) (by omega),Zf (n:=s.hi+t.hi+u.hi) (by omega) (by omega)]
theorem ZjI (n:Int) (s:Span) (h1:0<=n) (h2:n<=1000000) (h3:bdS 1000000 s):Ct Tryz.prog 161 [I n,.agg (Zh s)] (.agg (Zh ⟨n - s.hi,n - s.lo⟩)):=by
 unfold bdS at h3;refine t161.1 (by simp [Zh]) (by simp [Zh]) ?_;dsimp only [c161,r161,Zh,go_sem];rw [Zf (n:=n - s.hi) (by omega) (by omega),Zf (n:=n - s.lo) (by omega) (by omega)]
theorem breed_bd {b:Breed} (h:Zw b=true):1<=b.full/\b.full<=1000000/\1<=b.fed/\b.fed<=1000000/\0<=b.heal/\b.heal<=1000/\(0<=b.strong.lo/\b.strong.lo<=b.strong.hi/\b.strong.hi<=1000000)/\(0<=b.rest.lo/\b.rest.lo<=b.rest.hi/\b.rest.hi<=100000) /\
 (0<=b.heat.lo/\b.heat.lo<=b.heat.hi/\b.heat.hi<=100000)/\(0<=b.toil.lo/\b.toil.lo<=b.toil.hi/\b.toil.hi<=100000)/\(0<=b.burn.lo/\b.burn.lo<=b.burn.hi/\b.burn.hi<=100000)/\(0<=b.rub.lo/\b.rub.lo<=b.rub.hi/\b.rub.hi<=100000)/\(0<=b.milk.lo/\b.milk.lo<=b.milk.hi/\b.milk.hi<=100000):=by
 simp only [Zw,Z4,inR,Bool.and_eq_true,decide_eq_true_eq] at h;omega
theorem camel_bd {b:Breed} {c:Camel} (hb:Zw b=true) (h:Zz b c=true):(0<=c.water.lo/\c.water.lo<=c.water.hi/\c.water.hi<=b.full)/\(0<=c.fat.lo/\c.fat.lo<=c.fat.hi/\c.fat.hi<=b.fed)/\(0<=c.sore.lo/\c.sore.lo<=c.sore.hi/\c.sore.hi<=1000):=by
 simp only [Zz,Z4,Bool.and_eq_true,decide_eq_true_eq] at h;omega
theorem march_bd {m:March} (h:Zt m=true):0<=m.hours/\m.hours<=24/\0<=m.load/\m.load<=1000000/\(0<=m.heat.lo/\m.heat.lo<=m.heat.hi/\m.heat.hi<=60)/\(0<=m.grass.lo/\m.grass.lo<=m.grass.hi/\m.grass.hi<=1000000)/\(0<=m.drinks.lo/\m.drinks.lo<=m.drinks.hi/\m.drinks.hi<=1000000):=by
 simp only [Zt,Z4,inR,Bool.and_eq_true,decide_eq_true_eq] at h;omega
theorem Zyk (b:Breed) (c:Camel) (hb:Zw b=true) (hc:Zz b c=true):Ct Tryz.prog 113 [.agg (ZY b c)] (.agg (Zh (ZaP b c))):=by
 obtain ⟨b1,b2,b3,b4,_⟩:=breed_bd hb;obtain ⟨⟨w1,w2,w3⟩,⟨f1,f2,f3⟩,⟨s1,s2,s3⟩⟩:=camel_bd hb hc;refine t113.1 (by simp [ZY]) (by simp [Zh]) ?_;dsimp only [c113,r113,ZY,go_sem];refine call (VV c.water b.full 2 1000 0 true w1 w2 (by omega) (by omega) (by omega) (by omega) b1 (by omega)) ?_;dsimp only [Zh,go_sem];refine call (VV c.fat b.fed 2 1000 0 true f1 f2 (by omega) (by omega) (by omega) (by omega) b3 (by omega)) ?_
 dsimp only [Zh,go_sem];refine call (ZjI 1000 c.sore (by omega) (by omega) ⟨by omega,by omega,by omega,by omega⟩) ?_;dsimp only [Zh,go_sem];refine Yn 4 ?_;dsimp only [Zc,go_sem];refine Zs (by decide) ?_;dsimp only [Zc,go_sem];refine ixa 0 rfl (by decide) ?_;dsimp only [Zc,go_sem];refine Zs (by decide) ?_;dsimp only [Zc,go_sem];refine ixa 1 rfl (by decide) ?_;dsimp only [Zc,go_sem];refine Zs (by decide) ?_
 dsimp only [Zc,go_sem];refine ixa 2 rfl (by decide) ?_;dsimp only [Zc,go_sem];refine Zp (by decide) ?_;dsimp only [go_sem];have e1:c.water.lo * 2 * 1000=2000 * c.water.lo:=by omega
 have e2:c.water.hi * 2 * 1000=2000 * c.water.hi:=by omega
 have e3:c.fat.lo * 2 * 1000=2000 * c.fat.lo:=by omega
 have e4:c.fat.hi * 2 * 1000=2000 * c.fat.hi:=by omega
 simp only [e1,e2,e3,e4,ZaP,Int.min_assoc]
theorem fit_bd {b:Breed} {c:Camel} (hb:Zw b=true) (hc:Zz b c=true):0<=(ZaP b c).lo/\(ZaP b c).lo<=1000/\0<=(ZaP b c).hi/\(ZaP b c).hi<=1000:=by
 obtain ⟨b1,b2,b3,b4,_⟩:=breed_bd hb;obtain ⟨⟨w1,w2,w3⟩,⟨f1,f2,f3⟩,⟨s1,s2,s3⟩⟩:=camel_bd hb hc;have d1:=Wg (a:=2000 * c.water.lo) (A:=2000000000) (d:=b.full) (by omega) (by omega) b1;have d2:=Wg (a:=2000 * c.fat.lo) (A:=2000000000) (d:=b.fed) (by omega) (by omega) b3;have d3:=ZiD (a:=2000 * c.water.hi) (A:=2000000000) (d:=b.full) (by omega) (by omega) b1;have d4:=ZiD (a:=2000 * c.fat.hi) (A:=2000000000) (d:=b.fed) (by omega) (by omega) b3
 simp only [ZaP];omega
theorem Zp1 (b:Breed) (c:Camel) (hb:Zw b=true) (hc:Zz b c=true):Ct Tryz.prog 56 [.agg (ZY b c)] (.agg (Zh (Ul b c))):=by
 obtain ⟨b1,b2,b3,b4,_,_,⟨g1,g2,g3⟩,_⟩:=breed_bd hb;obtain ⟨q1,q2,q3,q4⟩:=fit_bd hb hc;have k1:=VH (a:=b.strong.lo) (A:=1000000) (b:=(ZaP b c).lo) (B:=1000) (by omega) (by omega) q1 q2;have k2:=VH (a:=b.strong.hi) (A:=1000000) (b:=(ZaP b c).hi) (B:=1000) (by omega) (by omega) q3 q4;refine t56.1 (by simp [ZY]) (by simp [Zh]) ?_;dsimp only [c56,r56,ZY,go_sem];refine call (Zyk b c hb hc) ?_;dsimp only [Zh,go_sem]
 rw [Zf (n:=b.strong.lo * (ZaP b c).lo) (by omega) (by omega)];refine ZsA (by omega) ?_;dsimp only [go_sem];rw [Zf (n:=b.strong.hi * (ZaP b c).hi) (by omega) (by omega)];refine call (ZdT _ _ (by omega) (by omega) (by omega) (by omega)) ?_;dsimp only [go_sem];have d1:=Wg (a:=b.strong.lo * (ZaP b c).lo) (d:=1000) k1.1 k1.2 (by omega);rw [Zf (n:=(b.strong.lo * (ZaP b c).lo).tdiv 1000) (by omega) (by omega)]
 rfl
def sres (b:Breed) (c:Camel) (s:Span):SV:=.tup [.agg (Zh (if Ve b c=0 then s else ZB)),I (Ve b c)]
theorem errC_0 {b:Breed} {c:Camel}:Ve b c=0↔Zw b=true/\Zz b c=true:=by
 simp only [Ve];cases Zw b<;>cases Zz b c<;>simp
theorem carries_ok (b:Breed) (c:Camel):Ct Tryz.prog 60 [.agg (breedL b),.agg (camelL c)] (sres b c (Ul b c)):=by
 refine t60.1 (by simp [breedL,camelL]) (by simp [sres,Zh]) ?_;dsimp only [c60,r60,breedL,camelL,go_sem];refine call (Y8 b c) ?_;dsimp only [go_sem];by_cases h:Ve b c=0
 case neg =>
  refine Zs (by simpa using h) ?_;dsimp only [sres,Zh,go_sem];rw [if_neg h];rfl
 refine Zp (by simpa using h) ?_;obtain ⟨hb,hc⟩:=errC_0.1 h;dsimp only [go_sem];refine call (Zp1 b c hb hc) ?_;dsimp only [Zh,sres,go_sem];rw [if_pos h,h]
theorem work_bd {m:March} (h:Zt m=true):0<=ZV m/\ZV m<=26400000:=by
 obtain ⟨h1,h2,h3,h4,_⟩:=march_bd h;have:=VH (a:=m.hours) (A:=24) (b:=100000+m.load) (B:=1100000) h1 h2 (by omega) (by omega);exact this
theorem toil_bd {m:March} {x:Int} (h:Zt m=true) (h0:0<=x) (h1:x<=100000):0<=x * ZV m/\x * ZV m<=2640000000000:=by
 obtain ⟨w1,w2⟩:=work_bd h;exact VH h0 h1 w1 w2
theorem heat_bd {x y:Int} (h0:0<=x) (h1:x<=100000) (h2:0<=y) (h3:y<=60):0<=x * max 0 (y - 20)/\x * max 0 (y - 20)<=4000000 :=
 VH h0 h1 (B:=40) (by omega) (by omega)
theorem Zj1 (b:Breed) (k:Bool) (m:March) (hb:Zw b=true) (hm:Zt m=true):Ct Tryz.prog 115 [.agg (breedL b),B k,.agg (marchL m)] (.agg [I (Y4 b k m).lo,I (Y4 b k m).hi,I (Xc b m).lo,I (Xc b m).hi]):=by
 obtain ⟨_,_,_,_,_,_,_,⟨r1,r2,r3⟩,⟨a1,a2,a3⟩,⟨t1,t2,t3⟩,⟨u1,u2,u3⟩,_,⟨k1,k2,k3⟩⟩:=breed_bd hb;obtain ⟨m1,m2,m3,m4,⟨g1,g2,g3⟩,_⟩:=march_bd hm;have w0:=work_bd hm;have e1:=heat_bd (x:=b.heat.lo) (y:=m.heat.lo) (by omega) (by omega) (by omega) (by omega);have e2:=heat_bd (x:=b.heat.hi) (y:=m.heat.hi) (by omega) (by omega) (by omega) (by omega);have f1:=toil_bd (x:=b.toil.lo) hm (by omega) (by omega);have f2:=toil_bd (x:=b.toil.hi) hm (by omega) (by omega)
 have f3:=toil_bd (x:=b.burn.lo) hm (by omega) (by omega);have f4:=toil_bd (x:=b.burn.hi) hm (by omega) (by omega);have d1:=Wg f1.1 f1.2 (d:=100000) (by omega);have d2:=ZiD f2.1 f2.2 (d:=100000) (by omega);have hw:IntKind.i64.wrap (m.hours * IntKind.i64.wrap (100000+m.load))=ZV m:=by
  rw [Zf (n:=100000+m.load) (by omega) (by omega)];unfold ZV at *;exact Zf (by omega) (by omega)
 refine t115.1 (by simp [breedL,marchL]) (by simp) ?_;dsimp only [c115,r115,breedL,marchL,go_sem];rw [hw,Zf (n:=m.heat.lo - 20) (by omega) (by omega),Zf (n:=m.heat.hi - 20) (by omega) (by omega),Zf (n:=b.heat.lo * max 0 (m.heat.lo - 20)) (by omega) (by omega),Zf (n:=b.heat.hi * max 0 (m.heat.hi - 20)) (by omega) (by omega)];refine call (Zdx b.toil 100000 (ZV m) 0 true t1 t2 w0.1 (by omega) (by omega) (by omega)) ?_
 dsimp only [Zh,go_sem]
 refine call (plus3 b.rest ⟨b.heat.lo * max 0 (m.heat.lo - 20),b.heat.hi * max 0 (m.heat.hi - 20)⟩ (scl b.toil 100000 (ZV m)) true ⟨by omega,by omega,by omega,by omega⟩ ⟨e1.1,by simp only;omega,e2.1,by simp only;omega⟩
  ⟨d1.1,by simp only [scl];omega,d2.1,by simp only [scl];omega⟩) ?_
 dsimp only [Zh,go_sem];refine br ?_ ?_
 . intro hk;dsimp only [go_sem]
   refine call (WS ⟨b.rest.lo+b.heat.lo * max 0 (m.heat.lo - 20)+(scl b.toil 100000 (ZV m)).lo,b.rest.hi+b.heat.hi * max 0 (m.heat.hi - 20)+(scl b.toil 100000 (ZV m)).hi⟩ b.milk true
    ⟨by simp only [scl];omega,by simp only [scl];omega,by simp only [scl];omega,by simp only [scl];omega⟩ ⟨by omega,by omega,by omega,by omega⟩) ?_
   dsimp only [Zh,go_sem];refine call (Zdx b.burn 100000 (ZV m) 0 true u1 u2 w0.1 (by omega) (by omega) (by omega)) ?_;dsimp only [Zh,go_sem];simp only [Y4,Xc,hk,scl,if_true]
 . intro hk;dsimp only [go_sem];refine call (Zdx b.burn 100000 (ZV m) 0 true u1 u2 w0.1 (by omega) (by omega) (by omega)) ?_;dsimp only [Zh,go_sem];simp only [Y4,Xc,hk,scl,Bool.false_eq_true,if_false,Int.add_zero]
end Go.Proofs.YtkpkgafhfakpdaaGreatDoor.Cm
namespace Go.Azalai
def Zgj (b:Breed) (c:Camel) (l:List March):Int:=if Ve b c≠0 then Ve b c else if l.length > 60 then 4 else if l.all Zt=false then 12 else 0
def W7 (b:Breed) (sum:Span):List Camel->Span × Int
 | []=>(sum,0)
 | c :: r=>if Zz b c=false then (⟨0,0⟩,11) else W7 b ⟨sum.lo+(b.full - c.water.hi),sum.hi+(b.full - c.water.lo)⟩ r
def VM (b:Breed) (l:List Camel):Span × Int :=
 if Zw b=false then (⟨0,0⟩,10) else if l.length > 30 then (⟨0,0⟩,4) else W7 b ⟨0,0⟩ l
end Go.Azalai
namespace Go.Proofs.YtkpkgafhfakpdaaGreatDoor.Cm
open Go Go.Sx Go.Azalai
def tres (r:Span × Int):SV:=.tup [.agg (Zh r.1),I r.2]
theorem XI (b:Breed) (c:Camel) (l:List March) (hl:l.length < 4611686018427387904) (k:Bool):Ct Tryz.prog 54 [.agg (breedL b),.agg (camelL c),.sl k 8 (l.map marchL)] (I (Zgj b c l)):=by
 refine t54.1 (by simp [breedL,camelL,marchL,Za]) (by simp) ?_;dsimp only [c54,r54,breedL,camelL,go_sem];refine call (Y8 b c) ?_;dsimp only [go_sem];by_cases h0:Ve b c=0
 case neg =>
  refine Zs (by simpa using h0) ?_;dsimp only [go_sem];simp [Zgj,h0]
 refine Zp (by simpa using h0) ?_;dsimp only [go_sem];simp only [List.length_map];by_cases h1:l.length > 60
 case pos =>
  refine Zs (by simp;omega) ?_;dsimp only [go_sem];simp [Zgj,h0,h1]
 refine Zp (by simp;omega) ?_;dsimp only [go_sem];refine call (Ug l hl k) ?_;dsimp only [go_sem];simp only [Zgj,h0,h1];by_cases h2:l.all Zt=true
 . simp [h2]
 . simp [h2]
theorem thirst_ok (b:Breed) (l:List Camel) (hl:l.length<=1000) (k:Bool):Ct Tryz.prog 101 [.agg (breedL b),.sl k 7 (l.map camelL)] (tres (VM b l)):=by
 refine t101.1 (by simp [breedL,camelL,Za]) (by simp [tres,Zh]) ?_;dsimp only [c101,r101,breedL,go_sem];refine call (VA b) ?_;dsimp only [go_sem];by_cases h0:Zw b=true
 case neg =>
  refine Zs (by simp [ZnT,h0]) ?_;dsimp only [go_sem];simp [VM,ZnT,h0,tres,Zh]
 refine Zp (by simp [ZnT,h0]) ?_;dsimp only [go_sem];simp only [List.length_map];by_cases h1:l.length > 30
 case pos =>
  refine Zs (by simp;omega) ?_;dsimp only [go_sem];simp [VM,h0,h1,tres,Zh]
 refine Zp (by simp;omega) ?_;dsimp only [go_sem];have hbd:=breed_bd h0;have he:VM b l=W7 b ⟨0,0⟩ l:=by simp [VM,h0,h1]
 rw [he];refine Z1 (λs:Nat × Span=>[(23,I s.1)]) (λs=>[(2,.cells (Zh s.2) 23)]) (λs=>s.1<=l.length/\W7 b s.2 (l.drop s.1)=W7 b ⟨0,0⟩ l/\0<=s.2.lo/\s.2.lo<=s.1 * 1000000/\0<=s.2.hi/\s.2.hi<=s.1 * 1000000) (λs=>l.length - s.1) (0,⟨0,0⟩) ⟨Nat.zero_le _,rfl,by simp,by simp,by simp,by simp⟩ ?_ ?_
 . (refine Zi ?_ ?_ ?_ rfl rfl<;>dsimp only [breedL,camelL,Zh,id,go_sem]<;>simp [breedL,camelL,Zh,Za])
 rintro ⟨j,sum⟩ ⟨hj,hi,n1,n2,n3,n4⟩;simp only at hj hi n1 n2 n3 n4;dsimp only [Zh,go_sem];by_cases hlt:j < l.length
 . refine Zs (by simpa using hlt) ?_;dsimp only [go_sem];rw [List.drop_eq_getElem_cons hlt,W7] at hi;refine Zu j hlt rfl ?_;dsimp only [camelL,go_sem];refine call (Y8 b l[j]) ?_;dsimp only [go_sem];by_cases hm:Zz b l[j]=true
   case neg =>
    refine Zs (by simp [Ve,h0,hm]) ?_;dsimp only [go_sem];rw [if_pos (by simpa using hm)] at hi;rw [<- hi];simp [Ve,h0,hm,tres,Zh]
   refine Zp (by simp [Ve,h0,hm]) ?_;dsimp only [go_sem];rw [if_neg (by simp [hm])] at hi;have hc:=camel_bd h0 hm;refine call (ZjI b.full l[j].water (by omega) (by omega) (by unfold bdS;omega)) ?_;dsimp only [Zh,go_sem];refine call (WS sum ⟨b.full - l[j].water.hi,b.full - l[j].water.lo⟩ _ (by unfold bdS;omega) (by unfold bdS;simp only;omega)) ?_;dsimp only [Zh,go_sem];rw [Zf (n:=(j:Int)+1) (by omega) (by omega)]
   refine ⟨(j+1,⟨sum.lo+(b.full - l[j].water.hi),sum.hi+(b.full - l[j].water.lo)⟩),⟨hlt,hi,by simp only;omega,by simp only;omega,by simp only;omega,by simp only;omega⟩,by simp only;omega,?_⟩;(refine Zi ?_ ?_ ?_ rfl rfl<;>dsimp only [breedL,camelL,Zh,id,go_sem]<;>simp [breedL,camelL,Zh,Za])
 refine Zp (by simp;omega) ?_;dsimp only [go_sem];have hje:j=l.length:=by omega
 subst hje;rw [List.drop_length,W7] at hi;rw [<- hi];rfl
end Go.Proofs.YtkpkgafhfakpdaaGreatDoor.Cm
namespace Go.Azalai
def Vp:Camel:=⟨⟨0,0⟩,⟨0,0⟩,⟨0,0⟩,false⟩
def Up (most:Int) (has cost gets:Span):Span:=⟨min most (max 0 (has.lo - cost.hi)+gets.lo),min most (has.hi - cost.lo+gets.hi)⟩
def VT (b:Breed) (s:Span) (m:March):Span :=
 if m.hours=0 then ⟨max 0 (s.lo - b.heal),max 0 (s.hi - b.heal)⟩
 else ⟨min 1000 (s.lo+(b.rub.lo * (m.hours * m.load)).tdiv 1000000),min 1000 (s.hi+upF (b.rub.hi * (m.hours * m.load)) 1000000)⟩
def ZR (b:Breed) (c:Camel) (m:March):Camel × Int :=
 let w:=Y4 b c.milks m
 let f:=Xc b m
 if c.water.hi < w.lo\/c.fat.hi < f.lo then (Vp,2)
 else (⟨Up b.full c.water w m.drinks,Up b.fed c.fat f m.grass,VT b c.sore m,c.milks⟩,if c.water.lo ≥ w.hi/\c.fat.lo ≥ f.hi then 0 else 1)
theorem Zb4 {b:Breed} {k:Bool} {m:March} (hb:Zw b=true) (hm:Zt m=true):0<=(Y4 b k m).lo/\(Y4 b k m).lo<=1000000000/\0<=(Y4 b k m).hi/\(Y4 b k m).hi<=1000000000:=by
 have h:=Go.Proofs.YtkpkgafhfakpdaaGreatDoor.Cm.breed_bd hb;have h2:=Go.Proofs.YtkpkgafhfakpdaaGreatDoor.Cm.march_bd hm;have q1:=Go.Proofs.YtkpkgafhfakpdaaGreatDoor.Cm.toil_bd (x:=b.toil.lo) hm (by omega) (by omega);have q2:=Go.Proofs.YtkpkgafhfakpdaaGreatDoor.Cm.toil_bd (x:=b.toil.hi) hm (by omega) (by omega);have q3:=Go.Proofs.YtkpkgafhfakpdaaGreatDoor.Cm.heat_bd (x:=b.heat.lo) (y:=m.heat.lo) (by omega) (by omega) (by omega) (by omega)
 have q4:=Go.Proofs.YtkpkgafhfakpdaaGreatDoor.Cm.heat_bd (x:=b.heat.hi) (y:=m.heat.hi) (by omega) (by omega) (by omega) (by omega);have r1:0<=(b.toil.lo * ZV m).tdiv 100000/\(b.toil.lo * ZV m).tdiv 100000<=26400000:=by
  rw [Int.tdiv_eq_ediv_of_nonneg q1.1];omega
 have r2:0<=upF (b.toil.hi * ZV m) 100000/\upF (b.toil.hi * ZV m) 100000<=26400001:=by
  unfold upF;rw [Int.tdiv_eq_ediv_of_nonneg (by omega)];omega
 simp only [Y4];cases k<;>simp<;>omega
theorem ZbV {b:Breed} {m:March} (hb:Zw b=true) (hm:Zt m=true):0<=(Xc b m).lo/\(Xc b m).lo<=1000000000/\0<=(Xc b m).hi/\(Xc b m).hi<=1000000000:=by
 have h:=Go.Proofs.YtkpkgafhfakpdaaGreatDoor.Cm.breed_bd hb;have q1:=Go.Proofs.YtkpkgafhfakpdaaGreatDoor.Cm.toil_bd (x:=b.burn.lo) hm (by omega) (by omega);have q2:=Go.Proofs.YtkpkgafhfakpdaaGreatDoor.Cm.toil_bd (x:=b.burn.hi) hm (by omega) (by omega);have r1:0<=(b.burn.lo * ZV m).tdiv 100000/\(b.burn.lo * ZV m).tdiv 100000<=26400000:=by
  rw [Int.tdiv_eq_ediv_of_nonneg q1.1];omega
 have r2:0<=upF (b.burn.hi * ZV m) 100000/\upF (b.burn.hi * ZV m) 100000<=26400001:=by
  unfold upF;rw [Int.tdiv_eq_ediv_of_nonneg (by omega)];omega
 simp only [Xc];omega
end Go.Azalai
namespace Go.Proofs.YtkpkgafhfakpdaaGreatDoor.Cm
open Go Go.Sx Go.Azalai
theorem Zqd (b:Breed) (c:Camel) (m:March) (hb:Zw b=true) (hc:Zz b c=true) (hm:Zt m=true) (hd:(ZR b c m).2≠2) :
 Ct Tryz.prog 57 [.agg (ZY b c),.agg (marchL m)] (.tup [.agg (ZY b (ZR b c m).1),.v (.int .u8 (ZR b c m).2)]):=by
 have h1:=breed_bd hb;have h2:=camel_bd hb hc;have h3:=march_bd hm;have w1:=Zb4 (k:=c.milks) hb hm;have w2:=ZbV hb hm;have k0:=VH (a:=m.hours) (b:=m.load) (A:=24) (B:=1000000) (by omega) (by omega) (by omega) (by omega);have k1:=VH (a:=b.rub.lo) (b:=m.hours * m.load) (A:=100000) (B:=24000000) (by omega) (by omega) (by omega) (by omega);have k2:=VH (a:=b.rub.hi) (b:=m.hours * m.load) (A:=100000) (B:=24000000) (by omega) (by omega) (by omega) (by omega)
 have k3:=Wg k1.1 k1.2 (d:=1000000) (by omega);have k4:=ZiD k2.1 k2.2 (d:=1000000) (by omega);refine t57.1 (by simp [ZY,marchL]) (by simp [ZY]) ?_;dsimp only [c57,r57,ZY,marchL,go_sem];refine call (Zj1 b c.milks m hb hm) ?_;dsimp only [go_sem];generalize hW:Y4 b c.milks m=W at w1;generalize hF:Xc b m=F at w2;have hd':W.lo<=c.water.hi/\F.lo<=c.fat.hi:=by
  by_cases h:c.water.hi < W.lo\/c.fat.hi < F.lo
  . exact absurd (by simp only [ZR,hW,hF,if_pos h]) hd
  . omega
 clear hd;have k5:=VH (a:=b.rub.hi) (b:=m.hours) (A:=100000) (B:=24) (by omega) (by omega) (by omega) (by omega);have k6:b.rub.hi * m.hours * m.load<=100000000000000:=by rw [Int.mul_assoc];omega
 have hd0:¬ (c.water.hi < W.lo\/c.fat.hi < F.lo):=by omega
 by_cases hp:c.water.lo < W.hi<;>by_cases hq:c.fat.lo < F.hi
 . refine Yn 3 ?_;dsimp only [Zc,go_sem];refine Zs (by decide) ?_;dsimp only [Zc,go_sem];repeat (first | (refine ixa 0 rfl (by decide) ?_;dsimp only [Zc,go_sem]) | (refine Zp (by simp;omega) ?_;dsimp only [Zc,go_sem]) | (refine Zs (by simp;omega) ?_;dsimp only [Zc,go_sem]))
   simp (disch:=omega) only [Zf];refine call (WS ⟨max 0 (c.water.lo - W.hi),c.water.hi - W.lo⟩ m.drinks _ (by unfold bdS;simp only;omega) (by unfold bdS;omega)) ?_;dsimp only [Zc,Zh,go_sem];repeat (first | (refine ixa 0 rfl (by decide) ?_;dsimp only [Zc,go_sem]) | (refine Zp (by simp;omega) ?_;dsimp only [Zc,go_sem]) | (refine Zs (by simp;omega) ?_;dsimp only [Zc,go_sem]))
   simp (disch:=omega) only [Zf];refine Zs (by decide) ?_;dsimp only [Zc,go_sem];repeat (first | (refine ixa 1 rfl (by decide) ?_;dsimp only [Zc,go_sem]) | (refine Zp (by simp;omega) ?_;dsimp only [Zc,go_sem]) | (refine Zs (by simp;omega) ?_;dsimp only [Zc,go_sem]))
   simp (disch:=omega) only [Zf];refine call (WS ⟨max 0 (c.fat.lo - F.hi),c.fat.hi - F.lo⟩ m.grass _ (by unfold bdS;simp only;omega) (by unfold bdS;omega)) ?_;dsimp only [Zc,Zh,go_sem];repeat (first | (refine ixa 1 rfl (by decide) ?_;dsimp only [Zc,go_sem]) | (refine Zp (by simp;omega) ?_;dsimp only [Zc,go_sem]) | (refine Zs (by simp;omega) ?_;dsimp only [Zc,go_sem]))
   refine Zp (by decide) ?_;dsimp only [go_sem];have e:(if c.water.lo ≥ W.hi/\c.fat.lo ≥ F.hi then (0:Int) else 1)=1:=if_neg (by omega);by_cases hz:m.hours=0
   . refine Zs (by simpa using hz) ?_;dsimp only [go_sem];simp (disch:=omega) only [Zf];simp only [ZR,hW,hF,if_neg hd0,Up,VT,ZY,e,if_pos hz]
   . refine Zp (by simpa using hz) ?_;dsimp only [go_sem];refine call (VV b.rub 1000000 m.hours m.load 0 _ (by omega) (by omega) (by omega) (by omega) (by omega) k6 (by omega) (by omega)) ?_;dsimp only [Zh,go_sem];simp only [Int.mul_assoc];refine call (WS c.sore ⟨(b.rub.lo * (m.hours * m.load)).tdiv 1000000,upF (b.rub.hi * (m.hours * m.load)) 1000000⟩ _ (by unfold bdS;omega) (by unfold bdS;simp only;omega)) ?_
     dsimp only [Zh,go_sem];simp only [ZR,hW,hF,if_neg hd0,Up,VT,ZY,e,if_neg hz]
 . refine Yn 3 ?_;dsimp only [Zc,go_sem];refine Zs (by decide) ?_;dsimp only [Zc,go_sem];repeat (first | (refine ixa 0 rfl (by decide) ?_;dsimp only [Zc,go_sem]) | (refine Zp (by simp;omega) ?_;dsimp only [Zc,go_sem]) | (refine Zs (by simp;omega) ?_;dsimp only [Zc,go_sem]))
   simp (disch:=omega) only [Zf];refine call (WS ⟨max 0 (c.water.lo - W.hi),c.water.hi - W.lo⟩ m.drinks _ (by unfold bdS;simp only;omega) (by unfold bdS;omega)) ?_;dsimp only [Zc,Zh,go_sem];repeat (first | (refine ixa 0 rfl (by decide) ?_;dsimp only [Zc,go_sem]) | (refine Zp (by simp;omega) ?_;dsimp only [Zc,go_sem]) | (refine Zs (by simp;omega) ?_;dsimp only [Zc,go_sem]))
   simp (disch:=omega) only [Zf];refine Zs (by decide) ?_;dsimp only [Zc,go_sem];repeat (first | (refine ixa 1 rfl (by decide) ?_;dsimp only [Zc,go_sem]) | (refine Zp (by simp;omega) ?_;dsimp only [Zc,go_sem]) | (refine Zs (by simp;omega) ?_;dsimp only [Zc,go_sem]))
   simp (disch:=omega) only [Zf];refine call (WS ⟨max 0 (c.fat.lo - F.hi),c.fat.hi - F.lo⟩ m.grass _ (by unfold bdS;simp only;omega) (by unfold bdS;omega)) ?_;dsimp only [Zc,Zh,go_sem];repeat (first | (refine ixa 1 rfl (by decide) ?_;dsimp only [Zc,go_sem]) | (refine Zp (by simp;omega) ?_;dsimp only [Zc,go_sem]) | (refine Zs (by simp;omega) ?_;dsimp only [Zc,go_sem]))
   refine Zp (by decide) ?_;dsimp only [go_sem];have e:(if c.water.lo ≥ W.hi/\c.fat.lo ≥ F.hi then (0:Int) else 1)=1:=if_neg (by omega);by_cases hz:m.hours=0
   . refine Zs (by simpa using hz) ?_;dsimp only [go_sem];simp (disch:=omega) only [Zf];simp only [ZR,hW,hF,if_neg hd0,Up,VT,ZY,e,if_pos hz]
   . refine Zp (by simpa using hz) ?_;dsimp only [go_sem];refine call (VV b.rub 1000000 m.hours m.load 0 _ (by omega) (by omega) (by omega) (by omega) (by omega) k6 (by omega) (by omega)) ?_;dsimp only [Zh,go_sem];simp only [Int.mul_assoc];refine call (WS c.sore ⟨(b.rub.lo * (m.hours * m.load)).tdiv 1000000,upF (b.rub.hi * (m.hours * m.load)) 1000000⟩ _ (by unfold bdS;omega) (by unfold bdS;simp only;omega)) ?_
     dsimp only [Zh,go_sem];simp only [ZR,hW,hF,if_neg hd0,Up,VT,ZY,e,if_neg hz]
 . refine Yn 3 ?_;dsimp only [Zc,go_sem];refine Zs (by decide) ?_;dsimp only [Zc,go_sem];repeat (first | (refine ixa 0 rfl (by decide) ?_;dsimp only [Zc,go_sem]) | (refine Zp (by simp;omega) ?_;dsimp only [Zc,go_sem]) | (refine Zs (by simp;omega) ?_;dsimp only [Zc,go_sem]))
   simp (disch:=omega) only [Zf];refine call (WS ⟨max 0 (c.water.lo - W.hi),c.water.hi - W.lo⟩ m.drinks _ (by unfold bdS;simp only;omega) (by unfold bdS;omega)) ?_;dsimp only [Zc,Zh,go_sem];repeat (first | (refine ixa 0 rfl (by decide) ?_;dsimp only [Zc,go_sem]) | (refine Zp (by simp;omega) ?_;dsimp only [Zc,go_sem]) | (refine Zs (by simp;omega) ?_;dsimp only [Zc,go_sem]))
   simp (disch:=omega) only [Zf];refine Zs (by decide) ?_;dsimp only [Zc,go_sem];repeat (first | (refine ixa 1 rfl (by decide) ?_;dsimp only [Zc,go_sem]) | (refine Zp (by simp;omega) ?_;dsimp only [Zc,go_sem]) | (refine Zs (by simp;omega) ?_;dsimp only [Zc,go_sem]))
   simp (disch:=omega) only [Zf];refine call (WS ⟨max 0 (c.fat.lo - F.hi),c.fat.hi - F.lo⟩ m.grass _ (by unfold bdS;simp only;omega) (by unfold bdS;omega)) ?_;dsimp only [Zc,Zh,go_sem];repeat (first | (refine ixa 1 rfl (by decide) ?_;dsimp only [Zc,go_sem]) | (refine Zp (by simp;omega) ?_;dsimp only [Zc,go_sem]) | (refine Zs (by simp;omega) ?_;dsimp only [Zc,go_sem]))
   refine Zp (by decide) ?_;dsimp only [go_sem];have e:(if c.water.lo ≥ W.hi/\c.fat.lo ≥ F.hi then (0:Int) else 1)=1:=if_neg (by omega);by_cases hz:m.hours=0
   . refine Zs (by simpa using hz) ?_;dsimp only [go_sem];simp (disch:=omega) only [Zf];simp only [ZR,hW,hF,if_neg hd0,Up,VT,ZY,e,if_pos hz]
   . refine Zp (by simpa using hz) ?_;dsimp only [go_sem];refine call (VV b.rub 1000000 m.hours m.load 0 _ (by omega) (by omega) (by omega) (by omega) (by omega) k6 (by omega) (by omega)) ?_;dsimp only [Zh,go_sem];simp only [Int.mul_assoc];refine call (WS c.sore ⟨(b.rub.lo * (m.hours * m.load)).tdiv 1000000,upF (b.rub.hi * (m.hours * m.load)) 1000000⟩ _ (by unfold bdS;omega) (by unfold bdS;simp only;omega)) ?_
     dsimp only [Zh,go_sem];simp only [ZR,hW,hF,if_neg hd0,Up,VT,ZY,e,if_neg hz]
 . refine Yn 3 ?_;dsimp only [Zc,go_sem];refine Zs (by decide) ?_;dsimp only [Zc,go_sem];repeat (first | (refine ixa 0 rfl (by decide) ?_;dsimp only [Zc,go_sem]) | (refine Zp (by simp;omega) ?_;dsimp only [Zc,go_sem]) | (refine Zs (by simp;omega) ?_;dsimp only [Zc,go_sem]))
   simp (disch:=omega) only [Zf];refine call (WS ⟨max 0 (c.water.lo - W.hi),c.water.hi - W.lo⟩ m.drinks _ (by unfold bdS;simp only;omega) (by unfold bdS;omega)) ?_;dsimp only [Zc,Zh,go_sem];repeat (first | (refine ixa 0 rfl (by decide) ?_;dsimp only [Zc,go_sem]) | (refine Zp (by simp;omega) ?_;dsimp only [Zc,go_sem]) | (refine Zs (by simp;omega) ?_;dsimp only [Zc,go_sem]))
   simp (disch:=omega) only [Zf];refine Zs (by decide) ?_;dsimp only [Zc,go_sem];repeat (first | (refine ixa 1 rfl (by decide) ?_;dsimp only [Zc,go_sem]) | (refine Zp (by simp;omega) ?_;dsimp only [Zc,go_sem]) | (refine Zs (by simp;omega) ?_;dsimp only [Zc,go_sem]))
   simp (disch:=omega) only [Zf];refine call (WS ⟨max 0 (c.fat.lo - F.hi),c.fat.hi - F.lo⟩ m.grass _ (by unfold bdS;simp only;omega) (by unfold bdS;omega)) ?_;dsimp only [Zc,Zh,go_sem];repeat (first | (refine ixa 1 rfl (by decide) ?_;dsimp only [Zc,go_sem]) | (refine Zp (by simp;omega) ?_;dsimp only [Zc,go_sem]) | (refine Zs (by simp;omega) ?_;dsimp only [Zc,go_sem]))
   refine Zp (by decide) ?_;dsimp only [go_sem];have e:(if c.water.lo ≥ W.hi/\c.fat.lo ≥ F.hi then (0:Int) else 1)=0:=if_pos (by omega);by_cases hz:m.hours=0
   . refine Zs (by simpa using hz) ?_;dsimp only [go_sem];simp (disch:=omega) only [Zf];simp only [ZR,hW,hF,if_neg hd0,Up,VT,ZY,e,if_pos hz]
   . refine Zp (by simpa using hz) ?_;dsimp only [go_sem];refine call (VV b.rub 1000000 m.hours m.load 0 _ (by omega) (by omega) (by omega) (by omega) (by omega) k6 (by omega) (by omega)) ?_;dsimp only [Zh,go_sem];simp only [Int.mul_assoc];refine call (WS c.sore ⟨(b.rub.lo * (m.hours * m.load)).tdiv 1000000,upF (b.rub.hi * (m.hours * m.load)) 1000000⟩ _ (by unfold bdS;omega) (by unfold bdS;simp only;omega)) ?_
     dsimp only [Zh,go_sem];simp only [ZR,hW,hF,if_neg hd0,Up,VT,ZY,e,if_neg hz]
end Go.Proofs.YtkpkgafhfakpdaaGreatDoor.Cm
namespace Go.Azalai
def Z9 (b:Breed) (load:Int) (c:Camel):List March->Bool
 | []=>true
 | m :: r=>if m.hours > 0/\load > (Ul b c).lo then false else if (ZR b c { m with load:=load }).2≠0 then false else Z9 b load (ZR b c { m with load:=load }).1 r
theorem VU {x y d:Int} (hd:1<=d) (h0:0<=x) (h:x<=y):x.tdiv d<=upF y d:=by
 unfold upF;rw [Int.tdiv_eq_ediv_of_nonneg h0,Int.tdiv_eq_ediv_of_nonneg (by omega)];exact Int.ediv_le_ediv (by omega) (by omega)
theorem ZnX {b:Breed} {k:Bool} {m:March} (hb:Zw b=true) (hm:Zt m=true):(Y4 b k m).lo<=(Y4 b k m).hi:=by
 have h:=Go.Proofs.YtkpkgafhfakpdaaGreatDoor.Cm.breed_bd hb;have h2:=Go.Proofs.YtkpkgafhfakpdaaGreatDoor.Cm.march_bd hm;have hw:=Go.Proofs.YtkpkgafhfakpdaaGreatDoor.Cm.work_bd hm;have q1:(b.toil.lo * ZV m).tdiv 100000<=upF (b.toil.hi * ZV m) 100000:=VU (by omega) (Int.mul_nonneg (by omega) hw.1) (Int.mul_le_mul_of_nonneg_right (by omega) hw.1);have q2:b.heat.lo * max 0 (m.heat.lo - 20)<=b.heat.hi * max 0 (m.heat.hi - 20):=Int.mul_le_mul (by omega) (by omega) (by omega) (by omega)
 simp only [Y4];cases k<;>simp<;>omega
theorem Zkn {b:Breed} {m:March} (hb:Zw b=true) (hm:Zt m=true):(Xc b m).lo<=(Xc b m).hi:=by
 have h:=Go.Proofs.YtkpkgafhfakpdaaGreatDoor.Cm.breed_bd hb;have hw:=Go.Proofs.YtkpkgafhfakpdaaGreatDoor.Cm.work_bd hm;exact VU (by omega) (Int.mul_nonneg (by omega) hw.1) (Int.mul_le_mul_of_nonneg_right (by omega) hw.1)
theorem UA {b:Breed} {c:Camel} {m:March} (hb:Zw b=true) (hc:Zz b c=true) (hm:Zt m=true) (hd:(ZR b c m).2≠2):Zz b (ZR b c m).1=true:=by
 have h1:=Go.Proofs.YtkpkgafhfakpdaaGreatDoor.Cm.breed_bd hb;have h2:=Go.Proofs.YtkpkgafhfakpdaaGreatDoor.Cm.camel_bd hb hc;have h3:=Go.Proofs.YtkpkgafhfakpdaaGreatDoor.Cm.march_bd hm;have w1:=Zb4 (k:=c.milks) hb hm;have w2:=ZbV hb hm;have hlo:(Y4 b c.milks m).lo<=(Y4 b c.milks m).hi:=ZnX hb hm;have hlf:(Xc b m).lo<=(Xc b m).hi:=Zkn hb hm;have hr:(b.rub.lo * (m.hours * m.load)).tdiv 1000000<=upF (b.rub.hi * (m.hours * m.load)) 1000000 :=
  VU (by omega) (Int.mul_nonneg (by omega) (Int.mul_nonneg (by omega) (by omega))) (Int.mul_le_mul_of_nonneg_right (by omega) (Int.mul_nonneg (by omega) (by omega)))
 have hr0:0<=(b.rub.lo * (m.hours * m.load)).tdiv 1000000 :=
  Int.tdiv_nonneg (Int.mul_nonneg (by omega) (Int.mul_nonneg (by omega) (by omega))) (by omega)
 unfold ZR at hd ⊢;simp only at hd ⊢;split at hd
 . exact absurd rfl hd
 . rename_i h;rw [if_neg h];simp only [Zz,Z4,Up,VT,Bool.and_eq_true,decide_eq_true_eq];by_cases hz:m.hours=0
   . simp only [if_pos hz,Bool.and_eq_true,decide_eq_true_eq];refine ⟨⟨decide_eq_true ⟨by omega,by omega,by omega⟩,decide_eq_true ⟨by omega,by omega,by omega⟩⟩,by omega,by omega,by omega⟩
   . simp only [if_neg hz,Bool.and_eq_true,decide_eq_true_eq];refine ⟨⟨decide_eq_true ⟨by omega,by omega,by omega⟩,decide_eq_true ⟨by omega,by omega,by omega⟩⟩,by omega,by omega,by omega⟩
end Go.Azalai
namespace Go.Proofs.YtkpkgafhfakpdaaGreatDoor.Cm
open Go Go.Sx Go.Azalai
end Go.Proofs.YtkpkgafhfakpdaaGreatDoor.Cm
namespace Go.Azalai
def Y7 (g:Int->Bool):Nat->Int->Int->Int
 | 0,lo,_=>lo
 | n+1,lo,hi=>if lo < hi then (if g ((lo+hi+1).tdiv 2) then Y7 g n ((lo+hi+1).tdiv 2) hi else Y7 g n lo ((lo+hi+1).tdiv 2 - 1)) else lo
def Xx (b:Breed) (c:Camel) (l:List March):Int × Int :=
 if Zgj b c l≠0 then (0,Zgj b c l) else if Z9 b 0 c l=false then (0,13) else (Y7 (λn=>Z9 b n c l) 2000000 0 1000000,0)
theorem XV {g:Int->Bool}:∀ (n m:Nat) (lo hi:Int),0<=lo->hi - lo<=n->n<=m->Y7 g m lo hi=Y7 g n lo hi
 | 0,0,lo,hi,_,_,_=>rfl
 | 0,m+1,lo,hi,_,h,_=>by simp only [Y7];rw [if_neg (by omega)]
 | n+1,0,lo,hi,_,_,h=>by omega
 | n+1,m+1,lo,hi,h0,h,hm=>by
  simp only [Y7];split
  . rename_i hlt;have e:(lo+hi+1).tdiv 2=(lo+hi+1) / 2:=Int.tdiv_eq_ediv_of_nonneg (by omega);rw [e];rw [XV n m _ hi (by omega) (by omega) (by omega),XV n m lo _ (by omega) (by omega) (by omega)]
  . rfl
end Go.Azalai
namespace Go.Proofs.YtkpkgafhfakpdaaGreatDoor.Cm
open Go Go.Sx Go.Azalai
theorem ZdD (f:Nat) (caps:List SV) (hk:KFL caps) (g:Int->Bool) (hg:∀ n,inR 0 1000000 n=true->Ct Tryz.prog f (I n :: caps) (B (g n))):Ct Tryz.prog 58 [I 0,I 1000000,.cl f caps] (I (Y7 g 2000000 0 1000000)):=by
 refine t58.1 (by simp [KFL,KF,hk]) (by simp) ?_;dsimp only [c58,r58,go_sem];refine Z1 (λs:Int × Int=>[(0,I s.1),(1,I s.2)]) (λ_=>[]) (λs=>0<=s.1/\s.1<=s.2/\s.2<=1000000/\Y7 g 2000000 s.1 s.2=Y7 g 2000000 0 1000000) (λs=>(s.2 - s.1).toNat) (0,1000000) ⟨by decide,by decide,by decide,rfl⟩ ?_ ?_
 . (refine Zi ?_ ?_ ?_ rfl rfl<;>dsimp only [hk,id,go_sem]<;>simp [hk,Za])
 rintro ⟨lo,hi⟩ ⟨g1,g2,g3,g4⟩;simp only at g1 g2 g3 g4;dsimp only [go_sem];by_cases hlt:lo < hi
 . refine Zs (by simpa using hlt) ?_;dsimp only [go_sem];simp (disch:=omega) only [Zf];have e:(lo+hi+1).tdiv 2=(lo+hi+1) / 2:=Int.tdiv_eq_ediv_of_nonneg (by omega);have g5:Y7 g 2000000 lo hi=if g ((lo+hi+1).tdiv 2) then Y7 g 2000000 ((lo+hi+1).tdiv 2) hi else Y7 g 2000000 lo ((lo+hi+1).tdiv 2 - 1):=by
    rw [<- XV 2000000 2000001 lo hi g1 (by omega) (by omega)];rw [Y7,if_pos hlt]
   rw [g4] at g5;refine ZsA (by decide) ?_;dsimp only [go_sem];have e2:(hi - lo).tdiv 2=(hi - lo) / 2:=Int.tdiv_eq_ediv_of_nonneg (by omega);have e3:hi - (hi - lo) / 2=(lo+hi+1) / 2:=by omega
   simp only [e] at g5;simp only [e2];rw [Zf (n:=(hi - lo) / 2) (by omega) (by omega),Zf (n:=hi - (hi - lo) / 2) (by omega) (by omega),e3];refine call (hg ((lo+hi+1) / 2) (by simp only [inR,decide_eq_true_eq];omega)) ?_;dsimp only [go_sem];refine br ?_ ?_
   . intro hb1;dsimp only [go_sem];rw [if_pos hb1] at g5;refine ⟨((lo+hi+1) / 2,hi),⟨by simp only;omega,by simp only;omega,by simp only;omega,g5.symm⟩,by simp only;omega,?_⟩;(refine Zi ?_ ?_ ?_ rfl rfl<;>dsimp only [hk,id,go_sem]<;>simp [hk,Za])
   . intro hb1;dsimp only [go_sem];simp (disch:=omega) only [Zf];rw [if_neg (by simpa using hb1)] at g5;refine ⟨(lo,(lo+hi+1) / 2 - 1),⟨by simp only;omega,by simp only;omega,by simp only;omega,g5.symm⟩,by simp only;omega,?_⟩;(refine Zi ?_ ?_ ?_ rfl rfl<;>dsimp only [hk,id,go_sem]<;>simp [hk,Za])
 refine Zp (by simp;omega) ?_;dsimp only [go_sem];have:Y7 g 2000000 lo hi=lo:=by
  rw [<- XV 2000000 2000001 lo hi g1 (by omega) (by omega),Y7,if_neg hlt]
 rw [<- g4,this]
theorem Zef (b:Breed) (c:Camel) (m:March) (hb:Zw b=true) (hc:Zz b c=true) (hm:Zt m=true) (hd:(ZR b c m).2=2) :
 Ct Tryz.prog 57 [.agg (ZY b c),.agg (marchL m)] (.tup [.agg (ZY ⟨0,0,⟨0,0⟩,⟨0,0⟩,⟨0,0⟩,⟨0,0⟩,⟨0,0⟩,⟨0,0⟩,0,⟨0,0⟩⟩ Vp),.v (.int .u8 2)]):=by
 have h1:=breed_bd hb;have h2:=camel_bd hb hc;have h3:=march_bd hm;have w1:=Zb4 (k:=c.milks) hb hm;have w2:=ZbV hb hm;refine t57.1 (by simp [ZY,marchL]) (by simp [ZY,Vp]) ?_;dsimp only [c57,r57,ZY,marchL,go_sem];refine call (Zj1 b c.milks m hb hm) ?_;dsimp only [go_sem];generalize hW:Y4 b c.milks m=W at w1;generalize hF:Xc b m=F at w2;have hd':c.water.hi < W.lo\/c.fat.hi < F.lo:=by
  by_cases h:c.water.hi < W.lo\/c.fat.hi < F.lo
  . exact h
  . simp only [ZR,hW,hF,if_neg h] at hd;split at hd<;>cases hd
 by_cases hw:c.water.hi < W.lo
 . refine Yn 3 ?_;dsimp only [Zc,go_sem];refine Zs (by decide) ?_;dsimp only [Zc,go_sem];repeat (first | (refine ixa 0 rfl (by decide) ?_;dsimp only [Zc,go_sem]) | (refine Zs (by simp;omega) ?_;dsimp only [Zc,Vp,go_sem]))
 . have hf:c.fat.hi < F.lo:=by omega
   by_cases hp:c.water.lo < W.hi
   . refine Yn 3 ?_;dsimp only [Zc,go_sem];refine Zs (by decide) ?_;dsimp only [Zc,go_sem];repeat (first | (refine ixa 0 rfl (by decide) ?_;dsimp only [Zc,go_sem]) | (refine Zp (by simp;omega) ?_;dsimp only [Zc,go_sem]) | (refine Zs (by simp;omega) ?_;dsimp only [Zc,go_sem]))
     simp (disch:=omega) only [Zf];refine call (WS ⟨max 0 (c.water.lo - W.hi),c.water.hi - W.lo⟩ m.drinks _ (by unfold bdS;simp only;omega) (by unfold bdS;omega)) ?_;dsimp only [Zc,Zh,go_sem];repeat (first | (refine ixa 0 rfl (by decide) ?_;dsimp only [Zc,go_sem]) | (refine Zp (by simp;omega) ?_;dsimp only [Zc,go_sem]) | (refine Zs (by simp;omega) ?_;dsimp only [Zc,go_sem]))
     simp (disch:=omega) only [Zf];refine Zs (by decide) ?_;dsimp only [Zc,go_sem];repeat (first | (refine ixa 1 rfl (by decide) ?_;dsimp only [Zc,go_sem]) | (refine Zs (by simp;omega) ?_;dsimp only [Zc,Vp,go_sem]))
   . refine Yn 3 ?_;dsimp only [Zc,go_sem];refine Zs (by decide) ?_;dsimp only [Zc,go_sem];repeat (first | (refine ixa 0 rfl (by decide) ?_;dsimp only [Zc,go_sem]) | (refine Zp (by simp;omega) ?_;dsimp only [Zc,go_sem]) | (refine Zs (by simp;omega) ?_;dsimp only [Zc,go_sem]))
     simp (disch:=omega) only [Zf];refine call (WS ⟨max 0 (c.water.lo - W.hi),c.water.hi - W.lo⟩ m.drinks _ (by unfold bdS;simp only;omega) (by unfold bdS;omega)) ?_;dsimp only [Zc,Zh,go_sem];repeat (first | (refine ixa 0 rfl (by decide) ?_;dsimp only [Zc,go_sem]) | (refine Zp (by simp;omega) ?_;dsimp only [Zc,go_sem]) | (refine Zs (by simp;omega) ?_;dsimp only [Zc,go_sem]))
     simp (disch:=omega) only [Zf];refine Zs (by decide) ?_;dsimp only [Zc,go_sem];repeat (first | (refine ixa 1 rfl (by decide) ?_;dsimp only [Zc,go_sem]) | (refine Zs (by simp;omega) ?_;dsimp only [Zc,Vp,go_sem]))
theorem ZbB (b:Breed) (c:Camel) (l:List March) (load:Int) (hb:Zw b=true) (hc:Zz b c=true) (hl:l.all Zt=true) (h60:l.length<=60) (h0:inR 0 1000000 load=true) (k:Bool) :
 Ct Tryz.prog 55 [I load,.ps (breedL b) 0,.ps (camelL c) 0,.ps [.sl k 8 (l.map marchL)] 0] (B (Z9 b load c l)):=by
 have hbd:=breed_bd hb;have hlo:=h0;simp only [inR,decide_eq_true_eq] at hlo;have hall:=List.all_eq_true.1 hl;refine t55.1 (by simp [breedL,camelL,marchL,Za]) (by simp) ?_;dsimp only [c55,r55,breedL,camelL,go_sem];refine Z1 (λs:Nat × Camel=>[(16,I s.1)]) (λs=>[(0,.cells (ZY b s.2) 128)]) (λs=>s.1<=l.length/\Zz b s.2=true/\Z9 b load s.2 (l.drop s.1)=Z9 b load c l) (λs=>l.length - s.1) (0,c) ⟨Nat.zero_le _,hc,rfl⟩ ?_ ?_
 . (refine Zi ?_ ?_ ?_ rfl rfl<;>dsimp only [breedL,camelL,marchL,ZY,id,go_sem]<;>simp [breedL,camelL,marchL,ZY,Za])
 rintro ⟨j,c1⟩ ⟨hj,hc1,hi⟩;simp only at hj hc1 hi;dsimp only [ZY,go_sem];simp only [List.length_map];by_cases hlt:j < l.length
 . refine Zs (by simpa using hlt) ?_;dsimp only [go_sem];rw [List.drop_eq_getElem_cons hlt,Z9] at hi;have hm:=hall l[j] (List.getElem_mem _);have hm':Zt { l[j] with load:=load }=true:=by
    simp only [Zt,Bool.and_eq_true] at hm ⊢;exact ⟨⟨⟨⟨hm.1.1.1.1,h0⟩,hm.1.1.2⟩,hm.1.2⟩,hm.2⟩
   refine Zu j hlt rfl ?_;dsimp only [marchL,go_sem];repeat (first | (refine gb ?_;dsimp only [go_sem]) | (refine call (Zp1 b c1 hb hc1) ?_;dsimp only [Zh,go_sem]))
   by_cases hcar:l[j].hours > 0/\load > (Ul b c1).lo
   case pos =>
    refine Zs (by grind) ?_;dsimp only [go_sem];rw [if_pos hcar] at hi;rw [<- hi]
   refine Zp (by grind) ?_;dsimp only [go_sem];rw [if_neg hcar] at hi;by_cases hf2:(ZR b c1 { l[j] with load:=load }).2=2
   . refine call (Zef b c1 { l[j] with load:=load } hb hc1 hm' hf2) ?_;dsimp only [ZY,Vp,go_sem];refine Zs (by decide) ?_;dsimp only [go_sem];rw [if_pos (by rw [hf2];decide)] at hi;rw [<- hi]
   refine call (Zqd b c1 { l[j] with load:=load } hb hc1 hm' hf2) ?_;dsimp only [ZY,go_sem];by_cases hf0:(ZR b c1 { l[j] with load:=load }).2=0
   case neg =>
    refine Zs (by simpa using hf0) ?_;dsimp only [go_sem];rw [if_pos hf0] at hi;rw [<- hi]
   refine Zp (by simpa using hf0) ?_;dsimp only [go_sem];rw [if_neg (by simpa using hf0)] at hi;rw [Zf (n:=(j:Int)+1) (by omega) (by omega)];refine ⟨(j+1,(ZR b c1 { l[j] with load:=load }).1),⟨hlt,UA hb hc1 hm' hf2,hi⟩,by simp only;omega,?_⟩;(refine Zi ?_ ?_ ?_ rfl rfl<;>dsimp only [breedL,camelL,marchL,ZY,id,go_sem]<;>simp [breedL,camelL,marchL,ZY,Za])
 refine Zp (by simp;omega) ?_;dsimp only [go_sem];have hje:j=l.length:=by omega
 subst hje;rw [List.drop_length,Z9] at hi;rw [<- hi]
theorem heavy_ok (b:Breed) (c:Camel) (l:List March) (k:Bool) (hl:l.length<=1000):Ct Tryz.prog 11 [.agg (breedL b),.agg (camelL c),.sl k 8 (l.map marchL)] (.tup [I (Xx b c l).1,I (Xx b c l).2]):=by
 refine t11.1 (by simp [breedL,camelL,marchL,Za]) (by simp) ?_;dsimp only [c11,r11,breedL,camelL,go_sem];refine call (XI b c l (by omega) k) ?_;dsimp only [go_sem];by_cases h0:Zgj b c l=0
 case neg =>
  refine Zs (by simpa using h0) ?_;dsimp only [go_sem];simp [Xx,h0]
 refine Zp (by simpa using h0) ?_;dsimp only [go_sem];have hq:Zw b=true/\Zz b c=true/\l.length<=60/\l.all Zt=true:=by
  unfold Zgj at h0;by_cases e1:Ve b c=0
  . obtain ⟨q1,q2⟩:=errC_0.1 e1;by_cases e2:l.length > 60
    . simp [e1,e2] at h0
    . by_cases e3:l.all Zt=true
      . exact ⟨q1,q2,by omega,e3⟩
      . simp only [e1,e2] at h0;simp at e3 h0;grind
  . simp [e1] at h0
 obtain ⟨q1,q2,q3,q4⟩:=hq;have hbear:∀ n,inR 0 1000000 n=true->Ct Tryz.prog 55 [I n,.ps (breedL b) 0,.ps (camelL c) 0,.ps [.sl k 8 (l.map marchL)] 0] (B (Z9 b n c l)):=λn hn=>ZbB b c l n q1 q2 q4 q3 hn k;refine XK (by simp [FLT]) (res:=B (Z9 b 0 c l)) ?_ ?_
 . dsimp only [go_sem];exact hbear 0 (by decide)
 dsimp only [go_sem];by_cases hb0:Z9 b 0 c l=true
 case neg =>
  refine Zs (by simpa using hb0) ?_;dsimp only [go_sem];have:Z9 b 0 c l=false:=by simpa using hb0
  simp [Xx,h0,this]
 refine Zp (by simp [hb0]) ?_;dsimp only [go_sem];have hh:Xx b c l=(Y7 (λn=>Z9 b n c l) 2000000 0 1000000,0):=by simp [Xx,h0,hb0]
 rw [hh];refine XK (by simp [FLT]) (res:=I (Y7 (λn=>Z9 b n c l) 2000000 0 1000000)) ?_ ?_
 . dsimp only [go_sem];exact ZdD 55 [.ps (breedL b) 0,.ps (camelL c) 0,.ps [.sl k 8 (l.map marchL)] 0] (by simp [breedL,camelL,marchL,Za]) (λn=>Z9 b n c l) hbear
 dsimp only [go_sem]
end Go.Proofs.YtkpkgafhfakpdaaGreatDoor.Cm
namespace Go.Azalai
theorem Wm {a b d:Int} (h0:0<=a) (h:a<=b) (hd:0 < d):a.tdiv d<=b.tdiv d:=by
 rw [Int.tdiv_eq_ediv_of_nonneg h0,Int.tdiv_eq_ediv_of_nonneg (Int.le_trans h0 h)];exact Int.ediv_le_ediv hd h
theorem ZbA {a b d:Int} (h0:0<=a) (h:a<=b) (hd:0 < d):upF a d<=upF b d:=by
 unfold upF;exact Wm (by omega) (by omega) hd
theorem Zk6 {m n:March} (h1:n.hours<=m.hours) (h0:0<=n.hours) (h2:n.load<=m.load) (h3:0<=n.load):0<=ZV n/\ZV n<=ZV m:=by
 unfold ZV;exact ⟨Int.mul_nonneg h0 (by omega),Int.mul_le_mul h1 (by omega) (by omega) (by omega)⟩
theorem mulw {x a b:Int} (hx:0<=x) (h:0<=a/\a<=b):0<=x * a/\x * a<=x * b:=⟨Int.mul_nonneg hx h.1,Int.mul_le_mul_of_nonneg_left h.2 hx⟩
def inn (s t:Span):Prop:=t.lo<=s.lo/\s.lo<=s.hi/\s.hi<=t.hi
structure innB (d b:Breed):Prop where
 full:d.full=b.full
 fed:d.fed=b.fed
 heal:d.heal=b.heal
 rest:inn d.rest b.rest
 heat:inn d.heat b.heat
 toil:inn d.toil b.toil
 burn:inn d.burn b.burn
 rub:inn d.rub b.rub
 milk:inn d.milk b.milk
 strong:inn d.strong b.strong
structure innC (a c:Camel):Prop where
 water:inn a.water c.water
 fat:inn a.fat c.fat
 sore:inn a.sore c.sore
 milks:a.milks=c.milks
structure innM (n m:March):Prop where
 hours:n.hours=m.hours
 load:n.load=m.load
 heat:inn n.heat m.heat
 grass:inn n.grass m.grass
 drinks:inn n.drinks m.drinks
theorem ZyN {x y a b:Int} (hx:0<=x) (hxy:x<=y) (ha:0<=a) (hab:a<=b):0<=x * a/\x * a<=y * b:=⟨Int.mul_nonneg hx ha,Int.mul_le_mul hxy hab ha (by omega)⟩
theorem innB.ok {d b:Breed} (h:innB d b) (hb:Zw b=true):Zw d=true:=by
 obtain ⟨h1,h2,h3,r1,r2,r3,r4,r5,r6,r7⟩:=h;simp only [Zw,inR,Z4,Bool.and_eq_true,decide_eq_true_eq] at hb ⊢;unfold inn at *;omega
theorem innC.ok {d b:Breed} {a c:Camel} (hd:innB d b) (h:innC a c) (hc:Zz b c=true):Zz d a=true:=by
 obtain ⟨r1,r2,r3,r4⟩:=h;simp only [Zz,Z4,Bool.and_eq_true,decide_eq_true_eq] at hc ⊢;rw [hd.full,hd.fed];unfold inn at *;omega
theorem innM.ok {n m:March} (h:innM n m) (hm:Zt m=true):Zt n=true:=by
 obtain ⟨r1,r2,r3,r4,r5⟩:=h;simp only [Zt,inR,Z4,Bool.and_eq_true,decide_eq_true_eq] at hm ⊢;unfold inn at *;omega
theorem ZeE {a b d:Int} (h0:0<=a) (h:a<=b) (hd:0 < d):a.tdiv d<=upF b d:=by
 unfold upF;exact Wm h0 (by omega) hd
theorem ZcW {b:Breed} {m:March} (k:Bool) (hb:Zw b=true) (hm:Zt m=true):(Y4 b k m).lo<=(Y4 b k m).hi/\(Xc b m).lo<=(Xc b m).hi:=by
 have hbb:=Go.Proofs.YtkpkgafhfakpdaaGreatDoor.Cm.breed_bd hb;have hmm:=Go.Proofs.YtkpkgafhfakpdaaGreatDoor.Cm.march_bd hm;have hw:0<=ZV m:=by unfold ZV;exact Int.mul_nonneg (by omega) (by omega)
 have a1:=ZyN (x:=b.heat.lo) (y:=b.heat.hi) (a:=max 0 (m.heat.lo - 20)) (b:=max 0 (m.heat.hi - 20)) (by omega) (by omega) (by omega) (by omega);have t1:=ZyN (x:=b.toil.lo) (y:=b.toil.hi) (a:=ZV m) (b:=ZV m) (by omega) (by omega) hw (Int.le_refl _);have u1:=ZyN (x:=b.burn.lo) (y:=b.burn.hi) (a:=ZV m) (b:=ZV m) (by omega) (by omega) hw (Int.le_refl _);have T1:=ZeE t1.1 t1.2 (d:=100000) (by decide);have U1:=ZeE u1.1 u1.2 (d:=100000) (by decide)
 simp only [Y4,Xc];cases k<;>simp<;>omega
structure better (a c:Camel):Prop where
 water:c.water.lo<=a.water.lo
 fat:c.fat.lo<=a.fat.lo
 sore:a.sore.hi<=c.sore.hi
 milks:a.milks=c.milks
theorem Zds (c:Camel):better c c:=⟨Int.le_refl _,Int.le_refl _,Int.le_refl _,rfl⟩
theorem ZeJ {b:Breed} {a c:Camel} (hb:Zw b=true) (hc:Zz b c=true) (h:better a c):(Ul b c).lo<=(Ul b a).lo:=by
 have hbb:=Go.Proofs.YtkpkgafhfakpdaaGreatDoor.Cm.breed_bd hb;simp only [Zz,Z4,Bool.and_eq_true,decide_eq_true_eq] at hc;obtain ⟨h1,h2,h3,h4⟩:=h;have w1:=Wm (a:=2000 * c.water.lo) (b:=2000 * a.water.lo) (d:=b.full) (by omega) (by omega) (by omega);have f1:=Wm (a:=2000 * c.fat.lo) (b:=2000 * a.fat.lo) (d:=b.fed) (by omega) (by omega) (by omega);have z1:=Int.tdiv_nonneg (a:=2000 * c.water.lo) (b:=b.full) (by omega) (by omega)
 have z2:=Int.tdiv_nonneg (a:=2000 * c.fat.lo) (b:=b.fed) (by omega) (by omega);have q:0<=(ZaP b c).lo/\(ZaP b c).lo<=(ZaP b a).lo:=by simp only [ZaP];omega
 have p1:=ZyN (x:=b.strong.lo) (y:=b.strong.lo) (by omega) (Int.le_refl _) q.1 q.2;simp only [Ul];exact Wm p1.1 p1.2 (by decide)
theorem ZcK {b:Breed} {a c:Camel} {m:March} {x y:Int} (hb:Zw b=true) (hc:Zz b c=true) (ha:Zz b a=true) (hm:Zt m=true) (h:better a c) (h0:0<=y) (hyx:y<=x) (hx:x<=1000000) (hs:(ZR b c { m with load:=x }).2=0) :
 (ZR b a { m with load:=y }).2=0/\better (ZR b a { m with load:=y }).1 (ZR b c { m with load:=x }).1:=by
 have hbb:=Go.Proofs.YtkpkgafhfakpdaaGreatDoor.Cm.breed_bd hb;have hmm:=Go.Proofs.YtkpkgafhfakpdaaGreatDoor.Cm.march_bd hm;have hm1:Zt { m with load:=x }=true:=by simp only [Zt,inR,Z4,Bool.and_eq_true,decide_eq_true_eq] at hm ⊢;omega
 have hm2:Zt { m with load:=y }=true:=by simp only [Zt,inR,Z4,Bool.and_eq_true,decide_eq_true_eq] at hm ⊢;omega
 simp only [Zz,Z4,Bool.and_eq_true,decide_eq_true_eq] at hc ha;have l1:=ZcW c.milks hb hm1;have l2:=ZcW c.milks hb hm2;have hw:=Zk6 (m:={ m with load:=x }) (n:={ m with load:=y }) (Int.le_refl _) (by simp only;omega) hyx h0;have hl:0<=m.hours * y/\m.hours * y<=m.hours * x:=⟨Int.mul_nonneg (by omega) h0,Int.mul_le_mul_of_nonneg_left hyx (by omega)⟩
 have t2:=mulw (x:=b.toil.hi) (by omega) hw;have u2:=mulw (x:=b.burn.hi) (by omega) hw;have r2:=mulw (x:=b.rub.hi) (by omega) hl;have T2:=ZbA t2.1 t2.2 (d:=100000) (by decide);have U2:=ZbA u2.1 u2.2 (d:=100000) (by decide);have R2:=ZbA r2.1 r2.2 (d:=1000000) (by decide);obtain ⟨h1,h2,h3,h4⟩:=h;have cw:(Y4 b c.milks { m with load:=y }).hi<=(Y4 b c.milks { m with load:=x }).hi:=by simp only [Y4];omega
 have cf:(Xc b { m with load:=y }).hi<=(Xc b { m with load:=x }).hi:=by simp only [Xc];omega
 have cs:(VT b a.sore { m with load:=y }).hi<=(VT b c.sore { m with load:=x }).hi:=by
  unfold VT;simp only;split<;>(simp only;omega)
 unfold ZR at hs ⊢;simp only [h4] at hs ⊢;generalize Y4 b c.milks { m with load:=y }=wn at *;generalize Y4 b c.milks { m with load:=x }=wm at *;generalize Xc b { m with load:=y }=fn at *;generalize Xc b { m with load:=x }=fm at *;by_cases hdm:c.water.hi < wm.lo\/c.fat.hi < fm.lo
 . rw [if_pos hdm] at hs;cases hs
 rw [if_neg hdm] at hs ⊢;simp only at hs;by_cases hq:c.water.lo ≥ wm.hi/\c.fat.lo ≥ fm.hi
 . rw [if_neg (by omega)];simp only;rw [if_pos (by omega)];refine ⟨rfl,⟨?_,?_,cs,rfl⟩⟩<;>(simp only [Up];omega)
 . rw [if_neg hq] at hs;cases hs
theorem Zbq {b:Breed} {x y:Int} (hb:Zw b=true) (h0:0<=y) (hyx:y<=x) (hx:x<=1000000):∀ (l:List March) (a c:Camel),l.all Zt=true->Zz b c=true->Zz b a=true->better a c->Z9 b x c l=true->Z9 b y a l=true
 | [],a,c,_,_,_,_,_=>rfl
 | m :: l,a,c,hl,hc,ha,hbt,h=>by
  simp only [List.all_cons,Bool.and_eq_true] at hl;have hm1:Zt { m with load:=x }=true:=by have:=hl.1;simp only [Zt,inR,Z4,Bool.and_eq_true,decide_eq_true_eq] at this ⊢;omega
  have hm2:Zt { m with load:=y }=true:=by have:=hl.1;simp only [Zt,inR,Z4,Bool.and_eq_true,decide_eq_true_eq] at this ⊢;omega
  unfold Z9 at h ⊢;by_cases hcar:m.hours > 0/\x > (Ul b c).lo
  . rw [if_pos hcar] at h;cases h
  rw [if_neg hcar] at h;have hk:=ZeJ hb hc hbt;rw [if_neg (by omega)];by_cases hf:(ZR b c { m with load:=x }).2=0
  . rw [if_neg (by simpa using hf)] at h;obtain ⟨g1,g2⟩:=ZcK hb hc ha hl.1 hbt h0 hyx hx hf;rw [if_neg (by simpa using g1)];exact Zbq hb h0 hyx hx l _ _ hl.2 (UA hb hc hm1 (by rw [hf];decide)) (UA hb ha hm2 (by rw [g1];decide)) g2 h
  . rw [if_pos hf] at h;cases h
theorem Zbz {g:Int->Bool} {L H:Int} (hg0:g L=true):∀ (n:Nat) (lo hi:Int),0<=lo->lo<=hi->hi - lo<=n->L<=lo->hi<=H->g lo=true->(hi=H\/∀ x,hi < x->x<=H->g x=false) ->
 (∀ x y,L<=y->y<=x->x<=H->g x=true->g y=true)->(lo<=Y7 g n lo hi/\Y7 g n lo hi<=hi)/\g (Y7 g n lo hi)=true/\∀ x,Y7 g n lo hi < x->x<=H->g x=false
 | 0,lo,hi,h0,h1,h2,h3,h4,h5,h6,hm=>by
  have e:lo=hi:=by omega
  simp only [Y7];refine ⟨by omega,h5,λx q1 q2=>?_⟩;rcases h6 with h6 | h6
  . omega
  . exact h6 x (by omega) q2
 | n+1,lo,hi,h0,h1,h2,h3,h4,h5,h6,hm=>by
  simp only [Y7];by_cases hlt:lo < hi
  . rw [if_pos hlt];have e:(lo+hi+1).tdiv 2=(lo+hi+1) / 2:=Int.tdiv_eq_ediv_of_nonneg (by omega);rw [e];by_cases hq:g ((lo+hi+1) / 2)=true
    . rw [if_pos hq];have:=Zbz hg0 n _ hi (by omega) (by omega) (by omega) (by omega) h4 hq h6 hm;exact ⟨by omega,this.2⟩
    . rw [if_neg hq]
      have:=Zbz hg0 n lo ((lo+hi+1) / 2 - 1) h0 (by omega) (by omega) h3 (by omega) h5 (.inr λx q1 q2=>by
       cases hx:g x with
       | false=>rfl
       | true=>exact absurd (hm x _ (by omega) (by omega) q2 hx) hq) hm
      exact ⟨by omega,this.2⟩
  . rw [if_neg hlt];refine ⟨by omega,h5,λx q1 q2=>?_⟩;rcases h6 with h6 | h6
    . omega
    . exact h6 x (by omega) q2
end Go.Azalai
namespace Go.Sx
open Go Go.RowKit
section typed
variable {K V:Type} [DecidableEq K]
def mpS (key:K->Value) (val:V->SV) (L:List (Nat × K × V)):List (Nat × Value × SV):=L.map λe=>(e.1,key e.2.1,val e.2.2)
def W4 (k:K):List (Nat × K × V)->Option V
 | []=>none
 | e :: l=>if e.2.1=k then some e.2.2 else W4 k l
def ZaM (c:Nat) (k:K) (v:V):List (Nat × K × V)->List (Nat × K × V)
 | []=>[(c,k,v)]
 | e :: l=>if e.2.1=k then (e.1,k,v) :: l else e :: ZaM c k v l
def ZjH (k:K):List (Nat × K × V)->List (Nat × K × V)
 | []=>[]
 | e :: l=>if e.2.1=k then l else e :: ZjH k l
def ZaR (c:Nat) (k:K) (L:List (Nat × K × V)):Nat:=bif (W4 k L).isSome then c else c+1
def fI (k:K):List K->List MapEntry->Nat->Option (Nat × Value)
 | q :: ks,e :: ys,i=>if q=k then some (i,e.val) else fI k ks ys (i+1)
 | _,_,_=>none
structure KeyT (P:Program) (kt:TypeId) (key:K->Value) (sv:K->SV):Prop where
 chk:∀ (em:Bool) (k:K) (w:World),(Instr.checkKey em 10000 kt (key k)).run P w = .ok () w
 fnd:∀ (k:K) (ks:List K) (ys:List MapEntry) (w:World),ys.map (·.key)=ks.map key->(Instr.findKey kt (key k) ys).run P w = .ok (fI k ks ys 0) w
 same:∀ k,Instr.sameBits 10000 (key k) (key k)=true
 svR:∀ {w:World} {E:Env} {n ok:Nat->Prop} (k:K) (y:Value),R w E n ok (sv k) y↔y=key k
theorem Zan {w:World} {E:Env} {n ok:Nat->Prop} {key:K->Value} {val:V->SV} (k:K):∀ (L:List (Nat × K × V)) (ys:List MapEntry) (i:Nat),RM w E n ok (mpS key val L) ys ->
 (W4 k L=none/\fI k (L.map (·.2.1)) ys i=none/\ZjH k L=L/\∀ {w':World} {E':Env} {n' ok':Nat->Prop} c v' y',R w' E' n' ok' (val v') y'->RM w' E' n' ok' (mpS key val L) ys->RM w' E' n' ok' (mpS key val (ZaM c k v' L)) (ys ++ [⟨key k,y',c⟩])) \/
 ∃ j v e,W4 k L=some v/\fI k (L.map (·.2.1)) ys i=some (i+j,e.val)/\ys[j]? = some e/\e.key=key k/\R w E n ok (val v) e.val /\
  (∀ {w':World} {E':Env} {n' ok':Nat->Prop},RM w' E' n' ok' (mpS key val L) ys->RM w' E' n' ok' (mpS key val (ZjH k L)) (ys.eraseIdx j)/\∀ c v' y',R w' E' n' ok' (val v') y'->RM w' E' n' ok' (mpS key val (ZaM c k v' L)) (ys.modify j λe=>{ e with key:=key k,val:=y' }))
 | [],ys,i,h=>by
  simp only [mpS,List.map_nil,RM] at h;subst h;exact .inl ⟨rfl,rfl,rfl,λc v' y' hR _=>by simp only [ZaM,mpS,List.map_cons,List.map_nil,List.nil_append,RM];exact ⟨y',[],rfl,hR,rfl⟩⟩
 | e :: l,ys,i,h=>by
  simp only [mpS,List.map_cons,RM] at h;obtain ⟨y,r,rfl,h1,h2⟩:=h;by_cases hk:e.2.1=k
  . refine .inr ⟨0,e.2.2,⟨key e.2.1,y,e.1⟩,by simp [W4,hk],by simp [fI,hk],rfl,by simp [hk],h1,λ{w' E' n' ok'} h'=>?_⟩;simp only [mpS,List.map_cons,RM] at h';obtain ⟨y0,r0,e0,h3,h4⟩:=h';cases e0
    refine ⟨by simpa [ZjH,hk,mpS] using h4,λc v' y' hR=>?_⟩;simp only [ZaM,hk,if_true,mpS,List.map_cons,RM];exact ⟨y',r,by simp,hR,h4⟩
  . rcases Zan k l r (i+1) h2 with ⟨a1,a2,a3,a4⟩ | ⟨j,v,e',b1,b2,b3,b4,b5,b6⟩
    . refine .inl ⟨by simp [W4,hk,a1],by simp [fI,hk,a2],by simp [ZjH,hk,a3],λ{w' E' n' ok'} c v' y' hR h'=>?_⟩;simp only [mpS,List.map_cons,RM] at h';obtain ⟨y0,r0,e0,h3,h4⟩:=h';cases e0
      simp only [ZaM,hk,if_false,mpS,List.map_cons,RM];exact ⟨y,_,rfl,h3,a4 c v' y' hR h4⟩
    . refine .inr ⟨j+1,v,e',by simp [W4,hk,b1],by simp [fI,hk,b2];omega,by simpa using b3,b4,b5,λ{w' E' n' ok'} h'=>?_⟩;simp only [mpS,List.map_cons,RM] at h';obtain ⟨y0,r0,e0,h3,h4⟩:=h';cases e0
      obtain ⟨c1,c2⟩:=b6 h4;refine ⟨?_,λc v' y' hR=>?_⟩
      . simp only [ZjH,hk,if_false,mpS,List.map_cons,RM];exact ⟨y,_,by simp,h3,c1⟩
      . simp only [ZaM,hk,if_false,mpS,List.map_cons,RM];exact ⟨y,_,by simp,h3,c2 c v' y' hR⟩
omit [DecidableEq K] in
theorem ZaA {w:World} {E:Env} {n ok:Nat->Prop} {key:K->Value} {val:V->SV}:∀ {L:List (Nat × K × V)} {ys:List MapEntry},RM w E n ok (mpS key val L) ys->ys.map (·.key)=(L.map (·.2.1)).map key
 | [],ys,h=>by simp only [mpS,List.map_nil,RM] at h;subst h;rfl
 | e :: l,ys,h=>by
  simp only [mpS,List.map_cons,RM] at h;obtain ⟨y,r,rfl,h1,h2⟩:=h;simp only [List.map_cons,List.cons.injEq,true_and];exact ZaA h2
theorem Zqo {w:World} {E:Env} {n ok:Nat->Prop}:∀ {L:List (Nat × Value × SV)} {ys:List MapEntry},RM w E n ok L ys->ys.length=L.length
 | [],ys,h=>by simp only [RM] at h;subst h;rfl
 | e :: l,ys,h=>by simp only [RM] at h;obtain ⟨y,r,rfl,h1,h2⟩:=h;simp [Zqo h2]
theorem Zqp {P:Program} {kt:TypeId} {kd:IntKind} (hu:P.underlying kt=some (.int kd)):KeyT P kt (λn:Int=>.int kd n) (λn=>.v (.int kd n)):=by
 refine ⟨λem k w=>MapKept.run_checkKey hu (by simp [MapKept.IsKey]) em _,λk ks ys w h=>?_,λk=>by simp [Instr.sameBits],λk y=>by simp only [R]⟩;have:∀ (ks:List Int) (ys:List MapEntry) (i:Nat),ys.map (·.key)=ks.map (λn:Int=>Value.int kd n)->Instr.findNow (.int kd) (.int kd k) ys i=some (fI k ks ys i):=by
  intro ks ys
  induction ys generalizing ks with
  | nil=>intro i h;cases ks with
   | nil=>rfl
   | cons a b=>simp at h
  | cons e ys ih=>intro i h;cases ks with
   | nil=>simp at h
   | cons a b =>
    simp only [List.map_cons,List.cons.injEq] at h;simp only [Instr.findNow,h.1,Instr.sameNow,if_true,fI];by_cases ha:a=k
    . subst ha;simp
    . have:(k == a)=false:=by simpa using λe=>ha e.symm
      simp [this,ha,ih b (i+1) h.2]
 exact MapKept.run_findKey hu (this ks ys 0 h)
end typed
section
variable {P:Program} {C:Cx} {E:Env} {σ : St} {a:Act} {w:World}
def ZaS (σ : St):Operand->SV
 | .tmp u=>lk u σ.fr
 | .const x=>.v x
 | _=>.any
theorem W8 (h:Sim C E σ a w) {o:Operand} {s:SV} (hs:ZaS σ o=s) (hg:∀ j b u,s≠.gd j b u):R w E (ltn σ.n) (okS C E σ.hp) s (a.eval o):=by
 cases o with
 | tmp u =>
  have:=ZpU (h.fr u) (λj b u' e=>hg j b u' (by rw [<- hs];exact e));simp only [ZaS] at hs;rw [hs] at this;exact this
 | const x=>simp only [ZaS] at hs;subst hs;simp only [R];rfl
 | _=>simp only [ZaS] at hs;subst hs;simp only [R]
theorem Zd8 (h:Sim C E σ a w) {km c:Nat} {es:List (Nat × Value × SV)} (hk:lkh km σ.hp = .map es c) :
 ltn σ.n km/\∃ ys,w.heap[E.β km]? = some (.map ys c)/\RM w E (ltn σ.n) (okS C E σ.hp) es ys.toList:=by
 have hb:=h.hs.bk km;rw [hk] at hb;refine ⟨?_,hb⟩;rcases Classical.em (ltn σ.n km) with q | q
 . exact q
 . rw [h.hs.kn km q] at hk;cases hk
theorem ZwR {d:Option Nat} {s:SV} {r:KT} {K:RK} {y:Value} {w':World} {E':Env} {hp':List (Nat × HB)} {n':Nat} {next:Act->World->Prop} (hk:Yh d s none ⟨σ.fr,hp',n',σ.N,σ.gs⟩ r K) (h:Sim C E σ a w)
 (hst:ZE w w' (okS C E σ.hp) (okS C E' hp')) (hE:∀ k,k < σ.n->Ele E E' k k) (hn:σ.n<=n') (hh:HSim C E' hp' (ltn n') w') (hR:R w' E' (ltn n') (okS C E' hp') s y)
 (hnext:∀ σ' E' a' w',r σ' K->Sim C E' σ' a' w'->next a' w'):next (a.put d y) w':=by
 rcases Wf hk with ⟨g1,g2⟩ | ⟨t,g1,g2,g3,g4,g5⟩
 . rw [g1];exact hnext _ E' _ _ g2 (Ya (σ:=σ) h hst hE hn hh)
 . rw [g1];exact hnext _ E' _ _ g5 (YJ (σ:=σ) h hst hE hn hh g2 g3 (λj b u e=>by rw [e] at g4;cases g4) hR)
theorem WY {d:Option Nat} {s:SV} {r:KT} {K:RK} {y:Value} {next:Act->World->Prop} (hk:Yh d s none σ r K) (h:Sim C E σ a w) (hR:R w E (ltn σ.n) (okS C E σ.hp) s y)
 (hnext:∀ σ' E' a' w',r σ' K->Sim C E' σ' a' w'->next a' w'):next (a.put d y) w :=
 ZwR (hp':=σ.hp) (n':=σ.n) hk h (λb hb _=>⟨hb,rfl⟩) (λ_ _=>Ele.rfl) (Nat.le_refl _) h.hs hR hnext
theorem ZgS {K':Type} [DecidableEq K'] {kt:TypeId} {key:K'->Value} {sv:K'->SV} (hK:KeyT P kt key sv) (k:K'):∀ j b u,sv k≠.gd j b u:=λj b u e=>by
 have:=(hK.svR (w:=default) (E:=⟨λ_=>0,λ_ _=>undef,λ_=>0⟩) (n:=λ_=>True) (ok:=λ_=>True) k (key k)).2 rfl;rw [e] at this;simp only [R] at this
theorem ZhC {hp:List (Nat × HB)} {n:Nat->Prop} {q:Nat} {hb:HB} {o:Obj} (h:HSim C E hp n w) (hq:¬ n q) (hocc:∀ (E:Env) b,occ E q hb b↔b=E.β q)
 (hok:∀ E',(∀ k,n k->Ele E E' k k)->E'.β q=w.heap.size->Z0 (w.alloc o) E' (λk=>n k\/k=q) (okS C E' ((q,hb) :: hp)) q hb) :
 ∃ E',(∀ k,n k->Ele E E' k k)/\E'.β q=w.heap.size/\HSim C E' ((q,hb) :: hp) (λk=>n k\/k=q) (w.alloc o)/\ZE w (w.alloc o) (okS C E hp) (okS C E' ((q,hb) :: hp)):=by
 let E':Env:=⟨λk=>if k=q then w.heap.size else E.β k,E.hv,E.iss⟩
 have hE:∀ k,n k->Ele E E' k k:=λk hk=>⟨by simp [E',show k≠q from by rintro rfl;exact hq hk],Nat.le_refl _,λ_ _=>rfl⟩;have hEn:E'.β q=w.heap.size:=by simp [E']
 have hbel:Below w.heap.size w (w.alloc o):=(Below.refl _ _).alloc (Nat.le_refl _) _;have hoc:∀ j b,j≠q->(occ E' j (lkh j ((q,hb) :: hp)) b↔occ E j (lkh j hp) b):=λj b hj=>by
  rw [Zl,if_neg hj];cases hl:lkh j hp<;>simp only [occ,E',if_neg hj]
 have hocn:∀ b,occ E' q (lkh q ((q,hb) :: hp)) b↔b=w.heap.size:=λb=>by
  rw [Zl,if_pos rfl,hocc,hEn]
 have hlt:∀ b,b < w.heap.size->(okS C E' ((q,hb) :: hp) b↔okS C E hp b):=λb hb'=>by
  unfold okS;constructor
  . rintro ⟨h1,h2⟩;refine ⟨h1,λj hj=>?_⟩;by_cases hjn:j=q
    . subst hjn;rw [h.kn j hq] at hj;exact hj
    . exact h2 j ((hoc j b hjn).2 hj)
  . rintro ⟨h1,h2⟩;refine ⟨h1,λj hj=>?_⟩;by_cases hjn:j=q
    . subst hjn;rw [hocn] at hj;omega
    . exact h2 j ((hoc j b hjn).1 hj)
 have hst:ZE w (w.alloc o) (okS C E hp) (okS C E' ((q,hb) :: hp)):=λb hb' hs=>by
  have hlt':b < w.heap.size:=by
   obtain ⟨o,ho⟩:=Option.isSome_iff_exists.1 hs;exact (Array.getElem?_eq_some_iff.1 ho).1
  exact ⟨(hlt b hlt').2 hb',hbel.block b hlt'⟩
 refine ⟨E',hE,hEn,⟨λj hj=>?_,λj=>?_,λj j' b h1 h2=>?_,λj b h1=>?_,XY h.kp hbel,λk hk=>(by obtain ⟨p1,p2⟩:=h.pin k hk;exact ⟨.inl p1,p2.trans (hE k p1)⟩)⟩,hst⟩
 . rw [Zl,if_neg (λe=>hj (.inr e))];exact h.kn j (λe=>hj (.inl e))
 . rw [Zl];by_cases hj:j=q
   . subst hj;rw [if_pos rfl];exact hok E' hE hEn
   . rw [if_neg hj];refine Yr hst hE (λ_ h=>.inl h) ?_ (λb ho=>hbel.block b (Yo h ho)) (by simp [E',hj]) (h.bk j);rcases Classical.em (n j) with h' | h'
     . exact .inr h'
     . exact .inl (h.kn j h')
 . by_cases hj:j=q<;>by_cases hj':j'=q
   . omega
   . subst hj;rw [hocn] at h1;rw [hoc j' b hj'] at h2;have:=Yo h h2;omega
   . subst hj';rw [hocn] at h2;rw [hoc j b hj] at h1;have:=Yo h h1;omega
   . exact h.dj j j' b ((hoc j b hj).1 h1) ((hoc j' b hj').1 h2)
 . by_cases hj:j=q
   . subst hj;rw [hocn] at h1;exact .inl (by rw [h1];exact h.kp.size)
   . exact h.lo j b ((hoc j b hj).1 h1)
end
section
variable {P:Program} {K' V:Type} [DecidableEq K'] {key:K'->Value} {sv:K'->SV} {val:V->SV} {L:List (Nat × K' × V)} {km c:Nat} {kt et t ty:TypeId} {mx ix vx:Operand} {σ : St} {r:KT} {K:RK} {d:Option Nat} {k:K'}
theorem UT {u:Nat} {rs:Option Operand} (hr:rs=none) (h1:YT u σ.gs=false) (h2:Nat.blt u σ.N=true) (h:r ⟨(u,.mp σ.n) :: σ.fr,(σ.n,.map [] 0) :: σ.hp,σ.n+1,σ.N,σ.gs⟩ K) :
 RAW P (some u) (.makeMap t rs) ty σ r K:=by
 subst hr;intro o C E a w next Q e1 e2 e3 hS hn hq
 obtain ⟨E',k1,k2,k3,k4⟩:=ZhC (q:=σ.n) (hb:=.map [] 0) (o:=.map #[] 0) hS.hs (by simp [ltn]) (λE b=>by simp only [occ]) (λE' g1 g2=>by
  simp only [Z0,g2];exact ⟨#[],heap_alloc_new _ _,rfl⟩)
 have hV:(λk=>ltn σ.n k\/k = σ.n)=ltn (σ.n+1):=by funext k;simp only [ltn,eq_iff_iff];omega
 rw [hV] at k3;have hx:(execOp a.eval o).run P w = .ok (.value (.map (some w.heap.size))) (w.alloc (.map #[] 0)):=by
  obtain ⟨dst',op',ty',pos,after,guard⟩:=o;simp only at e2;subst e2;simp [execOp,Sem.run_bind,Instr.makeMap,ZeB,Sem.run_pure]
 refine ZA hx (by simp) ?_;show next (a.put o.dst _) _;rw [e1];refine hn _ E' _ _ h (YJ hS k4 k1 (by omega) k3 (λhh=>?_) (by simpa [Nat.blt_eq] using h2) (λ_ _ _ e=>by cases e) ?_)
 . rw [ZO.2 hh] at h1;cases h1
 . simp only [R,k2];exact ⟨by simp [ltn],trivial⟩
theorem U6 {ok:Bool} {zs:SV} {z:Value} (hm:ZaS σ mx = .mp km) (hh:lkh km σ.hp = .map (mpS key val L) c) (ht:P.underlying t=some (.map kt et)) (hK:KeyT P kt key sv) (hi:ZaS σ ix=sv k)
 (hz:Yl P et=some z) (hzR:∀ w E n ok,R w E n ok zs z)
 (h1:∀ v,W4 k L=some v->Yh d (bif ok then .tup [val v,.v (.bool true)] else val v) none σ r K) (h0:W4 k L=none->Yh d (bif ok then .tup [zs,.v (.bool false)] else zs) none σ r K) :
 RAW P d (.lookup t mx ix ok) ty σ r K:=by
 intro o C E a w next Q e1 e2 e3 hS hn hq;have hmv:=W8 hS hm (λ_ _ _=>by simp);have hiv:=(hK.svR k _).1 (W8 hS hi (ZgS hK k));simp only [R] at hmv;obtain ⟨g0,ys,g1,g2⟩:=Zd8 hS hh;have hfn:=λw=>hK.fnd k _ _ w (ZaA g2);have hex:∀ y,(Instr.lookup t (a.eval mx) (a.eval ix) ok).run P w = .ok y w->(execOp a.eval o).run P w = .ok (.value y) w:=λy hy=>by
  obtain ⟨dst',op',ty',pos,after,guard⟩:=o;simp only at e2;subst e2;simp only [execOp,Sem.run_bind,hy,Result.andThen_ok,Sem.run_pure]
 rcases Zan (w:=w) (E:=E) (n:=ltn σ.n) (ok:=okS C E σ.hp) k L ys.toList 0 g2 with ⟨a1,a2,-,-⟩ | ⟨j,v,e,b1,b2,b3,b4,b5,-⟩
 . have hrun:(Instr.lookup t (a.eval mx) (a.eval ix) ok).run P w = .ok (if ok then .tuple #[z,.bool false] else z) w:=by
    rw [hmv.2,hiv];simp only [Instr.lookup,Sem.run_bind,run_underlying ht,Result.andThen_ok,Yy g1 rfl,Sem.run_pure,hK.chk,hfn,a2,Xg hz]
   refine ZA (hex _ hrun) (by simp) ?_;show next (a.put o.dst _) _;rw [e1];refine WY (h0 a1) hS ?_ hn;cases ok
   . exact hzR _ _ _ _
   . simp only [cond_true,if_true,R,RL];exact ⟨_,rfl,_,_,rfl,hzR _ _ _ _,_,_,rfl,rfl,rfl⟩
 . have hrun:(Instr.lookup t (a.eval mx) (a.eval ix) ok).run P w = .ok (if ok then .tuple #[e.val,.bool true] else e.val) w:=by
    rw [hmv.2,hiv];simp only [Instr.lookup,Sem.run_bind,run_underlying ht,Result.andThen_ok,Yy g1 rfl,Sem.run_pure,hK.chk,hfn,b2]
   refine ZA (hex _ hrun) (by simp) ?_;show next (a.put o.dst _) _;rw [e1];refine WY (h1 v b1) hS ?_ hn;cases ok
   . exact b5
   . simp only [cond_true,if_true,R,RL];exact ⟨_,rfl,_,_,rfl,b5,_,_,rfl,rfl,rfl⟩
theorem Zm9 {v:V} {s:SV} {ins:Bool} (hm:ZaS σ mx = .mp km) (hh:lkh km σ.hp = .map (mpS key val L) c) (ht:P.underlying t=some (.map kt et)) (hK:KeyT P kt key sv) (hi:ZaS σ ix=sv k)
 (hv:ZaS σ vx=s) (hvg:∀ j b u,s≠.gd j b u) (hsv:∀ w E n ok y,R w E n ok s y->R w E n ok (val v) y) (h:r ⟨σ.fr,(km,.map (mpS key val (ZaM c k v L)) (ZaR c k L)) :: σ.hp,σ.n,σ.N,σ.gs⟩ K) :
 RAW P none (bif ins then .insert t mx ix vx else .mapUpdate t mx ix vx) ty σ r K:=by
 intro o C E a w next Q e1 e2 e3 hS hn hq;have hmv:=W8 hS hm (λ_ _ _=>by simp);have hiv:=(hK.svR k _).1 (W8 hS hi (ZgS hK k));have hvv:=hsv _ _ _ _ _ (W8 hS hv hvg);simp only [R] at hmv;obtain ⟨g0,ys,g1,g2⟩:=Zd8 hS hh;have hfn:=λw=>hK.fnd k _ _ w (ZaA g2);have hex:∀ w',(Instr.mapUpdate t (a.eval mx) (a.eval ix) (a.eval vx)).run P w = .ok () w'->(execOp a.eval o).run P w = .ok .skip w':=λw' hy=>by
  obtain ⟨dst',op',ty',pos,after,guard⟩:=o;simp only at e2;subst e2;cases ins<;>simp only [cond_true,cond_false,execOp,Sem.run_bind,hy,Result.andThen_ok,Sem.run_pure]
 have hfin:∀ ys',((ys':Array MapEntry),ZaR c k L)=(ys',ZaR c k L)->(∀ {w':World} {ok':Nat->Prop},RM w' E (ltn σ.n) ok' (mpS key val L) ys.toList->R w' E (ltn σ.n) ok' (val v) (a.eval vx)->RM w' E (ltn σ.n) ok' (mpS key val (ZaM c k v L)) ys'.toList) ->
  next (a.put o.dst undef) (Ub w (E.β km) (.map ys' (ZaR c k L))):=λys' _ hRM=>by
  obtain ⟨q1,q2⟩:=VF (k:=km) (hb:=.map (mpS key val (ZaM c k v L)) (ZaR c k L)) (o:=.map ys' (ZaR c k L)) hS.hs (λb=>by rw [hh];simp only [occ]) (λb=>by simp only [occ]) (λhlt hst=>by
   simp only [Z0]
   exact ⟨ys',Ww hlt,hRM (VR hst.c (λ_ _=>Ele.rfl) (λ_ h=>h) _ _ g2) (ZQ hst.c (λ_ _=>Ele.rfl) (λ_ h=>h) _ _ hvv)⟩)
  rw [e1];exact hn _ E _ _ h (Ya hS q2 (λ_ _=>Ele.rfl) (Nat.le_refl _) q1)
 rcases Zan (w:=w) (E:=E) (n:=ltn σ.n) (ok:=okS C E σ.hp) k L ys.toList 0 g2 with ⟨a1,a2,-,a4⟩ | ⟨j,v0,e,b1,b2,b3,b4,b5,b6⟩
 . have hc:ZaR c k L=c+1:=by simp [ZaR,a1]
   have hrun:(Instr.mapUpdate t (a.eval mx) (a.eval ix) (a.eval vx)).run P w = .ok () (Ub w (E.β km) (.map (ys.push ⟨key k,a.eval vx,c⟩) (c+1))):=by
    rw [hmv.2,hiv];simp only [Instr.mapUpdate,Sem.run_bind,run_underlying ht,Result.andThen_ok,Yy g1 rfl,Sem.run_pure,hK.chk,hfn,a2,Xa _ g1 rfl]
   refine ZA (hex _ hrun) (by simp) ?_;show next (a.put o.dst undef) _;rw [<- hc];exact hfin _ rfl λh1 h2=>by rw [Array.toList_push];exact a4 c v _ h2 h1
 . have hc:ZaR c k L=c:=by simp [ZaR,b1]
   rw [Nat.zero_add] at b2;have hek:((ys[j]?).map (·.key)).getD (key k)=key k:=by
    have:ys[j]? = some e:=by simpa using b3
    simp [this,b4]
   have hrun:(Instr.mapUpdate t (a.eval mx) (a.eval ix) (a.eval vx)).run P w = .ok () (Ub w (E.β km) (.map (ys.modify j λe=>{ e with key:=key k,val:=a.eval vx }) c)):=by
    rw [hmv.2,hiv];simp only [Instr.mapUpdate,Sem.run_bind,run_underlying ht,Result.andThen_ok,Yy g1 rfl,Sem.run_pure,hK.chk,hfn,b2,hek,Instr.keyThatStays,hK.same,if_true,Xa _ g1 rfl]
   refine ZA (hex _ hrun) (by simp) ?_;show next (a.put o.dst undef) _;have:=hfin (ys.modify j λe=>{ e with key:=key k,val:=a.eval vx }) rfl λ{w' ok'} h1 h2=>by
    rw [Array.toList_modify];exact (b6 h1).2 c v _ h2
   rw [hc] at this;exact this
theorem W1 {v:V} {ins:Bool} (hm:ZaS σ mx = .mp km) (hh:lkh km σ.hp = .map (mpS key val L) c) (ht:P.underlying t=some (.map kt et)) (hK:KeyT P kt key sv) (hi:ZaS σ ix=sv k)
 (hv:ZaS σ vx=val v) (hvg:∀ j b u,val v≠.gd j b u) (h:r ⟨σ.fr,(km,.map (mpS key val (ZaM c k v L)) (ZaR c k L)) :: σ.hp,σ.n,σ.N,σ.gs⟩ K) :
 RAW P none (bif ins then .insert t mx ix vx else .mapUpdate t mx ix vx) ty σ r K:=Zm9 hm hh ht hK hi hv hvg (λ_ _ _ _ _ h=>h) h
theorem ZpH {es:List (Nat × Value × SV)} (hm:ZaS σ mx = .mp km) (hh:lkh km σ.hp = .map es c) (ht:P.underlying t=some (.map kt et)) {ats:Array TypeId} (ha:ats[0]? = some t)
 (h:Yh d (.v (.int .i64 es.length)) none σ r K):RAW P d (.call { callee:=.builtin .len,args:=#[mx],argTypes:=ats }) ty σ r K:=by
 intro o C E a w next Q e1 e2 e3 hS hn hq;have hmv:=W8 hS hm (λ_ _ _=>by simp);simp only [R] at hmv;obtain ⟨g0,ys,g1,g2⟩:=Zd8 hS hh;have hl:=Zqo g2;have hrun:(Builtin.len_ ats ty #[a.eval mx]).run P w = .ok (.int .i64 es.length) w:=by
  rw [hmv.2];simp [Builtin.len_,Sem.run_bind,ha,run_underlying ht,Result.andThen_ok,Yy g1 rfl,Sem.run_pure,goInt,<- hl]
 have hx:(execOp a.eval o).run P w = .ok (.value (.int .i64 es.length)) w:=by
  obtain ⟨dst',op',ty',pos,after,guard⟩:=o;simp only at e2 e3;subst e2;subst e3;simp [execOp,resolve,invoke,builtin,hrun]
 refine ZA hx (by simp) ?_;show next (a.put o.dst _) _;rw [e1];exact WY h hS (by simp only [R]) hn
end
section
variable {K V:Type} [DecidableEq K] {k k':K} {v:V} {c:Nat} {L:List (Nat × K × V)}
structure MW (L:List (Nat × K × V)) (c:Nat):Prop where
 bn:(L.map (·.1)).Nodup
 bl:∀ e ∈ L,e.1 < c
 kn:(L.map (·.2.1)).Nodup
omit [DecidableEq K] in
theorem MW.nil {c:Nat}:MW ([]:List (Nat × K × V)) c:=⟨List.nodup_nil,(λe h=>by cases h),List.nodup_nil⟩
theorem VD:∀ {L:List (Nat × K × V)},W4 k L=none↔∀ e ∈ L,e.2.1≠k
 | []=>by simp [W4]
 | e :: l=>by
  simp only [W4];split
  . rename_i hk;simp [hk]
  . rename_i hk;rw [VD];simp [hk]
theorem Zbx:∀ {L:List (Nat × K × V)},W4 k L=none->ZaM c k v L=L ++ [(c,k,v)]
 | [],_=>rfl
 | e :: l,h=>by
  simp only [W4] at h;split at h
  . cases h
  . rename_i he;simp only [ZaM,if_neg he,Zbx h,List.cons_append]
theorem Zet:∀ {L:List (Nat × K × V)},(W4 k L).isSome->(ZaM c k v L).map (λe=>(e.1,e.2.1))=L.map λe=>(e.1,e.2.1)
 | [],h=>by simp [W4] at h
 | e :: l,h=>by
  simp only [W4] at h;simp only [ZaM];split
  . rename_i he;simp [he]
  . rename_i he;rw [if_neg he] at h;simp [Zet h]
theorem MW.set (h:MW L c) (v:V):MW (ZaM c k v L) (ZaR c k L):=by
 cases hg:W4 k L with
 | none =>
  have hc:ZaR c k L=c+1:=by simp [ZaR,hg]
  rw [Zbx hg,hc];have hk:=VD.1 hg;refine ⟨?_,λe he=>?_,?_⟩
  . rw [List.map_append,List.nodup_append];refine ⟨h.bn,by simp,λa ha b hb=>?_⟩;obtain ⟨e,he,rfl⟩:=List.mem_map.1 ha;simp only [List.map_cons,List.map_nil,List.mem_singleton] at hb;have:=h.bl e he;omega
  . rcases List.mem_append.1 he with he | he
    . have:=h.bl e he;omega
    . simp only [List.mem_singleton] at he;subst he;simp
  . rw [List.map_append,List.nodup_append];refine ⟨h.kn,by simp,λa ha b hb=>?_⟩;obtain ⟨e,he,rfl⟩:=List.mem_map.1 ha;simp only [List.map_cons,List.map_nil,List.mem_singleton] at hb;rw [hb];exact hk e he
 | some v0 =>
  have hc:ZaR c k L=c:=by simp [ZaR,hg]
  have hm:=Zet (c:=c) (v:=v) (k:=k) (L:=L) (by rw [hg];rfl);have e1:(ZaM c k v L).map (·.1)=L.map (·.1):=by
   have:=congrArg (List.map Prod.fst) hm;simpa [List.map_map,Function.comp_def] using this
  have e2:(ZaM c k v L).map (·.2.1)=L.map (·.2.1):=by
   have:=congrArg (List.map Prod.snd) hm;simpa [List.map_map,Function.comp_def] using this
  rw [hc];refine ⟨by rw [e1];exact h.bn,λe he=>?_,by rw [e2];exact h.kn⟩;have:e.1 ∈ L.map (·.1):=by rw [<- e1];exact List.mem_map.2 ⟨e,he,rfl⟩
  obtain ⟨x,hx,hxe⟩:=List.mem_map.1 this;rw [<- hxe];exact h.bl x hx
omit [DecidableEq K] in
theorem ZL {key:K->Value} {val:V->SV}:(∀ e ∈ mpS key val L,KF e.2.2)↔∀ v ∈ L.map (·.2.2),KF (val v):=by
 simp only [mpS,List.mem_map];exact ⟨λh v ⟨e,he,hv⟩=>hv ▸ h _ ⟨e,he,rfl⟩,λh _ ⟨e,he,hx⟩=>hx ▸ h _ ⟨e,he,rfl⟩⟩
omit [DecidableEq K] in
theorem Zy {key:K->Value} {val:V->SV}:(∀ (a:Nat) (b:Value) (c:SV),(a,b,c) ∈ mpS key val L->KF c)↔∀ v ∈ L.map (·.2.2),KF (val v):=by
 rw [<- ZL (key:=key)];exact ⟨λh e he=>h e.1 e.2.1 e.2.2 he,λh a b c he=>h _ he⟩
end
end Go.Sx
namespace Go.Sx
open Go Go.RowKit
def Zfv (s s':SV):Prop:=∀ (w:World) (E:Env) (n ok:Nat->Prop) (y:Value),R w E n ok s y->R w E n ok s' y
theorem Zfv.rfl {s:SV}:Zfv s s:=λ_ _ _ _ _ h=>h
theorem ZbM {c:Bool} {m:Nat}:Zfv (.v (.slice none 0 0)) (.sl c m []):=λw E n ok y h=>by
 simp only [R] at h ⊢;exact ⟨none,0,0,h,by simp,⟨Nat.le_refl _,λ_=>Eq.refl _⟩,by simp,by simp⟩
theorem Zey {c:Bool} {m:Nat} {xs:List (List SV)}:Zfv (.sl c m xs) (.sl false m xs):=λw E n ok y h=>by
 simp only [R] at h ⊢;obtain ⟨a,len,cap,h1,h2,h3,h4,h5⟩:=h;exact ⟨a,len,cap,h1,h2,⟨h3.1,λh=>by cases h⟩,h4,h5⟩
theorem ZT {s s':SV} {l l':List SV} (h1:Zfv s s') (h2:∀ (w:World) (E:Env) (n ok:Nat->Prop) (ys:List Value),RL w E n ok l ys->RL w E n ok l' ys):∀ (w:World) (E:Env) (n ok:Nat->Prop) (ys:List Value),RL w E n ok (s :: l) ys->RL w E n ok (s' :: l') ys:=λw E n ok ys h=>by
 simp only [RL] at h ⊢;obtain ⟨y,r,q1,q2,q3⟩:=h;exact ⟨y,r,q1,h1 _ _ _ _ _ q2,h2 _ _ _ _ _ q3⟩
def retW (rs:List RV) (res:SV):Ex->St->Prop
 | .ex _,_=>False
 | .n,σ=>∃ s,rvR rs σ = some s/\Zfv s res
 | .ret,σ=>∃ s,rvR rs σ = some s/\Zfv s res
 | .pan _,_=>False
theorem ZxU (rs:List RV) (res:SV) (σ : St):retW rs res .n σ = ∃ s,rvR rs σ = some s/\Zfv s res:=rfl
theorem Zme (rs:List RV) (res:SV) (σ : St):retW rs res .ret σ = ∃ s,rvR rs σ = some s/\Zfv s res:=rfl
attribute [go_sem] ZxU Zme
section
variable {P:Program}
end
theorem Ct.args {P:Program} {f:FuncId} {args args0:List SV} {res:SV} (h:Ct P f args res) (ka:KFL args0) (hw:∀ (w:World) (E:Env) (n ok:Nat->Prop) (ys:List Value),RL w E n ok args0 ys->RL w E n ok args ys):Ct P f args0 res :=
 ⟨h.1,ka,h.3,λw ok vs hG hR=>h.4 w ok vs hG (hw _ _ _ _ _ hR)⟩
end Go.Sx
