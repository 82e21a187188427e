/- Walks and plain laws that lead to the given statement, part 5 of 10. -/
import Derived.Test.YtkpkgafhfakpdaaGreatDoorQD
import Derived.Test.YtkpkgafhfakpdaaGreatDoorProg
set_option maxRecDepth 100000
set_option maxHeartbeats 4000000
set_option linter.all false
open Nat renaming beq_refl->nbr
namespace Go.Sx
def m1 (d t:Nat):Ins:=⟨some d,.mv (.t t),none,[]⟩
def o1 (d:Nat) (i:SI):Ins:=⟨some d,i,none,[]⟩
def sr1 (l:List Ins) (c:SC):SC:=.seq (.reg l) c
def ao (x o:Nat):SI:=.addo (.t x) o
def lt (x m:Nat):SI:=.ld (.t x) m true
def lf (x m:Nat):SI:=.ld (.t x) m false
def cn (n:Int):X:=.c (.int .i64 n)
def g1 (d t:Nat) (b:Bool) (i:SI):Ins:=⟨some d,i,some (t,b),[]⟩
def p1 (d:Nat) (i:SI) (l:List Nat):Ins:=⟨some d,i,none,l⟩
def q1 (d t:Nat) (b:Bool) (i:SI) (l:List Nat):Ins:=⟨some d,i,some (t,b),l⟩
def Jr (n:Nat):List Nat:=List.range n
def Ji (a:Nat) (x y:SC):SC:=.cond (.t a) x y
def Jh (a:Nat):SI:=.un .not (.t a)
def Jz (a o:Nat) (T:TypeId):SI:=.box (.t a) o T
def Jw (d:Nat) (x:X):Ins:=⟨some d,.mv x,none,[]⟩
def Js (a b m:Nat):Ins:=⟨none,.st (.t a) (.t b) m,none,[]⟩
def Ju (a b m:Nat) (l:List Nat):Ins:=⟨none,.st (.t a) (.t b) m,none,l⟩
def Jv (a:Nat) (x:X) (m:Nat):Ins:=⟨none,.st (.t a) x m,none,[]⟩
def Jt:X:=.c (.bool true)
def Jf:X:=.c (.bool false)
def Jb (o:BinOp) (a b:Nat):SI:=.bin o (.t a) (.t b)
def Jc (o:BinOp) (a:Nat) (k:Int):SI:=.bin o (.t a) (cn k)
def Jx (a b m:Nat):SI:=.ixs (.t a) (.t b) m
def Jl (a:Nat):SI:=.len (.t a)
def Je (a k:Nat):SI:=.ext (.t a) k
def Jk (d:Nat) (k:Int):Ins:=⟨some d,.mv (cn k),none,[]⟩
def J1 (f a:Nat):SI:=.call f [.t a]
def J2 (f a b:Nat):SI:=.call f [.t a,.t b]
def J3 (f a b c:Nat):SI:=.call f [.t a,.t b,.t c]
def J4 (f a b c d:Nat):SI:=.call f [.t a,.t b,.t c,.t d]
def J5 (f a b c d e:Nat):SI:=.call f [.t a,.t b,.t c,.t d,.t e]
def J6 (f a b c d e g:Nat):SI:=.call f [.t a,.t b,.t c,.t d,.t e,.t g]
def Jp (d:Nat) (i:SI) (l:List Nat):VI:=.op ⟨some d,i,none,l⟩
def Jm (d x:Nat):VI:=.op ⟨some d,.mv (.t x),none,[]⟩
def Jo (d:Nat) (i:SI):VI:=.op ⟨some d,i,none,[]⟩
def Jq (d t:Nat) (b:Bool) (i:SI) (l:List Nat):VI:=.op ⟨some d,i,some (t,b),l⟩
def Jg (d t:Nat) (b:Bool) (i:SI):VI:=.op ⟨some d,i,some (t,b),[]⟩
attribute [go_sem] m1 o1 sr1 ao lt lf cn g1 p1 q1 Ji Jh Jz Jw Js Ju Jv Jt Jf Jb Jc Jx Jl Je Jk J1 J2 J3 J4 J5 J6 Jp Jm Jo Jq Jg
open Go
structure Qt1 (P:Program) (f:FuncId) (c:SC) (r:List RV) (N:Nat):Prop where
 h:∀ {args:List SV} {res:SV},KFL args->KF res->sx P Y0 0 c (st0 args N) (Zz6 r res)->(hA:Nat.ble args.length N=true:=by rfl)->Ct P f args res
theorem ZL {P:Program} {f:FuncId} {fn:Func} {c:SC} {r:List RV} {N:Nat} (hf:P.funcs[f]?=some fn) (hd:fn.body.isSome=true:=by rfl) (hb:ZV P f=true:=by kernel_rfl) (hc:YA P c (fn.body.getD .skip)=true:=by kernel_rfl) (hr:YQ P r fn.results.toList=true:=by kernel_rfl) (hN:fn.ntmps=N:=by kernel_rfl):Qt1 P f c r N:=⟨λ{args res} ka kr h hA=>by
 cases hq:fn.body with
 | none=>rw [hq] at hd;cases hd
 | some code=>rw [hq] at hc;exact Zng hf hq hb hc hr hN (Nat.le_of_ble_eq_true hA) ka kr h⟩
def zv0:List Value:=[.int .i64 0,.int .i64 0]
def zv1:List Value:=[.int .i64 0,.int .i64 0,.int .i64 0,.int .i64 0,.int .i64 0,.int .i64 0,.int .i64 0,.int .i64 0,.int .i64 0,.int .i64 0,.int .i64 0,.int .i64 0,.int .i64 0,.int .i64 0,.int .i64 0,.int .i64 0,.int .i64 0,.int .i64 0,.int .i64 0,.int .i64 0,.int .i64 0,.int .i64 0,.int .i64 0,.bool false]
def zv2:List Value:=[.int .i64 0,.int .i64 0,.int .i64 0,.int .i64 0,.int .i64 0,.int .i64 0,.int .i64 0,.int .i64 0]
def zv3:List Value:=[.int .i64 0,.int .i64 0,.int .i64 0,.int .i64 0,.int .i64 0,.int .i64 0,.int .i64 0,.int .i64 0,.int .i64 0,.int .i64 0,.int .i64 0,.int .i64 0,.int .i64 0,.int .i64 0,.int .i64 0,.int .i64 0,.int .i64 0]
def zv4:List Value:=[.int .i64 0,.int .i64 0,.int .i64 0,.int .i64 0,.int .i64 0,.int .i64 0,.bool false]
def zv5:List Value:=[.int .u8 0,.int .i64 0,.int .i64 0,.int .i64 0,.int .i64 0,.int .i64 0,.int .i64 0,.int .i64 0,.int .i64 0,.int .i64 0,.int .i64 0]
def zv6:List Value:=[.int .i64 0,.int .i64 0,.int .i64 0,.int .i64 0,.slice none 0 0]
def zv7:List Value:=[.int .i64 0,.int .i64 0,.int .i64 0,.int .i64 0]
def zv8:List Value:=[.slice none 0 0,.slice none 0 0,.slice none 0 0]
def zv9:List Value:=[.int .i64 0,.int .i64 0,.int .i64 0,.int .i64 0,.int .i64 0,.int .i64 0,.int .i64 0,.int .i64 0,.int .i64 0,.int .i64 0]
def zv10:List Value:=[.int .i64 0,.int .i64 0,.int .i64 0,.int .i64 0,.int .i64 0,.int .i64 0,.int .i64 0,.int .i64 0,.int .i64 0]
def Zya:List Value:=[.int .i64 0,.int .i64 0,.int .i64 0]
def zv12:List Value:=[.int .i64 0,.int .i64 0,.int .i64 0,.bool false]
def zv13:List Value:=[.slice none 0 0,.slice none 0 0,.slice none 0 0,.slice none 0 0]
def zv14:List Value:=[.int .i64 0,.int .i64 0,.slice none 0 0]
def zv16:List Value:=[.slice none 0 0,.slice none 0 0]
attribute [go_sem] zv0 zv1 zv2 zv3 zv4 zv5 zv6 zv7 zv8 zv9 zv10 Zya zv12 zv13 zv14 zv16
end Go.Sx
namespace Go.Proofs.YtkpkgafhfakpdaaGreatDoor
open Go Go.Sx
def ZAg:SC:=(sr1 [o1 2 (.mv (.c (.pointer none))),Jk 3 0] (.seq (sr1 [m1 7 0,o1 8 (Jl 7),o1 9 (Jc .gtr 8 10),m1 10 9,g1 11 10 false (.mv (.t 0)),g1 12 10 false (.call 177 [.t 11,.f 178]),g1 13 10 false (Jh 12),o1 14 (.pick (.t 10) Jt (.t 13))] (Ji 14
 (sr1 [o1 2 (.mv (.c (.pointer none))),Jk 3 60] .ret) .skip)) (sr1 [m1 15 0,o1 16 (.raw (Go.Op.makeMap 244 Option.none) 244),o1 17 (.build [.slice none 0 0,.map none] [(0,1,.t 15),(1,1,.t 16)]),o1 18 (Jz 17 0 246),m1 4 18] (.seq (sr1 [m1 19 0,o1 20
 (Jl 19),Jk 21 0] (.block 0 (.loop (sr1 [o1 22 (Jb .lss 21 20)] (.seq (Ji 22 .skip (.exit 0)) (.seq (.block 1 (sr1 [m1 23 21,o1 24 (Jx 19 21 8),o1 25 (lt 24 8),o1 6 (.alloc zv2 84),m1 5 23,Js 6 25 8] (.regd (Jr 17) [Jm 26 4,Jp 27 (.nilc (.t 26))
 [0],Jp 28 (ao 27 1) [1],Jp 29 (lf 28 1) [2],Jo 30 (ao 6 0),Jp 31 (lf 30 1) [4],Jm 32 4,Jp 33 (.nilc (.t 32)) [6],Jp 34 (ao 33 1) [7],Jp 35 (lf 34 1) [8],Jo 36 (ao 6 0),Jp 37 (lf 36 1) [10],Jp 38 (.rv (Go.Op.lookup 244 (Go.Operand.tmp 35)
 (Go.Operand.tmp 37) Bool.false) [.t 35,.t 37]) [9,11],Jm 39 5,Jp 40 (.bsl 1 3 [.t 39]) [13],Jp 41 (.app 1 8 3 (.t 38) (.t 40)) [12,14]] 0 0 [⟨none,.raw (Go.Op.mapUpdate 244 (Go.Operand.tmp 29) (Go.Operand.tmp 31) (Go.Operand.tmp 41)) 0,none,(Jr
 16)⟩]))) (.reg [o1 42 (Jc .add 21 1),m1 21 42]))))))) (sr1 [m1 43 4,m1 2 43,Jk 3 0] .ret)))))
def ZAa:List RV:=[.tmp 2,.tmp 3]
theorem n128:Tryz.f128.ntmps=44:=by kernel_rfl
theorem b128:ZV Tryz.prog 128=true:=by kernel_rfl
theorem ZtF:YA Tryz.prog ZAg ((Tryz.f128.body).getD .skip)=true:=by kernel_rfl
theorem ZsU:YQ Tryz.prog ZAa Tryz.f128.results.toList=true:=by kernel_rfl
theorem m128 {n0:Nat} {hp0:List (Nat × HB)} {args:List SV} {Zw:Ot->Prop} (hh:hpb n0 hp0) (hx:∀ o,Zw o->KX o.res/\KXP o.hp) (h:sx Tryz.prog Y0 n0 ZAg ⟨YD 0 args,hp0,n0,44,[]⟩ (Xs ZAa λo=>∃ o',Zw o'/\XV n0 o o')) (hA:Nat.ble args.length 44=true:=by rfl):CtM Tryz.prog 128 hp0 n0 args Zw:=Zv Tryz.func128 rfl b128 ZtF ZsU n128 (Nat.le_of_ble_eq_true hA) hh hx h
def c69:SC:=(sr1 [o1 4 (.alloc [.pointer none,.slice none 0 0] 150),Jk 5 0] (sr1 [m1 10 0,o1 11 (.callm 128 [.t 10]),m1 9 11,o1 12 (Je 9 0),o1 13 (Je 9 1),m1 6 12,m1 7 13] (.seq (sr1 [m1 14 7,o1 15 (Jc .neq 14 0)] (Ji 15 (sr1 [o1 16 (.build [.pointer
 none,.slice none 0 0] []),m1 17 7,Js 4 16 2,m1 5 17] .ret) .skip)) (sr1 [o1 8 (.mv (.f 129))] (.seq (sr1 [m1 18 1,o1 19 (Jl 18),o1 20 (.call 71 [.t 19,cn 1,cn 5]),o1 21 (Jh 20),m1 22 21,g1 23 22 false (.mv (.t 1)),g1 24 22 false (.call 130 [.t 23,.f
 131]),g1 25 22 false (Jh 24),o1 26 (.pick (.t 22) Jt (.t 25)),m1 27 26,g1 28 27 false (.mv (.t 1)),g1 29 27 false (.mv (.t 8)),g1 30 27 false (J2 132 28 29),g1 31 27 false (Jh 30),o1 32 (.pick (.t 27) Jt (.t 31))] (Ji 32 (sr1 [o1 33 (.build [.pointer
 none,.slice none 0 0] []),Js 4 33 2,Jk 5 61] .ret) .skip)) (sr1 [m1 34 6,m1 35 1,o1 36 (.build [.pointer none,.slice none 0 0] [(0,1,.t 34),(1,1,.t 35)]),Js 4 36 2,Jk 5 0] .ret))))))
def r69:List RV:=[.cell 4 2 true,.tmp 5]
theorem n69:Tryz.f69.ntmps=37:=by kernel_rfl
theorem b69:ZV Tryz.prog 69=true:=by kernel_rfl
theorem Zxx:YA Tryz.prog c69 ((Tryz.f69.body).getD .skip)=true:=by kernel_rfl
theorem Zxk:YQ Tryz.prog r69 Tryz.f69.results.toList=true:=by kernel_rfl
theorem m69 {n0:Nat} {hp0:List (Nat × HB)} {args:List SV} {Zw:Ot->Prop} (hh:hpb n0 hp0) (hx:∀ o,Zw o->KX o.res/\KXP o.hp) (h:sx Tryz.prog Y0 n0 c69 ⟨YD 0 args,hp0,n0,37,[]⟩ (Xs r69 λo=>∃ o',Zw o'/\XV n0 o o')) (hA:Nat.ble args.length 37=true:=by rfl):CtM Tryz.prog 69 hp0 n0 args Zw:=Zv Tryz.func69 rfl b69 Zxx Zxk n69 (Nat.le_of_ble_eq_true hA) hh hx h
def c74:SC:=(sr1 [o1 4 (Jz 1 0 52),o1 6 (.mv (.c (.slice none 0 0)))] (sr1 [o1 7 (.mv (.c (.slice none 0 0)))] (.seq (sr1 [Jk 12 0] (.block 0 (.loop (sr1 [o1 13 (Jc .lss 12 5)] (.seq (Ji 13 .skip (.exit 0)) (.seq (.block 1 (sr1 [m1 14 12,m1 8 14]
 (.seq (.regd (Jr 14) [Jm 15 0,Jm 16 8,Jp 17 (.nilc (.t 15)) [0],Jp 18 (.ixa (.t 17) (.t 16) 5 2) [1,2],Jp 19 (lt 18 2) [3],Jo 20 (ao 4 2),Jp 21 (lf 20 1) [5],Jm 22 8,Jp 23 (Jx 21 22 2) [6,7],Jp 24 (lt 23 2) [8]] 2 2 [o1 9 (.alloc zv0 23),o1 10
 (.alloc zv0 23),Ju 9 19 2 [0,1,2,3,4,10,11],Ju 10 24 2 (Jr 13)]) (.seq (.regd (Jr 16) [Jm 25 0,Jm 26 8,Jo 27 (ao 9 0),Jp 28 (lf 27 1) [2],Jo 29 (ao 10 0),Jp 30 (lf 29 1) [4],Jp 31 (J2 137 28 30) [3,5],Jo 32 (ao 9 1),Jp 33 (lf 32 1) [7],Jo 34 (ao 10
 1),Jp 35 (lf 34 1) [9],Jp 36 (J2 137 33 35) [6,8,10],Jp 37 (.build zv0 [(0,1,.t 31),(1,1,.t 36)]) [6,11],Jp 38 (.nilc (.t 25)) [0],Jp 39 (.ixa (.t 38) (.t 26) 5 2) (Jr 14)] 0 1 [Ju 39 37 2 [0,1,2,3,4,5,6,7,8,9,10,11,12,14]]) (.seq (.regd (Jr 19) [Jo
 40 (ao 9 0),Jp 41 (lf 40 1) [0],Jo 42 (ao 9 0),Jp 43 (lf 42 1) [2],Jo 44 (ao 10 1),Jp 45 (lf 44 1) [4],Jp 46 (J2 137 43 45) [3,5],Jp 47 (Jb .sub 41 46) [1,6],Jo 48 (ao 9 1),Jp 49 (lf 48 1) [8],Jo 50 (ao 9 1),Jp 51 (lf 50 1) [10],Jo 52 (ao 10 0),Jp 53
 (lf 52 1) [12],Jp 54 (J2 137 51 53) [6,11,13],Jp 55 (Jb .sub 49 54) [9,14],Jp 56 (.build zv0 [(0,1,.t 47),(1,1,.t 55)]) [7,15]] 1 1 [o1 11 (.alloc zv0 23),Ju 11 56 2 (Jr 18)]) (sr1 [o1 57 (ao 11 1),o1 58 (lf 57 1),o1 59 (Jc .gtr 58 0)] (Ji 59 (.reg
 [m1 60 7,m1 61 2,m1 62 8,o1 63 (lt 11 2),o1 64 (.build zv7 [(0,1,.t 61),(1,1,.t 62),(2,2,.t 63)]),o1 65 (.bsl 4 63 [.t 64]),o1 66 (.app 4 32 63 (.t 60) (.t 65)),m1 7 66]) .skip))))))) (.reg [o1 67 (Jc .add 12 1),m1 12 67]))))))) (sr1 [m1 68 7,m1 6
 68] .ret))))
def r74:List RV:=[.tmp 6]
theorem n74:Tryz.f74.ntmps=69:=by kernel_rfl
theorem b74:ZV Tryz.prog 74=true:=by kernel_rfl
theorem Zyz:YA Tryz.prog c74 ((Tryz.f74.body).getD .skip)=true:=by kernel_rfl
theorem Zxq:YQ Tryz.prog r74 Tryz.f74.results.toList=true:=by kernel_rfl
theorem m74 {n0:Nat} {hp0:List (Nat × HB)} {args:List SV} {Zw:Ot->Prop} (hh:hpb n0 hp0) (hx:∀ o,Zw o->KX o.res/\KXP o.hp) (h:sx Tryz.prog Y0 n0 c74 ⟨YD 0 args,hp0,n0,69,[]⟩ (Xs r74 λo=>∃ o',Zw o'/\XV n0 o o')) (hA:Nat.ble args.length 69=true:=by rfl):CtM Tryz.prog 74 hp0 n0 args Zw:=Zv Tryz.func74 rfl b74 Zyz Zxq n74 (Nat.le_of_ble_eq_true hA) hh hx h
def c18:SC:=(sr1 [o1 8 (.mv (.c (.slice none 0 0))),o1 9 (.mv (.c (.slice none 0 0))),Jk 10 0,Jk 11 0] (.gh (sr1 [m1 20 0,m1 21 1,o1 22 (.callm 69 [.t 20,.t 21]),m1 19 22,o1 23 (Je 19 0),o1 24 (Je 19 1),o1 12 (.alloc [.pointer none,.slice none 0 0]
 150),Js 12 23 2,m1 11 24] (.gh (.seq (sr1 [m1 25 11,o1 26 (Jc .neq 25 0)] (.gh (Ji 26 (sr1 [m1 27 11,o1 8 (.mv (.c (.slice none 0 0))),o1 9 (.mv (.c (.slice none 0 0))),Jk 10 0,m1 11 27] (.gh .ret)) .skip))) (sr1 [m1 29 2,o1 30 (J1 70 29),m1 28 30,o1
 31 (Je 28 0),o1 32 (Je 28 1),o1 13 (.alloc zv9 154),Js 13 31 10,m1 14 32] (.gh (.seq (.block 0 (sr1 [m1 34 14,o1 35 (Jh 34),m1 33 35] (.gh (Ji 33 (sr1 [o1 8 (.mv (.c (.slice none 0 0))),o1 9 (.mv (.c (.slice none 0 0))),Jk 10 0,Jk 11 2] (.gh .ret))
 (sr1 [m1 37 3,o1 38 (Jl 37),o1 39 (Jc .gtr 38 60),m1 36 39] (.gh (Ji 36 (sr1 [o1 8 (.mv (.c (.slice none 0 0))),o1 9 (.mv (.c (.slice none 0 0))),Jk 10 0,Jk 11 4] (.gh .ret)) .skip))))))) (sr1 [Jk 15 0] (.gh (.seq (sr1 [m1 40 3,o1 41 (Jl 40),Jk 42 0]
 (.gh (.block 1 (.loop (sr1 [o1 43 (Jb .lss 42 41)] (.gh (.seq (Ji 43 .skip (.exit 1)) (.seq (.block 2 (sr1 [m1 44 42,o1 45 (Jx 40 42 3),o1 46 (lt 45 3),o1 17 (.alloc Zya 158),m1 16 44,Js 17 46 3] (.gh (.seq (.seq (.regd (Jr 24) [Jo 47 (ao 17 0),Jp 48
 (lf 47 1) [0],Jm 49 15,Jm 50 1,Jp 51 (Jl 50) [3],Jp 52 (Jc .sub 51 1) [4],Jp 53 (J3 71 48 49 52) [1,2,5],Jp 54 (Jh 53) [6],Jp 55 (.mv (.t 54)) [6,7],Jq 56 55 false (lt 12 2) [8],Jq 57 55 false (ao 17 0) [8],Jq 58 55 false (lf 57 1) [8,10],Jq 59 55
 false (J2 73 56 58) [8,9,11],Jq 60 55 false (ao 17 1) [8],Jq 61 55 false (lf 60 1) [8,13],Jq 62 55 false (J2 72 59 61) [8,12,14],Jq 63 55 false (Jh 62) [8,15],Jp 64 (.pick (.t 55) Jt (.t 63)) [8,16],Jp 65 (.mv (.t 64)) [15,17],Jq 66 65 false (ao 17
 2) [18],Jq 67 65 false (lf 66 1) [18,19],Jq 68 65 false (.call 71 [.t 67,cn 1,cn 1000000000000000]) [18,20],Jq 69 65 false (Jh 68) [18,21],Jp 70 (.pick (.t 65) Jt (.t 69)) [18,22]] 0 0 []) (.gh (Ji 70 (sr1 [m1 71 16,o1 8 (.mv (.c (.slice none 0
 0))),o1 9 (.mv (.c (.slice none 0 0))),m1 10 71,Jk 11 62] (.gh .ret)) .skip))) (.seq (.block 3 (.loop (.seq (sr1 [m1 72 15,o1 73 (ao 17 0),o1 74 (lf 73 1),o1 75 (Jb .lss 72 74)] (.gh (Ji 75 .skip (.exit 3)))) (.seq (.block 4 (.reg [m1 78 9,m1 79 1,m1
 80 15,o1 81 (Jx 79 80 3),o1 82 (lt 81 3),m1 83 15,o1 84 (.callm 74 [.t 13,.t 82,.t 83]),o1 85 (.app 4 32 63 (.t 78) (.t 84)),m1 9 85])) (.reg [m1 76 15,o1 77 (Jc .add 76 1),m1 15 77]))))) (.gh (.seq (.regd (Jr 9) [Jm 86 0,Jo 87 (ao 17 1),Jp 88 (lf 87
 1) [1],Jp 89 (Jx 86 88 8) [0,2],Jp 90 (lt 89 8) [3],Jo 91 (ao 17 2),Jp 92 (lf 91 1) [5],Jp 93 (J3 75 13 90 92) [4,6],Jp 18 (.mv (.t 93)) (Jr 8)] 0 0 []) (.gh (sr1 [m1 94 18,o1 95 (Jc .neq 94 0)] (.gh (Ji 95 (sr1 [m1 96 16,m1 97 18,o1 8 (.mv (.c
 (.slice none 0 0))),o1 9 (.mv (.c (.slice none 0 0))),m1 10 96,m1 11 97] (.gh .ret)) .skip))))))))))) (.gh (.reg [o1 98 (Jc .add 42 1),m1 42 98])))))))))) (.gh (.seq (.block 5 (.loop (.seq (sr1 [m1 99 15,m1 100 1,o1 101 (Jl 100),o1 102 (Jc .sub 101
 1),o1 103 (Jb .lss 99 102)] (.gh (Ji 103 .skip (.exit 5)))) (.seq (.block 6 (.reg [m1 106 9,m1 107 1,m1 108 15,o1 109 (Jx 107 108 3),o1 110 (lt 109 3),m1 111 15,o1 112 (.callm 74 [.t 13,.t 110,.t 111]),o1 113 (.app 4 32 63 (.t 106) (.t 112)),m1 9
 113])) (.reg [m1 104 15,o1 105 (Jc .add 104 1),m1 15 105]))))) (.gh (sr1 [o1 114 (.raw (Go.Op.slice 154 (Go.Operand.tmp 13) Option.none Option.none Option.none) 50),m1 115 9,m1 8 114,m1 9 115,Jk 10 0,Jk 11 0] (.gh .ret))))))))))))))))
def r18:List RV:=[.tmp 8,.tmp 9,.tmp 10,.tmp 11]
theorem t18:Qt1 Tryz.prog 18 c18 r18 116:=ZL Tryz.func18
def c71:SC:=(sr1 [Jw 6 Jf] (sr1 [m1 7 0,m1 8 1,o1 9 (Jb .geq 7 8),m1 10 9,g1 11 10 true (.mv (.t 0)),g1 12 10 true (.mv (.t 2)),g1 13 10 true (Jb .leq 11 12),o1 14 (.pick (.t 10) (.t 13) Jf),m1 6 14] .ret))
def r71:List RV:=[.tmp 6]
theorem t71:Qt1 Tryz.prog 71 c71 r71 15:=ZL Tryz.func71
def c84:SC:=(sr1 [Jw 2 Jf] (sr1 [m1 3 0,o1 4 (.call 71 [.t 3,cn 0,cn 4]),m1 2 4] .ret))
def r84:List RV:=[.tmp 2]
theorem t84:Qt1 Tryz.prog 84 c84 r84 5:=ZL Tryz.func84
def c182:SC:=(sr1 [o1 3 (Jz 0 0 23),Jw 6 Jf] (sr1 [m1 7 1,o1 8 (ao 3 0),o1 9 (lf 8 1),o1 10 (Jb .leq 7 9),m1 11 10,g1 12 11 true (ao 3 0),g1 13 11 true (lf 12 1),g1 14 11 true (ao 3 1),g1 15 11 true (lf 14 1),g1 16 11 true (Jb .leq 13 15),o1 17 (.pick
 (.t 11) (.t 16) Jf),m1 18 17,g1 19 18 true (ao 3 1),g1 20 18 true (lf 19 1),g1 21 18 true (.mv (.t 2)),g1 22 18 true (Jb .leq 20 21),o1 23 (.pick (.t 18) (.t 22) Jf),m1 6 23] .ret))
def r182:List RV:=[.tmp 6]
theorem t182:Qt1 Tryz.prog 182 c182 r182 24:=ZL Tryz.func182
def c181:SC:=(sr1 [o1 1 (Jz 0 0 23),Jw 2 Jf] (sr1 [o1 3 (lt 1 2),o1 4 (.call 182 [.t 3,cn 0,cn 1000]),m1 2 4] .ret))
def r181:List RV:=[.tmp 2]
theorem t181:Qt1 Tryz.prog 181 c181 r181 5:=ZL Tryz.func181
def c220:SC:=(sr1 [o1 2 (Jz 0 0 23),Jw 3 Jf] (sr1 [o1 4 (lf 1 1),o1 5 (lt 2 2),o1 6 (.calv (.t 4) [.t 5]),o1 7 (Jh 6),m1 3 7] .ret))
def r220:List RV:=[.tmp 3]
theorem t220:Qt1 Tryz.prog 220 c220 r220 8:=ZL Tryz.func220
def c183:SC:=(sr1 [o1 3 (Jz 1 0 280),Jw 4 Jf] (sr1 [m1 5 0,o1 6 (.mkf 220 [.t 3]),o1 7 (J2 173 5 6),o1 8 (Jh 7),m1 4 8] .ret))
def r183:List RV:=[.tmp 4]
theorem t183:Qt1 Tryz.prog 183 c183 r183 9:=ZL Tryz.func183
def c131:SC:=(sr1 [o1 1 (Jz 0 0 52),Jw 2 Jf] (sr1 [o1 3 (.mv (.f 181))] (sr1 [o1 4 (ao 1 0),o1 5 (lf 4 1),o1 6 (.call 71 [.t 5,cn 0,cn 9999]),m1 7 6,g1 8 7 true (ao 1 1),g1 9 7 true (lf 8 1),g1 10 7 true (.call 71 [.t 9,cn 0,cn 100000]),o1 11 (.pick
 (.t 7) (.t 10) Jf),m1 12 11,g1 13 12 true (ao 1 2),g1 14 12 true (lf 13 1),g1 15 12 true (Jl 14),g1 16 12 true (Jc .eql 15 5),o1 17 (.pick (.t 12) (.t 16) Jf),m1 18 17,g1 19 18 true (ao 1 2),g1 20 18 true (lf 19 1),g1 21 18 true (.mv (.t 3)),g1 22 18
 true (J2 183 20 21),o1 23 (.pick (.t 18) (.t 22) Jf),m1 2 23] .ret)))
def r131:List RV:=[.tmp 2]
theorem t131:Qt1 Tryz.prog 131 c131 r131 24:=ZL Tryz.func131
def c219:SC:=(sr1 [Jk 4 0] (.seq (sr1 [m1 6 0,o1 7 (Jl 6),Jk 8 0] (.block 0 (.loop (sr1 [o1 9 (Jb .lss 8 7)] (.seq (Ji 9 .skip (.exit 0)) (.seq (.block 1 (sr1 [m1 10 8,m1 5 10] (sr1 [m1 11 1,m1 12 0,m1 13 5,o1 14 (Jx 12 13 3),o1 15 (lt 14 3),o1 16
 (.calv (.t 11) [.t 15])] (Ji 16 (sr1 [m1 17 5,m1 4 17] .ret) .skip)))) (.reg [o1 18 (Jc .add 8 1),m1 8 18]))))))) (sr1 [o1 4 (.mv (cn (-1)))] .ret)))
def r219:List RV:=[.tmp 4]
theorem t219:Qt1 Tryz.prog 219 c219 r219 19:=ZL Tryz.func219
def c179:SC:=(sr1 [Jw 4 Jf] (sr1 [m1 5 0,m1 6 1,o1 7 (J2 219 5 6),o1 8 (Jc .geq 7 0),m1 4 8] .ret))
def r179:List RV:=[.tmp 4]
theorem t179:Qt1 Tryz.prog 179 c179 r179 9:=ZL Tryz.func179
def c180:SC:=(sr1 [o1 2 (Jz 0 0 52),Jw 3 Jf] (sr1 [o1 4 (lf 1 1),o1 5 (lt 2 3),o1 6 (.calv (.t 4) [.t 5]),o1 7 (Jh 6),m1 3 7] .ret))
def r180:List RV:=[.tmp 3]
theorem t180:Qt1 Tryz.prog 180 c180 r180 8:=ZL Tryz.func180
def c130:SC:=(sr1 [o1 3 (Jz 1 0 228),Jw 4 Jf] (sr1 [m1 5 0,o1 6 (.mkf 180 [.t 3]),o1 7 (J2 179 5 6),o1 8 (Jh 7),m1 4 8] .ret))
def r130:List RV:=[.tmp 4]
theorem t130:Qt1 Tryz.prog 130 c130 r130 9:=ZL Tryz.func130
def c129:SC:=(sr1 [o1 2 (Jz 0 0 52),o1 3 (Jz 1 0 52),Jk 4 0] (sr1 [o1 5 (ao 2 1),o1 6 (lf 5 1),o1 7 (ao 3 1),o1 8 (lf 7 1),o1 9 (Jb .sub 6 8),m1 4 9] .ret))
def r129:List RV:=[.tmp 4]
theorem t129:Qt1 Tryz.prog 129 c129 r129 10:=ZL Tryz.func129
def c132:SC:=(sr1 [Jw 4 Jf] (.seq (sr1 [m1 6 0,o1 7 (Jl 6),o1 8 (Jc .sub 7 1),m1 5 8] (.block 0 (.loop (.seq (sr1 [m1 9 5,o1 10 (Jc .gtr 9 0)] (Ji 10 .skip (.exit 0))) (.seq (.block 1 (.seq (.regd (Jr 12) [Jm 13 1,Jm 14 0,Jm 15 5,Jp 16 (Jx 14 15 3)
 [1,2],Jp 17 (lt 16 3) [3],Jm 18 0,Jm 19 5,Jp 20 (Jc .sub 19 1) [6],Jp 21 (Jx 18 20 3) [5,7],Jp 22 (lt 21 3) [8],Jp 23 (.calv (.t 13) [.t 17,.t 22]) [0,4,9],Jp 24 (Jc .lss 23 0) [10]] 0 0 []) (Ji 24 (sr1 [Jw 4 Jf] .ret) .skip))) (.reg [m1 11 5,o1 12
 (Jc .sub 11 1),m1 5 12])))))) (sr1 [Jw 4 Jt] .ret)))
def r132:List RV:=[.tmp 4]
theorem t132:Qt1 Tryz.prog 132 c132 r132 25:=ZL Tryz.func132
def c251:SC:=(sr1 [Jk 4 0] (.seq (sr1 [m1 6 0,o1 7 (Jl 6),Jk 8 0] (.block 0 (.loop (sr1 [o1 9 (Jb .lss 8 7)] (.seq (Ji 9 .skip (.exit 0)) (.seq (.block 1 (sr1 [m1 10 8,m1 5 10] (sr1 [m1 11 1,m1 12 0,m1 13 5,o1 14 (Jx 12 13 8),o1 15 (lt 14 8),o1 16
 (.calv (.t 11) [.t 15])] (Ji 16 (sr1 [m1 17 5,m1 4 17] .ret) .skip)))) (.reg [o1 18 (Jc .add 8 1),m1 8 18]))))))) (sr1 [o1 4 (.mv (cn (-1)))] .ret)))
def r251:List RV:=[.tmp 4]
theorem t251:Qt1 Tryz.prog 251 c251 r251 19:=ZL Tryz.func251
def c217:SC:=(sr1 [Jw 4 Jf] (sr1 [m1 5 0,m1 6 1,o1 7 (J2 251 5 6),o1 8 (Jc .geq 7 0),m1 4 8] .ret))
def r217:List RV:=[.tmp 4]
theorem t217:Qt1 Tryz.prog 217 c217 r217 9:=ZL Tryz.func217
def c218:SC:=(sr1 [o1 2 (Jz 0 0 84),Jw 3 Jf] (sr1 [o1 4 (lf 1 1),o1 5 (lt 2 8),o1 6 (.calv (.t 4) [.t 5]),o1 7 (Jh 6),m1 3 7] .ret))
def r218:List RV:=[.tmp 3]
theorem t218:Qt1 Tryz.prog 218 c218 r218 8:=ZL Tryz.func218
def c178:SC:=(sr1 [o1 1 (Jz 0 0 84),Jw 2 Jf] (sr1 [o1 3 (ao 1 0),o1 4 (lf 3 1),o1 5 (.call 71 [.t 4,cn 0,cn 9999]),m1 6 5,g1 7 6 true (ao 1 1),g1 8 6 true (lf 7 1),g1 9 6 true (J1 84 8),o1 10 (.pick (.t 6) (.t 9) Jf),m1 11 10,g1 12 11 true (ao 1 2),g1
 13 11 true (lf 12 1),g1 14 11 true (J1 84 13),o1 15 (.pick (.t 11) (.t 14) Jf),m1 16 15,g1 17 16 true (ao 1 1),g1 18 16 true (lf 17 1),g1 19 16 true (ao 1 2),g1 20 16 true (lf 19 1),g1 21 16 true (Jb .neq 18 20),o1 22 (.pick (.t 16) (.t 21) Jf),m1 23
 22,g1 24 23 true (ao 1 3),g1 25 23 true (lf 24 1),g1 26 23 true (.call 71 [.t 25,cn 1,cn 50]),o1 27 (.pick (.t 23) (.t 26) Jf),m1 28 27,g1 29 28 true (ao 1 4),g1 30 28 true (lt 29 2),g1 31 28 true (.call 182 [.t 30,cn 1,cn 50]),o1 32 (.pick (.t 28)
 (.t 31) Jf),m1 33 32,g1 34 33 true (ao 1 6),g1 35 33 true (lf 34 1),g1 36 33 true (ao 1 7),g1 37 33 true (lf 36 1),g1 38 33 true (.build zv0 [(0,1,.t 35),(1,1,.t 37)]),g1 39 33 true (.call 182 [.t 38,cn 0,cn 100000]),o1 40 (.pick (.t 33) (.t 39)
 Jf),m1 2 40] .ret))
def r178:List RV:=[.tmp 2]
theorem t178:Qt1 Tryz.prog 178 c178 r178 41:=ZL Tryz.func178
def c177:SC:=(sr1 [o1 3 (Jz 1 0 284),Jw 4 Jf] (sr1 [m1 5 0,o1 6 (.mkf 218 [.t 3]),o1 7 (J2 217 5 6),o1 8 (Jh 7),m1 4 8] .ret))
def r177:List RV:=[.tmp 4]
theorem t177:Qt1 Tryz.prog 177 c177 r177 9:=ZL Tryz.func177
def c134:SC:=(sr1 [Jw 2 Jf] (sr1 [m1 3 0,o1 4 (.call 71 [.t 3,cn 0,cn 1000000]),m1 2 4] .ret))
def r134:List RV:=[.tmp 2]
theorem t134:Qt1 Tryz.prog 134 c134 r134 5:=ZL Tryz.func134
def c184:SC:=(sr1 [Jw 3 Jf] (sr1 [o1 4 (lf 1 1),m1 5 0,o1 6 (.calv (.t 4) [.t 5]),o1 7 (Jh 6),m1 3 7] .ret))
def r184:List RV:=[.tmp 3]
theorem t184:Qt1 Tryz.prog 184 c184 r184 8:=ZL Tryz.func184
def c133:SC:=(sr1 [o1 3 (Jz 1 0 132),Jw 4 Jf] (sr1 [m1 5 0,o1 6 (.mkf 184 [.t 3]),o1 7 (J2 140 5 6),o1 8 (Jh 7),m1 4 8] .ret))
def r133:List RV:=[.tmp 4]
theorem t133:Qt1 Tryz.prog 133 c133 r133 9:=ZL Tryz.func133
def c70:SC:=(sr1 [o1 2 (.alloc zv9 154),Jw 3 Jf] (.seq (sr1 [m1 6 0,o1 7 (Jl 6),o1 8 (Jc .neq 7 5),m1 9 8,g1 10 9 false (.mv (.t 0)),g1 11 9 false (.call 133 [.t 10,.f 134]),g1 12 9 false (Jh 11),o1 13 (.pick (.t 9) Jt (.t 12))] (Ji 13 (sr1 [o1 14 (lt
 2 10),Js 2 14 10,Jw 3 Jf] .ret) .skip)) (.seq (sr1 [m1 15 0,o1 16 (Jl 15),Jk 17 0] (.block 0 (.loop (sr1 [o1 18 (Jb .lss 17 16)] (.seq (Ji 18 .skip (.exit 0)) (.seq (.block 1 (sr1 [m1 19 17,o1 20 (Jx 15 17 1),o1 21 (lf 20 1),m1 4 19,m1 5 21] (.reg
 [m1 22 4,m1 23 5,m1 24 5,o1 25 (.build zv0 [(0,1,.t 23),(1,1,.t 24)]),o1 26 (.ixa (.t 2) (.t 22) 5 2),Js 26 25 2]))) (.reg [o1 27 (Jc .add 17 1),m1 17 27]))))))) (sr1 [o1 28 (lt 2 10),Js 2 28 10,Jw 3 Jt] .ret))))
def r70:List RV:=[.cell 2 10 true,.tmp 3]
theorem t70:Qt1 Tryz.prog 70 c70 r70 29:=ZL Tryz.func70
def c137:SC:=(sr1 [Jk 4 0] (sr1 [m1 5 0,m1 6 1,o1 7 (Jb .mul 5 6),o1 8 (.div .quo (.t 7) (cn 1000)),m1 4 8] .ret))
def r137:List RV:=[.tmp 4]
theorem t137:Qt1 Tryz.prog 137 c137 r137 9:=ZL Tryz.func137
def c19:SC:=(sr1 [o1 2 (Jz 0 0 23),o1 3 (Jz 1 0 23),Jw 4 Jf] (sr1 [o1 5 (ao 2 0),o1 6 (lf 5 1),o1 7 (ao 3 0),o1 8 (lf 7 1),o1 9 (Jb .geq 6 8),m1 10 9,g1 11 10 true (ao 2 1),g1 12 10 true (lf 11 1),g1 13 10 true (ao 3 1),g1 14 10 true (lf 13 1),g1 15
 10 true (Jb .leq 12 14),o1 16 (.pick (.t 10) (.t 15) Jf),m1 4 16] .ret))
def r19:List RV:=[.tmp 4]
theorem t19:Qt1 Tryz.prog 19 c19 r19 17:=ZL Tryz.func19
def c32:SC:=(sr1 [Jw 4 Jf] (.seq (sr1 [m1 6 0,o1 7 (Jl 6),m1 8 1,o1 9 (Jl 8),o1 10 (Jb .neq 7 9)] (Ji 10 (sr1 [Jw 4 Jf] .ret) .skip)) (.seq (sr1 [Jk 5 0] (.block 0 (.loop (.seq (sr1 [m1 11 5,m1 12 0,o1 13 (Jl 12),o1 14 (Jb .lss 11 13)] (Ji 14 .skip
 (.exit 0))) (.seq (.block 1 (.seq (.regd (Jr 9) [Jm 17 0,Jm 18 5,Jp 19 (Jx 17 18 1) [0,1],Jp 20 (lf 19 1) [2],Jm 21 1,Jm 22 5,Jp 23 (Jx 21 22 1) [4,5],Jp 24 (lf 23 1) [6],Jp 25 (Jb .neq 20 24) [3,7]] 0 0 []) (Ji 25 (sr1 [Jw 4 Jf] .ret) .skip))) (.reg
 [m1 15 5,o1 16 (Jc .add 15 1),m1 5 16])))))) (sr1 [Jw 4 Jt] .ret))))
def r32:List RV:=[.tmp 4]
theorem t32:Qt1 Tryz.prog 32 c32 r32 26:=ZL Tryz.func32
def c64:SC:=(sr1 [o1 0 (.mv (.c (.slice none 0 0)))] (sr1 [o1 2 (.call 17 [cn 900,cn 950]),o1 3 (.build zv0 []),o1 4 (.build zv0 []),o1 5 (.build zv0 []),o1 6 (.build zv0 []),o1 7 (.bsl 2 23 [.t 2,.t 3,.t 4,.t 5,.t 6]),m1 1 7] (sr1 [m1 8 1,o1 9
 (.build zv14 [(0,1,.c (.int .i64 1)),(1,1,.c (.int .i64 3)),(2,1,.t 8)]),m1 10 1,o1 11 (.build zv14 [(0,1,.c (.int .i64 1)),(1,1,.c (.int .i64 5)),(2,1,.t 10)]),o1 12 (.bsl 3 52 [.t 9,.t 11]),m1 0 12] .ret)))
def r64:List RV:=[.tmp 0]
theorem t64:Qt1 Tryz.prog 64 c64 r64 13:=ZL Tryz.func64
def c102:SC:=(sr1 [o1 4 (Jz 0 0 68),o1 8 (.alloc zv0 23),Jk 9 0,Jk 10 0] (.seq (sr1 [o1 20 (lt 4 2),o1 21 (J1 138 20),m1 11 21] (.block 0 (sr1 [m1 23 11,o1 24 (Jc .neq 23 0),m1 22 24] (Ji 22 (sr1 [o1 25 (lt 8 2),m1 26 11,Js 8 25 2,Jk 9 0,m1 10 26]
 .ret) (sr1 [o1 28 (ao 4 0),o1 29 (lf 28 1),o1 30 (Jl 29),o1 31 (Jc .sub 30 1),m1 32 1,o1 33 (.bsl 1 3 [.t 32]),o1 34 (.call 79 [cn 0,.t 31,.t 33]),o1 35 (Jh 34),m1 36 35,g1 37 36 false (.mv (.t 3)),g1 38 36 false (.bsl 1 3 [.t 37]),g1 39 36 false
 (.call 79 [cn 0,cn 100000,.t 38]),g1 40 36 false (Jh 39),o1 41 (.pick (.t 36) Jt (.t 40)),m1 27 41] (Ji 27 (sr1 [o1 42 (lt 8 2),Js 8 42 2,Jk 9 0,Jk 10 2] .ret) (sr1 [m1 44 2,o1 45 (Jl 44),o1 46 (Jc .gtr 45 200),m1 43 46] (Ji 43 (sr1 [o1 47 (lt 8
 2),Js 8 47 2,Jk 9 0,Jk 10 4] .ret) .skip)))))))) (sr1 [Jk 12 0] (.seq (sr1 [m1 48 2,o1 49 (Jl 48),Jk 50 0] (.block 1 (.loop (sr1 [o1 51 (Jb .lss 50 49)] (.seq (Ji 51 .skip (.exit 1)) (.seq (.block 2 (sr1 [o1 52 (Jx 48 50 3),o1 53 (lt 52 3),o1 14
 (.alloc Zya 206),Js 14 53 3] (.seq (sr1 [o1 54 (ao 4 0),o1 55 (lf 54 1),o1 56 (Jl 55),o1 57 (Jc .sub 56 1),o1 58 (ao 14 0),o1 59 (lf 58 1),o1 60 (.bsl 1 3 [.t 59]),o1 61 (.call 79 [cn 0,.t 57,.t 60]),o1 62 (Jh 61),m1 63 62,g1 64 63 false (.mv (.t
 12)),g1 65 63 false (ao 14 1),g1 66 63 false (lf 65 1),g1 67 63 false (.bsl 1 3 [.t 66]),g1 68 63 false (.call 79 [.t 64,cn 100000,.t 67]),g1 69 63 false (Jh 68),o1 70 (.pick (.t 63) Jt (.t 69)),m1 71 70,g1 72 71 false (ao 14 2),g1 73 71 false (lf 72
 1),g1 74 71 false (.bsl 1 3 [.t 73]),g1 75 71 false (.call 79 [cn 0,cn 1000000000,.t 74]),g1 76 71 false (Jh 75),o1 77 (.pick (.t 71) Jt (.t 76))] (Ji 77 (sr1 [o1 78 (lt 8 2),Js 8 78 2,Jk 9 0,Jk 10 32] .ret) .skip)) (.reg [o1 79 (ao 14 1),o1 80 (lf
 79 1),m1 12 80])))) (.reg [o1 81 (Jc .add 50 1),m1 50 81]))))))) (sr1 [o1 82 (ao 4 0),o1 83 (lf 82 1),m1 84 1,o1 85 (Jx 83 84 9),o1 86 (lt 85 9),o1 15 (.alloc zv10 264),Js 15 86 9] (sr1 [o1 87 (ao 15 6),o1 88 (lt 87 2),o1 16 (.alloc zv0 23),Js 16 88
 2,o1 17 (.mv (cn (-1)))] (.seq (sr1 [m1 89 2,o1 90 (Jl 89),Jk 91 0] (.block 3 (.loop (sr1 [o1 92 (Jb .lss 91 90)] (.seq (Ji 92 .skip (.exit 3)) (.seq (.block 4 (sr1 [m1 93 91,o1 94 (Jx 89 91 3),o1 95 (lt 94 3),o1 19 (.alloc Zya 206),m1 18 93,Js 19 95
 3] (.seq (sr1 [o1 96 (ao 19 0),o1 97 (lf 96 1),m1 98 1,o1 99 (Jb .neq 97 98),m1 100 99,g1 101 100 false (ao 19 1),g1 102 100 false (lf 101 1),g1 103 100 false (.mv (.t 3)),g1 104 100 false (Jb .geq 102 103),o1 105 (.pick (.t 100) Jt (.t 104))] (Ji
 105 (.exit 4) .skip)) (sr1 [o1 106 (lt 15 9),o1 107 (lt 16 2),o1 108 (ao 19 1),o1 109 (lf 108 1),m1 110 17,o1 111 (Jb .sub 109 110),o1 112 (J3 162 106 107 111),Js 16 112 2] (sr1 [o1 113 (ao 19 1),o1 114 (lf 113 1),m1 17 114] (.seq (sr1 [o1 115 (ao 16
 1),o1 116 (lf 115 1),o1 117 (ao 19 2),o1 118 (lf 117 1),o1 119 (Jb .lss 116 118)] (Ji 119 (sr1 [o1 120 (lt 8 2),m1 121 18,Js 8 120 2,m1 9 121,Jk 10 33] .ret) .skip)) (.reg [o1 122 (ao 16 0),o1 123 (lf 122 1),o1 124 (ao 19 2),o1 125 (lf 124 1),o1 126
 (Jb .sub 123 125),o1 127 (.mm true [cn 0,.t 126]),o1 128 (ao 16 1),o1 129 (lf 128 1),o1 130 (ao 19 2),o1 131 (lf 130 1),o1 132 (Jb .sub 129 131),o1 133 (.build zv0 [(0,1,.t 127),(1,1,.t 132)]),Js 16 133 2]))))))) (.reg [o1 134 (Jc .add 91 1),m1 91
 134]))))))) (sr1 [o1 135 (lt 15 9),o1 136 (lt 16 2),m1 137 3,o1 138 (Jc .sub 137 1),m1 139 17,o1 140 (Jb .sub 138 139),o1 141 (J3 162 135 136 140),Js 8 141 2,Jk 9 0,Jk 10 0] .ret))))))))
def r102:List RV:=[.cell 8 2 true,.tmp 9,.tmp 10]
theorem t102:Qt1 Tryz.prog 102 c102 r102 142:=ZL Tryz.func102
def c138:SC:=(sr1 [o1 1 (Jz 0 0 68),Jk 2 0] (sr1 [o1 5 (ao 1 0),o1 6 (lf 5 1),o1 7 (.call 185 [.t 6,.f 186]),o1 8 (Jh 7),m1 3 8] (sr1 [o1 9 (ao 1 1),o1 10 (lf 9 1),o1 11 (.mkf 189 [.t 1]),o1 12 (J2 188 10 11),o1 13 (Jh 12),m1 4 13] (.seq (sr1 [o1 14
 (ao 1 0),o1 15 (lf 14 1),o1 16 (Jl 15),o1 17 (.bsl 1 3 [.t 16]),o1 18 (.call 79 [cn 1,cn 12,.t 17]),o1 19 (Jh 18),m1 20 19,g1 21 20 false (ao 1 1),g1 22 20 false (lf 21 1),g1 23 20 false (Jl 22),g1 24 20 false (Jc .gtr 23 24),o1 25 (.pick (.t 20) Jt
 (.t 24)),m1 26 25,g1 27 26 false (.mv (.t 3)),g1 28 26 false (Jh 27),o1 29 (.pick (.t 26) Jt (.t 28)),m1 30 29,g1 31 30 false (.mv (.t 4)),g1 32 30 false (Jh 31),o1 33 (.pick (.t 30) Jt (.t 32))] (Ji 33 (sr1 [Jk 2 30] .ret) .skip)) (sr1 [Jk 2 0]
 .ret)))))
def r138:List RV:=[.tmp 2]
theorem t138:Qt1 Tryz.prog 138 c138 r138 34:=ZL Tryz.func138
def c79:SC:=(sr1 [o1 3 (Jz 0 0 3),o1 4 (Jz 1 0 3),Jw 6 Jf] (sr1 [m1 7 2,o1 8 (.mkf 141 [.t 3,.t 4]),o1 9 (J2 140 7 8),o1 10 (Jh 9),m1 6 10] .ret))
def r79:List RV:=[.tmp 6]
theorem t79:Qt1 Tryz.prog 79 c79 r79 11:=ZL Tryz.func79
def c162:SC:=(sr1 [o1 3 (Jz 0 0 264),o1 4 (Jz 1 0 23),o1 6 (.alloc zv0 23)] (sr1 [o1 7 (ao 3 5),o1 8 (lf 7 1),o1 9 (ao 4 0),o1 10 (lf 9 1),m1 11 2,o1 12 (ao 3 3),o1 13 (ao 12 0),o1 14 (lf 13 1),o1 15 (Jb .mul 11 14),o1 16 (Jb .add 10 15),o1 17 (.mm
 false [.t 8,.t 16]),o1 18 (ao 3 5),o1 19 (lf 18 1),o1 20 (ao 4 1),o1 21 (lf 20 1),m1 22 2,o1 23 (ao 3 3),o1 24 (ao 23 1),o1 25 (lf 24 1),o1 26 (Jb .mul 22 25),o1 27 (Jb .add 21 26),o1 28 (.mm false [.t 19,.t 27]),o1 29 (.build zv0 [(0,1,.t
 17),(1,1,.t 28)]),Js 6 29 2] .ret))
def r162:List RV:=[.cell 6 2 true]
theorem t162:Qt1 Tryz.prog 162 c162 r162 30:=ZL Tryz.func162
def c185:SC:=(sr1 [Jw 4 Jf] (sr1 [m1 5 0,m1 6 1,o1 7 (J2 221 5 6),o1 8 (Jc .geq 7 0),m1 4 8] .ret))
def r185:List RV:=[.tmp 4]
theorem t185:Qt1 Tryz.prog 185 c185 r185 9:=ZL Tryz.func185
def c186:SC:=(sr1 [o1 1 (Jz 0 0 264),Jw 2 Jf] (sr1 [o1 3 (lt 1 9),o1 4 (J1 187 3),o1 5 (Jh 4),m1 2 5] .ret))
def r186:List RV:=[.tmp 2]
theorem t186:Qt1 Tryz.prog 186 c186 r186 6:=ZL Tryz.func186
def c187:SC:=(sr1 [o1 1 (Jz 0 0 264),Jw 2 Jf] (sr1 [o1 3 (ao 1 0),o1 4 (lf 3 1),o1 5 (ao 1 1),o1 6 (lf 5 1),o1 7 (.bsl 1 3 [.t 4,.t 6]),o1 8 (.call 79 [.c (.int .i64 (-10000000)),cn 10000000,.t 7]),m1 9 8,g1 10 9 true (ao 1 2),g1 11 9 true (lf 10
 1),g1 12 9 true (.bsl 1 3 [.t 11]),g1 13 9 true (.call 79 [cn 0,cn 200,.t 12]),o1 14 (.pick (.t 9) (.t 13) Jf),m1 15 14,g1 16 15 true (ao 1 3),g1 17 15 true (lt 16 2),g1 18 15 true (.bsl 2 23 [.t 17]),g1 19 15 true (.call 139 [cn 0,cn 10000000,.t
 18]),o1 20 (.pick (.t 15) (.t 19) Jf),m1 21 20,g1 22 21 true (ao 1 5),g1 23 21 true (lf 22 1),g1 24 21 true (.bsl 1 3 [.t 23]),g1 25 21 true (.call 79 [cn 0,cn 1000000000,.t 24]),o1 26 (.pick (.t 21) (.t 25) Jf),m1 27 26,g1 28 27 true (ao 1 5),g1 29
 27 true (lf 28 1),g1 30 27 true (ao 1 6),g1 31 27 true (lt 30 2),g1 32 27 true (.bsl 2 23 [.t 31]),g1 33 27 true (.call 139 [cn 0,.t 29,.t 32]),o1 34 (.pick (.t 27) (.t 33) Jf),m1 35 34,g1 36 35 true (ao 1 8),g1 37 35 true (lf 36 1),g1 38 35 true
 (.bsl 1 3 [.t 37]),g1 39 35 true (.call 79 [cn 0,cn 9999,.t 38]),o1 40 (.pick (.t 35) (.t 39) Jf),m1 2 40] .ret))
def r187:List RV:=[.tmp 2]
theorem t187:Qt1 Tryz.prog 187 c187 r187 41:=ZL Tryz.func187
def c188:SC:=(sr1 [Jw 4 Jf] (sr1 [m1 5 0,m1 6 1,o1 7 (J2 222 5 6),o1 8 (Jc .geq 7 0),m1 4 8] .ret))
def r188:List RV:=[.tmp 4]
theorem t188:Qt1 Tryz.prog 188 c188 r188 9:=ZL Tryz.func188
def c189:SC:=(sr1 [o1 2 (Jz 0 0 165),Jw 3 Jf] (sr1 [o1 4 (lt 2 5),o1 5 (ao 1 0),o1 6 (lf 5 1),o1 7 (Jl 6),o1 8 (J2 190 4 7),o1 9 (Jh 8),m1 3 9] .ret))
def r189:List RV:=[.tmp 3]
theorem t189:Qt1 Tryz.prog 189 c189 r189 10:=ZL Tryz.func189
def c190:SC:=(sr1 [o1 2 (Jz 0 0 165),Jw 4 Jf] (.seq (sr1 [m1 8 1,o1 9 (Jc .sub 8 1),o1 10 (ao 2 0),o1 11 (lf 10 1),o1 12 (ao 2 1),o1 13 (lf 12 1),o1 14 (.bsl 1 3 [.t 11,.t 13]),o1 15 (.call 79 [cn 0,.t 9,.t 14]),o1 16 (Jh 15),m1 17 16,g1 18 17 false
 (ao 2 0),g1 19 17 false (lf 18 1),g1 20 17 false (ao 2 1),g1 21 17 false (lf 20 1),g1 22 17 false (Jb .eql 19 21),o1 23 (.pick (.t 17) Jt (.t 22)),m1 24 23,g1 25 24 false (ao 2 2),g1 26 24 false (lt 25 2),g1 27 24 false (.bsl 2 23 [.t 26]),g1 28 24
 false (.call 139 [cn 1,cn 1000000,.t 27]),g1 29 24 false (Jh 28),o1 30 (.pick (.t 24) Jt (.t 29)),m1 31 30,g1 32 31 false (ao 2 4),g1 33 31 false (lf 32 1),g1 34 31 false (Jl 33),g1 35 31 false (Jc .gtr 34 6),o1 36 (.pick (.t 31) Jt (.t 35))] (Ji 36
 (sr1 [Jw 4 Jf] .ret) .skip)) (sr1 [Jk 5 0] (.seq (sr1 [o1 37 (ao 2 4),o1 38 (lf 37 1),o1 39 (Jl 38),Jk 40 0] (.block 0 (.loop (sr1 [o1 41 (Jb .lss 40 39)] (.seq (Ji 41 .skip (.exit 0)) (.seq (.block 1 (sr1 [o1 42 (Jx 38 40 4),o1 43 (lt 42 4),o1 7
 (.alloc zv7 240),Js 7 43 4] (.seq (sr1 [o1 44 (ao 7 0),o1 45 (lt 44 2),o1 46 (ao 7 2),o1 47 (lt 46 2),o1 48 (.bsl 2 23 [.t 45,.t 47]),o1 49 (.call 139 [cn 0,cn 100000,.t 48]),o1 50 (Jh 49),m1 51 50,g1 52 51 false (.mv (.t 5)),g1 53 51 false (ao 7
 2),g1 54 51 false (ao 53 1),g1 55 51 false (lf 54 1),g1 56 51 false (ao 7 0),g1 57 51 false (ao 56 0),g1 58 51 false (lf 57 1),g1 59 51 false (.bsl 1 3 [.t 58]),g1 60 51 false (J3 79 52 55 59),g1 61 51 false (Jh 60),o1 62 (.pick (.t 51) Jt (.t 61))]
 (Ji 62 (sr1 [Jw 4 Jf] .ret) .skip)) (.reg [o1 63 (ao 7 2),o1 64 (ao 63 1),o1 65 (lf 64 1),o1 66 (Jc .add 65 1),m1 5 66])))) (.reg [o1 67 (Jc .add 40 1),m1 40 67]))))))) (sr1 [Jw 4 Jt] .ret)))))
def r190:List RV:=[.tmp 4]
theorem t190:Qt1 Tryz.prog 190 c190 r190 68:=ZL Tryz.func190
def c140:SC:=(sr1 [Jw 4 Jf] (sr1 [m1 5 0,m1 6 1,o1 7 (J2 192 5 6),o1 8 (Jc .geq 7 0),m1 4 8] .ret))
def r140:List RV:=[.tmp 4]
theorem t140:Qt1 Tryz.prog 140 c140 r140 9:=ZL Tryz.func140
def c141:SC:=(sr1 [Jw 4 Jf] (sr1 [m1 5 0,o1 6 (lf 1 1),o1 7 (Jb .lss 5 6),m1 8 7,g1 9 8 false (.mv (.t 0)),g1 10 8 false (lf 2 1),g1 11 8 false (Jb .gtr 9 10),o1 12 (.pick (.t 8) Jt (.t 11)),m1 4 12] .ret))
def r141:List RV:=[.tmp 4]
theorem t141:Qt1 Tryz.prog 141 c141 r141 13:=ZL Tryz.func141
def c139:SC:=(sr1 [o1 3 (Jz 0 0 3),o1 4 (Jz 1 0 3),Jw 6 Jf] (sr1 [m1 7 2,o1 8 (.mkf 191 [.t 3,.t 4]),o1 9 (J2 173 7 8),o1 10 (Jh 9),m1 6 10] .ret))
def r139:List RV:=[.tmp 6]
theorem t139:Qt1 Tryz.prog 139 c139 r139 11:=ZL Tryz.func139
def c221:SC:=(sr1 [Jk 4 0] (.seq (sr1 [m1 6 0,o1 7 (Jl 6),Jk 8 0] (.block 0 (.loop (sr1 [o1 9 (Jb .lss 8 7)] (.seq (Ji 9 .skip (.exit 0)) (.seq (.block 1 (sr1 [m1 10 8,m1 5 10] (sr1 [m1 11 1,m1 12 0,m1 13 5,o1 14 (Jx 12 13 9),o1 15 (lt 14 9),o1 16
 (.calv (.t 11) [.t 15])] (Ji 16 (sr1 [m1 17 5,m1 4 17] .ret) .skip)))) (.reg [o1 18 (Jc .add 8 1),m1 8 18]))))))) (sr1 [o1 4 (.mv (cn (-1)))] .ret)))
def r221:List RV:=[.tmp 4]
theorem t221:Qt1 Tryz.prog 221 c221 r221 19:=ZL Tryz.func221
def c222:SC:=(sr1 [Jk 4 0] (.seq (sr1 [m1 6 0,o1 7 (Jl 6),Jk 8 0] (.block 0 (.loop (sr1 [o1 9 (Jb .lss 8 7)] (.seq (Ji 9 .skip (.exit 0)) (.seq (.block 1 (sr1 [m1 10 8,m1 5 10] (sr1 [m1 11 1,m1 12 0,m1 13 5,o1 14 (Jx 12 13 5),o1 15 (lt 14 5),o1 16
 (.calv (.t 11) [.t 15])] (Ji 16 (sr1 [m1 17 5,m1 4 17] .ret) .skip)))) (.reg [o1 18 (Jc .add 8 1),m1 8 18]))))))) (sr1 [o1 4 (.mv (cn (-1)))] .ret)))
def r222:List RV:=[.tmp 4]
theorem t222:Qt1 Tryz.prog 222 c222 r222 19:=ZL Tryz.func222
def c192:SC:=(sr1 [Jk 4 0] (.seq (sr1 [m1 6 0,o1 7 (Jl 6),Jk 8 0] (.block 0 (.loop (sr1 [o1 9 (Jb .lss 8 7)] (.seq (Ji 9 .skip (.exit 0)) (.seq (.block 1 (sr1 [m1 10 8,m1 5 10] (sr1 [m1 11 1,m1 12 0,m1 13 5,o1 14 (Jx 12 13 1),o1 15 (lf 14 1),o1 16
 (.calv (.t 11) [.t 15])] (Ji 16 (sr1 [m1 17 5,m1 4 17] .ret) .skip)))) (.reg [o1 18 (Jc .add 8 1),m1 8 18]))))))) (sr1 [o1 4 (.mv (cn (-1)))] .ret)))
def r192:List RV:=[.tmp 4]
theorem t192:Qt1 Tryz.prog 192 c192 r192 19:=ZL Tryz.func192
def c173:SC:=(sr1 [Jw 4 Jf] (sr1 [m1 5 0,m1 6 1,o1 7 (J2 216 5 6),o1 8 (Jc .geq 7 0),m1 4 8] .ret))
def r173:List RV:=[.tmp 4]
theorem t173:Qt1 Tryz.prog 173 c173 r173 9:=ZL Tryz.func173
def c191:SC:=(sr1 [o1 3 (Jz 0 0 23),Jw 4 Jf] (sr1 [o1 5 (ao 3 0),o1 6 (lf 5 1),o1 7 (ao 3 1),o1 8 (lf 7 1),o1 9 (Jb .gtr 6 8),m1 10 9,g1 11 10 false (lf 1 1),g1 12 10 false (lf 2 1),g1 13 10 false (ao 3 0),g1 14 10 false (lf 13 1),g1 15 10 false (ao 3
 1),g1 16 10 false (lf 15 1),g1 17 10 false (.bsl 1 3 [.t 14,.t 16]),g1 18 10 false (J3 79 11 12 17),g1 19 10 false (Jh 18),o1 20 (.pick (.t 10) Jt (.t 19)),m1 4 20] .ret))
def r191:List RV:=[.tmp 4]
theorem t191:Qt1 Tryz.prog 191 c191 r191 21:=ZL Tryz.func191
def c216:SC:=(sr1 [Jk 4 0] (.seq (sr1 [m1 6 0,o1 7 (Jl 6),Jk 8 0] (.block 0 (.loop (sr1 [o1 9 (Jb .lss 8 7)] (.seq (Ji 9 .skip (.exit 0)) (.seq (.block 1 (sr1 [m1 10 8,m1 5 10] (sr1 [m1 11 1,m1 12 0,m1 13 5,o1 14 (Jx 12 13 2),o1 15 (lt 14 2),o1 16
 (.calv (.t 11) [.t 15])] (Ji 16 (sr1 [m1 17 5,m1 4 17] .ret) .skip)))) (.reg [o1 18 (Jc .add 8 1),m1 8 18]))))))) (sr1 [o1 4 (.mv (cn (-1)))] .ret)))
def r216:List RV:=[.tmp 4]
theorem t216:Qt1 Tryz.prog 216 c216 r216 19:=ZL Tryz.func216
end Go.Proofs.YtkpkgafhfakpdaaGreatDoor
namespace Go.Azalai
structure Span where
 lo:Int
 hi:Int
deriving DecidableEq
structure Well where
 x:Int
 y:Int
 depth:Int
 yld:Span
 room:Int
 has:Span
 owner:Int
deriving DecidableEq
structure Gate where
 opens:Span
 shuts:Span
deriving DecidableEq
structure Leg where
 a:Int
 b:Int
 long:Span
 gates:List Gate
deriving DecidableEq
structure Land where
 wells:List Well
 legs:List Leg
deriving DecidableEq
structure Draw where
 well:Int
 day:Int
 water:Int
deriving DecidableEq
def inR (lo hi n:Int):Bool:=decide (lo<=n/\n<=hi)
def Z8 (lo hi:Int) (s:Span):Bool:=decide (lo<=s.lo/\s.lo<=s.hi/\s.hi<=hi)
def XX (w:Well):Bool :=
 inR (-10000000) 10000000 w.x && inR (-10000000) 10000000 w.y && inR 0 200 w.depth && Z8 0 10000000 w.yld && inR 0 1000000000 w.room && Z8 0 w.room w.has && inR 0 9999 w.owner
def Wz (next:Int):List Gate->Bool
 | []=>true
 | g :: r=>Z8 0 100000 g.opens && Z8 0 100000 g.shuts && inR next g.shuts.hi g.opens.lo && Wz (g.shuts.hi+1) r
def ZbL (n:Int) (x:Leg):Bool :=
 inR 0 (n - 1) x.a && inR 0 (n - 1) x.b && x.a != x.b && Z8 1 1000000 x.long && decide (x.gates.length<=6) && Wz 0 x.gates
def Zag (l:Land):Bool :=
 inR 1 12 l.wells.length && decide (l.legs.length<=24) && l.wells.all XX && l.legs.all (ZbL l.wells.length)
def Yv {α : Type} (g:α->Bool):List α->Nat->Int
 | [],_=>-1
 | x :: l,k=>if g x then k else Yv g l (k+1)
theorem ZdG {α : Type} (g:α->Bool):∀ (l:List α) (k:Nat),decide (Yv g l k ≥ 0)=l.any g
 | [],k=>by simp [Yv]
 | x :: l,k=>by
  simp only [Yv,List.any_cons];by_cases hg:g x=true
  . simp [hg]
  . simpa [hg] using ZdG g l (k+1)
def Wp (w:Well) (has:Span) (days:Int):Span:=⟨min w.room (has.lo+days * w.yld.lo),min w.room (has.hi+days * w.yld.hi)⟩
def Wf (n last:Int):List Draw->Bool
 | []=>true
 | x :: r=>inR 0 (n - 1) x.well && inR last 100000 x.day && inR 0 1000000000 x.water && Wf n x.day r
def Ut (w:Well) (well day:Int) (now:Span) (evening:Int) (i:Nat):List Draw->Span × Int × Int
 | []=>(Wp w now (day - 1 - evening),0,0)
 | x :: r =>
  if (x.well != well || decide (x.day ≥ day))=true then Ut w well day now evening (i+1) r
  else
   let f:=Wp w now (x.day - evening)
   if f.hi < x.water then (⟨0,0⟩,i,33) else Ut w well day ⟨max 0 (f.lo - x.water),f.hi - x.water⟩ x.day (i+1) r
def Uv (l:Land) (well:Int) (draws:List Draw) (day:Int):Span × Int × Int :=
 if Zag l=false then (⟨0,0⟩,0,30)
 else if (inR 0 (l.wells.length - 1) well && inR 0 100000 day)=false then (⟨0,0⟩,0,2)
 else if draws.length > 200 then (⟨0,0⟩,0,4)
 else if Wf l.wells.length 0 draws=false then (⟨0,0⟩,0,32)
 else match l.wells[well.toNat]? with
  | some w=>Ut w well day w.has (-1) 0 draws
  | none=>(⟨0,0⟩,0,0)
def Zmv (l:Land):Prop:=l.wells.length<=1000/\l.legs.length<=1000/\∀ x ∈ l.legs,x.gates.length<=1000
theorem Zed {l:Land} (h:Zag l=true):∀ w ∈ l.wells,XX w=true:=by
 simp only [Zag,Bool.and_eq_true,List.all_eq_true] at h;exact h.1.2
theorem Zab {n:Int}:∀ {l:List Draw} {last:Int},Wf n last l=true->0<=last->∀ x ∈ l,0<=x.day/\x.day<=100000/\0<=x.water/\x.water<=1000000000
 | [],_,_,_,x,h=>by simp at h
 | y :: l,last,h,h0,x,hx=>by
  simp only [Wf,Bool.and_eq_true,inR,decide_eq_true_eq] at h;rcases List.mem_cons.1 hx with rfl | hx
  . omega
  . exact Zab h.2 (by omega) x hx
end Go.Azalai
namespace Go.Proofs.YtkpkgafhfakpdaaGreatDoor
open Go Go.Sx Go.Azalai
def Zk (n:Int):List SV:=[I n]
def Zh (s:Span):List SV:=[I s.lo,I s.hi]
def YU (g:Gate):List SV:=[I g.opens.lo,I g.opens.hi,I g.shuts.lo,I g.shuts.hi]
def Yp (w:Well):List SV:=[I w.x,I w.y,I w.depth,I w.yld.lo,I w.yld.hi,I w.room,I w.has.lo,I w.has.hi,I w.owner]
def W4 (x:Leg):List SV:=[I x.a,I x.b,I x.long.lo,I x.long.hi,.sl false 4 (x.gates.map YU)]
def VV (l:Land):List SV:=[.sl false 9 (l.wells.map Yp),.sl false 5 (l.legs.map W4)]
def VF (d:Draw):List SV:=[I d.well,I d.day,I d.water]
theorem YR {α : Type} (g:α->Bool) (l:List α):decide (Yv g l 0 ≥ 0)=l.any g:=ZdG g l 0
theorem ZiZ (h:Nat) (caps:List SV) (hk:KFL caps) (g:Int->Bool) (l:List Int) (hg:∀ x ∈ l,Ct Tryz.prog h (I x :: caps) (B (g x))) (hl:l.length < 4611686018427387904) {c:Bool} :
 Ct Tryz.prog 192 [.sl c 1 (l.map Zk),.cl h caps] (I (Yv g l 0)):=by
 refine t192.1 ⟨by simp [KF,Za,KFL,Zk],hk,trivial⟩ (by simp [KF]) ?_;dsimp only [c192,r192,go_sem];refine Yb (λk:Nat=>[(8,I k)]) (λ_=>[]) (λk=>k<=l.length/\Yv g (l.drop k) k=Yv g l 0) (λk=>l.length - k) 0 ⟨Nat.zero_le _,rfl⟩ ?_ ?_
 . (refine Zi ?_ ?_ ?_ rfl rfl<;>dsimp only [Zk,hk,id,go_sem]<;>simp [Zk,hk,Za])
 . intro k ⟨hk',hi⟩;dsimp only [go_sem];refine br ?_ ?_
   . intro hlt;have hlt:k < l.length:=by simpa using hlt
     dsimp only [go_sem];refine Zx k hlt rfl ?_;dsimp only [Zk,go_sem];refine call (hg l[k] (List.getElem_mem _)) ?_;dsimp only [go_sem];refine br ?_ ?_
     . intro hgx;dsimp only [go_sem];rw [<- hi,List.drop_eq_getElem_cons hlt];simp [Yv,hgx]
     . intro hgx;dsimp only [go_sem];refine ⟨k+1,⟨by omega,?_⟩,by omega,?_⟩
       . rw [<- hi,List.drop_eq_getElem_cons hlt];simp [Yv,hgx]
       . rw [Zf (by omega) (by omega)];(refine Zi ?_ ?_ ?_ rfl rfl<;>dsimp only [Zk,hk,id,go_sem]<;>simp [Zk,hk,Za])
   . intro hlt;have hlt:k=l.length:=by simp at hlt;omega
     dsimp only [go_sem];rw [<- hi,hlt];simp [Yv]
theorem Zno (h:Nat) (caps:List SV) (hk:KFL caps) (g:Int->Bool) (l:List Int) (hg:∀ x ∈ l,Ct Tryz.prog h (I x :: caps) (B (g x))) (hl:l.length < 4611686018427387904) {c:Bool} :
 Ct Tryz.prog 140 [.sl c 1 (l.map Zk),.cl h caps] (B (l.any g)):=by
 refine t140.1 ⟨by simp [KF,Za,KFL,Zk],hk,trivial⟩ (by simp [KF]) ?_;dsimp only [c140,r140,go_sem];refine call (ZiZ h caps hk g l hg hl) ?_;dsimp only [go_sem];rw [YR]
theorem idx95 (h:Nat) (caps:List SV) (hk:KFL caps) (g:Well->Bool) (l:List Well) (hg:∀ x ∈ l,Ct Tryz.prog h (.agg (Yp x) :: caps) (B (g x))) (hl:l.length < 4611686018427387904) {c:Bool} :
 Ct Tryz.prog 221 [.sl c 9 (l.map Yp),.cl h caps] (I (Yv g l 0)):=by
 refine t221.1 ⟨by simp [KF,Za,KFL,Yp],hk,trivial⟩ (by simp [KF]) ?_;dsimp only [c221,r221,go_sem];refine Yb (λk:Nat=>[(8,I k)]) (λ_=>[]) (λk=>k<=l.length/\Yv g (l.drop k) k=Yv g l 0) (λk=>l.length - k) 0 ⟨Nat.zero_le _,rfl⟩ ?_ ?_
 . (refine Zi ?_ ?_ ?_ rfl rfl<;>dsimp only [Yp,hk,id,go_sem]<;>simp [Yp,hk,Za])
 . intro k ⟨hk',hi⟩;dsimp only [go_sem];refine br ?_ ?_
   . intro hlt;have hlt:k < l.length:=by simpa using hlt
     dsimp only [go_sem];refine Zx k hlt rfl ?_;dsimp only [Yp,go_sem];refine call (hg l[k] (List.getElem_mem _)) ?_;dsimp only [go_sem];refine br ?_ ?_
     . intro hgx;dsimp only [go_sem];rw [<- hi,List.drop_eq_getElem_cons hlt];simp [Yv,hgx]
     . intro hgx;dsimp only [go_sem];refine ⟨k+1,⟨by omega,?_⟩,by omega,?_⟩
       . rw [<- hi,List.drop_eq_getElem_cons hlt];simp [Yv,hgx]
       . rw [Zf (by omega) (by omega)];(refine Zi ?_ ?_ ?_ rfl rfl<;>dsimp only [Yp,hk,id,go_sem]<;>simp [Yp,hk,Za])
   . intro hlt;have hlt:k=l.length:=by simp at hlt;omega
     dsimp only [go_sem];rw [<- hi,hlt];simp [Yv]
theorem con71 (h:Nat) (caps:List SV) (hk:KFL caps) (g:Well->Bool) (l:List Well) (hg:∀ x ∈ l,Ct Tryz.prog h (.agg (Yp x) :: caps) (B (g x))) (hl:l.length < 4611686018427387904) {c:Bool} :
 Ct Tryz.prog 185 [.sl c 9 (l.map Yp),.cl h caps] (B (l.any g)):=by
 refine t185.1 ⟨by simp [KF,Za,KFL,Yp],hk,trivial⟩ (by simp [KF]) ?_;dsimp only [c185,r185,go_sem];refine call (idx95 h caps hk g l hg hl) ?_;dsimp only [go_sem];rw [YR]
theorem idx96 (h:Nat) (caps:List SV) (hk:KFL caps) (g:Leg->Bool) (l:List Leg) (hg:∀ x ∈ l,Ct Tryz.prog h (.agg (W4 x) :: caps) (B (g x))) (hl:l.length < 4611686018427387904) {c:Bool} :
 Ct Tryz.prog 222 [.sl c 5 (l.map W4),.cl h caps] (I (Yv g l 0)):=by
 refine t222.1 ⟨by simp [KF,Za,KFL,W4,YU],hk,trivial⟩ (by simp [KF]) ?_;dsimp only [c222,r222,go_sem];refine Yb (λk:Nat=>[(8,I k)]) (λ_=>[]) (λk=>k<=l.length/\Yv g (l.drop k) k=Yv g l 0) (λk=>l.length - k) 0 ⟨Nat.zero_le _,rfl⟩ ?_ ?_
 . (refine Zi ?_ ?_ ?_ rfl rfl<;>dsimp only [W4,YU,hk,id,go_sem]<;>simp [W4,YU,hk,Za])
 . intro k ⟨hk',hi⟩;dsimp only [go_sem];refine br ?_ ?_
   . intro hlt;have hlt:k < l.length:=by simpa using hlt
     dsimp only [go_sem];refine Zx k hlt rfl ?_;dsimp only [W4,go_sem];refine call (hg l[k] (List.getElem_mem _)) ?_;dsimp only [go_sem];refine br ?_ ?_
     . intro hgx;dsimp only [go_sem];rw [<- hi,List.drop_eq_getElem_cons hlt];simp [Yv,hgx]
     . intro hgx;dsimp only [go_sem];refine ⟨k+1,⟨by omega,?_⟩,by omega,?_⟩
       . rw [<- hi,List.drop_eq_getElem_cons hlt];simp [Yv,hgx]
       . rw [Zf (by omega) (by omega)];(refine Zi ?_ ?_ ?_ rfl rfl<;>dsimp only [W4,YU,hk,id,go_sem]<;>simp [W4,YU,hk,Za])
   . intro hlt;have hlt:k=l.length:=by simp at hlt;omega
     dsimp only [go_sem];rw [<- hi,hlt];simp [Yv]
theorem con74 (h:Nat) (caps:List SV) (hk:KFL caps) (g:Leg->Bool) (l:List Leg) (hg:∀ x ∈ l,Ct Tryz.prog h (.agg (W4 x) :: caps) (B (g x))) (hl:l.length < 4611686018427387904) {c:Bool} :
 Ct Tryz.prog 188 [.sl c 5 (l.map W4),.cl h caps] (B (l.any g)):=by
 refine t188.1 ⟨by simp [KF,Za,KFL,W4,YU],hk,trivial⟩ (by simp [KF]) ?_;dsimp only [c188,r188,go_sem];refine call (idx96 h caps hk g l hg hl) ?_;dsimp only [go_sem];rw [YR]
theorem Zzr (h:Nat) (caps:List SV) (hk:KFL caps) (g:Span->Bool) (l:List Span) (hg:∀ x ∈ l,Ct Tryz.prog h (.agg (Zh x) :: caps) (B (g x))) (hl:l.length < 4611686018427387904) {c:Bool} :
 Ct Tryz.prog 216 [.sl c 2 (l.map Zh),.cl h caps] (I (Yv g l 0)):=by
 refine t216.1 ⟨by simp [KF,Za,KFL,Zh],hk,trivial⟩ (by simp [KF]) ?_;dsimp only [c216,r216,go_sem];refine Yb (λk:Nat=>[(8,I k)]) (λ_=>[]) (λk=>k<=l.length/\Yv g (l.drop k) k=Yv g l 0) (λk=>l.length - k) 0 ⟨Nat.zero_le _,rfl⟩ ?_ ?_
 . (refine Zi ?_ ?_ ?_ rfl rfl<;>dsimp only [Zh,hk,id,go_sem]<;>simp [Zh,hk,Za])
 . intro k ⟨hk',hi⟩;dsimp only [go_sem];refine br ?_ ?_
   . intro hlt;have hlt:k < l.length:=by simpa using hlt
     dsimp only [go_sem];refine Zx k hlt rfl ?_;dsimp only [Zh,go_sem];refine call (hg l[k] (List.getElem_mem _)) ?_;dsimp only [go_sem];refine br ?_ ?_
     . intro hgx;dsimp only [go_sem];rw [<- hi,List.drop_eq_getElem_cons hlt];simp [Yv,hgx]
     . intro hgx;dsimp only [go_sem];refine ⟨k+1,⟨by omega,?_⟩,by omega,?_⟩
       . rw [<- hi,List.drop_eq_getElem_cons hlt];simp [Yv,hgx]
       . rw [Zf (by omega) (by omega)];(refine Zi ?_ ?_ ?_ rfl rfl<;>dsimp only [Zh,hk,id,go_sem]<;>simp [Zh,hk,Za])
   . intro hlt;have hlt:k=l.length:=by simp at hlt;omega
     dsimp only [go_sem];rw [<- hi,hlt];simp [Yv]
theorem Zri (h:Nat) (caps:List SV) (hk:KFL caps) (g:Span->Bool) (l:List Span) (hg:∀ x ∈ l,Ct Tryz.prog h (.agg (Zh x) :: caps) (B (g x))) (hl:l.length < 4611686018427387904) {c:Bool} :
 Ct Tryz.prog 173 [.sl c 2 (l.map Zh),.cl h caps] (B (l.any g)):=by
 refine t173.1 ⟨by simp [KF,Za,KFL,Zh],hk,trivial⟩ (by simp [KF]) ?_;dsimp only [c173,r173,go_sem];refine call (Zzr h caps hk g l hg hl) ?_;dsimp only [go_sem];rw [YR]
theorem ZbX (lo hi x:Int):Ct Tryz.prog 141 [I x,.ps [I lo] 0,.ps [I hi] 0] (B (!inR lo hi x)):=by
 refine t141.1 (by simp) (by simp) ?_;dsimp only [c141,r141,go_sem];repeat (refine gb ?_;dsimp only [go_sem])
 (simp only [inR,Option.some.injEq,SV.v.injEq,Value.bool.injEq]<;>grind)
theorem W2 (lo hi:Int) (l:List Int) (hl:l.length < 4611686018427387904) (c:Bool):Ct Tryz.prog 79 [I lo,I hi,.sl c 1 (l.map Zk)] (B (l.all (inR lo hi))):=by
 refine t79.1 (by simp [Za,Zk]) (by simp) ?_;dsimp only [c79,r79,go_sem];refine Xi (by simp [FLT]) (res:=B (l.any λx=>!inR lo hi x)) ?_ ?_
 . dsimp only [go_sem];exact Zno 141 [.ps [I lo] 0,.ps [I hi] 0] (by simp) (λx=>!inR lo hi x) l (λx _=>ZbX lo hi x) hl
 . dsimp only [go_sem];simp [List.all_eq_not_any_not]
theorem Zaq (lo hi a:Int) (c:Bool):Ct Tryz.prog 79 [I lo,I hi,.sl c 1 [[I a]]] (B (inR lo hi a)):=by
 have:=W2 lo hi [a] (by simp) c;simpa [Zk] using this
theorem Zdy (lo hi a b:Int) (c:Bool):Ct Tryz.prog 79 [I lo,I hi,.sl c 1 [[I a],[I b]]] (B (inR lo hi a && inR lo hi b)):=by
 have:=W2 lo hi [a,b] (by simp) c;simpa [Zk] using this
theorem Vh (lo hi:Int) (s:Span):Ct Tryz.prog 191 [.agg (Zh s),.ps [I lo] 0,.ps [I hi] 0] (B (!Z8 lo hi s)):=by
 refine t191.1 (by simp [Zh]) (by simp) ?_;dsimp only [c191,r191,Zh,go_sem];repeat (first | (refine gb ?_;dsimp only [go_sem]) | (refine call (Zdy _ _ _ _ _) ?_;dsimp only [go_sem]))
 (simp only [Z8,inR,Option.some.injEq,SV.v.injEq,Value.bool.injEq]<;>grind)
theorem Y1 (lo hi:Int) (l:List Span) (hl:l.length < 4611686018427387904) (c:Bool):Ct Tryz.prog 139 [I lo,I hi,.sl c 2 (l.map Zh)] (B (l.all (Z8 lo hi))):=by
 refine t139.1 (by simp [Za,Zh]) (by simp) ?_;dsimp only [c139,r139,go_sem];refine Xi (by simp [FLT]) (res:=B (l.any λx=>!Z8 lo hi x)) ?_ ?_
 . dsimp only [go_sem];exact Zri 191 [.ps [I lo] 0,.ps [I hi] 0] (by simp) (λx=>!Z8 lo hi x) l (λx _=>Vh lo hi x) hl
 . dsimp only [go_sem];simp [List.all_eq_not_any_not]
theorem Y5 (lo hi:Int) (s:Span) (c:Bool):Ct Tryz.prog 139 [I lo,I hi,.sl c 2 [[I s.lo,I s.hi]]] (B (Z8 lo hi s)):=by
 have:=Y1 lo hi [s] (by simp) c;simpa [Zh] using this
theorem ZbJ (lo hi:Int) (s t:Span) (c:Bool):Ct Tryz.prog 139 [I lo,I hi,.sl c 2 [[I s.lo,I s.hi],[I t.lo,I t.hi]]] (B (Z8 lo hi s && Z8 lo hi t)):=by
 have:=Y1 lo hi [s,t] (by simp) c;simpa [Zh] using this
theorem Zzh (w:Well):Ct Tryz.prog 187 [.agg (Yp w)] (B (XX w)):=by
 refine t187.1 (by simp [Yp]) (by simp) ?_;dsimp only [c187,r187,Yp,go_sem];repeat (first | (refine gb ?_;dsimp only [go_sem]) | (refine call (Zaq _ _ _ _) ?_;dsimp only [go_sem]) | (refine call (Zdy _ _ _ _ _) ?_;dsimp only [go_sem]) | (refine call (Y5 _ _ w.yld _) ?_;dsimp only [go_sem]) | (refine call (Y5 _ _ w.has _) ?_;dsimp only [go_sem]))
 simp [XX,Bool.and_assoc]
theorem ZfN (x:Leg) (n:Int) (h0:0<=n) (h1:n<=1000) (hg:x.gates.length < 4611686018427387904):Ct Tryz.prog 190 [.agg (W4 x),I n] (B (ZbL n x)):=by
 have hw:IntKind.i64.wrap (n - 1)=n - 1:=Zf (by omega) (by omega);refine t190.1 (by simp [W4,Za,YU]) (by simp) ?_;dsimp only [c190,r190,W4,hw,go_sem];simp only [hw];repeat (first | (refine gb ?_;dsimp only [go_sem]) | (refine call (Zdy _ _ _ _ _) ?_;dsimp only [go_sem]) | (refine call (Y5 _ _ x.long _) ?_;dsimp only [go_sem]))
 simp only [List.length_map];refine br ?_ ?_
 . intro h;dsimp only [go_sem]
   (simp only [ZbL,Option.some.injEq,SV.v.injEq,Value.bool.injEq]<;>grind)
 . intro h;dsimp only [go_sem];have hh:ZbL n x=Wz 0 x.gates:=by simp only [ZbL];grind
   rw [hh];refine Yb (λs:Nat × Int=>[(40,I s.1),(5,I s.2)]) (λ_=>[]) (λs=>s.1<=x.gates.length/\Wz s.2 (x.gates.drop s.1)=Wz 0 x.gates) (λs=>x.gates.length - s.1) (0,0) ⟨Nat.zero_le _,rfl⟩ ?_ ?_
   . (refine Zi ?_ ?_ ?_ rfl rfl<;>dsimp only [YU,id,go_sem]<;>simp [YU,Za])
   . rintro ⟨k,next⟩ ⟨hk,hi⟩;dsimp only [go_sem];refine br ?_ ?_
     . intro hlt;have hlt:k < x.gates.length:=by simpa using hlt
       dsimp only [go_sem];refine Zx k hlt rfl ?_;dsimp only [YU,go_sem];repeat (first | (refine gb ?_;dsimp only [go_sem]) | (refine call (ZbJ _ _ x.gates[k].opens x.gates[k].shuts _) ?_;dsimp only [go_sem]) | (refine call (Zaq _ _ _ _) ?_;dsimp only [go_sem]))
       have hd:x.gates.drop k=x.gates[k] :: x.gates.drop (k+1):=List.drop_eq_getElem_cons hlt;refine br ?_ ?_
       . intro hb;dsimp only [go_sem];rw [<- hi,hd]
         (simp only [Wz,Option.some.injEq,SV.v.injEq,Value.bool.injEq]<;>grind)
       . intro hb;dsimp only [go_sem];have hs:Z8 0 100000 x.gates[k].shuts=true:=by grind
         simp only [Z8,decide_eq_true_eq] at hs;rw [Zf (n:=x.gates[k].shuts.hi+1) (by omega) (by omega),Zf (n:=(k:Int)+1) (by omega) (by omega)];refine ⟨(k+1,x.gates[k].shuts.hi+1),⟨hlt,?_⟩,by simp only;omega,?_⟩
         . rw [<- hi,hd];simp only [Wz];grind
         . (refine Zi ?_ ?_ ?_ rfl rfl<;>dsimp only [YU,id,go_sem]<;>simp [YU,Za])
     . intro hlt;have hlt:k=x.gates.length:=by simp at hlt;omega
       dsimp only [go_sem];rw [<- hi,hlt];simp [Wz]
theorem ZuP (l:Land) (x:Leg) (hs:Zmv l) (hx:x ∈ l.legs):Ct Tryz.prog 189 [.agg (W4 x),.ps (VV l) 0] (B (!ZbL l.wells.length x)):=by
 have hg:=hs.2.2 x hx;refine t189.1 (by simp [W4,VV,Yp,YU,Za]) (by simp) ?_;dsimp only [c189,r189,W4,VV,go_sem];simp only [List.length_map];refine call (ZfN x l.wells.length (by omega) (by have:=hs.1;omega) (by omega)) ?_;dsimp only [go_sem]
theorem ZoD (w:Well):Ct Tryz.prog 186 [.agg (Yp w)] (B (!XX w)):=by
 refine t186.1 (by simp [Yp]) (by simp) ?_;dsimp only [c186,r186,Yp,go_sem];refine call (Zzh w) ?_;dsimp only [go_sem]
theorem Zla (l:Land) (hs:Zmv l):Ct Tryz.prog 138 [.agg (VV l)] (I (if Zag l=true then 0 else 30)):=by
 refine t138.1 (by simp [VV,Yp,W4,YU,Za]) (by simp) ?_;dsimp only [c138,r138,VV,go_sem];refine call (con71 186 [] (by simp [KFL]) (λw=>!XX w) l.wells (λw _=>ZoD w) (by have:=hs.1;omega)) ?_;dsimp only [go_sem];refine Xi (res:=B (l.legs.any λx=>!ZbL l.wells.length x)) (by simp [FLT]) ?_ ?_
 . dsimp only [go_sem];exact con74 189 [.ps (VV l) 0] (by simp [VV,Yp,W4,YU,Za]) (λx=>!ZbL l.wells.length x) l.legs (λx hx=>ZuP l x hs hx) (by have:=hs.2.1;omega)
 dsimp only [go_sem];repeat (first | (refine gb ?_;dsimp only [go_sem]) | (refine call (Zaq _ _ _ _) ?_;dsimp only [go_sem]))
 simp only [List.length_map];have key:Zag l = !(!inR 1 12 l.wells.length || decide ((l.legs.length:Int) > 24) || !(!l.wells.any λw=>!XX w) || !(!l.legs.any λx=>!ZbL l.wells.length x)):=by
  simp only [Zag,List.all_eq_not_any_not];grind
 rw [key];refine br ?_ ?_
 . intro h;dsimp only [go_sem];rw [h];rfl
 . intro h;dsimp only [go_sem];rw [h];rfl
theorem Zeb {w:Well} {s:Span} {n:Int} (hw:XX w=true) (h1:0<=s.lo) (h2:s.lo<=w.room) (h3:0<=s.hi) (h4:s.hi<=w.room) (h5:-200000<=n) (h6:n<=200000) :
 IntKind.i64.wrap (s.lo+IntKind.i64.wrap (n * w.yld.lo))=s.lo+n * w.yld.lo/\IntKind.i64.wrap (s.hi+IntKind.i64.wrap (n * w.yld.hi))=s.hi+n * w.yld.hi:=by
 simp only [XX,Z8,inR,Bool.and_eq_true,decide_eq_true_eq] at hw;have key:∀ y:Int,0<=y->y<=10000000->-2000000000000<=n * y/\n * y<=2000000000000:=λy a b=>by
  constructor
  . have:=Int.mul_le_mul_of_nonneg_right h5 a;omega
  . have:=Int.mul_le_mul_of_nonneg_right h6 a;omega
 have k1:=key w.yld.lo (by omega) (by omega);have k2:=key w.yld.hi (by omega) (by omega);rw [Zf (n:=n * w.yld.lo) (by omega) (by omega),Zf (n:=n * w.yld.hi) (by omega) (by omega),Zf (by omega) (by omega),Zf (by omega) (by omega)];exact ⟨rfl,rfl⟩
theorem Zib {w:Well} {s:Span} {n:Int} (hw:XX w=true) (h1:0<=s.lo) (h2:s.lo<=w.room) (h3:0<=s.hi) (h4:s.hi<=w.room) (h5:-200000<=n) (h6:n<=200000):-2000000000000<=(Wp w s n).lo:=by
 simp only [XX,Z8,inR,Bool.and_eq_true,decide_eq_true_eq] at hw;have k1:-2000000000000<=n * w.yld.lo:=by
  have:=Int.mul_le_mul_of_nonneg_right h5 (show 0<=w.yld.lo by omega);omega
 simp only [Wp];omega
theorem Zc3 (w:Well) (s:Span) (n:Int) (hw:XX w=true) (h1:0<=s.lo) (h2:s.lo<=w.room) (h3:0<=s.hi) (h4:s.hi<=w.room) (h5:-200000<=n) (h6:n<=200000) :
 Ct Tryz.prog 162 [.agg (Yp w),.agg (Zh s),I n] (.agg (Zh (Wp w s n))):=by
 obtain ⟨k1,k2⟩:=Zeb hw h1 h2 h3 h4 h5 h6;refine t162.1 (by simp [Yp,Zh]) (by simp [Zh]) ?_;dsimp only [c162,r162,Yp,Zh,go_sem];simp only [k1,k2,Wp]
def Ztt (r:Span × Int × Int):SV:=.tup [.agg (Zh r.1),I r.2.1,I r.2.2]
theorem Zp4 {l:Land} {well:Int} (h:inR 0 (l.wells.length - 1) well=true):∃ (k:Nat) (hk:k < l.wells.length),well=(k:Int)/\l.wells[well.toNat]? = some l.wells[k]:=by
 simp only [inR,decide_eq_true_eq] at h;refine ⟨well.toNat,by omega,by omega,?_⟩;rw [List.getElem?_eq_getElem (by omega)]
theorem ZlH (l:Land) (hs:Zmv l) (well day:Int) (draws:List Draw) (hd:draws.length<=1000) :
 Ct Tryz.prog 102 [.agg (VV l),I well,.sl false 3 (draws.map VF),I day] (Ztt (Uv l well draws day)):=by
 have hw1:IntKind.i64.wrap ((l.wells.length:Int) - 1)=(l.wells.length:Int) - 1:=Zf (by omega) (by have:=hs.1;omega);refine t102.1 (by simp [VV,Yp,W4,YU,VF,Za]) (by simp [Ztt,Zh]) ?_;dsimp only [c102,r102,VV,go_sem];refine call (Zla l hs) ?_;dsimp only [go_sem];by_cases ho:Zag l=true
 case neg =>
  rw [if_neg ho];refine Zt rfl ?_;dsimp only [go_sem];simp [Uv,ho,Ztt,Zh]
 rw [if_pos ho];refine Zn rfl ?_;dsimp only [go_sem];simp only [List.length_map,hw1];repeat (first | (refine gb ?_;dsimp only [go_sem]) | (refine call (Zaq _ _ _ _) ?_;dsimp only [go_sem]))
 by_cases ha:(inR 0 (l.wells.length - 1) well && inR 0 100000 day)=true
 case neg =>
  refine Zt (by grind) ?_;dsimp only [go_sem];simp [Uv,ho,Ztt,Zh,ha]
 refine Zn (by grind) ?_;dsimp only [go_sem];by_cases hm:draws.length > 200
 case pos =>
  refine Zt (by simp;omega) ?_;dsimp only [go_sem];simp [Uv,ho,Ztt,Zh,ha,hm]
 refine Zn (by simp;omega) ?_;dsimp only [go_sem];refine Yb (λs:Nat × Int=>[(50,I s.1),(12,I s.2)]) (λ_=>[]) (λs=>s.1<=draws.length/\Wf l.wells.length s.2 (draws.drop s.1)=Wf l.wells.length 0 draws) (λs=>draws.length - s.1) (0,0) ⟨Nat.zero_le _,rfl⟩ ?_ ?_
 . (refine Zi ?_ ?_ ?_ rfl rfl<;>dsimp only [YU,Yp,W4,VF,id,go_sem]<;>simp [YU,Yp,W4,VF,Za])
 . rintro ⟨k,last⟩ ⟨hk,hi⟩;simp only at hk hi;dsimp only [go_sem];by_cases hlt:k < draws.length
   . refine Zt (by simpa using hlt) ?_;dsimp only [go_sem];refine Zx k hlt rfl ?_;dsimp only [VF,go_sem];simp only [List.length_map,hw1];repeat (first | (refine gb ?_;dsimp only [go_sem]) | (refine call (Zaq _ _ _ _) ?_;dsimp only [go_sem]))
     have hdr:draws.drop k=draws[k] :: draws.drop (k+1):=List.drop_eq_getElem_cons hlt;rw [hdr] at hi;simp only [Wf] at hi;refine br ?_ ?_
     . intro h;dsimp only [go_sem];have:Wf l.wells.length 0 draws=false:=by rw [<- hi];grind
       simp [Uv,ho,Ztt,Zh,ha,hm,this]
     . intro h;dsimp only [go_sem];rw [Zf (n:=(k:Int)+1) (by omega) (by omega)];refine ⟨(k+1,draws[k].day),⟨hlt,?_⟩,by simp only;omega,?_⟩
       . simp only;grind
       . (refine Zi ?_ ?_ ?_ rfl rfl<;>dsimp only [YU,Yp,W4,VF,id,go_sem]<;>simp [YU,Yp,W4,VF,Za])
   . refine Zn (by simp;omega) ?_;dsimp only [go_sem];have hk':k=draws.length:=by omega
     subst hk';simp only [List.drop_length,Wf] at hi;obtain ⟨kw,hkw,rfl,hget⟩:=Zp4 (Bool.and_eq_true_iff.1 ha).1;refine Zx kw hkw rfl ?_;dsimp only [Yp,go_sem];have hwf:Uv l kw draws day=Ut l.wells[kw] kw day l.wells[kw].has (-1) 0 draws:=by
      simp only [Uv,ho,ha,hm,<- hi,hget];simp
     rw [hwf];have hok:=Zed ho l.wells[kw] (List.getElem_mem _);have hmem:=Zab hi.symm (Int.le_refl _);have hday:0<=day/\day<=100000:=by simp only [inR,Bool.and_eq_true,decide_eq_true_eq] at ha;omega
     have hroom:0<=l.wells[kw].has.lo/\l.wells[kw].has.lo<=l.wells[kw].room/\0<=l.wells[kw].has.hi/\l.wells[kw].has.hi<=l.wells[kw].room/\l.wells[kw].room<=1000000000:=by
      simp only [XX,Z8,inR,Bool.and_eq_true,decide_eq_true_eq] at hok;omega
     have hroom2:∀ x:Int,x<=l.wells[kw].room->x<=1000000000:=λx h=>by omega
     refine Yb (λs:Nat × Span × Int=>[(91,I s.1),(17,I s.2.2)]) (λs=>[(3,.cells (Zh s.2.1) 23)])
      (λs=>s.1<=draws.length/\Ut l.wells[kw] kw day s.2.1 s.2.2 s.1 (draws.drop s.1)=Ut l.wells[kw] kw day l.wells[kw].has (-1) 0 draws /\
       0<=s.2.1.lo/\s.2.1.lo<=l.wells[kw].room/\0<=s.2.1.hi/\s.2.1.hi<=l.wells[kw].room/\-1<=s.2.2/\s.2.2<=100000) (λs=>draws.length - s.1) (0,l.wells[kw].has,-1)
      ⟨Nat.zero_le _,rfl,hroom.1,hroom.2.1,hroom.2.2.1,hroom.2.2.2.1,by simp,by simp⟩ ?_ ?_
     . (refine Zi ?_ ?_ ?_ rfl rfl<;>dsimp only [YU,Yp,W4,VF,Zh,id,go_sem]<;>simp [YU,Yp,W4,VF,Zh,Za])
     . rintro ⟨k,now,ev⟩ ⟨hk2,hi2,n1,n2,n3,n4,e1,e2⟩;simp only at hk2 hi2 n1 n2 n3 n4 e1 e2;dsimp only [Zh,go_sem];by_cases hlt2:k < draws.length
       . refine Zt (by simpa using hlt2) ?_;dsimp only [go_sem];refine Zx k hlt2 rfl ?_;dsimp only [VF,go_sem];repeat (first | (refine gb ?_;dsimp only [go_sem]))
         have hx:=hmem draws[k] (List.getElem_mem _);have hdr:draws.drop k=draws[k] :: draws.drop (k+1):=List.drop_eq_getElem_cons hlt2;rw [hdr] at hi2;simp only [Ut] at hi2;by_cases hc:(draws[k].well != (kw:Int) || decide (draws[k].day ≥ day))=true
         . refine Zt hc ?_;dsimp only [go_sem];rw [if_pos hc] at hi2;rw [Zf (n:=(k:Int)+1) (by omega) (by omega)];refine ⟨(k+1,now,ev),⟨hlt2,hi2,n1,n2,n3,n4,e1,e2⟩,by simp only;omega,?_⟩;(refine Zi ?_ ?_ ?_ rfl rfl<;>dsimp only [YU,Yp,W4,VF,Zh,id,go_sem]<;>simp [YU,Yp,W4,VF,Zh,Za])
         . refine Zn (by simpa using hc) ?_;rw [if_neg hc] at hi2;dsimp only [go_sem];rw [Zf (n:=draws[k].day - ev) (by omega) (by omega)];refine call (Zc3 l.wells[kw] now (draws[k].day - ev) hok n1 n2 n3 n4 (by omega) (by omega)) ?_;dsimp only [Zh,go_sem];have hbig:-2000000000000<=(Wp l.wells[kw] now (draws[k].day - ev)).lo:=Zib hok n1 n2 n3 n4 (by omega) (by omega);have hf2:(Wp l.wells[kw] now (draws[k].day - ev)).hi<=l.wells[kw].room:=by simp only [Wp];omega
           have hf1:(Wp l.wells[kw] now (draws[k].day - ev)).lo<=l.wells[kw].room:=by simp only [Wp];omega
           generalize hF:Wp l.wells[kw] now (draws[k].day - ev)=F at *;by_cases hdry:F.hi < draws[k].water
           . refine Zt (by simpa using hdry) ?_;dsimp only [go_sem];rw [if_pos hdry] at hi2;rw [<- hi2];rfl
           . refine Zn (by simpa using hdry) ?_;dsimp only [go_sem];rw [if_neg hdry] at hi2;rw [Zf (n:=F.lo - draws[k].water) (by omega) (by omega),Zf (n:=F.hi - draws[k].water) (by omega) (by omega),Zf (n:=(k:Int)+1) (by omega) (by omega)];refine ⟨(k+1,⟨max 0 (F.lo - draws[k].water),F.hi - draws[k].water⟩,draws[k].day),⟨hlt2,hi2,by simp only;omega,by simp only;omega,by simp only;omega,by simp only;omega,by simp only;omega,by simp only;omega⟩,by simp only;omega,?_⟩
             (refine Zi ?_ ?_ ?_ rfl rfl<;>dsimp only [YU,Yp,W4,VF,Zh,id,go_sem]<;>simp [YU,Yp,W4,VF,Zh,Za])
       . refine Zn (by simp;omega) ?_;dsimp only [go_sem];rw [Zf (n:=day - 1) (by omega) (by omega),Zf (n:=day - 1 - ev) (by omega) (by omega)];refine call (Zc3 l.wells[kw] now (day - 1 - ev) hok n1 n2 n3 n4 (by omega) (by omega)) ?_;dsimp only [Zh,go_sem];have hk':k=draws.length:=by omega
         subst hk';simp only [List.drop_length,Ut] at hi2;rw [<- hi2];rfl
def c60:SC:=(sr1 [o1 2 (Jz 0 0 25),o1 3 (Jz 1 0 27),o1 4 (.alloc zv0 23),Jk 5 0] (.seq (sr1 [o1 7 (lt 2 17),o1 8 (lt 3 7),o1 9 (J2 62 7 8),m1 6 9] (sr1 [m1 10 6,o1 11 (Jc .neq 10 0)] (Ji 11 (sr1 [o1 12 (.build zv0 []),m1 13 6,Js 4 12 2,m1 5 13] .ret)
 .skip))) (sr1 [o1 14 (lt 2 17),o1 15 (lt 3 7),o1 16 (.build zv1 [(0,17,.t 14),(17,7,.t 15)]),o1 17 (J1 56 16),Js 4 17 2,Jk 5 0] .ret)))
def r60:List RV:=[.cell 4 2 true,.tmp 5]
theorem t60:Qt1 Tryz.prog 60 c60 r60 18:=ZL Tryz.func60
def c118:SC:=(sr1 [o1 1 (Jz 0 0 25),Jk 2 0] (.seq (sr1 [o1 3 (ao 1 0),o1 4 (lf 3 1),o1 5 (ao 1 1),o1 6 (lf 5 1),o1 7 (.bsl 1 3 [.t 4,.t 6]),o1 8 (.call 120 [cn 1,cn 1000000,.t 7]),o1 9 (Jh 8),m1 10 9,g1 11 10 false (ao 1 2),g1 12 10 false (lt 11 2),g1
 13 10 false (ao 1 4),g1 14 10 false (lt 13 2),g1 15 10 false (ao 1 6),g1 16 10 false (lt 15 2),g1 17 10 false (ao 1 8),g1 18 10 false (lt 17 2),g1 19 10 false (ao 1 10),g1 20 10 false (lt 19 2),g1 21 10 false (ao 1 12),g1 22 10 false (lt 21 2),g1 23
 10 false (.bsl 2 23 [.t 12,.t 14,.t 16,.t 18,.t 20,.t 22]),g1 24 10 false (.call 119 [cn 0,cn 100000,.t 23]),g1 25 10 false (Jh 24),o1 26 (.pick (.t 10) Jt (.t 25)),m1 27 26,g1 28 27 false (ao 1 15),g1 29 27 false (lt 28 2),g1 30 27 false (.bsl 2 23
 [.t 29]),g1 31 27 false (.call 119 [cn 0,cn 1000000,.t 30]),g1 32 27 false (Jh 31),o1 33 (.pick (.t 27) Jt (.t 32)),m1 34 33,g1 35 34 false (ao 1 14),g1 36 34 false (lf 35 1),g1 37 34 false (.bsl 1 3 [.t 36]),g1 38 34 false (.call 120 [cn 0,cn
 1000,.t 37]),g1 39 34 false (Jh 38),o1 40 (.pick (.t 34) Jt (.t 39))] (Ji 40 (sr1 [Jk 2 10] .ret) .skip)) (sr1 [Jk 2 0] .ret)))
def r118:List RV:=[.tmp 2]
theorem t118:Qt1 Tryz.prog 118 c118 r118 41:=ZL Tryz.func118
def c62:SC:=(sr1 [o1 2 (Jz 0 0 25),o1 3 (Jz 1 0 27),Jk 4 0] (.seq (sr1 [o1 6 (lt 2 17),o1 7 (J1 118 6),m1 5 7] (sr1 [m1 8 5,o1 9 (Jc .neq 8 0)] (Ji 9 (sr1 [m1 10 5,m1 4 10] .ret) .skip))) (.seq (sr1 [o1 11 (ao 2 0),o1 12 (lf 11 1),o1 13 (ao 3 0),o1 14
 (lt 13 2),o1 15 (.bsl 2 23 [.t 14]),o1 16 (.call 119 [cn 0,.t 12,.t 15]),o1 17 (Jh 16),m1 18 17,g1 19 18 false (ao 2 1),g1 20 18 false (lf 19 1),g1 21 18 false (ao 3 2),g1 22 18 false (lt 21 2),g1 23 18 false (.bsl 2 23 [.t 22]),g1 24 18 false (.call
 119 [cn 0,.t 20,.t 23]),g1 25 18 false (Jh 24),o1 26 (.pick (.t 18) Jt (.t 25)),m1 27 26,g1 28 27 false (ao 3 4),g1 29 27 false (lt 28 2),g1 30 27 false (.bsl 2 23 [.t 29]),g1 31 27 false (.call 119 [cn 0,cn 1000,.t 30]),g1 32 27 false (Jh 31),o1 33
 (.pick (.t 27) Jt (.t 32))] (Ji 33 (sr1 [Jk 4 11] .ret) .skip)) (sr1 [Jk 4 0] .ret))))
def r62:List RV:=[.tmp 4]
theorem t62:Qt1 Tryz.prog 62 c62 r62 34:=ZL Tryz.func62
def c113:SC:=(sr1 [o1 1 (Jz 0 0 128),o1 2 (.alloc zv0 23)] (sr1 [o1 6 (.build zv0 [(0,1,.c (.int .i64 1000)),(1,1,.c (.int .i64 1000))]),o1 3 (.alloc zv0 23),Js 3 6 2] (.seq (.seq (.regd (Jr 22) [Jo 7 (ao 1 17),Jp 8 (ao 7 0) [0],Jp 9 (lt 8 2) [1],Jo
 10 (ao 1 0),Jp 11 (ao 10 0) [3],Jp 12 (lf 11 1) [4],Jo 13 (.bsl 1 3 [cn 2,cn 1000]),Jp 14 (J3 117 9 12 13) [2,5,6],Jo 15 (ao 1 17),Jp 16 (ao 15 2) [8],Jp 17 (lt 16 2) [9],Jo 18 (ao 1 0),Jp 19 (ao 18 1) [11],Jp 20 (lf 19 1) [12],Jo 21 (.bsl 1 3 [cn
 2,cn 1000]),Jp 22 (J3 117 17 20 21) [7,10,13,14],Jo 23 (ao 1 17),Jp 24 (ao 23 4) [16],Jp 25 (lt 24 2) [17],Jp 26 (.call 161 [cn 1000,.t 25]) [15,18],Jp 27 (.build [.int .i64 0,.int .i64 0,.int .i64 0,.int .i64 0,.int .i64 0,.int .i64 0] [(0,2,.t
 14),(2,2,.t 22),(4,2,.t 26)]) [7,15,19],.op (Jk 28 0)] 0 0 []) (.block 0 (.loop (sr1 [o1 29 (Jc .lss 28 3)] (.seq (Ji 29 .skip (.exit 0)) (.seq (.block 1 (sr1 [o1 30 (.idx (.t 27) (.t 28) 3 2 true),o1 5 (.alloc zv0 23),Js 5 30 2] (.reg [o1 31 (ao 3
 0),o1 32 (lf 31 1),o1 33 (ao 5 0),o1 34 (lf 33 1),o1 35 (.mm false [.t 32,.t 34]),o1 36 (ao 3 1),o1 37 (lf 36 1),o1 38 (ao 5 1),o1 39 (lf 38 1),o1 40 (.mm false [.t 37,.t 39]),o1 41 (.build zv0 [(0,1,.t 35),(1,1,.t 40)]),Js 3 41 2]))) (.reg [o1 42
 (Jc .add 28 1),m1 28 42]))))))) (sr1 [o1 43 (lt 3 2),Js 2 43 2] .ret))))
def r113:List RV:=[.cell 2 2 true]
theorem t113:Qt1 Tryz.prog 113 c113 r113 44:=ZL Tryz.func113
def c56:SC:=(sr1 [o1 1 (Jz 0 0 128),o1 2 (.alloc zv0 23)] (sr1 [o1 4 (lt 1 24),o1 5 (J1 113 4),o1 3 (.alloc zv0 23),Js 3 5 2] (.seq (.regd (Jr 18) [Jo 6 (ao 1 0),Jp 7 (ao 6 15) [0],Jp 8 (ao 7 0) [1],Jp 9 (lf 8 1) [2],Jo 10 (ao 3 0),Jp 11 (lf 10 1)
 [4],Jp 12 (Jb .mul 9 11) [3,5],Jp 13 (.div .quo (.t 12) (cn 1000)) [6],Jo 14 (ao 1 0),Jp 15 (ao 14 15) [8],Jp 16 (ao 15 1) [9],Jp 17 (lf 16 1) [10],Jo 18 (ao 3 1),Jp 19 (lf 18 1) [12],Jp 20 (Jb .mul 17 19) [11,13],Jp 21 (.call 114 [.t 20,cn 1000])
 [14],Jp 22 (.build zv0 [(0,1,.t 13),(1,1,.t 21)]) [7,15]] 0 1 [Ju 2 22 2 (Jr 17)]) .ret)))
def r56:List RV:=[.cell 2 2 true]
theorem t56:Qt1 Tryz.prog 56 c56 r56 23:=ZL Tryz.func56
def c63:SC:=(sr1 [Jk 2 0] (.seq (sr1 [m1 5 0,o1 6 (Jl 5),Jk 7 0] (.block 0 (.loop (sr1 [o1 8 (Jb .lss 7 6)] (.seq (Ji 8 .skip (.exit 0)) (.seq (.block 1 (sr1 [o1 9 (Jx 5 7 8),o1 10 (lt 9 8),o1 4 (.alloc zv2 43),Js 4 10 8] (sr1 [o1 11 (ao 4 0),o1 12
 (lf 11 1),o1 13 (.bsl 1 3 [.t 12]),o1 14 (.call 120 [cn 0,cn 24,.t 13]),o1 15 (Jh 14),m1 16 15,g1 17 16 false (ao 4 1),g1 18 16 false (lf 17 1),g1 19 16 false (.bsl 1 3 [.t 18]),g1 20 16 false (.call 120 [cn 0,cn 1000000,.t 19]),g1 21 16 false (Jh
 20),o1 22 (.pick (.t 16) Jt (.t 21)),m1 23 22,g1 24 23 false (ao 4 2),g1 25 23 false (lt 24 2),g1 26 23 false (.bsl 2 23 [.t 25]),g1 27 23 false (.call 119 [cn 0,cn 60,.t 26]),g1 28 23 false (Jh 27),o1 29 (.pick (.t 23) Jt (.t 28)),m1 30 29,g1 31 30
 false (ao 4 4),g1 32 30 false (lt 31 2),g1 33 30 false (ao 4 6),g1 34 30 false (lt 33 2),g1 35 30 false (.bsl 2 23 [.t 32,.t 34]),g1 36 30 false (.call 119 [cn 0,cn 1000000,.t 35]),g1 37 30 false (Jh 36),o1 38 (.pick (.t 30) Jt (.t 37))] (Ji 38 (sr1
 [Jk 2 12] .ret) .skip)))) (.reg [o1 39 (Jc .add 7 1),m1 7 39]))))))) (sr1 [Jk 2 0] .ret)))
def r63:List RV:=[.tmp 2]
theorem t63:Qt1 Tryz.prog 63 c63 r63 40:=ZL Tryz.func63
def c115:SC:=(sr1 [o1 3 (Jz 0 0 25),o1 5 (Jz 2 0 43),o1 6 (.alloc zv7 218)] (sr1 [o1 10 (ao 5 2),o1 11 (ao 10 0),o1 12 (lf 11 1),o1 13 (Jc .sub 12 20),o1 14 (.mm true [cn 0,.t 13]),o1 15 (ao 5 2),o1 16 (ao 15 1),o1 17 (lf 16 1),o1 18 (Jc .sub 17
 20),o1 19 (.mm true [cn 0,.t 18]),o1 20 (.build zv0 [(0,1,.t 14),(1,1,.t 19)]),o1 7 (.alloc zv0 23),Js 7 20 2] (sr1 [o1 21 (ao 5 0),o1 22 (lf 21 1),o1 23 (ao 5 1),o1 24 (lf 23 1),o1 25 (.bin .add (cn 100000) (.t 24)),o1 26 (Jb .mul 22 25),m1 8 26]
 (.seq (.regd (Jr 24) [Jo 27 (ao 3 2),Jp 28 (lt 27 2) [0],Jo 29 (ao 3 4),Jp 30 (ao 29 0) [2],Jp 31 (lf 30 1) [3],Jo 32 (ao 7 0),Jp 33 (lf 32 1) [5],Jp 34 (Jb .mul 31 33) [4,6],Jo 35 (ao 3 4),Jp 36 (ao 35 1) [8],Jp 37 (lf 36 1) [9],Jo 38 (ao 7 1),Jp 39
 (lf 38 1) [11],Jp 40 (Jb .mul 37 39) [10,12],Jp 41 (.build zv0 [(0,1,.t 34),(1,1,.t 40)]) [7,13],Jo 42 (ao 3 6),Jp 43 (lt 42 2) [15],Jm 44 8,Jp 45 (.bsl 1 3 [.t 44]) [17],Jp 46 (.call 117 [.t 43,cn 100000,.t 45]) [16,18],Jp 47 (.bsl 2 23 [.t 28,.t
 41,.t 46]) [1,14,19],Jp 48 (J1 116 47) [19,20]] 1 1 [o1 9 (.alloc zv0 23),Ju 9 48 2 (Jr 23)]) (.seq (sr1 [m1 49 1] (Ji 49 (.reg [o1 50 (lt 9 2),o1 51 (ao 3 12),o1 52 (lt 51 2),o1 53 (.bsl 2 23 [.t 50,.t 52]),o1 54 (J1 116 53),Js 9 54 2]) .skip))
 (.seq (.regd (Jr 8) [Jo 55 (lt 9 2),Jo 56 (ao 3 8),Jp 57 (lt 56 2) [1],Jm 58 8,Jp 59 (.bsl 1 3 [.t 58]) [3],Jp 60 (.call 117 [.t 57,cn 100000,.t 59]) [2,4],Jp 61 (.build zv7 [(0,2,.t 55),(2,2,.t 60)]) [0,5]] 0 1 [Ju 6 61 4 (Jr 7)]) .ret))))))
def r115:List RV:=[.cell 6 4 true]
theorem t115:Qt1 Tryz.prog 115 c115 r115 62:=ZL Tryz.func115
def c120:SC:=(sr1 [o1 3 (Jz 0 0 3),o1 4 (Jz 1 0 3),Jw 6 Jf] (sr1 [m1 7 2,o1 8 (.mkf 175 [.t 3,.t 4]),o1 9 (J2 140 7 8),o1 10 (Jh 9),m1 6 10] .ret))
def r120:List RV:=[.tmp 6]
theorem t120:Qt1 Tryz.prog 120 c120 r120 11:=ZL Tryz.func120
def c119:SC:=(sr1 [o1 3 (Jz 0 0 3),o1 4 (Jz 1 0 3),Jw 6 Jf] (sr1 [m1 7 2,o1 8 (.mkf 174 [.t 3,.t 4]),o1 9 (J2 173 7 8),o1 10 (Jh 9),m1 6 10] .ret))
def r119:List RV:=[.tmp 6]
theorem t119:Qt1 Tryz.prog 119 c119 r119 11:=ZL Tryz.func119
def c116:SC:=(sr1 [o1 2 (.alloc zv0 23)] (sr1 [o1 3 (.alloc zv0 23)] (.seq (sr1 [m1 6 0,o1 7 (Jl 6),Jk 8 0] (.block 0 (.loop (sr1 [o1 9 (Jb .lss 8 7)] (.seq (Ji 9 .skip (.exit 0)) (.seq (.block 1 (sr1 [o1 10 (Jx 6 8 2),o1 11 (lt 10 2),o1 5 (.alloc zv0
 23),Js 5 11 2] (.reg [o1 12 (ao 3 0),o1 13 (lf 12 1),o1 14 (ao 5 0),o1 15 (lf 14 1),o1 16 (Jb .add 13 15),o1 17 (ao 3 1),o1 18 (lf 17 1),o1 19 (ao 5 1),o1 20 (lf 19 1),o1 21 (Jb .add 18 20),o1 22 (.build zv0 [(0,1,.t 16),(1,1,.t 21)]),Js 3 22 2])))
 (.reg [o1 23 (Jc .add 8 1),m1 8 23]))))))) (sr1 [o1 24 (lt 3 2),Js 2 24 2] .ret))))
def r116:List RV:=[.cell 2 2 true]
theorem t116:Qt1 Tryz.prog 116 c116 r116 25:=ZL Tryz.func116
def c161:SC:=(sr1 [o1 3 (Jz 1 0 23),o1 4 (.alloc zv0 23)] (sr1 [m1 5 0,o1 6 (ao 3 1),o1 7 (lf 6 1),o1 8 (Jb .sub 5 7),m1 9 0,o1 10 (ao 3 0),o1 11 (lf 10 1),o1 12 (Jb .sub 9 11),o1 13 (.build zv0 [(0,1,.t 8),(1,1,.t 12)]),Js 4 13 2] .ret))
def r161:List RV:=[.cell 4 2 true]
theorem t161:Qt1 Tryz.prog 161 c161 r161 14:=ZL Tryz.func161
def c117:SC:=(sr1 [o1 3 (Jz 0 0 23),o1 6 (.alloc zv0 23)] (.seq (sr1 [m1 9 2,o1 10 (Jl 9),Jk 11 0] (.block 0 (.loop (sr1 [o1 12 (Jb .lss 11 10)] (.seq (Ji 12 .skip (.exit 0)) (.seq (.block 1 (sr1 [o1 13 (Jx 9 11 1),o1 14 (lf 13 1),m1 8 14] (.reg [o1
 15 (ao 3 0),o1 16 (lf 15 1),m1 17 8,o1 18 (Jb .mul 16 17),o1 19 (ao 3 1),o1 20 (lf 19 1),m1 21 8,o1 22 (Jb .mul 20 21),o1 23 (ao 3 0),Js 23 18 1,o1 24 (ao 3 1),Js 24 22 1]))) (.reg [o1 25 (Jc .add 11 1),m1 11 25]))))))) (.seq (.regd (Jr 10) [Jo 26
 (ao 3 0),Jp 27 (lf 26 1) [0],Jm 28 1,Jp 29 (.div .quo (.t 27) (.t 28)) [1,2],Jo 30 (ao 3 1),Jp 31 (lf 30 1) [4],Jm 32 1,Jp 33 (J2 114 31 32) [5,6],Jp 34 (.build zv0 [(0,1,.t 29),(1,1,.t 33)]) [3,7]] 0 1 [Ju 6 34 2 (Jr 9)]) .ret)))
def r117:List RV:=[.cell 6 2 true]
theorem t117:Qt1 Tryz.prog 117 c117 r117 35:=ZL Tryz.func117
def c114:SC:=(sr1 [Jk 4 0] (sr1 [m1 5 0,m1 6 1,o1 7 (Jb .add 5 6),o1 8 (Jc .sub 7 1),m1 9 1,o1 10 (.div .quo (.t 8) (.t 9)),m1 4 10] .ret))
def r114:List RV:=[.tmp 4]
theorem t114:Qt1 Tryz.prog 114 c114 r114 11:=ZL Tryz.func114
def c175:SC:=(sr1 [Jw 4 Jf] (sr1 [m1 5 0,o1 6 (lf 1 1),o1 7 (Jb .lss 5 6),m1 8 7,g1 9 8 false (.mv (.t 0)),g1 10 8 false (lf 2 1),g1 11 8 false (Jb .gtr 9 10),o1 12 (.pick (.t 8) Jt (.t 11)),m1 4 12] .ret))
def r175:List RV:=[.tmp 4]
theorem t175:Qt1 Tryz.prog 175 c175 r175 13:=ZL Tryz.func175
def c174:SC:=(sr1 [o1 3 (Jz 0 0 23),Jw 4 Jf] (sr1 [o1 5 (ao 3 0),o1 6 (lf 5 1),o1 7 (ao 3 1),o1 8 (lf 7 1),o1 9 (Jb .gtr 6 8),m1 10 9,g1 11 10 false (lf 1 1),g1 12 10 false (lf 2 1),g1 13 10 false (ao 3 0),g1 14 10 false (lf 13 1),g1 15 10 false (ao 3
 1),g1 16 10 false (lf 15 1),g1 17 10 false (.bsl 1 3 [.t 14,.t 16]),g1 18 10 false (J3 120 11 12 17),g1 19 10 false (Jh 18),o1 20 (.pick (.t 10) Jt (.t 19)),m1 4 20] .ret))
def r174:List RV:=[.tmp 4]
theorem t174:Qt1 Tryz.prog 174 c174 r174 21:=ZL Tryz.func174
def c11:SC:=(sr1 [o1 3 (Jz 0 0 25),o1 4 (Jz 1 0 27),o1 5 (Jz 2 0 32),Jk 6 0,Jk 7 0] (.seq (sr1 [o1 10 (lt 3 17),o1 11 (lt 4 7),o1 12 (lf 5 1),o1 13 (J3 54 10 11 12),m1 8 13] (sr1 [m1 14 8,o1 15 (Jc .neq 14 0)] (Ji 15 (sr1 [m1 16 8,Jk 6 0,m1 7 16]
 .ret) .skip))) (sr1 [o1 17 (.mkf 55 [.t 3,.t 4,.t 5]),m1 9 17] (.seq (sr1 [m1 18 9,o1 19 (.calv (.t 18) [cn 0]),o1 20 (Jh 19)] (Ji 20 (sr1 [Jk 6 0,Jk 7 13] .ret) .skip)) (sr1 [m1 21 9,o1 22 (.call 58 [cn 0,cn 1000000,.t 21]),m1 6 22,Jk 7 0] .ret)))))
def r11:List RV:=[.tmp 6,.tmp 7]
theorem t11:Qt1 Tryz.prog 11 c11 r11 23:=ZL Tryz.func11
def c101:SC:=(sr1 [o1 2 (Jz 0 0 25),o1 4 (.alloc zv0 23),Jk 5 0] (.seq (sr1 [o1 11 (lt 2 17),o1 12 (J1 118 11),m1 6 12] (sr1 [m1 13 6,o1 14 (Jc .neq 13 0)] (Ji 14 (sr1 [o1 15 (.build zv0 []),m1 16 6,Js 4 15 2,m1 5 16] .ret) .skip))) (.seq (sr1 [m1 17
 1,o1 18 (Jl 17),o1 19 (Jc .gtr 18 30)] (Ji 19 (sr1 [o1 20 (.build zv0 []),Js 4 20 2,Jk 5 4] .ret) .skip)) (sr1 [o1 7 (.alloc zv0 23)] (.seq (sr1 [m1 21 1,o1 22 (Jl 21),Jk 23 0] (.block 0 (.loop (sr1 [o1 24 (Jb .lss 23 22)] (.seq (Ji 24 .skip (.exit
 0)) (.seq (.block 1 (sr1 [o1 25 (Jx 21 23 7),o1 26 (lt 25 7),o1 9 (.alloc zv4 27),Js 9 26 7] (.seq (sr1 [o1 27 (lt 2 17),o1 28 (lt 9 7),o1 29 (J2 62 27 28),m1 10 29] (sr1 [m1 30 10,o1 31 (Jc .neq 30 0)] (Ji 31 (sr1 [o1 32 (.build zv0 []),m1 33 10,Js
 4 32 2,m1 5 33] .ret) .skip))) (.regd (Jr 9) [Jo 34 (lt 7 2),Jo 35 (ao 2 0),Jp 36 (lf 35 1) [1],Jo 37 (ao 9 0),Jp 38 (lt 37 2) [3],Jp 39 (J2 161 36 38) [2,4],Jp 40 (.bsl 2 23 [.t 34,.t 39]) [0,5],Jp 41 (J1 116 40) [5,6]] 0 1 [Ju 7 41 2 (Jr 8)]))))
 (.reg [o1 42 (Jc .add 23 1),m1 23 42]))))))) (sr1 [o1 43 (lt 7 2),Js 4 43 2,Jk 5 0] .ret))))))
def r101:List RV:=[.cell 4 2 true,.tmp 5]
theorem t101:Qt1 Tryz.prog 101 c101 r101 44:=ZL Tryz.func101
def c54:SC:=(sr1 [o1 3 (Jz 0 0 25),o1 4 (Jz 1 0 27),Jk 6 0] (.seq (sr1 [o1 8 (lt 3 17),o1 9 (lt 4 7),o1 10 (J2 62 8 9),m1 7 10] (sr1 [m1 11 7,o1 12 (Jc .neq 11 0)] (Ji 12 (sr1 [m1 13 7,m1 6 13] .ret) .skip))) (.seq (sr1 [m1 14 2,o1 15 (Jl 14),o1 16
 (Jc .gtr 15 60)] (Ji 16 (sr1 [Jk 6 4] .ret) .skip)) (sr1 [m1 17 2,o1 18 (J1 63 17),m1 6 18] .ret))))
def r54:List RV:=[.tmp 6]
theorem t54:Qt1 Tryz.prog 54 c54 r54 19:=ZL Tryz.func54
def c55:SC:=(sr1 [Jw 5 Jf] (sr1 [o1 11 (lt 1 17),o1 12 (lt 2 7),o1 13 (.build zv1 [(0,17,.t 11),(17,7,.t 12)]),o1 6 (.alloc zv1 128),Js 6 13 24] (.seq (sr1 [o1 14 (lf 3 1),o1 15 (Jl 14),Jk 16 0] (.block 0 (.loop (sr1 [o1 17 (Jb .lss 16 15)] (.seq (Ji
 17 .skip (.exit 0)) (.seq (.block 1 (sr1 [o1 18 (Jx 14 16 8),o1 19 (lt 18 8),o1 8 (.alloc zv2 43),Js 8 19 8] (.seq (sr1 [m1 20 0,o1 21 (ao 8 1),Js 21 20 1] (sr1 [o1 22 (ao 8 0),o1 23 (lf 22 1),o1 24 (Jc .gtr 23 0),m1 25 24,g1 26 25 true (lt 6 24),g1
 27 25 true (J1 56 26),g1 28 25 true (.fld (.t 27) 0 1 false),g1 29 25 true (.mv (.t 0)),g1 30 25 true (Jb .lss 28 29),o1 31 (.pick (.t 25) (.t 30) Jf)] (Ji 31 (sr1 [Jw 5 Jf] .ret) .skip))) (sr1 [o1 33 (lt 6 24),o1 34 (lt 8 8),o1 35 (J2 57 33 34),m1
 32 35,o1 36 (Je 32 0),o1 37 (Je 32 1),o1 9 (.alloc zv1 128),Js 9 36 24,m1 10 37] (.seq (sr1 [m1 38 10,o1 39 (.bin .neq (.t 38) (.c (.int .u8 0)))] (Ji 39 (sr1 [Jw 5 Jf] .ret) .skip)) (.reg [o1 40 (lt 9 24),Js 6 40 24])))))) (.reg [o1 41 (Jc .add 16
 1),m1 16 41]))))))) (sr1 [Jw 5 Jt] .ret))))
def r55:List RV:=[.tmp 5]
theorem t55:Qt1 Tryz.prog 55 c55 r55 42:=ZL Tryz.func55
def c57:SC:=(sr1 [o1 2 (Jz 0 0 128),o1 3 (Jz 1 0 43),o1 4 (.alloc zv1 128),o1 5 (.mv (.c (.int .u8 0)))] (sr1 [o1 16 (ao 2 17),o1 17 (ao 16 0),o1 18 (ao 2 17),o1 19 (ao 18 2),o1 20 (.build [.pointer none,.pointer none] [(0,1,.t 17),(1,1,.t 19)]),o1 6
 (.alloc [.pointer none,.pointer none] 217),Js 6 20 2] (.seq (.regd (Jr 16) [Jo 21 (ao 2 0),Jp 22 (ao 21 0) [0],Jp 23 (lf 22 1) [1],Jo 24 (ao 2 0),Jp 25 (ao 24 1) [3],Jp 26 (lf 25 1) [4],Jp 27 (.build zv0 [(0,1,.t 23),(1,1,.t 26)]) [2,5],Jo 28 (ao 3
 6),Jp 29 (lt 28 2) [7],Jo 30 (ao 3 4),Jp 31 (lt 30 2) [9],Jp 32 (.build zv7 [(0,2,.t 29),(2,2,.t 31)]) [8,10]] 2 2 [o1 7 (.alloc zv0 172),o1 8 (.alloc zv7 218),Ju 7 27 2 [0,1,2,3,4,5,6,12,13],Ju 8 32 4 (Jr 15)]) (sr1 [o1 9 (.mv (.c (.int .u8 0)))]
 (.seq (sr1 [o1 33 (ao 2 0),o1 34 (lt 33 17),o1 35 (ao 2 17),o1 36 (ao 35 6),o1 37 (lf 36 1),o1 38 (lt 3 8),o1 39 (J3 115 34 37 38),Jk 40 0] (.block 0 (.loop (sr1 [o1 41 (Jc .lss 40 2)] (.seq (Ji 41 .skip (.exit 0)) (.seq (.block 1 (sr1 [m1 42 40,o1
 43 (.idx (.t 39) (.t 40) 2 2 true),o1 11 (.alloc zv0 23),m1 10 42,Js 11 43 2] (sr1 [m1 44 10,o1 45 (.ixa (.t 6) (.t 44) 2 1),o1 46 (lf 45 1),m1 12 46] (.seq (.block 2 (.seq (.regd (Jr 8) [Jm 48 12,Jp 49 (.nilc (.t 48)) [0],Jp 50 (ao 49 1) [1],Jp 51
 (lf 50 1) [2],Jo 52 (ao 11 0),Jp 53 (lf 52 1) [4],Jp 54 (Jb .lss 51 53) [3,5],Jp 47 (.mv (.t 54)) [6]] 0 0 []) (Ji 47 (sr1 [o1 55 (.build zv1 []),Js 4 55 24,o1 5 (.mv (.c (.int .u8 2)))] .ret) (.seq (.regd (Jr 8) [Jm 57 12,Jp 58 (.nilc (.t 57))
 [0],Jp 59 (ao 58 0) [1],Jp 60 (lf 59 1) [2],Jo 61 (ao 11 1),Jp 62 (lf 61 1) [4],Jp 63 (Jb .lss 60 62) [3,5],Jp 56 (.mv (.t 63)) [6]] 0 0 []) (Ji 56 (.reg [o1 9 (.mv (.c (.int .u8 1)))]) .skip))))) (.seq (.regd (Jr 23) [Jm 64 12,Jp 65 (.nilc (.t 64))
 [0],Jp 66 (ao 65 0) [1],Jp 67 (lf 66 1) [2],Jo 68 (ao 11 1),Jp 69 (lf 68 1) [4],Jp 70 (Jb .sub 67 69) [3,5],Jp 71 (.mm true [cn 0,.t 70]) [6],Jm 72 12,Jp 73 (.nilc (.t 72)) [8],Jp 74 (ao 73 1) [9],Jp 75 (lf 74 1) [10],Jo 76 (ao 11 0),Jp 77 (lf 76 1)
 [12],Jp 78 (Jb .sub 75 77) [11,13],Jp 79 (.build zv0 [(0,1,.t 71),(1,1,.t 78)]) [7,14],Jm 80 10,Jp 81 (.ixa (.t 8) (.t 80) 2 2) [16],Jp 82 (lt 81 2) [17],Jp 83 (.bsl 2 23 [.t 79,.t 82]) [15,18],Jp 84 (J1 116 83) [19]] 1 1 [o1 13 (.alloc zv0 23),Ju 13
 84 2 (Jr 22)]) (.regd (Jr 16) [Jm 85 12,Jm 86 10,Jp 87 (.ixa (.t 7) (.t 86) 2 1) [1],Jp 88 (lf 87 1) [2],Jo 89 (ao 13 0),Jp 90 (lf 89 1) [4],Jp 91 (.mm false [.t 88,.t 90]) [3,5],Jm 92 10,Jp 93 (.ixa (.t 7) (.t 92) 2 1) [7],Jp 94 (lf 93 1) [8],Jo 95
 (ao 13 1),Jp 96 (lf 95 1) [10],Jp 97 (.mm false [.t 94,.t 96]) [9,11],Jp 98 (.build zv0 [(0,1,.t 91),(1,1,.t 97)]) [6,12],Jp 99 (.nilc (.t 85)) (Jr 14)] 0 1 [Ju 99 98 2 (Jr 15)])))))) (.reg [o1 100 (Jc .add 40 1),m1 40 100]))))))) (sr1 [o1 101 (ao 2
 17),o1 102 (ao 101 4),m1 14 102] (.seq (sr1 [o1 103 (ao 3 0),o1 104 (lf 103 1),o1 105 (Jc .eql 104 0)] (Ji 105 (.seq (.regd (Jr 22) [Jm 106 14,Jm 107 14,Jp 108 (.nilc (.t 107)) [1],Jp 109 (ao 108 0) [2],Jp 110 (lf 109 1) [3],Jo 111 (ao 2 0),Jp 112
 (ao 111 14) [5],Jp 113 (lf 112 1) [6],Jp 114 (Jb .sub 110 113) [4,7],Jp 115 (.mm true [cn 0,.t 114]) [8],Jm 116 14,Jp 117 (.nilc (.t 116)) [10],Jp 118 (ao 117 1) [11],Jp 119 (lf 118 1) [12],Jo 120 (ao 2 0),Jp 121 (ao 120 14) [14],Jp 122 (lf 121 1)
 [15],Jp 123 (Jb .sub 119 122) [13,16],Jp 124 (.mm true [cn 0,.t 123]) [17],Jp 125 (.build zv0 [(0,1,.t 115),(1,1,.t 124)]) [9,18],Jp 126 (.nilc (.t 106)) (Jr 20)] 0 1 [Ju 126 125 2 (Jr 21)]) (sr1 [o1 127 (lt 2 24),m1 128 9,Js 4 127 24,m1 5 128]
 .ret)) .skip)) (.seq (.regd (Jr 16) [Jm 129 14,Jp 130 (.nilc (.t 129)) [0],Jp 131 (lt 130 2) [1],Jo 132 (ao 2 0),Jp 133 (ao 132 10) [3],Jp 134 (lt 133 2) [4],Jo 135 (ao 3 0),Jp 136 (lf 135 1) [6],Jo 137 (ao 3 1),Jp 138 (lf 137 1) [8],Jp 139 (.bsl 1 3
 [.t 136,.t 138]) [7,9],Jp 140 (.call 117 [.t 134,cn 1000000,.t 139]) [5,10],Jp 141 (.bsl 2 23 [.t 131,.t 140]) [2,11],Jp 142 (J1 116 141) [11,12]] 1 1 [o1 15 (.alloc zv0 23),Ju 15 142 2 (Jr 15)]) (sr1 [m1 143 14,o1 144 (ao 15 0),o1 145 (lf 144 1),o1
 146 (.mm false [cn 1000,.t 145]),o1 147 (ao 15 1),o1 148 (lf 147 1),o1 149 (.mm false [cn 1000,.t 148]),o1 150 (.build zv0 [(0,1,.t 146),(1,1,.t 149)]),o1 151 (.nilc (.t 143)),Js 151 150 2] (sr1 [o1 152 (lt 2 24),m1 153 9,Js 4 152 24,m1 5 153]
 .ret))))))))))
def r57:List RV:=[.cell 4 24 true,.tmp 5]
theorem t57:Qt1 Tryz.prog 57 c57 r57 154:=ZL Tryz.func57
def c58:SC:=(sr1 [Jk 6 0] (.seq (.block 0 (.loop (.seq (sr1 [m1 8 0,m1 9 1,o1 10 (Jb .lss 8 9)] (Ji 10 .skip (.exit 0))) (.block 1 (sr1 [m1 11 1,m1 12 1,m1 13 0,o1 14 (Jb .sub 12 13),o1 15 (.div .quo (.t 14) (cn 2)),o1 16 (Jb .sub 11 15),m1 7 16] (sr1
 [m1 17 2,m1 18 7,o1 19 (.calv (.t 17) [.t 18])] (Ji 19 (.reg [m1 20 7,m1 0 20]) (.reg [m1 21 7,o1 22 (Jc .sub 21 1),m1 1 22])))))))) (sr1 [m1 23 0,m1 6 23] .ret)))
def r58:List RV:=[.tmp 6]
theorem t58:Qt1 Tryz.prog 58 c58 r58 24:=ZL Tryz.func58
def c13:SC:=(sr1 [o1 3 (Jz 0 0 25),o1 4 (Jz 1 0 27),o1 5 (Jz 2 0 43),o1 6 (.alloc zv4 27),o1 7 (.mv (.c (.int .u8 0))),Jk 8 0] (.seq (sr1 [o1 12 (lt 3 17),o1 13 (lt 4 7),o1 14 (J2 62 12 13),m1 9 14] (sr1 [m1 15 9,o1 16 (Jc .neq 15 0)] (Ji 16 (sr1 [o1
 17 (lt 6 7),m1 18 9,Js 6 17 7,o1 7 (.mv (.c (.int .u8 0))),m1 8 18] .ret) .skip))) (.seq (sr1 [o1 19 (lt 5 8),o1 20 (.bsl 8 43 [.t 19]),o1 21 (J1 63 20),m1 10 21] (sr1 [m1 22 10,o1 23 (Jc .neq 22 0)] (Ji 23 (sr1 [o1 24 (lt 6 7),m1 25 10,Js 6 24 7,o1
 7 (.mv (.c (.int .u8 0))),m1 8 25] .ret) .skip))) (sr1 [o1 27 (lt 3 17),o1 28 (lt 4 7),o1 29 (.build zv1 [(0,17,.t 27),(17,7,.t 28)]),o1 30 (lt 5 8),o1 31 (J2 57 29 30),m1 26 31,o1 32 (Je 26 0),o1 33 (Je 26 1),o1 11 (.alloc zv1 128),Js 11 32 24,m1 7
 33] (.seq (sr1 [m1 34 7,o1 35 (.bin .eql (.t 34) (.c (.int .u8 2)))] (Ji 35 (sr1 [o1 36 (lt 6 7),Js 6 36 7,o1 7 (.mv (.c (.int .u8 0))),Jk 8 13] .ret) .skip)) (sr1 [o1 37 (ao 11 17),o1 38 (lt 37 7),m1 39 7,Js 6 38 7,m1 7 39,Jk 8 0] .ret))))))
def r13:List RV:=[.cell 6 7 true,.tmp 7,.tmp 8]
theorem t13:Qt1 Tryz.prog 13 c13 r13 40:=ZL Tryz.func13
end Go.Proofs.YtkpkgafhfakpdaaGreatDoor
namespace Go.Azalai
structure Breed where
 full:Int
 fed:Int
 rest:Span
 heat:Span
 toil:Span
 burn:Span
 rub:Span
 milk:Span
 heal:Int
 strong:Span
deriving DecidableEq
structure Camel where
 water:Span
 fat:Span
 sore:Span
 milks:Bool
deriving DecidableEq
structure March where
 hours:Int
 load:Int
 heat:Span
 grass:Span
 drinks:Span
deriving DecidableEq
def ZZ (b:Breed):Bool :=
 inR 1 1000000 b.full && inR 1 1000000 b.fed && inR 0 1000 b.heal && Z8 0 1000000 b.strong && Z8 0 100000 b.rest && Z8 0 100000 b.heat && Z8 0 100000 b.toil && Z8 0 100000 b.burn && Z8 0 100000 b.rub && Z8 0 100000 b.milk
def Yc (b:Breed) (c:Camel):Bool:=Z8 0 b.full c.water && Z8 0 b.fed c.fat && Z8 0 1000 c.sore
def ZR (m:March):Bool:=inR 0 24 m.hours && inR 0 1000000 m.load && Z8 0 60 m.heat && Z8 0 1000000 m.grass && Z8 0 1000000 m.drinks
def ZoK (b:Breed):Int:=if ZZ b=true then 0 else 10
def Zau (b:Breed) (c:Camel):Int:=if ZZ b=false then 10 else if Yc b c=false then 11 else 0
def upF (a b:Int):Int:=(a+b - 1).tdiv b
def Zy:Span:=⟨0,0⟩
def ZdC (b:Breed) (c:Camel):Span :=
 ⟨min 1000 (min ((2000 * c.water.lo).tdiv b.full) (min ((2000 * c.fat.lo).tdiv b.fed) (1000 - c.sore.hi))),min 1000 (min (upF (2000 * c.water.hi) b.full) (min (upF (2000 * c.fat.hi) b.fed) (1000 - c.sore.lo)))⟩
def Zel (b:Breed) (c:Camel):Span:=⟨(b.strong.lo * (ZdC b c).lo).tdiv 1000,upF (b.strong.hi * (ZdC b c).hi) 1000⟩
def Ys (m:March):Int:=m.hours * (100000+m.load)
def WF (b:Breed) (milks:Bool) (m:March):Span :=
 ⟨b.rest.lo+b.heat.lo * max 0 (m.heat.lo - 20)+(b.toil.lo * Ys m).tdiv 100000+(if milks then b.milk.lo else 0),b.rest.hi+b.heat.hi * max 0 (m.heat.hi - 20)+upF (b.toil.hi * Ys m) 100000+(if milks then b.milk.hi else 0)⟩
def W9 (b:Breed) (m:March):Span:=⟨(b.burn.lo * Ys m).tdiv 100000,upF (b.burn.hi * Ys m) 100000⟩
theorem Wy {a A d:Int} (h0:0<=a) (h1:a<=A) (hd:1<=d):0<=a.tdiv d/\a.tdiv d<=A :=
 ⟨Int.tdiv_nonneg h0 (by omega),Int.le_trans (Int.tdiv_le_self d h0) h1⟩
theorem Zje {a A d:Int} (h0:0<=a) (h1:a<=A) (hd:1<=d):0<=upF a d/\upF a d<=A+d:=by
 have:=Wy (a:=a+d - 1) (A:=A+d) (d:=d) (by omega) (by omega) hd;exact this
end Go.Azalai
namespace Go.Proofs.YtkpkgafhfakpdaaGreatDoor.Cm
open Go Go.Sx Go.Azalai
def breedL (b:Breed):List SV:=[I b.full,I b.fed,I b.rest.lo,I b.rest.hi,I b.heat.lo,I b.heat.hi,I b.toil.lo,I b.toil.hi,I b.burn.lo,I b.burn.hi,I b.rub.lo,I b.rub.hi,I b.milk.lo,I b.milk.hi,I b.heal,I b.strong.lo,I b.strong.hi]
def camelL (c:Camel):List SV:=[I c.water.lo,I c.water.hi,I c.fat.lo,I c.fat.hi,I c.sore.lo,I c.sore.hi,B c.milks]
def Z4 (b:Breed) (c:Camel):List SV:=[I b.full,I b.fed,I b.rest.lo,I b.rest.hi,I b.heat.lo,I b.heat.hi,I b.toil.lo,I b.toil.hi,I b.burn.lo,I b.burn.hi,I b.rub.lo,I b.rub.hi,I b.milk.lo,I b.milk.hi,I b.heal,I b.strong.lo,I b.strong.hi,I c.water.lo,I c.water.hi,I c.fat.lo,I c.fat.hi,I c.sore.lo,I c.sore.hi,B c.milks]
def Z5 (m:March):List SV:=[I m.hours,I m.load,I m.heat.lo,I m.heat.hi,I m.grass.lo,I m.grass.hi,I m.drinks.lo,I m.drinks.hi]
theorem YR {α : Type} (g:α->Bool) (l:List α):decide (Yv g l 0 ≥ 0)=l.any g:=ZdG g l 0
theorem ZiZ (h:Nat) (caps:List SV) (hk:KFL caps) (g:Int->Bool) (l:List Int) (hg:∀ x ∈ l,Ct Tryz.prog h (I x :: caps) (B (g x))) (hl:l.length < 4611686018427387904) {c:Bool} :
 Ct Tryz.prog 192 [.sl c 1 (l.map Zk),.cl h caps] (I (Yv g l 0)):=by
 refine t192.1 ⟨by simp [KF,Za,KFL,Zk],hk,trivial⟩ (by simp [KF]) ?_;dsimp only [c192,r192,go_sem];refine Yb (λk:Nat=>[(8,I k)]) (λ_=>[]) (λk=>k<=l.length/\Yv g (l.drop k) k=Yv g l 0) (λk=>l.length - k) 0 ⟨Nat.zero_le _,rfl⟩ ?_ ?_
 . (refine Zi ?_ ?_ ?_ rfl rfl<;>dsimp only [Zk,hk,id,go_sem]<;>simp [Zk,hk,Za])
 . intro k ⟨hk',hi⟩;dsimp only [go_sem];refine br ?_ ?_
   . intro hlt;have hlt:k < l.length:=by simpa using hlt
     dsimp only [go_sem];refine Zx k hlt rfl ?_;dsimp only [Zk,go_sem];refine call (hg l[k] (List.getElem_mem _)) ?_;dsimp only [go_sem];refine br ?_ ?_
     . intro hgx;dsimp only [go_sem];rw [<- hi,List.drop_eq_getElem_cons hlt];simp [Yv,hgx]
     . intro hgx;dsimp only [go_sem];refine ⟨k+1,⟨by omega,?_⟩,by omega,?_⟩
       . rw [<- hi,List.drop_eq_getElem_cons hlt];simp [Yv,hgx]
       . rw [Zf (by omega) (by omega)];(refine Zi ?_ ?_ ?_ rfl rfl<;>dsimp only [Zk,hk,id,go_sem]<;>simp [Zk,hk,Za])
   . intro hlt;have hlt:k=l.length:=by simp at hlt;omega
     dsimp only [go_sem];rw [<- hi,hlt];simp [Yv]
theorem con91 (h:Nat) (caps:List SV) (hk:KFL caps) (g:Int->Bool) (l:List Int) (hg:∀ x ∈ l,Ct Tryz.prog h (I x :: caps) (B (g x))) (hl:l.length < 4611686018427387904) {c:Bool} :
 Ct Tryz.prog 140 [.sl c 1 (l.map Zk),.cl h caps] (B (l.any g)):=by
 refine t140.1 ⟨by simp [KF,Za,KFL,Zk],hk,trivial⟩ (by simp [KF]) ?_;dsimp only [c140,r140,go_sem];refine call (ZiZ h caps hk g l hg hl) ?_;dsimp only [go_sem];rw [YR]
theorem ZzG (h:Nat) (caps:List SV) (hk:KFL caps) (g:Span->Bool) (l:List Span) (hg:∀ x ∈ l,Ct Tryz.prog h (.agg (Zh x) :: caps) (B (g x))) (hl:l.length < 4611686018427387904) {c:Bool} :
 Ct Tryz.prog 216 [.sl c 2 (l.map Zh),.cl h caps] (I (Yv g l 0)):=by
 refine t216.1 ⟨by simp [KF,Za,KFL,Zh],hk,trivial⟩ (by simp [KF]) ?_;dsimp only [c216,r216,go_sem];refine Yb (λk:Nat=>[(8,I k)]) (λ_=>[]) (λk=>k<=l.length/\Yv g (l.drop k) k=Yv g l 0) (λk=>l.length - k) 0 ⟨Nat.zero_le _,rfl⟩ ?_ ?_
 . (refine Zi ?_ ?_ ?_ rfl rfl<;>dsimp only [Zh,hk,id,go_sem]<;>simp [Zh,hk,Za])
 . intro k ⟨hk',hi⟩;dsimp only [go_sem];refine br ?_ ?_
   . intro hlt;have hlt:k < l.length:=by simpa using hlt
     dsimp only [go_sem];refine Zx k hlt rfl ?_;dsimp only [Zh,go_sem];refine call (hg l[k] (List.getElem_mem _)) ?_;dsimp only [go_sem];refine br ?_ ?_
     . intro hgx;dsimp only [go_sem];rw [<- hi,List.drop_eq_getElem_cons hlt];simp [Yv,hgx]
     . intro hgx;dsimp only [go_sem];refine ⟨k+1,⟨by omega,?_⟩,by omega,?_⟩
       . rw [<- hi,List.drop_eq_getElem_cons hlt];simp [Yv,hgx]
       . rw [Zf (by omega) (by omega)];(refine Zi ?_ ?_ ?_ rfl rfl<;>dsimp only [Zh,hk,id,go_sem]<;>simp [Zh,hk,Za])
   . intro hlt;have hlt:k=l.length:=by simp at hlt;omega
     dsimp only [go_sem];rw [<- hi,hlt];simp [Yv]
theorem con93 (h:Nat) (caps:List SV) (hk:KFL caps) (g:Span->Bool) (l:List Span) (hg:∀ x ∈ l,Ct Tryz.prog h (.agg (Zh x) :: caps) (B (g x))) (hl:l.length < 4611686018427387904) {c:Bool} :
 Ct Tryz.prog 173 [.sl c 2 (l.map Zh),.cl h caps] (B (l.any g)):=by
 refine t173.1 ⟨by simp [KF,Za,KFL,Zh],hk,trivial⟩ (by simp [KF]) ?_;dsimp only [c173,r173,go_sem];refine call (ZzG h caps hk g l hg hl) ?_;dsimp only [go_sem];rw [YR]
theorem ZbX (lo hi x:Int):Ct Tryz.prog 175 [I x,.ps [I lo] 0,.ps [I hi] 0] (B (!inR lo hi x)):=by
 refine t175.1 (by simp) (by simp) ?_;dsimp only [c175,r175,go_sem];repeat (refine gb ?_;dsimp only [go_sem])
 (simp only [inR,Option.some.injEq,SV.v.injEq,Value.bool.injEq]<;>grind)
theorem W2 (lo hi:Int) (l:List Int) (hl:l.length < 4611686018427387904) (c:Bool):Ct Tryz.prog 120 [I lo,I hi,.sl c 1 (l.map Zk)] (B (l.all (inR lo hi))):=by
 refine t120.1 (by simp [Za,Zk]) (by simp) ?_;dsimp only [c120,r120,go_sem];refine Xi (by simp [FLT]) (res:=B (l.any λx=>!inR lo hi x)) ?_ ?_
 . dsimp only [go_sem];exact con91 175 [.ps [I lo] 0,.ps [I hi] 0] (by simp) (λx=>!inR lo hi x) l (λx _=>ZbX lo hi x) hl
 . dsimp only [go_sem];simp [List.all_eq_not_any_not]
theorem Zaq (lo hi a:Int) (c:Bool):Ct Tryz.prog 120 [I lo,I hi,.sl c 1 [[I a]]] (B (inR lo hi a)):=by
 have:=W2 lo hi [a] (by simp) c;simpa [Zk] using this
theorem Zdy (lo hi a b:Int) (c:Bool):Ct Tryz.prog 120 [I lo,I hi,.sl c 1 [[I a],[I b]]] (B (inR lo hi a && inR lo hi b)):=by
 have:=W2 lo hi [a,b] (by simp) c;simpa [Zk] using this
theorem Vh (lo hi:Int) (s:Span):Ct Tryz.prog 174 [.agg (Zh s),.ps [I lo] 0,.ps [I hi] 0] (B (!Z8 lo hi s)):=by
 refine t174.1 (by simp [Zh]) (by simp) ?_;dsimp only [c174,r174,Zh,go_sem];repeat (first | (refine gb ?_;dsimp only [go_sem]) | (refine call (Zdy _ _ _ _ _) ?_;dsimp only [go_sem]))
 (simp only [Z8,inR,Option.some.injEq,SV.v.injEq,Value.bool.injEq]<;>grind)
theorem Y1 (lo hi:Int) (l:List Span) (hl:l.length < 4611686018427387904) (c:Bool):Ct Tryz.prog 119 [I lo,I hi,.sl c 2 (l.map Zh)] (B (l.all (Z8 lo hi))):=by
 refine t119.1 (by simp [Za,Zh]) (by simp) ?_;dsimp only [c119,r119,go_sem];refine Xi (by simp [FLT]) (res:=B (l.any λx=>!Z8 lo hi x)) ?_ ?_
 . dsimp only [go_sem];exact con93 174 [.ps [I lo] 0,.ps [I hi] 0] (by simp) (λx=>!Z8 lo hi x) l (λx _=>Vh lo hi x) hl
 . dsimp only [go_sem];simp [List.all_eq_not_any_not]
theorem Y5 (lo hi:Int) (s:Span) (c:Bool):Ct Tryz.prog 119 [I lo,I hi,.sl c 2 [[I s.lo,I s.hi]]] (B (Z8 lo hi s)):=by
 have:=Y1 lo hi [s] (by simp) c;simpa [Zh] using this
theorem ZbJ (lo hi:Int) (s t:Span) (c:Bool):Ct Tryz.prog 119 [I lo,I hi,.sl c 2 [[I s.lo,I s.hi],[I t.lo,I t.hi]]] (B (Z8 lo hi s && Z8 lo hi t)):=by
 have:=Y1 lo hi [s,t] (by simp) c;simpa [Zh] using this
theorem ZmR (lo hi:Int) (a b c d e f:Span) (k:Bool):Ct Tryz.prog 119 [I lo,I hi,.sl k 2 [[I a.lo,I a.hi],[I b.lo,I b.hi],[I c.lo,I c.hi],[I d.lo,I d.hi],[I e.lo,I e.hi],[I f.lo,I f.hi]]]
 (B (Z8 lo hi a && (Z8 lo hi b && (Z8 lo hi c && (Z8 lo hi d && (Z8 lo hi e && Z8 lo hi f)))))):=by
 have:=Y1 lo hi [a,b,c,d,e,f] (by simp) k;simpa [Zh] using this
theorem VL (b:Breed):Ct Tryz.prog 118 [.agg (breedL b)] (I (ZoK b)):=by
 refine t118.1 (by simp [breedL]) (by simp) ?_;dsimp only [c118,r118,breedL,go_sem];repeat (first | (refine gb ?_;dsimp only [go_sem]) | (refine call (Zaq _ _ _ _) ?_;dsimp only [go_sem]) | (refine call (Zdy _ _ _ _ _) ?_;dsimp only [go_sem]) | (refine call (ZmR _ _ b.rest b.heat b.toil b.burn b.rub b.milk _) ?_;dsimp only [go_sem]) | (refine call (Y5 _ _ b.strong _) ?_;dsimp only [go_sem]))
 refine br ?_ ?_
 . intro h;dsimp only [go_sem];have:ZZ b=false:=by simp only [ZZ];grind
   simp [ZoK,this]
 . intro h;dsimp only [go_sem];have:ZZ b=true:=by simp only [ZZ];grind
   simp [ZoK,this]
theorem Xf (b:Breed) (c:Camel):Ct Tryz.prog 62 [.agg (breedL b),.agg (camelL c)] (I (Zau b c)):=by
 refine t62.1 (by simp [breedL,camelL]) (by simp) ?_;dsimp only [c62,r62,breedL,camelL,go_sem];refine call (VL b) ?_;dsimp only [go_sem];by_cases hb:ZZ b=true
 case neg =>
  refine Zt (by simp [ZoK,hb]) ?_;dsimp only [go_sem];simp [ZoK,Zau,hb]
 refine Zn (by simp [ZoK,hb]) ?_;dsimp only [go_sem];repeat (first | (refine gb ?_;dsimp only [go_sem]) | (refine call (Y5 _ _ c.water _) ?_;dsimp only [go_sem]) | (refine call (Y5 _ _ c.fat _) ?_;dsimp only [go_sem]) | (refine call (Y5 _ _ c.sore _) ?_;dsimp only [go_sem]))
 refine br ?_ ?_
 . intro h;dsimp only [go_sem];have:Yc b c=false:=by simp only [Yc];grind
   simp [Zau,this,hb]
 . intro h;dsimp only [go_sem];have:Yc b c=true:=by simp only [Yc];grind
   simp [Zau,this,hb]
theorem Uq (l:List March) (hl:l.length < 4611686018427387904) (c:Bool):Ct Tryz.prog 63 [.sl c 8 (l.map Z5)] (I (if l.all ZR=true then 0 else 12)):=by
 refine t63.1 (by simp [Z5,Za]) (by simp) ?_;dsimp only [c63,r63,go_sem];refine Yb (λk:Nat=>[(7,I k)]) (λ_=>[]) (λk=>k<=l.length/\(l.drop k).all ZR=l.all ZR) (λk=>l.length - k) 0 ⟨Nat.zero_le _,rfl⟩ ?_ ?_
 . (refine Zi ?_ ?_ ?_ rfl rfl<;>dsimp only [Z5,id,go_sem]<;>simp [Z5,Za])
 intro k ⟨hk,hi⟩;dsimp only [go_sem];by_cases hlt:k < l.length
 . refine Zt (by simpa using hlt) ?_;dsimp only [go_sem];refine Zx k hlt rfl ?_;dsimp only [Z5,go_sem];repeat (first | (refine gb ?_;dsimp only [go_sem]) | (refine call (Zaq _ _ _ _) ?_;dsimp only [go_sem]) | (refine call (Y5 _ _ l[k].heat _) ?_;dsimp only [go_sem]) | (refine call (ZbJ _ _ l[k].grass l[k].drinks _) ?_;dsimp only [go_sem]))
   rw [List.drop_eq_getElem_cons hlt,List.all_cons] at hi;refine br ?_ ?_
   . intro h;dsimp only [go_sem];have:ZR l[k]=false:=by simp only [ZR];grind
     rw [<- hi,this];rfl
   . intro h;dsimp only [go_sem];have:ZR l[k]=true:=by simp only [ZR];grind
     rw [this,Bool.true_and] at hi;rw [Zf (n:=(k:Int)+1) (by omega) (by omega)];refine ⟨k+1,⟨hlt,hi⟩,by omega,?_⟩;(refine Zi ?_ ?_ ?_ rfl rfl<;>dsimp only [Z5,id,go_sem]<;>simp [Z5,Za])
 . refine Zn (by simp;omega) ?_;dsimp only [go_sem];have hke:k=l.length:=by omega
   subst hke;rw [List.drop_length] at hi;rw [<- hi];rfl
theorem ZiP (m:March) (c:Bool):Ct Tryz.prog 63 [.sl c 8 [Z5 m]] (I (if ZR m=true then 0 else 12)):=by
 have:=Uq [m] (by simp) c;simpa using this
end Go.Proofs.YtkpkgafhfakpdaaGreatDoor.Cm
namespace Go.Proofs.YtkpkgafhfakpdaaGreatDoor
open Go Go.Sx
def c15:SC:=(sr1 [o1 1 (Jz 0 0 49),Jw 2 Jf] (.seq (sr1 [o1 4 (ao 1 1),o1 5 (lt 4 2),o1 6 (.call 65 [.t 5,cn 0,cn 1000000]),o1 7 (Jh 6),m1 8 7,g1 9 8 false (ao 1 9),g1 10 8 false (lf 9 1),g1 11 8 false (.call 66 [.t 10,cn 0,cn 6000000]),g1 12 8 false
 (Jh 11),o1 13 (.pick (.t 8) Jt (.t 12)),m1 14 13,g1 15 14 false (ao 1 10),g1 16 14 false (lf 15 1),g1 17 14 false (.call 66 [.t 16,cn 0,cn 100000]),g1 18 14 false (Jh 17),o1 19 (.pick (.t 14) Jt (.t 18))] (Ji 19 (sr1 [Jw 2 Jf] .ret) .skip)) (sr1 [o1
 20 (.build zv0 []),o1 3 (.alloc zv0 23),Js 3 20 2] (.seq (sr1 [o1 21 (ao 1 0),o1 22 (lf 21 1),o1 23 (.bin .eql (.t 22) (.c (.int .u8 1)))] (Ji 23 (sr1 [o1 24 (ao 1 3),o1 25 (lt 24 2),o1 26 (.call 65 [.t 25,cn 1,cn 100000]),m1 27 26,g1 28 27 true (ao
 1 5),g1 29 27 true (lt 28 2),g1 30 27 true (.call 65 [.t 29,cn 0,cn 1000]),o1 31 (.pick (.t 27) (.t 30) Jf),m1 32 31,g1 33 32 true (ao 1 7),g1 34 32 true (lt 33 2),g1 35 32 true (lt 3 2),g1 36 32 true (.eqs false true [1,1] (.t 34) (.t 35)),o1 37
 (.pick (.t 32) (.t 36) Jf),m1 2 37] .ret) .skip)) (.seq (sr1 [o1 38 (ao 1 0),o1 39 (lf 38 1),o1 40 (.bin .eql (.t 39) (.c (.int .u8 2)))] (Ji 40 (sr1 [o1 41 (ao 1 3),o1 42 (lt 41 2),o1 43 (lt 3 2),o1 44 (.eqs false true [1,1] (.t 42) (.t 43)),m1 45
 44,g1 46 45 true (ao 1 5),g1 47 45 true (lt 46 2),g1 48 45 true (lt 3 2),g1 49 45 true (.eqs false true [1,1] (.t 47) (.t 48)),o1 50 (.pick (.t 45) (.t 49) Jf),m1 51 50,g1 52 51 true (ao 1 7),g1 53 51 true (lt 52 2),g1 54 51 true (lt 3 2),g1 55 51
 true (.eqs false true [1,1] (.t 53) (.t 54)),o1 56 (.pick (.t 51) (.t 55) Jf),m1 2 56] .ret) .skip)) (sr1 [o1 57 (ao 1 0),o1 58 (lf 57 1),o1 59 (.bin .eql (.t 58) (.c (.int .u8 3))),m1 60 59,g1 61 60 true (ao 1 3),g1 62 60 true (lt 61 2),g1 63 60
 true (lt 3 2),g1 64 60 true (.eqs false true [1,1] (.t 62) (.t 63)),o1 65 (.pick (.t 60) (.t 64) Jf),m1 66 65,g1 67 66 true (ao 1 5),g1 68 66 true (lt 67 2),g1 69 66 true (lt 3 2),g1 70 66 true (.eqs false true [1,1] (.t 68) (.t 69)),o1 71 (.pick (.t
 66) (.t 70) Jf),m1 72 71,g1 73 72 true (ao 1 7),g1 74 72 true (lt 73 2),g1 75 72 true (.call 65 [.t 74,cn 0,cn 1000000]),o1 76 (.pick (.t 72) (.t 75) Jf),m1 2 76] .ret))))))
def r15:List RV:=[.tmp 2]
theorem t15:Qt1 Tryz.prog 15 c15 r15 77:=ZL Tryz.func15
def c65:SC:=(sr1 [o1 3 (Jz 0 0 23),Jw 6 Jf] (sr1 [o1 7 (ao 3 0),o1 8 (lf 7 1),m1 9 1,o1 10 (Jb .geq 8 9),m1 11 10,g1 12 11 true (ao 3 0),g1 13 11 true (lf 12 1),g1 14 11 true (ao 3 1),g1 15 11 true (lf 14 1),g1 16 11 true (Jb .leq 13 15),o1 17 (.pick
 (.t 11) (.t 16) Jf),m1 18 17,g1 19 18 true (ao 3 1),g1 20 18 true (lf 19 1),g1 21 18 true (.mv (.t 2)),g1 22 18 true (Jb .leq 20 21),o1 23 (.pick (.t 18) (.t 22) Jf),m1 6 23] .ret))
def r65:List RV:=[.tmp 6]
theorem t65:Qt1 Tryz.prog 65 c65 r65 24:=ZL Tryz.func65
def c66:SC:=(sr1 [Jw 6 Jf] (sr1 [m1 7 0,m1 8 1,o1 9 (Jb .geq 7 8),m1 10 9,g1 11 10 true (.mv (.t 0)),g1 12 10 true (.mv (.t 2)),g1 13 10 true (Jb .leq 11 12),o1 14 (.pick (.t 10) (.t 13) Jf),m1 6 14] .ret))
def r66:List RV:=[.tmp 6]
theorem t66:Qt1 Tryz.prog 66 c66 r66 15:=ZL Tryz.func66
def c8:SC:=(sr1 [o1 5 (Jz 0 0 25),o1 6 (Jz 1 0 27),o1 8 (Jz 3 0 31),Jw 10 Jf] (sr1 [m1 11 2,o1 12 (lt 8 3),o1 13 (.bsl 3 31 [.t 12]),o1 14 (J2 42 11 13),o1 15 (Jh 14),m1 16 15,g1 17 16 true (.mv (.t 2)),g1 18 16 true (lt 8 3),g1 19 16 true (.bsl 3 31
 [.t 18]),g1 20 16 true (J2 43 17 19),g1 21 16 true (Jc .eql 20 0),o1 22 (.pick (.t 16) (.t 21) Jf),m1 23 22,g1 24 23 true (lt 5 17),g1 25 23 true (lt 6 7),g1 26 23 true (J2 44 24 25),g1 27 23 true (Jc .eql 26 0),o1 28 (.pick (.t 23) (.t 27) Jf),m1 29
 28,g1 30 29 true (.mv (.t 4)),g1 31 29 true (Jc .geq 30 0),o1 32 (.pick (.t 29) (.t 31) Jf),m1 33 32,g1 34 33 true (.mv (.t 4)),g1 35 33 true (Jc .leq 34 1000000000),o1 36 (.pick (.t 33) (.t 35) Jf),m1 10 36] .ret))
def c3:SC:=(sr1 [o1 6 (Jz 0 0 25),o1 7 (Jz 1 0 27),o1 9 (Jz 3 0 31),Jw 12 Jf] (sr1 [o1 29 (.call 7 []),m1 13 29] (.seq (sr1 [o1 30 (lt 6 17),o1 31 (lt 7 7),m1 32 2,o1 33 (lt 9 3),m1 34 4,o1 35 (J5 8 30 31 32 33 34),o1 36 (Jh 35),m1 37 36,g1 38 37
 false (.mv (.t 5)),g1 39 37 false (Jl 38),g1 40 37 false (Jc .gtr 39 60),o1 41 (.pick (.t 37) Jt (.t 40)),m1 42 41,g1 43 42 false (.mv (.t 13)),g1 44 42 false (Jh 43),o1 45 (.pick (.t 42) Jt (.t 44))] (Ji 45 (sr1 [m1 46 13,m1 12 46] .ret) .skip))
 (sr1 [m1 48 2,o1 49 (lt 9 3),m1 50 4,o1 51 (J3 9 48 49 50),m1 47 51,o1 52 (Je 47 0),o1 53 (Je 47 1),m1 14 52,m1 15 53] (sr1 [m1 55 2,o1 56 (lt 9 3),o1 57 (J2 10 55 56),m1 54 57,o1 58 (Je 54 0),o1 59 (Je 54 1),o1 60 (Je 54 2),o1 61 (Je 54 3),o1 16
 (.alloc zv0 23),o1 17 (.alloc zv0 23),o1 18 (.alloc zv0 23),Js 16 58 2,Js 17 59 2,Js 18 60 2,m1 19 61] (.seq (sr1 [m1 62 15,o1 63 (Jc .neq 62 0),m1 64 63,g1 65 64 false (.mv (.t 19)),g1 66 64 false (Jc .neq 65 0),o1 67 (.pick (.t 64) Jt (.t 66)),m1
 68 67,g1 69 68 false (ao 18 1),g1 70 68 false (lf 69 1),g1 71 68 false (Jc .lss 70 0),o1 72 (.pick (.t 68) Jt (.t 71))] (Ji 72 (sr1 [Jw 12 Jf] .ret) .skip)) (sr1 [o1 74 (lt 6 17),o1 75 (lt 7 7),m1 76 5,o1 77 (J3 11 74 75 76),m1 73 77,o1 78 (Je 73
 0),o1 79 (Je 73 1),m1 20 78,m1 21 79] (.seq (sr1 [m1 80 21,o1 81 (Jc .neq 80 0),m1 82 81,g1 83 82 false (.mv (.t 14)),g1 84 82 false (.bin .neq (.t 83) (.c (.int .u8 2))),o1 85 (.pick (.t 82) Jt (.t 84)),m1 86 85,g1 87 86 false (ao 18 1),g1 88 86
 false (lf 87 1),g1 89 86 false (.mv (.t 20)),g1 90 86 false (Jb .gtr 88 89),o1 91 (.pick (.t 86) Jt (.t 90))] (Ji 91 (sr1 [m1 92 13,m1 12 92] .ret) .skip)) (.seq (sr1 [m1 93 5,o1 94 (Jl 93),Jk 95 0] (.block 0 (.loop (sr1 [o1 96 (Jb .lss 95 94)] (.seq
 (Ji 96 .skip (.exit 0)) (.seq (.block 1 (sr1 [o1 97 (Jx 93 95 8),o1 98 (lt 97 8),o1 23 (.alloc zv2 43),Js 23 98 8] (.seq (sr1 [o1 99 (ao 23 0),o1 100 (lf 99 1),o1 101 (Jc .gtr 100 0)] (Ji 101 (sr1 [o1 103 (lt 6 17),o1 104 (lt 7 7),m1 105 2,o1 106 (lt
 9 3),m1 107 4,o1 108 (J5 12 103 104 105 106 107),m1 102 108,o1 109 (Je 102 0),o1 110 (Je 102 1),m1 24 109,m1 25 110] (sr1 [m1 111 25,o1 112 (Jc .neq 111 0),m1 113 112,g1 114 113 false (.mv (.t 24)),g1 115 113 false (.bin .neq (.t 114) (.c (.int .u8
 2))),o1 116 (.pick (.t 113) Jt (.t 115))] (Ji 116 (sr1 [Jw 12 Jf] .ret) .skip))) .skip)) (sr1 [o1 117 (ao 18 1),o1 118 (lf 117 1),o1 119 (ao 23 1),Js 119 118 1] (sr1 [o1 121 (lt 6 17),o1 122 (lt 7 7),o1 123 (lt 23 8),o1 124 (J3 13 121 122 123),m1 120
 124,o1 125 (Je 120 0),o1 126 (Je 120 1),o1 127 (Je 120 2),o1 26 (.alloc zv4 27),Js 26 125 7,m1 27 126,m1 28 127] (.seq (sr1 [m1 128 28,o1 129 (Jc .neq 128 0),m1 130 129,g1 131 130 false (.mv (.t 27)),g1 132 130 false (.bin .neq (.t 131) (.c (.int .u8
 0))),o1 133 (.pick (.t 130) Jt (.t 132))] (Ji 133 (sr1 [Jw 12 Jf] .ret) .skip)) (.reg [o1 134 (lt 26 7),Js 7 134 7]))))))) (.reg [o1 135 (Jc .add 95 1),m1 95 135]))))))) (sr1 [m1 136 13,m1 12 136] .ret))))))))))
def r3:List RV:=[.tmp 12]
theorem n3:Tryz.f3.ntmps=137:=by kernel_rfl
theorem b3:ZV Tryz.prog 3=true:=by kernel_rfl
theorem t3:Qt1 Tryz.prog 3 c3 r3 137:=ZL Tryz.func3 rfl b3 (by kernel_rfl) (by kernel_rfl) n3
end Go.Proofs.YtkpkgafhfakpdaaGreatDoor
