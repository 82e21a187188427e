/- Walks and plain laws that lead to the given statement, part 5 of 20. -/
import Derived.Test.YtongccnhomncnaaGreatDoorHD
import Derived.Test.YtongccnhomncnaaGreatDoorProg
set_option maxRecDepth 100000
set_option maxHeartbeats 4000000
set_option linter.all false
open Nat renaming beq_refl->nbr
namespace Go.Sx
def m1 (d t:Nat):Ins:=⟨some d,.mv (.t t),none,[]⟩
def o1 (d:Nat) (i:SI):Ins:=⟨some d,i,none,[]⟩
def sr1 (l:List Ins) (c:SC):SC:=.seq (.reg l) c
def ao (x o:Nat):SI:=.addo (.t x) o
def lt (x m:Nat):SI:=.ld (.t x) m true
def lf (x m:Nat):SI:=.ld (.t x) m false
def cn (n:Int):X:=.c (.int .i64 n)
def g1 (d t:Nat) (b:Bool) (i:SI):Ins:=⟨some d,i,some (t,b),[]⟩
def p1 (d:Nat) (i:SI) (l:List Nat):Ins:=⟨some d,i,none,l⟩
def q1 (d t:Nat) (b:Bool) (i:SI) (l:List Nat):Ins:=⟨some d,i,some (t,b),l⟩
def Jr (n:Nat):List Nat:=List.range n
def Ji (a:Nat) (x y:SC):SC:=.cond (.t a) x y
def Jh (a:Nat):SI:=.un .not (.t a)
def Jz (a o:Nat) (T:TypeId):SI:=.box (.t a) o T
def Jw (d:Nat) (x:X):Ins:=⟨some d,.mv x,none,[]⟩
def Js (a b m:Nat):Ins:=⟨none,.st (.t a) (.t b) m,none,[]⟩
def Ju (a b m:Nat) (l:List Nat):Ins:=⟨none,.st (.t a) (.t b) m,none,l⟩
def Jv (a:Nat) (x:X) (m:Nat):Ins:=⟨none,.st (.t a) x m,none,[]⟩
def Jt:X:=.c (.bool true)
def Jf:X:=.c (.bool false)
def Jb (o:BinOp) (a b:Nat):SI:=.bin o (.t a) (.t b)
def Jc (o:BinOp) (a:Nat) (k:Int):SI:=.bin o (.t a) (cn k)
def Jx (a b m:Nat):SI:=.ixs (.t a) (.t b) m
def Jl (a:Nat):SI:=.len (.t a)
def Je (a k:Nat):SI:=.ext (.t a) k
def Jk (d:Nat) (k:Int):Ins:=⟨some d,.mv (cn k),none,[]⟩
def J1 (f a:Nat):SI:=.call f [.t a]
def J2 (f a b:Nat):SI:=.call f [.t a,.t b]
def J3 (f a b c:Nat):SI:=.call f [.t a,.t b,.t c]
def J4 (f a b c d:Nat):SI:=.call f [.t a,.t b,.t c,.t d]
def J5 (f a b c d e:Nat):SI:=.call f [.t a,.t b,.t c,.t d,.t e]
def J6 (f a b c d e g:Nat):SI:=.call f [.t a,.t b,.t c,.t d,.t e,.t g]
def Jp (d:Nat) (i:SI) (l:List Nat):VI:=.op ⟨some d,i,none,l⟩
def Jm (d x:Nat):VI:=.op ⟨some d,.mv (.t x),none,[]⟩
def Jo (d:Nat) (i:SI):VI:=.op ⟨some d,i,none,[]⟩
def Jq (d t:Nat) (b:Bool) (i:SI) (l:List Nat):VI:=.op ⟨some d,i,some (t,b),l⟩
def Jg (d t:Nat) (b:Bool) (i:SI):VI:=.op ⟨some d,i,some (t,b),[]⟩
attribute [go_sem] m1 o1 sr1 ao lt lf cn g1 p1 q1 Ji Jh Jz Jw Js Ju Jv Jt Jf Jb Jc Jx Jl Je Jk J1 J2 J3 J4 J5 J6 Jp Jm Jo Jq Jg
open Go
structure Qt1 (P:Program) (f:FuncId) (c:SC) (r:List RV) (N:Nat):Prop where
 h:∀ {args:Ls} {res:SV},KFL args->KF res->sx P Y0 0 c (st0 args N) (ZDY r res)->(hA:Nat.ble args.length N=true:=by rfl)->Ct P f args res
theorem ZF {P:Program} {f:FuncId} {fn:Func} {c:SC} {r:List RV} {N:Nat} (hf:P.funcs[f]?=some fn) (hd:fn.body.isSome=true:=by rfl) (hb:Z4 P f=true:=by kernel_rfl) (hc:YR P c (fn.body.getD .skip)=true:=by kernel_rfl) (hr:Y2 P r fn.results.toList=true:=by kernel_rfl) (hN:fn.ntmps=N:=by kernel_rfl):Qt1 P f c r N:=⟨λ{args res} ka kr h hA=>by
 cases hq:fn.body with
 | none=>rw [hq] at hd;cases hd
 | some code=>rw [hq] at hc;exact ZqD hf hq hb hc hr hN (Nat.le_of_ble_eq_true hA) ka kr h⟩
def zv0:LZ:=[.int .i64 0,.int .i64 0]
def zv1:LZ:=[.int .i64 0,.int .i64 0,.int .i64 0,.int .i64 0,.int .i64 0,.int .i64 0,.int .i64 0,.int .i64 0,.int .i64 0,.int .i64 0,.int .i64 0,.int .i64 0,.int .i64 0,.int .i64 0,.int .i64 0,.int .i64 0,.int .i64 0,.int .i64 0,.int .i64 0,.int .i64 0,.int .i64 0,.int .i64 0,.int .i64 0,.bool false]
def zv2:LZ:=[.slice none 0 0,.slice none 0 0,.int .i64 0,.int .i64 0,.int .i64 0,.int .i64 0,.int .i64 0,.int .i64 0,.int .i64 0,.int .i64 0,.int .i64 0,.int .i64 0,.int .i64 0,.int .i64 0,.int .i64 0,.int .i64 0,.int .i64 0,.int .i64 0,.int .i64 0,.int .i64 0,.int .i64 0,.int .i64 0,.int .i64 0,.int .i64 0,.int .i64 0,.int .i64 0,.int .i64 0,.bool false,.int .i64 0,.int .i64 0,.int .i64 0,.int .i64 0,.int .i64 0,.int .i64 0,.int .i64 0,.int .i64 0,.slice none 0 0,.int .i64 0]
def zv3:LZ:=[.int .i64 0,.int .i64 0,.int .i64 0]
def zv4:LZ:=[.slice none 0 0,.slice none 0 0,.int .i64 0,.int .i64 0,.int .i64 0,.int .i64 0,.int .i64 0,.int .i64 0,.int .i64 0,.int .i64 0,.int .i64 0,.int .i64 0,.int .i64 0,.int .i64 0,.int .i64 0,.int .i64 0,.int .i64 0,.int .i64 0,.int .i64 0,.int .i64 0,.int .i64 0,.int .i64 0,.int .i64 0,.int .i64 0,.int .i64 0,.int .i64 0,.int .i64 0,.bool false,.int .i64 0,.int .i64 0,.int .i64 0,.int .i64 0,.int .i64 0,.int .i64 0,.int .i64 0,.int .i64 0,.slice none 0 0]
def zv5:LZ:=[.int .i64 0,.int .i64 0,.int .i64 0,.int .i64 0,.int .i64 0,.int .i64 0,.bool false]
def zv6:LZ:=[.int .i64 0,.int .i64 0,.int .i64 0,.int .i64 0,.int .i64 0,.int .i64 0,.int .i64 0,.int .i64 0,.int .i64 0,.int .i64 0,.int .i64 0,.int .i64 0,.int .i64 0,.int .i64 0,.int .i64 0,.int .i64 0,.int .i64 0]
def zv7:LZ:=[.int .i64 0,.int .i64 0,.int .i64 0,.int .i64 0,.int .i64 0,.int .i64 0,.int .i64 0,.int .i64 0]
def zv8:LZ:=[.int .i64 0,.int .i64 0,.int .i64 0,.int .i64 0]
def zv9:LZ:=[.int .i64 0,.int .i64 0,.int .i64 0,.int .i64 0,.int .i64 0,.int .i64 0]
def Zr3:LZ:=[.slice none 0 0,.slice none 0 0,.int .i64 0,.int .i64 0]
def Zux:LZ:=[.slice none 0 0,.slice none 0 0,.slice none 0 0,.slice none 0 0]
def ZBR:LZ:=[.int .i64 0,.int .i64 0,.int .i64 0,.int .i64 0,.int .i64 0,.int .i64 0,.int .i64 0,.int .i64 0,.int .i64 0]
def ZAD:LZ:=[.int .i64 0,.int .i64 0,.int .i64 0,.int .i64 0,.slice none 0 0,.slice none 0 0]
def ZrV:LZ:=[.slice none 0 0,.int .i64 0,.int .i64 0]
def ZAw:LZ:=[.int .i64 0,.int .i64 0,.int .i64 0,.int .i64 0,.slice none 0 0]
def zv16:LZ:=[.int .u8 0,.int .i64 0,.int .i64 0,.int .i64 0,.int .i64 0,.int .i64 0,.int .i64 0,.int .i64 0,.int .i64 0,.int .i64 0,.int .i64 0]
def ZAy:LZ:=[.slice none 0 0,.slice none 0 0,.slice none 0 0]
def Zvj:LZ:=[.int .u8 0,.int .i64 0]
def ZEh:LZ:=[.slice none 0 0,.slice none 0 0]
attribute [go_sem] zv0 zv1 zv2 zv3 zv4 zv5 zv6 zv7 zv8 zv9 Zr3 Zux ZBR ZAD ZrV ZAw zv16 ZAy Zvj ZEh
end Go.Sx
namespace Go.Proofs.YtongccnhomncnaaGreatDoor
open Go Go.Sx
abbrev Cp:=Ct Tryz.prog
abbrev Cq:=CtM Tryz.prog
def c10:SC:=(sr1 [o1 2 (Jz 0 0 43),o1 3 (Jz 1 0 45),o1 4 (.alloc zv0 27),o1 5 (.alloc zv0 27),o1 6 (.alloc zv0 27),Jk 7 0] (sr1 [o1 8 (.mkf 36 [.t 2,.t 3,.t 4,.t 5,.t 6]),o1 9 (.callm 26 [.t 8]),m1 7 9] (.seq (.regd (Jr 8) [Jo 10 (lt 4 2),.hide (.t
 4),Jo 11 (lt 5 2),.hide (.t 5),Jo 12 (lt 6 2),.hide (.t 6),Jm 13 7] 0 3 [Ju 4 10 2 [0],Ju 5 11 2 [0,1,4],Ju 6 12 2 [0,1,2,4,5],⟨some 7,.mv (.t 13),none,(Jr 7)⟩]) .ret)))
def r10:List RV:=[.cell 4 2 true,.cell 5 2 true,.cell 6 2 true,.tmp 7]
theorem t10:Qt1 Tryz.prog 10 c10 r10 14:=ZF Tryz.func10
def c9:SC:=(sr1 [o1 5 (Jz 0 0 29),o1 6 (Jz 1 0 31),o1 7 (Jz 2 0 43),o1 8 (Jz 3 0 45),o1 9 (Jz 4 0 3),o1 10 (.alloc [.int .u8 0] 5),Jk 11 0] (sr1 [o1 12 (.mkf 27 [.t 7,.t 8,.t 5,.t 6,.t 9,.t 10]),o1 13 (.callm 26 [.t 12]),m1 11 13] (sr1 [o1 14 (lf 10 1),m1 15 11,Js 10 14 1,m1 11 15] .ret)))
def r9:List RV:=[.cell 10 1 false,.tmp 11]
theorem t9:Qt1 Tryz.prog 9 c9 r9 16:=ZF Tryz.func9
def c82:SC:=(sr1 [o1 1 (Jz 0 0 48),o1 2 (.alloc zv0 27),o1 3 (.alloc zv0 27),o1 4 (.mv (.c (.int .u8 0))),Jk 5 0] (.seq (sr1 [o1 6 (lt 1 11),o1 7 (J1 76 6),o1 8 (Jh 7)] (Ji 8 (.seq (.regd (Jr 6) [Jo 9 (.ld (.g 0) 2 true),.hide (.t 2),Jo 10 (.ld (.g 0)
 2 true)] 0 4 [Ju 2 9 2 [0],Ju 3 10 2 [0,1,2],⟨some 4,.mv (.c (.int .u8 0)),none,(Jr 4)⟩,⟨some 5,.mv (cn 50),none,(Jr 5)⟩]) .ret) .skip)) (.seq (.regd (Jr 14) [Jo 12 (.call 130 []),Jo 13 (ao 1 0),Jp 14 (lf 13 1) [1],Jp 15 (.rv (Go.Op.lookup 252
 (Go.Operand.tmp 12) (Go.Operand.tmp 14) Bool.false) [.t 12,.t 14]) [0,2],Jp 16 (.fld (.t 15) 1 1 false) [3],Jo 17 (lt 1 11),Jp 18 (.calv (.t 16) [.t 17]) [0,4,5],Jp 11 (.mv (.t 18)) [6],Jp 19 (Je 11 0) [7],.hide (.t 2),Jp 20 (Je 11 1) [7],.hide (.t
 3),Jp 21 (Je 11 2) [7]] 0 3 [Ju 2 19 2 (Jr 9),Ju 3 20 2 [0,1,2,3,4,5,6,7,8,9,11],⟨some 4,.mv (.t 21),none,(Jr 13)⟩]) (.seq (.regd (Jr 7) [Jo 22 (lt 2 2),.hide (.t 2),Jo 23 (lt 3 2),.hide (.t 3),Jm 24 4] 0 2 [Ju 2 22 2 [0],Ju 3 23 2 [0,1,3],⟨some
 4,.mv (.t 24),none,(Jr 5)⟩,⟨some 5,.mv (cn 0),none,(Jr 6)⟩]) .ret))))
def r82:List RV:=[.cell 2 2 true,.cell 3 2 true,.tmp 4,.tmp 5]
theorem t82:Qt1 Tryz.prog 82 c82 r82 25:=ZF Tryz.func82
def c28:SC:=(sr1 [m1 12 0,o1 13 (Jl 12),o1 14 (Jc .leq 13 30),m1 15 14,g1 16 15 true (.mv (.t 0)),g1 17 15 true (.call 75 [.t 16,.f 76]),o1 18 (.pick (.t 15) (.t 17) Jf),o1 19 (.callm 30 [.t 18,cn 50])] (sr1 [o1 20 (.raw (Go.Op.makeMap 168
 Option.none) 168),m1 4 20] (sr1 [Jk 5 0] (.seq (sr1 [m1 21 1,o1 22 (Jl 21),Jk 23 0] (.block 0 (.loop (sr1 [o1 24 (Jb .lss 23 22)] (.seq (Ji 24 .skip (.exit 0)) (.seq (.block 1 (sr1 [o1 25 (Jx 21 23 3),o1 26 (lt 25 3),o1 7 (.alloc ZAy 45),Js 7 26 3]
 (.seq (sr1 [o1 27 (lt 7 3),o1 28 (J1 77 27),Jk 29 0] (.block 2 (.loop (sr1 [o1 30 (Jc .lss 29 3)] (.seq (Ji 30 .skip (.exit 2)) (.seq (.block 3 (sr1 [o1 31 (.idx (.t 28) (.t 29) 3 1 false),m1 9 31] (sr1 [m1 32 9,m1 33 0,o1 34 (Jl 33),o1 35 (J2 78 32
 34),o1 36 (.callm 30 [.t 35,cn 51])] (.seq (sr1 [m1 37 9,o1 38 (Jl 37),Jk 39 0] (.block 4 (.loop (sr1 [o1 40 (Jb .lss 39 38)] (.seq (Ji 40 .skip (.exit 4)) (.seq (.block 5 (sr1 [o1 41 (Jx 37 39 1),o1 42 (lf 41 1),m1 11 42] (.reg [m1 43 4,m1 44
 11,⟨none,.raw (Go.Op.mapUpdate 168 (Go.Operand.tmp 43) (Go.Operand.tmp 44) (Go.Operand.const (Go.Value.bool Bool.true))) 0,none,[]⟩]))) (.reg [o1 45 (Jc .add 39 1),m1 39 45]))))))) (.reg [m1 46 5,m1 47 9,o1 48 (Jl 47),o1 49 (Jb .add 46 48),m1 5
 49]))))) (.reg [o1 50 (Jc .add 29 1),m1 29 50]))))))) (.reg [o1 51 (lt 7 3),o1 52 (J1 34 51),o1 53 (Jl 52),o1 54 (Jc .leq 53 10),o1 55 (.callm 30 [.t 54,cn 51])])))) (.reg [o1 56 (Jc .add 23 1),m1 23 56]))))))) (.reg [m1 57 1,o1 58 (Jl 57),o1 59 (Jc
 .leq 58 8),m1 60 59,g1 61 60 true (.mv (.t 4)),g1 62 60 true (.raw (Go.Op.call { callee:=(Go.Callee.builtin Go.Builtin.len),args:=#[(Go.Operand.tmp 61)],argTypes:=#[168] }) 3),g1 63 60 true (.mv (.t 5)),g1 64 60 true (Jb .eql 62 63),o1 65 (.pick (.t
 60) (.t 64) Jf),o1 66 (.callm 30 [.t 65,cn 51])])))))
def r28:List RV:=[]
theorem n28:Tryz.f28.ntmps=67:=by kernel_rfl
theorem b28:Z4 Tryz.prog 28=true:=by kernel_rfl
theorem ZCU:YR Tryz.prog c28 ((Tryz.f28.body).getD .skip)=true:=by kernel_rfl
theorem ZCA:Y2 Tryz.prog r28 Tryz.f28.results.toList=true:=by kernel_rfl
theorem m28 {n0:Nat} {hp0:Lh} {args:Ls} {Zz:Ot->Prop} (hh:hpb n0 hp0) (hx:∀ o,Zz o->KX o.res/\KXP o.hp) (h:sx Tryz.prog Y0 n0 c28 ⟨YT 0 args,hp0,n0,67,[]⟩ (X0 r28 λo=>∃ o',Zz o'/\WI n0 o o')) (hA:Nat.ble args.length 67=true:=by rfl):Cq 28 hp0 n0 args Zz:=ZB Tryz.func28 rfl b28 ZCU ZCA n28 (Nat.le_of_ble_eq_true hA) hh hx h
def c31:SC:=(.reg [m1 2 0,o1 3 (.bsl 1 3 [.t 2]),o1 4 (.call 81 [cn 0,cn 1000000000,.t 3]),o1 5 (.callm 30 [.t 4,cn 2])])
def r31:List RV:=[]
theorem n31:Tryz.f31.ntmps=6:=by kernel_rfl
theorem b31:Z4 Tryz.prog 31=true:=by kernel_rfl
theorem ZCu:YR Tryz.prog c31 ((Tryz.f31.body).getD .skip)=true:=by kernel_rfl
theorem ZBm:Y2 Tryz.prog r31 Tryz.f31.results.toList=true:=by kernel_rfl
theorem m31 {n0:Nat} {hp0:Lh} {args:Ls} {Zz:Ot->Prop} (hh:hpb n0 hp0) (hx:∀ o,Zz o->KX o.res/\KXP o.hp) (h:sx Tryz.prog Y0 n0 c31 ⟨YT 0 args,hp0,n0,6,[]⟩ (X0 r31 λo=>∃ o',Zz o'/\WI n0 o o')) (hA:Nat.ble args.length 6=true:=by rfl):Cq 31 hp0 n0 args Zz:=ZB Tryz.func31 rfl b31 ZCu ZBm n31 (Nat.le_of_ble_eq_true hA) hh hx h
def c32:SC:=(sr1 [o1 2 (.mv (.c (.slice none 0 0)))] (sr1 [o1 3 (.mv (.c (.slice none 0 0)))] (.seq (sr1 [m1 10 0,o1 11 (Jl 10),Jk 12 0] (.block 0 (.loop (sr1 [o1 13 (Jb .lss 12 11)] (.seq (Ji 13 .skip (.exit 0)) (.seq (.block 1 (sr1 [o1 14 (Jx 10 12
 11),o1 15 (lt 14 11),o1 5 (.alloc zv16 48),Js 5 15 11] (sr1 [o1 17 (lt 5 11),o1 18 (J1 82 17),m1 16 18,o1 19 (Je 16 0),o1 20 (Je 16 1),o1 21 (Je 16 2),o1 22 (Je 16 3),o1 6 (.alloc zv0 27),o1 7 (.alloc zv0 27),Js 6 19 2,Js 7 20 2,m1 8 21,m1 9 22]
 (.reg [m1 23 3,o1 24 (lt 6 2),o1 25 (.bsl 2 27 [.t 24]),o1 26 (.appm 2 16 27 (.t 23) (.t 25)),m1 3 26])))) (.reg [o1 27 (Jc .add 12 1),m1 12 27]))))))) (sr1 [m1 28 3,m1 2 28] .ret))))
def r32:List RV:=[.tmp 2]
theorem t32:Qt1 Tryz.prog 32 c32 r32 29:=ZF Tryz.func32
def c35:SC:=(sr1 [o1 2 (Jz 0 0 100),o1 4 (.mv (.c (.int .u8 0)))] (.seq (.regd (Jr 14) [Jo 9 (lt 2 4),Jo 10 (ao 2 0),Jp 11 (ao 10 0) [1],Jp 12 (lf 11 1) [2],Jp 13 (J2 33 9 12) [0,3],Jo 14 (lt 2 4),Jo 15 (ao 2 0),Jp 16 (ao 15 1) [6],Jp 17 (lf 16 1)
 [7],Jp 18 (J2 33 14 17) [4,5,8]] 2 2 [o1 5 (.alloc zv0 27),o1 6 (.alloc zv0 27),Ju 5 13 2 [0,1,2,3,4,9,10,11],Ju 6 18 2 (Jr 13)]) (.seq (.seq (.regd (Jr 12) [Jo 19 (ao 5 0),Jp 20 (lf 19 1) [0],Jo 21 (ao 6 1),Jp 22 (lf 21 1) [2],Jp 23 (Jb .sub 20 22)
 [1,3],Jo 24 (ao 5 1),Jp 25 (lf 24 1) [5],Jo 26 (ao 6 0),Jp 27 (lf 26 1) [7],Jp 28 (Jb .sub 25 27) [6,8],Jp 7 (.mv (.t 23)) (Jr 5),Jp 8 (.mv (.t 28)) (Jr 11)] 0 0 []) (.block 0 (sr1 [m1 30 1,o1 31 (.un .neg (.t 30)),m1 32 1,m1 33 7,m1 34 8,o1 35 (.bsl
 1 3 [.t 33,.t 34]),o1 36 (J3 81 31 32 35),m1 29 36] (Ji 29 (sr1 [o1 4 (.mv (.c (.int .u8 2)))] .ret) (sr1 [m1 38 7,m1 39 1,o1 40 (Jb .gtr 38 39),m1 41 40,g1 42 41 false (.mv (.t 8)),g1 43 41 false (.mv (.t 1)),g1 44 41 false (.un .neg (.t 43)),g1 45
 41 false (Jb .lss 42 44),o1 46 (.pick (.t 41) Jt (.t 45)),m1 37 46] (Ji 37 (sr1 [o1 4 (.mv (.c (.int .u8 0)))] .ret) .skip)))))) (sr1 [o1 4 (.mv (.c (.int .u8 1)))] .ret))))
def r35:List RV:=[.tmp 4]
theorem t35:Qt1 Tryz.prog 35 c35 r35 47:=ZF Tryz.func35
def c36:SC:=(sr1 [o1 6 (lf 0 1),o1 7 (lt 1 3),o1 8 (.bsl 3 45 [.t 7]),o1 9 (.callm 28 [.t 6,.t 8])] (.seq (.regd (Jr 6) [Jo 10 (lt 1 3),Jo 11 (lf 0 1),Jp 12 (J1 32 11) [1],Jp 13 (.build Zux [(0,3,.t 10),(3,1,.t 12)]) [0,2]] 1 1 [o1 5 (.alloc Zux
 100),Ju 5 13 4 (Jr 5)]) (.regd (Jr 17) [Jo 14 (lt 5 4),Jo 15 (ao 5 0),Jp 16 (ao 15 0) [1],Jp 17 (lf 16 1) [2],Jp 18 (J2 33 14 17) [0,3],Jo 19 (lt 5 4),Jo 20 (ao 5 0),Jp 21 (ao 20 1) [6],Jp 22 (lf 21 1) [7],Jp 23 (J2 33 19 22) [4,5,8],Jo 24 (lt 5
 4),Jo 25 (lt 1 3),Jp 26 (J1 34 25) [9,11],Jp 27 (J2 33 24 26) [10,12]] 0 3 [Ju 2 18 2 [0,1,2,3,4,9,11,12,13],Ju 3 23 2 [0,1,2,3,4,5,6,7,8,9,11,12,13,14],Ju 4 27 2 (Jr 16)])))
def r36:List RV:=[]
theorem n36:Tryz.f36.ntmps=28:=by kernel_rfl
theorem b36:Z4 Tryz.prog 36=true:=by kernel_rfl
theorem ZBx:YR Tryz.prog c36 ((Tryz.f36.body).getD .skip)=true:=by kernel_rfl
theorem ZB8:Y2 Tryz.prog r36 Tryz.f36.results.toList=true:=by kernel_rfl
theorem m36 {n0:Nat} {hp0:Lh} {args:Ls} {Zz:Ot->Prop} (hh:hpb n0 hp0) (hx:∀ o,Zz o->KX o.res/\KXP o.hp) (h:sx Tryz.prog Y0 n0 c36 ⟨YT 0 args,hp0,n0,28,[]⟩ (X0 r36 λo=>∃ o',Zz o'/\WI n0 o o')) (hA:Nat.ble args.length 28=true:=by rfl):Cq 36 hp0 n0 args Zz:=ZB Tryz.func36 rfl b36 ZBx ZB8 n36 (Nat.le_of_ble_eq_true hA) hh hx h
def c33:SC:=(sr1 [o1 2 (Jz 0 0 100),o1 4 (.alloc zv0 27)] (sr1 [o1 5 (.mv (.c (.slice none 0 0)))] (.seq (sr1 [m1 8 1,o1 9 (Jl 8),Jk 10 0] (.block 0 (.loop (sr1 [o1 11 (Jb .lss 10 9)] (.seq (Ji 11 .skip (.exit 0)) (.seq (.block 1 (sr1 [o1 12 (Jx 8 10
 1),o1 13 (lf 12 1),m1 7 13] (.reg [m1 14 5,o1 15 (ao 2 3),o1 16 (lf 15 1),m1 17 7,o1 18 (Jx 16 17 2),o1 19 (lt 18 2),o1 20 (.bsl 2 27 [.t 19]),o1 21 (.appm 2 16 27 (.t 14) (.t 20)),m1 5 21]))) (.reg [o1 22 (Jc .add 10 1),m1 10 22]))))))) (sr1 [m1 23
 5,o1 24 (J1 83 23),Js 4 24 2] .ret))))
def r33:List RV:=[.cell 4 2 true]
theorem t33:Qt1 Tryz.prog 33 c33 r33 25:=ZF Tryz.func33
def c34:SC:=(sr1 [o1 1 (Jz 0 0 45),o1 2 (.mv (.c (.slice none 0 0)))] (sr1 [o1 3 (ao 1 0),o1 4 (lf 3 1),o1 5 (ao 1 1),o1 6 (lf 5 1),o1 7 (ao 1 2),o1 8 (lf 7 1),o1 9 (.bsl 1 35 [.t 4,.t 6,.t 8]),o1 10 (J1 84 9),m1 2 10] .ret))
def r34:List RV:=[.tmp 2]
theorem t34:Qt1 Tryz.prog 34 c34 r34 11:=ZF Tryz.func34
def c27:SC:=(sr1 [o1 10 (lf 0 1),o1 11 (lt 1 3),o1 12 (.bsl 3 45 [.t 11]),o1 13 (.callm 28 [.t 10,.t 12])] (sr1 [o1 15 (lt 2 17),o1 16 (lt 3 7),o1 17 (J2 29 15 16),m1 14 17,o1 18 (Je 14 0),o1 19 (Je 14 1),o1 6 (.alloc zv0 27),Js 6 18 2,m1 7 19] (sr1
 [m1 20 7,o1 21 (Jc .eql 20 0),m1 22 7,o1 23 (.callm 30 [.t 21,.t 22])] (sr1 [o1 24 (lf 4 1),o1 25 (.callm 31 [.t 24])] (.seq (.regd (Jr 6) [Jo 26 (lt 1 3),Jo 27 (lf 0 1),Jp 28 (J1 32 27) [1],Jp 29 (.build Zux [(0,3,.t 26),(3,1,.t 28)]) [0,2]] 1 1 [o1
 8 (.alloc Zux 100),Ju 8 29 4 (Jr 5)]) (.seq (.regd (Jr 6) [Jo 30 (lt 8 4),Jo 31 (lt 1 3),Jp 32 (J1 34 31) [1],Jp 33 (J2 33 30 32) [0,2]] 1 1 [o1 9 (.alloc zv0 27),Ju 9 33 2 (Jr 5)]) (sr1 [o1 34 (lt 8 4),o1 35 (lf 4 1),o1 36 (J2 35 34 35),Js 5 36 1]
 (.seq (sr1 [o1 37 (ao 9 0),o1 38 (lf 37 1),o1 39 (ao 6 1),o1 40 (lf 39 1),o1 41 (Jb .gtr 38 40)] (Ji 41 (.reg [Jv 5 (.c (.int .u8 0)) 1]) .skip)) (sr1 [o1 42 (lf 5 1),o1 43 (.bin .eql (.t 42) (.c (.int .u8 2))),m1 44 43,g1 45 44 true (ao 9 1),g1 46
 44 true (lf 45 1),g1 47 44 true (ao 6 0),g1 48 44 true (lf 47 1),g1 49 44 true (Jb .gtr 46 48),o1 50 (.pick (.t 44) (.t 49) Jf)] (Ji 50 (.reg [Jv 5 (.c (.int .u8 1)) 1]) .skip))))))))))
def r27:List RV:=[]
theorem n27:Tryz.f27.ntmps=51:=by kernel_rfl
theorem b27:Z4 Tryz.prog 27=true:=by kernel_rfl
theorem ZDF:YR Tryz.prog c27 ((Tryz.f27.body).getD .skip)=true:=by kernel_rfl
theorem ZBe:Y2 Tryz.prog r27 Tryz.f27.results.toList=true:=by kernel_rfl
theorem m27 {n0:Nat} {hp0:Lh} {args:Ls} {Zz:Ot->Prop} (hh:hpb n0 hp0) (hx:∀ o,Zz o->KX o.res/\KXP o.hp) (h:sx Tryz.prog Y0 n0 c27 ⟨YT 0 args,hp0,n0,51,[]⟩ (X0 r27 λo=>∃ o',Zz o'/\WI n0 o o')) (hA:Nat.ble args.length 51=true:=by rfl):Cq 27 hp0 n0 args Zz:=ZB Tryz.func27 rfl b27 ZDF ZBe n27 (Nat.le_of_ble_eq_true hA) hh hx h
def c30:SC:=(sr1 [m1 4 0,o1 5 (Jh 4)] (Ji 5 (.reg [m1 6 1,o1 7 (.raw (Go.Op.makeInterface 40 (Go.Operand.tmp 6)) 20),⟨none,.raw (Go.Op.panic (Go.Operand.tmp 7)) 0,none,[]⟩]) .skip))
def r30:List RV:=[]
theorem n30:Tryz.f30.ntmps=8:=by kernel_rfl
theorem b30:Z4 Tryz.prog 30=true:=by kernel_rfl
theorem ZC1:YR Tryz.prog c30 ((Tryz.f30.body).getD .skip)=true:=by kernel_rfl
theorem ZCK:Y2 Tryz.prog r30 Tryz.f30.results.toList=true:=by kernel_rfl
theorem m30 {n0:Nat} {hp0:Lh} {args:Ls} {Zz:Ot->Prop} (hh:hpb n0 hp0) (hx:∀ o,Zz o->KX o.res/\KXP o.hp) (h:sx Tryz.prog Y0 n0 c30 ⟨YT 0 args,hp0,n0,8,[]⟩ (X0 r30 λo=>∃ o',Zz o'/\WI n0 o o')) (hA:Nat.ble args.length 8=true:=by rfl):Cq 30 hp0 n0 args Zz:=ZB Tryz.func30 rfl b30 ZC1 ZCK n30 (Nat.le_of_ble_eq_true hA) hh hx h
def c130:SC:=(sr1 [o1 0 (.mv (.c (.map none)))] (sr1 [o1 1 (.raw (Go.Op.makeMap 252 Option.none) 252),o1 2 (.build [.nilFunc,.nilFunc] [(0,1,.f 204),(1,1,.f 205)]),⟨none,.raw (Go.Op.insert 252 (Go.Operand.tmp 1) (Go.Operand.const (Go.Value.int
 Go.IntKind.u8 1)) (Go.Operand.tmp 2)) 0,none,[]⟩,o1 3 (.build [.nilFunc,.nilFunc] [(0,1,.f 206),(1,1,.f 207)]),⟨none,.raw (Go.Op.insert 252 (Go.Operand.tmp 1) (Go.Operand.const (Go.Value.int Go.IntKind.u8 2)) (Go.Operand.tmp 3)) 0,none,[]⟩,o1 4
 (.build [.nilFunc,.nilFunc] [(0,1,.f 208),(1,1,.f 209)]),⟨none,.raw (Go.Op.insert 252 (Go.Operand.tmp 1) (Go.Operand.const (Go.Value.int Go.IntKind.u8 3)) (Go.Operand.tmp 4)) 0,none,[]⟩,m1 5 1,m1 0 5] .ret))
def r130:List RV:=[.tmp 0]
theorem n130:Tryz.f130.ntmps=6:=by kernel_rfl
theorem b130:Z4 Tryz.prog 130=true:=by kernel_rfl
theorem Zwb:YR Tryz.prog c130 ((Tryz.f130.body).getD .skip)=true:=by kernel_rfl
theorem ZwZ:Y2 Tryz.prog r130 Tryz.f130.results.toList=true:=by kernel_rfl
theorem m130 {n0:Nat} {hp0:Lh} {args:Ls} {Zz:Ot->Prop} (hh:hpb n0 hp0) (hx:∀ o,Zz o->KX o.res/\KXP o.hp) (h:sx Tryz.prog Y0 n0 c130 ⟨YT 0 args,hp0,n0,6,[]⟩ (X0 r130 λo=>∃ o',Zz o'/\WI n0 o o')) (hA:Nat.ble args.length 6=true:=by rfl):Cq 130 hp0 n0 args Zz:=ZB Tryz.func130 rfl b130 Zwb ZwZ n130 (Nat.le_of_ble_eq_true hA) hh hx h
def c81:SC:=(sr1 [o1 3 (Jz 0 0 3),o1 4 (Jz 1 0 3),Jw 6 Jf] (sr1 [m1 7 2,o1 8 (.mkf 138 [.t 3,.t 4]),o1 9 (J2 107 7 8),o1 10 (Jh 9),m1 6 10] .ret))
def r81:List RV:=[.tmp 6]
theorem t81:Qt1 Tryz.prog 81 c81 r81 11:=ZF Tryz.func81
def c77:SC:=(sr1 [o1 1 (Jz 0 0 45),o1 2 (.alloc ZAy 169)] (sr1 [o1 3 (ao 1 0),o1 4 (lf 3 1),o1 5 (ao 1 1),o1 6 (lf 5 1),o1 7 (ao 1 2),o1 8 (lf 7 1),o1 9 (.build ZAy [(0,1,.t 4),(1,1,.t 6),(2,1,.t 8)]),Js 2 9 3] .ret))
def r77:List RV:=[.cell 2 3 true]
theorem t77:Qt1 Tryz.prog 77 c77 r77 10:=ZF Tryz.func77
def c75:SC:=(sr1 [o1 3 (Jz 1 0 167),Jw 4 Jf] (sr1 [m1 5 0,o1 6 (.mkf 129 [.t 3]),o1 7 (J2 128 5 6),o1 8 (Jh 7),m1 4 8] .ret))
def r75:List RV:=[.tmp 4]
theorem t75:Qt1 Tryz.prog 75 c75 r75 9:=ZF Tryz.func75
def c83:SC:=(sr1 [o1 2 (.alloc zv0 27)] (.seq (sr1 [m1 5 0,o1 6 (Jl 5),Jk 7 0] (.block 0 (.loop (sr1 [o1 8 (Jb .lss 7 6)] (.seq (Ji 8 .skip (.exit 0)) (.seq (.block 1 (sr1 [o1 9 (Jx 5 7 2),o1 10 (lt 9 2),o1 4 (.alloc zv0 27),Js 4 10 2] (.regd
 [0,1,2,3,4,5,6,10,7,8,9,11,12,13] [Jo 11 (ao 2 0),Jp 12 (lf 11 1) [0],Jo 13 (ao 4 0),Jp 14 (lf 13 1) [2],Jp 15 (Jb .add 12 14) [1,3],Jo 16 (ao 2 1),Jp 17 (lf 16 1) [5],Jp 21 (ao 2 0) (Jr 7),.hide (.t 21),Jo 18 (ao 4 1),Jp 19 (lf 18 1) [7],Jp 20 (Jb
 .add 17 19) [6,8]] 0 1 [Ju 21 15 1 [0,1,2,3,4,5,6,10],⟨some 22,ao 2 1,none,(Jr 12)⟩,Ju 22 20 1 (Jr 13)]))) (.reg [o1 23 (Jc .add 7 1),m1 7 23]))))))) (sr1 [o1 24 (lt 2 2),Js 2 24 2] .ret)))
def r83:List RV:=[.cell 2 2 true]
theorem t83:Qt1 Tryz.prog 83 c83 r83 25:=ZF Tryz.func83
def c84:SC:=(sr1 [o1 2 (.mv (.c (.slice none 0 0)))] (sr1 [Jk 3 0] (.seq (sr1 [m1 9 0,o1 10 (Jl 9),Jk 11 0] (.block 0 (.loop (sr1 [o1 12 (Jb .lss 11 10)] (.seq (Ji 12 .skip (.exit 0)) (.seq (.block 1 (sr1 [o1 13 (Jx 9 11 1),o1 14 (lf 13 1),m1 5 14]
 (sr1 [m1 15 3,m1 16 5,o1 17 (Jl 16),o1 18 (Jb .add 15 17),m1 3 18] (sr1 [m1 19 3,o1 20 (Jc .lss 19 0)] (Ji 20 (.reg [o1 21 (.raw (Go.Op.makeInterface 9 (Go.Operand.const (Go.Value.string { data:=#[108,101,110,32,111,117,116,32,111,102,32,114,97,110,103,101] })))
 20),⟨none,.raw (Go.Op.panic (Go.Operand.tmp 21)) 0,none,[]⟩]) .skip))))) (.reg [o1 22 (Jc .add 11 1),m1 11 22]))))))) (sr1 [m1 23 3,o1 24 (.callm 139 [.c (.slice none 0 0),.t 23]),m1 6 24] (.gh (.seq (sr1 [m1 25 0,o1 26 (Jl 25),Jk 27 0] (.block 2
 (.loop (sr1 [o1 28 (Jb .lss 27 26)] (.seq (Ji 28 .skip (.exit 2)) (.seq (.block 3 (sr1 [o1 29 (Jx 25 27 1),o1 30 (lf 29 1),m1 8 30] (.reg [m1 31 6,m1 32 8,o1 33 (.appm 1 8 3 (.t 31) (.t 32)),m1 6 33]))) (.reg [o1 34 (Jc .add 27 1),m1 27 34])))))))
 (sr1 [m1 35 6,m1 2 35] .ret)))))))
def r84:List RV:=[.tmp 2]
theorem t84:Qt1 Tryz.prog 84 c84 r84 36:=ZF Tryz.func84
def c131:SC:=(sr1 [o1 3 (Jz 0 0 27),Jw 6 Jf] (sr1 [o1 7 (ao 3 0),o1 8 (lf 7 1),o1 9 (ao 3 1),o1 10 (lf 9 1),o1 11 (Jb .leq 8 10),m1 12 11,g1 13 12 true (.mv (.t 1)),g1 14 12 true (.mv (.t 2)),g1 15 12 true (ao 3 0),g1 16 12 true (lf 15 1),g1 17 12
 true (ao 3 1),g1 18 12 true (lf 17 1),g1 19 12 true (.bsl 1 3 [.t 16,.t 18]),g1 20 12 true (J3 81 13 14 19),o1 21 (.pick (.t 12) (.t 20) Jf),m1 6 21] .ret))
def r131:List RV:=[.tmp 6]
theorem t131:Qt1 Tryz.prog 131 c131 r131 22:=ZF Tryz.func131
def c204:SC:=(sr1 [o1 1 (Jz 0 0 48),Jw 2 Jf] (sr1 [o1 3 (ao 1 3),o1 4 (lt 3 2),o1 5 (.call 131 [.t 4,cn 1,cn 100000]),m1 6 5,g1 7 6 true (ao 1 5),g1 8 6 true (lt 7 2),g1 9 6 true (.call 131 [.t 8,cn 0,cn 1000]),o1 10 (.pick (.t 6) (.t 9) Jf),m1 11
 10,g1 12 11 true (ao 1 7),g1 13 11 true (lt 12 2),g1 14 11 true (.ld (.g 0) 2 true),g1 15 11 true (.eqs false true [1,1] (.t 13) (.t 14)),o1 16 (.pick (.t 11) (.t 15) Jf),m1 2 16] .ret))
def r204:List RV:=[.tmp 2]
theorem t204:Qt1 Tryz.prog 204 c204 r204 17:=ZF Tryz.func204
def c205:SC:=(sr1 [o1 1 (Jz 0 0 48),o1 2 (.alloc zv0 27),o1 3 (.alloc zv0 27),o1 4 (.mv (.c (.int .u8 0)))] (sr1 [o1 5 (ao 1 1),o1 6 (lt 5 2),Js 2 6 2] (.seq (sr1 [o1 7 (ao 1 9),o1 8 (lf 7 1),o1 9 (ao 1 3),o1 10 (ao 9 0),o1 11 (lf 10 1),o1 12 (Jb .lss
 8 11)] (Ji 12 (.seq (.regd (Jr 5) [Jo 13 (lt 2 2),.hide (.t 2),Jo 14 (.ld (.g 0) 2 true)] 0 3 [Ju 2 13 2 [0],Ju 3 14 2 [0,1,2],⟨some 4,.mv (.c (.int .u8 0)),none,(Jr 4)⟩]) .ret) .skip)) (sr1 [o1 16 (ao 1 1),o1 17 (ao 16 0),o1 18 (lf 17 1),o1 19 (ao 1
 5),o1 20 (ao 19 1),o1 21 (lf 20 1),o1 22 (.bin .sub (cn 1000) (.t 21)),o1 23 (J2 268 18 22),m1 15 23,o1 24 (Je 15 0),o1 25 (Je 15 1),o1 26 (ao 2 0),Js 26 24 1] (sr1 [o1 28 (ao 1 1),o1 29 (ao 28 1),o1 30 (lf 29 1),o1 31 (ao 1 5),o1 32 (ao 31 1),o1 33
 (lf 32 1),o1 34 (J2 268 30 33),m1 27 34,o1 35 (Je 27 0),o1 36 (Je 27 1),o1 37 (ao 3 1),Js 37 36 1] (.seq (sr1 [o1 38 (ao 1 9),o1 39 (lf 38 1),o1 40 (ao 1 3),o1 41 (ao 40 1),o1 42 (lf 41 1),o1 43 (Jb .lss 39 42)] (Ji 43 (.seq (.regd (Jr 5) [Jo 44 (lt
 2 2),.hide (.t 2),Jo 45 (lt 3 2)] 0 3 [Ju 2 44 2 [0],Ju 3 45 2 [0,1,2],⟨some 4,.mv (.c (.int .u8 1)),none,(Jr 4)⟩]) .ret) .skip)) (sr1 [o1 47 (ao 1 1),o1 48 (ao 47 1),o1 49 (lf 48 1),o1 50 (ao 1 5),o1 51 (ao 50 0),o1 52 (lf 51 1),o1 53 (.bin .sub (cn
 1000) (.t 52)),o1 54 (J2 268 49 53),m1 46 54,o1 55 (Je 46 0),o1 56 (Je 46 1),o1 57 (ao 2 1),Js 57 56 1] (sr1 [o1 59 (ao 1 1),o1 60 (ao 59 0),o1 61 (lf 60 1),o1 62 (ao 1 5),o1 63 (ao 62 0),o1 64 (lf 63 1),o1 65 (J2 268 61 64),m1 58 65,o1 66 (Je 58
 0),o1 67 (Je 58 1),o1 68 (ao 3 0),Js 68 66 1] (.seq (.regd (Jr 5) [Jo 69 (lt 2 2),.hide (.t 2),Jo 70 (lt 3 2)] 0 3 [Ju 2 69 2 [0],Ju 3 70 2 [0,1,2],⟨some 4,.mv (.c (.int .u8 2)),none,(Jr 4)⟩]) .ret)))))))))
def r205:List RV:=[.cell 2 2 true,.cell 3 2 true,.tmp 4]
theorem t205:Qt1 Tryz.prog 205 c205 r205 71:=ZF Tryz.func205
def c206:SC:=(sr1 [o1 1 (Jz 0 0 48),Jw 2 Jf] (sr1 [o1 3 (ao 1 3),o1 4 (lt 3 2),o1 5 (.ld (.g 0) 2 true),o1 6 (.eqs false true [1,1] (.t 4) (.t 5)),m1 7 6,g1 8 7 true (ao 1 5),g1 9 7 true (lt 8 2),g1 10 7 true (.ld (.g 0) 2 true),g1 11 7 true (.eqs
 false true [1,1] (.t 9) (.t 10)),o1 12 (.pick (.t 7) (.t 11) Jf),m1 13 12,g1 14 13 true (ao 1 7),g1 15 13 true (lt 14 2),g1 16 13 true (.ld (.g 0) 2 true),g1 17 13 true (.eqs false true [1,1] (.t 15) (.t 16)),o1 18 (.pick (.t 13) (.t 17) Jf),m1 2 18]
 .ret))
def r206:List RV:=[.tmp 2]
theorem t206:Qt1 Tryz.prog 206 c206 r206 19:=ZF Tryz.func206
def c207:SC:=(sr1 [o1 1 (Jz 0 0 48),o1 2 (.alloc zv0 27),o1 3 (.alloc zv0 27),o1 4 (.mv (.c (.int .u8 0)))] (.seq (.regd (Jr 6) [Jo 5 (ao 1 1),Jp 6 (lt 5 2) [0],.hide (.t 2),Jo 7 (.ld (.g 0) 2 true)] 0 3 [Ju 2 6 2 [0,1],Ju 3 7 2 (Jr 4),⟨some 4,.mv (.c (.int .u8 0)),none,(Jr 5)⟩]) .ret))
def r207:List RV:=[.cell 2 2 true,.cell 3 2 true,.tmp 4]
theorem t207:Qt1 Tryz.prog 207 c207 r207 8:=ZF Tryz.func207
def c208:SC:=(sr1 [o1 1 (Jz 0 0 48),Jw 2 Jf] (sr1 [o1 3 (ao 1 3),o1 4 (lt 3 2),o1 5 (.ld (.g 0) 2 true),o1 6 (.eqs false true [1,1] (.t 4) (.t 5)),m1 7 6,g1 8 7 true (ao 1 5),g1 9 7 true (lt 8 2),g1 10 7 true (.ld (.g 0) 2 true),g1 11 7 true (.eqs
 false true [1,1] (.t 9) (.t 10)),o1 12 (.pick (.t 7) (.t 11) Jf),m1 13 12,g1 14 13 true (ao 1 7),g1 15 13 true (lt 14 2),g1 16 13 true (.call 131 [.t 15,cn 0,cn 1000000]),o1 17 (.pick (.t 13) (.t 16) Jf),m1 2 17] .ret))
def r208:List RV:=[.tmp 2]
theorem t208:Qt1 Tryz.prog 208 c208 r208 18:=ZF Tryz.func208
def c209:SC:=(sr1 [o1 1 (Jz 0 0 48),o1 2 (.alloc zv0 27),o1 3 (.alloc zv0 27),o1 4 (.mv (.c (.int .u8 0)))] (sr1 [o1 6 (ao 1 7),o1 7 (ao 6 0),o1 8 (lf 7 1),o1 9 (ao 1 10),o1 10 (lf 9 1),o1 11 (Jb .mul 8 10),o1 12 (ao 1 7),o1 13 (ao 12 1),o1 14 (lf 13
 1),o1 15 (ao 1 10),o1 16 (lf 15 1),o1 17 (Jb .mul 14 16),o1 18 (.build zv0 [(0,1,.t 11),(1,1,.t 17)]),o1 5 (.alloc zv0 27),Js 5 18 2] (sr1 [o1 19 (ao 1 1),o1 20 (ao 19 0),o1 21 (lf 20 1),o1 22 (ao 5 1),o1 23 (lf 22 1),o1 24 (Jb .sub 21 23),o1 25 (.mm
 true [.t 24,cn 0]),o1 26 (ao 1 1),o1 27 (ao 26 1),o1 28 (lf 27 1),o1 29 (ao 5 0),o1 30 (lf 29 1),o1 31 (Jb .sub 28 30),o1 32 (.mm true [.t 31,cn 0]),o1 33 (.build zv0 [(0,1,.t 25),(1,1,.t 32)]),Js 2 33 2] (sr1 [o1 34 (ao 1 1),o1 35 (ao 34 0),o1 36
 (lf 35 1),o1 37 (ao 5 0),o1 38 (lf 37 1),o1 39 (.mm false [.t 36,.t 38]),o1 40 (ao 1 1),o1 41 (ao 40 1),o1 42 (lf 41 1),o1 43 (ao 5 1),o1 44 (lf 43 1),o1 45 (.mm false [.t 42,.t 44]),o1 46 (.build zv0 [(0,1,.t 39),(1,1,.t 45)]),Js 3 46 2] (.seq
 (.regd (Jr 5) [Jo 47 (lt 2 2),.hide (.t 2),Jo 48 (lt 3 2)] 0 3 [Ju 2 47 2 [0],Ju 3 48 2 [0,1,2],⟨some 4,.mv (.c (.int .u8 0)),none,(Jr 4)⟩]) .ret)))))
def r209:List RV:=[.cell 2 2 true,.cell 3 2 true,.tmp 4]
theorem t209:Qt1 Tryz.prog 209 c209 r209 49:=ZF Tryz.func209
def c138:SC:=(sr1 [Jw 4 Jf] (sr1 [m1 5 0,o1 6 (lf 1 1),o1 7 (Jb .lss 5 6),m1 8 7,g1 9 8 false (.mv (.t 0)),g1 10 8 false (lf 2 1),g1 11 8 false (Jb .gtr 9 10),o1 12 (.pick (.t 8) Jt (.t 11)),m1 4 12] .ret))
def r138:List RV:=[.tmp 4]
theorem t138:Qt1 Tryz.prog 138 c138 r138 13:=ZF Tryz.func138
def c128:SC:=(sr1 [Jw 4 Jf] (sr1 [m1 5 0,m1 6 1,o1 7 (J2 203 5 6),o1 8 (Jc .geq 7 0),m1 4 8] .ret))
def r128:List RV:=[.tmp 4]
theorem t128:Qt1 Tryz.prog 128 c128 r128 9:=ZF Tryz.func128
def c129:SC:=(sr1 [o1 2 (Jz 0 0 48),Jw 3 Jf] (sr1 [o1 4 (lf 1 1),o1 5 (lt 2 11),o1 6 (.calv (.t 4) [.t 5]),o1 7 (Jh 6),m1 3 7] .ret))
def r129:List RV:=[.tmp 3]
theorem t129:Qt1 Tryz.prog 129 c129 r129 8:=ZF Tryz.func129
def c76:SC:=(sr1 [o1 1 (Jz 0 0 48),Jw 2 Jf] (.seq (.regd (Jr 10) [Jo 6 (.call 130 []),Jo 7 (ao 1 0),Jp 8 (lf 7 1) [1],Jp 9 (.rv (Go.Op.lookup 252 (Go.Operand.tmp 6) (Go.Operand.tmp 8) Bool.true) [.t 6,.t 8]) [0,2],Jp 5 (.mv (.t 9)) [3],Jp 10 (Je 5 0)
 [4],Jp 11 (Je 5 1) [4]] 1 2 [o1 3 (.alloc [.nilFunc,.nilFunc] 250),Ju 3 10 2 [0,1,2,3,4,5,7],⟨some 4,.mv (.t 11),none,(Jr 9)⟩]) (sr1 [m1 12 4,m1 13 12,g1 14 13 true (ao 3 0),g1 15 13 true (lf 14 1),g1 16 13 true (lt 1 11),g1 17 13 true (.calv (.t 15)
 [.t 16]),o1 18 (.pick (.t 13) (.t 17) Jf),m1 19 18,g1 20 19 true (ao 1 1),g1 21 19 true (lt 20 2),g1 22 19 true (.call 131 [.t 21,cn 0,cn 1000000]),o1 23 (.pick (.t 19) (.t 22) Jf),m1 24 23,g1 25 24 true (ao 1 9),g1 26 24 true (lf 25 1),g1 27 24 true
 (.bsl 1 3 [.t 26]),g1 28 24 true (.call 81 [cn 0,cn 6000000,.t 27]),o1 29 (.pick (.t 24) (.t 28) Jf),m1 30 29,g1 31 30 true (ao 1 10),g1 32 30 true (lf 31 1),g1 33 30 true (.bsl 1 3 [.t 32]),g1 34 30 true (.call 81 [cn 0,cn 100000,.t 33]),o1 35
 (.pick (.t 30) (.t 34) Jf),m1 2 35] .ret)))
def r76:List RV:=[.tmp 2]
theorem t76:Qt1 Tryz.prog 76 c76 r76 36:=ZF Tryz.func76
def ZEo:SC:=(sr1 [o1 4 (.mv (.c (.slice none 0 0)))] (.seq (sr1 [m1 5 1,o1 6 (Jc .lss 5 0)] (Ji 6 (.reg [o1 7 (.raw (Go.Op.makeInterface 9 (Go.Operand.const (Go.Value.string { data:=#[99,97,110,110,111,116,32,98,101,32,110,101,103,97,116,105,118,101] })))
 20),⟨none,.raw (Go.Op.panic (Go.Operand.tmp 7)) 0,none,[]⟩]) .skip)) (.seq (sr1 [m1 8 1,m1 9 0,o1 10 (.raw (Go.Op.call { callee:=(Go.Callee.builtin Go.Builtin.cap),args:=#[(Go.Operand.tmp 9)],argTypes:=#[35] }) 3),m1 11 0,o1 12 (.raw (Go.Op.call { callee:=(Go.Callee.builtin Go.Builtin.len),args:=#[(Go.Operand.tmp 11)],argTypes:=#[35] })
 3),o1 13 (Jb .sub 10 12),o1 14 (Jb .sub 8 13),m1 1 14] (sr1 [m1 15 1,o1 16 (Jc .gtr 15 0)] (Ji 16 (.reg [m1 17 0,m1 18 0,o1 19 (.raw (Go.Op.call { callee:=(Go.Callee.builtin Go.Builtin.cap),args:=#[(Go.Operand.tmp 18)],argTypes:=#[35] }) 3),o1 20
 (.raw (Go.Op.slice 35 (Go.Operand.tmp 17) Option.none (Option.some (Go.Operand.tmp 19)) Option.none) 35),m1 21 1,o1 22 (.raw (Go.Op.call { callee:=(Go.Callee.builtin Go.Builtin.append),args:=#[(Go.Operand.tmp 20),(Go.Operand.tmp 21)],argTypes:=#[35,3] })
 35),m1 23 0,o1 24 (.raw (Go.Op.call { callee:=(Go.Callee.builtin Go.Builtin.len),args:=#[(Go.Operand.tmp 23)],argTypes:=#[35] }) 3),o1 25 (.raw (Go.Op.slice 35 (Go.Operand.tmp 22) Option.none (Option.some (Go.Operand.tmp 24)) Option.none) 35),m1 0
 25]) .skip))) (sr1 [m1 26 0,m1 4 26] .ret))))
def ZEc:List RV:=[.tmp 4]
theorem n139:Tryz.f139.ntmps=27:=by kernel_rfl
theorem b139:Z4 Tryz.prog 139=true:=by kernel_rfl
theorem ZyD:YR Tryz.prog ZEo ((Tryz.f139.body).getD .skip)=true:=by kernel_rfl
theorem ZAg:Y2 Tryz.prog ZEc Tryz.f139.results.toList=true:=by kernel_rfl
theorem m139 {n0:Nat} {hp0:Lh} {args:Ls} {Zz:Ot->Prop} (hh:hpb n0 hp0) (hx:∀ o,Zz o->KX o.res/\KXP o.hp) (h:sx Tryz.prog Y0 n0 ZEo ⟨YT 0 args,hp0,n0,27,[]⟩ (X0 ZEc λo=>∃ o',Zz o'/\WI n0 o o')) (hA:Nat.ble args.length 27=true:=by rfl):Cq 139 hp0 n0 args Zz:=ZB Tryz.func139 rfl b139 ZyD ZAg n139 (Nat.le_of_ble_eq_true hA) hh hx h
def c268:SC:=(sr1 [Jk 4 0,Jk 5 0] (sr1 [m1 7 0,m1 8 1,o1 9 (Jb .mul 7 8),m1 6 9] (sr1 [m1 10 6,o1 11 (.div .quo (.t 10) (cn 1000)),m1 12 6,o1 13 (Jc .add 12 1000),o1 14 (Jc .sub 13 1),o1 15 (.div .quo (.t 14) (cn 1000)),m1 4 11,m1 5 15] .ret)))
def r268:List RV:=[.tmp 4,.tmp 5]
theorem t268:Qt1 Tryz.prog 268 c268 r268 16:=ZF Tryz.func268
def c203:SC:=(sr1 [Jk 4 0] (.seq (sr1 [m1 6 0,o1 7 (Jl 6),Jk 8 0] (.block 0 (.loop (sr1 [o1 9 (Jb .lss 8 7)] (.seq (Ji 9 .skip (.exit 0)) (.seq (.block 1 (sr1 [m1 10 8,m1 5 10] (sr1 [m1 11 1,m1 12 0,m1 13 5,o1 14 (Jx 12 13 11),o1 15 (lt 14 11),o1 16
 (.calv (.t 11) [.t 15])] (Ji 16 (sr1 [m1 17 5,m1 4 17] .ret) .skip)))) (.reg [o1 18 (Jc .add 8 1),m1 8 18]))))))) (sr1 [o1 4 (.mv (cn (-1)))] .ret)))
def r203:List RV:=[.tmp 4]
theorem t203:Qt1 Tryz.prog 203 c203 r203 19:=ZF Tryz.func203
def c29:SC:=(sr1 [o1 2 (Jz 0 0 29),o1 3 (Jz 1 0 31),o1 4 (.alloc zv0 27),Jk 5 0] (.seq (sr1 [o1 7 (lt 2 17),o1 8 (lt 3 7),o1 9 (J2 79 7 8),m1 6 9] (sr1 [m1 10 6,o1 11 (Jc .neq 10 0)] (Ji 11 (sr1 [o1 12 (.build zv0 []),m1 13 6,Js 4 12 2,m1 5 13] .ret)
 .skip))) (sr1 [o1 14 (lt 2 17),o1 15 (lt 3 7),o1 16 (.build zv1 [(0,17,.t 14),(17,7,.t 15)]),o1 17 (J1 80 16),Js 4 17 2,Jk 5 0] .ret)))
def r29:List RV:=[.cell 4 2 true,.tmp 5]
theorem t29:Qt1 Tryz.prog 29 c29 r29 18:=ZF Tryz.func29
def c134:SC:=(sr1 [o1 1 (Jz 0 0 29),Jk 2 0] (.seq (sr1 [o1 3 (ao 1 0),o1 4 (lf 3 1),o1 5 (ao 1 1),o1 6 (lf 5 1),o1 7 (.bsl 1 3 [.t 4,.t 6]),o1 8 (.call 211 [cn 1,cn 1000000,.t 7]),o1 9 (Jh 8),m1 10 9,g1 11 10 false (ao 1 2),g1 12 10 false (lt 11 2),g1
 13 10 false (ao 1 4),g1 14 10 false (lt 13 2),g1 15 10 false (ao 1 6),g1 16 10 false (lt 15 2),g1 17 10 false (ao 1 8),g1 18 10 false (lt 17 2),g1 19 10 false (ao 1 10),g1 20 10 false (lt 19 2),g1 21 10 false (ao 1 12),g1 22 10 false (lt 21 2),g1 23
 10 false (.bsl 2 27 [.t 12,.t 14,.t 16,.t 18,.t 20,.t 22]),g1 24 10 false (.call 135 [cn 0,cn 100000,.t 23]),g1 25 10 false (Jh 24),o1 26 (.pick (.t 10) Jt (.t 25)),m1 27 26,g1 28 27 false (ao 1 15),g1 29 27 false (lt 28 2),g1 30 27 false (.bsl 2 27
 [.t 29]),g1 31 27 false (.call 135 [cn 0,cn 1000000,.t 30]),g1 32 27 false (Jh 31),o1 33 (.pick (.t 27) Jt (.t 32)),m1 34 33,g1 35 34 false (ao 1 14),g1 36 34 false (lf 35 1),g1 37 34 false (.bsl 1 3 [.t 36]),g1 38 34 false (.call 211 [cn 0,cn
 1000,.t 37]),g1 39 34 false (Jh 38),o1 40 (.pick (.t 34) Jt (.t 39))] (Ji 40 (sr1 [Jk 2 10] .ret) .skip)) (sr1 [Jk 2 0] .ret)))
def r134:List RV:=[.tmp 2]
theorem t134:Qt1 Tryz.prog 134 c134 r134 41:=ZF Tryz.func134
def c79:SC:=(sr1 [o1 2 (Jz 0 0 29),o1 3 (Jz 1 0 31),Jk 4 0] (.seq (sr1 [o1 6 (lt 2 17),o1 7 (J1 134 6),m1 5 7] (sr1 [m1 8 5,o1 9 (Jc .neq 8 0)] (Ji 9 (sr1 [m1 10 5,m1 4 10] .ret) .skip))) (.seq (sr1 [o1 11 (ao 2 0),o1 12 (lf 11 1),o1 13 (ao 3 0),o1 14
 (lt 13 2),o1 15 (.bsl 2 27 [.t 14]),o1 16 (.call 135 [cn 0,.t 12,.t 15]),o1 17 (Jh 16),m1 18 17,g1 19 18 false (ao 2 1),g1 20 18 false (lf 19 1),g1 21 18 false (ao 3 2),g1 22 18 false (lt 21 2),g1 23 18 false (.bsl 2 27 [.t 22]),g1 24 18 false (.call
 135 [cn 0,.t 20,.t 23]),g1 25 18 false (Jh 24),o1 26 (.pick (.t 18) Jt (.t 25)),m1 27 26,g1 28 27 false (ao 3 4),g1 29 27 false (lt 28 2),g1 30 27 false (.bsl 2 27 [.t 29]),g1 31 27 false (.call 135 [cn 0,cn 1000,.t 30]),g1 32 27 false (Jh 31),o1 33
 (.pick (.t 27) Jt (.t 32))] (Ji 33 (sr1 [Jk 4 11] .ret) .skip)) (sr1 [Jk 4 0] .ret))))
def r79:List RV:=[.tmp 4]
theorem t79:Qt1 Tryz.prog 79 c79 r79 34:=ZF Tryz.func79
def c124:SC:=(sr1 [o1 2 (Jz 0 0 29),o1 3 (Jz 1 0 31),Jk 4 0] (.seq (sr1 [o1 5 (lt 2 17),o1 6 (J1 199 5),o1 7 (Jh 6)] (Ji 7 (sr1 [Jk 4 10] .ret) .skip)) (.seq (sr1 [o1 8 (lt 2 17),o1 9 (lt 3 7),o1 10 (J2 200 8 9),o1 11 (Jh 10)] (Ji 11 (sr1 [Jk 4 11] .ret) .skip)) (sr1 [Jk 4 0] .ret))))
def r124:List RV:=[.tmp 4]
theorem t124:Qt1 Tryz.prog 124 c124 r124 12:=ZF Tryz.func124
def c200:SC:=(sr1 [o1 2 (Jz 0 0 29),o1 3 (Jz 1 0 31),Jw 4 Jf] (sr1 [o1 5 (ao 3 0),o1 6 (lt 5 2),o1 7 (ao 2 0),o1 8 (lf 7 1),o1 9 (.call 265 [.t 6,cn 0,.t 8]),m1 10 9,g1 11 10 true (ao 3 2),g1 12 10 true (lt 11 2),g1 13 10 true (ao 2 1),g1 14 10 true
 (lf 13 1),g1 15 10 true (.call 265 [.t 12,cn 0,.t 14]),o1 16 (.pick (.t 10) (.t 15) Jf),m1 17 16,g1 18 17 true (ao 3 4),g1 19 17 true (lt 18 2),g1 20 17 true (.call 265 [.t 19,cn 0,cn 1000]),o1 21 (.pick (.t 17) (.t 20) Jf),m1 4 21] .ret))
def r200:List RV:=[.tmp 4]
theorem t200:Qt1 Tryz.prog 200 c200 r200 22:=ZF Tryz.func200
def c136:SC:=(sr1 [o1 1 (Jz 0 0 174),o1 2 (.alloc zv0 27)] (sr1 [o1 6 (.build zv0 [(0,1,.c (.int .i64 1000)),(1,1,.c (.int .i64 1000))]),o1 3 (.alloc zv0 27),Js 3 6 2] (.seq (.seq (.regd (Jr 22) [Jo 7 (ao 1 17),Jp 8 (ao 7 0) [0],Jp 9 (lt 8 2) [1],Jo
 10 (ao 1 0),Jp 11 (ao 10 0) [3],Jp 12 (lf 11 1) [4],Jo 13 (.bsl 1 3 [cn 2,cn 1000]),Jp 14 (J3 213 9 12 13) [2,5,6],Jo 15 (ao 1 17),Jp 16 (ao 15 2) [8],Jp 17 (lt 16 2) [9],Jo 18 (ao 1 0),Jp 19 (ao 18 1) [11],Jp 20 (lf 19 1) [12],Jo 21 (.bsl 1 3 [cn
 2,cn 1000]),Jp 22 (J3 213 17 20 21) [7,10,13,14],Jo 23 (ao 1 17),Jp 24 (ao 23 4) [16],Jp 25 (lt 24 2) [17],Jp 26 (.call 214 [cn 1000,.t 25]) [15,18],Jp 27 (.build zv9 [(0,2,.t 14),(2,2,.t 22),(4,2,.t 26)]) [7,15,19],.op (Jk 28 0)] 0 0 []) (.block 0
 (.loop (sr1 [o1 29 (Jc .lss 28 3)] (.seq (Ji 29 .skip (.exit 0)) (.seq (.block 1 (sr1 [o1 30 (.idx (.t 27) (.t 28) 3 2 true),o1 5 (.alloc zv0 27),Js 5 30 2] (.reg [o1 31 (ao 3 0),o1 32 (lf 31 1),o1 33 (ao 5 0),o1 34 (lf 33 1),o1 35 (.mm false [.t
 32,.t 34]),o1 36 (ao 3 1),o1 37 (lf 36 1),o1 38 (ao 5 1),o1 39 (lf 38 1),o1 40 (.mm false [.t 37,.t 39]),o1 41 (.build zv0 [(0,1,.t 35),(1,1,.t 40)]),Js 3 41 2]))) (.reg [o1 42 (Jc .add 28 1),m1 28 42]))))))) (sr1 [o1 43 (lt 3 2),Js 2 43 2] .ret))))
def r136:List RV:=[.cell 2 2 true]
theorem t136:Qt1 Tryz.prog 136 c136 r136 44:=ZF Tryz.func136
def c80:SC:=(sr1 [o1 1 (Jz 0 0 174),o1 2 (.alloc zv0 27)] (sr1 [o1 4 (lt 1 24),o1 5 (J1 136 4),o1 3 (.alloc zv0 27),Js 3 5 2] (.seq (.regd (Jr 18) [Jo 6 (ao 1 0),Jp 7 (ao 6 15) [0],Jp 8 (ao 7 0) [1],Jp 9 (lf 8 1) [2],Jo 10 (ao 3 0),Jp 11 (lf 10 1)
 [4],Jp 12 (Jb .mul 9 11) [3,5],Jp 13 (.div .quo (.t 12) (cn 1000)) [6],Jo 14 (ao 1 0),Jp 15 (ao 14 15) [8],Jp 16 (ao 15 1) [9],Jp 17 (lf 16 1) [10],Jo 18 (ao 3 1),Jp 19 (lf 18 1) [12],Jp 20 (Jb .mul 17 19) [11,13],Jp 21 (.call 137 [.t 20,cn 1000])
 [14],Jp 22 (.build zv0 [(0,1,.t 13),(1,1,.t 21)]) [7,15]] 0 1 [Ju 2 22 2 (Jr 17)]) .ret)))
def r80:List RV:=[.cell 2 2 true]
theorem t80:Qt1 Tryz.prog 80 c80 r80 23:=ZF Tryz.func80
def c259:SC:=(sr1 [Jk 2 0] (.seq (sr1 [m1 5 0,o1 6 (Jl 5),Jk 7 0] (.block 0 (.loop (sr1 [o1 8 (Jb .lss 7 6)] (.seq (Ji 8 .skip (.exit 0)) (.seq (.block 1 (sr1 [o1 9 (Jx 5 7 8),o1 10 (lt 9 8),o1 4 (.alloc zv7 235),Js 4 10 8] (sr1 [o1 11 (ao 4 0),o1 12
 (lf 11 1),o1 13 (.bsl 1 3 [.t 12]),o1 14 (.call 211 [cn 0,cn 24,.t 13]),o1 15 (Jh 14),m1 16 15,g1 17 16 false (ao 4 1),g1 18 16 false (lf 17 1),g1 19 16 false (.bsl 1 3 [.t 18]),g1 20 16 false (.call 211 [cn 0,cn 1000000,.t 19]),g1 21 16 false (Jh
 20),o1 22 (.pick (.t 16) Jt (.t 21)),m1 23 22,g1 24 23 false (ao 4 2),g1 25 23 false (lt 24 2),g1 26 23 false (.bsl 2 27 [.t 25]),g1 27 23 false (.call 135 [cn 0,cn 60,.t 26]),g1 28 23 false (Jh 27),o1 29 (.pick (.t 23) Jt (.t 28)),m1 30 29,g1 31 30
 false (ao 4 4),g1 32 30 false (lt 31 2),g1 33 30 false (ao 4 6),g1 34 30 false (lt 33 2),g1 35 30 false (.bsl 2 27 [.t 32,.t 34]),g1 36 30 false (.call 135 [cn 0,cn 1000000,.t 35]),g1 37 30 false (Jh 36),o1 38 (.pick (.t 30) Jt (.t 37))] (Ji 38 (sr1
 [Jk 2 12] .ret) .skip)))) (.reg [o1 39 (Jc .add 7 1),m1 7 39]))))))) (sr1 [Jk 2 0] .ret)))
def r259:List RV:=[.tmp 2]
theorem t259:Qt1 Tryz.prog 259 c259 r259 40:=ZF Tryz.func259
def c285:SC:=(sr1 [o1 3 (Jz 0 0 29),o1 5 (Jz 2 0 235),o1 6 (.alloc zv8 385)] (sr1 [o1 10 (ao 5 2),o1 11 (ao 10 0),o1 12 (lf 11 1),o1 13 (Jc .sub 12 20),o1 14 (.mm true [cn 0,.t 13]),o1 15 (ao 5 2),o1 16 (ao 15 1),o1 17 (lf 16 1),o1 18 (Jc .sub 17
 20),o1 19 (.mm true [cn 0,.t 18]),o1 20 (.build zv0 [(0,1,.t 14),(1,1,.t 19)]),o1 7 (.alloc zv0 27),Js 7 20 2] (sr1 [o1 21 (ao 5 0),o1 22 (lf 21 1),o1 23 (ao 5 1),o1 24 (lf 23 1),o1 25 (.bin .add (cn 100000) (.t 24)),o1 26 (Jb .mul 22 25),m1 8 26]
 (.seq (.regd (Jr 24) [Jo 27 (ao 3 2),Jp 28 (lt 27 2) [0],Jo 29 (ao 3 4),Jp 30 (ao 29 0) [2],Jp 31 (lf 30 1) [3],Jo 32 (ao 7 0),Jp 33 (lf 32 1) [5],Jp 34 (Jb .mul 31 33) [4,6],Jo 35 (ao 3 4),Jp 36 (ao 35 1) [8],Jp 37 (lf 36 1) [9],Jo 38 (ao 7 1),Jp 39
 (lf 38 1) [11],Jp 40 (Jb .mul 37 39) [10,12],Jp 41 (.build zv0 [(0,1,.t 34),(1,1,.t 40)]) [7,13],Jo 42 (ao 3 6),Jp 43 (lt 42 2) [15],Jm 44 8,Jp 45 (.bsl 1 3 [.t 44]) [17],Jp 46 (.call 213 [.t 43,cn 100000,.t 45]) [16,18],Jp 47 (.bsl 2 27 [.t 28,.t
 41,.t 46]) [1,14,19],Jp 48 (J1 286 47) [19,20]] 1 1 [o1 9 (.alloc zv0 27),Ju 9 48 2 (Jr 23)]) (.seq (sr1 [m1 49 1] (Ji 49 (.reg [o1 50 (lt 9 2),o1 51 (ao 3 12),o1 52 (lt 51 2),o1 53 (.bsl 2 27 [.t 50,.t 52]),o1 54 (J1 286 53),Js 9 54 2]) .skip))
 (.seq (.regd (Jr 8) [Jo 55 (lt 9 2),Jo 56 (ao 3 8),Jp 57 (lt 56 2) [1],Jm 58 8,Jp 59 (.bsl 1 3 [.t 58]) [3],Jp 60 (.call 213 [.t 57,cn 100000,.t 59]) [2,4],Jp 61 (.build zv8 [(0,2,.t 55),(2,2,.t 60)]) [0,5]] 0 1 [Ju 6 61 4 (Jr 7)]) .ret))))))
def r285:List RV:=[.cell 6 4 true]
theorem t285:Qt1 Tryz.prog 285 c285 r285 62:=ZF Tryz.func285
def c199:SC:=(sr1 [o1 1 (Jz 0 0 29),Jw 2 Jf] (.seq (sr1 [o1 3 (ao 1 0),o1 4 (lf 3 1),o1 5 (.call 264 [.t 4,cn 1,cn 1000000]),o1 6 (Jh 5),m1 7 6,g1 8 7 false (ao 1 1),g1 9 7 false (lf 8 1),g1 10 7 false (.call 264 [.t 9,cn 1,cn 1000000]),g1 11 7 false
 (Jh 10),o1 12 (.pick (.t 7) Jt (.t 11)),m1 13 12,g1 14 13 false (ao 1 14),g1 15 13 false (lf 14 1),g1 16 13 false (.call 264 [.t 15,cn 0,cn 1000]),g1 17 13 false (Jh 16),o1 18 (.pick (.t 13) Jt (.t 17)),m1 19 18,g1 20 19 false (ao 1 15),g1 21 19
 false (lt 20 2),g1 22 19 false (.call 265 [.t 21,cn 0,cn 1000000]),g1 23 19 false (Jh 22),o1 24 (.pick (.t 19) Jt (.t 23))] (Ji 24 (sr1 [Jw 2 Jf] .ret) .skip)) (sr1 [o1 25 (ao 1 2),o1 26 (lt 25 2),o1 27 (.call 265 [.t 26,cn 0,cn 100000]),m1 28 27,g1
 29 28 true (ao 1 4),g1 30 28 true (lt 29 2),g1 31 28 true (.call 265 [.t 30,cn 0,cn 100000]),o1 32 (.pick (.t 28) (.t 31) Jf),m1 33 32,g1 34 33 true (ao 1 6),g1 35 33 true (lt 34 2),g1 36 33 true (.call 265 [.t 35,cn 0,cn 100000]),o1 37 (.pick (.t
 33) (.t 36) Jf),m1 38 37,g1 39 38 true (ao 1 8),g1 40 38 true (lt 39 2),g1 41 38 true (.call 265 [.t 40,cn 0,cn 100000]),o1 42 (.pick (.t 38) (.t 41) Jf),m1 43 42,g1 44 43 true (ao 1 10),g1 45 43 true (lt 44 2),g1 46 43 true (.call 265 [.t 45,cn 0,cn
 100000]),o1 47 (.pick (.t 43) (.t 46) Jf),m1 48 47,g1 49 48 true (ao 1 12),g1 50 48 true (lt 49 2),g1 51 48 true (.call 265 [.t 50,cn 0,cn 100000]),o1 52 (.pick (.t 48) (.t 51) Jf),m1 2 52] .ret)))
def r199:List RV:=[.tmp 2]
theorem t199:Qt1 Tryz.prog 199 c199 r199 53:=ZF Tryz.func199
def c211:SC:=(sr1 [o1 3 (Jz 0 0 3),o1 4 (Jz 1 0 3),Jw 6 Jf] (sr1 [m1 7 2,o1 8 (.mkf 269 [.t 3,.t 4]),o1 9 (J2 107 7 8),o1 10 (Jh 9),m1 6 10] .ret))
def r211:List RV:=[.tmp 6]
theorem t211:Qt1 Tryz.prog 211 c211 r211 11:=ZF Tryz.func211
def c135:SC:=(sr1 [o1 3 (Jz 0 0 3),o1 4 (Jz 1 0 3),Jw 6 Jf] (sr1 [m1 7 2,o1 8 (.mkf 212 [.t 3,.t 4]),o1 9 (J2 168 7 8),o1 10 (Jh 9),m1 6 10] .ret))
def r135:List RV:=[.tmp 6]
theorem t135:Qt1 Tryz.prog 135 c135 r135 11:=ZF Tryz.func135
def c286:SC:=(sr1 [o1 2 (.alloc zv0 27)] (sr1 [o1 3 (.alloc zv0 27)] (.seq (sr1 [m1 6 0,o1 7 (Jl 6),Jk 8 0] (.block 0 (.loop (sr1 [o1 9 (Jb .lss 8 7)] (.seq (Ji 9 .skip (.exit 0)) (.seq (.block 1 (sr1 [o1 10 (Jx 6 8 2),o1 11 (lt 10 2),o1 5 (.alloc zv0
 27),Js 5 11 2] (.reg [o1 12 (ao 3 0),o1 13 (lf 12 1),o1 14 (ao 5 0),o1 15 (lf 14 1),o1 16 (Jb .add 13 15),o1 17 (ao 3 1),o1 18 (lf 17 1),o1 19 (ao 5 1),o1 20 (lf 19 1),o1 21 (Jb .add 18 20),o1 22 (.build zv0 [(0,1,.t 16),(1,1,.t 21)]),Js 3 22 2])))
 (.reg [o1 23 (Jc .add 8 1),m1 8 23]))))))) (sr1 [o1 24 (lt 3 2),Js 2 24 2] .ret))))
def r286:List RV:=[.cell 2 2 true]
theorem t286:Qt1 Tryz.prog 286 c286 r286 25:=ZF Tryz.func286
def c214:SC:=(sr1 [o1 3 (Jz 1 0 27),o1 4 (.alloc zv0 27)] (sr1 [m1 5 0,o1 6 (ao 3 1),o1 7 (lf 6 1),o1 8 (Jb .sub 5 7),m1 9 0,o1 10 (ao 3 0),o1 11 (lf 10 1),o1 12 (Jb .sub 9 11),o1 13 (.build zv0 [(0,1,.t 8),(1,1,.t 12)]),Js 4 13 2] .ret))
def r214:List RV:=[.cell 4 2 true]
theorem t214:Qt1 Tryz.prog 214 c214 r214 14:=ZF Tryz.func214
def c265:SC:=(sr1 [o1 3 (Jz 0 0 27),Jw 6 Jf] (sr1 [o1 7 (ao 3 0),o1 8 (lf 7 1),m1 9 1,o1 10 (ao 3 1),o1 11 (lf 10 1),o1 12 (J3 264 8 9 11),m1 13 12,g1 14 13 true (ao 3 1),g1 15 13 true (lf 14 1),g1 16 13 true (.mv (.t 2)),g1 17 13 true (Jb .leq 15
 16),o1 18 (.pick (.t 13) (.t 17) Jf),m1 6 18] .ret))
def r265:List RV:=[.tmp 6]
theorem t265:Qt1 Tryz.prog 265 c265 r265 19:=ZF Tryz.func265
def c264:SC:=(sr1 [Jw 6 Jf] (sr1 [m1 7 0,m1 8 1,o1 9 (Jb .geq 7 8),m1 10 9,g1 11 10 true (.mv (.t 0)),g1 12 10 true (.mv (.t 2)),g1 13 10 true (Jb .leq 11 12),o1 14 (.pick (.t 10) (.t 13) Jf),m1 6 14] .ret))
def r264:List RV:=[.tmp 6]
theorem t264:Qt1 Tryz.prog 264 c264 r264 15:=ZF Tryz.func264
def c213:SC:=(sr1 [o1 3 (Jz 0 0 27),o1 6 (.alloc zv0 27)] (.seq (sr1 [m1 9 2,o1 10 (Jl 9),Jk 11 0] (.block 0 (.loop (sr1 [o1 12 (Jb .lss 11 10)] (.seq (Ji 12 .skip (.exit 0)) (.seq (.block 1 (sr1 [o1 13 (Jx 9 11 1),o1 14 (lf 13 1),m1 8 14] (.reg [o1
 15 (ao 3 0),o1 16 (lf 15 1),m1 17 8,o1 18 (Jb .mul 16 17),o1 19 (ao 3 1),o1 20 (lf 19 1),m1 21 8,o1 22 (Jb .mul 20 21),o1 23 (ao 3 0),Js 23 18 1,o1 24 (ao 3 1),Js 24 22 1]))) (.reg [o1 25 (Jc .add 11 1),m1 11 25]))))))) (.seq (.regd (Jr 10) [Jo 26
 (ao 3 0),Jp 27 (lf 26 1) [0],Jm 28 1,Jp 29 (.div .quo (.t 27) (.t 28)) [1,2],Jo 30 (ao 3 1),Jp 31 (lf 30 1) [4],Jm 32 1,Jp 33 (J2 137 31 32) [5,6],Jp 34 (.build zv0 [(0,1,.t 29),(1,1,.t 33)]) [3,7]] 0 1 [Ju 6 34 2 (Jr 9)]) .ret)))
def r213:List RV:=[.cell 6 2 true]
theorem t213:Qt1 Tryz.prog 213 c213 r213 35:=ZF Tryz.func213
def c137:SC:=(sr1 [Jk 4 0] (sr1 [m1 5 0,m1 6 1,o1 7 (Jb .add 5 6),o1 8 (Jc .sub 7 1),m1 9 1,o1 10 (.div .quo (.t 8) (.t 9)),m1 4 10] .ret))
def r137:List RV:=[.tmp 4]
theorem t137:Qt1 Tryz.prog 137 c137 r137 11:=ZF Tryz.func137
def c269:SC:=(sr1 [Jw 4 Jf] (sr1 [m1 5 0,o1 6 (lf 1 1),o1 7 (Jb .lss 5 6),m1 8 7,g1 9 8 false (.mv (.t 0)),g1 10 8 false (lf 2 1),g1 11 8 false (Jb .gtr 9 10),o1 12 (.pick (.t 8) Jt (.t 11)),m1 4 12] .ret))
def r269:List RV:=[.tmp 4]
theorem t269:Qt1 Tryz.prog 269 c269 r269 13:=ZF Tryz.func269
def c212:SC:=(sr1 [o1 3 (Jz 0 0 27),Jw 4 Jf] (sr1 [o1 5 (ao 3 0),o1 6 (lf 5 1),o1 7 (ao 3 1),o1 8 (lf 7 1),o1 9 (Jb .gtr 6 8),m1 10 9,g1 11 10 false (lf 1 1),g1 12 10 false (lf 2 1),g1 13 10 false (ao 3 0),g1 14 10 false (lf 13 1),g1 15 10 false (ao 3
 1),g1 16 10 false (lf 15 1),g1 17 10 false (.bsl 1 3 [.t 14,.t 16]),g1 18 10 false (J3 211 11 12 17),g1 19 10 false (Jh 18),o1 20 (.pick (.t 10) Jt (.t 19)),m1 4 20] .ret))
def r212:List RV:=[.tmp 4]
theorem t212:Qt1 Tryz.prog 212 c212 r212 21:=ZF Tryz.func212
def c261:SC:=(sr1 [o1 2 (Jz 0 0 174),o1 3 (Jz 1 0 235),o1 4 (.alloc zv1 174),o1 5 (.mv (.c (.int .u8 0)))] (sr1 [o1 16 (ao 2 17),o1 17 (ao 16 0),o1 18 (ao 2 17),o1 19 (ao 18 2),o1 20 (.build [.pointer none,.pointer none] [(0,1,.t 17),(1,1,.t 19)]),o1
 6 (.alloc [.pointer none,.pointer none] 384),Js 6 20 2] (.seq (.regd (Jr 16) [Jo 21 (ao 2 0),Jp 22 (ao 21 0) [0],Jp 23 (lf 22 1) [1],Jo 24 (ao 2 0),Jp 25 (ao 24 1) [3],Jp 26 (lf 25 1) [4],Jp 27 (.build zv0 [(0,1,.t 23),(1,1,.t 26)]) [2,5],Jo 28 (ao 3
 6),Jp 29 (lt 28 2) [7],Jo 30 (ao 3 4),Jp 31 (lt 30 2) [9],Jp 32 (.build zv8 [(0,2,.t 29),(2,2,.t 31)]) [8,10]] 2 2 [o1 7 (.alloc zv0 131),o1 8 (.alloc zv8 385),Ju 7 27 2 [0,1,2,3,4,5,6,12,13],Ju 8 32 4 (Jr 15)]) (sr1 [o1 9 (.mv (.c (.int .u8 0)))]
 (.seq (sr1 [o1 33 (ao 2 0),o1 34 (lt 33 17),o1 35 (ao 2 17),o1 36 (ao 35 6),o1 37 (lf 36 1),o1 38 (lt 3 8),o1 39 (J3 285 34 37 38),Jk 40 0] (.block 0 (.loop (sr1 [o1 41 (Jc .lss 40 2)] (.seq (Ji 41 .skip (.exit 0)) (.seq (.block 1 (sr1 [m1 42 40,o1
 43 (.idx (.t 39) (.t 40) 2 2 true),o1 11 (.alloc zv0 27),m1 10 42,Js 11 43 2] (sr1 [m1 44 10,o1 45 (.ixa (.t 6) (.t 44) 2 1),o1 46 (lf 45 1),m1 12 46] (.seq (.block 2 (.seq (.regd (Jr 8) [Jm 48 12,Jp 49 (.nilc (.t 48)) [0],Jp 50 (ao 49 1) [1],Jp 51
 (lf 50 1) [2],Jo 52 (ao 11 0),Jp 53 (lf 52 1) [4],Jp 54 (Jb .lss 51 53) [3,5],Jp 47 (.mv (.t 54)) [6]] 0 0 []) (Ji 47 (sr1 [o1 55 (.build zv1 []),Js 4 55 24,o1 5 (.mv (.c (.int .u8 2)))] .ret) (.seq (.regd (Jr 8) [Jm 57 12,Jp 58 (.nilc (.t 57))
 [0],Jp 59 (ao 58 0) [1],Jp 60 (lf 59 1) [2],Jo 61 (ao 11 1),Jp 62 (lf 61 1) [4],Jp 63 (Jb .lss 60 62) [3,5],Jp 56 (.mv (.t 63)) [6]] 0 0 []) (Ji 56 (.reg [o1 9 (.mv (.c (.int .u8 1)))]) .skip))))) (.seq (.regd (Jr 23) [Jm 64 12,Jp 65 (.nilc (.t 64))
 [0],Jp 66 (ao 65 0) [1],Jp 67 (lf 66 1) [2],Jo 68 (ao 11 1),Jp 69 (lf 68 1) [4],Jp 70 (Jb .sub 67 69) [3,5],Jp 71 (.mm true [cn 0,.t 70]) [6],Jm 72 12,Jp 73 (.nilc (.t 72)) [8],Jp 74 (ao 73 1) [9],Jp 75 (lf 74 1) [10],Jo 76 (ao 11 0),Jp 77 (lf 76 1)
 [12],Jp 78 (Jb .sub 75 77) [11,13],Jp 79 (.build zv0 [(0,1,.t 71),(1,1,.t 78)]) [7,14],Jm 80 10,Jp 81 (.ixa (.t 8) (.t 80) 2 2) [16],Jp 82 (lt 81 2) [17],Jp 83 (.bsl 2 27 [.t 79,.t 82]) [15,18],Jp 84 (J1 286 83) [19]] 1 1 [o1 13 (.alloc zv0 27),Ju 13
 84 2 (Jr 22)]) (.regd (Jr 16) [Jm 85 12,Jm 86 10,Jp 87 (.ixa (.t 7) (.t 86) 2 1) [1],Jp 88 (lf 87 1) [2],Jo 89 (ao 13 0),Jp 90 (lf 89 1) [4],Jp 91 (.mm false [.t 88,.t 90]) [3,5],Jm 92 10,Jp 93 (.ixa (.t 7) (.t 92) 2 1) [7],Jp 94 (lf 93 1) [8],Jo 95
 (ao 13 1),Jp 96 (lf 95 1) [10],Jp 97 (.mm false [.t 94,.t 96]) [9,11],Jp 98 (.build zv0 [(0,1,.t 91),(1,1,.t 97)]) [6,12],Jp 99 (.nilc (.t 85)) (Jr 14)] 0 1 [Ju 99 98 2 (Jr 15)])))))) (.reg [o1 100 (Jc .add 40 1),m1 40 100]))))))) (sr1 [o1 101 (ao 2
 17),o1 102 (ao 101 4),m1 14 102] (.seq (sr1 [o1 103 (ao 3 0),o1 104 (lf 103 1),o1 105 (Jc .eql 104 0)] (Ji 105 (.seq (.regd (Jr 22) [Jm 106 14,Jm 107 14,Jp 108 (.nilc (.t 107)) [1],Jp 109 (ao 108 0) [2],Jp 110 (lf 109 1) [3],Jo 111 (ao 2 0),Jp 112
 (ao 111 14) [5],Jp 113 (lf 112 1) [6],Jp 114 (Jb .sub 110 113) [4,7],Jp 115 (.mm true [cn 0,.t 114]) [8],Jm 116 14,Jp 117 (.nilc (.t 116)) [10],Jp 118 (ao 117 1) [11],Jp 119 (lf 118 1) [12],Jo 120 (ao 2 0),Jp 121 (ao 120 14) [14],Jp 122 (lf 121 1)
 [15],Jp 123 (Jb .sub 119 122) [13,16],Jp 124 (.mm true [cn 0,.t 123]) [17],Jp 125 (.build zv0 [(0,1,.t 115),(1,1,.t 124)]) [9,18],Jp 126 (.nilc (.t 106)) (Jr 20)] 0 1 [Ju 126 125 2 (Jr 21)]) (sr1 [o1 127 (lt 2 24),m1 128 9,Js 4 127 24,m1 5 128]
 .ret)) .skip)) (.seq (.regd (Jr 16) [Jm 129 14,Jp 130 (.nilc (.t 129)) [0],Jp 131 (lt 130 2) [1],Jo 132 (ao 2 0),Jp 133 (ao 132 10) [3],Jp 134 (lt 133 2) [4],Jo 135 (ao 3 0),Jp 136 (lf 135 1) [6],Jo 137 (ao 3 1),Jp 138 (lf 137 1) [8],Jp 139 (.bsl 1 3
 [.t 136,.t 138]) [7,9],Jp 140 (.call 213 [.t 134,cn 1000000,.t 139]) [5,10],Jp 141 (.bsl 2 27 [.t 131,.t 140]) [2,11],Jp 142 (J1 286 141) [11,12]] 1 1 [o1 15 (.alloc zv0 27),Ju 15 142 2 (Jr 15)]) (sr1 [m1 143 14,o1 144 (ao 15 0),o1 145 (lf 144 1),o1
 146 (.mm false [cn 1000,.t 145]),o1 147 (ao 15 1),o1 148 (lf 147 1),o1 149 (.mm false [cn 1000,.t 148]),o1 150 (.build zv0 [(0,1,.t 146),(1,1,.t 149)]),o1 151 (.nilc (.t 143)),Js 151 150 2] (sr1 [o1 152 (lt 2 24),m1 153 9,Js 4 152 24,m1 5 153]
 .ret))))))))))
def r261:List RV:=[.cell 4 24 true,.tmp 5]
theorem t261:Qt1 Tryz.prog 261 c261 r261 154:=ZF Tryz.func261
def c266:SC:=(sr1 [o1 3 (Jz 0 0 29),o1 4 (Jz 1 0 31),o1 5 (Jz 2 0 235),o1 6 (.alloc zv5 31),o1 7 (.mv (.c (.int .u8 0))),Jk 8 0] (.seq (sr1 [o1 12 (lt 3 17),o1 13 (lt 4 7),o1 14 (J2 79 12 13),m1 9 14] (sr1 [m1 15 9,o1 16 (Jc .neq 15 0)] (Ji 16 (sr1
 [o1 17 (lt 6 7),m1 18 9,Js 6 17 7,o1 7 (.mv (.c (.int .u8 0))),m1 8 18] .ret) .skip))) (.seq (sr1 [o1 19 (lt 5 8),o1 20 (.bsl 8 235 [.t 19]),o1 21 (J1 259 20),m1 10 21] (sr1 [m1 22 10,o1 23 (Jc .neq 22 0)] (Ji 23 (sr1 [o1 24 (lt 6 7),m1 25 10,Js 6 24
 7,o1 7 (.mv (.c (.int .u8 0))),m1 8 25] .ret) .skip))) (sr1 [o1 27 (lt 3 17),o1 28 (lt 4 7),o1 29 (.build zv1 [(0,17,.t 27),(17,7,.t 28)]),o1 30 (lt 5 8),o1 31 (J2 261 29 30),m1 26 31,o1 32 (Je 26 0),o1 33 (Je 26 1),o1 11 (.alloc zv1 174),Js 11 32
 24,m1 7 33] (.seq (sr1 [m1 34 7,o1 35 (.bin .eql (.t 34) (.c (.int .u8 2)))] (Ji 35 (sr1 [o1 36 (lt 6 7),Js 6 36 7,o1 7 (.mv (.c (.int .u8 0))),Jk 8 13] .ret) .skip)) (sr1 [o1 37 (ao 11 17),o1 38 (lt 37 7),m1 39 7,Js 6 38 7,m1 7 39,Jk 8 0] .ret))))))
def r266:List RV:=[.cell 6 7 true,.tmp 7,.tmp 8]
theorem t266:Qt1 Tryz.prog 266 c266 r266 40:=ZF Tryz.func266
def c39:SC:=(sr1 [o1 1 (Jz 0 0 25),Jw 2 Jf] (.seq (sr1 [o1 4 (ao 1 0),o1 5 (lf 4 1),o1 6 (Jl 5),o1 7 (Jc .gtr 6 20),m1 8 7,g1 9 8 false (ao 1 1),g1 10 8 false (lf 9 1),g1 11 8 false (Jl 10),g1 12 8 false (Jc .gtr 11 40),o1 13 (.pick (.t 8) Jt (.t
 12))] (Ji 13 (sr1 [Jw 2 Jt] .ret) .skip)) (.seq (sr1 [Jk 3 0] (.block 0 (.loop (.seq (sr1 [m1 14 3,o1 15 (ao 1 1),o1 16 (lf 15 1),o1 17 (Jl 16),o1 18 (Jb .lss 14 17)] (Ji 18 .skip (.exit 0))) (.seq (.block 1 (sr1 [o1 21 (ao 1 1),o1 22 (lf 21 1),m1 23
 3,o1 24 (Jx 22 23 5),o1 25 (ao 24 4),o1 26 (lf 25 1),o1 27 (Jl 26),o1 28 (Jc .gtr 27 20)] (Ji 28 (sr1 [Jw 2 Jt] .ret) .skip))) (.reg [m1 19 3,o1 20 (Jc .add 19 1),m1 3 20])))))) (sr1 [Jw 2 Jf] .ret))))
def r39:List RV:=[.tmp 2]
theorem t39:Qt1 Tryz.prog 39 c39 r39 29:=ZF Tryz.func39
def c172:SC:=(sr1 [o1 4 (Jz 0 0 25),o1 8 (.alloc zv0 27),Jk 9 0,Jk 10 0] (.seq (sr1 [o1 20 (lt 4 2),o1 21 (J1 105 20),m1 11 21] (.block 0 (sr1 [m1 23 11,o1 24 (Jc .neq 23 0),m1 22 24] (Ji 22 (sr1 [o1 25 (lt 8 2),m1 26 11,Js 8 25 2,Jk 9 0,m1 10 26]
 .ret) (sr1 [o1 28 (ao 4 0),o1 29 (lf 28 1),o1 30 (Jl 29),o1 31 (Jc .sub 30 1),m1 32 1,o1 33 (.bsl 1 3 [.t 32]),o1 34 (.call 52 [cn 0,.t 31,.t 33]),o1 35 (Jh 34),m1 36 35,g1 37 36 false (.mv (.t 3)),g1 38 36 false (.bsl 1 3 [.t 37]),g1 39 36 false
 (.call 52 [cn 0,cn 100000,.t 38]),g1 40 36 false (Jh 39),o1 41 (.pick (.t 36) Jt (.t 40)),m1 27 41] (Ji 27 (sr1 [o1 42 (lt 8 2),Js 8 42 2,Jk 9 0,Jk 10 2] .ret) (sr1 [m1 44 2,o1 45 (Jl 44),o1 46 (Jc .gtr 45 200),m1 43 46] (Ji 43 (sr1 [o1 47 (lt 8
 2),Js 8 47 2,Jk 9 0,Jk 10 4] .ret) .skip)))))))) (sr1 [Jk 12 0] (.seq (sr1 [m1 48 2,o1 49 (Jl 48),Jk 50 0] (.block 1 (.loop (sr1 [o1 51 (Jb .lss 50 49)] (.seq (Ji 51 .skip (.exit 1)) (.seq (.block 2 (sr1 [o1 52 (Jx 48 50 3),o1 53 (lt 52 3),o1 14
 (.alloc zv3 212),Js 14 53 3] (.seq (sr1 [o1 54 (ao 4 0),o1 55 (lf 54 1),o1 56 (Jl 55),o1 57 (Jc .sub 56 1),o1 58 (ao 14 0),o1 59 (lf 58 1),o1 60 (.bsl 1 3 [.t 59]),o1 61 (.call 52 [cn 0,.t 57,.t 60]),o1 62 (Jh 61),m1 63 62,g1 64 63 false (.mv (.t
 12)),g1 65 63 false (ao 14 1),g1 66 63 false (lf 65 1),g1 67 63 false (.bsl 1 3 [.t 66]),g1 68 63 false (.call 52 [.t 64,cn 100000,.t 67]),g1 69 63 false (Jh 68),o1 70 (.pick (.t 63) Jt (.t 69)),m1 71 70,g1 72 71 false (ao 14 2),g1 73 71 false (lf 72
 1),g1 74 71 false (.bsl 1 3 [.t 73]),g1 75 71 false (.call 52 [cn 0,cn 1000000000,.t 74]),g1 76 71 false (Jh 75),o1 77 (.pick (.t 71) Jt (.t 76))] (Ji 77 (sr1 [o1 78 (lt 8 2),Js 8 78 2,Jk 9 0,Jk 10 32] .ret) .skip)) (.reg [o1 79 (ao 14 1),o1 80 (lf
 79 1),m1 12 80])))) (.reg [o1 81 (Jc .add 50 1),m1 50 81]))))))) (sr1 [o1 82 (ao 4 0),o1 83 (lf 82 1),m1 84 1,o1 85 (Jx 83 84 9),o1 86 (lt 85 9),o1 15 (.alloc ZBR 222),Js 15 86 9] (sr1 [o1 87 (ao 15 6),o1 88 (lt 87 2),o1 16 (.alloc zv0 27),Js 16 88
 2,o1 17 (.mv (cn (-1)))] (.seq (sr1 [m1 89 2,o1 90 (Jl 89),Jk 91 0] (.block 3 (.loop (sr1 [o1 92 (Jb .lss 91 90)] (.seq (Ji 92 .skip (.exit 3)) (.seq (.block 4 (sr1 [m1 93 91,o1 94 (Jx 89 91 3),o1 95 (lt 94 3),o1 19 (.alloc zv3 212),m1 18 93,Js 19 95
 3] (.seq (sr1 [o1 96 (ao 19 0),o1 97 (lf 96 1),m1 98 1,o1 99 (Jb .neq 97 98),m1 100 99,g1 101 100 false (ao 19 1),g1 102 100 false (lf 101 1),g1 103 100 false (.mv (.t 3)),g1 104 100 false (Jb .geq 102 103),o1 105 (.pick (.t 100) Jt (.t 104))] (Ji
 105 (.exit 4) .skip)) (sr1 [o1 106 (lt 15 9),o1 107 (lt 16 2),o1 108 (ao 19 1),o1 109 (lf 108 1),m1 110 17,o1 111 (Jb .sub 109 110),o1 112 (J3 245 106 107 111),Js 16 112 2] (sr1 [o1 113 (ao 19 1),o1 114 (lf 113 1),m1 17 114] (.seq (sr1 [o1 115 (ao 16
 1),o1 116 (lf 115 1),o1 117 (ao 19 2),o1 118 (lf 117 1),o1 119 (Jb .lss 116 118)] (Ji 119 (sr1 [o1 120 (lt 8 2),m1 121 18,Js 8 120 2,m1 9 121,Jk 10 33] .ret) .skip)) (.reg [o1 122 (ao 16 0),o1 123 (lf 122 1),o1 124 (ao 19 2),o1 125 (lf 124 1),o1 126
 (Jb .sub 123 125),o1 127 (.mm true [cn 0,.t 126]),o1 128 (ao 16 1),o1 129 (lf 128 1),o1 130 (ao 19 2),o1 131 (lf 130 1),o1 132 (Jb .sub 129 131),o1 133 (.build zv0 [(0,1,.t 127),(1,1,.t 132)]),Js 16 133 2]))))))) (.reg [o1 134 (Jc .add 91 1),m1 91
 134]))))))) (sr1 [o1 135 (lt 15 9),o1 136 (lt 16 2),m1 137 3,o1 138 (Jc .sub 137 1),m1 139 17,o1 140 (Jb .sub 138 139),o1 141 (J3 245 135 136 140),Js 8 141 2,Jk 9 0,Jk 10 0] .ret))))))))
def r172:List RV:=[.cell 8 2 true,.tmp 9,.tmp 10]
theorem t172:Qt1 Tryz.prog 172 c172 r172 142:=ZF Tryz.func172
def c105:SC:=(sr1 [o1 1 (Jz 0 0 25),Jk 2 0] (sr1 [o1 5 (ao 1 0),o1 6 (lf 5 1),o1 7 (.call 173 [.t 6,.f 174]),o1 8 (Jh 7),m1 3 8] (sr1 [o1 9 (ao 1 1),o1 10 (lf 9 1),o1 11 (.mkf 177 [.t 1]),o1 12 (J2 176 10 11),o1 13 (Jh 12),m1 4 13] (.seq (sr1 [o1 14
 (ao 1 0),o1 15 (lf 14 1),o1 16 (Jl 15),o1 17 (.bsl 1 3 [.t 16]),o1 18 (.call 52 [cn 1,cn 12,.t 17]),o1 19 (Jh 18),m1 20 19,g1 21 20 false (ao 1 1),g1 22 20 false (lf 21 1),g1 23 20 false (Jl 22),g1 24 20 false (Jc .gtr 23 24),o1 25 (.pick (.t 20) Jt
 (.t 24)),m1 26 25,g1 27 26 false (.mv (.t 3)),g1 28 26 false (Jh 27),o1 29 (.pick (.t 26) Jt (.t 28)),m1 30 29,g1 31 30 false (.mv (.t 4)),g1 32 30 false (Jh 31),o1 33 (.pick (.t 30) Jt (.t 32))] (Ji 33 (sr1 [Jk 2 30] .ret) .skip)) (sr1 [Jk 2 0]
 .ret)))))
def r105:List RV:=[.tmp 2]
theorem t105:Qt1 Tryz.prog 105 c105 r105 34:=ZF Tryz.func105
def c52:SC:=(sr1 [o1 3 (Jz 0 0 3),o1 4 (Jz 1 0 3),Jw 6 Jf] (sr1 [m1 7 2,o1 8 (.mkf 108 [.t 3,.t 4]),o1 9 (J2 107 7 8),o1 10 (Jh 9),m1 6 10] .ret))
def r52:List RV:=[.tmp 6]
theorem t52:Qt1 Tryz.prog 52 c52 r52 11:=ZF Tryz.func52
def c245:SC:=(sr1 [o1 3 (Jz 0 0 222),o1 4 (Jz 1 0 27),o1 6 (.alloc zv0 27)] (sr1 [o1 7 (ao 3 5),o1 8 (lf 7 1),o1 9 (ao 4 0),o1 10 (lf 9 1),m1 11 2,o1 12 (ao 3 3),o1 13 (ao 12 0),o1 14 (lf 13 1),o1 15 (Jb .mul 11 14),o1 16 (Jb .add 10 15),o1 17 (.mm
 false [.t 8,.t 16]),o1 18 (ao 3 5),o1 19 (lf 18 1),o1 20 (ao 4 1),o1 21 (lf 20 1),m1 22 2,o1 23 (ao 3 3),o1 24 (ao 23 1),o1 25 (lf 24 1),o1 26 (Jb .mul 22 25),o1 27 (Jb .add 21 26),o1 28 (.mm false [.t 19,.t 27]),o1 29 (.build zv0 [(0,1,.t
 17),(1,1,.t 28)]),Js 6 29 2] .ret))
def r245:List RV:=[.cell 6 2 true]
theorem t245:Qt1 Tryz.prog 245 c245 r245 30:=ZF Tryz.func245
def c197:SC:=(sr1 [o1 1 (Jz 0 0 25),Jw 2 Jf] (.seq (sr1 [o1 10 (ao 1 0),o1 11 (lf 10 1),o1 12 (Jl 11),o1 13 (.call 263 [.t 12,cn 1,cn 12]),o1 14 (Jh 13),m1 15 14,g1 16 15 false (ao 1 1),g1 17 15 false (lf 16 1),g1 18 15 false (Jl 17),g1 19 15 false
 (Jc .gtr 18 24),o1 20 (.pick (.t 15) Jt (.t 19))] (Ji 20 (sr1 [Jw 2 Jf] .ret) .skip)) (.seq (sr1 [Jk 3 0] (.block 0 (.loop (.seq (sr1 [m1 21 3,o1 22 (ao 1 0),o1 23 (lf 22 1),o1 24 (Jl 23),o1 25 (Jb .lss 21 24)] (Ji 25 .skip (.exit 0))) (.seq (.block
 1 (sr1 [o1 28 (ao 1 0),o1 29 (lf 28 1),m1 30 3,o1 31 (Jx 29 30 9),o1 32 (lt 31 9),o1 4 (.alloc ZBR 222),Js 4 32 9] (sr1 [o1 33 (ao 4 0),o1 34 (lf 33 1),o1 35 (.call 263 [.t 34,.c (.int .i64 (-10000000)),cn 10000000]),o1 36 (Jh 35),m1 37 36,g1 38 37
 false (ao 4 1),g1 39 37 false (lf 38 1),g1 40 37 false (.call 263 [.t 39,.c (.int .i64 (-10000000)),cn 10000000]),g1 41 37 false (Jh 40),o1 42 (.pick (.t 37) Jt (.t 41)),m1 43 42,g1 44 43 false (ao 4 2),g1 45 43 false (lf 44 1),g1 46 43 false (.call
 263 [.t 45,cn 0,cn 200]),g1 47 43 false (Jh 46),o1 48 (.pick (.t 43) Jt (.t 47)),m1 49 48,g1 50 49 false (ao 4 3),g1 51 49 false (lt 50 2),g1 52 49 false (.call 198 [.t 51,cn 0,cn 10000000]),g1 53 49 false (Jh 52),o1 54 (.pick (.t 49) Jt (.t 53)),m1
 55 54,g1 56 55 false (ao 4 5),g1 57 55 false (lf 56 1),g1 58 55 false (.call 263 [.t 57,cn 0,cn 1000000000]),g1 59 55 false (Jh 58),o1 60 (.pick (.t 55) Jt (.t 59)),m1 61 60,g1 62 61 false (ao 4 6),g1 63 61 false (lt 62 2),g1 64 61 false (ao 4 5),g1
 65 61 false (lf 64 1),g1 66 61 false (.call 198 [.t 63,cn 0,.t 65]),g1 67 61 false (Jh 66),o1 68 (.pick (.t 61) Jt (.t 67)),m1 69 68,g1 70 69 false (ao 4 8),g1 71 69 false (lf 70 1),g1 72 69 false (.call 263 [.t 71,cn 0,cn 9999]),g1 73 69 false (Jh
 72),o1 74 (.pick (.t 69) Jt (.t 73))] (Ji 74 (sr1 [Jw 2 Jf] .ret) .skip)))) (.reg [m1 26 3,o1 27 (Jc .add 26 1),m1 3 27])))))) (.seq (sr1 [Jk 5 0] (.block 2 (.loop (.seq (sr1 [m1 75 5,o1 76 (ao 1 1),o1 77 (lf 76 1),o1 78 (Jl 77),o1 79 (Jb .lss 75
 78)] (Ji 79 .skip (.exit 2))) (.seq (.block 3 (sr1 [o1 82 (ao 1 1),o1 83 (lf 82 1),m1 84 5,o1 85 (Jx 83 84 5),o1 86 (lt 85 5),o1 6 (.alloc ZAw 187),Js 6 86 5] (.seq (sr1 [o1 87 (ao 6 0),o1 88 (lf 87 1),o1 89 (ao 1 0),o1 90 (lf 89 1),o1 91 (Jl 90),o1
 92 (Jc .sub 91 1),o1 93 (.call 263 [.t 88,cn 0,.t 92]),o1 94 (Jh 93),m1 95 94,g1 96 95 false (ao 6 1),g1 97 95 false (lf 96 1),g1 98 95 false (ao 1 0),g1 99 95 false (lf 98 1),g1 100 95 false (Jl 99),g1 101 95 false (Jc .sub 100 1),g1 102 95 false
 (.call 263 [.t 97,cn 0,.t 101]),g1 103 95 false (Jh 102),o1 104 (.pick (.t 95) Jt (.t 103)),m1 105 104,g1 106 105 false (ao 6 0),g1 107 105 false (lf 106 1),g1 108 105 false (ao 6 1),g1 109 105 false (lf 108 1),g1 110 105 false (Jb .eql 107 109),o1
 111 (.pick (.t 105) Jt (.t 110)),m1 112 111,g1 113 112 false (ao 6 2),g1 114 112 false (lt 113 2),g1 115 112 false (.call 198 [.t 114,cn 1,cn 1000000]),g1 116 112 false (Jh 115),o1 117 (.pick (.t 112) Jt (.t 116)),m1 118 117,g1 119 118 false (ao 6
 4),g1 120 118 false (lf 119 1),g1 121 118 false (Jl 120),g1 122 118 false (Jc .gtr 121 6),o1 123 (.pick (.t 118) Jt (.t 122))] (Ji 123 (sr1 [Jw 2 Jf] .ret) .skip)) (sr1 [o1 7 (.mv (cn (-1)))] (sr1 [Jk 8 0] (.block 4 (.loop (.seq (sr1 [m1 124 8,o1 125
 (ao 6 4),o1 126 (lf 125 1),o1 127 (Jl 126),o1 128 (Jb .lss 124 127)] (Ji 128 .skip (.exit 4))) (.seq (.block 5 (sr1 [o1 131 (ao 6 4),o1 132 (lf 131 1),m1 133 8,o1 134 (Jx 132 133 4),o1 135 (lt 134 4),o1 9 (.alloc zv8 219),Js 9 135 4] (.seq (sr1 [o1
 136 (ao 9 0),o1 137 (lt 136 2),o1 138 (.call 198 [.t 137,cn 0,cn 100000]),o1 139 (Jh 138),m1 140 139,g1 141 140 false (ao 9 2),g1 142 140 false (lt 141 2),g1 143 140 false (.call 198 [.t 142,cn 0,cn 100000]),g1 144 140 false (Jh 143),o1 145 (.pick
 (.t 140) Jt (.t 144)),m1 146 145,g1 147 146 false (ao 9 0),g1 148 146 false (ao 147 0),g1 149 146 false (lf 148 1),g1 150 146 false (ao 9 2),g1 151 146 false (ao 150 1),g1 152 146 false (lf 151 1),g1 153 146 false (Jb .gtr 149 152),o1 154 (.pick (.t
 146) Jt (.t 153)),m1 155 154,g1 156 155 false (ao 9 0),g1 157 155 false (ao 156 0),g1 158 155 false (lf 157 1),g1 159 155 false (.mv (.t 7)),g1 160 155 false (Jb .leq 158 159),o1 161 (.pick (.t 155) Jt (.t 160))] (Ji 161 (sr1 [Jw 2 Jf] .ret) .skip))
 (.reg [o1 162 (ao 9 2),o1 163 (ao 162 1),o1 164 (lf 163 1),m1 7 164])))) (.reg [m1 129 8,o1 130 (Jc .add 129 1),m1 8 130])))))))))) (.reg [m1 80 5,o1 81 (Jc .add 80 1),m1 5 81])))))) (sr1 [Jw 2 Jt] .ret)))))
def r197:List RV:=[.tmp 2]
theorem t197:Qt1 Tryz.prog 197 c197 r197 165:=ZF Tryz.func197
def c263:SC:=(sr1 [Jw 6 Jf] (sr1 [m1 7 0,m1 8 1,o1 9 (Jb .geq 7 8),m1 10 9,g1 11 10 true (.mv (.t 0)),g1 12 10 true (.mv (.t 2)),g1 13 10 true (Jb .leq 11 12),o1 14 (.pick (.t 10) (.t 13) Jf),m1 6 14] .ret))
def r263:List RV:=[.tmp 6]
theorem t263:Qt1 Tryz.prog 263 c263 r263 15:=ZF Tryz.func263
def c173:SC:=(sr1 [Jw 4 Jf] (sr1 [m1 5 0,m1 6 1,o1 7 (J2 246 5 6),o1 8 (Jc .geq 7 0),m1 4 8] .ret))
def r173:List RV:=[.tmp 4]
theorem t173:Qt1 Tryz.prog 173 c173 r173 9:=ZF Tryz.func173
def c174:SC:=(sr1 [o1 1 (Jz 0 0 222),Jw 2 Jf] (sr1 [o1 3 (lt 1 9),o1 4 (J1 175 3),o1 5 (Jh 4),m1 2 5] .ret))
def r174:List RV:=[.tmp 2]
theorem t174:Qt1 Tryz.prog 174 c174 r174 6:=ZF Tryz.func174
def c175:SC:=(sr1 [o1 1 (Jz 0 0 222),Jw 2 Jf] (sr1 [o1 3 (ao 1 0),o1 4 (lf 3 1),o1 5 (ao 1 1),o1 6 (lf 5 1),o1 7 (.bsl 1 3 [.t 4,.t 6]),o1 8 (.call 52 [.c (.int .i64 (-10000000)),cn 10000000,.t 7]),m1 9 8,g1 10 9 true (ao 1 2),g1 11 9 true (lf 10
 1),g1 12 9 true (.bsl 1 3 [.t 11]),g1 13 9 true (.call 52 [cn 0,cn 200,.t 12]),o1 14 (.pick (.t 9) (.t 13) Jf),m1 15 14,g1 16 15 true (ao 1 3),g1 17 15 true (lt 16 2),g1 18 15 true (.bsl 2 27 [.t 17]),g1 19 15 true (.call 106 [cn 0,cn 10000000,.t
 18]),o1 20 (.pick (.t 15) (.t 19) Jf),m1 21 20,g1 22 21 true (ao 1 5),g1 23 21 true (lf 22 1),g1 24 21 true (.bsl 1 3 [.t 23]),g1 25 21 true (.call 52 [cn 0,cn 1000000000,.t 24]),o1 26 (.pick (.t 21) (.t 25) Jf),m1 27 26,g1 28 27 true (ao 1 5),g1 29
 27 true (lf 28 1),g1 30 27 true (ao 1 6),g1 31 27 true (lt 30 2),g1 32 27 true (.bsl 2 27 [.t 31]),g1 33 27 true (.call 106 [cn 0,.t 29,.t 32]),o1 34 (.pick (.t 27) (.t 33) Jf),m1 35 34,g1 36 35 true (ao 1 8),g1 37 35 true (lf 36 1),g1 38 35 true
 (.bsl 1 3 [.t 37]),g1 39 35 true (.call 52 [cn 0,cn 9999,.t 38]),o1 40 (.pick (.t 35) (.t 39) Jf),m1 2 40] .ret))
def r175:List RV:=[.tmp 2]
theorem t175:Qt1 Tryz.prog 175 c175 r175 41:=ZF Tryz.func175
def c176:SC:=(sr1 [Jw 4 Jf] (sr1 [m1 5 0,m1 6 1,o1 7 (J2 247 5 6),o1 8 (Jc .geq 7 0),m1 4 8] .ret))
def r176:List RV:=[.tmp 4]
theorem t176:Qt1 Tryz.prog 176 c176 r176 9:=ZF Tryz.func176
def c177:SC:=(sr1 [o1 2 (Jz 0 0 187),Jw 3 Jf] (sr1 [o1 4 (lt 2 5),o1 5 (ao 1 0),o1 6 (lf 5 1),o1 7 (Jl 6),o1 8 (J2 178 4 7),o1 9 (Jh 8),m1 3 9] .ret))
def r177:List RV:=[.tmp 3]
theorem t177:Qt1 Tryz.prog 177 c177 r177 10:=ZF Tryz.func177
def c178:SC:=(sr1 [o1 2 (Jz 0 0 187),Jw 4 Jf] (.seq (sr1 [m1 8 1,o1 9 (Jc .sub 8 1),o1 10 (ao 2 0),o1 11 (lf 10 1),o1 12 (ao 2 1),o1 13 (lf 12 1),o1 14 (.bsl 1 3 [.t 11,.t 13]),o1 15 (.call 52 [cn 0,.t 9,.t 14]),o1 16 (Jh 15),m1 17 16,g1 18 17 false
 (ao 2 0),g1 19 17 false (lf 18 1),g1 20 17 false (ao 2 1),g1 21 17 false (lf 20 1),g1 22 17 false (Jb .eql 19 21),o1 23 (.pick (.t 17) Jt (.t 22)),m1 24 23,g1 25 24 false (ao 2 2),g1 26 24 false (lt 25 2),g1 27 24 false (.bsl 2 27 [.t 26]),g1 28 24
 false (.call 106 [cn 1,cn 1000000,.t 27]),g1 29 24 false (Jh 28),o1 30 (.pick (.t 24) Jt (.t 29)),m1 31 30,g1 32 31 false (ao 2 4),g1 33 31 false (lf 32 1),g1 34 31 false (Jl 33),g1 35 31 false (Jc .gtr 34 6),o1 36 (.pick (.t 31) Jt (.t 35))] (Ji 36
 (sr1 [Jw 4 Jf] .ret) .skip)) (sr1 [Jk 5 0] (.seq (sr1 [o1 37 (ao 2 4),o1 38 (lf 37 1),o1 39 (Jl 38),Jk 40 0] (.block 0 (.loop (sr1 [o1 41 (Jb .lss 40 39)] (.seq (Ji 41 .skip (.exit 0)) (.seq (.block 1 (sr1 [o1 42 (Jx 38 40 4),o1 43 (lt 42 4),o1 7
 (.alloc zv8 219),Js 7 43 4] (.seq (sr1 [o1 44 (ao 7 0),o1 45 (lt 44 2),o1 46 (ao 7 2),o1 47 (lt 46 2),o1 48 (.bsl 2 27 [.t 45,.t 47]),o1 49 (.call 106 [cn 0,cn 100000,.t 48]),o1 50 (Jh 49),m1 51 50,g1 52 51 false (.mv (.t 5)),g1 53 51 false (ao 7
 2),g1 54 51 false (ao 53 1),g1 55 51 false (lf 54 1),g1 56 51 false (ao 7 0),g1 57 51 false (ao 56 0),g1 58 51 false (lf 57 1),g1 59 51 false (.bsl 1 3 [.t 58]),g1 60 51 false (J3 52 52 55 59),g1 61 51 false (Jh 60),o1 62 (.pick (.t 51) Jt (.t 61))]
 (Ji 62 (sr1 [Jw 4 Jf] .ret) .skip)) (.reg [o1 63 (ao 7 2),o1 64 (ao 63 1),o1 65 (lf 64 1),o1 66 (Jc .add 65 1),m1 5 66])))) (.reg [o1 67 (Jc .add 40 1),m1 40 67]))))))) (sr1 [Jw 4 Jt] .ret)))))
def r178:List RV:=[.tmp 4]
theorem t178:Qt1 Tryz.prog 178 c178 r178 68:=ZF Tryz.func178
def c107:SC:=(sr1 [Jw 4 Jf] (sr1 [m1 5 0,m1 6 1,o1 7 (J2 180 5 6),o1 8 (Jc .geq 7 0),m1 4 8] .ret))
def r107:List RV:=[.tmp 4]
theorem t107:Qt1 Tryz.prog 107 c107 r107 9:=ZF Tryz.func107
def c108:SC:=(sr1 [Jw 4 Jf] (sr1 [m1 5 0,o1 6 (lf 1 1),o1 7 (Jb .lss 5 6),m1 8 7,g1 9 8 false (.mv (.t 0)),g1 10 8 false (lf 2 1),g1 11 8 false (Jb .gtr 9 10),o1 12 (.pick (.t 8) Jt (.t 11)),m1 4 12] .ret))
def r108:List RV:=[.tmp 4]
theorem t108:Qt1 Tryz.prog 108 c108 r108 13:=ZF Tryz.func108
def c198:SC:=(sr1 [o1 3 (Jz 0 0 27),Jw 6 Jf] (sr1 [o1 7 (ao 3 0),o1 8 (lf 7 1),m1 9 1,o1 10 (ao 3 1),o1 11 (lf 10 1),o1 12 (J3 263 8 9 11),m1 13 12,g1 14 13 true (ao 3 1),g1 15 13 true (lf 14 1),g1 16 13 true (.mv (.t 2)),g1 17 13 true (Jb .leq 15
 16),o1 18 (.pick (.t 13) (.t 17) Jf),m1 6 18] .ret))
def r198:List RV:=[.tmp 6]
theorem t198:Qt1 Tryz.prog 198 c198 r198 19:=ZF Tryz.func198
def c106:SC:=(sr1 [o1 3 (Jz 0 0 3),o1 4 (Jz 1 0 3),Jw 6 Jf] (sr1 [m1 7 2,o1 8 (.mkf 179 [.t 3,.t 4]),o1 9 (J2 168 7 8),o1 10 (Jh 9),m1 6 10] .ret))
def r106:List RV:=[.tmp 6]
theorem t106:Qt1 Tryz.prog 106 c106 r106 11:=ZF Tryz.func106
def c246:SC:=(sr1 [Jk 4 0] (.seq (sr1 [m1 6 0,o1 7 (Jl 6),Jk 8 0] (.block 0 (.loop (sr1 [o1 9 (Jb .lss 8 7)] (.seq (Ji 9 .skip (.exit 0)) (.seq (.block 1 (sr1 [m1 10 8,m1 5 10] (sr1 [m1 11 1,m1 12 0,m1 13 5,o1 14 (Jx 12 13 9),o1 15 (lt 14 9),o1 16
 (.calv (.t 11) [.t 15])] (Ji 16 (sr1 [m1 17 5,m1 4 17] .ret) .skip)))) (.reg [o1 18 (Jc .add 8 1),m1 8 18]))))))) (sr1 [o1 4 (.mv (cn (-1)))] .ret)))
def r246:List RV:=[.tmp 4]
theorem t246:Qt1 Tryz.prog 246 c246 r246 19:=ZF Tryz.func246
def c247:SC:=(sr1 [Jk 4 0] (.seq (sr1 [m1 6 0,o1 7 (Jl 6),Jk 8 0] (.block 0 (.loop (sr1 [o1 9 (Jb .lss 8 7)] (.seq (Ji 9 .skip (.exit 0)) (.seq (.block 1 (sr1 [m1 10 8,m1 5 10] (sr1 [m1 11 1,m1 12 0,m1 13 5,o1 14 (Jx 12 13 5),o1 15 (lt 14 5),o1 16
 (.calv (.t 11) [.t 15])] (Ji 16 (sr1 [m1 17 5,m1 4 17] .ret) .skip)))) (.reg [o1 18 (Jc .add 8 1),m1 8 18]))))))) (sr1 [o1 4 (.mv (cn (-1)))] .ret)))
def r247:List RV:=[.tmp 4]
theorem t247:Qt1 Tryz.prog 247 c247 r247 19:=ZF Tryz.func247
def c180:SC:=(sr1 [Jk 4 0] (.seq (sr1 [m1 6 0,o1 7 (Jl 6),Jk 8 0] (.block 0 (.loop (sr1 [o1 9 (Jb .lss 8 7)] (.seq (Ji 9 .skip (.exit 0)) (.seq (.block 1 (sr1 [m1 10 8,m1 5 10] (sr1 [m1 11 1,m1 12 0,m1 13 5,o1 14 (Jx 12 13 1),o1 15 (lf 14 1),o1 16
 (.calv (.t 11) [.t 15])] (Ji 16 (sr1 [m1 17 5,m1 4 17] .ret) .skip)))) (.reg [o1 18 (Jc .add 8 1),m1 8 18]))))))) (sr1 [o1 4 (.mv (cn (-1)))] .ret)))
def r180:List RV:=[.tmp 4]
theorem t180:Qt1 Tryz.prog 180 c180 r180 19:=ZF Tryz.func180
def c168:SC:=(sr1 [Jw 4 Jf] (sr1 [m1 5 0,m1 6 1,o1 7 (J2 244 5 6),o1 8 (Jc .geq 7 0),m1 4 8] .ret))
def r168:List RV:=[.tmp 4]
theorem t168:Qt1 Tryz.prog 168 c168 r168 9:=ZF Tryz.func168
def c179:SC:=(sr1 [o1 3 (Jz 0 0 27),Jw 4 Jf] (sr1 [o1 5 (ao 3 0),o1 6 (lf 5 1),o1 7 (ao 3 1),o1 8 (lf 7 1),o1 9 (Jb .gtr 6 8),m1 10 9,g1 11 10 false (lf 1 1),g1 12 10 false (lf 2 1),g1 13 10 false (ao 3 0),g1 14 10 false (lf 13 1),g1 15 10 false (ao 3
 1),g1 16 10 false (lf 15 1),g1 17 10 false (.bsl 1 3 [.t 14,.t 16]),g1 18 10 false (J3 52 11 12 17),g1 19 10 false (Jh 18),o1 20 (.pick (.t 10) Jt (.t 19)),m1 4 20] .ret))
def r179:List RV:=[.tmp 4]
theorem t179:Qt1 Tryz.prog 179 c179 r179 21:=ZF Tryz.func179
def c244:SC:=(sr1 [Jk 4 0] (.seq (sr1 [m1 6 0,o1 7 (Jl 6),Jk 8 0] (.block 0 (.loop (sr1 [o1 9 (Jb .lss 8 7)] (.seq (Ji 9 .skip (.exit 0)) (.seq (.block 1 (sr1 [m1 10 8,m1 5 10] (sr1 [m1 11 1,m1 12 0,m1 13 5,o1 14 (Jx 12 13 2),o1 15 (lt 14 2),o1 16
 (.calv (.t 11) [.t 15])] (Ji 16 (sr1 [m1 17 5,m1 4 17] .ret) .skip)))) (.reg [o1 18 (Jc .add 8 1),m1 8 18]))))))) (sr1 [o1 4 (.mv (cn (-1)))] .ret)))
def r244:List RV:=[.tmp 4]
theorem t244:Qt1 Tryz.prog 244 c244 r244 19:=ZF Tryz.func244
def c119:SC:=(sr1 [o1 3 (Jz 0 0 25),o1 5 (Jz 2 0 27),o1 6 (.alloc zv0 27),Jk 7 0] (sr1 [o1 11 (lt 3 2),o1 12 (lt 5 2),o1 13 (J2 51 11 12),m1 10 13,o1 14 (Je 10 0),o1 15 (Je 10 1),o1 8 (.alloc Zr3 126),Js 8 14 4,m1 9 15] (.seq (.block 0 (sr1 [m1 17
 9,o1 18 (Jc .neq 17 0),m1 16 18] (Ji 16 (sr1 [o1 19 (.build zv0 []),m1 20 9,Js 6 19 2,m1 7 20] .ret) (sr1 [o1 22 (ao 3 1),o1 23 (lf 22 1),o1 24 (Jl 23),o1 25 (Jc .sub 24 1),m1 26 1,o1 27 (.bsl 1 3 [.t 26]),o1 28 (.call 52 [cn 0,.t 25,.t 27]),o1 29
 (Jh 28),m1 21 29] (Ji 21 (sr1 [o1 30 (.build zv0 []),Js 6 30 2,Jk 7 2] .ret) .skip))))) (sr1 [o1 31 (lt 8 4),m1 32 1,o1 33 (J2 109 31 32),o1 34 (J1 56 33),Js 6 34 2,Jk 7 0] .ret))))
def r119:List RV:=[.cell 6 2 true,.tmp 7]
theorem t119:Qt1 Tryz.prog 119 c119 r119 35:=ZF Tryz.func119
def c122:SC:=(sr1 [o1 1 (Jz 0 0 25),Jk 2 0] (.seq (sr1 [o1 3 (lt 1 2),o1 4 (J1 197 3),o1 5 (Jh 4)] (Ji 5 (sr1 [Jk 2 30] .ret) .skip)) (sr1 [Jk 2 0] .ret)))
def r122:List RV:=[.tmp 2]
theorem t122:Qt1 Tryz.prog 122 c122 r122 6:=ZF Tryz.func122
def c51:SC:=(sr1 [o1 2 (Jz 0 0 25),o1 3 (Jz 1 0 27),o1 4 (.alloc Zr3 126),Jk 5 0] (.seq (sr1 [o1 7 (lt 2 2),o1 8 (J1 105 7),m1 6 8] (sr1 [m1 9 6,o1 10 (Jc .neq 9 0)] (Ji 10 (sr1 [o1 11 (.build Zr3 []),m1 12 6,Js 4 11 4,m1 5 12] .ret) .skip))) (.seq
 (sr1 [o1 13 (lt 3 2),o1 14 (.bsl 2 27 [.t 13]),o1 15 (.call 106 [cn 1,cn 100000,.t 14]),o1 16 (Jh 15)] (Ji 16 (sr1 [o1 17 (.build Zr3 []),Js 4 17 4,Jk 5 31] .ret) .skip)) (sr1 [o1 18 (lt 2 2),o1 19 (lt 3 2),o1 20 (.build Zr3 [(0,2,.t 18),(2,2,.t
 19)]),Js 4 20 4,Jk 5 0] .ret))))
def r51:List RV:=[.cell 4 4 true,.tmp 5]
theorem t51:Qt1 Tryz.prog 51 c51 r51 21:=ZF Tryz.func51
def c109:SC:=(sr1 [o1 2 (Jz 0 0 126),o1 4 (.alloc zv0 132)] (sr1 [o1 6 (ao 2 0),o1 7 (ao 6 1),o1 8 (lf 7 1),m1 9 1,o1 10 (Jx 8 9 5),o1 11 (ao 10 2),o1 12 (lt 11 2),o1 5 (.alloc zv0 27),Js 5 12 2] (.seq (.regd (Jr 24) [Jo 13 (ao 5 0),Jp 14 (lf 13 1)
 [0],Jo 15 (ao 2 2),Jp 16 (ao 15 1) [2],Jp 17 (lf 16 1) [3],Jp 18 (Jb .add 14 17) [1,4],Jp 19 (Jc .sub 18 1) [5],Jo 20 (ao 2 2),Jp 21 (ao 20 1) [7],Jp 22 (lf 21 1) [8],Jp 23 (.div .quo (.t 19) (.t 22)) [6,9],Jo 24 (ao 5 1),Jp 25 (lf 24 1) [11],Jo 26
 (ao 2 2),Jp 27 (ao 26 0) [13],Jp 28 (lf 27 1) [14],Jp 29 (Jb .add 25 28) [12,15],Jp 30 (Jc .sub 29 1) [16],Jo 31 (ao 2 2),Jp 32 (ao 31 0) [18],Jp 33 (lf 32 1) [19],Jp 34 (.div .quo (.t 30) (.t 33)) [17,20],Jp 35 (.build zv0 [(0,1,.t 23),(1,1,.t 34)])
 [10,21]] 0 1 [Ju 4 35 2 (Jr 23)]) .ret)))
def r109:List RV:=[.cell 4 2 true]
theorem t109:Qt1 Tryz.prog 109 c109 r109 36:=ZF Tryz.func109
def c56:SC:=(sr1 [o1 1 (Jz 0 0 132),o1 2 (.alloc zv0 27)] (sr1 [o1 3 (.ixa (.t 1) (cn 0) 2 1),o1 4 (lf 3 1),o1 5 (.ixa (.t 1) (cn 1) 2 1),o1 6 (lf 5 1),o1 7 (.build zv0 [(0,1,.t 4),(1,1,.t 6)]),Js 2 7 2] .ret))
def r56:List RV:=[.cell 2 2 true]
theorem t56:Qt1 Tryz.prog 56 c56 r56 8:=ZF Tryz.func56
def c54:SC:=(sr1 [o1 3 (Jz 0 0 126),o1 5 (Jz 2 0 132),o1 6 (.alloc zv0 132)] (sr1 [o1 15 (lt 3 4),m1 16 1,o1 17 (J2 109 15 16),o1 7 (.alloc zv0 132),Js 7 17 2] (sr1 [o1 18 (.build zv0 [(0,1,.c (.int .i64 100001)),(1,1,.c (.int .i64 100001))]),o1 8
 (.alloc zv0 132),Js 8 18 2] (.seq (sr1 [o1 19 (ao 3 0),o1 20 (ao 19 1),o1 21 (lf 20 1),m1 22 1,o1 23 (Jx 21 22 5),o1 24 (ao 23 4),o1 25 (lf 24 1),o1 26 (Jl 25),Jk 27 0] (.block 0 (.loop (sr1 [o1 28 (Jb .lss 27 26)] (.seq (Ji 28 .skip (.exit 0)) (.seq
 (.block 1 (sr1 [o1 29 (Jx 25 27 4),o1 30 (lt 29 4),o1 10 (.alloc zv8 219),Js 10 30 4] (.seq (.regd (Jr 18) [Jo 31 (ao 10 0),Jp 32 (ao 31 0) [0],Jp 33 (lf 32 1) [1],Jo 34 (ao 10 0),Jp 35 (ao 34 1) [3],Jp 36 (lf 35 1) [4],Jp 37 (.build zv0 [(0,1,.t
 33),(1,1,.t 36)]) [2,5],Jo 38 (ao 10 2),Jp 39 (ao 38 1) [7],Jp 40 (lf 39 1) [8],Jo 41 (ao 10 2),Jp 42 (ao 41 0) [10],Jp 43 (lf 42 1) [11],Jp 44 (.build zv0 [(0,1,.t 40),(1,1,.t 43)]) [9,12]] 2 2 [o1 11 (.alloc zv0 132),o1 12 (.alloc zv0 132),Ju 11 37
 2 [0,1,2,3,4,5,6,14,15],Ju 12 44 2 (Jr 17)]) (sr1 [Jk 45 0] (.block 2 (.loop (sr1 [o1 46 (Jc .lss 45 2)] (.seq (Ji 46 .skip (.exit 2)) (.seq (.block 3 (sr1 [m1 47 45,m1 13 47] (.seq (.regd (Jr 8) [Jm 48 13,Jp 49 (.ixa (.t 5) (.t 48) 2 1) [0],Jp 50
 (lf 49 1) [1],Jm 51 13,Jp 52 (.ixa (.t 11) (.t 51) 2 1) [3],Jp 53 (lf 52 1) [4],Jp 54 (.mm true [.t 50,.t 53]) [2,5],Jp 14 (.mv (.t 54)) (Jr 7)] 0 0 []) (.seq (.regd (Jr 10) [Jm 55 14,Jm 56 13,Jp 57 (.ixa (.t 7) (.t 56) 2 1) [1],Jp 58 (lf 57 1)
 [2],Jp 59 (Jb .add 55 58) [0,3],Jp 60 (Jc .sub 59 1) [4],Jm 61 13,Jp 62 (.ixa (.t 12) (.t 61) 2 1) [6],Jp 63 (lf 62 1) [7],Jp 64 (Jb .leq 60 63) [5,8]] 0 0 []) (Ji 64 (.reg [m1 65 13,m1 66 13,o1 67 (.ixa (.t 8) (.t 66) 2 1),o1 68 (lf 67 1),m1 69
 14,o1 70 (.bsl 1 3 [.t 68,.t 69]),o1 71 (J1 110 70),o1 72 (.ixa (.t 8) (.t 65) 2 1),Js 72 71 1]) .skip))))) (.reg [o1 73 (Jc .add 45 1),m1 45 73])))))))))) (.reg [o1 74 (Jc .add 27 1),m1 27 74]))))))) (sr1 [o1 75 (lt 8 2),Js 6 75 2] .ret)))))
def r54:List RV:=[.cell 6 2 true]
theorem t54:Qt1 Tryz.prog 54 c54 r54 76:=ZF Tryz.func54
def c123:SC:=(sr1 [o1 1 (Jz 0 0 27),Jw 2 Jf] (sr1 [o1 3 (lt 1 2),o1 4 (.call 198 [.t 3,cn 1,cn 100000]),m1 2 4] .ret))
def r123:List RV:=[.tmp 2]
theorem t123:Qt1 Tryz.prog 123 c123 r123 5:=ZF Tryz.func123
def c110:SC:=(sr1 [Jk 2 0] (sr1 [m1 3 0,o1 4 (.bsl 1 3 [cn 100001]),o1 5 (.app 1 8 3 (.t 3) (.t 4)),o1 6 (J1 104 5),m1 2 6] .ret))
def r110:List RV:=[.tmp 2]
theorem t110:Qt1 Tryz.prog 110 c110 r110 7:=ZF Tryz.func110
def ZEb:SC:=(sr1 [Jk 2 0] (.seq (sr1 [m1 5 0,o1 6 (Jl 5),o1 7 (Jc .lss 6 1)] (Ji 7 (.reg [o1 8 (.raw (Go.Op.makeInterface 9 (Go.Operand.const (Go.Value.string { data:=#[115,108,105,99,101,115,46,77,105,110,58,32,101,109,112,116,121,32,108,105,115,116] })))
 20),⟨none,.raw (Go.Op.panic (Go.Operand.tmp 8)) 0,none,[]⟩]) .skip)) (sr1 [m1 9 0,o1 10 (.ixs (.t 9) (cn 0) 1),o1 11 (lf 10 1),m1 3 11] (.seq (sr1 [Jk 4 1] (.block 0 (.loop (.seq (sr1 [m1 12 4,m1 13 0,o1 14 (Jl 13),o1 15 (Jb .lss 12 14)] (Ji 15 .skip
 (.exit 0))) (.seq (.block 1 (.reg [m1 18 3,m1 19 0,m1 20 4,o1 21 (Jx 19 20 1),o1 22 (lf 21 1),o1 23 (.mm false [.t 18,.t 22]),m1 3 23])) (.reg [m1 16 4,o1 17 (Jc .add 16 1),m1 4 17])))))) (sr1 [m1 24 3,m1 2 24] .ret)))))
def ZD6:List RV:=[.tmp 2]
theorem t104:Qt1 Tryz.prog 104 ZEb ZD6 25:=ZF Tryz.func104
end Go.Proofs.YtongccnhomncnaaGreatDoor
namespace Go.Azalai
structure Span where
 lo:Int
 hi:Int
deriving DecidableEq
structure Well where
 x:Int
 y:Int
 depth:Int
 yld:Span
 room:Int
 has:Span
 owner:Int
deriving DecidableEq
structure Gate where
 opens:Span
 shuts:Span
deriving DecidableEq
structure Leg where
 a:Int
 b:Int
 long:Span
 gates:List Gate
deriving DecidableEq
structure Land where
 wells:List Well
 legs:List Leg
deriving DecidableEq
structure Draw where
 well:Int
 day:Int
 water:Int
deriving DecidableEq
def inR (lo hi n:Int):Bool:=decide (lo<=n/\n<=hi)
def ZW (lo hi:Int) (s:Span):Bool:=decide (lo<=s.lo/\s.lo<=s.hi/\s.hi<=hi)
def YY (w:Well):Bool :=
 inR (-10000000) 10000000 w.x && inR (-10000000) 10000000 w.y && inR 0 200 w.depth && ZW 0 10000000 w.yld && inR 0 1000000000 w.room && ZW 0 w.room w.has && inR 0 9999 w.owner
def YM (next:Int):List Gate->Bool
 | []=>true
 | g :: r=>ZW 0 100000 g.opens && ZW 0 100000 g.shuts && inR next g.shuts.hi g.opens.lo && YM (g.shuts.hi+1) r
def WD (n:Int) (x:Leg):Bool :=
 inR 0 (n - 1) x.a && inR 0 (n - 1) x.b && x.a != x.b && ZW 1 1000000 x.long && decide (x.gates.length<=6) && YM 0 x.gates
def Z7 (l:Land):Bool :=
 inR 1 12 l.wells.length && decide (l.legs.length<=24) && l.wells.all YY && l.legs.all (WD l.wells.length)
def Xd {α : Type} (g:α->Bool):List α->Nat->Int
 | [],_=>-1
 | x :: l,k=>if g x then k else Xd g l (k+1)
theorem ZfK {α : Type} (g:α->Bool):∀ (l:List α) (k:Nat),decide (Xd g l k ≥ 0)=l.any g
 | [],k=>by simp [Xd]
 | x :: l,k=>by
  simp only [Xd,List.any_cons];by_cases hg:g x=true
  . simp [hg]
  . simpa [hg] using ZfK g l (k+1)
def Wo (w:Well) (has:Span) (days:Int):Span:=⟨min w.room (has.lo+days * w.yld.lo),min w.room (has.hi+days * w.yld.hi)⟩
def W9 (n last:Int):List Draw->Bool
 | []=>true
 | x :: r=>inR 0 (n - 1) x.well && inR last 100000 x.day && inR 0 1000000000 x.water && W9 n x.day r
def Ue (w:Well) (well day:Int) (now:Span) (evening:Int) (i:Nat):List Draw->Span × Int × Int
 | []=>(Wo w now (day - 1 - evening),0,0)
 | x :: r =>
  if (x.well != well || decide (x.day ≥ day))=true then Ue w well day now evening (i+1) r
  else
   let f:=Wo w now (x.day - evening)
   if f.hi < x.water then (⟨0,0⟩,i,33) else Ue w well day ⟨max 0 (f.lo - x.water),f.hi - x.water⟩ x.day (i+1) r
def WY (l:Land) (well:Int) (draws:List Draw) (day:Int):Span × Int × Int :=
 if Z7 l=false then (⟨0,0⟩,0,30)
 else if (inR 0 (l.wells.length - 1) well && inR 0 100000 day)=false then (⟨0,0⟩,0,2)
 else if draws.length > 200 then (⟨0,0⟩,0,4)
 else if W9 l.wells.length 0 draws=false then (⟨0,0⟩,0,32)
 else match l.wells[well.toNat]? with
  | some w=>Ue w well day w.has (-1) 0 draws
  | none=>(⟨0,0⟩,0,0)
def Small (l:Land):Prop:=l.wells.length<=1000/\l.legs.length<=1000/\∀ x ∈ l.legs,x.gates.length<=1000
def ZbR (l:Land):Bool:=decide (l.wells.length > 20) || decide (l.legs.length > 40) || l.legs.any λx=>decide (x.gates.length > 20)
theorem Zgm {l:Land} (h:Z7 l=true):∀ w ∈ l.wells,YY w=true:=by
 simp only [Z7,Bool.and_eq_true,List.all_eq_true] at h;exact h.1.2
theorem Zai {l:Land} (h:Z7 l=true):1<=l.wells.length/\l.wells.length<=12/\l.legs.length<=24:=by
 simp only [Z7,Bool.and_eq_true,inR,decide_eq_true_eq] at h;omega
theorem ZbM {n:Int}:∀ {l:List Draw} {last:Int},W9 n last l=true->0<=last->∀ x ∈ l,0<=x.day/\x.day<=100000/\0<=x.water/\x.water<=1000000000
 | [],_,_,_,x,h=>by simp at h
 | y :: l,last,h,h0,x,hx=>by
  simp only [W9,Bool.and_eq_true,inR,decide_eq_true_eq] at h;rcases List.mem_cons.1 hx with rfl | hx
  . omega
  . exact ZbM h.2 (by omega) x hx
end Go.Azalai
namespace Go.Proofs.YtongccnhomncnaaGreatDoor
open Go Go.Sx Go.Azalai
def Zk (n:Int):Ls:=[I n]
def Ze (s:Span):Ls:=[I s.lo,I s.hi]
def Zi (g:Gate):Ls:=[I g.opens.lo,I g.opens.hi,I g.shuts.lo,I g.shuts.hi]
def Zg (w:Well):Ls:=[I w.x,I w.y,I w.depth,I w.yld.lo,I w.yld.hi,I w.room,I w.has.lo,I w.has.hi,I w.owner]
def Zr (x:Leg):Ls:=[I x.a,I x.b,I x.long.lo,I x.long.hi,.sl false 4 (x.gates.map Zi)]
def Yo (l:Land):Ls:=[.sl false 9 (l.wells.map Zg),.sl false 5 (l.legs.map Zr)]
def Yx (d:Draw):Ls:=[I d.well,I d.day,I d.water]
theorem XG {α : Type} (g:α->Bool) (l:List α):decide (Xd g l 0 ≥ 0)=l.any g:=ZfK g l 0
theorem ZeO (h:Nat) (caps:Ls) (hk:KFL caps) (g:Int->Bool) (l:List Int) (hg:∀ x ∈ l,Cp h (I x :: caps) (B (g x))) (hl:l.length < 4611686018427387904) {c:Bool} :
 Cp 180 [.sl c 1 (l.map Zk),.cl h caps] (I (Xd g l 0)):=by
 refine t180.1 ⟨by simp [KF,Za,KFL,Zk],hk,trivial⟩ (by simp [KF]) ?_;dsimp only [c180,r180,go_sem];refine Ym (λk:Nat=>[(8,I k)]) (λ_=>[]) (λk=>k<=l.length/\Xd g (l.drop k) k=Xd g l 0) (λk=>l.length - k) 0 ⟨Nat.zero_le _,rfl⟩ ?_ ?_
 . (refine Zj ?_ ?_ ?_ rfl rfl<;>dsimp only [Zk,hk,id,go_sem]<;>simp [Zk,hk,Za])
 . intro k ⟨hk',hi⟩;dsimp only [go_sem];refine br ?_ ?_
   . intro hlt;have hlt:k < l.length:=by simpa using hlt
     dsimp only [go_sem];refine Zn k hlt rfl ?_;dsimp only [Zk,go_sem];refine call (hg l[k] (List.getElem_mem _)) ?_;dsimp only [go_sem];refine br ?_ ?_
     . intro hgx;dsimp only [go_sem];rw [<- hi,List.drop_eq_getElem_cons hlt];simp [Xd,hgx]
     . intro hgx;dsimp only [go_sem];refine ⟨k+1,⟨by omega,?_⟩,by omega,?_⟩
       . rw [<- hi,List.drop_eq_getElem_cons hlt];simp [Xd,hgx]
       . rw [Zf (by omega) (by omega)];(refine Zj ?_ ?_ ?_ rfl rfl<;>dsimp only [Zk,hk,id,go_sem]<;>simp [Zk,hk,Za])
   . intro hlt;have hlt:k=l.length:=by simp at hlt;omega
     dsimp only [go_sem];rw [<- hi,hlt];simp [Xd]
theorem ZqJ (h:Nat) (caps:Ls) (hk:KFL caps) (g:Int->Bool) (l:List Int) (hg:∀ x ∈ l,Cp h (I x :: caps) (B (g x))) (hl:l.length < 4611686018427387904) {c:Bool} :
 Cp 107 [.sl c 1 (l.map Zk),.cl h caps] (B (l.any g)):=by
 refine t107.1 ⟨by simp [KF,Za,KFL,Zk],hk,trivial⟩ (by simp [KF]) ?_;dsimp only [c107,r107,go_sem];refine call (ZeO h caps hk g l hg hl) ?_;dsimp only [go_sem];rw [XG]
theorem idx95 (h:Nat) (caps:Ls) (hk:KFL caps) (g:Well->Bool) (l:List Well) (hg:∀ x ∈ l,Cp h (.agg (Zg x) :: caps) (B (g x))) (hl:l.length < 4611686018427387904) {c:Bool} :
 Cp 246 [.sl c 9 (l.map Zg),.cl h caps] (I (Xd g l 0)):=by
 refine t246.1 ⟨by simp [KF,Za,KFL,Zg],hk,trivial⟩ (by simp [KF]) ?_;dsimp only [c246,r246,go_sem];refine Ym (λk:Nat=>[(8,I k)]) (λ_=>[]) (λk=>k<=l.length/\Xd g (l.drop k) k=Xd g l 0) (λk=>l.length - k) 0 ⟨Nat.zero_le _,rfl⟩ ?_ ?_
 . (refine Zj ?_ ?_ ?_ rfl rfl<;>dsimp only [Zg,hk,id,go_sem]<;>simp [Zg,hk,Za])
 . intro k ⟨hk',hi⟩;dsimp only [go_sem];refine br ?_ ?_
   . intro hlt;have hlt:k < l.length:=by simpa using hlt
     dsimp only [go_sem];refine Zn k hlt rfl ?_;dsimp only [Zg,go_sem];refine call (hg l[k] (List.getElem_mem _)) ?_;dsimp only [go_sem];refine br ?_ ?_
     . intro hgx;dsimp only [go_sem];rw [<- hi,List.drop_eq_getElem_cons hlt];simp [Xd,hgx]
     . intro hgx;dsimp only [go_sem];refine ⟨k+1,⟨by omega,?_⟩,by omega,?_⟩
       . rw [<- hi,List.drop_eq_getElem_cons hlt];simp [Xd,hgx]
       . rw [Zf (by omega) (by omega)];(refine Zj ?_ ?_ ?_ rfl rfl<;>dsimp only [Zg,hk,id,go_sem]<;>simp [Zg,hk,Za])
   . intro hlt;have hlt:k=l.length:=by simp at hlt;omega
     dsimp only [go_sem];rw [<- hi,hlt];simp [Xd]
theorem con71 (h:Nat) (caps:Ls) (hk:KFL caps) (g:Well->Bool) (l:List Well) (hg:∀ x ∈ l,Cp h (.agg (Zg x) :: caps) (B (g x))) (hl:l.length < 4611686018427387904) {c:Bool} :
 Cp 173 [.sl c 9 (l.map Zg),.cl h caps] (B (l.any g)):=by
 refine t173.1 ⟨by simp [KF,Za,KFL,Zg],hk,trivial⟩ (by simp [KF]) ?_;dsimp only [c173,r173,go_sem];refine call (idx95 h caps hk g l hg hl) ?_;dsimp only [go_sem];rw [XG]
theorem idx96 (h:Nat) (caps:Ls) (hk:KFL caps) (g:Leg->Bool) (l:List Leg) (hg:∀ x ∈ l,Cp h (.agg (Zr x) :: caps) (B (g x))) (hl:l.length < 4611686018427387904) {c:Bool} :
 Cp 247 [.sl c 5 (l.map Zr),.cl h caps] (I (Xd g l 0)):=by
 refine t247.1 ⟨by simp [KF,Za,KFL,Zr,Zi],hk,trivial⟩ (by simp [KF]) ?_;dsimp only [c247,r247,go_sem];refine Ym (λk:Nat=>[(8,I k)]) (λ_=>[]) (λk=>k<=l.length/\Xd g (l.drop k) k=Xd g l 0) (λk=>l.length - k) 0 ⟨Nat.zero_le _,rfl⟩ ?_ ?_
 . (refine Zj ?_ ?_ ?_ rfl rfl<;>dsimp only [Zr,Zi,hk,id,go_sem]<;>simp [Zr,Zi,hk,Za])
 . intro k ⟨hk',hi⟩;dsimp only [go_sem];refine br ?_ ?_
   . intro hlt;have hlt:k < l.length:=by simpa using hlt
     dsimp only [go_sem];refine Zn k hlt rfl ?_;dsimp only [Zr,go_sem];refine call (hg l[k] (List.getElem_mem _)) ?_;dsimp only [go_sem];refine br ?_ ?_
     . intro hgx;dsimp only [go_sem];rw [<- hi,List.drop_eq_getElem_cons hlt];simp [Xd,hgx]
     . intro hgx;dsimp only [go_sem];refine ⟨k+1,⟨by omega,?_⟩,by omega,?_⟩
       . rw [<- hi,List.drop_eq_getElem_cons hlt];simp [Xd,hgx]
       . rw [Zf (by omega) (by omega)];(refine Zj ?_ ?_ ?_ rfl rfl<;>dsimp only [Zr,Zi,hk,id,go_sem]<;>simp [Zr,Zi,hk,Za])
   . intro hlt;have hlt:k=l.length:=by simp at hlt;omega
     dsimp only [go_sem];rw [<- hi,hlt];simp [Xd]
theorem con74 (h:Nat) (caps:Ls) (hk:KFL caps) (g:Leg->Bool) (l:List Leg) (hg:∀ x ∈ l,Cp h (.agg (Zr x) :: caps) (B (g x))) (hl:l.length < 4611686018427387904) {c:Bool} :
 Cp 176 [.sl c 5 (l.map Zr),.cl h caps] (B (l.any g)):=by
 refine t176.1 ⟨by simp [KF,Za,KFL,Zr,Zi],hk,trivial⟩ (by simp [KF]) ?_;dsimp only [c176,r176,go_sem];refine call (idx96 h caps hk g l hg hl) ?_;dsimp only [go_sem];rw [XG]
theorem ZDk (h:Nat) (caps:Ls) (hk:KFL caps) (g:Span->Bool) (l:List Span) (hg:∀ x ∈ l,Cp h (.agg (Ze x) :: caps) (B (g x))) (hl:l.length < 4611686018427387904) {c:Bool} :
 Cp 244 [.sl c 2 (l.map Ze),.cl h caps] (I (Xd g l 0)):=by
 refine t244.1 ⟨by simp [KF,Za,KFL,Ze],hk,trivial⟩ (by simp [KF]) ?_;dsimp only [c244,r244,go_sem];refine Ym (λk:Nat=>[(8,I k)]) (λ_=>[]) (λk=>k<=l.length/\Xd g (l.drop k) k=Xd g l 0) (λk=>l.length - k) 0 ⟨Nat.zero_le _,rfl⟩ ?_ ?_
 . (refine Zj ?_ ?_ ?_ rfl rfl<;>dsimp only [Ze,hk,id,go_sem]<;>simp [Ze,hk,Za])
 . intro k ⟨hk',hi⟩;dsimp only [go_sem];refine br ?_ ?_
   . intro hlt;have hlt:k < l.length:=by simpa using hlt
     dsimp only [go_sem];refine Zn k hlt rfl ?_;dsimp only [Ze,go_sem];refine call (hg l[k] (List.getElem_mem _)) ?_;dsimp only [go_sem];refine br ?_ ?_
     . intro hgx;dsimp only [go_sem];rw [<- hi,List.drop_eq_getElem_cons hlt];simp [Xd,hgx]
     . intro hgx;dsimp only [go_sem];refine ⟨k+1,⟨by omega,?_⟩,by omega,?_⟩
       . rw [<- hi,List.drop_eq_getElem_cons hlt];simp [Xd,hgx]
       . rw [Zf (by omega) (by omega)];(refine Zj ?_ ?_ ?_ rfl rfl<;>dsimp only [Ze,hk,id,go_sem]<;>simp [Ze,hk,Za])
   . intro hlt;have hlt:k=l.length:=by simp at hlt;omega
     dsimp only [go_sem];rw [<- hi,hlt];simp [Xd]
theorem ZmS (h:Nat) (caps:Ls) (hk:KFL caps) (g:Span->Bool) (l:List Span) (hg:∀ x ∈ l,Cp h (.agg (Ze x) :: caps) (B (g x))) (hl:l.length < 4611686018427387904) {c:Bool} :
 Cp 168 [.sl c 2 (l.map Ze),.cl h caps] (B (l.any g)):=by
 refine t168.1 ⟨by simp [KF,Za,KFL,Ze],hk,trivial⟩ (by simp [KF]) ?_;dsimp only [c168,r168,go_sem];refine call (ZDk h caps hk g l hg hl) ?_;dsimp only [go_sem];rw [XG]
theorem X4 (n lo hi:Int):Cp 263 [I n,I lo,I hi] (B (inR lo hi n)):=by
 refine t263.1 (by simp) (by simp) ?_;dsimp only [c263,r263,go_sem];refine gb ?_;dsimp only [go_sem];refine gb ?_;dsimp only [go_sem];refine gb ?_;dsimp only [go_sem];simp [inR]
theorem ZZ (s:Span) (lo hi:Int):Cp 198 [.agg (Ze s),I lo,I hi] (B (ZW lo hi s)):=by
 refine t198.1 (by simp [Ze]) (by simp) ?_;dsimp only [c198,r198,Ze,go_sem];refine call (X4 _ _ _) ?_;dsimp only [go_sem];repeat (refine gb ?_;dsimp only [go_sem])
 (simp only [ZW,inR,Option.some.injEq,SV.v.injEq,Value.bool.injEq]<;>grind)
theorem ZdL (lo hi x:Int):Cp 108 [I x,.ps [I lo] 0,.ps [I hi] 0] (B (!inR lo hi x)):=by
 refine t108.1 (by simp) (by simp) ?_;dsimp only [c108,r108,go_sem];repeat (refine gb ?_;dsimp only [go_sem])
 (simp only [inR,Option.some.injEq,SV.v.injEq,Value.bool.injEq]<;>grind)
theorem U3 (lo hi:Int) (l:List Int) (hl:l.length < 4611686018427387904) (c:Bool):Cp 52 [I lo,I hi,.sl c 1 (l.map Zk)] (B (l.all (inR lo hi))):=by
 refine t52.1 (by simp [Za,Zk]) (by simp) ?_;dsimp only [c52,r52,go_sem];refine WM (by simp [FLT]) (res:=B (l.any λx=>!inR lo hi x)) ?_ ?_
 . dsimp only [go_sem];exact ZqJ 108 [.ps [I lo] 0,.ps [I hi] 0] (by simp) (λx=>!inR lo hi x) l (λx _=>ZdL lo hi x) hl
 . dsimp only [go_sem];simp [List.all_eq_not_any_not]
theorem Zas (lo hi a:Int) (c:Bool):Cp 52 [I lo,I hi,.sl c 1 [[I a]]] (B (inR lo hi a)):=by
 have:=U3 lo hi [a] (by simp) c;simpa [Zk] using this
theorem Zev (lo hi a b:Int) (c:Bool):Cp 52 [I lo,I hi,.sl c 1 [[I a],[I b]]] (B (inR lo hi a && inR lo hi b)):=by
 have:=U3 lo hi [a,b] (by simp) c;simpa [Zk] using this
theorem Uj (lo hi:Int) (s:Span):Cp 179 [.agg (Ze s),.ps [I lo] 0,.ps [I hi] 0] (B (!ZW lo hi s)):=by
 refine t179.1 (by simp [Ze]) (by simp) ?_;dsimp only [c179,r179,Ze,go_sem];repeat (first | (refine gb ?_;dsimp only [go_sem]) | (refine call (Zev _ _ _ _ _) ?_;dsimp only [go_sem]))
 (simp only [ZW,inR,Option.some.injEq,SV.v.injEq,Value.bool.injEq]<;>grind)
theorem XB (lo hi:Int) (l:List Span) (hl:l.length < 4611686018427387904) (c:Bool):Cp 106 [I lo,I hi,.sl c 2 (l.map Ze)] (B (l.all (ZW lo hi))):=by
 refine t106.1 (by simp [Za,Ze]) (by simp) ?_;dsimp only [c106,r106,go_sem];refine WM (by simp [FLT]) (res:=B (l.any λx=>!ZW lo hi x)) ?_ ?_
 . dsimp only [go_sem];exact ZmS 179 [.ps [I lo] 0,.ps [I hi] 0] (by simp) (λx=>!ZW lo hi x) l (λx _=>Uj lo hi x) hl
 . dsimp only [go_sem];simp [List.all_eq_not_any_not]
theorem Xn (lo hi:Int) (s:Span) (c:Bool):Cp 106 [I lo,I hi,.sl c 2 [[I s.lo,I s.hi]]] (B (ZW lo hi s)):=by
 have:=XB lo hi [s] (by simp) c;simpa [Ze] using this
theorem Zdu (lo hi:Int) (s t:Span) (c:Bool):Cp 106 [I lo,I hi,.sl c 2 [[I s.lo,I s.hi],[I t.lo,I t.hi]]] (B (ZW lo hi s && ZW lo hi t)):=by
 have:=XB lo hi [s,t] (by simp) c;simpa [Ze] using this
theorem ZC8 (w:Well):Cp 175 [.agg (Zg w)] (B (YY w)):=by
 refine t175.1 (by simp [Zg]) (by simp) ?_;dsimp only [c175,r175,Zg,go_sem];repeat (first | (refine gb ?_;dsimp only [go_sem]) | (refine call (Zas _ _ _ _) ?_;dsimp only [go_sem]) | (refine call (Zev _ _ _ _ _) ?_;dsimp only [go_sem]) | (refine call (Xn _ _ w.yld _) ?_;dsimp only [go_sem]) | (refine call (Xn _ _ w.has _) ?_;dsimp only [go_sem]))
 simp [YY,Bool.and_assoc]
theorem Zib (x:Leg) (n:Int) (h0:0<=n) (h1:n<=1000) (hg:x.gates.length < 4611686018427387904):Cp 178 [.agg (Zr x),I n] (B (WD n x)):=by
 have hw:IntKind.i64.wrap (n - 1)=n - 1:=Zf (by omega) (by omega);refine t178.1 (by simp [Zr,Za,Zi]) (by simp) ?_;dsimp only [c178,r178,Zr,hw,go_sem];simp only [hw];repeat (first | (refine gb ?_;dsimp only [go_sem]) | (refine call (Zev _ _ _ _ _) ?_;dsimp only [go_sem]) | (refine call (Xn _ _ x.long _) ?_;dsimp only [go_sem]))
 simp only [List.length_map];refine br ?_ ?_
 . intro h;dsimp only [go_sem]
   (simp only [WD,Option.some.injEq,SV.v.injEq,Value.bool.injEq]<;>grind)
 . intro h;dsimp only [go_sem];have hh:WD n x=YM 0 x.gates:=by simp only [WD];grind
   rw [hh];refine Ym (λs:Nat × Int=>[(40,I s.1),(5,I s.2)]) (λ_=>[]) (λs=>s.1<=x.gates.length/\YM s.2 (x.gates.drop s.1)=YM 0 x.gates) (λs=>x.gates.length - s.1) (0,0) ⟨Nat.zero_le _,rfl⟩ ?_ ?_
   . (refine Zj ?_ ?_ ?_ rfl rfl<;>dsimp only [Zi,id,go_sem]<;>simp [Zi,Za])
   . rintro ⟨k,next⟩ ⟨hk,hi⟩;dsimp only [go_sem];refine br ?_ ?_
     . intro hlt;have hlt:k < x.gates.length:=by simpa using hlt
       dsimp only [go_sem];refine Zn k hlt rfl ?_;dsimp only [Zi,go_sem];repeat (first | (refine gb ?_;dsimp only [go_sem]) | (refine call (Zdu _ _ x.gates[k].opens x.gates[k].shuts _) ?_;dsimp only [go_sem]) | (refine call (Zas _ _ _ _) ?_;dsimp only [go_sem]))
       have hd:x.gates.drop k=x.gates[k] :: x.gates.drop (k+1):=List.drop_eq_getElem_cons hlt;refine br ?_ ?_
       . intro hb;dsimp only [go_sem];rw [<- hi,hd]
         (simp only [YM,Option.some.injEq,SV.v.injEq,Value.bool.injEq]<;>grind)
       . intro hb;dsimp only [go_sem];have hs:ZW 0 100000 x.gates[k].shuts=true:=by grind
         simp only [ZW,decide_eq_true_eq] at hs;rw [Zf (n:=x.gates[k].shuts.hi+1) (by omega) (by omega),Zf (n:=(k:Int)+1) (by omega) (by omega)];refine ⟨(k+1,x.gates[k].shuts.hi+1),⟨hlt,?_⟩,by simp only;omega,?_⟩
         . rw [<- hi,hd];simp only [YM];grind
         . (refine Zj ?_ ?_ ?_ rfl rfl<;>dsimp only [Zi,id,go_sem]<;>simp [Zi,Za])
     . intro hlt;have hlt:k=x.gates.length:=by simp at hlt;omega
       dsimp only [go_sem];rw [<- hi,hlt];simp [YM]
theorem Zyo (l:Land) (x:Leg) (hs:Small l) (hx:x ∈ l.legs):Cp 177 [.agg (Zr x),.ps (Yo l) 0] (B (!WD l.wells.length x)):=by
 have hg:=hs.2.2 x hx;refine t177.1 (by simp [Zr,Yo,Zg,Zi,Za]) (by simp) ?_;dsimp only [c177,r177,Zr,Yo,go_sem];simp only [List.length_map];refine call (Zib x l.wells.length (by omega) (by have:=hs.1;omega) (by omega)) ?_;dsimp only [go_sem]
theorem ZrY (w:Well):Cp 174 [.agg (Zg w)] (B (!YY w)):=by
 refine t174.1 (by simp [Zg]) (by simp) ?_;dsimp only [c174,r174,Zg,go_sem];refine call (ZC8 w) ?_;dsimp only [go_sem]
theorem Zdo (l:Land) (hs:Small l):Cp 105 [.agg (Yo l)] (I (if Z7 l=true then 0 else 30)):=by
 refine t105.1 (by simp [Yo,Zg,Zr,Zi,Za]) (by simp) ?_;dsimp only [c105,r105,Yo,go_sem];refine call (con71 174 [] (by simp [KFL]) (λw=>!YY w) l.wells (λw _=>ZrY w) (by have:=hs.1;omega)) ?_;dsimp only [go_sem];refine WM (res:=B (l.legs.any λx=>!WD l.wells.length x)) (by simp [FLT]) ?_ ?_
 . dsimp only [go_sem];exact con74 177 [.ps (Yo l) 0] (by simp [Yo,Zg,Zr,Zi,Za]) (λx=>!WD l.wells.length x) l.legs (λx hx=>Zyo l x hs hx) (by have:=hs.2.1;omega)
 dsimp only [go_sem];repeat (first | (refine gb ?_;dsimp only [go_sem]) | (refine call (Zas _ _ _ _) ?_;dsimp only [go_sem]))
 simp only [List.length_map];have key:Z7 l = !(!inR 1 12 l.wells.length || decide ((l.legs.length:Int) > 24) || !(!l.wells.any λw=>!YY w) || !(!l.legs.any λx=>!WD l.wells.length x)):=by
  simp only [Z7,List.all_eq_not_any_not];grind
 rw [key];refine br ?_ ?_
 . intro h;dsimp only [go_sem];rw [h];rfl
 . intro h;dsimp only [go_sem];rw [h];rfl
theorem Zgi {w:Well} {s:Span} {n:Int} (hw:YY w=true) (h1:0<=s.lo) (h2:s.lo<=w.room) (h3:0<=s.hi) (h4:s.hi<=w.room) (h5:-200000<=n) (h6:n<=200000) :
 IntKind.i64.wrap (s.lo+IntKind.i64.wrap (n * w.yld.lo))=s.lo+n * w.yld.lo/\IntKind.i64.wrap (s.hi+IntKind.i64.wrap (n * w.yld.hi))=s.hi+n * w.yld.hi:=by
 simp only [YY,ZW,inR,Bool.and_eq_true,decide_eq_true_eq] at hw;have key:∀ y:Int,0<=y->y<=10000000->-2000000000000<=n * y/\n * y<=2000000000000:=λy a b=>by
  constructor
  . have:=Int.mul_le_mul_of_nonneg_right h5 a;omega
  . have:=Int.mul_le_mul_of_nonneg_right h6 a;omega
 have k1:=key w.yld.lo (by omega) (by omega);have k2:=key w.yld.hi (by omega) (by omega);rw [Zf (n:=n * w.yld.lo) (by omega) (by omega),Zf (n:=n * w.yld.hi) (by omega) (by omega),Zf (by omega) (by omega),Zf (by omega) (by omega)];exact ⟨rfl,rfl⟩
theorem ZkP {w:Well} {s:Span} {n:Int} (hw:YY w=true) (h1:0<=s.lo) (h2:s.lo<=w.room) (h3:0<=s.hi) (h4:s.hi<=w.room) (h5:-200000<=n) (h6:n<=200000):-2000000000000<=(Wo w s n).lo:=by
 simp only [YY,ZW,inR,Bool.and_eq_true,decide_eq_true_eq] at hw;have k1:-2000000000000<=n * w.yld.lo:=by
  have:=Int.mul_le_mul_of_nonneg_right h5 (show 0<=w.yld.lo by omega);omega
 simp only [Wo];omega
theorem Zfb (w:Well) (s:Span) (n:Int) (hw:YY w=true) (h1:0<=s.lo) (h2:s.lo<=w.room) (h3:0<=s.hi) (h4:s.hi<=w.room) (h5:-200000<=n) (h6:n<=200000) :
 Cp 245 [.agg (Zg w),.agg (Ze s),I n] (.agg (Ze (Wo w s n))):=by
 obtain ⟨k1,k2⟩:=Zgi hw h1 h2 h3 h4 h5 h6;refine t245.1 (by simp [Zg,Ze]) (by simp [Ze]) ?_;dsimp only [c245,r245,Zg,Ze,go_sem];simp only [k1,k2,Wo]
def ZqB (r:Span × Int × Int):SV:=.tup [.agg (Ze r.1),I r.2.1,I r.2.2]
theorem ZtC {l:Land} {well:Int} (h:inR 0 (l.wells.length - 1) well=true):∃ (k:Nat) (hk:k < l.wells.length),well=(k:Int)/\l.wells[well.toNat]? = some l.wells[k]:=by
 simp only [inR,decide_eq_true_eq] at h;refine ⟨well.toNat,by omega,by omega,?_⟩;rw [List.getElem?_eq_getElem (by omega)]
theorem Zo1 (l:Land) (hs:Small l) (well day:Int) (draws:List Draw) (hd:draws.length<=1000) :
 Cp 172 [.agg (Yo l),I well,.sl false 3 (draws.map Yx),I day] (ZqB (WY l well draws day)):=by
 have hw1:IntKind.i64.wrap ((l.wells.length:Int) - 1)=(l.wells.length:Int) - 1:=Zf (by omega) (by have:=hs.1;omega);refine t172.1 (by simp [Yo,Zg,Zr,Zi,Yx,Za]) (by simp [ZqB,Ze]) ?_;dsimp only [c172,r172,Yo,go_sem];refine call (Zdo l hs) ?_;dsimp only [go_sem];by_cases ho:Z7 l=true
 case neg =>
  rw [if_neg ho];refine Zs rfl ?_;dsimp only [go_sem];simp [WY,ho,ZqB,Ze]
 rw [if_pos ho];refine Zo rfl ?_;dsimp only [go_sem];simp only [List.length_map,hw1];repeat (first | (refine gb ?_;dsimp only [go_sem]) | (refine call (Zas _ _ _ _) ?_;dsimp only [go_sem]))
 by_cases ha:(inR 0 (l.wells.length - 1) well && inR 0 100000 day)=true
 case neg =>
  refine Zs (by grind) ?_;dsimp only [go_sem];simp [WY,ho,ZqB,Ze,ha]
 refine Zo (by grind) ?_;dsimp only [go_sem];by_cases hm:draws.length > 200
 case pos =>
  refine Zs (by simp;omega) ?_;dsimp only [go_sem];simp [WY,ho,ZqB,Ze,ha,hm]
 refine Zo (by simp;omega) ?_;dsimp only [go_sem];refine Ym (λs:Nat × Int=>[(50,I s.1),(12,I s.2)]) (λ_=>[]) (λs=>s.1<=draws.length/\W9 l.wells.length s.2 (draws.drop s.1)=W9 l.wells.length 0 draws) (λs=>draws.length - s.1) (0,0) ⟨Nat.zero_le _,rfl⟩ ?_ ?_
 . (refine Zj ?_ ?_ ?_ rfl rfl<;>dsimp only [Zi,Zg,Zr,Yx,id,go_sem]<;>simp [Zi,Zg,Zr,Yx,Za])
 . rintro ⟨k,last⟩ ⟨hk,hi⟩;simp only at hk hi;dsimp only [go_sem];by_cases hlt:k < draws.length
   . refine Zs (by simpa using hlt) ?_;dsimp only [go_sem];refine Zn k hlt rfl ?_;dsimp only [Yx,go_sem];simp only [List.length_map,hw1];repeat (first | (refine gb ?_;dsimp only [go_sem]) | (refine call (Zas _ _ _ _) ?_;dsimp only [go_sem]))
     have hdr:draws.drop k=draws[k] :: draws.drop (k+1):=List.drop_eq_getElem_cons hlt;rw [hdr] at hi;simp only [W9] at hi;refine br ?_ ?_
     . intro h;dsimp only [go_sem];have:W9 l.wells.length 0 draws=false:=by rw [<- hi];grind
       simp [WY,ho,ZqB,Ze,ha,hm,this]
     . intro h;dsimp only [go_sem];rw [Zf (n:=(k:Int)+1) (by omega) (by omega)];refine ⟨(k+1,draws[k].day),⟨hlt,?_⟩,by simp only;omega,?_⟩
       . simp only;grind
       . (refine Zj ?_ ?_ ?_ rfl rfl<;>dsimp only [Zi,Zg,Zr,Yx,id,go_sem]<;>simp [Zi,Zg,Zr,Yx,Za])
   . refine Zo (by simp;omega) ?_;dsimp only [go_sem];have hk':k=draws.length:=by omega
     subst hk';simp only [List.drop_length,W9] at hi;obtain ⟨kw,hkw,rfl,hget⟩:=ZtC (Bool.and_eq_true_iff.1 ha).1;refine Zn kw hkw rfl ?_;dsimp only [Zg,go_sem];have hwf:WY l kw draws day=Ue l.wells[kw] kw day l.wells[kw].has (-1) 0 draws:=by
      simp only [WY,ho,ha,hm,<- hi,hget];simp
     rw [hwf];have hok:=Zgm ho l.wells[kw] (List.getElem_mem _);have hmem:=ZbM hi.symm (Int.le_refl _);have hday:0<=day/\day<=100000:=by simp only [inR,Bool.and_eq_true,decide_eq_true_eq] at ha;omega
     have hroom:0<=l.wells[kw].has.lo/\l.wells[kw].has.lo<=l.wells[kw].room/\0<=l.wells[kw].has.hi/\l.wells[kw].has.hi<=l.wells[kw].room/\l.wells[kw].room<=1000000000:=by
      simp only [YY,ZW,inR,Bool.and_eq_true,decide_eq_true_eq] at hok;omega
     have hroom2:∀ x:Int,x<=l.wells[kw].room->x<=1000000000:=λx h=>by omega
     refine Ym (λs:Nat × Span × Int=>[(91,I s.1),(17,I s.2.2)]) (λs=>[(3,.cells (Ze s.2.1) 27)])
      (λs=>s.1<=draws.length/\Ue l.wells[kw] kw day s.2.1 s.2.2 s.1 (draws.drop s.1)=Ue l.wells[kw] kw day l.wells[kw].has (-1) 0 draws /\
       0<=s.2.1.lo/\s.2.1.lo<=l.wells[kw].room/\0<=s.2.1.hi/\s.2.1.hi<=l.wells[kw].room/\-1<=s.2.2/\s.2.2<=100000) (λs=>draws.length - s.1) (0,l.wells[kw].has,-1)
      ⟨Nat.zero_le _,rfl,hroom.1,hroom.2.1,hroom.2.2.1,hroom.2.2.2.1,by simp,by simp⟩ ?_ ?_
     . (refine Zj ?_ ?_ ?_ rfl rfl<;>dsimp only [Zi,Zg,Zr,Yx,Ze,id,go_sem]<;>simp [Zi,Zg,Zr,Yx,Ze,Za])
     . rintro ⟨k,now,ev⟩ ⟨hk2,hi2,n1,n2,n3,n5,e1,e2⟩;simp only at hk2 hi2 n1 n2 n3 n5 e1 e2;dsimp only [Ze,go_sem];by_cases hlt2:k < draws.length
       . refine Zs (by simpa using hlt2) ?_;dsimp only [go_sem];refine Zn k hlt2 rfl ?_;dsimp only [Yx,go_sem];repeat (first | (refine gb ?_;dsimp only [go_sem]))
         have hx:=hmem draws[k] (List.getElem_mem _);have hdr:draws.drop k=draws[k] :: draws.drop (k+1):=List.drop_eq_getElem_cons hlt2;rw [hdr] at hi2;simp only [Ue] at hi2;by_cases hc:(draws[k].well != (kw:Int) || decide (draws[k].day ≥ day))=true
         . refine Zs hc ?_;dsimp only [go_sem];rw [if_pos hc] at hi2;rw [Zf (n:=(k:Int)+1) (by omega) (by omega)];refine ⟨(k+1,now,ev),⟨hlt2,hi2,n1,n2,n3,n5,e1,e2⟩,by simp only;omega,?_⟩;(refine Zj ?_ ?_ ?_ rfl rfl<;>dsimp only [Zi,Zg,Zr,Yx,Ze,id,go_sem]<;>simp [Zi,Zg,Zr,Yx,Ze,Za])
         . refine Zo (by simpa using hc) ?_;rw [if_neg hc] at hi2;dsimp only [go_sem];rw [Zf (n:=draws[k].day - ev) (by omega) (by omega)];refine call (Zfb l.wells[kw] now (draws[k].day - ev) hok n1 n2 n3 n5 (by omega) (by omega)) ?_;dsimp only [Ze,go_sem];have hbig:-2000000000000<=(Wo l.wells[kw] now (draws[k].day - ev)).lo:=ZkP hok n1 n2 n3 n5 (by omega) (by omega);have hf2:(Wo l.wells[kw] now (draws[k].day - ev)).hi<=l.wells[kw].room:=by simp only [Wo];omega
           have hf1:(Wo l.wells[kw] now (draws[k].day - ev)).lo<=l.wells[kw].room:=by simp only [Wo];omega
           generalize hF:Wo l.wells[kw] now (draws[k].day - ev)=F at *;by_cases hdry:F.hi < draws[k].water
           . refine Zs (by simpa using hdry) ?_;dsimp only [go_sem];rw [if_pos hdry] at hi2;rw [<- hi2];rfl
           . refine Zo (by simpa using hdry) ?_;dsimp only [go_sem];rw [if_neg hdry] at hi2;rw [Zf (n:=F.lo - draws[k].water) (by omega) (by omega),Zf (n:=F.hi - draws[k].water) (by omega) (by omega),Zf (n:=(k:Int)+1) (by omega) (by omega)];refine ⟨(k+1,⟨max 0 (F.lo - draws[k].water),F.hi - draws[k].water⟩,draws[k].day),⟨hlt2,hi2,by simp only;omega,by simp only;omega,by simp only;omega,by simp only;omega,by simp only;omega,by simp only;omega⟩,by simp only;omega,?_⟩
             (refine Zj ?_ ?_ ?_ rfl rfl<;>dsimp only [Zi,Zg,Zr,Yx,Ze,id,go_sem]<;>simp [Zi,Zg,Zr,Yx,Ze,Za])
       . refine Zo (by simp;omega) ?_;dsimp only [go_sem];rw [Zf (n:=day - 1) (by omega) (by omega),Zf (n:=day - 1 - ev) (by omega) (by omega)];refine call (Zfb l.wells[kw] now (day - 1 - ev) hok n1 n2 n3 n5 (by omega) (by omega)) ?_;dsimp only [Ze,go_sem];have hk':k=draws.length:=by omega
         subst hk';simp only [List.drop_length,Ue] at hi2;rw [<- hi2];rfl
end Go.Proofs.YtongccnhomncnaaGreatDoor
namespace Go.Azalai
structure Breed where
 full:Int
 fed:Int
 rest:Span
 heat:Span
 toil:Span
 burn:Span
 rub:Span
 milk:Span
 heal:Int
 strong:Span
deriving DecidableEq
structure Camel where
 water:Span
 fat:Span
 sore:Span
 milks:Bool
deriving DecidableEq
structure March where
 hours:Int
 load:Int
 heat:Span
 grass:Span
 drinks:Span
deriving DecidableEq
def ZK (b:Breed):Bool :=
 inR 1 1000000 b.full && inR 1 1000000 b.fed && inR 0 1000 b.heal && ZW 0 1000000 b.strong && ZW 0 100000 b.rest && ZW 0 100000 b.heat && ZW 0 100000 b.toil && ZW 0 100000 b.burn && ZW 0 100000 b.rub && ZW 0 100000 b.milk
def ZE (b:Breed) (c:Camel):Bool:=ZW 0 b.full c.water && ZW 0 b.fed c.fat && ZW 0 1000 c.sore
def Ya (m:March):Bool:=inR 0 24 m.hours && inR 0 1000000 m.load && ZW 0 60 m.heat && ZW 0 1000000 m.grass && ZW 0 1000000 m.drinks
def ZAO (b:Breed):Int:=if ZK b=true then 0 else 10
def Uz (b:Breed) (c:Camel):Int:=if ZK b=false then 10 else if ZE b c=false then 11 else 0
def upF (a b:Int):Int:=(a+b - 1).tdiv b
def Z0:Span:=⟨0,0⟩
def Zed (b:Breed) (c:Camel):Span :=
 ⟨min 1000 (min ((2000 * c.water.lo).tdiv b.full) (min ((2000 * c.fat.lo).tdiv b.fed) (1000 - c.sore.hi))),min 1000 (min (upF (2000 * c.water.hi) b.full) (min (upF (2000 * c.fat.hi) b.fed) (1000 - c.sore.lo)))⟩
def Zeh (b:Breed) (c:Camel):Span:=⟨(b.strong.lo * (Zed b c).lo).tdiv 1000,upF (b.strong.hi * (Zed b c).hi) 1000⟩
def YG (m:March):Int:=m.hours * (100000+m.load)
def VB (b:Breed) (milks:Bool) (m:March):Span :=
 ⟨b.rest.lo+b.heat.lo * max 0 (m.heat.lo - 20)+(b.toil.lo * YG m).tdiv 100000+(if milks then b.milk.lo else 0),b.rest.hi+b.heat.hi * max 0 (m.heat.hi - 20)+upF (b.toil.hi * YG m) 100000+(if milks then b.milk.hi else 0)⟩
def V5 (b:Breed) (m:March):Span:=⟨(b.burn.lo * YG m).tdiv 100000,upF (b.burn.hi * YG m) 100000⟩
theorem W4 {a A d:Int} (h0:0<=a) (h1:a<=A) (hd:1<=d):0<=a.tdiv d/\a.tdiv d<=A :=
 ⟨Int.tdiv_nonneg h0 (by omega),Int.le_trans (Int.tdiv_le_self d h0) h1⟩
theorem Zl3 {a A d:Int} (h0:0<=a) (h1:a<=A) (hd:1<=d):0<=upF a d/\upF a d<=A+d:=by
 have:=W4 (a:=a+d - 1) (A:=A+d) (d:=d) (by omega) (by omega) hd;exact this
end Go.Azalai
namespace Go.Proofs.YtongccnhomncnaaGreatDoor.Cm
open Go Go.Sx Go.Azalai
def breedL (b:Breed):Ls:=[I b.full,I b.fed,I b.rest.lo,I b.rest.hi,I b.heat.lo,I b.heat.hi,I b.toil.lo,I b.toil.hi,I b.burn.lo,I b.burn.hi,I b.rub.lo,I b.rub.hi,I b.milk.lo,I b.milk.hi,I b.heal,I b.strong.lo,I b.strong.hi]
def camelL (c:Camel):Ls:=[I c.water.lo,I c.water.hi,I c.fat.lo,I c.fat.hi,I c.sore.lo,I c.sore.hi,B c.milks]
def ZG (b:Breed) (c:Camel):Ls:=[I b.full,I b.fed,I b.rest.lo,I b.rest.hi,I b.heat.lo,I b.heat.hi,I b.toil.lo,I b.toil.hi,I b.burn.lo,I b.burn.hi,I b.rub.lo,I b.rub.hi,I b.milk.lo,I b.milk.hi,I b.heal,I b.strong.lo,I b.strong.hi,I c.water.lo,I c.water.hi,I c.fat.lo,I c.fat.hi,I c.sore.lo,I c.sore.hi,B c.milks]
def marchL (m:March):Ls:=[I m.hours,I m.load,I m.heat.lo,I m.heat.hi,I m.grass.lo,I m.grass.hi,I m.drinks.lo,I m.drinks.hi]
theorem XG {α : Type} (g:α->Bool) (l:List α):decide (Xd g l 0 ≥ 0)=l.any g:=ZfK g l 0
theorem ZeO (h:Nat) (caps:Ls) (hk:KFL caps) (g:Int->Bool) (l:List Int) (hg:∀ x ∈ l,Cp h (I x :: caps) (B (g x))) (hl:l.length < 4611686018427387904) {c:Bool} :
 Cp 180 [.sl c 1 (l.map Zk),.cl h caps] (I (Xd g l 0)):=by
 refine t180.1 ⟨by simp [KF,Za,KFL,Zk],hk,trivial⟩ (by simp [KF]) ?_;dsimp only [c180,r180,go_sem];refine Ym (λk:Nat=>[(8,I k)]) (λ_=>[]) (λk=>k<=l.length/\Xd g (l.drop k) k=Xd g l 0) (λk=>l.length - k) 0 ⟨Nat.zero_le _,rfl⟩ ?_ ?_
 . (refine Zj ?_ ?_ ?_ rfl rfl<;>dsimp only [Zk,hk,id,go_sem]<;>simp [Zk,hk,Za])
 . intro k ⟨hk',hi⟩;dsimp only [go_sem];refine br ?_ ?_
   . intro hlt;have hlt:k < l.length:=by simpa using hlt
     dsimp only [go_sem];refine Zn k hlt rfl ?_;dsimp only [Zk,go_sem];refine call (hg l[k] (List.getElem_mem _)) ?_;dsimp only [go_sem];refine br ?_ ?_
     . intro hgx;dsimp only [go_sem];rw [<- hi,List.drop_eq_getElem_cons hlt];simp [Xd,hgx]
     . intro hgx;dsimp only [go_sem];refine ⟨k+1,⟨by omega,?_⟩,by omega,?_⟩
       . rw [<- hi,List.drop_eq_getElem_cons hlt];simp [Xd,hgx]
       . rw [Zf (by omega) (by omega)];(refine Zj ?_ ?_ ?_ rfl rfl<;>dsimp only [Zk,hk,id,go_sem]<;>simp [Zk,hk,Za])
   . intro hlt;have hlt:k=l.length:=by simp at hlt;omega
     dsimp only [go_sem];rw [<- hi,hlt];simp [Xd]
theorem con91 (h:Nat) (caps:Ls) (hk:KFL caps) (g:Int->Bool) (l:List Int) (hg:∀ x ∈ l,Cp h (I x :: caps) (B (g x))) (hl:l.length < 4611686018427387904) {c:Bool} :
 Cp 107 [.sl c 1 (l.map Zk),.cl h caps] (B (l.any g)):=by
 refine t107.1 ⟨by simp [KF,Za,KFL,Zk],hk,trivial⟩ (by simp [KF]) ?_;dsimp only [c107,r107,go_sem];refine call (ZeO h caps hk g l hg hl) ?_;dsimp only [go_sem];rw [XG]
theorem ZDz (h:Nat) (caps:Ls) (hk:KFL caps) (g:Span->Bool) (l:List Span) (hg:∀ x ∈ l,Cp h (.agg (Ze x) :: caps) (B (g x))) (hl:l.length < 4611686018427387904) {c:Bool} :
 Cp 244 [.sl c 2 (l.map Ze),.cl h caps] (I (Xd g l 0)):=by
 refine t244.1 ⟨by simp [KF,Za,KFL,Ze],hk,trivial⟩ (by simp [KF]) ?_;dsimp only [c244,r244,go_sem];refine Ym (λk:Nat=>[(8,I k)]) (λ_=>[]) (λk=>k<=l.length/\Xd g (l.drop k) k=Xd g l 0) (λk=>l.length - k) 0 ⟨Nat.zero_le _,rfl⟩ ?_ ?_
 . (refine Zj ?_ ?_ ?_ rfl rfl<;>dsimp only [Ze,hk,id,go_sem]<;>simp [Ze,hk,Za])
 . intro k ⟨hk',hi⟩;dsimp only [go_sem];refine br ?_ ?_
   . intro hlt;have hlt:k < l.length:=by simpa using hlt
     dsimp only [go_sem];refine Zn k hlt rfl ?_;dsimp only [Ze,go_sem];refine call (hg l[k] (List.getElem_mem _)) ?_;dsimp only [go_sem];refine br ?_ ?_
     . intro hgx;dsimp only [go_sem];rw [<- hi,List.drop_eq_getElem_cons hlt];simp [Xd,hgx]
     . intro hgx;dsimp only [go_sem];refine ⟨k+1,⟨by omega,?_⟩,by omega,?_⟩
       . rw [<- hi,List.drop_eq_getElem_cons hlt];simp [Xd,hgx]
       . rw [Zf (by omega) (by omega)];(refine Zj ?_ ?_ ?_ rfl rfl<;>dsimp only [Ze,hk,id,go_sem]<;>simp [Ze,hk,Za])
   . intro hlt;have hlt:k=l.length:=by simp at hlt;omega
     dsimp only [go_sem];rw [<- hi,hlt];simp [Xd]
theorem con93 (h:Nat) (caps:Ls) (hk:KFL caps) (g:Span->Bool) (l:List Span) (hg:∀ x ∈ l,Cp h (.agg (Ze x) :: caps) (B (g x))) (hl:l.length < 4611686018427387904) {c:Bool} :
 Cp 168 [.sl c 2 (l.map Ze),.cl h caps] (B (l.any g)):=by
 refine t168.1 ⟨by simp [KF,Za,KFL,Ze],hk,trivial⟩ (by simp [KF]) ?_;dsimp only [c168,r168,go_sem];refine call (ZDz h caps hk g l hg hl) ?_;dsimp only [go_sem];rw [XG]
theorem X4 (n lo hi:Int):Cp 264 [I n,I lo,I hi] (B (inR lo hi n)):=by
 refine t264.1 (by simp) (by simp) ?_;dsimp only [c264,r264,go_sem];refine gb ?_;dsimp only [go_sem];refine gb ?_;dsimp only [go_sem];refine gb ?_;dsimp only [go_sem];simp [inR]
theorem ZZ (s:Span) (lo hi:Int):Cp 265 [.agg (Ze s),I lo,I hi] (B (ZW lo hi s)):=by
 refine t265.1 (by simp [Ze]) (by simp) ?_;dsimp only [c265,r265,Ze,go_sem];refine call (X4 _ _ _) ?_;dsimp only [go_sem];repeat (refine gb ?_;dsimp only [go_sem])
 (simp only [ZW,inR,Option.some.injEq,SV.v.injEq,Value.bool.injEq]<;>grind)
theorem ZdL (lo hi x:Int):Cp 269 [I x,.ps [I lo] 0,.ps [I hi] 0] (B (!inR lo hi x)):=by
 refine t269.1 (by simp) (by simp) ?_;dsimp only [c269,r269,go_sem];repeat (refine gb ?_;dsimp only [go_sem])
 (simp only [inR,Option.some.injEq,SV.v.injEq,Value.bool.injEq]<;>grind)
theorem U3 (lo hi:Int) (l:List Int) (hl:l.length < 4611686018427387904) (c:Bool):Cp 211 [I lo,I hi,.sl c 1 (l.map Zk)] (B (l.all (inR lo hi))):=by
 refine t211.1 (by simp [Za,Zk]) (by simp) ?_;dsimp only [c211,r211,go_sem];refine WM (by simp [FLT]) (res:=B (l.any λx=>!inR lo hi x)) ?_ ?_
 . dsimp only [go_sem];exact con91 269 [.ps [I lo] 0,.ps [I hi] 0] (by simp) (λx=>!inR lo hi x) l (λx _=>ZdL lo hi x) hl
 . dsimp only [go_sem];simp [List.all_eq_not_any_not]
theorem Zas (lo hi a:Int) (c:Bool):Cp 211 [I lo,I hi,.sl c 1 [[I a]]] (B (inR lo hi a)):=by
 have:=U3 lo hi [a] (by simp) c;simpa [Zk] using this
theorem Zev (lo hi a b:Int) (c:Bool):Cp 211 [I lo,I hi,.sl c 1 [[I a],[I b]]] (B (inR lo hi a && inR lo hi b)):=by
 have:=U3 lo hi [a,b] (by simp) c;simpa [Zk] using this
theorem Uj (lo hi:Int) (s:Span):Cp 212 [.agg (Ze s),.ps [I lo] 0,.ps [I hi] 0] (B (!ZW lo hi s)):=by
 refine t212.1 (by simp [Ze]) (by simp) ?_;dsimp only [c212,r212,Ze,go_sem];repeat (first | (refine gb ?_;dsimp only [go_sem]) | (refine call (Zev _ _ _ _ _) ?_;dsimp only [go_sem]))
 (simp only [ZW,inR,Option.some.injEq,SV.v.injEq,Value.bool.injEq]<;>grind)
theorem XB (lo hi:Int) (l:List Span) (hl:l.length < 4611686018427387904) (c:Bool):Cp 135 [I lo,I hi,.sl c 2 (l.map Ze)] (B (l.all (ZW lo hi))):=by
 refine t135.1 (by simp [Za,Ze]) (by simp) ?_;dsimp only [c135,r135,go_sem];refine WM (by simp [FLT]) (res:=B (l.any λx=>!ZW lo hi x)) ?_ ?_
 . dsimp only [go_sem];exact con93 212 [.ps [I lo] 0,.ps [I hi] 0] (by simp) (λx=>!ZW lo hi x) l (λx _=>Uj lo hi x) hl
 . dsimp only [go_sem];simp [List.all_eq_not_any_not]
theorem Xn (lo hi:Int) (s:Span) (c:Bool):Cp 135 [I lo,I hi,.sl c 2 [[I s.lo,I s.hi]]] (B (ZW lo hi s)):=by
 have:=XB lo hi [s] (by simp) c;simpa [Ze] using this
theorem Zdu (lo hi:Int) (s t:Span) (c:Bool):Cp 135 [I lo,I hi,.sl c 2 [[I s.lo,I s.hi],[I t.lo,I t.hi]]] (B (ZW lo hi s && ZW lo hi t)):=by
 have:=XB lo hi [s,t] (by simp) c;simpa [Ze] using this
theorem Zqb (lo hi:Int) (a b c d e f:Span) (k:Bool):Cp 135 [I lo,I hi,.sl k 2 [[I a.lo,I a.hi],[I b.lo,I b.hi],[I c.lo,I c.hi],[I d.lo,I d.hi],[I e.lo,I e.hi],[I f.lo,I f.hi]]]
 (B (ZW lo hi a && (ZW lo hi b && (ZW lo hi c && (ZW lo hi d && (ZW lo hi e && ZW lo hi f)))))):=by
 have:=XB lo hi [a,b,c,d,e,f] (by simp) k;simpa [Ze] using this
theorem ZdV (b:Breed):Cp 134 [.agg (breedL b)] (I (ZAO b)):=by
 refine t134.1 (by simp [breedL]) (by simp) ?_;dsimp only [c134,r134,breedL,go_sem];repeat (first | (refine gb ?_;dsimp only [go_sem]) | (refine call (Zas _ _ _ _) ?_;dsimp only [go_sem]) | (refine call (Zev _ _ _ _ _) ?_;dsimp only [go_sem]) | (refine call (Zqb _ _ b.rest b.heat b.toil b.burn b.rub b.milk _) ?_;dsimp only [go_sem]) | (refine call (Xn _ _ b.strong _) ?_;dsimp only [go_sem]))
 refine br ?_ ?_
 . intro h;dsimp only [go_sem];have:ZK b=false:=by simp only [ZK];grind
   simp [ZAO,this]
 . intro h;dsimp only [go_sem];have:ZK b=true:=by simp only [ZK];grind
   simp [ZAO,this]
theorem Znj (b:Breed):Cp 199 [.agg (breedL b)] (B (ZK b)):=by
 refine t199.1 (by simp [breedL]) (by simp) ?_;dsimp only [c199,r199,breedL,go_sem];repeat (first | (refine gb ?_;dsimp only [go_sem]) | (refine call (X4 _ _ _) ?_;dsimp only [go_sem]) | (refine call (ZZ b.strong _ _) ?_;dsimp only [go_sem]))
 refine br ?_ ?_
 . intro h;dsimp only [go_sem];have:ZK b=false:=by simp only [ZK];grind
   simp [this]
 . intro h;dsimp only [go_sem];repeat (first | (refine gb ?_;dsimp only [go_sem]) | (refine call (ZZ b.rest _ _) ?_;dsimp only [go_sem]) | (refine call (ZZ b.heat _ _) ?_;dsimp only [go_sem]) | (refine call (ZZ b.toil _ _) ?_;dsimp only [go_sem]) | (refine call (ZZ b.burn _ _) ?_;dsimp only [go_sem]) | (refine call (ZZ b.rub _ _) ?_;dsimp only [go_sem]) | (refine call (ZZ b.milk _ _) ?_;dsimp only [go_sem]))
   (simp only [ZK,Option.some.injEq,SV.v.injEq,Value.bool.injEq]<;>grind)
theorem checkCamel_ok (b:Breed) (c:Camel):Cp 79 [.agg (breedL b),.agg (camelL c)] (I (Uz b c)):=by
 refine t79.1 (by simp [breedL,camelL]) (by simp) ?_;dsimp only [c79,r79,breedL,camelL,go_sem];refine call (ZdV b) ?_;dsimp only [go_sem];by_cases hb:ZK b=true
 case neg =>
  refine Zs (by simp [ZAO,hb]) ?_;dsimp only [go_sem];simp [ZAO,Uz,hb]
 refine Zo (by simp [ZAO,hb]) ?_;dsimp only [go_sem];repeat (first | (refine gb ?_;dsimp only [go_sem]) | (refine call (Xn _ _ c.water _) ?_;dsimp only [go_sem]) | (refine call (Xn _ _ c.fat _) ?_;dsimp only [go_sem]) | (refine call (Xn _ _ c.sore _) ?_;dsimp only [go_sem]))
 refine br ?_ ?_
 . intro h;dsimp only [go_sem];have:ZE b c=false:=by simp only [ZE];grind
   simp [Uz,this,hb]
 . intro h;dsimp only [go_sem];have:ZE b c=true:=by simp only [ZE];grind
   simp [Uz,this,hb]
theorem Zkp (b:Breed) (c:Camel):Cp 200 [.agg (breedL b),.agg (camelL c)] (B (ZE b c)):=by
 refine t200.1 (by simp [breedL,camelL]) (by simp) ?_;dsimp only [c200,r200,breedL,camelL,go_sem];repeat (first | (refine gb ?_;dsimp only [go_sem]) | (refine call (ZZ c.water _ _) ?_;dsimp only [go_sem]) | (refine call (ZZ c.fat _ _) ?_;dsimp only [go_sem]) | (refine call (ZZ c.sore _ _) ?_;dsimp only [go_sem]))
 (simp only [ZE,Option.some.injEq,SV.v.injEq,Value.bool.injEq]<;>grind)
theorem checkCamelR_ok (b:Breed) (c:Camel):Cp 124 [.agg (breedL b),.agg (camelL c)] (I (Uz b c)):=by
 refine t124.1 (by simp [breedL,camelL]) (by simp) ?_;dsimp only [c124,r124,breedL,camelL,go_sem];refine call (Znj b) ?_;dsimp only [go_sem];by_cases hb:ZK b=true
 case neg =>
  refine Zs (by simp [hb]) ?_;dsimp only [go_sem];simp [Uz,hb]
 refine Zo (by simp [hb]) ?_;dsimp only [go_sem];refine call (Zkp b c) ?_;dsimp only [go_sem];refine br ?_ ?_
 . intro h;dsimp only [go_sem];have:ZE b c=false:=by simpa using h
   simp [Uz,this,hb]
 . intro h;dsimp only [go_sem];have:ZE b c=true:=by simpa using h
   simp [Uz,this,hb]
theorem ZaO (l:List March) (hl:l.length < 4611686018427387904) (c:Bool):Cp 259 [.sl c 8 (l.map marchL)] (I (if l.all Ya=true then 0 else 12)):=by
 refine t259.1 (by simp [marchL,Za]) (by simp) ?_;dsimp only [c259,r259,go_sem];refine Ym (λk:Nat=>[(7,I k)]) (λ_=>[]) (λk=>k<=l.length/\(l.drop k).all Ya=l.all Ya) (λk=>l.length - k) 0 ⟨Nat.zero_le _,rfl⟩ ?_ ?_
 . (refine Zj ?_ ?_ ?_ rfl rfl<;>dsimp only [marchL,id,go_sem]<;>simp [marchL,Za])
 intro k ⟨hk,hi⟩;dsimp only [go_sem];by_cases hlt:k < l.length
 . refine Zs (by simpa using hlt) ?_;dsimp only [go_sem];refine Zn k hlt rfl ?_;dsimp only [marchL,go_sem];repeat (first | (refine gb ?_;dsimp only [go_sem]) | (refine call (Zas _ _ _ _) ?_;dsimp only [go_sem]) | (refine call (Xn _ _ l[k].heat _) ?_;dsimp only [go_sem]) | (refine call (Zdu _ _ l[k].grass l[k].drinks _) ?_;dsimp only [go_sem]))
   rw [List.drop_eq_getElem_cons hlt,List.all_cons] at hi;refine br ?_ ?_
   . intro h;dsimp only [go_sem];have:Ya l[k]=false:=by simp only [Ya];grind
     rw [<- hi,this];rfl
   . intro h;dsimp only [go_sem];have:Ya l[k]=true:=by simp only [Ya];grind
     rw [this,Bool.true_and] at hi;rw [Zf (n:=(k:Int)+1) (by omega) (by omega)];refine ⟨k+1,⟨hlt,hi⟩,by omega,?_⟩;(refine Zj ?_ ?_ ?_ rfl rfl<;>dsimp only [marchL,id,go_sem]<;>simp [marchL,Za])
 . refine Zo (by simp;omega) ?_;dsimp only [go_sem];have hke:k=l.length:=by omega
   subst hke;rw [List.drop_length] at hi;rw [<- hi];rfl
theorem ZlA (m:March) (c:Bool):Cp 259 [.sl c 8 [marchL m]] (I (if Ya m=true then 0 else 12)):=by
 have:=ZaO [m] (by simp) c;simpa using this
theorem ZvV {a b A:Int} (h0:0<=a) (h1:a<=A) (hA:A<=1000000000000000) (hb:1<=b) (hb2:b<=1000000000) :
 IntKind.i64.wrap (a+b)=a+b/\IntKind.i64.wrap (a+b - 1)=a+b - 1/\IntKind.i64.wrap ((a+b - 1).tdiv b)=upF a b:=by
 have:=Zl3 h0 h1 hb;refine ⟨Zf (by omega) (by omega),Zf (by omega) (by omega),?_⟩;unfold upF at *;exact Zf (by omega) (by omega)
theorem Zgd (a b:Int) (h0:0<=a) (h1:a<=1000000000000000) (hb:1<=b) (hb2:b<=1000000000):Cp 137 [I a,I b] (I (upF a b)):=by
 obtain ⟨q1,q2,q3⟩:=ZvV h0 h1 (Int.le_refl _) hb hb2;refine t137.1 (by simp) (by simp) ?_;dsimp only [c137,r137,go_sem];simp only [q1,q2];refine Zjh (by omega) ?_;dsimp only [go_sem];rw [q3]
def scl (s:Span) (b n:Int):Span:=⟨(s.lo * n).tdiv b,upF (s.hi * n) b⟩
theorem ZfN (s:Span) (b n A:Int) (c:Bool) (h1:0<=s.lo) (h2:s.lo<=s.hi) (h3:0<=n) (h4:s.hi * n<=100000000000000) (hb:1<=b) (hb2:b<=1000000000) :
 Cp 213 [.agg (Ze s),I b,.sl c 1 [[I n]]] (.agg (Ze (scl s b n))):=by
 have k1:0<=s.lo * n:=Int.mul_nonneg h1 h3;have k2:s.lo * n<=s.hi * n:=Int.mul_le_mul_of_nonneg_right h2 h3;refine t213.1 (by simp [Ze,KFR]) (by simp [Ze]) ?_;dsimp only [c213,r213,Ze,go_sem];refine ZX 2 ?_;dsimp only [Zb,go_sem];refine Zs (by decide) ?_;dsimp only [Zb,go_sem];refine ixs 0 [I n] rfl rfl ?_;dsimp only [Zb,go_sem];refine Zo (by decide) ?_;dsimp only [go_sem];rw [Zf (n:=s.lo * n) (by omega) (by omega),Zf (n:=s.hi * n) (by omega) (by omega)]
 refine Zjh (by omega) ?_;dsimp only [go_sem];refine call (Zgd _ _ (by omega) (by omega) hb hb2) ?_;dsimp only [go_sem];have:=W4 k1 (Int.le_trans k2 h4) hb;rw [Zf (n:=(s.lo * n).tdiv b) (by omega) (by omega)];rfl
theorem Zag (s:Span) (b n m A:Int) (c:Bool) (h1:0<=s.lo) (h2:s.lo<=s.hi) (h3:0<=n) (h3':0<=m) (h4:s.hi * n<=100000000000000) (h5:s.hi * n * m<=100000000000000) (hb:1<=b) (hb2:b<=1000000000) :
 Cp 213 [.agg (Ze s),I b,.sl c 1 [[I n],[I m]]] (.agg (Ze ⟨(s.lo * n * m).tdiv b,upF (s.hi * n * m) b⟩)):=by
 have k1:0<=s.lo * n:=Int.mul_nonneg h1 h3;have k2:s.lo * n<=s.hi * n:=Int.mul_le_mul_of_nonneg_right h2 h3;have k3:0<=s.lo * n * m:=Int.mul_nonneg k1 h3';have k4:s.lo * n * m<=s.hi * n * m:=Int.mul_le_mul_of_nonneg_right k2 h3';refine t213.1 (by simp [Ze,KFR]) (by simp [Ze]) ?_;dsimp only [c213,r213,Ze,go_sem];refine ZX 3 ?_;dsimp only [Zb,go_sem];refine Zs (by decide) ?_;dsimp only [Zb,go_sem];refine ixs 0 [I n] rfl rfl ?_
 dsimp only [Zb,go_sem];refine Zs (by decide) ?_;dsimp only [Zb,go_sem];refine ixs 1 [I m] rfl rfl ?_;dsimp only [Zb,go_sem];refine Zo (by decide) ?_;dsimp only [go_sem];rw [Zf (n:=s.lo * n) (by omega) (by omega),Zf (n:=s.hi * n) (by omega) (by omega),Zf (n:=s.lo * n * m) (by omega) (by omega),Zf (n:=s.hi * n * m) (by omega) (by omega)];refine Zjh (by omega) ?_;dsimp only [go_sem];refine call (Zgd _ _ (by omega) (by omega) hb hb2) ?_
 dsimp only [go_sem];have:=W4 k3 (Int.le_trans k4 h5) hb;rw [Zf (n:=(s.lo * n * m).tdiv b) (by omega) (by omega)]
def bdS (A:Int) (s:Span):Prop:=0<=s.lo/\s.lo<=A/\0<=s.hi/\s.hi<=A
theorem Us (s t:Span) (c:Bool) (h1:bdS 1000000000000000 s) (h2:bdS 1000000000000000 t):Cp 286 [.sl c 2 [[I s.lo,I s.hi],[I t.lo,I t.hi]]] (.agg (Ze ⟨s.lo+t.lo,s.hi+t.hi⟩)):=by
 unfold bdS at h1 h2;refine t286.1 (by simp [KFR]) (by simp [Ze]) ?_;dsimp only [c286,r286,Ze,go_sem];refine ZX 3 ?_;dsimp only [Zb,go_sem];refine Zs (by decide) ?_;dsimp only [Zb,go_sem];refine ixs 0 [I s.lo,I s.hi] rfl rfl ?_;dsimp only [Zb,go_sem];refine Zs (by decide) ?_;dsimp only [Zb,go_sem];refine ixs 1 [I t.lo,I t.hi] rfl rfl ?_;dsimp only [Zb,go_sem];refine Zo (by decide) ?_;dsimp only [go_sem]
 simp only [Int.zero_add];rw [Zf (n:=s.lo) (by omega) (by omega),Zf (n:=s.hi) (by omega) (by omega),Zf (n:=s.lo+t.lo) (by omega) (by omega),Zf (n:=s.hi+t.hi) (by omega) (by omega)]
theorem plus3 (s t u:Span) (c:Bool) (h1:bdS 1000000000000000 s) (h2:bdS 1000000000000000 t) (h3:bdS 1000000000000000 u):Cp 286 [.sl c 2 [[I s.lo,I s.hi],[I t.lo,I t.hi],[I u.lo,I u.hi]]] (.agg (Ze ⟨s.lo+t.lo+u.lo,s.hi+t.hi+u.hi⟩)):=by
 unfold bdS at h1 h2 h3;refine t286.1 (by simp [KFR]) (by simp [Ze]) ?_;dsimp only [c286,r286,Ze,go_sem];refine ZX 4 ?_;dsimp only [Zb,go_sem];refine Zs (by decide) ?_;dsimp only [Zb,go_sem];refine ixs 0 [I s.lo,I s.hi] rfl rfl ?_;dsimp only [Zb,go_sem];refine Zs (by decide) ?_;dsimp only [Zb,go_sem];refine ixs 1 [I t.lo,I t.hi] rfl rfl ?_;dsimp only [Zb,go_sem];refine Zs (by decide) ?_;dsimp only [Zb,go_sem]
 refine ixs 2 [I u.lo,I u.hi] rfl rfl ?_;dsimp only [Zb,go_sem];refine Zo (by decide) ?_;dsimp only [go_sem];simp only [Int.zero_add];rw [Zf (n:=s.lo) (by omega) (by omega),Zf (n:=s.hi) (by omega) (by omega),Zf (n:=s.lo+t.lo) (by omega) (by omega),Zf (n:=s.hi+t.hi) (by omega) (by omega),Zf (n:=s.lo+t.lo+u.lo) (by omega) (by omega),Zf (n:=s.hi+t.hi+u.hi) (by omega) (by omega)]
theorem ZzJ (n:Int) (s:Span) (h1:0<=n) (h2:n<=1000000) (h3:bdS 1000000 s):Cp 214 [I n,.agg (Ze s)] (.agg (Ze ⟨n - s.hi,n - s.lo⟩)):=by
 unfold bdS at h3;refine t214.1 (by simp [Ze]) (by simp [Ze]) ?_;dsimp only [c214,r214,Ze,go_sem];rw [Zf (n:=n - s.hi) (by omega) (by omega),Zf (n:=n - s.lo) (by omega) (by omega)]
end Go.Proofs.YtongccnhomncnaaGreatDoor.Cm
