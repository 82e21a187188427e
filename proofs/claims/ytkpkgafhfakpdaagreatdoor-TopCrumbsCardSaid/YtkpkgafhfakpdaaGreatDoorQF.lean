/- Walks and plain laws that lead to the given statement, part 6 of 10. -/
import Derived.Test.YtkpkgafhfakpdaaGreatDoorQE
import Derived.Test.YtkpkgafhfakpdaaGreatDoorProg
import Derived.WideLaws
import Derived.Lib.AppendZerosOnto
set_option maxRecDepth 100000
set_option maxHeartbeats 4000000
set_option linter.all false
open Nat renaming beq_refl->nbr
namespace Go.Proofs.YtkpkgafhfakpdaaGreatDoor
open Go Go.Sx
def c12:SC:=(sr1 [o1 5 (Jz 0 0 25),o1 6 (Jz 1 0 27),o1 7 (Jz 2 0 28),o1 8 (Jz 3 0 31),o1 9 (Jz 4 0 3),o1 10 (.alloc [.int .u8 0] 5),Jk 11 0] (sr1 [o1 12 (.mkf 59 [.t 7,.t 8,.t 5,.t 6,.t 9,.t 10]),o1 13 (.callm 45 [.t 12]),m1 11 13] (sr1 [o1 14 (lf 10 1),m1 15 11,Js 10 14 1,m1 11 15] .ret)))
def r12:List RV:=[.cell 10 1 false,.tmp 11]
theorem t12:Qt1 Tryz.prog 12 c12 r12 16:=ZL Tryz.func12
def c16:SC:=(sr1 [o1 1 (Jz 0 0 49),o1 2 (.alloc zv0 23),o1 3 (.alloc zv0 23),o1 4 (.mv (.c (.int .u8 0))),Jk 5 0] (.seq (sr1 [o1 6 (lt 1 11),o1 7 (J1 67 6),o1 8 (Jh 7)] (Ji 8 (.seq (.regd (Jr 6) [Jo 9 (.ld (.g 0) 2 true),.hide (.t 2),Jo 10 (.ld (.g 0)
 2 true)] 0 4 [Ju 2 9 2 [0],Ju 3 10 2 [0,1,2],⟨some 4,.mv (.c (.int .u8 0)),none,(Jr 4)⟩,⟨some 5,.mv (cn 50),none,(Jr 5)⟩]) .ret) .skip)) (.seq (.regd (Jr 14) [Jo 12 (.call 68 []),Jo 13 (ao 1 0),Jp 14 (lf 13 1) [1],Jp 15 (.rv (Go.Op.lookup 146
 (Go.Operand.tmp 12) (Go.Operand.tmp 14) Bool.false) [.t 12,.t 14]) [0,2],Jp 16 (.fld (.t 15) 1 1 false) [3],Jo 17 (lt 1 11),Jp 18 (.calv (.t 16) [.t 17]) [0,4,5],Jp 11 (.mv (.t 18)) [6],Jp 19 (Je 11 0) [7],.hide (.t 2),Jp 20 (Je 11 1) [7],.hide (.t
 3),Jp 21 (Je 11 2) [7]] 0 3 [Ju 2 19 2 (Jr 9),Ju 3 20 2 [0,1,2,3,4,5,6,7,8,9,11],⟨some 4,.mv (.t 21),none,(Jr 13)⟩]) (.seq (.regd (Jr 7) [Jo 22 (lt 2 2),.hide (.t 2),Jo 23 (lt 3 2),.hide (.t 3),Jm 24 4] 0 2 [Ju 2 22 2 [0],Ju 3 23 2 [0,1,3],⟨some
 4,.mv (.t 24),none,(Jr 5)⟩,⟨some 5,.mv (cn 0),none,(Jr 6)⟩]) .ret))))
def r16:List RV:=[.cell 2 2 true,.cell 3 2 true,.tmp 4,.tmp 5]
theorem b16:ZV Tryz.prog 16=true:=by kernel_rfl
theorem t16:Qt1 Tryz.prog 16 c16 r16 25:=ZL Tryz.func16 rfl b16 (by kernel_rfl) (by kernel_rfl) (by kernel_rfl)
def c40:SC:=(sr1 [o1 4 (Jz 0 0 28),o1 5 (Jz 1 0 113),o1 6 (Jz 2 0 191),o1 7 (Jz 3 0 3),o1 8 (.alloc [.slice none 0 0] 28),Jk 9 0] (sr1 [o1 10 (.mkf 94 [.t 4,.t 5,.t 7,.t 6,.t 8]),o1 11 (.callm 45 [.t 10]),m1 9 11] (sr1 [o1 12 (lf 8 1),m1 13 9,Js 8 12 1,m1 9 13] .ret)))
def r40:List RV:=[.cell 8 1 false,.tmp 9]
theorem t40:Qt1 Tryz.prog 40 c40 r40 14:=ZL Tryz.func40
def c47:SC:=(sr1 [m1 12 0,o1 13 (Jl 12),o1 14 (Jc .leq 13 30),m1 15 14,g1 16 15 true (.mv (.t 0)),g1 17 15 true (.call 100 [.t 16,.f 67]),o1 18 (.pick (.t 15) (.t 17) Jf),o1 19 (.callm 61 [.t 18,cn 50])] (sr1 [o1 20 (.raw (Go.Op.makeMap 213
 Option.none) 213),m1 4 20] (sr1 [Jk 5 0] (.seq (sr1 [m1 21 1,o1 22 (Jl 21),Jk 23 0] (.block 0 (.loop (sr1 [o1 24 (Jb .lss 23 22)] (.seq (Ji 24 .skip (.exit 0)) (.seq (.block 1 (sr1 [o1 25 (Jx 21 23 3),o1 26 (lt 25 3),o1 7 (.alloc zv8 31),Js 7 26 3]
 (.seq (sr1 [o1 27 (lt 7 3),o1 28 (J1 99 27),Jk 29 0] (.block 2 (.loop (sr1 [o1 30 (Jc .lss 29 3)] (.seq (Ji 30 .skip (.exit 2)) (.seq (.block 3 (sr1 [o1 31 (.idx (.t 28) (.t 29) 3 1 false),m1 9 31] (sr1 [m1 32 9,m1 33 0,o1 34 (Jl 33),o1 35 (J2 110 32
 34),o1 36 (.callm 61 [.t 35,cn 51])] (.seq (sr1 [m1 37 9,o1 38 (Jl 37),Jk 39 0] (.block 4 (.loop (sr1 [o1 40 (Jb .lss 39 38)] (.seq (Ji 40 .skip (.exit 4)) (.seq (.block 5 (sr1 [o1 41 (Jx 37 39 1),o1 42 (lf 41 1),m1 11 42] (.reg [m1 43 4,m1 44
 11,⟨none,.raw (Go.Op.mapUpdate 213 (Go.Operand.tmp 43) (Go.Operand.tmp 44) (Go.Operand.const (Go.Value.bool Bool.true))) 0,none,[]⟩]))) (.reg [o1 45 (Jc .add 39 1),m1 39 45]))))))) (.reg [m1 46 5,m1 47 9,o1 48 (Jl 47),o1 49 (Jb .add 46 48),m1 5
 49]))))) (.reg [o1 50 (Jc .add 29 1),m1 29 50]))))))) (.reg [o1 51 (lt 7 3),o1 52 (J1 53 51),o1 53 (Jl 52),o1 54 (Jc .leq 53 10),o1 55 (.callm 61 [.t 54,cn 51])])))) (.reg [o1 56 (Jc .add 23 1),m1 23 56]))))))) (.reg [m1 57 1,o1 58 (Jl 57),o1 59 (Jc
 .leq 58 8),m1 60 59,g1 61 60 true (.mv (.t 4)),g1 62 60 true (.raw (Go.Op.call { callee:=(Go.Callee.builtin Go.Builtin.len),args:=#[(Go.Operand.tmp 61)],argTypes:=#[213] }) 3),g1 63 60 true (.mv (.t 5)),g1 64 60 true (Jb .eql 62 63),o1 65 (.pick (.t
 60) (.t 64) Jf),o1 66 (.callm 61 [.t 65,cn 51])])))))
def r47:List RV:=[]
theorem n47:Tryz.f47.ntmps=67:=by kernel_rfl
theorem b47:ZV Tryz.prog 47=true:=by kernel_rfl
theorem ZzS:YA Tryz.prog c47 ((Tryz.f47.body).getD .skip)=true:=by kernel_rfl
theorem ZzD:YQ Tryz.prog r47 Tryz.f47.results.toList=true:=by kernel_rfl
theorem m47 {n0:Nat} {hp0:List (Nat × HB)} {args:List SV} {Zw:Ot->Prop} (hh:hpb n0 hp0) (hx:∀ o,Zw o->KX o.res/\KXP o.hp) (h:sx Tryz.prog Y0 n0 c47 ⟨YD 0 args,hp0,n0,67,[]⟩ (Xs r47 λo=>∃ o',Zw o'/\XV n0 o o')) (hA:Nat.ble args.length 67=true:=by rfl):CtM Tryz.prog 47 hp0 n0 args Zw:=Zv Tryz.func47 rfl b47 ZzS ZzD n47 (Nat.le_of_ble_eq_true hA) hh hx h
def c48:SC:=(.reg [m1 2 0,o1 3 (.bsl 1 3 [.t 2]),o1 4 (.call 95 [cn 0,cn 1000000000,.t 3]),o1 5 (.callm 61 [.t 4,cn 2])])
def r48:List RV:=[]
theorem n48:Tryz.f48.ntmps=6:=by kernel_rfl
theorem b48:ZV Tryz.prog 48=true:=by kernel_rfl
theorem ZyJ:YA Tryz.prog c48 ((Tryz.f48.body).getD .skip)=true:=by kernel_rfl
theorem ZxP:YQ Tryz.prog r48 Tryz.f48.results.toList=true:=by kernel_rfl
theorem m48 {n0:Nat} {hp0:List (Nat × HB)} {args:List SV} {Zw:Ot->Prop} (hh:hpb n0 hp0) (hx:∀ o,Zw o->KX o.res/\KXP o.hp) (h:sx Tryz.prog Y0 n0 c48 ⟨YD 0 args,hp0,n0,6,[]⟩ (Xs r48 λo=>∃ o',Zw o'/\XV n0 o o')) (hA:Nat.ble args.length 6=true:=by rfl):CtM Tryz.prog 48 hp0 n0 args Zw:=Zv Tryz.func48 rfl b48 ZyJ ZxP n48 (Nat.le_of_ble_eq_true hA) hh hx h
def c49:SC:=(sr1 [o1 2 (.mv (.c (.slice none 0 0)))] (sr1 [o1 3 (.mv (.c (.slice none 0 0)))] (.seq (sr1 [m1 10 0,o1 11 (Jl 10),Jk 12 0] (.block 0 (.loop (sr1 [o1 13 (Jb .lss 12 11)] (.seq (Ji 13 .skip (.exit 0)) (.seq (.block 1 (sr1 [o1 14 (Jx 10 12
 11),o1 15 (lt 14 11),o1 5 (.alloc zv5 49),Js 5 15 11] (sr1 [o1 17 (lt 5 11),o1 18 (J1 16 17),m1 16 18,o1 19 (Je 16 0),o1 20 (Je 16 1),o1 21 (Je 16 2),o1 22 (Je 16 3),o1 6 (.alloc zv0 23),o1 7 (.alloc zv0 23),Js 6 19 2,Js 7 20 2,m1 8 21,m1 9 22] (.reg
 [m1 23 3,o1 24 (lt 6 2),o1 25 (.bsl 2 23 [.t 24]),o1 26 (.appm 2 16 23 (.t 23) (.t 25)),m1 3 26])))) (.reg [o1 27 (Jc .add 12 1),m1 12 27]))))))) (sr1 [m1 28 3,m1 2 28] .ret))))
def r49:List RV:=[.tmp 2]
theorem t49:Qt1 Tryz.prog 49 c49 r49 29:=ZL Tryz.func49
def c50:SC:=(sr1 [o1 2 (Jz 0 0 122),o1 4 (.mv (.c (.int .u8 0)))] (.seq (.regd (Jr 14) [Jo 9 (lt 2 4),Jo 10 (ao 2 0),Jp 11 (ao 10 0) [1],Jp 12 (lf 11 1) [2],Jp 13 (J2 52 9 12) [0,3],Jo 14 (lt 2 4),Jo 15 (ao 2 0),Jp 16 (ao 15 1) [6],Jp 17 (lf 16 1)
 [7],Jp 18 (J2 52 14 17) [4,5,8]] 2 2 [o1 5 (.alloc zv0 23),o1 6 (.alloc zv0 23),Ju 5 13 2 [0,1,2,3,4,9,10,11],Ju 6 18 2 (Jr 13)]) (.seq (.seq (.regd (Jr 12) [Jo 19 (ao 5 0),Jp 20 (lf 19 1) [0],Jo 21 (ao 6 1),Jp 22 (lf 21 1) [2],Jp 23 (Jb .sub 20 22)
 [1,3],Jo 24 (ao 5 1),Jp 25 (lf 24 1) [5],Jo 26 (ao 6 0),Jp 27 (lf 26 1) [7],Jp 28 (Jb .sub 25 27) [6,8],Jp 7 (.mv (.t 23)) (Jr 5),Jp 8 (.mv (.t 28)) (Jr 11)] 0 0 []) (.block 0 (sr1 [m1 30 1,o1 31 (.un .neg (.t 30)),m1 32 1,m1 33 7,m1 34 8,o1 35 (.bsl
 1 3 [.t 33,.t 34]),o1 36 (J3 95 31 32 35),m1 29 36] (Ji 29 (sr1 [o1 4 (.mv (.c (.int .u8 2)))] .ret) (sr1 [m1 38 7,m1 39 1,o1 40 (Jb .gtr 38 39),m1 41 40,g1 42 41 false (.mv (.t 8)),g1 43 41 false (.mv (.t 1)),g1 44 41 false (.un .neg (.t 43)),g1 45
 41 false (Jb .lss 42 44),o1 46 (.pick (.t 41) Jt (.t 45)),m1 37 46] (Ji 37 (sr1 [o1 4 (.mv (.c (.int .u8 0)))] .ret) .skip)))))) (sr1 [o1 4 (.mv (.c (.int .u8 1)))] .ret))))
def r50:List RV:=[.tmp 4]
theorem t50:Qt1 Tryz.prog 50 c50 r50 47:=ZL Tryz.func50
def c52:SC:=(sr1 [o1 2 (Jz 0 0 122),o1 4 (.alloc zv0 23)] (sr1 [o1 5 (.mv (.c (.slice none 0 0)))] (.seq (sr1 [m1 8 1,o1 9 (Jl 8),Jk 10 0] (.block 0 (.loop (sr1 [o1 11 (Jb .lss 10 9)] (.seq (Ji 11 .skip (.exit 0)) (.seq (.block 1 (sr1 [o1 12 (Jx 8 10
 1),o1 13 (lf 12 1),m1 7 13] (.reg [m1 14 5,o1 15 (ao 2 3),o1 16 (lf 15 1),m1 17 7,o1 18 (Jx 16 17 2),o1 19 (lt 18 2),o1 20 (.bsl 2 23 [.t 19]),o1 21 (.appm 2 16 23 (.t 14) (.t 20)),m1 5 21]))) (.reg [o1 22 (Jc .add 10 1),m1 10 22]))))))) (sr1 [m1 23
 5,o1 24 (J1 111 23),Js 4 24 2] .ret))))
def r52:List RV:=[.cell 4 2 true]
theorem t52:Qt1 Tryz.prog 52 c52 r52 25:=ZL Tryz.func52
def c53:SC:=(sr1 [o1 1 (Jz 0 0 31),o1 2 (.mv (.c (.slice none 0 0)))] (sr1 [o1 3 (ao 1 0),o1 4 (lf 3 1),o1 5 (ao 1 1),o1 6 (lf 5 1),o1 7 (ao 1 2),o1 8 (lf 7 1),o1 9 (.bsl 1 29 [.t 4,.t 6,.t 8]),o1 10 (J1 112 9),m1 2 10] .ret))
def r53:List RV:=[.tmp 2]
theorem t53:Qt1 Tryz.prog 53 c53 r53 11:=ZL Tryz.func53
def c59:SC:=(sr1 [o1 10 (lf 0 1),o1 11 (lt 1 3),o1 12 (.bsl 3 31 [.t 11]),o1 13 (.callm 47 [.t 10,.t 12])] (sr1 [o1 15 (lt 2 17),o1 16 (lt 3 7),o1 17 (J2 60 15 16),m1 14 17,o1 18 (Je 14 0),o1 19 (Je 14 1),o1 6 (.alloc zv0 23),Js 6 18 2,m1 7 19] (sr1
 [m1 20 7,o1 21 (Jc .eql 20 0),m1 22 7,o1 23 (.callm 61 [.t 21,.t 22])] (sr1 [o1 24 (lf 4 1),o1 25 (.callm 48 [.t 24])] (.seq (.regd (Jr 6) [Jo 26 (lt 1 3),Jo 27 (lf 0 1),Jp 28 (J1 49 27) [1],Jp 29 (.build zv13 [(0,3,.t 26),(3,1,.t 28)]) [0,2]] 1 1
 [o1 8 (.alloc zv13 122),Ju 8 29 4 (Jr 5)]) (.seq (.regd (Jr 6) [Jo 30 (lt 8 4),Jo 31 (lt 1 3),Jp 32 (J1 53 31) [1],Jp 33 (J2 52 30 32) [0,2]] 1 1 [o1 9 (.alloc zv0 23),Ju 9 33 2 (Jr 5)]) (sr1 [o1 34 (lt 8 4),o1 35 (lf 4 1),o1 36 (J2 50 34 35),Js 5 36
 1] (.seq (sr1 [o1 37 (ao 9 0),o1 38 (lf 37 1),o1 39 (ao 6 1),o1 40 (lf 39 1),o1 41 (Jb .gtr 38 40)] (Ji 41 (.reg [Jv 5 (.c (.int .u8 0)) 1]) .skip)) (sr1 [o1 42 (lf 5 1),o1 43 (.bin .eql (.t 42) (.c (.int .u8 2))),m1 44 43,g1 45 44 true (ao 9 1),g1
 46 44 true (lf 45 1),g1 47 44 true (ao 6 0),g1 48 44 true (lf 47 1),g1 49 44 true (Jb .gtr 46 48),o1 50 (.pick (.t 44) (.t 49) Jf)] (Ji 50 (.reg [Jv 5 (.c (.int .u8 1)) 1]) .skip))))))))))
def r59:List RV:=[]
theorem n59:Tryz.f59.ntmps=51:=by kernel_rfl
theorem b59:ZV Tryz.prog 59=true:=by kernel_rfl
theorem ZzK:YA Tryz.prog c59 ((Tryz.f59.body).getD .skip)=true:=by kernel_rfl
theorem ZxB:YQ Tryz.prog r59 Tryz.f59.results.toList=true:=by kernel_rfl
theorem m59 {n0:Nat} {hp0:List (Nat × HB)} {args:List SV} {Zw:Ot->Prop} (hh:hpb n0 hp0) (hx:∀ o,Zw o->KX o.res/\KXP o.hp) (h:sx Tryz.prog Y0 n0 c59 ⟨YD 0 args,hp0,n0,51,[]⟩ (Xs r59 λo=>∃ o',Zw o'/\XV n0 o o')) (hA:Nat.ble args.length 51=true:=by rfl):CtM Tryz.prog 59 hp0 n0 args Zw:=Zv Tryz.func59 rfl b59 ZzK ZxB n59 (Nat.le_of_ble_eq_true hA) hh hx h
def c61:SC:=(sr1 [m1 4 0,o1 5 (Jh 4)] (Ji 5 (.reg [m1 6 1,o1 7 (.raw (Go.Op.makeInterface 35 (Go.Operand.tmp 6)) 20),⟨none,.raw (Go.Op.panic (Go.Operand.tmp 7)) 0,none,[]⟩]) .skip))
def r61:List RV:=[]
theorem n61:Tryz.f61.ntmps=8:=by kernel_rfl
theorem b61:ZV Tryz.prog 61=true:=by kernel_rfl
theorem Zyv:YA Tryz.prog c61 ((Tryz.f61.body).getD .skip)=true:=by kernel_rfl
theorem Zx8:YQ Tryz.prog r61 Tryz.f61.results.toList=true:=by kernel_rfl
theorem m61 {n0:Nat} {hp0:List (Nat × HB)} {args:List SV} {Zw:Ot->Prop} (hh:hpb n0 hp0) (hx:∀ o,Zw o->KX o.res/\KXP o.hp) (h:sx Tryz.prog Y0 n0 c61 ⟨YD 0 args,hp0,n0,8,[]⟩ (Xs r61 λo=>∃ o',Zw o'/\XV n0 o o')) (hA:Nat.ble args.length 8=true:=by rfl):CtM Tryz.prog 61 hp0 n0 args Zw:=Zv Tryz.func61 rfl b61 Zyv Zx8 n61 (Nat.le_of_ble_eq_true hA) hh hx h
def c68:SC:=(sr1 [o1 0 (.mv (.c (.map none)))] (sr1 [o1 1 (.raw (Go.Op.makeMap 146 Option.none) 146),o1 2 (.build [.nilFunc,.nilFunc] [(0,1,.f 122),(1,1,.f 123)]),⟨none,.raw (Go.Op.insert 146 (Go.Operand.tmp 1) (Go.Operand.const (Go.Value.int
 Go.IntKind.u8 1)) (Go.Operand.tmp 2)) 0,none,[]⟩,o1 3 (.build [.nilFunc,.nilFunc] [(0,1,.f 124),(1,1,.f 125)]),⟨none,.raw (Go.Op.insert 146 (Go.Operand.tmp 1) (Go.Operand.const (Go.Value.int Go.IntKind.u8 2)) (Go.Operand.tmp 3)) 0,none,[]⟩,o1 4
 (.build [.nilFunc,.nilFunc] [(0,1,.f 126),(1,1,.f 127)]),⟨none,.raw (Go.Op.insert 146 (Go.Operand.tmp 1) (Go.Operand.const (Go.Value.int Go.IntKind.u8 3)) (Go.Operand.tmp 4)) 0,none,[]⟩,m1 5 1,m1 0 5] .ret))
def r68:List RV:=[.tmp 0]
theorem n68:Tryz.f68.ntmps=6:=by kernel_rfl
theorem b68:ZV Tryz.prog 68=true:=by kernel_rfl
theorem Zx1:YA Tryz.prog c68 ((Tryz.f68.body).getD .skip)=true:=by kernel_rfl
theorem Zx5:YQ Tryz.prog r68 Tryz.f68.results.toList=true:=by kernel_rfl
theorem m68 {n0:Nat} {hp0:List (Nat × HB)} {args:List SV} {Zw:Ot->Prop} (hh:hpb n0 hp0) (hx:∀ o,Zw o->KX o.res/\KXP o.hp) (h:sx Tryz.prog Y0 n0 c68 ⟨YD 0 args,hp0,n0,6,[]⟩ (Xs r68 λo=>∃ o',Zw o'/\XV n0 o o')) (hA:Nat.ble args.length 6=true:=by rfl):CtM Tryz.prog 68 hp0 n0 args Zw:=Zv Tryz.func68 rfl b68 Zx1 Zx5 n68 (Nat.le_of_ble_eq_true hA) hh hx h
def c94:SC:=(sr1 [o1 13 (lf 0 1),o1 14 (lf 1 1),o1 15 (.callm 47 [.t 13,.t 14])] (sr1 [o1 16 (lf 2 1),o1 17 (.bsl 1 3 [.t 16]),o1 18 (.call 95 [cn 0,cn 100000,.t 17]),o1 19 (.callm 61 [.t 18,cn 2])] (sr1 [o1 20 (lf 3 1),o1 21 (Jl 20),o1 22 (Jc .leq 21
 60),o1 23 (.callm 61 [.t 22,cn 4])] (sr1 [o1 24 (lf 3 1),o1 25 (.mkf 97 [.t 1]),o1 26 (J2 96 24 25),o1 27 (.callm 61 [.t 26,cn 53])] (sr1 [o1 28 (lf 0 1),o1 29 (.callm 98 [.t 28]),m1 5 29] (.seq (sr1 [o1 30 (lf 3 1),o1 31 (Jl 30),Jk 32 0] (.block 0
 (.loop (sr1 [o1 33 (Jb .lss 32 31)] (.seq (Ji 33 .skip (.exit 0)) (.seq (.block 1 (sr1 [o1 34 (Jx 30 32 2),o1 35 (lt 34 2),o1 7 (.alloc zv0 194),Js 7 35 2] (sr1 [o1 36 (lf 1 1),o1 37 (ao 7 0),o1 38 (lf 37 1),o1 39 (Jx 36 38 3),o1 40 (lt 39 3),o1 41
 (J1 99 40),Jk 42 0] (.block 2 (.loop (sr1 [o1 43 (Jc .lss 42 3)] (.seq (Ji 43 .skip (.exit 2)) (.seq (.block 3 (sr1 [m1 44 42,o1 45 (.idx (.t 41) (.t 42) 3 1 false),m1 8 44,m1 9 45] (sr1 [m1 46 9,o1 47 (Jl 46),Jk 48 0] (.block 4 (.loop (sr1 [o1 49
 (Jb .lss 48 47)] (.seq (Ji 49 .skip (.exit 4)) (.seq (.block 5 (sr1 [o1 50 (Jx 46 48 1),o1 51 (lf 50 1),m1 11 51] (.seq (.regd (Jr 11) [Jm 52 5,Jm 53 11,Jp 54 (Jx 52 53 11) [0,1],Jp 55 (ao 54 9) [2],Jp 56 (lf 55 1) [3],Jo 57 (ao 7 1),Jp 58 (lf 57 1)
 [5],Jp 59 (Jb .add 56 58) [4,6],Jp 60 (Jx 52 53 11) (Jr 8),Jp 61 (ao 60 9) (Jr 9)] 0 1 [Ju 61 59 1 [0,1,2,3,4,5,6,7,9]]) (sr1 [m1 62 8,o1 63 (Jc .eql 62 2)] (Ji 63 (.regd (Jr 11) [Jm 64 5,Jm 65 11,Jp 66 (Jx 64 65 11) [0,1],Jp 67 (ao 66 9) [2],Jp 68
 (lf 67 1) [3],Jo 69 (ao 7 1),Jp 70 (lf 69 1) [5],Jp 71 (Jb .add 68 70) [4,6],Jp 72 (Jx 64 65 11) (Jr 8),Jp 73 (ao 72 9) (Jr 9)] 0 1 [Ju 73 71 1 [0,1,2,3,4,5,6,7,9]]) .skip))))) (.reg [o1 74 (Jc .add 48 1),m1 48 74]))))))))) (.reg [o1 75 (Jc .add 42
 1),m1 42 75]))))))))) (.reg [o1 76 (Jc .add 32 1),m1 32 76]))))))) (.seq (sr1 [m1 77 5,o1 78 (Jl 77),Jk 79 0] (.block 6 (.loop (sr1 [o1 80 (Jb .lss 79 78)] (.seq (Ji 80 .skip (.exit 6)) (.seq (.block 7 (sr1 [m1 81 79,m1 12 81] (.regd (Jr 10) [Jm 82
 5,Jm 83 12,Jp 84 (Jx 82 83 11) [0,1],Jp 85 (ao 84 10) [2],Jp 86 (lf 85 1) [3],Jo 87 (lf 2 1),Jp 88 (Jb .add 86 87) [4,5],Jp 89 (Jx 82 83 11) (Jr 7),Jp 90 (ao 89 10) (Jr 8)] 0 1 [Ju 90 88 1 [0,1,2,3,4,5,6,8]]))) (.reg [o1 91 (Jc .add 79 1),m1 79
 91]))))))) (sr1 [m1 92 5,o1 93 (.call 100 [.t 92,.f 67]),o1 94 (.callm 61 [.t 93,cn 9])] (.reg [m1 95 5,Js 4 95 1])))))))))
def r94:List RV:=[]
theorem n94:Tryz.f94.ntmps=96:=by kernel_rfl
theorem b94:ZV Tryz.prog 94=true:=by kernel_rfl
theorem ZxM:YA Tryz.prog c94 ((Tryz.f94.body).getD .skip)=true:=by kernel_rfl
theorem ZxS:YQ Tryz.prog r94 Tryz.f94.results.toList=true:=by kernel_rfl
theorem m94 {n0:Nat} {hp0:List (Nat × HB)} {args:List SV} {Zw:Ot->Prop} (hh:hpb n0 hp0) (hx:∀ o,Zw o->KX o.res/\KXP o.hp) (h:sx Tryz.prog Y0 n0 c94 ⟨YD 0 args,hp0,n0,96,[]⟩ (Xs r94 λo=>∃ o',Zw o'/\XV n0 o o')) (hA:Nat.ble args.length 96=true:=by rfl):CtM Tryz.prog 94 hp0 n0 args Zw:=Zv Tryz.func94 rfl b94 ZxM ZxS n94 (Nat.le_of_ble_eq_true hA) hh hx h
def c95:SC:=(sr1 [o1 3 (Jz 0 0 3),o1 4 (Jz 1 0 3),Jw 6 Jf] (sr1 [m1 7 2,o1 8 (.mkf 156 [.t 3,.t 4]),o1 9 (J2 140 7 8),o1 10 (Jh 9),m1 6 10] .ret))
def r95:List RV:=[.tmp 6]
theorem t95:Qt1 Tryz.prog 95 c95 r95 11:=ZL Tryz.func95
def c96:SC:=(sr1 [o1 3 (Jz 1 0 195),Jw 4 Jf] (sr1 [m1 5 0,o1 6 (.mkf 158 [.t 3]),o1 7 (J2 157 5 6),o1 8 (Jh 7),m1 4 8] .ret))
def r96:List RV:=[.tmp 4]
theorem t96:Qt1 Tryz.prog 96 c96 r96 9:=ZL Tryz.func96
def c98:SC:=(sr1 [o1 2 (.mv (.c (.slice none 0 0)))] (.seq (sr1 [m1 3 0,o1 4 (.isn (.t 3))] (Ji 4 (sr1 [o1 2 (.mv (.c (.slice none 0 0)))] .ret) .skip)) (sr1 [o1 5 (.bsl 11 49 []),m1 6 0,o1 7 (.cln 11 88 49 (.t 5) (.t 6)),m1 2 7] .ret)))
def r98:List RV:=[.tmp 2]
theorem n98:Tryz.f98.ntmps=8:=by kernel_rfl
theorem b98:ZV Tryz.prog 98=true:=by kernel_rfl
theorem ZzW:YA Tryz.prog c98 ((Tryz.f98.body).getD .skip)=true:=by kernel_rfl
theorem Zyq:YQ Tryz.prog r98 Tryz.f98.results.toList=true:=by kernel_rfl
theorem m98 {n0:Nat} {hp0:List (Nat × HB)} {args:List SV} {Zw:Ot->Prop} (hh:hpb n0 hp0) (hx:∀ o,Zw o->KX o.res/\KXP o.hp) (h:sx Tryz.prog Y0 n0 c98 ⟨YD 0 args,hp0,n0,8,[]⟩ (Xs r98 λo=>∃ o',Zw o'/\XV n0 o o')) (hA:Nat.ble args.length 8=true:=by rfl):CtM Tryz.prog 98 hp0 n0 args Zw:=Zv Tryz.func98 rfl b98 ZzW Zyq n98 (Nat.le_of_ble_eq_true hA) hh hx h
def c99:SC:=(sr1 [o1 1 (Jz 0 0 31),o1 2 (.alloc zv8 197)] (sr1 [o1 3 (ao 1 0),o1 4 (lf 3 1),o1 5 (ao 1 1),o1 6 (lf 5 1),o1 7 (ao 1 2),o1 8 (lf 7 1),o1 9 (.build zv8 [(0,1,.t 4),(1,1,.t 6),(2,1,.t 8)]),Js 2 9 3] .ret))
def r99:List RV:=[.cell 2 3 true]
theorem t99:Qt1 Tryz.prog 99 c99 r99 10:=ZL Tryz.func99
def c100:SC:=(sr1 [o1 3 (Jz 1 0 53),Jw 4 Jf] (sr1 [m1 5 0,o1 6 (.mkf 160 [.t 3]),o1 7 (J2 159 5 6),o1 8 (Jh 7),m1 4 8] .ret))
def r100:List RV:=[.tmp 4]
theorem t100:Qt1 Tryz.prog 100 c100 r100 9:=ZL Tryz.func100
def c111:SC:=(sr1 [o1 2 (.alloc zv0 23)] (.seq (sr1 [m1 5 0,o1 6 (Jl 5),Jk 7 0] (.block 0 (.loop (sr1 [o1 8 (Jb .lss 7 6)] (.seq (Ji 8 .skip (.exit 0)) (.seq (.block 1 (sr1 [o1 9 (Jx 5 7 2),o1 10 (lt 9 2),o1 4 (.alloc zv0 23),Js 4 10 2] (.regd
 [0,1,2,3,4,5,6,10,7,8,9,11,12,13] [Jo 11 (ao 2 0),Jp 12 (lf 11 1) [0],Jo 13 (ao 4 0),Jp 14 (lf 13 1) [2],Jp 15 (Jb .add 12 14) [1,3],Jo 16 (ao 2 1),Jp 17 (lf 16 1) [5],Jp 21 (ao 2 0) (Jr 7),.hide (.t 21),Jo 18 (ao 4 1),Jp 19 (lf 18 1) [7],Jp 20 (Jb
 .add 17 19) [6,8]] 0 1 [Ju 21 15 1 [0,1,2,3,4,5,6,10],⟨some 22,ao 2 1,none,(Jr 12)⟩,Ju 22 20 1 (Jr 13)]))) (.reg [o1 23 (Jc .add 7 1),m1 7 23]))))))) (sr1 [o1 24 (lt 2 2),Js 2 24 2] .ret)))
def r111:List RV:=[.cell 2 2 true]
theorem t111:Qt1 Tryz.prog 111 c111 r111 25:=ZL Tryz.func111
def c112:SC:=(sr1 [o1 2 (.mv (.c (.slice none 0 0)))] (sr1 [Jk 3 0] (.seq (sr1 [m1 9 0,o1 10 (Jl 9),Jk 11 0] (.block 0 (.loop (sr1 [o1 12 (Jb .lss 11 10)] (.seq (Ji 12 .skip (.exit 0)) (.seq (.block 1 (sr1 [o1 13 (Jx 9 11 1),o1 14 (lf 13 1),m1 5 14]
 (sr1 [m1 15 3,m1 16 5,o1 17 (Jl 16),o1 18 (Jb .add 15 17),m1 3 18] (sr1 [m1 19 3,o1 20 (Jc .lss 19 0)] (Ji 20 (.reg [o1 21 (.raw (Go.Op.makeInterface 9 (Go.Operand.const (Go.Value.string { data:=#[108,101,110,32,111,117,116,32,111,102,32,114,97,110,103,101] })))
 20),⟨none,.raw (Go.Op.panic (Go.Operand.tmp 21)) 0,none,[]⟩]) .skip))))) (.reg [o1 22 (Jc .add 11 1),m1 11 22]))))))) (sr1 [m1 23 3,o1 24 (.callm 172 [.c (.slice none 0 0),.t 23]),m1 6 24] (.gh (.seq (sr1 [m1 25 0,o1 26 (Jl 25),Jk 27 0] (.block 2
 (.loop (sr1 [o1 28 (Jb .lss 27 26)] (.seq (Ji 28 .skip (.exit 2)) (.seq (.block 3 (sr1 [o1 29 (Jx 25 27 1),o1 30 (lf 29 1),m1 8 30] (.reg [m1 31 6,m1 32 8,o1 33 (.appm 1 8 3 (.t 31) (.t 32)),m1 6 33]))) (.reg [o1 34 (Jc .add 27 1),m1 27 34])))))))
 (sr1 [m1 35 6,m1 2 35] .ret)))))))
def r112:List RV:=[.tmp 2]
theorem t112:Qt1 Tryz.prog 112 c112 r112 36:=ZL Tryz.func112
def c121:SC:=(sr1 [o1 3 (Jz 0 0 23),Jw 6 Jf] (sr1 [o1 7 (ao 3 0),o1 8 (lf 7 1),o1 9 (ao 3 1),o1 10 (lf 9 1),o1 11 (Jb .leq 8 10),m1 12 11,g1 13 12 true (.mv (.t 1)),g1 14 12 true (.mv (.t 2)),g1 15 12 true (ao 3 0),g1 16 12 true (lf 15 1),g1 17 12
 true (ao 3 1),g1 18 12 true (lf 17 1),g1 19 12 true (.bsl 1 3 [.t 16,.t 18]),g1 20 12 true (J3 95 13 14 19),o1 21 (.pick (.t 12) (.t 20) Jf),m1 6 21] .ret))
def r121:List RV:=[.tmp 6]
theorem t121:Qt1 Tryz.prog 121 c121 r121 22:=ZL Tryz.func121
def c122:SC:=(sr1 [o1 1 (Jz 0 0 49),Jw 2 Jf] (sr1 [o1 3 (ao 1 3),o1 4 (lt 3 2),o1 5 (.call 121 [.t 4,cn 1,cn 100000]),m1 6 5,g1 7 6 true (ao 1 5),g1 8 6 true (lt 7 2),g1 9 6 true (.call 121 [.t 8,cn 0,cn 1000]),o1 10 (.pick (.t 6) (.t 9) Jf),m1 11
 10,g1 12 11 true (ao 1 7),g1 13 11 true (lt 12 2),g1 14 11 true (.ld (.g 0) 2 true),g1 15 11 true (.eqs false true [1,1] (.t 13) (.t 14)),o1 16 (.pick (.t 11) (.t 15) Jf),m1 2 16] .ret))
def r122:List RV:=[.tmp 2]
theorem t122:Qt1 Tryz.prog 122 c122 r122 17:=ZL Tryz.func122
def c123:SC:=(sr1 [o1 1 (Jz 0 0 49),o1 2 (.alloc zv0 23),o1 3 (.alloc zv0 23),o1 4 (.mv (.c (.int .u8 0)))] (sr1 [o1 5 (ao 1 1),o1 6 (lt 5 2),Js 2 6 2] (.seq (sr1 [o1 7 (ao 1 9),o1 8 (lf 7 1),o1 9 (ao 1 3),o1 10 (ao 9 0),o1 11 (lf 10 1),o1 12 (Jb .lss
 8 11)] (Ji 12 (.seq (.regd (Jr 5) [Jo 13 (lt 2 2),.hide (.t 2),Jo 14 (.ld (.g 0) 2 true)] 0 3 [Ju 2 13 2 [0],Ju 3 14 2 [0,1,2],⟨some 4,.mv (.c (.int .u8 0)),none,(Jr 4)⟩]) .ret) .skip)) (sr1 [o1 16 (ao 1 1),o1 17 (ao 16 0),o1 18 (lf 17 1),o1 19 (ao 1
 5),o1 20 (ao 19 1),o1 21 (lf 20 1),o1 22 (.bin .sub (cn 1000) (.t 21)),o1 23 (J2 176 18 22),m1 15 23,o1 24 (Je 15 0),o1 25 (Je 15 1),o1 26 (ao 2 0),Js 26 24 1] (sr1 [o1 28 (ao 1 1),o1 29 (ao 28 1),o1 30 (lf 29 1),o1 31 (ao 1 5),o1 32 (ao 31 1),o1 33
 (lf 32 1),o1 34 (J2 176 30 33),m1 27 34,o1 35 (Je 27 0),o1 36 (Je 27 1),o1 37 (ao 3 1),Js 37 36 1] (.seq (sr1 [o1 38 (ao 1 9),o1 39 (lf 38 1),o1 40 (ao 1 3),o1 41 (ao 40 1),o1 42 (lf 41 1),o1 43 (Jb .lss 39 42)] (Ji 43 (.seq (.regd (Jr 5) [Jo 44 (lt
 2 2),.hide (.t 2),Jo 45 (lt 3 2)] 0 3 [Ju 2 44 2 [0],Ju 3 45 2 [0,1,2],⟨some 4,.mv (.c (.int .u8 1)),none,(Jr 4)⟩]) .ret) .skip)) (sr1 [o1 47 (ao 1 1),o1 48 (ao 47 1),o1 49 (lf 48 1),o1 50 (ao 1 5),o1 51 (ao 50 0),o1 52 (lf 51 1),o1 53 (.bin .sub (cn
 1000) (.t 52)),o1 54 (J2 176 49 53),m1 46 54,o1 55 (Je 46 0),o1 56 (Je 46 1),o1 57 (ao 2 1),Js 57 56 1] (sr1 [o1 59 (ao 1 1),o1 60 (ao 59 0),o1 61 (lf 60 1),o1 62 (ao 1 5),o1 63 (ao 62 0),o1 64 (lf 63 1),o1 65 (J2 176 61 64),m1 58 65,o1 66 (Je 58
 0),o1 67 (Je 58 1),o1 68 (ao 3 0),Js 68 66 1] (.seq (.regd (Jr 5) [Jo 69 (lt 2 2),.hide (.t 2),Jo 70 (lt 3 2)] 0 3 [Ju 2 69 2 [0],Ju 3 70 2 [0,1,2],⟨some 4,.mv (.c (.int .u8 2)),none,(Jr 4)⟩]) .ret)))))))))
def r123:List RV:=[.cell 2 2 true,.cell 3 2 true,.tmp 4]
theorem t123:Qt1 Tryz.prog 123 c123 r123 71:=ZL Tryz.func123
def c124:SC:=(sr1 [o1 1 (Jz 0 0 49),Jw 2 Jf] (sr1 [o1 3 (ao 1 3),o1 4 (lt 3 2),o1 5 (.ld (.g 0) 2 true),o1 6 (.eqs false true [1,1] (.t 4) (.t 5)),m1 7 6,g1 8 7 true (ao 1 5),g1 9 7 true (lt 8 2),g1 10 7 true (.ld (.g 0) 2 true),g1 11 7 true (.eqs
 false true [1,1] (.t 9) (.t 10)),o1 12 (.pick (.t 7) (.t 11) Jf),m1 13 12,g1 14 13 true (ao 1 7),g1 15 13 true (lt 14 2),g1 16 13 true (.ld (.g 0) 2 true),g1 17 13 true (.eqs false true [1,1] (.t 15) (.t 16)),o1 18 (.pick (.t 13) (.t 17) Jf),m1 2 18]
 .ret))
def r124:List RV:=[.tmp 2]
theorem t124:Qt1 Tryz.prog 124 c124 r124 19:=ZL Tryz.func124
def c125:SC:=(sr1 [o1 1 (Jz 0 0 49),o1 2 (.alloc zv0 23),o1 3 (.alloc zv0 23),o1 4 (.mv (.c (.int .u8 0)))] (.seq (.regd (Jr 6) [Jo 5 (ao 1 1),Jp 6 (lt 5 2) [0],.hide (.t 2),Jo 7 (.ld (.g 0) 2 true)] 0 3 [Ju 2 6 2 [0,1],Ju 3 7 2 (Jr 4),⟨some 4,.mv (.c (.int .u8 0)),none,(Jr 5)⟩]) .ret))
def r125:List RV:=[.cell 2 2 true,.cell 3 2 true,.tmp 4]
theorem t125:Qt1 Tryz.prog 125 c125 r125 8:=ZL Tryz.func125
def c126:SC:=(sr1 [o1 1 (Jz 0 0 49),Jw 2 Jf] (sr1 [o1 3 (ao 1 3),o1 4 (lt 3 2),o1 5 (.ld (.g 0) 2 true),o1 6 (.eqs false true [1,1] (.t 4) (.t 5)),m1 7 6,g1 8 7 true (ao 1 5),g1 9 7 true (lt 8 2),g1 10 7 true (.ld (.g 0) 2 true),g1 11 7 true (.eqs
 false true [1,1] (.t 9) (.t 10)),o1 12 (.pick (.t 7) (.t 11) Jf),m1 13 12,g1 14 13 true (ao 1 7),g1 15 13 true (lt 14 2),g1 16 13 true (.call 121 [.t 15,cn 0,cn 1000000]),o1 17 (.pick (.t 13) (.t 16) Jf),m1 2 17] .ret))
def r126:List RV:=[.tmp 2]
theorem t126:Qt1 Tryz.prog 126 c126 r126 18:=ZL Tryz.func126
def c127:SC:=(sr1 [o1 1 (Jz 0 0 49),o1 2 (.alloc zv0 23),o1 3 (.alloc zv0 23),o1 4 (.mv (.c (.int .u8 0)))] (sr1 [o1 6 (ao 1 7),o1 7 (ao 6 0),o1 8 (lf 7 1),o1 9 (ao 1 10),o1 10 (lf 9 1),o1 11 (Jb .mul 8 10),o1 12 (ao 1 7),o1 13 (ao 12 1),o1 14 (lf 13
 1),o1 15 (ao 1 10),o1 16 (lf 15 1),o1 17 (Jb .mul 14 16),o1 18 (.build zv0 [(0,1,.t 11),(1,1,.t 17)]),o1 5 (.alloc zv0 23),Js 5 18 2] (sr1 [o1 19 (ao 1 1),o1 20 (ao 19 0),o1 21 (lf 20 1),o1 22 (ao 5 1),o1 23 (lf 22 1),o1 24 (Jb .sub 21 23),o1 25 (.mm
 true [.t 24,cn 0]),o1 26 (ao 1 1),o1 27 (ao 26 1),o1 28 (lf 27 1),o1 29 (ao 5 0),o1 30 (lf 29 1),o1 31 (Jb .sub 28 30),o1 32 (.mm true [.t 31,cn 0]),o1 33 (.build zv0 [(0,1,.t 25),(1,1,.t 32)]),Js 2 33 2] (sr1 [o1 34 (ao 1 1),o1 35 (ao 34 0),o1 36
 (lf 35 1),o1 37 (ao 5 0),o1 38 (lf 37 1),o1 39 (.mm false [.t 36,.t 38]),o1 40 (ao 1 1),o1 41 (ao 40 1),o1 42 (lf 41 1),o1 43 (ao 5 1),o1 44 (lf 43 1),o1 45 (.mm false [.t 42,.t 44]),o1 46 (.build zv0 [(0,1,.t 39),(1,1,.t 45)]),Js 3 46 2] (.seq
 (.regd (Jr 5) [Jo 47 (lt 2 2),.hide (.t 2),Jo 48 (lt 3 2)] 0 3 [Ju 2 47 2 [0],Ju 3 48 2 [0,1,2],⟨some 4,.mv (.c (.int .u8 0)),none,(Jr 4)⟩]) .ret)))))
def r127:List RV:=[.cell 2 2 true,.cell 3 2 true,.tmp 4]
theorem t127:Qt1 Tryz.prog 127 c127 r127 49:=ZL Tryz.func127
def c156:SC:=(sr1 [Jw 4 Jf] (sr1 [m1 5 0,o1 6 (lf 1 1),o1 7 (Jb .lss 5 6),m1 8 7,g1 9 8 false (.mv (.t 0)),g1 10 8 false (lf 2 1),g1 11 8 false (Jb .gtr 9 10),o1 12 (.pick (.t 8) Jt (.t 11)),m1 4 12] .ret))
def r156:List RV:=[.tmp 4]
theorem t156:Qt1 Tryz.prog 156 c156 r156 13:=ZL Tryz.func156
def c157:SC:=(sr1 [Jw 4 Jf] (sr1 [m1 5 0,m1 6 1,o1 7 (J2 201 5 6),o1 8 (Jc .geq 7 0),m1 4 8] .ret))
def r157:List RV:=[.tmp 4]
theorem t157:Qt1 Tryz.prog 157 c157 r157 9:=ZL Tryz.func157
def c159:SC:=(sr1 [Jw 4 Jf] (sr1 [m1 5 0,m1 6 1,o1 7 (J2 202 5 6),o1 8 (Jc .geq 7 0),m1 4 8] .ret))
def r159:List RV:=[.tmp 4]
theorem t159:Qt1 Tryz.prog 159 c159 r159 9:=ZL Tryz.func159
def c160:SC:=(sr1 [o1 2 (Jz 0 0 49),Jw 3 Jf] (sr1 [o1 4 (lf 1 1),o1 5 (lt 2 11),o1 6 (.calv (.t 4) [.t 5]),o1 7 (Jh 6),m1 3 7] .ret))
def r160:List RV:=[.tmp 3]
theorem t160:Qt1 Tryz.prog 160 c160 r160 8:=ZL Tryz.func160
def c67:SC:=(sr1 [o1 1 (Jz 0 0 49),Jw 2 Jf] (.seq (.regd (Jr 10) [Jo 6 (.call 68 []),Jo 7 (ao 1 0),Jp 8 (lf 7 1) [1],Jp 9 (.rv (Go.Op.lookup 146 (Go.Operand.tmp 6) (Go.Operand.tmp 8) Bool.true) [.t 6,.t 8]) [0,2],Jp 5 (.mv (.t 9)) [3],Jp 10 (Je 5 0)
 [4],Jp 11 (Je 5 1) [4]] 1 2 [o1 3 (.alloc [.nilFunc,.nilFunc] 145),Ju 3 10 2 [0,1,2,3,4,5,7],⟨some 4,.mv (.t 11),none,(Jr 9)⟩]) (sr1 [m1 12 4,m1 13 12,g1 14 13 true (ao 3 0),g1 15 13 true (lf 14 1),g1 16 13 true (lt 1 11),g1 17 13 true (.calv (.t 15)
 [.t 16]),o1 18 (.pick (.t 13) (.t 17) Jf),m1 19 18,g1 20 19 true (ao 1 1),g1 21 19 true (lt 20 2),g1 22 19 true (.call 121 [.t 21,cn 0,cn 1000000]),o1 23 (.pick (.t 19) (.t 22) Jf),m1 24 23,g1 25 24 true (ao 1 9),g1 26 24 true (lf 25 1),g1 27 24 true
 (.bsl 1 3 [.t 26]),g1 28 24 true (.call 95 [cn 0,cn 6000000,.t 27]),o1 29 (.pick (.t 24) (.t 28) Jf),m1 30 29,g1 31 30 true (ao 1 10),g1 32 30 true (lf 31 1),g1 33 30 true (.bsl 1 3 [.t 32]),g1 34 30 true (.call 95 [cn 0,cn 100000,.t 33]),o1 35
 (.pick (.t 30) (.t 34) Jf),m1 2 35] .ret)))
def r67:List RV:=[.tmp 2]
theorem t67:Qt1 Tryz.prog 67 c67 r67 36:=ZL Tryz.func67
def Zz3:SC:=(sr1 [o1 4 (.mv (.c (.slice none 0 0)))] (.seq (sr1 [m1 5 1,o1 6 (Jc .lss 5 0)] (Ji 6 (.reg [o1 7 (.raw (Go.Op.makeInterface 9 (Go.Operand.const (Go.Value.string { data:=#[99,97,110,110,111,116,32,98,101,32,110,101,103,97,116,105,118,101] })))
 20),⟨none,.raw (Go.Op.panic (Go.Operand.tmp 7)) 0,none,[]⟩]) .skip)) (.seq (sr1 [m1 8 1,m1 9 0,o1 10 (.raw (Go.Op.call { callee:=(Go.Callee.builtin Go.Builtin.cap),args:=#[(Go.Operand.tmp 9)],argTypes:=#[29] }) 3),m1 11 0,o1 12 (.raw (Go.Op.call { callee:=(Go.Callee.builtin Go.Builtin.len),args:=#[(Go.Operand.tmp 11)],argTypes:=#[29] })
 3),o1 13 (Jb .sub 10 12),o1 14 (Jb .sub 8 13),m1 1 14] (sr1 [m1 15 1,o1 16 (Jc .gtr 15 0)] (Ji 16 (.reg [m1 17 0,m1 18 0,o1 19 (.raw (Go.Op.call { callee:=(Go.Callee.builtin Go.Builtin.cap),args:=#[(Go.Operand.tmp 18)],argTypes:=#[29] }) 3),o1 20
 (.raw (Go.Op.slice 29 (Go.Operand.tmp 17) Option.none (Option.some (Go.Operand.tmp 19)) Option.none) 29),m1 21 1,o1 22 (.raw (Go.Op.call { callee:=(Go.Callee.builtin Go.Builtin.append),args:=#[(Go.Operand.tmp 20),(Go.Operand.tmp 21)],argTypes:=#[29,3] })
 29),m1 23 0,o1 24 (.raw (Go.Op.call { callee:=(Go.Callee.builtin Go.Builtin.len),args:=#[(Go.Operand.tmp 23)],argTypes:=#[29] }) 3),o1 25 (.raw (Go.Op.slice 29 (Go.Operand.tmp 22) Option.none (Option.some (Go.Operand.tmp 24)) Option.none) 29),m1 0
 25]) .skip))) (sr1 [m1 26 0,m1 4 26] .ret))))
def Zz9:List RV:=[.tmp 4]
theorem n172:Tryz.f172.ntmps=27:=by kernel_rfl
theorem b172:ZV Tryz.prog 172=true:=by kernel_rfl
theorem Zvj:YA Tryz.prog Zz3 ((Tryz.f172.body).getD .skip)=true:=by kernel_rfl
theorem Zwg:YQ Tryz.prog Zz9 Tryz.f172.results.toList=true:=by kernel_rfl
theorem m172 {n0:Nat} {hp0:List (Nat × HB)} {args:List SV} {Zw:Ot->Prop} (hh:hpb n0 hp0) (hx:∀ o,Zw o->KX o.res/\KXP o.hp) (h:sx Tryz.prog Y0 n0 Zz3 ⟨YD 0 args,hp0,n0,27,[]⟩ (Xs Zz9 λo=>∃ o',Zw o'/\XV n0 o o')) (hA:Nat.ble args.length 27=true:=by rfl):CtM Tryz.prog 172 hp0 n0 args Zw:=Zv Tryz.func172 rfl b172 Zvj Zwg n172 (Nat.le_of_ble_eq_true hA) hh hx h
def c176:SC:=(sr1 [Jk 4 0,Jk 5 0] (sr1 [m1 7 0,m1 8 1,o1 9 (Jb .mul 7 8),m1 6 9] (sr1 [m1 10 6,o1 11 (.div .quo (.t 10) (cn 1000)),m1 12 6,o1 13 (Jc .add 12 1000),o1 14 (Jc .sub 13 1),o1 15 (.div .quo (.t 14) (cn 1000)),m1 4 11,m1 5 15] .ret)))
def r176:List RV:=[.tmp 4,.tmp 5]
theorem t176:Qt1 Tryz.prog 176 c176 r176 16:=ZL Tryz.func176
def c201:SC:=(sr1 [Jk 4 0] (.seq (sr1 [m1 6 0,o1 7 (Jl 6),Jk 8 0] (.block 0 (.loop (sr1 [o1 9 (Jb .lss 8 7)] (.seq (Ji 9 .skip (.exit 0)) (.seq (.block 1 (sr1 [m1 10 8,m1 5 10] (sr1 [m1 11 1,m1 12 0,m1 13 5,o1 14 (Jx 12 13 2),o1 15 (lt 14 2),o1 16
 (.calv (.t 11) [.t 15])] (Ji 16 (sr1 [m1 17 5,m1 4 17] .ret) .skip)))) (.reg [o1 18 (Jc .add 8 1),m1 8 18]))))))) (sr1 [o1 4 (.mv (cn (-1)))] .ret)))
def r201:List RV:=[.tmp 4]
theorem t201:Qt1 Tryz.prog 201 c201 r201 19:=ZL Tryz.func201
def c202:SC:=(sr1 [Jk 4 0] (.seq (sr1 [m1 6 0,o1 7 (Jl 6),Jk 8 0] (.block 0 (.loop (sr1 [o1 9 (Jb .lss 8 7)] (.seq (Ji 9 .skip (.exit 0)) (.seq (.block 1 (sr1 [m1 10 8,m1 5 10] (sr1 [m1 11 1,m1 12 0,m1 13 5,o1 14 (Jx 12 13 11),o1 15 (lt 14 11),o1 16
 (.calv (.t 11) [.t 15])] (Ji 16 (sr1 [m1 17 5,m1 4 17] .ret) .skip)))) (.reg [o1 18 (Jc .add 8 1),m1 8 18]))))))) (sr1 [o1 4 (.mv (cn (-1)))] .ret)))
def r202:List RV:=[.tmp 4]
theorem t202:Qt1 Tryz.prog 202 c202 r202 19:=ZL Tryz.func202
end Go.Proofs.YtkpkgafhfakpdaaGreatDoor
namespace Go.Proofs.YtkpkgafhfakpdaaGreatDoor.Cm
open Go Go.Sx Go.Azalai
theorem Zsn {a b A:Int} (h0:0<=a) (h1:a<=A) (hA:A<=1000000000000000) (hb:1<=b) (hb2:b<=1000000000) :
 IntKind.i64.wrap (a+b)=a+b/\IntKind.i64.wrap (a+b - 1)=a+b - 1/\IntKind.i64.wrap ((a+b - 1).tdiv b)=upF a b:=by
 have:=Zje h0 h1 hb;refine ⟨Zf (by omega) (by omega),Zf (by omega) (by omega),?_⟩;unfold upF at *;exact Zf (by omega) (by omega)
theorem Zd8 (a b:Int) (h0:0<=a) (h1:a<=1000000000000000) (hb:1<=b) (hb2:b<=1000000000):Ct Tryz.prog 114 [I a,I b] (I (upF a b)):=by
 obtain ⟨q1,q2,q3⟩:=Zsn h0 h1 (Int.le_refl _) hb hb2;refine t114.1 (by simp) (by simp) ?_;dsimp only [c114,r114,go_sem];simp only [q1,q2];refine Zcq (by omega) ?_;dsimp only [go_sem];rw [q3]
def scl (s:Span) (b n:Int):Span:=⟨(s.lo * n).tdiv b,upF (s.hi * n) b⟩
theorem ZdK (s:Span) (b n A:Int) (c:Bool) (h1:0<=s.lo) (h2:s.lo<=s.hi) (h3:0<=n) (h4:s.hi * n<=100000000000000) (hb:1<=b) (hb2:b<=1000000000) :
 Ct Tryz.prog 117 [.agg (Zh s),I b,.sl c 1 [[I n]]] (.agg (Zh (scl s b n))):=by
 have k1:0<=s.lo * n:=Int.mul_nonneg h1 h3;have k2:s.lo * n<=s.hi * n:=Int.mul_le_mul_of_nonneg_right h2 h3;refine t117.1 (by simp [Zh,KFR]) (by simp [Zh]) ?_;dsimp only [c117,r117,Zh,go_sem];refine ZU 2 ?_;dsimp only [Zc,go_sem];refine Zt (by decide) ?_;dsimp only [Zc,go_sem];refine ixs 0 [I n] rfl rfl ?_;dsimp only [Zc,go_sem];refine Zn (by decide) ?_;dsimp only [go_sem];rw [Zf (n:=s.lo * n) (by omega) (by omega),Zf (n:=s.hi * n) (by omega) (by omega)]
 refine Zcq (by omega) ?_;dsimp only [go_sem];refine call (Zd8 _ _ (by omega) (by omega) hb hb2) ?_;dsimp only [go_sem];have:=Wy k1 (Int.le_trans k2 h4) hb;rw [Zf (n:=(s.lo * n).tdiv b) (by omega) (by omega)];rfl
theorem V3 (s:Span) (b n m A:Int) (c:Bool) (h1:0<=s.lo) (h2:s.lo<=s.hi) (h3:0<=n) (h3':0<=m) (h4:s.hi * n<=100000000000000) (h5:s.hi * n * m<=100000000000000) (hb:1<=b) (hb2:b<=1000000000) :
 Ct Tryz.prog 117 [.agg (Zh s),I b,.sl c 1 [[I n],[I m]]] (.agg (Zh ⟨(s.lo * n * m).tdiv b,upF (s.hi * n * m) b⟩)):=by
 have k1:0<=s.lo * n:=Int.mul_nonneg h1 h3;have k2:s.lo * n<=s.hi * n:=Int.mul_le_mul_of_nonneg_right h2 h3;have k3:0<=s.lo * n * m:=Int.mul_nonneg k1 h3';have k4:s.lo * n * m<=s.hi * n * m:=Int.mul_le_mul_of_nonneg_right k2 h3';refine t117.1 (by simp [Zh,KFR]) (by simp [Zh]) ?_;dsimp only [c117,r117,Zh,go_sem];refine ZU 3 ?_;dsimp only [Zc,go_sem];refine Zt (by decide) ?_;dsimp only [Zc,go_sem];refine ixs 0 [I n] rfl rfl ?_
 dsimp only [Zc,go_sem];refine Zt (by decide) ?_;dsimp only [Zc,go_sem];refine ixs 1 [I m] rfl rfl ?_;dsimp only [Zc,go_sem];refine Zn (by decide) ?_;dsimp only [go_sem];rw [Zf (n:=s.lo * n) (by omega) (by omega),Zf (n:=s.hi * n) (by omega) (by omega),Zf (n:=s.lo * n * m) (by omega) (by omega),Zf (n:=s.hi * n * m) (by omega) (by omega)];refine Zcq (by omega) ?_;dsimp only [go_sem];refine call (Zd8 _ _ (by omega) (by omega) hb hb2) ?_
 dsimp only [go_sem];have:=Wy k3 (Int.le_trans k4 h5) hb;rw [Zf (n:=(s.lo * n * m).tdiv b) (by omega) (by omega)]
def bdS (A:Int) (s:Span):Prop:=0<=s.lo/\s.lo<=A/\0<=s.hi/\s.hi<=A
theorem W6 (s t:Span) (c:Bool) (h1:bdS 1000000000000000 s) (h2:bdS 1000000000000000 t):Ct Tryz.prog 116 [.sl c 2 [[I s.lo,I s.hi],[I t.lo,I t.hi]]] (.agg (Zh ⟨s.lo+t.lo,s.hi+t.hi⟩)):=by
 unfold bdS at h1 h2;refine t116.1 (by simp [KFR]) (by simp [Zh]) ?_;dsimp only [c116,r116,Zh,go_sem];refine ZU 3 ?_;dsimp only [Zc,go_sem];refine Zt (by decide) ?_;dsimp only [Zc,go_sem];refine ixs 0 [I s.lo,I s.hi] rfl rfl ?_;dsimp only [Zc,go_sem];refine Zt (by decide) ?_;dsimp only [Zc,go_sem];refine ixs 1 [I t.lo,I t.hi] rfl rfl ?_;dsimp only [Zc,go_sem];refine Zn (by decide) ?_;dsimp only [go_sem]
 simp only [Int.zero_add];rw [Zf (n:=s.lo) (by omega) (by omega),Zf (n:=s.hi) (by omega) (by omega),Zf (n:=s.lo+t.lo) (by omega) (by omega),Zf (n:=s.hi+t.hi) (by omega) (by omega)]
theorem plus3 (s t u:Span) (c:Bool) (h1:bdS 1000000000000000 s) (h2:bdS 1000000000000000 t) (h3:bdS 1000000000000000 u):Ct Tryz.prog 116 [.sl c 2 [[I s.lo,I s.hi],[I t.lo,I t.hi],[I u.lo,I u.hi]]] (.agg (Zh ⟨s.lo+t.lo+u.lo,s.hi+t.hi+u.hi⟩)):=by
 unfold bdS at h1 h2 h3;refine t116.1 (by simp [KFR]) (by simp [Zh]) ?_;dsimp only [c116,r116,Zh,go_sem];refine ZU 4 ?_;dsimp only [Zc,go_sem];refine Zt (by decide) ?_;dsimp only [Zc,go_sem];refine ixs 0 [I s.lo,I s.hi] rfl rfl ?_;dsimp only [Zc,go_sem];refine Zt (by decide) ?_;dsimp only [Zc,go_sem];refine ixs 1 [I t.lo,I t.hi] rfl rfl ?_;dsimp only [Zc,go_sem];refine Zt (by decide) ?_;dsimp only [Zc,go_sem]
 refine ixs 2 [I u.lo,I u.hi] rfl rfl ?_;dsimp only [Zc,go_sem];refine Zn (by decide) ?_;dsimp only [go_sem];simp only [Int.zero_add];rw [Zf (n:=s.lo) (by omega) (by omega),Zf (n:=s.hi) (by omega) (by omega),Zf (n:=s.lo+t.lo) (by omega) (by omega),Zf (n:=s.hi+t.hi) (by omega) (by omega),Zf (n:=s.lo+t.lo+u.lo) (by omega) (by omega),Zf (n:=s.hi+t.hi+u.hi) (by omega) (by omega)]
theorem Zkk (n:Int) (s:Span) (h1:0<=n) (h2:n<=1000000) (h3:bdS 1000000 s):Ct Tryz.prog 161 [I n,.agg (Zh s)] (.agg (Zh ⟨n - s.hi,n - s.lo⟩)):=by
 unfold bdS at h3;refine t161.1 (by simp [Zh]) (by simp [Zh]) ?_;dsimp only [c161,r161,Zh,go_sem];rw [Zf (n:=n - s.hi) (by omega) (by omega),Zf (n:=n - s.lo) (by omega) (by omega)]
theorem breed_bd {b:Breed} (h:ZZ b=true):1<=b.full/\b.full<=1000000/\1<=b.fed/\b.fed<=1000000/\0<=b.heal/\b.heal<=1000/\(0<=b.strong.lo/\b.strong.lo<=b.strong.hi/\b.strong.hi<=1000000)/\(0<=b.rest.lo/\b.rest.lo<=b.rest.hi/\b.rest.hi<=100000) /\
 (0<=b.heat.lo/\b.heat.lo<=b.heat.hi/\b.heat.hi<=100000)/\(0<=b.toil.lo/\b.toil.lo<=b.toil.hi/\b.toil.hi<=100000)/\(0<=b.burn.lo/\b.burn.lo<=b.burn.hi/\b.burn.hi<=100000)/\(0<=b.rub.lo/\b.rub.lo<=b.rub.hi/\b.rub.hi<=100000)/\(0<=b.milk.lo/\b.milk.lo<=b.milk.hi/\b.milk.hi<=100000):=by
 simp only [ZZ,Z8,inR,Bool.and_eq_true,decide_eq_true_eq] at h;omega
theorem camel_bd {b:Breed} {c:Camel} (hb:ZZ b=true) (h:Yc b c=true):(0<=c.water.lo/\c.water.lo<=c.water.hi/\c.water.hi<=b.full)/\(0<=c.fat.lo/\c.fat.lo<=c.fat.hi/\c.fat.hi<=b.fed)/\(0<=c.sore.lo/\c.sore.lo<=c.sore.hi/\c.sore.hi<=1000):=by
 simp only [Yc,Z8,Bool.and_eq_true,decide_eq_true_eq] at h;omega
theorem march_bd {m:March} (h:ZR m=true):0<=m.hours/\m.hours<=24/\0<=m.load/\m.load<=1000000/\(0<=m.heat.lo/\m.heat.lo<=m.heat.hi/\m.heat.hi<=60)/\(0<=m.grass.lo/\m.grass.lo<=m.grass.hi/\m.grass.hi<=1000000)/\(0<=m.drinks.lo/\m.drinks.lo<=m.drinks.hi/\m.drinks.hi<=1000000):=by
 simp only [ZR,Z8,inR,Bool.and_eq_true,decide_eq_true_eq] at h;omega
theorem Zzy (b:Breed) (c:Camel) (hb:ZZ b=true) (hc:Yc b c=true):Ct Tryz.prog 113 [.agg (Z4 b c)] (.agg (Zh (ZdC b c))):=by
 obtain ⟨b1,b2,b3,b4,_⟩:=breed_bd hb;obtain ⟨⟨w1,w2,w3⟩,⟨f1,f2,f3⟩,⟨s1,s2,s3⟩⟩:=camel_bd hb hc;refine t113.1 (by simp [Z4]) (by simp [Zh]) ?_;dsimp only [c113,r113,Z4,go_sem];refine call (V3 c.water b.full 2 1000 0 true w1 w2 (by omega) (by omega) (by omega) (by omega) b1 (by omega)) ?_;dsimp only [Zh,go_sem];refine call (V3 c.fat b.fed 2 1000 0 true f1 f2 (by omega) (by omega) (by omega) (by omega) b3 (by omega)) ?_
 dsimp only [Zh,go_sem];refine call (Zkk 1000 c.sore (by omega) (by omega) ⟨by omega,by omega,by omega,by omega⟩) ?_;dsimp only [Zh,go_sem];refine ZU 4 ?_;dsimp only [Zc,go_sem];refine Zt (by decide) ?_;dsimp only [Zc,go_sem];refine ixa 0 rfl (by decide) ?_;dsimp only [Zc,go_sem];refine Zt (by decide) ?_;dsimp only [Zc,go_sem];refine ixa 1 rfl (by decide) ?_;dsimp only [Zc,go_sem];refine Zt (by decide) ?_
 dsimp only [Zc,go_sem];refine ixa 2 rfl (by decide) ?_;dsimp only [Zc,go_sem];refine Zn (by decide) ?_;dsimp only [go_sem];have e1:c.water.lo * 2 * 1000=2000 * c.water.lo:=by omega
 have e2:c.water.hi * 2 * 1000=2000 * c.water.hi:=by omega
 have e3:c.fat.lo * 2 * 1000=2000 * c.fat.lo:=by omega
 have e4:c.fat.hi * 2 * 1000=2000 * c.fat.hi:=by omega
 simp only [e1,e2,e3,e4,ZdC,Int.min_assoc]
theorem ZzJ {b:Breed} {c:Camel} (hb:ZZ b=true) (hc:Yc b c=true):0<=(ZdC b c).lo/\(ZdC b c).lo<=1000/\0<=(ZdC b c).hi/\(ZdC b c).hi<=1000:=by
 obtain ⟨b1,b2,b3,b4,_⟩:=breed_bd hb;obtain ⟨⟨w1,w2,w3⟩,⟨f1,f2,f3⟩,⟨s1,s2,s3⟩⟩:=camel_bd hb hc;have d1:=Wy (a:=2000 * c.water.lo) (A:=2000000000) (d:=b.full) (by omega) (by omega) b1;have d2:=Wy (a:=2000 * c.fat.lo) (A:=2000000000) (d:=b.fed) (by omega) (by omega) b3;have d3:=Zje (a:=2000 * c.water.hi) (A:=2000000000) (d:=b.full) (by omega) (by omega) b1;have d4:=Zje (a:=2000 * c.fat.hi) (A:=2000000000) (d:=b.fed) (by omega) (by omega) b3
 simp only [ZdC];omega
theorem ZqX (b:Breed) (c:Camel) (hb:ZZ b=true) (hc:Yc b c=true):Ct Tryz.prog 56 [.agg (Z4 b c)] (.agg (Zh (Zel b c))):=by
 obtain ⟨b1,b2,b3,b4,_,_,⟨g1,g2,g3⟩,_⟩:=breed_bd hb;obtain ⟨q1,q2,q3,q4⟩:=ZzJ hb hc;have k1:=VT (a:=b.strong.lo) (A:=1000000) (b:=(ZdC b c).lo) (B:=1000) (by omega) (by omega) q1 q2;have k2:=VT (a:=b.strong.hi) (A:=1000000) (b:=(ZdC b c).hi) (B:=1000) (by omega) (by omega) q3 q4;refine t56.1 (by simp [Z4]) (by simp [Zh]) ?_;dsimp only [c56,r56,Z4,go_sem];refine call (Zzy b c hb hc) ?_;dsimp only [Zh,go_sem]
 rw [Zf (n:=b.strong.lo * (ZdC b c).lo) (by omega) (by omega)];refine Zcq (by omega) ?_;dsimp only [go_sem];rw [Zf (n:=b.strong.hi * (ZdC b c).hi) (by omega) (by omega)];refine call (Zd8 _ _ (by omega) (by omega) (by omega) (by omega)) ?_;dsimp only [go_sem];have d1:=Wy (a:=b.strong.lo * (ZdC b c).lo) (d:=1000) k1.1 k1.2 (by omega);rw [Zf (n:=(b.strong.lo * (ZdC b c).lo).tdiv 1000) (by omega) (by omega)]
 rfl
def sres (b:Breed) (c:Camel) (s:Span):SV:=.tup [.agg (Zh (if Zau b c=0 then s else Zy)),I (Zau b c)]
theorem Zjk {b:Breed} {c:Camel}:Zau b c=0↔ZZ b=true/\Yc b c=true:=by
 simp only [Zau];cases ZZ b<;>cases Yc b c<;>simp
theorem carries_ok (b:Breed) (c:Camel):Ct Tryz.prog 60 [.agg (breedL b),.agg (camelL c)] (sres b c (Zel b c)):=by
 refine t60.1 (by simp [breedL,camelL]) (by simp [sres,Zh]) ?_;dsimp only [c60,r60,breedL,camelL,go_sem];refine call (Xf b c) ?_;dsimp only [go_sem];by_cases h:Zau b c=0
 case neg =>
  refine Zt (by simpa using h) ?_;dsimp only [sres,Zh,go_sem];rw [if_neg h];rfl
 refine Zn (by simpa using h) ?_;obtain ⟨hb,hc⟩:=Zjk.1 h;dsimp only [go_sem];refine call (ZqX b c hb hc) ?_;dsimp only [Zh,sres,go_sem];rw [if_pos h,h]
theorem work_bd {m:March} (h:ZR m=true):0<=Ys m/\Ys m<=26400000:=by
 obtain ⟨h1,h2,h3,h4,_⟩:=march_bd h;have:=VT (a:=m.hours) (A:=24) (b:=100000+m.load) (B:=1100000) h1 h2 (by omega) (by omega);exact this
theorem toil_bd {m:March} {x:Int} (h:ZR m=true) (h0:0<=x) (h1:x<=100000):0<=x * Ys m/\x * Ys m<=2640000000000:=by
 obtain ⟨w1,w2⟩:=work_bd h;exact VT h0 h1 w1 w2
theorem heat_bd {x y:Int} (h0:0<=x) (h1:x<=100000) (h2:0<=y) (h3:y<=60):0<=x * max 0 (y - 20)/\x * max 0 (y - 20)<=4000000 :=
 VT h0 h1 (B:=40) (by omega) (by omega)
theorem ZkE (b:Breed) (k:Bool) (m:March) (hb:ZZ b=true) (hm:ZR m=true):Ct Tryz.prog 115 [.agg (breedL b),B k,.agg (Z5 m)] (.agg [I (WF b k m).lo,I (WF b k m).hi,I (W9 b m).lo,I (W9 b m).hi]):=by
 obtain ⟨_,_,_,_,_,_,_,⟨r1,r2,r3⟩,⟨a1,a2,a3⟩,⟨t1,t2,t3⟩,⟨u1,u2,u3⟩,_,⟨k1,k2,k3⟩⟩:=breed_bd hb;obtain ⟨m1,m2,m3,m4,⟨g1,g2,g3⟩,_⟩:=march_bd hm;have w0:=work_bd hm;have e1:=heat_bd (x:=b.heat.lo) (y:=m.heat.lo) (by omega) (by omega) (by omega) (by omega);have e2:=heat_bd (x:=b.heat.hi) (y:=m.heat.hi) (by omega) (by omega) (by omega) (by omega);have f1:=toil_bd (x:=b.toil.lo) hm (by omega) (by omega);have f2:=toil_bd (x:=b.toil.hi) hm (by omega) (by omega)
 have f3:=toil_bd (x:=b.burn.lo) hm (by omega) (by omega);have f4:=toil_bd (x:=b.burn.hi) hm (by omega) (by omega);have d1:=Wy f1.1 f1.2 (d:=100000) (by omega);have d2:=Zje f2.1 f2.2 (d:=100000) (by omega);have hw:IntKind.i64.wrap (m.hours * IntKind.i64.wrap (100000+m.load))=Ys m:=by
  rw [Zf (n:=100000+m.load) (by omega) (by omega)];unfold Ys at *;exact Zf (by omega) (by omega)
 refine t115.1 (by simp [breedL,Z5]) (by simp) ?_;dsimp only [c115,r115,breedL,Z5,go_sem];rw [hw,Zf (n:=m.heat.lo - 20) (by omega) (by omega),Zf (n:=m.heat.hi - 20) (by omega) (by omega),Zf (n:=b.heat.lo * max 0 (m.heat.lo - 20)) (by omega) (by omega),Zf (n:=b.heat.hi * max 0 (m.heat.hi - 20)) (by omega) (by omega)];refine call (ZdK b.toil 100000 (Ys m) 0 true t1 t2 w0.1 (by omega) (by omega) (by omega)) ?_
 dsimp only [Zh,go_sem]
 refine call (plus3 b.rest ⟨b.heat.lo * max 0 (m.heat.lo - 20),b.heat.hi * max 0 (m.heat.hi - 20)⟩ (scl b.toil 100000 (Ys m)) true ⟨by omega,by omega,by omega,by omega⟩ ⟨e1.1,by simp only;omega,e2.1,by simp only;omega⟩
  ⟨d1.1,by simp only [scl];omega,d2.1,by simp only [scl];omega⟩) ?_
 dsimp only [Zh,go_sem];refine br ?_ ?_
 . intro hk;dsimp only [go_sem]
   refine call (W6 ⟨b.rest.lo+b.heat.lo * max 0 (m.heat.lo - 20)+(scl b.toil 100000 (Ys m)).lo,b.rest.hi+b.heat.hi * max 0 (m.heat.hi - 20)+(scl b.toil 100000 (Ys m)).hi⟩ b.milk true
    ⟨by simp only [scl];omega,by simp only [scl];omega,by simp only [scl];omega,by simp only [scl];omega⟩ ⟨by omega,by omega,by omega,by omega⟩) ?_
   dsimp only [Zh,go_sem];refine call (ZdK b.burn 100000 (Ys m) 0 true u1 u2 w0.1 (by omega) (by omega) (by omega)) ?_;dsimp only [Zh,go_sem];simp only [WF,W9,hk,scl,if_true]
 . intro hk;dsimp only [go_sem];refine call (ZdK b.burn 100000 (Ys m) 0 true u1 u2 w0.1 (by omega) (by omega) (by omega)) ?_;dsimp only [Zh,go_sem];simp only [WF,W9,hk,scl,Bool.false_eq_true,if_false,Int.add_zero]
end Go.Proofs.YtkpkgafhfakpdaaGreatDoor.Cm
namespace Go.Azalai
def Zrd (b:Breed) (c:Camel) (l:List March):Int:=if Zau b c≠0 then Zau b c else if l.length > 60 then 4 else if l.all ZR=false then 12 else 0
def Vm (b:Breed) (sum:Span):List Camel->Span × Int
 | []=>(sum,0)
 | c :: r=>if Yc b c=false then (⟨0,0⟩,11) else Vm b ⟨sum.lo+(b.full - c.water.hi),sum.hi+(b.full - c.water.lo)⟩ r
def VY (b:Breed) (l:List Camel):Span × Int :=
 if ZZ b=false then (⟨0,0⟩,10) else if l.length > 30 then (⟨0,0⟩,4) else Vm b ⟨0,0⟩ l
end Go.Azalai
namespace Go.Proofs.YtkpkgafhfakpdaaGreatDoor.Cm
open Go Go.Sx Go.Azalai
def tres (r:Span × Int):SV:=.tup [.agg (Zh r.1),I r.2]
theorem Vv (b:Breed) (c:Camel) (l:List March) (hl:l.length < 4611686018427387904) (k:Bool):Ct Tryz.prog 54 [.agg (breedL b),.agg (camelL c),.sl k 8 (l.map Z5)] (I (Zrd b c l)):=by
 refine t54.1 (by simp [breedL,camelL,Z5,Za]) (by simp) ?_;dsimp only [c54,r54,breedL,camelL,go_sem];refine call (Xf b c) ?_;dsimp only [go_sem];by_cases h0:Zau b c=0
 case neg =>
  refine Zt (by simpa using h0) ?_;dsimp only [go_sem];simp [Zrd,h0]
 refine Zn (by simpa using h0) ?_;dsimp only [go_sem];simp only [List.length_map];by_cases h1:l.length > 60
 case pos =>
  refine Zt (by simp;omega) ?_;dsimp only [go_sem];simp [Zrd,h0,h1]
 refine Zn (by simp;omega) ?_;dsimp only [go_sem];refine call (Uq l hl k) ?_;dsimp only [go_sem];simp only [Zrd,h0,h1];by_cases h2:l.all ZR=true
 . simp [h2]
 . simp [h2]
theorem thirst_ok (b:Breed) (l:List Camel) (hl:l.length<=1000) (k:Bool):Ct Tryz.prog 101 [.agg (breedL b),.sl k 7 (l.map camelL)] (tres (VY b l)):=by
 refine t101.1 (by simp [breedL,camelL,Za]) (by simp [tres,Zh]) ?_;dsimp only [c101,r101,breedL,go_sem];refine call (VL b) ?_;dsimp only [go_sem];by_cases h0:ZZ b=true
 case neg =>
  refine Zt (by simp [ZoK,h0]) ?_;dsimp only [go_sem];simp [VY,ZoK,h0,tres,Zh]
 refine Zn (by simp [ZoK,h0]) ?_;dsimp only [go_sem];simp only [List.length_map];by_cases h1:l.length > 30
 case pos =>
  refine Zt (by simp;omega) ?_;dsimp only [go_sem];simp [VY,h0,h1,tres,Zh]
 refine Zn (by simp;omega) ?_;dsimp only [go_sem];have hbd:=breed_bd h0;have he:VY b l=Vm b ⟨0,0⟩ l:=by simp [VY,h0,h1]
 rw [he];refine Yb (λs:Nat × Span=>[(23,I s.1)]) (λs=>[(2,.cells (Zh s.2) 23)]) (λs=>s.1<=l.length/\Vm b s.2 (l.drop s.1)=Vm b ⟨0,0⟩ l/\0<=s.2.lo/\s.2.lo<=s.1 * 1000000/\0<=s.2.hi/\s.2.hi<=s.1 * 1000000) (λs=>l.length - s.1) (0,⟨0,0⟩) ⟨Nat.zero_le _,rfl,by simp,by simp,by simp,by simp⟩ ?_ ?_
 . (refine Zi ?_ ?_ ?_ rfl rfl<;>dsimp only [breedL,camelL,Zh,id,go_sem]<;>simp [breedL,camelL,Zh,Za])
 rintro ⟨j,sum⟩ ⟨hj,hi,n1,n2,n3,n4⟩;simp only at hj hi n1 n2 n3 n4;dsimp only [Zh,go_sem];by_cases hlt:j < l.length
 . refine Zt (by simpa using hlt) ?_;dsimp only [go_sem];rw [List.drop_eq_getElem_cons hlt,Vm] at hi;refine Zx j hlt rfl ?_;dsimp only [camelL,go_sem];refine call (Xf b l[j]) ?_;dsimp only [go_sem];by_cases hm:Yc b l[j]=true
   case neg =>
    refine Zt (by simp [Zau,h0,hm]) ?_;dsimp only [go_sem];rw [if_pos (by simpa using hm)] at hi;rw [<- hi];simp [Zau,h0,hm,tres,Zh]
   refine Zn (by simp [Zau,h0,hm]) ?_;dsimp only [go_sem];rw [if_neg (by simp [hm])] at hi;have hc:=camel_bd h0 hm;refine call (Zkk b.full l[j].water (by omega) (by omega) (by unfold bdS;omega)) ?_;dsimp only [Zh,go_sem];refine call (W6 sum ⟨b.full - l[j].water.hi,b.full - l[j].water.lo⟩ _ (by unfold bdS;omega) (by unfold bdS;simp only;omega)) ?_;dsimp only [Zh,go_sem];rw [Zf (n:=(j:Int)+1) (by omega) (by omega)]
   refine ⟨(j+1,⟨sum.lo+(b.full - l[j].water.hi),sum.hi+(b.full - l[j].water.lo)⟩),⟨hlt,hi,by simp only;omega,by simp only;omega,by simp only;omega,by simp only;omega⟩,by simp only;omega,?_⟩;(refine Zi ?_ ?_ ?_ rfl rfl<;>dsimp only [breedL,camelL,Zh,id,go_sem]<;>simp [breedL,camelL,Zh,Za])
 refine Zn (by simp;omega) ?_;dsimp only [go_sem];have hje:j=l.length:=by omega
 subst hje;rw [List.drop_length,Vm] at hi;rw [<- hi];rfl
end Go.Proofs.YtkpkgafhfakpdaaGreatDoor.Cm
namespace Go.Azalai
def VB:Camel:=⟨⟨0,0⟩,⟨0,0⟩,⟨0,0⟩,false⟩
def U7 (most:Int) (has cost gets:Span):Span:=⟨min most (max 0 (has.lo - cost.hi)+gets.lo),min most (has.hi - cost.lo+gets.hi)⟩
def Za2 (b:Breed) (s:Span) (m:March):Span :=
 if m.hours=0 then ⟨max 0 (s.lo - b.heal),max 0 (s.hi - b.heal)⟩
 else ⟨min 1000 (s.lo+(b.rub.lo * (m.hours * m.load)).tdiv 1000000),min 1000 (s.hi+upF (b.rub.hi * (m.hours * m.load)) 1000000)⟩
def Yq (b:Breed) (c:Camel) (m:March):Camel × Int :=
 let w:=WF b c.milks m
 let f:=W9 b m
 if c.water.hi < w.lo\/c.fat.hi < f.lo then (VB,2)
 else (⟨U7 b.full c.water w m.drinks,U7 b.fed c.fat f m.grass,Za2 b c.sore m,c.milks⟩,if c.water.lo ≥ w.hi/\c.fat.lo ≥ f.hi then 0 else 1)
theorem Zcf {b:Breed} {k:Bool} {m:March} (hb:ZZ b=true) (hm:ZR m=true):0<=(WF b k m).lo/\(WF b k m).lo<=1000000000/\0<=(WF b k m).hi/\(WF b k m).hi<=1000000000:=by
 have h:=Go.Proofs.YtkpkgafhfakpdaaGreatDoor.Cm.breed_bd hb;have h2:=Go.Proofs.YtkpkgafhfakpdaaGreatDoor.Cm.march_bd hm;have q1:=Go.Proofs.YtkpkgafhfakpdaaGreatDoor.Cm.toil_bd (x:=b.toil.lo) hm (by omega) (by omega);have q2:=Go.Proofs.YtkpkgafhfakpdaaGreatDoor.Cm.toil_bd (x:=b.toil.hi) hm (by omega) (by omega);have q3:=Go.Proofs.YtkpkgafhfakpdaaGreatDoor.Cm.heat_bd (x:=b.heat.lo) (y:=m.heat.lo) (by omega) (by omega) (by omega) (by omega)
 have q4:=Go.Proofs.YtkpkgafhfakpdaaGreatDoor.Cm.heat_bd (x:=b.heat.hi) (y:=m.heat.hi) (by omega) (by omega) (by omega) (by omega);have r1:0<=(b.toil.lo * Ys m).tdiv 100000/\(b.toil.lo * Ys m).tdiv 100000<=26400000:=by
  rw [Int.tdiv_eq_ediv_of_nonneg q1.1];omega
 have r2:0<=upF (b.toil.hi * Ys m) 100000/\upF (b.toil.hi * Ys m) 100000<=26400001:=by
  unfold upF;rw [Int.tdiv_eq_ediv_of_nonneg (by omega)];omega
 simp only [WF];cases k<;>simp<;>omega
theorem Zb5 {b:Breed} {m:March} (hb:ZZ b=true) (hm:ZR m=true):0<=(W9 b m).lo/\(W9 b m).lo<=1000000000/\0<=(W9 b m).hi/\(W9 b m).hi<=1000000000:=by
 have h:=Go.Proofs.YtkpkgafhfakpdaaGreatDoor.Cm.breed_bd hb;have q1:=Go.Proofs.YtkpkgafhfakpdaaGreatDoor.Cm.toil_bd (x:=b.burn.lo) hm (by omega) (by omega);have q2:=Go.Proofs.YtkpkgafhfakpdaaGreatDoor.Cm.toil_bd (x:=b.burn.hi) hm (by omega) (by omega);have r1:0<=(b.burn.lo * Ys m).tdiv 100000/\(b.burn.lo * Ys m).tdiv 100000<=26400000:=by
  rw [Int.tdiv_eq_ediv_of_nonneg q1.1];omega
 have r2:0<=upF (b.burn.hi * Ys m) 100000/\upF (b.burn.hi * Ys m) 100000<=26400001:=by
  unfold upF;rw [Int.tdiv_eq_ediv_of_nonneg (by omega)];omega
 simp only [W9];omega
end Go.Azalai
namespace Go.Proofs.YtkpkgafhfakpdaaGreatDoor.Cm
open Go Go.Sx Go.Azalai
theorem Zq9 (b:Breed) (c:Camel) (m:March) (hb:ZZ b=true) (hc:Yc b c=true) (hm:ZR m=true) (hd:(Yq b c m).2≠2) :
 Ct Tryz.prog 57 [.agg (Z4 b c),.agg (Z5 m)] (.tup [.agg (Z4 b (Yq b c m).1),.v (.int .u8 (Yq b c m).2)]):=by
 have h1:=breed_bd hb;have h2:=camel_bd hb hc;have h3:=march_bd hm;have w1:=Zcf (k:=c.milks) hb hm;have w2:=Zb5 hb hm;have k0:=VT (a:=m.hours) (b:=m.load) (A:=24) (B:=1000000) (by omega) (by omega) (by omega) (by omega);have k1:=VT (a:=b.rub.lo) (b:=m.hours * m.load) (A:=100000) (B:=24000000) (by omega) (by omega) (by omega) (by omega);have k2:=VT (a:=b.rub.hi) (b:=m.hours * m.load) (A:=100000) (B:=24000000) (by omega) (by omega) (by omega) (by omega)
 have k3:=Wy k1.1 k1.2 (d:=1000000) (by omega);have k4:=Zje k2.1 k2.2 (d:=1000000) (by omega);refine t57.1 (by simp [Z4,Z5]) (by simp [Z4]) ?_;dsimp only [c57,r57,Z4,Z5,go_sem];refine call (ZkE b c.milks m hb hm) ?_;dsimp only [go_sem];generalize hW:WF b c.milks m=W at w1;generalize hF:W9 b m=F at w2;have hd':W.lo<=c.water.hi/\F.lo<=c.fat.hi:=by
  by_cases h:c.water.hi < W.lo\/c.fat.hi < F.lo
  . exact absurd (by simp only [Yq,hW,hF,if_pos h]) hd
  . omega
 clear hd;have k5:=VT (a:=b.rub.hi) (b:=m.hours) (A:=100000) (B:=24) (by omega) (by omega) (by omega) (by omega);have k6:b.rub.hi * m.hours * m.load<=100000000000000:=by rw [Int.mul_assoc];omega
 have hd0:¬ (c.water.hi < W.lo\/c.fat.hi < F.lo):=by omega
 by_cases hp:c.water.lo < W.hi<;>by_cases hq:c.fat.lo < F.hi
 . refine ZU 3 ?_;dsimp only [Zc,go_sem];refine Zt (by decide) ?_;dsimp only [Zc,go_sem];repeat (first | (refine ixa 0 rfl (by decide) ?_;dsimp only [Zc,go_sem]) | (refine Zn (by simp;omega) ?_;dsimp only [Zc,go_sem]) | (refine Zt (by simp;omega) ?_;dsimp only [Zc,go_sem]))
   simp (disch:=omega) only [Zf];refine call (W6 ⟨max 0 (c.water.lo - W.hi),c.water.hi - W.lo⟩ m.drinks _ (by unfold bdS;simp only;omega) (by unfold bdS;omega)) ?_;dsimp only [Zc,Zh,go_sem];repeat (first | (refine ixa 0 rfl (by decide) ?_;dsimp only [Zc,go_sem]) | (refine Zn (by simp;omega) ?_;dsimp only [Zc,go_sem]) | (refine Zt (by simp;omega) ?_;dsimp only [Zc,go_sem]))
   simp (disch:=omega) only [Zf];refine Zt (by decide) ?_;dsimp only [Zc,go_sem];repeat (first | (refine ixa 1 rfl (by decide) ?_;dsimp only [Zc,go_sem]) | (refine Zn (by simp;omega) ?_;dsimp only [Zc,go_sem]) | (refine Zt (by simp;omega) ?_;dsimp only [Zc,go_sem]))
   simp (disch:=omega) only [Zf];refine call (W6 ⟨max 0 (c.fat.lo - F.hi),c.fat.hi - F.lo⟩ m.grass _ (by unfold bdS;simp only;omega) (by unfold bdS;omega)) ?_;dsimp only [Zc,Zh,go_sem];repeat (first | (refine ixa 1 rfl (by decide) ?_;dsimp only [Zc,go_sem]) | (refine Zn (by simp;omega) ?_;dsimp only [Zc,go_sem]) | (refine Zt (by simp;omega) ?_;dsimp only [Zc,go_sem]))
   refine Zn (by decide) ?_;dsimp only [go_sem];have e:(if c.water.lo ≥ W.hi/\c.fat.lo ≥ F.hi then (0:Int) else 1)=1:=if_neg (by omega);by_cases hz:m.hours=0
   . refine Zt (by simpa using hz) ?_;dsimp only [go_sem];simp (disch:=omega) only [Zf];simp only [Yq,hW,hF,if_neg hd0,U7,Za2,Z4,e,if_pos hz]
   . refine Zn (by simpa using hz) ?_;dsimp only [go_sem];refine call (V3 b.rub 1000000 m.hours m.load 0 _ (by omega) (by omega) (by omega) (by omega) (by omega) k6 (by omega) (by omega)) ?_;dsimp only [Zh,go_sem];simp only [Int.mul_assoc];refine call (W6 c.sore ⟨(b.rub.lo * (m.hours * m.load)).tdiv 1000000,upF (b.rub.hi * (m.hours * m.load)) 1000000⟩ _ (by unfold bdS;omega) (by unfold bdS;simp only;omega)) ?_
     dsimp only [Zh,go_sem];simp only [Yq,hW,hF,if_neg hd0,U7,Za2,Z4,e,if_neg hz]
 . refine ZU 3 ?_;dsimp only [Zc,go_sem];refine Zt (by decide) ?_;dsimp only [Zc,go_sem];repeat (first | (refine ixa 0 rfl (by decide) ?_;dsimp only [Zc,go_sem]) | (refine Zn (by simp;omega) ?_;dsimp only [Zc,go_sem]) | (refine Zt (by simp;omega) ?_;dsimp only [Zc,go_sem]))
   simp (disch:=omega) only [Zf];refine call (W6 ⟨max 0 (c.water.lo - W.hi),c.water.hi - W.lo⟩ m.drinks _ (by unfold bdS;simp only;omega) (by unfold bdS;omega)) ?_;dsimp only [Zc,Zh,go_sem];repeat (first | (refine ixa 0 rfl (by decide) ?_;dsimp only [Zc,go_sem]) | (refine Zn (by simp;omega) ?_;dsimp only [Zc,go_sem]) | (refine Zt (by simp;omega) ?_;dsimp only [Zc,go_sem]))
   simp (disch:=omega) only [Zf];refine Zt (by decide) ?_;dsimp only [Zc,go_sem];repeat (first | (refine ixa 1 rfl (by decide) ?_;dsimp only [Zc,go_sem]) | (refine Zn (by simp;omega) ?_;dsimp only [Zc,go_sem]) | (refine Zt (by simp;omega) ?_;dsimp only [Zc,go_sem]))
   simp (disch:=omega) only [Zf];refine call (W6 ⟨max 0 (c.fat.lo - F.hi),c.fat.hi - F.lo⟩ m.grass _ (by unfold bdS;simp only;omega) (by unfold bdS;omega)) ?_;dsimp only [Zc,Zh,go_sem];repeat (first | (refine ixa 1 rfl (by decide) ?_;dsimp only [Zc,go_sem]) | (refine Zn (by simp;omega) ?_;dsimp only [Zc,go_sem]) | (refine Zt (by simp;omega) ?_;dsimp only [Zc,go_sem]))
   refine Zn (by decide) ?_;dsimp only [go_sem];have e:(if c.water.lo ≥ W.hi/\c.fat.lo ≥ F.hi then (0:Int) else 1)=1:=if_neg (by omega);by_cases hz:m.hours=0
   . refine Zt (by simpa using hz) ?_;dsimp only [go_sem];simp (disch:=omega) only [Zf];simp only [Yq,hW,hF,if_neg hd0,U7,Za2,Z4,e,if_pos hz]
   . refine Zn (by simpa using hz) ?_;dsimp only [go_sem];refine call (V3 b.rub 1000000 m.hours m.load 0 _ (by omega) (by omega) (by omega) (by omega) (by omega) k6 (by omega) (by omega)) ?_;dsimp only [Zh,go_sem];simp only [Int.mul_assoc];refine call (W6 c.sore ⟨(b.rub.lo * (m.hours * m.load)).tdiv 1000000,upF (b.rub.hi * (m.hours * m.load)) 1000000⟩ _ (by unfold bdS;omega) (by unfold bdS;simp only;omega)) ?_
     dsimp only [Zh,go_sem];simp only [Yq,hW,hF,if_neg hd0,U7,Za2,Z4,e,if_neg hz]
 . refine ZU 3 ?_;dsimp only [Zc,go_sem];refine Zt (by decide) ?_;dsimp only [Zc,go_sem];repeat (first | (refine ixa 0 rfl (by decide) ?_;dsimp only [Zc,go_sem]) | (refine Zn (by simp;omega) ?_;dsimp only [Zc,go_sem]) | (refine Zt (by simp;omega) ?_;dsimp only [Zc,go_sem]))
   simp (disch:=omega) only [Zf];refine call (W6 ⟨max 0 (c.water.lo - W.hi),c.water.hi - W.lo⟩ m.drinks _ (by unfold bdS;simp only;omega) (by unfold bdS;omega)) ?_;dsimp only [Zc,Zh,go_sem];repeat (first | (refine ixa 0 rfl (by decide) ?_;dsimp only [Zc,go_sem]) | (refine Zn (by simp;omega) ?_;dsimp only [Zc,go_sem]) | (refine Zt (by simp;omega) ?_;dsimp only [Zc,go_sem]))
   simp (disch:=omega) only [Zf];refine Zt (by decide) ?_;dsimp only [Zc,go_sem];repeat (first | (refine ixa 1 rfl (by decide) ?_;dsimp only [Zc,go_sem]) | (refine Zn (by simp;omega) ?_;dsimp only [Zc,go_sem]) | (refine Zt (by simp;omega) ?_;dsimp only [Zc,go_sem]))
   simp (disch:=omega) only [Zf];refine call (W6 ⟨max 0 (c.fat.lo - F.hi),c.fat.hi - F.lo⟩ m.grass _ (by unfold bdS;simp only;omega) (by unfold bdS;omega)) ?_;dsimp only [Zc,Zh,go_sem];repeat (first | (refine ixa 1 rfl (by decide) ?_;dsimp only [Zc,go_sem]) | (refine Zn (by simp;omega) ?_;dsimp only [Zc,go_sem]) | (refine Zt (by simp;omega) ?_;dsimp only [Zc,go_sem]))
   refine Zn (by decide) ?_;dsimp only [go_sem];have e:(if c.water.lo ≥ W.hi/\c.fat.lo ≥ F.hi then (0:Int) else 1)=1:=if_neg (by omega);by_cases hz:m.hours=0
   . refine Zt (by simpa using hz) ?_;dsimp only [go_sem];simp (disch:=omega) only [Zf];simp only [Yq,hW,hF,if_neg hd0,U7,Za2,Z4,e,if_pos hz]
   . refine Zn (by simpa using hz) ?_;dsimp only [go_sem];refine call (V3 b.rub 1000000 m.hours m.load 0 _ (by omega) (by omega) (by omega) (by omega) (by omega) k6 (by omega) (by omega)) ?_;dsimp only [Zh,go_sem];simp only [Int.mul_assoc];refine call (W6 c.sore ⟨(b.rub.lo * (m.hours * m.load)).tdiv 1000000,upF (b.rub.hi * (m.hours * m.load)) 1000000⟩ _ (by unfold bdS;omega) (by unfold bdS;simp only;omega)) ?_
     dsimp only [Zh,go_sem];simp only [Yq,hW,hF,if_neg hd0,U7,Za2,Z4,e,if_neg hz]
 . refine ZU 3 ?_;dsimp only [Zc,go_sem];refine Zt (by decide) ?_;dsimp only [Zc,go_sem];repeat (first | (refine ixa 0 rfl (by decide) ?_;dsimp only [Zc,go_sem]) | (refine Zn (by simp;omega) ?_;dsimp only [Zc,go_sem]) | (refine Zt (by simp;omega) ?_;dsimp only [Zc,go_sem]))
   simp (disch:=omega) only [Zf];refine call (W6 ⟨max 0 (c.water.lo - W.hi),c.water.hi - W.lo⟩ m.drinks _ (by unfold bdS;simp only;omega) (by unfold bdS;omega)) ?_;dsimp only [Zc,Zh,go_sem];repeat (first | (refine ixa 0 rfl (by decide) ?_;dsimp only [Zc,go_sem]) | (refine Zn (by simp;omega) ?_;dsimp only [Zc,go_sem]) | (refine Zt (by simp;omega) ?_;dsimp only [Zc,go_sem]))
   simp (disch:=omega) only [Zf];refine Zt (by decide) ?_;dsimp only [Zc,go_sem];repeat (first | (refine ixa 1 rfl (by decide) ?_;dsimp only [Zc,go_sem]) | (refine Zn (by simp;omega) ?_;dsimp only [Zc,go_sem]) | (refine Zt (by simp;omega) ?_;dsimp only [Zc,go_sem]))
   simp (disch:=omega) only [Zf];refine call (W6 ⟨max 0 (c.fat.lo - F.hi),c.fat.hi - F.lo⟩ m.grass _ (by unfold bdS;simp only;omega) (by unfold bdS;omega)) ?_;dsimp only [Zc,Zh,go_sem];repeat (first | (refine ixa 1 rfl (by decide) ?_;dsimp only [Zc,go_sem]) | (refine Zn (by simp;omega) ?_;dsimp only [Zc,go_sem]) | (refine Zt (by simp;omega) ?_;dsimp only [Zc,go_sem]))
   refine Zn (by decide) ?_;dsimp only [go_sem];have e:(if c.water.lo ≥ W.hi/\c.fat.lo ≥ F.hi then (0:Int) else 1)=0:=if_pos (by omega);by_cases hz:m.hours=0
   . refine Zt (by simpa using hz) ?_;dsimp only [go_sem];simp (disch:=omega) only [Zf];simp only [Yq,hW,hF,if_neg hd0,U7,Za2,Z4,e,if_pos hz]
   . refine Zn (by simpa using hz) ?_;dsimp only [go_sem];refine call (V3 b.rub 1000000 m.hours m.load 0 _ (by omega) (by omega) (by omega) (by omega) (by omega) k6 (by omega) (by omega)) ?_;dsimp only [Zh,go_sem];simp only [Int.mul_assoc];refine call (W6 c.sore ⟨(b.rub.lo * (m.hours * m.load)).tdiv 1000000,upF (b.rub.hi * (m.hours * m.load)) 1000000⟩ _ (by unfold bdS;omega) (by unfold bdS;simp only;omega)) ?_
     dsimp only [Zh,go_sem];simp only [Yq,hW,hF,if_neg hd0,U7,Za2,Z4,e,if_neg hz]
end Go.Proofs.YtkpkgafhfakpdaaGreatDoor.Cm
namespace Go.Azalai
def Xz (b:Breed) (load:Int) (c:Camel):List March->Bool
 | []=>true
 | m :: r=>if m.hours > 0/\load > (Zel b c).lo then false else if (Yq b c { m with load:=load }).2≠0 then false else Xz b load (Yq b c { m with load:=load }).1 r
theorem Zdw {x y d:Int} (hd:1<=d) (h0:0<=x) (h:x<=y):x.tdiv d<=upF y d:=by
 unfold upF;rw [Int.tdiv_eq_ediv_of_nonneg h0,Int.tdiv_eq_ediv_of_nonneg (by omega)];exact Int.ediv_le_ediv (by omega) (by omega)
theorem ZoO {b:Breed} {k:Bool} {m:March} (hb:ZZ b=true) (hm:ZR m=true):(WF b k m).lo<=(WF b k m).hi:=by
 have h:=Go.Proofs.YtkpkgafhfakpdaaGreatDoor.Cm.breed_bd hb;have h2:=Go.Proofs.YtkpkgafhfakpdaaGreatDoor.Cm.march_bd hm;have hw:=Go.Proofs.YtkpkgafhfakpdaaGreatDoor.Cm.work_bd hm;have q1:(b.toil.lo * Ys m).tdiv 100000<=upF (b.toil.hi * Ys m) 100000:=Zdw (by omega) (Int.mul_nonneg (by omega) hw.1) (Int.mul_le_mul_of_nonneg_right (by omega) hw.1);have q2:b.heat.lo * max 0 (m.heat.lo - 20)<=b.heat.hi * max 0 (m.heat.hi - 20):=Int.mul_le_mul (by omega) (by omega) (by omega) (by omega)
 simp only [WF];cases k<;>simp<;>omega
theorem Zk2 {b:Breed} {m:March} (hb:ZZ b=true) (hm:ZR m=true):(W9 b m).lo<=(W9 b m).hi:=by
 have h:=Go.Proofs.YtkpkgafhfakpdaaGreatDoor.Cm.breed_bd hb;have hw:=Go.Proofs.YtkpkgafhfakpdaaGreatDoor.Cm.work_bd hm;exact Zdw (by omega) (Int.mul_nonneg (by omega) hw.1) (Int.mul_le_mul_of_nonneg_right (by omega) hw.1)
theorem Zoc {b:Breed} {c:Camel} {m:March} (hb:ZZ b=true) (hc:Yc b c=true) (hm:ZR m=true) (hd:(Yq b c m).2≠2):Yc b (Yq b c m).1=true:=by
 have h1:=Go.Proofs.YtkpkgafhfakpdaaGreatDoor.Cm.breed_bd hb;have h2:=Go.Proofs.YtkpkgafhfakpdaaGreatDoor.Cm.camel_bd hb hc;have h3:=Go.Proofs.YtkpkgafhfakpdaaGreatDoor.Cm.march_bd hm;have w1:=Zcf (k:=c.milks) hb hm;have w2:=Zb5 hb hm;have hlo:(WF b c.milks m).lo<=(WF b c.milks m).hi:=ZoO hb hm;have hlf:(W9 b m).lo<=(W9 b m).hi:=Zk2 hb hm;have hr:(b.rub.lo * (m.hours * m.load)).tdiv 1000000<=upF (b.rub.hi * (m.hours * m.load)) 1000000 :=
  Zdw (by omega) (Int.mul_nonneg (by omega) (Int.mul_nonneg (by omega) (by omega))) (Int.mul_le_mul_of_nonneg_right (by omega) (Int.mul_nonneg (by omega) (by omega)))
 have hr0:0<=(b.rub.lo * (m.hours * m.load)).tdiv 1000000 :=
  Int.tdiv_nonneg (Int.mul_nonneg (by omega) (Int.mul_nonneg (by omega) (by omega))) (by omega)
 unfold Yq at hd ⊢;simp only at hd ⊢;split at hd
 . exact absurd rfl hd
 . rename_i h;rw [if_neg h];simp only [Yc,Z8,U7,Za2,Bool.and_eq_true,decide_eq_true_eq];by_cases hz:m.hours=0
   . simp only [if_pos hz,Bool.and_eq_true,decide_eq_true_eq];refine ⟨⟨decide_eq_true ⟨by omega,by omega,by omega⟩,decide_eq_true ⟨by omega,by omega,by omega⟩⟩,by omega,by omega,by omega⟩
   . simp only [if_neg hz,Bool.and_eq_true,decide_eq_true_eq];refine ⟨⟨decide_eq_true ⟨by omega,by omega,by omega⟩,decide_eq_true ⟨by omega,by omega,by omega⟩⟩,by omega,by omega,by omega⟩
end Go.Azalai
namespace Go.Proofs.YtkpkgafhfakpdaaGreatDoor.Cm
open Go Go.Sx Go.Azalai
end Go.Proofs.YtkpkgafhfakpdaaGreatDoor.Cm
namespace Go.Azalai
def Ws (g:Int->Bool):Nat->Int->Int->Int
 | 0,lo,_=>lo
 | n+1,lo,hi=>if lo < hi then (if g ((lo+hi+1).tdiv 2) then Ws g n ((lo+hi+1).tdiv 2) hi else Ws g n lo ((lo+hi+1).tdiv 2 - 1)) else lo
def ZaF (b:Breed) (c:Camel) (l:List March):Int × Int :=
 if Zrd b c l≠0 then (0,Zrd b c l) else if Xz b 0 c l=false then (0,13) else (Ws (λn=>Xz b n c l) 2000000 0 1000000,0)
theorem X8 {g:Int->Bool}:∀ (n m:Nat) (lo hi:Int),0<=lo->hi - lo<=n->n<=m->Ws g m lo hi=Ws g n lo hi
 | 0,0,lo,hi,_,_,_=>rfl
 | 0,m+1,lo,hi,_,h,_=>by simp only [Ws];rw [if_neg (by omega)]
 | n+1,0,lo,hi,_,_,h=>by omega
 | n+1,m+1,lo,hi,h0,h,hm=>by
  simp only [Ws];split
  . rename_i hlt;have e:(lo+hi+1).tdiv 2=(lo+hi+1) / 2:=Int.tdiv_eq_ediv_of_nonneg (by omega);rw [e];rw [X8 n m _ hi (by omega) (by omega) (by omega),X8 n m lo _ (by omega) (by omega) (by omega)]
  . rfl
end Go.Azalai
namespace Go.Proofs.YtkpkgafhfakpdaaGreatDoor.Cm
open Go Go.Sx Go.Azalai
theorem ZdQ (f:Nat) (caps:List SV) (hk:KFL caps) (g:Int->Bool) (hg:∀ n,inR 0 1000000 n=true->Ct Tryz.prog f (I n :: caps) (B (g n))):Ct Tryz.prog 58 [I 0,I 1000000,.cl f caps] (I (Ws g 2000000 0 1000000)):=by
 refine t58.1 (by simp [KFL,KF,hk]) (by simp) ?_;dsimp only [c58,r58,go_sem];refine Yb (λs:Int × Int=>[(0,I s.1),(1,I s.2)]) (λ_=>[]) (λs=>0<=s.1/\s.1<=s.2/\s.2<=1000000/\Ws g 2000000 s.1 s.2=Ws g 2000000 0 1000000) (λs=>(s.2 - s.1).toNat) (0,1000000) ⟨by decide,by decide,by decide,rfl⟩ ?_ ?_
 . (refine Zi ?_ ?_ ?_ rfl rfl<;>dsimp only [hk,id,go_sem]<;>simp [hk,Za])
 rintro ⟨lo,hi⟩ ⟨g1,g2,g3,g4⟩;simp only at g1 g2 g3 g4;dsimp only [go_sem];by_cases hlt:lo < hi
 . refine Zt (by simpa using hlt) ?_;dsimp only [go_sem];simp (disch:=omega) only [Zf];have e:(lo+hi+1).tdiv 2=(lo+hi+1) / 2:=Int.tdiv_eq_ediv_of_nonneg (by omega);have g5:Ws g 2000000 lo hi=if g ((lo+hi+1).tdiv 2) then Ws g 2000000 ((lo+hi+1).tdiv 2) hi else Ws g 2000000 lo ((lo+hi+1).tdiv 2 - 1):=by
    rw [<- X8 2000000 2000001 lo hi g1 (by omega) (by omega)];rw [Ws,if_pos hlt]
   rw [g4] at g5;refine Zcq (by decide) ?_;dsimp only [go_sem];have e2:(hi - lo).tdiv 2=(hi - lo) / 2:=Int.tdiv_eq_ediv_of_nonneg (by omega);have e3:hi - (hi - lo) / 2=(lo+hi+1) / 2:=by omega
   simp only [e] at g5;simp only [e2];rw [Zf (n:=(hi - lo) / 2) (by omega) (by omega),Zf (n:=hi - (hi - lo) / 2) (by omega) (by omega),e3];refine call (hg ((lo+hi+1) / 2) (by simp only [inR,decide_eq_true_eq];omega)) ?_;dsimp only [go_sem];refine br ?_ ?_
   . intro hb1;dsimp only [go_sem];rw [if_pos hb1] at g5;refine ⟨((lo+hi+1) / 2,hi),⟨by simp only;omega,by simp only;omega,by simp only;omega,g5.symm⟩,by simp only;omega,?_⟩;(refine Zi ?_ ?_ ?_ rfl rfl<;>dsimp only [hk,id,go_sem]<;>simp [hk,Za])
   . intro hb1;dsimp only [go_sem];simp (disch:=omega) only [Zf];rw [if_neg (by simpa using hb1)] at g5;refine ⟨(lo,(lo+hi+1) / 2 - 1),⟨by simp only;omega,by simp only;omega,by simp only;omega,g5.symm⟩,by simp only;omega,?_⟩;(refine Zi ?_ ?_ ?_ rfl rfl<;>dsimp only [hk,id,go_sem]<;>simp [hk,Za])
 refine Zn (by simp;omega) ?_;dsimp only [go_sem];have:Ws g 2000000 lo hi=lo:=by
  rw [<- X8 2000000 2000001 lo hi g1 (by omega) (by omega),Ws,if_neg hlt]
 rw [<- g4,this]
theorem ZeA (b:Breed) (c:Camel) (m:March) (hb:ZZ b=true) (hc:Yc b c=true) (hm:ZR m=true) (hd:(Yq b c m).2=2) :
 Ct Tryz.prog 57 [.agg (Z4 b c),.agg (Z5 m)] (.tup [.agg (Z4 ⟨0,0,⟨0,0⟩,⟨0,0⟩,⟨0,0⟩,⟨0,0⟩,⟨0,0⟩,⟨0,0⟩,0,⟨0,0⟩⟩ VB),.v (.int .u8 2)]):=by
 have h1:=breed_bd hb;have h2:=camel_bd hb hc;have h3:=march_bd hm;have w1:=Zcf (k:=c.milks) hb hm;have w2:=Zb5 hb hm;refine t57.1 (by simp [Z4,Z5]) (by simp [Z4,VB]) ?_;dsimp only [c57,r57,Z4,Z5,go_sem];refine call (ZkE b c.milks m hb hm) ?_;dsimp only [go_sem];generalize hW:WF b c.milks m=W at w1;generalize hF:W9 b m=F at w2;have hd':c.water.hi < W.lo\/c.fat.hi < F.lo:=by
  by_cases h:c.water.hi < W.lo\/c.fat.hi < F.lo
  . exact h
  . simp only [Yq,hW,hF,if_neg h] at hd;split at hd<;>cases hd
 by_cases hw:c.water.hi < W.lo
 . refine ZU 3 ?_;dsimp only [Zc,go_sem];refine Zt (by decide) ?_;dsimp only [Zc,go_sem];repeat (first | (refine ixa 0 rfl (by decide) ?_;dsimp only [Zc,go_sem]) | (refine Zt (by simp;omega) ?_;dsimp only [Zc,VB,go_sem]))
 . have hf:c.fat.hi < F.lo:=by omega
   by_cases hp:c.water.lo < W.hi
   . refine ZU 3 ?_;dsimp only [Zc,go_sem];refine Zt (by decide) ?_;dsimp only [Zc,go_sem];repeat (first | (refine ixa 0 rfl (by decide) ?_;dsimp only [Zc,go_sem]) | (refine Zn (by simp;omega) ?_;dsimp only [Zc,go_sem]) | (refine Zt (by simp;omega) ?_;dsimp only [Zc,go_sem]))
     simp (disch:=omega) only [Zf];refine call (W6 ⟨max 0 (c.water.lo - W.hi),c.water.hi - W.lo⟩ m.drinks _ (by unfold bdS;simp only;omega) (by unfold bdS;omega)) ?_;dsimp only [Zc,Zh,go_sem];repeat (first | (refine ixa 0 rfl (by decide) ?_;dsimp only [Zc,go_sem]) | (refine Zn (by simp;omega) ?_;dsimp only [Zc,go_sem]) | (refine Zt (by simp;omega) ?_;dsimp only [Zc,go_sem]))
     simp (disch:=omega) only [Zf];refine Zt (by decide) ?_;dsimp only [Zc,go_sem];repeat (first | (refine ixa 1 rfl (by decide) ?_;dsimp only [Zc,go_sem]) | (refine Zt (by simp;omega) ?_;dsimp only [Zc,VB,go_sem]))
   . refine ZU 3 ?_;dsimp only [Zc,go_sem];refine Zt (by decide) ?_;dsimp only [Zc,go_sem];repeat (first | (refine ixa 0 rfl (by decide) ?_;dsimp only [Zc,go_sem]) | (refine Zn (by simp;omega) ?_;dsimp only [Zc,go_sem]) | (refine Zt (by simp;omega) ?_;dsimp only [Zc,go_sem]))
     simp (disch:=omega) only [Zf];refine call (W6 ⟨max 0 (c.water.lo - W.hi),c.water.hi - W.lo⟩ m.drinks _ (by unfold bdS;simp only;omega) (by unfold bdS;omega)) ?_;dsimp only [Zc,Zh,go_sem];repeat (first | (refine ixa 0 rfl (by decide) ?_;dsimp only [Zc,go_sem]) | (refine Zn (by simp;omega) ?_;dsimp only [Zc,go_sem]) | (refine Zt (by simp;omega) ?_;dsimp only [Zc,go_sem]))
     simp (disch:=omega) only [Zf];refine Zt (by decide) ?_;dsimp only [Zc,go_sem];repeat (first | (refine ixa 1 rfl (by decide) ?_;dsimp only [Zc,go_sem]) | (refine Zt (by simp;omega) ?_;dsimp only [Zc,VB,go_sem]))
theorem ZlP (b:Breed) (c:Camel) (l:List March) (load:Int) (hb:ZZ b=true) (hc:Yc b c=true) (hl:l.all ZR=true) (h60:l.length<=60) (h0:inR 0 1000000 load=true) (k:Bool) :
 Ct Tryz.prog 55 [I load,.ps (breedL b) 0,.ps (camelL c) 0,.ps [.sl k 8 (l.map Z5)] 0] (B (Xz b load c l)):=by
 have hbd:=breed_bd hb;have hlo:=h0;simp only [inR,decide_eq_true_eq] at hlo;have hall:=List.all_eq_true.1 hl;refine t55.1 (by simp [breedL,camelL,Z5,Za]) (by simp) ?_;dsimp only [c55,r55,breedL,camelL,go_sem];refine Yb (λs:Nat × Camel=>[(16,I s.1)]) (λs=>[(0,.cells (Z4 b s.2) 128)]) (λs=>s.1<=l.length/\Yc b s.2=true/\Xz b load s.2 (l.drop s.1)=Xz b load c l) (λs=>l.length - s.1) (0,c) ⟨Nat.zero_le _,hc,rfl⟩ ?_ ?_
 . (refine Zi ?_ ?_ ?_ rfl rfl<;>dsimp only [breedL,camelL,Z5,Z4,id,go_sem]<;>simp [breedL,camelL,Z5,Z4,Za])
 rintro ⟨j,c1⟩ ⟨hj,hc1,hi⟩;simp only at hj hc1 hi;dsimp only [Z4,go_sem];simp only [List.length_map];by_cases hlt:j < l.length
 . refine Zt (by simpa using hlt) ?_;dsimp only [go_sem];rw [List.drop_eq_getElem_cons hlt,Xz] at hi;have hm:=hall l[j] (List.getElem_mem _);have hm':ZR { l[j] with load:=load }=true:=by
    simp only [ZR,Bool.and_eq_true] at hm ⊢;exact ⟨⟨⟨⟨hm.1.1.1.1,h0⟩,hm.1.1.2⟩,hm.1.2⟩,hm.2⟩
   refine Zx j hlt rfl ?_;dsimp only [Z5,go_sem];repeat (first | (refine gb ?_;dsimp only [go_sem]) | (refine call (ZqX b c1 hb hc1) ?_;dsimp only [Zh,go_sem]))
   by_cases hcar:l[j].hours > 0/\load > (Zel b c1).lo
   case pos =>
    refine Zt (by grind) ?_;dsimp only [go_sem];rw [if_pos hcar] at hi;rw [<- hi]
   refine Zn (by grind) ?_;dsimp only [go_sem];rw [if_neg hcar] at hi;by_cases hf2:(Yq b c1 { l[j] with load:=load }).2=2
   . refine call (ZeA b c1 { l[j] with load:=load } hb hc1 hm' hf2) ?_;dsimp only [Z4,VB,go_sem];refine Zt (by decide) ?_;dsimp only [go_sem];rw [if_pos (by rw [hf2];decide)] at hi;rw [<- hi]
   refine call (Zq9 b c1 { l[j] with load:=load } hb hc1 hm' hf2) ?_;dsimp only [Z4,go_sem];by_cases hf0:(Yq b c1 { l[j] with load:=load }).2=0
   case neg =>
    refine Zt (by simpa using hf0) ?_;dsimp only [go_sem];rw [if_pos hf0] at hi;rw [<- hi]
   refine Zn (by simpa using hf0) ?_;dsimp only [go_sem];rw [if_neg (by simpa using hf0)] at hi;rw [Zf (n:=(j:Int)+1) (by omega) (by omega)];refine ⟨(j+1,(Yq b c1 { l[j] with load:=load }).1),⟨hlt,Zoc hb hc1 hm' hf2,hi⟩,by simp only;omega,?_⟩;(refine Zi ?_ ?_ ?_ rfl rfl<;>dsimp only [breedL,camelL,Z5,Z4,id,go_sem]<;>simp [breedL,camelL,Z5,Z4,Za])
 refine Zn (by simp;omega) ?_;dsimp only [go_sem];have hje:j=l.length:=by omega
 subst hje;rw [List.drop_length,Xz] at hi;rw [<- hi]
theorem heavy_ok (b:Breed) (c:Camel) (l:List March) (k:Bool) (hl:l.length<=1000):Ct Tryz.prog 11 [.agg (breedL b),.agg (camelL c),.sl k 8 (l.map Z5)] (.tup [I (ZaF b c l).1,I (ZaF b c l).2]):=by
 refine t11.1 (by simp [breedL,camelL,Z5,Za]) (by simp) ?_;dsimp only [c11,r11,breedL,camelL,go_sem];refine call (Vv b c l (by omega) k) ?_;dsimp only [go_sem];by_cases h0:Zrd b c l=0
 case neg =>
  refine Zt (by simpa using h0) ?_;dsimp only [go_sem];simp [ZaF,h0]
 refine Zn (by simpa using h0) ?_;dsimp only [go_sem];have hq:ZZ b=true/\Yc b c=true/\l.length<=60/\l.all ZR=true:=by
  unfold Zrd at h0;by_cases e1:Zau b c=0
  . obtain ⟨q1,q2⟩:=Zjk.1 e1;by_cases e2:l.length > 60
    . simp [e1,e2] at h0
    . by_cases e3:l.all ZR=true
      . exact ⟨q1,q2,by omega,e3⟩
      . simp only [e1,e2] at h0;simp at e3 h0;grind
  . simp [e1] at h0
 obtain ⟨q1,q2,q3,q4⟩:=hq;have hbear:∀ n,inR 0 1000000 n=true->Ct Tryz.prog 55 [I n,.ps (breedL b) 0,.ps (camelL c) 0,.ps [.sl k 8 (l.map Z5)] 0] (B (Xz b n c l)):=λn hn=>ZlP b c l n q1 q2 q4 q3 hn k;refine Xi (by simp [FLT]) (res:=B (Xz b 0 c l)) ?_ ?_
 . dsimp only [go_sem];exact hbear 0 (by decide)
 dsimp only [go_sem];by_cases hb0:Xz b 0 c l=true
 case neg =>
  refine Zt (by simpa using hb0) ?_;dsimp only [go_sem];have:Xz b 0 c l=false:=by simpa using hb0
  simp [ZaF,h0,this]
 refine Zn (by simp [hb0]) ?_;dsimp only [go_sem];have hh:ZaF b c l=(Ws (λn=>Xz b n c l) 2000000 0 1000000,0):=by simp [ZaF,h0,hb0]
 rw [hh];refine Xi (by simp [FLT]) (res:=I (Ws (λn=>Xz b n c l) 2000000 0 1000000)) ?_ ?_
 . dsimp only [go_sem];exact ZdQ 55 [.ps (breedL b) 0,.ps (camelL c) 0,.ps [.sl k 8 (l.map Z5)] 0] (by simp [breedL,camelL,Z5,Za]) (λn=>Xz b n c l) hbear
 dsimp only [go_sem]
end Go.Proofs.YtkpkgafhfakpdaaGreatDoor.Cm
namespace Go.Azalai
def Vf (b:Breed) (c:Camel) (m:March):Camel × Int × Int :=
 if Zau b c≠0 then (VB,0,Zau b c) else if ZR m=false then (VB,0,12) else if (Yq b c m).2=2 then (VB,0,13) else ((Yq b c m).1,(Yq b c m).2,0)
end Go.Azalai
namespace Go.Proofs.YtkpkgafhfakpdaaGreatDoor.Cm
open Go Go.Sx Go.Azalai
def U8 (n:Int):SV:=.v (.int .u8 n)
theorem after1_ok (b:Breed) (c:Camel) (m:March):Ct Tryz.prog 13 [.agg (breedL b),.agg (camelL c),.agg (Z5 m)] (.tup [.agg (camelL (Vf b c m).1),U8 (Vf b c m).2.1,I (Vf b c m).2.2]):=by
 refine t13.1 (by simp [breedL,camelL,Z5]) (by simp [camelL,U8]) ?_;dsimp only [c13,r13,breedL,camelL,Z5,go_sem];refine call (Xf b c) ?_;dsimp only [go_sem];by_cases h0:Zau b c=0
 case neg =>
  refine Zt (by simpa using h0) ?_;dsimp only [go_sem];simp [Vf,h0,VB,U8,camelL]
 refine Zn (by simpa using h0) ?_;dsimp only [go_sem];obtain ⟨hb,hc⟩:=Zjk.1 h0;refine call (ZiP m true) ?_;dsimp only [go_sem];by_cases hm:ZR m=true
 case neg =>
  refine Zt (by simp [hm]) ?_;dsimp only [go_sem];simp [Vf,h0,hm,VB,U8,camelL]
 refine Zn (by simp [hm]) ?_;dsimp only [go_sem];by_cases hd:(Yq b c m).2=2
 . refine call (ZeA b c m hb hc hm hd) ?_;dsimp only [Z4,VB,go_sem];refine Zt (by decide) ?_;dsimp only [go_sem];simp [Vf,h0,hm,hd,VB,U8,camelL]
 refine call (Zq9 b c m hb hc hm hd) ?_;dsimp only [Z4,go_sem];refine Zn (by simpa using hd) ?_;dsimp only [go_sem];simp [Vf,h0,hm,hd,U8,camelL]
end Go.Proofs.YtkpkgafhfakpdaaGreatDoor.Cm
namespace Go.Azalai
structure Pack where
 kind:Int
 mass:Span
 hard:Span
 crumbs:Span
 leak:Span
 hurt:Int
 days:Int
deriving DecidableEq
structure Tied where
 left:List Int
 right:List Int
 top:List Int
deriving DecidableEq
def Va (p:Pack):Bool :=
 if p.kind=1 then Z8 1 100000 p.hard && Z8 0 1000 p.crumbs && decide (p.leak=Zy)
 else if p.kind=2 then decide (p.hard=Zy) && decide (p.crumbs=Zy) && decide (p.leak=Zy)
 else decide (p.kind=3) && decide (p.hard=Zy) && decide (p.crumbs=Zy) && Z8 0 1000000 p.leak
def ZW (p:Pack):Bool:=Z8 0 1000000 p.mass && inR 0 6000000 p.hurt && inR 0 100000 p.days && Va p
def YI (p:Pack):Span × Span × Int :=
 if p.kind=3 then (⟨max (p.mass.lo - p.leak.hi * p.days) 0,max (p.mass.hi - p.leak.lo * p.days) 0⟩,⟨min p.mass.lo (p.leak.lo * p.days),min p.mass.hi (p.leak.hi * p.days)⟩,0)
 else if p.kind=2\/p.hurt < p.hard.lo then (p.mass,Zy,0)
 else if p.hurt < p.hard.hi then (⟨(p.mass.lo * (1000 - p.crumbs.hi)).tdiv 1000,p.mass.hi⟩,⟨0,upF (p.mass.hi * p.crumbs.hi) 1000⟩,1)
 else (⟨(p.mass.lo * (1000 - p.crumbs.hi)).tdiv 1000,upF (p.mass.hi * (1000 - p.crumbs.lo)) 1000⟩,⟨(p.mass.lo * p.crumbs.lo).tdiv 1000,upF (p.mass.hi * p.crumbs.hi) 1000⟩,2)
def Xb (n:Int):Int->List Int->Bool
 | _,[]=>true
 | last,x :: l=>inR (last+1) (n - 1) x && Xb n x l
def ZcK (t:Tied):List Int:=t.left ++ (t.right ++ t.top)
def Zeu (n:Int) (t:Tied):Bool :=
 Xb n (-1) t.left && Xb n (-1) t.right && Xb n (-1) t.top && decide ((ZcK t).length<=10) && decide (ZcK t).Nodup
def Zfm (a b:Span):Span:=⟨a.lo+b.lo,a.hi+b.hi⟩
def zeroP:Pack:=⟨2,Zy,Zy,Zy,Zy,0,0⟩
def Uz (l:List Pack) (i:Int):Span:=(YI (l.getD i.toNat zeroP)).1
def Zfc (acc:Span):List Span->Span
 | []=>acc
 | s :: r=>Zfc (Zfm acc s) r
def YY (l:List Pack) (q:List Int):Span:=Zfc Zy (q.map (Uz l))
def Zyn (a b:Span) (bound:Int):Int :=
 if -bound<=a.lo - b.hi/\a.hi - b.lo<=bound then 2 else if a.lo - b.hi > bound\/a.hi - b.lo < -bound then 0 else 1
def Zvx (l:List Pack) (t:Tied) (bound:Int):Int:=Zyn (YY l t.left) (YY l t.right) bound
def ZaQ (can:Span) (l:List Pack) (t:Tied) (bound:Int):Int :=
 if (YY l (ZcK t)).lo > can.hi then 0 else if Zvx l t bound=2/\(YY l (ZcK t)).hi > can.lo then 1 else Zvx l t bound
theorem Zhr {p:Pack} (h:ZW p=true):0<=(YI p).1.lo/\(YI p).1.lo<=(YI p).1.hi/\(YI p).1.hi<=1000000:=by
 simp only [ZW,Z8,inR,Bool.and_eq_true,decide_eq_true_eq] at h;obtain ⟨⟨⟨h1,h2⟩,h3⟩,h4⟩:=h;unfold Va at h4;unfold YI;split at h4
 . rename_i hk;rw [if_neg (by omega)];simp only [Z8,Bool.and_eq_true,decide_eq_true_eq] at h4;obtain ⟨⟨g1,g2⟩,g3⟩:=h4;have m1:0<=p.mass.lo * (1000 - p.crumbs.hi)/\p.mass.lo * (1000 - p.crumbs.hi)<=p.mass.lo * 1000:=⟨Int.mul_nonneg (by omega) (by omega),Int.mul_le_mul_of_nonneg_left (by omega) (by omega)⟩
   have m2:p.mass.lo * (1000 - p.crumbs.hi)<=p.mass.hi * (1000 - p.crumbs.lo):=Int.mul_le_mul (by omega) (by omega) (by omega) (by omega);have m3:0<=p.mass.hi * (1000 - p.crumbs.lo)/\p.mass.hi * (1000 - p.crumbs.lo)<=p.mass.hi * 1000:=⟨Int.mul_nonneg (by omega) (by omega),Int.mul_le_mul_of_nonneg_left (by omega) (by omega)⟩
   have e1:(p.mass.lo * (1000 - p.crumbs.hi)).tdiv 1000=p.mass.lo * (1000 - p.crumbs.hi) / 1000:=Int.tdiv_eq_ediv_of_nonneg m1.1;have e2:upF (p.mass.hi * (1000 - p.crumbs.lo)) 1000=(p.mass.hi * (1000 - p.crumbs.lo)+1000 - 1) / 1000:=Int.tdiv_eq_ediv_of_nonneg (by omega);rw [e1,e2];split
   . simp only;omega
   . split<;>(simp only;omega)
 . split at h4
   . rename_i hk hk2;rw [if_neg (by omega),if_pos (.inl hk2)];simp only;omega
   . rename_i hk hk2;simp only [Z8,Bool.and_eq_true,decide_eq_true_eq] at h4;obtain ⟨⟨⟨g0,g1⟩,g2⟩,g3⟩:=h4;rw [if_pos g0];have m1:0<=p.leak.lo * p.days:=Int.mul_nonneg (by omega) (by omega);have m2:p.leak.lo * p.days<=p.leak.hi * p.days:=Int.mul_le_mul_of_nonneg_right (by omega) (by omega);simp only;omega
theorem Zem {l:List Pack} (h:l.all ZW=true) (i:Int):0<=(Uz l i).lo/\(Uz l i).lo<=(Uz l i).hi/\(Uz l i).hi<=1000000:=by
 unfold Uz;rw [List.getD_eq_getElem?_getD];by_cases hi:i.toNat < l.length
 . rw [List.getElem?_eq_getElem hi];exact Zhr (List.all_eq_true.1 h _ (List.getElem_mem hi))
 . rw [List.getElem?_eq_none (by omega)];exact Zhr (by decide)
theorem Zj9 {g:Int->Span} {M:Int} (hg:∀ i,0<=(g i).lo/\(g i).lo<=(g i).hi/\(g i).hi<=M):∀ (q:List Int) (acc:Span),0<=acc.lo->acc.lo<=acc.hi ->
 0<=(Zfc acc (q.map g)).lo/\(Zfc acc (q.map g)).lo<=(Zfc acc (q.map g)).hi/\(Zfc acc (q.map g)).hi<=acc.hi+q.length * M
 | [],acc,h0,h1=>by simp [Zfc,h0,h1]
 | i :: q,acc,h0,h1=>by
  have:=hg i;simp only [List.map_cons,Zfc];have ih:=Zj9 hg q (Zfm acc (g i)) (by simp only [Zfm];omega) (by simp only [Zfm];omega);refine ⟨ih.1,ih.2.1,Int.le_trans ih.2.2 ?_⟩;simp only [Zfm,List.length_cons]
  push_cast
  rw [Int.add_mul];omega
theorem ZeD {l:List Pack} (h:l.all ZW=true) (q:List Int):0<=(YY l q).lo/\(YY l q).lo<=(YY l q).hi/\(YY l q).hi<=q.length * 1000000:=by
 have:=Zj9 (Zem h) q Zy (by decide) (by decide);simpa [YY,Zy] using this
end Go.Azalai
namespace Go.Proofs.YtkpkgafhfakpdaaGreatDoor
open Go Go.Sx Go.Azalai
abbrev U8 (n:Int):SV:=.v (.int .u8 n)
def Zo (p:Pack):List SV:=[U8 p.kind,I p.mass.lo,I p.mass.hi,I p.hard.lo,I p.hard.hi,I p.crumbs.lo,I p.crumbs.hi,I p.leak.lo,I p.leak.hi,I p.hurt,I p.days]
def ZY (t:Tied):List SV:=[.sl false 1 (t.left.map Zk),.sl false 1 (t.right.map Zk),.sl false 1 (t.top.map Zk)]
end Go.Proofs.YtkpkgafhfakpdaaGreatDoor
namespace Go.Sx
open Go Go.RowKit
section
variable {K V:Type} [DecidableEq K] {k k':K} {v v0:V} {c:Nat} {L:List (Nat × K × V)}
end
section
variable {P:Program} {K' V:Type} [DecidableEq K'] {key:K'->Value} {sv:K'->SV} {val:V->SV} {L:List (Nat × K' × V)} {km c:Nat} {kt et t ty:TypeId} {mx ix vx sx:Operand} {σ : St} {r:KT} {K:RK} {d:Option Nat} {k:K'}
end
section
variable {P:Program} {ty T T':TypeId} {ix jx:Operand} {σ : St} {r:KT} {K:RK} {d:Option Nat} {s:SV}
end
def NK:Nat->Prop:=λ_=>False
theorem Zhj {w:World} {E E':Env} {n n' ok:Nat->Prop}:∀ (l:List (Nat × Value × SV)) (ys:List MapEntry),(∀ e ∈ l,KF e.2.2)->RM w E n ok l ys->RM w E' n' ok l ys
 | [],ys,_,h=>by simp only [RM] at h ⊢;exact h
 | e :: l,ys,hk,h=>by
  simp only [RM] at h ⊢;obtain ⟨y,r,rfl,h1,h2⟩:=h;exact ⟨y,r,rfl,ZgL _ _ (hk e (by simp)) h1,Zhj l r (λe he=>hk e (by simp [he])) h2⟩
def mqV (es:List (Nat × Value × SV)):VP where
 f w ok y:=∃ b ys c,y = .map (some b)/\ok b/\w.heap[b]? = some (.map ys c)/\RM w E0 NK ok es ys.toList
 one:=by rintro w ok y ⟨b,ys,c,rfl,_⟩;rfl
 mono:=by
  rintro w w' ok ok' y hs ⟨b,ys,c,rfl,h1,h2,h3⟩;obtain ⟨k1,k2⟩:=hs b h1 (.inr ⟨_,_,h2⟩);exact ⟨b,ys,c,rfl,k1,k2.trans h2,V1 hs (λk hk=>hk.elim) (λk hk=>hk) _ _ h3⟩
theorem ZjS {P:Program} {f:FuncId} {args:List SV} {res:SV} {Zw:Ot->Prop} (h:CtM P f [] 0 args Zw) (ka:KFL args) (kr:KF res)
 (hp:∀ o,Zw o->o.pn=false/\∀ (C:Cx) E w y,(∀ k b,¬ C.pass k b)->HSim C E o.hp (ltn o.n) w->R w E (ltn o.n) (okS C E o.hp) o.res y->R w E0 NK (λb=>C.okp b\/C.w0.heap.size<=b) res y):Ct P f args res:=by
 refine ⟨h.bd,ka,kr,λw ok vs hGS hR=>?_⟩
 let C:Cx:=⟨w,ok,λ_ _=>False,[],none,E0,0,hGS,λ_ _ _ _ h=>h⟩
 have hS:HSim C E0 [] (ltn 0) w:=⟨λ_ _=>rfl,λ_=>trivial,λ_ _ _ h=>h.elim,λ_ _ h=>h.elim,⟨rfl,rfl,rfl,Nat.le_refl _,λ_ _ _=>rfl⟩,λk hk=>absurd hk (Nat.not_lt_zero k)⟩
 have hR':RL w E0 (ltn 0) (okS C E0 []) args vs:=ZC (E:=E0) (n:=λ_=>False) (λb hb _=>⟨⟨.inl hb,λk ho=>ho⟩,rfl⟩) (λ_ _=>Ele.rfl) (λk hk=>hk.elim) _ _ hR;refine (h.run C E0 w vs rfl rfl rfl rfl rfl (λk b h=>h.elim) Za6 hS hR').mono λe w' ⟨o,E',y,h1,h2,h3,h4⟩=>?_;obtain ⟨q1,q2⟩:=hp o h1;refine ⟨y,by rw [h4,q1];rfl,q2 C E' w' y (λ_ _ h=>h) h2 h3,⟨h2.kp.os,h2.kp.tape,h2.kp.output,h2.kp.size,λb hb=>h2.kp.block b hb (λk hk=>hk)⟩⟩
theorem mq_of {C:Cx} {E:Env} {hp:List (Nat × HB)} {n:Nat->Prop} {w:World} {k c:Nat} {es:List (Nat × Value × SV)} {y:Value} (hpass:∀ k b,¬ C.pass k b) (hs:HSim C E hp n w) (hk:lkh k hp = .map es c) (hkf:∀ e ∈ es,KF e.2.2)
 (hR:R w E n (okS C E hp) (.mp k) y):R w E0 NK (λb=>C.okp b\/C.w0.heap.size<=b) (.q (mqV es)) y:=by
 simp only [R] at hR ⊢;have hb:=hs.bk k;rw [hk] at hb;obtain ⟨ys,h1,h2⟩:=hb;have hlo:C.w0.heap.size<=E.β k:=by
  rcases hs.lo k (E.β k) (by rw [hk];rfl) with h | h
  . exact h
  . exact absurd h (hpass _ _)
 refine ⟨E.β k,ys,c,hR.2,.inr hlo,h1,Zhj _ _ hkf (V1 (n':=n) (E':=E) (λb hb _=>⟨hb.1,rfl⟩) (λ_ _=>Ele.rfl) (λ_ h=>h) _ _ h2)⟩
section
variable {K V:Type} [DecidableEq K] {P:Program} {key:K->Value} {sv:K->SV} {val:V->SV} {L:List (Nat × K × V)} {km c:Nat} {kt et t:TypeId} {σ : St} {k:K} {i j:Nat} {ok:Bool} {zs:SV} {z:Value} {v:V}
theorem ZeZ {g:Option (Nat × Bool)} {fr:List (Nat × SV)} {s:SV} (h:∀ j b u,s≠.gd j b u):YG g fr s=s:=by
 cases s<;>first | rfl | exact absurd rfl (h _ _ _)
theorem ZfP {w:World} {E:Env} {n ok':Nat->Prop} {b:Nat} {ys:Array MapEntry} (g1:w.heap[b]? = some (.map ys c)) (g2:RM w E n ok' (mpS key val L) ys.toList) (ht:P.underlying t=some (.map kt et)) (hK:KeyT P kt key sv)
 (hz:Yk P et=some z) :
 (Wt k L=none/\(Instr.lookup t (.map (some b)) (key k) ok).run P w = .ok (if ok then .tuple #[z,.bool false] else z) w) \/
 ∃ v y,Wt k L=some v/\(Instr.lookup t (.map (some b)) (key k) ok).run P w = .ok (if ok then .tuple #[y,.bool true] else y) w/\R w E n ok' (val v) y:=by
 have hfn:=λw=>hK.fnd k _ _ w (ZaH g2);rcases Zas (w:=w) (E:=E) (n:=n) (ok:=ok') k L ys.toList 0 g2 with ⟨a1,a2,-,-⟩ | ⟨j,v,e,b1,b2,b3,b4,b5,-⟩
 . left;refine ⟨a1,?_⟩;simp only [Instr.lookup,Sem.run_bind,run_underlying ht,Result.andThen_ok,YH g1 rfl,Sem.run_pure,hK.chk,hfn,a2,Xn hz]
 . right;refine ⟨v,e.val,b1,?_,b5⟩;simp only [Instr.lookup,Sem.run_bind,run_underlying ht,Result.andThen_ok,YH g1 rfl,Sem.run_pure,hK.chk,hfn,b2]
def lkS (ok:Bool) (val:V->SV) (zs:SV):Option V->SV
 | some v=>bif ok then .tup [val v,.v (.bool true)] else val v
 | none=>bif ok then .tup [zs,.v (.bool false)] else zs
theorem Zy6 {w:World} {E:Env} {n ok':Nat->Prop} {b:Nat} {ys:Array MapEntry} {o:Oper} {a:Act} {next:Act->World->Prop} {Q:Exit->Act->World->Prop} {rr:Option Nat} (ho:o.op = .lookup t (.tmp i) (.tmp j) ok)
 (g1:w.heap[b]? = some (.map ys c)) (g2:RM w E n ok' (mpS key val L) ys.toList) (ht:P.underlying t=some (.map kt et)) (hK:KeyT P kt key sv) (hz:Yk P et=some z) (hzR:∀ w E n ok,R w E n ok zs z)
 (hm:a.tmps.getD i undef = .map (some b)) (hi:a.tmps.getD j undef=key k) (hn:∀ y,R w E n ok' (lkS ok val zs (Wt k L)) y->next (a.put o.dst y) w):o.wpq rr P a w next Q:=by
 obtain ⟨dst',op',ty',pos,after,guard⟩:=o;simp only at ho;subst ho;rcases ZfP (ok:=ok) (k:=k) g1 g2 ht hK hz with ⟨q1,q2⟩ | ⟨v,y,q1,q2,q3⟩
 . refine Zz (x:=.value (if ok then .tuple #[z,.bool false] else z)) (w':=w) ?_ (by simp) ?_
   . show (execOp a.eval _).run P w=_;simp only [execOp,Act.eval,hm,hi,Sem.run_bind,q2,Result.andThen_ok,Sem.run_pure]
   . refine hn _ ?_;rw [q1];cases ok
     . exact hzR _ _ _ _
     . simp only [lkS,cond_true,if_true,R,RL];exact ⟨_,rfl,_,_,rfl,hzR _ _ _ _,_,_,rfl,rfl,rfl⟩
 . refine Zz (x:=.value (if ok then .tuple #[y,.bool true] else y)) (w':=w) ?_ (by simp) ?_
   . show (execOp a.eval _).run P w=_;simp only [execOp,Act.eval,hm,hi,Sem.run_bind,q2,Result.andThen_ok,Sem.run_pure]
   . refine hn _ ?_;rw [q1];cases ok
     . exact q3
     . simp only [lkS,cond_true,if_true,R,RL];exact ⟨_,rfl,_,_,rfl,q3,_,_,rfl,rfl,rfl⟩
theorem ZkG (hm:lk i σ.fr = .q (mqV (mpS key val L))) (hkf:∀ e ∈ mpS key val L,KF e.2.2) (hi:lk j σ.fr=sv k) (ht:P.underlying t=some (.map kt et)) (hK:KeyT P kt key sv) (hz:Yk P et=some z) (hzR:∀ w E n ok,R w E n ok zs z) :
 RBE P (.lookup t (.tmp i) (.tmp j) ok) [.t i,.t j] σ (lkS ok val zs (Wt k L)):=by
 intro o ho C E hpX nX a w next Q hx hS hR hn;have h1:=hR (.t i) (by simp);have h2:=hR (.t j) (by simp);simp only [rdG,rd,hm,YG,evX] at h1;simp only [rdG,rd,hi,evX] at h2;rw [ZeZ (Zek hK k)] at h2;have h2:=(hK.svR k _).1 h2;simp only [R] at h1;obtain ⟨b,ys,c,e1,e2,e3,e4⟩:=h1;exact Zy6 (E:=E) (n:=nX) (ok':=okS C E hpX) ho e3 (Zhj _ _ hkf e4) ht hK hz hzR e1 h2 λy hy=>hn w y hS (λb hb _=>⟨hb,rfl⟩) hy
theorem Zyu (hm:lk i σ.fr = .mp km) (hh:lkh km σ.hp = .map (mpS key val L) c) (hi:lk j σ.fr=sv k) (ht:P.underlying t=some (.map kt et)) (hK:KeyT P kt key sv) (hz:Yk P et=some z) (hzR:∀ w E n ok,R w E n ok zs z) :
 RBE P (.lookup t (.tmp i) (.tmp j) ok) [.t i,.t j] σ (lkS ok val zs (Wt k L)):=by
 intro o ho C E hpX nX a w next Q hx hS hR hn;have h1:=hR (.t i) (by simp);have h2:=hR (.t j) (by simp);simp only [rdG,rd,hm,YG,evX] at h1;simp only [rdG,rd,hi,evX] at h2;rw [ZeZ (Zek hK k)] at h2;have h2:=(hK.svR k _).1 h2;simp only [R] at h1;have hX:lkh km hpX = .map (mpS key val L) c:=by
  rcases hx km with h | h | ⟨φ,h,_⟩
  . rw [hh] at h;cases h
  . rw [h,hh]
  . rw [hh] at h;cases h
 have hb:=hS.bk km;rw [hX] at hb;obtain ⟨ys,e3,e4⟩:=hb;exact Zy6 (E:=E) (n:=nX) (ok':=okS C E hpX) ho e3 e4 ht hK hz hzR h1.2 h2 λy hy=>hn w y hS (λb hb _=>⟨hb,rfl⟩) hy
end
end Go.Sx
namespace Go.Proofs.YtkpkgafhfakpdaaGreatDoor
open Go Go.Sx Go.Azalai
theorem Zso (lo hi x:Int):Ct Tryz.prog 156 [I x,.ps [I lo] 0,.ps [I hi] 0] (B (!inR lo hi x)):=by
 refine t156.1 (by simp) (by simp) ?_;dsimp only [c156,r156,go_sem];repeat (refine gb ?_;dsimp only [go_sem])
 (simp only [inR,Option.some.injEq,SV.v.injEq,Value.bool.injEq]<;>grind)
theorem Zjt (lo hi:Int) (l:List Int) (hl:l.length < 4611686018427387904) (c:Bool):Ct Tryz.prog 95 [I lo,I hi,.sl c 1 (l.map Zk)] (B (l.all (inR lo hi))):=by
 refine t95.1 (by simp [Za,Zk]) (by simp) ?_;dsimp only [c95,r95,go_sem];refine Xi (by simp [FLT]) (res:=B (l.any λx=>!inR lo hi x)) ?_ ?_
 . dsimp only [go_sem];exact Zno 156 [.ps [I lo] 0,.ps [I hi] 0] (by simp) (λx=>!inR lo hi x) l (λx _=>Zso lo hi x) hl
 . dsimp only [go_sem];simp [List.all_eq_not_any_not]
theorem ZAk (lo hi a:Int) (c:Bool):Ct Tryz.prog 95 [I lo,I hi,.sl c 1 [[I a]]] (B (inR lo hi a)):=by
 have:=Zjt lo hi [a] (by simp) c;simpa [Zk] using this
theorem inL2 (lo hi a b:Int) (c:Bool):Ct Tryz.prog 95 [I lo,I hi,.sl c 1 [[I a],[I b]]] (B (inR lo hi a && inR lo hi b)):=by
 have:=Zjt lo hi [a,b] (by simp) c;simpa [Zk] using this
theorem Ue (lo hi:Int) (s:Span):Ct Tryz.prog 121 [.agg (Zh s),I lo,I hi] (B (Z8 lo hi s)):=by
 refine t121.1 (by simp [Zh]) (by simp) ?_;dsimp only [c121,r121,Zh,go_sem];repeat (first | (refine gb ?_;dsimp only [go_sem]) | (refine call (inL2 _ _ _ _ _) ?_;dsimp only [go_sem]))
 (simp only [Z8,inR,Option.some.injEq,SV.v.injEq,Value.bool.injEq]<;>grind)
theorem Zca (m n:Int) (h0:0<=m * n) (h1:m * n<=1000000000):Ct Tryz.prog 176 [I m,I n] (.tup [I ((m * n).tdiv 1000),I (upF (m * n) 1000)]):=by
 refine t176.1 (by simp) (by simp) ?_;dsimp only [c176,r176,go_sem];rw [Zf (n:=m * n) (by omega) (by omega)];refine Zcq (by decide) ?_;dsimp only [go_sem];refine Zcq (by decide) ?_;dsimp only [go_sem];have e1:(m * n).tdiv 1000=m * n / 1000:=Int.tdiv_eq_ediv_of_nonneg h0;have e2:(m * n+1000 - 1).tdiv 1000=(m * n+1000 - 1) / 1000:=Int.tdiv_eq_ediv_of_nonneg (by omega);simp (disch:=omega) only [Zf];rw [upF]
def V9 (p:Pack):SV:=.tup [.agg (Zh (YI p).1),.agg (Zh (YI p).2.1),U8 (YI p).2.2]
structure PackB (p:Pack):Prop where
 m0:0<=p.mass.lo
 m1:p.mass.lo<=p.mass.hi
 m2:p.mass.hi<=1000000
 u0:0<=p.hurt
 d0:0<=p.days
 d1:p.days<=100000
theorem ZuV {p:Pack} (h:ZW p=true):PackB p:=by
 simp only [ZW,Z8,inR,Bool.and_eq_true,decide_eq_true_eq] at h;exact ⟨by omega,by omega,by omega,by omega,by omega,by omega⟩
theorem ZuW (p:Pack) (hk:p.kind=2):Ct Tryz.prog 125 [.agg (Zo p)] (V9 p):=by
 refine t125.1 (by simp [Zo]) (by simp [V9,Zh]) ?_;dsimp only [c125,r125,Zo,go_sem];have:YI p=(p.mass,Zy,0):=by unfold YI;rw [if_neg (by omega),if_pos (.inl hk)]
 rw [V9,this];rfl
theorem Zr8 (p:Pack) (h:ZW p=true) (hk:p.kind=1):Ct Tryz.prog 123 [.agg (Zo p)] (V9 p):=by
 have hb:=ZuV h;simp only [ZW,Va,if_pos hk,Z8,Bool.and_eq_true,decide_eq_true_eq] at h;obtain ⟨_,⟨g1,g2⟩,g3⟩:=h;obtain ⟨m0,m1,m2,u0,d0,d1⟩:=hb;have q1:0<=p.mass.lo * (1000 - p.crumbs.hi)/\p.mass.lo * (1000 - p.crumbs.hi)<=1000000 * 1000:=⟨Int.mul_nonneg (by omega) (by omega),Int.mul_le_mul (by omega) (by omega) (by omega) (by omega)⟩
 have q2:0<=p.mass.hi * p.crumbs.hi/\p.mass.hi * p.crumbs.hi<=1000000 * 1000:=⟨Int.mul_nonneg (by omega) (by omega),Int.mul_le_mul (by omega) (by omega) (by omega) (by omega)⟩
 have q3:0<=p.mass.hi * (1000 - p.crumbs.lo)/\p.mass.hi * (1000 - p.crumbs.lo)<=1000000 * 1000:=⟨Int.mul_nonneg (by omega) (by omega),Int.mul_le_mul (by omega) (by omega) (by omega) (by omega)⟩
 have q4:0<=p.mass.lo * p.crumbs.lo/\p.mass.lo * p.crumbs.lo<=1000000 * 1000:=⟨Int.mul_nonneg (by omega) (by omega),Int.mul_le_mul (by omega) (by omega) (by omega) (by omega)⟩
 refine t123.1 (by simp [Zo]) (by simp [V9,Zh]) ?_;dsimp only [c123,r123,Zo,go_sem];by_cases h1:p.hurt < p.hard.lo
 . refine Zt (by simpa using h1) ?_;dsimp only [go_sem];have:YI p=(p.mass,Zy,0):=by unfold YI;rw [if_neg (by omega),if_pos (.inr h1)]
   rw [V9,this];rfl
 refine Zn (by simpa using h1) ?_;dsimp only [go_sem];rw [Zf (n:=1000 - p.crumbs.hi) (by omega) (by omega)];refine call (Zca _ _ q1.1 (by omega)) ?_;dsimp only [go_sem];refine call (Zca _ _ q2.1 (by omega)) ?_;dsimp only [go_sem];by_cases h2:p.hurt < p.hard.hi
 . refine Zt (by simpa using h2) ?_;dsimp only [go_sem];have:YI p=(⟨(p.mass.lo * (1000 - p.crumbs.hi)).tdiv 1000,p.mass.hi⟩,⟨0,upF (p.mass.hi * p.crumbs.hi) 1000⟩,1):=by unfold YI;rw [if_neg (by omega),if_neg (by omega),if_pos h2]
   rw [V9,this];rfl
 refine Zn (by simpa using h2) ?_;dsimp only [go_sem];rw [Zf (n:=1000 - p.crumbs.lo) (by omega) (by omega)];refine call (Zca _ _ q3.1 (by omega)) ?_;dsimp only [go_sem];refine call (Zca _ _ q4.1 (by omega)) ?_;dsimp only [go_sem];have:YI p=(⟨(p.mass.lo * (1000 - p.crumbs.hi)).tdiv 1000,upF (p.mass.hi * (1000 - p.crumbs.lo)) 1000⟩,⟨(p.mass.lo * p.crumbs.lo).tdiv 1000,upF (p.mass.hi * p.crumbs.hi) 1000⟩,2):=by unfold YI;rw [if_neg (by omega),if_neg (by omega),if_neg h2]
 rw [V9,this];rfl
theorem ZvP (p:Pack) (h:ZW p=true) (hk:p.kind=3):Ct Tryz.prog 127 [.agg (Zo p)] (V9 p):=by
 have hb:=ZuV h;simp only [ZW,Va,if_neg (show ¬ p.kind=1 by omega),if_neg (show ¬ p.kind=2 by omega),Z8,Bool.and_eq_true,decide_eq_true_eq] at h;obtain ⟨_,⟨⟨g0,g1⟩,g2⟩,g3⟩:=h;obtain ⟨m0,m1,m2,u0,d0,d1⟩:=hb;have q1:0<=p.leak.lo * p.days/\p.leak.lo * p.days<=1000000 * 100000:=⟨Int.mul_nonneg (by omega) (by omega),Int.mul_le_mul (by omega) (by omega) (by omega) (by omega)⟩
 have q2:0<=p.leak.hi * p.days/\p.leak.hi * p.days<=1000000 * 100000:=⟨Int.mul_nonneg (by omega) (by omega),Int.mul_le_mul (by omega) (by omega) (by omega) (by omega)⟩
 refine t127.1 (by simp [Zo]) (by simp [V9,Zh]) ?_;dsimp only [c127,r127,Zo,go_sem];simp (disch:=omega) only [Zf];have:YI p=(⟨max (p.mass.lo - p.leak.hi * p.days) 0,max (p.mass.hi - p.leak.lo * p.days) 0⟩,⟨min p.mass.lo (p.leak.lo * p.days),min p.mass.hi (p.leak.hi * p.days)⟩,0):=by unfold YI;rw [if_pos hk]
 rw [V9,this];rfl
theorem Zp6 (p:Pack):Ct Tryz.prog 122 [.agg (Zo p)] (B (Z8 1 100000 p.hard && Z8 0 1000 p.crumbs && decide (p.leak=Zy))):=by
 refine t122.1 (by simp [Zo]) (by simp) ?_;dsimp only [c122,r122,Zo,go_sem];repeat (first | (refine gb ?_;dsimp only [go_sem]) | (refine call (Ue _ _ ⟨_,_⟩) ?_;dsimp only [Zh,go_sem]))
 rw [show (decide (p.leak=Zy))=(decide (p.leak.lo=0) && decide (p.leak.hi=0)) from by rw [Bool.eq_iff_iff];obtain ⟨_,_,_,_,⟨a,b⟩,_,_⟩:=p;simp [Zy]]
 (simp only [Option.some.injEq,SV.v.injEq,Value.bool.injEq]<;>grind)
theorem Zqo (p:Pack):Ct Tryz.prog 124 [.agg (Zo p)] (B (decide (p.hard=Zy) && decide (p.crumbs=Zy) && decide (p.leak=Zy))):=by
 refine t124.1 (by simp [Zo]) (by simp) ?_;dsimp only [c124,r124,Zo,go_sem];repeat (refine gb ?_;dsimp only [go_sem])
 have e:∀ s:Span,decide (s=Zy)=(decide (s.lo=0) && decide (s.hi=0)):=λs=>by rw [Bool.eq_iff_iff];obtain ⟨a,b⟩:=s;simp [Zy]
 rw [e,e,e]
 (simp only [Option.some.injEq,SV.v.injEq,Value.bool.injEq]<;>grind)
theorem Zoj (p:Pack):Ct Tryz.prog 126 [.agg (Zo p)] (B (decide (p.hard=Zy) && decide (p.crumbs=Zy) && Z8 0 1000000 p.leak)):=by
 refine t126.1 (by simp [Zo]) (by simp) ?_;dsimp only [c126,r126,Zo,go_sem];repeat (first | (refine gb ?_;dsimp only [go_sem]) | (refine call (Ue _ _ ⟨_,_⟩) ?_;dsimp only [Zh,go_sem]))
 have e:∀ s:Span,decide (s=Zy)=(decide (s.lo=0) && decide (s.hi=0)):=λs=>by rw [Bool.eq_iff_iff];obtain ⟨a,b⟩:=s;simp [Zy]
 rw [e,e]
 (simp only [Option.some.injEq,SV.v.injEq,Value.bool.injEq]<;>grind)
theorem Zyb:Tryz.prog.underlying 146=some (.map 5 145):=by kernel_rfl
theorem u5:Tryz.prog.underlying 5=some (.int .u8):=by kernel_rfl
theorem ZyD:KeyT Tryz.prog 5 (λn:Int=>.int .u8 n) (λn=>.v (.int .u8 n)):=Zrn u5
theorem Zg5:Yk Tryz.prog 145=some (.agg #[.nilFunc,.nilFunc]):=by kernel_rfl
abbrev kB:Int->Value:=λn=>.int .u8 n
abbrev Sd2:=FuncId × FuncId
def Zao (v:Sd2):SV:=.agg [.cl v.1 [],.cl v.2 []]
def Yh:List (Nat × Int × Sd2):=[(0,1,(122,123)),(1,2,(124,125)),(2,3,(126,127))]
abbrev ZxU:SV:=.q (mqV (mpS kB Zao Yh))
theorem Vx:∀ e ∈ mpS kB Zao Yh,KF e.2.2:=by
 intro e he;obtain ⟨x,_,rfl⟩:=List.mem_map.1 he;simp [Zao,KF,KFL]
theorem ks0:UC 0 (1:Int) (122,123) (Yh.take 0)=Yh.take 1/\UN 0 (1:Int) (Yh.take 0)=1:=⟨rfl,rfl⟩
theorem ks1:UC 1 (2:Int) (124,125) (Yh.take 1)=Yh.take 2/\UN 1 (2:Int) (Yh.take 1)=2:=⟨rfl,rfl⟩
theorem ks2:UC 2 (3:Int) (126,127) (Yh.take 2)=Yh.take 3/\UN 2 (3:Int) (Yh.take 2)=3:=⟨rfl,rfl⟩
theorem Zid:CtM Tryz.prog 68 [] 0 [] (λo=>o=⟨false,.mp 0,[(0,.map (mpS kB Zao Yh) 3)],1⟩):=by
 refine m68 (by simp [hpb]) (λo ho=>by subst ho;exact ⟨by simp [KX],by simp only [KXP,KXH,and_true];exact Vx⟩) ?_;dsimp only [c68,r68,go_sem];refine WA rfl rfl rfl ?_;dsimp only [go_sem];refine Ww (key:=kB) (val:=Zao) (sv:=λn=>.v (kB n)) (L:=Yh.take 0) (k:=1) (v:=(122,123)) (ins:=true) rfl rfl Zyb ZyD rfl rfl (λ_ _ _ e=>by cases e) ?_;rw [ks0.1,ks0.2];dsimp only [go_sem];refine Ww (key:=kB) (val:=Zao) (sv:=λn=>.v (kB n)) (L:=Yh.take 1) (k:=2) (v:=(124,125)) (ins:=true) rfl rfl Zyb ZyD rfl rfl (λ_ _ _ e=>by cases e) ?_
 rw [ks1.1,ks1.2];dsimp only [go_sem];refine Ww (key:=kB) (val:=Zao) (sv:=λn=>.v (kB n)) (L:=Yh.take 2) (k:=3) (v:=(126,127)) (ins:=true) rfl rfl Zyb ZyD rfl rfl (λ_ _ _ e=>by cases e) ?_;rw [ks2.1,ks2.2];dsimp only [go_sem];refine ⟨_,rfl,?_⟩;rw [show Yh.take 3=Yh from rfl];refine Zp ?_ ?_ ?_ rfl
 . dsimp only [id,go_sem];exact ⟨by omega,rfl⟩
 . dsimp only [id,go_sem];exact ⟨⟨rfl,Vx⟩,trivial⟩
 . dsimp only [id,go_sem];exact ⟨by omega,trivial⟩
theorem ZeK:Ct Tryz.prog 68 [] ZxU:=by
 refine ZjS Zid trivial trivial ?_;rintro o rfl;exact ⟨rfl,λC E w y h1 h2 h3=>mq_of h1 h2 rfl Vx h3⟩
theorem Zb4 {p:Pack} {v:Sd2} (h:Wt p.kind Yh=some v):Ct Tryz.prog v.1 [.agg (Zo p)] (B (Va p))/\(ZW p=true->Ct Tryz.prog v.2 [.agg (Zo p)] (V9 p)):=by
 simp only [Wt,Yh] at h;split at h
 . rename_i q;cases h;have:=Zp6 p;rw [Va,if_pos q.symm];exact ⟨this,λg=>Zr8 p g q.symm⟩
 split at h
 . rename_i q;cases h;have:=Zqo p;rw [Va,if_neg (by omega),if_pos q.symm];exact ⟨this,λg=>ZuW p q.symm⟩
 split at h
 . rename_i q;cases h;have:=Zoj p;rw [Va,if_neg (by omega),if_neg (by omega),decide_eq_true q.symm,Bool.true_and];exact ⟨this,λg=>ZvP p g q.symm⟩
 . cases h
theorem ZiK {p:Pack} (h:Wt p.kind Yh=none):Va p=false:=by
 rw [VO] at h;have h1:¬ p.kind=1:=λe=>h _ (by simp [Yh];exact .inl rfl) e.symm;have h2:¬ p.kind=2:=λe=>h _ (by simp [Yh];exact .inr (.inl rfl)) e.symm;have h3:¬ p.kind=3:=λe=>h _ (by simp [Yh];exact .inr (.inr rfl)) e.symm;simp [Va,h1,h2,h3]
abbrev zk:SV:=.agg [.v .nilFunc,.v .nilFunc]
theorem zk_R:∀ w E n ok,R w E n ok zk (.agg #[.nilFunc,.nilFunc]):=λw E n ok=>by
 simp only [R,RL];exact ⟨_,rfl,_,_,rfl,rfl,_,_,rfl,rfl,rfl⟩
theorem Zcs (p:Pack):Ct Tryz.prog 67 [.agg (Zo p)] (B (ZW p)):=by
 refine t67.1 (by simp [Zo]) (by simp) ?_;dsimp only [c67,r67,Zo,go_sem];refine call ZeK ?_;dsimp only [go_sem];have hrv:=λσ h1 h2=>ZkG (P:=Tryz.prog) (t:=146) (σ:=σ) (i:=6) (j:=8) (ok:=true) (key:=kB) (val:=Zao) (sv:=λn=>.v (kB n)) (L:=Yh) (k:=p.kind) (zs:=zk) h1 Vx h2 Zyb ZyD Zg5 zk_R;cases hg:Wt p.kind Yh with
 | none =>
  refine ⟨_,hrv _ rfl rfl,?_⟩;rw [hg];dsimp only [lkS,go_sem];repeat (refine XB (by decide) ?_;dsimp only [go_sem])
  have:=ZiK hg;simp [ZW,this]
 | some v =>
  obtain ⟨k1,-⟩:=Zb4 (p:=p) hg;refine ⟨_,hrv _ rfl rfl,?_⟩;rw [hg];dsimp only [lkS,Zao,go_sem];repeat (first | (refine gb ?_;dsimp only [go_sem]) | (refine call (Ue _ _ p.mass) ?_;dsimp only [Zh,go_sem]) | (refine call (ZAk _ _ _ _) ?_;dsimp only [go_sem]) | (refine call k1 ?_;dsimp only [go_sem]))
  (simp only [ZW,Option.some.injEq,SV.v.injEq,Value.bool.injEq]<;>grind)
theorem ZbR (p:Pack) (h:ZW p=true):Ct Tryz.prog 16 [.agg (Zo p)] (.tup [.agg (Zh (YI p).1),.agg (Zh (YI p).2.1),U8 (YI p).2.2,I 0]):=by
 refine t16.1 (by simp [Zo]) (by simp [Zh]) ?_;dsimp only [c16,r16,Zo,go_sem];refine call (Zcs p) ?_;rw [h];dsimp only [go_sem];refine Zn rfl ?_;dsimp only [go_sem];refine call ZeK ?_;dsimp only [go_sem];have hrv:=λσ h1 h2=>ZkG (P:=Tryz.prog) (t:=146) (σ:=σ) (i:=12) (j:=14) (ok:=false) (key:=kB) (val:=Zao) (sv:=λn=>.v (kB n)) (L:=Yh) (k:=p.kind) (zs:=zk) h1 Vx h2 Zyb ZyD Zg5 zk_R;cases hg:Wt p.kind Yh with
 | none =>
  have:=ZiK hg;simp [ZW,this] at h
 | some v =>
  obtain ⟨-,k1⟩:=Zb4 (p:=p) hg;refine ⟨_,hrv _ rfl rfl,?_⟩;rw [hg];dsimp only [lkS,Zao,go_sem];refine call (k1 h) ?_;dsimp only [V9,Zh,go_sem]
end Go.Proofs.YtkpkgafhfakpdaaGreatDoor
namespace Go.Sx
open Go Go.RowKit
section
variable {P:Program} {σ : St} {r:KT} {K:RK} {T t ty:TypeId} {m:Nat}
theorem ZbV {ax:Operand} {d:Option Nat} (hx:ZaI σ ax = .v (.slice none 0 0)) (ht:P.underlying t=some (.slice T)) (h:Yo d (.v (.int .i64 0)) none σ r K) :
 RAW P d (.call ⟨.builtin .cap,#[ax],#[t]⟩) ty σ r K:=by
 intro o C E a w next Q e1 e2 e3 hS hn hq;have hxv:=W8 hS hx (λ_ _ _=>by simp);simp only [R] at hxv;have hrun:(Builtin.cap_ #[t] ty #[a.eval ax]).run P w = .ok (.int .i64 0) w:=by
  rw [hxv];simp [Builtin.cap_,Sem.run_bind,run_underlying ht,goInt]
 have hx:(execOp a.eval o).run P w = .ok (.value (.int .i64 0)) w:=by
  obtain ⟨dst',op',ty',pos,after,guard⟩:=o;simp only at e2 e3;subst e2;subst e3;simp [execOp,resolve,invoke,builtin,hrun]
 refine Zz hx (by simp) ?_;show next (a.put o.dst _) _;rw [e1];exact X5 h hS (by simp only [R]) hn
theorem ZbY {ax:Operand} {d:Option Nat} (hx:ZaI σ ax = .v (.slice none 0 0)) (ht:P.underlying t=some (.slice T)) (h:Yo d (.v (.int .i64 0)) none σ r K) :
 RAW P d (.call ⟨.builtin .len,#[ax],#[t]⟩) ty σ r K:=by
 intro o C E a w next Q e1 e2 e3 hS hn hq;have hxv:=W8 hS hx (λ_ _ _=>by simp);simp only [R] at hxv;have hrun:(Builtin.len_ #[t] ty #[a.eval ax]).run P w = .ok (.int .i64 0) w:=by
  rw [hxv];simp [Builtin.len_,Sem.run_bind,run_underlying ht,goInt]
 have hx:(execOp a.eval o).run P w = .ok (.value (.int .i64 0)) w:=by
  obtain ⟨dst',op',ty',pos,after,guard⟩:=o;simp only at e2 e3;subst e2;subst e3;simp [execOp,resolve,invoke,builtin,hrun]
 refine Zz hx (by simp) ?_;show next (a.put o.dst _) _;rw [e1];exact X5 h hS (by simp only [R]) hn
theorem ZeM {w:World} {ad:Option Addr} {len cap:Nat} (ht:P.underlying t=some (.slice T)) (hm:Xh P T=some m) :
 (Instr.sliceAt t (.slice ad len cap) none (some (.int .i64 0)) none).run P w = .ok (.slice (if cap=0 then ad else ad.map (·.add (0 * m))) 0 cap) w:=by
 rw [Y4 _ _ _ _ ht];simp [Instr.slice,Instr.sliceBounds,Instr.sliceBound,Sem.run_bind,run_underlying ht,ZT hm,asInt,asIntOf]
theorem Zus {ax ay:Operand} {d:Option Nat} (hx:ZaI σ ax = .v (.slice none 0 0)) (hy:ZaI σ ay = .v (.int .i64 0)) (ht:P.underlying t=some (.slice T)) (hm:Xh P T=some m) (h:Yo d (.v (.slice none 0 0)) none σ r K) :
 RAW P d (.slice t ax none (some ay) none) ty σ r K:=by
 intro o C E a w next Q e1 e2 e3 hS hn hq;have hxv:=W8 hS hx (λ_ _ _=>by simp);have hyv:=W8 hS hy (λ_ _ _=>by simp);simp only [R] at hxv hyv;have hx:(execOp a.eval o).run P w = .ok (.value (.slice none 0 0)) w:=by
  obtain ⟨dst',op',ty',pos,after,guard⟩:=o;simp only at e2 e3;subst e2;simp [execOp,Sem.run_bind,hxv,hyv,ZeM ht hm]
 refine Zz hx (by simp) ?_;show next (a.put o.dst _) _;rw [e1];exact X5 h hS (by simp only [R]) hn
theorem Zg2 {w:World} {E:Env} {k ok:Nat->Prop} {z:Value}:∀ n:Nat,RL w E k ok (List.replicate n [SV.v z]).flatten (List.replicate n z)
 | 0=>by simp [RL]
 | n+1=>by simp only [List.replicate_succ,List.flatten_cons,List.singleton_append,RL];exact ⟨_,_,rfl,by simp only [R],Zg2 n⟩
theorem ZmT {ax ay:Operand} {u n:Nat} {tn:TypeId} {i:TypeInfo} {z:Value} (hx:ZaI σ ax = .v (.slice none 0 0)) (hy:ZaI σ ay = .v (.int .i64 n)) (h1:Y3 u σ.gs=false) (h2:Nat.blt u σ.N=true)
 (ht:P.underlying t=some (.slice T)) (htn:P.underlying tn=some (.int .i64)) (hi:P.info? T=some i) (hz:i.zero=some z) (hs:i.size=1) (hz1:z.oneCell'=true) (h0:0 < n) (hb:n * i.bytes<=140737488355328) (hn6:n<=4611686018427387904)
 (h:r ⟨(u,.mr σ.n 0) :: σ.fr,(σ.n,.row 0 1 (List.replicate n [.v z]) T) :: σ.hp,σ.n+1,σ.N,σ.gs⟩ K) :
 RAW P (some u) (.call ⟨.builtin .append,#[ax,ay],#[t,tn]⟩) ty σ r K:=by
 intro o C E a w next Q e1 e2 e3 hS hn hq;have hxv:=W8 hS hx (λ_ _ _=>by simp);have hyv:=W8 hS hy (λ_ _ _=>by simp);simp only [R] at hxv hyv;have hz':z.cells = #[z]:=ZaT hz1;have hnx:Builtin.nextslicecap (0+n) 0=n:=by simp [Builtin.nextslicecap,h0]
 have hrun:=Lib.run_append_grow_zeros (P:=P) w t tn ty T i z .i64 .i64 ht htn hi hz none 0 0 [] (run_firstCells_none w.drew i.size 0 0 0) n h0 (by omega) (by omega) (by omega) (by omega) (by rw [hnx];omega);generalize hcap:grownCap w (0+n) 0 T=cap at hrun;have hcl:n<=cap:=by
  have:=grownCap_ge w (0+n) 0 T;omega
 let cs:Array Value:=(([]:List Value).toArray ++ Builtin.zeroCells z.cells n ++ Builtin.zeroCells z.cells (cap - (0+n)))
 have hzc:∀ k,Builtin.zeroCells z.cells k=Array.replicate k z:=by
  intro k;apply Array.toList_inj.1;rw [hz'];simp [Builtin.zeroCells]
  exact List.eq_replicate_iff.2 ⟨by simp,λb hb=>by
   obtain ⟨i,_,rfl⟩:=List.mem_map.1 hb
   simp [Nat.mod_one]⟩
 have hcs:cs=Array.replicate cap z:=by
  simp only [cs,hzc];apply Array.toList_inj.1;simp;omega
 have hbel:Below w.heap.size w (w.drew.alloc (.cells cs T)):=((Below.refl _ _).drew).alloc (Nat.le_refl _) _;obtain ⟨E',k1,k2,k3,k4,k5⟩:=Xu (q:=σ.n) (m:=1) (xs:=List.replicate n [.v z]) (T:=T) (v:=.slice (some ⟨w.heap.size,0,none⟩) n cap) hS.hs (by simp [ltn]) hbel
  (.inr ⟨cap,cs,by simp,heap_alloc_new _ _,by rw [hcs];simp,⟨by simp;omega,by omega⟩,by simp;omega,λq hq=>by rw [List.eq_of_mem_replicate hq];rfl,by
   rw [hcs];simp only [List.length_replicate,Nat.mul_one,Array.toList_replicate,List.take_replicate,Nat.min_eq_left hcl]
   exact Zg2 n⟩)
 have hV:(λk=>ltn σ.n k\/k = σ.n)=ltn (σ.n+1):=by funext k;simp only [ltn,eq_iff_iff];omega
 rw [hV] at k4;have hx:(execOp a.eval o).run P w = .ok (.value (.slice (some ⟨w.heap.size,0,none⟩) n cap)) (w.drew.alloc (.cells cs T)):=by
  obtain ⟨dst',op',ty',pos,after,guard⟩:=o;simp only at e2 e3;subst e2;subst e3;rw [<- hxv,<- hyv] at hrun;simp [execOp,resolve,invoke,builtin,hrun,cs]
 refine Zz hx (by simp) ?_;show next (a.put o.dst _) _;rw [e1];refine hn _ E' _ _ h (YT hS k5 k1 (by omega) k4 (λhh=>?_) (by simpa [Nat.blt_eq] using h2) (λ_ _ _ e=>by cases e) ?_)
 . rw [ZS.2 hh] at h1;cases h1
 . simp only [R];exact ⟨by simp [ltn],by omega,by rw [k2];exact ⟨rfl,rfl⟩⟩
theorem Zts {ax ay:Operand} {u k v:Nat} {xs:List (List SV)} (hx:ZaI σ ax = .mr k v) (hk:lkh k σ.hp = .row v m xs T) (hy:ZaI σ ay = .v (.int .i64 0)) (ht:P.underlying t=some (.slice T)) (hm:Xh P T=some m)
 (h1:Y3 u σ.gs=false) (h2:Nat.blt u σ.N=true) (h:r ⟨(u,.mr k (v+1)) :: σ.fr,(k,.row (v+1) m [] T) :: σ.hp,σ.n,σ.N,σ.gs⟩ K) :
 RAW P (some u) (.slice t ax none (some ay) none) ty σ r K:=by
 intro o C E a w next Q e1 e2 e3 hS hn hq;have hxv:=W8 hS hx (λ_ _ _=>by simp);have hyv:=W8 hS hy (λ_ _ _=>by simp);simp only [R] at hxv hyv;obtain ⟨hnk,hvi,hxv,_⟩:=hxv;have hb:=hS.hs.bk k;rw [hk] at hb;simp only [Z1] at hb;obtain ⟨his,hb⟩:=hb
 have key:∃ y,(execOp a.eval o).run P w = .ok (.value y) w/\y.oneCell'=true/\((([]:List (List SV))=[]/\∃ a,y = .slice a 0 0)\/∃ b cap cs,y = .slice (some ⟨b,0,none⟩) ([]:List (List SV)).length cap/\(occ E k (lkh k σ.hp) b\/w.heap.size<=b)/\w.heap[b]? = some (.cells cs T (0,0))/\cs.size=cap * m/\(([]:List (List SV)).length<=cap/\cap≠0)/\([]:List (List SV)).length<=9223372036854775807 /\
  (∀ r ∈ ([]:List (List SV)),r.length=m)/\RL w E (ltn σ.n) (okS C E σ.hp) ([]:List (List SV)).flatten (cs.toList.take (([]:List (List SV)).length * m))):=by
  have hex:∀ {ad len cap},a.eval ax = .slice ad len cap->(execOp a.eval o).run P w = .ok (.value (.slice (if cap=0 then ad else ad.map (·.add (0 * m))) 0 cap)) w:=by
   intro ad len cap he;obtain ⟨dst',op',ty',pos,after,guard⟩:=o;simp only at e2 e3;subst e2;simp [execOp,Sem.run_bind,he,hyv,ZeM ht hm]
  rcases hb with ⟨g0,a0,g1⟩ | ⟨b,cap,cs,g1,g2,g3,g4,g5,g6,g7⟩
  . rw [hxv] at hex;exact ⟨_,hex g1,rfl,.inl ⟨rfl,_,rfl⟩⟩
  . rw [hxv] at hex;have:=hex g1;rw [if_neg g4.2] at this;refine ⟨_,this,rfl,.inr ⟨b,cap,cs,by simp [Addr.add],.inl (by rw [hk];exact ⟨_,_,g1,g4.2⟩),g2,g3,⟨Nat.zero_le _,g4.2⟩,by simp,λr hr=>by simp at hr,by simp [RL]⟩⟩
 obtain ⟨y,hrun,hone,hv⟩:=key;obtain ⟨E',g1',g2',g3',g4',g5',g6'⟩:=Zcd (w':=w) (xs':=[]) (y:=y) hS.hs hk rfl rfl rfl (Nat.le_refl _) (λ_ _ _=>rfl) hv;refine Zz hrun (by simp) ?_;show next (a.put o.dst _) w;rw [e1]
 exact hn _ E' _ _ h (YT (σ:=σ) (hp':=(k,.row (v+1) m [] T) :: σ.hp) hS g6' g1' (Nat.le_refl _) g5' (λhh=>by rw [ZS.2 hh] at h1;cases h1) (by simpa [Nat.blt_eq] using h2) (λ_ _ _ e=>by cases e)
  (by simp only [R];exact ⟨g4',by omega,g2'.symm,hone⟩))
end
end Go.Sx
namespace Go.Proofs.YtkpkgafhfakpdaaGreatDoor
open Go Go.Sx Go.Azalai
theorem ZyE (h:Nat) (caps:List SV) (hk:KFL caps) (g:Pack->Bool) (l:List Pack) (hg:∀ x ∈ l,Ct Tryz.prog h (.agg (Zo x) :: caps) (B (g x))) (hl:l.length < 4611686018427387904) {c:Bool} :
 Ct Tryz.prog 202 [.sl c 11 (l.map Zo),.cl h caps] (I (Yv g l 0)):=by
 refine t202.1 ⟨by simp [KF,Za,KFL,Zo],hk,trivial⟩ (by simp [KF]) ?_;dsimp only [c202,r202,go_sem];refine Yb (λk:Nat=>[(8,I k)]) (λ_=>[]) (λk=>k<=l.length/\Yv g (l.drop k) k=Yv g l 0) (λk=>l.length - k) 0 ⟨Nat.zero_le _,rfl⟩ ?_ ?_
 . (refine Zi ?_ ?_ ?_ rfl rfl<;>dsimp only [Zo,hk,id,go_sem]<;>simp [Zo,hk,Za])
 . intro k ⟨hk',hi⟩;dsimp only [go_sem];refine br ?_ ?_
   . intro hlt;have hlt:k < l.length:=by simpa using hlt
     dsimp only [go_sem];refine Zx k hlt rfl ?_;dsimp only [Zo,go_sem];refine call (hg l[k] (List.getElem_mem _)) ?_;dsimp only [go_sem];refine br ?_ ?_
     . intro hgx;dsimp only [go_sem];rw [<- hi,List.drop_eq_getElem_cons hlt];simp [Yv,hgx]
     . intro hgx;dsimp only [go_sem];refine ⟨k+1,⟨by omega,?_⟩,by omega,?_⟩
       . rw [<- hi,List.drop_eq_getElem_cons hlt];simp [Yv,hgx]
       . rw [Zf (by omega) (by omega)];(refine Zi ?_ ?_ ?_ rfl rfl<;>dsimp only [Zo,hk,id,go_sem]<;>simp [Zo,hk,Za])
   . intro hlt;have hlt:k=l.length:=by simp at hlt;omega
     dsimp only [go_sem];rw [<- hi,hlt];simp [Yv]
theorem Zyx (h:Nat) (caps:List SV) (hk:KFL caps) (g:Pack->Bool) (l:List Pack) (hg:∀ x ∈ l,Ct Tryz.prog h (.agg (Zo x) :: caps) (B (g x))) (hl:l.length < 4611686018427387904) {c:Bool} :
 Ct Tryz.prog 159 [.sl c 11 (l.map Zo),.cl h caps] (B (l.any g)):=by
 refine t159.1 ⟨by simp [KF,Za,KFL,Zo],hk,trivial⟩ (by simp [KF]) ?_;dsimp only [c159,r159,go_sem];refine call (ZyE h caps hk g l hg hl) ?_;dsimp only [go_sem];rw [YR]
theorem ZfM (p:Pack):Ct Tryz.prog 160 [.agg (Zo p),.ps [.cl 67 []] 0] (B (!ZW p)):=by
 refine t160.1 (by simp [Zo]) (by simp) ?_;dsimp only [c160,r160,Zo,go_sem];refine call (Zcs p) ?_;dsimp only [go_sem]
theorem ZcN (l:List Pack) (hl:l.length < 4611686018427387904) (c:Bool):Ct Tryz.prog 100 [.sl c 11 (l.map Zo),.cl 67 []] (B (l.all ZW)):=by
 refine t100.1 (by simp [Za,Zo]) (by simp) ?_;dsimp only [c100,r100,go_sem];refine Xi (by simp [FLT]) (res:=B (l.any λx=>!ZW x)) ?_ ?_
 . dsimp only [go_sem];exact Zyx 160 [.ps [.cl 67 []] 0] (by simp) (λx=>!ZW x) l (λx _=>ZfM x) hl
 . dsimp only [go_sem];simp [List.all_eq_not_any_not]
theorem ZhK {l:List Span} {k:Nat} {acc:Span} (hb:∀ s ∈ l,0<=s.lo/\s.lo<=s.hi/\s.hi<=1000000) (hl:l.length<=1000) (hk:k < l.length) (h0:0<=acc.lo) (h1:acc.lo<=acc.hi) (h2:acc.hi<=k * 1000000) :
 -9223372036854775808<=acc.lo+l[k].lo/\acc.lo+l[k].lo<=9223372036854775807/\-9223372036854775808<=acc.hi+l[k].hi/\acc.hi+l[k].hi<=9223372036854775807/\0<=(Zfm acc l[k]).lo/\(Zfm acc l[k]).lo<=(Zfm acc l[k]).hi/\(Zfm acc l[k]).hi<=((k+1:Nat):Int) * 1000000:=by
 have:=hb l[k] (List.getElem_mem hk);simp only [Zfm];omega
theorem ZzO (l:List Span) (hb:∀ s ∈ l,0<=s.lo/\s.lo<=s.hi/\s.hi<=1000000) (hl:l.length<=1000) (c:Bool):Ct Tryz.prog 111 [.sl c 2 (l.map Zh)] (.agg (Zh (Zfc Zy l))):=by
 refine t111.1 (by simp [Za,Zh]) (by simp [Zh]) ?_;dsimp only [c111,r111,go_sem];simp only [List.length_map];refine Yb (λq:Nat × Span=>[(7,I q.1)]) (λq=>[(0,.cells (Zh q.2) 23)]) (λq=>q.1<=l.length/\(0<=q.2.lo/\q.2.lo<=q.2.hi/\q.2.hi<=q.1 * 1000000)/\Zfc q.2 (l.drop q.1)=Zfc Zy l) (λq=>l.length - q.1) (0,Zy) ⟨Nat.zero_le _,by decide,rfl⟩ ?_ ?_
 . (refine Zi ?_ ?_ ?_ rfl rfl<;>dsimp only [Zh,Zy,id,go_sem]<;>simp [Zh,Zy,Za])
 rintro ⟨k,acc⟩ ⟨hk,ha,hi⟩;simp only at hk ha hi;dsimp only [Zh,go_sem];by_cases hlt:k < l.length
 . refine Zt (by simpa using hlt) ?_;dsimp only [go_sem];refine Zx k hlt rfl ?_;dsimp only [Zh,go_sem];obtain ⟨w1,w2,w3,w4,w5,w6,w7⟩:=ZhK hb hl hlt ha.1 ha.2.1 ha.2.2;rw [Zf (n:=acc.lo+l[k].lo) (by omega) (by omega),Zf (n:=acc.hi+l[k].hi) (by omega) (by omega),Zf (n:=(k:Int)+1) (by omega) (by omega)];rw [List.drop_eq_getElem_cons hlt,Zfc] at hi;refine ⟨(k+1,Zfm acc l[k]),⟨hlt,⟨w5,w6,w7⟩,hi⟩,by simp only;omega,?_⟩
   (refine Zi ?_ ?_ ?_ rfl rfl<;>dsimp only [Zh,Zfm,id,go_sem]<;>simp [Zh,Zfm,Za])
 refine Zn (by simp;omega) ?_;dsimp only [go_sem];have:k=l.length:=by omega
 subst this;rw [List.drop_length,Zfc] at hi;rw [<- hi]
def ZfL (l:List Pack) (t:Tied):List SV:=[.sl false 1 (t.left.map Zk),.sl false 1 (t.right.map Zk),.sl false 1 (t.top.map Zk),.sl false 2 (l.map λp=>Zh (YI p).1)]
theorem Zll {l:List Pack} {k:Nat} (h:k < l.length):Uz l (k:Int)=(YI l[k]).1:=by
 simp [Uz,List.getD_eq_getElem?_getD,List.getElem?_eq_getElem h]
theorem ZkF {α : Type} {f:α->List SV} (h:∀ x,KFL (f x)) (n:Nat) (l:List α):KFR (List.take n (List.map f l)):=by
 rw [<- List.map_take,Za];exact λx _=>h x
theorem Zxj (n:Nat) (l:List Pack):KFR (List.take n (List.map (λp=>[I (YI p).1.lo,I (YI p).1.hi]) l)):=ZkF (λ_=>by simp) n l
theorem Zx3 (n:Nat) (l:List Pack) (q:List Int):KFR (List.take n (List.map (λi=>[I (Uz l i).lo,I (Uz l i).hi]) q)):=ZkF (λ_=>by simp) n q
theorem Zay (l:List Pack) (t:Tied) (q:List Int) (hp:l.all ZW=true) (hl:l.length<=1000) (hq:∀ i ∈ q,0<=i/\i < l.length) (hql:q.length<=1000) (c:Bool) :
 Ct Tryz.prog 52 [.agg (ZfL l t),.sl c 1 (q.map Zk)] (.agg (Zh (YY l q))):=by
 refine t52.1 (by simp [ZfL,Za,Zh,Zk]) (by simp [Zh]) ?_;dsimp only [c52,r52,ZfL,go_sem];simp only [List.length_map];refine ZmU (Xt 5 2 23 rfl rfl) (λs:Nat × Nat=>[(10,I s.1),(5,.mr 2 s.2)]) (λs=>[(2,.row s.2 2 ((q.take s.1).map λi=>Zh (Uz l i)) 23)]) (λs=>s.1<=q.length) (λs=>q.length - s.1) (0,0) (Nat.zero_le _) ?_ ?_
 . (refine Zi ?_ ?_ ?_ rfl rfl<;>dsimp only [Zh,Zk,id,go_sem]<;>simp [Zh,Zk,Za])
 rintro ⟨k,v⟩ hk;simp only at hk;dsimp only [go_sem];by_cases hlt:k < q.length
 . refine Zt (by simpa using hlt) ?_;dsimp only [go_sem];refine Zx k hlt rfl ?_;dsimp only [Zk,go_sem];obtain ⟨h1,h2⟩:=hq q[k] (List.getElem_mem hlt);obtain ⟨j,hj⟩:=Int.eq_ofNat_of_zero_le h1;have hjl:j < l.length:=by omega
   rw [hj];refine Zx j hjl rfl ?_;dsimp only [Zh,go_sem];simp only [nbr];dsimp only [go_sem];refine ⟨(by intro c hc;simp only [List.mem_singleton] at hc;subst hc;rfl),by simp;omega,?_⟩;dsimp only [go_sem];rw [Zf (n:=(k:Int)+1) (by omega) (by omega)];refine ⟨(k+1,v+1),hlt,by simp only;omega,?_⟩;simp only;rw [List.take_succ_eq_append_getElem hlt,List.map_append];simp only [List.map_cons,List.map_nil,hj,Zll hjl]
   (refine Zi ?_ ?_ ?_ rfl rfl<;>dsimp only [Zh,Zk,Zx3,id,go_sem]<;>simp [Zh,Zk,Zx3,Za])
 refine Zn (by simp;omega) ?_;dsimp only [go_sem];have:k=q.length:=by omega
 subst this;rw [List.take_length];refine Xi (by simp [FLT,Zxf,Zh]) (res:=.agg (Zh (YY l q))) ?_ ?_
 . dsimp only [go_sem];simp only [nbr];dsimp only [go_sem];have:=ZzO (q.map (Uz l)) (λs hs=>by obtain ⟨i,_,rfl⟩:=List.mem_map.1 hs;exact Zem hp i) (by simpa using hql) false;rw [List.map_map] at this;exact this
 . dsimp only [Zh,go_sem]
theorem Znu (l:List Pack) (hp:l.all ZW=true) (hl:l.length<=1000) (c:Bool):Ct Tryz.prog 49 [.sl c 11 (l.map Zo)] (.sl false 2 (l.map λp=>Zh (YI p).1)):=by
 refine t49.1 (by simp [Za,Zo]) (by simp [Za,Zh]) ?_;dsimp only [c49,r49,go_sem];simp only [List.length_map];refine ZmU (Xt 3 2 23 rfl rfl) (λs:Nat × Nat=>[(12,I s.1),(3,.mr 0 s.2)]) (λs=>[(0,.row s.2 2 ((l.take s.1).map λp=>Zh (YI p).1) 23)]) (λs=>s.1<=l.length) (λs=>l.length - s.1) (0,0) (Nat.zero_le _) ?_ ?_
 . (refine Zi ?_ ?_ ?_ rfl rfl<;>dsimp only [Zh,Zo,id,go_sem]<;>simp [Zh,Zo,Za])
 rintro ⟨k,v⟩ hk;simp only at hk;dsimp only [go_sem];by_cases hlt:k < l.length
 . refine Zt (by simpa using hlt) ?_;dsimp only [go_sem];refine Zx k hlt rfl ?_;dsimp only [Zo,go_sem];refine call (ZbR l[k] (List.all_eq_true.1 hp _ (List.getElem_mem hlt))) ?_;dsimp only [Zh,go_sem];simp only [nbr];dsimp only [go_sem];refine ⟨(by intro c hc;simp only [List.mem_singleton] at hc;subst hc;rfl),by simp;omega,?_⟩;dsimp only [go_sem];rw [Zf (n:=(k:Int)+1) (by omega) (by omega)];refine ⟨(k+1,v+1),hlt,by simp only;omega,?_⟩
   simp only;rw [List.take_succ_eq_append_getElem hlt,List.map_append];simp only [List.map_cons,List.map_nil];(refine Zi ?_ ?_ ?_ rfl rfl<;>dsimp only [Zh,Zo,Zxj,id,go_sem]<;>simp [Zh,Zo,Zxj,Za])
 refine Zn (by simp;omega) ?_;dsimp only [go_sem];have:k=l.length:=by omega
 subst this;rw [List.take_length];simp only [nbr];dsimp only [go_sem]
theorem Zga (l:List Pack) (t:Tied) (bound:Int) (hp:l.all ZW=true) (hl:l.length<=1000) (h1:∀ i ∈ t.left,0<=i/\i < l.length) (h2:∀ i ∈ t.right,0<=i/\i < l.length) (hq1:t.left.length<=1000) (hq2:t.right.length<=1000) (hb:0<=bound/\bound<=1000000000) :
 Ct Tryz.prog 50 [.agg (ZfL l t),I bound] (U8 (Zvx l t bound)):=by
 have b1:=ZeD hp t.left;have b2:=ZeD hp t.right;refine t50.1 (by simp [ZfL,Za,Zh,Zk]) (by simp) ?_;dsimp only [c50,r50,ZfL,go_sem];refine call (Zay l t t.left hp hl h1 hq1 false) ?_;dsimp only [go_sem];refine call (Zay l t t.right hp hl h2 hq2 false) ?_;dsimp only [Zh,go_sem];have hbal:Zvx l t bound=Zyn (YY l t.left) (YY l t.right) bound:=rfl;rw [hbal];generalize YY l t.left=a at b1 ⊢;generalize YY l t.right=b at b2 ⊢
 rw [Zf (n:=a.lo - b.hi) (by omega) (by omega),Zf (n:=a.hi - b.lo) (by omega) (by omega)];rw [Zf (n:=0 - bound) (by omega) (by omega),Int.zero_sub];refine call (inL2 (-bound) bound (a.lo - b.hi) (a.hi - b.lo) _) ?_;dsimp only [go_sem];by_cases e1:-bound<=a.lo - b.hi/\a.hi - b.lo<=bound
 . by_cases e2:inR (-bound) bound (a.lo - b.hi)=true/\inR (-bound) bound (a.hi - b.lo)=true
   . refine Zt (by simp [e2.1,e2.2]) ?_;dsimp only [go_sem];rw [Zyn,if_pos e1]
   . exfalso;apply e2;simp only [inR,decide_eq_true_eq];omega
 refine Zn (by
  rw [Bool.eq_false_iff];intro h;simp only [Bool.and_eq_true,inR,decide_eq_true_eq] at h
  exact e1 ⟨h.1.1,h.2.2⟩) ?_
 dsimp only [go_sem];repeat (refine gb ?_;dsimp only [go_sem])
 try rw [Zf (n:=0 - bound) (by omega) (by omega),Int.zero_sub]
 by_cases e2:a.lo - b.hi > bound\/a.hi - b.lo < -bound
 . refine Zt (by simpa using e2) ?_;dsimp only [go_sem];rw [Zyn,if_neg e1,if_pos e2]
 refine Zn (by
  rw [Bool.eq_false_iff];intro h
  exact e2 (by simpa using h)) ?_
 dsimp only [go_sem];rw [Zyn,if_neg e1,if_neg e2]
theorem u29:Tryz.prog.underlying 29=some (.slice 3):=by kernel_rfl
theorem u3:Tryz.prog.underlying 3=some (.int .i64):=by kernel_rfl
theorem sz3:Xh Tryz.prog 3=some 1:=by kernel_rfl
theorem info3:∃ i z,Tryz.prog.info? 3=some i/\i.zero=some z/\i.size=1/\z.oneCell'=true/\i.bytes=8:=by
 refine ⟨_,.int .i64 0,rfl,?_,?_,rfl,?_⟩<;>kernel_rfl
theorem ZoJ:CtM Tryz.prog 172 [] 0 [.v (.slice none 0 0),I 0] (λo=>o=⟨false,.v (.slice none 0 0),[],0⟩):=by
 refine m172 (by simp [hpb]) (λo ho=>by subst ho;simp [KX,KXP]) ?_;dsimp only [Zz3,Zz9,go_sem];refine Zn rfl ?_;dsimp only [go_sem];refine ZbV rfl u29 ?_;dsimp only [go_sem];refine ZbY rfl u29 ?_;dsimp only [go_sem];refine Zn (by decide) ?_;dsimp only [go_sem];refine ⟨_,rfl,?_⟩;(refine Zp ?_ ?_ ?_ rfl<;>dsimp only [id,go_sem]<;>simp [Za])
theorem ZoH (n:Nat) (h0:0 < n) (h1:n<=100000):CtM Tryz.prog 172 [] 0 [.v (.slice none 0 0),I n] (λo=>o=⟨false,.mr 0 1,[(0,.row 1 1 [] 3)],1⟩):=by
 obtain ⟨i,z,q1,q2,q3,q4,q5⟩:=info3;refine m172 (by simp [hpb]) (λo ho=>by subst ho;simp [KX,KXP,KXH,KFR]) ?_;dsimp only [Zz3,Zz9,go_sem];refine Zn (by simp) ?_;dsimp only [go_sem];refine ZbV rfl u29 ?_;dsimp only [go_sem];refine ZbY rfl u29 ?_;dsimp only [go_sem];rw [Zf (n:=0 - 0) (by omega) (by omega)];rw [Zf (n:=(n:Int) - (0 - 0)) (by omega) (by omega)];rw [show (n:Int) - (0 - 0)=n from by omega]
 refine Zt (by simp;omega) ?_;dsimp only [go_sem];refine ZbV rfl u29 ?_;dsimp only [go_sem];refine Zus rfl rfl u29 sz3 ?_;dsimp only [go_sem];refine ZmT rfl rfl rfl rfl u29 u3 q1 q2 q3 q4 h0 (by rw [q5];omega) (by omega) ?_;dsimp only [go_sem];refine ZbY rfl u29 ?_;dsimp only [go_sem];refine Zts rfl rfl rfl u29 sz3 rfl rfl ?_;dsimp only [go_sem];refine ⟨_,rfl,?_⟩;(refine Zp ?_ ?_ ?_ rfl<;>dsimp only [id,go_sem]<;>simp [Za])
theorem Zij (a b c:List Int) (ha:a.length<=1000) (hb:b.length<=1000) (hc:c.length<=1000) (k:Bool) :
 Ct Tryz.prog 112 [.sl k 1 [[.sl false 1 (a.map Zk)],[.sl false 1 (b.map Zk)],[.sl false 1 (c.map Zk)]]] (.sl false 1 ((a ++ (b ++ c)).map Zk)):=by
 refine t112.1 (by simp [Za,KFR,Zk]) (by simp [Za,Zd,Zk]) ?_;dsimp only [c112,r112,go_sem];refine ZU 4 ?_;dsimp only [Zc,go_sem];refine Zt rfl ?_;dsimp only [go_sem];refine ixs 0 _ rfl rfl ?_;dsimp only [go_sem];simp only [List.length_map];rw [Zf (n:=0+(a.length:Int)) (by omega) (by omega)];refine Zn (by simp) ?_;dsimp only [Zc,go_sem];refine Zt rfl ?_;dsimp only [go_sem];refine ixs 1 _ rfl rfl ?_
 dsimp only [go_sem];simp only [List.length_map];rw [Zf (n:=0+(a.length:Int)+(b.length:Int)) (by omega) (by omega)];refine Zn (by simp;omega) ?_;dsimp only [Zc,go_sem];refine Zt rfl ?_;dsimp only [go_sem];refine ixs 2 _ rfl rfl ?_;dsimp only [go_sem];simp only [List.length_map];rw [Zf (n:=0+(a.length:Int)+(b.length:Int)+(c.length:Int)) (by omega) (by omega)];refine Zn (by simp;omega) ?_;dsimp only [Zc,go_sem]
 refine Zn rfl ?_;dsimp only [go_sem];have hn:(0+(a.length:Int)+(b.length:Int)+(c.length:Int))=((a.length+b.length+c.length:Nat):Int):=by omega
 rw [hn];have one:∀ q:List Int,∀ r ∈ q.map Zk,Yr r=true:=λq r hr=>by obtain ⟨x,_,rfl⟩:=List.mem_map.1 hr;rfl
 by_cases h0:a.length+b.length+c.length=0
 . rw [h0];refine Zl [] ZoJ rfl rfl rfl ?_ ?_ ?_
   . (repeat first | dsimp only [go_sem] | simp only [nbr])
     try simp [mtL,mtB,mtS]
   . trivial
   rintro _ rfl
   (repeat first | dsimp only [go_sem] | simp only [nbr])
   refine gh (Xt 6 1 3 rfl rfl) ?_;dsimp only [go_sem];refine ZU 4 ?_;dsimp only [Zc,go_sem];refine Zt rfl ?_;dsimp only [go_sem];refine ixs 0 _ rfl rfl ?_;dsimp only [go_sem];refine ⟨one a,by simp;omega,?_⟩;dsimp only [Zc,go_sem];refine Zt rfl ?_;dsimp only [go_sem];refine ixs 1 _ rfl rfl ?_;dsimp only [go_sem];refine ⟨one b,by simp;omega,?_⟩;dsimp only [Zc,go_sem];refine Zt rfl ?_;dsimp only [go_sem]
   refine ixs 2 _ rfl rfl ?_;dsimp only [go_sem];refine ⟨one c,by simp;omega,?_⟩;dsimp only [Zc,go_sem];refine Zn rfl ?_;dsimp only [go_sem];simp
 . refine Zl [] (ZoH (a.length+b.length+c.length) (by omega) (by omega)) rfl rfl rfl ?_ ?_ ?_
   . (repeat first | dsimp only [go_sem] | simp only [nbr])
     try simp [mtL,mtB,mtS]
   . trivial
   rintro _ rfl
   (repeat first | dsimp only [go_sem] | simp only [nbr])
   refine gh Zr ?_;dsimp only [go_sem];refine ZU 4 ?_;dsimp only [Zc,go_sem];refine Zt rfl ?_;dsimp only [go_sem];refine ixs 0 _ rfl rfl ?_;dsimp only [go_sem];refine ⟨one a,by simp;omega,?_⟩;dsimp only [Zc,go_sem];refine Zt rfl ?_;dsimp only [go_sem];refine ixs 1 _ rfl rfl ?_;dsimp only [go_sem];refine ⟨one b,by simp;omega,?_⟩;dsimp only [Zc,go_sem];refine Zt rfl ?_;dsimp only [go_sem];refine ixs 2 _ rfl rfl ?_
   dsimp only [go_sem];refine ⟨one c,by simp;omega,?_⟩;dsimp only [Zc,go_sem];refine Zn rfl ?_;dsimp only [go_sem];simp
def Zvk:SC:=(sr1 [o1 3 (Jz 1 0 132),Jw 4 Jf] (sr1 [m1 5 0,o1 6 (.mkf 215 [.t 3]),o1 7 (.callm 140 [.t 5,.t 6]),o1 8 (Jh 7),m1 4 8] .ret))
def ZtA:List RV:=[.tmp 4]
theorem nw170:Tryz.f170.ntmps=9:=by kernel_rfl
theorem bw170:ZV Tryz.prog 170=true:=by kernel_rfl
theorem ZlL:YA Tryz.prog Zvk ((Tryz.f170.body).getD .skip)=true:=by kernel_rfl
theorem Zql:YQ Tryz.prog ZtA Tryz.f170.results.toList=true:=by kernel_rfl
theorem mw170 {n0:Nat} {hp0:List (Nat × HB)} {args:List SV} {Zw:Ot->Prop} (hh:hpb n0 hp0) (hx:∀ o,Zw o->KX o.res/\KXP o.hp) (h:sx Tryz.prog Y0 n0 Zvk ⟨YD 0 args,hp0,n0,9,[]⟩ (Xs ZtA λo=>∃ o',Zw o'/\XV n0 o o')) (hA:Nat.ble args.length 9=true:=by rfl):CtM Tryz.prog 170 hp0 n0 args Zw:=Zv Tryz.func170 rfl bw170 ZlL Zql nw170 (Nat.le_of_ble_eq_true hA) hh hx h
def Zt6:SC:=(sr1 [Jw 4 Jf] (sr1 [m1 5 0,m1 6 1,o1 7 (.callm 192 [.t 5,.t 6]),o1 8 (Jc .geq 7 0),m1 4 8] .ret))
def ZvC:List RV:=[.tmp 4]
theorem nw140:Tryz.f140.ntmps=9:=by kernel_rfl
theorem bw140:ZV Tryz.prog 140=true:=by kernel_rfl
theorem Zne:YA Tryz.prog Zt6 ((Tryz.f140.body).getD .skip)=true:=by kernel_rfl
theorem ZpH:YQ Tryz.prog ZvC Tryz.f140.results.toList=true:=by kernel_rfl
theorem mw140 {n0:Nat} {hp0:List (Nat × HB)} {args:List SV} {Zw:Ot->Prop} (hh:hpb n0 hp0) (hx:∀ o,Zw o->KX o.res/\KXP o.hp) (h:sx Tryz.prog Y0 n0 Zt6 ⟨YD 0 args,hp0,n0,9,[]⟩ (Xs ZvC λo=>∃ o',Zw o'/\XV n0 o o')) (hA:Nat.ble args.length 9=true:=by rfl):CtM Tryz.prog 140 hp0 n0 args Zw:=Zv Tryz.func140 rfl bw140 Zne ZpH nw140 (Nat.le_of_ble_eq_true hA) hh hx h
def Zuc:SC:=(sr1 [Jk 4 0] (.seq (sr1 [m1 6 0,o1 7 (Jl 6),Jk 8 0] (.block 0 (.loop (sr1 [o1 9 (Jb .lss 8 7)] (.seq (Ji 9 .skip (.exit 0)) (.seq (.block 1 (sr1 [m1 10 8,m1 5 10] (sr1 [m1 11 1,m1 12 0,m1 13 5,o1 14 (Jx 12 13 1),o1 15 (lf 14 1),o1 16
 (.calvm (.t 11) [.t 15])] (Ji 16 (sr1 [m1 17 5,m1 4 17] .ret) .skip)))) (.reg [o1 18 (Jc .add 8 1),m1 8 18]))))))) (sr1 [o1 4 (.mv (cn (-1)))] .ret)))
def Zv9:List RV:=[.tmp 4]
theorem nw192:Tryz.f192.ntmps=19:=by kernel_rfl
theorem bw192:ZV Tryz.prog 192=true:=by kernel_rfl
theorem Zok:YA Tryz.prog Zuc ((Tryz.f192.body).getD .skip)=true:=by kernel_rfl
theorem Zl0:YQ Tryz.prog Zv9 Tryz.f192.results.toList=true:=by kernel_rfl
theorem mw192 {n0:Nat} {hp0:List (Nat × HB)} {args:List SV} {Zw:Ot->Prop} (hh:hpb n0 hp0) (hx:∀ o,Zw o->KX o.res/\KXP o.hp) (h:sx Tryz.prog Y0 n0 Zuc ⟨YD 0 args,hp0,n0,19,[]⟩ (Xs Zv9 λo=>∃ o',Zw o'/\XV n0 o o')) (hA:Nat.ble args.length 19=true:=by rfl):CtM Tryz.prog 192 hp0 n0 args Zw:=Zv Tryz.func192 rfl bw192 Zok Zl0 nw192 (Nat.le_of_ble_eq_true hA) hh hx h
def Zss:SC:=(sr1 [Jw 3 Jf] (sr1 [o1 4 (lf 1 1),m1 5 0,o1 6 (.calvm (.t 4) [.t 5]),o1 7 (Jh 6),m1 3 7] .ret))
def Zv3:List RV:=[.tmp 3]
theorem nw215:Tryz.f215.ntmps=8:=by kernel_rfl
theorem bw215:ZV Tryz.prog 215=true:=by kernel_rfl
theorem ZpI:YA Tryz.prog Zss ((Tryz.f215.body).getD .skip)=true:=by kernel_rfl
theorem ZoA:YQ Tryz.prog Zv3 Tryz.f215.results.toList=true:=by kernel_rfl
theorem mw215 {n0:Nat} {hp0:List (Nat × HB)} {args:List SV} {Zw:Ot->Prop} (hh:hpb n0 hp0) (hx:∀ o,Zw o->KX o.res/\KXP o.hp) (h:sx Tryz.prog Y0 n0 Zss ⟨YD 0 args,hp0,n0,8,[]⟩ (Xs Zv3 λo=>∃ o',Zw o'/\XV n0 o o')) (hA:Nat.ble args.length 8=true:=by rfl):CtM Tryz.prog 215 hp0 n0 args Zw:=Zv Tryz.func215 rfl bw215 ZpI ZoA nw215 (Nat.le_of_ble_eq_true hA) hh hx h
def ZrU:SC:=(sr1 [Jw 4 Jf] (sr1 [o1 6 (lf 1 1),o1 7 (Jc .add 6 1),o1 8 (lf 2 1),o1 9 (Jc .sub 8 1),m1 10 0,o1 11 (.bsl 1 3 [.t 10]),o1 12 (J3 95 7 9 11),m1 5 12] (sr1 [m1 13 0,Js 1 13 1] (sr1 [m1 14 5,m1 4 14] .ret))))
def Zwx:List RV:=[.tmp 4]
theorem nw171:Tryz.f171.ntmps=15:=by kernel_rfl
theorem bw171:ZV Tryz.prog 171=true:=by kernel_rfl
theorem Znx:YA Tryz.prog ZrU ((Tryz.f171.body).getD .skip)=true:=by kernel_rfl
theorem Zpj:YQ Tryz.prog Zwx Tryz.f171.results.toList=true:=by kernel_rfl
theorem mw171 {n0:Nat} {hp0:List (Nat × HB)} {args:List SV} {Zw:Ot->Prop} (hh:hpb n0 hp0) (hx:∀ o,Zw o->KX o.res/\KXP o.hp) (h:sx Tryz.prog Y0 n0 ZrU ⟨YD 0 args,hp0,n0,15,[]⟩ (Xs Zwx λo=>∃ o',Zw o'/\XV n0 o o')) (hA:Nat.ble args.length 15=true:=by rfl):CtM Tryz.prog 171 hp0 n0 args Zw:=Zv Tryz.func171 rfl bw171 Znx Zpj nw171 (Nat.le_of_ble_eq_true hA) hh hx h
def c110:SC:=(sr1 [o1 3 (Jz 1 0 3),Jw 4 Jf] (sr1 [o1 5 (.alloc [.int .i64 0] 3),⟨none,.st (.t 5) (cn (-1)) 1,none,[]⟩] (sr1 [m1 6 0,o1 7 (.mkf 171 [.t 5,.t 3]),o1 8 (.callm 170 [.t 6,.t 7]),m1 4 8] .ret)))
def r110:List RV:=[.tmp 4]
theorem t110:Qt1 Tryz.prog 110 c110 r110 9:=ZL Tryz.func110
end Go.Proofs.YtkpkgafhfakpdaaGreatDoor
namespace Go.Azalai
def ZcD:Int->List Int->Int
 | a,[]=>a
 | _,x :: l=>ZcD x l
theorem Vt {n:Int}:∀ {l:List Int} {last:Int},-1<=last->Xb n last l=true->∀ i ∈ l,0<=i/\i < n
 | [],_,_,_=>by simp
 | x :: l,last,h0,h=>by
  simp only [Xb,inR,Bool.and_eq_true,decide_eq_true_eq] at h;intro i hi;rcases List.mem_cons.1 hi with rfl | hi
  . omega
  . exact Vt (by omega) h.2 i hi
end Go.Azalai
namespace Go.Proofs.YtkpkgafhfakpdaaGreatDoor
open Go Go.Sx Go.Azalai
theorem Zq2 (t:Tied) (ha:t.left.length<=1000) (hb:t.right.length<=1000) (hc:t.top.length<=1000):Ct Tryz.prog 53 [.agg (ZY t)] (.sl false 1 ((ZcK t).map Zk)):=by
 refine t53.1 (by simp [ZY,Za,Zk]) (by simp [Za,Zd,Zk]) ?_;dsimp only [c53,r53,ZY,go_sem];refine call (Zij t.left t.right t.top ha hb hc _) ?_;dsimp only [go_sem];rfl
theorem ZlD (t:Tied):Ct Tryz.prog 99 [.agg (ZY t)] (.agg (ZY t)):=by
 refine t99.1 (by simp [ZY,Za,Zk]) (by simp [ZY,Za,Zk]) ?_;dsimp only [c99,r99,ZY,go_sem]
theorem Yw (k:Int):CtM Tryz.prog 61 [] 0 [B true,I k] (λo=>o=⟨false,.tup [],[],0⟩):=by
 refine m61 (by simp [hpb]) (λo ho=>by subst ho;simp [KX,KXL,KXP]) ?_;dsimp only [c61,r61,go_sem];refine Zn rfl ?_;dsimp only [go_sem];refine ⟨_,rfl,?_⟩;(refine Zp ?_ ?_ ?_ rfl<;>dsimp only [id,go_sem]<;>simp [Za])
theorem ZgG (b:Int) (h:0<=b/\b<=1000000000):CtM Tryz.prog 48 [] 0 [I b] (λo=>o=⟨false,.tup [],[],0⟩):=by
 refine m48 (by simp [hpb]) (λo ho=>by subst ho;simp [KX,KXL,KXP]) ?_;dsimp only [c48,r48,go_sem];refine call (ZAk 0 1000000000 b _) ?_;dsimp only [go_sem];rw [show inR 0 1000000000 b=true from by simp only [inR,decide_eq_true_eq];omega];refine Zl [] (Yw 2) rfl rfl rfl ?_ ?_ ?_
 . (repeat first | dsimp only [go_sem] | simp only [nbr])
   try simp [mtL,mtB,mtS]
 . trivial
 rintro _ rfl
 (repeat first | dsimp only [go_sem] | simp only [nbr])
 refine ⟨_,rfl,?_⟩;(refine Zp ?_ ?_ ?_ rfl<;>dsimp only [id,go_sem]<;>simp [Za])
def rH (last n:Int):List (Nat × HB):=[(0,.cells [I last] 3),(1,.cells [I n] 3)]
def eH (last n:Int):List (Nat × HB):=[(0,.cells [I last] 3),(1,.cells [I n] 3),(2,.cells [.cl 171 [.p 0 0,.p 1 0]] 132)]
theorem Zn2 (last n x:Int) (h1:-1<=last/\last<=100000) (h2:0<=n/\n<=100000):CtM Tryz.prog 171 (rH last n) 2 [I x,.p 0 0,.p 1 0] (λo=>o=⟨false,B (inR (last+1) (n - 1) x),rH x n,2⟩):=by
 refine mw171 (by simp [hpb,rH]) (λo ho=>by subst ho;simp [rH,KX,KXL,KXP,KXH,KFL,KF]) ?_;dsimp only [ZrU,Zwx,rH,go_sem];rw [Zf (n:=last+1) (by omega) (by omega),Zf (n:=n - 1) (by omega) (by omega)];refine call (ZAk (last+1) (n - 1) x _) ?_;dsimp only [go_sem];refine ⟨_,rfl,?_⟩;(refine Zp ?_ ?_ ?_ rfl<;>dsimp only [rH,id,go_sem]<;>simp [rH,Za])
theorem Znv (last n x:Int) (h1:-1<=last/\last<=100000) (h2:0<=n/\n<=100000):CtM Tryz.prog 215 (eH last n) 3 [I x,.p 2 0] (λo=>o=⟨false,B (!inR (last+1) (n - 1) x),eH x n,3⟩):=by
 refine mw215 (by simp [hpb,eH]) (λo ho=>by subst ho;simp [eH,KX,KXL,KXP,KXH,KFL,KF]) ?_;dsimp only [Zss,Zv3,eH,go_sem];refine Zl [0,1] (Zn2 last n x h1 h2) rfl rfl rfl ?_ ?_ ?_
 . (repeat first | dsimp only [rH,go_sem] | simp only [nbr])
   try simp [mtL,mtB,mtS]
 . (repeat first | dsimp only [rH,go_sem] | simp only [nbr])
   try simp [mtL,mtB,mtS]
 rintro _ rfl
 (repeat first | dsimp only [rH,go_sem] | simp only [nbr])
 refine ⟨_,rfl,?_⟩;(refine Zp ?_ ?_ ?_ rfl<;>dsimp only [eH,id,go_sem]<;>simp [eH,Za])
theorem Znz (n:Int) (l:List Int) (last:Int) (h1:-1<=last/\last<=100000) (h2:0<=n/\n<=100000) (hr:Xb n last l=true) (hl:l.length<=1000) (c:Bool) :
 CtM Tryz.prog 192 (eH last n) 3 [.sl c 1 (l.map Zk),.cl 215 [.p 2 0]] (λo=>o=⟨false,I (-1),eH (ZcD last l) n,3⟩):=by
 refine mw192 (by simp [hpb,eH]) (λo ho=>by subst ho;simp [eH,KX,KXL,KXP,KXH,KFL,KF]) ?_;dsimp only [Zuc,Zv9,eH,go_sem];simp only [List.length_map];refine Yb (λq:Nat × Int=>[(8,I q.1)]) (λq=>[(0,.cells [I q.2] 3)]) (λq=>q.1<=l.length/\(-1<=q.2/\q.2<=100000)/\Xb n q.2 (l.drop q.1)=true/\ZcD q.2 (l.drop q.1)=ZcD last l) (λq=>l.length - q.1) (0,last) ⟨Nat.zero_le _,h1,hr,rfl⟩ ?_ ?_
 . (refine Zi ?_ ?_ ?_ rfl rfl<;>dsimp only [Zk,id,go_sem]<;>simp [Zk,Za])
 rintro ⟨k,cur⟩ ⟨hk,hc,hi,hj⟩;simp only at hk hc hi hj;dsimp only [go_sem];by_cases hlt:k < l.length
 . refine Zt (by simpa using hlt) ?_;dsimp only [go_sem];refine Zx k hlt rfl ?_;dsimp only [Zk,go_sem];rw [List.drop_eq_getElem_cons hlt] at hi hj;simp only [Xb,Bool.and_eq_true] at hi;simp only [ZcD] at hj;have hx:inR (cur+1) (n - 1) l[k]=true:=hi.1;refine Zl [0,1,2] (Znv cur n l[k] hc h2) rfl rfl rfl ?_ ?_ ?_
   . (repeat first | dsimp only [eH,go_sem] | simp only [nbr])
     try simp [mtL,mtB,mtS]
   . (repeat first | dsimp only [eH,go_sem] | simp only [nbr])
     try simp [mtL,mtB,mtS]
   rintro _ rfl
   (repeat first | dsimp only [eH,go_sem] | simp only [nbr])
   rw [hx];refine Zn rfl ?_;dsimp only [go_sem];rw [Zf (n:=(k:Int)+1) (by omega) (by omega)];refine ⟨(k+1,l[k]),⟨hlt,by simp only [inR,decide_eq_true_eq] at hx;simp only;omega,hi.2,hj⟩,by simp only;omega,?_⟩;(refine Zi ?_ ?_ ?_ rfl rfl<;>dsimp only [Zk,id,go_sem]<;>simp [Zk,Za])
 refine Zn (by simp;omega) ?_;dsimp only [go_sem];have:k=l.length:=by omega
 subst this;rw [List.drop_length,ZcD] at hj;rw [<- hj];refine ⟨_,rfl,?_⟩;(refine Zp ?_ ?_ ?_ rfl<;>dsimp only [eH,id,go_sem]<;>simp [eH,Za])
theorem Zly (n:Int) (l:List Int) (last:Int) (h1:-1<=last/\last<=100000) (h2:0<=n/\n<=100000) (hr:Xb n last l=true) (hl:l.length<=1000) (c:Bool) :
 CtM Tryz.prog 140 (eH last n) 3 [.sl c 1 (l.map Zk),.cl 215 [.p 2 0]] (λo=>o=⟨false,B false,eH (ZcD last l) n,3⟩):=by
 refine mw140 (by simp [hpb,eH]) (λo ho=>by subst ho;simp [eH,KX,KXL,KXP,KXH,KFL,KF]) ?_;dsimp only [Zt6,ZvC,eH,go_sem];refine Zl [0,1,2] (Znz n l last h1 h2 hr hl c) rfl rfl rfl ?_ ?_ ?_
 . (repeat first | dsimp only [eH,go_sem] | simp only [nbr])
   try simp [mtL,mtB,mtS,Zb,Za,Zk,KFL,KF]
 . (repeat first | dsimp only [eH,go_sem] | simp only [nbr])
   try simp [mtL,mtB,mtS]
 rintro _ rfl
 (repeat first | dsimp only [eH,go_sem] | simp only [nbr])
 refine ⟨_,rfl,?_⟩;(refine Zp ?_ ?_ ?_ rfl<;>dsimp only [eH,id,go_sem]<;>simp [eH,Za])
theorem Zlj (n:Int) (l:List Int) (last:Int) (h1:-1<=last/\last<=100000) (h2:0<=n/\n<=100000) (hr:Xb n last l=true) (hl:l.length<=1000) (c:Bool) :
 CtM Tryz.prog 170 (rH last n) 2 [.sl c 1 (l.map Zk),.cl 171 [.p 0 0,.p 1 0]] (λo=>o=⟨false,B true,rH (ZcD last l) n,2⟩):=by
 refine mw170 (by simp [hpb,rH]) (λo ho=>by subst ho;simp [rH,KX,KXL,KXP,KXH,KFL,KF]) ?_;dsimp only [Zvk,ZtA,rH,go_sem];refine Zl [0,1,2] (Zly n l last h1 h2 hr hl c) rfl rfl rfl ?_ ?_ ?_
 . (repeat first | dsimp only [eH,go_sem] | simp only [nbr])
   try simp [mtL,mtB,mtS,Zb,Za,Zk,KFL,KF]
 . (repeat first | dsimp only [eH,go_sem] | simp only [nbr])
   try simp [mtL,mtB,mtS]
 rintro _ rfl
 (repeat first | dsimp only [eH,go_sem] | simp only [nbr])
 refine ⟨_,rfl,?_⟩;(refine Zp ?_ ?_ ?_ rfl<;>dsimp only [rH,id,go_sem]<;>simp [rH,Za])
theorem U2 (n:Int) (l:List Int) (h2:0<=n/\n<=100000) (hr:Xb n (-1) l=true) (hl:l.length<=1000) (c:Bool):Ct Tryz.prog 110 [.sl c 1 (l.map Zk),I n] (B true):=by
 refine t110.1 (by simp [Za,Zk]) (by simp) ?_;dsimp only [c110,r110,go_sem];refine Zl [1,0] (Zlj n l (-1) (by omega) h2 hr hl c) rfl rfl rfl ?_ ?_ ?_
 . (repeat first | dsimp only [rH,go_sem] | simp only [nbr])
   try simp [mtL,mtB,mtS,Zb,Za,Zk,KFL,KF]
 . (repeat first | dsimp only [rH,go_sem] | simp only [nbr])
   try simp [mtL,mtB,mtS]
 rintro _ rfl
 (repeat first | dsimp only [rH,go_sem] | simp only [nbr])
end Go.Proofs.YtkpkgafhfakpdaaGreatDoor
namespace Go.Azalai
def Uy:Nat->List Int->List (Nat × Int × Bool)
 | _,[]=>[]
 | c,x :: l=>(c,x,true) :: Uy (c+1) l
def Vb (l:List Int):List (Nat × Int × Bool):=Uy 0 l
theorem Zbu {x:Int}:∀ {l:List Int} {c:Nat},Uy c (l ++ [x])=Uy c l ++ [(c+l.length,x,true)]
 | [],_=>rfl
 | y :: l,c=>by simp only [List.cons_append,Uy,Zbu,List.length_cons];rw [show c+1+l.length=c+(l.length+1) from by omega]
theorem Zc8:∀ {l:List Int} {c:Nat} {e:Nat × Int × Bool},e ∈ Uy c l->e.2.1 ∈ l
 | [],_,_,h=>by simp [Uy] at h
 | y :: l,c,e,h=>by
  simp only [Uy,List.mem_cons] at h;rcases h with rfl | h
  . simp
  . exact List.mem_cons_of_mem _ (Zc8 h)
theorem ZcG:∀ {l:List Int} {c:Nat},(Uy c l).length=l.length
 | [],_=>rfl
 | y :: l,c=>by simp only [Uy,List.length_cons,ZcG]
end Go.Azalai
namespace Go.Proofs.YtkpkgafhfakpdaaGreatDoor
open Go Go.Sx Go.Azalai
abbrev kI:Int->Value:=λn=>.int .i64 n
abbrev bV:Bool->SV:=λb=>B b
theorem ZgM:KeyT Tryz.prog 3 kI (λn=>.v (kI n)):=Zrn u3
theorem ZAo:Tryz.prog.underlying 213=some (.map 3 4):=by kernel_rfl
theorem Zce {x:Int} {l:List Int} (h:x ∉ l):UC l.length x true (Vb l)=Vb (l ++ [x])/\UN l.length x (Vb l)=l.length+1:=by
 have hn:Wt x (Vb l)=none:=by
  rw [VO];intro e he hx;exact h (hx ▸ Zc8 he)
 refine ⟨?_,by simp [UN,hn]⟩;rw [ZbE hn,Vb,Vb,Zbu,Nat.zero_add]
theorem U6 {done q:List Int} {k:Nat} (h:k < q.length) (hn:(done ++ q).Nodup):q[k] ∉ done ++ q.take k:=by
 have e:done ++ q=(done ++ q.take k) ++ (q[k] :: q.drop (k+1)):=by
  rw [List.append_assoc,<- List.drop_eq_getElem_cons h,List.take_append_drop]
 rw [e] at hn;intro hm;exact (List.nodup_append.1 hn).2.2 _ hm _ (List.mem_cons_self ..) rfl
theorem Vv (l:List Pack) (t:Tied) (hl:l.length<=30) (hp:l.all ZW=true) (ht:Zeu l.length t=true) (c d:Bool):CtM Tryz.prog 47 [] 0 [.sl c 11 (l.map Zo),.sl d 3 [ZY t]] (λo=>o=⟨false,.tup [],[],0⟩):=by
 simp only [Zeu,Bool.and_eq_true,decide_eq_true_eq] at ht;obtain ⟨⟨⟨⟨hr1,hr2⟩,hr3⟩,hlen⟩,hnd⟩:=ht;have hlen':t.left.length+(t.right.length+t.top.length)<=10:=by simpa [ZcK] using hlen
 have hnd1:([] ++ t.left).Nodup:=(List.nodup_append.1 hnd).1;have hnd3:((t.left ++ t.right) ++ t.top).Nodup:=by rw [List.append_assoc];exact hnd
 have hnd2:(t.left ++ t.right).Nodup:=(List.nodup_append.1 hnd3).1;refine m47 (by simp [hpb]) (λo ho=>by subst ho;simp [KX,KXL,KXP]) ?_;dsimp only [c47,r47,go_sem];simp only [List.length_map];have g30:decide ((l.length:Int)<=30)=true:=by simp;omega
 rw [g30];refine ZO rfl ?_;dsimp only [go_sem];refine ZO rfl ?_;dsimp only [go_sem];refine call (ZcN l (by omega) c) ?_;rw [hp];dsimp only [go_sem];refine Zl [] (Yw 50) rfl rfl rfl ?_ ?_ ?_
 . (repeat first | dsimp only [go_sem] | simp only [nbr])
   try simp [mtL,mtB,mtS]
 . trivial
 rintro _ rfl
 (repeat first | dsimp only [go_sem] | simp only [nbr])
 refine WA rfl rfl rfl ?_;dsimp only [go_sem];refine ZU 2 ?_;dsimp only [Zc,go_sem];refine Zt rfl ?_;dsimp only [go_sem];refine ixs 0 _ rfl rfl ?_;dsimp only [ZY,go_sem];refine call (ZlD t) ?_;dsimp only [ZY,go_sem];refine ZU 4 ?_;dsimp only [Zc,go_sem];refine Zt rfl ?_;dsimp only [go_sem];refine ixa 0 rfl (by decide) ?_;dsimp only [go_sem];simp only [List.length_map];refine call (U2 l.length t.left (by omega) hr1 (by omega) false) ?_
 dsimp only [go_sem];refine Zl [] (Yw 51) rfl rfl rfl ?_ ?_ ?_
 . (repeat first | dsimp only [go_sem] | simp only [nbr])
   try simp [mtL,mtB,mtS]
 . trivial
 rintro _ rfl
 (repeat first | dsimp only [go_sem] | simp only [nbr])
 refine Yb (λk:Nat=>[(39,I k),(40,.any)]) (λk=>[(0,.map (mpS kI bV (Vb (t.left.take k))) (k))]) (λk=>k<=t.left.length) (λk=>t.left.length - k) 0 (Nat.zero_le _) ?_ ?_
 . (refine Zi ?_ ?_ ?_ rfl rfl<;>dsimp only [Zk,Zo,mpS,Vb,Uy,id,go_sem]<;>simp [Zk,Zo,mpS,Vb,Uy,Za])
 intro k hk;dsimp only [go_sem];by_cases hlt:k < t.left.length
 . refine Zt (by simpa using hlt) ?_;dsimp only [go_sem];refine Zx k hlt rfl ?_;dsimp only [Zk,go_sem];have hs:=Zce (l:=t.left.take k) (x:=t.left[k]) (by have:=U6 hlt hnd1;simpa using this);refine Ww (key:=kI) (val:=bV) (sv:=λn=>.v (kI n)) (L:=Vb (t.left.take k)) (k:=t.left[k]) (v:=true) (ins:=false) rfl rfl ZAo ZgM rfl rfl (λ_ _ _ e=>by cases e) ?_;have hE:(t.left.take k).length=k:=by simp;omega
   rw [hE] at hs;rw [hs.1,hs.2];dsimp only [go_sem];rw [Zf (n:=(k:Int)+1) (by omega) (by omega)];refine ⟨k+1,hlt,by omega,?_⟩;rw [List.take_succ_eq_append_getElem hlt];try rw [<- List.append_assoc]
   (refine Zi ?_ ?_ ?_ rfl rfl<;>dsimp only [Zk,Zo,ZN,ZA,Nat.add_assoc,id,go_sem]<;>simp [Zk,Zo,ZN,ZA,Nat.add_assoc,Za])
 refine Zn (by simp;omega) ?_;dsimp only [go_sem];have hke:k=t.left.length:=by omega
 subst hke;simp only [List.take_length,List.length_map];rw [Zf (n:=0+(t.left.length:Int)) (by omega) (by omega)];dsimp only [Zc,go_sem];refine Zt rfl ?_;dsimp only [go_sem];refine ixa 1 rfl (by decide) ?_;dsimp only [go_sem];simp only [List.length_map];refine call (U2 l.length t.right (by omega) hr2 (by omega) false) ?_;dsimp only [go_sem];refine Zl [] (Yw 51) rfl rfl rfl ?_ ?_ ?_
 . (repeat first | dsimp only [go_sem] | simp only [nbr])
   try simp [mtL,mtB,mtS]
 . trivial
 rintro _ rfl
 (repeat first | dsimp only [go_sem] | simp only [nbr])
 refine Yb (λk:Nat=>[(39,I k),(40,.any)]) (λk=>[(0,.map (mpS kI bV (Vb (t.left ++ t.right.take k))) (t.left.length+k))]) (λk=>k<=t.right.length) (λk=>t.right.length - k) 0 (Nat.zero_le _) ?_ ?_
 . (refine Zi ?_ ?_ ?_ rfl rfl<;>dsimp only [Zk,Zo,ZN,ZA,id,go_sem]<;>simp [Zk,Zo,ZN,ZA,Za])
 intro k hk;dsimp only [go_sem];by_cases hlt:k < t.right.length
 . refine Zt (by simpa using hlt) ?_;dsimp only [go_sem];refine Zx k hlt rfl ?_;dsimp only [Zk,go_sem];have hs:=Zce (l:=t.left ++ t.right.take k) (x:=t.right[k]) (by have:=U6 hlt hnd2;simpa using this);refine Ww (key:=kI) (val:=bV) (sv:=λn=>.v (kI n)) (L:=Vb (t.left ++ t.right.take k)) (k:=t.right[k]) (v:=true) (ins:=false) rfl rfl ZAo ZgM rfl rfl (λ_ _ _ e=>by cases e) ?_;have hE:(t.left ++ t.right.take k).length=t.left.length+k:=by simp;omega
   rw [hE] at hs;rw [hs.1,hs.2];dsimp only [go_sem];rw [Zf (n:=(k:Int)+1) (by omega) (by omega)];refine ⟨k+1,hlt,by omega,?_⟩;rw [List.take_succ_eq_append_getElem hlt];try rw [<- List.append_assoc]
   (refine Zi ?_ ?_ ?_ rfl rfl<;>dsimp only [Zk,Zo,ZN,ZA,Nat.add_assoc,id,go_sem]<;>simp [Zk,Zo,ZN,ZA,Nat.add_assoc,Za])
 refine Zn (by simp;omega) ?_;dsimp only [go_sem];have hke:k=t.right.length:=by omega
 subst hke;simp only [List.take_length,List.length_map];rw [Zf (n:=0+(t.left.length:Int)+(t.right.length:Int)) (by omega) (by omega)];dsimp only [Zc,go_sem];refine Zt rfl ?_;dsimp only [go_sem];refine ixa 2 rfl (by decide) ?_;dsimp only [go_sem];simp only [List.length_map];refine call (U2 l.length t.top (by omega) hr3 (by omega) false) ?_;dsimp only [go_sem];refine Zl [] (Yw 51) rfl rfl rfl ?_ ?_ ?_
 . (repeat first | dsimp only [go_sem] | simp only [nbr])
   try simp [mtL,mtB,mtS]
 . trivial
 rintro _ rfl
 (repeat first | dsimp only [go_sem] | simp only [nbr])
 refine Yb (λk:Nat=>[(39,I k),(40,.any)]) (λk=>[(0,.map (mpS kI bV (Vb ((t.left ++ t.right) ++ t.top.take k))) (t.left.length+t.right.length+k))]) (λk=>k<=t.top.length) (λk=>t.top.length - k) 0 (Nat.zero_le _) ?_ ?_
 . (refine Zi ?_ ?_ ?_ rfl rfl<;>dsimp only [Zk,Zo,ZN,ZA,id,go_sem]<;>simp [Zk,Zo,ZN,ZA,Za])
 intro k hk;dsimp only [go_sem];by_cases hlt:k < t.top.length
 . refine Zt (by simpa using hlt) ?_;dsimp only [go_sem];refine Zx k hlt rfl ?_;dsimp only [Zk,go_sem];have hs:=Zce (l:=(t.left ++ t.right) ++ t.top.take k) (x:=t.top[k]) (by have:=U6 hlt hnd3;simpa using this);refine Ww (key:=kI) (val:=bV) (sv:=λn=>.v (kI n)) (L:=Vb ((t.left ++ t.right) ++ t.top.take k)) (k:=t.top[k]) (v:=true) (ins:=false) rfl rfl ZAo ZgM rfl rfl (λ_ _ _ e=>by cases e) ?_;have hE:((t.left ++ t.right) ++ t.top.take k).length=t.left.length+t.right.length+k:=by simp;omega
   rw [hE] at hs;rw [hs.1,hs.2];dsimp only [go_sem];rw [Zf (n:=(k:Int)+1) (by omega) (by omega)];refine ⟨k+1,hlt,by omega,?_⟩;rw [List.take_succ_eq_append_getElem hlt];try rw [<- List.append_assoc]
   (refine Zi ?_ ?_ ?_ rfl rfl<;>dsimp only [Zk,Zo,ZN,ZA,Nat.add_assoc,id,go_sem]<;>simp [Zk,Zo,ZN,ZA,Nat.add_assoc,Za])
 refine Zn (by simp;omega) ?_;dsimp only [go_sem];have hke:k=t.top.length:=by omega
 subst hke;simp only [List.take_length,List.length_map];rw [Zf (n:=0+(t.left.length:Int)+(t.right.length:Int)+(t.top.length:Int)) (by omega) (by omega)];dsimp only [Zc,go_sem];refine Zn rfl ?_;dsimp only [go_sem];refine call (Zq2 t (by omega) (by omega) (by omega)) ?_;dsimp only [go_sem];simp only [List.length_map];rw [show decide (((ZcK t).length:Int)<=10)=true from by simp;omega];refine Zl [] (Yw 51) rfl rfl rfl ?_ ?_ ?_
 . (repeat first | dsimp only [go_sem] | simp only [nbr])
   try simp [mtL,mtB,mtS]
 . trivial
 rintro _ rfl
 (repeat first | dsimp only [go_sem] | simp only [nbr])
 dsimp only [Zc,go_sem];refine Zn rfl ?_;dsimp only [go_sem];refine ZO rfl ?_;dsimp only [go_sem];refine ZO rfl ?_;dsimp only [go_sem];refine ZqC rfl rfl ZAo rfl ?_;dsimp only [go_sem];refine ZO rfl ?_;dsimp only [go_sem];refine ZO rfl ?_;dsimp only [go_sem];have hcnt:((mpS kI bV (Vb (t.left ++ t.right ++ t.top))).length:Int)=0+(t.left.length:Int)+(t.right.length:Int)+(t.top.length:Int):=by
  simp only [mpS,List.length_map,Vb,ZcG,List.length_append];omega
 rw [hcnt];rw [show (decide (((1:Nat):Int)<=8) && (0+(t.left.length:Int)+(t.right.length:Int)+(t.top.length:Int) == 0+(t.left.length:Int)+(t.right.length:Int)+(t.top.length:Int)))=true from by simp];refine Zl [] (Yw 51) rfl rfl rfl ?_ ?_ ?_
 . (repeat first | dsimp only [go_sem] | simp only [nbr])
   try simp [mtL,mtB,mtS]
 . trivial
 rintro _ rfl
 (repeat first | dsimp only [go_sem] | simp only [nbr])
 refine ⟨_,rfl,?_⟩;(refine Zp ?_ ?_ ?_ rfl<;>dsimp only [id,go_sem]<;>simp [Za])
def c45:FB:=(.seq (.reg [
 o1 2 (.alloc [.int .i64 0] 35)])
 (.rcv [
 o1 3 (.mkf 109 [.t 2])] (.t 3)
 (.tail (.seq (.reg [
 m1 4 0,
 o1 5 (.calvm (.t 4) [])])
 (.seq (.reg [
 ⟨none,.st (.t 2) (.c (.int .i64 0)) 1,none,[]⟩])
 .ret)))))
def r45:List RV:=[.cell 2 1 false]
theorem n45:Tryz.f45.ntmps=6:=by kernel_rfl
theorem b45:ZV Tryz.prog 45=true:=by kernel_rfl
theorem ZxA:UU Tryz.prog c45 ((Tryz.f45.body).getD .skip)=true:=by kernel_rfl
theorem Zx0:YQ Tryz.prog r45 Tryz.f45.results.toList=true:=by kernel_rfl
theorem m45 {n0:Nat} {hp0:List (Nat × HB)} {args:List SV} {Zw:Ot->Prop} (hh:hpb n0 hp0) (hx:∀ o,Zw o->KX o.res/\KXP o.hp) (h:fx Tryz.prog n0 c45 ⟨YD 0 args,hp0,n0,6,[]⟩ (Xs r45 λo=>∃ o',Zw o'/\XV n0 o o')) (hA:Nat.ble args.length 6=true:=by rfl):CtM Tryz.prog 45 hp0 n0 args Zw:=Zfj Tryz.func45 rfl b45 ZxA Zx0 n45 (Nat.le_of_ble_eq_true hA) hh hx h
def l109:List Ins:=[
 m1 1 4]
def k109:SC:=(sr1 [m1 5 1,o1 6 (.raw (Go.Op.binOp Go.BinOp.neq 20 (Go.Operand.tmp 5) (Go.Operand.const Go.Value.nilIface) 20) 4)] (Ji 6 (sr1 [m1 8 1,o1 9 (.raw (Go.Op.typeAssert (Go.Operand.tmp 8) 20 35 Bool.true) 212),m1 7 9,o1 10 (Je 7 0),o1 11 (Je
 7 1),m1 2 10,m1 3 11] (.seq (sr1 [m1 12 3,o1 13 (Jh 12)] (Ji 13 (.reg [m1 14 1,⟨none,.raw (Go.Op.panic (Go.Operand.tmp 14)) 0,none,[]⟩]) .skip)) (.reg [m1 15 2,Js 0 15 1]))) .skip))
theorem q109:RcF Tryz.prog 109 4 l109 k109 16:=⟨⟨Tryz.f109,_,_,_,_,Tryz.func109,rfl,rfl,by kernel_rfl,by kernel_rfl,by kernel_rfl,by kernel_rfl,by decide,rfl⟩,by kernel_rfl⟩
end Go.Proofs.YtkpkgafhfakpdaaGreatDoor
namespace Go.Sx
open Go Go.RowKit
section
variable {P:Program} {ty T T':TypeId} {ix jx:Operand} {σ : St} {r:KT} {K:RK} {d:Option Nat} {s:SV}
theorem ZcO {pt:TypeId} (hu:P.underlying T'=some (.interface (P.methodsAt T'))) (hi:ZaI σ ix = .v .nilIface) (h:Yo d (.v (.bool false)) none σ r K):RAW P d (.binOp .neq T' ix (.const .nilIface) pt) ty σ r K:=by
 intro o C E a w next Q e1 e2 e3 hS hn hq;have hx:=W8 hS hi (λ_ _ _=>by simp);simp only [R] at hx;have hb:=run_neq_nil_nil (P:=P) w T' hu;have hy:(execOp a.eval o).run P w = .ok (.value (.bool false)) w:=by
  obtain ⟨dst',op',ty',pos,after,guard⟩:=o;simp only at e2;subst e2;have h0:a.eval (.const .nilIface) = .nilIface:=rfl;have hg:(eqGuard .neq T' ix (.const .nilIface) .nilIface .nilIface).run P w = .ok () w:=by
   simp [eqGuard,Sem.run_pure]
  simp only [execOp,Sem.run_bind,hx,h0,hg,hb,Result.andThen_ok,Sem.run_pure]
 refine Zz hy (by simp) ?_;show next (a.put o.dst _) _;rw [e1];exact X5 h hS (by simp only [R]) hn
end
end Go.Sx
namespace Go.Azalai
structure CarB (l:List Pack) (t:Tied):Prop where
 hl:l.length<=30
 hp:l.all ZW=true
 ht:Zeu l.length t=true
theorem CarB.facts {l:List Pack} {t:Tied} (h:CarB l t):(∀ i ∈ ZcK t,0<=i/\i < (l.length:Int))/\(ZcK t).length<=10:=by
 have ht:=h.ht;simp only [Zeu,Bool.and_eq_true,decide_eq_true_eq] at ht;obtain ⟨⟨⟨⟨hr1,hr2⟩,hr3⟩,hlen⟩,hnd⟩:=ht;refine ⟨λi hi=>?_,hlen⟩;simp only [ZcK,List.mem_append] at hi;rcases hi with hi | hi | hi
 . exact Vt (by omega) hr1 i hi
 . exact Vt (by omega) hr2 i hi
 . exact Vt (by omega) hr3 i hi
theorem CarB.left {l:List Pack} {t:Tied} (h:CarB l t):∀ i ∈ t.left,0<=i/\i < (l.length:Int):=λi hi=>h.facts.1 i (by simp [ZcK,hi])
theorem CarB.right {l:List Pack} {t:Tied} (h:CarB l t):∀ i ∈ t.right,0<=i/\i < (l.length:Int):=λi hi=>h.facts.1 i (by simp [ZcK,hi])
theorem CarB.len {l:List Pack} {t:Tied} (h:CarB l t):t.left.length<=10/\t.right.length<=10/\t.top.length<=10:=by
 have:=h.facts.2;simp [ZcK] at this;omega
end Go.Azalai
namespace Go.Proofs.YtkpkgafhfakpdaaGreatDoor
open Go Go.Sx Go.Azalai
theorem u20:Tryz.prog.underlying 20=some (.interface (Tryz.prog.methodsAt 20)):=by kernel_rfl
theorem Zf2 (n lo hi:Int):Ct Tryz.prog 66 [I n,I lo,I hi] (B (inR lo hi n)):=by
 refine t66.1 (by simp) (by simp) ?_;dsimp only [c66,r66,go_sem];refine gb ?_;dsimp only [go_sem];refine gb ?_;dsimp only [go_sem];refine gb ?_;dsimp only [go_sem];simp [inR]
theorem Wj (s:Span) (lo hi:Int):Ct Tryz.prog 65 [.agg (Zh s),I lo,I hi] (B (Z8 lo hi s)):=by
 refine t65.1 (by simp [Zh]) (by simp) ?_;dsimp only [c65,r65,Zh,go_sem];repeat (refine gb ?_;dsimp only [go_sem])
 (simp only [Z8,inR,Option.some.injEq,SV.v.injEq,Value.bool.injEq]<;>grind)
theorem Zgy (s:Span):(s.lo == 0 && (s.hi == 0 && true))=decide (s=Zy):=by
 cases s
 rw [Bool.eq_iff_iff];simp [Zy]
theorem Zl8 (p:Pack):Ct Tryz.prog 15 [.agg (Zo p)] (B (ZW p)):=by
 refine t15.1 (by simp [Zo]) (by simp) ?_;dsimp only [c15,r15,Zo,go_sem];refine call (Wj p.mass _ _) ?_;dsimp only [go_sem];repeat (first | (refine gb ?_;dsimp only [go_sem]) | (refine call (Zf2 _ _ _) ?_;dsimp only [go_sem]))
 by_cases h:Z8 0 1000000 p.mass=true/\inR 0 6000000 p.hurt=true/\inR 0 100000 p.days=true
 case neg =>
  have e:ZW p=false:=by simp only [ZW];grind
  refine Zt (by grind) ?_;dsimp only [go_sem];rw [e]
 obtain ⟨h1,h2,h3⟩:=h;have e:ZW p=Va p:=by simp only [ZW,h1,h2,h3,Bool.true_and]
 rw [e,h1,h2,h3];refine Zn rfl ?_;dsimp only [go_sem];by_cases k1:p.kind=1
 . refine Zt (by simp [k1]) ?_;dsimp only [go_sem];refine call (Wj p.hard _ _) ?_;dsimp only [go_sem];repeat (first | (refine gb ?_;dsimp only [go_sem]) | (refine call (Wj p.crumbs _ _) ?_;dsimp only [go_sem]))
   rw [Zgy];simp [Va,k1]
 refine Zn (by simpa using k1) ?_;dsimp only [go_sem];by_cases k2:p.kind=2
 . refine Zt (by simp [k2]) ?_;dsimp only [go_sem];repeat (refine gb ?_;dsimp only [go_sem])
   rw [Zgy,Zgy,Zgy];simp [Va,k2]
 refine Zn (by simpa using k2) ?_;dsimp only [go_sem];repeat (first | (refine gb ?_;dsimp only [go_sem]) | (refine call (Wj p.leak _ _) ?_;dsimp only [go_sem]))
 rw [Zgy,Zgy];simp [Va,k1,k2,Bool.and_assoc];congr 1
end Go.Proofs.YtkpkgafhfakpdaaGreatDoor
namespace Go.Azalai
structure Fare where
 place:Int
 day:Int
 keeps:List Span
def Xd (f:Fare):Bool:=inR 0 9999 f.place && (inR 0 100000 f.day && (decide (f.keeps.length=5) && f.keeps.all (Z8 0 1000)))
end Go.Azalai
namespace Go.Proofs.YtkpkgafhfakpdaaGreatDoor
open Go Go.Sx Go.Azalai
def Zu (d:Bool) (f:Fare):List SV:=[I f.place,I f.day,.sl d 2 (f.keeps.map Zh)]
theorem Ur (n lo hi:Int):Ct Tryz.prog 71 [I n,I lo,I hi] (B (inR lo hi n)):=by
 refine t71.1 (by simp) (by simp) ?_;dsimp only [c71,r71,go_sem];repeat (refine gb ?_;dsimp only [go_sem])
 (simp only [inR,Option.some.injEq,SV.v.injEq,Value.bool.injEq]<;>grind)
theorem ZbK (n:Int):Ct Tryz.prog 84 [I n] (B (inR 0 4 n)):=by
 refine t84.1 (by simp) (by simp) ?_;dsimp only [c84,r84,go_sem];refine call (Ur _ _ _) ?_;dsimp only [go_sem]
theorem V6 (s:Span) (lo hi:Int):Ct Tryz.prog 182 [.agg (Zh s),I lo,I hi] (B (Z8 lo hi s)):=by
 refine t182.1 (by simp [Zh]) (by simp) ?_;dsimp only [c182,r182,Zh,go_sem];repeat (refine gb ?_;dsimp only [go_sem])
 (simp only [Z8,inR,Option.some.injEq,SV.v.injEq,Value.bool.injEq]<;>grind)
theorem Zli (s:Span):Ct Tryz.prog 181 [.agg (Zh s)] (B (Z8 0 1000 s)):=by
 refine t181.1 (by simp [Zh]) (by simp) ?_;dsimp only [c181,r181,Zh,go_sem];refine call (V6 s _ _) ?_;dsimp only [go_sem]
theorem Zee (s:Span):Ct Tryz.prog 220 [.agg (Zh s),.ps [.cl 181 []] 0] (B (!Z8 0 1000 s)):=by
 refine t220.1 (by simp [Zh]) (by simp) ?_;dsimp only [c220,r220,Zh,go_sem];refine call (Zli s) ?_;dsimp only [go_sem]
theorem Zgs (l:List Span) (hl:l.length < 4611686018427387904) (c:Bool):Ct Tryz.prog 183 [.sl c 2 (l.map Zh),.cl 181 []] (B (l.all (Z8 0 1000))):=by
 refine t183.1 (by simp [Za,Zh]) (by simp) ?_;dsimp only [c183,r183,go_sem];refine Xi (by simp [FLT]) (res:=B (l.any λx=>!Z8 0 1000 x)) ?_ ?_
 . dsimp only [go_sem];exact Cm.con93 220 [.ps [.cl 181 []] 0] (by simp) (λx=>!Z8 0 1000 x) l (λx _=>Zee x) hl
 . dsimp only [go_sem];simp [List.all_eq_not_any_not]
theorem Zmo (f:Fare) (d:Bool) (hf:f.keeps.length < 4611686018427387904):Ct Tryz.prog 131 [.agg (Zu d f)] (B (Xd f)):=by
 refine t131.1 (by simp [Zu,Za,Zh]) (by simp) ?_;dsimp only [c131,r131,Zu,go_sem];repeat (first | (refine gb ?_;dsimp only [go_sem]) | (refine call (Ur _ _ _) ?_;dsimp only [go_sem]) | (refine call (Zgs _ hf _) ?_;dsimp only [go_sem]))
 simp only [List.length_map];have e:((f.keeps.length:Int) == 5)=decide (f.keeps.length=5):=by rw [Bool.eq_iff_iff];simp;omega
 rw [e,Xd,Bool.and_assoc,Bool.and_assoc]
theorem Zzz {d:Bool} (h:Nat) (caps:List SV) (hk:KFL caps) (g:Fare->Bool) (l:List Fare) (hg:∀ x ∈ l,Ct Tryz.prog h (.agg (Zu d x) :: caps) (B (g x))) (hl:l.length < 4611686018427387904) {c:Bool} :
 Ct Tryz.prog 219 [.sl c 3 (l.map (Zu d)),.cl h caps] (I (Yv g l 0)):=by
 refine t219.1 ⟨by simp [KF,Za,KFL,Zu,Zh],hk,trivial⟩ (by simp [KF]) ?_;dsimp only [c219,r219,go_sem];refine Yb (λk:Nat=>[(8,I k)]) (λ_=>[]) (λk=>k<=l.length/\Yv g (l.drop k) k=Yv g l 0) (λk=>l.length - k) 0 ⟨Nat.zero_le _,rfl⟩ ?_ ?_
 . (refine Zi ?_ ?_ ?_ rfl rfl<;>dsimp only [Zu,Zh,Za,hk,id,go_sem]<;>simp [Zu,Zh,Za,hk,Za])
 . intro k ⟨hk',hi⟩;dsimp only [go_sem];refine br ?_ ?_
   . intro hlt;have hlt:k < l.length:=by simpa using hlt
     dsimp only [go_sem];refine Zx k hlt rfl ?_;dsimp only [Zu,Zh,Za,go_sem];refine call (hg l[k] (List.getElem_mem _)) ?_;dsimp only [go_sem];refine br ?_ ?_
     . intro hgx;dsimp only [go_sem];rw [<- hi,List.drop_eq_getElem_cons hlt];simp [Yv,hgx]
     . intro hgx;dsimp only [go_sem];refine ⟨k+1,⟨by omega,?_⟩,by omega,?_⟩
       . rw [<- hi,List.drop_eq_getElem_cons hlt];simp [Yv,hgx]
       . rw [Zf (by omega) (by omega)];(refine Zi ?_ ?_ ?_ rfl rfl<;>dsimp only [Zu,Zh,Za,hk,id,go_sem]<;>simp [Zu,Zh,Za,hk,Za])
   . intro hlt;have hlt:k=l.length:=by simp at hlt;omega
     dsimp only [go_sem];rw [<- hi,hlt];simp [Yv]
theorem ZyZ {d:Bool} (h:Nat) (caps:List SV) (hk:KFL caps) (g:Fare->Bool) (l:List Fare) (hg:∀ x ∈ l,Ct Tryz.prog h (.agg (Zu d x) :: caps) (B (g x))) (hl:l.length < 4611686018427387904) {c:Bool} :
 Ct Tryz.prog 179 [.sl c 3 (l.map (Zu d)),.cl h caps] (B (l.any g)):=by
 refine t179.1 ⟨by simp [KF,Za,KFL,Zu,Zh],hk,trivial⟩ (by simp [KF]) ?_;dsimp only [c179,r179,go_sem];refine call (Zzz h caps hk g l hg hl) ?_;dsimp only [go_sem];rw [YR]
theorem Zd4 (f:Fare) (d:Bool) (hf:f.keeps.length < 4611686018427387904):Ct Tryz.prog 180 [.agg (Zu d f),.ps [.cl 131 []] 0] (B (!Xd f)):=by
 refine t180.1 (by simp [Zu,Za,Zh]) (by simp) ?_;dsimp only [c180,r180,Zu,go_sem];refine call (Zmo f d hf) ?_;dsimp only [go_sem]
theorem Zbr (l:List Fare) (hl:l.length < 4611686018427387904) (c d:Bool) (hf:∀ f ∈ l,f.keeps.length < 4611686018427387904):Ct Tryz.prog 130 [.sl c 3 (l.map (Zu d)),.cl 131 []] (B (l.all Xd)):=by
 refine t130.1 (by simp [Za,Zu,Zh]) (by simp) ?_;dsimp only [c130,r130,go_sem];refine Xi (by simp [FLT]) (res:=B (l.any λx=>!Xd x)) ?_ ?_
 . dsimp only [go_sem];exact ZyZ 180 [.ps [.cl 131 []] 0] (by simp) (λx=>!Xd x) l (λx hx=>Zd4 x d (hf x hx)) hl
 . dsimp only [go_sem];simp [List.all_eq_not_any_not]
theorem Zjx (f g:Fare) (d:Bool) (h1:0<=f.day/\f.day<=100000) (h2:0<=g.day/\g.day<=100000):Ct Tryz.prog 129 [.agg (Zu d f),.agg (Zu d g)] (I (f.day - g.day)):=by
 refine t129.1 (by simp [Zu,Za,Zh]) (by simp) ?_;dsimp only [c129,r129,Zu,go_sem];rw [Zf (n:=f.day - g.day) (by omega) (by omega)]
theorem Zbo (f g:Fare) (c d:Bool) (h1:0<=f.day/\f.day<=100000) (h2:0<=g.day/\g.day<=100000) (h:f.day<=g.day):Ct Tryz.prog 132 [.sl c 3 [Zu d f,Zu d g],.cl 129 []] (B true):=by
 refine t132.1 (by simp [Zu,KFR,Za,Zh]) (by simp) ?_;dsimp only [c132,r132,go_sem];refine ZU 2 ?_;dsimp only [Zc,go_sem];refine Zt rfl ?_;dsimp only [go_sem];refine ixs 1 _ rfl rfl ?_;dsimp only [Zu,go_sem];refine ixs 0 _ rfl rfl ?_;dsimp only [Zu,go_sem];refine call (Zjx g f d h2 h1) ?_;dsimp only [go_sem];refine Zn (by simp;omega) ?_;dsimp only [go_sem];refine Zn rfl ?_;dsimp only [go_sem]
theorem ZdH (n:Int):Ct Tryz.prog 134 [I n] (B (inR 0 1000000 n)):=by
 refine t134.1 (by simp) (by simp) ?_;dsimp only [c134,r134,go_sem];refine call (Ur _ _ _) ?_;dsimp only [go_sem]
theorem Zd0 (n:Int):Ct Tryz.prog 184 [I n,.ps [.cl 134 []] 0] (B (!inR 0 1000000 n)):=by
 refine t184.1 (by simp) (by simp) ?_;dsimp only [c184,r184,go_sem];refine call (ZdH n) ?_;dsimp only [go_sem]
theorem Zgf (l:List Int) (hl:l.length < 4611686018427387904) (c:Bool):Ct Tryz.prog 133 [.sl c 1 (l.map Zk),.cl 134 []] (B (l.all (inR 0 1000000))):=by
 refine t133.1 (by simp [Za,Zk]) (by simp) ?_;dsimp only [c133,r133,go_sem];refine Xi (by simp [FLT]) (res:=B (l.any λx=>!inR 0 1000000 x)) ?_ ?_
 . dsimp only [go_sem];exact Zno 184 [.ps [.cl 134 []] 0] (by simp) (λx=>!inR 0 1000000 x) l (λx _=>Zd0 x) hl
 . dsimp only [go_sem];simp [List.all_eq_not_any_not]
theorem Xj (n k:Int) (h1:0<=n/\n<=1000000000000000) (h2:0<=k/\k<=1000):Ct Tryz.prog 137 [I n,I k] (I ((n * k).tdiv 1000)):=by
 have q:0<=n * k/\n * k<=1000000000000000 * 1000:=⟨Int.mul_nonneg h1.1 h2.1,Int.mul_le_mul h1.2 h2.2 h2.1 (by omega)⟩
 refine t137.1 (by simp) (by simp) ?_;dsimp only [c137,r137,go_sem];rw [Zf (n:=n * k) (by omega) (by omega)];refine Zcq (by decide) ?_;dsimp only [go_sem];have e1:(n * k).tdiv 1000=n * k / 1000:=Int.tdiv_eq_ediv_of_nonneg q.1;rw [Zf (n:=(n * k).tdiv 1000) (by omega) (by omega)]
theorem Zgt (a b c d e:Int) (k:Bool) (h:[a,b,c,d,e].all (inR 0 1000000)=true):Ct Tryz.prog 70 [.sl k 1 [[I a],[I b],[I c],[I d],[I e]]] (.tup [.agg [I a,I a,I b,I b,I c,I c,I d,I d,I e,I e],B true]):=by
 refine t70.1 (by simp [KFR]) (by simp) ?_;dsimp only [c70,r70,go_sem];repeat (refine gb ?_;dsimp only [go_sem])
 refine call (Zgf [a,b,c,d,e] (by simp) k) ?_;rw [h];dsimp only [go_sem];repeat (refine gb ?_;dsimp only [go_sem])
 refine Zn rfl ?_;dsimp only [go_sem];refine ZU 6 ?_;dsimp only [Zc,go_sem]
 iterate 5
  refine Zt rfl ?_;dsimp only [go_sem];first | refine ixs 0 _ rfl rfl ?_ | refine ixs 1 _ rfl rfl ?_ | refine ixs 2 _ rfl rfl ?_ | refine ixs 3 _ rfl rfl ?_ | refine ixs 4 _ rfl rfl ?_
  dsimp only [go_sem];first | refine ixa 0 rfl (by decide) ?_ | refine ixa 1 rfl (by decide) ?_ | refine ixa 2 rfl (by decide) ?_ | refine ixa 3 rfl (by decide) ?_ | refine ixa 4 rfl (by decide) ?_
  dsimp only [go_sem]
 refine Zn rfl ?_;dsimp only [go_sem]
theorem UX (s t:Span):Ct Tryz.prog 19 [.agg (Zh s),.agg (Zh t)] (B (decide (s.lo ≥ t.lo) && decide (s.hi<=t.hi))):=by
 refine t19.1 (by simp [Zh]) (by simp) ?_;dsimp only [c19,r19,Zh,go_sem];repeat (refine gb ?_;dsimp only [go_sem])
end Go.Proofs.YtkpkgafhfakpdaaGreatDoor
namespace Go.Azalai
def Zdl (m:Int) (k:Span):Span:=⟨m - (m * k.hi).tdiv 1000,m - (m * k.lo).tdiv 1000⟩
def keepF (k:Span):List Span:=[k,Zy,Zy,Zy,Zy]
end Go.Azalai
namespace Go.Proofs.YtkpkgafhfakpdaaGreatDoor
open Go Go.Sx Go.Azalai
def ZbH (r g:Int) (s:Span):List SV:=[I r,I g,I s.lo,I s.hi]
def Zfi (m:Int) (k:Span):SV:=if (Zdl m k).hi > 0 then .sl false 4 [ZbH 0 0 (Zdl m k)] else .v (.slice none 0 0)
def ZbU (a b:Int):List SV:=[I a,I b,I 0,I 0,I 0,I 0,I 0,I 0,I 0,I 0]
theorem ZnD (m:Int) (k:Span) (pl dy:Int) (d:Bool) (hm:0<=m/\m<=1000000) (hk:Z8 0 1000 k=true) :
 CtM Tryz.prog 74 [(0,.cells (ZbU m m) 154)] 1 [.p 0 0,.agg (Zu d ⟨pl,dy,keepF k⟩),I 0] (λo=>o=⟨false,Zfi m k,[(0,.cells (ZbU ((m * k.lo).tdiv 1000) ((m * k.hi).tdiv 1000)) 154)],1⟩):=by
 simp only [Z8,Bool.and_eq_true,decide_eq_true_eq] at hk;have q1:0<=m * k.lo/\m * k.lo<=m * 1000:=⟨Int.mul_nonneg hm.1 (by omega),Int.mul_le_mul_of_nonneg_left (by omega) hm.1⟩
 have q2:0<=m * k.hi/\m * k.hi<=m * 1000:=⟨Int.mul_nonneg hm.1 (by omega),Int.mul_le_mul_of_nonneg_left (by omega) hm.1⟩
 have e1:(m * k.lo).tdiv 1000=m * k.lo / 1000:=Int.tdiv_eq_ediv_of_nonneg q1.1;have e2:(m * k.hi).tdiv 1000=m * k.hi / 1000:=Int.tdiv_eq_ediv_of_nonneg q2.1;have z:((0:Int) * 0).tdiv 1000=0:=by decide
 refine m74 (by simp [hpb]) (λo ho=>by subst ho;simp only [Zfi];split<;>simp [ZbH,ZbU,KX,KXL,KXP,KXH,KFL,KF,KFR]) ?_;dsimp only [c74,r74,ZbU,Zu,keepF,go_sem];refine ZU 6 ?_;dsimp only [Zc,go_sem];refine Zt rfl ?_;dsimp only [go_sem];refine ixa 0 rfl (by decide) ?_;dsimp only [go_sem];refine ixs 0 _ rfl rfl ?_;dsimp only [Zh,go_sem];refine call (Xj m k.lo (by omega) (by omega)) ?_;dsimp only [go_sem]
 refine call (Xj m k.hi (by omega) (by omega)) ?_;dsimp only [go_sem];refine ixa 0 rfl (by decide) ?_;dsimp only [go_sem];refine call (Xj m k.hi (by omega) (by omega)) ?_;dsimp only [go_sem];refine call (Xj m k.lo (by omega) (by omega)) ?_;dsimp only [go_sem];rw [Zf (n:=m - (m * k.hi).tdiv 1000) (by omega) (by omega),Zf (n:=m - (m * k.lo).tdiv 1000) (by omega) (by omega)];by_cases hg:m - (m * k.lo).tdiv 1000 > 0
 case' pos =>
  refine Zt (by simpa using hg) ?_;dsimp only [go_sem];refine UB (by simp) ?_;dsimp only [go_sem]
 case' neg =>
  refine Zn (by simpa using hg) ?_;dsimp only [go_sem]
 all_goals
  iterate 4
   refine Zt rfl ?_;dsimp only [go_sem];first | refine ixa 1 rfl (by decide) ?_ | refine ixa 2 rfl (by decide) ?_ | refine ixa 3 rfl (by decide) ?_ | refine ixa 4 rfl (by decide) ?_
   dsimp only [go_sem];first | refine ixs 1 _ rfl rfl ?_ | refine ixs 2 _ rfl rfl ?_ | refine ixs 3 _ rfl rfl ?_ | refine ixs 4 _ rfl rfl ?_
   dsimp only [Zh,Zy,go_sem]
   iterate 2
    refine call (Xj 0 0 (by decide) (by decide)) ?_;dsimp only [go_sem]
   first | refine ixa 1 rfl (by decide) ?_ | refine ixa 2 rfl (by decide) ?_ | refine ixa 3 rfl (by decide) ?_ | refine ixa 4 rfl (by decide) ?_
   dsimp only [go_sem]
   iterate 2
    refine call (Xj 0 0 (by decide) (by decide)) ?_;dsimp only [go_sem]
   simp only [z];rw [Zf (n:=(0:Int) - 0) (by decide) (by decide)];refine Zn (by decide) ?_;dsimp only [go_sem]
  refine Zn rfl ?_;dsimp only [go_sem];refine ⟨_,rfl,?_⟩;first | rw [show Zfi m k = .sl false 4 [ZbH 0 0 (Zdl m k)] from if_pos hg] | rw [show Zfi m k = .v (.slice none 0 0) from if_neg hg]
  (refine Zp ?_ ?_ ?_ rfl<;>dsimp only [ZbU,ZbH,Zdl,id,go_sem]<;>simp [ZbU,ZbH,Zdl,Za])
end Go.Proofs.YtkpkgafhfakpdaaGreatDoor
