/- Walks and plain laws that lead to the given statement, part 9 of 10. -/
import Derived.Test.YtongccnhomncnaaGreatQH
import Derived.Test.YtongccnhomncnaaGreatProg
set_option maxRecDepth 100000
set_option maxHeartbeats 4000000
set_option linter.all false
open Nat renaming beq_refl->nbr
namespace Go.Proofs.YtongccnhomncnaaGreat
open Go Go.Sx
def c19:SC:=(sr1 [o1 3 (Jz 0 0 3),o1 4 (Jz 1 0 3),Jw 6 Jf] (sr1 [m1 7 2,o1 8 (.mkf 49 [.t 3,.t 4]),o1 9 (J2 48 7 8),o1 10 (Jh 9),m1 6 10] .ret))
def r19:List RV:=[.tmp 6]
theorem t19:Qt1 Tryz.prog 19 c19 r19 11:=ZH Tryz.func19
def c49:SC:=(sr1 [o1 3 (Jz 0 0 27),Jw 4 Jf] (sr1 [o1 5 (ao 3 0),o1 6 (lf 5 1),o1 7 (ao 3 1),o1 8 (lf 7 1),o1 9 (Jb .gtr 6 8),m1 10 9,g1 11 10 false (lf 1 1),g1 12 10 false (lf 2 1),g1 13 10 false (ao 3 0),g1 14 10 false (lf 13 1),g1 15 10 false (ao 3
 1),g1 16 10 false (lf 15 1),g1 17 10 false (.bsl 1 3 [.t 14,.t 16]),g1 18 10 false (J3 50 11 12 17),g1 19 10 false (Jh 18),o1 20 (.pick (.t 10) Jt (.t 19)),m1 4 20] .ret))
def r49:List RV:=[.tmp 4]
theorem t49:Qt1 Tryz.prog 49 c49 r49 21:=ZH Tryz.func49
def c50:SC:=(sr1 [o1 3 (Jz 0 0 3),o1 4 (Jz 1 0 3),Jw 6 Jf] (sr1 [m1 7 2,o1 8 (.mkf 87 [.t 3,.t 4]),o1 9 (J2 84 7 8),o1 10 (Jh 9),m1 6 10] .ret))
def r50:List RV:=[.tmp 6]
theorem t50:Qt1 Tryz.prog 50 c50 r50 11:=ZH Tryz.func50
def c87:SC:=(sr1 [Jw 4 Jf] (sr1 [m1 5 0,o1 6 (lf 1 1),o1 7 (Jb .lss 5 6),m1 8 7,g1 9 8 false (.mv (.t 0)),g1 10 8 false (lf 2 1),g1 11 8 false (Jb .gtr 9 10),o1 12 (.pick (.t 8) Jt (.t 11)),m1 4 12] .ret))
def r87:List RV:=[.tmp 4]
theorem t87:Qt1 Tryz.prog 87 c87 r87 13:=ZH Tryz.func87
def c20:SC:=(sr1 [o1 2 (Jz 0 0 27),o1 3 (Jz 1 0 27),o1 4 (.alloc zv0 27)] (sr1 [o1 5 (ao 2 0),o1 6 (lf 5 1),o1 7 (ao 3 0),o1 8 (lf 7 1),o1 9 (.mm true [.t 6,.t 8]),o1 10 (ao 2 1),o1 11 (lf 10 1),o1 12 (ao 3 1),o1 13 (lf 12 1),o1 14 (.mm false [.t
 11,.t 13]),o1 15 (.build zv0 [(0,1,.t 9),(1,1,.t 14)]),Js 4 15 2] .ret))
def r20:List RV:=[.cell 4 2 true]
theorem t20:Qt1 Tryz.prog 20 c20 r20 16:=ZH Tryz.func20
def c21:SC:=(sr1 [o1 2 (.alloc zv0 27)] (sr1 [o1 3 (.alloc zv0 27)] (.seq (sr1 [m1 6 0,o1 7 (Jl 6),Jk 8 0] (.block 0 (.loop (sr1 [o1 9 (Jb .lss 8 7)] (.seq (Ji 9 .skip (.exit 0)) (.seq (.block 1 (sr1 [o1 10 (Jx 6 8 2),o1 11 (lt 10 2),o1 5 (.alloc zv0
 27),Js 5 11 2] (.reg [o1 12 (lt 3 2),o1 13 (ao 5 0),o1 14 (lf 13 1),o1 15 (ao 5 1),o1 16 (lf 15 1),o1 17 (J3 51 12 14 16),Js 3 17 2]))) (.reg [o1 18 (Jc .add 8 1),m1 8 18]))))))) (sr1 [o1 19 (lt 3 2),Js 2 19 2] .ret))))
def r21:List RV:=[.cell 2 2 true]
theorem t21:Qt1 Tryz.prog 21 c21 r21 20:=ZH Tryz.func21
def c22:SC:=(sr1 [o1 1 (Jz 0 0 45),o1 2 (.alloc zv0 27)] (sr1 [o1 8 (.callm 26 [.t 1]),m1 7 8,o1 9 (Je 7 0),o1 10 (Je 7 1),o1 3 (.alloc [.pointer none,.pointer none,.pointer none] 73),o1 4 (.alloc [.pointer none,.pointer none,.pointer none] 73),Js 3 9
 3,Js 4 10 3] (sr1 [o1 11 (.build zv0 []),o1 5 (.alloc zv0 27),Js 5 11 2] (.seq (sr1 [Jk 12 0] (.block 0 (.loop (sr1 [o1 13 (Jc .lss 12 3)] (.seq (Ji 13 .skip (.exit 0)) (.seq (.block 1 (sr1 [m1 14 12,m1 6 14] (.regd (Jr 15) [Jo 15 (lt 5 2),Jm 16 6,Jp
 17 (.ixa (.t 3) (.t 16) 3 1) [1],Jp 18 (lf 17 1) [2],Jp 19 (.nilc (.t 18)) [3],Jp 20 (lt 19 2) [4],Jm 21 6,Jp 22 (.ixa (.t 4) (.t 21) 3 1) [6],Jp 23 (lf 22 1) [7],Jp 24 (.nilc (.t 23)) [8],Jp 25 (lt 24 2) [9],Jp 26 (J1 24 25) [10],Jp 27 (.bsl 2 27
 [.t 15,.t 20,.t 26]) [0,5,11],Jp 28 (J1 21 27) [11,12]] 0 1 [Ju 5 28 2 (Jr 14)]))) (.reg [o1 29 (Jc .add 12 1),m1 12 29]))))))) (sr1 [o1 30 (lt 5 2),Js 2 30 2] .ret)))))
def r22:List RV:=[.cell 2 2 true]
theorem t22:Qt1 Tryz.prog 22 c22 r22 31:=ZH Tryz.func22
def c23:SC:=(sr1 [o1 1 (Jz 0 0 47),o1 2 (.mv (.c (.nilFunc)))] (sr1 [o1 3 (.mkf 52 [.t 1]),m1 2 3] .ret))
def r23:List RV:=[.tmp 2]
theorem n23:Tryz.f23.ntmps=4:=by kernel_rfl
theorem b23:Yn Tryz.prog 23=true:=by kernel_rfl
theorem Zzn:Xi Tryz.prog c23 ((Tryz.f23.body).getD .skip)=true:=by kernel_rfl
theorem ZAd:XV Tryz.prog r23 Tryz.f23.results.toList=true:=by kernel_rfl
theorem m23 {n0:Nat} {hp0:List (Nat × HB)} {args:List SV} {ZO:Ot->Prop} (hh:hpb n0 hp0) (hx:∀ o,ZO o->KX o.res/\KXP o.hp) (h:sx Tryz.prog Y0 n0 c23 ⟨Xx 0 args,hp0,n0,4,[]⟩ (Uk r23 λo=>∃ o',ZO o'/\Zbs n0 o o')) (hA:Nat.ble args.length 4=true:=by rfl):CtM Tryz.prog 23 hp0 n0 args ZO:=Yf Tryz.func23 rfl b23 Zzn ZAd n23 (Nat.le_of_ble_eq_true hA) hh hx h
def c52:SC:=(sr1 [o1 4 (lf 1 1),o1 5 (Jl 4),o1 6 (Jc .sub 5 1),m1 3 6] (.block 0 (.loop (.seq (sr1 [m1 7 3,o1 8 (Jc .geq 7 0)] (Ji 8 .skip (.exit 0))) (.seq (.block 1 (sr1 [m1 11 0,m1 12 3,o1 13 (lf 1 1),m1 14 3,o1 15 (Jx 13 14 14),o1 16 (lt 15 14),o1
 17 (.calvm (.t 11) [.t 12,.t 16]),o1 18 (Jh 17)] (Ji 18 .ret .skip))) (.reg [m1 9 3,o1 10 (Jc .sub 9 1),m1 3 10]))))))
def r52:List RV:=[]
theorem n52:Tryz.f52.ntmps=19:=by kernel_rfl
theorem b52:Yn Tryz.prog 52=true:=by kernel_rfl
theorem ZAe:Xi Tryz.prog c52 ((Tryz.f52.body).getD .skip)=true:=by kernel_rfl
theorem ZzC:XV Tryz.prog r52 Tryz.f52.results.toList=true:=by kernel_rfl
theorem y52 {Y:Hd} {n0:Nat} {hp0:List (Nat × HB)} {args:List SV} {ZO:Ot->Prop} (h:sx Tryz.prog Y n0 c52 ⟨Xx 0 args,hp0,n0,19,[]⟩ (Uk r52 ZO)) (hA:Nat.ble args.length 19=true:=by rfl):CtY Tryz.prog Y 52 hp0 n0 args ZO:=WC Tryz.func52 rfl ZAe ZzC n52 (Nat.le_of_ble_eq_true hA) h
def c24:SC:=(sr1 [o1 1 (Jz 0 0 27),o1 2 (.alloc zv0 27)] (sr1 [o1 3 (ao 1 1),o1 4 (lf 3 1),o1 5 (.un .neg (.t 4)),o1 6 (ao 1 0),o1 7 (lf 6 1),o1 8 (.un .neg (.t 7)),o1 9 (.build zv0 [(0,1,.t 5),(1,1,.t 8)]),Js 2 9 2] .ret))
def r24:List RV:=[.cell 2 2 true]
theorem t24:Qt1 Tryz.prog 24 c24 r24 10:=ZH Tryz.func24
def c25:SC:=(sr1 [o1 2 (.mv (.c (.slice none 0 0)))] (.seq (sr1 [m1 3 0,o1 4 (.isn (.t 3))] (Ji 4 (sr1 [o1 2 (.mv (.c (.slice none 0 0)))] .ret) .skip)) (sr1 [o1 5 (.bsl 14 45 []),m1 6 0,o1 7 (.cln 14 112 45 (.t 5) (.t 6)),m1 2 7] .ret)))
def r25:List RV:=[.tmp 2]
theorem n25:Tryz.f25.ntmps=8:=by kernel_rfl
theorem b25:Yn Tryz.prog 25=true:=by kernel_rfl
theorem Zz6:Xi Tryz.prog c25 ((Tryz.f25.body).getD .skip)=true:=by kernel_rfl
theorem ZAz:XV Tryz.prog r25 Tryz.f25.results.toList=true:=by kernel_rfl
theorem m25 {n0:Nat} {hp0:List (Nat × HB)} {args:List SV} {ZO:Ot->Prop} (hh:hpb n0 hp0) (hx:∀ o,ZO o->KX o.res/\KXP o.hp) (h:sx Tryz.prog Y0 n0 c25 ⟨Xx 0 args,hp0,n0,8,[]⟩ (Uk r25 λo=>∃ o',ZO o'/\Zbs n0 o o')) (hA:Nat.ble args.length 8=true:=by rfl):CtM Tryz.prog 25 hp0 n0 args ZO:=Yf Tryz.func25 rfl b25 Zz6 ZAz n25 (Nat.le_of_ble_eq_true hA) hh hx h
def c26:SC:=(sr1 [o1 2 (.alloc [.pointer none,.pointer none,.pointer none] 73),o1 3 (.alloc [.pointer none,.pointer none,.pointer none] 73)] (.seq (.regd (Jr 22) [Jm 4 0,Jp 5 (.nilc (.t 4)) [0],Jp 6 (ao 5 0) [1],Jm 7 0,Jp 8 (.nilc (.t 7)) [3],Jp 9 (ao
 8 2) [4],Jm 10 0,Jp 11 (.nilc (.t 10)) [6],Jp 12 (ao 11 4) [7],Jp 13 (.build [.pointer none,.pointer none,.pointer none] [(0,1,.t 6),(1,1,.t 9),(2,1,.t 12)]) [2,5,8],.hide (.t 2),Jm 14 0,Jp 15 (.nilc (.t 14)) [10],Jp 16 (ao 15 6) [11],Jm 17 0,Jp 18
 (.nilc (.t 17)) [13],Jp 19 (ao 18 8) [14],Jm 20 0,Jp 21 (.nilc (.t 20)) [16],Jp 22 (ao 21 10) [17],Jp 23 (.build [.pointer none,.pointer none,.pointer none] [(0,1,.t 16),(1,1,.t 19),(2,1,.t 22)]) [12,15,18]] 0 2 [Ju 2 13 3 (Jr 10),Ju 3 23 3 (Jr 21)])
 .ret))
def r26:List RV:=[.cell 2 3 true,.cell 3 3 true]
theorem n26:Tryz.f26.ntmps=24:=by kernel_rfl
theorem b26:Yn Tryz.prog 26=true:=by kernel_rfl
theorem ZAf:Xi Tryz.prog c26 ((Tryz.f26.body).getD .skip)=true:=by kernel_rfl
theorem ZAu:XV Tryz.prog r26 Tryz.f26.results.toList=true:=by kernel_rfl
theorem m26 {n0:Nat} {hp0:List (Nat × HB)} {args:List SV} {ZO:Ot->Prop} (hh:hpb n0 hp0) (hx:∀ o,ZO o->KX o.res/\KXP o.hp) (h:sx Tryz.prog Y0 n0 c26 ⟨Xx 0 args,hp0,n0,24,[]⟩ (Uk r26 λo=>∃ o',ZO o'/\Zbs n0 o o')) (hA:Nat.ble args.length 24=true:=by rfl):CtM Tryz.prog 26 hp0 n0 args ZO:=Yf Tryz.func26 rfl b26 ZAf ZAu n26 (Nat.le_of_ble_eq_true hA) hh hx h
def c51:SC:=(sr1 [o1 3 (Jz 0 0 27),o1 6 (.alloc zv0 27)] (sr1 [o1 7 (ao 3 0),o1 8 (lf 7 1),m1 9 1,o1 10 (Jb .add 8 9),o1 11 (ao 3 1),o1 12 (lf 11 1),m1 13 2,o1 14 (Jb .add 12 13),o1 15 (.build zv0 [(0,1,.t 10),(1,1,.t 14)]),Js 6 15 2] .ret))
def r51:List RV:=[.cell 6 2 true]
theorem t51:Qt1 Tryz.prog 51 c51 r51 16:=ZH Tryz.func51
def c8:SC:=(sr1 [o1 2 (Jz 0 0 27),o1 4 (.alloc [.slice none 0 0] 46),o1 5 (.mv (.c (.slice none 0 0))),Jk 6 0,Jk 7 0] (.seq (.block 0 (sr1 [o1 23 (lt 2 2),o1 24 (.bsl 2 27 [.t 23]),o1 25 (.call 19 [cn 0,cn 100000,.t 24]),o1 26 (Jh 25),m1 22 26] (Ji 22
 (sr1 [Jv 4 (.c (.slice none 0 0)) 1,o1 5 (.mv (.c (.slice none 0 0))),Jk 6 0,Jk 7 2] .ret) (sr1 [m1 28 1,o1 29 (Jl 28),o1 30 (Jc .gtr 29 40),m1 27 30] (Ji 27 (sr1 [Jv 4 (.c (.slice none 0 0)) 1,o1 5 (.mv (.c (.slice none 0 0))),Jk 6 0,Jk 7 4] .ret)
 .skip))))) (.seq (sr1 [m1 31 1,o1 32 (Jl 31),Jk 33 0] (.block 1 (.loop (sr1 [o1 34 (Jb .lss 33 32)] (.seq (Ji 34 .skip (.exit 1)) (.seq (.block 2 (sr1 [m1 35 33,o1 36 (Jx 31 33 14),o1 37 (lt 36 14),o1 9 (.alloc zv5 45),m1 8 35,Js 9 37 14] (sr1 [o1 38
 (ao 9 0),o1 39 (lt 38 2),o1 40 (ao 9 2),o1 41 (lt 40 2),o1 42 (ao 9 4),o1 43 (lt 42 2),o1 44 (ao 9 6),o1 45 (lt 44 2),o1 46 (ao 9 8),o1 47 (lt 46 2),o1 48 (ao 9 10),o1 49 (lt 48 2),o1 50 (ao 9 12),o1 51 (lt 50 2),o1 52 (.bsl 2 27 [.t 39,.t 41,.t
 43,.t 45,.t 47,.t 49,.t 51]),o1 53 (.call 19 [cn 0,cn 100000,.t 52]),o1 54 (Jh 53)] (Ji 54 (sr1 [m1 55 8,Jv 4 (.c (.slice none 0 0)) 1,o1 5 (.mv (.c (.slice none 0 0))),m1 6 55,Jk 7 24] .ret) .skip)))) (.reg [o1 56 (Jc .add 33 1),m1 33 56])))))))
 (sr1 [o1 57 (lt 2 2),o1 58 (.bsl 2 27 [.t 57]),Js 4 58 1] (.seq (sr1 [m1 59 1,o1 60 (Jl 59),Jk 61 0] (.block 3 (.loop (sr1 [o1 62 (Jb .lss 61 60)] (.seq (Ji 62 .skip (.exit 3)) (.seq (.block 4 (sr1 [m1 63 61,o1 64 (Jx 59 61 14),o1 65 (lt 64 14),o1 11
 (.alloc zv5 45),m1 10 63,Js 11 65 14] (.seq (.regd (Jr 13) [Jo 66 (ao 11 12),Jp 67 (lt 66 2) [0],Jo 68 (lf 4 1),Jm 69 10,Jp 70 (Jx 68 69 2) [2,3],Jp 71 (lt 70 2) [4],Jo 72 (lt 11 14),Jp 73 (J1 22 72) [6],Jp 74 (.bsl 2 27 [.t 71,.t 73]) [5,7],Jp 75
 (J1 21 74) [7,8],Jp 76 (J2 20 67 75) [1,9]] 1 1 [o1 12 (.alloc zv0 27),Ju 12 76 2 (Jr 12)]) (.seq (sr1 [o1 77 (ao 12 0),o1 78 (lf 77 1),o1 79 (ao 12 1),o1 80 (lf 79 1),o1 81 (Jb .gtr 78 80)] (Ji 81 (sr1 [m1 82 10,Jv 4 (.c (.slice none 0 0)) 1,o1 5
 (.mv (.c (.slice none 0 0))),m1 6 82,Jk 7 25] .ret) .skip)) (.reg [o1 83 (lf 4 1),o1 84 (lt 12 2),o1 85 (.bsl 2 27 [.t 84]),o1 86 (.raw (Go.Op.call { callee:=(Go.Callee.builtin Go.Builtin.append),args:=#[(Go.Operand.tmp 83),(Go.Operand.tmp 85)],argTypes:=#[46,46] })
 46),Js 4 86 1]))))) (.reg [o1 87 (Jc .add 61 1),m1 61 87]))))))) (.seq (sr1 [m1 88 1,o1 89 (.callm 23 [.t 88])] (.block 5 (.gh (.rfun (.t 89) [90,91] (sr1 [m1 13 90] (.reg [o1 14 (.alloc zv5 45),Js 14 91 14])) (.block 6 (.regd (Jr 19) [Jo 92 (lf 4
 1),Jm 93 13,Jo 94 (lf 4 1),Jm 95 13,Jp 96 (Jx 94 95 2) [2,3],Jp 97 (lt 96 2) [4],Jo 98 (lf 4 1),Jm 99 13,Jp 100 (Jc .add 99 1) [7],Jp 101 (Jx 98 100 2) [6,8],Jp 102 (lt 101 2) [9],Jo 103 (lt 14 14),Jp 104 (J1 22 103) [11],Jp 105 (J1 24 104) [12],Jp
 106 (.bsl 2 27 [.t 102,.t 105]) [10,13],Jp 107 (J1 21 106) [13,14],Jp 108 (J2 20 97 107) [5,15],Jp 109 (Jx 92 93 2) (Jr 17)] 0 1 [Ju 109 108 2 (Jr 18)])))))) (sr1 [m1 110 1,o1 111 (.callm 25 [.t 110]),m1 5 111] (.seq (sr1 [m1 112 5,o1 113 (Jl 112),Jk
 114 0] (.block 7 (.loop (sr1 [o1 115 (Jb .lss 114 113)] (.seq (Ji 115 .skip (.exit 7)) (.seq (.block 8 (sr1 [m1 116 114,m1 15 116] (sr1 [m1 117 5,m1 118 15,o1 119 (Jx 117 118 14),m1 16 119] (sr1 [m1 120 16,o1 121 (.nilc (.t 120)),o1 122 (lt 121
 14),o1 17 (.alloc zv5 45),Js 17 122 14] (sr1 [m1 124 16,o1 125 (.callm 26 [.t 124]),m1 123 125,o1 126 (Je 123 0),o1 127 (Je 123 1),o1 18 (.alloc [.pointer none,.pointer none,.pointer none] 73),o1 19 (.alloc [.pointer none,.pointer none,.pointer none]
 73),Js 18 126 3,Js 19 127 3] (.seq (.regd (Jr 17) [Jo 128 (lf 4 1),Jm 129 15,Jp 130 (Jc .add 129 1) [1],Jp 131 (Jx 128 130 2) [0,2],Jp 132 (lt 131 2) [3],Jo 133 (lf 4 1),Jm 134 15,Jp 135 (Jx 133 134 2) [5,6],Jp 136 (lt 135 2) [7],Jp 137 (J1 24 136)
 [8],Jo 138 (lt 17 14),Jp 139 (J1 22 138) [9,10],Jp 140 (J1 24 139) [11],Jp 141 (.bsl 2 27 [.t 132,.t 137,.t 140]) [4,9,12],Jp 142 (J1 21 141) [12,13]] 1 1 [o1 20 (.alloc zv0 27),Ju 20 142 2 (Jr 16)]) (.seq (sr1 [Jk 143 0] (.block 9 (.loop (sr1 [o1
 144 (Jc .lss 143 3)] (.seq (Ji 144 .skip (.exit 9)) (.seq (.block 10 (sr1 [m1 145 143,m1 21 145] (.seq (.regd (Jr 30) [Jm 146 21,Jp 147 (.ixa (.t 18) (.t 146) 3 1) [0],Jp 148 (lf 147 1) [1],Jm 149 21,Jp 150 (.ixa (.t 18) (.t 149) 3 1) [3],Jp 151 (lf
 150 1) [4],Jp 152 (.nilc (.t 151)) [5],Jp 153 (lt 152 2) [6],Jo 154 (ao 20 0),Jp 155 (lf 154 1) [8],Jm 156 21,Jp 157 (.ixa (.t 18) (.t 156) 3 1) [10],Jp 158 (lf 157 1) [11],Jp 159 (.nilc (.t 158)) [12],Jp 160 (ao 159 1) [13],Jp 161 (lf 160 1) [14],Jp
 162 (Jb .add 155 161) [9,15],Jo 163 (ao 20 1),Jp 164 (lf 163 1) [17],Jm 165 21,Jp 166 (.ixa (.t 18) (.t 165) 3 1) [19],Jp 167 (lf 166 1) [20],Jp 168 (.nilc (.t 167)) [21],Jp 169 (ao 168 0) [22],Jp 170 (lf 169 1) [23],Jp 171 (Jb .add 164 170)
 [18,24],Jp 172 (.build zv0 [(0,1,.t 162),(1,1,.t 171)]) [16,25],Jp 173 (J2 20 153 172) [7,26],Jp 174 (.nilc (.t 148)) (Jr 28)] 0 1 [Ju 174 173 2 (Jr 29)]) (.regd (Jr 30) [Jm 175 21,Jp 176 (.ixa (.t 19) (.t 175) 3 1) [0],Jp 177 (lf 176 1) [1],Jm 178
 21,Jp 179 (.ixa (.t 19) (.t 178) 3 1) [3],Jp 180 (lf 179 1) [4],Jp 181 (.nilc (.t 180)) [5],Jp 182 (lt 181 2) [6],Jm 183 21,Jp 184 (.ixa (.t 19) (.t 183) 3 1) [8],Jp 185 (lf 184 1) [9],Jp 186 (.nilc (.t 185)) [10],Jp 187 (ao 186 1) [11],Jp 188 (lf
 187 1) [12],Jo 189 (ao 20 1),Jp 190 (lf 189 1) [14],Jp 191 (Jb .sub 188 190) [13,15],Jm 192 21,Jp 193 (.ixa (.t 19) (.t 192) 3 1) [17],Jp 194 (lf 193 1) [18],Jp 195 (.nilc (.t 194)) [19],Jp 196 (ao 195 0) [20],Jp 197 (lf 196 1) [21],Jo 198 (ao 20
 0),Jp 199 (lf 198 1) [23],Jp 200 (Jb .sub 197 199) [22,24],Jp 201 (.build zv0 [(0,1,.t 191),(1,1,.t 200)]) [16,25],Jp 202 (J2 20 182 201) [7,26],Jp 203 (.nilc (.t 177)) (Jr 28)] 0 1 [Ju 203 202 2 (Jr 29)])))) (.reg [o1 204 (Jc .add 143 1),m1 143
 204]))))))) (.reg [m1 205 16,o1 206 (lf 4 1),m1 207 15,o1 208 (Jc .add 207 1),o1 209 (Jx 206 208 2),o1 210 (lt 209 2),o1 211 (.nilc (.t 205)),o1 212 (ao 211 12),Js 212 210 2])))))))) (.reg [o1 213 (Jc .add 114 1),m1 114 213]))))))) (sr1 [o1 214 (lf 4
 1),m1 215 5,Js 4 214 1,m1 5 215,Jk 6 0,Jk 7 0] .ret)))))))))
def r8:List RV:=[.cell 4 1 false,.tmp 5,.tmp 6,.tmp 7]
theorem t8:Qt1 Tryz.prog 8 c8 r8 216:=ZH Tryz.func8
open Go.Azalai
theorem Zyd (lo hi x:Int):Ct Tryz.prog 87 [I x,.ps [I lo] 0,.ps [I hi] 0] (B (!inR lo hi x)):=by
 refine t87.1 (by simp) (by simp) ?_;dsimp only [c87,r87,go_sem];repeat (refine gb ?_;dsimp only [go_sem])
 (simp only [inR,Option.some.injEq,SV.v.injEq,Value.bool.injEq]<;>grind)
theorem ZwO (lo hi:Int) (l:List Int) (hl:l.length < 4611686018427387904) (c:Bool):Ct Tryz.prog 50 [I lo,I hi,.sl c 1 (l.map Zq)] (B (l.all (inR lo hi))):=by
 refine t50.1 (by simp [Za,Zq]) (by simp) ?_;dsimp only [c50,r50,go_sem];refine Vi (by simp [FLT]) (res:=B (l.any λx=>!inR lo hi x)) ?_ ?_
 . dsimp only [go_sem];exact Zpw 87 [.ps [I lo] 0,.ps [I hi] 0] (by simp) (λx=>!inR lo hi x) l (λx _=>Zyd lo hi x) hl
 . dsimp only [go_sem];simp [List.all_eq_not_any_not]
theorem bin2 (lo hi a b:Int) (c:Bool):Ct Tryz.prog 50 [I lo,I hi,.sl c 1 [[I a],[I b]]] (B (inR lo hi a && inR lo hi b)):=by
 have:=ZwO lo hi [a,b] (by simp) c;simpa [Zq] using this
theorem Zr3 (lo hi:Int) (s:Span):Ct Tryz.prog 49 [.agg (Ze s),.ps [I lo] 0,.ps [I hi] 0] (B (!ZX lo hi s)):=by
 refine t49.1 (by simp [Ze]) (by simp) ?_;dsimp only [c49,r49,Ze,go_sem];repeat (first | (refine gb ?_;dsimp only [go_sem]) | (refine call (bin2 _ _ _ _ _) ?_;dsimp only [go_sem]))
 (simp only [ZX,inR,Option.some.injEq,SV.v.injEq,Value.bool.injEq]<;>grind)
theorem Uz (lo hi:Int) (l:List Span) (hl:l.length < 4611686018427387904) (c:Bool):Ct Tryz.prog 19 [I lo,I hi,.sl c 2 (l.map Ze)] (B (l.all (ZX lo hi))):=by
 refine t19.1 (by simp [Za,Ze]) (by simp) ?_;dsimp only [c19,r19,go_sem];refine Vi (by simp [FLT]) (res:=B (l.any λx=>!ZX lo hi x)) ?_ ?_
 . dsimp only [go_sem];exact ZgD 49 [.ps [I lo] 0,.ps [I hi] 0] (by simp) (λx=>!ZX lo hi x) l (λx _=>Zr3 lo hi x) hl
 . dsimp only [go_sem];simp [List.all_eq_not_any_not]
theorem Xf (a b c d:Int):Ct Tryz.prog 20 [.agg [I a,I b],.agg [I c,I d]] (.agg [I (max a c),I (min b d)]):=by
 refine t20.1 (by simp) (by simp) ?_;dsimp only [c20,r20,go_sem]
theorem Wx (a b c d:Int) (h:(-10000000<=a/\a<=10000000)/\(-10000000<=b/\b<=10000000)/\(-10000000<=c/\c<=10000000)/\(-10000000<=d/\d<=10000000)):Ct Tryz.prog 51 [.agg [I a,I b],I c,I d] (.agg [I (a+c),I (b+d)]):=by
 refine t51.1 (by simp) (by simp) ?_;dsimp only [c51,r51,go_sem];rw [Zg (n:=a+c) (by omega) (by omega),Zg (n:=b+d) (by omega) (by omega)]
theorem Zae (a b:Int) (h:(-10000000<=a/\a<=10000000)/\(-10000000<=b/\b<=10000000)):Ct Tryz.prog 24 [.agg [I a,I b]] (.agg [I (-b),I (-a)]):=by
 refine t24.1 (by simp) (by simp) ?_;dsimp only [c24,r24,go_sem];rw [Zg (n:=0 - b) (by omega) (by omega),Zg (n:=0 - a) (by omega) (by omega),Int.zero_sub,Int.zero_sub]
theorem Ze5 (a b c d:Int) (k:Bool) (h:(-1000000<=a/\a<=1000000)/\(-1000000<=b/\b<=1000000)/\(-1000000<=c/\c<=1000000)/\(-1000000<=d/\d<=1000000)):Ct Tryz.prog 21 [.sl k 2 [[I a,I b],[I c,I d]]] (.agg [I (a+c),I (b+d)]):=by
 refine t21.1 (by simp [KFR]) (by simp) ?_;dsimp only [c21,r21,go_sem];refine ZY 3 ?_;dsimp only [Zb,go_sem];refine Zr rfl ?_;dsimp only [go_sem];refine ixs 0 _ rfl rfl ?_;dsimp only [go_sem];refine call (Wx 0 0 a b (by omega)) ?_;dsimp only [go_sem];refine Zr rfl ?_;dsimp only [go_sem];refine ixs 1 _ rfl rfl ?_;dsimp only [go_sem];refine call (Wx _ _ c d (by omega)) ?_;dsimp only [go_sem];refine Zo rfl ?_
 dsimp only [go_sem];simp only [Int.zero_add]
theorem Zc5 (a b c d e f:Int) (k:Bool) (h:(-1000000<=a/\a<=1000000)/\(-1000000<=b/\b<=1000000)/\(-1000000<=c/\c<=1000000)/\(-1000000<=d/\d<=1000000)/\(-1000000<=e/\e<=1000000)/\(-1000000<=f/\f<=1000000)):Ct Tryz.prog 21 [.sl k 2 [[I a,I b],[I c,I d],[I e,I f]]] (.agg [I (a+c+e),I (b+d+f)]):=by
 refine t21.1 (by simp [KFR]) (by simp) ?_;dsimp only [c21,r21,go_sem];refine ZY 4 ?_;dsimp only [Zb,go_sem];refine Zr rfl ?_;dsimp only [go_sem];refine ixs 0 _ rfl rfl ?_;dsimp only [go_sem];refine call (Wx 0 0 a b (by omega)) ?_;dsimp only [go_sem];refine Zr rfl ?_;dsimp only [go_sem];refine ixs 1 _ rfl rfl ?_;dsimp only [go_sem];refine call (Wx _ _ c d (by omega)) ?_;dsimp only [go_sem];refine Zr rfl ?_
 dsimp only [go_sem];refine ixs 2 _ rfl rfl ?_;dsimp only [go_sem];refine call (Wx _ _ e f (by omega)) ?_;dsimp only [go_sem];refine Zo rfl ?_;dsimp only [go_sem];simp only [Int.zero_add]
def VZ (s lo hi:Int):List SV:=[I 0,I 0,I 0,I 0,I 0,I 0,I 0,I 0,I s,I s,I 0,I 0,I lo,I hi]
theorem Zqj (l:List SV) (hl:l.length=14) (hk:KFL l) (hx:KXL l):CtM Tryz.prog 26 [(0,.cells l 45)] 1 [.p 0 0] (λo=>o=⟨false,.tup [.agg [.p 0 0,.p 0 2,.p 0 4],.agg [.p 0 6,.p 0 8,.p 0 10]],[(0,.cells l 45)],1⟩):=by
 refine m26 (by simp [hpb]) (λo ho=>by subst ho;simp [KX,KXL,KXP,KXH,KFL,KF,hk,hx]) ?_;dsimp only [c26,r26,go_sem];refine ⟨_,rfl,?_⟩;(refine ZT ?_ ?_ ?_ rfl<;>dsimp only [hk,id,go_sem]<;>simp [hk,Za])
theorem Zjd (l:List SV) (v:Nat) (hl:l.length=14) (hk:KFL l):CtM Tryz.prog 26 [(0,.row v 14 [l] 45)] 1 [.pr 0 v 14 0 0] (λo=>o=⟨false,.tup [.agg [.pr 0 v 14 0 0,.pr 0 v 14 0 2,.pr 0 v 14 0 4],.agg [.pr 0 v 14 0 6,.pr 0 v 14 0 8,.pr 0 v 14 0 10]],[(0,.row v 14 [l] 45)],1⟩):=by
 refine m26 (by simp [hpb]) (λo ho=>by subst ho;simp [KX,KXL,KXP,KXH,KFL,KF,hk,KFR]) ?_;dsimp only [c26,r26,go_sem];refine ⟨_,rfl,?_⟩;(refine ZT ?_ ?_ ?_ rfl<;>dsimp only [hk,KFR,id,go_sem]<;>simp [hk,KFR,Za])
theorem ZuV (l:List SV) (hk:KFL l) (k:Bool):CtM Tryz.prog 23 [] 0 [.sl k 14 [l]] (λo=>o=⟨false,.cl 52 [.p 0 0],[(0,.cells [.sl k 14 [l]] 47)],1⟩):=by
 refine m23 (by simp [hpb]) (λo ho=>by subst ho;simp [KX,KXL,KXP,KXH,KFL,KF,hk,KFR]) ?_;dsimp only [c23,r23,go_sem];refine ⟨_,rfl,?_⟩;(refine ZT ?_ ?_ ?_ rfl<;>dsimp only [hk,KFR,id,go_sem]<;>simp [hk,KFR,Za])
theorem Zik (l:List SV) (hk:KFL l) (h14:l.length=14) (c:Bool):CtM Tryz.prog 25 [] 0 [.sl c 14 [l]] (λo=>o=⟨false,.mr 0 0,[(0,.row 0 14 [l] 45)],1⟩):=by
 refine m25 (by simp [hpb]) (λo ho=>by subst ho;simp [KX,KXL,KXP,KXH,KFR,KFL,KF,hk]) ?_;dsimp only [c25,r25,go_sem];intro b hb;dsimp only [go_sem];cases b with
 | true=>exact absurd (hb rfl) (by simp)
 | false =>
  refine Zo rfl ?_;dsimp only [go_sem];refine ⟨by simp,?_⟩;dsimp only [go_sem];refine ⟨_,rfl,?_⟩;(refine ZT ?_ ?_ ?_ rfl<;>dsimp only [hk,KFR,id,go_sem]<;>simp [hk,KFR,Za])
theorem UL (s lo hi:Int) (hs:0<=s/\s<=1000):Ct Tryz.prog 22 [.agg (VZ s lo hi)] (.agg [I (-s),I (-s)]):=by
 refine t22.1 (by simp [VZ]) (by simp) ?_;dsimp only [c22,r22,VZ,go_sem];refine Yd [0] (Zqj (VZ s lo hi) rfl (by simp [VZ]) (by simp [VZ,KXL,KX])) rfl rfl rfl ?_ ?_ ?_
 . (repeat first | dsimp only [VZ,go_sem] | simp only [nbr])
   try simp [mtL,mtB,mtS]
 . (repeat first | dsimp only [VZ,go_sem] | simp only [nbr])
   try simp [mtL,mtB,mtS,Zc,KFL,KF,KFR,Za]
 rintro _ rfl
 (repeat first | dsimp only [VZ,go_sem] | simp only [nbr])
 refine ZY 4 ?_;dsimp only [Zb,go_sem];refine Zr rfl ?_;dsimp only [go_sem];refine ixa 0 rfl (by decide) ?_;dsimp only [go_sem];refine ixa 0 rfl (by decide) ?_;dsimp only [go_sem];refine call (Zae _ _ (by omega)) ?_;dsimp only [go_sem];refine call (Zc5 _ _ _ _ _ _ _ (by omega)) ?_;dsimp only [go_sem];refine Zr rfl ?_;dsimp only [go_sem];refine ixa 1 rfl (by decide) ?_;dsimp only [go_sem];refine ixa 1 rfl (by decide) ?_
 dsimp only [go_sem];refine call (Zae _ _ (by omega)) ?_;dsimp only [go_sem];refine call (Zc5 _ _ _ _ _ _ _ (by omega)) ?_;dsimp only [go_sem];refine Zr rfl ?_;dsimp only [go_sem];refine ixa 2 rfl (by decide) ?_;dsimp only [go_sem];refine ixa 2 rfl (by decide) ?_;dsimp only [go_sem];refine call (Zae _ _ (by omega)) ?_;dsimp only [go_sem];refine call (Zc5 _ _ _ _ _ _ _ (by omega)) ?_;dsimp only [go_sem]
 refine Zo rfl ?_;dsimp only [go_sem];simp only [Int.neg_zero,Int.add_zero,Int.zero_add]
theorem ZfY (h s lo hi:Int) (hh:1<=h/\h<=30) (hs:0<=s/\s<=h) (hl:0<=lo/\lo<=hi/\hi<=100000) (hq:lo<=h - s/\h - s<=hi) :
 Ct Tryz.prog 8 [.agg [I h,I h],.sl true 14 [VZ s lo hi]] (.tup [.sl false 2 [[I h,I h],[I (h - s),I (h - s)]],.sl false 14 [VZ s (h - s) (h - s)],I 0,I 0]):=by
 refine t8.1 (by simp [VZ,KFR]) (by simp [VZ,KFR]) ?_;dsimp only [c8,r8,go_sem];refine call (Uz 0 100000 [⟨h,h⟩] (by simp) true) ?_;rw [show [(⟨h,h⟩:Span)].all (ZX 0 100000)=true from by simp [ZX];omega];dsimp only [go_sem];refine Zo rfl ?_;dsimp only [go_sem];refine Zo rfl ?_;dsimp only [go_sem];refine ZY 2 ?_;dsimp only [Zb,go_sem];refine Zr rfl ?_;dsimp only [go_sem];refine ixs 0 _ rfl rfl ?_;dsimp only [VZ,go_sem]
 refine call (Uz 0 100000 [⟨0,0⟩,⟨0,0⟩,⟨0,0⟩,⟨0,0⟩,⟨s,s⟩,⟨0,0⟩,⟨lo,hi⟩] (by simp) true) ?_;rw [show [(⟨0,0⟩:Span),⟨0,0⟩,⟨0,0⟩,⟨0,0⟩,⟨s,s⟩,⟨0,0⟩,⟨lo,hi⟩].all (ZX 0 100000)=true from by simp [ZX];omega];dsimp only [go_sem];refine Zo rfl ?_;dsimp only [go_sem];refine Zo rfl ?_;dsimp only [go_sem];refine ZY 2 ?_;dsimp only [Zb,go_sem];refine Zr rfl ?_;dsimp only [go_sem];refine ixs 0 _ rfl rfl ?_;dsimp only [go_sem]
 refine ixs 0 _ rfl rfl ?_;dsimp only [go_sem];refine call (UL s lo hi (by omega)) ?_;dsimp only [go_sem];refine call (Ze5 h h (-s) (-s) _ (by omega)) ?_;dsimp only [go_sem];refine call (Xf lo hi _ _) ?_;rw [show max lo (h+-s)=h - s from by omega,show min hi (h+-s)=h - s from by omega];dsimp only [go_sem];refine Zo (by simp) ?_;dsimp only [go_sem];refine Zpx (m:=2) (b:=16) (T:=27) (x:=.t 83) (y:=.t 85) (xs:=[[I h,I h]]) (ys:=[[I (h - s),I (h - s)]]) (by rfl) rfl rfl (by simp) (by simp) ?_
 dsimp only [go_sem];refine Zo rfl ?_;dsimp only [go_sem];refine Yd [] (ZuV (VZ s lo hi) (by simp [VZ]) true) rfl rfl rfl ?_ ?_ ?_
 . (repeat first | dsimp only [go_sem] | simp only [nbr])
   try simp [mtL,mtB,mtS,KFL,KF,KFR,VZ]
 . (repeat first | dsimp only [VZ,go_sem] | simp only [nbr])
   try simp [mtL,mtB,mtS,Zc,KFL,KF,KFR,Za]
 rintro _ rfl
 (repeat first | dsimp only [VZ,go_sem] | simp only [nbr])
 refine gh Xu ?_;dsimp only [go_sem];refine ⟨b52,λrec=>?_⟩;refine y52 ?_;dsimp only [c52,r52,go_sem];refine ZY 2 ?_;dsimp only [Zb,go_sem];refine Zr rfl ?_;dsimp only [go_sem];rw [show IntKind.i64.wrap (((1:Nat):Int) - 1)=((0:Nat):Int) from rfl];refine ixs 0 _ rfl rfl ?_;dsimp only [go_sem];refine ⟨rfl,rfl,?_⟩;refine Uu 0 rfl (by simp) ?_;dsimp only [go_sem];refine ⟨_,Zx.2 λ_=>rfl,?_⟩;dsimp only [go_sem]
 rw [show IntKind.i64.wrap (((0:Nat):Int)+1)=((1:Nat):Int) from rfl];refine Uu 1 rfl (by simp) ?_;dsimp only [go_sem];refine ⟨_,Zx.2 λ_=>rfl,?_⟩;dsimp only [go_sem];refine call (UL s lo hi (by omega)) ?_;dsimp only [go_sem];refine call (Zae (-s) (-s) (by omega)) ?_;rw [Int.neg_neg];dsimp only [go_sem];refine call (Ze5 (h - s) (h - s) s s _ (by omega)) ?_;rw [show h - s+s=h from by omega];dsimp only [go_sem]
 refine call (Xf h h h h) ?_;rw [Int.max_self,Int.min_self];dsimp only [go_sem];refine Uu 0 rfl (by simp) ?_;dsimp only [go_sem];refine ⟨_,rfl,by simp,?_⟩;dsimp only [List.set,go_sem];refine ⟨rfl,?_⟩;refine Zo rfl ?_;dsimp only [go_sem];refine Zo rfl ?_;dsimp only [go_sem];refine Yd [] (Zik (VZ s lo hi) (by simp [VZ]) rfl true) rfl rfl rfl ?_ ?_ ?_
 . (repeat first | dsimp only [go_sem] | simp only [nbr])
   try simp [mtL,mtB,mtS,KFL,KF,KFR,VZ]
 . (repeat first | dsimp only [VZ,go_sem] | simp only [nbr])
   try simp [mtL,mtB,mtS,Zc,KFL,KF,KFR,Za]
 rintro _ rfl
 (repeat first | dsimp only [VZ,go_sem] | simp only [nbr])
 refine ZY 2 ?_;dsimp only [Zb,go_sem];refine Zr rfl ?_;dsimp only [go_sem];refine Uu 0 rfl (by simp) ?_;dsimp only [go_sem];refine ⟨_,Zx.2 λ_=>rfl,?_⟩;dsimp only [go_sem];refine Yd [9] (Zjd (VZ s lo hi) 0 rfl (by simp [VZ])) rfl rfl rfl ?_ ?_ ?_
 . (repeat first | dsimp only [go_sem] | simp only [nbr])
   try simp [mtL,mtB,mtS,KFL,KF,KFR,VZ]
 . (repeat first | dsimp only [VZ,go_sem] | simp only [nbr])
   try simp [mtL,mtB,mtS,Zc,KFL,KF,KFR,Za,mtH,mtM]
 rintro _ rfl
 (repeat first | dsimp only [VZ,go_sem] | simp only [nbr])
 rw [show IntKind.i64.wrap ((0:Int)+1)=((1:Nat):Int) from rfl];refine Uu 1 rfl (by simp) ?_;dsimp only [go_sem];refine ⟨_,Zx.2 λ_=>rfl,?_⟩;dsimp only [go_sem];refine Uu 0 rfl (by simp) ?_;dsimp only [go_sem];refine ⟨_,Zx.2 λ_=>rfl,?_⟩;dsimp only [go_sem];refine call (Zae h h (by omega)) ?_;dsimp only [go_sem];refine call (UL s lo hi (by omega)) ?_;dsimp only [go_sem];refine call (Zae (-s) (-s) (by omega)) ?_
 rw [Int.neg_neg];dsimp only [go_sem];refine call (Zc5 (h - s) (h - s) (-h) (-h) s s _ (by omega)) ?_;rw [show h - s+-h+s=0 from by omega];dsimp only [go_sem];have hws:IntKind.i64.wrap s=s:=Zg (by omega) (by omega);refine ZY 4 ?_;dsimp only [Zb,go_sem];refine Zr rfl ?_;dsimp only [go_sem];repeat (first | (refine ixa 0 rfl (by decide) ?_;dsimp only [go_sem]) | (refine ⟨_,Zx.2 λ_=>rfl,?_⟩;dsimp only [go_sem]))
 simp only [Int.add_zero,show IntKind.i64.wrap (0:Int)=0 from rfl];refine call (Xf 0 0 0 0) ?_;rw [Int.max_self,Int.min_self];dsimp only [go_sem];refine ⟨_,rfl,by simp,?_⟩;dsimp only [List.set,go_sem];repeat (first | (refine ixa 0 rfl (by decide) ?_;dsimp only [go_sem]) | (refine ⟨_,Zx.2 λ_=>rfl,?_⟩;dsimp only [go_sem]))
 simp only [Int.sub_zero,show IntKind.i64.wrap (0:Int)=0 from rfl,hws];refine call (Xf 0 0 0 0) ?_;rw [Int.max_self,Int.min_self];dsimp only [go_sem];refine ⟨_,rfl,by simp,?_⟩;dsimp only [List.set,go_sem];refine Zr rfl ?_;dsimp only [go_sem];repeat (first | (refine ixa 1 rfl (by decide) ?_;dsimp only [go_sem]) | (refine ⟨_,Zx.2 λ_=>rfl,?_⟩;dsimp only [go_sem]))
 simp only [Int.add_zero,show IntKind.i64.wrap (0:Int)=0 from rfl];refine call (Xf 0 0 0 0) ?_;rw [Int.max_self,Int.min_self];dsimp only [go_sem];refine ⟨_,rfl,by simp,?_⟩;dsimp only [List.set,go_sem];repeat (first | (refine ixa 1 rfl (by decide) ?_;dsimp only [go_sem]) | (refine ⟨_,Zx.2 λ_=>rfl,?_⟩;dsimp only [go_sem]))
 simp only [Int.sub_zero,show IntKind.i64.wrap (0:Int)=0 from rfl,hws];refine call (Xf s s s s) ?_;rw [Int.max_self,Int.min_self];dsimp only [go_sem];refine ⟨_,rfl,by simp,?_⟩;dsimp only [List.set,go_sem];refine Zr rfl ?_;dsimp only [go_sem];repeat (first | (refine ixa 2 rfl (by decide) ?_;dsimp only [go_sem]) | (refine ⟨_,Zx.2 λ_=>rfl,?_⟩;dsimp only [go_sem]))
 simp only [Int.add_zero,show IntKind.i64.wrap (0:Int)=0 from rfl];refine call (Xf 0 0 0 0) ?_;rw [Int.max_self,Int.min_self];dsimp only [go_sem];refine ⟨_,rfl,by simp,?_⟩;dsimp only [List.set,go_sem];repeat (first | (refine ixa 2 rfl (by decide) ?_;dsimp only [go_sem]) | (refine ⟨_,Zx.2 λ_=>rfl,?_⟩;dsimp only [go_sem]))
 simp only [Int.sub_zero,show IntKind.i64.wrap (0:Int)=0 from rfl,hws];refine call (Xf 0 0 0 0) ?_;rw [Int.max_self,Int.min_self];dsimp only [go_sem];refine ⟨_,rfl,by simp,?_⟩;dsimp only [List.set,go_sem];refine Zo rfl ?_;dsimp only [go_sem];rw [show IntKind.i64.wrap ((0:Int)+1)=((1:Nat):Int) from rfl];refine Uu 1 rfl (by simp) ?_;dsimp only [go_sem];refine ⟨_,Zx.2 λ_=>rfl,?_⟩;dsimp only [go_sem]
 refine ⟨_,rfl,by simp,?_⟩;dsimp only [List.set,go_sem];refine Zo rfl ?_;dsimp only [go_sem]
theorem Ziv (h s lo hi:Int) (hh:1<=h/\h<=30) (hs:0<=s/\s<=h) (hl:0<=lo/\lo<=hi/\hi<=100000) (hq:¬ (lo<=h - s/\h - s<=hi)) :
 Ct Tryz.prog 8 [.agg [I h,I h],.sl true 14 [VZ s lo hi]] (.tup [.v (.slice none 0 0),.v (.slice none 0 0),I 0,I 25]):=by
 refine t8.1 (by simp [VZ,KFR]) (by simp) ?_;dsimp only [c8,r8,go_sem];refine call (Uz 0 100000 [⟨h,h⟩] (by simp) true) ?_;rw [show [(⟨h,h⟩:Span)].all (ZX 0 100000)=true from by simp [ZX];omega];dsimp only [go_sem];refine Zo rfl ?_;dsimp only [go_sem];refine Zo rfl ?_;dsimp only [go_sem];refine ZY 2 ?_;dsimp only [Zb,go_sem];refine Zr rfl ?_;dsimp only [go_sem];refine ixs 0 _ rfl rfl ?_;dsimp only [VZ,go_sem]
 refine call (Uz 0 100000 [⟨0,0⟩,⟨0,0⟩,⟨0,0⟩,⟨0,0⟩,⟨s,s⟩,⟨0,0⟩,⟨lo,hi⟩] (by simp) true) ?_;rw [show [(⟨0,0⟩:Span),⟨0,0⟩,⟨0,0⟩,⟨0,0⟩,⟨s,s⟩,⟨0,0⟩,⟨lo,hi⟩].all (ZX 0 100000)=true from by simp [ZX];omega];dsimp only [go_sem];refine Zo rfl ?_;dsimp only [go_sem];refine Zo rfl ?_;dsimp only [go_sem];refine ZY 2 ?_;dsimp only [Zb,go_sem];refine Zr rfl ?_;dsimp only [go_sem];refine ixs 0 _ rfl rfl ?_;dsimp only [go_sem]
 refine ixs 0 _ rfl rfl ?_;dsimp only [go_sem];refine call (UL s lo hi (by omega)) ?_;dsimp only [go_sem];refine call (Ze5 h h (-s) (-s) _ (by omega)) ?_;dsimp only [go_sem];refine call (Xf lo hi _ _) ?_;dsimp only [go_sem];refine Zr (by simp;omega) ?_;dsimp only [go_sem]
theorem ZhJ {s:Season} {p:Plan} (h:PlannedS s p) (h0:(Xj s p).2≠0):(Xj s p).2=92:=by
 have:∀ (l:List Scene) (i:Nat),(Vf s p l i).2.2.2=0:=by
  intro l
  induction l with
  | nil=>intro i;rfl
  | cons x r ih=>intro i;simp only [Vf];split;rfl;exact ih _
 have he:(YX s p).2.2.2=0:=by
  unfold YX;simp only [h.ok.ok,h.plan];exact this _ _
 unfold Xj at h0 ⊢;simp only [he] at h0 ⊢;by_cases h1:(YX s p).1=0
 . simp [h1] at h0
 . simp [h1]
theorem Zhk (s:Season) (p:Plan) (o:Int) (ho:0<=o/\o < 256):Ct Tryz.prog 3 [.agg (Zt s),.agg (ZL p),.v (.int .u8 o)] (B true):=by
 refine t3.1 (by simp [Zt,ZL,Zl,Zh,Zn,Zi,Ze,Zq,Za]) (by simp) ?_;dsimp only [c3,r3,Zt,ZL,go_sem];refine call Zh9 ?_;dsimp only [go_sem];refine Zo rfl ?_;dsimp only [go_sem];refine call (Zhq s p) ?_;dsimp only [go_sem];by_cases hr:YJ s p=true
 case neg =>
  refine Zr (by simpa using hr) ?_;dsimp only [go_sem]
 refine Zo (by simpa using hr) ?_;dsimp only [go_sem];have hP:=ZeN hr;have hn:=hP.ok.num;have hpl:=hP.plan;simp only [XB,inR,Bool.and_eq_true,decide_eq_true_eq] at hpl;refine call (ZbR s hP.ok.small p (by have:=hP.legs;omega)) ?_;dsimp only [go_sem];by_cases h0:(Xj s p).2=0
 case neg =>
  refine Zr (by simpa using h0) ?_;dsimp only [go_sem];repeat (refine ZR rfl ?_;dsimp only [go_sem])
  simp [ZhJ hP h0]
 refine Zo (by simpa using h0) ?_;dsimp only [go_sem];rw [Zg (n:=s.herd - p.animals) (by omega) (by omega)];refine call (WN _ _) ?_;dsimp only [go_sem];refine call (WN _ _) ?_;dsimp only [go_sem];refine call (WN _ _) ?_;dsimp only [go_sem];have hq:s.herd - (s.herd - p.animals)=p.animals:=by omega
 have ht:=ZfY s.herd (s.herd - p.animals) 0 100000 (by omega) (by omega) (by omega) (by omega);rw [hq] at ht;refine call ht ?_;dsimp only [go_sem];rw [Zg (n:=o) (by omega) (by omega)];refine call (WN _ _) ?_;dsimp only [go_sem];refine call (WN _ _) ?_;dsimp only [go_sem];have hwo:IntKind.i64.wrap o=o:=Zg (by omega) (by omega);have hb:(p.animals == p.animals && (p.animals == p.animals && true))=true:=by simp
 by_cases ha:o=p.animals
 . have ht2:=ZfY s.herd (s.herd - p.animals) o o (by omega) (by omega) (by omega) (by omega);have hoa:(o == p.animals)=true:=by simp [ha]
   refine call ht2 ?_;dsimp only [go_sem];repeat (first | (refine ZR rfl ?_;dsimp only [go_sem]) | (refine ixs 1 _ rfl rfl ?_;dsimp only [go_sem]) | (refine call (WN _ _) ?_;dsimp only [go_sem]) | (refine YW (by decide) ?_;dsimp only [go_sem]))
   simp only [hb];repeat (first | (refine ZR rfl ?_;dsimp only [go_sem]) | (refine YW (by decide) ?_;dsimp only [go_sem]))
   simp only [hwo,hoa];repeat (refine gb ?_;dsimp only [go_sem])
   refine Zo rfl ?_;dsimp only [go_sem];rw [Zg (n:=s.sale+1) (by omega) (by omega)];obtain ⟨v,hv⟩:∃ v,v=min (s.sale+1) 1000000:=⟨_,rfl⟩
   rw [<- hv];refine call (ZbR (X5 s v) ⟨hP.ok.small.land,hP.ok.small.sc,hP.ok.small.each⟩ p (by have:=hP.legs;omega)) ?_;have hsn:s.scenes≠[]:=λe=>by have:=hP.ok.scs;rw [e] at this;simp at this
   obtain ⟨hw1,hw2⟩:=Za9 (p:=p) hP.ok.ok (v:=v) (by omega) h0 hsn;rw [hw1,hw2];dsimp only [go_sem];repeat (refine ZR rfl ?_;dsimp only [go_sem])
   rw [Zg (n:=v - s.sale) (by omega) (by omega),show (Xj s p).1+(s.herd - p.animals) * (v - s.sale) - (Xj s p).1=(s.herd - p.animals) * (v - s.sale) from by omega];simp
 . have ht2:=Ziv s.herd (s.herd - p.animals) o o (by omega) (by omega) (by omega) (by omega);have hoa:(o == p.animals)=false:=by simp [ha]
   refine call ht2 ?_;dsimp only [go_sem];repeat (first | (refine ZR rfl ?_;dsimp only [go_sem]) | (refine ixs 1 _ rfl rfl ?_;dsimp only [go_sem]) | (refine call (WN _ _) ?_;dsimp only [go_sem]) | (refine YW (by decide) ?_;dsimp only [go_sem]))
   simp only [hb];repeat (first | (refine ZR rfl ?_;dsimp only [go_sem]) | (refine YW (by decide) ?_;dsimp only [go_sem]))
   simp only [hwo,hoa];repeat (refine gb ?_;dsimp only [go_sem])
   refine Zo rfl ?_;dsimp only [go_sem];rw [Zg (n:=s.sale+1) (by omega) (by omega)];obtain ⟨v,hv⟩:∃ v,v=min (s.sale+1) 1000000:=⟨_,rfl⟩
   rw [<- hv];refine call (ZbR (X5 s v) ⟨hP.ok.small.land,hP.ok.small.sc,hP.ok.small.each⟩ p (by have:=hP.legs;omega)) ?_;have hsn:s.scenes≠[]:=λe=>by have:=hP.ok.scs;rw [e] at this;simp at this
   obtain ⟨hw1,hw2⟩:=Za9 (p:=p) hP.ok.ok (v:=v) (by omega) h0 hsn;rw [hw1,hw2];dsimp only [go_sem];repeat (refine ZR rfl ?_;dsimp only [go_sem])
   rw [Zg (n:=v - s.sale) (by omega) (by omega),show (Xj s p).1+(s.herd - p.animals) * (v - s.sale) - (Xj s p).1=(s.herd - p.animals) * (v - s.sale) from by omega];simp
theorem wf8 {n:Int} (h:(Lit.int .u8 n).wf=true):0<=n/\n < 256:=by
 simp only [Lit.wf,Bool.and_eq_true,decide_eq_true_eq] at h;have e1:IntKind.u8.min=0:=rfl;have e2:IntKind.u8.max=255:=rfl;omega
end Go.Proofs.YtongccnhomncnaaGreat
