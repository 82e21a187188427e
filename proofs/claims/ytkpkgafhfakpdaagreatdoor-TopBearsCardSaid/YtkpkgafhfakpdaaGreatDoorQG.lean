/- Walks and plain laws that lead to the given statement, part 7 of 9. -/
import Derived.Test.YtkpkgafhfakpdaaGreatDoorQF
import Derived.Test.YtkpkgafhfakpdaaGreatDoorProg
set_option maxRecDepth 100000
set_option maxHeartbeats 4000000
set_option linter.all false
open Nat renaming beq_refl->nbr
namespace Go.Proofs.YtkpkgafhfakpdaaGreatDoor
open Go Go.Sx
def c42:SC:=(sr1 [Jw 4 Jf] (.seq (sr1 [m1 6 0,o1 7 (Jl 6),o1 8 (Jc .gtr 7 40),m1 9 8,g1 10 9 false (.mv (.t 1)),g1 11 9 false (Jl 10),g1 12 9 false (Jc .gtr 11 12),o1 13 (.pick (.t 9) Jt (.t 12))] (Ji 13 (sr1 [Jw 4 Jt] .ret) .skip)) (.seq (sr1 [Jk 5
 0] (.block 0 (.loop (.seq (sr1 [m1 14 5,m1 15 1,o1 16 (Jl 15),o1 17 (Jb .lss 14 16)] (Ji 17 .skip (.exit 0))) (.seq (.block 1 (sr1 [m1 20 1,m1 21 5,o1 22 (Jx 20 21 3),o1 23 (ao 22 0),o1 24 (lf 23 1),o1 25 (Jl 24),o1 26 (Jc .gtr 25 16),m1 27 26,g1 28
 27 false (.mv (.t 1)),g1 29 27 false (.mv (.t 5)),g1 30 27 false (Jx 28 29 3),g1 31 27 false (ao 30 1),g1 32 27 false (lf 31 1),g1 33 27 false (Jl 32),g1 34 27 false (Jc .gtr 33 16),o1 35 (.pick (.t 27) Jt (.t 34)),m1 36 35,g1 37 36 false (.mv (.t
 1)),g1 38 36 false (.mv (.t 5)),g1 39 36 false (Jx 37 38 3),g1 40 36 false (ao 39 2),g1 41 36 false (lf 40 1),g1 42 36 false (Jl 41),g1 43 36 false (Jc .gtr 42 16),o1 44 (.pick (.t 36) Jt (.t 43))] (Ji 44 (sr1 [Jw 4 Jt] .ret) .skip))) (.reg [m1 18
 5,o1 19 (Jc .add 18 1),m1 5 19])))))) (sr1 [Jw 4 Jf] .ret))))
def r42:List RV:=[.tmp 4]
theorem t42:Qt1 Tryz.prog 42 c42 r42 45:=ZU Tryz.func42
def c43:SC:=(sr1 [Jk 4 0] (.seq (sr1 [m1 5 0,o1 6 (J1 105 5),o1 7 (Jh 6)] (Ji 7 (sr1 [Jk 4 50] .ret) .skip)) (.seq (sr1 [m1 8 0,o1 9 (Jl 8),m1 10 1,o1 11 (J2 106 9 10),o1 12 (Jh 11)] (Ji 12 (sr1 [Jk 4 51] .ret) .skip)) (sr1 [Jk 4 0] .ret))))
def r43:List RV:=[.tmp 4]
theorem t43:Qt1 Tryz.prog 43 c43 r43 13:=ZU Tryz.func43
def c105:SC:=(sr1 [Jw 2 Jf] (.seq (sr1 [m1 4 0,o1 5 (Jl 4),o1 6 (Jc .gtr 5 30)] (Ji 6 (sr1 [Jw 2 Jf] .ret) .skip)) (.seq (sr1 [Jk 3 0] (.block 0 (.loop (.seq (sr1 [m1 7 3,m1 8 0,o1 9 (Jl 8),o1 10 (Jb .lss 7 9)] (Ji 10 .skip (.exit 0))) (.seq (.block 1
 (sr1 [m1 13 0,m1 14 3,o1 15 (Jx 13 14 11),o1 16 (lt 15 11),o1 17 (J1 15 16),o1 18 (Jh 17)] (Ji 18 (sr1 [Jw 2 Jf] .ret) .skip))) (.reg [m1 11 3,o1 12 (Jc .add 11 1),m1 3 12])))))) (sr1 [Jw 2 Jt] .ret))))
def r105:List RV:=[.tmp 2]
theorem t105:Qt1 Tryz.prog 105 c105 r105 19:=ZU Tryz.func105
def c106:SC:=(sr1 [Jw 4 Jf] (.seq (sr1 [m1 10 1,o1 11 (Jl 10),o1 12 (Jc .gtr 11 8)] (Ji 12 (sr1 [Jw 4 Jf] .ret) .skip)) (sr1 [m1 13 0,o1 14 (.mks 1 1 [.bool false] 4 (.t 13)),m1 5 14] (.seq (sr1 [Jk 6 0] (.block 0 (.loop (.seq (sr1 [m1 15 6,m1 16 1,o1
 17 (Jl 16),o1 18 (Jb .lss 15 17)] (Ji 18 .skip (.exit 0))) (.seq (.block 1 (sr1 [m1 21 1,m1 22 6,o1 23 (Jx 21 22 3),o1 24 (lt 23 3),o1 7 (.alloc zv9 31),Js 7 24 3] (.seq (sr1 [o1 25 (ao 7 0),o1 26 (lf 25 1),m1 27 0,o1 28 (J2 166 26 27),o1 29 (Jh
 28),m1 30 29,g1 31 30 false (ao 7 1),g1 32 30 false (lf 31 1),g1 33 30 false (.mv (.t 0)),g1 34 30 false (J2 166 32 33),g1 35 30 false (Jh 34),o1 36 (.pick (.t 30) Jt (.t 35)),m1 37 36,g1 38 37 false (ao 7 2),g1 39 37 false (lf 38 1),g1 40 37 false
 (.mv (.t 0)),g1 41 37 false (J2 166 39 40),g1 42 37 false (Jh 41),o1 43 (.pick (.t 37) Jt (.t 42))] (Ji 43 (sr1 [Jw 4 Jf] .ret) .skip)) (sr1 [o1 44 (lt 7 3),o1 45 (J1 167 44),m1 8 45] (.seq (sr1 [m1 46 8,o1 47 (Jl 46),o1 48 (Jc .gtr 47 10)] (Ji 48
 (sr1 [Jw 4 Jf] .ret) .skip)) (sr1 [Jk 9 0] (.block 2 (.loop (.seq (sr1 [m1 49 9,m1 50 8,o1 51 (Jl 50),o1 52 (Jb .lss 49 51)] (Ji 52 .skip (.exit 2))) (.seq (.block 3 (.seq (sr1 [m1 55 5,m1 56 8,m1 57 9,o1 58 (Jx 56 57 1),o1 59 (lf 58 1),o1 60 (Jx 55
 59 1),o1 61 (lf 60 1)] (Ji 61 (sr1 [Jw 4 Jf] .ret) .skip)) (.reg [m1 62 5,m1 63 8,m1 64 9,o1 65 (Jx 63 64 1),o1 66 (lf 65 1),o1 67 (Jx 62 66 1),Jv 67 Jt 1]))) (.reg [m1 53 9,o1 54 (Jc .add 53 1),m1 9 54]))))))))))) (.reg [m1 19 6,o1 20 (Jc .add 19
 1),m1 6 20])))))) (sr1 [Jw 4 Jt] .ret)))))
def r106:List RV:=[.tmp 4]
theorem t106:Qt1 Tryz.prog 106 c106 r106 68:=ZU Tryz.func106
def c15:SC:=(sr1 [o1 1 (Jz 0 0 49),Jw 2 Jf] (.seq (sr1 [o1 4 (ao 1 1),o1 5 (lt 4 2),o1 6 (.call 65 [.t 5,cn 0,cn 1000000]),o1 7 (Jh 6),m1 8 7,g1 9 8 false (ao 1 9),g1 10 8 false (lf 9 1),g1 11 8 false (.call 66 [.t 10,cn 0,cn 6000000]),g1 12 8 false
 (Jh 11),o1 13 (.pick (.t 8) Jt (.t 12)),m1 14 13,g1 15 14 false (ao 1 10),g1 16 14 false (lf 15 1),g1 17 14 false (.call 66 [.t 16,cn 0,cn 100000]),g1 18 14 false (Jh 17),o1 19 (.pick (.t 14) Jt (.t 18))] (Ji 19 (sr1 [Jw 2 Jf] .ret) .skip)) (sr1 [o1
 20 (.build zv1 []),o1 3 (.alloc zv1 23),Js 3 20 2] (.seq (sr1 [o1 21 (ao 1 0),o1 22 (lf 21 1),o1 23 (.bin .eql (.t 22) (.c (.int .u8 1)))] (Ji 23 (sr1 [o1 24 (ao 1 3),o1 25 (lt 24 2),o1 26 (.call 65 [.t 25,cn 1,cn 100000]),m1 27 26,g1 28 27 true (ao
 1 5),g1 29 27 true (lt 28 2),g1 30 27 true (.call 65 [.t 29,cn 0,cn 1000]),o1 31 (.pick (.t 27) (.t 30) Jf),m1 32 31,g1 33 32 true (ao 1 7),g1 34 32 true (lt 33 2),g1 35 32 true (lt 3 2),g1 36 32 true (.eqs false true [1,1] (.t 34) (.t 35)),o1 37
 (.pick (.t 32) (.t 36) Jf),m1 2 37] .ret) .skip)) (.seq (sr1 [o1 38 (ao 1 0),o1 39 (lf 38 1),o1 40 (.bin .eql (.t 39) (.c (.int .u8 2)))] (Ji 40 (sr1 [o1 41 (ao 1 3),o1 42 (lt 41 2),o1 43 (lt 3 2),o1 44 (.eqs false true [1,1] (.t 42) (.t 43)),m1 45
 44,g1 46 45 true (ao 1 5),g1 47 45 true (lt 46 2),g1 48 45 true (lt 3 2),g1 49 45 true (.eqs false true [1,1] (.t 47) (.t 48)),o1 50 (.pick (.t 45) (.t 49) Jf),m1 51 50,g1 52 51 true (ao 1 7),g1 53 51 true (lt 52 2),g1 54 51 true (lt 3 2),g1 55 51
 true (.eqs false true [1,1] (.t 53) (.t 54)),o1 56 (.pick (.t 51) (.t 55) Jf),m1 2 56] .ret) .skip)) (sr1 [o1 57 (ao 1 0),o1 58 (lf 57 1),o1 59 (.bin .eql (.t 58) (.c (.int .u8 3))),m1 60 59,g1 61 60 true (ao 1 3),g1 62 60 true (lt 61 2),g1 63 60
 true (lt 3 2),g1 64 60 true (.eqs false true [1,1] (.t 62) (.t 63)),o1 65 (.pick (.t 60) (.t 64) Jf),m1 66 65,g1 67 66 true (ao 1 5),g1 68 66 true (lt 67 2),g1 69 66 true (lt 3 2),g1 70 66 true (.eqs false true [1,1] (.t 68) (.t 69)),o1 71 (.pick (.t
 66) (.t 70) Jf),m1 72 71,g1 73 72 true (ao 1 7),g1 74 72 true (lt 73 2),g1 75 72 true (.call 65 [.t 74,cn 0,cn 1000000]),o1 76 (.pick (.t 72) (.t 75) Jf),m1 2 76] .ret))))))
def r15:List RV:=[.tmp 2]
theorem t15:Qt1 Tryz.prog 15 c15 r15 77:=ZU Tryz.func15
def c65:SC:=(sr1 [o1 3 (Jz 0 0 23),Jw 6 Jf] (sr1 [o1 7 (ao 3 0),o1 8 (lf 7 1),m1 9 1,o1 10 (Jb .geq 8 9),m1 11 10,g1 12 11 true (ao 3 0),g1 13 11 true (lf 12 1),g1 14 11 true (ao 3 1),g1 15 11 true (lf 14 1),g1 16 11 true (Jb .leq 13 15),o1 17 (.pick
 (.t 11) (.t 16) Jf),m1 18 17,g1 19 18 true (ao 3 1),g1 20 18 true (lf 19 1),g1 21 18 true (.mv (.t 2)),g1 22 18 true (Jb .leq 20 21),o1 23 (.pick (.t 18) (.t 22) Jf),m1 6 23] .ret))
def r65:List RV:=[.tmp 6]
theorem t65:Qt1 Tryz.prog 65 c65 r65 24:=ZU Tryz.func65
def c66:SC:=(sr1 [Jw 6 Jf] (sr1 [m1 7 0,m1 8 1,o1 9 (Jb .geq 7 8),m1 10 9,g1 11 10 true (.mv (.t 0)),g1 12 10 true (.mv (.t 2)),g1 13 10 true (Jb .leq 11 12),o1 14 (.pick (.t 10) (.t 13) Jf),m1 6 14] .ret))
def r66:List RV:=[.tmp 6]
theorem t66:Qt1 Tryz.prog 66 c66 r66 15:=ZU Tryz.func66
def c166:SC:=(sr1 [Jw 4 Jf] (.seq (sr1 [Jk 5 0] (.block 0 (.loop (.seq (sr1 [m1 6 5,m1 7 0,o1 8 (Jl 7),o1 9 (Jb .lss 6 8)] (Ji 9 .skip (.exit 0))) (.seq (.block 1 (.seq (.regd (Jr 24) [Jm 12 0,Jm 13 5,Jp 14 (Jx 12 13 1) [0,1],Jp 15 (lf 14 1) [2],Jm 16
 1,Jp 17 (Jc .sub 16 1) [4],Jp 18 (.call 66 [.t 15,cn 0,.t 17]) [3,5],Jp 19 (Jh 18) [6],Jp 20 (.mv (.t 19)) [6,7],Jq 21 20 false (.mv (.t 5)) [8],Jq 22 20 false (Jc .gtr 21 0) [8,9],Jq 23 20 false (.mv (.t 22)) [8,10],Jq 24 23 true (.mv (.t 0))
 [11],Jq 25 23 true (.mv (.t 5)) [11],Jq 26 23 true (Jx 24 25 1) [11,12,13],Jq 27 23 true (lf 26 1) [11,14],Jq 28 23 true (.mv (.t 0)) [11],Jq 29 23 true (.mv (.t 5)) [11],Jq 30 23 true (Jc .sub 29 1) [11,17],Jq 31 23 true (Jx 28 30 1) [11,16,18],Jq
 32 23 true (lf 31 1) [11,19],Jq 33 23 true (Jb .leq 27 32) [11,15,20],Jq 34 20 false (.pick (.t 23) (.t 33) Jf) [8,11,21],Jp 35 (.pick (.t 20) Jt (.t 34)) [8,22]] 0 0 []) (Ji 35 (sr1 [Jw 4 Jf] .ret) .skip))) (.reg [m1 10 5,o1 11 (Jc .add 10 1),m1 5
 11])))))) (sr1 [Jw 4 Jt] .ret)))
def r166:List RV:=[.tmp 4]
theorem t166:Qt1 Tryz.prog 166 c166 r166 36:=ZU Tryz.func166
def c8:SC:=(sr1 [o1 5 (Jz 0 0 25),o1 6 (Jz 1 0 27),o1 8 (Jz 3 0 31),Jw 10 Jf] (sr1 [m1 11 2,o1 12 (lt 8 3),o1 13 (.bsl 3 31 [.t 12]),o1 14 (J2 42 11 13),o1 15 (Jh 14),m1 16 15,g1 17 16 true (.mv (.t 2)),g1 18 16 true (lt 8 3),g1 19 16 true (.bsl 3 31
 [.t 18]),g1 20 16 true (J2 43 17 19),g1 21 16 true (Jc .eql 20 0),o1 22 (.pick (.t 16) (.t 21) Jf),m1 23 22,g1 24 23 true (lt 5 17),g1 25 23 true (lt 6 7),g1 26 23 true (J2 44 24 25),g1 27 23 true (Jc .eql 26 0),o1 28 (.pick (.t 23) (.t 27) Jf),m1 29
 28,g1 30 29 true (.mv (.t 4)),g1 31 29 true (Jc .geq 30 0),o1 32 (.pick (.t 29) (.t 31) Jf),m1 33 32,g1 34 33 true (.mv (.t 4)),g1 35 33 true (Jc .leq 34 1000000000),o1 36 (.pick (.t 33) (.t 35) Jf),m1 10 36] .ret))
def r8:List RV:=[.tmp 10]
theorem t8:Qt1 Tryz.prog 8 c8 r8 37:=ZU Tryz.func8
def c3:SC:=(sr1 [o1 6 (Jz 0 0 25),o1 7 (Jz 1 0 27),o1 9 (Jz 3 0 31),Jw 12 Jf] (sr1 [o1 29 (.call 7 []),m1 13 29] (.seq (sr1 [o1 30 (lt 6 17),o1 31 (lt 7 7),m1 32 2,o1 33 (lt 9 3),m1 34 4,o1 35 (J5 8 30 31 32 33 34),o1 36 (Jh 35),m1 37 36,g1 38 37
 false (.mv (.t 5)),g1 39 37 false (Jl 38),g1 40 37 false (Jc .gtr 39 60),o1 41 (.pick (.t 37) Jt (.t 40)),m1 42 41,g1 43 42 false (.mv (.t 13)),g1 44 42 false (Jh 43),o1 45 (.pick (.t 42) Jt (.t 44))] (Ji 45 (sr1 [m1 46 13,m1 12 46] .ret) .skip))
 (sr1 [m1 48 2,o1 49 (lt 9 3),m1 50 4,o1 51 (J3 9 48 49 50),m1 47 51,o1 52 (Je 47 0),o1 53 (Je 47 1),m1 14 52,m1 15 53] (sr1 [m1 55 2,o1 56 (lt 9 3),o1 57 (J2 10 55 56),m1 54 57,o1 58 (Je 54 0),o1 59 (Je 54 1),o1 60 (Je 54 2),o1 61 (Je 54 3),o1 16
 (.alloc zv1 23),o1 17 (.alloc zv1 23),o1 18 (.alloc zv1 23),Js 16 58 2,Js 17 59 2,Js 18 60 2,m1 19 61] (.seq (sr1 [m1 62 15,o1 63 (Jc .neq 62 0),m1 64 63,g1 65 64 false (.mv (.t 19)),g1 66 64 false (Jc .neq 65 0),o1 67 (.pick (.t 64) Jt (.t 66)),m1
 68 67,g1 69 68 false (ao 18 1),g1 70 68 false (lf 69 1),g1 71 68 false (Jc .lss 70 0),o1 72 (.pick (.t 68) Jt (.t 71))] (Ji 72 (sr1 [Jw 12 Jf] .ret) .skip)) (sr1 [o1 74 (lt 6 17),o1 75 (lt 7 7),m1 76 5,o1 77 (J3 11 74 75 76),m1 73 77,o1 78 (Je 73
 0),o1 79 (Je 73 1),m1 20 78,m1 21 79] (.seq (sr1 [m1 80 21,o1 81 (Jc .neq 80 0),m1 82 81,g1 83 82 false (.mv (.t 14)),g1 84 82 false (.bin .neq (.t 83) (.c (.int .u8 2))),o1 85 (.pick (.t 82) Jt (.t 84)),m1 86 85,g1 87 86 false (ao 18 1),g1 88 86
 false (lf 87 1),g1 89 86 false (.mv (.t 20)),g1 90 86 false (Jb .gtr 88 89),o1 91 (.pick (.t 86) Jt (.t 90))] (Ji 91 (sr1 [m1 92 13,m1 12 92] .ret) .skip)) (.seq (sr1 [m1 93 5,o1 94 (Jl 93),Jk 95 0] (.block 0 (.loop (sr1 [o1 96 (Jb .lss 95 94)] (.seq
 (Ji 96 .skip (.exit 0)) (.seq (.block 1 (sr1 [o1 97 (Jx 93 95 8),o1 98 (lt 97 8),o1 23 (.alloc zv3 43),Js 23 98 8] (.seq (sr1 [o1 99 (ao 23 0),o1 100 (lf 99 1),o1 101 (Jc .gtr 100 0)] (Ji 101 (sr1 [o1 103 (lt 6 17),o1 104 (lt 7 7),m1 105 2,o1 106 (lt
 9 3),m1 107 4,o1 108 (J5 12 103 104 105 106 107),m1 102 108,o1 109 (Je 102 0),o1 110 (Je 102 1),m1 24 109,m1 25 110] (sr1 [m1 111 25,o1 112 (Jc .neq 111 0),m1 113 112,g1 114 113 false (.mv (.t 24)),g1 115 113 false (.bin .neq (.t 114) (.c (.int .u8
 2))),o1 116 (.pick (.t 113) Jt (.t 115))] (Ji 116 (sr1 [Jw 12 Jf] .ret) .skip))) .skip)) (sr1 [o1 117 (ao 18 1),o1 118 (lf 117 1),o1 119 (ao 23 1),Js 119 118 1] (sr1 [o1 121 (lt 6 17),o1 122 (lt 7 7),o1 123 (lt 23 8),o1 124 (J3 13 121 122 123),m1 120
 124,o1 125 (Je 120 0),o1 126 (Je 120 1),o1 127 (Je 120 2),o1 26 (.alloc zv4 27),Js 26 125 7,m1 27 126,m1 28 127] (.seq (sr1 [m1 128 28,o1 129 (Jc .neq 128 0),m1 130 129,g1 131 130 false (.mv (.t 27)),g1 132 130 false (.bin .neq (.t 131) (.c (.int .u8
 0))),o1 133 (.pick (.t 130) Jt (.t 132))] (Ji 133 (sr1 [Jw 12 Jf] .ret) .skip)) (.reg [o1 134 (lt 26 7),Js 7 134 7]))))))) (.reg [o1 135 (Jc .add 95 1),m1 95 135]))))))) (sr1 [m1 136 13,m1 12 136] .ret))))))))))
def r3:List RV:=[.tmp 12]
theorem n3:Tryz.f3.ntmps=137:=by kernel_rfl
theorem b3:Z5 Tryz.prog 3=true:=by kernel_rfl
theorem t3:Qt1 Tryz.prog 3 c3 r3 137:=ZU Tryz.func3 rfl b3 (by kernel_rfl) (by kernel_rfl) n3
open Go.Azalai
theorem Zbd (n lo hi:Int):Ct Tryz.prog 66 [I n,I lo,I hi] (B (inR lo hi n)):=by
 refine t66.1 (by simp) (by simp) ?_;dsimp only [c66,r66,go_sem];refine gb ?_;dsimp only [go_sem];refine gb ?_;dsimp only [go_sem];refine gb ?_;dsimp only [go_sem];simp [inR]
theorem X3 (s:Span) (lo hi:Int):Ct Tryz.prog 65 [.agg (Zh s),I lo,I hi] (B (Z4 lo hi s)):=by
 refine t65.1 (by simp [Zh]) (by simp) ?_;dsimp only [c65,r65,Zh,go_sem];repeat (refine gb ?_;dsimp only [go_sem])
 (simp only [Z4,inR,Option.some.injEq,SV.v.injEq,Value.bool.injEq]<;>grind)
theorem Zf5 (s:Span):(s.lo == 0 && (s.hi == 0 && true))=decide (s=ZB):=by
 cases s
 rw [Bool.eq_iff_iff];simp [ZB]
theorem Zlt (p:Pack):Ct Tryz.prog 15 [.agg (Zj p)] (B (ZJ p)):=by
 refine t15.1 (by simp [Zj]) (by simp) ?_;dsimp only [c15,r15,Zj,go_sem];refine call (X3 p.mass _ _) ?_;dsimp only [go_sem];repeat (first | (refine gb ?_;dsimp only [go_sem]) | (refine call (Zbd _ _ _) ?_;dsimp only [go_sem]))
 by_cases h:Z4 0 1000000 p.mass=true/\inR 0 6000000 p.hurt=true/\inR 0 100000 p.days=true
 case neg =>
  have e:ZJ p=false:=by simp only [ZJ];grind
  refine Zs (by grind) ?_;dsimp only [go_sem];rw [e]
 obtain ⟨h1,h2,h3⟩:=h;have e:ZJ p=Vb p:=by simp only [ZJ,h1,h2,h3,Bool.true_and]
 rw [e,h1,h2,h3];refine Zp rfl ?_;dsimp only [go_sem];by_cases k1:p.kind=1
 . refine Zs (by simp [k1]) ?_;dsimp only [go_sem];refine call (X3 p.hard _ _) ?_;dsimp only [go_sem];repeat (first | (refine gb ?_;dsimp only [go_sem]) | (refine call (X3 p.crumbs _ _) ?_;dsimp only [go_sem]))
   rw [Zf5];simp [Vb,k1]
 refine Zp (by simpa using k1) ?_;dsimp only [go_sem];by_cases k2:p.kind=2
 . refine Zs (by simp [k2]) ?_;dsimp only [go_sem];repeat (refine gb ?_;dsimp only [go_sem])
   rw [Zf5,Zf5,Zf5];simp [Vb,k2]
 refine Zp (by simpa using k2) ?_;dsimp only [go_sem];repeat (first | (refine gb ?_;dsimp only [go_sem]) | (refine call (X3 p.leak _ _) ?_;dsimp only [go_sem]))
 rw [Zf5,Zf5];simp [Vb,k1,k2,Bool.and_assoc];congr 1
theorem ZiX (l:List Pack) (hl:l.length<=1000) (c:Bool):Ct Tryz.prog 105 [.sl c 11 (l.map Zj)] (B (decide (l.length<=30) && l.all ZJ)):=by
 refine t105.1 (by simp [Za,Zj]) (by simp) ?_;dsimp only [c105,r105,go_sem];simp only [List.length_map];by_cases h:l.length<=30
 case neg =>
  refine Zs (by simp;omega) ?_;dsimp only [go_sem];simp [h]
 refine Zp (by simp;omega) ?_;dsimp only [go_sem];refine Z1 (λk:Nat=>[(3,I k)]) (λ_=>[]) (λk=>k<=l.length/\(l.take k).all ZJ=true) (λk=>l.length - k) 0 ⟨Nat.zero_le _,rfl⟩ ?_ ?_
 . (refine Zi ?_ ?_ ?_ rfl rfl<;>dsimp only [Zj,id,go_sem]<;>simp [Zj,Za])
 rintro k ⟨hk,hi⟩;dsimp only [go_sem];simp only [List.length_map];by_cases hlt:k < l.length
 . refine Zs (by simpa using hlt) ?_;dsimp only [go_sem];refine Zu k hlt rfl ?_;dsimp only [Zj,go_sem];refine call (Zlt l[k]) ?_;dsimp only [go_sem];by_cases hp:ZJ l[k]=true
   . refine Zp (by simp [hp]) ?_;dsimp only [go_sem];rw [Zf (n:=(k:Int)+1) (by omega) (by omega)];refine ⟨k+1,⟨hlt,?_⟩,by omega,?_⟩
     . rw [List.take_succ_eq_append_getElem hlt,List.all_append,hi,List.all_cons,hp];rfl
     (refine Zi ?_ ?_ ?_ rfl rfl<;>dsimp only [Zj,id,go_sem]<;>simp [Zj,Za])
   . refine Zs (by simp [hp]) ?_;dsimp only [go_sem];have:l.all ZJ=false:=by
      cases hh:l.all ZJ with
      | false=>rfl
      | true=>exact absurd (List.all_eq_true.1 hh _ (List.getElem_mem hlt)) hp
     simp [this]
 refine Zp (by simp;omega) ?_;dsimp only [go_sem];rw [List.take_of_length_le (by omega)] at hi;simp [h,hi]
end Go.Proofs.YtkpkgafhfakpdaaGreatDoor
namespace Go.Azalai
def Zag (l:List Int):Nat->Int
 | 0=>-1
 | k+1=>l.getD k 0
def V1 (n:Nat) (done:List Int):List Bool:=(List.range n).map λi:Nat=>decide ((i:Int) ∈ done)
theorem Zch (n:Nat) (d:List Int):(V1 n d).length=n:=by simp [V1]
theorem Ztl (n:Nat):V1 n []=List.replicate n false:=by
 rw [List.eq_replicate_iff];refine ⟨Zch n [],λb hb=>?_⟩;simp [V1] at hb;exact hb.2
theorem Vj {n i:Nat} {d:List Int} (h:i < (V1 n d).length):(V1 n d)[i]=decide ((i:Int) ∈ d):=by simp [V1]
theorem Zi4 {n i:Nat} {d:List Int} (h:i < n):(V1 n d).set i true=V1 n (d ++ [(i:Int)]):=by
 refine List.ext_getElem (by simp [V1]) λj h1 h2=>?_;rw [List.getElem_set];by_cases e:i=j
 . subst e;rw [if_pos rfl,Vj];simp
 . rw [if_neg e,Vj,Vj];simp only [List.mem_append,List.mem_singleton];have:¬ ((j:Int)=(i:Int)):=by omega
   simp [this]
end Go.Azalai
namespace Go.Proofs.YtkpkgafhfakpdaaGreatDoor
open Go Go.Sx Go.Azalai
theorem V3 (n:Int) (l:List Int) (hn:0<=n/\n<=1000) (hl:l.length<=1000) (c:Bool):Ct Tryz.prog 166 [.sl c 1 (l.map Zk),I n] (B (Yc n (-1) l)):=by
 refine t166.1 (by simp [Za,Zk]) (by simp) ?_;dsimp only [c166,r166,go_sem];refine Z1 (λk:Nat=>[(5,I k)]) (λ_=>[]) (λk=>k<=l.length/\-1<=Zag l k/\Yc n (Zag l k) (l.drop k)=Yc n (-1) l) (λk=>l.length - k) 0 ⟨Nat.zero_le _,Int.le_refl _,rfl⟩ ?_ ?_
 . (refine Zi ?_ ?_ ?_ rfl rfl<;>dsimp only [Zk,id,go_sem]<;>simp [Zk,Za])
 rintro k ⟨hk,hp,hi⟩;dsimp only [go_sem];simp only [List.length_map];by_cases hlt:k < l.length
 case neg =>
  refine Zp (by simp;omega) ?_;dsimp only [go_sem];rw [List.drop_eq_nil_of_le (by omega),Yc] at hi;rw [<- hi]
 refine Zs (by simpa using hlt) ?_;dsimp only [go_sem];refine Zu k hlt rfl ?_;dsimp only [Zk,go_sem];rw [Zf (n:=n - 1) (by omega) (by omega)];refine call (Zbd _ _ _) ?_;dsimp only [go_sem];rw [List.drop_eq_getElem_cons hlt,Yc] at hi;repeat (refine gb ?_;dsimp only [go_sem])
 refine Zqc k [I l[k]] rfl (λ_=>⟨rfl,by simp [hlt,Zk]⟩) ?_;dsimp only [go_sem];repeat (refine gb ?_;dsimp only [go_sem])
 rw [Zf (n:=(k:Int) - 1) (by omega) (by omega)];refine Zqc (k - 1) [I (Zag l k)] rfl (λh=>?_) ?_
 . have h1:0 < k:=by simp at h;omega
   refine ⟨by omega,?_⟩;cases k with
   | zero=>omega
   | succ j=>simp [Zag,Zk,List.getElem?_eq_getElem (show j < l.length by omega),List.getD_eq_getElem?_getD]
 dsimp only [go_sem];repeat (refine gb ?_;dsimp only [go_sem])
 have hk0:k=0->Zag l k = -1:=λe=>by subst e;rfl
 have key:(!inR 0 (n - 1) l[k] || (decide ((k:Int) > 0) && decide (l[k]<=Zag l k))) = !inR (Zag l k+1) (n - 1) l[k]:=by
  rw [Bool.eq_iff_iff];simp only [inR,Bool.or_eq_true,Bool.and_eq_true,Bool.not_eq_true',decide_eq_true_eq,decide_eq_false_iff_not];by_cases h0:k=0
  . have:=hk0 h0;omega
  . omega
 have hpn:Zag l (k+1)=l[k]:=by simp [Zag,List.getElem?_eq_getElem hlt,List.getD_eq_getElem?_getD]
 by_cases hz:inR (Zag l k+1) (n - 1) l[k]=true
 . refine Zp (by rw [key,hz];rfl) ?_;dsimp only [go_sem];rw [Zf (n:=(k:Int)+1) (by omega) (by omega)];rw [hz,Bool.true_and] at hi;simp only [inR,decide_eq_true_eq] at hz;refine ⟨k+1,⟨hlt,by omega,by rw [hpn];exact hi⟩,by omega,?_⟩;(refine Zi ?_ ?_ ?_ rfl rfl<;>dsimp only [Zk,id,go_sem]<;>simp [Zk,Za])
 . have hz1:inR (Zag l k+1) (n - 1) l[k]=false:=by simpa using hz
   refine Zs (by rw [key,hz1];rfl) ?_;dsimp only [go_sem];rw [<- hi,hz1];rfl
theorem Zph (t:Tied) (ha:t.left.length<=1000) (hb:t.right.length<=1000) (hc:t.top.length<=1000):Ct Tryz.prog 167 [.agg (Zn t)] (.sl false 1 ((WC t).map Zk)):=by
 refine tk167.1 (by simp [Zn,Za,Zk]) (by simp [Za,Zk]) ?_;dsimp only [Zx1,Zxj,Zn,go_sem];refine gh XU ?_;dsimp only [go_sem];refine ⟨by simp;omega,?_⟩;dsimp only [go_sem];refine gh XU ?_;dsimp only [go_sem];refine ⟨λc hc=>by obtain ⟨a,_,rfl⟩:=List.mem_map.1 hc;rfl,by simp;omega,?_⟩;dsimp only [go_sem];refine gh XU ?_;dsimp only [go_sem];refine ⟨λc hc=>by obtain ⟨a,_,rfl⟩:=List.mem_map.1 hc;rfl,by simp;omega,?_⟩
 dsimp only [go_sem];refine gh (ZdH 2 1 2 rfl rfl rfl rfl) ?_;dsimp only [go_sem];simp [WC]
end Go.Proofs.YtkpkgafhfakpdaaGreatDoor
namespace Go.Azalai
def Vi (l:List Pack) (t:Tied):Bool:=decide (l.length > 40) || (decide (t.left.length > 16) || (decide (t.right.length > 16) || decide (t.top.length > 16)))
theorem Zba {l:List Int} {k:Nat} (h:k < l.length):(l.take (k+1)).Nodup↔(l.take k).Nodup/\l[k] ∉ l.take k:=by
 rw [List.take_succ_eq_append_getElem h,List.nodup_append];constructor
 . rintro ⟨h1,_,h3⟩;exact ⟨h1,λhm=>h3 _ hm _ (List.mem_singleton.2 rfl) rfl⟩
 . rintro ⟨h1,h2⟩;refine ⟨h1,by simp,λa ha b hb e=>?_⟩;rw [List.mem_singleton] at hb;subst hb;subst e;exact h2 ha
theorem Zfk {l:List Int} {k:Nat} (h:l.Nodup):(l.take k).Nodup:=List.Nodup.sublist (List.take_sublist k l) h
end Go.Azalai
namespace Go.Proofs.YtkpkgafhfakpdaaGreatDoor
open Go Go.Sx Go.Azalai
def bL (b:Bool):List SV:=[B b]
theorem Zk9 (n:Nat) (t:Tied) (hn:n<=40) (ha:t.left.length<=16) (hb:t.right.length<=16) (hc:t.top.length<=16):Ct Tryz.prog 106 [I n,.sl true 3 [Zn t]] (B (X8 n t)):=by
 refine t106.1 (by simp [Zn,Za,Zk,KFR]) (by simp) ?_;dsimp only [c106,r106,go_sem];refine Zp rfl ?_;dsimp only [go_sem];refine ⟨n,rfl,by omega,?_⟩;dsimp only [go_sem];refine Yn 2 ?_;dsimp only [Zc,go_sem];refine Zs rfl ?_;dsimp only [go_sem];refine ixs 0 _ rfl rfl ?_;dsimp only [Zn,go_sem];refine call (V3 n t.left (by omega) (by omega) _) ?_;dsimp only [go_sem];repeat (refine gb ?_;dsimp only [go_sem])
 refine call (V3 n t.right (by omega) (by omega) _) ?_;dsimp only [go_sem];repeat (refine gb ?_;dsimp only [go_sem])
 refine call (V3 n t.top (by omega) (by omega) _) ?_;dsimp only [go_sem];repeat (refine gb ?_;dsimp only [go_sem])
 by_cases h:Yc n (-1) t.left=true/\Yc n (-1) t.right=true/\Yc n (-1) t.top=true
 case neg =>
  have e:X8 n t=false:=by simp only [X8];grind
  refine Zs (by grind) ?_;dsimp only [go_sem];rw [e]
 obtain ⟨h1,h2,h3⟩:=h;have e:X8 n t=(decide ((WC t).length<=10) && decide (WC t).Nodup):=by simp only [X8,h1,h2,h3,Bool.true_and]
 rw [e,h1,h2,h3];refine Zp rfl ?_;dsimp only [go_sem];refine call (Zph t (by omega) (by omega) (by omega)) ?_;dsimp only [go_sem];simp only [List.length_map];by_cases hl:(WC t).length<=10
 case neg =>
  refine Zs (by simp;omega) ?_;dsimp only [go_sem];simp [hl]
 refine Zp (by simp;omega) ?_;dsimp only [go_sem];have hin:∀ i ∈ WC t,0<=i/\i < (n:Int):=by
  intro i hi;simp only [WC,List.mem_append] at hi;rcases hi with hi | hi | hi
  . exact Xi (by omega) h1 i hi
  . exact Xi (by omega) h2 i hi
  . exact Xi (by omega) h3 i hi
 have e0:List.replicate n [B false]=(V1 n ((WC t).take 0)).map bL:=by rw [List.take_zero,Ztl,List.map_replicate];rfl
 simp only [e0];generalize WC t=q at *;refine Z1 (λk:Nat=>[(9,I k)]) (λk=>[(0,.row 0 1 ((V1 n (q.take k)).map bL) 4)]) (λk=>k<=q.length/\(q.take k).Nodup) (λk=>q.length - k) 0 ⟨Nat.zero_le _,by simp⟩ ?_ ?_
 . (refine Zi ?_ ?_ ?_ rfl rfl<;>dsimp only [Zn,Zk,bL,id,go_sem]<;>simp [Zn,Zk,bL,Za])
 rintro k ⟨hk,hi⟩;dsimp only [go_sem];simp only [List.length_map];by_cases hlt:k < q.length
 case neg =>
  refine Zp (by simp;omega) ?_;dsimp only [go_sem];refine Zp rfl ?_;dsimp only [go_sem];rw [List.take_of_length_le (by omega)] at hi;simp [hl,hi]
 refine Zs (by simpa using hlt) ?_;dsimp only [go_sem];refine Zu k hlt rfl ?_;dsimp only [Zk,go_sem];obtain ⟨x,hx⟩:∃ x:Nat,q[k]=(x:Int):=⟨q[k].toNat,by have:=hin _ (List.getElem_mem hlt);omega⟩
 have hxn:x < n:=by have:=hin _ (List.getElem_mem hlt);omega
 have hxf:x < (V1 n (q.take k)).length:=by rw [Zch];exact hxn
 refine Xl x hx (by simpa using hxf) ?_;dsimp only [go_sem];refine Vf hxf ?_;rw [Vj];dsimp only [bL,go_sem];by_cases hm:(x:Int) ∈ q.take k
 . refine Zs (by simpa using hm) ?_;dsimp only [go_sem];have:¬ q.Nodup:=λhq=>(Zba hlt).1 (Zfk hq) |>.2 (hx ▸ hm);simp [this]
 refine Zp (by simpa using hm) ?_;dsimp only [go_sem];refine Zu k hlt rfl ?_;dsimp only [Zk,go_sem];refine Xl x hx (by simpa using hxf) ?_;dsimp only [go_sem];refine Zcf true hxf (by simp [bL]) (by simp [bL,Zm]) ?_;rw [Zi4 hxn,show q.take k ++ [(x:Int)]=q.take (k+1) from by rw [List.take_succ_eq_append_getElem hlt,hx]];dsimp only [go_sem];rw [Zf (n:=(k:Int)+1) (by omega) (by omega)];refine ⟨k+1,⟨hlt,(Zba hlt).2 ⟨hi,hx ▸ hm⟩⟩,by omega,?_⟩
 (refine Zi ?_ ?_ ?_ rfl rfl<;>dsimp only [Zn,Zk,bL,id,go_sem]<;>simp [Zn,Zk,bL,Za])
theorem ZjB (l:List Pack) (t:Tied) (hl:l.length<=40) (ha:t.left.length<=16) (hb:t.right.length<=16) (hc:t.top.length<=16) (c:Bool):Ct Tryz.prog 43 [.sl c 11 (l.map Zj),.sl true 3 [Zn t]] (I (ZxC l t)):=by
 refine t43.1 (by simp [Zn,Za,Zk,Zj,KFR]) (by simp) ?_;dsimp only [c43,r43,go_sem];refine call (ZiX l (by omega) _) ?_;dsimp only [go_sem];by_cases h:(decide (l.length<=30) && l.all ZJ)=true
 case neg =>
  have h0:(decide (l.length<=30) && l.all ZJ)=false:=by simpa using h
  rw [h0];refine Zs rfl ?_;dsimp only [go_sem];rw [ZxC,if_pos h0]
 rw [h];refine Zp rfl ?_;dsimp only [go_sem];simp only [List.length_map];refine call (Zk9 l.length t hl ha hb hc) ?_;dsimp only [go_sem];rw [ZxC,if_neg (by rw [h];decide)];cases ht:X8 l.length t with
 | false =>
  refine Zs rfl ?_;dsimp only [go_sem];rfl
 | true =>
  refine Zp rfl ?_;dsimp only [go_sem];rfl
theorem Zjj (l:List Pack) (t:Tied) (c:Bool):Ct Tryz.prog 42 [.sl c 11 (l.map Zj),.sl true 3 [Zn t]] (B (Vi l t)):=by
 refine t42.1 (by simp [Zn,Za,Zk,Zj,KFR]) (by simp) ?_;dsimp only [c42,r42,go_sem];simp only [List.length_map];repeat (refine gb ?_;dsimp only [go_sem])
 by_cases h:l.length > 40
 . refine Zs (by simp;omega) ?_;dsimp only [go_sem];simp [Vi,h]
 refine Zp (by simp;omega) ?_;dsimp only [go_sem];refine Yn 2 ?_;dsimp only [Zc,go_sem];refine Zs rfl ?_;dsimp only [go_sem];refine ixs 0 _ rfl rfl ?_;dsimp only [Zn,go_sem];repeat (refine gb ?_;dsimp only [go_sem])
 refine Zyd 0 _ rfl (λ_=>⟨rfl,rfl⟩) ?_;dsimp only [Zn,go_sem];repeat (refine gb ?_;dsimp only [go_sem])
 refine Zyd 0 _ rfl (λ_=>⟨rfl,rfl⟩) ?_;dsimp only [Zn,go_sem];repeat (refine gb ?_;dsimp only [go_sem])
 by_cases h2:t.left.length > 16\/t.right.length > 16\/t.top.length > 16
 . refine Zs (by simp;omega) ?_;dsimp only [go_sem];have:Vi l t=true:=by simp [Vi];omega
   rw [this]
 refine Zp (by simp;omega) ?_;dsimp only [go_sem];refine Zp rfl ?_;dsimp only [go_sem];have:Vi l t=false:=by simp [Vi];omega
 rw [this]
def WG (b:Breed) (c:Camel) (l:List Pack) (t:Tied) (bound:Int):Bool:=!Vi l t && decide (ZxC l t=0) && decide (Ve b c=0) && decide (0<=bound) && decide (bound<=1000000000)
theorem Zft (b:Breed) (c:Camel) (l:List Pack) (t:Tied) (bound:Int) (k:Bool):Ct Tryz.prog 8 [.agg (Cm.breedL b),.agg (Cm.camelL c),.sl k 11 (l.map Zj),.agg (Zn t),I bound] (B (WG b c l t bound)):=by
 refine t8.1 (by simp [Cm.breedL,Cm.camelL,Zn,Za,Zk,Zj,KFR,KFL,KF]) (by simp) ?_;dsimp only [c8,r8,Cm.breedL,Cm.camelL,go_sem];refine call (Zjj l t k) ?_;cases hg:Vi l t with
 | true =>
  dsimp only [go_sem];repeat (refine Zj2 (by decide) ?_;dsimp only [go_sem])
  simp [WG,hg]
 | false =>
  have hs:l.length<=40/\t.left.length<=16/\t.right.length<=16/\t.top.length<=16:=by simp [Vi] at hg;omega
  dsimp only [go_sem];repeat (first | (refine YI rfl ?_;dsimp only [go_sem]) | (refine call (ZjB l t hs.1 hs.2.1 hs.2.2.1 hs.2.2.2 k) ?_;dsimp only [go_sem]))
  repeat (first | (refine gb ?_;dsimp only [go_sem]) | (refine call (Cm.checkCamelR_ok b c) ?_;dsimp only [Cm.breedL,Cm.camelL,go_sem]))
  rw [WG,hg];rfl
def c242:SC:=(sr1 [o1 1 (Jz 0 0 312),o1 2 (.alloc zv3 342),Jw 3 Jf] (sr1 [o1 4 (.alloc zv3 342)] (.seq (sr1 [o1 7 (ao 1 4),o1 8 (lf 7 1),o1 9 (Jl 8),Jk 10 0] (.block 0 (.loop (sr1 [o1 11 (Jb .lss 10 9)] (.seq (Ji 11 .skip (.exit 0)) (.seq (.block 1
 (sr1 [o1 12 (Jx 8 10 2),o1 13 (lt 12 2),o1 6 (.alloc zv1 357),Js 6 13 2] (.seq (sr1 [o1 14 (ao 6 0),o1 15 (lf 14 1),o1 16 (.bsl 1 3 [.t 15]),o1 17 (.call 243 [cn 0,cn 7,.t 16]),o1 18 (Jh 17),m1 19 18,g1 20 19 false (ao 6 1),g1 21 19 false (lf 20
 1),g1 22 19 false (.bsl 1 3 [.t 21]),g1 23 19 false (.call 243 [cn 1,cn 20,.t 22]),g1 24 19 false (Jh 23),o1 25 (.pick (.t 19) Jt (.t 24)),m1 26 25,g1 27 26 false (ao 6 0),g1 28 26 false (lf 27 1),g1 29 26 false (.ixa (.t 4) (.t 28) 8 1),g1 30 26
 false (lf 29 1),g1 31 26 false (Jc .neq 30 0),o1 32 (.pick (.t 26) Jt (.t 31))] (Ji 32 (sr1 [o1 33 (lt 4 8),Js 2 33 8,Jw 3 Jf] .ret) .skip)) (.reg [o1 34 (ao 6 0),o1 35 (lf 34 1),o1 36 (ao 6 1),o1 37 (lf 36 1),o1 38 (.ixa (.t 4) (.t 35) 8 1),Js 38 37
 1])))) (.reg [o1 39 (Jc .add 10 1),m1 10 39]))))))) (sr1 [o1 40 (lt 4 8),Js 2 40 8,Jw 3 Jt] .ret))))
def r242:List RV:=[.cell 2 8 true,.tmp 3]
theorem t242:Qt1 Tryz.prog 242 c242 r242 41:=ZU Tryz.func242
def c243:SC:=(sr1 [o1 3 (Jz 0 0 3),o1 4 (Jz 1 0 3),Jw 6 Jf] (sr1 [m1 7 2,o1 8 (.mkf 265 [.t 3,.t 4]),o1 9 (J2 140 7 8),o1 10 (Jh 9),m1 6 10] .ret))
def r243:List RV:=[.tmp 6]
theorem t243:Qt1 Tryz.prog 243 c243 r243 11:=ZU Tryz.func243
def c244:SC:=(sr1 [o1 3 (Jz 0 0 3),o1 4 (Jz 1 0 3),Jw 6 Jf] (sr1 [m1 7 2,o1 8 (.mkf 266 [.t 3,.t 4]),o1 9 (J2 173 7 8),o1 10 (Jh 9),m1 6 10] .ret))
def r244:List RV:=[.tmp 6]
theorem t244:Qt1 Tryz.prog 244 c244 r244 11:=ZU Tryz.func244
def c265:SC:=(sr1 [Jw 4 Jf] (sr1 [m1 5 0,o1 6 (lf 1 1),o1 7 (Jb .lss 5 6),m1 8 7,g1 9 8 false (.mv (.t 0)),g1 10 8 false (lf 2 1),g1 11 8 false (Jb .gtr 9 10),o1 12 (.pick (.t 8) Jt (.t 11)),m1 4 12] .ret))
def r265:List RV:=[.tmp 4]
theorem t265:Qt1 Tryz.prog 265 c265 r265 13:=ZU Tryz.func265
def c266:SC:=(sr1 [o1 3 (Jz 0 0 23),Jw 4 Jf] (sr1 [o1 5 (ao 3 0),o1 6 (lf 5 1),o1 7 (ao 3 1),o1 8 (lf 7 1),o1 9 (Jb .gtr 6 8),m1 10 9,g1 11 10 false (lf 1 1),g1 12 10 false (lf 2 1),g1 13 10 false (ao 3 0),g1 14 10 false (lf 13 1),g1 15 10 false (ao 3
 1),g1 16 10 false (lf 15 1),g1 17 10 false (.bsl 1 3 [.t 14,.t 16]),g1 18 10 false (J3 243 11 12 17),g1 19 10 false (Jh 18),o1 20 (.pick (.t 10) Jt (.t 19)),m1 4 20] .ret))
def r266:List RV:=[.tmp 4]
theorem t266:Qt1 Tryz.prog 266 c266 r266 21:=ZU Tryz.func266
def c135:SC:=(sr1 [Jk 4 0] (.seq (sr1 [m1 6 0,o1 7 (Jl 6),Jk 8 0] (.block 0 (.loop (sr1 [o1 9 (Jb .lss 8 7)] (.seq (Ji 9 .skip (.exit 0)) (.seq (.block 1 (sr1 [m1 10 8,m1 5 10] (sr1 [m1 11 1,m1 12 0,m1 13 5,o1 14 (Jx 12 13 1),o1 15 (lf 14 1),o1 16 (Jb
 .eql 11 15)] (Ji 16 (sr1 [m1 17 5,m1 4 17] .ret) .skip)))) (.reg [o1 18 (Jc .add 8 1),m1 8 18]))))))) (sr1 [o1 4 (.mv (cn (-1)))] .ret)))
def r135:List RV:=[.tmp 4]
theorem t135:Qt1 Tryz.prog 135 c135 r135 19:=ZU Tryz.func135
def c164:SC:=(sr1 [o1 0 (.mv (.c (.slice none 0 0)))] (sr1 [o1 1 (.build zv6 [(0,1,.c (.int .i64 1)),(1,1,.c (.int .i64 (-1)))]),o1 2 (.call 17 [cn 1400,cn 2000]),o1 3 (.build zv6 [(0,1,.c (.int .i64 2)),(1,1,.c (.int .i64 1)),(2,2,.t 2)]),o1 4 (.call
 17 [cn 3000,cn 4000]),o1 5 (.build zv6 [(0,1,.c (.int .i64 3)),(1,1,.c (.int .i64 2)),(2,2,.t 4)]),o1 6 (.build zv6 [(0,1,.c (.int .i64 9)),(1,1,.c (.int .i64 (-1)))]),o1 7 (.bsl 5 312 [.t 1,.t 3,.t 5,.t 6]),m1 0 7] .ret))
def r164:List RV:=[.tmp 0]
theorem t164:Qt1 Tryz.prog 164 c164 r164 8:=ZU Tryz.func164
def c17:SC:=(sr1 [o1 4 (.alloc zv1 23)] (sr1 [m1 5 0,m1 6 1,o1 7 (.build zv1 [(0,1,.t 5),(1,1,.t 6)]),Js 4 7 2] .ret))
def r17:List RV:=[.cell 4 2 true]
theorem t17:Qt1 Tryz.prog 17 c17 r17 8:=ZU Tryz.func17
def c203:SC:=(sr1 [o1 1 (Jz 0 0 268),o1 2 (.alloc [.pointer none] 298),o1 3 (.alloc [.int .i64 0] 35)] (sr1 [o1 17 (lf 1 1),o1 18 (.raw (Go.Op.makeMap 302 Option.none) 302),o1 19 (.build [.slice none 0 0,.map none,.slice none 0 0,.slice none 0 0]
 [(0,1,.t 17),(1,1,.t 18)]),o1 20 (Jz 19 0 305),m1 4 20] (.seq (sr1 [o1 21 (lf 1 1),o1 22 (Jl 21),o1 23 (Jc .gtr 22 16)] (Ji 23 (sr1 [Jv 2 (.c (.pointer none)) 1,Jv 3 (cn 20) 1] .ret) .skip)) (.seq (sr1 [o1 24 (lf 1 1),o1 25 (Jl 24),Jk 26 0] (.block 0
 (.loop (sr1 [o1 27 (Jb .lss 26 25)] (.seq (Ji 27 .skip (.exit 0)) (.seq (.block 1 (sr1 [m1 28 26,o1 29 (Jx 24 26 5),o1 30 (lt 29 5),o1 6 (.alloc zv6 312),m1 5 28,Js 6 30 5] (sr1 [o1 32 (lt 6 5),o1 33 (J1 242 32),m1 31 33,o1 34 (Je 31 0),o1 35 (Je 31
 1),o1 7 (.alloc zv3 342),Js 7 34 8,m1 8 35] (.seq (.seq (.regs (Jr 12) ⟨[Jm 37 4,Jp 38 (.nilc (.t 37)) [0],Jp 39 (ao 38 1) [1],Jp 40 (lf 39 1) [2],Jo 41 (ao 6 0),Jp 42 (lf 41 1) [4]],0,0,[⟨some 43,.raw (Go.Op.lookup 302 (Go.Operand.tmp 40)
 (Go.Operand.tmp 42) Bool.true) 301,none,[3,5]⟩]⟩ [⟨[Jp 36 (.mv (.t 43)) [6],Jp 44 (Je 36 0) [7],Jp 45 (Je 36 1) [7],Jp 9 (.mv (.t 44)) (Jr 9),Jp 10 (.mv (.t 45)) (Jr 11)],0,0,[]⟩]) (sr1 [m1 46 10,m1 47 46,g1 48 47 false (.mv (.t 8)),g1 49 47 false
 (Jh 48),o1 50 (.pick (.t 47) Jt (.t 49)),m1 51 50,g1 52 51 false (ao 6 0),g1 53 51 false (lf 52 1),g1 54 51 false (.bsl 1 3 [.t 53]),g1 55 51 false (.call 243 [cn 0,cn 9999,.t 54]),g1 56 51 false (Jh 55),o1 57 (.pick (.t 51) Jt (.t 56)),m1 58 57,g1
 59 58 false (ao 6 2),g1 60 58 false (lt 59 2),g1 61 58 false (.bsl 2 23 [.t 60]),g1 62 58 false (.call 244 [.c (.int .i64 (-100000)),cn 100000,.t 61]),g1 63 58 false (Jh 62),o1 64 (.pick (.t 58) Jt (.t 63))] (Ji 64 (sr1 [Jv 2 (.c (.pointer none))
 1,Jv 3 (cn 20) 1] .ret) .skip))) (.seq (.regd (Jr 8) [Jm 65 4,Jp 66 (.nilc (.t 65)) [0],Jp 67 (ao 66 1) [1],Jp 68 (lf 67 1) [2],Jo 69 (ao 6 0),Jp 70 (lf 69 1) [4],Jm 71 5] 0 0 [⟨none,.raw (Go.Op.mapUpdate 302 (Go.Operand.tmp 68) (Go.Operand.tmp 70)
 (Go.Operand.tmp 71)) 0,none,(Jr 7)⟩]) (.regd [1,2,3,4,5,6,0,7,8,9,10] [Jm 73 4,Jp 74 (.nilc (.t 73)) [1],Jp 75 (ao 74 3) [2],Jp 76 (lf 75 1) [3],Jo 77 (lt 7 8),Jp 78 (.bsl 8 342 [.t 77]) [5],.hide (.t 76),Jm 72 4] 0 1 [⟨some 79,.appm 8 64 342 (.t 76)
 (.t 78),none,[4,6]⟩,⟨some 80,.nilc (.t 72),none,(Jr 8)⟩,⟨some 81,ao 80 3,none,(Jr 9)⟩,Ju 81 79 1 [0,1,2,3,4,5,6,7,9]])))))) (.reg [o1 82 (Jc .add 26 1),m1 26 82]))))))) (.seq (sr1 [o1 83 (lf 1 1),o1 84 (Jl 83),Jk 85 0] (.block 2 (.loop (sr1 [o1 86
 (Jb .lss 85 84)] (.seq (Ji 86 .skip (.exit 2)) (.seq (.block 3 (sr1 [o1 87 (Jx 83 85 5),o1 88 (lt 87 5),o1 12 (.alloc zv6 312),Js 12 88 5] (.seq (.regs (Jr 12) ⟨[Jm 90 4,Jp 91 (.nilc (.t 90)) [0],Jp 92 (ao 91 1) [1],Jp 93 (lf 92 1) [2],Jo 94 (ao 12
 1),Jp 95 (lf 94 1) [4]],0,0,[⟨some 96,.raw (Go.Op.lookup 302 (Go.Operand.tmp 93) (Go.Operand.tmp 95) Bool.true) 301,none,[3,5]⟩]⟩ [⟨[Jp 89 (.mv (.t 96)) [6],Jp 97 (Je 89 0) [7],Jp 98 (Je 89 1) [7],Jp 13 (.mv (.t 97)) (Jr 9),Jp 14 (.mv (.t 98)) (Jr
 11)],0,0,[]⟩]) (.seq (sr1 [o1 99 (ao 12 1),o1 100 (lf 99 1),o1 101 (.bin .eql (.t 100) (cn (-1)))] (Ji 101 (.reg [o1 13 (.mv (cn (-1))),Jw 14 Jt]) .skip)) (.seq (sr1 [m1 102 14,o1 103 (Jh 102)] (Ji 103 (sr1 [Jv 2 (.c (.pointer none)) 1,Jv 3 (cn 20)
 1] .ret) .skip)) (.reg [m1 104 4,m1 105 4,o1 106 (.nilc (.t 105)),o1 107 (ao 106 2),o1 108 (lf 107 1),m1 109 13,o1 110 (.bsl 1 3 [.t 109]),o1 111 (.appm 1 8 3 (.t 108) (.t 110)),o1 112 (.nilc (.t 104)),o1 113 (ao 112 2),Js 113 111 1])))))) (.reg [o1
 114 (Jc .add 85 1),m1 85 114]))))))) (.seq (sr1 [o1 115 (lf 1 1),o1 116 (Jl 115),Jk 117 0] (.block 4 (.loop (sr1 [o1 118 (Jb .lss 117 116)] (.seq (Ji 118 .skip (.exit 4)) (.seq (.block 5 (sr1 [m1 119 117,m1 15 119] (sr1 [o1 16 (.alloc [.int .i64 0]
 3),Jv 16 (cn 0) 1] (sr1 [m1 120 4,m1 121 15,o1 122 (.callm 205 [.t 120,.t 121])] (.block 6 (.gh (.rfun (.t 122) [123] .skip (.block 7 (sr1 [o1 124 (lf 16 1),o1 125 (Jc .add 124 1),Js 16 125 1] (sr1 [o1 126 (lf 16 1),o1 127 (lf 1 1),o1 128 (Jl 127),o1
 129 (Jb .gtr 126 128)] (Ji 129 (sr1 [Jv 2 (.c (.pointer none)) 1,Jv 3 (cn 20) 1] .ret) .skip))))))))))) (.reg [o1 130 (Jc .add 117 1),m1 117 130]))))))) (sr1 [m1 131 4,Js 2 131 1,Jv 3 (cn 0) 1] .ret)))))))
def r203:List RV:=[.cell 2 1 false,.cell 3 1 false]
theorem n203:Tryz.f203.ntmps=132:=by kernel_rfl
theorem b203:Z5 Tryz.prog 203=true:=by kernel_rfl
theorem ZtT:YC Tryz.prog c203 ((Tryz.f203.body).getD .skip)=true:=by kernel_rfl
theorem ZqQ:Y2 Tryz.prog r203 Tryz.f203.results.toList=true:=by kernel_rfl
theorem m203 {n0:Nat} {hp0:List (Nat × HB)} {args:List SV} {Zx:Ot->Prop} (hh:hpb n0 hp0) (hx:∀ o,Zx o->KX o.res/\KXP o.hp) (h:sx Tryz.prog Y0 n0 c203 ⟨YF 0 args,hp0,n0,132,[]⟩ (Wa r203 λo=>∃ o',Zx o'/\Wk n0 o o')) (hA:Nat.ble args.length 132=true:=by rfl):CtM Tryz.prog 203 hp0 n0 args Zx:=Zv Tryz.func203 rfl b203 ZtT ZqQ n203 (Nat.le_of_ble_eq_true hA) hh hx h
def c204:SC:=(sr1 [o1 2 (.mv (.c (.slice none 0 0)))] (sr1 [m1 3 0,o1 4 (.callm 245 [.c (.slice none 0 0),.t 3]),m1 2 4] .ret))
def r204:List RV:=[.tmp 2]
theorem n204:Tryz.f204.ntmps=5:=by kernel_rfl
theorem b204:Z5 Tryz.prog 204=true:=by kernel_rfl
theorem ZrF:YC Tryz.prog c204 ((Tryz.f204.body).getD .skip)=true:=by kernel_rfl
theorem ZuN:Y2 Tryz.prog r204 Tryz.f204.results.toList=true:=by kernel_rfl
theorem m204 {n0:Nat} {hp0:List (Nat × HB)} {args:List SV} {Zx:Ot->Prop} (hh:hpb n0 hp0) (hx:∀ o,Zx o->KX o.res/\KXP o.hp) (h:sx Tryz.prog Y0 n0 c204 ⟨YF 0 args,hp0,n0,5,[]⟩ (Wa r204 λo=>∃ o',Zx o'/\Wk n0 o o')) (hA:Nat.ble args.length 5=true:=by rfl):CtM Tryz.prog 204 hp0 n0 args Zx:=Zv Tryz.func204 rfl b204 ZrF ZuN n204 (Nat.le_of_ble_eq_true hA) hh hx h
def c205:SC:=(sr1 [o1 2 (Jz 0 0 298),o1 3 (Jz 1 0 3),o1 4 (.mv (.c (.nilFunc)))] (sr1 [o1 5 (.mkf 246 [.t 3,.t 2]),m1 4 5] .ret))
def r205:List RV:=[.tmp 4]
theorem n205:Tryz.f205.ntmps=6:=by kernel_rfl
theorem b205:Z5 Tryz.prog 205=true:=by kernel_rfl
theorem Zu6:YC Tryz.prog c205 ((Tryz.f205.body).getD .skip)=true:=by kernel_rfl
theorem Zvd:Y2 Tryz.prog r205 Tryz.f205.results.toList=true:=by kernel_rfl
theorem m205 {n0:Nat} {hp0:List (Nat × HB)} {args:List SV} {Zx:Ot->Prop} (hh:hpb n0 hp0) (hx:∀ o,Zx o->KX o.res/\KXP o.hp) (h:sx Tryz.prog Y0 n0 c205 ⟨YF 0 args,hp0,n0,6,[]⟩ (Wa r205 λo=>∃ o',Zx o'/\Wk n0 o o')) (hA:Nat.ble args.length 6=true:=by rfl):CtM Tryz.prog 205 hp0 n0 args Zx:=Zv Tryz.func205 rfl b205 Zu6 Zvd n205 (Nat.le_of_ble_eq_true hA) hh hx h
def c245:SC:=(sr1 [o1 2 (Jz 0 0 29),o1 4 (.mv (.c (.slice none 0 0)))] (.seq (sr1 [m1 6 1] (.block 0 (.gh (.rfun (.t 6) [7] (.reg [m1 5 7]) (.block 1 (.reg [o1 8 (lf 2 1),m1 9 5,o1 10 (.bsl 1 3 [.t 9]),o1 11 (.appm 1 8 3 (.t 8) (.t 10)),Js 2 11 1])))))) (sr1 [o1 12 (lf 2 1),m1 4 12] .ret)))
def r245:List RV:=[.tmp 4]
theorem n245:Tryz.f245.ntmps=13:=by kernel_rfl
theorem b245:Z5 Tryz.prog 245=true:=by kernel_rfl
theorem Zs0:YC Tryz.prog c245 ((Tryz.f245.body).getD .skip)=true:=by kernel_rfl
theorem Zt1:Y2 Tryz.prog r245 Tryz.f245.results.toList=true:=by kernel_rfl
theorem m245 {n0:Nat} {hp0:List (Nat × HB)} {args:List SV} {Zx:Ot->Prop} (hh:hpb n0 hp0) (hx:∀ o,Zx o->KX o.res/\KXP o.hp) (h:sx Tryz.prog Y0 n0 c245 ⟨YF 0 args,hp0,n0,13,[]⟩ (Wa r245 λo=>∃ o',Zx o'/\Wk n0 o o')) (hA:Nat.ble args.length 13=true:=by rfl):CtM Tryz.prog 245 hp0 n0 args Zx:=Zv Tryz.func245 rfl b245 Zs0 Zt1 n245 (Nat.le_of_ble_eq_true hA) hh hx h
def Zxg:SC:=(.block 0 (.loop (.seq (sr1 [o1 4 (lf 1 1),o1 5 (Jc .geq 4 0)] (Ji 5 .skip (.exit 0))) (.seq (.block 1 (sr1 [m1 13 0,o1 14 (lf 1 1),o1 15 (.calvm (.t 13) [.t 14]),o1 16 (Jh 15)] (Ji 16 .ret .skip))) (.regd (Jr 8) [Jo 6 (lf 2 1),Jp 7 (.nilc
 (.t 6)) [0],Jp 8 (ao 7 2) [1],Jp 9 (lf 8 1) [2],Jo 10 (lf 1 1),Jp 11 (Jx 9 10 1) [3,4],Jp 12 (lf 11 1) [5]] 0 1 [Ju 1 12 1 (Jr 7)])))))
def ZxB:List RV:=[]
theorem n246:Tryz.f246.ntmps=17:=by kernel_rfl
theorem b246:Z5 Tryz.prog 246=true:=by kernel_rfl
theorem Zvo:YC Tryz.prog Zxg ((Tryz.f246.body).getD .skip)=true:=by kernel_rfl
theorem Ztg:Y2 Tryz.prog ZxB Tryz.f246.results.toList=true:=by kernel_rfl
theorem y246 {Y:Hd} {n0:Nat} {hp0:List (Nat × HB)} {args:List SV} {Zx:Ot->Prop} (h:sx Tryz.prog Y n0 Zxg ⟨YF 0 args,hp0,n0,17,[]⟩ (Wa ZxB Zx)) (hA:Nat.ble args.length 17=true:=by rfl):CtY Tryz.prog Y 246 hp0 n0 args Zx:=ZcG Tryz.func246 rfl Zvo Ztg n246 (Nat.le_of_ble_eq_true hA) h
def c163:SC:=(sr1 [o1 6 (.alloc [.int .i64 0] 3),o1 7 (.alloc [.int .i64 0] 3),o1 8 (.alloc [.int .i64 0] 35)] (sr1 [m1 17 0,o1 18 (.callm 203 [.t 17]),m1 16 18,o1 19 (Je 16 0),o1 20 (Je 16 1),m1 9 19,Js 8 20 1] (.seq (sr1 [o1 21 (lf 8 1),o1 22 (Jc
 .neq 21 0)] (Ji 22 (.seq (.regd (Jr 4) [.hide (.t 6),.hide (.t 7),Jo 23 (lf 8 1)] 0 3 [Jv 6 (cn 0) 1,⟨none,.st (.t 7) (cn 0) 1,none,[1]⟩,Ju 8 23 1 [0,1,2]]) .ret) .skip)) (sr1 [m1 25 9,o1 26 (.nilc (.t 25)),o1 27 (ao 26 1),o1 28 (lf 27 1),m1 29 1,o1
 30 (.raw (Go.Op.lookup 302 (Go.Operand.tmp 28) (Go.Operand.tmp 29) Bool.true) 301),m1 24 30,o1 31 (Je 24 0),o1 32 (Je 24 1),m1 10 31,m1 11 32] (sr1 [m1 34 9,o1 35 (.nilc (.t 34)),o1 36 (ao 35 1),o1 37 (lf 36 1),m1 38 2,o1 39 (.raw (Go.Op.lookup 302
 (Go.Operand.tmp 37) (Go.Operand.tmp 38) Bool.true) 301),m1 33 39,o1 40 (Je 33 0),o1 41 (Je 33 1),m1 12 40,m1 13 41] (.seq (sr1 [m1 42 11,o1 43 (Jh 42),m1 44 43,g1 45 44 false (.mv (.t 13)),g1 46 44 false (Jh 45),o1 47 (.pick (.t 44) Jt (.t 46))] (Ji
 47 (sr1 [Jv 6 (cn 0) 1,Jv 7 (cn 0) 1,Jv 8 (cn 2) 1] .ret) .skip)) (sr1 [m1 48 9,m1 49 12,o1 50 (.callm 205 [.t 48,.t 49]),o1 51 (.callm 204 [.t 50]),o1 14 (.alloc [.slice none 0 0] 29),Js 14 51 1] (.seq (sr1 [m1 52 9,m1 53 10,o1 54 (.callm 205 [.t
 52,.t 53])] (.block 0 (.gh (.rfun (.t 54) [55] (.reg [m1 15 55]) (.block 1 (.seq (sr1 [o1 56 (lf 14 1),m1 57 15,o1 58 (J2 135 56 57),Js 7 58 1] (sr1 [o1 59 (lf 7 1),o1 60 (Jc .geq 59 0)] (Ji 60 (.seq (.regd (Jr 5) [Jo 61 (lf 6 1),.hide (.t 6),Jo 62
 (lf 7 1)] 0 3 [Ju 6 61 1 [0],Ju 7 62 1 [0,1,2],⟨none,.st (.t 8) (cn 0) 1,none,(Jr 4)⟩]) .ret) .skip))) (.reg [o1 63 (lf 6 1),o1 64 (Jc .add 63 1),Js 6 64 1]))))))) (sr1 [Jv 6 (cn 0) 1,Jv 7 (cn 0) 1,Jv 8 (cn 6) 1] .ret)))))))))
def r163:List RV:=[.cell 6 1 false,.cell 7 1 false,.cell 8 1 false]
theorem t163:Qt1 Tryz.prog 163 c163 r163 65:=ZU Tryz.func163
end Go.Proofs.YtkpkgafhfakpdaaGreatDoor
namespace Go.Azalai
def Vx {α : Type} (f:α->α) (l:List α) (k:Nat):List α:=(l.map f).take k ++ l.drop k
theorem ZjR {α : Type} {f:α->α} {l:List α} {k:Nat} (h:k<=l.length):(Vx f l k).length=l.length:=by simp [Vx];omega
theorem Zat {α : Type} {f:α->α} {l:List α} {k:Nat} (h:k < l.length) (h':k < (Vx f l k).length):(Vx f l k)[k]=l[k]:=by
 simp only [Vx];rw [List.getElem_append_right (by simp;omega)];simp [Nat.min_eq_left (Nat.le_of_lt h)]
theorem Zgz {α : Type} {f:α->α} {l:List α} {k:Nat} (h:k < l.length):(Vx f l k).set k (f l[k])=Vx f l (k+1):=by
 simp only [Vx];rw [List.set_append_right _ _ (by simp;omega)];have h1:((l.map f).take k).length=k:=by simp;omega
 rw [h1,Nat.sub_self,List.drop_eq_getElem_cons h,List.set_cons_zero,List.take_succ_eq_append_getElem (show k < (l.map f).length by simpa using h),List.append_assoc];simp
theorem ZhK {α : Type} {f:α->α} {l:List α}:Vx f l 0=l:=by simp [Vx]
theorem Zhz {α : Type} {f:α->α} {l:List α}:Vx f l l.length=l.map f:=by simp [Vx,List.take_of_length_le]
def ZfK (d:Int) (p:Pack):Pack:={ p with days:=p.days+d }
theorem Zw3 {d:Int} {l:List Pack} (hp:l.all ZJ=true) (hd:0<=d) (h:∀ p ∈ l,p.days+d<=100000):(l.map (ZfK d)).all ZJ=true:=by
 rw [List.all_map];rw [List.all_eq_true] at hp ⊢;intro p hm;have h1:=hp p hm;have h2:=h p hm;simp only [ZJ,Bool.and_eq_true] at h1;obtain ⟨⟨⟨a,b⟩,c⟩,e⟩:=h1;have c':inR 0 100000 (p.days+d)=true:=by simp only [inR,decide_eq_true_eq] at c ⊢;omega
 show (Z4 0 1000000 p.mass && inR 0 6000000 p.hurt && inR 0 100000 (p.days+d) && Vb p)=true;rw [a,b,c',e];rfl
end Go.Azalai
namespace Go.Proofs.YtkpkgafhfakpdaaGreatDoor
open Go Go.Sx Go.Azalai
theorem Zvn (caps:List SV) (hk:KFL caps) (c:Bool):Ct Tryz.prog 201 [.sl c 2 [],.cl 158 caps] (I (-1)):=by
 refine t201.1 ⟨by simp [KF,KFR],hk,trivial⟩ (by simp [KF]) ?_;dsimp only [c201,r201,go_sem];refine Yn 1 ?_;dsimp only [Zc,go_sem];refine Zp rfl ?_;dsimp only [go_sem]
theorem ZrL (caps:List SV) (hk:KFL caps) (c:Bool):Ct Tryz.prog 157 [.sl c 2 [],.cl 158 caps] (B false):=by
 refine t157.1 ⟨by simp [KF,KFR],hk,trivial⟩ (by simp [KF]) ?_;dsimp only [c157,r157,go_sem];refine call (Zvn caps hk c) ?_;dsimp only [go_sem];rfl
theorem ZhD (t:Tied) (c:Bool):Ct Tryz.prog 96 [.sl c 2 [],.cl 97 [.ps [.sl true 3 [Zn t]] 0]] (B true):=by
 have hk:KFL (Zn t):=by simp [KFL,KF,Zn,Za,Zk]
 refine t96.1 ⟨by simp [KF,KFR],by simp [KF,KFL,KFR,hk],trivial⟩ (by simp [KF]) ?_;dsimp only [c96,r96,Zn,go_sem];refine XK (by simp [FLT]) (res:=B false) ?_ ?_
 . dsimp only [go_sem];exact ZrL _ (by simp [KFL,KF,KFR,Za,Zk]) c
 . dsimp only [go_sem];rfl
theorem ZgI (l:List Pack) (hL:l.length<=1000) (k:Bool):CtM Tryz.prog 98 [] 0 [.sl k 11 (l.map Zj)] (λo=>o=⟨false,.mr 0 0,[(0,.row 0 11 (l.map Zj) 49)],1⟩):=by
 refine m98 (by simp [hpb]) (λo ho=>by subst ho;simp [KX,KXL,KXP,KXH,Za,KFL,KF,Zj]) ?_;dsimp only [c98,r98,go_sem];intro b hb;dsimp only [go_sem];cases b with
 | true =>
  have hl:l=[]:=by simpa using hb rfl
  subst hl;refine Zs rfl ?_;dsimp only [go_sem];refine ⟨_,rfl,?_⟩;refine Zdt (Vs (Xn 0 11 49 rfl rfl) ?_) (λ_ _ _ e=>by cases e);(refine Zi ?_ ?_ ?_ rfl rfl<;>dsimp only [Zj,id,go_sem]<;>simp [Zj,Za])
 | false =>
  refine Zp rfl ?_;dsimp only [go_sem];refine ⟨by simp;omega,?_⟩;dsimp only [go_sem];refine ⟨_,rfl,?_⟩;(refine Zq ?_ ?_ ?_ rfl<;>dsimp only [Zj,id,go_sem]<;>simp [Zj,Za])
def Zbn (l:List Pack) (t:Tied) (d:Int) (nx:SV) (c:Bool) (r:List (Nat × HB)):List (Nat × HB):=[(0,.cells [.sl c 11 (l.map Zj)] 28),(1,.cells [.sl true 3 [Zn t]] 113),(2,.cells [I d] 3),(3,.cells [.sl true 2 []] 191),(4,.cells [nx] 28)] ++ r
theorem Zrf (l:List Pack) (t:Tied) (d:Int) (c:Bool) (h:CarB l t) (hd:0<=d/\d<=100000) (ha:∀ p ∈ l,p.days+d<=100000) :
 CtM Tryz.prog 94 (Zbn l t d (.v (.slice none 0 0)) c []) 5 [.p 0 0,.p 1 0,.p 2 0,.p 3 0,.p 4 0] (λo=>o=⟨false,.tup [],Zbn l t d (.mr 5 0) c [(5,.row 0 11 ((l.map (ZfK d)).map Zj) 49)],6⟩):=by
 have hlen:=h.len;have hl:=h.hl;refine m94 (by simp [hpb,Zbn]) (λo ho=>by subst ho;simp [Zbn,KX,KXL,KXP,KXH,KFL,KF,Za,KFR,Zj,Zn,Zk]) ?_;dsimp only [c94,r94,Zbn,Zn,go_sem];refine Zr [] (XI l t h.hl h.hp h.ht c true) rfl rfl rfl ?_ ?_ ?_
 . (repeat first | dsimp only [Zn,go_sem] | simp only [nbr])
   try simp [mtL,mtB,mtS,Zb,Za,Zj,Zk,KFL,KF,KFR]
 . trivial
 rintro _ rfl
 (repeat first | dsimp only [go_sem] | simp only [nbr])
 refine call (Zy5 0 100000 d _) ?_;rw [show inR 0 100000 d=true from by simp only [inR,decide_eq_true_eq];omega];dsimp only [go_sem];refine Zr [] (Yk 2) rfl rfl rfl ?_ ?_ ?_
 . (repeat first | dsimp only [go_sem] | simp only [nbr])
   try simp [mtL,mtB,mtS]
 . trivial
 rintro _ rfl
 (repeat first | dsimp only [go_sem] | simp only [nbr])
 refine Zr [] (Yk 4) rfl rfl rfl ?_ ?_ ?_
 . (repeat first | dsimp only [go_sem] | simp only [nbr])
   try simp [mtL,mtB,mtS]
 . trivial
 rintro _ rfl
 (repeat first | dsimp only [go_sem] | simp only [nbr])
 refine XK (by simp [FLT]) (res:=B true) ?_ ?_
 . dsimp only [go_sem];exact ZhD t true
 dsimp only [go_sem];refine Zr [] (Yk 53) rfl rfl rfl ?_ ?_ ?_
 . (repeat first | dsimp only [go_sem] | simp only [nbr])
   try simp [mtL,mtB,mtS]
 . trivial
 rintro _ rfl
 (repeat first | dsimp only [go_sem] | simp only [nbr])
 refine Zr [] (ZgI l (by omega) c) rfl rfl rfl ?_ ?_ ?_
 . (repeat first | dsimp only [go_sem] | simp only [nbr])
   try simp [mtL,mtB,mtS,Zb,Za,Zj,KFL,KF]
 . trivial
 rintro _ rfl
 (repeat first | dsimp only [go_sem] | simp only [nbr])
 refine Yn 1 ?_;dsimp only [Zc,go_sem];refine Zp rfl ?_;dsimp only [go_sem];simp only [List.length_map];refine Z1 (λk:Nat=>[(79,I k)]) (λk=>[(5,.row 0 11 ((Vx (ZfK d) l k).map Zj) 49)]) (λk=>k<=l.length) (λk=>l.length - k) 0 (Nat.zero_le _) ?_ ?_
 . (refine Zi ?_ ?_ ?_ rfl rfl<;>dsimp only [Zj,Zn,Zk,ZhK,id,go_sem]<;>simp [Zj,Zn,Zk,ZhK,Za])
 intro k hk;dsimp only [go_sem];by_cases hlt:k < l.length
 . have hlt2:k < (Vx (ZfK d) l k).length:=by rw [ZjR hk];exact hlt
   refine Zs (by simpa using hlt) ?_;dsimp only [go_sem];refine Xl k rfl (by simpa using hlt2) ?_;dsimp only [go_sem];refine Vf hlt2 ?_;rw [Zat hlt hlt2];dsimp only [Zj,go_sem];have hp0:=(ZtR (List.all_eq_true.1 h.hp _ (List.getElem_mem hlt))).d0;have hp1:=ha _ (List.getElem_mem hlt);rw [Zf (n:=l[k].days+d) (by omega) (by omega)];refine Xl k rfl (by simpa using hlt2) ?_;dsimp only [go_sem];refine Zcf (ZfK d l[k]) hlt2 (by rw [Zat hlt hlt2];simp [Zj]) (by rw [Zat hlt hlt2];simp [Zj,Zm,ZfK]) ?_
   rw [Zgz hlt];dsimp only [go_sem];rw [Zf (n:=(k:Int)+1) (by omega) (by omega)];refine ⟨k+1,hlt,by omega,?_⟩;(refine Zi ?_ ?_ ?_ rfl rfl<;>dsimp only [Zj,Zn,Zk,id,go_sem]<;>simp [Zj,Zn,Zk,Za])
 refine Zp (by simp;omega) ?_;dsimp only [go_sem];have hke:k=l.length:=by omega
 subst hke;rw [Zhz];have hall:=Zw3 h.hp hd.1 ha;refine XK (by simp [FLT]) (res:=B true) ?_ ?_
 . dsimp only [go_sem];have:=ZcD (l.map (ZfK d)) (by simp;omega) false;rw [hall] at this;exact this
 dsimp only [go_sem];refine Zr [] (Yk 9) rfl rfl rfl ?_ ?_ ?_
 . (repeat first | dsimp only [go_sem] | simp only [nbr])
   try simp [mtL,mtB,mtS]
 . trivial
 rintro _ rfl
 (repeat first | dsimp only [go_sem] | simp only [nbr])
 refine ⟨_,rfl,?_⟩;(refine Zq ?_ ?_ ?_ rfl<;>dsimp only [Zbn,Zj,Zn,Zk,id,go_sem]<;>simp [Zbn,Zj,Zn,Zk,Za])
theorem ZqI (l:List Pack) (t:Tied) (d:Int) (c:Bool) (h:CarB l t) (hd:0<=d/\d<=100000) (ha:∀ p ∈ l,p.days+d<=100000):CtM Tryz.prog 45 (Zbn l t d (.v (.slice none 0 0)) c []) 5 [.cl 94 [.p 0 0,.p 1 0,.p 2 0,.p 3 0,.p 4 0]] (λo=>o=⟨false,I 0,Zbn l t d (.mr 6 0) c [(6,.row 0 11 ((l.map (ZfK d)).map Zj) 49)],7⟩):=by
 refine m45 (by simp [hpb,Zbn]) (λo ho=>by subst ho;simp [Zbn,KX,KXL,KXP,KXH,KFL,KF,Za,KFR,Zj,Zn,Zh,Zk,Cm.breedL,Cm.camelL]) ?_;dsimp only [c45,r45,Zbn,go_sem];refine Zr [0,1,2,3,4] (Zrf l t d c h hd ha) rfl rfl rfl ?_ ?_ ?_
 . (repeat first | dsimp only [Zbn,go_sem] | simp only [nbr])
   try simp [mtL,mtB,mtS]
 . (repeat first | dsimp only [Zbn,go_sem] | simp only [nbr])
   try simp [mtL,mtB,mtS,Zb,KFL,KF,Za,KFR,Zj,Zn,Zh,Zk,Cm.breedL,Cm.camelL]
 rintro _ rfl
 (repeat first | dsimp only [Zbn,go_sem] | simp only [nbr])
 refine ⟨_,_,_,_,ZyM,?_⟩;dsimp only [Zwn,Zw1,go_sem];refine ⟨rfl,?_⟩;refine Vv u20 rfl ?_;dsimp only [go_sem];refine Zp rfl ?_;dsimp only [go_sem];refine ⟨_,rfl,?_⟩;(refine Zq ?_ ?_ ?_ rfl<;>dsimp only [Zbn,Zj,Zn,Zh,Zk,Cm.breedL,Cm.camelL,id,go_sem]<;>simp [Zbn,Zj,Zn,Zh,Zk,Cm.breedL,Cm.camelL,Za])
theorem ZeU (l:List Pack) (t:Tied) (d:Int) (c:Bool) (h:CarB l t) (hd:0<=d/\d<=100000) (ha:∀ p ∈ l,p.days+d<=100000) :
 Ct Tryz.prog 40 [.sl c 11 (l.map Zj),.sl true 3 [Zn t],.sl true 2 [],I d] (.tup [.sl false 11 ((l.map (ZfK d)).map Zj),I 0]):=by
 refine t40.1 (by simp [Za,KFR,Zj,Zn,Zk]) (by simp [Za,Zj]) ?_;dsimp only [c40,r40,Zn,go_sem];refine Zr [0,1,3,2,4] (ZqI l t d c h hd ha) rfl rfl rfl ?_ ?_ ?_
 . (repeat first | dsimp only [Zbn,go_sem] | simp only [nbr])
   try simp [mtL,mtB,mtS]
 . (repeat first | dsimp only [Zbn,Zn,go_sem] | simp only [nbr])
   try simp [mtL,mtB,mtS,Zb,KFL,KF,Za,KFR,Zj,Zn,Zk]
 rintro _ rfl
 (repeat first | dsimp only [Zbn,Zn,go_sem] | simp only [nbr])
end Go.Proofs.YtkpkgafhfakpdaaGreatDoor
namespace Go.Azalai
structure An where
 id:Int
 mom:Int
 born:Span
deriving DecidableEq
def okAn (a:An):Bool:=inR 0 9999 a.id && Z4 (-100000) 100000 a.born
def Wb:List An:=[⟨1,-1,⟨0,0⟩⟩,⟨2,1,⟨1400,2000⟩⟩,⟨3,2,⟨3000,4000⟩⟩,⟨9,-1,⟨0,0⟩⟩]
def V4:List Int:=[-1,0,1,-1]
def YO (n:Nat):List (Nat × Int × Int):=[(0,1,0),(1,2,1),(2,3,2),(3,9,3)].take n
end Go.Azalai
namespace Go.Proofs.YtkpkgafhfakpdaaGreatDoor
open Go Go.Sx Go.Azalai
def anL (a:An):List SV:=[I a.id,I a.mom,I a.born.lo,I a.born.hi,.sl true 2 []]
def XC:List SV:=[I 0,I 0,I 0,I 0,I 0,I 0,I 0,I 0]
theorem YX (lo hi:Int):Ct Tryz.prog 17 [I lo,I hi] (.agg [I lo,I hi]):=by
 refine t17.1 (by simp) (by simp) ?_;dsimp only [c17,r17,go_sem]
theorem Zri (lo hi x:Int):Ct Tryz.prog 265 [I x,.ps [I lo] 0,.ps [I hi] 0] (B (!inR lo hi x)):=by
 refine t265.1 (by simp) (by simp) ?_;dsimp only [c265,r265,go_sem];repeat (refine gb ?_;dsimp only [go_sem])
 (simp only [inR,Option.some.injEq,SV.v.injEq,Value.bool.injEq]<;>grind)
theorem Zkg (lo hi:Int) (l:List Int) (hl:l.length < 4611686018427387904) (c:Bool):Ct Tryz.prog 243 [I lo,I hi,.sl c 1 (l.map Zk)] (B (l.all (inR lo hi))):=by
 refine t243.1 (by simp [Za,Zk]) (by simp) ?_;dsimp only [c243,r243,go_sem];refine XK (by simp [FLT]) (res:=B (l.any λx=>!inR lo hi x)) ?_ ?_
 . dsimp only [go_sem];exact Zsv 265 [.ps [I lo] 0,.ps [I hi] 0] (by simp) (λx=>!inR lo hi x) l (λx _=>Zri lo hi x) hl
 . dsimp only [go_sem];simp [List.all_eq_not_any_not]
theorem inB1 (lo hi a:Int) (c:Bool):Ct Tryz.prog 243 [I lo,I hi,.sl c 1 [[I a]]] (B (inR lo hi a)):=by
 have:=Zkg lo hi [a] (by simp) c;simpa [Zk] using this
theorem inB2 (lo hi a b:Int) (c:Bool):Ct Tryz.prog 243 [I lo,I hi,.sl c 1 [[I a],[I b]]] (B (inR lo hi a && inR lo hi b)):=by
 have:=Zkg lo hi [a,b] (by simp) c;simpa [Zk] using this
theorem ZmF (lo hi:Int) (s:Span):Ct Tryz.prog 266 [.agg (Zh s),.ps [I lo] 0,.ps [I hi] 0] (B (!Z4 lo hi s)):=by
 refine t266.1 (by simp [Zh]) (by simp) ?_;dsimp only [c266,r266,Zh,go_sem];repeat (first | (refine gb ?_;dsimp only [go_sem]) | (refine call (inB2 _ _ _ _ _) ?_;dsimp only [go_sem]))
 (simp only [Z4,inR,Option.some.injEq,SV.v.injEq,Value.bool.injEq]<;>grind)
theorem ZkZ (lo hi:Int) (l:List Span) (hl:l.length < 4611686018427387904) (c:Bool):Ct Tryz.prog 244 [I lo,I hi,.sl c 2 (l.map Zh)] (B (l.all (Z4 lo hi))):=by
 refine t244.1 (by simp [Za,Zh]) (by simp) ?_;dsimp only [c244,r244,go_sem];refine XK (by simp [FLT]) (res:=B (l.any λx=>!Z4 lo hi x)) ?_ ?_
 . dsimp only [go_sem];exact Zqk 266 [.ps [I lo] 0,.ps [I hi] 0] (by simp) (λx=>!Z4 lo hi x) l (λx _=>ZmF lo hi x) hl
 . dsimp only [go_sem];simp [List.all_eq_not_any_not]
theorem proB1 (lo hi:Int) (s:Span) (c:Bool):Ct Tryz.prog 244 [I lo,I hi,.sl c 2 [[I s.lo,I s.hi]]] (B (Z4 lo hi s)):=by
 have:=ZkZ lo hi [s] (by simp) c;simpa [Zh] using this
theorem ZiZ (a:An):Ct Tryz.prog 242 [.agg (anL a)] (.tup [.agg XC,B true]):=by
 refine t242.1 (by simp [anL,KFR]) (by simp [XC]) ?_;dsimp only [c242,r242,anL,go_sem];refine Yn 1 ?_;dsimp only [Zc,go_sem];refine Zp rfl ?_;dsimp only [go_sem];rfl
theorem Zcd (l:List Int) (x:Int) (hl:l.length<=1000) (c:Bool):Ct Tryz.prog 135 [.sl c 1 (l.map Zk),I x] (I (Yw (λy=>decide (x=y)) l 0)):=by
 refine t135.1 (by simp [Za,Zk]) (by simp) ?_;dsimp only [c135,r135,go_sem];simp only [List.length_map];refine Z1 (λk:Nat=>[(8,I k)]) (λ_=>[]) (λk=>k<=l.length/\Yw (λy=>decide (x=y)) (l.drop k) k=Yw (λy=>decide (x=y)) l 0) (λk=>l.length - k) 0 ⟨Nat.zero_le _,rfl⟩ ?_ ?_
 . (refine Zi ?_ ?_ ?_ rfl rfl<;>dsimp only [Zk,id,go_sem]<;>simp [Zk,Za])
 intro k ⟨hk,hi⟩;dsimp only [go_sem];by_cases hlt:k < l.length
 . refine Zs (by simpa using hlt) ?_;dsimp only [go_sem];refine Zu k hlt rfl ?_;dsimp only [Zk,go_sem];rw [List.drop_eq_getElem_cons hlt,Yw] at hi;by_cases hx:x=l[k]
   . refine Zs (by simpa using hx) ?_;dsimp only [go_sem];rw [if_pos (by simpa using hx)] at hi;rw [<- hi]
   . refine Zp (by simpa using hx) ?_;dsimp only [go_sem];rw [if_neg (by simpa using hx)] at hi;rw [Zf (n:=(k:Int)+1) (by omega) (by omega)];refine ⟨k+1,⟨hlt,hi⟩,by omega,?_⟩;(refine Zi ?_ ?_ ?_ rfl rfl<;>dsimp only [Zk,id,go_sem]<;>simp [Zk,Za])
 refine Zp (by simp;omega) ?_;dsimp only [go_sem];rw [<- hi,List.drop_eq_nil_of_le (by omega)];rfl
theorem Zb7 (a:An):∀ (w:World) (E:Env) (n ok:Nat->Prop) (ys:List Value),RL w E n ok [I a.id,I a.mom,I a.born.lo,I a.born.hi,.v (.slice none 0 0)] ys->RL w E n ok (anL a) ys:=by
 intro w E n ok ys h;simp only [RL,R,anL] at h ⊢;obtain ⟨y0,r0,rfl,h0,y1,r1,rfl,h1,y2,r2,rfl,h2,y3,r3,rfl,h3,y4,r4,rfl,h4,rfl⟩:=h;exact ⟨_,_,rfl,h0,_,_,rfl,h1,_,_,rfl,h2,_,_,rfl,h3,_,_,rfl,⟨none,0,0,h4,rfl,⟨Nat.le_refl _,λ_=>rfl⟩,by simp,.inl trivial⟩,rfl⟩
end Go.Proofs.YtkpkgafhfakpdaaGreatDoor
namespace Go.Sx
open Go Go.RowKit
theorem Ct.res {P:Program} {f:FuncId} {args:List SV} {res res0:SV} (h:Ct P f args res) (kr:KF res0) (hw:Zfv res res0):Ct P f args res0 :=
 ⟨h.1,h.2,kr,λw ok vs hG hR=>Calls.mono (h.4 w ok vs hG hR) λe w' q=>by
  obtain ⟨y,h1,h2,h3⟩:=q
  exact ⟨y,h1,hw _ _ _ _ _ h2,h3⟩⟩
theorem Zcl {l:List SV}:∀ (w:World) (E:Env) (n ok:Nat->Prop) (ys:List Value),RL w E n ok l ys->RL w E n ok l ys:=λ_ _ _ _ _ h=>h
def Uq (fr:List (Nat × SV)):List Nat->List (Nat × SV)
 | []=>[]
 | t :: ts=>(t,lk t fr) :: Uq fr ts
theorem Zg1 (fr:List (Nat × SV)):Uq fr []=[]:=rfl
theorem Zfe (fr:List (Nat × SV)) (t:Nat) (ts:List Nat):Uq fr (t :: ts)=(t,lk t fr) :: Uq fr ts:=rfl
attribute [go_sem] Zg1 Zfe
theorem Zcn (fr:List (Nat × SV)):∀ ts,Zv0 (Uq fr ts) fr
 | []=>trivial
 | _ :: ts=>⟨rfl,Zcn fr ts⟩
theorem ZpK {m:Nat} {σ : St} (ts:List Nat) (hg:Zv2 (Uq σ.fr ts)=true):Ent m σ ⟨Uq σ.fr ts,σ.hp,σ.n,σ.N,[]⟩:=by
 intro C E a w _ h;refine ⟨E,λt=>?_,h.sz,h.df,λt j b s ht=>absurd ht (Zdi hg t j b s),h.hs⟩;have hfr:=h.fr t;rcases ZhX (Zcn σ.fr ts) t with h1 | h1
 . rw [h1];exact trivial
 . rw [h1];have:=Zdi hg t;rw [h1] at this;cases hq:lk t σ.fr<;>rw [hq] at hfr this<;>first | exact hfr | exact absurd rfl (this _ _ _)
theorem loopK {m:Nat} {f:CT} {σ : St} {K:Ex->St->Prop} {S:Type} (ts:List Nat) (hg:Zv2 (Uq σ.fr ts)=true) (ov:S->List (Nat × SV)) (hv:S->List (Nat × HB)) (rel:S->Prop) (μ : S->Nat) (s0:S) (h0:rel s0)
 (he:Ent m ⟨Uq σ.fr ts,σ.hp,σ.n,σ.N,[]⟩ (stO ⟨Uq σ.fr ts,σ.hp,σ.n,σ.N,[]⟩ ov hv s0))
 (hb:∀ s,rel s->f (stO ⟨Uq σ.fr ts,σ.hp,σ.n,σ.N,[]⟩ ov hv s) (ZlS m (stO ⟨Uq σ.fr ts,σ.hp,σ.n,σ.N,[]⟩ ov hv) rel μ s K)):ZqV m f σ K :=
 Zmc (ZpK ts hg) ov hv rel μ s0 h0 he hb
end Go.Sx
namespace Go.Azalai
open Go.Sx
theorem YS:Wb.length=4:=rfl
theorem Zxi:∀ k (h:k < Wb.length),okAn Wb[k]=true:=by decide
theorem Zue:∀ k (h:k < Wb.length),W4 Wb[k].id (YO k)=none/\ZaM k Wb[k].id (k:Int) (YO k)=YO (k+1)/\ZaR k Wb[k].id (YO k)=k+1:=by decide
theorem Zsc:∀ k (h:k < Wb.length),(Wb[k].mom = -1/\W4 Wb[k].mom (YO 4)=none/\V4.take (k+1)=V4.take k ++ [-1])\/(Wb[k].mom≠-1/\∃ j,W4 Wb[k].mom (YO 4)=some j/\V4.take (k+1)=V4.take k ++ [j]):=by
 intro k h;have:k=0\/k=1\/k=2\/k=3:=by have:=YS;omega
 rcases this with rfl | rfl | rfl | rfl
 . exact .inl ⟨rfl,rfl,rfl⟩
 . exact .inr ⟨by simp [Wb],0,rfl,rfl⟩
 . exact .inr ⟨by simp [Wb],1,rfl,rfl⟩
 . exact .inl ⟨rfl,rfl,rfl⟩
def ZvT (c:Int):Int:=if c=0\/c=3 then 1 else if c=1 then 2 else if c=2 then 3 else 0
theorem Ztu:∀ j (h:j < V4.length),ZvT V4[j]=ZvT (j:Int) - 1/\-1<=V4[j]/\V4[j] < 4:=by decide
theorem ZpS {c:Int} (h:0<=c/\c < 4):1<=ZvT c/\ZvT c<=3:=by
 have:c=0\/c=1\/c=2\/c=3:=by omega
 rcases this with rfl | rfl | rfl | rfl<;>decide
theorem Zmz:V4.length=4:=rfl
end Go.Azalai
namespace Go.Proofs.YtkpkgafhfakpdaaGreatDoor
open Go Go.Sx Go.Azalai
theorem Zv1:Tryz.prog.underlying 302=some (.map 3 3):=by kernel_rfl
theorem Zkc:Yl Tryz.prog 3=some (.int .i64 0):=by kernel_rfl
abbrev iV:Int->SV:=λn=>I n
theorem Zxe:∀ w E n ok,R w E n ok (I 0) (.int .i64 0):=λw E n ok=>by simp [R]
theorem Zpk (k:Nat):KFR (List.take k (List.map Zk V4)):=Zj3 (λ_=>by simp [KFL,KF,Zk]) k V4
theorem WR (k:Nat):KFR (List.replicate k [I 0,I 0,I 0,I 0,I 0,I 0,I 0,I 0]):=Wr (by simp) k
def ZcY:List (Nat × HB):=[(0,.cells [.sl true 5 (Wb.map anL),.mp 1,.mr 2 4,.any] 305),(1,.map (mpS kI iV (YO 4)) 4),(2,.row 4 1 (V4.map Zk) 3)]
theorem Zuu (r:List (Nat × HB)) (h:KXP r):KXP (ZcY ++ r):=by
 simp [ZcY,KXP,KXH,KXL,KX,KF,KFL,KFR,Za,anL,Zk,ZL,Zy,h]
theorem Zdg (i:Int):CtM Tryz.prog 205 ZcY 3 [.p 0 0,I i] (λo=>o=⟨false,.cl 246 [.p 4 0,.p 3 0],ZcY ++ [(3,.cells [.p 0 0] 298),(4,.cells [I i] 3)],5⟩):=by
 refine m205 (by simp [hpb,ZcY]) (λo ho=>by subst ho;exact ⟨by simp [KX,KXL],Zuu _ (by simp [KXP,KXH,KXL,KX])⟩) ?_;dsimp only [c205,r205,ZcY,go_sem];refine ⟨_,rfl,?_⟩;(refine Zq ?_ ?_ ?_ rfl<;>dsimp only [ZcY,anL,Zk,ZL,Zy,id,go_sem]<;>simp [ZcY,anL,Zk,ZL,Zy,Za])
theorem Zq2:CtM Tryz.prog 203 [] 0 [.sl true 5 (Wb.map anL)] (λo=>o=⟨false,.tup [.p 0 0,I 0],[(0,.cells [.sl true 5 (Wb.map anL),.mp 1,.mr 2 4,.any] 305),(1,.map (mpS kI iV (YO 4)) 4),(2,.row 4 1 (V4.map Zk) 3)],3⟩):=by
 refine m203 (by simp [hpb]) (λo ho=>by subst ho;exact ⟨by simp [KX,KXL],by simp [KXP,KXH,KXL,KX,KF,KFL,KFR,Za,anL,Zk,ZL,Zy]⟩) ?_;dsimp only [c203,r203,go_sem];refine UT rfl rfl rfl ?_;dsimp only [go_sem];simp only [List.length_map];refine Zp rfl ?_;dsimp only [go_sem];refine Zmc (Vs (Va 4 3 8 342 rfl rfl) (Va 4 2 1 3 rfl rfl)) (λk:Nat=>[(26,I k)]) (λk=>[(3,.map (mpS kI iV (YO k)) k),(4,.cells [.sl true 5 (Wb.map anL),.mp 3,.mr 6 0,.mr 5 k] 305),(5,.row k 8 (List.replicate k XC) 342)]) (λk=>k<=Wb.length) (λk=>Wb.length - k) 0 (Nat.zero_le _) ?_ ?_
 . (refine Zi ?_ ?_ ?_ rfl rfl<;>dsimp only [anL,mpS,YO,id,go_sem]<;>simp [anL,mpS,YO,Za])
 intro k hk;dsimp only [go_sem];by_cases hlt:k < Wb.length
 . refine Zs (by simpa using hlt) ?_;dsimp only [go_sem];refine Zu k hlt rfl ?_;dsimp only [anL,go_sem];refine call (ZiZ Wb[k]) ?_;dsimp only [XC,go_sem];obtain ⟨f1,f2,f3⟩:=Zue k hlt;have hok:=Zxi k hlt;simp only [okAn,Bool.and_eq_true] at hok;refine U6 (key:=kI) (val:=iV) (sv:=λn=>.v (kI n)) (L:=YO k) (k:=Wb[k].id) (zs:=I 0) rfl rfl Zv1 Zl8 rfl Zkc Zxe (λv hg=>?_) (λ_=>?_)
   . rw [f1] at hg;cases hg
   dsimp only [go_sem];iterate 6 (refine YI rfl ?_;dsimp only [go_sem])
   refine call (inB1 0 9999 Wb[k].id _) ?_;rw [hok.1];dsimp only [go_sem];iterate 5 (refine YI rfl ?_;dsimp only [go_sem])
   refine call (proB1 (-100000) 100000 Wb[k].born _) ?_;rw [hok.2];dsimp only [go_sem];refine YI rfl ?_;dsimp only [go_sem];refine Zp rfl ?_;dsimp only [go_sem];refine W1 (key:=kI) (val:=iV) (sv:=λn=>.v (kI n)) (L:=YO k) (k:=Wb[k].id) (v:=(k:Int)) (ins:=false) rfl rfl Zv1 Zl8 rfl rfl (λ_ _ _ e=>by cases e) ?_;rw [f2,f3];dsimp only [go_sem];simp only [nbr];dsimp only [go_sem];refine ⟨(by intro c hc;simp only [List.mem_singleton] at hc;subst hc;rfl),by simp;have:=YS;omega,?_⟩
   dsimp only [go_sem];rw [Zf (n:=(k:Int)+1) (by omega) (by have:=YS;omega)];refine ⟨k+1,hlt,by omega,?_⟩;rw [List.replicate_succ'];(refine Zi ?_ ?_ ?_ rfl rfl<;>dsimp only [anL,XC,ZL,Zy,WR,id,go_sem]<;>simp [anL,XC,ZL,Zy,WR,Za])
 refine Zp (by simp;omega) ?_;dsimp only [go_sem];have hk4:k=4:=by have:=YS;omega
 subst hk4;refine Z1 (λk:Nat=>[(85,I k)]) (λk=>[(6,.row k 1 ((V4.take k).map Zk) 3),(4,.cells [.sl true 5 (Wb.map anL),.mp 3,.mr 6 k,.any] 305)]) (λk=>k<=Wb.length) (λk=>Wb.length - k) 0 (Nat.zero_le _) ?_ ?_
 . (refine Zi ?_ ?_ ?_ rfl rfl<;>dsimp only [anL,ZL,Zy,WR,XC,id,go_sem]<;>simp [anL,ZL,Zy,WR,XC,Za])
 intro k hk;dsimp only [go_sem];by_cases hlt2:k < Wb.length
 . refine Zs (by simpa using hlt2) ?_;dsimp only [go_sem];refine Zu k hlt2 rfl ?_;dsimp only [anL,go_sem];have fin:∀ j:Int,V4.take (k+1)=V4.take k ++ [j]->True:=λ_ _=>trivial;rcases Zsc k hlt2 with ⟨g1,g2,g3⟩ | ⟨g1,j,g2,g3⟩
   . refine U6 (key:=kI) (val:=iV) (sv:=λn=>.v (kI n)) (L:=YO 4) (k:=Wb[k].mom) (zs:=I 0) rfl rfl Zv1 Zl8 rfl Zkc Zxe (λv hg=>?_) (λ_=>?_)
     . rw [g2] at hg;cases hg
     dsimp only [go_sem];refine Zs (by simpa using g1) ?_;dsimp only [go_sem];refine Zp rfl ?_;dsimp only [go_sem];simp only [nbr];dsimp only [go_sem];refine ⟨(by intro c hc;simp only [List.mem_singleton] at hc;subst hc;rfl),by simp;have:=YS;omega,?_⟩;dsimp only [go_sem];rw [Zf (n:=(k:Int)+1) (by omega) (by have:=YS;omega)];refine ⟨k+1,hlt2,by omega,?_⟩;rw [g3];(refine Zi ?_ ?_ ?_ rfl rfl<;>dsimp only [anL,Zk,ZL,Zy,WR,Zpk,XC,id,go_sem]<;>simp [anL,Zk,ZL,Zy,WR,Zpk,XC,Za])
   . refine U6 (key:=kI) (val:=iV) (sv:=λn=>.v (kI n)) (L:=YO 4) (k:=Wb[k].mom) (zs:=I 0) rfl rfl Zv1 Zl8 rfl Zkc Zxe (λv hg=>?_) (λhg=>?_)
     . rw [g2] at hg;cases hg;dsimp only [go_sem];refine Zp (by simpa using g1) ?_;dsimp only [go_sem];refine Zp rfl ?_;dsimp only [go_sem];simp only [nbr];dsimp only [go_sem];refine ⟨(by intro c hc;simp only [List.mem_singleton] at hc;subst hc;rfl),by simp;have:=YS;omega,?_⟩;dsimp only [go_sem];rw [Zf (n:=(k:Int)+1) (by omega) (by have:=YS;omega)];refine ⟨k+1,hlt2,by omega,?_⟩;rw [g3];(refine Zi ?_ ?_ ?_ rfl rfl<;>dsimp only [anL,Zk,ZL,Zy,WR,Zpk,XC,id,go_sem]<;>simp [anL,Zk,ZL,Zy,WR,Zpk,XC,Za])
     . rw [g2] at hg;cases hg
 refine Zp (by simp;omega) ?_;dsimp only [go_sem];have hk4:k=4:=by have:=YS;omega
 subst hk4;rw [show V4.take 4=V4 from rfl];refine loopK [1,2,3,4,115,116,117] rfl (λk:Nat=>[(117,I k)]) (λk=>[]) (λk=>k<=Wb.length) (λk=>Wb.length - k) 0 (Nat.zero_le _) ?_ ?_
 . (refine Zi ?_ ?_ ?_ rfl rfl<;>dsimp only [anL,Zk,ZL,Zy,WR,XC,id,go_sem]<;>simp [anL,Zk,ZL,Zy,WR,XC,Za])
 intro k hk;dsimp only [go_sem];by_cases hlt3:k < Wb.length
 . refine Zs (by simpa using hlt3) ?_;dsimp only [go_sem];refine Zr [4,3,6] (Zdg k) rfl rfl rfl ?_ ?_ ?_
   . (repeat first | dsimp only [ZcY,go_sem] | simp only [nbr])
     try simp [mtL,mtB,mtS]
   . (repeat first | dsimp only [ZcY,go_sem] | simp only [nbr])
     try simp [mtL,mtB,mtS,Zb,KFL,KF,Za,KFR,anL,Zk,ZL,Zy]
   rintro _ rfl
   (repeat first | dsimp only [ZcY,go_sem] | simp only [nbr])
   refine gh XU ?_;dsimp only [go_sem];refine ⟨b246,λrec=>?_⟩;refine y246 ?_;dsimp only [Zxg,ZxB,go_sem];refine Z1 (λq:Int × Int=>[]) (λq=>[(9,.cells [I q.1] 3),(7,.cells [I q.2] 3)]) (λq=>(-1<=q.1/\q.1 < 4)/\0<=q.2/\q.2+ZvT q.1<=4) (λq=>(ZvT q.1).toNat) ((k:Int),0) ⟨by have:=YS;simp only;omega,Int.le_refl _,by have:=YS;have:=ZpS (c:=k) (by omega);simp only;omega⟩ ?_ ?_
   . (refine Zi ?_ ?_ ?_ rfl rfl<;>dsimp only [anL,Zk,ZL,Zy,WR,XC,id,go_sem]<;>simp [anL,Zk,ZL,Zy,WR,XC,Za])
   rintro ⟨cur,st⟩ ⟨hc,hs,hd⟩;simp only at hc hs hd;dsimp only [go_sem];by_cases h0:0<=cur
   . have hb:=ZpS (c:=cur) ⟨h0,hc.2⟩;obtain ⟨j,hj⟩:=Int.eq_ofNat_of_zero_le h0;subst hj;have hj4:j < V4.length:=by have:=Zmz;omega
     obtain ⟨e1,e2,e3⟩:=Ztu j hj4;refine Zs (by simp) ?_;dsimp only [go_sem];refine ⟨rfl,rfl,?_⟩;rw [Zf (n:=st+1) (by omega) (by omega)];simp only [List.length_map];refine Zp (by have:=YS;simp;omega) ?_;dsimp only [go_sem];refine ⟨rfl,?_⟩;refine Zp rfl ?_;dsimp only [go_sem];refine Xl j rfl (by simpa using hj4) ?_;dsimp only [go_sem];refine Vf hj4 ?_;dsimp only [Zk,go_sem];refine ⟨(V4[j],st+1),⟨⟨e2,e3⟩,by simp only;omega,by simp only;omega⟩,by simp only;omega,?_⟩
     (refine Zi ?_ ?_ ?_ rfl rfl<;>dsimp only [anL,Zk,ZL,Zy,WR,XC,id,go_sem]<;>simp [anL,Zk,ZL,Zy,WR,XC,Za])
   refine Zp (by simpa using h0) ?_;dsimp only [go_sem];rw [Zf (n:=(k:Int)+1) (by omega) (by have:=YS;omega)];refine ⟨k+1,hlt3,by omega,?_⟩;(refine Zi ?_ ?_ ?_ rfl rfl<;>dsimp only [anL,Zk,ZL,Zy,WR,XC,id,go_sem]<;>simp [anL,Zk,ZL,Zy,WR,XC,Za])
 refine Zp (by simp;omega) ?_;dsimp only [go_sem];refine ⟨_,rfl,?_⟩;refine entO (rho [4,3,6]) ?_ ?_ ?_ (show ∀ i,i < 3->∀ j,j < 3->rho [4,3,6] i=rho [4,3,6] j->i=j by decide) rfl (λi hi=>absurd hi (Nat.not_lt_zero i))<;>dsimp only [go_sem]<;>simp [Za,Zd,KFR,KFL,KF,Zb,mtO,nbr,anL,Zk,ZL,Zy]
def Zb2 (c:Int) (r:List (Nat × HB)):List (Nat × HB):=[(0,.cells [.sl true 5 (Wb.map anL),.mp 1,.mr 2 4,.any] 305),(1,.map (mpS kI iV (YO 4)) 4),(2,.row 4 1 (V4.map Zk) 3),(3,.cells [.p 0 0] 298),(4,.cells [I c] 3)] ++ r
theorem ZgD (c:Int) (r:List (Nat × HB)) (h:KXP r):KXP (Zb2 c r):=by
 simp [Zb2,KXP,KXH,KXL,KX,KF,KFL,KFR,Za,anL,Zk,ZL,Zy,h]
theorem ZiM:CtM Tryz.prog 245 (Zb2 0 []) 5 [.v (.slice none 0 0),.cl 246 [.p 4 0,.p 3 0]] (λo=>o=⟨false,.mr 5 1,Zb2 (-1) [(5,.row 1 1 [[I 0]] 3)],6⟩):=by
 refine m245 (by simp [hpb,Zb2]) (λo ho=>by subst ho;exact ⟨by simp [KX],ZgD _ _ (by simp [KXP,KXH,KFR])⟩) ?_;dsimp only [c245,r245,Zb2,go_sem];refine gh (Va 5 0 1 3 rfl rfl) ?_;dsimp only [go_sem];refine ⟨b246,λrec=>?_⟩;refine y246 ?_;dsimp only [Zxg,ZxB,go_sem];refine Yn 2 ?_;dsimp only [Zc,go_sem];refine Zs rfl ?_;dsimp only [go_sem];refine ⟨rfl,rfl,?_⟩;refine ⟨(by intro c hc;simp only [List.mem_singleton] at hc;subst hc;rfl),by simp,?_⟩
 dsimp only [go_sem];refine ⟨rfl,?_⟩;refine Zp rfl ?_;dsimp only [go_sem];refine Xl 0 rfl (by decide) ?_;dsimp only [go_sem];refine Vf (show 0 < V4.length by decide) ?_;rw [show V4[0]'(by decide) = -1 from rfl];dsimp only [Zk,go_sem];dsimp only [Zc,go_sem];refine Zp rfl ?_;dsimp only [go_sem];refine ⟨_,rfl,?_⟩;refine entO (rho [0,1,2,3,4,6]) ?_ ?_ ?_ (show ∀ i,i < 6->∀ j,j < 6->rho [0,1,2,3,4,6] i=rho [0,1,2,3,4,6] j->i=j by decide) rfl (show ∀ i,i < 5->rho [0,1,2,3,4,6] i=i by decide)<;>dsimp only [go_sem]<;>simp [Zb2,Za,Zd,KFR,KFL,KF,Zb,mtO,nbr,anL,Zk,ZL,Zy]
theorem Zfa:CtM Tryz.prog 204 (Zb2 0 []) 5 [.cl 246 [.p 4 0,.p 3 0]] (λo=>o=⟨false,.mr 5 1,Zb2 (-1) [(5,.row 1 1 [[I 0]] 3)],6⟩):=by
 refine m204 (by simp [hpb,Zb2]) (λo ho=>by subst ho;exact ⟨by simp [KX],ZgD _ _ (by simp [KXP,KXH,KFR])⟩) ?_;dsimp only [c204,r204,Zb2,go_sem];refine Zr [0,1,2,3,4] ZiM rfl rfl rfl ?_ ?_ ?_
 . (repeat first | dsimp only [Zb2,go_sem] | simp only [nbr])
   try simp [mtL,mtB,mtS]
 . (repeat first | dsimp only [Zb2,go_sem] | simp only [nbr])
   try simp [mtL,mtB,mtS,Zb,KFL,KF,Za,KFR,anL,Zk,ZL,Zy]
 rintro _ rfl
 (repeat first | dsimp only [Zb2,go_sem] | simp only [nbr])
 refine ⟨_,rfl,?_⟩;(refine Zq ?_ ?_ ?_ rfl<;>dsimp only [Zb2,anL,Zk,ZL,Zy,id,go_sem]<;>simp [Zb2,anL,Zk,ZL,Zy,Za])
theorem ZxY:Ct Tryz.prog 163 [.sl true 5 (Wb.map anL),I 3,I 1] (.tup [I 2,I 0,I 0]):=by
 refine t163.1 (by simp [Za,anL,KFR]) (by simp) ?_;dsimp only [c163,r163,go_sem];refine Zr [] Zq2 rfl rfl rfl ?_ ?_ ?_
 . (repeat first | dsimp only [go_sem] | simp only [nbr])
   try simp [mtL,mtB,mtS,Zb,Za,anL,KFL,KF,KFR]
 . trivial
 rintro _ rfl
 (repeat first | dsimp only [go_sem] | simp only [nbr])
 refine Zp rfl ?_;dsimp only [go_sem];refine U6 (key:=kI) (val:=iV) (sv:=λn=>.v (kI n)) (L:=YO 4) (k:=3) (zs:=I 0) rfl rfl Zv1 Zl8 rfl Zkc Zxe (λv hg=>?_) (λhg=>by cases hg);cases hg
 dsimp only [go_sem];refine U6 (key:=kI) (val:=iV) (sv:=λn=>.v (kI n)) (L:=YO 4) (k:=1) (zs:=I 0) rfl rfl Zv1 Zl8 rfl Zkc Zxe (λv hg=>?_) (λhg=>by cases hg);cases hg
 dsimp only [go_sem];refine YI rfl ?_;dsimp only [go_sem];refine YI rfl ?_;dsimp only [go_sem];refine Zp rfl ?_;dsimp only [go_sem];refine Zr [3,4,5] (Zdg 0) rfl rfl rfl ?_ ?_ ?_
 . (repeat first | dsimp only [ZcY,go_sem] | simp only [nbr])
   try simp [mtL,mtB,mtS]
 . (repeat first | dsimp only [ZcY,go_sem] | simp only [nbr])
   try simp [mtL,mtB,mtS,Zb,KFL,KF,Za,KFR,anL,Zk,ZL,Zy]
 rintro _ rfl
 (repeat first | dsimp only [ZcY,go_sem] | simp only [nbr])
 refine Zr [3,4,5,6,7] Zfa rfl rfl rfl ?_ ?_ ?_
 . (repeat first | dsimp only [Zb2,go_sem] | simp only [nbr])
   try simp [mtL,mtB,mtS]
 . (repeat first | dsimp only [Zb2,go_sem] | simp only [nbr])
   try simp [mtL,mtB,mtS,Zb,KFL,KF,Za,KFR,anL,Zk,ZL,Zy]
 rintro _ rfl
 (repeat first | dsimp only [Zb2,go_sem] | simp only [nbr])
 refine Zr [3,4,5] (Zdg 2) rfl rfl rfl ?_ ?_ ?_
 . (repeat first | dsimp only [ZcY,go_sem] | simp only [nbr])
   try simp [mtL,mtB,mtS]
 . (repeat first | dsimp only [ZcY,go_sem] | simp only [nbr])
   try simp [mtL,mtB,mtS,Zb,KFL,KF,Za,KFR,anL,Zk,ZL,Zy]
 rintro _ rfl
 (repeat first | dsimp only [ZcY,go_sem] | simp only [nbr])
 refine gh XU ?_;dsimp only [go_sem];refine ⟨b246,λrec=>?_⟩;refine y246 ?_;dsimp only [Zxg,ZxB,go_sem];refine Yn 4 ?_;dsimp only [Zc,go_sem];refine Zs rfl ?_;dsimp only [go_sem];refine ⟨rfl,rfl,?_⟩;refine XK (by simp [FLT]) (res:=I (-1)) ?_ ?_
 . dsimp only [go_sem];exact Zcd [0] 2 (by decide) false
 dsimp only [go_sem];refine Zp rfl ?_;dsimp only [go_sem];refine ⟨rfl,?_⟩;refine Zp rfl ?_;dsimp only [go_sem];refine Xl 2 rfl (by decide) ?_;dsimp only [go_sem];refine Vf (show 2 < V4.length by decide) ?_;rw [show V4[2]'(by decide)=1 from rfl];dsimp only [Zk,go_sem];dsimp only [Zc,go_sem];refine Zs rfl ?_;dsimp only [go_sem];refine ⟨rfl,rfl,?_⟩;refine XK (by simp [FLT]) (res:=I (-1)) ?_ ?_
 . dsimp only [go_sem];exact Zcd [0] 1 (by decide) false
 dsimp only [go_sem];refine Zp rfl ?_;dsimp only [go_sem];refine ⟨rfl,?_⟩;refine Zp rfl ?_;dsimp only [go_sem];refine Xl 1 rfl (by decide) ?_;dsimp only [go_sem];refine Vf (show 1 < V4.length by decide) ?_;rw [show V4[1]'(by decide)=0 from rfl];dsimp only [Zk,go_sem];dsimp only [Zc,go_sem];refine Zs rfl ?_;dsimp only [go_sem];refine ⟨rfl,rfl,?_⟩;refine XK (by simp [FLT]) (res:=I 0) ?_ ?_
 . dsimp only [go_sem];exact Zcd [0] 0 (by decide) false
 dsimp only [go_sem];refine Zs rfl ?_;dsimp only [go_sem];refine ⟨rfl,?_⟩;refine Zs rfl ?_;dsimp only [go_sem];rw [show IntKind.i64.wrap (IntKind.i64.wrap (0+1)+1)=2 from by decide]
def c104:SC:=(sr1 [Jw 0 Jf] (sr1 [o1 7 (.call 164 []),o1 8 (.call 163 [.t 7,cn 3,cn 1]),m1 6 8,o1 9 (Je 6 0),o1 10 (Je 6 1),o1 11 (Je 6 2),m1 1 9,m1 2 10,m1 3 11] (sr1 [o1 13 (.bsl 1 3 [cn 0]),o1 14 (.build zv11 [(0,1,.c (.int .i64 0)),(1,1,.c (.int
 .i64 1)),(2,1,.c (.int .i64 5)),(3,1,.c (.bool true))]),o1 15 (.bsl 4 274 [.t 14]),o1 16 (.call 17 [cn 3,cn 4]),o1 17 (.call 165 [cn 2,.t 13,.t 15,.t 16,cn 9]),m1 12 17,o1 18 (Je 12 0),o1 19 (Je 12 1),m1 4 18,m1 5 19] (sr1 [m1 20 3,o1 21 (Jc .eql 20
 0),m1 22 21,g1 23 22 true (.mv (.t 1)),g1 24 22 true (Jc .eql 23 2),o1 25 (.pick (.t 22) (.t 24) Jf),m1 26 25,g1 27 26 true (.mv (.t 2)),g1 28 26 true (Jc .eql 27 0),o1 29 (.pick (.t 26) (.t 28) Jf),m1 30 29,g1 31 30 true (.mv (.t 5)),g1 32 30 true
 (Jc .eql 31 0),o1 33 (.pick (.t 30) (.t 32) Jf),m1 34 33,g1 35 34 true (.mv (.t 4)),g1 36 34 true (.raw (Go.Op.convert 270 9 (Go.Operand.tmp 35)) 9),g1 37 34 true (.raw (Go.Op.binOp Go.BinOp.eql 9 (Go.Operand.tmp 36) (Go.Operand.const
 (Go.Value.string { data:=#[2,2] })) 9) 4),o1 38 (.pick (.t 34) (.t 37) Jf),m1 0 38] .ret))))
def r104:List RV:=[.tmp 0]
theorem t104:Qt1 Tryz.prog 104 c104 r104 39:=ZU Tryz.func104
def c7:SC:=(sr1 [Jw 0 Jf] (sr1 [o1 13 (.call 17 [cn 100,cn 120]),o1 14 (.build zv2 [(0,1,.c (.int .i64 1000)),(1,1,.c (.int .i64 1000)),(15,2,.t 13)]),o1 1 (.alloc zv2 25),Js 1 14 17] (sr1 [o1 15 (.call 17 [cn 1000,cn 1000]),o1 16 (.call 17 [cn
 1000,cn 1000]),o1 17 (.build zv4 [(0,2,.t 15),(2,2,.t 16)]),o1 2 (.alloc zv4 27),Js 2 17 7] (sr1 [o1 18 (.call 17 [cn 30,cn 30]),o1 19 (.build zv5 [(0,1,.c (.int .u8 2)),(1,2,.t 18)]),o1 20 (.call 17 [cn 30,cn 30]),o1 21 (.call 17 [cn 1,cn 2]),o1 22
 (.build zv5 [(0,1,.c (.int .u8 3)),(1,2,.t 20),(7,2,.t 21)]),o1 23 (.bsl 11 49 [.t 19,.t 22]),m1 3 23] (sr1 [o1 24 (.bsl 1 3 [cn 0]),o1 25 (.bsl 1 3 [cn 1]),o1 26 (.build zv9 [(0,1,.t 24),(1,1,.t 25)]),o1 4 (.alloc zv9 31),Js 4 26 3] (sr1 [o1 28 (lt
 1 17),o1 29 (lt 2 7),m1 30 3,o1 31 (lt 4 3),o1 32 (.call 12 [.t 28,.t 29,.t 30,.t 31,cn 4]),m1 27 32,o1 33 (Je 27 0),o1 34 (Je 27 1),m1 5 33,m1 6 34] (sr1 [m1 36 3,o1 37 (lt 4 3),o1 38 (.bsl 3 31 [.t 37]),o1 39 (.call 40 [.t 36,.t 38,.c (.slice none
 0 0),cn 2]),m1 35 39,o1 40 (Je 35 0),o1 41 (Je 35 1),m1 7 40,m1 8 41] (sr1 [o1 43 (lt 1 17),o1 44 (lt 2 7),m1 45 7,o1 46 (lt 4 3),o1 47 (.call 12 [.t 43,.t 44,.t 45,.t 46,cn 4]),m1 42 47,o1 48 (Je 42 0),o1 49 (Je 42 1),m1 9 48,m1 10 49] (sr1 [o1 51
 (lt 1 17),o1 52 (lt 2 7),o1 53 (.build zv3 [(0,1,.c (.int .i64 1))]),o1 54 (.bsl 8 43 [.t 53]),o1 55 (J3 11 51 52 54),m1 50 55,o1 56 (Je 50 0),o1 57 (Je 50 1),m1 11 56,m1 12 57] (sr1 [o1 58 (.call 41 []),m1 59 58,g1 60 59 true (.mv (.t 6)),g1 61 59
 true (Jc .eql 60 0),o1 62 (.pick (.t 59) (.t 61) Jf),m1 63 62,g1 64 63 true (.mv (.t 5)),g1 65 63 true (.bin .eql (.t 64) (.c (.int .u8 2))),o1 66 (.pick (.t 63) (.t 65) Jf),m1 67 66,g1 68 67 true (.mv (.t 8)),g1 69 67 true (Jc .eql 68 0),o1 70
 (.pick (.t 67) (.t 69) Jf),m1 71 70,g1 72 71 true (.mv (.t 10)),g1 73 71 true (Jc .eql 72 0),o1 74 (.pick (.t 71) (.t 73) Jf),m1 75 74,g1 76 75 true (.mv (.t 9)),g1 77 75 true (.bin .eql (.t 76) (.c (.int .u8 2))),o1 78 (.pick (.t 75) (.t 77) Jf),m1
 79 78,g1 80 79 true (.mv (.t 12)),g1 81 79 true (Jc .eql 80 0),o1 82 (.pick (.t 79) (.t 81) Jf),m1 83 82,g1 84 83 true (.mv (.t 11)),g1 85 83 true (Jc .eql 84 100),o1 86 (.pick (.t 83) (.t 85) Jf),m1 0 86] .ret))))))))))
def r7:List RV:=[.tmp 0]
theorem t7:Qt1 Tryz.prog 7 c7 r7 87:=ZU Tryz.func7
def c41:SC:=(sr1 [Jw 0 Jf] (sr1 [o1 11 (.build zv2 [(0,1,.c (.int .i64 1000)),(1,1,.c (.int .i64 1000))]),o1 1 (.alloc zv2 25),Js 1 11 17] (sr1 [o1 12 (.call 17 [cn 600,cn 700]),o1 13 (.call 17 [cn 5,cn 5]),o1 14 (.build zv4 [(0,2,.t 12),(2,2,.t
 13)]),o1 2 (.alloc zv4 27),Js 2 14 7] (sr1 [o1 16 (lt 1 17),o1 17 (lt 2 7),o1 18 (.bsl 7 27 [.t 17]),o1 19 (J2 101 16 18),m1 15 19,o1 20 (Je 15 0),o1 21 (Je 15 1),o1 3 (.alloc zv1 23),Js 3 20 2,m1 4 21] (.seq (.regd (Jr 13) [Jo 23 (lt 1 17),Jo 24 (lt
 2 7),Jo 25 (.call 17 [cn 400,cn 400]),Jp 26 (.build zv3 [(6,2,.t 25)]) [2],Jp 27 (J3 13 23 24 26) (Jr 4),Jp 22 (.mv (.t 27)) [4],Jp 28 (Je 22 0) [5],Jp 29 (Je 22 1) [5],Jp 30 (Je 22 2) [5]] 1 3 [o1 5 (.alloc zv4 27),Ju 5 28 7 [0,1,2,3,4,5,6,9],⟨some
 6,.mv (.t 29),none,[0,1,2,3,4,5,6,7,9,10]⟩,⟨some 7,.mv (.t 30),none,(Jr 12)⟩]) (sr1 [o1 32 (.call 103 []),o1 33 (.build ZyX [(2,1,.c (.int .i64 400))]),o1 34 (.bsl 3 206 [.t 33]),o1 35 (.call 102 [.t 32,cn 0,.t 34,cn 1]),m1 31 35,o1 36 (Je 31 0),o1
 37 (Je 31 1),o1 38 (Je 31 2),o1 8 (.alloc zv1 23),Js 8 36 2,m1 9 37,m1 10 38] (.seq (.regd (Jr 30) [Jo 39 (.call 104 []),Jp 40 (.mv (.t 39)) [0],Jq 41 40 true (.mv (.t 4)) [1],Jq 42 40 true (Jc .eql 41 0) [1,2],Jp 43 (.pick (.t 40) (.t 42) Jf)
 [1,3],Jp 44 (.mv (.t 43)) [1,4],Jq 45 44 true (lt 3 2) [5],Jq 46 44 true (.call 17 [cn 300,cn 400]) [5],Jq 47 44 true (.eqs false true [1,1] (.t 45) (.t 46)) [5,6,7],Jp 48 (.pick (.t 44) (.t 47) Jf) [5,8],Jp 49 (.mv (.t 48)) [7,9],Jq 50 49 true (.mv
 (.t 7)) [10],Jq 51 49 true (Jc .eql 50 0) [10,11],Jp 52 (.pick (.t 49) (.t 51) Jf) [10,12],Jp 53 (.mv (.t 52)) [10,13],Jq 54 53 true (ao 5 0) [14],Jq 55 53 true (lt 54 2) [14,15],Jq 56 53 true (.call 17 [cn 1000,cn 1000]) [14],Jq 57 53 true (.eqs
 false true [1,1] (.t 55) (.t 56)) [14,16,17],Jp 58 (.pick (.t 53) (.t 57) Jf) [14,18],Jp 59 (.mv (.t 58)) [17,19],Jq 60 59 true (.mv (.t 10)) [20],Jq 61 59 true (Jc .eql 60 0) [20,21],Jp 62 (.pick (.t 59) (.t 61) Jf) [20,22],Jp 63 (.mv (.t 62))
 [20,23],Jq 64 63 true (lt 8 2) [24],Jq 65 63 true (.call 17 [cn 110,cn 520]) [24],Jq 66 63 true (.eqs false true [1,1] (.t 64) (.t 65)) [24,25,26],Jp 67 (.pick (.t 63) (.t 66) Jf) [24,27],Jp 0 (.mv (.t 67)) (Jr 29)] 0 0 []) .ret)))))))
def r41:List RV:=[.tmp 0]
theorem t41:Qt1 Tryz.prog 41 c41 r41 68:=ZU Tryz.func41
def c103:SC:=(sr1 [o1 0 (.alloc zv14 68)] (sr1 [o1 1 (.call 17 [cn 10,cn 20]),o1 2 (.call 17 [cn 500,cn 900]),o1 3 (.build zv10 [(3,2,.t 1),(5,1,.c (.int .i64 1000)),(6,2,.t 2)]),o1 4 (.bsl 9 264 [.t 3]),o1 5 (.build zv14 [(0,1,.t 4)]),Js 0 5 2] .ret))
def r103:List RV:=[.cell 0 2 true]
theorem t103:Qt1 Tryz.prog 103 c103 r103 6:=ZU Tryz.func103
def c165:SC:=(sr1 [o1 5 (Jz 0 0 3),o1 8 (Jz 3 0 23),o1 10 (.mv (.c (.slice none 0 0))),Jk 11 0] (.seq (sr1 [o1 19 (lf 5 1),o1 20 (.bsl 1 3 [.t 19]),o1 21 (.call 120 [cn 1,cn 30,.t 20]),o1 22 (Jh 21),m1 23 22,g1 24 23 false (lt 8 2),g1 25 23 false
 (.bsl 2 23 [.t 24]),g1 26 23 false (.call 119 [cn 1,cn 60,.t 25]),g1 27 23 false (Jh 26),o1 28 (.pick (.t 23) Jt (.t 27)),m1 29 28,g1 30 29 false (.mv (.t 4)),g1 31 29 false (.bsl 1 3 [.t 30]),g1 32 29 false (.call 120 [cn 0,cn 100000,.t 31]),g1 33
 29 false (Jh 32),o1 34 (.pick (.t 29) Jt (.t 33))] (Ji 34 (sr1 [o1 10 (.mv (.c (.slice none 0 0))),Jk 11 2] .ret) .skip)) (.seq (sr1 [m1 35 1,o1 36 (Jl 35),o1 37 (Jc .gtr 36 30),m1 38 37,g1 39 38 false (.mv (.t 2)),g1 40 38 false (Jl 39),g1 41 38
 false (Jc .gtr 40 200),o1 42 (.pick (.t 38) Jt (.t 41))] (Ji 42 (sr1 [o1 10 (.mv (.c (.slice none 0 0))),Jk 11 4] .ret) .skip)) (sr1 [o1 43 (.mkf 206 [.t 5]),m1 12 43] (.seq (sr1 [o1 44 (lf 5 1),o1 45 (Jc .sub 44 1),m1 46 1,o1 47 (.call 120 [cn 0,.t
 45,.t 46]),o1 48 (Jh 47),m1 49 48,g1 50 49 false (.mv (.t 2)),g1 51 49 false (.mv (.t 12)),g1 52 49 false (J2 207 50 51),o1 53 (.pick (.t 49) Jt (.t 52))] (Ji 53 (sr1 [o1 10 (.mv (.c (.slice none 0 0))),Jk 11 14] .ret) .skip)) (sr1 [m1 54 2,o1 55
 (.callm 208 [.t 54]),m1 13 55] (.gh (sr1 [m1 56 13,o1 57 (.callm 209 [.t 56,.f 210])] (.gh (sr1 [o1 58 (lf 5 1),m1 59 1,m1 60 13,o1 61 (ao 8 0),o1 62 (lf 61 1),m1 63 4,o1 64 (J5 212 58 59 60 62 63),m1 14 64] (sr1 [m1 65 13,o1 66 (.callm 208 [.t
 65]),o1 67 (.callm 213 [.t 66,.f 214]),m1 15 67] (.gh (sr1 [o1 68 (lf 5 1),m1 69 1,m1 70 15,o1 71 (ao 8 1),o1 72 (lf 71 1),m1 73 4,o1 74 (J5 212 68 69 70 72 73),m1 16 74] (sr1 [o1 75 (lf 5 1),o1 76 (.mks 1 1 [.int .u8 0] 5 (.t 75)),m1 17 76] (.seq
 (sr1 [m1 77 17,o1 78 (Jl 77),Jk 79 0] (.block 0 (.loop (sr1 [o1 80 (Jb .lss 79 78)] (.seq (Ji 80 .skip (.exit 0)) (.seq (.block 1 (sr1 [m1 81 79,m1 18 81] (.block 2 (sr1 [m1 83 16,m1 84 18,o1 85 (Jx 83 84 1),o1 86 (lf 85 1),m1 87 4,o1 88 (Jb .leq 86
 87),m1 82 88] (Ji 82 (.reg [m1 89 17,m1 90 18,o1 91 (Jx 89 90 1),Jv 91 (.c (.int .u8 2)) 1]) (sr1 [m1 93 14,m1 94 18,o1 95 (Jx 93 94 1),o1 96 (lf 95 1),m1 97 4,o1 98 (Jb .leq 96 97),m1 92 98] (Ji 92 (.reg [m1 99 17,m1 100 18,o1 101 (Jx 99 100 1),Jv
 101 (.c (.int .u8 1)) 1]) .skip))))))) (.reg [o1 102 (Jc .add 79 1),m1 79 102]))))))) (sr1 [m1 103 17,m1 10 103,Jk 11 0] .ret))))))))))))))))
def r165:List RV:=[.tmp 10,.tmp 11]
theorem t165:Qt1 Tryz.prog 165 c165 r165 104:=ZU Tryz.func165
def c206:SC:=(sr1 [o1 2 (Jz 0 0 274),Jw 3 Jf] (sr1 [o1 4 (lf 1 1),o1 5 (Jc .sub 4 1),o1 6 (ao 2 0),o1 7 (lf 6 1),o1 8 (ao 2 1),o1 9 (lf 8 1),o1 10 (.bsl 1 3 [.t 7,.t 9]),o1 11 (.call 120 [cn 0,.t 5,.t 10]),o1 12 (Jh 11),m1 13 12,g1 14 13 false (ao 2
 0),g1 15 13 false (lf 14 1),g1 16 13 false (ao 2 1),g1 17 13 false (lf 16 1),g1 18 13 false (Jb .eql 15 17),o1 19 (.pick (.t 13) Jt (.t 18)),m1 20 19,g1 21 20 false (ao 2 2),g1 22 20 false (lf 21 1),g1 23 20 false (.bsl 1 3 [.t 22]),g1 24 20 false
 (.call 120 [cn 0,cn 100000,.t 23]),g1 25 20 false (Jh 24),o1 26 (.pick (.t 20) Jt (.t 25)),m1 3 26] .ret))
def r206:List RV:=[.tmp 3]
theorem t206:Qt1 Tryz.prog 206 c206 r206 27:=ZU Tryz.func206
def c207:SC:=(sr1 [Jw 4 Jf] (sr1 [m1 5 0,m1 6 1,o1 7 (J2 247 5 6),o1 8 (Jc .geq 7 0),m1 4 8] .ret))
def r207:List RV:=[.tmp 4]
theorem t207:Qt1 Tryz.prog 207 c207 r207 9:=ZU Tryz.func207
def c208:SC:=(sr1 [o1 2 (.mv (.c (.slice none 0 0)))] (.seq (sr1 [m1 3 0,o1 4 (.isn (.t 3))] (Ji 4 (sr1 [o1 2 (.mv (.c (.slice none 0 0)))] .ret) .skip)) (sr1 [o1 5 (.bsl 4 274 []),m1 6 0,o1 7 (.cln 4 32 274 (.t 5) (.t 6)),m1 2 7] .ret)))
def r208:List RV:=[.tmp 2]
theorem n208:Tryz.f208.ntmps=8:=by kernel_rfl
theorem b208:Z5 Tryz.prog 208=true:=by kernel_rfl
theorem ZsG:YC Tryz.prog c208 ((Tryz.f208.body).getD .skip)=true:=by kernel_rfl
theorem ZsB:Y2 Tryz.prog r208 Tryz.f208.results.toList=true:=by kernel_rfl
theorem m208 {n0:Nat} {hp0:List (Nat × HB)} {args:List SV} {Zx:Ot->Prop} (hh:hpb n0 hp0) (hx:∀ o,Zx o->KX o.res/\KXP o.hp) (h:sx Tryz.prog Y0 n0 c208 ⟨YF 0 args,hp0,n0,8,[]⟩ (Wa r208 λo=>∃ o',Zx o'/\Wk n0 o o')) (hA:Nat.ble args.length 8=true:=by rfl):CtM Tryz.prog 208 hp0 n0 args Zx:=Zv Tryz.func208 rfl b208 ZsG ZsB n208 (Nat.le_of_ble_eq_true hA) hh hx h
def c209:SC:=(.reg [m1 4 0,m1 5 0,o1 6 (Jl 5),m1 7 1,o1 8 (.callm 248 [.t 4,.t 6,.t 7])])
def r209:List RV:=[]
theorem n209:Tryz.f209.ntmps=9:=by kernel_rfl
theorem b209:Z5 Tryz.prog 209=true:=by kernel_rfl
theorem ZqZ:YC Tryz.prog c209 ((Tryz.f209.body).getD .skip)=true:=by kernel_rfl
theorem Zvy:Y2 Tryz.prog r209 Tryz.f209.results.toList=true:=by kernel_rfl
theorem m209 {n0:Nat} {hp0:List (Nat × HB)} {args:List SV} {Zx:Ot->Prop} (hh:hpb n0 hp0) (hx:∀ o,Zx o->KX o.res/\KXP o.hp) (h:sx Tryz.prog Y0 n0 c209 ⟨YF 0 args,hp0,n0,9,[]⟩ (Wa r209 λo=>∃ o',Zx o'/\Wk n0 o o')) (hA:Nat.ble args.length 9=true:=by rfl):CtM Tryz.prog 209 hp0 n0 args Zx:=Zv Tryz.func209 rfl b209 ZqZ Zvy n209 (Nat.le_of_ble_eq_true hA) hh hx h
def c210:SC:=(sr1 [o1 2 (Jz 0 0 274),o1 3 (Jz 1 0 274),Jk 4 0] (sr1 [o1 5 (ao 2 2),o1 6 (lf 5 1),o1 7 (ao 3 2),o1 8 (lf 7 1),o1 9 (J2 211 6 8),m1 4 9] .ret))
def r210:List RV:=[.tmp 4]
theorem t210:Qt1 Tryz.prog 210 c210 r210 10:=ZU Tryz.func210
def c212:SC:=(sr1 [o1 10 (.mv (.c (.slice none 0 0)))] (.scope (sr1 [o1 17 (.bsl 1 3 [cn 100061]),m1 18 0,o1 19 (.callm 250 [.t 17,.t 18]),m1 11 19] (.seq (sr1 [m1 20 1,o1 21 (Jl 20),Jk 22 0] (.block 0 (.loop (sr1 [o1 23 (Jb .lss 22 21)] (.seq (Ji 23
 .skip (.exit 0)) (.seq (.block 1 (sr1 [o1 24 (Jx 20 22 1),o1 25 (lf 24 1),m1 13 25] (.reg [m1 26 11,m1 27 13,o1 28 (Jx 26 27 1),Jv 28 (cn 0) 1]))) (.reg [o1 29 (Jc .add 22 1),m1 22 29]))))))) (.seq (.label 0) (.seq (sr1 [m1 30 2,o1 31 (Jl 30),Jk 32
 0] (.block 2 (.loop (sr1 [o1 33 (Jb .lss 32 31)] (.seq (Ji 33 .skip (.exit 2)) (.seq (.block 3 (sr1 [m1 34 32,m1 14 34] (.seq (.regd (Jr 24) [Jm 35 2,Jm 36 14,Jp 37 (Jx 35 36 4) [0,1],Jp 38 (ao 37 0) [2],Jp 39 (lf 38 1) [3],Jm 40 2,Jm 41 14,Jp 42 (Jx
 40 41 4) [5,6],Jp 43 (ao 42 1) [7],Jp 44 (lf 43 1) [8],Jp 45 (.build zv1 [(0,1,.t 39),(1,1,.t 44)]) [4,9],Jm 46 2,Jm 47 14,Jp 48 (Jx 46 47 4) [11,12],Jp 49 (ao 48 1) [13],Jp 50 (lf 49 1) [14],Jm 51 2,Jm 52 14,Jp 53 (Jx 51 52 4) [16,17],Jp 54 (ao 53
 0) [18],Jp 55 (lf 54 1) [19],Jp 56 (.build zv1 [(0,1,.t 50),(1,1,.t 55)]) [15,20],Jp 57 (.build zv8 [(0,2,.t 45),(2,2,.t 56)]) [10,21],.op (Jk 58 0)] 0 0 []) (.block 4 (.loop (sr1 [o1 59 (Jc .lss 58 2)] (.seq (Ji 59 .skip (.exit 4)) (.seq (.block 5
 (sr1 [o1 60 (.idx (.t 57) (.t 58) 2 2 true),o1 16 (.alloc zv1 172),Js 16 60 2] (.seq (sr1 [m1 61 2,m1 62 14,o1 63 (Jx 61 62 4),o1 64 (ao 63 2),o1 65 (lf 64 1),m1 66 4,o1 67 (Jb .gtr 65 66)] (Ji 67 (.exit 2) .skip)) (.seq (.regd (Jr 11) [Jm 68 11,Jo
 69 (.ixa (.t 16) (cn 0) 2 1),Jp 70 (lf 69 1) [1],Jp 71 (Jx 68 70 1) [0,2],Jp 72 (lf 71 1) [3],Jm 73 2,Jm 74 14,Jp 75 (Jx 73 74 4) [5,6],Jp 76 (ao 75 2) [7],Jp 77 (lf 76 1) [8],Jp 78 (Jb .leq 72 77) [4,9]] 0 0 []) (Ji 78 (.regd (Jr 18) [Jm 79 11,Jo 80
 (.ixa (.t 16) (cn 1) 2 1),Jp 81 (lf 80 1) [1],Jm 82 11,Jo 83 (.ixa (.t 16) (cn 1) 2 1),Jp 84 (lf 83 1) [4],Jp 85 (Jx 82 84 1) [3,5],Jp 86 (lf 85 1) [6],Jm 87 2,Jm 88 14,Jp 89 (Jx 87 88 4) [8,9],Jp 90 (ao 89 2) [10],Jp 91 (lf 90 1) [11],Jm 92 3,Jp 93
 (Jb .add 91 92) [12,13],Jp 94 (.mm false [.t 86,.t 93]) [7,14],Jp 95 (Jx 79 81 1) (Jr 16)] 0 1 [Ju 95 94 1 (Jr 17)]) .skip))))) (.reg [o1 96 (Jc .add 58 1),m1 58 96]))))))))) (.reg [o1 97 (Jc .add 32 1),m1 32 97]))))))) (sr1 [m1 98 11,m1 10 98]
 .ret)))))))
def r212:List RV:=[.tmp 10]
theorem t212:Qt1 Tryz.prog 212 c212 r212 99:=ZU Tryz.func212
def c213:SC:=(sr1 [o1 4 (.mv (.c (.slice none 0 0)))] (sr1 [m1 8 0,m1 9 1,o1 10 (J2 247 8 9),m1 5 10] (.seq (sr1 [m1 11 5,o1 12 (.bin .eql (.t 11) (cn (-1)))] (Ji 12 (sr1 [m1 13 0,m1 4 13] .ret) .skip)) (.seq (sr1 [m1 14 5,o1 15 (Jc .add 14 1),m1 6
 15] (.block 0 (.loop (.seq (sr1 [m1 16 6,m1 17 0,o1 18 (Jl 17),o1 19 (Jb .lss 16 18)] (Ji 19 .skip (.exit 0))) (.seq (.block 1 (sr1 [m1 22 0,m1 23 6,o1 24 (Jx 22 23 4),o1 25 (lt 24 4),o1 7 (.alloc zv11 274),Js 7 25 4] (sr1 [m1 26 1,o1 27 (lt 7 4),o1
 28 (.calv (.t 26) [.t 27]),o1 29 (Jh 28)] (Ji 29 (sr1 [m1 30 0,m1 31 5,o1 32 (lt 7 4),o1 33 (Jx 30 31 4),Js 33 32 4] (.reg [m1 34 5,o1 35 (Jc .add 34 1),m1 5 35])) .skip)))) (.reg [m1 20 6,o1 21 (Jc .add 20 1),m1 6 21])))))) (sr1 [m1 36 0,m1 37 5,o1
 38 (.sub 4 (.t 36) (some (.t 37)) none),⟨none,.raw (Go.Op.call { callee:=(Go.Callee.builtin Go.Builtin.clear),args:=#[(Go.Operand.tmp 38)],argTypes:=#[275] }) 0,none,[]⟩] (sr1 [m1 39 0,m1 40 5,o1 41 (.sub 4 (.t 39) none (some (.t 40))),m1 4 41]
 .ret))))))
def r213:List RV:=[.tmp 4]
theorem n213:Tryz.f213.ntmps=42:=by kernel_rfl
theorem b213:Z5 Tryz.prog 213=true:=by kernel_rfl
theorem ZqM:YC Tryz.prog c213 ((Tryz.f213.body).getD .skip)=true:=by kernel_rfl
theorem Zvr:Y2 Tryz.prog r213 Tryz.f213.results.toList=true:=by kernel_rfl
theorem m213 {n0:Nat} {hp0:List (Nat × HB)} {args:List SV} {Zx:Ot->Prop} (hh:hpb n0 hp0) (hx:∀ o,Zx o->KX o.res/\KXP o.hp) (h:sx Tryz.prog Y0 n0 c213 ⟨YF 0 args,hp0,n0,42,[]⟩ (Wa r213 λo=>∃ o',Zx o'/\Wk n0 o o')) (hA:Nat.ble args.length 42=true:=by rfl):CtM Tryz.prog 213 hp0 n0 args Zx:=Zv Tryz.func213 rfl b213 ZqM Zvr n213 (Nat.le_of_ble_eq_true hA) hh hx h
def c214:SC:=(sr1 [o1 1 (Jz 0 0 274),Jw 2 Jf] (sr1 [o1 3 (ao 1 3),o1 4 (lf 3 1),o1 5 (Jh 4),m1 2 5] .ret))
def r214:List RV:=[.tmp 2]
theorem t214:Qt1 Tryz.prog 214 c214 r214 6:=ZU Tryz.func214
def c247:SC:=(sr1 [Jk 4 0] (.seq (sr1 [m1 6 0,o1 7 (Jl 6),Jk 8 0] (.block 0 (.loop (sr1 [o1 9 (Jb .lss 8 7)] (.seq (Ji 9 .skip (.exit 0)) (.seq (.block 1 (sr1 [m1 10 8,m1 5 10] (sr1 [m1 11 1,m1 12 0,m1 13 5,o1 14 (Jx 12 13 4),o1 15 (lt 14 4),o1 16
 (.calv (.t 11) [.t 15])] (Ji 16 (sr1 [m1 17 5,m1 4 17] .ret) .skip)))) (.reg [o1 18 (Jc .add 8 1),m1 8 18]))))))) (sr1 [o1 4 (.mv (cn (-1)))] .ret)))
def r247:List RV:=[.tmp 4]
theorem t247:Qt1 Tryz.prog 247 c247 r247 19:=ZU Tryz.func247
def c248:SC:=(sr1 [Jk 6 20] (sr1 [m1 10 6,Jk 7 0,m1 8 10] (.seq (.block 0 (.loop (.seq (sr1 [m1 11 8,m1 12 1,o1 13 (Jb .leq 11 12)] (Ji 13 .skip (.exit 0))) (.block 1 (sr1 [m1 14 0,m1 15 7,m1 16 8,m1 17 2,o1 18 (.callm 267 [.t 14,.t 15,.t 16,.t 17])]
 (sr1 [m1 19 8,m1 7 19] (.reg [m1 20 8,m1 21 6,o1 22 (Jb .add 20 21),m1 8 22]))))))) (sr1 [m1 23 0,m1 24 7,m1 25 1,m1 26 2,o1 27 (.callm 267 [.t 23,.t 24,.t 25,.t 26])] (.block 2 (.loop (.seq (sr1 [m1 28 6,m1 29 1,o1 30 (Jb .lss 28 29)] (Ji 30 .skip
 (.exit 2))) (.block 3 (sr1 [m1 31 6,o1 32 (.bin .mul (cn 2) (.t 31)),Jk 7 0,m1 8 32] (.seq (.block 4 (.loop (.seq (sr1 [m1 33 8,m1 34 1,o1 35 (Jb .leq 33 34)] (Ji 35 .skip (.exit 4))) (.block 5 (sr1 [m1 36 0,m1 37 7,m1 38 7,m1 39 6,o1 40 (Jb .add 38
 39),m1 41 8,m1 42 2,o1 43 (.callm 268 [.t 36,.t 37,.t 40,.t 41,.t 42])] (sr1 [m1 44 8,m1 7 44] (.reg [m1 45 8,m1 46 6,o1 47 (.bin .mul (cn 2) (.t 46)),o1 48 (Jb .add 45 47),m1 8 48]))))))) (.seq (sr1 [m1 49 7,m1 50 6,o1 51 (Jb .add 49 50),m1 9 51]
 (sr1 [m1 52 9,m1 53 1,o1 54 (Jb .lss 52 53)] (Ji 54 (.reg [m1 55 0,m1 56 7,m1 57 9,m1 58 1,m1 59 2,o1 60 (.callm 268 [.t 55,.t 56,.t 57,.t 58,.t 59])]) .skip))) (.reg [m1 61 6,o1 62 (Jc .mul 61 2),m1 6 62]))))))))))))
def r248:List RV:=[]
theorem n248:Tryz.f248.ntmps=63:=by kernel_rfl
theorem b248:Z5 Tryz.prog 248=true:=by kernel_rfl
theorem Zq7:YC Tryz.prog c248 ((Tryz.f248.body).getD .skip)=true:=by kernel_rfl
theorem Zvh:Y2 Tryz.prog r248 Tryz.f248.results.toList=true:=by kernel_rfl
theorem m248 {n0:Nat} {hp0:List (Nat × HB)} {args:List SV} {Zx:Ot->Prop} (hh:hpb n0 hp0) (hx:∀ o,Zx o->KX o.res/\KXP o.hp) (h:sx Tryz.prog Y0 n0 c248 ⟨YF 0 args,hp0,n0,63,[]⟩ (Wa r248 λo=>∃ o',Zx o'/\Wk n0 o o')) (hA:Nat.ble args.length 63=true:=by rfl):CtM Tryz.prog 248 hp0 n0 args Zx:=Zv Tryz.func248 rfl b248 Zq7 Zvh n248 (Nat.le_of_ble_eq_true hA) hh hx h
def c267:SC:=(sr1 [m1 10 1,o1 11 (Jc .add 10 1),m1 8 11] (.block 0 (.loop (.seq (sr1 [m1 12 8,m1 13 2,o1 14 (Jb .lss 12 13)] (Ji 14 .skip (.exit 0))) (.seq (.block 1 (sr1 [m1 17 8,m1 9 17] (.block 2 (.loop (.seq (.seq (.regd (Jr 17) [Jm 18 9,Jm 19
 1,Jp 20 (Jb .gtr 18 19) [0,1],Jp 21 (.mv (.t 20)) [2],Jq 22 21 true (.mv (.t 3)) [3],Jq 23 21 true (.mv (.t 0)) [3],Jq 24 21 true (.mv (.t 9)) [3],Jq 25 21 true (Jx 23 24 4) [3,5,6],Jq 26 21 true (lt 25 4) [3,7],Jq 27 21 true (.mv (.t 0)) [3],Jq 28
 21 true (.mv (.t 9)) [3],Jq 29 21 true (Jc .sub 28 1) [3,10],Jq 30 21 true (Jx 27 29 4) [3,9,11],Jq 31 21 true (lt 30 4) [3,12],Jq 32 21 true (.calv (.t 22) [.t 26,.t 31]) [3,4,8,13],Jq 33 21 true (Jc .lss 32 0) [3,14],Jp 34 (.pick (.t 21) (.t 33)
 Jf) [3,15]] 0 0 []) (Ji 34 .skip (.exit 2))) (.seq (.block 3 (.regd [0,1,5,6,7,8,9,10,11,12,13,14,2,3,4,15,16,17] [Jm 37 0,Jm 38 9,Jm 42 0,Jm 43 9,Jp 44 (Jc .sub 43 1) [6],Jp 45 (Jx 42 44 4) [5,7],Jp 46 (lt 45 4) [8],Jm 47 0,Jm 48 9,Jp 49 (Jx 47 48
 4) [10,11],Jp 50 (lt 49 4) [12],Jp 51 (Jx 37 38 4) [0,1,5,6,7,8,9,13],.hide (.t 51),Jm 39 0,Jm 40 9,Jp 41 (Jc .sub 40 1) [3]] 0 1 [Ju 51 46 4 [0,1,5,6,7,8,9,13,14],⟨some 52,Jx 39 41 4,none,(Jr 16)⟩,Ju 52 50 4 (Jr 17)])) (.reg [m1 35 9,o1 36 (Jc .sub
 35 1),m1 9 36]))))))) (.reg [m1 15 8,o1 16 (Jc .add 15 1),m1 8 16]))))))
def r267:List RV:=[]
theorem n267:Tryz.f267.ntmps=53:=by kernel_rfl
theorem b267:Z5 Tryz.prog 267=true:=by kernel_rfl
theorem ZsP:YC Tryz.prog c267 ((Tryz.f267.body).getD .skip)=true:=by kernel_rfl
theorem Zq5:Y2 Tryz.prog r267 Tryz.f267.results.toList=true:=by kernel_rfl
theorem m267 {n0:Nat} {hp0:List (Nat × HB)} {args:List SV} {Zx:Ot->Prop} (hh:hpb n0 hp0) (hx:∀ o,Zx o->KX o.res/\KXP o.hp) (h:sx Tryz.prog Y0 n0 c267 ⟨YF 0 args,hp0,n0,53,[]⟩ (Wa r267 λo=>∃ o',Zx o'/\Wk n0 o o')) (hA:Nat.ble args.length 53=true:=by rfl):CtM Tryz.prog 267 hp0 n0 args Zx:=Zv Tryz.func267 rfl b267 ZsP Zq5 n267 (Nat.le_of_ble_eq_true hA) hh hx h
def c268:SC:=(.seq (sr1 [m1 25 2,m1 26 1,o1 27 (Jb .sub 25 26),o1 28 (Jc .eql 27 1)] (Ji 28 (sr1 [m1 29 2,m1 10 29] (sr1 [m1 30 3,m1 11 30] (.seq (.block 0 (.loop (.seq (sr1 [m1 31 10,m1 32 11,o1 33 (Jb .lss 31 32)] (Ji 33 .skip (.exit 0))) (.block 1
 (sr1 [m1 34 10,m1 35 11,o1 36 (Jb .add 34 35),o1 37 (.conv .u64 (.t 36)),o1 38 (.raw (Go.Op.binOp Go.BinOp.shr 360 (Go.Operand.tmp 37) (Go.Operand.const (Go.Value.int Go.IntKind.u64 1)) 360) 360),o1 39 (.conv .i64 (.t 38)),m1 12 39] (.seq (.regd (Jr
 11) [Jm 40 4,Jm 41 0,Jm 42 12,Jp 43 (Jx 41 42 4) [1,2],Jp 44 (lt 43 4) [3],Jm 45 0,Jm 46 1,Jp 47 (Jx 45 46 4) [5,6],Jp 48 (lt 47 4) [7],Jp 49 (.calv (.t 40) [.t 44,.t 48]) [0,4,8],Jp 50 (Jc .lss 49 0) [9]] 0 0 []) (Ji 50 (.reg [m1 51 12,o1 52 (Jc
 .add 51 1),m1 10 52]) (.reg [m1 53 12,m1 11 53])))))))) (.seq (sr1 [m1 54 1,m1 13 54] (.block 2 (.loop (.seq (sr1 [m1 55 13,m1 56 10,o1 57 (Jc .sub 56 1),o1 58 (Jb .lss 55 57)] (Ji 58 .skip (.exit 2))) (.seq (.block 3 (.regd
 [0,1,5,6,7,8,9,10,11,12,13,14,2,3,4,15,16,17] [Jm 61 0,Jm 62 13,Jm 66 0,Jm 67 13,Jp 68 (Jc .add 67 1) [6],Jp 69 (Jx 66 68 4) [5,7],Jp 70 (lt 69 4) [8],Jm 71 0,Jm 72 13,Jp 73 (Jx 71 72 4) [10,11],Jp 74 (lt 73 4) [12],Jp 75 (Jx 61 62 4)
 [0,1,5,6,7,8,9,13],.hide (.t 75),Jm 63 0,Jm 64 13,Jp 65 (Jc .add 64 1) [3]] 0 1 [Ju 75 70 4 [0,1,5,6,7,8,9,13,14],⟨some 76,Jx 63 65 4,none,(Jr 16)⟩,Ju 76 74 4 (Jr 17)])) (.reg [m1 59 13,o1 60 (Jc .add 59 1),m1 13 60])))))) .ret)))) .skip)) (.seq (sr1
 [m1 77 3,m1 78 2,o1 79 (Jb .sub 77 78),o1 80 (Jc .eql 79 1)] (Ji 80 (sr1 [m1 81 1,m1 14 81] (sr1 [m1 82 2,m1 15 82] (.seq (.block 4 (.loop (.seq (sr1 [m1 83 14,m1 84 15,o1 85 (Jb .lss 83 84)] (Ji 85 .skip (.exit 4))) (.block 5 (sr1 [m1 86 14,m1 87
 15,o1 88 (Jb .add 86 87),o1 89 (.conv .u64 (.t 88)),o1 90 (.raw (Go.Op.binOp Go.BinOp.shr 360 (Go.Operand.tmp 89) (Go.Operand.const (Go.Value.int Go.IntKind.u64 1)) 360) 360),o1 91 (.conv .i64 (.t 90)),m1 16 91] (.seq (.regd (Jr 12) [Jm 92 4,Jm 93
 0,Jm 94 2,Jp 95 (Jx 93 94 4) [1,2],Jp 96 (lt 95 4) [3],Jm 97 0,Jm 98 16,Jp 99 (Jx 97 98 4) [5,6],Jp 100 (lt 99 4) [7],Jp 101 (.calv (.t 92) [.t 96,.t 100]) [0,4,8],Jp 102 (Jc .lss 101 0) [9],Jp 103 (Jh 102) [10]] 0 0 []) (Ji 103 (.reg [m1 104 16,o1
 105 (Jc .add 104 1),m1 14 105]) (.reg [m1 106 16,m1 15 106])))))))) (.seq (sr1 [m1 107 2,m1 17 107] (.block 6 (.loop (.seq (sr1 [m1 108 17,m1 109 14,o1 110 (Jb .gtr 108 109)] (Ji 110 .skip (.exit 6))) (.seq (.block 7 (.regd
 [0,1,5,6,7,8,9,10,11,12,13,14,2,3,4,15,16,17] [Jm 113 0,Jm 114 17,Jm 118 0,Jm 119 17,Jp 120 (Jc .sub 119 1) [6],Jp 121 (Jx 118 120 4) [5,7],Jp 122 (lt 121 4) [8],Jm 123 0,Jm 124 17,Jp 125 (Jx 123 124 4) [10,11],Jp 126 (lt 125 4) [12],Jp 127 (Jx 113
 114 4) [0,1,5,6,7,8,9,13],.hide (.t 127),Jm 115 0,Jm 116 17,Jp 117 (Jc .sub 116 1) [3]] 0 1 [Ju 127 122 4 [0,1,5,6,7,8,9,13,14],⟨some 128,Jx 115 117 4,none,(Jr 16)⟩,Ju 128 126 4 (Jr 17)])) (.reg [m1 111 17,o1 112 (Jc .sub 111 1),m1 17 112]))))))
 .ret)))) .skip)) (sr1 [m1 129 1,m1 130 3,o1 131 (Jb .add 129 130),o1 132 (.conv .u64 (.t 131)),o1 133 (.raw (Go.Op.binOp Go.BinOp.shr 360 (Go.Operand.tmp 132) (Go.Operand.const (Go.Value.int Go.IntKind.u64 1)) 360) 360),o1 134 (.conv .i64 (.t
 133)),m1 18 134] (sr1 [m1 135 18,m1 136 2,o1 137 (Jb .add 135 136),m1 19 137] (sr1 [Jk 20 0,Jk 21 0] (.seq (sr1 [m1 138 2,m1 139 18,o1 140 (Jb .gtr 138 139)] (Ji 140 (sr1 [m1 141 19,m1 142 3,o1 143 (Jb .sub 141 142),m1 20 143] (.reg [m1 144 18,m1 21
 144])) (sr1 [m1 145 1,m1 20 145] (.reg [m1 146 2,m1 21 146])))) (sr1 [m1 147 19,o1 148 (Jc .sub 147 1),m1 22 148] (.seq (.block 8 (.loop (.seq (sr1 [m1 149 20,m1 150 21,o1 151 (Jb .lss 149 150)] (Ji 151 .skip (.exit 8))) (.block 9 (sr1 [m1 152 20,m1
 153 21,o1 154 (Jb .add 152 153),o1 155 (.conv .u64 (.t 154)),o1 156 (.raw (Go.Op.binOp Go.BinOp.shr 360 (Go.Operand.tmp 155) (Go.Operand.const (Go.Value.int Go.IntKind.u64 1)) 360) 360),o1 157 (.conv .i64 (.t 156)),m1 23 157] (.seq (.regd (Jr 14) [Jm
 158 4,Jm 159 0,Jm 160 22,Jm 161 23,Jp 162 (Jb .sub 160 161) [2,3],Jp 163 (Jx 159 162 4) [1,4],Jp 164 (lt 163 4) [5],Jm 165 0,Jm 166 23,Jp 167 (Jx 165 166 4) [7,8],Jp 168 (lt 167 4) [9],Jp 169 (.calv (.t 158) [.t 164,.t 168]) [0,6,10],Jp 170 (Jc .lss
 169 0) [11],Jp 171 (Jh 170) [12]] 0 0 []) (Ji 171 (.reg [m1 172 23,o1 173 (Jc .add 172 1),m1 20 173]) (.reg [m1 174 23,m1 21 174])))))))) (sr1 [m1 175 19,m1 176 20,o1 177 (Jb .sub 175 176),m1 24 177] (.seq (sr1 [m1 178 20,m1 179 2,o1 180 (Jb .lss 178
 179),m1 181 180,g1 182 181 true (.mv (.t 2)),g1 183 181 true (.mv (.t 24)),g1 184 181 true (Jb .lss 182 183),o1 185 (.pick (.t 181) (.t 184) Jf)] (Ji 185 (.reg [m1 186 0,m1 187 20,m1 188 2,m1 189 24,m1 190 4,o1 191 (.callm 280 [.t 186,.t 187,.t
 188,.t 189,.t 190])]) .skip)) (.seq (sr1 [m1 192 1,m1 193 20,o1 194 (Jb .lss 192 193),m1 195 194,g1 196 195 true (.mv (.t 20)),g1 197 195 true (.mv (.t 18)),g1 198 195 true (Jb .lss 196 197),o1 199 (.pick (.t 195) (.t 198) Jf)] (Ji 199 (.reg [m1 200
 0,m1 201 1,m1 202 20,m1 203 18,m1 204 4,o1 205 (.callm 268 [.t 200,.t 201,.t 202,.t 203,.t 204])]) .skip)) (sr1 [m1 206 18,m1 207 24,o1 208 (Jb .lss 206 207),m1 209 208,g1 210 209 true (.mv (.t 24)),g1 211 209 true (.mv (.t 3)),g1 212 209 true (Jb
 .lss 210 211),o1 213 (.pick (.t 209) (.t 212) Jf)] (Ji 213 (.reg [m1 214 0,m1 215 18,m1 216 24,m1 217 3,m1 218 4,o1 219 (.callm 268 [.t 214,.t 215,.t 216,.t 217,.t 218])]) .skip)))))))))))))
def r268:List RV:=[]
theorem n268:Tryz.f268.ntmps=220:=by kernel_rfl
theorem b268:Z5 Tryz.prog 268=true:=by kernel_rfl
theorem ZuW:YC Tryz.prog c268 ((Tryz.f268.body).getD .skip)=true:=by kernel_rfl
theorem Ztv:Y2 Tryz.prog r268 Tryz.f268.results.toList=true:=by kernel_rfl
theorem m268 {n0:Nat} {hp0:List (Nat × HB)} {args:List SV} {Zx:Ot->Prop} (hh:hpb n0 hp0) (hx:∀ o,Zx o->KX o.res/\KXP o.hp) (h:sx Tryz.prog Y0 n0 c268 ⟨YF 0 args,hp0,n0,220,[]⟩ (Wa r268 λo=>∃ o',Zx o'/\Wk n0 o o')) (hA:Nat.ble args.length 220=true:=by rfl):CtM Tryz.prog 268 hp0 n0 args Zx:=Zv Tryz.func268 rfl b268 ZuW Ztv n268 (Nat.le_of_ble_eq_true hA) hh hx h
def c280:SC:=(sr1 [m1 12 2,m1 13 1,o1 14 (Jb .sub 12 13),m1 10 14] (sr1 [m1 15 3,m1 16 2,o1 17 (Jb .sub 15 16),m1 11 17] (.seq (.block 0 (.loop (.seq (sr1 [m1 18 10,m1 19 11,o1 20 (Jb .neq 18 19)] (Ji 20 .skip (.exit 0))) (.block 1 (sr1 [m1 21 10,m1
 22 11,o1 23 (Jb .gtr 21 22)] (Ji 23 (sr1 [m1 24 0,m1 25 2,m1 26 10,o1 27 (Jb .sub 25 26),m1 28 2,m1 29 11,m1 30 4,o1 31 (.callm 293 [.t 24,.t 27,.t 28,.t 29,.t 30])] (.reg [m1 32 10,m1 33 11,o1 34 (Jb .sub 32 33),m1 10 34])) (sr1 [m1 35 0,m1 36 2,m1
 37 10,o1 38 (Jb .sub 36 37),m1 39 2,m1 40 11,o1 41 (Jb .add 39 40),m1 42 10,o1 43 (Jb .sub 41 42),m1 44 10,m1 45 4,o1 46 (.callm 293 [.t 35,.t 38,.t 43,.t 44,.t 45])] (.reg [m1 47 11,m1 48 10,o1 49 (Jb .sub 47 48),m1 11 49])))))))) (.reg [m1 50 0,m1
 51 2,m1 52 10,o1 53 (Jb .sub 51 52),m1 54 2,m1 55 10,m1 56 4,o1 57 (.callm 293 [.t 50,.t 53,.t 54,.t 55,.t 56])]))))
def r280:List RV:=[]
theorem n280:Tryz.f280.ntmps=58:=by kernel_rfl
theorem b280:Z5 Tryz.prog 280=true:=by kernel_rfl
theorem Zuy:YC Tryz.prog c280 ((Tryz.f280.body).getD .skip)=true:=by kernel_rfl
theorem ZtM:Y2 Tryz.prog r280 Tryz.f280.results.toList=true:=by kernel_rfl
theorem m280 {n0:Nat} {hp0:List (Nat × HB)} {args:List SV} {Zx:Ot->Prop} (hh:hpb n0 hp0) (hx:∀ o,Zx o->KX o.res/\KXP o.hp) (h:sx Tryz.prog Y0 n0 c280 ⟨YF 0 args,hp0,n0,58,[]⟩ (Wa r280 λo=>∃ o',Zx o'/\Wk n0 o o')) (hA:Nat.ble args.length 58=true:=by rfl):CtM Tryz.prog 280 hp0 n0 args Zx:=Zv Tryz.func280 rfl b280 Zuy ZtM n280 (Nat.le_of_ble_eq_true hA) hh hx h
def c293:SC:=(sr1 [Jk 10 0] (.block 0 (.loop (.seq (sr1 [m1 11 10,m1 12 3,o1 13 (Jb .lss 11 12)] (Ji 13 .skip (.exit 0))) (.seq (.block 1 (.regd [0,1,2,3,8,9,10,11,12,13,14,15,16,17,18,19,20,4,5,6,7,21,22,23] [Jm 16 0,Jm 17 1,Jm 18 10,Jp 19 (Jb .add
 17 18) [1,2],Jm 24 0,Jm 25 2,Jm 26 10,Jp 27 (Jb .add 25 26) [9,10],Jp 28 (Jx 24 27 4) [8,11],Jp 29 (lt 28 4) [12],Jm 30 0,Jm 31 1,Jm 32 10,Jp 33 (Jb .add 31 32) [15,16],Jp 34 (Jx 30 33 4) [14,17],Jp 35 (lt 34 4) [18],Jp 36 (Jx 16 19 4)
 [0,1,2,3,8,9,10,11,12,13,19],.hide (.t 36),Jm 20 0,Jm 21 2,Jm 22 10,Jp 23 (Jb .add 21 22) [5,6]] 0 1 [Ju 36 29 4 [0,1,2,3,8,9,10,11,12,13,19,20],⟨some 37,Jx 20 23 4,none,(Jr 22)⟩,Ju 37 35 4 (Jr 23)])) (.reg [m1 14 10,o1 15 (Jc .add 14 1),m1 10
 15]))))))
def r293:List RV:=[]
theorem n293:Tryz.f293.ntmps=38:=by kernel_rfl
theorem b293:Z5 Tryz.prog 293=true:=by kernel_rfl
theorem Zs8:YC Tryz.prog c293 ((Tryz.f293.body).getD .skip)=true:=by kernel_rfl
theorem Zs2:Y2 Tryz.prog r293 Tryz.f293.results.toList=true:=by kernel_rfl
theorem m293 {n0:Nat} {hp0:List (Nat × HB)} {args:List SV} {Zx:Ot->Prop} (hh:hpb n0 hp0) (hx:∀ o,Zx o->KX o.res/\KXP o.hp) (h:sx Tryz.prog Y0 n0 c293 ⟨YF 0 args,hp0,n0,38,[]⟩ (Wa r293 λo=>∃ o',Zx o'/\Wk n0 o o')) (hA:Nat.ble args.length 38=true:=by rfl):CtM Tryz.prog 293 hp0 n0 args Zx:=Zv Tryz.func293 rfl b293 Zs8 Zs2 n293 (Nat.le_of_ble_eq_true hA) hh hx h
def c211:SC:=(sr1 [Jk 4 0] (sr1 [m1 7 0,o1 8 (J1 249 7),m1 5 8] (sr1 [m1 9 1,o1 10 (J1 249 9),m1 6 10] (.seq (sr1 [m1 11 5] (Ji 11 (.seq (sr1 [m1 12 6] (Ji 12 (sr1 [Jk 4 0] .ret) .skip)) (sr1 [o1 4 (.mv (cn (-1)))] .ret)) .skip)) (.seq (sr1 [m1 13 6]
 (Ji 13 (sr1 [Jk 4 1] .ret) .skip)) (.seq (sr1 [m1 14 0,m1 15 1,o1 16 (Jb .lss 14 15)] (Ji 16 (sr1 [o1 4 (.mv (cn (-1)))] .ret) .skip)) (.seq (sr1 [m1 17 0,m1 18 1,o1 19 (Jb .gtr 17 18)] (Ji 19 (sr1 [Jk 4 1] .ret) .skip)) (sr1 [Jk 4 0] .ret))))))))
def r211:List RV:=[.tmp 4]
theorem t211:Qt1 Tryz.prog 211 c211 r211 20:=ZU Tryz.func211
def c249:SC:=(sr1 [Jw 2 Jf] (sr1 [m1 3 0,m1 4 0,o1 5 (Jb .neq 3 4),m1 2 5] .ret))
def r249:List RV:=[.tmp 2]
theorem t249:Qt1 Tryz.prog 249 c249 r249 6:=ZU Tryz.func249
def c250:SC:=(sr1 [o1 4 (.mv (.c (.slice none 0 0)))] (.seq (sr1 [m1 9 1,o1 10 (Jc .lss 9 0)] (Ji 10 (.reg [o1 11 (.raw (Go.Op.makeInterface 9 (Go.Operand.const (Go.Value.string { data:=#[99,97,110,110,111,116,32,98,101,32,110,101,103,97,116,105,118,101] })))
 20),⟨none,.raw (Go.Op.panic (Go.Operand.tmp 11)) 0,none,[]⟩]) .skip)) (sr1 [m1 13 0,o1 14 (Jl 13),o1 15 (.conv .u64 (.t 14)),m1 16 1,o1 17 (.conv .u64 (.t 16)),o1 18 (J2 269 15 17),m1 12 18,o1 19 (Je 12 0),o1 20 (Je 12 1),m1 5 19,m1 6 20] (.seq (sr1
 [m1 21 5,o1 22 (.bin .gtr (.t 21) (.c (.int .u64 0))),m1 23 22,g1 24 23 false (.mv (.t 6)),g1 25 23 false (.bin .gtr (.t 24) (.c (.int .u64 9223372036854775807))),o1 26 (.pick (.t 23) Jt (.t 25))] (Ji 26 (.reg [o1 27 (.raw (Go.Op.makeInterface 9
 (Go.Operand.const (Go.Value.string { data:=#[116,104,101,32,114,101,115,117,108,116,32,111,102,32,40,108,101,110,40,120,41,32,42,32,99,111,117,110,116,41,32,111,118,101,114,102,108,111,119,115] }))) 20),⟨none,.raw (Go.Op.panic (Go.Operand.tmp 27))
 0,none,[]⟩]) .skip)) (sr1 [m1 28 6,o1 29 (.conv .i64 (.t 28)),o1 30 (.mks 1 8 [.int .i64 0] 3 (.t 29)),m1 7 30] (sr1 [m1 31 7,m1 32 0,o1 33 (.cpy 1 (.t 31) (.t 32)),m1 8 33] (.seq (.block 0 (.loop (.seq (sr1 [m1 34 8,m1 35 7,o1 36 (Jl 35),o1 37 (Jb
 .lss 34 36)] (Ji 37 .skip (.exit 0))) (.block 1 (.regd [1,2,3,4,5,6,0,7,8,9] [Jm 39 7,Jm 40 8,Jp 41 (.sub 1 (.t 39) (some (.t 40)) none) [1,2],Jm 42 7,Jm 43 8,Jp 44 (.sub 1 (.t 42) none (some (.t 43))) [4,5],.hide (.t 41),Jm 38 8] 0 1 [⟨some 45,.cpy
 1 (.t 41) (.t 44),none,[3,6]⟩,⟨some 46,Jb .add 38 45,none,[0,7]⟩,⟨some 8,.mv (.t 46),none,(Jr 9)⟩]))))) (sr1 [m1 47 7,m1 4 47] .ret))))))))
def r250:List RV:=[.tmp 4]
theorem n250:Tryz.f250.ntmps=48:=by kernel_rfl
theorem b250:Z5 Tryz.prog 250=true:=by kernel_rfl
theorem Zr4:YC Tryz.prog c250 ((Tryz.f250.body).getD .skip)=true:=by kernel_rfl
theorem ZuC:Y2 Tryz.prog r250 Tryz.f250.results.toList=true:=by kernel_rfl
theorem m250 {n0:Nat} {hp0:List (Nat × HB)} {args:List SV} {Zx:Ot->Prop} (hh:hpb n0 hp0) (hx:∀ o,Zx o->KX o.res/\KXP o.hp) (h:sx Tryz.prog Y0 n0 c250 ⟨YF 0 args,hp0,n0,48,[]⟩ (Wa r250 λo=>∃ o',Zx o'/\Wk n0 o o')) (hA:Nat.ble args.length 48=true:=by rfl):CtM Tryz.prog 250 hp0 n0 args Zx:=Zv Tryz.func250 rfl b250 Zr4 ZuC n250 (Nat.le_of_ble_eq_true hA) hh hx h
def c269:SC:=(sr1 [o1 4 (.mv (.c (.int .u64 0))),o1 5 (.mv (.c (.int .u64 0)))] (.seq (.cond Jf (sr1 [m1 11 0,o1 12 (.conv .u32 (.t 11)),m1 13 1,o1 14 (.conv .u32 (.t 13)),o1 15 (J2 281 12 14),m1 10 15,o1 16 (Je 10 0),o1 17 (Je 10 1),m1 6 16,m1 7 17]
 (sr1 [m1 18 6,o1 19 (.conv .u64 (.t 18)),m1 20 7,o1 21 (.conv .u64 (.t 20)),m1 4 19,m1 5 21] .ret)) .skip) (sr1 [m1 23 0,m1 24 1,o1 25 (J2 282 23 24),m1 22 25,o1 26 (Je 22 0),o1 27 (Je 22 1),m1 8 26,m1 9 27] (sr1 [m1 28 8,m1 29 9,m1 4 28,m1 5 29]
 .ret))))
def r269:List RV:=[.tmp 4,.tmp 5]
theorem t269:Qt1 Tryz.prog 269 c269 r269 30:=ZU Tryz.func269
def c282:SC:=(sr1 [o1 4 (.mv (.c (.int .u64 0))),o1 5 (.mv (.c (.int .u64 0)))] (sr1 [m1 14 0,o1 15 (.raw (Go.Op.binOp Go.BinOp.and 371 (Go.Operand.tmp 14) (Go.Operand.const (Go.Value.int Go.IntKind.u64 4294967295)) 371) 371),m1 6 15] (sr1 [m1 16 0,o1
 17 (.raw (Go.Op.binOp Go.BinOp.shr 371 (Go.Operand.tmp 16) (Go.Operand.const (Go.Value.int Go.IntKind.u64 32)) 360) 371),m1 7 17] (sr1 [m1 18 1,o1 19 (.raw (Go.Op.binOp Go.BinOp.and 371 (Go.Operand.tmp 18) (Go.Operand.const (Go.Value.int
 Go.IntKind.u64 4294967295)) 371) 371),m1 8 19] (sr1 [m1 20 1,o1 21 (.raw (Go.Op.binOp Go.BinOp.shr 371 (Go.Operand.tmp 20) (Go.Operand.const (Go.Value.int Go.IntKind.u64 32)) 360) 371),m1 9 21] (sr1 [m1 22 6,m1 23 8,o1 24 (Jb .mul 22 23),m1 10 24]
 (sr1 [m1 25 7,m1 26 8,o1 27 (Jb .mul 25 26),m1 28 10,o1 29 (.raw (Go.Op.binOp Go.BinOp.shr 371 (Go.Operand.tmp 28) (Go.Operand.const (Go.Value.int Go.IntKind.u64 32)) 360) 371),o1 30 (Jb .add 27 29),m1 11 30] (sr1 [m1 31 11,o1 32 (.raw (Go.Op.binOp
 Go.BinOp.and 371 (Go.Operand.tmp 31) (Go.Operand.const (Go.Value.int Go.IntKind.u64 4294967295)) 371) 371),m1 12 32] (sr1 [m1 33 11,o1 34 (.raw (Go.Op.binOp Go.BinOp.shr 371 (Go.Operand.tmp 33) (Go.Operand.const (Go.Value.int Go.IntKind.u64 32)) 360)
 371),m1 13 34] (sr1 [m1 35 12,m1 36 6,m1 37 9,o1 38 (Jb .mul 36 37),o1 39 (Jb .add 35 38),m1 12 39] (sr1 [m1 40 7,m1 41 9,o1 42 (Jb .mul 40 41),m1 43 13,o1 44 (Jb .add 42 43),m1 45 12,o1 46 (.raw (Go.Op.binOp Go.BinOp.shr 371 (Go.Operand.tmp 45)
 (Go.Operand.const (Go.Value.int Go.IntKind.u64 32)) 360) 371),o1 47 (Jb .add 44 46),m1 4 47] (sr1 [m1 48 0,m1 49 1,o1 50 (Jb .mul 48 49),m1 5 50] .ret))))))))))))
def r282:List RV:=[.tmp 4,.tmp 5]
theorem t282:Qt1 Tryz.prog 282 c282 r282 51:=ZU Tryz.func282
end Go.Proofs.YtkpkgafhfakpdaaGreatDoor
namespace Go.Azalai
section
variable {α : Type} (key:α->Int)
def ky (l:List α) (i:Nat):Int:=match l[i]? with | some x=>key x | none=>0
def swp (l:List α) (i j:Nat):List α:=match l[i]?,l[j]? with | some x,some y=>(l.set i y).set j x | _,_=>l
theorem Zbb {l:List α} {i j:Nat} (hi:i < l.length) (hj:j < l.length):swp l i j=(l.set i l[j]).set j l[i]:=by
 unfold swp;rw [List.getElem?_eq_getElem hi,List.getElem?_eq_getElem hj]
theorem ZtZ (l:List α) (i j:Nat):(swp l i j).length=l.length:=by unfold swp;split<;>simp
theorem ZdU {l:List α} {i j:Nat} (hi:i < l.length) (hj:j < l.length) (p:Nat):(swp l i j)[p]? = if p=i then l[j]? else if p=j then l[i]? else l[p]?:=by
 rw [Zbb hi hj];by_cases h1:p=j
 . subst h1;by_cases h2:p=i
   . subst h2;simp [hi]
   . simp [h2,hi,hj]
 . rw [List.getElem?_set_ne (Ne.symm h1)];by_cases h2:p=i
   . subst h2;simp [hi,hj]
   . rw [List.getElem?_set_ne (Ne.symm h2),if_neg h2,if_neg h1]
theorem Zns {l:List α} {i j:Nat} (hi:i < l.length) (hj:j < l.length):(swp l i j).Perm l:=by
 rw [Zbb hi hj];exact List.set_set_perm hi hj
theorem Zez {l:List α} {i j:Nat} (hi:i < l.length) (hj:j < l.length) (p:Nat):ky key (swp l i j) p=if p=i then ky key l j else if p=j then ky key l i else ky key l p:=by
 unfold ky;rw [ZdU hi hj];by_cases h1:p=i
 . simp only [if_pos h1]
 . by_cases h2:p=j
   . simp only [if_neg h1,if_pos h2]
   . simp only [if_neg h1,if_neg h2]
structure PIn (a b:Nat) (l l':List α):Prop where
 len:l'.length=l.length
 perm:l'.Perm l
 out:∀ i,i < a\/b<=i->l'[i]? = l[i]?
 all:∀ p:α->Prop,(∀ i x,a<=i->i < b->l[i]? = some x->p x)->∀ i x,a<=i->i < b->l'[i]? = some x->p x
theorem PIn.refl (a b:Nat) (l:List α):PIn a b l l:=⟨rfl,.refl _,λ_ _=>rfl,λ_ h=>h⟩
theorem PIn.trans {a b:Nat} {l l' l'':List α} (h:PIn a b l l') (h':PIn a b l' l''):PIn a b l l'' :=
 ⟨h'.len.trans h.len,h'.perm.trans h.perm,λi hi=>(h'.out i hi).trans (h.out i hi),λp hp=>h'.all p (h.all p hp)⟩
theorem PIn.mono {a b a' b':Nat} {l l':List α} (h:PIn a b l l') (ha:a'<=a) (hb:b<=b'):PIn a' b' l l':=by
 refine ⟨h.len,h.perm,λi hi=>h.out i (by omega),λp hp i x h1 h2 hx=>?_⟩;by_cases hi:a<=i/\i < b
 . exact h.all p (λi x q1 q2=>hp i x (by omega) (by omega)) i x hi.1 hi.2 hx
 . rw [h.out i (by omega)] at hx;exact hp i x h1 h2 hx
theorem PIn.swap {a b i j:Nat} {l:List α} (hi:a<=i) (hi':i < b) (hj:a<=j) (hj':j < b) (hb:b<=l.length):PIn a b l (swp l i j):=by
 have h1:i < l.length:=by omega
 have h2:j < l.length:=by omega
 refine ⟨ZtZ _ _ _,Zns h1 h2,λp hp=>?_,λq hq p x g1 g2 hx=>?_⟩
 . rw [ZdU h1 h2,if_neg (by omega),if_neg (by omega)]
 . rw [ZdU h1 h2] at hx;split at hx
   . exact hq j x hj hj' hx
   . split at hx
     . exact hq i x hi hi' hx
     . exact hq p x g1 g2 hx
theorem PIn.ky {a b:Nat} {l l':List α} (h:PIn a b l l') {i:Nat} (hi:i < a\/b<=i):ky key l' i=ky key l i:=by unfold Go.Azalai.ky;rw [h.out i hi]
theorem PIn.kall {a b:Nat} {l l':List α} (h:PIn a b l l') (hb:b<=l.length) (p:Int->Prop) (hp:∀ i,a<=i->i < b->p (Go.Azalai.ky key l i)):∀ i,a<=i->i < b->p (Go.Azalai.ky key l' i):=λi h1 h2=>by
 have hl:i < l'.length:=by rw [h.len];omega
 have:=h.all (λx=>p (key x)) (λi x q1 q2 hx=>by have:=hp i q1 q2;unfold Go.Azalai.ky at this;rw [hx] at this;exact this) i l'[i] h1 h2 (List.getElem?_eq_getElem hl);unfold Go.Azalai.ky;rw [List.getElem?_eq_getElem hl];exact this
def Srt (a b:Nat) (l:List α):Prop:=∀ i j,a<=i->i < j->j < b->ky key l i<=ky key l j
theorem Srt.le {a b:Nat} {l:List α} (h:Srt key a b l) {i j:Nat} (h1:a<=i) (h2:i<=j) (h3:j < b):ky key l i<=ky key l j:=by
 rcases Nat.lt_or_ge i j with q | q
 . exact h i j h1 q h3
 . rw [show i=j from by omega];exact Int.le_refl _
theorem Srt.join {a c b:Nat} {l:List α} (h1:Srt key a c l) (h2:Srt key c b l) (h:∀ i j,a<=i->i < c->c<=j->j < b->ky key l i<=ky key l j):Srt key a b l:=λi j g1 g2 g3=>by
 by_cases hj:j < c
 . exact h1 i j g1 g2 hj
 . by_cases hi:i < c
   . exact h i j g1 hi (by omega) g3
   . exact h2 i j (by omega) g2 g3
structure Ins1 (a i j:Nat) (l:List α):Prop where
 up:∀ p q,a<=p->p < q->q<=i->p≠j->q≠j->ky key l p<=ky key l q
 lo:∀ q,j < q->q<=i->ky key l j<=ky key l q
theorem ZiF {a i:Nat} {l:List α} (h:Srt key a i l):Ins1 key a i i l:=⟨λp q h1 h2 h3 h4 h5=>h p q h1 h2 (by omega),λq h1 h2=>by omega⟩
theorem ZkS {a i j:Nat} {l:List α} (h:Ins1 key a i j l) (hj:a < j) (hji:j<=i) (hl:i < l.length) (hk:ky key l j < ky key l (j - 1)):Ins1 key a i (j - 1) (swp l j (j - 1)):=by
 have e:=Zez key (l:=l) (i:=j) (j:=j - 1) (by omega) (by omega);refine ⟨λp q h1 h2 h3 h4 h5=>?_,λq h1 h2=>?_⟩
 . rw [e,e,if_neg (c:=p=j - 1) (by omega),if_neg (c:=q=j - 1) (by omega)];by_cases hp:p=j
   . subst hp;rw [if_pos rfl,if_neg (by omega)];exact h.up _ _ (by omega) (by omega) h3 (by omega) (by omega)
   . rw [if_neg hp];by_cases hq:q=j
     . subst hq;rw [if_pos rfl];exact h.up _ _ h1 (by omega) (by omega) (by omega) (by omega)
     . rw [if_neg hq];exact h.up _ _ h1 h2 h3 hp hq
 . rw [e,e,if_neg (c:=j - 1=j) (by omega),if_pos rfl];by_cases hq:q=j
   . subst hq;rw [if_pos rfl];omega
   . rw [if_neg hq,if_neg (by omega)];exact h.lo q (by omega) h2
theorem ZiC {a i j:Nat} {l:List α} (h:Ins1 key a i j l) (hji:j<=i) (hj:j<=a\/ky key l (j - 1)<=ky key l j):Srt key a (i+1) l:=λp q h1 h2 h3=>by
 by_cases hp:p=j
 . subst hp;exact h.lo q h2 (by omega)
 . by_cases hq:q=j
   . subst hq;rcases hj with hj | hj
     . omega
     . by_cases hp1:p=q - 1
       . rw [hp1];exact hj
       . have:=h.up p (q - 1) h1 (by omega) (by omega) hp (by omega);omega
   . exact h.up p q h1 h2 (by omega) hp hq
end
def swR (a b n:Nat) (K:Nat->Int):Nat->Int:=λp=>if a<=p/\p < a+n then K (p+b - a) else if b<=p/\p < b+n then K (p+a - b) else K p
def Za0 (a m b:Nat) (K:Nat->Int):Nat->Int:=λp=>if a<=p/\p < a+(b - m) then K (p+(m - a)) else if a+(b - m)<=p/\p < b then K (p - (b - m)) else K p
theorem swR_0 (a b:Nat) (K:Nat->Int) (p:Nat):swR a b 0 K p=K p:=by
 unfold swR;rw [if_neg (by omega),if_neg (by omega)]
theorem ZkJ {a b n:Nat} {K:Nat->Int} (hab:a+n < b) (p:Nat):swR a b (n+1) K p=if p=a+n then swR a b n K (b+n) else if p=b+n then swR a b n K (a+n) else swR a b n K p:=by
 unfold swR;by_cases h1:p=a+n
 . subst h1;rw [if_pos (by omega),if_pos rfl,if_neg (by omega),if_neg (by omega)];congr 1;omega
 . rw [if_neg h1];by_cases h2:p=b+n
   . subst h2;rw [if_neg (by omega),if_pos (by omega),if_pos rfl,if_neg (by omega),if_neg (by omega)];congr 1;omega
   . rw [if_neg h2];by_cases h3:a<=p/\p < a+n
     . rw [if_pos (by omega),if_pos h3]
     . rw [if_neg (by omega),if_neg h3];by_cases h4:b<=p/\p < b+n
       . rw [if_pos (by omega),if_pos h4]
       . rw [if_neg (by omega),if_neg h4]
structure RotI (m i j:Nat) (K T:Nat->Int):Prop where
 out:∀ p,p < m - i\/m+j<=p->K p=T p
 x:∀ p,m - i<=p->p < m - i+j->T p=K (p+i)
 y:∀ p,m - i+j<=p->p < m+j->T p=K (p - j)
theorem ZjM {a m b:Nat} {K:Nat->Int} (h1:a<=m) (h2:m<=b):RotI m (m - a) (b - m) K (Za0 a m b K):=by
 have e:m - (m - a)=a:=by omega
 refine ⟨λp hp=>?_,λp q1 q2=>?_,λp q1 q2=>?_⟩<;>unfold Za0<;>rw [e] at *
 . rw [if_neg (by omega),if_neg (by omega)]
 . rw [if_pos (by omega)]
 . rw [if_neg (by omega),if_pos (by omega)]
theorem Zxs {m i j:Nat} {K T:Nat->Int} (h:RotI m i j K T) (hi:i<=m) (hj:0 < j) (hij:j < i):RotI m (i - j) j (swR (m - i) m j K) T:=by
 refine ⟨λp hp=>?_,λp q1 q2=>?_,λp q1 q2=>?_⟩<;>unfold swR
 . by_cases h1:m - i<=p/\p < m - i+j
   . rw [if_pos h1,h.x p h1.1 h1.2];congr 1;omega
   . rw [if_neg h1,if_neg (by omega)];exact h.out p (by omega)
 . rw [if_neg (by omega),if_pos (by omega),h.y p (by omega) (by omega)];congr 1;omega
 . rw [if_neg (by omega),if_neg (by omega),h.y p (by omega) (by omega)]
theorem ZwO {m i j:Nat} {K T:Nat->Int} (h:RotI m i j K T) (hi:i<=m) (hi0:0 < i) (hij:i < j):RotI m i (j - i) (swR (m - i) (m+j - i) i K) T:=by
 refine ⟨λp hp=>?_,λp q1 q2=>?_,λp q1 q2=>?_⟩<;>unfold swR
 . by_cases h1:m+j - i<=p/\p < m+j
   . rw [if_neg (by omega),if_pos (by omega),h.y p (by omega) (by omega)];congr 1;omega
   . rw [if_neg (by omega),if_neg (by omega)];exact h.out p (by omega)
 . rw [if_neg (by omega),if_neg (by omega)];exact h.x p (by omega) (by omega)
 . rw [if_pos (by omega),h.x p (by omega) (by omega)];congr 1;omega
theorem Zya {m i:Nat} {K T:Nat->Int} (h:RotI m i i K T) (hi:i<=m) (p:Nat):swR (m - i) m i K p=T p:=by
 unfold swR;by_cases h1:m - i<=p/\p < m - i+i
 . rw [if_pos h1,h.x p h1.1 h1.2];congr 1;omega
 . by_cases h2:m<=p/\p < m+i
   . rw [if_neg h1,if_pos h2,h.y p (by omega) (by omega)];congr 1;omega
   . rw [if_neg h1,if_neg h2];exact h.out p (by omega)
def Zgp (a b:Nat) (K:Nat->Int):Prop:=∀ i j,a<=i->i < j->j < b->K i<=K j
theorem Zgp.le {a b:Nat} {K:Nat->Int} (h:Zgp a b K) {i j:Nat} (h1:a<=i) (h2:i<=j) (h3:j < b):K i<=K j:=by
 rcases Nat.lt_or_ge i j with q | q
 . exact h i j h1 q h3
 . rw [show i=j from by omega];exact Int.le_refl _
structure Cut (a m b n s:Nat) (K:Nat->Int):Prop where
 s0:a<=s
 s1:s<=m
 e0:m+s<=n
 e1:n<=b+s
 mid:2 * (n - m)<=a+b/\a+b<=2 * (n - m)+1
 lo:a < s->n < b+s->K (s - 1)<=K (n - s)
 hi:s < m->m+s < n->K (n - s - 1)<=K s
theorem ZyC {a m b n s:Nat} {K:Nat->Int} (h:Cut a m b n s K) (h1:Zgp a m K) (h2:Zgp m b K) :
 Zgp a s (Za0 s m (n - s) K)/\Zgp s (n - m) (Za0 s m (n - s) K)/\Zgp (n - m) (n - s) (Za0 s m (n - s) K)/\Zgp (n - s) b (Za0 s m (n - s) K) /\
  ∀ i j,a<=i->i < n - m->n - m<=j->j < b->Za0 s m (n - s) K i<=Za0 s m (n - s) K j:=by
 obtain ⟨q1,q2,q3,q4,q5,q6,q7⟩:=h;have e:s+(n - s - m)=n - m:=by omega
 have v1:∀ p,p < s->Za0 s m (n - s) K p=K p:=λp hp=>by unfold Za0;rw [if_neg (by omega),if_neg (by omega)]
 have v2:∀ p,s<=p->p < n - m->Za0 s m (n - s) K p=K (p+(m - s)):=λp g1 g2=>by unfold Za0;rw [if_pos (by omega)]
 have v3:∀ p,n - m<=p->p < n - s->Za0 s m (n - s) K p=K (p - (n - s - m)):=λp g1 g2=>by unfold Za0;rw [if_neg (by omega),if_pos (by omega)]
 have v4:∀ p,n - s<=p->Za0 s m (n - s) K p=K p:=λp g1=>by unfold Za0;rw [if_neg (by omega),if_neg (by omega)]
 refine ⟨λi j g1 g2 g3=>?_,λi j g1 g2 g3=>?_,λi j g1 g2 g3=>?_,λi j g1 g2 g3=>?_,λi j g1 g2 g3 g4=>?_⟩
 . rw [v1 i (by omega),v1 j (by omega)];exact h1 i j g1 g2 (by omega)
 . rw [v2 i (by omega) (by omega),v2 j (by omega) (by omega)];exact h2 _ _ (by omega) (by omega) (by omega)
 . rw [v3 i (by omega) (by omega),v3 j (by omega) (by omega)];exact h1 _ _ (by omega) (by omega) (by omega)
 . rw [v4 i (by omega),v4 j (by omega)];exact h2 _ _ (by omega) g2 g3
 . by_cases hi:i < s
   . rw [v1 i hi];by_cases hj:j < n - s
     . rw [v3 j g3 hj];exact h1.le g1 (by omega) (by omega)
     . rw [v4 j (by omega)];exact Int.le_trans (h1.le g1 (j:=s - 1) (by omega) (by omega)) (Int.le_trans (q6 (by omega) (by omega)) (h2.le (i:=n - s) (by omega) (by omega) g4))
   . rw [v2 i (by omega) g2];by_cases hj:j < n - s
     . rw [v3 j g3 hj];exact Int.le_trans (h2.le (j:=n - s - 1) (by omega) (by omega) (by omega)) (Int.le_trans (q7 (by omega) (by omega)) (h1.le (i:=s) (by omega) (by omega) (by omega)))
     . rw [v4 j (by omega)];exact h2.le (by omega) (by omega) g4
structure Meet where
 a:Int
 b:Int
 day:Int
 close:Bool
deriving DecidableEq
end Go.Azalai
namespace Go.Proofs.YtkpkgafhfakpdaaGreatDoor.Cm
open Go Go.Sx Go.Azalai
def Zg (m:Meet):List SV:=[I m.a,I m.b,I m.day,B m.close]
def YM (v:Nat) (l:List Meet):Ot:=⟨false,.tup [],[(0,.row v 4 (l.map Zg) 274)],1⟩
theorem Zgs (v a b n:Nat) (l:List Meet) (hab:a+n<=b) (hb:b+n<=l.length) (hL:l.length < 4611686018427387904) :
 CtM Tryz.prog 293 [(0,.row v 4 (l.map Zg) 274)] 1 [.mr 0 v,I a,I b,I n,.cl 210 []] (λo=>∃ l',PIn a (b+n) l l'/\(∀ p,ky Meet.day l' p=swR a b n (ky Meet.day l) p)/\o=YM v l'):=by
 refine m293 (by simp [hpb]) (λo ho=>by obtain ⟨l',_,_,rfl⟩:=ho;simp [YM,KX,KXL,KXP,KXH,Za,KFL,KF,Zg]) ?_;dsimp only [c293,r293,go_sem];refine Z1 (λs:Nat × List Meet=>[(10,I s.1)]) (λs=>[(0,.row v 4 (s.2.map Zg) 274)]) (λs=>s.1<=n/\PIn a (b+n) l s.2/\∀ p,ky Meet.day s.2 p=swR a b s.1 (ky Meet.day l) p) (λs=>n - s.1) (0,l) ⟨Nat.zero_le _,.refl _ _ _,λp=>(swR_0 _ _ _ _).symm⟩ ?_ ?_
 . (refine Zi ?_ ?_ ?_ rfl rfl<;>dsimp only [Zg,id,go_sem]<;>simp [Zg,Za])
 rintro ⟨j,l1⟩ ⟨hj,hp,hk⟩;simp only at hj hp hk;have hl1:=hp.len;dsimp only [go_sem];by_cases hlt:j < n
 . refine Zs (by simpa using hlt) ?_
   (repeat first | dsimp only [go_sem] | simp only [nbr])
   simp (disch:=omega) only [Zf,List.length_map];refine Xl (b+j) (by omega) (by omega) ?_
   (repeat first | dsimp only [go_sem] | simp only [nbr])
   refine Vf (by omega) ?_
   (repeat first | dsimp only [Zg,go_sem] | simp only [nbr])
   simp (disch:=omega) only [Zf,List.length_map];refine Xl (a+j) (by omega) (by omega) ?_
   (repeat first | dsimp only [go_sem] | simp only [nbr])
   refine Vf (by omega) ?_
   (repeat first | dsimp only [Zg,go_sem] | simp only [nbr])
   refine Xl (a+j) (by omega) (by simp;omega) ?_
   (repeat first | dsimp only [go_sem] | simp only [nbr])
   refine Zcf l1[b+j] (by omega) (by simp [Zg]) (by simp [Zg,Zm]) ?_
   (repeat first | dsimp only [go_sem] | simp only [nbr])
   refine Xl (b+j) (Zf (by omega) (by omega)) (by simp;omega) ?_
   (repeat first | dsimp only [go_sem] | simp only [nbr])
   refine Zcf l1[a+j] (by simp;omega) (by simp [Zg]) (by simp [Zg,Zm]) ?_;rw [<- Zbb (l:=l1) (i:=a+j) (j:=b+j) (by omega) (by omega)]
   (repeat first | dsimp only [go_sem] | simp only [nbr])
   rw [Zf (n:=(j:Int)+1) (by omega) (by omega)];refine ⟨(j+1,swp l1 (a+j) (b+j)),⟨hlt,hp.trans (.swap (by omega) (by omega) (by omega) (by omega) (by omega)),λp=>?_⟩,by simp only;omega,?_⟩
   . rw [Zez Meet.day (by omega) (by omega),ZkJ (by omega),hk,hk,hk]
   (refine Zi ?_ ?_ ?_ rfl rfl<;>dsimp only [Zg,id,go_sem]<;>simp [Zg,Za])
 refine Zp (by simp;omega) ?_;dsimp only [go_sem];refine ⟨_,⟨l1,hp,λp=>by rw [hk p,show j=n from by omega],rfl⟩,?_⟩;simp only [YM];(refine Zq ?_ ?_ ?_ rfl<;>dsimp only [Zg,id,go_sem]<;>simp [Zg,Za])
theorem Zqy (v a m b:Nat) (l:List Meet) (ham:a < m) (hmb:m < b) (hb:b<=l.length) (hL:l.length < 4611686018427387904) :
 CtM Tryz.prog 280 [(0,.row v 4 (l.map Zg) 274)] 1 [.mr 0 v,I a,I m,I b,.cl 210 []] (λo=>∃ l',PIn a b l l'/\(∀ p,ky Meet.day l' p=Za0 a m b (ky Meet.day l) p)/\o=YM v l'):=by
 refine m280 (by simp [hpb]) (λo ho=>by obtain ⟨l',_,_,rfl⟩:=ho;simp [YM,KX,KXL,KXP,KXH,Za,KFL,KF,Zg]) ?_;dsimp only [c280,r280,go_sem];rw [Zf (n:=(m:Int) - (a:Int)) (by omega) (by omega),Zf (n:=(b:Int) - (m:Int)) (by omega) (by omega),show (m:Int) - (a:Int)=((m - a:Nat):Int) from by omega,show (b:Int) - (m:Int)=((b - m:Nat):Int) from by omega];refine Z1 (λs:Nat × Nat × List Meet=>[(10,I s.1),(11,I s.2.1)]) (λs=>[(0,.row v 4 (s.2.2.map Zg) 274)]) (λs=>(0 < s.1/\0 < s.2.1/\a+s.1<=m/\m+s.2.1<=b)/\PIn a b l s.2.2/\RotI m s.1 s.2.1 (ky Meet.day s.2.2) (Za0 a m b (ky Meet.day l))) (λs=>s.1+s.2.1) (m - a,b - m,l) ⟨by simp only;omega,.refl _ _ _,ZjM (by omega) (by omega)⟩ ?_ ?_
 . (refine Zi ?_ ?_ ?_ rfl rfl<;>dsimp only [Zg,id,go_sem]<;>simp [Zg,Za])
 rintro ⟨i,j,l1⟩ ⟨⟨hi0,hj0,hi,hj⟩,hp,hk⟩;simp only at hi0 hj0 hi hj hp hk;have hl1:=hp.len;dsimp only [go_sem];by_cases hij:i=j
 case pos =>
  subst hij;refine Zp (by simp) ?_;dsimp only [go_sem];rw [Zf (n:=(m:Int) - (i:Int)) (by omega) (by omega),show (m:Int) - (i:Int)=((m - i:Nat):Int) from by omega];refine Zr [0] (Zgs v (m - i) m i l1 (by omega) (by omega) (by omega)) rfl rfl rfl ?_ ?_ ?_
  . (repeat first | dsimp only [go_sem] | simp only [nbr])
    simp [mtL,mtB,mtS]
  . (repeat first | dsimp only [go_sem] | simp only [nbr])
    simp [Za,Zg,KFL,KF]
  rintro _ ⟨l2,hp2,hk2,rfl⟩
  (repeat first | dsimp only [YM,go_sem] | simp only [nbr])
  refine ⟨_,⟨l2,hp.trans (hp2.mono (by omega) (by omega)),λp=>by rw [hk2 p];exact Zya hk (by omega) p,rfl⟩,?_⟩;(refine Zq ?_ ?_ ?_ rfl<;>dsimp only [Zg,id,go_sem]<;>simp [Zg,Za])
 refine Zs (by simp;omega) ?_;dsimp only [go_sem];by_cases hgt:j < i
 . refine Zs (by simp;omega) ?_;dsimp only [go_sem];rw [Zf (n:=(m:Int) - (i:Int)) (by omega) (by omega),show (m:Int) - (i:Int)=((m - i:Nat):Int) from by omega];refine Zr [0] (Zgs v (m - i) m j l1 (by omega) (by omega) (by omega)) rfl rfl rfl ?_ ?_ ?_
   . (repeat first | dsimp only [go_sem] | simp only [nbr])
     simp [mtL,mtB,mtS]
   . (repeat first | dsimp only [go_sem] | simp only [nbr])
     simp [Za,Zg,KFL,KF]
   rintro _ ⟨l2,hp2,hk2,rfl⟩
   (repeat first | dsimp only [YM,go_sem] | simp only [nbr])
   rw [Zf (n:=(i:Int) - (j:Int)) (by omega) (by omega),show (i:Int) - (j:Int)=((i - j:Nat):Int) from by omega];refine ⟨(i - j,j,l2),⟨by simp only;omega,hp.trans (hp2.mono (by omega) (by omega)),?_⟩,by simp only;omega,?_⟩
   . have:=Zxs hk (by omega) hj0 hgt
     rwa [<- show ky Meet.day l2=swR (m - i) m j (ky Meet.day l1) from funext hk2] at this
   (refine Zi ?_ ?_ ?_ rfl rfl<;>dsimp only [Zg,id,go_sem]<;>simp [Zg,Za])
 refine Zp (by simp;omega) ?_;dsimp only [go_sem];simp (disch:=omega) only [Zf];rw [show (m:Int) - (i:Int)=((m - i:Nat):Int) from by omega,show (m:Int)+(j:Int) - (i:Int)=((m+j - i:Nat):Int) from by omega];refine Zr [0] (Zgs v (m - i) (m+j - i) i l1 (by omega) (by omega) (by omega)) rfl rfl rfl ?_ ?_ ?_
 . (repeat first | dsimp only [go_sem] | simp only [nbr])
   simp [mtL,mtB,mtS]
 . (repeat first | dsimp only [go_sem] | simp only [nbr])
   simp [Za,Zg,KFL,KF]
 rintro _ ⟨l2,hp2,hk2,rfl⟩
 (repeat first | dsimp only [YM,go_sem] | simp only [nbr])
 rw [Zf (n:=(j:Int) - (i:Int)) (by omega) (by omega),show (j:Int) - (i:Int)=((j - i:Nat):Int) from by omega];refine ⟨(i,j - i,l2),⟨by simp only;omega,hp.trans (hp2.mono (by omega) (by omega)),?_⟩,by simp only;omega,?_⟩
 . have:=ZwO hk (by omega) hi0 (by omega)
   rwa [<- show ky Meet.day l2=swR (m - i) (m+j - i) i (ky Meet.day l1) from funext hk2] at this
 (refine Zi ?_ ?_ ?_ rfl rfl<;>dsimp only [Zg,id,go_sem]<;>simp [Zg,Za])
end Go.Proofs.YtkpkgafhfakpdaaGreatDoor.Cm
namespace Go.Azalai
theorem Xt {α : Type} (key:α->Int) {l:List α} {i:Nat} (h:i < l.length):ky key l i=key l[i]:=by unfold ky;rw [List.getElem?_eq_getElem h]
def Zdh (a b:Int):Int:=if a < b then -1 else if b < a then 1 else 0
end Go.Azalai
namespace Go.Proofs.YtkpkgafhfakpdaaGreatDoor.Cm
open Go Go.Sx Go.Azalai
theorem Zqv (a:Int):Ct Tryz.prog 249 [I a] (B false):=by
 refine t249.1 (by simp) (by simp) ?_;dsimp only [c249,r249,go_sem];simp
theorem ZwL (a b:Int):Ct Tryz.prog 211 [I a,I b] (I (Zdh a b)):=by
 refine t211.1 (by simp) (by simp) ?_;dsimp only [c211,r211,go_sem];refine call (Zqv a) ?_;dsimp only [go_sem];refine call (Zqv b) ?_;dsimp only [go_sem];refine Zp rfl ?_;dsimp only [go_sem];refine Zp rfl ?_;dsimp only [go_sem];by_cases h1:a < b
 . refine Zs (by simpa using h1) ?_;dsimp only [go_sem];simp [Zdh,h1]
 refine Zp (by simpa using h1) ?_;dsimp only [go_sem];by_cases h2:b < a
 . refine Zs (by simpa using h2) ?_;dsimp only [go_sem];simp [Zdh,h1,h2]
 refine Zp (by simpa using h2) ?_;dsimp only [go_sem];simp [Zdh,h1,h2]
theorem V6 (x y:Meet):Ct Tryz.prog 210 [.agg (Zg x),.agg (Zg y)] (I (Zdh x.day y.day)):=by
 refine t210.1 (by simp [Zg]) (by simp) ?_;dsimp only [c210,r210,Zg,go_sem];refine call (ZwL x.day y.day) ?_;dsimp only [go_sem]
theorem Zjn (v a b:Nat) (l:List Meet) (hab:a<=b) (hb:b<=l.length) (hL:l.length < 4611686018427387904) :
 CtM Tryz.prog 267 [(0,.row v 4 (l.map Zg) 274)] 1 [.mr 0 v,I a,I b,.cl 210 []] (λo=>∃ l',PIn a b l l'/\Srt Meet.day a b l'/\o=YM v l'):=by
 refine m267 (by simp [hpb]) (λo ho=>by obtain ⟨l',_,_,rfl⟩:=ho;simp [YM,KX,KXL,KXP,KXH,Za,KFL,KF,Zg]) ?_;dsimp only [c267,r267,go_sem];rw [Zf (n:=(a:Int)+1) (by omega) (by omega)];refine Z1 (λs:Nat × List Meet=>[(8,I (s.1:Nat))]) (λs=>[(0,.row v 4 (s.2.map Zg) 274)]) (λs=>(a < s.1/\s.1<=max b (a+1))/\PIn a b l s.2/\Srt Meet.day a s.1 s.2) (λs=>b - s.1) (a+1,l) ⟨by simp only;omega,.refl _ _ _,λi j h1 h2 h3=>by simp only at h3;omega⟩ ?_ ?_
 . (refine Zi ?_ ?_ ?_ rfl rfl<;>dsimp only [Zg,id,go_sem]<;>simp [Zg,Za])
 rintro ⟨i,l1⟩ ⟨⟨hi0,hi⟩,hp,hs⟩;simp only at hi0 hi hp hs;have hl1:=hp.len;dsimp only [go_sem];by_cases hib:i < b
 case neg =>
  refine Zp (by simp;omega) ?_;dsimp only [go_sem];refine ⟨_,⟨l1,hp,λp q g1 g2 g3=>hs p q g1 g2 (by omega),rfl⟩,?_⟩;simp only [YM];(refine Zq ?_ ?_ ?_ rfl<;>dsimp only [Zg,id,go_sem]<;>simp [Zg,Za])
 refine Zs (by simpa using hib) ?_;dsimp only [go_sem];refine Z1 (λs:Nat × List Meet=>[(9,I (s.1:Nat))]) (λs=>[(0,.row v 4 (s.2.map Zg) 274)]) (λs=>(a<=s.1/\s.1<=i)/\PIn a b l s.2/\Ins1 Meet.day a i s.1 s.2) (λs=>s.1) (i,l1) ⟨by simp only;omega,hp,ZiF Meet.day hs⟩ ?_ ?_
 . (refine Zi ?_ ?_ ?_ rfl rfl<;>dsimp only [Zg,id,go_sem]<;>simp [Zg,Za])
 rintro ⟨j,l2⟩ ⟨⟨hj0,hj⟩,hp2,hs2⟩;simp only at hj0 hj hp2 hs2;have hl2:=hp2.len;dsimp only [go_sem];by_cases hja:a < j
 case neg =>
  rw [show decide ((j:Int) > (a:Int))=false from by simp;omega];repeat (refine gb ?_;(repeat first | dsimp only [go_sem] | simp only [nbr]))
  refine Zqu 0 rfl (λh=>by cases h) ?_
  (repeat first | dsimp only [go_sem] | simp only [nbr])
  refine gb ?_
  (repeat first | dsimp only [go_sem] | simp only [nbr])
  refine ⟨Zg ⟨0,0,0,false⟩,Zpw rfl (λh=>by cases h),?_⟩
  (repeat first | dsimp only [Zg,go_sem] | simp only [nbr])
  repeat (refine gb ?_;(repeat first | dsimp only [go_sem] | simp only [nbr]))
  refine Zqu 0 rfl (λh=>by cases h) ?_
  (repeat first | dsimp only [go_sem] | simp only [nbr])
  refine gb ?_
  (repeat first | dsimp only [go_sem] | simp only [nbr])
  refine ⟨Zg ⟨0,0,0,false⟩,Zpw rfl (λh=>by cases h),?_⟩
  (repeat first | dsimp only [Zg,go_sem] | simp only [nbr])
  refine gb ?_
  (repeat first | dsimp only [go_sem] | simp only [nbr])
  refine call (V6 ⟨0,0,0,false⟩ ⟨0,0,0,false⟩) ?_
  (repeat first | dsimp only [go_sem] | simp only [nbr])
  refine gb ?_
  (repeat first | dsimp only [go_sem] | simp only [nbr])
  refine Zp rfl ?_
  (repeat first | dsimp only [go_sem] | simp only [nbr])
  rw [Zf (n:=(i:Int)+1) (by omega) (by omega)];refine ⟨(i+1,l2),⟨by simp only;omega,hp2,ZiC Meet.day hs2 hj (.inl (by omega))⟩,by simp only;omega,?_⟩;(refine Zi ?_ ?_ ?_ rfl rfl<;>dsimp only [Zg,id,go_sem]<;>simp [Zg,Za])
 rw [show decide ((j:Int) > (a:Int))=true from by simp;omega];repeat (refine .inl ⟨rfl,?_⟩;(repeat first | dsimp only [go_sem] | simp only [nbr]))
 refine Xl j rfl (by simp;omega) ?_
 (repeat first | dsimp only [go_sem] | simp only [nbr])
 refine .inl ⟨rfl,?_⟩
 (repeat first | dsimp only [go_sem] | simp only [nbr])
 refine Vf (by omega) ?_
 (repeat first | dsimp only [Zg,go_sem] | simp only [nbr])
 repeat (refine .inl ⟨rfl,?_⟩;(repeat first | dsimp only [go_sem] | simp only [nbr]))
 rw [Zf (n:=(j:Int) - 1) (by omega) (by omega)];refine Xl (j - 1) (by omega) (by simp;omega) ?_
 (repeat first | dsimp only [go_sem] | simp only [nbr])
 refine .inl ⟨rfl,?_⟩
 (repeat first | dsimp only [go_sem] | simp only [nbr])
 refine Vf (by omega) ?_
 (repeat first | dsimp only [Zg,go_sem] | simp only [nbr])
 repeat (refine .inl ⟨rfl,?_⟩;(repeat first | dsimp only [go_sem] | simp only [nbr]))
 refine call (V6 l2[j] l2[j - 1]) ?_
 (repeat first | dsimp only [go_sem] | simp only [nbr])
 repeat (refine .inl ⟨rfl,?_⟩;(repeat first | dsimp only [go_sem] | simp only [nbr]))
 by_cases hlt:l2[j].day < l2[j - 1].day
 case neg =>
  refine Zp (by simp [Zdh,hlt];split<;>decide) ?_
  (repeat first | dsimp only [go_sem] | simp only [nbr])
  have hkk:ky Meet.day l2 (j - 1)<=ky Meet.day l2 j:=by rw [Xt Meet.day (l:=l2) (i:=j - 1) (by omega),Xt Meet.day (l:=l2) (i:=j) (by omega)];exact Int.not_lt.1 hlt
  rw [Zf (n:=(i:Int)+1) (by omega) (by omega)];refine ⟨(i+1,l2),⟨by simp only;omega,hp2,ZiC Meet.day hs2 hj (.inr hkk)⟩,by simp only;omega,?_⟩;(refine Zi ?_ ?_ ?_ rfl rfl<;>dsimp only [Zg,id,go_sem]<;>simp [Zg,Za])
 refine Zs (by simp [Zdh,hlt]) ?_
 (repeat first | dsimp only [go_sem] | simp only [nbr])
 have hkk:ky Meet.day l2 j < ky Meet.day l2 (j - 1):=by rw [Xt Meet.day (l:=l2) (i:=j - 1) (by omega),Xt Meet.day (l:=l2) (i:=j) (by omega)];exact hlt
 rw [Zf (n:=(j:Int) - 1) (by omega) (by omega)];refine Xl (j - 1) (by omega) (by simp;omega) ?_
 (repeat first | dsimp only [go_sem] | simp only [nbr])
 refine Vf (by omega) ?_
 (repeat first | dsimp only [Zg,go_sem] | simp only [nbr])
 refine Xl j rfl (by simp;omega) ?_
 (repeat first | dsimp only [go_sem] | simp only [nbr])
 refine Vf (by omega) ?_
 (repeat first | dsimp only [Zg,go_sem] | simp only [nbr])
 refine Xl j rfl (by simp;omega) ?_
 (repeat first | dsimp only [go_sem] | simp only [nbr])
 refine Zcf l2[j - 1] (by omega) (by simp [Zg]) (by simp [Zg,Zm]) ?_
 (repeat first | dsimp only [go_sem] | simp only [nbr])
 refine Xl (j - 1) (by first | omega | (rw [Zf (by omega) (by omega)];omega)) (by simp;omega) ?_
 (repeat first | dsimp only [go_sem] | simp only [nbr])
 refine Zcf l2[j] (by simp;omega) (by simp [Zg]) (by simp [Zg,Zm]) ?_;rw [<- Zbb (l:=l2) (i:=j) (j:=j - 1) (by omega) (by omega)]
 (repeat first | dsimp only [go_sem] | simp only [nbr])
 try rw [Zf (n:=(j:Int) - 1) (by omega) (by omega)]
 rw [show (j:Int) - 1=((j - 1:Nat):Int) from by omega];refine ⟨(j - 1,swp l2 j (j - 1)),⟨by simp only;omega,hp2.trans (.swap (by omega) (by omega) (by omega) (by omega) (by omega)),ZkS Meet.day hs2 hja hj (by omega) hkk⟩,by simp only;omega,?_⟩;(refine Zi ?_ ?_ ?_ rfl rfl<;>dsimp only [Zg,id,go_sem]<;>simp [Zg,Za])
end Go.Proofs.YtkpkgafhfakpdaaGreatDoor.Cm
namespace Go.Azalai
structure Srch (p s0 r0 s r:Nat) (K:Nat->Int):Prop where
 lo:∀ c,s0<=c->c < s->K c<=K (p - c)
 hi:∀ c,r<=c->c < r0->K (p - c) < K c
theorem Za7 (p s0 r0:Nat) (K:Nat->Int):Srch p s0 r0 s0 r0 K:=⟨λc h1 h2=>by omega,λc h1 h2=>by omega⟩
theorem ZjY {a m b p s0 r0 s r c:Nat} {K:Nat->Int} (h:Srch p s0 r0 s r K) (h1:Zgp a m K) (h2:Zgp m b K) (ha:a<=s0) (hr:r0<=m) (hp:∀ c,s0<=c->c < r0->m<=p - c/\p - c < b) (hc:s<=c) (hcr:c < r) (hrr:r<=r0) (hk:K c<=K (p - c)) (hs:s0<=s):Srch p s0 r0 (c+1) r K:=by
 refine ⟨λc' g1 g2=>?_,h.hi⟩;have q1:=hp c' g1 (by omega);have q2:=hp c (by omega) (by omega);exact Int.le_trans (h1.le (by omega) (show c'<=c by omega) (by omega)) (Int.le_trans hk (h2.le (by omega) (by omega) (by omega)))
theorem Zcz {a m b p s0 r0 s r c:Nat} {K:Nat->Int} (h:Srch p s0 r0 s r K) (h1:Zgp a m K) (h2:Zgp m b K) (ha:a<=s0) (hr:r0<=m) (hp:∀ c,s0<=c->c < r0->m<=p - c/\p - c < b) (hc:s<=c) (hcr:c < r) (hrr:r<=r0) (hk:K (p - c) < K c) (hs:s0<=s):Srch p s0 r0 s c K:=by
 refine ⟨h.lo,λc' g1 g2=>?_⟩;have q1:=hp c' (by omega) g2;have q2:=hp c (by omega) (by omega);have e1:=h2.le (i:=p - c') (j:=p - c) (by omega) (by omega) (by omega);have e2:=h1.le (i:=c) (j:=c') (by omega) (by omega) (by omega);omega
theorem Zqr {a m b mid s:Nat} {K:Nat->Int} (ham:a < m) (hmb:m < b) (h1:2 * mid<=a+b) (h2:a+b<=2 * mid+1) (s0 r0:Nat) (hs0:s0=if m > mid then mid+m - b else a) (hr0:r0=if m > mid then mid else m)
 (hs:s0<=s) (hr:s<=r0) (h:Srch (mid+m - 1) s0 r0 s s K):Cut a m b (mid+m) s K:=by
 by_cases hm:m > mid
 . rw [if_pos hm] at hs0 hr0;subst hs0;subst hr0;refine ⟨by omega,by omega,by omega,by omega,by omega,λg1 g2=>?_,λg1 g2=>?_⟩
   . have:=h.lo (s - 1) (by omega) (by omega)
     rwa [show r0+m - 1 - (s - 1)=r0+m - s from by omega] at this
   . have:=h.hi s (Nat.le_refl _) (by omega);rw [show r0+m - 1 - s=r0+m - s - 1 from by omega] at this;exact Int.le_of_lt this
 . rw [if_neg hm] at hs0 hr0;subst hs0;subst hr0;refine ⟨by omega,by omega,by omega,by omega,by omega,λg1 g2=>?_,λg1 g2=>?_⟩
   . have:=h.lo (s - 1) (by omega) (by omega)
     rwa [show mid+r0 - 1 - (s - 1)=mid+r0 - s from by omega] at this
   . have:=h.hi s (Nat.le_refl _) (by omega);rw [show mid+r0 - 1 - s=mid+r0 - s - 1 from by omega] at this;exact Int.le_of_lt this
section
variable {α : Type} (key:α->Int)
structure Cutd (a i mid e b:Nat) (l:List α):Prop where
 o1:a<=i
 o2:i<=mid
 o3:mid<=e
 o4:e<=b
 s1:Srt key a i l
 s2:Srt key i mid l
 s3:Srt key mid e l
 s4:Srt key e b l
 x:∀ p q,a<=p->p < mid->mid<=q->q < b->ky key l p<=ky key l q
structure CutL (a mid e b:Nat) (l:List α):Prop where
 o1:a<=mid
 o3:mid<=e
 o4:e<=b
 s1:Srt key a mid l
 s3:Srt key mid e l
 s4:Srt key e b l
 x:∀ p q,a<=p->p < mid->mid<=q->q < b->ky key l p<=ky key l q
theorem ZbP {a m b mid i:Nat} {l l1:List α} (h:Cut a m b (mid+m) i (ky key l)) (h1:Srt key a m l) (h2:Srt key m b l) (hk:∀ p,ky key l1 p=Za0 i m (mid+m - i) (ky key l) p):Cutd key a i mid (mid+m - i) b l1:=by
 have e:=ZyC h h1 h2;rw [show mid+m - m=mid from by omega] at e;obtain ⟨q0,q1,q2,q3,q4,q5,q6⟩:=h;have ek:ky key l1=Za0 i m (mid+m - i) (ky key l):=funext hk;refine ⟨by omega,by omega,by omega,by omega,?_,?_,?_,?_,?_⟩<;>(try unfold Srt)<;>rw [ek]
 . exact e.1
 . exact e.2.1
 . exact e.2.2.1
 . exact e.2.2.2.1
 . exact e.2.2.2.2
theorem ZgH {a m b mid i:Nat} {l:List α} (h:Cut a m b (mid+m) i (ky key l)) (h1:Srt key a m l) (h2:Srt key m b l) (hn:¬ (i < m/\m < mid+m - i)):Cutd key a i mid (mid+m - i) b l:=by
 refine ZbP key h h1 h2 λp=>?_;obtain ⟨q0,q1,q2,q3,q4,q5,q6⟩:=h;unfold Za0;by_cases c1:i<=p/\p < i+(mid+m - i - m)
 . rw [if_pos c1];congr 1;omega
 . rw [if_neg c1];by_cases c2:i+(mid+m - i - m)<=p/\p < mid+m - i
   . rw [if_pos c2];congr 1;omega
   . rw [if_neg c2]
theorem UB {a i mid e b:Nat} {l l2:List α} (h:Cutd key a i mid e b l) (hp:PIn a mid l l2) (hs:Srt key a mid l2) (hb:b<=l.length):CutL key a mid e b l2:=by
 obtain ⟨o1,o2,o3,o4,s1,s2,s3,s4,x⟩:=h;have ke:∀ q,mid<=q->ky key l2 q=ky key l q:=λq hq=>hp.ky key (.inr hq);refine ⟨by omega,o3,o4,hs,λp q g1 g2 g3=>?_,λp q g1 g2 g3=>?_,λp q g1 g2 g3 g4=>?_⟩
 . rw [ke p g1,ke q (by omega)];exact s3 p q g1 g2 g3
 . rw [ke p (by omega),ke q (by omega)];exact s4 p q g1 g2 g3
 . rw [ke q g3];exact hp.kall key (by omega) (λk=>k<=ky key l q) (λp q1 q2=>x p q q1 q2 g3 g4) p g1 g2
theorem Zb6 {a i mid e b:Nat} {l:List α} (h:Cutd key a i mid e b l) (hn:¬ (a < i/\i < mid)):CutL key a mid e b l:=by
 obtain ⟨o1,o2,o3,o4,s1,s2,s3,s4,x⟩:=h;refine ⟨by omega,o3,o4,λp q g1 g2 g3=>?_,s3,s4,x⟩;by_cases hq:a < i
 . exact s1 p q g1 g2 (by omega)
 . exact s2 p q (by omega) g2 g3
theorem Wx {a mid e b:Nat} {l l2:List α} (h:CutL key a mid e b l) (hp:PIn mid b l l2) (hs:Srt key mid b l2) (hb:b<=l.length):Srt key a b l2:=by
 obtain ⟨o1,o3,o4,s1,s3,s4,x⟩:=h;have ke:∀ q,q < mid->ky key l2 q=ky key l q:=λq hq=>hp.ky key (.inl hq);refine Srt.join key (c:=mid) (λp q g1 g2 g3=>?_) hs (λp q g1 g2 g3 g4=>?_)
 . rw [ke p (by omega),ke q g3];exact s1 p q g1 g2 g3
 . rw [ke p g2];exact hp.kall key hb (λk=>ky key l p<=k) (λq q1 q2=>x p q g1 g2 q1 q2) q g3 g4
theorem Ud {a mid e b:Nat} {l:List α} (h:CutL key a mid e b l) (hn:¬ (mid < e/\e < b)):Srt key a b l:=by
 obtain ⟨o1,o3,o4,s1,s3,s4,x⟩:=h;refine Srt.join key (c:=mid) s1 (λp q g1 g2 g3=>?_) x;by_cases hq:mid < e
 . exact s3 p q g1 g2 (by omega)
 . exact s4 p q (by omega) g2 g3
end
end Go.Azalai
