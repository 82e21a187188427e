/- Walks and plain laws that lead to the given statement, part 6 of 11. -/
import Derived.Test.YtiigiflofnjilaaGreatQE
import Derived.Test.YtiigiflofnjilaaGreatProg
set_option maxRecDepth 100000
set_option maxHeartbeats 4000000
set_option linter.all false
open Nat renaming beq_refl->nbr
namespace Go.Proofs.YtiigiflofnjilaaGreat
open Go Go.Sx
def c46:SC:=(sr1 [o1 1 (Jz 0 0 25),Jw 2 Jf] (.seq (sr1 [o1 4 (ao 1 0),o1 5 (lf 4 1),o1 6 (Jl 5),o1 7 (Jc .gtr 6 20),m1 8 7,g1 9 8 false (ao 1 1),g1 10 8 false (lf 9 1),g1 11 8 false (Jl 10),g1 12 8 false (Jc .gtr 11 40),o1 13 (.pick (.t 8) Jt (.t
 12))] (Ji 13 (sr1 [Jw 2 Jt] .ret) .skip)) (.seq (sr1 [Jk 3 0] (.block 0 (.loop (.seq (sr1 [m1 14 3,o1 15 (ao 1 1),o1 16 (lf 15 1),o1 17 (Jl 16),o1 18 (Jb .lss 14 17)] (Ji 18 .skip (.exit 0))) (.seq (.block 1 (sr1 [o1 21 (ao 1 1),o1 22 (lf 21 1),m1 23
 3,o1 24 (Jx 22 23 5),o1 25 (ao 24 4),o1 26 (lf 25 1),o1 27 (Jl 26),o1 28 (Jc .gtr 27 20)] (Ji 28 (sr1 [Jw 2 Jt] .ret) .skip))) (.reg [m1 19 3,o1 20 (Jc .add 19 1),m1 3 20])))))) (sr1 [Jw 2 Jf] .ret))))
def r46:List RV:=[.tmp 2]
theorem t46:Qt1 Tryz.prog 46 c46 r46 29:=Z0 Tryz.func46
def c42:SC:=(sr1 [o1 4 (Jz 0 0 25),o1 8 (.alloc zv0 27),Jk 9 0,Jk 10 0] (.seq (sr1 [o1 20 (lt 4 2),o1 21 (J1 85 20),m1 11 21] (.block 0 (sr1 [m1 23 11,o1 24 (Jc .neq 23 0),m1 22 24] (Ji 22 (sr1 [o1 25 (lt 8 2),m1 26 11,Js 8 25 2,Jk 9 0,m1 10 26] .ret)
 (sr1 [o1 28 (ao 4 0),o1 29 (lf 28 1),o1 30 (Jl 29),o1 31 (Jc .sub 30 1),m1 32 1,o1 33 (.bsl 1 3 [.t 32]),o1 34 (.call 76 [cn 0,.t 31,.t 33]),o1 35 (Jh 34),m1 36 35,g1 37 36 false (.mv (.t 3)),g1 38 36 false (.bsl 1 3 [.t 37]),g1 39 36 false (.call 76
 [cn 0,cn 100000,.t 38]),g1 40 36 false (Jh 39),o1 41 (.pick (.t 36) Jt (.t 40)),m1 27 41] (Ji 27 (sr1 [o1 42 (lt 8 2),Js 8 42 2,Jk 9 0,Jk 10 2] .ret) (sr1 [m1 44 2,o1 45 (Jl 44),o1 46 (Jc .gtr 45 200),m1 43 46] (Ji 43 (sr1 [o1 47 (lt 8 2),Js 8 47
 2,Jk 9 0,Jk 10 4] .ret) .skip)))))))) (sr1 [Jk 12 0] (.seq (sr1 [m1 48 2,o1 49 (Jl 48),Jk 50 0] (.block 1 (.loop (sr1 [o1 51 (Jb .lss 50 49)] (.seq (Ji 51 .skip (.exit 1)) (.seq (.block 2 (sr1 [o1 52 (Jx 48 50 3),o1 53 (lt 52 3),o1 14 (.alloc ZoO
 111),Js 14 53 3] (.seq (sr1 [o1 54 (ao 4 0),o1 55 (lf 54 1),o1 56 (Jl 55),o1 57 (Jc .sub 56 1),o1 58 (ao 14 0),o1 59 (lf 58 1),o1 60 (.bsl 1 3 [.t 59]),o1 61 (.call 76 [cn 0,.t 57,.t 60]),o1 62 (Jh 61),m1 63 62,g1 64 63 false (.mv (.t 12)),g1 65 63
 false (ao 14 1),g1 66 63 false (lf 65 1),g1 67 63 false (.bsl 1 3 [.t 66]),g1 68 63 false (.call 76 [.t 64,cn 100000,.t 67]),g1 69 63 false (Jh 68),o1 70 (.pick (.t 63) Jt (.t 69)),m1 71 70,g1 72 71 false (ao 14 2),g1 73 71 false (lf 72 1),g1 74 71
 false (.bsl 1 3 [.t 73]),g1 75 71 false (.call 76 [cn 0,cn 1000000000,.t 74]),g1 76 71 false (Jh 75),o1 77 (.pick (.t 71) Jt (.t 76))] (Ji 77 (sr1 [o1 78 (lt 8 2),Js 8 78 2,Jk 9 0,Jk 10 32] .ret) .skip)) (.reg [o1 79 (ao 14 1),o1 80 (lf 79 1),m1 12
 80])))) (.reg [o1 81 (Jc .add 50 1),m1 50 81]))))))) (sr1 [o1 82 (ao 4 0),o1 83 (lf 82 1),m1 84 1,o1 85 (Jx 83 84 9),o1 86 (lt 85 9),o1 15 (.alloc ZBq 88),Js 15 86 9] (sr1 [o1 87 (ao 15 6),o1 88 (lt 87 2),o1 16 (.alloc zv0 27),Js 16 88 2,o1 17 (.mv
 (cn (-1)))] (.seq (sr1 [m1 89 2,o1 90 (Jl 89),Jk 91 0] (.block 3 (.loop (sr1 [o1 92 (Jb .lss 91 90)] (.seq (Ji 92 .skip (.exit 3)) (.seq (.block 4 (sr1 [m1 93 91,o1 94 (Jx 89 91 3),o1 95 (lt 94 3),o1 19 (.alloc ZoO 111),m1 18 93,Js 19 95 3] (.seq
 (sr1 [o1 96 (ao 19 0),o1 97 (lf 96 1),m1 98 1,o1 99 (Jb .neq 97 98),m1 100 99,g1 101 100 false (ao 19 1),g1 102 100 false (lf 101 1),g1 103 100 false (.mv (.t 3)),g1 104 100 false (Jb .geq 102 103),o1 105 (.pick (.t 100) Jt (.t 104))] (Ji 105 (.exit
 4) .skip)) (sr1 [o1 106 (lt 15 9),o1 107 (lt 16 2),o1 108 (ao 19 1),o1 109 (lf 108 1),m1 110 17,o1 111 (Jb .sub 109 110),o1 112 (J3 86 106 107 111),Js 16 112 2] (sr1 [o1 113 (ao 19 1),o1 114 (lf 113 1),m1 17 114] (.seq (sr1 [o1 115 (ao 16 1),o1 116
 (lf 115 1),o1 117 (ao 19 2),o1 118 (lf 117 1),o1 119 (Jb .lss 116 118)] (Ji 119 (sr1 [o1 120 (lt 8 2),m1 121 18,Js 8 120 2,m1 9 121,Jk 10 33] .ret) .skip)) (.reg [o1 122 (ao 16 0),o1 123 (lf 122 1),o1 124 (ao 19 2),o1 125 (lf 124 1),o1 126 (Jb .sub
 123 125),o1 127 (.mm true [cn 0,.t 126]),o1 128 (ao 16 1),o1 129 (lf 128 1),o1 130 (ao 19 2),o1 131 (lf 130 1),o1 132 (Jb .sub 129 131),o1 133 (.build zv0 [(0,1,.t 127),(1,1,.t 132)]),Js 16 133 2]))))))) (.reg [o1 134 (Jc .add 91 1),m1 91 134])))))))
 (sr1 [o1 135 (lt 15 9),o1 136 (lt 16 2),m1 137 3,o1 138 (Jc .sub 137 1),m1 139 17,o1 140 (Jb .sub 138 139),o1 141 (J3 86 135 136 140),Js 8 141 2,Jk 9 0,Jk 10 0] .ret))))))))
def r42:List RV:=[.cell 8 2 true,.tmp 9,.tmp 10]
theorem t42:Qt1 Tryz.prog 42 c42 r42 142:=Z0 Tryz.func42
def c108:SC:=(sr1 [o1 4 (Jz 0 0 25),o1 8 (.alloc zv0 27),Jk 9 0,Jk 10 0] (.seq (sr1 [o1 16 (lt 4 2),o1 17 (J1 136 16),o1 18 (Jh 17)] (Ji 18 (sr1 [o1 19 (.build zv0 []),Js 8 19 2,Jk 9 0,Jk 10 30] .ret) .skip)) (.seq (sr1 [m1 20 1,o1 21 (ao 4 0),o1 22
 (lf 21 1),o1 23 (Jl 22),o1 24 (Jc .sub 23 1),o1 25 (.call 88 [.t 20,cn 0,.t 24]),o1 26 (Jh 25),m1 27 26,g1 28 27 false (.mv (.t 3)),g1 29 27 false (.call 88 [.t 28,cn 0,cn 100000]),g1 30 27 false (Jh 29),o1 31 (.pick (.t 27) Jt (.t 30))] (Ji 31 (sr1
 [o1 32 (.build zv0 []),Js 8 32 2,Jk 9 0,Jk 10 2] .ret) .skip)) (.seq (sr1 [m1 33 2,o1 34 (Jl 33),o1 35 (Jc .gtr 34 200)] (Ji 35 (sr1 [o1 36 (.build zv0 []),Js 8 36 2,Jk 9 0,Jk 10 4] .ret) .skip)) (.seq (sr1 [o1 37 (lt 4 2),m1 38 2,o1 39 (J2 45 37
 38),o1 40 (Jh 39)] (Ji 40 (sr1 [o1 41 (.build zv0 []),Js 8 41 2,Jk 9 0,Jk 10 32] .ret) .skip)) (sr1 [o1 42 (ao 4 0),o1 43 (lf 42 1),m1 44 1,o1 45 (Jx 43 44 9),o1 46 (lt 45 9),o1 11 (.alloc ZBq 88),Js 11 46 9] (sr1 [o1 47 (ao 11 6),o1 48 (lt 47 2),o1
 12 (.alloc zv0 27),Js 12 48 2,Jk 13 0] (.seq (sr1 [Jk 14 0] (.block 0 (.loop (.seq (sr1 [m1 49 14,m1 50 2,o1 51 (Jl 50),o1 52 (Jb .lss 49 51)] (Ji 52 .skip (.exit 0))) (.seq (.block 1 (sr1 [m1 55 2,m1 56 14,o1 57 (Jx 55 56 3),o1 58 (lt 57 3),o1 15
 (.alloc ZoO 111),Js 15 58 3] (.seq (sr1 [o1 59 (ao 15 0),o1 60 (lf 59 1),m1 61 1,o1 62 (Jb .neq 60 61),m1 63 62,g1 64 63 false (ao 15 1),g1 65 63 false (lf 64 1),g1 66 63 false (.mv (.t 3)),g1 67 63 false (Jb .geq 65 66),o1 68 (.pick (.t 63) Jt (.t
 67))] (Ji 68 (.exit 1) .skip)) (sr1 [o1 69 (lt 11 9),o1 70 (lt 12 2),o1 71 (ao 15 1),o1 72 (lf 71 1),o1 73 (Jc .add 72 1),m1 74 13,o1 75 (Jb .sub 73 74),o1 76 (J3 152 69 70 75),Js 12 76 2] (sr1 [o1 77 (ao 15 1),o1 78 (lf 77 1),o1 79 (Jc .add 78 1),m1
 13 79] (.seq (sr1 [o1 80 (ao 15 2),o1 81 (lf 80 1),o1 82 (ao 12 1),o1 83 (lf 82 1),o1 84 (Jb .gtr 81 83)] (Ji 84 (sr1 [o1 85 (.build zv0 []),m1 86 14,Js 8 85 2,m1 9 86,Jk 10 33] .ret) .skip)) (.reg [o1 87 (ao 12 0),o1 88 (lf 87 1),o1 89 (ao 15 2),o1
 90 (lf 89 1),o1 91 (Jb .sub 88 90),o1 92 (.mm true [cn 0,.t 91]),o1 93 (ao 12 1),o1 94 (lf 93 1),o1 95 (ao 15 2),o1 96 (lf 95 1),o1 97 (Jb .sub 94 96),o1 98 (.build zv0 [(0,1,.t 92),(1,1,.t 97)]),Js 12 98 2]))))))) (.reg [m1 53 14,o1 54 (Jc .add 53
 1),m1 14 54])))))) (sr1 [o1 99 (lt 11 9),o1 100 (lt 12 2),m1 101 3,m1 102 13,o1 103 (Jb .sub 101 102),o1 104 (J3 152 99 100 103),Js 8 104 2,Jk 9 0,Jk 10 0] .ret)))))))))
def r108:List RV:=[.cell 8 2 true,.tmp 9,.tmp 10]
theorem t108:Qt1 Tryz.prog 108 c108 r108 105:=Z0 Tryz.func108
def c85:SC:=(sr1 [o1 1 (Jz 0 0 25),Jk 2 0] (sr1 [o1 5 (ao 1 0),o1 6 (lf 5 1),o1 7 (.call 129 [.t 6,.f 130]),o1 8 (Jh 7),m1 3 8] (sr1 [o1 9 (ao 1 1),o1 10 (lf 9 1),o1 11 (.mkf 133 [.t 1]),o1 12 (J2 132 10 11),o1 13 (Jh 12),m1 4 13] (.seq (sr1 [o1 14
 (ao 1 0),o1 15 (lf 14 1),o1 16 (Jl 15),o1 17 (.bsl 1 3 [.t 16]),o1 18 (.call 76 [cn 1,cn 12,.t 17]),o1 19 (Jh 18),m1 20 19,g1 21 20 false (ao 1 1),g1 22 20 false (lf 21 1),g1 23 20 false (Jl 22),g1 24 20 false (Jc .gtr 23 24),o1 25 (.pick (.t 20) Jt
 (.t 24)),m1 26 25,g1 27 26 false (.mv (.t 3)),g1 28 26 false (Jh 27),o1 29 (.pick (.t 26) Jt (.t 28)),m1 30 29,g1 31 30 false (.mv (.t 4)),g1 32 30 false (Jh 31),o1 33 (.pick (.t 30) Jt (.t 32))] (Ji 33 (sr1 [Jk 2 30] .ret) .skip)) (sr1 [Jk 2 0]
 .ret)))))
def r85:List RV:=[.tmp 2]
theorem t85:Qt1 Tryz.prog 85 c85 r85 34:=Z0 Tryz.func85
def c45:SC:=(sr1 [o1 2 (Jz 0 0 25),Jw 4 Jf] (.seq (sr1 [Jk 5 0] (.block 0 (.loop (.seq (sr1 [m1 7 5,m1 8 1,o1 9 (Jl 8),o1 10 (Jb .lss 7 9)] (Ji 10 .skip (.exit 0))) (.seq (.block 1 (sr1 [m1 13 1,m1 14 5,o1 15 (Jx 13 14 3),o1 16 (lt 15 3),o1 6 (.alloc
 ZoO 111),Js 6 16 3] (.seq (.regd (Jr 35) [Jo 17 (ao 6 0),Jp 18 (lf 17 1) [0],Jo 19 (ao 2 0),Jp 20 (lf 19 1) [2],Jp 21 (Jl 20) [3],Jp 22 (Jc .sub 21 1) [4],Jp 23 (.call 88 [.t 18,cn 0,.t 22]) [1,5],Jp 24 (Jh 23) [6],Jp 25 (.mv (.t 24)) [6,7],Jq 26 25
 false (ao 6 1) [8],Jq 27 25 false (lf 26 1) [8,9],Jq 28 25 false (.call 88 [.t 27,cn 0,cn 100000]) [8,10],Jq 29 25 false (Jh 28) [8,11],Jp 30 (.pick (.t 25) Jt (.t 29)) [8,12],Jp 31 (.mv (.t 30)) [11,13],Jq 32 31 false (ao 6 2) [14],Jq 33 31 false
 (lf 32 1) [14,15],Jq 34 31 false (.call 88 [.t 33,cn 0,cn 1000000000]) [14,16],Jq 35 31 false (Jh 34) [14,17],Jp 36 (.pick (.t 31) Jt (.t 35)) [14,18],Jp 37 (.mv (.t 36)) [17,19],Jq 38 37 false (.mv (.t 5)) [20],Jq 39 37 false (Jc .gtr 38 0)
 [20,21],Jq 40 37 false (.mv (.t 39)) [20,22],Jq 41 40 true (ao 6 1) [23],Jq 42 40 true (lf 41 1) [23,24],Jq 43 40 true (.mv (.t 1)) [23],Jq 44 40 true (.mv (.t 5)) [23],Jq 45 40 true (Jc .sub 44 1) [23,27],Jq 46 40 true (Jx 43 45 3) [23,26,28],Jq 47
 40 true (ao 46 1) [23,29],Jq 48 40 true (lf 47 1) [23,30],Jq 49 40 true (Jb .lss 42 48) [23,25,31],Jq 50 37 false (.pick (.t 40) (.t 49) Jf) [20,23,32],Jp 51 (.pick (.t 37) Jt (.t 50)) [20,33]] 0 0 []) (Ji 51 (sr1 [Jw 4 Jf] .ret) .skip)))) (.reg [m1
 11 5,o1 12 (Jc .add 11 1),m1 5 12])))))) (sr1 [Jw 4 Jt] .ret)))
def r45:List RV:=[.tmp 4]
theorem t45:Qt1 Tryz.prog 45 c45 r45 52:=Z0 Tryz.func45
def c76:SC:=(sr1 [o1 3 (Jz 0 0 3),o1 4 (Jz 1 0 3),Jw 6 Jf] (sr1 [m1 7 2,o1 8 (.mkf 121 [.t 3,.t 4]),o1 9 (J2 98 7 8),o1 10 (Jh 9),m1 6 10] .ret))
def r76:List RV:=[.tmp 6]
theorem t76:Qt1 Tryz.prog 76 c76 r76 11:=Z0 Tryz.func76
def c86:SC:=(sr1 [o1 3 (Jz 0 0 88),o1 4 (Jz 1 0 27),o1 6 (.alloc zv0 27)] (sr1 [o1 7 (ao 3 5),o1 8 (lf 7 1),o1 9 (ao 4 0),o1 10 (lf 9 1),m1 11 2,o1 12 (ao 3 3),o1 13 (ao 12 0),o1 14 (lf 13 1),o1 15 (Jb .mul 11 14),o1 16 (Jb .add 10 15),o1 17 (.mm
 false [.t 8,.t 16]),o1 18 (ao 3 5),o1 19 (lf 18 1),o1 20 (ao 4 1),o1 21 (lf 20 1),m1 22 2,o1 23 (ao 3 3),o1 24 (ao 23 1),o1 25 (lf 24 1),o1 26 (Jb .mul 22 25),o1 27 (Jb .add 21 26),o1 28 (.mm false [.t 19,.t 27]),o1 29 (.build zv0 [(0,1,.t
 17),(1,1,.t 28)]),Js 6 29 2] .ret))
def r86:List RV:=[.cell 6 2 true]
theorem t86:Qt1 Tryz.prog 86 c86 r86 30:=Z0 Tryz.func86
def c136:SC:=(sr1 [o1 1 (Jz 0 0 25),Jw 2 Jf] (.seq (sr1 [o1 10 (ao 1 0),o1 11 (lf 10 1),o1 12 (Jl 11),o1 13 (.call 88 [.t 12,cn 1,cn 12]),o1 14 (Jh 13),m1 15 14,g1 16 15 false (ao 1 1),g1 17 15 false (lf 16 1),g1 18 15 false (Jl 17),g1 19 15 false (Jc
 .gtr 18 24),o1 20 (.pick (.t 15) Jt (.t 19))] (Ji 20 (sr1 [Jw 2 Jf] .ret) .skip)) (.seq (sr1 [Jk 3 0] (.block 0 (.loop (.seq (sr1 [m1 21 3,o1 22 (ao 1 0),o1 23 (lf 22 1),o1 24 (Jl 23),o1 25 (Jb .lss 21 24)] (Ji 25 .skip (.exit 0))) (.seq (.block 1
 (sr1 [o1 28 (ao 1 0),o1 29 (lf 28 1),m1 30 3,o1 31 (Jx 29 30 9),o1 32 (lt 31 9),o1 4 (.alloc ZBq 88),Js 4 32 9] (sr1 [o1 33 (ao 4 0),o1 34 (lf 33 1),o1 35 (.call 88 [.t 34,.c (.int .i64 (-10000000)),cn 10000000]),o1 36 (Jh 35),m1 37 36,g1 38 37 false
 (ao 4 1),g1 39 37 false (lf 38 1),g1 40 37 false (.call 88 [.t 39,.c (.int .i64 (-10000000)),cn 10000000]),g1 41 37 false (Jh 40),o1 42 (.pick (.t 37) Jt (.t 41)),m1 43 42,g1 44 43 false (ao 4 2),g1 45 43 false (lf 44 1),g1 46 43 false (.call 88 [.t
 45,cn 0,cn 200]),g1 47 43 false (Jh 46),o1 48 (.pick (.t 43) Jt (.t 47)),m1 49 48,g1 50 49 false (ao 4 3),g1 51 49 false (lt 50 2),g1 52 49 false (.call 137 [.t 51,cn 0,cn 10000000]),g1 53 49 false (Jh 52),o1 54 (.pick (.t 49) Jt (.t 53)),m1 55 54,g1
 56 55 false (ao 4 5),g1 57 55 false (lf 56 1),g1 58 55 false (.call 88 [.t 57,cn 0,cn 1000000000]),g1 59 55 false (Jh 58),o1 60 (.pick (.t 55) Jt (.t 59)),m1 61 60,g1 62 61 false (ao 4 6),g1 63 61 false (lt 62 2),g1 64 61 false (ao 4 5),g1 65 61
 false (lf 64 1),g1 66 61 false (.call 137 [.t 63,cn 0,.t 65]),g1 67 61 false (Jh 66),o1 68 (.pick (.t 61) Jt (.t 67)),m1 69 68,g1 70 69 false (ao 4 8),g1 71 69 false (lf 70 1),g1 72 69 false (.call 88 [.t 71,cn 0,cn 9999]),g1 73 69 false (Jh 72),o1
 74 (.pick (.t 69) Jt (.t 73))] (Ji 74 (sr1 [Jw 2 Jf] .ret) .skip)))) (.reg [m1 26 3,o1 27 (Jc .add 26 1),m1 3 27])))))) (.seq (sr1 [Jk 5 0] (.block 2 (.loop (.seq (sr1 [m1 75 5,o1 76 (ao 1 1),o1 77 (lf 76 1),o1 78 (Jl 77),o1 79 (Jb .lss 75 78)] (Ji
 79 .skip (.exit 2))) (.seq (.block 3 (sr1 [o1 82 (ao 1 1),o1 83 (lf 82 1),m1 84 5,o1 85 (Jx 83 84 5),o1 86 (lt 85 5),o1 6 (.alloc zv8 83),Js 6 86 5] (.seq (sr1 [o1 87 (ao 6 0),o1 88 (lf 87 1),o1 89 (ao 1 0),o1 90 (lf 89 1),o1 91 (Jl 90),o1 92 (Jc
 .sub 91 1),o1 93 (.call 88 [.t 88,cn 0,.t 92]),o1 94 (Jh 93),m1 95 94,g1 96 95 false (ao 6 1),g1 97 95 false (lf 96 1),g1 98 95 false (ao 1 0),g1 99 95 false (lf 98 1),g1 100 95 false (Jl 99),g1 101 95 false (Jc .sub 100 1),g1 102 95 false (.call 88
 [.t 97,cn 0,.t 101]),g1 103 95 false (Jh 102),o1 104 (.pick (.t 95) Jt (.t 103)),m1 105 104,g1 106 105 false (ao 6 0),g1 107 105 false (lf 106 1),g1 108 105 false (ao 6 1),g1 109 105 false (lf 108 1),g1 110 105 false (Jb .eql 107 109),o1 111 (.pick
 (.t 105) Jt (.t 110)),m1 112 111,g1 113 112 false (ao 6 2),g1 114 112 false (lt 113 2),g1 115 112 false (.call 137 [.t 114,cn 1,cn 1000000]),g1 116 112 false (Jh 115),o1 117 (.pick (.t 112) Jt (.t 116)),m1 118 117,g1 119 118 false (ao 6 4),g1 120 118
 false (lf 119 1),g1 121 118 false (Jl 120),g1 122 118 false (Jc .gtr 121 6),o1 123 (.pick (.t 118) Jt (.t 122))] (Ji 123 (sr1 [Jw 2 Jf] .ret) .skip)) (sr1 [o1 7 (.mv (cn (-1)))] (sr1 [Jk 8 0] (.block 4 (.loop (.seq (sr1 [m1 124 8,o1 125 (ao 6 4),o1
 126 (lf 125 1),o1 127 (Jl 126),o1 128 (Jb .lss 124 127)] (Ji 128 .skip (.exit 4))) (.seq (.block 5 (sr1 [o1 131 (ao 6 4),o1 132 (lf 131 1),m1 133 8,o1 134 (Jx 132 133 4),o1 135 (lt 134 4),o1 9 (.alloc zv7 85),Js 9 135 4] (.seq (sr1 [o1 136 (ao 9
 0),o1 137 (lt 136 2),o1 138 (.call 137 [.t 137,cn 0,cn 100000]),o1 139 (Jh 138),m1 140 139,g1 141 140 false (ao 9 2),g1 142 140 false (lt 141 2),g1 143 140 false (.call 137 [.t 142,cn 0,cn 100000]),g1 144 140 false (Jh 143),o1 145 (.pick (.t 140) Jt
 (.t 144)),m1 146 145,g1 147 146 false (ao 9 0),g1 148 146 false (ao 147 0),g1 149 146 false (lf 148 1),g1 150 146 false (ao 9 2),g1 151 146 false (ao 150 1),g1 152 146 false (lf 151 1),g1 153 146 false (Jb .gtr 149 152),o1 154 (.pick (.t 146) Jt (.t
 153)),m1 155 154,g1 156 155 false (ao 9 0),g1 157 155 false (ao 156 0),g1 158 155 false (lf 157 1),g1 159 155 false (.mv (.t 7)),g1 160 155 false (Jb .leq 158 159),o1 161 (.pick (.t 155) Jt (.t 160))] (Ji 161 (sr1 [Jw 2 Jf] .ret) .skip)) (.reg [o1
 162 (ao 9 2),o1 163 (ao 162 1),o1 164 (lf 163 1),m1 7 164])))) (.reg [m1 129 8,o1 130 (Jc .add 129 1),m1 8 130])))))))))) (.reg [m1 80 5,o1 81 (Jc .add 80 1),m1 5 81])))))) (sr1 [Jw 2 Jt] .ret)))))
def r136:List RV:=[.tmp 2]
theorem t136:Qt1 Tryz.prog 136 c136 r136 165:=Z0 Tryz.func136
def c88:SC:=(sr1 [Jw 6 Jf] (sr1 [m1 7 0,m1 8 1,o1 9 (Jb .geq 7 8),m1 10 9,g1 11 10 true (.mv (.t 0)),g1 12 10 true (.mv (.t 2)),g1 13 10 true (Jb .leq 11 12),o1 14 (.pick (.t 10) (.t 13) Jf),m1 6 14] .ret))
def r88:List RV:=[.tmp 6]
theorem t88:Qt1 Tryz.prog 88 c88 r88 15:=Z0 Tryz.func88
def c152:SC:=(sr1 [o1 3 (Jz 0 0 88),o1 4 (Jz 1 0 27),o1 6 (.alloc zv0 27)] (sr1 [o1 7 (ao 3 5),o1 8 (lf 7 1),o1 9 (ao 4 0),o1 10 (lf 9 1),m1 11 2,o1 12 (ao 3 3),o1 13 (ao 12 0),o1 14 (lf 13 1),o1 15 (Jb .mul 11 14),o1 16 (Jb .add 10 15),o1 17 (.mm
 false [.t 8,.t 16]),o1 18 (ao 3 5),o1 19 (lf 18 1),o1 20 (ao 4 1),o1 21 (lf 20 1),m1 22 2,o1 23 (ao 3 3),o1 24 (ao 23 1),o1 25 (lf 24 1),o1 26 (Jb .mul 22 25),o1 27 (Jb .add 21 26),o1 28 (.mm false [.t 19,.t 27]),o1 29 (.build zv0 [(0,1,.t
 17),(1,1,.t 28)]),Js 6 29 2] .ret))
def r152:List RV:=[.cell 6 2 true]
theorem t152:Qt1 Tryz.prog 152 c152 r152 30:=Z0 Tryz.func152
def c129:SC:=(sr1 [Jw 4 Jf] (sr1 [m1 5 0,m1 6 1,o1 7 (J2 161 5 6),o1 8 (Jc .geq 7 0),m1 4 8] .ret))
def r129:List RV:=[.tmp 4]
theorem t129:Qt1 Tryz.prog 129 c129 r129 9:=Z0 Tryz.func129
def c130:SC:=(sr1 [o1 1 (Jz 0 0 88),Jw 2 Jf] (sr1 [o1 3 (lt 1 9),o1 4 (J1 131 3),o1 5 (Jh 4),m1 2 5] .ret))
def r130:List RV:=[.tmp 2]
theorem t130:Qt1 Tryz.prog 130 c130 r130 6:=Z0 Tryz.func130
def c131:SC:=(sr1 [o1 1 (Jz 0 0 88),Jw 2 Jf] (sr1 [o1 3 (ao 1 0),o1 4 (lf 3 1),o1 5 (ao 1 1),o1 6 (lf 5 1),o1 7 (.bsl 1 3 [.t 4,.t 6]),o1 8 (.call 76 [.c (.int .i64 (-10000000)),cn 10000000,.t 7]),m1 9 8,g1 10 9 true (ao 1 2),g1 11 9 true (lf 10 1),g1
 12 9 true (.bsl 1 3 [.t 11]),g1 13 9 true (.call 76 [cn 0,cn 200,.t 12]),o1 14 (.pick (.t 9) (.t 13) Jf),m1 15 14,g1 16 15 true (ao 1 3),g1 17 15 true (lt 16 2),g1 18 15 true (.bsl 2 27 [.t 17]),g1 19 15 true (.call 120 [cn 0,cn 10000000,.t 18]),o1
 20 (.pick (.t 15) (.t 19) Jf),m1 21 20,g1 22 21 true (ao 1 5),g1 23 21 true (lf 22 1),g1 24 21 true (.bsl 1 3 [.t 23]),g1 25 21 true (.call 76 [cn 0,cn 1000000000,.t 24]),o1 26 (.pick (.t 21) (.t 25) Jf),m1 27 26,g1 28 27 true (ao 1 5),g1 29 27 true
 (lf 28 1),g1 30 27 true (ao 1 6),g1 31 27 true (lt 30 2),g1 32 27 true (.bsl 2 27 [.t 31]),g1 33 27 true (.call 120 [cn 0,.t 29,.t 32]),o1 34 (.pick (.t 27) (.t 33) Jf),m1 35 34,g1 36 35 true (ao 1 8),g1 37 35 true (lf 36 1),g1 38 35 true (.bsl 1 3
 [.t 37]),g1 39 35 true (.call 76 [cn 0,cn 9999,.t 38]),o1 40 (.pick (.t 35) (.t 39) Jf),m1 2 40] .ret))
def r131:List RV:=[.tmp 2]
theorem t131:Qt1 Tryz.prog 131 c131 r131 41:=Z0 Tryz.func131
def c132:SC:=(sr1 [Jw 4 Jf] (sr1 [m1 5 0,m1 6 1,o1 7 (J2 162 5 6),o1 8 (Jc .geq 7 0),m1 4 8] .ret))
def r132:List RV:=[.tmp 4]
theorem t132:Qt1 Tryz.prog 132 c132 r132 9:=Z0 Tryz.func132
def c133:SC:=(sr1 [o1 2 (Jz 0 0 83),Jw 3 Jf] (sr1 [o1 4 (lt 2 5),o1 5 (ao 1 0),o1 6 (lf 5 1),o1 7 (Jl 6),o1 8 (J2 134 4 7),o1 9 (Jh 8),m1 3 9] .ret))
def r133:List RV:=[.tmp 3]
theorem t133:Qt1 Tryz.prog 133 c133 r133 10:=Z0 Tryz.func133
def c134:SC:=(sr1 [o1 2 (Jz 0 0 83),Jw 4 Jf] (.seq (sr1 [m1 8 1,o1 9 (Jc .sub 8 1),o1 10 (ao 2 0),o1 11 (lf 10 1),o1 12 (ao 2 1),o1 13 (lf 12 1),o1 14 (.bsl 1 3 [.t 11,.t 13]),o1 15 (.call 76 [cn 0,.t 9,.t 14]),o1 16 (Jh 15),m1 17 16,g1 18 17 false
 (ao 2 0),g1 19 17 false (lf 18 1),g1 20 17 false (ao 2 1),g1 21 17 false (lf 20 1),g1 22 17 false (Jb .eql 19 21),o1 23 (.pick (.t 17) Jt (.t 22)),m1 24 23,g1 25 24 false (ao 2 2),g1 26 24 false (lt 25 2),g1 27 24 false (.bsl 2 27 [.t 26]),g1 28 24
 false (.call 120 [cn 1,cn 1000000,.t 27]),g1 29 24 false (Jh 28),o1 30 (.pick (.t 24) Jt (.t 29)),m1 31 30,g1 32 31 false (ao 2 4),g1 33 31 false (lf 32 1),g1 34 31 false (Jl 33),g1 35 31 false (Jc .gtr 34 6),o1 36 (.pick (.t 31) Jt (.t 35))] (Ji 36
 (sr1 [Jw 4 Jf] .ret) .skip)) (sr1 [Jk 5 0] (.seq (sr1 [o1 37 (ao 2 4),o1 38 (lf 37 1),o1 39 (Jl 38),Jk 40 0] (.block 0 (.loop (sr1 [o1 41 (Jb .lss 40 39)] (.seq (Ji 41 .skip (.exit 0)) (.seq (.block 1 (sr1 [o1 42 (Jx 38 40 4),o1 43 (lt 42 4),o1 7
 (.alloc zv7 85),Js 7 43 4] (.seq (sr1 [o1 44 (ao 7 0),o1 45 (lt 44 2),o1 46 (ao 7 2),o1 47 (lt 46 2),o1 48 (.bsl 2 27 [.t 45,.t 47]),o1 49 (.call 120 [cn 0,cn 100000,.t 48]),o1 50 (Jh 49),m1 51 50,g1 52 51 false (.mv (.t 5)),g1 53 51 false (ao 7
 2),g1 54 51 false (ao 53 1),g1 55 51 false (lf 54 1),g1 56 51 false (ao 7 0),g1 57 51 false (ao 56 0),g1 58 51 false (lf 57 1),g1 59 51 false (.bsl 1 3 [.t 58]),g1 60 51 false (J3 76 52 55 59),g1 61 51 false (Jh 60),o1 62 (.pick (.t 51) Jt (.t 61))]
 (Ji 62 (sr1 [Jw 4 Jf] .ret) .skip)) (.reg [o1 63 (ao 7 2),o1 64 (ao 63 1),o1 65 (lf 64 1),o1 66 (Jc .add 65 1),m1 5 66])))) (.reg [o1 67 (Jc .add 40 1),m1 40 67]))))))) (sr1 [Jw 4 Jt] .ret)))))
def r134:List RV:=[.tmp 4]
theorem t134:Qt1 Tryz.prog 134 c134 r134 68:=Z0 Tryz.func134
def c98:SC:=(sr1 [Jw 4 Jf] (sr1 [m1 5 0,m1 6 1,o1 7 (J2 141 5 6),o1 8 (Jc .geq 7 0),m1 4 8] .ret))
def r98:List RV:=[.tmp 4]
theorem t98:Qt1 Tryz.prog 98 c98 r98 9:=Z0 Tryz.func98
def c121:SC:=(sr1 [Jw 4 Jf] (sr1 [m1 5 0,o1 6 (lf 1 1),o1 7 (Jb .lss 5 6),m1 8 7,g1 9 8 false (.mv (.t 0)),g1 10 8 false (lf 2 1),g1 11 8 false (Jb .gtr 9 10),o1 12 (.pick (.t 8) Jt (.t 11)),m1 4 12] .ret))
def r121:List RV:=[.tmp 4]
theorem t121:Qt1 Tryz.prog 121 c121 r121 13:=Z0 Tryz.func121
def c137:SC:=(sr1 [o1 3 (Jz 0 0 27),Jw 6 Jf] (sr1 [o1 7 (ao 3 0),o1 8 (lf 7 1),m1 9 1,o1 10 (ao 3 1),o1 11 (lf 10 1),o1 12 (J3 88 8 9 11),m1 13 12,g1 14 13 true (ao 3 1),g1 15 13 true (lf 14 1),g1 16 13 true (.mv (.t 2)),g1 17 13 true (Jb .leq 15 16),o1 18 (.pick (.t 13) (.t 17) Jf),m1 6 18] .ret))
def r137:List RV:=[.tmp 6]
theorem t137:Qt1 Tryz.prog 137 c137 r137 19:=Z0 Tryz.func137
def c120:SC:=(sr1 [o1 3 (Jz 0 0 3),o1 4 (Jz 1 0 3),Jw 6 Jf] (sr1 [m1 7 2,o1 8 (.mkf 158 [.t 3,.t 4]),o1 9 (J2 102 7 8),o1 10 (Jh 9),m1 6 10] .ret))
def r120:List RV:=[.tmp 6]
theorem t120:Qt1 Tryz.prog 120 c120 r120 11:=Z0 Tryz.func120
def c161:SC:=(sr1 [Jk 4 0] (.seq (sr1 [m1 6 0,o1 7 (Jl 6),Jk 8 0] (.block 0 (.loop (sr1 [o1 9 (Jb .lss 8 7)] (.seq (Ji 9 .skip (.exit 0)) (.seq (.block 1 (sr1 [m1 10 8,m1 5 10] (sr1 [m1 11 1,m1 12 0,m1 13 5,o1 14 (Jx 12 13 9),o1 15 (lt 14 9),o1 16
 (.calv (.t 11) [.t 15])] (Ji 16 (sr1 [m1 17 5,m1 4 17] .ret) .skip)))) (.reg [o1 18 (Jc .add 8 1),m1 8 18]))))))) (sr1 [o1 4 (.mv (cn (-1)))] .ret)))
def r161:List RV:=[.tmp 4]
theorem t161:Qt1 Tryz.prog 161 c161 r161 19:=Z0 Tryz.func161
def c162:SC:=(sr1 [Jk 4 0] (.seq (sr1 [m1 6 0,o1 7 (Jl 6),Jk 8 0] (.block 0 (.loop (sr1 [o1 9 (Jb .lss 8 7)] (.seq (Ji 9 .skip (.exit 0)) (.seq (.block 1 (sr1 [m1 10 8,m1 5 10] (sr1 [m1 11 1,m1 12 0,m1 13 5,o1 14 (Jx 12 13 5),o1 15 (lt 14 5),o1 16
 (.calv (.t 11) [.t 15])] (Ji 16 (sr1 [m1 17 5,m1 4 17] .ret) .skip)))) (.reg [o1 18 (Jc .add 8 1),m1 8 18]))))))) (sr1 [o1 4 (.mv (cn (-1)))] .ret)))
def r162:List RV:=[.tmp 4]
theorem t162:Qt1 Tryz.prog 162 c162 r162 19:=Z0 Tryz.func162
def c141:SC:=(sr1 [Jk 4 0] (.seq (sr1 [m1 6 0,o1 7 (Jl 6),Jk 8 0] (.block 0 (.loop (sr1 [o1 9 (Jb .lss 8 7)] (.seq (Ji 9 .skip (.exit 0)) (.seq (.block 1 (sr1 [m1 10 8,m1 5 10] (sr1 [m1 11 1,m1 12 0,m1 13 5,o1 14 (Jx 12 13 1),o1 15 (lf 14 1),o1 16
 (.calv (.t 11) [.t 15])] (Ji 16 (sr1 [m1 17 5,m1 4 17] .ret) .skip)))) (.reg [o1 18 (Jc .add 8 1),m1 8 18]))))))) (sr1 [o1 4 (.mv (cn (-1)))] .ret)))
def r141:List RV:=[.tmp 4]
theorem t141:Qt1 Tryz.prog 141 c141 r141 19:=Z0 Tryz.func141
def c102:SC:=(sr1 [Jw 4 Jf] (sr1 [m1 5 0,m1 6 1,o1 7 (J2 143 5 6),o1 8 (Jc .geq 7 0),m1 4 8] .ret))
def r102:List RV:=[.tmp 4]
theorem t102:Qt1 Tryz.prog 102 c102 r102 9:=Z0 Tryz.func102
def c158:SC:=(sr1 [o1 3 (Jz 0 0 27),Jw 4 Jf] (sr1 [o1 5 (ao 3 0),o1 6 (lf 5 1),o1 7 (ao 3 1),o1 8 (lf 7 1),o1 9 (Jb .gtr 6 8),m1 10 9,g1 11 10 false (lf 1 1),g1 12 10 false (lf 2 1),g1 13 10 false (ao 3 0),g1 14 10 false (lf 13 1),g1 15 10 false (ao 3
 1),g1 16 10 false (lf 15 1),g1 17 10 false (.bsl 1 3 [.t 14,.t 16]),g1 18 10 false (J3 76 11 12 17),g1 19 10 false (Jh 18),o1 20 (.pick (.t 10) Jt (.t 19)),m1 4 20] .ret))
def r158:List RV:=[.tmp 4]
theorem t158:Qt1 Tryz.prog 158 c158 r158 21:=Z0 Tryz.func158
def c143:SC:=(sr1 [Jk 4 0] (.seq (sr1 [m1 6 0,o1 7 (Jl 6),Jk 8 0] (.block 0 (.loop (sr1 [o1 9 (Jb .lss 8 7)] (.seq (Ji 9 .skip (.exit 0)) (.seq (.block 1 (sr1 [m1 10 8,m1 5 10] (sr1 [m1 11 1,m1 12 0,m1 13 5,o1 14 (Jx 12 13 2),o1 15 (lt 14 2),o1 16
 (.calv (.t 11) [.t 15])] (Ji 16 (sr1 [m1 17 5,m1 4 17] .ret) .skip)))) (.reg [o1 18 (Jc .add 8 1),m1 8 18]))))))) (sr1 [o1 4 (.mv (cn (-1)))] .ret)))
def r143:List RV:=[.tmp 4]
theorem t143:Qt1 Tryz.prog 143 c143 r143 19:=Z0 Tryz.func143
def c47:SC:=(sr1 [o1 1 (Jz 0 0 25),o1 2 (.alloc ZwA 25)] (sr1 [o1 4 (.bsl 9 88 []),o1 5 (ao 1 0),o1 6 (lf 5 1),o1 7 (.app 9 72 88 (.t 4) (.t 6)),o1 8 (ao 1 0),Js 8 7 1] (sr1 [o1 9 (.bsl 5 83 []),o1 10 (ao 1 1),o1 11 (lf 10 1),o1 12 (.cln 5 56 83 (.t
 9) (.t 11)),o1 13 (ao 1 1),Js 13 12 1] (.seq (sr1 [Jk 3 0] (.block 0 (.loop (.seq (sr1 [m1 14 3,o1 15 (ao 1 1),o1 16 (lf 15 1),o1 17 (Jl 16),o1 18 (Jb .lss 14 17)] (Ji 18 .skip (.exit 0))) (.seq (.block 1 (.regd (Jr 14) [Jo 21 (ao 1 1),Jp 22 (lf 21
 1) [0],Jm 23 3,Jo 24 (.bsl 4 85 []),Jo 25 (ao 1 1),Jp 26 (lf 25 1) [4],Jm 27 3,Jp 28 (Jx 26 27 5) [5,6],Jp 29 (ao 28 4) [7],Jp 30 (lf 29 1) [8],Jp 31 (.app 4 32 85 (.t 24) (.t 30)) [3,9],Jp 32 (Jx 22 23 5) (Jr 11),Jp 33 (ao 32 4) (Jr 12)] 0 1 [Ju 33
 31 1 [0,1,2,3,4,5,6,7,8,9,10,12]])) (.reg [m1 19 3,o1 20 (Jc .add 19 1),m1 3 20])))))) (sr1 [o1 34 (lt 1 2),Js 2 34 2] .ret)))))
def r47:List RV:=[.cell 2 2 true]
theorem t47:Qt1 Tryz.prog 47 c47 r47 35:=Z0 Tryz.func47
def c39:SC:=(sr1 [o1 3 (Jz 0 0 25),o1 5 (Jz 2 0 27),o1 6 (.alloc zv0 27),Jk 7 0] (sr1 [o1 11 (lt 3 2),o1 12 (lt 5 2),o1 13 (J2 75 11 12),m1 10 13,o1 14 (Je 10 0),o1 15 (Je 10 1),o1 8 (.alloc ZqU 160),Js 8 14 4,m1 9 15] (.seq (.block 0 (sr1 [m1 17 9,o1
 18 (Jc .neq 17 0),m1 16 18] (Ji 16 (sr1 [o1 19 (.build zv0 []),m1 20 9,Js 6 19 2,m1 7 20] .ret) (sr1 [o1 22 (ao 3 1),o1 23 (lf 22 1),o1 24 (Jl 23),o1 25 (Jc .sub 24 1),m1 26 1,o1 27 (.bsl 1 3 [.t 26]),o1 28 (.call 76 [cn 0,.t 25,.t 27]),o1 29 (Jh
 28),m1 21 29] (Ji 21 (sr1 [o1 30 (.build zv0 []),Js 6 30 2,Jk 7 2] .ret) .skip))))) (sr1 [o1 31 (lt 8 4),m1 32 1,o1 33 (J2 82 31 32),o1 34 (J1 80 33),Js 6 34 2,Jk 7 0] .ret))))
def r39:List RV:=[.cell 6 2 true,.tmp 7]
theorem t39:Qt1 Tryz.prog 39 c39 r39 35:=Z0 Tryz.func39
def c106:SC:=(sr1 [o1 3 (Jz 0 0 25),o1 5 (Jz 2 0 27),o1 6 (.alloc zv0 27),Jk 7 0] (.seq (sr1 [o1 9 (lt 3 2),o1 10 (lt 5 2),o1 11 (J2 115 9 10),m1 8 11] (sr1 [m1 12 8,o1 13 (Jc .neq 12 0)] (Ji 13 (sr1 [o1 14 (.build zv0 []),m1 15 8,Js 6 14 2,m1 7 15]
 .ret) .skip))) (.seq (sr1 [m1 16 1,o1 17 (ao 3 1),o1 18 (lf 17 1),o1 19 (Jl 18),o1 20 (Jc .sub 19 1),o1 21 (.call 88 [.t 16,cn 0,.t 20]),o1 22 (Jh 21)] (Ji 22 (sr1 [o1 23 (.build zv0 []),Js 6 23 2,Jk 7 2] .ret) .skip)) (.seq (.regd (Jr 9) [Jo 24 (ao
 3 1),Jp 25 (lf 24 1) [0],Jm 26 1,Jp 27 (Jx 25 26 5) [1,2],Jp 28 (lt 27 5) [3],Jo 29 (lt 5 2),Jp 30 (J2 149 28 29) [4,5]] 0 2 [Ju 6 30 2 (Jr 7),⟨some 7,.mv (cn 0),none,(Jr 8)⟩]) .ret))))
def r106:List RV:=[.cell 6 2 true,.tmp 7]
theorem t106:Qt1 Tryz.prog 106 c106 r106 31:=Z0 Tryz.func106
def c93:SC:=(sr1 [o1 1 (Jz 0 0 25),Jk 2 0] (.seq (sr1 [o1 3 (lt 1 2),o1 4 (J1 136 3),o1 5 (Jh 4)] (Ji 5 (sr1 [Jk 2 30] .ret) .skip)) (sr1 [Jk 2 0] .ret)))
def r93:List RV:=[.tmp 2]
theorem t93:Qt1 Tryz.prog 93 c93 r93 6:=Z0 Tryz.func93
def c29:SC:=(sr1 [o1 2 (Jz 0 0 25),o1 3 (Jz 1 0 25),Jw 4 Jf] (.seq (sr1 [o1 10 (ao 2 0),o1 11 (lf 10 1),o1 12 (Jl 11),o1 13 (ao 3 0),o1 14 (lf 13 1),o1 15 (Jl 14),o1 16 (Jb .neq 12 15),m1 17 16,g1 18 17 false (ao 2 1),g1 19 17 false (lf 18 1),g1 20 17
 false (Jl 19),g1 21 17 false (ao 3 1),g1 22 17 false (lf 21 1),g1 23 17 false (Jl 22),g1 24 17 false (Jb .neq 20 23),o1 25 (.pick (.t 17) Jt (.t 24))] (Ji 25 (sr1 [Jw 4 Jf] .ret) .skip)) (.seq (sr1 [Jk 5 0] (.block 0 (.loop (.seq (sr1 [m1 26 5,o1 27
 (ao 2 0),o1 28 (lf 27 1),o1 29 (Jl 28),o1 30 (Jb .lss 26 29)] (Ji 30 .skip (.exit 0))) (.seq (.block 1 (.seq (.regd (Jr 11) [Jo 33 (ao 2 0),Jp 34 (lf 33 1) [0],Jm 35 5,Jp 36 (Jx 34 35 9) [1,2],Jp 37 (lt 36 9) [3],Jo 38 (ao 3 0),Jp 39 (lf 38 1) [5],Jm
 40 5,Jp 41 (Jx 39 40 9) [6,7],Jp 42 (lt 41 9) [8],Jp 43 (.eqs true true [1,1,1,1,1,1,1,1,1] (.t 37) (.t 42)) [4,9]] 0 0 []) (Ji 43 (sr1 [Jw 4 Jf] .ret) .skip))) (.reg [m1 31 5,o1 32 (Jc .add 31 1),m1 5 32])))))) (.seq (sr1 [Jk 6 0] (.block 2 (.loop
 (.seq (sr1 [m1 44 6,o1 45 (ao 2 1),o1 46 (lf 45 1),o1 47 (Jl 46),o1 48 (Jb .lss 44 47)] (Ji 48 .skip (.exit 2))) (.seq (.block 3 (.seq (.regd (Jr 14) [Jo 51 (ao 2 1),Jp 52 (lf 51 1) [0],Jm 53 6,Jp 54 (Jx 52 53 5) [1,2],Jp 55 (lt 54 5) [3],Jo 56 (ao 3
 1),Jp 57 (lf 56 1) [5],Jm 58 6,Jp 59 (Jx 57 58 5) [6,7],Jp 60 (lt 59 5) [8]] 2 2 [o1 7 (.alloc zv8 83),o1 8 (.alloc zv8 83),Ju 7 55 5 [0,1,2,3,4,10,11],Ju 8 60 5 (Jr 13)]) (.seq (sr1 [o1 61 (ao 7 0),o1 62 (lf 61 1),o1 63 (ao 8 0),o1 64 (lf 63 1),o1
 65 (Jb .neq 62 64),m1 66 65,g1 67 66 false (ao 7 1),g1 68 66 false (lf 67 1),g1 69 66 false (ao 8 1),g1 70 66 false (lf 69 1),g1 71 66 false (Jb .neq 68 70),o1 72 (.pick (.t 66) Jt (.t 71)),m1 73 72,g1 74 73 false (ao 7 2),g1 75 73 false (lt 74 2),g1
 76 73 false (ao 8 2),g1 77 73 false (lt 76 2),g1 78 73 false (.eqs true true [1,1] (.t 75) (.t 77)),o1 79 (.pick (.t 73) Jt (.t 78)),m1 80 79,g1 81 80 false (ao 7 4),g1 82 80 false (lf 81 1),g1 83 80 false (Jl 82),g1 84 80 false (ao 8 4),g1 85 80
 false (lf 84 1),g1 86 80 false (Jl 85),g1 87 80 false (Jb .neq 83 86),o1 88 (.pick (.t 80) Jt (.t 87))] (Ji 88 (sr1 [Jw 4 Jf] .ret) .skip)) (sr1 [Jk 9 0] (.block 4 (.loop (.seq (sr1 [m1 89 9,o1 90 (ao 7 4),o1 91 (lf 90 1),o1 92 (Jl 91),o1 93 (Jb .lss
 89 92)] (Ji 93 .skip (.exit 4))) (.seq (.block 5 (.seq (.regd (Jr 11) [Jo 96 (ao 7 4),Jp 97 (lf 96 1) [0],Jm 98 9,Jp 99 (Jx 97 98 4) [1,2],Jp 100 (lt 99 4) [3],Jo 101 (ao 8 4),Jp 102 (lf 101 1) [5],Jm 103 9,Jp 104 (Jx 102 103 4) [6,7],Jp 105 (lt 104
 4) [8],Jp 106 (.eqs true true [1,1,1,1] (.t 100) (.t 105)) [4,9]] 0 0 []) (Ji 106 (sr1 [Jw 4 Jf] .ret) .skip))) (.reg [m1 94 9,o1 95 (Jc .add 94 1),m1 9 95]))))))))) (.reg [m1 49 6,o1 50 (Jc .add 49 1),m1 6 50])))))) (sr1 [Jw 4 Jt] .ret)))))
def r29:List RV:=[.tmp 4]
theorem t29:Qt1 Tryz.prog 29 c29 r29 107:=Z0 Tryz.func29
def c75:SC:=(sr1 [o1 2 (Jz 0 0 25),o1 3 (Jz 1 0 27),o1 4 (.alloc ZqU 160),Jk 5 0] (.seq (sr1 [o1 7 (lt 2 2),o1 8 (J1 85 7),m1 6 8] (sr1 [m1 9 6,o1 10 (Jc .neq 9 0)] (Ji 10 (sr1 [o1 11 (.build ZqU []),m1 12 6,Js 4 11 4,m1 5 12] .ret) .skip))) (.seq
 (sr1 [o1 13 (lt 3 2),o1 14 (.bsl 2 27 [.t 13]),o1 15 (.call 120 [cn 1,cn 100000,.t 14]),o1 16 (Jh 15)] (Ji 16 (sr1 [o1 17 (.build ZqU []),Js 4 17 4,Jk 5 31] .ret) .skip)) (sr1 [o1 18 (lt 2 2),o1 19 (lt 3 2),o1 20 (.build ZqU [(0,2,.t 18),(2,2,.t
 19)]),Js 4 20 4,Jk 5 0] .ret))))
def r75:List RV:=[.cell 4 4 true,.tmp 5]
theorem t75:Qt1 Tryz.prog 75 c75 r75 21:=Z0 Tryz.func75
def c82:SC:=(sr1 [o1 2 (Jz 0 0 160),o1 4 (.alloc zv0 165)] (sr1 [o1 6 (ao 2 0),o1 7 (ao 6 1),o1 8 (lf 7 1),m1 9 1,o1 10 (Jx 8 9 5),o1 11 (ao 10 2),o1 12 (lt 11 2),o1 5 (.alloc zv0 27),Js 5 12 2] (.seq (.regd (Jr 24) [Jo 13 (ao 5 0),Jp 14 (lf 13 1)
 [0],Jo 15 (ao 2 2),Jp 16 (ao 15 1) [2],Jp 17 (lf 16 1) [3],Jp 18 (Jb .add 14 17) [1,4],Jp 19 (Jc .sub 18 1) [5],Jo 20 (ao 2 2),Jp 21 (ao 20 1) [7],Jp 22 (lf 21 1) [8],Jp 23 (.div .quo (.t 19) (.t 22)) [6,9],Jo 24 (ao 5 1),Jp 25 (lf 24 1) [11],Jo 26
 (ao 2 2),Jp 27 (ao 26 0) [13],Jp 28 (lf 27 1) [14],Jp 29 (Jb .add 25 28) [12,15],Jp 30 (Jc .sub 29 1) [16],Jo 31 (ao 2 2),Jp 32 (ao 31 0) [18],Jp 33 (lf 32 1) [19],Jp 34 (.div .quo (.t 30) (.t 33)) [17,20],Jp 35 (.build zv0 [(0,1,.t 23),(1,1,.t 34)])
 [10,21]] 0 1 [Ju 4 35 2 (Jr 23)]) .ret)))
def r82:List RV:=[.cell 4 2 true]
theorem t82:Qt1 Tryz.prog 82 c82 r82 36:=Z0 Tryz.func82
def c80:SC:=(sr1 [o1 1 (Jz 0 0 165),o1 2 (.alloc zv0 27)] (sr1 [o1 3 (.ixa (.t 1) (cn 0) 2 1),o1 4 (lf 3 1),o1 5 (.ixa (.t 1) (cn 1) 2 1),o1 6 (lf 5 1),o1 7 (.build zv0 [(0,1,.t 4),(1,1,.t 6)]),Js 2 7 2] .ret))
def r80:List RV:=[.cell 2 2 true]
theorem t80:Qt1 Tryz.prog 80 c80 r80 8:=Z0 Tryz.func80
def c115:SC:=(sr1 [o1 2 (Jz 0 0 25),o1 3 (Jz 1 0 27),Jk 4 0] (.seq (sr1 [o1 5 (lt 2 2),o1 6 (J1 136 5),o1 7 (Jh 6)] (Ji 7 (sr1 [Jk 4 30] .ret) .skip)) (.seq (sr1 [o1 8 (lt 3 2),o1 9 (J1 94 8),o1 10 (Jh 9)] (Ji 10 (sr1 [Jk 4 31] .ret) .skip)) (sr1 [Jk 4 0] .ret))))
def r115:List RV:=[.tmp 4]
theorem t115:Qt1 Tryz.prog 115 c115 r115 11:=Z0 Tryz.func115
def c149:SC:=(sr1 [o1 2 (Jz 0 0 83),o1 3 (Jz 1 0 27),o1 4 (.alloc zv0 27)] (.seq (.regd (Jr 22) [Jo 5 (ao 2 2),Jp 6 (ao 5 0) [0],Jp 7 (lf 6 1) [1],Jo 8 (ao 3 1),Jp 9 (lf 8 1) [3],Jp 10 (Jb .add 7 9) [2,4],Jp 11 (Jc .sub 10 1) [5],Jo 12 (ao 3 1),Jp 13
 (lf 12 1) [7],Jp 14 (.div .quo (.t 11) (.t 13)) [6,8],Jo 15 (ao 2 2),Jp 16 (ao 15 1) [10],Jp 17 (lf 16 1) [11],Jo 18 (ao 3 0),Jp 19 (lf 18 1) [13],Jp 20 (Jb .add 17 19) [12,14],Jp 21 (Jc .sub 20 1) [15],Jo 22 (ao 3 0),Jp 23 (lf 22 1) [17],Jp 24 (.div
 .quo (.t 21) (.t 23)) [16,18],Jp 25 (.build zv0 [(0,1,.t 14),(1,1,.t 24)]) [9,19]] 0 1 [Ju 4 25 2 (Jr 21)]) .ret))
def r149:List RV:=[.cell 4 2 true]
theorem t149:Qt1 Tryz.prog 149 c149 r149 26:=Z0 Tryz.func149
def c78:SC:=(sr1 [o1 3 (Jz 0 0 160),o1 5 (Jz 2 0 165),o1 6 (.alloc zv0 165)] (sr1 [o1 15 (lt 3 4),m1 16 1,o1 17 (J2 82 15 16),o1 7 (.alloc zv0 165),Js 7 17 2] (sr1 [o1 18 (.build zv0 [(0,1,.c (.int .i64 100001)),(1,1,.c (.int .i64 100001))]),o1 8
 (.alloc zv0 165),Js 8 18 2] (.seq (sr1 [o1 19 (ao 3 0),o1 20 (ao 19 1),o1 21 (lf 20 1),m1 22 1,o1 23 (Jx 21 22 5),o1 24 (ao 23 4),o1 25 (lf 24 1),o1 26 (Jl 25),Jk 27 0] (.block 0 (.loop (sr1 [o1 28 (Jb .lss 27 26)] (.seq (Ji 28 .skip (.exit 0)) (.seq
 (.block 1 (sr1 [o1 29 (Jx 25 27 4),o1 30 (lt 29 4),o1 10 (.alloc zv7 85),Js 10 30 4] (.seq (.regd (Jr 18) [Jo 31 (ao 10 0),Jp 32 (ao 31 0) [0],Jp 33 (lf 32 1) [1],Jo 34 (ao 10 0),Jp 35 (ao 34 1) [3],Jp 36 (lf 35 1) [4],Jp 37 (.build zv0 [(0,1,.t
 33),(1,1,.t 36)]) [2,5],Jo 38 (ao 10 2),Jp 39 (ao 38 1) [7],Jp 40 (lf 39 1) [8],Jo 41 (ao 10 2),Jp 42 (ao 41 0) [10],Jp 43 (lf 42 1) [11],Jp 44 (.build zv0 [(0,1,.t 40),(1,1,.t 43)]) [9,12]] 2 2 [o1 11 (.alloc zv0 165),o1 12 (.alloc zv0 165),Ju 11 37
 2 [0,1,2,3,4,5,6,14,15],Ju 12 44 2 (Jr 17)]) (sr1 [Jk 45 0] (.block 2 (.loop (sr1 [o1 46 (Jc .lss 45 2)] (.seq (Ji 46 .skip (.exit 2)) (.seq (.block 3 (sr1 [m1 47 45,m1 13 47] (.seq (.regd (Jr 8) [Jm 48 13,Jp 49 (.ixa (.t 5) (.t 48) 2 1) [0],Jp 50
 (lf 49 1) [1],Jm 51 13,Jp 52 (.ixa (.t 11) (.t 51) 2 1) [3],Jp 53 (lf 52 1) [4],Jp 54 (.mm true [.t 50,.t 53]) [2,5],Jp 14 (.mv (.t 54)) (Jr 7)] 0 0 []) (.seq (.regd (Jr 10) [Jm 55 14,Jm 56 13,Jp 57 (.ixa (.t 7) (.t 56) 2 1) [1],Jp 58 (lf 57 1)
 [2],Jp 59 (Jb .add 55 58) [0,3],Jp 60 (Jc .sub 59 1) [4],Jm 61 13,Jp 62 (.ixa (.t 12) (.t 61) 2 1) [6],Jp 63 (lf 62 1) [7],Jp 64 (Jb .leq 60 63) [5,8]] 0 0 []) (Ji 64 (.reg [m1 65 13,m1 66 13,o1 67 (.ixa (.t 8) (.t 66) 2 1),o1 68 (lf 67 1),m1 69
 14,o1 70 (.bsl 1 3 [.t 68,.t 69]),o1 71 (J1 122 70),o1 72 (.ixa (.t 8) (.t 65) 2 1),Js 72 71 1]) .skip))))) (.reg [o1 73 (Jc .add 45 1),m1 45 73])))))))))) (.reg [o1 74 (Jc .add 27 1),m1 27 74]))))))) (sr1 [o1 75 (lt 8 2),Js 6 75 2] .ret)))))
def r78:List RV:=[.cell 6 2 true]
theorem t78:Qt1 Tryz.prog 78 c78 r78 76:=Z0 Tryz.func78
def c145:SC:=(sr1 [o1 3 (Jz 0 0 83),o1 5 (Jz 2 0 27),Jk 6 0] (.seq (sr1 [Jk 7 0] (.block 0 (.loop (.seq (sr1 [m1 9 7,o1 10 (ao 3 4),o1 11 (lf 10 1),o1 12 (Jl 11),o1 13 (Jb .lss 9 12)] (Ji 13 .skip (.exit 0))) (.seq (.block 1 (sr1 [m1 16 1,o1 17 (ao 3
 4),o1 18 (lf 17 1),m1 19 7,o1 20 (Jx 18 19 4),o1 21 (ao 20 0),o1 22 (ao 21 0),o1 23 (lf 22 1),o1 24 (.mm true [.t 16,.t 23]),m1 8 24] (.seq (.regd (Jr 15) [Jm 25 8,Jo 26 (lt 3 5),Jo 27 (lt 5 2),Jp 28 (J2 149 26 27) [1,2],Jp 29 (.fld (.t 28) 0 1
 false) [3],Jp 30 (Jb .add 25 29) [0,4],Jp 31 (Jc .sub 30 1) [5],Jo 32 (ao 3 4),Jp 33 (lf 32 1) [7],Jm 34 7,Jp 35 (Jx 33 34 4) [8,9],Jp 36 (ao 35 2) [10],Jp 37 (ao 36 1) [11],Jp 38 (lf 37 1) [12],Jp 39 (Jb .leq 31 38) [6,13]] 0 0 []) (Ji 39 (sr1 [m1
 40 8,m1 6 40] .ret) .skip)))) (.reg [m1 14 7,o1 15 (Jc .add 14 1),m1 7 15])))))) (sr1 [Jk 6 100001] .ret)))
def r145:List RV:=[.tmp 6]
theorem t145:Qt1 Tryz.prog 145 c145 r145 41:=Z0 Tryz.func145
def c146:SC:=(sr1 [o1 3 (Jz 0 0 83),o1 5 (Jz 2 0 27),Jk 6 0] (.seq (sr1 [Jk 7 0] (.block 0 (.loop (.seq (sr1 [m1 9 7,o1 10 (ao 3 4),o1 11 (lf 10 1),o1 12 (Jl 11),o1 13 (Jb .lss 9 12)] (Ji 13 .skip (.exit 0))) (.seq (.block 1 (sr1 [m1 16 1,o1 17 (ao 3
 4),o1 18 (lf 17 1),m1 19 7,o1 20 (Jx 18 19 4),o1 21 (ao 20 0),o1 22 (ao 21 1),o1 23 (lf 22 1),o1 24 (.mm true [.t 16,.t 23]),m1 8 24] (.seq (.regd (Jr 15) [Jm 25 8,Jo 26 (lt 3 5),Jo 27 (lt 5 2),Jp 28 (J2 149 26 27) [1,2],Jp 29 (.fld (.t 28) 1 1
 false) [3],Jp 30 (Jb .add 25 29) [0,4],Jp 31 (Jc .sub 30 1) [5],Jo 32 (ao 3 4),Jp 33 (lf 32 1) [7],Jm 34 7,Jp 35 (Jx 33 34 4) [8,9],Jp 36 (ao 35 2) [10],Jp 37 (ao 36 0) [11],Jp 38 (lf 37 1) [12],Jp 39 (Jb .leq 31 38) [6,13]] 0 0 []) (Ji 39 (sr1 [m1
 40 8,m1 6 40] .ret) .skip)))) (.reg [m1 14 7,o1 15 (Jc .add 14 1),m1 7 15])))))) (sr1 [Jk 6 100001] .ret)))
def r146:List RV:=[.tmp 6]
theorem t146:Qt1 Tryz.prog 146 c146 r146 41:=Z0 Tryz.func146
def c94:SC:=(sr1 [o1 1 (Jz 0 0 27),Jw 2 Jf] (sr1 [o1 3 (lt 1 2),o1 4 (.call 137 [.t 3,cn 1,cn 100000]),m1 2 4] .ret))
def r94:List RV:=[.tmp 2]
theorem t94:Qt1 Tryz.prog 94 c94 r94 5:=Z0 Tryz.func94
def c122:SC:=(sr1 [Jk 2 0] (sr1 [m1 3 0,o1 4 (.bsl 1 3 [cn 100001]),o1 5 (.app 1 8 3 (.t 3) (.t 4)),o1 6 (J1 71 5),m1 2 6] .ret))
def r122:List RV:=[.tmp 2]
theorem t122:Qt1 Tryz.prog 122 c122 r122 7:=Z0 Tryz.func122
def c71:SC:=(sr1 [Jk 2 0] (.seq (sr1 [m1 5 0,o1 6 (Jl 5),o1 7 (Jc .lss 6 1)] (Ji 7 (.reg [o1 8 (.raw (Go.Op.makeInterface 9 (Go.Operand.const (Go.Value.string { data:=#[115,108,105,99,101,115,46,77,105,110,58,32,101,109,112,116,121,32,108,105,115,116] })))
 20),⟨none,.raw (Go.Op.panic (Go.Operand.tmp 8)) 0,none,[]⟩]) .skip)) (sr1 [m1 9 0,o1 10 (.ixs (.t 9) (cn 0) 1),o1 11 (lf 10 1),m1 3 11] (.seq (sr1 [Jk 4 1] (.block 0 (.loop (.seq (sr1 [m1 12 4,m1 13 0,o1 14 (Jl 13),o1 15 (Jb .lss 12 14)] (Ji 15 .skip
 (.exit 0))) (.seq (.block 1 (.reg [m1 18 3,m1 19 0,m1 20 4,o1 21 (Jx 19 20 1),o1 22 (lf 21 1),o1 23 (.mm false [.t 18,.t 22]),m1 3 23])) (.reg [m1 16 4,o1 17 (Jc .add 16 1),m1 4 17])))))) (sr1 [m1 24 3,m1 2 24] .ret)))))
def r71:List RV:=[.tmp 2]
theorem t71:Qt1 Tryz.prog 71 c71 r71 25:=Z0 Tryz.func71
end Go.Proofs.YtiigiflofnjilaaGreat
namespace Go.Azalai
structure Span where
 lo:Int
 hi:Int
deriving DecidableEq
structure Well where
 x:Int
 y:Int
 depth:Int
 yld:Span
 room:Int
 has:Span
 owner:Int
deriving DecidableEq
structure Gate where
 opens:Span
 shuts:Span
deriving DecidableEq
structure Leg where
 a:Int
 b:Int
 long:Span
 gates:List Gate
deriving DecidableEq
structure Land where
 wells:List Well
 legs:List Leg
deriving DecidableEq
structure Draw where
 well:Int
 day:Int
 water:Int
deriving DecidableEq
def inR (lo hi n:Int):Bool:=decide (lo<=n/\n<=hi)
def Yl (lo hi:Int) (s:Span):Bool:=decide (lo<=s.lo/\s.lo<=s.hi/\s.hi<=hi)
def YS (w:Well):Bool :=
 inR (-10000000) 10000000 w.x && inR (-10000000) 10000000 w.y && inR 0 200 w.depth && Yl 0 10000000 w.yld && inR 0 1000000000 w.room && Yl 0 w.room w.has && inR 0 9999 w.owner
def YQ (next:Int):List Gate->Bool
 | []=>true
 | g :: r=>Yl 0 100000 g.opens && Yl 0 100000 g.shuts && inR next g.shuts.hi g.opens.lo && YQ (g.shuts.hi+1) r
def WO (n:Int) (x:Leg):Bool :=
 inR 0 (n - 1) x.a && inR 0 (n - 1) x.b && x.a != x.b && Yl 1 1000000 x.long && decide (x.gates.length<=6) && YQ 0 x.gates
def ZX (l:Land):Bool :=
 inR 1 12 l.wells.length && decide (l.legs.length<=24) && l.wells.all YS && l.legs.all (WO l.wells.length)
def WF {α : Type} (g:α->Bool):List α->Nat->Int
 | [],_=>-1
 | x :: l,k=>if g x then k else WF g l (k+1)
theorem ZfA {α : Type} (g:α->Bool):∀ (l:List α) (k:Nat),decide (WF g l k ≥ 0)=l.any g
 | [],k=>by simp [WF]
 | x :: l,k=>by
  simp only [WF,List.any_cons];by_cases hg:g x=true
  . simp [hg]
  . simpa [hg] using ZfA g l (k+1)
def Y6 (w:Well) (has:Span) (days:Int):Span:=⟨min w.room (has.lo+days * w.yld.lo),min w.room (has.hi+days * w.yld.hi)⟩
def Xw (n last:Int):List Draw->Bool
 | []=>true
 | x :: r=>inR 0 (n - 1) x.well && inR last 100000 x.day && inR 0 1000000000 x.water && Xw n x.day r
def Wd (w:Well) (well day:Int) (now:Span) (evening:Int) (i:Nat):List Draw->Span × Int × Int
 | []=>(Y6 w now (day - 1 - evening),0,0)
 | x :: r =>
  if (x.well != well || decide (x.day ≥ day))=true then Wd w well day now evening (i+1) r
  else
   let f:=Y6 w now (x.day - evening)
   if f.hi < x.water then (⟨0,0⟩,i,33) else Wd w well day ⟨max 0 (f.lo - x.water),f.hi - x.water⟩ x.day (i+1) r
def Xo (l:Land) (well:Int) (draws:List Draw) (day:Int):Span × Int × Int :=
 if ZX l=false then (⟨0,0⟩,0,30)
 else if (inR 0 (l.wells.length - 1) well && inR 0 100000 day)=false then (⟨0,0⟩,0,2)
 else if draws.length > 200 then (⟨0,0⟩,0,4)
 else if Xw l.wells.length 0 draws=false then (⟨0,0⟩,0,32)
 else match l.wells[well.toNat]? with
  | some w=>Wd w well day w.has (-1) 0 draws
  | none=>(⟨0,0⟩,0,0)
def Xu (l:Land):Prop:=l.wells.length<=1000/\l.legs.length<=1000/\∀ x ∈ l.legs,x.gates.length<=1000
def ZbU (l:Land):Bool:=decide (l.wells.length > 20) || decide (l.legs.length > 40) || l.legs.any λx=>decide (x.gates.length > 20)
theorem Zcv {l:Land} (h:ZX l=true):∀ w ∈ l.wells,YS w=true:=by
 simp only [ZX,Bool.and_eq_true,List.all_eq_true] at h;exact h.1.2
theorem XD {l:Land} (h:ZX l=true):1<=l.wells.length/\l.wells.length<=12/\l.legs.length<=24:=by
 simp only [ZX,Bool.and_eq_true,inR,decide_eq_true_eq] at h;omega
theorem Uv {n:Int}:∀ {l:List Draw} {last:Int},Xw n last l=true->0<=last->∀ x ∈ l,0<=x.day/\x.day<=100000/\0<=x.water/\x.water<=1000000000
 | [],_,_,_,x,h=>by simp at h
 | y :: l,last,h,h0,x,hx=>by
  simp only [Xw,Bool.and_eq_true,inR,decide_eq_true_eq] at h;rcases List.mem_cons.1 hx with rfl | hx
  . omega
  . exact Uv h.2 (by omega) x hx
end Go.Azalai
namespace Go.Proofs.YtiigiflofnjilaaGreat
open Go Go.Sx Go.Azalai
def Zn (n:Int):List SV:=[I n]
def Zc (s:Span):List SV:=[I s.lo,I s.hi]
def Zg (g:Gate):List SV:=[I g.opens.lo,I g.opens.hi,I g.shuts.lo,I g.shuts.hi]
def Zf (w:Well):List SV:=[I w.x,I w.y,I w.depth,I w.yld.lo,I w.yld.hi,I w.room,I w.has.lo,I w.has.hi,I w.owner]
def Zl (x:Leg):List SV:=[I x.a,I x.b,I x.long.lo,I x.long.hi,.sl false 4 (x.gates.map Zg)]
def Zt (l:Land):List SV:=[.sl false 9 (l.wells.map Zf),.sl false 5 (l.legs.map Zl)]
def Z2 (d:Draw):List SV:=[I d.well,I d.day,I d.water]
theorem W8 {α : Type} (g:α->Bool) (l:List α):decide (WF g l 0 ≥ 0)=l.any g:=ZfA g l 0
theorem Zk4 (h:Nat) (caps:List SV) (hk:KFL caps) (g:Int->Bool) (l:List Int) (hg:∀ x ∈ l,Ct Tryz.prog h (I x :: caps) (B (g x))) (hl:l.length < 4611686018427387904) {c:Bool} :
 Ct Tryz.prog 141 [.sl c 1 (l.map Zn),.cl h caps] (I (WF g l 0)):=by
 refine t141.1 ⟨by simp [KF,Za,KFL,Zn],hk,trivial⟩ (by simp [KF]) ?_;dsimp only [c141,r141,go_sem];refine Yy (λk:Nat=>[(8,I k)]) (λ_=>[]) (λk=>k<=l.length/\WF g (l.drop k) k=WF g l 0) (λk=>l.length - k) 0 ⟨Nat.zero_le _,rfl⟩ ?_ ?_
 . (refine Zj ?_ ?_ ?_ rfl rfl<;>dsimp only [Zn,hk,id,go_sem]<;>simp [Zn,hk,Za])
 . intro k ⟨hk',hi⟩;dsimp only [go_sem];refine br ?_ ?_
   . intro hlt;have hlt:k < l.length:=by simpa using hlt
     dsimp only [go_sem];refine Zo k hlt rfl ?_;dsimp only [Zn,go_sem];refine call (hg l[k] (List.getElem_mem _)) ?_;dsimp only [go_sem];refine br ?_ ?_
     . intro hgx;dsimp only [go_sem];rw [<- hi,List.drop_eq_getElem_cons hlt];simp [WF,hgx]
     . intro hgx;dsimp only [go_sem];refine ⟨k+1,⟨by omega,?_⟩,by omega,?_⟩
       . rw [<- hi,List.drop_eq_getElem_cons hlt];simp [WF,hgx]
       . rw [Zh (by omega) (by omega)];(refine Zj ?_ ?_ ?_ rfl rfl<;>dsimp only [Zn,hk,id,go_sem]<;>simp [Zn,hk,Za])
   . intro hlt;have hlt:k=l.length:=by simp at hlt;omega
     dsimp only [go_sem];rw [<- hi,hlt];simp [WF]
theorem ZzS (h:Nat) (caps:List SV) (hk:KFL caps) (g:Int->Bool) (l:List Int) (hg:∀ x ∈ l,Ct Tryz.prog h (I x :: caps) (B (g x))) (hl:l.length < 4611686018427387904) {c:Bool} :
 Ct Tryz.prog 98 [.sl c 1 (l.map Zn),.cl h caps] (B (l.any g)):=by
 refine t98.1 ⟨by simp [KF,Za,KFL,Zn],hk,trivial⟩ (by simp [KF]) ?_;dsimp only [c98,r98,go_sem];refine call (Zk4 h caps hk g l hg hl) ?_;dsimp only [go_sem];rw [W8]
theorem idx95 (h:Nat) (caps:List SV) (hk:KFL caps) (g:Well->Bool) (l:List Well) (hg:∀ x ∈ l,Ct Tryz.prog h (.agg (Zf x) :: caps) (B (g x))) (hl:l.length < 4611686018427387904) {c:Bool} :
 Ct Tryz.prog 161 [.sl c 9 (l.map Zf),.cl h caps] (I (WF g l 0)):=by
 refine t161.1 ⟨by simp [KF,Za,KFL,Zf],hk,trivial⟩ (by simp [KF]) ?_;dsimp only [c161,r161,go_sem];refine Yy (λk:Nat=>[(8,I k)]) (λ_=>[]) (λk=>k<=l.length/\WF g (l.drop k) k=WF g l 0) (λk=>l.length - k) 0 ⟨Nat.zero_le _,rfl⟩ ?_ ?_
 . (refine Zj ?_ ?_ ?_ rfl rfl<;>dsimp only [Zf,hk,id,go_sem]<;>simp [Zf,hk,Za])
 . intro k ⟨hk',hi⟩;dsimp only [go_sem];refine br ?_ ?_
   . intro hlt;have hlt:k < l.length:=by simpa using hlt
     dsimp only [go_sem];refine Zo k hlt rfl ?_;dsimp only [Zf,go_sem];refine call (hg l[k] (List.getElem_mem _)) ?_;dsimp only [go_sem];refine br ?_ ?_
     . intro hgx;dsimp only [go_sem];rw [<- hi,List.drop_eq_getElem_cons hlt];simp [WF,hgx]
     . intro hgx;dsimp only [go_sem];refine ⟨k+1,⟨by omega,?_⟩,by omega,?_⟩
       . rw [<- hi,List.drop_eq_getElem_cons hlt];simp [WF,hgx]
       . rw [Zh (by omega) (by omega)];(refine Zj ?_ ?_ ?_ rfl rfl<;>dsimp only [Zf,hk,id,go_sem]<;>simp [Zf,hk,Za])
   . intro hlt;have hlt:k=l.length:=by simp at hlt;omega
     dsimp only [go_sem];rw [<- hi,hlt];simp [WF]
theorem con71 (h:Nat) (caps:List SV) (hk:KFL caps) (g:Well->Bool) (l:List Well) (hg:∀ x ∈ l,Ct Tryz.prog h (.agg (Zf x) :: caps) (B (g x))) (hl:l.length < 4611686018427387904) {c:Bool} :
 Ct Tryz.prog 129 [.sl c 9 (l.map Zf),.cl h caps] (B (l.any g)):=by
 refine t129.1 ⟨by simp [KF,Za,KFL,Zf],hk,trivial⟩ (by simp [KF]) ?_;dsimp only [c129,r129,go_sem];refine call (idx95 h caps hk g l hg hl) ?_;dsimp only [go_sem];rw [W8]
theorem idx96 (h:Nat) (caps:List SV) (hk:KFL caps) (g:Leg->Bool) (l:List Leg) (hg:∀ x ∈ l,Ct Tryz.prog h (.agg (Zl x) :: caps) (B (g x))) (hl:l.length < 4611686018427387904) {c:Bool} :
 Ct Tryz.prog 162 [.sl c 5 (l.map Zl),.cl h caps] (I (WF g l 0)):=by
 refine t162.1 ⟨by simp [KF,Za,KFL,Zl,Zg],hk,trivial⟩ (by simp [KF]) ?_;dsimp only [c162,r162,go_sem];refine Yy (λk:Nat=>[(8,I k)]) (λ_=>[]) (λk=>k<=l.length/\WF g (l.drop k) k=WF g l 0) (λk=>l.length - k) 0 ⟨Nat.zero_le _,rfl⟩ ?_ ?_
 . (refine Zj ?_ ?_ ?_ rfl rfl<;>dsimp only [Zl,Zg,hk,id,go_sem]<;>simp [Zl,Zg,hk,Za])
 . intro k ⟨hk',hi⟩;dsimp only [go_sem];refine br ?_ ?_
   . intro hlt;have hlt:k < l.length:=by simpa using hlt
     dsimp only [go_sem];refine Zo k hlt rfl ?_;dsimp only [Zl,go_sem];refine call (hg l[k] (List.getElem_mem _)) ?_;dsimp only [go_sem];refine br ?_ ?_
     . intro hgx;dsimp only [go_sem];rw [<- hi,List.drop_eq_getElem_cons hlt];simp [WF,hgx]
     . intro hgx;dsimp only [go_sem];refine ⟨k+1,⟨by omega,?_⟩,by omega,?_⟩
       . rw [<- hi,List.drop_eq_getElem_cons hlt];simp [WF,hgx]
       . rw [Zh (by omega) (by omega)];(refine Zj ?_ ?_ ?_ rfl rfl<;>dsimp only [Zl,Zg,hk,id,go_sem]<;>simp [Zl,Zg,hk,Za])
   . intro hlt;have hlt:k=l.length:=by simp at hlt;omega
     dsimp only [go_sem];rw [<- hi,hlt];simp [WF]
theorem con74 (h:Nat) (caps:List SV) (hk:KFL caps) (g:Leg->Bool) (l:List Leg) (hg:∀ x ∈ l,Ct Tryz.prog h (.agg (Zl x) :: caps) (B (g x))) (hl:l.length < 4611686018427387904) {c:Bool} :
 Ct Tryz.prog 132 [.sl c 5 (l.map Zl),.cl h caps] (B (l.any g)):=by
 refine t132.1 ⟨by simp [KF,Za,KFL,Zl,Zg],hk,trivial⟩ (by simp [KF]) ?_;dsimp only [c132,r132,go_sem];refine call (idx96 h caps hk g l hg hl) ?_;dsimp only [go_sem];rw [W8]
theorem ZAJ (h:Nat) (caps:List SV) (hk:KFL caps) (g:Span->Bool) (l:List Span) (hg:∀ x ∈ l,Ct Tryz.prog h (.agg (Zc x) :: caps) (B (g x))) (hl:l.length < 4611686018427387904) {c:Bool} :
 Ct Tryz.prog 143 [.sl c 2 (l.map Zc),.cl h caps] (I (WF g l 0)):=by
 refine t143.1 ⟨by simp [KF,Za,KFL,Zc],hk,trivial⟩ (by simp [KF]) ?_;dsimp only [c143,r143,go_sem];refine Yy (λk:Nat=>[(8,I k)]) (λ_=>[]) (λk=>k<=l.length/\WF g (l.drop k) k=WF g l 0) (λk=>l.length - k) 0 ⟨Nat.zero_le _,rfl⟩ ?_ ?_
 . (refine Zj ?_ ?_ ?_ rfl rfl<;>dsimp only [Zc,hk,id,go_sem]<;>simp [Zc,hk,Za])
 . intro k ⟨hk',hi⟩;dsimp only [go_sem];refine br ?_ ?_
   . intro hlt;have hlt:k < l.length:=by simpa using hlt
     dsimp only [go_sem];refine Zo k hlt rfl ?_;dsimp only [Zc,go_sem];refine call (hg l[k] (List.getElem_mem _)) ?_;dsimp only [go_sem];refine br ?_ ?_
     . intro hgx;dsimp only [go_sem];rw [<- hi,List.drop_eq_getElem_cons hlt];simp [WF,hgx]
     . intro hgx;dsimp only [go_sem];refine ⟨k+1,⟨by omega,?_⟩,by omega,?_⟩
       . rw [<- hi,List.drop_eq_getElem_cons hlt];simp [WF,hgx]
       . rw [Zh (by omega) (by omega)];(refine Zj ?_ ?_ ?_ rfl rfl<;>dsimp only [Zc,hk,id,go_sem]<;>simp [Zc,hk,Za])
   . intro hlt;have hlt:k=l.length:=by simp at hlt;omega
     dsimp only [go_sem];rw [<- hi,hlt];simp [WF]
theorem Ztx (h:Nat) (caps:List SV) (hk:KFL caps) (g:Span->Bool) (l:List Span) (hg:∀ x ∈ l,Ct Tryz.prog h (.agg (Zc x) :: caps) (B (g x))) (hl:l.length < 4611686018427387904) {c:Bool} :
 Ct Tryz.prog 102 [.sl c 2 (l.map Zc),.cl h caps] (B (l.any g)):=by
 refine t102.1 ⟨by simp [KF,Za,KFL,Zc],hk,trivial⟩ (by simp [KF]) ?_;dsimp only [c102,r102,go_sem];refine call (ZAJ h caps hk g l hg hl) ?_;dsimp only [go_sem];rw [W8]
theorem ZW (n lo hi:Int):Ct Tryz.prog 88 [I n,I lo,I hi] (B (inR lo hi n)):=by
 refine t88.1 (by simp) (by simp) ?_;dsimp only [c88,r88,go_sem];refine gb ?_;dsimp only [go_sem];refine gb ?_;dsimp only [go_sem];refine gb ?_;dsimp only [go_sem];simp [inR]
theorem ZO (s:Span) (lo hi:Int):Ct Tryz.prog 137 [.agg (Zc s),I lo,I hi] (B (Yl lo hi s)):=by
 refine t137.1 (by simp [Zc]) (by simp) ?_;dsimp only [c137,r137,Zc,go_sem];refine call (ZW _ _ _) ?_;dsimp only [go_sem];repeat (refine gb ?_;dsimp only [go_sem])
 (simp only [Yl,inR,Option.some.injEq,SV.v.injEq,Value.bool.injEq]<;>grind)
theorem Zdw (lo hi x:Int):Ct Tryz.prog 121 [I x,.ps [I lo] 0,.ps [I hi] 0] (B (!inR lo hi x)):=by
 refine t121.1 (by simp) (by simp) ?_;dsimp only [c121,r121,go_sem];repeat (refine gb ?_;dsimp only [go_sem])
 (simp only [inR,Option.some.injEq,SV.v.injEq,Value.bool.injEq]<;>grind)
theorem Zah (lo hi:Int) (l:List Int) (hl:l.length < 4611686018427387904) (c:Bool):Ct Tryz.prog 76 [I lo,I hi,.sl c 1 (l.map Zn)] (B (l.all (inR lo hi))):=by
 refine t76.1 (by simp [Za,Zn]) (by simp) ?_;dsimp only [c76,r76,go_sem];refine Zaz (by simp [FLT]) (res:=B (l.any λx=>!inR lo hi x)) ?_ ?_
 . dsimp only [go_sem];exact ZzS 121 [.ps [I lo] 0,.ps [I hi] 0] (by simp) (λx=>!inR lo hi x) l (λx _=>Zdw lo hi x) hl
 . dsimp only [go_sem];simp [List.all_eq_not_any_not]
theorem ZaC (lo hi a:Int) (c:Bool):Ct Tryz.prog 76 [I lo,I hi,.sl c 1 [[I a]]] (B (inR lo hi a)):=by
 have:=Zah lo hi [a] (by simp) c;simpa [Zn] using this
theorem Zec (lo hi a b:Int) (c:Bool):Ct Tryz.prog 76 [I lo,I hi,.sl c 1 [[I a],[I b]]] (B (inR lo hi a && inR lo hi b)):=by
 have:=Zah lo hi [a,b] (by simp) c;simpa [Zn] using this
theorem Uq (lo hi:Int) (s:Span):Ct Tryz.prog 158 [.agg (Zc s),.ps [I lo] 0,.ps [I hi] 0] (B (!Yl lo hi s)):=by
 refine t158.1 (by simp [Zc]) (by simp) ?_;dsimp only [c158,r158,Zc,go_sem];repeat (first | (refine gb ?_;dsimp only [go_sem]) | (refine call (Zec _ _ _ _ _) ?_;dsimp only [go_sem]))
 (simp only [Yl,inR,Option.some.injEq,SV.v.injEq,Value.bool.injEq]<;>grind)
theorem XF (lo hi:Int) (l:List Span) (hl:l.length < 4611686018427387904) (c:Bool):Ct Tryz.prog 120 [I lo,I hi,.sl c 2 (l.map Zc)] (B (l.all (Yl lo hi))):=by
 refine t120.1 (by simp [Za,Zc]) (by simp) ?_;dsimp only [c120,r120,go_sem];refine Zaz (by simp [FLT]) (res:=B (l.any λx=>!Yl lo hi x)) ?_ ?_
 . dsimp only [go_sem];exact Ztx 158 [.ps [I lo] 0,.ps [I hi] 0] (by simp) (λx=>!Yl lo hi x) l (λx _=>Uq lo hi x) hl
 . dsimp only [go_sem];simp [List.all_eq_not_any_not]
theorem Xs (lo hi:Int) (s:Span) (c:Bool):Ct Tryz.prog 120 [I lo,I hi,.sl c 2 [[I s.lo,I s.hi]]] (B (Yl lo hi s)):=by
 have:=XF lo hi [s] (by simp) c;simpa [Zc] using this
theorem Zdh (lo hi:Int) (s t:Span) (c:Bool):Ct Tryz.prog 120 [I lo,I hi,.sl c 2 [[I s.lo,I s.hi],[I t.lo,I t.hi]]] (B (Yl lo hi s && Yl lo hi t)):=by
 have:=XF lo hi [s,t] (by simp) c;simpa [Zc] using this
theorem ZAB (w:Well):Ct Tryz.prog 131 [.agg (Zf w)] (B (YS w)):=by
 refine t131.1 (by simp [Zf]) (by simp) ?_;dsimp only [c131,r131,Zf,go_sem];repeat (first | (refine gb ?_;dsimp only [go_sem]) | (refine call (ZaC _ _ _ _) ?_;dsimp only [go_sem]) | (refine call (Zec _ _ _ _ _) ?_;dsimp only [go_sem]) | (refine call (Xs _ _ w.yld _) ?_;dsimp only [go_sem]) | (refine call (Xs _ _ w.has _) ?_;dsimp only [go_sem]))
 simp [YS,Bool.and_assoc]
theorem ZhP (x:Leg) (n:Int) (h0:0<=n) (h1:n<=1000) (hg:x.gates.length < 4611686018427387904):Ct Tryz.prog 134 [.agg (Zl x),I n] (B (WO n x)):=by
 have hw:IntKind.i64.wrap (n - 1)=n - 1:=Zh (by omega) (by omega);refine t134.1 (by simp [Zl,Za,Zg]) (by simp) ?_;dsimp only [c134,r134,Zl,hw,go_sem];simp only [hw];repeat (first | (refine gb ?_;dsimp only [go_sem]) | (refine call (Zec _ _ _ _ _) ?_;dsimp only [go_sem]) | (refine call (Xs _ _ x.long _) ?_;dsimp only [go_sem]))
 simp only [List.length_map];refine br ?_ ?_
 . intro h;dsimp only [go_sem]
   (simp only [WO,Option.some.injEq,SV.v.injEq,Value.bool.injEq]<;>grind)
 . intro h;dsimp only [go_sem];have hh:WO n x=YQ 0 x.gates:=by simp only [WO];grind
   rw [hh];refine Yy (λs:Nat × Int=>[(40,I s.1),(5,I s.2)]) (λ_=>[]) (λs=>s.1<=x.gates.length/\YQ s.2 (x.gates.drop s.1)=YQ 0 x.gates) (λs=>x.gates.length - s.1) (0,0) ⟨Nat.zero_le _,rfl⟩ ?_ ?_
   . (refine Zj ?_ ?_ ?_ rfl rfl<;>dsimp only [Zg,id,go_sem]<;>simp [Zg,Za])
   . rintro ⟨k,next⟩ ⟨hk,hi⟩;dsimp only [go_sem];refine br ?_ ?_
     . intro hlt;have hlt:k < x.gates.length:=by simpa using hlt
       dsimp only [go_sem];refine Zo k hlt rfl ?_;dsimp only [Zg,go_sem];repeat (first | (refine gb ?_;dsimp only [go_sem]) | (refine call (Zdh _ _ x.gates[k].opens x.gates[k].shuts _) ?_;dsimp only [go_sem]) | (refine call (ZaC _ _ _ _) ?_;dsimp only [go_sem]))
       have hd:x.gates.drop k=x.gates[k] :: x.gates.drop (k+1):=List.drop_eq_getElem_cons hlt;refine br ?_ ?_
       . intro hb;dsimp only [go_sem];rw [<- hi,hd]
         (simp only [YQ,Option.some.injEq,SV.v.injEq,Value.bool.injEq]<;>grind)
       . intro hb;dsimp only [go_sem];have hs:Yl 0 100000 x.gates[k].shuts=true:=by grind
         simp only [Yl,decide_eq_true_eq] at hs;rw [Zh (n:=x.gates[k].shuts.hi+1) (by omega) (by omega),Zh (n:=(k:Int)+1) (by omega) (by omega)];refine ⟨(k+1,x.gates[k].shuts.hi+1),⟨hlt,?_⟩,by simp only;omega,?_⟩
         . rw [<- hi,hd];simp only [YQ];grind
         . (refine Zj ?_ ?_ ?_ rfl rfl<;>dsimp only [Zg,id,go_sem]<;>simp [Zg,Za])
     . intro hlt;have hlt:k=x.gates.length:=by simp at hlt;omega
       dsimp only [go_sem];rw [<- hi,hlt];simp [YQ]
theorem ZwS (l:Land) (x:Leg) (hs:Xu l) (hx:x ∈ l.legs):Ct Tryz.prog 133 [.agg (Zl x),.ps (Zt l) 0] (B (!WO l.wells.length x)):=by
 have hg:=hs.2.2 x hx;refine t133.1 (by simp [Zl,Zt,Zf,Zg,Za]) (by simp) ?_;dsimp only [c133,r133,Zl,Zt,go_sem];simp only [List.length_map];refine call (ZhP x l.wells.length (by omega) (by have:=hs.1;omega) (by omega)) ?_;dsimp only [go_sem]
theorem ZqO (w:Well):Ct Tryz.prog 130 [.agg (Zf w)] (B (!YS w)):=by
 refine t130.1 (by simp [Zf]) (by simp) ?_;dsimp only [c130,r130,Zf,go_sem];refine call (ZAB w) ?_;dsimp only [go_sem]
theorem Zdc (l:Land) (hs:Xu l):Ct Tryz.prog 85 [.agg (Zt l)] (I (if ZX l=true then 0 else 30)):=by
 refine t85.1 (by simp [Zt,Zf,Zl,Zg,Za]) (by simp) ?_;dsimp only [c85,r85,Zt,go_sem];refine call (con71 130 [] (by simp [KFL]) (λw=>!YS w) l.wells (λw _=>ZqO w) (by have:=hs.1;omega)) ?_;dsimp only [go_sem];refine Zaz (res:=B (l.legs.any λx=>!WO l.wells.length x)) (by simp [FLT]) ?_ ?_
 . dsimp only [go_sem];exact con74 133 [.ps (Zt l) 0] (by simp [Zt,Zf,Zl,Zg,Za]) (λx=>!WO l.wells.length x) l.legs (λx hx=>ZwS l x hs hx) (by have:=hs.2.1;omega)
 dsimp only [go_sem];repeat (first | (refine gb ?_;dsimp only [go_sem]) | (refine call (ZaC _ _ _ _) ?_;dsimp only [go_sem]))
 simp only [List.length_map];have key:ZX l = !(!inR 1 12 l.wells.length || decide ((l.legs.length:Int) > 24) || !(!l.wells.any λw=>!YS w) || !(!l.legs.any λx=>!WO l.wells.length x)):=by
  simp only [ZX,List.all_eq_not_any_not];grind
 rw [key];refine br ?_ ?_
 . intro h;dsimp only [go_sem];rw [h];rfl
 . intro h;dsimp only [go_sem];rw [h];rfl
theorem Zcr {w:Well} {s:Span} {n:Int} (hw:YS w=true) (h1:0<=s.lo) (h2:s.lo<=w.room) (h3:0<=s.hi) (h4:s.hi<=w.room) (h5:-200000<=n) (h6:n<=200000) :
 IntKind.i64.wrap (s.lo+IntKind.i64.wrap (n * w.yld.lo))=s.lo+n * w.yld.lo/\IntKind.i64.wrap (s.hi+IntKind.i64.wrap (n * w.yld.hi))=s.hi+n * w.yld.hi:=by
 simp only [YS,Yl,inR,Bool.and_eq_true,decide_eq_true_eq] at hw;have key:∀ y:Int,0<=y->y<=10000000->-2000000000000<=n * y/\n * y<=2000000000000:=λy a b=>by
  constructor
  . have:=Int.mul_le_mul_of_nonneg_right h5 a;omega
  . have:=Int.mul_le_mul_of_nonneg_right h6 a;omega
 have k1:=key w.yld.lo (by omega) (by omega);have k2:=key w.yld.hi (by omega) (by omega);rw [Zh (n:=n * w.yld.lo) (by omega) (by omega),Zh (n:=n * w.yld.hi) (by omega) (by omega),Zh (by omega) (by omega),Zh (by omega) (by omega)];exact ⟨rfl,rfl⟩
theorem Zeb {w:Well} {s:Span} {n:Int} (hw:YS w=true) (h1:0<=s.lo) (h2:s.lo<=w.room) (h3:0<=s.hi) (h4:s.hi<=w.room) (h5:-200000<=n) (h6:n<=200000):-2000000000000<=(Y6 w s n).lo:=by
 simp only [YS,Yl,inR,Bool.and_eq_true,decide_eq_true_eq] at hw;have k1:-2000000000000<=n * w.yld.lo:=by
  have:=Int.mul_le_mul_of_nonneg_right h5 (show 0<=w.yld.lo by omega);omega
 simp only [Y6];omega
theorem ZeM (w:Well) (s:Span) (n:Int) (hw:YS w=true) (h1:0<=s.lo) (h2:s.lo<=w.room) (h3:0<=s.hi) (h4:s.hi<=w.room) (h5:-200000<=n) (h6:n<=200000) :
 Ct Tryz.prog 86 [.agg (Zf w),.agg (Zc s),I n] (.agg (Zc (Y6 w s n))):=by
 obtain ⟨k1,k2⟩:=Zcr hw h1 h2 h3 h4 h5 h6;refine t86.1 (by simp [Zf,Zc]) (by simp [Zc]) ?_;dsimp only [c86,r86,Zf,Zc,go_sem];simp only [k1,k2,Y6]
theorem Zc7 (w:Well) (s:Span) (n:Int) (hw:YS w=true) (h1:0<=s.lo) (h2:s.lo<=w.room) (h3:0<=s.hi) (h4:s.hi<=w.room) (h5:-200000<=n) (h6:n<=200000) :
 Ct Tryz.prog 152 [.agg (Zf w),.agg (Zc s),I n] (.agg (Zc (Y6 w s n))):=by
 obtain ⟨k1,k2⟩:=Zcr hw h1 h2 h3 h4 h5 h6;refine t152.1 (by simp [Zf,Zc]) (by simp [Zc]) ?_;dsimp only [c152,r152,Zf,Zc,go_sem];simp only [k1,k2,Y6]
def Ze3 (r:Span × Int × Int):SV:=.tup [.agg (Zc r.1),I r.2.1,I r.2.2]
theorem Zg9 {l:Land} {well:Int} (h:inR 0 (l.wells.length - 1) well=true):∃ (k:Nat) (hk:k < l.wells.length),well=(k:Int)/\l.wells[well.toNat]? = some l.wells[k]:=by
 simp only [inR,decide_eq_true_eq] at h;refine ⟨well.toNat,by omega,by omega,?_⟩;rw [List.getElem?_eq_getElem (by omega)]
theorem ZnY (l:Land) (hs:Xu l) (well day:Int) (draws:List Draw) (hd:draws.length<=1000) :
 Ct Tryz.prog 42 [.agg (Zt l),I well,.sl false 3 (draws.map Z2),I day] (Ze3 (Xo l well draws day)):=by
 have hw1:IntKind.i64.wrap ((l.wells.length:Int) - 1)=(l.wells.length:Int) - 1:=Zh (by omega) (by have:=hs.1;omega);refine t42.1 (by simp [Zt,Zf,Zl,Zg,Z2,Za]) (by simp [Ze3,Zc]) ?_;dsimp only [c42,r42,Zt,go_sem];refine call (Zdc l hs) ?_;dsimp only [go_sem];by_cases ho:ZX l=true
 case neg =>
  rw [if_neg ho];refine Zq rfl ?_;dsimp only [go_sem];simp [Xo,ho,Ze3,Zc]
 rw [if_pos ho];refine Zr rfl ?_;dsimp only [go_sem];simp only [List.length_map,hw1];repeat (first | (refine gb ?_;dsimp only [go_sem]) | (refine call (ZaC _ _ _ _) ?_;dsimp only [go_sem]))
 by_cases ha:(inR 0 (l.wells.length - 1) well && inR 0 100000 day)=true
 case neg =>
  refine Zq (by grind) ?_;dsimp only [go_sem];simp [Xo,ho,Ze3,Zc,ha]
 refine Zr (by grind) ?_;dsimp only [go_sem];by_cases hm:draws.length > 200
 case pos =>
  refine Zq (by simp;omega) ?_;dsimp only [go_sem];simp [Xo,ho,Ze3,Zc,ha,hm]
 refine Zr (by simp;omega) ?_;dsimp only [go_sem];refine Yy (λs:Nat × Int=>[(50,I s.1),(12,I s.2)]) (λ_=>[]) (λs=>s.1<=draws.length/\Xw l.wells.length s.2 (draws.drop s.1)=Xw l.wells.length 0 draws) (λs=>draws.length - s.1) (0,0) ⟨Nat.zero_le _,rfl⟩ ?_ ?_
 . (refine Zj ?_ ?_ ?_ rfl rfl<;>dsimp only [Zg,Zf,Zl,Z2,id,go_sem]<;>simp [Zg,Zf,Zl,Z2,Za])
 . rintro ⟨k,last⟩ ⟨hk,hi⟩;simp only at hk hi;dsimp only [go_sem];by_cases hlt:k < draws.length
   . refine Zq (by simpa using hlt) ?_;dsimp only [go_sem];refine Zo k hlt rfl ?_;dsimp only [Z2,go_sem];simp only [List.length_map,hw1];repeat (first | (refine gb ?_;dsimp only [go_sem]) | (refine call (ZaC _ _ _ _) ?_;dsimp only [go_sem]))
     have hdr:draws.drop k=draws[k] :: draws.drop (k+1):=List.drop_eq_getElem_cons hlt;rw [hdr] at hi;simp only [Xw] at hi;refine br ?_ ?_
     . intro h;dsimp only [go_sem];have:Xw l.wells.length 0 draws=false:=by rw [<- hi];grind
       simp [Xo,ho,Ze3,Zc,ha,hm,this]
     . intro h;dsimp only [go_sem];rw [Zh (n:=(k:Int)+1) (by omega) (by omega)];refine ⟨(k+1,draws[k].day),⟨hlt,?_⟩,by simp only;omega,?_⟩
       . simp only;grind
       . (refine Zj ?_ ?_ ?_ rfl rfl<;>dsimp only [Zg,Zf,Zl,Z2,id,go_sem]<;>simp [Zg,Zf,Zl,Z2,Za])
   . refine Zr (by simp;omega) ?_;dsimp only [go_sem];have hk':k=draws.length:=by omega
     subst hk';simp only [List.drop_length,Xw] at hi;obtain ⟨kw,hkw,rfl,hget⟩:=Zg9 (Bool.and_eq_true_iff.1 ha).1;refine Zo kw hkw rfl ?_;dsimp only [Zf,go_sem];have hwf:Xo l kw draws day=Wd l.wells[kw] kw day l.wells[kw].has (-1) 0 draws:=by
      simp only [Xo,ho,ha,hm,<- hi,hget];simp
     rw [hwf];have hok:=Zcv ho l.wells[kw] (List.getElem_mem _);have hmem:=Uv hi.symm (Int.le_refl _);have hday:0<=day/\day<=100000:=by simp only [inR,Bool.and_eq_true,decide_eq_true_eq] at ha;omega
     have hroom:0<=l.wells[kw].has.lo/\l.wells[kw].has.lo<=l.wells[kw].room/\0<=l.wells[kw].has.hi/\l.wells[kw].has.hi<=l.wells[kw].room/\l.wells[kw].room<=1000000000:=by
      simp only [YS,Yl,inR,Bool.and_eq_true,decide_eq_true_eq] at hok;omega
     have hroom2:∀ x:Int,x<=l.wells[kw].room->x<=1000000000:=λx h=>by omega
     refine Yy (λs:Nat × Span × Int=>[(91,I s.1),(17,I s.2.2)]) (λs=>[(3,.cells (Zc s.2.1) 27)])
      (λs=>s.1<=draws.length/\Wd l.wells[kw] kw day s.2.1 s.2.2 s.1 (draws.drop s.1)=Wd l.wells[kw] kw day l.wells[kw].has (-1) 0 draws /\
       0<=s.2.1.lo/\s.2.1.lo<=l.wells[kw].room/\0<=s.2.1.hi/\s.2.1.hi<=l.wells[kw].room/\-1<=s.2.2/\s.2.2<=100000) (λs=>draws.length - s.1) (0,l.wells[kw].has,-1)
      ⟨Nat.zero_le _,rfl,hroom.1,hroom.2.1,hroom.2.2.1,hroom.2.2.2.1,by simp,by simp⟩ ?_ ?_
     . (refine Zj ?_ ?_ ?_ rfl rfl<;>dsimp only [Zg,Zf,Zl,Z2,Zc,id,go_sem]<;>simp [Zg,Zf,Zl,Z2,Zc,Za])
     . rintro ⟨k,now,ev⟩ ⟨hk2,hi2,n1,n2,n3,n4,e1,e2⟩;simp only at hk2 hi2 n1 n2 n3 n4 e1 e2;dsimp only [Zc,go_sem];by_cases hlt2:k < draws.length
       . refine Zq (by simpa using hlt2) ?_;dsimp only [go_sem];refine Zo k hlt2 rfl ?_;dsimp only [Z2,go_sem];repeat (first | (refine gb ?_;dsimp only [go_sem]))
         have hx:=hmem draws[k] (List.getElem_mem _);have hdr:draws.drop k=draws[k] :: draws.drop (k+1):=List.drop_eq_getElem_cons hlt2;rw [hdr] at hi2;simp only [Wd] at hi2;by_cases hc:(draws[k].well != (kw:Int) || decide (draws[k].day ≥ day))=true
         . refine Zq hc ?_;dsimp only [go_sem];rw [if_pos hc] at hi2;rw [Zh (n:=(k:Int)+1) (by omega) (by omega)];refine ⟨(k+1,now,ev),⟨hlt2,hi2,n1,n2,n3,n4,e1,e2⟩,by simp only;omega,?_⟩;(refine Zj ?_ ?_ ?_ rfl rfl<;>dsimp only [Zg,Zf,Zl,Z2,Zc,id,go_sem]<;>simp [Zg,Zf,Zl,Z2,Zc,Za])
         . refine Zr (by simpa using hc) ?_;rw [if_neg hc] at hi2;dsimp only [go_sem];rw [Zh (n:=draws[k].day - ev) (by omega) (by omega)];refine call (ZeM l.wells[kw] now (draws[k].day - ev) hok n1 n2 n3 n4 (by omega) (by omega)) ?_;dsimp only [Zc,go_sem];have hbig:-2000000000000<=(Y6 l.wells[kw] now (draws[k].day - ev)).lo:=Zeb hok n1 n2 n3 n4 (by omega) (by omega);have hf2:(Y6 l.wells[kw] now (draws[k].day - ev)).hi<=l.wells[kw].room:=by simp only [Y6];omega
           have hf1:(Y6 l.wells[kw] now (draws[k].day - ev)).lo<=l.wells[kw].room:=by simp only [Y6];omega
           generalize hF:Y6 l.wells[kw] now (draws[k].day - ev)=F at *;by_cases hdry:F.hi < draws[k].water
           . refine Zq (by simpa using hdry) ?_;dsimp only [go_sem];rw [if_pos hdry] at hi2;rw [<- hi2];rfl
           . refine Zr (by simpa using hdry) ?_;dsimp only [go_sem];rw [if_neg hdry] at hi2;rw [Zh (n:=F.lo - draws[k].water) (by omega) (by omega),Zh (n:=F.hi - draws[k].water) (by omega) (by omega),Zh (n:=(k:Int)+1) (by omega) (by omega)];refine ⟨(k+1,⟨max 0 (F.lo - draws[k].water),F.hi - draws[k].water⟩,draws[k].day),⟨hlt2,hi2,by simp only;omega,by simp only;omega,by simp only;omega,by simp only;omega,by simp only;omega,by simp only;omega⟩,by simp only;omega,?_⟩
             (refine Zj ?_ ?_ ?_ rfl rfl<;>dsimp only [Zg,Zf,Zl,Z2,Zc,id,go_sem]<;>simp [Zg,Zf,Zl,Z2,Zc,Za])
       . refine Zr (by simp;omega) ?_;dsimp only [go_sem];rw [Zh (n:=day - 1) (by omega) (by omega),Zh (n:=day - 1 - ev) (by omega) (by omega)];refine call (ZeM l.wells[kw] now (day - 1 - ev) hok n1 n2 n3 n4 (by omega) (by omega)) ?_;dsimp only [Zc,go_sem];have hk':k=draws.length:=by omega
         subst hk';simp only [List.drop_length,Wd] at hi2;rw [<- hi2];rfl
end Go.Proofs.YtiigiflofnjilaaGreat
namespace Go.Azalai
structure Breed where
 full:Int
 fed:Int
 rest:Span
 heat:Span
 toil:Span
 burn:Span
 rub:Span
 milk:Span
 heal:Int
 strong:Span
deriving DecidableEq
structure Camel where
 water:Span
 fat:Span
 sore:Span
 milks:Bool
deriving DecidableEq
structure March where
 hours:Int
 load:Int
 heat:Span
 grass:Span
 drinks:Span
deriving DecidableEq
def ZA (b:Breed):Bool :=
 inR 1 1000000 b.full && inR 1 1000000 b.fed && inR 0 1000 b.heal && Yl 0 1000000 b.strong && Yl 0 100000 b.rest && Yl 0 100000 b.heat && Yl 0 100000 b.toil && Yl 0 100000 b.burn && Yl 0 100000 b.rub && Yl 0 100000 b.milk
def Zz (b:Breed) (c:Camel):Bool:=Yl 0 b.full c.water && Yl 0 b.fed c.fat && Yl 0 1000 c.sore
def Z7 (m:March):Bool:=inR 0 24 m.hours && inR 0 1000000 m.load && Yl 0 60 m.heat && Yl 0 1000000 m.grass && Yl 0 1000000 m.drinks
def ZyS (b:Breed):Int:=if ZA b=true then 0 else 10
def ZaG (b:Breed) (c:Camel):Int:=if ZA b=false then 10 else if Zz b c=false then 11 else 0
def upF (a b:Int):Int:=(a+b - 1).tdiv b
def Wo:Span:=⟨0,0⟩
def Zbl (b:Breed) (c:Camel):Span :=
 ⟨min 1000 (min ((2000 * c.water.lo).tdiv b.full) (min ((2000 * c.fat.lo).tdiv b.fed) (1000 - c.sore.hi))),min 1000 (min (upF (2000 * c.water.hi) b.full) (min (upF (2000 * c.fat.hi) b.fed) (1000 - c.sore.lo)))⟩
def Zs7 (b:Breed) (c:Camel):Span:=⟨(b.strong.lo * (Zbl b c).lo).tdiv 1000,upF (b.strong.hi * (Zbl b c).hi) 1000⟩
def Yw (m:March):Int:=m.hours * (100000+m.load)
def WB (b:Breed) (milks:Bool) (m:March):Span :=
 ⟨b.rest.lo+b.heat.lo * max 0 (m.heat.lo - 20)+(b.toil.lo * Yw m).tdiv 100000+(if milks then b.milk.lo else 0),b.rest.hi+b.heat.hi * max 0 (m.heat.hi - 20)+upF (b.toil.hi * Yw m) 100000+(if milks then b.milk.hi else 0)⟩
def WX (b:Breed) (m:March):Span:=⟨(b.burn.lo * Yw m).tdiv 100000,upF (b.burn.hi * Yw m) 100000⟩
theorem YY {a A d:Int} (h0:0<=a) (h1:a<=A) (hd:1<=d):0<=a.tdiv d/\a.tdiv d<=A :=
 ⟨Int.tdiv_nonneg h0 (by omega),Int.le_trans (Int.tdiv_le_self d h0) h1⟩
theorem ZfI {a A d:Int} (h0:0<=a) (h1:a<=A) (hd:1<=d):0<=upF a d/\upF a d<=A+d:=by
 have:=YY (a:=a+d - 1) (A:=A+d) (d:=d) (by omega) (by omega) hd;exact this
end Go.Azalai
namespace Go.Proofs.YtiigiflofnjilaaGreat.Cm
open Go Go.Sx Go.Azalai
def breedL (b:Breed):List SV:=[I b.full,I b.fed,I b.rest.lo,I b.rest.hi,I b.heat.lo,I b.heat.hi,I b.toil.lo,I b.toil.hi,I b.burn.lo,I b.burn.hi,I b.rub.lo,I b.rub.hi,I b.milk.lo,I b.milk.hi,I b.heal,I b.strong.lo,I b.strong.hi]
def camelL (c:Camel):List SV:=[I c.water.lo,I c.water.hi,I c.fat.lo,I c.fat.hi,I c.sore.lo,I c.sore.hi,B c.milks]
def YI (b:Breed) (c:Camel):List SV:=[I b.full,I b.fed,I b.rest.lo,I b.rest.hi,I b.heat.lo,I b.heat.hi,I b.toil.lo,I b.toil.hi,I b.burn.lo,I b.burn.hi,I b.rub.lo,I b.rub.hi,I b.milk.lo,I b.milk.hi,I b.heal,I b.strong.lo,I b.strong.hi,I c.water.lo,I c.water.hi,I c.fat.lo,I c.fat.hi,I c.sore.lo,I c.sore.hi,B c.milks]
def Ym (m:March):List SV:=[I m.hours,I m.load,I m.heat.lo,I m.heat.hi,I m.grass.lo,I m.grass.hi,I m.drinks.lo,I m.drinks.hi]
theorem W8 {α : Type} (g:α->Bool) (l:List α):decide (WF g l 0 ≥ 0)=l.any g:=ZfA g l 0
theorem Zk4 (h:Nat) (caps:List SV) (hk:KFL caps) (g:Int->Bool) (l:List Int) (hg:∀ x ∈ l,Ct Tryz.prog h (I x :: caps) (B (g x))) (hl:l.length < 4611686018427387904) {c:Bool} :
 Ct Tryz.prog 141 [.sl c 1 (l.map Zn),.cl h caps] (I (WF g l 0)):=by
 refine t141.1 ⟨by simp [KF,Za,KFL,Zn],hk,trivial⟩ (by simp [KF]) ?_;dsimp only [c141,r141,go_sem];refine Yy (λk:Nat=>[(8,I k)]) (λ_=>[]) (λk=>k<=l.length/\WF g (l.drop k) k=WF g l 0) (λk=>l.length - k) 0 ⟨Nat.zero_le _,rfl⟩ ?_ ?_
 . (refine Zj ?_ ?_ ?_ rfl rfl<;>dsimp only [Zn,hk,id,go_sem]<;>simp [Zn,hk,Za])
 . intro k ⟨hk',hi⟩;dsimp only [go_sem];refine br ?_ ?_
   . intro hlt;have hlt:k < l.length:=by simpa using hlt
     dsimp only [go_sem];refine Zo k hlt rfl ?_;dsimp only [Zn,go_sem];refine call (hg l[k] (List.getElem_mem _)) ?_;dsimp only [go_sem];refine br ?_ ?_
     . intro hgx;dsimp only [go_sem];rw [<- hi,List.drop_eq_getElem_cons hlt];simp [WF,hgx]
     . intro hgx;dsimp only [go_sem];refine ⟨k+1,⟨by omega,?_⟩,by omega,?_⟩
       . rw [<- hi,List.drop_eq_getElem_cons hlt];simp [WF,hgx]
       . rw [Zh (by omega) (by omega)];(refine Zj ?_ ?_ ?_ rfl rfl<;>dsimp only [Zn,hk,id,go_sem]<;>simp [Zn,hk,Za])
   . intro hlt;have hlt:k=l.length:=by simp at hlt;omega
     dsimp only [go_sem];rw [<- hi,hlt];simp [WF]
theorem con91 (h:Nat) (caps:List SV) (hk:KFL caps) (g:Int->Bool) (l:List Int) (hg:∀ x ∈ l,Ct Tryz.prog h (I x :: caps) (B (g x))) (hl:l.length < 4611686018427387904) {c:Bool} :
 Ct Tryz.prog 98 [.sl c 1 (l.map Zn),.cl h caps] (B (l.any g)):=by
 refine t98.1 ⟨by simp [KF,Za,KFL,Zn],hk,trivial⟩ (by simp [KF]) ?_;dsimp only [c98,r98,go_sem];refine call (Zk4 h caps hk g l hg hl) ?_;dsimp only [go_sem];rw [W8]
theorem ZAW (h:Nat) (caps:List SV) (hk:KFL caps) (g:Span->Bool) (l:List Span) (hg:∀ x ∈ l,Ct Tryz.prog h (.agg (Zc x) :: caps) (B (g x))) (hl:l.length < 4611686018427387904) {c:Bool} :
 Ct Tryz.prog 143 [.sl c 2 (l.map Zc),.cl h caps] (I (WF g l 0)):=by
 refine t143.1 ⟨by simp [KF,Za,KFL,Zc],hk,trivial⟩ (by simp [KF]) ?_;dsimp only [c143,r143,go_sem];refine Yy (λk:Nat=>[(8,I k)]) (λ_=>[]) (λk=>k<=l.length/\WF g (l.drop k) k=WF g l 0) (λk=>l.length - k) 0 ⟨Nat.zero_le _,rfl⟩ ?_ ?_
 . (refine Zj ?_ ?_ ?_ rfl rfl<;>dsimp only [Zc,hk,id,go_sem]<;>simp [Zc,hk,Za])
 . intro k ⟨hk',hi⟩;dsimp only [go_sem];refine br ?_ ?_
   . intro hlt;have hlt:k < l.length:=by simpa using hlt
     dsimp only [go_sem];refine Zo k hlt rfl ?_;dsimp only [Zc,go_sem];refine call (hg l[k] (List.getElem_mem _)) ?_;dsimp only [go_sem];refine br ?_ ?_
     . intro hgx;dsimp only [go_sem];rw [<- hi,List.drop_eq_getElem_cons hlt];simp [WF,hgx]
     . intro hgx;dsimp only [go_sem];refine ⟨k+1,⟨by omega,?_⟩,by omega,?_⟩
       . rw [<- hi,List.drop_eq_getElem_cons hlt];simp [WF,hgx]
       . rw [Zh (by omega) (by omega)];(refine Zj ?_ ?_ ?_ rfl rfl<;>dsimp only [Zc,hk,id,go_sem]<;>simp [Zc,hk,Za])
   . intro hlt;have hlt:k=l.length:=by simp at hlt;omega
     dsimp only [go_sem];rw [<- hi,hlt];simp [WF]
theorem con93 (h:Nat) (caps:List SV) (hk:KFL caps) (g:Span->Bool) (l:List Span) (hg:∀ x ∈ l,Ct Tryz.prog h (.agg (Zc x) :: caps) (B (g x))) (hl:l.length < 4611686018427387904) {c:Bool} :
 Ct Tryz.prog 102 [.sl c 2 (l.map Zc),.cl h caps] (B (l.any g)):=by
 refine t102.1 ⟨by simp [KF,Za,KFL,Zc],hk,trivial⟩ (by simp [KF]) ?_;dsimp only [c102,r102,go_sem];refine call (ZAW h caps hk g l hg hl) ?_;dsimp only [go_sem];rw [W8]
theorem ZW (n lo hi:Int):Ct Tryz.prog 165 [I n,I lo,I hi] (B (inR lo hi n)):=by
 refine t165.1 (by simp) (by simp) ?_;dsimp only [c165,r165,go_sem];refine gb ?_;dsimp only [go_sem];refine gb ?_;dsimp only [go_sem];refine gb ?_;dsimp only [go_sem];simp [inR]
theorem ZO (s:Span) (lo hi:Int):Ct Tryz.prog 166 [.agg (Zc s),I lo,I hi] (B (Yl lo hi s)):=by
 refine t166.1 (by simp [Zc]) (by simp) ?_;dsimp only [c166,r166,Zc,go_sem];refine call (ZW _ _ _) ?_;dsimp only [go_sem];repeat (refine gb ?_;dsimp only [go_sem])
 (simp only [Yl,inR,Option.some.injEq,SV.v.injEq,Value.bool.injEq]<;>grind)
theorem Zdw (lo hi x:Int):Ct Tryz.prog 160 [I x,.ps [I lo] 0,.ps [I hi] 0] (B (!inR lo hi x)):=by
 refine t160.1 (by simp) (by simp) ?_;dsimp only [c160,r160,go_sem];repeat (refine gb ?_;dsimp only [go_sem])
 (simp only [inR,Option.some.injEq,SV.v.injEq,Value.bool.injEq]<;>grind)
theorem Zah (lo hi:Int) (l:List Int) (hl:l.length < 4611686018427387904) (c:Bool):Ct Tryz.prog 125 [I lo,I hi,.sl c 1 (l.map Zn)] (B (l.all (inR lo hi))):=by
 refine t125.1 (by simp [Za,Zn]) (by simp) ?_;dsimp only [c125,r125,go_sem];refine Zaz (by simp [FLT]) (res:=B (l.any λx=>!inR lo hi x)) ?_ ?_
 . dsimp only [go_sem];exact con91 160 [.ps [I lo] 0,.ps [I hi] 0] (by simp) (λx=>!inR lo hi x) l (λx _=>Zdw lo hi x) hl
 . dsimp only [go_sem];simp [List.all_eq_not_any_not]
theorem ZaC (lo hi a:Int) (c:Bool):Ct Tryz.prog 125 [I lo,I hi,.sl c 1 [[I a]]] (B (inR lo hi a)):=by
 have:=Zah lo hi [a] (by simp) c;simpa [Zn] using this
theorem Zec (lo hi a b:Int) (c:Bool):Ct Tryz.prog 125 [I lo,I hi,.sl c 1 [[I a],[I b]]] (B (inR lo hi a && inR lo hi b)):=by
 have:=Zah lo hi [a,b] (by simp) c;simpa [Zn] using this
theorem Uq (lo hi:Int) (s:Span):Ct Tryz.prog 142 [.agg (Zc s),.ps [I lo] 0,.ps [I hi] 0] (B (!Yl lo hi s)):=by
 refine t142.1 (by simp [Zc]) (by simp) ?_;dsimp only [c142,r142,Zc,go_sem];repeat (first | (refine gb ?_;dsimp only [go_sem]) | (refine call (Zec _ _ _ _ _) ?_;dsimp only [go_sem]))
 (simp only [Yl,inR,Option.some.injEq,SV.v.injEq,Value.bool.injEq]<;>grind)
theorem XF (lo hi:Int) (l:List Span) (hl:l.length < 4611686018427387904) (c:Bool):Ct Tryz.prog 101 [I lo,I hi,.sl c 2 (l.map Zc)] (B (l.all (Yl lo hi))):=by
 refine t101.1 (by simp [Za,Zc]) (by simp) ?_;dsimp only [c101,r101,go_sem];refine Zaz (by simp [FLT]) (res:=B (l.any λx=>!Yl lo hi x)) ?_ ?_
 . dsimp only [go_sem];exact con93 142 [.ps [I lo] 0,.ps [I hi] 0] (by simp) (λx=>!Yl lo hi x) l (λx _=>Uq lo hi x) hl
 . dsimp only [go_sem];simp [List.all_eq_not_any_not]
theorem Xs (lo hi:Int) (s:Span) (c:Bool):Ct Tryz.prog 101 [I lo,I hi,.sl c 2 [[I s.lo,I s.hi]]] (B (Yl lo hi s)):=by
 have:=XF lo hi [s] (by simp) c;simpa [Zc] using this
theorem Zdh (lo hi:Int) (s t:Span) (c:Bool):Ct Tryz.prog 101 [I lo,I hi,.sl c 2 [[I s.lo,I s.hi],[I t.lo,I t.hi]]] (B (Yl lo hi s && Yl lo hi t)):=by
 have:=XF lo hi [s,t] (by simp) c;simpa [Zc] using this
theorem Zo8 (lo hi:Int) (a b c d e f:Span) (k:Bool):Ct Tryz.prog 101 [I lo,I hi,.sl k 2 [[I a.lo,I a.hi],[I b.lo,I b.hi],[I c.lo,I c.hi],[I d.lo,I d.hi],[I e.lo,I e.hi],[I f.lo,I f.hi]]]
 (B (Yl lo hi a && (Yl lo hi b && (Yl lo hi c && (Yl lo hi d && (Yl lo hi e && Yl lo hi f)))))):=by
 have:=XF lo hi [a,b,c,d,e,f] (by simp) k;simpa [Zc] using this
theorem ZdE (b:Breed):Ct Tryz.prog 100 [.agg (breedL b)] (I (ZyS b)):=by
 refine t100.1 (by simp [breedL]) (by simp) ?_;dsimp only [c100,r100,breedL,go_sem];repeat (first | (refine gb ?_;dsimp only [go_sem]) | (refine call (ZaC _ _ _ _) ?_;dsimp only [go_sem]) | (refine call (Zec _ _ _ _ _) ?_;dsimp only [go_sem]) | (refine call (Zo8 _ _ b.rest b.heat b.toil b.burn b.rub b.milk _) ?_;dsimp only [go_sem]) | (refine call (Xs _ _ b.strong _) ?_;dsimp only [go_sem]))
 refine br ?_ ?_
 . intro h;dsimp only [go_sem];have:ZA b=false:=by simp only [ZA];grind
   simp [ZyS,this]
 . intro h;dsimp only [go_sem];have:ZA b=true:=by simp only [ZA];grind
   simp [ZyS,this]
theorem Zmm (b:Breed):Ct Tryz.prog 138 [.agg (breedL b)] (B (ZA b)):=by
 refine t138.1 (by simp [breedL]) (by simp) ?_;dsimp only [c138,r138,breedL,go_sem];repeat (first | (refine gb ?_;dsimp only [go_sem]) | (refine call (ZW _ _ _) ?_;dsimp only [go_sem]) | (refine call (ZO b.strong _ _) ?_;dsimp only [go_sem]))
 refine br ?_ ?_
 . intro h;dsimp only [go_sem];have:ZA b=false:=by simp only [ZA];grind
   simp [this]
 . intro h;dsimp only [go_sem];repeat (first | (refine gb ?_;dsimp only [go_sem]) | (refine call (ZO b.rest _ _) ?_;dsimp only [go_sem]) | (refine call (ZO b.heat _ _) ?_;dsimp only [go_sem]) | (refine call (ZO b.toil _ _) ?_;dsimp only [go_sem]) | (refine call (ZO b.burn _ _) ?_;dsimp only [go_sem]) | (refine call (ZO b.rub _ _) ?_;dsimp only [go_sem]) | (refine call (ZO b.milk _ _) ?_;dsimp only [go_sem]))
   (simp only [ZA,Option.some.injEq,SV.v.injEq,Value.bool.injEq]<;>grind)
theorem checkCamel_ok (b:Breed) (c:Camel):Ct Tryz.prog 54 [.agg (breedL b),.agg (camelL c)] (I (ZaG b c)):=by
 refine t54.1 (by simp [breedL,camelL]) (by simp) ?_;dsimp only [c54,r54,breedL,camelL,go_sem];refine call (ZdE b) ?_;dsimp only [go_sem];by_cases hb:ZA b=true
 case neg =>
  refine Zq (by simp [ZyS,hb]) ?_;dsimp only [go_sem];simp [ZyS,ZaG,hb]
 refine Zr (by simp [ZyS,hb]) ?_;dsimp only [go_sem];repeat (first | (refine gb ?_;dsimp only [go_sem]) | (refine call (Xs _ _ c.water _) ?_;dsimp only [go_sem]) | (refine call (Xs _ _ c.fat _) ?_;dsimp only [go_sem]) | (refine call (Xs _ _ c.sore _) ?_;dsimp only [go_sem]))
 refine br ?_ ?_
 . intro h;dsimp only [go_sem];have:Zz b c=false:=by simp only [Zz];grind
   simp [ZaG,this,hb]
 . intro h;dsimp only [go_sem];have:Zz b c=true:=by simp only [Zz];grind
   simp [ZaG,this,hb]
theorem ZjQ (b:Breed) (c:Camel):Ct Tryz.prog 139 [.agg (breedL b),.agg (camelL c)] (B (Zz b c)):=by
 refine t139.1 (by simp [breedL,camelL]) (by simp) ?_;dsimp only [c139,r139,breedL,camelL,go_sem];repeat (first | (refine gb ?_;dsimp only [go_sem]) | (refine call (ZO c.water _ _) ?_;dsimp only [go_sem]) | (refine call (ZO c.fat _ _) ?_;dsimp only [go_sem]) | (refine call (ZO c.sore _ _) ?_;dsimp only [go_sem]))
 (simp only [Zz,Option.some.injEq,SV.v.injEq,Value.bool.injEq]<;>grind)
theorem checkCamelR_ok (b:Breed) (c:Camel):Ct Tryz.prog 95 [.agg (breedL b),.agg (camelL c)] (I (ZaG b c)):=by
 refine t95.1 (by simp [breedL,camelL]) (by simp) ?_;dsimp only [c95,r95,breedL,camelL,go_sem];refine call (Zmm b) ?_;dsimp only [go_sem];by_cases hb:ZA b=true
 case neg =>
  refine Zq (by simp [hb]) ?_;dsimp only [go_sem];simp [ZaG,hb]
 refine Zr (by simp [hb]) ?_;dsimp only [go_sem];refine call (ZjQ b c) ?_;dsimp only [go_sem];refine br ?_ ?_
 . intro h;dsimp only [go_sem];have:Zz b c=false:=by simpa using h
   simp [ZaG,this,hb]
 . intro h;dsimp only [go_sem];have:Zz b c=true:=by simpa using h
   simp [ZaG,this,hb]
theorem ZmY (m:March):Ct Tryz.prog 169 [.agg (Ym m)] (B (Z7 m)):=by
 refine t169.1 (by simp [Ym]) (by simp) ?_;dsimp only [c169,r169,Ym,go_sem];repeat (first | (refine gb ?_;dsimp only [go_sem]) | (refine call (ZW _ _ _) ?_;dsimp only [go_sem]) | (refine call (ZO m.heat _ _) ?_;dsimp only [go_sem]) | (refine call (ZO m.grass _ _) ?_;dsimp only [go_sem]) | (refine call (ZO m.drinks _ _) ?_;dsimp only [go_sem]))
 (simp only [Z7,Option.some.injEq,SV.v.injEq,Value.bool.injEq]<;>grind)
theorem Zet (l:List March) (hl:l.length < 4611686018427387904) (c:Bool):Ct Tryz.prog 83 [.sl c 8 (l.map Ym)] (I (if l.all Z7=true then 0 else 12)):=by
 refine t83.1 (by simp [Ym,Za]) (by simp) ?_;dsimp only [c83,r83,go_sem];refine Yy (λk:Nat=>[(7,I k)]) (λ_=>[]) (λk=>k<=l.length/\(l.drop k).all Z7=l.all Z7) (λk=>l.length - k) 0 ⟨Nat.zero_le _,rfl⟩ ?_ ?_
 . (refine Zj ?_ ?_ ?_ rfl rfl<;>dsimp only [Ym,id,go_sem]<;>simp [Ym,Za])
 intro k ⟨hk,hi⟩;dsimp only [go_sem];by_cases hlt:k < l.length
 . refine Zq (by simpa using hlt) ?_;dsimp only [go_sem];refine Zo k hlt rfl ?_;dsimp only [Ym,go_sem];repeat (first | (refine gb ?_;dsimp only [go_sem]) | (refine call (ZaC _ _ _ _) ?_;dsimp only [go_sem]) | (refine call (Xs _ _ l[k].heat _) ?_;dsimp only [go_sem]) | (refine call (Zdh _ _ l[k].grass l[k].drinks _) ?_;dsimp only [go_sem]))
   rw [List.drop_eq_getElem_cons hlt,List.all_cons] at hi;refine br ?_ ?_
   . intro h;dsimp only [go_sem];have:Z7 l[k]=false:=by simp only [Z7];grind
     rw [<- hi,this];rfl
   . intro h;dsimp only [go_sem];have:Z7 l[k]=true:=by simp only [Z7];grind
     rw [this,Bool.true_and] at hi;rw [Zh (n:=(k:Int)+1) (by omega) (by omega)];refine ⟨k+1,⟨hlt,hi⟩,by omega,?_⟩;(refine Zj ?_ ?_ ?_ rfl rfl<;>dsimp only [Ym,id,go_sem]<;>simp [Ym,Za])
 . refine Zr (by simp;omega) ?_;dsimp only [go_sem];have hke:k=l.length:=by omega
   subst hke;rw [List.drop_length] at hi;rw [<- hi];rfl
theorem ZkO (m:March) (c:Bool):Ct Tryz.prog 83 [.sl c 8 [Ym m]] (I (if Z7 m=true then 0 else 12)):=by
 have:=Zet [m] (by simp) c;simpa using this
theorem ZjD {a b A:Int} (h0:0<=a) (h1:a<=A) (hA:A<=1000000000000000) (hb:1<=b) (hb2:b<=1000000000) :
 IntKind.i64.wrap (a+b)=a+b/\IntKind.i64.wrap (a+b - 1)=a+b - 1/\IntKind.i64.wrap ((a+b - 1).tdiv b)=upF a b:=by
 have:=ZfI h0 h1 hb;refine ⟨Zh (by omega) (by omega),Zh (by omega) (by omega),?_⟩;unfold upF at *;exact Zh (by omega) (by omega)
theorem Zf1 (a b:Int) (h0:0<=a) (h1:a<=1000000000000000) (hb:1<=b) (hb2:b<=1000000000):Ct Tryz.prog 124 [I a,I b] (I (upF a b)):=by
 obtain ⟨q1,q2,q3⟩:=ZjD h0 h1 (Int.le_refl _) hb hb2;refine t124.1 (by simp) (by simp) ?_;dsimp only [c124,r124,go_sem];simp only [q1,q2];refine ZcV (by omega) ?_;dsimp only [go_sem];rw [q3]
theorem ZaZ (a b:Int) (h0:0<=a) (h1:a<=1000000000000000) (hb:1<=b) (hb2:b<=1000000000):Ct Tryz.prog 148 [I a,I b] (I (upF a b)):=by
 obtain ⟨q1,q2,q3⟩:=ZjD h0 h1 (Int.le_refl _) hb hb2;refine t148.1 (by simp) (by simp) ?_;dsimp only [c148,r148,go_sem];simp only [q1,q2];refine ZcV (by omega) ?_;dsimp only [go_sem];rw [q3]
def scl (s:Span) (b n:Int):Span:=⟨(s.lo * n).tdiv b,upF (s.hi * n) b⟩
theorem ZfD (s:Span) (b n A:Int) (c:Bool) (h1:0<=s.lo) (h2:s.lo<=s.hi) (h3:0<=n) (h4:s.hi * n<=100000000000000) (hb:1<=b) (hb2:b<=1000000000) :
 Ct Tryz.prog 128 [.agg (Zc s),I b,.sl c 1 [[I n]]] (.agg (Zc (scl s b n))):=by
 have k1:0<=s.lo * n:=Int.mul_nonneg h1 h3;have k2:s.lo * n<=s.hi * n:=Int.mul_le_mul_of_nonneg_right h2 h3;refine t128.1 (by simp [Zc,KFR]) (by simp [Zc]) ?_;dsimp only [c128,r128,Zc,go_sem];refine Xt 2 ?_;dsimp only [Zd,go_sem];refine Zq (by decide) ?_;dsimp only [Zd,go_sem];refine ixs 0 [I n] rfl rfl ?_;dsimp only [Zd,go_sem];refine Zr (by decide) ?_;dsimp only [go_sem];rw [Zh (n:=s.lo * n) (by omega) (by omega),Zh (n:=s.hi * n) (by omega) (by omega)]
 refine ZcV (by omega) ?_;dsimp only [go_sem];refine call (Zf1 _ _ (by omega) (by omega) hb hb2) ?_;dsimp only [go_sem];have:=YY k1 (Int.le_trans k2 h4) hb;rw [Zh (n:=(s.lo * n).tdiv b) (by omega) (by omega)];rfl
theorem Zav (s:Span) (b n m A:Int) (c:Bool) (h1:0<=s.lo) (h2:s.lo<=s.hi) (h3:0<=n) (h3':0<=m) (h4:s.hi * n<=100000000000000) (h5:s.hi * n * m<=100000000000000) (hb:1<=b) (hb2:b<=1000000000) :
 Ct Tryz.prog 128 [.agg (Zc s),I b,.sl c 1 [[I n],[I m]]] (.agg (Zc ⟨(s.lo * n * m).tdiv b,upF (s.hi * n * m) b⟩)):=by
 have k1:0<=s.lo * n:=Int.mul_nonneg h1 h3;have k2:s.lo * n<=s.hi * n:=Int.mul_le_mul_of_nonneg_right h2 h3;have k3:0<=s.lo * n * m:=Int.mul_nonneg k1 h3';have k4:s.lo * n * m<=s.hi * n * m:=Int.mul_le_mul_of_nonneg_right k2 h3';refine t128.1 (by simp [Zc,KFR]) (by simp [Zc]) ?_;dsimp only [c128,r128,Zc,go_sem];refine Xt 3 ?_;dsimp only [Zd,go_sem];refine Zq (by decide) ?_;dsimp only [Zd,go_sem];refine ixs 0 [I n] rfl rfl ?_
 dsimp only [Zd,go_sem];refine Zq (by decide) ?_;dsimp only [Zd,go_sem];refine ixs 1 [I m] rfl rfl ?_;dsimp only [Zd,go_sem];refine Zr (by decide) ?_;dsimp only [go_sem];rw [Zh (n:=s.lo * n) (by omega) (by omega),Zh (n:=s.hi * n) (by omega) (by omega),Zh (n:=s.lo * n * m) (by omega) (by omega),Zh (n:=s.hi * n * m) (by omega) (by omega)];refine ZcV (by omega) ?_;dsimp only [go_sem];refine call (Zf1 _ _ (by omega) (by omega) hb hb2) ?_
 dsimp only [go_sem];have:=YY k3 (Int.le_trans k4 h5) hb;rw [Zh (n:=(s.lo * n * m).tdiv b) (by omega) (by omega)]
def bdS (A:Int) (s:Span):Prop:=0<=s.lo/\s.lo<=A/\0<=s.hi/\s.hi<=A
theorem Uz (s t:Span) (c:Bool) (h1:bdS 1000000000000000 s) (h2:bdS 1000000000000000 t):Ct Tryz.prog 127 [.sl c 2 [[I s.lo,I s.hi],[I t.lo,I t.hi]]] (.agg (Zc ⟨s.lo+t.lo,s.hi+t.hi⟩)):=by
 unfold bdS at h1 h2;refine t127.1 (by simp [KFR]) (by simp [Zc]) ?_;dsimp only [c127,r127,Zc,go_sem];refine Xt 3 ?_;dsimp only [Zd,go_sem];refine Zq (by decide) ?_;dsimp only [Zd,go_sem];refine ixs 0 [I s.lo,I s.hi] rfl rfl ?_;dsimp only [Zd,go_sem];refine Zq (by decide) ?_;dsimp only [Zd,go_sem];refine ixs 1 [I t.lo,I t.hi] rfl rfl ?_;dsimp only [Zd,go_sem];refine Zr (by decide) ?_;dsimp only [go_sem]
 simp only [Int.zero_add];rw [Zh (n:=s.lo) (by omega) (by omega),Zh (n:=s.hi) (by omega) (by omega),Zh (n:=s.lo+t.lo) (by omega) (by omega),Zh (n:=s.hi+t.hi) (by omega) (by omega)]
theorem plus3 (s t u:Span) (c:Bool) (h1:bdS 1000000000000000 s) (h2:bdS 1000000000000000 t) (h3:bdS 1000000000000000 u):Ct Tryz.prog 127 [.sl c 2 [[I s.lo,I s.hi],[I t.lo,I t.hi],[I u.lo,I u.hi]]] (.agg (Zc ⟨s.lo+t.lo+u.lo,s.hi+t.hi+u.hi⟩)):=by
 unfold bdS at h1 h2 h3;refine t127.1 (by simp [KFR]) (by simp [Zc]) ?_;dsimp only [c127,r127,Zc,go_sem];refine Xt 4 ?_;dsimp only [Zd,go_sem];refine Zq (by decide) ?_;dsimp only [Zd,go_sem];refine ixs 0 [I s.lo,I s.hi] rfl rfl ?_;dsimp only [Zd,go_sem];refine Zq (by decide) ?_;dsimp only [Zd,go_sem];refine ixs 1 [I t.lo,I t.hi] rfl rfl ?_;dsimp only [Zd,go_sem];refine Zq (by decide) ?_;dsimp only [Zd,go_sem]
 refine ixs 2 [I u.lo,I u.hi] rfl rfl ?_;dsimp only [Zd,go_sem];refine Zr (by decide) ?_;dsimp only [go_sem];simp only [Int.zero_add];rw [Zh (n:=s.lo) (by omega) (by omega),Zh (n:=s.hi) (by omega) (by omega),Zh (n:=s.lo+t.lo) (by omega) (by omega),Zh (n:=s.hi+t.hi) (by omega) (by omega),Zh (n:=s.lo+t.lo+u.lo) (by omega) (by omega),Zh (n:=s.hi+t.hi+u.hi) (by omega) (by omega)]
theorem ZxX (n:Int) (s:Span) (h1:0<=n) (h2:n<=1000000) (h3:bdS 1000000 s):Ct Tryz.prog 159 [I n,.agg (Zc s)] (.agg (Zc ⟨n - s.hi,n - s.lo⟩)):=by
 unfold bdS at h3;refine t159.1 (by simp [Zc]) (by simp [Zc]) ?_;dsimp only [c159,r159,Zc,go_sem];rw [Zh (n:=n - s.hi) (by omega) (by omega),Zh (n:=n - s.lo) (by omega) (by omega)]
theorem breed_bd {b:Breed} (h:ZA b=true):1<=b.full/\b.full<=1000000/\1<=b.fed/\b.fed<=1000000/\0<=b.heal/\b.heal<=1000/\(0<=b.strong.lo/\b.strong.lo<=b.strong.hi/\b.strong.hi<=1000000)/\(0<=b.rest.lo/\b.rest.lo<=b.rest.hi/\b.rest.hi<=100000) /\
 (0<=b.heat.lo/\b.heat.lo<=b.heat.hi/\b.heat.hi<=100000)/\(0<=b.toil.lo/\b.toil.lo<=b.toil.hi/\b.toil.hi<=100000)/\(0<=b.burn.lo/\b.burn.lo<=b.burn.hi/\b.burn.hi<=100000)/\(0<=b.rub.lo/\b.rub.lo<=b.rub.hi/\b.rub.hi<=100000)/\(0<=b.milk.lo/\b.milk.lo<=b.milk.hi/\b.milk.hi<=100000):=by
 simp only [ZA,Yl,inR,Bool.and_eq_true,decide_eq_true_eq] at h;omega
theorem camel_bd {b:Breed} {c:Camel} (hb:ZA b=true) (h:Zz b c=true):(0<=c.water.lo/\c.water.lo<=c.water.hi/\c.water.hi<=b.full)/\(0<=c.fat.lo/\c.fat.lo<=c.fat.hi/\c.fat.hi<=b.fed)/\(0<=c.sore.lo/\c.sore.lo<=c.sore.hi/\c.sore.hi<=1000):=by
 simp only [Zz,Yl,Bool.and_eq_true,decide_eq_true_eq] at h;omega
theorem march_bd {m:March} (h:Z7 m=true):0<=m.hours/\m.hours<=24/\0<=m.load/\m.load<=1000000/\(0<=m.heat.lo/\m.heat.lo<=m.heat.hi/\m.heat.hi<=60)/\(0<=m.grass.lo/\m.grass.lo<=m.grass.hi/\m.grass.hi<=1000000)/\(0<=m.drinks.lo/\m.drinks.lo<=m.drinks.hi/\m.drinks.hi<=1000000):=by
 simp only [Z7,Yl,inR,Bool.and_eq_true,decide_eq_true_eq] at h;omega
theorem ZAQ (b:Breed) (c:Camel) (hb:ZA b=true) (hc:Zz b c=true):Ct Tryz.prog 123 [.agg (YI b c)] (.agg (Zc (Zbl b c))):=by
 obtain ⟨b1,b2,b3,b4,_⟩:=breed_bd hb;obtain ⟨⟨w1,w2,w3⟩,⟨f1,f2,f3⟩,⟨s1,s2,s3⟩⟩:=camel_bd hb hc;refine t123.1 (by simp [YI]) (by simp [Zc]) ?_;dsimp only [c123,r123,YI,go_sem];refine call (Zav c.water b.full 2 1000 0 true w1 w2 (by omega) (by omega) (by omega) (by omega) b1 (by omega)) ?_;dsimp only [Zc,go_sem];refine call (Zav c.fat b.fed 2 1000 0 true f1 f2 (by omega) (by omega) (by omega) (by omega) b3 (by omega)) ?_
 dsimp only [Zc,go_sem];refine call (ZxX 1000 c.sore (by omega) (by omega) ⟨by omega,by omega,by omega,by omega⟩) ?_;dsimp only [Zc,go_sem];refine Xt 4 ?_;dsimp only [Zd,go_sem];refine Zq (by decide) ?_;dsimp only [Zd,go_sem];refine ixa 0 rfl (by decide) ?_;dsimp only [Zd,go_sem];refine Zq (by decide) ?_;dsimp only [Zd,go_sem];refine ixa 1 rfl (by decide) ?_;dsimp only [Zd,go_sem];refine Zq (by decide) ?_
 dsimp only [Zd,go_sem];refine ixa 2 rfl (by decide) ?_;dsimp only [Zd,go_sem];refine Zr (by decide) ?_;dsimp only [go_sem];have e1:c.water.lo * 2 * 1000=2000 * c.water.lo:=by omega
 have e2:c.water.hi * 2 * 1000=2000 * c.water.hi:=by omega
 have e3:c.fat.lo * 2 * 1000=2000 * c.fat.lo:=by omega
 have e4:c.fat.hi * 2 * 1000=2000 * c.fat.hi:=by omega
 simp only [e1,e2,e3,e4,Zbl,Int.min_assoc]
theorem ZuW (b:Breed) (c:Camel) (hb:ZA b=true) (hc:Zz b c=true):Ct Tryz.prog 168 [.agg (breedL b),.agg (camelL c)] (.agg (Zc (Zbl b c))):=by
 obtain ⟨b1,b2,b3,b4,_⟩:=breed_bd hb;obtain ⟨⟨w1,w2,w3⟩,⟨f1,f2,f3⟩,⟨s1,s2,s3⟩⟩:=camel_bd hb hc;refine t168.1 (by simp [breedL,camelL]) (by simp [Zc]) ?_;dsimp only [c168,r168,breedL,camelL,Zc,go_sem];rw [Zh (n:=2000 * c.water.lo) (by omega) (by omega)];refine ZcV (by omega) ?_;dsimp only [go_sem];rw [Zh (n:=2000 * c.fat.lo) (by omega) (by omega)];refine ZcV (by omega) ?_;dsimp only [go_sem];rw [Zh (n:=2000 * c.water.hi) (by omega) (by omega)]
 refine call (ZaZ _ _ (by omega) (by omega) (by omega) (by omega)) ?_;dsimp only [go_sem];rw [Zh (n:=2000 * c.fat.hi) (by omega) (by omega)];refine call (ZaZ _ _ (by omega) (by omega) (by omega) (by omega)) ?_;dsimp only [go_sem];have d1:=YY (a:=2000 * c.water.lo) (A:=2000000000) (d:=b.full) (by omega) (by omega) b1;have d2:=YY (a:=2000 * c.fat.lo) (A:=2000000000) (d:=b.fed) (by omega) (by omega) b3
 rw [Zh (n:=1000 - c.sore.hi) (by omega) (by omega),Zh (n:=1000 - c.sore.lo) (by omega) (by omega),Zh (n:=(2000 * c.water.lo).tdiv b.full) (by omega) (by omega),Zh (n:=(2000 * c.fat.lo).tdiv b.fed) (by omega) (by omega)];simp only [Zbl,Int.min_assoc]
theorem ZtE {b:Breed} {c:Camel} (hb:ZA b=true) (hc:Zz b c=true):0<=(Zbl b c).lo/\(Zbl b c).lo<=1000/\0<=(Zbl b c).hi/\(Zbl b c).hi<=1000:=by
 obtain ⟨b1,b2,b3,b4,_⟩:=breed_bd hb;obtain ⟨⟨w1,w2,w3⟩,⟨f1,f2,f3⟩,⟨s1,s2,s3⟩⟩:=camel_bd hb hc;have d1:=YY (a:=2000 * c.water.lo) (A:=2000000000) (d:=b.full) (by omega) (by omega) b1;have d2:=YY (a:=2000 * c.fat.lo) (A:=2000000000) (d:=b.fed) (by omega) (by omega) b3;have d3:=ZfI (a:=2000 * c.water.hi) (A:=2000000000) (d:=b.full) (by omega) (by omega) b1;have d4:=ZfI (a:=2000 * c.fat.hi) (A:=2000000000) (d:=b.fed) (by omega) (by omega) b3
 simp only [Zbl];omega
theorem Zzx (b:Breed) (c:Camel) (hb:ZA b=true) (hc:Zz b c=true):Ct Tryz.prog 81 [.agg (YI b c)] (.agg (Zc (Zs7 b c))):=by
 obtain ⟨b1,b2,b3,b4,_,_,⟨g1,g2,g3⟩,_⟩:=breed_bd hb;obtain ⟨q1,q2,q3,q4⟩:=ZtE hb hc;have k1:=Wv (a:=b.strong.lo) (A:=1000000) (b:=(Zbl b c).lo) (B:=1000) (by omega) (by omega) q1 q2;have k2:=Wv (a:=b.strong.hi) (A:=1000000) (b:=(Zbl b c).hi) (B:=1000) (by omega) (by omega) q3 q4;refine t81.1 (by simp [YI]) (by simp [Zc]) ?_;dsimp only [c81,r81,YI,go_sem];refine call (ZAQ b c hb hc) ?_;dsimp only [Zc,go_sem]
 rw [Zh (n:=b.strong.lo * (Zbl b c).lo) (by omega) (by omega)];refine ZcV (by omega) ?_;dsimp only [go_sem];rw [Zh (n:=b.strong.hi * (Zbl b c).hi) (by omega) (by omega)];refine call (Zf1 _ _ (by omega) (by omega) (by omega) (by omega)) ?_;dsimp only [go_sem];have d1:=YY (a:=b.strong.lo * (Zbl b c).lo) (d:=1000) k1.1 k1.2 (by omega);rw [Zh (n:=(b.strong.lo * (Zbl b c).lo).tdiv 1000) (by omega) (by omega)]
 rfl
def sres (b:Breed) (c:Camel) (s:Span):SV:=.tup [.agg (Zc (if ZaG b c=0 then s else Wo)),I (ZaG b c)]
theorem errC_0 {b:Breed} {c:Camel}:ZaG b c=0↔ZA b=true/\Zz b c=true:=by
 simp only [ZaG];cases ZA b<;>cases Zz b c<;>simp
theorem carries_ok (b:Breed) (c:Camel):Ct Tryz.prog 37 [.agg (breedL b),.agg (camelL c)] (sres b c (Zs7 b c)):=by
 refine t37.1 (by simp [breedL,camelL]) (by simp [sres,Zc]) ?_;dsimp only [c37,r37,breedL,camelL,go_sem];refine call (checkCamel_ok b c) ?_;dsimp only [go_sem];by_cases h:ZaG b c=0
 case neg =>
  refine Zq (by simpa using h) ?_;dsimp only [sres,Zc,go_sem];rw [if_neg h];rfl
 refine Zr (by simpa using h) ?_;obtain ⟨hb,hc⟩:=errC_0.1 h;dsimp only [go_sem];refine call (Zzx b c hb hc) ?_;dsimp only [Zc,sres,go_sem];rw [if_pos h,h]
theorem Zf7 (b:Breed) (c:Camel):Ct Tryz.prog 147 [.agg (breedL b),.agg (camelL c)] (sres b c (Zbl b c)):=by
 refine t147.1 (by simp [breedL,camelL]) (by simp [sres,Zc]) ?_;dsimp only [c147,r147,breedL,camelL,go_sem];refine call (checkCamelR_ok b c) ?_;dsimp only [go_sem];by_cases h:ZaG b c=0
 case neg =>
  refine Zq (by simpa using h) ?_;dsimp only [sres,Zc,go_sem];rw [if_neg h];rfl
 refine Zr (by simpa using h) ?_;obtain ⟨hb,hc⟩:=errC_0.1 h;dsimp only [go_sem];refine call (ZuW b c hb hc) ?_;dsimp only [Zc,sres,go_sem];rw [if_pos h,h]
theorem carriesR_ok (b:Breed) (c:Camel):Ct Tryz.prog 105 [.agg (breedL b),.agg (camelL c)] (sres b c (Zs7 b c)):=by
 refine t105.1 (by simp [breedL,camelL]) (by simp [sres,Zc]) ?_;dsimp only [c105,r105,breedL,camelL,go_sem];refine call (Zf7 b c) ?_;dsimp only [sres,Zc,go_sem];by_cases h:ZaG b c=0
 case neg =>
  refine Zq (by simpa using h) ?_;dsimp only [go_sem];rw [if_neg h];rfl
 refine Zr (by simpa using h) ?_;obtain ⟨hb,hc⟩:=errC_0.1 h;obtain ⟨b1,b2,b3,b4,_,_,⟨g1,g2,g3⟩,_⟩:=breed_bd hb;obtain ⟨q1,q2,q3,q4⟩:=ZtE hb hc;have k1:=Wv (a:=b.strong.lo) (A:=1000000) (b:=(Zbl b c).lo) (B:=1000) (by omega) (by omega) q1 q2;have k2:=Wv (a:=b.strong.hi) (A:=1000000) (b:=(Zbl b c).hi) (B:=1000) (by omega) (by omega) q3 q4;dsimp only [go_sem];rw [if_pos h];rw [Zh (n:=b.strong.lo * (Zbl b c).lo) (by omega) (by omega)]
 refine ZcV (by omega) ?_;dsimp only [go_sem];rw [Zh (n:=b.strong.hi * (Zbl b c).hi) (by omega) (by omega)];refine call (ZaZ _ _ (by omega) (by omega) (by omega) (by omega)) ?_;dsimp only [go_sem];have d1:=YY (a:=b.strong.lo * (Zbl b c).lo) (d:=1000) k1.1 k1.2 (by omega);rw [Zh (n:=(b.strong.lo * (Zbl b c).lo).tdiv 1000) (by omega) (by omega),if_pos h,h];rfl
theorem work_bd {m:March} (h:Z7 m=true):0<=Yw m/\Yw m<=26400000:=by
 obtain ⟨h1,h2,h3,h4,_⟩:=march_bd h;have:=Wv (a:=m.hours) (A:=24) (b:=100000+m.load) (B:=1100000) h1 h2 (by omega) (by omega);exact this
theorem toil_bd {m:March} {x:Int} (h:Z7 m=true) (h0:0<=x) (h1:x<=100000):0<=x * Yw m/\x * Yw m<=2640000000000:=by
 obtain ⟨w1,w2⟩:=work_bd h;exact Wv h0 h1 w1 w2
theorem heat_bd {x y:Int} (h0:0<=x) (h1:x<=100000) (h2:0<=y) (h3:y<=60):0<=x * max 0 (y - 20)/\x * max 0 (y - 20)<=4000000 :=
 Wv h0 h1 (B:=40) (by omega) (by omega)
theorem ZmW (b:Breed) (k:Bool) (m:March) (hb:ZA b=true) (hm:Z7 m=true):Ct Tryz.prog 126 [.agg (breedL b),B k,.agg (Ym m)] (.agg [I (WB b k m).lo,I (WB b k m).hi,I (WX b m).lo,I (WX b m).hi]):=by
 obtain ⟨_,_,_,_,_,_,_,⟨r1,r2,r3⟩,⟨a1,a2,a3⟩,⟨t1,t2,t3⟩,⟨u1,u2,u3⟩,_,⟨k1,k2,k3⟩⟩:=breed_bd hb;obtain ⟨m1,m2,m3,m4,⟨g1,g2,g3⟩,_⟩:=march_bd hm;have w0:=work_bd hm;have e1:=heat_bd (x:=b.heat.lo) (y:=m.heat.lo) (by omega) (by omega) (by omega) (by omega);have e2:=heat_bd (x:=b.heat.hi) (y:=m.heat.hi) (by omega) (by omega) (by omega) (by omega);have f1:=toil_bd (x:=b.toil.lo) hm (by omega) (by omega);have f2:=toil_bd (x:=b.toil.hi) hm (by omega) (by omega)
 have f3:=toil_bd (x:=b.burn.lo) hm (by omega) (by omega);have f4:=toil_bd (x:=b.burn.hi) hm (by omega) (by omega);have d1:=YY f1.1 f1.2 (d:=100000) (by omega);have d2:=ZfI f2.1 f2.2 (d:=100000) (by omega);have hw:IntKind.i64.wrap (m.hours * IntKind.i64.wrap (100000+m.load))=Yw m:=by
  rw [Zh (n:=100000+m.load) (by omega) (by omega)];unfold Yw at *;exact Zh (by omega) (by omega)
 refine t126.1 (by simp [breedL,Ym]) (by simp) ?_;dsimp only [c126,r126,breedL,Ym,go_sem];rw [hw,Zh (n:=m.heat.lo - 20) (by omega) (by omega),Zh (n:=m.heat.hi - 20) (by omega) (by omega),Zh (n:=b.heat.lo * max 0 (m.heat.lo - 20)) (by omega) (by omega),Zh (n:=b.heat.hi * max 0 (m.heat.hi - 20)) (by omega) (by omega)];refine call (ZfD b.toil 100000 (Yw m) 0 true t1 t2 w0.1 (by omega) (by omega) (by omega)) ?_
 dsimp only [Zc,go_sem]
 refine call (plus3 b.rest ⟨b.heat.lo * max 0 (m.heat.lo - 20),b.heat.hi * max 0 (m.heat.hi - 20)⟩ (scl b.toil 100000 (Yw m)) true ⟨by omega,by omega,by omega,by omega⟩ ⟨e1.1,by simp only;omega,e2.1,by simp only;omega⟩
  ⟨d1.1,by simp only [scl];omega,d2.1,by simp only [scl];omega⟩) ?_
 dsimp only [Zc,go_sem];refine br ?_ ?_
 . intro hk;dsimp only [go_sem]
   refine call (Uz ⟨b.rest.lo+b.heat.lo * max 0 (m.heat.lo - 20)+(scl b.toil 100000 (Yw m)).lo,b.rest.hi+b.heat.hi * max 0 (m.heat.hi - 20)+(scl b.toil 100000 (Yw m)).hi⟩ b.milk true
    ⟨by simp only [scl];omega,by simp only [scl];omega,by simp only [scl];omega,by simp only [scl];omega⟩ ⟨by omega,by omega,by omega,by omega⟩) ?_
   dsimp only [Zc,go_sem];refine call (ZfD b.burn 100000 (Yw m) 0 true u1 u2 w0.1 (by omega) (by omega) (by omega)) ?_;dsimp only [Zc,go_sem];simp only [WB,WX,hk,scl,if_true]
 . intro hk;dsimp only [go_sem];refine call (ZfD b.burn 100000 (Yw m) 0 true u1 u2 w0.1 (by omega) (by omega) (by omega)) ?_;dsimp only [Zc,go_sem];simp only [WB,WX,hk,scl,Bool.false_eq_true,if_false,Int.add_zero]
theorem Zsr (b:Breed) (k:Bool) (m:March) (hb:ZA b=true) (hm:Z7 m=true):Ct Tryz.prog 175 [.agg (breedL b),B k,.agg (Ym m)] (.tup [.agg (Zc (WB b k m)),.agg (Zc (WX b m))]):=by
 obtain ⟨_,_,_,_,_,_,_,⟨r1,r2,r3⟩,⟨a1,a2,a3⟩,⟨t1,t2,t3⟩,⟨u1,u2,u3⟩,_,⟨k1,k2,k3⟩⟩:=breed_bd hb;obtain ⟨m1,m2,m3,m4,⟨g1,g2,g3⟩,_⟩:=march_bd hm;have w0:=work_bd hm;have e1:=heat_bd (x:=b.heat.lo) (y:=m.heat.lo) (by omega) (by omega) (by omega) (by omega);have e2:=heat_bd (x:=b.heat.hi) (y:=m.heat.hi) (by omega) (by omega) (by omega) (by omega);have f1:=toil_bd (x:=b.toil.lo) hm (by omega) (by omega);have f2:=toil_bd (x:=b.toil.hi) hm (by omega) (by omega)
 have f3:=toil_bd (x:=b.burn.lo) hm (by omega) (by omega);have f4:=toil_bd (x:=b.burn.hi) hm (by omega) (by omega);have d1:=YY f1.1 f1.2 (d:=100000) (by omega);have d2:=ZfI f2.1 f2.2 (d:=100000) (by omega);have d3:=YY f3.1 f3.2 (d:=100000) (by omega);have hw:IntKind.i64.wrap (m.hours * IntKind.i64.wrap (100000+m.load))=Yw m:=by
  rw [Zh (n:=100000+m.load) (by omega) (by omega)];unfold Yw at *;exact Zh (by omega) (by omega)
 refine t175.1 (by simp [breedL,Ym]) (by simp [Zc]) ?_;dsimp only [c175,r175,breedL,Ym,Zc,go_sem];rw [hw];simp (disch:=omega) only [Zh];refine ZcV (by omega) ?_;dsimp only [go_sem];simp (disch:=omega) only [Zh];refine call (ZaZ _ _ (by omega) (by omega) (by omega) (by omega)) ?_;dsimp only [go_sem];simp (disch:=omega) only [Zh];refine br ?_ ?_
 . intro hk;dsimp only [go_sem];simp (disch:=omega) only [Zh];refine call (ZaZ _ _ (by omega) (by omega) (by omega) (by omega)) ?_;dsimp only [go_sem];refine ZcV (by omega) ?_;dsimp only [go_sem];simp (disch:=omega) only [Zh];simp only [WB,WX,hk,if_true]
 . intro hk;dsimp only [go_sem];simp (disch:=omega) only [Zh];refine call (ZaZ _ _ (by omega) (by omega) (by omega) (by omega)) ?_;dsimp only [go_sem];refine ZcV (by omega) ?_;dsimp only [go_sem];simp (disch:=omega) only [Zh];simp only [WB,WX,hk,Bool.false_eq_true,if_false,Int.add_zero]
end Go.Proofs.YtiigiflofnjilaaGreat.Cm
namespace Go.Azalai
end Go.Azalai
namespace Go.Proofs.YtiigiflofnjilaaGreat.Cm
open Go Go.Sx Go.Azalai
end Go.Proofs.YtiigiflofnjilaaGreat.Cm
namespace Go.Azalai
def YE:Camel:=⟨⟨0,0⟩,⟨0,0⟩,⟨0,0⟩,false⟩
def Uu (most:Int) (has cost gets:Span):Span:=⟨min most (max 0 (has.lo - cost.hi)+gets.lo),min most (has.hi - cost.lo+gets.hi)⟩
def UP (b:Breed) (s:Span) (m:March):Span :=
 if m.hours=0 then ⟨max 0 (s.lo - b.heal),max 0 (s.hi - b.heal)⟩
 else ⟨min 1000 (s.lo+(b.rub.lo * (m.hours * m.load)).tdiv 1000000),min 1000 (s.hi+upF (b.rub.hi * (m.hours * m.load)) 1000000)⟩
def Yr (b:Breed) (c:Camel) (m:March):Camel × Int :=
 let w:=WB b c.milks m
 let f:=WX b m
 if c.water.hi < w.lo\/c.fat.hi < f.lo then (YE,2)
 else (⟨Uu b.full c.water w m.drinks,Uu b.fed c.fat f m.grass,UP b c.sore m,c.milks⟩,if c.water.lo ≥ w.hi/\c.fat.lo ≥ f.hi then 0 else 1)
theorem Zbt {b:Breed} {k:Bool} {m:March} (hb:ZA b=true) (hm:Z7 m=true):0<=(WB b k m).lo/\(WB b k m).lo<=1000000000/\0<=(WB b k m).hi/\(WB b k m).hi<=1000000000:=by
 have h:=Go.Proofs.YtiigiflofnjilaaGreat.Cm.breed_bd hb;have h2:=Go.Proofs.YtiigiflofnjilaaGreat.Cm.march_bd hm;have q1:=Go.Proofs.YtiigiflofnjilaaGreat.Cm.toil_bd (x:=b.toil.lo) hm (by omega) (by omega);have q2:=Go.Proofs.YtiigiflofnjilaaGreat.Cm.toil_bd (x:=b.toil.hi) hm (by omega) (by omega);have q3:=Go.Proofs.YtiigiflofnjilaaGreat.Cm.heat_bd (x:=b.heat.lo) (y:=m.heat.lo) (by omega) (by omega) (by omega) (by omega)
 have q4:=Go.Proofs.YtiigiflofnjilaaGreat.Cm.heat_bd (x:=b.heat.hi) (y:=m.heat.hi) (by omega) (by omega) (by omega) (by omega);have r1:0<=(b.toil.lo * Yw m).tdiv 100000/\(b.toil.lo * Yw m).tdiv 100000<=26400000:=by
  rw [Int.tdiv_eq_ediv_of_nonneg q1.1];omega
 have r2:0<=upF (b.toil.hi * Yw m) 100000/\upF (b.toil.hi * Yw m) 100000<=26400001:=by
  unfold upF;rw [Int.tdiv_eq_ediv_of_nonneg (by omega)];omega
 simp only [WB];cases k<;>simp<;>omega
theorem Zbp {b:Breed} {m:March} (hb:ZA b=true) (hm:Z7 m=true):0<=(WX b m).lo/\(WX b m).lo<=1000000000/\0<=(WX b m).hi/\(WX b m).hi<=1000000000:=by
 have h:=Go.Proofs.YtiigiflofnjilaaGreat.Cm.breed_bd hb;have q1:=Go.Proofs.YtiigiflofnjilaaGreat.Cm.toil_bd (x:=b.burn.lo) hm (by omega) (by omega);have q2:=Go.Proofs.YtiigiflofnjilaaGreat.Cm.toil_bd (x:=b.burn.hi) hm (by omega) (by omega);have r1:0<=(b.burn.lo * Yw m).tdiv 100000/\(b.burn.lo * Yw m).tdiv 100000<=26400000:=by
  rw [Int.tdiv_eq_ediv_of_nonneg q1.1];omega
 have r2:0<=upF (b.burn.hi * Yw m) 100000/\upF (b.burn.hi * Yw m) 100000<=26400001:=by
  unfold upF;rw [Int.tdiv_eq_ediv_of_nonneg (by omega)];omega
 simp only [WX];omega
end Go.Azalai
namespace Go.Proofs.YtiigiflofnjilaaGreat.Cm
open Go Go.Sx Go.Azalai
theorem Zk3 (b:Breed) (c:Camel) (m:March) (hb:ZA b=true) (hc:Zz b c=true) (hm:Z7 m=true) :
 Ct Tryz.prog 170 [.agg (breedL b),.agg (camelL c),.agg (Ym m)] (.tup [.agg (camelL (Yr b c m).1),I (Yr b c m).2]):=by
 have h1:=breed_bd hb;have h2:=camel_bd hb hc;have h3:=march_bd hm;have w1:=Zbt (k:=c.milks) hb hm;have w2:=Zbp hb hm;refine t170.1 (by simp [breedL,camelL,Ym]) (by simp [camelL]) ?_;dsimp only [c170,r170,breedL,camelL,Ym,go_sem];refine call (Zsr b c.milks m hb hm) ?_;dsimp only [Zc,go_sem];have k0:=Wv (a:=m.hours) (b:=m.load) (A:=24) (B:=1000000) (by omega) (by omega) (by omega) (by omega);have k1:=Wv (a:=b.rub.lo) (b:=m.hours * m.load) (A:=100000) (B:=24000000) (by omega) (by omega) (by omega) (by omega)
 have k2:=Wv (a:=b.rub.hi) (b:=m.hours * m.load) (A:=100000) (B:=24000000) (by omega) (by omega) (by omega) (by omega);have k3:=YY k1.1 k1.2 (d:=1000000) (by omega);have k4:=ZfI k2.1 k2.2 (d:=1000000) (by omega);generalize hW:WB b c.milks m=W at w1;generalize hF:WX b m=F at w2;repeat (refine gb ?_;dsimp only [go_sem])
 by_cases hd:c.water.hi < W.lo\/c.fat.hi < F.lo
 case pos =>
  refine Zq (by grind) ?_;dsimp only [go_sem];simp [Yr,hW,hF,hd,YE,camelL]
 refine Zr (by grind) ?_;dsimp only [go_sem];repeat (refine gb ?_;dsimp only [go_sem])
 refine br ?_ ?_
 . intro hk;dsimp only [go_sem];simp (disch:=omega) only [Zh];refine ZcV (by omega) ?_;dsimp only [go_sem];simp (disch:=omega) only [Zh];refine call (ZaZ _ _ (by omega) (by omega) (by omega) (by omega)) ?_;dsimp only [go_sem];simp (disch:=omega) only [Zh];refine br ?_ ?_
   . intro hz;dsimp only [go_sem];simp (disch:=omega) only [Zh];have e:(if c.water.lo ≥ W.hi/\c.fat.lo ≥ F.hi then (0:Int) else 1)=0:=if_pos (by grind);have hz':m.hours=0:=by simpa using hz
     simp only [Yr,hW,hF,if_neg hd,Uu,UP,camelL,e,if_pos hz']
   . intro hz;dsimp only [go_sem];have e:(if c.water.lo ≥ W.hi/\c.fat.lo ≥ F.hi then (0:Int) else 1)=0:=if_pos (by grind);have hz':¬ m.hours=0:=by simpa using hz
     simp only [Yr,hW,hF,if_neg hd,Uu,UP,camelL,e,if_neg hz']
 . intro hk;dsimp only [go_sem];simp (disch:=omega) only [Zh];refine ZcV (by omega) ?_;dsimp only [go_sem];simp (disch:=omega) only [Zh];refine call (ZaZ _ _ (by omega) (by omega) (by omega) (by omega)) ?_;dsimp only [go_sem];simp (disch:=omega) only [Zh];refine br ?_ ?_
   . intro hz;dsimp only [go_sem];simp (disch:=omega) only [Zh];have e:(if c.water.lo ≥ W.hi/\c.fat.lo ≥ F.hi then (0:Int) else 1)=1:=if_neg (by grind);have hz':m.hours=0:=by simpa using hz
     simp only [Yr,hW,hF,if_neg hd,Uu,UP,camelL,e,if_pos hz']
   . intro hz;dsimp only [go_sem];have e:(if c.water.lo ≥ W.hi/\c.fat.lo ≥ F.hi then (0:Int) else 1)=1:=if_neg (by grind);have hz':¬ m.hours=0:=by simpa using hz
     simp only [Yr,hW,hF,if_neg hd,Uu,UP,camelL,e,if_neg hz']
theorem ZzT (b:Breed) (c:Camel) (m:March) (hb:ZA b=true) (hc:Zz b c=true) (hm:Z7 m=true) (hd:(Yr b c m).2≠2) :
 Ct Tryz.prog 84 [.agg (YI b c),.agg (Ym m)] (.tup [.agg (YI b (Yr b c m).1),.v (.int .u8 (Yr b c m).2)]):=by
 have h1:=breed_bd hb;have h2:=camel_bd hb hc;have h3:=march_bd hm;have w1:=Zbt (k:=c.milks) hb hm;have w2:=Zbp hb hm;have k0:=Wv (a:=m.hours) (b:=m.load) (A:=24) (B:=1000000) (by omega) (by omega) (by omega) (by omega);have k1:=Wv (a:=b.rub.lo) (b:=m.hours * m.load) (A:=100000) (B:=24000000) (by omega) (by omega) (by omega) (by omega);have k2:=Wv (a:=b.rub.hi) (b:=m.hours * m.load) (A:=100000) (B:=24000000) (by omega) (by omega) (by omega) (by omega)
 have k3:=YY k1.1 k1.2 (d:=1000000) (by omega);have k4:=ZfI k2.1 k2.2 (d:=1000000) (by omega);refine t84.1 (by simp [YI,Ym]) (by simp [YI]) ?_;dsimp only [c84,r84,YI,Ym,go_sem];refine call (ZmW b c.milks m hb hm) ?_;dsimp only [go_sem];generalize hW:WB b c.milks m=W at w1;generalize hF:WX b m=F at w2;have hd':W.lo<=c.water.hi/\F.lo<=c.fat.hi:=by
  by_cases h:c.water.hi < W.lo\/c.fat.hi < F.lo
  . exact absurd (by simp only [Yr,hW,hF,if_pos h]) hd
  . omega
 clear hd;have k5:=Wv (a:=b.rub.hi) (b:=m.hours) (A:=100000) (B:=24) (by omega) (by omega) (by omega) (by omega);have k6:b.rub.hi * m.hours * m.load<=100000000000000:=by rw [Int.mul_assoc];omega
 have hd0:¬ (c.water.hi < W.lo\/c.fat.hi < F.lo):=by omega
 by_cases hp:c.water.lo < W.hi<;>by_cases hq:c.fat.lo < F.hi
 . refine Xt 3 ?_;dsimp only [Zd,go_sem];refine Zq (by decide) ?_;dsimp only [Zd,go_sem];repeat (first | (refine ixa 0 rfl (by decide) ?_;dsimp only [Zd,go_sem]) | (refine Zr (by simp;omega) ?_;dsimp only [Zd,go_sem]) | (refine Zq (by simp;omega) ?_;dsimp only [Zd,go_sem]))
   simp (disch:=omega) only [Zh];refine call (Uz ⟨max 0 (c.water.lo - W.hi),c.water.hi - W.lo⟩ m.drinks _ (by unfold bdS;simp only;omega) (by unfold bdS;omega)) ?_;dsimp only [Zd,Zc,go_sem];repeat (first | (refine ixa 0 rfl (by decide) ?_;dsimp only [Zd,go_sem]) | (refine Zr (by simp;omega) ?_;dsimp only [Zd,go_sem]) | (refine Zq (by simp;omega) ?_;dsimp only [Zd,go_sem]))
   simp (disch:=omega) only [Zh];refine Zq (by decide) ?_;dsimp only [Zd,go_sem];repeat (first | (refine ixa 1 rfl (by decide) ?_;dsimp only [Zd,go_sem]) | (refine Zr (by simp;omega) ?_;dsimp only [Zd,go_sem]) | (refine Zq (by simp;omega) ?_;dsimp only [Zd,go_sem]))
   simp (disch:=omega) only [Zh];refine call (Uz ⟨max 0 (c.fat.lo - F.hi),c.fat.hi - F.lo⟩ m.grass _ (by unfold bdS;simp only;omega) (by unfold bdS;omega)) ?_;dsimp only [Zd,Zc,go_sem];repeat (first | (refine ixa 1 rfl (by decide) ?_;dsimp only [Zd,go_sem]) | (refine Zr (by simp;omega) ?_;dsimp only [Zd,go_sem]) | (refine Zq (by simp;omega) ?_;dsimp only [Zd,go_sem]))
   refine Zr (by decide) ?_;dsimp only [go_sem];have e:(if c.water.lo ≥ W.hi/\c.fat.lo ≥ F.hi then (0:Int) else 1)=1:=if_neg (by omega);by_cases hz:m.hours=0
   . refine Zq (by simpa using hz) ?_;dsimp only [go_sem];simp (disch:=omega) only [Zh];simp only [Yr,hW,hF,if_neg hd0,Uu,UP,YI,e,if_pos hz]
   . refine Zr (by simpa using hz) ?_;dsimp only [go_sem];refine call (Zav b.rub 1000000 m.hours m.load 0 _ (by omega) (by omega) (by omega) (by omega) (by omega) k6 (by omega) (by omega)) ?_;dsimp only [Zc,go_sem];simp only [Int.mul_assoc];refine call (Uz c.sore ⟨(b.rub.lo * (m.hours * m.load)).tdiv 1000000,upF (b.rub.hi * (m.hours * m.load)) 1000000⟩ _ (by unfold bdS;omega) (by unfold bdS;simp only;omega)) ?_
     dsimp only [Zc,go_sem];simp only [Yr,hW,hF,if_neg hd0,Uu,UP,YI,e,if_neg hz]
 . refine Xt 3 ?_;dsimp only [Zd,go_sem];refine Zq (by decide) ?_;dsimp only [Zd,go_sem];repeat (first | (refine ixa 0 rfl (by decide) ?_;dsimp only [Zd,go_sem]) | (refine Zr (by simp;omega) ?_;dsimp only [Zd,go_sem]) | (refine Zq (by simp;omega) ?_;dsimp only [Zd,go_sem]))
   simp (disch:=omega) only [Zh];refine call (Uz ⟨max 0 (c.water.lo - W.hi),c.water.hi - W.lo⟩ m.drinks _ (by unfold bdS;simp only;omega) (by unfold bdS;omega)) ?_;dsimp only [Zd,Zc,go_sem];repeat (first | (refine ixa 0 rfl (by decide) ?_;dsimp only [Zd,go_sem]) | (refine Zr (by simp;omega) ?_;dsimp only [Zd,go_sem]) | (refine Zq (by simp;omega) ?_;dsimp only [Zd,go_sem]))
   simp (disch:=omega) only [Zh];refine Zq (by decide) ?_;dsimp only [Zd,go_sem];repeat (first | (refine ixa 1 rfl (by decide) ?_;dsimp only [Zd,go_sem]) | (refine Zr (by simp;omega) ?_;dsimp only [Zd,go_sem]) | (refine Zq (by simp;omega) ?_;dsimp only [Zd,go_sem]))
   simp (disch:=omega) only [Zh];refine call (Uz ⟨max 0 (c.fat.lo - F.hi),c.fat.hi - F.lo⟩ m.grass _ (by unfold bdS;simp only;omega) (by unfold bdS;omega)) ?_;dsimp only [Zd,Zc,go_sem];repeat (first | (refine ixa 1 rfl (by decide) ?_;dsimp only [Zd,go_sem]) | (refine Zr (by simp;omega) ?_;dsimp only [Zd,go_sem]) | (refine Zq (by simp;omega) ?_;dsimp only [Zd,go_sem]))
   refine Zr (by decide) ?_;dsimp only [go_sem];have e:(if c.water.lo ≥ W.hi/\c.fat.lo ≥ F.hi then (0:Int) else 1)=1:=if_neg (by omega);by_cases hz:m.hours=0
   . refine Zq (by simpa using hz) ?_;dsimp only [go_sem];simp (disch:=omega) only [Zh];simp only [Yr,hW,hF,if_neg hd0,Uu,UP,YI,e,if_pos hz]
   . refine Zr (by simpa using hz) ?_;dsimp only [go_sem];refine call (Zav b.rub 1000000 m.hours m.load 0 _ (by omega) (by omega) (by omega) (by omega) (by omega) k6 (by omega) (by omega)) ?_;dsimp only [Zc,go_sem];simp only [Int.mul_assoc];refine call (Uz c.sore ⟨(b.rub.lo * (m.hours * m.load)).tdiv 1000000,upF (b.rub.hi * (m.hours * m.load)) 1000000⟩ _ (by unfold bdS;omega) (by unfold bdS;simp only;omega)) ?_
     dsimp only [Zc,go_sem];simp only [Yr,hW,hF,if_neg hd0,Uu,UP,YI,e,if_neg hz]
 . refine Xt 3 ?_;dsimp only [Zd,go_sem];refine Zq (by decide) ?_;dsimp only [Zd,go_sem];repeat (first | (refine ixa 0 rfl (by decide) ?_;dsimp only [Zd,go_sem]) | (refine Zr (by simp;omega) ?_;dsimp only [Zd,go_sem]) | (refine Zq (by simp;omega) ?_;dsimp only [Zd,go_sem]))
   simp (disch:=omega) only [Zh];refine call (Uz ⟨max 0 (c.water.lo - W.hi),c.water.hi - W.lo⟩ m.drinks _ (by unfold bdS;simp only;omega) (by unfold bdS;omega)) ?_;dsimp only [Zd,Zc,go_sem];repeat (first | (refine ixa 0 rfl (by decide) ?_;dsimp only [Zd,go_sem]) | (refine Zr (by simp;omega) ?_;dsimp only [Zd,go_sem]) | (refine Zq (by simp;omega) ?_;dsimp only [Zd,go_sem]))
   simp (disch:=omega) only [Zh];refine Zq (by decide) ?_;dsimp only [Zd,go_sem];repeat (first | (refine ixa 1 rfl (by decide) ?_;dsimp only [Zd,go_sem]) | (refine Zr (by simp;omega) ?_;dsimp only [Zd,go_sem]) | (refine Zq (by simp;omega) ?_;dsimp only [Zd,go_sem]))
   simp (disch:=omega) only [Zh];refine call (Uz ⟨max 0 (c.fat.lo - F.hi),c.fat.hi - F.lo⟩ m.grass _ (by unfold bdS;simp only;omega) (by unfold bdS;omega)) ?_;dsimp only [Zd,Zc,go_sem];repeat (first | (refine ixa 1 rfl (by decide) ?_;dsimp only [Zd,go_sem]) | (refine Zr (by simp;omega) ?_;dsimp only [Zd,go_sem]) | (refine Zq (by simp;omega) ?_;dsimp only [Zd,go_sem]))
   refine Zr (by decide) ?_;dsimp only [go_sem];have e:(if c.water.lo ≥ W.hi/\c.fat.lo ≥ F.hi then (0:Int) else 1)=1:=if_neg (by omega);by_cases hz:m.hours=0
   . refine Zq (by simpa using hz) ?_;dsimp only [go_sem];simp (disch:=omega) only [Zh];simp only [Yr,hW,hF,if_neg hd0,Uu,UP,YI,e,if_pos hz]
   . refine Zr (by simpa using hz) ?_;dsimp only [go_sem];refine call (Zav b.rub 1000000 m.hours m.load 0 _ (by omega) (by omega) (by omega) (by omega) (by omega) k6 (by omega) (by omega)) ?_;dsimp only [Zc,go_sem];simp only [Int.mul_assoc];refine call (Uz c.sore ⟨(b.rub.lo * (m.hours * m.load)).tdiv 1000000,upF (b.rub.hi * (m.hours * m.load)) 1000000⟩ _ (by unfold bdS;omega) (by unfold bdS;simp only;omega)) ?_
     dsimp only [Zc,go_sem];simp only [Yr,hW,hF,if_neg hd0,Uu,UP,YI,e,if_neg hz]
 . refine Xt 3 ?_;dsimp only [Zd,go_sem];refine Zq (by decide) ?_;dsimp only [Zd,go_sem];repeat (first | (refine ixa 0 rfl (by decide) ?_;dsimp only [Zd,go_sem]) | (refine Zr (by simp;omega) ?_;dsimp only [Zd,go_sem]) | (refine Zq (by simp;omega) ?_;dsimp only [Zd,go_sem]))
   simp (disch:=omega) only [Zh];refine call (Uz ⟨max 0 (c.water.lo - W.hi),c.water.hi - W.lo⟩ m.drinks _ (by unfold bdS;simp only;omega) (by unfold bdS;omega)) ?_;dsimp only [Zd,Zc,go_sem];repeat (first | (refine ixa 0 rfl (by decide) ?_;dsimp only [Zd,go_sem]) | (refine Zr (by simp;omega) ?_;dsimp only [Zd,go_sem]) | (refine Zq (by simp;omega) ?_;dsimp only [Zd,go_sem]))
   simp (disch:=omega) only [Zh];refine Zq (by decide) ?_;dsimp only [Zd,go_sem];repeat (first | (refine ixa 1 rfl (by decide) ?_;dsimp only [Zd,go_sem]) | (refine Zr (by simp;omega) ?_;dsimp only [Zd,go_sem]) | (refine Zq (by simp;omega) ?_;dsimp only [Zd,go_sem]))
   simp (disch:=omega) only [Zh];refine call (Uz ⟨max 0 (c.fat.lo - F.hi),c.fat.hi - F.lo⟩ m.grass _ (by unfold bdS;simp only;omega) (by unfold bdS;omega)) ?_;dsimp only [Zd,Zc,go_sem];repeat (first | (refine ixa 1 rfl (by decide) ?_;dsimp only [Zd,go_sem]) | (refine Zr (by simp;omega) ?_;dsimp only [Zd,go_sem]) | (refine Zq (by simp;omega) ?_;dsimp only [Zd,go_sem]))
   refine Zr (by decide) ?_;dsimp only [go_sem];have e:(if c.water.lo ≥ W.hi/\c.fat.lo ≥ F.hi then (0:Int) else 1)=0:=if_pos (by omega);by_cases hz:m.hours=0
   . refine Zq (by simpa using hz) ?_;dsimp only [go_sem];simp (disch:=omega) only [Zh];simp only [Yr,hW,hF,if_neg hd0,Uu,UP,YI,e,if_pos hz]
   . refine Zr (by simpa using hz) ?_;dsimp only [go_sem];refine call (Zav b.rub 1000000 m.hours m.load 0 _ (by omega) (by omega) (by omega) (by omega) (by omega) k6 (by omega) (by omega)) ?_;dsimp only [Zc,go_sem];simp only [Int.mul_assoc];refine call (Uz c.sore ⟨(b.rub.lo * (m.hours * m.load)).tdiv 1000000,upF (b.rub.hi * (m.hours * m.load)) 1000000⟩ _ (by unfold bdS;omega) (by unfold bdS;simp only;omega)) ?_
     dsimp only [Zc,go_sem];simp only [Yr,hW,hF,if_neg hd0,Uu,UP,YI,e,if_neg hz]
end Go.Proofs.YtiigiflofnjilaaGreat.Cm
namespace Go.Azalai
theorem Zfo {x y d:Int} (hd:1<=d) (h0:0<=x) (h:x<=y):x.tdiv d<=upF y d:=by
 unfold upF;rw [Int.tdiv_eq_ediv_of_nonneg h0,Int.tdiv_eq_ediv_of_nonneg (by omega)];exact Int.ediv_le_ediv (by omega) (by omega)
theorem Zq1 {b:Breed} {k:Bool} {m:March} (hb:ZA b=true) (hm:Z7 m=true):(WB b k m).lo<=(WB b k m).hi:=by
 have h:=Go.Proofs.YtiigiflofnjilaaGreat.Cm.breed_bd hb;have h2:=Go.Proofs.YtiigiflofnjilaaGreat.Cm.march_bd hm;have hw:=Go.Proofs.YtiigiflofnjilaaGreat.Cm.work_bd hm;have q1:(b.toil.lo * Yw m).tdiv 100000<=upF (b.toil.hi * Yw m) 100000:=Zfo (by omega) (Int.mul_nonneg (by omega) hw.1) (Int.mul_le_mul_of_nonneg_right (by omega) hw.1);have q2:b.heat.lo * max 0 (m.heat.lo - 20)<=b.heat.hi * max 0 (m.heat.hi - 20):=Int.mul_le_mul (by omega) (by omega) (by omega) (by omega)
 simp only [WB];cases k<;>simp<;>omega
theorem Znq {b:Breed} {m:March} (hb:ZA b=true) (hm:Z7 m=true):(WX b m).lo<=(WX b m).hi:=by
 have h:=Go.Proofs.YtiigiflofnjilaaGreat.Cm.breed_bd hb;have hw:=Go.Proofs.YtiigiflofnjilaaGreat.Cm.work_bd hm;exact Zfo (by omega) (Int.mul_nonneg (by omega) hw.1) (Int.mul_le_mul_of_nonneg_right (by omega) hw.1)
theorem after_ok {b:Breed} {c:Camel} {m:March} (hb:ZA b=true) (hc:Zz b c=true) (hm:Z7 m=true) (hd:(Yr b c m).2≠2):Zz b (Yr b c m).1=true:=by
 have h1:=Go.Proofs.YtiigiflofnjilaaGreat.Cm.breed_bd hb;have h2:=Go.Proofs.YtiigiflofnjilaaGreat.Cm.camel_bd hb hc;have h3:=Go.Proofs.YtiigiflofnjilaaGreat.Cm.march_bd hm;have w1:=Zbt (k:=c.milks) hb hm;have w2:=Zbp hb hm;have hlo:(WB b c.milks m).lo<=(WB b c.milks m).hi:=Zq1 hb hm;have hlf:(WX b m).lo<=(WX b m).hi:=Znq hb hm;have hr:(b.rub.lo * (m.hours * m.load)).tdiv 1000000<=upF (b.rub.hi * (m.hours * m.load)) 1000000 :=
  Zfo (by omega) (Int.mul_nonneg (by omega) (Int.mul_nonneg (by omega) (by omega))) (Int.mul_le_mul_of_nonneg_right (by omega) (Int.mul_nonneg (by omega) (by omega)))
 have hr0:0<=(b.rub.lo * (m.hours * m.load)).tdiv 1000000 :=
  Int.tdiv_nonneg (Int.mul_nonneg (by omega) (Int.mul_nonneg (by omega) (by omega))) (by omega)
 unfold Yr at hd ⊢;simp only at hd ⊢;split at hd
 . exact absurd rfl hd
 . rename_i h;rw [if_neg h];simp only [Zz,Yl,Uu,UP,Bool.and_eq_true,decide_eq_true_eq];by_cases hz:m.hours=0
   . simp only [if_pos hz,Bool.and_eq_true,decide_eq_true_eq];refine ⟨⟨decide_eq_true ⟨by omega,by omega,by omega⟩,decide_eq_true ⟨by omega,by omega,by omega⟩⟩,by omega,by omega,by omega⟩
   . simp only [if_neg hz,Bool.and_eq_true,decide_eq_true_eq];refine ⟨⟨decide_eq_true ⟨by omega,by omega,by omega⟩,decide_eq_true ⟨by omega,by omega,by omega⟩⟩,by omega,by omega,by omega⟩
end Go.Azalai
namespace Go.Proofs.YtiigiflofnjilaaGreat.Cm
open Go Go.Sx Go.Azalai
end Go.Proofs.YtiigiflofnjilaaGreat.Cm
namespace Go.Azalai
end Go.Azalai
namespace Go.Proofs.YtiigiflofnjilaaGreat.Cm
open Go Go.Sx Go.Azalai
theorem ZpJ (b:Breed) (c:Camel) (m:March) (hb:ZA b=true) (hc:Zz b c=true) (hm:Z7 m=true) (hd:(Yr b c m).2=2) :
 Ct Tryz.prog 84 [.agg (YI b c),.agg (Ym m)] (.tup [.agg (YI ⟨0,0,⟨0,0⟩,⟨0,0⟩,⟨0,0⟩,⟨0,0⟩,⟨0,0⟩,⟨0,0⟩,0,⟨0,0⟩⟩ YE),.v (.int .u8 2)]):=by
 have h1:=breed_bd hb;have h2:=camel_bd hb hc;have h3:=march_bd hm;have w1:=Zbt (k:=c.milks) hb hm;have w2:=Zbp hb hm;refine t84.1 (by simp [YI,Ym]) (by simp [YI,YE]) ?_;dsimp only [c84,r84,YI,Ym,go_sem];refine call (ZmW b c.milks m hb hm) ?_;dsimp only [go_sem];generalize hW:WB b c.milks m=W at w1;generalize hF:WX b m=F at w2;have hd':c.water.hi < W.lo\/c.fat.hi < F.lo:=by
  by_cases h:c.water.hi < W.lo\/c.fat.hi < F.lo
  . exact h
  . simp only [Yr,hW,hF,if_neg h] at hd;split at hd<;>cases hd
 by_cases hw:c.water.hi < W.lo
 . refine Xt 3 ?_;dsimp only [Zd,go_sem];refine Zq (by decide) ?_;dsimp only [Zd,go_sem];repeat (first | (refine ixa 0 rfl (by decide) ?_;dsimp only [Zd,go_sem]) | (refine Zq (by simp;omega) ?_;dsimp only [Zd,YE,go_sem]))
 . have hf:c.fat.hi < F.lo:=by omega
   by_cases hp:c.water.lo < W.hi
   . refine Xt 3 ?_;dsimp only [Zd,go_sem];refine Zq (by decide) ?_;dsimp only [Zd,go_sem];repeat (first | (refine ixa 0 rfl (by decide) ?_;dsimp only [Zd,go_sem]) | (refine Zr (by simp;omega) ?_;dsimp only [Zd,go_sem]) | (refine Zq (by simp;omega) ?_;dsimp only [Zd,go_sem]))
     simp (disch:=omega) only [Zh];refine call (Uz ⟨max 0 (c.water.lo - W.hi),c.water.hi - W.lo⟩ m.drinks _ (by unfold bdS;simp only;omega) (by unfold bdS;omega)) ?_;dsimp only [Zd,Zc,go_sem];repeat (first | (refine ixa 0 rfl (by decide) ?_;dsimp only [Zd,go_sem]) | (refine Zr (by simp;omega) ?_;dsimp only [Zd,go_sem]) | (refine Zq (by simp;omega) ?_;dsimp only [Zd,go_sem]))
     simp (disch:=omega) only [Zh];refine Zq (by decide) ?_;dsimp only [Zd,go_sem];repeat (first | (refine ixa 1 rfl (by decide) ?_;dsimp only [Zd,go_sem]) | (refine Zq (by simp;omega) ?_;dsimp only [Zd,YE,go_sem]))
   . refine Xt 3 ?_;dsimp only [Zd,go_sem];refine Zq (by decide) ?_;dsimp only [Zd,go_sem];repeat (first | (refine ixa 0 rfl (by decide) ?_;dsimp only [Zd,go_sem]) | (refine Zr (by simp;omega) ?_;dsimp only [Zd,go_sem]) | (refine Zq (by simp;omega) ?_;dsimp only [Zd,go_sem]))
     simp (disch:=omega) only [Zh];refine call (Uz ⟨max 0 (c.water.lo - W.hi),c.water.hi - W.lo⟩ m.drinks _ (by unfold bdS;simp only;omega) (by unfold bdS;omega)) ?_;dsimp only [Zd,Zc,go_sem];repeat (first | (refine ixa 0 rfl (by decide) ?_;dsimp only [Zd,go_sem]) | (refine Zr (by simp;omega) ?_;dsimp only [Zd,go_sem]) | (refine Zq (by simp;omega) ?_;dsimp only [Zd,go_sem]))
     simp (disch:=omega) only [Zh];refine Zq (by decide) ?_;dsimp only [Zd,go_sem];repeat (first | (refine ixa 1 rfl (by decide) ?_;dsimp only [Zd,go_sem]) | (refine Zq (by simp;omega) ?_;dsimp only [Zd,YE,go_sem]))
end Go.Proofs.YtiigiflofnjilaaGreat.Cm
namespace Go.Azalai
def YW (b:Breed) (c:Camel) (m:March):Camel × Int × Int :=
 if ZaG b c≠0 then (YE,0,ZaG b c) else if Z7 m=false then (YE,0,12) else if (Yr b c m).2=2 then (YE,0,13) else ((Yr b c m).1,(Yr b c m).2,0)
end Go.Azalai
namespace Go.Proofs.YtiigiflofnjilaaGreat.Cm
open Go Go.Sx Go.Azalai
def U8 (n:Int):SV:=.v (.int .u8 n)
theorem after1_ok (b:Breed) (c:Camel) (m:March):Ct Tryz.prog 40 [.agg (breedL b),.agg (camelL c),.agg (Ym m)] (.tup [.agg (camelL (YW b c m).1),U8 (YW b c m).2.1,I (YW b c m).2.2]):=by
 refine t40.1 (by simp [breedL,camelL,Ym]) (by simp [camelL,U8]) ?_;dsimp only [c40,r40,breedL,camelL,Ym,go_sem];refine call (checkCamel_ok b c) ?_;dsimp only [go_sem];by_cases h0:ZaG b c=0
 case neg =>
  refine Zq (by simpa using h0) ?_;dsimp only [go_sem];simp [YW,h0,YE,U8,camelL]
 refine Zr (by simpa using h0) ?_;dsimp only [go_sem];obtain ⟨hb,hc⟩:=errC_0.1 h0;refine call (ZkO m true) ?_;dsimp only [go_sem];by_cases hm:Z7 m=true
 case neg =>
  refine Zq (by simp [hm]) ?_;dsimp only [go_sem];simp [YW,h0,hm,YE,U8,camelL]
 refine Zr (by simp [hm]) ?_;dsimp only [go_sem];by_cases hd:(Yr b c m).2=2
 . refine call (ZpJ b c m hb hc hm hd) ?_;dsimp only [YI,YE,go_sem];refine Zq (by decide) ?_;dsimp only [go_sem];simp [YW,h0,hm,hd,YE,U8,camelL]
 refine call (ZzT b c m hb hc hm hd) ?_;dsimp only [YI,go_sem];refine Zr (by simpa using hd) ?_;dsimp only [go_sem];simp [YW,h0,hm,hd,U8,camelL]
theorem after2_ok (b:Breed) (c:Camel) (m:March):Ct Tryz.prog 150 [.agg (breedL b),.agg (camelL c),.agg (Ym m)] (.tup [.agg (camelL (YW b c m).1),I (YW b c m).2.1,I (YW b c m).2.2]):=by
 refine t150.1 (by simp [breedL,camelL,Ym]) (by simp [camelL]) ?_;dsimp only [c150,r150,breedL,camelL,Ym,go_sem];refine call (checkCamelR_ok b c) ?_;dsimp only [go_sem];by_cases h0:ZaG b c=0
 case neg =>
  refine Zq (by simpa using h0) ?_;dsimp only [go_sem];simp [YW,h0,YE,camelL]
 refine Zr (by simpa using h0) ?_;dsimp only [go_sem];obtain ⟨hb,hc⟩:=errC_0.1 h0;refine call (ZmY m) ?_;dsimp only [go_sem];by_cases hm:Z7 m=true
 case neg =>
  refine Zq (by simp [hm]) ?_;dsimp only [go_sem];simp [YW,h0,hm,YE,camelL]
 refine Zr (by simp [hm]) ?_;dsimp only [go_sem];refine call (Zk3 b c m hb hc hm) ?_;dsimp only [camelL,go_sem];by_cases hd:(Yr b c m).2=2
 . refine Zq (by simpa using hd) ?_;dsimp only [go_sem];simp [YW,h0,hm,hd,YE,camelL]
 refine Zr (by simpa using hd) ?_;dsimp only [go_sem];simp [YW,h0,hm,hd,camelL]
end Go.Proofs.YtiigiflofnjilaaGreat.Cm
namespace Go.Proofs.YtiigiflofnjilaaGreat
open Go Go.Sx Go.Azalai
theorem Zdq (l:Land) (hs:Xu l):Ct Tryz.prog 136 [.agg (Zt l)] (B (ZX l)):=by
 have hw1:IntKind.i64.wrap ((l.wells.length:Int) - 1)=(l.wells.length:Int) - 1:=Zh (by omega) (by have:=hs.1;omega);refine t136.1 (by simp [Zt,Zf,Zl,Zg,Za]) (by simp) ?_;dsimp only [c136,r136,Zt,go_sem];refine call (ZW _ _ _) ?_;dsimp only [go_sem];repeat (refine gb ?_;dsimp only [go_sem])
 simp only [List.length_map];refine br ?_ ?_
 . intro h;dsimp only [go_sem];have:ZX l=false:=by simp only [ZX];grind
   rw [this]
 intro h;dsimp only [go_sem];have ho1:ZX l=(l.wells.all YS && l.legs.all (WO l.wells.length)):=by simp only [ZX];grind
 refine Yy (λk:Nat=>[(3,I k)]) (λ_=>[]) (λk=>k<=l.wells.length/\(l.wells.drop k).all YS=l.wells.all YS) (λk=>l.wells.length - k) 0 ⟨Nat.zero_le _,rfl⟩ ?_ ?_
 . (refine Zj ?_ ?_ ?_ rfl rfl<;>dsimp only [Zg,Zf,Zl,id,go_sem]<;>simp [Zg,Zf,Zl,Za])
 intro k ⟨hk,hi⟩;dsimp only [go_sem];by_cases hlt:k < l.wells.length
 . refine Zq (by simpa using hlt) ?_;dsimp only [go_sem];refine Zo k hlt rfl ?_;dsimp only [Zf,go_sem];repeat (first | (refine gb ?_;dsimp only [go_sem]) | (refine call (ZW _ _ _) ?_;dsimp only [go_sem]) | (refine call (ZO l.wells[k].yld _ _) ?_;dsimp only [go_sem]) | (refine call (ZO l.wells[k].has _ _) ?_;dsimp only [go_sem]))
   rw [List.drop_eq_getElem_cons hlt,List.all_cons] at hi;refine br ?_ ?_
   . intro hb;dsimp only [go_sem];have:YS l.wells[k]=false:=by simp only [YS];grind
     rw [ho1,<- hi,this];rfl
   . intro hb;dsimp only [go_sem];rw [Zh (n:=(k:Int)+1) (by omega) (by have:=hs.1;omega)];have:YS l.wells[k]=true:=by simp only [YS];grind
     rw [this,Bool.true_and] at hi;refine ⟨k+1,⟨hlt,hi⟩,by omega,?_⟩;(refine Zj ?_ ?_ ?_ rfl rfl<;>dsimp only [Zg,Zf,Zl,id,go_sem]<;>simp [Zg,Zf,Zl,Za])
 refine Zr (by simp;omega) ?_;dsimp only [go_sem];have hke:k=l.wells.length:=by omega
 subst hke;rw [List.drop_length] at hi;rw [<- hi] at ho1;rw [show ZX l=l.legs.all (WO l.wells.length) from by rw [ho1];simp];refine Yy (λk:Nat=>[(5,I k)]) (λ_=>[]) (λk=>k<=l.legs.length/\(l.legs.drop k).all (WO l.wells.length)=l.legs.all (WO l.wells.length)) (λk=>l.legs.length - k) 0 ⟨Nat.zero_le _,rfl⟩ ?_ ?_
 . (refine Zj ?_ ?_ ?_ rfl rfl<;>dsimp only [Zg,Zf,Zl,id,go_sem]<;>simp [Zg,Zf,Zl,Za])
 intro k ⟨hk,hi⟩;dsimp only [go_sem];by_cases hlt:k < l.legs.length
 . refine Zq (by simpa using hlt) ?_;dsimp only [go_sem];refine Zo k hlt rfl ?_;dsimp only [Zl,go_sem];simp only [List.length_map,hw1];repeat (first | (refine gb ?_;dsimp only [go_sem]) | (refine call (ZW _ _ _) ?_;dsimp only [go_sem]) | (refine call (ZO l.legs[k].long _ _) ?_;dsimp only [go_sem]))
   rw [List.drop_eq_getElem_cons hlt,List.all_cons] at hi;simp only [List.length_map];have hgl:=hs.2.2 l.legs[k] (List.getElem_mem _);generalize l.legs[k]=x at *;refine br ?_ ?_
   . intro hb;dsimp only [go_sem];have:WO l.wells.length x=false:=by simp only [WO];grind
     rw [<- hi,this];rfl
   . intro hb;dsimp only [go_sem];have hx:WO l.wells.length x=YQ 0 x.gates:=by simp only [WO];grind
     refine Yy (λs:Nat × Int=>[(8,I s.1),(7,I s.2)]) (λ_=>[]) (λs=>s.1<=x.gates.length/\YQ (s.2+1) (x.gates.drop s.1)=YQ 0 x.gates) (λs=>x.gates.length - s.1) (0,-1) ⟨Nat.zero_le _,rfl⟩ ?_ ?_
     . (refine Zj ?_ ?_ ?_ rfl rfl<;>dsimp only [Zg,Zf,Zl,id,go_sem]<;>simp [Zg,Zf,Zl,Za])
     rintro ⟨j,last⟩ ⟨hj,hji⟩;simp only at hj hji;dsimp only [go_sem];by_cases hlt2:j < x.gates.length
     . refine Zq (by simpa using hlt2) ?_;dsimp only [go_sem];refine Zo j hlt2 rfl ?_;dsimp only [Zg,go_sem];repeat (first | (refine gb ?_;dsimp only [go_sem]) | (refine call (ZO x.gates[j].opens _ _) ?_;dsimp only [go_sem]) | (refine call (ZO x.gates[j].shuts _ _) ?_;dsimp only [go_sem]))
       rw [List.drop_eq_getElem_cons hlt2] at hji;simp only [YQ] at hji;refine br ?_ ?_
       . intro hb2;dsimp only [go_sem];have:WO l.wells.length x=false:=by rw [hx,<- hji];simp only [inR];grind
         rw [<- hi,this];rfl
       . intro hb2;dsimp only [go_sem];rw [Zh (n:=(j:Int)+1) (by omega) (by omega)];refine ⟨(j+1,x.gates[j].shuts.hi),⟨hlt2,?_⟩,by simp only;omega,?_⟩
         . simp only;rw [<- hji];simp only [inR];grind
         . (refine Zj ?_ ?_ ?_ rfl rfl<;>dsimp only [Zg,Zf,Zl,id,go_sem]<;>simp [Zg,Zf,Zl,Za])
     . refine Zr (by simp;omega) ?_;dsimp only [go_sem];rw [Zh (n:=(k:Int)+1) (by omega) (by have:=hs.2.1;omega)];have hje:j=x.gates.length:=by omega
       subst hje;rw [List.drop_length] at hji;simp only [YQ] at hji;rw [hx,<- hji,Bool.true_and] at hi;refine ⟨k+1,⟨hlt,hi⟩,by omega,?_⟩;(refine Zj ?_ ?_ ?_ rfl rfl<;>dsimp only [Zg,Zf,Zl,id,go_sem]<;>simp [Zg,Zf,Zl,Za])
 refine Zr (by simp;omega) ?_;dsimp only [go_sem];have hke:k=l.legs.length:=by omega
 subst hke;rw [List.drop_length] at hi;rw [<- hi];rfl
theorem Zpb (l:Land):Ct Tryz.prog 46 [.agg (Zt l)] (B (ZbU l)):=by
 refine t46.1 (by simp [Zt,Zf,Zl,Zg,Za]) (by simp) ?_;dsimp only [c46,r46,Zt,go_sem];repeat (refine gb ?_;dsimp only [go_sem])
 simp only [List.length_map];refine br ?_ ?_
 . intro h;dsimp only [go_sem]
   (simp only [ZbU,Option.some.injEq,SV.v.injEq,Value.bool.injEq]<;>grind)
 intro h;dsimp only [go_sem];have hg:ZbU l=l.legs.any λx=>decide (x.gates.length > 20):=by simp only [ZbU];grind
 have hlen:l.legs.length<=40:=by grind
 rw [hg];refine Yy (λk:Nat=>[(3,I k)]) (λ_=>[]) (λk=>k<=l.legs.length/\((l.legs.drop k).any λx=>decide (x.gates.length > 20))=l.legs.any λx=>decide (x.gates.length > 20)) (λk=>l.legs.length - k) 0 ⟨Nat.zero_le _,rfl⟩ ?_ ?_
 . (refine Zj ?_ ?_ ?_ rfl rfl<;>dsimp only [Zg,Zf,Zl,id,go_sem]<;>simp [Zg,Zf,Zl,Za])
 intro k ⟨hk,hi⟩;dsimp only [go_sem];by_cases hlt:k < l.legs.length
 . refine Zq (by simpa using hlt) ?_;dsimp only [go_sem];refine Zo k hlt rfl ?_;dsimp only [Zl,go_sem];rw [List.drop_eq_getElem_cons hlt,List.any_cons] at hi;refine br ?_ ?_
   . intro hb;dsimp only [go_sem];have:decide (l.legs[k].gates.length > 20)=true:=by simp at hb ⊢;omega
     rw [<- hi,this];rfl
   . intro hb;dsimp only [go_sem];rw [Zh (n:=(k:Int)+1) (by omega) (by omega)];have:decide (l.legs[k].gates.length > 20)=false:=by simp at hb ⊢;omega
     rw [this,Bool.false_or] at hi;refine ⟨k+1,⟨hlt,hi⟩,by omega,?_⟩;(refine Zj ?_ ?_ ?_ rfl rfl<;>dsimp only [Zg,Zf,Zl,id,go_sem]<;>simp [Zg,Zf,Zl,Za])
 refine Zr (by simp;omega) ?_;dsimp only [go_sem];have hke:k=l.legs.length:=by omega
 subst hke;rw [List.drop_length] at hi;rw [<- hi];rfl
theorem ZkY (l:Land) (hs:Xu l) (draws:List Draw) (hd:draws.length<=1000):Ct Tryz.prog 45 [.agg (Zt l),.sl false 3 (draws.map Z2)] (B (Xw l.wells.length 0 draws)):=by
 have hw1:IntKind.i64.wrap ((l.wells.length:Int) - 1)=(l.wells.length:Int) - 1:=Zh (by omega) (by have:=hs.1;omega);refine t45.1 (by simp [Zt,Zf,Zl,Zg,Z2,Za]) (by simp) ?_;dsimp only [c45,r45,Zt,go_sem];refine Yy (λs:Nat × Int=>[(5,I s.1)]) (λ_=>[]) (λs=>s.1<=draws.length/\Xw l.wells.length s.2 (draws.drop s.1)=Xw l.wells.length 0 draws/\(s.1=0->s.2=0)/\0<=s.2/\(∀ h:s.1 - 1 < draws.length,0 < s.1->s.2=draws[s.1 - 1].day)) (λs=>draws.length - s.1) (0,0)
  ⟨Nat.zero_le _,rfl,λ_=>rfl,Int.le_refl _,λ_ h=>absurd h (by simp)⟩ ?_ ?_
 . (refine Zj ?_ ?_ ?_ rfl rfl<;>dsimp only [Zg,Zf,Zl,Z2,id,go_sem]<;>simp [Zg,Zf,Zl,Z2,Za])
 rintro ⟨k,last⟩ ⟨hk,hi,hz,h0,hl⟩;simp only at hk hi hz h0 hl;dsimp only [go_sem];by_cases hlt:k < draws.length
 . refine Zq (by simpa using hlt) ?_;dsimp only [go_sem];refine Zo k hlt rfl ?_;dsimp only [Z2,go_sem];simp only [List.length_map,hw1];repeat (first | (refine gb ?_;dsimp only [go_sem]) | (refine call (ZW _ _ _) ?_;dsimp only [go_sem]))
   refine ZgB (k - 1) (Z2 (draws[k - 1]'(by omega))) rfl ?_ ?_
   . intro hb;have hb:k > 0:=by simpa using hb
     exact ⟨by rw [Zh (by omega) (by omega)];omega,by rw [List.getElem?_map,List.getElem?_eq_getElem (by omega)];rfl⟩
   dsimp only [Z2,go_sem];repeat (refine gb ?_;dsimp only [go_sem])
   have hdr:draws.drop k=draws[k] :: draws.drop (k+1):=List.drop_eq_getElem_cons hlt;rw [hdr] at hi;simp only [Xw] at hi;have hlast:(!(decide ((k:Int) > 0) && decide (draws[k].day < (draws[k - 1]'(by omega)).day)) && inR 0 100000 draws[k].day)=inR last 100000 draws[k].day:=by
    by_cases hk0:k=0
    . subst hk0;rw [hz rfl];simp
    . have:=hl (by omega) (by omega);rw [this] at h0 ⊢;simp only [inR];grind
   refine br ?_ ?_
   . intro hb;dsimp only [go_sem];rw [<- hi,<- hlast]
     (simp only [Option.some.injEq,SV.v.injEq,Value.bool.injEq]<;>grind)
   . intro hb;dsimp only [go_sem];rw [Zh (n:=(k:Int)+1) (by omega) (by omega)];refine ⟨(k+1,draws[k].day),⟨hlt,?_,λh=>by simp at h,?_,λh _=>by simp⟩,by simp only;omega,?_⟩
     . rw [<- hi,<- hlast];grind
     . simp only [inR] at hb;grind
     . (refine Zj ?_ ?_ ?_ rfl rfl<;>dsimp only [Zg,Zf,Zl,Z2,id,go_sem]<;>simp [Zg,Zf,Zl,Z2,Za])
 . refine Zr (by simp;omega) ?_;dsimp only [go_sem];have hke:k=draws.length:=by omega
   subst hke;rw [List.drop_length] at hi;rw [<- hi];rfl
theorem Zl2 (l:Land) (hs:Xu l) (well day:Int) (draws:List Draw) (hd:draws.length<=1000) :
 Ct Tryz.prog 108 [.agg (Zt l),I well,.sl false 3 (draws.map Z2),I day] (Ze3 (Xo l well draws day)):=by
 have hw1:IntKind.i64.wrap ((l.wells.length:Int) - 1)=(l.wells.length:Int) - 1:=Zh (by omega) (by have:=hs.1;omega);refine t108.1 (by simp [Zt,Zf,Zl,Zg,Z2,Za]) (by simp [Ze3,Zc]) ?_;dsimp only [c108,r108,Zt,go_sem];refine call (Zdq l hs) ?_;dsimp only [go_sem];by_cases ho:ZX l=true
 case neg =>
  refine Zq (by simp [ho]) ?_;dsimp only [go_sem];simp [Xo,ho,Ze3,Zc]
 refine Zr (by simp [ho]) ?_;dsimp only [go_sem];simp only [List.length_map,hw1];repeat (first | (refine gb ?_;dsimp only [go_sem]) | (refine call (ZW _ _ _) ?_;dsimp only [go_sem]))
 by_cases ha:(inR 0 (l.wells.length - 1) well && inR 0 100000 day)=true
 case neg =>
  refine Zq (by grind) ?_;dsimp only [go_sem];simp [Xo,ho,Ze3,Zc,ha]
 refine Zr (by grind) ?_;dsimp only [go_sem];by_cases hm:draws.length > 200
 case pos =>
  refine Zq (by simp;omega) ?_;dsimp only [go_sem];simp [Xo,ho,Ze3,Zc,ha,hm]
 refine Zr (by simp;omega) ?_;dsimp only [go_sem];refine call (ZkY l hs draws hd) ?_;dsimp only [go_sem];by_cases hi:Xw l.wells.length 0 draws=true
 case neg =>
  refine Zq (by simp [hi]) ?_;dsimp only [go_sem];simp [Xo,ho,Ze3,Zc,ha,hm,hi]
 refine Zr (by simp [hi]) ?_;dsimp only [go_sem];obtain ⟨kw,hkw,rfl,hget⟩:=Zg9 (Bool.and_eq_true_iff.1 ha).1;refine Zo kw hkw rfl ?_;dsimp only [Zf,go_sem];have hwf:Xo l kw draws day=Wd l.wells[kw] kw day l.wells[kw].has (-1) 0 draws:=by
  simp only [Xo,ho,ha,hm,hi,hget];simp
 rw [hwf];have hok:=Zcv ho l.wells[kw] (List.getElem_mem _);have hmem:=Uv hi (Int.le_refl _);have hday:0<=day/\day<=100000:=by simp only [inR,Bool.and_eq_true,decide_eq_true_eq] at ha;omega
 have hroom:0<=l.wells[kw].has.lo/\l.wells[kw].has.lo<=l.wells[kw].room/\0<=l.wells[kw].has.hi/\l.wells[kw].has.hi<=l.wells[kw].room/\l.wells[kw].room<=1000000000:=by
  simp only [YS,Yl,inR,Bool.and_eq_true,decide_eq_true_eq] at hok;omega
 have hroom2:∀ x:Int,x<=l.wells[kw].room->x<=1000000000:=λx h=>by omega
 refine Yy (λs:Nat × Span × Int=>[(14,I s.1),(13,I (s.2.2+1))]) (λs=>[(3,.cells (Zc s.2.1) 27)])
  (λs=>s.1<=draws.length/\Wd l.wells[kw] kw day s.2.1 s.2.2 s.1 (draws.drop s.1)=Wd l.wells[kw] kw day l.wells[kw].has (-1) 0 draws /\
   0<=s.2.1.lo/\s.2.1.lo<=l.wells[kw].room/\0<=s.2.1.hi/\s.2.1.hi<=l.wells[kw].room/\-1<=s.2.2/\s.2.2<=100000) (λs=>draws.length - s.1) (0,l.wells[kw].has,-1)
  ⟨Nat.zero_le _,rfl,hroom.1,hroom.2.1,hroom.2.2.1,hroom.2.2.2.1,by simp,by simp⟩ ?_ ?_
 . (refine Zj ?_ ?_ ?_ rfl rfl<;>dsimp only [Zg,Zf,Zl,Z2,Zc,id,go_sem]<;>simp [Zg,Zf,Zl,Z2,Zc,Za])
 . rintro ⟨k,now,ev⟩ ⟨hk2,hi2,n1,n2,n3,n4,e1,e2⟩;simp only at hk2 hi2 n1 n2 n3 n4 e1 e2;dsimp only [Zc,go_sem];by_cases hlt2:k < draws.length
   . refine Zq (by simpa using hlt2) ?_;dsimp only [go_sem];refine Zo k hlt2 rfl ?_;dsimp only [Z2,go_sem];repeat (first | (refine gb ?_;dsimp only [go_sem]))
     have hx:=hmem draws[k] (List.getElem_mem _);have hdr:draws.drop k=draws[k] :: draws.drop (k+1):=List.drop_eq_getElem_cons hlt2;rw [hdr] at hi2;simp only [Wd] at hi2;by_cases hc:(draws[k].well != (kw:Int) || decide (draws[k].day ≥ day))=true
     . refine Zq hc ?_;dsimp only [go_sem];rw [if_pos hc] at hi2;rw [Zh (n:=(k:Int)+1) (by omega) (by omega)];refine ⟨(k+1,now,ev),⟨hlt2,hi2,n1,n2,n3,n4,e1,e2⟩,by simp only;omega,?_⟩;(refine Zj ?_ ?_ ?_ rfl rfl<;>dsimp only [Zg,Zf,Zl,Z2,Zc,id,go_sem]<;>simp [Zg,Zf,Zl,Z2,Zc,Za])
     . refine Zr (by simpa using hc) ?_;rw [if_neg hc] at hi2;dsimp only [go_sem];rw [Zh (n:=draws[k].day+1) (by omega) (by omega),Zh (n:=draws[k].day+1 - (ev+1)) (by omega) (by omega),show draws[k].day+1 - (ev+1)=draws[k].day - ev from by omega];refine call (Zc7 l.wells[kw] now (draws[k].day - ev) hok n1 n2 n3 n4 (by omega) (by omega)) ?_;dsimp only [Zc,go_sem];have hbig:-2000000000000<=(Y6 l.wells[kw] now (draws[k].day - ev)).lo:=Zeb hok n1 n2 n3 n4 (by omega) (by omega)
       have hf2:(Y6 l.wells[kw] now (draws[k].day - ev)).hi<=l.wells[kw].room:=by simp only [Y6];omega
       have hf1:(Y6 l.wells[kw] now (draws[k].day - ev)).lo<=l.wells[kw].room:=by simp only [Y6];omega
       generalize hF:Y6 l.wells[kw] now (draws[k].day - ev)=F at *;by_cases hdry:F.hi < draws[k].water
       . refine Zq (by simpa using hdry) ?_;dsimp only [go_sem];rw [if_pos hdry] at hi2;rw [<- hi2];rfl
       . refine Zr (by simpa using hdry) ?_;dsimp only [go_sem];rw [if_neg hdry] at hi2;rw [Zh (n:=draws[k].day+1) (by omega) (by omega),Zh (n:=F.lo - draws[k].water) (by omega) (by omega),Zh (n:=F.hi - draws[k].water) (by omega) (by omega),Zh (n:=(k:Int)+1) (by omega) (by omega)];refine ⟨(k+1,⟨max 0 (F.lo - draws[k].water),F.hi - draws[k].water⟩,draws[k].day),⟨hlt2,hi2,by simp only;omega,by simp only;omega,by simp only;omega,by simp only;omega,by simp only;omega,by simp only;omega⟩,by simp only;omega,?_⟩
         (refine Zj ?_ ?_ ?_ rfl rfl<;>dsimp only [Zg,Zf,Zl,Z2,Zc,id,go_sem]<;>simp [Zg,Zf,Zl,Z2,Zc,Za])
   . refine Zr (by simp;omega) ?_;dsimp only [go_sem];rw [Zh (n:=day - (ev+1)) (by omega) (by omega),show day - (ev+1)=day - 1 - ev from by omega];refine call (Zc7 l.wells[kw] now (day - 1 - ev) hok n1 n2 n3 n4 (by omega) (by omega)) ?_;dsimp only [Zc,go_sem];have hk':k=draws.length:=by omega
     subst hk';simp only [List.drop_length,Wd] at hi2;rw [<- hi2];rfl
end Go.Proofs.YtiigiflofnjilaaGreat
