/- Walks and plain laws that lead to the given statement, part 9 of 20. -/
import Derived.Test.YtongccnhomncnaaGreatDoorHH
import Derived.Test.YtongccnhomncnaaGreatDoorProg
set_option maxRecDepth 100000
set_option maxHeartbeats 4000000
set_option linter.all false
open Nat renaming beq_refl->nbr
namespace Go.Proofs.YtongccnhomncnaaGreatDoor.Ld
open Go Go.Sx Go.Azalai
def ZcY (l:List Pack) (t:Tied) (b:Int) (c:Bool) (r:SV):Lh:=[(0,.cells [.sl c 11 (l.map Zx)] 43),(1,.cells (Z2 t) 45),(2,.cells [I b] 3),(3,.cells [r] 35)]
theorem ZAn (l:List Pack) (t:Tied) (b:Int) (c:Bool) (h:CarB l t) (hb:0<=b/\b<=1000000000) (r1:Wf t.left=true) (r2:Wf t.right=true) (hbal:ZiK l t b=2) :
 Cq 37 (ZcY l t b c (.v (.slice none 0 0))) 4 [.p 0 0,.p 1 0,.p 2 0,.p 3 0] (λo=>o=⟨false,.tup [],ZcY l t b c (.sl false 1 []),4⟩):=by
 have hl:=h.hl;refine m37 (by simp [hpb,ZcY]) (λo ho=>by subst ho;simp [ZcY,KX,KXL,KXP,KXH,KFL,KF,KFR,Za,Zx,Z2,Zk]) ?_;dsimp only [c37,r37,ZcY,Z2,go_sem];refine ZA [] (WH l t h.hl h.hp h.ht c true) rfl rfl rfl ?_ ?_ ?_
 . (repeat first | dsimp only [Z2,go_sem] | simp only [nbr])
   try simp [mtL,mtB,mtS,Zc,Za,Zx,Zk,KFL,KF,KFR]
 . trivial
 rintro _ rfl
 (repeat first | dsimp only [go_sem] | simp only [nbr])
 refine ZA [] (Zdi b hb) rfl rfl rfl ?_ ?_ ?_
 . (repeat first | dsimp only [go_sem] | simp only [nbr])
   try simp [mtL,mtB,mtS]
 . trivial
 rintro _ rfl
 (repeat first | dsimp only [go_sem] | simp only [nbr])
 refine call (ZdD l h.hp (by omega) c) ?_;dsimp only [go_sem];refine call (Zkr l t b h hb r1 r2 hbal) ?_;dsimp only [go_sem];refine ⟨_,rfl,?_⟩;(refine Zw ?_ ?_ ?_ rfl<;>dsimp only [ZcY,Zx,Z2,Zk,KFR,id,go_sem]<;>simp [ZcY,Zx,Z2,Zk,KFR,Za])
theorem ZAs (l:List Pack) (t:Tied) (b:Int) (c:Bool) (h:CarB l t) (hb:0<=b/\b<=1000000000) (r1:Wf t.left=true) (r2:Wf t.right=true) (hbal:ZiK l t b=2) :
 Cq 26 (ZcY l t b c (.v (.slice none 0 0))) 4 [.cl 37 [.p 0 0,.p 1 0,.p 2 0,.p 3 0]] (λo=>o=⟨false,I 0,ZcY l t b c (.sl false 1 []),4⟩):=by
 refine m26 (by simp [hpb,ZcY]) (λo ho=>by subst ho;simp [ZcY,KX,KXL,KXP,KXH,KFL,KF,KFR,Za,Zx,Z2,Zk]) ?_;dsimp only [c26,r26,ZcY,go_sem];refine ZA [0,1,2,3] (ZAn l t b c h hb r1 r2 hbal) rfl rfl rfl ?_ ?_ ?_
 . (repeat first | dsimp only [ZcY,go_sem] | simp only [nbr])
   try simp [mtL,mtB,mtS]
 . (repeat first | dsimp only [ZcY,go_sem] | simp only [nbr])
   try simp [mtL,mtB,mtS,Zc,KFL,KF,Za,Zx,Z2,Zk]
 rintro _ rfl
 (repeat first | dsimp only [ZcY,go_sem] | simp only [nbr])
 refine ⟨_,_,_,_,q74,?_⟩;dsimp only [l74,k74,go_sem];refine ⟨rfl,?_⟩;refine UP u20 rfl ?_;dsimp only [go_sem];refine Zo rfl ?_;dsimp only [go_sem];refine ⟨_,rfl,?_⟩;(refine Zw ?_ ?_ ?_ rfl<;>dsimp only [ZcY,Zx,Z2,Zk,KFR,id,go_sem]<;>simp [ZcY,Zx,Z2,Zk,KFR,Za])
theorem Ziz (l:List Pack) (t:Tied) (b:Int) (c:Bool) (h:CarB l t) (hb:0<=b/\b<=1000000000) (r1:Wf t.left=true) (r2:Wf t.right=true) (hbal:ZiK l t b=2) :
 Cp 11 [.sl c 11 (l.map Zx),.agg (Z2 t),I b] (.tup [.sl false 1 [],I 0]):=by
 refine t11.1 (by simp [Za,Zx,Z2,Zk]) (by simp [KFR]) ?_;dsimp only [c11,r11,Z2,go_sem];refine ZA [0,1,2,3] (ZAs l t b c h hb r1 r2 hbal) rfl rfl rfl ?_ ?_ ?_
 . (repeat first | dsimp only [ZcY,go_sem] | simp only [nbr])
   try simp [mtL,mtB,mtS]
 . (repeat first | dsimp only [ZcY,go_sem] | simp only [nbr])
   try simp [mtL,mtB,mtS,Zc,KFL,KF,Za,Zx,Z2,Zk]
 rintro _ rfl
 (repeat first | dsimp only [ZcY,Z2,go_sem] | simp only [nbr])
end Go.Proofs.YtongccnhomncnaaGreatDoor.Ld
namespace Go.Proofs.YtongccnhomncnaaGreatDoor
open Go Go.Sx
def c181:SC:=(sr1 [o1 3 (Jz 0 0 3),o1 4 (Jz 1 0 3),Jw 6 Jf] (sr1 [m1 7 2,o1 8 (.mkf 248 [.t 3,.t 4]),o1 9 (J2 107 7 8),o1 10 (Jh 9),m1 6 10] .ret))
def r181:List RV:=[.tmp 6]
theorem t181:Qt1 Tryz.prog 181 c181 r181 11:=ZF Tryz.func181
def c248:SC:=(sr1 [Jw 4 Jf] (sr1 [m1 5 0,o1 6 (lf 1 1),o1 7 (Jb .lss 5 6),m1 8 7,g1 9 8 false (.mv (.t 0)),g1 10 8 false (lf 2 1),g1 11 8 false (Jb .gtr 9 10),o1 12 (.pick (.t 8) Jt (.t 11)),m1 4 12] .ret))
def r248:List RV:=[.tmp 4]
theorem t248:Qt1 Tryz.prog 248 c248 r248 13:=ZF Tryz.func248
def c184:SC:=(sr1 [o1 3 (Jz 0 0 3),o1 4 (Jz 1 0 3),Jw 6 Jf] (sr1 [m1 7 2,o1 8 (.mkf 251 [.t 3,.t 4]),o1 9 (J2 250 7 8),m1 6 9] .ret))
def r184:List RV:=[.tmp 6]
theorem t184:Qt1 Tryz.prog 184 c184 r184 10:=ZF Tryz.func184
def c251:SC:=(sr1 [o1 3 (Jz 0 0 27),Jw 4 Jf] (sr1 [o1 5 (ao 3 0),o1 6 (lf 5 1),o1 7 (ao 3 1),o1 8 (lf 7 1),o1 9 (Jb .leq 6 8),m1 10 9,g1 11 10 true (lf 1 1),g1 12 10 true (lf 2 1),g1 13 10 true (ao 3 0),g1 14 10 true (lf 13 1),g1 15 10 true (ao 3
 1),g1 16 10 true (lf 15 1),g1 17 10 true (.bsl 1 3 [.t 14,.t 16]),g1 18 10 true (J3 181 11 12 17),o1 19 (.pick (.t 10) (.t 18) Jf),m1 4 19] .ret))
def r251:List RV:=[.tmp 4]
theorem t251:Qt1 Tryz.prog 251 c251 r251 20:=ZF Tryz.func251
def c250:SC:=(sr1 [o1 3 (Jz 1 0 241),Jw 4 Jf] (sr1 [m1 5 0,o1 6 (.mkf 283 [.t 3]),o1 7 (J2 168 5 6),o1 8 (Jh 7),m1 4 8] .ret))
def r250:List RV:=[.tmp 4]
theorem t250:Qt1 Tryz.prog 250 c250 r250 9:=ZF Tryz.func250
def c283:SC:=(sr1 [o1 2 (Jz 0 0 27),Jw 3 Jf] (sr1 [o1 4 (lf 1 1),o1 5 (lt 2 2),o1 6 (.calv (.t 4) [.t 5]),o1 7 (Jh 6),m1 3 7] .ret))
def r283:List RV:=[.tmp 3]
theorem t283:Qt1 Tryz.prog 283 c283 r283 8:=ZF Tryz.func283
def c189:SC:=(sr1 [o1 3 (Jz 1 0 312),Jw 4 Jf] (sr1 [m1 5 0,o1 6 (.mkf 257 [.t 3]),o1 7 (J2 256 5 6),o1 8 (Jh 7),m1 4 8] .ret))
def r189:List RV:=[.tmp 4]
theorem t189:Qt1 Tryz.prog 189 c189 r189 9:=ZF Tryz.func189
def c257:SC:=(sr1 [o1 2 (Jz 0 0 153),Jw 3 Jf] (sr1 [o1 4 (lf 1 1),o1 5 (lt 2 3),o1 6 (.calv (.t 4) [.t 5]),o1 7 (Jh 6),m1 3 7] .ret))
def r257:List RV:=[.tmp 3]
theorem t257:Qt1 Tryz.prog 257 c257 r257 8:=ZF Tryz.func257
def c112:SC:=(sr1 [o1 3 (Jz 1 0 225),Jw 4 Jf] (sr1 [m1 5 0,o1 6 (.mkf 183 [.t 3]),o1 7 (J2 182 5 6),o1 8 (Jh 7),m1 4 8] .ret))
def r112:List RV:=[.tmp 4]
theorem t112:Qt1 Tryz.prog 112 c112 r112 9:=ZF Tryz.func112
def c183:SC:=(sr1 [o1 2 (Jz 0 0 141),Jw 3 Jf] (sr1 [o1 4 (lf 1 1),o1 5 (lt 2 6),o1 6 (.calv (.t 4) [.t 5]),o1 7 (Jh 6),m1 3 7] .ret))
def r183:List RV:=[.tmp 3]
theorem t183:Qt1 Tryz.prog 183 c183 r183 8:=ZF Tryz.func183
def c191:SC:=(sr1 [o1 2 (Jz 0 0 27),o1 3 (Jz 1 0 27),o1 4 (.mv (.c (.slice none 0 0)))] (sr1 [o1 5 (ao 2 1),o1 6 (lf 5 1),o1 7 (.build zv3 [(0,1,.c (.int .i64 1)),(2,1,.t 6)]),o1 8 (ao 2 0),o1 9 (lf 8 1),o1 10 (.un .neg (.t 9)),o1 11 (.build zv3
 [(0,1,.c (.int .i64 (-1))),(2,1,.t 10)]),o1 12 (ao 3 1),o1 13 (lf 12 1),o1 14 (.build zv3 [(1,1,.c (.int .i64 1)),(2,1,.t 13)]),o1 15 (ao 3 0),o1 16 (lf 15 1),o1 17 (.un .neg (.t 16)),o1 18 (.build zv3 [(1,1,.c (.int .i64 (-1))),(2,1,.t 17)]),o1 19
 (.bsl 3 153 [.t 7,.t 11,.t 14,.t 18]),m1 4 19] .ret))
def r191:List RV:=[.tmp 4]
theorem t191:Qt1 Tryz.prog 191 c191 r191 20:=ZF Tryz.func191
def c117:SC:=(sr1 [o1 1 (Jz 0 0 146),Jk 2 0] (.seq (sr1 [o1 6 (ao 1 0),o1 7 (lf 6 1),o1 8 (Jl 7),o1 9 (.bsl 1 3 [.t 8]),o1 10 (.call 181 [cn 4,cn 40,.t 9]),o1 11 (Jh 10)] (Ji 11 (sr1 [Jk 2 40] .ret) .skip)) (.seq (sr1 [o1 12 (.build zv0 []),o1 13
 (.build zv0 []),o1 14 (J2 191 12 13),o1 15 (Jl 14),Jk 16 0] (.block 0 (.loop (sr1 [o1 17 (Jb .lss 16 15)] (.seq (Ji 17 .skip (.exit 0)) (.seq (.block 1 (sr1 [m1 18 16,o1 19 (Jx 14 16 3),o1 20 (lt 19 3),o1 4 (.alloc zv3 153),m1 3 18,Js 4 20 3] (.seq
 (.regd (Jr 20) [Jo 21 (ao 4 0),Jp 22 (lf 21 1) [0],Jo 23 (ao 1 0),Jp 24 (lf 23 1) [2],Jm 25 3,Jp 26 (Jx 24 25 3) [3,4],Jp 27 (ao 26 0) [5],Jp 28 (lf 27 1) [6],Jp 29 (Jb .neq 22 28) [1,7],Jp 30 (.mv (.t 29)) [8],Jq 31 30 false (ao 4 1) [9],Jq 32 30
 false (lf 31 1) [9,10],Jq 33 30 false (ao 1 0) [9],Jq 34 30 false (lf 33 1) [9,12],Jq 35 30 false (.mv (.t 3)) [9],Jq 36 30 false (Jx 34 35 3) [9,13,14],Jq 37 30 false (ao 36 1) [9,15],Jq 38 30 false (lf 37 1) [9,16],Jq 39 30 false (Jb .neq 32 38)
 [9,11,17],Jp 40 (.pick (.t 30) Jt (.t 39)) [9,18]] 0 0 []) (Ji 40 (sr1 [Jk 2 40] .ret) .skip)))) (.reg [o1 41 (Jc .add 16 1),m1 16 41]))))))) (sr1 [o1 5 (.mv (.f 192))] (.seq (sr1 [o1 42 (ao 1 0),o1 43 (lf 42 1),m1 44 5,o1 45 (J2 189 43 44),o1 46 (Jh
 45)] (Ji 46 (sr1 [Jk 2 40] .ret) .skip)) (sr1 [Jk 2 0] .ret))))))
def r117:List RV:=[.tmp 2]
theorem t117:Qt1 Tryz.prog 117 c117 r117 47:=ZF Tryz.func117
def c192:SC:=(sr1 [o1 1 (Jz 0 0 153),Jw 2 Jf] (sr1 [o1 3 (ao 1 0),o1 4 (lf 3 1),o1 5 (ao 1 1),o1 6 (lf 5 1),o1 7 (.bsl 1 3 [.t 4,.t 6]),o1 8 (.call 181 [.c (.int .i64 (-1000)),cn 1000,.t 7]),m1 9 8,g1 10 9 true (ao 1 0),g1 11 9 true (lf 10 1),g1 12 9
 true (Jc .neq 11 0),g1 13 9 true (.mv (.t 12)),g1 14 13 false (ao 1 1),g1 15 13 false (lf 14 1),g1 16 13 false (Jc .neq 15 0),g1 17 9 true (.pick (.t 13) Jt (.t 16)),o1 18 (.pick (.t 9) (.t 17) Jf),m1 19 18,g1 20 19 true (ao 1 2),g1 21 19 true (lf 20
 1),g1 22 19 true (.bsl 1 3 [.t 21]),g1 23 19 true (.call 181 [.c (.int .i64 (-100000000000)),cn 100000000000,.t 22]),o1 24 (.pick (.t 19) (.t 23) Jf),m1 2 24] .ret))
def r192:List RV:=[.tmp 2]
theorem t192:Qt1 Tryz.prog 192 c192 r192 25:=ZF Tryz.func192
def c253:SC:=(sr1 [o1 2 (Jz 0 0 153),o1 3 (Jz 1 0 153),o1 4 (.alloc zv3 307)] (sr1 [o1 6 (ao 2 2),o1 7 (lf 6 1),o1 8 (ao 3 1),o1 9 (lf 8 1),o1 10 (Jb .mul 7 9),o1 11 (ao 3 2),o1 12 (lf 11 1),o1 13 (ao 2 1),o1 14 (lf 13 1),o1 15 (Jb .mul 12 14),o1 16
 (Jb .sub 10 15),o1 17 (ao 2 0),o1 18 (lf 17 1),o1 19 (ao 3 2),o1 20 (lf 19 1),o1 21 (Jb .mul 18 20),o1 22 (ao 3 0),o1 23 (lf 22 1),o1 24 (ao 2 2),o1 25 (lf 24 1),o1 26 (Jb .mul 23 25),o1 27 (Jb .sub 21 26),o1 28 (ao 2 0),o1 29 (lf 28 1),o1 30 (ao 3
 1),o1 31 (lf 30 1),o1 32 (Jb .mul 29 31),o1 33 (ao 3 0),o1 34 (lf 33 1),o1 35 (ao 2 1),o1 36 (lf 35 1),o1 37 (Jb .mul 34 36),o1 38 (Jb .sub 32 37),o1 39 (.build zv3 [(0,1,.t 16),(1,1,.t 27),(2,1,.t 38)]),o1 5 (.alloc zv3 307),Js 5 39 3] (.seq (sr1
 [o1 40 (ao 5 2),o1 41 (lf 40 1),o1 42 (Jc .lss 41 0)] (Ji 42 (sr1 [o1 43 (ao 5 0),o1 44 (lf 43 1),o1 45 (.un .neg (.t 44)),o1 46 (ao 5 1),o1 47 (lf 46 1),o1 48 (.un .neg (.t 47)),o1 49 (ao 5 2),o1 50 (lf 49 1),o1 51 (.un .neg (.t 50)),o1 52 (.build
 zv3 [(0,1,.t 45),(1,1,.t 48),(2,1,.t 51)]),Js 4 52 3] .ret) .skip)) (sr1 [o1 53 (lt 5 3),Js 4 53 3] .ret))))
def r253:List RV:=[.cell 4 3 true]
theorem t253:Qt1 Tryz.prog 253 c253 r253 54:=ZF Tryz.func253
def c254:SC:=(sr1 [o1 2 (Jz 0 0 153),Jw 3 Jf] (sr1 [o1 4 (ao 2 0),o1 5 (lf 4 1),o1 6 (ao 1 0),o1 7 (lf 6 1),o1 8 (Jb .mul 5 7),o1 9 (ao 2 1),o1 10 (lf 9 1),o1 11 (ao 1 1),o1 12 (lf 11 1),o1 13 (Jb .mul 10 12),o1 14 (Jb .add 8 13),o1 15 (ao 2 2),o1 16
 (lf 15 1),o1 17 (ao 1 2),o1 18 (lf 17 1),o1 19 (Jb .mul 16 18),o1 20 (Jb .leq 14 19),m1 3 20] .ret))
def r254:List RV:=[.tmp 3]
theorem t254:Qt1 Tryz.prog 254 c254 r254 21:=ZF Tryz.func254
def c255:SC:=(sr1 [o1 2 (.alloc zv0 27)] (sr1 [m1 3 0,o1 4 (J1 104 3),m1 5 0,o1 6 (J1 165 5),o1 7 (.build zv0 [(0,1,.t 4),(1,1,.t 6)]),Js 2 7 2] .ret))
def r255:List RV:=[.cell 2 2 true]
theorem t255:Qt1 Tryz.prog 255 c255 r255 8:=ZF Tryz.func255
def c187:SC:=(sr1 [o1 2 (Jz 0 0 27),o1 3 (Jz 1 0 27),o1 4 (.alloc zv0 27)] (sr1 [o1 5 (ao 2 0),o1 6 (lf 5 1),o1 7 (ao 3 0),o1 8 (lf 7 1),o1 9 (Jb .mul 6 8),o1 10 (ao 2 0),o1 11 (lf 10 1),o1 12 (ao 3 1),o1 13 (lf 12 1),o1 14 (Jb .mul 11 13),o1 15 (ao 2
 1),o1 16 (lf 15 1),o1 17 (ao 3 0),o1 18 (lf 17 1),o1 19 (Jb .mul 16 18),o1 20 (ao 2 1),o1 21 (lf 20 1),o1 22 (ao 3 1),o1 23 (lf 22 1),o1 24 (Jb .mul 21 23),o1 25 (.bsl 1 3 [.t 9,.t 14,.t 19,.t 24]),o1 26 (J1 255 25),Js 4 26 2] .ret))
def r187:List RV:=[.cell 4 2 true]
theorem t187:Qt1 Tryz.prog 187 c187 r187 27:=ZF Tryz.func187
def c190:SC:=(sr1 [o1 1 (Jz 0 0 153),Jw 2 Jf] (sr1 [o1 3 (ao 1 2),o1 4 (lf 3 1),o1 5 (.bsl 1 3 [.t 4]),o1 6 (.call 181 [.c (.int .i64 (-100000000000)),cn 100000000000,.t 5]),m1 2 6] .ret))
def r190:List RV:=[.tmp 2]
theorem t190:Qt1 Tryz.prog 190 c190 r190 7:=ZF Tryz.func190
def c113:SC:=(sr1 [o1 1 (Jz 0 0 141),Jw 2 Jf] (sr1 [o1 3 (ao 1 0),o1 4 (lt 3 2),o1 5 (.bsl 2 27 [.t 4]),o1 6 (.call 184 [cn 0,cn 60,.t 5]),m1 7 6,g1 8 7 true (ao 1 2),g1 9 7 true (lt 8 2),g1 10 7 true (ao 1 4),g1 11 7 true (lt 10 2),g1 12 7 true (.bsl
 2 27 [.t 9,.t 11]),g1 13 7 true (.call 184 [.c (.int .i64 (-100000)),cn 100000,.t 12]),o1 14 (.pick (.t 7) (.t 13) Jf),m1 2 14] .ret))
def r113:List RV:=[.tmp 2]
theorem t113:Qt1 Tryz.prog 113 c113 r113 15:=ZF Tryz.func113
def c185:SC:=(sr1 [o1 6 (.mv (.c (.slice none 0 0)))] (sr1 [m1 7 0,m1 8 2,o1 9 (Jb .sub 7 8),m1 10 0,m1 11 2,o1 12 (Jb .add 10 11),o1 13 (.build zv0 [(0,1,.t 9),(1,1,.t 12)]),m1 14 1,m1 15 2,o1 16 (Jb .sub 14 15),m1 17 1,m1 18 2,o1 19 (Jb .add 17
 18),o1 20 (.build zv0 [(0,1,.t 16),(1,1,.t 19)]),o1 21 (J2 191 13 20),m1 6 21] .ret))
def r185:List RV:=[.tmp 6]
theorem t185:Qt1 Tryz.prog 185 c185 r185 22:=ZF Tryz.func185
def c182:SC:=(sr1 [Jw 4 Jf] (sr1 [m1 5 0,m1 6 1,o1 7 (J2 249 5 6),o1 8 (Jc .geq 7 0),m1 4 8] .ret))
def r182:List RV:=[.tmp 4]
theorem t182:Qt1 Tryz.prog 182 c182 r182 9:=ZF Tryz.func182
def c249:SC:=(sr1 [Jk 4 0] (.seq (sr1 [m1 6 0,o1 7 (Jl 6),Jk 8 0] (.block 0 (.loop (sr1 [o1 9 (Jb .lss 8 7)] (.seq (Ji 9 .skip (.exit 0)) (.seq (.block 1 (sr1 [m1 10 8,m1 5 10] (sr1 [m1 11 1,m1 12 0,m1 13 5,o1 14 (Jx 12 13 6),o1 15 (lt 14 6),o1 16
 (.calv (.t 11) [.t 15])] (Ji 16 (sr1 [m1 17 5,m1 4 17] .ret) .skip)))) (.reg [o1 18 (Jc .add 8 1),m1 8 18]))))))) (sr1 [o1 4 (.mv (cn (-1)))] .ret)))
def r249:List RV:=[.tmp 4]
theorem t249:Qt1 Tryz.prog 249 c249 r249 19:=ZF Tryz.func249
def c256:SC:=(sr1 [Jw 4 Jf] (sr1 [m1 5 0,m1 6 1,o1 7 (J2 284 5 6),o1 8 (Jc .geq 7 0),m1 4 8] .ret))
def r256:List RV:=[.tmp 4]
theorem t256:Qt1 Tryz.prog 256 c256 r256 9:=ZF Tryz.func256
def c284:SC:=(sr1 [Jk 4 0] (.seq (sr1 [m1 6 0,o1 7 (Jl 6),Jk 8 0] (.block 0 (.loop (sr1 [o1 9 (Jb .lss 8 7)] (.seq (Ji 9 .skip (.exit 0)) (.seq (.block 1 (sr1 [m1 10 8,m1 5 10] (sr1 [m1 11 1,m1 12 0,m1 13 5,o1 14 (Jx 12 13 3),o1 15 (lt 14 3),o1 16
 (.calv (.t 11) [.t 15])] (Ji 16 (sr1 [m1 17 5,m1 4 17] .ret) .skip)))) (.reg [o1 18 (Jc .add 8 1),m1 8 18]))))))) (sr1 [o1 4 (.mv (cn (-1)))] .ret)))
def r284:List RV:=[.tmp 4]
theorem t284:Qt1 Tryz.prog 284 c284 r284 19:=ZF Tryz.func284
def c63:SC:=(sr1 [o1 2 (Jz 0 0 146),o1 3 (Jz 1 0 146),Jw 4 Jf] (.seq (sr1 [o1 6 (ao 2 0),o1 7 (lf 6 1),o1 8 (Jl 7),o1 9 (ao 3 0),o1 10 (lf 9 1),o1 11 (Jl 10),o1 12 (Jb .neq 8 11)] (Ji 12 (sr1 [Jw 4 Jf] .ret) .skip)) (.seq (sr1 [Jk 5 0] (.block 0
 (.loop (.seq (sr1 [m1 13 5,o1 14 (ao 2 0),o1 15 (lf 14 1),o1 16 (Jl 15),o1 17 (Jb .lss 13 16)] (Ji 17 .skip (.exit 0))) (.seq (.block 1 (.seq (.regd (Jr 11) [Jo 20 (ao 2 0),Jp 21 (lf 20 1) [0],Jm 22 5,Jp 23 (Jx 21 22 3) [1,2],Jp 24 (lt 23 3) [3],Jo
 25 (ao 3 0),Jp 26 (lf 25 1) [5],Jm 27 5,Jp 28 (Jx 26 27 3) [6,7],Jp 29 (lt 28 3) [8],Jp 30 (.eqs true true [1,1,1] (.t 24) (.t 29)) [4,9]] 0 0 []) (Ji 30 (sr1 [Jw 4 Jf] .ret) .skip))) (.reg [m1 18 5,o1 19 (Jc .add 18 1),m1 5 19])))))) (sr1 [Jw 4 Jt]
 .ret))))
def r63:List RV:=[.tmp 4]
theorem t63:Qt1 Tryz.prog 63 c63 r63 31:=ZF Tryz.func63
def c60:SC:=(sr1 [o1 4 (.alloc [.slice none 0 0] 146)] (sr1 [m1 5 0,o1 6 (.build zv3 [(0,1,.c (.int .i64 1)),(2,1,.t 5)]),m1 7 0,o1 8 (.un .neg (.t 7)),o1 9 (.build zv3 [(0,1,.c (.int .i64 (-1))),(2,1,.t 8)]),m1 10 1,o1 11 (.build zv3 [(1,1,.c (.int
 .i64 1)),(2,1,.t 10)]),m1 12 1,o1 13 (.un .neg (.t 12)),o1 14 (.build zv3 [(1,1,.c (.int .i64 (-1))),(2,1,.t 13)]),o1 15 (.bsl 3 153 [.t 6,.t 9,.t 11,.t 14]),o1 16 (.build [.slice none 0 0] [(0,1,.t 15)]),Js 4 16 1] .ret))
def r60:List RV:=[.cell 4 1 true]
theorem t60:Qt1 Tryz.prog 60 c60 r60 17:=ZF Tryz.func60
def c8:SC:=(sr1 [o1 4 (.alloc zv0 27)] (sr1 [m1 5 0,m1 6 1,o1 7 (.build zv0 [(0,1,.t 5),(1,1,.t 6)]),Js 4 7 2] .ret))
def r8:List RV:=[.cell 4 2 true]
theorem t8:Qt1 Tryz.prog 8 c8 r8 8:=ZF Tryz.func8
def c57:SC:=(sr1 [o1 0 (.alloc zv6 29),o1 1 (.alloc zv5 31)] (sr1 [o1 2 (.call 8 [cn 10,cn 10]),o1 3 (.call 8 [cn 50,cn 50]),o1 4 (.build zv6 [(0,1,.c (.int .i64 100)),(1,1,.c (.int .i64 10)),(2,2,.t 2),(15,2,.t 3)]),o1 5 (.call 8 [cn 100,cn 100]),o1
 6 (.call 8 [cn 10,cn 10]),o1 7 (.build zv5 [(0,2,.t 5),(2,2,.t 6)]),Js 0 4 17,Js 1 7 7] .ret))
def r57:List RV:=[.cell 0 17 true,.cell 1 7 true]
theorem t57:Qt1 Tryz.prog 57 c57 r57 8:=ZF Tryz.func57
def c58:SC:=(sr1 [o1 0 (.alloc ZEh 25)] (sr1 [o1 1 (.build ZBR []),o1 2 (.call 8 [cn 5,cn 5]),o1 3 (.build ZBR [(0,1,.c (.int .i64 30)),(5,1,.c (.int .i64 100)),(3,2,.t 2)]),o1 4 (.bsl 9 222 [.t 1,.t 3]),o1 5 (.call 8 [cn 20,cn 30]),o1 6 (.call 8 [cn
 99,cn 99]),o1 7 (.build zv8 [(2,2,.t 6)]),o1 8 (.bsl 4 219 [.t 7]),o1 9 (.build ZAw [(0,1,.c (.int .i64 0)),(1,1,.c (.int .i64 1)),(2,2,.t 5),(4,1,.t 8)]),o1 10 (.bsl 5 187 [.t 9]),o1 11 (.build ZEh [(0,1,.t 4),(1,1,.t 10)]),Js 0 11 2] .ret))
def r58:List RV:=[.cell 0 2 true]
theorem t58:Qt1 Tryz.prog 58 c58 r58 12:=ZF Tryz.func58
def c6:SC:=(sr1 [o1 2 (Jz 0 0 34),o1 3 (Jz 1 0 37),Jw 4 Jf] (sr1 [o1 5 (lt 2 37),o1 6 (J1 21 5),o1 7 (Jh 6),m1 8 7,g1 9 8 true (ao 3 0),g1 10 8 true (lf 9 1),g1 11 8 true (Jl 10),g1 12 8 true (Jc .leq 11 40),o1 13 (.pick (.t 8) (.t 12) Jf),m1 14 13,g1
 15 14 true (ao 2 35),g1 16 14 true (lf 15 1),g1 17 14 true (Jc .leq 16 2000),o1 18 (.pick (.t 14) (.t 17) Jf),m1 19 18,g1 20 19 true (lt 2 37),g1 21 19 true (J1 22 20),g1 22 19 true (Jc .eql 21 0),o1 23 (.pick (.t 19) (.t 22) Jf),m1 24 23,g1 25 24
 true (lt 2 37),g1 26 24 true (lt 3 3),g1 27 24 true (J2 23 25 26),o1 28 (.pick (.t 24) (.t 27) Jf),m1 4 28] .ret))
def r6:List RV:=[.tmp 4]
theorem b6:Z4 Tryz.prog 6=true:=by kernel_rfl
theorem t6:Qt1 Tryz.prog 6 c6 r6 29:=ZF Tryz.func6 rfl b6 (by kernel_rfl) (by kernel_rfl) (by kernel_rfl)
def c5:SC:=(sr1 [Jw 0 Jf] (sr1 [o1 5 (.call 18 []),o1 6 (J1 14 5),m1 4 6,o1 7 (Je 4 0),o1 8 (Je 4 1),o1 9 (Je 4 2),o1 1 (.alloc ZrV 37),Js 1 7 3,m1 2 8,m1 3 9] (sr1 [o1 10 (.call 19 []),m1 11 10,g1 12 11 true (.mv (.t 3)),g1 13 11 true (Jc .eql 12
 0),o1 14 (.pick (.t 11) (.t 13) Jf),m1 15 14,g1 16 15 true (.mv (.t 2)),g1 17 15 true (Jc .eql 16 14),o1 18 (.pick (.t 15) (.t 17) Jf),m1 19 18,g1 20 19 true (lt 1 3),g1 21 19 true (.bsl 1 3 [cn 0]),g1 22 19 true (.build ZrV [(0,1,.t 21),(1,1,.c
 (.int .i64 2)),(2,1,.c (.int .i64 1))]),g1 23 19 true (J2 20 20 22),o1 24 (.pick (.t 19) (.t 23) Jf),m1 0 24] .ret)))
def r5:List RV:=[.tmp 0]
theorem n5:Tryz.f5.ntmps=25:=by kernel_rfl
theorem b5:Z4 Tryz.prog 5=true:=by kernel_rfl
theorem t5:Qt1 Tryz.prog 5 c5 r5 25:=ZF Tryz.func5 rfl b5 (by kernel_rfl) (by kernel_rfl) n5
def c19:SC:=(sr1 [Jw 0 Jf] (sr1 [o1 7 (.call 8 [cn 1,cn 1]),o1 8 (.call 8 [cn 10,cn 20]),o1 9 (.build zv9 [(0,2,.t 7),(2,2,.t 8)]),o1 1 (.alloc zv9 141),Js 1 9 6] (.seq (.regd (Jr 13) [Jo 11 (.call 60 [cn 0,cn 0]),Jo 12 (lt 1 6),Jo 13 (lt 1 6),Jo 14
 (lt 1 6),Jp 15 (.bsl 6 141 [.t 12,.t 13,.t 14]) [1,2,3],Jp 16 (.call 59 [.t 11,.t 15,cn 30,cn 0,cn 10]) [0,4],Jp 10 (.mv (.t 16)) [5],Jp 17 (Je 10 0) [6],Jp 18 (Je 10 1) [6],Jp 19 (Je 10 2) [6],Jp 2 (.mv (.t 17)) (Jr 8),Jp 3 (.mv (.t 18))
 [0,1,2,3,4,5,6,7,8,10],Jp 4 (.mv (.t 19)) (Jr 12)] 0 0 []) (.seq (.regd (Jr 9) [Jo 21 (.call 60 [cn 0,cn 0]),Jo 22 (lt 1 6),Jp 23 (J2 61 21 22) [0,1],Jp 20 (.mv (.t 23)) [2],Jp 24 (Je 20 0) [3],Jp 25 (Je 20 1) [3]] 1 2 [o1 5 (.alloc [.slice none 0 0]
 146),Ju 5 24 1 [0,1,2,3,4,6],⟨some 6,.mv (.t 25),none,(Jr 8)⟩]) (sr1 [o1 26 (.call 62 []),m1 27 26,g1 28 27 true (.mv (.t 4)),g1 29 27 true (Jc .eql 28 0),o1 30 (.pick (.t 27) (.t 29) Jf),m1 31 30,g1 32 31 true (.mv (.t 2)),g1 33 31 true (Jc .eql 32
 1),o1 34 (.pick (.t 31) (.t 33) Jf),m1 35 34,g1 36 35 true (.mv (.t 3)),g1 37 35 true (Jc .eql 36 2),o1 38 (.pick (.t 35) (.t 37) Jf),m1 39 38,g1 40 39 true (.mv (.t 6)),g1 41 39 true (Jc .eql 40 0),o1 42 (.pick (.t 39) (.t 41) Jf),m1 43 42,g1 44 43
 true (lt 5 1),g1 45 43 true (.build zv3 [(0,1,.c (.int .i64 1)),(2,1,.c (.int .i64 20))]),g1 46 43 true (.build zv3 [(0,1,.c (.int .i64 (-1))),(2,1,.c (.int .i64 (-10)))]),g1 47 43 true (.build zv3 [(1,1,.c (.int .i64 1))]),g1 48 43 true (.build zv3
 [(1,1,.c (.int .i64 (-1)))]),g1 49 43 true (.bsl 3 153 [.t 45,.t 46,.t 47,.t 48]),g1 50 43 true (.build [.slice none 0 0] [(0,1,.t 49)]),g1 51 43 true (J2 63 44 50),o1 52 (.pick (.t 43) (.t 51) Jf),m1 0 52] .ret)))))
def r19:List RV:=[.tmp 0]
theorem t19:Qt1 Tryz.prog 19 c19 r19 53:=ZF Tryz.func19
end Go.Proofs.YtongccnhomncnaaGreatDoor
namespace Go.Azalai
open Go Go.Sx
structure Half where
 a:Int
 b:Int
 c:Int
deriving DecidableEq
abbrev WS:=Int × Int × Int
def Wv (p q:Half):WS :=
 if w64 (w64 (p.a * q.b) - w64 (q.a * p.b)) < 0 then (w64 (0 - w64 (w64 (p.c * q.b) - w64 (q.c * p.b))),w64 (0 - w64 (w64 (p.a * q.c) - w64 (q.a * p.c))),w64 (0 - w64 (w64 (p.a * q.b) - w64 (q.a * p.b))))
 else (w64 (w64 (p.c * q.b) - w64 (q.c * p.b)),w64 (w64 (p.a * q.c) - w64 (q.a * p.c)),w64 (w64 (p.a * q.b) - w64 (q.a * p.b)))
def inH (c:WS) (h:Half):Bool:=decide (w64 (w64 (h.a * c.1)+w64 (h.b * c.2.1))<=w64 (h.c * c.2.2))
def okC (l:List Half) (c:WS):Bool:=c.2.2 != 0 && l.all (inH c)
def ZkY (g:WS->Bool) (l:List Half) (p:Half) (q:List Half):Bool:=q.any λx=>okC l (Wv p x) && g (Wv p x)
def ZnC (g:WS->Bool) (l:List Half):Nat->Bool
 | 0=>false
 | n+1=>ZnC g l n || (match l[n]? with | some p=>ZkY g l p (l.take n) | none=>false)
def ZiS (l:List Half):Bool:=ZnC (λ_=>true) l l.length
def VF (x y far:Int):List Half:=[⟨1,0,w64 (x+far)⟩,⟨-1,0,w64 (0 - w64 (x - far))⟩,⟨0,1,w64 (y+far)⟩,⟨0,-1,w64 (0 - w64 (y - far))⟩]
def Zgn (l:List Half) (x y far:Int):Int :=
 if ZiS (l ++ VF x y far)=false then 0 else if ZnC (λc=>(VF x y far).any λh=>!inH c h) l l.length=true then 1 else 2
structure Trek where
 days:Span
 east:Span
 north:Span
def Zdk (t:Trek):Bool:=ZW 0 60 t.days && (ZW (-100000) 100000 t.east && ZW (-100000) 100000 t.north)
def boxF (e n:Span):List Half:=[⟨1,0,e.hi⟩,⟨-1,0,w64 (0 - e.lo)⟩,⟨0,1,n.hi⟩,⟨0,-1,w64 (0 - n.lo)⟩]
def ZmI (h:Half):Bool:=(inR (-1000) 1000 h.a && inR (-1000) 1000 h.b) && ((h.a != 0 || h.b != 0) && inR (-100000000000) 100000000000 h.c)
end Go.Azalai
namespace Go.Proofs.YtongccnhomncnaaGreatDoor
open Go Go.Sx Go.Azalai
def Zq (h:Half):Ls:=[I h.a,I h.b,I h.c]
def ZcI (c:WS):Ls:=[I c.1,I c.2.1,I c.2.2]
def Xm (t:Trek):Ls:=[I t.days.lo,I t.days.hi,I t.east.lo,I t.east.hi,I t.north.lo,I t.north.hi]
theorem ZaV (a b:Int):Cp 8 [I a,I b] (.agg [I a,I b]):=by
 refine t8.1 (by simp) (by simp) ?_;dsimp only [c8,r8,go_sem]
theorem ZjM (lo hi x:Int):Cp 248 [I x,.ps [I lo] 0,.ps [I hi] 0] (B (!inR lo hi x)):=by
 refine t248.1 (by simp) (by simp) ?_;dsimp only [c248,r248,go_sem];repeat (refine gb ?_;dsimp only [go_sem])
 (simp only [inR,Option.some.injEq,SV.v.injEq,Value.bool.injEq]<;>grind)
theorem Zep (lo hi:Int) (l:List Int) (hl:l.length < 4611686018427387904) (c:Bool):Cp 181 [I lo,I hi,.sl c 1 (l.map Zk)] (B (l.all (inR lo hi))):=by
 refine t181.1 (by simp [Za,Zk]) (by simp) ?_;dsimp only [c181,r181,go_sem];refine WM (by simp [FLT]) (res:=B (l.any λx=>!inR lo hi x)) ?_ ?_
 . dsimp only [go_sem];exact ZqJ 248 [.ps [I lo] 0,.ps [I hi] 0] (by simp) (λx=>!inR lo hi x) l (λx _=>ZjM lo hi x) hl
 . dsimp only [go_sem];simp [List.all_eq_not_any_not]
theorem Zhl (lo hi a:Int) (c:Bool):Cp 181 [I lo,I hi,.sl c 1 [[I a]]] (B (inR lo hi a)):=by
 have:=Zep lo hi [a] (by simp) c;simpa [Zk] using this
theorem Zld (lo hi a b:Int) (c:Bool):Cp 181 [I lo,I hi,.sl c 1 [[I a],[I b]]] (B (inR lo hi a && inR lo hi b)):=by
 have:=Zep lo hi [a,b] (by simp) c;simpa [Zk] using this
theorem Zp1 (lo hi:Int) (s:Span):Cp 251 [.agg (Ze s),.ps [I lo] 0,.ps [I hi] 0] (B (ZW lo hi s)):=by
 refine t251.1 (by simp [Ze]) (by simp) ?_;dsimp only [c251,r251,Ze,go_sem];repeat (first | (refine gb ?_;dsimp only [go_sem]) | (refine call (Zld _ _ _ _ _) ?_;dsimp only [go_sem]))
 (simp only [ZW,inR,Option.some.injEq,SV.v.injEq,Value.bool.injEq]<;>grind)
theorem ZfZ (lo hi:Int) (s:Span):Cp 283 [.agg (Ze s),.ps [.cl 251 [.ps [I lo] 0,.ps [I hi] 0]] 0] (B (!ZW lo hi s)):=by
 refine t283.1 (by simp [Ze]) (by simp) ?_;dsimp only [c283,r283,Ze,go_sem];refine call (Zp1 lo hi s) ?_;dsimp only [go_sem]
theorem ZiO (lo hi:Int) (l:List Span) (hl:l.length < 4611686018427387904) (c:Bool):Cp 250 [.sl c 2 (l.map Ze),.cl 251 [.ps [I lo] 0,.ps [I hi] 0]] (B (l.all (ZW lo hi))):=by
 refine t250.1 (by simp [Za,Ze]) (by simp) ?_;dsimp only [c250,r250,go_sem];refine WM (by simp [FLT]) (res:=B (l.any λx=>!ZW lo hi x)) ?_ ?_
 . dsimp only [go_sem];exact ZmS 283 [.ps [.cl 251 [.ps [I lo] 0,.ps [I hi] 0]] 0] (by simp) (λx=>!ZW lo hi x) l (λx _=>ZfZ lo hi x) hl
 . dsimp only [go_sem];simp [List.all_eq_not_any_not]
theorem ZaT (lo hi:Int) (l:List Span) (hl:l.length < 4611686018427387904) (c:Bool):Cp 184 [I lo,I hi,.sl c 2 (l.map Ze)] (B (l.all (ZW lo hi))):=by
 refine t184.1 (by simp [Za,Ze]) (by simp) ?_;dsimp only [c184,r184,go_sem];refine WM (by simp [FLT]) (res:=B (l.all (ZW lo hi))) ?_ ?_
 . dsimp only [go_sem];exact ZiO lo hi l hl c
 . dsimp only [go_sem]
theorem ZkV (lo hi:Int) (s:Span) (c:Bool):Cp 184 [I lo,I hi,.sl c 2 [[I s.lo,I s.hi]]] (B (ZW lo hi s)):=by
 have:=ZaT lo hi [s] (by simp) c;simpa [Ze] using this
theorem ZmZ (lo hi:Int) (s t:Span) (c:Bool):Cp 184 [I lo,I hi,.sl c 2 [[I s.lo,I s.hi],[I t.lo,I t.hi]]] (B (ZW lo hi s && ZW lo hi t)):=by
 have:=ZaT lo hi [s,t] (by simp) c;simpa [Ze] using this
theorem Zml (t:Trek):Cp 113 [.agg (Xm t)] (B (Zdk t)):=by
 refine t113.1 (by simp [Xm]) (by simp) ?_;dsimp only [c113,r113,Xm,go_sem];repeat (first | (refine gb ?_;dsimp only [go_sem]) | (refine call (ZkV _ _ _ _) ?_;dsimp only [go_sem]) | (refine call (ZmZ _ _ _ _ _) ?_;dsimp only [go_sem]))
 rfl
theorem ZCj (h:Nat) (caps:Ls) (hk:KFL caps) (g:Trek->Bool) (l:List Trek) (hg:∀ x ∈ l,Cp h (.agg (Xm x) :: caps) (B (g x))) (hl:l.length < 4611686018427387904) {c:Bool} :
 Cp 249 [.sl c 6 (l.map Xm),.cl h caps] (I (Xd g l 0)):=by
 refine t249.1 ⟨by simp [KF,Za,KFL,Xm],hk,trivial⟩ (by simp [KF]) ?_;dsimp only [c249,r249,go_sem];refine Ym (λk:Nat=>[(8,I k)]) (λ_=>[]) (λk=>k<=l.length/\Xd g (l.drop k) k=Xd g l 0) (λk=>l.length - k) 0 ⟨Nat.zero_le _,rfl⟩ ?_ ?_
 . (refine Zj ?_ ?_ ?_ rfl rfl<;>dsimp only [Xm,hk,id,go_sem]<;>simp [Xm,hk,Za])
 . intro k ⟨hk',hi⟩;dsimp only [go_sem];refine br ?_ ?_
   . intro hlt;have hlt:k < l.length:=by simpa using hlt
     dsimp only [go_sem];refine Zn k hlt rfl ?_;dsimp only [Xm,go_sem];refine call (hg l[k] (List.getElem_mem _)) ?_;dsimp only [go_sem];refine br ?_ ?_
     . intro hgx;dsimp only [go_sem];rw [<- hi,List.drop_eq_getElem_cons hlt];simp [Xd,hgx]
     . intro hgx;dsimp only [go_sem];refine ⟨k+1,⟨by omega,?_⟩,by omega,?_⟩
       . rw [<- hi,List.drop_eq_getElem_cons hlt];simp [Xd,hgx]
       . rw [Zf (by omega) (by omega)];(refine Zj ?_ ?_ ?_ rfl rfl<;>dsimp only [Xm,hk,id,go_sem]<;>simp [Xm,hk,Za])
   . intro hlt;have hlt:k=l.length:=by simp at hlt;omega
     dsimp only [go_sem];rw [<- hi,hlt];simp [Xd]
theorem ZCy (h:Nat) (caps:Ls) (hk:KFL caps) (g:Trek->Bool) (l:List Trek) (hg:∀ x ∈ l,Cp h (.agg (Xm x) :: caps) (B (g x))) (hl:l.length < 4611686018427387904) {c:Bool} :
 Cp 182 [.sl c 6 (l.map Xm),.cl h caps] (B (l.any g)):=by
 refine t182.1 ⟨by simp [KF,Za,KFL,Xm],hk,trivial⟩ (by simp [KF]) ?_;dsimp only [c182,r182,go_sem];refine call (ZCj h caps hk g l hg hl) ?_;dsimp only [go_sem];rw [XG]
theorem ZCF (h:Nat) (caps:Ls) (hk:KFL caps) (g:Half->Bool) (l:List Half) (hg:∀ x ∈ l,Cp h (.agg (Zq x) :: caps) (B (g x))) (hl:l.length < 4611686018427387904) {c:Bool} :
 Cp 284 [.sl c 3 (l.map Zq),.cl h caps] (I (Xd g l 0)):=by
 refine t284.1 ⟨by simp [KF,Za,KFL,Zq],hk,trivial⟩ (by simp [KF]) ?_;dsimp only [c284,r284,go_sem];refine Ym (λk:Nat=>[(8,I k)]) (λ_=>[]) (λk=>k<=l.length/\Xd g (l.drop k) k=Xd g l 0) (λk=>l.length - k) 0 ⟨Nat.zero_le _,rfl⟩ ?_ ?_
 . (refine Zj ?_ ?_ ?_ rfl rfl<;>dsimp only [Zq,hk,id,go_sem]<;>simp [Zq,hk,Za])
 . intro k ⟨hk',hi⟩;dsimp only [go_sem];refine br ?_ ?_
   . intro hlt;have hlt:k < l.length:=by simpa using hlt
     dsimp only [go_sem];refine Zn k hlt rfl ?_;dsimp only [Zq,go_sem];refine call (hg l[k] (List.getElem_mem _)) ?_;dsimp only [go_sem];refine br ?_ ?_
     . intro hgx;dsimp only [go_sem];rw [<- hi,List.drop_eq_getElem_cons hlt];simp [Xd,hgx]
     . intro hgx;dsimp only [go_sem];refine ⟨k+1,⟨by omega,?_⟩,by omega,?_⟩
       . rw [<- hi,List.drop_eq_getElem_cons hlt];simp [Xd,hgx]
       . rw [Zf (by omega) (by omega)];(refine Zj ?_ ?_ ?_ rfl rfl<;>dsimp only [Zq,hk,id,go_sem]<;>simp [Zq,hk,Za])
   . intro hlt;have hlt:k=l.length:=by simp at hlt;omega
     dsimp only [go_sem];rw [<- hi,hlt];simp [Xd]
theorem ZBp (h:Nat) (caps:Ls) (hk:KFL caps) (g:Half->Bool) (l:List Half) (hg:∀ x ∈ l,Cp h (.agg (Zq x) :: caps) (B (g x))) (hl:l.length < 4611686018427387904) {c:Bool} :
 Cp 256 [.sl c 3 (l.map Zq),.cl h caps] (B (l.any g)):=by
 refine t256.1 ⟨by simp [KF,Za,KFL,Zq],hk,trivial⟩ (by simp [KF]) ?_;dsimp only [c256,r256,go_sem];refine call (ZCF h caps hk g l hg hl) ?_;dsimp only [go_sem];rw [XG]
theorem Zi7 (t:Trek):Cp 183 [.agg (Xm t),.ps [.cl 113 []] 0] (B (!Zdk t)):=by
 refine t183.1 (by simp [Xm]) (by simp) ?_;dsimp only [c183,r183,Xm,go_sem];refine call (Zml t) ?_;dsimp only [go_sem]
theorem ZjN (l:List Trek) (hl:l.length < 4611686018427387904) (c:Bool):Cp 112 [.sl c 6 (l.map Xm),.cl 113 []] (B (l.all Zdk)):=by
 refine t112.1 (by simp [Za,Xm]) (by simp) ?_;dsimp only [c112,r112,go_sem];refine WM (by simp [FLT]) (res:=B (l.any λx=>!Zdk x)) ?_ ?_
 . dsimp only [go_sem];exact ZCy 183 [.ps [.cl 113 []] 0] (by simp) (λx=>!Zdk x) l (λx _=>Zi7 x) hl
 . dsimp only [go_sem];simp [List.all_eq_not_any_not]
theorem ZiY (f:Nat) (caps:Ls) (hk:KFL caps) (g:Half->Bool) (x:Half) (hc:Cp f (.agg (Zq x) :: caps) (B (g x))):Cp 257 [.agg (Zq x),.ps [.cl f caps] 0] (B (!g x)):=by
 refine t257.1 (by simp [KFL,KF,Zq,hk]) (by simp) ?_;dsimp only [c257,r257,Zq,go_sem];refine call hc ?_;dsimp only [go_sem]
theorem ZbI (f:Nat) (caps:Ls) (hk:KFL caps) (hv:∀ hp,ZcD (vw1 hp) caps=caps) (g:Half->Bool) (l:List Half) (hc:∀ x ∈ l,Cp f (.agg (Zq x) :: caps) (B (g x))) (hl:l.length < 4611686018427387904) (c:Bool):Cp 189 [.sl c 3 (l.map Zq),.cl f caps] (B (l.all g)):=by
 refine t189.1 (by simp [KFL,KF,Za,Zq,hk]) (by simp) ?_;dsimp only [c189,r189,go_sem];refine WM (by simp [FLT]) (res:=B (l.any λx=>!g x)) ?_ ?_
 . dsimp only [go_sem];rw [hv];exact ZBp 257 [.ps [.cl f caps] 0] (by simp [KFL,KF,hk]) (λx=>!g x) l (λx hx=>ZiY f caps hk g x (hc x hx)) hl
 . dsimp only [go_sem];simp [List.all_eq_not_any_not]
theorem ZkT (p q:Half):Cp 253 [.agg (Zq p),.agg (Zq q)] (.agg (ZcI (Wv p q))):=by
 refine t253.1 (by simp [Zq]) (by simp [ZcI]) ?_;dsimp only [c253,r253,Zq,go_sem];by_cases h:w64 (w64 (p.a * q.b) - w64 (q.a * p.b)) < 0
 . refine Zs (by simpa using h) ?_;dsimp only [go_sem];rw [Wv,if_pos h];rfl
 . refine Zo (by simpa using h) ?_;dsimp only [go_sem];rw [Wv,if_neg h];rfl
theorem ZCc (c:WS) (h:Half):Cp 254 [.agg (Zq h),.ps (ZcI c) 0] (B (inH c h)):=by
 refine t254.1 (by simp [Zq,ZcI]) (by simp) ?_;dsimp only [c254,r254,Zq,ZcI,go_sem];rfl
theorem Zt4 (h:Half):Cp 192 [.agg (Zq h)] (B (ZmI h)):=by
 refine t192.1 (by simp [Zq]) (by simp) ?_;dsimp only [c192,r192,Zq,go_sem];repeat (first | (refine gb ?_;dsimp only [go_sem]) | (refine call (Zld _ _ _ _ _) ?_;dsimp only [go_sem]) | (refine call (Zhl _ _ _ _) ?_;dsimp only [go_sem]))
 (simp only [ZmI,inR,Option.some.injEq,SV.v.injEq,Value.bool.injEq]<;>grind)
theorem Zx4 (h:Half):Cp 190 [.agg (Zq h)] (B (inR (-100000000000) 100000000000 h.c)):=by
 refine t190.1 (by simp [Zq]) (by simp) ?_;dsimp only [c190,r190,Zq,go_sem];refine call (Zhl _ _ _ _) ?_;dsimp only [go_sem]
theorem Zui (e n:Span):Cp 191 [.agg (Ze e),.agg (Ze n)] (.sl true 3 ((boxF e n).map Zq)):=by
 refine t191.1 (by simp [Ze]) (by simp [boxF,Zq,KFR]) ?_;dsimp only [c191,r191,Ze,go_sem];rfl
theorem Zk4 (x y far:Int):Cp 185 [I x,I y,I far] (.sl true 3 ((VF x y far).map Zq)):=by
 refine t185.1 (by simp) (by simp [VF,Zq,KFR]) ?_;dsimp only [c185,r185,go_sem];refine call (Zui ⟨_,_⟩ ⟨_,_⟩) ?_;dsimp only [go_sem];rfl
def A0:List Half:=[⟨1,0,0⟩,⟨-1,0,0⟩,⟨0,1,0⟩,⟨0,-1,0⟩]
theorem Zmd:Cp 60 [I 0,I 0] (.agg [.sl true 3 (A0.map Zq)]):=by
 refine t60.1 (by simp) (by simp [A0,Zq,KFR]) ?_;dsimp only [c60,r60,go_sem];rfl
theorem Ze1:Cp 117 [.agg [.sl true 3 (A0.map Zq)]] (I 0):=by
 refine t117.1 (by simp [A0,Zq,KFR]) (by simp) ?_;dsimp only [c117,r117,go_sem];refine call (Zhl _ _ _ _) ?_;dsimp only [go_sem];refine Zo rfl ?_;dsimp only [go_sem];refine call (Zui ⟨0,0⟩ ⟨0,0⟩) ?_;dsimp only [boxF,go_sem];refine ZX 5 ?_;dsimp only [Zb,go_sem];repeat (first | (refine Zo rfl ?_;dsimp only [go_sem]) | (refine Zs rfl ?_;dsimp only [go_sem]) | (refine ZI rfl ?_;dsimp only [go_sem]) | (refine ixs 0 _ rfl rfl ?_;dsimp only [Zq,A0,go_sem]) | (refine ixs 1 _ rfl rfl ?_;dsimp only [Zq,A0,go_sem]) | (refine ixs 2 _ rfl rfl ?_;dsimp only [Zq,A0,go_sem]) | (refine ixs 3 _ rfl rfl ?_;dsimp only [Zq,A0,go_sem]))
 refine call (ZbI 192 [] trivial (λ_=>rfl) ZmI A0 (λx _=>Zt4 x) (by decide) true) ?_;dsimp only [go_sem];refine Zo rfl ?_;dsimp only [go_sem]
def ZEl:SC:=(sr1 [o1 8 (lf 1 1),o1 9 (Jl 8),Jk 10 0] (.block 0 (.loop (sr1 [o1 11 (Jb .lss 10 9)] (.seq (Ji 11 .skip (.exit 0)) (.seq (.block 1 (sr1 [m1 12 10,o1 13 (Jx 8 10 3),o1 14 (lt 13 3),o1 4 (.alloc zv3 153),m1 3 12,Js 4 14 3] (sr1 [o1 15 (lf 1
 1),m1 16 3,o1 17 (.sub 3 (.t 15) none (some (.t 16))),o1 18 (Jl 17),Jk 19 0] (.block 2 (.loop (sr1 [o1 20 (Jb .lss 19 18)] (.seq (Ji 20 .skip (.exit 2)) (.seq (.block 3 (sr1 [o1 21 (Jx 17 19 3),o1 22 (lt 21 3),o1 6 (.alloc zv3 153),Js 6 22 3] (sr1
 [o1 23 (lt 4 3),o1 24 (lt 6 3),o1 25 (J2 253 23 24),o1 7 (.alloc zv3 307),Js 7 25 3] (sr1 [o1 26 (ao 7 2),o1 27 (lf 26 1),o1 28 (Jc .neq 27 0),m1 29 28,g1 30 29 true (lf 1 1),g1 31 29 true (.mkf 254 [.t 7]),g1 32 29 true (J2 189 30 31),o1 33 (.pick
 (.t 29) (.t 32) Jf),m1 34 33,g1 35 34 true (.mv (.t 0)),g1 36 34 true (lt 7 3),g1 37 34 true (.calvm (.t 35) [.t 36]),g1 38 34 true (Jh 37),o1 39 (.pick (.t 34) (.t 38) Jf)] (Ji 39 .ret .skip))))) (.reg [o1 40 (Jc .add 19 1),m1 19 40]))))))))) (.reg
 [o1 41 (Jc .add 10 1),m1 10 41])))))))
def ZDX:List RV:=[]
theorem n252:Tryz.f252.ntmps=42:=by kernel_rfl
theorem b252:Z4 Tryz.prog 252=true:=by kernel_rfl
theorem Zw9:YR Tryz.prog ZEl ((Tryz.f252.body).getD .skip)=true:=by kernel_rfl
theorem ZxP:Y2 Tryz.prog ZDX Tryz.f252.results.toList=true:=by kernel_rfl
theorem y252 {Y:Hd} {n0:Nat} {hp0:Lh} {args:Ls} {Zz:Ot->Prop} (h:sx Tryz.prog Y n0 ZEl ⟨YT 0 args,hp0,n0,42,[]⟩ (X0 ZDX Zz)) (hA:Nat.ble args.length 42=true:=by rfl):CtY Tryz.prog Y 252 hp0 n0 args Zz:=WR Tryz.func252 rfl Zw9 ZxP n252 (Nat.le_of_ble_eq_true hA) h
def c186:SC:=(sr1 [o1 1 (Jz 0 0 144),o1 2 (.mv (.c (.nilFunc)))] (sr1 [o1 3 (.mkf 252 [.t 1]),m1 2 3] .ret))
def r186:List RV:=[.tmp 2]
theorem n186:Tryz.f186.ntmps=4:=by kernel_rfl
theorem b186:Z4 Tryz.prog 186=true:=by kernel_rfl
theorem Zx8:YR Tryz.prog c186 ((Tryz.f186.body).getD .skip)=true:=by kernel_rfl
theorem Zyw:Y2 Tryz.prog r186 Tryz.f186.results.toList=true:=by kernel_rfl
theorem m186 {n0:Nat} {hp0:Lh} {args:Ls} {Zz:Ot->Prop} (hh:hpb n0 hp0) (hx:∀ o,Zz o->KX o.res/\KXP o.hp) (h:sx Tryz.prog Y0 n0 c186 ⟨YT 0 args,hp0,n0,4,[]⟩ (X0 r186 λo=>∃ o',Zz o'/\WI n0 o o')) (hA:Nat.ble args.length 4=true:=by rfl):Cq 186 hp0 n0 args Zz:=ZB Tryz.func186 rfl b186 Zx8 Zyw n186 (Nat.le_of_ble_eq_true hA) hh hx h
def c115:SC:=(sr1 [o1 8 (.mv (.c (.int .u8 0)))] (.scope (sr1 [m1 14 1,m1 15 2,m1 16 3,o1 17 (J3 185 14 15 16),o1 9 (.alloc [.slice none 0 0] 144),Js 9 17 1] (.seq (sr1 [m1 18 0,o1 19 (lf 9 1),o1 20 (.bsl 1 144 [.t 18,.t 19]),o1 21 (J1 118 20),o1 22
 (Jh 21)] (Ji 22 (sr1 [o1 8 (.mv (.c (.int .u8 0)))] .ret) .skip)) (sr1 [o1 10 (.alloc [.int .u8 0] 5),Jv 10 (.c (.int .u8 2)) 1] (.seq (.label 0) (.seq (sr1 [m1 23 0,o1 24 (.callm 186 [.t 23])] (.block 0 (.gh (.rfun (.t 24) [25] (.reg [o1 11 (.alloc
 zv3 307),Js 11 25 3]) (.block 1 (sr1 [o1 26 (lf 9 1),o1 27 (Jl 26),Jk 28 0] (.block 2 (.loop (sr1 [o1 29 (Jb .lss 28 27)] (.seq (Ji 29 .skip (.exit 2)) (.seq (.block 3 (sr1 [o1 30 (Jx 26 28 3),o1 31 (lt 30 3),o1 13 (.alloc zv3 153),Js 13 31 3] (sr1
 [o1 32 (ao 13 0),o1 33 (lf 32 1),o1 34 (ao 11 0),o1 35 (lf 34 1),o1 36 (Jb .mul 33 35),o1 37 (ao 13 1),o1 38 (lf 37 1),o1 39 (ao 11 1),o1 40 (lf 39 1),o1 41 (Jb .mul 38 40),o1 42 (Jb .add 36 41),o1 43 (ao 13 2),o1 44 (lf 43 1),o1 45 (ao 11 2),o1 46
 (lf 45 1),o1 47 (Jb .mul 44 46),o1 48 (Jb .gtr 42 47)] (Ji 48 (sr1 [Jv 10 (.c (.int .u8 1)) 1] (.exit 0)) .skip)))) (.reg [o1 49 (Jc .add 28 1),m1 28 49])))))))))))) (sr1 [o1 50 (lf 10 1),m1 8 50] .ret))))))))
def r115:List RV:=[.tmp 8]
theorem t115:Qt1 Tryz.prog 115 c115 r115 51:=ZF Tryz.func115
def c111:SC:=(sr1 [o1 4 (Jz 0 0 146),Jk 8 0] (.seq (sr1 [o1 10 (lt 4 1),o1 11 (J1 117 10),m1 9 11] (.block 0 (sr1 [m1 13 9,o1 14 (Jc .neq 13 0),m1 12 14] (Ji 12 (sr1 [m1 15 9,m1 8 15] .ret) (sr1 [m1 17 1,m1 18 2,o1 19 (.bsl 1 3 [.t 17,.t 18]),o1 20
 (.call 181 [.c (.int .i64 (-10000000)),cn 10000000,.t 19]),o1 21 (Jh 20),m1 22 21,g1 23 22 false (.mv (.t 3)),g1 24 22 false (.bsl 1 3 [.t 23]),g1 25 22 false (.call 181 [cn 0,cn 10000000,.t 24]),g1 26 22 false (Jh 25),o1 27 (.pick (.t 22) Jt (.t
 26)),m1 16 27] (Ji 16 (sr1 [Jk 8 2] .ret) (sr1 [o1 29 (ao 4 0),o1 30 (lf 29 1),o1 31 (.bsl 1 144 [.t 30]),o1 32 (J1 118 31),o1 33 (Jh 32),m1 28 33] (Ji 28 (sr1 [Jk 8 43] .ret) .skip)))))))) (sr1 [Jk 8 0] .ret)))
def r111:List RV:=[.tmp 8]
theorem t111:Qt1 Tryz.prog 111 c111 r111 34:=ZF Tryz.func111
def c59:SC:=(sr1 [o1 5 (Jz 0 0 146),o1 7 (Jz 2 0 3),o1 8 (Jz 3 0 3),o1 9 (Jz 4 0 3),Jk 10 0,Jk 11 0,Jk 12 0] (.seq (sr1 [o1 21 (lt 5 1),o1 22 (lf 7 1),o1 23 (lf 8 1),o1 24 (lf 9 1),o1 25 (J4 111 21 22 23 24),m1 13 25] (sr1 [m1 26 13,o1 27 (Jc .neq 26
 0)] (Ji 27 (sr1 [m1 28 13,Jk 10 0,Jk 11 0,m1 12 28] .ret) .skip))) (.seq (.block 0 (sr1 [m1 30 1,o1 31 (Jl 30),o1 32 (Jc .gtr 31 60),m1 29 32] (Ji 29 (sr1 [Jk 10 0,Jk 11 0,Jk 12 4] .ret) (sr1 [m1 34 1,o1 35 (.call 112 [.t 34,.f 113]),o1 36 (Jh 35),m1
 33 36] (Ji 33 (sr1 [Jk 10 0,Jk 11 0,Jk 12 42] .ret) .skip))))) (sr1 [o1 37 (ao 5 0),o1 38 (lf 37 1),o1 14 (.alloc [.slice none 0 0] 144),Js 14 38 1] (sr1 [o1 39 (.build zv3 [(1,1,.c (.int .i64 (-1))),(2,1,.c (.int .i64 (-1)))]),o1 15 (.alloc zv3
 226),Js 15 39 3] (sr1 [o1 40 (.mkf 114 [.t 14,.t 7,.t 8,.t 9,.t 15]),m1 16 40] (sr1 [m1 41 16,o1 42 (.calvm (.t 41) [cn 0])] (.seq (sr1 [m1 43 1,o1 44 (Jl 43),Jk 45 0] (.block 1 (.loop (sr1 [o1 46 (Jb .lss 45 44)] (.seq (Ji 46 .skip (.exit 1)) (.seq
 (.block 2 (sr1 [m1 47 45,o1 48 (Jx 43 45 6),o1 49 (lt 48 6),o1 18 (.alloc zv9 141),m1 17 47,Js 18 49 6] (sr1 [o1 51 (lf 14 1),o1 52 (lt 18 6),o1 53 (J2 116 51 52),m1 50 53,o1 54 (Je 50 0),o1 55 (Je 50 1),m1 19 54,m1 20 55] (.seq (sr1 [m1 56 20,o1 57
 (Jh 56)] (Ji 57 (sr1 [Jk 10 0,Jk 11 0,Jk 12 9] .ret) .skip)) (sr1 [m1 58 19,Js 14 58 1] (.reg [m1 59 16,m1 60 17,o1 61 (Jc .add 60 1),o1 62 (.calvm (.t 59) [.t 61])])))))) (.reg [o1 63 (Jc .add 45 1),m1 45 63]))))))) (.seq (.regd (Jr 7) [Jo 64 (.ixa
 (.t 15) (cn 1) 3 1),Jp 65 (lf 64 1) [0],Jo 66 (.ixa (.t 15) (cn 2) 3 1),Jp 67 (lf 66 1) [2],Jp 10 (.mv (.t 65)) [0,1],Jp 11 (.mv (.t 67)) (Jr 5),Jp 12 (.mv (cn 0)) (Jr 6)] 0 0 []) .ret)))))))))
def r59:List RV:=[.tmp 10,.tmp 11,.tmp 12]
theorem t59:Qt1 Tryz.prog 59 c59 r59 68:=ZF Tryz.func59
def c114:SC:=(sr1 [o1 8 (lf 1 1),o1 9 (lf 2 1),o1 10 (lf 3 1),o1 11 (lf 4 1),o1 12 (J4 115 8 9 10 11),m1 7 12] (.block 0 (.loop (.seq (sr1 [m1 13 7,o1 14 (.bin .gtr (.t 13) (.c (.int .u8 0)))] (Ji 14 .skip (.exit 0))) (.seq (.block 1 (sr1 [m1 17 7,o1
 18 (.ixa (.t 5) (.t 17) 3 1),o1 19 (lf 18 1),o1 20 (Jc .lss 19 0)] (Ji 20 (.reg [m1 21 7,m1 22 0,o1 23 (.ixa (.t 5) (.t 21) 3 1),Js 23 22 1]) .skip))) (.reg [m1 15 7,o1 16 (.bin .sub (.t 15) (.c (.int .u8 1))),m1 7 16]))))))
def r114:List RV:=[]
theorem n114:Tryz.f114.ntmps=24:=by kernel_rfl
theorem b114:Z4 Tryz.prog 114=true:=by kernel_rfl
theorem ZyV:YR Tryz.prog c114 ((Tryz.f114.body).getD .skip)=true:=by kernel_rfl
theorem ZxR:Y2 Tryz.prog r114 Tryz.f114.results.toList=true:=by kernel_rfl
theorem m114 {n0:Nat} {hp0:Lh} {args:Ls} {Zz:Ot->Prop} (hh:hpb n0 hp0) (hx:∀ o,Zz o->KX o.res/\KXP o.hp) (h:sx Tryz.prog Y0 n0 c114 ⟨YT 0 args,hp0,n0,24,[]⟩ (X0 r114 λo=>∃ o',Zz o'/\WI n0 o o')) (hA:Nat.ble args.length 24=true:=by rfl):Cq 114 hp0 n0 args Zz:=ZB Tryz.func114 rfl b114 ZyV ZxR n114 (Nat.le_of_ble_eq_true hA) hh hx h
def c116:SC:=(sr1 [o1 3 (Jz 1 0 141),o1 4 (.mv (.c (.slice none 0 0))),Jw 5 Jf] (.seq (.regd (Jr 14) [Jo 11 (ao 3 0),Jp 12 (lt 11 2) [0],Jo 13 (ao 3 2),Jp 14 (lt 13 2) [2],Jp 15 (J2 187 12 14) [1,3],Jo 16 (ao 3 0),Jp 17 (lt 16 2) [5],Jo 18 (ao 3 4),Jp
 19 (lt 18 2) [7],Jp 20 (J2 187 17 19) [4,6,8]] 2 2 [o1 6 (.alloc zv0 27),o1 7 (.alloc zv0 27),Ju 6 15 2 [0,1,2,3,4,9,10,11],Ju 7 20 2 (Jr 13)]) (sr1 [m1 21 0,o1 22 (.callm 188 [.t 21]),m1 8 22] (.seq (sr1 [m1 23 8,o1 24 (Jl 23),Jk 25 0] (.block 0
 (.loop (sr1 [o1 26 (Jb .lss 25 24)] (.seq (Ji 26 .skip (.exit 0)) (.seq (.block 1 (sr1 [m1 27 25,m1 9 27] (sr1 [m1 28 8,m1 29 9,o1 30 (Jx 28 29 3),m1 10 30] (.regd (Jr 39) [Jm 31 10,Jp 32 (.nilc (.t 31)) [0],Jp 33 (ao 32 2) [1],Jp 34 (lf 33 1) [2],Jm
 35 10,Jp 36 (.nilc (.t 35)) [4],Jp 37 (ao 36 0) [5],Jp 38 (lf 37 1) [6],Jo 39 (ao 6 0),Jp 40 (lf 39 1) [8],Jp 41 (Jb .mul 38 40) [7,9],Jm 42 10,Jp 43 (.nilc (.t 42)) [11],Jp 44 (ao 43 0) [12],Jp 45 (lf 44 1) [13],Jo 46 (ao 6 1),Jp 47 (lf 46 1)
 [15],Jp 48 (Jb .mul 45 47) [14,16],Jp 49 (.mm true [.t 41,.t 48]) [10,17],Jm 50 10,Jp 51 (.nilc (.t 50)) [19],Jp 52 (ao 51 1) [20],Jp 53 (lf 52 1) [21],Jo 54 (ao 7 0),Jp 55 (lf 54 1) [23],Jp 56 (Jb .mul 53 55) [22,24],Jm 57 10,Jp 58 (.nilc (.t 57))
 [26],Jp 59 (ao 58 1) [27],Jp 60 (lf 59 1) [28],Jo 61 (ao 7 1),Jp 62 (lf 61 1) [30],Jp 63 (Jb .mul 60 62) [29,31],Jp 64 (.mm true [.t 56,.t 63]) [25,32],Jp 65 (Jb .add 49 64) [18,33],Jp 66 (Jb .add 34 65) [3,34],Jp 67 (.nilc (.t 31)) (Jr 36),Jp 68 (ao
 67 2) (Jr 37)] 0 1 [Ju 68 66 1 [0,1,2,3,4,5,6,7,8,9,10,11,12,13,14,15,16,17,18,19,20,21,22,23,24,25,26,27,28,29,30,31,32,33,34,35,37]])))) (.reg [o1 69 (Jc .add 25 1),m1 25 69]))))))) (sr1 [m1 70 8,m1 71 8,o1 72 (.call 189 [.t 71,.f 190]),m1 4 70,m1
 5 72] .ret)))))
def r116:List RV:=[.tmp 4,.tmp 5]
theorem t116:Qt1 Tryz.prog 116 c116 r116 73:=ZF Tryz.func116
def c61:SC:=(sr1 [o1 2 (Jz 0 0 146),o1 3 (Jz 1 0 141),o1 4 (.alloc [.slice none 0 0] 146),Jk 5 0] (.seq (sr1 [o1 9 (lt 2 1),o1 10 (J1 117 9),m1 6 10] (sr1 [m1 11 6,o1 12 (Jc .neq 11 0)] (Ji 12 (sr1 [o1 13 (.build [.slice none 0 0] []),m1 14 6,Js 4 13
 1,m1 5 14] .ret) .skip))) (.seq (sr1 [o1 15 (lt 3 6),o1 16 (J1 113 15),o1 17 (Jh 16)] (Ji 17 (sr1 [o1 18 (.build [.slice none 0 0] []),Js 4 18 1,Jk 5 42] .ret) .skip)) (sr1 [o1 20 (ao 2 0),o1 21 (lf 20 1),o1 22 (lt 3 6),o1 23 (J2 116 21 22),m1 19
 23,o1 24 (Je 19 0),o1 25 (Je 19 1),m1 7 24,m1 8 25] (.seq (.block 0 (sr1 [m1 27 8,o1 28 (Jh 27),m1 26 28] (Ji 26 (sr1 [o1 29 (.build [.slice none 0 0] []),Js 4 29 1,Jk 5 9] .ret) (sr1 [o1 31 (ao 2 0),o1 32 (lf 31 1),o1 33 (.bsl 1 144 [.t 32]),o1 34
 (J1 118 33),o1 35 (Jh 34),m1 30 35] (Ji 30 (sr1 [o1 36 (.build [.slice none 0 0] []),Js 4 36 1,Jk 5 43] .ret) .skip))))) (sr1 [m1 37 7,o1 38 (.build [.slice none 0 0] [(0,1,.t 37)]),Js 4 38 1,Jk 5 0] .ret))))))
def r61:List RV:=[.cell 4 1 true,.tmp 5]
theorem t61:Qt1 Tryz.prog 61 c61 r61 39:=ZF Tryz.func61
def c118:SC:=(sr1 [o1 2 (.alloc [.bool false] 4)] (.seq (sr1 [m1 3 0,o1 4 (J1 193 3),o1 5 (.callm 186 [.t 4])] (.block 0 (.gh (.rfun (.t 5) [6] .skip (.block 1 (sr1 [Jv 2 Jt 1] .ret)))))) (sr1 [Jv 2 Jf 1] .ret)))
def r118:List RV:=[.cell 2 1 false]
theorem t118:Qt1 Tryz.prog 118 c118 r118 7:=ZF Tryz.func118
def c193:SC:=(sr1 [o1 2 (.mv (.c (.slice none 0 0)))] (sr1 [Jk 3 0] (.seq (sr1 [m1 9 0,o1 10 (Jl 9),Jk 11 0] (.block 0 (.loop (sr1 [o1 12 (Jb .lss 11 10)] (.seq (Ji 12 .skip (.exit 0)) (.seq (.block 1 (sr1 [o1 13 (Jx 9 11 1),o1 14 (lf 13 1),m1 5 14]
 (sr1 [m1 15 3,m1 16 5,o1 17 (Jl 16),o1 18 (Jb .add 15 17),m1 3 18] (sr1 [m1 19 3,o1 20 (Jc .lss 19 0)] (Ji 20 (.reg [o1 21 (.raw (Go.Op.makeInterface 9 (Go.Operand.const (Go.Value.string { data:=#[108,101,110,32,111,117,116,32,111,102,32,114,97,110,103,101] })))
 20),⟨none,.raw (Go.Op.panic (Go.Operand.tmp 21)) 0,none,[]⟩]) .skip))))) (.reg [o1 22 (Jc .add 11 1),m1 11 22]))))))) (sr1 [m1 23 3,o1 24 (.callm 258 [.c (.slice none 0 0),.t 23]),m1 6 24] (.gh (.seq (sr1 [m1 25 0,o1 26 (Jl 25),Jk 27 0] (.block 2
 (.loop (sr1 [o1 28 (Jb .lss 27 26)] (.seq (Ji 28 .skip (.exit 2)) (.seq (.block 3 (sr1 [o1 29 (Jx 25 27 1),o1 30 (lf 29 1),m1 8 30] (.reg [m1 31 6,m1 32 8,o1 33 (.appm 3 24 153 (.t 31) (.t 32)),m1 6 33]))) (.reg [o1 34 (Jc .add 27 1),m1 27 34])))))))
 (sr1 [m1 35 6,m1 2 35] .ret)))))))
def r193:List RV:=[.tmp 2]
theorem t193:Qt1 Tryz.prog 193 c193 r193 36:=ZF Tryz.func193
def c258:SC:=(sr1 [o1 4 (.mv (.c (.slice none 0 0)))] (.seq (sr1 [m1 5 1,o1 6 (Jc .lss 5 0)] (Ji 6 (.reg [o1 7 (.raw (Go.Op.makeInterface 9 (Go.Operand.const (Go.Value.string { data:=#[99,97,110,110,111,116,32,98,101,32,110,101,103,97,116,105,118,101] })))
 20),⟨none,.raw (Go.Op.panic (Go.Operand.tmp 7)) 0,none,[]⟩]) .skip)) (.seq (sr1 [m1 8 1,m1 9 0,o1 10 (.raw (Go.Op.call { callee:=(Go.Callee.builtin Go.Builtin.cap),args:=#[(Go.Operand.tmp 9)],argTypes:=#[144] }) 3),m1 11 0,o1 12 (.raw (Go.Op.call { callee:=(Go.Callee.builtin Go.Builtin.len),args:=#[(Go.Operand.tmp 11)],argTypes:=#[144] })
 3),o1 13 (Jb .sub 10 12),o1 14 (Jb .sub 8 13),m1 1 14] (sr1 [m1 15 1,o1 16 (Jc .gtr 15 0)] (Ji 16 (.reg [m1 17 0,m1 18 0,o1 19 (.raw (Go.Op.call { callee:=(Go.Callee.builtin Go.Builtin.cap),args:=#[(Go.Operand.tmp 18)],argTypes:=#[144] }) 3),o1 20
 (.raw (Go.Op.slice 144 (Go.Operand.tmp 17) Option.none (Option.some (Go.Operand.tmp 19)) Option.none) 144),m1 21 1,o1 22 (.raw (Go.Op.call { callee:=(Go.Callee.builtin Go.Builtin.append),args:=#[(Go.Operand.tmp 20),(Go.Operand.tmp 21)],argTypes:=#[144,3] })
 144),m1 23 0,o1 24 (.raw (Go.Op.call { callee:=(Go.Callee.builtin Go.Builtin.len),args:=#[(Go.Operand.tmp 23)],argTypes:=#[144] }) 3),o1 25 (.raw (Go.Op.slice 144 (Go.Operand.tmp 22) Option.none (Option.some (Go.Operand.tmp 24)) Option.none) 144),m1
 0 25]) .skip))) (sr1 [m1 26 0,m1 4 26] .ret))))
def r258:List RV:=[.tmp 4]
theorem n258:Tryz.f258.ntmps=27:=by kernel_rfl
theorem b258:Z4 Tryz.prog 258=true:=by kernel_rfl
theorem ZxU:YR Tryz.prog c258 ((Tryz.f258.body).getD .skip)=true:=by kernel_rfl
theorem Zyp:Y2 Tryz.prog r258 Tryz.f258.results.toList=true:=by kernel_rfl
theorem m258 {n0:Nat} {hp0:Lh} {args:Ls} {Zz:Ot->Prop} (hh:hpb n0 hp0) (hx:∀ o,Zz o->KX o.res/\KXP o.hp) (h:sx Tryz.prog Y0 n0 c258 ⟨YT 0 args,hp0,n0,27,[]⟩ (X0 r258 λo=>∃ o',Zz o'/\WI n0 o o')) (hA:Nat.ble args.length 27=true:=by rfl):Cq 258 hp0 n0 args Zz:=ZB Tryz.func258 rfl b258 ZxU Zyp n258 (Nat.le_of_ble_eq_true hA) hh hx h
def c188:SC:=(sr1 [o1 2 (.mv (.c (.slice none 0 0)))] (.seq (sr1 [m1 3 0,o1 4 (.isn (.t 3))] (Ji 4 (sr1 [o1 2 (.mv (.c (.slice none 0 0)))] .ret) .skip)) (sr1 [o1 5 (.bsl 3 153 []),m1 6 0,o1 7 (.cln 3 24 153 (.t 5) (.t 6)),m1 2 7] .ret)))
def r188:List RV:=[.tmp 2]
theorem n188:Tryz.f188.ntmps=8:=by kernel_rfl
theorem b188:Z4 Tryz.prog 188=true:=by kernel_rfl
theorem Zyv:YR Tryz.prog c188 ((Tryz.f188.body).getD .skip)=true:=by kernel_rfl
theorem Zwh:Y2 Tryz.prog r188 Tryz.f188.results.toList=true:=by kernel_rfl
theorem m188 {n0:Nat} {hp0:Lh} {args:Ls} {Zz:Ot->Prop} (hh:hpb n0 hp0) (hx:∀ o,Zz o->KX o.res/\KXP o.hp) (h:sx Tryz.prog Y0 n0 c188 ⟨YT 0 args,hp0,n0,8,[]⟩ (X0 r188 λo=>∃ o',Zz o'/\WI n0 o o')) (hA:Nat.ble args.length 8=true:=by rfl):Cq 188 hp0 n0 args Zz:=ZB Tryz.func188 rfl b188 Zyv Zwh n188 (Nat.le_of_ble_eq_true hA) hh hx h
end Go.Proofs.YtongccnhomncnaaGreatDoor
namespace Go.Sx
open Go Go.RowKit
theorem UW (c:Array Value) (hc:0 < c.size):∀ n,(Builtin.zeroCells c n).toList=(List.replicate n c.toList).flatten
 | 0=>by simp [Builtin.zeroCells]
 | n+1=>by
  have ih:=UW c hc n;simp only [Builtin.zeroCells,Array.toList_map,Array.toList_range] at ih ⊢;rw [Nat.add_mul,Nat.one_mul,List.range_add,List.map_append,ih,List.replicate_succ',List.flatten_append,List.flatten_singleton,List.map_map];congr 1;refine List.ext_getElem (by simp) λi h1 h2=>?_;simp only [List.length_map,List.length_range] at h1;simp only [List.getElem_map,List.getElem_range,Function.comp_apply]
  rw [Nat.mul_comm,Nat.mul_add_mod,Nat.mod_eq_of_lt h1,getElem!_pos c i h1];simp
theorem ZtI {α : Type} (l:List α) (a b:Nat) (h:a<=b):(List.replicate b l).flatten.take (a * l.length)=(List.replicate a l).flatten:=by
 obtain ⟨c,rfl⟩:=Nat.exists_eq_add_of_le h;rw [<- List.replicate_append_replicate,List.flatten_append,List.take_left' (by simp)]
theorem ZgX {w:World} {E:Env} {k ok:Nat->Prop} {l:LZ}:∀ n:Nat,RL w E k ok (List.replicate n (l.map SV.v)).flatten (List.replicate n l).flatten
 | 0=>by simp [RL]
 | n+1=>by
  simp only [List.replicate_succ,List.flatten_cons];exact Yj (ZDj l) (ZgX n)
section
variable {P:Program} {σ : St} {r:KT} {K:RK} {T t ty:TypeId} {m:Nat}
theorem Zjq {ax ay:Operand} {u n:Nat} {tn:TypeId} {i:TypeInfo} {z:Value} {zs:LZ} (hx:VL σ ax = .v (.slice none 0 0)) (hy:VL σ ay = .v (.int .i64 n)) (h1:Xw u σ.gs=false) (h2:Nat.blt u σ.N=true)
 (ht:P.underlying t=some (.slice T)) (htn:P.underlying tn=some (.int .i64)) (hi:P.info? T=some i) (hz:i.zero=some z) (hs:i.size=m) (hm:0 < m) (hz1:z.cells.toList=zs) (hzl:zs.length=m) (h0:0 < n) (hb:n * i.bytes<=140737488355328) (hn6:n<=4611686018427387904)
 (h:r ⟨(u,.mr σ.n 0) :: σ.fr,(σ.n,.row 0 m (List.replicate n (zs.map .v)) T) :: σ.hp,σ.n+1,σ.N,σ.gs⟩ K) :
 RAW P (some u) (.call ⟨.builtin .append,#[ax,ay],#[t,tn]⟩) ty σ r K:=by
 intro o C E a w next Q e1 e2 e3 hS hn hq;have hxv:=Xv hS hx (λ_ _ _=>by simp);have hyv:=Xv hS hy (λ_ _ _=>by simp);simp only [R] at hxv hyv;have hnx:Builtin.nextslicecap (0+n) 0=n:=by simp [Builtin.nextslicecap,h0]
 have hrun:=Lib.run_append_grow_zeros (P:=P) w t tn ty T i z .i64 .i64 ht htn hi hz none 0 0 [] (run_firstCells_none w.drew i.size 0 0 0) n h0 (by omega) (by omega) (by omega) (by omega) (by rw [hnx];omega);generalize hcap:grownCap w (0+n) 0 T=cap at hrun;have hcl:n<=cap:=by
  have:=grownCap_ge w (0+n) 0 T;omega
 let cs:Array Value:=(([]:LZ).toArray ++ Builtin.zeroCells z.cells n ++ Builtin.zeroCells z.cells (cap - (0+n)))
 have hzs:0 < z.cells.size:=by rw [<- Array.length_toList,hz1,hzl];exact hm
 have hcs:cs.toList=(List.replicate cap zs).flatten:=by
  simp only [cs,Array.toList_append,UW _ hzs,hz1,List.nil_append];rw [<- List.flatten_append,List.replicate_append_replicate,show n+(cap - (0+n))=cap by omega]
 have hsz:cs.size=cap * m:=by rw [<- Array.length_toList,hcs];simp [hzl]
 have hbel:Below w.heap.size w (w.drew.alloc (.cells cs T)):=((Below.refl _ _).drew).alloc (Nat.le_refl _) _;obtain ⟨E',k1,k2,k3,k4,k5⟩:=XA (q:=σ.n) (m:=m) (xs:=List.replicate n (zs.map .v)) (T:=T) (v:=.slice (some ⟨w.heap.size,0,none⟩) n cap) hS.hs (by simp [ltn]) hbel
  (.inr ⟨cap,cs,by simp,heap_alloc_new _ _,hsz,⟨by simp;omega,by omega⟩,by simp;omega,λq hq=>by rw [List.eq_of_mem_replicate hq];simp [hzl],by
   rw [hcs];simp only [List.length_replicate];rw [<- hzl,ZtI _ _ _ hcl]
   exact ZgX n⟩)
 have hV:(λk=>ltn σ.n k\/k = σ.n)=ltn (σ.n+1):=by funext k;simp only [ltn,eq_iff_iff];omega
 rw [hV] at k4;have hx:(execOp a.eval o).run P w = .ok (.value (.slice (some ⟨w.heap.size,0,none⟩) n cap)) (w.drew.alloc (.cells cs T)):=by
  obtain ⟨dst',op',ty',pos,after,guard⟩:=o;simp only at e2 e3;subst e2;subst e3;rw [<- hxv,<- hyv] at hrun;simp [execOp,resolve,invoke,builtin,hrun,cs]
 refine ZC hx (by simp) ?_;show next (a.put o.dst _) _;rw [e1];refine hn _ E' _ _ h (Xs hS k5 k1 (by omega) k4 (λhh=>?_) (by simpa [Nat.blt_eq] using h2) (λ_ _ _ e=>by cases e) ?_)
 . rw [ZU.2 hh] at h1;cases h1
 . simp only [R];exact ⟨by simp [ltn],by omega,by rw [k2];exact ⟨rfl,rfl⟩⟩
end
end Go.Sx
namespace Go.Proofs.YtongccnhomncnaaGreatDoor
open Go Go.Sx Go.Azalai
theorem u94:Tryz.prog.underlying 144=some (.slice 153):=by kernel_rfl
theorem ug3:Tryz.prog.underlying 3=some (.int .i64):=by kernel_rfl
theorem ZC6:XT Tryz.prog 153=some 3:=by kernel_rfl
def zh:LZ:=zv3
theorem Zy2:∃ i z,Tryz.prog.info? 153=some i/\i.zero=some z/\i.size=3/\z.cells.toList=zh/\i.bytes=24:=by
 refine ⟨_,.agg #[.int .i64 0,.int .i64 0,.int .i64 0],rfl,?_,?_,?_,?_⟩<;>kernel_rfl
theorem Zg3 (n:Nat) (h0:0 < n) (h1:n<=100000):Cq 258 [] 0 [.v (.slice none 0 0),I n] (λo=>o=⟨false,.mr 0 1,[(0,.row 1 3 [] 153)],1⟩):=by
 obtain ⟨i,z,q1,q2,q3,q4,q5⟩:=Zy2;refine m258 (by simp [hpb]) (λo ho=>by subst ho;simp [KX,KXP,KXH,KFR]) ?_;dsimp only [c258,r258,go_sem];refine Zo (by simp) ?_;dsimp only [go_sem];refine UO rfl u94 ?_;dsimp only [go_sem];refine US rfl u94 ?_;dsimp only [go_sem];rw [Zf (n:=0 - 0) (by omega) (by omega)];rw [Zf (n:=(n:Int) - (0 - 0)) (by omega) (by omega)];rw [show (n:Int) - (0 - 0)=n from by omega]
 refine Zs (by simp;omega) ?_;dsimp only [go_sem];refine UO rfl u94 ?_;dsimp only [go_sem];refine Zl7 rfl rfl u94 ZC6 ?_;dsimp only [go_sem];refine Zjq rfl rfl rfl rfl u94 ug3 q1 q2 q3 (by decide) q4 rfl h0 (by rw [q5];omega) (by omega) ?_;dsimp only [go_sem];refine US rfl u94 ?_;dsimp only [go_sem];refine Zla rfl rfl rfl u94 ZC6 rfl rfl ?_;dsimp only [go_sem];refine ⟨_,rfl,?_⟩;(refine Zw ?_ ?_ ?_ rfl<;>dsimp only [id,go_sem]<;>simp [Za])
theorem oneH:∀ q:List Half,∀ r ∈ q.map Zq,Yu r=true:=λq r hr=>by obtain ⟨x,_,rfl⟩:=List.mem_map.1 hr;rfl
theorem ZcX (a:List Half) (ha:1<=a.length/\a.length<=1000) (k ca:Bool):Cp 193 [.sl k 1 [[.sl ca 3 (a.map Zq)]]] (.sl false 3 (a.map Zq)):=by
 refine t193.1 (by simp [Za,KFR,Zq]) (by simp [Za,Zd,Zq]) ?_;dsimp only [c193,r193,go_sem];refine ZX 2 ?_;dsimp only [Zb,go_sem];refine Zs rfl ?_;dsimp only [go_sem];refine ixs 0 _ rfl rfl ?_;dsimp only [go_sem];simp only [List.length_map];rw [Zf (n:=0+(a.length:Int)) (by omega) (by omega)];refine Zo (by simp<;>omega) ?_;dsimp only [Zb,go_sem];refine Zo rfl ?_;dsimp only [go_sem];rw [show 0+(a.length:Int)=(((a.length:Nat):Nat):Int) from by omega]
 refine ZA [] (Zg3 ((a.length:Nat)) (by omega) (by omega)) rfl rfl rfl ?_ ?_ ?_
 . (repeat first | dsimp only [go_sem] | simp only [nbr])
   try simp [mtL,mtB,mtS]
 . trivial
 rintro _ rfl
 (repeat first | dsimp only [go_sem] | simp only [nbr])
 refine gh Zp ?_;dsimp only [go_sem];refine ZX 2 ?_;dsimp only [Zb,go_sem];refine Zs rfl ?_;dsimp only [go_sem];refine ixs 0 _ rfl rfl ?_;dsimp only [go_sem];refine ⟨oneH a,by simp;omega,?_⟩;dsimp only [Zb,go_sem];refine Zo rfl ?_;dsimp only [go_sem];try simp
theorem Zax (a b:List Half) (ha:1<=a.length/\a.length<=1000) (hb:1<=b.length/\b.length<=1000) (k ca cb:Bool):Cp 193 [.sl k 1 [[.sl ca 3 (a.map Zq)],[.sl cb 3 (b.map Zq)]]] (.sl false 3 ((a ++ b).map Zq)):=by
 refine t193.1 (by simp [Za,KFR,Zq]) (by simp [Za,Zd,Zq]) ?_;dsimp only [c193,r193,go_sem];refine ZX 3 ?_;dsimp only [Zb,go_sem];refine Zs rfl ?_;dsimp only [go_sem];refine ixs 0 _ rfl rfl ?_;dsimp only [go_sem];simp only [List.length_map];rw [Zf (n:=0+(a.length:Int)) (by omega) (by omega)];refine Zo (by simp<;>omega) ?_;dsimp only [Zb,go_sem];refine Zs rfl ?_;dsimp only [go_sem];refine ixs 1 _ rfl rfl ?_
 dsimp only [go_sem];simp only [List.length_map];rw [Zf (n:=0+(a.length:Int)+(b.length:Int)) (by omega) (by omega)];refine Zo (by simp<;>omega) ?_;dsimp only [Zb,go_sem];refine Zo rfl ?_;dsimp only [go_sem];rw [show 0+(a.length:Int)+(b.length:Int)=(((a.length+b.length:Nat):Nat):Int) from by omega];refine ZA [] (Zg3 ((a.length+b.length:Nat)) (by omega) (by omega)) rfl rfl rfl ?_ ?_ ?_
 . (repeat first | dsimp only [go_sem] | simp only [nbr])
   try simp [mtL,mtB,mtS]
 . trivial
 rintro _ rfl
 (repeat first | dsimp only [go_sem] | simp only [nbr])
 refine gh Zp ?_;dsimp only [go_sem];refine ZX 3 ?_;dsimp only [Zb,go_sem];refine Zs rfl ?_;dsimp only [go_sem];refine ixs 0 _ rfl rfl ?_;dsimp only [go_sem];refine ⟨oneH a,by simp;omega,?_⟩;dsimp only [Zb,go_sem];refine Zs rfl ?_;dsimp only [go_sem];refine ixs 1 _ rfl rfl ?_;dsimp only [go_sem];refine ⟨oneH b,by simp;omega,?_⟩;dsimp only [Zb,go_sem];refine Zo rfl ?_;dsimp only [go_sem];try simp
theorem ZuY {α : Type} {f:α->Ls} (h:∀ x,KFL (f x)) (n:Nat) (l:List α):KFR (List.take n (List.map f l)):=by
 rw [<- List.map_take,Za];exact λx _=>h x
theorem Wk (n:Nat) (l:List Half):KFR (List.take n (List.map Zq l)):=ZuY (λ_=>by simp [Zq]) n l
theorem YX (n:Nat) (l:List Half):KFR (List.take n (List.map (λh=>[I h.a,I h.b,I h.c]) l)):=ZuY (λ_=>by simp) n l
theorem VA (g:WS->Bool) (l:List Half) (p:Half) (j:Nat) (h:j < l.length):ZkY g l p (l.take (j+1))=(ZkY g l p (l.take j) || (okC l (Wv p l[j]) && g (Wv p l[j]))):=by
 rw [ZkY,List.take_succ_eq_append_getElem h,List.any_append];simp [ZkY]
theorem Zcj (g:WS->Bool) (l:List Half) (k:Nat) (h:k < l.length):ZnC g l (k+1)=(ZnC g l k || ZkY g l l[k] (l.take k)):=by
 rw [ZnC,List.getElem?_eq_getElem h]
theorem Zae {g:WS->Bool} {l:List Half} {k:Nat}:∀ {n:Nat},n<=l.length->(hk:k < l.length)->ZkY g l l[k] (l.take k)=true->(hn:k < n:=by assumption)->ZnC g l n=true
 | n+1,hn,hk,h,hkn=>by
  rw [Zcj g l n (by omega)];by_cases e:k=n
  . subst e;rw [h,Bool.or_true]
  . rw [Zae (by omega) hk h (by omega),Bool.true_or]
theorem Zc8 {g:WS->Bool} {l:List Half} {p:Half} {j k:Nat} (hj:j < k) (hk:k<=l.length) (h:(okC l (Wv p (l[j]'(by omega))) && g (Wv p (l[j]'(by omega))))=true):ZkY g l p (l.take k)=true:=by
 rw [ZkY,List.any_eq_true];exact ⟨l[j]'(by omega),by rw [List.mem_take_iff_getElem];exact ⟨j,by omega,rfl⟩,h⟩
theorem Zc5 (l:List Half) (c:Bool):Cq 186 [] 0 [.sl c 3 (l.map Zq)] (λo=>o=⟨false,.cl 252 [.p 0 0],[(0,.cells [.sl c 3 (l.map Zq)] 144)],1⟩):=by
 refine m186 (by simp [hpb]) (λo ho=>by subst ho;simp [KX,KXL,KXP,KXH,Za,Zq,KFL,KF]) ?_;dsimp only [c186,r186,go_sem];refine ⟨_,rfl,?_⟩;(refine Zw ?_ ?_ ?_ rfl<;>dsimp only [Zq,id,go_sem]<;>simp [Zq,Za])
theorem Zg7 (l:List Half) (c:WS) (hl:l.length<=1000) (k:Bool):Cp 189 [.sl k 3 (l.map Zq),.cl 254 [.ps (ZcI c) 0]] (B (l.all (inH c))) :=
 ZbI 254 [.ps (ZcI c) 0] (by simp [KFL,KF,ZcI]) (λ_=>rfl) (inH c) l (λx _=>ZCc c x) (by omega) k
theorem ZfW (l:List Half) (k:Bool) (xs:Rr) (hc:Cp 193 [.sl k 1 xs] (.sl false 3 (l.map Zq))) (hk:KFR xs) (hl:l.length<=1000):Cp 118 [.sl k 1 xs] (B (ZiS l)):=by
 refine t118.1 (by simp [KFL,KF,hk]) (by simp) ?_;dsimp only [c118,r118,go_sem];refine call hc ?_;dsimp only [go_sem];refine ZA [] (Zc5 l false) rfl rfl rfl ?_ ?_ ?_
 . (repeat first | dsimp only [go_sem] | simp only [nbr])
   try simp [mtL,mtB,mtS,Za,Zq,KFL,KF]
 . trivial
 rintro _ rfl
 (repeat first | dsimp only [go_sem] | simp only [nbr])
 refine gh Zp ?_;dsimp only [go_sem];refine ⟨b252,λrec=>?_⟩;refine y252 ?_;dsimp only [ZEl,ZDX,go_sem];refine Ym (λk:Nat=>[(10,I k)]) (λ_=>[]) (λk=>k<=l.length/\ZnC (λ_=>true) l k=false) (λk=>l.length - k) 0 ⟨Nat.zero_le _,rfl⟩ ?_ ?_
 . (refine Zj ?_ ?_ ?_ rfl rfl<;>dsimp only [Zq,id,go_sem]<;>simp [Zq,Za])
 rintro k ⟨hk0,hi⟩;dsimp only [go_sem];simp only [List.length_map];by_cases hlt:k < l.length
 . refine Zs (by simpa using hlt) ?_;dsimp only [go_sem];refine Zn k hlt rfl ?_;dsimp only [Zq,go_sem];refine ⟨0,k,⟨rfl,rfl,Nat.zero_le _,by simp;omega⟩,?_⟩;dsimp only [go_sem];rw [<- List.map_take];simp only [List.length_map,List.length_take,Nat.min_eq_left hk0];refine Ym (λj:Nat=>[(19,I j)]) (λ_=>[]) (λj=>j<=k/\ZkY (λ_=>true) l l[k] (l.take j)=false) (λj=>k - j) 0 ⟨Nat.zero_le _,rfl⟩ ?_ ?_
   . (refine Zj ?_ ?_ ?_ rfl rfl<;>dsimp only [Zq,Wk,YX,id,go_sem]<;>simp [Zq,Wk,YX,Za])
   rintro j ⟨hj0,hj⟩;dsimp only [go_sem];by_cases hjk:j < k
   . refine Zs (by simpa using hjk) ?_;dsimp only [go_sem];refine Zn j (by simp;omega) rfl ?_;rw [List.getElem_take];dsimp only [Zq,go_sem];refine call (ZkT l[k] l[j]) ?_;dsimp only [ZcI,go_sem];cases hD:((Wv l[k] l[j]).2.2 != 0) with
     | false =>
      repeat (refine Xu (by decide) ?_;dsimp only [go_sem])
      refine Zo rfl ?_;dsimp only [go_sem];rw [Zf (n:=(j:Int)+1) (by omega) (by omega)];refine ⟨j+1,⟨hjk,by rw [VA _ _ _ _ (by omega),hj];simp [okC,hD]⟩,by omega,?_⟩;(refine Zj ?_ ?_ ?_ rfl rfl<;>dsimp only [Zq,Wk,YX,id,go_sem]<;>simp [Zq,Wk,YX,Za])
     | true =>
      iterate 2 (refine ZI rfl ?_;dsimp only [go_sem])
      refine ZI rfl ?_;dsimp only [go_sem];refine WM (by simp [FLT]) (res:=B (l.all (inH (Wv l[k] l[j])))) ?_ ?_
      . dsimp only [go_sem];exact Zg7 l (Wv l[k] l[j]) hl false
      dsimp only [go_sem];cases hA:l.all (inH (Wv l[k] l[j])) with
      | false =>
       repeat (refine Xu (by decide) ?_;dsimp only [go_sem])
       refine Zo rfl ?_;dsimp only [go_sem];rw [Zf (n:=(j:Int)+1) (by omega) (by omega)];refine ⟨j+1,⟨hjk,by rw [VA _ _ _ _ (by omega),hj];simp [okC,hA]⟩,by omega,?_⟩;(refine Zj ?_ ?_ ?_ rfl rfl<;>dsimp only [Zq,Wk,YX,id,go_sem]<;>simp [Zq,Wk,YX,Za])
      | true =>
       iterate 2 (refine ZI rfl ?_;dsimp only [go_sem])
       refine ZI rfl ?_;dsimp only [go_sem];refine ⟨rfl,rfl,rfl,?_⟩;repeat (first | (refine ZI rfl ?_;dsimp only [go_sem]) | (refine Xu (by decide) ?_;dsimp only [go_sem]))
       refine Zs rfl ?_;dsimp only [go_sem];rw [show ZiS l=true from Zae (by omega) hlt (Zc8 hjk (by omega) (by simp [okC,hD,hA]))]
   refine Zo (by simpa using hjk) ?_;dsimp only [go_sem];have hjk':j=k:=by omega
   subst hjk';rw [Zf (n:=(j:Int)+1) (by omega) (by omega)];refine ⟨j+1,⟨hlt,by rw [Zcj _ _ _ hlt,hi,hj];rfl⟩,by omega,?_⟩;(refine Zj ?_ ?_ ?_ rfl rfl<;>dsimp only [Zq,Wk,YX,id,go_sem]<;>simp [Zq,Wk,YX,Za])
 refine Zo (by simpa using hlt) ?_;dsimp only [go_sem];have hkl:k=l.length:=by omega
 subst hkl;rw [show ZiS l=false from hi]
abbrev V8 (n:Int):SV:=.v (.int .u8 n)
theorem ZzL (l:List Half) (x y far:Int) (h1:1<=l.length) (hl:l.length<=900) (c:Bool):Cp 115 [.sl c 3 (l.map Zq),I x,I y,I far] (V8 (Zgn l x y far)):=by
 refine t115.1 (by simp [Za,Zq]) (by simp) ?_;dsimp only [c115,r115,go_sem];refine call (Zk4 x y far) ?_;dsimp only [go_sem];have hcl:(VF x y far).length=4:=rfl;have hnear:Zgn l x y far=if ZiS (l ++ VF x y far)=false then 0 else if ZnC (λc=>(VF x y far).any λh=>!inH c h) l l.length=true then 1 else 2:=rfl
 generalize VF x y far=cs at hcl hnear;refine call (ZfW (l ++ cs) true [[.sl c 3 (l.map Zq)],[.sl true 3 (cs.map Zq)]] (Zax l cs ⟨h1,by omega⟩ (by omega) true c true) (by simp [KFR,KFL,KF,Za,Zq]) (by simp;omega)) ?_;dsimp only [go_sem];rw [hnear];cases hs:ZiS (l ++ cs) with
 | false =>
  refine Zs rfl ?_;dsimp only [go_sem];simp
 | true =>
 refine Zo rfl ?_;dsimp only [go_sem];refine ZA [] (Zc5 l c) rfl rfl rfl ?_ ?_ ?_
 . (repeat first | dsimp only [go_sem] | simp only [nbr])
   try simp [mtL,mtB,mtS,Za,Zq,KFL,KF]
 . trivial
 rintro _ rfl
 (repeat first | dsimp only [go_sem] | simp only [nbr])
 refine gh Zp ?_;dsimp only [go_sem];obtain ⟨G,hG⟩:∃ G:WS->Bool,G=λc=>cs.any λh=>!inH c h:=⟨_,rfl⟩;rw [<- hG];refine ⟨b252,λrec=>?_⟩;refine y252 ?_;dsimp only [ZEl,ZDX,go_sem];refine Ym (λk:Nat=>[(10,I k)]) (λ_=>[]) (λk=>k<=l.length/\ZnC G l k=false) (λk=>l.length - k) 0 ⟨Nat.zero_le _,rfl⟩ ?_ ?_
 . (refine Zj ?_ ?_ ?_ rfl rfl<;>dsimp only [Zq,id,go_sem]<;>simp [Zq,Za])
 rintro k ⟨hk0,hi⟩;dsimp only [go_sem];simp only [List.length_map];by_cases hlt:k < l.length
 . refine Zs (by simpa using hlt) ?_;dsimp only [go_sem];refine Zn k hlt rfl ?_;dsimp only [Zq,go_sem];refine ⟨0,k,⟨rfl,rfl,Nat.zero_le _,by simp;omega⟩,?_⟩;dsimp only [go_sem];rw [<- List.map_take];simp only [List.length_map,List.length_take,Nat.min_eq_left hk0];refine Ym (λj:Nat=>[(19,I j)]) (λ_=>[]) (λj=>j<=k/\ZkY G l l[k] (l.take j)=false) (λj=>k - j) 0 ⟨Nat.zero_le _,rfl⟩ ?_ ?_
   . (refine Zj ?_ ?_ ?_ rfl rfl<;>dsimp only [Zq,Wk,YX,id,go_sem]<;>simp [Zq,Wk,YX,Za])
   rintro j ⟨hj0,hj⟩;dsimp only [go_sem];by_cases hjk:j < k
   . refine Zs (by simpa using hjk) ?_;dsimp only [go_sem];refine Zn j (by simp;omega) rfl ?_;rw [List.getElem_take];dsimp only [Zq,go_sem];refine call (ZkT l[k] l[j]) ?_;dsimp only [ZcI,go_sem];cases hD:((Wv l[k] l[j]).2.2 != 0) with
     | false =>
      repeat (refine Xu (by decide) ?_;dsimp only [go_sem])
      refine Zo rfl ?_;dsimp only [go_sem];rw [Zf (n:=(j:Int)+1) (by omega) (by omega)];refine ⟨j+1,⟨hjk,by rw [VA _ _ _ _ (by omega),hj];simp [okC,hD]⟩,by omega,?_⟩;(refine Zj ?_ ?_ ?_ rfl rfl<;>dsimp only [Zq,Wk,YX,id,go_sem]<;>simp [Zq,Wk,YX,Za])
     | true =>
      iterate 2 (refine ZI rfl ?_;dsimp only [go_sem])
      refine ZI rfl ?_;dsimp only [go_sem];refine WM (by simp [FLT]) (res:=B (l.all (inH (Wv l[k] l[j])))) ?_ ?_
      . dsimp only [go_sem];exact Zg7 l (Wv l[k] l[j]) (by omega) c
      dsimp only [go_sem];cases hA:l.all (inH (Wv l[k] l[j])) with
      | false =>
       repeat (refine Xu (by decide) ?_;dsimp only [go_sem])
       refine Zo rfl ?_;dsimp only [go_sem];rw [Zf (n:=(j:Int)+1) (by omega) (by omega)];refine ⟨j+1,⟨hjk,by rw [VA _ _ _ _ (by omega),hj];simp [okC,hA]⟩,by omega,?_⟩;(refine Zj ?_ ?_ ?_ rfl rfl<;>dsimp only [Zq,Wk,YX,id,go_sem]<;>simp [Zq,Wk,YX,Za])
      | true =>
       iterate 2 (refine ZI rfl ?_;dsimp only [go_sem])
       refine ZI rfl ?_;dsimp only [go_sem];refine ⟨rfl,rfl,?_⟩;simp only [List.length_map];refine Ym (λi:Nat=>[(28,I i)]) (λ_=>[]) (λi=>i<=cs.length/\(cs.take i).any (λh=>!inH (Wv l[k] l[j]) h)=false) (λi=>cs.length - i) 0 ⟨Nat.zero_le _,rfl⟩ ?_ ?_
       . (refine Zj ?_ ?_ ?_ rfl rfl<;>dsimp only [Zq,Wk,YX,id,go_sem]<;>simp [Zq,Wk,YX,Za])
       rintro i ⟨hi0,hin⟩;dsimp only [go_sem];by_cases hic:i < cs.length
       . refine Zs (by simpa using hic) ?_;dsimp only [go_sem];refine Zn i hic rfl ?_;dsimp only [Zq,go_sem];cases hV:inH (Wv l[k] l[j]) cs[i] with
         | false =>
          refine Zs (by simpa [inH] using hV) ?_;dsimp only [go_sem];refine ⟨rfl,?_⟩;repeat (refine ZI rfl ?_;dsimp only [go_sem])
          refine Zs rfl ?_;dsimp only [go_sem];have hgv:G (Wv l[k] l[j])=true:=by rw [hG];exact List.any_eq_true.2 ⟨cs[i],List.getElem_mem _,by simp [hV]⟩
          rw [show ZnC G l l.length=true from Zae (Nat.le_refl _) hlt (Zc8 hjk (by omega) (by simp [okC,hD,hA,hgv]))];rfl
         | true =>
          refine Zo (by simpa [inH] using hV) ?_;dsimp only [go_sem];rw [Zf (n:=(i:Int)+1) (by omega) (by omega)];refine ⟨i+1,⟨hic,by rw [List.take_succ_eq_append_getElem hic,List.any_append,hin];simp [hV]⟩,by omega,?_⟩;(refine Zj ?_ ?_ ?_ rfl rfl<;>dsimp only [Zq,Wk,YX,id,go_sem]<;>simp [Zq,Wk,YX,Za])
       refine Zo (by simpa using hic) ?_;dsimp only [go_sem];have hice:i=cs.length:=by omega
       subst hice;rw [List.take_length] at hin;have hgv:G (Wv l[k] l[j])=false:=by rw [hG];exact hin
       refine ⟨rfl,?_⟩;repeat (refine ZI rfl ?_;dsimp only [go_sem])
       refine Zo rfl ?_;dsimp only [go_sem];rw [Zf (n:=(j:Int)+1) (by omega) (by omega)];refine ⟨j+1,⟨hjk,by rw [VA _ _ _ _ (by omega),hj,hgv];simp⟩,by omega,?_⟩;(refine Zj ?_ ?_ ?_ rfl rfl<;>dsimp only [Zq,Wk,YX,id,go_sem]<;>simp [Zq,Wk,YX,Za])
   refine Zo (by simpa using hjk) ?_;dsimp only [go_sem];have hjk':j=k:=by omega
   subst hjk';rw [Zf (n:=(j:Int)+1) (by omega) (by omega)];refine ⟨j+1,⟨hlt,by rw [Zcj _ _ _ hlt,hi,hj];rfl⟩,by omega,?_⟩;(refine Zj ?_ ?_ ?_ rfl rfl<;>dsimp only [Zq,Wk,YX,id,go_sem]<;>simp [Zq,Wk,YX,Za])
 refine Zo (by simpa using hlt) ?_;dsimp only [go_sem];have hkl:k=l.length:=by omega
 subst hkl;rw [hi];rfl
def c165:SC:=(sr1 [Jk 2 0] (.seq (sr1 [m1 5 0,o1 6 (Jl 5),o1 7 (Jc .lss 6 1)] (Ji 7 (.reg [o1 8 (.raw (Go.Op.makeInterface 9 (Go.Operand.const (Go.Value.string { data:=#[115,108,105,99,101,115,46,77,97,120,58,32,101,109,112,116,121,32,108,105,115,116] })))
 20),⟨none,.raw (Go.Op.panic (Go.Operand.tmp 8)) 0,none,[]⟩]) .skip)) (sr1 [m1 9 0,o1 10 (.ixs (.t 9) (cn 0) 1),o1 11 (lf 10 1),m1 3 11] (.seq (sr1 [Jk 4 1] (.block 0 (.loop (.seq (sr1 [m1 12 4,m1 13 0,o1 14 (Jl 13),o1 15 (Jb .lss 12 14)] (Ji 15 .skip
 (.exit 0))) (.seq (.block 1 (.reg [m1 18 3,m1 19 0,m1 20 4,o1 21 (Jx 19 20 1),o1 22 (lf 21 1),o1 23 (.mm true [.t 18,.t 22]),m1 3 23])) (.reg [m1 16 4,o1 17 (Jc .add 16 1),m1 4 17])))))) (sr1 [m1 24 3,m1 2 24] .ret)))))
def r165:List RV:=[.tmp 2]
theorem t165:Qt1 Tryz.prog 165 c165 r165 25:=ZF Tryz.func165
theorem ZxM (a b c d:Int) (k:Bool):Cp 165 [.sl k 1 [[I a],[I b],[I c],[I d]]] (I (max (max (max a b) c) d)):=by
 refine t165.1 (by simp [KFR]) (by simp) ?_;dsimp only [c165,r165,go_sem];refine Zo rfl ?_;dsimp only [go_sem];refine ixs 0 _ rfl rfl ?_;dsimp only [go_sem];refine ZX 4 ?_;dsimp only [Zb,go_sem];refine Zs rfl ?_;dsimp only [go_sem];refine ixs 1 _ rfl rfl ?_;dsimp only [go_sem];rw [show IntKind.i64.wrap ((1:Int)+1)=2 from rfl];refine Zs rfl ?_;dsimp only [go_sem];refine ixs 2 _ rfl rfl ?_;dsimp only [go_sem]
 rw [show IntKind.i64.wrap ((2:Int)+1)=3 from rfl];refine Zs rfl ?_;dsimp only [go_sem];refine ixs 3 _ rfl rfl ?_;dsimp only [go_sem];rw [show IntKind.i64.wrap ((3:Int)+1)=4 from rfl];refine Zo rfl ?_;dsimp only [go_sem]
theorem ZrI (a b c d:Int):Cp 255 [.sl true 1 [[I a],[I b],[I c],[I d]]] (.agg [I (Zjf [a,b,c,d]),I (max (max (max a b) c) d)]):=by
 refine t255.1 (by simp [KFR]) (by simp) ?_;dsimp only [c255,r255,go_sem];refine call (Zmi [a,b,c,d] (by simp) (by simp) true) ?_;dsimp only [go_sem];refine call (ZxM a b c d true) ?_;dsimp only [go_sem]
theorem Zhi (a b:Span):Cp 187 [.agg (Ze a),.agg (Ze b)] (.agg [I (Zjf [w64 (a.lo * b.lo),w64 (a.lo * b.hi),w64 (a.hi * b.lo),w64 (a.hi * b.hi)]),I (max (max (max (w64 (a.lo * b.lo)) (w64 (a.lo * b.hi))) (w64 (a.hi * b.lo))) (w64 (a.hi * b.hi)))]):=by
 refine t187.1 (by simp [Ze]) (by simp) ?_;dsimp only [c187,r187,Ze,go_sem];refine call (ZrI _ _ _ _) ?_;dsimp only [go_sem]
def T0:Trek:=⟨⟨1,1⟩,⟨10,20⟩,⟨0,0⟩⟩
theorem Zj8:Cp 187 [.agg [I 1,I 1],.agg [I 10,I 20]] (.agg [I 10,I 20]):=Zhi ⟨1,1⟩ ⟨10,20⟩
theorem Zl4:Cp 187 [.agg [I 1,I 1],.agg [I 0,I 0]] (.agg [I 0,I 0]):=Zhi ⟨1,1⟩ ⟨0,0⟩
def AX (a b c d:Int):List Half:=[⟨1,0,a⟩,⟨-1,0,b⟩,⟨0,1,c⟩,⟨0,-1,d⟩]
theorem Zmb (l:List Half) (h1:l≠[]) (hl:l.length<=1000) (c:Bool):Cq 188 [] 0 [.sl c 3 (l.map Zq)] (λo=>o=⟨false,.mr 0 0,[(0,.row 0 3 (l.map Zq) 153)],1⟩):=by
 refine m188 (by simp [hpb]) (λo ho=>by subst ho;simp [KX,KXL,KXP,KXH,Za,Zq,KFL,KF]) ?_;dsimp only [c188,r188,go_sem];intro b hb;dsimp only [go_sem];cases b with
 | true=>exact absurd (by simpa using hb rfl) h1
 | false =>
  refine Zo rfl ?_;dsimp only [go_sem];refine ⟨by simp;omega,?_⟩;dsimp only [go_sem];refine ⟨_,rfl,?_⟩;(refine Zw ?_ ?_ ?_ rfl<;>dsimp only [Zq,id,go_sem]<;>simp [Zq,Za])
theorem UJ (a b c d:Int) (k:Bool):Cp 116 [.sl k 3 ((AX a b c d).map Zq),.agg (Xm T0)] (.tup [.sl false 3 ((AX (w64 (a+w64 (20+0))) (w64 (b+w64 (-10+0))) (w64 (c+w64 (0+0))) (w64 (d+w64 (0+0)))).map Zq),B ((AX (w64 (a+w64 (20+0))) (w64 (b+w64 (-10+0))) (w64 (c+w64 (0+0))) (w64 (d+w64 (0+0)))).all λh=>inR (-100000000000) 100000000000 h.c)]):=by
 refine t116.1 (by simp [AX,Zq,KFR,Xm]) (by simp [AX,Zq,KFR]) ?_;dsimp only [c116,r116,Xm,T0,go_sem];refine call Zj8 ?_;dsimp only [go_sem];refine call Zl4 ?_;dsimp only [go_sem];refine ZA [] (Zmb (AX a b c d) (by simp [AX]) (by simp [AX]) k) rfl rfl rfl ?_ ?_ ?_
 . (repeat first | dsimp only [go_sem] | simp only [nbr])
   try simp [mtL,mtB,mtS,Za,Zq,KFL,KF]
 . trivial
 rintro _ rfl
 (repeat first | dsimp only [AX,go_sem] | simp only [nbr])
 simp only [List.map_cons,List.map_nil];dsimp only [Zq,go_sem];refine ZX 5 ?_;dsimp only [Zb,go_sem];repeat (first | (refine Zo rfl ?_;dsimp only [go_sem]) | (refine Zs rfl ?_;dsimp only [go_sem]) | (refine UK 0 rfl (by decide) ?_;dsimp only [go_sem]) | (refine UK 1 rfl (by decide) ?_;dsimp only [go_sem]) | (refine UK 2 rfl (by decide) ?_;dsimp only [go_sem]) | (refine UK 3 rfl (by decide) ?_;dsimp only [go_sem]) | (refine ⟨_,Z1.2 λ_=>rfl,?_⟩;dsimp only [go_sem]) | (refine ⟨_,rfl,by simp,?_⟩;dsimp only [List.set,go_sem]))
 simp only [show max (IntKind.i64.wrap (1 * 10)) (IntKind.i64.wrap (1 * 20))=(20:Int) from rfl,show max (IntKind.i64.wrap (-1 * 10)) (IntKind.i64.wrap (-1 * 20))=(-10:Int) from rfl,show max (IntKind.i64.wrap (0 * 10)) (IntKind.i64.wrap (0 * 20))=(0:Int) from rfl,show max (IntKind.i64.wrap (0 * 0)) (IntKind.i64.wrap (0 * 0))=(0:Int) from rfl,show max (IntKind.i64.wrap (1 * 0)) (IntKind.i64.wrap (1 * 0))=(0:Int) from rfl,show max (IntKind.i64.wrap (-1 * 0)) (IntKind.i64.wrap (-1 * 0))=(0:Int) from rfl]
 refine WM (by simp [FLT]) (res:=B ((AX (w64 (a+w64 (20+0))) (w64 (b+w64 (-10+0))) (w64 (c+w64 (0+0))) (w64 (d+w64 (0+0)))).all λh=>inR (-100000000000) 100000000000 h.c)) ?_ ?_
 . dsimp only [go_sem];exact ZbI 190 [] trivial (λ_=>rfl) (λh=>inR (-100000000000) 100000000000 h.c) (AX _ _ _ _) (λx _=>Zx4 x) (by simp [AX]) false
 dsimp only [go_sem];rfl
def AL (c:Bool) (l:List Half):SV:=.agg [.sl c 3 (l.map Zq)]
theorem Zqd:Cp 111 [AL true A0,I 30,I 0,I 10] (I 0):=by
 refine t111.1 (by simp [AL,A0,Zq,KFR]) (by simp) ?_;dsimp only [c111,r111,AL,go_sem];refine call Ze1 ?_;dsimp only [go_sem];refine Zo rfl ?_;dsimp only [go_sem];refine call (Zld _ _ _ _ _) ?_;dsimp only [go_sem];refine ZI rfl ?_;dsimp only [go_sem];refine ZI rfl ?_;dsimp only [go_sem];refine ZI rfl ?_;dsimp only [go_sem];refine call (Zhl _ _ _ _) ?_;dsimp only [go_sem];repeat (refine ZI rfl ?_;dsimp only [go_sem])
 refine Zo rfl ?_;dsimp only [go_sem];refine call (ZfW A0 true [[.sl true 3 (A0.map Zq)]] (ZcX A0 (by decide) true true) (by simp [KFR,KFL,KF,Za,Zq,A0]) (by decide)) ?_;dsimp only [go_sem];refine Zo rfl ?_;dsimp only [go_sem]
def XS (l:List Half) (c:Bool) (f1 f2:Int):Lh:=[(0,.cells [.sl c 3 (l.map Zq)] 144),(1,.cells [I 30] 3),(2,.cells [I 0] 3),(3,.cells [I 10] 3),(4,.cells [I 0,I f1,I f2] 226)]
theorem ZdJ (l:List Half) (c:Bool) (n f1 f2 v:Int) (h1:1<=l.length) (h2:l.length<=900) (hv:Zgn l 30 0 10=v) (h:v=0\/v=1\/v=2) :
 Cq 114 (XS l c f1 f2) 5 [I n,.p 0 0,.p 1 0,.p 2 0,.p 3 0,.p 4 0] (λo=>o=⟨false,.tup [],XS l c (if 1<=v/\f1 < 0 then n else f1) (if v=2/\f2 < 0 then n else f2),5⟩):=by
 have hkr:∀ g1 g2:Int,KXP (XS l c g1 g2):=λg1 g2=>by simp [XS,KX,KXL,KXP,KXH,Za,Zq]
 refine m114 (by simp [hpb,XS]) (λo ho=>by subst ho;exact ⟨by simp [KX,KXL],hkr _ _⟩) ?_;dsimp only [c114,r114,XS,go_sem];refine call (ZzL l 30 0 10 h1 h2 c) ?_;rw [hv];dsimp only [go_sem];rcases h with rfl | rfl | rfl
 . refine ZX 1 ?_;dsimp only [Zb,go_sem];refine Zo rfl ?_;dsimp only [go_sem];refine ⟨_,rfl,?_⟩;rw [if_neg (by omega),if_neg (by omega)];(refine Zw ?_ ?_ ?_ rfl<;>dsimp only [Zq,XS,id,go_sem]<;>simp [Zq,XS,Za])
 . refine ZX 2 ?_;dsimp only [Zb,go_sem];refine Zs rfl ?_;dsimp only [go_sem];refine ixa 1 rfl (by decide) ?_;dsimp only [go_sem];by_cases hf:f1 < 0
   . refine Zs (by simpa using hf) ?_;dsimp only [go_sem];refine ixa 1 rfl (by decide) ?_;dsimp only [go_sem];refine Zo rfl ?_;dsimp only [go_sem];refine ⟨_,rfl,?_⟩;rw [if_pos ⟨by omega,hf⟩,if_neg (by omega)];(refine Zw ?_ ?_ ?_ rfl<;>dsimp only [Zq,XS,id,go_sem]<;>simp [Zq,XS,Za])
   . refine Zo (by simpa using hf) ?_;dsimp only [go_sem];refine Zo rfl ?_;dsimp only [go_sem];refine ⟨_,rfl,?_⟩;rw [if_neg (by omega),if_neg (by omega)];(refine Zw ?_ ?_ ?_ rfl<;>dsimp only [Zq,XS,id,go_sem]<;>simp [Zq,XS,Za])
 . refine ZX 3 ?_;dsimp only [Zb,go_sem];refine Zs rfl ?_;dsimp only [go_sem];refine ixa 2 rfl (by decide) ?_;dsimp only [go_sem];by_cases hg:f2 < 0
   case' pos =>
    refine Zs (by simpa using hg) ?_;dsimp only [go_sem];refine ixa 2 rfl (by decide) ?_;dsimp only [go_sem]
   case' neg =>
    refine Zo (by simpa using hg) ?_;dsimp only [go_sem]
   all_goals
    refine Zs rfl ?_;dsimp only [go_sem];refine ixa 1 rfl (by decide) ?_;dsimp only [go_sem];by_cases hf:f1 < 0
    . refine Zs (by simpa using hf) ?_;dsimp only [go_sem];refine ixa 1 rfl (by decide) ?_;dsimp only [go_sem];refine Zo rfl ?_;dsimp only [go_sem];refine ⟨_,rfl,?_⟩;simp only [hf,hg,and_true,and_false,if_true,if_false,if_pos,show (1:Int)<=2 from by decide];(refine Zw ?_ ?_ ?_ rfl<;>dsimp only [Zq,XS,id,go_sem]<;>simp [Zq,XS,Za])
    . refine Zo (by simpa using hf) ?_;dsimp only [go_sem];refine Zo rfl ?_;dsimp only [go_sem];refine ⟨_,rfl,?_⟩;simp only [hf,hg,and_true,and_false,if_true,if_false,if_pos,show (1:Int)<=2 from by decide];(refine Zw ?_ ?_ ?_ rfl<;>dsimp only [Zq,XS,id,go_sem]<;>simp [Zq,XS,Za])
theorem near0:Zgn (AX 0 0 0 0) 30 0 10=0:=by decide +kernel
theorem near1:Zgn (AX 20 (-10) 0 0) 30 0 10=1:=by decide +kernel
theorem near2:Zgn (AX 40 (-20) 0 0) 30 0 10=2:=by decide +kernel
theorem near3:Zgn (AX 60 (-30) 0 0) 30 0 10=1:=by decide +kernel
theorem mov0 (k:Bool):Cp 116 [.sl k 3 ((AX 0 0 0 0).map Zq),.agg (Xm T0)] (.tup [.sl false 3 ((AX 20 (-10) 0 0).map Zq),B true]):=UJ 0 0 0 0 k
theorem mov1 (k:Bool):Cp 116 [.sl k 3 ((AX 20 (-10) 0 0).map Zq),.agg (Xm T0)] (.tup [.sl false 3 ((AX 40 (-20) 0 0).map Zq),B true]):=UJ 20 (-10) 0 0 k
theorem mov2 (k:Bool):Cp 116 [.sl k 3 ((AX 40 (-20) 0 0).map Zq),.agg (Xm T0)] (.tup [.sl false 3 ((AX 60 (-30) 0 0).map Zq),B true]):=UJ 40 (-20) 0 0 k
theorem ZoC:Cp 59 [AL true A0,.sl true 6 ([T0,T0,T0].map Xm),I 30,I 0,I 10] (.tup [I 1,I 2,I 0]):=by
 refine t59.1 (by simp [AL,A0,Zq,KFR,Xm,T0]) (by simp) ?_;dsimp only [c59,r59,AL,go_sem];refine call Zqd ?_;dsimp only [go_sem];refine Zo rfl ?_;dsimp only [go_sem];refine Zo rfl ?_;dsimp only [go_sem];refine call (ZjN [T0,T0,T0] (by simp) true) ?_;dsimp only [go_sem];rw [show [T0,T0,T0].all Zdk=true from rfl];refine Zo rfl ?_;dsimp only [go_sem];refine ZA [4,1,2,3,5] (ZdJ (AX 0 0 0 0) true 0 (-1) (-1) 0 (by decide) (by decide) near0 (.inl rfl)) rfl rfl rfl ?_ ?_ ?_
 . (repeat first | dsimp only [go_sem] | simp only [nbr])
   try simp [mtL,mtB,mtS]
 . (repeat first | dsimp only [XS,go_sem] | simp only [nbr])
   try simp [mtL,mtB,mtS,Zc,KFL,KF,KFR,Za,Zq,A0,AX]
 rintro _ rfl
 (repeat first | dsimp only [XS,go_sem] | simp only [nbr])
 simp only [show ((0:Int)=2)=False from by simp,false_and,if_false,show ¬ ((1:Int)<=0) from by decide];try dsimp only [go_sem]
 refine ZX 4 ?_;dsimp only [Zb,go_sem];refine Zs rfl ?_;dsimp only [go_sem];refine Zn 0 (by decide) rfl ?_;dsimp only [go_sem];refine call (mov0 true) ?_;dsimp only [go_sem];refine Zo rfl ?_;dsimp only [go_sem];rw [show IntKind.i64.wrap ((0:Int)+1)=1 from rfl];refine ZA [4,1,2,3,5] (ZdJ (AX 20 (-10) 0 0) false 1 (-1) (-1) 1 (by decide) (by decide) near1 (.inr (.inl rfl))) rfl rfl rfl ?_ ?_ ?_
 . (repeat first | dsimp only [go_sem] | simp only [nbr])
   try simp [mtL,mtB,mtS]
 . (repeat first | dsimp only [XS,go_sem] | simp only [nbr])
   try simp [mtL,mtB,mtS,Zc,KFL,KF,KFR,Za,Zq,A0,AX]
 rintro _ rfl
 (repeat first | dsimp only [XS,go_sem] | simp only [nbr])
 try simp only [show ¬ ((1:Int)=2) from by decide,show ((1:Int)<=1) from by decide,show ((1:Int)<=2) from by decide,show ((-1:Int) < 0) from by decide,show ¬ ((1:Int) < 0) from by decide,show ¬ ((2:Int) < 0) from by decide,true_and,false_and,and_false,if_true,if_false]
 try dsimp only [go_sem]
 refine Zs rfl ?_;dsimp only [go_sem];refine Zn 1 (by decide) rfl ?_;dsimp only [go_sem];refine call (mov1 false) ?_;dsimp only [go_sem];refine Zo rfl ?_;dsimp only [go_sem];rw [show IntKind.i64.wrap (IntKind.i64.wrap ((0:Int)+1)+1)=2 from rfl];refine ZA [4,1,2,3,5] (ZdJ (AX 40 (-20) 0 0) false 2 1 (-1) 2 (by decide) (by decide) near2 (.inr (.inr rfl))) rfl rfl rfl ?_ ?_ ?_
 . (repeat first | dsimp only [go_sem] | simp only [nbr])
   try simp [mtL,mtB,mtS]
 . (repeat first | dsimp only [XS,go_sem] | simp only [nbr])
   try simp [mtL,mtB,mtS,Zc,KFL,KF,KFR,Za,Zq,A0,AX]
 rintro _ rfl
 (repeat first | dsimp only [XS,go_sem] | simp only [nbr])
 try simp only [show ¬ ((1:Int)=2) from by decide,show ((1:Int)<=1) from by decide,show ((1:Int)<=2) from by decide,show ((-1:Int) < 0) from by decide,show ¬ ((1:Int) < 0) from by decide,show ¬ ((2:Int) < 0) from by decide,true_and,false_and,and_false,if_true,if_false]
 try dsimp only [go_sem]
 refine Zs rfl ?_;dsimp only [go_sem];refine Zn 2 (by decide) rfl ?_;dsimp only [go_sem];refine call (mov2 false) ?_;dsimp only [go_sem];refine Zo rfl ?_;dsimp only [go_sem];rw [show IntKind.i64.wrap (IntKind.i64.wrap (IntKind.i64.wrap ((0:Int)+1)+1)+1)=3 from rfl];refine ZA [4,1,2,3,5] (ZdJ (AX 60 (-30) 0 0) false 3 1 2 1 (by decide) (by decide) near3 (.inr (.inl rfl))) rfl rfl rfl ?_ ?_ ?_
 . (repeat first | dsimp only [go_sem] | simp only [nbr])
   try simp [mtL,mtB,mtS]
 . (repeat first | dsimp only [XS,go_sem] | simp only [nbr])
   try simp [mtL,mtB,mtS,Zc,KFL,KF,KFR,Za,Zq,A0,AX]
 rintro _ rfl
 (repeat first | dsimp only [XS,go_sem] | simp only [nbr])
 try simp only [show ¬ ((1:Int)=2) from by decide,show ((1:Int)<=1) from by decide,show ((1:Int)<=2) from by decide,show ((-1:Int) < 0) from by decide,show ¬ ((1:Int) < 0) from by decide,show ¬ ((2:Int) < 0) from by decide,true_and,false_and,and_false,if_true,if_false]
 try dsimp only [go_sem]
 refine Zo rfl ?_;dsimp only [go_sem];refine ixa 1 rfl (by decide) ?_;dsimp only [go_sem];refine ixa 2 rfl (by decide) ?_;dsimp only [go_sem]
def c120:SC:=(sr1 [o1 3 (Jz 0 0 29),o1 4 (Jz 1 0 31),o1 5 (Jz 2 0 235),o1 6 (.alloc zv0 27),Jk 7 0] (.seq (sr1 [o1 13 (lt 3 17),o1 14 (lt 4 7),o1 15 (lt 5 8),o1 16 (.bsl 8 235 [.t 15]),o1 17 (J3 194 13 14 16),m1 8 17] (sr1 [m1 18 8,o1 19 (Jc .neq 18
 0)] (Ji 19 (sr1 [o1 20 (.build zv0 []),m1 21 8,Js 6 20 2,m1 7 21] .ret) .skip))) (sr1 [o1 9 (.alloc zv0 27)] (sr1 [o1 10 (.alloc [.bool false] 4),Jv 10 Jt 1] (.seq (.seq (.regd (Jr 7) [Jo 22 (lt 3 17),Jo 23 (lt 4 7),Jp 24 (.build zv1 [(0,17,.t
 22),(17,7,.t 23)]) [0,1],Jo 25 (lt 5 8),Jp 26 (.bsl 8 235 [.t 25]) [3],Jp 27 (.call 196 [.t 26,cn 60]) [4]] 0 0 [⟨some 28,.callm 195 [.t 24,.t 27],none,[2,5]⟩]) (.block 0 (.gh (.rfun (.t 28) [29,30] (.reg [m1 12 30]) (.block 1 (.seq (sr1 [m1 31 12,o1
 32 (.bin .eql (.t 31) (.c (.int .u8 2)))] (Ji 32 (.exit 0) .skip)) (sr1 [o1 33 (ao 9 1),o1 34 (lf 33 1),o1 35 (Jc .add 34 1),o1 36 (ao 9 1),Js 36 35 1] (sr1 [o1 37 (lf 10 1),m1 38 37,g1 39 38 true (.mv (.t 12)),g1 40 38 true (.bin .eql (.t 39) (.c
 (.int .u8 0))),o1 41 (.pick (.t 38) (.t 40) Jf),Js 10 41 1] (sr1 [o1 42 (lf 10 1)] (Ji 42 (.reg [o1 43 (ao 9 0),o1 44 (lf 43 1),o1 45 (Jc .add 44 1),o1 46 (ao 9 0),Js 46 45 1]) .skip)))))))))) (sr1 [o1 47 (lt 9 2),Js 6 47 2,Jk 7 0] .ret))))))
def r120:List RV:=[.cell 6 2 true,.tmp 7]
theorem t120:Qt1 Tryz.prog 120 c120 r120 48:=ZF Tryz.func120
def c121:SC:=(sr1 [o1 3 (Jz 0 0 29),o1 4 (Jz 1 0 31),o1 6 (.alloc [.slice none 0 0] 236),o1 7 (.alloc [.int .u8 0] 5),o1 8 (.alloc [.int .i64 0] 3),o1 9 (.alloc [.int .i64 0] 40)] (.seq (sr1 [o1 13 (lt 3 17),o1 14 (lt 4 7),m1 15 2,o1 16 (J3 194 13 14
 15),m1 10 16] (sr1 [m1 17 10,o1 18 (Jc .neq 17 0)] (Ji 18 (sr1 [m1 19 10,Jv 6 (.c (.slice none 0 0)) 1,Jv 7 (.c (.int .u8 0)) 1,Jv 8 (cn 0) 1,Js 9 19 1] .ret) .skip))) (.seq (sr1 [o1 20 (lt 3 17),o1 21 (lt 4 7),o1 22 (.build zv1 [(0,17,.t
 20),(17,7,.t 21)]),m1 23 2,o1 24 (.callm 195 [.t 22,.t 23])] (.block 0 (.gh (.rfun (.t 24) [25,26] (sr1 [o1 11 (.alloc zv1 174),Js 11 25 24] (.reg [m1 12 26])) (.block 1 (.seq (sr1 [m1 27 12,o1 28 (.bin .eql (.t 27) (.c (.int .u8 2)))] (Ji 28 (sr1
 [m1 29 12,o1 30 (lf 6 1),o1 31 (Jl 30),Jv 6 (.c (.slice none 0 0)) 1,Js 7 29 1,Js 8 31 1,Jv 9 (cn 13) 1] .ret) .skip)) (.regd [0,1,2,3,5,6,7,4,8,9] [Jo 32 (lf 6 1),Jo 33 (ao 11 17),Jp 34 (lt 33 7) [1],Jp 35 (.bsl 7 31 [.t 34]) [2],.hide (.t 32),.hide
 (.t 6),Jo 37 (lf 7 1),Jm 38 12,Jp 39 (.mm true [.t 37,.t 38]) [5,6]] 0 3 [⟨some 36,.appm 7 56 31 (.t 32) (.t 35),none,[0,3]⟩,Ju 6 36 1 (Jr 5),Ju 7 39 1 (Jr 9)]))))))) (.seq (.regd (Jr 6) [Jo 40 (lf 6 1),.hide (.t 6),Jo 41 (lf 7 1)] 0 4 [Ju 6 40 1
 [0],Ju 7 41 1 [0,1,2],⟨none,.st (.t 8) (cn 0) 1,none,(Jr 4)⟩,⟨none,.st (.t 9) (cn 0) 1,none,(Jr 5)⟩]) .ret))))
def r121:List RV:=[.cell 6 1 false,.cell 7 1 false,.cell 8 1 false,.cell 9 1 false]
theorem t121:Qt1 Tryz.prog 121 c121 r121 42:=ZF Tryz.func121
def c194:SC:=(sr1 [o1 3 (Jz 0 0 29),o1 4 (Jz 1 0 31),Jk 6 0] (.seq (sr1 [o1 8 (lt 3 17),o1 9 (lt 4 7),o1 10 (J2 79 8 9),m1 7 10] (sr1 [m1 11 7,o1 12 (Jc .neq 11 0)] (Ji 12 (sr1 [m1 13 7,m1 6 13] .ret) .skip))) (.seq (sr1 [m1 14 2,o1 15 (Jl 14),o1 16
 (Jc .gtr 15 60)] (Ji 16 (sr1 [Jk 6 4] .ret) .skip)) (sr1 [m1 17 2,o1 18 (J1 259 17),m1 6 18] .ret))))
def r194:List RV:=[.tmp 6]
theorem t194:Qt1 Tryz.prog 194 c194 r194 19:=ZF Tryz.func194
def c195:SC:=(sr1 [o1 2 (Jz 0 0 174),o1 3 (Jz 1 0 239),o1 4 (.mv (.c (.nilFunc)))] (sr1 [o1 5 (.mkf 260 [.t 3,.t 2]),m1 4 5] .ret))
def r195:List RV:=[.tmp 4]
theorem n195:Tryz.f195.ntmps=6:=by kernel_rfl
theorem b195:Z4 Tryz.prog 195=true:=by kernel_rfl
theorem ZzV:YR Tryz.prog c195 ((Tryz.f195.body).getD .skip)=true:=by kernel_rfl
theorem ZzC:Y2 Tryz.prog r195 Tryz.f195.results.toList=true:=by kernel_rfl
theorem m195 {n0:Nat} {hp0:Lh} {args:Ls} {Zz:Ot->Prop} (hh:hpb n0 hp0) (hx:∀ o,Zz o->KX o.res/\KXP o.hp) (h:sx Tryz.prog Y0 n0 c195 ⟨YT 0 args,hp0,n0,6,[]⟩ (X0 r195 λo=>∃ o',Zz o'/\WI n0 o o')) (hA:Nat.ble args.length 6=true:=by rfl):Cq 195 hp0 n0 args Zz:=ZB Tryz.func195 rfl b195 ZzV ZzC n195 (Nat.le_of_ble_eq_true hA) hh hx h
def ZEr:SC:=(sr1 [o1 8 (lf 1 1),o1 9 (Jl 8),Jk 10 0] (.block 0 (.loop (sr1 [o1 11 (Jb .lss 10 9)] (.seq (Ji 11 .skip (.exit 0)) (.seq (.block 1 (sr1 [o1 12 (Jx 8 10 8),o1 13 (lt 12 8),o1 5 (.alloc zv7 235),Js 5 13 8] (sr1 [o1 15 (lt 2 24),o1 16 (lt 5
 8),o1 17 (J2 261 15 16),m1 14 17,o1 18 (Je 14 0),o1 19 (Je 14 1),o1 6 (.alloc zv1 174),Js 6 18 24,m1 7 19] (.seq (sr1 [m1 20 0,o1 21 (lt 6 24),m1 22 7,o1 23 (.calvm (.t 20) [.t 21,.t 22]),o1 24 (Jh 23),m1 25 24,g1 26 25 false (.mv (.t 7)),g1 27 25
 false (.bin .eql (.t 26) (.c (.int .u8 2))),o1 28 (.pick (.t 25) Jt (.t 27))] (Ji 28 .ret .skip)) (.reg [o1 29 (lt 6 24),Js 2 29 24]))))) (.reg [o1 30 (Jc .add 10 1),m1 10 30])))))))
def ZD1:List RV:=[]
theorem n260:Tryz.f260.ntmps=31:=by kernel_rfl
theorem b260:Z4 Tryz.prog 260=true:=by kernel_rfl
theorem Zxa:YR Tryz.prog ZEr ((Tryz.f260.body).getD .skip)=true:=by kernel_rfl
theorem Zx0:Y2 Tryz.prog ZD1 Tryz.f260.results.toList=true:=by kernel_rfl
theorem y260 {Y:Hd} {n0:Nat} {hp0:Lh} {args:Ls} {Zz:Ot->Prop} (h:sx Tryz.prog Y n0 ZEr ⟨YT 0 args,hp0,n0,31,[]⟩ (X0 ZD1 Zz)) (hA:Nat.ble args.length 31=true:=by rfl):CtY Tryz.prog Y 260 hp0 n0 args Zz:=WR Tryz.func260 rfl Zxa Zx0 n260 (Nat.le_of_ble_eq_true hA) h
def c196:SC:=(sr1 [o1 4 (.mv (.c (.slice none 0 0)))] (.seq (sr1 [m1 9 1,o1 10 (Jc .lss 9 0)] (Ji 10 (.reg [o1 11 (.raw (Go.Op.makeInterface 9 (Go.Operand.const (Go.Value.string { data:=#[99,97,110,110,111,116,32,98,101,32,110,101,103,97,116,105,118,101] })))
 20),⟨none,.raw (Go.Op.panic (Go.Operand.tmp 11)) 0,none,[]⟩]) .skip)) (sr1 [m1 13 0,o1 14 (Jl 13),o1 15 (.conv .u64 (.t 14)),m1 16 1,o1 17 (.conv .u64 (.t 16)),o1 18 (J2 262 15 17),m1 12 18,o1 19 (Je 12 0),o1 20 (Je 12 1),m1 5 19,m1 6 20] (.seq (sr1
 [m1 21 5,o1 22 (.bin .gtr (.t 21) (.c (.int .u64 0))),m1 23 22,g1 24 23 false (.mv (.t 6)),g1 25 23 false (.bin .gtr (.t 24) (.c (.int .u64 9223372036854775807))),o1 26 (.pick (.t 23) Jt (.t 25))] (Ji 26 (.reg [o1 27 (.raw (Go.Op.makeInterface 9
 (Go.Operand.const (Go.Value.string { data:=#[116,104,101,32,114,101,115,117,108,116,32,111,102,32,40,108,101,110,40,120,41,32,42,32,99,111,117,110,116,41,32,111,118,101,114,102,108,111,119,115] }))) 20),⟨none,.raw (Go.Op.panic (Go.Operand.tmp 27))
 0,none,[]⟩]) .skip)) (sr1 [m1 28 6,o1 29 (.conv .i64 (.t 28)),o1 30 (.mks 8 64 zv7 235 (.t 29)),m1 7 30] (sr1 [m1 31 7,m1 32 0,o1 33 (.cpy 8 (.t 31) (.t 32)),m1 8 33] (.seq (.block 0 (.loop (.seq (sr1 [m1 34 8,m1 35 7,o1 36 (Jl 35),o1 37 (Jb .lss 34
 36)] (Ji 37 .skip (.exit 0))) (.block 1 (.regd [1,2,3,4,5,6,0,7,8,9] [Jm 39 7,Jm 40 8,Jp 41 (.sub 8 (.t 39) (some (.t 40)) none) [1,2],Jm 42 7,Jm 43 8,Jp 44 (.sub 8 (.t 42) none (some (.t 43))) [4,5],.hide (.t 41),Jm 38 8] 0 1 [⟨some 45,.cpy 8 (.t
 41) (.t 44),none,[3,6]⟩,⟨some 46,Jb .add 38 45,none,[0,7]⟩,⟨some 8,.mv (.t 46),none,(Jr 9)⟩]))))) (sr1 [m1 47 7,m1 4 47] .ret))))))))
def r196:List RV:=[.tmp 4]
theorem t196:Qt1 Tryz.prog 196 c196 r196 48:=ZF Tryz.func196
end Go.Proofs.YtongccnhomncnaaGreatDoor
namespace Go.Proofs.YtongccnhomncnaaGreatDoor.Cm
open Go Go.Sx Go.Azalai
theorem WH (b:Breed) (c:Camel) (l:List March) (hl:l.length < 4611686018427387904) (k:Bool):Cp 194 [.agg (breedL b),.agg (camelL c),.sl k 8 (l.map marchL)] (I (Zji b c l)):=by
 refine t194.1 (by simp [breedL,camelL,marchL,Za]) (by simp) ?_;dsimp only [c194,r194,breedL,camelL,go_sem];refine call (checkCamel_ok b c) ?_;dsimp only [go_sem];by_cases h0:Uz b c=0
 case neg =>
  refine Zs (by simpa using h0) ?_;dsimp only [go_sem];simp [Zji,h0]
 refine Zo (by simpa using h0) ?_;dsimp only [go_sem];simp only [List.length_map];by_cases h1:l.length > 60
 case pos =>
  refine Zs (by simp;omega) ?_;dsimp only [go_sem];simp [Zji,h0,h1]
 refine Zo (by simp;omega) ?_;dsimp only [go_sem];refine call (ZaO l hl k) ?_;dsimp only [go_sem];simp only [Zji,h0,h1];by_cases h2:l.all Ya=true
 . simp [h2]
 . simp [h2]
def Zj2 (b:Breed) (c:Camel) (l:List March) (k:Bool):Ot:=⟨false,.cl 260 [.p 1 0,.p 0 0],[(1,.cells [.sl k 8 (l.map marchL)] 239),(0,.cells (ZG b c) 174)],2⟩
theorem Zl9 (b:Breed) (c:Camel) (l:List March) (k:Bool):Cq 195 [] 0 [.agg (ZG b c),.sl k 8 (l.map marchL)] (λo=>o=Zj2 b c l k):=by
 refine m195 (by simp [hpb]) (λo ho=>by subst ho;simp [Zj2,KX,KXL,KXP,KXH,Za,KFL,KF,marchL,ZG]) ?_;dsimp only [c195,r195,ZG,go_sem];refine ⟨_,rfl,?_⟩;simp only [Zj2];(refine Zw ?_ ?_ ?_ rfl<;>dsimp only [ZG,marchL,id,go_sem]<;>simp [ZG,marchL,Za])
theorem days_ok (b:Breed) (c:Camel) (l:List March) (k:Bool) (hl0:l.length < 4611686018427387904):Cp 121 [.agg (breedL b),.agg (camelL c),.sl k 8 (l.map marchL)] (.tup [Zms (UD b c l).2.2.2 (UD b c l).1,U8 (UD b c l).2.1,I (UD b c l).2.2.1,I (UD b c l).2.2.2]):=by
 refine t121.1 (by simp [breedL,camelL,marchL,Za]) (by unfold Zms;split<;>simp [KFL,KF,Za,camelL,U8]) ?_;dsimp only [c121,r121,breedL,camelL,go_sem];refine call (WH b c l hl0 k) ?_;dsimp only [go_sem];by_cases h0:Zji b c l=0
 case neg =>
  refine Zs (by simpa using h0) ?_;dsimp only [go_sem];simp [UD,h0,Zms,U8]
 refine Zo (by simpa using h0) ?_;dsimp only [go_sem];obtain ⟨hb,hc,h60,hl⟩:=ZuG h0;have hall:=List.all_eq_true.1 hl;have hbd:=breed_bd hb;have hF:UD b c l=ZfU b c [] 0 l:=by simp [UD,h0]
 rw [hF];refine ZaI [] (Zl9 b c l k) rfl rfl rfl ?_ ?_ ?_
 . exact Zc (by simp [breedL,camelL,ZG,marchL,Za])
 . trivial
 dsimp only [Zj2,ZG,go_sem];refine gh (XE 2 0 7 31 rfl rfl) ?_;dsimp only [go_sem];refine ⟨b260,λrec=>?_⟩;refine y260 ?_;dsimp only [ZEr,ZD1,go_sem];refine Ym (λs:Nat × Nat × Camel × List Camel × Int=>[(10,I s.1)]) (λs=>[(6,.cells (ZG b s.2.2.1) 174),(2,.cells [.mr 8 s.2.1] 236),(3,.cells [U8 s.2.2.2.2] 5),(8,.row s.2.1 7 (s.2.2.2.1.map camelL) 31)])
  (λs=>s.1<=l.length/\ZE b s.2.2.1=true/\s.2.2.2.1.length=s.1/\(0<=s.2.2.2.2/\s.2.2.2.2<=2)/\ZfU b s.2.2.1 s.2.2.2.1 s.2.2.2.2 (l.drop s.1)=ZfU b c [] 0 l) (λs=>l.length - s.1) (0,0,c,[],0) ⟨Nat.zero_le _,hc,rfl,⟨Int.le_refl _,by simp⟩,rfl⟩ ?_ ?_
 . (refine Zj ?_ ?_ ?_ rfl rfl<;>dsimp only [breedL,camelL,marchL,ZG,U8,id,go_sem]<;>simp [breedL,camelL,marchL,ZG,U8,Za])
 rintro ⟨j,v,c1,out,worst⟩ ⟨hj,hc1,ho,hw,hi⟩;simp only at hj hc1 ho hw hi;dsimp only [ZG,U8,go_sem];simp only [List.length_map];by_cases hlt:j < l.length
 . refine Zs (by simpa using hlt) ?_;dsimp only [go_sem];rw [List.drop_eq_getElem_cons hlt,ZfU] at hi;have hm:=hall l[j] (List.getElem_mem _);refine Zn j hlt rfl ?_;dsimp only [marchL,go_sem];by_cases hf2:(ZS b c1 l[j]).2=2
   . refine call (ZdC b c1 l[j] hb hc1 hm hf2) ?_;dsimp only [ZG,Xq,go_sem];refine ⟨rfl,rfl,?_⟩;refine Zs (by decide) ?_;dsimp only [go_sem];simp only [nbr];dsimp only [go_sem];refine ⟨rfl,?_⟩;refine gb ?_;dsimp only [go_sem];refine gb ?_;dsimp only [go_sem];refine Zs (by decide) ?_;dsimp only [go_sem];rw [if_pos hf2] at hi;rw [<- hi];simp [Zms]
   refine call (Zlk b c1 l[j] hb hc1 hm hf2) ?_;dsimp only [ZG,go_sem];refine ⟨rfl,rfl,?_⟩;refine Zo (by simpa using hf2) ?_;dsimp only [go_sem];simp only [nbr];dsimp only [go_sem];refine ⟨(by intro c hc;simp only [List.mem_singleton] at hc;subst hc;rfl),by simp;omega,?_⟩;dsimp only [go_sem];refine ⟨rfl,?_⟩;refine gb ?_;dsimp only [go_sem];refine gb ?_;dsimp only [go_sem];refine Zo (by simpa using hf2) ?_
   dsimp only [go_sem];rw [if_neg (by simpa using hf2)] at hi;have hfr:0<=(ZS b c1 l[j]).2/\(ZS b c1 l[j]).2<=2:=by
    unfold ZS;simp only;split
    . simp
    . simp only;split<;>simp
   rw [Zf (n:=(j:Int)+1) (by omega) (by omega)];refine ⟨(j+1,v+1,(ZS b c1 l[j]).1,out ++ [(ZS b c1 l[j]).1],max worst (ZS b c1 l[j]).2),⟨hlt,after_ok hb hc1 hm hf2,by simp [ho],(by simp only;omega),hi⟩,by simp only;omega,?_⟩;(refine Zj ?_ ?_ ?_ rfl rfl<;>dsimp only [breedL,camelL,marchL,ZG,U8,id,go_sem]<;>simp [breedL,camelL,marchL,ZG,U8,Za])
 refine Zo (by simp;omega) ?_;dsimp only [go_sem];have hje:j=l.length:=by omega
 subst hje;rw [List.drop_length,ZfU] at hi;simp only [nbr];rw [<- hi];simp [Zms,vwN]
end Go.Proofs.YtongccnhomncnaaGreatDoor.Cm
namespace Go.Sx
open Go
end Go.Sx
namespace Go.Proofs.YtongccnhomncnaaGreatDoor.Cm
open Go Go.Sx Go.Azalai
def U64 (n:Int):SV:=.v (.int .u64 n)
theorem uw {n:Int} (h0:0<=n) (h1:n < 18446744073709551616):IntKind.u64.wrap n=n:=by
 have e:n % 2 ^ IntKind.u64.bits=n:=Int.emod_eq_of_lt h0 (by show n < 2 ^ 64;omega);simp only [IntKind.wrap,e,show IntKind.u64.signed=false from rfl,Bool.false_and];rfl
theorem Zds (n:Int) (h0:0<=n) (h1:n<=1000000):Cp 288 [U64 1,U64 n] (.tup [U64 0,U64 n]):=by
 refine t288.1 (by simp [U64]) (by simp [U64]) ?_;dsimp only [c288,r288,U64,go_sem];have sh:∀ (m:Int),0<=m->m < 4294967296->∀ w:World,(binOp .shr 257 (.int .u64 m) (.int .u64 32)).run Tryz.prog w = .ok (.int .u64 0) w:=λm q0 q1 w=>by
  simp only [binOp,Op.shift];rw [if_neg (by decide)];have:m.fdiv (2 ^ 32)=0:=by rw [Int.fdiv_eq_ediv_of_nonneg _ (by decide)];omega
  show Result.ok (Value.int .u64 (m.fdiv (2 ^ (min (32:Int).toNat IntKind.u64.bits)))) w=_;rw [show min (32:Int).toNat IntKind.u64.bits=32 from by decide,this]
 have an:∀ (m:Int),0<=m->m < 4294967296->∀ w:World,(binOp .and 257 (.int .u64 m) (.int .u64 4294967295)).run Tryz.prog w = .ok (.int .u64 m) w:=λm q0 q1 w=>by
  obtain ⟨k,rfl⟩:=Int.eq_ofNat_of_zero_le q0;have hk:k < 4294967296:=by omega
  have e:(BitVec.ofInt 64 (k:Int) &&& BitVec.ofInt 64 4294967295).toNat=k:=by
   rw [BitVec.toNat_and,show (BitVec.ofInt 64 4294967295).toNat=2 ^ 32 - 1 from by decide,Nat.and_two_pow_sub_one_eq_mod,BitVec.ofInt_natCast,BitVec.toNat_ofNat];omega
  show Result.ok (Value.int .u64 (IntKind.u64.wrap (((BitVec.ofInt 64 (k:Int) &&& BitVec.ofInt 64 4294967295).toNat:Nat):Int))) w=_;rw [e,uw (by omega) (by omega)]
 refine YZ rfl (.inl rfl) (an 1 (by omega) (by omega)) rfl ?_;dsimp only [go_sem];refine YZ rfl (.inr rfl) (sh 1 (by omega) (by omega)) rfl ?_;dsimp only [go_sem];refine YZ rfl (.inl rfl) (an n (by omega) (by omega)) rfl ?_;dsimp only [go_sem];refine YZ rfl (.inr rfl) (sh n (by omega) (by omega)) rfl ?_;dsimp only [go_sem];simp (disch:=omega) only [uw,Int.one_mul,Int.zero_mul,Int.mul_zero,Int.add_zero,Int.zero_add]
 refine YZ rfl (.inr rfl) (sh n (by omega) (by omega)) rfl ?_;dsimp only [go_sem];simp (disch:=omega) only [uw,Int.one_mul,Int.zero_mul,Int.mul_zero,Int.add_zero,Int.zero_add];refine YZ rfl (.inl rfl) (an 0 (by omega) (by omega)) rfl ?_;dsimp only [go_sem];refine YZ rfl (.inr rfl) (sh 0 (by omega) (by omega)) rfl ?_;dsimp only [go_sem];simp (disch:=omega) only [uw,Int.one_mul,Int.zero_mul,Int.mul_zero,Int.add_zero,Int.zero_add]
 refine YZ rfl (.inr rfl) (sh 0 (by omega) (by omega)) rfl ?_;dsimp only [go_sem];simp (disch:=omega) only [uw,Int.one_mul,Int.zero_mul,Int.mul_zero,Int.add_zero,Int.zero_add]
theorem ZkJ (n:Int) (h0:0<=n) (h1:n<=1000000):Cp 262 [U64 1,U64 n] (.tup [U64 0,U64 n]):=by
 refine t262.1 (by simp [U64]) (by simp [U64]) ?_;dsimp only [c262,r262,U64,go_sem];refine Zo (by decide) ?_;dsimp only [go_sem];refine call (Zds n h0 h1) ?_;dsimp only [U64,go_sem]
theorem XP {r:Ls} (h:KFL r):∀ n,KFR (List.replicate n r)
 | 0=>trivial
 | n+1=>⟨h,XP h n⟩
theorem ZDJ (m:March) (n:Nat) (h0:1<=n) (h1:n<=1000) (k:Bool):Cp 196 [.sl k 8 [marchL m],I n] (.sl false 8 (List.replicate n (marchL m))):=by
 have hm:KFL (marchL m):=by simp [marchL]
 have hone:Yu (marchL m)=true:=rfl;refine t196.1 (by simp [marchL,KFR]) (by simp only [KF];exact XP hm n) ?_;generalize marchL m=row at hm hone;dsimp only [c196,r196,go_sem];refine Zo (by simp) ?_;dsimp only [go_sem];rw [show ((1:Nat):Int)=1 from rfl];simp (disch:=omega) only [uw];refine call (ZkJ n (by omega) (by omega)) ?_;dsimp only [U64,go_sem];refine gb ?_;dsimp only [go_sem];refine gb ?_;dsimp only [go_sem]
 refine Zo (by simp;omega) ?_;dsimp only [go_sem];refine ⟨n,Zf (by omega) (by omega),by omega,?_⟩;have hz:KFL [SV.v (Value.int IntKind.i64 0),SV.v (Value.int IntKind.i64 0),SV.v (Value.int IntKind.i64 0),SV.v (Value.int IntKind.i64 0),SV.v (Value.int IntKind.i64 0),SV.v (Value.int IntKind.i64 0),SV.v (Value.int IntKind.i64 0),SV.v (Value.int IntKind.i64 0)]:=by simp
 generalize [SV.v (Value.int IntKind.i64 0),SV.v (Value.int IntKind.i64 0),SV.v (Value.int IntKind.i64 0),SV.v (Value.int IntKind.i64 0),SV.v (Value.int IntKind.i64 0),SV.v (Value.int IntKind.i64 0),SV.v (Value.int IntKind.i64 0),SV.v (Value.int IntKind.i64 0)]=z at hz;dsimp only [go_sem];refine ⟨(by intro c hc;simp only [List.mem_singleton] at hc;subst hc;exact hone),by simp,?_⟩;have hmin:min n 1=1:=by omega
 simp only [List.length_replicate,List.length_singleton,hmin,List.drop_replicate];dsimp only [go_sem];refine Ym (λj:Nat=>[(8,I j)]) (λj=>[(0,.row 0 8 (List.replicate j row ++ List.replicate (n - j) z) 235)]) (λj=>1<=j/\j<=n) (λj=>n - j) 1 ⟨Nat.le_refl _,h0⟩ ?_ ?_
 . refine Zj ?_ ?_ ?_ rfl rfl<;>dsimp only [id,go_sem]<;>simp [Zd,XP,hz,hm,Zc,mtO,nbr,KFR,KFL,KF]
 rintro j ⟨hj0,hj⟩;dsimp only [go_sem];simp only [List.length_append,List.length_replicate,show j+(n - j)=n from by omega];by_cases hlt:j < n
 . refine Zs (by simpa using hlt) ?_;dsimp only [go_sem];refine ⟨j,n,⟨rfl,by simp;omega,by omega,by simp;omega⟩,?_⟩;dsimp only [go_sem];refine ⟨0,j,⟨rfl,rfl,by omega,by simp⟩,?_⟩;dsimp only [go_sem];have hx:List.take (j - 0) (List.replicate j row ++ List.replicate (n - j) z)=List.replicate j row:=by rw [Nat.sub_zero];exact List.take_left' (by simp)
   have hx':List.take j (List.replicate j row ++ List.replicate (n - j) z)=List.replicate j row:=List.take_left' (by simp);rw [hx];refine ⟨by simp,(by intro c hc;rw [List.eq_of_mem_replicate hc];exact hone),by simp,?_⟩;simp only [List.length_replicate];generalize hN:min (n - j) j=N;have e:List.take j (List.replicate j row ++ List.replicate (n - j) z) ++ (List.take N (List.replicate j row) ++ List.drop (j+N) (List.replicate j row ++ List.replicate (n - j) z))=List.replicate (j+N) row ++ List.replicate (n - (j+N)) z:=by
    rw [hx',List.take_replicate,List.drop_append,List.drop_of_length_le (l:=List.replicate j row) (by simp),List.length_replicate,List.nil_append,List.drop_replicate,<- List.append_assoc,List.replicate_append_replicate,show min N j=N from by omega];congr 2;omega
   rw [e];dsimp only [go_sem];rw [show (j:Int)+(N:Int)=((j+N:Nat):Int) from by omega,Zf (n:=((j+N:Nat):Int)) (by omega) (by omega)];refine ⟨j+N,⟨by omega,by omega⟩,by omega,?_⟩;refine Zj ?_ ?_ ?_ rfl rfl<;>dsimp only [id,go_sem]<;>simp [Zd,XP,hz,hm,Zc,mtO,nbr,KFR,KFL,KF]
 refine Zo (by simp;omega) ?_;dsimp only [go_sem];have hje:j=n:=by omega
 subst hje;simp
end Go.Proofs.YtongccnhomncnaaGreatDoor.Cm
namespace Go.Azalai
def Zb8 (b:Breed) (m:March):Nat->Camel->Int->Int->Bool->Span
 | 0,_,lo,hi,_=>⟨lo,hi⟩
 | k+1,c,lo,hi,s =>
  if (ZS b c m).2=2 then ⟨lo,hi⟩
  else Zb8 b m k (ZS b c m).1 (if (s && decide ((ZS b c m).2=0))=true then lo+1 else lo) (hi+1) (s && decide ((ZS b c m).2=0))
def ZeR (b:Breed) (c:Camel) (m:March):Span × Int:=if Zji b c [m]≠0 then (⟨0,0⟩,Zji b c [m]) else (Zb8 b m 60 c 0 0 true,0)
end Go.Azalai
namespace Go.Proofs.YtongccnhomncnaaGreatDoor.Cm
open Go Go.Sx Go.Azalai
theorem lasts_ok (b:Breed) (c:Camel) (m:March):Cp 120 [.agg (breedL b),.agg (camelL c),.agg (marchL m)] (tres (ZeR b c m)):=by
 refine t120.1 (by simp [breedL,camelL,marchL]) (by simp [tres,Ze]) ?_;dsimp only [c120,r120,breedL,camelL,marchL,tres,Ze,go_sem];refine call (WH b c [m] (by simp) true) ?_;dsimp only [go_sem];by_cases h0:Zji b c [m]=0
 case neg =>
  refine Zs (by simpa using h0) ?_;dsimp only [go_sem];simp [ZeR,h0]
 refine Zo (by simpa using h0) ?_;dsimp only [go_sem];obtain ⟨hb,hc,_,hl⟩:=ZuG h0;have hm:Ya m=true:=by simpa using hl
 have hF:ZeR b c m=(Zb8 b m 60 c 0 0 true,0):=by simp [ZeR,h0]
 rw [hF];refine call (ZDJ m 60 (by decide) (by decide) true) ?_;rw [<- List.map_replicate];obtain ⟨l,hl⟩:∃ l,l=List.replicate 60 m:=⟨_,rfl⟩
 rw [<- hl];have hl60:l.length=60:=by rw [hl];simp
 have hlm:∀ (j:Nat) (h:j < l.length),l[j]=m:=λj h=>by subst hl;exact List.getElem_replicate _
 clear hl;dsimp only [go_sem];refine ZaI [] (Zl9 b c l false) rfl rfl rfl ?_ ?_ ?_
 . exact Zc (by simp [breedL,camelL,ZG,marchL,Za])
 . trivial
 dsimp only [Zj2,ZG,go_sem];refine gh Zp ?_;dsimp only [go_sem];refine ⟨b260,λrec=>?_⟩;refine y260 ?_;dsimp only [ZEr,ZD1,go_sem];refine Ym (λs:Nat × Camel × Int × Bool=>[(10,I s.1)]) (λs=>[(6,.cells (ZG b s.2.1) 174),(4,.cells [I s.2.2.1,I s.1] 27),(5,.cells [B s.2.2.2] 4)])
  (λs=>s.1<=60/\ZE b s.2.1=true/\(0<=s.2.2.1/\s.2.2.1<=s.1)/\Zb8 b m (60 - s.1) s.2.1 s.2.2.1 s.1 s.2.2.2=Zb8 b m 60 c 0 0 true) (λs=>60 - s.1) (0,c,0,true) ⟨by simp,hc,by simp,rfl⟩ ?_ ?_
 . (refine Zj ?_ ?_ ?_ rfl rfl<;>dsimp only [breedL,camelL,marchL,ZG,id,go_sem]<;>simp [breedL,camelL,marchL,ZG,Za])
 rintro ⟨j,c1,lo,s⟩ ⟨hj,hc1,hs,hi⟩;simp only at hj hc1 hs hi;dsimp only [ZG,go_sem];simp only [List.length_map,hl60];by_cases hlt:j < 60
 . refine Zs (by simp;omega) ?_;dsimp only [go_sem];rw [show 60 - j=(60 - (j+1))+1 from by omega,Zb8] at hi;refine Zn j (by omega) rfl ?_;rw [hlm];dsimp only [marchL,go_sem];by_cases hf2:(ZS b c1 m).2=2
   . refine call (ZdC b c1 m hb hc1 hm hf2) ?_;dsimp only [ZG,Xq,go_sem];refine ⟨rfl,rfl,?_⟩;refine Zs (by decide) ?_;dsimp only [go_sem];refine ⟨rfl,?_⟩;refine gb ?_;dsimp only [go_sem];refine gb ?_;dsimp only [go_sem];refine Zs (by decide) ?_;dsimp only [go_sem];rw [if_pos hf2] at hi;rw [<- hi]
   refine call (Zlk b c1 m hb hc1 hm hf2) ?_;dsimp only [ZG,go_sem];refine ⟨rfl,rfl,?_⟩;refine Zo (by simpa using hf2) ?_;dsimp only [go_sem];rw [if_neg hf2] at hi;rw [Zf (n:=(j:Int)+1) (by omega) (by omega)];cases s
   . refine gb ?_;dsimp only [go_sem];refine gb ?_;dsimp only [go_sem];have hf0:True:=trivial;simp only [Bool.false_and];refine Zo rfl ?_;dsimp only [go_sem];refine ⟨rfl,?_⟩;refine gb ?_;dsimp only [go_sem];refine gb ?_;dsimp only [go_sem];refine Zo (by simpa using hf2) ?_;dsimp only [go_sem];rw [Zf (n:=(j:Int)+1) (by omega) (by omega)];refine ⟨(j+1,(ZS b c1 m).1,lo,false),⟨by simp only;omega,after_ok hb hc1 hm hf2,by simp only;omega,by simpa [hf0] using hi⟩,by simp only;omega,?_⟩
     (refine Zj ?_ ?_ ?_ rfl rfl<;>dsimp only [breedL,camelL,marchL,ZG,id,go_sem]<;>simp [breedL,camelL,marchL,ZG,Za])
   . refine gb ?_;dsimp only [go_sem];refine gb ?_;dsimp only [go_sem];by_cases hf0:(ZS b c1 m).2=0
     . rw [show (true && (ZS b c1 m).2 == 0)=true from by simp [hf0]];refine Zs rfl ?_;dsimp only [go_sem];rw [Zf (n:=lo+1) (by omega) (by omega)];refine ⟨rfl,?_⟩;refine gb ?_;dsimp only [go_sem];refine gb ?_;dsimp only [go_sem];refine Zo (by simpa using hf2) ?_;dsimp only [go_sem];rw [Zf (n:=(j:Int)+1) (by omega) (by omega)];refine ⟨(j+1,(ZS b c1 m).1,lo+1,true),⟨by simp only;omega,after_ok hb hc1 hm hf2,by simp only;omega,by simpa [hf0] using hi⟩,by simp only;omega,?_⟩
       (refine Zj ?_ ?_ ?_ rfl rfl<;>dsimp only [breedL,camelL,marchL,ZG,id,go_sem]<;>simp [breedL,camelL,marchL,ZG,Za])
     . rw [show (true && (ZS b c1 m).2 == 0)=false from by simp [hf0]];refine Zo rfl ?_;dsimp only [go_sem];refine ⟨rfl,?_⟩;refine gb ?_;dsimp only [go_sem];refine gb ?_;dsimp only [go_sem];refine Zo (by simpa using hf2) ?_;dsimp only [go_sem];rw [Zf (n:=(j:Int)+1) (by omega) (by omega)];refine ⟨(j+1,(ZS b c1 m).1,lo,false),⟨by simp only;omega,after_ok hb hc1 hm hf2,by simp only;omega,by simpa [hf0] using hi⟩,by simp only;omega,?_⟩
       (refine Zj ?_ ?_ ?_ rfl rfl<;>dsimp only [breedL,camelL,marchL,ZG,id,go_sem]<;>simp [breedL,camelL,marchL,ZG,Za])
 refine Zo (by simp;omega) ?_;dsimp only [go_sem];have hje:j=60:=by omega
 subst hje;rw [show 60 - 60=0 from rfl,Zb8] at hi;rw [<- hi]
end Go.Proofs.YtongccnhomncnaaGreatDoor.Cm
namespace Go.Sx
open Go Go.RowKit
def RLW (l l':Ls):Prop:=∀ (w:World) (E:Env) (n ok:Nat->Prop) (ys:LZ),RL w E n ok l ys->RL w E n ok l' ys
theorem Zd4 {l:Ls}:RLW l l:=λ_ _ _ _ _ h=>h
theorem Xp {s s':SV} {l l':Ls} (h1:ZcZ s s') (h2:RLW l l'):RLW (s :: l) (s' :: l'):=ZH h1 h2
def RRW:Rr->Rr->Prop
 | [],[]=>True
 | r :: xs,r' :: xs'=>RLW r r'/\r'.length=r.length/\RRW xs xs'
 | _,_=>False
theorem Zea:∀ {xs xs':Rr},RRW xs xs'->xs'.length=xs.length
 | [],[],_=>rfl
 | _ :: xs,_ :: xs',h=>by simp [Zea h.2.2]
 | [],_ :: _,h=>h.elim
 | _ :: _,[],h=>h.elim
theorem ZuL {w:World} {E:Env} {n ok:Nat->Prop} {b m:Nat}:∀ {xs xs':Rr} {off:Nat},RRW xs xs'->RR w E n ok b m xs off->RR w E n ok b m xs' off
 | [],[],_,_,h=>h
 | r :: xs,r' :: xs',off,hw,h=>by
  simp only [RR] at h ⊢;obtain ⟨h0,⟨cs,h1,h2⟩,h3⟩:=h;exact ⟨by rw [hw.2.1];exact h0,⟨cs,hw.1 _ _ _ _ _ h1,h2⟩,ZuL hw.2.2 h3⟩
 | [],_ :: _,_,h,_=>h.elim
 | _ :: _,[],_,h,_=>h.elim
theorem ZkC {c:Bool} {m:Nat} {xs xs':Rr} (h:RRW xs xs'):ZcZ (.sl c m xs) (.sl false m xs'):=λw E n ok y hy=>by
 simp only [R] at hy ⊢;obtain ⟨a,len,cap,h1,h2,h3,h4,h5⟩:=hy;refine ⟨a,len,cap,h1,by rw [Zea h];exact h2,⟨h3.1,λh=>by cases h⟩,by rw [Zea h];exact h4,?_⟩;rcases h5 with h5 | ⟨b,off,h5,h6⟩
 . left;have:=Zea h;rw [h5] at this;exact List.eq_nil_of_length_eq_zero this
 . exact .inr ⟨b,off,h5,ZuL h h6⟩
end Go.Sx
namespace Go.Proofs.YtongccnhomncnaaGreatDoor
open Go Go.Sx
def c62:SC:=(sr1 [Jw 0 Jf] (sr1 [o1 12 (.call 57 []),m1 11 12,o1 13 (Je 11 0),o1 14 (Je 11 1),o1 1 (.alloc zv6 29),o1 2 (.alloc zv5 31),Js 1 13 17,Js 2 14 7] (sr1 [o1 16 (.call 58 []),o1 17 (.call 8 [cn 10,cn 10]),o1 18 (.call 119 [.t 16,cn 0,.t
 17]),m1 15 18,o1 19 (Je 15 0),o1 20 (Je 15 1),o1 3 (.alloc zv0 27),Js 3 19 2,m1 4 20] (sr1 [o1 22 (lt 1 17),o1 23 (lt 2 7),o1 24 (.build zv7 [(0,1,.c (.int .i64 1))]),o1 25 (J3 120 22 23 24),m1 21 25,o1 26 (Je 21 0),o1 27 (Je 21 1),o1 5 (.alloc zv0
 27),Js 5 26 2,m1 6 27] (.seq (.regd (Jr 13) [Jo 29 (lt 1 17),Jo 30 (lt 2 7),Jo 31 (.rv (Go.Op.makeSlice 239 (Go.Operand.const (Go.Value.int Go.IntKind.i64 3)) (Go.Operand.const (Go.Value.int Go.IntKind.i64 3))) []),Jp 32 (J3 121 29 30 31) [0,1,2],Jp
 28 (.mv (.t 32)) [3],Jp 33 (Je 28 0) [4],Jp 34 (Je 28 1) [4],Jp 35 (Je 28 2) [4],Jp 36 (Je 28 3) [4],Jp 7 (.mv (.t 33)) (Jr 6),Jp 8 (.mv (.t 34)) [0,1,2,3,4,5,6,9],Jp 9 (.mv (.t 35)) [0,1,2,3,4,5,6,7,9,10],Jp 10 (.mv (.t 36)) (Jr 12)] 0 0 []) (.seq
 (.regd (Jr 38) [Jm 37 4,Jp 38 (Jc .eql 37 0) [0],Jp 39 (.mv (.t 38)) [1],Jq 40 39 true (lt 3 2) [2],Jq 41 39 true (.call 8 [cn 2,cn 3]) [2],Jq 42 39 true (.eqs false true [1,1] (.t 40) (.t 41)) [2,3,4],Jp 43 (.pick (.t 39) (.t 42) Jf) [2,5],Jp 44
 (.mv (.t 43)) [4,6],Jq 45 44 true (.mv (.t 6)) [7],Jq 46 44 true (Jc .eql 45 0) [7,8],Jp 47 (.pick (.t 44) (.t 46) Jf) [7,9],Jp 48 (.mv (.t 47)) [7,10],Jq 49 48 true (lt 5 2) [11],Jq 50 48 true (.call 8 [cn 10,cn 10]) [11],Jq 51 48 true (.eqs false
 true [1,1] (.t 49) (.t 50)) [11,12,13],Jp 52 (.pick (.t 48) (.t 51) Jf) [11,14],Jp 53 (.mv (.t 52)) [13,15],Jq 54 53 true (.mv (.t 10)) [16],Jq 55 53 true (Jc .eql 54 0) [16,17],Jp 56 (.pick (.t 53) (.t 55) Jf) [16,18],Jp 57 (.mv (.t 56)) [16,19],Jq
 58 57 true (.mv (.t 8)) [20],Jq 59 57 true (.bin .eql (.t 58) (.c (.int .u8 0))) [20,21],Jp 60 (.pick (.t 57) (.t 59) Jf) [20,22],Jp 61 (.mv (.t 60)) [20,23],Jq 62 61 true (.mv (.t 7)) [24],Jq 63 61 true (Jl 62) [24,25],Jq 64 61 true (Jc .eql 63 3)
 [24,26],Jp 65 (.pick (.t 61) (.t 64) Jf) [24,27],Jp 66 (.mv (.t 65)) [24,28],Jq 67 66 true (.mv (.t 7)) [29],Jq 68 66 true (.ixs (.t 67) (cn 2) 7) [29,30],Jq 69 66 true (ao 68 0) [29,31],Jq 70 66 true (lt 69 2) [29,32],Jq 71 66 true (.call 8 [cn
 70,cn 70]) [29],Jq 72 66 true (.eqs false true [1,1] (.t 70) (.t 71)) [29,33,34],Jp 73 (.pick (.t 66) (.t 72) Jf) [29,35],Jp 0 (.mv (.t 73)) (Jr 37)] 0 0 []) .ret))))))
def r62:List RV:=[.tmp 0]
theorem t62:Qt1 Tryz.prog 62 c62 r62 74:=ZF Tryz.func62
def c18:SC:=(sr1 [o1 0 (.alloc zv4 34)] (sr1 [o1 4 (.call 57 []),m1 3 4,o1 5 (Je 3 0),o1 6 (Je 3 1),o1 1 (.alloc zv6 29),o1 2 (.alloc zv5 31),Js 1 5 17,Js 2 6 7] (.seq (.regd (Jr 10) [Jo 7 (.call 58 []),Jp 8 (.call 8 [cn 10,cn 10]) [0],Jo 9 (lt 1
 17),Jo 10 (lt 2 7),Jo 11 (.rv (Go.Op.makeSlice 97 (Go.Operand.const (Go.Value.int Go.IntKind.i64 2)) (Go.Operand.const (Go.Value.int Go.IntKind.i64 2))) []),Jo 12 (.bsl 1 3 [cn 0,cn 9]),Jp 13 (.build ZAD [(4,1,.t 11),(5,1,.t 12)]) [4,5],Jp 14 (.bsl 6
 139 [.t 13]) [6],Jp 15 (.build zv4 [(0,2,.t 7),(2,2,.t 8),(4,17,.t 9),(21,7,.t 10),(28,1,.c (.int .i64 2)),(29,1,.c (.int .i64 1)),(30,1,.c (.int .i64 50)),(31,1,.c (.int .i64 2)),(32,1,.c (.int .i64 3)),(35,1,.c (.int .i64 9)),(36,1,.t 14)])
 [0,1,2,3,7]] 0 1 [Ju 0 15 37 (Jr 9)]) .ret)))
def r18:List RV:=[.cell 0 37 true]
theorem t18:Qt1 Tryz.prog 18 c18 r18 16:=ZF Tryz.func18
end Go.Proofs.YtongccnhomncnaaGreatDoor
namespace Go.Sx
open Go Go.RowKit
theorem Zuy {P:Program} {σ : St} {m b:Nat} {z:LZ} {T:TypeId} {kd:IntKind} {n k:Nat} {op:Op} (hc:ZT P (.mks m b z T (.c (.int kd (k:Int)))) op=true) (hlim:k * b<=140737488355328) (hxs:1<=k) :
 RBE P op [] σ (.sl false m (List.replicate k (lit z))):=by
 intro o ho C E hpX nX a w next Q hx hS hR hn;subst ho;obtain ⟨v,w',e1,e2,e3⟩:=Zf5 (a:=a) (C:=C) (E:=E) (hp:=hpX) (n:=nX) (w:=w) (kd:=kd) (k:=k) hc rfl hlim;refine ZC e1 (by simp) (hn w' v (Xz hS e2) (Yd e2) ?_);rcases e3 with ⟨h,_⟩ | ⟨cap,cs,h1,h2,h3,⟨h4,h4'⟩,h5,h6,h7⟩
 . have:=congrArg List.length h;simp at this;omega
 . simp only [R];refine ⟨_,_,_,h1,rfl,⟨h4,λh=>by cases h⟩,h5,.inr ⟨_,0,rfl,?_⟩⟩;refine WG (cs:=cs) (ok:=okS C E hpX) (WV hS (Nat.le_refl _)) (λj c hj=>by rw [cell_of_row _ _ _ _ _ _ h2];simpa using hj) (λb hb _=>⟨hb,rfl⟩) _ 0 h6 ?_;have h8:=ZL (Yd (ok:=okS C E hpX) e2).c (λ_ _=>Ele.rfl) (λ_ h=>h) _ _ h7;simpa using h8
end Go.Sx
namespace Go.Azalai
def ZaF:Breed:=⟨100,10,⟨10,10⟩,⟨0,0⟩,⟨0,0⟩,⟨0,0⟩,⟨0,0⟩,⟨0,0⟩,0,⟨50,50⟩⟩
def ZaP:Camel:=⟨⟨100,100⟩,⟨10,10⟩,⟨0,0⟩,false⟩
def Zft:Land:=⟨[⟨0,0,0,⟨0,0⟩,0,⟨0,0⟩,0⟩,⟨30,0,0,⟨5,5⟩,100,⟨0,0⟩,0⟩],[⟨0,1,⟨20,30⟩,[⟨⟨0,0⟩,⟨99,99⟩⟩]⟩]⟩
def ZuW:March:=⟨1,0,⟨0,0⟩,⟨0,0⟩,⟨0,0⟩⟩
def Vj:March:=⟨0,0,⟨0,0⟩,⟨0,0⟩,⟨0,0⟩⟩
theorem ZDD:ZeR ZaF ZaP ZuW=(⟨10,10⟩,0):=by decide +kernel
theorem days0:UD ZaF ZaP [Vj,Vj,Vj]=([⟨⟨90,90⟩,⟨10,10⟩,⟨0,0⟩,false⟩,⟨⟨80,80⟩,⟨10,10⟩,⟨0,0⟩,false⟩,⟨⟨70,70⟩,⟨10,10⟩,⟨0,0⟩,false⟩],0,0,0):=by decide +kernel
theorem way0:YV Zft 0 ⟨10,10⟩=(⟨2,3⟩,0):=by decide +kernel
end Go.Azalai
namespace Go.Proofs.YtongccnhomncnaaGreatDoor
open Go Go.Sx Go.Azalai
theorem rrw1 {r r':Ls} (h:RLW r r') (hl:r'.length=r.length):RRW [r] [r']:=⟨h,hl,trivial⟩
theorem ZnP:Cp 61 [AL true A0,.agg (Xm T0)] (.tup [AL false (AX 20 (-10) 0 0),I 0]):=by
 refine t61.1 (by simp [AL,A0,Zq,KFR,Xm,T0]) (by simp [AL,AX,Zq,KFR]) ?_;dsimp only [c61,r61,AL,go_sem];refine call Ze1 ?_;dsimp only [go_sem];refine Zo rfl ?_;dsimp only [Xm,go_sem];refine call (Zml T0) ?_;dsimp only [go_sem];refine Zo rfl ?_;dsimp only [go_sem];refine call (mov0 true) ?_;dsimp only [go_sem];refine Zo rfl ?_;dsimp only [go_sem];refine call (ZfW A0 true [[.sl true 3 (A0.map Zq)]] (ZcX A0 (by decide) true true) (by simp [KFR,KFL,KF,Za,Zq,A0]) (by decide)) ?_
 dsimp only [go_sem];refine Zo rfl ?_;dsimp only [go_sem]
theorem Zth:Cp 63 [AL false (AX 20 (-10) 0 0),.agg [.sl true 3 [[I 1,I 0,I 20],[I (-1),I 0,I (-10)],[I 0,I 1,I 0],[I 0,I (-1),I 0]]]] (B true):=by
 refine t63.1 (by simp [AL,AX,Zq,KFR]) (by simp) ?_;dsimp only [c63,r63,AL,AX,Zq,go_sem];refine Zo rfl ?_;dsimp only [go_sem];refine ZX 5 ?_;dsimp only [Zb,go_sem];repeat (first | (refine Zo rfl ?_;dsimp only [go_sem]) | (refine Zs rfl ?_;dsimp only [go_sem]) | (refine ixs 0 _ rfl rfl ?_;dsimp only [go_sem]) | (refine ixs 1 _ rfl rfl ?_;dsimp only [go_sem]) | (refine ixs 2 _ rfl rfl ?_;dsimp only [go_sem]) | (refine ixs 3 _ rfl rfl ?_;dsimp only [go_sem]))
theorem ZeT:Cp 57 [] (.tup [.agg (Cm.breedL ZaF),.agg (Cm.camelL ZaP)]):=by
 refine t57.1 (by simp) (by simp [Cm.breedL,Cm.camelL,KFL,KF]) ?_;dsimp only [c57,r57,go_sem];iterate 4 (refine call (ZaV _ _) ?_;dsimp only [go_sem])
 rfl
theorem Zgy:Cp 58 [] (.agg (Yo Zft)):=by
 have h:Cp 58 [] (.agg [.sl true 9 (Zft.wells.map Zg),.sl true 5 [[I 0,I 1,I 20,I 30,.sl true 4 [[I 0,I 0,I 99,I 99]]]]]):=by
  refine t58.1 (by simp) (by simp [Za,KFR,Zg]) ?_;dsimp only [c58,r58,go_sem];iterate 3 (refine call (ZaV _ _) ?_;dsimp only [go_sem])
  rfl
 exact Ct.res h (by simp [Yo,Za,Zg,Zr,Zi]) (λw E n ok y hy=>by
  simp only [R] at hy ⊢;obtain ⟨cs,h1,h2⟩:=hy
  exact ⟨cs,h1,ZH Zho (ZH (ZkC (xs':=[[I 0,I 1,I 20,I 30,.sl false 4 [[I 0,I 0,I 99,I 99]]]]) (rrw1 (r:=[I 0,I 1,I 20,I 30,.sl true 4 [[I 0,I 0,I 99,I 99]]]) (Xp (λ_ _ _ _ _ h=>h) (Xp (λ_ _ _ _ _ h=>h) (Xp (λ_ _ _ _ _ h=>h) (Xp (λ_ _ _ _ _ h=>h) (Xp Zho Zd4))))) rfl)) Zd4) _ _ _ _ _ h2⟩)
theorem Zoa:Small Zft:=⟨by decide,by decide,by decide⟩
def ZCq:SV:=.tup [.sl false 7 [[I 90,I 90,I 10,I 10,I 0,I 0,B false],[I 80,I 80,I 10,I 10,I 0,I 0,B false],[I 70,I 70,I 10,I 10,I 0,I 0,B false]],.v (.int .u8 0),I 0,I 0]
theorem Zpl:Cp 121 [.agg (Cm.breedL ZaF),.agg (Cm.camelL ZaP),.sl false 8 ([Vj,Vj,Vj].map Cm.marchL)] ZCq:=by
 have h:=Cm.days_ok ZaF ZaP [Vj,Vj,Vj] false (by decide);rw [days0] at h;exact h
theorem Zja:Cp 62 [] (B true):=by
 refine t62.1 (by simp) (by simp) ?_;dsimp only [c62,r62,go_sem];refine call ZeT ?_;dsimp only [Cm.breedL,Cm.camelL,go_sem];refine call Zgy ?_;dsimp only [go_sem];refine call (ZaV _ _) ?_;dsimp only [go_sem];refine call (ZgN Zft Zoa 0 ⟨10,10⟩) ?_;rw [way0];dsimp only [sres,Ze,go_sem];refine call (Cm.lasts_ok ZaF ZaP ZuW) ?_;rw [ZDD];dsimp only [Cm.tres,Ze,go_sem];refine ⟨.sl false 8 ([Vj,Vj,Vj].map Cm.marchL),?_,?_⟩
 . exact Zuy (m:=8) (b:=64) (T:=235) (kd:=.i64) (n:=0) (k:=3) (z:=zv7) (by rfl) (by decide) (by decide)
 dsimp only [go_sem];refine call Zpl ?_;dsimp only [ZCq,go_sem];repeat (first | (refine ZI rfl ?_;dsimp only [go_sem]) | (refine call (ZaV _ _) ?_;dsimp only [go_sem]) | (refine ixs 2 _ rfl rfl ?_;dsimp only [go_sem]))
 rfl
theorem Zii:Cp 19 [] (B true):=by
 refine t19.1 (by simp) (by simp) ?_;dsimp only [c19,r19,go_sem];iterate 2 (refine call (ZaV _ _) ?_;dsimp only [go_sem])
 refine call Zmd ?_;dsimp only [go_sem];refine call ZoC ?_;dsimp only [go_sem];refine call Zmd ?_;dsimp only [go_sem];refine call ZnP ?_;dsimp only [AL,go_sem];refine call Zja ?_;dsimp only [go_sem];repeat (first | (refine ZI rfl ?_;dsimp only [go_sem]) | (refine call Zth ?_;dsimp only [go_sem]))
 rfl
end Go.Proofs.YtongccnhomncnaaGreatDoor
namespace Go.Azalai
def Zby:Season:=⟨Zft,⟨10,10⟩,ZaF,ZaP,2,1,50,2,3,0,0,9,[⟨⟨0,0⟩,⟨0,0⟩,[⟨0,0⟩,⟨0,0⟩],[0,9]⟩]⟩
theorem ZhA:ZhK Zby=(⟨[0],2,1⟩,14,0):=by decide +kernel
theorem ZfS:SmallS Zby:=⟨⟨by decide,by decide,by decide⟩,by decide,by decide⟩
end Go.Azalai
namespace Go.Proofs.YtongccnhomncnaaGreatDoor
open Go Go.Sx Go.Azalai
theorem VS {l l':Ls} (h:∀ (w:World) (E:Env) (n ok:Nat->Prop) (ys:LZ),RL w E n ok l ys->RL w E n ok l' ys):ZcZ (.agg l) (.agg l'):=λw E n ok y hy=>by
 simp only [R] at hy ⊢;obtain ⟨cs,h1,h2⟩:=hy;exact ⟨cs,h1,h _ _ _ _ _ h2⟩
theorem Zq6 {s:SV}:ZcZ s s:=λ_ _ _ _ _ h=>h
def Zht:Ls:=(Zv Zby).take 36 ++ [.sl true 6 [[I 0,I 0,I 0,I 0,.sl false 2 [[I 0,I 0],[I 0,I 0]],.sl true 1 [[I 0],[I 9]]]]]
theorem Zwr:ZcZ (.agg Zht) (.agg (Zv Zby)):=by
 refine VS ?_;unfold Zht Zv;simp only [List.take_succ_cons,List.take_zero,List.cons_append,List.nil_append]
 iterate 36 refine ZH Zq6 ?_
 exact ZH (ZkC (rrw1 (r:=[I 0,I 0,I 0,I 0,.sl false 2 [[I 0,I 0],[I 0,I 0]],.sl true 1 [[I 0],[I 9]]]) (Xp Zq6 (Xp Zq6 (Xp Zq6 (Xp Zq6 (Xp Zq6 (Xp Zho Zd4)))))) rfl)) Zd4
theorem Zra:Cp 18 [] (.agg (Zv Zby)):=by
 have h:Cp 18 [] (.agg Zht):=by
  refine t18.1 (by simp) (by simp [Za,KFR,Zht,Zv,Zg,Zr,Zi,Zby,Zft,ZaF,ZaP,Ze]) ?_;dsimp only [c18,r18,go_sem];refine call ZeT ?_;dsimp only [Cm.breedL,Cm.camelL,go_sem];refine call Zgy ?_;dsimp only [Yo,go_sem];refine call (ZaV _ _) ?_;dsimp only [go_sem];refine ⟨.sl false 2 [[I 0,I 0],[I 0,I 0]],?_,?_⟩
  . exact Zuy (m:=2) (b:=16) (T:=27) (kd:=.i64) (n:=0) (k:=2) (z:=zv0) (by rfl) (by decide) (by decide)
  dsimp only [go_sem];rfl
 exact Ct.res h (by simp [Zv,Za,Zg,Zr,Zi,Zl,Ze,Zk]) Zwr
theorem ZiP:Cp 5 [] (B true):=by
 refine t5.1 (by simp) (by simp) ?_;dsimp only [c5,r5,go_sem];refine call Zra ?_;dsimp only [go_sem];have hb:=ZyW Zby ZfS;rw [ZhA] at hb;refine call hb ?_;dsimp only [Zzj,ZQ,go_sem];refine call Zii ?_;dsimp only [go_sem];have hs:Cp 20 [.agg [.sl false 1 [[I 0]],I 2,I 1],.agg [.sl true 1 [[I 0]],I 2,I 1]] (B true) :=
  Ct.args (Zgh ⟨[0],2,1⟩ ⟨[0],2,1⟩ (by decide) (by decide)) (by simp [KFR]) (ZH Zq6 (ZH (VS (ZH Zho Wl)) Wl))
 repeat (first | (refine ZI rfl ?_;dsimp only [go_sem]) | (refine call hs ?_;dsimp only [go_sem]))
 rfl
end Go.Proofs.YtongccnhomncnaaGreatDoor
namespace Go.Azalai
open Go.Sx
def YW (s:Season) (p:Plan):Bool:=!UE s && decide (p.legs.length<=40) && decide (s.till<=2000) && ZR s && Wi s p
end Go.Azalai
namespace Go.Proofs.YtongccnhomncnaaGreatDoor
open Go Go.Sx Go.Azalai
theorem Zi8 (s:Season) (hs:SmallS s):Cp 22 [.agg (Zv s)] (I (if ZR s=true then 0 else 90)):=by
 refine t22.1 (by simp [Zv,Zl,Zg,Zr,Zi,Ze,Zk,Za]) (by simp) ?_;dsimp only [c22,r22,Zv,go_sem];refine call (Zls s hs) ?_;dsimp only [go_sem];refine br ?_ ?_
 . intro h;dsimp only [go_sem];simp at h;simp [h]
 . intro h;dsimp only [go_sem];simp at h;simp [h]
structure PlannedS (s:Season) (p:Plan):Prop where
 great:UE s=false
 ok:OkS s
 legs:p.legs.length<=40
 plan:Wi s p=true
 till:s.till<=2000
theorem Zfm {s:Season} {p:Plan} (h:YW s p=true):PlannedS s p:=by
 simp only [YW,Bool.and_eq_true,Bool.not_eq_true',decide_eq_true_eq] at h;obtain ⟨⟨⟨⟨h1,h3⟩,h5⟩,h2⟩,h4⟩:=h;exact ⟨h1,⟨Zee h1,h2⟩,h3,h4,h5⟩
theorem Zh5 (s:Season) (p:Plan):Cp 6 [.agg (Zv s),.agg (ZQ p)] (B (YW s p)):=by
 refine t6.1 (by simp [Zv,ZQ,Zl,Zg,Zr,Zi,Ze,Zk,Za]) (by simp) ?_;dsimp only [c6,r6,Zv,ZQ,go_sem];refine call (Zj9 s) ?_;dsimp only [go_sem];cases h:UE s
 case true =>
  rw [show YW s p=false from by simp [YW,h]];repeat (refine Xu (by decide) ?_;dsimp only [go_sem])
 have hs:=Zee h;iterate 4 (refine ZI rfl ?_;dsimp only [go_sem])
 simp only [List.length_map];by_cases h3:p.legs.length<=40
 case neg =>
  rw [show YW s p=false from by simp [YW,h,h3]];have:decide ((p.legs.length:Int)<=40)=false:=by simp;omega
  simp only [this,Bool.and_false];repeat (refine Xu (by decide) ?_;dsimp only [go_sem])
 have e3:decide ((p.legs.length:Int)<=40)=true:=by simp;omega
 simp only [e3,Bool.and_true];iterate 3 (refine ZI rfl ?_;dsimp only [go_sem])
 by_cases h5:s.till<=2000
 case neg =>
  rw [show YW s p=false from by simp [YW,h5]];simp only [h5,decide_false,Bool.and_false];repeat (refine Xu (by decide) ?_;dsimp only [go_sem])
 simp only [h5,decide_true,Bool.and_true];refine ZI rfl ?_;dsimp only [go_sem];refine ZI rfl ?_;dsimp only [go_sem];refine call (Zi8 s hs) ?_;dsimp only [go_sem];refine ZI rfl ?_;dsimp only [go_sem];cases h2:ZR s
 case false =>
  rw [show YW s p=false from by simp [YW,h,h2]];simp only [Bool.false_eq_true,if_false,Bool.not_false,Bool.true_and,show ((90:Int) == 0)=false from rfl];repeat (refine Xu (by decide) ?_;dsimp only [go_sem])
 simp only [if_true,Bool.not_false,Bool.true_and,show ((0:Int) == 0)=true from rfl];iterate 2 (refine ZI rfl ?_;dsimp only [go_sem])
 refine ZI rfl ?_;dsimp only [go_sem];refine call (ZzY s ⟨hs,h2⟩ p (by omega)) ?_;dsimp only [go_sem];simp [YW,h,h2,h3,h5]
def c3:SC:=(sr1 [o1 2 (Jz 0 0 34),o1 3 (Jz 1 0 37),Jw 4 Jf] (.gh (sr1 [o1 21 (.call 5 []),m1 5 21] (.gh (.seq (sr1 [m1 22 5,o1 23 (Jh 22)] (.gh (Ji 23 (sr1 [Jw 4 Jf] (.gh .ret)) .skip))) (.seq (sr1 [o1 24 (lt 2 37),o1 25 (lt 3 3),o1 26 (J2 6 24 25),o1
 27 (Jh 26)] (.gh (Ji 27 (sr1 [m1 28 5,m1 4 28] (.gh .ret)) .skip))) (sr1 [o1 30 (lt 2 37),o1 31 (lt 3 3),o1 32 (J2 7 30 31),m1 29 32,o1 33 (Je 29 0),o1 34 (Je 29 1),o1 35 (Je 29 2),o1 36 (Je 29 3),m1 6 33,m1 7 34,m1 8 35,m1 9 36] (.gh (.seq (sr1 [m1
 37 9,o1 38 (Jc .neq 37 0)] (.gh (Ji 38 (sr1 [Jw 4 Jf] (.gh .ret)) .skip))) (.seq (sr1 [m1 39 6,o1 40 (.bin .neq (.t 39) (.c (.int .u8 0))),m1 41 40,g1 42 41 false (ao 3 1),g1 43 41 false (lf 42 1),g1 44 41 false (Jc .eql 43 0),o1 45 (.pick (.t 41) Jt
 (.t 44)),m1 46 45,g1 47 46 false (ao 3 2),g1 48 46 false (lf 47 1),g1 49 46 false (Jc .gtr 48 10),o1 50 (.pick (.t 46) Jt (.t 49))] (.gh (Ji 50 (sr1 [m1 51 5,m1 4 51] (.gh .ret)) .skip))) (sr1 [o1 10 (.mv (.c (.slice none 0 0)))] (.gh (sr1 [o1 11
 (.alloc ZAy 45)] (.gh (.seq (sr1 [o1 52 (ao 3 2),o1 53 (lf 52 1),Jk 54 0] (.gh (.block 0 (.loop (sr1 [o1 55 (Jb .lss 54 53)] (.gh (.seq (Ji 55 .skip (.exit 0)) (.seq (.block 1 (sr1 [m1 56 54,m1 12 56] (.gh (sr1 [m1 57 10,o1 58 (ao 2 30),o1 59 (lf 58
 1),o1 60 (ao 2 30),o1 61 (lf 60 1),o1 62 (J2 8 59 61),o1 63 (.build zv16 [(0,1,.c (.int .u8 2)),(1,2,.t 62)]),o1 64 (.bsl 11 48 [.t 63]),o1 65 (.appm 11 88 48 (.t 57) (.t 64)),m1 10 65] (.gh (sr1 [m1 66 12,o1 67 (.div .rem (.t 66) (cn 2)),o1 68 (Jc
 .eql 67 0)] (.gh (Ji 68 (.reg [o1 69 (ao 11 0),o1 70 (lf 69 1),m1 71 12,o1 72 (.bsl 1 3 [.t 71]),o1 73 (.appm 1 8 3 (.t 70) (.t 72)),o1 74 (ao 11 0),Js 74 73 1]) (.reg [o1 75 (ao 11 1),o1 76 (lf 75 1),m1 77 12,o1 78 (.bsl 1 3 [.t 77]),o1 79 (.appm 1
 8 3 (.t 76) (.t 78)),o1 80 (ao 11 1),Js 80 79 1]))))))))) (.reg [o1 81 (Jc .add 54 1),m1 54 81]))))))))) (.gh (sr1 [o1 83 (ao 2 4),o1 84 (lt 83 17),o1 85 (ao 2 21),o1 86 (lt 85 7),m1 87 10,o1 88 (lt 11 3),o1 89 (ao 3 2),o1 90 (lf 89 1),o1 91 (.div
 .rem (.t 90) (cn 2)),o1 92 (ao 2 30),o1 93 (lf 92 1),o1 94 (Jb .mul 91 93),o1 95 (J5 9 84 86 87 88 94),m1 82 95,o1 96 (Je 82 0),o1 97 (Je 82 1),m1 13 96,m1 14 97] (.gh (sr1 [m1 99 10,o1 100 (lt 11 3),o1 101 (J2 10 99 100),m1 98 101,o1 102 (Je 98
 0),o1 103 (Je 98 1),o1 104 (Je 98 2),o1 105 (Je 98 3),o1 15 (.alloc zv0 27),o1 16 (.alloc zv0 27),o1 17 (.alloc zv0 27),Js 15 102 2,Js 16 103 2,Js 17 104 2,m1 18 105] (.gh (sr1 [m1 107 10,o1 108 (lt 11 3),o1 109 (ao 3 2),o1 110 (lf 109 1),o1 111
 (.div .rem (.t 110) (cn 2)),o1 112 (ao 2 30),o1 113 (lf 112 1),o1 114 (Jb .mul 111 113),o1 115 (J3 11 107 108 114),m1 106 115,o1 116 (Je 106 0),o1 117 (Je 106 1),m1 19 116,m1 20 117] (.gh (.seq (.regd (Jr 38) [Jm 118 5,Jp 119 (.mv (.t 118)) [0],Jq
 120 119 true (.mv (.t 14)) [1],Jq 121 119 true (Jc .eql 120 0) [1,2],Jp 122 (.pick (.t 119) (.t 121) Jf) [1,3],Jp 123 (.mv (.t 122)) [1,4],Jq 124 123 true (.mv (.t 13)) [5],Jq 125 123 true (.bin .eql (.t 124) (.c (.int .u8 2))) [5,6],Jp 126 (.pick
 (.t 123) (.t 125) Jf) [5,7],Jp 127 (.mv (.t 126)) [5,8],Jq 128 127 true (.mv (.t 18)) [9],Jq 129 127 true (Jc .eql 128 0) [9,10],Jp 130 (.pick (.t 127) (.t 129) Jf) [9,11],Jp 131 (.mv (.t 130)) [9,12],Jq 132 131 true (lt 17 2) [13],Jq 133 131 true
 (ao 3 2) [13],Jq 134 131 true (lf 133 1) [13,15],Jq 135 131 true (ao 2 30) [13],Jq 136 131 true (lf 135 1) [13,17],Jq 137 131 true (Jb .mul 134 136) [13,16,18],Jq 138 131 true (ao 3 2) [13],Jq 139 131 true (lf 138 1) [13,20],Jq 140 131 true (ao 2 30)
 [13],Jq 141 131 true (lf 140 1) [13,22],Jq 142 131 true (Jb .mul 139 141) [13,21,23],Jq 143 131 true (J2 8 137 142) [13,19,24],Jq 144 131 true (.eqs false true [1,1] (.t 132) (.t 143)) [13,14,25],Jp 145 (.pick (.t 131) (.t 144) Jf) [13,26],Jp 146
 (.mv (.t 145)) [25,27],Jq 147 146 true (.mv (.t 20)) [28],Jq 148 146 true (Jc .eql 147 0) [28,29],Jp 149 (.pick (.t 146) (.t 148) Jf) [28,30],Jp 150 (.mv (.t 149)) [28,31],Jq 151 150 true (.mv (.t 19)) [32],Jq 152 150 true (Jl 151) [32,33],Jq 153 150
 true (Jc .eql 152 0) [32,34],Jp 154 (.pick (.t 150) (.t 153) Jf) [32,35],Jp 4 (.mv (.t 154)) (Jr 37)] 0 0 []) (.gh .ret))))))))))))))))))))))))
def r3:List RV:=[.tmp 4]
theorem n3:Tryz.f3.ntmps=155:=by kernel_rfl
theorem b3:Z4 Tryz.prog 3=true:=by kernel_rfl
theorem t3:Qt1 Tryz.prog 3 c3 r3 155:=ZF Tryz.func3 rfl b3 (by kernel_rfl) (by kernel_rfl) n3
end Go.Proofs.YtongccnhomncnaaGreatDoor
namespace Go.Sx
open Go Go.RowKit
section
variable {g:Option (Nat × Bool)} {k v' m0 T o m' T':Nat} {xs:Rr} {inn:List Rr} {d:Option Nat} {σ : St} {r:KT} {K:RK}
end
theorem Zhn {m:Nat} {σ : St} (kb i k:Nat) {v:Nat} {l:Ls} {T1 mm T:TypeId} {xs:Rr} (hm:Nat.ble m k=true) (hkb:lkh kb σ.hp = .cells l T1) (hl:l[i]? = some (.mr k v)) (hk:lkh k σ.hp = .row v mm xs T) :
 Ent m σ ⟨σ.fr,(kb,.cells (l.set i (.sl false mm xs)) T1) :: (k,.gone) :: σ.hp,σ.n,σ.N,σ.gs⟩:=λC E a w hmc h=>by
 obtain ⟨g1,g2⟩:=Vo h.hs k;have hne:kb≠k:=by rintro rfl;rw [hk] at hkb;cases hkb
 have hk2:lkh kb ((k,.gone) :: σ.hp) = .cells l T1:=by rw [Zu,if_neg hne];exact hkb
 have hocc:∀ b,occ E kb (.cells (l.set i (.sl false mm xs)) T1) b↔occ E kb (lkh kb ((k,.gone) :: σ.hp)) b:=λb=>by rw [hk2];rfl
 have hval:R w E (ltn σ.n) (okS C E ((k,.gone) :: σ.hp)) (.sl false mm xs) (E.hv k v):=by
  simp only [R];rcases ZuP hmc (Nat.le_of_ble_eq_true hm) h.hs hk with ⟨h1,a0,h2⟩ | ⟨b,cap,h1,h4,h4',h5,h7⟩
  . exact ⟨a0,0,0,h2,by simp [h1],⟨Nat.le_refl _,λh=>by cases h⟩,by simp [h1],.inl h1⟩
  . exact ⟨_,_,_,h1,rfl,⟨h4,λh=>by cases h⟩,h5,.inr ⟨b,0,rfl,h7⟩⟩
 obtain ⟨h6,h7⟩:=Wc (hb:=.cells (l.set i (.sl false mm xs)) T1) (B:=E.β kb) g1 hocc (by rw [hk2];rfl) ⟨rfl,rfl,rfl,rfl,λ_ _=>rfl⟩ (λhst=>by
  have hb:=h.hs.bk kb;rw [hkb] at hb;simp only [Yr] at hb ⊢;obtain ⟨cs,e1,e2⟩:=hb
  refine ⟨cs,e1,Zns (ZkZ (p:=λs s'=>∀ y,R w E (ltn σ.n) (okS C E σ.hp) s y->R w E (ltn σ.n) (okS C E ((kb,.cells (l.set i (.sl false mm xs)) T1) :: (k,.gone) :: σ.hp)) s' y)
   (λs y hy=>ZV hst.c (λ_ _=>Ele.rfl) (λ_ h=>h) _ _ (ZV g2.c (λ_ _=>Ele.rfl) (λ_ h=>h) _ _ hy)) (λy hy=>?_) hl) e2⟩
  have hy2:y=E.hv k v:=by simp only [R] at hy;exact hy.2.2.1
  rw [hy2]
  exact ZV hst.c (λ_ _=>Ele.rfl) (λ_ h=>h) _ _ hval)
 have hst:ZM w w (okS C E σ.hp) (okS C E ((kb,.cells (l.set i (.sl false mm xs)) T1) :: (k,.gone) :: σ.hp)):=λb hb hs=>by
  obtain ⟨q1,q2⟩:=g2 b hb hs;exact h7 b q1 hs
 exact ⟨E,YJ h hst (λ_ _=>Ele.rfl) (Nat.le_refl _) h6⟩
end Go.Sx
namespace Go.Azalai
open Go.Sx Go.Proofs.YtongccnhomncnaaGreatDoor
structure Dr (s:Season) (p:Plan) (x:Scene) (D:List Draw):Prop where
 len:D.length=p.legs.length - 1
 at_:∀ (i:Nat) (hi:i < D.length) (hs:i < (Ye s p.legs).length),D[i].well=(Ye s p.legs)[i].well/\D[i].day=(Ye s p.legs)[i].arrives.lo/\0<=D[i].water/\D[i].water<=p.animals * s.breed.full /\
  (p.animals=0->D[i].water=0)/\D[i].water<=ZdQ s x (Ye s p.legs)[i]
theorem Zmy {l:Land} {p:Span} (hg:OkLP l p):∀ {legs:List Int} {ss:List Stop} {v a b:Int},Trk l p v a b legs ss->0<=b->b<=100000->∀ (i:Nat) (h1:i < legs.length) (h2:i < ss.length),
 (YV l legs[i] p).2=0/\1<=(YV l legs[i] p).1.lo/\(YV l legs[i] p).1.lo<=(YV l legs[i] p).1.hi/\(YV l legs[i] p).1.hi<=ss[i].arrives.hi/\ss[i].leg=legs[i]
 | i :: r,s :: ss,v,a,b,ht,hb0,hb,j,h1,h2=>by
  obtain ⟨k,x,rfl,hx,ho,hr,rfl,ht⟩:=ht;have hge:=Zaf (k:=true) (hg.leg hx) hg.pace (show b<=100001 by omega);cases j with
  | zero =>
   obtain ⟨hk,hx'⟩:=List.getElem?_eq_some_iff.1 hx;have e:YV l (k:Int) p=(ZbG x p,0):=by
    unfold YV;rw [if_neg (by simp [Za0,hg.land,hg.pace]),if_neg (by simp [inR];omega)];simp only [Int.toNat_natCast,hx]
   have n1:=(ZmG (k:=false) (hg.leg hx) hg.pace).1;have n2:=ZfO (hg.leg hx) hg.pace;have n3:=XO (k:=true) (hg.leg hx) hg.pace (show b<=100001 by omega);simp only [List.getElem_cons_zero];rw [e];have m1:nK false x p=(ZbG x p).lo:=rfl;have m2:nK true x p=(ZbG x p).hi:=rfl;refine ⟨rfl,by simp only;omega,by simp only;omega,?_,trivial⟩;have:=(n3.2.2.1 (by omega)).1;simp only;have hle:=Zmz (k:=true) (hg.leg hx) hg.pace (show b<=100001 by omega)
   omega
  | succ j =>
   simp only [List.getElem_cons_succ];exact Zmy hg ht (by omega) hr j _ _
 | [],_,_,_,_,_,_,_,j,h1,_=>by simp at h1
 | _ :: _,[],_,_,_,h,_,_,_,_,_=>h.elim
theorem Zs5 {s:Season} (h:OkS s) {legs:List Int} (hs:Uh s legs=true) {st:Stop} {r:List Stop} (hl:Ye s legs=st :: r):1<=(YV s.land st.leg s.pace).1.hi:=by
 simp only [Uh,Bool.and_eq_true,decide_eq_true_eq] at hs;have hn:=h.num;obtain ⟨h0,_⟩:=hs;have hw:Xt s.land s.pace s.start s.day legs=(Ye s legs,(Xt s.land s.pace s.start s.day legs).2.1,0):=by
  rw [Ye];exact Prod.ext rfl (Prod.ext rfl h0)
 obtain ⟨_,ht⟩:=Zhh hw;have hlen:=Trk.len ht;rw [hl] at ht hlen;simp only [List.length_cons] at hlen;have:=Zmy h.lp ht (by omega) (by omega) 0 (by omega) (by simp);obtain ⟨_,h1,h2,_,h4⟩:=this;simp only [List.getElem_cons_zero] at h4;rw [h4];omega
theorem ZhW {s:Season} (h:OkS s) {p:Plan} {x:Scene} (hf:(WJ s p x).1=0) (ha:p.animals≠0):p.slabs * s.slab<=(Zfp s.breed s.camel).lo:=by
 unfold WJ at hf;by_cases hs:Uh s p.legs=false
 . rw [if_pos hs] at hf;simp at hf
 rw [if_neg hs,if_neg ha] at hf;have hs:Uh s p.legs=true:=by simpa using hs
 have hg:(goF s x p.slabs (Ye s p.legs)).1=0:=by
  unfold Zbu at hf;split at hf
  . simp at hf
  . exact hf
 unfold goF at hg;split at hg
 . rename_i he;by_cases hh:p.slabs * s.slab > (Zfp s.breed s.camel).lo
   . rw [if_pos hh] at hg;simp at hg
   . omega
 . rename_i he;obtain ⟨st,r,hl⟩:∃ st r,Ye s p.legs=st :: r:=by
    cases hq:Ye s p.legs with
    | nil=>exact absurd hq he
    | cons st r=>exact ⟨st,r,rfl⟩
   have hd:=Zs5 h hs hl;rw [hl] at hg;unfold goG at hg;have hb:(Xx s x (YV s.land st.leg s.pace).1 p.slabs s.camel).2=0:=by
    by_cases hh:(Xx s x (YV s.land st.leg s.pace).1 p.slabs s.camel).2≠0
    . rw [if_pos hh] at hg;exact absurd hg hh
    . omega
   unfold Xx at hb;obtain ⟨j,hj⟩:∃ j,(YV s.land st.leg s.pace).1.hi.toNat=j+1:=⟨(YV s.land st.leg s.pace).1.hi.toNat - 1,by omega⟩
   rw [hj] at hb;unfold ZaK at hb;by_cases hh:(ZcB s x p.slabs).load > (Zfp s.breed s.camel).lo
   . rw [if_pos hh] at hb;simp at hb
   . have e:(ZcB s x p.slabs).load=p.slabs * s.slab:=rfl;omega
def ZaY (m:Int):Pack:=⟨2,⟨m,m⟩,Z0,Z0,Z0,0,0⟩
def VK (n:Nat):List Int:=((List.range n).filter (λi=>i % 2 == 0)).map λi:Nat=>(i:Int)
def Zfa (n:Nat):List Int:=((List.range n).filter (λi=>!(i % 2 == 0))).map λi:Nat=>(i:Int)
theorem Zqi {m:Int} (h:0<=m/\m<=1000000):YB (ZaY m)=true:=by
 simp [YB,ZaY,ZW,inR,Zct,Z0];omega
theorem Zk6 (m:Int):(Xj (ZaY m)).1=⟨m,m⟩:=by
 unfold Xj;rw [if_neg (by simp [ZaY]),if_pos (.inl rfl)];rfl
theorem Zcu {m:Int} {n:Nat}:∀ {q:List Int} {acc:Span},(∀ i ∈ q,0<=i/\i < n)->Zfn acc (q.map (Um (List.replicate n (ZaY m))))=⟨acc.lo+q.length * m,acc.hi+q.length * m⟩
 | [],acc,_=>by simp [Zfn]
 | i :: q,acc,h=>by
  have hi:=h i (by simp);have e:Um (List.replicate n (ZaY m)) i=⟨m,m⟩:=by
   unfold Um;rw [List.getD_eq_getElem?_getD,List.getElem?_replicate,if_pos (by omega),Option.getD_some,Zk6]
  simp only [List.map_cons,Zfn,e];rw [Zcu (λj hj=>h j (by simp [hj]))];simp only [Zgt,List.length_cons];rw [show ((q.length+1:Nat):Int)=(q.length:Int)+1 from by omega,Int.add_mul];congr 1<;>omega
theorem Ut:∀ n:Nat,n<=10->Y9 n (-1) (VK n)=true/\Y9 n (-1) (Zfa n)=true/\(VK n ++ Zfa n).Nodup/\(VK n).length=(n+1) / 2/\(Zfa n).length=n / 2:=by decide
end Go.Azalai
namespace Go.Proofs.YtongccnhomncnaaGreatDoor.Ld
open Go Go.Sx Go.Azalai
def WE (m:Int) (n:Nat):List Pack:=List.replicate n (ZaY m)
def Za1 (n:Nat):Tied:=⟨VK n,Zfa n,[]⟩
theorem ZgE {m:Int} {n:Nat} (hm:0<=m/\m<=1000000) (hn:n<=10):CarB (WE m n) (Za1 n):=by
 obtain ⟨f1,f2,f3,f4,f5⟩:=Ut n hn;refine ⟨by simp [WE];omega,by simp [WE,Zqi hm],?_⟩;have hl:(WE m n).length=n:=List.length_replicate;simp only [ZeC,hl,Za1,f1,f2,Y9,Zap,List.append_nil,List.length_append,f4,f5,f3,Bool.and_eq_true,decide_eq_true_eq,true_and,and_true];omega
theorem ZmN:∀ n:Nat,n<=10->Wf (VK n)=true/\Wf (Zfa n)=true:=by decide
theorem Zab {m:Int} {n:Nat} {q:List Int} (h:∀ i ∈ q,0<=i/\i < (n:Int)):Ys (WE m n) q=⟨q.length * m,q.length * m⟩:=by
 rw [Ys,WE,Zcu h];simp [Z0]
theorem Zk9 {m:Int} {n:Nat} (hm:0<=m/\m<=1000000) (hn:n<=10):(∀ i ∈ VK n,0<=i/\i < (n:Int))/\(∀ i ∈ Zfa n,0<=i/\i < (n:Int)):=by
 have h:=ZgE hm hn;have hl:((WE m n).length:Int)=n:=by simp [WE]
 have h1:=h.left;have h2:=h.right;rw [hl] at h1 h2;exact ⟨h1,h2⟩
theorem Zhj {m:Int} {n:Nat} (hm:0<=m/\m<=1000000) (hn:n<=10):Ys (WE m n) (Zap (Za1 n))=⟨n * m,n * m⟩:=by
 obtain ⟨f1,f2,f3,f4,f5⟩:=Ut n hn;obtain ⟨g1,g2⟩:=Zk9 hm hn
 rw [Zab (λi hi=>by
  simp only [Zap,Za1,List.append_nil,List.mem_append] at hi
  exact hi.elim (g1 i) (g2 i))]
 have:((Zap (Za1 n)).length:Int)=n:=by
  simp only [Zap,Za1,List.append_nil,List.length_append,f4,f5];omega
 rw [this]
theorem ZgS {m:Int} {n:Nat} (hm:0<=m/\m<=1000000) (hn:n<=10):ZiK (WE m n) (Za1 n) ((n % 2:Nat) * m)=2:=by
 obtain ⟨f1,f2,f3,f4,f5⟩:=Ut n hn;obtain ⟨g1,g2⟩:=Zk9 hm hn;simp only [ZiK,Za1,Zab g1,Zab g2,f4,f5,ZAE];have e:(((n+1) / 2:Nat):Int) * m - ((n / 2:Nat):Int) * m=((n % 2:Nat):Int) * m:=by
  rw [<- Int.sub_mul];congr 1;omega
 have h0:0<=((n % 2:Nat):Int) * m:=Int.mul_nonneg (by omega) hm.1;rw [e,if_pos ⟨by omega,by omega⟩]
theorem ZhG {m:Int} {n:Nat} (hm:0<=m/\m<=1000000) (hn:n<=10) {can:Span} (hc:n * m<=can.lo) (hcc:can.lo<=can.hi):ZcW can (WE m n) (Za1 n) ((n % 2:Nat) * m)=2:=by
 unfold ZcW;rw [Zhj hm hn,ZgS hm hn,if_neg (by simp only;omega),if_neg (by simp only;omega)]
theorem ZBO {b:Breed} {c:Camel} (hb:ZK b=true) (hc:ZE b c=true):(Zeh b c).lo<=(Zeh b c).hi:=by
 have hbb:=Cm.breed_bd hb;have hf:=Cm.fit_bd hb hc;simp only [ZE,ZW,Bool.and_eq_true,decide_eq_true_eq] at hc;have hle:(Zed b c).lo<=(Zed b c).hi:=by
  have h1:=Zad (x:=2000 * c.water.lo) (y:=2000 * c.water.hi) (d:=b.full) (by omega) (by omega) (by omega);have h2:=Zad (x:=2000 * c.fat.lo) (y:=2000 * c.fat.hi) (d:=b.fed) (by omega) (by omega) (by omega);simp only [Zed];omega
 have hst:0<=b.strong.lo/\b.strong.lo<=b.strong.hi:=by omega
 refine Zad (by decide) (Int.mul_nonneg hst.1 hf.1) ?_;exact Int.mul_le_mul hst.2 hle hf.1 (by omega)
theorem Zc7 {q:Nat} (h:q % 2=0):VK (q+1)=VK q ++ [(q:Int)]/\Zfa (q+1)=Zfa q:=by
 simp [VK,Zfa,List.range_succ,List.filter_append,h]
theorem Zeo {q:Nat} (h:q % 2≠0):VK (q+1)=VK q/\Zfa (q+1)=Zfa q ++ [(q:Int)]:=by
 simp [VK,Zfa,List.range_succ,List.filter_append,h]
theorem Zc1 (m:Int) (n:Nat):WE m (n+1)=WE m n ++ [ZaY m]:=List.replicate_succ'
theorem Zmu (m:Int) (n:Nat):(WE m n).length=n:=List.length_replicate
theorem ZlB (n:Nat):(VK n).length<=n:=by
 simp only [VK,List.length_map];exact Nat.le_trans (List.length_filter_le _ _) (by simp)
theorem Ztu (n:Nat):(Zfa n).length<=n:=by
 simp only [Zfa,List.length_map];exact Nat.le_trans (List.length_filter_le _ _) (by simp)
theorem loaded_ok (s:Season) (p:Plan):Cp 3 [.agg (Zv s),.agg (ZQ p)] (B true):=by
 refine t3.1 (by simp [Zv,ZQ,Zl,Zg,Zr,Zi,Ze,Zk,Za]) (by simp) ?_;dsimp only [c3,r3,Zv,ZQ,go_sem];refine gh Zp ?_;dsimp only [go_sem];refine call ZiP ?_;dsimp only [go_sem];repeat (first | (refine gh Zp ?_;dsimp only [go_sem]) | (refine Zo rfl ?_;dsimp only [go_sem]))
 refine call (Zh5 s p) ?_;dsimp only [go_sem];refine gh Zp ?_;dsimp only [go_sem];by_cases hr:YW s p=true
 case neg =>
  refine Zs (by simpa using hr) ?_;dsimp only [go_sem];refine gh Zp ?_;dsimp only [go_sem]
 refine Zo (by simpa using hr) ?_;dsimp only [go_sem];have hP:=Zfm hr;have hn:=hP.ok.num;have hpl:=hP.plan;simp only [Wi,inR,Bool.and_eq_true,decide_eq_true_eq] at hpl;refine call (Zs7 s hP.ok.small p (by have:=hP.legs;omega)) ?_;dsimp only [Zm7,go_sem];have hE:(Vq s p).2.2.2=0:=by
  have:∀ (l:List Scene) (i:Nat),(Ug s p l i).2.2.2=0:=by
   intro l
   induction l with
   | nil=>intro i;rfl
   | cons x r ih=>intro i;simp only [Ug];split;rfl;exact ih _
  unfold Vq;simp only [hP.ok.ok,hP.plan];exact this _ _
 rw [hE];refine gh Zp ?_;dsimp only [go_sem];refine gh Zp ?_;dsimp only [go_sem];refine Zo rfl ?_;dsimp only [go_sem];repeat (refine gb ?_;dsimp only [go_sem])
 refine gh Zp ?_;dsimp only [go_sem];by_cases hg:(Vq s p).1=0/\p.animals≠0/\p.slabs<=10
 case neg =>
  refine Zs ?_ ?_
  . have:¬ ((Vq s p).1=0)\/p.animals=0\/10 < p.slabs:=by
     by_cases q1:(Vq s p).1=0
     . by_cases q2:p.animals=0
       . exact .inr (.inl q2)
       . exact .inr (.inr (by have:=λh=>hg ⟨q1,q2,h⟩;omega))
     . exact .inl q1
    rcases this with q | q | q<;>simp [q]
  dsimp only [go_sem];refine gh Zp ?_;dsimp only [go_sem]
 obtain ⟨hw0,ha0,hs10⟩:=hg;refine Zo (by simp [hw0,ha0];omega) ?_;dsimp only [go_sem];refine gh Zp ?_;dsimp only [go_sem];refine gh Zp ?_;dsimp only [go_sem];obtain ⟨n,hnS⟩:∃ n:Nat,p.slabs=(n:Int):=⟨p.slabs.toNat,by omega⟩
 have hn10:n<=10:=by omega
 refine gh (Yi (Yc 10 11 48 rfl rfl) (Yi (XE 2 0 1 3 rfl rfl) (Yi (XE 2 1 1 3 rfl rfl) (ZbF 2 (l':=[.mr 4 0,.mr 5 0,.sl false 1 []]) rfl (ZH Zq6 (ZH Zq6 (ZH YP λ_ _ _ _ _ h=>h))))))) ?_;dsimp only [go_sem];rw [hnS];refine Ym (λz:Nat × Nat × Nat × Nat=>[(54,I z.1),(10,.mr 3 z.2.1)])
  (λz=>[(2,.cells [.mr 4 z.2.2.1,.mr 5 z.2.2.2,.sl false 1 []] 45),(3,.row z.2.1 11 ((WE s.slab z.1).map Zx) 48),(4,.row z.2.2.1 1 ((VK z.1).map Zk) 3),(5,.row z.2.2.2 1 ((Zfa z.1).map Zk) 3)])
  (λz=>z.1<=n) (λz=>n - z.1) (0,0,0,0) (Nat.zero_le _) ?_ ?_
 . (refine Zj ?_ ?_ ?_ rfl rfl<;>dsimp only [Zv,Zl,Zg,Zr,Zi,Zx,Ze,Zk,VK,Zfa,WE,id,go_sem]<;>simp [Zv,Zl,Zg,Zr,Zi,Zx,Ze,Zk,VK,Zfa,WE,Za])
 rintro ⟨q,v0,v1,v2⟩ hq;simp only at hq;dsimp only [go_sem];refine gh Zp ?_;dsimp only [go_sem];by_cases hlt:q < n
 . refine Zs (by simpa using hlt) ?_;dsimp only [go_sem];refine gh Zp ?_;dsimp only [go_sem];refine call (ZaV _ _) ?_
   (repeat first | dsimp only [go_sem] | simp only [nbr])
   refine ⟨(by intro c hc;simp only [List.mem_singleton] at hc;subst hc;rfl),by simp [Zmu];omega,?_⟩
   (repeat first | dsimp only [go_sem] | simp only [nbr])
   refine gh Zp ?_;dsimp only [go_sem];refine Zjh (by decide) ?_;dsimp only [go_sem];refine gh Zp ?_;dsimp only [go_sem];have ht:ZvE .rem .i64 (q:Int) 2=((q % 2:Nat):Int):=by show (q:Int).tmod 2=_;rw [Int.tmod_eq_emod_of_nonneg (by omega)];omega
   rw [ht];by_cases h2:q % 2=0
   . refine Zs (by rw [h2];rfl) ?_
     (repeat first | dsimp only [go_sem] | simp only [nbr])
     refine ⟨(by intro c hc;simp only [List.mem_singleton] at hc;subst hc;rfl),by have:=ZlB q;simp;omega,?_⟩
     (repeat first | dsimp only [go_sem] | simp only [nbr])
     rw [Zf (n:=(q:Int)+1) (by omega) (by omega)];refine ⟨(q+1,v0+1,v1+1,v2),by simp only;omega,by simp only;omega,?_⟩;simp only [(Zc7 h2).1,(Zc7 h2).2,Zc1,List.map_append,List.map_cons,List.map_nil];(refine Zj ?_ ?_ ?_ rfl rfl<;>dsimp only [Zv,Zl,Zg,Zr,Zi,Zx,Ze,Zk,ZaY,Z0,Ld.U8,id,go_sem]<;>simp [Zv,Zl,Zg,Zr,Zi,Zx,Ze,Zk,ZaY,Z0,Ld.U8,Za])
   . have h1:q % 2=1:=by omega
     refine Zo (by rw [h1];rfl) ?_
     (repeat first | dsimp only [go_sem] | simp only [nbr])
     refine ⟨(by intro c hc;simp only [List.mem_singleton] at hc;subst hc;rfl),by have:=Ztu q;simp;omega,?_⟩
     (repeat first | dsimp only [go_sem] | simp only [nbr])
     rw [Zf (n:=(q:Int)+1) (by omega) (by omega)];refine ⟨(q+1,v0+1,v1,v2+1),by simp only;omega,by simp only;omega,?_⟩;simp only [(Zeo h2).1,(Zeo h2).2,Zc1,List.map_append,List.map_cons,List.map_nil];(refine Zj ?_ ?_ ?_ rfl rfl<;>dsimp only [Zv,Zl,Zg,Zr,Zi,Zx,Ze,Zk,ZaY,Z0,Ld.U8,id,go_sem]<;>simp [Zv,Zl,Zg,Zr,Zi,Zx,Ze,Zk,ZaY,Z0,Ld.U8,Za])
 . refine Zo (by simpa using hlt) ?_;dsimp only [go_sem];have hqe:q=n:=by omega
   subst hqe;refine gh (Yi (Zav 10 3 v0 rfl rfl rfl rfl) (Yi (Zhn 2 0 4 rfl rfl rfl rfl) (Zhn 2 1 5 rfl rfl rfl rfl))) ?_;dsimp only [List.set,go_sem];refine Zjh (by decide) ?_;dsimp only [go_sem];have ht:ZvE .rem .i64 (q:Int) 2=((q % 2:Nat):Int):=by show (q:Int).tmod 2=_;rw [Int.tmod_eq_emod_of_nonneg (by omega)];omega
   have hm:0<=s.slab/\s.slab<=1000000:=by omega
   have hmul:0<=((q % 2:Nat):Int) * s.slab/\((q % 2:Nat):Int) * s.slab<=1000000:=by
    rcases (show q % 2=0\/q % 2=1 from by omega) with e | e<;>rw [e]<;>simp<;>omega
   have hcar:=ZgE (m:=s.slab) (n:=q) hm hn10;have he:Uz s.breed s.camel=0:=Cm.errC_0.2 hP.ok.beast;rw [ht,Zf (n:=((q % 2:Nat):Int) * s.slab) (by omega) (by omega)];have hqm:0<=(q:Int) * s.slab/\(q:Int) * s.slab<=10000000:=by
    refine ⟨Int.mul_nonneg (by omega) hm.1,?_⟩;have:=Int.mul_le_mul (show (q:Int)<=10 by omega) hm.2 hm.1 (by decide);simpa using this
   have hlo:(q:Int) * s.slab<=(Zeh s.breed s.camel).lo:=by
    have hsc:=hP.ok.scs;obtain ⟨x,r,hx⟩:∃ x r,s.scenes=x :: r:=by
     cases hq:s.scenes with
     | nil=>rw [hq] at hsc;simp at hsc
     | cons x r=>exact ⟨x,r,rfl⟩
    have hf:(WJ s p x).1=0:=by
     have h1:=hw0;unfold Vq at h1;rw [if_neg (by simp [hP.ok.ok]),if_neg (by simp [hP.plan]),hx] at h1;simp only [Ug] at h1;by_cases h2:(WJ s p x).1=0
     . exact h2
     . rw [if_pos h2] at h1;exact h1
    have h3:=ZhW hP.ok hf ha0;rw [hnS] at h3;simpa only [Zfp,he,if_true] using h3
   have hlh:(Zeh s.breed s.camel).lo<=(Zeh s.breed s.camel).hi:=ZBO hP.ok.beast.1 hP.ok.beast.2;have hrd:=ZhG hm hn10 hlo hlh;refine call (Zkd s.breed s.camel (WE s.slab q) (Za1 q) (((q % 2:Nat):Int) * s.slab) false hcar he (by omega)) ?_;rw [hrd];dsimp only [Ld.U8,go_sem];refine gh Zp ?_;dsimp only [go_sem];refine call (ZnB (WE s.slab q) (Za1 q) false hcar) ?_;rw [Zhj hm hn10];dsimp only [Ze,go_sem]
   refine gh Zp ?_;dsimp only [go_sem];refine Zjh (by decide) ?_;dsimp only [go_sem];rw [ht,Zf (n:=((q % 2:Nat):Int) * s.slab) (by omega) (by omega)];obtain ⟨r1,r2⟩:=ZmN q hn10;refine call (Ziz (WE s.slab q) (Za1 q) (((q % 2:Nat):Int) * s.slab) false hcar (by omega) r1 r2 (ZgS hm hn10)) ?_;dsimp only [go_sem];refine gh Zp ?_;dsimp only [go_sem];repeat (first | (refine ZI rfl ?_;dsimp only [go_sem]) | (refine call (ZaV _ _) ?_;dsimp only [go_sem]) | (refine gh Zp ?_;dsimp only [go_sem]))
   rw [Zf (n:=(q:Int) * s.slab) (by omega) (by omega)];have hb:((q:Int) * s.slab == (q:Int) * s.slab && ((q:Int) * s.slab == (q:Int) * s.slab && true))=true:=by simp
   simp only [hb];repeat (first | (refine ZI rfl ?_;dsimp only [go_sem]) | (refine gh Zp ?_;dsimp only [go_sem]))
   rfl
end Go.Proofs.YtongccnhomncnaaGreatDoor.Ld
