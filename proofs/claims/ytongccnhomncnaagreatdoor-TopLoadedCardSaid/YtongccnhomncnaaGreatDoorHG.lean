/- Walks and plain laws that lead to the given statement, part 7 of 20. -/
import Derived.Test.YtongccnhomncnaaGreatDoorHF
import Derived.Test.YtongccnhomncnaaGreatDoorProg
set_option maxRecDepth 100000
set_option maxHeartbeats 4000000
set_option linter.all false
open Nat renaming beq_refl->nbr
namespace Go.Proofs.YtongccnhomncnaaGreatDoor.Ld
open Go Go.Sx Go.Azalai
theorem ZmV (L C:List Int) (hL:L.length<=12) (hC:C.length<=1000) (hr:Wf L=true) (c d:Bool) :
 Cp 144 [.sl c 1 (L.map Zk),.sl d 1 (C.map Zk),.ps [.sl false 1 []] 0] (.sl false 1 (L.map Zk)):=by
 refine t144.1 (by simp [Za,KFR,Zk]) (by simp [Za,Zk]) ?_;dsimp only [c144,r144,go_sem];refine gh Zp ?_;dsimp only [go_sem];refine ZA [] (ZnS L (by omega) c) rfl rfl rfl ?_ ?_ ?_
 . (repeat first | dsimp only [go_sem] | simp only [nbr])
   try simp [mtL,mtB,mtS,KFL,KF,KFR,Za,Zk,Zc]
 . trivial
 rintro _ (rfl | ⟨hnil,rfl⟩)
 . (repeat first | dsimp only [Zk,go_sem] | simp only [nbr])
   refine ZA [0] (Zw5 L 0 (by omega)) rfl rfl rfl ?_ ?_ ?_
   . (repeat first | dsimp only [go_sem] | simp only [nbr])
     try simp [mtL,mtB,mtS,KFL,KF,KFR]
   . (repeat first | dsimp only [Zk,go_sem] | simp only [nbr])
     try simp [mtL,mtB,mtS,Zc,KFL,KF,KFR,Za,mtH,mtM,Zk]
   rintro _ rfl
   (repeat first | dsimp only [Zk,go_sem] | simp only [nbr])
   refine gh Zp ?_;dsimp only [go_sem];refine gh Zp ?_;dsimp only [go_sem];refine Ym (λk:Nat=>[(15,I k)]) (λ_=>[]) (λk=>k<=C.length) (λk=>C.length - k) 0 (Nat.zero_le _) ?_ ?_
   . (refine Zj ?_ ?_ ?_ rfl rfl<;>dsimp only [Zk,id,go_sem]<;>simp [Zk,Za])
   intro k hk;dsimp only [go_sem];refine gh Zp ?_;dsimp only [go_sem];simp only [List.length_map];by_cases hlt:k < C.length
   . refine Zs (by simpa using hlt) ?_;dsimp only [go_sem];refine Zn k hlt rfl ?_;dsimp only [Zk,go_sem];refine gh Zp ?_;dsimp only [go_sem];refine call (Zcc C[k]) ?_;dsimp only [go_sem];refine gh Zp ?_;dsimp only [go_sem];refine Zo rfl ?_;dsimp only [go_sem];rw [Zf (n:=(k:Int)+1) (by omega) (by omega)];refine ⟨k+1,by omega,by omega,?_⟩;(refine Zj ?_ ?_ ?_ rfl rfl<;>dsimp only [Zk,id,go_sem]<;>simp [Zk,Za])
   refine Zo (by simpa using hlt) ?_;dsimp only [go_sem];refine ZA [0] (Zdt L 0 hL) rfl rfl rfl ?_ ?_ ?_
   . (repeat first | dsimp only [go_sem] | simp only [nbr])
     try simp [mtL,mtB,mtS,KFL,KF,KFR]
   . (repeat first | dsimp only [Zk,go_sem] | simp only [nbr])
     try simp [mtL,mtB,mtS,Zc,KFL,KF,KFR,Za,mtH,mtM,Zk]
   rintro _ ⟨L',e1,e2,rfl⟩;obtain rfl:=e2 hr
   (repeat first | dsimp only [Zk,go_sem] | simp only [nbr])
   refine gh Zp ?_;dsimp only [go_sem];refine gh Zp ?_;dsimp only [go_sem]
 . subst hnil
   (repeat first | dsimp only [Zk,go_sem] | simp only [nbr])
   refine ZA [] Zxm rfl rfl rfl ?_ ?_ ?_
   . (repeat first | dsimp only [go_sem] | simp only [nbr])
     try simp [mtL,mtB,mtS,KFL,KF,KFR]
   . trivial
   rintro _ rfl
   (repeat first | dsimp only [Zk,go_sem] | simp only [nbr])
   refine gh (Yc 6 1 3 rfl rfl) ?_;dsimp only [go_sem];refine gh Zp ?_;dsimp only [go_sem];refine Ym (λk:Nat=>[(15,I k)]) (λ_=>[]) (λk=>k<=C.length) (λk=>C.length - k) 0 (Nat.zero_le _) ?_ ?_
   . (refine Zj ?_ ?_ ?_ rfl rfl<;>dsimp only [Zk,id,go_sem]<;>simp [Zk,Za])
   intro k hk;dsimp only [go_sem];refine gh Zp ?_;dsimp only [go_sem];simp only [List.length_map];by_cases hlt:k < C.length
   . refine Zs (by simpa using hlt) ?_;dsimp only [go_sem];refine Zn k hlt rfl ?_;dsimp only [Zk,go_sem];refine gh Zp ?_;dsimp only [go_sem];refine call (Zcc C[k]) ?_;dsimp only [go_sem];refine gh Zp ?_;dsimp only [go_sem];refine Zo rfl ?_;dsimp only [go_sem];rw [Zf (n:=(k:Int)+1) (by omega) (by omega)];refine ⟨k+1,by omega,by omega,?_⟩;(refine Zj ?_ ?_ ?_ rfl rfl<;>dsimp only [Zk,id,go_sem]<;>simp [Zk,Za])
   refine Zo (by simpa using hlt) ?_;dsimp only [go_sem];refine ZA [0] (Zdt [] 0 (by simp)) rfl rfl rfl ?_ ?_ ?_
   . (repeat first | dsimp only [go_sem] | simp only [nbr])
     try simp [mtL,mtB,mtS,KFL,KF,KFR]
   . (repeat first | dsimp only [Zk,go_sem] | simp only [nbr])
     try simp [mtL,mtB,mtS,Zc,KFL,KF,KFR,Za,mtH,mtM,Zk]
   rintro _ ⟨L',e1,e2,rfl⟩;obtain rfl:=e2 hr
   (repeat first | dsimp only [Zk,go_sem] | simp only [nbr])
   refine gh Zp ?_;dsimp only [go_sem];refine gh Zp ?_;dsimp only [go_sem]
theorem UJ (l:List Pack) (t:Tied) (h1:t.left.length<=12) (h2:t.right.length<=12) (r1:Wf t.left=true) (r2:Wf t.right=true):Cp 88 [.agg (XI l t),.sl false 1 []] (.agg (XI l t)):=by
 refine t88.1 (by simp [XI,Za,Ze,Zk,KFR]) (by simp [XI,Za,Ze,Zk]) ?_;dsimp only [c88,r88,XI,go_sem];refine gh Zp ?_;dsimp only [go_sem];refine gh (ZlN 5 1 rfl rfl rfl rfl) ?_;dsimp only [go_sem];refine call (ZmV t.left t.right h1 (by omega) r1 false false) ?_;dsimp only [go_sem];refine call (ZmV t.right t.left h2 (by omega) r2 false false) ?_;dsimp only [go_sem];refine gh Zp ?_;dsimp only [go_sem]
end Go.Proofs.YtongccnhomncnaaGreatDoor.Ld
namespace Go.Proofs.YtongccnhomncnaaGreatDoor
open Go Go.Sx
def ce84:SC:=(sr1 [o1 2 (.mv (.c (.slice none 0 0)))] (sr1 [Jk 3 0] (.seq (sr1 [m1 9 0,o1 10 (Jl 9),Jk 11 0] (.block 0 (.loop (sr1 [o1 12 (Jb .lss 11 10)] (.seq (Ji 12 .skip (.exit 0)) (.seq (.block 1 (sr1 [o1 13 (Jx 9 11 1),o1 14 (lf 13 1),m1 5 14]
 (sr1 [m1 15 3,m1 16 5,o1 17 (Jl 16),o1 18 (Jb .add 15 17),m1 3 18] (sr1 [m1 19 3,o1 20 (Jc .lss 19 0)] (Ji 20 (.reg [o1 21 (.raw (Go.Op.makeInterface 9 (Go.Operand.const (Go.Value.string { data:=#[108,101,110,32,111,117,116,32,111,102,32,114,97,110,103,101] })))
 20),⟨none,.raw (Go.Op.panic (Go.Operand.tmp 21)) 0,none,[]⟩]) .skip))))) (.reg [o1 22 (Jc .add 11 1),m1 11 22]))))))) (sr1 [m1 23 3,o1 24 (.callm 139 [.c (.slice none 0 0),.t 23]),m1 6 24] (.gh (.seq (sr1 [m1 25 0,o1 26 (Jl 25),Jk 27 0] (.block 2
 (.loop (sr1 [o1 28 (Jb .lss 27 26)] (.seq (Ji 28 .skip (.exit 2)) (.seq (.block 3 (sr1 [o1 29 (Jx 25 27 1),o1 30 (lf 29 1),m1 8 30] (.reg [m1 31 6,m1 32 8,o1 33 (.appm 1 8 3 (.t 31) (.t 32)),m1 6 33]))) (.reg [o1 34 (Jc .add 27 1),m1 27 34])))))))
 (sr1 [m1 35 6,m1 2 35] .ret)))))))
def re84:List RV:=[.tmp 2]
theorem ne84:Tryz.f84.ntmps=36:=by kernel_rfl
theorem be84:Z4 Tryz.prog 84=true:=by kernel_rfl
theorem ZvB:YR Tryz.prog ce84 ((Tryz.f84.body).getD .skip)=true:=by kernel_rfl
theorem Zym:Y2 Tryz.prog re84 Tryz.f84.results.toList=true:=by kernel_rfl
theorem me84 {n0:Nat} {hp0:Lh} {args:Ls} {Zz:Ot->Prop} (hh:hpb n0 hp0) (hx:∀ o,Zz o->KX o.res/\KXP o.hp) (h:sx Tryz.prog Y0 n0 ce84 ⟨YT 0 args,hp0,n0,36,[]⟩ (X0 re84 λo=>∃ o',Zz o'/\WI n0 o o')) (hA:Nat.ble args.length 36=true:=by rfl):Cq 84 hp0 n0 args Zz:=ZB Tryz.func84 rfl be84 ZvB Zym ne84 (Nat.le_of_ble_eq_true hA) hh hx h
end Go.Proofs.YtongccnhomncnaaGreatDoor
namespace Go.Proofs.YtongccnhomncnaaGreatDoor.Ld
open Go Go.Sx Go.Azalai
theorem Zax (a b:List Int) (ha:a.length<=1000) (hb:b.length<=1000) (k:Bool) :
 Cq 84 [] 0 [.sl k 1 [[.sl false 1 (a.map Zk)],[.sl false 1 (b.map Zk)]]] (λo=>∃ v,o=⟨false,.mr 0 v,[(0,.row v 1 ((a ++ b).map Zk) 3)],1⟩):=by
 refine me84 (by simp [hpb]) (λo ho=>by obtain ⟨v,rfl⟩:=ho;simp [KX,KXL,KXP,KXH,Zd,Za,Zk,KFL,KF]) ?_;dsimp only [ce84,re84,go_sem];refine ZX 3 ?_;dsimp only [Zb,go_sem];refine Zs rfl ?_;dsimp only [go_sem];refine ixs 0 _ rfl rfl ?_;dsimp only [go_sem];simp only [List.length_map];rw [Zf (n:=0+(a.length:Int)) (by omega) (by omega)];refine Zo (by simp) ?_;dsimp only [Zb,go_sem];refine Zs rfl ?_;dsimp only [go_sem]
 refine ixs 1 _ rfl rfl ?_;dsimp only [go_sem];simp only [List.length_map];rw [Zf (n:=0+(a.length:Int)+(b.length:Int)) (by omega) (by omega)];refine Zo (by simp;omega) ?_;dsimp only [Zb,go_sem];refine Zo rfl ?_;dsimp only [go_sem];have hn:(0+(a.length:Int)+(b.length:Int))=((a.length+b.length:Nat):Int):=by omega
 rw [hn];have one:∀ q:List Int,∀ r ∈ q.map Zk,Yu r=true:=λq r hr=>by obtain ⟨x,_,rfl⟩:=List.mem_map.1 hr;rfl
 by_cases h0:a.length+b.length=0
 . rw [h0];refine ZA [] Zg6 rfl rfl rfl ?_ ?_ ?_
   . (repeat first | dsimp only [go_sem] | simp only [nbr])
     try simp [mtL,mtB,mtS]
   . trivial
   rintro _ rfl
   (repeat first | dsimp only [go_sem] | simp only [nbr])
   refine gh (Yc 6 1 3 rfl rfl) ?_;dsimp only [go_sem];refine ZX 3 ?_;dsimp only [Zb,go_sem];refine Zs rfl ?_;dsimp only [go_sem];refine ixs 0 _ rfl rfl ?_;dsimp only [go_sem];refine ⟨one a,by simp;omega,?_⟩;dsimp only [Zb,go_sem];refine Zs rfl ?_;dsimp only [go_sem];refine ixs 1 _ rfl rfl ?_;dsimp only [go_sem];refine ⟨one b,by simp;omega,?_⟩;dsimp only [Zb,go_sem];refine Zo rfl ?_;dsimp only [go_sem]
   refine ⟨_,⟨2,rfl⟩,?_⟩;(refine Zw ?_ ?_ ?_ rfl<;>dsimp only [Zk,id,go_sem]<;>simp [Zk,Za])
 . refine ZA [] (Zg5 (a.length+b.length) (by omega) (by omega)) rfl rfl rfl ?_ ?_ ?_
   . (repeat first | dsimp only [go_sem] | simp only [nbr])
     try simp [mtL,mtB,mtS]
   . trivial
   rintro _ rfl
   (repeat first | dsimp only [go_sem] | simp only [nbr])
   refine gh Zp ?_;dsimp only [go_sem];refine ZX 3 ?_;dsimp only [Zb,go_sem];refine Zs rfl ?_;dsimp only [go_sem];refine ixs 0 _ rfl rfl ?_;dsimp only [go_sem];refine ⟨one a,by simp;omega,?_⟩;dsimp only [Zb,go_sem];refine Zs rfl ?_;dsimp only [go_sem];refine ixs 1 _ rfl rfl ?_;dsimp only [go_sem];refine ⟨one b,by simp;omega,?_⟩;dsimp only [Zb,go_sem];refine Zo rfl ?_;dsimp only [go_sem];refine ⟨_,⟨3,rfl⟩,?_⟩
   (refine Zw ?_ ?_ ?_ rfl<;>dsimp only [Zk,id,go_sem]<;>simp [Zk,Za])
end Go.Proofs.YtongccnhomncnaaGreatDoor.Ld
namespace Go.Proofs.YtongccnhomncnaaGreatDoor
open Go Go.Sx
def c21:SC:=(sr1 [o1 1 (Jz 0 0 34),Jw 2 Jf] (.seq (sr1 [o1 4 (ao 1 0),o1 5 (lt 4 2),o1 6 (J1 39 5),m1 7 6,g1 8 7 false (ao 1 36),g1 9 7 false (lf 8 1),g1 10 7 false (Jl 9),g1 11 7 false (Jc .gtr 10 8),o1 12 (.pick (.t 7) Jt (.t 11))] (Ji 12 (sr1 [Jw 2
 Jt] .ret) .skip)) (.seq (sr1 [Jk 3 0] (.block 0 (.loop (.seq (sr1 [m1 13 3,o1 14 (ao 1 36),o1 15 (lf 14 1),o1 16 (Jl 15),o1 17 (Jb .lss 13 16)] (Ji 17 .skip (.exit 0))) (.seq (.block 1 (sr1 [o1 20 (ao 1 36),o1 21 (lf 20 1),m1 22 3,o1 23 (Jx 21 22
 6),o1 24 (ao 23 4),o1 25 (lf 24 1),o1 26 (Jl 25),o1 27 (Jc .gtr 26 20),m1 28 27,g1 29 28 false (ao 1 36),g1 30 28 false (lf 29 1),g1 31 28 false (.mv (.t 3)),g1 32 28 false (Jx 30 31 6),g1 33 28 false (ao 32 5),g1 34 28 false (lf 33 1),g1 35 28 false
 (Jl 34),g1 36 28 false (Jc .gtr 35 20),o1 37 (.pick (.t 28) Jt (.t 36))] (Ji 37 (sr1 [Jw 2 Jt] .ret) .skip))) (.reg [m1 18 3,o1 19 (Jc .add 18 1),m1 3 19])))))) (sr1 [Jw 2 Jf] .ret))))
def r21:List RV:=[.tmp 2]
theorem t21:Qt1 Tryz.prog 21 c21 r21 38:=ZF Tryz.func21
def c46:SC:=(sr1 [o1 1 (Jz 0 0 34),Jk 2 0] (sr1 [o1 9 (ao 1 0),o1 10 (ao 9 0),o1 11 (lf 10 1),o1 12 (Jl 11),m1 3 12] (sr1 [o1 14 (ao 1 0),o1 15 (lt 14 2),o1 16 (ao 1 33),o1 17 (lf 16 1),o1 18 (ao 1 34),o1 19 (lf 18 1),o1 20 (ao 1 2),o1 21 (lt 20 2),o1
 22 (J4 101 15 17 19 21),m1 13 22,o1 23 (Je 13 0),o1 24 (Je 13 1),m1 4 23,m1 5 24] (sr1 [o1 25 (ao 1 28),o1 26 (lf 25 1),o1 27 (.bsl 1 3 [.t 26]),o1 28 (.call 69 [cn 1,cn 30,.t 27]),m1 29 28,g1 30 29 true (ao 1 29),g1 31 29 true (lf 30 1),g1 32 29
 true (.bsl 1 3 [.t 31]),g1 33 29 true (.call 69 [cn 1,cn 24,.t 32]),o1 34 (.pick (.t 29) (.t 33) Jf),m1 35 34,g1 36 35 true (ao 1 30),g1 37 35 true (lf 36 1),g1 38 35 true (.bsl 1 3 [.t 37]),g1 39 35 true (.call 69 [cn 1,cn 1000000,.t 38]),o1 40
 (.pick (.t 35) (.t 39) Jf),m1 41 40,g1 42 41 true (ao 1 31),g1 43 41 true (lf 42 1),g1 44 41 true (ao 1 32),g1 45 41 true (lf 44 1),g1 46 41 true (.bsl 1 3 [.t 43,.t 45]),g1 47 41 true (.call 69 [cn 0,cn 1000000,.t 46]),o1 48 (.pick (.t 41) (.t 47)
 Jf),m1 49 48,g1 50 49 true (ao 1 35),g1 51 49 true (lf 50 1),g1 52 49 true (ao 1 34),g1 53 49 true (lf 52 1),g1 54 49 true (.bsl 1 3 [.t 53]),g1 55 49 true (.call 69 [cn 0,.t 51,.t 54]),o1 56 (.pick (.t 49) (.t 55) Jf),m1 57 56,g1 58 57 true (ao 1
 35),g1 59 57 true (lf 58 1),g1 60 57 true (Jc .leq 59 100000),o1 61 (.pick (.t 57) (.t 60) Jf),m1 6 61] (.seq (sr1 [m1 62 5,o1 63 (Jc .neq 62 0),m1 64 63,g1 65 64 false (ao 1 4),g1 66 64 false (lt 65 17),g1 67 64 false (ao 1 21),g1 68 64 false (lt 67
 7),g1 69 64 false (J2 79 66 68),g1 70 64 false (Jc .neq 69 0),o1 71 (.pick (.t 64) Jt (.t 70)),m1 72 71,g1 73 72 false (.mv (.t 6)),g1 74 72 false (Jh 73),o1 75 (.pick (.t 72) Jt (.t 74)),m1 76 75,g1 77 76 false (ao 1 36),g1 78 76 false (lf 77 1),g1
 79 76 false (Jl 78),g1 80 76 false (.bsl 1 3 [.t 79]),g1 81 76 false (.call 69 [cn 1,cn 4,.t 80]),g1 82 76 false (Jh 81),o1 83 (.pick (.t 76) Jt (.t 82))] (Ji 83 (sr1 [Jk 2 90] .ret) .skip)) (.seq (sr1 [o1 84 (ao 1 36),o1 85 (lf 84 1),o1 86 (Jl
 85),Jk 87 0] (.block 0 (.loop (sr1 [o1 88 (Jb .lss 87 86)] (.seq (Ji 88 .skip (.exit 0)) (.seq (.block 1 (sr1 [o1 89 (Jx 85 87 6),o1 90 (lt 89 6),o1 8 (.alloc ZAD 139),Js 8 90 6] (sr1 [o1 91 (ao 8 0),o1 92 (lt 91 2),o1 93 (.bsl 2 27 [.t 92]),o1 94
 (.call 102 [cn 0,cn 60,.t 93]),o1 95 (Jh 94),m1 96 95,g1 97 96 false (ao 8 2),g1 98 96 false (lt 97 2),g1 99 96 false (.bsl 2 27 [.t 98]),g1 100 96 false (.call 102 [cn 0,cn 1000000,.t 99]),g1 101 96 false (Jh 100),o1 102 (.pick (.t 96) Jt (.t
 101)),m1 103 102,g1 104 103 false (ao 8 4),g1 105 103 false (lf 104 1),g1 106 103 false (Jl 105),g1 107 103 false (.mv (.t 3)),g1 108 103 false (Jb .neq 106 107),o1 109 (.pick (.t 103) Jt (.t 108)),m1 110 109,g1 111 110 false (ao 8 4),g1 112 110
 false (lf 111 1),g1 113 110 false (.call 102 [cn 0,cn 10000000,.t 112]),g1 114 110 false (Jh 113),o1 115 (.pick (.t 110) Jt (.t 114)),m1 116 115,g1 117 116 false (ao 8 5),g1 118 116 false (lf 117 1),g1 119 116 false (Jl 118),g1 120 116 false (.mv (.t
 3)),g1 121 116 false (Jb .neq 119 120),o1 122 (.pick (.t 116) Jt (.t 121)),m1 123 122,g1 124 123 false (ao 8 5),g1 125 123 false (lf 124 1),g1 126 123 false (.call 69 [cn 0,cn 1000000,.t 125]),g1 127 123 false (Jh 126),o1 128 (.pick (.t 123) Jt (.t
 127))] (Ji 128 (sr1 [Jk 2 90] .ret) .skip)))) (.reg [o1 129 (Jc .add 87 1),m1 87 129]))))))) (sr1 [Jk 2 0] .ret)))))))
def r46:List RV:=[.tmp 2]
theorem t46:Qt1 Tryz.prog 46 c46 r46 130:=ZF Tryz.func46
def c22:SC:=(sr1 [o1 1 (Jz 0 0 34),Jk 2 0] (.seq (sr1 [o1 3 (lt 1 37),o1 4 (J1 65 3),o1 5 (Jh 4)] (Ji 5 (sr1 [Jk 2 90] .ret) .skip)) (sr1 [Jk 2 0] .ret)))
def r22:List RV:=[.tmp 2]
theorem t22:Qt1 Tryz.prog 22 c22 r22 6:=ZF Tryz.func22
def c20:SC:=(sr1 [o1 2 (Jz 0 0 37),o1 3 (Jz 1 0 37),Jw 4 Jf] (sr1 [o1 5 (ao 2 1),o1 6 (lf 5 1),o1 7 (ao 3 1),o1 8 (lf 7 1),o1 9 (Jb .eql 6 8),m1 10 9,g1 11 10 true (ao 2 2),g1 12 10 true (lf 11 1),g1 13 10 true (ao 3 2),g1 14 10 true (lf 13 1),g1 15
 10 true (Jb .eql 12 14),o1 16 (.pick (.t 10) (.t 15) Jf),m1 17 16,g1 18 17 true (ao 2 0),g1 19 17 true (lf 18 1),g1 20 17 true (ao 3 0),g1 21 17 true (lf 20 1),g1 22 17 true (J2 64 19 21),o1 23 (.pick (.t 17) (.t 22) Jf),m1 4 23] .ret))
def r20:List RV:=[.tmp 4]
theorem t20:Qt1 Tryz.prog 20 c20 r20 24:=ZF Tryz.func20
def c24:SC:=(sr1 [o1 2 (Jz 0 0 34),o1 3 (Jz 1 0 37),Jk 4 0] (.seq (sr1 [o1 8 (lt 2 37),o1 9 (J1 46 8),m1 5 9] (sr1 [m1 10 5,o1 11 (Jc .neq 10 0)] (Ji 11 (sr1 [m1 12 5,m1 4 12] .ret) .skip))) (.seq (sr1 [o1 14 (lt 2 37),o1 15 (ao 3 0),o1 16 (lf 15
 1),o1 17 (J2 68 14 16),m1 13 17,o1 18 (Je 13 0),o1 19 (Je 13 1),m1 6 18,m1 7 19] (sr1 [m1 20 7,o1 21 (Jh 20),m1 22 21,g1 23 22 false (ao 2 28),g1 24 22 false (lf 23 1),g1 25 22 false (ao 3 1),g1 26 22 false (lf 25 1),g1 27 22 false (.bsl 1 3 [.t
 26]),g1 28 22 false (.call 69 [cn 0,.t 24,.t 27]),g1 29 22 false (Jh 28),o1 30 (.pick (.t 22) Jt (.t 29)),m1 31 30,g1 32 31 false (ao 3 2),g1 33 31 false (lf 32 1),g1 34 31 false (.bsl 1 3 [.t 33]),g1 35 31 false (.call 69 [cn 0,cn 12,.t 34]),g1 36
 31 false (Jh 35),o1 37 (.pick (.t 31) Jt (.t 36))] (Ji 37 (sr1 [Jk 4 91] .ret) .skip))) (sr1 [Jk 4 0] .ret))))
def r24:List RV:=[.tmp 4]
theorem t24:Qt1 Tryz.prog 24 c24 r24 38:=ZF Tryz.func24
def c65:SC:=(sr1 [o1 1 (Jz 0 0 34),Jw 2 Jf] (.seq (sr1 [o1 6 (ao 1 0),o1 7 (lt 6 2),o1 8 (J1 122 7),o1 9 (Jc .neq 8 0),m1 10 9,g1 11 10 false (ao 1 2),g1 12 10 false (lt 11 2),g1 13 10 false (J1 123 12),g1 14 10 false (Jh 13),o1 15 (.pick (.t 10) Jt
 (.t 14)),m1 16 15,g1 17 16 false (ao 1 4),g1 18 16 false (lt 17 17),g1 19 16 false (ao 1 21),g1 20 16 false (lt 19 7),g1 21 16 false (J2 124 18 20),g1 22 16 false (Jc .neq 21 0),o1 23 (.pick (.t 16) Jt (.t 22))] (Ji 23 (sr1 [Jw 2 Jf] .ret) .skip))
 (.seq (sr1 [o1 24 (ao 1 28),o1 25 (lf 24 1),o1 26 (.call 67 [.t 25,cn 1,cn 30]),o1 27 (Jh 26),m1 28 27,g1 29 28 false (ao 1 29),g1 30 28 false (lf 29 1),g1 31 28 false (.call 67 [.t 30,cn 1,cn 24]),g1 32 28 false (Jh 31),o1 33 (.pick (.t 28) Jt (.t
 32)),m1 34 33,g1 35 34 false (ao 1 30),g1 36 34 false (lf 35 1),g1 37 34 false (.call 67 [.t 36,cn 1,cn 1000000]),g1 38 34 false (Jh 37),o1 39 (.pick (.t 34) Jt (.t 38)),m1 40 39,g1 41 40 false (ao 1 31),g1 42 40 false (lf 41 1),g1 43 40 false (.call
 67 [.t 42,cn 0,cn 1000000]),g1 44 40 false (Jh 43),o1 45 (.pick (.t 40) Jt (.t 44)),m1 46 45,g1 47 46 false (ao 1 32),g1 48 46 false (lf 47 1),g1 49 46 false (.call 67 [.t 48,cn 0,cn 1000000]),g1 50 46 false (Jh 49),o1 51 (.pick (.t 46) Jt (.t 50))]
 (Ji 51 (sr1 [Jw 2 Jf] .ret) .skip)) (.seq (sr1 [o1 52 (ao 1 33),o1 53 (lf 52 1),o1 54 (ao 1 0),o1 55 (ao 54 0),o1 56 (lf 55 1),o1 57 (Jl 56),o1 58 (Jc .sub 57 1),o1 59 (.call 67 [.t 53,cn 0,.t 58]),o1 60 (Jh 59),m1 61 60,g1 62 61 false (ao 1 34),g1
 63 61 false (lf 62 1),g1 64 61 false (ao 1 35),g1 65 61 false (lf 64 1),g1 66 61 false (.call 67 [.t 63,cn 0,.t 65]),g1 67 61 false (Jh 66),o1 68 (.pick (.t 61) Jt (.t 67)),m1 69 68,g1 70 69 false (ao 1 35),g1 71 69 false (lf 70 1),g1 72 69 false (Jc
 .gtr 71 100000),o1 73 (.pick (.t 69) Jt (.t 72)),m1 74 73,g1 75 74 false (ao 1 36),g1 76 74 false (lf 75 1),g1 77 74 false (Jl 76),g1 78 74 false (.call 67 [.t 77,cn 1,cn 4]),g1 79 74 false (Jh 78),o1 80 (.pick (.t 74) Jt (.t 79))] (Ji 80 (sr1 [Jw 2
 Jf] .ret) .skip)) (.seq (sr1 [Jk 3 0] (.block 0 (.loop (.seq (sr1 [m1 81 3,o1 82 (ao 1 36),o1 83 (lf 82 1),o1 84 (Jl 83),o1 85 (Jb .lss 81 84)] (Ji 85 .skip (.exit 0))) (.seq (.block 1 (sr1 [o1 88 (ao 1 36),o1 89 (lf 88 1),m1 90 3,o1 91 (Jx 89 90
 6),o1 92 (lt 91 6),o1 4 (.alloc ZAD 139),Js 4 92 6] (.seq (sr1 [o1 93 (ao 4 0),o1 94 (lt 93 2),o1 95 (.call 125 [.t 94,cn 0,cn 60]),o1 96 (Jh 95),m1 97 96,g1 98 97 false (ao 4 2),g1 99 97 false (lt 98 2),g1 100 97 false (.call 125 [.t 99,cn 0,cn
 1000000]),g1 101 97 false (Jh 100),o1 102 (.pick (.t 97) Jt (.t 101)),m1 103 102,g1 104 103 false (ao 4 4),g1 105 103 false (lf 104 1),g1 106 103 false (Jl 105),g1 107 103 false (ao 1 0),g1 108 103 false (ao 107 0),g1 109 103 false (lf 108 1),g1 110
 103 false (Jl 109),g1 111 103 false (Jb .neq 106 110),o1 112 (.pick (.t 103) Jt (.t 111)),m1 113 112,g1 114 113 false (ao 4 5),g1 115 113 false (lf 114 1),g1 116 113 false (Jl 115),g1 117 113 false (ao 1 0),g1 118 113 false (ao 117 0),g1 119 113
 false (lf 118 1),g1 120 113 false (Jl 119),g1 121 113 false (Jb .neq 116 120),o1 122 (.pick (.t 113) Jt (.t 121))] (Ji 122 (sr1 [Jw 2 Jf] .ret) .skip)) (sr1 [Jk 5 0] (.block 2 (.loop (.seq (sr1 [m1 123 5,o1 124 (ao 4 4),o1 125 (lf 124 1),o1 126 (Jl
 125),o1 127 (Jb .lss 123 126)] (Ji 127 .skip (.exit 2))) (.seq (.block 3 (sr1 [o1 130 (ao 4 4),o1 131 (lf 130 1),m1 132 5,o1 133 (Jx 131 132 2),o1 134 (lt 133 2),o1 135 (.call 125 [.t 134,cn 0,cn 10000000]),o1 136 (Jh 135),m1 137 136,g1 138 137 false
 (ao 4 5),g1 139 137 false (lf 138 1),g1 140 137 false (.mv (.t 5)),g1 141 137 false (Jx 139 140 1),g1 142 137 false (lf 141 1),g1 143 137 false (.call 67 [.t 142,cn 0,cn 1000000]),g1 144 137 false (Jh 143),o1 145 (.pick (.t 137) Jt (.t 144))] (Ji 145
 (sr1 [Jw 2 Jf] .ret) .skip))) (.reg [m1 128 5,o1 129 (Jc .add 128 1),m1 5 129]))))))))) (.reg [m1 86 3,o1 87 (Jc .add 86 1),m1 3 87])))))) (sr1 [Jw 2 Jt] .ret))))))
def r65:List RV:=[.tmp 2]
theorem t65:Qt1 Tryz.prog 65 c65 r65 146:=ZF Tryz.func65
def c69:SC:=(sr1 [o1 3 (Jz 0 0 3),o1 4 (Jz 1 0 3),Jw 6 Jf] (sr1 [m1 7 2,o1 8 (.mkf 126 [.t 3,.t 4]),o1 9 (J2 107 7 8),o1 10 (Jh 9),m1 6 10] .ret))
def r69:List RV:=[.tmp 6]
theorem t69:Qt1 Tryz.prog 69 c69 r69 11:=ZF Tryz.func69
def c102:SC:=(sr1 [o1 3 (Jz 0 0 3),o1 4 (Jz 1 0 3),Jw 6 Jf] (sr1 [m1 7 2,o1 8 (.mkf 169 [.t 3,.t 4]),o1 9 (J2 168 7 8),o1 10 (Jh 9),m1 6 10] .ret))
def r102:List RV:=[.tmp 6]
theorem t102:Qt1 Tryz.prog 102 c102 r102 11:=ZF Tryz.func102
def c68:SC:=(sr1 [o1 2 (Jz 0 0 34),Jk 4 0,Jw 5 Jf] (sr1 [o1 10 (.raw (Go.Op.makeMap 168 Option.none) 168),o1 11 (ao 2 33),o1 12 (lf 11 1),⟨none,.raw (Go.Op.insert 168 (Go.Operand.tmp 10) (Go.Operand.tmp 12) (Go.Operand.const (Go.Value.bool
 Bool.true))) 0,none,[]⟩,m1 13 10,m1 6 13] (sr1 [o1 14 (ao 2 33),o1 15 (lf 14 1),m1 4 15] (.seq (sr1 [m1 16 1,o1 17 (Jl 16),Jk 18 0] (.block 0 (.loop (sr1 [o1 19 (Jb .lss 18 17)] (.seq (Ji 19 .skip (.exit 0)) (.seq (.block 1 (sr1 [o1 20 (Jx 16 18
 1),o1 21 (lf 20 1),m1 8 21] (.seq (sr1 [o1 22 (ao 2 0),o1 23 (ao 22 1),o1 24 (lf 23 1),o1 25 (Jl 24),o1 26 (Jc .sub 25 1),m1 27 8,o1 28 (.bsl 1 3 [.t 27]),o1 29 (.call 69 [cn 0,.t 26,.t 28]),o1 30 (Jh 29)] (Ji 30 (sr1 [Jk 4 0,Jw 5 Jf] .ret) .skip))
 (sr1 [o1 31 (ao 2 0),o1 32 (ao 31 1),o1 33 (lf 32 1),m1 34 8,o1 35 (Jx 33 34 5),o1 36 (lt 35 5),o1 9 (.alloc ZAw 187),Js 9 36 5] (.seq (sr1 [m1 37 4,o1 38 (ao 9 0),o1 39 (lf 38 1),o1 40 (Jb .neq 37 39),m1 41 40,g1 42 41 true (.mv (.t 4)),g1 43 41
 true (ao 9 1),g1 44 41 true (lf 43 1),g1 45 41 true (Jb .neq 42 44),o1 46 (.pick (.t 41) (.t 45) Jf)] (Ji 46 (sr1 [Jk 4 0,Jw 5 Jf] .ret) .skip)) (sr1 [o1 47 (ao 9 0),o1 48 (lf 47 1),o1 49 (ao 9 1),o1 50 (lf 49 1),o1 51 (Jb .add 48 50),m1 52 4,o1 53
 (Jb .sub 51 52),m1 4 53] (.seq (sr1 [m1 54 6,m1 55 4,o1 56 (.raw (Go.Op.lookup 168 (Go.Operand.tmp 54) (Go.Operand.tmp 55) Bool.false) 4)] (Ji 56 (sr1 [Jk 4 0,Jw 5 Jf] .ret) .skip)) (.reg [m1 57 6,m1 58 4,⟨none,.raw (Go.Op.mapUpdate 168
 (Go.Operand.tmp 57) (Go.Operand.tmp 58) (Go.Operand.const (Go.Value.bool Bool.true))) 0,none,[]⟩])))))))) (.reg [o1 59 (Jc .add 18 1),m1 18 59]))))))) (sr1 [m1 60 4,m1 4 60,Jw 5 Jt] .ret)))))
def r68:List RV:=[.tmp 4,.tmp 5]
theorem t68:Qt1 Tryz.prog 68 c68 r68 61:=ZF Tryz.func68
def c67:SC:=(sr1 [Jw 6 Jf] (sr1 [m1 7 0,m1 8 1,o1 9 (Jb .geq 7 8),m1 10 9,g1 11 10 true (.mv (.t 0)),g1 12 10 true (.mv (.t 2)),g1 13 10 true (Jb .leq 11 12),o1 14 (.pick (.t 10) (.t 13) Jf),m1 6 14] .ret))
def r67:List RV:=[.tmp 6]
theorem t67:Qt1 Tryz.prog 67 c67 r67 15:=ZF Tryz.func67
def c66:SC:=(sr1 [o1 2 (Jz 0 0 34),Jk 4 0] (sr1 [o1 9 (ao 2 0),o1 10 (ao 9 0),o1 11 (lf 10 1),o1 12 (Jl 11),o1 13 (.mks 1 1 [.bool false] 4 (.t 12)),m1 5 13] (sr1 [o1 14 (ao 2 33),o1 15 (lf 14 1),m1 6 15] (sr1 [m1 16 5,m1 17 6,o1 18 (Jx 16 17 1),Jv 18
 Jt 1] (.seq (sr1 [Jk 7 0] (.block 0 (.loop (.seq (sr1 [m1 19 7,m1 20 1,o1 21 (Jl 20),o1 22 (Jb .lss 19 21)] (Ji 22 .skip (.exit 0))) (.seq (.block 1 (.seq (.seq (.regd (Jr 11) [Jm 25 1,Jm 26 7,Jp 27 (Jx 25 26 1) [0,1],Jp 28 (lf 27 1) [2],Jo 29 (ao 2
 0),Jp 30 (ao 29 1) [4],Jp 31 (lf 30 1) [5],Jp 32 (Jl 31) [6],Jp 33 (Jc .sub 32 1) [7],Jp 34 (.call 67 [.t 28,cn 0,.t 33]) [3,8],Jp 35 (Jh 34) [9]] 0 0 []) (Ji 35 (sr1 [o1 4 (.mv (cn (-1)))] .ret) .skip)) (.seq (.regd (Jr 11) [Jo 36 (ao 2 0),Jp 37 (ao
 36 1) [0],Jp 38 (lf 37 1) [1],Jm 39 1,Jm 40 7,Jp 41 (Jx 39 40 1) [3,4],Jp 42 (lf 41 1) [5],Jp 43 (Jx 38 42 5) [2,6],Jp 44 (lt 43 5) [7]] 1 1 [o1 8 (.alloc ZAw 187),Ju 8 44 5 (Jr 10)]) (.seq (sr1 [m1 45 6] (.block 2 (sr1 [o1 47 (ao 8 0),o1 48 (lf 47
 1),o1 49 (Jb .eql 45 48),m1 46 49] (Ji 46 (.reg [o1 50 (ao 8 1),o1 51 (lf 50 1),m1 6 51]) (sr1 [o1 53 (ao 8 1),o1 54 (lf 53 1),o1 55 (Jb .eql 45 54),m1 52 55] (Ji 52 (.reg [o1 56 (ao 8 0),o1 57 (lf 56 1),m1 6 57]) (sr1 [o1 4 (.mv (cn (-1)))]
 .ret))))))) (.seq (sr1 [m1 58 5,m1 59 6,o1 60 (Jx 58 59 1),o1 61 (lf 60 1)] (Ji 61 (sr1 [o1 4 (.mv (cn (-1)))] .ret) .skip)) (.reg [m1 62 5,m1 63 6,o1 64 (Jx 62 63 1),Jv 64 Jt 1])))))) (.reg [m1 23 7,o1 24 (Jc .add 23 1),m1 7 24])))))) (sr1 [m1 65
 6,m1 4 65] .ret))))))
def r66:List RV:=[.tmp 4]
theorem t66:Qt1 Tryz.prog 66 c66 r66 66:=ZF Tryz.func66
def c125:SC:=(sr1 [o1 3 (Jz 0 0 27),Jw 6 Jf] (sr1 [o1 7 (ao 3 0),o1 8 (lf 7 1),m1 9 1,o1 10 (ao 3 1),o1 11 (lf 10 1),o1 12 (J3 67 8 9 11),m1 13 12,g1 14 13 true (ao 3 1),g1 15 13 true (lf 14 1),g1 16 13 true (.mv (.t 2)),g1 17 13 true (Jb .leq 15 16),o1 18 (.pick (.t 13) (.t 17) Jf),m1 6 18] .ret))
def r125:List RV:=[.tmp 6]
theorem n125:Tryz.f125.ntmps=19:=by kernel_rfl
theorem t125:Qt1 Tryz.prog 125 c125 r125 19:=ZF Tryz.func125 rfl (by kernel_rfl) (by kernel_rfl) (by kernel_rfl) n125
def c126:SC:=(sr1 [Jw 4 Jf] (sr1 [m1 5 0,o1 6 (lf 1 1),o1 7 (Jb .lss 5 6),m1 8 7,g1 9 8 false (.mv (.t 0)),g1 10 8 false (lf 2 1),g1 11 8 false (Jb .gtr 9 10),o1 12 (.pick (.t 8) Jt (.t 11)),m1 4 12] .ret))
def r126:List RV:=[.tmp 4]
theorem t126:Qt1 Tryz.prog 126 c126 r126 13:=ZF Tryz.func126
def c169:SC:=(sr1 [o1 3 (Jz 0 0 27),Jw 4 Jf] (sr1 [o1 5 (ao 3 0),o1 6 (lf 5 1),o1 7 (ao 3 1),o1 8 (lf 7 1),o1 9 (Jb .gtr 6 8),m1 10 9,g1 11 10 false (lf 1 1),g1 12 10 false (lf 2 1),g1 13 10 false (ao 3 0),g1 14 10 false (lf 13 1),g1 15 10 false (ao 3
 1),g1 16 10 false (lf 15 1),g1 17 10 false (.bsl 1 3 [.t 14,.t 16]),g1 18 10 false (J3 69 11 12 17),g1 19 10 false (Jh 18),o1 20 (.pick (.t 10) Jt (.t 19)),m1 4 20] .ret))
def r169:List RV:=[.tmp 4]
theorem t169:Qt1 Tryz.prog 169 c169 r169 21:=ZF Tryz.func169
def c23:SC:=(sr1 [o1 2 (Jz 0 0 34),o1 3 (Jz 1 0 37),Jw 4 Jf] (sr1 [o1 5 (lt 2 37),o1 6 (ao 3 0),o1 7 (lf 6 1),o1 8 (J2 66 5 7),o1 9 (Jc .geq 8 0),m1 10 9,g1 11 10 true (ao 3 1),g1 12 10 true (lf 11 1),g1 13 10 true (ao 2 28),g1 14 10 true (lf 13 1),g1
 15 10 true (.call 67 [.t 12,cn 0,.t 14]),o1 16 (.pick (.t 10) (.t 15) Jf),m1 17 16,g1 18 17 true (ao 3 2),g1 19 17 true (lf 18 1),g1 20 17 true (.call 67 [.t 19,cn 0,cn 12]),o1 21 (.pick (.t 17) (.t 20) Jf),m1 4 21] .ret))
def r23:List RV:=[.tmp 4]
theorem t23:Qt1 Tryz.prog 23 c23 r23 22:=ZF Tryz.func23
def c72:SC:=(sr1 [m1 6 0,o1 7 (Jh 6)] (Ji 7 (.reg [m1 8 1,m1 9 2,o1 10 (.build Zvj [(0,1,.t 8),(1,1,.t 9)]),o1 11 (.raw (Go.Op.makeInterface 86 (Go.Operand.tmp 10)) 20),⟨none,.raw (Go.Op.panic (Go.Operand.tmp 11)) 0,none,[]⟩]) .skip))
def r72:List RV:=[]
theorem n72:Tryz.f72.ntmps=12:=by kernel_rfl
theorem b72:Z4 Tryz.prog 72=true:=by kernel_rfl
theorem ZBU:YR Tryz.prog c72 ((Tryz.f72.body).getD .skip)=true:=by kernel_rfl
theorem ZBH:Y2 Tryz.prog r72 Tryz.f72.results.toList=true:=by kernel_rfl
theorem m72 {n0:Nat} {hp0:Lh} {args:Ls} {Zz:Ot->Prop} (hh:hpb n0 hp0) (hx:∀ o,Zz o->KX o.res/\KXP o.hp) (h:sx Tryz.prog Y0 n0 c72 ⟨YT 0 args,hp0,n0,12,[]⟩ (X0 r72 λo=>∃ o',Zz o'/\WI n0 o o')) (hA:Nat.ble args.length 12=true:=by rfl):Cq 72 hp0 n0 args Zz:=ZB Tryz.func72 rfl b72 ZBU ZBH n72 (Nat.le_of_ble_eq_true hA) hh hx h
def c73:SC:=(sr1 [o1 4 (Jz 0 0 89),o1 5 (Jz 1 0 68),o1 6 (Jz 2 0 3),o1 8 (.mv (.c (.slice none 0 0)))] (.seq (sr1 [o1 17 (lf 5 1),o1 18 (Jl 17),o1 19 (Jc .eql 18 0)] (Ji 19 (sr1 [o1 21 (ao 4 0),o1 22 (ao 21 4),o1 23 (lt 22 17),o1 24 (ao 4 0),o1 25 (ao
 24 21),o1 26 (lt 25 7),o1 27 (J2 29 23 26),m1 20 27,o1 28 (Je 20 0),o1 29 (Je 20 1),o1 9 (.alloc zv0 27),Js 9 28 2,m1 10 29] (sr1 [o1 30 (lf 6 1),o1 31 (Jc .eql 30 0),m1 32 31,g1 33 32 false (.mv (.t 3)),g1 34 32 false (ao 4 0),g1 35 32 false (ao 34
 30),g1 36 32 false (lf 35 1),g1 37 32 false (Jb .mul 33 36),g1 38 32 false (ao 9 0),g1 39 32 false (lf 38 1),g1 40 32 false (Jb .leq 37 39),o1 41 (.pick (.t 32) Jt (.t 40)),o1 42 (.callm 72 [.t 41,.c (.int .u8 2),cn 0])] (sr1 [o1 8 (.mv (.c (.slice
 none 0 0)))] .ret))) .skip)) (sr1 [o1 11 (.alloc [.slice none 0 0] 84)] (.seq (sr1 [o1 43 (lf 6 1),o1 44 (Jc .eql 43 0)] (Ji 44 (.seq (sr1 [o1 45 (lf 5 1),o1 46 (lf 5 1),o1 47 (Jl 46),o1 48 (Jc .sub 47 1),o1 49 (.sub 6 (.t 45) none (some (.t 48))),o1
 50 (Jl 49),Jk 51 0] (.block 0 (.loop (sr1 [o1 52 (Jb .lss 51 50)] (.seq (Ji 52 .skip (.exit 0)) (.seq (.block 1 (sr1 [o1 53 (Jx 49 51 6),o1 54 (lt 53 6),o1 13 (.alloc zv9 72),Js 13 54 6] (.reg [o1 55 (lf 11 1),o1 56 (ao 13 1),o1 57 (lf 56 1),o1 58
 (ao 13 4),o1 59 (ao 58 0),o1 60 (lf 59 1),o1 61 (.build zv3 [(0,1,.t 57),(1,1,.t 60)]),o1 62 (.bsl 3 212 [.t 61]),o1 63 (.appm 3 24 212 (.t 55) (.t 62)),Js 11 63 1]))) (.reg [o1 64 (Jc .add 51 1),m1 51 64]))))))) (sr1 [o1 65 (lf 11 1),m1 8 65] .ret))
 .skip)) (.seq (sr1 [o1 66 (lt 4 38),o1 67 (lf 5 1),m1 68 3,o1 69 (.callm 127 [.t 66,.t 67,.t 68])] (.block 2 (.gh (.rfun (.t 69) [70,71] (sr1 [m1 14 70] (.reg [o1 15 (.alloc zv5 31),Js 15 71 7])) (.block 3 (.seq (sr1 [m1 72 14,o1 73 (Jc .add 72 1),o1
 74 (lf 5 1),o1 75 (Jl 74),o1 76 (Jb .eql 73 75)] (Ji 76 (.exit 2) .skip)) (.seq (.regd (Jr 24) [Jo 77 (lf 5 1),Jm 78 14,Jp 79 (Jx 77 78 6) [0,1],Jp 80 (ao 79 1) [2],Jp 81 (lf 80 1) [3],Jo 82 (lf 5 1),Jm 83 14,Jp 84 (Jx 82 83 6) [5,6],Jp 85 (ao 84 4)
 [7],Jp 86 (ao 85 0) [8],Jp 87 (lf 86 1) [9],Jo 88 (lf 6 1),Jo 89 (ao 4 0),Jp 90 (ao 89 4) [12],Jp 91 (ao 90 0) [13],Jp 92 (lf 91 1) [14],Jo 93 (ao 15 0),Jp 94 (ao 93 0) [16],Jp 95 (lf 94 1) [17],Jp 96 (Jb .sub 92 95) [15,18],Jp 97 (Jb .mul 88 96)
 [11,19],Jp 98 (.build zv3 [(0,1,.t 81),(1,1,.t 87),(2,1,.t 97)]) [4,10,20]] 1 1 [o1 16 (.alloc zv3 212),Ju 16 98 3 (Jr 23)]) (.seq (.regd (Jr 11) [Jo 99 (ao 16 2),Jp 100 (lf 99 1) [0],Jo 101 (lt 4 38),Jo 102 (lf 5 1),Jm 103 14,Jp 104 (Jx 102 103 6)
 [3,4],Jp 105 (lt 104 6) [5],Jp 106 (J2 103 101 105) [2,6],Jp 107 (Jb .leq 100 106) [1,7],Jm 108 14] 0 0 [⟨some 109,.callm 72 [.t 107,.c (.int .u8 4),.t 108],none,[7,8,9]⟩]) (.reg [o1 110 (lf 11 1),o1 111 (lt 16 3),o1 112 (.bsl 3 212 [.t 111]),o1 113
 (.appm 3 24 212 (.t 110) (.t 112)),Js 11 113 1]))))))))) (sr1 [o1 114 (lf 11 1),m1 8 114] .ret))))))
def r73:List RV:=[.tmp 8]
theorem n73:Tryz.f73.ntmps=115:=by kernel_rfl
theorem b73:Z4 Tryz.prog 73=true:=by kernel_rfl
theorem ZBW:YR Tryz.prog c73 ((Tryz.f73.body).getD .skip)=true:=by kernel_rfl
theorem ZB6:Y2 Tryz.prog r73 Tryz.f73.results.toList=true:=by kernel_rfl
theorem m73 {n0:Nat} {hp0:Lh} {args:Ls} {Zz:Ot->Prop} (hh:hpb n0 hp0) (hx:∀ o,Zz o->KX o.res/\KXP o.hp) (h:sx Tryz.prog Y0 n0 c73 ⟨YT 0 args,hp0,n0,115,[]⟩ (X0 r73 λo=>∃ o',Zz o'/\WI n0 o o')) (hA:Nat.ble args.length 115=true:=by rfl):Cq 73 hp0 n0 args Zz:=ZB Tryz.func73 rfl b73 ZBW ZB6 n73 (Nat.le_of_ble_eq_true hA) hh hx h
def c127:SC:=(sr1 [o1 3 (Jz 0 0 89),o1 4 (Jz 1 0 68),o1 5 (Jz 2 0 3),o1 6 (.mv (.c (.nilFunc)))] (sr1 [o1 7 (.mkf 201 [.t 3,.t 4,.t 5]),m1 6 7] .ret))
def r127:List RV:=[.tmp 6]
theorem n127:Tryz.f127.ntmps=8:=by kernel_rfl
theorem b127:Z4 Tryz.prog 127=true:=by kernel_rfl
theorem ZwV:YR Tryz.prog c127 ((Tryz.f127.body).getD .skip)=true:=by kernel_rfl
theorem Zyh:Y2 Tryz.prog r127 Tryz.f127.results.toList=true:=by kernel_rfl
theorem m127 {n0:Nat} {hp0:Lh} {args:Ls} {Zz:Ot->Prop} (hh:hpb n0 hp0) (hx:∀ o,Zz o->KX o.res/\KXP o.hp) (h:sx Tryz.prog Y0 n0 c127 ⟨YT 0 args,hp0,n0,8,[]⟩ (X0 r127 λo=>∃ o',Zz o'/\WI n0 o o')) (hA:Nat.ble args.length 8=true:=by rfl):Cq 127 hp0 n0 args Zz:=ZB Tryz.func127 rfl b127 ZwV Zyh n127 (Nat.le_of_ble_eq_true hA) hh hx h
def c171:SC:=(sr1 [o1 1 (Jz 0 0 89),o1 2 (.alloc ZAD 139)] (sr1 [o1 3 (ao 1 0),o1 4 (ao 3 36),o1 5 (lf 4 1),o1 6 (ao 1 37),o1 7 (lf 6 1),o1 8 (Jx 5 7 6),o1 9 (lt 8 6),Js 2 9 6] .ret))
def r171:List RV:=[.cell 2 6 true]
theorem t171:Qt1 Tryz.prog 171 c171 r171 10:=ZF Tryz.func171
def c201:SC:=(sr1 [o1 10 (ao 1 0),o1 11 (ao 10 21),o1 12 (lt 11 7),o1 5 (.alloc zv5 31),Js 5 12 7] (sr1 [o1 13 (lf 2 1),o1 14 (Jl 13),Jk 15 0] (.block 0 (.loop (sr1 [o1 16 (Jb .lss 15 14)] (.seq (Ji 16 .skip (.exit 0)) (.seq (.block 1 (sr1 [m1 17
 15,o1 18 (Jx 13 15 6),o1 19 (lt 18 6),o1 7 (.alloc zv9 72),m1 6 17,Js 7 19 6] (sr1 [o1 21 (ao 1 0),o1 22 (ao 21 0),o1 23 (lt 22 2),o1 24 (ao 7 0),o1 25 (lf 24 1),o1 26 (ao 1 0),o1 27 (ao 26 2),o1 28 (lt 27 2),o1 29 (J3 119 23 25 28),m1 20 29,o1 30
 (Je 20 0),o1 31 (Je 20 1),o1 8 (.alloc zv0 27),Js 8 30 2,m1 9 31] (.seq (sr1 [o1 32 (lt 1 38),m1 33 6,o1 34 (lt 5 7),o1 35 (lt 8 2),o1 36 (lf 3 1),o1 37 (.callm 202 [.t 32,.t 33,.t 34,.t 35,.t 36]),Js 5 37 7] (sr1 [m1 38 0,m1 39 6,o1 40 (lt 5 7),o1
 41 (.calvm (.t 38) [.t 39,.t 40]),o1 42 (Jh 41)] (Ji 42 .ret .skip))) (.reg [o1 43 (ao 1 0),o1 44 (ao 43 4),o1 45 (ao 44 0),o1 46 (lf 45 1),o1 47 (ao 1 0),o1 48 (ao 47 4),o1 49 (ao 48 0),o1 50 (lf 49 1),o1 51 (.build zv0 [(0,1,.t 46),(1,1,.t 50)]),o1
 52 (ao 5 0),Js 52 51 2]))))) (.reg [o1 53 (Jc .add 15 1),m1 15 53]))))))))
def r201:List RV:=[]
theorem n201:Tryz.f201.ntmps=54:=by kernel_rfl
theorem b201:Z4 Tryz.prog 201=true:=by kernel_rfl
theorem ZxN:YR Tryz.prog c201 ((Tryz.f201.body).getD .skip)=true:=by kernel_rfl
theorem ZyQ:Y2 Tryz.prog r201 Tryz.f201.results.toList=true:=by kernel_rfl
theorem y201 {Y:Hd} {n0:Nat} {hp0:Lh} {args:Ls} {Zz:Ot->Prop} (h:sx Tryz.prog Y n0 c201 ⟨YT 0 args,hp0,n0,54,[]⟩ (X0 r201 Zz)) (hA:Nat.ble args.length 54=true:=by rfl):CtY Tryz.prog Y 201 hp0 n0 args Zz:=WR Tryz.func201 rfl ZxN ZyQ n201 (Nat.le_of_ble_eq_true hA) h
def c202:SC:=(sr1 [o1 5 (Jz 0 0 89),o1 7 (Jz 2 0 31),o1 8 (Jz 3 0 27),o1 10 (.alloc zv5 31)] (.seq (.regd (Jr 17) [Jo 19 (ao 5 0),Jp 20 (ao 19 29) [0],Jp 21 (lf 20 1) [1],Jm 22 4,Jo 23 (ao 5 0),Jp 24 (ao 23 30) [4],Jp 25 (lf 24 1) [5],Jp 26 (Jb .mul
 22 25) [3,6],Jo 27 (lt 5 38),Jp 28 (J1 171 27) [8],Jp 29 (.fld (.t 28) 0 2 true) [9],Jo 30 (lt 5 38),Jp 31 (J1 171 30) [9,11],Jp 32 (.fld (.t 31) 2 2 true) [12],Jp 33 (.build zv7 [(0,1,.t 21),(1,1,.t 26),(2,2,.t 29),(4,2,.t 32)]) [2,7,10,13]] 1 1 [o1
 11 (.alloc zv7 235),Ju 11 33 8 (Jr 16)]) (sr1 [o1 12 (.alloc zv5 31)] (.seq (sr1 [o1 34 (ao 8 1),o1 35 (lf 34 1),Jk 36 0] (.block 0 (.loop (sr1 [o1 37 (Jb .lss 36 35)] (.seq (Ji 37 .skip (.exit 0)) (.seq (.block 1 (sr1 [m1 38 36,m1 13 38] (sr1 [o1 40
 (ao 5 0),o1 41 (ao 40 4),o1 42 (lt 41 17),o1 43 (lt 7 7),o1 44 (J2 29 42 43),m1 39 44,o1 45 (Je 39 0),o1 46 (Je 39 1),o1 14 (.alloc zv0 27),Js 14 45 2,m1 15 46] (sr1 [o1 47 (ao 11 1),o1 48 (lf 47 1),o1 49 (ao 14 0),o1 50 (lf 49 1),o1 51 (Jb .leq 48
 50),m1 52 1,o1 53 (.callm 72 [.t 51,.c (.int .u8 2),.t 52])] (sr1 [o1 55 (ao 5 0),o1 56 (ao 55 4),o1 57 (lt 56 17),o1 58 (lt 7 7),o1 59 (lt 11 8),o1 60 (J3 266 57 58 59),m1 54 60,o1 61 (Je 54 0),o1 62 (Je 54 1),o1 63 (Je 54 2),o1 16 (.alloc zv5
 31),Js 16 61 7,m1 17 62,m1 18 63] (sr1 [m1 64 18,o1 65 (Jc .eql 64 0),m1 66 65,g1 67 66 true (.mv (.t 17)),g1 68 66 true (.bin .eql (.t 67) (.c (.int .u8 0))),o1 69 (.pick (.t 66) (.t 68) Jf),m1 70 1,o1 71 (.callm 72 [.t 69,.c (.int .u8 3),.t 70])]
 (sr1 [o1 72 (lt 16 7),Js 7 72 7] (.block 2 (sr1 [m1 74 13,o1 75 (Jc .add 74 1),o1 76 (ao 8 0),o1 77 (lf 76 1),o1 78 (Jb .eql 75 77),m1 73 78] (Ji 73 (.reg [o1 79 (lt 7 7),Js 12 79 7]) (sr1 [m1 81 13,o1 82 (Jc .add 81 1),o1 83 (ao 8 0),o1 84 (lf 83
 1),o1 85 (Jb .gtr 82 84),m1 80 85] (Ji 80 (.regd (Jr 24) [Jo 86 (ao 12 0),Jp 87 (lt 86 2) [0],Jo 88 (ao 7 0),Jp 89 (lt 88 2) [2],Jp 90 (.bsl 2 27 [.t 89]) [3],Jp 91 (J2 267 87 90) [1,4],Jo 92 (ao 12 2),Jp 93 (lt 92 2) [6],Jo 94 (ao 7 2),Jp 95 (lt 94
 2) [8],Jp 96 (.bsl 2 27 [.t 95]) [9],Jp 97 (J2 267 93 96) [5,7,10],Jo 98 (ao 12 4),Jp 99 (lt 98 2) [12],Jo 100 (ao 7 4),Jp 101 (lt 100 2) [14],Jp 102 (.bsl 2 27 [.t 101]) [15],Jp 103 (J2 267 99 102) [11,13,16],Jp 104 (ao 12 0)
 [0,1,2,3,4,5,6,7,12,13]] 0 1 [Ju 104 91 2 [0,1,2,3,4,5,6,7,12,13,17,18],⟨some 105,ao 12 2,none,[0,1,2,3,4,5,6,7,8,9,10,11,12,13,18,19]⟩,Ju 105 97 2 [0,1,2,3,4,5,6,7,8,9,10,11,12,13,18,19,20],⟨some 106,ao 12 4,none,(Jr 22)⟩,Ju 106 103 2 (Jr 23)])
 .skip)))))))))))) (.reg [o1 107 (Jc .add 36 1),m1 36 107]))))))) (sr1 [o1 108 (lt 12 7),Js 10 108 7] .ret)))))
def r202:List RV:=[.cell 10 7 true]
theorem n202:Tryz.f202.ntmps=109:=by kernel_rfl
theorem b202:Z4 Tryz.prog 202=true:=by kernel_rfl
theorem ZvM:YR Tryz.prog c202 ((Tryz.f202.body).getD .skip)=true:=by kernel_rfl
theorem ZzA:Y2 Tryz.prog r202 Tryz.f202.results.toList=true:=by kernel_rfl
theorem m202 {n0:Nat} {hp0:Lh} {args:Ls} {Zz:Ot->Prop} (hh:hpb n0 hp0) (hx:∀ o,Zz o->KX o.res/\KXP o.hp) (h:sx Tryz.prog Y0 n0 c202 ⟨YT 0 args,hp0,n0,109,[]⟩ (X0 r202 λo=>∃ o',Zz o'/\WI n0 o o')) (hA:Nat.ble args.length 109=true:=by rfl):Cq 202 hp0 n0 args Zz:=ZB Tryz.func202 rfl b202 ZvM ZzA n202 (Nat.le_of_ble_eq_true hA) hh hx h
def c267:SC:=(sr1 [o1 2 (Jz 0 0 27),o1 4 (.alloc zv0 27)] (.seq (sr1 [m1 7 1,o1 8 (Jl 7),Jk 9 0] (.block 0 (.loop (sr1 [o1 10 (Jb .lss 9 8)] (.seq (Ji 10 .skip (.exit 0)) (.seq (.block 1 (sr1 [o1 11 (Jx 7 9 2),o1 12 (lt 11 2),o1 6 (.alloc zv0 27),Js 6
 12 2] (.reg [o1 13 (ao 2 0),o1 14 (lf 13 1),o1 15 (ao 6 0),o1 16 (lf 15 1),o1 17 (.mm false [.t 14,.t 16]),o1 18 (ao 2 1),o1 19 (lf 18 1),o1 20 (ao 6 1),o1 21 (lf 20 1),o1 22 (.mm true [.t 19,.t 21]),o1 23 (.build zv0 [(0,1,.t 17),(1,1,.t 22)]),Js 2
 23 2]))) (.reg [o1 24 (Jc .add 9 1),m1 9 24]))))))) (sr1 [o1 25 (lt 2 2),Js 4 25 2] .ret)))
def r267:List RV:=[.cell 4 2 true]
theorem t267:Qt1 Tryz.prog 267 c267 r267 26:=ZF Tryz.func267
def c71:SC:=(sr1 [o1 2 (Jz 0 0 34),o1 4 (.mv (.c (.slice none 0 0))),Jw 5 Jf] (sr1 [o1 10 (ao 2 0),o1 11 (lt 10 2),o1 12 (ao 2 33),o1 13 (lf 12 1),o1 14 (ao 2 34),o1 15 (lf 14 1),o1 16 (ao 2 2),o1 17 (lt 16 2),m1 18 1,o1 19 (J5 15 11 13 15 17 18),m1 9
 19,o1 20 (Je 9 0),o1 21 (Je 9 1),o1 22 (Je 9 2),m1 6 20,m1 7 21,m1 8 22] (.seq (.regd (Jr 23) [Jm 23 6,Jm 24 8,Jp 25 (Jc .eql 24 0) [1],Jp 26 (.mv (.t 25)) [2],Jq 27 26 true (.mv (.t 6)) [3],Jq 28 26 true (Jl 27) [3,4],Jq 29 26 true (Jc .eql 28 0)
 [3,5],Jq 30 26 true (.mv (.t 29)) [3,6],Jq 31 30 false (.mv (.t 6)) [7],Jq 32 30 false (.mv (.t 6)) [7],Jq 33 30 false (Jl 32) [7,9],Jq 34 30 false (Jc .sub 33 1) [7,10],Jq 35 30 false (Jx 31 34 6) [7,8,11],Jq 36 30 false (ao 35 4) [7,12],Jq 37 30
 false (ao 36 1) [7,13],Jq 38 30 false (lf 37 1) [7,14],Jq 39 30 false (ao 2 35) [7],Jq 40 30 false (lf 39 1) [7,16],Jq 41 30 false (Jb .leq 38 40) [7,15,17],Jq 42 26 true (.pick (.t 30) Jt (.t 41)) [3,7,18],Jp 43 (.pick (.t 26) (.t 42) Jf) [3,19],Jp
 4 (.mv (.t 23)) [0,7],Jp 5 (.mv (.t 43)) (Jr 22)] 0 0 []) .ret)))
def r71:List RV:=[.tmp 4,.tmp 5]
theorem t71:Qt1 Tryz.prog 71 c71 r71 44:=ZF Tryz.func71
def c25:FB:=(.seq (.reg [
 o1 2 (.box (.t 0) 0 89),
 o1 3 (.box (.t 1) 0 37),
 o1 4 (.alloc [.slice none 0 0] 84),
 o1 5 (.alloc Zvj 86)])
 (.rcv [
 o1 8 (.mkf 70 [.t 4,.t 5])] (.t 8)
 (.tail (.seq (.reg [
 o1 10 (.addo (.t 2) 0),
 o1 11 (.ld (.t 10) 37 true),
 o1 12 (.addo (.t 3) 0),
 o1 13 (.ld (.t 12) 1 false),
 o1 14 (.call 71 [.t 11,.t 13]),
 m1 9 14,
 o1 15 (.ext (.t 9) 0),
 o1 16 (.ext (.t 9) 1),
 m1 6 15,
 m1 7 16])
 (.seq (.reg [
 m1 17 7,
 o1 18 (.callm 72 [.t 17,.c (.int .u8 1),.c (.int .i64 0)])])
 (.seq (.reg [
 o1 19 (.ld (.t 2) 38 true),
 m1 20 6,
 o1 21 (.addo (.t 3) 1),
 o1 22 (.ld (.t 21) 1 false),
 o1 23 (.addo (.t 3) 2),
 o1 24 (.ld (.t 23) 1 false),
 o1 25 (.callm 73 [.t 19,.t 20,.t 22,.t 24]),
 o1 26 (.build Zvj []),
 ⟨none,.st (.t 4) (.t 25) 1,none,[]⟩,
 ⟨none,.st (.t 5) (.t 26) 2,none,[]⟩])
 .ret))))))
def r25:List RV:=[.cell 4 1 false,.cell 5 2 true]
theorem n25:Tryz.f25.ntmps=27:=by kernel_rfl
theorem b25:Z4 Tryz.prog 25=true:=by kernel_rfl
theorem ZCg:U9 Tryz.prog c25 ((Tryz.f25.body).getD .skip)=true:=by kernel_rfl
theorem ZCV:Y2 Tryz.prog r25 Tryz.f25.results.toList=true:=by kernel_rfl
theorem m25 {n0:Nat} {hp0:Lh} {args:Ls} {Zz:Ot->Prop} (hh:hpb n0 hp0) (hx:∀ o,Zz o->KX o.res/\KXP o.hp) (h:fx Tryz.prog n0 c25 ⟨YT 0 args,hp0,n0,27,[]⟩ (X0 r25 λo=>∃ o',Zz o'/\WI n0 o o')) (hA:Nat.ble args.length 27=true:=by rfl):Cq 25 hp0 n0 args Zz:=U7 Tryz.func25 rfl b25 ZCg ZCV n25 (Nat.le_of_ble_eq_true hA) hh hx h
open Go.Azalai
theorem ZqC (l:Land) (hs:Small l):Cp 197 [.agg (Yo l)] (B (Z7 l)):=by
 have hw1:IntKind.i64.wrap ((l.wells.length:Int) - 1)=(l.wells.length:Int) - 1:=Zf (by omega) (by have:=hs.1;omega);refine t197.1 (by simp [Yo,Zg,Zr,Zi,Za]) (by simp) ?_;dsimp only [c197,r197,Yo,go_sem];refine call (X4 _ _ _) ?_;dsimp only [go_sem];repeat (refine gb ?_;dsimp only [go_sem])
 simp only [List.length_map];refine br ?_ ?_
 . intro h;dsimp only [go_sem];have:Z7 l=false:=by simp only [Z7];grind
   rw [this]
 intro h;dsimp only [go_sem];have ho1:Z7 l=(l.wells.all YY && l.legs.all (WD l.wells.length)):=by simp only [Z7];grind
 refine Ym (λk:Nat=>[(3,I k)]) (λ_=>[]) (λk=>k<=l.wells.length/\(l.wells.drop k).all YY=l.wells.all YY) (λk=>l.wells.length - k) 0 ⟨Nat.zero_le _,rfl⟩ ?_ ?_
 . (refine Zj ?_ ?_ ?_ rfl rfl<;>dsimp only [Zi,Zg,Zr,id,go_sem]<;>simp [Zi,Zg,Zr,Za])
 intro k ⟨hk,hi⟩;dsimp only [go_sem];by_cases hlt:k < l.wells.length
 . refine Zs (by simpa using hlt) ?_;dsimp only [go_sem];refine Zn k hlt rfl ?_;dsimp only [Zg,go_sem];repeat (first | (refine gb ?_;dsimp only [go_sem]) | (refine call (X4 _ _ _) ?_;dsimp only [go_sem]) | (refine call (ZZ l.wells[k].yld _ _) ?_;dsimp only [go_sem]) | (refine call (ZZ l.wells[k].has _ _) ?_;dsimp only [go_sem]))
   rw [List.drop_eq_getElem_cons hlt,List.all_cons] at hi;refine br ?_ ?_
   . intro hb;dsimp only [go_sem];have:YY l.wells[k]=false:=by simp only [YY];grind
     rw [ho1,<- hi,this];rfl
   . intro hb;dsimp only [go_sem];rw [Zf (n:=(k:Int)+1) (by omega) (by have:=hs.1;omega)];have:YY l.wells[k]=true:=by simp only [YY];grind
     rw [this,Bool.true_and] at hi;refine ⟨k+1,⟨hlt,hi⟩,by omega,?_⟩;(refine Zj ?_ ?_ ?_ rfl rfl<;>dsimp only [Zi,Zg,Zr,id,go_sem]<;>simp [Zi,Zg,Zr,Za])
 refine Zo (by simp;omega) ?_;dsimp only [go_sem];have hke:k=l.wells.length:=by omega
 subst hke;rw [List.drop_length] at hi;rw [<- hi] at ho1;rw [show Z7 l=l.legs.all (WD l.wells.length) from by rw [ho1];simp];refine Ym (λk:Nat=>[(5,I k)]) (λ_=>[]) (λk=>k<=l.legs.length/\(l.legs.drop k).all (WD l.wells.length)=l.legs.all (WD l.wells.length)) (λk=>l.legs.length - k) 0 ⟨Nat.zero_le _,rfl⟩ ?_ ?_
 . (refine Zj ?_ ?_ ?_ rfl rfl<;>dsimp only [Zi,Zg,Zr,id,go_sem]<;>simp [Zi,Zg,Zr,Za])
 intro k ⟨hk,hi⟩;dsimp only [go_sem];by_cases hlt:k < l.legs.length
 . refine Zs (by simpa using hlt) ?_;dsimp only [go_sem];refine Zn k hlt rfl ?_;dsimp only [Zr,go_sem];simp only [List.length_map,hw1];repeat (first | (refine gb ?_;dsimp only [go_sem]) | (refine call (X4 _ _ _) ?_;dsimp only [go_sem]) | (refine call (ZZ l.legs[k].long _ _) ?_;dsimp only [go_sem]))
   rw [List.drop_eq_getElem_cons hlt,List.all_cons] at hi;simp only [List.length_map];have hgl:=hs.2.2 l.legs[k] (List.getElem_mem _);generalize l.legs[k]=x at *;refine br ?_ ?_
   . intro hb;dsimp only [go_sem];have:WD l.wells.length x=false:=by simp only [WD];grind
     rw [<- hi,this];rfl
   . intro hb;dsimp only [go_sem];have hx:WD l.wells.length x=YM 0 x.gates:=by simp only [WD];grind
     refine Ym (λs:Nat × Int=>[(8,I s.1),(7,I s.2)]) (λ_=>[]) (λs=>s.1<=x.gates.length/\YM (s.2+1) (x.gates.drop s.1)=YM 0 x.gates) (λs=>x.gates.length - s.1) (0,-1) ⟨Nat.zero_le _,rfl⟩ ?_ ?_
     . (refine Zj ?_ ?_ ?_ rfl rfl<;>dsimp only [Zi,Zg,Zr,id,go_sem]<;>simp [Zi,Zg,Zr,Za])
     rintro ⟨j,last⟩ ⟨hj,hji⟩;simp only at hj hji;dsimp only [go_sem];by_cases hlt2:j < x.gates.length
     . refine Zs (by simpa using hlt2) ?_;dsimp only [go_sem];refine Zn j hlt2 rfl ?_;dsimp only [Zi,go_sem];repeat (first | (refine gb ?_;dsimp only [go_sem]) | (refine call (ZZ x.gates[j].opens _ _) ?_;dsimp only [go_sem]) | (refine call (ZZ x.gates[j].shuts _ _) ?_;dsimp only [go_sem]))
       rw [List.drop_eq_getElem_cons hlt2] at hji;simp only [YM] at hji;refine br ?_ ?_
       . intro hb2;dsimp only [go_sem];have:WD l.wells.length x=false:=by rw [hx,<- hji];simp only [inR];grind
         rw [<- hi,this];rfl
       . intro hb2;dsimp only [go_sem];rw [Zf (n:=(j:Int)+1) (by omega) (by omega)];refine ⟨(j+1,x.gates[j].shuts.hi),⟨hlt2,?_⟩,by simp only;omega,?_⟩
         . simp only;rw [<- hji];simp only [inR];grind
         . (refine Zj ?_ ?_ ?_ rfl rfl<;>dsimp only [Zi,Zg,Zr,id,go_sem]<;>simp [Zi,Zg,Zr,Za])
     . refine Zo (by simp;omega) ?_;dsimp only [go_sem];rw [Zf (n:=(k:Int)+1) (by omega) (by have:=hs.2.1;omega)];have hje:j=x.gates.length:=by omega
       subst hje;rw [List.drop_length] at hji;simp only [YM] at hji;rw [hx,<- hji,Bool.true_and] at hi;refine ⟨k+1,⟨hlt,hi⟩,by omega,?_⟩;(refine Zj ?_ ?_ ?_ rfl rfl<;>dsimp only [Zi,Zg,Zr,id,go_sem]<;>simp [Zi,Zg,Zr,Za])
 refine Zo (by simp;omega) ?_;dsimp only [go_sem];have hke:k=l.legs.length:=by omega
 subst hke;rw [List.drop_length] at hi;rw [<- hi];rfl
theorem Zqg (l:Land):Cp 39 [.agg (Yo l)] (B (ZbR l)):=by
 refine t39.1 (by simp [Yo,Zg,Zr,Zi,Za]) (by simp) ?_;dsimp only [c39,r39,Yo,go_sem];repeat (refine gb ?_;dsimp only [go_sem])
 simp only [List.length_map];refine br ?_ ?_
 . intro h;dsimp only [go_sem]
   (simp only [ZbR,Option.some.injEq,SV.v.injEq,Value.bool.injEq]<;>grind)
 intro h;dsimp only [go_sem];have hg:ZbR l=l.legs.any λx=>decide (x.gates.length > 20):=by simp only [ZbR];grind
 have hlen:l.legs.length<=40:=by grind
 rw [hg];refine Ym (λk:Nat=>[(3,I k)]) (λ_=>[]) (λk=>k<=l.legs.length/\((l.legs.drop k).any λx=>decide (x.gates.length > 20))=l.legs.any λx=>decide (x.gates.length > 20)) (λk=>l.legs.length - k) 0 ⟨Nat.zero_le _,rfl⟩ ?_ ?_
 . (refine Zj ?_ ?_ ?_ rfl rfl<;>dsimp only [Zi,Zg,Zr,id,go_sem]<;>simp [Zi,Zg,Zr,Za])
 intro k ⟨hk,hi⟩;dsimp only [go_sem];by_cases hlt:k < l.legs.length
 . refine Zs (by simpa using hlt) ?_;dsimp only [go_sem];refine Zn k hlt rfl ?_;dsimp only [Zr,go_sem];rw [List.drop_eq_getElem_cons hlt,List.any_cons] at hi;refine br ?_ ?_
   . intro hb;dsimp only [go_sem];have:decide (l.legs[k].gates.length > 20)=true:=by simp at hb ⊢;omega
     rw [<- hi,this];rfl
   . intro hb;dsimp only [go_sem];rw [Zf (n:=(k:Int)+1) (by omega) (by omega)];have:decide (l.legs[k].gates.length > 20)=false:=by simp at hb ⊢;omega
     rw [this,Bool.false_or] at hi;refine ⟨k+1,⟨hlt,hi⟩,by omega,?_⟩;(refine Zj ?_ ?_ ?_ rfl rfl<;>dsimp only [Zi,Zg,Zr,id,go_sem]<;>simp [Zi,Zg,Zr,Za])
 refine Zo (by simp;omega) ?_;dsimp only [go_sem];have hke:k=l.legs.length:=by omega
 subst hke;rw [List.drop_length] at hi;rw [<- hi];rfl
end Go.Proofs.YtongccnhomncnaaGreatDoor
namespace Go.Azalai
def Yf (p:Span):Bool:=ZW 1 100000 p
def Za0 (l:Land) (p:Span):Int:=if Z7 l=false then 30 else if Yf p=false then 31 else 0
def ZbG (x:Leg) (p:Span):Span:=⟨(x.long.lo+p.hi - 1).tdiv p.hi,(x.long.hi+p.lo - 1).tdiv p.lo⟩
def Zbk (n day:Int) (o s:Gate->Int):List Gate->Int
 | []=>100001
 | g :: r=>if max day (o g)+n - 1<=s g then max day (o g) else Zbk n day o s r
def Zec (n day:Int) (o s:Gate->Int) (acc:Int):List Gate->Int
 | []=>acc
 | g :: r=>Zec n day o s (if max day (o g)+n - 1<=s g then min (min acc (max day (o g))) 100001 else acc) r
def ZAL (x:Leg) (p:Span) (day:Int):Int:=Zbk (ZbG x p).lo day (·.opens.lo) (·.shuts.hi) x.gates
def Zxx (x:Leg) (p:Span) (day:Int):Int:=Zbk (ZbG x p).hi day (·.opens.hi) (·.shuts.lo) x.gates
def YV (l:Land) (leg:Int) (p:Span):Span × Int :=
 if Za0 l p≠0 then (⟨0,0⟩,Za0 l p)
 else if inR 0 (l.legs.length - 1) leg=false then (⟨0,0⟩,2)
 else match l.legs[leg.toNat]? with
  | some x=>(ZbG x p,0)
  | none=>(⟨0,0⟩,0)
structure GoodLeg (x:Leg):Prop where
 l1:1<=x.long.lo
 l2:x.long.lo<=x.long.hi
 l3:x.long.hi<=1000000
 g1:x.gates.length<=6
 g2:YM 0 x.gates=true
theorem WQ {l:Land} (h:Z7 l=true):∀ x ∈ l.legs,GoodLeg x:=by
 simp only [Z7,Bool.and_eq_true,List.all_eq_true] at h;intro x hx;have:=h.2 x hx;simp only [WD,ZW,Bool.and_eq_true,decide_eq_true_eq] at this;exact ⟨by omega,by omega,by omega,by omega,this.2⟩
theorem XC:∀ {l:List Gate} {next:Int},YM next l=true->0<=next->∀ g ∈ l,0<=g.opens.lo/\g.opens.lo<=g.opens.hi/\g.opens.hi<=100000/\0<=g.shuts.lo/\g.shuts.lo<=g.shuts.hi/\g.shuts.hi<=100000/\next<=g.opens.lo
 | [],_,_,_,g,hg=>by simp at hg
 | x :: l,next,h,h0,g,hg=>by
  simp only [YM,ZW,inR,Bool.and_eq_true,decide_eq_true_eq] at h;rcases List.mem_cons.1 hg with rfl | hg
  . omega
  . have:=XC h.2 (by omega) g hg;omega
theorem Zdx {n day:Int} {o s:Gate->Int} (hn:1<=n) (ho:∀ g,(0<=g.opens.lo/\g.opens.lo<=g.opens.hi/\g.opens.hi<=100000/\0<=g.shuts.lo/\g.shuts.lo<=g.shuts.hi/\g.shuts.hi<=100000)->g.opens.lo<=o g/\s g<=g.shuts.hi) :
 ∀ {l:List Gate} {next acc:Int},YM next l=true->0<=next->acc<=100001->Zec n day o s acc l=min acc (Zbk n day o s l)
 | [],next,acc,_,_,ha=>by simp only [Zec,Zbk];omega
 | x :: l,next,acc,h,h0,ha=>by
  have hm:=XC h h0 x (by simp);simp only [YM,ZW,inR,Bool.and_eq_true,decide_eq_true_eq] at h;have h1:=ho x ⟨hm.1,hm.2.1,hm.2.2.1,hm.2.2.2.1,hm.2.2.2.2.1,hm.2.2.2.2.2.1⟩;have hrest:∀ (l:List Gate),(∀ g ∈ l,x.shuts.hi+1<=o g)->x.shuts.hi+1<=Zbk n day o s l:=λl=>by
   induction l with
   | nil=>intro _;simp only [Zbk];omega
   | cons g l ih=>intro hg;simp only [Zbk];have:=hg g (by simp);have:=ih (λg' h'=>hg g' (by simp [h']));split<;>omega
  have hr:=hrest l (λg hg=>by
   have q:=XC h.2 (by omega) g hg;have:=ho g ⟨q.1,q.2.1,q.2.2.1,q.2.2.2.1,q.2.2.2.2.1,q.2.2.2.2.2.1⟩
   omega)
  simp only [Zec,Zbk];rw [Zdx hn ho h.2 (by omega) (by split<;>omega)]
  repeat' split
  all_goals first | rfl | omega
theorem day_bd {x:Leg} {p:Span} (h:GoodLeg x) (hp:Yf p=true):1<=(ZbG x p).lo/\(ZbG x p).lo<=1000000/\1<=(ZbG x p).hi/\(ZbG x p).hi<=1000000:=by
 simp only [Yf,ZW,decide_eq_true_eq] at hp;obtain ⟨p1,p2,p3⟩:=hp;obtain ⟨h1,h2,h3,_,_⟩:=h;simp only [ZbG];have key:∀ a b:Int,1<=a->a<=1000000->1<=b->1<=(a+b - 1).tdiv b/\(a+b - 1).tdiv b<=1000000:=λa b ha ha2 hb=>by
  rw [Int.tdiv_eq_ediv_of_nonneg (by omega)];constructor
  . exact Int.le_ediv_of_mul_le (by omega) (by omega)
  . refine Int.le_of_lt_add_one (Int.ediv_lt_of_lt_mul (by omega) ?_);have:1 * a<=b * a:=Int.mul_le_mul_of_nonneg_right hb (by omega);have e:(1000000+1) * b=b * 1000000+b:=by rw [Int.add_mul];omega
    have:b * a<=b * 1000000:=Int.mul_le_mul_of_nonneg_left ha2 (by omega);rw [e];have:=Int.mul_le_mul_of_nonneg_left ha2 (show (0:Int)<=b - 1 by omega);have q:(b - 1) * a=b * a - a:=by rw [Int.sub_mul];omega
    have q2:(b - 1) * 1000000=b * 1000000 - 1000000:=by rw [Int.sub_mul];omega
    omega
 exact ⟨(key _ _ h1 (by omega) (by omega)).1,(key _ _ h1 (by omega) (by omega)).2,(key _ _ (by omega) h3 p1).1,(key _ _ (by omega) h3 p1).2⟩
end Go.Azalai
namespace Go.Proofs.YtongccnhomncnaaGreatDoor
open Go Go.Sx Go.Azalai
def sres (r:Span × Int):SV:=.tup [.agg (Ze r.1),I r.2]
theorem Zkb (l:Land) (hs:Small l):Cp 122 [.agg (Yo l)] (I (if Z7 l=true then 0 else 30)):=by
 refine t122.1 (by simp [Yo,Zg,Zr,Zi,Za]) (by simp) ?_;dsimp only [c122,r122,Yo,go_sem];refine call (ZqC l hs) ?_;dsimp only [go_sem];refine br ?_ ?_
 . intro h;dsimp only [go_sem];have:Z7 l=false:=by simpa using h
   simp [this]
 . intro h;dsimp only [go_sem];have:Z7 l=true:=by simpa using h
   simp [this]
theorem Zq2 (p:Span):Cp 123 [.agg (Ze p)] (B (Yf p)):=by
 refine t123.1 (by simp [Ze]) (by simp) ?_;dsimp only [c123,r123,Ze,go_sem];refine call (ZZ p _ _) ?_;dsimp only [go_sem];simp [Yf]
theorem ZwN {l:Land} {leg:Int} (h:inR 0 (l.legs.length - 1) leg=true):∃ (k:Nat) (hk:k < l.legs.length),leg=(k:Int)/\l.legs[leg.toNat]? = some l.legs[k]:=by
 simp only [inR,decide_eq_true_eq] at h;refine ⟨leg.toNat,by omega,by omega,?_⟩;rw [List.getElem?_eq_getElem (by omega)]
theorem ask0 {l:Land} {p:Span} (h:Za0 l p=0):Z7 l=true/\Yf p=true:=by
 unfold Za0 at h;cases h1:Z7 l<;>cases h2:Yf p<;>simp_all
theorem Zy4 (a b d:Int) (c:Bool):Cp 104 [.sl c 1 [[I a],[I b],[I d]]] (I (min (min a b) d)):=by
 refine t104.1 (by simp [KFR]) (by simp) ?_;dsimp only [ZEb,ZD6,go_sem];refine Zo (by decide) ?_;dsimp only [go_sem];refine ixs 0 [I a] rfl rfl ?_;dsimp only [go_sem];refine ZX 3 ?_;dsimp only [Zb,go_sem];refine Zs (by decide) ?_;dsimp only [Zb,go_sem];refine ixs 1 [I b] rfl rfl ?_;dsimp only [Zb,go_sem];refine Zs (by decide) ?_;dsimp only [Zb,go_sem];refine ixs 2 [I d] rfl rfl ?_;dsimp only [Zb,go_sem]
 refine Zo (by decide) ?_;dsimp only [go_sem]
theorem V1 (a b:Int):Cp 110 [.sl true 1 [[I a],[I b]]] (I (min (min a b) 100001)):=by
 refine t110.1 (by simp [KFR]) (by simp) ?_;dsimp only [c110,r110,go_sem];refine ZEp (by simp) ?_;dsimp only [go_sem];refine call (Zy4 a b 100001 false) ?_;dsimp only [go_sem]
theorem Zgg {n day:Int} {o s:Gate->Int} (hn:1<=n):∀ {l:List Gate},(∀ g ∈ l,s g<=100000)->Zbk n day o s l<=100001
 | [],_=>by simp only [Zbk];omega
 | x :: l,h=>by
  have:=h x (by simp);have:=Zgg (day:=day) (o:=o) (s:=s) (l:=l) hn (λg hg=>h g (by simp [hg]));simp only [Zbk];split<;>omega
def Yl (l:Land) (p:Span):Ls:=[.sl false 9 (l.wells.map Zg),.sl false 5 (l.legs.map Zr),I p.lo,I p.hi]
theorem Zdq (l:Land) (hs:Small l) (p:Span) (ha:Za0 l p=0):Cp 51 [.agg (Yo l),.agg (Ze p)] (.tup [.agg (Yl l p),I 0]):=by
 obtain ⟨h1,h2⟩:=ask0 ha;refine t51.1 (by simp [Yo,Zg,Zr,Zi,Ze,Za]) (by simp [Yl,Zg,Zr,Zi,Ze,Za]) ?_;dsimp only [c51,r51,Yo,Ze,go_sem];refine call (Zdo l hs) ?_;dsimp only [go_sem];refine Zo (by simp [h1]) ?_;dsimp only [go_sem];refine call (Xn 1 100000 p _) ?_;dsimp only [go_sem];refine Zo (by simpa [Yf] using h2) ?_;dsimp only [Yl,go_sem]
theorem Za6 (l:Land) (hs:Small l) (p:Span) (ha:Za0 l p≠0):Cp 51 [.agg (Yo l),.agg (Ze p)] (.tup [.agg [.v (.slice none 0 0),.v (.slice none 0 0),I 0,I 0],I (Za0 l p)]):=by
 refine t51.1 (by simp [Yo,Zg,Zr,Zi,Ze,Za]) (by simp) ?_;dsimp only [c51,r51,Yo,Ze,go_sem];refine call (Zdo l hs) ?_;dsimp only [go_sem];by_cases h1:Z7 l=true
 case neg =>
  refine Zs (by simp [h1]) ?_;dsimp only [go_sem];simp [Za0,h1]
 refine Zo (by simp [h1]) ?_;dsimp only [go_sem];refine call (Xn 1 100000 p _) ?_;dsimp only [go_sem];have h2:Yf p=false:=by
  by_cases h2:Yf p=true
  . exact absurd (by simp [Za0,h1,h2]) ha
  . simpa using h2
 refine Zs (by simpa [Yf] using h2) ?_;dsimp only [go_sem];simp [Za0,h1,h2]
theorem ZdN (l:Land) (p:Span) (k:Nat) (hk:k < l.legs.length) (hx:GoodLeg l.legs[k]) (hp:Yf p=true):Cp 109 [.agg (Yl l p),I k] (.agg (Ze (ZbG l.legs[k] p))):=by
 have hb:=day_bd hx hp;have hp':=hp;simp only [Yf,ZW,decide_eq_true_eq] at hp';obtain ⟨h1,h2,h3,h4,h5⟩:=hx;refine t109.1 (by simp [Yl,Zg,Zr,Zi,Ze,Za]) (by simp [Ze]) ?_;dsimp only [c109,r109,Yl,go_sem];refine Zn k hk rfl ?_;dsimp only [Zr,go_sem];rw [Zf (n:=l.legs[k].long.lo+p.hi) (by omega) (by omega),Zf (n:=l.legs[k].long.lo+p.hi - 1) (by omega) (by omega)];refine Zjh (by omega) ?_;dsimp only [go_sem]
 rw [Zf (n:=l.legs[k].long.hi+p.lo) (by omega) (by omega),Zf (n:=l.legs[k].long.hi+p.lo - 1) (by omega) (by omega)];refine Zjh (by omega) ?_;dsimp only [Ze,go_sem];simp only [ZbG] at hb ⊢;rw [Zf (n:=(l.legs[k].long.lo+p.hi - 1).tdiv p.hi) (by omega) (by omega),Zf (n:=(l.legs[k].long.hi+p.lo - 1).tdiv p.lo) (by omega) (by omega)]
theorem Zdy (a b:Int):Cp 56 [.agg [I a,I b]] (.agg [I a,I b]):=by
 refine t56.1 (by simp) (by simp) ?_;dsimp only [c56,r56,go_sem];refine ixa 0 rfl (by decide) ?_;dsimp only [go_sem];refine ixa 1 rfl (by decide) ?_;dsimp only [go_sem]
theorem ZgN (l:Land) (hs:Small l) (leg:Int) (p:Span):Cp 119 [.agg (Yo l),I leg,.agg (Ze p)] (sres (YV l leg p)):=by
 have hw1:IntKind.i64.wrap ((l.legs.length:Int) - 1)=(l.legs.length:Int) - 1:=Zf (by omega) (by have:=hs.2.1;omega);refine t119.1 (by simp [Yo,Zg,Zr,Zi,Ze,Za]) (by simp [sres,Ze]) ?_;dsimp only [c119,r119,Yo,Ze,go_sem];by_cases ha:Za0 l p=0
 case neg =>
  refine call (Za6 l hs p ha) ?_;dsimp only [go_sem];refine Zs (by simpa using ha) ?_;dsimp only [go_sem];simp [YV,ha,sres,Ze]
 refine call (Zdq l hs p ha) ?_;dsimp only [Yl,go_sem];refine Zo (by decide) ?_;dsimp only [go_sem];simp only [List.length_map,hw1];repeat (first | (refine gb ?_;dsimp only [go_sem]) | (refine call (Zas _ _ _ _) ?_;dsimp only [go_sem]))
 by_cases hr:inR 0 (l.legs.length - 1) leg=true
 case neg =>
  refine Zs (by grind) ?_;dsimp only [go_sem];simp [YV,ha,hr,sres,Ze]
 refine Zo (by grind) ?_;dsimp only [go_sem];obtain ⟨k,hk,rfl,hget⟩:=ZwN hr;obtain ⟨hol,hop⟩:=ask0 ha;have hx:=WQ hol l.legs[k] (List.getElem_mem _);refine call (ZdN l p k hk hx hop) ?_;dsimp only [Ze,go_sem];refine call (Zdy _ _) ?_;dsimp only [go_sem];simp only [YV,ha,hr,hget,sres,Ze];simp
theorem Wp (l:Land) (p:Span) (k:Nat) (hk:k < l.legs.length) (d0 d1:Int) (hx:GoodLeg l.legs[k]) (hp:Yf p=true) (h0:inR 0 100001 d0=true) (h1:inR 0 100001 d1=true) :
 Cp 54 [.agg (Yl l p),I k,.agg [I d0,I d1]] (.agg [I (ZAL l.legs[k] p d0),I (Zxx l.legs[k] p d1)]):=by
 have hb:=day_bd hx hp;have hg:=XC hx.g2 (Int.le_refl _);have hl:=hx.g1;simp only [inR,decide_eq_true_eq] at h0 h1;refine t54.1 (by simp [Yl,Zg,Zr,Zi,Ze,Za]) (by simp) ?_;dsimp only [c54,r54,Yl,go_sem];refine call (ZdN l p k hk hx hp) ?_;dsimp only [Ze,go_sem];refine Zn k hk rfl ?_;dsimp only [Zr,go_sem];have e0:Zec (ZbG l.legs[k] p).lo d0 (·.opens.lo) (·.shuts.hi) 100001 l.legs[k].gates=ZAL l.legs[k] p d0:=by
  rw [Zdx hb.1 (λg h=>by omega) hx.g2 (Int.le_refl _) (by omega)];exact Int.min_eq_right (Zgg hb.1 (λg h=>by have:=hg g h;omega))
 have e1:Zec (ZbG l.legs[k] p).hi d1 (·.opens.hi) (·.shuts.lo) 100001 l.legs[k].gates=Zxx l.legs[k] p d1:=by
  rw [Zdx hb.2.2.1 (λg h=>by omega) hx.g2 (Int.le_refl _) (by omega)];exact Int.min_eq_right (Zgg hb.2.2.1 (λg h=>by have:=hg g h;omega))
 generalize hnl:(ZbG l.legs[k] p).lo=nl at hb e0;generalize hnh:(ZbG l.legs[k] p).hi=nh at hb e1;refine Ym (λs:Nat × Int × Int=>[(27,I s.1)]) (λs=>[(4,.cells [I s.2.1,I s.2.2] 132)])
  (λs=>s.1<=l.legs[k].gates.length/\Zec nl d0 (·.opens.lo) (·.shuts.hi) s.2.1 (l.legs[k].gates.drop s.1)=ZAL l.legs[k] p d0/\Zec nh d1 (·.opens.hi) (·.shuts.lo) s.2.2 (l.legs[k].gates.drop s.1)=Zxx l.legs[k] p d1)
  (λs=>l.legs[k].gates.length - s.1) (0,100001,100001) ⟨Nat.zero_le _,e0,e1⟩ ?_ ?_
 . (refine Zj ?_ ?_ ?_ rfl rfl<;>dsimp only [Zi,Zg,Zr,Ze,id,go_sem]<;>simp [Zi,Zg,Zr,Ze,Za])
 rintro ⟨j,m0,m1⟩ ⟨hj,i0,i1⟩;simp only at hj i0 i1;dsimp only [go_sem];by_cases hlt:j < l.legs[k].gates.length
 . refine Zs (by simpa using hlt) ?_;dsimp only [go_sem];have hgk:=hg l.legs[k].gates[j] (List.getElem_mem _);rw [List.drop_eq_getElem_cons hlt,Zec] at i0 i1;refine Zn j hlt rfl ?_;dsimp only [Zi,go_sem];refine ZX 3 ?_;dsimp only [Zb,go_sem];refine Zs (by decide) ?_;dsimp only [Zb,go_sem];repeat (first | (refine ixa 0 rfl (by decide) ?_;dsimp only [Zb,go_sem]) | (refine call (V1 _ _) ?_;dsimp only [Zb,go_sem]))
   rw [Zf (n:=max d0 l.legs[k].gates[j].opens.lo+nl) (by omega) (by omega),Zf (n:=max d0 l.legs[k].gates[j].opens.lo+nl - 1) (by omega) (by omega)];refine br ?_ ?_
   . intro hA;dsimp only [Zb,go_sem];repeat (first | (refine ixa 0 rfl (by decide) ?_;dsimp only [Zb,go_sem]) | (refine call (V1 _ _) ?_;dsimp only [Zb,go_sem]))
     rw [if_pos (by simpa using hA)] at i0;refine Zs (by decide) ?_;dsimp only [Zb,go_sem];repeat (first | (refine ixa 1 rfl (by decide) ?_;dsimp only [Zb,go_sem]) | (refine call (V1 _ _) ?_;dsimp only [Zb,go_sem]))
     rw [Zf (n:=max d1 l.legs[k].gates[j].opens.hi+nh) (by omega) (by omega),Zf (n:=max d1 l.legs[k].gates[j].opens.hi+nh - 1) (by omega) (by omega)];refine br ?_ ?_
     . intro hB;dsimp only [Zb,go_sem];repeat (first | (refine ixa 1 rfl (by decide) ?_;dsimp only [Zb,go_sem]) | (refine call (V1 _ _) ?_;dsimp only [Zb,go_sem]))
       rw [if_pos (by simpa using hB)] at i1;refine Zo (by decide) ?_;dsimp only [go_sem];rw [Zf (n:=(j:Int)+1) (by omega) (by omega)];refine ⟨(j+1,min (min m0 (max d0 l.legs[k].gates[j].opens.lo)) 100001,min (min m1 (max d1 l.legs[k].gates[j].opens.hi)) 100001),⟨hlt,i0,i1⟩,by simp only;omega,?_⟩;(refine Zj ?_ ?_ ?_ rfl rfl<;>dsimp only [Zi,Zg,Zr,Ze,id,go_sem]<;>simp [Zi,Zg,Zr,Ze,Za])
     . intro hB;dsimp only [Zb,go_sem];rw [if_neg (by simpa using hB)] at i1;refine Zo (by decide) ?_;dsimp only [go_sem];rw [Zf (n:=(j:Int)+1) (by omega) (by omega)];refine ⟨(j+1,min (min m0 (max d0 l.legs[k].gates[j].opens.lo)) 100001,m1),⟨hlt,i0,i1⟩,by simp only;omega,?_⟩;(refine Zj ?_ ?_ ?_ rfl rfl<;>dsimp only [Zi,Zg,Zr,Ze,id,go_sem]<;>simp [Zi,Zg,Zr,Ze,Za])
   . intro hA;dsimp only [Zb,go_sem];rw [if_neg (by simpa using hA)] at i0;refine Zs (by decide) ?_;dsimp only [Zb,go_sem];repeat (first | (refine ixa 1 rfl (by decide) ?_;dsimp only [Zb,go_sem]) | (refine call (V1 _ _) ?_;dsimp only [Zb,go_sem]))
     rw [Zf (n:=max d1 l.legs[k].gates[j].opens.hi+nh) (by omega) (by omega),Zf (n:=max d1 l.legs[k].gates[j].opens.hi+nh - 1) (by omega) (by omega)];refine br ?_ ?_
     . intro hB;dsimp only [Zb,go_sem];repeat (first | (refine ixa 1 rfl (by decide) ?_;dsimp only [Zb,go_sem]) | (refine call (V1 _ _) ?_;dsimp only [Zb,go_sem]))
       rw [if_pos (by simpa using hB)] at i1;refine Zo (by decide) ?_;dsimp only [go_sem];rw [Zf (n:=(j:Int)+1) (by omega) (by omega)];refine ⟨(j+1,m0,min (min m1 (max d1 l.legs[k].gates[j].opens.hi)) 100001),⟨hlt,i0,i1⟩,by simp only;omega,?_⟩;(refine Zj ?_ ?_ ?_ rfl rfl<;>dsimp only [Zi,Zg,Zr,Ze,id,go_sem]<;>simp [Zi,Zg,Zr,Ze,Za])
     . intro hB;dsimp only [Zb,go_sem];rw [if_neg (by simpa using hB)] at i1;refine Zo (by decide) ?_;dsimp only [go_sem];rw [Zf (n:=(j:Int)+1) (by omega) (by omega)];refine ⟨(j+1,m0,m1),⟨hlt,i0,i1⟩,by simp only;omega,?_⟩;(refine Zj ?_ ?_ ?_ rfl rfl<;>dsimp only [Zi,Zg,Zr,Ze,id,go_sem]<;>simp [Zi,Zg,Zr,Ze,Za])
 refine Zo (by simp;omega) ?_;dsimp only [go_sem];have hke:j=l.legs[k].gates.length:=by omega
 subst hke;rw [List.drop_length,Zec] at i0 i1;rw [<- i0,<- i1]
end Go.Proofs.YtongccnhomncnaaGreatDoor
namespace Go.Azalai
theorem ZkH {n day:Int} {o s:Gate->Int} (hn:1<=n) (hd:day<=100001):∀ {l:List Gate},(∀ g ∈ l,s g<=100000)->(day<=Zbk n day o s l/\Zbk n day o s l<=100001)/\(Zbk n day o s l=100001\/Zbk n day o s l+n<=100001)
 | [],_=>⟨⟨by simp only [Zbk];omega,by simp only [Zbk];omega⟩,.inl rfl⟩
 | x :: l,h=>by
  have:=h x (by simp);have:=ZkH (day:=day) (o:=o) (s:=s) (l:=l) hn hd (λg hg=>h g (by simp [hg]));simp only [Zbk];split<;>omega
theorem Zfv {n day:Int} {o s:Gate->Int} (hn:1<=n):∀ {l:List Gate},(∀ g ∈ l,s g<=100000)->Zbk n day o s l<=100001
 | [],_=>by simp only [Zbk];omega
 | x :: l,h=>by
  have:=h x (by simp);have:=Zfv (day:=day) (o:=o) (s:=s) (l:=l) hn (λg hg=>h g (by simp [hg]));simp only [Zbk];split<;>omega
def nK (k:Bool) (x:Leg) (p:Span):Int:=bif k then (ZbG x p).hi else (ZbG x p).lo
def leK (k:Bool) (x:Leg) (p:Span) (t:Int):Int:=bif k then Zxx x p t else ZAL x p t
def Z6 (k:Bool) (x:Leg) (p:Span) (t:Int):Int:=min 100001 (leK k x p t+nK k x p)
theorem ZmG {k:Bool} {x:Leg} {p:Span} (h:GoodLeg x) (hp:Yf p=true):1<=nK k x p/\nK k x p<=1000000:=by
 have:=day_bd h hp;cases k<;>simp only [nK,cond_true,cond_false]<;>omega
theorem Zb5 {k:Bool} {x:Leg} {p:Span} {t:Int} (h:GoodLeg x) (hp:Yf p=true) :
 leK k x p t=Zec (nK k x p) t (λg=>bif k then g.opens.hi else g.opens.lo) (λg=>bif k then g.shuts.lo else g.shuts.hi) 100001 x.gates /\
 leK k x p t=Zbk (nK k x p) t (λg=>bif k then g.opens.hi else g.opens.lo) (λg=>bif k then g.shuts.lo else g.shuts.hi) x.gates/\∀ g ∈ x.gates,(bif k then g.shuts.lo else g.shuts.hi)<=100000:=by
 have hn:=ZmG (k:=k) h hp;have hg:=XC h.g2 (Int.le_refl _);have h2:∀ g ∈ x.gates,(bif k then g.shuts.lo else g.shuts.hi)<=100000:=λg hm=>by have:=hg g hm;cases k<;>simp only [cond_true,cond_false]<;>omega
 have h1:leK k x p t=Zbk (nK k x p) t (λg=>bif k then g.opens.hi else g.opens.lo) (λg=>bif k then g.shuts.lo else g.shuts.hi) x.gates:=by cases k<;>rfl
 refine ⟨?_,h1,h2⟩;rw [Zdx hn.1 (λg q=>by cases k<;>simp only [cond_true,cond_false]<;>omega) h.g2 (Int.le_refl _) (by omega),h1];have:=Zfv (day:=t) (o:=λg=>bif k then g.opens.hi else g.opens.lo) hn.1 h2;omega
theorem ZeZ {n:Int} {o s:Gate->Int} {d d':Int} (hn:1<=n) (hd:d<=d'):∀ {l:List Gate} {a a':Int},a<=a'->a'<=100001->(∀ g ∈ l,s g<=100000)->Zec n d o s a l<=Zec n d' o s a' l
 | [],a,a',ha,_,_=>by simpa only [Zec] using ha
 | g :: l,a,a',ha,hb,hs=>by
  simp only [Zec];have:=hs g (by simp);refine ZeZ hn hd ?_ ?_ (λg hg=>hs g (by simp [hg]))
  . repeat' split
    all_goals omega
  . split<;>omega
theorem Zbr {k:Bool} {x:Leg} {p:Span} {t t':Int} (h:GoodLeg x) (hp:Yf p=true) (ht:t<=t'):Z6 k x p t<=Z6 k x p t':=by
 have hn:=ZmG (k:=k) h hp;obtain ⟨a1,_,a3⟩:=Zb5 (k:=k) (t:=t) h hp;obtain ⟨b1,_,_⟩:=Zb5 (k:=k) (t:=t') h hp;have:=ZeZ (o:=λg=>bif k then g.opens.hi else g.opens.lo) hn.1 ht (Int.le_refl 100001) (Int.le_refl _) a3;simp only [Z6];omega
theorem XO {k:Bool} {x:Leg} {p:Span} {t:Int} (h:GoodLeg x) (hp:Yf p=true) (ht:t<=100001):Z6 k x p t<=100001/\(t+1<=Z6 k x p t\/t=100001/\Z6 k x p t=100001)/\(Z6 k x p t < 100001->Z6 k x p t=leK k x p t+nK k x p/\leK k x p t < 100001)/\(leK k x p t < 100001->leK k x p t+nK k x p<=100001)/\t<=leK k x p t/\leK k x p t<=100001:=by
 have hn:=ZmG (k:=k) h hp;obtain ⟨_,a2,a3⟩:=Zb5 (k:=k) (t:=t) h hp;have:=ZkH (o:=λg=>bif k then g.opens.hi else g.opens.lo) hn.1 ht a3;rw [<- a2] at this;simp only [Z6];omega
theorem Zaf {k:Bool} {x:Leg} {p:Span} {t:Int} (h:GoodLeg x) (hp:Yf p=true) (ht:t<=100001):t<=Z6 k x p t:=by
 have:=XO (k:=k) h hp ht;omega
def Zm (x:Leg) (v:Int):Int:=if x.a=v then x.b else if x.b=v then x.a else -1
def goW (k:Bool) (l:Land) (p:Span):Int->Int->List Nat->Option (Int × Int)
 | v,t,[]=>some (v,t)
 | v,t,i :: r=>match l.legs[i]? with
  | none=>none
  | some x=>if Zm x v < 0 then none else if Z6 k x p t > 100000 then none else goW k l p (Zm x v) (Z6 k x p t) r
structure OkLP (l:Land) (p:Span):Prop where
 land:Z7 l=true
 pace:Yf p=true
theorem OkLP.leg {l:Land} {p:Span} (h:OkLP l p) {i:Nat} {x:Leg} (hx:l.legs[i]? = some x):GoodLeg x:=WQ h.land x (List.mem_of_getElem? hx)
theorem OkLP.ends {l:Land} {p:Span} (h:OkLP l p) {x:Leg} (hx:x ∈ l.legs):(0<=x.a/\x.a < l.wells.length)/\(0<=x.b/\x.b < l.wells.length)/\x.a≠x.b:=by
 have h1:=h.land;simp only [Z7,Bool.and_eq_true,List.all_eq_true] at h1;have:=h1.2 x hx;simp only [WD,inR,Bool.and_eq_true,decide_eq_true_eq,bne_iff_ne] at this;obtain ⟨⟨⟨⟨⟨q1,q2⟩,q3⟩,_⟩,_⟩,_⟩:=this;refine ⟨by omega,by omega,q3⟩
theorem Yk {l:Land} {p:Span} (h:OkLP l p) {i:Nat} {x:Leg} (hx:l.legs[i]? = some x) {v:Int} (ho:¬ Zm x v < 0):(0<=Zm x v/\Zm x v < l.wells.length)/\(x.a=v/\Zm x v=x.b\/x.b=v/\Zm x v=x.a)/\0<=v/\v < l.wells.length:=by
 have:=h.ends (List.mem_of_getElem? hx);unfold Zm at ho ⊢;split
 . omega
 . split
   . omega
   . rw [if_neg (by assumption),if_neg (by assumption)] at ho;omega
theorem ZbW {k:Bool} {l:Land} {p:Span}:∀ {a b:List Nat} {v t:Int},goW k l p v t (a ++ b)=(goW k l p v t a).bind λs=>goW k l p s.1 s.2 b
 | [],b,v,t=>rfl
 | i :: a,b,v,t=>by
  simp only [List.cons_append,goW];cases l.legs[i]? with
  | none=>rfl
  | some x =>
   simp only;split
   . rfl
   . split
     . rfl
     . exact ZbW
theorem Ud {k:Bool} {l:Land} {p:Span} (h:OkLP l p):∀ {a:List Nat} {v t v' t':Int},goW k l p v t a=some (v',t')->t<=100000->0<=v->v < l.wells.length->t+a.length<=t'/\t'<=100000/\0<=v'/\v' < l.wells.length
 | [],v,t,v',t',e,ht,h0,h1=>by simp only [goW,Option.some.injEq,Prod.mk.injEq] at e;simp;omega
 | i :: a,v,t,v',t',e,ht,h0,h1=>by
  simp only [goW] at e;cases hx:l.legs[i]? with
  | none=>rw [hx] at e;cases e
  | some x =>
   rw [hx] at e;simp only at e;by_cases ho:Zm x v < 0
   . rw [if_pos ho] at e;cases e
   . rw [if_neg ho] at e;by_cases hr:Z6 k x p t > 100000
     . rw [if_pos hr] at e;cases e
     . rw [if_neg hr] at e;have hb:=XO (k:=k) (h.leg hx) h.pace (show t<=100001 by omega);have ho':=Yk h hx ho;have:=Ud h e (by omega) ho'.1.1 ho'.1.2;simp only [List.length_cons];omega
def ZnW (k:Bool) (l:Land) (p:Span) (d:Int->Int):Prop:=∀ x ∈ l.legs,d x.b<=Z6 k x p (d x.a)/\d x.a<=Z6 k x p (d x.b)
theorem Ze9 {k:Bool} {l:Land} {p:Span} {d:Int->Int} (h:OkLP l p) (hc:ZnW k l p d):∀ {a:List Nat} {v t v' t':Int},goW k l p v t a=some (v',t')->d v<=t->d v'<=t'
 | [],v,t,v',t',e,ht=>by simp only [goW,Option.some.injEq,Prod.mk.injEq] at e;rw [<- e.1];omega
 | i :: a,v,t,v',t',e,ht=>by
  simp only [goW] at e;cases hx:l.legs[i]? with
  | none=>rw [hx] at e;cases e
  | some x =>
   rw [hx] at e;simp only at e;by_cases ho:Zm x v < 0
   . rw [if_pos ho] at e;cases e
   . rw [if_neg ho] at e;by_cases hr:Z6 k x p t > 100000
     . rw [if_pos hr] at e;cases e
     . rw [if_neg hr] at e;refine Ze9 h hc e ?_;have hcx:=hc x (List.mem_of_getElem? hx);have hm:=Zbr (k:=k) (h.leg hx) h.pace ht;rcases (Yk h hx ho).2.1 with ⟨q1,q2⟩ | ⟨q1,q2⟩
       . rw [q2];rw [<- q1] at hm;omega
       . rw [q2];rw [<- q1] at hm;omega
open Classical in
noncomputable def Xf (k:Bool) (l:Land) (p:Span) (s day v:Int):Int :=
 if h:∃ n:Nat,∃ a,goW k l p s day a=some (v,(n:Int)) then ((Go.Sx.least_ex _ h).choose:Int) else 100001
theorem ZbC {k:Bool} {l:Land} {p:Span} (h:OkLP l p) {s day v t:Int} {a:List Nat} (e:goW k l p s day a=some (v,t)) (hd:0<=day) (hd':day<=100000) (h0:0<=s) (h1:s < l.wells.length):Xf k l p s day v<=t:=by
 have hb:=Ud h e hd' h0 h1;have hex:∃ n:Nat,∃ a,goW k l p s day a=some (v,(n:Int)):=⟨t.toNat,a,by rw [e,show ((t.toNat:Nat):Int)=t by omega]⟩
 unfold Xf;rw [dif_pos hex];have:=(Go.Sx.least_ex _ hex).choose_spec.2 t.toNat ⟨a,by rw [e,show ((t.toNat:Nat):Int)=t by omega]⟩;omega
theorem Zcn {k:Bool} {l:Land} {p:Span} {s day v:Int}:Xf k l p s day v=100001\/∃ a,goW k l p s day a=some (v,Xf k l p s day v):=by
 unfold Xf;by_cases hex:∃ n:Nat,∃ a,goW k l p s day a=some (v,(n:Int))
 . rw [dif_pos hex];exact .inr (Go.Sx.least_ex _ hex).choose_spec.1
 . rw [dif_neg hex];exact .inl rfl
theorem Zj0 {k:Bool} {l:Land} {p:Span} (h:OkLP l p) {s day v:Int} (hd:0<=day) (hd':day<=100000) (h0:0<=s) (h1:s < l.wells.length):day<=Xf k l p s day v/\Xf k l p s day v<=100001:=by
 rcases Zcn (k:=k) (l:=l) (p:=p) (s:=s) (day:=day) (v:=v) with e | ⟨a,e⟩
 . omega
 . have:=Ud h e hd' h0 h1;omega
theorem Zbh {k:Bool} {l:Land} {p:Span} {a:List Nat} {s t v u:Int} {i:Nat} {x:Leg} (e:goW k l p s t a=some (v,u)) (hx:l.legs[i]? = some x) (ho:¬ Zm x v < 0) (hr:¬ Z6 k x p u > 100000):goW k l p s t (a ++ [i])=some (Zm x v,Z6 k x p u):=by
 rw [ZbW,e];simp only [Option.bind_some,goW,hx];rw [if_neg ho,if_neg hr]
theorem Zdz {k:Bool} {l:Land} {p:Span} (h:OkLP l p) {s day:Int} (hd:0<=day) (hd':day<=100000) (h0:0<=s) (h1:s < l.wells.length) {d:Int->Int} (hs:d s<=day) (hc:ZnW k l p d) (hb:∀ v,d v<=100001)
 (hr:∀ v,d v=100001\/∃ a,goW k l p s day a=some (v,d v)) (v:Int):d v=Xf k l p s day v:=by
 have h2:Xf k l p s day v<=d v:=by
  rcases hr v with e | ⟨a,e⟩
  . have:=Zj0 (k:=k) (v:=v) h hd hd' h0 h1;omega
  . exact ZbC h e hd hd' h0 h1
 have h3:d v<=Xf k l p s day v:=by
  rcases Zcn (k:=k) (l:=l) (p:=p) (s:=s) (day:=day) (v:=v) with e | ⟨a,e⟩
  . have:=hb v;omega
  . exact Ze9 h hc e hs
 omega
noncomputable def WA (k:Bool) (l:Land) (p:Span) (s day:Int):List Int:=(List.range l.wells.length).map λv:Nat=>Xf k l p s day (v:Int)
end Go.Azalai
namespace Go.Proofs.YtongccnhomncnaaGreatDoor
open Go Go.Sx Go.Azalai
theorem ZvG (a b:Int) (c:Bool):Cp 104 [.sl c 1 [[I a],[I b]]] (I (min a b)):=by
 refine t104.1 (by simp [KFR]) (by simp) ?_;dsimp only [ZEb,ZD6,go_sem];refine Zo (by decide) ?_;dsimp only [go_sem];refine ixs 0 [I a] rfl rfl ?_;dsimp only [go_sem];refine ZX 2 ?_;dsimp only [Zb,go_sem];refine Zs (by decide) ?_;dsimp only [Zb,go_sem];refine ixs 1 [I b] rfl rfl ?_;dsimp only [Zb,go_sem];refine Zo (by decide) ?_;dsimp only [go_sem]
theorem ZeU (a:Int):Cp 110 [.sl true 1 [[I a]]] (I (min a 100001)):=by
 refine t110.1 (by simp [KFR]) (by simp) ?_;dsimp only [c110,r110,go_sem];refine ZEp (by simp) ?_;dsimp only [go_sem];refine call (ZvG a 100001 false) ?_;dsimp only [go_sem]
theorem Vv (l:Land) (p:Span) (k:Nat) (hk:k < l.legs.length) (d0 d1:Int) (hx:GoodLeg l.legs[k]) (hp:Yf p=true) (h0:inR 0 100001 d0=true) (h1:inR 0 100001 d1=true) :
 Cp 55 [.agg (Yl l p),I k,.agg [I d0,I d1]] (.agg [I (Z6 false l.legs[k] p d0),I (Z6 true l.legs[k] p d1)]):=by
 have hb:=day_bd hx hp;refine t55.1 (by simp [Yl,Zg,Zr,Zi,Ze,Za]) (by simp) ?_;dsimp only [c55,r55,Yl,go_sem];refine call (Wp l p k hk d0 d1 hx hp h0 h1) ?_;dsimp only [Yl,go_sem];refine call (ZdN l p k hk hx hp) ?_;dsimp only [Ze,go_sem];simp only [inR,decide_eq_true_eq] at h0 h1;have a0:=XO (k:=false) hx hp h0.2;have a1:=XO (k:=true) hx hp h1.2;simp only [leK,nK,cond_true,cond_false] at a0 a1;refine ZX 3 ?_
 dsimp only [Zb,go_sem];refine Zs (by decide) ?_;dsimp only [Zb,go_sem];repeat (refine ixa 0 rfl (by decide) ?_;dsimp only [Zb,go_sem])
 rw [Zf (n:=ZAL l.legs[k] p d0+(ZbG l.legs[k] p).lo) (by omega) (by omega)];refine call (ZeU _) ?_;dsimp only [Zb,go_sem];repeat (refine ixa 0 rfl (by decide) ?_;dsimp only [Zb,go_sem])
 refine Zs (by decide) ?_;dsimp only [Zb,go_sem];repeat (refine ixa 1 rfl (by decide) ?_;dsimp only [Zb,go_sem])
 rw [Zf (n:=Zxx l.legs[k] p d1+(ZbG l.legs[k] p).hi) (by omega) (by omega)];refine call (ZeU _) ?_;dsimp only [Zb,go_sem];repeat (refine ixa 1 rfl (by decide) ?_;dsimp only [Zb,go_sem])
 refine Zo (by decide) ?_;dsimp only [go_sem];simp only [Z6,leK,nK,cond_true,cond_false];rw [Int.min_comm,Int.min_comm 100001 (Zxx l.legs[k] p d1+(ZbG l.legs[k] p).hi)]
def ZcV (l:Land) (p:Span) (v:Int):Ot:=⟨false,.cl 160 [.p 0 0,.p 1 0],[(1,.cells [I v] 3),(0,.cells (Yl l p) 126)],2⟩
theorem ZdF (l:Land) (p:Span) (v:Int):Cq 97 [] 0 [.agg (Yl l p),I v] (λo=>o=ZcV l p v):=by
 refine m97 (by simp [hpb]) (λo ho=>by subst ho;simp [ZcV,KX,KXL,KXP,KXH,Za,KFL,KF,Yl,Zg,Zr,Zi]) ?_;dsimp only [c97,r97,Yl,go_sem];refine ⟨_,rfl,?_⟩;simp only [ZcV];(refine Zw ?_ ?_ ?_ rfl<;>dsimp only [Yl,Zg,Zr,Zi,id,go_sem]<;>simp [Yl,Zg,Zr,Zi,Za])
end Go.Proofs.YtongccnhomncnaaGreatDoor
namespace Go.Azalai
def Vl (l:Land) (leg v:Int):Int:=if h:0<=leg/\leg.toNat < l.legs.length then Zm l.legs[leg.toNat] v else -1
end Go.Azalai
namespace Go.Proofs.YtongccnhomncnaaGreatDoor
open Go Go.Sx Go.Azalai
theorem ZBP (l:Land) (p:Span) (leg v:Int) (hl:l.legs.length<=1000):Cp 53 [.agg (Yl l p),I leg,I v] (I (Vl l leg v)):=by
 refine t53.1 (by simp [Yl,Zg,Zr,Zi,Za]) (by simp) ?_;dsimp only [c53,r53,Yl,go_sem];refine ZaI [] (ZdF l p v) rfl rfl rfl ?_ ?_ ?_
 . exact Zc (by simp [Yl,Zg,Zr,Zi,Za])
 . trivial
 dsimp only [ZcV,Yl,go_sem];refine gh Zp ?_;dsimp only [go_sem];refine ⟨b160,λrec=>?_⟩;refine y160 ?_;dsimp only [ZBJ,ZDf,go_sem];refine Ym (λj:Nat=>[(10,I j)]) (λ_=>[]) (λj=>j<=l.legs.length/\(0<=leg->leg < j->Vl l leg v = -1)) (λj=>l.legs.length - j) 0 ⟨Nat.zero_le _,λh1 h2=>by omega⟩ ?_ ?_
 . (refine Zj ?_ ?_ ?_ rfl rfl<;>dsimp only [Yl,Zg,Zr,Zi,id,go_sem]<;>simp [Yl,Zg,Zr,Zi,Za])
 rintro j ⟨hj,hi⟩;dsimp only [go_sem];simp only [List.length_map];by_cases hlt:j < l.legs.length
 . refine Zs (by simpa using hlt) ?_;dsimp only [go_sem];refine Zn j hlt rfl ?_;dsimp only [Zr,go_sem];have hend:leg=j->Vl l leg v=Zm l.legs[j] v:=λhe=>by
    subst he;unfold Vl;rw [dif_pos ⟨by omega,by simpa using hlt⟩];simp
   by_cases ha:v=l.legs[j].a
   . refine Zs (by simpa using ha) ?_;dsimp only [go_sem];refine ⟨rfl,rfl,?_⟩;by_cases he:leg=j
     . refine Zs (by simp [he]) ?_;dsimp only [go_sem];refine ⟨rfl,?_⟩;refine Zs (by decide) ?_;dsimp only [go_sem];rw [hend he,Zm,if_pos ha.symm]
     . refine Zo (by simp;omega) ?_;dsimp only [go_sem];refine ⟨rfl,?_⟩;refine Zo (by decide) ?_;dsimp only [go_sem];rw [Zf (n:=(j:Int)+1) (by omega) (by omega)];refine ⟨j+1,⟨hlt,λh1 h2=>hi h1 (by omega)⟩,by omega,?_⟩;(refine Zj ?_ ?_ ?_ rfl rfl<;>dsimp only [Yl,Zg,Zr,Zi,id,go_sem]<;>simp [Yl,Zg,Zr,Zi,Za])
   refine Zo (by simpa using ha) ?_;dsimp only [go_sem];by_cases hb:v=l.legs[j].b
   . refine Zs (by simpa using hb) ?_;dsimp only [go_sem];refine ⟨rfl,rfl,?_⟩;by_cases he:leg=j
     . refine Zs (by simp [he]) ?_;dsimp only [go_sem];refine ⟨rfl,?_⟩;refine Zs (by decide) ?_;dsimp only [go_sem];rw [hend he,Zm,if_neg (λe=>ha e.symm),if_pos hb.symm]
     . refine Zo (by simp;omega) ?_;dsimp only [go_sem];refine ⟨rfl,?_⟩;refine Zo (by decide) ?_;dsimp only [go_sem];rw [Zf (n:=(j:Int)+1) (by omega) (by omega)];refine ⟨j+1,⟨hlt,λh1 h2=>hi h1 (by omega)⟩,by omega,?_⟩;(refine Zj ?_ ?_ ?_ rfl rfl<;>dsimp only [Yl,Zg,Zr,Zi,id,go_sem]<;>simp [Yl,Zg,Zr,Zi,Za])
   refine Zo (by simpa using hb) ?_;dsimp only [go_sem];rw [Zf (n:=(j:Int)+1) (by omega) (by omega)];refine ⟨j+1,⟨hlt,λh1 h2=>?_⟩,by omega,?_⟩
   . by_cases he:leg=j
     . rw [hend he,Zm,if_neg (λe=>ha e.symm),if_neg (λe=>hb e.symm)]
     . exact hi h1 (by omega)
   (refine Zj ?_ ?_ ?_ rfl rfl<;>dsimp only [Yl,Zg,Zr,Zi,id,go_sem]<;>simp [Yl,Zg,Zr,Zi,Za])
 refine Zo (by simp;omega) ?_;dsimp only [go_sem];have hz:Vl l leg v = -1:=by
  by_cases h1:0<=leg
  . by_cases h2:leg < j
    . exact hi h1 h2
    . unfold Vl;rw [dif_neg (by omega)]
  . unfold Vl;rw [dif_neg (by omega)]
 rw [hz]
def U64 (n:Int):SV:=.v (.int .u64 n)
theorem uw {n:Int} (h0:0<=n) (h1:n < 18446744073709551616):IntKind.u64.wrap n=n:=by
 have e:n % 2 ^ IntKind.u64.bits=n:=Int.emod_eq_of_lt h0 (by show n < 2 ^ 64;omega);simp only [IntKind.wrap,e,show IntKind.u64.signed=false from rfl,Bool.false_and];rfl
theorem Zds (n:Int) (h0:0<=n) (h1:n<=1000000):Cp 288 [U64 1,U64 n] (.tup [U64 0,U64 n]):=by
 refine t288.1 (by simp [U64]) (by simp [U64]) ?_;dsimp only [c288,r288,U64,go_sem];have sh:∀ (m:Int),0<=m->m < 4294967296->∀ w:World,(binOp .shr 168 (.int .u64 m) (.int .u64 32)).run Tryz.prog w = .ok (.int .u64 0) w:=λm q0 q1 w=>by
  simp only [binOp,Op.shift];rw [if_neg (by decide)];have:m.fdiv (2 ^ 32)=0:=by rw [Int.fdiv_eq_ediv_of_nonneg _ (by decide)];omega
  show Result.ok (Value.int .u64 (m.fdiv (2 ^ (min (32:Int).toNat IntKind.u64.bits)))) w=_;rw [show min (32:Int).toNat IntKind.u64.bits=32 from by decide,this]
 have an:∀ (m:Int),0<=m->m < 4294967296->∀ w:World,(binOp .and 168 (.int .u64 m) (.int .u64 4294967295)).run Tryz.prog w = .ok (.int .u64 m) w:=λm q0 q1 w=>by
  obtain ⟨k,rfl⟩:=Int.eq_ofNat_of_zero_le q0;have hk:k < 4294967296:=by omega
  have e:(BitVec.ofInt 64 (k:Int) &&& BitVec.ofInt 64 4294967295).toNat=k:=by
   rw [BitVec.toNat_and,show (BitVec.ofInt 64 4294967295).toNat=2 ^ 32 - 1 from by decide,Nat.and_two_pow_sub_one_eq_mod,BitVec.ofInt_natCast,BitVec.toNat_ofNat];omega
  show Result.ok (Value.int .u64 (IntKind.u64.wrap (((BitVec.ofInt 64 (k:Int) &&& BitVec.ofInt 64 4294967295).toNat:Nat):Int))) w=_;rw [e,uw (by omega) (by omega)]
 refine YZ rfl (.inl rfl) (an 1 (by omega) (by omega)) rfl ?_;dsimp only [go_sem];refine YZ rfl (.inr rfl) (sh 1 (by omega) (by omega)) rfl ?_;dsimp only [go_sem];refine YZ rfl (.inl rfl) (an n (by omega) (by omega)) rfl ?_;dsimp only [go_sem];refine YZ rfl (.inr rfl) (sh n (by omega) (by omega)) rfl ?_;dsimp only [go_sem];simp (disch:=omega) only [uw,Int.one_mul,Int.zero_mul,Int.mul_zero,Int.add_zero,Int.zero_add]
 refine YZ rfl (.inr rfl) (sh n (by omega) (by omega)) rfl ?_;dsimp only [go_sem];simp (disch:=omega) only [uw,Int.one_mul,Int.zero_mul,Int.mul_zero,Int.add_zero,Int.zero_add];refine YZ rfl (.inl rfl) (an 0 (by omega) (by omega)) rfl ?_;dsimp only [go_sem];refine YZ rfl (.inr rfl) (sh 0 (by omega) (by omega)) rfl ?_;dsimp only [go_sem];simp (disch:=omega) only [uw,Int.one_mul,Int.zero_mul,Int.mul_zero,Int.add_zero,Int.zero_add]
 refine YZ rfl (.inr rfl) (sh 0 (by omega) (by omega)) rfl ?_;dsimp only [go_sem];simp (disch:=omega) only [uw,Int.one_mul,Int.zero_mul,Int.mul_zero,Int.add_zero,Int.zero_add]
theorem ZkJ (n:Int) (h0:0<=n) (h1:n<=1000000):Cp 262 [U64 1,U64 n] (.tup [U64 0,U64 n]):=by
 refine t262.1 (by simp [U64]) (by simp [U64]) ?_;dsimp only [c262,r262,U64,go_sem];refine Zo (by decide) ?_;dsimp only [go_sem];refine call (Zds n h0 h1) ?_;dsimp only [U64,go_sem]
theorem XP {r:Ls} (h:KFL r):∀ n,KFR (List.replicate n r)
 | 0=>trivial
 | n+1=>⟨h,XP h n⟩
theorem Zwk (x:Int) (n:Nat) (h0:1<=n) (h1:n<=1000) (k:Bool):Cq 243 [] 0 [.sl k 1 [[I x]],I n] (λo=>o=⟨false,.mr 0 0,[(0,.row 0 1 (List.replicate n [I x]) 3)],1⟩):=by
 have hm:KFL [I x]:=by simp
 have hone:Yu [I x]=true:=rfl;have hkr:=XP hm n;refine m243 (by simp [hpb]) (λo ho=>by subst ho;simp only [KX,KXL,KXP,KXH];exact ⟨trivial,hkr,trivial⟩) ?_;generalize [I x]=row at hm hone hkr;dsimp only [c243,r243,go_sem];refine Zo (by simp) ?_;dsimp only [go_sem];rw [show ((1:Nat):Int)=1 from rfl];simp (disch:=omega) only [uw];refine call (ZkJ n (by omega) (by omega)) ?_;dsimp only [U64,go_sem]
 refine gb ?_;dsimp only [go_sem];refine gb ?_;dsimp only [go_sem];refine Zo (by simp;omega) ?_;dsimp only [go_sem];refine ⟨n,Zf (by omega) (by omega),by omega,?_⟩;have hz:KFL [SV.v (Value.int IntKind.i64 0)]:=by simp
 generalize [SV.v (Value.int IntKind.i64 0)]=z at hz;dsimp only [go_sem];refine ⟨(by intro c hc;simp only [List.mem_singleton] at hc;subst hc;exact hone),by simp,?_⟩;have hmin:min n 1=1:=by omega
 simp only [List.length_replicate,List.length_singleton,hmin,List.drop_replicate];dsimp only [go_sem];refine Ym (λj:Nat=>[(8,I j)]) (λj=>[(0,.row 0 1 (List.replicate j row ++ List.replicate (n - j) z) 3)]) (λj=>1<=j/\j<=n) (λj=>n - j) 1 ⟨Nat.le_refl _,h0⟩ ?_ ?_
 . refine Zj ?_ ?_ ?_ rfl rfl<;>dsimp only [id,go_sem]<;>simp [Zd,XP,hz,hm,Zc,mtO,nbr,KFR,KFL,KF]
 rintro j ⟨hj0,hj⟩;dsimp only [go_sem];simp only [List.length_append,List.length_replicate,show j+(n - j)=n from by omega];by_cases hlt:j < n
 . refine Zs (by simpa using hlt) ?_;dsimp only [go_sem];refine ⟨j,n,⟨rfl,by simp;omega,by omega,by simp;omega⟩,?_⟩;dsimp only [go_sem];refine ⟨0,j,⟨rfl,rfl,by omega,by simp⟩,?_⟩;dsimp only [go_sem];have hx:List.take (j - 0) (List.replicate j row ++ List.replicate (n - j) z)=List.replicate j row:=by rw [Nat.sub_zero];exact List.take_left' (by simp)
   have hx':List.take j (List.replicate j row ++ List.replicate (n - j) z)=List.replicate j row:=List.take_left' (by simp);rw [hx];refine ⟨by simp,(by intro c hc;rw [List.eq_of_mem_replicate hc];exact hone),by simp,?_⟩;simp only [List.length_replicate];generalize hN:min (n - j) j=N;have e:List.take j (List.replicate j row ++ List.replicate (n - j) z) ++ (List.take N (List.replicate j row) ++ List.drop (j+N) (List.replicate j row ++ List.replicate (n - j) z))=List.replicate (j+N) row ++ List.replicate (n - (j+N)) z:=by
    rw [hx',List.take_replicate,List.drop_append,List.drop_of_length_le (l:=List.replicate j row) (by simp),List.length_replicate,List.nil_append,List.drop_replicate,<- List.append_assoc,List.replicate_append_replicate,show min N j=N from by omega];congr 2;omega
   rw [e];dsimp only [go_sem];rw [show (j:Int)+(N:Int)=((j+N:Nat):Int) from by omega,Zf (n:=((j+N:Nat):Int)) (by omega) (by omega)];refine ⟨j+N,⟨by omega,by omega⟩,by omega,?_⟩;refine Zj ?_ ?_ ?_ rfl rfl<;>dsimp only [id,go_sem]<;>simp [Zd,XP,hz,hm,Zc,mtO,nbr,KFR,KFL,KF]
 refine Zo (by simp;omega) ?_;dsimp only [go_sem];have hje:j=n:=by omega
 subst hje;simp only [Nat.sub_self,List.replicate_zero,List.append_nil];refine ⟨_,rfl,?_⟩;refine Zw ?_ ?_ ?_ rfl<;>dsimp only [id,go_sem]<;>simp [Zd,XP,hm,Zc,mtO,nbr,KFR,KFL,KF]
end Go.Proofs.YtongccnhomncnaaGreatDoor
namespace Go.Azalai
open Go.Sx
def dv (d:List Int) (v:Int):Int:=if 0<=v then d.getD v.toNat 100001 else 100001
theorem WZ {d:List Int} {i:Nat} (h:i < d.length):dv d i=d[i]:=by simp [dv,h]
theorem ZDA {d:List Int} {v:Int} (h:¬ (0<=v/\v < d.length)):dv d v=100001:=by
 unfold dv;split
 . have:¬ v.toNat < d.length:=by omega
   simp [List.getD_eq_getElem?_getD,List.getElem?_eq_none (Nat.le_of_not_lt this)]
 . rfl
theorem Wy {d:List Int} {i:Nat} {x v:Int} (h:i < d.length):dv (d.set i x) v=if v=i then x else dv d v:=by
 unfold dv;by_cases hv:0<=v
 . rw [if_pos hv,if_pos hv];by_cases he:v=i
   . subst he;simp [h]
   . rw [if_neg he];have:i≠v.toNat:=by omega
     simp [List.getD_eq_getElem?_getD,this]
 . rw [if_neg hv,if_neg hv,if_neg (by omega)]
structure Gone (k:Bool) (l:Land) (p:Span) (s day:Int) (d:List Int):Prop where
 len:d.length=l.wells.length
 ub:∀ v,dv d v<=100001
 real:∀ v,dv d v=100001\/∃ a,goW k l p s day a=some (v,dv d v)
 st:dv d s<=day
theorem Gone.lb {k:Bool} {l:Land} {p:Span} {s day:Int} {d:List Int} (h:Gone k l p s day d) (hg:OkLP l p) (hd:0<=day) (hd':day<=100000) (h0:0<=s) (h1:s < l.wells.length) (v:Int):day<=dv d v:=by
 rcases h.real v with e | ⟨a,e⟩
 . omega
 . have:=Ud hg e hd' h0 h1;omega
theorem Gone.relax {k:Bool} {l:Land} {p:Span} {s day:Int} {d:List Int} (h:Gone k l p s day d) (hg:OkLP l p) {i:Nat} {x:Leg} (hx:l.legs[i]? = some x) {v:Int} {w:Nat} (hw:Zm x v=w) (hd:0<=day) (hd':day<=100000) (h0:0<=s) (h1:s < l.wells.length) :
 Gone k l p s day (d.set w (min (dv d w) (Z6 k x p (dv d v))))/\w < d.length:=by
 have hwl:=(Yk hg hx (v:=v) (by omega)).1;have hwd:w < d.length:=by rw [h.len];omega
 refine ⟨⟨by simp [h.len],λu=>?_,λu=>?_,?_⟩,hwd⟩
 . rw [Wy hwd];split
   . have:=h.ub w;omega
   . exact h.ub u
 . rw [Wy hwd];split
   . rename_i hu;by_cases hr:Z6 k x p (dv d v) > 100000
     . have:=h.ub w;have hb:=XO (k:=k) (hg.leg hx) hg.pace (h.ub v);rw [show min (dv d w) (Z6 k x p (dv d v))=dv d w by omega,hu];exact h.real w
     . by_cases hm:dv d w<=Z6 k x p (dv d v)
       . rw [Int.min_eq_left hm,hu];exact h.real w
       . rw [Int.min_eq_right (by omega),hu];have hb:=XO (k:=k) (hg.leg hx) hg.pace (h.ub v);rcases h.real v with e | ⟨a,e⟩
         . omega
         . refine .inr ⟨a ++ [i],?_⟩;have:=Zbh e hx (by omega) hr;rw [hw] at this;exact this
   . exact h.real u
 . rw [Wy hwd];split
   . rename_i hs;have:=h.st;rw [hs] at this;omega
   . exact h.st
structure Dij (k:Bool) (l:Land) (p:Span) (s day:Int) (d:List Int) (left:Int->Prop):Prop where
 g:Gone k l p s day d
 cl:∀ x ∈ l.legs,∀ v:Int,0<=v->v < l.wells.length->¬ left v->0<=Zm x v->dv d (Zm x v)<=Z6 k x p (dv d v)
 or:∀ u v:Int,0<=u->u < l.wells.length->¬ left u->0<=v->v < l.wells.length->left v->dv d u<=dv d v
theorem Dij.done {k:Bool} {l:Land} {p:Span} {s day:Int} {d:List Int} {left:Int->Prop} (h:Dij k l p s day d left) (hg:OkLP l p) (he:∀ v,¬ left v) (hd:0<=day) (hd':day<=100000) (h0:0<=s) (h1:s < l.wells.length):d=WA k l p s day:=by
 have hc:ZnW k l p (dv d):=λx hx=>by
  have hen:=hg.ends hx;have q1:=h.cl x hx x.a hen.1.1 hen.1.2 (he _) (by simp [Zm];omega);have q2:=h.cl x hx x.b hen.2.1.1 hen.2.1.2 (he _) (by simp [Zm,hen.2.2];omega);simp only [Zm,if_true] at q1;simp only [Zm,if_neg hen.2.2,if_true] at q2;exact ⟨q1,q2⟩
 have heq:=Zdz (k:=k) hg hd hd' h0 h1 h.g.st hc h.g.ub h.g.real;refine List.ext_getElem (by simp [WA,h.g.len]) λi hi hi'=>?_;simp only [WA,List.getElem_map,List.getElem_range];rw [<- heq,WZ hi]
structure Rnd (k:Bool) (l:Land) (p:Span) (s day:Int) (d0 d:List Int) (near:Int) (j:Nat):Prop where
 g:Gone k l p s day d
 le:∀ v,dv d v<=dv d0 v
 ch:∀ v,dv d v=dv d0 v\/dv d0 near<=dv d v
 nr:dv d near=dv d0 near
 cl:∀ i x,i < j->l.legs[i]? = some x->0<=Zm x near->dv d (Zm x near)<=Z6 k x p (dv d0 near)
theorem Rnd.start {k:Bool} {l:Land} {p:Span} {s day:Int} {d:List Int} {near:Int} (h:Gone k l p s day d):Rnd k l p s day d d near 0 :=
 ⟨h,λ_=>Int.le_refl _,λ_=>.inl rfl,rfl,λi x hi=>by omega⟩
theorem Rnd.skip {k:Bool} {l:Land} {p:Span} {s day:Int} {d0 d:List Int} {near:Int} {j:Nat} (h:Rnd k l p s day d0 d near j) {x:Leg} (hx:l.legs[j]? = some x) (ho:Zm x near < 0):Rnd k l p s day d0 d near (j+1) :=
 ⟨h.g,h.le,h.ch,h.nr,λi y hi hy h0=>by
  by_cases he:i=j
  . subst he;rw [hx] at hy;cases hy;omega
  . exact h.cl i y (by omega) hy h0⟩
theorem Rnd.step {k:Bool} {l:Land} {p:Span} {s day:Int} {d0 d:List Int} {near:Int} {j:Nat} (h:Rnd k l p s day d0 d near j) (hg:OkLP l p) {x:Leg} (hx:l.legs[j]? = some x) {w:Nat} (hw:Zm x near=w) (hd:0<=day) (hd':day<=100000) (h0:0<=s) (h1:s < l.wells.length) :
 Rnd k l p s day d0 (d.set w (min (dv d w) (Z6 k x p (dv d near)))) near (j+1):=by
 obtain ⟨q1,q2⟩:=h.g.relax hg hx hw hd hd' h0 h1;have hge:=Zaf (k:=k) (hg.leg hx) hg.pace (h.g.ub near);have hwn:(w:Int)≠near:=λe=>by
  have:=hg.ends (List.mem_of_getElem? hx);unfold Zm at hw;split at hw
  . omega
  . split at hw
    . omega
    . omega
 rw [h.nr] at hge;refine ⟨q1,λv=>?_,λv=>?_,?_,λi y hi hy ho=>?_⟩
 . rw [Wy q2];split
   . rename_i hv;have:=h.le w;rw [hv];omega
   . exact h.le v
 . rw [Wy q2];split
   . rename_i hv;rw [hv,h.nr];have:=h.ch w;have:=h.le w;omega
   . exact h.ch v
 . rw [Wy q2,if_neg (λe=>hwn e.symm)];exact h.nr
 . rw [Wy q2];by_cases he:i=j
   . subst he;rw [hx] at hy;cases hy;rw [if_pos hw,h.nr];omega
   . have:=h.cl i y (by omega) hy ho;split
     . rename_i hv;rw [hv] at this;omega
     . exact this
theorem Rnd.finish {k:Bool} {l:Land} {p:Span} {s day:Int} {d0 d:List Int} {near:Int} {left left':Int->Prop} (hD:Dij k l p s day d0 left) (h:Rnd k l p s day d0 d near l.legs.length) (hn:left near) (hn0:0<=near) (hn1:near < l.wells.length)
 (hmin:∀ v:Int,0<=v->v < l.wells.length->left v->dv d0 near<=dv d0 v) (hl:∀ v,left' v↔left v/\v≠near) (hg:OkLP l p):Dij k l p s day d left':=by
 have keep:∀ u:Int,0<=u->u < l.wells.length->¬ left' u->dv d u=dv d0 u:=λu q1 q2 q3=>by
  by_cases he:u=near
  . rw [he];exact h.nr
  . have hnl:¬ left u:=λhh=>q3 ((hl u).2 ⟨hh,he⟩);have:=hD.or u near q1 q2 hnl hn0 hn1 hn;have:=h.ch u;have:=h.le u;omega
 refine ⟨h.g,λx hx v q1 q2 q3 ho=>?_,λu v q1 q2 q3 q4 q5 q6=>?_⟩
 . by_cases he:v=near
   . subst he;obtain ⟨i,hi⟩:=List.mem_iff_getElem?.1 hx;have:=h.cl i x (by rcases List.getElem?_eq_some_iff.1 hi with ⟨a,_⟩;exact a) hi ho;rw [keep _ q1 q2 q3];exact this
   . have hnl:¬ left v:=λhh=>q3 ((hl v).2 ⟨hh,he⟩);have:=hD.cl x hx v q1 q2 hnl ho;rw [keep v q1 q2 q3];have:=h.le (Zm x v);omega
 . rw [keep u q1 q2 q3];have hv:=(hl v).1 q6;have hun:dv d0 u<=dv d0 near:=by
    by_cases he:u=near
    . rw [he];omega
    . exact hD.or u near q1 q2 (λhh=>q3 ((hl u).2 ⟨hh,he⟩)) hn0 hn1 hn
   have:=hmin v q4 q5 hv.1;have:=h.ch v;omega
theorem Zjc {k:Bool} {l:Land} {p:Span} {s:Nat} {day:Int} (hs:s < l.wells.length) (hd:day<=100000):Gone k l p s day ((List.replicate l.wells.length 100001).set s day):=by
 have hl:s < (List.replicate l.wells.length (100001:Int)).length:=by simpa using hs
 have hz:∀ v,dv (List.replicate l.wells.length (100001:Int)) v=100001:=λv=>by
  unfold dv;split
  . simp only [List.getD_eq_getElem?_getD,List.getElem?_replicate];split<;>rfl
  . rfl
 refine ⟨by simp,λv=>?_,λv=>?_,?_⟩
 . rw [Wy hl,hz];split<;>omega
 . rw [Wy hl,hz];split
   . rename_i hv;exact .inr ⟨[],by rw [hv];rfl⟩
   . exact .inl rfl
 . rw [Wy hl,if_pos rfl];exact Int.le_refl _
theorem Zkn {k:Bool} {l:Land} {p:Span} {s day:Int} {d:List Int} {left:Int->Prop} (h:Gone k l p s day d) (hl:∀ v:Int,0<=v->v < l.wells.length->left v):Dij k l p s day d left :=
 ⟨h,λ_ _ v h0 h1 hn=>absurd (hl v h0 h1) hn,λu _ h0 h1 hn=>absurd (hl u h0 h1) hn⟩
end Go.Azalai
namespace Go.Proofs.YtongccnhomncnaaGreatDoor
open Go Go.Sx Go.Azalai
theorem ZiQ:Tryz.prog.underlying 168=some (.map 3 4):=by kernel_rfl
theorem u3:Tryz.prog.underlying 3=some (.int .i64):=by kernel_rfl
theorem ZeB:KeyT Tryz.prog 3 (λn:Int=>.int .i64 n) (λn=>.v (.int .i64 n)):=Zne u3
abbrev kI:Int->Value:=λn=>.int .i64 n
abbrev sI:Int->SV:=λn=>.v (.int .i64 n)
def mpR (n:Nat):List (Nat × Int × Bool):=(List.range n).map λj=>(j,(j:Int),true)
theorem Za7 (n:Nat):V7 n (n:Int) true (mpR n)=mpR (n+1)/\ZaS n (n:Int) (mpR n)=n+1:=by
 have h:Xk (n:Int) (mpR n)=none:=by
  rw [Y5];intro e he;simp only [mpR,List.mem_map,List.mem_range] at he;obtain ⟨j,hj,rfl⟩:=he;simp only;omega
 rw [UA h];exact ⟨by simp [mpR,List.range_succ],by simp [ZaS,h]⟩
theorem ZBa (n:Nat):MW (mpR n) n:=by
 induction n with
 | zero=>exact MW.nil
 | succ n ih =>
  have:=ih.set (k:=(n:Int)) true;rw [(Za7 n).1,(Za7 n).2] at this;exact this
theorem Zek {K V:Type} {L:List (Nat × K × V)} (h:(L.map (·.1)).Nodup) {e e':Nat × K × V} (he:e ∈ L) (he':e' ∈ L) (hb:e.1=e'.1):e=e':=by
 induction L with
 | nil=>cases he
 | cons x l ih =>
  simp only [List.map_cons,List.nodup_cons] at h;rcases List.mem_cons.1 he with h1 | h1<;>rcases List.mem_cons.1 he' with h2 | h2
  . rw [h1,h2]
  . exact absurd (by rw [<- h1,hb];exact List.mem_map.2 ⟨e',h2,rfl⟩) h.1
  . exact absurd (by rw [<- h2,<- hb];exact List.mem_map.2 ⟨e,h1,rfl⟩) h.1
  . exact ih h.2 h1 h2
theorem ZgO (l:Land) (p:Span) (hs:Small l) (hg:OkLP l p) (s:Nat) (hsl:s < l.wells.length) (day:Int) (hd:inR 0 100000 day=true) (k:Bool) :
 Cp 167 [.agg (Yl l p),I s,I day,I (bif k then 1 else 0)] (.sl false 1 ((WA k l p s day).map Zk)):=by
 refine t167.1 (by simp [Yl,Zg,Zr,Zi,Za]) (by simp [Za,Zk]) ?_;simp only [inR,decide_eq_true_eq] at hd;have hw:=hs.1;have hleg:=hs.2.1;generalize hkk:(bif k then (1:Int) else 0)=kk;have hkk':kk=((bif k then 1 else 0:Nat):Int):=by cases k<;>simp [<- hkk]
 dsimp only [c167,r167,Yl,go_sem];simp only [List.length_map];refine ZaI [] (Zwk 100001 l.wells.length (by omega) hw true) rfl rfl rfl ?_ ?_ ?_
 . exact Zc (by simp [KFR])
 . trivial
 dsimp only [go_sem];rw [show List.replicate l.wells.length [I 100001]=(List.replicate l.wells.length (100001:Int)).map Zk by simp [Zk]];refine UK s rfl (by simpa using hsl) ?_;dsimp only [go_sem];refine Ztj day (by simpa using hsl) (by simp [Zk]) (by simp [Zk,ZJ]) ?_;dsimp only [go_sem];refine Vp rfl rfl rfl ?_;dsimp only [go_sem];have hgo:=Zjc (k:=k) (l:=l) (p:=p) (s:=s) (day:=day) hsl hd.2;generalize (List.replicate l.wells.length (100001:Int)).set s day=d0 at hgo
 have hlen:=hgo.len;simp only [List.length_map,hlen];refine Ym (λj:Nat=>[(29,I j)]) (λj=>[(4,.map (mpS kI B (mpR j)) j)]) (λj=>j<=l.wells.length) (λj=>l.wells.length - j) 0 (Nat.zero_le _) ?_ ?_
 . (refine Zj ?_ ?_ ?_ rfl rfl<;>dsimp only [Yl,Zg,Zr,Zi,Zk,mpS,mpR,id,go_sem]<;>simp [Yl,Zg,Zr,Zi,Zk,mpS,mpR,Za])
 . intro j hj;dsimp only [go_sem];by_cases hlt:j < l.wells.length
   . refine Zs (by simpa using hlt) ?_;dsimp only [go_sem];refine Wu (ins:=false) (key:=kI) (val:=B) (L:=mpR j) (k:=(j:Int)) (v:=true) rfl rfl ZiQ ZeB rfl rfl (by simp) ?_;dsimp only [go_sem];rw [(Za7 j).1,(Za7 j).2,Zf (n:=(j:Int)+1) (by omega) (by omega)];refine ⟨j+1,hlt,by omega,?_⟩;(refine Zj ?_ ?_ ?_ rfl rfl<;>dsimp only [Yl,Zg,Zr,Zi,Zk,mpS,mpR,id,go_sem]<;>simp [Yl,Zg,Zr,Zi,Zk,mpS,mpR,Za])
   refine Zo (by simp;omega) ?_;dsimp only [go_sem];have hje:j=l.wells.length:=by omega
   subst hje;have hmem0:∀ v:Int,0<=v->v < l.wells.length->(Xk v (mpR l.wells.length)).isSome=true:=λv h0 h1=>by
    cases hq:Xk v (mpR l.wells.length) with
    | some _=>rfl
    | none =>
     have:=Y5.1 hq (v.toNat,v,true) (by simp only [mpR,List.mem_map,List.mem_range];exact ⟨v.toNat,by omega,by simp;omega⟩);exact absurd rfl this
   refine Ym (λ_:List Int × List (Nat × Int × Bool)=>[]) (λq=>[(2,.row 0 1 (q.1.map Zk) 3),(4,.map (mpS kI B q.2) l.wells.length)])
    (λq=>Dij k l p s day q.1 (λv=>(Xk v q.2).isSome=true)/\MW q.2 l.wells.length/\∀ e ∈ q.2,0<=e.2.1/\e.2.1 < l.wells.length) (λq=>q.2.length) (d0,mpR l.wells.length)
    ⟨Zkn hgo hmem0,ZBa _,λe he=>(by simp only [mpR,List.mem_map,List.mem_range] at he;obtain ⟨i,hi,rfl⟩:=he;simp only;omega)⟩ ?_ ?_
   . (refine Zj ?_ ?_ ?_ rfl rfl<;>dsimp only [Yl,Zg,Zr,Zi,Zk,ZD,Zt,id,go_sem]<;>simp [Yl,Zg,Zr,Zi,Zk,ZD,Zt,Za])
   rintro ⟨d,L⟩ ⟨hD,hM,hb⟩;simp only at hD hM hb;have hdl:=hD.g.len;dsimp only [go_sem];refine Zhx rfl rfl ZiQ rfl ?_;dsimp only [go_sem];by_cases hL:L=[]
   . subst hL;refine Zo (by simp [mpS]) ?_;dsimp only [go_sem];have:=hD.done hg (λv=>by simp [Xk]) hd.1 hd.2 (by omega) (by omega);rw [this]
   refine Zs (by simp [mpS,List.length_pos_iff.2 hL]) ?_;dsimp only [go_sem];refine ZlM rfl rfl ZiQ rfl rfl ?_;dsimp only [go_sem];have hd0:∀ v,0<=dv d v/\dv d v<=100001:=λv=>⟨by have:=hD.g.lb hg hd.1 hd.2 (by omega) (by omega) v;omega,hD.g.ub v⟩;refine Ym (λ_:List Nat × Int=>[]) (λq=>[(5,.cells [I q.2] 3),(6,.it 4 l.wells.length q.1 l.wells.length)])
    (λq=>(q.2 = -1/\∀ e ∈ L,e.1 ∉ q.1)\/(0<=q.2/\q.2 < l.wells.length/\(Xk q.2 L).isSome=true/\∀ e ∈ L,e.1 ∈ q.1->dv d q.2 < dv d e.2.1\/dv d q.2=dv d e.2.1/\q.2<=e.2.1))
    (λq=>Zrt L q.1) ([],-1) (.inl ⟨rfl,by simp⟩) ?_ ?_
   . (refine Zj ?_ ?_ ?_ rfl rfl<;>dsimp only [Yl,Zg,Zr,Zi,Zk,ZD,Zt,id,go_sem]<;>simp [Yl,Zg,Zr,Zi,Zk,ZD,Zt,Za])
   rintro ⟨seen,near⟩ hi;simp only at hi;dsimp only [go_sem];refine Zou (key:=kI) (sv:=sI) (val:=B) (L:=L) (c:=l.wells.length) rfl rfl rfl hM.bl (Nat.le_refl _) ZeB ?_ ?_
   . intro hall;dsimp only [go_sem];refine Zo rfl ?_;dsimp only [go_sem];have hnn:(0<=near/\near < l.wells.length/\(Xk near L).isSome=true/\∀ e ∈ L,e.1 ∈ seen->dv d near < dv d e.2.1\/dv d near=dv d e.2.1/\near<=e.2.1):=by
      rcases hi with ⟨_,hi⟩ | hi
      . obtain ⟨e,he⟩:=List.exists_mem_of_ne_nil _ hL;exact absurd (hall e he) (hi e he)
      . exact hi
     obtain ⟨hn0,hn1,hn2,hn3⟩:=hnn;have hmin:∀ v:Int,0<=v->v < l.wells.length->(Xk v L).isSome=true->dv d near<=dv d v:=λv _ _ hv=>by
      obtain ⟨y,hy⟩:=Option.isSome_iff_exists.1 hv;obtain ⟨b,hbm⟩:=Zhc hy;have:=hn3 _ hbm (hall _ hbm);simp only at this;omega
     obtain ⟨m,rfl⟩:∃ m:Nat,near=(m:Int):=⟨near.toNat,by omega⟩
     have hml:m < d.length:=by omega
     refine Zvq (key:=kI) (sv:=sI) (val:=B) (L:=L) (k:=(m:Int)) rfl rfl ZiQ ZeB rfl rfl ?_;dsimp only [go_sem];refine ZaI [] (ZdF l p m) rfl rfl rfl ?_ ?_ ?_
     . exact Zc (by simp [Yl,Zg,Zr,Zi,Za])
     . trivial
     dsimp only [ZcV,Yl,go_sem];refine gh Zp ?_;dsimp only [go_sem];refine ⟨b160,λrec=>?_⟩;refine y160 ?_;dsimp only [ZBJ,ZDf,go_sem];refine Ym (λq:Nat × List Int=>[(10,I q.1)]) (λq=>[(2,.row 0 1 (q.2.map Zk) 3)]) (λq=>q.1<=l.legs.length/\Rnd k l p s day d q.2 m q.1) (λq=>l.legs.length - q.1) (0,d) ⟨Nat.zero_le _,.start hD.g⟩ ?_ ?_
     . (refine Zj ?_ ?_ ?_ rfl rfl<;>dsimp only [Yl,Zg,Zr,Zi,Zk,ZD,Zt,id,go_sem]<;>simp [Yl,Zg,Zr,Zi,Zk,ZD,Zt,Za])
     rintro ⟨j,d'⟩ ⟨hj,hR⟩;simp only at hj hR;have hdl':=hR.g.len;dsimp only [go_sem];simp only [List.length_map];by_cases hlt:j < l.legs.length
     . refine Zs (by simpa using hlt) ?_;dsimp only [go_sem];refine Zn j hlt rfl ?_;dsimp only [Zr,go_sem];have hgl:GoodLeg l.legs[j]:=WQ hg.land _ (List.getElem_mem _);have hends:=hg.ends (List.getElem_mem hlt);obtain ⟨wa,hwa⟩:∃ w:Nat,l.legs[j].a=(w:Int):=⟨l.legs[j].a.toNat,by omega⟩
       obtain ⟨wb,hwb⟩:∃ w:Nat,l.legs[j].b=(w:Int):=⟨l.legs[j].b.toNat,by omega⟩
       have hwal:wa < d'.length:=by omega
       have hwbl:wb < d'.length:=by omega
       have hml':m < d'.length:=by omega
       have hxj:l.legs[j]? = some l.legs[j]:=List.getElem?_eq_getElem hlt;have hin:inR 0 100001 d'[m]=true:=by
        have q1:=hR.g.lb hg hd.1 hd.2 (by omega) (by omega) (m:Int);have q2:=hR.g.ub (m:Int);rw [WZ hml'] at q1 q2;simp only [inR,decide_eq_true_eq];omega
       by_cases hca:(m:Int)=l.legs[j].a
       . refine Zs (by simpa using hca) ?_;dsimp only [go_sem];refine ⟨rfl,rfl,?_⟩;simp only [hwb,List.length_map];refine UK wb rfl hwbl ?_;dsimp only [go_sem];refine Zeb hwbl ?_;dsimp only [Zk,go_sem];simp only [List.length_map];refine UK m rfl hml' ?_;dsimp only [go_sem];refine Zeb hml' ?_;dsimp only [Zk,go_sem];simp only [List.length_map];refine UK m rfl hml' ?_;dsimp only [go_sem];refine Zeb hml' ?_
         dsimp only [Zk,go_sem];refine call (Vv l p j hlt d'[m] d'[m] hgl hg.pace hin hin) ?_;dsimp only [go_sem];refine ixa (bif k then 1 else 0) hkk' (by cases k<;>decide) ?_;rw [show nth [I (Z6 false l.legs[j] p d'[m]),I (Z6 true l.legs[j] p d'[m])] ((bif k then 1 else 0) * 1)=some (I (Z6 k l.legs[j] p d'[m])) from by cases k<;>rfl];dsimp only [go_sem];simp only [List.length_map];refine UK wb rfl hwbl ?_
         dsimp only [go_sem];refine Ztj (min d'[wb] (Z6 k l.legs[j] p d'[m])) hwbl (by simp [Zk]) (by simp [Zk,ZJ]) ?_;dsimp only [go_sem];refine ⟨rfl,?_⟩;refine Zo (by decide) ?_;dsimp only [go_sem];rw [Zf (n:=(j:Int)+1) (by omega) (by omega)];have hst:=hR.step hg hxj (w:=wb) (by rw [Zm,if_pos hca.symm,hwb]) hd.1 hd.2 (by omega) (by omega);rw [WZ hwbl,WZ hml'] at hst;generalize d'.set wb (min d'[wb] (Z6 k l.legs[j] p d'[m]))=d2 at hst ⊢
         refine ⟨(j+1,d2),⟨hlt,hst⟩,by simp only;omega,?_⟩;(refine Zj ?_ ?_ ?_ rfl rfl<;>dsimp only [Yl,Zg,Zr,Zi,Zk,ZD,Zt,id,go_sem]<;>simp [Yl,Zg,Zr,Zi,Zk,ZD,Zt,Za])
       refine Zo (by simpa using hca) ?_;dsimp only [go_sem];by_cases hcb:(m:Int)=l.legs[j].b
       . refine Zs (by simpa using hcb) ?_;dsimp only [go_sem];refine ⟨rfl,rfl,?_⟩;simp only [hwa,List.length_map];refine UK wa rfl hwal ?_;dsimp only [go_sem];refine Zeb hwal ?_;dsimp only [Zk,go_sem];simp only [List.length_map];refine UK m rfl hml' ?_;dsimp only [go_sem];refine Zeb hml' ?_;dsimp only [Zk,go_sem];simp only [List.length_map];refine UK m rfl hml' ?_;dsimp only [go_sem];refine Zeb hml' ?_
         dsimp only [Zk,go_sem];refine call (Vv l p j hlt d'[m] d'[m] hgl hg.pace hin hin) ?_;dsimp only [go_sem];refine ixa (bif k then 1 else 0) hkk' (by cases k<;>decide) ?_;rw [show nth [I (Z6 false l.legs[j] p d'[m]),I (Z6 true l.legs[j] p d'[m])] ((bif k then 1 else 0) * 1)=some (I (Z6 k l.legs[j] p d'[m])) from by cases k<;>rfl];dsimp only [go_sem];simp only [List.length_map];refine UK wa rfl hwal ?_
         dsimp only [go_sem];refine Ztj (min d'[wa] (Z6 k l.legs[j] p d'[m])) hwal (by simp [Zk]) (by simp [Zk,ZJ]) ?_;dsimp only [go_sem];refine ⟨rfl,?_⟩;refine Zo (by decide) ?_;dsimp only [go_sem];rw [Zf (n:=(j:Int)+1) (by omega) (by omega)];have hst:=hR.step hg hxj (w:=wa) (by rw [Zm,if_neg (λe=>hca e.symm),if_pos hcb.symm,hwa]) hd.1 hd.2 (by omega) (by omega);rw [WZ hwal,WZ hml'] at hst;generalize d'.set wa (min d'[wa] (Z6 k l.legs[j] p d'[m]))=d2 at hst ⊢
         refine ⟨(j+1,d2),⟨hlt,hst⟩,by simp only;omega,?_⟩;(refine Zj ?_ ?_ ?_ rfl rfl<;>dsimp only [Yl,Zg,Zr,Zi,Zk,ZD,Zt,id,go_sem]<;>simp [Yl,Zg,Zr,Zi,Zk,ZD,Zt,Za])
       refine Zo (by simpa using hcb) ?_;dsimp only [go_sem];rw [Zf (n:=(j:Int)+1) (by omega) (by omega)];refine ⟨(j+1,d'),⟨hlt,hR.skip hxj (by rw [Zm,if_neg (λe=>hca e.symm),if_neg (λe=>hcb e.symm)];decide)⟩,by simp only;omega,?_⟩;(refine Zj ?_ ?_ ?_ rfl rfl<;>dsimp only [Yl,Zg,Zr,Zi,Zk,ZD,Zt,id,go_sem]<;>simp [Yl,Zg,Zr,Zi,Zk,ZD,Zt,Za])
     refine Zo (by simp;omega) ?_;dsimp only [go_sem];have hje:j=l.legs.length:=by omega
     subst hje
     have hfin:=Rnd.finish (left':=λv=>(Xk v (U1 (m:Int) L)).isSome=true) hD hR hn2 hn0 hn1 hmin (λv=>by
      rw [Zgq hM.kn];by_cases hv:v=(m:Int)
      . simp [hv]
      . simp [hv]) hg
     refine ⟨(d',U1 (m:Int) L),⟨hfin,hM.del,λe he=>hb e (U0.subset he)⟩,by simp only;have:=Zgp hn2;omega,?_⟩;(refine Zj ?_ ?_ ?_ rfl rfl<;>dsimp only [Yl,Zg,Zr,Zi,Zk,ZD,Zt,id,go_sem]<;>simp [Yl,Zg,Zr,Zi,Zk,ZD,Zt,Za])
   intro e he hse;dsimp only [go_sem];refine Zs rfl ?_;dsimp only [go_sem];refine ZjL (key:=kI) (sv:=sI) (val:=B) (L:=L) (c:=l.wells.length) (e:=e) rfl rfl rfl he hM.bn ZeB ?_;dsimp only [go_sem];have hbe:=hb e he;have hget:=ZlE hM.kn he;obtain ⟨m,hm⟩:∃ m:Nat,e.2.1=(m:Int):=⟨e.2.1.toNat,by omega⟩
   rw [hm] at hbe hget;simp only [hm];have hml:m < d.length:=by omega
   have hmeas:=ZrJ he hse;have hnl:near.toNat < d.length:=by rcases hi with ⟨rfl,_⟩ | ⟨_,_,_⟩<;>omega
   refine gb ?_;dsimp only [go_sem];refine gb ?_;dsimp only [go_sem];refine gb ?_;dsimp only [go_sem];simp only [List.length_map];refine UK m rfl hml ?_;dsimp only [go_sem];refine gb ?_;dsimp only [go_sem];refine Zeb hml ?_;dsimp only [Zk,go_sem];refine gb ?_;dsimp only [go_sem];refine gb ?_;dsimp only [go_sem];refine gb ?_;dsimp only [go_sem];simp only [List.length_map];refine ZuX near.toNat rfl (λh=>⟨by simp at h;omega,hnl⟩) ?_
   dsimp only [go_sem];refine gb ?_;dsimp only [go_sem];refine Zeb hnl ?_;dsimp only [Zk,go_sem];refine gb ?_;dsimp only [go_sem];refine gb ?_;dsimp only [go_sem];refine gb ?_;dsimp only [go_sem];refine gb ?_;dsimp only [go_sem];simp only [List.length_map];refine UK m rfl hml ?_;dsimp only [go_sem];refine gb ?_;dsimp only [go_sem];refine Zeb hml ?_;dsimp only [Zk,go_sem];refine gb ?_;dsimp only [go_sem]
   refine gb ?_;dsimp only [go_sem];refine gb ?_;dsimp only [go_sem];simp only [List.length_map];refine ZuX near.toNat rfl (λh=>⟨by simp at h;omega,hnl⟩) ?_;dsimp only [go_sem];refine gb ?_;dsimp only [go_sem];refine Zeb hnl ?_;dsimp only [Zk,go_sem];repeat (refine gb ?_;dsimp only [go_sem])
   have hdm:dv d (m:Int)=d[m]:=WZ hml;have hdn:0<=near->dv d near=d[near.toNat]:=λh=>by
    have:=WZ hnl;rw [<- this];congr 1;omega
   have hse':∀ e' ∈ L,e'.1 ∈ seen ++ [e.1]->e'.1 ∈ seen\/e'.2.1=m:=λe' he' h=>by
    rcases List.mem_append.1 h with h | h
    . exact .inl h
    . refine .inr ?_;simp only [List.mem_singleton] at h;have:e'=e:=Zek hM.bn he' he h;rw [this,hm]
   refine br ?_ ?_
   . intro hA;dsimp only [go_sem];refine ⟨(seen ++ [e.1],m),.inr ⟨by simp only;omega,by simp only;omega,by simp only;rw [hget];rfl,λe' he' h=>?_⟩,hmeas,?_⟩
     . simp only [hdm];rcases hse' e' he' h with h | h
       . rcases hi with ⟨rfl,hi⟩ | ⟨hn0,hn1,hn2,hi⟩
         . exact absurd h (hi e' he')
         . have:=hi e' he' h;rw [hdn hn0] at this;simp only [Bool.or_eq_true,Bool.and_eq_true,decide_eq_true_eq,beq_iff_eq] at hA;omega
       . rw [h,hdm];omega
     (refine Zj ?_ ?_ ?_ rfl rfl<;>dsimp only [Yl,Zg,Zr,Zi,Zk,ZD,Zt,id,go_sem]<;>simp [Yl,Zg,Zr,Zi,Zk,ZD,Zt,Za])
   . intro hA;dsimp only [go_sem];simp only [Bool.or_eq_false_iff,Bool.and_eq_false_iff,decide_eq_false_iff_not,beq_eq_false_iff_ne] at hA;refine ⟨(seen ++ [e.1],near),.inr ?_,hmeas,?_⟩
     . rcases hi with ⟨rfl,hi⟩ | ⟨hn0,hn1,hn2,hi⟩
       . omega
       . refine ⟨hn0,hn1,hn2,λe' he' h=>?_⟩;simp only [hdn hn0];rcases hse' e' he' h with h | h
         . have:=hi e' he' h;rw [hdn hn0] at this;exact this
         . rw [h,hdm];omega
     (refine Zj ?_ ?_ ?_ rfl rfl<;>dsimp only [Yl,Zg,Zr,Zi,Zk,ZD,Zt,id,go_sem]<;>simp [Yl,Zg,Zr,Zi,Zk,ZD,Zt,Za])
end Go.Proofs.YtongccnhomncnaaGreatDoor
namespace Go.Azalai
noncomputable def WT (l:Land) (p:Span) (s day:Int):List Span:=List.zipWith Span.mk (WA false l p s day) (WA true l p s day)
def WF (l:Land) (p:Span) (s day:Int):Int:=if Za0 l p≠0 then Za0 l p else if (inR 0 (l.wells.length - 1) s && inR 0 100000 day)=false then 2 else 0
theorem V0 {k:Bool} {l:Land} {p:Span} {s day:Int}:(WA k l p s day).length=l.wells.length:=by simp [WA]
theorem VY {l:Land} {p:Span} {s day:Int}:(WT l p s day).length=l.wells.length:=by simp [WT,V0]
theorem Zme {l:Land} {p:Span} (h:Za0 l p=0):OkLP l p:=by
 unfold Za0 at h;split at h
 . omega
 . split at h
   . omega
   . rename_i h1 h2;exact ⟨by simpa using h1,by simpa using h2⟩
end Go.Azalai
namespace Go.Proofs.YtongccnhomncnaaGreatDoor
open Go Go.Sx Go.Azalai
theorem Wr {xs:Rr} {n:Nat} (h:KFR xs):KFR (xs.take n):=by
 induction xs generalizing n with
 | nil=>simpa using h
 | cons x l ih=>cases n with
  | zero=>simp [KFR]
  | succ n=>simp only [List.take_succ_cons,KFR] at h ⊢;exact ⟨h.1,ih h.2⟩
def X3 (e:Int) (m:Nat) (xs:Rr):SV:=if e=0 then .sl false m xs else .v (.slice none 0 0)
theorem Zli (l:Land) (hs:Small l) (s day:Int) (p:Span):Cp 101 [.agg (Yo l),I s,I day,.agg (Ze p)] (.tup [X3 (WF l p s day) 2 ((WT l p s day).map Ze),I (WF l p s day)]):=by
 have hw:=hs.1;refine t101.1 (by simp [Yo,Zg,Zr,Zi,Ze,Za]) (by unfold X3;split<;>simp [KFL,KF,Za,Ze]) ?_;dsimp only [c101,r101,Yo,Ze,go_sem];by_cases ha:Za0 l p=0
 case neg =>
  refine call (Za6 l hs p ha) ?_;dsimp only [go_sem];refine Zs (by simpa using ha) ?_;dsimp only [go_sem];simp [WF,ha,X3]
 have hok:=Zme ha;refine call (Zdq l hs p ha) ?_;dsimp only [Yl,go_sem];refine Zo (by decide) ?_;dsimp only [go_sem];simp only [List.length_map];have h1:=Zai hok.land;rw [Zf (n:=(l.wells.length:Int) - 1) (by omega) (by omega)];refine call (Zas 0 (l.wells.length - 1) s true) ?_;dsimp only [go_sem];repeat (first | (refine gb ?_;dsimp only [go_sem]) | (refine call (Zas 0 100000 day true) ?_;dsimp only [go_sem]))
 by_cases hr:(inR 0 (l.wells.length - 1) s && inR 0 100000 day)=true
 case neg =>
  refine Zs (by simpa [Bool.and_eq_true,<- Bool.not_and] using hr) ?_;dsimp only [go_sem];simp [WF,ha,X3,hr]
 refine Zo (by simpa [<- Bool.not_and] using hr) ?_;dsimp only [go_sem];have he:WF l p s day=0:=by simp [WF,ha,hr]
 rw [he];simp only [Bool.and_eq_true] at hr;obtain ⟨hr1,hr2⟩:=hr;obtain ⟨s0,hs0,rfl⟩:∃ s0:Nat,s0 < l.wells.length/\s=(s0:Int):=by
  simp only [inR,decide_eq_true_eq] at hr1;exact ⟨s.toNat,by omega,by omega⟩
 refine call (ZgO l p hs hok s0 hs0 day hr2 true) ?_;dsimp only [go_sem];refine call (ZgO l p hs hok s0 hs0 day hr2 false) ?_;dsimp only [go_sem];simp only [List.length_map,V0];refine ZdB (Yc 12 2 27 rfl rfl) (λq:Nat × Nat=>[(50,I q.1),(12,.mr 3 q.2)]) (λq=>[(3,.row q.2 2 (((WT l p s0 day).take q.1).map Ze) 27)]) (λq=>q.1<=l.wells.length) (λq=>l.wells.length - q.1) (0,0) (Nat.zero_le _) ?_ ?_
 . (refine Zj ?_ ?_ ?_ rfl rfl<;>dsimp only [Ze,Zg,Zr,Zi,Zk,Wr,id,go_sem]<;>simp [Ze,Zg,Zr,Zi,Zk,Wr,Za])
 rintro ⟨j,v⟩ hj;simp only at hj;dsimp only [go_sem];by_cases hlt:j < l.wells.length
 . refine Zs (by simpa using hlt) ?_;dsimp only [go_sem];have hf0:j < (WA false l p s0 day).length:=by rw [V0];exact hlt
   have hf1:j < (WA true l p s0 day).length:=by rw [V0];exact hlt
   refine Zn j hf0 rfl ?_;dsimp only [Zk,go_sem];refine Zn j hf1 rfl ?_;dsimp only [Zk,go_sem];simp only [nbr];dsimp only [go_sem];have hlen:(((WT l p s0 day).take j).map Ze).length=j:=by simp [VY];omega
   refine ⟨(by intro c hc;simp only [List.mem_singleton] at hc;subst hc;rfl),by simp only [List.length_append,hlen,List.length_singleton];omega,?_⟩;dsimp only [go_sem];rw [Zf (n:=(j:Int)+1) (by omega) (by omega)];have hjl:j < (WT l p s0 day).length:=by rw [VY];exact hlt
   have e:((WT l p s0 day).take j).map Ze ++ [[SV.v (.int .i64 (WA false l p s0 day)[j]),SV.v (.int .i64 (WA true l p s0 day)[j])]]=((WT l p s0 day).take (j+1)).map Ze:=by
    rw [List.take_succ_eq_append_getElem hjl,List.map_append];simp [WT,Ze]
   rw [e];refine ⟨(j+1,v+1),hlt,by simp only;omega,?_⟩;(refine Zj ?_ ?_ ?_ rfl rfl<;>dsimp only [Ze,Zg,Zr,Zi,Zk,Wr,id,go_sem]<;>simp [Ze,Zg,Zr,Zi,Zk,Wr,Za])
 refine Zo (by simp;omega) ?_;dsimp only [go_sem];have hje:j=l.wells.length:=by omega
 subst hje;have:(WT l p s0 day).take l.wells.length=WT l p s0 day:=List.take_of_length_le (by rw [VY];exact Nat.le_refl _);rw [this];simp [X3,vwN]
end Go.Proofs.YtongccnhomncnaaGreatDoor
namespace Go.Azalai
def Zjn (S:List Span):List Int:=S.map (·.lo)
def Zkg (S:List Span):List Int:=S.map (·.hi)
def ZBI (p:Span) (S:List Span) (x:Leg) (v:Int):Prop:=0<=Zm x v->dv (Zjn S) (Zm x v)<=Z6 false x p (dv (Zjn S) v)/\dv (Zkg S) (Zm x v)<=Z6 true x p (dv (Zkg S) v)
def ZEs (S:List Span):Nat:=(S.map λs=>s.lo.toNat+s.hi.toNat).sum
def ZDe (x:Leg) (c:Nat):Int:=if c % 2=0 then x.a else x.b
structure RI (l:Land) (p:Span) (s day:Int) (S0 S:List Span) (ch:Bool) (c:Nat):Prop where
 g0:Gone false l p s day (Zjn S)
 g1:Gone true l p s day (Zkg S)
 le:ZEs S<=ZEs S0
 dec:ch=true->ZEs S < ZEs S0
 same:ch=false->S=S0/\∀ c' x,c' < c->l.legs[c' / 2]? = some x->ZBI p S0 x (ZDe x c')
theorem RI.start {l:Land} {p:Span} {s day:Int} {S:List Span} (h0:Gone false l p s day (Zjn S)) (h1:Gone true l p s day (Zkg S)):RI l p s day S S false 0 :=
 ⟨h0,h1,Nat.le_refl _,λh=>(by cases h),λ_=>⟨rfl,λc' x h=>absurd h (Nat.not_lt_zero _)⟩⟩
theorem RI.len {l:Land} {p:Span} {s day:Int} {S0 S:List Span} {ch:Bool} {c:Nat} (h:RI l p s day S0 S ch c):S.length=l.wells.length:=by have:=h.g0.len;simpa [Zjn] using this
theorem Zuz {S:List Span} {i:Nat} (h:i < S.length):dv (Zjn S) i=S[i].lo/\dv (Zkg S) i=S[i].hi:=by
 constructor
 . rw [WZ (by simpa [Zjn] using h)];simp [Zjn]
 . rw [WZ (by simpa [Zkg] using h)];simp [Zkg]
theorem RI.in {l:Land} {p:Span} {s day:Int} {S0 S:List Span} {ch:Bool} {c:Nat} (h:RI l p s day S0 S ch c) (hg:OkLP l p) (hd:0<=day) (hd':day<=100000) (h0:0<=s) (h1:s < l.wells.length) {i:Nat} (hi:i < S.length) :
 (0<=S[i].lo/\S[i].lo<=100001)/\0<=S[i].hi/\S[i].hi<=100001:=by
 have q:=Zuz hi;have a1:=h.g0.lb hg hd hd' h0 h1 i;have a2:=h.g0.ub i;have b1:=h.g1.lb hg hd hd' h0 h1 i;have b2:=h.g1.ub i;omega
theorem RI.done {l:Land} {p:Span} {s day:Int} {S0 S:List Span} {c:Nat} (h:RI l p s day S0 S false c) (hc:2 * l.legs.length<=c) (hg:OkLP l p) (hd:0<=day) (hd':day<=100000) (h0:0<=s) (h1:s < l.wells.length):S=WT l p s day:=by
 obtain ⟨q1,q2⟩:=h.same rfl;subst q1;have hcl:∀ x ∈ l.legs,(dv (Zjn S) x.b<=Z6 false x p (dv (Zjn S) x.a)/\dv (Zjn S) x.a<=Z6 false x p (dv (Zjn S) x.b))/\(dv (Zkg S) x.b<=Z6 true x p (dv (Zkg S) x.a)/\dv (Zkg S) x.a<=Z6 true x p (dv (Zkg S) x.b)):=λx hx=>by
  obtain ⟨i,hi⟩:=List.mem_iff_getElem?.1 hx;have hil:i < l.legs.length:=(List.getElem?_eq_some_iff.1 hi).1;have hen:=hg.ends hx;have k1:=q2 (2 * i) x (by omega) (by rw [show 2 * i / 2=i by omega];exact hi);have k2:=q2 (2 * i+1) x (by omega) (by rw [show (2 * i+1) / 2=i by omega];exact hi);simp only [ZBI,ZDe,show 2 * i % 2=0 by omega,show ¬ (2 * i+1) % 2=0 by omega,if_true,if_false,Zm,if_neg hen.2.2] at k1 k2
  have m1:=k1 hen.2.1.1;have m2:=k2 hen.1.1;exact ⟨⟨m1.1,m2.1⟩,⟨m1.2,m2.2⟩⟩
 have e0:=Zdz (k:=false) hg hd hd' h0 h1 h.g0.st (λx hx=>(hcl x hx).1) h.g0.ub h.g0.real;have e1:=Zdz (k:=true) hg hd hd' h0 h1 h.g1.st (λx hx=>(hcl x hx).2) h.g1.ub h.g1.real;have hl:=h.len;refine List.ext_getElem (by rw [hl,VY]) λi hi hi'=>?_;have d:=Zuz hi;simp only [WT,List.getElem_zipWith,WA,List.getElem_map,List.getElem_range];rw [<- e0,<- e1,d.1,d.2]
theorem RI.again {l:Land} {p:Span} {s day:Int} {S0 S:List Span} {ch:Bool} {c:Nat} (h:RI l p s day S0 S ch c):RI l p s day S S false 0:=.start h.g0 h.g1
open Go.Sx
def Vm:List Nat->List Nat->Bool
 | [],[]=>false
 | [],_ :: _=>true
 | _ :: _,[]=>false
 | x :: a,y :: b=>decide (x < y) || (x == y && Vm a b)
theorem Vh:∀ a:List Nat,Vm a a=false
 | []=>rfl
 | x :: a=>by simp [Vm,Vh a]
theorem Zgo:∀ {a b:List Nat},Vm a b=false->Vm b a=false->a=b
 | [],[],_,_=>rfl
 | [],_ :: _,h,_=>by simp [Vm] at h
 | _ :: _,[],_,h=>by simp [Vm] at h
 | x :: a,y :: b,h,h'=>by
  simp only [Vm,Bool.or_eq_false_iff,decide_eq_false_iff_not,Bool.and_eq_false_iff,beq_eq_false_iff_ne] at h h';have hxy:x=y:=by omega
  subst hxy;rw [Zgo (a:=a) (b:=b) (by simpa using h.2) (by simpa using h'.2)]
theorem WW:∀ {a b c:List Nat},Vm a b=true->Vm b c=true->Vm a c=true
 | [],[],_,h,_=>by simp [Vm] at h
 | [],_ :: _,[],_,h=>by simp [Vm] at h
 | [],_ :: _,_ :: _,_,_=>rfl
 | _ :: _,[],_,h,_=>by simp [Vm] at h
 | _ :: _,_ :: _,[],_,h=>by simp [Vm] at h
 | x :: a,y :: b,z :: c,h,h'=>by
  simp only [Vm,Bool.or_eq_true,decide_eq_true_eq,Bool.and_eq_true,beq_iff_eq] at h h' ⊢;rcases h with h | ⟨rfl,h⟩
  . rcases h' with h' | ⟨rfl,h'⟩
    . exact .inl (by omega)
    . exact .inl h
  . rcases h' with h' | ⟨rfl,h'⟩
    . exact .inl h'
    . exact .inr ⟨rfl,WW h h'⟩
theorem Zbi:∀ {a b c d:List Nat},a.length=b.length->Vm (a ++ c) (b ++ d)=(Vm a b || (decide (a=b) && Vm c d))
 | [],[],c,d,_=>by simp [Vm]
 | x :: a,y :: b,c,d,h=>by
  rw [List.cons_append,List.cons_append,Vm,Vm,Zbi (a:=a) (b:=b) (c:=c) (d:=d) (by simpa using h)];by_cases hxy:x=y
  . subst hxy;simp
  . have hb:(x == y)=false:=beq_eq_false_iff_ne.2 hxy;have hc:decide (x :: a=y :: b)=false:=by simp [hxy]
    rw [hb,hc];simp
 | [],_ :: _,_,_,h=>by simp at h
 | _ :: _,[],_,_,h=>by simp at h
def ZBD (W:List Nat->Prop) (a:List Nat):Prop:=W a/\∀ b,W b->Vm b a=false
theorem ZBD.congr {W W':List Nat->Prop} {a:List Nat} (h:ZBD W a) (hw:∀ b,W' b↔W b):ZBD W' a:=⟨(hw a).2 h.1,λb hb=>h.2 b ((hw b).1 hb)⟩
def ZmW (l:Land) (p:Span) (s day:Int) (n:Nat) (q:Int × Int) (a:List Nat):Prop:=a.length=n/\goW true l p s day a=some q
theorem Zhw {l:Land} {p:Span} {s day:Int} {a:List Nat} {i:Nat} {q:Int × Int} (h:goW true l p s day (a ++ [i])=some q) :
 ∃ u x,goW true l p s day a=some u/\l.legs[i]? = some x/\0<=Zm x u.1/\Z6 true x p u.2<=100000/\q=(Zm x u.1,Z6 true x p u.2):=by
 rw [ZbW] at h;cases hu:goW true l p s day a with
 | none=>rw [hu] at h;simp at h
 | some u =>
  rw [hu] at h;simp only [Option.bind_some,goW] at h;cases hx:l.legs[i]? with
  | none=>rw [hx] at h;cases h
  | some x =>
   rw [hx] at h;simp only at h;split at h
   . cases h
   . split at h
     . cases h
     . exact ⟨u,x,rfl,rfl,by omega,by omega,by injection h with h;exact h.symm⟩
def Cand (l:Land) (p:Span) (G:Int) (L:Int × Int->Option (List Nat)) (done:Int × Int->Nat->Prop) (q:Int × Int) (a:List Nat):Prop :=
 ∃ u w i x,L u=some w/\done u i/\l.legs[i]? = some x/\0<=Zm x u.1/\Z6 true x p u.2<=G/\q=(Zm x u.1,Z6 true x p u.2)/\a=w ++ [i]
def ZdT (W:List Nat->Prop):Option (List Nat)->Prop
 | none=>∀ a,¬ W a
 | some a=>ZBD W a
theorem ZdT.congr {W W':List Nat->Prop} {o:Option (List Nat)} (h:ZdT W o) (hw:∀ b,W' b↔W b):ZdT W' o:=by
 cases o with
 | none=>exact λa ha=>h a ((hw a).1 ha)
 | some a=>exact ZBD.congr h hw
def Zwq (c:List Nat):Option (List Nat)->Option (List Nat)
 | none=>some c
 | some d=>if Vm c d=true then some c else some d
theorem ZdT.more {W W':List Nat->Prop} {o:Option (List Nat)} {c:List Nat} (h:ZdT W o) (hw:∀ b,W' b↔W b\/b=c) :
 ZdT W' (Zwq c o):=by
 cases o with
 | none=>exact ⟨(hw c).2 (.inr rfl),λb hb=>by
  rcases (hw b).1 hb with hb | rfl
  . exact absurd hb (h b)
  . exact Vh _⟩
 | some d =>
  simp only [Zwq];split
  . rename_i hcd;refine ⟨(hw c).2 (.inr rfl),λb hb=>?_⟩;rcases (hw b).1 hb with hb | rfl
    . cases hq:Vm b c with
      | false=>rfl
      | true=>have:=WW hq hcd;rw [h.2 b hb] at this;cases this
    . exact Vh _
  . rename_i hcd;refine ⟨(hw d).2 (.inl h.1),λb hb=>?_⟩;rcases (hw b).1 hb with hb | rfl
    . exact h.2 b hb
    . simpa using hcd
def Nxt (l:Land) (p:Span) (G:Int) (L N:Int × Int->Option (List Nat)) (done:Int × Int->Nat->Prop):Prop:=∀ q,ZdT (Cand l p G L done q) (N q)
theorem Nxt.congr {l:Land} {p:Span} {G:Int} {L N N':Int × Int->Option (List Nat)} {done done':Int × Int->Nat->Prop} (h:Nxt l p G L N done) (hN:∀ q,N' q=N q) (hd:∀ u w i,L u=some w->i < l.legs.length->(done' u i↔done u i)):Nxt l p G L N' done':=λq=>by
 rw [hN];refine (h q).congr λb=>⟨?_,?_⟩
 . rintro ⟨u,w,i,x,h1,h2,h3⟩;exact ⟨u,w,i,x,h1,(hd u w i h1 (List.getElem?_eq_some_iff.1 h3.1).1).1 h2,h3⟩
 . rintro ⟨u,w,i,x,h1,h2,h3⟩;exact ⟨u,w,i,x,h1,(hd u w i h1 (List.getElem?_eq_some_iff.1 h3.1).1).2 h2,h3⟩
theorem Nxt.start {l:Land} {p:Span} {G:Int} {L N:Int × Int->Option (List Nat)} (hN:∀ q,N q=none):Nxt l p G L N (λ_ _=>False):=λq=>by
 rw [hN];rintro a ⟨_,_,_,_,_,h,_⟩;exact h
theorem Nxt.skip {l:Land} {p:Span} {G:Int} {L N:Int × Int->Option (List Nat)} {done:Int × Int->Nat->Prop} (h:Nxt l p G L N done) {u:Int × Int} {i:Nat} {x:Leg} (hx:l.legs[i]? = some x) (hn:¬ (0<=Zm x u.1/\Z6 true x p u.2<=G)) :
 Nxt l p G L N (λu' i'=>done u' i'\/u'=u/\i'=i):=λq=>(h q).congr λb=>⟨by
  rintro ⟨u',w,i',x',h1,h2,h3,h4,h5,h6⟩;rcases h2 with h2 | ⟨rfl,rfl⟩
  . exact ⟨u',w,i',x',h1,h2,h3,h4,h5,h6⟩
  . rw [hx] at h3;cases h3;exact absurd ⟨h4,h5⟩ hn,by
  rintro ⟨u',w,i',x',h1,h2,h3⟩;exact ⟨u',w,i',x',h1,.inl h2,h3⟩⟩
theorem Nxt.step {l:Land} {p:Span} {G:Int} {L N N':Int × Int->Option (List Nat)} {done:Int × Int->Nat->Prop} (h:Nxt l p G L N done) {u:Int × Int} {w:List Nat} {i:Nat} {x:Leg} (hL:L u=some w) (hx:l.legs[i]? = some x) (h0:0<=Zm x u.1) (h1:Z6 true x p u.2<=G)
 (hN:∀ q,N' q=if q=(Zm x u.1,Z6 true x p u.2) then Zwq (w ++ [i]) (N q) else N q) :
 Nxt l p G L N' (λu' i'=>done u' i'\/u'=u/\i'=i):=λq=>by
 rw [hN];by_cases hq:q=(Zm x u.1,Z6 true x p u.2)
 . rw [if_pos hq];refine ZdT.more (h q) λb=>⟨?_,?_⟩
   . rintro ⟨u',w',i',x',k1,k2,k3,k4,k5,k6,k7⟩;rcases k2 with k2 | ⟨rfl,rfl⟩
     . exact .inl ⟨u',w',i',x',k1,k2,k3,k4,k5,k6,k7⟩
     . rw [hL] at k1;cases k1;exact .inr k7
   . rintro (⟨u',w',i',x',k1,k2,k3⟩ | rfl)
     . exact ⟨u',w',i',x',k1,.inl k2,k3⟩
     . exact ⟨u,w,i,x,hL,.inr ⟨rfl,rfl⟩,hx,h0,h1,hq,rfl⟩
 . rw [if_neg hq];refine (h q).congr λb=>⟨?_,?_⟩
   . rintro ⟨u',w',i',x',k1,k2,k3,k4,k5,k6,k7⟩;rcases k2 with k2 | ⟨rfl,rfl⟩
     . exact ⟨u',w',i',x',k1,k2,k3,k4,k5,k6,k7⟩
     . rw [hx] at k3;cases k3;exact absurd k6 hq
   . rintro ⟨u',w',i',x',k1,k2,k3⟩;exact ⟨u',w',i',x',k1,.inl k2,k3⟩
def Rd (l:Land) (p:Span) (s day G:Int) (n:Nat) (L:Int × Int->Option (List Nat)):Prop:=∀ q,ZdT (λa=>q.2<=G/\ZmW l p s day n q a) (L q)
theorem Rd.start {l:Land} {p:Span} {s day G:Int} {L:Int × Int->Option (List Nat)} (hG:day<=G) (hL:∀ q,L q=if q=(s,day) then some [] else none):Rd l p s day G 0 L:=λq=>by
 rw [hL];split
 . rename_i hq;subst hq;exact ⟨⟨hG,rfl,rfl⟩,λb hb=>by rw [List.eq_nil_of_length_eq_zero hb.2.1];rfl⟩
 . rename_i hq;rintro a ⟨_,h1,h2⟩;rw [List.eq_nil_of_length_eq_zero h1] at h2;simp only [goW,Option.some.injEq] at h2;exact hq h2.symm
theorem Rd.next {l:Land} {p:Span} {s day G:Int} {n:Nat} {L N:Int × Int->Option (List Nat)} {done:Int × Int->Nat->Prop} (hg:OkLP l p) (h:Rd l p s day G n L) (hN:Nxt l p G L N done) (hd:∀ u w i,L u=some w->i < l.legs.length->done u i) (hG:G<=100000)
 (hd':day<=100000) (h0:0<=s) (h1:s < l.wells.length):Rd l p s day G (n+1) N:=λq=>by
 have hq:=hN q;have one:∀ a,Cand l p G L done q a->q.2<=G/\ZmW l p s day (n+1) q a:=by
  rintro a ⟨u,w,i,x,k1,_,k3,k4,k5,rfl,rfl⟩;have:=h u;rw [k1] at this;obtain ⟨⟨g1,g2,g3⟩,_⟩:=this;exact ⟨k5,by simp [g2],Zbh (v:=u.1) (u:=u.2) g3 k3 (by omega) (by omega)⟩
 have two:∀ b,(q.2<=G/\ZmW l p s day (n+1) q b)->∃ a,Cand l p G L done q a/\Vm b a=false:=by
  rintro b ⟨k1,k2,k3⟩;obtain ⟨c,i,rfl⟩:∃ c i,b=c ++ [i]:=by
   rcases List.eq_nil_or_concat b with rfl | ⟨c,i,rfl⟩
   . simp at k2
   . exact ⟨c,i,by simp⟩
  obtain ⟨u,x,g1,g2,g3,g4,g5⟩:=Zhw k3;have hub:=Ud hg (v':=u.1) (t':=u.2) g1 hd' h0 h1;have hge:=Zaf (k:=true) (t:=u.2) (hg.leg g2) hg.pace (by omega);have hq2:q.2=Z6 true x p u.2:=by rw [g5]
  have hu:=h u;cases hLu:L u with
  | none=>rw [hLu] at hu;exact absurd ⟨by omega,by simpa using k2,g1⟩ (hu c)
  | some w =>
   rw [hLu] at hu;have hlen:c.length=w.length:=by rw [hu.1.2.1];simpa using k2
   refine ⟨w ++ [i],⟨u,w,i,x,hLu,hd u w i hLu (List.getElem?_eq_some_iff.1 g2).1,g2,g3,by omega,g5,rfl⟩,?_⟩;rw [Zbi hlen,hu.2 c ⟨by omega,by simpa using k2,g1⟩];simp [Vm]
 cases hNq:N q with
 | none =>
  rw [hNq] at hq;intro b hb;obtain ⟨a,ha,_⟩:=two b hb;exact hq a ha
 | some a =>
  rw [hNq] at hq;refine ⟨one a hq.1,λb hb=>?_⟩;obtain ⟨c,hc,hbc⟩:=two b hb;cases hba:Vm b a with
  | false=>rfl
  | true =>
   have hca:=hq.2 c hc;cases hcb:Vm c b with
   | true=>have:=WW hcb hba;rw [hca] at this;cases this
   | false=>rw [Zgo hbc hcb,hca] at hba;cases hba
def ZuQ (l:Land) (p:Span) (s to day:Int) (a:List Nat):Prop :=
 goW true l p s day a=some (to,Xf true l p s day to)/\∀ b,goW true l p s day b=some (to,Xf true l p s day to)->a.length < b.length\/(a.length=b.length/\Vm b a=false)
theorem Rd.sure {l:Land} {p:Span} {s to day G:Int} {n:Nat} {L:Int × Int->Option (List Nat)} {a:List Nat} (h:Rd l p s day G n L) (hG:G=Xf true l p s day to) (hL:L (to,G)=some a) (hm:∀ m,m < n->∀ b,¬ ZmW l p s day m (to,G) b):ZuQ l p s to day a:=by
 subst hG;have hq:=h (to,Xf true l p s day to);rw [hL] at hq;refine ⟨hq.1.2.2,λb hb=>?_⟩;by_cases hlt:b.length < n
 . exact absurd ⟨rfl,hb⟩ (hm b.length hlt b)
 . have hn:=hq.1.2.1;by_cases he:b.length=n
   . exact .inr ⟨by omega,hq.2 b ⟨Int.le_refl _,he,hb⟩⟩
   . exact .inl (by omega)
theorem Rd.not {l:Land} {p:Span} {s to day G:Int} {n:Nat} {L:Int × Int->Option (List Nat)} (h:Rd l p s day G n L) (hL:L (to,G)=none) (hm:∀ m,m < n->∀ b,¬ ZmW l p s day m (to,G) b):∀ m,m < n+1->∀ b,¬ ZmW l p s day m (to,G) b:=λm hmn b hb=>by
 by_cases he:m=n
 . subst he;have:=h (to,G);rw [hL] at this;exact this b ⟨Int.le_refl _,hb⟩
 . exact hm m (by omega) b hb
open Classical in
noncomputable def Xc (l:Land) (p:Span) (v t:Int) (n:Nat) (w:Int):Int :=
 if h:∃ m:Nat,∃ a,ZmW l p v t n (w,(m:Int)) a then ((Go.Sx.least_ex _ h).choose:Int) else 100001
theorem Vs {l:Land} {p:Span} (h:OkLP l p) {v t w u:Int} {n:Nat} {a:List Nat} (e:ZmW l p v t n (w,u) a) (ht:0<=t) (ht':t<=100000) (h0:0<=v) (h1:v < l.wells.length):Xc l p v t n w<=u:=by
 have hb:=Ud h e.2 ht' h0 h1;have eu:((u.toNat:Nat):Int)=u:=by omega
 have hex:∃ m:Nat,∃ a,ZmW l p v t n (w,(m:Int)) a:=⟨u.toNat,a,by rw [eu];exact e⟩
 unfold Xc;rw [dif_pos hex];have:=(Go.Sx.least_ex _ hex).choose_spec.2 u.toNat ⟨a,by rw [eu];exact e⟩;omega
theorem Xa {l:Land} {p:Span} {v t w:Int} {n:Nat}:Xc l p v t n w=100001\/∃ a,ZmW l p v t n (w,Xc l p v t n w) a:=by
 unfold Xc;by_cases hex:∃ m:Nat,∃ a,ZmW l p v t n (w,(m:Int)) a
 . rw [dif_pos hex];exact .inr (Go.Sx.least_ex _ hex).choose_spec.1
 . rw [dif_neg hex];exact .inl rfl
theorem ZbQ {l:Land} {p:Span} (h:OkLP l p) {v t w:Int} {n:Nat} (ht:0<=t) (ht':t<=100000) (h0:0<=v) (h1:v < l.wells.length):t<=Xc l p v t n w/\Xc l p v t n w<=100001:=by
 rcases Xa (l:=l) (p:=p) (v:=v) (t:=t) (n:=n) (w:=w) with e | ⟨a,e⟩
 . omega
 . have:=Ud h e.2 ht' h0 h1;omega
theorem ZsI {l:Land} {p:Span} (h:OkLP l p) {v t w:Int} (ht:0<=t) (ht':t<=100000) (h0:0<=v) (h1:v < l.wells.length):Xc l p v t 0 w=if w=v then t else 100001:=by
 rcases Xa (l:=l) (p:=p) (v:=v) (t:=t) (n:=0) (w:=w) with e | ⟨a,e1,e2⟩
 . split
   . rename_i hw;subst hw;have:=Vs (u:=t) (a:=[]) (n:=0) (w:=w) h ⟨rfl,rfl⟩ ht ht' h0 h1;omega
   . exact e
 . rw [List.eq_nil_of_length_eq_zero e1] at e2;simp only [goW,Option.some.injEq,Prod.mk.injEq] at e2;rw [if_pos e2.1.symm];exact e2.2.symm
noncomputable def ZaL (l:Land) (p:Span) (v t:Int) (n:Nat):List Int:=(List.range l.wells.length).map λw:Nat=>Xc l p v t n (w:Int)
theorem Zc0 {l:Land} {p:Span} {v t:Int} {n:Nat}:(ZaL l p v t n).length=l.wells.length:=by simp [ZaL]
theorem ZgF {l:Land} {p:Span} {v t w:Int} {n:Nat} (h0:0<=w) (h1:w < l.wells.length):dv (ZaL l p v t n) w=Xc l p v t n w:=by
 obtain ⟨i,rfl⟩:∃ i:Nat,w=(i:Int):=⟨w.toNat,by omega⟩
 rw [WZ (by rw [Zc0];omega)];simp [ZaL]
structure Lst (l:Land) (p:Span) (c d:List Int) (j:Nat):Prop where
 len:d.length=l.wells.length
 ub:∀ w,dv d w<=100001
 le:∀ (i:Nat) (x:Leg) (v:Int),i < j->l.legs[i]? = some x->0<=Zm x v->dv d (Zm x v)<=Z6 true x p (dv c v)
 real:∀ w,dv d w=100001\/∃ (i:Nat) (x:Leg) (v:Int),l.legs[i]? = some x/\0<=Zm x v/\Zm x v=w/\dv d w=Z6 true x p (dv c v)
theorem Lst.start {l:Land} {p:Span} {c:List Int}:Lst l p c (List.replicate l.wells.length 100001) 0:=by
 have e:∀ w,dv (List.replicate l.wells.length 100001) w=100001:=λw=>by
  by_cases hw:0<=w/\w < (List.replicate l.wells.length (100001:Int)).length
  . obtain ⟨i,rfl⟩:∃ i:Nat,w=(i:Int):=⟨w.toNat,by omega⟩
    rw [WZ (by omega)];simp
  . exact ZDA hw
 exact ⟨by simp,λw=>by rw [e];exact Int.le_refl _,λi x v h=>by omega,λw=>.inl (e w)⟩
theorem Ze2 {l:Land} {p:Span} {c d:List Int} {x:Leg} {v:Int} {w:Nat} (hlen:d.length=l.wells.length) (hw:w < d.length) {i:Nat} (hx:l.legs[i]? = some x) (ho:Zm x v=w) (hub:∀ w,dv d w<=100001) (hr:∀ w,dv d w=100001\/∃ (i:Nat) (x:Leg) (v:Int),l.legs[i]? = some x/\0<=Zm x v/\Zm x v=w/\dv d w=Z6 true x p (dv c v)) :
 (∀ u,dv (d.set w (min (dv d w) (Z6 true x p (dv c v)))) u<=dv d u)/\(dv (d.set w (min (dv d w) (Z6 true x p (dv c v)))) w<=Z6 true x p (dv c v)) /\
 ∀ u,dv (d.set w (min (dv d w) (Z6 true x p (dv c v)))) u=100001\/∃ (i:Nat) (y:Leg) (v':Int),l.legs[i]? = some y/\0<=Zm y v'/\Zm y v'=u/\dv (d.set w (min (dv d w) (Z6 true x p (dv c v)))) u=Z6 true y p (dv c v'):=by
 refine ⟨λu=>?_,?_,λu=>?_⟩
 . rw [Wy hw];split
   . rename_i hu;rw [hu];omega
   . exact Int.le_refl _
 . rw [Wy hw,if_pos rfl];omega
 . rw [Wy hw];split
   . rename_i hu;by_cases hm:dv d w<=Z6 true x p (dv c v)
     . rw [Int.min_eq_left hm,hu];exact hr w
     . rw [Int.min_eq_right (by omega)];exact .inr ⟨i,x,v,hx,by omega,by omega,rfl⟩
   . exact hr u
theorem Lst.step {l:Land} {p:Span} {c d:List Int} {j:Nat} (h:Lst l p c d j) (hg:OkLP l p) {x:Leg} (hx:l.legs[j]? = some x) {a b:Nat} (ha:x.a=a) (hb:x.b=b) :
 Lst l p c ((d.set b (min (dv d b) (Z6 true x p (dv c a)))).set a (min (dv (d.set b (min (dv d b) (Z6 true x p (dv c a)))) a) (Z6 true x p (dv c b)))) (j+1):=by
 have hen:=hg.ends (List.mem_of_getElem? hx);have hbl:b < d.length:=by rw [h.len];omega
 have hal:a < d.length:=by rw [h.len];omega
 have o1:Zm x (a:Int)=(b:Int):=by rw [Zm,if_pos ha,hb]
 have o2:Zm x (b:Int)=(a:Int):=by rw [Zm,if_neg (by omega),if_pos hb,ha]
 obtain ⟨q1,q2,q3⟩:=Ze2 (v:=(a:Int)) h.len hbl hx o1 h.ub h.real;have hl1:(d.set b (min (dv d b) (Z6 true x p (dv c a)))).length=d.length:=List.length_set;generalize d.set b (min (dv d b) (Z6 true x p (dv c a)))=d1 at q1 q2 q3 hl1;obtain ⟨r1,r2,r3⟩:=Ze2 (v:=(b:Int)) (hl1.trans h.len) (by omega:a < d1.length) hx o2 (λw=>Int.le_trans (q1 w) (h.ub w)) q3;have hl2:(d1.set a (min (dv d1 a) (Z6 true x p (dv c b)))).length=d1.length:=List.length_set
 generalize d1.set a (min (dv d1 a) (Z6 true x p (dv c b)))=d2 at r1 r2 r3 hl2;refine ⟨by rw [hl2,hl1,h.len],λw=>Int.le_trans (r1 w) (Int.le_trans (q1 w) (h.ub w)),λi y v hi hy ho=>?_,r3⟩;by_cases he:i=j
 . subst he;rw [hx] at hy;cases hy;rcases (Yk hg hx (v:=v) (by omega)).2.1 with ⟨e1,e2⟩ | ⟨e1,e2⟩
   . have ev:v=(a:Int):=by omega
     subst ev;rw [o1];exact Int.le_trans (r1 _) q2
   . have ev:v=(b:Int):=by omega
     subst ev;rw [o2];exact r2
 . exact Int.le_trans (r1 _) (Int.le_trans (q1 _) (h.le i y v (by omega) hy ho))
theorem Lst.done {l:Land} {p:Span} {v t:Int} {n:Nat} {d:List Int} (h:Lst l p (ZaL l p v t n) d l.legs.length) (hg:OkLP l p) (ht:0<=t) (ht':t<=100000) (h0:0<=v) (h1:v < l.wells.length):d=ZaL l p v t (n+1):=by
 refine List.ext_getElem (by rw [h.len,Zc0]) λi hi hi'=>?_;have hil:i < l.wells.length:=by rw [h.len] at hi;exact hi
 rw [show (ZaL l p v t (n+1))[i]=Xc l p v t (n+1) i by simp [ZaL],<- WZ hi];have hlow:Xc l p v t (n+1) i<=dv d i:=by
  rcases h.real i with e | ⟨k,x,u,hx,ho,hou,e⟩
  . rw [e];exact (ZbQ hg ht ht' h0 h1).2
  . have hin:=Yk hg hx (v:=u) (by omega);rw [ZgF hin.2.2.1 hin.2.2.2] at e;by_cases hr:dv d i=100001
    . rw [hr];exact (ZbQ hg ht ht' h0 h1).2
    . have hub:=h.ub i;have hb:=XO (k:=true) (t:=Xc l p v t n u) (hg.leg hx) hg.pace (ZbQ hg ht ht' h0 h1).2;rcases Xa (l:=l) (p:=p) (v:=v) (t:=t) (n:=n) (w:=u) with e' | ⟨a,e1,e2⟩
      . omega
      . rw [e,<- hou];exact Vs hg ⟨by simp [e1],Zbh e2 hx (by omega) (by omega)⟩ ht ht' h0 h1
 have hup:dv d i<=Xc l p v t (n+1) i:=by
  rcases Xa (l:=l) (p:=p) (v:=v) (t:=t) (n:=n+1) (w:=i) with e' | ⟨b,e1,e2⟩
  . rw [e'];exact h.ub i
  . obtain ⟨c,k,rfl⟩:∃ c k,b=c ++ [k]:=by
     rcases List.eq_nil_or_concat b with rfl | ⟨c,k,rfl⟩
     . simp at e1
     . exact ⟨c,k,by simp⟩
    obtain ⟨u,x,g1,g2,g3,g4,g5⟩:=Zhw e2;have hin:=Yk hg g2 (v:=u.1) (by omega);have:=h.le k x u.1 (List.getElem?_eq_some_iff.1 g2).1 g2 g3;rw [ZgF hin.2.2.1 hin.2.2.2] at this;have hl:=Vs (n:=n) (w:=u.1) (u:=u.2) hg ⟨by simpa using e1,g1⟩ ht ht' h0 h1;have hm:=Zbr (k:=true) (hg.leg g2) hg.pace hl;simp only [Prod.mk.injEq] at g5;rw [<- g5.1] at this;omega
 omega
structure Gr (l:Land) (p:Span) (s day to best:Int) (n0 n:Nat) (v t:Int) (out:List Nat):Prop where
 go:goW true l p s day out=some (v,t)
 len:out.length+n=n0
 least:Xc l p v t n to=best
 pre:∀ b,b.length=n0->goW true l p s day b=some (to,best)->b.take out.length=out\/Vm out (b.take out.length)=true
def Fit (l:Land) (p:Span) (to best:Int) (n:Nat) (v t:Int) (i:Nat):Prop:=∃ x,l.legs[i]? = some x/\0<=Zm x v/\Z6 true x p t < 100001/\Xc l p (Zm x v) (Z6 true x p t) n to=best
theorem Gr.start {l:Land} {p:Span} {s day to best:Int} {n:Nat} (h:Xc l p s day n to=best):Gr l p s day to best n n s day []:=⟨rfl,by simp,h,λ_ _ _=>.inl (by simp)⟩
theorem Zsl {l:Land} {p:Span} {v t:Int} {i:Nat} {c:List Nat} {q:Int × Int} (h:goW true l p v t (i :: c)=some q):∃ x,l.legs[i]? = some x/\0<=Zm x v/\Z6 true x p t<=100000/\goW true l p (Zm x v) (Z6 true x p t) c=some q:=by
 simp only [goW] at h;cases hx:l.legs[i]? with
 | none=>rw [hx] at h;cases h
 | some x =>
  rw [hx] at h;simp only at h;split at h
  . cases h
  . split at h
    . cases h
    . exact ⟨x,rfl,by omega,by omega,h⟩
theorem Gr.fit {l:Land} {p:Span} {s day to best:Int} {n0 n:Nat} {v t:Int} {out:List Nat} (h:Gr l p s day to best n0 (n+1) v t out) (hg:OkLP l p) (hd:0<=day) (hd':day<=100000) (h0:0<=s) (h1:s < l.wells.length) (hb:best=Xf true l p s day to) {i:Nat} {c:List Nat} (hc:c.length=n)
 (hw:goW true l p v t (i :: c)=some (to,best)):Fit l p to best n v t i:=by
 obtain ⟨x,g1,g2,g3,g4⟩:=Zsl hw;have hbd:=Ud hg h.go hd' h0 h1;have hin:=Yk hg g1 (v:=v) (by omega);have ha:=XO (k:=true) (t:=t) (hg.leg g1) hg.pace (by omega);have hle:=Vs (n:=n) (w:=to) (u:=best) hg ⟨hc,g4⟩ (by omega) g3 hin.1.1 hin.1.2;refine ⟨x,g1,g2,by omega,?_⟩;rcases Xa (l:=l) (p:=p) (v:=Zm x v) (t:=Z6 true x p t) (n:=n) (w:=to) with e | ⟨a,e1,e2⟩
 . have:=Ud hg g4 g3 hin.1.1 hin.1.2;omega
 . have hgo:goW true l p s day (out ++ (i :: a))=some (to,Xc l p (Zm x v) (Z6 true x p t) n to):=by
    rw [ZbW,h.go];simp only [Option.bind_some,goW,g1];rw [if_neg (by omega),if_neg (by omega)];exact e2
   have:=ZbC hg hgo hd hd' h0 h1;omega
theorem Gr.ex {l:Land} {p:Span} {s day to best:Int} {n0 n:Nat} {v t:Int} {out:List Nat} (h:Gr l p s day to best n0 (n+1) v t out) (hg:OkLP l p) (hd:0<=day) (hd':day<=100000) (h0:0<=s) (h1:s < l.wells.length) (hb:best=Xf true l p s day to) (hb':best<=100000) :
 ∃ i,i < l.legs.length/\Fit l p to best n v t i:=by
 rcases Xa (l:=l) (p:=p) (v:=v) (t:=t) (n:=n+1) (w:=to) with e | ⟨a,e1,e2⟩
 . have:=h.least;omega
 . rw [h.least] at e2;cases a with
   | nil=>simp at e1
   | cons i c =>
    have hf:=h.fit hg hd hd' h0 h1 hb (by simpa using e1) e2;have hf':=hf;obtain ⟨x,hx,_⟩:=hf';exact ⟨i,(List.getElem?_eq_some_iff.1 hx).1,hf⟩
theorem Gr.step {l:Land} {p:Span} {s day to best:Int} {n0 n:Nat} {v t:Int} {out:List Nat} (h:Gr l p s day to best n0 (n+1) v t out) (hg:OkLP l p) (hd:0<=day) (hd':day<=100000) (h0:0<=s) (h1:s < l.wells.length) (hb:best=Xf true l p s day to) {i:Nat} {x:Leg} (hx:l.legs[i]? = some x) (ho:0<=Zm x v) (ha:Z6 true x p t < 100001)
 (hf:Xc l p (Zm x v) (Z6 true x p t) n to=best) (hm:∀ j,j < i->¬ Fit l p to best n v t j):Gr l p s day to best n0 n (Zm x v) (Z6 true x p t) (out ++ [i]):=by
 refine ⟨Zbh h.go hx (by omega) (by omega),by have:=h.len;simp;omega,hf,λb hbl hbw=>?_⟩;have hlen:=h.len;have hsplit:b.take (out ++ [i]).length=b.take out.length ++ (b[out.length]?).toList:=by
  rw [List.length_append,List.length_singleton];exact List.take_add_one
 have hlt:out.length < b.length:=by omega
 rw [hsplit,List.getElem?_eq_getElem hlt,Option.toList_some];have hl:out.length=(b.take out.length).length:=by rw [List.length_take];omega
 rcases h.pre b hbl hbw with e | e
 . rw [e];have hbeq:b=out ++ (b[out.length] :: b.drop (out.length+1)):=by
    conv=>lhs;rw [<- List.take_append_drop out.length b,e,List.drop_eq_getElem_cons hlt]
   have hw2:goW true l p v t (b[out.length] :: b.drop (out.length+1))=some (to,best):=by
    rw [hbeq,ZbW,h.go] at hbw;simpa using hbw
   have hfit:=h.fit hg hd hd' h0 h1 hb (by rw [List.length_drop];omega) hw2;by_cases heq:b[out.length]=i
   . left;rw [heq]
   . right;have:¬ b[out.length] < i:=λhlt'=>hm _ hlt' hfit;rw [Zbi rfl];simp [Vm,Vh];omega
 . right;rw [Zbi hl,e];rfl
theorem Gr.done {l:Land} {p:Span} {s day to best:Int} {n0:Nat} {v t:Int} {out:List Nat} (h:Gr l p s day to best n0 0 v t out) (hg:OkLP l p) (hd:0<=day) (hd':day<=100000) (h0:0<=s) (h1:s < l.wells.length) (hb:best=Xf true l p s day to) (hb':best<=100000)
 (hm:∀ m,m < n0->Xc l p s day m to≠best):ZuQ l p s to day out:=by
 have hbd:=Ud hg h.go hd' h0 h1;have h2:=h.least;rw [ZsI hg (by omega) (by omega) hbd.2.2.1 hbd.2.2.2] at h2;split at h2
 case isFalse=>omega
 rename_i hv;subst hv;subst h2;have hlen:=h.len;refine ⟨by rw [<- hb];exact h.go,λb hbw=>?_⟩;rw [<- hb] at hbw;by_cases hlt:b.length < n0
 . refine absurd ?_ (hm b.length hlt);have q1:=Vs (n:=b.length) hg ⟨rfl,hbw⟩ hd hd' h0 h1;rcases Xa (l:=l) (p:=p) (v:=s) (t:=day) (n:=b.length) (w:=to) with e | ⟨a,e1,e2⟩
   . omega
   . have:=ZbC hg e2 hd hd' h0 h1;omega
 . by_cases he:b.length=n0
   . refine .inr ⟨by omega,?_⟩;have hpre:=h.pre b he hbw;rw [List.take_of_length_le (by omega)] at hpre;rcases hpre with rfl | hpre
     . exact Vh _
     . cases hq:Vm b out with
       | false=>rfl
       | true=>have:=WW hpre hq;rw [Vh] at this;cases this
   . exact .inl (by omega)
structure Stop where
 leg:Int
 well:Int
 leaves:Span
 arrives:Span
deriving DecidableEq
def WL (l:Land):Int->List Int->Nat->Option Nat
 | _,[],_=>none
 | v,i :: r,k=>if Vl l i v < 0 then some k else WL l (Vl l i v) r (k+1)
def Ur (l:Land):Int->List Int->List Int
 | _,[]=>[]
 | v,i :: r=>if Vl l i v < 0 then [] else Vl l i v :: Ur l (Vl l i v) r
def goS (l:Land) (p:Span):Int->Int->Int->List Int->Nat->List Stop->List Stop × Int × Int
 | _,_,_,[],_,acc=>(acc,0,0)
 | v,a,b,i :: r,k,acc=>match l.legs[i.toNat]? with
  | none=>([],0,0)
  | some x=>if Z6 true x p b > 100000 then ([],k,34)
   else goS l p (Zm x v) (Z6 false x p a) (Z6 true x p b) r (k+1) (acc ++ [⟨i,Zm x v,⟨leK false x p a,leK true x p b⟩,⟨Z6 false x p a,Z6 true x p b⟩⟩])
def Xt (l:Land) (p:Span) (s day:Int) (legs:List Int):List Stop × Int × Int :=
 if Za0 l p≠0 then ([],0,Za0 l p)
 else if (inR 0 (l.wells.length - 1) s && inR 0 100000 day)=false then ([],0,2)
 else if legs.length > 24 then ([],0,4)
 else match WL l s legs 0 with
  | some k=>([],k,8)
  | none=>goS l p s day day legs 0 []
theorem Zco {l:Land} {i v:Int} (h:¬ Vl l i v < 0):∃ k:Nat,∃ x,i=(k:Int)/\∃ hk:k < l.legs.length,l.legs[k]? = some x/\l.legs[k]=x/\Vl l i v=Zm x v:=by
 unfold Vl at h ⊢;split at h
 . rename_i hk;refine ⟨i.toNat,l.legs[i.toNat],by omega,hk.2,by simp [hk.2],rfl,?_⟩;rw [dif_pos hk]
 . omega
theorem ZfH {l:Land} {i v:Int}:i < 0\/(l.legs.length:Int)<=i->Vl l i v = -1:=λh=>by
 unfold Vl;rw [dif_neg (by omega)]
theorem Zcm {l:Land} {k:Nat} {v:Int} (hk:k < l.legs.length):Vl l k v=Zm l.legs[k] v:=by
 unfold Vl;rw [dif_pos ⟨by omega,by simpa using hk⟩];simp
theorem X9 {α : Type} {l:List α} {j:Nat} (h:j < l.length):l.drop j=l[j] :: l.drop (j+1):=List.drop_eq_getElem_cons h
theorem Zey {l:Land}:∀ {legs:List Int} {v:Int} {k:Nat},WL l v legs k=none->(Ur l v legs).length=legs.length
 | [],_,_,_=>rfl
 | i :: r,v,k,h=>by
  simp only [WL] at h;simp only [Ur];split at h
  . cases h
  . rename_i hn;rw [if_neg hn,List.length_cons,List.length_cons,Zey h]
structure W1 (l:Land) (s:Int) (legs:List Int) (j:Nat) (v:Int) (ends:List Int):Prop where
 bad:WL l s legs 0=WL l v (legs.drop j) j
 eds:Ur l s legs=ends ++ Ur l v (legs.drop j)
 len:ends.length=j
 inn:0<=v/\v < l.wells.length
theorem W1.start {l:Land} {s:Int} {legs:List Int} (h:0<=s/\s < l.wells.length):W1 l s legs 0 s []:=⟨by simp,by simp,rfl,h⟩
theorem W1.step {l:Land} {p:Span} {s:Int} {legs:List Int} {j:Nat} {v:Int} {ends:List Int} (h:W1 l s legs j v ends) (hg:OkLP l p) (hj:j < legs.length) (he:¬ Vl l legs[j] v < 0):W1 l s legs (j+1) (Vl l legs[j] v) (ends ++ [Vl l legs[j] v]):=by
 obtain ⟨k,x,_,_,hx,_,e⟩:=Zco he;refine ⟨?_,?_,by simp [h.len],by rw [e] at he ⊢;exact (Yk hg hx he).1⟩
 . rw [h.bad,X9 hj];simp only [WL];rw [if_neg he]
 . rw [h.eds,X9 hj];simp only [Ur];rw [if_neg he];simp
theorem W1.stop {l:Land} {s:Int} {legs:List Int} {j:Nat} {v:Int} {ends:List Int} (h:W1 l s legs j v ends) (hj:j < legs.length) (he:Vl l legs[j] v < 0):WL l s legs 0=some j:=by
 rw [h.bad,X9 hj];simp only [WL];rw [if_pos he]
theorem W1.done {l:Land} {s:Int} {legs:List Int} {v:Int} {ends:List Int} (h:W1 l s legs legs.length v ends):WL l s legs 0=none/\ends=Ur l s legs:=by
 have h1:=h.bad;have h2:=h.eds;rw [List.drop_of_length_le (Nat.le_refl _)] at h1 h2;exact ⟨by rw [h1];rfl,by rw [h2];simp [Ur]⟩
structure W2 (l:Land) (p:Span) (s day:Int) (legs:List Int) (j:Nat) (v a b:Int) (acc:List Stop):Prop where
 eq:goS l p s day day legs 0 []=goS l p v a b (legs.drop j) j acc
 bad:WL l v (legs.drop j) j=none
 ends:(Ur l s legs).drop j=Ur l v (legs.drop j)
 inn:0<=v/\v < l.wells.length
 da:0<=a/\a<=100001
 db:0<=b/\b<=100000
 len:acc.length=j
theorem W2.start {l:Land} {p:Span} {s day:Int} {legs:List Int} (h:WL l s legs 0=none) (hs:0<=s/\s < l.wells.length) (hd:0<=day/\day<=100000):W2 l p s day legs 0 s day day []:=⟨by simp,by simpa using h,by simp,hs,⟨hd.1,by omega⟩,hd,rfl⟩
theorem W2.at {l:Land} {p:Span} {s day:Int} {legs:List Int} {j:Nat} {v a b:Int} {acc:List Stop} (h:W2 l p s day legs j v a b acc) (hj:j < legs.length):∃ k:Nat,∃ hk:k < l.legs.length,legs[j]=(k:Int)/\Vl l legs[j] v=Zm l.legs[k] v/\0<=Zm l.legs[k] v/\(Ur l s legs)[j]? = some (Zm l.legs[k] v):=by
 have hb:=h.bad;have he:=h.ends;rw [X9 hj] at hb he;simp only [WL] at hb;simp only [Ur] at he;split at hb
 . cases hb
 . rename_i hn;rw [if_neg hn] at he;obtain ⟨k,x,e1,hk,e2,e3,e4⟩:=Zco hn;subst e3;refine ⟨k,hk,e1,e4,by omega,?_⟩;have:=congrArg (λq=>q[0]?) he;simp only [List.getElem?_drop,Nat.add_zero,List.getElem?_cons_zero] at this;rw [this,e4]
theorem W2.step {l:Land} {p:Span} {s day:Int} {legs:List Int} {j:Nat} {v a b:Int} {acc:List Stop} (h:W2 l p s day legs j v a b acc) (hg:OkLP l p) (hj:j < legs.length) {k:Nat} (hk:k < l.legs.length) (hl:legs[j]=(k:Int)) (hr:¬ Z6 true l.legs[k] p b > 100000) (ho:0<=Zm l.legs[k] v) :
 W2 l p s day legs (j+1) (Zm l.legs[k] v) (Z6 false l.legs[k] p a) (Z6 true l.legs[k] p b) (acc ++ [⟨k,Zm l.legs[k] v,⟨leK false l.legs[k] p a,leK true l.legs[k] p b⟩,⟨Z6 false l.legs[k] p a,Z6 true l.legs[k] p b⟩⟩]):=by
 have hx:l.legs[k]? = some l.legs[k]:=List.getElem?_eq_getElem hk;have hend:Vl l legs[j] v=Zm l.legs[k] v:=by rw [hl];exact Zcm hk
 have hb:=h.bad;have he:=h.ends;rw [X9 hj] at hb he;simp only [WL,hend] at hb;rw [if_neg (by omega)] at hb;simp only [Ur,hend] at he;rw [if_neg (by omega)] at he;have ha:=Zaf (k:=false) (hg.leg hx) hg.pace h.da.2;have ha':=XO (k:=false) (hg.leg hx) hg.pace h.da.2;have hb':=Zaf (k:=true) (t:=b) (hg.leg hx) hg.pace (by have:=h.db;omega);have h1:=h.da;have h2:=h.db;refine ⟨?_,hb,?_,(Yk hg hx (by omega)).1,by omega,by omega,by simp [h.len]⟩
 . rw [h.eq,X9 hj,hl];simp only [goS,Int.toNat_natCast,hx];rw [if_neg hr]
 . have:=congrArg (List.drop 1) he;simpa [List.drop_drop,Nat.add_comm] using this
theorem W2.stop {l:Land} {p:Span} {s day:Int} {legs:List Int} {j:Nat} {v a b:Int} {acc:List Stop} (h:W2 l p s day legs j v a b acc) (hj:j < legs.length) {k:Nat} (hk:k < l.legs.length) (hl:legs[j]=(k:Int)) (hr:Z6 true l.legs[k] p b > 100000):goS l p s day day legs 0 []=([],(j:Int),34):=by
 rw [h.eq,X9 hj,hl];simp only [goS,Int.toNat_natCast,List.getElem?_eq_getElem hk];rw [if_pos hr]
theorem W2.done {l:Land} {p:Span} {s day:Int} {legs:List Int} {v a b:Int} {acc:List Stop} (h:W2 l p s day legs legs.length v a b acc):goS l p s day day legs 0 []=(acc,0,0):=by
 rw [h.eq,List.drop_of_length_le (Nat.le_refl _)];rfl
end Go.Azalai
namespace Go.Proofs.YtongccnhomncnaaGreatDoor
open Go Go.Sx Go.Azalai
def Z3 (s:Stop):Ls:=[I s.leg,I s.well,I s.leaves.lo,I s.leaves.hi,I s.arrives.lo,I s.arrives.hi]
def Zb2 (r:List Stop × Int × Int):SV:=.tup [X3 r.2.2 6 (r.1.map Z3),I r.2.1,I r.2.2]
theorem ZoZ (r:List Stop × Int × Int):KF (Zb2 r):=by
 unfold Zb2 X3;split<;>simp [KFL,KF,Za,Z3]
theorem Zov (l:Land) (hs:Small l) (s day:Int) (p:Span) (legs:List Int) (hl:legs.length<=1000) (c:Bool):Cp 15 [.agg (Yo l),I s,I day,.agg (Ze p),.sl c 1 (legs.map Zk)] (Zb2 (Xt l p s day legs)):=by
 have hw:=hs.1;have hleg:=hs.2.1;refine t15.1 (by simp [Yo,Zg,Zr,Zi,Ze,Zk,Za]) (ZoZ _) ?_;dsimp only [c15,r15,Yo,Ze,go_sem];by_cases ha:Za0 l p=0
 case neg =>
  refine call (Za6 l hs p ha) ?_;dsimp only [go_sem];refine Zs (by simpa using ha) ?_;dsimp only [go_sem];simp [Xt,ha,Zb2,X3]
 have hok:=Zme ha;refine call (Zdq l hs p ha) ?_;dsimp only [Yl,go_sem];refine Zo (by decide) ?_;dsimp only [go_sem];simp only [List.length_map];have h1:=Zai hok.land;rw [Zf (n:=(l.wells.length:Int) - 1) (by omega) (by omega)];refine call (Zas 0 (l.wells.length - 1) s true) ?_;dsimp only [go_sem];repeat (first | (refine gb ?_;dsimp only [go_sem]) | (refine call (Zas 0 100000 day true) ?_;dsimp only [go_sem]))
 by_cases hr:(inR 0 (l.wells.length - 1) s && inR 0 100000 day)=true
 case neg =>
  refine Zs (by simpa [Bool.and_eq_true,<- Bool.not_and] using hr) ?_;dsimp only [go_sem];simp [Xt,ha,Zb2,X3,hr]
 refine Zo (by simpa [<- Bool.not_and] using hr) ?_;dsimp only [go_sem];simp only [List.length_map];by_cases hm:legs.length > 24
 . refine Zs (by simp;omega) ?_;dsimp only [go_sem];simp only [Xt,ha,hr,ne_eq,not_true_eq_false,if_false,Bool.true_eq_false,hm,if_true,Zb2,X3];simp
 refine Zo (by simp;omega) ?_;dsimp only [go_sem];simp only [List.length_map];have hF1:∀ k,WL l s legs 0=some k->Xt l p s day legs=([],(k:Int),8):=λk h=>by
  simp only [Xt,ha,hr,ne_eq,not_true_eq_false,if_false,Bool.true_eq_false,hm,h]
 have hF2:WL l s legs 0=none->Xt l p s day legs=goS l p s day day legs 0 []:=λh=>by
  simp only [Xt,ha,hr,ne_eq,not_true_eq_false,if_false,Bool.true_eq_false,hm,h]
 simp only [Bool.and_eq_true,inR,decide_eq_true_eq] at hr;obtain ⟨hr1,hd⟩:=hr;refine ZdB (Yc 14 1 3 rfl rfl) (λq:Nat × Nat × Int × List Int=>[(54,I q.1),(14,.mr 3 q.2.1),(15,I q.2.2.1)]) (λq=>[(3,.row q.2.1 1 (q.2.2.2.map Zk) 3)])
  (λq=>q.1<=legs.length/\W1 l s legs q.1 q.2.2.1 q.2.2.2) (λq=>legs.length - q.1) (0,0,s,[]) ⟨Nat.zero_le _,W1.start (by omega)⟩ ?_ ?_
 . (refine Zj ?_ ?_ ?_ rfl rfl<;>dsimp only [Ze,Zg,Zr,Zi,Zk,id,go_sem]<;>simp [Ze,Zg,Zr,Zi,Zk,Za])
 rintro ⟨j,v,well,ends⟩ ⟨hj,hI⟩;simp only at hj hI;dsimp only [go_sem];by_cases hlt:j < legs.length
 . refine Zs (by simpa using hlt) ?_;dsimp only [go_sem];refine Zn j hlt rfl ?_;dsimp only [Zk,go_sem];refine call (ZBP l p legs[j] well hleg) ?_;dsimp only [go_sem];by_cases hn:Vl l legs[j] well < 0
   . refine Zs (by simpa using hn) ?_;dsimp only [go_sem];rw [hF1 j (hI.stop hlt hn)];simp [Zb2,X3]
   refine Zo (by simpa using hn) ?_;dsimp only [go_sem];simp only [nbr];dsimp only [go_sem];have hst:=hI.step hok hlt hn;refine ⟨(by intro c hc;simp only [List.mem_singleton] at hc;subst hc;rfl),by have:=hI.len;simp;omega,?_⟩;dsimp only [go_sem];rw [Zf (n:=(j:Int)+1) (by omega) (by omega)];have e:ends.map Zk ++ [[SV.v (.int .i64 (Vl l legs[j] well))]]=(ends ++ [Vl l legs[j] well]).map Zk:=by simp [Zk]
   rw [e];refine ⟨(j+1,v+1,Vl l legs[j] well,ends ++ [Vl l legs[j] well]),⟨hlt,hst⟩,by simp only;omega,?_⟩;(refine Zj ?_ ?_ ?_ rfl rfl<;>dsimp only [Ze,Zg,Zr,Zi,Zk,id,go_sem]<;>simp [Ze,Zg,Zr,Zi,Zk,Za])
 refine Zo (by simp;omega) ?_;dsimp only [go_sem];have hje:j=legs.length:=by omega
 subst hje;obtain ⟨hbad,hends⟩:=hI.done;subst hends;have hF:=hF2 hbad;have hlen:=Zey hbad;have h2:=W2.start (p:=p) hbad (by omega) hd;clear hI;refine ZdB (Yc 10 6 72 rfl rfl) (λq:Nat × Nat × Int × Int × Int × List Stop=>[(76,I q.1),(10,.mr 5 q.2.1)]) (λq=>[(5,.row q.2.1 6 (q.2.2.2.2.2.map Z3) 72),(4,.cells [I q.2.2.2.1,I q.2.2.2.2.1] 132)])
  (λq=>q.1<=legs.length/\W2 l p s day legs q.1 q.2.2.1 q.2.2.2.1 q.2.2.2.2.1 q.2.2.2.2.2) (λq=>legs.length - q.1) (0,0,s,day,day,[]) ⟨Nat.zero_le _,h2⟩ ?_ ?_
 . (refine Zj ?_ ?_ ?_ rfl rfl<;>dsimp only [Ze,Zg,Zr,Zi,Zk,Z3,id,go_sem]<;>simp [Ze,Zg,Zr,Zi,Zk,Z3,Za])
 clear h2;rintro ⟨j,u,wl,a,b,acc⟩ ⟨hj,hI⟩;simp only at hj hI;dsimp only [go_sem];by_cases hlt:j < legs.length
 . refine Zs (by simpa using hlt) ?_;dsimp only [go_sem];refine Zn j hlt rfl ?_;dsimp only [Zk,go_sem];obtain ⟨k,hk,hlk,_,ho,hej⟩:=hI.at hlt;have hgl:GoodLeg l.legs[k]:=WQ hok.land _ (List.getElem_mem _);have hda:=hI.da;have hdb:=hI.db;have q0:inR 0 100001 a=true:=by simp only [inR,decide_eq_true_eq];omega
   have q1:inR 0 100001 b=true:=by simp only [inR,decide_eq_true_eq];omega
   simp only [hlk];refine call (Wp l p k hk a b hgl hok.pace q0 q1) ?_;dsimp only [go_sem];refine call (Vv l p k hk a b hgl hok.pace q0 q1) ?_;dsimp only [go_sem];refine ixa 1 rfl (by decide) ?_;dsimp only [go_sem];by_cases hR:Z6 true l.legs[k] p b > 100000
   . refine Zs (by simpa using hR) ?_;dsimp only [go_sem];rw [hF,hI.stop hlt hk hlk hR];simp [Zb2,X3]
   refine Zo (by simpa using hR) ?_;dsimp only [go_sem];simp only [nbr];dsimp only [go_sem];have hjl:j < (Ur l s legs).length:=by omega
   simp only [List.length_map];refine UK j rfl hjl ?_;dsimp only [go_sem];simp only [nbr];dsimp only [go_sem];refine Zeb hjl ?_;dsimp only [Zk,go_sem];have hej':(Ur l s legs)[j]=Zm l.legs[k] wl:=by rw [List.getElem?_eq_getElem hjl] at hej;exact Option.some.inj hej
   rw [hej'];refine call (Zdy _ _) ?_;dsimp only [go_sem];refine call (Zdy _ _) ?_;dsimp only [go_sem];simp only [nbr];dsimp only [go_sem];have hst:=hI.step hok hlt hk hlk hR ho;refine ⟨(by intro c hc;simp only [List.mem_singleton] at hc;subst hc;rfl),by have:=hI.len;simp;omega,?_⟩;dsimp only [go_sem];rw [Zf (n:=(j:Int)+1) (by omega) (by omega)];have e:acc.map Z3 ++ [[SV.v (.int .i64 (k:Int)),SV.v (.int .i64 (Zm l.legs[k] wl)),SV.v (.int .i64 (ZAL l.legs[k] p a)),SV.v (.int .i64 (Zxx l.legs[k] p b)),SV.v (.int .i64 (Z6 false l.legs[k] p a)),SV.v (.int .i64 (Z6 true l.legs[k] p b))]] =
    (acc ++ [(⟨(k:Int),Zm l.legs[k] wl,⟨leK false l.legs[k] p a,leK true l.legs[k] p b⟩,⟨Z6 false l.legs[k] p a,Z6 true l.legs[k] p b⟩⟩:Stop)]).map Z3:=by simp [Z3,leK]
   rw [e];refine ⟨(j+1,u+1,Zm l.legs[k] wl,Z6 false l.legs[k] p a,Z6 true l.legs[k] p b,_),⟨hlt,hst⟩,by simp only;omega,?_⟩;(refine Zj ?_ ?_ ?_ rfl rfl<;>dsimp only [Ze,Zg,Zr,Zi,Zk,Z3,id,go_sem]<;>simp [Ze,Zg,Zr,Zi,Zk,Z3,Za])
 refine Zo (by simp;omega) ?_;dsimp only [go_sem];have hje:j=legs.length:=by omega
 subst hje;simp only [nbr];dsimp only [go_sem];rw [hF,hI.done];simp [Zb2,X3,vwN]
end Go.Proofs.YtongccnhomncnaaGreatDoor
namespace Go.Azalai
open Go.Sx
structure Scene where
 heat:Span
 grass:Span
 yields:List Span
 prices:List Int
deriving DecidableEq
structure Season where
 land:Land
 pace:Span
 breed:Breed
 camel:Camel
 herd:Int
 hours:Int
 slab:Int
 cost:Int
 sale:Int
 start:Int
 day:Int
 till:Int
 scenes:List Scene
deriving DecidableEq
structure Plan where
 legs:List Int
 animals:Int
 slabs:Int
deriving DecidableEq
def ZaH (x:Scene):Bool:=decide (x.yields.length > 20) || decide (x.prices.length > 20)
def UE (s:Season):Bool:=ZbR s.land || decide (s.scenes.length > 8) || s.scenes.any ZaH
structure SmallS (s:Season):Prop where
 land:Small s.land
 sc:s.scenes.length<=8
 each:∀ x ∈ s.scenes,x.yields.length<=20/\x.prices.length<=20
def YI (n:Nat) (x:Scene):Bool :=
 ZW 0 60 x.heat && ZW 0 1000000 x.grass && decide (x.yields.length=n) && decide (x.prices.length=n) && x.yields.all (ZW 0 10000000) && x.prices.all (inR 0 1000000)
def Za2 (s:Season):Bool :=
 inR 1 30 s.herd && inR 1 24 s.hours && inR 1 1000000 s.slab && inR 0 1000000 s.cost && inR 0 1000000 s.sale && inR 0 s.till s.day && decide (s.till<=100000)
def ZR (s:Season):Bool :=
 Z7 s.land && Yf s.pace && decide (Uz s.breed s.camel=0) && Za2 s && inR 0 (s.land.wells.length - 1) s.start && inR 1 4 s.scenes.length && s.scenes.all (YI s.land.wells.length)
theorem Zs6 {l:Land} (h:ZbR l=false):Small l:=by
 simp only [ZbR,Bool.or_eq_false_iff,decide_eq_false_iff_not,List.any_eq_false,decide_eq_true_eq] at h;exact ⟨by omega,by omega,λx hx=>by have:=h.2 x hx;omega⟩
theorem Zee {s:Season} (h:UE s=false):SmallS s:=by
 simp only [UE,Bool.or_eq_false_iff,decide_eq_false_iff_not,List.any_eq_false,ZaH,Bool.or_eq_true,decide_eq_true_eq] at h;exact ⟨Zs6 h.1.1,by omega,λx hx=>by have:=h.2 x hx;omega⟩
end Go.Azalai
namespace Go.Proofs.YtongccnhomncnaaGreatDoor
open Go Go.Sx Go.Azalai
def Zl (x:Scene):Ls:=[I x.heat.lo,I x.heat.hi,I x.grass.lo,I x.grass.hi,.sl false 2 (x.yields.map Ze),.sl false 1 (x.prices.map Zk)]
def Zv (s:Season):Ls :=
 [.sl false 9 (s.land.wells.map Zg),.sl false 5 (s.land.legs.map Zr),I s.pace.lo,I s.pace.hi,
  I s.breed.full,I s.breed.fed,I s.breed.rest.lo,I s.breed.rest.hi,I s.breed.heat.lo,I s.breed.heat.hi,I s.breed.toil.lo,I s.breed.toil.hi,I s.breed.burn.lo,I s.breed.burn.hi,I s.breed.rub.lo,I s.breed.rub.hi,I s.breed.milk.lo,I s.breed.milk.hi,I s.breed.heal,I s.breed.strong.lo,I s.breed.strong.hi,
  I s.camel.water.lo,I s.camel.water.hi,I s.camel.fat.lo,I s.camel.fat.hi,I s.camel.sore.lo,I s.camel.sore.hi,B s.camel.milks,
  I s.herd,I s.hours,I s.slab,I s.cost,I s.sale,I s.start,I s.day,I s.till,.sl false 6 (s.scenes.map Zl)]
def ZQ (p:Plan):Ls:=[.sl false 1 (p.legs.map Zk),I p.animals,I p.slabs]
theorem XY (n lo hi:Int):Cp 67 [I n,I lo,I hi] (B (inR lo hi n)):=by
 refine t67.1 (by simp) (by simp) ?_;dsimp only [c67,r67,go_sem];repeat (refine gb ?_;dsimp only [go_sem])
 (simp only [inR,Option.some.injEq,SV.v.injEq,Value.bool.injEq]<;>grind)
theorem Uo (s:Span) (lo hi:Int):Cp 125 [.agg (Ze s),I lo,I hi] (B (ZW lo hi s)):=by
 refine t125.1 (by simp [Ze]) (by simp) ?_;dsimp only [c125,r125,Ze,go_sem];refine call (XY _ _ _) ?_;dsimp only [go_sem];repeat (refine gb ?_;dsimp only [go_sem])
 (simp only [ZW,inR,Option.some.injEq,SV.v.injEq,Value.bool.injEq]<;>grind)
theorem ZlR (lo hi x:Int):Cp 126 [I x,.ps [I lo] 0,.ps [I hi] 0] (B (!inR lo hi x)):=by
 refine t126.1 (by simp) (by simp) ?_;dsimp only [c126,r126,go_sem];repeat (refine gb ?_;dsimp only [go_sem])
 (simp only [inR,Option.some.injEq,SV.v.injEq,Value.bool.injEq]<;>grind)
theorem Zbo (lo hi:Int) (l:List Int) (hl:l.length < 4611686018427387904) (c:Bool):Cp 69 [I lo,I hi,.sl c 1 (l.map Zk)] (B (l.all (inR lo hi))):=by
 refine t69.1 (by simp [Za,Zk]) (by simp) ?_;dsimp only [c69,r69,go_sem];refine WM (by simp [FLT]) (res:=B (l.any λx=>!inR lo hi x)) ?_ ?_
 . dsimp only [go_sem];exact ZqJ 126 [.ps [I lo] 0,.ps [I hi] 0] (by simp) (λx=>!inR lo hi x) l (λx _=>ZlR lo hi x) hl
 . dsimp only [go_sem];simp [List.all_eq_not_any_not]
theorem ZlJ (lo hi a:Int) (c:Bool):Cp 69 [I lo,I hi,.sl c 1 [[I a]]] (B (inR lo hi a)):=by
 have:=Zbo lo hi [a] (by simp) c;simpa [Zk] using this
theorem ZuH (lo hi a b:Int) (c:Bool):Cp 69 [I lo,I hi,.sl c 1 [[I a],[I b]]] (B (inR lo hi a && inR lo hi b)):=by
 have:=Zbo lo hi [a,b] (by simp) c;simpa [Zk] using this
theorem Zfc (lo hi:Int) (s:Span):Cp 169 [.agg (Ze s),.ps [I lo] 0,.ps [I hi] 0] (B (!ZW lo hi s)):=by
 refine t169.1 (by simp [Ze]) (by simp) ?_;dsimp only [c169,r169,Ze,go_sem];repeat (first | (refine gb ?_;dsimp only [go_sem]) | (refine call (ZuH _ _ _ _ _) ?_;dsimp only [go_sem]))
 (simp only [ZW,inR,Option.some.injEq,SV.v.injEq,Value.bool.injEq]<;>grind)
theorem ZaJ (lo hi:Int) (l:List Span) (hl:l.length < 4611686018427387904) (c:Bool):Cp 102 [I lo,I hi,.sl c 2 (l.map Ze)] (B (l.all (ZW lo hi))):=by
 refine t102.1 (by simp [Za,Ze]) (by simp) ?_;dsimp only [c102,r102,go_sem];refine WM (by simp [FLT]) (res:=B (l.any λx=>!ZW lo hi x)) ?_ ?_
 . dsimp only [go_sem];exact ZmS 169 [.ps [I lo] 0,.ps [I hi] 0] (by simp) (λx=>!ZW lo hi x) l (λx _=>Zfc lo hi x) hl
 . dsimp only [go_sem];simp [List.all_eq_not_any_not]
theorem ZeK (lo hi:Int) (s:Span) (c:Bool):Cp 102 [I lo,I hi,.sl c 2 [[I s.lo,I s.hi]]] (B (ZW lo hi s)):=by
 have:=ZaJ lo hi [s] (by simp) c;simpa [Ze] using this
theorem Zj9 (s:Season):Cp 21 [.agg (Zv s)] (B (UE s)):=by
 refine t21.1 (by simp [Zv,Zl,Zg,Zr,Zi,Ze,Zk,Za]) (by simp) ?_;dsimp only [c21,r21,Zv,go_sem];refine call (Zqg s.land) ?_;dsimp only [go_sem];repeat (refine gb ?_;dsimp only [go_sem])
 simp only [List.length_map];refine br ?_ ?_
 . intro h;dsimp only [go_sem]
   (simp only [UE,Option.some.injEq,SV.v.injEq,Value.bool.injEq]<;>grind)
 intro h;dsimp only [go_sem];have hg:UE s=s.scenes.any ZaH:=by simp only [UE];grind
 have hlen:s.scenes.length<=8:=by grind
 rw [hg];refine Ym (λk:Nat=>[(3,I k)]) (λ_=>[]) (λk=>k<=s.scenes.length/\(s.scenes.drop k).any ZaH=s.scenes.any ZaH) (λk=>s.scenes.length - k) 0 ⟨Nat.zero_le _,rfl⟩ ?_ ?_
 . (refine Zj ?_ ?_ ?_ rfl rfl<;>dsimp only [Zi,Zg,Zr,Zl,Ze,Zk,id,go_sem]<;>simp [Zi,Zg,Zr,Zl,Ze,Zk,Za])
 intro k ⟨hk,hi⟩;dsimp only [go_sem];simp only [List.length_map];by_cases hlt:k < s.scenes.length
 . refine Zs (by simpa using hlt) ?_;dsimp only [go_sem];refine Zn k hlt rfl ?_;dsimp only [Zl,go_sem];repeat (first | (refine gb ?_;dsimp only [go_sem]) | (refine Zn k hlt rfl ?_;dsimp only [Zl,go_sem]))
   simp only [List.length_map];rw [List.drop_eq_getElem_cons hlt,List.any_cons] at hi;refine br ?_ ?_
   . intro hb;dsimp only [go_sem];rw [<- hi];simp only [ZaH];grind
   . intro hb;dsimp only [go_sem];rw [Zf (n:=(k:Int)+1) (by omega) (by omega)];have:ZaH s.scenes[k]=false:=by simp only [ZaH];grind
     rw [this,Bool.false_or] at hi;refine ⟨k+1,⟨hlt,hi⟩,by omega,?_⟩;(refine Zj ?_ ?_ ?_ rfl rfl<;>dsimp only [Zi,Zg,Zr,Zl,Ze,Zk,id,go_sem]<;>simp [Zi,Zg,Zr,Zl,Ze,Zk,Za])
 refine Zo (by simp;omega) ?_;dsimp only [go_sem];rw [<- hi,List.drop_eq_nil_of_le (by omega)];rfl
end Go.Proofs.YtongccnhomncnaaGreatDoor
namespace Go.Sx
open Go Go.RowKit
theorem Ct.res {P:Program} {f:FuncId} {args:Ls} {res res0:SV} (h:Ct P f args res) (kr:KF res0) (hw:ZcZ res res0):Ct P f args res0 :=
 ⟨h.1,h.2,kr,λw ok vs hG hR=>Calls.mono (h.4 w ok vs hG hR) λe w' q=>by
  obtain ⟨y,h1,h2,h3⟩:=q
  exact ⟨y,h1,hw _ _ _ _ _ h2,h3⟩⟩
theorem Wl {l:Ls}:∀ (w:World) (E:Env) (n ok:Nat->Prop) (ys:LZ),RL w E n ok l ys->RL w E n ok l ys:=λ_ _ _ _ _ h=>h
def Za3 (fr:Lf):List Nat->Lf
 | []=>[]
 | t :: ts=>(t,lk t fr) :: Za3 fr ts
theorem Zj4 (fr:Lf):Za3 fr []=[]:=rfl
theorem Zh3 (fr:Lf) (t:Nat) (ts:List Nat):Za3 fr (t :: ts)=(t,lk t fr) :: Za3 fr ts:=rfl
attribute [go_sem] Zj4 Zh3
theorem Zei (fr:Lf):∀ ts,ZAR (Za3 fr ts) fr
 | []=>trivial
 | _ :: ts=>⟨rfl,Zei fr ts⟩
theorem Zbl {m:Nat} {σ : St} (ts:List Nat) (hg:ZAS (Za3 σ.fr ts)=true):Ent m σ ⟨Za3 σ.fr ts,σ.hp,σ.n,σ.N,[]⟩:=by
 intro C E a w _ h;refine ⟨E,λt=>?_,h.sz,h.df,λt j b s ht=>absurd ht (ZfC hg t j b s),h.hs⟩;have hfr:=h.fr t;rcases Zlc (Zei σ.fr ts) t with h1 | h1
 . rw [h1];exact trivial
 . rw [h1];have:=ZfC hg t;rw [h1] at this;cases hq:lk t σ.fr<;>rw [hq] at hfr this<;>first | exact hfr | exact absurd rfl (this _ _ _)
theorem UV {m:Nat} {f:CT} {σ : St} {K:Ex->St->Prop} {S:Type} (ts:List Nat) (hg:ZAS (Za3 σ.fr ts)=true) (ov:S->Lf) (hv:S->Lh) (rel:S->Prop) (μ : S->Nat) (s0:S) (h0:rel s0)
 (he:Ent m ⟨Za3 σ.fr ts,σ.hp,σ.n,σ.N,[]⟩ (stO ⟨Za3 σ.fr ts,σ.hp,σ.n,σ.N,[]⟩ ov hv s0))
 (hb:∀ s,rel s->f (stO ⟨Za3 σ.fr ts,σ.hp,σ.n,σ.N,[]⟩ ov hv s) (ZpU m (stO ⟨Za3 σ.fr ts,σ.hp,σ.n,σ.N,[]⟩ ov hv) rel μ s K)):Zvr m f σ K :=
 ZdB (Zbl ts hg) ov hv rel μ s0 h0 he hb
end Go.Sx
