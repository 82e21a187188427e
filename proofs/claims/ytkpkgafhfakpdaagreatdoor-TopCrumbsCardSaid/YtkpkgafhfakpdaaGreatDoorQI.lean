/- Walks and plain laws that lead to the given statement, part 9 of 10. -/
import Derived.Test.YtkpkgafhfakpdaaGreatDoorQH
import Derived.Test.YtkpkgafhfakpdaaGreatDoorProg
set_option maxRecDepth 100000
set_option maxHeartbeats 4000000
set_option linter.all false
namespace Go.Proofs.YtkpkgafhfakpdaaGreatDoor
open Go Go.Sx
def c4:SC:=(sr1 [o1 2 (Jz 0 0 49),o1 3 (Jz 1 0 52),Jw 4 Jf] (.gh (sr1 [o1 15 (.call 14 []),m1 5 15] (.gh (.seq (sr1 [o1 16 (lt 2 11),o1 17 (J1 15 16),o1 18 (Jh 17),m1 19 18,g1 20 19 false (ao 2 0),g1 21 19 false (lf 20 1),g1 22 19 false (.bin .neq (.t
 21) (.c (.int .u8 1))),o1 23 (.pick (.t 19) Jt (.t 22)),m1 24 23,g1 25 24 false (ao 2 1),g1 26 24 false (ao 25 0),g1 27 24 false (lf 26 1),g1 28 24 false (ao 2 1),g1 29 24 false (ao 28 1),g1 30 24 false (lf 29 1),g1 31 24 false (Jb .neq 27 30),o1 32
 (.pick (.t 24) Jt (.t 31)),m1 33 32,g1 34 33 false (ao 2 9),g1 35 33 false (lf 34 1),g1 36 33 false (ao 2 3),g1 37 33 false (ao 36 1),g1 38 33 false (lf 37 1),g1 39 33 false (Jb .lss 35 38),o1 40 (.pick (.t 33) Jt (.t 39)),m1 41 40,g1 42 41 false (ao
 3 0),g1 43 41 false (lf 42 1),g1 44 41 false (Jc .lss 43 0),o1 45 (.pick (.t 41) Jt (.t 44)),m1 46 45,g1 47 46 false (ao 3 0),g1 48 46 false (lf 47 1),g1 49 46 false (Jc .gtr 48 9999),o1 50 (.pick (.t 46) Jt (.t 49)),m1 51 50,g1 52 51 false (ao 3
 1),g1 53 51 false (lf 52 1),g1 54 51 false (Jc .lss 53 0),o1 55 (.pick (.t 51) Jt (.t 54)),m1 56 55,g1 57 56 false (ao 3 1),g1 58 56 false (lf 57 1),g1 59 56 false (Jc .gtr 58 100000),o1 60 (.pick (.t 56) Jt (.t 59)),m1 61 60,g1 62 61 false (.mv (.t
 5)),g1 63 61 false (Jh 62),o1 64 (.pick (.t 61) Jt (.t 63))] (.gh (Ji 64 (sr1 [m1 65 5,m1 4 65] (.gh .ret)) .skip))) (sr1 [o1 67 (lt 2 11),o1 68 (J1 16 67),m1 66 68,o1 69 (Je 66 0),o1 70 (Je 66 1),o1 71 (Je 66 2),o1 72 (Je 66 3),o1 6 (.alloc zv0
 23),o1 7 (.alloc zv0 23),Js 6 69 2,Js 7 70 2,m1 8 71,m1 9 72] (.gh (.seq (sr1 [m1 73 9,o1 74 (Jc .neq 73 0),m1 75 74,g1 76 75 false (.mv (.t 8)),g1 77 75 false (.bin .neq (.t 76) (.c (.int .u8 2))),o1 78 (.pick (.t 75) Jt (.t 77))] (.gh (Ji 78 (sr1
 [Jw 4 Jf] (.gh .ret)) .skip))) (sr1 [o1 79 (.mks 2 16 zv0 23 (cn 5)),o1 80 (ao 3 2),Js 80 79 1] (.gh (.seq (.regd (Jr 13) [Jo 81 (ao 3 2),Jp 82 (lf 81 1) [0],Jo 83 (ao 2 5),Jp 84 (ao 83 1) [2],Jp 85 (lf 84 1) [3],Jp 86 (.bin .sub (cn 1000) (.t 85))
 [4],Jo 87 (ao 2 5),Jp 88 (ao 87 0) [6],Jp 89 (lf 88 1) [7],Jp 90 (.bin .sub (cn 1000) (.t 89)) [8],Jp 91 (J2 17 86 90) [5,9],Jp 92 (.ixs (.t 82) (cn 0) 2) (Jr 11)] 0 1 [Ju 92 91 2 (Jr 12)]) (.gh (sr1 [o1 94 (lt 3 3),o1 95 (lt 3 3),o1 96 (.bsl 3 52
 [.t 94,.t 95]),o1 97 (ao 2 1),o1 98 (ao 97 0),o1 99 (lf 98 1),o1 100 (.bsl 1 3 [.t 99,cn 0,cn 0,cn 0,cn 0]),o1 101 (.call 18 [.c (.slice none 0 0),.t 96,.t 100,.c (.slice none 0 0)]),m1 93 101,o1 102 (Je 93 0),o1 103 (Je 93 1),o1 104 (Je 93 2),o1 105
 (Je 93 3),m1 10 102,m1 11 103,m1 12 104,m1 13 105] (.gh (.seq (sr1 [m1 106 13,o1 107 (Jc .neq 106 0),m1 108 107,g1 109 108 false (.mv (.t 10)),g1 110 108 false (Jl 109),g1 111 108 false (Jc .neq 110 5),o1 112 (.pick (.t 108) Jt (.t 111)),m1 113
 112,g1 114 113 false (.mv (.t 11)),g1 115 113 false (Jl 114),g1 116 113 false (Jc .gtr 115 1),o1 117 (.pick (.t 113) Jt (.t 116))] (.gh (Ji 117 (sr1 [Jw 4 Jf] (.gh .ret)) .skip))) (.seq (.seq (.regd (Jr 25) [Jm 118 10,Jp 119 (.ixs (.t 118) (cn 0) 2)
 [0],Jp 120 (lt 119 2) [1],Jo 121 (lt 6 2),Jp 122 (J2 19 120 121) [2,3],Jp 123 (Jh 122) [4],Jp 124 (.mv (.t 123)) [4,5],Jq 125 124 false (ao 6 0) [6],Jq 126 124 false (lf 125 1) [6,7],Jq 127 124 false (.mv (.t 10)) [6],Jq 128 124 false (.ixs (.t 127)
 (cn 0) 2) [6,9],Jq 129 124 false (ao 128 0) [6,10],Jq 130 124 false (lf 129 1) [6,11],Jq 131 124 false (Jb .neq 126 130) [6,8,12],Jp 132 (.pick (.t 124) Jt (.t 131)) [6,13],Jp 133 (.mv (.t 132)) [6,14],Jq 134 133 false (ao 6 1) [15],Jq 135 133 false
 (lf 134 1) [15,16],Jq 136 133 false (.mv (.t 10)) [15],Jq 137 133 false (.ixs (.t 136) (cn 0) 2) [15,18],Jq 138 133 false (ao 137 1) [15,19],Jq 139 133 false (lf 138 1) [15,20],Jq 140 133 false (Jc .add 139 1) [15,21],Jq 141 133 false (Jb .gtr 135
 140) [15,17,22],Jp 142 (.pick (.t 133) Jt (.t 141)) [15,23]] 0 0 []) (.gh (Ji 142 (sr1 [Jw 4 Jf] (.gh .ret)) .skip))) (sr1 [o1 143 (.build zv0 []),o1 14 (.alloc zv0 23),Js 14 143 2] (.gh (.seq (sr1 [m1 144 11,o1 145 (Jl 144),o1 146 (Jc .eql 145 1)]
 (.gh (Ji 146 (.reg [m1 147 11,o1 148 (.ixs (.t 147) (cn 0) 4),o1 149 (ao 148 2),o1 150 (lt 149 2),Js 14 150 2]) .skip))) (sr1 [m1 151 5,m1 152 151,g1 153 152 true (lt 14 2),g1 154 152 true (lt 7 2),g1 155 152 true (J2 19 153 154),o1 156 (.pick (.t
 152) (.t 155) Jf),m1 157 156,g1 158 157 true (ao 7 1),g1 159 157 true (lf 158 1),g1 160 157 true (ao 14 1),g1 161 157 true (lf 160 1),g1 162 157 true (Jb .eql 159 161),o1 163 (.pick (.t 157) (.t 162) Jf),m1 164 163,g1 165 164 true (ao 7 0),g1 166 164
 true (lf 165 1),g1 167 164 true (ao 14 0),g1 168 164 true (lf 167 1),g1 169 164 true (Jc .sub 168 1),g1 170 164 true (Jb .geq 166 169),o1 171 (.pick (.t 164) (.t 170) Jf),m1 4 171] (.gh .ret)))))))))))))))))))))
def r4:List RV:=[.tmp 4]
theorem n4:Tryz.f4.ntmps=172:=by kernel_rfl
theorem b4:ZV Tryz.prog 4=true:=by kernel_rfl
theorem t4:Qt1 Tryz.prog 4 c4 r4 172:=ZL Tryz.func4 rfl b4 (by kernel_rfl) (by kernel_rfl) n4
end Go.Proofs.YtkpkgafhfakpdaaGreatDoor
namespace Go.Sx
open Go Go.RowKit
section
variable {g:Option (Nat × Bool)} {k v' m0 T o m' T':Nat} {xs:List (List SV)} {inn:List (List (List SV))} {d:Option Nat} {σ : St} {r:KT} {K:RK}
end
theorem ZmN {m:Nat} {σ : St} (kb i k:Nat) {v:Nat} {l:List SV} {T1 mm T o m' T':Nat} {xs:List (List SV)} {inn:List (List (List SV))} (hm:Nat.ble m k=true) (hkb:lkh kb σ.hp = .cells l T1) (hl:l[i]? = some (.mr k v)) (hk:lkh k σ.hp = .rws v mm xs T o m' inn T') :
 Ent m σ ⟨σ.fr,(kb,.cells (l.set i (.sl false mm (Zbs o m' inn xs))) T1) :: (k,.gone) :: σ.hp,σ.n,σ.N,σ.gs⟩:=λC E a w hmc h=>by
 obtain ⟨g1,g2⟩:=XP h.hs k;have hne:kb≠k:=by rintro rfl;rw [hk] at hkb;cases hkb
 have hk2:lkh kb ((k,.gone) :: σ.hp) = .cells l T1:=by rw [Zj,if_neg hne];exact hkb
 have hocc:∀ b,occ E kb (.cells (l.set i (.sl false mm (Zbs o m' inn xs))) T1) b↔occ E kb (lkh kb ((k,.gone) :: σ.hp)) b:=λb=>by rw [hk2];rfl
 have hbk:=h.hs.bk k;rw [hk] at hbk;have hok:∀ i b,i<=inn.length->Zre (E.hv k (v+i)) b->okS C E ((k,.gone) :: σ.hp) b:=λi b hi hb=>by
  have hoc:occ E k (lkh k σ.hp) b:=by rw [hk];exact ⟨i,hi,hb⟩
  refine ⟨?_,λj ho=>?_⟩
  . rcases h.hs.lo k b hoc with q | q
    . exact .inr q
    . have h1:=hmc.2 k b q;have h2:=hmc.1;have h3:=Nat.le_of_ble_eq_true hm;omega
  . rw [Zj] at ho;split at ho
    . exact ho.elim
    . exact absurd (h.hs.dj j k b ho hoc).symm (by omega)
 have hval:=Zrm g2 hok hbk
 obtain ⟨h6,h7⟩:=Xy (hb:=.cells (l.set i (.sl false mm (Zbs o m' inn xs))) T1) (B:=E.β kb) g1 hocc (by rw [hk2];rfl) ⟨rfl,rfl,rfl,rfl,λ_ _=>rfl⟩ (λhst=>by
  have hb:=h.hs.bk kb;rw [hkb] at hb;simp only [Z1] at hb ⊢;obtain ⟨cs,e1,e2⟩:=hb
  refine ⟨cs,e1,ZaJ (Zim (p:=λs s'=>∀ y,R w E (ltn σ.n) (okS C E σ.hp) s y->R w E (ltn σ.n) (okS C E ((kb,.cells (l.set i (.sl false mm (Zbs o m' inn xs))) T1) :: (k,.gone) :: σ.hp)) s' y)
   (λs y hy=>ZM hst.c (λ_ _=>Ele.rfl) (λ_ h=>h) _ _ (ZM g2.c (λ_ _=>Ele.rfl) (λ_ h=>h) _ _ hy)) (λy hy=>?_) hl) e2⟩
  have hy2:y=E.hv k v:=by simp only [R] at hy;exact hy.2.2.1
  rw [hy2]
  exact ZM hst.c (λ_ _=>Ele.rfl) (λ_ h=>h) _ _ hval)
 have hst:ZF w w (okS C E σ.hp) (okS C E ((kb,.cells (l.set i (.sl false mm (Zbs o m' inn xs))) T1) :: (k,.gone) :: σ.hp)):=λb hb hs=>by
  obtain ⟨q1,q2⟩:=g2 b hb hs;exact h7 b q1 hs
 exact ⟨E,Z3 h hst (λ_ _=>Ele.rfl) (Nat.le_refl _) h6⟩
end Go.Sx
namespace Go.Proofs.YtkpkgafhfakpdaaGreatDoor
open Go Go.Sx Go.Azalai
theorem Zhl {p:Pack} (h1:ZW p=true) (h2:p.kind=1) (h3:p.mass.lo=p.mass.hi) (h4:p.hard.hi<=p.hurt) :
 YI p=(⟨(p.mass.lo * (1000 - p.crumbs.hi)).tdiv 1000,upF (p.mass.lo * (1000 - p.crumbs.lo)) 1000⟩,⟨(p.mass.lo * p.crumbs.lo).tdiv 1000,upF (p.mass.lo * p.crumbs.hi) 1000⟩,2) /\
 0<=p.mass.lo/\p.mass.lo<=1000000/\0<=p.crumbs.lo/\p.crumbs.lo<=p.crumbs.hi/\p.crumbs.hi<=1000:=by
 simp only [ZW,Va,h2,Z8,inR,if_true,Bool.and_eq_true,decide_eq_true_eq] at h1;obtain ⟨⟨⟨g1,_⟩,_⟩,⟨g2,g3⟩,_⟩:=h1;refine ⟨?_,by omega⟩;unfold YI;rw [if_neg (by omega),if_neg (by omega),if_neg (by omega),<- h3]
theorem ZdX {m x y:Int} (hm:0<=m) (hy:0<=y) (hyx:y<=x) (hx:x<=1000) :
 0<=(m * (1000 - x)).tdiv 1000/\(m * (1000 - x)).tdiv 1000<=(m * (1000 - y)).tdiv 1000/\(m * (1000 - y)).tdiv 1000<=upF (m * (1000 - y)) 1000/\upF (m * (1000 - y)) 1000<=(m * (1000 - y)).tdiv 1000+1 /\
 m - (m * (1000 - x)).tdiv 1000=upF (m * x) 1000/\(m * y).tdiv 1000<=m - (m * (1000 - y)).tdiv 1000/\m - (m * (1000 - y)).tdiv 1000 - 1<=(m * y).tdiv 1000/\(m * y).tdiv 1000<=upF (m * x) 1000/\0<=(m * y).tdiv 1000 /\
 upF (m * (1000 - y)) 1000<=m/\(m * (1000 - y)).tdiv 1000<=m:=by
 have q1:0<=m * y:=Int.mul_nonneg hm hy;have q2:m * y<=m * x:=Int.mul_le_mul_of_nonneg_left hyx hm;have q3:m * x<=m * 1000:=Int.mul_le_mul_of_nonneg_left hx hm;rw [Int.mul_sub,Int.mul_sub];unfold upF;rw [Int.tdiv_eq_ediv_of_nonneg (show 0<=m * 1000 - m * x by omega),Int.tdiv_eq_ediv_of_nonneg (show 0<=m * 1000 - m * y by omega),Int.tdiv_eq_ediv_of_nonneg (show 0<=m * 1000 - m * y+1000 - 1 by omega),Int.tdiv_eq_ediv_of_nonneg (show 0<=m * x+1000 - 1 by omega),Int.tdiv_eq_ediv_of_nonneg q1]
 generalize m * x=X at *;generalize m * y=Y at *;omega
theorem Zic (h14:Ct Tryz.prog 14 [] (B true)) (p:Pack) (fa:Fare):Ct Tryz.prog 4 [.agg (Zo p),.agg (Zu false fa)] (B true):=by
 refine t4.1 (by simp [Zo,Zu,Za,Zh]) (by simp) ?_;dsimp only [c4,r4,Zo,Zu,go_sem];repeat (refine gh Zr ?_;dsimp only [go_sem])
 refine call h14 ?_;dsimp only [go_sem];repeat (refine gh Zr ?_;dsimp only [go_sem])
 refine call (Zl8 p) ?_;dsimp only [go_sem];repeat (refine gb ?_;dsimp only [go_sem])
 repeat (refine gh Zr ?_;dsimp only [go_sem])
 by_cases hv:ZW p=true/\p.kind=1/\p.mass.lo=p.mass.hi/\p.hard.hi<=p.hurt/\0<=fa.place/\fa.place<=9999/\0<=fa.day/\fa.day<=100000
 case neg =>
  refine Zt ?_ ?_
  . simp only [Bool.or_eq_true,Bool.not_eq_true',decide_eq_true_eq,bne_iff_ne];cases ho:ZW p with
    | false=>simp
    | true=>simp [ho] at hv ⊢;omega
  dsimp only [go_sem];repeat (refine gh Zr ?_;dsimp only [go_sem])
 obtain ⟨h1,h2,h3,h4,h5,h6,h7,h8⟩:=hv;refine Zn (by simp [h1,h2,h3];omega) ?_;dsimp only [go_sem];repeat (refine gh Zr ?_;dsimp only [go_sem])
 obtain ⟨hr,m0,m1,k0,k1,k2⟩:=Zhl h1 h2 h3 h4;refine call (ZbR p h1) ?_;rw [hr];dsimp only [Zh,go_sem];repeat (refine gh Zr ?_;dsimp only [go_sem])
 repeat (refine ZO rfl ?_;dsimp only [go_sem])
 repeat (refine gh Zr ?_;dsimp only [go_sem])
 refine Zn rfl ?_;dsimp only [go_sem];repeat (refine gh Zr ?_;dsimp only [go_sem])
 refine ⟨5,rfl,by decide,?_⟩;dsimp only [go_sem];repeat (refine gh Zr ?_;dsimp only [go_sem])
 rw [Zf (n:=1000 - p.crumbs.hi) (by omega) (by omega),Zf (n:=1000 - p.crumbs.lo) (by omega) (by omega)];refine call (Yu _ _) ?_;dsimp only [go_sem];refine XC 0 rfl (by decide) ?_;dsimp only [go_sem];refine ⟨_,rfl,by simp,?_⟩;dsimp only [go_sem];refine gh (WD (Zv4 4 0 0 0 23 rfl rfl) (ZmN 1 2 4 rfl rfl rfl rfl)) ?_;dsimp only [go_sem];have hrun:Ct Tryz.prog 18 [.v (.slice none 0 0),.sl true 3 [Zu false ⟨fa.place,fa.day,keepF ⟨1000 - p.crumbs.hi,1000 - p.crumbs.lo⟩⟩,Zu false ⟨fa.place,fa.day,keepF ⟨1000 - p.crumbs.hi,1000 - p.crumbs.lo⟩⟩],.sl true 1 [[I p.mass.lo],[I 0],[I 0],[I 0],[I 0]],.v (.slice none 0 0)]
  (.tup [.sl true 2 (ZbI p.mass.lo ⟨1000 - p.crumbs.hi,1000 - p.crumbs.lo⟩),.sl false 4 (Za9 p.mass.lo ⟨1000 - p.crumbs.hi,1000 - p.crumbs.lo⟩),I 0,I 0]) :=
  Ct.args (ZeW p.mass.lo ⟨1000 - p.crumbs.hi,1000 - p.crumbs.lo⟩ fa.place fa.day fa.day true true false true true (by omega) (by simp [Z8];omega) (by simp [inR];omega) (by simp [inR];omega) (by simp [inR];omega) (Int.le_refl _)) (by simp [Za,KFR,Zu,Zh])
   (ZD Wc (ZD YE (ZD YE (ZD Wc UV))))
 refine call hrun ?_;obtain ⟨f1,f2,f3,f4,f5,f6,f7,f8,f9,f10,f11⟩:=ZdX (m:=p.mass.lo) m0 k0 k1 k2;simp only [ZbI];clear hrun hr;by_cases hg:p.mass.lo - (p.mass.lo * (1000 - p.crumbs.hi)).tdiv 1000 > 0
 case' pos=>rw [show Za9 p.mass.lo ⟨1000 - p.crumbs.hi,1000 - p.crumbs.lo⟩=[ZbH 0 0 ⟨p.mass.lo - (p.mass.lo * (1000 - p.crumbs.lo)).tdiv 1000,p.mass.lo - (p.mass.lo * (1000 - p.crumbs.hi)).tdiv 1000⟩] from if_pos hg]
 case' neg=>rw [show Za9 p.mass.lo ⟨1000 - p.crumbs.hi,1000 - p.crumbs.lo⟩=[] from if_neg hg]
 all_goals
  generalize (p.mass.lo * (1000 - p.crumbs.hi)).tdiv 1000=a at *;generalize (p.mass.lo * (1000 - p.crumbs.lo)).tdiv 1000=b at *;generalize upF (p.mass.lo * (1000 - p.crumbs.lo)) 1000=u at *;generalize (p.mass.lo * p.crumbs.lo).tdiv 1000=lo2 at *;generalize upF (p.mass.lo * p.crumbs.hi) 1000=hi2 at *;generalize p.mass.lo=m at *;dsimp only [go_sem];repeat (refine gh Zr ?_;dsimp only [go_sem])
  repeat (refine ZO rfl ?_;dsimp only [go_sem])
  repeat (first | (refine gh Zr ?_;dsimp only [go_sem]) | (refine Zn rfl ?_;dsimp only [go_sem]))
  refine ixs 0 _ rfl rfl ?_;dsimp only [go_sem];refine call (UX ⟨a,b⟩ ⟨a,u⟩) ?_;dsimp only [go_sem];repeat (refine gb ?_;dsimp only [go_sem])
  refine Zzs 0 [I a,I b] rfl (λ_=>⟨rfl,rfl⟩) ?_;dsimp only [go_sem];repeat (refine gb ?_;dsimp only [go_sem])
  refine Zzs 0 [I a,I b] rfl (λ_=>⟨rfl,rfl⟩) ?_;dsimp only [go_sem];repeat (refine gb ?_;dsimp only [go_sem])
  rw [Zf (n:=b+1) (by omega) (by omega)];repeat (refine gb ?_;dsimp only [go_sem])
  repeat (refine gh Zr ?_;dsimp only [go_sem])
  refine Zn (by simp;omega) ?_;dsimp only [go_sem];repeat (refine gh Zr ?_;dsimp only [go_sem])
 case' pos =>
  refine Zt rfl ?_;dsimp only [go_sem];refine ixs 0 _ rfl rfl ?_;dsimp only [ZbH,go_sem]
 case' neg =>
  refine Zn rfl ?_;dsimp only [go_sem]
 all_goals
  repeat (refine gh Zr ?_;dsimp only [go_sem])
  repeat (refine gb ?_;dsimp only [go_sem])
 case' pos=>refine call (UX ⟨m - b,m - a⟩ ⟨lo2,hi2⟩) ?_
 case' neg=>refine call (UX ⟨0,0⟩ ⟨lo2,hi2⟩) ?_
 all_goals
  dsimp only [go_sem];repeat (refine gb ?_;dsimp only [go_sem])
 case' pos=>rw [Zf (n:=m - b - 1) (by omega) (by omega)]
 case' neg=>rw [Zf (n:=0 - 1) (by omega) (by omega)]
 all_goals
  repeat (refine gb ?_;dsimp only [go_sem])
  repeat (refine gh Zr ?_;dsimp only [go_sem])
 case pos =>
  simp;omega
 case neg =>
  simp;omega
theorem ZpE:Ct Tryz.prog 32 [.sl false 1 [[I (-1)],[I 0]],.sl true 1 [[I (-1)],[I 0]]] (B true):=by
 refine t32.1 (by simp [KFR]) (by simp) ?_;dsimp only [c32,r32,go_sem];refine Zn rfl ?_;dsimp only [go_sem];refine ZU 3 ?_;dsimp only [Zc,go_sem];refine Zt rfl ?_;dsimp only [go_sem];refine ixs 0 _ rfl rfl ?_;dsimp only [go_sem];refine ixs 0 _ rfl rfl ?_;dsimp only [go_sem];refine Zn rfl ?_;dsimp only [go_sem];rw [show IntKind.i64.wrap ((0:Int)+1)=1 from rfl];refine Zt rfl ?_;dsimp only [go_sem];refine ixs 1 _ rfl rfl ?_
 dsimp only [go_sem];refine ixs 1 _ rfl rfl ?_;dsimp only [go_sem];refine Zn rfl ?_;dsimp only [go_sem];rw [show IntKind.i64.wrap ((1:Int)+1)=2 from rfl];refine Zn rfl ?_;dsimp only [go_sem]
def P0:Pack:=⟨1,⟨1000,1000⟩,⟨1,1⟩,⟨50,100⟩,⟨0,0⟩,1,0⟩
theorem rest0:YI P0=(⟨900,950⟩,⟨50,100⟩,2):=by rfl
theorem ZdU:Ct Tryz.prog 14 [] (B true):=by
 refine t14.1 (by simp) (by simp) ?_;dsimp only [c14,r14,go_sem]
 iterate 3
  refine call (Yu _ _) ?_;dsimp only [go_sem]
 have h0:=ZbR P0 (by decide);rw [rest0] at h0;refine call h0 ?_;dsimp only [Zh,go_sem];refine call ZcR ?_;dsimp only [go_sem];have hrun:Ct Tryz.prog 18 [.v (.slice none 0 0),.sl true 3 [Zu true ⟨1,3,keepF ⟨900,950⟩⟩,Zu true ⟨1,5,keepF ⟨900,950⟩⟩],.sl true 1 [[I 1000],[I 0],[I 0],[I 0],[I 0]],.v (.slice none 0 0)]
  (.tup [.sl true 2 (ZbI 1000 ⟨900,950⟩),.sl false 4 (Za9 1000 ⟨900,950⟩),I 0,I 0]) :=
  Ct.args (ZeW 1000 ⟨900,950⟩ 1 3 5 true true true true true (by omega) (by decide) (by decide) (by decide) (by decide) (by decide)) (by simp [Za,KFR,Zu,Zh])
   (ZD Wc (ZD YE (ZD YE (ZD Wc UV))))
 rw [show ZbI 1000 ⟨900,950⟩=[[I 900,I 950],[I 0,I 0],[I 0,I 0],[I 0,I 0],[I 0,I 0]] from rfl] at hrun;refine call hrun ?_;dsimp only [go_sem];refine call (Yu _ _) ?_;dsimp only [go_sem];refine call ZcR ?_;dsimp only [go_sem];refine call Zo4 ?_;dsimp only [go_sem];refine call ZdB ?_;dsimp only [go_sem];repeat (first | (refine ZO rfl ?_;dsimp only [go_sem]) | (refine call (Yu _ _) ?_;dsimp only [go_sem]) | (refine ixs 0 _ rfl rfl ?_;dsimp only [go_sem]))
 refine call ZpE ?_;dsimp only [go_sem];repeat (refine ZO rfl ?_;dsimp only [go_sem])
 rfl
theorem Zfa (p:Pack) (fa:Fare):Ct Tryz.prog 4 [.agg (Zo p),.agg (Zu false fa)] (B true):=Zic ZdU p fa
end Go.Proofs.YtkpkgafhfakpdaaGreatDoor
