/- Walks and plain laws that lead to the given statement, part 10 of 11. -/
import Derived.Test.YtiigiflofnjilaaGreatQI
set_option maxRecDepth 100000
set_option maxHeartbeats 4000000
set_option linter.all false
open Nat renaming beq_refl->nbr
namespace Go.Proofs.YtiigiflofnjilaaGreat
open Go Go.Sx Go.Azalai
theorem Zyy {s:Season} (h:(Xq s).2.2≠0):Xq s=(⟨[],0,0⟩,0,(Xq s).2.2):=by
 unfold Xq at h ⊢;by_cases ho:ZZ s=false
 . simp only [ho,if_true]
 . simp only [ho,if_false,Bool.false_eq_true] at h ⊢;cases hb:Zip s with
   | none=>simp
   | some b=>rw [hb] at h;exact absurd rfl h
theorem Zde (s:Season):Ct Tryz.prog 5 [.agg (Zs s)] (B true):=by
 refine t5.1 (by simp [Zs,Zi,Zf,Zl,Zg,Zc,Zn,Za]) (by simp) ?_;dsimp only [c5,r5,Zs,go_sem];refine call (Zjy s) ?_;dsimp only [go_sem];by_cases hgr:ZbH s=true
 . refine Zq (by simpa using hgr) ?_;dsimp only [go_sem]
 refine Zr (by simpa using hgr) ?_;dsimp only [go_sem];rw [Bool.not_eq_true] at hgr;have hs:=Zi0 hgr;have kB:=ZpL s hs;have kD:=Zoe s hs;have kE:=Zm3 s hs;have kS:=ZnV s hs;have kL:=ZjW s.land hs.land;have kO:=Zsl s hs;simp only [Zs,ZxA] at kB kD kE kS kO;simp only [Zt] at kL;have ge:∀ n:Int,(n == n)=true:=λn=>by simp
 refine call (ZoS s hs) ?_;dsimp only [Zs,go_sem];refine Y7 [] kO rfl rfl rfl ?_ ?_ ?_
 . exact Zb (by simp [Zf,Zl,Zg,Zi,Zc,Zn,Za])
 . trivial
 intro o ho;unfold ZfJ at ho;by_cases he:(Xq s).2.2=0
 case neg =>
  rw [if_neg he] at ho;subst ho;dsimp only [go_sem];refine gh (Zd9 2 (l':=ZK ⟨[],0,0⟩) rfl (ZC Yk XK)) ?_;dsimp only [ZK,go_sem];rw [Zyy he] at kB;generalize (Xq s).2.2=e at *;simp only [ZK] at kB;refine call kB ?_;dsimp only [go_sem];refine call kD ?_;dsimp only [go_sem];refine call kE ?_;dsimp only [go_sem];have kP:=Zcq ⟨[],0,0⟩ ⟨[],0,0⟩ (by simp) (by simp);simp only [ZK,decide_true] at kP;refine call kP ?_
  dsimp only [go_sem];repeat (first | (refine YT rfl ?_;dsimp only [go_sem]) | simp only [ge])
  refine Xt 1 ?_;dsimp only [Zd,go_sem];refine Zr (by simp) ?_;dsimp only [go_sem];refine gh Yj ?_;dsimp only [go_sem];repeat (first | (refine YT rfl ?_;dsimp only [go_sem]) | (refine call kS ?_;dsimp only [go_sem]) | (refine call kL ?_;dsimp only [go_sem]))
  rfl
 rw [if_pos he] at ho;obtain ⟨a,ha,hal,rfl⟩:=ho;dsimp only [go_sem];refine gh Yj ?_;dsimp only [go_sem];rw [he] at kB;have hq:(Xq s).1=⟨Yx a,(Xq s).1.animals,(Xq s).1.slabs⟩:=by rw [<- ha]
 rw [hq] at kB;generalize (Xq s).1.animals=an at *;generalize (Xq s).1.slabs=sl at *;generalize (Xq s).2.1=w at *;simp only [ZK,Zfv] at kB;refine call kB ?_;dsimp only [go_sem];refine call kD ?_;dsimp only [go_sem];refine call kE ?_;dsimp only [go_sem];have kP:=Zcq ⟨Yx a,an,sl⟩ ⟨Yx a,an,sl⟩ (by simp only [Y5];omega) (by simp only [Y5];omega);simp only [ZK,Zfv,decide_true] at kP;refine Zaz (by simp [FLT]) (res:=B true) (by dsimp only [go_sem];exact kP) ?_
 dsimp only [go_sem];repeat (first | (refine YT rfl ?_;dsimp only [go_sem]) | simp only [ge])
 rw [<- Zfv];have hil:=Y5 a;generalize Yx a=A at *;refine XE [1,2,3,4,14,67,68] rfl (λq:Nat × List Int=>[(68,I q.1)]) (λq=>[(2,.row 0 1 (q.2.map Zn) 3)]) (λq=>q.1<=A.length/\q.2.length=A.length) (λq=>A.length - q.1) (0,A) ⟨Nat.zero_le _,rfl⟩ ?_ ?_
 . (refine Zj ?_ ?_ ?_ rfl rfl<;>dsimp only [Zf,Zl,Zg,Zi,Zc,Zn,id,go_sem]<;>simp [Zf,Zl,Zg,Zi,Zc,Zn,Za])
 rintro ⟨i,Y⟩ ⟨hi,hY⟩;simp only at hi hY;dsimp only [go_sem];try simp only [List.length_map]
 by_cases hlt:i < A.length
 case neg =>
  refine Zr (by simp;omega) ?_;dsimp only [go_sem];refine gh Yj ?_;dsimp only [go_sem];repeat (first | (refine YT rfl ?_;dsimp only [go_sem]) | (refine call kS ?_;dsimp only [go_sem]) | (refine call kL ?_;dsimp only [go_sem]))
  try rfl
 refine Zq (by simpa using hlt) ?_;dsimp only [go_sem];refine Wi i rfl (by simp;omega) ?_;dsimp only [go_sem];refine ZdM (-7) (by omega) (by simp [Zn]) (by simp [Zn,Zu]) ?_;dsimp only [go_sem];rw [Zh (n:=(i:Int)+1) (by omega) (by omega)];have hZ:(Y.set i (-7)).length=A.length:=by simp [hY]
 generalize Y.set i (-7)=Z at *;refine ⟨(i+1,Z),⟨hlt,hZ⟩,by simp only;omega,?_⟩;(refine Zj ?_ ?_ ?_ rfl rfl<;>dsimp only [Zf,Zl,Zg,Zi,Zc,Zn,id,go_sem]<;>simp [Zf,Zl,Zg,Zi,Zc,Zn,Za])
end Go.Proofs.YtiigiflofnjilaaGreat
