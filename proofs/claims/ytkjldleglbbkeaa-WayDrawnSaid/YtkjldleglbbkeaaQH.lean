/- Walks and plain laws that lead to the given statement, part 8 of 9. -/
import Derived.Test.YtkjldleglbbkeaaQG
set_option maxRecDepth 100000
set_option maxHeartbeats 8000000
set_option linter.all false
open Nat renaming reduceAdd->rA,reduceMul->rM,reduceSub->rS,beq_refl->nbr
namespace Go.Proofs.Ytkjldleglbbkeaa
open Go Go.Sx Go.Azalai
theorem Zm2 {P:Program} (l:Land) (wn:Nat) (draws:List Draw) (D more a b teams:Int) (S:Span) (T:Span × Int × Int) (hdl:draws.length < 200) (hC:Ct P 17 [.agg [.sl false 9 (l.wells.map Zc),.sl false 5 (l.legs.map Zj)],I (wn:Int),.sl false 3 (draws.map Zh ++ [[I (wn:Int),I (IntKind.i64.wrap (D - 1)),I (IntKind.i64.wrap more)]]),I D] (ZcP T)) (K:Ex->St->Prop)
 (hK:∀ σF:St,σF=⟨[(21,.p 3 0),(133,.tup [.agg [I T.1.lo,I T.1.hi],I T.2.1,I T.2.2]),(18,.p 1 0),(17,B true),(8,.p 0 0),(7,I teams),(6,I b),(5,I a),(4,.v (.int .u16 more)),(3,I D),(2,.sl false 3 (draws.map Zh)),(1,I (wn:Int))],[(3,.cells [I T.1.lo,I T.1.hi] 29),(2,.row 1 3 (draws.map Zh ++ [[I (wn:Int),I (IntKind.i64.wrap (D - 1)),I (IntKind.i64.wrap more)]]) 40),(1,.cells (Ze S) 29),(0,.cells (Zf l) 25)],4,327,[]⟩->rxT P Y0 [di1,di3,di5,di6,di8,ZcN,Zd6,Zps,ZpC,Zrs,Zwg,Zww] (fun σ' K'=>K' .n σ') σF K):Z6 P Y0 0 l15 6791530 (Yb 0 l15 []) 11 0 ⟨[(18,.p 1 0),(17,B true),(8,.p 0 0),(7,I teams),(6,I b),(5,I a),(4,.v (.int .u16 more)),(3,I D),(2,.sl false 3 (draws.map Zh)),(1,I (wn:Int))],[(1,.cells (Ze S) 29),(0,.cells (Zf l) 25)],2,327,[]⟩ K:=by
 have h1597077:Z6 P Y0 0 l15 6791530 (Yb 0 l15 []) 0 1597077 ⟨[(21,.p 3 0),(133,.tup [.agg [I T.1.lo,I T.1.hi],I T.2.1,I T.2.2]),(18,.p 1 0),(17,B true),(8,.p 0 0),(7,I teams),(6,I b),(5,I a),(4,.v (.int .u16 more)),(3,I D),(2,.sl false 3 (draws.map Zh)),(1,I (wn:Int))],[(3,.cells [I T.1.lo,I T.1.hi] 29),(2,.row 1 3 (draws.map Zh ++ [[I (wn:Int),I (IntKind.i64.wrap (D - 1)),I (IntKind.i64.wrap more)]]) 40),(1,.cells (Ze S) 29),(0,.cells (Zf l) 25)],4,327,[]⟩ K:=by
  refine ZmH [([di1,di3,di5,di6,di8,ZcN,Zd6],Zps),([di1,di3,di5,di6,di8,ZcN,Zd6],ZpC),([di1,di3,di5,di6,di8,ZcN,Zd6],Zrs)] [di1,di3,di5,di6,di8,ZcN,Zd6,Zps,ZpC,Zrs,Zwg,Zww] (by kernel_rfl) (by kernel_rfl) (by kernel_rfl) (Vp ?_ (Vp ?_ (Vp ?_ (Zt)))) hK<;>dsimp only [go_sem,rA,rM,rS]
 have h548501:Z6 P Y0 0 l15 6791530 (Yb 0 l15 []) 1 548501 ⟨[(21,.p 3 0),(133,.tup [.agg [I T.1.lo,I T.1.hi],I T.2.1,I T.2.2]),(18,.p 1 0),(17,B true),(8,.p 0 0),(7,I teams),(6,I b),(5,I a),(4,.v (.int .u16 more)),(3,I D),(2,.sl false 3 (draws.map Zh)),(1,I (wn:Int))],[(3,.cells [I 0,I 0] 29),(2,.row 1 3 (draws.map Zh ++ [[I (wn:Int),I (IntKind.i64.wrap (D - 1)),I (IntKind.i64.wrap more)]]) 40),(1,.cells (Ze S) 29),(0,.cells (Zf l) 25)],4,327,[]⟩ K:=by
  refine Zm [([di1,di3,di5,di6,di8,ZcN,Zd6],Zps),([di1,di3,di5,di6,di8,ZcN,Zd6],ZpC),([di1,di3,di5,di6,di8,ZcN,Zd6],Zrs)] [(1597077,[di1,di3,di5,di6,di8,ZcN,Zd6,Zps],di20)] (by kernel_rfl) (by kernel_rfl) (by kernel_rfl) (Vp ?_ (Vp ?_ (Vp ?_ (Zt)))) (Zk ?_ (Zu))<;>dsimp only [Zf,go_sem,rA,rM,rS]
  ·
   refine ⟨_,?_,h1597077⟩
   (refine Zi ?_ ?_ ?_ rfl rfl<;>dsimp only [Zc,Zj,Zg,Zf,Ze,Zh,id,go_sem,rA,rM,rS]<;>simp [Zc,Zj,Zg,Zf,Ze,Zh,Za,Zd,KFR,KFL,KF,Zb,mtO,nbr])
 have h532117:Z6 P Y0 0 l15 6791530 (Yb 0 l15 []) 2 532117 ⟨[(21,.p 3 0),(131,.mr 2 1),(119,.agg [.sl false 9 (l.wells.map Zc),.sl false 5 (l.legs.map Zj)]),(18,.p 1 0),(17,B true),(8,.p 0 0),(7,I teams),(6,I b),(5,I a),(4,.v (.int .u16 more)),(3,I D),(2,.sl false 3 (draws.map Zh)),(1,I (wn:Int))],[(3,.cells [I 0,I 0] 29),(2,.row 1 3 (draws.map Zh ++ [[I (wn:Int),I (IntKind.i64.wrap (D - 1)),I (IntKind.i64.wrap more)]]) 40),(1,.cells (Ze S) 29),(0,.cells (Zf l) 25)],4,327,[]⟩ K:=by
  refine Zm [] [(548501,[di1,di3,di5,di6,di8,ZcN],ZwD)] (by kernel_rfl) (by kernel_rfl) (by kernel_rfl) (Zt) (Zk ?_ (Zu))<;>dsimp only [Zf,go_sem,rA,rM,rS]
  ·
   refine Zf4 (by simp [FLT,Zqt,ZcP,Ze]) (res:=ZcP T) ?_ ?_
   . dsimp only [go_sem,rA,rM,rS]
     exact hC
   dsimp only [ZcP,Ze,go_sem,rA,rM,rS]
   refine ⟨_,?_,h548501⟩
   (refine Zi ?_ ?_ ?_ rfl rfl<;>dsimp only [Zc,Zj,Zg,Zf,Ze,Zh,id,go_sem,rA,rM,rS]<;>simp [Zc,Zj,Zg,Zf,Ze,Zh,Za,Zd,KFR,KFL,KF,Zb,mtO,nbr])
 have h24213:Z6 P Y0 0 l15 6791530 (Yb 0 l15 []) 2 24213 ⟨[(133,.tup [.agg [I T.1.lo,I T.1.hi],I T.2.1,I T.2.2]),(18,.p 1 0),(17,B true),(8,.p 0 0),(7,I teams),(6,I b),(5,I a),(4,.v (.int .u16 more)),(3,I D),(2,.sl false 3 (draws.map Zh)),(1,I (wn:Int))],[(2,.row 1 3 (draws.map Zh ++ [[I (wn:Int),I (IntKind.i64.wrap (D - 1)),I (IntKind.i64.wrap more)]]) 40),(1,.cells (Ze S) 29),(0,.cells (Zf l) 25)],3,327,[]⟩ K:=by
  refine Zm [([di1,di3,di5,di6,di8,ZcN,Zd6],Zps),([di1,di3,di5,di6,di8,ZcN,Zd6],ZpC),([di1,di3,di5,di6,di8,ZcN,Zd6],Zrs)] [(548501,[],XO)] (by kernel_rfl) (by kernel_rfl) (by kernel_rfl) (Vp ?_ (Vp ?_ (Vp ?_ (Zt)))) (Zk ?_ (Zu))<;>dsimp only [Zf,go_sem,rA,rM,rS]
  ·
   refine ⟨_,?_,h548501⟩
   (refine Zi ?_ ?_ ?_ rfl rfl<;>dsimp only [Zc,Zj,Zg,Zf,Ze,Zh,id,go_sem,rA,rM,rS]<;>simp [Zc,Zj,Zg,Zf,Ze,Zh,Za,Zd,KFR,KFL,KF,Zb,mtO,nbr])
 have h528021:Z6 P Y0 0 l15 6791530 (Yb 0 l15 []) 3 528021 ⟨[(21,.p 3 0),(130,.sl true 3 [[I (wn:Int),I (IntKind.i64.wrap (D - 1)),I (IntKind.i64.wrap more)]]),(123,.mr 2 0),(119,.agg [.sl false 9 (l.wells.map Zc),.sl false 5 (l.legs.map Zj)]),(18,.p 1 0),(17,B true),(8,.p 0 0),(7,I teams),(6,I b),(5,I a),(4,.v (.int .u16 more)),(3,I D),(2,.sl false 3 (draws.map Zh)),(1,I (wn:Int))],[(3,.cells [I 0,I 0] 29),(2,.row 0 3 (draws.map Zh) 40),(1,.cells (Ze S) 29),(0,.cells (Zf l) 25)],4,327,[]⟩ K:=by
  refine Zm [] [(532117,[di3,di5,di6,di8],ZtX)] (by kernel_rfl) (by kernel_rfl) (by kernel_rfl) (Zt) (Zk ?_ (Zu))<;>dsimp only [Zf,go_sem,rA,rM,rS]
  ·
   refine ⟨by simp [Yi,VS,Zc8],by simp only [List.length_map];simp;omega,?_⟩
   dsimp only [go_sem,rA,rM,rS]
   refine ⟨_,?_,h532117⟩
   (refine Zi ?_ ?_ ?_ rfl rfl<;>dsimp only [Zc,Zj,Zg,Zf,Ze,Zh,id,go_sem,rA,rM,rS]<;>simp [Zc,Zj,Zg,Zf,Ze,Zh,Za,Zd,KFR,KFL,KF,Zb,mtO,nbr])
 have h532116:Z6 P Y0 0 l15 6791530 (Yb 0 l15 []) 3 532116 ⟨[(21,.p 3 0),(131,.mr 2 1),(18,.p 1 0),(17,B true),(8,.p 0 0),(7,I teams),(6,I b),(5,I a),(4,.v (.int .u16 more)),(3,I D),(2,.sl false 3 (draws.map Zh)),(1,I (wn:Int))],[(3,.cells [I 0,I 0] 29),(2,.row 1 3 (draws.map Zh ++ [[I (wn:Int),I (IntKind.i64.wrap (D - 1)),I (IntKind.i64.wrap more)]]) 40),(1,.cells (Ze S) 29),(0,.cells (Zf l) 25)],4,327,[]⟩ K:=by
  refine Zm [] [(532117,[],di0)] (by kernel_rfl) (by kernel_rfl) (by kernel_rfl) (Zt) (Zk ?_ (Zu))<;>dsimp only [Zf,go_sem,rA,rM,rS]
  ·
   refine ⟨_,?_,h532117⟩
   (refine Zi ?_ ?_ ?_ rfl rfl<;>dsimp only [Zc,Zj,Zg,Zf,Ze,Zh,id,go_sem,rA,rM,rS]<;>simp [Zc,Zj,Zg,Zf,Ze,Zh,Za,Zd,KFR,KFL,KF,Zb,mtO,nbr])
 have h7829:Z6 P Y0 0 l15 6791530 (Yb 0 l15 []) 3 7829 ⟨[(131,.mr 2 1),(119,.agg [.sl false 9 (l.wells.map Zc),.sl false 5 (l.legs.map Zj)]),(18,.p 1 0),(17,B true),(8,.p 0 0),(7,I teams),(6,I b),(5,I a),(4,.v (.int .u16 more)),(3,I D),(2,.sl false 3 (draws.map Zh)),(1,I (wn:Int))],[(2,.row 1 3 (draws.map Zh ++ [[I (wn:Int),I (IntKind.i64.wrap (D - 1)),I (IntKind.i64.wrap more)]]) 40),(1,.cells (Ze S) 29),(0,.cells (Zf l) 25)],3,327,[]⟩ K:=by
  refine Zm [] [(24213,[di1,di3,di5,di6,di8,ZcN],ZwD),(532117,[],XO)] (by kernel_rfl) (by kernel_rfl) (by kernel_rfl) (Zt) (Zk ?_ (Zk ?_ (Zu)))<;>dsimp only [Zf,go_sem,rA,rM,rS]
  ·
   refine Zf4 (by simp [FLT,Zqt,ZcP,Ze]) (res:=ZcP T) ?_ ?_
   . dsimp only [go_sem,rA,rM,rS]
     exact hC
   dsimp only [ZcP,Ze,go_sem,rA,rM,rS]
   refine ⟨_,?_,h24213⟩
   (refine Zi ?_ ?_ ?_ rfl rfl<;>dsimp only [Zc,Zj,Zg,Zf,Ze,Zh,id,go_sem,rA,rM,rS]<;>simp [Zc,Zj,Zg,Zf,Ze,Zh,Za,Zd,KFR,KFL,KF,Zb,mtO,nbr])
  ·
   refine ⟨_,?_,h532117⟩
   (refine Zi ?_ ?_ ?_ rfl rfl<;>dsimp only [Zc,Zj,Zg,Zf,Ze,Zh,id,go_sem,rA,rM,rS]<;>simp [Zc,Zj,Zg,Zf,Ze,Zh,Za,Zd,KFR,KFL,KF,Zb,mtO,nbr])
 have h528005:Z6 P Y0 0 l15 6791530 (Yb 0 l15 []) 4 528005 ⟨[(21,.p 2 0),(130,.sl true 3 [[I (wn:Int),I (IntKind.i64.wrap (D - 1)),I (IntKind.i64.wrap more)]]),(121,.sl true 3 []),(119,.agg [.sl false 9 (l.wells.map Zc),.sl false 5 (l.legs.map Zj)]),(18,.p 1 0),(17,B true),(8,.p 0 0),(7,I teams),(6,I b),(5,I a),(4,.v (.int .u16 more)),(3,I D),(2,.sl false 3 (draws.map Zh)),(1,I (wn:Int))],[(2,.cells [I 0,I 0] 29),(1,.cells (Ze S) 29),(0,.cells (Zf l) 25)],3,327,[]⟩ K:=by
  refine Zm [] [(528021,[di3],di4)] (by kernel_rfl) (by kernel_rfl) (by kernel_rfl) (Zt) (Zk ?_ (Zu))<;>dsimp only [Zf,go_sem,rA,rM,rS]
  ·
   refine ⟨by simp only [List.length_map];omega,?_⟩
   dsimp only [go_sem,rA,rM,rS]
   refine ⟨_,ZfM [0,1,3,2] ?_ ?_ ?_ rfl rfl rfl,h528021⟩<;>dsimp only [go_sem,rA,rM,rS]<;>simp [Zc,Zj,Zg,Zf,Ze,Zh,Za,Zd,KFR,KFL,KF,Zb,mtO,nbr]<;>repeat first | exact Zb (by simp [Zc,Zj,Zg,Zf,Ze,Zh,Za,Zd,KFR,KFL,KF]) | refine ⟨Zb (by simp [Zc,Zj,Zg,Zf,Ze,Zh,Za,Zd,KFR,KFL,KF]),?_⟩
 have h528020:Z6 P Y0 0 l15 6791530 (Yb 0 l15 []) 4 528020 ⟨[(21,.p 3 0),(130,.sl true 3 [[I (wn:Int),I (IntKind.i64.wrap (D - 1)),I (IntKind.i64.wrap more)]]),(123,.mr 2 0),(18,.p 1 0),(17,B true),(8,.p 0 0),(7,I teams),(6,I b),(5,I a),(4,.v (.int .u16 more)),(3,I D),(2,.sl false 3 (draws.map Zh)),(1,I (wn:Int))],[(3,.cells [I 0,I 0] 29),(2,.row 0 3 (draws.map Zh) 40),(1,.cells (Ze S) 29),(0,.cells (Zf l) 25)],4,327,[]⟩ K:=by
  refine Zm [] [(528021,[],di0),(532116,[di3,di5,di6,di8],ZtX)] (by kernel_rfl) (by kernel_rfl) (by kernel_rfl) (Zt) (Zk ?_ (Zk ?_ (Zu)))<;>dsimp only [Zf,go_sem,rA,rM,rS]
  ·
   refine ⟨_,?_,h528021⟩
   (refine Zi ?_ ?_ ?_ rfl rfl<;>dsimp only [Zc,Zj,Zg,Zf,Ze,Zh,id,go_sem,rA,rM,rS]<;>simp [Zc,Zj,Zg,Zf,Ze,Zh,Za,Zd,KFR,KFL,KF,Zb,mtO,nbr])
  ·
   refine ⟨by simp [Yi,VS,Zc8],by simp only [List.length_map];simp;omega,?_⟩
   dsimp only [go_sem,rA,rM,rS]
   refine ⟨_,?_,h532116⟩
   (refine Zi ?_ ?_ ?_ rfl rfl<;>dsimp only [Zc,Zj,Zg,Zf,Ze,Zh,id,go_sem,rA,rM,rS]<;>simp [Zc,Zj,Zg,Zf,Ze,Zh,Za,Zd,KFR,KFL,KF,Zb,mtO,nbr])
 have h525973:Z6 P Y0 0 l15 6791530 (Yb 0 l15 []) 4 525973 ⟨[(21,.p 3 0),(129,.agg [I (wn:Int),I (IntKind.i64.wrap (D - 1)),I (IntKind.i64.wrap more)]),(123,.mr 2 0),(119,.agg [.sl false 9 (l.wells.map Zc),.sl false 5 (l.legs.map Zj)]),(18,.p 1 0),(17,B true),(8,.p 0 0),(7,I teams),(6,I b),(5,I a),(4,.v (.int .u16 more)),(3,I D),(2,.sl false 3 (draws.map Zh)),(1,I (wn:Int))],[(3,.cells [I 0,I 0] 29),(2,.row 0 3 (draws.map Zh) 40),(1,.cells (Ze S) 29),(0,.cells (Zf l) 25)],4,327,[]⟩ K:=by
  refine Zm [] [(528021,[di5,di6,di8],ZdS)] (by kernel_rfl) (by kernel_rfl) (by kernel_rfl) (Zt) (Zk ?_ (Zu))<;>dsimp only [Zf,go_sem,rA,rM,rS]
  ·
   refine ⟨_,?_,h528021⟩
   (refine Zi ?_ ?_ ?_ rfl rfl<;>dsimp only [Zc,Zj,Zg,Zf,Ze,Zh,id,go_sem,rA,rM,rS]<;>simp [Zc,Zj,Zg,Zf,Ze,Zh,Za,Zd,KFR,KFL,KF,Zb,mtO,nbr])
 have h3733:Z6 P Y0 0 l15 6791530 (Yb 0 l15 []) 4 3733 ⟨[(130,.sl true 3 [[I (wn:Int),I (IntKind.i64.wrap (D - 1)),I (IntKind.i64.wrap more)]]),(123,.mr 2 0),(119,.agg [.sl false 9 (l.wells.map Zc),.sl false 5 (l.legs.map Zj)]),(18,.p 1 0),(17,B true),(8,.p 0 0),(7,I teams),(6,I b),(5,I a),(4,.v (.int .u16 more)),(3,I D),(2,.sl false 3 (draws.map Zh)),(1,I (wn:Int))],[(2,.row 0 3 (draws.map Zh) 40),(1,.cells (Ze S) 29),(0,.cells (Zf l) 25)],3,327,[]⟩ K:=by
  refine Zm [] [(7829,[di3,di5,di6,di8],ZtX),(528021,[],XO)] (by kernel_rfl) (by kernel_rfl) (by kernel_rfl) (Zt) (Zk ?_ (Zk ?_ (Zu)))<;>dsimp only [Zf,go_sem,rA,rM,rS]
  ·
   refine ⟨by simp [Yi,VS,Zc8],by simp only [List.length_map];simp;omega,?_⟩
   dsimp only [go_sem,rA,rM,rS]
   refine ⟨_,?_,h7829⟩
   (refine Zi ?_ ?_ ?_ rfl rfl<;>dsimp only [Zc,Zj,Zg,Zf,Ze,Zh,id,go_sem,rA,rM,rS]<;>simp [Zc,Zj,Zg,Zf,Ze,Zh,Za,Zd,KFR,KFL,KF,Zb,mtO,nbr])
  ·
   refine ⟨_,?_,h528021⟩
   (refine Zi ?_ ?_ ?_ rfl rfl<;>dsimp only [Zc,Zj,Zg,Zf,Ze,Zh,id,go_sem,rA,rM,rS]<;>simp [Zc,Zj,Zg,Zf,Ze,Zh,Za,Zd,KFR,KFL,KF,Zb,mtO,nbr])
 have h7828:Z6 P Y0 0 l15 6791530 (Yb 0 l15 []) 4 7828 ⟨[(131,.mr 2 1),(18,.p 1 0),(17,B true),(8,.p 0 0),(7,I teams),(6,I b),(5,I a),(4,.v (.int .u16 more)),(3,I D),(2,.sl false 3 (draws.map Zh)),(1,I (wn:Int))],[(2,.row 1 3 (draws.map Zh ++ [[I (wn:Int),I (IntKind.i64.wrap (D - 1)),I (IntKind.i64.wrap more)]]) 40),(1,.cells (Ze S) 29),(0,.cells (Zf l) 25)],3,327,[]⟩ K:=by
  refine Zm [] [(7829,[],di0),(532116,[],XO)] (by kernel_rfl) (by kernel_rfl) (by kernel_rfl) (Zt) (Zk ?_ (Zk ?_ (Zu)))<;>dsimp only [Zf,go_sem,rA,rM,rS]
  ·
   refine ⟨_,?_,h7829⟩
   (refine Zi ?_ ?_ ?_ rfl rfl<;>dsimp only [Zc,Zj,Zg,Zf,Ze,Zh,id,go_sem,rA,rM,rS]<;>simp [Zc,Zj,Zg,Zf,Ze,Zh,Za,Zd,KFR,KFL,KF,Zb,mtO,nbr])
  ·
   refine ⟨_,?_,h532116⟩
   (refine Zi ?_ ?_ ?_ rfl rfl<;>dsimp only [Zc,Zj,Zg,Zf,Ze,Zh,id,go_sem,rA,rM,rS]<;>simp [Zc,Zj,Zg,Zf,Ze,Zh,Za,Zd,KFR,KFL,KF,Zb,mtO,nbr])
 have h528004:Z6 P Y0 0 l15 6791530 (Yb 0 l15 []) 5 528004 ⟨[(21,.p 2 0),(130,.sl true 3 [[I (wn:Int),I (IntKind.i64.wrap (D - 1)),I (IntKind.i64.wrap more)]]),(121,.sl true 3 []),(18,.p 1 0),(17,B true),(8,.p 0 0),(7,I teams),(6,I b),(5,I a),(4,.v (.int .u16 more)),(3,I D),(2,.sl false 3 (draws.map Zh)),(1,I (wn:Int))],[(2,.cells [I 0,I 0] 29),(1,.cells (Ze S) 29),(0,.cells (Zf l) 25)],3,327,[]⟩ K:=by
  refine Zm [] [(528005,[],di0),(528020,[di3],di4)] (by kernel_rfl) (by kernel_rfl) (by kernel_rfl) (Zt) (Zk ?_ (Zk ?_ (Zu)))<;>dsimp only [Zf,go_sem,rA,rM,rS]
  ·
   refine ⟨_,?_,h528005⟩
   (refine Zi ?_ ?_ ?_ rfl rfl<;>dsimp only [Zc,Zj,Zg,Zf,Ze,Zh,id,go_sem,rA,rM,rS]<;>simp [Zc,Zj,Zg,Zf,Ze,Zh,Za,Zd,KFR,KFL,KF,Zb,mtO,nbr])
  ·
   refine ⟨by simp only [List.length_map];omega,?_⟩
   dsimp only [go_sem,rA,rM,rS]
   refine ⟨_,ZfM [0,1,3,2] ?_ ?_ ?_ rfl rfl rfl,h528020⟩<;>dsimp only [go_sem,rA,rM,rS]<;>simp [Zc,Zj,Zg,Zf,Ze,Zh,Za,Zd,KFR,KFL,KF,Zb,mtO,nbr]<;>repeat first | exact Zb (by simp [Zc,Zj,Zg,Zf,Ze,Zh,Za,Zd,KFR,KFL,KF]) | refine ⟨Zb (by simp [Zc,Zj,Zg,Zf,Ze,Zh,Za,Zd,KFR,KFL,KF]),?_⟩
 have h3717:Z6 P Y0 0 l15 6791530 (Yb 0 l15 []) 5 3717 ⟨[(130,.sl true 3 [[I (wn:Int),I (IntKind.i64.wrap (D - 1)),I (IntKind.i64.wrap more)]]),(121,.sl true 3 []),(119,.agg [.sl false 9 (l.wells.map Zc),.sl false 5 (l.legs.map Zj)]),(18,.p 1 0),(17,B true),(8,.p 0 0),(7,I teams),(6,I b),(5,I a),(4,.v (.int .u16 more)),(3,I D),(2,.sl false 3 (draws.map Zh)),(1,I (wn:Int))],[(1,.cells (Ze S) 29),(0,.cells (Zf l) 25)],2,327,[]⟩ K:=by
  refine Zm [] [(3733,[di3],di4),(528005,[],XO)] (by kernel_rfl) (by kernel_rfl) (by kernel_rfl) (Zt) (Zk ?_ (Zk ?_ (Zu)))<;>dsimp only [Zf,go_sem,rA,rM,rS]
  ·
   refine ⟨by simp only [List.length_map];omega,?_⟩
   dsimp only [go_sem,rA,rM,rS]
   refine ⟨_,?_,h3733⟩
   (refine Zi ?_ ?_ ?_ rfl rfl<;>dsimp only [Zc,Zj,Zg,Zf,Ze,Zh,id,go_sem,rA,rM,rS]<;>simp [Zc,Zj,Zg,Zf,Ze,Zh,Za,Zd,KFR,KFL,KF,Zb,mtO,nbr])
  ·
   refine ⟨_,?_,h528005⟩
   (refine Zi ?_ ?_ ?_ rfl rfl<;>dsimp only [Zc,Zj,Zg,Zf,Ze,Zh,id,go_sem,rA,rM,rS]<;>simp [Zc,Zj,Zg,Zf,Ze,Zh,Za,Zd,KFR,KFL,KF,Zb,mtO,nbr])
 have h525972:Z6 P Y0 0 l15 6791530 (Yb 0 l15 []) 5 525972 ⟨[(21,.p 3 0),(129,.agg [I (wn:Int),I (IntKind.i64.wrap (D - 1)),I (IntKind.i64.wrap more)]),(123,.mr 2 0),(18,.p 1 0),(17,B true),(8,.p 0 0),(7,I teams),(6,I b),(5,I a),(4,.v (.int .u16 more)),(3,I D),(2,.sl false 3 (draws.map Zh)),(1,I (wn:Int))],[(3,.cells [I 0,I 0] 29),(2,.row 0 3 (draws.map Zh) 40),(1,.cells (Ze S) 29),(0,.cells (Zf l) 25)],4,327,[]⟩ K:=by
  refine Zm [] [(525973,[],di0),(528020,[di5,di6,di8],ZdS)] (by kernel_rfl) (by kernel_rfl) (by kernel_rfl) (Zt) (Zk ?_ (Zk ?_ (Zu)))<;>dsimp only [Zf,go_sem,rA,rM,rS]
  ·
   refine ⟨_,?_,h525973⟩
   (refine Zi ?_ ?_ ?_ rfl rfl<;>dsimp only [Zc,Zj,Zg,Zf,Ze,Zh,id,go_sem,rA,rM,rS]<;>simp [Zc,Zj,Zg,Zf,Ze,Zh,Za,Zd,KFR,KFL,KF,Zb,mtO,nbr])
  ·
   refine ⟨_,?_,h528020⟩
   (refine Zi ?_ ?_ ?_ rfl rfl<;>dsimp only [Zc,Zj,Zg,Zf,Ze,Zh,id,go_sem,rA,rM,rS]<;>simp [Zc,Zj,Zg,Zf,Ze,Zh,Za,Zd,KFR,KFL,KF,Zb,mtO,nbr])
 have h524949:Z6 P Y0 0 l15 6791530 (Yb 0 l15 []) 5 524949 ⟨[(21,.p 3 0),(128,I (IntKind.i64.wrap more)),(126,I (IntKind.i64.wrap (D - 1))),(123,.mr 2 0),(119,.agg [.sl false 9 (l.wells.map Zc),.sl false 5 (l.legs.map Zj)]),(18,.p 1 0),(17,B true),(8,.p 0 0),(7,I teams),(6,I b),(5,I a),(4,.v (.int .u16 more)),(3,I D),(2,.sl false 3 (draws.map Zh)),(1,I (wn:Int))],[(3,.cells [I 0,I 0] 29),(2,.row 0 3 (draws.map Zh) 40),(1,.cells (Ze S) 29),(0,.cells (Zf l) 25)],4,327,[]⟩ K:=by
  refine Zm [] [(525973,[di5,di6,di8],ZdT)] (by kernel_rfl) (by kernel_rfl) (by kernel_rfl) (Zt) (Zk ?_ (Zu))<;>dsimp only [Zf,go_sem,rA,rM,rS]
  ·
   refine ⟨_,?_,h525973⟩
   (refine Zi ?_ ?_ ?_ rfl rfl<;>dsimp only [Zc,Zj,Zg,Zf,Ze,Zh,id,go_sem,rA,rM,rS]<;>simp [Zc,Zj,Zg,Zf,Ze,Zh,Za,Zd,KFR,KFL,KF,Zb,mtO,nbr])
 have h525957:Z6 P Y0 0 l15 6791530 (Yb 0 l15 []) 5 525957 ⟨[(21,.p 2 0),(129,.agg [I (wn:Int),I (IntKind.i64.wrap (D - 1)),I (IntKind.i64.wrap more)]),(121,.sl true 3 []),(119,.agg [.sl false 9 (l.wells.map Zc),.sl false 5 (l.legs.map Zj)]),(18,.p 1 0),(17,B true),(8,.p 0 0),(7,I teams),(6,I b),(5,I a),(4,.v (.int .u16 more)),(3,I D),(2,.sl false 3 (draws.map Zh)),(1,I (wn:Int))],[(2,.cells [I 0,I 0] 29),(1,.cells (Ze S) 29),(0,.cells (Zf l) 25)],3,327,[]⟩ K:=by
  refine Zm [] [(525973,[di3],di4),(528005,[di5,di6,di8],ZdS)] (by kernel_rfl) (by kernel_rfl) (by kernel_rfl) (Zt) (Zk ?_ (Zk ?_ (Zu)))<;>dsimp only [Zf,go_sem,rA,rM,rS]
  ·
   refine ⟨by simp only [List.length_map];omega,?_⟩
   dsimp only [go_sem,rA,rM,rS]
   refine ⟨_,ZfM [0,1,3,2] ?_ ?_ ?_ rfl rfl rfl,h525973⟩<;>dsimp only [go_sem,rA,rM,rS]<;>simp [Zc,Zj,Zg,Zf,Ze,Zh,Za,Zd,KFR,KFL,KF,Zb,mtO,nbr]<;>repeat first | exact Zb (by simp [Zc,Zj,Zg,Zf,Ze,Zh,Za,Zd,KFR,KFL,KF]) | refine ⟨Zb (by simp [Zc,Zj,Zg,Zf,Ze,Zh,Za,Zd,KFR,KFL,KF]),?_⟩
  ·
   refine ⟨_,?_,h528005⟩
   (refine Zi ?_ ?_ ?_ rfl rfl<;>dsimp only [Zc,Zj,Zg,Zf,Ze,Zh,id,go_sem,rA,rM,rS]<;>simp [Zc,Zj,Zg,Zf,Ze,Zh,Za,Zd,KFR,KFL,KF,Zb,mtO,nbr])
 have h528001:Z6 P Y0 0 l15 6791530 (Yb 0 l15 []) 5 528001 ⟨[(21,.p 2 0),(130,.sl true 3 [[I (wn:Int),I (IntKind.i64.wrap (D - 1)),I (IntKind.i64.wrap more)]]),(119,.agg [.sl false 9 (l.wells.map Zc),.sl false 5 (l.legs.map Zj)]),(18,.p 1 0),(17,B true),(8,.p 0 0),(7,I teams),(6,I b),(5,I a),(4,.v (.int .u16 more)),(3,I D),(2,.sl false 3 (draws.map Zh)),(1,I (wn:Int))],[(2,.cells [I 0,I 0] 29),(1,.cells (Ze S) 29),(0,.cells (Zf l) 25)],3,327,[]⟩ K:=by
  refine Zm [] [(528005,[],di2)] (by kernel_rfl) (by kernel_rfl) (by kernel_rfl) (Zt) (Zk ?_ (Zu))<;>dsimp only [Zf,go_sem,rA,rM,rS]
  ·
   refine ⟨_,?_,h528005⟩
   (refine Zi ?_ ?_ ?_ rfl rfl<;>dsimp only [Zc,Zj,Zg,Zf,Ze,Zh,id,go_sem,rA,rM,rS]<;>simp [Zc,Zj,Zg,Zf,Ze,Zh,Za,Zd,KFR,KFL,KF,Zb,mtO,nbr])
 have h1685:Z6 P Y0 0 l15 6791530 (Yb 0 l15 []) 5 1685 ⟨[(129,.agg [I (wn:Int),I (IntKind.i64.wrap (D - 1)),I (IntKind.i64.wrap more)]),(123,.mr 2 0),(119,.agg [.sl false 9 (l.wells.map Zc),.sl false 5 (l.legs.map Zj)]),(18,.p 1 0),(17,B true),(8,.p 0 0),(7,I teams),(6,I b),(5,I a),(4,.v (.int .u16 more)),(3,I D),(2,.sl false 3 (draws.map Zh)),(1,I (wn:Int))],[(2,.row 0 3 (draws.map Zh) 40),(1,.cells (Ze S) 29),(0,.cells (Zf l) 25)],3,327,[]⟩ K:=by
  refine Zm [] [(3733,[di5,di6,di8],ZdS),(525973,[],XO)] (by kernel_rfl) (by kernel_rfl) (by kernel_rfl) (Zt) (Zk ?_ (Zk ?_ (Zu)))<;>dsimp only [Zf,go_sem,rA,rM,rS]
  ·
   refine ⟨_,?_,h3733⟩
   (refine Zi ?_ ?_ ?_ rfl rfl<;>dsimp only [Zc,Zj,Zg,Zf,Ze,Zh,id,go_sem,rA,rM,rS]<;>simp [Zc,Zj,Zg,Zf,Ze,Zh,Za,Zd,KFR,KFL,KF,Zb,mtO,nbr])
  ·
   refine ⟨_,?_,h525973⟩
   (refine Zi ?_ ?_ ?_ rfl rfl<;>dsimp only [Zc,Zj,Zg,Zf,Ze,Zh,id,go_sem,rA,rM,rS]<;>simp [Zc,Zj,Zg,Zf,Ze,Zh,Za,Zd,KFR,KFL,KF,Zb,mtO,nbr])
 have h3732:Z6 P Y0 0 l15 6791530 (Yb 0 l15 []) 5 3732 ⟨[(130,.sl true 3 [[I (wn:Int),I (IntKind.i64.wrap (D - 1)),I (IntKind.i64.wrap more)]]),(123,.mr 2 0),(18,.p 1 0),(17,B true),(8,.p 0 0),(7,I teams),(6,I b),(5,I a),(4,.v (.int .u16 more)),(3,I D),(2,.sl false 3 (draws.map Zh)),(1,I (wn:Int))],[(2,.row 0 3 (draws.map Zh) 40),(1,.cells (Ze S) 29),(0,.cells (Zf l) 25)],3,327,[]⟩ K:=by
  refine Zm [] [(3733,[],di0),(7828,[di3,di5,di6,di8],ZtX),(528020,[],XO)] (by kernel_rfl) (by kernel_rfl) (by kernel_rfl) (Zt) (Zk ?_ (Zk ?_ (Zk ?_ (Zu))))<;>dsimp only [Zf,go_sem,rA,rM,rS]
  ·
   refine ⟨_,?_,h3733⟩
   (refine Zi ?_ ?_ ?_ rfl rfl<;>dsimp only [Zc,Zj,Zg,Zf,Ze,Zh,id,go_sem,rA,rM,rS]<;>simp [Zc,Zj,Zg,Zf,Ze,Zh,Za,Zd,KFR,KFL,KF,Zb,mtO,nbr])
  ·
   refine ⟨by simp [Yi,VS,Zc8],by simp only [List.length_map];simp;omega,?_⟩
   dsimp only [go_sem,rA,rM,rS]
   refine ⟨_,?_,h7828⟩
   (refine Zi ?_ ?_ ?_ rfl rfl<;>dsimp only [Zc,Zj,Zg,Zf,Ze,Zh,id,go_sem,rA,rM,rS]<;>simp [Zc,Zj,Zg,Zf,Ze,Zh,Za,Zd,KFR,KFL,KF,Zb,mtO,nbr])
  ·
   refine ⟨_,?_,h528020⟩
   (refine Zi ?_ ?_ ?_ rfl rfl<;>dsimp only [Zc,Zj,Zg,Zf,Ze,Zh,id,go_sem,rA,rM,rS]<;>simp [Zc,Zj,Zg,Zf,Ze,Zh,Za,Zd,KFR,KFL,KF,Zb,mtO,nbr])
 have h524821:Z6 P Y0 0 l15 6791530 (Yb 0 l15 []) 6 524821 ⟨[(21,.p 3 0),(128,I (IntKind.i64.wrap more)),(123,.mr 2 0),(119,.agg [.sl false 9 (l.wells.map Zc),.sl false 5 (l.legs.map Zj)]),(18,.p 1 0),(17,B true),(8,.p 0 0),(7,I teams),(6,I b),(5,I a),(4,.v (.int .u16 more)),(3,I D),(2,.sl false 3 (draws.map Zh)),(1,I (wn:Int))],[(3,.cells [I 0,I 0] 29),(2,.row 0 3 (draws.map Zh) 40),(1,.cells (Ze S) 29),(0,.cells (Zf l) 25)],4,327,[]⟩ K:=by
  refine Zm [] [(524949,[di6],di7)] (by kernel_rfl) (by kernel_rfl) (by kernel_rfl) (Zt) (Zk ?_ (Zu))<;>dsimp only [Zf,go_sem,rA,rM,rS]
  ·
   refine ⟨_,?_,h524949⟩
   (refine Zi ?_ ?_ ?_ rfl rfl<;>dsimp only [Zc,Zj,Zg,Zf,Ze,Zh,id,go_sem,rA,rM,rS]<;>simp [Zc,Zj,Zg,Zf,Ze,Zh,Za,Zd,KFR,KFL,KF,Zb,mtO,nbr])
 have h525956:Z6 P Y0 0 l15 6791530 (Yb 0 l15 []) 6 525956 ⟨[(21,.p 2 0),(129,.agg [I (wn:Int),I (IntKind.i64.wrap (D - 1)),I (IntKind.i64.wrap more)]),(121,.sl true 3 []),(18,.p 1 0),(17,B true),(8,.p 0 0),(7,I teams),(6,I b),(5,I a),(4,.v (.int .u16 more)),(3,I D),(2,.sl false 3 (draws.map Zh)),(1,I (wn:Int))],[(2,.cells [I 0,I 0] 29),(1,.cells (Ze S) 29),(0,.cells (Zf l) 25)],3,327,[]⟩ K:=by
  refine Zm [] [(525957,[],di0),(525972,[di3],di4),(528004,[di5,di6,di8],ZdS)] (by kernel_rfl) (by kernel_rfl) (by kernel_rfl) (Zt) (Zk ?_ (Zk ?_ (Zk ?_ (Zu))))<;>dsimp only [Zf,go_sem,rA,rM,rS]
  ·
   refine ⟨_,?_,h525957⟩
   (refine Zi ?_ ?_ ?_ rfl rfl<;>dsimp only [Zc,Zj,Zg,Zf,Ze,Zh,id,go_sem,rA,rM,rS]<;>simp [Zc,Zj,Zg,Zf,Ze,Zh,Za,Zd,KFR,KFL,KF,Zb,mtO,nbr])
  ·
   refine ⟨by simp only [List.length_map];omega,?_⟩
   dsimp only [go_sem,rA,rM,rS]
   refine ⟨_,ZfM [0,1,3,2] ?_ ?_ ?_ rfl rfl rfl,h525972⟩<;>dsimp only [go_sem,rA,rM,rS]<;>simp [Zc,Zj,Zg,Zf,Ze,Zh,Za,Zd,KFR,KFL,KF,Zb,mtO,nbr]<;>repeat first | exact Zb (by simp [Zc,Zj,Zg,Zf,Ze,Zh,Za,Zd,KFR,KFL,KF]) | refine ⟨Zb (by simp [Zc,Zj,Zg,Zf,Ze,Zh,Za,Zd,KFR,KFL,KF]),?_⟩
  ·
   refine ⟨_,?_,h528004⟩
   (refine Zi ?_ ?_ ?_ rfl rfl<;>dsimp only [Zc,Zj,Zg,Zf,Ze,Zh,id,go_sem,rA,rM,rS]<;>simp [Zc,Zj,Zg,Zf,Ze,Zh,Za,Zd,KFR,KFL,KF,Zb,mtO,nbr])
 have h3716:Z6 P Y0 0 l15 6791530 (Yb 0 l15 []) 6 3716 ⟨[(130,.sl true 3 [[I (wn:Int),I (IntKind.i64.wrap (D - 1)),I (IntKind.i64.wrap more)]]),(121,.sl true 3 []),(18,.p 1 0),(17,B true),(8,.p 0 0),(7,I teams),(6,I b),(5,I a),(4,.v (.int .u16 more)),(3,I D),(2,.sl false 3 (draws.map Zh)),(1,I (wn:Int))],[(1,.cells (Ze S) 29),(0,.cells (Zf l) 25)],2,327,[]⟩ K:=by
  refine Zm [] [(3717,[],di0),(3732,[di3],di4),(528004,[],XO)] (by kernel_rfl) (by kernel_rfl) (by kernel_rfl) (Zt) (Zk ?_ (Zk ?_ (Zk ?_ (Zu))))<;>dsimp only [Zf,go_sem,rA,rM,rS]
  ·
   refine ⟨_,?_,h3717⟩
   (refine Zi ?_ ?_ ?_ rfl rfl<;>dsimp only [Zc,Zj,Zg,Zf,Ze,Zh,id,go_sem,rA,rM,rS]<;>simp [Zc,Zj,Zg,Zf,Ze,Zh,Za,Zd,KFR,KFL,KF,Zb,mtO,nbr])
  ·
   refine ⟨by simp only [List.length_map];omega,?_⟩
   dsimp only [go_sem,rA,rM,rS]
   refine ⟨_,?_,h3732⟩
   (refine Zi ?_ ?_ ?_ rfl rfl<;>dsimp only [Zc,Zj,Zg,Zf,Ze,Zh,id,go_sem,rA,rM,rS]<;>simp [Zc,Zj,Zg,Zf,Ze,Zh,Za,Zd,KFR,KFL,KF,Zb,mtO,nbr])
  ·
   refine ⟨_,?_,h528004⟩
   (refine Zi ?_ ?_ ?_ rfl rfl<;>dsimp only [Zc,Zj,Zg,Zf,Ze,Zh,id,go_sem,rA,rM,rS]<;>simp [Zc,Zj,Zg,Zf,Ze,Zh,Za,Zd,KFR,KFL,KF,Zb,mtO,nbr])
 have h524933:Z6 P Y0 0 l15 6791530 (Yb 0 l15 []) 6 524933 ⟨[(21,.p 2 0),(128,I (IntKind.i64.wrap more)),(126,I (IntKind.i64.wrap (D - 1))),(121,.sl true 3 []),(119,.agg [.sl false 9 (l.wells.map Zc),.sl false 5 (l.legs.map Zj)]),(18,.p 1 0),(17,B true),(8,.p 0 0),(7,I teams),(6,I b),(5,I a),(4,.v (.int .u16 more)),(3,I D),(2,.sl false 3 (draws.map Zh)),(1,I (wn:Int))],[(2,.cells [I 0,I 0] 29),(1,.cells (Ze S) 29),(0,.cells (Zf l) 25)],3,327,[]⟩ K:=by
  refine Zm [] [(524949,[di3],di4),(525957,[di5,di6,di8],ZdT)] (by kernel_rfl) (by kernel_rfl) (by kernel_rfl) (Zt) (Zk ?_ (Zk ?_ (Zu)))<;>dsimp only [Zf,go_sem,rA,rM,rS]
  ·
   refine ⟨by simp only [List.length_map];omega,?_⟩
   dsimp only [go_sem,rA,rM,rS]
   refine ⟨_,ZfM [0,1,3,2] ?_ ?_ ?_ rfl rfl rfl,h524949⟩<;>dsimp only [go_sem,rA,rM,rS]<;>simp [Zc,Zj,Zg,Zf,Ze,Zh,Za,Zd,KFR,KFL,KF,Zb,mtO,nbr]<;>repeat first | exact Zb (by simp [Zc,Zj,Zg,Zf,Ze,Zh,Za,Zd,KFR,KFL,KF]) | refine ⟨Zb (by simp [Zc,Zj,Zg,Zf,Ze,Zh,Za,Zd,KFR,KFL,KF]),?_⟩
  ·
   refine ⟨_,?_,h525957⟩
   (refine Zi ?_ ?_ ?_ rfl rfl<;>dsimp only [Zc,Zj,Zg,Zf,Ze,Zh,id,go_sem,rA,rM,rS]<;>simp [Zc,Zj,Zg,Zf,Ze,Zh,Za,Zd,KFR,KFL,KF,Zb,mtO,nbr])
 have h525953:Z6 P Y0 0 l15 6791530 (Yb 0 l15 []) 6 525953 ⟨[(21,.p 2 0),(129,.agg [I (wn:Int),I (IntKind.i64.wrap (D - 1)),I (IntKind.i64.wrap more)]),(119,.agg [.sl false 9 (l.wells.map Zc),.sl false 5 (l.legs.map Zj)]),(18,.p 1 0),(17,B true),(8,.p 0 0),(7,I teams),(6,I b),(5,I a),(4,.v (.int .u16 more)),(3,I D),(2,.sl false 3 (draws.map Zh)),(1,I (wn:Int))],[(2,.cells [I 0,I 0] 29),(1,.cells (Ze S) 29),(0,.cells (Zf l) 25)],3,327,[]⟩ K:=by
  refine Zm [] [(525957,[],di2),(528001,[di5,di6,di8],ZdS)] (by kernel_rfl) (by kernel_rfl) (by kernel_rfl) (Zt) (Zk ?_ (Zk ?_ (Zu)))<;>dsimp only [Zf,go_sem,rA,rM,rS]
  ·
   refine ⟨_,?_,h525957⟩
   (refine Zi ?_ ?_ ?_ rfl rfl<;>dsimp only [Zc,Zj,Zg,Zf,Ze,Zh,id,go_sem,rA,rM,rS]<;>simp [Zc,Zj,Zg,Zf,Ze,Zh,Za,Zd,KFR,KFL,KF,Zb,mtO,nbr])
  ·
   refine ⟨_,?_,h528001⟩
   (refine Zi ?_ ?_ ?_ rfl rfl<;>dsimp only [Zc,Zj,Zg,Zf,Ze,Zh,id,go_sem,rA,rM,rS]<;>simp [Zc,Zj,Zg,Zf,Ze,Zh,Za,Zd,KFR,KFL,KF,Zb,mtO,nbr])
 have h1669:Z6 P Y0 0 l15 6791530 (Yb 0 l15 []) 6 1669 ⟨[(129,.agg [I (wn:Int),I (IntKind.i64.wrap (D - 1)),I (IntKind.i64.wrap more)]),(121,.sl true 3 []),(119,.agg [.sl false 9 (l.wells.map Zc),.sl false 5 (l.legs.map Zj)]),(18,.p 1 0),(17,B true),(8,.p 0 0),(7,I teams),(6,I b),(5,I a),(4,.v (.int .u16 more)),(3,I D),(2,.sl false 3 (draws.map Zh)),(1,I (wn:Int))],[(1,.cells (Ze S) 29),(0,.cells (Zf l) 25)],2,327,[]⟩ K:=by
  refine Zm [] [(1685,[di3],di4),(3717,[di5,di6,di8],ZdS),(525957,[],XO)] (by kernel_rfl) (by kernel_rfl) (by kernel_rfl) (Zt) (Zk ?_ (Zk ?_ (Zk ?_ (Zu))))<;>dsimp only [Zf,go_sem,rA,rM,rS]
  ·
   refine ⟨by simp only [List.length_map];omega,?_⟩
   dsimp only [go_sem,rA,rM,rS]
   refine ⟨_,?_,h1685⟩
   (refine Zi ?_ ?_ ?_ rfl rfl<;>dsimp only [Zc,Zj,Zg,Zf,Ze,Zh,id,go_sem,rA,rM,rS]<;>simp [Zc,Zj,Zg,Zf,Ze,Zh,Za,Zd,KFR,KFL,KF,Zb,mtO,nbr])
  ·
   refine ⟨_,?_,h3717⟩
   (refine Zi ?_ ?_ ?_ rfl rfl<;>dsimp only [Zc,Zj,Zg,Zf,Ze,Zh,id,go_sem,rA,rM,rS]<;>simp [Zc,Zj,Zg,Zf,Ze,Zh,Za,Zd,KFR,KFL,KF,Zb,mtO,nbr])
  ·
   refine ⟨_,?_,h525957⟩
   (refine Zi ?_ ?_ ?_ rfl rfl<;>dsimp only [Zc,Zj,Zg,Zf,Ze,Zh,id,go_sem,rA,rM,rS]<;>simp [Zc,Zj,Zg,Zf,Ze,Zh,Za,Zd,KFR,KFL,KF,Zb,mtO,nbr])
 have h524437:Z6 P Y0 0 l15 6791530 (Yb 0 l15 []) 6 524437 ⟨[(21,.p 3 0),(126,I (IntKind.i64.wrap (D - 1))),(123,.mr 2 0),(119,.agg [.sl false 9 (l.wells.map Zc),.sl false 5 (l.legs.map Zj)]),(18,.p 1 0),(17,B true),(8,.p 0 0),(7,I teams),(6,I b),(5,I a),(4,.v (.int .u16 more)),(3,I D),(2,.sl false 3 (draws.map Zh)),(1,I (wn:Int))],[(3,.cells [I 0,I 0] 29),(2,.row 0 3 (draws.map Zh) 40),(1,.cells (Ze S) 29),(0,.cells (Zf l) 25)],4,327,[]⟩ K:=by
  refine Zm [] [(524949,[di8],di9)] (by kernel_rfl) (by kernel_rfl) (by kernel_rfl) (Zt) (Zk ?_ (Zu))<;>dsimp only [Zf,go_sem,rA,rM,rS]
  ·
   refine ⟨_,?_,h524949⟩
   (refine Zi ?_ ?_ ?_ rfl rfl<;>dsimp only [Zc,Zj,Zg,Zf,Ze,Zh,id,go_sem,rA,rM,rS]<;>simp [Zc,Zj,Zg,Zf,Ze,Zh,Za,Zd,KFR,KFL,KF,Zb,mtO,nbr])
 have h528000:Z6 P Y0 0 l15 6791530 (Yb 0 l15 []) 6 528000 ⟨[(21,.p 2 0),(130,.sl true 3 [[I (wn:Int),I (IntKind.i64.wrap (D - 1)),I (IntKind.i64.wrap more)]]),(18,.p 1 0),(17,B true),(8,.p 0 0),(7,I teams),(6,I b),(5,I a),(4,.v (.int .u16 more)),(3,I D),(2,.sl false 3 (draws.map Zh)),(1,I (wn:Int))],[(2,.cells [I 0,I 0] 29),(1,.cells (Ze S) 29),(0,.cells (Zf l) 25)],3,327,[]⟩ K:=by
  refine Zm [] [(528001,[],di0),(528004,[],di2)] (by kernel_rfl) (by kernel_rfl) (by kernel_rfl) (Zt) (Zk ?_ (Zk ?_ (Zu)))<;>dsimp only [Zf,go_sem,rA,rM,rS]
  ·
   refine ⟨_,?_,h528001⟩
   (refine Zi ?_ ?_ ?_ rfl rfl<;>dsimp only [Zc,Zj,Zg,Zf,Ze,Zh,id,go_sem,rA,rM,rS]<;>simp [Zc,Zj,Zg,Zf,Ze,Zh,Za,Zd,KFR,KFL,KF,Zb,mtO,nbr])
  ·
   refine ⟨_,?_,h528004⟩
   (refine Zi ?_ ?_ ?_ rfl rfl<;>dsimp only [Zc,Zj,Zg,Zf,Ze,Zh,id,go_sem,rA,rM,rS]<;>simp [Zc,Zj,Zg,Zf,Ze,Zh,Za,Zd,KFR,KFL,KF,Zb,mtO,nbr])
 have h3713:Z6 P Y0 0 l15 6791530 (Yb 0 l15 []) 6 3713 ⟨[(130,.sl true 3 [[I (wn:Int),I (IntKind.i64.wrap (D - 1)),I (IntKind.i64.wrap more)]]),(119,.agg [.sl false 9 (l.wells.map Zc),.sl false 5 (l.legs.map Zj)]),(18,.p 1 0),(17,B true),(8,.p 0 0),(7,I teams),(6,I b),(5,I a),(4,.v (.int .u16 more)),(3,I D),(2,.sl false 3 (draws.map Zh)),(1,I (wn:Int))],[(1,.cells (Ze S) 29),(0,.cells (Zf l) 25)],2,327,[]⟩ K:=by
  refine Zm [] [(3717,[],di2),(528001,[],XO)] (by kernel_rfl) (by kernel_rfl) (by kernel_rfl) (Zt) (Zk ?_ (Zk ?_ (Zu)))<;>dsimp only [Zf,go_sem,rA,rM,rS]
  ·
   refine ⟨_,?_,h3717⟩
   (refine Zi ?_ ?_ ?_ rfl rfl<;>dsimp only [Zc,Zj,Zg,Zf,Ze,Zh,id,go_sem,rA,rM,rS]<;>simp [Zc,Zj,Zg,Zf,Ze,Zh,Za,Zd,KFR,KFL,KF,Zb,mtO,nbr])
  ·
   refine ⟨_,?_,h528001⟩
   (refine Zi ?_ ?_ ?_ rfl rfl<;>dsimp only [Zc,Zj,Zg,Zf,Ze,Zh,id,go_sem,rA,rM,rS]<;>simp [Zc,Zj,Zg,Zf,Ze,Zh,Za,Zd,KFR,KFL,KF,Zb,mtO,nbr])
 have h524948:Z6 P Y0 0 l15 6791530 (Yb 0 l15 []) 6 524948 ⟨[(21,.p 3 0),(128,I (IntKind.i64.wrap more)),(126,I (IntKind.i64.wrap (D - 1))),(123,.mr 2 0),(18,.p 1 0),(17,B true),(8,.p 0 0),(7,I teams),(6,I b),(5,I a),(4,.v (.int .u16 more)),(3,I D),(2,.sl false 3 (draws.map Zh)),(1,I (wn:Int))],[(3,.cells [I 0,I 0] 29),(2,.row 0 3 (draws.map Zh) 40),(1,.cells (Ze S) 29),(0,.cells (Zf l) 25)],4,327,[]⟩ K:=by
  refine Zm [] [(524949,[],di0),(525972,[di5,di6,di8],ZdT)] (by kernel_rfl) (by kernel_rfl) (by kernel_rfl) (Zt) (Zk ?_ (Zk ?_ (Zu)))<;>dsimp only [Zf,go_sem,rA,rM,rS]
  ·
   refine ⟨_,?_,h524949⟩
   (refine Zi ?_ ?_ ?_ rfl rfl<;>dsimp only [Zc,Zj,Zg,Zf,Ze,Zh,id,go_sem,rA,rM,rS]<;>simp [Zc,Zj,Zg,Zf,Ze,Zh,Za,Zd,KFR,KFL,KF,Zb,mtO,nbr])
  ·
   refine ⟨_,?_,h525972⟩
   (refine Zi ?_ ?_ ?_ rfl rfl<;>dsimp only [Zc,Zj,Zg,Zf,Ze,Zh,id,go_sem,rA,rM,rS]<;>simp [Zc,Zj,Zg,Zf,Ze,Zh,Za,Zd,KFR,KFL,KF,Zb,mtO,nbr])
 have h661:Z6 P Y0 0 l15 6791530 (Yb 0 l15 []) 6 661 ⟨[(128,I (IntKind.i64.wrap more)),(126,I (IntKind.i64.wrap (D - 1))),(123,.mr 2 0),(119,.agg [.sl false 9 (l.wells.map Zc),.sl false 5 (l.legs.map Zj)]),(18,.p 1 0),(17,B true),(8,.p 0 0),(7,I teams),(6,I b),(5,I a),(4,.v (.int .u16 more)),(3,I D),(2,.sl false 3 (draws.map Zh)),(1,I (wn:Int))],[(2,.row 0 3 (draws.map Zh) 40),(1,.cells (Ze S) 29),(0,.cells (Zf l) 25)],3,327,[]⟩ K:=by
  refine Zm [] [(1685,[di5,di6,di8],ZdT),(524949,[],XO)] (by kernel_rfl) (by kernel_rfl) (by kernel_rfl) (Zt) (Zk ?_ (Zk ?_ (Zu)))<;>dsimp only [Zf,go_sem,rA,rM,rS]
  ·
   refine ⟨_,?_,h1685⟩
   (refine Zi ?_ ?_ ?_ rfl rfl<;>dsimp only [Zc,Zj,Zg,Zf,Ze,Zh,id,go_sem,rA,rM,rS]<;>simp [Zc,Zj,Zg,Zf,Ze,Zh,Za,Zd,KFR,KFL,KF,Zb,mtO,nbr])
  ·
   refine ⟨_,?_,h524949⟩
   (refine Zi ?_ ?_ ?_ rfl rfl<;>dsimp only [Zc,Zj,Zg,Zf,Ze,Zh,id,go_sem,rA,rM,rS]<;>simp [Zc,Zj,Zg,Zf,Ze,Zh,Za,Zd,KFR,KFL,KF,Zb,mtO,nbr])
 have h1684:Z6 P Y0 0 l15 6791530 (Yb 0 l15 []) 6 1684 ⟨[(129,.agg [I (wn:Int),I (IntKind.i64.wrap (D - 1)),I (IntKind.i64.wrap more)]),(123,.mr 2 0),(18,.p 1 0),(17,B true),(8,.p 0 0),(7,I teams),(6,I b),(5,I a),(4,.v (.int .u16 more)),(3,I D),(2,.sl false 3 (draws.map Zh)),(1,I (wn:Int))],[(2,.row 0 3 (draws.map Zh) 40),(1,.cells (Ze S) 29),(0,.cells (Zf l) 25)],3,327,[]⟩ K:=by
  refine Zm [] [(1685,[],di0),(3732,[di5,di6,di8],ZdS),(525972,[],XO)] (by kernel_rfl) (by kernel_rfl) (by kernel_rfl) (Zt) (Zk ?_ (Zk ?_ (Zk ?_ (Zu))))<;>dsimp only [Zf,go_sem,rA,rM,rS]
  ·
   refine ⟨_,?_,h1685⟩
   (refine Zi ?_ ?_ ?_ rfl rfl<;>dsimp only [Zc,Zj,Zg,Zf,Ze,Zh,id,go_sem,rA,rM,rS]<;>simp [Zc,Zj,Zg,Zf,Ze,Zh,Za,Zd,KFR,KFL,KF,Zb,mtO,nbr])
  ·
   refine ⟨_,?_,h3732⟩
   (refine Zi ?_ ?_ ?_ rfl rfl<;>dsimp only [Zc,Zj,Zg,Zf,Ze,Zh,id,go_sem,rA,rM,rS]<;>simp [Zc,Zj,Zg,Zf,Ze,Zh,Za,Zd,KFR,KFL,KF,Zb,mtO,nbr])
  ·
   refine ⟨_,?_,h525972⟩
   (refine Zi ?_ ?_ ?_ rfl rfl<;>dsimp only [Zc,Zj,Zg,Zf,Ze,Zh,id,go_sem,rA,rM,rS]<;>simp [Zc,Zj,Zg,Zf,Ze,Zh,Za,Zd,KFR,KFL,KF,Zb,mtO,nbr])
 have h524805:Z6 P Y0 0 l15 6791530 (Yb 0 l15 []) 7 524805 ⟨[(21,.p 2 0),(128,I (IntKind.i64.wrap more)),(121,.sl true 3 []),(119,.agg [.sl false 9 (l.wells.map Zc),.sl false 5 (l.legs.map Zj)]),(18,.p 1 0),(17,B true),(8,.p 0 0),(7,I teams),(6,I b),(5,I a),(4,.v (.int .u16 more)),(3,I D),(2,.sl false 3 (draws.map Zh)),(1,I (wn:Int))],[(2,.cells [I 0,I 0] 29),(1,.cells (Ze S) 29),(0,.cells (Zf l) 25)],3,327,[]⟩ K:=by
  refine Zm [] [(524821,[di3],di4),(524933,[di6],di7)] (by kernel_rfl) (by kernel_rfl) (by kernel_rfl) (Zt) (Zk ?_ (Zk ?_ (Zu)))<;>dsimp only [Zf,go_sem,rA,rM,rS]
  ·
   refine ⟨by simp only [List.length_map];omega,?_⟩
   dsimp only [go_sem,rA,rM,rS]
   refine ⟨_,ZfM [0,1,3,2] ?_ ?_ ?_ rfl rfl rfl,h524821⟩<;>dsimp only [go_sem,rA,rM,rS]<;>simp [Zc,Zj,Zg,Zf,Ze,Zh,Za,Zd,KFR,KFL,KF,Zb,mtO,nbr]<;>repeat first | exact Zb (by simp [Zc,Zj,Zg,Zf,Ze,Zh,Za,Zd,KFR,KFL,KF]) | refine ⟨Zb (by simp [Zc,Zj,Zg,Zf,Ze,Zh,Za,Zd,KFR,KFL,KF]),?_⟩
  ·
   refine ⟨_,?_,h524933⟩
   (refine Zi ?_ ?_ ?_ rfl rfl<;>dsimp only [Zc,Zj,Zg,Zf,Ze,Zh,id,go_sem,rA,rM,rS]<;>simp [Zc,Zj,Zg,Zf,Ze,Zh,Za,Zd,KFR,KFL,KF,Zb,mtO,nbr])
 have h533:Z6 P Y0 0 l15 6791530 (Yb 0 l15 []) 7 533 ⟨[(128,I (IntKind.i64.wrap more)),(123,.mr 2 0),(119,.agg [.sl false 9 (l.wells.map Zc),.sl false 5 (l.legs.map Zj)]),(18,.p 1 0),(17,B true),(8,.p 0 0),(7,I teams),(6,I b),(5,I a),(4,.v (.int .u16 more)),(3,I D),(2,.sl false 3 (draws.map Zh)),(1,I (wn:Int))],[(2,.row 0 3 (draws.map Zh) 40),(1,.cells (Ze S) 29),(0,.cells (Zf l) 25)],3,327,[]⟩ K:=by
  refine Zm [] [(661,[di6],di7),(524821,[],XO)] (by kernel_rfl) (by kernel_rfl) (by kernel_rfl) (Zt) (Zk ?_ (Zk ?_ (Zu)))<;>dsimp only [Zf,go_sem,rA,rM,rS]
  ·
   refine ⟨_,?_,h661⟩
   (refine Zi ?_ ?_ ?_ rfl rfl<;>dsimp only [Zc,Zj,Zg,Zf,Ze,Zh,id,go_sem,rA,rM,rS]<;>simp [Zc,Zj,Zg,Zf,Ze,Zh,Za,Zd,KFR,KFL,KF,Zb,mtO,nbr])
  ·
   refine ⟨_,?_,h524821⟩
   (refine Zi ?_ ?_ ?_ rfl rfl<;>dsimp only [Zc,Zj,Zg,Zf,Ze,Zh,id,go_sem,rA,rM,rS]<;>simp [Zc,Zj,Zg,Zf,Ze,Zh,Za,Zd,KFR,KFL,KF,Zb,mtO,nbr])
 have h524309:Z6 P Y0 0 l15 6791530 (Yb 0 l15 []) 7 524309 ⟨[(21,.p 3 0),(123,.mr 2 0),(119,.agg [.sl false 9 (l.wells.map Zc),.sl false 5 (l.legs.map Zj)]),(18,.p 1 0),(17,B true),(8,.p 0 0),(7,I teams),(6,I b),(5,I a),(4,.v (.int .u16 more)),(3,I D),(2,.sl false 3 (draws.map Zh)),(1,I (wn:Int))],[(3,.cells [I 0,I 0] 29),(2,.row 0 3 (draws.map Zh) 40),(1,.cells (Ze S) 29),(0,.cells (Zf l) 25)],4,327,[]⟩ K:=by
  refine Zm [] [(524437,[di6],di7),(524821,[di8],di9)] (by kernel_rfl) (by kernel_rfl) (by kernel_rfl) (Zt) (Zk ?_ (Zk ?_ (Zu)))<;>dsimp only [Zf,go_sem,rA,rM,rS]
  ·
   refine ⟨_,?_,h524437⟩
   (refine Zi ?_ ?_ ?_ rfl rfl<;>dsimp only [Zc,Zj,Zg,Zf,Ze,Zh,id,go_sem,rA,rM,rS]<;>simp [Zc,Zj,Zg,Zf,Ze,Zh,Za,Zd,KFR,KFL,KF,Zb,mtO,nbr])
  ·
   refine ⟨_,?_,h524821⟩
   (refine Zi ?_ ?_ ?_ rfl rfl<;>dsimp only [Zc,Zj,Zg,Zf,Ze,Zh,id,go_sem,rA,rM,rS]<;>simp [Zc,Zj,Zg,Zf,Ze,Zh,Za,Zd,KFR,KFL,KF,Zb,mtO,nbr])
 have h524820:Z6 P Y0 0 l15 6791530 (Yb 0 l15 []) 7 524820 ⟨[(21,.p 3 0),(128,I (IntKind.i64.wrap more)),(123,.mr 2 0),(18,.p 1 0),(17,B true),(8,.p 0 0),(7,I teams),(6,I b),(5,I a),(4,.v (.int .u16 more)),(3,I D),(2,.sl false 3 (draws.map Zh)),(1,I (wn:Int))],[(3,.cells [I 0,I 0] 29),(2,.row 0 3 (draws.map Zh) 40),(1,.cells (Ze S) 29),(0,.cells (Zf l) 25)],4,327,[]⟩ K:=by
  refine Zm [] [(524821,[],di0),(524948,[di6],di7)] (by kernel_rfl) (by kernel_rfl) (by kernel_rfl) (Zt) (Zk ?_ (Zk ?_ (Zu)))<;>dsimp only [Zf,go_sem,rA,rM,rS]
  ·
   refine ⟨_,?_,h524821⟩
   (refine Zi ?_ ?_ ?_ rfl rfl<;>dsimp only [Zc,Zj,Zg,Zf,Ze,Zh,id,go_sem,rA,rM,rS]<;>simp [Zc,Zj,Zg,Zf,Ze,Zh,Za,Zd,KFR,KFL,KF,Zb,mtO,nbr])
  ·
   refine ⟨_,?_,h524948⟩
   (refine Zi ?_ ?_ ?_ rfl rfl<;>dsimp only [Zc,Zj,Zg,Zf,Ze,Zh,id,go_sem,rA,rM,rS]<;>simp [Zc,Zj,Zg,Zf,Ze,Zh,Za,Zd,KFR,KFL,KF,Zb,mtO,nbr])
 have h524932:Z6 P Y0 0 l15 6791530 (Yb 0 l15 []) 7 524932 ⟨[(21,.p 2 0),(128,I (IntKind.i64.wrap more)),(126,I (IntKind.i64.wrap (D - 1))),(121,.sl true 3 []),(18,.p 1 0),(17,B true),(8,.p 0 0),(7,I teams),(6,I b),(5,I a),(4,.v (.int .u16 more)),(3,I D),(2,.sl false 3 (draws.map Zh)),(1,I (wn:Int))],[(2,.cells [I 0,I 0] 29),(1,.cells (Ze S) 29),(0,.cells (Zf l) 25)],3,327,[]⟩ K:=by
  refine Zm [] [(524933,[],di0),(524948,[di3],di4),(525956,[di5,di6,di8],ZdT)] (by kernel_rfl) (by kernel_rfl) (by kernel_rfl) (Zt) (Zk ?_ (Zk ?_ (Zk ?_ (Zu))))<;>dsimp only [Zf,go_sem,rA,rM,rS]
  ·
   refine ⟨_,?_,h524933⟩
   (refine Zi ?_ ?_ ?_ rfl rfl<;>dsimp only [Zc,Zj,Zg,Zf,Ze,Zh,id,go_sem,rA,rM,rS]<;>simp [Zc,Zj,Zg,Zf,Ze,Zh,Za,Zd,KFR,KFL,KF,Zb,mtO,nbr])
  ·
   refine ⟨by simp only [List.length_map];omega,?_⟩
   dsimp only [go_sem,rA,rM,rS]
   refine ⟨_,ZfM [0,1,3,2] ?_ ?_ ?_ rfl rfl rfl,h524948⟩<;>dsimp only [go_sem,rA,rM,rS]<;>simp [Zc,Zj,Zg,Zf,Ze,Zh,Za,Zd,KFR,KFL,KF,Zb,mtO,nbr]<;>repeat first | exact Zb (by simp [Zc,Zj,Zg,Zf,Ze,Zh,Za,Zd,KFR,KFL,KF]) | refine ⟨Zb (by simp [Zc,Zj,Zg,Zf,Ze,Zh,Za,Zd,KFR,KFL,KF]),?_⟩
  ·
   refine ⟨_,?_,h525956⟩
   (refine Zi ?_ ?_ ?_ rfl rfl<;>dsimp only [Zc,Zj,Zg,Zf,Ze,Zh,id,go_sem,rA,rM,rS]<;>simp [Zc,Zj,Zg,Zf,Ze,Zh,Za,Zd,KFR,KFL,KF,Zb,mtO,nbr])
 have h524929:Z6 P Y0 0 l15 6791530 (Yb 0 l15 []) 7 524929 ⟨[(21,.p 2 0),(128,I (IntKind.i64.wrap more)),(126,I (IntKind.i64.wrap (D - 1))),(119,.agg [.sl false 9 (l.wells.map Zc),.sl false 5 (l.legs.map Zj)]),(18,.p 1 0),(17,B true),(8,.p 0 0),(7,I teams),(6,I b),(5,I a),(4,.v (.int .u16 more)),(3,I D),(2,.sl false 3 (draws.map Zh)),(1,I (wn:Int))],[(2,.cells [I 0,I 0] 29),(1,.cells (Ze S) 29),(0,.cells (Zf l) 25)],3,327,[]⟩ K:=by
  refine Zm [] [(524933,[],di2),(525953,[di5,di6,di8],ZdT)] (by kernel_rfl) (by kernel_rfl) (by kernel_rfl) (Zt) (Zk ?_ (Zk ?_ (Zu)))<;>dsimp only [Zf,go_sem,rA,rM,rS]
  ·
   refine ⟨_,?_,h524933⟩
   (refine Zi ?_ ?_ ?_ rfl rfl<;>dsimp only [Zc,Zj,Zg,Zf,Ze,Zh,id,go_sem,rA,rM,rS]<;>simp [Zc,Zj,Zg,Zf,Ze,Zh,Za,Zd,KFR,KFL,KF,Zb,mtO,nbr])
  ·
   refine ⟨_,?_,h525953⟩
   (refine Zi ?_ ?_ ?_ rfl rfl<;>dsimp only [Zc,Zj,Zg,Zf,Ze,Zh,id,go_sem,rA,rM,rS]<;>simp [Zc,Zj,Zg,Zf,Ze,Zh,Za,Zd,KFR,KFL,KF,Zb,mtO,nbr])
 have h524421:Z6 P Y0 0 l15 6791530 (Yb 0 l15 []) 7 524421 ⟨[(21,.p 2 0),(126,I (IntKind.i64.wrap (D - 1))),(121,.sl true 3 []),(119,.agg [.sl false 9 (l.wells.map Zc),.sl false 5 (l.legs.map Zj)]),(18,.p 1 0),(17,B true),(8,.p 0 0),(7,I teams),(6,I b),(5,I a),(4,.v (.int .u16 more)),(3,I D),(2,.sl false 3 (draws.map Zh)),(1,I (wn:Int))],[(2,.cells [I 0,I 0] 29),(1,.cells (Ze S) 29),(0,.cells (Zf l) 25)],3,327,[]⟩ K:=by
  refine Zm [] [(524437,[di3],di4),(524933,[di8],di9)] (by kernel_rfl) (by kernel_rfl) (by kernel_rfl) (Zt) (Zk ?_ (Zk ?_ (Zu)))<;>dsimp only [Zf,go_sem,rA,rM,rS]
  ·
   refine ⟨by simp only [List.length_map];omega,?_⟩
   dsimp only [go_sem,rA,rM,rS]
   refine ⟨_,ZfM [0,1,3,2] ?_ ?_ ?_ rfl rfl rfl,h524437⟩<;>dsimp only [go_sem,rA,rM,rS]<;>simp [Zc,Zj,Zg,Zf,Ze,Zh,Za,Zd,KFR,KFL,KF,Zb,mtO,nbr]<;>repeat first | exact Zb (by simp [Zc,Zj,Zg,Zf,Ze,Zh,Za,Zd,KFR,KFL,KF]) | refine ⟨Zb (by simp [Zc,Zj,Zg,Zf,Ze,Zh,Za,Zd,KFR,KFL,KF]),?_⟩
  ·
   refine ⟨_,?_,h524933⟩
   (refine Zi ?_ ?_ ?_ rfl rfl<;>dsimp only [Zc,Zj,Zg,Zf,Ze,Zh,id,go_sem,rA,rM,rS]<;>simp [Zc,Zj,Zg,Zf,Ze,Zh,Za,Zd,KFR,KFL,KF,Zb,mtO,nbr])
 have h645:Z6 P Y0 0 l15 6791530 (Yb 0 l15 []) 7 645 ⟨[(128,I (IntKind.i64.wrap more)),(126,I (IntKind.i64.wrap (D - 1))),(121,.sl true 3 []),(119,.agg [.sl false 9 (l.wells.map Zc),.sl false 5 (l.legs.map Zj)]),(18,.p 1 0),(17,B true),(8,.p 0 0),(7,I teams),(6,I b),(5,I a),(4,.v (.int .u16 more)),(3,I D),(2,.sl false 3 (draws.map Zh)),(1,I (wn:Int))],[(1,.cells (Ze S) 29),(0,.cells (Zf l) 25)],2,327,[]⟩ K:=by
  refine Zm [] [(661,[di3],di4),(1669,[di5,di6,di8],ZdT),(524933,[],XO)] (by kernel_rfl) (by kernel_rfl) (by kernel_rfl) (Zt) (Zk ?_ (Zk ?_ (Zk ?_ (Zu))))<;>dsimp only [Zf,go_sem,rA,rM,rS]
  ·
   refine ⟨by simp only [List.length_map];omega,?_⟩
   dsimp only [go_sem,rA,rM,rS]
   refine ⟨_,?_,h661⟩
   (refine Zi ?_ ?_ ?_ rfl rfl<;>dsimp only [Zc,Zj,Zg,Zf,Ze,Zh,id,go_sem,rA,rM,rS]<;>simp [Zc,Zj,Zg,Zf,Ze,Zh,Za,Zd,KFR,KFL,KF,Zb,mtO,nbr])
  ·
   refine ⟨_,?_,h1669⟩
   (refine Zi ?_ ?_ ?_ rfl rfl<;>dsimp only [Zc,Zj,Zg,Zf,Ze,Zh,id,go_sem,rA,rM,rS]<;>simp [Zc,Zj,Zg,Zf,Ze,Zh,Za,Zd,KFR,KFL,KF,Zb,mtO,nbr])
  ·
   refine ⟨_,?_,h524933⟩
   (refine Zi ?_ ?_ ?_ rfl rfl<;>dsimp only [Zc,Zj,Zg,Zf,Ze,Zh,id,go_sem,rA,rM,rS]<;>simp [Zc,Zj,Zg,Zf,Ze,Zh,Za,Zd,KFR,KFL,KF,Zb,mtO,nbr])
 have h525952:Z6 P Y0 0 l15 6791530 (Yb 0 l15 []) 7 525952 ⟨[(21,.p 2 0),(129,.agg [I (wn:Int),I (IntKind.i64.wrap (D - 1)),I (IntKind.i64.wrap more)]),(18,.p 1 0),(17,B true),(8,.p 0 0),(7,I teams),(6,I b),(5,I a),(4,.v (.int .u16 more)),(3,I D),(2,.sl false 3 (draws.map Zh)),(1,I (wn:Int))],[(2,.cells [I 0,I 0] 29),(1,.cells (Ze S) 29),(0,.cells (Zf l) 25)],3,327,[]⟩ K:=by
  refine Zm [] [(525953,[],di0),(525956,[],di2),(528000,[di5,di6,di8],ZdS)] (by kernel_rfl) (by kernel_rfl) (by kernel_rfl) (Zt) (Zk ?_ (Zk ?_ (Zk ?_ (Zu))))<;>dsimp only [Zf,go_sem,rA,rM,rS]
  ·
   refine ⟨_,?_,h525953⟩
   (refine Zi ?_ ?_ ?_ rfl rfl<;>dsimp only [Zc,Zj,Zg,Zf,Ze,Zh,id,go_sem,rA,rM,rS]<;>simp [Zc,Zj,Zg,Zf,Ze,Zh,Za,Zd,KFR,KFL,KF,Zb,mtO,nbr])
  ·
   refine ⟨_,?_,h525956⟩
   (refine Zi ?_ ?_ ?_ rfl rfl<;>dsimp only [Zc,Zj,Zg,Zf,Ze,Zh,id,go_sem,rA,rM,rS]<;>simp [Zc,Zj,Zg,Zf,Ze,Zh,Za,Zd,KFR,KFL,KF,Zb,mtO,nbr])
  ·
   refine ⟨_,?_,h528000⟩
   (refine Zi ?_ ?_ ?_ rfl rfl<;>dsimp only [Zc,Zj,Zg,Zf,Ze,Zh,id,go_sem,rA,rM,rS]<;>simp [Zc,Zj,Zg,Zf,Ze,Zh,Za,Zd,KFR,KFL,KF,Zb,mtO,nbr])
 have h1665:Z6 P Y0 0 l15 6791530 (Yb 0 l15 []) 7 1665 ⟨[(129,.agg [I (wn:Int),I (IntKind.i64.wrap (D - 1)),I (IntKind.i64.wrap more)]),(119,.agg [.sl false 9 (l.wells.map Zc),.sl false 5 (l.legs.map Zj)]),(18,.p 1 0),(17,B true),(8,.p 0 0),(7,I teams),(6,I b),(5,I a),(4,.v (.int .u16 more)),(3,I D),(2,.sl false 3 (draws.map Zh)),(1,I (wn:Int))],[(1,.cells (Ze S) 29),(0,.cells (Zf l) 25)],2,327,[]⟩ K:=by
  refine Zm [] [(1669,[],di2),(3713,[di5,di6,di8],ZdS),(525953,[],XO)] (by kernel_rfl) (by kernel_rfl) (by kernel_rfl) (Zt) (Zk ?_ (Zk ?_ (Zk ?_ (Zu))))<;>dsimp only [Zf,go_sem,rA,rM,rS]
  ·
   refine ⟨_,?_,h1669⟩
   (refine Zi ?_ ?_ ?_ rfl rfl<;>dsimp only [Zc,Zj,Zg,Zf,Ze,Zh,id,go_sem,rA,rM,rS]<;>simp [Zc,Zj,Zg,Zf,Ze,Zh,Za,Zd,KFR,KFL,KF,Zb,mtO,nbr])
  ·
   refine ⟨_,?_,h3713⟩
   (refine Zi ?_ ?_ ?_ rfl rfl<;>dsimp only [Zc,Zj,Zg,Zf,Ze,Zh,id,go_sem,rA,rM,rS]<;>simp [Zc,Zj,Zg,Zf,Ze,Zh,Za,Zd,KFR,KFL,KF,Zb,mtO,nbr])
  ·
   refine ⟨_,?_,h525953⟩
   (refine Zi ?_ ?_ ?_ rfl rfl<;>dsimp only [Zc,Zj,Zg,Zf,Ze,Zh,id,go_sem,rA,rM,rS]<;>simp [Zc,Zj,Zg,Zf,Ze,Zh,Za,Zd,KFR,KFL,KF,Zb,mtO,nbr])
 have h1668:Z6 P Y0 0 l15 6791530 (Yb 0 l15 []) 7 1668 ⟨[(129,.agg [I (wn:Int),I (IntKind.i64.wrap (D - 1)),I (IntKind.i64.wrap more)]),(121,.sl true 3 []),(18,.p 1 0),(17,B true),(8,.p 0 0),(7,I teams),(6,I b),(5,I a),(4,.v (.int .u16 more)),(3,I D),(2,.sl false 3 (draws.map Zh)),(1,I (wn:Int))],[(1,.cells (Ze S) 29),(0,.cells (Zf l) 25)],2,327,[]⟩ K:=by
  refine Zm [] [(1669,[],di0),(1684,[di3],di4),(3716,[di5,di6,di8],ZdS),(525956,[],XO)] (by kernel_rfl) (by kernel_rfl) (by kernel_rfl) (Zt) (Zk ?_ (Zk ?_ (Zk ?_ (Zk ?_ (Zu)))))<;>dsimp only [Zf,go_sem,rA,rM,rS]
  ·
   refine ⟨_,?_,h1669⟩
   (refine Zi ?_ ?_ ?_ rfl rfl<;>dsimp only [Zc,Zj,Zg,Zf,Ze,Zh,id,go_sem,rA,rM,rS]<;>simp [Zc,Zj,Zg,Zf,Ze,Zh,Za,Zd,KFR,KFL,KF,Zb,mtO,nbr])
  ·
   refine ⟨by simp only [List.length_map];omega,?_⟩
   dsimp only [go_sem,rA,rM,rS]
   refine ⟨_,?_,h1684⟩
   (refine Zi ?_ ?_ ?_ rfl rfl<;>dsimp only [Zc,Zj,Zg,Zf,Ze,Zh,id,go_sem,rA,rM,rS]<;>simp [Zc,Zj,Zg,Zf,Ze,Zh,Za,Zd,KFR,KFL,KF,Zb,mtO,nbr])
  ·
   refine ⟨_,?_,h3716⟩
   (refine Zi ?_ ?_ ?_ rfl rfl<;>dsimp only [Zc,Zj,Zg,Zf,Ze,Zh,id,go_sem,rA,rM,rS]<;>simp [Zc,Zj,Zg,Zf,Ze,Zh,Za,Zd,KFR,KFL,KF,Zb,mtO,nbr])
  ·
   refine ⟨_,?_,h525956⟩
   (refine Zi ?_ ?_ ?_ rfl rfl<;>dsimp only [Zc,Zj,Zg,Zf,Ze,Zh,id,go_sem,rA,rM,rS]<;>simp [Zc,Zj,Zg,Zf,Ze,Zh,Za,Zd,KFR,KFL,KF,Zb,mtO,nbr])
 have h524436:Z6 P Y0 0 l15 6791530 (Yb 0 l15 []) 7 524436 ⟨[(21,.p 3 0),(126,I (IntKind.i64.wrap (D - 1))),(123,.mr 2 0),(18,.p 1 0),(17,B true),(8,.p 0 0),(7,I teams),(6,I b),(5,I a),(4,.v (.int .u16 more)),(3,I D),(2,.sl false 3 (draws.map Zh)),(1,I (wn:Int))],[(3,.cells [I 0,I 0] 29),(2,.row 0 3 (draws.map Zh) 40),(1,.cells (Ze S) 29),(0,.cells (Zf l) 25)],4,327,[]⟩ K:=by
  refine Zm [] [(524437,[],di0),(524948,[di8],di9)] (by kernel_rfl) (by kernel_rfl) (by kernel_rfl) (Zt) (Zk ?_ (Zk ?_ (Zu)))<;>dsimp only [Zf,go_sem,rA,rM,rS]
  ·
   refine ⟨_,?_,h524437⟩
   (refine Zi ?_ ?_ ?_ rfl rfl<;>dsimp only [Zc,Zj,Zg,Zf,Ze,Zh,id,go_sem,rA,rM,rS]<;>simp [Zc,Zj,Zg,Zf,Ze,Zh,Za,Zd,KFR,KFL,KF,Zb,mtO,nbr])
  ·
   refine ⟨_,?_,h524948⟩
   (refine Zi ?_ ?_ ?_ rfl rfl<;>dsimp only [Zc,Zj,Zg,Zf,Ze,Zh,id,go_sem,rA,rM,rS]<;>simp [Zc,Zj,Zg,Zf,Ze,Zh,Za,Zd,KFR,KFL,KF,Zb,mtO,nbr])
 have h149:Z6 P Y0 0 l15 6791530 (Yb 0 l15 []) 7 149 ⟨[(126,I (IntKind.i64.wrap (D - 1))),(123,.mr 2 0),(119,.agg [.sl false 9 (l.wells.map Zc),.sl false 5 (l.legs.map Zj)]),(18,.p 1 0),(17,B true),(8,.p 0 0),(7,I teams),(6,I b),(5,I a),(4,.v (.int .u16 more)),(3,I D),(2,.sl false 3 (draws.map Zh)),(1,I (wn:Int))],[(2,.row 0 3 (draws.map Zh) 40),(1,.cells (Ze S) 29),(0,.cells (Zf l) 25)],3,327,[]⟩ K:=by
  refine Zm [] [(661,[di8],di9),(524437,[],XO)] (by kernel_rfl) (by kernel_rfl) (by kernel_rfl) (Zt) (Zk ?_ (Zk ?_ (Zu)))<;>dsimp only [Zf,go_sem,rA,rM,rS]
  ·
   refine ⟨_,?_,h661⟩
   (refine Zi ?_ ?_ ?_ rfl rfl<;>dsimp only [Zc,Zj,Zg,Zf,Ze,Zh,id,go_sem,rA,rM,rS]<;>simp [Zc,Zj,Zg,Zf,Ze,Zh,Za,Zd,KFR,KFL,KF,Zb,mtO,nbr])
  ·
   refine ⟨_,?_,h524437⟩
   (refine Zi ?_ ?_ ?_ rfl rfl<;>dsimp only [Zc,Zj,Zg,Zf,Ze,Zh,id,go_sem,rA,rM,rS]<;>simp [Zc,Zj,Zg,Zf,Ze,Zh,Za,Zd,KFR,KFL,KF,Zb,mtO,nbr])
 have h3712:Z6 P Y0 0 l15 6791530 (Yb 0 l15 []) 7 3712 ⟨[(130,.sl true 3 [[I (wn:Int),I (IntKind.i64.wrap (D - 1)),I (IntKind.i64.wrap more)]]),(18,.p 1 0),(17,B true),(8,.p 0 0),(7,I teams),(6,I b),(5,I a),(4,.v (.int .u16 more)),(3,I D),(2,.sl false 3 (draws.map Zh)),(1,I (wn:Int))],[(1,.cells (Ze S) 29),(0,.cells (Zf l) 25)],2,327,[]⟩ K:=by
  refine Zm [] [(3713,[],di0),(3716,[],di2),(528000,[],XO)] (by kernel_rfl) (by kernel_rfl) (by kernel_rfl) (Zt) (Zk ?_ (Zk ?_ (Zk ?_ (Zu))))<;>dsimp only [Zf,go_sem,rA,rM,rS]
  ·
   refine ⟨_,?_,h3713⟩
   (refine Zi ?_ ?_ ?_ rfl rfl<;>dsimp only [Zc,Zj,Zg,Zf,Ze,Zh,id,go_sem,rA,rM,rS]<;>simp [Zc,Zj,Zg,Zf,Ze,Zh,Za,Zd,KFR,KFL,KF,Zb,mtO,nbr])
  ·
   refine ⟨_,?_,h3716⟩
   (refine Zi ?_ ?_ ?_ rfl rfl<;>dsimp only [Zc,Zj,Zg,Zf,Ze,Zh,id,go_sem,rA,rM,rS]<;>simp [Zc,Zj,Zg,Zf,Ze,Zh,Za,Zd,KFR,KFL,KF,Zb,mtO,nbr])
  ·
   refine ⟨_,?_,h528000⟩
   (refine Zi ?_ ?_ ?_ rfl rfl<;>dsimp only [Zc,Zj,Zg,Zf,Ze,Zh,id,go_sem,rA,rM,rS]<;>simp [Zc,Zj,Zg,Zf,Ze,Zh,Za,Zd,KFR,KFL,KF,Zb,mtO,nbr])
 have h660:Z6 P Y0 0 l15 6791530 (Yb 0 l15 []) 7 660 ⟨[(128,I (IntKind.i64.wrap more)),(126,I (IntKind.i64.wrap (D - 1))),(123,.mr 2 0),(18,.p 1 0),(17,B true),(8,.p 0 0),(7,I teams),(6,I b),(5,I a),(4,.v (.int .u16 more)),(3,I D),(2,.sl false 3 (draws.map Zh)),(1,I (wn:Int))],[(2,.row 0 3 (draws.map Zh) 40),(1,.cells (Ze S) 29),(0,.cells (Zf l) 25)],3,327,[]⟩ K:=by
  refine Zm [] [(661,[],di0),(1684,[di5,di6,di8],ZdT),(524948,[],XO)] (by kernel_rfl) (by kernel_rfl) (by kernel_rfl) (Zt) (Zk ?_ (Zk ?_ (Zk ?_ (Zu))))<;>dsimp only [Zf,go_sem,rA,rM,rS]
  ·
   refine ⟨_,?_,h661⟩
   (refine Zi ?_ ?_ ?_ rfl rfl<;>dsimp only [Zc,Zj,Zg,Zf,Ze,Zh,id,go_sem,rA,rM,rS]<;>simp [Zc,Zj,Zg,Zf,Ze,Zh,Za,Zd,KFR,KFL,KF,Zb,mtO,nbr])
  ·
   refine ⟨_,?_,h1684⟩
   (refine Zi ?_ ?_ ?_ rfl rfl<;>dsimp only [Zc,Zj,Zg,Zf,Ze,Zh,id,go_sem,rA,rM,rS]<;>simp [Zc,Zj,Zg,Zf,Ze,Zh,Za,Zd,KFR,KFL,KF,Zb,mtO,nbr])
  ·
   refine ⟨_,?_,h524948⟩
   (refine Zi ?_ ?_ ?_ rfl rfl<;>dsimp only [Zc,Zj,Zg,Zf,Ze,Zh,id,go_sem,rA,rM,rS]<;>simp [Zc,Zj,Zg,Zf,Ze,Zh,Za,Zd,KFR,KFL,KF,Zb,mtO,nbr])
 have h524801:Z6 P Y0 0 l15 6791530 (Yb 0 l15 []) 8 524801 ⟨[(21,.p 2 0),(128,I (IntKind.i64.wrap more)),(119,.agg [.sl false 9 (l.wells.map Zc),.sl false 5 (l.legs.map Zj)]),(18,.p 1 0),(17,B true),(8,.p 0 0),(7,I teams),(6,I b),(5,I a),(4,.v (.int .u16 more)),(3,I D),(2,.sl false 3 (draws.map Zh)),(1,I (wn:Int))],[(2,.cells [I 0,I 0] 29),(1,.cells (Ze S) 29),(0,.cells (Zf l) 25)],3,327,[]⟩ K:=by
  refine Zm [] [(524805,[],di2),(524929,[di6],di7)] (by kernel_rfl) (by kernel_rfl) (by kernel_rfl) (Zt) (Zk ?_ (Zk ?_ (Zu)))<;>dsimp only [Zf,go_sem,rA,rM,rS]
  ·
   refine ⟨_,?_,h524805⟩
   (refine Zi ?_ ?_ ?_ rfl rfl<;>dsimp only [Zc,Zj,Zg,Zf,Ze,Zh,id,go_sem,rA,rM,rS]<;>simp [Zc,Zj,Zg,Zf,Ze,Zh,Za,Zd,KFR,KFL,KF,Zb,mtO,nbr])
  ·
   refine ⟨_,?_,h524929⟩
   (refine Zi ?_ ?_ ?_ rfl rfl<;>dsimp only [Zc,Zj,Zg,Zf,Ze,Zh,id,go_sem,rA,rM,rS]<;>simp [Zc,Zj,Zg,Zf,Ze,Zh,Za,Zd,KFR,KFL,KF,Zb,mtO,nbr])
 have h524804:Z6 P Y0 0 l15 6791530 (Yb 0 l15 []) 8 524804 ⟨[(21,.p 2 0),(128,I (IntKind.i64.wrap more)),(121,.sl true 3 []),(18,.p 1 0),(17,B true),(8,.p 0 0),(7,I teams),(6,I b),(5,I a),(4,.v (.int .u16 more)),(3,I D),(2,.sl false 3 (draws.map Zh)),(1,I (wn:Int))],[(2,.cells [I 0,I 0] 29),(1,.cells (Ze S) 29),(0,.cells (Zf l) 25)],3,327,[]⟩ K:=by
  refine Zm [] [(524805,[],di0),(524820,[di3],di4),(524932,[di6],di7)] (by kernel_rfl) (by kernel_rfl) (by kernel_rfl) (Zt) (Zk ?_ (Zk ?_ (Zk ?_ (Zu))))<;>dsimp only [Zf,go_sem,rA,rM,rS]
  ·
   refine ⟨_,?_,h524805⟩
   (refine Zi ?_ ?_ ?_ rfl rfl<;>dsimp only [Zc,Zj,Zg,Zf,Ze,Zh,id,go_sem,rA,rM,rS]<;>simp [Zc,Zj,Zg,Zf,Ze,Zh,Za,Zd,KFR,KFL,KF,Zb,mtO,nbr])
  ·
   refine ⟨by simp only [List.length_map];omega,?_⟩
   dsimp only [go_sem,rA,rM,rS]
   refine ⟨_,ZfM [0,1,3,2] ?_ ?_ ?_ rfl rfl rfl,h524820⟩<;>dsimp only [go_sem,rA,rM,rS]<;>simp [Zc,Zj,Zg,Zf,Ze,Zh,Za,Zd,KFR,KFL,KF,Zb,mtO,nbr]<;>repeat first | exact Zb (by simp [Zc,Zj,Zg,Zf,Ze,Zh,Za,Zd,KFR,KFL,KF]) | refine ⟨Zb (by simp [Zc,Zj,Zg,Zf,Ze,Zh,Za,Zd,KFR,KFL,KF]),?_⟩
  ·
   refine ⟨_,?_,h524932⟩
   (refine Zi ?_ ?_ ?_ rfl rfl<;>dsimp only [Zc,Zj,Zg,Zf,Ze,Zh,id,go_sem,rA,rM,rS]<;>simp [Zc,Zj,Zg,Zf,Ze,Zh,Za,Zd,KFR,KFL,KF,Zb,mtO,nbr])
 have h524293:Z6 P Y0 0 l15 6791530 (Yb 0 l15 []) 8 524293 ⟨[(21,.p 2 0),(121,.sl true 3 []),(119,.agg [.sl false 9 (l.wells.map Zc),.sl false 5 (l.legs.map Zj)]),(18,.p 1 0),(17,B true),(8,.p 0 0),(7,I teams),(6,I b),(5,I a),(4,.v (.int .u16 more)),(3,I D),(2,.sl false 3 (draws.map Zh)),(1,I (wn:Int))],[(2,.cells [I 0,I 0] 29),(1,.cells (Ze S) 29),(0,.cells (Zf l) 25)],3,327,[]⟩ K:=by
  refine Zm [] [(524309,[di3],di4),(524421,[di6],di7),(524805,[di8],di9)] (by kernel_rfl) (by kernel_rfl) (by kernel_rfl) (Zt) (Zk ?_ (Zk ?_ (Zk ?_ (Zu))))<;>dsimp only [Zf,go_sem,rA,rM,rS]
  ·
   refine ⟨by simp only [List.length_map];omega,?_⟩
   dsimp only [go_sem,rA,rM,rS]
   refine ⟨_,ZfM [0,1,3,2] ?_ ?_ ?_ rfl rfl rfl,h524309⟩<;>dsimp only [go_sem,rA,rM,rS]<;>simp [Zc,Zj,Zg,Zf,Ze,Zh,Za,Zd,KFR,KFL,KF,Zb,mtO,nbr]<;>repeat first | exact Zb (by simp [Zc,Zj,Zg,Zf,Ze,Zh,Za,Zd,KFR,KFL,KF]) | refine ⟨Zb (by simp [Zc,Zj,Zg,Zf,Ze,Zh,Za,Zd,KFR,KFL,KF]),?_⟩
  ·
   refine ⟨_,?_,h524421⟩
   (refine Zi ?_ ?_ ?_ rfl rfl<;>dsimp only [Zc,Zj,Zg,Zf,Ze,Zh,id,go_sem,rA,rM,rS]<;>simp [Zc,Zj,Zg,Zf,Ze,Zh,Za,Zd,KFR,KFL,KF,Zb,mtO,nbr])
  ·
   refine ⟨_,?_,h524805⟩
   (refine Zi ?_ ?_ ?_ rfl rfl<;>dsimp only [Zc,Zj,Zg,Zf,Ze,Zh,id,go_sem,rA,rM,rS]<;>simp [Zc,Zj,Zg,Zf,Ze,Zh,Za,Zd,KFR,KFL,KF,Zb,mtO,nbr])
 have h517:Z6 P Y0 0 l15 6791530 (Yb 0 l15 []) 8 517 ⟨[(128,I (IntKind.i64.wrap more)),(121,.sl true 3 []),(119,.agg [.sl false 9 (l.wells.map Zc),.sl false 5 (l.legs.map Zj)]),(18,.p 1 0),(17,B true),(8,.p 0 0),(7,I teams),(6,I b),(5,I a),(4,.v (.int .u16 more)),(3,I D),(2,.sl false 3 (draws.map Zh)),(1,I (wn:Int))],[(1,.cells (Ze S) 29),(0,.cells (Zf l) 25)],2,327,[]⟩ K:=by
  refine Zm [] [(533,[di3],di4),(645,[di6],di7),(524805,[],XO)] (by kernel_rfl) (by kernel_rfl) (by kernel_rfl) (Zt) (Zk ?_ (Zk ?_ (Zk ?_ (Zu))))<;>dsimp only [Zf,go_sem,rA,rM,rS]
  ·
   refine ⟨by simp only [List.length_map];omega,?_⟩
   dsimp only [go_sem,rA,rM,rS]
   refine ⟨_,?_,h533⟩
   (refine Zi ?_ ?_ ?_ rfl rfl<;>dsimp only [Zc,Zj,Zg,Zf,Ze,Zh,id,go_sem,rA,rM,rS]<;>simp [Zc,Zj,Zg,Zf,Ze,Zh,Za,Zd,KFR,KFL,KF,Zb,mtO,nbr])
  ·
   refine ⟨_,?_,h645⟩
   (refine Zi ?_ ?_ ?_ rfl rfl<;>dsimp only [Zc,Zj,Zg,Zf,Ze,Zh,id,go_sem,rA,rM,rS]<;>simp [Zc,Zj,Zg,Zf,Ze,Zh,Za,Zd,KFR,KFL,KF,Zb,mtO,nbr])
  ·
   refine ⟨_,?_,h524805⟩
   (refine Zi ?_ ?_ ?_ rfl rfl<;>dsimp only [Zc,Zj,Zg,Zf,Ze,Zh,id,go_sem,rA,rM,rS]<;>simp [Zc,Zj,Zg,Zf,Ze,Zh,Za,Zd,KFR,KFL,KF,Zb,mtO,nbr])
 have h524308:Z6 P Y0 0 l15 6791530 (Yb 0 l15 []) 8 524308 ⟨[(21,.p 3 0),(123,.mr 2 0),(18,.p 1 0),(17,B true),(8,.p 0 0),(7,I teams),(6,I b),(5,I a),(4,.v (.int .u16 more)),(3,I D),(2,.sl false 3 (draws.map Zh)),(1,I (wn:Int))],[(3,.cells [I 0,I 0] 29),(2,.row 0 3 (draws.map Zh) 40),(1,.cells (Ze S) 29),(0,.cells (Zf l) 25)],4,327,[]⟩ K:=by
  refine Zm [] [(524309,[],di0),(524436,[di6],di7),(524820,[di8],di9)] (by kernel_rfl) (by kernel_rfl) (by kernel_rfl) (Zt) (Zk ?_ (Zk ?_ (Zk ?_ (Zu))))<;>dsimp only [Zf,go_sem,rA,rM,rS]
  ·
   refine ⟨_,?_,h524309⟩
   (refine Zi ?_ ?_ ?_ rfl rfl<;>dsimp only [Zc,Zj,Zg,Zf,Ze,Zh,id,go_sem,rA,rM,rS]<;>simp [Zc,Zj,Zg,Zf,Ze,Zh,Za,Zd,KFR,KFL,KF,Zb,mtO,nbr])
  ·
   refine ⟨_,?_,h524436⟩
   (refine Zi ?_ ?_ ?_ rfl rfl<;>dsimp only [Zc,Zj,Zg,Zf,Ze,Zh,id,go_sem,rA,rM,rS]<;>simp [Zc,Zj,Zg,Zf,Ze,Zh,Za,Zd,KFR,KFL,KF,Zb,mtO,nbr])
  ·
   refine ⟨_,?_,h524820⟩
   (refine Zi ?_ ?_ ?_ rfl rfl<;>dsimp only [Zc,Zj,Zg,Zf,Ze,Zh,id,go_sem,rA,rM,rS]<;>simp [Zc,Zj,Zg,Zf,Ze,Zh,Za,Zd,KFR,KFL,KF,Zb,mtO,nbr])
 have h532:Z6 P Y0 0 l15 6791530 (Yb 0 l15 []) 8 532 ⟨[(128,I (IntKind.i64.wrap more)),(123,.mr 2 0),(18,.p 1 0),(17,B true),(8,.p 0 0),(7,I teams),(6,I b),(5,I a),(4,.v (.int .u16 more)),(3,I D),(2,.sl false 3 (draws.map Zh)),(1,I (wn:Int))],[(2,.row 0 3 (draws.map Zh) 40),(1,.cells (Ze S) 29),(0,.cells (Zf l) 25)],3,327,[]⟩ K:=by
  refine Zm [] [(533,[],di0),(660,[di6],di7),(524820,[],XO)] (by kernel_rfl) (by kernel_rfl) (by kernel_rfl) (Zt) (Zk ?_ (Zk ?_ (Zk ?_ (Zu))))<;>dsimp only [Zf,go_sem,rA,rM,rS]
  ·
   refine ⟨_,?_,h533⟩
   (refine Zi ?_ ?_ ?_ rfl rfl<;>dsimp only [Zc,Zj,Zg,Zf,Ze,Zh,id,go_sem,rA,rM,rS]<;>simp [Zc,Zj,Zg,Zf,Ze,Zh,Za,Zd,KFR,KFL,KF,Zb,mtO,nbr])
  ·
   refine ⟨_,?_,h660⟩
   (refine Zi ?_ ?_ ?_ rfl rfl<;>dsimp only [Zc,Zj,Zg,Zf,Ze,Zh,id,go_sem,rA,rM,rS]<;>simp [Zc,Zj,Zg,Zf,Ze,Zh,Za,Zd,KFR,KFL,KF,Zb,mtO,nbr])
  ·
   refine ⟨_,?_,h524820⟩
   (refine Zi ?_ ?_ ?_ rfl rfl<;>dsimp only [Zc,Zj,Zg,Zf,Ze,Zh,id,go_sem,rA,rM,rS]<;>simp [Zc,Zj,Zg,Zf,Ze,Zh,Za,Zd,KFR,KFL,KF,Zb,mtO,nbr])
 have h21:Z6 P Y0 0 l15 6791530 (Yb 0 l15 []) 8 21 ⟨[(123,.mr 2 0),(119,.agg [.sl false 9 (l.wells.map Zc),.sl false 5 (l.legs.map Zj)]),(18,.p 1 0),(17,B true),(8,.p 0 0),(7,I teams),(6,I b),(5,I a),(4,.v (.int .u16 more)),(3,I D),(2,.sl false 3 (draws.map Zh)),(1,I (wn:Int))],[(2,.row 0 3 (draws.map Zh) 40),(1,.cells (Ze S) 29),(0,.cells (Zf l) 25)],3,327,[]⟩ K:=by
  refine Zm [] [(149,[di6],di7),(533,[di8],di9),(524309,[],XO)] (by kernel_rfl) (by kernel_rfl) (by kernel_rfl) (Zt) (Zk ?_ (Zk ?_ (Zk ?_ (Zu))))<;>dsimp only [Zf,go_sem,rA,rM,rS]
  ·
   refine ⟨_,?_,h149⟩
   (refine Zi ?_ ?_ ?_ rfl rfl<;>dsimp only [Zc,Zj,Zg,Zf,Ze,Zh,id,go_sem,rA,rM,rS]<;>simp [Zc,Zj,Zg,Zf,Ze,Zh,Za,Zd,KFR,KFL,KF,Zb,mtO,nbr])
  ·
   refine ⟨_,?_,h533⟩
   (refine Zi ?_ ?_ ?_ rfl rfl<;>dsimp only [Zc,Zj,Zg,Zf,Ze,Zh,id,go_sem,rA,rM,rS]<;>simp [Zc,Zj,Zg,Zf,Ze,Zh,Za,Zd,KFR,KFL,KF,Zb,mtO,nbr])
  ·
   refine ⟨_,?_,h524309⟩
   (refine Zi ?_ ?_ ?_ rfl rfl<;>dsimp only [Zc,Zj,Zg,Zf,Ze,Zh,id,go_sem,rA,rM,rS]<;>simp [Zc,Zj,Zg,Zf,Ze,Zh,Za,Zd,KFR,KFL,KF,Zb,mtO,nbr])
 have h524417:Z6 P Y0 0 l15 6791530 (Yb 0 l15 []) 8 524417 ⟨[(21,.p 2 0),(126,I (IntKind.i64.wrap (D - 1))),(119,.agg [.sl false 9 (l.wells.map Zc),.sl false 5 (l.legs.map Zj)]),(18,.p 1 0),(17,B true),(8,.p 0 0),(7,I teams),(6,I b),(5,I a),(4,.v (.int .u16 more)),(3,I D),(2,.sl false 3 (draws.map Zh)),(1,I (wn:Int))],[(2,.cells [I 0,I 0] 29),(1,.cells (Ze S) 29),(0,.cells (Zf l) 25)],3,327,[]⟩ K:=by
  refine Zm [] [(524421,[],di2),(524929,[di8],di9)] (by kernel_rfl) (by kernel_rfl) (by kernel_rfl) (Zt) (Zk ?_ (Zk ?_ (Zu)))<;>dsimp only [Zf,go_sem,rA,rM,rS]
  ·
   refine ⟨_,?_,h524421⟩
   (refine Zi ?_ ?_ ?_ rfl rfl<;>dsimp only [Zc,Zj,Zg,Zf,Ze,Zh,id,go_sem,rA,rM,rS]<;>simp [Zc,Zj,Zg,Zf,Ze,Zh,Za,Zd,KFR,KFL,KF,Zb,mtO,nbr])
  ·
   refine ⟨_,?_,h524929⟩
   (refine Zi ?_ ?_ ?_ rfl rfl<;>dsimp only [Zc,Zj,Zg,Zf,Ze,Zh,id,go_sem,rA,rM,rS]<;>simp [Zc,Zj,Zg,Zf,Ze,Zh,Za,Zd,KFR,KFL,KF,Zb,mtO,nbr])
 have h524420:Z6 P Y0 0 l15 6791530 (Yb 0 l15 []) 8 524420 ⟨[(21,.p 2 0),(126,I (IntKind.i64.wrap (D - 1))),(121,.sl true 3 []),(18,.p 1 0),(17,B true),(8,.p 0 0),(7,I teams),(6,I b),(5,I a),(4,.v (.int .u16 more)),(3,I D),(2,.sl false 3 (draws.map Zh)),(1,I (wn:Int))],[(2,.cells [I 0,I 0] 29),(1,.cells (Ze S) 29),(0,.cells (Zf l) 25)],3,327,[]⟩ K:=by
  refine Zm [] [(524421,[],di0),(524436,[di3],di4),(524932,[di8],di9)] (by kernel_rfl) (by kernel_rfl) (by kernel_rfl) (Zt) (Zk ?_ (Zk ?_ (Zk ?_ (Zu))))<;>dsimp only [Zf,go_sem,rA,rM,rS]
  ·
   refine ⟨_,?_,h524421⟩
   (refine Zi ?_ ?_ ?_ rfl rfl<;>dsimp only [Zc,Zj,Zg,Zf,Ze,Zh,id,go_sem,rA,rM,rS]<;>simp [Zc,Zj,Zg,Zf,Ze,Zh,Za,Zd,KFR,KFL,KF,Zb,mtO,nbr])
  ·
   refine ⟨by simp only [List.length_map];omega,?_⟩
   dsimp only [go_sem,rA,rM,rS]
   refine ⟨_,ZfM [0,1,3,2] ?_ ?_ ?_ rfl rfl rfl,h524436⟩<;>dsimp only [go_sem,rA,rM,rS]<;>simp [Zc,Zj,Zg,Zf,Ze,Zh,Za,Zd,KFR,KFL,KF,Zb,mtO,nbr]<;>repeat first | exact Zb (by simp [Zc,Zj,Zg,Zf,Ze,Zh,Za,Zd,KFR,KFL,KF]) | refine ⟨Zb (by simp [Zc,Zj,Zg,Zf,Ze,Zh,Za,Zd,KFR,KFL,KF]),?_⟩
  ·
   refine ⟨_,?_,h524932⟩
   (refine Zi ?_ ?_ ?_ rfl rfl<;>dsimp only [Zc,Zj,Zg,Zf,Ze,Zh,id,go_sem,rA,rM,rS]<;>simp [Zc,Zj,Zg,Zf,Ze,Zh,Za,Zd,KFR,KFL,KF,Zb,mtO,nbr])
 have h133:Z6 P Y0 0 l15 6791530 (Yb 0 l15 []) 8 133 ⟨[(126,I (IntKind.i64.wrap (D - 1))),(121,.sl true 3 []),(119,.agg [.sl false 9 (l.wells.map Zc),.sl false 5 (l.legs.map Zj)]),(18,.p 1 0),(17,B true),(8,.p 0 0),(7,I teams),(6,I b),(5,I a),(4,.v (.int .u16 more)),(3,I D),(2,.sl false 3 (draws.map Zh)),(1,I (wn:Int))],[(1,.cells (Ze S) 29),(0,.cells (Zf l) 25)],2,327,[]⟩ K:=by
  refine Zm [] [(149,[di3],di4),(645,[di8],di9),(524421,[],XO)] (by kernel_rfl) (by kernel_rfl) (by kernel_rfl) (Zt) (Zk ?_ (Zk ?_ (Zk ?_ (Zu))))<;>dsimp only [Zf,go_sem,rA,rM,rS]
  ·
   refine ⟨by simp only [List.length_map];omega,?_⟩
   dsimp only [go_sem,rA,rM,rS]
   refine ⟨_,?_,h149⟩
   (refine Zi ?_ ?_ ?_ rfl rfl<;>dsimp only [Zc,Zj,Zg,Zf,Ze,Zh,id,go_sem,rA,rM,rS]<;>simp [Zc,Zj,Zg,Zf,Ze,Zh,Za,Zd,KFR,KFL,KF,Zb,mtO,nbr])
  ·
   refine ⟨_,?_,h645⟩
   (refine Zi ?_ ?_ ?_ rfl rfl<;>dsimp only [Zc,Zj,Zg,Zf,Ze,Zh,id,go_sem,rA,rM,rS]<;>simp [Zc,Zj,Zg,Zf,Ze,Zh,Za,Zd,KFR,KFL,KF,Zb,mtO,nbr])
  ·
   refine ⟨_,?_,h524421⟩
   (refine Zi ?_ ?_ ?_ rfl rfl<;>dsimp only [Zc,Zj,Zg,Zf,Ze,Zh,id,go_sem,rA,rM,rS]<;>simp [Zc,Zj,Zg,Zf,Ze,Zh,Za,Zd,KFR,KFL,KF,Zb,mtO,nbr])
 have h524928:Z6 P Y0 0 l15 6791530 (Yb 0 l15 []) 8 524928 ⟨[(21,.p 2 0),(128,I (IntKind.i64.wrap more)),(126,I (IntKind.i64.wrap (D - 1))),(18,.p 1 0),(17,B true),(8,.p 0 0),(7,I teams),(6,I b),(5,I a),(4,.v (.int .u16 more)),(3,I D),(2,.sl false 3 (draws.map Zh)),(1,I (wn:Int))],[(2,.cells [I 0,I 0] 29),(1,.cells (Ze S) 29),(0,.cells (Zf l) 25)],3,327,[]⟩ K:=by
  refine Zm [] [(524929,[],di0),(524932,[],di2),(525952,[di5,di6,di8],ZdT)] (by kernel_rfl) (by kernel_rfl) (by kernel_rfl) (Zt) (Zk ?_ (Zk ?_ (Zk ?_ (Zu))))<;>dsimp only [Zf,go_sem,rA,rM,rS]
  ·
   refine ⟨_,?_,h524929⟩
   (refine Zi ?_ ?_ ?_ rfl rfl<;>dsimp only [Zc,Zj,Zg,Zf,Ze,Zh,id,go_sem,rA,rM,rS]<;>simp [Zc,Zj,Zg,Zf,Ze,Zh,Za,Zd,KFR,KFL,KF,Zb,mtO,nbr])
  ·
   refine ⟨_,?_,h524932⟩
   (refine Zi ?_ ?_ ?_ rfl rfl<;>dsimp only [Zc,Zj,Zg,Zf,Ze,Zh,id,go_sem,rA,rM,rS]<;>simp [Zc,Zj,Zg,Zf,Ze,Zh,Za,Zd,KFR,KFL,KF,Zb,mtO,nbr])
  ·
   refine ⟨_,?_,h525952⟩
   (refine Zi ?_ ?_ ?_ rfl rfl<;>dsimp only [Zc,Zj,Zg,Zf,Ze,Zh,id,go_sem,rA,rM,rS]<;>simp [Zc,Zj,Zg,Zf,Ze,Zh,Za,Zd,KFR,KFL,KF,Zb,mtO,nbr])
 have h641:Z6 P Y0 0 l15 6791530 (Yb 0 l15 []) 8 641 ⟨[(128,I (IntKind.i64.wrap more)),(126,I (IntKind.i64.wrap (D - 1))),(119,.agg [.sl false 9 (l.wells.map Zc),.sl false 5 (l.legs.map Zj)]),(18,.p 1 0),(17,B true),(8,.p 0 0),(7,I teams),(6,I b),(5,I a),(4,.v (.int .u16 more)),(3,I D),(2,.sl false 3 (draws.map Zh)),(1,I (wn:Int))],[(1,.cells (Ze S) 29),(0,.cells (Zf l) 25)],2,327,[]⟩ K:=by
  refine Zm [] [(645,[],di2),(1665,[di5,di6,di8],ZdT),(524929,[],XO)] (by kernel_rfl) (by kernel_rfl) (by kernel_rfl) (Zt) (Zk ?_ (Zk ?_ (Zk ?_ (Zu))))<;>dsimp only [Zf,go_sem,rA,rM,rS]
  ·
   refine ⟨_,?_,h645⟩
   (refine Zi ?_ ?_ ?_ rfl rfl<;>dsimp only [Zc,Zj,Zg,Zf,Ze,Zh,id,go_sem,rA,rM,rS]<;>simp [Zc,Zj,Zg,Zf,Ze,Zh,Za,Zd,KFR,KFL,KF,Zb,mtO,nbr])
  ·
   refine ⟨_,?_,h1665⟩
   (refine Zi ?_ ?_ ?_ rfl rfl<;>dsimp only [Zc,Zj,Zg,Zf,Ze,Zh,id,go_sem,rA,rM,rS]<;>simp [Zc,Zj,Zg,Zf,Ze,Zh,Za,Zd,KFR,KFL,KF,Zb,mtO,nbr])
  ·
   refine ⟨_,?_,h524929⟩
   (refine Zi ?_ ?_ ?_ rfl rfl<;>dsimp only [Zc,Zj,Zg,Zf,Ze,Zh,id,go_sem,rA,rM,rS]<;>simp [Zc,Zj,Zg,Zf,Ze,Zh,Za,Zd,KFR,KFL,KF,Zb,mtO,nbr])
 have h644:Z6 P Y0 0 l15 6791530 (Yb 0 l15 []) 8 644 ⟨[(128,I (IntKind.i64.wrap more)),(126,I (IntKind.i64.wrap (D - 1))),(121,.sl true 3 []),(18,.p 1 0),(17,B true),(8,.p 0 0),(7,I teams),(6,I b),(5,I a),(4,.v (.int .u16 more)),(3,I D),(2,.sl false 3 (draws.map Zh)),(1,I (wn:Int))],[(1,.cells (Ze S) 29),(0,.cells (Zf l) 25)],2,327,[]⟩ K:=by
  refine Zm [] [(645,[],di0),(660,[di3],di4),(1668,[di5,di6,di8],ZdT),(524932,[],XO)] (by kernel_rfl) (by kernel_rfl) (by kernel_rfl) (Zt) (Zk ?_ (Zk ?_ (Zk ?_ (Zk ?_ (Zu)))))<;>dsimp only [Zf,go_sem,rA,rM,rS]
  ·
   refine ⟨_,?_,h645⟩
   (refine Zi ?_ ?_ ?_ rfl rfl<;>dsimp only [Zc,Zj,Zg,Zf,Ze,Zh,id,go_sem,rA,rM,rS]<;>simp [Zc,Zj,Zg,Zf,Ze,Zh,Za,Zd,KFR,KFL,KF,Zb,mtO,nbr])
  ·
   refine ⟨by simp only [List.length_map];omega,?_⟩
   dsimp only [go_sem,rA,rM,rS]
   refine ⟨_,?_,h660⟩
   (refine Zi ?_ ?_ ?_ rfl rfl<;>dsimp only [Zc,Zj,Zg,Zf,Ze,Zh,id,go_sem,rA,rM,rS]<;>simp [Zc,Zj,Zg,Zf,Ze,Zh,Za,Zd,KFR,KFL,KF,Zb,mtO,nbr])
  ·
   refine ⟨_,?_,h1668⟩
   (refine Zi ?_ ?_ ?_ rfl rfl<;>dsimp only [Zc,Zj,Zg,Zf,Ze,Zh,id,go_sem,rA,rM,rS]<;>simp [Zc,Zj,Zg,Zf,Ze,Zh,Za,Zd,KFR,KFL,KF,Zb,mtO,nbr])
  ·
   refine ⟨_,?_,h524932⟩
   (refine Zi ?_ ?_ ?_ rfl rfl<;>dsimp only [Zc,Zj,Zg,Zf,Ze,Zh,id,go_sem,rA,rM,rS]<;>simp [Zc,Zj,Zg,Zf,Ze,Zh,Za,Zd,KFR,KFL,KF,Zb,mtO,nbr])
 have h1664:Z6 P Y0 0 l15 6791530 (Yb 0 l15 []) 8 1664 ⟨[(129,.agg [I (wn:Int),I (IntKind.i64.wrap (D - 1)),I (IntKind.i64.wrap more)]),(18,.p 1 0),(17,B true),(8,.p 0 0),(7,I teams),(6,I b),(5,I a),(4,.v (.int .u16 more)),(3,I D),(2,.sl false 3 (draws.map Zh)),(1,I (wn:Int))],[(1,.cells (Ze S) 29),(0,.cells (Zf l) 25)],2,327,[]⟩ K:=by
  refine Zm [] [(1665,[],di0),(1668,[],di2),(3712,[di5,di6,di8],ZdS),(525952,[],XO)] (by kernel_rfl) (by kernel_rfl) (by kernel_rfl) (Zt) (Zk ?_ (Zk ?_ (Zk ?_ (Zk ?_ (Zu)))))<;>dsimp only [Zf,go_sem,rA,rM,rS]
  ·
   refine ⟨_,?_,h1665⟩
   (refine Zi ?_ ?_ ?_ rfl rfl<;>dsimp only [Zc,Zj,Zg,Zf,Ze,Zh,id,go_sem,rA,rM,rS]<;>simp [Zc,Zj,Zg,Zf,Ze,Zh,Za,Zd,KFR,KFL,KF,Zb,mtO,nbr])
  ·
   refine ⟨_,?_,h1668⟩
   (refine Zi ?_ ?_ ?_ rfl rfl<;>dsimp only [Zc,Zj,Zg,Zf,Ze,Zh,id,go_sem,rA,rM,rS]<;>simp [Zc,Zj,Zg,Zf,Ze,Zh,Za,Zd,KFR,KFL,KF,Zb,mtO,nbr])
  ·
   refine ⟨_,?_,h3712⟩
   (refine Zi ?_ ?_ ?_ rfl rfl<;>dsimp only [Zc,Zj,Zg,Zf,Ze,Zh,id,go_sem,rA,rM,rS]<;>simp [Zc,Zj,Zg,Zf,Ze,Zh,Za,Zd,KFR,KFL,KF,Zb,mtO,nbr])
  ·
   refine ⟨_,?_,h525952⟩
   (refine Zi ?_ ?_ ?_ rfl rfl<;>dsimp only [Zc,Zj,Zg,Zf,Ze,Zh,id,go_sem,rA,rM,rS]<;>simp [Zc,Zj,Zg,Zf,Ze,Zh,Za,Zd,KFR,KFL,KF,Zb,mtO,nbr])
 have h148:Z6 P Y0 0 l15 6791530 (Yb 0 l15 []) 8 148 ⟨[(126,I (IntKind.i64.wrap (D - 1))),(123,.mr 2 0),(18,.p 1 0),(17,B true),(8,.p 0 0),(7,I teams),(6,I b),(5,I a),(4,.v (.int .u16 more)),(3,I D),(2,.sl false 3 (draws.map Zh)),(1,I (wn:Int))],[(2,.row 0 3 (draws.map Zh) 40),(1,.cells (Ze S) 29),(0,.cells (Zf l) 25)],3,327,[]⟩ K:=by
  refine Zm [] [(149,[],di0),(660,[di8],di9),(524436,[],XO)] (by kernel_rfl) (by kernel_rfl) (by kernel_rfl) (Zt) (Zk ?_ (Zk ?_ (Zk ?_ (Zu))))<;>dsimp only [Zf,go_sem,rA,rM,rS]
  ·
   refine ⟨_,?_,h149⟩
   (refine Zi ?_ ?_ ?_ rfl rfl<;>dsimp only [Zc,Zj,Zg,Zf,Ze,Zh,id,go_sem,rA,rM,rS]<;>simp [Zc,Zj,Zg,Zf,Ze,Zh,Za,Zd,KFR,KFL,KF,Zb,mtO,nbr])
  ·
   refine ⟨_,?_,h660⟩
   (refine Zi ?_ ?_ ?_ rfl rfl<;>dsimp only [Zc,Zj,Zg,Zf,Ze,Zh,id,go_sem,rA,rM,rS]<;>simp [Zc,Zj,Zg,Zf,Ze,Zh,Za,Zd,KFR,KFL,KF,Zb,mtO,nbr])
  ·
   refine ⟨_,?_,h524436⟩
   (refine Zi ?_ ?_ ?_ rfl rfl<;>dsimp only [Zc,Zj,Zg,Zf,Ze,Zh,id,go_sem,rA,rM,rS]<;>simp [Zc,Zj,Zg,Zf,Ze,Zh,Za,Zd,KFR,KFL,KF,Zb,mtO,nbr])
 have h524289:Z6 P Y0 0 l15 6791530 (Yb 0 l15 []) 9 524289 ⟨[(21,.p 2 0),(119,.agg [.sl false 9 (l.wells.map Zc),.sl false 5 (l.legs.map Zj)]),(18,.p 1 0),(17,B true),(8,.p 0 0),(7,I teams),(6,I b),(5,I a),(4,.v (.int .u16 more)),(3,I D),(2,.sl false 3 (draws.map Zh)),(1,I (wn:Int))],[(2,.cells [I 0,I 0] 29),(1,.cells (Ze S) 29),(0,.cells (Zf l) 25)],3,327,[]⟩ K:=by
  refine Zm [] [(524293,[],di2),(524417,[di6],di7),(524801,[di8],di9)] (by kernel_rfl) (by kernel_rfl) (by kernel_rfl) (Zt) (Zk ?_ (Zk ?_ (Zk ?_ (Zu))))<;>dsimp only [Zf,go_sem,rA,rM,rS]
  ·
   refine ⟨_,?_,h524293⟩
   (refine Zi ?_ ?_ ?_ rfl rfl<;>dsimp only [Zc,Zj,Zg,Zf,Ze,Zh,id,go_sem,rA,rM,rS]<;>simp [Zc,Zj,Zg,Zf,Ze,Zh,Za,Zd,KFR,KFL,KF,Zb,mtO,nbr])
  ·
   refine ⟨_,?_,h524417⟩
   (refine Zi ?_ ?_ ?_ rfl rfl<;>dsimp only [Zc,Zj,Zg,Zf,Ze,Zh,id,go_sem,rA,rM,rS]<;>simp [Zc,Zj,Zg,Zf,Ze,Zh,Za,Zd,KFR,KFL,KF,Zb,mtO,nbr])
  ·
   refine ⟨_,?_,h524801⟩
   (refine Zi ?_ ?_ ?_ rfl rfl<;>dsimp only [Zc,Zj,Zg,Zf,Ze,Zh,id,go_sem,rA,rM,rS]<;>simp [Zc,Zj,Zg,Zf,Ze,Zh,Za,Zd,KFR,KFL,KF,Zb,mtO,nbr])
 have h524292:Z6 P Y0 0 l15 6791530 (Yb 0 l15 []) 9 524292 ⟨[(21,.p 2 0),(121,.sl true 3 []),(18,.p 1 0),(17,B true),(8,.p 0 0),(7,I teams),(6,I b),(5,I a),(4,.v (.int .u16 more)),(3,I D),(2,.sl false 3 (draws.map Zh)),(1,I (wn:Int))],[(2,.cells [I 0,I 0] 29),(1,.cells (Ze S) 29),(0,.cells (Zf l) 25)],3,327,[]⟩ K:=by
  refine Zm [] [(524293,[],di0),(524308,[di3],di4),(524420,[di6],di7),(524804,[di8],di9)] (by kernel_rfl) (by kernel_rfl) (by kernel_rfl) (Zt) (Zk ?_ (Zk ?_ (Zk ?_ (Zk ?_ (Zu)))))<;>dsimp only [Zf,go_sem,rA,rM,rS]
  ·
   refine ⟨_,?_,h524293⟩
   (refine Zi ?_ ?_ ?_ rfl rfl<;>dsimp only [Zc,Zj,Zg,Zf,Ze,Zh,id,go_sem,rA,rM,rS]<;>simp [Zc,Zj,Zg,Zf,Ze,Zh,Za,Zd,KFR,KFL,KF,Zb,mtO,nbr])
  ·
   refine ⟨by simp only [List.length_map];omega,?_⟩
   dsimp only [go_sem,rA,rM,rS]
   refine ⟨_,ZfM [0,1,3,2] ?_ ?_ ?_ rfl rfl rfl,h524308⟩<;>dsimp only [go_sem,rA,rM,rS]<;>simp [Zc,Zj,Zg,Zf,Ze,Zh,Za,Zd,KFR,KFL,KF,Zb,mtO,nbr]<;>repeat first | exact Zb (by simp [Zc,Zj,Zg,Zf,Ze,Zh,Za,Zd,KFR,KFL,KF]) | refine ⟨Zb (by simp [Zc,Zj,Zg,Zf,Ze,Zh,Za,Zd,KFR,KFL,KF]),?_⟩
  ·
   refine ⟨_,?_,h524420⟩
   (refine Zi ?_ ?_ ?_ rfl rfl<;>dsimp only [Zc,Zj,Zg,Zf,Ze,Zh,id,go_sem,rA,rM,rS]<;>simp [Zc,Zj,Zg,Zf,Ze,Zh,Za,Zd,KFR,KFL,KF,Zb,mtO,nbr])
  ·
   refine ⟨_,?_,h524804⟩
   (refine Zi ?_ ?_ ?_ rfl rfl<;>dsimp only [Zc,Zj,Zg,Zf,Ze,Zh,id,go_sem,rA,rM,rS]<;>simp [Zc,Zj,Zg,Zf,Ze,Zh,Za,Zd,KFR,KFL,KF,Zb,mtO,nbr])
 have h524800:Z6 P Y0 0 l15 6791530 (Yb 0 l15 []) 9 524800 ⟨[(21,.p 2 0),(128,I (IntKind.i64.wrap more)),(18,.p 1 0),(17,B true),(8,.p 0 0),(7,I teams),(6,I b),(5,I a),(4,.v (.int .u16 more)),(3,I D),(2,.sl false 3 (draws.map Zh)),(1,I (wn:Int))],[(2,.cells [I 0,I 0] 29),(1,.cells (Ze S) 29),(0,.cells (Zf l) 25)],3,327,[]⟩ K:=by
  refine Zm [] [(524801,[],di0),(524804,[],di2),(524928,[di6],di7)] (by kernel_rfl) (by kernel_rfl) (by kernel_rfl) (Zt) (Zk ?_ (Zk ?_ (Zk ?_ (Zu))))<;>dsimp only [Zf,go_sem,rA,rM,rS]
  ·
   refine ⟨_,?_,h524801⟩
   (refine Zi ?_ ?_ ?_ rfl rfl<;>dsimp only [Zc,Zj,Zg,Zf,Ze,Zh,id,go_sem,rA,rM,rS]<;>simp [Zc,Zj,Zg,Zf,Ze,Zh,Za,Zd,KFR,KFL,KF,Zb,mtO,nbr])
  ·
   refine ⟨_,?_,h524804⟩
   (refine Zi ?_ ?_ ?_ rfl rfl<;>dsimp only [Zc,Zj,Zg,Zf,Ze,Zh,id,go_sem,rA,rM,rS]<;>simp [Zc,Zj,Zg,Zf,Ze,Zh,Za,Zd,KFR,KFL,KF,Zb,mtO,nbr])
  ·
   refine ⟨_,?_,h524928⟩
   (refine Zi ?_ ?_ ?_ rfl rfl<;>dsimp only [Zc,Zj,Zg,Zf,Ze,Zh,id,go_sem,rA,rM,rS]<;>simp [Zc,Zj,Zg,Zf,Ze,Zh,Za,Zd,KFR,KFL,KF,Zb,mtO,nbr])
 have h516:Z6 P Y0 0 l15 6791530 (Yb 0 l15 []) 9 516 ⟨[(128,I (IntKind.i64.wrap more)),(121,.sl true 3 []),(18,.p 1 0),(17,B true),(8,.p 0 0),(7,I teams),(6,I b),(5,I a),(4,.v (.int .u16 more)),(3,I D),(2,.sl false 3 (draws.map Zh)),(1,I (wn:Int))],[(1,.cells (Ze S) 29),(0,.cells (Zf l) 25)],2,327,[]⟩ K:=by
  refine Zm [] [(517,[],di0),(532,[di3],di4),(644,[di6],di7),(524804,[],XO)] (by kernel_rfl) (by kernel_rfl) (by kernel_rfl) (Zt) (Zk ?_ (Zk ?_ (Zk ?_ (Zk ?_ (Zu)))))<;>dsimp only [Zf,go_sem,rA,rM,rS]
  ·
   refine ⟨_,?_,h517⟩
   (refine Zi ?_ ?_ ?_ rfl rfl<;>dsimp only [Zc,Zj,Zg,Zf,Ze,Zh,id,go_sem,rA,rM,rS]<;>simp [Zc,Zj,Zg,Zf,Ze,Zh,Za,Zd,KFR,KFL,KF,Zb,mtO,nbr])
  ·
   refine ⟨by simp only [List.length_map];omega,?_⟩
   dsimp only [go_sem,rA,rM,rS]
   refine ⟨_,?_,h532⟩
   (refine Zi ?_ ?_ ?_ rfl rfl<;>dsimp only [Zc,Zj,Zg,Zf,Ze,Zh,id,go_sem,rA,rM,rS]<;>simp [Zc,Zj,Zg,Zf,Ze,Zh,Za,Zd,KFR,KFL,KF,Zb,mtO,nbr])
  ·
   refine ⟨_,?_,h644⟩
   (refine Zi ?_ ?_ ?_ rfl rfl<;>dsimp only [Zc,Zj,Zg,Zf,Ze,Zh,id,go_sem,rA,rM,rS]<;>simp [Zc,Zj,Zg,Zf,Ze,Zh,Za,Zd,KFR,KFL,KF,Zb,mtO,nbr])
  ·
   refine ⟨_,?_,h524804⟩
   (refine Zi ?_ ?_ ?_ rfl rfl<;>dsimp only [Zc,Zj,Zg,Zf,Ze,Zh,id,go_sem,rA,rM,rS]<;>simp [Zc,Zj,Zg,Zf,Ze,Zh,Za,Zd,KFR,KFL,KF,Zb,mtO,nbr])
 have h5:Z6 P Y0 0 l15 6791530 (Yb 0 l15 []) 9 5 ⟨[(121,.sl true 3 []),(119,.agg [.sl false 9 (l.wells.map Zc),.sl false 5 (l.legs.map Zj)]),(18,.p 1 0),(17,B true),(8,.p 0 0),(7,I teams),(6,I b),(5,I a),(4,.v (.int .u16 more)),(3,I D),(2,.sl false 3 (draws.map Zh)),(1,I (wn:Int))],[(1,.cells (Ze S) 29),(0,.cells (Zf l) 25)],2,327,[]⟩ K:=by
  refine Zm [] [(21,[di3],di4),(133,[di6],di7),(517,[di8],di9),(524293,[],XO)] (by kernel_rfl) (by kernel_rfl) (by kernel_rfl) (Zt) (Zk ?_ (Zk ?_ (Zk ?_ (Zk ?_ (Zu)))))<;>dsimp only [Zf,go_sem,rA,rM,rS]
  ·
   refine ⟨by simp only [List.length_map];omega,?_⟩
   dsimp only [go_sem,rA,rM,rS]
   refine ⟨_,?_,h21⟩
   (refine Zi ?_ ?_ ?_ rfl rfl<;>dsimp only [Zc,Zj,Zg,Zf,Ze,Zh,id,go_sem,rA,rM,rS]<;>simp [Zc,Zj,Zg,Zf,Ze,Zh,Za,Zd,KFR,KFL,KF,Zb,mtO,nbr])
  ·
   refine ⟨_,?_,h133⟩
   (refine Zi ?_ ?_ ?_ rfl rfl<;>dsimp only [Zc,Zj,Zg,Zf,Ze,Zh,id,go_sem,rA,rM,rS]<;>simp [Zc,Zj,Zg,Zf,Ze,Zh,Za,Zd,KFR,KFL,KF,Zb,mtO,nbr])
  ·
   refine ⟨_,?_,h517⟩
   (refine Zi ?_ ?_ ?_ rfl rfl<;>dsimp only [Zc,Zj,Zg,Zf,Ze,Zh,id,go_sem,rA,rM,rS]<;>simp [Zc,Zj,Zg,Zf,Ze,Zh,Za,Zd,KFR,KFL,KF,Zb,mtO,nbr])
  ·
   refine ⟨_,?_,h524293⟩
   (refine Zi ?_ ?_ ?_ rfl rfl<;>dsimp only [Zc,Zj,Zg,Zf,Ze,Zh,id,go_sem,rA,rM,rS]<;>simp [Zc,Zj,Zg,Zf,Ze,Zh,Za,Zd,KFR,KFL,KF,Zb,mtO,nbr])
 have h513:Z6 P Y0 0 l15 6791530 (Yb 0 l15 []) 9 513 ⟨[(128,I (IntKind.i64.wrap more)),(119,.agg [.sl false 9 (l.wells.map Zc),.sl false 5 (l.legs.map Zj)]),(18,.p 1 0),(17,B true),(8,.p 0 0),(7,I teams),(6,I b),(5,I a),(4,.v (.int .u16 more)),(3,I D),(2,.sl false 3 (draws.map Zh)),(1,I (wn:Int))],[(1,.cells (Ze S) 29),(0,.cells (Zf l) 25)],2,327,[]⟩ K:=by
  refine Zm [] [(517,[],di2),(641,[di6],di7),(524801,[],XO)] (by kernel_rfl) (by kernel_rfl) (by kernel_rfl) (Zt) (Zk ?_ (Zk ?_ (Zk ?_ (Zu))))<;>dsimp only [Zf,go_sem,rA,rM,rS]
  ·
   refine ⟨_,?_,h517⟩
   (refine Zi ?_ ?_ ?_ rfl rfl<;>dsimp only [Zc,Zj,Zg,Zf,Ze,Zh,id,go_sem,rA,rM,rS]<;>simp [Zc,Zj,Zg,Zf,Ze,Zh,Za,Zd,KFR,KFL,KF,Zb,mtO,nbr])
  ·
   refine ⟨_,?_,h641⟩
   (refine Zi ?_ ?_ ?_ rfl rfl<;>dsimp only [Zc,Zj,Zg,Zf,Ze,Zh,id,go_sem,rA,rM,rS]<;>simp [Zc,Zj,Zg,Zf,Ze,Zh,Za,Zd,KFR,KFL,KF,Zb,mtO,nbr])
  ·
   refine ⟨_,?_,h524801⟩
   (refine Zi ?_ ?_ ?_ rfl rfl<;>dsimp only [Zc,Zj,Zg,Zf,Ze,Zh,id,go_sem,rA,rM,rS]<;>simp [Zc,Zj,Zg,Zf,Ze,Zh,Za,Zd,KFR,KFL,KF,Zb,mtO,nbr])
 have h20:Z6 P Y0 0 l15 6791530 (Yb 0 l15 []) 9 20 ⟨[(123,.mr 2 0),(18,.p 1 0),(17,B true),(8,.p 0 0),(7,I teams),(6,I b),(5,I a),(4,.v (.int .u16 more)),(3,I D),(2,.sl false 3 (draws.map Zh)),(1,I (wn:Int))],[(2,.row 0 3 (draws.map Zh) 40),(1,.cells (Ze S) 29),(0,.cells (Zf l) 25)],3,327,[]⟩ K:=by
  refine Zm [] [(21,[],di0),(148,[di6],di7),(532,[di8],di9),(524308,[],XO)] (by kernel_rfl) (by kernel_rfl) (by kernel_rfl) (Zt) (Zk ?_ (Zk ?_ (Zk ?_ (Zk ?_ (Zu)))))<;>dsimp only [Zf,go_sem,rA,rM,rS]
  ·
   refine ⟨_,?_,h21⟩
   (refine Zi ?_ ?_ ?_ rfl rfl<;>dsimp only [Zc,Zj,Zg,Zf,Ze,Zh,id,go_sem,rA,rM,rS]<;>simp [Zc,Zj,Zg,Zf,Ze,Zh,Za,Zd,KFR,KFL,KF,Zb,mtO,nbr])
  ·
   refine ⟨_,?_,h148⟩
   (refine Zi ?_ ?_ ?_ rfl rfl<;>dsimp only [Zc,Zj,Zg,Zf,Ze,Zh,id,go_sem,rA,rM,rS]<;>simp [Zc,Zj,Zg,Zf,Ze,Zh,Za,Zd,KFR,KFL,KF,Zb,mtO,nbr])
  ·
   refine ⟨_,?_,h532⟩
   (refine Zi ?_ ?_ ?_ rfl rfl<;>dsimp only [Zc,Zj,Zg,Zf,Ze,Zh,id,go_sem,rA,rM,rS]<;>simp [Zc,Zj,Zg,Zf,Ze,Zh,Za,Zd,KFR,KFL,KF,Zb,mtO,nbr])
  ·
   refine ⟨_,?_,h524308⟩
   (refine Zi ?_ ?_ ?_ rfl rfl<;>dsimp only [Zc,Zj,Zg,Zf,Ze,Zh,id,go_sem,rA,rM,rS]<;>simp [Zc,Zj,Zg,Zf,Ze,Zh,Za,Zd,KFR,KFL,KF,Zb,mtO,nbr])
 have h524416:Z6 P Y0 0 l15 6791530 (Yb 0 l15 []) 9 524416 ⟨[(21,.p 2 0),(126,I (IntKind.i64.wrap (D - 1))),(18,.p 1 0),(17,B true),(8,.p 0 0),(7,I teams),(6,I b),(5,I a),(4,.v (.int .u16 more)),(3,I D),(2,.sl false 3 (draws.map Zh)),(1,I (wn:Int))],[(2,.cells [I 0,I 0] 29),(1,.cells (Ze S) 29),(0,.cells (Zf l) 25)],3,327,[]⟩ K:=by
  refine Zm [] [(524417,[],di0),(524420,[],di2),(524928,[di8],di9)] (by kernel_rfl) (by kernel_rfl) (by kernel_rfl) (Zt) (Zk ?_ (Zk ?_ (Zk ?_ (Zu))))<;>dsimp only [Zf,go_sem,rA,rM,rS]
  ·
   refine ⟨_,?_,h524417⟩
   (refine Zi ?_ ?_ ?_ rfl rfl<;>dsimp only [Zc,Zj,Zg,Zf,Ze,Zh,id,go_sem,rA,rM,rS]<;>simp [Zc,Zj,Zg,Zf,Ze,Zh,Za,Zd,KFR,KFL,KF,Zb,mtO,nbr])
  ·
   refine ⟨_,?_,h524420⟩
   (refine Zi ?_ ?_ ?_ rfl rfl<;>dsimp only [Zc,Zj,Zg,Zf,Ze,Zh,id,go_sem,rA,rM,rS]<;>simp [Zc,Zj,Zg,Zf,Ze,Zh,Za,Zd,KFR,KFL,KF,Zb,mtO,nbr])
  ·
   refine ⟨_,?_,h524928⟩
   (refine Zi ?_ ?_ ?_ rfl rfl<;>dsimp only [Zc,Zj,Zg,Zf,Ze,Zh,id,go_sem,rA,rM,rS]<;>simp [Zc,Zj,Zg,Zf,Ze,Zh,Za,Zd,KFR,KFL,KF,Zb,mtO,nbr])
 have h129:Z6 P Y0 0 l15 6791530 (Yb 0 l15 []) 9 129 ⟨[(126,I (IntKind.i64.wrap (D - 1))),(119,.agg [.sl false 9 (l.wells.map Zc),.sl false 5 (l.legs.map Zj)]),(18,.p 1 0),(17,B true),(8,.p 0 0),(7,I teams),(6,I b),(5,I a),(4,.v (.int .u16 more)),(3,I D),(2,.sl false 3 (draws.map Zh)),(1,I (wn:Int))],[(1,.cells (Ze S) 29),(0,.cells (Zf l) 25)],2,327,[]⟩ K:=by
  refine Zm [] [(133,[],di2),(641,[di8],di9),(524417,[],XO)] (by kernel_rfl) (by kernel_rfl) (by kernel_rfl) (Zt) (Zk ?_ (Zk ?_ (Zk ?_ (Zu))))<;>dsimp only [Zf,go_sem,rA,rM,rS]
  ·
   refine ⟨_,?_,h133⟩
   (refine Zi ?_ ?_ ?_ rfl rfl<;>dsimp only [Zc,Zj,Zg,Zf,Ze,Zh,id,go_sem,rA,rM,rS]<;>simp [Zc,Zj,Zg,Zf,Ze,Zh,Za,Zd,KFR,KFL,KF,Zb,mtO,nbr])
  ·
   refine ⟨_,?_,h641⟩
   (refine Zi ?_ ?_ ?_ rfl rfl<;>dsimp only [Zc,Zj,Zg,Zf,Ze,Zh,id,go_sem,rA,rM,rS]<;>simp [Zc,Zj,Zg,Zf,Ze,Zh,Za,Zd,KFR,KFL,KF,Zb,mtO,nbr])
  ·
   refine ⟨_,?_,h524417⟩
   (refine Zi ?_ ?_ ?_ rfl rfl<;>dsimp only [Zc,Zj,Zg,Zf,Ze,Zh,id,go_sem,rA,rM,rS]<;>simp [Zc,Zj,Zg,Zf,Ze,Zh,Za,Zd,KFR,KFL,KF,Zb,mtO,nbr])
 have h132:Z6 P Y0 0 l15 6791530 (Yb 0 l15 []) 9 132 ⟨[(126,I (IntKind.i64.wrap (D - 1))),(121,.sl true 3 []),(18,.p 1 0),(17,B true),(8,.p 0 0),(7,I teams),(6,I b),(5,I a),(4,.v (.int .u16 more)),(3,I D),(2,.sl false 3 (draws.map Zh)),(1,I (wn:Int))],[(1,.cells (Ze S) 29),(0,.cells (Zf l) 25)],2,327,[]⟩ K:=by
  refine Zm [] [(133,[],di0),(148,[di3],di4),(644,[di8],di9),(524420,[],XO)] (by kernel_rfl) (by kernel_rfl) (by kernel_rfl) (Zt) (Zk ?_ (Zk ?_ (Zk ?_ (Zk ?_ (Zu)))))<;>dsimp only [Zf,go_sem,rA,rM,rS]
  ·
   refine ⟨_,?_,h133⟩
   (refine Zi ?_ ?_ ?_ rfl rfl<;>dsimp only [Zc,Zj,Zg,Zf,Ze,Zh,id,go_sem,rA,rM,rS]<;>simp [Zc,Zj,Zg,Zf,Ze,Zh,Za,Zd,KFR,KFL,KF,Zb,mtO,nbr])
  ·
   refine ⟨by simp only [List.length_map];omega,?_⟩
   dsimp only [go_sem,rA,rM,rS]
   refine ⟨_,?_,h148⟩
   (refine Zi ?_ ?_ ?_ rfl rfl<;>dsimp only [Zc,Zj,Zg,Zf,Ze,Zh,id,go_sem,rA,rM,rS]<;>simp [Zc,Zj,Zg,Zf,Ze,Zh,Za,Zd,KFR,KFL,KF,Zb,mtO,nbr])
  ·
   refine ⟨_,?_,h644⟩
   (refine Zi ?_ ?_ ?_ rfl rfl<;>dsimp only [Zc,Zj,Zg,Zf,Ze,Zh,id,go_sem,rA,rM,rS]<;>simp [Zc,Zj,Zg,Zf,Ze,Zh,Za,Zd,KFR,KFL,KF,Zb,mtO,nbr])
  ·
   refine ⟨_,?_,h524420⟩
   (refine Zi ?_ ?_ ?_ rfl rfl<;>dsimp only [Zc,Zj,Zg,Zf,Ze,Zh,id,go_sem,rA,rM,rS]<;>simp [Zc,Zj,Zg,Zf,Ze,Zh,Za,Zd,KFR,KFL,KF,Zb,mtO,nbr])
 have h640:Z6 P Y0 0 l15 6791530 (Yb 0 l15 []) 9 640 ⟨[(128,I (IntKind.i64.wrap more)),(126,I (IntKind.i64.wrap (D - 1))),(18,.p 1 0),(17,B true),(8,.p 0 0),(7,I teams),(6,I b),(5,I a),(4,.v (.int .u16 more)),(3,I D),(2,.sl false 3 (draws.map Zh)),(1,I (wn:Int))],[(1,.cells (Ze S) 29),(0,.cells (Zf l) 25)],2,327,[]⟩ K:=by
  refine Zm [] [(641,[],di0),(644,[],di2),(1664,[di5,di6,di8],ZdT),(524928,[],XO)] (by kernel_rfl) (by kernel_rfl) (by kernel_rfl) (Zt) (Zk ?_ (Zk ?_ (Zk ?_ (Zk ?_ (Zu)))))<;>dsimp only [Zf,go_sem,rA,rM,rS]
  ·
   refine ⟨_,?_,h641⟩
   (refine Zi ?_ ?_ ?_ rfl rfl<;>dsimp only [Zc,Zj,Zg,Zf,Ze,Zh,id,go_sem,rA,rM,rS]<;>simp [Zc,Zj,Zg,Zf,Ze,Zh,Za,Zd,KFR,KFL,KF,Zb,mtO,nbr])
  ·
   refine ⟨_,?_,h644⟩
   (refine Zi ?_ ?_ ?_ rfl rfl<;>dsimp only [Zc,Zj,Zg,Zf,Ze,Zh,id,go_sem,rA,rM,rS]<;>simp [Zc,Zj,Zg,Zf,Ze,Zh,Za,Zd,KFR,KFL,KF,Zb,mtO,nbr])
  ·
   refine ⟨_,?_,h1664⟩
   (refine Zi ?_ ?_ ?_ rfl rfl<;>dsimp only [Zc,Zj,Zg,Zf,Ze,Zh,id,go_sem,rA,rM,rS]<;>simp [Zc,Zj,Zg,Zf,Ze,Zh,Za,Zd,KFR,KFL,KF,Zb,mtO,nbr])
  ·
   refine ⟨_,?_,h524928⟩
   (refine Zi ?_ ?_ ?_ rfl rfl<;>dsimp only [Zc,Zj,Zg,Zf,Ze,Zh,id,go_sem,rA,rM,rS]<;>simp [Zc,Zj,Zg,Zf,Ze,Zh,Za,Zd,KFR,KFL,KF,Zb,mtO,nbr])
 have h1:Z6 P Y0 0 l15 6791530 (Yb 0 l15 []) 10 1 ⟨[(119,.agg [.sl false 9 (l.wells.map Zc),.sl false 5 (l.legs.map Zj)]),(18,.p 1 0),(17,B true),(8,.p 0 0),(7,I teams),(6,I b),(5,I a),(4,.v (.int .u16 more)),(3,I D),(2,.sl false 3 (draws.map Zh)),(1,I (wn:Int))],[(1,.cells (Ze S) 29),(0,.cells (Zf l) 25)],2,327,[]⟩ K:=by
  refine Zm [] [(5,[],di2),(129,[di6],di7),(513,[di8],di9),(524289,[],XO)] (by kernel_rfl) (by kernel_rfl) (by kernel_rfl) (Zt) (Zk ?_ (Zk ?_ (Zk ?_ (Zk ?_ (Zu)))))<;>dsimp only [Zf,go_sem,rA,rM,rS]
  ·
   refine ⟨_,?_,h5⟩
   (refine Zi ?_ ?_ ?_ rfl rfl<;>dsimp only [Zc,Zj,Zg,Zf,Ze,Zh,id,go_sem,rA,rM,rS]<;>simp [Zc,Zj,Zg,Zf,Ze,Zh,Za,Zd,KFR,KFL,KF,Zb,mtO,nbr])
  ·
   refine ⟨_,?_,h129⟩
   (refine Zi ?_ ?_ ?_ rfl rfl<;>dsimp only [Zc,Zj,Zg,Zf,Ze,Zh,id,go_sem,rA,rM,rS]<;>simp [Zc,Zj,Zg,Zf,Ze,Zh,Za,Zd,KFR,KFL,KF,Zb,mtO,nbr])
  ·
   refine ⟨_,?_,h513⟩
   (refine Zi ?_ ?_ ?_ rfl rfl<;>dsimp only [Zc,Zj,Zg,Zf,Ze,Zh,id,go_sem,rA,rM,rS]<;>simp [Zc,Zj,Zg,Zf,Ze,Zh,Za,Zd,KFR,KFL,KF,Zb,mtO,nbr])
  ·
   refine ⟨_,?_,h524289⟩
   (refine Zi ?_ ?_ ?_ rfl rfl<;>dsimp only [Zc,Zj,Zg,Zf,Ze,Zh,id,go_sem,rA,rM,rS]<;>simp [Zc,Zj,Zg,Zf,Ze,Zh,Za,Zd,KFR,KFL,KF,Zb,mtO,nbr])
 have h512:Z6 P Y0 0 l15 6791530 (Yb 0 l15 []) 10 512 ⟨[(128,I (IntKind.i64.wrap more)),(18,.p 1 0),(17,B true),(8,.p 0 0),(7,I teams),(6,I b),(5,I a),(4,.v (.int .u16 more)),(3,I D),(2,.sl false 3 (draws.map Zh)),(1,I (wn:Int))],[(1,.cells (Ze S) 29),(0,.cells (Zf l) 25)],2,327,[]⟩ K:=by
  refine Zm [] [(513,[],di0),(516,[],di2),(640,[di6],di7),(524800,[],XO)] (by kernel_rfl) (by kernel_rfl) (by kernel_rfl) (Zt) (Zk ?_ (Zk ?_ (Zk ?_ (Zk ?_ (Zu)))))<;>dsimp only [Zf,go_sem,rA,rM,rS]
  ·
   refine ⟨_,?_,h513⟩
   (refine Zi ?_ ?_ ?_ rfl rfl<;>dsimp only [Zc,Zj,Zg,Zf,Ze,Zh,id,go_sem,rA,rM,rS]<;>simp [Zc,Zj,Zg,Zf,Ze,Zh,Za,Zd,KFR,KFL,KF,Zb,mtO,nbr])
  ·
   refine ⟨_,?_,h516⟩
   (refine Zi ?_ ?_ ?_ rfl rfl<;>dsimp only [Zc,Zj,Zg,Zf,Ze,Zh,id,go_sem,rA,rM,rS]<;>simp [Zc,Zj,Zg,Zf,Ze,Zh,Za,Zd,KFR,KFL,KF,Zb,mtO,nbr])
  ·
   refine ⟨_,?_,h640⟩
   (refine Zi ?_ ?_ ?_ rfl rfl<;>dsimp only [Zc,Zj,Zg,Zf,Ze,Zh,id,go_sem,rA,rM,rS]<;>simp [Zc,Zj,Zg,Zf,Ze,Zh,Za,Zd,KFR,KFL,KF,Zb,mtO,nbr])
  ·
   refine ⟨_,?_,h524800⟩
   (refine Zi ?_ ?_ ?_ rfl rfl<;>dsimp only [Zc,Zj,Zg,Zf,Ze,Zh,id,go_sem,rA,rM,rS]<;>simp [Zc,Zj,Zg,Zf,Ze,Zh,Za,Zd,KFR,KFL,KF,Zb,mtO,nbr])
 have h524288:Z6 P Y0 0 l15 6791530 (Yb 0 l15 []) 10 524288 ⟨[(21,.p 2 0),(18,.p 1 0),(17,B true),(8,.p 0 0),(7,I teams),(6,I b),(5,I a),(4,.v (.int .u16 more)),(3,I D),(2,.sl false 3 (draws.map Zh)),(1,I (wn:Int))],[(2,.cells [I 0,I 0] 29),(1,.cells (Ze S) 29),(0,.cells (Zf l) 25)],3,327,[]⟩ K:=by
  refine Zm [] [(524289,[],di0),(524292,[],di2),(524416,[di6],di7),(524800,[di8],di9)] (by kernel_rfl) (by kernel_rfl) (by kernel_rfl) (Zt) (Zk ?_ (Zk ?_ (Zk ?_ (Zk ?_ (Zu)))))<;>dsimp only [Zf,go_sem,rA,rM,rS]
  ·
   refine ⟨_,?_,h524289⟩
   (refine Zi ?_ ?_ ?_ rfl rfl<;>dsimp only [Zc,Zj,Zg,Zf,Ze,Zh,id,go_sem,rA,rM,rS]<;>simp [Zc,Zj,Zg,Zf,Ze,Zh,Za,Zd,KFR,KFL,KF,Zb,mtO,nbr])
  ·
   refine ⟨_,?_,h524292⟩
   (refine Zi ?_ ?_ ?_ rfl rfl<;>dsimp only [Zc,Zj,Zg,Zf,Ze,Zh,id,go_sem,rA,rM,rS]<;>simp [Zc,Zj,Zg,Zf,Ze,Zh,Za,Zd,KFR,KFL,KF,Zb,mtO,nbr])
  ·
   refine ⟨_,?_,h524416⟩
   (refine Zi ?_ ?_ ?_ rfl rfl<;>dsimp only [Zc,Zj,Zg,Zf,Ze,Zh,id,go_sem,rA,rM,rS]<;>simp [Zc,Zj,Zg,Zf,Ze,Zh,Za,Zd,KFR,KFL,KF,Zb,mtO,nbr])
  ·
   refine ⟨_,?_,h524800⟩
   (refine Zi ?_ ?_ ?_ rfl rfl<;>dsimp only [Zc,Zj,Zg,Zf,Ze,Zh,id,go_sem,rA,rM,rS]<;>simp [Zc,Zj,Zg,Zf,Ze,Zh,Za,Zd,KFR,KFL,KF,Zb,mtO,nbr])
 have h4:Z6 P Y0 0 l15 6791530 (Yb 0 l15 []) 10 4 ⟨[(121,.sl true 3 []),(18,.p 1 0),(17,B true),(8,.p 0 0),(7,I teams),(6,I b),(5,I a),(4,.v (.int .u16 more)),(3,I D),(2,.sl false 3 (draws.map Zh)),(1,I (wn:Int))],[(1,.cells (Ze S) 29),(0,.cells (Zf l) 25)],2,327,[]⟩ K:=by
  refine Zm [] [(5,[],di0),(20,[di3],di4),(132,[di6],di7),(516,[di8],di9),(524292,[],XO)] (by kernel_rfl) (by kernel_rfl) (by kernel_rfl) (Zt) (Zk ?_ (Zk ?_ (Zk ?_ (Zk ?_ (Zk ?_ (Zu))))))<;>dsimp only [Zf,go_sem,rA,rM,rS]
  ·
   refine ⟨_,?_,h5⟩
   (refine Zi ?_ ?_ ?_ rfl rfl<;>dsimp only [Zc,Zj,Zg,Zf,Ze,Zh,id,go_sem,rA,rM,rS]<;>simp [Zc,Zj,Zg,Zf,Ze,Zh,Za,Zd,KFR,KFL,KF,Zb,mtO,nbr])
  ·
   refine ⟨by simp only [List.length_map];omega,?_⟩
   dsimp only [go_sem,rA,rM,rS]
   refine ⟨_,?_,h20⟩
   (refine Zi ?_ ?_ ?_ rfl rfl<;>dsimp only [Zc,Zj,Zg,Zf,Ze,Zh,id,go_sem,rA,rM,rS]<;>simp [Zc,Zj,Zg,Zf,Ze,Zh,Za,Zd,KFR,KFL,KF,Zb,mtO,nbr])
  ·
   refine ⟨_,?_,h132⟩
   (refine Zi ?_ ?_ ?_ rfl rfl<;>dsimp only [Zc,Zj,Zg,Zf,Ze,Zh,id,go_sem,rA,rM,rS]<;>simp [Zc,Zj,Zg,Zf,Ze,Zh,Za,Zd,KFR,KFL,KF,Zb,mtO,nbr])
  ·
   refine ⟨_,?_,h516⟩
   (refine Zi ?_ ?_ ?_ rfl rfl<;>dsimp only [Zc,Zj,Zg,Zf,Ze,Zh,id,go_sem,rA,rM,rS]<;>simp [Zc,Zj,Zg,Zf,Ze,Zh,Za,Zd,KFR,KFL,KF,Zb,mtO,nbr])
  ·
   refine ⟨_,?_,h524292⟩
   (refine Zi ?_ ?_ ?_ rfl rfl<;>dsimp only [Zc,Zj,Zg,Zf,Ze,Zh,id,go_sem,rA,rM,rS]<;>simp [Zc,Zj,Zg,Zf,Ze,Zh,Za,Zd,KFR,KFL,KF,Zb,mtO,nbr])
 have h128:Z6 P Y0 0 l15 6791530 (Yb 0 l15 []) 10 128 ⟨[(126,I (IntKind.i64.wrap (D - 1))),(18,.p 1 0),(17,B true),(8,.p 0 0),(7,I teams),(6,I b),(5,I a),(4,.v (.int .u16 more)),(3,I D),(2,.sl false 3 (draws.map Zh)),(1,I (wn:Int))],[(1,.cells (Ze S) 29),(0,.cells (Zf l) 25)],2,327,[]⟩ K:=by
  refine Zm [] [(129,[],di0),(132,[],di2),(640,[di8],di9),(524416,[],XO)] (by kernel_rfl) (by kernel_rfl) (by kernel_rfl) (Zt) (Zk ?_ (Zk ?_ (Zk ?_ (Zk ?_ (Zu)))))<;>dsimp only [Zf,go_sem,rA,rM,rS]
  ·
   refine ⟨_,?_,h129⟩
   (refine Zi ?_ ?_ ?_ rfl rfl<;>dsimp only [Zc,Zj,Zg,Zf,Ze,Zh,id,go_sem,rA,rM,rS]<;>simp [Zc,Zj,Zg,Zf,Ze,Zh,Za,Zd,KFR,KFL,KF,Zb,mtO,nbr])
  ·
   refine ⟨_,?_,h132⟩
   (refine Zi ?_ ?_ ?_ rfl rfl<;>dsimp only [Zc,Zj,Zg,Zf,Ze,Zh,id,go_sem,rA,rM,rS]<;>simp [Zc,Zj,Zg,Zf,Ze,Zh,Za,Zd,KFR,KFL,KF,Zb,mtO,nbr])
  ·
   refine ⟨_,?_,h640⟩
   (refine Zi ?_ ?_ ?_ rfl rfl<;>dsimp only [Zc,Zj,Zg,Zf,Ze,Zh,id,go_sem,rA,rM,rS]<;>simp [Zc,Zj,Zg,Zf,Ze,Zh,Za,Zd,KFR,KFL,KF,Zb,mtO,nbr])
  ·
   refine ⟨_,?_,h524416⟩
   (refine Zi ?_ ?_ ?_ rfl rfl<;>dsimp only [Zc,Zj,Zg,Zf,Ze,Zh,id,go_sem,rA,rM,rS]<;>simp [Zc,Zj,Zg,Zf,Ze,Zh,Za,Zd,KFR,KFL,KF,Zb,mtO,nbr])
 have h0:Z6 P Y0 0 l15 6791530 (Yb 0 l15 []) 11 0 ⟨[(18,.p 1 0),(17,B true),(8,.p 0 0),(7,I teams),(6,I b),(5,I a),(4,.v (.int .u16 more)),(3,I D),(2,.sl false 3 (draws.map Zh)),(1,I (wn:Int))],[(1,.cells (Ze S) 29),(0,.cells (Zf l) 25)],2,327,[]⟩ K:=by
  refine Zm [] [(1,[],di0),(4,[],di2),(128,[di6],di7),(512,[di8],di9),(524288,[],XO)] (by kernel_rfl) (by kernel_rfl) (by kernel_rfl) (Zt) (Zk ?_ (Zk ?_ (Zk ?_ (Zk ?_ (Zk ?_ (Zu))))))<;>dsimp only [Zf,go_sem,rA,rM,rS]
  ·
   refine ⟨_,?_,h1⟩
   (refine Zi ?_ ?_ ?_ rfl rfl<;>dsimp only [Zc,Zj,Zg,Zf,Ze,Zh,id,go_sem,rA,rM,rS]<;>simp [Zc,Zj,Zg,Zf,Ze,Zh,Za,Zd,KFR,KFL,KF,Zb,mtO,nbr])
  ·
   refine ⟨_,?_,h4⟩
   (refine Zi ?_ ?_ ?_ rfl rfl<;>dsimp only [Zc,Zj,Zg,Zf,Ze,Zh,id,go_sem,rA,rM,rS]<;>simp [Zc,Zj,Zg,Zf,Ze,Zh,Za,Zd,KFR,KFL,KF,Zb,mtO,nbr])
  ·
   refine ⟨_,?_,h128⟩
   (refine Zi ?_ ?_ ?_ rfl rfl<;>dsimp only [Zc,Zj,Zg,Zf,Ze,Zh,id,go_sem,rA,rM,rS]<;>simp [Zc,Zj,Zg,Zf,Ze,Zh,Za,Zd,KFR,KFL,KF,Zb,mtO,nbr])
  ·
   refine ⟨_,?_,h512⟩
   (refine Zi ?_ ?_ ?_ rfl rfl<;>dsimp only [Zc,Zj,Zg,Zf,Ze,Zh,id,go_sem,rA,rM,rS]<;>simp [Zc,Zj,Zg,Zf,Ze,Zh,Za,Zd,KFR,KFL,KF,Zb,mtO,nbr])
  ·
   refine ⟨_,?_,h524288⟩
   (refine Zi ?_ ?_ ?_ rfl rfl<;>dsimp only [Zc,Zj,Zg,Zf,Ze,Zh,id,go_sem,rA,rM,rS]<;>simp [Zc,Zj,Zg,Zf,Ze,Zh,Za,Zd,KFR,KFL,KF,Zb,mtO,nbr])
 exact h0
end Go.Proofs.Ytkjldleglbbkeaa
namespace Go.Azalai
def Zel (l:List Draw):Draw:=match l[l.length - 1]? with | some x=>x | none=>⟨0,0,0⟩
theorem Zn7 {l:List Draw} (h:0 < l.length):l[l.length - 1]? = some (Zel l):=by
 unfold Zel;rw [List.getElem?_eq_getElem (by omega)]
theorem Ztj {l:List Draw} {D:Int} (h:l.length=0\/(Zel l).day < D):∀ hk:l.length - 1 < l.length,l[l.length - 1].day < D:=fun hk=>by
 rcases h with h | h
 . omega
 . unfold Zel at h;rw [List.getElem?_eq_getElem hk] at h;exact h
end Go.Azalai
namespace Go.Proofs.Ytkjldleglbbkeaa
open Go Go.Sx Go.Azalai
def U16 (n:Int):SV:=.v (.int .u16 n)
theorem ZcT (l:Land) (well:Int) (draws:List Draw) (D more a b teams:Int) (hm:0<=more/\more<=65535) (hdl:draws.length<=9223372036854775807) :
 Ct Try.prog 15 [.agg (Zf l),I well,.sl false 3 (draws.map Zh),I D,U16 more,I a,I b,I teams] (B true):=by
 refine t15.1 (by simp [Zf,Zc,Zj,Zg,Ze,Za,Zh,U16,KFL,KF]) (by simp [KFL,KF]) ?_
 dsimp only [c15,r15,Zf,U16,go_sem,rA,rM,rS]
 refine call ZnN ?_
 dsimp only [go_sem,rA,rM,rS]
 refine ZF (by simp) ?_
 dsimp only [go_sem,rA,rM,rS]
 refine call (ZmV l) ?_
 dsimp only [go_sem,rA,rM,rS]
 cases hgr:Zap l
 rotate_left
 . repeat (refine Xu (by decide) ?_;dsimp only [go_sem,rA,rM,rS])
   refine ZP (by decide) ?_
   dsimp only [go_sem,rA,rM,rS]
 have hs:=Zc1 hgr
 refine ZU rfl ?_
 dsimp only [go_sem,rA,rM,rS]
 refine ZU rfl ?_
 dsimp only [go_sem,rA,rM,rS]
 refine call (ZiN l hs) ?_
 dsimp only [go_sem,rA,rM,rS]
 refine ZU rfl ?_
 dsimp only [go_sem,rA,rM,rS]
 cases hl:ZW l
 . simp only [Bool.false_eq_true,if_false,show ((30:Int) != 0)=true from rfl]
   repeat (refine Xu (by decide) ?_;dsimp only [go_sem,rA,rM,rS])
   refine ZP (by decide) ?_
   dsimp only [go_sem,rA,rM,rS]
 simp only [if_true,show ((0:Int) != 0)=false from rfl]
 refine ZU rfl ?_
 dsimp only [go_sem,rA,rM,rS]
 refine ZU rfl ?_
 dsimp only [go_sem,rA,rM,rS]
 have hland:=XN hl
 simp only [List.length_map,Bool.false_or]
 by_cases w0:well < 0
 . simp only [decide_eq_true w0]
   repeat (refine Xu (by decide) ?_;dsimp only [go_sem,rA,rM,rS])
   refine ZP (by decide) ?_
   dsimp only [go_sem,rA,rM,rS]
 simp only [decide_eq_false w0]
 repeat (refine ZU rfl ?_;dsimp only [go_sem,rA,rM,rS])
 simp only [List.length_map,Bool.false_or]
 by_cases w1:well ≥ (l.wells.length:Int)
 . simp only [decide_eq_true w1]
   repeat (refine Xu (by decide) ?_;dsimp only [go_sem,rA,rM,rS])
   refine ZP (by decide) ?_
   dsimp only [go_sem,rA,rM,rS]
 simp only [decide_eq_false w1]
 repeat (refine ZU rfl ?_;dsimp only [go_sem,rA,rM,rS])
 simp only [List.length_map,Bool.false_or]
 by_cases w2:(draws.length:Int) > 200
 . simp only [decide_eq_true w2]
   repeat (refine Xu (by decide) ?_;dsimp only [go_sem,rA,rM,rS])
   refine ZP (by decide) ?_
   dsimp only [go_sem,rA,rM,rS]
 simp only [decide_eq_false w2]
 repeat (refine ZU rfl ?_;dsimp only [go_sem,rA,rM,rS])
 refine call (Zgo l hs draws (by omega)) ?_
 dsimp only [go_sem,rA,rM,rS]
 refine ZU rfl ?_
 dsimp only [go_sem,rA,rM,rS]
 cases hdr:ZY l.wells.length 0 draws
 . repeat (refine Xu (by decide) ?_;dsimp only [go_sem,rA,rM,rS])
   refine ZP (by decide) ?_
   dsimp only [go_sem,rA,rM,rS]
 simp only [Bool.not_true,Bool.false_or]
 refine ZU rfl ?_
 dsimp only [go_sem,rA,rM,rS]
 refine ZU rfl ?_
 dsimp only [go_sem,rA,rM,rS]
 simp only [Bool.false_or]
 by_cases w3:D < 0
 . simp only [decide_eq_true w3]
   repeat (refine Xu (by decide) ?_;dsimp only [go_sem,rA,rM,rS])
   refine ZP (by decide) ?_
   dsimp only [go_sem,rA,rM,rS]
 simp only [decide_eq_false w3]
 refine ZU rfl ?_
 dsimp only [go_sem,rA,rM,rS]
 refine ZU rfl ?_
 dsimp only [go_sem,rA,rM,rS]
 by_cases w4:D > 100000
 . refine ZP (by simp [w4]) ?_
   dsimp only [go_sem,rA,rM,rS]
 refine ZF (by simp [w4]) ?_
 dsimp only [go_sem,rA,rM,rS]
 obtain ⟨wn,rfl⟩:∃ k:Nat,well=k:=⟨well.toNat,by omega⟩
 have hwn:wn < l.wells.length:=by omega
 refine call (UG l hs wn D draws (by omega)) ?_
 dsimp only [ZcP,Ze,go_sem,rA,rM,rS]
 have hse:(Z4 l wn draws D).2.2=0\/(Z4 l wn draws D).2.2=33:=by
  rw [Wu hl hwn rfl (by omega) (by omega) hdr];exact Uh
 have hlaw:=fun (h1:draws.length < 200) (h2:draws.length=0\/(Zel draws).day < D) (h3:0 < D) (h0:(Z4 l wn draws D).2.2=0)=>Zgt (more:=more) hl hwn ⟨h3,by omega⟩ hm h1 hdr (ZgM hdr (Ztj h2)) h0
 have hdep:(0<=l.wells[wn].depth/\l.wells[wn].depth<=200)/\(0<=l.wells[wn].yld.lo/\l.wells[wn].yld.lo<=l.wells[wn].yld.hi/\l.wells[wn].yld.hi<=10000000)/\0<=l.wells[wn].room/\l.wells[wn].room<=1000000000:=by
  have hwk:=YY hl l.wells[wn] (List.getElem_mem _)
  simp only [Yj,W3,inR,Bool.and_eq_true,decide_eq_true_eq] at hwk
  omega
 have hsb:=ZlY hl hwn (D:=D) (by omega) (by omega) hdr
 generalize hSd:Z4 l wn draws D=S at hse hlaw hsb
 obtain ⟨⟨slo,shi⟩,sat,se⟩:=S
 simp only at hse hlaw hsb
 dsimp only [go_sem,rA,rM,rS]
 repeat (refine gb ?_;dsimp only [go_sem,rA,rM,rS])
 refine ZF (by rcases hse with h | h<;>simp [h]) ?_
 dsimp only [go_sem,rA,rM,rS]
 repeat (refine gb ?_;dsimp only [go_sem,rA,rM,rS])
 simp only [List.length_map]
 refine ZoW (draws.length - 1) (Zh (Zel draws)) rfl (fun h=>⟨by have h':draws.length≠0:=(by simpa using h);rw [Zp (by omega) (by omega)];omega,by have h':draws.length≠0:=(by simpa using h);rw [List.getElem?_map,Zn7 (by omega)];rfl⟩) ?_
 dsimp only [Zh,go_sem,rA,rM,rS]
 repeat (refine gb ?_;dsimp only [go_sem,rA,rM,rS])
 generalize hC:(se == 0 && decide ((draws.length:Int) < 200) && _ && _)=Cc
 cases Cc
 . refine ZF rfl ?_
   dsimp only [go_sem,rA,rM,rS]
   refine gh (σ1:=⟨[(18,.p 1 0),(17,B true),(8,.p 0 0),(7,I teams),(6,I b),(5,I a),(4,.v (.int .u16 more)),(3,I D),(2,.sl false 3 (draws.map Zh)),(1,I (wn:Int))],[(1,.cells (Ze ⟨slo,shi⟩) 29),(0,.cells (Zf l) 25)],2,327,[]⟩) ?_ ?_
   . (refine Zi ?_ ?_ ?_ rfl rfl<;>dsimp only [Zc,Zj,Zg,Zf,Ze,Zh,id,go_sem,rA,rM,rS]<;>simp [Zc,Zj,Zg,Zf,Ze,Zh,Za,Zd,KFR,KFL,KF,Zb,mtO,nbr])
   refine ZgF l hl hs wn hwn draws D more a b teams ⟨slo,shi⟩ _ ?_
   intro fr hp n N gs
   dsimp only [go_sem,rA,rM,rS]
 refine ZP rfl ?_
 simp only [Bool.and_eq_true,Bool.or_eq_true,beq_iff_eq,decide_eq_true_eq] at hC
 obtain ⟨⟨⟨c1,c2⟩,c3⟩,c4⟩:=hC
 obtain ⟨hL1,hL2⟩:=hlaw (by omega) (by omega) c4 c1
 dsimp only [go_sem,rA,rM,rS]
 refine gh (σ1:=⟨[(18,.p 1 0),(17,B true),(8,.p 0 0),(7,I teams),(6,I b),(5,I a),(4,.v (.int .u16 more)),(3,I D),(2,.sl false 3 (draws.map Zh)),(1,I (wn:Int))],[(1,.cells (Ze ⟨slo,shi⟩) 29),(0,.cells (Zf l) 25)],2,327,[]⟩) ?_ ?_
 . (refine Zi ?_ ?_ ?_ rfl rfl<;>dsimp only [Zc,Zj,Zg,Zf,Ze,Zh,id,go_sem,rA,rM,rS]<;>simp [Zc,Zj,Zg,Zf,Ze,Zh,Za,Zd,KFR,KFL,KF,Zb,mtO,nbr])
 refine ⟨_,Wd,?_⟩
 rw [show npc 6791530 l15=11 from by kernel_rfl]
 have hC':=UG l hs wn D (draws ++ [⟨wn,D - 1,more⟩]) (by simp;omega)
 rw [show (draws ++ [(⟨wn,D - 1,more⟩:Draw)]).map Zh=draws.map Zh ++ [[I (wn:Int),I (IntKind.i64.wrap (D - 1)),I (IntKind.i64.wrap more)]] from by rw [Zp (n:=D - 1) (by omega) (by omega),Zp (n:=more) (by omega) (by omega)];simp [Zh]] at hC'
 refine Zm2 l wn draws D more a b teams ⟨slo,shi⟩ _ (by omega) (by exact hC') _ ?_
 generalize Z4 l wn (draws ++ [⟨wn,D - 1,more⟩]) D=T at hL1
 intro σF eF
 subst eF
 obtain ⟨⟨tlo,thi⟩,tat,te⟩:=T
 simp only at hL1
 dsimp only [go_sem,rA,rM,rS]
 repeat (refine gb ?_;dsimp only [go_sem,rA,rM,rS])
 rw [Zp (n:=more) (by omega) (by omega)]
 rw [Zp (n:=shi - more) (by omega) (by omega),Zp (n:=slo - more) (by omega) (by omega)]
 refine ZF (by
  rcases hL1 with ⟨h1,h2⟩ | ⟨h1,h2⟩
  . simp [h1];omega
  . injection h2 with h3 h4
    simp [h1,h3,h4]) ?_
 dsimp only [go_sem,rA,rM,rS]
 by_cases hD1:D < 100000
 rotate_left
 . refine ZF (by simpa using hD1) ?_
   dsimp only [go_sem,rA,rM,rS]
   refine gh (σ1:=⟨[(18,.p 1 0),(17,B true),(8,.p 0 0),(7,I teams),(6,I b),(5,I a),(4,.v (.int .u16 more)),(3,I D),(2,.sl false 3 (draws.map Zh)),(1,I (wn:Int))],[(1,.cells (Ze ⟨slo,shi⟩) 29),(0,.cells (Zf l) 25)],2,327,[]⟩) ?_ ?_
   . (refine Zi ?_ ?_ ?_ rfl rfl<;>dsimp only [Zc,Zj,Zg,Zf,Ze,Zh,id,go_sem,rA,rM,rS]<;>simp [Zc,Zj,Zg,Zf,Ze,Zh,Za,Zd,KFR,KFL,KF,Zb,mtO,nbr])
   refine ZgF l hl hs wn hwn draws D more a b teams ⟨slo,shi⟩ _ ?_
   intro fr hp n N gs
   dsimp only [go_sem,rA,rM,rS]
 refine ZP (by simpa using hD1) ?_
 dsimp only [Zf,go_sem,rA,rM,rS]
 rw [Zp (n:=D+1) (by omega) (by omega)]
 refine call (UG l hs wn (D+1) draws (by omega)) ?_
 rw [hL2 hD1]
 dsimp only [ZcP,Ze,Zf,go_sem,rA,rM,rS]
 refine Zy wn hwn rfl ?_
 dsimp only [Zc,go_sem,rA,rM,rS]
 simp only [show ((0:Int) != 0)=false from rfl]
 iterate 19 (refine ZU rfl ?_;dsimp only [go_sem,rA,rM,rS])
 refine ZU rfl ?_
 dsimp only [go_sem,rA,rM,rS]
 rw [Zp (n:=slo+l.wells[wn].yld.lo) (by omega) (by omega),Zp (n:=shi+l.wells[wn].yld.hi) (by omega) (by omega)]
 refine call (Zbt _ _) ?_
 dsimp only [Ze,go_sem,rA,rM,rS]
 refine ZU rfl ?_
 dsimp only [go_sem,rA,rM,rS]
 refine ZF (by simp) ?_
 dsimp only [go_sem,rA,rM,rS]
 refine gh (σ1:=⟨[(18,.p 1 0),(17,B true),(8,.p 0 0),(7,I teams),(6,I b),(5,I a),(4,.v (.int .u16 more)),(3,I D),(2,.sl false 3 (draws.map Zh)),(1,I (wn:Int))],[(1,.cells (Ze ⟨slo,shi⟩) 29),(0,.cells (Zf l) 25)],2,327,[]⟩) ?_ ?_
 . (refine Zi ?_ ?_ ?_ rfl rfl<;>dsimp only [Zc,Zj,Zg,Zf,Ze,Zh,id,go_sem,rA,rM,rS]<;>simp [Zc,Zj,Zg,Zf,Ze,Zh,Za,Zd,KFR,KFL,KF,Zb,mtO,nbr])
 refine ZgF l hl hs wn hwn draws D more a b teams ⟨slo,shi⟩ _ ?_
 intro fr hp n N gs
 dsimp only [go_sem,rA,rM,rS]
end Go.Proofs.Ytkjldleglbbkeaa
