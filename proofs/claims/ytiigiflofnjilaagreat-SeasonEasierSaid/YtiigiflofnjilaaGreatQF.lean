/- Walks and plain laws that lead to the given statement, part 6 of 9. -/
import Derived.Test.YtiigiflofnjilaaGreatQE
import Derived.Test.YtiigiflofnjilaaGreatProg
set_option maxRecDepth 100000
set_option maxHeartbeats 4000000
set_option linter.all false
open Nat renaming reduceAdd->rA,reduceMul->rM,reduceSub->rS,beq_refl->nbr
namespace Go.Proofs.YtiigiflofnjilaaGreat.Cm
open Go Go.Sx Go.Azalai
def breedL (b:Breed):List SV:=[I b.full,I b.fed,I b.rest.lo,I b.rest.hi,I b.heat.lo,I b.heat.hi,I b.toil.lo,I b.toil.hi,I b.burn.lo,I b.burn.hi,I b.rub.lo,I b.rub.hi,I b.milk.lo,I b.milk.hi,I b.heal,I b.strong.lo,I b.strong.hi]
def camelL (c:Camel):List SV:=[I c.water.lo,I c.water.hi,I c.fat.lo,I c.fat.hi,I c.sore.lo,I c.sore.hi,B c.milks]
def Yx (b:Breed) (c:Camel):List SV:=[I b.full,I b.fed,I b.rest.lo,I b.rest.hi,I b.heat.lo,I b.heat.hi,I b.toil.lo,I b.toil.hi,I b.burn.lo,I b.burn.hi,I b.rub.lo,I b.rub.hi,I b.milk.lo,I b.milk.hi,I b.heal,I b.strong.lo,I b.strong.hi,I c.water.lo,I c.water.hi,I c.fat.lo,I c.fat.hi,I c.sore.lo,I c.sore.hi,B c.milks]
def Xh (m:March):List SV:=[I m.hours,I m.load,I m.heat.lo,I m.heat.hi,I m.grass.lo,I m.grass.hi,I m.drinks.lo,I m.drinks.hi]
theorem W6 {α : Type} (g:α->Bool) (l:List α):decide (WC g l 0 ≥ 0)=l.any g:=Zfh g l 0
theorem ZmF (h:Nat) (caps:List SV) (hk:KFL caps) (g:Int->Bool) (l:List Int) (hg:∀ x ∈ l,Ct Tryz.prog h (I x :: caps) (B (g x))) (hl:l.length < 4611686018427387904) {c:Bool} :
 Ct Tryz.prog 141 [.sl c 1 (l.map Zo),.cl h caps] (I (WC g l 0)):=by
 refine t141.1 ⟨by simp [KF,Za,KFL,Zo],hk,trivial⟩ (by simp [KF]) ?_
 dsimp only [c141,r141,go_sem,rA,rM,rS]
 refine Xu (fun k:Nat=>[(8,I k)]) (fun _=>[]) (fun k=>k<=l.length/\WC g (l.drop k) k=WC g l 0) (fun k=>l.length - k) 0 ⟨Nat.zero_le _,rfl⟩ ?_ ?_
 . (refine Zk ?_ ?_ ?_ rfl rfl<;>dsimp only [Zo,hk,id,go_sem,rA,rM,rS]<;>simp [Zo,hk,Za,Zf,KFR,KFL,KF,Zc,mtO,nbr])
 . intro k ⟨hk',hi⟩
   dsimp only [go_sem,rA,rM,rS]
   refine br ?_ ?_
   . intro hlt
     have hlt:k < l.length:=by simpa using hlt
     dsimp only [go_sem,rA,rM,rS]
     refine Zr k hlt rfl ?_
     dsimp only [Zo,go_sem,rA,rM,rS]
     refine call (hg l[k] (List.getElem_mem _)) ?_
     dsimp only [go_sem,rA,rM,rS]
     refine br ?_ ?_
     . intro hgx
       dsimp only [go_sem,rA,rM,rS]
       rw [<- hi,List.drop_eq_getElem_cons hlt]
       simp [WC,hgx]
     . intro hgx
       dsimp only [go_sem,rA,rM,rS]
       refine ⟨k+1,⟨by omega,?_⟩,by omega,?_⟩
       . rw [<- hi,List.drop_eq_getElem_cons hlt];simp [WC,hgx]
       . rw [Zi (by omega) (by omega)]
         (refine Zk ?_ ?_ ?_ rfl rfl<;>dsimp only [Zo,hk,id,go_sem,rA,rM,rS]<;>simp [Zo,hk,Za,Zf,KFR,KFL,KF,Zc,mtO,nbr])
   . intro hlt
     have hlt:k=l.length:=by simp at hlt;omega
     dsimp only [go_sem,rA,rM,rS]
     rw [<- hi,hlt];simp [WC]
theorem con91 (h:Nat) (caps:List SV) (hk:KFL caps) (g:Int->Bool) (l:List Int) (hg:∀ x ∈ l,Ct Tryz.prog h (I x :: caps) (B (g x))) (hl:l.length < 4611686018427387904) {c:Bool} :
 Ct Tryz.prog 98 [.sl c 1 (l.map Zo),.cl h caps] (B (l.any g)):=by
 refine t98.1 ⟨by simp [KF,Za,KFL,Zo],hk,trivial⟩ (by simp [KF]) ?_
 dsimp only [c98,r98,go_sem,rA,rM,rS]
 refine call (ZmF h caps hk g l hg hl) ?_
 dsimp only [go_sem,rA,rM,rS]
 rw [W6]
theorem Zzh (h:Nat) (caps:List SV) (hk:KFL caps) (g:Span->Bool) (l:List Span) (hg:∀ x ∈ l,Ct Tryz.prog h (.agg (Zd x) :: caps) (B (g x))) (hl:l.length < 4611686018427387904) {c:Bool} :
 Ct Tryz.prog 143 [.sl c 2 (l.map Zd),.cl h caps] (I (WC g l 0)):=by
 refine t143.1 ⟨by simp [KF,Za,KFL,Zd],hk,trivial⟩ (by simp [KF]) ?_
 dsimp only [c143,r143,go_sem,rA,rM,rS]
 refine Xu (fun k:Nat=>[(8,I k)]) (fun _=>[]) (fun k=>k<=l.length/\WC g (l.drop k) k=WC g l 0) (fun k=>l.length - k) 0 ⟨Nat.zero_le _,rfl⟩ ?_ ?_
 . (refine Zk ?_ ?_ ?_ rfl rfl<;>dsimp only [Zd,hk,id,go_sem,rA,rM,rS]<;>simp [Zd,hk,Za,Zf,KFR,KFL,KF,Zc,mtO,nbr])
 . intro k ⟨hk',hi⟩
   dsimp only [go_sem,rA,rM,rS]
   refine br ?_ ?_
   . intro hlt
     have hlt:k < l.length:=by simpa using hlt
     dsimp only [go_sem,rA,rM,rS]
     refine Zr k hlt rfl ?_
     dsimp only [Zd,go_sem,rA,rM,rS]
     refine call (hg l[k] (List.getElem_mem _)) ?_
     dsimp only [go_sem,rA,rM,rS]
     refine br ?_ ?_
     . intro hgx
       dsimp only [go_sem,rA,rM,rS]
       rw [<- hi,List.drop_eq_getElem_cons hlt]
       simp [WC,hgx]
     . intro hgx
       dsimp only [go_sem,rA,rM,rS]
       refine ⟨k+1,⟨by omega,?_⟩,by omega,?_⟩
       . rw [<- hi,List.drop_eq_getElem_cons hlt];simp [WC,hgx]
       . rw [Zi (by omega) (by omega)]
         (refine Zk ?_ ?_ ?_ rfl rfl<;>dsimp only [Zd,hk,id,go_sem,rA,rM,rS]<;>simp [Zd,hk,Za,Zf,KFR,KFL,KF,Zc,mtO,nbr])
   . intro hlt
     have hlt:k=l.length:=by simp at hlt;omega
     dsimp only [go_sem,rA,rM,rS]
     rw [<- hi,hlt];simp [WC]
theorem con93 (h:Nat) (caps:List SV) (hk:KFL caps) (g:Span->Bool) (l:List Span) (hg:∀ x ∈ l,Ct Tryz.prog h (.agg (Zd x) :: caps) (B (g x))) (hl:l.length < 4611686018427387904) {c:Bool} :
 Ct Tryz.prog 102 [.sl c 2 (l.map Zd),.cl h caps] (B (l.any g)):=by
 refine t102.1 ⟨by simp [KF,Za,KFL,Zd],hk,trivial⟩ (by simp [KF]) ?_
 dsimp only [c102,r102,go_sem,rA,rM,rS]
 refine call (Zzh h caps hk g l hg hl) ?_
 dsimp only [go_sem,rA,rM,rS]
 rw [W6]
theorem X2 (n lo hi:Int):Ct Tryz.prog 165 [I n,I lo,I hi] (B (inR lo hi n)):=by
 refine t165.1 (by simp [KFL,KF]) (by simp [KFL,KF]) ?_
 dsimp only [c165,r165,go_sem,rA,rM,rS]
 refine gb ?_;dsimp only [go_sem,rA,rM,rS]
 refine gb ?_;dsimp only [go_sem,rA,rM,rS]
 refine gb ?_;dsimp only [go_sem,rA,rM,rS]
 simp [inR]
theorem ZR (s:Span) (lo hi:Int):Ct Tryz.prog 166 [.agg (Zd s),I lo,I hi] (B (Z3 lo hi s)):=by
 refine t166.1 (by simp [Zd,KFL,KF]) (by simp [KFL,KF]) ?_
 dsimp only [c166,r166,Zd,go_sem,rA,rM,rS]
 refine call (X2 _ _ _) ?_
 dsimp only [go_sem,rA,rM,rS]
 repeat (refine gb ?_;dsimp only [go_sem,rA,rM,rS])
 (simp only [Z3,inR,Option.some.injEq,SV.v.injEq,Value.bool.injEq]<;>grind)
theorem Zdd (lo hi x:Int):Ct Tryz.prog 160 [I x,.ps [I lo] 0,.ps [I hi] 0] (B (!inR lo hi x)):=by
 refine t160.1 (by simp [KFL,KF]) (by simp [KFL,KF]) ?_
 dsimp only [c160,r160,go_sem,rA,rM,rS]
 repeat (refine gb ?_;dsimp only [go_sem,rA,rM,rS])
 (simp only [inR,Option.some.injEq,SV.v.injEq,Value.bool.injEq]<;>grind)
theorem UB (lo hi:Int) (l:List Int) (hl:l.length < 4611686018427387904) (c:Bool):Ct Tryz.prog 125 [I lo,I hi,.sl c 1 (l.map Zo)] (B (l.all (inR lo hi))):=by
 refine t125.1 (by simp [Za,Zo,KFL,KF]) (by simp [KFL,KF]) ?_
 dsimp only [c125,r125,go_sem,rA,rM,rS]
 refine UF (by simp [FLT]) (res:=B (l.any fun x=>!inR lo hi x)) ?_ ?_
 . dsimp only [go_sem,rA,rM,rS]
   exact con91 160 [.ps [I lo] 0,.ps [I hi] 0] (by simp [KFL,KF]) (fun x=>!inR lo hi x) l (fun x _=>Zdd lo hi x) hl
 . dsimp only [go_sem,rA,rM,rS]
   simp [List.all_eq_not_any_not]
theorem Zas (lo hi a:Int) (c:Bool):Ct Tryz.prog 125 [I lo,I hi,.sl c 1 [[I a]]] (B (inR lo hi a)):=by
 have:=UB lo hi [a] (by simp) c
 simpa [Zo] using this
theorem ZeQ (lo hi a b:Int) (c:Bool):Ct Tryz.prog 125 [I lo,I hi,.sl c 1 [[I a],[I b]]] (B (inR lo hi a && inR lo hi b)):=by
 have:=UB lo hi [a,b] (by simp) c
 simpa [Zo] using this
theorem Uq (lo hi:Int) (s:Span):Ct Tryz.prog 142 [.agg (Zd s),.ps [I lo] 0,.ps [I hi] 0] (B (!Z3 lo hi s)):=by
 refine t142.1 (by simp [Zd,KFL,KF]) (by simp [KFL,KF]) ?_
 dsimp only [c142,r142,Zd,go_sem,rA,rM,rS]
 repeat (first | (refine gb ?_;dsimp only [go_sem,rA,rM,rS]) | (refine call (ZeQ _ _ _ _ _) ?_;dsimp only [go_sem,rA,rM,rS]))
 (simp only [Z3,inR,Option.some.injEq,SV.v.injEq,Value.bool.injEq]<;>grind)
theorem XA (lo hi:Int) (l:List Span) (hl:l.length < 4611686018427387904) (c:Bool):Ct Tryz.prog 101 [I lo,I hi,.sl c 2 (l.map Zd)] (B (l.all (Z3 lo hi))):=by
 refine t101.1 (by simp [Za,Zd,KFL,KF]) (by simp [KFL,KF]) ?_
 dsimp only [c101,r101,go_sem,rA,rM,rS]
 refine UF (by simp [FLT]) (res:=B (l.any fun x=>!Z3 lo hi x)) ?_ ?_
 . dsimp only [go_sem,rA,rM,rS]
   exact con93 142 [.ps [I lo] 0,.ps [I hi] 0] (by simp [KFL,KF]) (fun x=>!Z3 lo hi x) l (fun x _=>Uq lo hi x) hl
 . dsimp only [go_sem,rA,rM,rS]
   simp [List.all_eq_not_any_not]
theorem Xl (lo hi:Int) (s:Span) (c:Bool):Ct Tryz.prog 101 [I lo,I hi,.sl c 2 [[I s.lo,I s.hi]]] (B (Z3 lo hi s)):=by
 have:=XA lo hi [s] (by simp) c
 simpa [Zd] using this
theorem ZdC (lo hi:Int) (s t:Span) (c:Bool):Ct Tryz.prog 101 [I lo,I hi,.sl c 2 [[I s.lo,I s.hi],[I t.lo,I t.hi]]] (B (Z3 lo hi s && Z3 lo hi t)):=by
 have:=XA lo hi [s,t] (by simp) c
 simpa [Zd] using this
theorem Zpk (lo hi:Int) (a b c d e f:Span) (k:Bool):Ct Tryz.prog 101 [I lo,I hi,.sl k 2 [[I a.lo,I a.hi],[I b.lo,I b.hi],[I c.lo,I c.hi],[I d.lo,I d.hi],[I e.lo,I e.hi],[I f.lo,I f.hi]]]
 (B (Z3 lo hi a && (Z3 lo hi b && (Z3 lo hi c && (Z3 lo hi d && (Z3 lo hi e && Z3 lo hi f)))))):=by
 have:=XA lo hi [a,b,c,d,e,f] (by simp) k
 simpa [Zd] using this
theorem ZdP (b:Breed):Ct Tryz.prog 100 [.agg (breedL b)] (I (ZyB b)):=by
 refine t100.1 (by simp [breedL,KFL,KF]) (by simp [KFL,KF]) ?_
 dsimp only [c100,r100,breedL,go_sem,rA,rM,rS]
 repeat (first | (refine gb ?_;dsimp only [go_sem,rA,rM,rS]) | (refine call (Zas _ _ _ _) ?_;dsimp only [go_sem,rA,rM,rS]) | (refine call (ZeQ _ _ _ _ _) ?_;dsimp only [go_sem,rA,rM,rS]) | (refine call (Zpk _ _ b.rest b.heat b.toil b.burn b.rub b.milk _) ?_;dsimp only [go_sem,rA,rM,rS]) | (refine call (Xl _ _ b.strong _) ?_;dsimp only [go_sem,rA,rM,rS]))
 refine br ?_ ?_
 . intro h
   dsimp only [go_sem,rA,rM,rS]
   have:Zz b=false:=by simp only [Zz];grind
   simp [ZyB,this]
 . intro h
   dsimp only [go_sem,rA,rM,rS]
   have:Zz b=true:=by simp only [Zz];grind
   simp [ZyB,this]
theorem ZiU (b:Breed):Ct Tryz.prog 138 [.agg (breedL b)] (B (Zz b)):=by
 refine t138.1 (by simp [breedL,KFL,KF]) (by simp [KFL,KF]) ?_
 dsimp only [c138,r138,breedL,go_sem,rA,rM,rS]
 repeat (first | (refine gb ?_;dsimp only [go_sem,rA,rM,rS]) | (refine call (X2 _ _ _) ?_;dsimp only [go_sem,rA,rM,rS]) | (refine call (ZR b.strong _ _) ?_;dsimp only [go_sem,rA,rM,rS]))
 refine br ?_ ?_
 . intro h
   dsimp only [go_sem,rA,rM,rS]
   have:Zz b=false:=by simp only [Zz];grind
   simp [this]
 . intro h
   dsimp only [go_sem,rA,rM,rS]
   repeat (first | (refine gb ?_;dsimp only [go_sem,rA,rM,rS]) | (refine call (ZR b.rest _ _) ?_;dsimp only [go_sem,rA,rM,rS]) | (refine call (ZR b.heat _ _) ?_;dsimp only [go_sem,rA,rM,rS]) | (refine call (ZR b.toil _ _) ?_;dsimp only [go_sem,rA,rM,rS]) | (refine call (ZR b.burn _ _) ?_;dsimp only [go_sem,rA,rM,rS]) | (refine call (ZR b.rub _ _) ?_;dsimp only [go_sem,rA,rM,rS]) | (refine call (ZR b.milk _ _) ?_;dsimp only [go_sem,rA,rM,rS]))
   (simp only [Zz,Option.some.injEq,SV.v.injEq,Value.bool.injEq]<;>grind)
theorem checkCamel_ok (b:Breed) (c:Camel):Ct Tryz.prog 54 [.agg (breedL b),.agg (camelL c)] (I (Zcs b c)):=by
 refine t54.1 (by simp [breedL,camelL,KFL,KF]) (by simp [KFL,KF]) ?_
 dsimp only [c54,r54,breedL,camelL,go_sem,rA,rM,rS]
 refine call (ZdP b) ?_
 dsimp only [go_sem,rA,rM,rS]
 by_cases hb:Zz b=true
 case neg =>
  refine Zu (by simp [ZyB,hb]) ?_
  dsimp only [go_sem,rA,rM,rS]
  simp [ZyB,Zcs,hb]
 refine Zx (by simp [ZyB,hb]) ?_
 dsimp only [go_sem,rA,rM,rS]
 repeat (first | (refine gb ?_;dsimp only [go_sem,rA,rM,rS]) | (refine call (Xl _ _ c.water _) ?_;dsimp only [go_sem,rA,rM,rS]) | (refine call (Xl _ _ c.fat _) ?_;dsimp only [go_sem,rA,rM,rS]) | (refine call (Xl _ _ c.sore _) ?_;dsimp only [go_sem,rA,rM,rS]))
 refine br ?_ ?_
 . intro h
   dsimp only [go_sem,rA,rM,rS]
   have:Zv b c=false:=by simp only [Zv];grind
   simp [Zcs,this,hb]
 . intro h
   dsimp only [go_sem,rA,rM,rS]
   have:Zv b c=true:=by simp only [Zv];grind
   simp [Zcs,this,hb]
theorem Zmq (b:Breed) (c:Camel):Ct Tryz.prog 139 [.agg (breedL b),.agg (camelL c)] (B (Zv b c)):=by
 refine t139.1 (by simp [breedL,camelL,KFL,KF]) (by simp [KFL,KF]) ?_
 dsimp only [c139,r139,breedL,camelL,go_sem,rA,rM,rS]
 repeat (first | (refine gb ?_;dsimp only [go_sem,rA,rM,rS]) | (refine call (ZR c.water _ _) ?_;dsimp only [go_sem,rA,rM,rS]) | (refine call (ZR c.fat _ _) ?_;dsimp only [go_sem,rA,rM,rS]) | (refine call (ZR c.sore _ _) ?_;dsimp only [go_sem,rA,rM,rS]))
 (simp only [Zv,Option.some.injEq,SV.v.injEq,Value.bool.injEq]<;>grind)
theorem checkCamelR_ok (b:Breed) (c:Camel):Ct Tryz.prog 95 [.agg (breedL b),.agg (camelL c)] (I (Zcs b c)):=by
 refine t95.1 (by simp [breedL,camelL,KFL,KF]) (by simp [KFL,KF]) ?_
 dsimp only [c95,r95,breedL,camelL,go_sem,rA,rM,rS]
 refine call (ZiU b) ?_
 dsimp only [go_sem,rA,rM,rS]
 by_cases hb:Zz b=true
 case neg =>
  refine Zu (by simp [hb]) ?_
  dsimp only [go_sem,rA,rM,rS]
  simp [Zcs,hb]
 refine Zx (by simp [hb]) ?_
 dsimp only [go_sem,rA,rM,rS]
 refine call (Zmq b c) ?_
 dsimp only [go_sem,rA,rM,rS]
 refine br ?_ ?_
 . intro h
   dsimp only [go_sem,rA,rM,rS]
   have:Zv b c=false:=by simpa using h
   simp [Zcs,this,hb]
 . intro h
   dsimp only [go_sem,rA,rM,rS]
   have:Zv b c=true:=by simpa using h
   simp [Zcs,this,hb]
theorem Zd9 (l:List March) (hl:l.length < 4611686018427387904) (c:Bool):Ct Tryz.prog 83 [.sl c 8 (l.map Xh)] (I (if l.all ZZ=true then 0 else 12)):=by
 refine t83.1 (by simp [Xh,Za,KFL,KF]) (by simp [KFL,KF]) ?_
 dsimp only [c83,r83,go_sem,rA,rM,rS]
 refine Xu (fun k:Nat=>[(7,I k)]) (fun _=>[]) (fun k=>k<=l.length/\(l.drop k).all ZZ=l.all ZZ) (fun k=>l.length - k) 0 ⟨Nat.zero_le _,rfl⟩ ?_ ?_
 . (refine Zk ?_ ?_ ?_ rfl rfl<;>dsimp only [Xh,id,go_sem,rA,rM,rS]<;>simp [Xh,Za,Zf,KFR,KFL,KF,Zc,mtO,nbr])
 intro k ⟨hk,hi⟩
 dsimp only [go_sem,rA,rM,rS]
 by_cases hlt:k < l.length
 . refine Zu (by simpa using hlt) ?_
   dsimp only [go_sem,rA,rM,rS]
   refine Zr k hlt rfl ?_
   dsimp only [Xh,go_sem,rA,rM,rS]
   repeat (first | (refine gb ?_;dsimp only [go_sem,rA,rM,rS]) | (refine call (Zas _ _ _ _) ?_;dsimp only [go_sem,rA,rM,rS]) | (refine call (Xl _ _ l[k].heat _) ?_;dsimp only [go_sem,rA,rM,rS]) | (refine call (ZdC _ _ l[k].grass l[k].drinks _) ?_;dsimp only [go_sem,rA,rM,rS]))
   rw [List.drop_eq_getElem_cons hlt,List.all_cons] at hi
   refine br ?_ ?_
   . intro h
     dsimp only [go_sem,rA,rM,rS]
     have:ZZ l[k]=false:=by simp only [ZZ];grind
     rw [<- hi,this];rfl
   . intro h
     dsimp only [go_sem,rA,rM,rS]
     have:ZZ l[k]=true:=by simp only [ZZ];grind
     rw [this,Bool.true_and] at hi
     rw [Zi (n:=(k:Int)+1) (by omega) (by omega)]
     refine ⟨k+1,⟨hlt,hi⟩,by omega,?_⟩
     (refine Zk ?_ ?_ ?_ rfl rfl<;>dsimp only [Xh,id,go_sem,rA,rM,rS]<;>simp [Xh,Za,Zf,KFR,KFL,KF,Zc,mtO,nbr])
 . refine Zx (by simp;omega) ?_
   dsimp only [go_sem,rA,rM,rS]
   have hke:k=l.length:=by omega
   subst hke
   rw [List.drop_length] at hi
   rw [<- hi];rfl
theorem Zmk (m:March) (c:Bool):Ct Tryz.prog 83 [.sl c 8 [Xh m]] (I (if ZZ m=true then 0 else 12)):=by
 have:=Zd9 [m] (by simp) c
 simpa using this
theorem ZtM {a b A:Int} (h0:0<=a) (h1:a<=A) (hA:A<=1000000000000000) (hb:1<=b) (hb2:b<=1000000000) :
 IntKind.i64.wrap (a+b)=a+b/\IntKind.i64.wrap (a+b - 1)=a+b - 1/\IntKind.i64.wrap ((a+b - 1).tdiv b)=upF a b:=by
 have:=Zja h0 h1 hb
 refine ⟨Zi (by omega) (by omega),Zi (by omega) (by omega),?_⟩
 unfold upF at *
 exact Zi (by omega) (by omega)
theorem ZfQ (a b:Int) (h0:0<=a) (h1:a<=1000000000000000) (hb:1<=b) (hb2:b<=1000000000):Ct Tryz.prog 124 [I a,I b] (I (upF a b)):=by
 obtain ⟨q1,q2,q3⟩:=ZtM h0 h1 (Int.le_refl _) hb hb2
 refine t124.1 (by simp [KFL,KF]) (by simp [KFL,KF]) ?_
 dsimp only [c124,r124,go_sem,rA,rM,rS]
 simp only [q1,q2]
 refine Zd2 (by omega) ?_
 dsimp only [go_sem,rA,rM,rS]
 rw [q3]
def scl (s:Span) (b n:Int):Span:=⟨(s.lo * n).tdiv b,upF (s.hi * n) b⟩
theorem ZfI (s:Span) (b n A:Int) (c:Bool) (h1:0<=s.lo) (h2:s.lo<=s.hi) (h3:0<=n) (h4:s.hi * n<=100000000000000) (hb:1<=b) (hb2:b<=1000000000) :
 Ct Tryz.prog 128 [.agg (Zd s),I b,.sl c 1 [[I n]]] (.agg (Zd (scl s b n))):=by
 have k1:0<=s.lo * n:=Int.mul_nonneg h1 h3
 have k2:s.lo * n<=s.hi * n:=Int.mul_le_mul_of_nonneg_right h2 h3
 refine t128.1 (by simp [Zd,KFR,KFL,KF]) (by simp [Zd,KFL,KF]) ?_
 dsimp only [c128,r128,Zd,go_sem,rA,rM,rS]
 refine Xw 2 ?_
 dsimp only [Zb,go_sem,rA,rM,rS]
 refine Zu (by decide) ?_
 dsimp only [Zb,go_sem,rA,rM,rS]
 refine ixs 0 [I n] rfl rfl ?_
 dsimp only [Zb,go_sem,rA,rM,rS]
 refine Zx (by decide) ?_
 dsimp only [go_sem,rA,rM,rS]
 rw [Zi (n:=s.lo * n) (by omega) (by omega),Zi (n:=s.hi * n) (by omega) (by omega)]
 refine Zd2 (by omega) ?_
 dsimp only [go_sem,rA,rM,rS]
 refine call (ZfQ _ _ (by omega) (by omega) hb hb2) ?_
 dsimp only [go_sem,rA,rM,rS]
 have:=WA k1 (Int.le_trans k2 h4) hb
 rw [Zi (n:=(s.lo * n).tdiv b) (by omega) (by omega)]
 rfl
theorem Zad (s:Span) (b n m A:Int) (c:Bool) (h1:0<=s.lo) (h2:s.lo<=s.hi) (h3:0<=n) (h3':0<=m) (h4:s.hi * n<=100000000000000) (h5:s.hi * n * m<=100000000000000) (hb:1<=b) (hb2:b<=1000000000) :
 Ct Tryz.prog 128 [.agg (Zd s),I b,.sl c 1 [[I n],[I m]]] (.agg (Zd ⟨(s.lo * n * m).tdiv b,upF (s.hi * n * m) b⟩)):=by
 have k1:0<=s.lo * n:=Int.mul_nonneg h1 h3
 have k2:s.lo * n<=s.hi * n:=Int.mul_le_mul_of_nonneg_right h2 h3
 have k3:0<=s.lo * n * m:=Int.mul_nonneg k1 h3'
 have k4:s.lo * n * m<=s.hi * n * m:=Int.mul_le_mul_of_nonneg_right k2 h3'
 refine t128.1 (by simp [Zd,KFR,KFL,KF]) (by simp [Zd,KFL,KF]) ?_
 dsimp only [c128,r128,Zd,go_sem,rA,rM,rS]
 refine Xw 3 ?_
 dsimp only [Zb,go_sem,rA,rM,rS]
 refine Zu (by decide) ?_
 dsimp only [Zb,go_sem,rA,rM,rS]
 refine ixs 0 [I n] rfl rfl ?_
 dsimp only [Zb,go_sem,rA,rM,rS]
 refine Zu (by decide) ?_
 dsimp only [Zb,go_sem,rA,rM,rS]
 refine ixs 1 [I m] rfl rfl ?_
 dsimp only [Zb,go_sem,rA,rM,rS]
 refine Zx (by decide) ?_
 dsimp only [go_sem,rA,rM,rS]
 rw [Zi (n:=s.lo * n) (by omega) (by omega),Zi (n:=s.hi * n) (by omega) (by omega),Zi (n:=s.lo * n * m) (by omega) (by omega),Zi (n:=s.hi * n * m) (by omega) (by omega)]
 refine Zd2 (by omega) ?_
 dsimp only [go_sem,rA,rM,rS]
 refine call (ZfQ _ _ (by omega) (by omega) hb hb2) ?_
 dsimp only [go_sem,rA,rM,rS]
 have:=WA k3 (Int.le_trans k4 h5) hb
 rw [Zi (n:=(s.lo * n * m).tdiv b) (by omega) (by omega)]
def bdS (A:Int) (s:Span):Prop:=0<=s.lo/\s.lo<=A/\0<=s.hi/\s.hi<=A
theorem Ub (s t:Span) (c:Bool) (h1:bdS 1000000000000000 s) (h2:bdS 1000000000000000 t):Ct Tryz.prog 127 [.sl c 2 [[I s.lo,I s.hi],[I t.lo,I t.hi]]] (.agg (Zd ⟨s.lo+t.lo,s.hi+t.hi⟩)):=by
 unfold bdS at h1 h2
 refine t127.1 (by simp [KFR,KFL,KF]) (by simp [Zd,KFL,KF]) ?_
 dsimp only [c127,r127,Zd,go_sem,rA,rM,rS]
 refine Xw 3 ?_
 dsimp only [Zb,go_sem,rA,rM,rS]
 refine Zu (by decide) ?_
 dsimp only [Zb,go_sem,rA,rM,rS]
 refine ixs 0 [I s.lo,I s.hi] rfl rfl ?_
 dsimp only [Zb,go_sem,rA,rM,rS]
 refine Zu (by decide) ?_
 dsimp only [Zb,go_sem,rA,rM,rS]
 refine ixs 1 [I t.lo,I t.hi] rfl rfl ?_
 dsimp only [Zb,go_sem,rA,rM,rS]
 refine Zx (by decide) ?_
 dsimp only [go_sem,rA,rM,rS]
 simp only [Int.zero_add]
 rw [Zi (n:=s.lo) (by omega) (by omega),Zi (n:=s.hi) (by omega) (by omega),Zi (n:=s.lo+t.lo) (by omega) (by omega),Zi (n:=s.hi+t.hi) (by omega) (by omega)]
theorem plus3 (s t u:Span) (c:Bool) (h1:bdS 1000000000000000 s) (h2:bdS 1000000000000000 t) (h3:bdS 1000000000000000 u):Ct Tryz.prog 127 [.sl c 2 [[I s.lo,I s.hi],[I t.lo,I t.hi],[I u.lo,I u.hi]]] (.agg (Zd ⟨s.lo+t.lo+u.lo,s.hi+t.hi+u.hi⟩)):=by
 unfold bdS at h1 h2 h3
 refine t127.1 (by simp [KFR,KFL,KF]) (by simp [Zd,KFL,KF]) ?_
 dsimp only [c127,r127,Zd,go_sem,rA,rM,rS]
 refine Xw 4 ?_
 dsimp only [Zb,go_sem,rA,rM,rS]
 refine Zu (by decide) ?_
 dsimp only [Zb,go_sem,rA,rM,rS]
 refine ixs 0 [I s.lo,I s.hi] rfl rfl ?_
 dsimp only [Zb,go_sem,rA,rM,rS]
 refine Zu (by decide) ?_
 dsimp only [Zb,go_sem,rA,rM,rS]
 refine ixs 1 [I t.lo,I t.hi] rfl rfl ?_
 dsimp only [Zb,go_sem,rA,rM,rS]
 refine Zu (by decide) ?_
 dsimp only [Zb,go_sem,rA,rM,rS]
 refine ixs 2 [I u.lo,I u.hi] rfl rfl ?_
 dsimp only [Zb,go_sem,rA,rM,rS]
 refine Zx (by decide) ?_
 dsimp only [go_sem,rA,rM,rS]
 simp only [Int.zero_add]
 rw [Zi (n:=s.lo) (by omega) (by omega),Zi (n:=s.hi) (by omega) (by omega),Zi (n:=s.lo+t.lo) (by omega) (by omega),Zi (n:=s.hi+t.hi) (by omega) (by omega),Zi (n:=s.lo+t.lo+u.lo) (by omega) (by omega),Zi (n:=s.hi+t.hi+u.hi) (by omega) (by omega)]
theorem Zvz (n:Int) (s:Span) (h1:0<=n) (h2:n<=1000000) (h3:bdS 1000000 s):Ct Tryz.prog 159 [I n,.agg (Zd s)] (.agg (Zd ⟨n - s.hi,n - s.lo⟩)):=by
 unfold bdS at h3
 refine t159.1 (by simp [Zd,KFL,KF]) (by simp [Zd,KFL,KF]) ?_
 dsimp only [c159,r159,Zd,go_sem,rA,rM,rS]
 rw [Zi (n:=n - s.hi) (by omega) (by omega),Zi (n:=n - s.lo) (by omega) (by omega)]
theorem breed_bd {b:Breed} (h:Zz b=true):1<=b.full/\b.full<=1000000/\1<=b.fed/\b.fed<=1000000/\0<=b.heal/\b.heal<=1000/\(0<=b.strong.lo/\b.strong.lo<=b.strong.hi/\b.strong.hi<=1000000)/\(0<=b.rest.lo/\b.rest.lo<=b.rest.hi/\b.rest.hi<=100000) /\
 (0<=b.heat.lo/\b.heat.lo<=b.heat.hi/\b.heat.hi<=100000)/\(0<=b.toil.lo/\b.toil.lo<=b.toil.hi/\b.toil.hi<=100000)/\(0<=b.burn.lo/\b.burn.lo<=b.burn.hi/\b.burn.hi<=100000)/\(0<=b.rub.lo/\b.rub.lo<=b.rub.hi/\b.rub.hi<=100000)/\(0<=b.milk.lo/\b.milk.lo<=b.milk.hi/\b.milk.hi<=100000):=by
 simp only [Zz,Z3,inR,Bool.and_eq_true,decide_eq_true_eq] at h;omega
theorem camel_bd {b:Breed} {c:Camel} (hb:Zz b=true) (h:Zv b c=true):(0<=c.water.lo/\c.water.lo<=c.water.hi/\c.water.hi<=b.full)/\(0<=c.fat.lo/\c.fat.lo<=c.fat.hi/\c.fat.hi<=b.fed)/\(0<=c.sore.lo/\c.sore.lo<=c.sore.hi/\c.sore.hi<=1000):=by
 simp only [Zv,Z3,Bool.and_eq_true,decide_eq_true_eq] at h;omega
theorem march_bd {m:March} (h:ZZ m=true):0<=m.hours/\m.hours<=24/\0<=m.load/\m.load<=1000000/\(0<=m.heat.lo/\m.heat.lo<=m.heat.hi/\m.heat.hi<=60)/\(0<=m.grass.lo/\m.grass.lo<=m.grass.hi/\m.grass.hi<=1000000)/\(0<=m.drinks.lo/\m.drinks.lo<=m.drinks.hi/\m.drinks.hi<=1000000):=by
 simp only [ZZ,Z3,inR,Bool.and_eq_true,decide_eq_true_eq] at h;omega
theorem ZzA (b:Breed) (c:Camel) (hb:Zz b=true) (hc:Zv b c=true):Ct Tryz.prog 123 [.agg (Yx b c)] (.agg (Zd (Zda b c))):=by
 obtain ⟨b1,b2,b3,b4,_⟩:=breed_bd hb
 obtain ⟨⟨w1,w2,w3⟩,⟨f1,f2,f3⟩,⟨s1,s2,s3⟩⟩:=camel_bd hb hc
 refine t123.1 (by simp [Yx,KFL,KF]) (by simp [Zd,KFL,KF]) ?_
 dsimp only [c123,r123,Yx,go_sem,rA,rM,rS]
 refine call (Zad c.water b.full 2 1000 0 true w1 w2 (by omega) (by omega) (by omega) (by omega) b1 (by omega)) ?_
 dsimp only [Zd,go_sem,rA,rM,rS]
 refine call (Zad c.fat b.fed 2 1000 0 true f1 f2 (by omega) (by omega) (by omega) (by omega) b3 (by omega)) ?_
 dsimp only [Zd,go_sem,rA,rM,rS]
 refine call (Zvz 1000 c.sore (by omega) (by omega) ⟨by omega,by omega,by omega,by omega⟩) ?_
 dsimp only [Zd,go_sem,rA,rM,rS]
 refine Xw 4 ?_
 dsimp only [Zb,go_sem,rA,rM,rS]
 refine Zu (by decide) ?_
 dsimp only [Zb,go_sem,rA,rM,rS]
 refine ixa 0 rfl (by decide) ?_
 dsimp only [Zb,go_sem,rA,rM,rS]
 refine Zu (by decide) ?_
 dsimp only [Zb,go_sem,rA,rM,rS]
 refine ixa 1 rfl (by decide) ?_
 dsimp only [Zb,go_sem,rA,rM,rS]
 refine Zu (by decide) ?_
 dsimp only [Zb,go_sem,rA,rM,rS]
 refine ixa 2 rfl (by decide) ?_
 dsimp only [Zb,go_sem,rA,rM,rS]
 refine Zx (by decide) ?_
 dsimp only [go_sem,rA,rM,rS]
 have e1:c.water.lo * 2 * 1000=2000 * c.water.lo:=by omega
 have e2:c.water.hi * 2 * 1000=2000 * c.water.hi:=by omega
 have e3:c.fat.lo * 2 * 1000=2000 * c.fat.lo:=by omega
 have e4:c.fat.hi * 2 * 1000=2000 * c.fat.hi:=by omega
 simp only [e1,e2,e3,e4,Zda,Int.min_assoc]
theorem ZAv {b:Breed} {c:Camel} (hb:Zz b=true) (hc:Zv b c=true):0<=(Zda b c).lo/\(Zda b c).lo<=1000/\0<=(Zda b c).hi/\(Zda b c).hi<=1000:=by
 obtain ⟨b1,b2,b3,b4,_⟩:=breed_bd hb
 obtain ⟨⟨w1,w2,w3⟩,⟨f1,f2,f3⟩,⟨s1,s2,s3⟩⟩:=camel_bd hb hc
 have d1:=WA (a:=2000 * c.water.lo) (A:=2000000000) (d:=b.full) (by omega) (by omega) b1
 have d2:=WA (a:=2000 * c.fat.lo) (A:=2000000000) (d:=b.fed) (by omega) (by omega) b3
 have d3:=Zja (a:=2000 * c.water.hi) (A:=2000000000) (d:=b.full) (by omega) (by omega) b1
 have d4:=Zja (a:=2000 * c.fat.hi) (A:=2000000000) (d:=b.fed) (by omega) (by omega) b3
 simp only [Zda];omega
theorem ZyY (b:Breed) (c:Camel) (hb:Zz b=true) (hc:Zv b c=true):Ct Tryz.prog 81 [.agg (Yx b c)] (.agg (Zd (ZzD b c))):=by
 obtain ⟨b1,b2,b3,b4,_,_,⟨g1,g2,g3⟩,_⟩:=breed_bd hb
 obtain ⟨q1,q2,q3,q4⟩:=ZAv hb hc
 have k1:=UI (a:=b.strong.lo) (A:=1000000) (b:=(Zda b c).lo) (B:=1000) (by omega) (by omega) q1 q2
 have k2:=UI (a:=b.strong.hi) (A:=1000000) (b:=(Zda b c).hi) (B:=1000) (by omega) (by omega) q3 q4
 refine t81.1 (by simp [Yx,KFL,KF]) (by simp [Zd,KFL,KF]) ?_
 dsimp only [c81,r81,Yx,go_sem,rA,rM,rS]
 refine call (ZzA b c hb hc) ?_
 dsimp only [Zd,go_sem,rA,rM,rS]
 rw [Zi (n:=b.strong.lo * (Zda b c).lo) (by omega) (by omega)]
 refine Zd2 (by omega) ?_
 dsimp only [go_sem,rA,rM,rS]
 rw [Zi (n:=b.strong.hi * (Zda b c).hi) (by omega) (by omega)]
 refine call (ZfQ _ _ (by omega) (by omega) (by omega) (by omega)) ?_
 dsimp only [go_sem,rA,rM,rS]
 have d1:=WA (a:=b.strong.lo * (Zda b c).lo) (d:=1000) k1.1 k1.2 (by omega)
 rw [Zi (n:=(b.strong.lo * (Zda b c).lo).tdiv 1000) (by omega) (by omega)]
 rfl
def sres (b:Breed) (c:Camel) (s:Span):SV:=.tup [.agg (Zd (if Zcs b c=0 then s else ZaR)),I (Zcs b c)]
theorem errC_0 {b:Breed} {c:Camel}:Zcs b c=0↔Zz b=true/\Zv b c=true:=by
 simp only [Zcs];cases Zz b<;>cases Zv b c<;>simp
theorem carries_ok (b:Breed) (c:Camel):Ct Tryz.prog 37 [.agg (breedL b),.agg (camelL c)] (sres b c (ZzD b c)):=by
 refine t37.1 (by simp [breedL,camelL,KFL,KF]) (by simp [sres,Zd,KFL,KF]) ?_
 dsimp only [c37,r37,breedL,camelL,go_sem,rA,rM,rS]
 refine call (checkCamel_ok b c) ?_
 dsimp only [go_sem,rA,rM,rS]
 by_cases h:Zcs b c=0
 case neg =>
  refine Zu (by simpa using h) ?_
  dsimp only [sres,Zd,go_sem,rA,rM,rS]
  rw [if_neg h];rfl
 refine Zx (by simpa using h) ?_
 obtain ⟨hb,hc⟩:=errC_0.1 h
 dsimp only [go_sem,rA,rM,rS]
 refine call (ZyY b c hb hc) ?_
 dsimp only [Zd,sres,go_sem,rA,rM,rS]
 rw [if_pos h,h]
theorem work_bd {m:March} (h:ZZ m=true):0<=Yk m/\Yk m<=26400000:=by
 obtain ⟨h1,h2,h3,h4,_⟩:=march_bd h
 have:=UI (a:=m.hours) (A:=24) (b:=100000+m.load) (B:=1100000) h1 h2 (by omega) (by omega)
 exact this
theorem toil_bd {m:March} {x:Int} (h:ZZ m=true) (h0:0<=x) (h1:x<=100000):0<=x * Yk m/\x * Yk m<=2640000000000:=by
 obtain ⟨w1,w2⟩:=work_bd h
 exact UI h0 h1 w1 w2
theorem heat_bd {x y:Int} (h0:0<=x) (h1:x<=100000) (h2:0<=y) (h3:y<=60):0<=x * max 0 (y - 20)/\x * max 0 (y - 20)<=4000000 :=
 UI h0 h1 (B:=40) (by omega) (by omega)
theorem Zlh (b:Breed) (k:Bool) (m:March) (hb:Zz b=true) (hm:ZZ m=true):Ct Tryz.prog 126 [.agg (breedL b),B k,.agg (Xh m)] (.agg [I (XR b k m).lo,I (XR b k m).hi,I (X5 b m).lo,I (X5 b m).hi]):=by
 obtain ⟨_,_,_,_,_,_,_,⟨r1,r2,r3⟩,⟨a1,a2,a3⟩,⟨t1,t2,t3⟩,⟨u1,u2,u3⟩,_,⟨k1,k2,k3⟩⟩:=breed_bd hb
 obtain ⟨m1,m2,m3,m4,⟨g1,g2,g3⟩,_⟩:=march_bd hm
 have w0:=work_bd hm
 have e1:=heat_bd (x:=b.heat.lo) (y:=m.heat.lo) (by omega) (by omega) (by omega) (by omega)
 have e2:=heat_bd (x:=b.heat.hi) (y:=m.heat.hi) (by omega) (by omega) (by omega) (by omega)
 have f1:=toil_bd (x:=b.toil.lo) hm (by omega) (by omega)
 have f2:=toil_bd (x:=b.toil.hi) hm (by omega) (by omega)
 have f3:=toil_bd (x:=b.burn.lo) hm (by omega) (by omega)
 have f4:=toil_bd (x:=b.burn.hi) hm (by omega) (by omega)
 have d1:=WA f1.1 f1.2 (d:=100000) (by omega)
 have d2:=Zja f2.1 f2.2 (d:=100000) (by omega)
 have hw:IntKind.i64.wrap (m.hours * IntKind.i64.wrap (100000+m.load))=Yk m:=by
  rw [Zi (n:=100000+m.load) (by omega) (by omega)]
  unfold Yk at *
  exact Zi (by omega) (by omega)
 refine t126.1 (by simp [breedL,Xh,KFL,KF]) (by simp [KFL,KF]) ?_
 dsimp only [c126,r126,breedL,Xh,go_sem,rA,rM,rS]
 rw [hw,Zi (n:=m.heat.lo - 20) (by omega) (by omega),Zi (n:=m.heat.hi - 20) (by omega) (by omega),Zi (n:=b.heat.lo * max 0 (m.heat.lo - 20)) (by omega) (by omega),Zi (n:=b.heat.hi * max 0 (m.heat.hi - 20)) (by omega) (by omega)]
 refine call (ZfI b.toil 100000 (Yk m) 0 true t1 t2 w0.1 (by omega) (by omega) (by omega)) ?_
 dsimp only [Zd,go_sem,rA,rM,rS]
 refine call (plus3 b.rest ⟨b.heat.lo * max 0 (m.heat.lo - 20),b.heat.hi * max 0 (m.heat.hi - 20)⟩ (scl b.toil 100000 (Yk m)) true ⟨by omega,by omega,by omega,by omega⟩ ⟨e1.1,by simp only;omega,e2.1,by simp only;omega⟩
  ⟨d1.1,by simp only [scl];omega,d2.1,by simp only [scl];omega⟩) ?_
 dsimp only [Zd,go_sem,rA,rM,rS]
 refine br ?_ ?_
 . intro hk
   dsimp only [go_sem,rA,rM,rS]
   refine call (Ub ⟨b.rest.lo+b.heat.lo * max 0 (m.heat.lo - 20)+(scl b.toil 100000 (Yk m)).lo,b.rest.hi+b.heat.hi * max 0 (m.heat.hi - 20)+(scl b.toil 100000 (Yk m)).hi⟩ b.milk true
    ⟨by simp only [scl];omega,by simp only [scl];omega,by simp only [scl];omega,by simp only [scl];omega⟩ ⟨by omega,by omega,by omega,by omega⟩) ?_
   dsimp only [Zd,go_sem,rA,rM,rS]
   refine call (ZfI b.burn 100000 (Yk m) 0 true u1 u2 w0.1 (by omega) (by omega) (by omega)) ?_
   dsimp only [Zd,go_sem,rA,rM,rS]
   simp only [XR,X5,hk,scl,if_true]
 . intro hk
   dsimp only [go_sem,rA,rM,rS]
   refine call (ZfI b.burn 100000 (Yk m) 0 true u1 u2 w0.1 (by omega) (by omega) (by omega)) ?_
   dsimp only [Zd,go_sem,rA,rM,rS]
   simp only [XR,X5,hk,scl,Bool.false_eq_true,if_false,Int.add_zero]
end Go.Proofs.YtiigiflofnjilaaGreat.Cm
namespace Go.Azalai
end Go.Azalai
namespace Go.Proofs.YtiigiflofnjilaaGreat.Cm
open Go Go.Sx Go.Azalai
end Go.Proofs.YtiigiflofnjilaaGreat.Cm
namespace Go.Azalai
def Xx:Camel:=⟨⟨0,0⟩,⟨0,0⟩,⟨0,0⟩,false⟩
def ZaP (most:Int) (has cost gets:Span):Span:=⟨min most (max 0 (has.lo - cost.hi)+gets.lo),min most (has.hi - cost.lo+gets.hi)⟩
def Ud (b:Breed) (s:Span) (m:March):Span :=
 if m.hours=0 then ⟨max 0 (s.lo - b.heal),max 0 (s.hi - b.heal)⟩
 else ⟨min 1000 (s.lo+(b.rub.lo * (m.hours * m.load)).tdiv 1000000),min 1000 (s.hi+upF (b.rub.hi * (m.hours * m.load)) 1000000)⟩
def Ya (b:Breed) (c:Camel) (m:March):Camel × Int :=
 let w:=XR b c.milks m
 let f:=X5 b m
 if c.water.hi < w.lo\/c.fat.hi < f.lo then (Xx,2)
 else (⟨ZaP b.full c.water w m.drinks,ZaP b.fed c.fat f m.grass,Ud b c.sore m,c.milks⟩,if c.water.lo ≥ w.hi/\c.fat.lo ≥ f.hi then 0 else 1)
theorem ZdG {b:Breed} {k:Bool} {m:March} (hb:Zz b=true) (hm:ZZ m=true):0<=(XR b k m).lo/\(XR b k m).lo<=1000000000/\0<=(XR b k m).hi/\(XR b k m).hi<=1000000000:=by
 have h:=Go.Proofs.YtiigiflofnjilaaGreat.Cm.breed_bd hb
 have h2:=Go.Proofs.YtiigiflofnjilaaGreat.Cm.march_bd hm
 have q1:=Go.Proofs.YtiigiflofnjilaaGreat.Cm.toil_bd (x:=b.toil.lo) hm (by omega) (by omega)
 have q2:=Go.Proofs.YtiigiflofnjilaaGreat.Cm.toil_bd (x:=b.toil.hi) hm (by omega) (by omega)
 have q3:=Go.Proofs.YtiigiflofnjilaaGreat.Cm.heat_bd (x:=b.heat.lo) (y:=m.heat.lo) (by omega) (by omega) (by omega) (by omega)
 have q4:=Go.Proofs.YtiigiflofnjilaaGreat.Cm.heat_bd (x:=b.heat.hi) (y:=m.heat.hi) (by omega) (by omega) (by omega) (by omega)
 have r1:0<=(b.toil.lo * Yk m).tdiv 100000/\(b.toil.lo * Yk m).tdiv 100000<=26400000:=by
  rw [Int.tdiv_eq_ediv_of_nonneg q1.1];omega
 have r2:0<=upF (b.toil.hi * Yk m) 100000/\upF (b.toil.hi * Yk m) 100000<=26400001:=by
  unfold upF;rw [Int.tdiv_eq_ediv_of_nonneg (by omega)];omega
 simp only [XR]
 cases k<;>simp<;>omega
theorem Zdz {b:Breed} {m:March} (hb:Zz b=true) (hm:ZZ m=true):0<=(X5 b m).lo/\(X5 b m).lo<=1000000000/\0<=(X5 b m).hi/\(X5 b m).hi<=1000000000:=by
 have h:=Go.Proofs.YtiigiflofnjilaaGreat.Cm.breed_bd hb
 have q1:=Go.Proofs.YtiigiflofnjilaaGreat.Cm.toil_bd (x:=b.burn.lo) hm (by omega) (by omega)
 have q2:=Go.Proofs.YtiigiflofnjilaaGreat.Cm.toil_bd (x:=b.burn.hi) hm (by omega) (by omega)
 have r1:0<=(b.burn.lo * Yk m).tdiv 100000/\(b.burn.lo * Yk m).tdiv 100000<=26400000:=by
  rw [Int.tdiv_eq_ediv_of_nonneg q1.1];omega
 have r2:0<=upF (b.burn.hi * Yk m) 100000/\upF (b.burn.hi * Yk m) 100000<=26400001:=by
  unfold upF;rw [Int.tdiv_eq_ediv_of_nonneg (by omega)];omega
 simp only [X5]
 omega
end Go.Azalai
namespace Go.Proofs.YtiigiflofnjilaaGreat.Cm
open Go Go.Sx Go.Azalai
theorem Zzc (b:Breed) (c:Camel) (m:March) (hb:Zz b=true) (hc:Zv b c=true) (hm:ZZ m=true) (hd:(Ya b c m).2≠2) :
 Ct Tryz.prog 84 [.agg (Yx b c),.agg (Xh m)] (.tup [.agg (Yx b (Ya b c m).1),.v (.int .u8 (Ya b c m).2)]):=by
 have h1:=breed_bd hb
 have h2:=camel_bd hb hc
 have h3:=march_bd hm
 have w1:=ZdG (k:=c.milks) hb hm
 have w2:=Zdz hb hm
 have k0:=UI (a:=m.hours) (b:=m.load) (A:=24) (B:=1000000) (by omega) (by omega) (by omega) (by omega)
 have k1:=UI (a:=b.rub.lo) (b:=m.hours * m.load) (A:=100000) (B:=24000000) (by omega) (by omega) (by omega) (by omega)
 have k2:=UI (a:=b.rub.hi) (b:=m.hours * m.load) (A:=100000) (B:=24000000) (by omega) (by omega) (by omega) (by omega)
 have k3:=WA k1.1 k1.2 (d:=1000000) (by omega)
 have k4:=Zja k2.1 k2.2 (d:=1000000) (by omega)
 refine t84.1 (by simp [Yx,Xh,KFL,KF]) (by simp [Yx,KFL,KF]) ?_
 dsimp only [c84,r84,Yx,Xh,go_sem,rA,rM,rS]
 refine call (Zlh b c.milks m hb hm) ?_
 dsimp only [go_sem,rA,rM,rS]
 generalize hW:XR b c.milks m=W at w1
 generalize hF:X5 b m=F at w2
 have hd':W.lo<=c.water.hi/\F.lo<=c.fat.hi:=by
  by_cases h:c.water.hi < W.lo\/c.fat.hi < F.lo
  . exact absurd (by simp only [Ya,hW,hF,if_pos h]) hd
  . omega
 clear hd
 have k5:=UI (a:=b.rub.hi) (b:=m.hours) (A:=100000) (B:=24) (by omega) (by omega) (by omega) (by omega)
 have k6:b.rub.hi * m.hours * m.load<=100000000000000:=by rw [Int.mul_assoc];omega
 have hd0:¬ (c.water.hi < W.lo\/c.fat.hi < F.lo):=by omega
 by_cases hp:c.water.lo < W.hi<;>by_cases hq:c.fat.lo < F.hi
 . refine Xw 3 ?_
   dsimp only [Zb,go_sem,rA,rM,rS]
   refine Zu (by decide) ?_
   dsimp only [Zb,go_sem,rA,rM,rS]
   repeat (first | (refine ixa 0 rfl (by decide) ?_;dsimp only [Zb,go_sem,rA,rM,rS]) | (refine Zx (by simp;omega) ?_;dsimp only [Zb,go_sem,rA,rM,rS]) | (refine Zu (by simp;omega) ?_;dsimp only [Zb,go_sem,rA,rM,rS]))
   simp (disch:=omega) only [Zi]
   refine call (Ub ⟨max 0 (c.water.lo - W.hi),c.water.hi - W.lo⟩ m.drinks _ (by unfold bdS;simp only;omega) (by unfold bdS;omega)) ?_
   dsimp only [Zb,Zd,go_sem,rA,rM,rS]
   repeat (first | (refine ixa 0 rfl (by decide) ?_;dsimp only [Zb,go_sem,rA,rM,rS]) | (refine Zx (by simp;omega) ?_;dsimp only [Zb,go_sem,rA,rM,rS]) | (refine Zu (by simp;omega) ?_;dsimp only [Zb,go_sem,rA,rM,rS]))
   simp (disch:=omega) only [Zi]
   refine Zu (by decide) ?_
   dsimp only [Zb,go_sem,rA,rM,rS]
   repeat (first | (refine ixa 1 rfl (by decide) ?_;dsimp only [Zb,go_sem,rA,rM,rS]) | (refine Zx (by simp;omega) ?_;dsimp only [Zb,go_sem,rA,rM,rS]) | (refine Zu (by simp;omega) ?_;dsimp only [Zb,go_sem,rA,rM,rS]))
   simp (disch:=omega) only [Zi]
   refine call (Ub ⟨max 0 (c.fat.lo - F.hi),c.fat.hi - F.lo⟩ m.grass _ (by unfold bdS;simp only;omega) (by unfold bdS;omega)) ?_
   dsimp only [Zb,Zd,go_sem,rA,rM,rS]
   repeat (first | (refine ixa 1 rfl (by decide) ?_;dsimp only [Zb,go_sem,rA,rM,rS]) | (refine Zx (by simp;omega) ?_;dsimp only [Zb,go_sem,rA,rM,rS]) | (refine Zu (by simp;omega) ?_;dsimp only [Zb,go_sem,rA,rM,rS]))
   refine Zx (by decide) ?_
   dsimp only [go_sem,rA,rM,rS]
   have e:(if c.water.lo ≥ W.hi/\c.fat.lo ≥ F.hi then (0:Int) else 1)=1:=if_neg (by omega)
   by_cases hz:m.hours=0
   . refine Zu (by simpa using hz) ?_
     dsimp only [go_sem,rA,rM,rS]
     simp (disch:=omega) only [Zi]
     simp only [Ya,hW,hF,if_neg hd0,ZaP,Ud,Yx,e,if_pos hz]
   . refine Zx (by simpa using hz) ?_
     dsimp only [go_sem,rA,rM,rS]
     refine call (Zad b.rub 1000000 m.hours m.load 0 _ (by omega) (by omega) (by omega) (by omega) (by omega) k6 (by omega) (by omega)) ?_
     dsimp only [Zd,go_sem,rA,rM,rS]
     simp only [Int.mul_assoc]
     refine call (Ub c.sore ⟨(b.rub.lo * (m.hours * m.load)).tdiv 1000000,upF (b.rub.hi * (m.hours * m.load)) 1000000⟩ _ (by unfold bdS;omega) (by unfold bdS;simp only;omega)) ?_
     dsimp only [Zd,go_sem,rA,rM,rS]
     simp only [Ya,hW,hF,if_neg hd0,ZaP,Ud,Yx,e,if_neg hz]
 . refine Xw 3 ?_
   dsimp only [Zb,go_sem,rA,rM,rS]
   refine Zu (by decide) ?_
   dsimp only [Zb,go_sem,rA,rM,rS]
   repeat (first | (refine ixa 0 rfl (by decide) ?_;dsimp only [Zb,go_sem,rA,rM,rS]) | (refine Zx (by simp;omega) ?_;dsimp only [Zb,go_sem,rA,rM,rS]) | (refine Zu (by simp;omega) ?_;dsimp only [Zb,go_sem,rA,rM,rS]))
   simp (disch:=omega) only [Zi]
   refine call (Ub ⟨max 0 (c.water.lo - W.hi),c.water.hi - W.lo⟩ m.drinks _ (by unfold bdS;simp only;omega) (by unfold bdS;omega)) ?_
   dsimp only [Zb,Zd,go_sem,rA,rM,rS]
   repeat (first | (refine ixa 0 rfl (by decide) ?_;dsimp only [Zb,go_sem,rA,rM,rS]) | (refine Zx (by simp;omega) ?_;dsimp only [Zb,go_sem,rA,rM,rS]) | (refine Zu (by simp;omega) ?_;dsimp only [Zb,go_sem,rA,rM,rS]))
   simp (disch:=omega) only [Zi]
   refine Zu (by decide) ?_
   dsimp only [Zb,go_sem,rA,rM,rS]
   repeat (first | (refine ixa 1 rfl (by decide) ?_;dsimp only [Zb,go_sem,rA,rM,rS]) | (refine Zx (by simp;omega) ?_;dsimp only [Zb,go_sem,rA,rM,rS]) | (refine Zu (by simp;omega) ?_;dsimp only [Zb,go_sem,rA,rM,rS]))
   simp (disch:=omega) only [Zi]
   refine call (Ub ⟨max 0 (c.fat.lo - F.hi),c.fat.hi - F.lo⟩ m.grass _ (by unfold bdS;simp only;omega) (by unfold bdS;omega)) ?_
   dsimp only [Zb,Zd,go_sem,rA,rM,rS]
   repeat (first | (refine ixa 1 rfl (by decide) ?_;dsimp only [Zb,go_sem,rA,rM,rS]) | (refine Zx (by simp;omega) ?_;dsimp only [Zb,go_sem,rA,rM,rS]) | (refine Zu (by simp;omega) ?_;dsimp only [Zb,go_sem,rA,rM,rS]))
   refine Zx (by decide) ?_
   dsimp only [go_sem,rA,rM,rS]
   have e:(if c.water.lo ≥ W.hi/\c.fat.lo ≥ F.hi then (0:Int) else 1)=1:=if_neg (by omega)
   by_cases hz:m.hours=0
   . refine Zu (by simpa using hz) ?_
     dsimp only [go_sem,rA,rM,rS]
     simp (disch:=omega) only [Zi]
     simp only [Ya,hW,hF,if_neg hd0,ZaP,Ud,Yx,e,if_pos hz]
   . refine Zx (by simpa using hz) ?_
     dsimp only [go_sem,rA,rM,rS]
     refine call (Zad b.rub 1000000 m.hours m.load 0 _ (by omega) (by omega) (by omega) (by omega) (by omega) k6 (by omega) (by omega)) ?_
     dsimp only [Zd,go_sem,rA,rM,rS]
     simp only [Int.mul_assoc]
     refine call (Ub c.sore ⟨(b.rub.lo * (m.hours * m.load)).tdiv 1000000,upF (b.rub.hi * (m.hours * m.load)) 1000000⟩ _ (by unfold bdS;omega) (by unfold bdS;simp only;omega)) ?_
     dsimp only [Zd,go_sem,rA,rM,rS]
     simp only [Ya,hW,hF,if_neg hd0,ZaP,Ud,Yx,e,if_neg hz]
 . refine Xw 3 ?_
   dsimp only [Zb,go_sem,rA,rM,rS]
   refine Zu (by decide) ?_
   dsimp only [Zb,go_sem,rA,rM,rS]
   repeat (first | (refine ixa 0 rfl (by decide) ?_;dsimp only [Zb,go_sem,rA,rM,rS]) | (refine Zx (by simp;omega) ?_;dsimp only [Zb,go_sem,rA,rM,rS]) | (refine Zu (by simp;omega) ?_;dsimp only [Zb,go_sem,rA,rM,rS]))
   simp (disch:=omega) only [Zi]
   refine call (Ub ⟨max 0 (c.water.lo - W.hi),c.water.hi - W.lo⟩ m.drinks _ (by unfold bdS;simp only;omega) (by unfold bdS;omega)) ?_
   dsimp only [Zb,Zd,go_sem,rA,rM,rS]
   repeat (first | (refine ixa 0 rfl (by decide) ?_;dsimp only [Zb,go_sem,rA,rM,rS]) | (refine Zx (by simp;omega) ?_;dsimp only [Zb,go_sem,rA,rM,rS]) | (refine Zu (by simp;omega) ?_;dsimp only [Zb,go_sem,rA,rM,rS]))
   simp (disch:=omega) only [Zi]
   refine Zu (by decide) ?_
   dsimp only [Zb,go_sem,rA,rM,rS]
   repeat (first | (refine ixa 1 rfl (by decide) ?_;dsimp only [Zb,go_sem,rA,rM,rS]) | (refine Zx (by simp;omega) ?_;dsimp only [Zb,go_sem,rA,rM,rS]) | (refine Zu (by simp;omega) ?_;dsimp only [Zb,go_sem,rA,rM,rS]))
   simp (disch:=omega) only [Zi]
   refine call (Ub ⟨max 0 (c.fat.lo - F.hi),c.fat.hi - F.lo⟩ m.grass _ (by unfold bdS;simp only;omega) (by unfold bdS;omega)) ?_
   dsimp only [Zb,Zd,go_sem,rA,rM,rS]
   repeat (first | (refine ixa 1 rfl (by decide) ?_;dsimp only [Zb,go_sem,rA,rM,rS]) | (refine Zx (by simp;omega) ?_;dsimp only [Zb,go_sem,rA,rM,rS]) | (refine Zu (by simp;omega) ?_;dsimp only [Zb,go_sem,rA,rM,rS]))
   refine Zx (by decide) ?_
   dsimp only [go_sem,rA,rM,rS]
   have e:(if c.water.lo ≥ W.hi/\c.fat.lo ≥ F.hi then (0:Int) else 1)=1:=if_neg (by omega)
   by_cases hz:m.hours=0
   . refine Zu (by simpa using hz) ?_
     dsimp only [go_sem,rA,rM,rS]
     simp (disch:=omega) only [Zi]
     simp only [Ya,hW,hF,if_neg hd0,ZaP,Ud,Yx,e,if_pos hz]
   . refine Zx (by simpa using hz) ?_
     dsimp only [go_sem,rA,rM,rS]
     refine call (Zad b.rub 1000000 m.hours m.load 0 _ (by omega) (by omega) (by omega) (by omega) (by omega) k6 (by omega) (by omega)) ?_
     dsimp only [Zd,go_sem,rA,rM,rS]
     simp only [Int.mul_assoc]
     refine call (Ub c.sore ⟨(b.rub.lo * (m.hours * m.load)).tdiv 1000000,upF (b.rub.hi * (m.hours * m.load)) 1000000⟩ _ (by unfold bdS;omega) (by unfold bdS;simp only;omega)) ?_
     dsimp only [Zd,go_sem,rA,rM,rS]
     simp only [Ya,hW,hF,if_neg hd0,ZaP,Ud,Yx,e,if_neg hz]
 . refine Xw 3 ?_
   dsimp only [Zb,go_sem,rA,rM,rS]
   refine Zu (by decide) ?_
   dsimp only [Zb,go_sem,rA,rM,rS]
   repeat (first | (refine ixa 0 rfl (by decide) ?_;dsimp only [Zb,go_sem,rA,rM,rS]) | (refine Zx (by simp;omega) ?_;dsimp only [Zb,go_sem,rA,rM,rS]) | (refine Zu (by simp;omega) ?_;dsimp only [Zb,go_sem,rA,rM,rS]))
   simp (disch:=omega) only [Zi]
   refine call (Ub ⟨max 0 (c.water.lo - W.hi),c.water.hi - W.lo⟩ m.drinks _ (by unfold bdS;simp only;omega) (by unfold bdS;omega)) ?_
   dsimp only [Zb,Zd,go_sem,rA,rM,rS]
   repeat (first | (refine ixa 0 rfl (by decide) ?_;dsimp only [Zb,go_sem,rA,rM,rS]) | (refine Zx (by simp;omega) ?_;dsimp only [Zb,go_sem,rA,rM,rS]) | (refine Zu (by simp;omega) ?_;dsimp only [Zb,go_sem,rA,rM,rS]))
   simp (disch:=omega) only [Zi]
   refine Zu (by decide) ?_
   dsimp only [Zb,go_sem,rA,rM,rS]
   repeat (first | (refine ixa 1 rfl (by decide) ?_;dsimp only [Zb,go_sem,rA,rM,rS]) | (refine Zx (by simp;omega) ?_;dsimp only [Zb,go_sem,rA,rM,rS]) | (refine Zu (by simp;omega) ?_;dsimp only [Zb,go_sem,rA,rM,rS]))
   simp (disch:=omega) only [Zi]
   refine call (Ub ⟨max 0 (c.fat.lo - F.hi),c.fat.hi - F.lo⟩ m.grass _ (by unfold bdS;simp only;omega) (by unfold bdS;omega)) ?_
   dsimp only [Zb,Zd,go_sem,rA,rM,rS]
   repeat (first | (refine ixa 1 rfl (by decide) ?_;dsimp only [Zb,go_sem,rA,rM,rS]) | (refine Zx (by simp;omega) ?_;dsimp only [Zb,go_sem,rA,rM,rS]) | (refine Zu (by simp;omega) ?_;dsimp only [Zb,go_sem,rA,rM,rS]))
   refine Zx (by decide) ?_
   dsimp only [go_sem,rA,rM,rS]
   have e:(if c.water.lo ≥ W.hi/\c.fat.lo ≥ F.hi then (0:Int) else 1)=0:=if_pos (by omega)
   by_cases hz:m.hours=0
   . refine Zu (by simpa using hz) ?_
     dsimp only [go_sem,rA,rM,rS]
     simp (disch:=omega) only [Zi]
     simp only [Ya,hW,hF,if_neg hd0,ZaP,Ud,Yx,e,if_pos hz]
   . refine Zx (by simpa using hz) ?_
     dsimp only [go_sem,rA,rM,rS]
     refine call (Zad b.rub 1000000 m.hours m.load 0 _ (by omega) (by omega) (by omega) (by omega) (by omega) k6 (by omega) (by omega)) ?_
     dsimp only [Zd,go_sem,rA,rM,rS]
     simp only [Int.mul_assoc]
     refine call (Ub c.sore ⟨(b.rub.lo * (m.hours * m.load)).tdiv 1000000,upF (b.rub.hi * (m.hours * m.load)) 1000000⟩ _ (by unfold bdS;omega) (by unfold bdS;simp only;omega)) ?_
     dsimp only [Zd,go_sem,rA,rM,rS]
     simp only [Ya,hW,hF,if_neg hd0,ZaP,Ud,Yx,e,if_neg hz]
end Go.Proofs.YtiigiflofnjilaaGreat.Cm
namespace Go.Azalai
theorem Zfm {x y d:Int} (hd:1<=d) (h0:0<=x) (h:x<=y):x.tdiv d<=upF y d:=by
 unfold upF
 rw [Int.tdiv_eq_ediv_of_nonneg h0,Int.tdiv_eq_ediv_of_nonneg (by omega)]
 exact Int.ediv_le_ediv (by omega) (by omega)
theorem Zoo {b:Breed} {k:Bool} {m:March} (hb:Zz b=true) (hm:ZZ m=true):(XR b k m).lo<=(XR b k m).hi:=by
 have h:=Go.Proofs.YtiigiflofnjilaaGreat.Cm.breed_bd hb
 have h2:=Go.Proofs.YtiigiflofnjilaaGreat.Cm.march_bd hm
 have hw:=Go.Proofs.YtiigiflofnjilaaGreat.Cm.work_bd hm
 have q1:(b.toil.lo * Yk m).tdiv 100000<=upF (b.toil.hi * Yk m) 100000:=Zfm (by omega) (Int.mul_nonneg (by omega) hw.1) (Int.mul_le_mul_of_nonneg_right (by omega) hw.1)
 have q2:b.heat.lo * max 0 (m.heat.lo - 20)<=b.heat.hi * max 0 (m.heat.hi - 20):=Int.mul_le_mul (by omega) (by omega) (by omega) (by omega)
 simp only [XR]
 cases k<;>simp<;>omega
theorem ZqQ {b:Breed} {m:March} (hb:Zz b=true) (hm:ZZ m=true):(X5 b m).lo<=(X5 b m).hi:=by
 have h:=Go.Proofs.YtiigiflofnjilaaGreat.Cm.breed_bd hb
 have hw:=Go.Proofs.YtiigiflofnjilaaGreat.Cm.work_bd hm
 exact Zfm (by omega) (Int.mul_nonneg (by omega) hw.1) (Int.mul_le_mul_of_nonneg_right (by omega) hw.1)
theorem after_ok {b:Breed} {c:Camel} {m:March} (hb:Zz b=true) (hc:Zv b c=true) (hm:ZZ m=true) (hd:(Ya b c m).2≠2):Zv b (Ya b c m).1=true:=by
 have h1:=Go.Proofs.YtiigiflofnjilaaGreat.Cm.breed_bd hb
 have h2:=Go.Proofs.YtiigiflofnjilaaGreat.Cm.camel_bd hb hc
 have h3:=Go.Proofs.YtiigiflofnjilaaGreat.Cm.march_bd hm
 have w1:=ZdG (k:=c.milks) hb hm
 have w2:=Zdz hb hm
 have hlo:(XR b c.milks m).lo<=(XR b c.milks m).hi:=Zoo hb hm
 have hlf:(X5 b m).lo<=(X5 b m).hi:=ZqQ hb hm
 have hr:(b.rub.lo * (m.hours * m.load)).tdiv 1000000<=upF (b.rub.hi * (m.hours * m.load)) 1000000 :=
  Zfm (by omega) (Int.mul_nonneg (by omega) (Int.mul_nonneg (by omega) (by omega))) (Int.mul_le_mul_of_nonneg_right (by omega) (Int.mul_nonneg (by omega) (by omega)))
 have hr0:0<=(b.rub.lo * (m.hours * m.load)).tdiv 1000000 :=
  Int.tdiv_nonneg (Int.mul_nonneg (by omega) (Int.mul_nonneg (by omega) (by omega))) (by omega)
 unfold Ya at hd ⊢
 simp only at hd ⊢
 split at hd
 . exact absurd rfl hd
 . rename_i h
   rw [if_neg h]
   simp only [Zv,Z3,ZaP,Ud,Bool.and_eq_true,decide_eq_true_eq]
   by_cases hz:m.hours=0
   . simp only [if_pos hz,Bool.and_eq_true,decide_eq_true_eq]
     refine ⟨⟨decide_eq_true ⟨by omega,by omega,by omega⟩,decide_eq_true ⟨by omega,by omega,by omega⟩⟩,by omega,by omega,by omega⟩
   . simp only [if_neg hz,Bool.and_eq_true,decide_eq_true_eq]
     refine ⟨⟨decide_eq_true ⟨by omega,by omega,by omega⟩,decide_eq_true ⟨by omega,by omega,by omega⟩⟩,by omega,by omega,by omega⟩
end Go.Azalai
namespace Go.Proofs.YtiigiflofnjilaaGreat.Cm
open Go Go.Sx Go.Azalai
end Go.Proofs.YtiigiflofnjilaaGreat.Cm
namespace Go.Azalai
end Go.Azalai
namespace Go.Proofs.YtiigiflofnjilaaGreat.Cm
open Go Go.Sx Go.Azalai
theorem Zo1 (b:Breed) (c:Camel) (m:March) (hb:Zz b=true) (hc:Zv b c=true) (hm:ZZ m=true) (hd:(Ya b c m).2=2) :
 Ct Tryz.prog 84 [.agg (Yx b c),.agg (Xh m)] (.tup [.agg (Yx ⟨0,0,⟨0,0⟩,⟨0,0⟩,⟨0,0⟩,⟨0,0⟩,⟨0,0⟩,⟨0,0⟩,0,⟨0,0⟩⟩ Xx),.v (.int .u8 2)]):=by
 have h1:=breed_bd hb
 have h2:=camel_bd hb hc
 have h3:=march_bd hm
 have w1:=ZdG (k:=c.milks) hb hm
 have w2:=Zdz hb hm
 refine t84.1 (by simp [Yx,Xh,KFL,KF]) (by simp [Yx,Xx,KFL,KF]) ?_
 dsimp only [c84,r84,Yx,Xh,go_sem,rA,rM,rS]
 refine call (Zlh b c.milks m hb hm) ?_
 dsimp only [go_sem,rA,rM,rS]
 generalize hW:XR b c.milks m=W at w1
 generalize hF:X5 b m=F at w2
 have hd':c.water.hi < W.lo\/c.fat.hi < F.lo:=by
  by_cases h:c.water.hi < W.lo\/c.fat.hi < F.lo
  . exact h
  . simp only [Ya,hW,hF,if_neg h] at hd
    split at hd<;>cases hd
 by_cases hw:c.water.hi < W.lo
 . refine Xw 3 ?_
   dsimp only [Zb,go_sem,rA,rM,rS]
   refine Zu (by decide) ?_
   dsimp only [Zb,go_sem,rA,rM,rS]
   repeat (first | (refine ixa 0 rfl (by decide) ?_;dsimp only [Zb,go_sem,rA,rM,rS]) | (refine Zu (by simp;omega) ?_;dsimp only [Zb,Xx,go_sem,rA,rM,rS]))
 . have hf:c.fat.hi < F.lo:=by omega
   by_cases hp:c.water.lo < W.hi
   . refine Xw 3 ?_
     dsimp only [Zb,go_sem,rA,rM,rS]
     refine Zu (by decide) ?_
     dsimp only [Zb,go_sem,rA,rM,rS]
     repeat (first | (refine ixa 0 rfl (by decide) ?_;dsimp only [Zb,go_sem,rA,rM,rS]) | (refine Zx (by simp;omega) ?_;dsimp only [Zb,go_sem,rA,rM,rS]) | (refine Zu (by simp;omega) ?_;dsimp only [Zb,go_sem,rA,rM,rS]))
     simp (disch:=omega) only [Zi]
     refine call (Ub ⟨max 0 (c.water.lo - W.hi),c.water.hi - W.lo⟩ m.drinks _ (by unfold bdS;simp only;omega) (by unfold bdS;omega)) ?_
     dsimp only [Zb,Zd,go_sem,rA,rM,rS]
     repeat (first | (refine ixa 0 rfl (by decide) ?_;dsimp only [Zb,go_sem,rA,rM,rS]) | (refine Zx (by simp;omega) ?_;dsimp only [Zb,go_sem,rA,rM,rS]) | (refine Zu (by simp;omega) ?_;dsimp only [Zb,go_sem,rA,rM,rS]))
     simp (disch:=omega) only [Zi]
     refine Zu (by decide) ?_
     dsimp only [Zb,go_sem,rA,rM,rS]
     repeat (first | (refine ixa 1 rfl (by decide) ?_;dsimp only [Zb,go_sem,rA,rM,rS]) | (refine Zu (by simp;omega) ?_;dsimp only [Zb,Xx,go_sem,rA,rM,rS]))
   . refine Xw 3 ?_
     dsimp only [Zb,go_sem,rA,rM,rS]
     refine Zu (by decide) ?_
     dsimp only [Zb,go_sem,rA,rM,rS]
     repeat (first | (refine ixa 0 rfl (by decide) ?_;dsimp only [Zb,go_sem,rA,rM,rS]) | (refine Zx (by simp;omega) ?_;dsimp only [Zb,go_sem,rA,rM,rS]) | (refine Zu (by simp;omega) ?_;dsimp only [Zb,go_sem,rA,rM,rS]))
     simp (disch:=omega) only [Zi]
     refine call (Ub ⟨max 0 (c.water.lo - W.hi),c.water.hi - W.lo⟩ m.drinks _ (by unfold bdS;simp only;omega) (by unfold bdS;omega)) ?_
     dsimp only [Zb,Zd,go_sem,rA,rM,rS]
     repeat (first | (refine ixa 0 rfl (by decide) ?_;dsimp only [Zb,go_sem,rA,rM,rS]) | (refine Zx (by simp;omega) ?_;dsimp only [Zb,go_sem,rA,rM,rS]) | (refine Zu (by simp;omega) ?_;dsimp only [Zb,go_sem,rA,rM,rS]))
     simp (disch:=omega) only [Zi]
     refine Zu (by decide) ?_
     dsimp only [Zb,go_sem,rA,rM,rS]
     repeat (first | (refine ixa 1 rfl (by decide) ?_;dsimp only [Zb,go_sem,rA,rM,rS]) | (refine Zu (by simp;omega) ?_;dsimp only [Zb,Xx,go_sem,rA,rM,rS]))
end Go.Proofs.YtiigiflofnjilaaGreat.Cm
namespace Go.Azalai
def Yr (b:Breed) (c:Camel) (m:March):Camel × Int × Int :=
 if Zcs b c≠0 then (Xx,0,Zcs b c) else if ZZ m=false then (Xx,0,12) else if (Ya b c m).2=2 then (Xx,0,13) else ((Ya b c m).1,(Ya b c m).2,0)
end Go.Azalai
namespace Go.Proofs.YtiigiflofnjilaaGreat.Cm
open Go Go.Sx Go.Azalai
def U8 (n:Int):SV:=.v (.int .u8 n)
theorem after1_ok (b:Breed) (c:Camel) (m:March):Ct Tryz.prog 40 [.agg (breedL b),.agg (camelL c),.agg (Xh m)] (.tup [.agg (camelL (Yr b c m).1),U8 (Yr b c m).2.1,I (Yr b c m).2.2]):=by
 refine t40.1 (by simp [breedL,camelL,Xh,KFL,KF]) (by simp [camelL,U8,KFL,KF]) ?_
 dsimp only [c40,r40,breedL,camelL,Xh,go_sem,rA,rM,rS]
 refine call (checkCamel_ok b c) ?_
 dsimp only [go_sem,rA,rM,rS]
 by_cases h0:Zcs b c=0
 case neg =>
  refine Zu (by simpa using h0) ?_
  dsimp only [go_sem,rA,rM,rS]
  simp [Yr,h0,Xx,U8,camelL]
 refine Zx (by simpa using h0) ?_
 dsimp only [go_sem,rA,rM,rS]
 obtain ⟨hb,hc⟩:=errC_0.1 h0
 refine call (Zmk m true) ?_
 dsimp only [go_sem,rA,rM,rS]
 by_cases hm:ZZ m=true
 case neg =>
  refine Zu (by simp [hm]) ?_
  dsimp only [go_sem,rA,rM,rS]
  simp [Yr,h0,hm,Xx,U8,camelL]
 refine Zx (by simp [hm]) ?_
 dsimp only [go_sem,rA,rM,rS]
 by_cases hd:(Ya b c m).2=2
 . refine call (Zo1 b c m hb hc hm hd) ?_
   dsimp only [Yx,Xx,go_sem,rA,rM,rS]
   refine Zu (by decide) ?_
   dsimp only [go_sem,rA,rM,rS]
   simp [Yr,h0,hm,hd,Xx,U8,camelL]
 refine call (Zzc b c m hb hc hm hd) ?_
 dsimp only [Yx,go_sem,rA,rM,rS]
 refine Zx (by simpa using hd) ?_
 dsimp only [go_sem,rA,rM,rS]
 simp [Yr,h0,hm,hd,U8,camelL]
end Go.Proofs.YtiigiflofnjilaaGreat.Cm
namespace Go.Proofs.YtiigiflofnjilaaGreat
open Go Go.Sx Go.Azalai
theorem Zom (l:Land) (hs:WM l):Ct Tryz.prog 136 [.agg (ZY l)] (B (ZA l)):=by
 have hw1:IntKind.i64.wrap ((l.wells.length:Int) - 1)=(l.wells.length:Int) - 1:=Zi (by omega) (by have:=hs.1;omega)
 refine t136.1 (by simp [ZY,Ze,Zm,Zg,Za,KFL,KF]) (by simp [KFL,KF]) ?_
 dsimp only [c136,r136,ZY,go_sem,rA,rM,rS]
 refine call (X2 _ _ _) ?_
 dsimp only [go_sem,rA,rM,rS]
 repeat (refine gb ?_;dsimp only [go_sem,rA,rM,rS])
 simp only [List.length_map]
 refine br ?_ ?_
 . intro h
   dsimp only [go_sem,rA,rM,rS]
   have:ZA l=false:=by simp only [ZA];grind
   rw [this]
 intro h
 dsimp only [go_sem,rA,rM,rS]
 have ho1:ZA l=(l.wells.all Yy && l.legs.all (WP l.wells.length)):=by simp only [ZA];grind
 refine Xu (fun k:Nat=>[(3,I k)]) (fun _=>[]) (fun k=>k<=l.wells.length/\(l.wells.drop k).all Yy=l.wells.all Yy) (fun k=>l.wells.length - k) 0 ⟨Nat.zero_le _,rfl⟩ ?_ ?_
 . (refine Zk ?_ ?_ ?_ rfl rfl<;>dsimp only [Zg,Ze,Zm,id,go_sem,rA,rM,rS]<;>simp [Zg,Ze,Zm,Za,Zf,KFR,KFL,KF,Zc,mtO,nbr])
 intro k ⟨hk,hi⟩
 dsimp only [go_sem,rA,rM,rS]
 by_cases hlt:k < l.wells.length
 . refine Zu (by simpa using hlt) ?_
   dsimp only [go_sem,rA,rM,rS]
   refine Zr k hlt rfl ?_
   dsimp only [Ze,go_sem,rA,rM,rS]
   repeat (first | (refine gb ?_;dsimp only [go_sem,rA,rM,rS]) | (refine call (X2 _ _ _) ?_;dsimp only [go_sem,rA,rM,rS]) | (refine call (ZR l.wells[k].yld _ _) ?_;dsimp only [go_sem,rA,rM,rS]) | (refine call (ZR l.wells[k].has _ _) ?_;dsimp only [go_sem,rA,rM,rS]))
   rw [List.drop_eq_getElem_cons hlt,List.all_cons] at hi
   refine br ?_ ?_
   . intro hb
     dsimp only [go_sem,rA,rM,rS]
     have:Yy l.wells[k]=false:=by simp only [Yy];grind
     rw [ho1,<- hi,this];rfl
   . intro hb
     dsimp only [go_sem,rA,rM,rS]
     rw [Zi (n:=(k:Int)+1) (by omega) (by have:=hs.1;omega)]
     have:Yy l.wells[k]=true:=by simp only [Yy];grind
     rw [this,Bool.true_and] at hi
     refine ⟨k+1,⟨hlt,hi⟩,by omega,?_⟩
     (refine Zk ?_ ?_ ?_ rfl rfl<;>dsimp only [Zg,Ze,Zm,id,go_sem,rA,rM,rS]<;>simp [Zg,Ze,Zm,Za,Zf,KFR,KFL,KF,Zc,mtO,nbr])
 refine Zx (by simp;omega) ?_
 dsimp only [go_sem,rA,rM,rS]
 have hke:k=l.wells.length:=by omega
 subst hke
 rw [List.drop_length] at hi
 rw [<- hi] at ho1
 rw [show ZA l=l.legs.all (WP l.wells.length) from by rw [ho1];simp]
 refine Xu (fun k:Nat=>[(5,I k)]) (fun _=>[]) (fun k=>k<=l.legs.length/\(l.legs.drop k).all (WP l.wells.length)=l.legs.all (WP l.wells.length)) (fun k=>l.legs.length - k) 0 ⟨Nat.zero_le _,rfl⟩ ?_ ?_
 . (refine Zk ?_ ?_ ?_ rfl rfl<;>dsimp only [Zg,Ze,Zm,id,go_sem,rA,rM,rS]<;>simp [Zg,Ze,Zm,Za,Zf,KFR,KFL,KF,Zc,mtO,nbr])
 intro k ⟨hk,hi⟩
 dsimp only [go_sem,rA,rM,rS]
 by_cases hlt:k < l.legs.length
 . refine Zu (by simpa using hlt) ?_
   dsimp only [go_sem,rA,rM,rS]
   refine Zr k hlt rfl ?_
   dsimp only [Zm,go_sem,rA,rM,rS]
   simp only [List.length_map,hw1]
   repeat (first | (refine gb ?_;dsimp only [go_sem,rA,rM,rS]) | (refine call (X2 _ _ _) ?_;dsimp only [go_sem,rA,rM,rS]) | (refine call (ZR l.legs[k].long _ _) ?_;dsimp only [go_sem,rA,rM,rS]))
   rw [List.drop_eq_getElem_cons hlt,List.all_cons] at hi
   simp only [List.length_map]
   have hgl:=hs.2.2 l.legs[k] (List.getElem_mem _)
   generalize l.legs[k]=x at *
   refine br ?_ ?_
   . intro hb
     dsimp only [go_sem,rA,rM,rS]
     have:WP l.wells.length x=false:=by simp only [WP];grind
     rw [<- hi,this];rfl
   . intro hb
     dsimp only [go_sem,rA,rM,rS]
     have hx:WP l.wells.length x=YH 0 x.gates:=by simp only [WP];grind
     refine Xu (fun s:Nat × Int=>[(8,I s.1),(7,I s.2)]) (fun _=>[]) (fun s=>s.1<=x.gates.length/\YH (s.2+1) (x.gates.drop s.1)=YH 0 x.gates) (fun s=>x.gates.length - s.1) (0,-1) ⟨Nat.zero_le _,rfl⟩ ?_ ?_
     . (refine Zk ?_ ?_ ?_ rfl rfl<;>dsimp only [Zg,Ze,Zm,id,go_sem,rA,rM,rS]<;>simp [Zg,Ze,Zm,Za,Zf,KFR,KFL,KF,Zc,mtO,nbr])
     rintro ⟨j,last⟩ ⟨hj,hji⟩
     simp only at hj hji
     dsimp only [go_sem,rA,rM,rS]
     by_cases hlt2:j < x.gates.length
     . refine Zu (by simpa using hlt2) ?_
       dsimp only [go_sem,rA,rM,rS]
       refine Zr j hlt2 rfl ?_
       dsimp only [Zg,go_sem,rA,rM,rS]
       repeat (first | (refine gb ?_;dsimp only [go_sem,rA,rM,rS]) | (refine call (ZR x.gates[j].opens _ _) ?_;dsimp only [go_sem,rA,rM,rS]) | (refine call (ZR x.gates[j].shuts _ _) ?_;dsimp only [go_sem,rA,rM,rS]))
       rw [List.drop_eq_getElem_cons hlt2] at hji
       simp only [YH] at hji
       refine br ?_ ?_
       . intro hb2
         dsimp only [go_sem,rA,rM,rS]
         have:WP l.wells.length x=false:=by rw [hx,<- hji];simp only [inR];grind
         rw [<- hi,this];rfl
       . intro hb2
         dsimp only [go_sem,rA,rM,rS]
         rw [Zi (n:=(j:Int)+1) (by omega) (by omega)]
         refine ⟨(j+1,x.gates[j].shuts.hi),⟨hlt2,?_⟩,by simp only;omega,?_⟩
         . simp only;rw [<- hji];simp only [inR];grind
         . (refine Zk ?_ ?_ ?_ rfl rfl<;>dsimp only [Zg,Ze,Zm,id,go_sem,rA,rM,rS]<;>simp [Zg,Ze,Zm,Za,Zf,KFR,KFL,KF,Zc,mtO,nbr])
     . refine Zx (by simp;omega) ?_
       dsimp only [go_sem,rA,rM,rS]
       rw [Zi (n:=(k:Int)+1) (by omega) (by have:=hs.2.1;omega)]
       have hje:j=x.gates.length:=by omega
       subst hje
       rw [List.drop_length] at hji
       simp only [YH] at hji
       rw [hx,<- hji,Bool.true_and] at hi
       refine ⟨k+1,⟨hlt,hi⟩,by omega,?_⟩
       (refine Zk ?_ ?_ ?_ rfl rfl<;>dsimp only [Zg,Ze,Zm,id,go_sem,rA,rM,rS]<;>simp [Zg,Ze,Zm,Za,Zf,KFR,KFL,KF,Zc,mtO,nbr])
 refine Zx (by simp;omega) ?_
 dsimp only [go_sem,rA,rM,rS]
 have hke:k=l.legs.length:=by omega
 subst hke
 rw [List.drop_length] at hi
 rw [<- hi];rfl
theorem ZoC (l:Land):Ct Tryz.prog 46 [.agg (ZY l)] (B (Zcd l)):=by
 refine t46.1 (by simp [ZY,Ze,Zm,Zg,Za,KFL,KF]) (by simp [KFL,KF]) ?_
 dsimp only [c46,r46,ZY,go_sem,rA,rM,rS]
 repeat (refine gb ?_;dsimp only [go_sem,rA,rM,rS])
 simp only [List.length_map]
 refine br ?_ ?_
 . intro h
   dsimp only [go_sem,rA,rM,rS]
   (simp only [Zcd,Option.some.injEq,SV.v.injEq,Value.bool.injEq]<;>grind)
 intro h
 dsimp only [go_sem,rA,rM,rS]
 have hg:Zcd l=l.legs.any fun x=>decide (x.gates.length > 20):=by simp only [Zcd];grind
 have hlen:l.legs.length<=40:=by grind
 rw [hg]
 refine Xu (fun k:Nat=>[(3,I k)]) (fun _=>[]) (fun k=>k<=l.legs.length/\((l.legs.drop k).any fun x=>decide (x.gates.length > 20))=l.legs.any fun x=>decide (x.gates.length > 20)) (fun k=>l.legs.length - k) 0 ⟨Nat.zero_le _,rfl⟩ ?_ ?_
 . (refine Zk ?_ ?_ ?_ rfl rfl<;>dsimp only [Zg,Ze,Zm,id,go_sem,rA,rM,rS]<;>simp [Zg,Ze,Zm,Za,Zf,KFR,KFL,KF,Zc,mtO,nbr])
 intro k ⟨hk,hi⟩
 dsimp only [go_sem,rA,rM,rS]
 by_cases hlt:k < l.legs.length
 . refine Zu (by simpa using hlt) ?_
   dsimp only [go_sem,rA,rM,rS]
   refine Zr k hlt rfl ?_
   dsimp only [Zm,go_sem,rA,rM,rS]
   rw [List.drop_eq_getElem_cons hlt,List.any_cons] at hi
   refine br ?_ ?_
   . intro hb
     dsimp only [go_sem,rA,rM,rS]
     have:decide (l.legs[k].gates.length > 20)=true:=by simp at hb ⊢;omega
     rw [<- hi,this];rfl
   . intro hb
     dsimp only [go_sem,rA,rM,rS]
     rw [Zi (n:=(k:Int)+1) (by omega) (by omega)]
     have:decide (l.legs[k].gates.length > 20)=false:=by simp at hb ⊢;omega
     rw [this,Bool.false_or] at hi
     refine ⟨k+1,⟨hlt,hi⟩,by omega,?_⟩
     (refine Zk ?_ ?_ ?_ rfl rfl<;>dsimp only [Zg,Ze,Zm,id,go_sem,rA,rM,rS]<;>simp [Zg,Ze,Zm,Za,Zf,KFR,KFL,KF,Zc,mtO,nbr])
 refine Zx (by simp;omega) ?_
 dsimp only [go_sem,rA,rM,rS]
 have hke:k=l.legs.length:=by omega
 subst hke
 rw [List.drop_length] at hi
 rw [<- hi];rfl
end Go.Proofs.YtiigiflofnjilaaGreat
namespace Go.Azalai
def ZX (p:Span):Bool:=Z3 1 100000 p
def Zay (l:Land) (p:Span):Int:=if ZA l=false then 30 else if ZX p=false then 31 else 0
def ZcI (x:Leg) (p:Span):Span:=⟨(x.long.lo+p.hi - 1).tdiv p.hi,(x.long.hi+p.lo - 1).tdiv p.lo⟩
def Za3 (n day:Int) (o s:Gate->Int):List Gate->Int
 | []=>100001
 | g :: r=>if max day (o g)+n - 1<=s g then max day (o g) else Za3 n day o s r
def ZdW (n day:Int) (o s:Gate->Int) (acc:Int):List Gate->Int
 | []=>acc
 | g :: r=>ZdW n day o s (if max day (o g)+n - 1<=s g then min (min acc (max day (o g))) 100001 else acc) r
def Zyo (x:Leg) (p:Span) (day:Int):Int:=Za3 (ZcI x p).lo day (·.opens.lo) (·.shuts.hi) x.gates
def Zvi (x:Leg) (p:Span) (day:Int):Int:=Za3 (ZcI x p).hi day (·.opens.hi) (·.shuts.lo) x.gates
def YO (l:Land) (leg:Int) (p:Span):Span × Int :=
 if Zay l p≠0 then (⟨0,0⟩,Zay l p)
 else if inR 0 (l.legs.length - 1) leg=false then (⟨0,0⟩,2)
 else match l.legs[leg.toNat]? with
  | some x=>(ZcI x p,0)
  | none=>(⟨0,0⟩,0)
structure GoodLeg (x:Leg):Prop where
 l1:1<=x.long.lo
 l2:x.long.lo<=x.long.hi
 l3:x.long.hi<=1000000
 g1:x.gates.length<=6
 g2:YH 0 x.gates=true
theorem WW {l:Land} (h:ZA l=true):∀ x ∈ l.legs,GoodLeg x:=by
 simp only [ZA,Bool.and_eq_true,List.all_eq_true] at h
 intro x hx
 have:=h.2 x hx
 simp only [WP,Z3,Bool.and_eq_true,decide_eq_true_eq] at this
 exact ⟨by omega,by omega,by omega,by omega,this.2⟩
theorem Xz:∀ {l:List Gate} {next:Int},YH next l=true->0<=next->∀ g ∈ l,0<=g.opens.lo/\g.opens.lo<=g.opens.hi/\g.opens.hi<=100000/\0<=g.shuts.lo/\g.shuts.lo<=g.shuts.hi/\g.shuts.hi<=100000/\next<=g.opens.lo
 | [],_,_,_,g,hg=>by simp at hg
 | x :: l,next,h,h0,g,hg=>by
  simp only [YH,Z3,inR,Bool.and_eq_true,decide_eq_true_eq] at h
  rcases List.mem_cons.1 hg with rfl | hg
  . omega
  . have:=Xz h.2 (by omega) g hg;omega
theorem Zds {n day:Int} {o s:Gate->Int} (hn:1<=n) (ho:∀ g,(0<=g.opens.lo/\g.opens.lo<=g.opens.hi/\g.opens.hi<=100000/\0<=g.shuts.lo/\g.shuts.lo<=g.shuts.hi/\g.shuts.hi<=100000)->g.opens.lo<=o g/\s g<=g.shuts.hi) :
 ∀ {l:List Gate} {next acc:Int},YH next l=true->0<=next->acc<=100001->ZdW n day o s acc l=min acc (Za3 n day o s l)
 | [],next,acc,_,_,ha=>by simp only [ZdW,Za3];omega
 | x :: l,next,acc,h,h0,ha=>by
  have hm:=Xz h h0 x (by simp)
  simp only [YH,Z3,inR,Bool.and_eq_true,decide_eq_true_eq] at h
  have h1:=ho x ⟨hm.1,hm.2.1,hm.2.2.1,hm.2.2.2.1,hm.2.2.2.2.1,hm.2.2.2.2.2.1⟩
  have hrest:∀ (l:List Gate),(∀ g ∈ l,x.shuts.hi+1<=o g)->x.shuts.hi+1<=Za3 n day o s l:=fun l=>by
   induction l with
   | nil=>intro _;simp only [Za3];omega
   | cons g l ih=>intro hg;simp only [Za3];have:=hg g (by simp);have:=ih (fun g' h'=>hg g' (by simp [h']));split<;>omega
  have hr:=hrest l (fun g hg=>by
   have q:=Xz h.2 (by omega) g hg
   have:=ho g ⟨q.1,q.2.1,q.2.2.1,q.2.2.2.1,q.2.2.2.2.1,q.2.2.2.2.2.1⟩
   omega)
  simp only [ZdW,Za3]
  rw [Zds hn ho h.2 (by omega) (by split<;>omega)]
  repeat' split
  all_goals first | rfl | omega
theorem day_bd {x:Leg} {p:Span} (h:GoodLeg x) (hp:ZX p=true):1<=(ZcI x p).lo/\(ZcI x p).lo<=1000000/\1<=(ZcI x p).hi/\(ZcI x p).hi<=1000000:=by
 simp only [ZX,Z3,decide_eq_true_eq] at hp
 obtain ⟨p1,p2,p3⟩:=hp
 obtain ⟨h1,h2,h3,_,_⟩:=h
 simp only [ZcI]
 have key:∀ a b:Int,1<=a->a<=1000000->1<=b->1<=(a+b - 1).tdiv b/\(a+b - 1).tdiv b<=1000000:=fun a b ha ha2 hb=>by
  rw [Int.tdiv_eq_ediv_of_nonneg (by omega)]
  constructor
  . exact Int.le_ediv_of_mul_le (by omega) (by omega)
  . refine Int.le_of_lt_add_one (Int.ediv_lt_of_lt_mul (by omega) ?_)
    have:1 * a<=b * a:=Int.mul_le_mul_of_nonneg_right hb (by omega)
    have e:(1000000+1) * b=b * 1000000+b:=by rw [Int.add_mul];omega
    have:b * a<=b * 1000000:=Int.mul_le_mul_of_nonneg_left ha2 (by omega)
    rw [e]
    have:=Int.mul_le_mul_of_nonneg_left ha2 (show (0:Int)<=b - 1 by omega)
    have q:(b - 1) * a=b * a - a:=by rw [Int.sub_mul];omega
    have q2:(b - 1) * 1000000=b * 1000000 - 1000000:=by rw [Int.sub_mul];omega
    omega
 exact ⟨(key _ _ h1 (by omega) (by omega)).1,(key _ _ h1 (by omega) (by omega)).2,(key _ _ (by omega) h3 p1).1,(key _ _ (by omega) h3 p1).2⟩
end Go.Azalai
namespace Go.Proofs.YtiigiflofnjilaaGreat
open Go Go.Sx Go.Azalai
def sres (r:Span × Int):SV:=.tup [.agg (Zd r.1),I r.2]
theorem Zmf (l:Land) (hs:WM l):Ct Tryz.prog 93 [.agg (ZY l)] (I (if ZA l=true then 0 else 30)):=by
 refine t93.1 (by simp [ZY,Ze,Zm,Zg,Za,KFL,KF]) (by simp [KFL,KF]) ?_
 dsimp only [c93,r93,ZY,go_sem,rA,rM,rS]
 refine call (Zom l hs) ?_
 dsimp only [go_sem,rA,rM,rS]
 refine br ?_ ?_
 . intro h
   dsimp only [go_sem,rA,rM,rS]
   have:ZA l=false:=by simpa using h
   simp [this]
 . intro h
   dsimp only [go_sem,rA,rM,rS]
   have:ZA l=true:=by simpa using h
   simp [this]
theorem Zrm (p:Span):Ct Tryz.prog 94 [.agg (Zd p)] (B (ZX p)):=by
 refine t94.1 (by simp [Zd,KFL,KF]) (by simp [KFL,KF]) ?_
 dsimp only [c94,r94,Zd,go_sem,rA,rM,rS]
 refine call (ZR p _ _) ?_
 dsimp only [go_sem,rA,rM,rS]
 simp [ZX]
theorem ZxG {l:Land} {leg:Int} (h:inR 0 (l.legs.length - 1) leg=true):∃ (k:Nat) (hk:k < l.legs.length),leg=(k:Int)/\l.legs[leg.toNat]? = some l.legs[k]:=by
 simp only [inR,decide_eq_true_eq] at h
 refine ⟨leg.toNat,by omega,by omega,?_⟩
 rw [List.getElem?_eq_getElem (by omega)]
theorem ask0 {l:Land} {p:Span} (h:Zay l p=0):ZA l=true/\ZX p=true:=by
 unfold Zay at h
 cases h1:ZA l<;>cases h2:ZX p<;>simp_all
theorem ZvS (a b d:Int) (c:Bool):Ct Tryz.prog 71 [.sl c 1 [[I a],[I b],[I d]]] (I (min (min a b) d)):=by
 refine t71.1 (by simp [KFR,KFL,KF]) (by simp [KFL,KF]) ?_
 dsimp only [c71,r71,go_sem,rA,rM,rS]
 refine Zx (by decide) ?_
 dsimp only [go_sem,rA,rM,rS]
 refine ixs 0 [I a] rfl rfl ?_
 dsimp only [go_sem,rA,rM,rS]
 refine Xw 3 ?_
 dsimp only [Zb,go_sem,rA,rM,rS]
 refine Zu (by decide) ?_
 dsimp only [Zb,go_sem,rA,rM,rS]
 refine ixs 1 [I b] rfl rfl ?_
 dsimp only [Zb,go_sem,rA,rM,rS]
 refine Zu (by decide) ?_
 dsimp only [Zb,go_sem,rA,rM,rS]
 refine ixs 2 [I d] rfl rfl ?_
 dsimp only [Zb,go_sem,rA,rM,rS]
 refine Zx (by decide) ?_
 dsimp only [go_sem,rA,rM,rS]
theorem VX (a b:Int):Ct Tryz.prog 122 [.sl true 1 [[I a],[I b]]] (I (min (min a b) 100001)):=by
 refine t122.1 (by simp [KFR,KFL,KF]) (by simp [KFL,KF]) ?_
 dsimp only [c122,r122,go_sem,rA,rM,rS]
 refine Zm1 (by simp) ?_
 dsimp only [go_sem,rA,rM,rS]
 refine call (ZvS a b 100001 false) ?_
 dsimp only [go_sem,rA,rM,rS]
theorem Zfo {n day:Int} {o s:Gate->Int} (hn:1<=n):∀ {l:List Gate},(∀ g ∈ l,s g<=100000)->Za3 n day o s l<=100001
 | [],_=>by simp only [Za3];omega
 | x :: l,h=>by
  have:=h x (by simp)
  have:=Zfo (day:=day) (o:=o) (s:=s) (l:=l) hn (fun g hg=>h g (by simp [hg]))
  simp only [Za3];split<;>omega
def Yc (l:Land) (p:Span):List SV:=[.sl false 9 (l.wells.map Ze),.sl false 5 (l.legs.map Zm),I p.lo,I p.hi]
theorem Zdw (l:Land) (hs:WM l) (p:Span) (ha:Zay l p=0):Ct Tryz.prog 75 [.agg (ZY l),.agg (Zd p)] (.tup [.agg (Yc l p),I 0]):=by
 obtain ⟨h1,h2⟩:=ask0 ha
 refine t75.1 (by simp [ZY,Ze,Zm,Zg,Zd,Za,KFL,KF]) (by simp [Yc,Ze,Zm,Zg,Zd,Za,KFL,KF]) ?_
 dsimp only [c75,r75,ZY,Zd,go_sem,rA,rM,rS]
 refine call (ZdN l hs) ?_
 dsimp only [go_sem,rA,rM,rS]
 refine Zx (by simp [h1]) ?_
 dsimp only [go_sem,rA,rM,rS]
 refine call (Xl 1 100000 p _) ?_
 dsimp only [go_sem,rA,rM,rS]
 refine Zx (by simpa [ZX] using h2) ?_
 dsimp only [Yc,go_sem,rA,rM,rS]
theorem Zbd (l:Land) (hs:WM l) (p:Span) (ha:Zay l p≠0):Ct Tryz.prog 75 [.agg (ZY l),.agg (Zd p)] (.tup [.agg [.v (.slice none 0 0),.v (.slice none 0 0),I 0,I 0],I (Zay l p)]):=by
 refine t75.1 (by simp [ZY,Ze,Zm,Zg,Zd,Za,KFL,KF]) (by simp [KFL,KF]) ?_
 dsimp only [c75,r75,ZY,Zd,go_sem,rA,rM,rS]
 refine call (ZdN l hs) ?_
 dsimp only [go_sem,rA,rM,rS]
 by_cases h1:ZA l=true
 case neg =>
  refine Zu (by simp [h1]) ?_
  dsimp only [go_sem,rA,rM,rS]
  simp [Zay,h1]
 refine Zx (by simp [h1]) ?_
 dsimp only [go_sem,rA,rM,rS]
 refine call (Xl 1 100000 p _) ?_
 dsimp only [go_sem,rA,rM,rS]
 have h2:ZX p=false:=by
  by_cases h2:ZX p=true
  . exact absurd (by simp [Zay,h1,h2]) ha
  . simpa using h2
 refine Zu (by simpa [ZX] using h2) ?_
 dsimp only [go_sem,rA,rM,rS]
 simp [Zay,h1,h2]
theorem Zdm (l:Land) (p:Span) (k:Nat) (hk:k < l.legs.length) (hx:GoodLeg l.legs[k]) (hp:ZX p=true):Ct Tryz.prog 82 [.agg (Yc l p),I k] (.agg (Zd (ZcI l.legs[k] p))):=by
 have hb:=day_bd hx hp
 have hp':=hp
 simp only [ZX,Z3,decide_eq_true_eq] at hp'
 obtain ⟨h1,h2,h3,h4,h5⟩:=hx
 refine t82.1 (by simp [Yc,Ze,Zm,Zg,Zd,Za,KFL,KF]) (by simp [Zd,KFL,KF]) ?_
 dsimp only [c82,r82,Yc,go_sem,rA,rM,rS]
 refine Zr k hk rfl ?_
 dsimp only [Zm,go_sem,rA,rM,rS]
 rw [Zi (n:=l.legs[k].long.lo+p.hi) (by omega) (by omega),Zi (n:=l.legs[k].long.lo+p.hi - 1) (by omega) (by omega)]
 refine Zd2 (by omega) ?_
 dsimp only [go_sem,rA,rM,rS]
 rw [Zi (n:=l.legs[k].long.hi+p.lo) (by omega) (by omega),Zi (n:=l.legs[k].long.hi+p.lo - 1) (by omega) (by omega)]
 refine Zd2 (by omega) ?_
 dsimp only [Zd,go_sem,rA,rM,rS]
 simp only [ZcI] at hb ⊢
 rw [Zi (n:=(l.legs[k].long.lo+p.hi - 1).tdiv p.hi) (by omega) (by omega),Zi (n:=(l.legs[k].long.hi+p.lo - 1).tdiv p.lo) (by omega) (by omega)]
theorem ZdQ (a b:Int):Ct Tryz.prog 80 [.agg [I a,I b]] (.agg [I a,I b]):=by
 refine t80.1 (by simp [KFL,KF]) (by simp [KFL,KF]) ?_
 dsimp only [c80,r80,go_sem,rA,rM,rS]
 refine ixa 0 rfl (by decide) ?_
 dsimp only [go_sem,rA,rM,rS]
 refine ixa 1 rfl (by decide) ?_
 dsimp only [go_sem,rA,rM,rS]
theorem Zns (l:Land) (hs:WM l) (leg:Int) (p:Span):Ct Tryz.prog 39 [.agg (ZY l),I leg,.agg (Zd p)] (sres (YO l leg p)):=by
 have hw1:IntKind.i64.wrap ((l.legs.length:Int) - 1)=(l.legs.length:Int) - 1:=Zi (by omega) (by have:=hs.2.1;omega)
 refine t39.1 (by simp [ZY,Ze,Zm,Zg,Zd,Za,KFL,KF]) (by simp [sres,Zd,KFL,KF]) ?_
 dsimp only [c39,r39,ZY,Zd,go_sem,rA,rM,rS]
 by_cases ha:Zay l p=0
 case neg =>
  refine call (Zbd l hs p ha) ?_
  dsimp only [go_sem,rA,rM,rS]
  refine Zu (by simpa using ha) ?_
  dsimp only [go_sem,rA,rM,rS]
  simp [YO,ha,sres,Zd]
 refine call (Zdw l hs p ha) ?_
 dsimp only [Yc,go_sem,rA,rM,rS]
 refine Zx (by decide) ?_
 dsimp only [go_sem,rA,rM,rS]
 simp only [List.length_map,hw1]
 repeat (first | (refine gb ?_;dsimp only [go_sem,rA,rM,rS]) | (refine call (Zas _ _ _ _) ?_;dsimp only [go_sem,rA,rM,rS]))
 by_cases hr:inR 0 (l.legs.length - 1) leg=true
 case neg =>
  refine Zu (by grind) ?_
  dsimp only [go_sem,rA,rM,rS]
  simp [YO,ha,hr,sres,Zd]
 refine Zx (by grind) ?_
 dsimp only [go_sem,rA,rM,rS]
 obtain ⟨k,hk,rfl,hget⟩:=ZxG hr
 obtain ⟨hol,hop⟩:=ask0 ha
 have hx:=WW hol l.legs[k] (List.getElem_mem _)
 refine call (Zdm l p k hk hx hop) ?_
 dsimp only [Zd,go_sem,rA,rM,rS]
 refine call (ZdQ _ _) ?_
 dsimp only [go_sem,rA,rM,rS]
 simp only [YO,ha,hr,hget,sres,Zd]
 simp
theorem Wm (l:Land) (p:Span) (k:Nat) (hk:k < l.legs.length) (d0 d1:Int) (hx:GoodLeg l.legs[k]) (hp:ZX p=true) (h0:inR 0 100001 d0=true) (h1:inR 0 100001 d1=true) :
 Ct Tryz.prog 78 [.agg (Yc l p),I k,.agg [I d0,I d1]] (.agg [I (Zyo l.legs[k] p d0),I (Zvi l.legs[k] p d1)]):=by
 have hb:=day_bd hx hp
 have hg:=Xz hx.g2 (Int.le_refl _)
 have hl:=hx.g1
 simp only [inR,decide_eq_true_eq] at h0 h1
 refine t78.1 (by simp [Yc,Ze,Zm,Zg,Zd,Za,KFL,KF]) (by simp [KFL,KF]) ?_
 dsimp only [c78,r78,Yc,go_sem,rA,rM,rS]
 refine call (Zdm l p k hk hx hp) ?_
 dsimp only [Zd,go_sem,rA,rM,rS]
 refine Zr k hk rfl ?_
 dsimp only [Zm,go_sem,rA,rM,rS]
 have e0:ZdW (ZcI l.legs[k] p).lo d0 (·.opens.lo) (·.shuts.hi) 100001 l.legs[k].gates=Zyo l.legs[k] p d0:=by
  rw [Zds hb.1 (fun g h=>by omega) hx.g2 (Int.le_refl _) (by omega)]
  exact Int.min_eq_right (Zfo hb.1 (fun g h=>by have:=hg g h;omega))
 have e1:ZdW (ZcI l.legs[k] p).hi d1 (·.opens.hi) (·.shuts.lo) 100001 l.legs[k].gates=Zvi l.legs[k] p d1:=by
  rw [Zds hb.2.2.1 (fun g h=>by omega) hx.g2 (Int.le_refl _) (by omega)]
  exact Int.min_eq_right (Zfo hb.2.2.1 (fun g h=>by have:=hg g h;omega))
 generalize hnl:(ZcI l.legs[k] p).lo=nl at hb e0
 generalize hnh:(ZcI l.legs[k] p).hi=nh at hb e1
 refine Xu (fun s:Nat × Int × Int=>[(27,I s.1)]) (fun s=>[(4,.cells [I s.2.1,I s.2.2] 165)])
  (fun s=>s.1<=l.legs[k].gates.length/\ZdW nl d0 (·.opens.lo) (·.shuts.hi) s.2.1 (l.legs[k].gates.drop s.1)=Zyo l.legs[k] p d0/\ZdW nh d1 (·.opens.hi) (·.shuts.lo) s.2.2 (l.legs[k].gates.drop s.1)=Zvi l.legs[k] p d1)
  (fun s=>l.legs[k].gates.length - s.1) (0,100001,100001) ⟨Nat.zero_le _,e0,e1⟩ ?_ ?_
 . (refine Zk ?_ ?_ ?_ rfl rfl<;>dsimp only [Zg,Ze,Zm,Zd,id,go_sem,rA,rM,rS]<;>simp [Zg,Ze,Zm,Zd,Za,Zf,KFR,KFL,KF,Zc,mtO,nbr])
 rintro ⟨j,m0,m1⟩ ⟨hj,i0,i1⟩
 simp only at hj i0 i1
 dsimp only [go_sem,rA,rM,rS]
 by_cases hlt:j < l.legs[k].gates.length
 . refine Zu (by simpa using hlt) ?_
   dsimp only [go_sem,rA,rM,rS]
   have hgk:=hg l.legs[k].gates[j] (List.getElem_mem _)
   rw [List.drop_eq_getElem_cons hlt,ZdW] at i0 i1
   refine Zr j hlt rfl ?_
   dsimp only [Zg,go_sem,rA,rM,rS]
   refine Xw 3 ?_
   dsimp only [Zb,go_sem,rA,rM,rS]
   refine Zu (by decide) ?_
   dsimp only [Zb,go_sem,rA,rM,rS]
   repeat (first | (refine ixa 0 rfl (by decide) ?_;dsimp only [Zb,go_sem,rA,rM,rS]) | (refine call (VX _ _) ?_;dsimp only [Zb,go_sem,rA,rM,rS]))
   rw [Zi (n:=max d0 l.legs[k].gates[j].opens.lo+nl) (by omega) (by omega),Zi (n:=max d0 l.legs[k].gates[j].opens.lo+nl - 1) (by omega) (by omega)]
   refine br ?_ ?_
   . intro hA
     dsimp only [Zb,go_sem,rA,rM,rS]
     repeat (first | (refine ixa 0 rfl (by decide) ?_;dsimp only [Zb,go_sem,rA,rM,rS]) | (refine call (VX _ _) ?_;dsimp only [Zb,go_sem,rA,rM,rS]))
     rw [if_pos (by simpa using hA)] at i0
     refine Zu (by decide) ?_
     dsimp only [Zb,go_sem,rA,rM,rS]
     repeat (first | (refine ixa 1 rfl (by decide) ?_;dsimp only [Zb,go_sem,rA,rM,rS]) | (refine call (VX _ _) ?_;dsimp only [Zb,go_sem,rA,rM,rS]))
     rw [Zi (n:=max d1 l.legs[k].gates[j].opens.hi+nh) (by omega) (by omega),Zi (n:=max d1 l.legs[k].gates[j].opens.hi+nh - 1) (by omega) (by omega)]
     refine br ?_ ?_
     . intro hB
       dsimp only [Zb,go_sem,rA,rM,rS]
       repeat (first | (refine ixa 1 rfl (by decide) ?_;dsimp only [Zb,go_sem,rA,rM,rS]) | (refine call (VX _ _) ?_;dsimp only [Zb,go_sem,rA,rM,rS]))
       rw [if_pos (by simpa using hB)] at i1
       refine Zx (by decide) ?_
       dsimp only [go_sem,rA,rM,rS]
       rw [Zi (n:=(j:Int)+1) (by omega) (by omega)]
       refine ⟨(j+1,min (min m0 (max d0 l.legs[k].gates[j].opens.lo)) 100001,min (min m1 (max d1 l.legs[k].gates[j].opens.hi)) 100001),⟨hlt,i0,i1⟩,by simp only;omega,?_⟩
       (refine Zk ?_ ?_ ?_ rfl rfl<;>dsimp only [Zg,Ze,Zm,Zd,id,go_sem,rA,rM,rS]<;>simp [Zg,Ze,Zm,Zd,Za,Zf,KFR,KFL,KF,Zc,mtO,nbr])
     . intro hB
       dsimp only [Zb,go_sem,rA,rM,rS]
       rw [if_neg (by simpa using hB)] at i1
       refine Zx (by decide) ?_
       dsimp only [go_sem,rA,rM,rS]
       rw [Zi (n:=(j:Int)+1) (by omega) (by omega)]
       refine ⟨(j+1,min (min m0 (max d0 l.legs[k].gates[j].opens.lo)) 100001,m1),⟨hlt,i0,i1⟩,by simp only;omega,?_⟩
       (refine Zk ?_ ?_ ?_ rfl rfl<;>dsimp only [Zg,Ze,Zm,Zd,id,go_sem,rA,rM,rS]<;>simp [Zg,Ze,Zm,Zd,Za,Zf,KFR,KFL,KF,Zc,mtO,nbr])
   . intro hA
     dsimp only [Zb,go_sem,rA,rM,rS]
     rw [if_neg (by simpa using hA)] at i0
     refine Zu (by decide) ?_
     dsimp only [Zb,go_sem,rA,rM,rS]
     repeat (first | (refine ixa 1 rfl (by decide) ?_;dsimp only [Zb,go_sem,rA,rM,rS]) | (refine call (VX _ _) ?_;dsimp only [Zb,go_sem,rA,rM,rS]))
     rw [Zi (n:=max d1 l.legs[k].gates[j].opens.hi+nh) (by omega) (by omega),Zi (n:=max d1 l.legs[k].gates[j].opens.hi+nh - 1) (by omega) (by omega)]
     refine br ?_ ?_
     . intro hB
       dsimp only [Zb,go_sem,rA,rM,rS]
       repeat (first | (refine ixa 1 rfl (by decide) ?_;dsimp only [Zb,go_sem,rA,rM,rS]) | (refine call (VX _ _) ?_;dsimp only [Zb,go_sem,rA,rM,rS]))
       rw [if_pos (by simpa using hB)] at i1
       refine Zx (by decide) ?_
       dsimp only [go_sem,rA,rM,rS]
       rw [Zi (n:=(j:Int)+1) (by omega) (by omega)]
       refine ⟨(j+1,m0,min (min m1 (max d1 l.legs[k].gates[j].opens.hi)) 100001),⟨hlt,i0,i1⟩,by simp only;omega,?_⟩
       (refine Zk ?_ ?_ ?_ rfl rfl<;>dsimp only [Zg,Ze,Zm,Zd,id,go_sem,rA,rM,rS]<;>simp [Zg,Ze,Zm,Zd,Za,Zf,KFR,KFL,KF,Zc,mtO,nbr])
     . intro hB
       dsimp only [Zb,go_sem,rA,rM,rS]
       rw [if_neg (by simpa using hB)] at i1
       refine Zx (by decide) ?_
       dsimp only [go_sem,rA,rM,rS]
       rw [Zi (n:=(j:Int)+1) (by omega) (by omega)]
       refine ⟨(j+1,m0,m1),⟨hlt,i0,i1⟩,by simp only;omega,?_⟩
       (refine Zk ?_ ?_ ?_ rfl rfl<;>dsimp only [Zg,Ze,Zm,Zd,id,go_sem,rA,rM,rS]<;>simp [Zg,Ze,Zm,Zd,Za,Zf,KFR,KFL,KF,Zc,mtO,nbr])
 refine Zx (by simp;omega) ?_
 dsimp only [go_sem,rA,rM,rS]
 have hke:j=l.legs[k].gates.length:=by omega
 subst hke
 rw [List.drop_length,ZdW] at i0 i1
 rw [<- i0,<- i1]
theorem Zx4 (l:Land) (hs:WM l):Ct Tryz.prog 47 [.agg (ZY l)] (.agg (ZY l)):=by
 refine t47.1 (by simp [ZY,Ze,Zm,Zg,Za,KFL,KF]) (by simp [ZY,Ze,Zm,Zg,Za,KFL,KF]) ?_
 dsimp only [c47,r47,ZY,go_sem,rA,rM,rS]
 refine Zm1 (by simp;have:=hs.1;omega) ?_
 dsimp only [go_sem,rA,rM,rS]
 refine ⟨by simp;have:=hs.2.1;omega,?_⟩
 dsimp only [go_sem,rA,rM,rS]
 refine Xu (fun k:Nat=>[(3,I k)]) (fun _=>[]) (fun k=>k<=l.legs.length) (fun k=>l.legs.length - k) 0 (Nat.zero_le _) ?_ ?_
 . (refine Zk ?_ ?_ ?_ rfl rfl<;>dsimp only [Zg,Ze,Zm,id,go_sem,rA,rM,rS]<;>simp [Zg,Ze,Zm,Za,Zf,KFR,KFL,KF,Zc,mtO,nbr])
 intro k hk
 dsimp only [go_sem,rA,rM,rS]
 simp only [List.length_map]
 by_cases hlt:k < l.legs.length
 . refine Zu (by simpa using hlt) ?_
   dsimp only [go_sem,rA,rM,rS]
   refine UA k rfl (by simpa using hlt) ?_
   dsimp only [go_sem,rA,rM,rS]
   refine ZcE hlt ?_
   dsimp only [Zm,go_sem,rA,rM,rS]
   refine Zm1 (by simp;have:=hs.2.2 _ (List.getElem_mem hlt);omega) ?_
   dsimp only [go_sem,rA,rM,rS]
   refine UA k rfl (by simpa using hlt) ?_
   dsimp only [go_sem,rA,rM,rS]
   refine ZiI l.legs[k] hlt (by simp [Zm]) (by simp [Zm,Zs]) ?_
   rw [List.set_getElem_self]
   dsimp only [go_sem,rA,rM,rS]
   rw [Zi (n:=(k:Int)+1) (by omega) (by have:=hs.2.1;omega)]
   refine ⟨k+1,hlt,by omega,?_⟩
   (refine Zk ?_ ?_ ?_ rfl rfl<;>dsimp only [Zg,Ze,Zm,id,go_sem,rA,rM,rS]<;>simp [Zg,Ze,Zm,Za,Zf,KFR,KFL,KF,Zc,mtO,nbr])
 refine Zx (by simp;omega) ?_
 dsimp only [go_sem,rA,rM,rS]
end Go.Proofs.YtiigiflofnjilaaGreat
namespace Go.Azalai
theorem Zi5 {n day:Int} {o s:Gate->Int} (hn:1<=n) (hd:day<=100001):∀ {l:List Gate},(∀ g ∈ l,s g<=100000)->(day<=Za3 n day o s l/\Za3 n day o s l<=100001)/\(Za3 n day o s l=100001\/Za3 n day o s l+n<=100001)
 | [],_=>⟨⟨by simp only [Za3];omega,by simp only [Za3];omega⟩,.inl rfl⟩
 | x :: l,h=>by
  have:=h x (by simp)
  have:=Zi5 (day:=day) (o:=o) (s:=s) (l:=l) hn hd (fun g hg=>h g (by simp [hg]))
  simp only [Za3];split<;>omega
theorem Zff {n day:Int} {o s:Gate->Int} (hn:1<=n):∀ {l:List Gate},(∀ g ∈ l,s g<=100000)->Za3 n day o s l<=100001
 | [],_=>by simp only [Za3];omega
 | x :: l,h=>by
  have:=h x (by simp)
  have:=Zff (day:=day) (o:=o) (s:=s) (l:=l) hn (fun g hg=>h g (by simp [hg]))
  simp only [Za3];split<;>omega
def nK (k:Bool) (x:Leg) (p:Span):Int:=bif k then (ZcI x p).hi else (ZcI x p).lo
def leK (k:Bool) (x:Leg) (p:Span) (t:Int):Int:=bif k then Zvi x p t else Zyo x p t
def ZU (k:Bool) (x:Leg) (p:Span) (t:Int):Int:=min 100001 (leK k x p t+nK k x p)
theorem Zp0 {k:Bool} {x:Leg} {p:Span} (h:GoodLeg x) (hp:ZX p=true):1<=nK k x p/\nK k x p<=1000000:=by
 have:=day_bd h hp
 cases k<;>simp only [nK,cond_true,cond_false]<;>omega
theorem Zck {k:Bool} {x:Leg} {p:Span} {t:Int} (h:GoodLeg x) (hp:ZX p=true) :
 leK k x p t=ZdW (nK k x p) t (fun g=>bif k then g.opens.hi else g.opens.lo) (fun g=>bif k then g.shuts.lo else g.shuts.hi) 100001 x.gates /\
 leK k x p t=Za3 (nK k x p) t (fun g=>bif k then g.opens.hi else g.opens.lo) (fun g=>bif k then g.shuts.lo else g.shuts.hi) x.gates/\∀ g ∈ x.gates,(bif k then g.shuts.lo else g.shuts.hi)<=100000:=by
 have hn:=Zp0 (k:=k) h hp
 have hg:=Xz h.g2 (Int.le_refl _)
 have h2:∀ g ∈ x.gates,(bif k then g.shuts.lo else g.shuts.hi)<=100000:=fun g hm=>by have:=hg g hm;cases k<;>simp only [cond_true,cond_false]<;>omega
 have h1:leK k x p t=Za3 (nK k x p) t (fun g=>bif k then g.opens.hi else g.opens.lo) (fun g=>bif k then g.shuts.lo else g.shuts.hi) x.gates:=by cases k<;>rfl
 refine ⟨?_,h1,h2⟩
 rw [Zds hn.1 (fun g q=>by cases k<;>simp only [cond_true,cond_false]<;>omega) h.g2 (Int.le_refl _) (by omega),h1]
 have:=Zff (day:=t) (o:=fun g=>bif k then g.opens.hi else g.opens.lo) hn.1 h2
 omega
theorem Zeb {n:Int} {o s:Gate->Int} {d d':Int} (hn:1<=n) (hd:d<=d'):∀ {l:List Gate} {a a':Int},a<=a'->a'<=100001->(∀ g ∈ l,s g<=100000)->ZdW n d o s a l<=ZdW n d' o s a' l
 | [],a,a',ha,_,_=>by simpa only [ZdW] using ha
 | g :: l,a,a',ha,hb,hs=>by
  simp only [ZdW]
  have:=hs g (by simp)
  refine Zeb hn hd ?_ ?_ (fun g hg=>hs g (by simp [hg]))
  . repeat' split
    all_goals omega
  . split<;>omega
theorem Zbo {k:Bool} {x:Leg} {p:Span} {t t':Int} (h:GoodLeg x) (hp:ZX p=true) (ht:t<=t'):ZU k x p t<=ZU k x p t':=by
 have hn:=Zp0 (k:=k) h hp
 obtain ⟨a1,_,a3⟩:=Zck (k:=k) (t:=t) h hp
 obtain ⟨b1,_,_⟩:=Zck (k:=k) (t:=t') h hp
 have:=Zeb (o:=fun g=>bif k then g.opens.hi else g.opens.lo) hn.1 ht (Int.le_refl 100001) (Int.le_refl _) a3
 simp only [ZU];omega
theorem Wc {k:Bool} {x:Leg} {p:Span} {t:Int} (h:GoodLeg x) (hp:ZX p=true) (ht:t<=100001):ZU k x p t<=100001/\(t+1<=ZU k x p t\/t=100001/\ZU k x p t=100001)/\(ZU k x p t < 100001->ZU k x p t=leK k x p t+nK k x p/\leK k x p t < 100001)/\(leK k x p t < 100001->leK k x p t+nK k x p<=100001)/\t<=leK k x p t/\leK k x p t<=100001:=by
 have hn:=Zp0 (k:=k) h hp
 obtain ⟨_,a2,a3⟩:=Zck (k:=k) (t:=t) h hp
 have:=Zi5 (o:=fun g=>bif k then g.opens.hi else g.opens.lo) hn.1 ht a3
 rw [<- a2] at this
 simp only [ZU];omega
theorem Zbj {k:Bool} {x:Leg} {p:Span} {t:Int} (h:GoodLeg x) (hp:ZX p=true) (ht:t<=100001):t<=ZU k x p t:=by
 have:=Wc (k:=k) h hp ht;omega
def Zl (x:Leg) (v:Int):Int:=if x.a=v then x.b else if x.b=v then x.a else -1
def goW (k:Bool) (l:Land) (p:Span):Int->Int->List Nat->Option (Int × Int)
 | v,t,[]=>some (v,t)
 | v,t,i :: r=>match l.legs[i]? with
  | none=>none
  | some x=>if Zl x v < 0 then none else if ZU k x p t > 100000 then none else goW k l p (Zl x v) (ZU k x p t) r
structure OkLP (l:Land) (p:Span):Prop where
 land:ZA l=true
 pace:ZX p=true
theorem OkLP.leg {l:Land} {p:Span} (h:OkLP l p) {i:Nat} {x:Leg} (hx:l.legs[i]? = some x):GoodLeg x:=WW h.land x (List.mem_of_getElem? hx)
theorem OkLP.ends {l:Land} {p:Span} (h:OkLP l p) {x:Leg} (hx:x ∈ l.legs):(0<=x.a/\x.a < l.wells.length)/\(0<=x.b/\x.b < l.wells.length)/\x.a≠x.b:=by
 have h1:=h.land
 simp only [ZA,Bool.and_eq_true,List.all_eq_true] at h1
 have:=h1.2 x hx
 simp only [WP,inR,Bool.and_eq_true,decide_eq_true_eq,bne_iff_ne] at this
 obtain ⟨⟨⟨⟨⟨q1,q2⟩,q3⟩,_⟩,_⟩,_⟩:=this
 refine ⟨by omega,by omega,q3⟩
theorem Yb {l:Land} {p:Span} (h:OkLP l p) {i:Nat} {x:Leg} (hx:l.legs[i]? = some x) {v:Int} (ho:¬ Zl x v < 0):(0<=Zl x v/\Zl x v < l.wells.length)/\(x.a=v/\Zl x v=x.b\/x.b=v/\Zl x v=x.a)/\0<=v/\v < l.wells.length:=by
 have:=h.ends (List.mem_of_getElem? hx)
 unfold Zl at ho ⊢
 split
 . omega
 . split
   . omega
   . rw [if_neg (by assumption),if_neg (by assumption)] at ho;omega
theorem Zbu {k:Bool} {l:Land} {p:Span}:∀ {a b:List Nat} {v t:Int},goW k l p v t (a ++ b)=(goW k l p v t a).bind fun s=>goW k l p s.1 s.2 b
 | [],b,v,t=>rfl
 | i :: a,b,v,t=>by
  simp only [List.cons_append,goW]
  cases l.legs[i]? with
  | none=>rfl
  | some x =>
   simp only
   split
   . rfl
   . split
     . rfl
     . exact Zbu
theorem V7 {k:Bool} {l:Land} {p:Span} (h:OkLP l p):∀ {a:List Nat} {v t v' t':Int},goW k l p v t a=some (v',t')->t<=100000->0<=v->v < l.wells.length->t+a.length<=t'/\t'<=100000/\0<=v'/\v' < l.wells.length
 | [],v,t,v',t',e,ht,h0,h1=>by simp only [goW,Option.some.injEq,Prod.mk.injEq] at e;simp;omega
 | i :: a,v,t,v',t',e,ht,h0,h1=>by
  simp only [goW] at e
  cases hx:l.legs[i]? with
  | none=>rw [hx] at e;cases e
  | some x =>
   rw [hx] at e
   simp only at e
   by_cases ho:Zl x v < 0
   . rw [if_pos ho] at e;cases e
   . rw [if_neg ho] at e
     by_cases hr:ZU k x p t > 100000
     . rw [if_pos hr] at e;cases e
     . rw [if_neg hr] at e
       have hb:=Wc (k:=k) (h.leg hx) h.pace (show t<=100001 by omega)
       have ho':=Yb h hx ho
       have:=V7 h e (by omega) ho'.1.1 ho'.1.2
       simp only [List.length_cons];omega
def ZmS (k:Bool) (l:Land) (p:Span) (d:Int->Int):Prop:=∀ x ∈ l.legs,d x.b<=ZU k x p (d x.a)/\d x.a<=ZU k x p (d x.b)
theorem ZeY {k:Bool} {l:Land} {p:Span} {d:Int->Int} (h:OkLP l p) (hc:ZmS k l p d):∀ {a:List Nat} {v t v' t':Int},goW k l p v t a=some (v',t')->d v<=t->d v'<=t'
 | [],v,t,v',t',e,ht=>by simp only [goW,Option.some.injEq,Prod.mk.injEq] at e;rw [<- e.1];omega
 | i :: a,v,t,v',t',e,ht=>by
  simp only [goW] at e
  cases hx:l.legs[i]? with
  | none=>rw [hx] at e;cases e
  | some x =>
   rw [hx] at e
   simp only at e
   by_cases ho:Zl x v < 0
   . rw [if_pos ho] at e;cases e
   . rw [if_neg ho] at e
     by_cases hr:ZU k x p t > 100000
     . rw [if_pos hr] at e;cases e
     . rw [if_neg hr] at e
       refine ZeY h hc e ?_
       have hcx:=hc x (List.mem_of_getElem? hx)
       have hm:=Zbo (k:=k) (h.leg hx) h.pace ht
       rcases (Yb h hx ho).2.1 with ⟨q1,q2⟩ | ⟨q1,q2⟩
       . rw [q2];rw [<- q1] at hm;omega
       . rw [q2];rw [<- q1] at hm;omega
open Classical in
noncomputable def YV (k:Bool) (l:Land) (p:Span) (s day v:Int):Int :=
 if h:∃ n:Nat,∃ a,goW k l p s day a=some (v,(n:Int)) then ((Go.Sx.least_ex _ h).choose:Int) else 100001
theorem Zcb {k:Bool} {l:Land} {p:Span} (h:OkLP l p) {s day v t:Int} {a:List Nat} (e:goW k l p s day a=some (v,t)) (hd:0<=day) (hd':day<=100000) (h0:0<=s) (h1:s < l.wells.length):YV k l p s day v<=t:=by
 have hb:=V7 h e hd' h0 h1
 have hex:∃ n:Nat,∃ a,goW k l p s day a=some (v,(n:Int)):=⟨t.toNat,a,by rw [e,show ((t.toNat:Nat):Int)=t by omega]⟩
 unfold YV
 rw [dif_pos hex]
 have:=(Go.Sx.least_ex _ hex).choose_spec.2 t.toNat ⟨a,by rw [e,show ((t.toNat:Nat):Int)=t by omega]⟩
 omega
theorem ZbV {k:Bool} {l:Land} {p:Span} {s day v:Int}:YV k l p s day v=100001\/∃ a,goW k l p s day a=some (v,YV k l p s day v):=by
 unfold YV
 by_cases hex:∃ n:Nat,∃ a,goW k l p s day a=some (v,(n:Int))
 . rw [dif_pos hex];exact .inr (Go.Sx.least_ex _ hex).choose_spec.1
 . rw [dif_neg hex];exact .inl rfl
theorem Zkz {k:Bool} {l:Land} {p:Span} (h:OkLP l p) {s day v:Int} (hd:0<=day) (hd':day<=100000) (h0:0<=s) (h1:s < l.wells.length):day<=YV k l p s day v/\YV k l p s day v<=100001:=by
 rcases ZbV (k:=k) (l:=l) (p:=p) (s:=s) (day:=day) (v:=v) with e | ⟨a,e⟩
 . omega
 . have:=V7 h e hd' h0 h1;omega
theorem ZaY {k:Bool} {l:Land} {p:Span} {a:List Nat} {s t v u:Int} {i:Nat} {x:Leg} (e:goW k l p s t a=some (v,u)) (hx:l.legs[i]? = some x) (ho:¬ Zl x v < 0) (hr:¬ ZU k x p u > 100000):goW k l p s t (a ++ [i])=some (Zl x v,ZU k x p u):=by
 rw [Zbu,e]
 simp only [Option.bind_some,goW,hx]
 rw [if_neg ho,if_neg hr]
theorem Zbb {k:Bool} {l:Land} {p:Span} (h:OkLP l p) {s day:Int} (hd:0<=day) (hd':day<=100000) (h0:0<=s) (h1:s < l.wells.length) {d:Int->Int} (hs:d s<=day) (hc:ZmS k l p d) (hb:∀ v,d v<=100001)
 (hr:∀ v,d v=100001\/∃ a,goW k l p s day a=some (v,d v)) (v:Int):d v=YV k l p s day v:=by
 have h2:YV k l p s day v<=d v:=by
  rcases hr v with e | ⟨a,e⟩
  . have:=Zkz (k:=k) (v:=v) h hd hd' h0 h1;omega
  . exact Zcb h e hd hd' h0 h1
 have h3:d v<=YV k l p s day v:=by
  rcases ZbV (k:=k) (l:=l) (p:=p) (s:=s) (day:=day) (v:=v) with e | ⟨a,e⟩
  . have:=hb v;omega
  . exact ZeY h hc e hs
 omega
noncomputable def Wt (k:Bool) (l:Land) (p:Span) (s day:Int):List Int:=(List.range l.wells.length).map fun v:Nat=>YV k l p s day (v:Int)
end Go.Azalai
namespace Go.Proofs.YtiigiflofnjilaaGreat
open Go Go.Sx
def c111:SC:=(sr1 [
 o1 2 (.box (.t 0) 0 160),
 o1 3 (.box (.t 1) 0 3),
 o1 4 (.mv (.c (.nilFunc)))]
 (sr1 [
 o1 5 (.mkf 153 [.t 2,.t 3]),
 m1 4 5]
 .ret))
def r111:List RV:=[.tmp 4]
theorem n111:Tryz.f111.ntmps=6:=by kernel_rfl
theorem b111:YI Tryz.prog 111=true:=by kernel_rfl
theorem Zwy:XK Tryz.prog c111 ((Tryz.f111.body).getD .skip)=true:=by kernel_rfl
theorem ZwA:Wg Tryz.prog r111 Tryz.f111.results.toList=true:=by kernel_rfl
theorem m111 {n0:Nat} {hp0:List (Nat × HB)} {args:List SV} {Z6:Ot->Prop} (hh:hpb n0 hp0) (hx:∀ o,Z6 o->KX o.res/\KXP o.hp) (h:sx Tryz.prog Y0 n0 c111 ⟨We 0 args,hp0,n0,6,[]⟩ (Zct r111 fun o=>∃ o',Z6 o'/\ZdV n0 o o')) (hA:Nat.ble args.length 6=true:=by rfl):CtM Tryz.prog 111 hp0 n0 args Z6:=YU Tryz.func111 rfl b111 Zwy ZwA n111 (Nat.le_of_ble_eq_true hA) hh hx h
def ZAE:SC:=(sr1 [
 o1 6 (ao 1 0),
 o1 7 (ao 6 1),
 o1 8 (lf 7 1),
 o1 9 (.len (.t 8)),
 o1 10 (.mv (cn 0))]
 (.block 0 (.loop (sr1 [
  o1 11 (.bin .lss (.t 10) (.t 9))]
  (.seq (.cond (.t 11)
  .skip
  (.exit 0))
  (.seq (.block 1 (sr1 [
   m1 12 10,
   o1 13 (.ixs (.t 8) (.t 10) 5),
   o1 14 (lt 13 5),
   o1 5 (.alloc zv6 83),
   m1 4 12,
   ⟨none,.st (.t 5) (.t 14) 5,none,[]⟩]
   (sr1 [
   o1 15 (lf 2 1)]
   (.block 2 (sr1 [
    o1 17 (ao 5 0),
    o1 18 (lf 17 1),
    o1 19 (.bin .eql (.t 15) (.t 18)),
    m1 16 19]
    (.cond (.t 16)
    (sr1 [
     m1 20 0,
     m1 21 4,
     o1 22 (ao 5 1),
     o1 23 (lf 22 1),
     o1 24 (.calvm (.t 20) [.t 21,.t 23]),
     o1 25 (.un .not (.t 24))]
     (.cond (.t 25)
     .ret
     .skip))
    (sr1 [
     o1 27 (ao 5 1),
     o1 28 (lf 27 1),
     o1 29 (.bin .eql (.t 15) (.t 28)),
     m1 26 29]
     (.cond (.t 26)
     (sr1 [
      m1 30 0,
      m1 31 4,
      o1 32 (ao 5 0),
      o1 33 (lf 32 1),
      o1 34 (.calvm (.t 30) [.t 31,.t 33]),
      o1 35 (.un .not (.t 34))]
      (.cond (.t 35)
      .ret
      .skip))
     .skip))))))))
  (.reg [
  o1 36 (.bin .add (.t 10) (cn 1)),
  m1 10 36])))))))
def Zzp:List RV:=[]
theorem n153:Tryz.f153.ntmps=37:=by kernel_rfl
theorem b153:YI Tryz.prog 153=true:=by kernel_rfl
theorem Zxa:XK Tryz.prog ZAE ((Tryz.f153.body).getD .skip)=true:=by kernel_rfl
theorem Zxi:Wg Tryz.prog Zzp Tryz.f153.results.toList=true:=by kernel_rfl
theorem y153 {Y:Hd} {n0:Nat} {hp0:List (Nat × HB)} {args:List SV} {Z6:Ot->Prop} (h:sx Tryz.prog Y n0 ZAE ⟨We 0 args,hp0,n0,37,[]⟩ (Zct Zzp Z6)) (hA:Nat.ble args.length 37=true:=by rfl):CtY Tryz.prog Y 153 hp0 n0 args Z6:=Zca Tryz.func153 rfl Zxa Zxi n153 (Nat.le_of_ble_eq_true hA) h
def c77:SC:=(sr1 [
 o1 3 (.box (.t 0) 0 160),
 o1 4 (.box (.t 1) 0 3),
 o1 6 (.alloc [.int .i64 0] 3)]
 (.seq (sr1 [
 o1 9 (lt 3 4),
 m1 10 2,
 o1 11 (.callm 111 [.t 9,.t 10])]
 (.block 0 (.gh (.rfun (.t 11) [12,13] (sr1 [
  m1 7 12]
  (.reg [
  m1 8 13]))
  (.block 1 (sr1 [
   m1 14 7,
   o1 15 (lf 4 1),
   o1 16 (.bin .eql (.t 14) (.t 15))]
   (.cond (.t 16)
   (sr1 [
    m1 17 8,
    ⟨none,.st (.t 6) (.t 17) 1,none,[]⟩]
    .ret)
   .skip)))))))
 (sr1 [
 ⟨none,.st (.t 6) (.c (.int .i64 (-1))) 1,none,[]⟩]
 .ret)))
def r77:List RV:=[.cell 6 1 false]
theorem t77:Qt1 Tryz.prog 77 c77 r77 18:=Z8 Tryz.func77 rfl (by kernel_rfl) (by kernel_rfl) (by kernel_rfl) (by kernel_rfl)
def c79:SC:=(sr1 [
 o1 3 (.box (.t 0) 0 160),
 o1 5 (.box (.t 2) 0 165),
 o1 6 (.alloc [.int .i64 0,.int .i64 0] 165)]
 (.seq (.regd [0,1,2,3,4,5,6,7,8,9,10] [
 .op (o1 10 (lt 3 4)),
 .op (m1 11 1),
 .op (o1 12 (lt 5 2)),
 .op (p1 13 (.call 78 [.t 10,.t 11,.t 12]) [0,1,2]),
 .op (o1 14 (lt 3 4)),
 .op (m1 15 1),
 .op (p1 16 (.call 82 [.t 14,.t 15]) [3,4,5])] 2 2 [
 o1 7 (.alloc [.int .i64 0,.int .i64 0] 165),
 o1 8 (.alloc [.int .i64 0,.int .i64 0] 165),
 ⟨none,.st (.t 7) (.t 13) 2,none,[0,1,2,3,6,7,8]⟩,
 ⟨none,.st (.t 8) (.t 16) 2,none,[0,1,2,3,4,5,6,7,8,9]⟩])
 (.seq (sr1 [
 o1 17 (.mv (cn 0))]
 (.block 0 (.loop (sr1 [
  o1 18 (.bin .lss (.t 17) (cn 2))]
  (.seq (.cond (.t 18)
  .skip
  (.exit 0))
  (.seq (.block 1 (sr1 [
   m1 19 17,
   m1 9 19]
   (.regd [0,1,2,3,4,5,6,7,8,9,10,11] [
   .op (m1 20 9),
   .op (m1 21 9),
   .op (p1 22 (.ixa (.t 7) (.t 21) 2 1) [1]),
   .op (p1 23 (lf 22 1) [2]),
   .op (m1 24 9),
   .op (p1 25 (.ixa (.t 8) (.t 24) 2 1) [4]),
   .op (p1 26 (lf 25 1) [5]),
   .op (p1 27 (.bin .add (.t 23) (.t 26)) [3,6]),
   .op (p1 28 (.bsl 1 3 [.t 27]) [7]),
   .op (p1 29 (.call 122 [.t 28]) [8]),
   .op (p1 30 (.ixa (.t 7) (.t 20) 2 1) [0,1,2,3,4,5,6,7,8,9])] 0 1 [
   ⟨none,.st (.t 30) (.t 29) 1,none,[0,1,2,3,4,5,6,7,8,9,10]⟩])))
  (.reg [
  o1 31 (.bin .add (.t 17) (cn 1)),
  m1 17 31])))))))
 (sr1 [
 o1 32 (lt 7 2),
 ⟨none,.st (.t 6) (.t 32) 2,none,[]⟩]
 .ret))))
def r79:List RV:=[.cell 6 2 true]
theorem t79:Qt1 Tryz.prog 79 c79 r79 33:=Z8 Tryz.func79 rfl (by kernel_rfl) (by kernel_rfl) (by kernel_rfl) (by kernel_rfl)
def c97:SC:=(sr1 [
 o1 4 (.box (.t 0) 0 160),
 o1 7 (.box (.t 3) 0 3),
 o1 8 (.mv (.c (.slice none 0 0)))]
 (sr1 [
 o1 16 (.bsl 1 3 [.c (.int .i64 100001)]),
 o1 17 (ao 4 0),
 o1 18 (ao 17 0),
 o1 19 (lf 18 1),
 o1 20 (.len (.t 19)),
 o1 21 (.callm 140 [.t 16,.t 20]),
 o1 9 (.alloc [.slice none 0 0] 35),
 ⟨none,.st (.t 9) (.t 21) 1,none,[]⟩]
 (sr1 [
 o1 22 (lf 9 1),
 m1 23 1,
 m1 24 2,
 o1 25 (.ixs (.t 22) (.t 23) 1),
 ⟨none,.st (.t 25) (.t 24) 1,none,[]⟩]
 (sr1 [
 o1 26 (.raw (Go.Op.makeMap 189 Option.none) 189),
 m1 10 26]
 (.seq (sr1 [
 o1 27 (lf 9 1),
 o1 28 (.len (.t 27)),
 o1 29 (.mv (cn 0))]
 (.block 0 (.loop (sr1 [
  o1 30 (.bin .lss (.t 29) (.t 28))]
  (.seq (.cond (.t 30)
  .skip
  (.exit 0))
  (.seq (.block 1 (sr1 [
   m1 31 29,
   m1 11 31]
   (.reg [
   m1 32 10,
   m1 33 11,
   ⟨none,.raw (Go.Op.mapUpdate 189 (Go.Operand.tmp 32) (Go.Operand.tmp 33) (Go.Operand.const (Go.Value.bool Bool.true))) 0,none,[]⟩])))
  (.reg [
  o1 34 (.bin .add (.t 29) (cn 1)),
  m1 29 34])))))))
 (.seq (.block 2 (.loop (.seq (sr1 [
  m1 35 10,
  o1 36 (.raw (Go.Op.call { callee:=(Go.Callee.builtin Go.Builtin.len),args:=#[(Go.Operand.tmp 35)],argTypes:=#[189] }) 3),
  o1 37 (.bin .gtr (.t 36) (cn 0))]
  (.cond (.t 37)
  .skip
  (.exit 2)))
  (.block 3 (sr1 [
   o1 12 (.alloc [.int .i64 0] 3),
   ⟨none,.st (.t 12) (.c (.int .i64 (-1))) 1,none,[]⟩]
   (.seq (sr1 [
   m1 38 10,
   o1 39 (.raw (Go.Op.range 189 (Go.Operand.tmp 38)) 0)]
   (.block 4 (.loop (sr1 [
    o1 40 (.raw (Go.Op.next (Go.Operand.tmp 39) Bool.false) 0),
    o1 41 (.ext (.t 40) 0)]
    (.seq (.cond (.t 41)
    .skip
    (.exit 4))
    (.block 5 (sr1 [
     o1 42 (.raw (Go.Op.entry (Go.Operand.tmp 39)) 0),
     o1 43 (.ext (.t 42) 0),
     m1 13 43]
     (.seq (.regd [0,1,2,3,4,5,6,7,8,9,10,11,12,13,14,15,16,17,18,19,20,21,22,23,24,25,26,27,28] [
     .op (o1 44 (lf 12 1)),
     .op (p1 45 (.bin .lss (.t 44) (cn 0)) [0]),
     .op (p1 46 (.mv (.t 45)) [1]),
     .op (q1 47 46 false (lf 9 1) [2]),
     .op (q1 48 46 false (.mv (.t 13)) [2]),
     .op (q1 49 46 false (.ixs (.t 47) (.t 48) 1) [2,3,4]),
     .op (q1 50 46 false (lf 49 1) [2,5]),
     .op (q1 51 46 false (lf 9 1) [2]),
     .op (q1 52 46 false (lf 12 1) [2]),
     .op (q1 53 46 false (.ixs (.t 51) (.t 52) 1) [2,7,8]),
     .op (q1 54 46 false (lf 53 1) [2,9]),
     .op (q1 55 46 false (.bin .lss (.t 50) (.t 54)) [2,6,10]),
     .op (p1 56 (.pick (.t 46) (.c (.bool true)) (.t 55)) [2,11]),
     .op (p1 57 (.mv (.t 56)) [2,12]),
     .op (q1 58 57 false (lf 9 1) [13]),
     .op (q1 59 57 false (.mv (.t 13)) [13]),
     .op (q1 60 57 false (.ixs (.t 58) (.t 59) 1) [13,14,15]),
     .op (q1 61 57 false (lf 60 1) [13,16]),
     .op (q1 62 57 false (lf 9 1) [13]),
     .op (q1 63 57 false (lf 12 1) [13]),
     .op (q1 64 57 false (.ixs (.t 62) (.t 63) 1) [13,18,19]),
     .op (q1 65 57 false (lf 64 1) [13,20]),
     .op (q1 66 57 false (.bin .eql (.t 61) (.t 65)) [13,17,21]),
     .op (q1 67 57 false (.mv (.t 66)) [13,22]),
     .op (q1 68 67 true (.mv (.t 13)) [23]),
     .op (q1 69 67 true (lf 12 1) [23]),
     .op (q1 70 67 true (.bin .lss (.t 68) (.t 69)) [23,24,25]),
     .op (q1 71 57 false (.pick (.t 67) (.t 70) (.c (.bool false))) [13,23,26]),
     .op (p1 72 (.pick (.t 57) (.c (.bool true)) (.t 71)) [13,27])] 0 0 [
])
 (.cond (.t 72)
 (.reg [
  m1 73 13,
  ⟨none,.st (.t 12) (.t 73) 1,none,[]⟩])
 .skip)))))))))
 (sr1 [
 m1 74 10,
 o1 75 (lf 12 1),
 ⟨none,.raw (Go.Op.call { callee:=(Go.Callee.builtin Go.Builtin.delete),args:=#[(Go.Operand.tmp 74),(Go.Operand.tmp 75)],argTypes:=#[189,3] }) 0,none,[]⟩]
 (sr1 [
 o1 76 (lt 4 4),
 o1 77 (lf 12 1),
 o1 78 (.callm 111 [.t 76,.t 77])]
 (.block 6 (.gh (.rfun (.t 78) [79,80] (sr1 [
  m1 14 79]
  (.reg [
  m1 15 80]))
  (.block 7 (.regd [0,1,2,3,4,5,6,7,8,9,10,11,12,13,14,15,16,17,18,19,20,21,22] [
   .op (o1 81 (lf 9 1)),
   .op (m1 82 15),
   .op (o1 83 (lf 9 1)),
   .op (m1 84 15),
   .op (p1 85 (.ixs (.t 83) (.t 84) 1) [2,3]),
   .op (p1 86 (lf 85 1) [4]),
   .op (o1 87 (lt 4 4)),
   .op (m1 88 14),
   .op (o1 89 (lf 9 1)),
   .op (o1 90 (lf 12 1)),
   .op (p1 91 (.ixs (.t 89) (.t 90) 1) [8,9]),
   .op (p1 92 (lf 91 1) [10]),
   .op (o1 93 (lf 9 1)),
   .op (o1 94 (lf 12 1)),
   .op (p1 95 (.ixs (.t 93) (.t 94) 1) [12,13]),
   .op (p1 96 (lf 95 1) [14]),
   .op (p1 97 (.build [.int .i64 0,.int .i64 0] [(0,1,.t 92),(1,1,.t 96)]) [11,15]),
   .op (p1 98 (.call 79 [.t 87,.t 88,.t 97]) [6,7,16]),
   .op (o1 99 (lf 7 1)),
   .op (p1 100 (.idx (.t 98) (.t 99) 2 1 false) [17,18]),
   .op (p1 101 (.mm false [.t 86,.t 100]) [5,19]),
   .op (p1 102 (.ixs (.t 81) (.t 82) 1) [0,1,2,3,4,5,6,7,8,9,10,11,12,13,14,15,16,17,18,19,20])] 0 1 [
   ⟨none,.st (.t 102) (.t 101) 1,none,[0,1,2,3,4,5,6,7,8,9,10,11,12,13,14,15,16,17,18,19,20,21]⟩])))))))))))))
 (sr1 [
 o1 103 (lf 9 1),
 m1 8 103]
 .ret)))))))
def r97:List RV:=[.tmp 8]
theorem t97:Qt1 Tryz.prog 97 c97 r97 104:=Z8 Tryz.func97 rfl (by kernel_rfl) (by kernel_rfl) (by kernel_rfl) (by kernel_rfl)
def c52:SC:=(sr1 [
 o1 4 (.box (.t 0) 0 25),
 o1 7 (.box (.t 3) 0 27),
 o1 8 (.mv (.c (.slice none 0 0))),
 o1 9 (.mv (cn 0))]
 (sr1 [
 o1 17 (lt 4 2),
 o1 18 (lt 7 2),
 o1 19 (.call 75 [.t 17,.t 18]),
 m1 16 19,
 o1 20 (.ext (.t 16) 0),
 o1 21 (.ext (.t 16) 1),
 o1 10 (.alloc [.slice none 0 0,.slice none 0 0,.int .i64 0,.int .i64 0] 160),
 ⟨none,.st (.t 10) (.t 20) 4,none,[]⟩,
 m1 11 21]
 (.seq (.block 0 (sr1 [
  m1 23 11,
  o1 24 (.bin .neq (.t 23) (cn 0)),
  m1 22 24]
  (.cond (.t 22)
  (sr1 [
   m1 25 11,
   o1 8 (.mv (.c (.slice none 0 0))),
   m1 9 25]
   .ret)
  (sr1 [
   o1 27 (ao 4 0),
   o1 28 (lf 27 1),
   o1 29 (.len (.t 28)),
   o1 30 (.bin .sub (.t 29) (cn 1)),
   m1 31 1,
   o1 32 (.bsl 1 3 [.t 31]),
   o1 33 (.call 76 [.c (.int .i64 0),.t 30,.t 32]),
   o1 34 (.un .not (.t 33)),
   m1 35 34,
   g1 36 35 false (.mv (.t 2)),
   g1 37 35 false (.bsl 1 3 [.t 36]),
   g1 38 35 false (.call 76 [.c (.int .i64 0),.c (.int .i64 100000),.t 37]),
   g1 39 35 false (.un .not (.t 38)),
   o1 40 (.pick (.t 35) (.c (.bool true)) (.t 39)),
   m1 26 40]
   (.cond (.t 26)
   (sr1 [
    o1 8 (.mv (.c (.slice none 0 0))),
    o1 9 (.mv (cn 2))]
    .ret)
   .skip)))))
 (sr1 [
 o1 12 (.mv (.c (.slice none 0 0)))]
 (sr1 [
 o1 41 (lt 10 4),
 m1 42 1,
 m1 43 2,
 o1 44 (.call 97 [.t 41,.t 42,.t 43,.c (.int .i64 1)]),
 m1 13 44]
 (.seq (sr1 [
 o1 45 (lt 10 4),
 m1 46 1,
 m1 47 2,
 o1 48 (.call 97 [.t 45,.t 46,.t 47,.c (.int .i64 0)]),
 o1 49 (.len (.t 48)),
 o1 50 (.mv (cn 0))]
 (.block 1 (.loop (sr1 [
  o1 51 (.bin .lss (.t 50) (.t 49))]
  (.seq (.cond (.t 51)
  .skip
  (.exit 1))
  (.seq (.block 2 (sr1 [
   m1 52 50,
   o1 53 (.ixs (.t 48) (.t 50) 1),
   o1 54 (lf 53 1),
   m1 14 52,
   m1 15 54]
   (.reg [
   m1 55 12,
   m1 56 15,
   m1 57 13,
   m1 58 14,
   o1 59 (.ixs (.t 57) (.t 58) 1),
   o1 60 (lf 59 1),
   o1 61 (.build [.int .i64 0,.int .i64 0] [(0,1,.t 56),(1,1,.t 60)]),
   o1 62 (.bsl 2 27 [.t 61]),
   o1 63 (.appm 2 16 27 (.t 55) (.t 62)),
   m1 12 63])))
  (.reg [
  o1 64 (.bin .add (.t 50) (cn 1)),
  m1 50 64])))))))
 (sr1 [
 m1 65 12,
 m1 8 65,
 o1 9 (.mv (cn 0))]
 .ret)))))))
def r52:List RV:=[.tmp 8,.tmp 9]
theorem t52:Qt1 Tryz.prog 52 c52 r52 66:=Z8 Tryz.func52 rfl (by kernel_rfl) (by kernel_rfl) (by kernel_rfl) (by kernel_rfl)
def c36:SC:=(sr1 [
 o1 5 (.box (.t 0) 0 25),
 o1 8 (.box (.t 3) 0 27),
 o1 10 (.mv (.c (.slice none 0 0))),
 o1 11 (.mv (cn 0)),
 o1 12 (.mv (cn 0))]
 (sr1 [
 o1 23 (lt 5 2),
 o1 24 (lt 8 2),
 o1 25 (.call 75 [.t 23,.t 24]),
 m1 22 25,
 o1 26 (.ext (.t 22) 0),
 o1 27 (.ext (.t 22) 1),
 o1 13 (.alloc [.slice none 0 0,.slice none 0 0,.int .i64 0,.int .i64 0] 160),
 ⟨none,.st (.t 13) (.t 26) 4,none,[]⟩,
 m1 12 27]
 (.seq (.block 0 (sr1 [
  m1 29 12,
  o1 30 (.bin .neq (.t 29) (cn 0)),
  m1 28 30]
  (.cond (.t 28)
  (sr1 [
   m1 31 12,
   o1 10 (.mv (.c (.slice none 0 0))),
   o1 11 (.mv (cn 0)),
   m1 12 31]
   .ret)
  (sr1 [
   o1 33 (ao 5 0),
   o1 34 (lf 33 1),
   o1 35 (.len (.t 34)),
   o1 36 (.bin .sub (.t 35) (cn 1)),
   m1 37 1,
   o1 38 (.bsl 1 3 [.t 37]),
   o1 39 (.call 76 [.c (.int .i64 0),.t 36,.t 38]),
   o1 40 (.un .not (.t 39)),
   m1 41 40,
   g1 42 41 false (.mv (.t 2)),
   g1 43 41 false (.bsl 1 3 [.t 42]),
   g1 44 41 false (.call 76 [.c (.int .i64 0),.c (.int .i64 100000),.t 43]),
   g1 45 41 false (.un .not (.t 44)),
   o1 46 (.pick (.t 41) (.c (.bool true)) (.t 45)),
   m1 32 46]
   (.cond (.t 32)
   (sr1 [
    o1 10 (.mv (.c (.slice none 0 0))),
    o1 11 (.mv (cn 0)),
    o1 12 (.mv (cn 2))]
    .ret)
   (sr1 [
    m1 48 4,
    o1 49 (.len (.t 48)),
    o1 50 (.bin .gtr (.t 49) (cn 24)),
    m1 47 50]
    (.cond (.t 47)
    (sr1 [
     o1 10 (.mv (.c (.slice none 0 0))),
     o1 11 (.mv (cn 0)),
     o1 12 (.mv (cn 4))]
     .ret)
    .skip)))))))
 (sr1 [
 o1 14 (.mv (.c (.slice none 0 0)))]
 (sr1 [
 m1 51 1,
 m1 15 51]
 (.seq (sr1 [
 m1 52 4,
 o1 53 (.len (.t 52)),
 o1 54 (.mv (cn 0))]
 (.block 1 (.loop (sr1 [
  o1 55 (.bin .lss (.t 54) (.t 53))]
  (.seq (.cond (.t 55)
  .skip
  (.exit 1))
  (.seq (.block 2 (sr1 [
   m1 56 54,
   o1 57 (.ixs (.t 52) (.t 54) 1),
   o1 58 (lf 57 1),
   m1 16 56,
   m1 17 58]
   (.seq (sr1 [
   o1 59 (lt 13 4),
   m1 60 17,
   m1 61 15,
   o1 62 (.call 77 [.t 59,.t 60,.t 61]),
   m1 15 62]
   (sr1 [
   m1 63 15,
   o1 64 (.bin .lss (.t 63) (cn 0))]
   (.cond (.t 64)
   (sr1 [
    m1 65 16,
    o1 10 (.mv (.c (.slice none 0 0))),
    m1 11 65,
    o1 12 (.mv (cn 8))]
    .ret)
   .skip)))
   (.reg [
   m1 66 14,
   m1 67 15,
   o1 68 (.bsl 1 3 [.t 67]),
   o1 69 (.appm 1 8 3 (.t 66) (.t 68)),
   m1 14 69]))))
  (.reg [
  o1 70 (.bin .add (.t 54) (cn 1)),
  m1 54 70])))))))
 (sr1 [
 m1 71 2,
 m1 72 2,
 o1 73 (.build [.int .i64 0,.int .i64 0] [(0,1,.t 71),(1,1,.t 72)]),
 o1 18 (.alloc [.int .i64 0,.int .i64 0] 165),
 ⟨none,.st (.t 18) (.t 73) 2,none,[]⟩]
 (.seq (sr1 [
 m1 74 4,
 o1 75 (.len (.t 74)),
 o1 76 (.mv (cn 0))]
 (.block 3 (.loop (sr1 [
  o1 77 (.bin .lss (.t 76) (.t 75))]
  (.seq (.cond (.t 77)
  .skip
  (.exit 3))
  (.seq (.block 4 (sr1 [
   m1 78 76,
   o1 79 (.ixs (.t 74) (.t 76) 1),
   o1 80 (lf 79 1),
   m1 19 78,
   m1 20 80]
   (sr1 [
   o1 81 (lt 13 4),
   m1 82 20,
   o1 83 (lt 18 2),
   o1 84 (.call 78 [.t 81,.t 82,.t 83]),
   o1 21 (.alloc [.int .i64 0,.int .i64 0] 165),
   ⟨none,.st (.t 21) (.t 84) 2,none,[]⟩]
   (.seq (sr1 [
   o1 85 (lt 13 4),
   m1 86 20,
   o1 87 (lt 18 2),
   o1 88 (.call 79 [.t 85,.t 86,.t 87]),
   ⟨none,.st (.t 18) (.t 88) 2,none,[]⟩]
   (sr1 [
   o1 89 (.ixa (.t 18) (cn 1) 2 1),
   o1 90 (lf 89 1),
   o1 91 (.bin .gtr (.t 90) (cn 100000))]
   (.cond (.t 91)
   (sr1 [
    m1 92 19,
    o1 10 (.mv (.c (.slice none 0 0))),
    m1 11 92,
    o1 12 (.mv (cn 34))]
    .ret)
   .skip)))
   (.regs [0,1,2,3,4,5,6,7,8,9,10,11,12,13] ⟨[
   .op (m1 93 10),
   .op (m1 94 20),
   .op (m1 95 14),
   .op (m1 96 19),
   .op (p1 97 (.ixs (.t 95) (.t 96) 1) [2,3]),
   .op (p1 98 (lf 97 1) [4]),
   .op (o1 99 (lt 21 2)),
   .op (p1 100 (.call 80 [.t 99]) [6]),
   .op (o1 101 (lt 18 2)),
   .op (p1 102 (.call 80 [.t 101]) [7,8]),
   .op (p1 103 (.build zv7 [(0,1,.t 94),(1,1,.t 98),(2,2,.t 100),(4,2,.t 102)]) [1,5,7,9]),
   .op (p1 104 (.bsl 6 94 [.t 103]) [10])],0,1,[
   ⟨some 105,.appm 6 48 94 (.t 93) (.t 104),none,[0,9,11]⟩]⟩ [⟨[
],0,1,[
 ⟨some 10,.mv (.t 105),none,[0,1,2,3,4,5,6,7,8,9,10,11,12]⟩]⟩])))))
 (.reg [
 o1 106 (.bin .add (.t 76) (cn 1)),
 m1 76 106])))))))
 (sr1 [
 m1 107 10,
 m1 10 107,
 o1 11 (.mv (cn 0)),
 o1 12 (.mv (cn 0))]
 .ret)))))))))
def r36:List RV:=[.tmp 10,.tmp 11,.tmp 12]
theorem t36:Qt1 Tryz.prog 36 c36 r36 108:=Z8 Tryz.func36 rfl (by kernel_rfl) (by kernel_rfl) (by kernel_rfl) (by kernel_rfl)
def c112:SC:=(sr1 [
 o1 4 (.mv (.c (.slice none 0 0)))]
 (sr1 [
 m1 5 0,
 o1 6 (.call 110 [.t 5]),
 o1 7 (.call 154 [.t 6]),
 m1 8 1,
 o1 9 (.bsl 1 3 [.t 8]),
 o1 10 (.app 1 8 3 (.t 7) (.t 9)),
 m1 4 10]
 .ret))
def r112:List RV:=[.tmp 4]
theorem t112:Qt1 Tryz.prog 112 c112 r112 11:=Z8 Tryz.func112 rfl (by kernel_rfl) (by kernel_rfl) (by kernel_rfl) (by kernel_rfl)
def c110:SC:=(sr1 [
 o1 2 (.mv (.c (.slice none 0 0)))]
 (.seq (sr1 [
 m1 3 0,
 o1 4 (.isn (.t 3))]
 (.cond (.t 4)
 (sr1 [
  o1 2 (.mv (.c (.slice none 0 0)))]
  .ret)
 .skip))
 (sr1 [
 o1 5 (.bsl 1 3 []),
 m1 6 0,
 o1 7 (.app 1 8 3 (.t 5) (.t 6)),
 m1 2 7]
 .ret)))
def r110:List RV:=[.tmp 2]
theorem n110:Tryz.f110.ntmps=8:=by kernel_rfl
theorem b110:YI Tryz.prog 110=true:=by kernel_rfl
theorem Zt7:XK Tryz.prog c110 ((Tryz.f110.body).getD .skip)=true:=by kernel_rfl
theorem Zwi:Wg Tryz.prog r110 Tryz.f110.results.toList=true:=by kernel_rfl
def c154:SC:=(sr1 [
 o1 2 (.mv (.c (.slice none 0 0)))]
 (sr1 [
 m1 3 0,
 m1 4 0,
 o1 5 (.len (.t 4)),
 m1 6 0,
 o1 7 (.len (.t 6)),
 o1 8 (.slc (.t 3) (.t 5) (.t 7)),
 m1 2 8]
 .ret))
def r154:List RV:=[.tmp 2]
theorem t154:Qt1 Tryz.prog 154 c154 r154 9:=Z8 Tryz.func154 rfl (by kernel_rfl) (by kernel_rfl) (by kernel_rfl) (by kernel_rfl)
def c114:SC:=(sr1 [
 o1 4 (.mv (cn 0))]
 (.seq (sr1 [
 m1 9 0,
 o1 10 (.len (.t 9)),
 o1 11 (.mv (cn 0))]
 (.block 0 (.loop (sr1 [
  o1 12 (.bin .lss (.t 11) (.t 10))]
  (.seq (.cond (.t 12)
  .skip
  (.exit 0))
  (.seq (.block 1 (sr1 [
   m1 13 11,
   o1 14 (.ixs (.t 9) (.t 11) 1),
   o1 15 (lf 14 1),
   m1 5 13,
   m1 6 15]
   (.seq (sr1 [
   m1 16 5,
   m1 17 1,
   o1 18 (.len (.t 17)),
   o1 19 (.bin .geq (.t 16) (.t 18))]
   (.cond (.t 19)
   (sr1 [
    o1 4 (.mv (cn 1))]
    .ret)
   .skip))
   (sr1 [
   m1 20 1,
   m1 21 5,
   o1 22 (.ixs (.t 20) (.t 21) 1),
   o1 23 (lf 22 1),
   m1 7 23]
   (sr1 [
   m1 24 6,
   m1 25 7,
   o1 26 (.call 157 [.t 24,.t 25]),
   m1 8 26]
   (sr1 [
   m1 27 8,
   o1 28 (.bin .neq (.t 27) (cn 0))]
   (.cond (.t 28)
   (sr1 [
    m1 29 8,
    m1 4 29]
    .ret)
   .skip)))))))
  (.reg [
  o1 30 (.bin .add (.t 11) (cn 1)),
  m1 11 30])))))))
 (.seq (sr1 [
 m1 31 0,
 o1 32 (.len (.t 31)),
 m1 33 1,
 o1 34 (.len (.t 33)),
 o1 35 (.bin .lss (.t 32) (.t 34))]
 (.cond (.t 35)
 (sr1 [
  o1 4 (.mv (.c (.int .i64 (-1))))]
  .ret)
 .skip))
 (sr1 [
 o1 4 (.mv (cn 0))]
 .ret))))
def r114:List RV:=[.tmp 4]
theorem t114:Qt1 Tryz.prog 114 c114 r114 36:=Z8 Tryz.func114 rfl (by kernel_rfl) (by kernel_rfl) (by kernel_rfl) (by kernel_rfl)
def c157:SC:=(sr1 [
 o1 4 (.mv (cn 0))]
 (sr1 [
 m1 7 0,
 o1 8 (.call 171 [.t 7]),
 m1 5 8]
 (sr1 [
 m1 9 1,
 o1 10 (.call 171 [.t 9]),
 m1 6 10]
 (.seq (sr1 [
 m1 11 5]
 (.cond (.t 11)
 (.seq (sr1 [
  m1 12 6]
  (.cond (.t 12)
  (sr1 [
   o1 4 (.mv (cn 0))]
   .ret)
  .skip))
  (sr1 [
  o1 4 (.mv (.c (.int .i64 (-1))))]
  .ret))
 .skip))
 (.seq (sr1 [
 m1 13 6]
 (.cond (.t 13)
 (sr1 [
  o1 4 (.mv (cn 1))]
  .ret)
 .skip))
 (.seq (sr1 [
 m1 14 0,
 m1 15 1,
 o1 16 (.bin .lss (.t 14) (.t 15))]
 (.cond (.t 16)
 (sr1 [
  o1 4 (.mv (.c (.int .i64 (-1))))]
  .ret)
 .skip))
 (.seq (sr1 [
 m1 17 0,
 m1 18 1,
 o1 19 (.bin .gtr (.t 17) (.t 18))]
 (.cond (.t 19)
 (sr1 [
  o1 4 (.mv (cn 1))]
  .ret)
 .skip))
 (sr1 [
 o1 4 (.mv (cn 0))]
 .ret))))))))
def r157:List RV:=[.tmp 4]
theorem t157:Qt1 Tryz.prog 157 c157 r157 20:=Z8 Tryz.func157 rfl (by kernel_rfl) (by kernel_rfl) (by kernel_rfl) (by kernel_rfl)
def c171:SC:=(sr1 [
 o1 2 (.mv (.c (.bool false)))]
 (sr1 [
 m1 3 0,
 m1 4 0,
 o1 5 (.bin .neq (.t 3) (.t 4)),
 m1 2 5]
 .ret))
def r171:List RV:=[.tmp 2]
theorem t171:Qt1 Tryz.prog 171 c171 r171 6:=Z8 Tryz.func171 rfl (by kernel_rfl) (by kernel_rfl) (by kernel_rfl) (by kernel_rfl)
def c140:SC:=(sr1 [
 o1 4 (.mv (.c (.slice none 0 0)))]
 (.seq (sr1 [
 m1 9 1,
 o1 10 (.bin .lss (.t 9) (cn 0))]
 (.cond (.t 10)
 (.reg [
  o1 11 (.raw (Go.Op.makeInterface 9 (Go.Operand.const (Go.Value.string { data:=#[99,97,110,110,111,116,32,98,101,32,110,101,103,97,116,105,118,101] }))) 20),
  ⟨none,.raw (Go.Op.panic (Go.Operand.tmp 11)) 0,none,[]⟩])
 .skip))
 (sr1 [
 m1 13 0,
 o1 14 (.len (.t 13)),
 o1 15 (.conv .u64 (.t 14)),
 m1 16 1,
 o1 17 (.conv .u64 (.t 16)),
 o1 18 (.call 167 [.t 15,.t 17]),
 m1 12 18,
 o1 19 (.ext (.t 12) 0),
 o1 20 (.ext (.t 12) 1),
 m1 5 19,
 m1 6 20]
 (.seq (sr1 [
 m1 21 5,
 o1 22 (.bin .gtr (.t 21) (.c (.int .u64 0))),
 m1 23 22,
 g1 24 23 false (.mv (.t 6)),
 g1 25 23 false (.bin .gtr (.t 24) (.c (.int .u64 9223372036854775807))),
 o1 26 (.pick (.t 23) (.c (.bool true)) (.t 25))]
 (.cond (.t 26)
 (.reg [
  o1 27 (.raw (Go.Op.makeInterface 9 (Go.Operand.const (Go.Value.string { data:=#[116,104,101,32,114,101,115,117,108,116,32,111,102,32,40,108,101,110,40,120,41,32,42,32,99,111,117,110,116,41,32,111,118,101,114,102,108,111,119,115] }))) 20),
  ⟨none,.raw (Go.Op.panic (Go.Operand.tmp 27)) 0,none,[]⟩])
 .skip))
 (sr1 [
 m1 28 6,
 o1 29 (.conv .i64 (.t 28)),
 o1 30 (.mks 1 8 [.int .i64 0] 3 (.t 29)),
 m1 7 30]
 (sr1 [
 m1 31 7,
 m1 32 0,
 o1 33 (.cpy 1 (.t 31) (.t 32)),
 m1 8 33]
 (.seq (.block 0 (.loop (.seq (sr1 [
  m1 34 8,
  m1 35 7,
  o1 36 (.len (.t 35)),
  o1 37 (.bin .lss (.t 34) (.t 36))]
  (.cond (.t 37)
  .skip
  (.exit 0)))
  (.block 1 (.regd [1,2,3,4,5,6,0,7,8,9] [
   .op (m1 39 7),
   .op (m1 40 8),
   .op (p1 41 (.sub 1 (.t 39) (some (.t 40)) none) [1,2]),
   .op (m1 42 7),
   .op (m1 43 8),
   .op (p1 44 (.sub 1 (.t 42) none (some (.t 43))) [4,5]),
   .hide (.t 41),
   .op (m1 38 8)] 0 1 [
   ⟨some 45,.cpy 1 (.t 41) (.t 44),none,[3,6]⟩,
   ⟨some 46,.bin .add (.t 38) (.t 45),none,[0,7]⟩,
   ⟨some 8,.mv (.t 46),none,[0,1,2,3,4,5,6,7,8]⟩])))))
 (sr1 [
 m1 47 7,
 m1 4 47]
 .ret))))))))
def r140:List RV:=[.tmp 4]
theorem n140:Tryz.f140.ntmps=48:=by kernel_rfl
theorem b140:YI Tryz.prog 140=true:=by kernel_rfl
theorem Zwr:XK Tryz.prog c140 ((Tryz.f140.body).getD .skip)=true:=by kernel_rfl
theorem ZwR:Wg Tryz.prog r140 Tryz.f140.results.toList=true:=by kernel_rfl
theorem m140 {n0:Nat} {hp0:List (Nat × HB)} {args:List SV} {Z6:Ot->Prop} (hh:hpb n0 hp0) (hx:∀ o,Z6 o->KX o.res/\KXP o.hp) (h:sx Tryz.prog Y0 n0 c140 ⟨We 0 args,hp0,n0,48,[]⟩ (Zct r140 fun o=>∃ o',Z6 o'/\ZdV n0 o o')) (hA:Nat.ble args.length 48=true:=by rfl):CtM Tryz.prog 140 hp0 n0 args Z6:=YU Tryz.func140 rfl b140 Zwr ZwR n140 (Nat.le_of_ble_eq_true hA) hh hx h
def c167:SC:=(sr1 [
 o1 4 (.mv (.c (.int .u64 0))),
 o1 5 (.mv (.c (.int .u64 0)))]
 (.seq (.cond (.c (.bool false))
 (sr1 [
  m1 11 0,
  o1 12 (.conv .u32 (.t 11)),
  m1 13 1,
  o1 14 (.conv .u32 (.t 13)),
  o1 15 (.call 173 [.t 12,.t 14]),
  m1 10 15,
  o1 16 (.ext (.t 10) 0),
  o1 17 (.ext (.t 10) 1),
  m1 6 16,
  m1 7 17]
  (sr1 [
  m1 18 6,
  o1 19 (.conv .u64 (.t 18)),
  m1 20 7,
  o1 21 (.conv .u64 (.t 20)),
  m1 4 19,
  m1 5 21]
  .ret))
 .skip)
 (sr1 [
 m1 23 0,
 m1 24 1,
 o1 25 (.call 174 [.t 23,.t 24]),
 m1 22 25,
 o1 26 (.ext (.t 22) 0),
 o1 27 (.ext (.t 22) 1),
 m1 8 26,
 m1 9 27]
 (sr1 [
 m1 28 8,
 m1 29 9,
 m1 4 28,
 m1 5 29]
 .ret))))
def r167:List RV:=[.tmp 4,.tmp 5]
theorem t167:Qt1 Tryz.prog 167 c167 r167 30:=Z8 Tryz.func167 rfl (by kernel_rfl) (by kernel_rfl) (by kernel_rfl) (by kernel_rfl)
def c174:SC:=(sr1 [
 o1 4 (.mv (.c (.int .u64 0))),
 o1 5 (.mv (.c (.int .u64 0)))]
 (sr1 [
 m1 14 0,
 o1 15 (.raw (Go.Op.binOp Go.BinOp.and 257 (Go.Operand.tmp 14) (Go.Operand.const (Go.Value.int Go.IntKind.u64 4294967295)) 257) 257),
 m1 6 15]
 (sr1 [
 m1 16 0,
 o1 17 (.raw (Go.Op.binOp Go.BinOp.shr 257 (Go.Operand.tmp 16) (Go.Operand.const (Go.Value.int Go.IntKind.u64 32)) 247) 257),
 m1 7 17]
 (sr1 [
 m1 18 1,
 o1 19 (.raw (Go.Op.binOp Go.BinOp.and 257 (Go.Operand.tmp 18) (Go.Operand.const (Go.Value.int Go.IntKind.u64 4294967295)) 257) 257),
 m1 8 19]
 (sr1 [
 m1 20 1,
 o1 21 (.raw (Go.Op.binOp Go.BinOp.shr 257 (Go.Operand.tmp 20) (Go.Operand.const (Go.Value.int Go.IntKind.u64 32)) 247) 257),
 m1 9 21]
 (sr1 [
 m1 22 6,
 m1 23 8,
 o1 24 (.bin .mul (.t 22) (.t 23)),
 m1 10 24]
 (sr1 [
 m1 25 7,
 m1 26 8,
 o1 27 (.bin .mul (.t 25) (.t 26)),
 m1 28 10,
 o1 29 (.raw (Go.Op.binOp Go.BinOp.shr 257 (Go.Operand.tmp 28) (Go.Operand.const (Go.Value.int Go.IntKind.u64 32)) 247) 257),
 o1 30 (.bin .add (.t 27) (.t 29)),
 m1 11 30]
 (sr1 [
 m1 31 11,
 o1 32 (.raw (Go.Op.binOp Go.BinOp.and 257 (Go.Operand.tmp 31) (Go.Operand.const (Go.Value.int Go.IntKind.u64 4294967295)) 257) 257),
 m1 12 32]
 (sr1 [
 m1 33 11,
 o1 34 (.raw (Go.Op.binOp Go.BinOp.shr 257 (Go.Operand.tmp 33) (Go.Operand.const (Go.Value.int Go.IntKind.u64 32)) 247) 257),
 m1 13 34]
 (sr1 [
 m1 35 12,
 m1 36 6,
 m1 37 9,
 o1 38 (.bin .mul (.t 36) (.t 37)),
 o1 39 (.bin .add (.t 35) (.t 38)),
 m1 12 39]
 (sr1 [
 m1 40 7,
 m1 41 9,
 o1 42 (.bin .mul (.t 40) (.t 41)),
 m1 43 13,
 o1 44 (.bin .add (.t 42) (.t 43)),
 m1 45 12,
 o1 46 (.raw (Go.Op.binOp Go.BinOp.shr 257 (Go.Operand.tmp 45) (Go.Operand.const (Go.Value.int Go.IntKind.u64 32)) 247) 257),
 o1 47 (.bin .add (.t 44) (.t 46)),
 m1 4 47]
 (sr1 [
 m1 48 0,
 m1 49 1,
 o1 50 (.bin .mul (.t 48) (.t 49)),
 m1 5 50]
 .ret))))))))))))
def r174:List RV:=[.tmp 4,.tmp 5]
theorem t174:Qt1 Tryz.prog 174 c174 r174 51:=Z8 Tryz.func174 rfl (by kernel_rfl) (by kernel_rfl) (by kernel_rfl) (by kernel_rfl)
def c57:SC:=(sr1 [
 o1 4 (.mv (.c (.bool false)))]
 (.seq (sr1 [
 m1 6 0,
 o1 7 (.len (.t 6)),
 m1 8 1,
 o1 9 (.len (.t 8)),
 o1 10 (.bin .neq (.t 7) (.t 9))]
 (.cond (.t 10)
 (sr1 [
  o1 4 (.mv (.c (.bool false)))]
  .ret)
 .skip))
 (.seq (sr1 [
 o1 5 (.mv (cn 0))]
 (.block 0 (.loop (.seq (sr1 [
  m1 11 5,
  m1 12 0,
  o1 13 (.len (.t 12)),
  o1 14 (.bin .lss (.t 11) (.t 13))]
  (.cond (.t 14)
  .skip
  (.exit 0)))
  (.seq (.block 1 (.seq (.regd [0,1,2,3,4,5,6,7,8] [
   .op (m1 17 0),
   .op (m1 18 5),
   .op (p1 19 (.ixs (.t 17) (.t 18) 1) [0,1]),
   .op (p1 20 (lf 19 1) [2]),
   .op (m1 21 1),
   .op (m1 22 5),
   .op (p1 23 (.ixs (.t 21) (.t 22) 1) [4,5]),
   .op (p1 24 (lf 23 1) [6]),
   .op (p1 25 (.bin .neq (.t 20) (.t 24)) [3,7])] 0 0 [
])
 (.cond (.t 25)
 (sr1 [
  o1 4 (.mv (.c (.bool false)))]
  .ret)
 .skip)))
 (.reg [
 m1 15 5,
 o1 16 (.bin .add (.t 15) (cn 1)),
 m1 5 16]))))))
 (sr1 [
 o1 4 (.mv (.c (.bool true)))]
 .ret))))
def r57:List RV:=[.tmp 4]
theorem t57:Qt1 Tryz.prog 57 c57 r57 26:=Z8 Tryz.func57 rfl (by kernel_rfl) (by kernel_rfl) (by kernel_rfl) (by kernel_rfl)
open Go.Azalai
theorem Zyd (a b:Int) (c:Bool):Ct Tryz.prog 71 [.sl c 1 [[I a],[I b]]] (I (min a b)):=by
 refine t71.1 (by simp [KFR,KFL,KF]) (by simp [KFL,KF]) ?_
 dsimp only [c71,r71,go_sem,rA,rM,rS]
 refine Zx (by decide) ?_
 dsimp only [go_sem,rA,rM,rS]
 refine ixs 0 [I a] rfl rfl ?_
 dsimp only [go_sem,rA,rM,rS]
 refine Xw 2 ?_
 dsimp only [Zb,go_sem,rA,rM,rS]
 refine Zu (by decide) ?_
 dsimp only [Zb,go_sem,rA,rM,rS]
 refine ixs 1 [I b] rfl rfl ?_
 dsimp only [Zb,go_sem,rA,rM,rS]
 refine Zx (by decide) ?_
 dsimp only [go_sem,rA,rM,rS]
theorem ZeH (a:Int):Ct Tryz.prog 122 [.sl true 1 [[I a]]] (I (min a 100001)):=by
 refine t122.1 (by simp [KFR,KFL,KF]) (by simp [KFL,KF]) ?_
 dsimp only [c122,r122,go_sem,rA,rM,rS]
 refine Zm1 (by simp) ?_
 dsimp only [go_sem,rA,rM,rS]
 refine call (Zyd a 100001 false) ?_
 dsimp only [go_sem,rA,rM,rS]
theorem Vz (l:Land) (p:Span) (k:Nat) (hk:k < l.legs.length) (d0 d1:Int) (hx:GoodLeg l.legs[k]) (hp:ZX p=true) (h0:inR 0 100001 d0=true) (h1:inR 0 100001 d1=true) :
 Ct Tryz.prog 79 [.agg (Yc l p),I k,.agg [I d0,I d1]] (.agg [I (ZU false l.legs[k] p d0),I (ZU true l.legs[k] p d1)]):=by
 have hb:=day_bd hx hp
 refine t79.1 (by simp [Yc,Ze,Zm,Zg,Zd,Za,KFL,KF]) (by simp [KFL,KF]) ?_
 dsimp only [c79,r79,Yc,go_sem,rA,rM,rS]
 refine call (Wm l p k hk d0 d1 hx hp h0 h1) ?_
 dsimp only [Yc,go_sem,rA,rM,rS]
 refine call (Zdm l p k hk hx hp) ?_
 dsimp only [Zd,go_sem,rA,rM,rS]
 simp only [inR,decide_eq_true_eq] at h0 h1
 have a0:=Wc (k:=false) hx hp h0.2
 have a1:=Wc (k:=true) hx hp h1.2
 simp only [leK,nK,cond_true,cond_false] at a0 a1
 refine Xw 3 ?_
 dsimp only [Zb,go_sem,rA,rM,rS]
 refine Zu (by decide) ?_
 dsimp only [Zb,go_sem,rA,rM,rS]
 repeat (refine ixa 0 rfl (by decide) ?_;dsimp only [Zb,go_sem,rA,rM,rS])
 rw [Zi (n:=Zyo l.legs[k] p d0+(ZcI l.legs[k] p).lo) (by omega) (by omega)]
 refine call (ZeH _) ?_
 dsimp only [Zb,go_sem,rA,rM,rS]
 repeat (refine ixa 0 rfl (by decide) ?_;dsimp only [Zb,go_sem,rA,rM,rS])
 refine Zu (by decide) ?_
 dsimp only [Zb,go_sem,rA,rM,rS]
 repeat (refine ixa 1 rfl (by decide) ?_;dsimp only [Zb,go_sem,rA,rM,rS])
 rw [Zi (n:=Zvi l.legs[k] p d1+(ZcI l.legs[k] p).hi) (by omega) (by omega)]
 refine call (ZeH _) ?_
 dsimp only [Zb,go_sem,rA,rM,rS]
 repeat (refine ixa 1 rfl (by decide) ?_;dsimp only [Zb,go_sem,rA,rM,rS])
 refine Zx (by decide) ?_
 dsimp only [go_sem,rA,rM,rS]
 simp only [ZU,leK,nK,cond_true,cond_false]
 rw [Int.min_comm,Int.min_comm 100001 (Zvi l.legs[k] p d1+(ZcI l.legs[k] p).hi)]
def ZcF (l:Land) (p:Span) (v:Int):Ot:=⟨false,.cl 153 [.p 0 0,.p 1 0],[(1,.cells [I v] 3),(0,.cells (Yc l p) 160)],2⟩
theorem ZdR (l:Land) (p:Span) (v:Int):CtM Tryz.prog 111 [] 0 [.agg (Yc l p),I v] (fun o=>o=ZcF l p v):=by
 refine m111 (by simp [hpb]) (fun o ho=>by subst ho;simp [ZcF,KX,KXL,KXP,KXH,Za,KFL,KF,Yc,Ze,Zm,Zg]) ?_
 dsimp only [c111,r111,Yc,go_sem,rA,rM,rS]
 refine ⟨_,rfl,?_⟩
 simp only [ZcF]
 (refine YG ?_ ?_ ?_ rfl<;>dsimp only [Yc,Ze,Zm,Zg,id,go_sem,rA,rM,rS]<;>simp [Yc,Ze,Zm,Zg,Za,Zf,KFR,KFL,KF,Zc,mtO,nbr])
end Go.Proofs.YtiigiflofnjilaaGreat
namespace Go.Azalai
def WY (l:Land) (leg v:Int):Int:=if h:0<=leg/\leg.toNat < l.legs.length then Zl l.legs[leg.toNat] v else -1
end Go.Azalai
namespace Go.Proofs.YtiigiflofnjilaaGreat
open Go Go.Sx Go.Azalai
theorem Zy8 (l:Land) (p:Span) (leg v:Int) (hl:l.legs.length<=1000):Ct Tryz.prog 77 [.agg (Yc l p),I leg,I v] (I (WY l leg v)):=by
 refine t77.1 (by simp [Yc,Ze,Zm,Zg,Za,KFL,KF]) (by simp [KFL,KF]) ?_
 dsimp only [c77,r77,Yc,go_sem,rA,rM,rS]
 refine V5 [] (ZdR l p v) rfl rfl rfl ?_ ?_ ?_
 . exact Zc (by simp [Yc,Ze,Zm,Zg,Za,KFL,KF])
 . trivial
 dsimp only [ZcF,Yc,go_sem,rA,rM,rS]
 refine gh Xo ?_
 dsimp only [go_sem,rA,rM,rS]
 refine ⟨b153,fun rec=>?_⟩
 refine y153 ?_
 dsimp only [ZAE,Zzp,go_sem,rA,rM,rS]
 refine Xu (fun j:Nat=>[(10,I j)]) (fun _=>[]) (fun j=>j<=l.legs.length/\(0<=leg->leg < j->WY l leg v = -1)) (fun j=>l.legs.length - j) 0 ⟨Nat.zero_le _,fun h1 h2=>by omega⟩ ?_ ?_
 . (refine Zk ?_ ?_ ?_ rfl rfl<;>dsimp only [Yc,Ze,Zm,Zg,id,go_sem,rA,rM,rS]<;>simp [Yc,Ze,Zm,Zg,Za,Zf,KFR,KFL,KF,Zc,mtO,nbr])
 rintro j ⟨hj,hi⟩
 dsimp only [go_sem,rA,rM,rS]
 simp only [List.length_map]
 by_cases hlt:j < l.legs.length
 . refine Zu (by simpa using hlt) ?_
   dsimp only [go_sem,rA,rM,rS]
   refine Zr j hlt rfl ?_
   dsimp only [Zm,go_sem,rA,rM,rS]
   have hend:leg=j->WY l leg v=Zl l.legs[j] v:=fun he=>by
    subst he
    unfold WY
    rw [dif_pos ⟨by omega,by simpa using hlt⟩]
    simp
   by_cases ha:v=l.legs[j].a
   . refine Zu (by simpa using ha) ?_
     dsimp only [go_sem,rA,rM,rS]
     refine ⟨rfl,rfl,?_⟩
     by_cases he:leg=j
     . refine Zu (by simp [he]) ?_
       dsimp only [go_sem,rA,rM,rS]
       refine ⟨rfl,?_⟩
       refine Zu (by decide) ?_
       dsimp only [go_sem,rA,rM,rS]
       rw [hend he,Zl,if_pos ha.symm]
     . refine Zx (by simp;omega) ?_
       dsimp only [go_sem,rA,rM,rS]
       refine ⟨rfl,?_⟩
       refine Zx (by decide) ?_
       dsimp only [go_sem,rA,rM,rS]
       rw [Zi (n:=(j:Int)+1) (by omega) (by omega)]
       refine ⟨j+1,⟨hlt,fun h1 h2=>hi h1 (by omega)⟩,by omega,?_⟩
       (refine Zk ?_ ?_ ?_ rfl rfl<;>dsimp only [Yc,Ze,Zm,Zg,id,go_sem,rA,rM,rS]<;>simp [Yc,Ze,Zm,Zg,Za,Zf,KFR,KFL,KF,Zc,mtO,nbr])
   refine Zx (by simpa using ha) ?_
   dsimp only [go_sem,rA,rM,rS]
   by_cases hb:v=l.legs[j].b
   . refine Zu (by simpa using hb) ?_
     dsimp only [go_sem,rA,rM,rS]
     refine ⟨rfl,rfl,?_⟩
     by_cases he:leg=j
     . refine Zu (by simp [he]) ?_
       dsimp only [go_sem,rA,rM,rS]
       refine ⟨rfl,?_⟩
       refine Zu (by decide) ?_
       dsimp only [go_sem,rA,rM,rS]
       rw [hend he,Zl,if_neg (fun e=>ha e.symm),if_pos hb.symm]
     . refine Zx (by simp;omega) ?_
       dsimp only [go_sem,rA,rM,rS]
       refine ⟨rfl,?_⟩
       refine Zx (by decide) ?_
       dsimp only [go_sem,rA,rM,rS]
       rw [Zi (n:=(j:Int)+1) (by omega) (by omega)]
       refine ⟨j+1,⟨hlt,fun h1 h2=>hi h1 (by omega)⟩,by omega,?_⟩
       (refine Zk ?_ ?_ ?_ rfl rfl<;>dsimp only [Yc,Ze,Zm,Zg,id,go_sem,rA,rM,rS]<;>simp [Yc,Ze,Zm,Zg,Za,Zf,KFR,KFL,KF,Zc,mtO,nbr])
   refine Zx (by simpa using hb) ?_
   dsimp only [go_sem,rA,rM,rS]
   rw [Zi (n:=(j:Int)+1) (by omega) (by omega)]
   refine ⟨j+1,⟨hlt,fun h1 h2=>?_⟩,by omega,?_⟩
   . by_cases he:leg=j
     . rw [hend he,Zl,if_neg (fun e=>ha e.symm),if_neg (fun e=>hb e.symm)]
     . exact hi h1 (by omega)
   (refine Zk ?_ ?_ ?_ rfl rfl<;>dsimp only [Yc,Ze,Zm,Zg,id,go_sem,rA,rM,rS]<;>simp [Yc,Ze,Zm,Zg,Za,Zf,KFR,KFL,KF,Zc,mtO,nbr])
 refine Zx (by simp;omega) ?_
 dsimp only [go_sem,rA,rM,rS]
 have hz:WY l leg v = -1:=by
  by_cases h1:0<=leg
  . by_cases h2:leg < j
    . exact hi h1 h2
    . unfold WY;rw [dif_neg (by omega)]
  . unfold WY;rw [dif_neg (by omega)]
 rw [hz]
def U64 (n:Int):SV:=.v (.int .u64 n)
theorem uw {n:Int} (h0:0<=n) (h1:n < 18446744073709551616):IntKind.u64.wrap n=n:=by
 have e:n % 2 ^ IntKind.u64.bits=n:=Int.emod_eq_of_lt h0 (by show n < 2 ^ 64;omega)
 simp only [IntKind.wrap,e,show IntKind.u64.signed=false from rfl,Bool.false_and]
 rfl
theorem Zpm (n:Int) (h0:0<=n) (h1:n<=1000000):Ct Tryz.prog 174 [U64 1,U64 n] (.tup [U64 0,U64 n]):=by
 refine t174.1 (by simp [U64,KFL,KF]) (by simp [U64,KFL,KF]) ?_
 dsimp only [c174,r174,U64,go_sem,rA,rM,rS]
 have sh:∀ (m:Int),0<=m->m < 4294967296->∀ w:World,(binOp .shr 168 (.int .u64 m) (.int .u64 32)).run Tryz.prog w = .ok (.int .u64 0) w:=fun m q0 q1 w=>by
  simp only [binOp,Op.shift]
  rw [if_neg (by decide)]
  have:m.fdiv (2 ^ 32)=0:=by rw [Int.fdiv_eq_ediv_of_nonneg _ (by decide)];omega
  show Result.ok (Value.int .u64 (m.fdiv (2 ^ (min (32:Int).toNat IntKind.u64.bits)))) w=_
  rw [show min (32:Int).toNat IntKind.u64.bits=32 from by decide,this]
 have an:∀ (m:Int),0<=m->m < 4294967296->∀ w:World,(binOp .and 168 (.int .u64 m) (.int .u64 4294967295)).run Tryz.prog w = .ok (.int .u64 m) w:=fun m q0 q1 w=>by
  obtain ⟨k,rfl⟩:=Int.eq_ofNat_of_zero_le q0
  have hk:k < 4294967296:=by omega
  have e:(BitVec.ofInt 64 (k:Int) &&& BitVec.ofInt 64 4294967295).toNat=k:=by
   rw [BitVec.toNat_and,show (BitVec.ofInt 64 4294967295).toNat=2 ^ 32 - 1 from by decide,Nat.and_two_pow_sub_one_eq_mod,BitVec.ofInt_natCast,BitVec.toNat_ofNat]
   omega
  show Result.ok (Value.int .u64 (IntKind.u64.wrap (((BitVec.ofInt 64 (k:Int) &&& BitVec.ofInt 64 4294967295).toNat:Nat):Int))) w=_
  rw [e,uw (by omega) (by omega)]
 refine Vx rfl (.inl rfl) (an 1 (by omega) (by omega)) rfl ?_
 dsimp only [go_sem,rA,rM,rS]
 refine Vx rfl (.inr rfl) (sh 1 (by omega) (by omega)) rfl ?_
 dsimp only [go_sem,rA,rM,rS]
 refine Vx rfl (.inl rfl) (an n (by omega) (by omega)) rfl ?_
 dsimp only [go_sem,rA,rM,rS]
 refine Vx rfl (.inr rfl) (sh n (by omega) (by omega)) rfl ?_
 dsimp only [go_sem,rA,rM,rS]
 simp (disch:=omega) only [uw,Int.one_mul,Int.zero_mul,Int.mul_zero,Int.add_zero,Int.zero_add]
 refine Vx rfl (.inr rfl) (sh n (by omega) (by omega)) rfl ?_
 dsimp only [go_sem,rA,rM,rS]
 simp (disch:=omega) only [uw,Int.one_mul,Int.zero_mul,Int.mul_zero,Int.add_zero,Int.zero_add]
 refine Vx rfl (.inl rfl) (an 0 (by omega) (by omega)) rfl ?_
 dsimp only [go_sem,rA,rM,rS]
 refine Vx rfl (.inr rfl) (sh 0 (by omega) (by omega)) rfl ?_
 dsimp only [go_sem,rA,rM,rS]
 simp (disch:=omega) only [uw,Int.one_mul,Int.zero_mul,Int.mul_zero,Int.add_zero,Int.zero_add]
 refine Vx rfl (.inr rfl) (sh 0 (by omega) (by omega)) rfl ?_
 dsimp only [go_sem,rA,rM,rS]
 simp (disch:=omega) only [uw,Int.one_mul,Int.zero_mul,Int.mul_zero,Int.add_zero,Int.zero_add]
theorem Zy7 (n:Int) (h0:0<=n) (h1:n<=1000000):Ct Tryz.prog 167 [U64 1,U64 n] (.tup [U64 0,U64 n]):=by
 refine t167.1 (by simp [U64,KFL,KF]) (by simp [U64,KFL,KF]) ?_
 dsimp only [c167,r167,U64,go_sem,rA,rM,rS]
 refine Zx (by decide) ?_
 dsimp only [go_sem,rA,rM,rS]
 refine call (Zpm n h0 h1) ?_
 dsimp only [U64,go_sem,rA,rM,rS]
theorem Ut {r:List SV} (h:KFL r):∀ n,KFR (List.replicate n r)
 | 0=>trivial
 | n+1=>⟨h,Ut h n⟩
theorem ZuX (x:Int) (n:Nat) (h0:1<=n) (h1:n<=1000) (k:Bool):CtM Tryz.prog 140 [] 0 [.sl k 1 [[I x]],I n] (fun o=>o=⟨false,.mr 0 0,[(0,.row 0 1 (List.replicate n [I x]) 3)],1⟩):=by
 have hm:KFL [I x]:=by simp [KFL,KF]
 have hone:Yv [I x]=true:=rfl
 have hkr:=Ut hm n
 refine m140 (by simp [hpb]) (fun o ho=>by subst ho;simp only [KX,KXL,KXP,KXH];exact ⟨trivial,hkr,trivial⟩) ?_
 generalize [I x]=row at hm hone hkr
 dsimp only [c140,r140,go_sem,rA,rM,rS]
 refine Zx (by simp) ?_
 dsimp only [go_sem,rA,rM,rS]
 rw [show ((1:Nat):Int)=1 from rfl]
 simp (disch:=omega) only [uw]
 refine call (Zy7 n (by omega) (by omega)) ?_
 dsimp only [U64,go_sem,rA,rM,rS]
 refine gb ?_
 dsimp only [go_sem,rA,rM,rS]
 refine gb ?_
 dsimp only [go_sem,rA,rM,rS]
 refine Zx (by simp;omega) ?_
 dsimp only [go_sem,rA,rM,rS]
 refine ⟨n,Zi (by omega) (by omega),by omega,?_⟩
 have hz:KFL [SV.v (Value.int IntKind.i64 0)]:=by simp [KFL,KF]
 generalize [SV.v (Value.int IntKind.i64 0)]=z at hz
 dsimp only [go_sem,rA,rM,rS]
 refine ⟨(by intro c hc;simp only [List.mem_singleton] at hc;subst hc;exact hone),by simp,?_⟩
 have hmin:min n 1=1:=by omega
 simp only [List.length_replicate,List.length_singleton,hmin,List.drop_replicate]
 dsimp only [go_sem,rA,rM,rS]
 refine Xu (fun j:Nat=>[(8,I j)]) (fun j=>[(0,.row 0 1 (List.replicate j row ++ List.replicate (n - j) z) 3)]) (fun j=>1<=j/\j<=n) (fun j=>n - j) 1 ⟨Nat.le_refl _,h0⟩ ?_ ?_
 . refine Zk ?_ ?_ ?_ rfl rfl<;>dsimp only [id,go_sem,rA,rM,rS]<;>simp [Zf,Ut,hz,hm,Zc,mtO,nbr,KFR,KFL,KF]
 rintro j ⟨hj0,hj⟩
 dsimp only [go_sem,rA,rM,rS]
 simp only [List.length_append,List.length_replicate,show j+(n - j)=n from by omega]
 by_cases hlt:j < n
 . refine Zu (by simpa using hlt) ?_
   dsimp only [go_sem,rA,rM,rS]
   refine ⟨j,n,⟨rfl,by simp;omega,by omega,by simp;omega⟩,?_⟩
   dsimp only [go_sem,rA,rM,rS]
   refine ⟨0,j,⟨rfl,rfl,by omega,by simp⟩,?_⟩
   dsimp only [go_sem,rA,rM,rS]
   have hx:List.take (j - 0) (List.replicate j row ++ List.replicate (n - j) z)=List.replicate j row:=by rw [Nat.sub_zero];exact List.take_left' (by simp)
   have hx':List.take j (List.replicate j row ++ List.replicate (n - j) z)=List.replicate j row:=List.take_left' (by simp)
   rw [hx]
   refine ⟨by simp,(by intro c hc;rw [List.eq_of_mem_replicate hc];exact hone),by simp,?_⟩
   simp only [List.length_replicate]
   generalize hN:min (n - j) j=N
   have e:List.take j (List.replicate j row ++ List.replicate (n - j) z) ++ (List.take N (List.replicate j row) ++ List.drop (j+N) (List.replicate j row ++ List.replicate (n - j) z))=List.replicate (j+N) row ++ List.replicate (n - (j+N)) z:=by
    rw [hx',List.take_replicate,List.drop_append,List.drop_of_length_le (l:=List.replicate j row) (by simp),List.length_replicate,List.nil_append,List.drop_replicate,<- List.append_assoc,List.replicate_append_replicate,show min N j=N from by omega]
    congr 2;omega
   rw [e]
   dsimp only [go_sem,rA,rM,rS]
   rw [show (j:Int)+(N:Int)=((j+N:Nat):Int) from by omega,Zi (n:=((j+N:Nat):Int)) (by omega) (by omega)]
   refine ⟨j+N,⟨by omega,by omega⟩,by omega,?_⟩
   refine Zk ?_ ?_ ?_ rfl rfl<;>dsimp only [id,go_sem,rA,rM,rS]<;>simp [Zf,Ut,hz,hm,Zc,mtO,nbr,KFR,KFL,KF]
 refine Zx (by simp;omega) ?_
 dsimp only [go_sem,rA,rM,rS]
 have hje:j=n:=by omega
 subst hje
 simp only [Nat.sub_self,List.replicate_zero,List.append_nil]
 refine ⟨_,rfl,?_⟩
 refine YG ?_ ?_ ?_ rfl<;>dsimp only [id,go_sem,rA,rM,rS]<;>simp [Zf,Ut,hm,Zc,mtO,nbr,KFR,KFL,KF]
end Go.Proofs.YtiigiflofnjilaaGreat
namespace Go.Azalai
open Go.Sx
def dv (d:List Int) (v:Int):Int:=if 0<=v then d.getD v.toNat 100001 else 100001
theorem WR {d:List Int} {i:Nat} (h:i < d.length):dv d i=d[i]:=by simp [dv,h]
theorem Zzd {d:List Int} {v:Int} (h:¬ (0<=v/\v < d.length)):dv d v=100001:=by
 unfold dv
 split
 . have:¬ v.toNat < d.length:=by omega
   simp [List.getD_eq_getElem?_getD,List.getElem?_eq_none (Nat.le_of_not_lt this)]
 . rfl
theorem WS {d:List Int} {i:Nat} {x v:Int} (h:i < d.length):dv (d.set i x) v=if v=i then x else dv d v:=by
 unfold dv
 by_cases hv:0<=v
 . rw [if_pos hv,if_pos hv]
   by_cases he:v=i
   . subst he;simp [h]
   . rw [if_neg he]
     have:i≠v.toNat:=by omega
     simp [List.getD_eq_getElem?_getD,this]
 . rw [if_neg hv,if_neg hv,if_neg (by omega)]
structure Gone (k:Bool) (l:Land) (p:Span) (s day:Int) (d:List Int):Prop where
 len:d.length=l.wells.length
 ub:∀ v,dv d v<=100001
 real:∀ v,dv d v=100001\/∃ a,goW k l p s day a=some (v,dv d v)
 st:dv d s<=day
theorem Gone.lb {k:Bool} {l:Land} {p:Span} {s day:Int} {d:List Int} (h:Gone k l p s day d) (hg:OkLP l p) (hd:0<=day) (hd':day<=100000) (h0:0<=s) (h1:s < l.wells.length) (v:Int):day<=dv d v:=by
 rcases h.real v with e | ⟨a,e⟩
 . omega
 . have:=V7 hg e hd' h0 h1;omega
theorem Gone.relax {k:Bool} {l:Land} {p:Span} {s day:Int} {d:List Int} (h:Gone k l p s day d) (hg:OkLP l p) {i:Nat} {x:Leg} (hx:l.legs[i]? = some x) {v:Int} {w:Nat} (hw:Zl x v=w) (hd:0<=day) (hd':day<=100000) (h0:0<=s) (h1:s < l.wells.length) :
 Gone k l p s day (d.set w (min (dv d w) (ZU k x p (dv d v))))/\w < d.length:=by
 have hwl:=(Yb hg hx (v:=v) (by omega)).1
 have hwd:w < d.length:=by rw [h.len];omega
 refine ⟨⟨by simp [h.len],fun u=>?_,fun u=>?_,?_⟩,hwd⟩
 . rw [WS hwd];split
   . have:=h.ub w;omega
   . exact h.ub u
 . rw [WS hwd];split
   . rename_i hu
     by_cases hr:ZU k x p (dv d v) > 100000
     . have:=h.ub w
       have hb:=Wc (k:=k) (hg.leg hx) hg.pace (h.ub v)
       rw [show min (dv d w) (ZU k x p (dv d v))=dv d w by omega,hu]
       exact h.real w
     . by_cases hm:dv d w<=ZU k x p (dv d v)
       . rw [Int.min_eq_left hm,hu];exact h.real w
       . rw [Int.min_eq_right (by omega),hu]
         have hb:=Wc (k:=k) (hg.leg hx) hg.pace (h.ub v)
         rcases h.real v with e | ⟨a,e⟩
         . omega
         . refine .inr ⟨a ++ [i],?_⟩
           have:=ZaY e hx (by omega) hr
           rw [hw] at this;exact this
   . exact h.real u
 . rw [WS hwd];split
   . rename_i hs;have:=h.st;rw [hs] at this;omega
   . exact h.st
structure Dij (k:Bool) (l:Land) (p:Span) (s day:Int) (d:List Int) (left:Int->Prop):Prop where
 g:Gone k l p s day d
 cl:∀ x ∈ l.legs,∀ v:Int,0<=v->v < l.wells.length->¬ left v->0<=Zl x v->dv d (Zl x v)<=ZU k x p (dv d v)
 or:∀ u v:Int,0<=u->u < l.wells.length->¬ left u->0<=v->v < l.wells.length->left v->dv d u<=dv d v
theorem Dij.done {k:Bool} {l:Land} {p:Span} {s day:Int} {d:List Int} {left:Int->Prop} (h:Dij k l p s day d left) (hg:OkLP l p) (he:∀ v,¬ left v) (hd:0<=day) (hd':day<=100000) (h0:0<=s) (h1:s < l.wells.length):d=Wt k l p s day:=by
 have hc:ZmS k l p (dv d):=fun x hx=>by
  have hen:=hg.ends hx
  have q1:=h.cl x hx x.a hen.1.1 hen.1.2 (he _) (by simp [Zl];omega)
  have q2:=h.cl x hx x.b hen.2.1.1 hen.2.1.2 (he _) (by simp [Zl,hen.2.2];omega)
  simp only [Zl,if_true] at q1
  simp only [Zl,if_neg hen.2.2,if_true] at q2
  exact ⟨q1,q2⟩
 have heq:=Zbb (k:=k) hg hd hd' h0 h1 h.g.st hc h.g.ub h.g.real
 refine List.ext_getElem (by simp [Wt,h.g.len]) fun i hi hi'=>?_
 simp only [Wt,List.getElem_map,List.getElem_range]
 rw [<- heq,WR hi]
structure Rnd (k:Bool) (l:Land) (p:Span) (s day:Int) (d0 d:List Int) (near:Int) (j:Nat):Prop where
 g:Gone k l p s day d
 le:∀ v,dv d v<=dv d0 v
 ch:∀ v,dv d v=dv d0 v\/dv d0 near<=dv d v
 nr:dv d near=dv d0 near
 cl:∀ i x,i < j->l.legs[i]? = some x->0<=Zl x near->dv d (Zl x near)<=ZU k x p (dv d0 near)
theorem Rnd.start {k:Bool} {l:Land} {p:Span} {s day:Int} {d:List Int} {near:Int} (h:Gone k l p s day d):Rnd k l p s day d d near 0 :=
 ⟨h,fun _=>Int.le_refl _,fun _=>.inl rfl,rfl,fun i x hi=>by omega⟩
theorem Rnd.skip {k:Bool} {l:Land} {p:Span} {s day:Int} {d0 d:List Int} {near:Int} {j:Nat} (h:Rnd k l p s day d0 d near j) {x:Leg} (hx:l.legs[j]? = some x) (ho:Zl x near < 0):Rnd k l p s day d0 d near (j+1) :=
 ⟨h.g,h.le,h.ch,h.nr,fun i y hi hy h0=>by
  by_cases he:i=j
  . subst he;rw [hx] at hy;cases hy;omega
  . exact h.cl i y (by omega) hy h0⟩
theorem Rnd.step {k:Bool} {l:Land} {p:Span} {s day:Int} {d0 d:List Int} {near:Int} {j:Nat} (h:Rnd k l p s day d0 d near j) (hg:OkLP l p) {x:Leg} (hx:l.legs[j]? = some x) {w:Nat} (hw:Zl x near=w) (hd:0<=day) (hd':day<=100000) (h0:0<=s) (h1:s < l.wells.length) :
 Rnd k l p s day d0 (d.set w (min (dv d w) (ZU k x p (dv d near)))) near (j+1):=by
 obtain ⟨q1,q2⟩:=h.g.relax hg hx hw hd hd' h0 h1
 have hge:=Zbj (k:=k) (hg.leg hx) hg.pace (h.g.ub near)
 have hwn:(w:Int)≠near:=fun e=>by
  have:=hg.ends (List.mem_of_getElem? hx)
  unfold Zl at hw
  split at hw
  . omega
  . split at hw
    . omega
    . omega
 rw [h.nr] at hge
 refine ⟨q1,fun v=>?_,fun v=>?_,?_,fun i y hi hy ho=>?_⟩
 . rw [WS q2];split
   . rename_i hv;have:=h.le w;rw [hv];omega
   . exact h.le v
 . rw [WS q2];split
   . rename_i hv;rw [hv,h.nr]
     have:=h.ch w
     have:=h.le w
     omega
   . exact h.ch v
 . rw [WS q2,if_neg (fun e=>hwn e.symm)];exact h.nr
 . rw [WS q2]
   by_cases he:i=j
   . subst he;rw [hx] at hy;cases hy;rw [if_pos hw,h.nr];omega
   . have:=h.cl i y (by omega) hy ho
     split
     . rename_i hv;rw [hv] at this;omega
     . exact this
theorem Rnd.finish {k:Bool} {l:Land} {p:Span} {s day:Int} {d0 d:List Int} {near:Int} {left left':Int->Prop} (hD:Dij k l p s day d0 left) (h:Rnd k l p s day d0 d near l.legs.length) (hn:left near) (hn0:0<=near) (hn1:near < l.wells.length)
 (hmin:∀ v:Int,0<=v->v < l.wells.length->left v->dv d0 near<=dv d0 v) (hl:∀ v,left' v↔left v/\v≠near) (hg:OkLP l p):Dij k l p s day d left':=by
 have keep:∀ u:Int,0<=u->u < l.wells.length->¬ left' u->dv d u=dv d0 u:=fun u q1 q2 q3=>by
  by_cases he:u=near
  . rw [he];exact h.nr
  . have hnl:¬ left u:=fun hh=>q3 ((hl u).2 ⟨hh,he⟩)
    have:=hD.or u near q1 q2 hnl hn0 hn1 hn
    have:=h.ch u
    have:=h.le u
    omega
 refine ⟨h.g,fun x hx v q1 q2 q3 ho=>?_,fun u v q1 q2 q3 q4 q5 q6=>?_⟩
 . by_cases he:v=near
   . subst he
     obtain ⟨i,hi⟩:=List.mem_iff_getElem?.1 hx
     have:=h.cl i x (by rcases List.getElem?_eq_some_iff.1 hi with ⟨a,_⟩;exact a) hi ho
     rw [keep _ q1 q2 q3];exact this
   . have hnl:¬ left v:=fun hh=>q3 ((hl v).2 ⟨hh,he⟩)
     have:=hD.cl x hx v q1 q2 hnl ho
     rw [keep v q1 q2 q3]
     have:=h.le (Zl x v)
     omega
 . rw [keep u q1 q2 q3]
   have hv:=(hl v).1 q6
   have hun:dv d0 u<=dv d0 near:=by
    by_cases he:u=near
    . rw [he];omega
    . exact hD.or u near q1 q2 (fun hh=>q3 ((hl u).2 ⟨hh,he⟩)) hn0 hn1 hn
   have:=hmin v q4 q5 hv.1
   have:=h.ch v
   omega
theorem Zip {k:Bool} {l:Land} {p:Span} {s:Nat} {day:Int} (hs:s < l.wells.length) (hd:day<=100000):Gone k l p s day ((List.replicate l.wells.length 100001).set s day):=by
 have hl:s < (List.replicate l.wells.length (100001:Int)).length:=by simpa using hs
 have hz:∀ v,dv (List.replicate l.wells.length (100001:Int)) v=100001:=fun v=>by
  unfold dv
  split
  . simp only [List.getD_eq_getElem?_getD,List.getElem?_replicate];split<;>rfl
  . rfl
 refine ⟨by simp,fun v=>?_,fun v=>?_,?_⟩
 . rw [WS hl,hz];split<;>omega
 . rw [WS hl,hz];split
   . rename_i hv;exact .inr ⟨[],by rw [hv];rfl⟩
   . exact .inl rfl
 . rw [WS hl,if_pos rfl];exact Int.le_refl _
theorem Zmv {k:Bool} {l:Land} {p:Span} {s day:Int} {d:List Int} {left:Int->Prop} (h:Gone k l p s day d) (hl:∀ v:Int,0<=v->v < l.wells.length->left v):Dij k l p s day d left :=
 ⟨h,fun _ _ v h0 h1 hn=>absurd (hl v h0 h1) hn,fun u _ h0 h1 hn=>absurd (hl u h0 h1) hn⟩
end Go.Azalai
namespace Go.Proofs.YtiigiflofnjilaaGreat
open Go Go.Sx Go.Azalai
theorem ZiB:Tryz.prog.underlying 189=some (.map 3 4):=by kernel_rfl
theorem u3:Tryz.prog.underlying 3=some (.int .i64):=by kernel_rfl
theorem ZhJ:KeyT Tryz.prog 3 (fun n:Int=>.int .i64 n) (fun n=>.v (.int .i64 n)):=Zzn u3
abbrev kI:Int->Value:=fun n=>.int .i64 n
abbrev sI:Int->SV:=fun n=>.v (.int .i64 n)
def mpR (n:Nat):List (Nat × Int × Bool):=(List.range n).map fun j=>(j,(j:Int),true)
theorem Za7 (n:Nat):Uw n (n:Int) true (mpR n)=mpR (n+1)/\Zcu n (n:Int) (mpR n)=n+1:=by
 have h:XN (n:Int) (mpR n)=none:=by
  rw [XF]
  intro e he
  simp only [mpR,List.mem_map,List.mem_range] at he
  obtain ⟨j,hj,rfl⟩:=he
  simp only;omega
 rw [Za4 h]
 exact ⟨by simp [mpR,List.range_succ],by simp [Zcu,h]⟩
theorem ZyZ (n:Nat):MW (mpR n) n:=by
 induction n with
 | zero=>exact MW.nil
 | succ n ih =>
  have:=ih.set (k:=(n:Int)) true
  rw [(Za7 n).1,(Za7 n).2] at this
  exact this
theorem ZeO {K V:Type} {L:List (Nat × K × V)} (h:(L.map (·.1)).Nodup) {e e':Nat × K × V} (he:e ∈ L) (he':e' ∈ L) (hb:e.1=e'.1):e=e':=by
 induction L with
 | nil=>cases he
 | cons x l ih =>
  simp only [List.map_cons,List.nodup_cons] at h
  rcases List.mem_cons.1 he with h1 | h1<;>rcases List.mem_cons.1 he' with h2 | h2
  . rw [h1,h2]
  . exact absurd (by rw [<- h1,hb];exact List.mem_map.2 ⟨e',h2,rfl⟩) h.1
  . exact absurd (by rw [<- h2,<- hb];exact List.mem_map.2 ⟨e,h1,rfl⟩) h.1
  . exact ih h.2 h1 h2
theorem Zf8 (l:Land) (p:Span) (hs:WM l) (hg:OkLP l p) (s:Nat) (hsl:s < l.wells.length) (day:Int) (hd:inR 0 100000 day=true) (k:Bool) :
 Ct Tryz.prog 97 [.agg (Yc l p),I s,I day,I (bif k then 1 else 0)] (.sl false 1 ((Wt k l p s day).map Zo)):=by
 refine t97.1 (by simp [Yc,Ze,Zm,Zg,Za,KFL,KF]) (by simp [Za,Zo,KFL,KF]) ?_
 simp only [inR,decide_eq_true_eq] at hd
 have hw:=hs.1
 have hleg:=hs.2.1
 generalize hkk:(bif k then (1:Int) else 0)=kk
 have hkk':kk=((bif k then 1 else 0:Nat):Int):=by cases k<;>simp [<- hkk]
 dsimp only [c97,r97,Yc,go_sem,rA,rM,rS]
 simp only [List.length_map]
 refine V5 [] (ZuX 100001 l.wells.length (by omega) hw true) rfl rfl rfl ?_ ?_ ?_
 . exact Zc (by simp [KFR,KFL,KF])
 . trivial
 dsimp only [go_sem,rA,rM,rS]
 rw [show List.replicate l.wells.length [I 100001]=(List.replicate l.wells.length (100001:Int)).map Zo by simp [Zo]]
 refine UA s rfl (by simpa using hsl) ?_
 dsimp only [go_sem,rA,rM,rS]
 refine ZiI day (by simpa using hsl) (by simp [Zo]) (by simp [Zo,Zs]) ?_
 dsimp only [go_sem,rA,rM,rS]
 refine Zce rfl rfl rfl ?_
 dsimp only [go_sem,rA,rM,rS]
 have hgo:=Zip (k:=k) (l:=l) (p:=p) (s:=s) (day:=day) hsl hd.2
 generalize (List.replicate l.wells.length (100001:Int)).set s day=d0 at hgo
 have hlen:=hgo.len
 simp only [List.length_map,hlen]
 refine Xu (fun j:Nat=>[(29,I j)]) (fun j=>[(4,.map (mpS kI B (mpR j)) j)]) (fun j=>j<=l.wells.length) (fun j=>l.wells.length - j) 0 (Nat.zero_le _) ?_ ?_
 . (refine Zk ?_ ?_ ?_ rfl rfl<;>dsimp only [Yc,Ze,Zm,Zg,Zo,mpS,mpR,id,go_sem,rA,rM,rS]<;>simp [Yc,Ze,Zm,Zg,Zo,mpS,mpR,Za,Zf,KFR,KFL,KF,Zc,mtO,nbr])
 . intro j hj
   dsimp only [go_sem,rA,rM,rS]
   by_cases hlt:j < l.wells.length
   . refine Zu (by simpa using hlt) ?_
     dsimp only [go_sem,rA,rM,rS]
     refine Zdg (ins:=false) (key:=kI) (val:=B) (L:=mpR j) (k:=(j:Int)) (v:=true) rfl rfl ZiB ZhJ rfl rfl (by simp) ?_
     dsimp only [go_sem,rA,rM,rS]
     rw [(Za7 j).1,(Za7 j).2,Zi (n:=(j:Int)+1) (by omega) (by omega)]
     refine ⟨j+1,hlt,by omega,?_⟩
     (refine Zk ?_ ?_ ?_ rfl rfl<;>dsimp only [Yc,Ze,Zm,Zg,Zo,mpS,mpR,id,go_sem,rA,rM,rS]<;>simp [Yc,Ze,Zm,Zg,Zo,mpS,mpR,Za,Zf,KFR,KFL,KF,Zc,mtO,nbr])
   refine Zx (by simp;omega) ?_
   dsimp only [go_sem,rA,rM,rS]
   have hje:j=l.wells.length:=by omega
   subst hje
   have hmem0:∀ v:Int,0<=v->v < l.wells.length->(XN v (mpR l.wells.length)).isSome=true:=fun v h0 h1=>by
    cases hq:XN v (mpR l.wells.length) with
    | some _=>rfl
    | none =>
     have:=XF.1 hq (v.toNat,v,true) (by simp only [mpR,List.mem_map,List.mem_range];exact ⟨v.toNat,by omega,by simp;omega⟩)
     exact absurd rfl this
   refine Xu (fun _:List Int × List (Nat × Int × Bool)=>[]) (fun q=>[(2,.row 0 1 (q.1.map Zo) 3),(4,.map (mpS kI B q.2) l.wells.length)])
    (fun q=>Dij k l p s day q.1 (fun v=>(XN v q.2).isSome=true)/\MW q.2 l.wells.length/\∀ e ∈ q.2,0<=e.2.1/\e.2.1 < l.wells.length) (fun q=>q.2.length) (d0,mpR l.wells.length)
    ⟨Zmv hgo hmem0,ZyZ _,fun e he=>(by simp only [mpR,List.mem_map,List.mem_range] at he;obtain ⟨i,hi,rfl⟩:=he;simp only;omega)⟩ ?_ ?_
   . (refine Zk ?_ ?_ ?_ rfl rfl<;>dsimp only [Yc,Ze,Zm,Zg,Zo,ZC,Zw,id,go_sem,rA,rM,rS]<;>simp [Yc,Ze,Zm,Zg,Zo,ZC,Zw,Za,Zf,KFR,KFL,KF,Zc,mtO,nbr])
   rintro ⟨d,L⟩ ⟨hD,hM,hb⟩
   simp only at hD hM hb
   have hdl:=hD.g.len
   dsimp only [go_sem,rA,rM,rS]
   refine Zqt rfl rfl ZiB rfl ?_
   dsimp only [go_sem,rA,rM,rS]
   by_cases hL:L=[]
   . subst hL
     refine Zx (by simp [mpS]) ?_
     dsimp only [go_sem,rA,rM,rS]
     have:=hD.done hg (fun v=>by simp [XN]) hd.1 hd.2 (by omega) (by omega)
     rw [this]
   refine Zu (by simp [mpS,List.length_pos_iff.2 hL]) ?_
   dsimp only [go_sem,rA,rM,rS]
   refine ZkD rfl rfl ZiB rfl rfl ?_
   dsimp only [go_sem,rA,rM,rS]
   have hd0:∀ v,0<=dv d v/\dv d v<=100001:=fun v=>⟨by have:=hD.g.lb hg hd.1 hd.2 (by omega) (by omega) v;omega,hD.g.ub v⟩
   refine Xu (fun _:List Nat × Int=>[]) (fun q=>[(5,.cells [I q.2] 3),(6,.it 4 l.wells.length q.1 l.wells.length)])
    (fun q=>(q.2 = -1/\∀ e ∈ L,e.1 ∉ q.1)\/(0<=q.2/\q.2 < l.wells.length/\(XN q.2 L).isSome=true/\∀ e ∈ L,e.1 ∈ q.1->dv d q.2 < dv d e.2.1\/dv d q.2=dv d e.2.1/\q.2<=e.2.1))
    (fun q=>Znc L q.1) ([],-1) (.inl ⟨rfl,by simp⟩) ?_ ?_
   . (refine Zk ?_ ?_ ?_ rfl rfl<;>dsimp only [Yc,Ze,Zm,Zg,Zo,ZC,Zw,id,go_sem,rA,rM,rS]<;>simp [Yc,Ze,Zm,Zg,Zo,ZC,Zw,Za,Zf,KFR,KFL,KF,Zc,mtO,nbr])
   rintro ⟨seen,near⟩ hi
   simp only at hi
   dsimp only [go_sem,rA,rM,rS]
   refine Zsx (key:=kI) (sv:=sI) (val:=B) (L:=L) (c:=l.wells.length) rfl rfl rfl hM.bl (Nat.le_refl _) ZhJ ?_ ?_
   . intro hall
     dsimp only [go_sem,rA,rM,rS]
     refine Zx rfl ?_
     dsimp only [go_sem,rA,rM,rS]
     have hnn:(0<=near/\near < l.wells.length/\(XN near L).isSome=true/\∀ e ∈ L,e.1 ∈ seen->dv d near < dv d e.2.1\/dv d near=dv d e.2.1/\near<=e.2.1):=by
      rcases hi with ⟨_,hi⟩ | hi
      . obtain ⟨e,he⟩:=List.exists_mem_of_ne_nil _ hL
        exact absurd (hall e he) (hi e he)
      . exact hi
     obtain ⟨hn0,hn1,hn2,hn3⟩:=hnn
     have hmin:∀ v:Int,0<=v->v < l.wells.length->(XN v L).isSome=true->dv d near<=dv d v:=fun v _ _ hv=>by
      obtain ⟨y,hy⟩:=Option.isSome_iff_exists.1 hv
      obtain ⟨b,hbm⟩:=Zgg hy
      have:=hn3 _ hbm (hall _ hbm)
      simp only at this;omega
     obtain ⟨m,rfl⟩:∃ m:Nat,near=(m:Int):=⟨near.toNat,by omega⟩
     have hml:m < d.length:=by omega
     refine Zvn (key:=kI) (sv:=sI) (val:=B) (L:=L) (k:=(m:Int)) rfl rfl ZiB ZhJ rfl rfl ?_
     dsimp only [go_sem,rA,rM,rS]
     refine V5 [] (ZdR l p m) rfl rfl rfl ?_ ?_ ?_
     . exact Zc (by simp [Yc,Ze,Zm,Zg,Za,KFL,KF])
     . trivial
     dsimp only [ZcF,Yc,go_sem,rA,rM,rS]
     refine gh Xo ?_
     dsimp only [go_sem,rA,rM,rS]
     refine ⟨b153,fun rec=>?_⟩
     refine y153 ?_
     dsimp only [ZAE,Zzp,go_sem,rA,rM,rS]
     refine Xu (fun q:Nat × List Int=>[(10,I q.1)]) (fun q=>[(2,.row 0 1 (q.2.map Zo) 3)]) (fun q=>q.1<=l.legs.length/\Rnd k l p s day d q.2 m q.1) (fun q=>l.legs.length - q.1) (0,d) ⟨Nat.zero_le _,.start hD.g⟩ ?_ ?_
     . (refine Zk ?_ ?_ ?_ rfl rfl<;>dsimp only [Yc,Ze,Zm,Zg,Zo,ZC,Zw,id,go_sem,rA,rM,rS]<;>simp [Yc,Ze,Zm,Zg,Zo,ZC,Zw,Za,Zf,KFR,KFL,KF,Zc,mtO,nbr])
     rintro ⟨j,d'⟩ ⟨hj,hR⟩
     simp only at hj hR
     have hdl':=hR.g.len
     dsimp only [go_sem,rA,rM,rS]
     simp only [List.length_map]
     by_cases hlt:j < l.legs.length
     . refine Zu (by simpa using hlt) ?_
       dsimp only [go_sem,rA,rM,rS]
       refine Zr j hlt rfl ?_
       dsimp only [Zm,go_sem,rA,rM,rS]
       have hgl:GoodLeg l.legs[j]:=WW hg.land _ (List.getElem_mem _)
       have hends:=hg.ends (List.getElem_mem hlt)
       obtain ⟨wa,hwa⟩:∃ w:Nat,l.legs[j].a=(w:Int):=⟨l.legs[j].a.toNat,by omega⟩
       obtain ⟨wb,hwb⟩:∃ w:Nat,l.legs[j].b=(w:Int):=⟨l.legs[j].b.toNat,by omega⟩
       have hwal:wa < d'.length:=by omega
       have hwbl:wb < d'.length:=by omega
       have hml':m < d'.length:=by omega
       have hxj:l.legs[j]? = some l.legs[j]:=List.getElem?_eq_getElem hlt
       have hin:inR 0 100001 d'[m]=true:=by
        have q1:=hR.g.lb hg hd.1 hd.2 (by omega) (by omega) (m:Int)
        have q2:=hR.g.ub (m:Int)
        rw [WR hml'] at q1 q2
        simp only [inR,decide_eq_true_eq];omega
       by_cases hca:(m:Int)=l.legs[j].a
       . refine Zu (by simpa using hca) ?_
         dsimp only [go_sem,rA,rM,rS]
         refine ⟨rfl,rfl,?_⟩
         simp only [hwb,List.length_map]
         refine UA wb rfl hwbl ?_
         dsimp only [go_sem,rA,rM,rS]
         refine ZcE hwbl ?_
         dsimp only [Zo,go_sem,rA,rM,rS]
         simp only [List.length_map]
         refine UA m rfl hml' ?_
         dsimp only [go_sem,rA,rM,rS]
         refine ZcE hml' ?_
         dsimp only [Zo,go_sem,rA,rM,rS]
         simp only [List.length_map]
         refine UA m rfl hml' ?_
         dsimp only [go_sem,rA,rM,rS]
         refine ZcE hml' ?_
         dsimp only [Zo,go_sem,rA,rM,rS]
         refine call (Vz l p j hlt d'[m] d'[m] hgl hg.pace hin hin) ?_
         dsimp only [go_sem,rA,rM,rS]
         refine ixa (bif k then 1 else 0) hkk' (by cases k<;>decide) ?_
         rw [show nth [I (ZU false l.legs[j] p d'[m]),I (ZU true l.legs[j] p d'[m])] ((bif k then 1 else 0) * 1)=some (I (ZU k l.legs[j] p d'[m])) from by cases k<;>rfl]
         dsimp only [go_sem,rA,rM,rS]
         simp only [List.length_map]
         refine UA wb rfl hwbl ?_
         dsimp only [go_sem,rA,rM,rS]
         refine ZiI (min d'[wb] (ZU k l.legs[j] p d'[m])) hwbl (by simp [Zo]) (by simp [Zo,Zs]) ?_
         dsimp only [go_sem,rA,rM,rS]
         refine ⟨rfl,?_⟩
         refine Zx (by decide) ?_
         dsimp only [go_sem,rA,rM,rS]
         rw [Zi (n:=(j:Int)+1) (by omega) (by omega)]
         have hst:=hR.step hg hxj (w:=wb) (by rw [Zl,if_pos hca.symm,hwb]) hd.1 hd.2 (by omega) (by omega)
         rw [WR hwbl,WR hml'] at hst
         generalize d'.set wb (min d'[wb] (ZU k l.legs[j] p d'[m]))=d2 at hst ⊢
         refine ⟨(j+1,d2),⟨hlt,hst⟩,by simp only;omega,?_⟩
         (refine Zk ?_ ?_ ?_ rfl rfl<;>dsimp only [Yc,Ze,Zm,Zg,Zo,ZC,Zw,id,go_sem,rA,rM,rS]<;>simp [Yc,Ze,Zm,Zg,Zo,ZC,Zw,Za,Zf,KFR,KFL,KF,Zc,mtO,nbr])
       refine Zx (by simpa using hca) ?_
       dsimp only [go_sem,rA,rM,rS]
       by_cases hcb:(m:Int)=l.legs[j].b
       . refine Zu (by simpa using hcb) ?_
         dsimp only [go_sem,rA,rM,rS]
         refine ⟨rfl,rfl,?_⟩
         simp only [hwa,List.length_map]
         refine UA wa rfl hwal ?_
         dsimp only [go_sem,rA,rM,rS]
         refine ZcE hwal ?_
         dsimp only [Zo,go_sem,rA,rM,rS]
         simp only [List.length_map]
         refine UA m rfl hml' ?_
         dsimp only [go_sem,rA,rM,rS]
         refine ZcE hml' ?_
         dsimp only [Zo,go_sem,rA,rM,rS]
         simp only [List.length_map]
         refine UA m rfl hml' ?_
         dsimp only [go_sem,rA,rM,rS]
         refine ZcE hml' ?_
         dsimp only [Zo,go_sem,rA,rM,rS]
         refine call (Vz l p j hlt d'[m] d'[m] hgl hg.pace hin hin) ?_
         dsimp only [go_sem,rA,rM,rS]
         refine ixa (bif k then 1 else 0) hkk' (by cases k<;>decide) ?_
         rw [show nth [I (ZU false l.legs[j] p d'[m]),I (ZU true l.legs[j] p d'[m])] ((bif k then 1 else 0) * 1)=some (I (ZU k l.legs[j] p d'[m])) from by cases k<;>rfl]
         dsimp only [go_sem,rA,rM,rS]
         simp only [List.length_map]
         refine UA wa rfl hwal ?_
         dsimp only [go_sem,rA,rM,rS]
         refine ZiI (min d'[wa] (ZU k l.legs[j] p d'[m])) hwal (by simp [Zo]) (by simp [Zo,Zs]) ?_
         dsimp only [go_sem,rA,rM,rS]
         refine ⟨rfl,?_⟩
         refine Zx (by decide) ?_
         dsimp only [go_sem,rA,rM,rS]
         rw [Zi (n:=(j:Int)+1) (by omega) (by omega)]
         have hst:=hR.step hg hxj (w:=wa) (by rw [Zl,if_neg (fun e=>hca e.symm),if_pos hcb.symm,hwa]) hd.1 hd.2 (by omega) (by omega)
         rw [WR hwal,WR hml'] at hst
         generalize d'.set wa (min d'[wa] (ZU k l.legs[j] p d'[m]))=d2 at hst ⊢
         refine ⟨(j+1,d2),⟨hlt,hst⟩,by simp only;omega,?_⟩
         (refine Zk ?_ ?_ ?_ rfl rfl<;>dsimp only [Yc,Ze,Zm,Zg,Zo,ZC,Zw,id,go_sem,rA,rM,rS]<;>simp [Yc,Ze,Zm,Zg,Zo,ZC,Zw,Za,Zf,KFR,KFL,KF,Zc,mtO,nbr])
       refine Zx (by simpa using hcb) ?_
       dsimp only [go_sem,rA,rM,rS]
       rw [Zi (n:=(j:Int)+1) (by omega) (by omega)]
       refine ⟨(j+1,d'),⟨hlt,hR.skip hxj (by rw [Zl,if_neg (fun e=>hca e.symm),if_neg (fun e=>hcb e.symm)];decide)⟩,by simp only;omega,?_⟩
       (refine Zk ?_ ?_ ?_ rfl rfl<;>dsimp only [Yc,Ze,Zm,Zg,Zo,ZC,Zw,id,go_sem,rA,rM,rS]<;>simp [Yc,Ze,Zm,Zg,Zo,ZC,Zw,Za,Zf,KFR,KFL,KF,Zc,mtO,nbr])
     refine Zx (by simp;omega) ?_
     dsimp only [go_sem,rA,rM,rS]
     have hje:j=l.legs.length:=by omega
     subst hje
     have hfin:=Rnd.finish (left':=fun v=>(XN v (UP (m:Int) L)).isSome=true) hD hR hn2 hn0 hn1 hmin (fun v=>by
      rw [ZgP hM.kn]
      by_cases hv:v=(m:Int)
      . simp [hv]
      . simp [hv]) hg
     refine ⟨(d',UP (m:Int) L),⟨hfin,hM.del,fun e he=>hb e (Ux.subset he)⟩,by simp only;have:=ZgO hn2;omega,?_⟩
     (refine Zk ?_ ?_ ?_ rfl rfl<;>dsimp only [Yc,Ze,Zm,Zg,Zo,ZC,Zw,id,go_sem,rA,rM,rS]<;>simp [Yc,Ze,Zm,Zg,Zo,ZC,Zw,Za,Zf,KFR,KFL,KF,Zc,mtO,nbr])
   intro e he hse
   dsimp only [go_sem,rA,rM,rS]
   refine Zu rfl ?_
   dsimp only [go_sem,rA,rM,rS]
   refine Zls (key:=kI) (sv:=sI) (val:=B) (L:=L) (c:=l.wells.length) (e:=e) rfl rfl rfl he hM.bn ZhJ ?_
   dsimp only [go_sem,rA,rM,rS]
   have hbe:=hb e he
   have hget:=Zi2 hM.kn he
   obtain ⟨m,hm⟩:∃ m:Nat,e.2.1=(m:Int):=⟨e.2.1.toNat,by omega⟩
   rw [hm] at hbe hget
   simp only [hm]
   have hml:m < d.length:=by omega
   have hmeas:=ZpR he hse
   have hnl:near.toNat < d.length:=by rcases hi with ⟨rfl,_⟩ | ⟨_,_,_⟩<;>omega
   refine gb ?_
   dsimp only [go_sem,rA,rM,rS]
   refine gb ?_
   dsimp only [go_sem,rA,rM,rS]
   refine gb ?_
   dsimp only [go_sem,rA,rM,rS]
   simp only [List.length_map]
   refine UA m rfl hml ?_
   dsimp only [go_sem,rA,rM,rS]
   refine gb ?_
   dsimp only [go_sem,rA,rM,rS]
   refine ZcE hml ?_
   dsimp only [Zo,go_sem,rA,rM,rS]
   refine gb ?_
   dsimp only [go_sem,rA,rM,rS]
   refine gb ?_
   dsimp only [go_sem,rA,rM,rS]
   refine gb ?_
   dsimp only [go_sem,rA,rM,rS]
   simp only [List.length_map]
   refine ZsH near.toNat rfl (fun h=>⟨by simp at h;omega,hnl⟩) ?_
   dsimp only [go_sem,rA,rM,rS]
   refine gb ?_
   dsimp only [go_sem,rA,rM,rS]
   refine ZcE hnl ?_
   dsimp only [Zo,go_sem,rA,rM,rS]
   refine gb ?_
   dsimp only [go_sem,rA,rM,rS]
   refine gb ?_
   dsimp only [go_sem,rA,rM,rS]
   refine gb ?_
   dsimp only [go_sem,rA,rM,rS]
   refine gb ?_
   dsimp only [go_sem,rA,rM,rS]
   simp only [List.length_map]
   refine UA m rfl hml ?_
   dsimp only [go_sem,rA,rM,rS]
   refine gb ?_
   dsimp only [go_sem,rA,rM,rS]
   refine ZcE hml ?_
   dsimp only [Zo,go_sem,rA,rM,rS]
   refine gb ?_
   dsimp only [go_sem,rA,rM,rS]
   refine gb ?_
   dsimp only [go_sem,rA,rM,rS]
   refine gb ?_
   dsimp only [go_sem,rA,rM,rS]
   simp only [List.length_map]
   refine ZsH near.toNat rfl (fun h=>⟨by simp at h;omega,hnl⟩) ?_
   dsimp only [go_sem,rA,rM,rS]
   refine gb ?_
   dsimp only [go_sem,rA,rM,rS]
   refine ZcE hnl ?_
   dsimp only [Zo,go_sem,rA,rM,rS]
   repeat (refine gb ?_;dsimp only [go_sem,rA,rM,rS])
   have hdm:dv d (m:Int)=d[m]:=WR hml
   have hdn:0<=near->dv d near=d[near.toNat]:=fun h=>by
    have:=WR hnl;rw [<- this];congr 1;omega
   have hse':∀ e' ∈ L,e'.1 ∈ seen ++ [e.1]->e'.1 ∈ seen\/e'.2.1=m:=fun e' he' h=>by
    rcases List.mem_append.1 h with h | h
    . exact .inl h
    . refine .inr ?_
      simp only [List.mem_singleton] at h
      have:e'=e:=ZeO hM.bn he' he h
      rw [this,hm]
   refine br ?_ ?_
   . intro hA
     dsimp only [go_sem,rA,rM,rS]
     refine ⟨(seen ++ [e.1],m),.inr ⟨by simp only;omega,by simp only;omega,by simp only;rw [hget];rfl,fun e' he' h=>?_⟩,hmeas,?_⟩
     . simp only [hdm]
       rcases hse' e' he' h with h | h
       . rcases hi with ⟨rfl,hi⟩ | ⟨hn0,hn1,hn2,hi⟩
         . exact absurd h (hi e' he')
         . have:=hi e' he' h
           rw [hdn hn0] at this
           simp only [Bool.or_eq_true,Bool.and_eq_true,decide_eq_true_eq,beq_iff_eq] at hA
           omega
       . rw [h,hdm];omega
     (refine Zk ?_ ?_ ?_ rfl rfl<;>dsimp only [Yc,Ze,Zm,Zg,Zo,ZC,Zw,id,go_sem,rA,rM,rS]<;>simp [Yc,Ze,Zm,Zg,Zo,ZC,Zw,Za,Zf,KFR,KFL,KF,Zc,mtO,nbr])
   . intro hA
     dsimp only [go_sem,rA,rM,rS]
     simp only [Bool.or_eq_false_iff,Bool.and_eq_false_iff,decide_eq_false_iff_not,beq_eq_false_iff_ne] at hA
     refine ⟨(seen ++ [e.1],near),.inr ?_,hmeas,?_⟩
     . rcases hi with ⟨rfl,hi⟩ | ⟨hn0,hn1,hn2,hi⟩
       . omega
       . refine ⟨hn0,hn1,hn2,fun e' he' h=>?_⟩
         simp only [hdn hn0]
         rcases hse' e' he' h with h | h
         . have:=hi e' he' h;rw [hdn hn0] at this;exact this
         . rw [h,hdm];omega
     (refine Zk ?_ ?_ ?_ rfl rfl<;>dsimp only [Yc,Ze,Zm,Zg,Zo,ZC,Zw,id,go_sem,rA,rM,rS]<;>simp [Yc,Ze,Zm,Zg,Zo,ZC,Zw,Za,Zf,KFR,KFL,KF,Zc,mtO,nbr])
end Go.Proofs.YtiigiflofnjilaaGreat
namespace Go.Azalai
noncomputable def Xt (l:Land) (p:Span) (s day:Int):List Span:=List.zipWith Span.mk (Wt false l p s day) (Wt true l p s day)
def Wh (l:Land) (p:Span) (s day:Int):Int:=if Zay l p≠0 then Zay l p else if (inR 0 (l.wells.length - 1) s && inR 0 100000 day)=false then 2 else 0
theorem VT {k:Bool} {l:Land} {p:Span} {s day:Int}:(Wt k l p s day).length=l.wells.length:=by simp [Wt]
theorem WG {l:Land} {p:Span} {s day:Int}:(Xt l p s day).length=l.wells.length:=by simp [Xt,VT]
theorem Zl1 {l:Land} {p:Span} (h:Zay l p=0):OkLP l p:=by
 unfold Zay at h
 split at h
 . omega
 . split at h
   . omega
   . rename_i h1 h2;exact ⟨by simpa using h1,by simpa using h2⟩
end Go.Azalai
namespace Go.Proofs.YtiigiflofnjilaaGreat
open Go Go.Sx Go.Azalai
theorem Yj {xs:List (List SV)} {n:Nat} (h:KFR xs):KFR (xs.take n):=by
 induction xs generalizing n with
 | nil=>simpa using h
 | cons x l ih=>cases n with
  | zero=>simp [KFR]
  | succ n=>simp only [List.take_succ_cons,KFR] at h ⊢;exact ⟨h.1,ih h.2⟩
def XQ (e:Int) (m:Nat) (xs:List (List SV)):SV:=if e=0 then .sl false m xs else .v (.slice none 0 0)
theorem Zeo (l:Land) (hs:WM l) (s day:Int) (p:Span):Ct Tryz.prog 52 [.agg (ZY l),I s,I day,.agg (Zd p)] (.tup [XQ (Wh l p s day) 2 ((Xt l p s day).map Zd),I (Wh l p s day)]):=by
 have hw:=hs.1
 refine t52.1 (by simp [ZY,Ze,Zm,Zg,Zd,Za,KFL,KF]) (by unfold XQ;split<;>simp [KFL,KF,Za,Zd]) ?_
 dsimp only [c52,r52,ZY,Zd,go_sem,rA,rM,rS]
 by_cases ha:Zay l p=0
 case neg =>
  refine call (Zbd l hs p ha) ?_
  dsimp only [go_sem,rA,rM,rS]
  refine Zu (by simpa using ha) ?_
  dsimp only [go_sem,rA,rM,rS]
  simp [Wh,ha,XQ]
 have hok:=Zl1 ha
 refine call (Zdw l hs p ha) ?_
 dsimp only [Yc,go_sem,rA,rM,rS]
 refine Zx (by decide) ?_
 dsimp only [go_sem,rA,rM,rS]
 simp only [List.length_map]
 have h1:=VK hok.land
 rw [Zi (n:=(l.wells.length:Int) - 1) (by omega) (by omega)]
 refine call (Zas 0 (l.wells.length - 1) s true) ?_
 dsimp only [go_sem,rA,rM,rS]
 repeat (first | (refine gb ?_;dsimp only [go_sem,rA,rM,rS]) | (refine call (Zas 0 100000 day true) ?_;dsimp only [go_sem,rA,rM,rS]))
 by_cases hr:(inR 0 (l.wells.length - 1) s && inR 0 100000 day)=true
 case neg =>
  refine Zu (by simpa [Bool.and_eq_true,<- Bool.not_and] using hr) ?_
  dsimp only [go_sem,rA,rM,rS]
  simp [Wh,ha,XQ,hr]
 refine Zx (by simpa [<- Bool.not_and] using hr) ?_
 dsimp only [go_sem,rA,rM,rS]
 have he:Wh l p s day=0:=by simp [Wh,ha,hr]
 rw [he]
 simp only [Bool.and_eq_true] at hr
 obtain ⟨hr1,hr2⟩:=hr
 obtain ⟨s0,hs0,rfl⟩:∃ s0:Nat,s0 < l.wells.length/\s=(s0:Int):=by
  simp only [inR,decide_eq_true_eq] at hr1
  exact ⟨s.toNat,by omega,by omega⟩
 refine call (Zf8 l p hs hok s0 hs0 day hr2 true) ?_
 dsimp only [go_sem,rA,rM,rS]
 refine call (Zf8 l p hs hok s0 hs0 day hr2 false) ?_
 dsimp only [go_sem,rA,rM,rS]
 simp only [List.length_map,VT]
 refine Zd5 (Y7 12 2 27 rfl rfl) (fun q:Nat × Nat=>[(50,I q.1),(12,.mr 3 q.2)]) (fun q=>[(3,.row q.2 2 (((Xt l p s0 day).take q.1).map Zd) 27)]) (fun q=>q.1<=l.wells.length) (fun q=>l.wells.length - q.1) (0,0) (Nat.zero_le _) ?_ ?_
 . (refine Zk ?_ ?_ ?_ rfl rfl<;>dsimp only [Zd,Ze,Zm,Zg,Zo,Yj,id,go_sem,rA,rM,rS]<;>simp [Zd,Ze,Zm,Zg,Zo,Yj,Za,Zf,KFR,KFL,KF,Zc,mtO,nbr])
 rintro ⟨j,v⟩ hj
 simp only at hj
 dsimp only [go_sem,rA,rM,rS]
 by_cases hlt:j < l.wells.length
 . refine Zu (by simpa using hlt) ?_
   dsimp only [go_sem,rA,rM,rS]
   have hf0:j < (Wt false l p s0 day).length:=by rw [VT];exact hlt
   have hf1:j < (Wt true l p s0 day).length:=by rw [VT];exact hlt
   refine Zr j hf0 rfl ?_
   dsimp only [Zo,go_sem,rA,rM,rS]
   refine Zr j hf1 rfl ?_
   dsimp only [Zo,go_sem,rA,rM,rS]
   simp only [nbr]
   dsimp only [go_sem,rA,rM,rS]
   have hlen:(((Xt l p s0 day).take j).map Zd).length=j:=by simp [WG];omega
   refine ⟨(by intro c hc;simp only [List.mem_singleton] at hc;subst hc;rfl),by simp only [List.length_append,hlen,List.length_singleton];omega,?_⟩
   dsimp only [go_sem,rA,rM,rS]
   rw [Zi (n:=(j:Int)+1) (by omega) (by omega)]
   have hjl:j < (Xt l p s0 day).length:=by rw [WG];exact hlt
   have e:((Xt l p s0 day).take j).map Zd ++ [[SV.v (.int .i64 (Wt false l p s0 day)[j]),SV.v (.int .i64 (Wt true l p s0 day)[j])]]=((Xt l p s0 day).take (j+1)).map Zd:=by
    rw [List.take_succ_eq_append_getElem hjl,List.map_append]
    simp [Xt,Zd]
   rw [e]
   refine ⟨(j+1,v+1),hlt,by simp only;omega,?_⟩
   (refine Zk ?_ ?_ ?_ rfl rfl<;>dsimp only [Zd,Ze,Zm,Zg,Zo,Yj,id,go_sem,rA,rM,rS]<;>simp [Zd,Ze,Zm,Zg,Zo,Yj,Za,Zf,KFR,KFL,KF,Zc,mtO,nbr])
 refine Zx (by simp;omega) ?_
 dsimp only [go_sem,rA,rM,rS]
 have hje:j=l.wells.length:=by omega
 subst hje
 have:(Xt l p s0 day).take l.wells.length=Xt l p s0 day:=List.take_of_length_le (by rw [WG];exact Nat.le_refl _)
 rw [this]
 simp [XQ,vwN]
end Go.Proofs.YtiigiflofnjilaaGreat
namespace Go.Azalai
def ZiO (S:List Span):List Int:=S.map (·.lo)
def Zmt (S:List Span):List Int:=S.map (·.hi)
def ZAw (p:Span) (S:List Span) (x:Leg) (v:Int):Prop:=0<=Zl x v->dv (ZiO S) (Zl x v)<=ZU false x p (dv (ZiO S) v)/\dv (Zmt S) (Zl x v)<=ZU true x p (dv (Zmt S) v)
def ZBv (S:List Span):Nat:=(S.map fun s=>s.lo.toNat+s.hi.toNat).sum
def ZyM (x:Leg) (c:Nat):Int:=if c % 2=0 then x.a else x.b
structure RI (l:Land) (p:Span) (s day:Int) (S0 S:List Span) (ch:Bool) (c:Nat):Prop where
 g0:Gone false l p s day (ZiO S)
 g1:Gone true l p s day (Zmt S)
 le:ZBv S<=ZBv S0
 dec:ch=true->ZBv S < ZBv S0
 same:ch=false->S=S0/\∀ c' x,c' < c->l.legs[c' / 2]? = some x->ZAw p S0 x (ZyM x c')
theorem RI.start {l:Land} {p:Span} {s day:Int} {S:List Span} (h0:Gone false l p s day (ZiO S)) (h1:Gone true l p s day (Zmt S)):RI l p s day S S false 0 :=
 ⟨h0,h1,Nat.le_refl _,fun h=>(by cases h),fun _=>⟨rfl,fun c' x h=>absurd h (Nat.not_lt_zero _)⟩⟩
theorem RI.len {l:Land} {p:Span} {s day:Int} {S0 S:List Span} {ch:Bool} {c:Nat} (h:RI l p s day S0 S ch c):S.length=l.wells.length:=by have:=h.g0.len;simpa [ZiO] using this
theorem ZsN {S:List Span} {i:Nat} (h:i < S.length):dv (ZiO S) i=S[i].lo/\dv (Zmt S) i=S[i].hi:=by
 constructor
 . rw [WR (by simpa [ZiO] using h)];simp [ZiO]
 . rw [WR (by simpa [Zmt] using h)];simp [Zmt]
theorem RI.in {l:Land} {p:Span} {s day:Int} {S0 S:List Span} {ch:Bool} {c:Nat} (h:RI l p s day S0 S ch c) (hg:OkLP l p) (hd:0<=day) (hd':day<=100000) (h0:0<=s) (h1:s < l.wells.length) {i:Nat} (hi:i < S.length) :
 (0<=S[i].lo/\S[i].lo<=100001)/\0<=S[i].hi/\S[i].hi<=100001:=by
 have q:=ZsN hi
 have a1:=h.g0.lb hg hd hd' h0 h1 i
 have a2:=h.g0.ub i
 have b1:=h.g1.lb hg hd hd' h0 h1 i
 have b2:=h.g1.ub i
 omega
theorem RI.done {l:Land} {p:Span} {s day:Int} {S0 S:List Span} {c:Nat} (h:RI l p s day S0 S false c) (hc:2 * l.legs.length<=c) (hg:OkLP l p) (hd:0<=day) (hd':day<=100000) (h0:0<=s) (h1:s < l.wells.length):S=Xt l p s day:=by
 obtain ⟨q1,q2⟩:=h.same rfl
 subst q1
 have hcl:∀ x ∈ l.legs,(dv (ZiO S) x.b<=ZU false x p (dv (ZiO S) x.a)/\dv (ZiO S) x.a<=ZU false x p (dv (ZiO S) x.b))/\(dv (Zmt S) x.b<=ZU true x p (dv (Zmt S) x.a)/\dv (Zmt S) x.a<=ZU true x p (dv (Zmt S) x.b)):=fun x hx=>by
  obtain ⟨i,hi⟩:=List.mem_iff_getElem?.1 hx
  have hil:i < l.legs.length:=(List.getElem?_eq_some_iff.1 hi).1
  have hen:=hg.ends hx
  have k1:=q2 (2 * i) x (by omega) (by rw [show 2 * i / 2=i by omega];exact hi)
  have k2:=q2 (2 * i+1) x (by omega) (by rw [show (2 * i+1) / 2=i by omega];exact hi)
  simp only [ZAw,ZyM,show 2 * i % 2=0 by omega,show ¬ (2 * i+1) % 2=0 by omega,if_true,if_false,Zl,if_neg hen.2.2] at k1 k2
  have m1:=k1 hen.2.1.1
  have m2:=k2 hen.1.1
  exact ⟨⟨m1.1,m2.1⟩,⟨m1.2,m2.2⟩⟩
 have e0:=Zbb (k:=false) hg hd hd' h0 h1 h.g0.st (fun x hx=>(hcl x hx).1) h.g0.ub h.g0.real
 have e1:=Zbb (k:=true) hg hd hd' h0 h1 h.g1.st (fun x hx=>(hcl x hx).2) h.g1.ub h.g1.real
 have hl:=h.len
 refine List.ext_getElem (by rw [hl,WG]) fun i hi hi'=>?_
 have d:=ZsN hi
 simp only [Xt,List.getElem_zipWith,Wt,List.getElem_map,List.getElem_range]
 rw [<- e0,<- e1,d.1,d.2]
theorem RI.again {l:Land} {p:Span} {s day:Int} {S0 S:List Span} {ch:Bool} {c:Nat} (h:RI l p s day S0 S ch c):RI l p s day S S false 0:=.start h.g0 h.g1
open Go.Sx
def Vr:List Nat->List Nat->Bool
 | [],[]=>false
 | [],_ :: _=>true
 | _ :: _,[]=>false
 | x :: a,y :: b=>decide (x < y) || (x == y && Vr a b)
theorem WX:∀ a:List Nat,Vr a a=false
 | []=>rfl
 | x :: a=>by simp [Vr,WX a]
theorem Zgs:∀ {a b:List Nat},Vr a b=false->Vr b a=false->a=b
 | [],[],_,_=>rfl
 | [],_ :: _,h,_=>by simp [Vr] at h
 | _ :: _,[],_,h=>by simp [Vr] at h
 | x :: a,y :: b,h,h'=>by
  simp only [Vr,Bool.or_eq_false_iff,decide_eq_false_iff_not,Bool.and_eq_false_iff,beq_eq_false_iff_ne] at h h'
  have hxy:x=y:=by omega
  subst hxy
  rw [Zgs (a:=a) (b:=b) (by simpa using h.2) (by simpa using h'.2)]
theorem WL:∀ {a b c:List Nat},Vr a b=true->Vr b c=true->Vr a c=true
 | [],[],_,h,_=>by simp [Vr] at h
 | [],_ :: _,[],_,h=>by simp [Vr] at h
 | [],_ :: _,_ :: _,_,_=>rfl
 | _ :: _,[],_,h,_=>by simp [Vr] at h
 | _ :: _,_ :: _,[],_,h=>by simp [Vr] at h
 | x :: a,y :: b,z :: c,h,h'=>by
  simp only [Vr,Bool.or_eq_true,decide_eq_true_eq,Bool.and_eq_true,beq_iff_eq] at h h' ⊢
  rcases h with h | ⟨rfl,h⟩
  . rcases h' with h' | ⟨rfl,h'⟩
    . exact .inl (by omega)
    . exact .inl h
  . rcases h' with h' | ⟨rfl,h'⟩
    . exact .inl h'
    . exact .inr ⟨rfl,WL h h'⟩
theorem Zba:∀ {a b c d:List Nat},a.length=b.length->Vr (a ++ c) (b ++ d)=(Vr a b || (decide (a=b) && Vr c d))
 | [],[],c,d,_=>by simp [Vr]
 | x :: a,y :: b,c,d,h=>by
  rw [List.cons_append,List.cons_append,Vr,Vr,Zba (a:=a) (b:=b) (c:=c) (d:=d) (by simpa using h)]
  by_cases hxy:x=y
  . subst hxy;simp
  . have hb:(x == y)=false:=beq_eq_false_iff_ne.2 hxy
    have hc:decide (x :: a=y :: b)=false:=by simp [hxy]
    rw [hb,hc];simp
 | [],_ :: _,_,_,h=>by simp at h
 | _ :: _,[],_,_,h=>by simp at h
def ZzM (W:List Nat->Prop) (a:List Nat):Prop:=W a/\∀ b,W b->Vr b a=false
theorem ZzM.congr {W W':List Nat->Prop} {a:List Nat} (h:ZzM W a) (hw:∀ b,W' b↔W b):ZzM W' a:=⟨(hw a).2 h.1,fun b hb=>h.2 b ((hw b).1 hb)⟩
def Zky (l:Land) (p:Span) (s day:Int) (n:Nat) (q:Int × Int) (a:List Nat):Prop:=a.length=n/\goW true l p s day a=some q
theorem ZgR {l:Land} {p:Span} {s day:Int} {a:List Nat} {i:Nat} {q:Int × Int} (h:goW true l p s day (a ++ [i])=some q) :
 ∃ u x,goW true l p s day a=some u/\l.legs[i]? = some x/\0<=Zl x u.1/\ZU true x p u.2<=100000/\q=(Zl x u.1,ZU true x p u.2):=by
 rw [Zbu] at h
 cases hu:goW true l p s day a with
 | none=>rw [hu] at h;simp at h
 | some u =>
  rw [hu] at h
  simp only [Option.bind_some,goW] at h
  cases hx:l.legs[i]? with
  | none=>rw [hx] at h;cases h
  | some x =>
   rw [hx] at h
   simp only at h
   split at h
   . cases h
   . split at h
     . cases h
     . exact ⟨u,x,rfl,rfl,by omega,by omega,by injection h with h;exact h.symm⟩
def Cand (l:Land) (p:Span) (G:Int) (L:Int × Int->Option (List Nat)) (done:Int × Int->Nat->Prop) (q:Int × Int) (a:List Nat):Prop :=
 ∃ u w i x,L u=some w/\done u i/\l.legs[i]? = some x/\0<=Zl x u.1/\ZU true x p u.2<=G/\q=(Zl x u.1,ZU true x p u.2)/\a=w ++ [i]
def Zdt (W:List Nat->Prop):Option (List Nat)->Prop
 | none=>∀ a,¬ W a
 | some a=>ZzM W a
theorem Zdt.congr {W W':List Nat->Prop} {o:Option (List Nat)} (h:Zdt W o) (hw:∀ b,W' b↔W b):Zdt W' o:=by
 cases o with
 | none=>exact fun a ha=>h a ((hw a).1 ha)
 | some a=>exact ZzM.congr h hw
def ZvK (c:List Nat):Option (List Nat)->Option (List Nat)
 | none=>some c
 | some d=>if Vr c d=true then some c else some d
theorem Zdt.more {W W':List Nat->Prop} {o:Option (List Nat)} {c:List Nat} (h:Zdt W o) (hw:∀ b,W' b↔W b\/b=c) :
 Zdt W' (ZvK c o):=by
 cases o with
 | none=>exact ⟨(hw c).2 (.inr rfl),fun b hb=>by
  rcases (hw b).1 hb with hb | rfl
  . exact absurd hb (h b)
  . exact WX _⟩
 | some d =>
  simp only [ZvK]
  split
  . rename_i hcd
    refine ⟨(hw c).2 (.inr rfl),fun b hb=>?_⟩
    rcases (hw b).1 hb with hb | rfl
    . cases hq:Vr b c with
      | false=>rfl
      | true=>have:=WL hq hcd;rw [h.2 b hb] at this;cases this
    . exact WX _
  . rename_i hcd
    refine ⟨(hw d).2 (.inl h.1),fun b hb=>?_⟩
    rcases (hw b).1 hb with hb | rfl
    . exact h.2 b hb
    . simpa using hcd
def Nxt (l:Land) (p:Span) (G:Int) (L N:Int × Int->Option (List Nat)) (done:Int × Int->Nat->Prop):Prop:=∀ q,Zdt (Cand l p G L done q) (N q)
theorem Nxt.congr {l:Land} {p:Span} {G:Int} {L N N':Int × Int->Option (List Nat)} {done done':Int × Int->Nat->Prop} (h:Nxt l p G L N done) (hN:∀ q,N' q=N q) (hd:∀ u w i,L u=some w->i < l.legs.length->(done' u i↔done u i)):Nxt l p G L N' done':=fun q=>by
 rw [hN]
 refine (h q).congr fun b=>⟨?_,?_⟩
 . rintro ⟨u,w,i,x,h1,h2,h3⟩;exact ⟨u,w,i,x,h1,(hd u w i h1 (List.getElem?_eq_some_iff.1 h3.1).1).1 h2,h3⟩
 . rintro ⟨u,w,i,x,h1,h2,h3⟩;exact ⟨u,w,i,x,h1,(hd u w i h1 (List.getElem?_eq_some_iff.1 h3.1).1).2 h2,h3⟩
theorem Nxt.start {l:Land} {p:Span} {G:Int} {L N:Int × Int->Option (List Nat)} (hN:∀ q,N q=none):Nxt l p G L N (fun _ _=>False):=fun q=>by
 rw [hN];rintro a ⟨_,_,_,_,_,h,_⟩;exact h
theorem Nxt.skip {l:Land} {p:Span} {G:Int} {L N:Int × Int->Option (List Nat)} {done:Int × Int->Nat->Prop} (h:Nxt l p G L N done) {u:Int × Int} {i:Nat} {x:Leg} (hx:l.legs[i]? = some x) (hn:¬ (0<=Zl x u.1/\ZU true x p u.2<=G)) :
 Nxt l p G L N (fun u' i'=>done u' i'\/u'=u/\i'=i):=fun q=>(h q).congr fun b=>⟨by
  rintro ⟨u',w,i',x',h1,h2,h3,h4,h5,h6⟩
  rcases h2 with h2 | ⟨rfl,rfl⟩
  . exact ⟨u',w,i',x',h1,h2,h3,h4,h5,h6⟩
  . rw [hx] at h3;cases h3;exact absurd ⟨h4,h5⟩ hn,by
  rintro ⟨u',w,i',x',h1,h2,h3⟩;exact ⟨u',w,i',x',h1,.inl h2,h3⟩⟩
theorem Nxt.step {l:Land} {p:Span} {G:Int} {L N N':Int × Int->Option (List Nat)} {done:Int × Int->Nat->Prop} (h:Nxt l p G L N done) {u:Int × Int} {w:List Nat} {i:Nat} {x:Leg} (hL:L u=some w) (hx:l.legs[i]? = some x) (h0:0<=Zl x u.1) (h1:ZU true x p u.2<=G)
 (hN:∀ q,N' q=if q=(Zl x u.1,ZU true x p u.2) then ZvK (w ++ [i]) (N q) else N q) :
 Nxt l p G L N' (fun u' i'=>done u' i'\/u'=u/\i'=i):=fun q=>by
 rw [hN]
 by_cases hq:q=(Zl x u.1,ZU true x p u.2)
 . rw [if_pos hq]
   refine Zdt.more (h q) fun b=>⟨?_,?_⟩
   . rintro ⟨u',w',i',x',k1,k2,k3,k4,k5,k6,k7⟩
     rcases k2 with k2 | ⟨rfl,rfl⟩
     . exact .inl ⟨u',w',i',x',k1,k2,k3,k4,k5,k6,k7⟩
     . rw [hL] at k1;cases k1;exact .inr k7
   . rintro (⟨u',w',i',x',k1,k2,k3⟩ | rfl)
     . exact ⟨u',w',i',x',k1,.inl k2,k3⟩
     . exact ⟨u,w,i,x,hL,.inr ⟨rfl,rfl⟩,hx,h0,h1,hq,rfl⟩
 . rw [if_neg hq]
   refine (h q).congr fun b=>⟨?_,?_⟩
   . rintro ⟨u',w',i',x',k1,k2,k3,k4,k5,k6,k7⟩
     rcases k2 with k2 | ⟨rfl,rfl⟩
     . exact ⟨u',w',i',x',k1,k2,k3,k4,k5,k6,k7⟩
     . rw [hx] at k3;cases k3;exact absurd k6 hq
   . rintro ⟨u',w',i',x',k1,k2,k3⟩
     exact ⟨u',w',i',x',k1,.inl k2,k3⟩
def Rd (l:Land) (p:Span) (s day G:Int) (n:Nat) (L:Int × Int->Option (List Nat)):Prop:=∀ q,Zdt (fun a=>q.2<=G/\Zky l p s day n q a) (L q)
theorem Rd.start {l:Land} {p:Span} {s day G:Int} {L:Int × Int->Option (List Nat)} (hG:day<=G) (hL:∀ q,L q=if q=(s,day) then some [] else none):Rd l p s day G 0 L:=fun q=>by
 rw [hL]
 split
 . rename_i hq
   subst hq
   exact ⟨⟨hG,rfl,rfl⟩,fun b hb=>by rw [List.eq_nil_of_length_eq_zero hb.2.1];rfl⟩
 . rename_i hq
   rintro a ⟨_,h1,h2⟩
   rw [List.eq_nil_of_length_eq_zero h1] at h2
   simp only [goW,Option.some.injEq] at h2
   exact hq h2.symm
theorem Rd.next {l:Land} {p:Span} {s day G:Int} {n:Nat} {L N:Int × Int->Option (List Nat)} {done:Int × Int->Nat->Prop} (hg:OkLP l p) (h:Rd l p s day G n L) (hN:Nxt l p G L N done) (hd:∀ u w i,L u=some w->i < l.legs.length->done u i) (hG:G<=100000)
 (hd':day<=100000) (h0:0<=s) (h1:s < l.wells.length):Rd l p s day G (n+1) N:=fun q=>by
 have hq:=hN q
 have one:∀ a,Cand l p G L done q a->q.2<=G/\Zky l p s day (n+1) q a:=by
  rintro a ⟨u,w,i,x,k1,_,k3,k4,k5,rfl,rfl⟩
  have:=h u
  rw [k1] at this
  obtain ⟨⟨g1,g2,g3⟩,_⟩:=this
  exact ⟨k5,by simp [g2],ZaY (v:=u.1) (u:=u.2) g3 k3 (by omega) (by omega)⟩
 have two:∀ b,(q.2<=G/\Zky l p s day (n+1) q b)->∃ a,Cand l p G L done q a/\Vr b a=false:=by
  rintro b ⟨k1,k2,k3⟩
  obtain ⟨c,i,rfl⟩:∃ c i,b=c ++ [i]:=by
   rcases List.eq_nil_or_concat b with rfl | ⟨c,i,rfl⟩
   . simp at k2
   . exact ⟨c,i,by simp⟩
  obtain ⟨u,x,g1,g2,g3,g4,g5⟩:=ZgR k3
  have hub:=V7 hg (v':=u.1) (t':=u.2) g1 hd' h0 h1
  have hge:=Zbj (k:=true) (t:=u.2) (hg.leg g2) hg.pace (by omega)
  have hq2:q.2=ZU true x p u.2:=by rw [g5]
  have hu:=h u
  cases hLu:L u with
  | none=>rw [hLu] at hu;exact absurd ⟨by omega,by simpa using k2,g1⟩ (hu c)
  | some w =>
   rw [hLu] at hu
   have hlen:c.length=w.length:=by rw [hu.1.2.1];simpa using k2
   refine ⟨w ++ [i],⟨u,w,i,x,hLu,hd u w i hLu (List.getElem?_eq_some_iff.1 g2).1,g2,g3,by omega,g5,rfl⟩,?_⟩
   rw [Zba hlen,hu.2 c ⟨by omega,by simpa using k2,g1⟩]
   simp [Vr]
 cases hNq:N q with
 | none =>
  rw [hNq] at hq
  intro b hb
  obtain ⟨a,ha,_⟩:=two b hb
  exact hq a ha
 | some a =>
  rw [hNq] at hq
  refine ⟨one a hq.1,fun b hb=>?_⟩
  obtain ⟨c,hc,hbc⟩:=two b hb
  cases hba:Vr b a with
  | false=>rfl
  | true =>
   have hca:=hq.2 c hc
   cases hcb:Vr c b with
   | true=>have:=WL hcb hba;rw [hca] at this;cases this
   | false=>rw [Zgs hbc hcb,hca] at hba;cases hba
def ZsS (l:Land) (p:Span) (s to day:Int) (a:List Nat):Prop :=
 goW true l p s day a=some (to,YV true l p s day to)/\∀ b,goW true l p s day b=some (to,YV true l p s day to)->a.length < b.length\/(a.length=b.length/\Vr b a=false)
theorem Rd.sure {l:Land} {p:Span} {s to day G:Int} {n:Nat} {L:Int × Int->Option (List Nat)} {a:List Nat} (h:Rd l p s day G n L) (hG:G=YV true l p s day to) (hL:L (to,G)=some a) (hm:∀ m,m < n->∀ b,¬ Zky l p s day m (to,G) b):ZsS l p s to day a:=by
 subst hG
 have hq:=h (to,YV true l p s day to)
 rw [hL] at hq
 refine ⟨hq.1.2.2,fun b hb=>?_⟩
 by_cases hlt:b.length < n
 . exact absurd ⟨rfl,hb⟩ (hm b.length hlt b)
 . have hn:=hq.1.2.1
   by_cases he:b.length=n
   . exact .inr ⟨by omega,hq.2 b ⟨Int.le_refl _,he,hb⟩⟩
   . exact .inl (by omega)
theorem Rd.not {l:Land} {p:Span} {s to day G:Int} {n:Nat} {L:Int × Int->Option (List Nat)} (h:Rd l p s day G n L) (hL:L (to,G)=none) (hm:∀ m,m < n->∀ b,¬ Zky l p s day m (to,G) b):∀ m,m < n+1->∀ b,¬ Zky l p s day m (to,G) b:=fun m hmn b hb=>by
 by_cases he:m=n
 . subst he
   have:=h (to,G)
   rw [hL] at this
   exact this b ⟨Int.le_refl _,hb⟩
 . exact hm m (by omega) b hb
open Classical in
noncomputable def Xg (l:Land) (p:Span) (v t:Int) (n:Nat) (w:Int):Int :=
 if h:∃ m:Nat,∃ a,Zky l p v t n (w,(m:Int)) a then ((Go.Sx.least_ex _ h).choose:Int) else 100001
theorem VB {l:Land} {p:Span} (h:OkLP l p) {v t w u:Int} {n:Nat} {a:List Nat} (e:Zky l p v t n (w,u) a) (ht:0<=t) (ht':t<=100000) (h0:0<=v) (h1:v < l.wells.length):Xg l p v t n w<=u:=by
 have hb:=V7 h e.2 ht' h0 h1
 have eu:((u.toNat:Nat):Int)=u:=by omega
 have hex:∃ m:Nat,∃ a,Zky l p v t n (w,(m:Int)) a:=⟨u.toNat,a,by rw [eu];exact e⟩
 unfold Xg
 rw [dif_pos hex]
 have:=(Go.Sx.least_ex _ hex).choose_spec.2 u.toNat ⟨a,by rw [eu];exact e⟩
 omega
theorem Y5 {l:Land} {p:Span} {v t w:Int} {n:Nat}:Xg l p v t n w=100001\/∃ a,Zky l p v t n (w,Xg l p v t n w) a:=by
 unfold Xg
 by_cases hex:∃ m:Nat,∃ a,Zky l p v t n (w,(m:Int)) a
 . rw [dif_pos hex];exact .inr (Go.Sx.least_ex _ hex).choose_spec.1
 . rw [dif_neg hex];exact .inl rfl
theorem Zcl {l:Land} {p:Span} (h:OkLP l p) {v t w:Int} {n:Nat} (ht:0<=t) (ht':t<=100000) (h0:0<=v) (h1:v < l.wells.length):t<=Xg l p v t n w/\Xg l p v t n w<=100001:=by
 rcases Y5 (l:=l) (p:=p) (v:=v) (t:=t) (n:=n) (w:=w) with e | ⟨a,e⟩
 . omega
 . have:=V7 h e.2 ht' h0 h1;omega
theorem Zqv {l:Land} {p:Span} (h:OkLP l p) {v t w:Int} (ht:0<=t) (ht':t<=100000) (h0:0<=v) (h1:v < l.wells.length):Xg l p v t 0 w=if w=v then t else 100001:=by
 rcases Y5 (l:=l) (p:=p) (v:=v) (t:=t) (n:=0) (w:=w) with e | ⟨a,e1,e2⟩
 . split
   . rename_i hw
     subst hw
     have:=VB (u:=t) (a:=[]) (n:=0) (w:=w) h ⟨rfl,rfl⟩ ht ht' h0 h1
     omega
   . exact e
 . rw [List.eq_nil_of_length_eq_zero e1] at e2
   simp only [goW,Option.some.injEq,Prod.mk.injEq] at e2
   rw [if_pos e2.1.symm];exact e2.2.symm
noncomputable def ZaN (l:Land) (p:Span) (v t:Int) (n:Nat):List Int:=(List.range l.wells.length).map fun w:Nat=>Xg l p v t n (w:Int)
theorem Zc7 {l:Land} {p:Span} {v t:Int} {n:Nat}:(ZaN l p v t n).length=l.wells.length:=by simp [ZaN]
theorem Zgl {l:Land} {p:Span} {v t w:Int} {n:Nat} (h0:0<=w) (h1:w < l.wells.length):dv (ZaN l p v t n) w=Xg l p v t n w:=by
 obtain ⟨i,rfl⟩:∃ i:Nat,w=(i:Int):=⟨w.toNat,by omega⟩
 rw [WR (by rw [Zc7];omega)]
 simp [ZaN]
structure Lst (l:Land) (p:Span) (c d:List Int) (j:Nat):Prop where
 len:d.length=l.wells.length
 ub:∀ w,dv d w<=100001
 le:∀ (i:Nat) (x:Leg) (v:Int),i < j->l.legs[i]? = some x->0<=Zl x v->dv d (Zl x v)<=ZU true x p (dv c v)
 real:∀ w,dv d w=100001\/∃ (i:Nat) (x:Leg) (v:Int),l.legs[i]? = some x/\0<=Zl x v/\Zl x v=w/\dv d w=ZU true x p (dv c v)
theorem Lst.start {l:Land} {p:Span} {c:List Int}:Lst l p c (List.replicate l.wells.length 100001) 0:=by
 have e:∀ w,dv (List.replicate l.wells.length 100001) w=100001:=fun w=>by
  by_cases hw:0<=w/\w < (List.replicate l.wells.length (100001:Int)).length
  . obtain ⟨i,rfl⟩:∃ i:Nat,w=(i:Int):=⟨w.toNat,by omega⟩
    rw [WR (by omega)];simp
  . exact Zzd hw
 exact ⟨by simp,fun w=>by rw [e];exact Int.le_refl _,fun i x v h=>by omega,fun w=>.inl (e w)⟩
theorem ZeX {l:Land} {p:Span} {c d:List Int} {x:Leg} {v:Int} {w:Nat} (hlen:d.length=l.wells.length) (hw:w < d.length) {i:Nat} (hx:l.legs[i]? = some x) (ho:Zl x v=w) (hub:∀ w,dv d w<=100001) (hr:∀ w,dv d w=100001\/∃ (i:Nat) (x:Leg) (v:Int),l.legs[i]? = some x/\0<=Zl x v/\Zl x v=w/\dv d w=ZU true x p (dv c v)) :
 (∀ u,dv (d.set w (min (dv d w) (ZU true x p (dv c v)))) u<=dv d u)/\(dv (d.set w (min (dv d w) (ZU true x p (dv c v)))) w<=ZU true x p (dv c v)) /\
 ∀ u,dv (d.set w (min (dv d w) (ZU true x p (dv c v)))) u=100001\/∃ (i:Nat) (y:Leg) (v':Int),l.legs[i]? = some y/\0<=Zl y v'/\Zl y v'=u/\dv (d.set w (min (dv d w) (ZU true x p (dv c v)))) u=ZU true y p (dv c v'):=by
 refine ⟨fun u=>?_,?_,fun u=>?_⟩
 . rw [WS hw];split
   . rename_i hu;rw [hu];omega
   . exact Int.le_refl _
 . rw [WS hw,if_pos rfl];omega
 . rw [WS hw];split
   . rename_i hu
     by_cases hm:dv d w<=ZU true x p (dv c v)
     . rw [Int.min_eq_left hm,hu];exact hr w
     . rw [Int.min_eq_right (by omega)]
       exact .inr ⟨i,x,v,hx,by omega,by omega,rfl⟩
   . exact hr u
theorem Lst.step {l:Land} {p:Span} {c d:List Int} {j:Nat} (h:Lst l p c d j) (hg:OkLP l p) {x:Leg} (hx:l.legs[j]? = some x) {a b:Nat} (ha:x.a=a) (hb:x.b=b) :
 Lst l p c ((d.set b (min (dv d b) (ZU true x p (dv c a)))).set a (min (dv (d.set b (min (dv d b) (ZU true x p (dv c a)))) a) (ZU true x p (dv c b)))) (j+1):=by
 have hen:=hg.ends (List.mem_of_getElem? hx)
 have hbl:b < d.length:=by rw [h.len];omega
 have hal:a < d.length:=by rw [h.len];omega
 have o1:Zl x (a:Int)=(b:Int):=by rw [Zl,if_pos ha,hb]
 have o2:Zl x (b:Int)=(a:Int):=by rw [Zl,if_neg (by omega),if_pos hb,ha]
 obtain ⟨q1,q2,q3⟩:=ZeX (v:=(a:Int)) h.len hbl hx o1 h.ub h.real
 have hl1:(d.set b (min (dv d b) (ZU true x p (dv c a)))).length=d.length:=List.length_set
 generalize d.set b (min (dv d b) (ZU true x p (dv c a)))=d1 at q1 q2 q3 hl1
 obtain ⟨r1,r2,r3⟩:=ZeX (v:=(b:Int)) (hl1.trans h.len) (by omega:a < d1.length) hx o2 (fun w=>Int.le_trans (q1 w) (h.ub w)) q3
 have hl2:(d1.set a (min (dv d1 a) (ZU true x p (dv c b)))).length=d1.length:=List.length_set
 generalize d1.set a (min (dv d1 a) (ZU true x p (dv c b)))=d2 at r1 r2 r3 hl2
 refine ⟨by rw [hl2,hl1,h.len],fun w=>Int.le_trans (r1 w) (Int.le_trans (q1 w) (h.ub w)),fun i y v hi hy ho=>?_,r3⟩
 by_cases he:i=j
 . subst he
   rw [hx] at hy;cases hy
   rcases (Yb hg hx (v:=v) (by omega)).2.1 with ⟨e1,e2⟩ | ⟨e1,e2⟩
   . have ev:v=(a:Int):=by omega
     subst ev
     rw [o1]
     exact Int.le_trans (r1 _) q2
   . have ev:v=(b:Int):=by omega
     subst ev
     rw [o2];exact r2
 . exact Int.le_trans (r1 _) (Int.le_trans (q1 _) (h.le i y v (by omega) hy ho))
theorem Lst.done {l:Land} {p:Span} {v t:Int} {n:Nat} {d:List Int} (h:Lst l p (ZaN l p v t n) d l.legs.length) (hg:OkLP l p) (ht:0<=t) (ht':t<=100000) (h0:0<=v) (h1:v < l.wells.length):d=ZaN l p v t (n+1):=by
 refine List.ext_getElem (by rw [h.len,Zc7]) fun i hi hi'=>?_
 have hil:i < l.wells.length:=by rw [h.len] at hi;exact hi
 rw [show (ZaN l p v t (n+1))[i]=Xg l p v t (n+1) i by simp [ZaN],<- WR hi]
 have hlow:Xg l p v t (n+1) i<=dv d i:=by
  rcases h.real i with e | ⟨k,x,u,hx,ho,hou,e⟩
  . rw [e];exact (Zcl hg ht ht' h0 h1).2
  . have hin:=Yb hg hx (v:=u) (by omega)
    rw [Zgl hin.2.2.1 hin.2.2.2] at e
    by_cases hr:dv d i=100001
    . rw [hr];exact (Zcl hg ht ht' h0 h1).2
    . have hub:=h.ub i
      have hb:=Wc (k:=true) (t:=Xg l p v t n u) (hg.leg hx) hg.pace (Zcl hg ht ht' h0 h1).2
      rcases Y5 (l:=l) (p:=p) (v:=v) (t:=t) (n:=n) (w:=u) with e' | ⟨a,e1,e2⟩
      . omega
      . rw [e,<- hou]
        exact VB hg ⟨by simp [e1],ZaY e2 hx (by omega) (by omega)⟩ ht ht' h0 h1
 have hup:dv d i<=Xg l p v t (n+1) i:=by
  rcases Y5 (l:=l) (p:=p) (v:=v) (t:=t) (n:=n+1) (w:=i) with e' | ⟨b,e1,e2⟩
  . rw [e'];exact h.ub i
  . obtain ⟨c,k,rfl⟩:∃ c k,b=c ++ [k]:=by
     rcases List.eq_nil_or_concat b with rfl | ⟨c,k,rfl⟩
     . simp at e1
     . exact ⟨c,k,by simp⟩
    obtain ⟨u,x,g1,g2,g3,g4,g5⟩:=ZgR e2
    have hin:=Yb hg g2 (v:=u.1) (by omega)
    have:=h.le k x u.1 (List.getElem?_eq_some_iff.1 g2).1 g2 g3
    rw [Zgl hin.2.2.1 hin.2.2.2] at this
    have hl:=VB (n:=n) (w:=u.1) (u:=u.2) hg ⟨by simpa using e1,g1⟩ ht ht' h0 h1
    have hm:=Zbo (k:=true) (hg.leg g2) hg.pace hl
    simp only [Prod.mk.injEq] at g5
    rw [<- g5.1] at this
    omega
 omega
structure Gr (l:Land) (p:Span) (s day to best:Int) (n0 n:Nat) (v t:Int) (out:List Nat):Prop where
 go:goW true l p s day out=some (v,t)
 len:out.length+n=n0
 least:Xg l p v t n to=best
 pre:∀ b,b.length=n0->goW true l p s day b=some (to,best)->b.take out.length=out\/Vr out (b.take out.length)=true
def Fit (l:Land) (p:Span) (to best:Int) (n:Nat) (v t:Int) (i:Nat):Prop:=∃ x,l.legs[i]? = some x/\0<=Zl x v/\ZU true x p t < 100001/\Xg l p (Zl x v) (ZU true x p t) n to=best
theorem Gr.start {l:Land} {p:Span} {s day to best:Int} {n:Nat} (h:Xg l p s day n to=best):Gr l p s day to best n n s day []:=⟨rfl,by simp,h,fun _ _ _=>.inl (by simp)⟩
theorem ZpA {l:Land} {p:Span} {v t:Int} {i:Nat} {c:List Nat} {q:Int × Int} (h:goW true l p v t (i :: c)=some q):∃ x,l.legs[i]? = some x/\0<=Zl x v/\ZU true x p t<=100000/\goW true l p (Zl x v) (ZU true x p t) c=some q:=by
 simp only [goW] at h
 cases hx:l.legs[i]? with
 | none=>rw [hx] at h;cases h
 | some x =>
  rw [hx] at h
  simp only at h
  split at h
  . cases h
  . split at h
    . cases h
    . exact ⟨x,rfl,by omega,by omega,h⟩
theorem Gr.fit {l:Land} {p:Span} {s day to best:Int} {n0 n:Nat} {v t:Int} {out:List Nat} (h:Gr l p s day to best n0 (n+1) v t out) (hg:OkLP l p) (hd:0<=day) (hd':day<=100000) (h0:0<=s) (h1:s < l.wells.length) (hb:best=YV true l p s day to) {i:Nat} {c:List Nat} (hc:c.length=n)
 (hw:goW true l p v t (i :: c)=some (to,best)):Fit l p to best n v t i:=by
 obtain ⟨x,g1,g2,g3,g4⟩:=ZpA hw
 have hbd:=V7 hg h.go hd' h0 h1
 have hin:=Yb hg g1 (v:=v) (by omega)
 have ha:=Wc (k:=true) (t:=t) (hg.leg g1) hg.pace (by omega)
 have hle:=VB (n:=n) (w:=to) (u:=best) hg ⟨hc,g4⟩ (by omega) g3 hin.1.1 hin.1.2
 refine ⟨x,g1,g2,by omega,?_⟩
 rcases Y5 (l:=l) (p:=p) (v:=Zl x v) (t:=ZU true x p t) (n:=n) (w:=to) with e | ⟨a,e1,e2⟩
 . have:=V7 hg g4 g3 hin.1.1 hin.1.2;omega
 . have hgo:goW true l p s day (out ++ (i :: a))=some (to,Xg l p (Zl x v) (ZU true x p t) n to):=by
    rw [Zbu,h.go]
    simp only [Option.bind_some,goW,g1]
    rw [if_neg (by omega),if_neg (by omega)]
    exact e2
   have:=Zcb hg hgo hd hd' h0 h1
   omega
theorem Gr.ex {l:Land} {p:Span} {s day to best:Int} {n0 n:Nat} {v t:Int} {out:List Nat} (h:Gr l p s day to best n0 (n+1) v t out) (hg:OkLP l p) (hd:0<=day) (hd':day<=100000) (h0:0<=s) (h1:s < l.wells.length) (hb:best=YV true l p s day to) (hb':best<=100000) :
 ∃ i,i < l.legs.length/\Fit l p to best n v t i:=by
 rcases Y5 (l:=l) (p:=p) (v:=v) (t:=t) (n:=n+1) (w:=to) with e | ⟨a,e1,e2⟩
 . have:=h.least;omega
 . rw [h.least] at e2
   cases a with
   | nil=>simp at e1
   | cons i c =>
    have hf:=h.fit hg hd hd' h0 h1 hb (by simpa using e1) e2
    have hf':=hf
    obtain ⟨x,hx,_⟩:=hf'
    exact ⟨i,(List.getElem?_eq_some_iff.1 hx).1,hf⟩
theorem Gr.step {l:Land} {p:Span} {s day to best:Int} {n0 n:Nat} {v t:Int} {out:List Nat} (h:Gr l p s day to best n0 (n+1) v t out) (hg:OkLP l p) (hd:0<=day) (hd':day<=100000) (h0:0<=s) (h1:s < l.wells.length) (hb:best=YV true l p s day to) {i:Nat} {x:Leg} (hx:l.legs[i]? = some x) (ho:0<=Zl x v) (ha:ZU true x p t < 100001)
 (hf:Xg l p (Zl x v) (ZU true x p t) n to=best) (hm:∀ j,j < i->¬ Fit l p to best n v t j):Gr l p s day to best n0 n (Zl x v) (ZU true x p t) (out ++ [i]):=by
 refine ⟨ZaY h.go hx (by omega) (by omega),by have:=h.len;simp;omega,hf,fun b hbl hbw=>?_⟩
 have hlen:=h.len
 have hsplit:b.take (out ++ [i]).length=b.take out.length ++ (b[out.length]?).toList:=by
  rw [List.length_append,List.length_singleton];exact List.take_add_one
 have hlt:out.length < b.length:=by omega
 rw [hsplit,List.getElem?_eq_getElem hlt,Option.toList_some]
 have hl:out.length=(b.take out.length).length:=by rw [List.length_take];omega
 rcases h.pre b hbl hbw with e | e
 . rw [e]
   have hbeq:b=out ++ (b[out.length] :: b.drop (out.length+1)):=by
    conv=>lhs;rw [<- List.take_append_drop out.length b,e,List.drop_eq_getElem_cons hlt]
   have hw2:goW true l p v t (b[out.length] :: b.drop (out.length+1))=some (to,best):=by
    rw [hbeq,Zbu,h.go] at hbw
    simpa using hbw
   have hfit:=h.fit hg hd hd' h0 h1 hb (by rw [List.length_drop];omega) hw2
   by_cases heq:b[out.length]=i
   . left;rw [heq]
   . right
     have:¬ b[out.length] < i:=fun hlt'=>hm _ hlt' hfit
     rw [Zba rfl]
     simp [Vr,WX]
     omega
 . right
   rw [Zba hl,e];rfl
theorem Gr.done {l:Land} {p:Span} {s day to best:Int} {n0:Nat} {v t:Int} {out:List Nat} (h:Gr l p s day to best n0 0 v t out) (hg:OkLP l p) (hd:0<=day) (hd':day<=100000) (h0:0<=s) (h1:s < l.wells.length) (hb:best=YV true l p s day to) (hb':best<=100000)
 (hm:∀ m,m < n0->Xg l p s day m to≠best):ZsS l p s to day out:=by
 have hbd:=V7 hg h.go hd' h0 h1
 have h2:=h.least
 rw [Zqv hg (by omega) (by omega) hbd.2.2.1 hbd.2.2.2] at h2
 split at h2
 case isFalse=>omega
 rename_i hv
 subst hv;subst h2
 have hlen:=h.len
 refine ⟨by rw [<- hb];exact h.go,fun b hbw=>?_⟩
 rw [<- hb] at hbw
 by_cases hlt:b.length < n0
 . refine absurd ?_ (hm b.length hlt)
   have q1:=VB (n:=b.length) hg ⟨rfl,hbw⟩ hd hd' h0 h1
   rcases Y5 (l:=l) (p:=p) (v:=s) (t:=day) (n:=b.length) (w:=to) with e | ⟨a,e1,e2⟩
   . omega
   . have:=Zcb hg e2 hd hd' h0 h1;omega
 . by_cases he:b.length=n0
   . refine .inr ⟨by omega,?_⟩
     have hpre:=h.pre b he hbw
     rw [List.take_of_length_le (by omega)] at hpre
     rcases hpre with rfl | hpre
     . exact WX _
     . cases hq:Vr b out with
       | false=>rfl
       | true=>have:=WL hpre hq;rw [WX] at this;cases this
   . exact .inl (by omega)
structure Stop where
 leg:Int
 well:Int
 leaves:Span
 arrives:Span
deriving DecidableEq
def X4 (l:Land):Int->List Int->Nat->Option Nat
 | _,[],_=>none
 | v,i :: r,k=>if WY l i v < 0 then some k else X4 l (WY l i v) r (k+1)
def Ur (l:Land):Int->List Int->List Int
 | _,[]=>[]
 | v,i :: r=>if WY l i v < 0 then [] else WY l i v :: Ur l (WY l i v) r
def goS (l:Land) (p:Span):Int->Int->Int->List Int->Nat->List Stop->List Stop × Int × Int
 | _,_,_,[],_,acc=>(acc,0,0)
 | v,a,b,i :: r,k,acc=>match l.legs[i.toNat]? with
  | none=>([],0,0)
  | some x=>if ZU true x p b > 100000 then ([],k,34)
   else goS l p (Zl x v) (ZU false x p a) (ZU true x p b) r (k+1) (acc ++ [⟨i,Zl x v,⟨leK false x p a,leK true x p b⟩,⟨ZU false x p a,ZU true x p b⟩⟩])
def YZ (l:Land) (p:Span) (s day:Int) (legs:List Int):List Stop × Int × Int :=
 if Zay l p≠0 then ([],0,Zay l p)
 else if (inR 0 (l.wells.length - 1) s && inR 0 100000 day)=false then ([],0,2)
 else if legs.length > 24 then ([],0,4)
 else match X4 l s legs 0 with
  | some k=>([],k,8)
  | none=>goS l p s day day legs 0 []
theorem Zcq {l:Land} {i v:Int} (h:¬ WY l i v < 0):∃ k:Nat,∃ x,i=(k:Int)/\∃ hk:k < l.legs.length,l.legs[k]? = some x/\l.legs[k]=x/\WY l i v=Zl x v:=by
 unfold WY at h ⊢
 split at h
 . rename_i hk
   refine ⟨i.toNat,l.legs[i.toNat],by omega,hk.2,by simp [hk.2],rfl,?_⟩
   rw [dif_pos hk]
 . omega
theorem Zfw {l:Land} {i v:Int}:i < 0\/(l.legs.length:Int)<=i->WY l i v = -1:=fun h=>by
 unfold WY;rw [dif_neg (by omega)]
theorem Zbe {l:Land} {k:Nat} {v:Int} (hk:k < l.legs.length):WY l k v=Zl l.legs[k] v:=by
 unfold WY;rw [dif_pos ⟨by omega,by simpa using hk⟩];simp
theorem X3 {α : Type} {l:List α} {j:Nat} (h:j < l.length):l.drop j=l[j] :: l.drop (j+1):=List.drop_eq_getElem_cons h
theorem Zek {l:Land}:∀ {legs:List Int} {v:Int} {k:Nat},X4 l v legs k=none->(Ur l v legs).length=legs.length
 | [],_,_,_=>rfl
 | i :: r,v,k,h=>by
  simp only [X4] at h
  simp only [Ur]
  split at h
  . cases h
  . rename_i hn;rw [if_neg hn,List.length_cons,List.length_cons,Zek h]
structure W1 (l:Land) (s:Int) (legs:List Int) (j:Nat) (v:Int) (ends:List Int):Prop where
 bad:X4 l s legs 0=X4 l v (legs.drop j) j
 eds:Ur l s legs=ends ++ Ur l v (legs.drop j)
 len:ends.length=j
 inn:0<=v/\v < l.wells.length
theorem W1.start {l:Land} {s:Int} {legs:List Int} (h:0<=s/\s < l.wells.length):W1 l s legs 0 s []:=⟨by simp,by simp,rfl,h⟩
theorem W1.step {l:Land} {p:Span} {s:Int} {legs:List Int} {j:Nat} {v:Int} {ends:List Int} (h:W1 l s legs j v ends) (hg:OkLP l p) (hj:j < legs.length) (he:¬ WY l legs[j] v < 0):W1 l s legs (j+1) (WY l legs[j] v) (ends ++ [WY l legs[j] v]):=by
 obtain ⟨k,x,_,_,hx,_,e⟩:=Zcq he
 refine ⟨?_,?_,by simp [h.len],by rw [e] at he ⊢;exact (Yb hg hx he).1⟩
 . rw [h.bad,X3 hj];simp only [X4];rw [if_neg he]
 . rw [h.eds,X3 hj];simp only [Ur];rw [if_neg he];simp
theorem W1.stop {l:Land} {s:Int} {legs:List Int} {j:Nat} {v:Int} {ends:List Int} (h:W1 l s legs j v ends) (hj:j < legs.length) (he:WY l legs[j] v < 0):X4 l s legs 0=some j:=by
 rw [h.bad,X3 hj];simp only [X4];rw [if_pos he]
theorem W1.done {l:Land} {s:Int} {legs:List Int} {v:Int} {ends:List Int} (h:W1 l s legs legs.length v ends):X4 l s legs 0=none/\ends=Ur l s legs:=by
 have h1:=h.bad
 have h2:=h.eds
 rw [List.drop_of_length_le (Nat.le_refl _)] at h1 h2
 exact ⟨by rw [h1];rfl,by rw [h2];simp [Ur]⟩
structure W2 (l:Land) (p:Span) (s day:Int) (legs:List Int) (j:Nat) (v a b:Int) (acc:List Stop):Prop where
 eq:goS l p s day day legs 0 []=goS l p v a b (legs.drop j) j acc
 bad:X4 l v (legs.drop j) j=none
 ends:(Ur l s legs).drop j=Ur l v (legs.drop j)
 inn:0<=v/\v < l.wells.length
 da:0<=a/\a<=100001
 db:0<=b/\b<=100000
 len:acc.length=j
theorem W2.start {l:Land} {p:Span} {s day:Int} {legs:List Int} (h:X4 l s legs 0=none) (hs:0<=s/\s < l.wells.length) (hd:0<=day/\day<=100000):W2 l p s day legs 0 s day day []:=⟨by simp,by simpa using h,by simp,hs,⟨hd.1,by omega⟩,hd,rfl⟩
theorem W2.at {l:Land} {p:Span} {s day:Int} {legs:List Int} {j:Nat} {v a b:Int} {acc:List Stop} (h:W2 l p s day legs j v a b acc) (hj:j < legs.length):∃ k:Nat,∃ hk:k < l.legs.length,legs[j]=(k:Int)/\WY l legs[j] v=Zl l.legs[k] v/\0<=Zl l.legs[k] v/\(Ur l s legs)[j]? = some (Zl l.legs[k] v):=by
 have hb:=h.bad
 have he:=h.ends
 rw [X3 hj] at hb he
 simp only [X4] at hb
 simp only [Ur] at he
 split at hb
 . cases hb
 . rename_i hn
   rw [if_neg hn] at he
   obtain ⟨k,x,e1,hk,e2,e3,e4⟩:=Zcq hn
   subst e3
   refine ⟨k,hk,e1,e4,by omega,?_⟩
   have:=congrArg (fun q=>q[0]?) he
   simp only [List.getElem?_drop,Nat.add_zero,List.getElem?_cons_zero] at this
   rw [this,e4]
theorem W2.step {l:Land} {p:Span} {s day:Int} {legs:List Int} {j:Nat} {v a b:Int} {acc:List Stop} (h:W2 l p s day legs j v a b acc) (hg:OkLP l p) (hj:j < legs.length) {k:Nat} (hk:k < l.legs.length) (hl:legs[j]=(k:Int)) (hr:¬ ZU true l.legs[k] p b > 100000) (ho:0<=Zl l.legs[k] v) :
 W2 l p s day legs (j+1) (Zl l.legs[k] v) (ZU false l.legs[k] p a) (ZU true l.legs[k] p b) (acc ++ [⟨k,Zl l.legs[k] v,⟨leK false l.legs[k] p a,leK true l.legs[k] p b⟩,⟨ZU false l.legs[k] p a,ZU true l.legs[k] p b⟩⟩]):=by
 have hx:l.legs[k]? = some l.legs[k]:=List.getElem?_eq_getElem hk
 have hend:WY l legs[j] v=Zl l.legs[k] v:=by rw [hl];exact Zbe hk
 have hb:=h.bad
 have he:=h.ends
 rw [X3 hj] at hb he
 simp only [X4,hend] at hb
 rw [if_neg (by omega)] at hb
 simp only [Ur,hend] at he
 rw [if_neg (by omega)] at he
 have ha:=Zbj (k:=false) (hg.leg hx) hg.pace h.da.2
 have ha':=Wc (k:=false) (hg.leg hx) hg.pace h.da.2
 have hb':=Zbj (k:=true) (t:=b) (hg.leg hx) hg.pace (by have:=h.db;omega)
 have h1:=h.da
 have h2:=h.db
 refine ⟨?_,hb,?_,(Yb hg hx (by omega)).1,by omega,by omega,by simp [h.len]⟩
 . rw [h.eq,X3 hj,hl]
   simp only [goS,Int.toNat_natCast,hx]
   rw [if_neg hr]
 . have:=congrArg (List.drop 1) he
   simpa [List.drop_drop,Nat.add_comm] using this
theorem W2.stop {l:Land} {p:Span} {s day:Int} {legs:List Int} {j:Nat} {v a b:Int} {acc:List Stop} (h:W2 l p s day legs j v a b acc) (hj:j < legs.length) {k:Nat} (hk:k < l.legs.length) (hl:legs[j]=(k:Int)) (hr:ZU true l.legs[k] p b > 100000):goS l p s day day legs 0 []=([],(j:Int),34):=by
 rw [h.eq,X3 hj,hl]
 simp only [goS,Int.toNat_natCast,List.getElem?_eq_getElem hk]
 rw [if_pos hr]
theorem W2.done {l:Land} {p:Span} {s day:Int} {legs:List Int} {v a b:Int} {acc:List Stop} (h:W2 l p s day legs legs.length v a b acc):goS l p s day day legs 0 []=(acc,0,0):=by
 rw [h.eq,List.drop_of_length_le (Nat.le_refl _)];rfl
end Go.Azalai
namespace Go.Proofs.YtiigiflofnjilaaGreat
open Go Go.Sx Go.Azalai
def ZT (s:Stop):List SV:=[I s.leg,I s.well,I s.leaves.lo,I s.leaves.hi,I s.arrives.lo,I s.arrives.hi]
def ZbZ (r:List Stop × Int × Int):SV:=.tup [XQ r.2.2 6 (r.1.map ZT),I r.2.1,I r.2.2]
theorem Znf (r:List Stop × Int × Int):KF (ZbZ r):=by
 unfold ZbZ XQ;split<;>simp [KFL,KF,Za,ZT]
theorem Zqq (l:Land) (hs:WM l) (s day:Int) (p:Span) (legs:List Int) (hl:legs.length<=1000) (c:Bool):Ct Tryz.prog 36 [.agg (ZY l),I s,I day,.agg (Zd p),.sl c 1 (legs.map Zo)] (ZbZ (YZ l p s day legs)):=by
 have hw:=hs.1
 have hleg:=hs.2.1
 refine t36.1 (by simp [ZY,Ze,Zm,Zg,Zd,Zo,Za,KFL,KF]) (Znf _) ?_
 dsimp only [c36,r36,ZY,Zd,go_sem,rA,rM,rS]
 by_cases ha:Zay l p=0
 case neg =>
  refine call (Zbd l hs p ha) ?_
  dsimp only [go_sem,rA,rM,rS]
  refine Zu (by simpa using ha) ?_
  dsimp only [go_sem,rA,rM,rS]
  simp [YZ,ha,ZbZ,XQ]
 have hok:=Zl1 ha
 refine call (Zdw l hs p ha) ?_
 dsimp only [Yc,go_sem,rA,rM,rS]
 refine Zx (by decide) ?_
 dsimp only [go_sem,rA,rM,rS]
 simp only [List.length_map]
 have h1:=VK hok.land
 rw [Zi (n:=(l.wells.length:Int) - 1) (by omega) (by omega)]
 refine call (Zas 0 (l.wells.length - 1) s true) ?_
 dsimp only [go_sem,rA,rM,rS]
 repeat (first | (refine gb ?_;dsimp only [go_sem,rA,rM,rS]) | (refine call (Zas 0 100000 day true) ?_;dsimp only [go_sem,rA,rM,rS]))
 by_cases hr:(inR 0 (l.wells.length - 1) s && inR 0 100000 day)=true
 case neg =>
  refine Zu (by simpa [Bool.and_eq_true,<- Bool.not_and] using hr) ?_
  dsimp only [go_sem,rA,rM,rS]
  simp [YZ,ha,ZbZ,XQ,hr]
 refine Zx (by simpa [<- Bool.not_and] using hr) ?_
 dsimp only [go_sem,rA,rM,rS]
 simp only [List.length_map]
 by_cases hm:legs.length > 24
 . refine Zu (by simp;omega) ?_
   dsimp only [go_sem,rA,rM,rS]
   simp only [YZ,ha,hr,ne_eq,not_true_eq_false,if_false,Bool.true_eq_false,hm,if_true,ZbZ,XQ]
   simp
 refine Zx (by simp;omega) ?_
 dsimp only [go_sem,rA,rM,rS]
 simp only [List.length_map]
 have hF1:∀ k,X4 l s legs 0=some k->YZ l p s day legs=([],(k:Int),8):=fun k h=>by
  simp only [YZ,ha,hr,ne_eq,not_true_eq_false,if_false,Bool.true_eq_false,hm,h]
 have hF2:X4 l s legs 0=none->YZ l p s day legs=goS l p s day day legs 0 []:=fun h=>by
  simp only [YZ,ha,hr,ne_eq,not_true_eq_false,if_false,Bool.true_eq_false,hm,h]
 simp only [Bool.and_eq_true,inR,decide_eq_true_eq] at hr
 obtain ⟨hr1,hd⟩:=hr
 refine Zd5 (Y7 14 1 3 rfl rfl) (fun q:Nat × Nat × Int × List Int=>[(54,I q.1),(14,.mr 3 q.2.1),(15,I q.2.2.1)]) (fun q=>[(3,.row q.2.1 1 (q.2.2.2.map Zo) 3)])
  (fun q=>q.1<=legs.length/\W1 l s legs q.1 q.2.2.1 q.2.2.2) (fun q=>legs.length - q.1) (0,0,s,[]) ⟨Nat.zero_le _,W1.start (by omega)⟩ ?_ ?_
 . (refine Zk ?_ ?_ ?_ rfl rfl<;>dsimp only [Zd,Ze,Zm,Zg,Zo,id,go_sem,rA,rM,rS]<;>simp [Zd,Ze,Zm,Zg,Zo,Za,Zf,KFR,KFL,KF,Zc,mtO,nbr])
 rintro ⟨j,v,well,ends⟩ ⟨hj,hI⟩
 simp only at hj hI
 dsimp only [go_sem,rA,rM,rS]
 by_cases hlt:j < legs.length
 . refine Zu (by simpa using hlt) ?_
   dsimp only [go_sem,rA,rM,rS]
   refine Zr j hlt rfl ?_
   dsimp only [Zo,go_sem,rA,rM,rS]
   refine call (Zy8 l p legs[j] well hleg) ?_
   dsimp only [go_sem,rA,rM,rS]
   by_cases hn:WY l legs[j] well < 0
   . refine Zu (by simpa using hn) ?_
     dsimp only [go_sem,rA,rM,rS]
     rw [hF1 j (hI.stop hlt hn)]
     simp [ZbZ,XQ]
   refine Zx (by simpa using hn) ?_
   dsimp only [go_sem,rA,rM,rS]
   simp only [nbr]
   dsimp only [go_sem,rA,rM,rS]
   have hst:=hI.step hok hlt hn
   refine ⟨(by intro c hc;simp only [List.mem_singleton] at hc;subst hc;rfl),by have:=hI.len;simp;omega,?_⟩
   dsimp only [go_sem,rA,rM,rS]
   rw [Zi (n:=(j:Int)+1) (by omega) (by omega)]
   have e:ends.map Zo ++ [[SV.v (.int .i64 (WY l legs[j] well))]]=(ends ++ [WY l legs[j] well]).map Zo:=by simp [Zo]
   rw [e]
   refine ⟨(j+1,v+1,WY l legs[j] well,ends ++ [WY l legs[j] well]),⟨hlt,hst⟩,by simp only;omega,?_⟩
   (refine Zk ?_ ?_ ?_ rfl rfl<;>dsimp only [Zd,Ze,Zm,Zg,Zo,id,go_sem,rA,rM,rS]<;>simp [Zd,Ze,Zm,Zg,Zo,Za,Zf,KFR,KFL,KF,Zc,mtO,nbr])
 refine Zx (by simp;omega) ?_
 dsimp only [go_sem,rA,rM,rS]
 have hje:j=legs.length:=by omega
 subst hje
 obtain ⟨hbad,hends⟩:=hI.done
 subst hends
 have hF:=hF2 hbad
 have hlen:=Zek hbad
 have h2:=W2.start (p:=p) hbad (by omega) hd
 clear hI
 refine Zd5 (Y7 10 6 94 rfl rfl) (fun q:Nat × Nat × Int × Int × Int × List Stop=>[(76,I q.1),(10,.mr 5 q.2.1)]) (fun q=>[(5,.row q.2.1 6 (q.2.2.2.2.2.map ZT) 94),(4,.cells [I q.2.2.2.1,I q.2.2.2.2.1] 165)])
  (fun q=>q.1<=legs.length/\W2 l p s day legs q.1 q.2.2.1 q.2.2.2.1 q.2.2.2.2.1 q.2.2.2.2.2) (fun q=>legs.length - q.1) (0,0,s,day,day,[]) ⟨Nat.zero_le _,h2⟩ ?_ ?_
 . (refine Zk ?_ ?_ ?_ rfl rfl<;>dsimp only [Zd,Ze,Zm,Zg,Zo,ZT,id,go_sem,rA,rM,rS]<;>simp [Zd,Ze,Zm,Zg,Zo,ZT,Za,Zf,KFR,KFL,KF,Zc,mtO,nbr])
 clear h2
 rintro ⟨j,u,wl,a,b,acc⟩ ⟨hj,hI⟩
 simp only at hj hI
 dsimp only [go_sem,rA,rM,rS]
 by_cases hlt:j < legs.length
 . refine Zu (by simpa using hlt) ?_
   dsimp only [go_sem,rA,rM,rS]
   refine Zr j hlt rfl ?_
   dsimp only [Zo,go_sem,rA,rM,rS]
   obtain ⟨k,hk,hlk,_,ho,hej⟩:=hI.at hlt
   have hgl:GoodLeg l.legs[k]:=WW hok.land _ (List.getElem_mem _)
   have hda:=hI.da
   have hdb:=hI.db
   have q0:inR 0 100001 a=true:=by simp only [inR,decide_eq_true_eq];omega
   have q1:inR 0 100001 b=true:=by simp only [inR,decide_eq_true_eq];omega
   simp only [hlk]
   refine call (Wm l p k hk a b hgl hok.pace q0 q1) ?_
   dsimp only [go_sem,rA,rM,rS]
   refine call (Vz l p k hk a b hgl hok.pace q0 q1) ?_
   dsimp only [go_sem,rA,rM,rS]
   refine ixa 1 rfl (by decide) ?_
   dsimp only [go_sem,rA,rM,rS]
   by_cases hR:ZU true l.legs[k] p b > 100000
   . refine Zu (by simpa using hR) ?_
     dsimp only [go_sem,rA,rM,rS]
     rw [hF,hI.stop hlt hk hlk hR]
     simp [ZbZ,XQ]
   refine Zx (by simpa using hR) ?_
   dsimp only [go_sem,rA,rM,rS]
   simp only [nbr]
   dsimp only [go_sem,rA,rM,rS]
   have hjl:j < (Ur l s legs).length:=by omega
   simp only [List.length_map]
   refine UA j rfl hjl ?_
   dsimp only [go_sem,rA,rM,rS]
   simp only [nbr]
   dsimp only [go_sem,rA,rM,rS]
   refine ZcE hjl ?_
   dsimp only [Zo,go_sem,rA,rM,rS]
   have hej':(Ur l s legs)[j]=Zl l.legs[k] wl:=by rw [List.getElem?_eq_getElem hjl] at hej;exact Option.some.inj hej
   rw [hej']
   refine call (ZdQ _ _) ?_
   dsimp only [go_sem,rA,rM,rS]
   refine call (ZdQ _ _) ?_
   dsimp only [go_sem,rA,rM,rS]
   simp only [nbr]
   dsimp only [go_sem,rA,rM,rS]
   have hst:=hI.step hok hlt hk hlk hR ho
   refine ⟨(by intro c hc;simp only [List.mem_singleton] at hc;subst hc;rfl),by have:=hI.len;simp;omega,?_⟩
   dsimp only [go_sem,rA,rM,rS]
   rw [Zi (n:=(j:Int)+1) (by omega) (by omega)]
   have e:acc.map ZT ++ [[SV.v (.int .i64 (k:Int)),SV.v (.int .i64 (Zl l.legs[k] wl)),SV.v (.int .i64 (Zyo l.legs[k] p a)),SV.v (.int .i64 (Zvi l.legs[k] p b)),SV.v (.int .i64 (ZU false l.legs[k] p a)),SV.v (.int .i64 (ZU true l.legs[k] p b))]] =
    (acc ++ [(⟨(k:Int),Zl l.legs[k] wl,⟨leK false l.legs[k] p a,leK true l.legs[k] p b⟩,⟨ZU false l.legs[k] p a,ZU true l.legs[k] p b⟩⟩:Stop)]).map ZT:=by simp [ZT,leK]
   rw [e]
   refine ⟨(j+1,u+1,Zl l.legs[k] wl,ZU false l.legs[k] p a,ZU true l.legs[k] p b,_),⟨hlt,hst⟩,by simp only;omega,?_⟩
   (refine Zk ?_ ?_ ?_ rfl rfl<;>dsimp only [Zd,Ze,Zm,Zg,Zo,ZT,id,go_sem,rA,rM,rS]<;>simp [Zd,Ze,Zm,Zg,Zo,ZT,Za,Zf,KFR,KFL,KF,Zc,mtO,nbr])
 refine Zx (by simp;omega) ?_
 dsimp only [go_sem,rA,rM,rS]
 have hje:j=legs.length:=by omega
 subst hje
 simp only [nbr]
 dsimp only [go_sem,rA,rM,rS]
 rw [hF,hI.done]
 simp [ZbZ,XQ,vwN]
end Go.Proofs.YtiigiflofnjilaaGreat
