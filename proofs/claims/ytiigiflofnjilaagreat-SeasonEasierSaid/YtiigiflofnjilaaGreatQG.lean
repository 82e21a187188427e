/- Walks and plain laws that lead to the given statement, part 7 of 9. -/
import Derived.Test.YtiigiflofnjilaaGreatQF
import Derived.Test.YtiigiflofnjilaaGreatProg
import Derived.WideLaws
set_option maxRecDepth 100000
set_option maxHeartbeats 8000000
set_option linter.all false
open Nat renaming reduceAdd->rA,reduceMul->rM,reduceSub->rS,beq_refl->nbr
namespace Go.Azalai
open Go.Sx
structure Scene where
 heat:Span
 grass:Span
 yields:List Span
 prices:List Int
deriving DecidableEq
structure Season where
 land:Land
 pace:Span
 breed:Breed
 camel:Camel
 herd:Int
 hours:Int
 slab:Int
 cost:Int
 sale:Int
 start:Int
 day:Int
 till:Int
 scenes:List Scene
deriving DecidableEq
structure Plan where
 legs:List Int
 animals:Int
 slabs:Int
deriving DecidableEq
def ZaJ (x:Scene):Bool:=decide (x.yields.length > 20) || decide (x.prices.length > 20)
def UX (s:Season):Bool:=Zcd s.land || decide (s.scenes.length > 8) || s.scenes.any ZaJ
structure SmallS (s:Season):Prop where
 land:WM s.land
 sc:s.scenes.length<=8
 each:∀ x ∈ s.scenes,x.yields.length<=20/\x.prices.length<=20
def ZG (n:Nat) (x:Scene):Bool :=
 Z3 0 60 x.heat && Z3 0 1000000 x.grass && decide (x.yields.length=n) && decide (x.prices.length=n) && x.yields.all (Z3 0 10000000) && x.prices.all (inR 0 1000000)
def W9 (s:Season):Bool :=
 inR 1 30 s.herd && inR 1 24 s.hours && inR 1 1000000 s.slab && inR 0 1000000 s.cost && inR 0 1000000 s.sale && inR 0 s.till s.day && decide (s.till<=100000)
def Zt (s:Season):Bool :=
 ZA s.land && ZX s.pace && decide (Zcs s.breed s.camel=0) && W9 s && inR 0 (s.land.wells.length - 1) s.start && inR 1 4 s.scenes.length && s.scenes.all (ZG s.land.wells.length)
theorem Zqh {l:Land} (h:Zcd l=false):WM l:=by
 simp only [Zcd,Bool.or_eq_false_iff,decide_eq_false_iff_not,List.any_eq_false,decide_eq_true_eq] at h
 exact ⟨by omega,by omega,fun x hx=>by have:=h.2 x hx;omega⟩
theorem ZbI {s:Season} (h:UX s=false):SmallS s:=by
 simp only [UX,Bool.or_eq_false_iff,decide_eq_false_iff_not,List.any_eq_false,ZaJ,Bool.or_eq_true,decide_eq_true_eq] at h
 exact ⟨Zqh h.1.1,by omega,fun x hx=>by have:=h.2 x hx;omega⟩
end Go.Azalai
namespace Go.Proofs.YtiigiflofnjilaaGreat
open Go Go.Sx Go.Azalai
def Zh (x:Scene):List SV:=[I x.heat.lo,I x.heat.hi,I x.grass.lo,I x.grass.hi,.sl false 2 (x.yields.map Zd),.sl false 1 (x.prices.map Zo)]
def Zn (s:Season):List SV :=
 [.sl false 9 (s.land.wells.map Ze),.sl false 5 (s.land.legs.map Zm),I s.pace.lo,I s.pace.hi,
  I s.breed.full,I s.breed.fed,I s.breed.rest.lo,I s.breed.rest.hi,I s.breed.heat.lo,I s.breed.heat.hi,I s.breed.toil.lo,I s.breed.toil.hi,I s.breed.burn.lo,I s.breed.burn.hi,I s.breed.rub.lo,I s.breed.rub.hi,I s.breed.milk.lo,I s.breed.milk.hi,I s.breed.heal,I s.breed.strong.lo,I s.breed.strong.hi,
  I s.camel.water.lo,I s.camel.water.hi,I s.camel.fat.lo,I s.camel.fat.hi,I s.camel.sore.lo,I s.camel.sore.hi,B s.camel.milks,
  I s.herd,I s.hours,I s.slab,I s.cost,I s.sale,I s.start,I s.day,I s.till,.sl false 6 (s.scenes.map Zh)]
def Zy (p:Plan):List SV:=[.sl false 1 (p.legs.map Zo),I p.animals,I p.slabs]
theorem XX (n lo hi:Int):Ct Tryz.prog 61 [I n,I lo,I hi] (B (inR lo hi n)):=by
 refine t61.1 (by simp [KFL,KF]) (by simp [KFL,KF]) ?_
 dsimp only [c61,r61,go_sem,rA,rM,rS]
 repeat (refine gb ?_;dsimp only [go_sem,rA,rM,rS])
 (simp only [inR,Option.some.injEq,SV.v.injEq,Value.bool.injEq]<;>grind)
theorem Ul (s:Span) (lo hi:Int):Ct Tryz.prog 96 [.agg (Zd s),I lo,I hi] (B (Z3 lo hi s)):=by
 refine t96.1 (by simp [Zd,KFL,KF]) (by simp [KFL,KF]) ?_
 dsimp only [c96,r96,Zd,go_sem,rA,rM,rS]
 refine call (XX _ _ _) ?_
 dsimp only [go_sem,rA,rM,rS]
 repeat (refine gb ?_;dsimp only [go_sem,rA,rM,rS])
 (simp only [Z3,inR,Option.some.injEq,SV.v.injEq,Value.bool.injEq]<;>grind)
theorem Zj3 (lo hi x:Int):Ct Tryz.prog 99 [I x,.ps [I lo] 0,.ps [I hi] 0] (B (!inR lo hi x)):=by
 refine t99.1 (by simp [KFL,KF]) (by simp [KFL,KF]) ?_
 dsimp only [c99,r99,go_sem,rA,rM,rS]
 repeat (refine gb ?_;dsimp only [go_sem,rA,rM,rS])
 (simp only [inR,Option.some.injEq,SV.v.injEq,Value.bool.injEq]<;>grind)
theorem ZbT (lo hi:Int) (l:List Int) (hl:l.length < 4611686018427387904) (c:Bool):Ct Tryz.prog 53 [I lo,I hi,.sl c 1 (l.map Zo)] (B (l.all (inR lo hi))):=by
 refine t53.1 (by simp [Za,Zo,KFL,KF]) (by simp [KFL,KF]) ?_
 dsimp only [c53,r53,go_sem,rA,rM,rS]
 refine UF (by simp [FLT]) (res:=B (l.any fun x=>!inR lo hi x)) ?_ ?_
 . dsimp only [go_sem,rA,rM,rS]
   exact Zz5 99 [.ps [I lo] 0,.ps [I hi] 0] (by simp [KFL,KF]) (fun x=>!inR lo hi x) l (fun x _=>Zj3 lo hi x) hl
 . dsimp only [go_sem,rA,rM,rS]
   simp [List.all_eq_not_any_not]
theorem Zgn (lo hi a:Int) (c:Bool):Ct Tryz.prog 53 [I lo,I hi,.sl c 1 [[I a]]] (B (inR lo hi a)):=by
 have:=ZbT lo hi [a] (by simp) c
 simpa [Zo] using this
theorem ZsM (lo hi a b:Int) (c:Bool):Ct Tryz.prog 53 [I lo,I hi,.sl c 1 [[I a],[I b]]] (B (inR lo hi a && inR lo hi b)):=by
 have:=ZbT lo hi [a,b] (by simp) c
 simpa [Zo] using this
theorem ZeE (lo hi:Int) (s:Span):Ct Tryz.prog 103 [.agg (Zd s),.ps [I lo] 0,.ps [I hi] 0] (B (!Z3 lo hi s)):=by
 refine t103.1 (by simp [Zd,KFL,KF]) (by simp [KFL,KF]) ?_
 dsimp only [c103,r103,Zd,go_sem,rA,rM,rS]
 repeat (first | (refine gb ?_;dsimp only [go_sem,rA,rM,rS]) | (refine call (ZsM _ _ _ _ _) ?_;dsimp only [go_sem,rA,rM,rS]))
 (simp only [Z3,inR,Option.some.injEq,SV.v.injEq,Value.bool.injEq]<;>grind)
theorem ZaO (lo hi:Int) (l:List Span) (hl:l.length < 4611686018427387904) (c:Bool):Ct Tryz.prog 55 [I lo,I hi,.sl c 2 (l.map Zd)] (B (l.all (Z3 lo hi))):=by
 refine t55.1 (by simp [Za,Zd,KFL,KF]) (by simp [KFL,KF]) ?_
 dsimp only [c55,r55,go_sem,rA,rM,rS]
 refine UF (by simp [FLT]) (res:=B (l.any fun x=>!Z3 lo hi x)) ?_ ?_
 . dsimp only [go_sem,rA,rM,rS]
   exact Zta 103 [.ps [I lo] 0,.ps [I hi] 0] (by simp [KFL,KF]) (fun x=>!Z3 lo hi x) l (fun x _=>ZeE lo hi x) hl
 . dsimp only [go_sem,rA,rM,rS]
   simp [List.all_eq_not_any_not]
theorem Zeg (lo hi:Int) (s:Span) (c:Bool):Ct Tryz.prog 55 [I lo,I hi,.sl c 2 [[I s.lo,I s.hi]]] (B (Z3 lo hi s)):=by
 have:=ZaO lo hi [s] (by simp) c
 simpa [Zd] using this
theorem Zkq (s:Season):Ct Tryz.prog 12 [.agg (Zn s)] (B (UX s)):=by
 refine t12.1 (by simp [Zn,Zh,Ze,Zm,Zg,Zd,Zo,Za,KFL,KF]) (by simp [KFL,KF]) ?_
 dsimp only [c12,r12,Zn,go_sem,rA,rM,rS]
 refine call (ZoC s.land) ?_
 dsimp only [go_sem,rA,rM,rS]
 repeat (refine gb ?_;dsimp only [go_sem,rA,rM,rS])
 simp only [List.length_map]
 refine br ?_ ?_
 . intro h
   dsimp only [go_sem,rA,rM,rS]
   (simp only [UX,Option.some.injEq,SV.v.injEq,Value.bool.injEq]<;>grind)
 intro h
 dsimp only [go_sem,rA,rM,rS]
 have hg:UX s=s.scenes.any ZaJ:=by simp only [UX];grind
 have hlen:s.scenes.length<=8:=by grind
 rw [hg]
 refine Xu (fun k:Nat=>[(3,I k)]) (fun _=>[]) (fun k=>k<=s.scenes.length/\(s.scenes.drop k).any ZaJ=s.scenes.any ZaJ) (fun k=>s.scenes.length - k) 0 ⟨Nat.zero_le _,rfl⟩ ?_ ?_
 . (refine Zk ?_ ?_ ?_ rfl rfl<;>dsimp only [Zg,Ze,Zm,Zh,Zd,Zo,id,go_sem,rA,rM,rS]<;>simp [Zg,Ze,Zm,Zh,Zd,Zo,Za,Zf,KFR,KFL,KF,Zc,mtO,nbr])
 intro k ⟨hk,hi⟩
 dsimp only [go_sem,rA,rM,rS]
 simp only [List.length_map]
 by_cases hlt:k < s.scenes.length
 . refine Zu (by simpa using hlt) ?_
   dsimp only [go_sem,rA,rM,rS]
   refine Zr k hlt rfl ?_
   dsimp only [Zh,go_sem,rA,rM,rS]
   repeat (first | (refine gb ?_;dsimp only [go_sem,rA,rM,rS]) | (refine Zr k hlt rfl ?_;dsimp only [Zh,go_sem,rA,rM,rS]))
   simp only [List.length_map]
   rw [List.drop_eq_getElem_cons hlt,List.any_cons] at hi
   refine br ?_ ?_
   . intro hb
     dsimp only [go_sem,rA,rM,rS]
     rw [<- hi];simp only [ZaJ];grind
   . intro hb
     dsimp only [go_sem,rA,rM,rS]
     rw [Zi (n:=(k:Int)+1) (by omega) (by omega)]
     have:ZaJ s.scenes[k]=false:=by simp only [ZaJ];grind
     rw [this,Bool.false_or] at hi
     refine ⟨k+1,⟨hlt,hi⟩,by omega,?_⟩
     (refine Zk ?_ ?_ ?_ rfl rfl<;>dsimp only [Zg,Ze,Zm,Zh,Zd,Zo,id,go_sem,rA,rM,rS]<;>simp [Zg,Ze,Zm,Zh,Zd,Zo,Za,Zf,KFR,KFL,KF,Zc,mtO,nbr])
 refine Zx (by simp;omega) ?_
 dsimp only [go_sem,rA,rM,rS]
 rw [<- hi,List.drop_eq_nil_of_le (by omega)]
 rfl
end Go.Proofs.YtiigiflofnjilaaGreat
namespace Go.Sx
open Go Go.RowKit
theorem Ct.res {P:Program} {f:FuncId} {args:List SV} {res res0:SV} (h:Ct P f args res) (kr:KF res0) (hw:Xs res res0):Ct P f args res0 :=
 ⟨h.1,h.2,kr,fun w ok vs hR=>Calls.mono (h.4 w ok vs hR) fun e w' q=>by
  obtain ⟨y,h1,h2,h3⟩:=q
  exact ⟨y,h1,hw _ _ _ _ _ h2,h3⟩⟩
theorem Wq {l:List SV}:∀ (w:World) (E:Env) (n ok:Nat->Prop) (ys:List Value),RL w E n ok l ys->RL w E n ok l ys:=fun _ _ _ _ _ h=>h
def ZaU (fr:List (Nat × SV)):List Nat->List (Nat × SV)
 | []=>[]
 | t :: ts=>(t,lk t fr) :: ZaU fr ts
theorem ZkV (fr:List (Nat × SV)):ZaU fr []=[]:=rfl
theorem Zhb (fr:List (Nat × SV)) (t:Nat) (ts:List Nat):ZaU fr (t :: ts)=(t,lk t fr) :: ZaU fr ts:=rfl
attribute [go_sem] ZkV Zhb
theorem Zei (fr:List (Nat × SV)):∀ ts,Zys (ZaU fr ts) fr
 | []=>trivial
 | _ :: ts=>⟨rfl,Zei fr ts⟩
theorem UW {m:Nat} {σ : St} (ts:List Nat) (hg:ZyC (ZaU σ.fr ts)=true):Ent m σ ⟨ZaU σ.fr ts,σ.hp,σ.n,σ.N,[]⟩:=by
 intro C E a w _ h
 refine ⟨E,fun t=>?_,h.sz,h.df,fun t j b s ht=>absurd ht (Zfn hg t j b s),h.hs⟩
 have hfr:=h.fr t
 rcases Zjr (Zei σ.fr ts) t with h1 | h1
 . rw [h1];exact trivial
 . rw [h1]
   have:=Zfn hg t
   rw [h1] at this
   cases hq:lk t σ.fr<;>rw [hq] at hfr this<;>first | exact hfr | exact absurd rfl (this _ _ _)
theorem WU {m:Nat} {f:CT} {σ : St} {K:Ex->St->Prop} {S:Type} (ts:List Nat) (hg:ZyC (ZaU σ.fr ts)=true) (ov:S->List (Nat × SV)) (hv:S->List (Nat × HB)) (rel:S->Prop) (μ : S->Nat) (s0:S) (h0:rel s0)
 (he:Ent m ⟨ZaU σ.fr ts,σ.hp,σ.n,σ.N,[]⟩ (stO ⟨ZaU σ.fr ts,σ.hp,σ.n,σ.N,[]⟩ ov hv s0))
 (hb:∀ s,rel s->f (stO ⟨ZaU σ.fr ts,σ.hp,σ.n,σ.N,[]⟩ ov hv s) (Zr5 m (stO ⟨ZaU σ.fr ts,σ.hp,σ.n,σ.N,[]⟩ ov hv) rel μ s K)):ZuF m f σ K :=
 Zd5 (UW ts hg) ov hv rel μ s0 h0 he hb
end Go.Sx
namespace Go.Proofs.YtiigiflofnjilaaGreat
open Go Go.Sx Go.Azalai
theorem Za2 {α : Type} (p:α->Bool) {l:List α} {k:Nat} (h:k < l.length):(l.drop k).all p=(p l[k] && (l.drop (k+1)).all p):=by
 rw [List.drop_eq_getElem_cons h,List.all_cons]
theorem ibne (a b:Nat):((a:Int) != (b:Int)) = !decide (a=b):=by
 rw [Bool.eq_iff_iff];simp [bne];omega
theorem okX1 (n:Nat) (x:Scene):(!Z3 0 60 x.heat || !Z3 0 1000000 x.grass || (x.yields.length:Int) != (n:Int) || !x.yields.all (Z3 0 10000000) || (x.prices.length:Int) != (n:Int) || !x.prices.all (inR 0 1000000)) = !ZG n x:=by
 simp only [ibne,ZG]
 generalize Z3 0 60 x.heat=a;generalize Z3 0 1000000 x.grass=b;generalize decide (x.yields.length=n)=c;generalize decide (x.prices.length=n)=d
 generalize x.yields.all (Z3 0 10000000)=e;generalize x.prices.all (inR 0 1000000)=f
 revert a b c d e f;decide
theorem okX2 (n:Nat) (x:Scene) (h:(!Z3 0 60 x.heat || !Z3 0 1000000 x.grass || (x.yields.length:Int) != (n:Int) || (x.prices.length:Int) != (n:Int))=true):ZG n x=false:=by
 simp only [ibne] at h;simp only [ZG]
 revert h
 generalize Z3 0 60 x.heat=a;generalize Z3 0 1000000 x.grass=b;generalize decide (x.yields.length=n)=c;generalize decide (x.prices.length=n)=d
 generalize x.yields.all (Z3 0 10000000)=e;generalize x.prices.all (inR 0 1000000)=f
 revert a b c d e f;decide
theorem okX3 (n:Nat) (x:Scene) (h:(!Z3 0 60 x.heat || !Z3 0 1000000 x.grass || (x.yields.length:Int) != (n:Int) || (x.prices.length:Int) != (n:Int))=false) :
 ZG n x=(x.yields.all (Z3 0 10000000) && x.prices.all (inR 0 1000000))/\x.yields.length=n/\x.prices.length=n:=by
 simp only [ibne,Bool.or_eq_false_iff,Bool.not_eq_false',decide_eq_true_eq] at h
 obtain ⟨⟨⟨h1,h2⟩,h3⟩,h4⟩:=h
 refine ⟨?_,h3,h4⟩
 simp only [ZG,h1,h2,h3,h4,decide_true,Bool.true_and]
theorem Zkh (s:Season) (hs:SmallS s):∃ xs:List (List SV),KFR xs/\Ct Tryz.prog 52 [.agg (ZY s.land),I s.start,I s.day,.agg (Zd s.pace)] (.tup [.sl false 2 xs,I (Wh s.land s.pace s.start s.day)]):=by
 have h:=Zeo s.land hs.land s.start s.day s.pace
 unfold XQ at h;split at h
 . exact ⟨_,by simp [Za,Zd,KFL,KF],h⟩
 . exact ⟨[],trivial,h.res (res0:=.tup [.sl false 2 [],I (Wh s.land s.pace s.start s.day)]) (by simp [Za,KFR,KFL,KF]) (Wn (Z0 YR Wq))⟩
theorem ZlC {s:Season}:Wh s.land s.pace s.start s.day=0↔ZA s.land=true/\ZX s.pace=true/\inR 0 (s.land.wells.length - 1) s.start=true/\inR 0 100000 s.day=true:=by
 unfold Wh Zay
 cases ZA s.land<;>cases ZX s.pace<;>cases inR 0 (s.land.wells.length - 1) s.start<;>cases inR 0 100000 s.day<;>simp
theorem ZgA (s:Season):Zt s=((decide (Wh s.land s.pace s.start s.day=0) && decide (Zcs s.breed s.camel=0) && W9 s && inR 1 4 s.scenes.length) && s.scenes.all (ZG s.land.wells.length)):=by
 have hd:W9 s=true->inR 0 100000 s.day=true:=fun h=>by
  simp only [W9,inR,Bool.and_eq_true,decide_eq_true_eq] at h ⊢;omega
 have hr:decide (Wh s.land s.pace s.start s.day=0)=(ZA s.land && ZX s.pace && inR 0 (s.land.wells.length - 1) s.start && inR 0 100000 s.day):=by
  rw [Bool.eq_iff_iff,decide_eq_true_eq,ZlC];simp only [Bool.and_eq_true,and_assoc]
 rw [hr]
 simp only [Zt]
 cases hn:W9 s
 . simp
 . rw [hd hn]
   cases ZA s.land<;>cases ZX s.pace<;>cases inR 0 (s.land.wells.length - 1) s.start<;>simp
theorem ZbK (s:Season) (hs:SmallS s):Ct Tryz.prog 16 [.agg (Zn s)] (I (if Zt s=true then 0 else 90)):=by
 have hw:=hs.land.1
 have hsc:=hs.sc
 refine t16.1 (by simp [Zn,Zh,Ze,Zm,Zg,Zd,Zo,Za,KFL,KF]) (by simp [KFL,KF]) ?_
 dsimp only [c16,r16,Zn,go_sem,rA,rM,rS]
 obtain ⟨x,hx0,hc⟩:=Zkh s hs
 refine call hc ?_
 dsimp only [go_sem,rA,rM,rS]
 repeat (first | (refine gb ?_;dsimp only [go_sem,rA,rM,rS]) | (refine call (Zgn _ _ _ _) ?_;dsimp only [go_sem,rA,rM,rS]) | (refine call (ZsM _ _ _ _ _) ?_;dsimp only [go_sem,rA,rM,rS]) | (refine call (Cm.checkCamel_ok s.breed s.camel) ?_;dsimp only [go_sem,rA,rM,rS]))
 simp only [List.length_map]
 by_cases hA:(decide (Wh s.land s.pace s.start s.day=0) && decide (Zcs s.breed s.camel=0) && W9 s && inR 1 4 s.scenes.length)=true
 case neg =>
  refine Zu ?_ ?_
  . simp only [W9] at hA;grind
  dsimp only [go_sem,rA,rM,rS]
  rw [ZgA,Bool.eq_false_iff.2 hA,Bool.false_and];rfl
 refine Zx ?_ ?_
 . simp only [W9] at hA;grind
 dsimp only [go_sem,rA,rM,rS]
 rw [ZgA,hA,Bool.true_and]
 simp only [List.length_map]
 refine WU [1,3,85,86,87] rfl (fun k:Nat=>[(87,I k)]) (fun _=>[]) (fun k=>k<=s.scenes.length/\(s.scenes.drop k).all (ZG s.land.wells.length)=s.scenes.all (ZG s.land.wells.length)) (fun k=>s.scenes.length - k) 0 ⟨Nat.zero_le _,rfl⟩ ?_ ?_
 . (refine Zk ?_ ?_ ?_ rfl rfl<;>dsimp only [Zg,Ze,Zm,Zh,Zd,Zo,hx0,id,go_sem,rA,rM,rS]<;>simp [Zg,Ze,Zm,Zh,Zd,Zo,hx0,Za,Zf,KFR,KFL,KF,Zc,mtO,nbr])
 intro k ⟨hk,hi⟩
 dsimp only [go_sem,rA,rM,rS]
 by_cases hlt:k < s.scenes.length
 . refine Zu (by simpa using hlt) ?_
   dsimp only [go_sem,rA,rM,rS]
   have hx:=hs.each _ (List.getElem_mem hlt)
   refine Zr k hlt rfl ?_
   dsimp only [Zh,go_sem,rA,rM,rS]
   repeat (first | (refine gb ?_;dsimp only [go_sem,rA,rM,rS]) | (refine call (Zeg _ _ s.scenes[k].heat _) ?_;dsimp only [go_sem,rA,rM,rS]) | (refine call (Zeg _ _ s.scenes[k].grass _) ?_;dsimp only [go_sem,rA,rM,rS]) | (refine call (ZaO _ _ s.scenes[k].yields (by omega) _) ?_;dsimp only [go_sem,rA,rM,rS]) | (refine call (ZbT _ _ s.scenes[k].prices (by omega) _) ?_;dsimp only [go_sem,rA,rM,rS]))
   simp only [List.length_map]
   rw [Za2 _ hlt] at hi
   rw [okX1]
   refine br ?_ ?_
   . intro hb
     dsimp only [go_sem,rA,rM,rS]
     rw [<- hi,(by simpa using hb:ZG s.land.wells.length s.scenes[k]=false)];rfl
   intro hb
   dsimp only [go_sem,rA,rM,rS]
   rw [Zi (n:=(k:Int)+1) (by omega) (by omega)]
   rw [(by simpa using hb:ZG s.land.wells.length s.scenes[k]=true),Bool.true_and] at hi
   refine ⟨k+1,⟨hlt,hi⟩,by omega,?_⟩
   (refine Zk ?_ ?_ ?_ rfl rfl<;>dsimp only [Zg,Ze,Zm,Zh,Zd,Zo,hx0,id,go_sem,rA,rM,rS]<;>simp [Zg,Ze,Zm,Zh,Zd,Zo,hx0,Za,Zf,KFR,KFL,KF,Zc,mtO,nbr])
 refine Zx (by simp;omega) ?_
 dsimp only [go_sem,rA,rM,rS]
 rw [<- hi,List.drop_eq_nil_of_le (by omega)]
 rfl
theorem Zk2 (s:Season) (hs:SmallS s):Ct Tryz.prog 50 [.agg (Zn s)] (B (Zt s)):=by
 refine t50.1 (by simp [Zn,Zh,Ze,Zm,Zg,Zd,Zo,Za,KFL,KF]) (by simp [KFL,KF]) ?_
 dsimp only [c50,r50,Zn,go_sem,rA,rM,rS]
 refine call (Zmf s.land hs.land) ?_
 dsimp only [go_sem,rA,rM,rS]
 repeat (first | (refine gb ?_;dsimp only [go_sem,rA,rM,rS]) | (refine call (Zrm s.pace) ?_;dsimp only [go_sem,rA,rM,rS]) | (refine call (Cm.checkCamelR_ok s.breed s.camel) ?_;dsimp only [go_sem,rA,rM,rS]))
 have hw:=hs.land.1
 have hsc:=hs.sc
 refine br ?_ ?_
 . intro h
   dsimp only [go_sem,rA,rM,rS]
   (simp only [Zt,Option.some.injEq,SV.v.injEq,Value.bool.injEq]<;>grind)
 intro h
 dsimp only [go_sem,rA,rM,rS]
 repeat (first | (refine gb ?_;dsimp only [go_sem,rA,rM,rS]) | (refine call (XX _ _ _) ?_;dsimp only [go_sem,rA,rM,rS]))
 refine br ?_ ?_
 . intro h2
   dsimp only [go_sem,rA,rM,rS]
   (simp only [Zt,W9,Option.some.injEq,SV.v.injEq,Value.bool.injEq]<;>grind)
 intro h2
 dsimp only [go_sem,rA,rM,rS]
 simp only [List.length_map]
 rw [Zi (n:=(s.land.wells.length:Int) - 1) (by omega) (by omega)]
 repeat (first | (refine gb ?_;dsimp only [go_sem,rA,rM,rS]) | (refine call (XX _ _ _) ?_;dsimp only [go_sem,rA,rM,rS]))
 simp only [List.length_map]
 refine br ?_ ?_
 . intro h3
   dsimp only [go_sem,rA,rM,rS]
   (simp only [Zt,W9,Option.some.injEq,SV.v.injEq,Value.bool.injEq]<;>grind)
 intro h3
 dsimp only [go_sem,rA,rM,rS]
 have hO:Zt s=s.scenes.all (ZG s.land.wells.length):=by simp only [Zt,W9];grind
 rw [hO]
 refine WU [1,3] rfl (fun k:Nat=>[(3,I k)]) (fun _=>[]) (fun k=>k<=s.scenes.length/\(s.scenes.drop k).all (ZG s.land.wells.length)=s.scenes.all (ZG s.land.wells.length)) (fun k=>s.scenes.length - k) 0 ⟨Nat.zero_le _,rfl⟩ ?_ ?_
 . (refine Zk ?_ ?_ ?_ rfl rfl<;>dsimp only [Zg,Ze,Zm,Zh,Zd,Zo,id,go_sem,rA,rM,rS]<;>simp [Zg,Ze,Zm,Zh,Zd,Zo,Za,Zf,KFR,KFL,KF,Zc,mtO,nbr])
 intro k ⟨hk,hi⟩
 dsimp only [go_sem,rA,rM,rS]
 simp only [List.length_map]
 by_cases hlt:k < s.scenes.length
 . refine Zu (by simpa using hlt) ?_
   dsimp only [go_sem,rA,rM,rS]
   have hx:=hs.each _ (List.getElem_mem hlt)
   refine Zr k hlt rfl ?_
   dsimp only [Zh,go_sem,rA,rM,rS]
   rw [Za2 _ hlt] at hi
   repeat (first | (refine gb ?_;dsimp only [go_sem,rA,rM,rS]) | (refine call (Ul s.scenes[k].heat _ _) ?_;dsimp only [go_sem,rA,rM,rS]) | (refine call (Ul s.scenes[k].grass _ _) ?_;dsimp only [go_sem,rA,rM,rS]))
   simp only [List.length_map]
   refine br ?_ ?_
   . intro hb
     dsimp only [go_sem,rA,rM,rS]
     rw [<- hi,okX2 _ _ hb];rfl
   intro hb
   dsimp only [go_sem,rA,rM,rS]
   obtain ⟨hy,hx1,hx2⟩:=okX3 _ _ hb
   rw [hy] at hi
   refine WU [1,3,4,5] rfl (fun j:Nat=>[(5,I j)]) (fun _=>[]) (fun j=>j<=s.scenes[k].yields.length/\((s.scenes[k].yields.drop j).all (Z3 0 10000000) && (s.scenes[k].prices.drop j).all (inR 0 1000000))=(s.scenes[k].yields.all (Z3 0 10000000) && s.scenes[k].prices.all (inR 0 1000000))) (fun j=>s.scenes[k].yields.length - j) 0 ⟨Nat.zero_le _,rfl⟩ ?_ ?_
   . (refine Zk ?_ ?_ ?_ rfl rfl<;>dsimp only [Zg,Ze,Zm,Zh,Zd,Zo,id,go_sem,rA,rM,rS]<;>simp [Zg,Ze,Zm,Zh,Zd,Zo,Za,Zf,KFR,KFL,KF,Zc,mtO,nbr])
   intro j ⟨hj,hij⟩
   dsimp only [go_sem,rA,rM,rS]
   simp only [List.length_map]
   by_cases hlj:j < s.scenes[k].yields.length
   . refine Zu (by simpa using hlj) ?_
     dsimp only [go_sem,rA,rM,rS]
     refine Zr j hlj rfl ?_
     dsimp only [Zd,go_sem,rA,rM,rS]
     refine call (Ul s.scenes[k].yields[j] _ _) ?_
     dsimp only [go_sem,rA,rM,rS]
     have hlp:j < s.scenes[k].prices.length:=by omega
     rw [Za2 _ hlj,Za2 _ hlp] at hij
     repeat (first | (refine gb ?_;dsimp only [go_sem,rA,rM,rS]) | (refine Zr j hlp rfl ?_;dsimp only [Zo,go_sem,rA,rM,rS]) | (refine Ztb j hlp rfl ?_;dsimp only [Zo,go_sem,rA,rM,rS]) | (refine call (XX _ _ _) ?_;dsimp only [go_sem,rA,rM,rS]))
     refine br ?_ ?_
     . intro hc
       dsimp only [go_sem,rA,rM,rS]
       rw [<- hi,<- hij]
       cases h1:Z3 0 10000000 s.scenes[k].yields[j]<;>cases h2:inR 0 1000000 s.scenes[k].prices[j]<;>simp [h1,h2] at hc ⊢
     intro hc
     dsimp only [go_sem,rA,rM,rS]
     rw [Zi (n:=(j:Int)+1) (by omega) (by omega)]
     simp only [Bool.or_eq_false_iff,Bool.not_eq_false'] at hc
     rw [hc.1,hc.2,Bool.true_and,Bool.true_and] at hij
     refine ⟨j+1,⟨hlj,hij⟩,by omega,?_⟩
     (refine Zk ?_ ?_ ?_ rfl rfl<;>dsimp only [Zg,Ze,Zm,Zh,Zd,Zo,id,go_sem,rA,rM,rS]<;>simp [Zg,Ze,Zm,Zh,Zd,Zo,Za,Zf,KFR,KFL,KF,Zc,mtO,nbr])
   refine Zx (by simp;omega) ?_
   dsimp only [go_sem,rA,rM,rS]
   rw [List.drop_eq_nil_of_le (by omega),List.drop_eq_nil_of_le (by omega)] at hij
   rw [<- hij] at hi
   rw [Zi (n:=(k:Int)+1) (by omega) (by omega)]
   refine ⟨k+1,⟨hlt,by simpa using hi⟩,by omega,?_⟩
   (refine Zk ?_ ?_ ?_ rfl rfl<;>dsimp only [Zg,Ze,Zm,Zh,Zd,Zo,id,go_sem,rA,rM,rS]<;>simp [Zg,Ze,Zm,Zh,Zd,Zo,Za,Zf,KFR,KFL,KF,Zc,mtO,nbr])
 refine Zx (by simp;omega) ?_
 dsimp only [go_sem,rA,rM,rS]
 rw [<- hi,List.drop_eq_nil_of_le (by omega)]
 rfl
end Go.Proofs.YtiigiflofnjilaaGreat
namespace Go.Azalai
open Go.Sx
def VH (l:Land) (p:Span) (to till:Int):Nat->List Int->Int->Int->List (List Nat)
 | 0,_,_,_=>[]
 | f+1,been,v,t =>
  if t > till then []
  else if v=to then [[]]
  else (List.range l.legs.length).flatMap fun i=>match l.legs[i]? with
   | none=>[]
   | some x=>if Zl x v < 0\/Zl x v ∈ v :: been then [] else (VH l p to till f (v :: been) (Zl x v) (ZU true x p t)).map (i :: ·)
def Wr (l:Land) (p:Span) (to till:Int) (f:Nat) (been:List Int) (v t:Int) (i:Nat):List (List Nat) :=
 match l.legs[i]? with
 | none=>[]
 | some x=>if Zl x v < 0\/Zl x v ∈ v :: been then [] else (VH l p to till f (v :: been) (Zl x v) (ZU true x p t)).map (i :: ·)
def YT (l:Land) (p:Span) (to till:Int) (f:Nat) (been:List Int) (v t:Int) (j:Nat):List (List Nat):=(List.range j).flatMap (Wr l p to till f been v t)
theorem ZmA {l:Land} {p:Span} {to till:Int} {f:Nat} {been:List Int} {v t:Int}:YT l p to till f been v t 0=[]:=rfl
theorem Xc {l:Land} {p:Span} {to till:Int} {f:Nat} {been:List Int} {v t:Int} {j:Nat}:YT l p to till f been v t (j+1)=YT l p to till f been v t j ++ Wr l p to till f been v t j:=by
 simp [YT,List.range_succ]
theorem XZ {l:Land} {p:Span} {to till:Int} {f:Nat} {been:List Int} {v t:Int}:VH l p to till (f+1) been v t=if t > till then [] else if v=to then [[]] else YT l p to till f been v t l.legs.length:=rfl
theorem Zho {l:Land} {p:Span} {to till:Int} {f:Nat} {been:List Int} {v t:Int} (h:t > till):VH l p to till f been v t=[]:=by
 cases f with
 | zero=>rfl
 | succ f=>rw [XZ,if_pos h]
def cap (L:List (List Nat)):List (List Nat):=L.take 201
theorem Zmy {A B:List (List Nat)} (h:A.length > 200):cap (A ++ B)=cap A:=by
 unfold cap;rw [List.take_append_of_le_length (by omega)]
theorem Zc2 {A:List (List Nat)} (h:A.length<=201):cap A=A:=List.take_of_length_le h
def Zm4 (l:Land) (f:Nat) (been:List Int):Prop:=been.Nodup/\(∀ v ∈ been,0<=v/\v < l.wells.length)/\f+been.length=l.wells.length+1
theorem Zd1 {n:Nat}:∀ {been:List Int},been.Nodup->(∀ v ∈ been,0<=v/\v < n)->been.length<=n:=by
 intro been hn hb
 have h1:(been.map Int.toNat).Nodup:=by
  rw [List.Nodup,List.pairwise_map]
  refine List.Pairwise.imp_of_mem (fun {a b} ha hb' hab=>?_) hn
  have:=hb a ha;have:=hb b hb';omega
 have h2:∀ x ∈ been.map Int.toNat,x ∈ List.range n:=fun x hx=>by
  obtain ⟨v,hv,rfl⟩:=List.mem_map.1 hx
  have:=hb v hv
  simp only [List.mem_range];omega
 have:=List.Nodup.length_le_of_subset h1 h2
 simpa using this
theorem Zm4.pos {l:Land} {f:Nat} {been:List Int} {v:Int} (h:Zm4 l f been) (hv:v ∉ been) (hi:0<=v/\v < l.wells.length):∃ g,f=g+1/\Zm4 l g (v :: been):=by
 obtain ⟨h1,h2,h3⟩:=h
 have hn:(v :: been).Nodup:=List.nodup_cons.2 ⟨hv,h1⟩
 have hb:∀ u ∈ v :: been,0<=u/\u < l.wells.length:=fun u hu=>by
  rcases List.mem_cons.1 hu with rfl | hu
  . exact hi
  . exact h2 u hu
 have:=Zd1 hn hb
 simp only [List.length_cons] at this
 exact ⟨f - 1,by omega,hn,hb,by simp only [List.length_cons];omega⟩
theorem Zm4.start {l:Land}:Zm4 l (l.wells.length+1) []:=⟨List.nodup_nil,fun v h=>(by cases h),by simp⟩
def Zdy (l:Land) (p:Span) (s to day till:Int):Int :=
 if Zay l p≠0 then Zay l p
 else if (inR 0 (l.wells.length - 1) s && inR 0 (l.wells.length - 1) to && inR 0 100000 day && inR 0 100000 till)=false then 2
 else if (VH l p to till (l.wells.length+1) [] s day).length > 200 then 9 else 0
def Zag (l:Land) (p:Span) (s to day till:Int):List (List Nat):=VH l p to till (l.wells.length+1) [] s day
end Go.Azalai
namespace Go.Proofs.YtiigiflofnjilaaGreat
open Go Go.Sx Go.Azalai
def YY (n:Nat):List SV:=[I (n:Int)]
def YF (a:List Nat):SV:=.sl false 1 (a.map YY)
theorem ZsI (a:Int):Ct Tryz.prog 171 [I a] (B false):=by
 refine t171.1 (by simp [KFR,KFL,KF]) (by simp [KFL,KF]) ?_
 dsimp only [c171,r171,go_sem,rA,rM,rS]
 simp
def Zm2 (a b:Int):Int:=if a < b then -1 else if a > b then 1 else 0
theorem ZxF (a b:Int):Ct Tryz.prog 157 [I a,I b] (I (Zm2 a b)):=by
 refine t157.1 (by simp [KFR,KFL,KF]) (by simp [KFL,KF]) ?_
 dsimp only [c157,r157,go_sem,rA,rM,rS]
 refine call (ZsI a) ?_
 dsimp only [go_sem,rA,rM,rS]
 refine call (ZsI b) ?_
 dsimp only [go_sem,rA,rM,rS]
 refine Zx rfl ?_
 dsimp only [go_sem,rA,rM,rS]
 refine Zx rfl ?_
 dsimp only [go_sem,rA,rM,rS]
 by_cases h:a < b
 . refine Zu (by simpa using h) ?_
   dsimp only [go_sem,rA,rM,rS]
   simp [Zm2,h]
 refine Zx (by simpa using h) ?_
 dsimp only [go_sem,rA,rM,rS]
 by_cases h':a > b
 . refine Zu (by simpa using h') ?_
   dsimp only [go_sem,rA,rM,rS]
   simp only [Zm2,if_neg h,if_pos h']
 refine Zx (by simpa using h') ?_
 dsimp only [go_sem,rA,rM,rS]
 simp only [Zm2,if_neg h,if_neg h']
def ZaB:List Nat->List Nat->Int
 | [],[]=>0
 | [],_ :: _=>-1
 | _ :: _,[]=>1
 | x :: a,y :: b=>if x < y then -1 else if x > y then 1 else ZaB a b
theorem ZgJ:∀ {a b:List Nat},decide (ZaB a b < 0)=Vr a b
 | [],[]=>rfl
 | [],_ :: _=>rfl
 | _ :: _,[]=>rfl
 | x :: a,y :: b=>by
  have ih:=ZgJ (a:=a) (b:=b)
  have e:ZaB (x :: a) (y :: b)=if x < y then -1 else if x > y then 1 else ZaB a b:=rfl
  generalize ZaB (x :: a) (y :: b)=c at e
  subst e
  simp only [Vr]
  by_cases h:x < y
  . simp [h]
  . by_cases h':x > y
    . have:(x == y)=false:=by simp;omega
      rw [this];simp [h,h']
    . have:(x == y)=true:=by simp;omega
      rw [this];simp [h,h',<- ih]
theorem ZgZ (a b:List Nat) (ha:a.length<=1000000) (hb:b.length<=1000000):Ct Tryz.prog 114 [YF a,YF b] (I (ZaB a b)):=by
 refine t114.1 (by simp [Za,YF,YY,KFL,KF]) (by simp [KFL,KF]) ?_
 dsimp only [c114,r114,YF,go_sem,rA,rM,rS]
 simp only [List.length_map]
 refine Xu (fun j:Nat=>[(11,I j)]) (fun _=>[]) (fun j=>j<=a.length/\ZaB (a.drop j) (b.drop j)=ZaB a b/\j<=b.length) (fun j=>a.length - j) 0 ⟨Nat.zero_le _,rfl,Nat.zero_le _⟩ ?_ ?_
 . (refine Zk ?_ ?_ ?_ rfl rfl<;>dsimp only [YY,id,go_sem,rA,rM,rS]<;>simp [YY,Za,Zf,KFR,KFL,KF,Zc,mtO,nbr])
 rintro j ⟨hj,hi,hjb⟩
 dsimp only [go_sem,rA,rM,rS]
 by_cases hlt:j < a.length
 . refine Zu (by simpa using hlt) ?_
   dsimp only [go_sem,rA,rM,rS]
   refine Zr j hlt rfl ?_
   dsimp only [YY,go_sem,rA,rM,rS]
   simp only [List.length_map]
   rw [List.drop_eq_getElem_cons hlt] at hi
   by_cases hb:j < b.length
   . refine Zx (by simpa using hb) ?_
     dsimp only [go_sem,rA,rM,rS]
     refine Zr j hb rfl ?_
     dsimp only [YY,go_sem,rA,rM,rS]
     refine call (ZxF _ _) ?_
     dsimp only [go_sem,rA,rM,rS]
     rw [List.drop_eq_getElem_cons hb] at hi
     simp only [ZaB] at hi
     by_cases h:a[j] < b[j]
     . rw [if_pos h] at hi
       have e:Zm2 (a[j]:Int) (b[j]:Int) = -1:=by simp only [Zm2];rw [if_pos (by omega)]
       rw [e]
       refine Zu rfl ?_
       dsimp only [go_sem,rA,rM,rS]
       rw [<- hi]
     rw [if_neg h] at hi
     by_cases h':a[j] > b[j]
     . rw [if_pos h'] at hi
       have e:Zm2 (a[j]:Int) (b[j]:Int)=1:=by simp only [Zm2];rw [if_neg (by omega),if_pos (by omega)]
       rw [e]
       refine Zu rfl ?_
       dsimp only [go_sem,rA,rM,rS]
       rw [<- hi]
     rw [if_neg h'] at hi
     have e:Zm2 (a[j]:Int) (b[j]:Int)=0:=by simp only [Zm2];rw [if_neg (by omega),if_neg (by omega)]
     rw [e]
     refine Zx rfl ?_
     dsimp only [go_sem,rA,rM,rS]
     rw [Zi (n:=(j:Int)+1) (by omega) (by omega)]
     refine ⟨j+1,⟨hlt,hi,hb⟩,by omega,?_⟩
     (refine Zk ?_ ?_ ?_ rfl rfl<;>dsimp only [YY,id,go_sem,rA,rM,rS]<;>simp [YY,Za,Zf,KFR,KFL,KF,Zc,mtO,nbr])
   . refine Zu (by simp;omega) ?_
     dsimp only [go_sem,rA,rM,rS]
     rw [List.drop_of_length_le (l:=b) (i:=j) (by omega)] at hi
     simp only [ZaB] at hi
     rw [<- hi]
 refine Zx (by simp;omega) ?_
 dsimp only [go_sem,rA,rM,rS]
 simp only [List.length_map]
 rw [List.drop_of_length_le (by omega)] at hi
 have hje:j=a.length:=by omega
 subst hje
 by_cases hb:a.length < b.length
 . refine Zu (by simpa using hb) ?_
   dsimp only [go_sem,rA,rM,rS]
   rw [List.drop_eq_getElem_cons hb] at hi
   simp only [ZaB] at hi
   rw [<- hi]
 . refine Zx (by simpa using hb) ?_
   dsimp only [go_sem,rA,rM,rS]
   rw [List.drop_of_length_le (by omega)] at hi
   simp only [ZaB] at hi
   rw [<- hi]
theorem u78 {args:List SV} {res:SV} (ka:KFL args) (kr:KF res) (h:sx Tryz.prog Y0 0 c110 (st0 args 8) (ZpG r110 res)) (hA:Nat.ble args.length 8=true:=by rfl):Ct Tryz.prog 110 args res:=WE Tryz.func110 rfl b110 Zt7 Zwi n110 (Nat.le_of_ble_eq_true hA) ka kr h
theorem Zeq (a:List Nat) (ha:a.length<=1000000):Ct Tryz.prog 110 [YF a] (YF a):=by
 refine u78 (by simp [Za,YF,YY,KFL,KF]) (by simp [Za,YF,YY,KFL,KF]) ?_
 dsimp only [c110,r110,YF,go_sem,rA,rM,rS]
 intro b hb
 dsimp only [go_sem,rA,rM,rS]
 refine br ?_ ?_
 . intro h
   have:=hb h
   dsimp only [go_sem,rA,rM,rS]
   rw [List.map_eq_nil_iff.1 this]
   exact ⟨_,rfl,YR⟩
 . intro h
   dsimp only [go_sem,rA,rM,rS]
   refine Zm1 (by simp;omega) ?_
   dsimp only [go_sem,rA,rM,rS]
   exact ⟨_,rfl,Xs.rfl⟩
theorem Zvp (a:List Nat) (ha:a.length<=1000000):Ct Tryz.prog 154 [YF a] (.sl true 1 (a.map YY)):=by
 refine t154.1 (by simp [Za,YF,YY,KFL,KF]) (by simp [Za,YF,YY,KFL,KF]) ?_
 dsimp only [c154,r154,YF,go_sem,rA,rM,rS]
 refine ⟨ZB.2 fun _=>⟨rfl,rfl⟩,?_⟩
 dsimp only [go_sem,rA,rM,rS]
theorem ZlR (a:List Nat) (i:Nat) (ha:a.length<=1000000):Ct Tryz.prog 112 [YF a,I i] (YF (a ++ [i])):=by
 refine t112.1 (by simp [Za,YF,YY,KFL,KF]) (by simp [KFL,KF,YF,Za,YY,Zf,KFR]) ?_
 dsimp only [c112,r112,go_sem,rA,rM,rS]
 refine call (Zeq a ha) ?_
 dsimp only [go_sem,rA,rM,rS]
 refine call (Zvp a ha) ?_
 dsimp only [go_sem,rA,rM,rS]
 refine Zm1 (by simp;omega) ?_
 dsimp only [YF,go_sem,rA,rM,rS]
 simp [YY]
theorem Yd {K V:Type} {key:K->Value} {val:V->SV}:mpS key val ([]:List (Nat × K × V))=[]:=rfl
def c109:FB:=(.seq (.gh (.reg [
 o1 8 (.box (.t 0) 0 201),
 o1 9 (.box (.t 1) 0 35),
 o1 10 (.alloc [.bool false] 4)]))
 (.seq (.seq (.reg [
 o1 13 (.addo (.t 8) 1),
 o1 14 (.ld (.t 13) 1 false),
 o1 15 (.ld (.t 2) 1 false),
 o1 16 (.bin .gtr (.t 14) (.t 15))])
 (.cond (.t 16)
 (.seq (.reg [
  ⟨none,.st (.t 10) (.c (.bool true)) 1,none,[]⟩])
  .ret)
 .skip))
 (.seq (.seq (.reg [
 o1 17 (.addo (.t 8) 0),
 o1 18 (.ld (.t 17) 1 false),
 o1 19 (.ld (.t 3) 1 false),
 o1 20 (.bin .eql (.t 18) (.t 19))])
 (.cond (.t 20)
 (.seq (.regd [0,1,2,3,4,5] [
  .op (o1 21 (.ld (.t 4) 1 false)),
  .op (o1 22 (.ld (.t 9) 1 false)),
  .op ⟨some 23,.call 110 [.t 22],none,[1]⟩,
  .op ⟨some 24,.bsl 1 35 [.t 23],none,[2]⟩] 0 2 [
  ⟨some 25,.appm 1 24 35 (.t 21) (.t 24),none,[0,2,3]⟩,
  ⟨none,.st (.t 4) (.t 25) 1,none,[0,1,2,3,4]⟩])
  (.seq (.reg [
  o1 26 (.ld (.t 4) 1 false),
  o1 27 (.len (.t 26)),
  o1 28 (.bin .leq (.t 27) (.c (.int .i64 200))),
  ⟨none,.st (.t 10) (.t 28) 1,none,[]⟩])
  .ret))
 .skip))
 (.seq (.reg [
 o1 29 (.ld (.t 5) 1 false),
 o1 30 (.addo (.t 8) 0),
 o1 31 (.ld (.t 30) 1 false),
 ⟨none,.raw (Go.Op.mapUpdate 189 (Go.Operand.tmp 29) (Go.Operand.tmp 31) (Go.Operand.const (Go.Value.bool Bool.true))) 0,none,[]⟩])
 (.dfr [
 o1 32 (.ld (.t 5) 1 false),
 o1 33 (.addo (.t 8) 0),
 o1 34 (.ld (.t 33) 1 false)] (.t 32) (.t 34) 189
 (.tail (.seq (.seq (.reg [
 o1 35 (.ld (.t 6) 4 true),
 o1 36 (.addo (.t 8) 0),
 o1 37 (.ld (.t 36) 1 false),
 o1 38 (.callm 111 [.t 35,.t 37])])
 (.block 0 (.gh (.rfun (.t 38) [39,40] (.seq (.reg [
  m1 11 39])
  (.reg [
  m1 12 40]))
  (.block 1 (.seq (.regs [0,1,2,3,4,5,6,7,8,9,10,11,12,13,14,15,16,17,18,19,20,21,22] ⟨[
   .op (o1 41 (.ld (.t 5) 1 false)),
   .op (m1 42 12)],0,0,[
   ⟨some 43,.raw (Go.Op.lookup 189 (Go.Operand.tmp 41) (Go.Operand.tmp 42) Bool.false) 4,none,[0,1]⟩]⟩ [⟨[
   .op ⟨some 44,.un .not (.t 43),none,[2]⟩,
   .op ⟨some 45,.mv (.t 44),none,[3]⟩,
   .op ⟨some 46,.ld (.t 7) 1 false,some (45,true),[4]⟩,
   .op ⟨some 47,.mv (.t 12),some (45,true),[4]⟩,
   .op ⟨some 48,.ld (.t 6) 4 true,some (45,true),[4]⟩,
   .op ⟨some 49,.mv (.t 11),some (45,true),[4]⟩,
   .op ⟨some 50,.addo (.t 8) 1,some (45,true),[4]⟩,
   .op ⟨some 51,.ld (.t 50) 1 false,some (45,true),[4,9]⟩,
   .op ⟨some 52,.addo (.t 8) 1,some (45,true),[4]⟩,
   .op ⟨some 53,.ld (.t 52) 1 false,some (45,true),[4,11]⟩,
   .op ⟨some 54,.build [.int .i64 0,.int .i64 0] [(0,1,.t 51),(1,1,.t 53)],some (45,true),[4,10,12]⟩,
   .op ⟨some 55,.call 79 [.t 48,.t 49,.t 54],some (45,true),[4,7,8,13]⟩,
   .op ⟨some 56,.idx (.t 55) (.c (.int .i64 1)) 2 1 false,some (45,true),[4,14]⟩,
   .op ⟨some 57,.build [.int .i64 0,.int .i64 0] [(0,1,.t 47),(1,1,.t 56)],some (45,true),[4,6,15]⟩,
   .op ⟨some 58,.ld (.t 9) 1 false,some (45,true),[4]⟩,
   .op ⟨some 59,.mv (.t 11),some (45,true),[4]⟩,
   .op ⟨some 60,.call 112 [.t 58,.t 59],some (45,true),[4,14,17,18]⟩],0,0,[
   ⟨some 61,.calvm (.t 46) [.t 57,.t 60],some (45,true),[4,5,16,19]⟩,
   ⟨some 62,.un .not (.t 61),some (45,true),[4,20]⟩,
   ⟨some 63,.pick (.t 45) (.t 62) (.c (.bool false)),none,[4,21]⟩]⟩])
   (.cond (.t 63)
   (.seq (.reg [
    ⟨none,.st (.t 10) (.c (.bool false)) 1,none,[]⟩])
    .ret)
   .skip)))))))
 (.seq (.reg [
 ⟨none,.st (.t 10) (.c (.bool true)) 1,none,[]⟩])
 .ret))))))))
def r109:List RV:=[.cell 10 1 false]
theorem n109:Tryz.f109.ntmps=64:=by kernel_rfl
theorem b109:YI Tryz.prog 109=true:=by kernel_rfl
theorem Zux:ZaS Tryz.prog c109 ((Tryz.f109.body).getD .skip)=true:=by kernel_rfl
theorem ZuS:Wg Tryz.prog r109 Tryz.f109.results.toList=true:=by kernel_rfl
theorem m109 {n0:Nat} {hp0:List (Nat × HB)} {args:List SV} {Z6:Ot->Prop} (hh:hpb n0 hp0) (hx:∀ o,Z6 o->KX o.res/\KXP o.hp) (h:fx Tryz.prog n0 c109 ⟨We 0 args,hp0,n0,64,[]⟩ (Zct r109 fun o=>∃ o',Z6 o'/\ZdV n0 o o')) (hA:Nat.ble args.length 64=true:=by rfl):CtM Tryz.prog 109 hp0 n0 args Z6:=ZcM Tryz.func109 rfl b109 Zux ZuS n109 (Nat.le_of_ble_eq_true hA) hh hx h
def c65:SC:=(sr1 [
 o1 6 (.box (.t 0) 0 25),
 o1 8 (.box (.t 2) 0 3),
 o1 10 (.box (.t 4) 0 3),
 o1 11 (.box (.t 5) 0 27),
 o1 12 (.mv (.c (.slice none 0 0))),
 o1 13 (.mv (cn 0))]
 (sr1 [
 o1 20 (lt 6 2),
 o1 21 (lt 11 2),
 o1 22 (.call 75 [.t 20,.t 21]),
 m1 19 22,
 o1 23 (.ext (.t 19) 0),
 o1 24 (.ext (.t 19) 1),
 o1 14 (.alloc [.slice none 0 0,.slice none 0 0,.int .i64 0,.int .i64 0] 160),
 ⟨none,.st (.t 14) (.t 23) 4,none,[]⟩,
 m1 15 24]
 (.seq (.block 0 (sr1 [
  m1 26 15,
  o1 27 (.bin .neq (.t 26) (cn 0)),
  m1 25 27]
  (.cond (.t 25)
  (sr1 [
   m1 28 15,
   o1 12 (.mv (.c (.slice none 0 0))),
   m1 13 28]
   .ret)
  (sr1 [
   o1 30 (ao 6 0),
   o1 31 (lf 30 1),
   o1 32 (.len (.t 31)),
   o1 33 (.bin .sub (.t 32) (cn 1)),
   m1 34 1,
   o1 35 (lf 8 1),
   o1 36 (.bsl 1 3 [.t 34,.t 35]),
   o1 37 (.call 76 [.c (.int .i64 0),.t 33,.t 36]),
   o1 38 (.un .not (.t 37)),
   m1 39 38,
   g1 40 39 false (.mv (.t 3)),
   g1 41 39 false (lf 10 1),
   g1 42 39 false (.bsl 1 3 [.t 40,.t 41]),
   g1 43 39 false (.call 76 [.c (.int .i64 0),.c (.int .i64 100000),.t 42]),
   g1 44 39 false (.un .not (.t 43)),
   o1 45 (.pick (.t 39) (.c (.bool true)) (.t 44)),
   m1 29 45]
   (.cond (.t 29)
   (sr1 [
    o1 12 (.mv (.c (.slice none 0 0))),
    o1 13 (.mv (cn 2))]
    .ret)
   .skip)))))
 (sr1 [
 o1 16 (.alloc [.slice none 0 0] 144)]
 (sr1 [
 o1 46 (.raw (Go.Op.makeMap 189 Option.none) 189),
 o1 17 (.alloc [.map none] 189),
 ⟨none,.st (.t 17) (.t 46) 1,none,[]⟩]
 (sr1 [
 o1 18 (.alloc [.nilFunc] 199)]
 (sr1 [
 o1 47 (.mkf 109 [.t 10,.t 8,.t 16,.t 17,.t 14,.t 18]),
 ⟨none,.st (.t 18) (.t 47) 1,none,[]⟩]
 (.seq (.seq (.gh (.reg [
 o1 48 (lf 18 1),
 m1 49 1,
 m1 50 3,
 o1 51 (.build [.int .i64 0,.int .i64 0] [(0,1,.t 49),(1,1,.t 50)]),
 o1 52 (.calvm (.t 48) [.t 51,.c (.slice none 0 0)]),
 o1 53 (.un .not (.t 52))]))
 (.cond (.t 53)
 (sr1 [
  o1 12 (.mv (.c (.slice none 0 0))),
  o1 13 (.mv (cn 9))]
  .ret)
 .skip))
 (sr1 [
 o1 54 (lf 16 1),
 m1 12 54,
 o1 13 (.mv (cn 0))]
 .ret)))))))))
def r65:List RV:=[.tmp 12,.tmp 13]
theorem t65:Qt1 Tryz.prog 65 c65 r65 55:=Z8 Tryz.func65 rfl (by kernel_rfl) (by kernel_rfl) (by kernel_rfl) (by kernel_rfl)
end Go.Proofs.YtiigiflofnjilaaGreat
namespace Go.Azalai
open Go.Sx
theorem Vh {l:Land} {p:Span} {to till:Int} {f:Nat} {been:List Int} {v t:Int} {j:Nat}:∀ (k:Nat),∃ R,YT l p to till f been v t (j+k)=YT l p to till f been v t j ++ R
 | 0=>⟨[],by simp⟩
 | k+1=>by
  obtain ⟨R,h⟩:=Vh k
  exact ⟨R ++ Wr l p to till f been v t (j+k),by rw [<- Nat.add_assoc,Xc,h,List.append_assoc]⟩
theorem Zbz {l:Land} {p:Span} {to till:Int} {f:Nat} {been:List Int} {v t:Int} {j:Nat} {x:Leg} (hx:l.legs[j]? = some x) (h:Zl x v < 0\/Zl x v ∈ v :: been):Wr l p to till f been v t j=[]:=by
 simp only [Wr,hx];rw [if_pos h]
theorem Zau {l:Land} {p:Span} {to till:Int} {f:Nat} {been:List Int} {v t:Int} {j:Nat} {x:Leg} (hx:l.legs[j]? = some x) (h0:¬ Zl x v < 0) (h:Zl x v ∉ v :: been) :
 Wr l p to till f been v t j=(VH l p to till f (v :: been) (Zl x v) (ZU true x p t)).map (j :: ·):=by
 simp only [Wr,hx];rw [if_neg (fun q=>q.elim h0 h)]
end Go.Azalai
namespace Go.Proofs.YtiigiflofnjilaaGreat
open Go Go.Sx Go.Azalai
def XL (w:List Nat):List SV:=[YF w]
def Ww (l:Land) (p:Span) (till to:Int) (all:List (List Nat)) (ver:Nat) (L:List (Nat × Int × Bool)) (clk:Nat):List (Nat × HB) :=
 [(0,.cells [I till] 3),(1,.cells [I to] 3),(2,.cells [.mr 6 ver] 144),(3,.cells [.mp 7] 189),(4,.cells (Yc l p) 160),(5,.cells [.cl 109 [.p 0 0,.p 1 0,.p 2 0,.p 3 0,.p 4 0,.p 5 0]] 199),(6,.row ver 1 (all.map XL) 35),(7,.map (mpS kI B L) clk)]
def lookP (l:Land) (p:Span) (till to:Int) (all:List (List Nat)) (L:List (Nat × Int × Bool)) (W:List (List Nat)):Ot->Prop:=fun o =>
 ∃ ver clk,MW L clk/\o=⟨false,B (decide ((all ++ W).length<=200)),Ww l p till to (cap (all ++ W)) ver L clk,8⟩
def ZfF (been:List Int) (L:List (Nat × Int × Bool)):Prop:=∀ u:Int,XN u L=if u ∈ been then some true else none
theorem Zpn {L:List (Nat × Int × Bool)} {c:Nat} {v:Int} {b:Bool} (h:XN v L=none):UP v (Uw c v b L)=L:=by
 rw [Za4 h]
 have key:∀ (L:List (Nat × Int × Bool)),XN v L=none->UP v (L ++ [(c,v,b)])=L:=by
  intro L
  induction L with
  | nil=>intro _;simp [UP]
  | cons e L ih =>
   intro h
   have hne:e.2.1≠v:=XF.1 h e (by simp)
   have hL:XN v L=none:=XF.2 fun x hx=>XF.1 h x (by simp [hx])
   have:=ih hL
   obtain ⟨e1,e2,e3⟩:=e
   simp only at hne
   simp only [List.cons_append,UP]
   rw [this]
   simp [hne,Ne.symm hne]
 exact key L h
theorem ZxA (l:Land) (p:Span) (hs:WM l) (hok:OkLP l p) (till to:Int):∀ (f:Nat) (been:List Int) (v t:Int) (way:List Nat) (all:List (List Nat)) (ver clk:Nat) (L:List (Nat × Int × Bool)) (s1:SV),Zm4 l f been->v ∉ been->(0<=v/\v < l.wells.length)->(0<=t/\t<=100001) ->
 way.length+f<=1000->all.length<=200->MW L clk->ZfF been L->(s1=YF way\/s1 = .v (.slice none 0 0)/\way=[]) ->
 CtM Tryz.prog 109 (Ww l p till to all ver L clk) 8 [.agg [I v,I t],s1,.p 0 0,.p 1 0,.p 2 0,.p 3 0,.p 4 0,.p 5 0] (lookP l p till to all L ((VH l p to till f been v t).map (way ++ ·))):=by
 intro f
 induction f with
 | zero =>
  intro been v t way all ver clk L s1 hR hv hvi
  obtain ⟨g,h,_⟩:=hR.pos hv hvi
  omega
 | succ f ih =>
 intro been v t way all ver clk L s1 hR hv hvi ht hlen hall hM hbL hs1
 obtain ⟨g,hg,hR'⟩:=hR.pos hv hvi
 have hgf:g=f:=by omega
 subst hgf
 have hleg:=hs.2.1
 refine m109 (by simp [hpb,Ww]) (fun o ho=>?_) ?_
 . obtain ⟨ver',clk',_,rfl⟩:=ho
   simp [Ww,KX,KXL,KXP,KXH,Za,KFL,KF,Yc,Ze,Zm,Zg,XL,YF,YY,ZC,Zw]
 dsimp only [c109,r109,Ww,go_sem,rA,rM,rS]
 rcases hs1 with rfl | ⟨rfl,hw0⟩
 refine gh Xo ?_
 rotate_left
 refine gh (Zcn (s':=.sl false 1 (way.map YY)) 1 rfl (by subst hw0;exact YR) (fun _ _ _ h=>by cases h)) ?_
 all_goals
  dsimp only [YF,go_sem,rA,rM,rS]
  refine br ?_ ?_
  . intro hlate
    have hlate:t > till:=of_decide_eq_true hlate
    dsimp only [go_sem,rA,rM,rS]
    refine ⟨_,⟨ver,clk,hM,rfl⟩,?_⟩
    rw [Zho hlate,List.map_nil,List.append_nil,Zc2 (by omega),decide_eq_true hall]
    (refine YG ?_ ?_ ?_ rfl<;>dsimp only [Yc,Ze,Zm,Zg,XL,YF,YY,Yd,ZC,Zw,Za,Ww,id,go_sem,rA,rM,rS]<;>simp [Yc,Ze,Zm,Zg,XL,YF,YY,Yd,ZC,Zw,Za,Ww,Za,Zf,KFR,KFL,KF,Zc,mtO,nbr])
  intro hlate
  have hlate:¬ t > till:=of_decide_eq_false hlate
  dsimp only [go_sem,rA,rM,rS]
  refine br ?_ ?_
  . intro hto
    have hto:v=to:=by simpa using hto
    dsimp only [go_sem,rA,rM,rS]
    refine call (Zeq way (by omega)) ?_
    dsimp only [YF,go_sem,rA,rM,rS]
    simp only [nbr]
    dsimp only [go_sem,rA,rM,rS]
    refine ⟨(by intro c hc;simp only [List.mem_singleton] at hc;subst hc;rfl),by simp;omega,?_⟩
    dsimp only [go_sem,rA,rM,rS]
    simp only [nbr]
    dsimp only [go_sem,rA,rM,rS]
    have e:all.map XL ++ [[SV.sl false 1 (way.map YY)]]=(all ++ [way]).map XL:=by simp [XL,YF]
    rw [e]
    refine ⟨_,⟨ver+1,clk,hM,rfl⟩,?_⟩
    rw [XZ,if_neg hlate,if_pos hto]
    simp only [List.map_cons,List.map_nil,List.append_nil,List.length_map]
    rw [Zc2 (by simp;omega)]
    have hd:decide (((all ++ [way]).length:Int)<=200)=decide ((all ++ [way]).length<=200):=by simp;omega
    rw [hd]
    (refine YG ?_ ?_ ?_ rfl<;>dsimp only [Yc,Ze,Zm,Zg,XL,YF,YY,Yd,ZC,Zw,Za,Ww,id,go_sem,rA,rM,rS]<;>simp [Yc,Ze,Zm,Zg,XL,YF,YY,Yd,ZC,Zw,Za,Ww,Za,Zf,KFR,KFL,KF,Zc,mtO,nbr])
  intro hto
  have hto:¬ v=to:=by simpa using hto
  dsimp only [go_sem,rA,rM,rS]
  refine Zdg (ins:=false) (key:=kI) (val:=B) (L:=L) (k:=v) (v:=true) rfl rfl ZiB ZhJ rfl rfl (by simp) ?_
  dsimp only [go_sem,rA,rM,rS]
  refine ⟨rfl,?_⟩
  have hvL:XN v L=none:=by rw [hbL,if_neg hv]
  have hM1:=hM.set (k:=v) true
  have hL1:ZfF (v :: been) (Uw clk v true L):=fun u=>by
   rw [Za0]
   by_cases hu:u=v
   . simp [hu]
   . rw [if_neg hu,hbL]
     simp [hu]
  have hdel:=Zpn (L:=L) (c:=clk) (b:=true) hvL
  generalize Uw clk v true L=L1 at hM1 hL1 hdel ⊢
  generalize Zcu clk v L=clk1 at hM1 ⊢
  refine V5 [] (ZdR l p v) rfl rfl rfl ?_ ?_ ?_
  . exact Zc (by simp [Yc,Ze,Zm,Zg,Za,KFL,KF])
  . trivial
  dsimp only [ZcF,Yc,go_sem,rA,rM,rS]
  refine gh Xo ?_
  dsimp only [go_sem,rA,rM,rS]
  refine ⟨b153,fun rec=>?_⟩
  refine y153 ?_
  dsimp only [ZAE,Zzp,go_sem,rA,rM,rS]
  refine Xu (fun q:Nat × List (List Nat) × Nat × Nat=>[(10,I q.1)]) (fun q=>[(2,.cells [.mr 6 q.2.2.1] 144),(6,.row q.2.2.1 1 (q.2.1.map XL) 35),(7,.map (mpS kI B L1) q.2.2.2)])
   (fun q=>q.1<=l.legs.length/\MW L1 q.2.2.2/\q.2.1=all ++ (YT l p to till g been v t q.1).map (way ++ ·)/\q.2.1.length<=200) (fun q=>l.legs.length - q.1) (0,all,ver,clk1) ⟨Nat.zero_le _,hM1,by simp [ZmA],hall⟩ ?_ ?_
  . (refine Zk ?_ ?_ ?_ rfl rfl<;>dsimp only [Yc,Ze,Zm,Zg,XL,YF,YY,Yd,ZC,Zw,Za,id,go_sem,rA,rM,rS]<;>simp [Yc,Ze,Zm,Zg,XL,YF,YY,Yd,ZC,Zw,Za,Za,Zf,KFR,KFL,KF,Zc,mtO,nbr])
  rintro ⟨j,allj,ver,clk⟩ ⟨hj,hMj,hallj,hlenj⟩
  simp only at hj hMj hallj hlenj
  dsimp only [go_sem,rA,rM,rS]
  simp only [List.length_map]
  by_cases hlt:j < l.legs.length
  . refine Zu (by simpa using hlt) ?_
    dsimp only [go_sem,rA,rM,rS]
    refine Zr j hlt rfl ?_
    dsimp only [Zm,go_sem,rA,rM,rS]
    have hgl:GoodLeg l.legs[j]:=WW hok.land _ (List.getElem_mem _)
    have hends:=hok.ends (List.getElem_mem hlt)
    have hxj:l.legs[j]? = some l.legs[j]:=List.getElem?_eq_getElem hlt
    have hin:inR 0 100001 t=true:=by simp only [inR,decide_eq_true_eq];omega
    have hab:=Wc (k:=true) (t:=t) hgl hok.pace (by omega)
    by_cases hca:v=l.legs[j].a
    . refine Zu (by simpa using hca) ?_
      have hoth:Zl l.legs[j] v=l.legs[j].b:=by rw [Zl,if_pos hca.symm]
      dsimp only [go_sem,rA,rM,rS]
      refine ⟨rfl,rfl,?_⟩
      refine Zfs (key:=kI) (sv:=sI) (val:=B) (L:=L1) (k:=l.legs[j].b) (z:=.bool false) (zs:=B false) rfl rfl ZiB ZhJ rfl (by kernel_rfl) (fun w E n ok=>by simp only [R]) ?_ ?_
      . intro b hget
        have hb:b=true/\Zl l.legs[j] v ∈ v :: been:=by
         have h:=hL1 l.legs[j].b
         rw [hget] at h
         rw [hoth]
         split at h
         . rename_i hm;exact ⟨Option.some.inj h,hm⟩
         . cases h
        obtain ⟨rfl,hmem⟩:=hb
        dsimp only [Bool.not_true,go_sem,rA,rM,rS]
        repeat (refine U7 (by decide) ?_;dsimp only [go_sem,rA,rM,rS])
        refine Zx (by decide) ?_
        dsimp only [go_sem,rA,rM,rS]
        refine ⟨rfl,?_⟩
        refine Zx (by decide) ?_
        dsimp only [go_sem,rA,rM,rS]
        rw [Zi (n:=(j:Int)+1) (by omega) (by omega)]
        refine ⟨(j+1,allj,ver,clk),⟨hlt,hMj,by rw [Xc,Zbz hxj (.inr hmem),List.append_nil];exact hallj,hlenj⟩,by simp only;omega,?_⟩
        (refine Zk ?_ ?_ ?_ rfl rfl<;>dsimp only [Yc,Ze,Zm,Zg,XL,YF,YY,Yd,ZC,Zw,Za,id,go_sem,rA,rM,rS]<;>simp [Yc,Ze,Zm,Zg,XL,YF,YY,Yd,ZC,Zw,Za,Za,Zf,KFR,KFL,KF,Zc,mtO,nbr])
      intro hget
      have hnb:Zl l.legs[j] v ∉ v :: been:=fun hm=>by
       have h:=hL1 l.legs[j].b
       rw [hoth] at hm
       rw [hget,if_pos hm] at h;cases h
      have hn0:¬ Zl l.legs[j] v < 0:=by rw [hoth];omega
      dsimp only [Bool.not_false,go_sem,rA,rM,rS]
      iterate 10 (refine Y1 rfl ?_;dsimp only [go_sem,rA,rM,rS])
      refine call (Vz l p j hlt t t hgl hok.pace hin hin) ?_
      dsimp only [go_sem,rA,rM,rS]
      refine Y1 rfl ?_
      dsimp only [go_sem,rA,rM,rS]
      refine ixa 1 rfl (by decide) ?_
      dsimp only [go_sem,rA,rM,rS]
      iterate 4 (refine Y1 rfl ?_;dsimp only [go_sem,rA,rM,rS])
      refine call (ZlR way j (by omega)) ?_
      dsimp only [YF,go_sem,rA,rM,rS]
      refine Y1 rfl ?_
      dsimp only [go_sem,rA,rM,rS]
      have hot:=Yb hok hxj hn0
      have hih:=ih (v :: been) (Zl l.legs[j] v) (ZU true l.legs[j] p t) (way ++ [j]) allj ver clk L1 (YF (way ++ [j])) hR' hnb hot.1 (by omega) (by simp;omega) hlenj hMj hL1 (.inl rfl)
      have hWj:(VH l p to till g (v :: been) (Zl l.legs[j] v) (ZU true l.legs[j] p t)).map (way ++ [j] ++ ·)=(Wr l p to till g been v t j).map (way ++ ·):=by
       rw [Zau hxj hn0 hnb,List.map_map]
       simp [Function.comp_def]
      rw [hWj,hoth] at hih
      refine Xd [0,1,2,3,4,5,6,7] hih rfl rfl ?_ ?_ ?_ ?_
      . rfl
      . dsimp only [rho,YF,go_sem,rA,rM,rS]
        simp [Za,Zf,KFR,KFL,KF,Zc,mtO,nbr,Yc,Ze,Zm,Zg,XL,YF,YY,ZC,Zw]
      . dsimp only [rho,Ww,Yc,go_sem,rA,rM,rS]
        simp [Za,Zf,KFR,KFL,KF,Zc,mtO,nbr,Yc,Ze,Zm,Zg,XL,YF,YY,ZC,Zw]
      rintro o ⟨ver',clk',hM',rfl⟩
      dsimp only [Ww,Yc,go_sem,rA,rM,rS]
      refine Y1 rfl ?_
      dsimp only [Bool.not_false,go_sem,rA,rM,rS]
      have hnext:all ++ (YT l p to till g been v t (j+1)).map (way ++ ·)=allj ++ (Wr l p to till g been v t j).map (way ++ ·):=by
       rw [Xc,List.map_append,<- List.append_assoc,<- hallj]
      generalize hWW:(Wr l p to till g been v t j).map (way ++ ·)=Wj at hnext ⊢
      by_cases hsm:(allj ++ Wj).length<=200
      . refine Zx (by simp only [hsm,decide_true];rfl) ?_
        dsimp only [go_sem,rA,rM,rS]
        refine ⟨rfl,?_⟩
        refine Zx (by decide) ?_
        dsimp only [go_sem,rA,rM,rS]
        rw [Zi (n:=(j:Int)+1) (by omega) (by omega),Zc2 (by omega)]
        rw [<- hnext] at hsm ⊢
        refine ⟨(j+1,_,ver',clk'),⟨hlt,hM',rfl,hsm⟩,by simp only;omega,?_⟩
        generalize all ++ (YT l p to till g been v t (j+1)).map (way ++ ·)=alln
        (refine Zk ?_ ?_ ?_ rfl rfl<;>dsimp only [Yc,Ze,Zm,Zg,XL,YF,YY,Yd,ZC,Zw,Za,id,go_sem,rA,rM,rS]<;>simp [Yc,Ze,Zm,Zg,XL,YF,YY,Yd,ZC,Zw,Za,Za,Zf,KFR,KFL,KF,Zc,mtO,nbr])
      . refine Zu (by simp only [hsm,decide_false];rfl) ?_
        dsimp only [go_sem,rA,rM,rS]
        refine ⟨rfl,?_⟩
        refine Zu rfl ?_
        dsimp only [go_sem,rA,rM,rS]
        have hWs:VH l p to till (g+1) been v t=YT l p to till g been v t l.legs.length:=by rw [XZ,if_neg hlate,if_neg hto]
        obtain ⟨R,hRs⟩:=Vh (l:=l) (p:=p) (to:=to) (till:=till) (f:=g) (been:=been) (v:=v) (t:=t) (j:=j+1) (l.legs.length - (j+1))
        rw [show j+1+(l.legs.length - (j+1))=l.legs.length by omega] at hRs
        have hall2:all ++ (VH l p to till (g+1) been v t).map (way ++ ·)=allj ++ Wj ++ R.map (way ++ ·):=by
         rw [hWs,hRs,List.map_append,<- List.append_assoc,hnext]
        have hlong:¬ (allj ++ Wj ++ R.map (way ++ ·)).length<=200:=by rw [List.length_append];omega
        refine ⟨_,delR (key:=kI) (val:=B) (sv:=sI) (L:=L1) (k:=v) ZiB ZhJ,?_⟩
        rw [hdel]
        have hMf:MW L clk':=by have:=hM'.del (k:=v);rw [hdel] at this;exact this
        refine ⟨_,⟨ver',clk',hMf,rfl⟩,?_⟩
        have hc2:cap (allj ++ Wj ++ R.map (way ++ ·))=cap (allj ++ Wj):=Zmy (by omega)
        rw [hall2,hc2,decide_eq_false hlong]
        generalize cap (allj ++ Wj)=alln
        (refine YG ?_ ?_ ?_ rfl<;>dsimp only [Yc,Ze,Zm,Zg,XL,YF,YY,Yd,ZC,Zw,Za,Ww,id,go_sem,rA,rM,rS]<;>simp [Yc,Ze,Zm,Zg,XL,YF,YY,Yd,ZC,Zw,Za,Ww,Za,Zf,KFR,KFL,KF,Zc,mtO,nbr])
    refine Zx (by simpa using hca) ?_
    dsimp only [go_sem,rA,rM,rS]
    by_cases hcb:v=l.legs[j].b
    . refine Zu (by simpa using hcb) ?_
      have hoth:Zl l.legs[j] v=l.legs[j].a:=by rw [Zl,if_neg (fun h=>hca h.symm),if_pos hcb.symm]
      dsimp only [go_sem,rA,rM,rS]
      refine ⟨rfl,rfl,?_⟩
      refine Zfs (key:=kI) (sv:=sI) (val:=B) (L:=L1) (k:=l.legs[j].a) (z:=.bool false) (zs:=B false) rfl rfl ZiB ZhJ rfl (by kernel_rfl) (fun w E n ok=>by simp only [R]) ?_ ?_
      . intro b hget
        have hb:b=true/\Zl l.legs[j] v ∈ v :: been:=by
         have h:=hL1 l.legs[j].a
         rw [hget] at h
         rw [hoth]
         split at h
         . rename_i hm;exact ⟨Option.some.inj h,hm⟩
         . cases h
        obtain ⟨rfl,hmem⟩:=hb
        dsimp only [Bool.not_true,go_sem,rA,rM,rS]
        repeat (refine U7 (by decide) ?_;dsimp only [go_sem,rA,rM,rS])
        refine Zx (by decide) ?_
        dsimp only [go_sem,rA,rM,rS]
        refine ⟨rfl,?_⟩
        refine Zx (by decide) ?_
        dsimp only [go_sem,rA,rM,rS]
        rw [Zi (n:=(j:Int)+1) (by omega) (by omega)]
        refine ⟨(j+1,allj,ver,clk),⟨hlt,hMj,by rw [Xc,Zbz hxj (.inr hmem),List.append_nil];exact hallj,hlenj⟩,by simp only;omega,?_⟩
        (refine Zk ?_ ?_ ?_ rfl rfl<;>dsimp only [Yc,Ze,Zm,Zg,XL,YF,YY,Yd,ZC,Zw,Za,id,go_sem,rA,rM,rS]<;>simp [Yc,Ze,Zm,Zg,XL,YF,YY,Yd,ZC,Zw,Za,Za,Zf,KFR,KFL,KF,Zc,mtO,nbr])
      intro hget
      have hnb:Zl l.legs[j] v ∉ v :: been:=fun hm=>by
       have h:=hL1 l.legs[j].a
       rw [hoth] at hm
       rw [hget,if_pos hm] at h;cases h
      have hn0:¬ Zl l.legs[j] v < 0:=by rw [hoth];omega
      dsimp only [Bool.not_false,go_sem,rA,rM,rS]
      iterate 10 (refine Y1 rfl ?_;dsimp only [go_sem,rA,rM,rS])
      refine call (Vz l p j hlt t t hgl hok.pace hin hin) ?_
      dsimp only [go_sem,rA,rM,rS]
      refine Y1 rfl ?_
      dsimp only [go_sem,rA,rM,rS]
      refine ixa 1 rfl (by decide) ?_
      dsimp only [go_sem,rA,rM,rS]
      iterate 4 (refine Y1 rfl ?_;dsimp only [go_sem,rA,rM,rS])
      refine call (ZlR way j (by omega)) ?_
      dsimp only [YF,go_sem,rA,rM,rS]
      refine Y1 rfl ?_
      dsimp only [go_sem,rA,rM,rS]
      have hot:=Yb hok hxj hn0
      have hih:=ih (v :: been) (Zl l.legs[j] v) (ZU true l.legs[j] p t) (way ++ [j]) allj ver clk L1 (YF (way ++ [j])) hR' hnb hot.1 (by omega) (by simp;omega) hlenj hMj hL1 (.inl rfl)
      have hWj:(VH l p to till g (v :: been) (Zl l.legs[j] v) (ZU true l.legs[j] p t)).map (way ++ [j] ++ ·)=(Wr l p to till g been v t j).map (way ++ ·):=by
       rw [Zau hxj hn0 hnb,List.map_map]
       simp [Function.comp_def]
      rw [hWj,hoth] at hih
      refine Xd [0,1,2,3,4,5,6,7] hih rfl rfl ?_ ?_ ?_ ?_
      . rfl
      . dsimp only [rho,YF,go_sem,rA,rM,rS]
        simp [Za,Zf,KFR,KFL,KF,Zc,mtO,nbr,Yc,Ze,Zm,Zg,XL,YF,YY,ZC,Zw]
      . dsimp only [rho,Ww,Yc,go_sem,rA,rM,rS]
        simp [Za,Zf,KFR,KFL,KF,Zc,mtO,nbr,Yc,Ze,Zm,Zg,XL,YF,YY,ZC,Zw]
      rintro o ⟨ver',clk',hM',rfl⟩
      dsimp only [Ww,Yc,go_sem,rA,rM,rS]
      refine Y1 rfl ?_
      dsimp only [Bool.not_false,go_sem,rA,rM,rS]
      have hnext:all ++ (YT l p to till g been v t (j+1)).map (way ++ ·)=allj ++ (Wr l p to till g been v t j).map (way ++ ·):=by
       rw [Xc,List.map_append,<- List.append_assoc,<- hallj]
      generalize hWW:(Wr l p to till g been v t j).map (way ++ ·)=Wj at hnext ⊢
      by_cases hsm:(allj ++ Wj).length<=200
      . refine Zx (by simp only [hsm,decide_true];rfl) ?_
        dsimp only [go_sem,rA,rM,rS]
        refine ⟨rfl,?_⟩
        refine Zx (by decide) ?_
        dsimp only [go_sem,rA,rM,rS]
        rw [Zi (n:=(j:Int)+1) (by omega) (by omega),Zc2 (by omega)]
        rw [<- hnext] at hsm ⊢
        refine ⟨(j+1,_,ver',clk'),⟨hlt,hM',rfl,hsm⟩,by simp only;omega,?_⟩
        generalize all ++ (YT l p to till g been v t (j+1)).map (way ++ ·)=alln
        (refine Zk ?_ ?_ ?_ rfl rfl<;>dsimp only [Yc,Ze,Zm,Zg,XL,YF,YY,Yd,ZC,Zw,Za,id,go_sem,rA,rM,rS]<;>simp [Yc,Ze,Zm,Zg,XL,YF,YY,Yd,ZC,Zw,Za,Za,Zf,KFR,KFL,KF,Zc,mtO,nbr])
      . refine Zu (by simp only [hsm,decide_false];rfl) ?_
        dsimp only [go_sem,rA,rM,rS]
        refine ⟨rfl,?_⟩
        refine Zu rfl ?_
        dsimp only [go_sem,rA,rM,rS]
        have hWs:VH l p to till (g+1) been v t=YT l p to till g been v t l.legs.length:=by rw [XZ,if_neg hlate,if_neg hto]
        obtain ⟨R,hRs⟩:=Vh (l:=l) (p:=p) (to:=to) (till:=till) (f:=g) (been:=been) (v:=v) (t:=t) (j:=j+1) (l.legs.length - (j+1))
        rw [show j+1+(l.legs.length - (j+1))=l.legs.length by omega] at hRs
        have hall2:all ++ (VH l p to till (g+1) been v t).map (way ++ ·)=allj ++ Wj ++ R.map (way ++ ·):=by
         rw [hWs,hRs,List.map_append,<- List.append_assoc,hnext]
        have hlong:¬ (allj ++ Wj ++ R.map (way ++ ·)).length<=200:=by rw [List.length_append];omega
        refine ⟨_,delR (key:=kI) (val:=B) (sv:=sI) (L:=L1) (k:=v) ZiB ZhJ,?_⟩
        rw [hdel]
        have hMf:MW L clk':=by have:=hM'.del (k:=v);rw [hdel] at this;exact this
        refine ⟨_,⟨ver',clk',hMf,rfl⟩,?_⟩
        have hc2:cap (allj ++ Wj ++ R.map (way ++ ·))=cap (allj ++ Wj):=Zmy (by omega)
        rw [hall2,hc2,decide_eq_false hlong]
        generalize cap (allj ++ Wj)=alln
        (refine YG ?_ ?_ ?_ rfl<;>dsimp only [Yc,Ze,Zm,Zg,XL,YF,YY,Yd,ZC,Zw,Za,Ww,id,go_sem,rA,rM,rS]<;>simp [Yc,Ze,Zm,Zg,XL,YF,YY,Yd,ZC,Zw,Za,Ww,Za,Zf,KFR,KFL,KF,Zc,mtO,nbr])
    refine Zx (by simpa using hcb) ?_
    dsimp only [go_sem,rA,rM,rS]
    rw [Zi (n:=(j:Int)+1) (by omega) (by omega)]
    have hoth:Zl l.legs[j] v = -1:=by rw [Zl,if_neg (fun h=>hca h.symm),if_neg (fun h=>hcb h.symm)]
    refine ⟨(j+1,allj,ver,clk),⟨hlt,hMj,by rw [Xc,Zbz hxj (.inl (by omega)),List.append_nil];exact hallj,hlenj⟩,by simp only;omega,?_⟩
    (refine Zk ?_ ?_ ?_ rfl rfl<;>dsimp only [Yc,Ze,Zm,Zg,XL,YF,YY,Yd,ZC,Zw,Za,id,go_sem,rA,rM,rS]<;>simp [Yc,Ze,Zm,Zg,XL,YF,YY,Yd,ZC,Zw,Za,Za,Zf,KFR,KFL,KF,Zc,mtO,nbr])
  refine Zx (by simp;omega) ?_
  dsimp only [go_sem,rA,rM,rS]
  have hje:j=l.legs.length:=by omega
  subst hje
  have hWs:VH l p to till (g+1) been v t=YT l p to till g been v t l.legs.length:=by rw [XZ,if_neg hlate,if_neg hto]
  refine ⟨_,delR (key:=kI) (val:=B) (sv:=sI) (L:=L1) (k:=v) ZiB ZhJ,?_⟩
  rw [hdel]
  have hMf:MW L clk:=by have:=hMj.del (k:=v);rw [hdel] at this;exact this
  refine ⟨_,⟨ver,clk,hMf,rfl⟩,?_⟩
  rw [hWs,<- hallj,Zc2 (by omega),decide_eq_true hlenj]
  (refine YG ?_ ?_ ?_ rfl<;>dsimp only [Yc,Ze,Zm,Zg,XL,YF,YY,Yd,ZC,Zw,Za,Ww,id,go_sem,rA,rM,rS]<;>simp [Yc,Ze,Zm,Zg,XL,YF,YY,Yd,ZC,Zw,Za,Ww,Za,Zf,KFR,KFL,KF,Zc,mtO,nbr])
end Go.Proofs.YtiigiflofnjilaaGreat
namespace Go.Azalai
open Go.Sx
def YE (l:Land):Int->List Int->List Int->Option Int
 | v,_,[]=>some v
 | v,been,i :: r=>if WY l i v < 0 then none else if WY l i v ∈ been then none else YE l (WY l i v) (WY l i v :: been) r
end Go.Azalai
namespace Go.Proofs.YtiigiflofnjilaaGreat
open Go Go.Sx Go.Azalai
theorem ZfF.set {been:List Int} {L:List (Nat × Int × Bool)} {c:Nat} {v:Int} (h:ZfF been L):ZfF (v :: been) (Uw c v true L):=fun u=>by
 rw [Za0]
 by_cases hu:u=v
 . simp [hu]
 . rw [if_neg hu,h u];simp [hu]
theorem ZAy:Xa Tryz.prog 4=some (.bool false):=by kernel_rfl
theorem bz_RS:∀ w E n ok,R w E n ok (B false) (.bool false):=fun w E n ok=>by simp only [R]
theorem Zew (s:Season) (hs:SmallS s) (hl:ZA s.land=true) (hp:ZX s.pace=true) (h0:0<=s.start/\s.start < s.land.wells.length) (legs:List Int) (hg:legs.length<=1000) (c:Bool) :
 Ct Tryz.prog 58 [.agg (Zn s),.sl c 1 (legs.map Zo)] (.tup [I ((YE s.land s.start [s.start] legs).getD 0),B (YE s.land s.start [s.start] legs).isSome]):=by
 have hw:=hs.land.1
 have hlg:=hs.land.2.1
 have hlp:OkLP s.land s.pace:=⟨hl,hp⟩
 refine t58.1 (by simp [Zn,Zh,Ze,Zm,Zg,Zd,Zo,Za,KFL,KF]) (by simp [KFL,KF]) ?_
 dsimp only [c58,r58,Zn,go_sem,rA,rM,rS]
 refine Zce rfl rfl rfl ?_
 dsimp only [go_sem,rA,rM,rS]
 refine Zdg (ins:=true) (key:=kI) (val:=B) (L:=[]) (k:=s.start) (v:=true) rfl rfl ZiB ZhJ rfl rfl (by simp) ?_
 dsimp only [go_sem,rA,rM,rS]
 have hb0:ZfF [s.start] (Uw 0 s.start true []):=fun u=>by rw [Za0];simp [XN]
 refine WU [1,2,6,16,17,18,4,5] rfl (fun q:Nat × Int × List Int × List (Nat × Int × Bool) × Nat=>[(18,I q.1),(4,I q.2.1)]) (fun q=>[(1,.map (mpS kI B q.2.2.2.1) q.2.2.2.2)])
  (fun q=>q.1<=legs.length/\YE s.land q.2.1 q.2.2.1 (legs.drop q.1)=YE s.land s.start [s.start] legs/\ZfF q.2.2.1 q.2.2.2.1/\MW q.2.2.2.1 q.2.2.2.2/\0<=q.2.1/\q.2.1 < s.land.wells.length)
  (fun q=>legs.length - q.1) (0,s.start,[s.start],Uw 0 s.start true [],Zcu 0 s.start ([]:List (Nat × Int × Bool))) ⟨Nat.zero_le _,rfl,hb0,MW.nil.set true,h0⟩ ?_ ?_
 . (refine Zk ?_ ?_ ?_ rfl rfl<;>dsimp only [Zg,Ze,Zm,Zh,Zd,Zo,ZC,Zw,id,go_sem,rA,rM,rS]<;>simp [Zg,Ze,Zm,Zh,Zd,Zo,ZC,Zw,Za,Zf,KFR,KFL,KF,Zc,mtO,nbr])
 rintro ⟨k,v,been,L,c⟩ ⟨hk,hi,hb,hM,hv⟩
 simp only at hk hi hb hM hv
 dsimp only [go_sem,rA,rM,rS]
 simp only [List.length_map]
 by_cases hlt:k < legs.length
 case neg =>
  refine Zx (by simp;omega) ?_
  dsimp only [go_sem,rA,rM,rS]
  rw [<- hi,List.drop_eq_nil_of_le (by omega)]
  rfl
 refine Zu (by simpa using hlt) ?_
 dsimp only [go_sem,rA,rM,rS]
 refine Zr k hlt rfl ?_
 dsimp only [Zo,go_sem,rA,rM,rS]
 simp only [List.length_map]
 rw [Zi (n:=(s.land.legs.length:Int) - 1) (by omega) (by omega)]
 refine call (Zgn _ _ _ _) ?_
 dsimp only [go_sem,rA,rM,rS]
 rw [List.drop_eq_getElem_cons hlt,YE] at hi
 by_cases hr:inR 0 (s.land.legs.length - 1) legs[k]=true
 case neg =>
  refine Zu (by simpa using hr) ?_
  dsimp only [go_sem,rA,rM,rS]
  simp only [inR,decide_eq_true_eq] at hr
  rw [if_pos (by rw [Zfw (by omega)];decide)] at hi
  rw [<- hi];rfl
 refine Zx (by simpa using hr) ?_
 dsimp only [go_sem,rA,rM,rS]
 simp only [inR,decide_eq_true_eq] at hr
 obtain ⟨n,hn⟩:=Int.eq_ofNat_of_zero_le hr.1
 rw [hn] at hr hi ⊢
 have hnl:n < s.land.legs.length:=by omega
 refine Zr n hnl rfl ?_
 dsimp only [Zm,go_sem,rA,rM,rS]
 have hends:=hlp.ends (List.getElem_mem hnl)
 rw [Zbe hnl] at hi
 repeat (refine gb ?_;dsimp only [go_sem,rA,rM,rS])
 by_cases hof:v=s.land.legs[n].a\/v=s.land.legs[n].b
 case neg =>
  refine Zu (by simp [bne];omega) ?_
  dsimp only [go_sem,rA,rM,rS]
  rw [if_pos (by unfold Zl;rw [if_neg (by omega),if_neg (by omega)];decide)] at hi
  rw [<- hi];rfl
 refine Zx (by simp [bne];omega) ?_
 dsimp only [go_sem,rA,rM,rS]
 have ho:Zl s.land.legs[n] v=s.land.legs[n].a+s.land.legs[n].b - v:=by
  unfold Zl;rcases hof with h | h
  . rw [if_pos h.symm];omega
  . rw [if_neg (by omega),if_pos h.symm];omega
 rw [Zi (n:=s.land.legs[n].a+s.land.legs[n].b) (by omega) (by omega),Zi (n:=s.land.legs[n].a+s.land.legs[n].b - v) (by omega) (by omega)]
 have hoi:0<=s.land.legs[n].a+s.land.legs[n].b - v/\s.land.legs[n].a+s.land.legs[n].b - v < s.land.wells.length:=by omega
 rw [ho,if_neg (by omega)] at hi
 generalize s.land.legs[n].a+s.land.legs[n].b - v=u at hi hoi
 have hbu:=hb u
 refine Zfs (key:=kI) (val:=B) (sv:=sI) (L:=L) (k:=u) (zs:=B false) rfl rfl ZiB ZhJ rfl ZAy bz_RS (fun b hg=>?_) (fun hg=>?_)
 . rw [hbu] at hg
   by_cases hm:u ∈ been
   case neg=>rw [if_neg hm] at hg;cases hg
   rw [if_pos hm] at hg hi
   cases hg
   dsimp only [go_sem,rA,rM,rS]
   refine Zu rfl ?_
   dsimp only [go_sem,rA,rM,rS]
   rw [<- hi];rfl
 . rw [hbu] at hg
   by_cases hm:u ∈ been
   . rw [if_pos hm] at hg;cases hg
   rw [if_neg hm] at hi
   dsimp only [go_sem,rA,rM,rS]
   refine Zx rfl ?_
   dsimp only [go_sem,rA,rM,rS]
   refine Zdg (ins:=false) (key:=kI) (val:=B) (L:=L) (k:=u) (v:=true) rfl rfl ZiB ZhJ rfl rfl (by simp) ?_
   dsimp only [go_sem,rA,rM,rS]
   rw [Zi (n:=(k:Int)+1) (by omega) (by omega)]
   refine ⟨(k+1,u,u :: been,Uw c u true L,Zcu c u L),⟨hlt,hi,hb.set,hM.set true,hoi⟩,by simp only;omega,?_⟩
   (refine Zk ?_ ?_ ?_ rfl rfl<;>dsimp only [Zg,Ze,Zm,Zh,Zd,Zo,ZC,Zw,id,go_sem,rA,rM,rS]<;>simp [Zg,Ze,Zm,Zh,Zd,Zo,ZC,Zw,Za,Zf,KFR,KFL,KF,Zc,mtO,nbr])
def ZcB (n:Nat) (been:List Int):List Bool:=(List.range n).map fun u:Nat=>decide ((u:Int) ∈ been)
theorem YD {n:Nat} {been:List Int}:(ZcB n been).length=n:=by simp [ZcB]
theorem WV {n u:Nat} {been:List Int} (h:u < (ZcB n been).length):(ZcB n been)[u]=decide ((u:Int) ∈ been):=by simp [ZcB]
theorem Zb0 {n u:Nat} {been:List Int} (h:u < n):(ZcB n been).set u true=ZcB n ((u:Int) :: been):=by
 apply List.ext_getElem (by simp [YD])
 intro i h1 h2
 rw [List.getElem_set,WV]
 by_cases hi:u=i
 . subst hi;rw [if_pos rfl,WV];simp
 . rw [if_neg hi,WV]
   have:¬ (i:Int)=(u:Int):=by omega
   simp [this]
theorem ZiZ {n:Nat}:ZcB n []=List.replicate n false:=by
 apply List.ext_getElem (by simp [YD])
 intro i h1 h2
 rw [WV];simp
theorem ZuL (s:Season) (hs:SmallS s) (hl:ZA s.land=true) (hp:ZX s.pace=true) (h0:0<=s.start/\s.start < s.land.wells.length) (legs:List Int) (hg:legs.length<=1000) (c:Bool) :
 Ct Tryz.prog 87 [.agg (Zn s),.sl c 1 (legs.map Zo)] (I ((YE s.land s.start [s.start] legs).getD (-1))):=by
 have hw:=hs.land.1
 have hlg:=hs.land.2.1
 have hlp:OkLP s.land s.pace:=⟨hl,hp⟩
 refine t87.1 (by simp [Zn,Zh,Ze,Zm,Zg,Zd,Zo,Za,KFL,KF]) (by simp [KFL,KF]) ?_
 dsimp only [c87,r87,Zn,go_sem,rA,rM,rS]
 simp only [List.length_map]
 refine ⟨s.land.wells.length,rfl,by omega,?_⟩
 dsimp only [go_sem,rA,rM,rS]
 obtain ⟨n0,hn0⟩:=Int.eq_ofNat_of_zero_le h0.1
 have hb0:List.replicate s.land.wells.length [B false]=(ZcB s.land.wells.length []).map fun b=>[B b]:=by rw [ZiZ];simp
 rw [hb0]
 rw [hn0] at h0 ⊢
 refine UA n0 rfl (by simp [YD];omega) ?_
 dsimp only [go_sem,rA,rM,rS]
 refine ZiI true (by simp [YD];omega) (by simp) (by simp [Zs]) ?_
 rw [Zb0 (by omega)]
 dsimp only [go_sem,rA,rM,rS]
 refine WU [1,2,4,5,6,7] rfl (fun q:Nat × Int × List Int=>[(7,I q.1),(6,I q.2.1)]) (fun q=>[(1,.row 0 1 ((ZcB s.land.wells.length q.2.2).map fun b=>[B b]) 4)])
  (fun q=>q.1<=legs.length/\YE s.land q.2.1 q.2.2 (legs.drop q.1)=YE s.land n0 [(n0:Int)] legs/\0<=q.2.1/\q.2.1 < s.land.wells.length)
  (fun q=>legs.length - q.1) (0,n0,[(n0:Int)]) ⟨Nat.zero_le _,rfl,h0⟩ ?_ ?_
 . (refine Zk ?_ ?_ ?_ rfl rfl<;>dsimp only [Zg,Ze,Zm,Zh,Zd,Zo,id,go_sem,rA,rM,rS]<;>simp [Zg,Ze,Zm,Zh,Zd,Zo,Za,Zf,KFR,KFL,KF,Zc,mtO,nbr])
 rintro ⟨k,v,been⟩ ⟨hk,hi,hv⟩
 simp only at hk hi hv
 dsimp only [go_sem,rA,rM,rS]
 simp only [List.length_map]
 by_cases hlt:k < legs.length
 case neg =>
  refine Zx (by simp;omega) ?_
  dsimp only [go_sem,rA,rM,rS]
  rw [<- hi,List.drop_eq_nil_of_le (by omega)]
  rfl
 refine Zu (by simpa using hlt) ?_
 dsimp only [go_sem,rA,rM,rS]
 refine Zr k hlt rfl ?_
 dsimp only [Zo,go_sem,rA,rM,rS]
 simp only [List.length_map]
 rw [Zi (n:=(s.land.legs.length:Int) - 1) (by omega) (by omega)]
 refine call (XX _ _ _) ?_
 dsimp only [go_sem,rA,rM,rS]
 rw [List.drop_eq_getElem_cons hlt,YE] at hi
 by_cases hr:inR 0 (s.land.legs.length - 1) legs[k]=true
 case neg =>
  refine Zu (by simpa using hr) ?_
  dsimp only [go_sem,rA,rM,rS]
  simp only [inR,decide_eq_true_eq] at hr
  rw [if_pos (by rw [Zfw (by omega)];decide)] at hi
  rw [<- hi];rfl
 refine Zx (by simpa using hr) ?_
 dsimp only [go_sem,rA,rM,rS]
 refine Zr k hlt rfl ?_
 dsimp only [Zo,go_sem,rA,rM,rS]
 simp only [inR,decide_eq_true_eq] at hr
 obtain ⟨n,hn⟩:=Int.eq_ofNat_of_zero_le hr.1
 rw [hn] at hr hi ⊢
 have hnl:n < s.land.legs.length:=by omega
 refine Zr n hnl rfl ?_
 dsimp only [Zm,go_sem,rA,rM,rS]
 have hends:=hlp.ends (List.getElem_mem hnl)
 rw [Zbe hnl] at hi
 by_cases hva:v=s.land.legs[n].a
 . refine Zu (by simpa using hva) ?_
   dsimp only [go_sem,rA,rM,rS]
   rw [show Zl s.land.legs[n] v=s.land.legs[n].b from by unfold Zl;rw [if_pos hva.symm],if_neg (by omega)] at hi
   have hoi:0<=s.land.legs[n].b/\s.land.legs[n].b < s.land.wells.length:=by omega
   obtain ⟨u,hu⟩:=Int.eq_ofNat_of_zero_le hoi.1
   rw [hu] at hi hoi ⊢
   refine UA u rfl (by simp [YD];omega) ?_
   dsimp only [go_sem,rA,rM,rS]
   refine ZcE (by simp [YD];omega) ?_
   rw [WV]
   dsimp only [go_sem,rA,rM,rS]
   by_cases hm:(u:Int) ∈ been
   . refine Zu (by simpa using hm) ?_
     dsimp only [go_sem,rA,rM,rS]
     rw [if_pos hm] at hi
     rw [<- hi];rfl
   refine Zx (by simpa using hm) ?_
   dsimp only [go_sem,rA,rM,rS]
   rw [if_neg hm] at hi
   refine UA u rfl (by simp [YD];omega) ?_
   dsimp only [go_sem,rA,rM,rS]
   refine ZiI true (by simp [YD];omega) (by simp) (by simp [Zs]) ?_
   rw [Zb0 (by omega)]
   dsimp only [go_sem,rA,rM,rS]
   rw [Zi (n:=(k:Int)+1) (by omega) (by omega)]
   refine ⟨(k+1,u,(u:Int) :: been),⟨hlt,hi,hoi⟩,by simp only;omega,?_⟩
   (refine Zk ?_ ?_ ?_ rfl rfl<;>dsimp only [Zg,Ze,Zm,Zh,Zd,Zo,id,go_sem,rA,rM,rS]<;>simp [Zg,Ze,Zm,Zh,Zd,Zo,Za,Zf,KFR,KFL,KF,Zc,mtO,nbr])
 refine Zx (by simpa using hva) ?_
 dsimp only [go_sem,rA,rM,rS]
 by_cases hvb:v=s.land.legs[n].b
 case neg =>
  refine Zx (by simpa using hvb) ?_
  dsimp only [go_sem,rA,rM,rS]
  rw [if_pos (by unfold Zl;rw [if_neg (by omega),if_neg (by omega)];decide)] at hi
  rw [<- hi];rfl
 refine Zu (by simpa using hvb) ?_
 dsimp only [go_sem,rA,rM,rS]
 rw [show Zl s.land.legs[n] v=s.land.legs[n].a from by unfold Zl;rw [if_neg (by omega),if_pos hvb.symm],if_neg (by omega)] at hi
 have hoi:0<=s.land.legs[n].a/\s.land.legs[n].a < s.land.wells.length:=by omega
 obtain ⟨u,hu⟩:=Int.eq_ofNat_of_zero_le hoi.1
 rw [hu] at hi hoi ⊢
 refine UA u rfl (by simp [YD];omega) ?_
 dsimp only [go_sem,rA,rM,rS]
 refine ZcE (by simp [YD];omega) ?_
 rw [WV]
 dsimp only [go_sem,rA,rM,rS]
 by_cases hm:(u:Int) ∈ been
 . refine Zu (by simpa using hm) ?_
   dsimp only [go_sem,rA,rM,rS]
   rw [if_pos hm] at hi
   rw [<- hi];rfl
 refine Zx (by simpa using hm) ?_
 dsimp only [go_sem,rA,rM,rS]
 rw [if_neg hm] at hi
 refine UA u rfl (by simp [YD];omega) ?_
 dsimp only [go_sem,rA,rM,rS]
 refine ZiI true (by simp [YD];omega) (by simp) (by simp [Zs]) ?_
 rw [Zb0 (by omega)]
 dsimp only [go_sem,rA,rM,rS]
 rw [Zi (n:=(k:Int)+1) (by omega) (by omega)]
 refine ⟨(k+1,u,(u:Int) :: been),⟨hlt,hi,hoi⟩,by simp only;omega,?_⟩
 (refine Zk ?_ ?_ ?_ rfl rfl<;>dsimp only [Zg,Ze,Zm,Zh,Zd,Zo,id,go_sem,rA,rM,rS]<;>simp [Zg,Ze,Zm,Zh,Zd,Zo,Za,Zf,KFR,KFL,KF,Zc,mtO,nbr])
end Go.Proofs.YtiigiflofnjilaaGreat
namespace Go.Azalai
open Go.Sx
def YM (s:Season) (p:Plan):Bool:=(YE s.land s.start [s.start] p.legs).isSome && inR 0 s.herd p.animals && inR 0 12 p.slabs
def ZO (s:Season) (legs:List Int):List Stop:=(YZ s.land s.pace s.start s.day legs).1
def Zh4 (l:List Stop):Stop:=l.getLast?.getD ⟨0,0,⟨0,0⟩,⟨0,0⟩⟩
def Vj (s:Season) (legs:List Int):Bool:=decide ((YZ s.land s.pace s.start s.day legs).2.2=0) && (decide ((ZO s legs).length=0) || decide ((Zh4 (ZO s legs)).arrives.hi<=s.till))
theorem Zde {l:Land} {p:Span} (hg:OkLP l p):∀ {legs:List Int} {v:Int} {been:List Int} {u:Int},0<=v/\v < l.wells.length->YE l v been legs=some u->0<=u/\u < l.wells.length
 | [],v,_,u,hv,h=>by simp only [YE,Option.some.injEq] at h;subst h;exact hv
 | i :: r,v,been,u,hv,h=>by
  simp only [YE] at h
  split at h
  . cases h
  rename_i he
  split at h
  . cases h
  obtain ⟨k,x,_,_,hx,_,e⟩:=Zcq he
  rw [e] at he h
  exact Zde hg (Yb hg hx he).1 h
theorem Zeh {l:List Stop} (h:l.length≠0):l[l.length - 1]? = some (Zh4 l):=by
 unfold Zh4
 rw [List.getLast?_eq_getElem?]
 rw [List.getElem?_eq_getElem (by omega)];rfl
theorem ZkC {l:Land} {p:Span}:∀ {legs:List Int} {v a b:Int} {k:Nat} {acc:List Stop},(goS l p v a b legs k acc).2.2≠0->(goS l p v a b legs k acc).1=[]
 | [],_,_,_,_,_,h=>by simp [goS] at h
 | i :: r,v,a,b,k,acc,h=>by
  simp only [goS] at h ⊢
  split
  . rfl
  . rename_i x hx
    rw [hx] at h;simp only at h
    split
    . rfl
    . rename_i hn;rw [if_neg hn] at h;exact ZkC h
theorem ZiQ {l:Land} {p:Span}:∀ {legs:List Int} {v a b:Int} {k:Nat} {acc:List Stop},(goS l p v a b legs k acc).1.length<=acc.length+legs.length
 | [],_,_,_,_,_=>by simp [goS]
 | i :: r,v,a,b,k,acc=>by
  simp only [goS]
  split
  . simp
  . split
    . simp
    . refine Nat.le_trans ZiQ ?_;simp;omega
theorem ZbH {l:Land} {p:Span} {s d:Int} {legs:List Int}:(YZ l p s d legs).1.length<=legs.length:=by
 unfold YZ
 split
 . simp
 split
 . simp
 split
 . simp
 split
 . simp
 refine Nat.le_trans ZiQ (by simp)
theorem Zjx {l:Land} {p:Span} {s d:Int} {legs:List Int} (h:(YZ l p s d legs).2.2≠0):(YZ l p s d legs).1=[]:=by
 unfold YZ at h ⊢
 split
 . rfl
 rename_i h1
 rw [if_neg h1] at h
 split
 . rfl
 rename_i h2
 rw [if_neg h2] at h
 split
 . rfl
 rename_i h3
 rw [if_neg h3] at h
 split
 . rfl
 rename_i h4
 rw [h4] at h
 exact ZkC h
end Go.Azalai
namespace Go.Proofs.YtiigiflofnjilaaGreat
open Go Go.Sx Go.Azalai
structure OkS (s:Season):Prop where
 small:SmallS s
 ok:Zt s=true
theorem OkS.land {s:Season} (h:OkS s):ZA s.land=true:=by have:=h.ok;simp only [Zt,Bool.and_eq_true] at this;exact this.1.1.1.1.1.1
theorem OkS.pace {s:Season} (h:OkS s):ZX s.pace=true:=by have:=h.ok;simp only [Zt,Bool.and_eq_true] at this;exact this.1.1.1.1.1.2
theorem OkS.lp {s:Season} (h:OkS s):OkLP s.land s.pace:=⟨h.land,h.pace⟩
theorem OkS.beast {s:Season} (h:OkS s):Zz s.breed=true/\Zv s.breed s.camel=true:=by
 have:=h.ok;simp only [Zt,Bool.and_eq_true,decide_eq_true_eq] at this;exact Cm.errC_0.1 this.1.1.1.1.2
theorem OkS.num {s:Season} (h:OkS s):1<=s.herd/\s.herd<=30/\1<=s.hours/\s.hours<=24/\1<=s.slab/\s.slab<=1000000/\0<=s.cost/\s.cost<=1000000/\0<=s.sale/\s.sale<=1000000/\0<=s.day/\s.day<=s.till/\s.till<=100000:=by
 have:=h.ok;simp only [Zt,W9,inR,Bool.and_eq_true,decide_eq_true_eq] at this;omega
theorem OkS.start {s:Season} (h:OkS s):0<=s.start/\s.start < s.land.wells.length:=by
 have:=h.ok;simp only [Zt,inR,Bool.and_eq_true,decide_eq_true_eq] at this;omega
theorem OkS.scs {s:Season} (h:OkS s):1<=s.scenes.length/\s.scenes.length<=4:=by
 have:=h.ok;simp only [Zt,inR,Bool.and_eq_true,decide_eq_true_eq] at this;omega
theorem OkS.scene {s:Season} (h:OkS s):∀ x ∈ s.scenes,ZG s.land.wells.length x=true:=by
 have:=h.ok;simp only [Zt,Bool.and_eq_true,List.all_eq_true] at this;exact this.2
theorem Zu6 (s:Season) (h:OkS s) (p:Plan) (hg:p.legs.length<=1000):Ct Tryz.prog 44 [.agg (Zn s),.agg (Zy p)] (B (YM s p)):=by
 refine t44.1 (by simp [Zn,Zy,Zh,Ze,Zm,Zg,Zd,Zo,Za,KFL,KF]) (by simp [KFL,KF]) ?_
 dsimp only [c44,r44,Zn,Zy,go_sem,rA,rM,rS]
 refine call (ZuL s h.small h.land h.pace h.start p.legs hg _) ?_
 dsimp only [go_sem,rA,rM,rS]
 repeat (first | (refine gb ?_;dsimp only [go_sem,rA,rM,rS]) | (refine call (XX _ _ _) ?_;dsimp only [go_sem,rA,rM,rS]))
 have:decide ((YE s.land s.start [s.start] p.legs).getD (-1) ≥ 0)=(YE s.land s.start [s.start] p.legs).isSome:=by
  cases hq:YE s.land s.start [s.start] p.legs with
  | none=>rfl
  | some u=>have:=(Zde h.lp h.start hq).1;simpa using this
 rw [this];rfl
theorem Zpy (s:Season) (hs:SmallS s) (p:Plan) (hg:p.legs.length<=1000):Ct Tryz.prog 48 [.agg (Zn s),.agg (Zy p)] (I (if Zt s=false then 90 else if YM s p=false then 91 else 0)):=by
 refine t48.1 (by simp [Zn,Zy,Zh,Ze,Zm,Zg,Zd,Zo,Za,KFL,KF]) (by simp [KFL,KF]) ?_
 dsimp only [c48,r48,Zn,Zy,go_sem,rA,rM,rS]
 refine call (ZbK s hs) ?_
 dsimp only [go_sem,rA,rM,rS]
 by_cases ho:Zt s=true
 case neg =>
  refine Zu (by simp [ho]) ?_
  dsimp only [go_sem,rA,rM,rS]
  simp [ho]
 refine Zx (by simp [ho]) ?_
 dsimp only [go_sem,rA,rM,rS]
 have h:OkS s:=⟨hs,ho⟩
 refine call (Zew s h.small h.land h.pace h.start p.legs hg _) ?_
 dsimp only [go_sem,rA,rM,rS]
 repeat (first | (refine gb ?_;dsimp only [go_sem,rA,rM,rS]) | (refine call (Zgn _ _ _ _) ?_;dsimp only [go_sem,rA,rM,rS]))
 refine br ?_ ?_
 . intro hb
   dsimp only [go_sem,rA,rM,rS]
   have:YM s p=false:=by simp only [YM];revert hb;generalize Option.isSome _=a;generalize inR 0 s.herd p.animals=b;generalize inR 0 12 p.slabs=c;revert a b c;decide
   rw [ho,this];rfl
 intro hb
 dsimp only [go_sem,rA,rM,rS]
 have:YM s p=true:=by simp only [YM];revert hb;generalize Option.isSome _=a;generalize inR 0 s.herd p.animals=b;generalize inR 0 12 p.slabs=c;revert a b c;decide
 rw [ho,this];rfl
theorem walkS (s:Season) (h:OkS s) (legs:List Int) (hg:legs.length<=1000) (c:Bool) {f:Nat}
 (hc:Ct Tryz.prog f [.agg (ZY s.land),I s.start,I s.day,.agg (Zd s.pace),.sl c 1 (legs.map Zo)] (ZbZ (YZ s.land s.pace s.start s.day legs))) :
 Ct Tryz.prog f [.agg (ZY s.land),I s.start,I s.day,.agg (Zd s.pace),.sl c 1 (legs.map Zo)] (.tup [.sl false 6 ((ZO s legs).map ZT),I (YZ s.land s.pace s.start s.day legs).2.1,I (YZ s.land s.pace s.start s.day legs).2.2]):=by
 unfold ZbZ XQ at hc
 split at hc
 . exact hc
 . rename_i he
   refine hc.res (by simp [Za,ZT,KFL,KF]) ?_
   rw [ZO,Zjx he]
   exact Wn (Z0 YR Wq)
theorem Znh (s:Season) (h:OkS s) (legs:List Int) (hg:legs.length<=1000) (c:Bool):Ct Tryz.prog 90 [.agg (Zn s),.sl c 1 (legs.map Zo)] (.tup [.sl false 6 ((ZO s legs).map ZT),B (Vj s legs)]):=by
 refine t90.1 (by simp [Zn,Zh,Ze,Zm,Zg,Zd,Zo,Za,KFL,KF]) (by simp [Za,ZT,KFL,KF]) ?_
 dsimp only [c90,r90,Zn,go_sem,rA,rM,rS]
 refine call (walkS s h legs hg c (Zqq s.land h.small.land s.start s.day s.pace legs hg c)) ?_
 dsimp only [go_sem,rA,rM,rS]
 repeat (refine gb ?_;dsimp only [go_sem,rA,rM,rS])
 have hlen:(ZO s legs).length<=1000:=Nat.le_trans ZbH hg
 simp only [List.length_map]
 refine Ztb ((ZO s legs).length - 1) (ZT (Zh4 (ZO s legs))) rfl (fun hb=>?_) ?_
 . have hz:(ZO s legs).length≠0:=by simpa using hb
   rw [Zi (by omega) (by omega)]
   exact ⟨by omega,by rw [List.getElem?_map,Zeh hz];rfl⟩
 dsimp only [ZT,go_sem,rA,rM,rS]
 repeat (refine gb ?_;dsimp only [go_sem,rA,rM,rS])
 have:((YZ s.land s.pace s.start s.day legs).2.2 == 0 && (((ZO s legs).length:Int) == 0 || decide ((Zh4 (ZO s legs)).arrives.hi<=s.till)))=Vj s legs:=by
  have h1:(((ZO s legs).length:Int) == 0)=decide ((ZO s legs).length=0):=by rw [Bool.eq_iff_iff];simp
  simp only [Vj,h1];rfl
 rw [this]
end Go.Proofs.YtiigiflofnjilaaGreat
namespace Go.Sx
open Go Go.RowKit
section
variable {K V:Type} [DecidableEq K] {k k':K} {v v0:V} {c:Nat} {L:List (Nat × K × V)}
end
section
variable {P:Program} {K' V:Type} [DecidableEq K'] {key:K'->Value} {sv:K'->SV} {val:V->SV} {L:List (Nat × K' × V)} {km c:Nat} {kt et t ty:TypeId} {mx ix vx sx:Operand} {σ : St} {r:KT} {K:RK} {d:Option Nat} {k:K'}
end
section
variable {P:Program} {ty T T':TypeId} {ix jx:Operand} {σ : St} {r:KT} {K:RK} {d:Option Nat} {s:SV}
def Zd0 (P:Program) (T:TypeId):Bool :=
 match P.underlying T with
 | some (.interface _)=>false
 | some _=>true
 | none=>false
theorem ZjO (hT:Zd0 P T=true) (hi:ZaQ σ ix=s) (hg:∀ j b u,s≠.gd j b u) (h:Yw d (.ifc T s) none σ r K):RAW P d (.makeInterface T ix) ty σ r K:=by
 intro o C E a w next Q e1 e2 e3 hS hn hq
 have hiv:=Vp hS hi hg
 have hx:(execOp a.eval o).run P w = .ok (.value (.iface T (a.eval ix))) w:=by
  obtain ⟨dst',op',ty',pos,after,guard⟩:=o
  simp only at e2;subst e2
  unfold Zd0 at hT
  cases hu:P.underlying T with
  | none=>rw [hu] at hT;cases hT
  | some u =>
   rw [hu] at hT
   cases u<;>first | exact absurd hT Bool.false_ne_true | simp [execOp,Sem.run_bind,Instr.makeInterface,run_underlying hu,Result.andThen_ok,Sem.run_pure]
 refine ZD hx (by simp) ?_
 show next (a.put o.dst _) _
 rw [e1]
 refine WZ h hS ?_ hn
 simp only [R];exact ⟨_,rfl,hiv⟩
theorem Zjc (hi:ZaQ σ ix = .ifc T s) (h:K (.pan (.ifc T s)) σ):RAW P d (.panic ix) ty σ r K:=by
 intro o C E a w next Q e1 e2 e3 hS hn hq
 have hiv:=Vp hS hi (fun _ _ _=>by simp)
 simp only [R] at hiv
 obtain ⟨x,hx,hR⟩:=hiv
 have hy:(execOp a.eval o).run P w = .halt (.panic (.iface T x)) w:=by
  obtain ⟨dst',op',ty',pos,after,guard⟩:=o
  simp only at e2;subst e2
  simp [execOp,Sem.run_bind,hx,Instr.panic,goPanic,Result.andThen]
 exact Zjf hy (by rw [e2];simp) (hq _ _ _ _ _ h hS (by simp only [R];exact ⟨x,rfl,hR⟩))
theorem Zbp (hT:Zd0 P T=true) (hi:ZaQ σ ix = .ifc T s) (h:Yw d (.tup [s,.v (.bool true)]) none σ r K):RAW P d (.typeAssert ix T' T true) ty σ r K:=by
 intro o C E a w next Q e1 e2 e3 hS hn hq
 have hiv:=Vp hS hi (fun _ _ _=>by simp)
 simp only [R] at hiv
 obtain ⟨x,hx,hR⟩:=hiv
 have hy:(execOp a.eval o).run P w = .ok (.value (.tuple #[x,.bool true])) w:=by
  obtain ⟨dst',op',ty',pos,after,guard⟩:=o
  simp only at e2;subst e2
  unfold Zd0 at hT
  cases hu:P.underlying T with
  | none=>rw [hu] at hT;cases hT
  | some u =>
   rw [hu] at hT
   cases u<;>first | exact absurd hT Bool.false_ne_true | simp [execOp,Sem.run_bind,hx,Instr.typeAssert,run_underlying hu,Result.andThen_ok,Sem.run_pure]
 refine ZD hy (by simp) ?_
 show next (a.put o.dst _) _
 rw [e1]
 refine WZ h hS ?_ hn
 simp only [R,RL];exact ⟨_,rfl,_,_,rfl,hR,_,_,rfl,rfl,rfl⟩
end
section
variable {K V:Type} [DecidableEq K] {P:Program} {key:K->Value} {sv:K->SV} {val:V->SV} {L:List (Nat × K × V)} {km c:Nat} {kt et t:TypeId} {σ : St} {k:K} {i j:Nat} {ok:Bool} {zs:SV} {z:Value} {v:V}
end
end Go.Sx
namespace Go.Azalai
open Go.Sx
def ZaL (s:Season) (x:Scene) (slabs:Int):March:=⟨s.hours,slabs * s.slab,x.heat,x.grass,⟨0,0⟩⟩
def ZdJ (b:Breed) (c:Camel):Span:=if Zcs b c=0 then ZzD b c else ZaR
def Zix (a b:Span):Span:=⟨min a.lo b.lo,max a.hi b.hi⟩
def ZfT (a b:Camel):Camel:=⟨Zix a.water b.water,Zix a.fat b.fat,Zix a.sore b.sore,a.milks⟩
def Vm (b:Breed) (m:March) (lo:Int):Nat->Nat->Camel->Camel->Camel × Int
 | 0,_,_,out=>(out,0)
 | j+1,n,c,out =>
  if m.load > (ZdJ b c).lo then (Xx,2)
  else if (Yr b c m).2.2≠0\/(Yr b c m).2.1≠0 then (Xx,3)
  else Vm b m lo j (n+1) (Yr b c m).1 (if (n:Int)+1=lo then (Yr b c m).1 else if (n:Int)+1 > lo then ZfT out (Yr b c m).1 else out)
def YX (s:Season) (x:Scene) (d:Span) (slabs:Int) (c:Camel):Camel × Int:=Vm s.breed (ZaL s x slabs) d.lo d.hi.toNat 0 c Xx
end Go.Azalai
namespace Go.Proofs.YtiigiflofnjilaaGreat
open Go Go.Sx Go.Azalai
abbrev camelL:=Cm.camelL
abbrev U8 (n:Int):SV:=.v (.int .u8 n)
def Yp (s:Season) (k:Int):List SV :=
 [.sl false 9 (s.land.wells.map Ze),.sl false 5 (s.land.legs.map Zm),I s.pace.lo,I s.pace.hi,
  I s.breed.full,I s.breed.fed,I s.breed.rest.lo,I s.breed.rest.hi,I s.breed.heat.lo,I s.breed.heat.hi,I s.breed.toil.lo,I s.breed.toil.hi,I s.breed.burn.lo,I s.breed.burn.hi,I s.breed.rub.lo,I s.breed.rub.hi,I s.breed.milk.lo,I s.breed.milk.hi,I s.breed.heal,I s.breed.strong.lo,I s.breed.strong.hi,
  I s.camel.water.lo,I s.camel.water.hi,I s.camel.fat.lo,I s.camel.fat.hi,I s.camel.sore.lo,I s.camel.sore.hi,B s.camel.milks,
  I s.herd,I s.hours,I s.slab,I s.cost,I s.sale,I s.start,I s.day,I s.till,.sl false 6 (s.scenes.map Zh),I k]
theorem Zfy (a b:Span) (c:Bool):Ct Tryz.prog 172 [.agg (Zd a),.sl c 2 [[I b.lo,I b.hi]]] (.agg (Zd (Zix a b))):=by
 refine t172.1 ⟨by simp [KF,KFL,Zd],by simp [KF,KFR,KFL],trivial⟩ (by simp [Zd,KFL,KF]) ?_
 dsimp only [c172,r172,Zd,go_sem,rA,rM,rS]
 refine Xw 2 ?_
 dsimp only [Zb,go_sem,rA,rM,rS]
 refine Zu (by decide) ?_
 dsimp only [go_sem,rA,rM,rS]
 refine ixs 0 [I b.lo,I b.hi] rfl rfl ?_
 dsimp only [go_sem,rA,rM,rS]
 refine Zx (by decide) ?_
 dsimp only [go_sem,rA,rM,rS]
 rfl
theorem ZdF:Zd0 Tryz.prog 117=true:=by kernel_rfl
def XO (why at_:Int):Ot:=⟨true,.ifc 117 (.agg [U8 why,I at_]),[],0⟩
theorem UV (w k:Int):CtM Tryz.prog 91 [] 0 [B true,U8 w,I k] (fun o=>o=⟨false,.tup [],[],0⟩):=by
 refine m91 (by simp [hpb]) (fun o ho=>by subst ho;simp [KX,KXL,KXP]) ?_
 dsimp only [c91,r91,go_sem,rA,rM,rS]
 refine Zx rfl ?_
 dsimp only [go_sem,rA,rM,rS]
 refine ⟨_,rfl,?_⟩
 (refine YG ?_ ?_ ?_ rfl<;>dsimp only [id,go_sem,rA,rM,rS]<;>simp [Za,Zf,KFR,KFL,KF,Zc,mtO,nbr])
theorem Zb5 (w k:Int):CtM Tryz.prog 91 [] 0 [B false,U8 w,I k] (fun o=>o=XO w k):=by
 refine m91 (by simp [hpb]) (fun o ho=>by subst ho;simp [XO,KX,KXL,KXP]) ?_
 dsimp only [c91,r91,go_sem,rA,rM,rS]
 refine Zu rfl ?_
 dsimp only [go_sem,rA,rM,rS]
 refine ZjO (s:=.agg [U8 w,I k]) ZdF rfl (fun _ _ _ e=>by cases e) ?_
 dsimp only [go_sem,rA,rM,rS]
 refine Zjc rfl ?_
 dsimp only [go_sem,rA,rM,rS]
 refine ⟨_,rfl,?_⟩
 (refine YG ?_ ?_ ?_ rfl<;>dsimp only [XO,id,go_sem,rA,rM,rS]<;>simp [XO,Za,Zf,KFR,KFL,KF,Zc,mtO,nbr])
theorem Zk6 (s:Season) (k:Nat) (hk:k < s.scenes.length):Ct Tryz.prog 156 [.agg (Yp s k)] (.agg (Zh s.scenes[k])):=by
 refine t156.1 (by simp [Yp,Zh,Ze,Zm,Zg,Zd,Zo,Za,KFL,KF]) (by simp [Zh,Zd,Zo,Za,KFL,KF]) ?_
 dsimp only [c156,r156,Yp,go_sem,rA,rM,rS]
 refine Zr k hk rfl ?_
 dsimp only [Zh,go_sem,rA,rM,rS]
def ZbJ (at_:Int) (r:Camel × Int):Ot:=if r.2=0 then ⟨false,.agg (camelL r.1),[],0⟩ else XO r.2 at_
theorem Zpe (s:Season) (k:Nat) (hk:k < s.scenes.length) (at_:Int) (c:Camel) (d:Span) (slabs:Int) (hn:0<=slabs/\slabs<=12) (hs:0<=s.slab/\s.slab<=1000000) (hd:d.hi<=1000000000) :
 CtM Tryz.prog 164 [] 0 [.agg (Yp s k),I at_,.agg (camelL c),.agg (Zd d),I slabs] (fun o=>o=ZbJ at_ (YX s s.scenes[k] d slabs c)):=by
 have hb:0<=slabs * s.slab/\slabs * s.slab<=12 * 1000000:=⟨Int.mul_nonneg hn.1 hs.1,Int.mul_le_mul hn.2 hs.2 hs.1 (by decide)⟩
 refine m164 (by simp [hpb]) (fun o ho=>by subst ho;unfold ZbJ;split<;>simp [XO,Cm.camelL,KX,KXL,KXP]) ?_
 dsimp only [c164,r164,Zd,Cm.camelL,Yp,go_sem,rA,rM,rS]
 refine call (Zk6 s k hk) ?_
 dsimp only [Zh,go_sem,rA,rM,rS]
 refine call (Zk6 s k hk) ?_
 dsimp only [Zh,go_sem,rA,rM,rS]
 rw [Zi (n:=slabs * s.slab) (by omega) (by omega)]
 refine WU [1,5,7,8,10,11,12,13,35,36] rfl (fun q:Nat × Camel × Camel=>[(36,I q.1)]) (fun q=>[(1,.cells (Cm.camelL q.2.1) 31),(5,.cells (Cm.camelL q.2.2) 31)])
  (fun q=>q.1<=d.hi.toNat/\Vm s.breed (ZaL s s.scenes[k] slabs) d.lo (d.hi.toNat - q.1) q.1 q.2.1 q.2.2=YX s s.scenes[k] d slabs c) (fun q=>d.hi.toNat - q.1) (0,c,Xx) ⟨Nat.zero_le _,rfl⟩ ?_ ?_
 . (refine Zk ?_ ?_ ?_ rfl rfl<;>dsimp only [Cm.camelL,Xx,ZaR,Zg,Ze,Zm,Zh,Zd,Zo,mtL,mtB,mtS,id,go_sem,rA,rM,rS]<;>simp [Cm.camelL,Xx,ZaR,Zg,Ze,Zm,Zh,Zd,Zo,mtL,mtB,mtS,Za,Zf,KFR,KFL,KF,Zc,mtO,nbr])
 rintro ⟨n,c,out⟩ ⟨hk',hi⟩
 simp only at hk' hi
 dsimp only [Cm.camelL,go_sem,rA,rM,rS]
 by_cases hlt:n < d.hi.toNat
 case neg =>
  refine Zx (by simp;omega) ?_
  dsimp only [go_sem,rA,rM,rS]
  rw [show d.hi.toNat - n=0 from by omega,Vm] at hi
  rw [<- hi]
  refine ⟨_,rfl,?_⟩
  simp only [ZbJ,if_true]
  (refine YG ?_ ?_ ?_ rfl<;>dsimp only [Cm.camelL,mtL,mtB,mtS,id,go_sem,rA,rM,rS]<;>simp [Cm.camelL,mtL,mtB,mtS,Za,Zf,KFR,KFL,KF,Zc,mtO,nbr])
 refine Zu (by simp;omega) ?_
 dsimp only [go_sem,rA,rM,rS]
 refine call (Cm.carries_ok s.breed c) ?_
 dsimp only [Cm.sres,Zd,go_sem,rA,rM,rS]
 rw [show (if Zcs s.breed c=0 then ZzD s.breed c else ZaR)=ZdJ s.breed c from rfl]
 have hj:d.hi.toNat - n=(d.hi.toNat - (n+1))+1:=by omega
 rw [hj,Vm] at hi
 by_cases hw:(ZaL s s.scenes[k] slabs).load > (ZdJ s.breed c).lo
 . rw [show decide (slabs * s.slab<=(ZdJ s.breed c).lo)=false from decide_eq_false (by have:slabs * s.slab > (ZdJ s.breed c).lo:=hw;omega)]
   refine Xd [] (Zb5 2 at_) rfl rfl rfl ?_ ?_ ?_
   . (repeat first | dsimp only [go_sem,rA,rM,rS] | simp only [nbr])
     try simp [mtL,mtB,mtS]
   . trivial
   rintro _ rfl
   (repeat first | dsimp only [XO,go_sem,rA,rM,rS] | simp only [nbr])
   rw [<- hi,if_pos hw]
   refine ⟨_,rfl,?_⟩
   simp only [ZbJ]
   (refine YG ?_ ?_ ?_ rfl<;>dsimp only [XO,id,go_sem,rA,rM,rS]<;>simp [XO,Za,Zf,KFR,KFL,KF,Zc,mtO,nbr])
 rw [show decide (slabs * s.slab<=(ZdJ s.breed c).lo)=true from decide_eq_true (by have:¬ slabs * s.slab > (ZdJ s.breed c).lo:=hw;omega)]
 refine Xd [] (UV 2 at_) rfl rfl rfl ?_ ?_ ?_
 . (repeat first | dsimp only [go_sem,rA,rM,rS] | simp only [nbr])
   try simp [mtL,mtB,mtS]
 . trivial
 rintro _ rfl
 (repeat first | dsimp only [go_sem,rA,rM,rS] | simp only [nbr])
 rw [if_neg hw] at hi
 refine call (Cm.after1_ok s.breed c (ZaL s s.scenes[k] slabs)) ?_
 generalize Yr s.breed c (ZaL s s.scenes[k] slabs)=r at hi ⊢
 dsimp only [Cm.camelL,Cm.U8,go_sem,rA,rM,rS]
 repeat (refine gb ?_;dsimp only [go_sem,rA,rM,rS])
 by_cases hf:r.2.2≠0\/r.2.1≠0
 . rw [show (r.2.2 == 0 && r.2.1 == 0)=false from by simp;omega]
   refine Xd [] (Zb5 3 at_) rfl rfl rfl ?_ ?_ ?_
   . (repeat first | dsimp only [go_sem,rA,rM,rS] | simp only [nbr])
     try simp [mtL,mtB,mtS]
   . trivial
   rintro _ rfl
   (repeat first | dsimp only [XO,go_sem,rA,rM,rS] | simp only [nbr])
   rw [<- hi,if_pos hf]
   refine ⟨_,rfl,?_⟩
   simp only [ZbJ]
   (refine YG ?_ ?_ ?_ rfl<;>dsimp only [XO,id,go_sem,rA,rM,rS]<;>simp [XO,Za,Zf,KFR,KFL,KF,Zc,mtO,nbr])
 rw [show (r.2.2 == 0 && r.2.1 == 0)=true from by simp;omega]
 refine Xd [] (UV 3 at_) rfl rfl rfl ?_ ?_ ?_
 . (repeat first | dsimp only [go_sem,rA,rM,rS] | simp only [nbr])
   try simp [mtL,mtB,mtS]
 . trivial
 rintro _ rfl
 (repeat first | dsimp only [go_sem,rA,rM,rS] | simp only [nbr])
 rw [if_neg hf] at hi
 rw [Zi (n:=(n:Int)+1) (by omega) (by omega)]
 by_cases hl:(n:Int)+1=d.lo
 . refine Zu (by simpa using hl) ?_
   dsimp only [go_sem,rA,rM,rS]
   rw [if_pos hl] at hi
   try rw [Zi (n:=(n:Int)+1) (by omega) (by omega)]
   refine ⟨(n+1,r.1,r.1),⟨hlt,hi⟩,by simp only;omega,?_⟩
   (refine Zk ?_ ?_ ?_ rfl rfl<;>dsimp only [Cm.camelL,Xx,ZaR,Zg,Ze,Zm,Zh,Zd,Zo,mtL,mtB,mtS,id,go_sem,rA,rM,rS]<;>simp [Cm.camelL,Xx,ZaR,Zg,Ze,Zm,Zh,Zd,Zo,mtL,mtB,mtS,Za,Zf,KFR,KFL,KF,Zc,mtO,nbr])
 refine Zx (by simpa using hl) ?_
 dsimp only [go_sem,rA,rM,rS]
 rw [if_neg hl] at hi
 try rw [Zi (n:=(n:Int)+1) (by omega) (by omega)]
 by_cases hm:(n:Int)+1 > d.lo
 . refine Zu (by simpa using hm) ?_
   dsimp only [go_sem,rA,rM,rS]
   rw [if_pos hm] at hi
   refine call (Zfy out.water r.1.water _) ?_
   dsimp only [go_sem,rA,rM,rS]
   refine call (Zfy out.fat r.1.fat _) ?_
   dsimp only [go_sem,rA,rM,rS]
   refine call (Zfy out.sore r.1.sore _) ?_
   dsimp only [Zd,go_sem,rA,rM,rS]
   try rw [Zi (n:=(n:Int)+1) (by omega) (by omega)]
   refine ⟨(n+1,r.1,ZfT out r.1),⟨hlt,hi⟩,by simp only;omega,?_⟩
   (refine Zk ?_ ?_ ?_ rfl rfl<;>dsimp only [Cm.camelL,ZfT,Xx,ZaR,Zg,Ze,Zm,Zh,Zd,Zo,mtL,mtB,mtS,id,go_sem,rA,rM,rS]<;>simp [Cm.camelL,ZfT,Xx,ZaR,Zg,Ze,Zm,Zh,Zd,Zo,mtL,mtB,mtS,Za,Zf,KFR,KFL,KF,Zc,mtO,nbr])
 refine Zx (by simp;omega) ?_
 dsimp only [go_sem,rA,rM,rS]
 rw [if_neg hm] at hi
 try rw [Zi (n:=(n:Int)+1) (by omega) (by omega)]
 refine ⟨(n+1,r.1,out),⟨hlt,hi⟩,by simp only;omega,?_⟩
 (refine Zk ?_ ?_ ?_ rfl rfl<;>dsimp only [Cm.camelL,Xx,ZaR,Zg,Ze,Zm,Zh,Zd,Zo,mtL,mtB,mtS,id,go_sem,rA,rM,rS]<;>simp [Cm.camelL,Xx,ZaR,Zg,Ze,Zm,Zh,Zd,Zo,mtL,mtB,mtS,Za,Zf,KFR,KFL,KF,Zc,mtO,nbr])
def Zxb:SC:=(sr1 [
 o1 2 (.mv (.c (.slice none 0 0)))]
 (.seq (sr1 [
 m1 3 0,
 o1 4 (.isn (.t 3))]
 (.cond (.t 4)
 (sr1 [
  o1 2 (.mv (.c (.slice none 0 0)))]
  .ret)
 .skip))
 (sr1 [
 o1 5 (.bsl 9 88 []),
 m1 6 0,
 o1 7 (.cln 9 72 88 (.t 5) (.t 6)),
 m1 2 7]
 .ret)))
def Zws:List RV:=[.tmp 2]
theorem nw155:Tryz.f155.ntmps=8:=by kernel_rfl
theorem bw155:YI Tryz.prog 155=true:=by kernel_rfl
theorem ZoX:XK Tryz.prog Zxb ((Tryz.f155.body).getD .skip)=true:=by kernel_rfl
theorem Zrg:Wg Tryz.prog Zws Tryz.f155.results.toList=true:=by kernel_rfl
theorem mw155 {n0:Nat} {hp0:List (Nat × HB)} {args:List SV} {Z6:Ot->Prop} (hh:hpb n0 hp0) (hx:∀ o,Z6 o->KX o.res/\KXP o.hp) (h:sx Tryz.prog Y0 n0 Zxb ⟨We 0 args,hp0,n0,8,[]⟩ (Zct Zws fun o=>∃ o',Z6 o'/\ZdV n0 o o')) (hA:Nat.ble args.length 8=true:=by rfl):CtM Tryz.prog 155 hp0 n0 args Z6:=YU Tryz.func155 rfl bw155 ZoX Zrg nw155 (Nat.le_of_ble_eq_true hA) hh hx h
def ZA3:SC:=(sr1 [
 o1 2 (.box (.t 0) 0 120),
 o1 3 (.box (.t 1) 0 94),
 o1 4 (.mv (cn 0))]
 (sr1 [
 o1 10 (ao 2 0),
 o1 11 (ao 10 0),
 o1 12 (lt 11 2),
 o1 5 (.alloc [.slice none 0 0,.slice none 0 0] 25),
 ⟨none,.st (.t 5) (.t 12) 2,none,[]⟩]
 (sr1 [
 o1 13 (ao 5 0),
 o1 14 (lf 13 1),
 o1 15 (.callm 155 [.t 14]),
 o1 16 (ao 5 0),
 ⟨none,.st (.t 16) (.t 15) 1,none,[]⟩]
 (.seq (sr1 [
 o1 17 (ao 5 0),
 o1 18 (lf 17 1),
 o1 19 (.len (.t 18)),
 o1 20 (.mv (cn 0))]
 (.block 0 (.loop (sr1 [
  o1 21 (.bin .lss (.t 20) (.t 19))]
  (.seq (.cond (.t 21)
  .skip
  (.exit 0))
  (.seq (.block 1 (sr1 [
   m1 22 20,
   m1 6 22]
   (.regd [0,1,2,3,4,5,6,7,8,9,10,11] [
   .op (o1 23 (ao 5 0)),
   .op (p1 24 (lf 23 1) [0]),
   .op (m1 25 6),
   .op (o1 26 (lt 2 38)),
   .op (p1 27 (.call 156 [.t 26]) [3]),
   .op (p1 28 (.fld (.t 27) 4 1 false) [4]),
   .op (m1 29 6),
   .op (p1 30 (.ixs (.t 28) (.t 29) 2) [5,6]),
   .op (p1 31 (lt 30 2) [7]),
   .op (p1 32 (.ixs (.t 24) (.t 25) 9) [0,1,2,3,4,5,6,7,8]),
   .op (p1 33 (ao 32 3) [0,1,2,3,4,5,6,7,8,9])] 0 1 [
   ⟨none,.st (.t 33) (.t 31) 2,none,[0,1,2,3,4,5,6,7,8,10]⟩])))
  (.reg [
  o1 34 (.bin .add (.t 20) (cn 1)),
  m1 20 34])))))))
 (sr1 [
 o1 36 (lt 5 2),
 o1 37 (ao 3 1),
 o1 38 (lf 37 1),
 o1 39 (ao 3 4),
 o1 40 (ao 39 0),
 o1 41 (lf 40 1),
 o1 42 (.call 42 [.t 36,.t 38,.c (.slice none 0 0),.t 41]),
 m1 35 42,
 o1 43 (.ext (.t 35) 0),
 o1 44 (.ext (.t 35) 1),
 o1 45 (.ext (.t 35) 2),
 o1 7 (.alloc [.int .i64 0,.int .i64 0] 27),
 ⟨none,.st (.t 7) (.t 43) 2,none,[]⟩,
 m1 8 44,
 m1 9 45]
 (sr1 [
 o1 46 (ao 7 0),
 o1 47 (lf 46 1),
 m1 4 47]
 .ret))))))
def ZAT:List RV:=[.tmp 4]
theorem tw113:Qt1 Tryz.prog 113 ZA3 ZAT 48:=Z8 Tryz.func113 rfl (by kernel_rfl) (by kernel_rfl) (by kernel_rfl) (by kernel_rfl)
def cw47:SC:=(sr1 [
 o1 1 (.box (.t 0) 0 25),
 o1 2 (.alloc [.slice none 0 0,.slice none 0 0] 25)]
 (sr1 [
 o1 4 (.bsl 9 88 []),
 o1 5 (ao 1 0),
 o1 6 (lf 5 1),
 o1 7 (.cln 9 72 88 (.t 4) (.t 6)),
 o1 8 (ao 1 0),
 ⟨none,.st (.t 8) (.t 7) 1,none,[]⟩]
 (sr1 [
 o1 9 (.bsl 5 83 []),
 o1 10 (ao 1 1),
 o1 11 (lf 10 1),
 o1 12 (.cln 5 56 83 (.t 9) (.t 11)),
 o1 13 (ao 1 1),
 ⟨none,.st (.t 13) (.t 12) 1,none,[]⟩]
 (.seq (sr1 [
 o1 3 (.mv (cn 0))]
 (.block 0 (.loop (.seq (sr1 [
  m1 14 3,
  o1 15 (ao 1 1),
  o1 16 (lf 15 1),
  o1 17 (.len (.t 16)),
  o1 18 (.bin .lss (.t 14) (.t 17))]
  (.cond (.t 18)
  .skip
  (.exit 0)))
  (.seq (.block 1 (.regd [0,1,2,3,4,5,6,7,8,9,10,11,12,13] [
   .op (o1 21 (ao 1 1)),
   .op (p1 22 (lf 21 1) [0]),
   .op (m1 23 3),
   .op (o1 24 (.bsl 4 85 [])),
   .op (o1 25 (ao 1 1)),
   .op (p1 26 (lf 25 1) [4]),
   .op (m1 27 3),
   .op (p1 28 (.ixs (.t 26) (.t 27) 5) [5,6]),
   .op (p1 29 (ao 28 4) [7]),
   .op (p1 30 (lf 29 1) [8]),
   .op (p1 31 (.app 4 32 85 (.t 24) (.t 30)) [3,9]),
   .op (p1 32 (.ixs (.t 22) (.t 23) 5) [0,1,2,3,4,5,6,7,8,9,10]),
   .op (p1 33 (ao 32 4) [0,1,2,3,4,5,6,7,8,9,10,11])] 0 1 [
   ⟨none,.st (.t 33) (.t 31) 1,none,[0,1,2,3,4,5,6,7,8,9,10,12]⟩]))
  (.reg [
  m1 19 3,
  o1 20 (.bin .add (.t 19) (cn 1)),
  m1 3 20]))))))
 (sr1 [
 o1 34 (lt 1 2),
 ⟨none,.st (.t 2) (.t 34) 2,none,[]⟩]
 .ret)))))
def rw47:List RV:=[.cell 2 2 true]
theorem nw47:Tryz.f47.ntmps=35:=by kernel_rfl
theorem bw47:YI Tryz.prog 47=true:=by kernel_rfl
theorem Zu2:XK Tryz.prog cw47 ((Tryz.f47.body).getD .skip)=true:=by kernel_rfl
theorem Zvx:Wg Tryz.prog rw47 Tryz.f47.results.toList=true:=by kernel_rfl
theorem mw47 {n0:Nat} {hp0:List (Nat × HB)} {args:List SV} {Z6:Ot->Prop} (hh:hpb n0 hp0) (hx:∀ o,Z6 o->KX o.res/\KXP o.hp) (h:sx Tryz.prog Y0 n0 cw47 ⟨We 0 args,hp0,n0,35,[]⟩ (Zct rw47 fun o=>∃ o',Z6 o'/\ZdV n0 o o')) (hA:Nat.ble args.length 35=true:=by rfl):CtM Tryz.prog 47 hp0 n0 args Z6:=YU Tryz.func47 rfl bw47 Zu2 Zvx nw47 (Nat.le_of_ble_eq_true hA) hh hx h
end Go.Proofs.YtiigiflofnjilaaGreat
namespace Go.Azalai
open Go.Sx
def ZiE (ws:List Well) (ys:List Span):List Well:=List.zipWith (fun w y=>{ w with yld:=y }) ws ys
def Y8 (s:Season) (x:Scene):Land:=⟨ZiE s.land.wells x.yields,s.land.legs⟩
def UD (ws Z:List Well) (k:Nat):List Well:=Z.take k ++ ws.drop k
theorem Ws {ws:List Well} {ys:List Span} (h:ys.length=ws.length):(ZiE ws ys).length=ws.length:=by simp [ZiE,h]
theorem ZeC {ws Z:List Well} {k:Nat} (h:Z.length=ws.length) (hk:k<=ws.length):(UD ws Z k).length=ws.length:=by simp [UD];omega
theorem Zel {ws Z:List Well} {k:Nat} (h:Z.length=ws.length) (hk:k < ws.length) (hk':k < (UD ws Z k).length):(UD ws Z k)[k]=ws[k]:=by
 simp only [UD]
 rw [List.getElem_append_right (by simp;omega)]
 simp [Nat.min_eq_left (Nat.le_of_lt (h ▸ hk:k < Z.length))]
theorem ZkT {ws Z:List Well} {k:Nat} (h:Z.length=ws.length) (hk:k < ws.length) (hz:k < Z.length):(UD ws Z k).set k Z[k]=UD ws Z (k+1):=by
 simp only [UD]
 rw [List.set_append_right _ _ (by simp;omega)]
 have h1:(Z.take k).length=k:=by simp;omega
 rw [h1,Nat.sub_self,List.drop_eq_getElem_cons hk,List.set_cons_zero,List.take_succ_eq_append_getElem hz,List.append_assoc]
 rfl
theorem ZdA {ws:List Well} {ys:List Span} {k:Nat} (h1:k < ws.length) (h2:k < ys.length) (h:k < (ZiE ws ys).length):(ZiE ws ys)[k]={ ws[k] with yld:=ys[k] }:=by simp [ZiE]
def Zar (s:Season) (x:Scene) (st:Stop):Int:=(XP (Y8 s x) st.well [] st.arrives.lo).1.lo
end Go.Azalai
namespace Go.Proofs.YtiigiflofnjilaaGreat
open Go Go.Sx Go.Azalai
theorem ZeD {s:Season} {x:Scene} (h:WM s.land) (hx:x.yields.length=s.land.wells.length):WM (Y8 s x):=by
 refine ⟨?_,h.2.1,h.2.2⟩
 simp only [Y8];rw [Ws hx];exact h.1
theorem ZlF (l:List Well) (hL:l.length<=1000) (k:Bool):CtM Tryz.prog 155 [] 0 [.sl k 9 (l.map Ze)] (fun o=>o=⟨false,.mr 0 0,[(0,.row 0 9 (l.map Ze) 88)],1⟩):=by
 refine mw155 (by simp [hpb]) (fun o ho=>by subst ho;simp [KX,KXL,KXP,KXH,Za,KFL,KF,Ze]) ?_
 dsimp only [Zxb,Zws,go_sem,rA,rM,rS]
 intro b hb
 dsimp only [go_sem,rA,rM,rS]
 cases b with
 | true =>
  have hl:l=[]:=by simpa using hb rfl
  subst hl
  refine Zu rfl ?_
  dsimp only [go_sem,rA,rM,rS]
  refine ⟨_,rfl,?_⟩
  refine Us (Yg (Y7 0 9 88 rfl rfl) ?_) (fun _ _ _ e=>by cases e)
  (refine Zk ?_ ?_ ?_ rfl rfl<;>dsimp only [Ze,id,go_sem,rA,rM,rS]<;>simp [Ze,Za,Zf,KFR,KFL,KF,Zc,mtO,nbr])
 | false =>
  refine Zx rfl ?_
  dsimp only [go_sem,rA,rM,rS]
  refine ⟨by simp;omega,?_⟩
  dsimp only [go_sem,rA,rM,rS]
  refine ⟨_,rfl,?_⟩
  (refine YG ?_ ?_ ?_ rfl<;>dsimp only [Ze,id,go_sem,rA,rM,rS]<;>simp [Ze,Za,Zf,KFR,KFL,KF,Zc,mtO,nbr])
theorem Zsd (l:Land) (hs:WM l):CtM Tryz.prog 47 [] 0 [.agg (ZY l)] (fun o=>o=⟨false,.agg [.mr 0 0,.mr 1 0],[(0,.row 0 9 (l.wells.map Ze) 88),(1,.row 0 5 (l.legs.map Zm) 83)],2⟩):=by
 refine mw47 (by simp [hpb]) (fun o ho=>by subst ho;simp [KX,KXL,KXP,KXH,Za,KFL,KF,ZY,Ze,Zm,Zg]) ?_
 dsimp only [cw47,rw47,ZY,go_sem,rA,rM,rS]
 refine ⟨by simp;have:=hs.1;omega,?_⟩
 dsimp only [go_sem,rA,rM,rS]
 refine ⟨by simp;have:=hs.2.1;omega,?_⟩
 dsimp only [go_sem,rA,rM,rS]
 refine Xu (fun k:Nat=>[(3,I k)]) (fun _=>[]) (fun k=>k<=l.legs.length) (fun k=>l.legs.length - k) 0 (Nat.zero_le _) ?_ ?_
 . (refine Zk ?_ ?_ ?_ rfl rfl<;>dsimp only [Zg,Ze,Zm,id,go_sem,rA,rM,rS]<;>simp [Zg,Ze,Zm,Za,Zf,KFR,KFL,KF,Zc,mtO,nbr])
 intro k hk
 dsimp only [go_sem,rA,rM,rS]
 simp only [List.length_map]
 by_cases hlt:k < l.legs.length
 . refine Zu (by simpa using hlt) ?_
   dsimp only [go_sem,rA,rM,rS]
   refine UA k rfl (by simpa using hlt) ?_
   dsimp only [go_sem,rA,rM,rS]
   refine ZcE hlt ?_
   dsimp only [Zm,go_sem,rA,rM,rS]
   refine Zm1 (by simp;have:=hs.2.2 _ (List.getElem_mem hlt);omega) ?_
   dsimp only [go_sem,rA,rM,rS]
   refine UA k rfl (by simpa using hlt) ?_
   dsimp only [go_sem,rA,rM,rS]
   refine ZiI l.legs[k] hlt (by simp [Zm]) (by simp [Zm,Zs]) ?_
   rw [List.set_getElem_self]
   dsimp only [go_sem,rA,rM,rS]
   rw [Zi (n:=(k:Int)+1) (by omega) (by have:=hs.2.1;omega)]
   refine ⟨k+1,hlt,by omega,?_⟩
   (refine Zk ?_ ?_ ?_ rfl rfl<;>dsimp only [Zg,Ze,Zm,id,go_sem,rA,rM,rS]<;>simp [Zg,Ze,Zm,Za,Zf,KFR,KFL,KF,Zc,mtO,nbr])
 refine Zx (by simp;omega) ?_
 dsimp only [go_sem,rA,rM,rS]
 refine ⟨_,rfl,?_⟩
 refine ZBt (fun i=>i+2) ?_ ?_ ?_ (fun i hi j hj h=>by omega) rfl (fun i hi=>absurd hi (Nat.not_lt_zero i))<;>dsimp only [go_sem,rA,rM,rS]<;>simp [Za,Zf,KFR,KFL,KF,Zc,mtO,nbr,Ze,Zm,Zg]
theorem Ztg (s:Season) (hs:SmallS s) (k:Nat) (hk:k < s.scenes.length) (hy:s.scenes[k].yields.length=s.land.wells.length) (st:Stop):Ct Tryz.prog 113 [.agg (Yp s k),.agg (ZT st)] (I (Zar s s.scenes[k] st)):=by
 have hw:=hs.land.1
 refine tw113.1 (by simp [Yp,ZT,Zh,Ze,Zm,Zg,Zd,Zo,Za,KFL,KF]) (by simp [KFL,KF]) ?_
 dsimp only [ZA3,ZAT,Yp,ZT,go_sem,rA,rM,rS]
 refine V5 [] (ZlF s.land.wells hw false) rfl rfl rfl ?_ ?_ ?_
 . exact Zc (by simp [Za,Ze,KFL,KF])
 . trivial
 dsimp only [go_sem,rA,rM,rS]
 simp only [List.length_map]
 have hz:=Ws hy
 refine WU [2,3,4,5,19,20] rfl (fun q:Nat=>[(20,I q)]) (fun q=>[(3,.row 0 9 ((UD s.land.wells (ZiE s.land.wells s.scenes[k].yields) q).map Ze) 88)])
  (fun q=>q<=s.land.wells.length) (fun q=>s.land.wells.length - q) 0 (Nat.zero_le _) ?_ ?_
 . (refine Zk ?_ ?_ ?_ rfl rfl<;>dsimp only [Ze,Zm,Zg,Zh,Zd,Zo,UD,id,go_sem,rA,rM,rS]<;>simp [Ze,Zm,Zg,Zh,Zd,Zo,UD,Za,Zf,KFR,KFL,KF,Zc,mtO,nbr])
 intro q hq
 dsimp only [go_sem,rA,rM,rS]
 by_cases hlt:q < s.land.wells.length
 . refine Zu (by simpa using hlt) ?_
   dsimp only [go_sem,rA,rM,rS]
   refine call (Zk6 s k hk) ?_
   dsimp only [Zh,go_sem,rA,rM,rS]
   refine Zr q (by omega) rfl ?_
   dsimp only [Zd,go_sem,rA,rM,rS]
   refine UA q rfl (by simp [ZeC hz hq];omega) ?_
   dsimp only [go_sem,rA,rM,rS]
   have hq2:q < (UD s.land.wells (ZiE s.land.wells s.scenes[k].yields) q).length:=by rw [ZeC hz hq];exact hlt
   have hq3:q < (ZiE s.land.wells s.scenes[k].yields).length:=by omega
   refine ZiI ((ZiE s.land.wells s.scenes[k].yields)[q]) hq2 (by rw [Zel hz hlt];simp [Ze]) (by rw [Zel hz hlt,ZdA hlt (by omega)];simp [Ze,Zs]) ?_
   rw [ZkT hz hlt hq3]
   dsimp only [go_sem,rA,rM,rS]
   rw [Zi (n:=(q:Int)+1) (by omega) (by omega)]
   refine ⟨q+1,by omega,by omega,?_⟩
   (refine Zk ?_ ?_ ?_ rfl rfl<;>dsimp only [Ze,Zm,Zg,Zh,Zd,Zo,id,go_sem,rA,rM,rS]<;>simp [Ze,Zm,Zg,Zh,Zd,Zo,Za,Zf,KFR,KFL,KF,Zc,mtO,nbr])
 refine Zx (by simp;omega) ?_
 dsimp only [go_sem,rA,rM,rS]
 have hq':UD s.land.wells (ZiE s.land.wells s.scenes[k].yields) q=ZiE s.land.wells s.scenes[k].yields:=by
  simp only [UD];rw [List.take_of_length_le (by omega),List.drop_eq_nil_of_le (by omega),List.append_nil]
 rw [hq']
 have hwa:=(Zou (Y8 s s.scenes[k]) (ZeD hs.land hy) st.well st.arrives.lo [] (by simp)).args (args0:=[.agg (ZY (Y8 s s.scenes[k])),I st.well,.v (.slice none 0 0),I st.arrives.lo]) (by simp [ZY,Ze,Zm,Zg,Za,KFL,KF]) (Z0 (fun _ _ _ _ _ h=>h) (Z0 (fun _ _ _ _ _ h=>h) (Z0 YR Wq)))
 refine UF (by simp [FLT,ZiH,Zoe,Zd]) (res:=Zoe (XP (Y8 s s.scenes[k]) st.well [] st.arrives.lo)) ?_ ?_
 . dsimp only [go_sem,rA,rM,rS]
   exact hwa
 dsimp only [Zoe,Zd,go_sem,rA,rM,rS]
 rfl
end Go.Proofs.YtiigiflofnjilaaGreat
namespace Go.Sx
open Go Go.RowKit
theorem VU {l l':List SV} (h:∀ (w:World) (E:Env) (n ok:Nat->Prop) (ys:List Value),RL w E n ok l ys->RL w E n ok l' ys):Xs (.agg l) (.agg l'):=fun w E n ok y hy=>by
 simp only [R] at hy ⊢
 obtain ⟨cs,h1,h2⟩:=hy
 exact ⟨cs,h1,h _ _ _ _ _ h2⟩
end Go.Sx
namespace Go.Azalai
open Go.Sx
def Zdb (b:Breed) (c:Camel):Camel:={ c with water:=⟨b.full,b.full⟩ }
def goG (s:Season) (x:Scene) (slabs:Int):List Stop->Nat->Camel->List (Int × Int)->Int × Int × List (Int × Int)
 | [],_,_,acc=>(0,0,acc)
 | st :: r,i,c,acc =>
  if (YX s x (YO s.land st.leg s.pace).1 slabs c).2≠0 then ((YX s x (YO s.land st.leg s.pace).1 slabs c).2,i,acc)
  else goG s x slabs r (i+1) (Zdb s.breed (YX s x (YO s.land st.leg s.pace).1 slabs c).1)
   (if r=[] then acc else acc ++ [(s.breed.full - (YX s x (YO s.land st.leg s.pace).1 slabs c).1.water.lo,Zar s x st)])
def goF (s:Season) (x:Scene) (slabs:Int) (l:List Stop):Int × Int × List (Int × Int) :=
 if l=[] then (if slabs * s.slab > (ZdJ s.breed s.camel).lo then 2 else 0,0,[]) else goG s x slabs l 0 s.camel []
theorem ZfP {lo hi:Int} {a b:Span} (ha:Z3 lo hi a=true) (hb:Z3 lo hi b=true):Z3 lo hi (Zix a b)=true:=by
 simp only [Z3,decide_eq_true_eq] at ha hb
 show decide (lo<=min a.lo b.lo/\min a.lo b.lo<=max a.hi b.hi/\max a.hi b.hi<=hi)=true
 rw [decide_eq_true_eq];omega
theorem Zcp {b:Breed} {c:Camel} {m:March} (hb:Zz b=true) (hc:Zv b c=true) (he:(Yr b c m).2.2=0):Zv b (Yr b c m).1=true:=by
 unfold Yr at he ⊢
 rw [if_neg (by rw [Go.Proofs.YtiigiflofnjilaaGreat.Cm.errC_0.2 ⟨hb,hc⟩];simp)] at he ⊢
 split
 . rename_i h;rw [if_pos h] at he;simp at he
 . rename_i h
   rw [if_neg h] at he
   split
   . rename_i h2;rw [if_pos h2] at he;simp at he
   . rename_i h2
     exact Go.Azalai.after_ok hb hc (by simpa using h) h2
theorem ZdM {b:Breed} (hb:Zz b=true):Zv b Xx=true:=by
 have:=Go.Proofs.YtiigiflofnjilaaGreat.Cm.breed_bd hb
 simp [Zv,Xx,Z3];omega
theorem ZeT {b:Breed} {m:March} {lo:Int} (hb:Zz b=true):∀ {j n:Nat} {c out:Camel},Zv b c=true->Zv b out=true->Zv b (Vm b m lo j n c out).1=true
 | 0,_,_,_,_,ho=>ho
 | j+1,n,c,out,hc,ho=>by
  simp only [Vm]
  split
  . exact ZdM hb
  split
  . exact ZdM hb
  rename_i h1 h2
  have ha:=Zcp (m:=m) hb hc (by omega)
  refine ZeT hb ha ?_
  split
  . exact ha
  split
  . simp only [Zv,Bool.and_eq_true] at ha ho ⊢
    exact ⟨⟨ZfP ho.1.1 ha.1.1,ZfP ho.1.2 ha.1.2⟩,ZfP ho.2 ha.2⟩
  . exact ho
theorem UT {s:Season} {x:Scene} {d:Span} {slabs:Int} {c:Camel} (hb:Zz s.breed=true) (hc:Zv s.breed c=true):Zv s.breed (YX s x d slabs c).1=true:=ZeT hb hc (ZdM hb)
theorem UY {b:Breed} {c:Camel} (hb:Zz b=true) (hc:Zv b c=true):Zv b (Zdb b c)=true:=by
 have:=Go.Proofs.YtiigiflofnjilaaGreat.Cm.breed_bd hb
 simp only [Zv,Zdb,Bool.and_eq_true] at hc ⊢
 exact ⟨⟨by simp only [Z3,decide_eq_true_eq];omega,hc.1.2⟩,hc.2⟩
theorem Zqe {l:Land} {p:Span} {leg:Int} (hg:OkLP l p):(YO l leg p).1.hi<=1000000000:=by
 unfold YO
 split
 . simp
 split
 . simp
 split
 . rename_i x hx
   have:=Go.Azalai.day_bd (hg.leg hx) hg.pace
   simp only;omega
 . simp
theorem Zgr {b:Breed} {c:Camel} (hb:Zz b=true) (hc:Zv b c=true):0<=c.water.lo/\c.water.lo<=b.full/\1<=b.full/\b.full<=1000000:=by
 have h1:=Go.Proofs.YtiigiflofnjilaaGreat.Cm.breed_bd hb
 have h2:=Go.Proofs.YtiigiflofnjilaaGreat.Cm.camel_bd hb hc
 omega
end Go.Azalai
namespace Go.Proofs.YtiigiflofnjilaaGreat
open Go Go.Sx Go.Azalai
theorem Zwl (s:Season) (h:OkS s) (leg:Int):Ct Tryz.prog 39 [.agg (ZY s.land),I leg,.agg (Zd s.pace)] (sres (YO s.land leg s.pace)):=Zns s.land h.small.land leg s.pace
end Go.Proofs.YtiigiflofnjilaaGreat
namespace Go.Azalai
open Go.Sx
def Zai (n:Int):List (Int × Int)->Nat->Option Nat
 | [],_=>none
 | p :: r,i=>if n * p.1 > p.2 then some i else Zai n r (i+1)
def ZaV (n:Int) (g:Int × Int × List (Int × Int)):Int × Int :=
 match Zai n g.2.2 0 with
 | some i=>(4,i)
 | none=>(g.1,g.2.1)
def XG (s:Season) (p:Plan) (x:Scene):Int × Int :=
 if Vj s p.legs=false then (1,0) else if p.animals=0 then (0,0) else ZaV p.animals (goF s x p.slabs (ZO s p.legs))
def Wi (s:Season) (p:Plan):List Scene->Nat->Int × Int × Int × Int
 | [],_=>(0,0,0,0)
 | x :: r,i=>if (XG s p x).1≠0 then ((XG s p x).1,i,(XG s p x).2,0) else Wi s p r (i+1)
def ZM (s:Season) (p:Plan):Int × Int × Int × Int :=
 if Zt s=false then (0,0,0,90) else if YM s p=false then (0,0,0,91) else Wi s p s.scenes 0
theorem Zjy {s:Season} {x:Scene} {slabs:Int} (hb:Zz s.breed=true):∀ {l:List Stop} {i:Nat} {c:Camel} {acc:List (Int × Int)},Zv s.breed c=true->(∀ q ∈ acc,0<=q.1/\q.1<=1000000) ->
 (∀ q ∈ (goG s x slabs l i c acc).2.2,0<=q.1/\q.1<=1000000)/\(goG s x slabs l i c acc).2.2.length<=acc.length+l.length
 | [],_,_,acc,_,ha=>⟨ha,by simp [goG]⟩
 | st :: r,i,c,acc,hc,ha=>by
  simp only [goG]
  split
  . exact ⟨ha,by simp only;omega⟩
  have hbo:=UT (x:=x) (d:=(YO s.land st.leg s.pace).1) (slabs:=slabs) hb hc
  have hw:=Zgr hb hbo
  split
  . obtain ⟨h1,h2⟩:=Zjy (s:=s) (x:=x) (slabs:=slabs) hb (l:=r) (i:=i+1) (acc:=acc) (UY hb hbo) ha
    exact ⟨h1,by simp only [List.length_cons];omega⟩
  . obtain ⟨h1,h2⟩:=Zjy (s:=s) (x:=x) (slabs:=slabs) hb (l:=r) (i:=i+1) (acc:=acc ++ [(s.breed.full - (YX s x (YO s.land st.leg s.pace).1 slabs c).1.water.lo,Zar s x st)]) (UY hb hbo) (fun q hq=>by
     rcases List.mem_append.1 hq with hq | hq
     . exact ha q hq
     . simp only [List.mem_singleton] at hq;subst hq;simp only;omega)
    exact ⟨h1,by simp only [List.length_cons,List.length_append,List.length_nil] at h2 ⊢;omega⟩
theorem ZzO {s:Season} {x:Scene} {slabs:Int} {l:List Stop} (hb:Zz s.breed=true) (hc:Zv s.breed s.camel=true):(∀ q ∈ (goF s x slabs l).2.2,0<=q.1/\q.1<=1000000)/\(goF s x slabs l).2.2.length<=l.length:=by
 unfold goF
 split
 . simp
 . obtain ⟨h1,h2⟩:=Zjy (x:=x) (slabs:=slabs) hb (l:=l) (i:=0) (acc:=[]) hc (by simp)
   exact ⟨h1,by simpa using h2⟩
end Go.Azalai
namespace Go.Proofs.YtiigiflofnjilaaGreat
open Go Go.Sx Go.Azalai
theorem UE {s:Season} {p:Plan} (h:YM s p=true):(∃ v,YE s.land s.start [s.start] p.legs=some v)/\0<=p.animals/\p.animals<=s.herd/\0<=p.slabs/\p.slabs<=12:=by
 simp only [YM,inR,Bool.and_eq_true,decide_eq_true_eq,Option.isSome_iff_exists] at h
 exact ⟨h.1.1,by omega⟩
def Xk (r:Int × Int × Int × Int):SV:=.tup [U8 r.1,I r.2.1,I r.2.2.1,I r.2.2.2]
end Go.Proofs.YtiigiflofnjilaaGreat
namespace Go.Azalai
open Go.Sx
def ZbD (n:Int) (st:Stop) (p:Int × Int):Draw:=⟨st.well,st.arrives.lo,n * p.1⟩
def VA (n:Int) (l:List Stop) (g:List (Int × Int)):List Draw:=List.zipWith (ZbD n) l g
def X6 (s:Season) (x:Scene) (n slabs:Int) (l:List Stop):List Draw :=
 if l=[] then [] else if n=0 then l.dropLast.map fun st=>⟨st.well,st.arrives.lo,0⟩ else VA n l (goF s x slabs l).2.2
def Zhr (s:Season) (x:Scene) (n slabs:Int) (l:List Stop):Int × Int:=if n=0 then (0,0) else ZaV n (goF s x slabs l)
theorem Zfz {s:Season} {x:Scene} {slabs:Int}:∀ {l:List Stop} {i:Nat} {c:Camel} {acc:List (Int × Int)},∃ more,(goG s x slabs l i c acc).2.2=acc ++ more
 | [],_,_,acc=>⟨[],by simp [goG]⟩
 | st :: r,i,c,acc=>by
  simp only [goG]
  split
  . exact ⟨[],by simp⟩
  split
  . exact Zfz
  . obtain ⟨m,hm⟩:=Zfz (s:=s) (x:=x) (slabs:=slabs) (l:=r) (i:=i+1) (c:=Zdb s.breed (YX s x (YO s.land st.leg s.pace).1 slabs c).1) (acc:=acc ++ [(s.breed.full - (YX s x (YO s.land st.leg s.pace).1 slabs c).1.water.lo,Zar s x st)])
    exact ⟨_,by rw [hm,List.append_assoc]⟩
theorem Zbn {n:Int}:∀ {a b:List (Int × Int)} {i:Nat},Zai n a i=none->Zai n (a ++ b) i=Zai n b (i+a.length)
 | [],_,_,_=>by simp
 | p :: a,b,i,h=>by
  simp only [Zai] at h
  split at h
  . cases h
  rename_i hp
  simp only [List.cons_append,Zai]
  rw [if_neg hp,Zbn h,List.length_cons];congr 1;omega
theorem Zfd {n:Int} {l:List Stop} {acc:List (Int × Int)} {p:Int × Int} {j:Nat} (hj:j < l.length) (ha:acc.length=j):VA n l (acc ++ [p])=VA n l acc ++ [ZbD n l[j] p]:=by
 simp only [VA]
 subst ha
 have h1:l=l.take acc.length ++ l.drop acc.length:=(List.take_append_drop ..).symm
 have hlen:(l.take acc.length).length=acc.length:=by simp;omega
 have e1:List.zipWith (ZbD n) l (acc ++ [p])=List.zipWith (ZbD n) (l.take acc.length) acc ++ List.zipWith (ZbD n) (l.drop acc.length) [p]:=by
  rw [<- List.zipWith_append hlen,<- h1]
 have e2:List.zipWith (ZbD n) l acc=List.zipWith (ZbD n) (l.take acc.length) acc:=by
  have:=List.zipWith_append (f:=ZbD n) (l₁:=l.take acc.length) (l₁':=l.drop acc.length) (l₂:=acc) (l₂':=[]) hlen
  rw [<- h1] at this;simpa using this
 rw [e1,e2,List.drop_eq_getElem_cons hj]
 simp only [List.zipWith_cons_cons,List.zipWith_nil_right]
end Go.Azalai
namespace Go.Proofs.YtiigiflofnjilaaGreat
open Go Go.Sx Go.Azalai
def ZzZ (s:Season) (k:Int) (l:List Stop) (slabs:Int):Ot:=⟨false,.cl 163 [.p 0 0,.p 1 0,.p 2 0],[(0,.cells (Yp s k) 120),(1,.cells [.sl false 6 (l.map ZT)] 90),(2,.cells [I slabs] 3)],3⟩
theorem Zfx (s:Season) (k:Int) (l:List Stop) (slabs:Int):CtM Tryz.prog 135 [] 0 [.agg (Yp s k),.sl false 6 (l.map ZT),I slabs] (fun o=>o=ZzZ s k l slabs):=by
 refine m135 (by simp [hpb]) (fun o ho=>by subst ho;simp [ZzZ,Yp,KX,KXL,KXP,KXH,Za,KFL,KF,Ze,Zm,Zg,Zh,Zd,Zo,ZT]) ?_
 dsimp only [c135,r135,go_sem,rA,rM,rS]
 refine ⟨_,rfl,?_⟩
 (refine YG ?_ ?_ ?_ rfl<;>dsimp only [ZzZ,Yp,Ze,Zm,Zg,Zh,Zd,Zo,ZT,id,go_sem,rA,rM,rS]<;>simp [ZzZ,Yp,Ze,Zm,Zg,Zh,Zd,Zo,ZT,Za,Zf,KFR,KFL,KF,Zc,mtO,nbr])
def V4 (w:Int × Int) (ds:List Draw):Ot:=if w.1=0 then ⟨false,.sl false 3 (ds.map Z1),[],0⟩ else XO w.1 w.2
theorem Zsy (s:Season) (h:OkS s) (k:Nat) (hk:k < s.scenes.length) (l:List Stop) (hl:l.length<=1000) (n slabs:Int) (hn:0<=n/\n<=s.herd) (hsl:0<=slabs/\slabs<=12) :
 CtM Tryz.prog 92 [] 0 [.agg (Yp s k),.sl false 6 (l.map ZT),I n,I slabs] (fun o=>o=V4 (Zhr s s.scenes[k] n slabs l) (X6 s s.scenes[k] n slabs l)):=by
 have hnum:=h.num
 have hx:=h.scene _ (List.getElem_mem hk)
 have hy:s.scenes[k].yields.length=s.land.wells.length:=by simp only [ZG,Bool.and_eq_true,decide_eq_true_eq] at hx;omega
 have hb:0<=slabs * s.slab/\slabs * s.slab<=12 * 1000000:=⟨Int.mul_nonneg hsl.1 (by omega),Int.mul_le_mul hsl.2 (by omega) (by omega) (by decide)⟩
 refine m92 (by simp [hpb]) (fun o ho=>by subst ho;unfold V4;split<;>simp [XO,KX,KXL,KXP,Za,KFL,KF,Z1]) ?_
 dsimp only [c92,r92,Yp,go_sem,rA,rM,rS]
 simp only [List.length_map]
 by_cases hl0:l=[]
 . subst hl0
   refine Zu (by simp) ?_
   dsimp only [go_sem,rA,rM,rS]
   refine call (Cm.carries_ok s.breed s.camel) ?_
   dsimp only [Cm.sres,Zd,go_sem,rA,rM,rS]
   rw [show (if Zcs s.breed s.camel=0 then ZzD s.breed s.camel else ZaR)=ZdJ s.breed s.camel from rfl]
   repeat (refine gb ?_;dsimp only [go_sem,rA,rM,rS])
   rw [Zi (n:=slabs * s.slab) (by omega) (by omega)]
   by_cases hok:n=0\/slabs * s.slab<=(ZdJ s.breed s.camel).lo
   . rw [show (n == 0 || decide (slabs * s.slab<=(ZdJ s.breed s.camel).lo))=true from by simpa using hok]
     refine Xd [] (UV 2 0) rfl rfl rfl ?_ ?_ ?_
     . (repeat first | dsimp only [go_sem,rA,rM,rS] | simp only [nbr])
       try simp [mtL,mtB,mtS]
     . trivial
     rintro _ rfl
     (repeat first | dsimp only [go_sem,rA,rM,rS] | simp only [nbr])
     refine ⟨_,rfl,?_⟩
     have hw:Zhr s s.scenes[k] n slabs []=(0,0):=by
      unfold Zhr
      split
      . rfl
      . rw [goF,if_pos rfl,if_neg (by omega)];rfl
     rw [hw]
     simp only [V4,if_true,X6,List.map_nil]
     refine Us (Yg (Y7 0 3 111 rfl rfl) (Yg (Zbf 0 4 0 rfl rfl rfl rfl) ?_)) (fun _ _ _ e=>by cases e)
     (refine Zk ?_ ?_ ?_ rfl rfl<;>dsimp only [id,go_sem,rA,rM,rS]<;>simp [Za,Zf,KFR,KFL,KF,Zc,mtO,nbr])
   . rw [show (n == 0 || decide (slabs * s.slab<=(ZdJ s.breed s.camel).lo))=false from by simpa using hok]
     refine Xd [] (Zb5 2 0) rfl rfl rfl ?_ ?_ ?_
     . (repeat first | dsimp only [go_sem,rA,rM,rS] | simp only [nbr])
       try simp [mtL,mtB,mtS]
     . trivial
     rintro _ rfl
     (repeat first | dsimp only [XO,go_sem,rA,rM,rS] | simp only [nbr])
     refine ⟨_,rfl,?_⟩
     have hw:Zhr s s.scenes[k] n slabs []=(2,0):=by
      unfold Zhr
      rw [if_neg (by omega),goF,if_pos rfl,if_pos (by omega)];rfl
     rw [hw]
     simp only [V4]
     (refine YG ?_ ?_ ?_ rfl<;>dsimp only [XO,id,go_sem,rA,rM,rS]<;>simp [XO,Za,Zf,KFR,KFL,KF,Zc,mtO,nbr])
 have hl1:l.length≠0:=fun e=>hl0 (List.length_eq_zero_iff.1 e)
 refine Zx (by simpa using hl0) ?_
 dsimp only [go_sem,rA,rM,rS]
 by_cases hn0:n=0
 . refine Zu (by simpa using hn0) ?_
   dsimp only [go_sem,rA,rM,rS]
   simp only [List.length_map]
   refine ⟨0,l.length - 1,⟨rfl,by rw [Zi (by omega) (by omega)];omega,by omega,by simp⟩,?_⟩
   rw [List.drop_zero,show (l.map ZT).take (l.length - 1)=l.dropLast.map ZT from by rw [List.dropLast_eq_take,List.map_take]]
   dsimp only [go_sem,rA,rM,rS]
   simp only [List.length_map]
   have hwF:Zhr s s.scenes[k] n slabs l=(0,0):=by simp only [Zhr,if_pos hn0]
   have hdF:X6 s s.scenes[k] n slabs l=l.dropLast.map fun st=>⟨st.well,st.arrives.lo,0⟩:=by simp only [X6,if_neg hl0,if_pos hn0]
   have hdl:l.dropLast.length<=1000:=by simp;omega
   rw [hwF,hdF]
   generalize l.dropLast=m at hdl ⊢
   refine Zd5 (Yg (UW [4,5,6,8,11,49,50,51] rfl) (Ue 3 0 3 111 rfl rfl)) (fun q:Nat × Nat × List Draw=>[(51,I q.1)])
    (fun q=>[(3,.cells [.mr 4 q.2.1] 54),(4,.row q.2.1 3 (q.2.2.map Z1) 111)]) (fun q=>q.1<=m.length/\q.2.2=(m.map fun st=>(⟨st.well,st.arrives.lo,0⟩:Draw)).take q.1) (fun q=>m.length - q.1) (0,0,[]) ⟨Nat.zero_le _,by simp⟩ ?_ ?_
   . (refine Zk ?_ ?_ ?_ rfl rfl<;>dsimp only [Yp,Ze,Zm,Zg,Zh,Zd,Zo,ZT,Z1,id,go_sem,rA,rM,rS]<;>simp [Yp,Ze,Zm,Zg,Zh,Zd,Zo,ZT,Z1,Za,Zf,KFR,KFL,KF,Zc,mtO,nbr])
   rintro ⟨j,v,D⟩ ⟨hj,hD⟩
   simp only at hj hD
   dsimp only [go_sem,rA,rM,rS]
   by_cases hlt:j < m.length
   . refine Zu (by simpa using hlt) ?_
     dsimp only [go_sem,rA,rM,rS]
     refine Zr j hlt rfl ?_
     dsimp only [ZT,go_sem,rA,rM,rS]
     simp only [nbr]
     dsimp only [go_sem,rA,rM,rS]
     refine ⟨(by intro c hc;simp only [List.mem_singleton] at hc;subst hc;rfl),by simp [hD];omega,?_⟩
     dsimp only [go_sem,rA,rM,rS]
     rw [Zi (n:=(j:Int)+1) (by omega) (by omega)]
     refine ⟨(j+1,v+1,D ++ [⟨m[j].well,m[j].arrives.lo,0⟩]),⟨hlt,?_⟩,by simp only;omega,?_⟩
     . simp only;rw [List.take_succ_eq_append_getElem (by simpa using hlt),<- hD,List.getElem_map]
     simp only [List.map_append,List.map_cons,List.map_nil]
     (refine Zk ?_ ?_ ?_ rfl rfl<;>dsimp only [Yp,Ze,Zm,Zg,Zh,Zd,Zo,ZT,Z1,id,go_sem,rA,rM,rS]<;>simp [Yp,Ze,Zm,Zg,Zh,Zd,Zo,ZT,Z1,Za,Zf,KFR,KFL,KF,Zc,mtO,nbr])
   refine Zx (by simp;omega) ?_
   dsimp only [go_sem,rA,rM,rS]
   rw [List.take_of_length_le (by simp;omega)] at hD
   rw [<- hD]
   refine ⟨_,rfl,?_⟩
   simp only [V4,if_true]
   refine Us (Yg (Zbf 0 4 v rfl rfl rfl rfl) ?_) (fun _ _ _ e=>by cases e)
   (refine Zk ?_ ?_ ?_ rfl rfl<;>dsimp only [Z1,id,go_sem,rA,rM,rS]<;>simp [Z1,Za,Zf,KFR,KFL,KF,Zc,mtO,nbr])
 refine Zx (by simpa using hn0) ?_
 dsimp only [go_sem,rA,rM,rS]
 refine V5 [] (Zfx s k l slabs) rfl rfl rfl ?_ ?_ ?_
 . exact Zc (by simp [Yp,Ze,Zm,Zg,Zh,Zd,Zo,ZT,Za,KFL,KF])
 . trivial
 dsimp only [ZzZ,Yp,go_sem,rA,rM,rS]
 refine gh (Ue 3 0 3 111 rfl rfl) ?_
 dsimp only [go_sem,rA,rM,rS]
 refine ⟨b163,fun rec=>?_⟩
 refine y163 ?_
 dsimp only [c163,r163,go_sem,rA,rM,rS]
 have hgF:goF s s.scenes[k] slabs l=goG s s.scenes[k] slabs l 0 s.camel []:=by simp only [goF,if_neg hl0]
 have hgs:∀ (j n:Nat) (hj:j < l.length) c acc,goG s s.scenes[k] slabs (l.drop j) n c acc=if (YX s s.scenes[k] (YO s.land l[j].leg s.pace).1 slabs c).2≠0 then ((YX s s.scenes[k] (YO s.land l[j].leg s.pace).1 slabs c).2,(n:Int),acc)
  else goG s s.scenes[k] slabs (l.drop (j+1)) (n+1) (Zdb s.breed (YX s s.scenes[k] (YO s.land l[j].leg s.pace).1 slabs c).1)
   (if l.drop (j+1)=[] then acc else acc ++ [(s.breed.full - (YX s s.scenes[k] (YO s.land l[j].leg s.pace).1 slabs c).1.water.lo,Zar s s.scenes[k] l[j])]):=fun j n hj c acc=>by
  rw [List.drop_eq_getElem_cons hj,goG]
 have hwF:Zhr s s.scenes[k] n slabs l=ZaV n (goF s s.scenes[k] slabs l):=by simp only [Zhr,if_neg hn0]
 have hdF:X6 s s.scenes[k] n slabs l=VA n l (goF s s.scenes[k] slabs l).2.2:=by simp only [X6,if_neg hl0,if_neg hn0]
 rw [hwF,hdF]
 refine WU [0,1,2,3,5,13,14,15] rfl (fun q:Nat × Camel × List (Int × Int) × Nat=>[(15,I q.1)])
  (fun q=>[(9,.cells (Cm.camelL q.2.1) 31),(3,.cells [.mr 7 q.2.2.2] 54),(7,.row q.2.2.2 3 ((VA n l q.2.2.1).map Z1) 111)])
  (fun q=>q.1 < l.length/\goG s s.scenes[k] slabs (l.drop q.1) q.1 q.2.1 q.2.2.1=goF s s.scenes[k] slabs l/\Zv s.breed q.2.1=true/\Zai n q.2.2.1 0=none/\q.2.2.1.length=q.1) (fun q=>l.length - q.1) (0,s.camel,[],0)
  ⟨by simp only;omega,hgF.symm,h.beast.2,rfl,rfl⟩ ?_ ?_
 . (refine Zk ?_ ?_ ?_ rfl rfl<;>dsimp only [Cm.camelL,VA,Yp,Ze,Zm,Zg,Zh,Zd,Zo,ZT,Z1,mtL,mtB,mtS,id,go_sem,rA,rM,rS]<;>simp [Cm.camelL,VA,Yp,Ze,Zm,Zg,Zh,Zd,Zo,ZT,Z1,mtL,mtB,mtS,Za,Zf,KFR,KFL,KF,Zc,mtO,nbr])
 rintro ⟨j,c,acc,v⟩ ⟨hlt,hi,hc,hdry,hal⟩
 simp only at hlt hi hc hdry hal
 dsimp only [Cm.camelL,go_sem,rA,rM,rS]
 simp only [List.length_map]
 refine Zu (by simpa using hlt) ?_
 dsimp only [go_sem,rA,rM,rS]
 refine Zr j hlt rfl ?_
 dsimp only [ZT,go_sem,rA,rM,rS]
 refine call (Zwl s h l[j].leg) ?_
 dsimp only [sres,Zd,go_sem,rA,rM,rS]
 have hm:=Zpe s k hk j c (YO s.land l[j].leg s.pace).1 slabs hsl (by omega) (Zqe h.lp)
 rw [hgs j j hlt] at hi
 have hbo:=UT (x:=s.scenes[k]) (d:=(YO s.land l[j].leg s.pace).1) (slabs:=slabs) h.beast.1 hc
 generalize YX s s.scenes[k] (YO s.land l[j].leg s.pace).1 slabs c=b at hi hbo hm
 have hwb:=Zgr h.beast.1 hbo
 by_cases hw:b.2=0
 case neg =>
  simp only [ZbJ,if_neg hw] at hm
  refine Xd [] hm rfl rfl rfl ?_ ?_ ?_
  . exact Zc (by simp [Yp,Cm.camelL,Ze,Zm,Zg,Zh,Zd,Zo,ZT,Za,KFL,KF])
  . trivial
  rintro _ rfl
  (repeat first | dsimp only [XO,go_sem,rA,rM,rS] | simp only [nbr])
  rw [if_pos hw] at hi
  rw [<- hi]
  refine ⟨_,rfl,?_⟩
  rw [show ZaV n (b.2,(j:Int),acc)=(b.2,(j:Int)) from by simp only [ZaV,hdry]]
  simp only [V4,if_neg hw]
  (refine YG ?_ ?_ ?_ rfl<;>dsimp only [XO,id,go_sem,rA,rM,rS]<;>simp [XO,Za,Zf,KFR,KFL,KF,Zc,mtO,nbr])
 simp only [ZbJ,if_pos hw] at hm
 refine Xd [] hm rfl rfl rfl ?_ ?_ ?_
 . exact Zc (by simp [Yp,Cm.camelL,Ze,Zm,Zg,Zh,Zd,Zo,ZT,Za,KFL,KF])
 . trivial
 rintro _ rfl
 (repeat first | dsimp only [camelL,Cm.camelL,go_sem,rA,rM,rS] | simp only [nbr])
 rw [if_neg (by simpa using hw)] at hi
 refine ⟨trivial,trivial,?_⟩
 rw [Zi (n:=(j:Int)+1) (by omega) (by omega)]
 simp only [List.length_map]
 by_cases hlast:j+1=l.length
 . refine Zu (by simp;omega) ?_
   dsimp only [go_sem,rA,rM,rS]
   refine ⟨by trivial,?_⟩
   refine Zu rfl ?_
   dsimp only [go_sem,rA,rM,rS]
   rw [if_pos (List.drop_eq_nil_of_le (by omega)),List.drop_eq_nil_of_le (by omega),goG] at hi
   rw [<- hi]
   refine ⟨_,rfl,?_⟩
   rw [show ZaV n (0,0,acc)=(0,0) from by simp only [ZaV,hdry]]
   simp only [V4,if_true]
   refine Us (Yg (Zbf 0 7 v rfl rfl rfl rfl) ?_) (fun _ _ _ e=>by cases e)
   (refine Zk ?_ ?_ ?_ rfl rfl<;>dsimp only [Z1,id,go_sem,rA,rM,rS]<;>simp [Z1,Za,Zf,KFR,KFL,KF,Zc,mtO,nbr])
 refine Zx (by simp;omega) ?_
 dsimp only [go_sem,rA,rM,rS]
 rw [if_neg (by intro e;rw [List.drop_eq_nil_iff] at e;omega)] at hi
 refine Zr j hlt rfl ?_
 dsimp only [ZT,go_sem,rA,rM,rS]
 refine Zr j hlt rfl ?_
 dsimp only [ZT,go_sem,rA,rM,rS]
 have hm2:0<=n * (s.breed.full - b.1.water.lo)/\n * (s.breed.full - b.1.water.lo)<=30 * 1000000:=⟨Int.mul_nonneg hn.1 (by omega),Int.mul_le_mul (by omega) (by omega) (by omega) (by decide)⟩
 rw [Zi (n:=s.breed.full - b.1.water.lo) (by omega) (by omega),Zi (n:=n * (s.breed.full - b.1.water.lo)) (by omega) (by omega)]
 refine Zr j hlt rfl ?_
 dsimp only [ZT,go_sem,rA,rM,rS]
 refine call (Ztg s h.small k hk hy l[j]) ?_
 dsimp only [go_sem,rA,rM,rS]
 by_cases hdr:n * (s.breed.full - b.1.water.lo)<=Zar s s.scenes[k] l[j]
 case neg =>
  rw [show decide (n * (s.breed.full - b.1.water.lo)<=Zar s s.scenes[k] l[j])=false from decide_eq_false hdr]
  refine Xd [] (Zb5 4 j) rfl rfl rfl ?_ ?_ ?_
  . (repeat first | dsimp only [go_sem,rA,rM,rS] | simp only [nbr])
    try simp [mtL,mtB,mtS]
  . trivial
  rintro _ rfl
  (repeat first | dsimp only [XO,go_sem,rA,rM,rS] | simp only [nbr])
  refine ⟨_,rfl,?_⟩
  obtain ⟨more,hmore⟩:=Zfz (s:=s) (x:=s.scenes[k]) (slabs:=slabs) (l:=l.drop (j+1)) (i:=j+1) (c:=Zdb s.breed b.1) (acc:=acc ++ [(s.breed.full - b.1.water.lo,Zar s s.scenes[k] l[j])])
  have hf:ZaV n (goF s s.scenes[k] slabs l)=(4,(j:Int)):=by
   rw [<- hi];simp only [ZaV]
   rw [hmore,List.append_assoc,Zbn hdry,hal]
   simp only [List.cons_append,List.nil_append,Zai]
   rw [if_pos (by omega)];simp
  rw [hf]
  simp only [V4]
  (refine YG ?_ ?_ ?_ rfl<;>dsimp only [XO,id,go_sem,rA,rM,rS]<;>simp [XO,Za,Zf,KFR,KFL,KF,Zc,mtO,nbr])
 rw [show decide (n * (s.breed.full - b.1.water.lo)<=Zar s s.scenes[k] l[j])=true from decide_eq_true hdr]
 refine Xd [] (UV 4 j) rfl rfl rfl ?_ ?_ ?_
 . (repeat first | dsimp only [go_sem,rA,rM,rS] | simp only [nbr])
   try simp [mtL,mtB,mtS]
 . trivial
 rintro _ rfl
 (repeat first | dsimp only [go_sem,rA,rM,rS] | simp only [nbr])
 refine ⟨(by intro c hc;simp only [List.mem_singleton] at hc;subst hc;rfl),by simp [VA];omega,?_⟩
 dsimp only [go_sem,rA,rM,rS]
 refine ⟨by trivial,?_⟩
 refine Zx rfl ?_
 dsimp only [go_sem,rA,rM,rS]
 rw [Zi (n:=(j:Int)+1) (by omega) (by omega)]
 refine ⟨(j+1,Zdb s.breed b.1,acc ++ [(s.breed.full - b.1.water.lo,Zar s s.scenes[k] l[j])],v+1),⟨by simp only;omega,hi,UY h.beast.1 hbo,?_,by simp;omega⟩,by simp only;omega,?_⟩
 . simp only
   rw [Zbn hdry]
   simp only [Zai]
   rw [if_neg (by omega)]
 simp only
 rw [Zfd hlt hal]
 simp only [List.map_append,List.map_cons,List.map_nil]
 (refine Zk ?_ ?_ ?_ rfl rfl<;>dsimp only [Cm.camelL,Zdb,ZbD,Yp,Ze,Zm,Zg,Zh,Zd,Zo,ZT,Z1,mtL,mtB,mtS,id,go_sem,rA,rM,rS]<;>simp [Cm.camelL,Zdb,ZbD,Yp,Ze,Zm,Zg,Zh,Zd,Zo,ZT,Z1,mtL,mtB,mtS,Za,Zf,KFR,KFL,KF,Zc,mtO,nbr])
def ZBp:List Ins:=[
 m1 2 5]
def ZBz:SC:=(sr1 [
 m1 6 2,
 o1 7 (.raw (Go.Op.binOp Go.BinOp.neq 20 (Go.Operand.tmp 6) (Go.Operand.const Go.Value.nilIface) 20) 4)]
 (.cond (.t 7)
 (sr1 [
  m1 9 2,
  o1 10 (.raw (Go.Op.typeAssert (Go.Operand.tmp 9) 20 117 Bool.true) 177),
  m1 8 10,
  o1 11 (.ext (.t 8) 0),
  o1 12 (.ext (.t 8) 1),
  o1 3 (.alloc [.int .u8 0,.int .i64 0] 117),
  ⟨none,.st (.t 3) (.t 11) 2,none,[]⟩,
  m1 4 12]
  (.seq (sr1 [
  m1 13 4,
  o1 14 (.un .not (.t 13))]
  (.cond (.t 14)
  (.reg [
   m1 15 2,
   ⟨none,.raw (Go.Op.panic (Go.Operand.tmp 15)) 0,none,[]⟩])
  .skip))
  (.regd [0,1,2] [
  .hide (.t 0),
  .op (o1 16 (lt 3 2))] 0 2 [
  ⟨none,.st (.t 0) (.c (.slice none 0 0)) 1,none,[]⟩,
  ⟨none,.st (.t 1) (.t 16) 2,none,[0,1]⟩])))
 .skip))
theorem qw89:RcF Tryz.prog 89 5 ZBp ZBz 17:=⟨⟨Tryz.f89,_,_,_,_,Tryz.func89,rfl,rfl,by kernel_rfl,by kernel_rfl,by kernel_rfl,by kernel_rfl,by decide,rfl⟩,by kernel_rfl⟩
def cw14:SC:=(sr1 [
 o1 2 (.box (.t 0) 0 34),
 o1 3 (.box (.t 1) 0 37),
 o1 4 (.mv (.c (.int .u8 0))),
 o1 5 (.mv (cn 0)),
 o1 6 (.mv (cn 0)),
 o1 7 (.mv (cn 0))]
 (.seq (sr1 [
 o1 12 (lt 2 37),
 o1 13 (lt 3 3),
 o1 14 (.call 48 [.t 12,.t 13]),
 m1 8 14]
 (sr1 [
 m1 15 8,
 o1 16 (.bin .neq (.t 15) (cn 0))]
 (.cond (.t 16)
 (sr1 [
  m1 17 8,
  o1 4 (.mv (.c (.int .u8 0))),
  o1 5 (.mv (cn 0)),
  o1 6 (.mv (cn 0)),
  m1 7 17]
  .ret)
 .skip)))
 (.seq (sr1 [
 o1 18 (ao 2 36),
 o1 19 (lf 18 1),
 o1 20 (.len (.t 19)),
 o1 21 (.mv (cn 0))]
 (.block 0 (.loop (sr1 [
  o1 22 (.bin .lss (.t 21) (.t 20))]
  (.seq (.cond (.t 22)
  .skip
  (.exit 0))
  (.seq (.block 1 (sr1 [
   m1 23 21,
   m1 9 23]
   (sr1 [
   o1 25 (lt 2 37),
   m1 26 9,
   o1 27 (.build zv1 [(0,37,.t 25),(37,1,.t 26)]),
   o1 28 (lt 3 3),
   o1 29 (.callm 49 [.t 27,.t 28]),
   m1 24 29,
   o1 30 (.ext (.t 24) 0),
   o1 31 (.ext (.t 24) 1),
   o1 11 (.alloc [.int .u8 0,.int .i64 0] 117),
   m1 10 30,
   ⟨none,.st (.t 11) (.t 31) 2,none,[]⟩]
   (sr1 [
   o1 32 (ao 11 0),
   o1 33 (lf 32 1),
   o1 34 (.bin .neq (.t 33) (.c (.int .u8 0)))]
   (.cond (.t 34)
   (.seq (.regd [0,1,2,3,4,5,6,7,8] [
    .op (o1 35 (ao 11 0)),
    .op (p1 36 (lf 35 1) [0]),
    .op (m1 37 9),
    .op (o1 38 (ao 11 1)),
    .op (p1 39 (lf 38 1) [3]),
    .op (p1 4 (.mv (.t 36)) [0,1]),
    .op (p1 5 (.mv (.t 37)) [0,1,2,5]),
    .op (p1 6 (.mv (.t 39)) [0,1,2,3,4,5,6]),
    .op (p1 7 (.mv (cn 0)) [0,1,2,3,4,5,6,7])] 0 0 [
])
 .ret)
 .skip)))))
 (.reg [
 o1 40 (.bin .add (.t 21) (cn 1)),
 m1 21 40])))))))
 (sr1 [
 o1 4 (.mv (.c (.int .u8 0))),
 o1 5 (.mv (cn 0)),
 o1 6 (.mv (cn 0)),
 o1 7 (.mv (cn 0))]
 .ret))))
def rw14:List RV:=[.tmp 4,.tmp 5,.tmp 6,.tmp 7]
theorem tw14:Qt1 Tryz.prog 14 cw14 rw14 41:=Z8 Tryz.func14 rfl (by kernel_rfl) (by kernel_rfl) (by kernel_rfl) (by kernel_rfl)
def cw22:SC:=(sr1 [
 o1 3 (.box (.t 0) 0 34),
 o1 4 (.box (.t 1) 0 37),
 o1 6 (.mv (.c (.slice none 0 0))),
 o1 7 (.mv (cn 0))]
 (sr1 [
 o1 15 (lt 3 37),
 o1 16 (lt 4 3),
 o1 17 (.call 14 [.t 15,.t 16]),
 m1 14 17,
 o1 18 (.ext (.t 14) 0),
 o1 19 (.ext (.t 14) 1),
 o1 20 (.ext (.t 14) 2),
 o1 21 (.ext (.t 14) 3),
 m1 8 18,
 m1 9 19,
 m1 10 20,
 m1 11 21]
 (.seq (.block 0 (sr1 [
  m1 23 11,
  o1 24 (.bin .neq (.t 23) (cn 0)),
  m1 22 24]
  (.cond (.t 22)
  (sr1 [
   m1 25 11,
   o1 6 (.mv (.c (.slice none 0 0))),
   m1 7 25]
   .ret)
  (sr1 [
   m1 27 8,
   o1 28 (.bin .neq (.t 27) (.c (.int .u8 0))),
   m1 29 28,
   g1 30 29 false (ao 3 36),
   g1 31 29 false (lf 30 1),
   g1 32 29 false (.len (.t 31)),
   g1 33 29 false (.bin .sub (.t 32) (cn 1)),
   g1 34 29 false (.mv (.t 2)),
   g1 35 29 false (.bsl 1 3 [.t 34]),
   g1 36 29 false (.call 53 [.c (.int .i64 0),.t 33,.t 35]),
   g1 37 29 false (.un .not (.t 36)),
   o1 38 (.pick (.t 29) (.c (.bool true)) (.t 37)),
   m1 26 38]
   (.cond (.t 26)
   (sr1 [
    o1 6 (.mv (.c (.slice none 0 0))),
    o1 7 (.mv (cn 92))]
    .ret)
   .skip)))))
 (sr1 [
 o1 40 (lt 3 37),
 m1 41 2,
 o1 42 (.build zv1 [(0,37,.t 40),(37,1,.t 41)]),
 o1 43 (lt 4 3),
 o1 44 (.callm 49 [.t 42,.t 43]),
 m1 39 44,
 o1 45 (.ext (.t 39) 0),
 o1 46 (.ext (.t 39) 1),
 o1 13 (.alloc [.int .u8 0,.int .i64 0] 117),
 m1 12 45,
 ⟨none,.st (.t 13) (.t 46) 2,none,[]⟩]
 (sr1 [
 m1 47 12,
 m1 6 47,
 o1 7 (.mv (cn 0))]
 .ret)))))
def rw22:List RV:=[.tmp 6,.tmp 7]
theorem nw22:Tryz.f22.ntmps=48:=by kernel_rfl
theorem bw22:YI Tryz.prog 22=true:=by kernel_rfl
theorem ZwS:XK Tryz.prog cw22 ((Tryz.f22.body).getD .skip)=true:=by kernel_rfl
theorem Zxq:Wg Tryz.prog rw22 Tryz.f22.results.toList=true:=by kernel_rfl
def cw66:SC:=(sr1 [
 o1 3 (.box (.t 0) 0 34),
 o1 6 (.mv (cn 0))]
 (sr1 [
 o1 14 (ao 3 28),
 o1 15 (lf 14 1),
 m1 7 15]
 (.seq (sr1 [
 o1 16 (ao 3 36),
 o1 17 (lf 16 1),
 o1 18 (.len (.t 17)),
 o1 19 (.mv (cn 0))]
 (.block 0 (.loop (sr1 [
  o1 20 (.bin .lss (.t 19) (.t 18))]
  (.seq (.cond (.t 20)
  .skip
  (.exit 0))
  (.seq (.block 1 (sr1 [
   m1 21 19,
   m1 8 21]
   (sr1 [
   o1 22 (lt 3 37),
   m1 23 8,
   o1 24 (.build zv1 [(0,37,.t 22),(37,1,.t 23)]),
   o1 9 (.alloc zv1 120),
   ⟨none,.st (.t 9) (.t 24) 38,none,[]⟩]
   (sr1 [
   o1 26 (lt 9 38),
   m1 27 1,
   m1 28 2,
   o1 29 (.build [.slice none 0 0,.int .i64 0,.int .i64 0] [(0,1,.t 27),(1,1,.c (.int .i64 1)),(2,1,.t 28)]),
   o1 30 (.callm 49 [.t 26,.t 29]),
   m1 25 30,
   o1 31 (.ext (.t 25) 0),
   o1 32 (.ext (.t 25) 1),
   o1 11 (.alloc [.int .u8 0,.int .i64 0] 117),
   m1 10 31,
   ⟨none,.st (.t 11) (.t 32) 2,none,[]⟩]
   (.seq (sr1 [
   o1 33 (ao 11 0),
   o1 34 (lf 33 1),
   o1 35 (.bin .neq (.t 34) (.c (.int .u8 0)))]
   (.cond (.t 35)
   (sr1 [
    o1 6 (.mv (cn 0))]
    .ret)
   .skip))
   (sr1 [
   m1 36 10,
   o1 37 (.len (.t 36)),
   o1 38 (.mv (cn 0))]
   (.block 2 (.loop (sr1 [
    o1 39 (.bin .lss (.t 38) (.t 37))]
    (.seq (.cond (.t 39)
    .skip
    (.exit 2))
    (.seq (.block 3 (sr1 [
     o1 40 (.ixs (.t 36) (.t 38) 3),
     o1 41 (lt 40 3),
     o1 13 (.alloc [.int .i64 0,.int .i64 0,.int .i64 0] 111),
     ⟨none,.st (.t 13) (.t 41) 3,none,[]⟩]
     (sr1 [
     o1 42 (ao 13 2),
     o1 43 (lf 42 1),
     o1 44 (.bin .gtr (.t 43) (cn 0))]
     (.cond (.t 44)
     (.regd [0,1,2,3,4,5,6,7,8,9,10,11,12,13] [
      .op (m1 45 7),
      .op (o1 46 (lt 9 38)),
      .op (o1 47 (ao 13 0)),
      .op (p1 48 (lf 47 1) [2]),
      .op (o1 49 (ao 13 1)),
      .op (p1 50 (lf 49 1) [4]),
      .op (p1 51 (.build [.int .i64 0,.int .i64 0] [(0,1,.t 50)]) [5]),
      .op (p1 52 (.build zv7 [(1,1,.t 48),(4,2,.t 51)]) [3,6]),
      .op (p1 53 (.call 113 [.t 46,.t 52]) [1,7]),
      .op (o1 54 (ao 13 2)),
      .op (p1 55 (lf 54 1) [9]),
      .op (p1 56 (.div .quo (.t 53) (.t 55)) [8,10]),
      .op (p1 57 (.mm false [.t 45,.t 56]) [0,11])] 0 0 [
      ⟨some 7,.mv (.t 57),none,[0,1,2,3,4,5,6,7,8,9,10,11,12]⟩])
     .skip))))
    (.reg [
    o1 58 (.bin .add (.t 38) (cn 1)),
    m1 38 58]))))))))))))
  (.reg [
  o1 59 (.bin .add (.t 19) (cn 1)),
  m1 19 59])))))))
 (sr1 [
 m1 60 7,
 m1 6 60]
 .ret))))
def rw66:List RV:=[.tmp 6]
theorem tw66:Qt1 Tryz.prog 66 cw66 rw66 61:=Z8 Tryz.func66 rfl (by kernel_rfl) (by kernel_rfl) (by kernel_rfl) (by kernel_rfl)
end Go.Proofs.YtiigiflofnjilaaGreat
namespace Go.Sx
open Go Go.RowKit
section
variable {P:Program} {ty T T':TypeId} {ix jx:Operand} {σ : St} {r:KT} {K:RK} {d:Option Nat} {s:SV}
theorem Zgb {pt:TypeId} (hu:P.underlying T'=some (.interface (P.methodsAt T'))) (hi:ZaQ σ ix = .ifc T s) (h:Yw d (.v (.bool true)) none σ r K):RAW P d (.binOp .neq T' ix (.const .nilIface) pt) ty σ r K:=by
 intro o C E a w next Q e1 e2 e3 hS hn hq
 have hiv:=Vp hS hi (fun _ _ _=>by simp)
 simp only [R] at hiv
 obtain ⟨x,hx,hR⟩:=hiv
 have hb:=run_neq_held_nil (P:=P) w T' T x hu
 have hy:(execOp a.eval o).run P w = .ok (.value (.bool true)) w:=by
  obtain ⟨dst',op',ty',pos,after,guard⟩:=o
  simp only at e2;subst e2
  have h0:a.eval (.const .nilIface) = .nilIface:=rfl
  have hg:(eqGuard .neq T' ix (.const .nilIface) (.iface T x) .nilIface).run P w = .ok () w:=by
   simp [eqGuard,Sem.run_pure]
  simp only [execOp,Sem.run_bind,hx,h0,hg,hb,Result.andThen_ok,Sem.run_pure]
 refine ZD hy (by simp) ?_
 show next (a.put o.dst _) _
 rw [e1]
 exact WZ h hS (by simp only [R]) hn
theorem Zj1 {pt:TypeId} (hu:P.underlying T'=some (.interface (P.methodsAt T'))) (hi:ZaQ σ ix = .v .nilIface) (h:Yw d (.v (.bool false)) none σ r K):RAW P d (.binOp .neq T' ix (.const .nilIface) pt) ty σ r K:=by
 intro o C E a w next Q e1 e2 e3 hS hn hq
 have hx:=Vp hS hi (fun _ _ _=>by simp)
 simp only [R] at hx
 have hb:=run_neq_nil_nil (P:=P) w T' hu
 have hy:(execOp a.eval o).run P w = .ok (.value (.bool false)) w:=by
  obtain ⟨dst',op',ty',pos,after,guard⟩:=o
  simp only at e2;subst e2
  have h0:a.eval (.const .nilIface) = .nilIface:=rfl
  have hg:(eqGuard .neq T' ix (.const .nilIface) .nilIface .nilIface).run P w = .ok () w:=by
   simp [eqGuard,Sem.run_pure]
  simp only [execOp,Sem.run_bind,hx,h0,hg,hb,Result.andThen_ok,Sem.run_pure]
 refine ZD hy (by simp) ?_
 show next (a.put o.dst _) _
 rw [e1]
 exact WZ h hS (by simp only [R]) hn
end
end Go.Sx
namespace Go.Proofs.YtiigiflofnjilaaGreat
open Go Go.Sx Go.Azalai
theorem ZAL {s:Season} {x:Scene} {slabs:Int}:∀ {l:List Stop} {i:Nat} {c:Camel} {acc:List (Int × Int)},(goG s x slabs l i c acc).1=0->((goG s x slabs l i c acc).1,(goG s x slabs l i c acc).2.1)=(0,0)
 | [],_,_,acc,_=>by simp [goG]
 | st :: r,i,c,acc,h=>by
  simp only [goG] at h ⊢
  split
  . rename_i hb;rw [if_pos hb] at h;exact absurd h hb
  . rename_i hb;rw [if_neg hb] at h
    exact ZAL h
theorem goF_z {s:Season} {x:Scene} {slabs:Int} {l:List Stop} (h:(goF s x slabs l).1=0):((goF s x slabs l).1,(goF s x slabs l).2.1)=(0,0):=by
 unfold goF at h ⊢
 split
 . rename_i hb;rw [if_pos hb] at h;simp only at h ⊢;rw [h]
 . rename_i hb;rw [if_neg hb] at h;exact ZAL h
theorem u20:Tryz.prog.underlying 20=some (.interface (Tryz.prog.methodsAt 20)):=by kernel_rfl
theorem ZeL {s:Season} {p:Plan} {x:Scene}:XG s p x=if Vj s p.legs=false then (1,0) else Zhr s x p.animals p.slabs (ZO s p.legs):=by
 unfold XG Zhr;rfl
def WN (s:Season) (p:Plan) (x:Scene):List Draw:=if (XG s p x).1=0 then X6 s x p.animals p.slabs (ZO s p.legs) else []
def ZsZ (w:Int × Int) (ds:List Draw):Ot:=⟨false,.tup [.sl false 3 (ds.map Z1),.agg [U8 w.1,I w.2]],[],0⟩
theorem Zk3 (s:Season) (h:OkS s) (k:Nat) (hk:k < s.scenes.length) (p:Plan) (hp:YM s p=true) (hg:p.legs.length<=1000) :
 CtM Tryz.prog 49 [] 0 [.agg (Yp s k),.agg (Zy p)] (fun o=>o=ZsZ (XG s p s.scenes[k]) (WN s p s.scenes[k])):=by
 have hnum:=h.num
 obtain ⟨_,hpl⟩:=UE hp
 refine m49 (by simp [hpb]) (fun o ho=>by subst ho;simp [ZsZ,KX,KXL,KXP,Za,KFL,KF,Z1]) ?_
 dsimp only [c49,r49,Yp,Zy,go_sem,rA,rM,rS]
 refine call (Znh s h p.legs hg _) ?_
 dsimp only [go_sem,rA,rM,rS]
 by_cases hs:Vj s p.legs=true
 case neg =>
  rw [Bool.eq_false_iff.2 hs]
  refine Xd [] (Zb5 1 0) rfl rfl rfl ?_ ?_ ?_
  . (repeat first | dsimp only [go_sem,rA,rM,rS] | simp only [nbr])
    try simp [mtL,mtB,mtS]
  . trivial
  rintro _ rfl
  (repeat first | dsimp only [XO,go_sem,rA,rM,rS] | simp only [nbr])
  refine ⟨_,_,_,_,qw89,?_⟩
  dsimp only [ZBp,ZBz,go_sem,rA,rM,rS]
  refine ⟨rfl,?_⟩
  refine Zgb u20 rfl ?_
  dsimp only [go_sem,rA,rM,rS]
  refine Zu rfl ?_
  dsimp only [go_sem,rA,rM,rS]
  refine Zbp ZdF rfl ?_
  dsimp only [go_sem,rA,rM,rS]
  refine Zx rfl ?_
  dsimp only [go_sem,rA,rM,rS]
  refine ⟨_,rfl,?_⟩
  have hF:XG s p s.scenes[k]=(1,0):=by rw [ZeL,if_pos (Bool.eq_false_iff.2 hs)]
  rw [ZsZ,WN,hF]
  refine Us (Yg (Zcn (s':=.tup [.sl false 3 [],.agg [U8 1,I 0]]) 0 rfl (Wn (Z0 YR Wq)) (fun _ _ _ h=>by cases h)) ?_) (fun _ _ _ e=>by cases e)
  (refine Zk ?_ ?_ ?_ rfl rfl<;>dsimp only [id,go_sem,rA,rM,rS]<;>simp [Za,Zf,KFR,KFL,KF,Zc,mtO,nbr])
 rw [hs]
 refine Xd [] (UV 1 0) rfl rfl rfl ?_ ?_ ?_
 . (repeat first | dsimp only [go_sem,rA,rM,rS] | simp only [nbr])
   try simp [mtL,mtB,mtS]
 . trivial
 rintro _ rfl
 (repeat first | dsimp only [go_sem,rA,rM,rS] | simp only [nbr])
 have hF:XG s p s.scenes[k]=Zhr s s.scenes[k] p.animals p.slabs (ZO s p.legs):=by rw [ZeL,if_neg (by simp [hs])]
 have hd:=Zsy s h k hk (ZO s p.legs) (Nat.le_trans ZbH hg) p.animals p.slabs ⟨hpl.1,hpl.2.1⟩ hpl.2.2
 rw [<- hF] at hd
 have hT:WN s p s.scenes[k]=if (XG s p s.scenes[k]).1=0 then X6 s s.scenes[k] p.animals p.slabs (ZO s p.legs) else []:=rfl
 rw [hT]
 have hz:(XG s p s.scenes[k]).1=0->XG s p s.scenes[k]=(0,0):=fun h0=>by
  rw [hF] at h0 ⊢
  revert h0
  unfold Zhr
  split
  . intro _;rfl
  . unfold ZaV
    split
    . intro h1;simp at h1
    . intro h1;exact goF_z h1
 generalize XG s p s.scenes[k]=w at hd hz ⊢
 generalize X6 s s.scenes[k] p.animals p.slabs (ZO s p.legs)=D at hd ⊢
 by_cases hw:w.1=0
 . simp only [V4,if_pos hw] at hd
   refine Xd [] hd rfl rfl rfl ?_ ?_ ?_
   . exact Zc (by simp [Yp,Ze,Zm,Zg,Zh,Zd,Zo,ZT,Za,KFL,KF])
   . trivial
   rintro _ rfl
   (repeat first | dsimp only [go_sem,rA,rM,rS] | simp only [nbr])
   refine ⟨_,_,_,_,qw89,?_⟩
   dsimp only [ZBp,ZBz,go_sem,rA,rM,rS]
   refine ⟨rfl,?_⟩
   refine Zj1 u20 rfl ?_
   dsimp only [go_sem,rA,rM,rS]
   refine Zx rfl ?_
   dsimp only [go_sem,rA,rM,rS]
   refine ⟨_,rfl,?_⟩
   rw [hz hw]
   simp only [ZsZ,if_true]
   (refine YG ?_ ?_ ?_ rfl<;>dsimp only [Z1,id,go_sem,rA,rM,rS]<;>simp [Z1,Za,Zf,KFR,KFL,KF,Zc,mtO,nbr])
 simp only [V4,if_neg hw] at hd
 refine Xd [] hd rfl rfl rfl ?_ ?_ ?_
 . exact Zc (by simp [Yp,Ze,Zm,Zg,Zh,Zd,Zo,ZT,Za,KFL,KF])
 . trivial
 rintro _ rfl
 (repeat first | dsimp only [XO,go_sem,rA,rM,rS] | simp only [nbr])
 refine ⟨_,_,_,_,qw89,?_⟩
 dsimp only [ZBp,ZBz,go_sem,rA,rM,rS]
 refine ⟨rfl,?_⟩
 refine Zgb u20 rfl ?_
 dsimp only [go_sem,rA,rM,rS]
 refine Zu rfl ?_
 dsimp only [go_sem,rA,rM,rS]
 refine Zbp ZdF rfl ?_
 dsimp only [go_sem,rA,rM,rS]
 refine Zx rfl ?_
 dsimp only [go_sem,rA,rM,rS]
 refine ⟨_,rfl,?_⟩
 rw [ZsZ,if_neg hw]
 refine Us (Yg (Zcn (s':=.tup [.sl false 3 [],.agg [U8 w.1,I w.2]]) 0 rfl (Wn (Z0 YR Wq)) (fun _ _ _ h=>by cases h)) ?_) (fun _ _ _ e=>by cases e)
 (refine Zk ?_ ?_ ?_ rfl rfl<;>dsimp only [id,go_sem,rA,rM,rS]<;>simp [Za,Zf,KFR,KFL,KF,Zc,mtO,nbr])
theorem Zl6 (a b:List Int) (ha:a.length<=1000000) (hb:b.length<=1000000) (c c':Bool):Ct Tryz.prog 57 [.sl c 1 (a.map Zo),.sl c' 1 (b.map Zo)] (B (decide (a=b))):=by
 refine t57.1 (by simp [Za,Zo,KFL,KF]) (by simp [KFL,KF]) ?_
 dsimp only [c57,r57,go_sem,rA,rM,rS]
 simp only [List.length_map]
 by_cases hl:a.length=b.length
 case neg =>
  refine Zu (by simp;omega) ?_
  dsimp only [go_sem,rA,rM,rS]
  have:a≠b:=fun e=>hl (by rw [e])
  simp [this]
 refine Zx (by simp;omega) ?_
 dsimp only [go_sem,rA,rM,rS]
 refine Xu (fun j:Nat=>[(5,I j)]) (fun _=>[]) (fun j=>j<=a.length/\a.take j=b.take j) (fun j=>a.length - j) 0 ⟨Nat.zero_le _,rfl⟩ ?_ ?_
 . (refine Zk ?_ ?_ ?_ rfl rfl<;>dsimp only [Zo,id,go_sem,rA,rM,rS]<;>simp [Zo,Za,Zf,KFR,KFL,KF,Zc,mtO,nbr])
 rintro j ⟨hj,ht⟩
 dsimp only [go_sem,rA,rM,rS]
 simp only [List.length_map]
 by_cases hlt:j < a.length
 . refine Zu (by simpa using hlt) ?_
   dsimp only [go_sem,rA,rM,rS]
   have hltb:j < b.length:=by omega
   refine Zr j hlt rfl ?_
   dsimp only [go_sem,rA,rM,rS]
   refine Zr j hltb rfl ?_
   dsimp only [Zo,go_sem,rA,rM,rS]
   by_cases he:a[j]=b[j]
   . refine Zx (by rw [he];simp [ngB]) ?_
     dsimp only [go_sem,rA,rM,rS]
     rw [Zi (n:=(j:Int)+1) (by omega) (by omega)]
     refine ⟨j+1,⟨hlt,?_⟩,by omega,?_⟩
     . rw [List.take_succ_eq_append_getElem hlt,List.take_succ_eq_append_getElem hltb,ht,he]
     (refine Zk ?_ ?_ ?_ rfl rfl<;>dsimp only [Zo,id,go_sem,rA,rM,rS]<;>simp [Zo,Za,Zf,KFR,KFL,KF,Zc,mtO,nbr])
   . refine Zu ?_ ?_
     . simpa using he
     dsimp only [go_sem,rA,rM,rS]
     have:a≠b:=fun e=>he (by subst e;rfl)
     simp [this]
 refine Zx (by simp;omega) ?_
 dsimp only [go_sem,rA,rM,rS]
 have:a=b:=by
  rw [List.take_of_length_le (by omega),List.take_of_length_le (by omega)] at ht
  exact ht
 simp [this]
theorem YJ (s:Season) (hs:SmallS s) (p:Plan) (hg:p.legs.length<=1000):Ct Tryz.prog 14 [.agg (Zn s),.agg (Zy p)] (Xk (ZM s p)):=by
 refine tw14.1 (by simp [Zn,Zy,Zh,Ze,Zm,Zg,Zd,Zo,ZT,Za,KFL,KF]) (by simp [Xk,KFL,KF]) ?_
 dsimp only [cw14,rw14,Zn,Zy,go_sem,rA,rM,rS]
 refine call (Zpy s hs p hg) ?_
 dsimp only [go_sem,rA,rM,rS]
 by_cases ho:Zt s=true
 case neg =>
  refine Zu (by simp [ho]) ?_
  dsimp only [go_sem,rA,rM,rS]
  simp [Xk,ZM,ho]
 by_cases hp:YM s p=true
 case neg =>
  refine Zu (by simp [ho,hp]) ?_
  dsimp only [go_sem,rA,rM,rS]
  simp [Xk,ZM,ho,hp]
 refine Zx (by simp [ho,hp]) ?_
 dsimp only [go_sem,rA,rM,rS]
 simp only [List.length_map]
 have h:OkS s:=⟨hs,ho⟩
 have hF:ZM s p=Wi s p s.scenes 0:=by simp only [ZM,ho,hp,Bool.true_eq_false,if_false]
 rw [hF]
 have hsc:=hs.sc
 refine WU [2,3,20,21] rfl (fun q:Nat=>[(21,I q)]) (fun _=>[]) (fun q=>q<=s.scenes.length/\Wi s p (s.scenes.drop q) q=Wi s p s.scenes 0) (fun q=>s.scenes.length - q) 0 ⟨Nat.zero_le _,rfl⟩ ?_ ?_
 . (refine Zk ?_ ?_ ?_ rfl rfl<;>dsimp only [Ze,Zm,Zg,Zh,Zd,Zo,ZT,id,go_sem,rA,rM,rS]<;>simp [Ze,Zm,Zg,Zh,Zd,Zo,ZT,Za,Zf,KFR,KFL,KF,Zc,mtO,nbr])
 rintro j ⟨hj,hi⟩
 dsimp only [go_sem,rA,rM,rS]
 by_cases hlt:j < s.scenes.length
 case neg =>
  refine Zx (by simp;omega) ?_
  dsimp only [go_sem,rA,rM,rS]
  rw [List.drop_eq_nil_of_le (by omega),Wi] at hi
  rw [<- hi];rfl
 refine Zu (by simpa using hlt) ?_
 dsimp only [go_sem,rA,rM,rS]
 have ht:=Zk3 s h j hlt p hp hg
 rw [List.drop_eq_getElem_cons hlt,Wi] at hi
 generalize XG s p s.scenes[j]=w at ht hi
 refine Xd [] ht rfl rfl rfl ?_ ?_ ?_
 . exact Zc (by simp [Yp,Zy,Ze,Zm,Zg,Zh,Zd,Zo,ZT,Za,KFL,KF])
 . trivial
 rintro _ rfl
 (repeat first | dsimp only [ZsZ,go_sem,rA,rM,rS] | simp only [nbr])
 by_cases hf:w.1=0
 case neg =>
  refine Zu (by simpa using hf) ?_
  dsimp only [go_sem,rA,rM,rS]
  rw [if_pos hf] at hi
  rw [<- hi];rfl
 refine Zx (by simpa using hf) ?_
 dsimp only [go_sem,rA,rM,rS]
 rw [if_neg (by simpa using hf)] at hi
 rw [Zi (n:=(j:Int)+1) (by omega) (by omega)]
 refine ⟨j+1,⟨hlt,hi⟩,by omega,?_⟩
 (refine Zk ?_ ?_ ?_ rfl rfl<;>dsimp only [Ze,Zm,Zg,Zh,Zd,Zo,ZT,id,go_sem,rA,rM,rS]<;>simp [Ze,Zm,Zg,Zh,Zd,Zo,ZT,Za,Zf,KFR,KFL,KF,Zc,mtO,nbr])
theorem Zfk (p q:Plan) (hp:p.legs.length<=1000) (hq:q.legs.length<=1000):Ct Tryz.prog 19 [.agg (Zy p),.agg (Zy q)] (B (decide (p=q))):=by
 refine t19.1 (by simp [Zy,Zo,Za,KFL,KF]) (by simp [KFL,KF]) ?_
 dsimp only [c19,r19,Zy,go_sem,rA,rM,rS]
 repeat (first | (refine gb ?_;dsimp only [go_sem,rA,rM,rS]) | (refine call (Zl6 p.legs q.legs (by omega) (by omega) _ _) ?_;dsimp only [go_sem,rA,rM,rS]))
 have:(p.animals == q.animals && p.slabs == q.slabs && decide (p.legs=q.legs))=decide (p=q):=by
  obtain ⟨a,b,c⟩:=p;obtain ⟨a',b',c'⟩:=q
  rw [Bool.eq_iff_iff];simp;constructor
  . rintro ⟨⟨h1,h2⟩,h3⟩;exact ⟨h3,h1,h2⟩
  . rintro ⟨h1,h2,h3⟩;exact ⟨⟨h2,h3⟩,h1⟩
 rw [this]
def cf13:SC:=(sr1 [
 o1 1 (.box (.t 0) 0 34),
 o1 2 (.alloc zv0 34)]
 (sr1 [
 o1 4 (ao 1 0),
 o1 5 (lt 4 2),
 o1 6 (.call 47 [.t 5]),
 o1 7 (ao 1 0),
 ⟨none,.st (.t 7) (.t 6) 2,none,[]⟩]
 (sr1 [
 o1 8 (.bsl 6 72 []),
 o1 9 (ao 1 36),
 o1 10 (lf 9 1),
 o1 11 (.cln 6 80 72 (.t 8) (.t 10)),
 o1 12 (ao 1 36),
 ⟨none,.st (.t 12) (.t 11) 1,none,[]⟩]
 (.seq (sr1 [
 o1 3 (.mv (cn 0))]
 (.block 0 (.loop (.seq (sr1 [
  m1 13 3,
  o1 14 (ao 1 36),
  o1 15 (lf 14 1),
  o1 16 (.len (.t 15)),
  o1 17 (.bin .lss (.t 13) (.t 16))]
  (.cond (.t 17)
  .skip
  (.exit 0)))
  (.seq (.block 1 (.seq (.regd [0,1,2,3,4,5,6,7,8,9,10,11,12,13] [
   .op (o1 20 (ao 1 36)),
   .op (p1 21 (lf 20 1) [0]),
   .op (m1 22 3),
   .op (o1 23 (.bsl 2 27 [])),
   .op (o1 24 (ao 1 36)),
   .op (p1 25 (lf 24 1) [4]),
   .op (m1 26 3),
   .op (p1 27 (.ixs (.t 25) (.t 26) 6) [5,6]),
   .op (p1 28 (ao 27 4) [7]),
   .op (p1 29 (lf 28 1) [8]),
   .op (p1 30 (.app 2 16 27 (.t 23) (.t 29)) [3,9]),
   .op (p1 31 (.ixs (.t 21) (.t 22) 6) [0,1,2,3,4,5,6,7,8,9,10]),
   .op (p1 32 (ao 31 4) [0,1,2,3,4,5,6,7,8,9,10,11])] 0 1 [
   ⟨none,.st (.t 32) (.t 30) 1,none,[0,1,2,3,4,5,6,7,8,9,10,12]⟩])
   (.regd [0,1,2,3,4,5,6,7,8,9,10,11,12,13] [
   .op (o1 33 (ao 1 36)),
   .op (p1 34 (lf 33 1) [0]),
   .op (m1 35 3),
   .op (o1 36 (.bsl 1 3 [])),
   .op (o1 37 (ao 1 36)),
   .op (p1 38 (lf 37 1) [4]),
   .op (m1 39 3),
   .op (p1 40 (.ixs (.t 38) (.t 39) 6) [5,6]),
   .op (p1 41 (ao 40 5) [7]),
   .op (p1 42 (lf 41 1) [8]),
   .op (p1 43 (.app 1 8 3 (.t 36) (.t 42)) [3,9]),
   .op (p1 44 (.ixs (.t 34) (.t 35) 6) [0,1,2,3,4,5,6,7,8,9,10]),
   .op (p1 45 (ao 44 5) [0,1,2,3,4,5,6,7,8,9,10,11])] 0 1 [
   ⟨none,.st (.t 45) (.t 43) 1,none,[0,1,2,3,4,5,6,7,8,9,10,12]⟩])))
  (.reg [
  m1 18 3,
  o1 19 (.bin .add (.t 18) (cn 1)),
  m1 3 19]))))))
 (sr1 [
 o1 46 (lt 1 37),
 ⟨none,.st (.t 2) (.t 46) 37,none,[]⟩]
 .ret)))))
def rf13:List RV:=[.cell 2 37 true]
theorem nf13:Tryz.f13.ntmps=47:=by kernel_rfl
theorem bf13:YI Tryz.prog 13=true:=by kernel_rfl
theorem ZtQ:XK Tryz.prog cf13 ((Tryz.f13.body).getD .skip)=true:=by kernel_rfl
theorem ZtD:Wg Tryz.prog rf13 Tryz.f13.results.toList=true:=by kernel_rfl
theorem mf13 {n0:Nat} {hp0:List (Nat × HB)} {args:List SV} {Z6:Ot->Prop} (hh:hpb n0 hp0) (hx:∀ o,Z6 o->KX o.res/\KXP o.hp) (h:sx Tryz.prog Y0 n0 cf13 ⟨We 0 args,hp0,n0,47,[]⟩ (Zct rf13 fun o=>∃ o',Z6 o'/\ZdV n0 o o')) (hA:Nat.ble args.length 47=true:=by rfl):CtM Tryz.prog 13 hp0 n0 args Z6:=YU Tryz.func13 rfl bf13 ZtQ ZtD nf13 (Nat.le_of_ble_eq_true hA) hh hx h
def Z7 (s:Season) (w x:SV):List SV :=
 [w,.sl false 5 (s.land.legs.map Zm),I s.pace.lo,I s.pace.hi,
  I s.breed.full,I s.breed.fed,I s.breed.rest.lo,I s.breed.rest.hi,I s.breed.heat.lo,I s.breed.heat.hi,I s.breed.toil.lo,I s.breed.toil.hi,I s.breed.burn.lo,I s.breed.burn.hi,I s.breed.rub.lo,I s.breed.rub.hi,I s.breed.milk.lo,I s.breed.milk.hi,I s.breed.heal,I s.breed.strong.lo,I s.breed.strong.hi,
  I s.camel.water.lo,I s.camel.water.hi,I s.camel.fat.lo,I s.camel.fat.hi,I s.camel.sore.lo,I s.camel.sore.hi,B s.camel.milks,
  I s.herd,I s.hours,I s.slab,I s.cost,I s.sale,I s.start,I s.day,I s.till,x]
theorem Zgz (s:Season) (hs:SmallS s):CtM Tryz.prog 13 [] 0 [.agg (Zn s)] (fun o=>o=⟨false,.agg (Z7 s (.sl false 9 (s.land.wells.map Ze)) (.mr 0 0)),[(0,.row 0 6 (s.scenes.map Zh) 72)],1⟩):=by
 have hsc:=hs.sc
 refine mf13 (by simp [hpb]) (fun o ho=>by subst ho;simp [KX,KXL,KXP,KXH,Za,KFL,KF,Z7,Zn,Zh,Ze,Zm,Zg,Zd,Zo]) ?_
 dsimp only [cf13,rf13,Zn,go_sem,rA,rM,rS]
 refine call (Zx4 s.land hs.land) ?_
 dsimp only [ZY,go_sem,rA,rM,rS]
 refine ⟨by simp;omega,?_⟩
 dsimp only [go_sem,rA,rM,rS]
 refine WU [1,2,3] rfl (fun k:Nat=>[(3,I k)]) (fun _=>[]) (fun k=>k<=s.scenes.length) (fun k=>s.scenes.length - k) 0 (Nat.zero_le _) ?_ ?_
 . (refine Zk ?_ ?_ ?_ rfl rfl<;>dsimp only [Zg,Ze,Zm,Zh,Zd,Zo,id,go_sem,rA,rM,rS]<;>simp [Zg,Ze,Zm,Zh,Zd,Zo,Za,Zf,KFR,KFL,KF,Zc,mtO,nbr])
 intro k hk
 dsimp only [go_sem,rA,rM,rS]
 simp only [List.length_map]
 by_cases hlt:k < s.scenes.length
 . have hx:=hs.each _ (List.getElem_mem hlt)
   refine Zu (by simpa using hlt) ?_
   dsimp only [go_sem,rA,rM,rS]
   refine UA k rfl (by simpa using hlt) ?_
   dsimp only [go_sem,rA,rM,rS]
   refine ZcE hlt ?_
   dsimp only [Zh,go_sem,rA,rM,rS]
   refine Zm1 (by simp;omega) ?_
   dsimp only [go_sem,rA,rM,rS]
   refine UA k rfl (by simpa using hlt) ?_
   dsimp only [go_sem,rA,rM,rS]
   refine ZiI s.scenes[k] hlt (by simp [Zh]) (by simp [Zh,Zs]) ?_
   rw [List.set_getElem_self]
   dsimp only [go_sem,rA,rM,rS]
   refine UA k rfl (by simpa using hlt) ?_
   dsimp only [go_sem,rA,rM,rS]
   refine ZcE hlt ?_
   dsimp only [Zh,go_sem,rA,rM,rS]
   refine Zm1 (by simp;omega) ?_
   dsimp only [go_sem,rA,rM,rS]
   refine UA k rfl (by simpa using hlt) ?_
   dsimp only [go_sem,rA,rM,rS]
   refine ZiI s.scenes[k] hlt (by simp [Zh]) (by simp [Zh,Zs]) ?_
   rw [List.set_getElem_self]
   dsimp only [go_sem,rA,rM,rS]
   rw [Zi (n:=(k:Int)+1) (by omega) (by omega)]
   refine ⟨k+1,hlt,by omega,?_⟩
   (refine Zk ?_ ?_ ?_ rfl rfl<;>dsimp only [Zg,Ze,Zm,Zh,Zd,Zo,id,go_sem,rA,rM,rS]<;>simp [Zg,Ze,Zm,Zh,Zd,Zo,Za,Zf,KFR,KFL,KF,Zc,mtO,nbr])
 refine Zx (by simp;omega) ?_
 dsimp only [go_sem,rA,rM,rS]
 refine ⟨_,rfl,?_⟩
 refine ZBt (fun _=>2) ?_ ?_ ?_ (fun i hi j hj _=>by omega) rfl (fun i hi=>absurd hi (Nat.not_lt_zero i))<;>dsimp only [Z7,Zn,go_sem,rA,rM,rS]<;>simp [Za,Zf,KFR,KFL,KF,Zc,mtO,nbr,Ze,Zm,Zg,Zh,Zd,Zo]
 all_goals (try dsimp only [go_sem,rA,rM,rS])
 all_goals (try simp [mtL,mtB,mtS,Za,KFL,KF,Zm,Zg])
end Go.Proofs.YtiigiflofnjilaaGreat
namespace Go.Sx
open Go Go.RowKit
section
variable {g:Option (Nat × Bool)} {k v' m0 T o m' T':Nat} {xs:List (List SV)} {inn:List (List (List SV))} {d:Option Nat} {σ : St} {r:KT} {K:RK}
theorem ZdX {j:Int} (n:Nat) (hi:j=(n:Int)) (hn:n < xs.length) (hk:Yw d (.pr k v' m0 n 0) g σ r K) :
 ∃ i rows TT,v'=v'+i/\YB k v' m0 xs T o m' inn T' i=some (m0,rows,TT)/\IXR g k v' m0 rows.length j d σ r K :=
 ⟨0,_,_,rfl,rfl,UA n hi (by rw [Xq];exact hn) hk⟩
theorem Zz6 {j:Int} {v:Nat} {rows:List (List SV)} (i n:Nat) (hv:v=v'+(i+1)) (hr:inn[i]? = some rows) (hi:j=(n:Int)) (hn:n < rows.length) (hk:Yw d (.pr k v m' n 0) g σ r K) :
 ∃ i rows TT,v=v'+i/\YB k v' m0 xs T o m' inn T' i=some (m',rows,TT)/\IXR g k v m' rows.length j d σ r K :=
 ⟨i+1,rows,T',hv,by simp only [YB,hr],UA n hi hn hk⟩
theorem ZBe {i oo m:Nat} {ag:Bool} {row:List SV} (hx:xs[i]? = some row) (hi:i < inn.length) (hk:Wx (XU (row.set o (.mr k (v'+1+i))) oo m ag) d g σ r K) :
 ∃ a rows TT,v'=v'+a/\YB k v' m0 xs T o m' inn T' a=some (m0,rows,TT)/\LDR g rows i oo m ag d σ r K :=
 ⟨0,_,_,rfl,rfl,row.set o (.mr k (v'+1+i)),ZB.2 fun _=>by rw [XD,if_pos hi,hx];rfl,hk⟩
theorem ZlU {v j oo m:Nat} {ag:Bool} {rows:List (List SV)} {row:List SV} (a:Nat) (hv:v=v'+(a+1)) (hr:inn[a]? = some rows) (hx:rows[j]? = some row) (hk:Wx (XU row oo m ag) d g σ r K) :
 ∃ a rows TT,v=v'+a/\YB k v' m0 xs T o m' inn T' a=some (m',rows,TT)/\LDR g rows j oo m ag d σ r K :=
 ⟨a+1,rows,T',hv,by simp only [YB,hr],row,ZB.2 fun _=>hx,hk⟩
theorem Zz9 {α : Type} {l:List α} {f:α->List SV} {h:α->List (List SV)} {v j oo:Nat} {c row:List SV} (i:Nat) (y:α) (hv:v=v'+(i+1)) (hi:i < l.length) (hr:(h l[i])[j]? = some row) (hb:oo+c.length<=row.length) (he:h y=(h l[i]).set j (Zs row oo c)) (hf:f y=f l[i])
 (hk:r ⟨σ.fr,(k,.rws v' m0 ((l.set i y).map f) T o m' ((l.set i y).map h) T') :: σ.hp,σ.n,σ.N,σ.gs⟩ K):STW v' m0 (l.map f) T o m' (l.map h) T' v m' j oo k c σ r K:=by
 refine .inr ⟨i,h l[i],row,hv,rfl,by simp [hi],hr,hb,?_⟩
 rw [<- he,<- List.map_set]
 have e:(l.set i y).map f=l.map f:=by
  rw [List.map_set,hf]
  refine List.ext_getElem? fun q=>?_
  by_cases hq:q=i
  . subst hq;rw [List.getElem?_set_self (by simpa using hi),List.getElem?_map,List.getElem?_eq_getElem hi];rfl
  . rw [List.getElem?_set_ne (Ne.symm hq)]
 rw [e] at hk
 exact hk
end
theorem Zdn {α : Type} {f:α->List SV} {h:α->List (List SV)} (o m':Nat):∀ l:List α,ZbP o m' (l.map h) (l.map f)=l.map fun x=>(f x).set o (.sl false m' (h x))
 | []=>rfl
 | x :: l=>by simp only [List.map_cons,ZbP,Zdn o m' l]
theorem Zsp {m:Nat} {σ : St} (kb i k:Nat) {v:Nat} {l:List SV} {T1 mm T o m' T':Nat} {xs:List (List SV)} {inn:List (List (List SV))} (hm:Nat.ble m k=true) (hkb:lkh kb σ.hp = .cells l T1) (hl:l[i]? = some (.mr k v)) (hk:lkh k σ.hp = .rws v mm xs T o m' inn T') :
 Ent m σ ⟨σ.fr,(kb,.cells (l.set i (.sl false mm (ZbP o m' inn xs))) T1) :: (k,.gone) :: σ.hp,σ.n,σ.N,σ.gs⟩:=fun C E a w hmc h=>by
 obtain ⟨g1,g2⟩:=UR h.hs k
 have hne:kb≠k:=by rintro rfl;rw [hk] at hkb;cases hkb
 have hk2:lkh kb ((k,.gone) :: σ.hp) = .cells l T1:=by rw [Zp,if_neg hne];exact hkb
 have hocc:∀ b,occ E kb (.cells (l.set i (.sl false mm (ZbP o m' inn xs))) T1) b↔occ E kb (lkh kb ((k,.gone) :: σ.hp)) b:=fun b=>by rw [hk2];rfl
 have hbk:=h.hs.bk k
 rw [hk] at hbk
 have hok:∀ i b,i<=inn.length->Zh8 (E.hv k (v+i)) b->okS C E ((k,.gone) :: σ.hp) b:=fun i b hi hb=>by
  have hoc:occ E k (lkh k σ.hp) b:=by rw [hk];exact ⟨i,hi,hb⟩
  refine ⟨?_,fun j ho=>?_⟩
  . rcases h.hs.lo k b hoc with q | q
    . exact .inr q
    . have h1:=hmc.2 k b q;have h2:=hmc.1;have h3:=Nat.le_of_ble_eq_true hm;omega
  . rw [Zp] at ho
    split at ho
    . exact ho.elim
    . exact absurd (h.hs.dj j k b ho hoc).symm (by omega)
 have hval:=Ztd g2 hok hbk
 obtain ⟨h6,h7⟩:=X7 (hb:=.cells (l.set i (.sl false mm (ZbP o m' inn xs))) T1) (B:=E.β kb) g1 hocc (by rw [hk2];rfl) ⟨rfl,rfl,rfl,rfl,fun _ _=>rfl⟩ (fun hst=>by
  have hb:=h.hs.bk kb
  rw [hkb] at hb
  simp only [Z2] at hb ⊢
  obtain ⟨cs,e1,e2⟩:=hb
  refine ⟨cs,e1,Zak (ZfS (p:=fun s s'=>∀ y,R w E (ltn σ.n) (okS C E σ.hp) s y->R w E (ltn σ.n) (okS C E ((kb,.cells (l.set i (.sl false mm (ZbP o m' inn xs))) T1) :: (k,.gone) :: σ.hp)) s' y)
   (fun s y hy=>ZN hst.c (fun _ _=>Ele.rfl) (fun _ h=>h) _ _ (ZN g2.c (fun _ _=>Ele.rfl) (fun _ h=>h) _ _ hy)) (fun y hy=>?_) hl) e2⟩
  have hy2:y=E.hv k v:=by simp only [R] at hy;exact hy.2.2.1
  rw [hy2]
  exact ZN hst.c (fun _ _=>Ele.rfl) (fun _ h=>h) _ _ hval)
 have hst:ZE w w (okS C E σ.hp) (okS C E ((kb,.cells (l.set i (.sl false mm (ZbP o m' inn xs))) T1) :: (k,.gone) :: σ.hp)):=fun b hb hs=>by
  obtain ⟨q1,q2⟩:=g2 b hb hs
  exact h7 b q1 hs
 exact ⟨E,Yi h hst (fun _ _=>Ele.rfl) (Nat.le_refl _) h6⟩
end Go.Sx
namespace Go.Proofs.YtiigiflofnjilaaGreat
open Go Go.Sx
def cg13:SC:=(sr1 [
 o1 1 (.box (.t 0) 0 34),
 o1 2 (.alloc zv0 34)]
 (.gh (sr1 [
 o1 4 (ao 1 0),
 o1 5 (lt 4 2),
 o1 6 (.callm 47 [.t 5]),
 o1 7 (ao 1 0),
 ⟨none,.st (.t 7) (.t 6) 2,none,[]⟩]
 (.gh (sr1 [
 o1 8 (.bsl 6 72 []),
 o1 9 (ao 1 36),
 o1 10 (lf 9 1),
 o1 11 (.cln 6 80 72 (.t 8) (.t 10)),
 o1 12 (ao 1 36),
 ⟨none,.st (.t 12) (.t 11) 1,none,[]⟩]
 (.gh (.seq (sr1 [
 o1 3 (.mv (cn 0))]
 (.gh (.block 0 (.loop (.seq (sr1 [
  m1 13 3,
  o1 14 (ao 1 36),
  o1 15 (lf 14 1),
  o1 16 (.len (.t 15)),
  o1 17 (.bin .lss (.t 13) (.t 16))]
  (.gh (.cond (.t 17)
  .skip
  (.exit 0))))
  (.seq (.block 1 (.seq (.regd [0,1,2,3,4,5,6,7,8,9,10,11,12,13] [
   .op (o1 20 (ao 1 36)),
   .op (p1 21 (lf 20 1) [0]),
   .op (m1 22 3),
   .op (o1 23 (.bsl 2 27 [])),
   .op (o1 24 (ao 1 36)),
   .op (p1 25 (lf 24 1) [4]),
   .op (m1 26 3),
   .op (p1 27 (.ixs (.t 25) (.t 26) 6) [5,6]),
   .op (p1 28 (ao 27 4) [7]),
   .op (p1 29 (lf 28 1) [8])] 1 0 [
   ⟨some 30,.cln 2 16 27 (.t 23) (.t 29),none,[3,9]⟩,
   ⟨some 31,.ixs (.t 21) (.t 22) 6,none,[0,1,2,3,4,5,6,7,8,9,10]⟩,
   ⟨some 32,ao 31 4,none,[0,1,2,3,4,5,6,7,8,9,10,11]⟩,
   ⟨none,.st (.t 32) (.t 30) 1,none,[0,1,2,3,4,5,6,7,8,9,10,12]⟩])
   (.gh (.regd [0,1,2,3,4,5,6,7,8,9,10,11,12,13] [
   .op (o1 33 (ao 1 36)),
   .op (p1 34 (lf 33 1) [0]),
   .op (m1 35 3),
   .op (o1 36 (.bsl 1 3 [])),
   .op (o1 37 (ao 1 36)),
   .op (p1 38 (lf 37 1) [4]),
   .op (m1 39 3),
   .op (p1 40 (.ixs (.t 38) (.t 39) 6) [5,6]),
   .op (p1 41 (ao 40 5) [7]),
   .op (p1 42 (lf 41 1) [8]),
   .op (p1 43 (.app 1 8 3 (.t 36) (.t 42)) [3,9]),
   .op (p1 44 (.ixs (.t 34) (.t 35) 6) [0,1,2,3,4,5,6,7,8,9,10]),
   .op (p1 45 (ao 44 5) [0,1,2,3,4,5,6,7,8,9,10,11])] 0 1 [
   ⟨none,.st (.t 45) (.t 43) 1,none,[0,1,2,3,4,5,6,7,8,9,10,12]⟩]))))
  (.reg [
  m1 18 3,
  o1 19 (.bin .add (.t 18) (cn 1)),
  m1 3 19])))))))
 (sr1 [
 o1 46 (lt 1 37),
 ⟨none,.st (.t 2) (.t 46) 37,none,[]⟩]
 (.gh .ret)))))))))
def rg13:List RV:=[.cell 2 37 true]
theorem ng13:Tryz.f13.ntmps=47:=by kernel_rfl
theorem bg13:YI Tryz.prog 13=true:=by kernel_rfl
theorem Zwm:XK Tryz.prog cg13 ((Tryz.f13.body).getD .skip)=true:=by kernel_rfl
theorem ZtZ:Wg Tryz.prog rg13 Tryz.f13.results.toList=true:=by kernel_rfl
theorem mg13 {n0:Nat} {hp0:List (Nat × HB)} {args:List SV} {Z6:Ot->Prop} (hh:hpb n0 hp0) (hx:∀ o,Z6 o->KX o.res/\KXP o.hp) (h:sx Tryz.prog Y0 n0 cg13 ⟨We 0 args,hp0,n0,47,[]⟩ (Zct rg13 fun o=>∃ o',Z6 o'/\ZdV n0 o o')) (hA:Nat.ble args.length 47=true:=by rfl):CtM Tryz.prog 13 hp0 n0 args Z6:=YU Tryz.func13 rfl bg13 Zwm ZtZ ng13 (Nat.le_of_ble_eq_true hA) hh hx h
open Go.Azalai
def ZK (x:Scene):List SV:=[I x.heat.lo,I x.heat.hi,I x.grass.lo,I x.grass.hi,.any,.sl false 1 (x.prices.map Zo)]
def WF (x:Scene):List (List SV):=x.yields.map Zd
theorem ZnZ (s:Season) (hs:SmallS s):CtM Tryz.prog 13 [] 0 [.agg (Zn s)] (fun o=>o=⟨false,.agg (Z7 s (.mr 0 0) (.mr 1 0)),[(0,.row 0 9 (s.land.wells.map Ze) 88),(1,.rws 0 6 (s.scenes.map ZK) 72 4 2 (s.scenes.map WF) 27)],2⟩):=by
 have hsc:=hs.sc
 refine mg13 (by simp [hpb]) (fun o ho=>by subst ho;simp [KX,KXL,KXP,KXH,Za,KFL,KF,Z7,Zn,ZK,WF,Zh,Ze,Zm,Zg,Zd,Zo]) ?_
 dsimp only [cg13,rg13,Zn,go_sem,rA,rM,rS]
 refine gh Xo ?_
 dsimp only [go_sem,rA,rM,rS]
 refine V5 [] (Zsd s.land hs.land) rfl rfl rfl ?_ ?_ ?_
 . dsimp only [ZY,go_sem,rA,rM,rS]
   simp [mtL,mtB,mtS,Za,KFL,KF,Ze,Zm,Zg]
 . dsimp only [go_sem,rA,rM,rS]
 dsimp only [ZY,go_sem,rA,rM,rS]
 refine gh (Yg (ZlG 3 0 4 4 83 rfl rfl) (Zsp 0 1 3 rfl rfl rfl rfl)) ?_
 dsimp only [go_sem,rA,rM,rS]
 simp only [ZbP]
 refine ⟨by simp;omega,?_⟩
 dsimp only [go_sem,rA,rM,rS]
 refine gh (ZlG 4 0 4 2 27 rfl rfl) ?_
 dsimp only [go_sem,rA,rM,rS]
 refine gh Xo ?_
 dsimp only [go_sem,rA,rM,rS]
 refine WU [1,2,3] rfl (fun k:Nat=>[(3,I k)]) (fun k=>[(4,.rws 0 6 ((s.scenes.take k).map ZK ++ (s.scenes.drop k).map Zh) 72 4 2 ((s.scenes.take k).map WF) 27)]) (fun k=>k<=s.scenes.length) (fun k=>s.scenes.length - k) 0 (Nat.zero_le _) ?_ ?_
 . (refine Zk ?_ ?_ ?_ rfl rfl<;>dsimp only [Zg,Ze,Zm,Zh,Zd,Zo,ZK,WF,id,go_sem,rA,rM,rS]<;>simp [Zg,Ze,Zm,Zh,Zd,Zo,ZK,WF,Za,Zf,KFR,KFL,KF,Zc,mtO,nbr])
 intro k hk
 dsimp only [go_sem,rA,rM,rS]
 refine ⟨0,6,_,_,rfl,rfl,?_⟩
 simp only [Xq,List.length_append,List.length_map,List.length_take,List.length_drop]
 refine gh Xo ?_
 dsimp only [go_sem,rA,rM,rS]
 by_cases hlt:k < s.scenes.length
 . have hx:=hs.each _ (List.getElem_mem hlt)
   refine Zu (by simp;omega) ?_
   dsimp only [go_sem,rA,rM,rS]
   have hA:(s.scenes.take k).map ZK ++ (s.scenes.drop k).map Zh=(s.scenes.take k).map ZK ++ (Zh s.scenes[k] :: (s.scenes.drop (k+1)).map Zh):=by rw [List.drop_eq_getElem_cons hlt];rfl
   have hlA:((s.scenes.take k).map ZK).length=k:=by simp;omega
   have hx0:((s.scenes.take k).map ZK ++ (s.scenes.drop k).map Zh)[k]? = some (Zh s.scenes[k]):=by
    rw [hA,List.getElem?_append_right (by omega),hlA,Nat.sub_self];rfl
   have e0:((s.scenes.take k).map ZK ++ (s.scenes.drop k).map Zh).set k (Zs (Zh s.scenes[k]) 4 [.mr 5 0])=(s.scenes.take k).map ZK ++ ([I s.scenes[k].heat.lo,I s.scenes[k].heat.hi,I s.scenes[k].grass.lo,I s.scenes[k].grass.hi,.mr 5 0,.sl false 1 (s.scenes[k].prices.map Zo)] :: (s.scenes.drop (k+1)).map Zh):=by
    rw [hA,List.set_append_right _ _ (by omega),hlA,Nat.sub_self];rfl
   have hx1:((s.scenes.take k).map ZK ++ ([I s.scenes[k].heat.lo,I s.scenes[k].heat.hi,I s.scenes[k].grass.lo,I s.scenes[k].grass.hi,.mr 5 0,.sl false 1 (s.scenes[k].prices.map Zo)] :: (s.scenes.drop (k+1)).map Zh))[k]? = some [I s.scenes[k].heat.lo,I s.scenes[k].heat.hi,I s.scenes[k].grass.lo,I s.scenes[k].grass.hi,.mr 5 0,.sl false 1 (s.scenes[k].prices.map Zo)]:=by
    rw [List.getElem?_append_right (by omega),hlA,Nat.sub_self];rfl
   refine ZdX k rfl (by simp;omega) ?_
   dsimp only [go_sem,rA,rM,rS]
   refine ⟨0,_,_,rfl,rfl,Zh s.scenes[k],ZB.2 fun _=>?_,?_⟩
   . rw [XD,if_neg (by simp;omega),hx0]
   dsimp only [Zh,go_sem,rA,rM,rS]
   refine ⟨by simp;omega,?_⟩
   dsimp only [go_sem,rA,rM,rS]
   refine ZdX k rfl (by simp;omega) ?_
   dsimp only [go_sem,rA,rM,rS]
   refine .inl ⟨rfl,rfl,Zh s.scenes[k],hx0,by simp [Zh],.inl (by simp;omega),?_⟩
   rw [e0]
   dsimp only [go_sem,rA,rM,rS]
   refine gh Xo ?_
   dsimp only [go_sem,rA,rM,rS]
   refine ZdX k rfl (by simp;omega) ?_
   dsimp only [go_sem,rA,rM,rS]
   refine ⟨0,_,_,rfl,rfl,[I s.scenes[k].heat.lo,I s.scenes[k].heat.hi,I s.scenes[k].grass.lo,I s.scenes[k].grass.hi,.mr 5 0,.sl false 1 (s.scenes[k].prices.map Zo)],ZB.2 fun _=>?_,?_⟩
   . rw [XD,if_neg (by simp;omega),hx1]
   dsimp only [go_sem,rA,rM,rS]
   refine Zm1 (by simp;omega) ?_
   dsimp only [go_sem,rA,rM,rS]
   refine ZdX k rfl (by simp;omega) ?_
   dsimp only [go_sem,rA,rM,rS]
   refine .inl ⟨rfl,rfl,[I s.scenes[k].heat.lo,I s.scenes[k].heat.hi,I s.scenes[k].grass.lo,I s.scenes[k].grass.hi,.mr 5 0,.sl false 1 (s.scenes[k].prices.map Zo)],hx1,by simp,.inl (by simp;omega),?_⟩
   dsimp only [go_sem,rA,rM,rS]
   rw [Zi (n:=(k:Int)+1) (by omega) (by omega)]
   refine ⟨k+1,hlt,by omega,?_⟩
   have hlen:((s.scenes.take k).map WF).length=k:=by simp;omega
   have e3:((s.scenes.take k).map ZK ++ ([I s.scenes[k].heat.lo,I s.scenes[k].heat.hi,I s.scenes[k].grass.lo,I s.scenes[k].grass.hi,.mr 5 0,.sl false 1 (s.scenes[k].prices.map Zo)] :: (s.scenes.drop (k+1)).map Zh)).set k [I s.scenes[k].heat.lo,I s.scenes[k].heat.hi,I s.scenes[k].grass.lo,I s.scenes[k].grass.hi,.mr 5 0,.sl false 1 (s.scenes[k].prices.map Zo)]=(s.scenes.take k).map ZK ++ ([I s.scenes[k].heat.lo,I s.scenes[k].heat.hi,I s.scenes[k].grass.lo,I s.scenes[k].grass.hi,.mr 5 0,.sl false 1 (s.scenes[k].prices.map Zo)] :: (s.scenes.drop (k+1)).map Zh):=by
    rw [List.set_append_right _ _ (by omega),hlA,Nat.sub_self];rfl
   rw [e3]
   refine Yg (ZkZ 4 5 [I s.scenes[k].heat.lo,I s.scenes[k].heat.hi,I s.scenes[k].grass.lo,I s.scenes[k].grass.hi,.mr 5 0,.sl false 1 (s.scenes[k].prices.map Zo)] rfl rfl rfl (by rw [hlen,List.getElem?_append_right (by omega),hlA,Nat.sub_self];rfl) rfl) ?_
   have e1:((s.scenes.take k).map ZK ++ ([I s.scenes[k].heat.lo,I s.scenes[k].heat.hi,I s.scenes[k].grass.lo,I s.scenes[k].grass.hi,.mr 5 0,.sl false 1 (s.scenes[k].prices.map Zo)] :: (s.scenes.drop (k+1)).map Zh)).set ((s.scenes.take k).map WF).length ([I s.scenes[k].heat.lo,I s.scenes[k].heat.hi,I s.scenes[k].grass.lo,I s.scenes[k].grass.hi,.mr 5 0,.sl false 1 (s.scenes[k].prices.map Zo)].set 4 .any)=(s.scenes.take (k+1)).map ZK ++ (s.scenes.drop (k+1)).map Zh:=by
    rw [hlen,List.set_append_right _ _ (by omega),hlA,Nat.sub_self,List.set_cons_zero,<- List.take_append_getElem hlt,List.map_append,List.append_assoc];rfl
   have e2:(s.scenes.take k).map WF ++ [s.scenes[k].yields.map Zd]=(s.scenes.take (k+1)).map WF:=by
    rw [<- List.take_append_getElem hlt,List.map_append];rfl
   rw [e1,e2]
   clear e0 e1 e2 e3 hx0 hx1 hA hlA hlen
   generalize s.scenes.take (k+1)=LA
   generalize s.scenes.drop (k+1)=LB
   (refine Zk ?_ ?_ ?_ rfl rfl<;>dsimp only [Zg,Ze,Zm,Zh,Zd,Zo,ZK,WF,id,go_sem,rA,rM,rS]<;>simp [Zg,Ze,Zm,Zh,Zd,Zo,ZK,WF,Za,Zf,KFR,KFL,KF,Zc,mtO,nbr])
 refine Zx (by simp;omega) ?_
 dsimp only [go_sem,rA,rM,rS]
 refine gh Xo ?_
 dsimp only [go_sem,rA,rM,rS]
 rw [show k=s.scenes.length from by omega,List.take_length,List.drop_length,List.map_nil,List.append_nil]
 refine ⟨_,rfl,?_⟩
 refine ZBt (fun j=>if j=0 then 2 else 4) ?_ ?_ ?_ (fun i hi j hj e=>by (try simp only at e);split at e<;>split at e<;>omega) rfl (fun i hi=>absurd hi (Nat.not_lt_zero i))<;>dsimp only [Z7,Zn,go_sem,rA,rM,rS]<;>simp [Za,Zf,KFR,KFL,KF,Zc,mtO,nbr,Ze,Zm,Zg,Zh,Zd,Zo,ZK,WF]
 all_goals (try dsimp only [go_sem,rA,rM,rS])
 all_goals (try simp [mtL,mtB,mtS,Za,KFL,KF,Zm,Zg])
def ZdI (l:Land) (p:Span) (s to day till:Int):SV:=.tup [XQ (Zdy l p s to day till) 1 ((Zag l p s to day till).map XL),I (Zdy l p s to day till)]
theorem Zok (l:Land) (p:Span) (s to day till:Int):KF (ZdI l p s to day till):=by
 unfold ZdI XQ;split<;>simp [KFL,KF,Za,XL,YF,YY]
theorem ZrS (l:Land) (hs:WM l) (s to day till:Int) (p:Span):Ct Tryz.prog 65 [.agg (ZY l),I s,I to,I day,I till,.agg (Zd p)] (ZdI l p s to day till):=by
 have hw:=hs.1
 have hleg:=hs.2.1
 refine t65.1 (by simp [ZY,Ze,Zm,Zg,Zd,Za,KFL,KF]) (Zok _ _ _ _ _ _) ?_
 dsimp only [c65,r65,ZY,Zd,go_sem,rA,rM,rS]
 by_cases ha:Zay l p=0
 case neg =>
  refine call (Zbd l hs p ha) ?_
  dsimp only [go_sem,rA,rM,rS]
  refine Zu (by simpa using ha) ?_
  dsimp only [go_sem,rA,rM,rS]
  simp [ZdI,Zdy,ha,XQ]
 have hok:=Zl1 ha
 refine call (Zdw l hs p ha) ?_
 dsimp only [Yc,go_sem,rA,rM,rS]
 refine Zx (by decide) ?_
 dsimp only [go_sem,rA,rM,rS]
 simp only [List.length_map]
 have h1:=VK hok.land
 rw [Zi (n:=(l.wells.length:Int) - 1) (by omega) (by omega)]
 refine call (ZeQ 0 (l.wells.length - 1) s to true) ?_
 dsimp only [go_sem,rA,rM,rS]
 repeat (first | (refine gb ?_;dsimp only [go_sem,rA,rM,rS]) | (refine call (ZeQ 0 100000 day till true) ?_;dsimp only [go_sem,rA,rM,rS]))
 by_cases hr:(inR 0 (l.wells.length - 1) s && inR 0 (l.wells.length - 1) to && inR 0 100000 day && inR 0 100000 till)=true
 case neg =>
  have hb:∀ a b c d:Bool,¬ (a && b && c && d)=true->(!(a && b) || !(c && d))=true:=by decide
  refine Zu (hb _ _ _ _ hr) ?_
  dsimp only [go_sem,rA,rM,rS]
  simp [ZdI,Zdy,ha,XQ,hr]
 have hb:∀ a b c d:Bool,(a && b && c && d)=true->(!(a && b) || !(c && d))=false:=by decide
 refine Zx (hb _ _ _ _ hr) ?_
 dsimp only [go_sem,rA,rM,rS]
 have he:Zdy l p s to day till=if (Zag l p s to day till).length > 200 then 9 else 0:=by simp only [Zdy,Zag,ha,hr];simp
 simp only [Bool.and_eq_true,inR,decide_eq_true_eq] at hr
 obtain ⟨⟨⟨hr1,hr3⟩,hd⟩,hu⟩:=hr
 refine Zce rfl rfl rfl ?_
 dsimp only [go_sem,rA,rM,rS]
 refine gh (Ue 5 0 1 35 rfl rfl) ?_
 dsimp only [go_sem,rA,rM,rS]
 have hlk:=ZxA l p hs hok till to (l.wells.length+1) [] s day [] [] 0 0 [] (.v (.slice none 0 0)) Zm4.start (by simp) (by omega) (by omega) (by simp;omega) (by simp) MW.nil (fun u=>by simp [XN]) (.inr ⟨rfl,rfl⟩)
 have hW:(VH l p to till (l.wells.length+1) [] s day).map (([]:List Nat) ++ ·)=Zag l p s to day till:=by simp [Zag]
 rw [hW] at hlk
 refine Xd [2,1,5,7,4,8,9,6] hlk rfl rfl ?_ ?_ ?_ ?_
 . rfl
 . dsimp only [rho,go_sem,rA,rM,rS]
   simp [Za,Zf,KFR,KFL,KF,Zc,mtO,nbr]
 . dsimp only [rho,Ww,Yc,go_sem,rA,rM,rS]
   simp [Za,Zf,KFR,KFL,KF,Zc,mtO,nbr,Yd,Yc,Ze,Zm,Zg,XL,YF,YY]
 rintro o ⟨ver',clk',hM',rfl⟩
 dsimp only [Ww,Yc,go_sem,rA,rM,rS]
 try simp only [List.nil_append]
 by_cases hl:(Zag l p s to day till).length<=200
 . refine Zx (by simp only [hl,decide_true];rfl) ?_
   dsimp only [go_sem,rA,rM,rS]
   simp only [nbr]
   dsimp only [go_sem,rA,rM,rS]
   rw [ZdI,he,if_neg (by omega),Zc2 (by omega)]
   simp [XQ,vwN]
 . refine Zu (by simp only [hl,decide_false];rfl) ?_
   dsimp only [go_sem,rA,rM,rS]
   rw [ZdI,he,if_pos (by omega)]
   simp [XQ]
end Go.Proofs.YtiigiflofnjilaaGreat
namespace Go.Azalai
def W32:={n:Int // 0<=n/\n < 4294967296}
def atF (l:List W32) (i:Nat):Int:=match l[i % l.length]? with | some x=>x.val | none=>0
theorem ZsJ (l:List W32) (i:Nat):0<=atF l i/\atF l i < 4294967296:=by
 unfold atF;split
 . rename_i x _;exact x.property
 . omega
structure Ready (l:Land) (p:Span):Prop where
 small:WM l
 ok:OkLP l p
theorem ZsO {n day:Int} {o s:Gate->Int} {t:Int} (ht:t<=100000):∀ {l:List Gate} {a:Int},ZdW n day o s a l<=t↔a<=t\/∃ g ∈ l,max day (o g)+n - 1<=s g/\max day (o g)<=t
 | [],a=>by simp [ZdW]
 | g :: l,a=>by
  simp only [ZdW]
  rw [ZsO ht (l:=l)]
  simp only [List.mem_cons,exists_eq_or_imp]
  by_cases h:max day (o g)+n - 1<=s g
  . rw [if_pos h]
    constructor
    . rintro (q | q)
      . by_cases ha:a<=t
        . exact .inl ha
        . exact .inr (.inl ⟨h,by omega⟩)
      . exact .inr (.inr q)
    . rintro (q | q | q)
      . exact .inl (by omega)
      . exact .inl (by have:=q.2;omega)
      . exact .inr q
  . rw [if_neg h]
    constructor
    . rintro (q | q)
      . exact .inl q
      . exact .inr (.inr q)
    . rintro (q | q | q)
      . exact .inl q
      . exact absurd q.1 h
      . exact .inr q
def oK (k:Bool) (g:Gate):Int:=bif k then g.opens.hi else g.opens.lo
def sK (k:Bool) (g:Gate):Int:=bif k then g.shuts.lo else g.shuts.hi
theorem ZmR {k:Bool} {x:Leg} {p:Span} {t u:Int} (h:GoodLeg x) (hp:ZX p=true) (hu:u<=100000) :
 leK k x p t<=u↔∃ g ∈ x.gates,max t (oK k g)+nK k x p - 1<=sK k g/\max t (oK k g)<=u:=by
 rw [(Zck (k:=k) (t:=t) h hp).1,ZsO hu]
 constructor
 . rintro (q | q)
   . omega
   . exact q
 . exact fun q=>.inr q
theorem Zs7 {k:Bool} {x:Leg} {p:Span} {t:Int} (h:GoodLeg x) (hp:ZX p=true) (ht:t<=100001):t<=leK k x p t/\leK k x p t<=100001:=by
 have hn:=Zp0 (k:=k) h hp
 obtain ⟨_,a2,a3⟩:=Zck (k:=k) (t:=t) h hp
 have:=Zff (day:=t) (o:=fun g=>bif k then g.opens.hi else g.opens.lo) hn.1 a3
 refine ⟨?_,by omega⟩
 apply Classical.byContradiction
 intro q
 obtain ⟨g,hg,h1,h2⟩:=(ZmR (k:=k) (t:=t) (u:=leK k x p t) h hp (by omega)).1 (Int.le_refl _)
 omega
theorem ZeK {a b:Int} (ha:1<=a) (hb:1<=b):a<=(a+b - 1).tdiv b * b/\((a+b - 1).tdiv b - 1) * b < a:=by
 rw [Int.tdiv_eq_ediv_of_nonneg (by omega)]
 have h1:=Int.emod_add_mul_ediv (a+b - 1) b
 have h2:=Int.emod_nonneg (a+b - 1) (show b≠0 by omega)
 have h3:=Int.emod_lt_of_pos (a+b - 1) (show 0 < b by omega)
 rw [Int.sub_mul,Int.mul_comm ((a+b - 1) / b) b]
 omega
theorem Zjo {x:Leg} {p:Span} (h:GoodLeg x) (hp:ZX p=true):nK false x p<=nK true x p:=by
 simp only [ZX,Z3,decide_eq_true_eq] at hp
 obtain ⟨h1,h2,h3,_,_⟩:=h
 simp only [nK,cond_true,cond_false,ZcI]
 have u:=ZeK (a:=x.long.lo) (b:=p.hi) h1 (by omega)
 have v:=ZeK (a:=x.long.hi) (b:=p.lo) (by omega) (by omega)
 have w:0<=(x.long.hi+p.lo - 1).tdiv p.lo:=Int.tdiv_nonneg (by omega) (by omega)
 generalize (x.long.lo+p.hi - 1).tdiv p.hi=A at *
 generalize (x.long.hi+p.lo - 1).tdiv p.lo=B at *
 have q:=Int.mul_le_mul_of_nonneg_left hp.2.1 w
 apply Classical.byContradiction
 intro hc
 have q2:B * p.hi<=(A - 1) * p.hi:=Int.mul_le_mul_of_nonneg_right (by omega) (by omega)
 omega
theorem Zq4 {x:Leg} {p:Span} {t:Int} (h:GoodLeg x) (hp:ZX p=true) (ht:t<=100001):leK false x p t<=leK true x p t:=by
 have b0:=Zs7 (k:=false) h hp ht
 have b1:=Zs7 (k:=true) h hp ht
 have hn:=Zjo h hp
 apply Classical.byContradiction
 intro q
 obtain ⟨g,hg,h1,h2⟩:=(ZmR (k:=true) (t:=t) (u:=leK true x p t) h hp (by omega)).1 (Int.le_refl _)
 have hm:=Xz h.g2 (Int.le_refl _) g hg
 simp only [oK,sK,cond_true] at h1 h2
 exact q ((ZmR (k:=false) h hp (by omega)).2 ⟨g,hg,by simp only [oK,sK,cond_false];omega,by simp only [oK,cond_false];omega⟩)
end Go.Azalai
namespace Go.Proofs.YtiigiflofnjilaaGreat
open Go Go.Sx Go.Azalai
def U32 (n:Int):SV:=.v (.int .u32 n)
def VR (x:W32):List SV:=[U32 x.val]
theorem wf32 {n:Int} (h:(Lit.int .u32 n).wf=true):0<=n/\n < 4294967296:=by
 simp only [Lit.wf,Bool.and_eq_true,decide_eq_true_eq] at h
 have e1:IntKind.u32.min=0:=rfl
 have e2:IntKind.u32.max=4294967295:=rfl
 omega
end Go.Proofs.YtiigiflofnjilaaGreat
namespace Go.Azalai
structure Truth where
 water:Int
 fat:Int
 sore:Int
structure Pk where
 rest:Int
 heat:Int
 mheat:Int
 toil:Int
 milk:Int
 burn:Int
 drinks:Int
 grass:Int
 rub:Int
def inS (x:Int) (s:Span):Prop:=s.lo<=x/\x<=s.hi
structure Pin (p:Pk) (b:Breed) (m:March):Prop where
 rest:inS p.rest b.rest
 heat:inS p.heat b.heat
 mheat:inS p.mheat m.heat
 toil:inS p.toil b.toil
 milk:inS p.milk b.milk
 burn:inS p.burn b.burn
 drinks:inS p.drinks m.drinks
 grass:inS p.grass m.grass
 rub:inS p.rub b.rub
structure Tin (t:Truth) (c:Camel):Prop where
 water:100000 * c.water.lo<=t.water/\t.water<=100000 * c.water.hi
 fat:100000 * c.fat.lo<=t.fat/\t.fat<=100000 * c.fat.hi
 sore:1000000 * c.sore.lo<=t.sore/\t.sore<=1000000 * c.sore.hi
end Go.Azalai
namespace Go.Proofs.YtiigiflofnjilaaGreat
open Go Go.Sx
def c59:SC:=(sr1 [
 o1 3 (.box (.t 0) 0 34),
 o1 4 (.box (.t 1) 0 37),
 o1 6 (.mv (cn 0))]
 (sr1 [
 o1 7 (.mv (.c (.slice none 0 0)))]
 (.seq (sr1 [
 o1 10 (ao 3 36),
 o1 11 (lf 10 1),
 o1 12 (.len (.t 11)),
 o1 13 (.mv (cn 0))]
 (.block 0 (.loop (sr1 [
  o1 14 (.bin .lss (.t 13) (.t 12))]
  (.seq (.cond (.t 14)
  .skip
  (.exit 0))
  (.seq (.block 1 (sr1 [
   o1 15 (.ixs (.t 11) (.t 13) 6),
   o1 16 (lt 15 6),
   o1 9 (.alloc zv5 72),
   ⟨none,.st (.t 9) (.t 16) 6,none,[]⟩]
   (.regs [0,1,2,3,4,5,6,7,8,9,10,11,12,13,14,15,16,17,18,19,20,21,22,23,24,25,26] ⟨[
   .op (m1 17 7),
   .op (o1 18 (ao 4 1)),
   .op (p1 19 (lf 18 1) [1]),
   .op (o1 20 (ao 4 2)),
   .op (p1 21 (lf 20 1) [3]),
   .op (p1 22 (.bin .mul (.t 19) (.t 21)) [2,4]),
   .op (o1 23 (ao 9 5)),
   .op (p1 24 (lf 23 1) [6]),
   .op (m1 25 2),
   .op (p1 26 (.ixs (.t 24) (.t 25) 1) [7,8]),
   .op (p1 27 (lf 26 1) [9]),
   .op (o1 28 (ao 3 31)),
   .op (p1 29 (lf 28 1) [11]),
   .op (p1 30 (.bin .sub (.t 27) (.t 29)) [10,12]),
   .op (p1 31 (.bin .mul (.t 22) (.t 30)) [5,13]),
   .op (o1 32 (ao 3 28)),
   .op (p1 33 (lf 32 1) [15]),
   .op (o1 34 (ao 4 1)),
   .op (p1 35 (lf 34 1) [17]),
   .op (p1 36 (.bin .sub (.t 33) (.t 35)) [16,18]),
   .op (o1 37 (ao 3 32)),
   .op (p1 38 (lf 37 1) [20]),
   .op (p1 39 (.bin .mul (.t 36) (.t 38)) [19,21]),
   .op (p1 40 (.bin .add (.t 31) (.t 39)) [14,22]),
   .op (p1 41 (.bsl 1 3 [.t 40]) [23])],0,1,[
   ⟨some 42,.appm 1 8 3 (.t 17) (.t 41),none,[0,24]⟩]⟩ [⟨[
],0,1,[
 ⟨some 7,.mv (.t 42),none,[0,1,2,3,4,5,6,7,8,9,10,11,12,13,14,15,16,17,18,19,20,21,22,23,24,25]⟩]⟩])))
 (.reg [
 o1 43 (.bin .add (.t 13) (cn 1)),
 m1 13 43])))))))
 (.gh (sr1 [
 m1 44 7,
 o1 45 (.call 71 [.t 44]),
 m1 6 45]
 .ret)))))
def r59:List RV:=[.tmp 6]
theorem t59:Qt1 Tryz.prog 59 c59 r59 46:=Z8 Tryz.func59 rfl (by kernel_rfl) (by kernel_rfl) (by kernel_rfl) (by kernel_rfl)
def c20:SC:=(sr1 [
 o1 2 (.box (.t 0) 0 34),
 o1 3 (.box (.t 1) 0 37),
 o1 4 (.mv (cn 0)),
 o1 5 (.mv (cn 0))]
 (sr1 [
 o1 13 (lt 2 37),
 o1 14 (lt 3 3),
 o1 15 (.call 14 [.t 13,.t 14]),
 m1 12 15,
 o1 16 (.ext (.t 12) 0),
 o1 17 (.ext (.t 12) 1),
 o1 18 (.ext (.t 12) 2),
 o1 19 (.ext (.t 12) 3),
 m1 6 16,
 m1 7 17,
 m1 8 18,
 m1 9 19]
 (.seq (.block 0 (sr1 [
  m1 21 9,
  o1 22 (.bin .neq (.t 21) (cn 0)),
  m1 20 22]
  (.cond (.t 20)
  (sr1 [
   m1 23 9,
   o1 4 (.mv (cn 0)),
   m1 5 23]
   .ret)
  (sr1 [
   m1 25 6,
   o1 26 (.bin .neq (.t 25) (.c (.int .u8 0))),
   m1 24 26]
   (.cond (.t 24)
   (sr1 [
    o1 4 (.mv (cn 0)),
    o1 5 (.mv (cn 92))]
    .ret)
   .skip)))))
 (sr1 [
 o1 28 (lt 2 37),
 o1 29 (ao 3 0),
 o1 30 (lf 29 1),
 o1 31 (.call 58 [.t 28,.t 30]),
 m1 27 31,
 o1 32 (.ext (.t 27) 0),
 o1 33 (.ext (.t 27) 1),
 m1 10 32,
 m1 11 33]
 (sr1 [
 o1 34 (lt 2 37),
 o1 35 (lt 3 3),
 m1 36 10,
 o1 37 (.call 59 [.t 34,.t 35,.t 36]),
 m1 4 37,
 o1 5 (.mv (cn 0))]
 .ret)))))
def r20:List RV:=[.tmp 4,.tmp 5]
theorem t20:Qt1 Tryz.prog 20 c20 r20 38:=Z8 Tryz.func20 rfl (by kernel_rfl) (by kernel_rfl) (by kernel_rfl) (by kernel_rfl)
def c24:SC:=(sr1 [
 o1 4 (.mv (.c (.bool false)))]
 (.seq (sr1 [
 m1 6 0,
 o1 7 (.len (.t 6)),
 m1 8 1,
 o1 9 (.len (.t 8)),
 o1 10 (.bin .neq (.t 7) (.t 9))]
 (.cond (.t 10)
 (sr1 [
  o1 4 (.mv (.c (.bool false)))]
  .ret)
 .skip))
 (.seq (sr1 [
 o1 5 (.mv (cn 0))]
 (.block 0 (.loop (.seq (sr1 [
  m1 11 5,
  m1 12 0,
  o1 13 (.len (.t 12)),
  o1 14 (.bin .lss (.t 11) (.t 13))]
  (.cond (.t 14)
  .skip
  (.exit 0)))
  (.seq (.block 1 (.seq (.regd [0,1,2,3,4,5,6,7,8] [
   .op (m1 17 0),
   .op (m1 18 5),
   .op (p1 19 (.ixs (.t 17) (.t 18) 3) [0,1]),
   .op (p1 20 (lt 19 3) [2]),
   .op (m1 21 1),
   .op (m1 22 5),
   .op (p1 23 (.ixs (.t 21) (.t 22) 3) [4,5]),
   .op (p1 24 (lt 23 3) [6]),
   .op (p1 25 (.eqs true true [1,1,1] (.t 20) (.t 24)) [3,7])] 0 0 [
])
 (.cond (.t 25)
 (sr1 [
  o1 4 (.mv (.c (.bool false)))]
  .ret)
 .skip)))
 (.reg [
 m1 15 5,
 o1 16 (.bin .add (.t 15) (cn 1)),
 m1 5 16]))))))
 (sr1 [
 o1 4 (.mv (.c (.bool true)))]
 .ret))))
def r24:List RV:=[.tmp 4]
theorem t24:Qt1 Tryz.prog 24 c24 r24 26:=Z8 Tryz.func24 rfl (by kernel_rfl) (by kernel_rfl) (by kernel_rfl) (by kernel_rfl)
def c4:SC:=(sr1 [
 o1 3 (.box (.t 0) 0 34),
 o1 4 (.box (.t 1) 0 37),
 o1 6 (.mv (.c (.bool false)))]
 (.seq (sr1 [
 o1 15 (lt 3 37),
 o1 16 (.call 12 [.t 15]),
 m1 17 16,
 g1 18 17 false (ao 4 0),
 g1 19 17 false (lf 18 1),
 g1 20 17 false (.len (.t 19)),
 g1 21 17 false (.bin .gtr (.t 20) (cn 40)),
 o1 22 (.pick (.t 17) (.c (.bool true)) (.t 21))]
 (.cond (.t 22)
 (sr1 [
  o1 6 (.mv (.c (.bool true)))]
  .ret)
 .skip))
 (sr1 [
 o1 24 (lt 3 37),
 o1 25 (lt 4 3),
 o1 26 (.call 20 [.t 24,.t 25]),
 m1 23 26,
 o1 27 (.ext (.t 23) 0),
 o1 28 (.ext (.t 23) 1),
 m1 7 27,
 m1 8 28]
 (sr1 [
 o1 30 (lt 3 37),
 o1 31 (lt 4 3),
 o1 32 (.call 21 [.t 30,.t 31]),
 m1 29 32,
 o1 33 (.ext (.t 29) 0),
 o1 34 (.ext (.t 29) 1),
 m1 9 33,
 m1 10 34]
 (sr1 [
 o1 36 (lt 3 37),
 o1 37 (lt 4 3),
 m1 38 2,
 o1 39 (.call 22 [.t 36,.t 37,.t 38]),
 m1 35 39,
 o1 40 (.ext (.t 35) 0),
 o1 41 (.ext (.t 35) 1),
 m1 11 40,
 m1 12 41]
 (sr1 [
 o1 43 (lt 3 37),
 o1 44 (lt 4 3),
 m1 45 2,
 o1 46 (.call 23 [.t 43,.t 44,.t 45]),
 m1 42 46,
 o1 47 (.ext (.t 42) 0),
 o1 48 (.ext (.t 42) 1),
 m1 13 47,
 m1 14 48]
 (sr1 [
 m1 49 7,
 m1 50 9,
 o1 51 (.bin .eql (.t 49) (.t 50)),
 m1 52 51,
 g1 53 52 true (.mv (.t 8)),
 g1 54 52 true (.mv (.t 10)),
 g1 55 52 true (.bin .eql (.t 53) (.t 54)),
 o1 56 (.pick (.t 52) (.t 55) (.c (.bool false))),
 m1 57 56,
 g1 58 57 true (.mv (.t 11)),
 g1 59 57 true (.mv (.t 13)),
 g1 60 57 true (.call 24 [.t 58,.t 59]),
 o1 61 (.pick (.t 57) (.t 60) (.c (.bool false))),
 m1 62 61,
 g1 63 62 true (.mv (.t 12)),
 g1 64 62 true (.mv (.t 14)),
 g1 65 62 true (.bin .eql (.t 63) (.t 64)),
 o1 66 (.pick (.t 62) (.t 65) (.c (.bool false))),
 m1 6 66]
 .ret)))))))
def r4:List RV:=[.tmp 6]
theorem n4:Tryz.f4.ntmps=67:=by kernel_rfl
theorem b4:YI Tryz.prog 4=true:=by kernel_rfl
theorem t4:Qt1 Tryz.prog 4 c4 r4 67:=Z8 Tryz.func4 rfl b4 (by kernel_rfl) (by kernel_rfl) n4
end Go.Proofs.YtiigiflofnjilaaGreat
namespace Go.Azalai
open Go.Sx
def ZjW:List Int->Int
 | []=>0
 | x :: r=>r.foldl min x
theorem ZkL {l:List Int} {a:Int} (h:l≠[]):ZjW (l ++ [a])=min (ZjW l) a:=by
 cases l with
 | nil=>exact absurd rfl h
 | cons x r=>simp [ZjW,List.foldl_append]
def Zaz (s:Season) (p:Plan) (to:Int) (x:Scene):Int:=p.animals * p.slabs * ((x.prices[to.toNat]?).getD 0 - s.cost)+(s.herd - p.animals) * s.sale
def ZlM (s:Season) (p:Plan) (to:Int):Int:=ZjW (s.scenes.map (Zaz s p to))
def Zc3 (s:Season) (p:Plan):Int × Int :=
 if (ZM s p).2.2.2≠0 then (0,(ZM s p).2.2.2) else if (ZM s p).1≠0 then (0,92) else (ZlM s p ((YE s.land s.start [s.start] p.legs).getD 0),0)
theorem ZtE {α : Type} {L:List α} {k:Nat} (hk:k≠0) (h:1<=L.length):L.take k≠[]:=fun e=>by
 rw [List.take_eq_nil_iff] at e
 rcases e with e | e
 . exact hk e
 . rw [e] at h;simp at h
theorem Zi0 {A B d M:Int} (h0:0<=A) (h1:A<=B) (hM:0<=M) (hd:-M<=d/\d<=M):-(B * M)<=A * d/\A * d<=B * M:=by
 have e1:A * d<=A * M:=Int.mul_le_mul_of_nonneg_left hd.2 h0
 have e2:A * M<=B * M:=Int.mul_le_mul_of_nonneg_right h1 hM
 have e3:A * (-M)<=A * d:=Int.mul_le_mul_of_nonneg_left hd.1 h0
 rw [Int.mul_neg] at e3
 omega
theorem Zf3 {s:Season} {p:Plan}:∀ {l:List Scene} {i:Nat},(Wi s p l i).2.2.2=0
 | [],_=>rfl
 | x :: r,i=>by
  simp only [Wi];split
  . rfl
  . exact Zf3
theorem Zdi {s:Season} {p:Plan}:∀ {l:List Scene} {i:Nat},(Wi s p l i).1=0->∀ x ∈ l,(XG s p x).1=0
 | [],_,_,x,hx=>by cases hx
 | y :: r,i,h,x,hx=>by
  simp only [Wi] at h
  split at h
  . rename_i hf;exact absurd h hf
  . rename_i hf
    rcases List.mem_cons.1 hx with rfl | hx
    . simpa using hf
    . exact Zdi h x hx
theorem Zcm {s:Season} {p:Plan} (h:(ZM s p).2.2.2=0):Zt s=true/\YM s p=true:=by
 unfold ZM at h
 split at h
 . simp at h
 rename_i h1
 split at h
 . simp at h
 rename_i h2
 exact ⟨by simpa using h1,by simpa using h2⟩
theorem Zq0 {s:Season} {p:Plan} (h:(ZM s p).2.2.2=0) (h1:(ZM s p).1=0):∀ x ∈ s.scenes,(XG s p x).1=0:=by
 obtain ⟨ho,hp⟩:=Zcm h
 unfold ZM at h1
 rw [if_neg (by simp [ho]),if_neg (by simp [hp])] at h1
 exact Zdi h1
def ZcV (s:Season) (p:Plan) (k:Int):List Draw × Int :=
 if (ZM s p).2.2.2≠0 then ([],(ZM s p).2.2.2) else if (ZM s p).1≠0\/inR 0 (s.scenes.length - 1) k=false then ([],92)
 else match s.scenes[k.toNat]? with
  | some x=>(X6 s x p.animals p.slabs (ZO s p.legs),0)
  | none=>([],0)
end Go.Azalai
namespace Go.Proofs.YtiigiflofnjilaaGreat
open Go Go.Sx Go.Azalai
theorem Zlr (L:List Int) (h1:1<=L.length) (hl:L.length<=1001) (c:Bool):Ct Tryz.prog 71 [.sl c 1 (L.map Zo)] (I (ZjW L)):=by
 refine t71.1 (by simp [Za,Zo,KFL,KF]) (by simp [KFL,KF]) ?_
 dsimp only [c71,r71,go_sem,rA,rM,rS]
 simp only [List.length_map]
 refine Zx (by simp;omega) ?_
 dsimp only [go_sem,rA,rM,rS]
 refine Zr 0 (by omega) rfl ?_
 dsimp only [Zo,go_sem,rA,rM,rS]
 have h0:L[0]=ZjW (L.take 1):=by
  cases L with
  | nil=>simp at h1
  | cons x r=>simp [ZjW]
 rw [h0]
 refine Xu (fun k:Nat=>[(4,I (k+1)),(3,I (ZjW (L.take (k+1))))]) (fun _=>[]) (fun k=>k+1<=L.length) (fun k=>L.length - k) 0 h1 ?_ ?_
 . (refine Zk ?_ ?_ ?_ rfl rfl<;>dsimp only [Zo,id,go_sem,rA,rM,rS]<;>simp [Zo,Za,Zf,KFR,KFL,KF,Zc,mtO,nbr])
 intro k hk
 dsimp only [go_sem,rA,rM,rS]
 simp only [List.length_map]
 by_cases hlt:k+1 < L.length
 . refine Zu (by simp;omega) ?_
   dsimp only [go_sem,rA,rM,rS]
   refine Zr (k+1) hlt (by simp) ?_
   dsimp only [Zo,go_sem,rA,rM,rS]
   rw [Zi (n:=(k:Int)+1+1) (by omega) (by omega)]
   refine ⟨k+1,by omega,by omega,?_⟩
   have e:min (ZjW (L.take (k+1))) L[k+1]=ZjW (L.take (k+1+1)):=by
    rw [List.take_succ_eq_append_getElem hlt,ZkL (ZtE (by omega) h1)]
   rw [e]
   (refine Zk ?_ ?_ ?_ rfl rfl<;>dsimp only [Zo,id,go_sem,rA,rM,rS]<;>simp [Zo,Za,Zf,KFR,KFL,KF,Zc,mtO,nbr])
 refine Zx (by simp;omega) ?_
 dsimp only [go_sem,rA,rM,rS]
 rw [List.take_of_length_le (by omega)]
theorem ZdO {s:Season} (h:OkS s) {k:Nat} (hk:k < s.scenes.length) {m:Nat} (hm:m < s.land.wells.length):∃ hp:m < (s.scenes[k]).prices.length,0<=(s.scenes[k]).prices[m]/\(s.scenes[k]).prices[m]<=1000000:=by
 have hx:=h.scene _ (List.getElem_mem hk)
 simp only [ZG,Bool.and_eq_true,decide_eq_true_eq,List.all_eq_true] at hx
 have hp:m < (s.scenes[k]).prices.length:=by omega
 have:=hx.2 _ (List.getElem_mem hp)
 simp only [inR,decide_eq_true_eq] at this
 exact ⟨hp,this⟩
theorem Ztx {s:Season} (h:OkS s) {p:Plan} (hp:YM s p=true) {k:Nat} (hk:k < s.scenes.length) {m:Nat} (hm:m < s.land.wells.length) (hq:m < (s.scenes[k]).prices.length) :
 IntKind.i64.wrap (IntKind.i64.wrap (IntKind.i64.wrap (p.animals * p.slabs) * IntKind.i64.wrap ((s.scenes[k]).prices[m] - s.cost))+IntKind.i64.wrap (IntKind.i64.wrap (s.herd - p.animals) * s.sale))=Zaz s p m s.scenes[k] /\
 -1000000000<=Zaz s p m s.scenes[k]/\Zaz s p m s.scenes[k]<=1000000000:=by
 have hnum:=h.num
 obtain ⟨_,hpl⟩:=UE hp
 obtain ⟨_,hpr⟩:=ZdO h hk hm
 have e1:0<=p.animals * p.slabs/\p.animals * p.slabs<=30 * 12:=⟨Int.mul_nonneg hpl.1 hpl.2.2.1,Int.mul_le_mul (by omega) hpl.2.2.2 hpl.2.2.1 (by decide)⟩
 have e2:=Zi0 (A:=p.animals * p.slabs) (B:=360) (d:=(s.scenes[k]).prices[m] - s.cost) (M:=1000000) e1.1 (by omega) (by decide) (by omega)
 have e3:0<=(s.herd - p.animals) * s.sale/\(s.herd - p.animals) * s.sale<=30 * 1000000:=⟨Int.mul_nonneg (by omega) (by omega),Int.mul_le_mul (by omega) (by omega) (by omega) (by decide)⟩
 have e4:Zaz s p m s.scenes[k]=p.animals * p.slabs * ((s.scenes[k]).prices[m] - s.cost)+(s.herd - p.animals) * s.sale:=by
  simp only [Zaz,Int.toNat_natCast,List.getElem?_eq_getElem hq,Option.getD_some]
 rw [Zi (n:=p.animals * p.slabs) (by omega) (by omega),Zi (n:=(s.scenes[k]).prices[m] - s.cost) (by omega) (by omega),Zi (n:=s.herd - p.animals) (by omega) (by omega),
  Zi (n:=p.animals * p.slabs * ((s.scenes[k]).prices[m] - s.cost)) (by omega) (by omega),Zi (n:=(s.herd - p.animals) * s.sale) (by omega) (by omega),Zi (by omega) (by omega),e4]
 exact ⟨rfl,by omega,by omega⟩
theorem Zf5 (s:Season) (h:OkS s) (p:Plan) (hp:YM s p=true) (m:Nat) (hm:m < s.land.wells.length):Ct Tryz.prog 59 [.agg (Zn s),.agg (Zy p),I m] (I (ZlM s p m)):=by
 have hsc:=h.scs
 have hs4:=h.scs
 refine t59.1 (by simp [Zn,Zy,Zh,Ze,Zm,Zg,Zd,Zo,Za,KFL,KF]) (by simp [KFL,KF]) ?_
 dsimp only [c59,r59,Zn,Zy,go_sem,rA,rM,rS]
 simp only [List.length_map]
 obtain ⟨W,hW⟩:∃ W,W=s.scenes.map (Zaz s p m):=⟨_,rfl⟩
 have hWl:W.length=s.scenes.length:=by rw [hW];simp
 refine Zd5 (Yg (UW [2,3,4,6,7,11,12,13] rfl) (Y7 7 1 3 rfl rfl)) (fun q:Nat × Nat=>[(13,I q.1),(7,.mr 2 q.2)])
  (fun q=>[(2,.row q.2 1 ((W.take q.1).map Zo) 3)]) (fun q=>q.1<=s.scenes.length) (fun q=>s.scenes.length - q.1) (0,0) (Nat.zero_le _) ?_ ?_
 . (refine Zk ?_ ?_ ?_ rfl rfl<;>dsimp only [Ze,Zm,Zg,Zh,Zd,Zo,Yj,id,go_sem,rA,rM,rS]<;>simp [Ze,Zm,Zg,Zh,Zd,Zo,Yj,Za,Zf,KFR,KFL,KF,Zc,mtO,nbr])
 rintro ⟨j,v⟩ hj
 simp only at hj
 dsimp only [go_sem,rA,rM,rS]
 by_cases hlt:j < s.scenes.length
 . refine Zu (by simpa using hlt) ?_
   dsimp only [go_sem,rA,rM,rS]
   refine Zr j hlt rfl ?_
   dsimp only [Zh,go_sem,rA,rM,rS]
   obtain ⟨hq,_⟩:=ZdO h hlt hm
   refine Zr m hq rfl ?_
   dsimp only [Zo,go_sem,rA,rM,rS]
   obtain ⟨hww,hwb⟩:=Ztx h hp hlt hm hq
   rw [hww]
   simp only [nbr]
   dsimp only [go_sem,rA,rM,rS]
   refine ⟨(by intro c hc;simp only [List.mem_singleton] at hc;subst hc;rfl),by simp;omega,?_⟩
   dsimp only [go_sem,rA,rM,rS]
   rw [Zi (n:=(j:Int)+1) (by omega) (by omega)]
   refine ⟨(j+1,v+1),hlt,by simp only;omega,?_⟩
   simp only
   have hWj:Zaz s p m s.scenes[j]=W[j]'(by omega):=by simp [hW]
   rw [hWj,List.take_succ_eq_append_getElem (by omega)]
   simp only [List.map_append,List.map_cons,List.map_nil]
   (refine Zk ?_ ?_ ?_ rfl rfl<;>dsimp only [Ze,Zm,Zg,Zh,Zd,Zo,Yj,id,go_sem,rA,rM,rS]<;>simp [Ze,Zm,Zg,Zh,Zd,Zo,Yj,Za,Zf,KFR,KFL,KF,Zc,mtO,nbr])
 refine Zx (by simp;omega) ?_
 dsimp only [go_sem,rA,rM,rS]
 rw [List.take_of_length_le (by omega)]
 refine gh (Zbf 7 2 v rfl rfl rfl rfl) ?_
 dsimp only [go_sem,rA,rM,rS]
 refine call (Zlr W (by omega) (by omega) _) ?_
 dsimp only [go_sem,rA,rM,rS]
 rw [hW];rfl
end Go.Proofs.YtiigiflofnjilaaGreat
namespace Go.Azalai
open Go.Sx
theorem Zbq {s:Season} {p:Plan}:∀ {l:List Scene} {i:Nat},(∀ x ∈ l,(XG s p x).1=0)->(Wi s p l i).1=0
 | [],_,_=>rfl
 | x :: r,i,h=>by
  simp only [Wi]
  rw [if_neg (by simp [h x (List.mem_cons_self ..)])]
  exact Zbq fun y hy=>h y (List.mem_cons_of_mem _ hy)
theorem YQ {s:Season} {p:Plan} (h:Zt s=true) (hp:YM s p=true):(ZM s p).2.2.2=0/\((ZM s p).1=0↔∀ x ∈ s.scenes,(XG s p x).1=0):=by
 have e:ZM s p=Wi s p s.scenes 0:=by unfold ZM;rw [if_neg (by simp [h]),if_neg (by simp [hp])]
 rw [e]
 exact ⟨Zf3,Zdi,Zbq⟩
open Go.Proofs.YtiigiflofnjilaaGreat
structure Bst where
 legs:List Nat
 an:Int
 sl:Int
 w:Int
deriving DecidableEq
def Xn (a:List Nat):List Int:=a.map fun n:Nat=>(n:Int)
def Bst.plan (q:Bst):Plan:=⟨Xn q.legs,q.an,q.sl⟩
def Yn (q p:Bst):Bool :=
 if q.w≠p.w then decide (q.w > p.w) else if q.an≠p.an then decide (q.an < p.an) else if q.sl≠p.sl then decide (q.sl < p.sl)
 else if q.legs.length≠p.legs.length then decide (q.legs.length < p.legs.length) else Vr q.legs p.legs
def Zkf (p q:Bst):Bst:=if Yn q p then q else p
def XS (s:Season) (to:Int) (a:List Nat) (k n:Int):Bst:=⟨a,n,k,ZlM s ⟨Xn a,n,k⟩ to⟩
def ZiG (s:Season) (x:Scene):List Draw->Int->Int
 | [],n=>n
 | d :: r,n=>ZiG s x r (if d.water > 0 then min n ((Zar s x ⟨0,d.well,⟨0,0⟩,⟨d.day,0⟩⟩).tdiv d.water) else n)
def Zs3 (s:Season) (a:List Int) (k:Int):List Scene->Int->Int
 | [],n=>n
 | x :: r,n=>if (XG s ⟨a,1,k⟩ x).1≠0 then 0 else Zs3 s a k r (ZiG s x (WN s ⟨a,1,k⟩ x) n)
def Zfg (s:Season) (a:List Int) (k:Int):Int:=Zs3 s a k s.scenes s.herd
def Zfl (s:Season) (to:Int) (a:List Nat) (k:Int):Nat->Bst->Bst
 | 0,b=>b
 | n+1,b=>Zfl s to a k n (Zkf b (XS s to a k (n+1:Nat)))
def Zra (s:Season) (to:Int) (a:List Nat) (b:Bst) (k:Nat):Bst:=Zfl s to a k (Zfg s (Xn a) k).toNat b
def ZBi (s:Season) (to:Int) (b:Bst) (a:List Nat):Bst:=(List.range 13).foldl (Zra s to a) b
def Zex (s:Season):List Nat->Bst->Option Bst
 | [],b=>some b
 | g :: r,b=>if Zdy s.land s.pace s.start g s.day s.till≠0 then none else Zex s r ((Zag s.land s.pace s.start g s.day s.till).foldl (ZBi s g) b)
def ZvB (s:Season):Option Bst:=Zex s (List.range s.land.wells.length) ⟨[],0,0,s.herd * s.sale⟩
def Zht (s:Season):Plan × Int × Int :=
 if Zt s=false then (⟨[],0,0⟩,0,90) else match ZvB s with
  | none=>(⟨[],0,0⟩,0,9)
  | some b=>(b.plan,b.w,0)
def Ze9 (s:Season) (x:Scene) (k:Int):List Span->Nat->Int->Int
 | [],_,e=>e
 | r :: l,i,e=>Ze9 s x k l (i+1) (if r.hi<=s.till then max e (k * ((x.prices[i]?).getD 0 - s.cost)) else e)
noncomputable def Zgu (s:Season):Int:=ZjW (s.scenes.map fun x=>s.herd * Ze9 s x (min 12 (s.breed.strong.lo.tdiv s.slab)) (Xt s.land s.pace s.start s.day) 0 s.sale)
noncomputable def Zb3 (s:Season):Int × Int:=if Zt s=false then (0,90) else (Zgu s,0)
theorem ZgD {s:Season} {x:Scene}:∀ {D:List Draw} {n m:Int},(m<=ZiG s x D n↔m<=n/\∀ d ∈ D,d.water > 0->m<=(Zar s x ⟨0,d.well,⟨0,0⟩,⟨d.day,0⟩⟩).tdiv d.water)
 | [],n,m=>by simp [ZiG]
 | d :: r,n,m=>by
  rw [ZiG,ZgD]
  simp only [List.mem_cons,forall_eq_or_imp]
  split
  . rename_i h
    constructor
    . rintro ⟨h1,h2⟩;exact ⟨by omega,fun _=>by omega,h2⟩
    . rintro ⟨h1,h2,h3⟩;exact ⟨by have:=h2 h;omega,h3⟩
  . rename_i h
    constructor
    . rintro ⟨h1,h2⟩;exact ⟨h1,fun q=>absurd q h,h2⟩
    . rintro ⟨h1,_,h3⟩;exact ⟨h1,h3⟩
theorem Zlv {s:Season} {x:Scene} (h:∀ st:Stop,0<=Zar s x st):∀ {D:List Draw} {n:Int},0<=n->0<=ZiG s x D n
 | [],n,hn=>hn
 | d :: r,n,hn=>by
  rw [ZiG]
  refine Zlv h ?_
  split
  . have:=Int.tdiv_nonneg (h ⟨0,d.well,⟨0,0⟩,⟨d.day,0⟩⟩) (show (0:Int)<=d.water by omega)
    omega
  . exact hn
theorem ZcZ {n:Int}:∀ {g:List (Int × Int)} {i:Nat},Zai n g i=none↔∀ q ∈ g,n * q.1<=q.2
 | [],_=>by simp [Zai]
 | p :: r,i=>by
  simp only [Zai,List.mem_cons,forall_eq_or_imp]
  split
  . rename_i h
    constructor
    . intro q;cases q
    . rintro ⟨q,_⟩;omega
  . rename_i h
    rw [ZcZ]
    exact ⟨fun q=>⟨by omega,q⟩,fun q=>q.2⟩
theorem Zt9 {n:Int} {g:Int × Int × List (Int × Int)}:(ZaV n g).1=0↔g.1=0/\∀ q ∈ g.2.2,n * q.1<=q.2:=by
 unfold ZaV
 rw [<- ZcZ (i:=0)]
 split
 . rename_i i h;rw [h];simp
 . rename_i h;rw [h];simp
theorem ZlW {s:Season} {a:List Int} {n k:Int} {x:Scene} (hn:n≠0):(XG s ⟨a,n,k⟩ x).1=0↔Vj s a=true/\(goF s x k (ZO s a)).1=0/\∀ q ∈ (goF s x k (ZO s a)).2.2,n * q.1<=q.2:=by
 unfold XG
 cases h:Vj s a with
 | false=>simp
 | true =>
  simp only [Bool.true_eq_false,if_false]
  rw [if_neg hn,Zt9]
  simp
theorem ZmG {s:Season} {a:List Int} {k:Int}:∀ {l:List Scene} {n:Int},0<=n->(∀ x ∈ l,∀ st:Stop,0<=Zar s x st)->0<=Zs3 s a k l n/\Zs3 s a k l n<=n
 | [],n,hn,_=>⟨hn,Int.le_refl _⟩
 | x :: r,n,hn,hh=>by
  rw [Zs3]
  split
  . omega
  . have h1:=Zlv (hh x (List.mem_cons_self ..)) (D:=WN s ⟨a,1,k⟩ x) hn
    have h2:ZiG s x (WN s ⟨a,1,k⟩ x) n<=n:=(ZgD.1 (Int.le_refl _)).1
    have:=ZmG (s:=s) (a:=a) (k:=k) h1 (fun y hy=>hh y (List.mem_cons_of_mem _ hy))
    omega
theorem ZcW (b:Bst):Yn b b=false:=by simp [Yn,WX]
theorem Zd7 {a b c:Bst} (h:Yn a b=true) (h':Yn b c=true):Yn a c=true:=by
 obtain ⟨al,aa,ak,aw⟩:=a;obtain ⟨bl,ba,bk,bw⟩:=b;obtain ⟨cl,ca,ck,cw⟩:=c
 simp only [Yn] at h h' ⊢
 by_cases e1:aw=bw
 . subst e1
   rw [if_neg (by simp)] at h
   by_cases e2:aw=cw
   . subst e2
     rw [if_neg (by simp)] at h' ⊢
     by_cases e3:aa=ba
     . subst e3
       rw [if_neg (by simp)] at h
       by_cases e4:aa=ca
       . subst e4
         rw [if_neg (by simp)] at h' ⊢
         by_cases e5:ak=bk
         . subst e5
           rw [if_neg (by simp)] at h
           by_cases e6:ak=ck
           . subst e6
             rw [if_neg (by simp)] at h' ⊢
             by_cases e7:al.length=bl.length
             . rw [if_neg (by simp [e7])] at h
               by_cases e8:al.length=cl.length
               . rw [if_neg (by omega)] at h' ⊢
                 exact WL h h'
               . rw [if_pos (by omega)] at h' ⊢
                 rw [decide_eq_true_eq] at h' ⊢;omega
             . rw [if_pos (by omega),decide_eq_true_eq] at h
               by_cases e8:bl.length=cl.length
               . rw [if_pos (by omega),decide_eq_true_eq];omega
               . rw [if_pos (by omega),decide_eq_true_eq] at h'
                 rw [if_pos (by omega),decide_eq_true_eq];omega
           . rw [if_pos e6] at h' ⊢;exact h'
         . rw [if_pos e5,decide_eq_true_eq] at h
           by_cases e6:bk=ck
           . subst e6;rw [if_pos e5,decide_eq_true_eq];exact h
           . rw [if_pos e6,decide_eq_true_eq] at h'
             rw [if_pos (by omega),decide_eq_true_eq];omega
       . rw [if_pos e4] at h' ⊢;exact h'
     . rw [if_pos e3,decide_eq_true_eq] at h
       by_cases e4:ba=ca
       . subst e4;rw [if_pos e3,decide_eq_true_eq];exact h
       . rw [if_pos e4,decide_eq_true_eq] at h'
         rw [if_pos (by omega),decide_eq_true_eq];omega
   . rw [if_pos e2] at h' ⊢;exact h'
 . rw [if_pos e1,decide_eq_true_eq] at h
   by_cases e2:bw=cw
   . subst e2;rw [if_pos e1,decide_eq_true_eq];exact h
   . rw [if_pos e2,decide_eq_true_eq] at h'
     rw [if_pos (by omega),decide_eq_true_eq];omega
structure Top (b0:Bst) (C:Bst->Prop) (b:Bst):Prop where
 is:b=b0\/C b
 init:Yn b0 b=false
 all:∀ q,C q->Yn q b=false
theorem Top.zero {b0:Bst}:Top b0 (fun _=>False) b0:=⟨.inl rfl,ZcW _,fun _ h=>h.elim⟩
theorem Top.congr {b0:Bst} {C C':Bst->Prop} {b:Bst} (h:Top b0 C b) (hc:∀ q,C' q↔C q):Top b0 C' b:=⟨h.is.imp id (hc b).2,h.init,fun q hq=>h.all q ((hc q).1 hq)⟩
theorem Top.take {b0:Bst} {C:Bst->Prop} {b:Bst} (h:Top b0 C b) (q:Bst):Top b0 (fun r=>C r\/r=q) (Zkf b q):=by
 unfold Zkf
 have up:∀ r,Yn r b=false->Yn q b=true->Yn r q=false:=fun r h1 h2=>by
  cases h3:Yn r q with
  | false=>rfl
  | true=>have:=Zd7 h3 h2;rw [h1] at this;cases this
 cases hq:Yn q b with
 | false =>
  simp only [Bool.false_eq_true,if_false]
  exact ⟨h.is.imp id .inl,h.init,fun r hr=>hr.elim (h.all r) (fun e=>e ▸ hq)⟩
 | true =>
  simp only [if_true]
  exact ⟨.inr (.inr rfl),up _ h.init hq,fun r hr=>hr.elim (fun q=>up r (h.all r q) hq) (fun e=>e ▸ ZcW _)⟩
theorem Top.fold {α : Type} {b0:Bst} {f:Bst->α->Bst} {P:α->Bst->Prop} (hf:∀ {C:Bst->Prop} {b:Bst} (x:α),Top b0 C b->Top b0 (fun r=>C r\/P x r) (f b x)) :
 ∀ {l:List α} {C:Bst->Prop} {b:Bst},Top b0 C b->Top b0 (fun r=>C r\/∃ x ∈ l,P x r) (l.foldl f b)
 | [],C,b,h=>h.congr fun q=>by simp
 | x :: r,C,b,h=>(Top.fold hf (l:=r) (hf x h)).congr fun q=>by
  simp only [List.mem_cons,exists_eq_or_imp,or_assoc]
theorem Zjd {x:Leg} {p:Span} {t t':Int} (h:GoodLeg x) (hp:ZX p=true) (ht:t<=t') (ht':t'<=100001):ZU false x p t<=ZU true x p t':=by
 have h1:=Zbo (k:=false) h hp ht
 have h2:=Zq4 (t:=t') h hp ht'
 have h3:=Zjo h hp
 simp only [ZU] at *;omega
def Trk (l:Land) (p:Span):Int->Int->Int->List Int->List Stop->Prop
 | _,_,_,[],[]=>True
 | v,a,b,i :: r,s :: ss=>∃ (k:Nat) (x:Leg),i=k/\l.legs[k]? = some x/\0<=Zl x v/\ZU true x p b<=100000 /\
  s=⟨k,Zl x v,⟨leK false x p a,leK true x p b⟩,⟨ZU false x p a,ZU true x p b⟩⟩/\Trk l p (Zl x v) (ZU false x p a) (ZU true x p b) r ss
 | _,_,_,_,_=>False
theorem Trk.len {l:Land} {p:Span}:∀ {legs:List Int} {ss:List Stop} {v a b:Int},Trk l p v a b legs ss->ss.length=legs.length
 | [],[],_,_,_,_=>rfl
 | i :: r,s :: ss,_,_,_,h=>by obtain ⟨_,_,_,_,_,_,_,h⟩:=h;simp [h.len]
 | [],_ :: _,_,_,_,h=>h.elim
 | _ :: _,[],_,_,_,h=>h.elim
theorem Trk.at {l:Land} {p:Span} (h:OkLP l p):∀ {legs:List Int} {ss:List Stop} {v a b:Int},Trk l p v a b legs ss->a<=b->b<=100000->∀ (i:Nat) (s:Stop),ss[i]? = some s ->
 ∃ c:List Nat,c.length=i+1/\legs.take (i+1)=c.map (fun n:Nat=>(n:Int))/\goW true l p v b c=some (s.well,s.arrives.hi)/\goW false l p v a c=some (s.well,s.arrives.lo)
 | [],[],_,_,_,_,_,_,i,s,hs=>by simp at hs
 | j :: r,s0 :: ss,v,a,b,q,hab,hb,i,s,hs=>by
  obtain ⟨k,x,rfl,hx,ho,hr,rfl,q⟩:=q
  have hm:=Zjd (h.leg hx) h.pace hab (by omega)
  cases i with
  | zero =>
   simp only [List.getElem?_cons_zero,Option.some.injEq] at hs
   subst hs
   refine ⟨[k],rfl,by simp,?_,?_⟩
   . simp only [goW,hx];rw [if_neg (by omega),if_neg (by omega)]
   . simp only [goW,hx];rw [if_neg (by omega),if_neg (by omega)]
  | succ i =>
   simp only [List.getElem?_cons_succ] at hs
   obtain ⟨c,h1,h2,h3,h4⟩:=Trk.at h q hm hr i s hs
   refine ⟨k :: c,by simp [h1],by simp [h2],?_,?_⟩
   . simp only [goW,hx];rw [if_neg (by omega),if_neg (by omega)];exact h3
   . simp only [goW,hx];rw [if_neg (by omega),if_neg (by omega)];exact h4
 | [],_ :: _,_,_,_,q,_,_,_,_,_=>q.elim
 | _ :: _,[],_,_,_,q,_,_,_,_,_=>q.elim
theorem ZjU {l:Land} {p:Span}:∀ {legs:List Int} {v a b:Int} {k:Nat} {acc ss:List Stop} {at':Int},X4 l v legs k=none->goS l p v a b legs k acc=(ss,at',0)->∃ tt,ss=acc ++ tt/\at'=0/\Trk l p v a b legs tt
 | [],v,a,b,k,acc,ss,at',_,h=>by
  simp only [goS,Prod.mk.injEq] at h
  exact ⟨[],by simp [h.1],h.2.1.symm,trivial⟩
 | i :: r,v,a,b,k,acc,ss,at',hb,h=>by
  simp only [X4] at hb
  by_cases he:WY l i v < 0
  . rw [if_pos he] at hb;cases hb
  rw [if_neg he] at hb
  obtain ⟨n,x,rfl,hn,hx,_,e⟩:=Zcq he
  simp only [goS,Int.toNat_natCast,hx] at h
  by_cases hr:ZU true x p b > 100000
  . rw [if_pos hr] at h;simp at h
  rw [if_neg hr] at h
  rw [e] at hb he
  obtain ⟨tt,e1,e2,e3⟩:=ZjU hb h
  exact ⟨_ :: tt,by rw [e1,List.append_assoc];rfl,e2,n,x,rfl,hx,by omega,by omega,rfl,e3⟩
theorem Zn1 {l:Land} {p:Span} {s day:Int} {legs:List Int} {ss:List Stop} {at':Int} (h:YZ l p s day legs=(ss,at',0)):at'=0/\Trk l p s day day legs ss:=by
 unfold YZ at h
 split at h
 . rename_i q;simp at h;exact absurd h.2.2 q
 split at h
 . simp at h
 split at h
 . simp at h
 split at h
 . simp at h
 . rename_i q
   obtain ⟨tt,rfl,e2,e3⟩:=ZjU q h
   exact ⟨e2,by simpa using e3⟩
theorem Zlj {l:Land} {p:Span}:∀ {c:List Nat} {v a b w u:Int} {k:Nat} {acc:List Stop},goW true l p v b c=some (w,u) ->
 X4 l v (c.map fun n:Nat=>(n:Int)) k=none/\∃ ss,goS l p v a b (c.map fun n:Nat=>(n:Int)) k acc=(ss,0,0)
 | [],v,a,b,w,u,k,acc,_=>⟨rfl,acc,rfl⟩
 | i :: c,v,a,b,w,u,k,acc,h=>by
  simp only [goW] at h
  cases hx:l.legs[i]? with
  | none=>rw [hx] at h;cases h
  | some x =>
   rw [hx] at h
   simp only at h
   by_cases ho:Zl x v < 0
   . rw [if_pos ho] at h;cases h
   rw [if_neg ho] at h
   by_cases hr:ZU true x p b > 100000
   . rw [if_pos hr] at h;cases h
   rw [if_neg hr] at h
   have hi:i < l.legs.length:=(List.getElem?_eq_some_iff.1 hx).1
   have he:WY l (i:Int) v=Zl x v:=by rw [Zbe hi,(List.getElem?_eq_some_iff.1 hx).2]
   obtain ⟨h1,_⟩:=Zlj (a:=ZU false x p a) (k:=k+1) (acc:=[]) h
   refine ⟨?_,?_⟩
   . simp only [List.map_cons,X4,he];rw [if_neg ho];exact h1
   . obtain ⟨_,ss,h2⟩:=Zlj (a:=ZU false x p a) (k:=k+1) (acc:=acc ++ [⟨i,Zl x v,⟨leK false x p a,leK true x p b⟩,⟨ZU false x p a,ZU true x p b⟩⟩]) h
     refine ⟨ss,?_⟩
     simp only [List.map_cons,goS,Int.toNat_natCast,hx]
     rw [if_neg hr];exact h2
theorem Zxr {l:Land} {p:Span} (h:OkLP l p) {s day:Int} (hd:0<=day) (hd':day<=100000) (h0:0<=s) (h1:s < l.wells.length) {c:List Nat} {w u:Int} (hc:c.length<=24) (hw:goW true l p s day c=some (w,u)) :
 ∃ ss,YZ l p s day (c.map fun n:Nat=>(n:Int))=(ss,0,0):=by
 obtain ⟨e1,ss,e2⟩:=Zlj (a:=day) (k:=0) (acc:=[]) hw
 refine ⟨ss,?_⟩
 unfold YZ
 rw [if_neg (by simp [Zay,h.land,h.pace]),if_neg (by simp [inR];omega),if_neg (by simp;omega),e1]
 exact e2
theorem Gr.ends {l:Land} {p:Span} {s day to best:Int} {n0:Nat} (hg:OkLP l p) (hd:0<=day) (hd':day<=100000) (h0:0<=s) (h1:s < l.wells.length) (hb:best=YV true l p s day to) (hb':best<=100000) :
 ∀ {n:Nat} {v t:Int} {out:List Nat},Gr l p s day to best n0 n v t out->∃ v' t' out',Gr l p s day to best n0 0 v' t' out'
 | 0,v,t,out,h=>⟨v,t,out,h⟩
 | n+1,v,t,out,h=>by
  obtain ⟨i,_,hf⟩:=h.ex hg hd hd' h0 h1 hb hb'
  obtain ⟨m,⟨x,g1,g2,g3,g4⟩,hm⟩:=Go.Sx.least_ex (fun i=>Fit l p to best n v t i) ⟨i,hf⟩
  exact Gr.ends hg hd hd' h0 h1 hb hb' (h.step hg hd hd' h0 h1 hb g1 g2 g3 g4 fun j hj hq=>by have:=hm j hq;omega)
end Go.Azalai
