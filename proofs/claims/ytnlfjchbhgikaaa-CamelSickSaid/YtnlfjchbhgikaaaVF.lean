/- Walks and plain laws that lead to the given statement, part 6 of 8. -/
import Derived.Test.YtnlfjchbhgikaaaVE
import Derived.Test.YtnlfjchbhgikaaaProg
import Derived.Laws.BytesString
open Nat renaming reduceAdd→rA,reduceMul→rM,reduceSub→rS,beq_refl→nbr
namespace Go.Azalai
structure Span where
 lo:Int
 hi:Int
deriving DecidableEq
structure Breed where
 full:Int
 fed:Int
 rest:Span
 heat:Span
 toil:Span
 burn:Span
 rub:Span
 milk:Span
 heal:Int
 strong:Span
deriving DecidableEq
structure Camel where
 water:Span
 fat:Span
 sore:Span
 milks:Bool
deriving DecidableEq
structure March where
 hours:Int
 load:Int
 heat:Span
 grass:Span
 drinks:Span
deriving DecidableEq
def inR (lo hi n:Int):Bool:=decide (lo ≤ n ∧ n ≤ hi)
def okSp (lo hi:Int) (s:Span):Bool:=decide (lo ≤ s.lo ∧ s.lo ≤ s.hi ∧ s.hi ≤ hi)
def okBreed (b:Breed):Bool :=
 inR 1 1000000 b.full && inR 1 1000000 b.fed && inR 0 1000 b.heal && okSp 0 1000000 b.strong && okSp 0 100000 b.rest && okSp 0 100000 b.heat && okSp 0 100000 b.toil && okSp 0 100000 b.burn && okSp 0 100000 b.rub && okSp 0 100000 b.milk
def okCamel (b:Breed) (c:Camel):Bool:=okSp 0 b.full c.water && okSp 0 b.fed c.fat && okSp 0 1000 c.sore
def okMarch (m:March):Bool:=inR 0 24 m.hours && inR 0 1000000 m.load && okSp 0 60 m.heat && okSp 0 1000000 m.grass && okSp 0 1000000 m.drinks
def errB (b:Breed):Int:=if okBreed b = true then 0 else 10
def errC (b:Breed) (c:Camel):Int:=if okBreed b = false then 10 else if okCamel b c = false then 11 else 0
def upF (a b:Int):Int:=(a + b - 1).tdiv b
def zeroS:Span:=⟨0,0⟩
def fitF (b:Breed) (c:Camel):Span :=
 ⟨min 1000 (min ((2000 * c.water.lo).tdiv b.full) (min ((2000 * c.fat.lo).tdiv b.fed) (1000 - c.sore.hi))),min 1000 (min (upF (2000 * c.water.hi) b.full) (min (upF (2000 * c.fat.hi) b.fed) (1000 - c.sore.lo)))⟩
def carF (b:Breed) (c:Camel):Span:=⟨(b.strong.lo * (fitF b c).lo).tdiv 1000,upF (b.strong.hi * (fitF b c).hi) 1000⟩
def workF (m:March):Int:=m.hours * (100000 + m.load)
def costW (b:Breed) (milks:Bool) (m:March):Span :=
 ⟨b.rest.lo + b.heat.lo * max 0 (m.heat.lo - 20) + (b.toil.lo * workF m).tdiv 100000 + (if milks then b.milk.lo else 0),b.rest.hi + b.heat.hi * max 0 (m.heat.hi - 20) + upF (b.toil.hi * workF m) 100000 + (if milks then b.milk.hi else 0)⟩
def costF (b:Breed) (m:March):Span:=⟨(b.burn.lo * workF m).tdiv 100000,upF (b.burn.hi * workF m) 100000⟩
theorem tdiv_bd {a A d:Int} (h0:0 ≤ a) (h1:a ≤ A) (hd:1 ≤ d):0 ≤ a.tdiv d ∧ a.tdiv d ≤ A :=
 ⟨Int.tdiv_nonneg h0 (by omega),Int.le_trans (Int.tdiv_le_self d h0) h1⟩
theorem up_bd {a A d:Int} (h0:0 ≤ a) (h1:a ≤ A) (hd:1 ≤ d):0 ≤ upF a d ∧ upF a d ≤ A + d:=by
 have:=tdiv_bd (a:=a + d - 1) (A:=A + d) (d:=d) (by omega) (by omega) hd
 exact this
def idxF {α : Type} (g:α → Bool):List α → Nat → Int
 | [],_=>-1
 | x :: l,k=>if g x then k else idxF g l (k + 1)
theorem idxF_ge {α : Type} (g:α → Bool):∀ (l:List α) (k:Nat),decide (idxF g l k ≥ 0) = l.any g
 | [],k=>by simp [idxF]
 | x :: l,k=>by
  simp only [idxF,List.any_cons]
  by_cases hg:g x = true
  · simp [hg]
  · simpa [hg] using idxF_ge g l (k + 1)
end Go.Azalai
set_option maxRecDepth 100000
set_option maxHeartbeats 4000000
namespace Go.Proofs.Ytnlfjchbhgikaaa
open Go Go.Sx Go.Azalai
def intL (n:Int):List SV:=[I n]
def spanL (s:Span):List SV:=[I s.lo,I s.hi]
def breedL (b:Breed):List SV:=[I b.full,I b.fed,I b.rest.lo,I b.rest.hi,I b.heat.lo,I b.heat.hi,I b.toil.lo,I b.toil.hi,I b.burn.lo,I b.burn.hi,I b.rub.lo,I b.rub.hi,I b.milk.lo,I b.milk.hi,I b.heal,I b.strong.lo,I b.strong.hi]
def camelL (c:Camel):List SV:=[I c.water.lo,I c.water.hi,I c.fat.lo,I c.fat.hi,I c.sore.lo,I c.sore.hi,B c.milks]
def beastL (b:Breed) (c:Camel):List SV:=[I b.full,I b.fed,I b.rest.lo,I b.rest.hi,I b.heat.lo,I b.heat.hi,I b.toil.lo,I b.toil.hi,I b.burn.lo,I b.burn.hi,I b.rub.lo,I b.rub.hi,I b.milk.lo,I b.milk.hi,I b.heal,I b.strong.lo,I b.strong.hi,I c.water.lo,I c.water.hi,I c.fat.lo,I c.fat.hi,I c.sore.lo,I c.sore.hi,B c.milks]
def marchL (m:March):List SV:=[I m.hours,I m.load,I m.heat.lo,I m.heat.hi,I m.grass.lo,I m.grass.hi,I m.drinks.lo,I m.drinks.hi]
theorem idxF_any {α : Type} (g:α → Bool) (l:List α):decide (idxF g l 0 ≥ 0) = l.any g:=idxF_ge g l 0
theorem idx101 (h:Nat) (caps:List SV) (hk:KFL caps) (g:Int → Bool) (l:List Int) (hg:∀ x ∈ l,Ct Try.prog h (I x :: caps) (B (g x))) (hl:l.length < 4611686018427387904) {c:Bool} :
 Ct Try.prog 101 [.sl c 1 (l.map intL),.cl h caps] (I (idxF g l 0)):=by
 refine t101 ⟨by simp [KF,KFR_iff,KFL,intL],hk,trivial⟩ (by simp [KF]) ?_
 dsimp only [c101,r101,go_sem,rA,rM,rS]
 refine loopO (fun k:Nat=>[(8,I k)]) (fun _=>[]) (fun k=>k ≤ l.length ∧ idxF g (l.drop k) k = idxF g l 0) (fun k=>l.length - k) 0 ⟨Nat.zero_le _,rfl⟩ ?_ ?_
 · (refine ent_id ?_ ?_ ?_ rfl rfl <;> dsimp only [intL,hk,id,go_sem,rA,rM,rS] <;> simp [intL,hk,KFR_iff,KFR_app,KFR,KFL,KF,mtL_same,mtO,nbr])
 · intro k ⟨hk',hi⟩
   dsimp only [go_sem,rA,rM,rS]
   refine br ?_ ?_
   · intro hlt
     have hlt:k < l.length:=by simpa using hlt
     dsimp only [go_sem,rA,rM,rS]
     refine ixs_map k hlt rfl ?_
     dsimp only [intL,go_sem,rA,rM,rS]
     refine call (hg l[k] (List.getElem_mem _)) ?_
     dsimp only [go_sem,rA,rM,rS]
     refine br ?_ ?_
     · intro hgx
       dsimp only [go_sem,rA,rM,rS]
       rw [← hi,List.drop_eq_getElem_cons hlt]
       simp [idxF,hgx]
     · intro hgx
       dsimp only [go_sem,rA,rM,rS]
       refine ⟨k + 1,⟨by omega,?_⟩,by omega,?_⟩
       · rw [← hi,List.drop_eq_getElem_cons hlt];simp [idxF,hgx]
       · rw [w64_in (by omega) (by omega)]
         (refine ent_id ?_ ?_ ?_ rfl rfl <;> dsimp only [intL,hk,id,go_sem,rA,rM,rS] <;> simp [intL,hk,KFR_iff,KFR_app,KFR,KFL,KF,mtL_same,mtO,nbr])
   · intro hlt
     have hlt:k = l.length:=by simp at hlt;omega
     dsimp only [go_sem,rA,rM,rS]
     rw [← hi,hlt];simp [idxF]
theorem con91 (h:Nat) (caps:List SV) (hk:KFL caps) (g:Int → Bool) (l:List Int) (hg:∀ x ∈ l,Ct Try.prog h (I x :: caps) (B (g x))) (hl:l.length < 4611686018427387904) {c:Bool} :
 Ct Try.prog 91 [.sl c 1 (l.map intL),.cl h caps] (B (l.any g)):=by
 refine t91 ⟨by simp [KF,KFR_iff,KFL,intL],hk,trivial⟩ (by simp [KF]) ?_
 dsimp only [c91,r91,go_sem,rA,rM,rS]
 refine call (idx101 h caps hk g l hg hl) ?_
 dsimp only [go_sem,rA,rM,rS]
 rw [idxF_any]
theorem idx102 (h:Nat) (caps:List SV) (hk:KFL caps) (g:Span → Bool) (l:List Span) (hg:∀ x ∈ l,Ct Try.prog h (.agg (spanL x) :: caps) (B (g x))) (hl:l.length < 4611686018427387904) {c:Bool} :
 Ct Try.prog 102 [.sl c 2 (l.map spanL),.cl h caps] (I (idxF g l 0)):=by
 refine t102 ⟨by simp [KF,KFR_iff,KFL,spanL],hk,trivial⟩ (by simp [KF]) ?_
 dsimp only [c102,r102,go_sem,rA,rM,rS]
 refine loopO (fun k:Nat=>[(8,I k)]) (fun _=>[]) (fun k=>k ≤ l.length ∧ idxF g (l.drop k) k = idxF g l 0) (fun k=>l.length - k) 0 ⟨Nat.zero_le _,rfl⟩ ?_ ?_
 · (refine ent_id ?_ ?_ ?_ rfl rfl <;> dsimp only [spanL,hk,id,go_sem,rA,rM,rS] <;> simp [spanL,hk,KFR_iff,KFR_app,KFR,KFL,KF,mtL_same,mtO,nbr])
 · intro k ⟨hk',hi⟩
   dsimp only [go_sem,rA,rM,rS]
   refine br ?_ ?_
   · intro hlt
     have hlt:k < l.length:=by simpa using hlt
     dsimp only [go_sem,rA,rM,rS]
     refine ixs_map k hlt rfl ?_
     dsimp only [spanL,go_sem,rA,rM,rS]
     refine call (hg l[k] (List.getElem_mem _)) ?_
     dsimp only [go_sem,rA,rM,rS]
     refine br ?_ ?_
     · intro hgx
       dsimp only [go_sem,rA,rM,rS]
       rw [← hi,List.drop_eq_getElem_cons hlt]
       simp [idxF,hgx]
     · intro hgx
       dsimp only [go_sem,rA,rM,rS]
       refine ⟨k + 1,⟨by omega,?_⟩,by omega,?_⟩
       · rw [← hi,List.drop_eq_getElem_cons hlt];simp [idxF,hgx]
       · rw [w64_in (by omega) (by omega)]
         (refine ent_id ?_ ?_ ?_ rfl rfl <;> dsimp only [spanL,hk,id,go_sem,rA,rM,rS] <;> simp [spanL,hk,KFR_iff,KFR_app,KFR,KFL,KF,mtL_same,mtO,nbr])
   · intro hlt
     have hlt:k = l.length:=by simp at hlt;omega
     dsimp only [go_sem,rA,rM,rS]
     rw [← hi,hlt];simp [idxF]
theorem con93 (h:Nat) (caps:List SV) (hk:KFL caps) (g:Span → Bool) (l:List Span) (hg:∀ x ∈ l,Ct Try.prog h (.agg (spanL x) :: caps) (B (g x))) (hl:l.length < 4611686018427387904) {c:Bool} :
 Ct Try.prog 93 [.sl c 2 (l.map spanL),.cl h caps] (B (l.any g)):=by
 refine t93 ⟨by simp [KF,KFR_iff,KFL,spanL],hk,trivial⟩ (by simp [KF]) ?_
 dsimp only [c93,r93,go_sem,rA,rM,rS]
 refine call (idx102 h caps hk g l hg hl) ?_
 dsimp only [go_sem,rA,rM,rS]
 rw [idxF_any]
theorem within_ok (n lo hi:Int):Ct Try.prog 88 [I n,I lo,I hi] (B (inR lo hi n)):=by
 refine t88 (by simp [KFL,KF]) (by simp [KFL,KF]) ?_
 dsimp only [c88,r88,go_sem,rA,rM,rS]
 refine gb ?_;dsimp only [go_sem,rA,rM,rS]
 refine gb ?_;dsimp only [go_sem,rA,rM,rS]
 refine gb ?_;dsimp only [go_sem,rA,rM,rS]
 simp [inR]
theorem spanned_ok (s:Span) (lo hi:Int):Ct Try.prog 87 [.agg (spanL s),I lo,I hi] (B (okSp lo hi s)):=by
 refine t87 (by simp [spanL,KFL,KF]) (by simp [KFL,KF]) ?_
 dsimp only [c87,r87,spanL,go_sem,rA,rM,rS]
 refine call (within_ok _ _ _) ?_
 dsimp only [go_sem,rA,rM,rS]
 repeat (refine gb ?_;dsimp only [go_sem,rA,rM,rS])
 (simp only [okSp,inR,Option.some.injEq,SV.v.injEq,Value.bool.injEq] <;> grind)
theorem from1_ok (lo hi x:Int):Ct Try.prog 92 [I x,.ps [I lo] 0,.ps [I hi] 0] (B (!inR lo hi x)):=by
 refine t92 (by simp [KFL,KF]) (by simp [KFL,KF]) ?_
 dsimp only [c92,r92,go_sem,rA,rM,rS]
 repeat (refine gb ?_;dsimp only [go_sem,rA,rM,rS])
 (simp only [inR,Option.some.injEq,SV.v.injEq,Value.bool.injEq] <;> grind)
theorem from_any (lo hi:Int) (l:List Int) (hl:l.length < 4611686018427387904) (c:Bool):Ct Try.prog 64 [I lo,I hi,.sl c 1 (l.map intL)] (B (l.all (inR lo hi))):=by
 refine t64 (by simp [KFR_iff,intL,KFL,KF]) (by simp [KFL,KF]) ?_
 dsimp only [c64,r64,go_sem,rA,rM,rS]
 refine callv (by simp [FLT]) (res:=B (l.any fun x=>!inR lo hi x)) ?_ ?_
 · dsimp only [go_sem,rA,rM,rS]
   exact con91 92 [.ps [I lo] 0,.ps [I hi] 0] (by simp [KFL,KF]) (fun x=>!inR lo hi x) l (fun x _=>from1_ok lo hi x) hl
 · dsimp only [go_sem,rA,rM,rS]
   simp [List.all_eq_not_any_not]
theorem from1 (lo hi a:Int) (c:Bool):Ct Try.prog 64 [I lo,I hi,.sl c 1 [[I a]]] (B (inR lo hi a)):=by
 have:=from_any lo hi [a] (by simp) c
 simpa [intL] using this
theorem from2 (lo hi a b:Int) (c:Bool):Ct Try.prog 64 [I lo,I hi,.sl c 1 [[I a],[I b]]] (B (inR lo hi a && inR lo hi b)):=by
 have:=from_any lo hi [a,b] (by simp) c
 simpa [intL] using this
theorem ordered1_ok (lo hi:Int) (s:Span):Ct Try.prog 94 [.agg (spanL s),.ps [I lo] 0,.ps [I hi] 0] (B (!okSp lo hi s)):=by
 refine t94 (by simp [spanL,KFL,KF]) (by simp [KFL,KF]) ?_
 dsimp only [c94,r94,spanL,go_sem,rA,rM,rS]
 repeat (first | (refine gb ?_;dsimp only [go_sem,rA,rM,rS]) | (refine call (from2 _ _ _ _ _) ?_;dsimp only [go_sem,rA,rM,rS]))
 (simp only [okSp,inR,Option.some.injEq,SV.v.injEq,Value.bool.injEq] <;> grind)
theorem ordered_any (lo hi:Int) (l:List Span) (hl:l.length < 4611686018427387904) (c:Bool):Ct Try.prog 65 [I lo,I hi,.sl c 2 (l.map spanL)] (B (l.all (okSp lo hi))):=by
 refine t65 (by simp [KFR_iff,spanL,KFL,KF]) (by simp [KFL,KF]) ?_
 dsimp only [c65,r65,go_sem,rA,rM,rS]
 refine callv (by simp [FLT]) (res:=B (l.any fun x=>!okSp lo hi x)) ?_ ?_
 · dsimp only [go_sem,rA,rM,rS]
   exact con93 94 [.ps [I lo] 0,.ps [I hi] 0] (by simp [KFL,KF]) (fun x=>!okSp lo hi x) l (fun x _=>ordered1_ok lo hi x) hl
 · dsimp only [go_sem,rA,rM,rS]
   simp [List.all_eq_not_any_not]
theorem ordered1 (lo hi:Int) (s:Span) (c:Bool):Ct Try.prog 65 [I lo,I hi,.sl c 2 [[I s.lo,I s.hi]]] (B (okSp lo hi s)):=by
 have:=ordered_any lo hi [s] (by simp) c
 simpa [spanL] using this
theorem ordered2 (lo hi:Int) (s t:Span) (c:Bool):Ct Try.prog 65 [I lo,I hi,.sl c 2 [[I s.lo,I s.hi],[I t.lo,I t.hi]]] (B (okSp lo hi s && okSp lo hi t)):=by
 have:=ordered_any lo hi [s,t] (by simp) c
 simpa [spanL] using this
theorem ordered6 (lo hi:Int) (a b c d e f:Span) (k:Bool):Ct Try.prog 65 [I lo,I hi,.sl k 2 [[I a.lo,I a.hi],[I b.lo,I b.hi],[I c.lo,I c.hi],[I d.lo,I d.hi],[I e.lo,I e.hi],[I f.lo,I f.hi]]]
 (B (okSp lo hi a && (okSp lo hi b && (okSp lo hi c && (okSp lo hi d && (okSp lo hi e && okSp lo hi f)))))):=by
 have:=ordered_any lo hi [a,b,c,d,e,f] (by simp) k
 simpa [spanL] using this
theorem checkBreed_ok (b:Breed):Ct Try.prog 20 [.agg (breedL b)] (I (errB b)):=by
 refine t20 (by simp [breedL,KFL,KF]) (by simp [KFL,KF]) ?_
 dsimp only [c20,r20,breedL,go_sem,rA,rM,rS]
 repeat (first | (refine gb ?_;dsimp only [go_sem,rA,rM,rS]) | (refine call (from1 _ _ _ _) ?_;dsimp only [go_sem,rA,rM,rS]) | (refine call (from2 _ _ _ _ _) ?_;dsimp only [go_sem,rA,rM,rS]) | (refine call (ordered6 _ _ b.rest b.heat b.toil b.burn b.rub b.milk _) ?_;dsimp only [go_sem,rA,rM,rS]) | (refine call (ordered1 _ _ b.strong _) ?_;dsimp only [go_sem,rA,rM,rS]))
 refine br ?_ ?_
 · intro h
   dsimp only [go_sem,rA,rM,rS]
   have:okBreed b = false:=by simp only [okBreed];grind
   simp [errB,this]
 · intro h
   dsimp only [go_sem,rA,rM,rS]
   have:okBreed b = true:=by simp only [okBreed];grind
   simp [errB,this]
theorem checkCamel_ok (b:Breed) (c:Camel):Ct Try.prog 22 [.agg (breedL b),.agg (camelL c)] (I (errC b c)):=by
 refine t22 (by simp [breedL,camelL,KFL,KF]) (by simp [KFL,KF]) ?_
 dsimp only [c22,r22,breedL,camelL,go_sem,rA,rM,rS]
 refine call (checkBreed_ok b) ?_
 dsimp only [go_sem,rA,rM,rS]
 by_cases hb:okBreed b = true
 case neg =>
  refine br_t (by simp [errB,hb]) ?_
  dsimp only [go_sem,rA,rM,rS]
  simp [errB,errC,hb]
 refine br_f (by simp [errB,hb]) ?_
 dsimp only [go_sem,rA,rM,rS]
 repeat (first | (refine gb ?_;dsimp only [go_sem,rA,rM,rS]) | (refine call (ordered1 _ _ c.water _) ?_;dsimp only [go_sem,rA,rM,rS]) | (refine call (ordered1 _ _ c.fat _) ?_;dsimp only [go_sem,rA,rM,rS]) | (refine call (ordered1 _ _ c.sore _) ?_;dsimp only [go_sem,rA,rM,rS]))
 refine br ?_ ?_
 · intro h
   dsimp only [go_sem,rA,rM,rS]
   have:okCamel b c = false:=by simp only [okCamel];grind
   simp [errC,this,hb]
 · intro h
   dsimp only [go_sem,rA,rM,rS]
   have:okCamel b c = true:=by simp only [okCamel];grind
   simp [errC,this,hb]
theorem checkDays_ok (l:List March) (hl:l.length < 4611686018427387904) (c:Bool):Ct Try.prog 59 [.sl c 8 (l.map marchL)] (I (if l.all okMarch = true then 0 else 12)):=by
 refine t59 (by simp [marchL,KFR_iff,KFL,KF]) (by simp [KFL,KF]) ?_
 dsimp only [c59,r59,go_sem,rA,rM,rS]
 refine loopO (fun k:Nat=>[(7,I k)]) (fun _=>[]) (fun k=>k ≤ l.length ∧ (l.drop k).all okMarch = l.all okMarch) (fun k=>l.length - k) 0 ⟨Nat.zero_le _,rfl⟩ ?_ ?_
 · (refine ent_id ?_ ?_ ?_ rfl rfl <;> dsimp only [marchL,id,go_sem,rA,rM,rS] <;> simp [marchL,KFR_iff,KFR_app,KFR,KFL,KF,mtL_same,mtO,nbr])
 intro k ⟨hk,hi⟩
 dsimp only [go_sem,rA,rM,rS]
 by_cases hlt:k < l.length
 · refine br_t (by simpa using hlt) ?_
   dsimp only [go_sem,rA,rM,rS]
   refine ixs_map k hlt rfl ?_
   dsimp only [marchL,go_sem,rA,rM,rS]
   repeat (first | (refine gb ?_;dsimp only [go_sem,rA,rM,rS]) | (refine call (from1 _ _ _ _) ?_;dsimp only [go_sem,rA,rM,rS]) | (refine call (ordered1 _ _ l[k].heat _) ?_;dsimp only [go_sem,rA,rM,rS]) | (refine call (ordered2 _ _ l[k].grass l[k].drinks _) ?_;dsimp only [go_sem,rA,rM,rS]))
   rw [List.drop_eq_getElem_cons hlt,List.all_cons] at hi
   refine br ?_ ?_
   · intro h
     dsimp only [go_sem,rA,rM,rS]
     have:okMarch l[k] = false:=by simp only [okMarch];grind
     rw [← hi,this];rfl
   · intro h
     dsimp only [go_sem,rA,rM,rS]
     have:okMarch l[k] = true:=by simp only [okMarch];grind
     rw [this,Bool.true_and] at hi
     rw [w64_in (n:=(k:Int) + 1) (by omega) (by omega)]
     refine ⟨k + 1,⟨hlt,hi⟩,by omega,?_⟩
     (refine ent_id ?_ ?_ ?_ rfl rfl <;> dsimp only [marchL,id,go_sem,rA,rM,rS] <;> simp [marchL,KFR_iff,KFR_app,KFR,KFL,KF,mtL_same,mtO,nbr])
 · refine br_f (by simp;omega) ?_
   dsimp only [go_sem,rA,rM,rS]
   have hke:k = l.length:=by omega
   subst hke
   rw [List.drop_length] at hi
   rw [← hi];rfl
theorem checkDay1 (m:March) (c:Bool):Ct Try.prog 59 [.sl c 8 [marchL m]] (I (if okMarch m = true then 0 else 12)):=by
 have:=checkDays_ok [m] (by simp) c
 simpa using this
end Go.Proofs.Ytnlfjchbhgikaaa
set_option maxRecDepth 100000
set_option maxHeartbeats 4000000
namespace Go.Proofs.Ytnlfjchbhgikaaa
open Go Go.Sx Go.Azalai
theorem up_wrap {a b A:Int} (h0:0 ≤ a) (h1:a ≤ A) (hA:A ≤ 1000000000000000) (hb:1 ≤ b) (hb2:b ≤ 1000000000) :
 IntKind.i64.wrap (a + b) = a + b ∧ IntKind.i64.wrap (a + b - 1) = a + b - 1 ∧ IntKind.i64.wrap ((a + b - 1).tdiv b) = upF a b:=by
 have:=up_bd h0 h1 hb
 refine ⟨w64_in (by omega) (by omega),w64_in (by omega) (by omega),?_⟩
 unfold upF at *
 exact w64_in (by omega) (by omega)
theorem ceil_ok (a b:Int) (h0:0 ≤ a) (h1:a ≤ 1000000000000000) (hb:1 ≤ b) (hb2:b ≤ 1000000000):Ct Try.prog 90 [I a,I b] (I (upF a b)):=by
 obtain ⟨q1,q2,q3⟩:=up_wrap h0 h1 (Int.le_refl _) hb hb2
 refine t90 (by simp [KFL,KF]) (by simp [KFL,KF]) ?_
 dsimp only [c90,r90,go_sem,rA,rM,rS]
 simp only [q1,q2]
 refine div0 (by omega) ?_
 dsimp only [go_sem,rA,rM,rS]
 rw [q3]
def scl (s:Span) (b n:Int):Span:=⟨(s.lo * n).tdiv b,upF (s.hi * n) b⟩
theorem scaled1 (s:Span) (b n A:Int) (c:Bool) (h1:0 ≤ s.lo) (h2:s.lo ≤ s.hi) (h3:0 ≤ n) (h4:s.hi * n ≤ 100000000000000) (hb:1 ≤ b) (hb2:b ≤ 1000000000) :
 Ct Try.prog 89 [.agg (spanL s),I b,.sl c 1 [[I n]]] (.agg (spanL (scl s b n))):=by
 have k1:0 ≤ s.lo * n:=Int.mul_nonneg h1 h3
 have k2:s.lo * n ≤ s.hi * n:=Int.mul_le_mul_of_nonneg_right h2 h3
 refine t89 (by simp [spanL,KFR,KFL,KF]) (by simp [spanL,KFL,KF]) ?_
 dsimp only [c89,r89,spanL,go_sem,rA,rM,rS]
 refine unroll 2 ?_
 dsimp only [rnds_succ,go_sem,rA,rM,rS]
 refine br_t (by decide) ?_
 dsimp only [rnds_succ,go_sem,rA,rM,rS]
 refine ixs 0 [I n] rfl rfl ?_
 dsimp only [rnds_succ,go_sem,rA,rM,rS]
 refine br_f (by decide) ?_
 dsimp only [go_sem,rA,rM,rS]
 rw [w64_in (n:=s.lo * n) (by omega) (by omega),w64_in (n:=s.hi * n) (by omega) (by omega)]
 refine div0 (by omega) ?_
 dsimp only [go_sem,rA,rM,rS]
 refine call (ceil_ok _ _ (by omega) (by omega) hb hb2) ?_
 dsimp only [go_sem,rA,rM,rS]
 have:=tdiv_bd k1 (Int.le_trans k2 h4) hb
 rw [w64_in (n:=(s.lo * n).tdiv b) (by omega) (by omega)]
 rfl
theorem scaled2 (s:Span) (b n m A:Int) (c:Bool) (h1:0 ≤ s.lo) (h2:s.lo ≤ s.hi) (h3:0 ≤ n) (h3':0 ≤ m) (h4:s.hi * n ≤ 100000000000000) (h5:s.hi * n * m ≤ 100000000000000) (hb:1 ≤ b) (hb2:b ≤ 1000000000) :
 Ct Try.prog 89 [.agg (spanL s),I b,.sl c 1 [[I n],[I m]]] (.agg (spanL ⟨(s.lo * n * m).tdiv b,upF (s.hi * n * m) b⟩)):=by
 have k1:0 ≤ s.lo * n:=Int.mul_nonneg h1 h3
 have k2:s.lo * n ≤ s.hi * n:=Int.mul_le_mul_of_nonneg_right h2 h3
 have k3:0 ≤ s.lo * n * m:=Int.mul_nonneg k1 h3'
 have k4:s.lo * n * m ≤ s.hi * n * m:=Int.mul_le_mul_of_nonneg_right k2 h3'
 refine t89 (by simp [spanL,KFR,KFL,KF]) (by simp [spanL,KFL,KF]) ?_
 dsimp only [c89,r89,spanL,go_sem,rA,rM,rS]
 refine unroll 3 ?_
 dsimp only [rnds_succ,go_sem,rA,rM,rS]
 refine br_t (by decide) ?_
 dsimp only [rnds_succ,go_sem,rA,rM,rS]
 refine ixs 0 [I n] rfl rfl ?_
 dsimp only [rnds_succ,go_sem,rA,rM,rS]
 refine br_t (by decide) ?_
 dsimp only [rnds_succ,go_sem,rA,rM,rS]
 refine ixs 1 [I m] rfl rfl ?_
 dsimp only [rnds_succ,go_sem,rA,rM,rS]
 refine br_f (by decide) ?_
 dsimp only [go_sem,rA,rM,rS]
 rw [w64_in (n:=s.lo * n) (by omega) (by omega),w64_in (n:=s.hi * n) (by omega) (by omega),w64_in (n:=s.lo * n * m) (by omega) (by omega),w64_in (n:=s.hi * n * m) (by omega) (by omega)]
 refine div0 (by omega) ?_
 dsimp only [go_sem,rA,rM,rS]
 refine call (ceil_ok _ _ (by omega) (by omega) hb hb2) ?_
 dsimp only [go_sem,rA,rM,rS]
 have:=tdiv_bd k3 (Int.le_trans k4 h5) hb
 rw [w64_in (n:=(s.lo * n * m).tdiv b) (by omega) (by omega)]
def bdS (A:Int) (s:Span):Prop:=0 ≤ s.lo ∧ s.lo ≤ A ∧ 0 ≤ s.hi ∧ s.hi ≤ A
theorem plus2 (s t:Span) (c:Bool) (h1:bdS 1000000000000000 s) (h2:bdS 1000000000000000 t):Ct Try.prog 72 [.sl c 2 [[I s.lo,I s.hi],[I t.lo,I t.hi]]] (.agg (spanL ⟨s.lo + t.lo,s.hi + t.hi⟩)):=by
 unfold bdS at h1 h2
 refine t72 (by simp [KFR,KFL,KF]) (by simp [spanL,KFL,KF]) ?_
 dsimp only [c72,r72,spanL,go_sem,rA,rM,rS]
 refine unroll 3 ?_
 dsimp only [rnds_succ,go_sem,rA,rM,rS]
 refine br_t (by decide) ?_
 dsimp only [rnds_succ,go_sem,rA,rM,rS]
 refine ixs 0 [I s.lo,I s.hi] rfl rfl ?_
 dsimp only [rnds_succ,go_sem,rA,rM,rS]
 refine br_t (by decide) ?_
 dsimp only [rnds_succ,go_sem,rA,rM,rS]
 refine ixs 1 [I t.lo,I t.hi] rfl rfl ?_
 dsimp only [rnds_succ,go_sem,rA,rM,rS]
 refine br_f (by decide) ?_
 dsimp only [go_sem,rA,rM,rS]
 simp only [Int.zero_add]
 rw [w64_in (n:=s.lo) (by omega) (by omega),w64_in (n:=s.hi) (by omega) (by omega),w64_in (n:=s.lo + t.lo) (by omega) (by omega),w64_in (n:=s.hi + t.hi) (by omega) (by omega)]
theorem plus3 (s t u:Span) (c:Bool) (h1:bdS 1000000000000000 s) (h2:bdS 1000000000000000 t) (h3:bdS 1000000000000000 u):Ct Try.prog 72 [.sl c 2 [[I s.lo,I s.hi],[I t.lo,I t.hi],[I u.lo,I u.hi]]] (.agg (spanL ⟨s.lo + t.lo + u.lo,s.hi + t.hi + u.hi⟩)):=by
 unfold bdS at h1 h2 h3
 refine t72 (by simp [KFR,KFL,KF]) (by simp [spanL,KFL,KF]) ?_
 dsimp only [c72,r72,spanL,go_sem,rA,rM,rS]
 refine unroll 4 ?_
 dsimp only [rnds_succ,go_sem,rA,rM,rS]
 refine br_t (by decide) ?_
 dsimp only [rnds_succ,go_sem,rA,rM,rS]
 refine ixs 0 [I s.lo,I s.hi] rfl rfl ?_
 dsimp only [rnds_succ,go_sem,rA,rM,rS]
 refine br_t (by decide) ?_
 dsimp only [rnds_succ,go_sem,rA,rM,rS]
 refine ixs 1 [I t.lo,I t.hi] rfl rfl ?_
 dsimp only [rnds_succ,go_sem,rA,rM,rS]
 refine br_t (by decide) ?_
 dsimp only [rnds_succ,go_sem,rA,rM,rS]
 refine ixs 2 [I u.lo,I u.hi] rfl rfl ?_
 dsimp only [rnds_succ,go_sem,rA,rM,rS]
 refine br_f (by decide) ?_
 dsimp only [go_sem,rA,rM,rS]
 simp only [Int.zero_add]
 rw [w64_in (n:=s.lo) (by omega) (by omega),w64_in (n:=s.hi) (by omega) (by omega),w64_in (n:=s.lo + t.lo) (by omega) (by omega),w64_in (n:=s.hi + t.hi) (by omega) (by omega),w64_in (n:=s.lo + t.lo + u.lo) (by omega) (by omega),w64_in (n:=s.hi + t.hi + u.hi) (by omega) (by omega)]
theorem rest_ok (n:Int) (s:Span) (h1:0 ≤ n) (h2:n ≤ 1000000) (h3:bdS 1000000 s):Ct Try.prog 73 [I n,.agg (spanL s)] (.agg (spanL ⟨n - s.hi,n - s.lo⟩)):=by
 unfold bdS at h3
 refine t73 (by simp [spanL,KFL,KF]) (by simp [spanL,KFL,KF]) ?_
 dsimp only [c73,r73,spanL,go_sem,rA,rM,rS]
 rw [w64_in (n:=n - s.hi) (by omega) (by omega),w64_in (n:=n - s.lo) (by omega) (by omega)]
end Go.Proofs.Ytnlfjchbhgikaaa
set_option maxRecDepth 100000
set_option maxHeartbeats 4000000
namespace Go.Proofs.Ytnlfjchbhgikaaa
open Go Go.Sx Go.Azalai
theorem breed_bd {b:Breed} (h:okBreed b = true):1 ≤ b.full ∧ b.full ≤ 1000000 ∧ 1 ≤ b.fed ∧ b.fed ≤ 1000000 ∧ 0 ≤ b.heal ∧ b.heal ≤ 1000 ∧ (0 ≤ b.strong.lo ∧ b.strong.lo ≤ b.strong.hi ∧ b.strong.hi ≤ 1000000) ∧ (0 ≤ b.rest.lo ∧ b.rest.lo ≤ b.rest.hi ∧ b.rest.hi ≤ 100000) ∧
 (0 ≤ b.heat.lo ∧ b.heat.lo ≤ b.heat.hi ∧ b.heat.hi ≤ 100000) ∧ (0 ≤ b.toil.lo ∧ b.toil.lo ≤ b.toil.hi ∧ b.toil.hi ≤ 100000) ∧ (0 ≤ b.burn.lo ∧ b.burn.lo ≤ b.burn.hi ∧ b.burn.hi ≤ 100000) ∧ (0 ≤ b.rub.lo ∧ b.rub.lo ≤ b.rub.hi ∧ b.rub.hi ≤ 100000) ∧ (0 ≤ b.milk.lo ∧ b.milk.lo ≤ b.milk.hi ∧ b.milk.hi ≤ 100000):=by
 simp only [okBreed,okSp,inR,Bool.and_eq_true,decide_eq_true_eq] at h;omega
theorem camel_bd {b:Breed} {c:Camel} (hb:okBreed b = true) (h:okCamel b c = true):(0 ≤ c.water.lo ∧ c.water.lo ≤ c.water.hi ∧ c.water.hi ≤ b.full) ∧ (0 ≤ c.fat.lo ∧ c.fat.lo ≤ c.fat.hi ∧ c.fat.hi ≤ b.fed) ∧ (0 ≤ c.sore.lo ∧ c.sore.lo ≤ c.sore.hi ∧ c.sore.hi ≤ 1000):=by
 simp only [okCamel,okSp,Bool.and_eq_true,decide_eq_true_eq] at h;omega
theorem march_bd {m:March} (h:okMarch m = true):0 ≤ m.hours ∧ m.hours ≤ 24 ∧ 0 ≤ m.load ∧ m.load ≤ 1000000 ∧ (0 ≤ m.heat.lo ∧ m.heat.lo ≤ m.heat.hi ∧ m.heat.hi ≤ 60) ∧ (0 ≤ m.grass.lo ∧ m.grass.lo ≤ m.grass.hi ∧ m.grass.hi ≤ 1000000) ∧ (0 ≤ m.drinks.lo ∧ m.drinks.lo ≤ m.drinks.hi ∧ m.drinks.hi ≤ 1000000):=by
 simp only [okMarch,okSp,inR,Bool.and_eq_true,decide_eq_true_eq] at h;omega
theorem fit_ok (b:Breed) (c:Camel) (hb:okBreed b = true) (hc:okCamel b c = true):Ct Try.prog 55 [.agg (beastL b c)] (.agg (spanL (fitF b c))):=by
 obtain ⟨b1,b2,b3,b4,_⟩:=breed_bd hb
 obtain ⟨⟨w1,w2,w3⟩,⟨f1,f2,f3⟩,⟨s1,s2,s3⟩⟩:=camel_bd hb hc
 refine t55 (by simp [beastL,KFL,KF]) (by simp [spanL,KFL,KF]) ?_
 dsimp only [c55,r55,beastL,go_sem,rA,rM,rS]
 refine call (scaled2 c.water b.full 2 1000 0 true w1 w2 (by omega) (by omega) (by omega) (by omega) b1 (by omega)) ?_
 dsimp only [spanL,go_sem,rA,rM,rS]
 refine call (scaled2 c.fat b.fed 2 1000 0 true f1 f2 (by omega) (by omega) (by omega) (by omega) b3 (by omega)) ?_
 dsimp only [spanL,go_sem,rA,rM,rS]
 refine call (rest_ok 1000 c.sore (by omega) (by omega) ⟨by omega,by omega,by omega,by omega⟩) ?_
 dsimp only [spanL,go_sem,rA,rM,rS]
 refine unroll 4 ?_
 dsimp only [rnds_succ,go_sem,rA,rM,rS]
 refine br_t (by decide) ?_
 dsimp only [rnds_succ,go_sem,rA,rM,rS]
 refine ixa 0 rfl (by decide) ?_
 dsimp only [rnds_succ,go_sem,rA,rM,rS]
 refine br_t (by decide) ?_
 dsimp only [rnds_succ,go_sem,rA,rM,rS]
 refine ixa 1 rfl (by decide) ?_
 dsimp only [rnds_succ,go_sem,rA,rM,rS]
 refine br_t (by decide) ?_
 dsimp only [rnds_succ,go_sem,rA,rM,rS]
 refine ixa 2 rfl (by decide) ?_
 dsimp only [rnds_succ,go_sem,rA,rM,rS]
 refine br_f (by decide) ?_
 dsimp only [go_sem,rA,rM,rS]
 have e1:c.water.lo * 2 * 1000 = 2000 * c.water.lo:=by omega
 have e2:c.water.hi * 2 * 1000 = 2000 * c.water.hi:=by omega
 have e3:c.fat.lo * 2 * 1000 = 2000 * c.fat.lo:=by omega
 have e4:c.fat.hi * 2 * 1000 = 2000 * c.fat.hi:=by omega
 simp only [e1,e2,e3,e4,fitF,Int.min_assoc]
theorem fit_bd {b:Breed} {c:Camel} (hb:okBreed b = true) (hc:okCamel b c = true):0 ≤ (fitF b c).lo ∧ (fitF b c).lo ≤ 1000 ∧ 0 ≤ (fitF b c).hi ∧ (fitF b c).hi ≤ 1000:=by
 obtain ⟨b1,b2,b3,b4,_⟩:=breed_bd hb
 obtain ⟨⟨w1,w2,w3⟩,⟨f1,f2,f3⟩,⟨s1,s2,s3⟩⟩:=camel_bd hb hc
 have d1:=tdiv_bd (a:=2000 * c.water.lo) (A:=2000000000) (d:=b.full) (by omega) (by omega) b1
 have d2:=tdiv_bd (a:=2000 * c.fat.lo) (A:=2000000000) (d:=b.fed) (by omega) (by omega) b3
 have d3:=up_bd (a:=2000 * c.water.hi) (A:=2000000000) (d:=b.full) (by omega) (by omega) b1
 have d4:=up_bd (a:=2000 * c.fat.hi) (A:=2000000000) (d:=b.fed) (by omega) (by omega) b3
 simp only [fitF];omega
theorem car_ok (b:Breed) (c:Camel) (hb:okBreed b = true) (hc:okCamel b c = true):Ct Try.prog 57 [.agg (beastL b c)] (.agg (spanL (carF b c))):=by
 obtain ⟨b1,b2,b3,b4,_,_,⟨g1,g2,g3⟩,_⟩:=breed_bd hb
 obtain ⟨q1,q2,q3,q4⟩:=fit_bd hb hc
 have k1:=mul_bd (a:=b.strong.lo) (A:=1000000) (b:=(fitF b c).lo) (B:=1000) (by omega) (by omega) q1 q2
 have k2:=mul_bd (a:=b.strong.hi) (A:=1000000) (b:=(fitF b c).hi) (B:=1000) (by omega) (by omega) q3 q4
 refine t57 (by simp [beastL,KFL,KF]) (by simp [spanL,KFL,KF]) ?_
 dsimp only [c57,r57,beastL,go_sem,rA,rM,rS]
 refine call (fit_ok b c hb hc) ?_
 dsimp only [spanL,go_sem,rA,rM,rS]
 rw [w64_in (n:=b.strong.lo * (fitF b c).lo) (by omega) (by omega)]
 refine div0 (by omega) ?_
 dsimp only [go_sem,rA,rM,rS]
 rw [w64_in (n:=b.strong.hi * (fitF b c).hi) (by omega) (by omega)]
 refine call (ceil_ok _ _ (by omega) (by omega) (by omega) (by omega)) ?_
 dsimp only [go_sem,rA,rM,rS]
 have d1:=tdiv_bd (a:=b.strong.lo * (fitF b c).lo) (d:=1000) k1.1 k1.2 (by omega)
 rw [w64_in (n:=(b.strong.lo * (fitF b c).lo).tdiv 1000) (by omega) (by omega)]
 rfl
def sres (b:Breed) (c:Camel) (s:Span):SV:=.tup [.agg (spanL (if errC b c = 0 then s else zeroS)),I (errC b c)]
theorem errC_0 {b:Breed} {c:Camel}:errC b c = 0 ↔ okBreed b = true ∧ okCamel b c = true:=by
 simp only [errC];cases okBreed b <;> cases okCamel b c <;> simp
theorem fitness_ok (b:Breed) (c:Camel):Ct Try.prog 14 [.agg (breedL b),.agg (camelL c)] (sres b c (fitF b c)):=by
 refine t14 (by simp [breedL,camelL,KFL,KF]) (by simp [sres,spanL,KFL,KF]) ?_
 dsimp only [c14,r14,breedL,camelL,go_sem,rA,rM,rS]
 refine call (checkCamel_ok b c) ?_
 dsimp only [go_sem,rA,rM,rS]
 by_cases h:errC b c = 0
 case neg =>
  refine br_t (by simpa using h) ?_
  dsimp only [sres,spanL,go_sem,rA,rM,rS]
  rw [if_neg h];rfl
 refine br_f (by simpa using h) ?_
 obtain ⟨hb,hc⟩:=errC_0.1 h
 dsimp only [go_sem,rA,rM,rS]
 refine call (fit_ok b c hb hc) ?_
 dsimp only [spanL,sres,go_sem,rA,rM,rS]
 rw [if_pos h,h]
theorem carries_ok (b:Breed) (c:Camel):Ct Try.prog 16 [.agg (breedL b),.agg (camelL c)] (sres b c (carF b c)):=by
 refine t16 (by simp [breedL,camelL,KFL,KF]) (by simp [sres,spanL,KFL,KF]) ?_
 dsimp only [c16,r16,breedL,camelL,go_sem,rA,rM,rS]
 refine call (checkCamel_ok b c) ?_
 dsimp only [go_sem,rA,rM,rS]
 by_cases h:errC b c = 0
 case neg =>
  refine br_t (by simpa using h) ?_
  dsimp only [sres,spanL,go_sem,rA,rM,rS]
  rw [if_neg h];rfl
 refine br_f (by simpa using h) ?_
 obtain ⟨hb,hc⟩:=errC_0.1 h
 dsimp only [go_sem,rA,rM,rS]
 refine call (car_ok b c hb hc) ?_
 dsimp only [spanL,sres,go_sem,rA,rM,rS]
 rw [if_pos h,h]
end Go.Proofs.Ytnlfjchbhgikaaa
set_option maxRecDepth 100000
set_option maxHeartbeats 4000000
namespace Go.Proofs.Ytnlfjchbhgikaaa
open Go Go.Sx Go.Azalai
theorem work_bd {m:March} (h:okMarch m = true):0 ≤ workF m ∧ workF m ≤ 26400000:=by
 obtain ⟨h1,h2,h3,h4,_⟩:=march_bd h
 have:=mul_bd (a:=m.hours) (A:=24) (b:=100000 + m.load) (B:=1100000) h1 h2 (by omega) (by omega)
 exact this
theorem toil_bd {m:March} {x:Int} (h:okMarch m = true) (h0:0 ≤ x) (h1:x ≤ 100000):0 ≤ x * workF m ∧ x * workF m ≤ 2640000000000:=by
 obtain ⟨w1,w2⟩:=work_bd h
 exact mul_bd h0 h1 w1 w2
theorem heat_bd {x y:Int} (h0:0 ≤ x) (h1:x ≤ 100000) (h2:0 ≤ y) (h3:y ≤ 60):0 ≤ x * max 0 (y - 20) ∧ x * max 0 (y - 20) ≤ 4000000 :=
 mul_bd h0 h1 (B:=40) (by omega) (by omega)
theorem cost_ok (b:Breed) (k:Bool) (m:March) (hb:okBreed b = true) (hm:okMarch m = true):Ct Try.prog 60 [.agg (breedL b),B k,.agg (marchL m)] (.agg [I (costW b k m).lo,I (costW b k m).hi,I (costF b m).lo,I (costF b m).hi]):=by
 obtain ⟨_,_,_,_,_,_,_,⟨r1,r2,r3⟩,⟨a1,a2,a3⟩,⟨t1,t2,t3⟩,⟨u1,u2,u3⟩,_,⟨k1,k2,k3⟩⟩:=breed_bd hb
 obtain ⟨m1,m2,m3,m4,⟨g1,g2,g3⟩,_⟩:=march_bd hm
 have w0:=work_bd hm
 have e1:=heat_bd (x:=b.heat.lo) (y:=m.heat.lo) (by omega) (by omega) (by omega) (by omega)
 have e2:=heat_bd (x:=b.heat.hi) (y:=m.heat.hi) (by omega) (by omega) (by omega) (by omega)
 have f1:=toil_bd (x:=b.toil.lo) hm (by omega) (by omega)
 have f2:=toil_bd (x:=b.toil.hi) hm (by omega) (by omega)
 have f3:=toil_bd (x:=b.burn.lo) hm (by omega) (by omega)
 have f4:=toil_bd (x:=b.burn.hi) hm (by omega) (by omega)
 have d1:=tdiv_bd f1.1 f1.2 (d:=100000) (by omega)
 have d2:=up_bd f2.1 f2.2 (d:=100000) (by omega)
 have hw:IntKind.i64.wrap (m.hours * IntKind.i64.wrap (100000 + m.load)) = workF m:=by
  rw [w64_in (n:=100000 + m.load) (by omega) (by omega)]
  unfold workF at *
  exact w64_in (by omega) (by omega)
 refine t60 (by simp [breedL,marchL,KFL,KF]) (by simp [KFL,KF]) ?_
 dsimp only [c60,r60,breedL,marchL,go_sem,rA,rM,rS]
 rw [hw,w64_in (n:=m.heat.lo - 20) (by omega) (by omega),w64_in (n:=m.heat.hi - 20) (by omega) (by omega),w64_in (n:=b.heat.lo * max 0 (m.heat.lo - 20)) (by omega) (by omega),w64_in (n:=b.heat.hi * max 0 (m.heat.hi - 20)) (by omega) (by omega)]
 refine call (scaled1 b.toil 100000 (workF m) 0 true t1 t2 w0.1 (by omega) (by omega) (by omega)) ?_
 dsimp only [spanL,go_sem,rA,rM,rS]
 refine call (plus3 b.rest ⟨b.heat.lo * max 0 (m.heat.lo - 20),b.heat.hi * max 0 (m.heat.hi - 20)⟩ (scl b.toil 100000 (workF m)) true ⟨by omega,by omega,by omega,by omega⟩ ⟨e1.1,by simp only;omega,e2.1,by simp only;omega⟩
  ⟨d1.1,by simp only [scl];omega,d2.1,by simp only [scl];omega⟩) ?_
 dsimp only [spanL,go_sem,rA,rM,rS]
 refine br ?_ ?_
 · intro hk
   dsimp only [go_sem,rA,rM,rS]
   refine call (plus2 ⟨b.rest.lo + b.heat.lo * max 0 (m.heat.lo - 20) + (scl b.toil 100000 (workF m)).lo,b.rest.hi + b.heat.hi * max 0 (m.heat.hi - 20) + (scl b.toil 100000 (workF m)).hi⟩ b.milk true
    ⟨by simp only [scl];omega,by simp only [scl];omega,by simp only [scl];omega,by simp only [scl];omega⟩ ⟨by omega,by omega,by omega,by omega⟩) ?_
   dsimp only [spanL,go_sem,rA,rM,rS]
   refine call (scaled1 b.burn 100000 (workF m) 0 true u1 u2 w0.1 (by omega) (by omega) (by omega)) ?_
   dsimp only [spanL,go_sem,rA,rM,rS]
   simp only [costW,costF,hk,scl,if_true]
 · intro hk
   dsimp only [go_sem,rA,rM,rS]
   refine call (scaled1 b.burn 100000 (workF m) 0 true u1 u2 w0.1 (by omega) (by omega) (by omega)) ?_
   dsimp only [spanL,go_sem,rA,rM,rS]
   simp only [costW,costF,hk,scl,Bool.false_eq_true,if_false,Int.add_zero]
def errM (b:Breed) (m:March):Int:=if okBreed b = false then 10 else if okMarch m = false then 12 else 0
def cres (b:Breed) (k:Bool) (m:March):SV:=.tup [.agg (spanL (if errM b m = 0 then costW b k m else zeroS)),.agg (spanL (if errM b m = 0 then costF b m else zeroS)),I (errM b m)]
theorem Cost_ok (b:Breed) (k:Bool) (m:March):Ct Try.prog 18 [.agg (breedL b),B k,.agg (marchL m)] (cres b k m):=by
 refine t18 (by simp [breedL,marchL,KFL,KF]) (by simp [cres,spanL,KFL,KF]) ?_
 dsimp only [c18,r18,breedL,marchL,go_sem,rA,rM,rS]
 refine call (checkBreed_ok b) ?_
 dsimp only [go_sem,rA,rM,rS]
 by_cases hb:okBreed b = true
 case neg =>
  refine br_t (by simp [errB,hb]) ?_
  dsimp only [cres,spanL,go_sem,rA,rM,rS]
  simp [errB,errM,hb,zeroS]
 refine br_f (by simp [errB,hb]) ?_
 dsimp only [go_sem,rA,rM,rS]
 refine call (checkDay1 m true) ?_
 dsimp only [go_sem,rA,rM,rS]
 by_cases hm:okMarch m = true
 case neg =>
  refine br_t (by simp [hm]) ?_
  dsimp only [cres,spanL,go_sem,rA,rM,rS]
  simp [errM,hb,hm,zeroS]
 refine br_f (by simp [hm]) ?_
 dsimp only [go_sem,rA,rM,rS]
 refine call (cost_ok b k m hb hm) ?_
 dsimp only [go_sem,rA,rM,rS]
 refine ixa 0 rfl (by decide) ?_
 dsimp only [go_sem,rA,rM,rS]
 refine ixa 1 rfl (by decide) ?_
 dsimp only [cres,spanL,go_sem,rA,rM,rS]
 simp [errM,hb,hm]
end Go.Proofs.Ytnlfjchbhgikaaa
set_option maxRecDepth 100000
set_option maxHeartbeats 4000000
namespace Go.Azalai
def errL (b:Breed) (c:Camel) (l:List March):Int:=if errC b c ≠ 0 then errC b c else if l.length > 60 then 4 else if l.all okMarch = false then 12 else 0
def thirstL (b:Breed) (sum:Span):List Camel → Span × Int
 | []=>(sum,0)
 | c :: r=>if okCamel b c = false then (⟨0,0⟩,11) else thirstL b ⟨sum.lo + (b.full - c.water.hi),sum.hi + (b.full - c.water.lo)⟩ r
def thirstF (b:Breed) (l:List Camel):Span × Int :=
 if okBreed b = false then (⟨0,0⟩,10) else if l.length > 30 then (⟨0,0⟩,4) else thirstL b ⟨0,0⟩ l
end Go.Azalai
namespace Go.Proofs.Ytnlfjchbhgikaaa
open Go Go.Sx Go.Azalai
def tres (r:Span × Int):SV:=.tup [.agg (spanL r.1),I r.2]
theorem checkL_ok (b:Breed) (c:Camel) (l:List March) (hl:l.length < 4611686018427387904) (k:Bool):Ct Try.prog 66 [.agg (breedL b),.agg (camelL c),.sl k 8 (l.map marchL)] (I (errL b c l)):=by
 refine t66 (by simp [breedL,camelL,marchL,KFR_iff,KFL,KF]) (by simp [KFL,KF]) ?_
 dsimp only [c66,r66,breedL,camelL,go_sem,rA,rM,rS]
 refine call (checkCamel_ok b c) ?_
 dsimp only [go_sem,rA,rM,rS]
 by_cases h0:errC b c = 0
 case neg =>
  refine br_t (by simpa using h0) ?_
  dsimp only [go_sem,rA,rM,rS]
  simp [errL,h0]
 refine br_f (by simpa using h0) ?_
 dsimp only [go_sem,rA,rM,rS]
 simp only [List.length_map]
 by_cases h1:l.length > 60
 case pos =>
  refine br_t (by simp;omega) ?_
  dsimp only [go_sem,rA,rM,rS]
  simp [errL,h0,h1]
 refine br_f (by simp;omega) ?_
 dsimp only [go_sem,rA,rM,rS]
 refine call (checkDays_ok l hl k) ?_
 dsimp only [go_sem,rA,rM,rS]
 simp only [errL,h0,h1]
 by_cases h2:l.all okMarch = true
 · simp [h2]
 · simp [h2]
end Go.Proofs.Ytnlfjchbhgikaaa
set_option maxRecDepth 100000
set_option maxHeartbeats 4000000
namespace Go.Proofs.Ytnlfjchbhgikaaa
open Go Go.Sx Go.Azalai
end Go.Proofs.Ytnlfjchbhgikaaa
set_option maxRecDepth 100000
set_option maxHeartbeats 4000000
namespace Go.Azalai
def zeroC:Camel:=⟨⟨0,0⟩,⟨0,0⟩,⟨0,0⟩,false⟩
def lostF (most:Int) (has cost gets:Span):Span:=⟨min most (max 0 (has.lo - cost.hi) + gets.lo),min most (has.hi - cost.lo + gets.hi)⟩
def soreF (b:Breed) (s:Span) (m:March):Span :=
 if m.hours = 0 then ⟨max 0 (s.lo - b.heal),max 0 (s.hi - b.heal)⟩
 else ⟨min 1000 (s.lo + (b.rub.lo * (m.hours * m.load)).tdiv 1000000),min 1000 (s.hi + upF (b.rub.hi * (m.hours * m.load)) 1000000)⟩
def afterF (b:Breed) (c:Camel) (m:March):Camel × Int :=
 let w:=costW b c.milks m
 let f:=costF b m
 if c.water.hi < w.lo ∨ c.fat.hi < f.lo then (zeroC,2)
 else (⟨lostF b.full c.water w m.drinks,lostF b.fed c.fat f m.grass,soreF b c.sore m,c.milks⟩,if c.water.lo ≥ w.hi ∧ c.fat.lo ≥ f.hi then 0 else 1)
theorem costW_bd {b:Breed} {k:Bool} {m:March} (hb:okBreed b = true) (hm:okMarch m = true):0 ≤ (costW b k m).lo ∧ (costW b k m).lo ≤ 1000000000 ∧ 0 ≤ (costW b k m).hi ∧ (costW b k m).hi ≤ 1000000000:=by
 have h:=Go.Proofs.Ytnlfjchbhgikaaa.breed_bd hb
 have h2:=Go.Proofs.Ytnlfjchbhgikaaa.march_bd hm
 have q1:=Go.Proofs.Ytnlfjchbhgikaaa.toil_bd (x:=b.toil.lo) hm (by omega) (by omega)
 have q2:=Go.Proofs.Ytnlfjchbhgikaaa.toil_bd (x:=b.toil.hi) hm (by omega) (by omega)
 have q3:=Go.Proofs.Ytnlfjchbhgikaaa.heat_bd (x:=b.heat.lo) (y:=m.heat.lo) (by omega) (by omega) (by omega) (by omega)
 have q4:=Go.Proofs.Ytnlfjchbhgikaaa.heat_bd (x:=b.heat.hi) (y:=m.heat.hi) (by omega) (by omega) (by omega) (by omega)
 have r1:0 ≤ (b.toil.lo * workF m).tdiv 100000 ∧ (b.toil.lo * workF m).tdiv 100000 ≤ 26400000:=by
  rw [Int.tdiv_eq_ediv_of_nonneg q1.1];omega
 have r2:0 ≤ upF (b.toil.hi * workF m) 100000 ∧ upF (b.toil.hi * workF m) 100000 ≤ 26400001:=by
  unfold upF;rw [Int.tdiv_eq_ediv_of_nonneg (by omega)];omega
 simp only [costW]
 cases k <;> simp <;> omega
theorem costF_bd {b:Breed} {m:March} (hb:okBreed b = true) (hm:okMarch m = true):0 ≤ (costF b m).lo ∧ (costF b m).lo ≤ 1000000000 ∧ 0 ≤ (costF b m).hi ∧ (costF b m).hi ≤ 1000000000:=by
 have h:=Go.Proofs.Ytnlfjchbhgikaaa.breed_bd hb
 have q1:=Go.Proofs.Ytnlfjchbhgikaaa.toil_bd (x:=b.burn.lo) hm (by omega) (by omega)
 have q2:=Go.Proofs.Ytnlfjchbhgikaaa.toil_bd (x:=b.burn.hi) hm (by omega) (by omega)
 have r1:0 ≤ (b.burn.lo * workF m).tdiv 100000 ∧ (b.burn.lo * workF m).tdiv 100000 ≤ 26400000:=by
  rw [Int.tdiv_eq_ediv_of_nonneg q1.1];omega
 have r2:0 ≤ upF (b.burn.hi * workF m) 100000 ∧ upF (b.burn.hi * workF m) 100000 ≤ 26400001:=by
  unfold upF;rw [Int.tdiv_eq_ediv_of_nonneg (by omega)];omega
 simp only [costF]
 omega
end Go.Azalai
namespace Go.Proofs.Ytnlfjchbhgikaaa
open Go Go.Sx Go.Azalai
end Go.Proofs.Ytnlfjchbhgikaaa
set_option maxRecDepth 100000
set_option maxHeartbeats 4000000
namespace Go.Proofs.Ytnlfjchbhgikaaa
open Go Go.Sx Go.Azalai
theorem day_ok (b:Breed) (c:Camel) (m:March) (hb:okBreed b = true) (hc:okCamel b c = true) (hm:okMarch m = true) (hd:(afterF b c m).2 ≠ 2) :
 Ct Try.prog 68 [.agg (beastL b c),.agg (marchL m)] (.tup [.agg (beastL b (afterF b c m).1),.v (.int .u8 (afterF b c m).2)]):=by
 have h1:=breed_bd hb
 have h2:=camel_bd hb hc
 have h3:=march_bd hm
 have w1:=costW_bd (k:=c.milks) hb hm
 have w2:=costF_bd hb hm
 have k0:=mul_bd (a:=m.hours) (b:=m.load) (A:=24) (B:=1000000) (by omega) (by omega) (by omega) (by omega)
 have k1:=mul_bd (a:=b.rub.lo) (b:=m.hours * m.load) (A:=100000) (B:=24000000) (by omega) (by omega) (by omega) (by omega)
 have k2:=mul_bd (a:=b.rub.hi) (b:=m.hours * m.load) (A:=100000) (B:=24000000) (by omega) (by omega) (by omega) (by omega)
 have k3:=tdiv_bd k1.1 k1.2 (d:=1000000) (by omega)
 have k4:=up_bd k2.1 k2.2 (d:=1000000) (by omega)
 refine t68 (by simp [beastL,marchL,KFL,KF]) (by simp [beastL,KFL,KF]) ?_
 dsimp only [c68,r68,beastL,marchL,go_sem,rA,rM,rS]
 refine call (cost_ok b c.milks m hb hm) ?_
 dsimp only [go_sem,rA,rM,rS]
 generalize hW:costW b c.milks m = W at w1
 generalize hF:costF b m = F at w2
 have hd':W.lo ≤ c.water.hi ∧ F.lo ≤ c.fat.hi:=by
  by_cases h:c.water.hi < W.lo ∨ c.fat.hi < F.lo
  · exact absurd (by simp only [afterF,hW,hF,if_pos h]) hd
  · omega
 clear hd
 have k5:=mul_bd (a:=b.rub.hi) (b:=m.hours) (A:=100000) (B:=24) (by omega) (by omega) (by omega) (by omega)
 have k6:b.rub.hi * m.hours * m.load ≤ 100000000000000:=by rw [Int.mul_assoc];omega
 have hd0:¬ (c.water.hi < W.lo ∨ c.fat.hi < F.lo):=by omega
 by_cases hp:c.water.lo < W.hi <;> by_cases hq:c.fat.lo < F.hi
 · refine unroll 3 ?_
   dsimp only [rnds_succ,go_sem,rA,rM,rS]
   refine br_t (by decide) ?_
   dsimp only [rnds_succ,go_sem,rA,rM,rS]
   repeat (first | (refine ixa 0 rfl (by decide) ?_;dsimp only [rnds_succ,go_sem,rA,rM,rS]) | (refine br_f (by simp;omega) ?_;dsimp only [rnds_succ,go_sem,rA,rM,rS]) | (refine br_t (by simp;omega) ?_;dsimp only [rnds_succ,go_sem,rA,rM,rS]))
   simp (disch:=omega) only [w64_in]
   refine call (plus2 ⟨max 0 (c.water.lo - W.hi),c.water.hi - W.lo⟩ m.drinks _ (by unfold bdS;simp only;omega) (by unfold bdS;omega)) ?_
   dsimp only [rnds_succ,spanL,go_sem,rA,rM,rS]
   repeat (first | (refine ixa 0 rfl (by decide) ?_;dsimp only [rnds_succ,go_sem,rA,rM,rS]) | (refine br_f (by simp;omega) ?_;dsimp only [rnds_succ,go_sem,rA,rM,rS]) | (refine br_t (by simp;omega) ?_;dsimp only [rnds_succ,go_sem,rA,rM,rS]))
   simp (disch:=omega) only [w64_in]
   refine br_t (by decide) ?_
   dsimp only [rnds_succ,go_sem,rA,rM,rS]
   repeat (first | (refine ixa 1 rfl (by decide) ?_;dsimp only [rnds_succ,go_sem,rA,rM,rS]) | (refine br_f (by simp;omega) ?_;dsimp only [rnds_succ,go_sem,rA,rM,rS]) | (refine br_t (by simp;omega) ?_;dsimp only [rnds_succ,go_sem,rA,rM,rS]))
   simp (disch:=omega) only [w64_in]
   refine call (plus2 ⟨max 0 (c.fat.lo - F.hi),c.fat.hi - F.lo⟩ m.grass _ (by unfold bdS;simp only;omega) (by unfold bdS;omega)) ?_
   dsimp only [rnds_succ,spanL,go_sem,rA,rM,rS]
   repeat (first | (refine ixa 1 rfl (by decide) ?_;dsimp only [rnds_succ,go_sem,rA,rM,rS]) | (refine br_f (by simp;omega) ?_;dsimp only [rnds_succ,go_sem,rA,rM,rS]) | (refine br_t (by simp;omega) ?_;dsimp only [rnds_succ,go_sem,rA,rM,rS]))
   refine br_f (by decide) ?_
   dsimp only [go_sem,rA,rM,rS]
   have e:(if c.water.lo ≥ W.hi ∧ c.fat.lo ≥ F.hi then (0:Int) else 1) = 1:=if_neg (by omega)
   by_cases hz:m.hours = 0
   · refine br_t (by simpa using hz) ?_
     dsimp only [go_sem,rA,rM,rS]
     simp (disch:=omega) only [w64_in]
     simp only [afterF,hW,hF,if_neg hd0,lostF,soreF,beastL,e,if_pos hz]
   · refine br_f (by simpa using hz) ?_
     dsimp only [go_sem,rA,rM,rS]
     refine call (scaled2 b.rub 1000000 m.hours m.load 0 _ (by omega) (by omega) (by omega) (by omega) (by omega) k6 (by omega) (by omega)) ?_
     dsimp only [spanL,go_sem,rA,rM,rS]
     simp only [Int.mul_assoc]
     refine call (plus2 c.sore ⟨(b.rub.lo * (m.hours * m.load)).tdiv 1000000,upF (b.rub.hi * (m.hours * m.load)) 1000000⟩ _ (by unfold bdS;omega) (by unfold bdS;simp only;omega)) ?_
     dsimp only [spanL,go_sem,rA,rM,rS]
     simp only [afterF,hW,hF,if_neg hd0,lostF,soreF,beastL,e,if_neg hz]
 · refine unroll 3 ?_
   dsimp only [rnds_succ,go_sem,rA,rM,rS]
   refine br_t (by decide) ?_
   dsimp only [rnds_succ,go_sem,rA,rM,rS]
   repeat (first | (refine ixa 0 rfl (by decide) ?_;dsimp only [rnds_succ,go_sem,rA,rM,rS]) | (refine br_f (by simp;omega) ?_;dsimp only [rnds_succ,go_sem,rA,rM,rS]) | (refine br_t (by simp;omega) ?_;dsimp only [rnds_succ,go_sem,rA,rM,rS]))
   simp (disch:=omega) only [w64_in]
   refine call (plus2 ⟨max 0 (c.water.lo - W.hi),c.water.hi - W.lo⟩ m.drinks _ (by unfold bdS;simp only;omega) (by unfold bdS;omega)) ?_
   dsimp only [rnds_succ,spanL,go_sem,rA,rM,rS]
   repeat (first | (refine ixa 0 rfl (by decide) ?_;dsimp only [rnds_succ,go_sem,rA,rM,rS]) | (refine br_f (by simp;omega) ?_;dsimp only [rnds_succ,go_sem,rA,rM,rS]) | (refine br_t (by simp;omega) ?_;dsimp only [rnds_succ,go_sem,rA,rM,rS]))
   simp (disch:=omega) only [w64_in]
   refine br_t (by decide) ?_
   dsimp only [rnds_succ,go_sem,rA,rM,rS]
   repeat (first | (refine ixa 1 rfl (by decide) ?_;dsimp only [rnds_succ,go_sem,rA,rM,rS]) | (refine br_f (by simp;omega) ?_;dsimp only [rnds_succ,go_sem,rA,rM,rS]) | (refine br_t (by simp;omega) ?_;dsimp only [rnds_succ,go_sem,rA,rM,rS]))
   simp (disch:=omega) only [w64_in]
   refine call (plus2 ⟨max 0 (c.fat.lo - F.hi),c.fat.hi - F.lo⟩ m.grass _ (by unfold bdS;simp only;omega) (by unfold bdS;omega)) ?_
   dsimp only [rnds_succ,spanL,go_sem,rA,rM,rS]
   repeat (first | (refine ixa 1 rfl (by decide) ?_;dsimp only [rnds_succ,go_sem,rA,rM,rS]) | (refine br_f (by simp;omega) ?_;dsimp only [rnds_succ,go_sem,rA,rM,rS]) | (refine br_t (by simp;omega) ?_;dsimp only [rnds_succ,go_sem,rA,rM,rS]))
   refine br_f (by decide) ?_
   dsimp only [go_sem,rA,rM,rS]
   have e:(if c.water.lo ≥ W.hi ∧ c.fat.lo ≥ F.hi then (0:Int) else 1) = 1:=if_neg (by omega)
   by_cases hz:m.hours = 0
   · refine br_t (by simpa using hz) ?_
     dsimp only [go_sem,rA,rM,rS]
     simp (disch:=omega) only [w64_in]
     simp only [afterF,hW,hF,if_neg hd0,lostF,soreF,beastL,e,if_pos hz]
   · refine br_f (by simpa using hz) ?_
     dsimp only [go_sem,rA,rM,rS]
     refine call (scaled2 b.rub 1000000 m.hours m.load 0 _ (by omega) (by omega) (by omega) (by omega) (by omega) k6 (by omega) (by omega)) ?_
     dsimp only [spanL,go_sem,rA,rM,rS]
     simp only [Int.mul_assoc]
     refine call (plus2 c.sore ⟨(b.rub.lo * (m.hours * m.load)).tdiv 1000000,upF (b.rub.hi * (m.hours * m.load)) 1000000⟩ _ (by unfold bdS;omega) (by unfold bdS;simp only;omega)) ?_
     dsimp only [spanL,go_sem,rA,rM,rS]
     simp only [afterF,hW,hF,if_neg hd0,lostF,soreF,beastL,e,if_neg hz]
 · refine unroll 3 ?_
   dsimp only [rnds_succ,go_sem,rA,rM,rS]
   refine br_t (by decide) ?_
   dsimp only [rnds_succ,go_sem,rA,rM,rS]
   repeat (first | (refine ixa 0 rfl (by decide) ?_;dsimp only [rnds_succ,go_sem,rA,rM,rS]) | (refine br_f (by simp;omega) ?_;dsimp only [rnds_succ,go_sem,rA,rM,rS]) | (refine br_t (by simp;omega) ?_;dsimp only [rnds_succ,go_sem,rA,rM,rS]))
   simp (disch:=omega) only [w64_in]
   refine call (plus2 ⟨max 0 (c.water.lo - W.hi),c.water.hi - W.lo⟩ m.drinks _ (by unfold bdS;simp only;omega) (by unfold bdS;omega)) ?_
   dsimp only [rnds_succ,spanL,go_sem,rA,rM,rS]
   repeat (first | (refine ixa 0 rfl (by decide) ?_;dsimp only [rnds_succ,go_sem,rA,rM,rS]) | (refine br_f (by simp;omega) ?_;dsimp only [rnds_succ,go_sem,rA,rM,rS]) | (refine br_t (by simp;omega) ?_;dsimp only [rnds_succ,go_sem,rA,rM,rS]))
   simp (disch:=omega) only [w64_in]
   refine br_t (by decide) ?_
   dsimp only [rnds_succ,go_sem,rA,rM,rS]
   repeat (first | (refine ixa 1 rfl (by decide) ?_;dsimp only [rnds_succ,go_sem,rA,rM,rS]) | (refine br_f (by simp;omega) ?_;dsimp only [rnds_succ,go_sem,rA,rM,rS]) | (refine br_t (by simp;omega) ?_;dsimp only [rnds_succ,go_sem,rA,rM,rS]))
   simp (disch:=omega) only [w64_in]
   refine call (plus2 ⟨max 0 (c.fat.lo - F.hi),c.fat.hi - F.lo⟩ m.grass _ (by unfold bdS;simp only;omega) (by unfold bdS;omega)) ?_
   dsimp only [rnds_succ,spanL,go_sem,rA,rM,rS]
   repeat (first | (refine ixa 1 rfl (by decide) ?_;dsimp only [rnds_succ,go_sem,rA,rM,rS]) | (refine br_f (by simp;omega) ?_;dsimp only [rnds_succ,go_sem,rA,rM,rS]) | (refine br_t (by simp;omega) ?_;dsimp only [rnds_succ,go_sem,rA,rM,rS]))
   refine br_f (by decide) ?_
   dsimp only [go_sem,rA,rM,rS]
   have e:(if c.water.lo ≥ W.hi ∧ c.fat.lo ≥ F.hi then (0:Int) else 1) = 1:=if_neg (by omega)
   by_cases hz:m.hours = 0
   · refine br_t (by simpa using hz) ?_
     dsimp only [go_sem,rA,rM,rS]
     simp (disch:=omega) only [w64_in]
     simp only [afterF,hW,hF,if_neg hd0,lostF,soreF,beastL,e,if_pos hz]
   · refine br_f (by simpa using hz) ?_
     dsimp only [go_sem,rA,rM,rS]
     refine call (scaled2 b.rub 1000000 m.hours m.load 0 _ (by omega) (by omega) (by omega) (by omega) (by omega) k6 (by omega) (by omega)) ?_
     dsimp only [spanL,go_sem,rA,rM,rS]
     simp only [Int.mul_assoc]
     refine call (plus2 c.sore ⟨(b.rub.lo * (m.hours * m.load)).tdiv 1000000,upF (b.rub.hi * (m.hours * m.load)) 1000000⟩ _ (by unfold bdS;omega) (by unfold bdS;simp only;omega)) ?_
     dsimp only [spanL,go_sem,rA,rM,rS]
     simp only [afterF,hW,hF,if_neg hd0,lostF,soreF,beastL,e,if_neg hz]
 · refine unroll 3 ?_
   dsimp only [rnds_succ,go_sem,rA,rM,rS]
   refine br_t (by decide) ?_
   dsimp only [rnds_succ,go_sem,rA,rM,rS]
   repeat (first | (refine ixa 0 rfl (by decide) ?_;dsimp only [rnds_succ,go_sem,rA,rM,rS]) | (refine br_f (by simp;omega) ?_;dsimp only [rnds_succ,go_sem,rA,rM,rS]) | (refine br_t (by simp;omega) ?_;dsimp only [rnds_succ,go_sem,rA,rM,rS]))
   simp (disch:=omega) only [w64_in]
   refine call (plus2 ⟨max 0 (c.water.lo - W.hi),c.water.hi - W.lo⟩ m.drinks _ (by unfold bdS;simp only;omega) (by unfold bdS;omega)) ?_
   dsimp only [rnds_succ,spanL,go_sem,rA,rM,rS]
   repeat (first | (refine ixa 0 rfl (by decide) ?_;dsimp only [rnds_succ,go_sem,rA,rM,rS]) | (refine br_f (by simp;omega) ?_;dsimp only [rnds_succ,go_sem,rA,rM,rS]) | (refine br_t (by simp;omega) ?_;dsimp only [rnds_succ,go_sem,rA,rM,rS]))
   simp (disch:=omega) only [w64_in]
   refine br_t (by decide) ?_
   dsimp only [rnds_succ,go_sem,rA,rM,rS]
   repeat (first | (refine ixa 1 rfl (by decide) ?_;dsimp only [rnds_succ,go_sem,rA,rM,rS]) | (refine br_f (by simp;omega) ?_;dsimp only [rnds_succ,go_sem,rA,rM,rS]) | (refine br_t (by simp;omega) ?_;dsimp only [rnds_succ,go_sem,rA,rM,rS]))
   simp (disch:=omega) only [w64_in]
   refine call (plus2 ⟨max 0 (c.fat.lo - F.hi),c.fat.hi - F.lo⟩ m.grass _ (by unfold bdS;simp only;omega) (by unfold bdS;omega)) ?_
   dsimp only [rnds_succ,spanL,go_sem,rA,rM,rS]
   repeat (first | (refine ixa 1 rfl (by decide) ?_;dsimp only [rnds_succ,go_sem,rA,rM,rS]) | (refine br_f (by simp;omega) ?_;dsimp only [rnds_succ,go_sem,rA,rM,rS]) | (refine br_t (by simp;omega) ?_;dsimp only [rnds_succ,go_sem,rA,rM,rS]))
   refine br_f (by decide) ?_
   dsimp only [go_sem,rA,rM,rS]
   have e:(if c.water.lo ≥ W.hi ∧ c.fat.lo ≥ F.hi then (0:Int) else 1) = 0:=if_pos (by omega)
   by_cases hz:m.hours = 0
   · refine br_t (by simpa using hz) ?_
     dsimp only [go_sem,rA,rM,rS]
     simp (disch:=omega) only [w64_in]
     simp only [afterF,hW,hF,if_neg hd0,lostF,soreF,beastL,e,if_pos hz]
   · refine br_f (by simpa using hz) ?_
     dsimp only [go_sem,rA,rM,rS]
     refine call (scaled2 b.rub 1000000 m.hours m.load 0 _ (by omega) (by omega) (by omega) (by omega) (by omega) k6 (by omega) (by omega)) ?_
     dsimp only [spanL,go_sem,rA,rM,rS]
     simp only [Int.mul_assoc]
     refine call (plus2 c.sore ⟨(b.rub.lo * (m.hours * m.load)).tdiv 1000000,upF (b.rub.hi * (m.hours * m.load)) 1000000⟩ _ (by unfold bdS;omega) (by unfold bdS;simp only;omega)) ?_
     dsimp only [spanL,go_sem,rA,rM,rS]
     simp only [afterF,hW,hF,if_neg hd0,lostF,soreF,beastL,e,if_neg hz]
end Go.Proofs.Ytnlfjchbhgikaaa
set_option maxRecDepth 100000
set_option maxHeartbeats 4000000
namespace Go.Azalai
def bearsL (b:Breed) (load:Int) (c:Camel):List March → Bool
 | []=>true
 | m :: r=>if m.hours > 0 ∧ load > (carF b c).lo then false else if (afterF b c { m with load:=load }).2 ≠ 0 then false else bearsL b load (afterF b c { m with load:=load }).1 r
theorem tdiv_up {x y d:Int} (hd:1 ≤ d) (h0:0 ≤ x) (h:x ≤ y):x.tdiv d ≤ upF y d:=by
 unfold upF
 rw [Int.tdiv_eq_ediv_of_nonneg h0,Int.tdiv_eq_ediv_of_nonneg (by omega)]
 exact Int.ediv_le_ediv (by omega) (by omega)
theorem costW_le {b:Breed} {k:Bool} {m:March} (hb:okBreed b = true) (hm:okMarch m = true):(costW b k m).lo ≤ (costW b k m).hi:=by
 have h:=Go.Proofs.Ytnlfjchbhgikaaa.breed_bd hb
 have h2:=Go.Proofs.Ytnlfjchbhgikaaa.march_bd hm
 have hw:=Go.Proofs.Ytnlfjchbhgikaaa.work_bd hm
 have q1:(b.toil.lo * workF m).tdiv 100000 ≤ upF (b.toil.hi * workF m) 100000:=tdiv_up (by omega) (Int.mul_nonneg (by omega) hw.1) (Int.mul_le_mul_of_nonneg_right (by omega) hw.1)
 have q2:b.heat.lo * max 0 (m.heat.lo - 20) ≤ b.heat.hi * max 0 (m.heat.hi - 20):=Int.mul_le_mul (by omega) (by omega) (by omega) (by omega)
 simp only [costW]
 cases k <;> simp <;> omega
theorem costF_le {b:Breed} {m:March} (hb:okBreed b = true) (hm:okMarch m = true):(costF b m).lo ≤ (costF b m).hi:=by
 have h:=Go.Proofs.Ytnlfjchbhgikaaa.breed_bd hb
 have hw:=Go.Proofs.Ytnlfjchbhgikaaa.work_bd hm
 exact tdiv_up (by omega) (Int.mul_nonneg (by omega) hw.1) (Int.mul_le_mul_of_nonneg_right (by omega) hw.1)
theorem after_ok {b:Breed} {c:Camel} {m:March} (hb:okBreed b = true) (hc:okCamel b c = true) (hm:okMarch m = true) (hd:(afterF b c m).2 ≠ 2):okCamel b (afterF b c m).1 = true:=by
 have h1:=Go.Proofs.Ytnlfjchbhgikaaa.breed_bd hb
 have h2:=Go.Proofs.Ytnlfjchbhgikaaa.camel_bd hb hc
 have h3:=Go.Proofs.Ytnlfjchbhgikaaa.march_bd hm
 have w1:=costW_bd (k:=c.milks) hb hm
 have w2:=costF_bd hb hm
 have hlo:(costW b c.milks m).lo ≤ (costW b c.milks m).hi:=costW_le hb hm
 have hlf:(costF b m).lo ≤ (costF b m).hi:=costF_le hb hm
 have hr:(b.rub.lo * (m.hours * m.load)).tdiv 1000000 ≤ upF (b.rub.hi * (m.hours * m.load)) 1000000 :=
  tdiv_up (by omega) (Int.mul_nonneg (by omega) (Int.mul_nonneg (by omega) (by omega))) (Int.mul_le_mul_of_nonneg_right (by omega) (Int.mul_nonneg (by omega) (by omega)))
 have hr0:0 ≤ (b.rub.lo * (m.hours * m.load)).tdiv 1000000 :=
  Int.tdiv_nonneg (Int.mul_nonneg (by omega) (Int.mul_nonneg (by omega) (by omega))) (by omega)
 unfold afterF at hd ⊢
 simp only at hd ⊢
 split at hd
 · exact absurd rfl hd
 · rename_i h
   rw [if_neg h]
   simp only [okCamel,okSp,lostF,soreF,Bool.and_eq_true,decide_eq_true_eq]
   by_cases hz:m.hours = 0
   · simp only [if_pos hz,Bool.and_eq_true,decide_eq_true_eq]
     refine ⟨⟨decide_eq_true ⟨by omega,by omega,by omega⟩,decide_eq_true ⟨by omega,by omega,by omega⟩⟩,by omega,by omega,by omega⟩
   · simp only [if_neg hz,Bool.and_eq_true,decide_eq_true_eq]
     refine ⟨⟨decide_eq_true ⟨by omega,by omega,by omega⟩,decide_eq_true ⟨by omega,by omega,by omega⟩⟩,by omega,by omega,by omega⟩
end Go.Azalai
namespace Go.Proofs.Ytnlfjchbhgikaaa
open Go Go.Sx Go.Azalai
end Go.Proofs.Ytnlfjchbhgikaaa
set_option maxRecDepth 100000
set_option maxHeartbeats 4000000
namespace Go.Azalai
def seekN (g:Int → Bool):Nat → Int → Int → Int
 | 0,lo,_=>lo
 | n + 1,lo,hi=>if lo < hi then (if g ((lo + hi + 1).tdiv 2) then seekN g n ((lo + hi + 1).tdiv 2) hi else seekN g n lo ((lo + hi + 1).tdiv 2 - 1)) else lo
def heavyF (b:Breed) (c:Camel) (l:List March):Int × Int :=
 if errL b c l ≠ 0 then (0,errL b c l) else if bearsL b 0 c l = false then (0,13) else (seekN (fun n=>bearsL b n c l) 2000000 0 1000000,0)
end Go.Azalai
namespace Go.Proofs.Ytnlfjchbhgikaaa
open Go Go.Sx Go.Azalai
end Go.Proofs.Ytnlfjchbhgikaaa
set_option maxRecDepth 100000
set_option maxHeartbeats 4000000
namespace Go.Proofs.Ytnlfjchbhgikaaa
open Go Go.Sx Go.Azalai
theorem day_dies (b:Breed) (c:Camel) (m:March) (hb:okBreed b = true) (hc:okCamel b c = true) (hm:okMarch m = true) (hd:(afterF b c m).2 = 2) :
 Ct Try.prog 68 [.agg (beastL b c),.agg (marchL m)] (.tup [.agg (beastL ⟨0,0,⟨0,0⟩,⟨0,0⟩,⟨0,0⟩,⟨0,0⟩,⟨0,0⟩,⟨0,0⟩,0,⟨0,0⟩⟩ zeroC),.v (.int .u8 2)]):=by
 have h1:=breed_bd hb
 have h2:=camel_bd hb hc
 have h3:=march_bd hm
 have w1:=costW_bd (k:=c.milks) hb hm
 have w2:=costF_bd hb hm
 refine t68 (by simp [beastL,marchL,KFL,KF]) (by simp [beastL,zeroC,KFL,KF]) ?_
 dsimp only [c68,r68,beastL,marchL,go_sem,rA,rM,rS]
 refine call (cost_ok b c.milks m hb hm) ?_
 dsimp only [go_sem,rA,rM,rS]
 generalize hW:costW b c.milks m = W at w1
 generalize hF:costF b m = F at w2
 have hd':c.water.hi < W.lo ∨ c.fat.hi < F.lo:=by
  by_cases h:c.water.hi < W.lo ∨ c.fat.hi < F.lo
  · exact h
  · simp only [afterF,hW,hF,if_neg h] at hd
    split at hd <;> cases hd
 by_cases hw:c.water.hi < W.lo
 · refine unroll 3 ?_
   dsimp only [rnds_succ,go_sem,rA,rM,rS]
   refine br_t (by decide) ?_
   dsimp only [rnds_succ,go_sem,rA,rM,rS]
   repeat (first | (refine ixa 0 rfl (by decide) ?_;dsimp only [rnds_succ,go_sem,rA,rM,rS]) | (refine br_t (by simp;omega) ?_;dsimp only [rnds_succ,zeroC,go_sem,rA,rM,rS]))
 · have hf:c.fat.hi < F.lo:=by omega
   by_cases hp:c.water.lo < W.hi
   · refine unroll 3 ?_
     dsimp only [rnds_succ,go_sem,rA,rM,rS]
     refine br_t (by decide) ?_
     dsimp only [rnds_succ,go_sem,rA,rM,rS]
     repeat (first | (refine ixa 0 rfl (by decide) ?_;dsimp only [rnds_succ,go_sem,rA,rM,rS]) | (refine br_f (by simp;omega) ?_;dsimp only [rnds_succ,go_sem,rA,rM,rS]) | (refine br_t (by simp;omega) ?_;dsimp only [rnds_succ,go_sem,rA,rM,rS]))
     simp (disch:=omega) only [w64_in]
     refine call (plus2 ⟨max 0 (c.water.lo - W.hi),c.water.hi - W.lo⟩ m.drinks _ (by unfold bdS;simp only;omega) (by unfold bdS;omega)) ?_
     dsimp only [rnds_succ,spanL,go_sem,rA,rM,rS]
     repeat (first | (refine ixa 0 rfl (by decide) ?_;dsimp only [rnds_succ,go_sem,rA,rM,rS]) | (refine br_f (by simp;omega) ?_;dsimp only [rnds_succ,go_sem,rA,rM,rS]) | (refine br_t (by simp;omega) ?_;dsimp only [rnds_succ,go_sem,rA,rM,rS]))
     simp (disch:=omega) only [w64_in]
     refine br_t (by decide) ?_
     dsimp only [rnds_succ,go_sem,rA,rM,rS]
     repeat (first | (refine ixa 1 rfl (by decide) ?_;dsimp only [rnds_succ,go_sem,rA,rM,rS]) | (refine br_t (by simp;omega) ?_;dsimp only [rnds_succ,zeroC,go_sem,rA,rM,rS]))
   · refine unroll 3 ?_
     dsimp only [rnds_succ,go_sem,rA,rM,rS]
     refine br_t (by decide) ?_
     dsimp only [rnds_succ,go_sem,rA,rM,rS]
     repeat (first | (refine ixa 0 rfl (by decide) ?_;dsimp only [rnds_succ,go_sem,rA,rM,rS]) | (refine br_f (by simp;omega) ?_;dsimp only [rnds_succ,go_sem,rA,rM,rS]) | (refine br_t (by simp;omega) ?_;dsimp only [rnds_succ,go_sem,rA,rM,rS]))
     simp (disch:=omega) only [w64_in]
     refine call (plus2 ⟨max 0 (c.water.lo - W.hi),c.water.hi - W.lo⟩ m.drinks _ (by unfold bdS;simp only;omega) (by unfold bdS;omega)) ?_
     dsimp only [rnds_succ,spanL,go_sem,rA,rM,rS]
     repeat (first | (refine ixa 0 rfl (by decide) ?_;dsimp only [rnds_succ,go_sem,rA,rM,rS]) | (refine br_f (by simp;omega) ?_;dsimp only [rnds_succ,go_sem,rA,rM,rS]) | (refine br_t (by simp;omega) ?_;dsimp only [rnds_succ,go_sem,rA,rM,rS]))
     simp (disch:=omega) only [w64_in]
     refine br_t (by decide) ?_
     dsimp only [rnds_succ,go_sem,rA,rM,rS]
     repeat (first | (refine ixa 1 rfl (by decide) ?_;dsimp only [rnds_succ,go_sem,rA,rM,rS]) | (refine br_t (by simp;omega) ?_;dsimp only [rnds_succ,zeroC,go_sem,rA,rM,rS]))
end Go.Proofs.Ytnlfjchbhgikaaa
set_option maxRecDepth 100000
set_option maxHeartbeats 4000000
namespace Go.Proofs.Ytnlfjchbhgikaaa
open Go Go.Sx Go.Azalai
end Go.Proofs.Ytnlfjchbhgikaaa
set_option maxRecDepth 100000
set_option maxHeartbeats 4000000
namespace Go.Azalai
def afterE (b:Breed) (c:Camel) (m:March):Camel × Int × Int :=
 if errC b c ≠ 0 then (zeroC,0,errC b c) else if okMarch m = false then (zeroC,0,12) else if (afterF b c m).2 = 2 then (zeroC,0,13) else ((afterF b c m).1,(afterF b c m).2,0)
def daysG (b:Breed) (c:Camel) (out:List Camel) (worst:Int):List March → List Camel × Int × Int × Int
 | []=>(out,worst,0,0)
 | m :: r=>if (afterF b c m).2 = 2 then ([],2,out.length,13) else daysG b (afterF b c m).1 (out ++ [(afterF b c m).1]) (max worst (afterF b c m).2) r
def daysF (b:Breed) (c:Camel) (l:List March):List Camel × Int × Int × Int:=if errL b c l ≠ 0 then ([],0,0,errL b c l) else daysG b c [] 0 l
end Go.Azalai
namespace Go.Proofs.Ytnlfjchbhgikaaa
open Go Go.Sx Go.Azalai
def rowsE (e:Int) (l:List Camel):SV:=if e = 0 then .sl false 7 (l.map camelL) else .v (.slice none 0 0)
def U8 (n:Int):SV:=.v (.int .u8 n)
theorem after1_ok (b:Breed) (c:Camel) (m:March):Ct Try.prog 29 [.agg (breedL b),.agg (camelL c),.agg (marchL m)] (.tup [.agg (camelL (afterE b c m).1),U8 (afterE b c m).2.1,I (afterE b c m).2.2]):=by
 refine t29 (by simp [breedL,camelL,marchL,KFL,KF]) (by simp [camelL,U8,KFL,KF]) ?_
 dsimp only [c29,r29,breedL,camelL,marchL,go_sem,rA,rM,rS]
 refine call (checkCamel_ok b c) ?_
 dsimp only [go_sem,rA,rM,rS]
 by_cases h0:errC b c = 0
 case neg =>
  refine br_t (by simpa using h0) ?_
  dsimp only [go_sem,rA,rM,rS]
  simp [afterE,h0,zeroC,U8,camelL]
 refine br_f (by simpa using h0) ?_
 dsimp only [go_sem,rA,rM,rS]
 obtain ⟨hb,hc⟩:=errC_0.1 h0
 refine call (checkDay1 m true) ?_
 dsimp only [go_sem,rA,rM,rS]
 by_cases hm:okMarch m = true
 case neg =>
  refine br_t (by simp [hm]) ?_
  dsimp only [go_sem,rA,rM,rS]
  simp [afterE,h0,hm,zeroC,U8,camelL]
 refine br_f (by simp [hm]) ?_
 dsimp only [go_sem,rA,rM,rS]
 by_cases hd:(afterF b c m).2 = 2
 · refine call (day_dies b c m hb hc hm hd) ?_
   dsimp only [beastL,zeroC,go_sem,rA,rM,rS]
   refine br_t (by decide) ?_
   dsimp only [go_sem,rA,rM,rS]
   simp [afterE,h0,hm,hd,zeroC,U8,camelL]
 refine call (day_ok b c m hb hc hm hd) ?_
 dsimp only [beastL,go_sem,rA,rM,rS]
 refine br_f (by simpa using hd) ?_
 dsimp only [go_sem,rA,rM,rS]
 simp [afterE,h0,hm,hd,U8,camelL]
theorem errL_0 {b:Breed} {c:Camel} {l:List March} (h0:errL b c l = 0):okBreed b = true ∧ okCamel b c = true ∧ l.length ≤ 60 ∧ l.all okMarch = true:=by
 unfold errL at h0
 by_cases e1:errC b c = 0
 · obtain ⟨q1,q2⟩:=errC_0.1 e1
   by_cases e2:l.length > 60
   · simp [e1,e2] at h0
   · by_cases e3:l.all okMarch = true
     · exact ⟨q1,q2,by omega,e3⟩
     · simp only [e1,e2] at h0;simp at e3 h0;grind
 · simp [e1] at h0
end Go.Proofs.Ytnlfjchbhgikaaa
set_option maxRecDepth 100000
set_option maxHeartbeats 4000000
namespace Go.Proofs.Ytnlfjchbhgikaaa
open Go Go.Sx Go.Azalai
def iterO (b:Breed) (c:Camel) (l:List March) (k:Bool):Ot:=⟨false,.cl 95 [.p 1 0,.p 0 0],[(1,.cells [.sl k 8 (l.map marchL)] 44),(0,.cells (beastL b c) 107)],2⟩
theorem iter_ok (b:Breed) (c:Camel) (l:List March) (k:Bool):CtM Try.prog 75 [] 0 [.agg (beastL b c),.sl k 8 (l.map marchL)] (fun o=>o = iterO b c l k):=by
 refine m75 (by simp [hpb]) (fun o ho=>by subst ho;simp [iterO,KX,KXL,KXP,KXH,KFR_iff,KFL,KF,marchL,beastL]) ?_
 dsimp only [c75,r75,beastL,go_sem,rA,rM,rS]
 refine ⟨_,rfl,?_⟩
 simp only [iterO]
 (refine entO_id ?_ ?_ ?_ rfl <;> dsimp only [beastL,marchL,id,go_sem,rA,rM,rS] <;> simp [beastL,marchL,KFR_iff,KFR_app,KFR,KFL,KF,mtL_same,mtO,nbr])
end Go.Proofs.Ytnlfjchbhgikaaa
set_option maxRecDepth 100000
set_option maxHeartbeats 4000000
namespace Go.Sx
open Go
end Go.Sx
namespace Go.Proofs.Ytnlfjchbhgikaaa
open Go Go.Sx Go.Azalai
def U64 (n:Int):SV:=.v (.int .u64 n)
theorem uw {n:Int} (h0:0 ≤ n) (h1:n < 18446744073709551616):IntKind.u64.wrap n = n:=by
 have e:n % 2 ^ IntKind.u64.bits = n:=Int.emod_eq_of_lt h0 (by show n < 2 ^ 64;omega)
 simp only [IntKind.wrap,e,show IntKind.u64.signed = false from rfl,Bool.false_and]
 rfl
theorem mul64_ok (n:Int) (h0:0 ≤ n) (h1:n ≤ 1000000):Ct Try.prog 104 [U64 1,U64 n] (.tup [U64 0,U64 n]):=by
 refine t104 (by simp [U64,KFL,KF]) (by simp [U64,KFL,KF]) ?_
 dsimp only [c104,r104,U64,go_sem,rA,rM,rS]
 have sh:∀ (m:Int),0 ≤ m → m < 4294967296 → ∀ w:World,(binOp .shr 164 (.int .u64 m) (.int .u64 32)).run Try.prog w = .ok (.int .u64 0) w:=fun m q0 q1 w=>by
  simp only [binOp,Op.shift]
  rw [if_neg (by decide)]
  have:m.fdiv (2 ^ 32) = 0:=by rw [Int.fdiv_eq_ediv_of_nonneg _ (by decide)];omega
  show Result.ok (Value.int .u64 (m.fdiv (2 ^ (min (32:Int).toNat IntKind.u64.bits)))) w = _
  rw [show min (32:Int).toNat IntKind.u64.bits = 32 from by decide,this]
 have an:∀ (m:Int),0 ≤ m → m < 4294967296 → ∀ w:World,(binOp .and 164 (.int .u64 m) (.int .u64 4294967295)).run Try.prog w = .ok (.int .u64 m) w:=fun m q0 q1 w=>by
  obtain ⟨k,rfl⟩:=Int.eq_ofNat_of_zero_le q0
  have hk:k < 4294967296:=by omega
  have e:(BitVec.ofInt 64 (k:Int) &&& BitVec.ofInt 64 4294967295).toNat = k:=by
   rw [BitVec.toNat_and,show (BitVec.ofInt 64 4294967295).toNat = 2 ^ 32 - 1 from by decide,Nat.and_two_pow_sub_one_eq_mod,BitVec.ofInt_natCast,BitVec.toNat_ofNat]
   omega
  show Result.ok (Value.int .u64 (IntKind.u64.wrap (((BitVec.ofInt 64 (k:Int) &&& BitVec.ofInt 64 4294967295).toNat:Nat):Int))) w = _
  rw [e,uw (by omega) (by omega)]
 refine raw_bin rfl (.inl rfl) (an 1 (by omega) (by omega)) rfl ?_
 dsimp only [go_sem,rA,rM,rS]
 refine raw_bin rfl (.inr rfl) (sh 1 (by omega) (by omega)) rfl ?_
 dsimp only [go_sem,rA,rM,rS]
 refine raw_bin rfl (.inl rfl) (an n (by omega) (by omega)) rfl ?_
 dsimp only [go_sem,rA,rM,rS]
 refine raw_bin rfl (.inr rfl) (sh n (by omega) (by omega)) rfl ?_
 dsimp only [go_sem,rA,rM,rS]
 simp (disch:=omega) only [uw,Int.one_mul,Int.zero_mul,Int.mul_zero,Int.add_zero,Int.zero_add]
 refine raw_bin rfl (.inr rfl) (sh n (by omega) (by omega)) rfl ?_
 dsimp only [go_sem,rA,rM,rS]
 simp (disch:=omega) only [uw,Int.one_mul,Int.zero_mul,Int.mul_zero,Int.add_zero,Int.zero_add]
 refine raw_bin rfl (.inl rfl) (an 0 (by omega) (by omega)) rfl ?_
 dsimp only [go_sem,rA,rM,rS]
 refine raw_bin rfl (.inr rfl) (sh 0 (by omega) (by omega)) rfl ?_
 dsimp only [go_sem,rA,rM,rS]
 simp (disch:=omega) only [uw,Int.one_mul,Int.zero_mul,Int.mul_zero,Int.add_zero,Int.zero_add]
 refine raw_bin rfl (.inr rfl) (sh 0 (by omega) (by omega)) rfl ?_
 dsimp only [go_sem,rA,rM,rS]
 simp (disch:=omega) only [uw,Int.one_mul,Int.zero_mul,Int.mul_zero,Int.add_zero,Int.zero_add]
theorem mul_ok (n:Int) (h0:0 ≤ n) (h1:n ≤ 1000000):Ct Try.prog 96 [U64 1,U64 n] (.tup [U64 0,U64 n]):=by
 refine t96 (by simp [U64,KFL,KF]) (by simp [U64,KFL,KF]) ?_
 dsimp only [c96,r96,U64,go_sem,rA,rM,rS]
 refine br_f (by decide) ?_
 dsimp only [go_sem,rA,rM,rS]
 refine call (mul64_ok n h0 h1) ?_
 dsimp only [U64,go_sem,rA,rM,rS]
theorem kfr_rep {r:List SV} (h:KFL r):∀ n,KFR (List.replicate n r)
 | 0=>trivial
 | n + 1=>⟨h,kfr_rep h n⟩
theorem rep_ok (m:March) (n:Nat) (h0:1 ≤ n) (h1:n ≤ 1000) (k:Bool):Ct Try.prog 76 [.sl k 8 [marchL m],I n] (.sl false 8 (List.replicate n (marchL m))):=by
 have hm:KFL (marchL m):=by simp [marchL,KFL,KF]
 have hone:allOne (marchL m) = true:=rfl
 refine t76 (by simp [marchL,KFR,KFL,KF]) (by simp only [KF];exact kfr_rep hm n) ?_
 generalize marchL m = row at hm hone
 dsimp only [c76,r76,go_sem,rA,rM,rS]
 refine br_f (by simp) ?_
 dsimp only [go_sem,rA,rM,rS]
 rw [show ((1:Nat):Int) = 1 from rfl]
 simp (disch:=omega) only [uw]
 refine call (mul_ok n (by omega) (by omega)) ?_
 dsimp only [U64,go_sem,rA,rM,rS]
 refine gb ?_
 dsimp only [go_sem,rA,rM,rS]
 refine gb ?_
 dsimp only [go_sem,rA,rM,rS]
 refine br_f (by simp;omega) ?_
 dsimp only [go_sem,rA,rM,rS]
 refine ⟨n,w64_in (by omega) (by omega),by omega,?_⟩
 have hz:KFL [SV.v (Value.int IntKind.i64 0),SV.v (Value.int IntKind.i64 0),SV.v (Value.int IntKind.i64 0),SV.v (Value.int IntKind.i64 0),SV.v (Value.int IntKind.i64 0),SV.v (Value.int IntKind.i64 0),SV.v (Value.int IntKind.i64 0),SV.v (Value.int IntKind.i64 0)]:=by simp [KFL,KF]
 generalize [SV.v (Value.int IntKind.i64 0),SV.v (Value.int IntKind.i64 0),SV.v (Value.int IntKind.i64 0),SV.v (Value.int IntKind.i64 0),SV.v (Value.int IntKind.i64 0),SV.v (Value.int IntKind.i64 0),SV.v (Value.int IntKind.i64 0),SV.v (Value.int IntKind.i64 0)] = z at hz
 dsimp only [go_sem,rA,rM,rS]
 refine ⟨(by intro c hc;simp only [List.mem_singleton] at hc;subst hc;exact hone),by simp,?_⟩
 have hmin:min n 1 = 1:=by omega
 simp only [List.length_replicate,List.length_singleton,hmin,List.drop_replicate]
 dsimp only [go_sem,rA,rM,rS]
 refine loopO (fun j:Nat=>[(8,I j)]) (fun j=>[(0,.row 0 8 (List.replicate j row ++ List.replicate (n - j) z) 29)]) (fun j=>1 ≤ j ∧ j ≤ n) (fun j=>n - j) 1 ⟨Nat.le_refl _,h0⟩ ?_ ?_
 · refine ent_id ?_ ?_ ?_ rfl rfl <;> dsimp only [id,go_sem,rA,rM,rS] <;> simp [KFR_app,kfr_rep,hz,hm,mtL_same,mtO,nbr,KFR,KFL,KF]
 rintro j ⟨hj0,hj⟩
 dsimp only [go_sem,rA,rM,rS]
 simp only [List.length_append,List.length_replicate,show j + (n - j) = n from by omega]
 by_cases hlt:j < n
 · refine br_t (by simpa using hlt) ?_
   dsimp only [go_sem,rA,rM,rS]
   refine ⟨j,n,⟨rfl,by simp;omega,by omega,by simp;omega⟩,?_⟩
   dsimp only [go_sem,rA,rM,rS]
   refine ⟨0,j,⟨rfl,rfl,by omega,by simp⟩,?_⟩
   dsimp only [go_sem,rA,rM,rS]
   have hx:List.take (j - 0) (List.replicate j row ++ List.replicate (n - j) z) = List.replicate j row:=by rw [Nat.sub_zero];exact List.take_left' (by simp)
   have hx':List.take j (List.replicate j row ++ List.replicate (n - j) z) = List.replicate j row:=List.take_left' (by simp)
   rw [hx]
   refine ⟨by simp,(by intro c hc;rw [List.eq_of_mem_replicate hc];exact hone),by simp,?_⟩
   simp only [List.length_replicate]
   generalize hN:min (n - j) j = N
   have e:List.take j (List.replicate j row ++ List.replicate (n - j) z) ++ (List.take N (List.replicate j row) ++ List.drop (j + N) (List.replicate j row ++ List.replicate (n - j) z)) = List.replicate (j + N) row ++ List.replicate (n - (j + N)) z:=by
    rw [hx',List.take_replicate,List.drop_append,List.drop_of_length_le (l:=List.replicate j row) (by simp),List.length_replicate,List.nil_append,List.drop_replicate,← List.append_assoc,List.replicate_append_replicate,show min N j = N from by omega]
    congr 2;omega
   rw [e]
   dsimp only [go_sem,rA,rM,rS]
   rw [show (j:Int) + (N:Int) = ((j + N:Nat):Int) from by omega,w64_in (n:=((j + N:Nat):Int)) (by omega) (by omega)]
   refine ⟨j + N,⟨by omega,by omega⟩,by omega,?_⟩
   refine ent_id ?_ ?_ ?_ rfl rfl <;> dsimp only [id,go_sem,rA,rM,rS] <;> simp [KFR_app,kfr_rep,hz,hm,mtL_same,mtO,nbr,KFR,KFL,KF]
 refine br_f (by simp;omega) ?_
 dsimp only [go_sem,rA,rM,rS]
 have hje:j = n:=by omega
 subst hje
 simp
end Go.Proofs.Ytnlfjchbhgikaaa
set_option maxRecDepth 100000
set_option maxHeartbeats 4000000
namespace Go.Azalai
def oddM (n:Int) (m:Meet):Bool:=!(inR 0 (n - 1) m.a && inR 0 (n - 1) m.b) || decide (m.a = m.b) || !inR 0 100000 m.day
end Go.Azalai
namespace Go.Proofs.Ytnlfjchbhgikaaa
open Go Go.Sx Go.Azalai
theorem idx97 (h:Nat) (caps:List SV) (hk:KFL caps) (g:Meet → Bool) (l:List Meet) (hg:∀ x ∈ l,Ct Try.prog h (.agg (meetL x) :: caps) (B (g x))) (hl:l.length < 4611686018427387904) {c:Bool} :
 Ct Try.prog 97 [.sl c 4 (l.map meetL),.cl h caps] (I (idxF g l 0)):=by
 refine t97 ⟨by simp [KF,KFR_iff,KFL,meetL],hk,trivial⟩ (by simp [KF]) ?_
 dsimp only [c97,r97,go_sem,rA,rM,rS]
 refine loopO (fun k:Nat=>[(8,I k)]) (fun _=>[]) (fun k=>k ≤ l.length ∧ idxF g (l.drop k) k = idxF g l 0) (fun k=>l.length - k) 0 ⟨Nat.zero_le _,rfl⟩ ?_ ?_
 · (refine ent_id ?_ ?_ ?_ rfl rfl <;> dsimp only [meetL,hk,id,go_sem,rA,rM,rS] <;> simp [meetL,hk,KFR_iff,KFR_app,KFR,KFL,KF,mtL_same,mtO,nbr])
 · intro k ⟨hk',hi⟩
   dsimp only [go_sem,rA,rM,rS]
   refine br ?_ ?_
   · intro hlt
     have hlt:k < l.length:=by simpa using hlt
     dsimp only [go_sem,rA,rM,rS]
     refine ixs_map k hlt rfl ?_
     dsimp only [meetL,go_sem,rA,rM,rS]
     refine call (hg l[k] (List.getElem_mem _)) ?_
     dsimp only [go_sem,rA,rM,rS]
     refine br ?_ ?_
     · intro hgx
       dsimp only [go_sem,rA,rM,rS]
       rw [← hi,List.drop_eq_getElem_cons hlt]
       simp [idxF,hgx]
     · intro hgx
       dsimp only [go_sem,rA,rM,rS]
       refine ⟨k + 1,⟨by omega,?_⟩,by omega,?_⟩
       · rw [← hi,List.drop_eq_getElem_cons hlt];simp [idxF,hgx]
       · rw [w64_in (by omega) (by omega)]
         (refine ent_id ?_ ?_ ?_ rfl rfl <;> dsimp only [meetL,hk,id,go_sem,rA,rM,rS] <;> simp [meetL,hk,KFR_iff,KFR_app,KFR,KFL,KF,mtL_same,mtO,nbr])
   · intro hlt
     have hlt:k = l.length:=by simp at hlt;omega
     dsimp only [go_sem,rA,rM,rS]
     rw [← hi,hlt];simp [idxF]
theorem con78 (h:Nat) (caps:List SV) (hk:KFL caps) (g:Meet → Bool) (l:List Meet) (hg:∀ x ∈ l,Ct Try.prog h (.agg (meetL x) :: caps) (B (g x))) (hl:l.length < 4611686018427387904) {c:Bool} :
 Ct Try.prog 78 [.sl c 4 (l.map meetL),.cl h caps] (B (l.any g)):=by
 refine t78 ⟨by simp [KF,KFR_iff,KFL,meetL],hk,trivial⟩ (by simp [KF]) ?_
 dsimp only [c78,r78,go_sem,rA,rM,rS]
 refine call (idx97 h caps hk g l hg hl) ?_
 dsimp only [go_sem,rA,rM,rS]
 rw [idxF_any]
theorem del_ok (m:Meet):Ct Try.prog 85 [.agg (meetL m)] (B (!m.close)):=by
 refine t85 (by simp [meetL,KFL,KF]) (by simp [KFL,KF]) ?_
 dsimp only [c85,r85,meetL,go_sem,rA,rM,rS]
theorem odd_ok (n:Int) (hn:1 ≤ n) (hn':n ≤ 30) (m:Meet):Ct Try.prog 77 [.agg (meetL m),.ps [I n] 0] (B (oddM n m)):=by
 refine t77 (by simp [meetL,KFL,KF]) (by simp [KFL,KF]) ?_
 dsimp only [c77,r77,meetL,go_sem,rA,rM,rS]
 rw [w64_in (n:=n - 1) (by omega) (by omega)]
 refine call (from2 0 (n - 1) m.a m.b true) ?_
 dsimp only [go_sem,rA,rM,rS]
 repeat (refine gb ?_;dsimp only [go_sem,rA,rM,rS])
 refine call (from1 0 100000 m.day true) ?_
 dsimp only [go_sem,rA,rM,rS]
 repeat (refine gb ?_;dsimp only [go_sem,rA,rM,rS])
 simp only [Option.some.injEq,SV.v.injEq,Value.bool.injEq,oddM]
 rfl
theorem repi_ok (x:Int) (n:Nat) (h0:1 ≤ n) (h1:n ≤ 1000) (k:Bool):CtM Try.prog 100 [] 0 [.sl k 1 [[I x]],I n] (fun o=>o = ⟨false,.mr 0 0,[(0,.row 0 1 (List.replicate n [I x]) 3)],1⟩):=by
 have hm:KFL [I x]:=by simp [KFL,KF]
 have hone:allOne [I x] = true:=rfl
 have hkr:=kfr_rep hm n
 refine m100 (by simp [hpb]) (fun o ho=>by subst ho;simp only [KX,KXL,KXP,KXH];exact ⟨trivial,hkr,trivial⟩) ?_
 generalize [I x] = row at hm hone hkr
 dsimp only [c100,r100,go_sem,rA,rM,rS]
 refine br_f (by simp) ?_
 dsimp only [go_sem,rA,rM,rS]
 rw [show ((1:Nat):Int) = 1 from rfl]
 simp (disch:=omega) only [uw]
 refine call (mul_ok n (by omega) (by omega)) ?_
 dsimp only [U64,go_sem,rA,rM,rS]
 refine gb ?_
 dsimp only [go_sem,rA,rM,rS]
 refine gb ?_
 dsimp only [go_sem,rA,rM,rS]
 refine br_f (by simp;omega) ?_
 dsimp only [go_sem,rA,rM,rS]
 refine ⟨n,w64_in (by omega) (by omega),by omega,?_⟩
 have hz:KFL [SV.v (Value.int IntKind.i64 0)]:=by simp [KFL,KF]
 generalize [SV.v (Value.int IntKind.i64 0)] = z at hz
 dsimp only [go_sem,rA,rM,rS]
 refine ⟨(by intro c hc;simp only [List.mem_singleton] at hc;subst hc;exact hone),by simp,?_⟩
 have hmin:min n 1 = 1:=by omega
 simp only [List.length_replicate,List.length_singleton,hmin,List.drop_replicate]
 dsimp only [go_sem,rA,rM,rS]
 refine loopO (fun j:Nat=>[(8,I j)]) (fun j=>[(0,.row 0 1 (List.replicate j row ++ List.replicate (n - j) z) 3)]) (fun j=>1 ≤ j ∧ j ≤ n) (fun j=>n - j) 1 ⟨Nat.le_refl _,h0⟩ ?_ ?_
 · refine ent_id ?_ ?_ ?_ rfl rfl <;> dsimp only [id,go_sem,rA,rM,rS] <;> simp [KFR_app,kfr_rep,hz,hm,mtL_same,mtO,nbr,KFR,KFL,KF]
 rintro j ⟨hj0,hj⟩
 dsimp only [go_sem,rA,rM,rS]
 simp only [List.length_append,List.length_replicate,show j + (n - j) = n from by omega]
 by_cases hlt:j < n
 · refine br_t (by simpa using hlt) ?_
   dsimp only [go_sem,rA,rM,rS]
   refine ⟨j,n,⟨rfl,by simp;omega,by omega,by simp;omega⟩,?_⟩
   dsimp only [go_sem,rA,rM,rS]
   refine ⟨0,j,⟨rfl,rfl,by omega,by simp⟩,?_⟩
   dsimp only [go_sem,rA,rM,rS]
   have hx:List.take (j - 0) (List.replicate j row ++ List.replicate (n - j) z) = List.replicate j row:=by rw [Nat.sub_zero];exact List.take_left' (by simp)
   have hx':List.take j (List.replicate j row ++ List.replicate (n - j) z) = List.replicate j row:=List.take_left' (by simp)
   rw [hx]
   refine ⟨by simp,(by intro c hc;rw [List.eq_of_mem_replicate hc];exact hone),by simp,?_⟩
   simp only [List.length_replicate]
   generalize hN:min (n - j) j = N
   have e:List.take j (List.replicate j row ++ List.replicate (n - j) z) ++ (List.take N (List.replicate j row) ++ List.drop (j + N) (List.replicate j row ++ List.replicate (n - j) z)) = List.replicate (j + N) row ++ List.replicate (n - (j + N)) z:=by
    rw [hx',List.take_replicate,List.drop_append,List.drop_of_length_le (l:=List.replicate j row) (by simp),List.length_replicate,List.nil_append,List.drop_replicate,← List.append_assoc,List.replicate_append_replicate,show min N j = N from by omega]
    congr 2;omega
   rw [e]
   dsimp only [go_sem,rA,rM,rS]
   rw [show (j:Int) + (N:Int) = ((j + N:Nat):Int) from by omega,w64_in (n:=((j + N:Nat):Int)) (by omega) (by omega)]
   refine ⟨j + N,⟨by omega,by omega⟩,by omega,?_⟩
   refine ent_id ?_ ?_ ?_ rfl rfl <;> dsimp only [id,go_sem,rA,rM,rS] <;> simp [KFR_app,kfr_rep,hz,hm,mtL_same,mtO,nbr,KFR,KFL,KF]
 refine br_f (by simp;omega) ?_
 dsimp only [go_sem,rA,rM,rS]
 have hje:j = n:=by omega
 subst hje
 simp only [Nat.sub_self,List.replicate_zero,List.append_nil]
 refine ⟨_,rfl,?_⟩
 refine entO_id ?_ ?_ ?_ rfl <;> dsimp only [id,go_sem,rA,rM,rS] <;> simp [KFR_app,kfr_rep,hm,mtL_same,mtO,nbr,KFR,KFL,KF]
theorem clone_ok (l:List Meet) (hL:l.length ≤ 1000) (k:Bool):CtM Try.prog 79 [] 0 [.sl k 4 (l.map meetL)] (fun o=>o = ⟨false,.mr 0 0,[(0,.row 0 4 (l.map meetL) 73)],1⟩):=by
 refine m79 (by simp [hpb]) (fun o ho=>by subst ho;simp [KX,KXL,KXP,KXH,KFR_iff,KFL,KF,meetL]) ?_
 dsimp only [c79,r79,go_sem,rA,rM,rS]
 intro b hb
 dsimp only [go_sem,rA,rM,rS]
 cases b with
 | true =>
  have hl:l = []:=by simpa using hb rfl
  subst hl
  refine br_t rfl ?_
  dsimp only [go_sem,rA,rM,rS]
  refine ⟨_,rfl,?_⟩
  refine entO_of (ent_trans (ent_nilslot 0 4 73 rfl rfl) ?_) (fun _ _ _ e=>by cases e)
  (refine ent_id ?_ ?_ ?_ rfl rfl <;> dsimp only [meetL,id,go_sem,rA,rM,rS] <;> simp [meetL,KFR_iff,KFR_app,KFR,KFL,KF,mtL_same,mtO,nbr])
 | false =>
  refine br_f rfl ?_
  dsimp only [go_sem,rA,rM,rS]
  refine ⟨by simp;omega,?_⟩
  dsimp only [go_sem,rA,rM,rS]
  refine ⟨_,rfl,?_⟩
  (refine entO_id ?_ ?_ ?_ rfl <;> dsimp only [meetL,id,go_sem,rA,rM,rS] <;> simp [meetL,KFR_iff,KFR_app,KFR,KFL,KF,mtL_same,mtO,nbr])
end Go.Proofs.Ytnlfjchbhgikaaa
set_option maxRecDepth 100000
set_option maxHeartbeats 4000000
namespace Go.Azalai
theorem idxF_none {α : Type} (g:α → Bool):∀ (l:List α) (k:Nat),idxF g l k = -1 → l.filter (fun x=>!g x) = l
 | [],k,_=>rfl
 | x :: l,k,h=>by
  unfold idxF at h
  split at h
  · omega
  · rename_i hx
    rw [List.filter_cons_of_pos (by simp [hx]),idxF_none g l (k + 1) h]
theorem idxF_some {α : Type} (g:α → Bool):∀ (l:List α) (k:Nat),idxF g l k ≠ -1 → ∃ i,i < l.length ∧ idxF g l k = ((k + i:Nat):Int) ∧ (l.take (i + 1)).filter (fun x=>!g x) = l.take i
 | [],k,h=>by simp [idxF] at h
 | x :: l,k,h=>by
  unfold idxF at h ⊢
  by_cases hx:g x = true
  · rw [if_pos hx];exact ⟨0,by simp,by simp,by simp [hx]⟩
  · rw [if_neg hx] at h ⊢
    obtain ⟨i,h1,h2,h3⟩:=idxF_some g l (k + 1) h
    refine ⟨i + 1,by simp;omega,by rw [h2];congr 1;omega,?_⟩
    rw [List.take_succ_cons,List.filter_cons_of_pos (by simp [hx]),h3,List.take_succ_cons]
end Go.Azalai
namespace Go.Proofs.Ytnlfjchbhgikaaa
open Go Go.Sx Go.Azalai
def delPost (v:Nat) (l:List Meet) (o:Ot):Prop :=
 (l.filter (·.close) = l ∧ o = ⟨false,.mr 0 v,[(0,.row v 4 (l.map meetL) 73)],1⟩) ∨
  ∃ l':List Meet,l'.length = l.length ∧ (l.filter (·.close)).length ≤ l'.length ∧ l'.take (l.filter (·.close)).length = l.filter (·.close) ∧ o = ⟨false,.ms 0 v 4 0 (l.filter (·.close)).length,[(0,.row v 4 (l'.map meetL) 73)],1⟩
theorem delete_ok (v:Nat) (l:List Meet) (hL:l.length ≤ 1000) :
 CtM Try.prog 84 [(0,.row v 4 (l.map meetL) 73)] 1 [.mr 0 v,.cl 85 []] (delPost v l):=by
 refine m84 (by simp [hpb]) (fun o ho=>by rcases ho with ⟨_,rfl⟩ | ⟨l',_,_,_,rfl⟩ <;> simp [KX,KXL,KXP,KXH,KFR_iff,KFL,KF,meetL]) ?_
 dsimp only [c84,r84,go_sem,rA,rM,rS]
 refine callv (by simp [FLT]) (res:=I (idxF (fun m:Meet=>!m.close) l 0)) ?_ ?_
 · (repeat first | dsimp only [go_sem,rA,rM,rS] | simp only [nbr])
   exact idx97 85 [] trivial (fun m:Meet=>!m.close) l (fun m _=>del_ok m) (by omega)
 dsimp only [go_sem,rA,rM,rS]
 by_cases hn:idxF (fun m:Meet=>!m.close) l 0 = -1
 · refine br_t (by simpa using hn) ?_
   dsimp only [go_sem,rA,rM,rS]
   refine ⟨_,.inl ⟨by simpa using idxF_none _ l 0 hn,rfl⟩,?_⟩
   (refine entO_id ?_ ?_ ?_ rfl <;> dsimp only [meetL,id,go_sem,rA,rM,rS] <;> simp [meetL,KFR_iff,KFR_app,KFR,KFL,KF,mtL_same,mtO,nbr])
 refine br_f (by simpa using hn) ?_
 dsimp only [go_sem,rA,rM,rS]
 obtain ⟨i0,h1,h2,h3⟩:=idxF_some _ l 0 hn
 rw [Nat.zero_add] at h2
 rw [h2]
 rw [w64_in (n:=(i0:Int) + 1) (by omega) (by omega)]
 simp only [Bool.not_not] at h3
 refine loopO (fun s:Nat × Nat × List Meet=>[(5,I s.1),(6,I s.2.1)]) (fun s=>[(0,.row v 4 (s.2.2.map meetL) 73)]) (fun s=>(s.1 < s.2.1 ∧ s.2.1 ≤ l.length) ∧ s.2.2.length = l.length ∧ s.1 = ((l.take s.2.1).filter (·.close)).length ∧ s.2.2.take s.1 = (l.take s.2.1).filter (·.close) ∧ ∀ p,s.2.1 ≤ p → s.2.2[p]? = l[p]?) (fun s=>l.length - s.2.1) (i0,i0 + 1,l) ⟨by simp only;omega,rfl,by simp only [h3];simp;omega,h3.symm,fun _ _=>rfl⟩ ?_ ?_
 · rw [show (i0:Int) + 1 = ((i0 + 1:Nat):Int) from by omega]
   (refine ent_id ?_ ?_ ?_ rfl rfl <;> dsimp only [meetL,id,go_sem,rA,rM,rS] <;> simp [meetL,KFR_iff,KFR_app,KFR,KFL,KF,mtL_same,mtO,nbr])
 rintro ⟨i,j,l1⟩ ⟨⟨hij,hj⟩,hl1,hi,ht,hd⟩
 simp only at hij hj hl1 hi ht hd
 (repeat first | dsimp only [go_sem,rA,rM,rS] | simp only [nbr])
 simp only [List.length_map]
 by_cases hlt:j < l.length
 · refine br_t (by simp;omega) ?_
   (repeat first | dsimp only [go_sem,rA,rM,rS] | simp only [nbr])
   refine ixrm j rfl (by simp;omega) ?_
   (repeat first | dsimp only [go_sem,rA,rM,rS] | simp only [nbr])
   refine ldrm (by omega) ?_
   (repeat first | dsimp only [meetL,go_sem,rA,rM,rS] | simp only [nbr])
   have hlj:l1[j] = l[j]:=by
    have:=hd j (Nat.le_refl _)
    rw [List.getElem?_eq_getElem (by omega),List.getElem?_eq_getElem hlt] at this
    exact Option.some.inj this
   have htake:l.take (j + 1) = l.take j ++ [l[j]]:=(List.take_append_getElem hlt).symm
   refine call (del_ok l1[j]) ?_
   (repeat first | dsimp only [go_sem,rA,rM,rS] | simp only [nbr])
   by_cases hc:l1[j].close = true
   · refine br_t (by simp [hc]) ?_
     (repeat first | dsimp only [go_sem,rA,rM,rS] | simp only [nbr])
     refine ixrm i rfl (by simp;omega) ?_
     (repeat first | dsimp only [go_sem,rA,rM,rS] | simp only [nbr])
     refine strm l1[j] (by omega) (by simp [meetL]) (by simp [meetL,splice]) ?_
     (repeat first | dsimp only [go_sem,rA,rM,rS] | simp only [nbr])
     simp (disch:=omega) only [w64_in]
     refine ⟨(i + 1,j + 1,l1.set i l1[j]),⟨by simp only;omega,by simp [hl1],?_,?_,fun p hp=>?_⟩,by simp only;omega,?_⟩
     · simp only;rw [htake,List.filter_append,List.length_append,← hi];rw [hlj] at hc;simp [hc]
     · simp only
       rw [htake,List.filter_append,← ht,hlj]
       rw [hlj] at hc
       rw [List.take_succ_eq_append_getElem (by simp;omega)]
       simp [hc,List.take_set_of_le]
     · simp only at hp ⊢
       rw [List.getElem?_set_ne (by omega)];exact hd p (by omega)
     · rw [show (i:Int) + 1 = ((i + 1:Nat):Int) from by omega,show (j:Int) + 1 = ((j + 1:Nat):Int) from by omega]
       generalize l1.set i l1[j] = l2
       (refine ent_id ?_ ?_ ?_ rfl rfl <;> dsimp only [meetL,id,go_sem,rA,rM,rS] <;> simp [meetL,KFR_iff,KFR_app,KFR,KFL,KF,mtL_same,mtO,nbr])
   · refine br_f (by simp [hc]) ?_
     (repeat first | dsimp only [go_sem,rA,rM,rS] | simp only [nbr])
     simp (disch:=omega) only [w64_in]
     refine ⟨(i,j + 1,l1),⟨by simp only;omega,hl1,?_,?_,fun p hp=>hd p (by simp only at hp;omega)⟩,by simp only;omega,?_⟩
     · simp only;rw [htake,List.filter_append,List.length_append,← hi];rw [hlj] at hc;simp [hc]
     · simp only;rw [htake,List.filter_append,ht];rw [hlj] at hc;simp [hc]
     · rw [show (j:Int) + 1 = ((j + 1:Nat):Int) from by omega]
       (refine ent_id ?_ ?_ ?_ rfl rfl <;> dsimp only [meetL,id,go_sem,rA,rM,rS] <;> simp [meetL,KFR_iff,KFR_app,KFR,KFL,KF,mtL_same,mtO,nbr])
 refine br_f (by simp;omega) ?_
 (repeat first | dsimp only [go_sem,rA,rM,rS] | simp only [nbr])
 have hje:j = l.length:=by omega
 subst hje
 rw [List.take_length] at hi ht
 refine ⟨i,l.length,⟨rfl,by simp;omega,by omega,by simp;omega⟩,?_⟩
 (repeat first | dsimp only [go_sem,rA,rM,rS] | simp only [nbr])
 refine raw_clear (z:=.agg #[.int .i64 0,.int .i64 0,.int .i64 0,.bool false]) (zl:=[.int .i64 0,.int .i64 0,.int .i64 0,.bool false]) rfl rfl (by simp;omega) (by kernel_rfl) (by kernel_rfl) rfl rfl (by intro v hv;simp at hv;rcases hv with rfl | rfl <;> rfl) ?_
 have hrow:List.take i (List.map meetL l1) ++ (List.replicate (l.length - i) (List.map SV.v [Value.int IntKind.i64 0,Value.int IntKind.i64 0,Value.int IntKind.i64 0,Value.bool false]) ++ List.drop (i + (l.length - i)) (List.map meetL l1)) = (l1.take i ++ List.replicate (l.length - i) (⟨0,0,0,false⟩:Meet)).map meetL:=by
  rw [List.drop_of_length_le (by simp;omega),List.append_nil,List.map_append,List.map_take,List.map_replicate]
  rfl
 rw [hrow]
 obtain ⟨l2,hl2⟩:∃ l2,l2 = l1.take i ++ List.replicate (l.length - i) (⟨0,0,0,false⟩:Meet):=⟨_,rfl⟩
 rw [← hl2]
 have hlen:l2.length = l.length:=by rw [hl2];simp;omega
 have ht2:l2.take i = l.filter (·.close):=by rw [hl2,List.take_left' (by simp;omega),ht]
 (repeat first | dsimp only [go_sem,rA,rM,rS] | simp only [nbr])
 refine ⟨0,i,⟨rfl,rfl,by omega,by simp;omega⟩,?_⟩
 rw [Nat.sub_zero]
 (repeat first | dsimp only [go_sem,rA,rM,rS] | simp only [nbr])
 subst hi
 refine ⟨_,.inr ⟨l2,hlen,by omega,ht2,rfl⟩,?_⟩
 (refine entO_id ?_ ?_ ?_ rfl <;> dsimp only [meetL,id,go_sem,rA,rM,rS] <;> simp [meetL,KFR_iff,KFR_app,KFR,KFL,KF,mtL_same,mtO,nbr])
end Go.Proofs.Ytnlfjchbhgikaaa
set_option maxRecDepth 100000
set_option maxHeartbeats 4000000
namespace Go.Azalai
def gI (s:List Int) (i:Int):Int:=s.getD i.toNat 0
def inf1 (w d a b:Int) (s:List Int):List Int:=if gI s a ≤ d then s.set b.toNat (min (gI s b) (d + w)) else s
def meetS (w:Int) (m:Meet) (s:List Int):List Int:=inf1 w m.day m.b m.a (inf1 w m.day m.a m.b s)
def spreadF (w last:Int):List Meet → List Int → List Int
 | [],s=>s
 | m :: l,s=>if m.day > last then s else spreadF w last l (meetS w m s)
def baseF:List Int → List Int → List Int
 | [],s=>s
 | i :: l,s=>baseF l (s.set i.toNat 0)
theorem inf1_len (w d a b:Int) (s:List Int):(inf1 w d a b s).length = s.length:=by unfold inf1;split <;> simp
def okM (n:Int) (m:Meet):Prop:=(0 ≤ m.a ∧ m.a < n) ∧ (0 ≤ m.b ∧ m.b < n) ∧ m.a ≠ m.b ∧ 0 ≤ m.day ∧ m.day ≤ 100000
theorem gI_eq {s:List Int} {i:Int} {k:Nat} (h:i = k) (hk:k < s.length):gI s i = s[k]:=by
 unfold gI;rw [h,Int.toNat_natCast,List.getD_eq_getElem?_getD,List.getElem?_eq_getElem hk];rfl
end Go.Azalai
namespace Go.Proofs.Ytnlfjchbhgikaaa
open Go Go.Sx Go.Azalai
theorem spread_ok (n:Nat) (first:List Int) (meets:List Meet) (w last:Int) (c1 c2:Bool) (hn:1 ≤ n) (hn':n ≤ 30) (hf:∀ i ∈ first,0 ≤ i ∧ i < n) (hm:∀ m ∈ meets,okM n m) (hw:0 ≤ w ∧ w ≤ 60) (hl1:first.length ≤ 1000) (hl2:meets.length ≤ 1000) :
 Ct Try.prog 83 [I n,.sl c1 1 (first.map intL),.sl c2 4 (meets.map meetL),I w,I last] (.sl false 1 ((spreadF w last meets (baseF first (List.replicate n 100061))).map intL)):=by
 refine t83 (by simp [meetL,KFR_iff,intL,KFL,KF]) (by simp [KFR_iff,intL,KFL,KF]) ?_
 dsimp only [c83,r83,go_sem,rA,rM,rS]
 refine callmP [] (repi_ok 100061 n hn (by omega) true) rfl rfl rfl ?_ ?_ ?_
 · (repeat first | dsimp only [go_sem,rA,rM,rS] | simp only [nbr])
   simp [mtL,mtB,mtS,KFR,KFL,KF]
 · (repeat first | dsimp only [go_sem,rA,rM,rS] | simp only [nbr])
 rintro _ rfl
 (repeat first | dsimp only [go_sem,rA,rM,rS] | simp only [nbr])
 simp only [List.length_map]
 rw [show List.replicate n [I 100061] = (List.replicate n (100061:Int)).map intL from by simp [intL]]
 have hbl:∀ (l s:List Int),(baseF l s).length = s.length:=fun l=>by
  induction l with
  | nil=>intro s;rfl
  | cons i l ih=>intro s;rw [baseF,ih];simp
 have hsI:(List.replicate n (100061:Int)).length = n:=by simp
 generalize List.replicate n (100061:Int) = sI at hsI
 refine loopO (fun z:Nat × List Int=>[(22,I z.1)]) (fun z=>[(0,.row 0 1 (z.2.map intL) 3)]) (fun z=>z.1 ≤ first.length ∧ z.2.length = n ∧ baseF (first.drop z.1) z.2 = baseF first sI) (fun z=>first.length - z.1) (0,sI) ⟨Nat.zero_le _,hsI,by simp⟩ ?_ ?_
 · (refine ent_id ?_ ?_ ?_ rfl rfl <;> dsimp only [meetL,intL,id,go_sem,rA,rM,rS] <;> simp [meetL,intL,KFR_iff,KFR_app,KFR,KFL,KF,mtL_same,mtO,nbr])
 rintro ⟨k,s⟩ ⟨hk,hs,hb⟩
 simp only at hk hs hb
 dsimp only [go_sem,rA,rM,rS]
 by_cases hlt:k < first.length
 · refine br_t (by simpa using hlt) ?_
   dsimp only [go_sem,rA,rM,rS]
   refine ixs_map k hlt rfl ?_
   dsimp only [intL,go_sem,rA,rM,rS]
   have hfk:=hf first[k] (List.getElem_mem _)
   obtain ⟨p,hp⟩:∃ p:Nat,first[k] = (p:Int):=⟨first[k].toNat,by omega⟩
   rw [List.drop_eq_getElem_cons hlt,hp] at hb
   rw [hp] at hfk
   rw [hp]
   refine ixrm p rfl (by first | omega | (simp;omega)) ?_
   (repeat first | dsimp only [go_sem,rA,rM,rS] | simp only [nbr])
   refine strm (0:Int) (by first | omega | (simp;omega)) (by simp [intL]) (by simp [intL,splice]) ?_
   (repeat first | dsimp only [go_sem,rA,rM,rS] | simp only [nbr])
   rw [w64_in (n:=(k:Int) + 1) (by omega) (by omega)]
   refine ⟨(k + 1,s.set p 0),⟨hlt,by simp [hs],by simpa [baseF] using hb⟩,by simp only;omega,?_⟩
   generalize s.set p 0 = s2
   (refine ent_id ?_ ?_ ?_ rfl rfl <;> dsimp only [meetL,intL,id,go_sem,rA,rM,rS] <;> simp [meetL,intL,KFR_iff,KFR_app,KFR,KFL,KF,mtL_same,mtO,nbr])
 refine br_f (by simp;omega) ?_
 dsimp only [go_sem,rA,rM,rS]
 rw [show k = first.length from by omega,List.drop_length] at hb
 simp only [baseF] at hb
 subst hb
 generalize baseF first sI = s0 at hs
 refine loopO (fun z:Nat × List Int=>[(32,I z.1)]) (fun z=>[(0,.row 0 1 (z.2.map intL) 3)]) (fun z=>z.1 ≤ meets.length ∧ z.2.length = n ∧ spreadF w last (meets.drop z.1) z.2 = spreadF w last meets s0) (fun z=>meets.length - z.1) (0,s0) ⟨Nat.zero_le _,hs,by simp⟩ ?_ ?_
 · (refine ent_id ?_ ?_ ?_ rfl rfl <;> dsimp only [meetL,intL,id,go_sem,rA,rM,rS] <;> simp [meetL,intL,KFR_iff,KFR_app,KFR,KFL,KF,mtL_same,mtO,nbr])
 rintro ⟨j,s⟩ ⟨hj,hs',hr⟩
 simp only at hj hs' hr
 dsimp only [go_sem,rA,rM,rS]
 by_cases hlt:j < meets.length
 case neg =>
  refine br_f (by simp;omega) ?_
  dsimp only [go_sem,rA,rM,rS]
  rw [show j = meets.length from by omega,List.drop_length] at hr
  simp only [spreadF] at hr
  rw [← hr]
 refine br_t (by simpa using hlt) ?_
 dsimp only [go_sem,rA,rM,rS]
 refine ixs_map j hlt rfl ?_
 dsimp only [meetL,go_sem,rA,rM,rS]
 refine ixs_map j hlt rfl ?_
 dsimp only [meetL,go_sem,rA,rM,rS]
 refine ixs_map j hlt rfl ?_
 dsimp only [meetL,go_sem,rA,rM,rS]
 refine ixs_map j hlt rfl ?_
 dsimp only [meetL,go_sem,rA,rM,rS]
 have hmj:=hm meets[j] (List.getElem_mem _)
 rw [List.drop_eq_getElem_cons hlt] at hr
 generalize hmm:meets[j] = m at hmj hr
 obtain ⟨ma,mb,md,mc⟩:=m
 obtain ⟨⟨ha0,ha1⟩,⟨hb0,hb1⟩,hab,hd0,hd1⟩:=hmj
 simp only at ha0 ha1 hb0 hb1 hab hd0 hd1
 obtain ⟨pa,rfl⟩:∃ p:Nat,ma = p:=⟨ma.toNat,by omega⟩
 obtain ⟨pb,rfl⟩:∃ p:Nat,mb = p:=⟨mb.toNat,by omega⟩
 simp only
 refine loopO (fun z:Nat × List Int=>[(58,I z.1)]) (fun z=>[(0,.row 0 1 (z.2.map intL) 3)]) (fun z=>(z.1 = 0 ∧ z.2 = s) ∨ (z.1 = 1 ∧ ¬ md > last ∧ z.2 = inf1 w md pa pb s) ∨ (z.1 = 2 ∧ ¬ md > last ∧ z.2 = inf1 w md pb pa (inf1 w md pa pb s))) (fun z=>2 - z.1) (0,s) (.inl ⟨rfl,rfl⟩) ?_ ?_
 · (refine ent_id ?_ ?_ ?_ rfl rfl <;> dsimp only [meetL,intL,id,go_sem,rA,rM,rS] <;> simp [meetL,intL,KFR_iff,KFR_app,KFR,KFL,KF,mtL_same,mtO,nbr])
 rintro ⟨q,s1⟩ hq
 simp only at hq
 have hs1:s1.length = n:=by
  rcases hq with ⟨_,h⟩ | ⟨_,_,h⟩ | ⟨_,_,h⟩ <;> rw [h] <;> simp [inf1_len,hs']
 dsimp only [go_sem,rA,rM,rS]
 rcases hq with ⟨rfl,hss⟩ | ⟨rfl,hday,hss⟩ | ⟨rfl,hday,hss⟩
 · skip
   refine br_t (by decide) ?_
   dsimp only [go_sem,rA,rM,rS]
   refine ixa 0 rfl (by decide) ?_
   (repeat first | dsimp only [go_sem,rA,rM,rS] | simp only [nbr])
   refine ixs_map j hlt rfl ?_
   rw [hmm]
   dsimp only [meetL,go_sem,rA,rM,rS]
   by_cases hday:md > last
   · refine br_t (by simpa using hday) ?_
     dsimp only [go_sem,rA,rM,rS]
     simp only [spreadF] at hr
     rw [if_pos hday] at hr
     rw [← hr,hss]
   refine br_f (by simpa using hday) ?_
   (repeat first | dsimp only [go_sem,rA,rM,rS] | simp only [nbr])
   refine ixa 0 rfl (by decide) ?_
   (repeat first | dsimp only [go_sem,rA,rM,rS] | simp only [nbr])
   refine ixrm pa rfl (by first | omega | (simp;omega)) ?_
   (repeat first | dsimp only [go_sem,rA,rM,rS] | simp only [nbr])
   refine ldrm (by first | omega | (simp;omega)) ?_
   (repeat first | dsimp only [intL,go_sem,rA,rM,rS] | simp only [nbr])
   refine ixs_map j hlt rfl ?_
   rw [hmm]
   dsimp only [meetL,go_sem,rA,rM,rS]
   have hgpa:gI s1 (pa:Int) = s1[pa]:=gI_eq rfl (by omega)
   have hgpb:gI s1 (pb:Int) = s1[pb]:=gI_eq rfl (by omega)
   by_cases hle:s1[pa] ≤ md
   · refine br_t (by simpa using hle) ?_
     (repeat first | dsimp only [go_sem,rA,rM,rS] | simp only [nbr])
     refine ixa 1 rfl (by decide) ?_
     (repeat first | dsimp only [go_sem,rA,rM,rS] | simp only [nbr])
     refine ixa 1 rfl (by decide) ?_
     (repeat first | dsimp only [go_sem,rA,rM,rS] | simp only [nbr])
     refine ixrm pb rfl (by first | omega | (simp;omega)) ?_
     (repeat first | dsimp only [go_sem,rA,rM,rS] | simp only [nbr])
     refine ldrm (by first | omega | (simp;omega)) ?_
     (repeat first | dsimp only [intL,go_sem,rA,rM,rS] | simp only [nbr])
     refine ixs_map j hlt rfl ?_
     rw [hmm]
     dsimp only [meetL,go_sem,rA,rM,rS]
     rw [w64_in (n:=md + w) (by omega) (by omega)]
     refine ixrm pb rfl (by first | omega | (simp;omega)) ?_
     (repeat first | dsimp only [go_sem,rA,rM,rS] | simp only [nbr])
     refine strm (min s1[pb] (md + w)) (by first | omega | (simp;omega)) (by simp [intL]) (by simp [intL,splice]) ?_
     (repeat first | dsimp only [go_sem,rA,rM,rS] | simp only [nbr])
     refine ⟨(1,s1.set pb (min s1[pb] (md + w))),.inr (.inl ⟨rfl,hday,?_⟩),by simp only;omega,?_⟩
     · simp only
       rw [show inf1 w md pa pb s = inf1 w md pa pb s1 from by rw [hss]]
       unfold inf1
       rw [if_pos (by rw [hgpa];exact hle),hgpb,Int.toNat_natCast]
     generalize s1.set pb (min s1[pb] (md + w)) = s2
     (refine ent_id ?_ ?_ ?_ rfl rfl <;> dsimp only [meetL,intL,w64_1,w64_2,id,go_sem,rA,rM,rS] <;> simp [meetL,intL,w64_1,w64_2,KFR_iff,KFR_app,KFR,KFL,KF,mtL_same,mtO,nbr])
   refine br_f (by simpa using hle) ?_
   (repeat first | dsimp only [go_sem,rA,rM,rS] | simp only [nbr])
   refine ⟨(1,s1),.inr (.inl ⟨rfl,hday,?_⟩),by simp only;omega,?_⟩
   · simp only
     rw [show inf1 w md pa pb s = inf1 w md pa pb s1 from by rw [hss]]
     unfold inf1
     rw [if_neg (by rw [hgpa];exact hle)]
   (refine ent_id ?_ ?_ ?_ rfl rfl <;> dsimp only [meetL,intL,w64_1,w64_2,id,go_sem,rA,rM,rS] <;> simp [meetL,intL,w64_1,w64_2,KFR_iff,KFR_app,KFR,KFL,KF,mtL_same,mtO,nbr])
 · skip
   refine br_t (by decide) ?_
   dsimp only [go_sem,rA,rM,rS]
   refine ixa 1 rfl (by decide) ?_
   (repeat first | dsimp only [go_sem,rA,rM,rS] | simp only [nbr])
   refine ixs_map j hlt rfl ?_
   rw [hmm]
   dsimp only [meetL,go_sem,rA,rM,rS]
   refine br_f (by simpa using hday) ?_
   (repeat first | dsimp only [go_sem,rA,rM,rS] | simp only [nbr])
   refine ixa 0 rfl (by decide) ?_
   (repeat first | dsimp only [go_sem,rA,rM,rS] | simp only [nbr])
   refine ixrm pb rfl (by first | omega | (simp;omega)) ?_
   (repeat first | dsimp only [go_sem,rA,rM,rS] | simp only [nbr])
   refine ldrm (by first | omega | (simp;omega)) ?_
   (repeat first | dsimp only [intL,go_sem,rA,rM,rS] | simp only [nbr])
   refine ixs_map j hlt rfl ?_
   rw [hmm]
   dsimp only [meetL,go_sem,rA,rM,rS]
   have hgpb:gI s1 (pb:Int) = s1[pb]:=gI_eq rfl (by omega)
   have hgpa:gI s1 (pa:Int) = s1[pa]:=gI_eq rfl (by omega)
   by_cases hle:s1[pb] ≤ md
   · refine br_t (by simpa using hle) ?_
     (repeat first | dsimp only [go_sem,rA,rM,rS] | simp only [nbr])
     refine ixa 1 rfl (by decide) ?_
     (repeat first | dsimp only [go_sem,rA,rM,rS] | simp only [nbr])
     refine ixa 1 rfl (by decide) ?_
     (repeat first | dsimp only [go_sem,rA,rM,rS] | simp only [nbr])
     refine ixrm pa rfl (by first | omega | (simp;omega)) ?_
     (repeat first | dsimp only [go_sem,rA,rM,rS] | simp only [nbr])
     refine ldrm (by first | omega | (simp;omega)) ?_
     (repeat first | dsimp only [intL,go_sem,rA,rM,rS] | simp only [nbr])
     refine ixs_map j hlt rfl ?_
     rw [hmm]
     dsimp only [meetL,go_sem,rA,rM,rS]
     rw [w64_in (n:=md + w) (by omega) (by omega)]
     refine ixrm pa rfl (by first | omega | (simp;omega)) ?_
     (repeat first | dsimp only [go_sem,rA,rM,rS] | simp only [nbr])
     refine strm (min s1[pa] (md + w)) (by first | omega | (simp;omega)) (by simp [intL]) (by simp [intL,splice]) ?_
     (repeat first | dsimp only [go_sem,rA,rM,rS] | simp only [nbr])
     refine ⟨(2,s1.set pa (min s1[pa] (md + w))),.inr (.inr ⟨rfl,hday,?_⟩),by simp only;omega,?_⟩
     · simp only
       rw [show inf1 w md pb pa (inf1 w md pa pb s) = inf1 w md pb pa s1 from by rw [hss]]
       unfold inf1
       rw [if_pos (by rw [hgpb];exact hle),hgpa,Int.toNat_natCast]
     generalize s1.set pa (min s1[pa] (md + w)) = s2
     (refine ent_id ?_ ?_ ?_ rfl rfl <;> dsimp only [meetL,intL,w64_1,w64_2,id,go_sem,rA,rM,rS] <;> simp [meetL,intL,w64_1,w64_2,KFR_iff,KFR_app,KFR,KFL,KF,mtL_same,mtO,nbr])
   refine br_f (by simpa using hle) ?_
   (repeat first | dsimp only [go_sem,rA,rM,rS] | simp only [nbr])
   refine ⟨(2,s1),.inr (.inr ⟨rfl,hday,?_⟩),by simp only;omega,?_⟩
   · simp only
     rw [show inf1 w md pb pa (inf1 w md pa pb s) = inf1 w md pb pa s1 from by rw [hss]]
     unfold inf1
     rw [if_neg (by rw [hgpb];exact hle)]
   (refine ent_id ?_ ?_ ?_ rfl rfl <;> dsimp only [meetL,intL,w64_1,w64_2,id,go_sem,rA,rM,rS] <;> simp [meetL,intL,w64_1,w64_2,KFR_iff,KFR_app,KFR,KFL,KF,mtL_same,mtO,nbr])
 · refine br_f (by decide) ?_
   dsimp only [go_sem,rA,rM,rS]
   rw [w64_in (n:=(j:Int) + 1) (by omega) (by omega)]
   refine ⟨(j + 1,s1),⟨hlt,hs1,?_⟩,by simp only;omega,?_⟩
   · simp only [spreadF,meetS] at hr
     rw [if_neg hday] at hr
     show spreadF w last (List.drop (j + 1) meets) s1 = _
     rw [hss];exact hr
   (refine ent_id ?_ ?_ ?_ rfl rfl <;> dsimp only [meetL,intL,id,go_sem,rA,rM,rS] <;> simp [meetL,intL,KFR_iff,KFR_app,KFR,KFL,KF,mtL_same,mtO,nbr])
end Go.Proofs.Ytnlfjchbhgikaaa
namespace Go.Azalai
inductive Inf (first:List Int) (M:Meet → Prop) (w:Int):Int → Int → Prop
 | base {i:Int}:i ∈ first → Inf first M w i 0
 | l {m:Meet} {t:Int}:M m → Inf first M w m.a t → t ≤ m.day → Inf first M w m.b (m.day + w)
 | r {m:Meet} {t:Int}:M m → Inf first M w m.b t → t ≤ m.day → Inf first M w m.a (m.day + w)
def Sick (first:List Int) (M:Meet → Prop) (w i day:Int):Prop:=∃ t,t ≤ day ∧ Inf first M w i t
theorem Inf.mono {first:List Int} {M M':Meet → Prop} {w i t:Int} (h:∀ m,M m → M' m) (hi:Inf first M w i t):Inf first M' w i t:=by
 induction hi with
 | base hb=>exact .base hb
 | l hm _ ht ih=>exact .l (h _ hm) ih ht
 | r hm _ ht ih=>exact .r (h _ hm) ih ht
theorem Inf.rng {n:Int} {first:List Int} {M:Meet → Prop} {w i t:Int} (hf:∀ i ∈ first,0 ≤ i ∧ i < n) (hm:∀ m,M m → okM n m) (hi:Inf first M w i t):0 ≤ i ∧ i < n:=by
 cases hi with
 | base hb=>exact hf _ hb
 | l h _ _=>exact (hm _ h).2.1
 | r h _ _=>exact (hm _ h).1
theorem Inf.earlier {first:List Int} {M M':Meet → Prop} {w w' i t:Int} (h:∀ m,M m → M' m) (hw:w' ≤ w) (hi:Inf first M w i t):∃ t',t' ≤ t ∧ Inf first M' w' i t':=by
 induction hi with
 | base hb=>exact ⟨0,Int.le_refl _,.base hb⟩
 | l hm _ ht ih=>obtain ⟨t',h1,h2⟩:=ih;exact ⟨_,by omega,.l (h _ hm) h2 (by omega)⟩
 | r hm _ ht ih=>obtain ⟨t',h1,h2⟩:=ih;exact ⟨_,by omega,.r (h _ hm) h2 (by omega)⟩
theorem gI_set {s:List Int} {b i x:Int} (hb:0 ≤ b) (hbl:b < s.length) (hi:0 ≤ i):gI (s.set b.toNat x) i = if i = b then x else gI s i:=by
 unfold gI
 rw [List.getD_eq_getElem?_getD,List.getD_eq_getElem?_getD]
 by_cases h:i = b
 · subst h;rw [if_pos rfl,List.getElem?_set_self (by omega)];rfl
 · rw [if_neg h,List.getElem?_set_ne (by omega)]
theorem inf1_le {w d a b i:Int} {s:List Int} (hb:0 ≤ b) (hbl:b < s.length) (hi:0 ≤ i):gI (inf1 w d a b s) i ≤ gI s i:=by
 unfold inf1
 split
 · rw [gI_set hb hbl hi];split
   · rename_i h;subst h;omega
   · exact Int.le_refl _
 · exact Int.le_refl _
theorem inf1_new {w d a b:Int} {s:List Int} (hb:0 ≤ b) (hbl:b < s.length) (ha:gI s a ≤ d):gI (inf1 w d a b s) b ≤ d + w:=by
 unfold inf1
 rw [if_pos ha,gI_set hb hbl hb,if_pos rfl];omega
theorem meetS_len (w:Int) (m:Meet) (s:List Int):(meetS w m s).length = s.length:=by unfold meetS;rw [inf1_len,inf1_len]
theorem inf_add {first:List Int} {P:Meet → Prop} {w:Int} {m:Meet} (hw:1 ≤ w) (hd:∀ p,P p → p.day ≤ m.day) {i t:Int} (hi:Inf first (fun x=>P x ∨ x = m) w i t) :
 Inf first P w i t ∨ (i = m.b ∧ t = m.day + w ∧ ∃ t',Inf first P w m.a t' ∧ t' ≤ m.day) ∨ (i = m.a ∧ t = m.day + w ∧ ∃ t',Inf first P w m.b t' ∧ t' ≤ m.day):=by
 induction hi with
 | base hb=>exact .inl (.base hb)
 | l hm hp ht ih =>
  rename_i m' t'
  have hle:m'.day ≤ m.day:=by
   rcases hm with h | h
   · exact hd _ h
   · rw [h];exact Int.le_refl _
  rcases ih with h | ⟨_,h,_⟩ | ⟨_,h,_⟩
  · rcases hm with hm | hm
    · exact .inl (.l hm h ht)
    · subst hm;exact .inr (.inl ⟨rfl,rfl,t',h,ht⟩)
  · omega
  · omega
 | r hm hp ht ih =>
  rename_i m' t'
  have hle:m'.day ≤ m.day:=by
   rcases hm with h | h
   · exact hd _ h
   · rw [h];exact Int.le_refl _
  rcases ih with h | ⟨_,h,_⟩ | ⟨_,h,_⟩
  · rcases hm with hm | hm
    · exact .inl (.r hm h ht)
    · subst hm;exact .inr (.inr ⟨rfl,rfl,t',h,ht⟩)
  · omega
  · omega
theorem inf_cut {first:List Int} {Q P:Meet → Prop} {w last:Int} (hw:1 ≤ w) (h:∀ m,Q m → m.day ≤ last → P m) {i t:Int} (hi:Inf first Q w i t) (ht:t ≤ last):Inf first P w i t:=by
 induction hi with
 | base hb=>exact .base hb
 | l hm hp htt ih=>exact .l (h _ hm (by omega)) (ih (by omega)) htt
 | r hm hp htt ih=>exact .r (h _ hm (by omega)) (ih (by omega)) htt
theorem spread_le {n:Int} {first:List Int} {w last:Int} (hw:1 ≤ w) (hf:∀ i ∈ first,0 ≤ i ∧ i < n):∀ (l:List Meet) (P:Meet → Prop) (s:List Int),s.length = n → (∀ m ∈ l,okM n m) → (∀ m,P m → okM n m) → l.Pairwise (fun x y=>x.day ≤ y.day) → (∀ p,P p → ∀ m ∈ l,p.day ≤ m.day) →
 (∀ i t,Inf first P w i t → gI s i ≤ t) → ∀ i t,Inf first (fun m=>P m ∨ m ∈ l) w i t → t ≤ last → gI (spreadF w last l s) i ≤ t
 | [],P,s,hs,hm,hP,hso,hd,hA,i,t,hi,ht=>hA i t (hi.mono fun m h=>by simpa using h)
 | m :: l,P,s,hs,hm,hP,hso,hd,hA,i,t,hi,ht=>by
  have hso':=List.pairwise_cons.1 hso
  unfold spreadF
  by_cases hlast:m.day > last
  · rw [if_pos hlast]
    refine hA i t (inf_cut hw (fun q hq hql=>?_) hi ht)
    rcases hq with hq | hq
    · exact hq
    · rcases List.mem_cons.1 hq with rfl | hq
      · omega
      · have:=hso'.1 q hq;omega
  · rw [if_neg hlast]
    have hmo:=hm m (by simp)
    refine spread_le hw hf l (fun x=>P x ∨ x = m) (meetS w m s) (by rw [meetS_len];exact hs) (fun x hx=>hm x (by simp [hx])) (fun x hx=>by rcases hx with h | h;exact hP x h;rw [h];exact hmo) hso'.2 (fun p hp x hx=>?_) (fun j t' hj=>?_) i t (hi.mono fun x hx=>?_) ht
    · rcases hp with hp | rfl
      · exact hd p hp x (by simp [hx])
      · exact hso'.1 x hx
    · have hr:=hj.rng hf (fun x hx=>by rcases hx with h | h;exact hP x h;rw [h];exact hmo)
      obtain ⟨⟨a0,a1⟩,⟨b0,b1⟩,_,_,_⟩:=hmo
      have l1:(inf1 w m.day m.a m.b s).length = n:=by rw [inf1_len];exact hs
      have q1:=inf1_le (w:=w) (d:=m.day) (a:=m.b) (b:=m.a) (i:=j) (s:=inf1 w m.day m.a m.b s) a0 (by omega) hr.1
      have q2:=inf1_le (w:=w) (d:=m.day) (a:=m.a) (b:=m.b) (i:=j) (s:=s) b0 (by omega) hr.1
      rcases inf_add hw (fun p hp=>hd p hp m (by simp)) hj with h | ⟨rfl,rfl,t1,h1,h2⟩ | ⟨rfl,rfl,t1,h1,h2⟩
      · have:=hA j t' h;unfold meetS;omega
      · have h3:=hA _ _ h1
        have:=inf1_new (w:=w) (d:=m.day) (a:=m.a) (b:=m.b) (s:=s) b0 (by omega) (by omega)
        unfold meetS;omega
      · have h3:=hA _ _ h1
        have q3:=inf1_le (w:=w) (d:=m.day) (a:=m.a) (b:=m.b) (i:=m.b) (s:=s) b0 (by omega) b0
        exact inf1_new (w:=w) (d:=m.day) (a:=m.b) (b:=m.a) (s:=inf1 w m.day m.a m.b s) a0 (by omega) (by omega)
    · rcases hx with hx | hx
      · exact .inl (.inl hx)
      · rcases List.mem_cons.1 hx with h | h
        · exact .inl (.inr h)
        · exact .inr h
theorem inf1_ok {n:Int} {first:List Int} {Q:Meet → Prop} {w W:Int} {s:List Int} {a b d:Int} (hs:s.length = n) (hb0:0 ≤ b) (hb1:b < n) (ha0:0 ≤ a) (ha1:a < n) (hd:d < W) (hB:∀ i,0 ≤ i → i < n → gI s i = W ∨ Inf first Q w i (gI s i)) (hQ:∀ t,Inf first Q w a t → t ≤ d → Inf first Q w b (d + w)) :
 ∀ i,0 ≤ i → i < n → gI (inf1 w d a b s) i = W ∨ Inf first Q w i (gI (inf1 w d a b s) i):=fun i h0 h1=>by
 unfold inf1
 by_cases ha:gI s a ≤ d
 · rw [if_pos ha,gI_set hb0 (by omega) h0]
   by_cases hib:i = b
   · subst hib
     rw [if_pos rfl]
     rcases Int.le_total (gI s i) (d + w) with h | h
     · rw [Int.min_eq_left h];exact hB i h0 h1
     · rw [Int.min_eq_right h]
       rcases hB a ha0 ha1 with h2 | h2
       · omega
       · exact .inr (hQ _ h2 ha)
   · rw [if_neg hib];exact hB i h0 h1
 · rw [if_neg ha];exact hB i h0 h1
theorem spread_inf {n:Int} {first:List Int} {Q:Meet → Prop} {w last W:Int} (hW:100000 < W):∀ (l:List Meet) (s:List Int),s.length = n → (∀ m ∈ l,okM n m ∧ Q m) → (∀ i,0 ≤ i → i < n → gI s i = W ∨ Inf first Q w i (gI s i)) →
 ∀ i,0 ≤ i → i < n → gI (spreadF w last l s) i = W ∨ Inf first Q w i (gI (spreadF w last l s) i)
 | [],s,hs,hm,hB=>hB
 | m :: l,s,hs,hm,hB=>by
  unfold spreadF
  split
  · exact hB
  · obtain ⟨⟨⟨a0,a1⟩,⟨b0,b1⟩,_,d0,d1⟩,hQ⟩:=hm m (by simp)
    refine spread_inf hW l (meetS w m s) (by rw [meetS_len];exact hs) (fun x hx=>hm x (by simp [hx])) ?_
    unfold meetS
    refine inf1_ok (by rw [inf1_len];exact hs) a0 a1 b0 b1 (by omega) (inf1_ok hs b0 b1 a0 a1 (by omega) hB (fun t h1 h2=>.l hQ h1 h2)) (fun t h1 h2=>.r hQ h1 h2)
theorem baseF_len:∀ (l s:List Int),(baseF l s).length = s.length
 | [],s=>rfl
 | i :: l,s=>by rw [baseF,baseF_len l];simp
theorem spreadF_len (w last:Int):∀ (l:List Meet) (s:List Int),(spreadF w last l s).length = s.length
 | [],s=>rfl
 | m :: l,s=>by unfold spreadF;split;rfl;rw [spreadF_len w last l,meetS_len]
theorem baseF_gI {n:Int}:∀ (l s:List Int),s.length = n → (∀ i ∈ l,0 ≤ i ∧ i < n) → ∀ i,0 ≤ i → gI (baseF l s) i = if i ∈ l then 0 else gI s i
 | [],s,hs,hl,i,hi=>by simp [baseF]
 | j :: l,s,hs,hl,i,hi=>by
  have hj:=hl j (by simp)
  rw [baseF,baseF_gI l _ (by simpa using hs) (fun i h=>hl i (by simp [h])) i hi,gI_set hj.1 (by omega) hi]
  by_cases h1:i ∈ l
  · simp [h1]
  · by_cases h2:i = j
    · simp [h2]
    · simp [h1,h2]
theorem gI_rep {n:Nat} {x i:Int} (h0:0 ≤ i) (h1:i < n):gI (List.replicate n x) i = x:=by
 unfold gI;rw [List.getD_eq_getElem?_getD,List.getElem?_replicate,if_pos (by omega)];rfl
theorem spread_sick {n:Nat} {first:List Int} {l:List Meet} {w day:Int} (hw:1 ≤ w) (hday:day ≤ 100000) (hf:∀ i ∈ first,0 ≤ i ∧ i < (n:Int)) (hm:∀ m ∈ l,okM n m) (hso:l.Pairwise (fun x y=>x.day ≤ y.day)) {i:Int} (h0:0 ≤ i) (h1:i < n) :
 gI (spreadF w day l (baseF first (List.replicate n 100061))) i ≤ day ↔ Sick first (· ∈ l) w i day:=by
 have hlen:((baseF first (List.replicate n (100061:Int))).length:Int) = n:=by rw [baseF_len];simp
 have hb:=baseF_gI (n:=n) first (List.replicate n 100061) (by simp) hf
 constructor
 · intro h
   have:=spread_inf (n:=n) (first:=first) (Q:=(· ∈ l)) (w:=w) (last:=day) (W:=100061) (by omega) l _ hlen (fun m h=>⟨hm m h,h⟩) (fun j g0 g1=>by
    rw [hb j g0]
    split
    · rename_i h;exact .inr (.base h)
    · exact .inl (gI_rep g0 g1)) i h0 h1
   rcases this with h2 | h2
   · omega
   · exact ⟨_,h,h2⟩
 · rintro ⟨t,ht,hi⟩
   refine Int.le_trans (spread_le (n:=n) hw hf l (fun _=>False) _ hlen hm (fun _ h=>h.elim) hso (fun _ h=>h.elim) (fun j t' hj=>?_) i t (hi.mono fun m h=>.inr h) ht) ht
   cases hj with
   | base hj=>rw [hb j (hf j hj).1,if_pos hj];exact Int.le_refl _
   | l h _ _=>exact h.elim
   | r h _ _=>exact h.elim
end Go.Azalai
set_option maxRecDepth 100000
set_option maxHeartbeats 4000000
namespace Go.Azalai
def sumN:List Int → Nat
 | []=>0
 | x :: l=>x.toNat + sumN l
theorem sumN_set:∀ (s:List Int) (k:Nat) (x:Int) (h:k < s.length),sumN (s.set k x) + s[k].toNat = sumN s + x.toNat
 | y :: l,0,x,h=>by simp [sumN];omega
 | y :: l,k + 1,x,h=>by
  have:=sumN_set l k x (by simpa using h)
  simp only [List.set_cons_succ,sumN,List.getElem_cons_succ];omega
def never:Int:=1099511627776
theorem inf1_dec {w d a b:Int} {s:List Int} (h0:0 ≤ d + w) (hb0:0 ≤ b) (hb1:b < s.length):inf1 w d a b s = s ∨ sumN (inf1 w d a b s) < sumN s:=by
 unfold inf1
 split
 · obtain ⟨k,rfl⟩:∃ k:Nat,b = k:=⟨b.toNat,by omega⟩
   have hk:k < s.length:=by omega
   rw [gI_eq rfl hk,Int.toNat_natCast]
   rcases Int.lt_or_le (d + w) s[k] with h | h
   · right
     have:=sumN_set s k (min s[k] (d + w)) hk
     rw [Int.min_eq_right (by omega)] at this ⊢
     omega
   · left;rw [Int.min_eq_left h];exact List.set_getElem_self hk
 · exact .inl rfl
def act (close:Bool) (meets:List Meet) (m:Meet):Prop:=m ∈ meets ∧ (close = true → m.close = true)
structure Sk (n:Nat) (first:List Int) (M:Meet → Prop) (w:Int) (s:List Int):Prop where
 len:s.length = n
 inf:∀ i:Int,0 ≤ i → i < n → gI s i = never ∨ Inf first M w i (gI s i)
 fst:∀ i ∈ first,gI s i ≤ 0
 up:∀ i:Int,0 ≤ i → i < n → gI s i ≤ never
theorem Sk.step {n:Nat} {first:List Int} {M:Meet → Prop} {w:Int} {s:List Int} (h:Sk n first M w s) (hf:∀ i ∈ first,0 ≤ i ∧ i < (n:Int)) {a b d:Int} (ha:0 ≤ a ∧ a < n) (hb:0 ≤ b ∧ b < n) (hd:d ≤ 100000) (hM:∀ t,Inf first M w a t → t ≤ d → Inf first M w b (d + w)):Sk n first M w (inf1 w d a b s):=by
 have hl:=h.len
 refine ⟨by rw [inf1_len];exact hl,inf1_ok (W:=never) (n:=n) (by rw [hl]) hb.1 hb.2 ha.1 ha.2 (by unfold never;omega) h.inf hM,fun i hi=>?_,fun i h0 h1=>?_⟩
 · exact Int.le_trans (inf1_le hb.1 (by omega) (hf i hi).1) (h.fst i hi)
 · exact Int.le_trans (inf1_le hb.1 (by omega) h0) (h.up i h0 h1)
structure Least (n:Nat) (first:List Int) (M:Meet → Prop) (w:Int) (s:List Int):Prop extends Sk n first M w s where
 le:∀ i t,Inf first M w i t → gI s i ≤ t
theorem Sk.least {n:Nat} {first:List Int} {M:Meet → Prop} {w:Int} {s:List Int} (h:Sk n first M w s) (hm:∀ m,M m → okM n m) (hs:∀ m,M m → inf1 w m.day m.a m.b s = s ∧ inf1 w m.day m.b m.a s = s):Least n first M w s:=by
 refine ⟨h,fun i t hi=>?_⟩
 have hl:=h.len
 induction hi with
 | base hb=>exact h.fst _ hb
 | l hM _ ht ih =>
  have:=inf1_new (w:=w) (hm _ hM).2.1.1 (by have:=(hm _ hM).2.1.2;omega) (Int.le_trans ih ht)
  rwa [(hs _ hM).1] at this
 | r hM _ ht ih =>
  have:=inf1_new (w:=w) (hm _ hM).1.1 (by have:=(hm _ hM).1.2;omega) (Int.le_trans ih ht)
  rwa [(hs _ hM).2] at this
theorem Least.unique {n:Nat} {first:List Int} {M:Meet → Prop} {w:Int} {s s':List Int} (h:Least n first M w s) (h':Least n first M w s'):s = s':=by
 have e:∀ i:Int,0 ≤ i → i < n → gI s i = gI s' i:=fun i h0 h1=>by
  have q1:=h.up i h0 h1
  have q2:=h'.up i h0 h1
  rcases h.inf i h0 h1 with g | g <;> rcases h'.inf i h0 h1 with g' | g'
  · rw [g,g']
  · have:=h.le _ _ g';omega
  · have:=h'.le _ _ g;omega
  · have:=h.le _ _ g';have:=h'.le _ _ g;omega
 apply List.ext_getElem (by rw [h.len,h'.len])
 intro k k1 k2
 have:=e k (by omega) (by rw [← h.len];omega)
 rwa [gI_eq rfl k1,gI_eq rfl k2] at this
open Classical in
noncomputable def sickF (n:Nat) (first:List Int) (M:Meet → Prop) (w:Int):List Int:=if h:∃ s,Least n first M w s then Classical.choose h else []
theorem Least.sickF {n:Nat} {first:List Int} {M:Meet → Prop} {w:Int} {s:List Int} (h:Least n first M w s):sickF n first M w = s:=by
 have:∃ s,Least n first M w s:=⟨s,h⟩
 unfold Go.Azalai.sickF
 rw [dif_pos this]
 exact (Classical.choose_spec this).unique h
theorem Least.sick {n:Nat} {first:List Int} {M:Meet → Prop} {w:Int} {s:List Int} (h:Least n first M w s) {i day:Int} (hd:day ≤ 100000) (h0:0 ≤ i) (h1:i < n):gI s i ≤ day ↔ Sick first M w i day:=by
 constructor
 · intro hs
   rcases h.inf i h0 h1 with g | g
   · unfold never at g;omega
   · exact ⟨_,hs,g⟩
 · rintro ⟨t,ht,hi⟩
   exact Int.le_trans (h.le i t hi) ht
end Go.Azalai
set_option maxRecDepth 100000
set_option maxHeartbeats 4000000
namespace Go.Proofs.Ytnlfjchbhgikaaa
open Go Go.Sx Go.Azalai
end Go.Proofs.Ytnlfjchbhgikaaa
set_option maxRecDepth 100000
set_option maxHeartbeats 4000000
namespace Go.Azalai
def meetsE (n:Int) (first:List Int) (meets:List Meet) (wait:Span) (day:Int):Int :=
 if !(inR 1 30 n && okSp 1 60 wait && inR 0 100000 day) then 2 else if first.length > 30 ∨ meets.length > 200 then 4 else if !(first.all (inR 0 (n - 1))) || meets.any (oddM n) then 14 else 0
end Go.Azalai
namespace Go.Proofs.Ytnlfjchbhgikaaa
open Go Go.Sx Go.Azalai
theorem meetsR_ok (n:Int) (first:List Int) (meets:List Meet) (wait:Span) (day:Int) (c1 c2:Bool) :
 Ct Try.prog 49 [I n,.sl c1 1 (first.map intL),.sl c2 4 (meets.map meetL),.agg (spanL wait),I day] (I (meetsE n first meets wait day)):=by
 refine t49 (by simp [meetL,KFR_iff,intL,spanL,KFL,KF]) (by simp [KFL,KF]) ?_
 dsimp only [c49,r49,spanL,go_sem,rA,rM,rS]
 refine call (within_ok n 1 30) ?_
 dsimp only [go_sem,rA,rM,rS]
 repeat (first | (refine gb ?_;dsimp only [go_sem,rA,rM,rS]) | (refine call (spanned_ok wait 1 60) ?_;dsimp only [go_sem,rA,rM,rS]) | (refine call (within_ok day 0 100000) ?_;dsimp only [go_sem,rA,rM,rS]))
 by_cases h1:(inR 1 30 n && okSp 1 60 wait && inR 0 100000 day) = true
 case neg =>
  refine br_t (by revert h1;cases inR 1 30 n <;> cases okSp 1 60 wait <;> cases inR 0 100000 day <;> simp) ?_
  dsimp only [go_sem,rA,rM,rS]
  unfold meetsE
  rw [if_pos (by revert h1;cases inR 1 30 n <;> cases okSp 1 60 wait <;> cases inR 0 100000 day <;> simp)]
 refine br_f (by revert h1;cases inR 1 30 n <;> cases okSp 1 60 wait <;> cases inR 0 100000 day <;> simp) ?_
 dsimp only [go_sem,rA,rM,rS]
 repeat (refine gb ?_;dsimp only [go_sem,rA,rM,rS])
 simp only [List.length_map]
 by_cases h2:first.length > 30 ∨ meets.length > 200
 · refine br_t (by simp;omega) ?_
   dsimp only [go_sem,rA,rM,rS]
   unfold meetsE
   rw [if_neg (by simp [h1]),if_pos h2]
 refine br_f (by simp;omega) ?_
 dsimp only [go_sem,rA,rM,rS]
 have hn:1 ≤ n ∧ n ≤ 30:=by simp only [Bool.and_eq_true,inR,decide_eq_true_eq] at h1;exact h1.1.1
 have hE:meetsE n first meets wait day = if !(first.all (inR 0 (n - 1))) || meets.any (oddM n) then 14 else 0:=by
  unfold meetsE
  rw [if_neg (by simp [h1]),if_neg h2]
 rw [hE]
 have hl1:first.length ≤ 1000:=by omega
 have hl2:meets.length ≤ 1000:=by omega
 clear hE h1 h2
 refine loopO (fun j:Nat=>[(11,I j)]) (fun _=>[]) (fun j=>j ≤ first.length ∧ (first.drop j).all (inR 0 (n - 1)) = first.all (inR 0 (n - 1))) (fun j=>first.length - j) 0 ⟨Nat.zero_le _,rfl⟩ ?_ ?_
 · (refine ent_id ?_ ?_ ?_ rfl rfl <;> dsimp only [meetL,intL,id,go_sem,rA,rM,rS] <;> simp [meetL,intL,KFR_iff,KFR_app,KFR,KFL,KF,mtL_same,mtO,nbr])
 rintro j ⟨hj,hi⟩
 dsimp only [go_sem,rA,rM,rS]
 simp only [List.length_map]
 by_cases hlt:j < first.length
 · refine br_t (by simpa using hlt) ?_
   dsimp only [go_sem,rA,rM,rS]
   refine ixs_map j hlt rfl ?_
   dsimp only [intL,go_sem,rA,rM,rS]
   rw [w64_in (n:=n - 1) (by omega) (by omega)]
   refine call (within_ok first[j] 0 (n - 1)) ?_
   dsimp only [go_sem,rA,rM,rS]
   rw [List.drop_eq_getElem_cons hlt,List.all_cons] at hi
   by_cases hx:inR 0 (n - 1) first[j] = true
   · refine br_f (by simp [hx]) ?_
     dsimp only [go_sem,rA,rM,rS]
     rw [w64_in (n:=(j:Int) + 1) (by omega) (by omega)]
     refine ⟨j + 1,⟨hlt,by simpa [hx] using hi⟩,by omega,?_⟩
     (refine ent_id ?_ ?_ ?_ rfl rfl <;> dsimp only [meetL,intL,id,go_sem,rA,rM,rS] <;> simp [meetL,intL,KFR_iff,KFR_app,KFR,KFL,KF,mtL_same,mtO,nbr])
   · refine br_t (by simp [hx]) ?_
     dsimp only [go_sem,rA,rM,rS]
     rw [← hi];simp [hx]
 refine br_f (by simp;omega) ?_
 dsimp only [go_sem,rA,rM,rS]
 rw [show j = first.length from by omega,List.drop_length] at hi
 rw [← hi]
 refine loopO (fun j:Nat=>[(12,I j)]) (fun _=>[]) (fun j=>j ≤ meets.length ∧ (meets.drop j).any (oddM n) = meets.any (oddM n)) (fun j=>meets.length - j) 0 ⟨Nat.zero_le _,rfl⟩ ?_ ?_
 · (refine ent_id ?_ ?_ ?_ rfl rfl <;> dsimp only [meetL,intL,id,go_sem,rA,rM,rS] <;> simp [meetL,intL,KFR_iff,KFR_app,KFR,KFL,KF,mtL_same,mtO,nbr])
 rintro q ⟨hq,hi2⟩
 dsimp only [go_sem,rA,rM,rS]
 simp only [List.length_map]
 by_cases hlt2:q < meets.length
 · refine br_t (by simpa using hlt2) ?_
   dsimp only [go_sem,rA,rM,rS]
   refine ixs_map q hlt2 rfl ?_
   dsimp only [meetL,go_sem,rA,rM,rS]
   rw [List.drop_eq_getElem_cons hlt2,List.any_cons] at hi2
   generalize meets[q] = m at hi2
   rw [w64_in (n:=n - 1) (by omega) (by omega)]
   refine call (within_ok m.a 0 (n - 1)) ?_
   dsimp only [go_sem,rA,rM,rS]
   repeat (first | (refine gb ?_;dsimp only [go_sem,rA,rM,rS]) | (refine call (within_ok m.b 0 (n - 1)) ?_;dsimp only [go_sem,rA,rM,rS]) | (refine call (within_ok m.day 0 100000) ?_;dsimp only [go_sem,rA,rM,rS]) | (rw [w64_in (n:=n - 1) (by omega) (by omega)]))
   rw [show (!inR 0 (n - 1) m.a || !inR 0 (n - 1) m.b || m.a == m.b || !inR 0 100000 m.day) = oddM n m from by unfold oddM;rw [Bool.not_and];rfl]
   by_cases hx:oddM n m = true
   · refine br_t hx ?_
     dsimp only [go_sem,rA,rM,rS]
     rw [← hi2];simp [hx]
   · refine br_f (by simpa using hx) ?_
     dsimp only [go_sem,rA,rM,rS]
     rw [w64_in (n:=(q:Int) + 1) (by omega) (by omega)]
     refine ⟨q + 1,⟨hlt2,by simpa [hx] using hi2⟩,by omega,?_⟩
     (refine ent_id ?_ ?_ ?_ rfl rfl <;> dsimp only [meetL,intL,id,go_sem,rA,rM,rS] <;> simp [meetL,intL,KFR_iff,KFR_app,KFR,KFL,KF,mtL_same,mtO,nbr])
 refine br_f (by simp;omega) ?_
 dsimp only [go_sem,rA,rM,rS]
 rw [show q = meets.length from by omega,List.drop_length] at hi2
 rw [← hi2]
 simp
end Go.Proofs.Ytnlfjchbhgikaaa
set_option maxRecDepth 100000
set_option maxHeartbeats 4000000
namespace Go.Azalai
def knF (day x y:Int):Int:=if day < x then 0 else if y ≤ day then 2 else 1
noncomputable def mangeK (n:Int) (first:List Int) (meets:List Meet) (wait:Span) (day:Int):List Int :=
 (List.range n.toNat).map fun i:Nat=>knF day (gI (sickF n.toNat first (act false meets) wait.lo) (i:Nat)) (gI (sickF n.toNat first (act true meets) wait.hi) (i:Nat))
theorem least_go {n:Nat} {first:List Int} {M:Meet → Prop} {w:Int} (hf:∀ i ∈ first,0 ≤ i ∧ i < (n:Int)) (hm:∀ m,M m → okM n m) (hw:0 ≤ w):∀ (N:Nat) (s:List Int),sumN s ≤ N → Sk n first M w s → ∃ s,Least n first M w s:=fun N=>by
 induction N with
 | zero =>
  intro s hN hs
  refine ⟨s,hs.least hm fun m hM=>?_⟩
  obtain ⟨⟨a0,a1⟩,⟨b0,b1⟩,_,d0,d1⟩:=hm m hM
  have hl:=hs.len
  refine ⟨?_,?_⟩
  · rcases inf1_dec (w:=w) (d:=m.day) (a:=m.a) (b:=m.b) (s:=s) (by omega) b0 (by omega) with h | h
    · exact h
    · omega
  · rcases inf1_dec (w:=w) (d:=m.day) (a:=m.b) (b:=m.a) (s:=s) (by omega) a0 (by omega) with h | h
    · exact h
    · omega
 | succ N ih =>
  intro s hN hs
  by_cases hall:∀ m,M m → inf1 w m.day m.a m.b s = s ∧ inf1 w m.day m.b m.a s = s
  · exact ⟨s,hs.least hm hall⟩
  · have ⟨m,hq⟩:=Classical.not_forall.1 hall
    have ⟨hM,hne⟩:=Classical.not_imp.1 hq
    obtain ⟨⟨a0,a1⟩,⟨b0,b1⟩,_,d0,d1⟩:=hm m hM
    have hl:=hs.len
    by_cases e1:inf1 w m.day m.a m.b s = s
    · have e2:inf1 w m.day m.b m.a s ≠ s:=fun e2=>hne ⟨e1,e2⟩
      rcases inf1_dec (w:=w) (d:=m.day) (a:=m.b) (b:=m.a) (s:=s) (by omega) a0 (by omega) with h | h
      · exact absurd h e2
      · exact ih _ (by omega) (hs.step hf ⟨b0,b1⟩ ⟨a0,a1⟩ d1 (fun t g1 g2=>.r hM g1 g2))
    · rcases inf1_dec (w:=w) (d:=m.day) (a:=m.a) (b:=m.b) (s:=s) (by omega) b0 (by omega) with h | h
      · exact absurd h e1
      · exact ih _ (by omega) (hs.step hf ⟨a0,a1⟩ ⟨b0,b1⟩ d1 (fun t g1 g2=>.l hM g1 g2))
theorem least_ex {n:Nat} {first:List Int} {M:Meet → Prop} {w:Int} (hf:∀ i ∈ first,0 ≤ i ∧ i < (n:Int)) (hm:∀ m,M m → okM n m) (hw:0 ≤ w):∃ s,Least n first M w s:=by
 refine least_go hf hm hw _ (baseF first (List.replicate n never)) (Nat.le_refl _) ?_
 have hb:=baseF_gI (n:=n) first (List.replicate n never) (by simp) hf
 refine ⟨by rw [baseF_len];simp,fun i h0 h1=>?_,fun i hi=>?_,fun i h0 h1=>?_⟩
 · rw [hb i h0]
   split
   · rename_i h;exact .inr (.base h)
   · exact .inl (gI_rep h0 h1)
 · rw [hb i (hf i hi).1,if_pos hi];exact Int.le_refl _
 · rw [hb i h0]
   split
   · unfold never;omega
   · rw [gI_rep h0 h1];exact Int.le_refl _
theorem meetsE_0 {n:Int} {first:List Int} {meets:List Meet} {wait:Span} {day:Int} (h:meetsE n first meets wait day = 0):(1 ≤ n ∧ n ≤ 30) ∧ (1 ≤ wait.lo ∧ wait.lo ≤ wait.hi ∧ wait.hi ≤ 60) ∧ (0 ≤ day ∧ day ≤ 100000) ∧ first.length ≤ 30 ∧ meets.length ≤ 200 ∧ (∀ i ∈ first,0 ≤ i ∧ i < n) ∧ ∀ m ∈ meets,okM n m:=by
 unfold meetsE at h
 split at h
 · cases h
 rename_i h1
 split at h
 · cases h
 rename_i h2
 split at h
 · cases h
 rename_i h3
 simp only [Bool.not_eq_true',Bool.not_eq_false,Bool.and_eq_true,inR,okSp,decide_eq_true_eq,Bool.or_eq_true,not_or,Bool.not_eq_true] at h1 h3
 refine ⟨h1.1.1,h1.1.2,h1.2,by omega,by omega,fun i hi=>?_,fun m hm=>?_⟩
 · have:=List.all_eq_true.1 h3.1 i hi
   simp only [inR,decide_eq_true_eq] at this
   omega
 · have:=List.any_eq_false.1 h3.2 m hm
   unfold oddM inR at this
   simp only [Bool.or_eq_true,Bool.not_eq_true',Bool.and_eq_false_iff,decide_eq_false_iff_not,decide_eq_true_eq,not_or] at this
   unfold okM
   omega
end Go.Azalai
namespace Go.Proofs.Ytnlfjchbhgikaaa
open Go Go.Sx Go.Azalai
def u8L (n:Int):List SV:=[U8 n]
def rowsK (e:Int) (l:List Int):SV:=if e = 0 then .sl false 1 (l.map u8L) else .v (.slice none 0 0)
end Go.Proofs.Ytnlfjchbhgikaaa
namespace Go.Azalai
def wellD:Int:=100061
def catch1 (d v a b:Int) (s:List Int):List Int:=if gI s a ≤ d ∧ gI s b = wellD then s.set b.toNat (d + v) else s
def catchM (m:Meet) (v1 v2:Int) (s:List Int):List Int:=catch1 m.day v2 m.b m.a (catch1 m.day v1 m.a m.b s)
theorem catch1_len (d v a b:Int) (s:List Int):(catch1 d v a b s).length = s.length:=by unfold catch1;split <;> simp
structure Si (n:Int) (first:List Int) (A P:Meet → Prop) (lo hi D:Int) (s:List Int):Prop where
 len:s.length = n
 snd:∀ i,0 ≤ i → i < n → gI s i = wellD ∨ ∃ t,t ≤ gI s i ∧ Inf first A lo i t
 cmp:∀ i t,Inf first P hi i t → gI s i ≤ t
 bd:∀ i,0 ≤ i → i < n → gI s i = wellD ∨ gI s i ≤ D + hi
theorem catch1_get {d v a b i:Int} {s:List Int} (hb:0 ≤ b) (hbl:b < s.length) (hi:0 ≤ i):gI (catch1 d v a b s) i = if gI s a ≤ d ∧ gI s b = wellD ∧ i = b then d + v else gI s i:=by
 unfold catch1
 by_cases h:gI s a ≤ d ∧ gI s b = wellD
 · rw [if_pos h,gI_set hb hbl hi]
   by_cases h2:i = b
   · rw [if_pos h2,if_pos ⟨h.1,h.2,h2⟩]
   · rw [if_neg h2,if_neg (fun q=>h2 q.2.2)]
 · rw [if_neg h,if_neg (fun q=>h ⟨q.1,q.2.1⟩)]
theorem catch1_si {n:Int} {first:List Int} {A P:Meet → Prop} {lo hi D d v a b:Int} {s:List Int} (hv:lo ≤ v ∧ v ≤ hi) (hd:0 ≤ d ∧ d ≤ 100000) (hh:hi ≤ 60) (hl:1 ≤ lo) (hDd:D ≤ d) (ha:0 ≤ a ∧ a < n) (hb:0 ≤ b ∧ b < n)
 (hA:∀ t,Inf first A lo a t → t ≤ d → Inf first A lo b (d + lo)) (h:Si n first A P lo hi D s) :
 Si n first A P lo hi d (catch1 d v a b s) ∧ (gI s a ≤ d → gI (catch1 d v a b s) b ≤ d + hi) ∧ ∀ i,0 ≤ i → i < n → gI s i ≤ d → gI (catch1 d v a b s) i ≤ d:=by
 have hln:=h.len
 have hg:=fun i (h0:0 ≤ i)=>catch1_get (d:=d) (v:=v) (a:=a) (b:=b) (s:=s) hb.1 (by omega) h0
 refine ⟨⟨by rw [catch1_len];exact hln,fun i h0 h1=>?_,fun i t hi'=>?_,fun i h0 h1=>?_⟩,fun hsa=>?_,fun i h0 h1 hi'=>?_⟩
 · rw [hg i h0]
   split
   · rename_i q
     obtain ⟨q1,q2,rfl⟩:=q
     rcases h.snd a ha.1 ha.2 with q3 | ⟨t,q3,q4⟩
     · unfold wellD at q3;omega
     · exact .inr ⟨d + lo,by omega,hA t q4 (by omega)⟩
   · exact h.snd i h0 h1
 · have h0:=h.cmp i t hi'
   by_cases hi0:0 ≤ i
   · rw [hg i hi0]
     split
     · rename_i q
       obtain ⟨q1,q2,rfl⟩:=q
       rw [q2] at h0;unfold wellD at h0;omega
     · exact h0
   · unfold catch1
     split
     · unfold gI at h0 ⊢
       rw [List.getD_eq_getElem?_getD] at h0 ⊢
       by_cases hz:b.toNat = i.toNat
       · rw [← hz,List.getElem?_set_self (by omega)]
         rename_i q
         have q2:=q.2
         unfold gI at q2
         rw [List.getD_eq_getElem?_getD,hz] at q2
         rw [q2] at h0
         simp only [Option.getD_some];unfold wellD at h0;omega
       · rw [List.getElem?_set_ne hz];exact h0
     · exact h0
 · rw [hg i h0]
   split
   · right;omega
   · rcases h.bd i h0 h1 with q | q
     · exact .inl q
     · right;omega
 · rw [hg b hb.1]
   by_cases q:gI s b = wellD
   · rw [if_pos ⟨hsa,q,rfl⟩];omega
   · rw [if_neg (fun r=>q r.2.1)]
     rcases h.bd b hb.1 hb.2 with r | r
     · exact absurd r q
     · omega
 · rw [hg i h0]
   split
   · rename_i q
     obtain ⟨q1,q2,rfl⟩:=q
     rw [q2] at hi';unfold wellD at hi';omega
   · exact hi'
theorem catchM_si {n:Int} {first:List Int} {A P:Meet → Prop} {lo hi D v1 v2:Int} {m:Meet} {s:List Int} (hf:∀ i ∈ first,0 ≤ i ∧ i < n) (hv1:lo ≤ v1 ∧ v1 ≤ hi) (hv2:lo ≤ v2 ∧ v2 ≤ hi) (hh:hi ≤ 60) (hl:1 ≤ lo) (hDd:D ≤ m.day) (hm:okM n m) (hAm:A m)
 (hP:∀ p,P p → p.day ≤ m.day) (hPm:∀ p,P p → okM n p) (h:Si n first A P lo hi D s):Si n first A (fun x=>P x ∨ x = m) lo hi m.day (catchM m v1 v2 s):=by
 obtain ⟨ha,hb,hab,hd⟩:=hm
 obtain ⟨s1,c1,k1⟩:=catch1_si (v:=v1) (a:=m.a) (b:=m.b) hv1 hd hh hl hDd ha hb (fun t q1 q2=>.l hAm q1 q2) h
 obtain ⟨s2,c2,k2⟩:=catch1_si (v:=v2) (a:=m.b) (b:=m.a) hv2 hd hh hl (Int.le_refl _) hb ha (fun t q1 q2=>.r hAm q1 q2) s1
 have hln:=s1.len
 refine ⟨s2.len,s2.snd,fun i t hi'=>?_,s2.bd⟩
 rcases inf_add (by omega) hP hi' with g | ⟨rfl,rfl,t1,g1,g2⟩ | ⟨rfl,rfl,t1,g1,g2⟩
 · exact s2.cmp i t g
 · have e1:=h.cmp _ _ g1
   have e2:=c1 (by omega)
   have e3:=catch1_get (d:=m.day) (v:=v2) (a:=m.b) (b:=m.a) (i:=m.b) (s:=catch1 m.day v1 m.a m.b s) ha.1 (by rw [hln];exact ha.2) hb.1
   unfold catchM
   rw [e3,if_neg (fun q=>hab q.2.2.symm)]
   exact e2
 · have e1:=h.cmp _ _ g1
   exact c2 (k1 m.b hb.1 hb.2 (by omega))
theorem Si.skip {n:Int} {first:List Int} {A P:Meet → Prop} {lo hi D D':Int} {s:List Int} (h:Si n first A P lo hi D s) (hD:D ≤ D'):Si n first A P lo hi D' s :=
 ⟨h.len,h.snd,h.cmp,fun i h0 h1=>by rcases h.bd i h0 h1 with q | q;exact .inl q;right;omega⟩
theorem Si.start {n:Nat} {first:List Int} {A:Meet → Prop} {lo hi:Int} (hf:∀ i ∈ first,0 ≤ i ∧ i < (n:Int)) (hh:0 ≤ hi):Si n first A (fun _=>False) lo hi 0 (baseF first (List.replicate n wellD)):=by
 have hb:=baseF_gI (n:=n) first (List.replicate n wellD) (by simp) hf
 refine ⟨by rw [baseF_len];simp,fun i h0 h1=>?_,fun i t hi'=>?_,fun i h0 h1=>?_⟩
 · rw [hb i h0]
   split
   · rename_i h;exact .inr ⟨0,Int.le_refl _,.base h⟩
   · exact .inl (gI_rep h0 h1)
 · cases hi' with
   | base h=>rw [hb i (hf i h).1,if_pos h];exact Int.le_refl _
   | l h _ _=>exact h.elim
   | r h _ _=>exact h.elim
 · rw [hb i h0]
   split
   · right;omega
   · exact .inl (gI_rep h0 h1)
theorem Si.law {n:Int} {first:List Int} {meets:List Meet} {P:Meet → Prop} {lo hi D day:Int} {s:List Int} (h:Si n first (act false meets) P lo hi D s) (hl:1 ≤ hi) (hd:day ≤ 100000) (hall:∀ m ∈ meets,m.close = true → m.day ≤ day → P m) {i:Int} (h0:0 ≤ i) (h1:i < n) :
 (gI s i ≤ day → Sick first (act false meets) lo i day) ∧ (Sick first (act true meets) hi i day → gI s i ≤ day):=by
 refine ⟨fun hs=>?_,fun ⟨t,ht,hi'⟩=>?_⟩
 · rcases h.snd i h0 h1 with q | ⟨t,q1,q2⟩
   · unfold wellD at q;omega
   · exact ⟨t,by omega,q2⟩
 · exact Int.le_trans (h.cmp i t (inf_cut hl (fun m hm hmd=>hall m hm.1 (hm.2 rfl) hmd) hi' ht)) ht
end Go.Azalai
set_option maxRecDepth 100000
set_option maxHeartbeats 4000000
namespace Go.Azalai
def lastsG (b:Breed) (m:March):Nat → Camel → Int → Int → Bool → Span
 | 0,_,lo,hi,_=>⟨lo,hi⟩
 | k + 1,c,lo,hi,s =>
  if (afterF b c m).2 = 2 then ⟨lo,hi⟩
  else lastsG b m k (afterF b c m).1 (if (s && decide ((afterF b c m).2 = 0)) = true then lo + 1 else lo) (hi + 1) (s && decide ((afterF b c m).2 = 0))
def lastsF (b:Breed) (c:Camel) (m:March):Span × Int:=if errL b c [m] ≠ 0 then (⟨0,0⟩,errL b c [m]) else (lastsG b m 60 c 0 0 true,0)
end Go.Azalai
namespace Go.Proofs.Ytnlfjchbhgikaaa
open Go Go.Sx Go.Azalai
theorem lasts_ok (b:Breed) (c:Camel) (m:March):Ct Try.prog 33 [.agg (breedL b),.agg (camelL c),.agg (marchL m)] (tres (lastsF b c m)):=by
 refine t33 (by simp [breedL,camelL,marchL,KFL,KF]) (by simp [tres,spanL,KFL,KF]) ?_
 dsimp only [c33,r33,breedL,camelL,marchL,tres,spanL,go_sem,rA,rM,rS]
 refine call (checkL_ok b c [m] (by simp) true) ?_
 dsimp only [go_sem,rA,rM,rS]
 by_cases h0:errL b c [m] = 0
 case neg =>
  refine br_t (by simpa using h0) ?_
  dsimp only [go_sem,rA,rM,rS]
  simp [lastsF,h0]
 refine br_f (by simpa using h0) ?_
 dsimp only [go_sem,rA,rM,rS]
 obtain ⟨hb,hc,_,hl⟩:=errL_0 h0
 have hm:okMarch m = true:=by simpa using hl
 have hF:lastsF b c m = (lastsG b m 60 c 0 0 true,0):=by simp [lastsF,h0]
 rw [hF]
 refine call (rep_ok m 60 (by decide) (by decide) true) ?_
 rw [← List.map_replicate]
 obtain ⟨l,hl⟩:∃ l,l = List.replicate 60 m:=⟨_,rfl⟩
 rw [← hl]
 have hl60:l.length = 60:=by rw [hl];simp
 have hlm:∀ (j:Nat) (h:j < l.length),l[j] = m:=fun j h=>by subst hl;exact List.getElem_replicate _
 clear hl
 dsimp only [go_sem,rA,rM,rS]
 refine callmL [] (iter_ok b c l false) rfl rfl rfl ?_ ?_ ?_
 · exact mtL_same (by simp [breedL,camelL,beastL,marchL,KFR_iff,KFL,KF])
 · trivial
 dsimp only [iterO,beastL,go_sem,rA,rM,rS]
 refine gh ent_refl ?_
 dsimp only [go_sem,rA,rM,rS]
 refine ⟨b95,fun rec=>?_⟩
 refine y95 ?_
 dsimp only [c95,r95,go_sem,rA,rM,rS]
 refine loopO (fun s:Nat × Camel × Int × Bool=>[(10,I s.1)]) (fun s=>[(6,.cells (beastL b s.2.1) 107),(4,.cells [I s.2.2.1,I s.1] 23),(5,.cells [B s.2.2.2] 4)])
  (fun s=>s.1 ≤ 60 ∧ okCamel b s.2.1 = true ∧ (0 ≤ s.2.2.1 ∧ s.2.2.1 ≤ s.1) ∧ lastsG b m (60 - s.1) s.2.1 s.2.2.1 s.1 s.2.2.2 = lastsG b m 60 c 0 0 true) (fun s=>60 - s.1) (0,c,0,true) ⟨by simp,hc,by simp,rfl⟩ ?_ ?_
 · (refine ent_id ?_ ?_ ?_ rfl rfl <;> dsimp only [breedL,camelL,marchL,beastL,id,go_sem,rA,rM,rS] <;> simp [breedL,camelL,marchL,beastL,KFR_iff,KFR_app,KFR,KFL,KF,mtL_same,mtO,nbr])
 rintro ⟨j,c1,lo,s⟩ ⟨hj,hc1,hs,hi⟩
 simp only at hj hc1 hs hi
 dsimp only [beastL,go_sem,rA,rM,rS]
 simp only [List.length_map,hl60]
 by_cases hlt:j < 60
 · refine br_t (by simp;omega) ?_
   dsimp only [go_sem,rA,rM,rS]
   rw [show 60 - j = (60 - (j + 1)) + 1 from by omega,lastsG] at hi
   refine ixs_map j (by omega) rfl ?_
   rw [hlm]
   dsimp only [marchL,go_sem,rA,rM,rS]
   by_cases hf2:(afterF b c1 m).2 = 2
   · refine call (day_dies b c1 m hb hc1 hm hf2) ?_
     dsimp only [beastL,zeroC,go_sem,rA,rM,rS]
     refine ⟨rfl,rfl,?_⟩
     refine br_t (by decide) ?_
     dsimp only [go_sem,rA,rM,rS]
     refine ⟨rfl,?_⟩
     refine gb ?_
     dsimp only [go_sem,rA,rM,rS]
     refine gb ?_
     dsimp only [go_sem,rA,rM,rS]
     refine br_t (by decide) ?_
     dsimp only [go_sem,rA,rM,rS]
     rw [if_pos hf2] at hi
     rw [← hi]
   refine call (day_ok b c1 m hb hc1 hm hf2) ?_
   dsimp only [beastL,go_sem,rA,rM,rS]
   refine ⟨rfl,rfl,?_⟩
   refine br_f (by simpa using hf2) ?_
   dsimp only [go_sem,rA,rM,rS]
   rw [if_neg hf2] at hi
   rw [w64_in (n:=(j:Int) + 1) (by omega) (by omega)]
   cases s
   · refine gb ?_
     dsimp only [go_sem,rA,rM,rS]
     refine gb ?_
     dsimp only [go_sem,rA,rM,rS]
     have hf0:True:=trivial
     simp only [Bool.false_and]
     refine br_f rfl ?_
     dsimp only [go_sem,rA,rM,rS]
     refine ⟨rfl,?_⟩
     refine gb ?_
     dsimp only [go_sem,rA,rM,rS]
     refine gb ?_
     dsimp only [go_sem,rA,rM,rS]
     refine br_f (by simpa using hf2) ?_
     dsimp only [go_sem,rA,rM,rS]
     rw [w64_in (n:=(j:Int) + 1) (by omega) (by omega)]
     refine ⟨(j + 1,(afterF b c1 m).1,lo,false),⟨by simp only;omega,after_ok hb hc1 hm hf2,by simp only;omega,by simpa [hf0] using hi⟩,by simp only;omega,?_⟩
     (refine ent_id ?_ ?_ ?_ rfl rfl <;> dsimp only [breedL,camelL,marchL,beastL,id,go_sem,rA,rM,rS] <;> simp [breedL,camelL,marchL,beastL,KFR_iff,KFR_app,KFR,KFL,KF,mtL_same,mtO,nbr])
   · refine gb ?_
     dsimp only [go_sem,rA,rM,rS]
     refine gb ?_
     dsimp only [go_sem,rA,rM,rS]
     by_cases hf0:(afterF b c1 m).2 = 0
     · rw [show (true && (afterF b c1 m).2 == 0) = true from by simp [hf0]]
       refine br_t rfl ?_
       dsimp only [go_sem,rA,rM,rS]
       rw [w64_in (n:=lo + 1) (by omega) (by omega)]
       refine ⟨rfl,?_⟩
       refine gb ?_
       dsimp only [go_sem,rA,rM,rS]
       refine gb ?_
       dsimp only [go_sem,rA,rM,rS]
       refine br_f (by simpa using hf2) ?_
       dsimp only [go_sem,rA,rM,rS]
       rw [w64_in (n:=(j:Int) + 1) (by omega) (by omega)]
       refine ⟨(j + 1,(afterF b c1 m).1,lo + 1,true),⟨by simp only;omega,after_ok hb hc1 hm hf2,by simp only;omega,by simpa [hf0] using hi⟩,by simp only;omega,?_⟩
       (refine ent_id ?_ ?_ ?_ rfl rfl <;> dsimp only [breedL,camelL,marchL,beastL,id,go_sem,rA,rM,rS] <;> simp [breedL,camelL,marchL,beastL,KFR_iff,KFR_app,KFR,KFL,KF,mtL_same,mtO,nbr])
     · rw [show (true && (afterF b c1 m).2 == 0) = false from by simp [hf0]]
       refine br_f rfl ?_
       dsimp only [go_sem,rA,rM,rS]
       refine ⟨rfl,?_⟩
       refine gb ?_
       dsimp only [go_sem,rA,rM,rS]
       refine gb ?_
       dsimp only [go_sem,rA,rM,rS]
       refine br_f (by simpa using hf2) ?_
       dsimp only [go_sem,rA,rM,rS]
       rw [w64_in (n:=(j:Int) + 1) (by omega) (by omega)]
       refine ⟨(j + 1,(afterF b c1 m).1,lo,false),⟨by simp only;omega,after_ok hb hc1 hm hf2,by simp only;omega,by simpa [hf0] using hi⟩,by simp only;omega,?_⟩
       (refine ent_id ?_ ?_ ?_ rfl rfl <;> dsimp only [breedL,camelL,marchL,beastL,id,go_sem,rA,rM,rS] <;> simp [breedL,camelL,marchL,beastL,KFR_iff,KFR_app,KFR,KFL,KF,mtL_same,mtO,nbr])
 refine br_f (by simp;omega) ?_
 dsimp only [go_sem,rA,rM,rS]
 have hje:j = 60:=by omega
 subst hje
 rw [show 60 - 60 = 0 from rfl,lastsG] at hi
 rw [← hi]
end Go.Proofs.Ytnlfjchbhgikaaa
set_option maxRecDepth 100000
set_option maxHeartbeats 4000000
namespace Go.Azalai
end Go.Azalai
namespace Go.Proofs.Ytnlfjchbhgikaaa
open Go Go.Sx Go.Azalai
end Go.Proofs.Ytnlfjchbhgikaaa
set_option maxRecDepth 100000
namespace Go.Proofs.Ytnlfjchbhgikaaa
open Go Go.Sx
def c38:SC:=(.seq (.reg [
 ⟨some 0,.mv (.c (.bool false)),none,[]⟩])
 (.seq (.reg [
 ⟨some 16,.call 52 [],none,[]⟩,
 ⟨some 17,.call 53 [],none,[]⟩,
 ⟨some 18,.call 14 [.t 16,.t 17],none,[]⟩,
 ⟨some 15,.mv (.t 18),none,[]⟩,
 ⟨some 19,.ext (.t 15) 0,none,[]⟩,
 ⟨some 20,.ext (.t 15) 1,none,[]⟩,
 ⟨some 1,.alloc [.int .i64 0,.int .i64 0] 23,none,[]⟩,
 ⟨none,.st (.t 1) (.t 19) 2,none,[]⟩,
 ⟨some 2,.mv (.t 20),none,[]⟩])
 (.seq (.reg [
 ⟨some 22,.call 52 [],none,[]⟩,
 ⟨some 23,.call 53 [],none,[]⟩,
 ⟨some 24,.call 16 [.t 22,.t 23],none,[]⟩,
 ⟨some 21,.mv (.t 24),none,[]⟩,
 ⟨some 25,.ext (.t 21) 0,none,[]⟩,
 ⟨some 26,.ext (.t 21) 1,none,[]⟩,
 ⟨some 3,.alloc [.int .i64 0,.int .i64 0] 23,none,[]⟩,
 ⟨none,.st (.t 3) (.t 25) 2,none,[]⟩,
 ⟨some 4,.mv (.t 26),none,[]⟩])
 (.seq (.reg [
 ⟨some 28,.call 52 [],none,[]⟩,
 ⟨some 29,.call 54 [],none,[]⟩,
 ⟨some 30,.call 18 [.t 28,.c (.bool false),.t 29],none,[]⟩,
 ⟨some 27,.mv (.t 30),none,[]⟩,
 ⟨some 31,.ext (.t 27) 0,none,[]⟩,
 ⟨some 32,.ext (.t 27) 1,none,[]⟩,
 ⟨some 33,.ext (.t 27) 2,none,[]⟩,
 ⟨some 5,.alloc [.int .i64 0,.int .i64 0] 23,none,[]⟩,
 ⟨some 6,.alloc [.int .i64 0,.int .i64 0] 23,none,[]⟩,
 ⟨none,.st (.t 5) (.t 31) 2,none,[]⟩,
 ⟨none,.st (.t 6) (.t 32) 2,none,[]⟩,
 ⟨some 7,.mv (.t 33),none,[]⟩])
 (.seq (.reg [
 ⟨some 35,.call 52 [],none,[]⟩,
 ⟨some 36,.call 53 [],none,[]⟩,
 ⟨some 37,.call 54 [],none,[]⟩,
 ⟨some 38,.call 29 [.t 35,.t 36,.t 37],none,[]⟩,
 ⟨some 34,.mv (.t 38),none,[]⟩,
 ⟨some 39,.ext (.t 34) 0,none,[]⟩,
 ⟨some 40,.ext (.t 34) 1,none,[]⟩,
 ⟨some 41,.ext (.t 34) 2,none,[]⟩,
 ⟨some 8,.alloc [.int .i64 0,.int .i64 0,.int .i64 0,.int .i64 0,.int .i64 0,.int .i64 0,.bool false] 27,none,[]⟩,
 ⟨none,.st (.t 8) (.t 39) 7,none,[]⟩,
 ⟨some 9,.mv (.t 40),none,[]⟩,
 ⟨some 10,.mv (.t 41),none,[]⟩])
 (.seq (.reg [
 ⟨some 43,.call 52 [],none,[]⟩,
 ⟨some 44,.call 53 [],none,[]⟩,
 ⟨some 45,.call 54 [],none,[]⟩,
 ⟨some 46,.call 33 [.t 43,.t 44,.t 45],none,[]⟩,
 ⟨some 42,.mv (.t 46),none,[]⟩,
 ⟨some 47,.ext (.t 42) 0,none,[]⟩,
 ⟨some 48,.ext (.t 42) 1,none,[]⟩,
 ⟨some 11,.alloc [.int .i64 0,.int .i64 0] 23,none,[]⟩,
 ⟨none,.st (.t 11) (.t 47) 2,none,[]⟩,
 ⟨some 12,.mv (.t 48),none,[]⟩])
 (.seq (.reg [
 ⟨some 50,.bsl 1 3 [.c (.int .i64 0)],none,[]⟩,
 ⟨some 51,.call 51 [],none,[]⟩,
 ⟨some 52,.call 48 [.c (.int .i64 3),.c (.int .i64 5)],none,[]⟩,
 ⟨some 53,.call 35 [.c (.int .i64 3),.t 50,.t 51,.t 52,.c (.int .i64 8)],none,[]⟩,
 ⟨some 49,.mv (.t 53),none,[]⟩,
 ⟨some 54,.ext (.t 49) 0,none,[]⟩,
 ⟨some 55,.ext (.t 49) 1,none,[]⟩,
 ⟨some 13,.mv (.t 54),none,[]⟩,
 ⟨some 14,.mv (.t 55),none,[]⟩])
 (.seq (.regd [0,1,2,3,4,5,6,7,8,9,10,11,12,13,14,15,16,17,18,19,20,21,22,23,24,25,26,27,28,29,30,31,32,33,34,35,36,37,38,39,40,41,42,43,44,45,46,47,48,49,50,51,52,53,54,55,56,57,58,59,60,61,62,63,64] [
 .op ⟨some 56,.mv (.t 2),none,[]⟩,
 .op ⟨some 57,.bin .eql (.t 56) (.c (.int .i64 0)),none,[0]⟩,
 .op ⟨some 58,.mv (.t 57),none,[1]⟩,
 .op ⟨some 59,.ld (.t 1) 2 true,some (58,true),[2]⟩,
 .op ⟨some 60,.call 48 [.c (.int .i64 800),.c (.int .i64 1000)],some (58,true),[2]⟩,
 .op ⟨some 61,.eqs false true [1,1] (.t 59) (.t 60),some (58,true),[2,3,4]⟩,
 .op ⟨some 62,.pick (.t 58) (.t 61) (.c (.bool false)),none,[2,5]⟩,
 .op ⟨some 63,.mv (.t 62),none,[4,6]⟩,
 .op ⟨some 64,.mv (.t 4),some (63,true),[7]⟩,
 .op ⟨some 65,.bin .eql (.t 64) (.c (.int .i64 0)),some (63,true),[7,8]⟩,
 .op ⟨some 66,.pick (.t 63) (.t 65) (.c (.bool false)),none,[7,9]⟩,
 .op ⟨some 67,.mv (.t 66),none,[7,10]⟩,
 .op ⟨some 68,.ld (.t 3) 2 true,some (67,true),[11]⟩,
 .op ⟨some 69,.call 48 [.c (.int .i64 120000),.c (.int .i64 200000)],some (67,true),[11]⟩,
 .op ⟨some 70,.eqs false true [1,1] (.t 68) (.t 69),some (67,true),[11,12,13]⟩,
 .op ⟨some 71,.pick (.t 67) (.t 70) (.c (.bool false)),none,[11,14]⟩,
 .op ⟨some 72,.mv (.t 71),none,[13,15]⟩,
 .op ⟨some 73,.mv (.t 7),some (72,true),[16]⟩,
 .op ⟨some 74,.bin .eql (.t 73) (.c (.int .i64 0)),some (72,true),[16,17]⟩,
 .op ⟨some 75,.pick (.t 72) (.t 74) (.c (.bool false)),none,[16,18]⟩,
 .op ⟨some 76,.mv (.t 75),none,[16,19]⟩,
 .op ⟨some 77,.ld (.t 5) 2 true,some (76,true),[20]⟩,
 .op ⟨some 78,.call 48 [.c (.int .i64 7000),.c (.int .i64 9500)],some (76,true),[20]⟩,
 .op ⟨some 79,.eqs false true [1,1] (.t 77) (.t 78),some (76,true),[20,21,22]⟩,
 .op ⟨some 80,.pick (.t 76) (.t 79) (.c (.bool false)),none,[20,23]⟩,
 .op ⟨some 81,.mv (.t 80),none,[22,24]⟩,
 .op ⟨some 82,.ld (.t 6) 2 true,some (81,true),[25]⟩,
 .op ⟨some 83,.call 48 [.c (.int .i64 800),.c (.int .i64 1000)],some (81,true),[25]⟩,
 .op ⟨some 84,.eqs false true [1,1] (.t 82) (.t 83),some (81,true),[25,26,27]⟩,
 .op ⟨some 85,.pick (.t 81) (.t 84) (.c (.bool false)),none,[25,28]⟩,
 .op ⟨some 86,.mv (.t 85),none,[27,29]⟩,
 .op ⟨some 87,.mv (.t 10),some (86,true),[30]⟩,
 .op ⟨some 88,.bin .eql (.t 87) (.c (.int .i64 0)),some (86,true),[30,31]⟩,
 .op ⟨some 89,.pick (.t 86) (.t 88) (.c (.bool false)),none,[30,32]⟩,
 .op ⟨some 90,.mv (.t 89),none,[30,33]⟩,
 .op ⟨some 91,.mv (.t 9),some (90,true),[34]⟩,
 .op ⟨some 92,.bin .eql (.t 91) (.c (.int .u8 0)),some (90,true),[34,35]⟩,
 .op ⟨some 93,.pick (.t 90) (.t 92) (.c (.bool false)),none,[34,36]⟩,
 .op ⟨some 94,.mv (.t 93),none,[34,37]⟩,
 .op ⟨some 95,.ld (.t 8) 7 true,some (94,true),[38]⟩,
 .op ⟨some 96,.call 48 [.c (.int .i64 50500),.c (.int .i64 63000)],some (94,true),[38]⟩,
 .op ⟨some 97,.call 48 [.c (.int .i64 19000),.c (.int .i64 29200)],some (94,true),[38,40]⟩,
 .op ⟨some 98,.call 48 [.c (.int .i64 100),.c (.int .i64 300)],some (94,true),[38,41]⟩,
 .op ⟨some 99,.build [.int .i64 0,.int .i64 0,.int .i64 0,.int .i64 0,.int .i64 0,.int .i64 0,.bool false] [(0,2,.t 96),(2,2,.t 97),(4,2,.t 98)],some (94,true),[38,40,41,42]⟩,
 .op ⟨some 100,.eqs false true [1,1,1,1,1,1,0] (.t 95) (.t 99),some (94,true),[38,39,43]⟩,
 .op ⟨some 101,.pick (.t 94) (.t 100) (.c (.bool false)),none,[38,44]⟩,
 .op ⟨some 102,.mv (.t 101),none,[42,45]⟩,
 .op ⟨some 103,.mv (.t 12),some (102,true),[46]⟩,
 .op ⟨some 104,.bin .eql (.t 103) (.c (.int .i64 0)),some (102,true),[46,47]⟩,
 .op ⟨some 105,.pick (.t 102) (.t 104) (.c (.bool false)),none,[46,48]⟩,
 .op ⟨some 106,.mv (.t 105),none,[46,49]⟩,
 .op ⟨some 107,.ld (.t 11) 2 true,some (106,true),[50]⟩,
 .op ⟨some 108,.call 48 [.c (.int .i64 6),.c (.int .i64 10)],some (106,true),[50]⟩,
 .op ⟨some 109,.eqs false true [1,1] (.t 107) (.t 108),some (106,true),[50,51,52]⟩,
 .op ⟨some 110,.pick (.t 106) (.t 109) (.c (.bool false)),none,[50,53]⟩,
 .op ⟨some 111,.mv (.t 110),none,[52,54]⟩,
 .op ⟨some 112,.mv (.t 14),some (111,true),[55]⟩,
 .op ⟨some 113,.bin .eql (.t 112) (.c (.int .i64 0)),some (111,true),[55,56]⟩,
 .op ⟨some 114,.pick (.t 111) (.t 113) (.c (.bool false)),none,[55,57]⟩,
 .op ⟨some 115,.mv (.t 114),none,[55,58]⟩,
 .op ⟨some 116,.mv (.t 13),some (115,true),[59]⟩] 0 0 [
 ⟨some 117,.raw (Go.Op.convert 67 9 (Go.Operand.tmp 116)) 9,some (115,true),[59,60]⟩,
 ⟨some 118,.raw (Go.Op.binOp Go.BinOp.eql 9 (Go.Operand.tmp 117) (Go.Operand.const (Go.Value.string { data:=#[2,1,0] })) 9) 4,some (115,true),[59,61]⟩,
 ⟨some 119,.pick (.t 115) (.t 118) (.c (.bool false)),none,[59,62]⟩,
 ⟨some 0,.mv (.t 119),none,[0,1,2,3,4,5,6,7,8,9,10,11,12,13,14,15,16,17,18,19,20,21,22,23,24,25,26,27,28,29,30,31,32,33,34,35,36,37,38,39,40,41,42,43,44,45,46,47,48,49,50,51,52,53,54,55,56,57,58,59,60,61,62,63]⟩])
 .ret))))))))
def r38:List RV:=[.tmp 0]
theorem n38:Try.f38.ntmps = 120:=by kernel_rfl
theorem b38:bodyB Try.prog 38 = true:=by kernel_rfl
theorem c38_ok:cmpC Try.prog c38 ((Try.f38.body).getD .skip) = true:=by kernel_rfl
theorem r38_ok:cmpR Try.prog r38 Try.f38.results.toList = true:=by kernel_rfl
theorem t38 {args:List SV} {res:SV} (ka:KFL args) (kr:KF res) (h:sx Try.prog Y0 0 c38 (st0 args 120) (retK r38 res)) (hA:Nat.ble args.length 120 = true:=by rfl):Ct Try.prog 38 args res:=ct_intro Try.func38 rfl b38 c38_ok r38_ok n38 (Nat.le_of_ble_eq_true hA) ka kr h
def c44:SC:=(.seq (.reg [
 ⟨some 2,.box (.t 0) 0 23,none,[]⟩,
 ⟨some 4,.mv (.c (.int .i64 0)),none,[]⟩])
 (.seq (.regd [0,1,2,3,4,5,6,7,8,9,10,11,12] [
 .op ⟨some 5,.addo (.t 2) 0,none,[]⟩,
 .op ⟨some 6,.ld (.t 5) 1 false,none,[0]⟩,
 .op ⟨some 7,.mv (.t 1),none,[]⟩,
 .op ⟨some 8,.conv .i64 (.t 7),none,[2]⟩,
 .op ⟨some 9,.addo (.t 2) 1,none,[]⟩,
 .op ⟨some 10,.ld (.t 9) 1 false,none,[4]⟩,
 .op ⟨some 11,.addo (.t 2) 0,none,[]⟩,
 .op ⟨some 12,.ld (.t 11) 1 false,none,[6]⟩,
 .op ⟨some 13,.bin .sub (.t 10) (.t 12),none,[5,7]⟩,
 .op ⟨some 14,.bin .add (.t 13) (.c (.int .i64 1)),none,[8]⟩,
 .op ⟨some 15,.div .rem (.t 8) (.t 14),none,[3,9]⟩,
 .op ⟨some 16,.bin .add (.t 6) (.t 15),none,[1,10]⟩,
 .op ⟨some 4,.mv (.t 16),none,[0,1,2,3,4,5,6,7,8,9,10,11]⟩] 0 0 [
])
 .ret))
def r44:List RV:=[.tmp 4]
theorem n44:Try.f44.ntmps = 17:=by kernel_rfl
theorem b44:bodyB Try.prog 44 = true:=by kernel_rfl
theorem c44_ok:cmpC Try.prog c44 ((Try.f44.body).getD .skip) = true:=by kernel_rfl
theorem r44_ok:cmpR Try.prog r44 Try.f44.results.toList = true:=by kernel_rfl
theorem t44 {args:List SV} {res:SV} (ka:KFL args) (kr:KF res) (h:sx Try.prog Y0 0 c44 (st0 args 17) (retK r44 res)) (hA:Nat.ble args.length 17 = true:=by rfl):Ct Try.prog 44 args res:=ct_intro Try.func44 rfl b44 c44_ok r44_ok n44 (Nat.le_of_ble_eq_true hA) ka kr h
def c45:SC:=(.seq (.reg [
 ⟨some 4,.mv (.c (.int .u32 0)),none,[]⟩])
 (.seq (.seq (.reg [
 ⟨some 5,.mv (.t 0),none,[]⟩,
 ⟨some 6,.len (.t 5),none,[]⟩,
 ⟨some 7,.bin .eql (.t 6) (.c (.int .i64 0)),none,[]⟩])
 (.cond (.t 7)
 (.seq (.reg [
  ⟨some 4,.mv (.c (.int .u32 0)),none,[]⟩])
  .ret)
 .skip))
 (.seq (.reg [
 ⟨some 8,.mv (.t 0),none,[]⟩,
 ⟨some 9,.mv (.t 1),none,[]⟩,
 ⟨some 10,.mv (.t 0),none,[]⟩,
 ⟨some 11,.len (.t 10),none,[]⟩,
 ⟨some 12,.div .rem (.t 9) (.t 11),none,[]⟩,
 ⟨some 13,.ixs (.t 8) (.t 12) 1,none,[]⟩,
 ⟨some 14,.ld (.t 13) 1 false,none,[]⟩,
 ⟨some 4,.mv (.t 14),none,[]⟩])
 .ret)))
def r45:List RV:=[.tmp 4]
theorem n45:Try.f45.ntmps = 15:=by kernel_rfl
theorem b45:bodyB Try.prog 45 = true:=by kernel_rfl
theorem c45_ok:cmpC Try.prog c45 ((Try.f45.body).getD .skip) = true:=by kernel_rfl
theorem r45_ok:cmpR Try.prog r45 Try.f45.results.toList = true:=by kernel_rfl
theorem t45 {args:List SV} {res:SV} (ka:KFL args) (kr:KF res) (h:sx Try.prog Y0 0 c45 (st0 args 15) (retK r45 res)) (hA:Nat.ble args.length 15 = true:=by rfl):Ct Try.prog 45 args res:=ct_intro Try.func45 rfl b45 c45_ok r45_ok n45 (Nat.le_of_ble_eq_true hA) ka kr h
def c48:SC:=(.seq (.reg [
 ⟨some 4,.alloc [.int .i64 0,.int .i64 0] 23,none,[]⟩])
 (.seq (.reg [
 ⟨some 5,.mv (.t 0),none,[]⟩,
 ⟨some 6,.mv (.t 1),none,[]⟩,
 ⟨some 7,.build [.int .i64 0,.int .i64 0] [(0,1,.t 5),(1,1,.t 6)],none,[]⟩,
 ⟨none,.st (.t 4) (.t 7) 2,none,[]⟩])
 .ret))
def r48:List RV:=[.cell 4 2 true]
theorem n48:Try.f48.ntmps = 8:=by kernel_rfl
theorem b48:bodyB Try.prog 48 = true:=by kernel_rfl
theorem c48_ok:cmpC Try.prog c48 ((Try.f48.body).getD .skip) = true:=by kernel_rfl
theorem r48_ok:cmpR Try.prog r48 Try.f48.results.toList = true:=by kernel_rfl
theorem t48 {args:List SV} {res:SV} (ka:KFL args) (kr:KF res) (h:sx Try.prog Y0 0 c48 (st0 args 8) (retK r48 res)) (hA:Nat.ble args.length 8 = true:=by rfl):Ct Try.prog 48 args res:=ct_intro Try.func48 rfl b48 c48_ok r48_ok n48 (Nat.le_of_ble_eq_true hA) ka kr h
def c51:SC:=(.seq (.reg [
 ⟨some 0,.mv (.c (.slice none 0 0)),none,[]⟩])
 (.seq (.reg [
 ⟨some 1,.build [.int .i64 0,.int .i64 0,.int .i64 0,.bool false] [(0,1,.c (.int .i64 0)),(1,1,.c (.int .i64 1)),(2,1,.c (.int .i64 5))],none,[]⟩,
 ⟨some 2,.build [.int .i64 0,.int .i64 0,.int .i64 0,.bool false] [(0,1,.c (.int .i64 1)),(1,1,.c (.int .i64 2)),(2,1,.c (.int .i64 9)),(3,1,.c (.bool true))],none,[]⟩,
 ⟨some 3,.bsl 4 73 [.t 1,.t 2],none,[]⟩,
 ⟨some 0,.mv (.t 3),none,[]⟩])
 .ret))
def r51:List RV:=[.tmp 0]
theorem n51:Try.f51.ntmps = 4:=by kernel_rfl
theorem b51:bodyB Try.prog 51 = true:=by kernel_rfl
theorem c51_ok:cmpC Try.prog c51 ((Try.f51.body).getD .skip) = true:=by kernel_rfl
theorem r51_ok:cmpR Try.prog r51 Try.f51.results.toList = true:=by kernel_rfl
theorem t51 {args:List SV} {res:SV} (ka:KFL args) (kr:KF res) (h:sx Try.prog Y0 0 c51 (st0 args 4) (retK r51 res)) (hA:Nat.ble args.length 4 = true:=by rfl):Ct Try.prog 51 args res:=ct_intro Try.func51 rfl b51 c51_ok r51_ok n51 (Nat.le_of_ble_eq_true hA) ka kr h
def c52:SC:=(.seq (.reg [
 ⟨some 0,.alloc [.int .i64 0,.int .i64 0,.int .i64 0,.int .i64 0,.int .i64 0,.int .i64 0,.int .i64 0,.int .i64 0,.int .i64 0,.int .i64 0,.int .i64 0,.int .i64 0,.int .i64 0,.int .i64 0,.int .i64 0,.int .i64 0,.int .i64 0] 25,none,[]⟩])
 (.seq (.reg [
 ⟨some 1,.call 48 [.c (.int .i64 2000),.c (.int .i64 2500)],none,[]⟩,
 ⟨some 2,.call 48 [.c (.int .i64 100),.c (.int .i64 100)],none,[]⟩,
 ⟨some 3,.call 48 [.c (.int .i64 200),.c (.int .i64 250)],none,[]⟩,
 ⟨some 4,.call 48 [.c (.int .i64 40),.c (.int .i64 50)],none,[]⟩,
 ⟨some 5,.call 48 [.c (.int .i64 100),.c (.int .i64 200)],none,[]⟩,
 ⟨some 6,.call 48 [.c (.int .i64 1000),.c (.int .i64 1500)],none,[]⟩,
 ⟨some 7,.call 48 [.c (.int .i64 150000),.c (.int .i64 200000)],none,[]⟩,
 ⟨some 8,.build [.int .i64 0,.int .i64 0,.int .i64 0,.int .i64 0,.int .i64 0,.int .i64 0,.int .i64 0,.int .i64 0,.int .i64 0,.int .i64 0,.int .i64 0,.int .i64 0,.int .i64 0,.int .i64 0,.int .i64 0,.int .i64 0,.int .i64 0] [(0,1,.c (.int .i64 100000)),(1,1,.c (.int .i64 50000)),(2,2,.t 1),(4,2,.t 2),(6,2,.t 3),(8,2,.t 4),(10,2,.t 5),(12,2,.t 6),(14,1,.c (.int .i64 50)),(15,2,.t 7)],none,[]⟩,
 ⟨none,.st (.t 0) (.t 8) 17,none,[]⟩])
 .ret))
def r52:List RV:=[.cell 0 17 true]
theorem n52:Try.f52.ntmps = 9:=by kernel_rfl
theorem b52:bodyB Try.prog 52 = true:=by kernel_rfl
theorem c52_ok:cmpC Try.prog c52 ((Try.f52.body).getD .skip) = true:=by kernel_rfl
theorem r52_ok:cmpR Try.prog r52 Try.f52.results.toList = true:=by kernel_rfl
theorem t52 {args:List SV} {res:SV} (ka:KFL args) (kr:KF res) (h:sx Try.prog Y0 0 c52 (st0 args 9) (retK r52 res)) (hA:Nat.ble args.length 9 = true:=by rfl):Ct Try.prog 52 args res:=ct_intro Try.func52 rfl b52 c52_ok r52_ok n52 (Nat.le_of_ble_eq_true hA) ka kr h
def c53:SC:=(.seq (.reg [
 ⟨some 0,.alloc [.int .i64 0,.int .i64 0,.int .i64 0,.int .i64 0,.int .i64 0,.int .i64 0,.bool false] 27,none,[]⟩])
 (.seq (.reg [
 ⟨some 1,.call 48 [.c (.int .i64 60000),.c (.int .i64 70000)],none,[]⟩,
 ⟨some 2,.call 48 [.c (.int .i64 20000),.c (.int .i64 30000)],none,[]⟩,
 ⟨some 3,.call 48 [.c (.int .i64 0),.c (.int .i64 100)],none,[]⟩,
 ⟨some 4,.build [.int .i64 0,.int .i64 0,.int .i64 0,.int .i64 0,.int .i64 0,.int .i64 0,.bool false] [(0,2,.t 1),(2,2,.t 2),(4,2,.t 3)],none,[]⟩,
 ⟨none,.st (.t 0) (.t 4) 7,none,[]⟩])
 .ret))
def r53:List RV:=[.cell 0 7 true]
theorem n53:Try.f53.ntmps = 5:=by kernel_rfl
theorem b53:bodyB Try.prog 53 = true:=by kernel_rfl
theorem c53_ok:cmpC Try.prog c53 ((Try.f53.body).getD .skip) = true:=by kernel_rfl
theorem r53_ok:cmpR Try.prog r53 Try.f53.results.toList = true:=by kernel_rfl
theorem t53 {args:List SV} {res:SV} (ka:KFL args) (kr:KF res) (h:sx Try.prog Y0 0 c53 (st0 args 5) (retK r53 res)) (hA:Nat.ble args.length 5 = true:=by rfl):Ct Try.prog 53 args res:=ct_intro Try.func53 rfl b53 c53_ok r53_ok n53 (Nat.le_of_ble_eq_true hA) ka kr h
def c54:SC:=(.seq (.reg [
 ⟨some 0,.alloc [.int .i64 0,.int .i64 0,.int .i64 0,.int .i64 0,.int .i64 0,.int .i64 0,.int .i64 0,.int .i64 0] 29,none,[]⟩])
 (.seq (.reg [
 ⟨some 1,.call 48 [.c (.int .i64 30),.c (.int .i64 40)],none,[]⟩,
 ⟨some 2,.build [.int .i64 0,.int .i64 0,.int .i64 0,.int .i64 0,.int .i64 0,.int .i64 0,.int .i64 0,.int .i64 0] [(0,1,.c (.int .i64 10)),(1,1,.c (.int .i64 100000)),(2,2,.t 1)],none,[]⟩,
 ⟨none,.st (.t 0) (.t 2) 8,none,[]⟩])
 .ret))
def r54:List RV:=[.cell 0 8 true]
theorem n54:Try.f54.ntmps = 3:=by kernel_rfl
theorem b54:bodyB Try.prog 54 = true:=by kernel_rfl
theorem c54_ok:cmpC Try.prog c54 ((Try.f54.body).getD .skip) = true:=by kernel_rfl
theorem r54_ok:cmpR Try.prog r54 Try.f54.results.toList = true:=by kernel_rfl
theorem t54 {args:List SV} {res:SV} (ka:KFL args) (kr:KF res) (h:sx Try.prog Y0 0 c54 (st0 args 3) (retK r54 res)) (hA:Nat.ble args.length 3 = true:=by rfl):Ct Try.prog 54 args res:=ct_intro Try.func54 rfl b54 c54_ok r54_ok n54 (Nat.le_of_ble_eq_true hA) ka kr h
end Go.Proofs.Ytnlfjchbhgikaaa
set_option maxRecDepth 100000
set_option maxHeartbeats 4000000
namespace Go.Azalai
def W32:={n:Int // 0 ≤ n ∧ n < 4294967296}
def atF (l:List W32) (i:Nat):Int:=match l[i % l.length]? with | some x=>x.val | none=>0
theorem atF_bd (l:List W32) (i:Nat):0 ≤ atF l i ∧ atF l i < 4294967296:=by
 unfold atF;split
 · rename_i x _;exact x.property
 · omega
def breedE:Breed:=⟨100000,50000,⟨2000,2500⟩,⟨100,100⟩,⟨200,250⟩,⟨40,50⟩,⟨100,200⟩,⟨1000,1500⟩,50,⟨150000,200000⟩⟩
def animalE:Camel:=⟨⟨60000,70000⟩,⟨20000,30000⟩,⟨0,100⟩,false⟩
def dayE:March:=⟨10,100000,⟨30,40⟩,⟨0,0⟩,⟨0,0⟩⟩
def readyF (b:Breed) (c:Camel) (l:List March):Bool:=decide (errC b c = 0) && decide (l.length ≤ 60) && l.all okMarch
end Go.Azalai
namespace Go.Proofs.Ytnlfjchbhgikaaa
open Go Go.Sx Go.Azalai
def U32 (n:Int):SV:=.v (.int .u32 n)
def w32L (x:W32):List SV:=[U32 x.val]
theorem wf32 {n:Int} (h:(Lit.int .u32 n).wf = true):0 ≤ n ∧ n < 4294967296:=by
 simp only [Lit.wf,Bool.and_eq_true,decide_eq_true_eq] at h
 have e1:IntKind.u32.min = 0:=rfl
 have e2:IntKind.u32.max = 4294967295:=rfl
 omega
theorem span_ok (lo hi:Int):Ct Try.prog 48 [I lo,I hi] (.agg [I lo,I hi]):=by
 refine t48 (by simp [KFL,KF]) (by simp [KFL,KF]) ?_
 dsimp only [c48,r48,go_sem,rA,rM,rS]
theorem breedE_ok:Ct Try.prog 52 [] (.agg (breedL breedE)):=by
 refine t52 (by simp [KFL,KF]) (by simp [breedL,KFL,KF]) ?_
 dsimp only [c52,r52,go_sem,rA,rM,rS]
 repeat (first | (refine call (span_ok _ _) ?_;dsimp only [go_sem,rA,rM,rS]))
 rfl
theorem animalE_ok:Ct Try.prog 53 [] (.agg (camelL animalE)):=by
 refine t53 (by simp [KFL,KF]) (by simp [camelL,KFL,KF]) ?_
 dsimp only [c53,r53,go_sem,rA,rM,rS]
 repeat (first | (refine call (span_ok _ _) ?_;dsimp only [go_sem,rA,rM,rS]))
 rfl
theorem dayE_ok:Ct Try.prog 54 [] (.agg (marchL dayE)):=by
 refine t54 (by simp [KFL,KF]) (by simp [marchL,KFL,KF]) ?_
 dsimp only [c54,r54,go_sem,rA,rM,rS]
 repeat (first | (refine call (span_ok _ _) ?_;dsimp only [go_sem,rA,rM,rS]))
 rfl
theorem at_ok (l:List W32) (i:Nat) (hl:l.length ≤ 9223372036854775807) (hi:i ≤ 1000000) (c:Bool):Ct Try.prog 45 [.sl c 1 (l.map w32L),I i] (U32 (atF l i)):=by
 refine t45 (by simp [KFR_iff,w32L,U32,KFL,KF]) (by simp [U32,KFL,KF]) ?_
 dsimp only [c45,r45,go_sem,rA,rM,rS]
 simp only [List.length_map]
 by_cases h0:l.length = 0
 · refine br_t (by simpa using h0) ?_
   dsimp only [go_sem,rA,rM,rS]
   have:l = []:=List.eq_nil_of_length_eq_zero h0
   subst this
   rfl
 refine br_f (by simpa using h0) ?_
 dsimp only [go_sem,rA,rM,rS]
 refine div0 (by simpa using h0) ?_
 dsimp only [go_sem,rA,rM,rS]
 have hlt:i % l.length < l.length:=Nat.mod_lt _ (by omega)
 simp only [List.length_map,divr]
 rw [show ((i:Int)).tmod (l.length:Int) = ((i % l.length:Nat):Int) from by rw [Int.tmod_eq_emod_of_nonneg (by omega)];rfl]
 refine ixs_map (i % l.length) hlt rfl ?_
 dsimp only [w32L,U32,go_sem,rA,rM,rS]
 unfold atF
 rw [List.getElem?_eq_getElem hlt]
end Go.Proofs.Ytnlfjchbhgikaaa
set_option maxRecDepth 100000
set_option maxHeartbeats 4000000
namespace Go.Azalai
theorem pairwise_of_srt {l:List Meet} (h:Srt Meet.day 0 l.length l):l.Pairwise (fun x y=>x.day ≤ y.day):=by
 rw [List.pairwise_iff_getElem]
 intro i j hi hj hij
 have:=h i j (Nat.zero_le _) hij hj
 rwa [ky_eq Meet.day hi,ky_eq Meet.day hj] at this
theorem mange_eq {n:Nat} {first:List Int} {meets l:List Meet} {wait:Span} {day:Int} (hw:1 ≤ wait.lo ∧ wait.lo ≤ wait.hi) (hd:0 ≤ day ∧ day ≤ 100000) (hf:∀ i ∈ first,0 ≤ i ∧ i < (n:Int)) (hm:∀ m ∈ meets,okM n m)
 (hp:l.Perm meets) (hs:l.Pairwise (fun x y=>x.day ≤ y.day)) (hl:∃ s,Least n first (act false meets) wait.lo s) (hl2:∃ s,Least n first (act true meets) wait.hi s) {i:Nat} (hi:i < n) :
 (if gI (spreadF wait.hi day (l.filter (·.close)) (baseF first (List.replicate n 100061))) i ≤ day then 2 else if gI (spreadF wait.lo day l (baseF first (List.replicate n 100061))) i ≤ day then 1 else 0) = knF day (gI (sickF n first (act false meets) wait.lo) i) (gI (sickF n first (act true meets) wait.hi) i):=by
 obtain ⟨s1,h1⟩:=hl
 obtain ⟨s2,h2⟩:=hl2
 rw [h1.sickF,h2.sickF]
 have hml:∀ m ∈ l,okM n m:=fun m h=>hm m (hp.mem_iff.1 h)
 have e1:=spread_sick (n:=n) (first:=first) (l:=l) (w:=wait.lo) (day:=day) hw.1 hd.2 hf hml hs (i:=(i:Int)) (by omega) (by omega)
 have e2:=spread_sick (n:=n) (first:=first) (l:=l.filter (·.close)) (w:=wait.hi) (day:=day) (by omega) hd.2 hf (fun m h=>hml m (List.mem_filter.1 h).1) (hs.filter _) (i:=(i:Int)) (by omega) (by omega)
 have g1:=h1.sick (day:=day) hd.2 (i:=(i:Int)) (by omega) (by omega)
 have g2:=h2.sick (day:=day) hd.2 (i:=(i:Int)) (by omega) (by omega)
 have c1:Sick first (· ∈ l) wait.lo i day ↔ Sick first (act false meets) wait.lo i day :=
  ⟨fun ⟨t,ht,h⟩=>⟨t,ht,h.mono fun m hm=>⟨hp.mem_iff.1 hm,fun h=>by cases h⟩⟩,fun ⟨t,ht,h⟩=>⟨t,ht,h.mono fun m hm=>hp.mem_iff.2 hm.1⟩⟩
 have c2:Sick first (· ∈ l.filter (·.close)) wait.hi i day ↔ Sick first (act true meets) wait.hi i day :=
  ⟨fun ⟨t,ht,h⟩=>⟨t,ht,h.mono fun m hm=>⟨hp.mem_iff.1 (List.mem_filter.1 hm).1,fun _=>(List.mem_filter.1 hm).2⟩⟩,fun ⟨t,ht,h⟩=>⟨t,ht,h.mono fun m hm=>List.mem_filter.2 ⟨hp.mem_iff.2 hm.1,hm.2 rfl⟩⟩⟩
 have c3:Sick first (act true meets) wait.hi i day → Sick first (act false meets) wait.lo i day:=fun ⟨t,ht,h⟩=>by
  obtain ⟨t',q1,q2⟩:=h.earlier (M':=act false meets) (w':=wait.lo) (fun m hm=>⟨hm.1,fun h=>by cases h⟩) hw.2
  exact ⟨t',by omega,q2⟩
 rw [c1,← g1] at e1
 rw [c2,← g2] at e2
 rw [← g1,← g2] at c3
 unfold knF
 by_cases q2:gI s2 (i:Int) ≤ day
 · have:=c3 q2
   rw [if_pos (e2.2 q2),if_neg (by omega),if_pos q2]
 · rw [if_neg (fun h=>q2 (e2.1 h))]
   by_cases q1:gI s1 (i:Int) ≤ day
   · rw [if_pos (e1.2 q1),if_neg (by omega),if_neg q2]
   · rw [if_neg (fun h=>q1 (e1.1 h)),if_pos (by omega)]
end Go.Azalai
namespace Go.Proofs.Ytnlfjchbhgikaaa
open Go Go.Sx Go.Azalai
theorem mange_ok (n:Int) (first:List Int) (meets:List Meet) (wait:Span) (day:Int) (c1 c2:Bool) (hl1:first.length ≤ 1000) (hl2:meets.length ≤ 1000) :
 Ct Try.prog 35 [I n,.sl c1 1 (first.map intL),.sl c2 4 (meets.map meetL),.agg (spanL wait),I day] (.tup [rowsK (meetsE n first meets wait day) (mangeK n first meets wait day),I (meetsE n first meets wait day)]):=by
 have hkr:KF (rowsK (meetsE n first meets wait day) (mangeK n first meets wait day)):=by
  unfold rowsK;split <;> simp [KF,KFR_iff,KFL,u8L,U8]
 refine t35 (by simp [meetL,KFR_iff,intL,spanL,KFL,KF]) (by simp [KF,KFL,hkr]) ?_
 dsimp only [c35,r35,spanL,go_sem,rA,rM,rS]
 refine call (from1 1 30 n true) ?_
 dsimp only [go_sem,rA,rM,rS]
 repeat (first | (refine gb ?_;dsimp only [go_sem,rA,rM,rS]) | (refine call (ordered1 1 60 wait true) ?_;dsimp only [go_sem,rA,rM,rS]) | (refine call (from1 0 100000 day true) ?_;dsimp only [go_sem,rA,rM,rS]))
 by_cases h1:(inR 1 30 n && okSp 1 60 wait && inR 0 100000 day) = true
 case neg =>
  refine br_t (by revert h1;cases inR 1 30 n <;> cases okSp 1 60 wait <;> cases inR 0 100000 day <;> simp) ?_
  dsimp only [go_sem,rA,rM,rS]
  have hE:meetsE n first meets wait day = 2:=by
   unfold meetsE
   rw [if_pos (by revert h1;cases inR 1 30 n <;> cases okSp 1 60 wait <;> cases inR 0 100000 day <;> simp)]
  simp [rowsK,hE]
 refine br_f (by revert h1;cases inR 1 30 n <;> cases okSp 1 60 wait <;> cases inR 0 100000 day <;> simp) ?_
 dsimp only [go_sem,rA,rM,rS]
 repeat (refine gb ?_;dsimp only [go_sem,rA,rM,rS])
 simp only [List.length_map]
 by_cases h2:first.length > 30 ∨ meets.length > 200
 · refine br_t (by simp;omega) ?_
   dsimp only [go_sem,rA,rM,rS]
   have hE:meetsE n first meets wait day = 4:=by
    unfold meetsE
    rw [if_neg (by simp [h1]),if_pos h2]
   simp [rowsK,hE]
 refine br_f (by simp;omega) ?_
 dsimp only [go_sem,rA,rM,rS]
 have hn:1 ≤ n ∧ n ≤ 30:=by simp only [Bool.and_eq_true,inR,decide_eq_true_eq] at h1;exact h1.1.1
 have hE0:meetsE n first meets wait day = if !(first.all (inR 0 (n - 1))) || meets.any (oddM n) then 14 else 0:=by
  unfold meetsE
  rw [if_neg (by simp [h1]),if_neg h2]
 rw [w64_in (n:=n - 1) (by omega) (by omega)]
 refine call (from_any 0 (n - 1) first (by omega) c1) ?_
 dsimp only [go_sem,rA,rM,rS]
 repeat (refine gb ?_;dsimp only [go_sem,rA,rM,rS])
 refine callv (by simp [FLT]) (res:=B (meets.any (oddM n))) ?_ ?_
 · dsimp only [go_sem,rA,rM,rS]
   exact con78 77 [.ps [I n] 0] (by simp [KFL,KF]) (oddM n) meets (fun x _=>odd_ok n hn.1 hn.2 x) (by omega)
 dsimp only [go_sem,rA,rM,rS]
 repeat (refine gb ?_;dsimp only [go_sem,rA,rM,rS])
 by_cases h3:(!(first.all (inR 0 (n - 1))) || meets.any (oddM n)) = true
 · refine br_t (by revert h3;cases first.all (inR 0 (n - 1)) <;> cases meets.any (oddM n) <;> simp) ?_
   dsimp only [go_sem,rA,rM,rS]
   rw [if_pos h3] at hE0
   simp [rowsK,hE0]
 refine br_f (by revert h3;cases first.all (inR 0 (n - 1)) <;> cases meets.any (oddM n) <;> simp) ?_
 dsimp only [go_sem,rA,rM,rS]
 rw [if_neg h3] at hE0
 obtain ⟨_,hw,hd,hf1,hm1,hf,hm⟩:=meetsE_0 hE0
 clear h1 h2 h3
 refine callmP [] (clone_ok meets (by omega) c2) rfl rfl rfl ?_ ?_ ?_
 · (repeat first | dsimp only [go_sem,rA,rM,rS] | simp only [nbr])
   simp [mtL,mtB,mtS,KFR_iff,KFR,KFL,KF,meetL]
 · (repeat first | dsimp only [go_sem,rA,rM,rS] | simp only [nbr])
 rintro _ rfl
 (repeat first | dsimp only [go_sem,rA,rM,rS] | simp only [nbr])
 refine gh ent_refl ?_
 (repeat first | dsimp only [go_sem,rA,rM,rS] | simp only [nbr])
 refine callmP [2] (sort_ok 0 meets (by omega)) rfl rfl rfl ?_ ?_ ?_
 · (repeat first | dsimp only [go_sem,rA,rM,rS] | simp only [nbr])
   simp [mtL,mtB,mtS]
 · (repeat first | dsimp only [go_sem,rA,rM,rS] | simp only [nbr])
   simp [KFR_iff,meetL,KFL,KF]
 rintro _ ⟨l,hpl,hsl,rfl⟩
 (repeat first | dsimp only [rowO,go_sem,rA,rM,rS] | simp only [nbr])
 refine gh (ent_frz 13 2 0 rfl rfl rfl rfl) ?_
 obtain ⟨k,rfl⟩:∃ k:Nat,n = k:=⟨n.toNat,by omega⟩
 have hll:=hpl.len
 have hso:=pairwise_of_srt (by rw [hll];exact hsl)
 have hml:∀ m ∈ l,okM k m:=fun m h=>hm m (hpl.perm.mem_iff.1 h)
 (repeat first | dsimp only [go_sem,rA,rM,rS] | simp only [nbr])
 refine call (spread_ok k first l wait.lo day c1 false (by omega) (by omega) hf hml (by omega) hl1 (by omega)) ?_
 (repeat first | dsimp only [go_sem,rA,rM,rS] | simp only [nbr])
 refine callmP [] (clone_ok l (by omega) false) rfl rfl rfl ?_ ?_ ?_
 · (repeat first | dsimp only [go_sem,rA,rM,rS] | simp only [nbr])
   simp [mtL,mtB,mtS,KFR_iff,KFR,KFL,KF,meetL]
 · (repeat first | dsimp only [go_sem,rA,rM,rS] | simp only [nbr])
 rintro _ rfl
 (repeat first | dsimp only [go_sem,rA,rM,rS] | simp only [nbr])
 refine callmP [3] (delete_ok 0 l (by omega)) rfl rfl rfl ?_ ?_ ?_
 · (repeat first | dsimp only [go_sem,rA,rM,rS] | simp only [nbr])
   simp [mtL,mtB,mtS]
 · (repeat first | dsimp only [go_sem,rA,rM,rS] | simp only [nbr])
   simp [KFR_iff,meetL,KFL,KF]
 rintro _ (⟨hfl,rfl⟩ | ⟨l',hl',hle,htk,rfl⟩)
 · (repeat first | dsimp only [go_sem,rA,rM,rS] | simp only [nbr])
   refine gh (ent_frz 15 3 0 rfl rfl rfl rfl) ?_
   rw [show l.map meetL = (l.filter (·.close)).map meetL from by rw [hfl]]
   clear hfl
   generalize hfl0:l.filter (·.close) = fl at *
   (repeat first | dsimp only [go_sem,rA,rM,rS] | simp only [nbr])
   refine call (spread_ok k first fl wait.hi day c1 false (by omega) (by omega) hf (fun m h=>hml m (by rw [← hfl0] at h;exact (List.mem_filter.1 h).1)) (by omega) hl1 (by rw [← hfl0];exact Nat.le_trans (List.length_filter_le _ _) (by omega))) ?_
   (repeat first | dsimp only [go_sem,rA,rM,rS] | simp only [nbr])
   have hlenE:(spreadF wait.lo day l (baseF first (List.replicate k 100061))).length = k:=by rw [spreadF_len,baseF_len];simp
   have hlenL:(spreadF wait.hi day fl (baseF first (List.replicate k 100061))).length = k:=by rw [spreadF_len,baseF_len];simp
   have heq:∀ i:Nat,i < k → (if gI (spreadF wait.hi day fl (baseF first (List.replicate k 100061))) (i:Int) ≤ day then 2 else if gI (spreadF wait.lo day l (baseF first (List.replicate k 100061))) (i:Int) ≤ day then 1 else 0) = knF day (gI (sickF k first (act false meets) wait.lo) i) (gI (sickF k first (act true meets) wait.hi) i):=fun i hi=>by
    have:=mange_eq (meets:=meets) (l:=l) ⟨hw.1,hw.2.1⟩ hd hf hm hpl.perm hso (least_ex hf (fun m h=>hm m h.1) (by omega)) (least_ex hf (fun m h=>hm m h.1) (by omega)) hi
    rw [hfl0] at this
    exact this
   generalize spreadF wait.lo day l (baseF first (List.replicate k 100061)) = E at hlenE heq
   generalize spreadF wait.hi day fl (baseF first (List.replicate k 100061)) = L at hlenL heq
   refine ⟨k,rfl,by omega,?_⟩
   (repeat first | dsimp only [go_sem,rA,rM,rS] | simp only [nbr])
   rw [show List.replicate k [SV.v (Value.int IntKind.u8 0)] = (List.replicate k (0:Int)).map u8L from by simp [u8L,U8]]
   simp only [List.length_map,List.length_replicate]
   have hs0:(List.replicate k (0:Int)).length = k ∧ ∀ i,i < k → (List.replicate k (0:Int))[i]? = some 0:=⟨by simp,fun i hi=>by rw [List.getElem?_replicate,if_pos hi]⟩
   generalize List.replicate k (0:Int) = ks0 at hs0
   refine loopO (fun z:Nat × List Int=>[(79,I z.1)]) (fun z=>[(4,.row 0 1 (z.2.map u8L) 5)]) (fun z=>z.1 ≤ k ∧ z.2.length = k ∧ ∀ i,i < k → z.2[i]? = some (if i < z.1 then (if gI L (i:Int) ≤ day then 2 else if gI E (i:Int) ≤ day then 1 else 0) else 0)) (fun z=>k - z.1) (0,ks0) ⟨Nat.zero_le _,hs0.1,fun i hi=>by rw [hs0.2 i hi,if_neg (Nat.not_lt_zero _)]⟩ ?_ ?_
   · (refine ent_id ?_ ?_ ?_ rfl rfl <;> dsimp only [meetL,intL,u8L,U8,id,go_sem,rA,rM,rS] <;> simp [meetL,intL,u8L,U8,KFR_iff,KFR_app,KFR,KFL,KF,mtL_same,mtO,nbr])
   rintro ⟨j,ks⟩ ⟨hj,hkl,hki⟩
   simp only at hj hkl hki
   (repeat first | dsimp only [go_sem,rA,rM,rS] | simp only [nbr])
   by_cases hlt:j < k
   · refine br_t (by simpa using hlt) ?_
     (repeat first | dsimp only [go_sem,rA,rM,rS] | simp only [nbr])
     have gL:gI L (j:Int) = L[j]:=gI_eq rfl (by omega)
     have gE:gI E (j:Int) = E[j]:=gI_eq rfl (by omega)
     refine ixs_map j (by omega) rfl ?_
     (repeat first | dsimp only [intL,go_sem,rA,rM,rS] | simp only [nbr])
     by_cases q2:L[j] ≤ day
     · refine br_t (by simpa using q2) ?_
       have hx:(if gI L (j:Int) ≤ day then (2:Int) else if gI E (j:Int) ≤ day then 1 else 0) = 2:=by rw [gL,if_pos q2]
       (repeat first | dsimp only [go_sem,rA,rM,rS] | simp only [nbr])
       refine ixrm j rfl (by first | omega | (simp;omega)) ?_
       (repeat first | dsimp only [go_sem,rA,rM,rS] | simp only [nbr])
       refine strm (2:Int) (by first | omega | (simp;omega)) (by simp [u8L,U8]) (by simp [u8L,U8,splice]) ?_
       (repeat first | dsimp only [go_sem,rA,rM,rS] | simp only [nbr])
       rw [w64_in (n:=(j:Int) + 1) (by omega) (by omega)]
       refine ⟨(j + 1,ks.set j 2),⟨hlt,by simp [hkl],fun i hi=>?_⟩,by simp only;omega,?_⟩
       · dsimp only
         have:=hki i hi
         by_cases hij:i = j
         · subst hij;rw [List.getElem?_set_self (by omega),if_pos (Nat.lt_succ_self i),hx]
         · rw [List.getElem?_set_ne (by omega),this]
           by_cases hij2:i < j
           · rw [if_pos hij2,if_pos (c:=i < j + 1) (by omega)]
           · rw [if_neg hij2,if_neg (c:=i < j + 1) (by omega)]
       generalize ks.set j 2 = ks2
       (refine ent_id ?_ ?_ ?_ rfl rfl <;> dsimp only [meetL,intL,u8L,U8,id,go_sem,rA,rM,rS] <;> simp [meetL,intL,u8L,U8,KFR_iff,KFR_app,KFR,KFL,KF,mtL_same,mtO,nbr])
     refine br_f (by simpa using q2) ?_
     (repeat first | dsimp only [go_sem,rA,rM,rS] | simp only [nbr])
     refine ixs_map j (by omega) rfl ?_
     (repeat first | dsimp only [intL,go_sem,rA,rM,rS] | simp only [nbr])
     by_cases q1:E[j] ≤ day
     · refine br_t (by simpa using q1) ?_
       have hx:(if gI L (j:Int) ≤ day then (2:Int) else if gI E (j:Int) ≤ day then 1 else 0) = 1:=by rw [gL,gE,if_neg q2,if_pos q1]
       (repeat first | dsimp only [go_sem,rA,rM,rS] | simp only [nbr])
       refine ixrm j rfl (by first | omega | (simp;omega)) ?_
       (repeat first | dsimp only [go_sem,rA,rM,rS] | simp only [nbr])
       refine strm (1:Int) (by first | omega | (simp;omega)) (by simp [u8L,U8]) (by simp [u8L,U8,splice]) ?_
       (repeat first | dsimp only [go_sem,rA,rM,rS] | simp only [nbr])
       rw [w64_in (n:=(j:Int) + 1) (by omega) (by omega)]
       refine ⟨(j + 1,ks.set j 1),⟨hlt,by simp [hkl],fun i hi=>?_⟩,by simp only;omega,?_⟩
       · dsimp only
         have:=hki i hi
         by_cases hij:i = j
         · subst hij;rw [List.getElem?_set_self (by omega),if_pos (Nat.lt_succ_self i),hx]
         · rw [List.getElem?_set_ne (by omega),this]
           by_cases hij2:i < j
           · rw [if_pos hij2,if_pos (c:=i < j + 1) (by omega)]
           · rw [if_neg hij2,if_neg (c:=i < j + 1) (by omega)]
       generalize ks.set j 1 = ks2
       (refine ent_id ?_ ?_ ?_ rfl rfl <;> dsimp only [meetL,intL,u8L,U8,id,go_sem,rA,rM,rS] <;> simp [meetL,intL,u8L,U8,KFR_iff,KFR_app,KFR,KFL,KF,mtL_same,mtO,nbr])
     refine br_f (by simpa using q1) ?_
     have hx:(if gI L (j:Int) ≤ day then (2:Int) else if gI E (j:Int) ≤ day then 1 else 0) = 0:=by rw [gL,gE,if_neg q2,if_neg q1]
     (repeat first | dsimp only [go_sem,rA,rM,rS] | simp only [nbr])
     rw [w64_in (n:=(j:Int) + 1) (by omega) (by omega)]
     refine ⟨(j + 1,ks),⟨hlt,hkl,fun i hi=>?_⟩,by simp only;omega,?_⟩
     · dsimp only
       have:=hki i hi
       by_cases hij:i = j
       · subst hij;rw [this,if_neg (Nat.lt_irrefl i),if_pos (Nat.lt_succ_self i),hx]
       · rw [this]
         by_cases hij2:i < j
         · rw [if_pos hij2,if_pos (c:=i < j + 1) (by omega)]
         · rw [if_neg hij2,if_neg (c:=i < j + 1) (by omega)]
     (refine ent_id ?_ ?_ ?_ rfl rfl <;> dsimp only [meetL,intL,u8L,U8,id,go_sem,rA,rM,rS] <;> simp [meetL,intL,u8L,U8,KFR_iff,KFR_app,KFR,KFL,KF,mtL_same,mtO,nbr])
   refine br_f (by simp;omega) ?_
   (repeat first | dsimp only [go_sem,rA,rM,rS] | simp only [nbr])
   have hjk:j = k:=by omega
   subst hjk
   have hks:ks = mangeK j first meets wait day:=by
    apply List.ext_getElem?
    intro i
    unfold mangeK
    rw [Int.toNat_natCast,List.getElem?_map]
    by_cases hi:i < j
    · rw [hki i hi,if_pos hi,heq i hi,List.getElem?_range hi];rfl
    · rw [List.getElem?_eq_none (by omega),List.getElem?_eq_none (by simp;omega)];rfl
   rw [hks]
   simp [rowsK,hE0]
 · (repeat first | dsimp only [go_sem,rA,rM,rS] | simp only [nbr])
   refine gh (ent_frzp 15 3 0 _ rfl rfl rfl rfl (by simpa using hle)) ?_
   rw [← List.map_take,htk]
   clear htk hle
   generalize hfl0:l.filter (·.close) = fl at *
   (repeat first | dsimp only [go_sem,rA,rM,rS] | simp only [nbr])
   refine call (spread_ok k first fl wait.hi day c1 false (by omega) (by omega) hf (fun m h=>hml m (by rw [← hfl0] at h;exact (List.mem_filter.1 h).1)) (by omega) hl1 (by rw [← hfl0];exact Nat.le_trans (List.length_filter_le _ _) (by omega))) ?_
   (repeat first | dsimp only [go_sem,rA,rM,rS] | simp only [nbr])
   have hlenE:(spreadF wait.lo day l (baseF first (List.replicate k 100061))).length = k:=by rw [spreadF_len,baseF_len];simp
   have hlenL:(spreadF wait.hi day fl (baseF first (List.replicate k 100061))).length = k:=by rw [spreadF_len,baseF_len];simp
   have heq:∀ i:Nat,i < k → (if gI (spreadF wait.hi day fl (baseF first (List.replicate k 100061))) (i:Int) ≤ day then 2 else if gI (spreadF wait.lo day l (baseF first (List.replicate k 100061))) (i:Int) ≤ day then 1 else 0) = knF day (gI (sickF k first (act false meets) wait.lo) i) (gI (sickF k first (act true meets) wait.hi) i):=fun i hi=>by
    have:=mange_eq (meets:=meets) (l:=l) ⟨hw.1,hw.2.1⟩ hd hf hm hpl.perm hso (least_ex hf (fun m h=>hm m h.1) (by omega)) (least_ex hf (fun m h=>hm m h.1) (by omega)) hi
    rw [hfl0] at this
    exact this
   generalize spreadF wait.lo day l (baseF first (List.replicate k 100061)) = E at hlenE heq
   generalize spreadF wait.hi day fl (baseF first (List.replicate k 100061)) = L at hlenL heq
   refine ⟨k,rfl,by omega,?_⟩
   (repeat first | dsimp only [go_sem,rA,rM,rS] | simp only [nbr])
   rw [show List.replicate k [SV.v (Value.int IntKind.u8 0)] = (List.replicate k (0:Int)).map u8L from by simp [u8L,U8]]
   simp only [List.length_map,List.length_replicate]
   have hs0:(List.replicate k (0:Int)).length = k ∧ ∀ i,i < k → (List.replicate k (0:Int))[i]? = some 0:=⟨by simp,fun i hi=>by rw [List.getElem?_replicate,if_pos hi]⟩
   generalize List.replicate k (0:Int) = ks0 at hs0
   refine loopO (fun z:Nat × List Int=>[(79,I z.1)]) (fun z=>[(4,.row 0 1 (z.2.map u8L) 5)]) (fun z=>z.1 ≤ k ∧ z.2.length = k ∧ ∀ i,i < k → z.2[i]? = some (if i < z.1 then (if gI L (i:Int) ≤ day then 2 else if gI E (i:Int) ≤ day then 1 else 0) else 0)) (fun z=>k - z.1) (0,ks0) ⟨Nat.zero_le _,hs0.1,fun i hi=>by rw [hs0.2 i hi,if_neg (Nat.not_lt_zero _)]⟩ ?_ ?_
   · (refine ent_id ?_ ?_ ?_ rfl rfl <;> dsimp only [meetL,intL,u8L,U8,id,go_sem,rA,rM,rS] <;> simp [meetL,intL,u8L,U8,KFR_iff,KFR_app,KFR,KFL,KF,mtL_same,mtO,nbr])
   rintro ⟨j,ks⟩ ⟨hj,hkl,hki⟩
   simp only at hj hkl hki
   (repeat first | dsimp only [go_sem,rA,rM,rS] | simp only [nbr])
   by_cases hlt:j < k
   · refine br_t (by simpa using hlt) ?_
     (repeat first | dsimp only [go_sem,rA,rM,rS] | simp only [nbr])
     have gL:gI L (j:Int) = L[j]:=gI_eq rfl (by omega)
     have gE:gI E (j:Int) = E[j]:=gI_eq rfl (by omega)
     refine ixs_map j (by omega) rfl ?_
     (repeat first | dsimp only [intL,go_sem,rA,rM,rS] | simp only [nbr])
     by_cases q2:L[j] ≤ day
     · refine br_t (by simpa using q2) ?_
       have hx:(if gI L (j:Int) ≤ day then (2:Int) else if gI E (j:Int) ≤ day then 1 else 0) = 2:=by rw [gL,if_pos q2]
       (repeat first | dsimp only [go_sem,rA,rM,rS] | simp only [nbr])
       refine ixrm j rfl (by first | omega | (simp;omega)) ?_
       (repeat first | dsimp only [go_sem,rA,rM,rS] | simp only [nbr])
       refine strm (2:Int) (by first | omega | (simp;omega)) (by simp [u8L,U8]) (by simp [u8L,U8,splice]) ?_
       (repeat first | dsimp only [go_sem,rA,rM,rS] | simp only [nbr])
       rw [w64_in (n:=(j:Int) + 1) (by omega) (by omega)]
       refine ⟨(j + 1,ks.set j 2),⟨hlt,by simp [hkl],fun i hi=>?_⟩,by simp only;omega,?_⟩
       · dsimp only
         have:=hki i hi
         by_cases hij:i = j
         · subst hij;rw [List.getElem?_set_self (by omega),if_pos (Nat.lt_succ_self i),hx]
         · rw [List.getElem?_set_ne (by omega),this]
           by_cases hij2:i < j
           · rw [if_pos hij2,if_pos (c:=i < j + 1) (by omega)]
           · rw [if_neg hij2,if_neg (c:=i < j + 1) (by omega)]
       generalize ks.set j 2 = ks2
       (refine ent_id ?_ ?_ ?_ rfl rfl <;> dsimp only [meetL,intL,u8L,U8,id,go_sem,rA,rM,rS] <;> simp [meetL,intL,u8L,U8,KFR_iff,KFR_app,KFR,KFL,KF,mtL_same,mtO,nbr])
     refine br_f (by simpa using q2) ?_
     (repeat first | dsimp only [go_sem,rA,rM,rS] | simp only [nbr])
     refine ixs_map j (by omega) rfl ?_
     (repeat first | dsimp only [intL,go_sem,rA,rM,rS] | simp only [nbr])
     by_cases q1:E[j] ≤ day
     · refine br_t (by simpa using q1) ?_
       have hx:(if gI L (j:Int) ≤ day then (2:Int) else if gI E (j:Int) ≤ day then 1 else 0) = 1:=by rw [gL,gE,if_neg q2,if_pos q1]
       (repeat first | dsimp only [go_sem,rA,rM,rS] | simp only [nbr])
       refine ixrm j rfl (by first | omega | (simp;omega)) ?_
       (repeat first | dsimp only [go_sem,rA,rM,rS] | simp only [nbr])
       refine strm (1:Int) (by first | omega | (simp;omega)) (by simp [u8L,U8]) (by simp [u8L,U8,splice]) ?_
       (repeat first | dsimp only [go_sem,rA,rM,rS] | simp only [nbr])
       rw [w64_in (n:=(j:Int) + 1) (by omega) (by omega)]
       refine ⟨(j + 1,ks.set j 1),⟨hlt,by simp [hkl],fun i hi=>?_⟩,by simp only;omega,?_⟩
       · dsimp only
         have:=hki i hi
         by_cases hij:i = j
         · subst hij;rw [List.getElem?_set_self (by omega),if_pos (Nat.lt_succ_self i),hx]
         · rw [List.getElem?_set_ne (by omega),this]
           by_cases hij2:i < j
           · rw [if_pos hij2,if_pos (c:=i < j + 1) (by omega)]
           · rw [if_neg hij2,if_neg (c:=i < j + 1) (by omega)]
       generalize ks.set j 1 = ks2
       (refine ent_id ?_ ?_ ?_ rfl rfl <;> dsimp only [meetL,intL,u8L,U8,id,go_sem,rA,rM,rS] <;> simp [meetL,intL,u8L,U8,KFR_iff,KFR_app,KFR,KFL,KF,mtL_same,mtO,nbr])
     refine br_f (by simpa using q1) ?_
     have hx:(if gI L (j:Int) ≤ day then (2:Int) else if gI E (j:Int) ≤ day then 1 else 0) = 0:=by rw [gL,gE,if_neg q2,if_neg q1]
     (repeat first | dsimp only [go_sem,rA,rM,rS] | simp only [nbr])
     rw [w64_in (n:=(j:Int) + 1) (by omega) (by omega)]
     refine ⟨(j + 1,ks),⟨hlt,hkl,fun i hi=>?_⟩,by simp only;omega,?_⟩
     · dsimp only
       have:=hki i hi
       by_cases hij:i = j
       · subst hij;rw [this,if_neg (Nat.lt_irrefl i),if_pos (Nat.lt_succ_self i),hx]
       · rw [this]
         by_cases hij2:i < j
         · rw [if_pos hij2,if_pos (c:=i < j + 1) (by omega)]
         · rw [if_neg hij2,if_neg (c:=i < j + 1) (by omega)]
     (refine ent_id ?_ ?_ ?_ rfl rfl <;> dsimp only [meetL,intL,u8L,U8,id,go_sem,rA,rM,rS] <;> simp [meetL,intL,u8L,U8,KFR_iff,KFR_app,KFR,KFL,KF,mtL_same,mtO,nbr])
   refine br_f (by simp;omega) ?_
   (repeat first | dsimp only [go_sem,rA,rM,rS] | simp only [nbr])
   have hjk:j = k:=by omega
   subst hjk
   have hks:ks = mangeK j first meets wait day:=by
    apply List.ext_getElem?
    intro i
    unfold mangeK
    rw [Int.toNat_natCast,List.getElem?_map]
    by_cases hi:i < j
    · rw [hki i hi,if_pos hi,heq i hi,List.getElem?_range hi];rfl
    · rw [List.getElem?_eq_none (by omega),List.getElem?_eq_none (by simp;omega)];rfl
   rw [hks]
   simp [rowsK,hE0]
end Go.Proofs.Ytnlfjchbhgikaaa
namespace Go.Sx
open Go
def byS (ns:List Int):ByteArray:=ns.foldl (fun r n=>r.push (UInt8.ofNat n.toNat)) ByteArray.empty
theorem RL_vals {w:World} {E:Env} {n ok:Nat → Prop}:∀ {l ys:List Value},RL w E n ok (l.map SV.v) ys → ys = l
 | [],ys,h=>by simpa [RL] using h
 | x :: l,ys,h=>by
  simp only [List.map_cons,RL] at h
  obtain ⟨y,r,rfl,h1,h2⟩:=h
  simp only [R] at h1
  rw [h1,RL_vals h2]
theorem flat1 {α β : Type} (f:α → β):∀ l:List α,(l.map fun n=>[f n]).flatten = l.map f
 | []=>rfl
 | x :: l=>by simp only [List.map_cons,List.flatten_cons,flat1 f l];rfl
theorem raw_str {P:Program} {d:Option Nat} {u src dst ty e:Nat} {ns:List Int} {s:SV} {σ : St} {r:KT} {K:RK} (hl:lk u σ.fr = s) (hng:∀ j b u,s ≠ .gd j b u) (hs:sprV 1 s = some (ns.map fun n=>[SV.v (.int .u8 n)]))
 (hsrc:P.underlying src = some (.slice e)) (hdst:P.underlying dst = some .string) (he:P.underlying e = some (.int .u8)) (hk:putK d (.v (.string (byS ns))) none σ r K):RAW P d (.convert src dst (.tmp u)) ty σ r K:=by
 intro o C E a w next Q h1 h2 h3 hS hn hq
 have hR:=FR_R (hS.fr u) (fun j b u' e=>hng j b u' (hl ▸ e))
 rw [hl] at hR
 obtain ⟨cs,⟨ad,cap,y0,y1,y2,y3⟩,hcs,_⟩:=sprV_shows hR hs
 have hflat:(ns.map fun n=>[SV.v (.int .u8 n)]).flatten = (ns.map (Value.int .u8)).map SV.v:=by rw [flat1 (fun n=>SV.v (.int .u8 n)),List.map_map];rfl
 rw [hflat] at hcs
 have hcs:=RL_vals hcs
 subst hcs
 have hrun:(convert src dst (a.tmps.getD u undef)).run P w = .ok (.string (byS ns)) w:=by
  rw [y0,run_convert_bytes_string w src dst e ad _ cap hsrc he hdst]
  cases ad with
  | none =>
   have:ns = []:=by
    rcases y3 with h | ⟨b,off,h,_⟩
    · simpa using h
    · cases h
   subst this
   simp [Conv.bytesToString,Sem.run_pure,byS]
  | some ad =>
   refine run_bytesToString w ad _ cap ns ?_
   rcases y3 with h | ⟨b,off,h,hc⟩
   · have:ns = []:=by simpa using h
     subst this
     simp [loadCells,loadCellsFrom,Sem.run_pure]
   · cases h
     have hlen:(ns.map fun n=>[SV.v (.int .u8 n)]).length = (ns.map (Value.int .u8)).length:=by simp
     rw [hlen]
     exact run_loadCells_list w _ _ (fun j v hv=>by rw [addr_add];exact hc j v hv)
 have hx:(execOp a.eval o).run P w = .ok (.value (.string (byS ns))) w:=by
  obtain ⟨dst',op',ty',pos,after,guard⟩:=o
  simp only at h2;subst h2
  simp only [Array.getD_eq_getD_getElem?] at hrun
  simp only [execOp,Act.eval]
  simp [Sem.run_bind,hrun]
 refine wpq_res hx (by simp) ?_
 show next (a.put o.dst _) w
 rcases putK_ex hk with ⟨g1,g2⟩ | ⟨t,g1,g2,g3,g4,g5⟩
 · rw [h1,g1];exact hn _ E _ _ g2 hS
 · rw [h1,g1]
   exact hn _ E _ _ g5 (Sim_put hS (fun b hb _=>⟨hb,rfl⟩) (fun _ _=>Ele.rfl) (Nat.le_refl _) hS.hs g2 g3 (fun j b u e=>by rw [e] at g4;cases g4) (by simp only [R]))
theorem raw_seqc {P:Program} {d:Option Nat} {u t t' ty:Nat} {op:BinOp} {q:Bool} {x y:ByteArray} {σ : St} {r:KT} {K:RK} (hu:lk u σ.fr = .v (.string x)) (hq0:(op = .eql ∧ q = (x.toList == y.toList)) ∨ (op = .neq ∧ q = !(x.toList == y.toList)))
 (hk:putK d (.v (.bool q)) none σ r K):RAW P d (.binOp op t (.tmp u) (.const (.string y)) t') ty σ r K:=by
 intro o C E a w next Q h1 h2 h3 hS hn hq
 have hx:a.eval (.tmp u) = .string x:=by
  have:=hS.fr u
  rw [hu] at this
  simp only [FR,R] at this
  exact this
 have hrun:(execOp a.eval o).run P w =   .ok (.value (.bool q)) w:=by
  obtain ⟨dst',op',ty',pos,after,guard⟩:=o
  simp only at h2;subst h2
  have hc:a.eval (.const (.string y)) = .string y:=rfl
  simp only [execOp,hx,hc]
  rcases hq0 with ⟨rfl,rfl⟩ | ⟨rfl,rfl⟩ <;> simp [Sem.run_bind,eqGuard,binOp,Op.stringOp,Sem.run_pure]
 refine wpq_res hrun (by simp) ?_
 show next (a.put o.dst _) w
 rcases putK_ex hk with ⟨g1,g2⟩ | ⟨t,g1,g2,g3,g4,g5⟩
 · rw [h1,g1];exact hn _ E _ _ g2 hS
 · rw [h1,g1]
   exact hn _ E _ _ g5 (Sim_put hS (fun b hb _=>⟨hb,rfl⟩) (fun _ _=>Ele.rfl) (Nat.le_refl _) hS.hs g2 g3 (fun j b u e=>by rw [e] at g4;cases g4) (by simp only [R]))
end Go.Sx
set_option maxRecDepth 100000
set_option maxHeartbeats 4000000
namespace Go.Proofs.Ytnlfjchbhgikaaa
open Go Go.Sx Go.Azalai
end Go.Proofs.Ytnlfjchbhgikaaa
set_option maxRecDepth 100000
set_option maxHeartbeats 4000000
namespace Go.Azalai
def herdE:List Meet:=[⟨0,1,5,false⟩,⟨1,2,9,true⟩]
theorem herd_early:Least 3 [0] (act false herdE) 3 [0,8,12]:=by
 refine Sk.least ⟨rfl,fun i h0 h1=>?_,fun i hi=>?_,fun i h0 h1=>?_⟩ (fun m hm=>?_) (fun m hm=>?_)
 · have e1:Inf [0] (act false herdE) 3 0 0:=.base (by simp)
   have e2:Inf [0] (act false herdE) 3 1 (5 + 3):=.l (m:=⟨0,1,5,false⟩) ⟨by simp [herdE],fun h=>by cases h⟩ e1 (by decide)
   have e3:Inf [0] (act false herdE) 3 2 (9 + 3):=.l (m:=⟨1,2,9,true⟩) ⟨by simp [herdE],fun h=>by cases h⟩ e2 (by decide)
   have:i = 0 ∨ i = 1 ∨ i = 2:=by omega
   rcases this with rfl | rfl | rfl
   · exact .inr e1
   · exact .inr e2
   · exact .inr e3
 · simp at hi;subst hi;decide
 · have:i = 0 ∨ i = 1 ∨ i = 2:=by omega
   rcases this with rfl | rfl | rfl <;> decide
 · have:=hm.1;simp [herdE] at this;rcases this with rfl | rfl <;> (unfold okM;simp)
 · have:=hm.1;simp [herdE] at this;rcases this with rfl | rfl <;> decide
theorem herd_late:Least 3 [0] (act true herdE) 5 [0,never,never]:=by
 refine Sk.least ⟨rfl,fun i h0 h1=>?_,fun i hi=>?_,fun i h0 h1=>?_⟩ (fun m hm=>?_) (fun m hm=>?_)
 · have:i = 0 ∨ i = 1 ∨ i = 2:=by omega
   rcases this with rfl | rfl | rfl
   · exact .inr (.base (by simp))
   · exact .inl rfl
   · exact .inl rfl
 · simp at hi;subst hi;decide
 · have:i = 0 ∨ i = 1 ∨ i = 2:=by omega
   rcases this with rfl | rfl | rfl <;> decide
 · have:=hm.1;simp [herdE] at this;rcases this with rfl | rfl <;> (unfold okM;simp)
 · obtain ⟨h1,h2⟩:=hm
   simp [herdE] at h1
   rcases h1 with rfl | rfl
   · exact absurd (h2 rfl) (by simp)
   · decide
theorem herdK (day:Int):mangeK 3 [0] herdE ⟨3,5⟩ day = [knF day 0 0,knF day 8 never,knF day 12 never]:=by
 unfold mangeK
 rw [show (3:Int).toNat = 3 from rfl,herd_early.sickF,herd_late.sickF]
 rfl
end Go.Azalai
namespace Go.Proofs.Ytnlfjchbhgikaaa
open Go Go.Sx Go.Azalai
theorem herd_ok:Ct Try.prog 51 [] (.sl true 4 (herdE.map meetL)):=by
 refine t51 (by simp [KFL,KF]) (by simp [herdE,meetL,KFR,KFL,KF]) ?_
 dsimp only [c51,r51,go_sem,rA,rM,rS]
 rfl
theorem eFit:sres breedE animalE (fitF breedE animalE) = .tup [.agg [I 800,I 1000],I 0]:=by kernel_rfl
theorem eCar:sres breedE animalE (carF breedE animalE) = .tup [.agg [I 120000,I 200000],I 0]:=by kernel_rfl
theorem eCost:cres breedE false dayE = .tup [.agg [I 7000,I 9500],.agg [I 800,I 1000],I 0]:=by kernel_rfl
theorem eAft:afterE breedE animalE dayE = (⟨⟨50500,63000⟩,⟨19000,29200⟩,⟨100,300⟩,false⟩,0,0):=by kernel_rfl
theorem eLast:tres (lastsF breedE animalE dayE) = .tup [.agg [I 6,I 10],I 0]:=by kernel_rfl
theorem eMeet:meetsE 3 [0] herdE ⟨3,5⟩ 8 = 0:=by kernel_rfl
theorem eKn:([knF 8 0 0,knF 8 8 never,knF 8 12 never]:List Int) = [2,1,0]:=by kernel_rfl
theorem eRow:rowsK 0 [2,1,0] = .sl false 1 ([2,1,0].map u8L):=rfl
end Go.Proofs.Ytnlfjchbhgikaaa
set_option maxRecDepth 100000
set_option maxHeartbeats 4000000
namespace Go.Proofs.Ytnlfjchbhgikaaa
open Go Go.Sx Go.Azalai
theorem alive_ok:Ct Try.prog 38 [] (B true):=by
 refine t38 (by simp [KFL,KF]) (by simp [KFL,KF]) ?_
 dsimp only [c38,r38,go_sem,rA,rM,rS]
 refine call breedE_ok ?_
 dsimp only [go_sem,rA,rM,rS]
 refine call animalE_ok ?_
 dsimp only [go_sem,rA,rM,rS]
 refine call (fitness_ok breedE animalE) ?_
 rw [eFit]
 dsimp only [go_sem,rA,rM,rS]
 refine call breedE_ok ?_
 dsimp only [go_sem,rA,rM,rS]
 refine call animalE_ok ?_
 dsimp only [go_sem,rA,rM,rS]
 refine call (carries_ok breedE animalE) ?_
 rw [eCar]
 dsimp only [go_sem,rA,rM,rS]
 refine call breedE_ok ?_
 dsimp only [go_sem,rA,rM,rS]
 refine call dayE_ok ?_
 dsimp only [go_sem,rA,rM,rS]
 refine call (Cost_ok breedE false dayE) ?_
 rw [eCost]
 dsimp only [go_sem,rA,rM,rS]
 refine call breedE_ok ?_
 dsimp only [go_sem,rA,rM,rS]
 refine call animalE_ok ?_
 dsimp only [go_sem,rA,rM,rS]
 refine call dayE_ok ?_
 dsimp only [go_sem,rA,rM,rS]
 refine call (after1_ok breedE animalE dayE) ?_
 rw [eAft]
 dsimp only [camelL,U8,go_sem,rA,rM,rS]
 refine call breedE_ok ?_
 dsimp only [go_sem,rA,rM,rS]
 refine call animalE_ok ?_
 dsimp only [go_sem,rA,rM,rS]
 refine call dayE_ok ?_
 dsimp only [go_sem,rA,rM,rS]
 refine call (lasts_ok breedE animalE dayE) ?_
 rw [eLast]
 dsimp only [go_sem,rA,rM,rS]
 refine call herd_ok ?_
 dsimp only [go_sem,rA,rM,rS]
 refine call (span_ok 3 5) ?_
 dsimp only [go_sem,rA,rM,rS]
 refine call (mange_ok 3 [0] herdE ⟨3,5⟩ 8 true true (by decide) (by decide)) ?_
 rw [herdK,eMeet,eKn,eRow]
 dsimp only [go_sem,rA,rM,rS]
 repeat (first | (refine .inl ⟨rfl,?_⟩;dsimp only [go_sem,rA,rM,rS]) | (refine call (span_ok _ _) ?_;dsimp only [go_sem,rA,rM,rS]))
 refine raw_str (e:=5) (ns:=[2,1,0]) rfl (fun _ _ _ e=>by cases e) rfl (by kernel_rfl) (by kernel_rfl) (by kernel_rfl) ?_
 dsimp only [go_sem,rA,rM,rS]
 refine .inl ⟨rfl,?_⟩
 dsimp only [go_sem,rA,rM,rS]
 refine raw_seqc (q:=true) rfl (.inl ⟨rfl,by decide +kernel⟩) ?_
 dsimp only [go_sem,rA,rM,rS]
 simp
end Go.Proofs.Ytnlfjchbhgikaaa
set_option maxRecDepth 100000
namespace Go.Proofs.Ytnlfjchbhgikaaa
open Go Go.Sx
end Go.Proofs.Ytnlfjchbhgikaaa
set_option maxRecDepth 100000
set_option maxHeartbeats 4000000
namespace Go.Azalai
theorem kn_sick {n:Nat} {first:List Int} {meets:List Meet} {wait:Span} {day:Int} (h:meetsE n first meets wait day = 0) {i:Nat} (hi:i < n) :
 (mangeK n first meets wait day)[i]? = some (knF day (gI (sickF n first (act false meets) wait.lo) i) (gI (sickF n first (act true meets) wait.hi) i)) ∧
  (gI (sickF n first (act false meets) wait.lo) i ≤ day ↔ Sick first (act false meets) wait.lo i day) ∧ (gI (sickF n first (act true meets) wait.hi) i ≤ day ↔ Sick first (act true meets) wait.hi i day):=by
 obtain ⟨hn,hw,hd,hf1,hm1,hf,hm⟩:=meetsE_0 h
 obtain ⟨s1,hs1⟩:=least_ex (M:=act false meets) (w:=wait.lo) hf (fun m h=>hm m h.1) (by omega)
 obtain ⟨s2,hs2⟩:=least_ex (M:=act true meets) (w:=wait.hi) hf (fun m h=>hm m h.1) (by omega)
 refine ⟨?_,?_,?_⟩
 · unfold mangeK
   rw [Int.toNat_natCast,List.getElem?_map,List.getElem?_range hi];rfl
 · rw [hs1.sickF];exact hs1.sick hd.2 (by omega) (by omega)
 · rw [hs2.sickF];exact hs2.sick hd.2 (by omega) (by omega)
theorem mangeK_len (n:Nat) (first:List Int) (meets:List Meet) (wait:Span) (day:Int):(mangeK n first meets wait day).length = n:=by unfold mangeK;simp
theorem Inf.congr {first:List Int} {M M':Meet → Prop} {w i t:Int} (h:∀ m,M m → ∃ m',M' m' ∧ m'.a = m.a ∧ m'.b = m.b ∧ m'.day = m.day) (hi:Inf first M w i t):Inf first M' w i t:=by
 induction hi with
 | base hb=>exact .base hb
 | l hm _ ht ih =>
  obtain ⟨m',g1,g2,g3,g4⟩:=h _ hm
  rw [← g3,← g4];exact .l g1 (by rw [g2];exact ih) (by rw [g4];exact ht)
 | r hm _ ht ih =>
  obtain ⟨m',g1,g2,g3,g4⟩:=h _ hm
  rw [← g2,← g4];exact .r g1 (by rw [g3];exact ih) (by rw [g4];exact ht)
def shut (m:Meet):Meet:=⟨m.a,m.b,m.day,true⟩
end Go.Azalai
namespace Go.Azalai
end Go.Azalai
namespace Go.Proofs.Ytnlfjchbhgikaaa
open Go Go.Sx Go.Azalai
end Go.Proofs.Ytnlfjchbhgikaaa
namespace Go.Azalai
def cB (x:Int):Bool:=decide (x ≠ wellD)
def SickI (n:Nat) (first:List Int) (meets:List Meet) (lo hi:Int) (S:Int → Prop) (T:Meet → Prop) (s:List Int) (D:Int):Prop :=
 ∃ P:Meet → Prop,Si n first (act false meets) P lo hi D s ∧ (∀ p,P p → p.day ≤ D ∧ okM n p) ∧ (∀ m ∈ meets,m.close = true → S m.day → P m) ∧ ∀ m,T m → m.close = true → P m
theorem SickI.len {n:Nat} {first:List Int} {meets:List Meet} {lo hi D:Int} {S:Int → Prop} {T:Meet → Prop} {s:List Int} (h:SickI n first meets lo hi S T s D):s.length = n:=by
 obtain ⟨P,h1,_⟩:=h
 have:=h1.len;omega
theorem SickI.start {n:Nat} {first:List Int} {meets:List Meet} {lo hi:Int} (hf:∀ i ∈ first,0 ≤ i ∧ i < (n:Int)) (hh:0 ≤ hi) (z:List Int):SickI n first meets lo hi (· ∈ z.take 0) (fun _=>False) (baseF first (List.replicate n wellD)) 0 :=
 ⟨fun _=>False,Si.start hf hh,fun _ h=>h.elim,fun _ _ _ h=>by simp at h,fun _ h=>h.elim⟩
theorem SickI.pass {n:Nat} {first:List Int} {meets:List Meet} {lo hi D d v1 v2:Int} {S:Int → Prop} {q:Nat} {s:List Int} (hf:∀ i ∈ first,0 ≤ i ∧ i < (n:Int)) (hv1:lo ≤ v1 ∧ v1 ≤ hi) (hv2:lo ≤ v2 ∧ v2 ≤ hi) (hh:hi ≤ 60) (hl:1 ≤ lo) (hq:q < meets.length) (hm:okM n meets[q]) (hd:meets[q].day = d) (hD:D ≤ d)
 (h:SickI n first meets lo hi S (fun m=>m ∈ meets.take q ∧ m.day = d) s D):SickI n first meets lo hi S (fun m=>m ∈ meets.take (q + 1) ∧ m.day = d) (catchM meets[q] v1 v2 s) d:=by
 obtain ⟨P,h1,h2,h3,h4⟩:=h
 have hmem:meets[q] ∈ meets:=List.getElem_mem _
 have htk:meets.take (q + 1) = meets.take q ++ [meets[q]]:=(List.take_append_getElem hq).symm
 generalize meets[q] = m at *
 subst hd
 refine ⟨fun x=>P x ∨ x = m,catchM_si (fun i hi=>hf i hi) hv1 hv2 hh hl hD hm ⟨hmem,fun h=>by cases h⟩ (fun p hp=>by have:=(h2 p hp).1;omega) (fun p hp=>(h2 p hp).2) h1,fun p hp=>?_,fun x hx hc hs=>.inl (h3 x hx hc hs),fun x hx hc=>?_⟩
 · rcases hp with hp | rfl
   · have:=h2 p hp;exact ⟨by omega,this.2⟩
   · exact ⟨Int.le_refl _,hm⟩
 · rw [htk] at hx
   rcases List.mem_append.1 hx.1 with hx1 | hx1
   · exact .inl (h4 x ⟨hx1,hx.2⟩ hc)
   · simp at hx1;exact .inr hx1
theorem SickI.skip {n:Nat} {first:List Int} {meets:List Meet} {lo hi D d:Int} {S:Int → Prop} {q:Nat} {s:List Int} (hq:q < meets.length) (hd:meets[q].day ≠ d ∨ meets[q].close = false)
 (h:SickI n first meets lo hi S (fun m=>m ∈ meets.take q ∧ m.day = d) s D):SickI n first meets lo hi S (fun m=>m ∈ meets.take (q + 1) ∧ m.day = d) s D:=by
 obtain ⟨P,h1,h2,h3,h4⟩:=h
 refine ⟨P,h1,h2,h3,fun x hx hc=>?_⟩
 rw [(List.take_append_getElem hq).symm] at hx
 rcases List.mem_append.1 hx.1 with hx1 | hx1
 · exact h4 x ⟨hx1,hx.2⟩ hc
 · simp at hx1
   subst hx1
   rcases hd with hd | hd
   · exact absurd hx.2 hd
   · rw [hd] at hc;cases hc
theorem SickI.open {n:Nat} {first:List Int} {meets:List Meet} {lo hi D d:Int} {S:Int → Prop} {s:List Int} (h:SickI n first meets lo hi S (fun _=>False) s D):SickI n first meets lo hi S (fun m=>m ∈ meets.take 0 ∧ m.day = d) s D:=by
 obtain ⟨P,h1,h2,h3,h4⟩:=h
 exact ⟨P,h1,h2,h3,fun x hx=>by simp at hx⟩
theorem SickI.shut {n:Nat} {first:List Int} {meets:List Meet} {lo hi D:Int} {s z:List Int} {i:Nat} (hil:i < z.length) (h:SickI n first meets lo hi (· ∈ z.take i) (fun m=>m ∈ meets.take meets.length ∧ m.day = z[i]) s D):SickI n first meets lo hi (· ∈ z.take (i + 1)) (fun _=>False) s D:=by
 obtain ⟨P,h1,h2,h3,h4⟩:=h
 refine ⟨P,h1,h2,fun x hx hc hs=>?_,fun _ h=>h.elim⟩
 rw [(List.take_append_getElem hil).symm] at hs
 rcases List.mem_append.1 hs with hx1 | hx1
 · exact h3 x hx hc hx1
 · simp at hx1
   exact h4 x ⟨by rw [List.take_length];exact hx,hx1⟩ hc
theorem SickI.again {n:Nat} {first:List Int} {meets:List Meet} {lo hi D:Int} {s z:List Int} {i:Nat} (hil:i < z.length) (h0:0 < i) (he:z[i] = z[i - 1]) (h:SickI n first meets lo hi (· ∈ z.take i) (fun _=>False) s D):SickI n first meets lo hi (· ∈ z.take (i + 1)) (fun _=>False) s D:=by
 obtain ⟨P,h1,h2,h3,h4⟩:=h
 refine ⟨P,h1,h2,fun x hx hc hs=>?_,fun _ h=>h.elim⟩
 rw [(List.take_append_getElem hil).symm] at hs
 rcases List.mem_append.1 hs with hx1 | hx1
 · exact h3 x hx hc hx1
 · simp at hx1
   refine h3 x hx hc ?_
   rw [hx1,he]
   exact List.mem_take_iff_getElem.2 ⟨i - 1,by omega,rfl⟩
theorem SickI.law {n:Nat} {first:List Int} {meets:List Meet} {lo hi D day:Int} {s z:List Int} (h:SickI n first meets lo hi (· ∈ z.take z.length) (fun _=>False) s D) (hl:1 ≤ hi) (hd:day ≤ 100000) (hz:z.Perm ((meets.filter fun m=>decide (m.day ≤ day)).map (·.day))) {i:Int} (h0:0 ≤ i) (h1:i < n) :
 (gI s i ≤ day → Sick first (act false meets) lo i day) ∧ (Sick first (act true meets) hi i day → gI s i ≤ day):=by
 obtain ⟨P,g1,g2,g3,g4⟩:=h
 refine g1.law hl hd (fun m hm hc hmd=>g3 m hm hc ?_) h0 h1
 rw [List.take_length]
 exact hz.mem_iff.2 (List.mem_map.2 ⟨m,List.mem_filter.2 ⟨hm,by simpa using hmd⟩,rfl⟩)
theorem srt_drop {z:List Int} (h:Srt (fun x:Int=>x) 0 z.length z) {i:Nat} (hil:i < z.length) {D:Int} (hD:D ≤ z[i]):∀ j (hj:j < z.length),i ≤ j → D ≤ z[j]:=fun j hj hij=>by
 have:=Srt.le (fun x:Int=>x) h (Nat.zero_le i) hij hj
 unfold ky at this
 rw [List.getElem?_eq_getElem hil,List.getElem?_eq_getElem hj] at this
 simp only at this
 omega
def cat2 (d:Int) (v:Nat → Int) (a b:Nat):Nat → List Int → List Int
 | 0,s=>s
 | 1,s=>catch1 d (v b) a b s
 | _ + 2,s=>catch1 d (v a) b a (catch1 d (v b) a b s)
theorem cat2_len (d:Int) (v:Nat → Int) (a b j:Nat) (s:List Int):(cat2 d v a b j s).length = s.length:=by
 unfold cat2;split <;> simp [catch1_len]
theorem cat2_succ {d:Int} {v:Nat → Int} {a b j p0 p1:Nat} {s:List Int} (h:(j = 0 ∧ p0 = a ∧ p1 = b) ∨ (j = 1 ∧ p0 = b ∧ p1 = a)):cat2 d v a b (j + 1) s = catch1 d (v p1) p0 p1 (cat2 d v a b j s):=by
 rcases h with ⟨rfl,rfl,rfl⟩ | ⟨rfl,rfl,rfl⟩ <;> rfl
theorem cat2_2 {m:Meet} {v:Nat → Int} {a b:Nat} {s:List Int} (ha:m.a = a) (hb:m.b = b):cat2 m.day v a b 2 s = catchM m (v b) (v a) s:=by
 unfold catchM;rw [ha,hb];rfl
theorem all_well {n:Nat} {s:List Int} (hl:s.length = n) (h:∀ p:Nat,p < n → s[p]? = some wellD):s = List.replicate n wellD:=by
 refine List.ext_getElem? fun p=>?_
 by_cases hp:p < n
 · rw [h p hp,List.getElem?_replicate,if_pos hp]
 · rw [List.getElem?_eq_none (by omega),List.getElem?_replicate,if_neg hp]
end Go.Azalai
set_option maxRecDepth 100000
namespace Go.Proofs.Ytnlfjchbhgikaaa
open Go Go.Sx
def c10:SC:=(.seq (.reg [
 ⟨some 9,.box (.t 3) 0 23,none,[]⟩,
 ⟨some 12,.mv (.c (.bool false)),none,[]⟩])
 (.seq (.reg [
 ⟨some 35,.call 38 [],none,[]⟩,
 ⟨some 13,.mv (.t 35),none,[]⟩])
 (.seq (.seq (.reg [
 ⟨some 36,.mv (.t 13),none,[]⟩,
 ⟨some 37,.un .not (.t 36),none,[]⟩])
 (.cond (.t 37)
 (.seq (.reg [
  ⟨some 12,.mv (.c (.bool false)),none,[]⟩])
  .ret)
 .skip))
 (.seq (.seq (.reg [
 ⟨some 38,.mv (.t 0),none,[]⟩,
 ⟨some 39,.mv (.t 1),none,[]⟩,
 ⟨some 40,.mv (.t 2),none,[]⟩,
 ⟨some 41,.ld (.t 9) 2 true,none,[]⟩,
 ⟨some 42,.mv (.t 4),none,[]⟩,
 ⟨some 43,.call 49 [.t 38,.t 39,.t 40,.t 41,.t 42],none,[]⟩,
 ⟨some 44,.bin .neq (.t 43) (.c (.int .i64 0)),none,[]⟩])
 (.cond (.t 44)
 (.seq (.reg [
  ⟨some 45,.mv (.t 13),none,[]⟩,
  ⟨some 12,.mv (.t 45),none,[]⟩])
  .ret)
 .skip))
 (.seq (.reg [
 ⟨some 47,.mv (.t 0),none,[]⟩,
 ⟨some 48,.mv (.t 1),none,[]⟩,
 ⟨some 49,.mv (.t 2),none,[]⟩,
 ⟨some 50,.ld (.t 9) 2 true,none,[]⟩,
 ⟨some 51,.mv (.t 4),none,[]⟩,
 ⟨some 52,.call 35 [.t 47,.t 48,.t 49,.t 50,.t 51],none,[]⟩,
 ⟨some 46,.mv (.t 52),none,[]⟩,
 ⟨some 53,.ext (.t 46) 0,none,[]⟩,
 ⟨some 54,.ext (.t 46) 1,none,[]⟩,
 ⟨some 14,.mv (.t 53),none,[]⟩,
 ⟨some 15,.mv (.t 54),none,[]⟩])
 (.seq (.seq (.reg [
 ⟨some 55,.mv (.t 15),none,[]⟩,
 ⟨some 56,.bin .neq (.t 55) (.c (.int .i64 0)),none,[]⟩,
 ⟨some 57,.mv (.t 56),none,[]⟩,
 ⟨some 58,.mv (.t 14),some (57,false),[]⟩,
 ⟨some 59,.len (.t 58),some (57,false),[]⟩,
 ⟨some 60,.mv (.t 0),some (57,false),[]⟩,
 ⟨some 61,.bin .neq (.t 59) (.t 60),some (57,false),[]⟩,
 ⟨some 62,.pick (.t 57) (.c (.bool true)) (.t 61),none,[]⟩])
 (.cond (.t 62)
 (.seq (.reg [
  ⟨some 12,.mv (.c (.bool false)),none,[]⟩])
  .ret)
 .skip))
 (.seq (.regd [0,2,1,3,4,5] [
 .op ⟨some 63,.mv (.t 0),none,[]⟩,
 .op ⟨some 65,.mv (.t 0),none,[]⟩] 4 0 [
 ⟨some 64,.mks 1 8 [.int .i64 0] 3 (.t 63),none,[0]⟩,
 ⟨some 66,.mks 1 1 [.bool false] 4 (.t 65),none,[2]⟩,
 ⟨some 16,.mv (.t 64),none,[0,1]⟩,
 ⟨some 17,.mv (.t 66),none,[0,1,2,3,4]⟩])
 (.seq (.seq (.reg [
 ⟨some 67,.mv (.t 16),none,[]⟩,
 ⟨some 68,.len (.t 67),none,[]⟩,
 ⟨some 69,.mv (.c (.int .i64 0)),none,[]⟩])
 (.block 0 (.loop (.seq (.reg [
  ⟨some 70,.bin .lss (.t 69) (.t 68),none,[]⟩])
  (.seq (.cond (.t 70)
  .skip
  (.exit 0))
  (.seq (.block 1 (.seq (.reg [
   ⟨some 71,.mv (.t 69),none,[]⟩,
   ⟨some 18,.mv (.t 71),none,[]⟩])
   (.reg [
   ⟨some 72,.mv (.t 16),none,[]⟩,
   ⟨some 73,.mv (.t 18),none,[]⟩,
   ⟨some 74,.ixs (.t 72) (.t 73) 1,none,[]⟩,
   ⟨none,.st (.t 74) (.c (.int .i64 100061)) 1,none,[]⟩])))
  (.reg [
  ⟨some 75,.bin .add (.t 69) (.c (.int .i64 1)),none,[]⟩,
  ⟨some 69,.mv (.t 75),none,[]⟩])))))))
 (.gh (.seq (.seq (.reg [
 ⟨some 76,.mv (.t 1),none,[]⟩,
 ⟨some 77,.len (.t 76),none,[]⟩,
 ⟨some 78,.mv (.c (.int .i64 0)),none,[]⟩])
 (.block 2 (.loop (.seq (.reg [
  ⟨some 79,.bin .lss (.t 78) (.t 77),none,[]⟩])
  (.seq (.cond (.t 79)
  .skip
  (.exit 2))
  (.seq (.block 3 (.seq (.reg [
   ⟨some 80,.ixs (.t 76) (.t 78) 1,none,[]⟩,
   ⟨some 81,.ld (.t 80) 1 false,none,[]⟩,
   ⟨some 20,.mv (.t 81),none,[]⟩])
   (.reg [
   ⟨some 82,.mv (.t 16),none,[]⟩,
   ⟨some 83,.mv (.t 20),none,[]⟩,
   ⟨some 84,.mv (.t 17),none,[]⟩,
   ⟨some 85,.mv (.t 20),none,[]⟩,
   ⟨some 86,.ixs (.t 82) (.t 83) 1,none,[]⟩,
   ⟨none,.st (.t 86) (.c (.int .i64 0)) 1,none,[]⟩,
   ⟨some 87,.ixs (.t 84) (.t 85) 1,none,[]⟩,
   ⟨none,.st (.t 87) (.c (.bool true)) 1,none,[]⟩])))
  (.reg [
  ⟨some 88,.bin .add (.t 78) (.c (.int .i64 1)),none,[]⟩,
  ⟨some 78,.mv (.t 88),none,[]⟩])))))))
 (.gh (.seq (.reg [
 ⟨some 21,.mv (.c (.slice none 0 0)),none,[]⟩])
 (.seq (.seq (.reg [
 ⟨some 89,.mv (.t 2),none,[]⟩,
 ⟨some 90,.len (.t 89),none,[]⟩,
 ⟨some 91,.mv (.c (.int .i64 0)),none,[]⟩])
 (.block 4 (.loop (.seq (.reg [
  ⟨some 92,.bin .lss (.t 91) (.t 90),none,[]⟩])
  (.seq (.cond (.t 92)
  .skip
  (.exit 4))
  (.seq (.block 5 (.seq (.reg [
   ⟨some 93,.ixs (.t 89) (.t 91) 4,none,[]⟩,
   ⟨some 94,.ld (.t 93) 4 true,none,[]⟩,
   ⟨some 23,.alloc [.int .i64 0,.int .i64 0,.int .i64 0,.bool false] 73,none,[]⟩,
   ⟨none,.st (.t 23) (.t 94) 4,none,[]⟩])
   (.seq (.reg [
   ⟨some 95,.addo (.t 23) 2,none,[]⟩,
   ⟨some 96,.ld (.t 95) 1 false,none,[]⟩,
   ⟨some 97,.mv (.t 4),none,[]⟩,
   ⟨some 98,.bin .leq (.t 96) (.t 97),none,[]⟩])
   (.cond (.t 98)
   (.reg [
    ⟨some 99,.mv (.t 21),none,[]⟩,
    ⟨some 100,.addo (.t 23) 2,none,[]⟩,
    ⟨some 101,.ld (.t 100) 1 false,none,[]⟩,
    ⟨some 102,.bsl 1 3 [.t 101],none,[]⟩,
    ⟨some 103,.appm 1 8 3 (.t 99) (.t 102),none,[]⟩,
    ⟨some 21,.mv (.t 103),none,[]⟩])
   .skip))))
  (.reg [
  ⟨some 104,.bin .add (.t 91) (.c (.int .i64 1)),none,[]⟩,
  ⟨some 91,.mv (.t 104),none,[]⟩])))))))
 (.gh (.seq (.seq (.reg [
 ⟨some 105,.mv (.t 21),none,[]⟩,
 ⟨some 106,.len (.t 105),none,[]⟩,
 ⟨some 107,.mv (.c (.int .i64 0)),none,[]⟩])
 (.block 6 (.loop (.seq (.reg [
  ⟨some 108,.bin .lss (.t 107) (.t 106),none,[]⟩])
  (.seq (.cond (.t 108)
  .skip
  (.exit 6))
  (.seq (.block 7 (.seq (.reg [
   ⟨some 109,.mv (.t 107),none,[]⟩,
   ⟨some 24,.mv (.t 109),none,[]⟩])
   (.seq (.reg [
   ⟨some 110,.mv (.t 24),none,[]⟩,
   ⟨some 25,.mv (.t 110),none,[]⟩])
   (.block 8 (.loop (.seq (.seq (.regd [0,1,2,3,4,5,6,7,8,9,10,11,12,13] [
    .op ⟨some 111,.mv (.t 25),none,[]⟩,
    .op ⟨some 112,.bin .gtr (.t 111) (.c (.int .i64 0)),none,[0]⟩,
    .op ⟨some 113,.mv (.t 112),none,[1]⟩,
    .op ⟨some 114,.mv (.t 21),some (113,true),[2]⟩,
    .op ⟨some 115,.mv (.t 25),some (113,true),[2]⟩,
    .op ⟨some 116,.ixs (.t 114) (.t 115) 1,some (113,true),[2,3,4]⟩,
    .op ⟨some 117,.ld (.t 116) 1 false,some (113,true),[2,5]⟩,
    .op ⟨some 118,.mv (.t 21),some (113,true),[2]⟩,
    .op ⟨some 119,.mv (.t 25),some (113,true),[2]⟩,
    .op ⟨some 120,.bin .sub (.t 119) (.c (.int .i64 1)),some (113,true),[2,8]⟩,
    .op ⟨some 121,.ixs (.t 118) (.t 120) 1,some (113,true),[2,7,9]⟩,
    .op ⟨some 122,.ld (.t 121) 1 false,some (113,true),[2,10]⟩,
    .op ⟨some 123,.bin .lss (.t 117) (.t 122),some (113,true),[2,6,11]⟩,
    .op ⟨some 124,.pick (.t 113) (.t 123) (.c (.bool false)),none,[2,12]⟩] 0 0 [
])
 (.cond (.t 124)
 .skip
 (.exit 8)))
 (.seq (.block 9 (.regd [0,1,5,6,7,8,9,10,11,12,13,14,2,3,4,15,16,17] [
  .op ⟨some 127,.mv (.t 21),none,[]⟩,
  .op ⟨some 128,.mv (.t 25),none,[]⟩,
  .op ⟨some 132,.mv (.t 21),none,[]⟩,
  .op ⟨some 133,.mv (.t 25),none,[]⟩,
  .op ⟨some 134,.bin .sub (.t 133) (.c (.int .i64 1)),none,[6]⟩,
  .op ⟨some 135,.ixs (.t 132) (.t 134) 1,none,[5,7]⟩,
  .op ⟨some 136,.ld (.t 135) 1 false,none,[8]⟩,
  .op ⟨some 137,.mv (.t 21),none,[]⟩,
  .op ⟨some 138,.mv (.t 25),none,[]⟩,
  .op ⟨some 139,.ixs (.t 137) (.t 138) 1,none,[10,11]⟩,
  .op ⟨some 140,.ld (.t 139) 1 false,none,[12]⟩,
  .op ⟨some 141,.ixs (.t 127) (.t 128) 1,none,[0,1,5,6,7,8,9,13]⟩,
  .hide (.t 141),
  .op ⟨some 129,.mv (.t 21),none,[]⟩,
  .op ⟨some 130,.mv (.t 25),none,[]⟩,
  .op ⟨some 131,.bin .sub (.t 130) (.c (.int .i64 1)),none,[3]⟩] 0 1 [
  ⟨none,.st (.t 141) (.t 136) 1,none,[0,1,5,6,7,8,9,13,14]⟩,
  ⟨some 142,.ixs (.t 129) (.t 131) 1,none,[0,1,2,3,4,5,6,7,8,9,10,11,12,13,14,15]⟩,
  ⟨none,.st (.t 142) (.t 140) 1,none,[0,1,2,3,4,5,6,7,8,9,10,11,12,13,14,15,16]⟩]))
 (.reg [
 ⟨some 125,.mv (.t 25),none,[]⟩,
 ⟨some 126,.bin .sub (.t 125) (.c (.int .i64 1)),none,[]⟩,
 ⟨some 25,.mv (.t 126),none,[]⟩]))))))))
 (.gh (.reg [
 ⟨some 143,.bin .add (.t 107) (.c (.int .i64 1)),none,[]⟩,
 ⟨some 107,.mv (.t 143),none,[]⟩]))))))))
 (.gh (.seq (.seq (.reg [
 ⟨some 144,.mv (.t 21),none,[]⟩,
 ⟨some 145,.len (.t 144),none,[]⟩,
 ⟨some 146,.mv (.c (.int .i64 0)),none,[]⟩])
 (.block 10 (.loop (.seq (.reg [
  ⟨some 147,.bin .lss (.t 146) (.t 145),none,[]⟩])
  (.seq (.cond (.t 147)
  .skip
  (.exit 10))
  (.seq (.block 11 (.seq (.reg [
   ⟨some 148,.mv (.t 146),none,[]⟩,
   ⟨some 149,.ixs (.t 144) (.t 146) 1,none,[]⟩,
   ⟨some 150,.ld (.t 149) 1 false,none,[]⟩,
   ⟨some 26,.mv (.t 148),none,[]⟩,
   ⟨some 27,.mv (.t 150),none,[]⟩])
   (.seq (.seq (.reg [
   ⟨some 151,.mv (.t 26),none,[]⟩,
   ⟨some 152,.bin .gtr (.t 151) (.c (.int .i64 0)),none,[]⟩,
   ⟨some 153,.mv (.t 152),none,[]⟩,
   ⟨some 154,.mv (.t 27),some (153,true),[]⟩,
   ⟨some 155,.mv (.t 21),some (153,true),[]⟩,
   ⟨some 156,.mv (.t 26),some (153,true),[]⟩,
   ⟨some 157,.bin .sub (.t 156) (.c (.int .i64 1)),some (153,true),[]⟩,
   ⟨some 158,.ixs (.t 155) (.t 157) 1,some (153,true),[]⟩,
   ⟨some 159,.ld (.t 158) 1 false,some (153,true),[]⟩,
   ⟨some 160,.bin .eql (.t 154) (.t 159),some (153,true),[]⟩,
   ⟨some 161,.pick (.t 153) (.t 160) (.c (.bool false)),none,[]⟩])
   (.cond (.t 161)
   (.exit 11)
   .skip))
   (.seq (.reg [
   ⟨some 162,.mv (.t 2),none,[]⟩,
   ⟨some 163,.len (.t 162),none,[]⟩,
   ⟨some 164,.mv (.c (.int .i64 0)),none,[]⟩])
   (.block 12 (.loop (.seq (.reg [
    ⟨some 165,.bin .lss (.t 164) (.t 163),none,[]⟩])
    (.seq (.cond (.t 165)
    .skip
    (.exit 12))
    (.seq (.block 13 (.seq (.reg [
     ⟨some 166,.mv (.t 164),none,[]⟩,
     ⟨some 167,.ixs (.t 162) (.t 164) 4,none,[]⟩,
     ⟨some 168,.ld (.t 167) 4 true,none,[]⟩,
     ⟨some 29,.alloc [.int .i64 0,.int .i64 0,.int .i64 0,.bool false] 73,none,[]⟩,
     ⟨some 28,.mv (.t 166),none,[]⟩,
     ⟨none,.st (.t 29) (.t 168) 4,none,[]⟩])
     (.seq (.seq (.reg [
     ⟨some 169,.addo (.t 29) 2,none,[]⟩,
     ⟨some 170,.ld (.t 169) 1 false,none,[]⟩,
     ⟨some 171,.mv (.t 27),none,[]⟩,
     ⟨some 172,.bin .neq (.t 170) (.t 171),none,[]⟩,
     ⟨some 173,.mv (.t 172),none,[]⟩,
     ⟨some 174,.addo (.t 29) 3,some (173,false),[]⟩,
     ⟨some 175,.ld (.t 174) 1 false,some (173,false),[]⟩,
     ⟨some 176,.un .not (.t 175),some (173,false),[]⟩,
     ⟨some 177,.mv (.t 176),some (173,false),[]⟩,
     ⟨some 178,.mv (.t 5),some (177,true),[]⟩,
     ⟨some 179,.mv (.t 28),some (177,true),[]⟩,
     ⟨some 180,.call 45 [.t 178,.t 179],some (177,true),[]⟩,
     ⟨some 181,.div .rem (.t 180) (.c (.int .u32 2)),some (177,true),[]⟩,
     ⟨some 182,.bin .eql (.t 181) (.c (.int .u32 0)),some (177,true),[]⟩,
     ⟨some 183,.pick (.t 177) (.t 182) (.c (.bool false)),some (173,false),[]⟩,
     ⟨some 184,.pick (.t 173) (.c (.bool true)) (.t 183),none,[]⟩])
     (.cond (.t 184)
     (.exit 13)
     .skip))
     (.seq (.reg [
     ⟨some 185,.addo (.t 29) 0,none,[]⟩,
     ⟨some 186,.ld (.t 185) 1 false,none,[]⟩,
     ⟨some 187,.addo (.t 29) 1,none,[]⟩,
     ⟨some 188,.ld (.t 187) 1 false,none,[]⟩,
     ⟨some 189,.build [.int .i64 0,.int .i64 0] [(0,1,.t 186),(1,1,.t 188)],none,[]⟩,
     ⟨some 190,.addo (.t 29) 1,none,[]⟩,
     ⟨some 191,.ld (.t 190) 1 false,none,[]⟩,
     ⟨some 192,.addo (.t 29) 0,none,[]⟩,
     ⟨some 193,.ld (.t 192) 1 false,none,[]⟩,
     ⟨some 194,.build [.int .i64 0,.int .i64 0] [(0,1,.t 191),(1,1,.t 193)],none,[]⟩,
     ⟨some 195,.bsl 2 97 [.t 189,.t 194],none,[]⟩,
     ⟨some 196,.len (.t 195),none,[]⟩,
     ⟨some 197,.mv (.c (.int .i64 0)),none,[]⟩])
     (.block 14 (.loop (.seq (.reg [
      ⟨some 198,.bin .lss (.t 197) (.t 196),none,[]⟩])
      (.seq (.cond (.t 198)
      .skip
      (.exit 14))
      (.seq (.block 15 (.seq (.reg [
       ⟨some 199,.ixs (.t 195) (.t 197) 2,none,[]⟩,
       ⟨some 200,.ld (.t 199) 2 true,none,[]⟩,
       ⟨some 31,.alloc [.int .i64 0,.int .i64 0] 97,none,[]⟩,
       ⟨none,.st (.t 31) (.t 200) 2,none,[]⟩])
       (.seq (.reg [
       ⟨some 201,.mv (.t 16),none,[]⟩,
       ⟨some 202,.ixa (.t 31) (.c (.int .i64 0)) 2 1,none,[]⟩,
       ⟨some 203,.ld (.t 202) 1 false,none,[]⟩,
       ⟨some 204,.ixs (.t 201) (.t 203) 1,none,[]⟩,
       ⟨some 205,.ld (.t 204) 1 false,none,[]⟩,
       ⟨some 206,.mv (.t 27),none,[]⟩,
       ⟨some 207,.bin .leq (.t 205) (.t 206),none,[]⟩,
       ⟨some 208,.mv (.t 207),none,[]⟩,
       ⟨some 209,.mv (.t 17),some (208,true),[]⟩,
       ⟨some 210,.ixa (.t 31) (.c (.int .i64 1)) 2 1,some (208,true),[]⟩,
       ⟨some 211,.ld (.t 210) 1 false,some (208,true),[]⟩,
       ⟨some 212,.ixs (.t 209) (.t 211) 1,some (208,true),[]⟩,
       ⟨some 213,.ld (.t 212) 1 false,some (208,true),[]⟩,
       ⟨some 214,.un .not (.t 213),some (208,true),[]⟩,
       ⟨some 215,.pick (.t 208) (.t 214) (.c (.bool false)),none,[]⟩])
       (.cond (.t 215)
       (.regd [0,1,2,7,8,9,10,11,12,13,14,16,3,4,5,6,15,17,18,19] [
        .op ⟨some 216,.mv (.t 17),none,[]⟩,
        .op ⟨some 217,.ixa (.t 31) (.c (.int .i64 1)) 2 1,none,[]⟩,
        .op ⟨some 218,.ld (.t 217) 1 false,none,[1]⟩,
        .op ⟨some 223,.ld (.t 9) 2 true,none,[]⟩,
        .op ⟨some 224,.mv (.t 5),none,[]⟩,
        .op ⟨some 225,.mv (.t 28),none,[]⟩,
        .op ⟨some 226,.ixa (.t 31) (.c (.int .i64 1)) 2 1,none,[]⟩,
        .op ⟨some 227,.ld (.t 226) 1 false,none,[10]⟩,
        .op ⟨some 228,.bin .add (.t 225) (.t 227),none,[9,11]⟩,
        .op ⟨some 229,.call 45 [.t 224,.t 228],none,[8,12]⟩,
        .op ⟨some 230,.call 44 [.t 223,.t 229],none,[7,13]⟩,
        .op ⟨some 232,.ixs (.t 216) (.t 218) 1,none,[0,1,2,13,14]⟩,
        .hide (.t 232),
        .op ⟨some 219,.mv (.t 16),none,[]⟩,
        .op ⟨some 220,.ixa (.t 31) (.c (.int .i64 1)) 2 1,none,[]⟩,
        .op ⟨some 221,.ld (.t 220) 1 false,none,[4]⟩,
        .op ⟨some 222,.mv (.t 27),none,[]⟩,
        .op ⟨some 231,.bin .add (.t 222) (.t 230),none,[6,14]⟩] 0 1 [
        ⟨none,.st (.t 232) (.c (.bool true)) 1,none,[0,1,2,13,14,16]⟩,
        ⟨some 233,.ixs (.t 219) (.t 221) 1,none,[0,1,2,3,4,5,6,7,8,9,10,11,12,13,14,15,16,17]⟩,
        ⟨none,.st (.t 233) (.t 231) 1,none,[0,1,2,3,4,5,6,7,8,9,10,11,12,13,14,15,16,17,18]⟩])
       .skip))))
      (.reg [
      ⟨some 234,.bin .add (.t 197) (.c (.int .i64 1)),none,[]⟩,
      ⟨some 197,.mv (.t 234),none,[]⟩]))))))))))
    (.gh (.reg [
    ⟨some 235,.bin .add (.t 164) (.c (.int .i64 1)),none,[]⟩,
    ⟨some 164,.mv (.t 235),none,[]⟩])))))))))))
  (.gh (.reg [
  ⟨some 236,.bin .add (.t 146) (.c (.int .i64 1)),none,[]⟩,
  ⟨some 146,.mv (.t 236),none,[]⟩]))))))))
 (.gh (.seq (.seq (.reg [
 ⟨some 237,.mv (.t 14),none,[]⟩,
 ⟨some 238,.len (.t 237),none,[]⟩,
 ⟨some 239,.mv (.c (.int .i64 0)),none,[]⟩])
 (.block 16 (.loop (.seq (.reg [
  ⟨some 240,.bin .lss (.t 239) (.t 238),none,[]⟩])
  (.seq (.cond (.t 240)
  .skip
  (.exit 16))
  (.seq (.block 17 (.seq (.reg [
   ⟨some 241,.mv (.t 239),none,[]⟩,
   ⟨some 242,.ixs (.t 237) (.t 239) 1,none,[]⟩,
   ⟨some 243,.ld (.t 242) 1 false,none,[]⟩,
   ⟨some 32,.mv (.t 241),none,[]⟩,
   ⟨some 33,.mv (.t 243),none,[]⟩])
   (.seq (.reg [
   ⟨some 244,.mv (.t 16),none,[]⟩,
   ⟨some 245,.mv (.t 32),none,[]⟩,
   ⟨some 246,.ixs (.t 244) (.t 245) 1,none,[]⟩,
   ⟨some 247,.ld (.t 246) 1 false,none,[]⟩,
   ⟨some 248,.mv (.t 4),none,[]⟩,
   ⟨some 249,.bin .leq (.t 247) (.t 248),none,[]⟩,
   ⟨some 34,.mv (.t 249),none,[]⟩])
   (.seq (.reg [
   ⟨some 250,.mv (.t 33),none,[]⟩,
   ⟨some 251,.bin .gtr (.t 250) (.c (.int .u8 2)),none,[]⟩,
   ⟨some 252,.mv (.t 251),none,[]⟩,
   ⟨some 253,.mv (.t 33),some (252,false),[]⟩,
   ⟨some 254,.bin .eql (.t 253) (.c (.int .u8 2)),some (252,false),[]⟩,
   ⟨some 255,.mv (.t 254),some (252,false),[]⟩,
   ⟨some 256,.mv (.t 34),some (255,true),[]⟩,
   ⟨some 257,.un .not (.t 256),some (255,true),[]⟩,
   ⟨some 258,.pick (.t 255) (.t 257) (.c (.bool false)),some (252,false),[]⟩,
   ⟨some 259,.pick (.t 252) (.c (.bool true)) (.t 258),none,[]⟩,
   ⟨some 260,.mv (.t 259),none,[]⟩,
   ⟨some 261,.mv (.t 33),some (260,false),[]⟩,
   ⟨some 262,.bin .eql (.t 261) (.c (.int .u8 0)),some (260,false),[]⟩,
   ⟨some 263,.mv (.t 262),some (260,false),[]⟩,
   ⟨some 264,.mv (.t 34),some (263,true),[]⟩,
   ⟨some 265,.pick (.t 263) (.t 264) (.c (.bool false)),some (260,false),[]⟩,
   ⟨some 266,.pick (.t 260) (.c (.bool true)) (.t 265),none,[]⟩])
   (.cond (.t 266)
   (.seq (.reg [
    ⟨some 12,.mv (.c (.bool false)),none,[]⟩])
    .ret)
   .skip)))))
  (.reg [
  ⟨some 267,.bin .add (.t 239) (.c (.int .i64 1)),none,[]⟩,
  ⟨some 239,.mv (.t 267),none,[]⟩])))))))
 (.gh (.seq (.reg [
 ⟨some 268,.mv (.t 13),none,[]⟩,
 ⟨some 12,.mv (.t 268),none,[]⟩])
 .ret)))))))))))))))))))))
def r10:List RV:=[.tmp 12]
theorem n10:Try.f10.ntmps = 269:=by kernel_rfl
theorem b10:bodyB Try.prog 10 = true:=by kernel_rfl
theorem c10_ok:cmpC Try.prog c10 ((Try.f10.body).getD .skip) = true:=by kernel_rfl
theorem r10_ok:cmpR Try.prog r10 Try.f10.results.toList = true:=by kernel_rfl
theorem t10 {args:List SV} {res:SV} (ka:KFL args) (kr:KF res) (h:sx Try.prog Y0 0 c10 (st0 args 269) (retK r10 res)) (hA:Nat.ble args.length 269 = true:=by rfl):Ct Try.prog 10 args res:=ct_intro Try.func10 rfl b10 c10_ok r10_ok n10 (Nat.le_of_ble_eq_true hA) ka kr h
end Go.Proofs.Ytnlfjchbhgikaaa
namespace Go.Azalai
def inn (s t:Span):Prop:=t.lo ≤ s.lo ∧ s.lo ≤ s.hi ∧ s.hi ≤ t.hi
def partF (s:Span) (a b:Int):Span:=⟨s.lo + a.tmod (s.hi - s.lo + 1),s.lo + a.tmod (s.hi - s.lo + 1) + b.tmod (s.hi - (s.lo + a.tmod (s.hi - s.lo + 1)) + 1)⟩
structure innB (d b:Breed):Prop where
 full:d.full = b.full
 fed:d.fed = b.fed
 heal:d.heal = b.heal
 rest:inn d.rest b.rest
 heat:inn d.heat b.heat
 toil:inn d.toil b.toil
 burn:inn d.burn b.burn
 rub:inn d.rub b.rub
 milk:inn d.milk b.milk
 strong:inn d.strong b.strong
structure innC (a c:Camel):Prop where
 water:inn a.water c.water
 fat:inn a.fat c.fat
 sore:inn a.sore c.sore
 milks:a.milks = c.milks
structure innM (n m:March):Prop where
 hours:n.hours = m.hours
 load:n.load = m.load
 heat:inn n.heat m.heat
 grass:inn n.grass m.grass
 drinks:inn n.drinks m.drinks
theorem innB.ok {d b:Breed} (h:innB d b) (hb:okBreed b = true):okBreed d = true:=by
 obtain ⟨h1,h2,h3,r1,r2,r3,r4,r5,r6,r7⟩:=h
 simp only [okBreed,inR,okSp,Bool.and_eq_true,decide_eq_true_eq] at hb ⊢
 unfold inn at *
 omega
theorem innC.ok {d b:Breed} {a c:Camel} (hd:innB d b) (h:innC a c) (hc:okCamel b c = true):okCamel d a = true:=by
 obtain ⟨r1,r2,r3,r4⟩:=h
 simp only [okCamel,okSp,Bool.and_eq_true,decide_eq_true_eq] at hc ⊢
 rw [hd.full,hd.fed]
 unfold inn at *
 omega
theorem innM.ok {n m:March} (h:innM n m) (hm:okMarch m = true):okMarch n = true:=by
 obtain ⟨r1,r2,r3,r4,r5⟩:=h
 simp only [okMarch,inR,okSp,Bool.and_eq_true,decide_eq_true_eq] at hm ⊢
 unfold inn at *
 omega
end Go.Azalai
namespace Go.Azalai
structure Truth where
 water:Int
 fat:Int
 sore:Int
def pickF (s:Span) (n:Int):Int:=s.lo + n.tmod (s.hi - s.lo + 1)
theorem pick_bd {s:Span} {n:Int} (h:s.lo ≤ s.hi) (hn:0 ≤ n):s.lo ≤ pickF s n ∧ pickF s n ≤ s.hi:=by
 have h1:0 ≤ n.tmod (s.hi - s.lo + 1) ∧ n.tmod (s.hi - s.lo + 1) < s.hi - s.lo + 1:=⟨Int.tmod_nonneg _ hn,Int.tmod_lt_of_pos _ (by omega)⟩
 unfold pickF;omega
structure Pk where
 rest:Int
 heat:Int
 mheat:Int
 toil:Int
 milk:Int
 burn:Int
 drinks:Int
 grass:Int
 rub:Int
def inS (x:Int) (s:Span):Prop:=s.lo ≤ x ∧ x ≤ s.hi
structure Pin (p:Pk) (b:Breed) (m:March):Prop where
 rest:inS p.rest b.rest
 heat:inS p.heat b.heat
 mheat:inS p.mheat m.heat
 toil:inS p.toil b.toil
 milk:inS p.milk b.milk
 burn:inS p.burn b.burn
 drinks:inS p.drinks m.drinks
 grass:inS p.grass m.grass
 rub:inS p.rub b.rub
def lostW (p:Pk) (k:Bool) (m:March) (t:Truth):Int:=if k then t.water - (100000 * (p.rest + p.heat * max 0 (p.mheat - 20)) + p.toil * workF m) - 100000 * p.milk else t.water - (100000 * (p.rest + p.heat * max 0 (p.mheat - 20)) + p.toil * workF m)
def burnF (p:Pk) (m:March) (t:Truth):Int:=t.fat - p.burn * workF m
def soreT (p:Pk) (b:Breed) (m:March) (t:Truth):Int:=if m.hours = 0 then max 0 (min 1000000000 (t.sore + p.rub * m.hours * m.load) - 1000000 * b.heal) else min 1000000000 (t.sore + p.rub * m.hours * m.load)
def nextT (p:Pk) (b:Breed) (k:Bool) (m:March) (t:Truth):Truth:=⟨min (100000 * b.full) (lostW p k m t + 100000 * p.drinks),min (100000 * b.fed) (burnF p m t + 100000 * p.grass),soreT p b m t⟩
def livesT (p:Pk) (k:Bool) (m:March) (t:Truth):Bool:=decide (0 ≤ lostW p k m t) && decide (0 ≤ burnF p m t)
structure Tin (t:Truth) (c:Camel):Prop where
 water:100000 * c.water.lo ≤ t.water ∧ t.water ≤ 100000 * c.water.hi
 fat:100000 * c.fat.lo ≤ t.fat ∧ t.fat ≤ 100000 * c.fat.hi
 sore:1000000 * c.sore.lo ≤ t.sore ∧ t.sore ≤ 1000000 * c.sore.hi
end Go.Azalai
