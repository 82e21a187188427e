/- Walks and plain laws that lead to the given statement, part 8 of 8. -/
import Derived.Test.YtiigiflofnjilaaQG
import Derived.ProofKit
import Derived.OpenShut
import Derived.Test.YtiigiflofnjilaaRows
set_option maxRecDepth 100000
set_option maxHeartbeats 4000000
set_option linter.all false
open Nat renaming reduceAdd->rA,reduceMul->rM,reduceSub->rS,beq_refl->nbr
namespace Go.Sx
open Go Go.ChangeShapes Go.WideShapes Go.RowKit
section
variable {H:Type} {enc:TypeId × Value->H} {P:Program} {w:World} {base:Nat} {spare:Nat->Bool} {held:Bool}
theorem VW (hl:laidOutB P=true) {W W':World} (hb:Below W.heap.size W W'):∀ {ts:List TypeId} {vs:List Value} {ds:List (DataW H)} {ps:List MemPlace},(∀ t ∈ ts,P.readableRec t=true/\t < P.types.size) ->
 DataW.TrodAll enc P W 0 (fun _=>true) true ts vs ds ps->(∀ x ∈ ps,x.block < W.heap.size)->DataW.TrodAll enc P W' 0 (fun b=>decide (b < W.heap.size)) true ts vs ds ps
 | [],_,_,_,_,h,_=>by
  obtain ⟨rfl,rfl,rfl⟩:=trodAll_nil h
  exact rfl
 | t :: ts,_,_,_,ht,h,hlt=>by
  obtain ⟨v,vs1,d,ds1,a,b,rfl,rfl,rfl,h1,h2⟩:=trodAll_cons h
  obtain ⟨q1,q2⟩:=ht t (by simp)
  exact ⟨a,b,Below.trod hl q1 q2 h1 hb (fun x hx=>hlt x (by simp [hx])),VW hl hb (fun t' h'=>ht t' (by simp [h'])) h2 (fun x hx=>hlt x (by simp [hx])),rfl⟩
theorem Zlq {f:Func} {s:ChangeSpec} {tb:TypeId} {W W':World} {args:Array Value} {ds gs:List (DataW H)} {before:List MemPlace} (hl:laidOutB P=true) (hpar:f.params.toList.all (fun t=>P.readableRec t && decide (t < P.types.size))=true)
 (hres:f.resultTypes = #[tb]) (htb:P.underlying tb=some .bool) (hvars:s.vars=[]) (hfn:s.fn H (ds ++ gs)={ results:=[.lit (.bool true)],args:=ds }) (hW:DataW.Whole enc P f.params.toList s.vars false W args.toList ds gs before)
 (hb:Below W.heap.size W W'):s.post enc P f false true false false W args (.bool true) W':=by
 have hW0:=hW
 obtain ⟨p,q,h1,h2,rfl,_,_⟩:=hW
 rw [hvars] at h2
 obtain ⟨rfl,rfl⟩:=trodVars_none h2
 have hpar':∀ t ∈ f.params.toList,P.readableRec t=true/\t < P.types.size:=fun t ht=>by
  have:=List.all_eq_true.1 hpar t ht
  simp only [Bool.and_eq_true,decide_eq_true_eq] at this
  exact this
 refine ⟨ds,[],p ++ [],[],p,[],hW0,?_,?_,?_,Below.frame hb _,fun h=>by cases h⟩
 . rw [hres]
   simp only [hfn]
   exact trodAll_mk1 (shut_bool htb true)
 . rw [hfn]
   exact VW hl hb hpar' h1 (fun x hx=>hW0.lt x (by simp [hx]))
 . rw [hfn,hvars];exact rfl
end
end Go.Sx
namespace Go.Proofs.Ytiigiflofnjilaa
open Go Go.Sx Go.Azalai Go.ChangeShapes Go.WideShapes Go.RowKit
theorem Try.own:ownKnob Try.prog.godebug=none:=by kernel_rfl
theorem Try.laidOut:laidOutB Try.prog=true:=by kernel_rfl
theorem WP (os:Os) (started:os.Started) (H:Type) (enc:TypeId × Value->H) :
 ReturnsInHanded {} Try.checked os 3 .any (Rows.seasonExamplesSpec.pre6 enc Try.prog Try.f3 Rows.seasonExamplesRow.domain false) (Rows.seasonExamplesSpec.post enc Try.prog Try.f3 false true false false):=by
 refine returnsInHanded_of_change (C:=Try.checked) Try.own started (by kernel_rfl) Try.func3
  (ChangeSpec.witness6 (enc:=enc) (C:=Try.checked) false ⟨#[],#[],[]⟩ 8 (by kernel_rfl) (by kernel_rfl) (by kernel_rfl) (by kernel_rfl)) ?_
 intro W base args ds gs before hval0 hW hcnd _
 have hval:∀ (j:Nat) t v,Try.f3.params[j]? = some t->args[j]? = some v->Value.okWide Try.prog W .any base t v:=hval0
 have hW':=hW
 obtain ⟨p,q,hA0,hV,rfl,hfz,hnd⟩:=hW
 have hA:DataW.TrodAll enc Try.prog W 0 (fun _=>true) true Try.f3.params.toList args.toList ds p:=hA0
 rw [Try.params3] at hA hval
 obtain ⟨ea0,rfl,rfl⟩:=trodAll_nil hA
 obtain ⟨rfl,rfl⟩:=trodVars_none hV
 have hargs:args = #[]:=Array.toList_inj.1 ea0
 subst hargs
 refine ((ZdH).run W Tr [] (by simp only [RL])).mono fun e W' ⟨y,he,hy,hb⟩=>?_
 simp only [R] at hy
 subst hy
 exact ⟨_,he,Zlq (P:=Try.prog) Try.laidOut (by kernel_rfl) (by kernel_rfl) Try.underlying4 rfl rfl hW' hb⟩
theorem seasonExamples_holds:Rows.SeasonExamplesSaid :=
 OpenClaim.holds_of_wide 3 Try.f3 rfl rfl rfl rfl rfl rfl rfl ⟨rfl,rfl,rfl,rfl,rfl⟩ rfl rfl rfl rfl rfl (by kernel_rfl) Try.func3 (by kernel_rfl)
  (of_decide_eq_true (by kernel_rfl)) (by unfold Func.isWrapper;first | (rw [if_pos (by decide +kernel)];kernel_rfl) | (rw [if_neg (by decide +kernel)];exact ⟨rfl,rfl⟩))
  (fun os started H enc _=>WP os started H enc)
end Go.Proofs.Ytiigiflofnjilaa
