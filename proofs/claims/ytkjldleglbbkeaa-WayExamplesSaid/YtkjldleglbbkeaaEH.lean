/- Walks and plain laws that lead to the given statement, part 8 of 8. -/
import Derived.Test.YtkjldleglbbkeaaEG
import Derived.ProofKit
import Derived.OpenShut
import Derived.Test.YtkjldleglbbkeaaRows
open Nat renaming reduceAdd→rA,reduceMul→rM,reduceSub→rS,beq_refl→nbr
namespace Go.Sx
open Go Go.ChangeShapes Go.WideShapes Go.RowKit
def tileB (P:Program) (g:TypeId → Bool):List Field → Nat → Nat → Bool
 | [],o,n=>Nat.beq o n
 | fd :: r,o,n=>Nat.beq fd.offset o && g fd.type && tileB P g r (o + P.cellsOf fd.type) n
def tyB (P:Program):Nat → TypeId → Bool
 | 0,_=>false
 | f + 1,t=>match P.underlying t with
  | some .bool=>true
  | some (.int _)=>true
  | some (.slice e)=>Nat.blt 0 (P.cellsOf e) && tyB P f e
  | some (.struct fs)=>tileB P (tyB P f) fs.toList 0 (P.cellsOf t)
  | some (.array n e)=>Nat.beq (P.cellsOf t) (n * P.cellsOf e) && tyB P f e
  | _=>false
def ShpF (P:Program) (g:TypeId → List SV → Prop):List Field → List SV → Prop
 | [],l=>l = []
 | fd :: r,l=>∃ a b,l = a ++ b ∧ a.length = P.cellsOf fd.type ∧ g fd.type a ∧ ShpF P g r b
def ShpN (P:Program) (g:List SV → Prop) (m:Nat):Nat → List SV → Prop
 | 0,l=>l = []
 | n + 1,l=>∃ a b,l = a ++ b ∧ a.length = m ∧ g a ∧ ShpN P g m n b
def Shp (P:Program):Nat → TypeId → List SV → Prop
 | 0,_,_=>False
 | f + 1,t,l=>match P.underlying t with
  | some .bool=>∃ b,l = [.v (.bool b)]
  | some (.int k)=>∃ n,l = [.v (.int k n)] ∧ (Lit.int k n).wf = true
  | some (.slice e)=>∃ xs,l = [.sl false (P.cellsOf e) xs] ∧ xs.length ≤ 9223372036854775807 ∧ ∀ r ∈ xs,r.length = P.cellsOf e ∧ Shp P f e r
  | some (.struct fs)=>ShpF P (Shp P f) fs.toList l
  | some (.array n e)=>ShpN P (Shp P f e) (P.cellsOf e) n l
  | _=>False
section
variable {H:Type} {enc:TypeId × Value → H} {P:Program} {w:World} {base:Nat} {spare:Nat → Bool} {held:Bool}
def F0:Nat → Prop:=fun _=>False
def argV (P:Program) (t:TypeId) (l:List SV):SV :=
 match P.underlying t with
 | some (.struct _)=>.agg l
 | some (.array _ _)=>.agg l
 | _=>l.headD .any
theorem trodAll_below (hl:laidOutB P = true) {W W':World} (hb:Below W.heap.size W W'):∀ {ts:List TypeId} {vs:List Value} {ds:List (DataW H)} {ps:List MemPlace},(∀ t ∈ ts,P.readableRec t = true ∧ t < P.types.size) →
 DataW.TrodAll enc P W 0 (fun _=>true) true ts vs ds ps → (∀ x ∈ ps,x.block < W.heap.size) → DataW.TrodAll enc P W' 0 (fun b=>decide (b < W.heap.size)) true ts vs ds ps
 | [],_,_,_,_,h,_=>by
  obtain ⟨rfl,rfl,rfl⟩:=trodAll_nil h
  exact rfl
 | t :: ts,_,_,_,ht,h,hlt=>by
  obtain ⟨v,vs1,d,ds1,a,b,rfl,rfl,rfl,h1,h2⟩:=trodAll_cons h
  obtain ⟨q1,q2⟩:=ht t (by simp)
  exact ⟨a,b,Below.trod hl q1 q2 h1 hb (fun x hx=>hlt x (by simp [hx])),trodAll_below hl hb (fun t' h'=>ht t' (by simp [h'])) h2 (fun x hx=>hlt x (by simp [hx])),rfl⟩
theorem post_law {f:Func} {s:ChangeSpec} {tb:TypeId} {W W':World} {args:Array Value} {ds gs:List (DataW H)} {before:List MemPlace} (hl:laidOutB P = true) (hpar:f.params.toList.all (fun t=>P.readableRec t && decide (t < P.types.size)) = true)
 (hres:f.resultTypes = #[tb]) (htb:P.underlying tb = some .bool) (hvars:s.vars = []) (hfn:s.fn H (ds ++ gs) = { results:=[.lit (.bool true)],args:=ds }) (hW:DataW.Whole enc P f.params.toList s.vars false W args.toList ds gs before)
 (hb:Below W.heap.size W W'):s.post enc P f false true false false W args (.bool true) W':=by
 have hW0:=hW
 obtain ⟨p,q,h1,h2,rfl,_,_⟩:=hW
 rw [hvars] at h2
 obtain ⟨rfl,rfl⟩:=trodVars_none h2
 have hpar':∀ t ∈ f.params.toList,P.readableRec t = true ∧ t < P.types.size:=fun t ht=>by
  have:=List.all_eq_true.1 hpar t ht
  simp only [Bool.and_eq_true,decide_eq_true_eq] at this
  exact this
 refine ⟨ds,[],p ++ [],[],p,[],hW0,?_,?_,?_,Below.frame hb _,fun h=>by cases h⟩
 · rw [hres]
   simp only [hfn]
   exact trodAll_mk1 (shut_bool htb true)
 · rw [hfn]
   exact trodAll_below hl hb hpar' h1 (fun x hx=>hW0.lt x (by simp [hx]))
 · rw [hfn,hvars];exact rfl
end
end Go.Sx
set_option maxRecDepth 100000
set_option maxHeartbeats 4000000
namespace Go.Proofs.Ytkjldleglbbkeaa
open Go Go.Sx Go.Azalai Go.ChangeShapes Go.WideShapes Go.RowKit
theorem Try.own:ownKnob Try.prog.godebug = none:=by kernel_rfl
theorem Try.laidOut:laidOutB Try.prog = true:=by kernel_rfl
theorem wayExamples_lifted (os:Os) (started:os.Started) (H:Type) (enc:TypeId × Value → H) :
 ReturnsInHanded {} Try.checked os 14 .any (Rows.wayExamplesSpec.pre6 enc Try.prog Try.f14 Rows.wayExamplesRow.domain false) (Rows.wayExamplesSpec.post enc Try.prog Try.f14 false true false false):=by
 refine returnsInHanded_of_change (C:=Try.checked) Try.own started (by kernel_rfl) Try.func14
  (ChangeSpec.witness6 (enc:=enc) (C:=Try.checked) false ⟨#[],#[],[]⟩ 8 (by kernel_rfl) (by kernel_rfl) (by kernel_rfl) (by kernel_rfl)) ?_
 intro W base args ds gs before hval0 hW hcnd _
 have hval:∀ (j:Nat) t v,Try.f14.params[j]? = some t → args[j]? = some v → Value.okWide Try.prog W .any base t v:=hval0
 have hW':=hW
 obtain ⟨p,q,hA0,hV,rfl,hfz,hnd⟩:=hW
 have hA:DataW.TrodAll enc Try.prog W 0 (fun _=>true) true Try.f14.params.toList args.toList ds p:=hA0
 rw [Try.params14] at hA hval
 obtain ⟨ea0,rfl,rfl⟩:=trodAll_nil hA
 obtain ⟨rfl,rfl⟩:=trodVars_none hV
 have hargs:args = #[]:=Array.toList_inj.1 ea0
 subst hargs
 refine ((examples_ok).run W Tr [] (by simp only [RL])).mono fun e W' ⟨y,he,hy,hb⟩=>?_
 simp only [R] at hy
 subst hy
 exact ⟨_,he,post_law (P:=Try.prog) Try.laidOut (by kernel_rfl) (by kernel_rfl) Try.underlying4 rfl rfl hW' hb⟩
theorem wayExamples_holds:Rows.WayExamplesSaid :=
 OpenClaim.holds_of_wide 14 Try.f14 rfl rfl rfl rfl rfl rfl rfl ⟨rfl,rfl,rfl,rfl,rfl⟩ rfl rfl rfl rfl rfl (by kernel_rfl) Try.func14 (by kernel_rfl)
  (of_decide_eq_true (by kernel_rfl)) (by unfold Func.isWrapper;first | (rw [if_pos (by decide +kernel)];kernel_rfl) | (rw [if_neg (by decide +kernel)];exact ⟨rfl,rfl⟩))
  (fun os started H enc _=>wayExamples_lifted os started H enc)
end Go.Proofs.Ytkjldleglbbkeaa
