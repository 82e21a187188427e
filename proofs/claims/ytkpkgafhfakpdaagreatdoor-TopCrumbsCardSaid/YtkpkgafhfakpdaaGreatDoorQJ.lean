/- Walks and plain laws that lead to the given statement, part 10 of 10. -/
import Derived.Test.YtkpkgafhfakpdaaGreatDoorQI
import Derived.ProofKit
import Derived.OpenShut
import Derived.Test.YtkpkgafhfakpdaaGreatDoorRows
import Derived.Test.YtkpkgafhfakpdaaGreatDoorTie
import Derived.Test.YtkpkgafhfakpdaaGreatDoorCards
import Derived.SevenTiedAt
import Derived.LaidMore
set_option maxRecDepth 100000
set_option maxHeartbeats 4000000
set_option linter.all false
namespace Go.Sx
open Go Go.ChangeShapes Go.WideShapes Go.RowKit
def Zcz (P:Program) (g:TypeId->Bool):List Field->Nat->Nat->Bool
 | [],o,n=>Nat.beq o n
 | fd :: r,o,n=>Nat.beq fd.offset o && g fd.type && Zcz P g r (o+P.cellsOf fd.type) n
def tyB (P:Program):Nat->TypeId->Bool
 | 0,_=>false
 | f+1,t=>match P.underlying t with
  | some .bool=>true
  | some (.int _)=>true
  | some (.slice e)=>Nat.blt 0 (P.cellsOf e) && tyB P f e
  | some (.struct fs)=>Zcz P (tyB P f) fs.toList 0 (P.cellsOf t)
  | some (.array n e)=>Nat.beq (P.cellsOf t) (n * P.cellsOf e) && tyB P f e
  | _=>false
def Zw2 (P:Program) (g:TypeId->List SV->Prop):List Field->List SV->Prop
 | [],l=>l=[]
 | fd :: r,l=>∃ a b,l=a ++ b/\a.length=P.cellsOf fd.type/\g fd.type a/\Zw2 P g r b
def ShpN (P:Program) (g:List SV->Prop) (m:Nat):Nat->List SV->Prop
 | 0,l=>l=[]
 | n+1,l=>∃ a b,l=a ++ b/\a.length=m/\g a/\ShpN P g m n b
def Shp (P:Program):Nat->TypeId->List SV->Prop
 | 0,_,_=>False
 | f+1,t,l=>match P.underlying t with
  | some .bool=>∃ b,l=[.v (.bool b)]
  | some (.int k)=>∃ n,l=[.v (.int k n)]/\(Lit.int k n).wf=true
  | some (.slice e)=>∃ xs,l=[.sl false (P.cellsOf e) xs]/\xs.length<=9223372036854775807/\∀ r ∈ xs,r.length=P.cellsOf e/\Shp P f e r
  | some (.struct fs)=>Zw2 P (Shp P f) fs.toList l
  | some (.array n e)=>ShpN P (Shp P f e) (P.cellsOf e) n l
  | _=>False
section
variable {H:Type} {enc:TypeId × Value->H} {P:Program} {w:World} {base:Nat} {spare:Nat->Bool} {held:Bool}
def F0:Nat->Prop:=λ_=>False
theorem ZqT {α β : Type} {p:α->β->Prop} {q:β->Prop}:∀ (l:List α),(∀ x ∈ l,∃ y,p x y/\q y)->∃ m:List β,m.length=l.length/\(∀ (i:Nat) (x:α) (y:β),l[i]? = some x->m[i]? = some y->p x y)/\∀ y ∈ m,q y
 | [],_=>⟨[],rfl,λi x y h=>by simp at h,λy h=>by simp at h⟩
 | x :: l,h=>by
  obtain ⟨y,h1,h2⟩:=h x (by simp);obtain ⟨m,k1,k2,k3⟩:=ZqT l (λz hz=>h z (by simp [hz]));refine ⟨y :: m,by simp [k1],λi a b ha hb=>?_,λz hz=>?_⟩
  . cases i with
    | zero=>simp at ha hb;subst ha;subst hb;exact h1
    | succ i=>exact k2 i a b (by simpa using ha) (by simpa using hb)
  . rcases List.mem_cons.1 hz with rfl | hz
    . exact h2
    . exact k3 z hz
theorem ZeO {b m:Nat}:∀ (xs:List (List SV)) (off:Nat),(∀ (i:Nat) (r:List SV),xs[i]? = some r->r.length=m/\∃ cs,RL w E0 F0 Tr r cs/\WH w Tr b (off+i * m) cs)->RR w E0 F0 Tr b m xs off
 | [],off,_=>by simp [RR]
 | x :: xs,off,h=>by
  simp only [RR];obtain ⟨h1,cs,h2,h3⟩:=h 0 x (by simp);refine ⟨h1,⟨cs,h2,by simpa using h3⟩,ZeO xs (off+m) (λi r hr=>?_)⟩;obtain ⟨k1,cs,k2,k3⟩:=h (i+1) r (by simpa using hr);exact ⟨k1,cs,k2,by rw [show off+m+i * m=off+(i+1) * m from by rw [Nat.add_mul];omega];exact k3⟩
theorem Zc9 {a:Addr} {c:Value} (h:w.cell? a=some c):a.spot=none:=by
 unfold World.cell? at h;split at h
 . split at h
   . cases h
   . rename_i h1;simpa using h1
 . cases h
theorem Zwt {a:Addr} {i:Nat} {c:Value} (h:w.cell? (a.add i)=some c):w.cell? ⟨a.block,a.off+i,none⟩=some c:=by
 have hs:=Zc9 h;unfold Addr.add at h hs;split at h
 . rename_i h0;subst h0;rw [if_pos rfl] at hs;rw [Nat.add_zero,<- hs];exact h
 . exact h
theorem Zd1 {a:Addr} {i j:Nat} {c:Value} (h:w.cell? ((a.add i).add j)=some c):w.cell? ⟨a.block,a.off+i+j,none⟩=some c:=by
 have:=Zwt h;have e:(a.add i).block=a.block/\(a.add i).off=a.off+i:=by unfold Addr.add;split<;>simp_all
 rwa [e.1,e.2] at this
theorem Up {g:TypeId->Bool} {q:TypeId->List SV->Prop} {n:Nat} (hg:∀ t cs x,g t=true->DataW.trod enc P w base spare held n t cs=some x->∃ l:List SV,RL w E0 F0 Tr l cs/\q t l) (hlen:∀ t l,g t=true->q t l->True) (cs:List Value) :
 ∀ (fs:List Field) (o m:Nat),Zcz P g fs o m=true->cs.length=m->(∀ fd ∈ fs,∃ x,DataW.trod enc P w base spare held n fd.type ((cs.drop fd.offset).take (P.cellsOf fd.type))=some x) ->
  ∃ l:List SV,RL w E0 F0 Tr l (cs.drop o)/\Zw2 P q fs l
 | [],o,m,ht,hl,_=>by
  simp only [Zcz] at ht;have:=Nat.eq_of_beq_eq_true ht;exact ⟨[],by rw [List.drop_eq_nil_of_le (by omega)];simp [RL],rfl⟩
 | fd :: fs,o,m,ht,hl,h=>by
  simp only [Zcz,Bool.and_eq_true] at ht;obtain ⟨⟨h1,h2⟩,h3⟩:=ht;have ho:=Nat.eq_of_beq_eq_true h1;obtain ⟨x,hx⟩:=h fd (by simp);obtain ⟨a,k1,k2⟩:=hg _ _ _ h2 hx;obtain ⟨b,k3,k4⟩:=Up hg hlen cs fs (o+P.cellsOf fd.type) m h3 hl (λfd' hf=>h fd' (by simp [hf]));rw [ho] at k1;have hle:o+P.cellsOf fd.type<=cs.length:=by
   have:∀ (fs:List Field) (o m:Nat),Zcz P g fs o m=true->o<=m:=by
    intro fs
    induction fs with
    | nil=>intro o m h;simp only [Zcz] at h;exact Nat.le_of_eq (Nat.eq_of_beq_eq_true h)
    | cons y fs ih=>intro o m h;simp only [Zcz,Bool.and_eq_true] at h;have:=ih _ _ h.2;omega
   rw [hl];exact this _ _ _ h3
  refine ⟨a ++ b,?_,a,b,rfl,?_,k2,k4⟩
  . have:=Z0 k1 k3
    rwa [<- List.drop_drop,List.take_append_drop] at this
  . have:=ZE k1;rw [<- this];simp;omega
theorem ZaS {q:List SV->Prop} {e:TypeId} {n:Nat} (hg:∀ cs x,DataW.trod enc P w base spare held n e cs=some x->∃ l:List SV,RL w E0 F0 Tr l cs/\q l) (cs:List Value) :
 ∀ (k i:Nat),cs.length=(i+k) * P.cellsOf e->(∀ j,i<=j->j < i+k->∃ x,DataW.trod enc P w base spare held n e ((cs.drop (j * P.cellsOf e)).take (P.cellsOf e))=some x) ->
  ∃ l:List SV,RL w E0 F0 Tr l (cs.drop (i * P.cellsOf e))/\ShpN P q (P.cellsOf e) k l
 | 0,i,hl,_=>⟨[],by rw [List.drop_eq_nil_of_le (by rw [hl,Nat.add_zero];exact Nat.le_refl _)];simp [RL],rfl⟩
 | k+1,i,hl,h=>by
  obtain ⟨x,hx⟩:=h i (Nat.le_refl _) (by omega);obtain ⟨a,k1,k2⟩:=hg _ _ hx;obtain ⟨b,k3,k4⟩:=ZaS hg cs k (i+1) (by rw [hl];congr 1;omega) (λj h1 h2=>h j (by omega) (by omega));have hle:i * P.cellsOf e+P.cellsOf e<=cs.length:=by
   rw [hl,show i+(k+1)=(i+1)+k from by omega,Nat.add_mul,Nat.add_mul];omega
  refine ⟨a ++ b,?_,a,b,rfl,?_,k2,k4⟩
  . have:=Z0 k1 k3
    rwa [show (i+1) * P.cellsOf e=i * P.cellsOf e+P.cellsOf e from by rw [Nat.add_mul];omega,<- List.drop_drop,List.take_append_drop] at this
  . have:=ZE k1;rw [<- this];simp;omega
theorem WU:∀ (f:Nat) (t:TypeId) (fuel:Nat) (cs:List Value) (x:DataW H × List MemPlace),tyB P f t=true->DataW.trod enc P w base spare held fuel t cs=some x ->
 ∃ l:List SV,RL w E0 F0 Tr l cs/\Shp P f t l
 | 0,_,_,_,_,h,_=>by simp [tyB] at h
 | f+1,t,fuel,cs,x,hty,h=>by
  simp only [tyB] at hty;simp only [Shp];split at hty
  . rename_i hu;obtain ⟨b,rfl,_⟩:=DataW.trod_bool hu h;exact ⟨[.v (.bool b)],by simp [RL,R],b,rfl⟩
  . rename_i k hu;obtain ⟨n,rfl,_,hw⟩:=DataW.trod_int hu h;exact ⟨[.v (.int k n)],by simp [RL,R],n,rfl,hw⟩
  . rename_i e hu;simp only [Bool.and_eq_true,Nat.blt_eq] at hty;rcases DataW.trod_slice hu h with ⟨rfl,_⟩ | ⟨a,len,cap,elems,rest,n,_,rfl,_,_,h3,h4,h5,h6,_⟩
    . refine ⟨[.sl false (P.cellsOf e) []],?_,[],rfl,by simp,λr h=>by simp at h⟩;simp only [RL,R];exact ⟨_,[],rfl,⟨none,0,0,rfl,rfl,⟨Nat.le_refl _,λh=>by cases h⟩,by simp,.inl trivial⟩,rfl⟩
    ·
     have each:∀ i ∈ List.range len,∃ r:List SV,(∃ cs,RL w E0 F0 Tr r cs/\∀ j c,cs[j]? = some c->w.cell? ⟨a.block,a.off+i * P.cellsOf e+j,none⟩=some c)/\(r.length=P.cellsOf e/\Shp P f e r):=by
      intro i hi;have hi:i < len:=by simpa using hi
      have hb:=h6 i hi;rw [List.getElem?_eq_getElem (by omega)] at hb;obtain ⟨cs',hc,ht⟩:=Option.bind_eq_some_iff.1 hb;obtain ⟨r,k1,k2⟩:=WU f e n cs' _ hty.2 ht;obtain ⟨q1,q2,q3⟩:=World.cells?_some hc;refine ⟨r,⟨cs',k1,λj c hj=>?_⟩,?_,k2⟩
      . have hj':j < cs'.length:=(List.getElem?_eq_some_iff.1 hj).1;exact Zd1 (by rw [q3 j (by omega)];exact hj)
      . have:=ZE k1;rw [<- this];exact q2
     obtain ⟨m,m1,m2,m3⟩:=ZqT (List.range len) each;have m1':m.length=len:=by simpa using m1
     have hmax:m.length<=9223372036854775807:=by unfold maxLen at h4;omega
     refine ⟨[.sl false (P.cellsOf e) m],?_,m,rfl,hmax,m3⟩;simp only [RL,R];refine ⟨_,[],rfl,⟨some a,len,cap,rfl,m1'.symm,⟨h3,λh=>by cases h⟩,hmax,?_⟩,rfl⟩;by_cases hm:m=[]
     . exact .inl hm
     . right;have hlen:0 < len:=by
        rcases Nat.eq_zero_or_pos len with h0 | h0
        . subst h0;exact absurd (List.eq_nil_of_length_eq_zero m1') hm
        . exact h0
       have hspot:a.spot=none:=by
        have hb:=h6 0 hlen;rw [List.getElem?_eq_getElem (by omega)] at hb;obtain ⟨cs',hc,ht⟩:=Option.bind_eq_some_iff.1 hb;obtain ⟨q1,q2,q3⟩:=World.cells?_some hc;have:=q3 0 hty.1;rw [List.getElem?_eq_getElem (by omega)] at this;simpa [Addr.add] using Zc9 this
       refine ⟨a.block,a.off,by cases a;simp_all,ZeO m a.off (λi r hr=>?_)⟩;have hi:i < len:=by have:=(List.getElem?_eq_some_iff.1 hr).1;omega
       obtain ⟨cs',k1,k2⟩:=m2 i i r (by simp [hi]) hr;exact ⟨(m3 r (List.mem_of_getElem? hr)).1,cs',k1,λ_=>trivial,k2⟩
  . rename_i fs hu;obtain ⟨xs,n,_,_,h1,h2,h3⟩:=DataW.trod_struct hu h
    have:=Up (g:=tyB P f) (q:=Shp P f) (λt cs x a b=>WU f t n cs x a b) (λ_ _ _ _=>trivial) cs fs.toList 0 (P.cellsOf t) hty h1 (λfd hfd=>by
     obtain ⟨i,hi,rfl⟩:=List.getElem_of_mem hfd;have hi':i < fs.size:=by simpa using hi
     have:=h3 i fs[i] (by simp [hi']);rw [List.getElem?_eq_getElem (by omega)] at this
     exact ⟨_,by simpa using this⟩)
    simpa using this
  . rename_i n e hu;simp only [Bool.and_eq_true] at hty;obtain ⟨xs,m,_,_,h1,h2,h3⟩:=DataW.trod_array hu h;have hsz:=Nat.eq_of_beq_eq_true hty.1
    have:=ZaS (q:=Shp P f e) (λcs x b=>WU f e m cs x hty.2 b) cs n 0 (by rw [h1,hsz];simp) (λj _ hj=>by
     have:=h3 j (by omega);rw [List.getElem?_eq_getElem (by omega)] at this
     exact ⟨_,this⟩)
    simpa using this
  . cases hty
def argV (P:Program) (t:TypeId) (l:List SV):SV :=
 match P.underlying t with
 | some (.struct _)=>.agg l
 | some (.array _ _)=>.agg l
 | _=>l.headD .any
theorem ZeE {f:Nat} {t:TypeId} {r:Reach} {b0:Nat} {v:Value} {d:DataW H} {ps:List MemPlace} (hty:tyB P f t=true) (hv:Value.okWide P w r b0 t v) (h:DataW.Trod enc P w base spare held t v d ps) :
 ∃ l:List SV,R w E0 F0 Tr (argV P t l) v/\Shp P f t l:=by
 obtain ⟨fuel,h⟩:=h;obtain ⟨l,h1,h2⟩:=WU f t fuel _ _ hty h;refine ⟨l,?_,h2⟩;have one:v.oneCell'=true->R w E0 F0 Tr (l.headD .any) v:=λho=>by
  rw [ZaT ho] at h1;cases l with
  | nil=>simp [RL] at h1
  | cons s l=>simp only [RL] at h1;obtain ⟨y,q,e,h1,_⟩:=h1;simp at e;rw [e.1];exact h1
 unfold Value.okWide at hv;unfold argV;split at hv
 . rename_i hu;obtain ⟨cs,rfl,_,_⟩:=hv;rw [hu];simp only [R];exact ⟨cs,rfl,h1⟩
 . rename_i hu;obtain ⟨cs,rfl,_,_⟩:=hv;rw [hu];simp only [R];exact ⟨cs,rfl,h1⟩
 . rename_i k1 k2;have hone:v.oneCell'=true:=by
    cases f with
    | zero=>simp [tyB] at hty
    | succ f =>
     simp only [tyB] at hty;cases v<;>first | rfl | skip
     all_goals
      exfalso;split at hty<;>rename_i hu<;>first
       | (exact absurd hu (by first | exact k1 _ | exact k2 _ _))
       | (simp [Cell.okWide,Cell.ok,hu] at hv;done)
       | (cases hty;done)
   split
   . rename_i hu;exact absurd hu (k1 _)
   . rename_i hu;exact absurd hu (k2 _ _)
   . exact one hone
theorem VU (hl:laidOutB P=true) {W W':World} (hb:Below W.heap.size W W'):∀ {ts:List TypeId} {vs:List Value} {ds:List (DataW H)} {ps:List MemPlace},(∀ t ∈ ts,P.readableRec t=true/\t < P.types.size) ->
 DataW.TrodAll enc P W 0 (λ_=>true) true ts vs ds ps->(∀ x ∈ ps,x.block < W.heap.size)->DataW.TrodAll enc P W' 0 (λb=>decide (b < W.heap.size)) true ts vs ds ps
 | [],_,_,_,_,h,_=>by
  obtain ⟨rfl,rfl,rfl⟩:=trodAll_nil h;exact rfl
 | t :: ts,_,_,_,ht,h,hlt=>by
  obtain ⟨v,vs1,d,ds1,a,b,rfl,rfl,rfl,h1,h2⟩:=trodAll_cons h;obtain ⟨q1,q2⟩:=ht t (by simp);exact ⟨a,b,Below.trod hl q1 q2 h1 hb (λx hx=>hlt x (by simp [hx])),VU hl hb (λt' h'=>ht t' (by simp [h'])) h2 (λx hx=>hlt x (by simp [hx])),rfl⟩
theorem Zml {f:Func} {s:ChangeSpec} {tb:TypeId} {W W':World} {args:Array Value} {ds gs:List (DataW H)} {before:List MemPlace} (hl:laidOutB P=true) (hpar:f.params.toList.all (λt=>P.readableRec t && decide (t < P.types.size))=true)
 (hres:f.resultTypes = #[tb]) (htb:P.underlying tb=some .bool) (hvars:s.vars=[]) (hfn:s.fn H (ds ++ gs)={ results:=[.lit (.bool true)],args:=ds }) (hW:DataW.Whole enc P f.params.toList s.vars false W args.toList ds gs before)
 (hb:Below W.heap.size W W'):s.post enc P f false true false false W args (.bool true) W':=by
 have hW0:=hW;obtain ⟨p,q,h1,h2,rfl,_,_⟩:=hW;rw [hvars] at h2;obtain ⟨rfl,rfl⟩:=trodVars_none h2;have hpar':∀ t ∈ f.params.toList,P.readableRec t=true/\t < P.types.size:=λt ht=>by
  have:=List.all_eq_true.1 hpar t ht;simp only [Bool.and_eq_true,decide_eq_true_eq] at this;exact this
 refine ⟨ds,[],p ++ [],[],p,[],hW0,?_,?_,?_,Below.frame hb _,λh=>by cases h⟩
 . rw [hres];simp only [hfn];exact trodAll_mk1 (shut_bool htb true)
 . rw [hfn];exact VU hl hb hpar' h1 (λx hx=>hW0.lt x (by simp [hx]))
 . rw [hfn,hvars];exact rfl
end
end Go.Sx
namespace Go.Proofs.YtkpkgafhfakpdaaGreatDoor
open Go Go.Sx Go.Azalai Go.ChangeShapes Go.WideShapes Go.RowKit
theorem ZeU {α : Type} {rep:α->List SV} {q:List SV->Prop} (hq:∀ r,q r->∃ a,r=rep a):∀ {xs:List (List SV)},(∀ r ∈ xs,q r)->∃ l:List α,xs=l.map rep
 | [],_=>⟨[],rfl⟩
 | x :: xs,h=>by
  obtain ⟨a,rfl⟩:=hq x (h x (by simp));obtain ⟨l,rfl⟩:=ZeU (xs:=xs) hq (λr hr=>h r (by simp [hr]));exact ⟨a :: l,rfl⟩
theorem shp5 {f:Nat} {l:List SV} (h:Shp Tryz.prog (f+1) 5 l):∃ n:Int,l=[.v (.int .u8 n)]/\(Lit.int .u8 n).wf=true:=by
 rw [Shp,Tryz.underlying5] at h;exact h
theorem ZwM {f:Nat} {l:List SV} (h:Shp Tryz.prog (f+1) 3 l):∃ n:Int,l=[.v (.int .i64 n)]/\(Lit.int .i64 n).wf=true:=by
 rw [Shp,Tryz.underlying3] at h;exact h
theorem Zkd {f:Nat} {l:List SV} (h:Shp Tryz.prog (f+2) 23 l):∃ w:Span,l=Zh w:=by
 rw [Shp,Tryz.underlying23] at h;simp only [Zw2] at h;obtain ⟨_,_,rfl,_,h0,_,_,rfl,_,h1,rfl⟩:=h;obtain ⟨a0,rfl,_⟩:=ZwM (f:=f+0) h0;obtain ⟨a1,rfl,_⟩:=ZwM (f:=f+0) h1;exact ⟨⟨a0,a1⟩,rfl⟩
theorem shp49 {f:Nat} {l:List SV} (h:Shp Tryz.prog (f+3) 49 l):∃ w:Pack,l=Zo w:=by
 rw [Shp,Tryz.underlying49] at h;simp only [Zw2] at h;obtain ⟨_,_,rfl,_,h0,_,_,rfl,_,h1,_,_,rfl,_,h2,_,_,rfl,_,h3,_,_,rfl,_,h4,_,_,rfl,_,h5,_,_,rfl,_,h6,rfl⟩:=h;obtain ⟨a0,rfl,_⟩:=shp5 (f:=f+1) h0;obtain ⟨a1,rfl⟩:=Zkd (f:=f+0) h1;obtain ⟨a2,rfl⟩:=Zkd (f:=f+0) h2;obtain ⟨a3,rfl⟩:=Zkd (f:=f+0) h3;obtain ⟨a4,rfl⟩:=Zkd (f:=f+0) h4;obtain ⟨a5,rfl,_⟩:=ZwM (f:=f+1) h5;obtain ⟨a6,rfl,_⟩:=ZwM (f:=f+1) h6;exact ⟨⟨a0,a1,a2,a3,a4,a5,a6⟩,rfl⟩
theorem ZuA:Tryz.prog.cellsOf 23=2:=by kernel_rfl
theorem shp50 {f:Nat} {l:List SV} (h:Shp Tryz.prog (f+3) 50 l):∃ ds:List Span,l=[.sl false 2 (ds.map Zh)]/\ds.length<=9223372036854775807:=by
 rw [Shp,Tryz.underlying50] at h;obtain ⟨xs,rfl,hl,hx⟩:=h;obtain ⟨ws,rfl⟩:=ZeU (rep:=Zh) (λr h=>Zkd (f:=f) h.2) hx;rw [ZuA];exact ⟨ws,rfl,by simpa using hl⟩
theorem shp52 {f:Nat} {l:List SV} (h:Shp Tryz.prog (f+4) 52 l):∃ w:Fare,l=(Zu false) w:=by
 rw [Shp,Tryz.underlying52] at h;simp only [Zw2] at h;obtain ⟨_,_,rfl,_,h0,_,_,rfl,_,h1,_,_,rfl,_,h2,rfl⟩:=h;obtain ⟨a0,rfl,_⟩:=ZwM (f:=f+2) h0;obtain ⟨a1,rfl,_⟩:=ZwM (f:=f+2) h1;obtain ⟨a2,rfl,_⟩:=shp50 (f:=f+0) h2;exact ⟨⟨a0,a1,a2⟩,rfl⟩
theorem Tryz.own:ownKnob Tryz.prog.godebug=none:=by kernel_rfl
theorem Tryz.laidOut:laidOutB Tryz.prog=true:=by kernel_rfl
theorem tyB49:tyB Tryz.prog 20 49=true:=by kernel_rfl
theorem tyB52:tyB Tryz.prog 20 52=true:=by kernel_rfl
theorem gNone:Tryz.prog.globalNamed "azalai/load.none" = some 0:=by kernel_rfl
theorem tNone:(Tryz.prog.globals[0]?).map (·.type)=some 23:=by kernel_rfl
theorem ZwC {W:World} (h:laidMetH Tryz.prog Rows.topCrumbsRow.laid W):GS W Tr:=by
 rw [MakeChecks.laidMetH_plain _ _ _ (by kernel_rfl)] at h;obtain ⟨ps,⟨g0,t0,cs0,f0,p0,q0,hg0,ht0,hv0,hd0,_⟩,_,_⟩:=h;obtain rfl:=Option.some.inj (gNone.symm.trans hg0);obtain rfl:=Option.some.inj (tNone.symm.trans ht0);obtain ⟨y0,y1,n,hx,hl,h0,h1⟩:=trod_struct2 Tryz.underlying23 hd0;obtain ⟨k0,e0,e0',_⟩:=DataW.trod_int Tryz.underlying3 h0;obtain ⟨k1,e1,e1',_⟩:=DataW.trod_int Tryz.underlying3 h1;have c3:Tryz.prog.cellsOf 3=1:=by kernel_rfl
 have c23:Tryz.prog.cellsOf 23=2:=by kernel_rfl
 subst e0';subst e1';simp only [Prod.mk.injEq] at hx;have hx1:=hx.1;simp only [Rows.laid_azalai_load_none,DataW.agg.injEq,List.cons.injEq,DataW.lit.injEq,Lit.int.injEq,true_and,and_true] at hx1;obtain ⟨rfl,rfl⟩:=hx1;have e:cs0 = #[.int .i64 0,.int .i64 0]:=by
  obtain ⟨l⟩:=cs0;simp only at hl e0 e1;rw [c23] at hl;rw [c3] at e0 e1
  match l,hl with
  | [a,b],_ =>
   simp at e0 e1;rw [e0,e1]
 subst e;have hc:=λoff=>World.var?_cell hg0 hv0 off;intro g l hg
 match g,hg with
 | 0,hg =>
  have hg:some [SV.v (.int .i64 0),SV.v (.int .i64 0)]=some l:=hg;cases hg
  refine ⟨?_,trivial,(.int .i64 0 :: [.int .i64 0]),λw' E n ok'=>?_,λ_=>trivial,λj c hj=>?_⟩
  . have:=hc 0;unfold World.cell? at this;by_cases hs:0 < W.heap.size
    . exact hs
    . rw [Array.getElem?_eq_none (by omega)] at this;simp at this
  . simp [RL,R]
  . have:=hc j;rw [Nat.zero_add,this,<- hj]
    match j with
    | 0=>rfl
    | 1=>rfl
    | j+2=>rfl
theorem UA (os:Os) (started:os.Started) (H:Type) (enc:TypeId × Value->H) :
 ReturnsInHanded {} Tryz.checked os 4 .any (λw args=>(Rows.topCrumbsSpec.pre enc Tryz.prog Tryz.f4 [] false w args/\laidMetH Tryz.prog Rows.topCrumbsRow.laid w)/\sizedMet enc Tryz.prog Tryz.f4 (OpenSpec.ofChange Rows.topCrumbsSpec) false w args) (Rows.topCrumbsSpec.post enc Tryz.prog Tryz.f4 false true false false):=by
 refine returnsInHanded_of_change_and (C:=Tryz.checked) (X:=λw _=>laidMetH Tryz.prog Rows.topCrumbsRow.laid w) (λ_ _ _ hh h=>h.of_heap hh) Tryz.own started (by kernel_rfl) Tryz.func4
  (ChangeSpec.witness_shaped (enc:=enc) (C:=Tryz.checked) (os:=os) (X:=λw _=>laidMetH Tryz.prog Rows.topCrumbsRow.laid w) false (World.doorLaid Tryz.prog 400 os) #[.agg #[.int .u8 0,.int .i64 0,.int .i64 0,.int .i64 0,.int .i64 0,.int .i64 0,.int .i64 0,.int .i64 0,.int .i64 0,.int .i64 0,.int .i64 0],.agg #[.int .i64 0,.int .i64 0,.slice none 0 0]] 8 rfl (World.shaped_of_RefB (by kernel_rfl) (by kernel_rfl)) (by kernel_rfl) (by kernel_rfl) (by kernel_rfl)
   (laidMetH_of_parts3 (fuel:=8) (laidMet_of_run' 8 (by kernel_rfl) (by kernel_rfl)) (by kernel_rfl) (by kernel_rfl))) ?_
 intro W base args ds gs before hval0 hW hcnd _ hL _;have hval:∀ (j:Nat) t v,Tryz.f4.params[j]? = some t->args[j]? = some v->Value.okWide Tryz.prog W .any base t v:=hval0;have hW':=hW;obtain ⟨p,q,hA0,hV,rfl,hfz,hnd⟩:=hW;have hA:DataW.TrodAll enc Tryz.prog W 0 (λ_=>true) true Tryz.f4.params.toList args.toList ds p:=hA0;rw [Tryz.params4] at hA hval;obtain ⟨v0,vs0,d0,ds0,p0,q0,ea0,rfl,rfl,h0,hA⟩:=trodAll_cons hA
 obtain ⟨v1,vs1,d1,ds1,p1,q1,rfl,rfl,rfl,h1,hA⟩:=trodAll_cons hA;obtain ⟨rfl,rfl,rfl⟩:=trodAll_nil hA;obtain ⟨rfl,rfl⟩:=trodVars_none hV;have hargs:args = #[v0,v1]:=Array.toList_inj.1 ea0;subst hargs;obtain ⟨l0,r0,s0⟩:=ZeE tyB49 (hval 0 49 v0 rfl rfl) h0;obtain ⟨l1,r1,s1⟩:=ZeE tyB52 (hval 1 52 v1 rfl rfl) h1;obtain ⟨x0,rfl⟩:=shp49 s0;obtain ⟨x1,rfl⟩:=shp52 s1;simp only [argV,Tryz.underlying49,Tryz.underlying52,List.headD_cons] at r0 r1
 refine ((Zfa x0 x1).run W Tr [v0,v1] (ZwC hL) (by simp only [RL];exact ⟨_,_,rfl,r0,_,_,rfl,r1,rfl⟩)).mono λe W' ⟨y,he,hy,hb⟩=>?_;simp only [R] at hy;subst hy;exact ⟨_,he,Zml (P:=Tryz.prog) Tryz.laidOut (by kernel_rfl) (by kernel_rfl) Tryz.underlying4 rfl rfl hW' hb⟩
theorem ZaD:Rows.TopCrumbsSaid :=
 OpenClaim.holds_of_wide 4 Tryz.f4 rfl rfl rfl rfl rfl rfl rfl ⟨rfl,rfl,rfl,rfl,rfl⟩ rfl rfl rfl rfl rfl (by kernel_rfl) Tryz.func4 (by kernel_rfl)
  (of_decide_eq_true (by kernel_rfl)) (by unfold Func.isWrapper;first | (rw [if_pos (by decide +kernel)];kernel_rfl) | (rw [if_neg (by decide +kernel)];exact ⟨rfl,rfl⟩))
  (λos started H enc _=>UA os started H enc)
theorem topCrumbs_card:Rows.TopCrumbsCardSaid :=
 Claim7.holds_tied_plain_at .later [] [.data] true (true, "4dae473236b4413a6808244eb82e8d1fe0d18b94fb28f9c5ab98726bc22e66e8") true
  ZaD (λ_ h=>by cases h) (by kernel_rfl) (λ_ h=>by cases h) topCrumbs_row_tie rfl ⟨rfl,rfl⟩ (by kernel_rfl) rfl
  (λf fn hf hfn=>by
   obtain rfl:f=4:=Option.some.inj ((show Tryz.prog.funcNamed "azalai/azalaitop.TopCrumbs" = some 4 by kernel_rfl).symm.trans hf) |>.symm;obtain rfl:fn=Tryz.f4:=(Option.some.inj (Tryz.func4.symm.trans hfn)).symm
   exact ⟨by kernel_rfl,λj t ht=>by
    rw [Tryz.params4] at ht;have hm:t ∈ [49,52]:=by simpa using Array.mem_of_getElem? ht
    have hall:([49,52].all λu=>!Tryz.prog.wantsStandIn u)=true:=by kernel_rfl
    exact (show Tryz.prog.wantsStandIn t=false by simpa using List.all_eq_true.1 hall t hm)⟩)
  (by kernel_rfl)
end Go.Proofs.YtkpkgafhfakpdaaGreatDoor
