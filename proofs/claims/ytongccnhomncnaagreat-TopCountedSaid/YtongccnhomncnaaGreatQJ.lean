/- Walks and plain laws that lead to the given statement, part 10 of 10. -/
import Derived.Test.YtongccnhomncnaaGreatQI
import Derived.ProofKit
import Derived.OpenShut
import Derived.Test.YtongccnhomncnaaGreatRows
set_option maxRecDepth 100000
set_option maxHeartbeats 4000000
set_option linter.all false
namespace Go.Sx
open Go Go.ChangeShapes Go.WideShapes Go.RowKit
def ZdS (P:Program) (g:TypeId->Bool):List Field->Nat->Nat->Bool
 | [],o,n=>Nat.beq o n
 | fd :: r,o,n=>Nat.beq fd.offset o && g fd.type && ZdS P g r (o+P.cellsOf fd.type) n
def tyB (P:Program):Nat->TypeId->Bool
 | 0,_=>false
 | f+1,t=>match P.underlying t with
  | some .bool=>true
  | some (.int _)=>true
  | some (.slice e)=>Nat.blt 0 (P.cellsOf e) && tyB P f e
  | some (.struct fs)=>ZdS P (tyB P f) fs.toList 0 (P.cellsOf t)
  | some (.array n e)=>Nat.beq (P.cellsOf t) (n * P.cellsOf e) && tyB P f e
  | _=>false
def ZhS (P:Program) (g:TypeId->List SV->Prop):List Field->List SV->Prop
 | [],l=>l=[]
 | fd :: r,l=>∃ a b,l=a ++ b/\a.length=P.cellsOf fd.type/\g fd.type a/\ZhS P g r b
def ShpN (P:Program) (g:List SV->Prop) (m:Nat):Nat->List SV->Prop
 | 0,l=>l=[]
 | n+1,l=>∃ a b,l=a ++ b/\a.length=m/\g a/\ShpN P g m n b
def Shp (P:Program):Nat->TypeId->List SV->Prop
 | 0,_,_=>False
 | f+1,t,l=>match P.underlying t with
  | some .bool=>∃ b,l=[.v (.bool b)]
  | some (.int k)=>∃ n,l=[.v (.int k n)]/\(Lit.int k n).wf=true
  | some (.slice e)=>∃ xs,l=[.sl false (P.cellsOf e) xs]/\xs.length<=9223372036854775807/\∀ r ∈ xs,r.length=P.cellsOf e/\Shp P f e r
  | some (.struct fs)=>ZhS P (Shp P f) fs.toList l
  | some (.array n e)=>ShpN P (Shp P f e) (P.cellsOf e) n l
  | _=>False
section
variable {H:Type} {enc:TypeId × Value->H} {P:Program} {w:World} {base:Nat} {spare:Nat->Bool} {held:Bool}
def F0:Nat->Prop:=λ_=>False
theorem ZsX {α β : Type} {p:α->β->Prop} {q:β->Prop}:∀ (l:List α),(∀ x ∈ l,∃ y,p x y/\q y)->∃ m:List β,m.length=l.length/\(∀ (i:Nat) (x:α) (y:β),l[i]? = some x->m[i]? = some y->p x y)/\∀ y ∈ m,q y
 | [],_=>⟨[],rfl,λi x y h=>by simp at h,λy h=>by simp at h⟩
 | x :: l,h=>by
  obtain ⟨y,h1,h2⟩:=h x (by simp);obtain ⟨m,k1,k2,k3⟩:=ZsX l (λz hz=>h z (by simp [hz]));refine ⟨y :: m,by simp [k1],λi a b ha hb=>?_,λz hz=>?_⟩
  . cases i with
    | zero=>simp at ha hb;subst ha;subst hb;exact h1
    | succ i=>exact k2 i a b (by simpa using ha) (by simpa using hb)
  . rcases List.mem_cons.1 hz with rfl | hz
    . exact h2
    . exact k3 z hz
theorem Zgy {b m:Nat}:∀ (xs:List (List SV)) (off:Nat),(∀ (i:Nat) (r:List SV),xs[i]? = some r->r.length=m/\∃ cs,RL w E0 F0 Tr r cs/\Uf w Tr b (off+i * m) cs)->RR w E0 F0 Tr b m xs off
 | [],off,_=>by simp [RR]
 | x :: xs,off,h=>by
  simp only [RR];obtain ⟨h1,cs,h2,h3⟩:=h 0 x (by simp);refine ⟨h1,⟨cs,h2,by simpa using h3⟩,Zgy xs (off+m) (λi r hr=>?_)⟩;obtain ⟨k1,cs,k2,k3⟩:=h (i+1) r (by simpa using hr);exact ⟨k1,cs,k2,by rw [show off+m+i * m=off+(i+1) * m from by rw [Nat.add_mul];omega];exact k3⟩
theorem ZeJ {a:Addr} {c:Value} (h:w.cell? a=some c):a.spot=none:=by
 unfold World.cell? at h;split at h
 . split at h
   . cases h
   . rename_i h1;simpa using h1
 . cases h
theorem Zyc {a:Addr} {i:Nat} {c:Value} (h:w.cell? (a.add i)=some c):w.cell? ⟨a.block,a.off+i,none⟩=some c:=by
 have hs:=ZeJ h;unfold Addr.add at h hs;split at h
 . rename_i h0;subst h0;rw [if_pos rfl] at hs;rw [Nat.add_zero,<- hs];exact h
 . exact h
theorem ZfB {a:Addr} {i j:Nat} {c:Value} (h:w.cell? ((a.add i).add j)=some c):w.cell? ⟨a.block,a.off+i+j,none⟩=some c:=by
 have:=Zyc h;have e:(a.add i).block=a.block/\(a.add i).off=a.off+i:=by unfold Addr.add;split<;>simp_all
 rwa [e.1,e.2] at this
theorem Zar {g:TypeId->Bool} {q:TypeId->List SV->Prop} {n:Nat} (hg:∀ t cs x,g t=true->DataW.trod enc P w base spare held n t cs=some x->∃ l:List SV,RL w E0 F0 Tr l cs/\q t l) (hlen:∀ t l,g t=true->q t l->True) (cs:List Value) :
 ∀ (fs:List Field) (o m:Nat),ZdS P g fs o m=true->cs.length=m->(∀ fd ∈ fs,∃ x,DataW.trod enc P w base spare held n fd.type ((cs.drop fd.offset).take (P.cellsOf fd.type))=some x) ->
  ∃ l:List SV,RL w E0 F0 Tr l (cs.drop o)/\ZhS P q fs l
 | [],o,m,ht,hl,_=>by
  simp only [ZdS] at ht;have:=Nat.eq_of_beq_eq_true ht;exact ⟨[],by rw [List.drop_eq_nil_of_le (by omega)];simp [RL],rfl⟩
 | fd :: fs,o,m,ht,hl,h=>by
  simp only [ZdS,Bool.and_eq_true] at ht;obtain ⟨⟨h1,h2⟩,h3⟩:=ht;have ho:=Nat.eq_of_beq_eq_true h1;obtain ⟨x,hx⟩:=h fd (by simp);obtain ⟨a,k1,k2⟩:=hg _ _ _ h2 hx;obtain ⟨b,k3,k4⟩:=Zar hg hlen cs fs (o+P.cellsOf fd.type) m h3 hl (λfd' hf=>h fd' (by simp [hf]));rw [ho] at k1;have hle:o+P.cellsOf fd.type<=cs.length:=by
   have:∀ (fs:List Field) (o m:Nat),ZdS P g fs o m=true->o<=m:=by
    intro fs
    induction fs with
    | nil=>intro o m h;simp only [ZdS] at h;exact Nat.le_of_eq (Nat.eq_of_beq_eq_true h)
    | cons y fs ih=>intro o m h;simp only [ZdS,Bool.and_eq_true] at h;have:=ih _ _ h.2;omega
   rw [hl];exact this _ _ _ h3
  refine ⟨a ++ b,?_,a,b,rfl,?_,k2,k4⟩
  . have:=Z7 k1 k3
    rwa [<- List.drop_drop,List.take_append_drop] at this
  . have:=ZC k1;rw [<- this];simp;omega
theorem Zb5 {q:List SV->Prop} {e:TypeId} {n:Nat} (hg:∀ cs x,DataW.trod enc P w base spare held n e cs=some x->∃ l:List SV,RL w E0 F0 Tr l cs/\q l) (cs:List Value) :
 ∀ (k i:Nat),cs.length=(i+k) * P.cellsOf e->(∀ j,i<=j->j < i+k->∃ x,DataW.trod enc P w base spare held n e ((cs.drop (j * P.cellsOf e)).take (P.cellsOf e))=some x) ->
  ∃ l:List SV,RL w E0 F0 Tr l (cs.drop (i * P.cellsOf e))/\ShpN P q (P.cellsOf e) k l
 | 0,i,hl,_=>⟨[],by rw [List.drop_eq_nil_of_le (by rw [hl,Nat.add_zero];exact Nat.le_refl _)];simp [RL],rfl⟩
 | k+1,i,hl,h=>by
  obtain ⟨x,hx⟩:=h i (Nat.le_refl _) (by omega);obtain ⟨a,k1,k2⟩:=hg _ _ hx;obtain ⟨b,k3,k4⟩:=Zb5 hg cs k (i+1) (by rw [hl];congr 1;omega) (λj h1 h2=>h j (by omega) (by omega));have hle:i * P.cellsOf e+P.cellsOf e<=cs.length:=by
   rw [hl,show i+(k+1)=(i+1)+k from by omega,Nat.add_mul,Nat.add_mul];omega
  refine ⟨a ++ b,?_,a,b,rfl,?_,k2,k4⟩
  . have:=Z7 k1 k3
    rwa [show (i+1) * P.cellsOf e=i * P.cellsOf e+P.cellsOf e from by rw [Nat.add_mul];omega,<- List.drop_drop,List.take_append_drop] at this
  . have:=ZC k1;rw [<- this];simp;omega
theorem VK:∀ (f:Nat) (t:TypeId) (fuel:Nat) (cs:List Value) (x:DataW H × List MemPlace),tyB P f t=true->DataW.trod enc P w base spare held fuel t cs=some x ->
 ∃ l:List SV,RL w E0 F0 Tr l cs/\Shp P f t l
 | 0,_,_,_,_,h,_=>by simp [tyB] at h
 | f+1,t,fuel,cs,x,hty,h=>by
  simp only [tyB] at hty;simp only [Shp];split at hty
  . rename_i hu;obtain ⟨b,rfl,_⟩:=DataW.trod_bool hu h;exact ⟨[.v (.bool b)],by simp [RL,R],b,rfl⟩
  . rename_i k hu;obtain ⟨n,rfl,_,hw⟩:=DataW.trod_int hu h;exact ⟨[.v (.int k n)],by simp [RL,R],n,rfl,hw⟩
  . rename_i e hu;simp only [Bool.and_eq_true,Nat.blt_eq] at hty;rcases DataW.trod_slice hu h with ⟨rfl,_⟩ | ⟨a,len,cap,elems,rest,n,_,rfl,_,_,h3,h4,h5,h6,_⟩
    . refine ⟨[.sl false (P.cellsOf e) []],?_,[],rfl,by simp,λr h=>by simp at h⟩;simp only [RL,R];exact ⟨_,[],rfl,⟨none,0,0,rfl,rfl,⟨Nat.le_refl _,λh=>by cases h⟩,by simp,.inl trivial⟩,rfl⟩
    ·
     have each:∀ i ∈ List.range len,∃ r:List SV,(∃ cs,RL w E0 F0 Tr r cs/\∀ j c,cs[j]? = some c->w.cell? ⟨a.block,a.off+i * P.cellsOf e+j,none⟩=some c)/\(r.length=P.cellsOf e/\Shp P f e r):=by
      intro i hi;have hi:i < len:=by simpa using hi
      have hb:=h6 i hi;rw [List.getElem?_eq_getElem (by omega)] at hb;obtain ⟨cs',hc,ht⟩:=Option.bind_eq_some_iff.1 hb;obtain ⟨r,k1,k2⟩:=VK f e n cs' _ hty.2 ht;obtain ⟨q1,q2,q3⟩:=World.cells?_some hc;refine ⟨r,⟨cs',k1,λj c hj=>?_⟩,?_,k2⟩
      . have hj':j < cs'.length:=(List.getElem?_eq_some_iff.1 hj).1;exact ZfB (by rw [q3 j (by omega)];exact hj)
      . have:=ZC k1;rw [<- this];exact q2
     obtain ⟨m,m1,m2,m3⟩:=ZsX (List.range len) each;have m1':m.length=len:=by simpa using m1
     have hmax:m.length<=9223372036854775807:=by unfold maxLen at h4;omega
     refine ⟨[.sl false (P.cellsOf e) m],?_,m,rfl,hmax,m3⟩;simp only [RL,R];refine ⟨_,[],rfl,⟨some a,len,cap,rfl,m1'.symm,⟨h3,λh=>by cases h⟩,hmax,?_⟩,rfl⟩;by_cases hm:m=[]
     . exact .inl hm
     . right;have hlen:0 < len:=by
        rcases Nat.eq_zero_or_pos len with h0 | h0
        . subst h0;exact absurd (List.eq_nil_of_length_eq_zero m1') hm
        . exact h0
       have hspot:a.spot=none:=by
        have hb:=h6 0 hlen;rw [List.getElem?_eq_getElem (by omega)] at hb;obtain ⟨cs',hc,ht⟩:=Option.bind_eq_some_iff.1 hb;obtain ⟨q1,q2,q3⟩:=World.cells?_some hc;have:=q3 0 hty.1;rw [List.getElem?_eq_getElem (by omega)] at this;simpa [Addr.add] using ZeJ this
       refine ⟨a.block,a.off,by cases a;simp_all,Zgy m a.off (λi r hr=>?_)⟩;have hi:i < len:=by have:=(List.getElem?_eq_some_iff.1 hr).1;omega
       obtain ⟨cs',k1,k2⟩:=m2 i i r (by simp [hi]) hr;exact ⟨(m3 r (List.mem_of_getElem? hr)).1,cs',k1,λ_=>trivial,k2⟩
  . rename_i fs hu;obtain ⟨xs,n,_,_,h1,h2,h3⟩:=DataW.trod_struct hu h
    have:=Zar (g:=tyB P f) (q:=Shp P f) (λt cs x a b=>VK f t n cs x a b) (λ_ _ _ _=>trivial) cs fs.toList 0 (P.cellsOf t) hty h1 (λfd hfd=>by
     obtain ⟨i,hi,rfl⟩:=List.getElem_of_mem hfd;have hi':i < fs.size:=by simpa using hi
     have:=h3 i fs[i] (by simp [hi']);rw [List.getElem?_eq_getElem (by omega)] at this
     exact ⟨_,by simpa using this⟩)
    simpa using this
  . rename_i n e hu;simp only [Bool.and_eq_true] at hty;obtain ⟨xs,m,_,_,h1,h2,h3⟩:=DataW.trod_array hu h;have hsz:=Nat.eq_of_beq_eq_true hty.1
    have:=Zb5 (q:=Shp P f e) (λcs x b=>VK f e m cs x hty.2 b) cs n 0 (by rw [h1,hsz];simp) (λj _ hj=>by
     have:=h3 j (by omega);rw [List.getElem?_eq_getElem (by omega)] at this
     exact ⟨_,this⟩)
    simpa using this
  . cases hty
def argV (P:Program) (t:TypeId) (l:List SV):SV :=
 match P.underlying t with
 | some (.struct _)=>.agg l
 | some (.array _ _)=>.agg l
 | _=>l.headD .any
theorem Zdc {f:Nat} {t:TypeId} {r:Reach} {b0:Nat} {v:Value} {d:DataW H} {ps:List MemPlace} (hty:tyB P f t=true) (hv:Value.okWide P w r b0 t v) (h:DataW.Trod enc P w base spare held t v d ps) :
 ∃ l:List SV,R w E0 F0 Tr (argV P t l) v/\Shp P f t l:=by
 obtain ⟨fuel,h⟩:=h;obtain ⟨l,h1,h2⟩:=VK f t fuel _ _ hty h;refine ⟨l,?_,h2⟩;have one:v.oneCell'=true->R w E0 F0 Tr (l.headD .any) v:=λho=>by
  rw [ZeM ho] at h1;cases l with
  | nil=>simp [RL] at h1
  | cons s l=>simp only [RL] at h1;obtain ⟨y,q,e,h1,_⟩:=h1;simp at e;rw [e.1];exact h1
 unfold Value.okWide at hv;unfold argV;split at hv
 . rename_i hu;obtain ⟨cs,rfl,_,_⟩:=hv;rw [hu];simp only [R];exact ⟨cs,rfl,h1⟩
 . rename_i hu;obtain ⟨cs,rfl,_,_⟩:=hv;rw [hu];simp only [R];exact ⟨cs,rfl,h1⟩
 . rename_i k1 k2;have hone:v.oneCell'=true:=by
    cases f with
    | zero=>simp [tyB] at hty
    | succ f =>
     simp only [tyB] at hty;cases v<;>first | rfl | skip
     all_goals
      exfalso;split at hty<;>rename_i hu<;>first
       | (exact absurd hu (by first | exact k1 _ | exact k2 _ _))
       | (simp [Cell.okWide,Cell.ok,hu] at hv;done)
       | (cases hty;done)
   split
   . rename_i hu;exact absurd hu (k1 _)
   . rename_i hu;exact absurd hu (k2 _ _)
   . exact one hone
theorem UQ (hl:laidOutB P=true) {W W':World} (hb:Below W.heap.size W W'):∀ {ts:List TypeId} {vs:List Value} {ds:List (DataW H)} {ps:List MemPlace},(∀ t ∈ ts,P.readableRec t=true/\t < P.types.size) ->
 DataW.TrodAll enc P W 0 (λ_=>true) true ts vs ds ps->(∀ x ∈ ps,x.block < W.heap.size)->DataW.TrodAll enc P W' 0 (λb=>decide (b < W.heap.size)) true ts vs ds ps
 | [],_,_,_,_,h,_=>by
  obtain ⟨rfl,rfl,rfl⟩:=trodAll_nil h;exact rfl
 | t :: ts,_,_,_,ht,h,hlt=>by
  obtain ⟨v,vs1,d,ds1,a,b,rfl,rfl,rfl,h1,h2⟩:=trodAll_cons h;obtain ⟨q1,q2⟩:=ht t (by simp);exact ⟨a,b,Below.trod hl q1 q2 h1 hb (λx hx=>hlt x (by simp [hx])),UQ hl hb (λt' h'=>ht t' (by simp [h'])) h2 (λx hx=>hlt x (by simp [hx])),rfl⟩
theorem Zot {f:Func} {s:ChangeSpec} {tb:TypeId} {W W':World} {args:Array Value} {ds gs:List (DataW H)} {before:List MemPlace} (hl:laidOutB P=true) (hpar:f.params.toList.all (λt=>P.readableRec t && decide (t < P.types.size))=true)
 (hres:f.resultTypes = #[tb]) (htb:P.underlying tb=some .bool) (hvars:s.vars=[]) (hfn:s.fn H (ds ++ gs)={ results:=[.lit (.bool true)],args:=ds }) (hW:DataW.Whole enc P f.params.toList s.vars false W args.toList ds gs before)
 (hb:Below W.heap.size W W'):s.post enc P f false true false false W args (.bool true) W':=by
 have hW0:=hW;obtain ⟨p,q,h1,h2,rfl,_,_⟩:=hW;rw [hvars] at h2;obtain ⟨rfl,rfl⟩:=trodVars_none h2;have hpar':∀ t ∈ f.params.toList,P.readableRec t=true/\t < P.types.size:=λt ht=>by
  have:=List.all_eq_true.1 hpar t ht;simp only [Bool.and_eq_true,decide_eq_true_eq] at this;exact this
 refine ⟨ds,[],p ++ [],[],p,[],hW0,?_,?_,?_,Below.frame hb _,λh=>by cases h⟩
 . rw [hres];simp only [hfn];exact trodAll_mk1 (shut_bool htb true)
 . rw [hfn];exact UQ hl hb hpar' h1 (λx hx=>hW0.lt x (by simp [hx]))
 . rw [hfn,hvars];exact rfl
end
end Go.Sx
namespace Go.Proofs.YtongccnhomncnaaGreat
open Go Go.Sx Go.Azalai Go.ChangeShapes Go.WideShapes Go.RowKit
theorem W7 {α : Type} {rep:α->List SV} {q:List SV->Prop} (hq:∀ r,q r->∃ a,r=rep a):∀ {xs:List (List SV)},(∀ r ∈ xs,q r)->∃ l:List α,xs=l.map rep
 | [],_=>⟨[],rfl⟩
 | x :: xs,h=>by
  obtain ⟨a,rfl⟩:=hq x (h x (by simp));obtain ⟨l,rfl⟩:=W7 (xs:=xs) hq (λr hr=>h r (by simp [hr]));exact ⟨a :: l,rfl⟩
theorem Zbd {f:Nat} {l:List SV} (h:Shp Tryz.prog (f+1) 3 l):∃ n:Int,l=[.v (.int .i64 n)]/\(Lit.int .i64 n).wf=true:=by
 rw [Shp,Tryz.underlying3] at h;exact h
theorem WS {f:Nat} {l:List SV} (h:Shp Tryz.prog (f+2) 27 l):∃ w:Span,l=Ze w:=by
 rw [Shp,Tryz.underlying27] at h;simp only [ZhS] at h;obtain ⟨_,_,rfl,_,h0,_,_,rfl,_,h1,rfl⟩:=h;obtain ⟨a0,rfl,_⟩:=Zbd (f:=f+0) h0;obtain ⟨a1,rfl,_⟩:=Zbd (f:=f+0) h1;exact ⟨⟨a0,a1⟩,rfl⟩
theorem ZBr {f:Nat} {l:List SV} (h:Shp Tryz.prog (f+3) 151 l):∃ w:Well,l=Zh w:=by
 rw [Shp,Tryz.underlying151] at h;simp only [ZhS] at h;obtain ⟨_,_,rfl,_,h0,_,_,rfl,_,h1,_,_,rfl,_,h2,_,_,rfl,_,h3,_,_,rfl,_,h4,_,_,rfl,_,h5,_,_,rfl,_,h6,rfl⟩:=h;obtain ⟨a0,rfl,_⟩:=Zbd (f:=f+1) h0;obtain ⟨a1,rfl,_⟩:=Zbd (f:=f+1) h1;obtain ⟨a2,rfl,_⟩:=Zbd (f:=f+1) h2;obtain ⟨a3,rfl⟩:=WS (f:=f+0) h3;obtain ⟨a4,rfl,_⟩:=Zbd (f:=f+1) h4;obtain ⟨a5,rfl⟩:=WS (f:=f+0) h5;obtain ⟨a6,rfl,_⟩:=Zbd (f:=f+1) h6
 exact ⟨⟨a0,a1,a2,a3,a4,a5,a6⟩,rfl⟩
theorem ZrP:Tryz.prog.cellsOf 151=9:=by kernel_rfl
theorem shp22 {f:Nat} {l:List SV} (h:Shp Tryz.prog (f+4) 22 l):∃ ds:List Well,l=[.sl false 9 (ds.map Zh)]/\ds.length<=9223372036854775807:=by
 rw [Shp,Tryz.underlying22] at h;obtain ⟨xs,rfl,hl,hx⟩:=h;obtain ⟨ws,rfl⟩:=W7 (rep:=Zh) (λr h=>ZBr (f:=f) h.2) hx;rw [ZrP];exact ⟨ws,rfl,by simpa using hl⟩
theorem ZBb {f:Nat} {l:List SV} (h:Shp Tryz.prog (f+3) 153 l):∃ w:Gate,l=Zi w:=by
 rw [Shp,Tryz.underlying153] at h;simp only [ZhS] at h;obtain ⟨_,_,rfl,_,h0,_,_,rfl,_,h1,rfl⟩:=h;obtain ⟨a0,rfl⟩:=WS (f:=f+0) h0;obtain ⟨a1,rfl⟩:=WS (f:=f+0) h1;exact ⟨⟨a0,a1⟩,rfl⟩
theorem ZqM:Tryz.prog.cellsOf 153=4:=by kernel_rfl
theorem Zy9 {f:Nat} {l:List SV} (h:Shp Tryz.prog (f+4) 118 l):∃ ds:List Gate,l=[.sl false 4 (ds.map Zi)]/\ds.length<=9223372036854775807:=by
 rw [Shp,Tryz.underlying118] at h;obtain ⟨xs,rfl,hl,hx⟩:=h;obtain ⟨ws,rfl⟩:=W7 (rep:=Zi) (λr h=>ZBb (f:=f) h.2) hx;rw [ZqM];exact ⟨ws,rfl,by simpa using hl⟩
theorem ZzS {f:Nat} {l:List SV} (h:Shp Tryz.prog (f+5) 120 l):∃ w:Leg,l=Zn w:=by
 rw [Shp,Tryz.underlying120] at h;simp only [ZhS] at h;obtain ⟨_,_,rfl,_,h0,_,_,rfl,_,h1,_,_,rfl,_,h2,_,_,rfl,_,h3,rfl⟩:=h;obtain ⟨a0,rfl,_⟩:=Zbd (f:=f+3) h0;obtain ⟨a1,rfl,_⟩:=Zbd (f:=f+3) h1;obtain ⟨a2,rfl⟩:=WS (f:=f+2) h2;obtain ⟨a3,rfl,_⟩:=Zy9 (f:=f+0) h3;exact ⟨⟨a0,a1,a2,a3⟩,rfl⟩
theorem ZnJ:Tryz.prog.cellsOf 120=5:=by kernel_rfl
theorem shp23 {f:Nat} {l:List SV} (h:Shp Tryz.prog (f+6) 23 l):∃ ds:List Leg,l=[.sl false 5 (ds.map Zn)]/\ds.length<=9223372036854775807:=by
 rw [Shp,Tryz.underlying23] at h;obtain ⟨xs,rfl,hl,hx⟩:=h;obtain ⟨ws,rfl⟩:=W7 (rep:=Zn) (λr h=>ZzS (f:=f) h.2) hx;rw [ZnJ];exact ⟨ws,rfl,by simpa using hl⟩
theorem shp25 {f:Nat} {l:List SV} (h:Shp Tryz.prog (f+7) 25 l):∃ w:Land,l=Ye w:=by
 rw [Shp,Tryz.underlying25] at h;simp only [ZhS] at h;obtain ⟨_,_,rfl,_,h0,_,_,rfl,_,h1,rfl⟩:=h;obtain ⟨a0,rfl,_⟩:=shp22 (f:=f+2) h0;obtain ⟨a1,rfl,_⟩:=shp23 (f:=f+0) h1;exact ⟨⟨a0,a1⟩,rfl⟩
theorem shp29 {f:Nat} {l:List SV} (h:Shp Tryz.prog (f+3) 29 l):∃ w:Breed,l=Cm.breedL w:=by
 rw [Shp,Tryz.underlying29] at h;simp only [ZhS] at h;obtain ⟨_,_,rfl,_,h0,_,_,rfl,_,h1,_,_,rfl,_,h2,_,_,rfl,_,h3,_,_,rfl,_,h4,_,_,rfl,_,h5,_,_,rfl,_,h6,_,_,rfl,_,h7,_,_,rfl,_,h8,_,_,rfl,_,h9,rfl⟩:=h;obtain ⟨a0,rfl,_⟩:=Zbd (f:=f+1) h0;obtain ⟨a1,rfl,_⟩:=Zbd (f:=f+1) h1;obtain ⟨a2,rfl⟩:=WS (f:=f+0) h2;obtain ⟨a3,rfl⟩:=WS (f:=f+0) h3;obtain ⟨a4,rfl⟩:=WS (f:=f+0) h4;obtain ⟨a5,rfl⟩:=WS (f:=f+0) h5;obtain ⟨a6,rfl⟩:=WS (f:=f+0) h6
 obtain ⟨a7,rfl⟩:=WS (f:=f+0) h7;obtain ⟨a8,rfl,_⟩:=Zbd (f:=f+1) h8;obtain ⟨a9,rfl⟩:=WS (f:=f+0) h9;exact ⟨⟨a0,a1,a2,a3,a4,a5,a6,a7,a8,a9⟩,rfl⟩
theorem shp4 {f:Nat} {l:List SV} (h:Shp Tryz.prog (f+1) 4 l):∃ n:Bool,l=[B n]:=by
 rw [Shp,Tryz.underlying4] at h;exact h
theorem shp31 {f:Nat} {l:List SV} (h:Shp Tryz.prog (f+3) 31 l):∃ w:Camel,l=Cm.camelL w:=by
 rw [Shp,Tryz.underlying31] at h;simp only [ZhS] at h;obtain ⟨_,_,rfl,_,h0,_,_,rfl,_,h1,_,_,rfl,_,h2,_,_,rfl,_,h3,rfl⟩:=h;obtain ⟨a0,rfl⟩:=WS (f:=f+0) h0;obtain ⟨a1,rfl⟩:=WS (f:=f+0) h1;obtain ⟨a2,rfl⟩:=WS (f:=f+0) h2;obtain ⟨a3,rfl⟩:=shp4 (f:=f+1) h3;exact ⟨⟨a0,a1,a2,a3⟩,rfl⟩
theorem Zuf:Tryz.prog.cellsOf 27=2:=by kernel_rfl
theorem shp46 {f:Nat} {l:List SV} (h:Shp Tryz.prog (f+3) 46 l):∃ ds:List Span,l=[.sl false 2 (ds.map Ze)]/\ds.length<=9223372036854775807:=by
 rw [Shp,Tryz.underlying46] at h;obtain ⟨xs,rfl,hl,hx⟩:=h;obtain ⟨ws,rfl⟩:=W7 (rep:=Ze) (λr h=>WS (f:=f) h.2) hx;rw [Zuf];exact ⟨ws,rfl,by simpa using hl⟩
theorem ZzT:Tryz.prog.cellsOf 3=1:=by kernel_rfl
theorem ZA3 {f:Nat} {l:List SV} (h:Shp Tryz.prog (f+2) 35 l):∃ ds:List Int,l=[.sl false 1 (ds.map Zq)]/\ds.length<=9223372036854775807:=by
 rw [Shp,Tryz.underlying35] at h;obtain ⟨xs,rfl,hl,hx⟩:=h;obtain ⟨ws,rfl⟩:=W7 (rep:=Zq) (λr h=>by obtain ⟨n,rfl,_⟩:=Zbd (f:=f) h.2;exact ⟨n,rfl⟩) hx;rw [ZzT];exact ⟨ws,rfl,by simpa using hl⟩
theorem shp89 {f:Nat} {l:List SV} (h:Shp Tryz.prog (f+4) 89 l):∃ w:Scene,l=Zl w:=by
 rw [Shp,Tryz.underlying89] at h;simp only [ZhS] at h;obtain ⟨_,_,rfl,_,h0,_,_,rfl,_,h1,_,_,rfl,_,h2,_,_,rfl,_,h3,rfl⟩:=h;obtain ⟨a0,rfl⟩:=WS (f:=f+1) h0;obtain ⟨a1,rfl⟩:=WS (f:=f+1) h1;obtain ⟨a2,rfl,_⟩:=shp46 (f:=f+0) h2;obtain ⟨a3,rfl,_⟩:=ZA3 (f:=f+1) h3;exact ⟨⟨a0,a1,a2,a3⟩,rfl⟩
theorem ZuZ:Tryz.prog.cellsOf 89=6:=by kernel_rfl
theorem shp32 {f:Nat} {l:List SV} (h:Shp Tryz.prog (f+5) 32 l):∃ ds:List Scene,l=[.sl false 6 (ds.map Zl)]/\ds.length<=9223372036854775807:=by
 rw [Shp,Tryz.underlying32] at h;obtain ⟨xs,rfl,hl,hx⟩:=h;obtain ⟨ws,rfl⟩:=W7 (rep:=Zl) (λr h=>shp89 (f:=f) h.2) hx;rw [ZuZ];exact ⟨ws,rfl,by simpa using hl⟩
theorem shp34 {f:Nat} {l:List SV} (h:Shp Tryz.prog (f+8) 34 l):∃ w:Season,l=Zt w:=by
 rw [Shp,Tryz.underlying34] at h;simp only [ZhS] at h;obtain ⟨_,_,rfl,_,h0,_,_,rfl,_,h1,_,_,rfl,_,h2,_,_,rfl,_,h3,_,_,rfl,_,h4,_,_,rfl,_,h5,_,_,rfl,_,h6,_,_,rfl,_,h7,_,_,rfl,_,h8,_,_,rfl,_,h9,_,_,rfl,_,h10,_,_,rfl,_,h11,_,_,rfl,_,h12,rfl⟩:=h;obtain ⟨a0,rfl⟩:=shp25 (f:=f+0) h0;obtain ⟨a1,rfl⟩:=WS (f:=f+5) h1;obtain ⟨a2,rfl⟩:=shp29 (f:=f+4) h2;obtain ⟨a3,rfl⟩:=shp31 (f:=f+4) h3;obtain ⟨a4,rfl,_⟩:=Zbd (f:=f+6) h4
 obtain ⟨a5,rfl,_⟩:=Zbd (f:=f+6) h5;obtain ⟨a6,rfl,_⟩:=Zbd (f:=f+6) h6;obtain ⟨a7,rfl,_⟩:=Zbd (f:=f+6) h7;obtain ⟨a8,rfl,_⟩:=Zbd (f:=f+6) h8;obtain ⟨a9,rfl,_⟩:=Zbd (f:=f+6) h9;obtain ⟨a10,rfl,_⟩:=Zbd (f:=f+6) h10;obtain ⟨a11,rfl,_⟩:=Zbd (f:=f+6) h11;obtain ⟨a12,rfl,_⟩:=shp32 (f:=f+2) h12;exact ⟨⟨a0,a1,a2,a3,a4,a5,a6,a7,a8,a9,a10,a11,a12⟩,rfl⟩
theorem shp37 {f:Nat} {l:List SV} (h:Shp Tryz.prog (f+3) 37 l):∃ w:Plan,l=ZL w:=by
 rw [Shp,Tryz.underlying37] at h;simp only [ZhS] at h;obtain ⟨_,_,rfl,_,h0,_,_,rfl,_,h1,_,_,rfl,_,h2,rfl⟩:=h;obtain ⟨a0,rfl,_⟩:=ZA3 (f:=f+0) h0;obtain ⟨a1,rfl,_⟩:=Zbd (f:=f+1) h1;obtain ⟨a2,rfl,_⟩:=Zbd (f:=f+1) h2;exact ⟨⟨a0,a1,a2⟩,rfl⟩
theorem shp5 {f:Nat} {l:List SV} (h:Shp Tryz.prog (f+1) 5 l):∃ n:Int,l=[.v (.int .u8 n)]/\(Lit.int .u8 n).wf=true:=by
 rw [Shp,Tryz.underlying5] at h;exact h
theorem Tryz.own:ownKnob Tryz.prog.godebug=none:=by kernel_rfl
theorem Tryz.laidOut:laidOutB Tryz.prog=true:=by kernel_rfl
theorem tyB34:tyB Tryz.prog 20 34=true:=by kernel_rfl
theorem tyB37:tyB Tryz.prog 20 37=true:=by kernel_rfl
theorem tyB5:tyB Tryz.prog 20 5=true:=by kernel_rfl
theorem UX (os:Os) (started:os.Started) (H:Type) (enc:TypeId × Value->H) :
 ReturnsInHanded {} Tryz.checked os 3 .any (Rows.topCountedSpec.pre6 enc Tryz.prog Tryz.f3 Rows.topCountedRow.domain false) (Rows.topCountedSpec.post enc Tryz.prog Tryz.f3 false true false false):=by
 refine returnsInHanded_of_change (C:=Tryz.checked) Tryz.own started (by kernel_rfl) Tryz.func3
  (ChangeSpec.witness6 (enc:=enc) (C:=Tryz.checked) false ⟨#[],#[.agg #[.slice none 0 0,.slice none 0 0,.int .i64 0,.int .i64 0,.int .i64 0,.int .i64 0,.int .i64 0,.int .i64 0,.int .i64 0,.int .i64 0,.int .i64 0,.int .i64 0,.int .i64 0,.int .i64 0,.int .i64 0,.int .i64 0,.int .i64 0,.int .i64 0,.int .i64 0,.int .i64 0,.int .i64 0,.int .i64 0,.int .i64 0,.int .i64 0,.int .i64 0,.int .i64 0,.int .i64 0,.bool false,.int .i64 0,.int .i64 0,.int .i64 0,.int .i64 0,.int .i64 0,.int .i64 0,.int .i64 0,.int .i64 0,.slice none 0 0],.agg #[.slice none 0 0,.int .i64 0,.int .i64 0],.int .u8 0],[]⟩ 8 (by kernel_rfl) (by kernel_rfl) (by kernel_rfl) (by kernel_rfl)) ?_
 intro W base args ds gs before hval0 hW hcnd _;have hval:∀ (j:Nat) t v,Tryz.f3.params[j]? = some t->args[j]? = some v->Value.okWide Tryz.prog W .any base t v:=hval0;have hW':=hW;obtain ⟨p,q,hA0,hV,rfl,hfz,hnd⟩:=hW;have hA:DataW.TrodAll enc Tryz.prog W 0 (λ_=>true) true Tryz.f3.params.toList args.toList ds p:=hA0;rw [Tryz.params3] at hA hval;obtain ⟨v0,vs0,d0,ds0,p0,q0,ea0,rfl,rfl,h0,hA⟩:=trodAll_cons hA
 obtain ⟨v1,vs1,d1,ds1,p1,q1,rfl,rfl,rfl,h1,hA⟩:=trodAll_cons hA;obtain ⟨v2,vs2,d2,ds2,p2,q2,rfl,rfl,rfl,h2,hA⟩:=trodAll_cons hA;obtain ⟨rfl,rfl,rfl⟩:=trodAll_nil hA;obtain ⟨rfl,rfl⟩:=trodVars_none hV;have hargs:args = #[v0,v1,v2]:=Array.toList_inj.1 ea0;subst hargs;obtain ⟨l0,r0,s0⟩:=Zdc tyB34 (hval 0 34 v0 rfl rfl) h0;obtain ⟨l1,r1,s1⟩:=Zdc tyB37 (hval 1 37 v1 rfl rfl) h1;obtain ⟨l2,r2,s2⟩:=Zdc tyB5 (hval 2 5 v2 rfl rfl) h2
 obtain ⟨x0,rfl⟩:=shp34 s0;obtain ⟨x1,rfl⟩:=shp37 s1;obtain ⟨x2,rfl,b2⟩:=shp5 s2;simp only [argV,Tryz.underlying34,Tryz.underlying37,Tryz.underlying5,List.headD_cons] at r0 r1 r2;refine ((Zhk x0 x1 x2 (wf8 b2)).run W Tr [v0,v1,v2] (λ_ _ h=>by cases h) (by simp only [RL];exact ⟨_,_,rfl,r0,_,_,rfl,r1,_,_,rfl,r2,rfl⟩)).mono λe W' ⟨y,he,hy,hb⟩=>?_;simp only [R] at hy;subst hy;exact ⟨_,he,Zot (P:=Tryz.prog) Tryz.laidOut (by kernel_rfl) (by kernel_rfl) Tryz.underlying4 rfl rfl hW' hb⟩
theorem topCounted_holds:Rows.TopCountedSaid :=
 OpenClaim.holds_of_wide 3 Tryz.f3 rfl rfl rfl rfl rfl rfl rfl ⟨rfl,rfl,rfl,rfl,rfl⟩ rfl rfl rfl rfl rfl (by kernel_rfl) Tryz.func3 (by kernel_rfl)
  (of_decide_eq_true (by kernel_rfl)) (by unfold Func.isWrapper;first | (rw [if_pos (by decide +kernel)];kernel_rfl) | (rw [if_neg (by decide +kernel)];exact ⟨rfl,rfl⟩))
  (λos started H enc _=>UX os started H enc)
end Go.Proofs.YtongccnhomncnaaGreat
