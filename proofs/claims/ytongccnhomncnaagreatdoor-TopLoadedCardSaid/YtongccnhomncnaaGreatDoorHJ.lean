/- Walks and plain laws that lead to the given statement, part 10 of 20. -/
import Derived.Test.YtongccnhomncnaaGreatDoorHI
import Derived.ProofKit
import Derived.OpenShut
set_option linter.all false
namespace Go.Sx
open Go Go.ChangeShapes Go.WideShapes Go.RowKit
def Zeq (P:Program) (g:TypeId->Bool):List Field->Nat->Nat->Bool
 | [],o,n=>Nat.beq o n
 | fd :: r,o,n=>Nat.beq fd.offset o && g fd.type && Zeq P g r (o+P.cellsOf fd.type) n
def tyB (P:Program):Nat->TypeId->Bool
 | 0,_=>false
 | f+1,t=>match P.underlying t with
  | some .bool=>true
  | some (.int _)=>true
  | some (.slice e)=>Nat.blt 0 (P.cellsOf e) && tyB P f e
  | some (.struct fs)=>Zeq P (tyB P f) fs.toList 0 (P.cellsOf t)
  | some (.array n e)=>Nat.beq (P.cellsOf t) (n * P.cellsOf e) && tyB P f e
  | _=>false
def Ziy (P:Program) (g:TypeId->Ls->Prop):List Field->Ls->Prop
 | [],l=>l=[]
 | fd :: r,l=>∃ a b,l=a ++ b/\a.length=P.cellsOf fd.type/\g fd.type a/\Ziy P g r b
def ShpN (P:Program) (g:Ls->Prop) (m:Nat):Nat->Ls->Prop
 | 0,l=>l=[]
 | n+1,l=>∃ a b,l=a ++ b/\a.length=m/\g a/\ShpN P g m n b
def Shp (P:Program):Nat->TypeId->Ls->Prop
 | 0,_,_=>False
 | f+1,t,l=>match P.underlying t with
  | some .bool=>∃ b,l=[.v (.bool b)]
  | some (.int k)=>∃ n,l=[.v (.int k n)]/\(Lit.int k n).wf=true
  | some (.slice e)=>∃ xs,l=[.sl false (P.cellsOf e) xs]/\xs.length<=9223372036854775807/\∀ r ∈ xs,r.length=P.cellsOf e/\Shp P f e r
  | some (.struct fs)=>Ziy P (Shp P f) fs.toList l
  | some (.array n e)=>ShpN P (Shp P f e) (P.cellsOf e) n l
  | _=>False
section
variable {H:Type} {enc:TypeId × Value->H} {P:Program} {w:World} {base:Nat} {spare:Nat->Bool} {held:Bool}
def F0:Nat->Prop:=λ_=>False
theorem Zun {α β : Type} {p:α->β->Prop} {q:β->Prop}:∀ (l:List α),(∀ x ∈ l,∃ y,p x y/\q y)->∃ m:List β,m.length=l.length/\(∀ (i:Nat) (x:α) (y:β),l[i]? = some x->m[i]? = some y->p x y)/\∀ y ∈ m,q y
 | [],_=>⟨[],rfl,λi x y h=>by simp at h,λy h=>by simp at h⟩
 | x :: l,h=>by
  obtain ⟨y,h1,h2⟩:=h x (by simp);obtain ⟨m,k1,k2,k3⟩:=Zun l (λz hz=>h z (by simp [hz]));refine ⟨y :: m,by simp [k1],λi a b ha hb=>?_,λz hz=>?_⟩
  . cases i with
    | zero=>simp at ha hb;subst ha;subst hb;exact h1
    | succ i=>exact k2 i a b (by simpa using ha) (by simpa using hb)
  . rcases List.mem_cons.1 hz with rfl | hz
    . exact h2
    . exact k3 z hz
theorem Zg9 {b m:Nat}:∀ (xs:Rr) (off:Nat),(∀ (i:Nat) (r:Ls),xs[i]? = some r->r.length=m/\∃ cs,RL w E0 F0 Tr r cs/\Uv w Tr b (off+i * m) cs)->RR w E0 F0 Tr b m xs off
 | [],off,_=>by simp [RR]
 | x :: xs,off,h=>by
  simp only [RR];obtain ⟨h1,cs,h2,h3⟩:=h 0 x (by simp);refine ⟨h1,⟨cs,h2,by simpa using h3⟩,Zg9 xs (off+m) (λi r hr=>?_)⟩;obtain ⟨k1,cs,k2,k3⟩:=h (i+1) r (by simpa using hr);exact ⟨k1,cs,k2,by rw [show off+m+i * m=off+(i+1) * m from by rw [Nat.add_mul];omega];exact k3⟩
theorem Zfj {a:Addr} {c:Value} (h:w.cell? a=some c):a.spot=none:=by
 unfold World.cell? at h;split at h
 . split at h
   . cases h
   . rename_i h1;simpa using h1
 . cases h
theorem Zz9 {a:Addr} {i:Nat} {c:Value} (h:w.cell? (a.add i)=some c):w.cell? ⟨a.block,a.off+i,none⟩=some c:=by
 have hs:=Zfj h;unfold Addr.add at h hs;split at h
 . rename_i h0;subst h0;rw [if_pos rfl] at hs;rw [Nat.add_zero,<- hs];exact h
 . exact h
theorem Zf6 {a:Addr} {i j:Nat} {c:Value} (h:w.cell? ((a.add i).add j)=some c):w.cell? ⟨a.block,a.off+i+j,none⟩=some c:=by
 have:=Zz9 h;have e:(a.add i).block=a.block/\(a.add i).off=a.off+i:=by unfold Addr.add;split<;>simp_all
 rwa [e.1,e.2] at this
theorem ZaN {g:TypeId->Bool} {q:TypeId->Ls->Prop} {n:Nat} (hg:∀ t cs x,g t=true->DataW.trod enc P w base spare held n t cs=some x->∃ l:Ls,RL w E0 F0 Tr l cs/\q t l) (hlen:∀ t l,g t=true->q t l->True) (cs:LZ) :
 ∀ (fs:List Field) (o m:Nat),Zeq P g fs o m=true->cs.length=m->(∀ fd ∈ fs,∃ x,DataW.trod enc P w base spare held n fd.type ((cs.drop fd.offset).take (P.cellsOf fd.type))=some x) ->
  ∃ l:Ls,RL w E0 F0 Tr l (cs.drop o)/\Ziy P q fs l
 | [],o,m,ht,hl,_=>by
  simp only [Zeq] at ht;have:=Nat.eq_of_beq_eq_true ht;exact ⟨[],by rw [List.drop_eq_nil_of_le (by omega)];simp [RL],rfl⟩
 | fd :: fs,o,m,ht,hl,h=>by
  simp only [Zeq,Bool.and_eq_true] at ht;obtain ⟨⟨h1,h2⟩,h3⟩:=ht;have ho:=Nat.eq_of_beq_eq_true h1;obtain ⟨x,hx⟩:=h fd (by simp);obtain ⟨a,k1,k2⟩:=hg _ _ _ h2 hx;obtain ⟨b,k3,k4⟩:=ZaN hg hlen cs fs (o+P.cellsOf fd.type) m h3 hl (λfd' hf=>h fd' (by simp [hf]));rw [ho] at k1;have hle:o+P.cellsOf fd.type<=cs.length:=by
   have:∀ (fs:List Field) (o m:Nat),Zeq P g fs o m=true->o<=m:=by
    intro fs
    induction fs with
    | nil=>intro o m h;simp only [Zeq] at h;exact Nat.le_of_eq (Nat.eq_of_beq_eq_true h)
    | cons y fs ih=>intro o m h;simp only [Zeq,Bool.and_eq_true] at h;have:=ih _ _ h.2;omega
   rw [hl];exact this _ _ _ h3
  refine ⟨a ++ b,?_,a,b,rfl,?_,k2,k4⟩
  . have:=Yj k1 k3
    rwa [<- List.drop_drop,List.take_append_drop] at this
  . have:=ZO k1;rw [<- this];simp;omega
theorem Zcx {q:Ls->Prop} {e:TypeId} {n:Nat} (hg:∀ cs x,DataW.trod enc P w base spare held n e cs=some x->∃ l:Ls,RL w E0 F0 Tr l cs/\q l) (cs:LZ) :
 ∀ (k i:Nat),cs.length=(i+k) * P.cellsOf e->(∀ j,i<=j->j < i+k->∃ x,DataW.trod enc P w base spare held n e ((cs.drop (j * P.cellsOf e)).take (P.cellsOf e))=some x) ->
  ∃ l:Ls,RL w E0 F0 Tr l (cs.drop (i * P.cellsOf e))/\ShpN P q (P.cellsOf e) k l
 | 0,i,hl,_=>⟨[],by rw [List.drop_eq_nil_of_le (by rw [hl,Nat.add_zero];exact Nat.le_refl _)];simp [RL],rfl⟩
 | k+1,i,hl,h=>by
  obtain ⟨x,hx⟩:=h i (Nat.le_refl _) (by omega);obtain ⟨a,k1,k2⟩:=hg _ _ hx;obtain ⟨b,k3,k4⟩:=Zcx hg cs k (i+1) (by rw [hl];congr 1;omega) (λj h1 h2=>h j (by omega) (by omega));have hle:i * P.cellsOf e+P.cellsOf e<=cs.length:=by
   rw [hl,show i+(k+1)=(i+1)+k from by omega,Nat.add_mul,Nat.add_mul];omega
  refine ⟨a ++ b,?_,a,b,rfl,?_,k2,k4⟩
  . have:=Yj k1 k3
    rwa [show (i+1) * P.cellsOf e=i * P.cellsOf e+P.cellsOf e from by rw [Nat.add_mul];omega,<- List.drop_drop,List.take_append_drop] at this
  . have:=ZO k1;rw [<- this];simp;omega
theorem VU:∀ (f:Nat) (t:TypeId) (fuel:Nat) (cs:LZ) (x:DataW H × List MemPlace),tyB P f t=true->DataW.trod enc P w base spare held fuel t cs=some x ->
 ∃ l:Ls,RL w E0 F0 Tr l cs/\Shp P f t l
 | 0,_,_,_,_,h,_=>by simp [tyB] at h
 | f+1,t,fuel,cs,x,hty,h=>by
  simp only [tyB] at hty;simp only [Shp];split at hty
  . rename_i hu;obtain ⟨b,rfl,_⟩:=DataW.trod_bool hu h;exact ⟨[.v (.bool b)],by simp [RL,R],b,rfl⟩
  . rename_i k hu;obtain ⟨n,rfl,_,hw⟩:=DataW.trod_int hu h;exact ⟨[.v (.int k n)],by simp [RL,R],n,rfl,hw⟩
  . rename_i e hu;simp only [Bool.and_eq_true,Nat.blt_eq] at hty;rcases DataW.trod_slice hu h with ⟨rfl,_⟩ | ⟨a,len,cap,elems,rest,n,_,rfl,_,_,h3,h4,h5,h6,_⟩
    . refine ⟨[.sl false (P.cellsOf e) []],?_,[],rfl,by simp,λr h=>by simp at h⟩;simp only [RL,R];exact ⟨_,[],rfl,⟨none,0,0,rfl,rfl,⟨Nat.le_refl _,λh=>by cases h⟩,by simp,.inl trivial⟩,rfl⟩
    ·
     have each:∀ i ∈ List.range len,∃ r:Ls,(∃ cs,RL w E0 F0 Tr r cs/\∀ j c,cs[j]? = some c->w.cell? ⟨a.block,a.off+i * P.cellsOf e+j,none⟩=some c)/\(r.length=P.cellsOf e/\Shp P f e r):=by
      intro i hi;have hi:i < len:=by simpa using hi
      have hb:=h6 i hi;rw [List.getElem?_eq_getElem (by omega)] at hb;obtain ⟨cs',hc,ht⟩:=Option.bind_eq_some_iff.1 hb;obtain ⟨r,k1,k2⟩:=VU f e n cs' _ hty.2 ht;obtain ⟨q1,q2,q3⟩:=World.cells?_some hc;refine ⟨r,⟨cs',k1,λj c hj=>?_⟩,?_,k2⟩
      . have hj':j < cs'.length:=(List.getElem?_eq_some_iff.1 hj).1;exact Zf6 (by rw [q3 j (by omega)];exact hj)
      . have:=ZO k1;rw [<- this];exact q2
     obtain ⟨m,m1,m2,m3⟩:=Zun (List.range len) each;have m1':m.length=len:=by simpa using m1
     have hmax:m.length<=9223372036854775807:=by unfold maxLen at h4;omega
     refine ⟨[.sl false (P.cellsOf e) m],?_,m,rfl,hmax,m3⟩;simp only [RL,R];refine ⟨_,[],rfl,⟨some a,len,cap,rfl,m1'.symm,⟨h3,λh=>by cases h⟩,hmax,?_⟩,rfl⟩;by_cases hm:m=[]
     . exact .inl hm
     . right;have hlen:0 < len:=by
        rcases Nat.eq_zero_or_pos len with h0 | h0
        . subst h0;exact absurd (List.eq_nil_of_length_eq_zero m1') hm
        . exact h0
       have hspot:a.spot=none:=by
        have hb:=h6 0 hlen;rw [List.getElem?_eq_getElem (by omega)] at hb;obtain ⟨cs',hc,ht⟩:=Option.bind_eq_some_iff.1 hb;obtain ⟨q1,q2,q3⟩:=World.cells?_some hc;have:=q3 0 hty.1;rw [List.getElem?_eq_getElem (by omega)] at this;simpa [Addr.add] using Zfj this
       refine ⟨a.block,a.off,by cases a;simp_all,Zg9 m a.off (λi r hr=>?_)⟩;have hi:i < len:=by have:=(List.getElem?_eq_some_iff.1 hr).1;omega
       obtain ⟨cs',k1,k2⟩:=m2 i i r (by simp [hi]) hr;exact ⟨(m3 r (List.mem_of_getElem? hr)).1,cs',k1,λ_=>trivial,k2⟩
  . rename_i fs hu;obtain ⟨xs,n,_,_,h1,h2,h3⟩:=DataW.trod_struct hu h
    have:=ZaN (g:=tyB P f) (q:=Shp P f) (λt cs x a b=>VU f t n cs x a b) (λ_ _ _ _=>trivial) cs fs.toList 0 (P.cellsOf t) hty h1 (λfd hfd=>by
     obtain ⟨i,hi,rfl⟩:=List.getElem_of_mem hfd;have hi':i < fs.size:=by simpa using hi
     have:=h3 i fs[i] (by simp [hi']);rw [List.getElem?_eq_getElem (by omega)] at this
     exact ⟨_,by simpa using this⟩)
    simpa using this
  . rename_i n e hu;simp only [Bool.and_eq_true] at hty;obtain ⟨xs,m,_,_,h1,h2,h3⟩:=DataW.trod_array hu h;have hsz:=Nat.eq_of_beq_eq_true hty.1
    have:=Zcx (q:=Shp P f e) (λcs x b=>VU f e m cs x hty.2 b) cs n 0 (by rw [h1,hsz];simp) (λj _ hj=>by
     have:=h3 j (by omega);rw [List.getElem?_eq_getElem (by omega)] at this
     exact ⟨_,this⟩)
    simpa using this
  . cases hty
def argV (P:Program) (t:TypeId) (l:Ls):SV :=
 match P.underlying t with
 | some (.struct _)=>.agg l
 | some (.array _ _)=>.agg l
 | _=>l.headD .any
theorem ZgU {f:Nat} {t:TypeId} {r:Reach} {b0:Nat} {v:Value} {d:DataW H} {ps:List MemPlace} (hty:tyB P f t=true) (hv:Value.okWide P w r b0 t v) (h:DataW.Trod enc P w base spare held t v d ps) :
 ∃ l:Ls,R w E0 F0 Tr (argV P t l) v/\Shp P f t l:=by
 obtain ⟨fuel,h⟩:=h;obtain ⟨l,h1,h2⟩:=VU f t fuel _ _ hty h;refine ⟨l,?_,h2⟩;have one:v.oneCell'=true->R w E0 F0 Tr (l.headD .any) v:=λho=>by
  rw [Zcy ho] at h1;cases l with
  | nil=>simp [RL] at h1
  | cons s l=>simp only [RL] at h1;obtain ⟨y,q,e,h1,_⟩:=h1;simp at e;rw [e.1];exact h1
 unfold Value.okWide at hv;unfold argV;split at hv
 . rename_i hu;obtain ⟨cs,rfl,_,_⟩:=hv;rw [hu];simp only [R];exact ⟨cs,rfl,h1⟩
 . rename_i hu;obtain ⟨cs,rfl,_,_⟩:=hv;rw [hu];simp only [R];exact ⟨cs,rfl,h1⟩
 . rename_i k1 k2;have hone:v.oneCell'=true:=by
    cases f with
    | zero=>simp [tyB] at hty
    | succ f =>
     simp only [tyB] at hty;cases v<;>first | rfl | skip
     all_goals
      exfalso;split at hty<;>rename_i hu<;>first
       | (exact absurd hu (by first | exact k1 _ | exact k2 _ _))
       | (simp [Cell.okWide,Cell.ok,hu] at hv;done)
       | (cases hty;done)
   split
   . rename_i hu;exact absurd hu (k1 _)
   . rename_i hu;exact absurd hu (k2 _ _)
   . exact one hone
theorem U5 (hl:laidOutB P=true) {W W':World} (hb:Below W.heap.size W W'):∀ {ts:List TypeId} {vs:LZ} {ds:List (DataW H)} {ps:List MemPlace},(∀ t ∈ ts,P.readableRec t=true/\t < P.types.size) ->
 DataW.TrodAll enc P W 0 (λ_=>true) true ts vs ds ps->(∀ x ∈ ps,x.block < W.heap.size)->DataW.TrodAll enc P W' 0 (λb=>decide (b < W.heap.size)) true ts vs ds ps
 | [],_,_,_,_,h,_=>by
  obtain ⟨rfl,rfl,rfl⟩:=trodAll_nil h;exact rfl
 | t :: ts,_,_,_,ht,h,hlt=>by
  obtain ⟨v,vs1,d,ds1,a,b,rfl,rfl,rfl,h1,h2⟩:=trodAll_cons h;obtain ⟨q1,q2⟩:=ht t (by simp);exact ⟨a,b,Below.trod hl q1 q2 h1 hb (λx hx=>hlt x (by simp [hx])),U5 hl hb (λt' h'=>ht t' (by simp [h'])) h2 (λx hx=>hlt x (by simp [hx])),rfl⟩
theorem ZpJ {f:Func} {s:ChangeSpec} {tb:TypeId} {W W':World} {args:Array Value} {ds gs:List (DataW H)} {before:List MemPlace} (hl:laidOutB P=true) (hpar:f.params.toList.all (λt=>P.readableRec t && decide (t < P.types.size))=true)
 (hres:f.resultTypes = #[tb]) (htb:P.underlying tb=some .bool) (hvars:s.vars=[]) (hfn:s.fn H (ds ++ gs)={ results:=[.lit (.bool true)],args:=ds }) (hW:DataW.Whole enc P f.params.toList s.vars false W args.toList ds gs before)
 (hb:Below W.heap.size W W'):s.post enc P f false true false false W args (.bool true) W':=by
 have hW0:=hW;obtain ⟨p,q,h1,h2,rfl,_,_⟩:=hW;rw [hvars] at h2;obtain ⟨rfl,rfl⟩:=trodVars_none h2;have hpar':∀ t ∈ f.params.toList,P.readableRec t=true/\t < P.types.size:=λt ht=>by
  have:=List.all_eq_true.1 hpar t ht;simp only [Bool.and_eq_true,decide_eq_true_eq] at this;exact this
 refine ⟨ds,[],p ++ [],[],p,[],hW0,?_,?_,?_,Below.frame hb _,λh=>by cases h⟩
 . rw [hres];simp only [hfn];exact trodAll_mk1 (shut_bool htb true)
 . rw [hfn];exact U5 hl hb hpar' h1 (λx hx=>hW0.lt x (by simp [hx]))
 . rw [hfn,hvars];exact rfl
end
end Go.Sx
