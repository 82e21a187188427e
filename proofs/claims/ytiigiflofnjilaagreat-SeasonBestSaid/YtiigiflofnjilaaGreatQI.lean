/- Walks and plain laws that lead to the given statement, part 9 of 11. -/
import Derived.Test.YtiigiflofnjilaaGreatQH
import Derived.Test.YtiigiflofnjilaaGreatProg
set_option maxRecDepth 100000
set_option maxHeartbeats 8000000
set_option linter.all false
open Nat renaming beq_refl->nbr
namespace Go.Sx
open Go Go.RowKit
section
variable {P:Program} {C:Cx} {E:Env} {w w':World}
theorem Zhd {k o:Nat}:∀ {N u:Nat} {xs ys:List (List SV)},N<=xs.length->WG k o u N (xs ++ ys)=WG k o u N xs ++ ys
 | 0,_,_,_,_=>by simp only [WG]
 | N+1,u,[],ys,h=>by simp at h
 | N+1,u,x :: xs,ys,h=>by simp only [List.cons_append,WG];rw [Zhd (by simpa using h)]
theorem ZgQ {p:SV->SV->Prop} (hp:∀ s,p s s) {k o:Nat}:∀ {N:Nat} {xs:List (List SV)} {u u':Nat},(∀ i,i < N->p (.mr k (u+i)) (.mr k (u'+i)))->F2 p (WG k o u N xs).flatten (WG k o u' N xs).flatten
 | 0,xs,u,u',_=>by simp only [WG];exact UL hp _
 | N+1,[],u,u',_=>by simp only [WG];exact .nil
 | N+1,r :: xs,u,u',h=>by
  simp only [WG,List.flatten_cons]
  exact ZbI (ZgK (by simpa using h 0 (by omega)) o (UL hp r)) (ZgQ hp λi hi=>by
   have:=h (i+1) (by omega)
   rw [show u+(i+1)=u+1+i from by omega,show u'+(i+1)=u'+1+i from by omega] at this;exact this)
theorem Zhv {n ok:Nat->Prop} {y:Value} {m:Nat} {xs:List (List SV)} {T:TypeId} (h:ZsU w E n ok y m xs T):∃ cs,VM w y m xs.length cs/\RL w E n ok xs.flatten cs/\((∀ r ∈ xs,r.length=m)\/xs=[]):=by
 rcases h with ⟨rfl,a0,h⟩ | ⟨b,cap,cs,h1,h2,h3,⟨h4,_⟩,h5,h6,h7⟩
 . exact ⟨[],by rw [h];exact ⟨a0,0,rfl,Nat.le_refl _,by simp,.inl rfl⟩,by simp [RL],.inr rfl⟩
 . refine ⟨_,⟨_,cap,h1,h4,?_,.inr ⟨b,0,rfl,λj c hj=>?_⟩⟩,h7,.inl h6⟩
   . have:=Nat.mul_le_mul_right m h4;simp only [List.length_take,Array.length_toList,h3];exact Nat.min_eq_left this
   . rw [Nat.zero_add,cell_of_row _ _ _ _ _ _ h2];have hj':j < xs.length * m:=by have:=(List.getElem?_eq_some_iff.1 hj).1;simp at this;omega
     rw [List.getElem?_take_of_lt hj'] at hj;simpa using hj
theorem Zfm {hp:List (Nat × HB)} {n:Nat->Prop} {k v m o m':Nat} {xs ys:List (List SV)} {T T':TypeId} {inn:List (List (List SV))} {y:Value} {b cap:Nat} {cs:Array Value}
 (h:HSim C E hp n w) (hk:lkh k hp = .rws v m xs T o m' inn T')
 (ho:w'.os=w.os) (ht:w'.tape=w.tape) (hu:w'.output=w.output) (hsz:w.heap.size<=w'.heap.size) (hsame:∀ b,b < w.heap.size->¬ Zcy (E.hv k v) b->w'.heap[b]? = w.heap[b]?)
 (e1:y = .slice (some ⟨b,0,none⟩) (xs.length+ys.length) cap) (eb:Zcy (E.hv k v) b\/w.heap.size<=b) (e2:w'.heap[b]? = some (.cells cs T (0,0))) (e3:cs.size=cap * m) (e4:xs.length+ys.length<=cap/\cap≠0) (e5:xs.length+ys.length<=9223372036854775807)
 (e6:(∀ r ∈ xs,r.length=m)/\∀ r ∈ ys,r.length=m) (e7:RL w E n (okS C E hp) ((WG k o (v+1) inn.length xs).flatten ++ ys.flatten) (cs.toList.take ((xs.length+ys.length) * m))) :
 ∃ E',(∀ j,n j->Ele E E' j j)/\E'.hv k (v+1+inn.length)=y/\v+1+inn.length < E'.iss k/\n k/\HSim C E' ((k,.rws (v+1+inn.length) m (xs ++ ys) T o m' inn T') :: hp) n w'/\ZD w w' (okS C E hp) (okS C E' ((k,.rws (v+1+inn.length) m (xs ++ ys) T o m' inn T') :: hp)):=by
 have hkn:n k:=by
  rcases Classical.em (n k) with h' | h'
  . exact h'
  . rw [h.kn k h'] at hk;cases hk
 have hb0:=h.bk k;rw [hk] at hb0;simp only [Z9] at hb0;obtain ⟨a1,a2,a3,a4⟩:=hb0;generalize hV:v+1+inn.length=V at *
 let E':Env:=⟨E.β,λj u=>if j=k/\V<=u then (if u=V then y else E.hv k (u - V+v)) else E.hv j u,λj=>if j=k then V+1+inn.length else E.iss j⟩
 have hv0:∀ j u,j≠k\/u < V->E'.hv j u=E.hv j u:=λj u hj=>by
  simp only [E'];rw [if_neg];rintro ⟨rfl,q⟩;rcases hj with hj | hj
  . exact hj rfl
  . omega
 have hvV:E'.hv k V=y:=by simp [E']
 have hvi:∀ i,E'.hv k (V+(i+1))=E.hv k (v+(i+1)):=λi=>by
  show (if k=k/\V<=V+(i+1) then (if V+(i+1)=V then y else E.hv k (V+(i+1) - V+v)) else E.hv k (V+(i+1)))=_;rw [if_pos ⟨rfl,by omega⟩,if_neg (by omega),show V+(i+1) - V+v=v+(i+1) from by omega]
 have hik:E'.iss k=V+1+inn.length:=if_pos rfl
 have hE:∀ j,n j->Ele E E' j j:=λj _=>⟨rfl,by
  by_cases hj:j=k
  . subst hj;simp [E',a1];omega
  . simp [E',hj],λu hu'=>by
  by_cases hj:j=k
  . subst hj;rw [a1] at hu';exact hv0 _ _ (.inr hu')
  . exact hv0 _ _ (.inl hj)⟩
 have hoc:∀ j b,j≠k->(occ E' j (lkh j ((k,.rws V m (xs ++ ys) T o m' inn T') :: hp)) b↔occ E j (lkh j hp) b):=λj b hj=>by
  rw [Zp,if_neg hj];have hvv:∀ u,E'.hv j u=E.hv j u:=λu=>hv0 j u (.inl hj);have hbb:E'.β j=E.β j:=rfl;cases hl:lkh j hp<;>simp only [occ,hvv,hbb]
 have hok:∀ i b,i<=inn.length->Zcy (E.hv k (v+i)) b->occ E k (lkh k hp) b:=λi b hi hb=>by rw [hk];exact ⟨i,hi,hb⟩
 have hdy:∀ b',Zcy y b'->b'=b:=λb' hb=>by
  obtain ⟨len,c2,q1,q2⟩:=hb;rw [e1] at q1;simp at q1;exact q1.1.symm
 have hocn:∀ b,occ E' k (lkh k ((k,.rws V m (xs ++ ys) T o m' inn T') :: hp)) b->occ E k (lkh k hp) b\/w.heap.size<=b:=λb'=>by
  rw [Zp,if_pos rfl];rintro ⟨i,hi,hb⟩;cases i with
  | zero =>
   rw [Nat.add_zero,hvV] at hb;have:=hdy b' hb;subst this;rcases eb with q | q
   . exact .inl (hok 0 _ (Nat.zero_le _) q)
   . exact .inr q
  | succ i=>rw [hvi] at hb;exact .inl (hok (i+1) _ hi hb)
 have hst:ZD w w' (okS C E hp) (okS C E' ((k,.rws V m (xs ++ ys) T o m' inn T') :: hp)):=λb' hb hs=>by
  have hlt':b' < w.heap.size:=by
   obtain ⟨o,ho⟩:=Option.isSome_iff_exists.1 hs;exact (Array.getElem?_eq_some_iff.1 ho).1
  refine ⟨⟨hb.1,λj hj=>?_⟩,hsame b' hlt' (λq=>hb.2 k (hok 0 _ (Nat.zero_le _) q))⟩;by_cases hjk:j=k
  . subst hjk;rcases hocn b' hj with q | q
    . exact hb.2 _ q
    . omega
  . exact hb.2 j ((hoc j b' hjk).1 hj)
 have hidx:∀ i,i < inn.length->∀ b',Zcy (E.hv k (v+(i+1))) b'->w'.heap[b']? = w.heap[b']?:=λi hi b' hb =>
  hsame b' (Yt h (hok (i+1) b' hi hb)) (λq=>by have:=a4 0 (i+1) b' (Nat.zero_le _) hi q hb;omega)
 refine ⟨E',hE,hvV,by rw [hik];omega,hkn,⟨λj hj=>?_,λj=>?_,λj j' b' h1 h2=>?_,λj b' h1=>?_,⟨ho.trans h.kp.os,ht.trans h.kp.tape,hu.trans h.kp.output,Nat.le_trans h.kp.size hsz,λb' h1 h2=>?_⟩,λj hj=>(by obtain ⟨p1,p2⟩:=h.pin j hj;exact ⟨p1,p2.trans (hE j p1)⟩)⟩,hst⟩
 . rw [Zp,if_neg (λe=>hj (by rw [e];exact hkn))];exact h.kn j hj
 . rw [Zp];by_cases hj:j=k
   . subst hj;rw [if_pos rfl];simp only [Z9];refine ⟨hik,by rw [List.length_append];omega,λi mm rows TT hr=>?_,λi i' b' hi hi' g1 g2=>?_⟩
     . cases i with
       | zero =>
        simp only [YF,Option.some.injEq,Prod.mk.injEq] at hr;obtain ⟨rfl,rfl,rfl⟩:=hr;rw [Nat.add_zero,hvV];have hl:=YV j o (V+1) inn.length (xs ++ ys);refine .inr ⟨b,cap,cs,by rw [hl,List.length_append];exact e1,e2,e3,by rw [hl,List.length_append];exact e4,by rw [hl,List.length_append];exact e5,XO.2 λr hr=>?_,?_⟩
        . rcases List.mem_append.1 hr with hr | hr
          . exact e6.1 r hr
          . exact e6.2 r hr
        . rw [hl,List.length_append,Zhd a2,List.flatten_append];have e8:=ZJ hst.c hE (λ_ h=>h) _ _ e7;refine UD ?_ e8;refine ZbI (ZgQ (p:=λs s'=>∀ y,R w' E' n (okS C E' ((j,.rws V m (xs ++ ys) T o m' inn T') :: hp)) s y->R w' E' n (okS C E' ((j,.rws V m (xs ++ ys) T o m' inn T') :: hp)) s' y) (λs y hy=>hy) λi hi y hy=>?_) (UL (λs y hy=>hy) _);simp only [R] at hy ⊢;obtain ⟨q1,q2,q3,q4⟩:=hy
          refine ⟨q1,by rw [hik];omega,?_,q4⟩;rw [q3,hv0 j (v+1+i) (.inr (by omega)),show V+1+i=V+(i+1) from by omega,hvi,show v+(i+1)=v+1+i from by omega]
       | succ i =>
        have hil:=Zak hr;rw [hvi];simp only [YF] at hr;have hr2:YF j v m xs T o m' inn T' (i+1)=some (mm,rows,TT):=by simp only [YF];exact hr
        exact (a3 (i+1) mm rows TT hr2).mono hst.c hE (λ_ h=>h) (hidx i (by omega))
     . have aux:∀ i i',i<=inn.length->i'<=inn.length->Zcy (E'.hv j (V+i)) b'->Zcy (E'.hv j (V+i')) b'->i=0->i'=0:=λi i' hi hi' g1 g2 hz=>by
        subst hz;rw [Nat.add_zero,hvV] at g1;have:=hdy b' g1;subst this;cases i' with
        | zero=>rfl
        | succ i' =>
         rw [hvi] at g2;rcases eb with q | q
         . have:=a4 0 (i'+1) _ (Nat.zero_le _) hi' q g2;omega
         . have:=Yt h (hok (i'+1) _ hi' g2);omega
       cases i with
       | zero=>exact (aux 0 i' hi hi' g1 g2 rfl).symm
       | succ i =>
        cases i' with
        | zero=>exact aux 0 (i+1) hi' hi g2 g1 rfl
        | succ i' =>
         rw [hvi] at g1 g2;exact a4 (i+1) (i'+1) b' hi hi' g1 g2
   . rw [if_neg hj];refine Yh hst hE (λ_ h=>h) ?_ (λb' hob=>hsame b' (Yt h hob) (λq=>hj (h.dj j k b' hob (hok 0 _ (Nat.zero_le _) q)))) (by simp [E',hj]) (h.bk j);rcases Classical.em (n j) with h' | h'
     . exact .inr h'
     . exact .inl (h.kn j h')
 . by_cases hj:j=k<;>by_cases hj':j'=k
   . omega
   . subst hj;rw [hoc j' b' hj'] at h2;rcases hocn b' h1 with q | q
     . exact h.dj _ _ b' q h2
     . have:=Yt h h2;omega
   . subst hj';rw [hoc j b' hj] at h1;rcases hocn b' h2 with q | q
     . exact h.dj _ _ b' h1 q
     . have:=Yt h h1;omega
   . exact h.dj j j' b' ((hoc j b' hj).1 h1) ((hoc j' b' hj').1 h2)
 . by_cases hj:j=k
   . subst hj;rcases hocn b' h1 with q | q
     . exact h.lo _ b' q
     . exact .inl (Nat.le_trans h.kp.size q)
   . exact h.lo j b' ((hoc j b' hj).1 h1)
 . rw [hsame b' (Nat.lt_of_lt_of_le h1 h.kp.size) (λq=>by rcases h.lo k b' (hok 0 _ (Nat.zero_le _) q) with g | g;omega;exact h2 _ g)];exact h.kp.block b' h1 h2
theorem Zgq {ty:TypeId} {ax ay:Operand} {az:Array Operand} {ts:Array TypeId} {σ : St} {r:KT} {K:RK} {k v m o m':Nat} {xs ys:List (List SV)} {inn:List (List (List SV))} {T T' t:TypeId} {u bs:Nat}
 (hx:ZaJ σ ax = .mr k v) (hy:Zfp m (ZaJ σ ay)=some ys) (hk:lkh k σ.hp = .rws v m xs T o m' inn T')
 (has:az = #[ax,ay]) (hts:ts = #[t,t]) (ht:P.underlying t=some (.slice T)) (hsz:X9 P T=some m) (hby:Wc P T=some bs) (hz:(YZ P T).map (λz=>z.cells.size)=some m) (hbs:Nat.blt 0 bs=true) (hm0:Nat.blt 0 m=true)
 (hone:∀ c ∈ ys,YH c=true) (hys:ys≠[]) (hlim:(xs.length+ys.length) * bs<=140737488355328)
 (h1:XA u σ.gs=false) (h2:Nat.blt u σ.N=true) (h:r ⟨(u,.mr k (v+1+inn.length)) :: σ.fr,(k,.rws (v+1+inn.length) m (xs ++ ys) T o m' inn T') :: σ.hp,σ.n,σ.N,σ.gs⟩ K) :
 RAW P (some u) (.call ⟨.builtin .append,az,ts⟩) ty σ r K:=by
 intro o' C E a w next Q q1 q2 q3 hS hn hq;have hxv:=Vx hS hx (λ_ _ _=>by simp);have hng:∀ j b s,ZaJ σ ay≠.gd j b s:=λj b s e=>by rw [e] at hy;simp [Zfp] at hy
 have hyv:=Vx hS (s:=ZaJ σ ay) rfl hng;simp only [R] at hxv;obtain ⟨hnk,hvi,hxv,_⟩:=hxv;have hb:=hS.hs.bk k;rw [hk] at hb;simp only [Z9] at hb;obtain ⟨a1,a2,a3,a4⟩:=hb;have hR0:=a3 0 _ _ _ rfl;rw [Nat.add_zero] at hR0;have hl1:=YV k o (v+1) inn.length xs;obtain ⟨cx,x1,x2,x3⟩:=Zhv hR0;obtain ⟨cy,y1,y2,y3⟩:=V4 hyv hy;have x3':∀ r ∈ xs,r.length=m:=by
  rcases x3 with x3 | x3
  . exact XO.1 x3
  . intro r hr;have:xs=[]:=List.eq_nil_of_length_eq_zero (by rw [<- hl1,x3];rfl);rw [this] at hr;simp at hr
 have hone':∀ z ∈ cy,z.oneCell'=true:=by
  have:∀ l:List (List SV),(∀ c ∈ l,YH c=true)->YH l.flatten=true:=by
   intro l
   induction l with
   | nil=>intro _;rfl
   | cons c l ih=>intro hh;rw [List.flatten_cons];exact VV (hh c (by simp)) (ih (λd hd=>hh d (by simp [hd])))
  exact Xn (this _ hone) y2
 have hb0:0 < bs:=by simpa [Nat.blt_eq] using hbs
 have hlim2:xs.length+ys.length<=140737488355328:=Nat.le_trans (Nat.le_mul_of_pos_right _ hb0) hlim;have hcy:cy.length=ys.length * m:=by rw [ZF y2];exact XN y3
 have hcx:cx.length=xs.length * m:=by rw [ZF x2];rw [XN (XO.2 x3'),hl1]
 have hyl:ys.length≠0:=λe=>hys (List.eq_nil_of_length_eq_zero e);obtain ⟨i,hi⟩:∃ i,P.info? T=some i:=by
  unfold X9 at hsz;cases hq:P.info? T with
  | none=>simp [hq] at hsz
  | some i=>exact ⟨i,rfl⟩
 have hszi:i.size=m:=by simpa [X9,hi] using hsz
 have hbyi:i.bytes=bs:=by simpa [Wc,hi] using hby
 obtain ⟨z,hz1,hz2⟩:∃ z,YZ P T=some z/\z.cells.size=m:=by
  cases hzz:YZ P T with
  | none=>simp [hzz] at hz
  | some z=>exact ⟨z,rfl,by simpa [hzz] using hz⟩
 have hzi:i.zero=some z:=by simpa [YZ,hi] using hz1
 have hsz':∀ w,(sizeOf T).run P w = .ok m w:=λw=>Yd hsz;have fin:∀ (y':Value) (w':World),(Builtin.append_ #[t,t] ty #[a.eval ax,a.eval ay]).run P w = .ok y' w'->y'.oneCell'=true->w'.os=w.os->w'.tape=w.tape->w'.output=w.output->w.heap.size<=w'.heap.size ->
  (∀ b,b < w.heap.size->¬ Zcy (E.hv k v) b->w'.heap[b]? = w.heap[b]?) ->
  (∃ b cap cs,y' = .slice (some ⟨b,0,none⟩) (xs.length+ys.length) cap/\(Zcy (E.hv k v) b\/w.heap.size<=b)/\w'.heap[b]? = some (.cells cs T (0,0))/\cs.size=cap * m/\(xs.length+ys.length<=cap/\cap≠0) /\
   RL w E (ltn σ.n) (okS C E σ.hp) ((WG k o (v+1) inn.length xs).flatten ++ ys.flatten) (cs.toList.take ((xs.length+ys.length) * m))) ->
  o'.wpq C.rd P a w next Q:=λy' w' hrun ho1 g1 g2 g3 g4 g5 ⟨b,cap,cs,f1,f2,f3,f4,f5,f6⟩=>by
  obtain ⟨E',k1,k2,k3,k4,k5,k6⟩:=Zfm hS.hs hk g1 g2 g3 g4 g5 f1 f2 f3 f4 f5 (by omega) ⟨x3',y3⟩ f6;have hx:(execOp a.eval o').run P w = .ok (.value y') w':=by
   obtain ⟨dst',op',ty',pos,after,guard⟩:=o';simp only at q2 q3;subst q2;subst q3;subst has hts;simp [execOp,resolve,invoke,builtin,hrun]
  refine ZM hx (by simp) ?_;show next (a.put o'.dst _) w';rw [q1]
  exact hn _ E' _ _ h (XV (σ:=σ) (hp':=(k,.rws (v+1+inn.length) m (xs ++ ys) T o m' inn T') :: σ.hp) hS k6 k1 (Nat.le_refl _) k5 (λhh=>by rw [ZV.2 hh] at h1;cases h1) (by simpa [Nat.blt_eq] using h2) (λ_ _ _ e=>by cases e)
   (by simp only [R];exact ⟨k4,k3,k2.symm,ho1⟩))
 have hfx:=λw' (hw:∀ a,w'.cell? a=w.cell? a)=>Z4 (P:=P) (w':=w') (by rw [hszi];rw [hl1] at x1;exact x1:VM w (E.hv k v) i.size xs.length cx) hw;have hfy:=λw' (hw:∀ a,w'.cell? a=w.cell? a)=>Z4 (P:=P) (w':=w') (by rw [hszi];exact y1:VM w (a.eval ay) i.size ys.length cy) hw;obtain ⟨ay',capy,hye,hcy',_,_⟩:=y1;obtain ⟨ax',capx,hxe,hxl,_,_⟩:=x1;rw [hxe] at hfx;rw [hye] at hfy;rw [hl1] at hxe hxl hfx
 by_cases hfit:xs.length+ys.length<=capx
 ·
  rcases hR0 with ⟨g0,a0,g1⟩ | ⟨b',cap,cs,g1,g2,g3,g4,g5,g6,g7⟩
  . rw [hxe] at g1;simp at g1;omega
  . rw [hl1] at g1 g4 g7;rw [hxe] at g1;simp at g1;obtain ⟨rfl,rfl⟩:=g1;have hle:xs.length * m+cy.length<=cs.toList.length:=by
     have e3:cs.toList.length=capx * m:=by rw [Array.length_toList];exact g3
     rw [hcy,e3,<- Nat.add_mul];exact Nat.mul_le_mul_right m hfit
    obtain ⟨w',s1,s2⟩:=Xa (P:=P) cy (w:=w) (b:=b') (o:=xs.length * m) (i:=0) (cs:=cs.toList) (T:=T) (by simpa using g2) (by simpa using hle) hone';refine fin (.slice (some ⟨b',0,none⟩) (xs.length+ys.length) capx) w' ?_ rfl s2.os s2.tape s2.output (Nat.le_of_eq s2.size.symm) (λb hb hno=>s2.same b (λe=>by subst e;exact hno ⟨_,_,hxe,g4.2⟩)) ⟨b',capx,(ZN cs.toList (xs.length * m) cy).toArray,rfl,.inl ⟨_,_,hxe,g4.2⟩,by simpa using s2.here,by simp [ZR,g3],⟨hfit,g4.2⟩,?_⟩
    . rw [hxv,hxe,hye];simp [Builtin.append_,Sem.run_bind,run_underlying ht,hsz',Builtin.lenOf,hfit,<- hszi,hfy w (λ_=>rfl),Xd];rw [hszi,s1];rfl
    . rw [Nat.add_mul,<- hcy];rw [List.toList_toArray,Xp (Nat.le_refl _) hle];have e1:ZN (List.take (xs.length * m+cy.length) cs.toList) (xs.length * m) cy=List.take (xs.length * m) cs.toList ++ cy:=by
       rw [VX _ _ _ (by rw [List.length_take,Nat.min_eq_left hle];exact Nat.le_refl _),List.take_take,Nat.min_eq_left (by omega),List.drop_of_length_le (by rw [List.length_take,Nat.min_eq_left hle];exact Nat.le_refl _),List.append_nil]
      rw [e1];exact Yi g7 y2
 ·
  have hn':¬ (xs.length+ys.length<=capx):=hfit;have h63':¬ (9223372036854775807 < ((xs.length:Int)+(ys.length:Int))):=by omega
  have hfit':Builtin.nextslicecap (xs.length+ys.length) capx * i.bytes<=281474976710656:=growslice_fits (by omega) (by rw [hbyi];exact hlim);have h48':¬ (281474976710656 < Builtin.nextslicecap (xs.length+ys.length) capx * i.bytes):=by omega
  have hcap:xs.length+ys.length<=grownCap w (xs.length+ys.length) capx T:=by unfold grownCap;simp only [Question.cut];omega
  refine fin (.slice (some ⟨w.heap.size,0,none⟩) (xs.length+ys.length) (grownCap w (xs.length+ys.length) capx T)) (w.drew.alloc (.cells (cx.toArray ++ cy.toArray ++ Builtin.zeroCells z.cells (grownCap w (xs.length+ys.length) capx T - (xs.length+ys.length))) T)) ?_ rfl rfl rfl rfl
   (by have:=(WS.alloc (Nat.le_refl _) (.cells (cx.toArray ++ cy.toArray ++ Builtin.zeroCells z.cells (grownCap w (xs.length+ys.length) capx T - (xs.length+ys.length))) T):Below w.heap.size w _).size;exact this)
   (λb hb _=>(WS.alloc (Nat.le_refl _) _:Below w.heap.size w _).block b hb) ⟨w.heap.size,grownCap w (xs.length+ys.length) capx T,_,rfl,.inr (Nat.le_refl _),heap_alloc_new _ _,?_,⟨hcap,by omega⟩,?_⟩
  . rw [hxv,hxe,hye];simp [Builtin.append_,run_underlying ht,sizeOf,typeInfo,zeroValue,hi,hzi,Builtin.lenOf,hn',h63',h48',Question.forced,hfx w.drew (λ_=>rfl),hfy w.drew (λ_=>rfl),newRow,grownCap];congr 2;apply Array.ext';simp [List.append_assoc]
  . simp only [Array.size_append,List.size_toArray,Builtin.zeroCells,Array.size_map,Array.size_range,hz2,hcx,hcy];rw [<- Nat.add_mul,<- Nat.add_mul];congr 1;omega
  . have e:∀ Z:Array Value,List.take ((xs.length+ys.length) * m) (cx.toArray ++ cy.toArray ++ Z).toList=cx ++ cy:=λZ=>by
     have e9:(cx.toArray ++ cy.toArray ++ Z).toList=(cx ++ cy) ++ Z.toList:=by simp
     rw [e9];exact List.take_left' (by rw [List.length_append,Nat.add_mul,hcx,hcy])
    rw [e];exact Yi x2 y2
end
theorem ZoN {m:Nat} {σ : St} (t k v:Nat) {mm T o m' T':Nat} {xs:List (List SV)} {inn:List (List (List SV))} (hm:Nat.ble m k=true) (hg:σ.gs=[]) (hl:lk t σ.fr = .mr k v) (hk:lkh k σ.hp = .rws v mm xs T o m' inn T') :
 Ent m σ ⟨(t,.sl false mm (ZdL o m' inn xs)) :: σ.fr,(k,.gone) :: σ.hp,σ.n,σ.N,σ.gs⟩ :=
 ZgE t k _ hg (λ_ _ _ e=>by cases e) λC E w y hmc hh hR=>by
  rw [hl] at hR;obtain ⟨g1,g2⟩:=UJ hh k;have hbk:=hh.bk k;rw [hk] at hbk;have hok:∀ i b,i<=inn.length->Zcy (E.hv k (v+i)) b->okS C E ((k,.gone) :: σ.hp) b:=λi b hi hb=>by
   have hoc:occ E k (lkh k σ.hp) b:=by rw [hk];exact ⟨i,hi,hb⟩
   refine ⟨?_,λj ho=>?_⟩
   . rcases hh.lo k b hoc with q | q
     . exact .inr q
     . have h1:=hmc.2 k b q;have h2:=hmc.1;have h3:=Nat.le_of_ble_eq_true hm;omega
   . rw [Zp] at ho;split at ho
     . exact ho.elim
     . exact absurd (hh.dj j k b ho hoc).symm (by omega)
  have hval:=ZtC g2 hok hbk;have hy:y=E.hv k v:=by simp only [R] at hR;exact hR.2.2.1
  rw [hy];exact hval
end Go.Sx
namespace Go.Proofs.YtiigiflofnjilaaGreat
open Go Go.Sx
def ZvZ:SC:=(sr1 [o1 2 (.mv (.c (.slice none 0 0)))] (.seq (sr1 [m1 3 0,o1 4 (.isn (.t 3))] (Ji 4 (sr1 [o1 2 (.mv (.c (.slice none 0 0)))] .ret) .skip)) (sr1 [o1 5 (.bsl 1 3 []),m1 6 0,o1 7 (.cln 1 8 3 (.t 5) (.t 6)),m1 2 7] .ret)))
def ZtT:List RV:=[.tmp 2]
theorem nk110:Tryz.f110.ntmps=8:=by kernel_rfl
theorem bk110:YO Tryz.prog 110=true:=by kernel_rfl
theorem ZsX:XM Tryz.prog ZvZ ((Tryz.f110.body).getD .skip)=true:=by kernel_rfl
theorem Zr0:Wu Tryz.prog ZtT Tryz.f110.results.toList=true:=by kernel_rfl
theorem mk110 {n0:Nat} {hp0:List (Nat × HB)} {args:List SV} {Z8:Ot->Prop} (hh:hpb n0 hp0) (hx:∀ o,Z8 o->KX o.res/\KXP o.hp) (h:sx Tryz.prog Y0 n0 ZvZ ⟨X8 0 args,hp0,n0,8,[]⟩ (Zbm ZtT λo=>∃ o',Z8 o'/\ZcU n0 o o')) (hA:Nat.ble args.length 8=true:=by rfl):CtM Tryz.prog 110 hp0 n0 args Z8:=YN Tryz.func110 rfl bk110 ZsX Zr0 nk110 (Nat.le_of_ble_eq_true hA) hh hx h
def Zim:Ins:=o1 21 (.ld (.t 4) 1 false)
def ZqV:Ins:=o1 22 (.ld (.t 9) 1 false)
def ZqP:Ins:=⟨some 23,.callm 110 [.t 22],none,[1]⟩
def ZpR:Ins:=⟨some 24,.bsl 1 35 [.t 23],none,[2]⟩
def ZxL:Ins:=⟨some 25,.raw (Go.Op.call { callee:=(Go.Callee.builtin Go.Builtin.append),args:=#[(Go.Operand.tmp 21),(Go.Operand.tmp 24)],argTypes:=#[144,144] }) 144,none,[0,2,3]⟩
def ZwR:Ins:=⟨none,.st (.t 4) (.t 25) 1,none,[0,1,2,3,4]⟩
attribute [go_sem] Zim ZqV ZqP ZpR ZxL ZwR
def ZiM:List Ins:=[Zim,ZqV,ZqP,ZpR,ZxL,ZwR]
def ZxU:FB:=(.seq (.gh (.reg [
 o1 8 (.box (.t 0) 0 201),
 o1 9 (.box (.t 1) 0 35),
 o1 10 (.alloc [.bool false] 4)]))
 (.seq (.seq (.reg [
 o1 13 (.addo (.t 8) 1),
 o1 14 (.ld (.t 13) 1 false),
 o1 15 (.ld (.t 2) 1 false),
 o1 16 (.bin .gtr (.t 14) (.t 15))])
 (.cond (.t 16)
 (.seq (.reg [
  ⟨none,.st (.t 10) (.c (.bool true)) 1,none,[]⟩])
  .ret)
 .skip))
 (.seq (.seq (.reg [
 o1 17 (.addo (.t 8) 0),
 o1 18 (.ld (.t 17) 1 false),
 o1 19 (.ld (.t 3) 1 false),
 o1 20 (.bin .eql (.t 18) (.t 19))])
 (.cond (.t 20)
 (.seq (.gh (.regl ZiM))
  (.seq (.reg [
  o1 26 (.ld (.t 4) 1 false),
  o1 27 (.len (.t 26)),
  o1 28 (.bin .leq (.t 27) (.c (.int .i64 200))),
  ⟨none,.st (.t 10) (.t 28) 1,none,[]⟩])
  .ret))
 .skip))
 (.seq (.reg [
 o1 29 (.ld (.t 5) 1 false),
 o1 30 (.addo (.t 8) 0),
 o1 31 (.ld (.t 30) 1 false),
 ⟨none,.raw (Go.Op.mapUpdate 189 (Go.Operand.tmp 29) (Go.Operand.tmp 31) (Go.Operand.const (Go.Value.bool Bool.true))) 0,none,[]⟩])
 (.dfr [
 o1 32 (.ld (.t 5) 1 false),
 o1 33 (.addo (.t 8) 0),
 o1 34 (.ld (.t 33) 1 false)] (.t 32) (.t 34) 189
 (.tail (.seq (.seq (.reg [
 o1 35 (.ld (.t 6) 4 true),
 o1 36 (.addo (.t 8) 0),
 o1 37 (.ld (.t 36) 1 false),
 o1 38 (.callm 111 [.t 35,.t 37])])
 (.block 0 (.gh (.rfun (.t 38) [39,40] (.seq (.reg [
  m1 11 39])
  (.reg [
  m1 12 40]))
  (.block 1 (.seq (.regs [0,1,2,3,4,5,6,7,8,9,10,11,12,13,14,15,16,17,18,19,20,21,22] ⟨[
   .op (o1 41 (.ld (.t 5) 1 false)),
   .op (m1 42 12)],0,0,[
   ⟨some 43,.raw (Go.Op.lookup 189 (Go.Operand.tmp 41) (Go.Operand.tmp 42) Bool.false) 4,none,[0,1]⟩]⟩ [⟨[
   .op ⟨some 44,.un .not (.t 43),none,[2]⟩,
   .op ⟨some 45,.mv (.t 44),none,[3]⟩,
   .op ⟨some 46,.ld (.t 7) 1 false,some (45,true),[4]⟩,
   .op ⟨some 47,.mv (.t 12),some (45,true),[4]⟩,
   .op ⟨some 48,.ld (.t 6) 4 true,some (45,true),[4]⟩,
   .op ⟨some 49,.mv (.t 11),some (45,true),[4]⟩,
   .op ⟨some 50,.addo (.t 8) 1,some (45,true),[4]⟩,
   .op ⟨some 51,.ld (.t 50) 1 false,some (45,true),[4,9]⟩,
   .op ⟨some 52,.addo (.t 8) 1,some (45,true),[4]⟩,
   .op ⟨some 53,.ld (.t 52) 1 false,some (45,true),[4,11]⟩,
   .op ⟨some 54,.build zv0 [(0,1,.t 51),(1,1,.t 53)],some (45,true),[4,10,12]⟩,
   .op ⟨some 55,.call 79 [.t 48,.t 49,.t 54],some (45,true),[4,7,8,13]⟩,
   .op ⟨some 56,.idx (.t 55) (.c (.int .i64 1)) 2 1 false,some (45,true),[4,14]⟩,
   .op ⟨some 57,.build zv0 [(0,1,.t 47),(1,1,.t 56)],some (45,true),[4,6,15]⟩,
   .op ⟨some 58,.ld (.t 9) 1 false,some (45,true),[4]⟩,
   .op ⟨some 59,.mv (.t 11),some (45,true),[4]⟩,
   .op ⟨some 60,.call 112 [.t 58,.t 59],some (45,true),[4,14,17,18]⟩],0,0,[
   ⟨some 61,.calvm (.t 46) [.t 57,.t 60],some (45,true),[4,5,16,19]⟩,
   ⟨some 62,.un .not (.t 61),some (45,true),[4,20]⟩,
   ⟨some 63,.pick (.t 45) (.t 62) (.c (.bool false)),none,[4,21]⟩]⟩])
   (.cond (.t 63)
   (.seq (.reg [
    ⟨none,.st (.t 10) (.c (.bool false)) 1,none,[]⟩])
    .ret)
   .skip)))))))
 (.seq (.reg [
 ⟨none,.st (.t 10) (.c (.bool true)) 1,none,[]⟩])
 .ret))))))))
def ZwX:List RV:=[.cell 10 1 false]
theorem nk109:Tryz.f109.ntmps=64:=by kernel_rfl
theorem bk109:YO Tryz.prog 109=true:=by kernel_rfl
theorem Zqi:Za4 Tryz.prog ZxU ((Tryz.f109.body).getD .skip)=true:=by kernel_rfl
theorem ZnG:Wu Tryz.prog ZwX Tryz.f109.results.toList=true:=by kernel_rfl
theorem mk109 {n0:Nat} {hp0:List (Nat × HB)} {args:List SV} {Z8:Ot->Prop} (hh:hpb n0 hp0) (hx:∀ o,Z8 o->KX o.res/\KXP o.hp) (h:fx Tryz.prog n0 ZxU ⟨X8 0 args,hp0,n0,64,[]⟩ (Zbm ZwX λo=>∃ o',Z8 o'/\ZcU n0 o o')) (hA:Nat.ble args.length 64=true:=by rfl):CtM Tryz.prog 109 hp0 n0 args Z8:=ZcM Tryz.func109 rfl bk109 Zqi ZnG nk109 (Nat.le_of_ble_eq_true hA) hh hx h
def ck65:SC:=(sr1 [o1 6 (Jz 0 0 25),o1 8 (Jz 2 0 3),o1 10 (Jz 4 0 3),o1 11 (Jz 5 0 27),o1 12 (.mv (.c (.slice none 0 0))),Jk 13 0] (sr1 [o1 20 (lt 6 2),o1 21 (lt 11 2),o1 22 (J2 75 20 21),m1 19 22,o1 23 (Je 19 0),o1 24 (Je 19 1),o1 14 (.alloc ZqU
 160),Js 14 23 4,m1 15 24] (.seq (.block 0 (sr1 [m1 26 15,o1 27 (Jc .neq 26 0),m1 25 27] (Ji 25 (sr1 [m1 28 15,o1 12 (.mv (.c (.slice none 0 0))),m1 13 28] .ret) (sr1 [o1 30 (ao 6 0),o1 31 (lf 30 1),o1 32 (Jl 31),o1 33 (Jc .sub 32 1),m1 34 1,o1 35 (lf
 8 1),o1 36 (.bsl 1 3 [.t 34,.t 35]),o1 37 (.call 76 [cn 0,.t 33,.t 36]),o1 38 (Jh 37),m1 39 38,g1 40 39 false (.mv (.t 3)),g1 41 39 false (lf 10 1),g1 42 39 false (.bsl 1 3 [.t 40,.t 41]),g1 43 39 false (.call 76 [cn 0,cn 100000,.t 42]),g1 44 39
 false (Jh 43),o1 45 (.pick (.t 39) Jt (.t 44)),m1 29 45] (Ji 29 (sr1 [o1 12 (.mv (.c (.slice none 0 0))),Jk 13 2] .ret) .skip))))) (sr1 [o1 16 (.alloc [.slice none 0 0] 144)] (sr1 [o1 46 (.raw (Go.Op.makeMap 189 Option.none) 189),o1 17 (.alloc [.map
 none] 189),Js 17 46 1] (sr1 [o1 18 (.alloc [.nilFunc] 199)] (sr1 [o1 47 (.mkf 109 [.t 10,.t 8,.t 16,.t 17,.t 14,.t 18]),Js 18 47 1] (.seq (.seq (.gh (.reg [o1 48 (lf 18 1),m1 49 1,m1 50 3,o1 51 (.build zv0 [(0,1,.t 49),(1,1,.t 50)]),o1 52 (.calvm (.t
 48) [.t 51,.c (.slice none 0 0)]),o1 53 (Jh 52)])) (Ji 53 (sr1 [o1 12 (.mv (.c (.slice none 0 0))),Jk 13 9] .ret) .skip)) (sr1 [o1 54 (lf 16 1),m1 12 54,Jk 13 0] .ret)))))))))
def rk65:List RV:=[.tmp 12,.tmp 13]
theorem nk65:Tryz.f65.ntmps=55:=by kernel_rfl
theorem bk65:YO Tryz.prog 65=true:=by kernel_rfl
theorem Zt5:XM Tryz.prog ck65 ((Tryz.f65.body).getD .skip)=true:=by kernel_rfl
theorem Zui:Wu Tryz.prog rk65 Tryz.f65.results.toList=true:=by kernel_rfl
theorem mk65 {n0:Nat} {hp0:List (Nat × HB)} {args:List SV} {Z8:Ot->Prop} (hh:hpb n0 hp0) (hx:∀ o,Z8 o->KX o.res/\KXP o.hp) (h:sx Tryz.prog Y0 n0 ck65 ⟨X8 0 args,hp0,n0,55,[]⟩ (Zbm rk65 λo=>∃ o',Z8 o'/\ZcU n0 o o')) (hA:Nat.ble args.length 55=true:=by rfl):CtM Tryz.prog 65 hp0 n0 args Z8:=YN Tryz.func65 rfl bk65 Zt5 Zui nk65 (Nat.le_of_ble_eq_true hA) hh hx h
def ZjC:Ins:=o1 77 (.ld (.t 9) 2 true)
def ZjK:Ins:=m1 78 21
def ZmD:Ins:=m1 79 2
def Zlp:Ins:=m1 80 22
def ZjJ:Ins:=m1 81 4
def Zlk:Ins:=o1 82 (.ld (.t 14) 2 true)
def Zjk:Ins:=m1 83 6
def Zl9:Ins:=o1 84 (.bsl 1 3 [])
def Zj9:Ins:=m1 85 7
def Zl1:Ins:=⟨some 86,.cln 1 8 3 (.t 84) (.t 85),none,[7,8]⟩
def Zd0:Ins:=m1 87 19
def Zef:Ins:=⟨some 88,.bsl 1 3 [.t 87],none,[10]⟩
def Zd5:Ins:=⟨some 89,.appm 1 8 3 (.t 86) (.t 88),none,[9,11]⟩
def ZeE:Ins:=m1 90 8
def Zex:Ins:=⟨some 91,.callm 116 [.t 77,.t 78,.t 79,.t 80,.t 81,.t 82,.t 83,.t 89,.t 90],none,[0,1,2,3,4,5,6,12,13]⟩
def Zcj:Ins:=⟨some 8,.mv (.t 91),none,[0,1,2,3,4,5,6,7,8,9,10,11,12,13,14]⟩
attribute [go_sem] ZjC ZjK ZmD Zlp ZjJ Zlk Zjk Zl9 Zj9 Zl1 Zd0 Zef Zd5 ZeE Zex Zcj
def XJ:List Ins:=[ZjC,ZjK,ZmD,Zlp,ZjJ,Zlk,Zjk,Zl9,Zj9,Zl1,Zd0,Zef,Zd5,ZeE,Zex,Zcj]
def Zpi:SC:=(.gh (sr1 [o1 9 (Jz 0 0 25),o1 14 (Jz 5 0 27),o1 18 (.mv (.c (.slice none 0 0)))] (.seq (sr1 [m1 23 1,m1 24 2,o1 25 (Jb .eql 23 24)] (Ji 25 (sr1 [m1 26 8,o1 27 (.bsl 1 3 []),m1 28 7,o1 29 (.cln 1 8 3 (.t 27) (.t 28)),o1 30 (.bsl 1 35 [.t
 29]),o1 31 (.raw (Go.Op.call { callee:=(Go.Callee.builtin Go.Builtin.append),args:=#[(Go.Operand.tmp 26),(Go.Operand.tmp 30)],argTypes:=#[144,144] }) 144),m1 18 31] .ret) .skip)) (sr1 [m1 32 6,m1 33 1,o1 34 (Jx 32 33 1),Jv 34 Jt 1] (.seq (sr1 [Jk 19
 0] (.block 0 (.loop (.seq (sr1 [m1 35 19,o1 36 (ao 9 1),o1 37 (lf 36 1),o1 38 (Jl 37),o1 39 (Jb .lss 35 38),m1 40 39,g1 41 40 true (.mv (.t 8)),g1 42 40 true (Jl 41),g1 43 40 true (Jc .leq 42 200),o1 44 (.pick (.t 40) (.t 43) Jf)] (Ji 44 .skip (.exit
 0))) (.seq (.block 1 (sr1 [o1 47 (ao 9 1),o1 48 (lf 47 1),m1 49 19,o1 50 (Jx 48 49 5),o1 51 (lt 50 5),o1 20 (.alloc zv8 83),Js 20 51 5] (sr1 [o1 52 (lt 20 5),m1 53 1,o1 54 (J2 144 52 53),m1 21 54] (.seq (sr1 [m1 55 21,o1 56 (Jc .lss 55 0),m1 57 56,g1
 58 57 false (.mv (.t 6)),g1 59 57 false (.mv (.t 21)),g1 60 57 false (Jx 58 59 1),g1 61 57 false (lf 60 1),o1 62 (.pick (.t 57) Jt (.t 61))] (Ji 62 (.exit 1) .skip)) (sr1 [o1 63 (lt 20 5),m1 64 3,m1 65 3,o1 66 (.build zv0 [(0,1,.t 64),(1,1,.t
 65)]),o1 67 (lt 14 2),o1 68 (J3 118 63 66 67),o1 69 (.fld (.t 68) 1 1 false),m1 22 69] (sr1 [m1 70 22,o1 71 (Jc .lss 70 100001),m1 72 71,g1 73 72 true (.mv (.t 22)),g1 74 72 true (.mv (.t 4)),g1 75 72 true (Jb .leq 73 74),o1 76 (.pick (.t 72) (.t 75)
 Jf)] (Ji 76 (.gh (.regl XJ)) .skip))))))) (.reg [m1 45 19,o1 46 (Jc .add 45 1),m1 19 46])))))) (sr1 [m1 92 6,m1 93 1,o1 94 (Jx 92 93 1),Jv 94 Jf 1] (sr1 [m1 95 8,m1 18 95] .ret)))))))
def ZrB:List RV:=[.tmp 18]
theorem nk116:Tryz.f116.ntmps=96:=by kernel_rfl
theorem bk116:YO Tryz.prog 116=true:=by kernel_rfl
theorem Zr1:XM Tryz.prog Zpi ((Tryz.f116.body).getD .skip)=true:=by kernel_rfl
theorem ZpH:Wu Tryz.prog ZrB Tryz.f116.results.toList=true:=by kernel_rfl
theorem ZA4 {n0:Nat} {hp0:List (Nat × HB)} {args:List SV} {Z8:Ot->Prop} (hh:hpb n0 hp0) (hx:∀ o,Z8 o->KX o.res/\KXP o.hp) (h:sx Tryz.prog Y0 n0 Zpi ⟨X8 0 args,hp0,n0,96,[]⟩ (Zbm ZrB λo=>∃ o',Z8 o'/\ZcU n0 o o')) (hA:Nat.ble args.length 96=true:=by rfl):CtM Tryz.prog 116 hp0 n0 args Z8:=YN Tryz.func116 rfl bk116 Zr1 ZpH nk116 (Nat.le_of_ble_eq_true hA) hh hx h
def ck68:SC:=(sr1 [o1 6 (Jz 0 0 25),o1 11 (Jz 5 0 27),o1 12 (.mv (.c (.slice none 0 0))),Jk 13 0] (.seq (sr1 [o1 16 (lt 6 2),o1 17 (lt 11 2),o1 18 (J2 115 16 17),m1 14 18] (sr1 [m1 19 14,o1 20 (Jc .neq 19 0)] (Ji 20 (sr1 [m1 21 14,o1 12 (.mv (.c
 (.slice none 0 0))),m1 13 21] .ret) .skip))) (.seq (sr1 [m1 22 1,o1 23 (ao 6 0),o1 24 (lf 23 1),o1 25 (Jl 24),o1 26 (Jc .sub 25 1),o1 27 (.call 88 [.t 22,cn 0,.t 26]),o1 28 (Jh 27),m1 29 28,g1 30 29 false (.mv (.t 2)),g1 31 29 false (ao 6 0),g1 32 29
 false (lf 31 1),g1 33 29 false (Jl 32),g1 34 29 false (Jc .sub 33 1),g1 35 29 false (.call 88 [.t 30,cn 0,.t 34]),g1 36 29 false (Jh 35),o1 37 (.pick (.t 29) Jt (.t 36)),m1 38 37,g1 39 38 false (.mv (.t 3)),g1 40 38 false (.call 88 [.t 39,cn 0,cn
 100000]),g1 41 38 false (Jh 40),o1 42 (.pick (.t 38) Jt (.t 41)),m1 43 42,g1 44 43 false (.mv (.t 4)),g1 45 43 false (.call 88 [.t 44,cn 0,cn 100000]),g1 46 43 false (Jh 45),o1 47 (.pick (.t 43) Jt (.t 46))] (Ji 47 (sr1 [o1 12 (.mv (.c (.slice none 0
 0))),Jk 13 2] .ret) .skip)) (.seq (sr1 [m1 48 3,m1 49 4,o1 50 (Jb .gtr 48 49)] (Ji 50 (sr1 [o1 12 (.mv (.c (.slice none 0 0))),Jk 13 0] .ret) .skip)) (.seq (.regd (Jr 12) [Jo 51 (lt 6 2),Jm 52 1,Jm 53 2,Jm 54 3,Jm 55 4,Jo 56 (lt 11 2),Jo 57 (ao 6
 0),Jp 58 (lf 57 1) [6],Jp 59 (Jl 58) [7]] 1 0 [⟨some 60,.mks 1 1 [.bool false] 4 (.t 59),none,[8]⟩,⟨some 61,.callm 116 [.t 51,.t 52,.t 53,.t 54,.t 55,.t 56,.t 60,.c (.slice none 0 0),.c (.slice none 0 0)],none,[0,1,2,3,4,5,9]⟩,⟨some 15,.mv (.t
 61),none,(Jr 11)⟩]) (.gh (.seq (sr1 [m1 62 15,o1 63 (Jl 62),o1 64 (Jc .gtr 63 200)] (Ji 64 (sr1 [o1 12 (.mv (.c (.slice none 0 0))),Jk 13 9] .ret) .skip)) (sr1 [m1 65 15,m1 12 65,Jk 13 0] .ret))))))))
def rk68:List RV:=[.tmp 12,.tmp 13]
theorem nk68:Tryz.f68.ntmps=66:=by kernel_rfl
theorem bk68:YO Tryz.prog 68=true:=by kernel_rfl
theorem Zwm:XM Tryz.prog ck68 ((Tryz.f68.body).getD .skip)=true:=by kernel_rfl
theorem Zv7:Wu Tryz.prog rk68 Tryz.f68.results.toList=true:=by kernel_rfl
open Go.Azalai
def wX (a:List (List Nat)):List (List SV):=a.map λ_=>[.any]
def wI (a:List (List Nat)):List (List (List SV)):=a.map λw=>w.map ZI
theorem Zcc (w:List Nat):KFR (w.map ZI):=by simp [Za,ZI]
theorem ZL (a:List (List Nat)):KFR (wX a):=by simp [wX,Za]
theorem Zkn (a:List (List Nat)):∀ r ∈ wI a,KFR r:=λr hr=>by
 obtain ⟨w,_,rfl⟩:=List.mem_map.1 hr;exact Zcc w
theorem Zv (a:List (List Nat)):(∀ r,r ∈ wI a->KFR r)=True:=eq_true (Zkn a)
theorem Vu (a:List (List Nat)):(wX a).length=a.length:=by simp [wX]
theorem Zgo (a:List (List Nat)):(wI a).length=a.length:=by simp [wI]
theorem Zi7 (a:List (List Nat)) (w:List Nat) (x:SV):(wX a ++ [[x]]).set (wI a).length ([x].set 0 .any)=wX (a ++ [w]):=by
 rw [Zgo,List.set_append_right _ _ (by rw [Vu];exact Nat.le_refl _),Vu,Nat.sub_self];simp [wX]
theorem Zks (a:List (List Nat)) (w:List Nat):wI a ++ [w.map ZI]=wI (a ++ [w]):=by simp [wI]
theorem w_frz (a:List (List Nat)):ZdL 0 1 (wI a) (wX a)=a.map Wp:=by
 rw [wI,wX,Zg5];rfl
theorem ZdZ (a:List Nat) (ha:a.length<=1000000):CtM Tryz.prog 110 [] 0 [ZS a] (λo=>o=⟨false,.mr 0 0,[(0,.row 0 1 (a.map ZI) 3)],1⟩):=by
 refine mk110 (by simp [hpb]) (λo ho=>by subst ho;simp [KX,KXL,KXP,KXH,Za,KFL,KF,ZI]) ?_;dsimp only [ZvZ,ZtT,ZS,go_sem];intro b hb;dsimp only [go_sem];cases b with
 | true =>
  have hl:a=[]:=by simpa using hb rfl
  subst hl;refine Zq rfl ?_;dsimp only [go_sem];refine ⟨_,rfl,?_⟩;refine Vb (ZG (Yg 0 1 3 rfl rfl) ?_) (λ_ _ _ e=>by cases e);(refine Zj ?_ ?_ ?_ rfl rfl<;>dsimp only [ZI,id,go_sem]<;>simp [ZI,Za])
 | false =>
  refine Zr rfl ?_;dsimp only [go_sem];refine ⟨by simp;omega,?_⟩;dsimp only [go_sem];refine ⟨_,rfl,?_⟩;(refine Yb ?_ ?_ ?_ rfl<;>dsimp only [ZI,id,go_sem]<;>simp [ZI,Za])
end Go.Proofs.YtiigiflofnjilaaGreat
namespace Go.Sx
open Go
def ZyO:Nat->List Ins->Nat->List (Nat × Ins)
 | _,[],_=>[]
 | i,x :: l,D=>bif !Nat.testBit D i && x.af.all (Nat.testBit D) then (i,x) :: ZyO (i+1) l D else ZyO (i+1) l D
theorem Zg3:∀ {l:List Ins} {i0 D i:Nat} {x:Ins},l[i]? = some x->Nat.testBit D (i0+i)=false->x.af.all (Nat.testBit D)=true->(i0+i,x) ∈ ZyO i0 l D
 | [],_,_,_,_,h,_,_=>by simp at h
 | y :: l,i0,D,0,x,h,hb,ha=>by
  simp only [List.getElem?_cons_zero,Option.some.injEq] at h;subst h;have hc:(!Nat.testBit D i0 && y.af.all (Nat.testBit D))=true:=by rw [ha,show Nat.testBit D i0=false from hb];rfl
  simp only [ZyO,hc,cond_true];exact List.mem_cons_self ..
 | y :: l,i0,D,i+1,x,h,hb,ha=>by
  have ih:=Zg3 (l:=l) (i0:=i0+1) (D:=D) (i:=i) (x:=x) (by simpa using h) (by rw [show i0+1+i=i0+(i+1) from by omega];exact hb) ha;rw [show i0+1+i=i0+(i+1) from by omega] at ih;simp only [ZyO];cases (!Nat.testBit D i0 && y.af.all (Nat.testBit D))
  . exact ih
  . exact List.mem_cons_of_mem _ ih
def Zyt (f:Nat->Ins->Prop):List (Nat × Ins)->Prop
 | []=>True
 | (i,x) :: r=>f i x/\Zyt f r
theorem ZpV {f:Nat->Ins->Prop} {rs:List (Nat × Ins)}:∀ {i:Nat} {x:Ins},Zyt f rs->(i,x) ∈ rs->f i x:=by
 induction rs with
 | nil=>intro i x _ hm;cases hm
 | cons y r ih =>
  intro i x h hm;obtain ⟨j,z⟩:=y;have h':f j z/\Zyt f r:=h;rcases List.mem_cons.1 hm with e | e
  . injection e with e1 e2;subst e1 e2;exact h'.1
  . exact ih h'.2 e
theorem Vv {f:Nat->Ins->Prop} {i:Nat} {x:Ins} {r:List (Nat × Ins)} (h:f i x) (h':Zyt f r):Zyt f ((i,x) :: r):=⟨h,h'⟩
theorem U4 {f:Nat->Ins->Prop}:Zyt f []:=trivial
theorem XZ {P:Program} {Y:Hd} {m:Nat} {l:List Ins} {n D:Nat} {σ : St} {K:Ex->St->Prop} (rs:List (Nat × Ins)) (h:ZyO 0 l D=rs) (ha:Zyt (λi x=>st1 P Y x σ (λσ' K'=>∃ σc,Ent m σ' σc/\LAT P Y m l n (D ||| 2 ^ i) σc K') K) rs):LAT P Y m l (n+1) D σ K:=by
 intro i x hx hb haf;have hm:=Zg3 (i0:=0) hx (by rw [Nat.zero_add];exact hb) haf;rw [Nat.zero_add,h] at hm;exact ZpV ha hm
theorem ZfN {l:List Nat} {n:Nat} (hn:Nat.beq l.length n=true) (hi:Za3 l=true):∀ i,i < n->∀ j,j < n->rho l i=rho l j->i=j:=λi hi' j hj e=>by
 have hn:=Nat.eq_of_beq_eq_true hn;rw [Vp l i (by omega),Vp l j (by omega)] at e;have hp:=List.pairwise_iff_getElem.1 (XS hi);rcases Nat.lt_trichotomy i j with h | h | h
 . exact absurd e (hp i j (by omega) (by omega) h)
 . exact h
 . exact absurd e.symm (hp j i (by omega) (by omega) h)
theorem ZwQ {P:Program} {Y:Hd} {r:KT} {σ : St} {K:RK}:rxT P Y [] r σ K=r σ K:=rfl
theorem Zpd {P:Program} {Y:Hd} {x:Ins} {l:List Ins} {r:KT} {σ : St} {K:RK}:rxT P Y (x :: l) r σ K=st1 P Y x σ (rxT P Y l r) K:=rfl
attribute [go_sem] ZwQ Zpd
def sbF:List Nat->List (Nat × SV)->List (Nat × SV)->Prop
 | _,[],_=>True
 | seen,(t,s) :: r,fr=>(XA t seen=true\/s = .any\/lk t fr=s)/\sbF (t :: seen) r fr
theorem Zth {fr:List (Nat × SV)}:∀ {fr':List (Nat × SV)} {seen:List Nat},sbF seen fr' fr->∀ t,XA t seen=false->lk t fr' = .any\/lk t fr'=lk t fr
 | [],_,_,_,_=>.inl rfl
 | (u,s) :: r,seen,h,t,ht=>by
  obtain ⟨h1,h2⟩:=h;rw [ZH];split
  . rename_i e;subst e;rcases h1 with h1 | h1 | h1
    . rw [ht] at h1;cases h1
    . exact .inl h1
    . exact .inr h1.symm
  . rename_i e;refine Zth h2 t ?_;rcases Bool.eq_false_or_eq_true (XA t (u :: seen)) with q | q
    . rw [ZV] at q;rcases List.mem_cons.1 q with q | q
      . exact absurd q (by first | exact e | exact λx=>e x.symm)
      . rw [ZV.2 q] at ht;cases ht
    . exact q
theorem VL {m n N:Nat} {fr fr':List (Nat × SV)} {hp:List (Nat × HB)} (h:sbF [] fr' fr) (hg:∀ t j b s,lk t fr'≠.gd j b s):Ent m ⟨fr,hp,n,N,[]⟩ ⟨fr',hp,n,N,[]⟩:=λC E a w _ hs=>by
 refine ⟨E,λt=>?_,hs.sz,hs.df,λt j b s e=>absurd e (hg t j b s),hs.hs⟩;have h0:=hs.fr t;rcases Zth h t rfl with q | q
 . rw [q];exact trivial
 . have hng:=hg t;rw [q] at hng ⊢;simp only at h0;cases hc:lk t fr<;>rw [hc] at h0 hng<;>first | exact h0 | exact absurd rfl (hng _ _ _)
def ngF:List (Nat × SV)->Prop
 | []=>True
 | (_,s) :: r=>(∀ j b u,s≠.gd j b u)/\ngF r
theorem U6:∀ {fr:List (Nat × SV)},ngF fr->∀ t j b s,lk t fr≠.gd j b s
 | [],_,_,_,_,_=>by simp [lk]
 | (u,s) :: r,h,t,j,b,s'=>by
  rw [ZH];split
  . exact h.1 j b s'
  . exact U6 h.2 t j b s'
end Go.Sx
namespace Go.Proofs.YtiigiflofnjilaaGreat
open Go Go.Sx Go.Azalai
def lk0 (l:Land) (p:Span) (till to:Int) (all:List (List Nat)) (ver clk:Nat) (L:List (Nat × Int × Bool)) (way:List Nat) (v t:Int):St:=⟨[(10,.p 10 0),(9,.p 9 0),(4,.p 2 0)],[(2,.cells [.mr 6 ver] 144),(6,.rws ver 1 (wX all) 35 0 1 (wI all) 3),(10,.cells [B false] 4),(9,.cells [ZS way] 35),(8,.cells [I v,I t] 201),(0,.cells [I till] 3),(1,.cells [I to] 3),(3,.cells [.mp 7] 189),(4,.cells (Z3 l p) 160),(5,.cells [.cl 109 [.p 0 0,.p 1 0,.p 2 0,.p 3 0,.p 4 0,.p 5 0]] 199),(7,.map (mpS kI B L) clk)],11,64,[]⟩
def lk1 (l:Land) (p:Span) (till to:Int) (all:List (List Nat)) (ver clk:Nat) (L:List (Nat × Int × Bool)) (way:List Nat) (v t:Int):St:=⟨[(21,.mr 6 ver),(10,.p 10 0),(9,.p 9 0),(4,.p 2 0)],[(2,.cells [.mr 6 ver] 144),(6,.rws ver 1 (wX all) 35 0 1 (wI all) 3),(10,.cells [B false] 4),(9,.cells [ZS way] 35),(8,.cells [I v,I t] 201),(0,.cells [I till] 3),(1,.cells [I to] 3),(3,.cells [.mp 7] 189),(4,.cells (Z3 l p) 160),(5,.cells [.cl 109 [.p 0 0,.p 1 0,.p 2 0,.p 3 0,.p 4 0,.p 5 0]] 199),(7,.map (mpS kI B L) clk)],11,64,[]⟩
def lk2 (l:Land) (p:Span) (till to:Int) (all:List (List Nat)) (ver clk:Nat) (L:List (Nat × Int × Bool)) (way:List Nat) (v t:Int):St:=⟨[(22,ZS way),(10,.p 10 0),(9,.p 9 0),(4,.p 2 0)],[(2,.cells [.mr 6 ver] 144),(6,.rws ver 1 (wX all) 35 0 1 (wI all) 3),(10,.cells [B false] 4),(9,.cells [ZS way] 35),(8,.cells [I v,I t] 201),(0,.cells [I till] 3),(1,.cells [I to] 3),(3,.cells [.mp 7] 189),(4,.cells (Z3 l p) 160),(5,.cells [.cl 109 [.p 0 0,.p 1 0,.p 2 0,.p 3 0,.p 4 0,.p 5 0]] 199),(7,.map (mpS kI B L) clk)],11,64,[]⟩
def lk3 (l:Land) (p:Span) (till to:Int) (all:List (List Nat)) (ver clk:Nat) (L:List (Nat × Int × Bool)) (way:List Nat) (v t:Int):St:=⟨[(21,.mr 6 ver),(22,ZS way),(10,.p 10 0),(9,.p 9 0),(4,.p 2 0)],[(2,.cells [.mr 6 ver] 144),(6,.rws ver 1 (wX all) 35 0 1 (wI all) 3),(10,.cells [B false] 4),(9,.cells [ZS way] 35),(8,.cells [I v,I t] 201),(0,.cells [I till] 3),(1,.cells [I to] 3),(3,.cells [.mp 7] 189),(4,.cells (Z3 l p) 160),(5,.cells [.cl 109 [.p 0 0,.p 1 0,.p 2 0,.p 3 0,.p 4 0,.p 5 0]] 199),(7,.map (mpS kI B L) clk)],11,64,[]⟩
def lk6 (l:Land) (p:Span) (till to:Int) (all:List (List Nat)) (ver clk:Nat) (L:List (Nat × Int × Bool)) (way:List Nat) (v t:Int):St:=⟨[(23,.mr 11 0),(10,.p 10 0),(9,.p 9 0),(4,.p 2 0)],[(11,.row 0 1 (way.map ZI) 3),(2,.cells [.mr 6 ver] 144),(6,.rws ver 1 (wX all) 35 0 1 (wI all) 3),(10,.cells [B false] 4),(9,.cells [ZS way] 35),(8,.cells [I v,I t] 201),(0,.cells [I till] 3),(1,.cells [I to] 3),(3,.cells [.mp 7] 189),(4,.cells (Z3 l p) 160),(5,.cells [.cl 109 [.p 0 0,.p 1 0,.p 2 0,.p 3 0,.p 4 0,.p 5 0]] 199),(7,.map (mpS kI B L) clk)],12,64,[]⟩
def lk7 (l:Land) (p:Span) (till to:Int) (all:List (List Nat)) (ver clk:Nat) (L:List (Nat × Int × Bool)) (way:List Nat) (v t:Int):St:=⟨[(21,.mr 6 ver),(23,.mr 11 0),(10,.p 10 0),(9,.p 9 0),(4,.p 2 0)],[(11,.row 0 1 (way.map ZI) 3),(2,.cells [.mr 6 ver] 144),(6,.rws ver 1 (wX all) 35 0 1 (wI all) 3),(10,.cells [B false] 4),(9,.cells [ZS way] 35),(8,.cells [I v,I t] 201),(0,.cells [I till] 3),(1,.cells [I to] 3),(3,.cells [.mp 7] 189),(4,.cells (Z3 l p) 160),(5,.cells [.cl 109 [.p 0 0,.p 1 0,.p 2 0,.p 3 0,.p 4 0,.p 5 0]] 199),(7,.map (mpS kI B L) clk)],12,64,[]⟩
def lk14 (l:Land) (p:Span) (till to:Int) (all:List (List Nat)) (ver clk:Nat) (L:List (Nat × Int × Bool)) (way:List Nat) (v t:Int):St:=⟨[(24,.sl true 1 [[.mr 11 0]]),(10,.p 10 0),(9,.p 9 0),(4,.p 2 0)],[(11,.row 0 1 (way.map ZI) 3),(2,.cells [.mr 6 ver] 144),(6,.rws ver 1 (wX all) 35 0 1 (wI all) 3),(10,.cells [B false] 4),(9,.cells [ZS way] 35),(8,.cells [I v,I t] 201),(0,.cells [I till] 3),(1,.cells [I to] 3),(3,.cells [.mp 7] 189),(4,.cells (Z3 l p) 160),(5,.cells [.cl 109 [.p 0 0,.p 1 0,.p 2 0,.p 3 0,.p 4 0,.p 5 0]] 199),(7,.map (mpS kI B L) clk)],12,64,[]⟩
def ZBC (l:Land) (p:Span) (till to:Int) (all:List (List Nat)) (ver clk:Nat) (L:List (Nat × Int × Bool)) (way:List Nat) (v t:Int):St:=⟨[(21,.mr 6 ver),(24,.sl true 1 [[.mr 11 0]]),(10,.p 10 0),(9,.p 9 0),(4,.p 2 0)],[(11,.row 0 1 (way.map ZI) 3),(2,.cells [.mr 6 ver] 144),(6,.rws ver 1 (wX all) 35 0 1 (wI all) 3),(10,.cells [B false] 4),(9,.cells [ZS way] 35),(8,.cells [I v,I t] 201),(0,.cells [I till] 3),(1,.cells [I to] 3),(3,.cells [.mp 7] 189),(4,.cells (Z3 l p) 160),(5,.cells [.cl 109 [.p 0 0,.p 1 0,.p 2 0,.p 3 0,.p 4 0,.p 5 0]] 199),(7,.map (mpS kI B L) clk)],12,64,[]⟩
def lk31 (l:Land) (p:Span) (till to:Int) (all:List (List Nat)) (ver clk:Nat) (L:List (Nat × Int × Bool)) (way:List Nat) (v t:Int):St:=⟨[(25,.mr 6 (ver+1+(wI all).length)),(10,.p 10 0),(9,.p 9 0),(4,.p 2 0)],[(2,.cells [.mr 6 ver] 144),(6,.rws (ver+1+(wI all).length) 1 (wX (all ++ [way])) 35 0 1 (wI (all ++ [way])) 3),(10,.cells [B false] 4),(9,.cells [ZS way] 35),(8,.cells [I v,I t] 201),(0,.cells [I till] 3),(1,.cells [I to] 3),(3,.cells [.mp 7] 189),(4,.cells (Z3 l p) 160),(5,.cells [.cl 109 [.p 0 0,.p 1 0,.p 2 0,.p 3 0,.p 4 0,.p 5 0]] 199),(7,.map (mpS kI B L) clk)],12,64,[]⟩
def ZBA (l:Land) (p:Span) (till to:Int) (all:List (List Nat)) (ver clk:Nat) (L:List (Nat × Int × Bool)) (way:List Nat) (v t:Int):St:=⟨[(10,.p 10 0),(9,.p 9 0),(4,.p 2 0)],[(2,.cells [.mr 6 (ver+1+(wI all).length)] 144),(6,.rws (ver+1+(wI all).length) 1 (wX (all ++ [way])) 35 0 1 (wI (all ++ [way])) 3),(10,.cells [B false] 4),(9,.cells [ZS way] 35),(8,.cells [I v,I t] 201),(0,.cells [I till] 3),(1,.cells [I to] 3),(3,.cells [.mp 7] 189),(4,.cells (Z3 l p) 160),(5,.cells [.cl 109 [.p 0 0,.p 1 0,.p 2 0,.p 3 0,.p 4 0,.p 5 0]] 199),(7,.map (mpS kI B L) clk)],12,64,[]⟩
theorem lkReg (l:Land) (p:Span) (till to:Int) (all:List (List Nat)) (ver clk:Nat) (L:List (Nat × Int × Bool)) (way:List Nat) (v t:Int) (Y:Hd) (K:Ex->St->Prop) (hw:way.length<=1000) (ha:all.length<=200) (hK:∀ σF,σF=ZBA l p till to all ver clk L way v t->K .n σF):LAT Tryz.prog Y 8 ZiM 6 0 (lk0 l p till to all ver clk L way v t) K:=by
 have h63:LAT Tryz.prog Y 8 ZiM 0 63 (ZBA l p till to all ver clk L way v t) K:=hK _ rfl;have h31:LAT Tryz.prog Y 8 ZiM 1 31 (lk31 l p till to all ver clk L way v t) K:=by
  refine XZ [(5,ZwR)] (by kernel_rfl) ?_;refine Vv ?_ ?_
  . dsimp only [lk31,go_sem];refine ⟨_,?_,h63⟩;refine Zj ?_ ?_ ?_ rfl rfl<;>dsimp only [ZBA,id,go_sem]<;>simp +contextual [ZS,ZI,ZE,Zx,Z3,Zf,Zl,Zg,ZL,Zkn,rho,Za,Ze,KFR,KFL,KF,Zb,mtL,mtB,mtS,mtO,Zv,Zc,nbr]
  exact U4
 have h15:LAT Tryz.prog Y 8 ZiM 2 15 (ZBC l p till to all ver clk L way v t) K:=by
  refine XZ [(4,ZxL)] (by kernel_rfl) ?_;refine Vv ?_ ?_
  . dsimp only [ZBC,go_sem];refine Zgq (k:=6) (v:=ver) (m:=1) (o:=0) (m':=1) (xs:=wX all) (ys:=[[.mr 11 0]]) (inn:=wI all) (T:=35) (T':=3) (t:=144) (bs:=24) rfl rfl rfl rfl rfl (by kernel_rfl) (by kernel_rfl) (by kernel_rfl) (by kernel_rfl) rfl rfl (by intro c hc;simp only [List.mem_singleton] at hc;subst hc;rfl) (by simp) (by rw [Vu];simp;omega) rfl rfl ?_;dsimp only [go_sem];refine ⟨_,ZG (Zd8 6 11 [.mr 11 0] rfl rfl rfl (by rw [Zgo,List.getElem?_append_right (by rw [Vu];exact Nat.le_refl _),Vu,Nat.sub_self];rfl) rfl) ?_,h31⟩
    rw [Zi7 all way,Zks all way];refine Zj ?_ ?_ ?_ rfl rfl<;>dsimp only [lk31,id,go_sem]<;>simp +contextual [ZS,ZI,ZE,Zx,Z3,Zf,Zl,Zg,ZL,Zkn,rho,Za,Ze,KFR,KFL,KF,Zb,mtL,mtB,mtS,mtO,Zv,Zc,nbr]
  exact U4
 have h7:LAT Tryz.prog Y 8 ZiM 3 7 (lk7 l p till to all ver clk L way v t) K:=by
  refine XZ [(3,ZpR)] (by kernel_rfl) ?_;refine Vv ?_ ?_
  . dsimp only [lk7,go_sem];refine ⟨_,VL ?_ (U6 ?_),h15⟩
    . exact ⟨.inr (.inr rfl),.inr (.inr rfl),.inr (.inr rfl),.inr (.inr rfl),.inr (.inr rfl),trivial⟩
    . simp [ZBC,ngF,ZS]
  exact U4
 have h14:LAT Tryz.prog Y 8 ZiM 3 14 (lk14 l p till to all ver clk L way v t) K:=by
  refine XZ [(0,Zim)] (by kernel_rfl) ?_;refine Vv ?_ ?_
  . dsimp only [lk14,go_sem];refine ⟨_,VL ?_ (U6 ?_),h15⟩
    . exact ⟨.inr (.inr rfl),.inr (.inr rfl),.inr (.inr rfl),.inr (.inr rfl),.inr (.inr rfl),trivial⟩
    . simp [ZBC,ngF,ZS]
  exact U4
 have h3:LAT Tryz.prog Y 8 ZiM 4 3 (lk3 l p till to all ver clk L way v t) K:=by
  refine XZ [(2,ZqP)] (by kernel_rfl) ?_;refine Vv ?_ ?_
  . dsimp only [lk3,ZS,go_sem];refine UV [] (ZdZ way (by omega)) rfl rfl rfl ?_ ?_ ?_
    . dsimp only [ZS,go_sem];simp [Za,Ze,KFR,KFL,KF,Zb,mtO,mtL,mtB,mtS,ZI]
    . trivial
    dsimp only [go_sem];refine ⟨_,?_,h7⟩;refine Zj ?_ ?_ ?_ rfl rfl<;>dsimp only [lk7,id,go_sem]<;>simp +contextual [ZS,ZI,ZE,Zx,Z3,Zf,Zl,Zg,ZL,Zkn,rho,Za,Ze,KFR,KFL,KF,Zb,mtL,mtB,mtS,mtO,Zv,Zc,nbr]
  exact U4
 have h6:LAT Tryz.prog Y 8 ZiM 4 6 (lk6 l p till to all ver clk L way v t) K:=by
  refine XZ [(0,Zim),(3,ZpR)] (by kernel_rfl) ?_;refine Vv ?_ ?_
  . dsimp only [lk6,go_sem];refine ⟨_,VL ?_ (U6 ?_),h7⟩
    . exact ⟨.inr (.inr rfl),.inr (.inr rfl),.inr (.inr rfl),.inr (.inr rfl),.inr (.inr rfl),trivial⟩
    . simp [lk7,ngF,ZS]
  refine Vv ?_ ?_
  . dsimp only [lk6,go_sem];refine ⟨_,VL ?_ (U6 ?_),h14⟩
    . exact ⟨.inr (.inr rfl),.inr (.inr rfl),.inr (.inr rfl),.inr (.inr rfl),trivial⟩
    . simp [lk14,ngF,ZS]
  exact U4
 have h1:LAT Tryz.prog Y 8 ZiM 5 1 (lk1 l p till to all ver clk L way v t) K:=by
  refine XZ [(1,ZqV)] (by kernel_rfl) ?_;refine Vv ?_ ?_
  . dsimp only [lk1,go_sem];refine ⟨_,VL ?_ (U6 ?_),h3⟩
    . exact ⟨.inr (.inr rfl),.inr (.inr rfl),.inr (.inr rfl),.inr (.inr rfl),.inr (.inr rfl),trivial⟩
    . simp [lk3,ngF,ZS]
  exact U4
 have h2:LAT Tryz.prog Y 8 ZiM 5 2 (lk2 l p till to all ver clk L way v t) K:=by
  refine XZ [(0,Zim),(2,ZqP)] (by kernel_rfl) ?_;refine Vv ?_ ?_
  . dsimp only [lk2,go_sem];refine ⟨_,VL ?_ (U6 ?_),h3⟩
    . exact ⟨.inr (.inr rfl),.inr (.inr rfl),.inr (.inr rfl),.inr (.inr rfl),.inr (.inr rfl),trivial⟩
    . simp [lk3,ngF,ZS]
  refine Vv ?_ ?_
  . dsimp only [lk2,ZS,go_sem];refine UV [] (ZdZ way (by omega)) rfl rfl rfl ?_ ?_ ?_
    . dsimp only [ZS,go_sem];simp [Za,Ze,KFR,KFL,KF,Zb,mtO,mtL,mtB,mtS,ZI]
    . trivial
    dsimp only [go_sem];refine ⟨_,?_,h6⟩;refine Zj ?_ ?_ ?_ rfl rfl<;>dsimp only [lk6,id,go_sem]<;>simp +contextual [ZS,ZI,ZE,Zx,Z3,Zf,Zl,Zg,ZL,Zkn,rho,Za,Ze,KFR,KFL,KF,Zb,mtL,mtB,mtS,mtO,Zv,Zc,nbr]
  exact U4
 have h0:LAT Tryz.prog Y 8 ZiM 6 0 (lk0 l p till to all ver clk L way v t) K:=by
  refine XZ [(0,Zim),(1,ZqV)] (by kernel_rfl) ?_;refine Vv ?_ ?_
  . dsimp only [lk0,go_sem];refine ⟨_,VL ?_ (U6 ?_),h1⟩
    . exact ⟨.inr (.inr rfl),.inr (.inr rfl),.inr (.inr rfl),.inr (.inr rfl),trivial⟩
    . simp [lk1,ngF,ZS]
  refine Vv ?_ ?_
  . dsimp only [lk0,go_sem];refine ⟨_,VL ?_ (U6 ?_),h2⟩
    . exact ⟨.inr (.inr rfl),.inr (.inr rfl),.inr (.inr rfl),.inr (.inr rfl),trivial⟩
    . simp [lk2,ngF,ZS]
  exact U4
 exact h0
def WE (l:Land) (p:Span) (till to:Int) (all:List (List Nat)) (ver:Nat) (L:List (Nat × Int × Bool)) (clk:Nat):List (Nat × HB) :=
 [(0,.cells [I till] 3),(1,.cells [I to] 3),(2,.cells [.mr 6 ver] 144),(3,.cells [.mp 7] 189),(4,.cells (Z3 l p) 160),(5,.cells [.cl 109 [.p 0 0,.p 1 0,.p 2 0,.p 3 0,.p 4 0,.p 5 0]] 199),(6,.rws ver 1 (wX all) 35 0 1 (wI all) 3),(7,.map (mpS kI B L) clk)]
def lookQ (l:Land) (p:Span) (till to:Int) (all:List (List Nat)) (L:List (Nat × Int × Bool)) (W:List (List Nat)):Ot->Prop:=λo =>
 ∃ ver clk,MW L clk/\o=⟨false,B (decide ((all ++ W).length<=200)),WE l p till to (cap (all ++ W)) ver L clk,8⟩
theorem Zrm (l:Land) (p:Span) (hs:Xu l) (hok:OkLP l p) (till to:Int):∀ (f:Nat) (been:List Int) (v t:Int) (way:List Nat) (all:List (List Nat)) (ver clk:Nat) (L:List (Nat × Int × Bool)) (s1:SV),ZiH l f been->v ∉ been->(0<=v/\v < l.wells.length)->(0<=t/\t<=100001) ->
 way.length+f<=1000->all.length<=200->MW L clk->Zm6 been L->(s1=ZS way\/s1 = .v (.slice none 0 0)/\way=[]) ->
 CtM Tryz.prog 109 (WE l p till to all ver L clk) 8 [.agg [I v,I t],s1,.p 0 0,.p 1 0,.p 2 0,.p 3 0,.p 4 0,.p 5 0] (lookQ l p till to all L ((XW l p to till f been v t).map (way ++ ·))):=by
 intro f
 induction f with
 | zero =>
  intro been v t way all ver clk L s1 hR hv hvi;obtain ⟨g,h,_⟩:=hR.pos hv hvi;omega
 | succ f ih =>
 intro been v t way all ver clk L s1 hR hv hvi ht hlen hall hM hbL hs1;obtain ⟨g,hg,hR'⟩:=hR.pos hv hvi;have hgf:g=f:=by omega
 subst hgf;have hleg:=hs.2.1;refine mk109 (by simp [hpb,WE]) (λo ho=>?_) ?_
 . obtain ⟨ver',clk',_,rfl⟩:=ho;simp [WE,KX,KXL,KXP,KXH,Za,KFL,KF,Z3,Zf,Zl,Zg,Wp,ZS,ZI,ZE,Zx,ZL,Zv]
 dsimp only [ZxU,ZwX,WE,go_sem];rcases hs1 with rfl | ⟨rfl,hw0⟩
 refine gh Yj ?_
 rotate_left
 refine gh (Zag (s':=.sl false 1 (way.map ZI)) 1 rfl (by subst hw0;exact Yk) (λ_ _ _ h=>by cases h)) ?_
 all_goals
  dsimp only [ZS,go_sem];refine br ?_ ?_
  . intro hlate;have hlate:t > till:=of_decide_eq_true hlate;dsimp only [go_sem];refine ⟨_,⟨ver,clk,hM,rfl⟩,?_⟩;rw [V9 hlate,List.map_nil,List.append_nil,Zai (by omega),decide_eq_true hall];(refine Yb ?_ ?_ ?_ rfl<;>dsimp only [Z3,Zf,Zl,Zg,Wp,ZS,ZI,Yf,ZE,Zx,Za,ZL,Zv,WE,id,go_sem]<;>simp [Z3,Zf,Zl,Zg,Wp,ZS,ZI,Yf,ZE,Zx,Za,ZL,Zv,WE,Za])
  intro hlate;have hlate:¬ t > till:=of_decide_eq_false hlate;dsimp only [go_sem];refine br ?_ ?_
  . intro hto;have hto:v=to:=by simpa using hto
    dsimp only [go_sem];refine gh (σ1:=lk0 l p till to all ver clk L way v t) ?_ ?_
    . dsimp only [lk0,Z3,ZS,go_sem];(refine Zj ?_ ?_ ?_ rfl rfl<;>dsimp only [Z3,Zf,Zl,Zg,Wp,ZS,ZI,Yf,ZE,Zx,Za,ZL,Zv,id,go_sem]<;>simp [Z3,Zf,Zl,Zg,Wp,ZS,ZI,Yf,ZE,Zx,Za,ZL,Zv,Za])
    show LAT _ _ _ _ 6 0 _ _;refine lkReg l p till to all ver clk L way v t _ _ (by omega) hall ?_;intro σF eF;subst eF;dsimp only [ZBA,Z3,go_sem];refine ⟨0,1,_,_,rfl,rfl,?_⟩;simp only [YV,Vu];refine ⟨_,⟨ver+1+(wI all).length,clk,hM,rfl⟩,?_⟩;rw [Xk,if_neg hlate,if_pos hto];simp only [List.map_cons,List.map_nil,List.append_nil,List.length_map];rw [Zai (by simp;omega)];have hd:decide (((all ++ [way]).length:Int)<=200)=decide ((all ++ [way]).length<=200):=by simp;omega
    rw [hd];(refine Yb ?_ ?_ ?_ rfl<;>dsimp only [Z3,Zf,Zl,Zg,Wp,ZS,ZI,Yf,ZE,Zx,Za,ZL,Zv,WE,id,go_sem]<;>simp [Z3,Zf,Zl,Zg,Wp,ZS,ZI,Yf,ZE,Zx,Za,ZL,Zv,WE,Za])
  intro hto;have hto:¬ v=to:=by simpa using hto
  dsimp only [go_sem];refine Zjg (ins:=false) (key:=kI) (val:=B) (L:=L) (k:=v) (v:=true) rfl rfl Zno Znl rfl rfl (by simp) ?_;dsimp only [go_sem];refine ⟨rfl,?_⟩;have hvL:XX v L=none:=by rw [hbL,if_neg hv]
  have hM1:=hM.set (k:=v) true;have hL1:Zm6 (v :: been) (Za2 clk v true L):=λu=>by
   rw [ZdD];by_cases hu:u=v
   . simp [hu]
   . rw [if_neg hu,hbL];simp [hu]
  have hdel:=Zot (L:=L) (c:=clk) (b:=true) hvL;generalize Za2 clk v true L=L1 at hM1 hL1 hdel ⊢;generalize ZdK clk v L=clk1 at hM1 ⊢;refine UV [] (Zdr l p v) rfl rfl rfl ?_ ?_ ?_
  . exact Zb (by simp [Z3,Zf,Zl,Zg,Za])
  . trivial
  dsimp only [ZcS,Z3,go_sem];refine gh Yj ?_;dsimp only [go_sem];refine ⟨b153,λrec=>?_⟩;refine y153 ?_;dsimp only [ZAt,Zz4,go_sem];refine Yy (λq:Nat × List (List Nat) × Nat × Nat=>[(10,I q.1)]) (λq=>[(2,.cells [.mr 6 q.2.2.1] 144),(6,.rws q.2.2.1 1 (wX q.2.1) 35 0 1 (wI q.2.1) 3),(7,.map (mpS kI B L1) q.2.2.2)])
   (λq=>q.1<=l.legs.length/\MW L1 q.2.2.2/\q.2.1=all ++ (Yq l p to till g been v t q.1).map (way ++ ·)/\q.2.1.length<=200) (λq=>l.legs.length - q.1) (0,all,ver,clk1) ⟨Nat.zero_le _,hM1,by simp [ZeO],hall⟩ ?_ ?_
  . (refine Zj ?_ ?_ ?_ rfl rfl<;>dsimp only [Z3,Zf,Zl,Zg,Wp,ZS,ZI,Yf,ZE,Zx,Za,ZL,Zv,id,go_sem]<;>simp [Z3,Zf,Zl,Zg,Wp,ZS,ZI,Yf,ZE,Zx,Za,ZL,Zv,Za])
  rintro ⟨j,allj,ver,clk⟩ ⟨hj,hMj,hallj,hlenj⟩;simp only at hj hMj hallj hlenj;dsimp only [go_sem];simp only [List.length_map];by_cases hlt:j < l.legs.length
  . refine Zq (by simpa using hlt) ?_;dsimp only [go_sem];refine Zo j hlt rfl ?_;dsimp only [Zl,go_sem];have hgl:GoodLeg l.legs[j]:=Y4 hok.land _ (List.getElem_mem _);have hends:=hok.ends (List.getElem_mem hlt);have hxj:l.legs[j]? = some l.legs[j]:=List.getElem?_eq_getElem hlt;have hin:inR 0 100001 t=true:=by simp only [inR,decide_eq_true_eq];omega
    have hab:=Xf (k:=true) (t:=t) hgl hok.pace (by omega);by_cases hca:v=l.legs[j].a
    . refine Zq (by simpa using hca) ?_;have hoth:Zm l.legs[j] v=l.legs[j].b:=by rw [Zm,if_pos hca.symm]
      dsimp only [go_sem];refine ⟨rfl,rfl,?_⟩;refine Zko (key:=kI) (sv:=sI) (val:=B) (L:=L1) (k:=l.legs[j].b) (z:=.bool false) (zs:=B false) rfl rfl Zno Znl rfl (by kernel_rfl) (λw E n ok=>by simp only [R]) ?_ ?_
      . intro b hget;have hb:b=true/\Zm l.legs[j] v ∈ v :: been:=by
         have h:=hL1 l.legs[j].b;rw [hget] at h;rw [hoth];split at h
         . rename_i hm;exact ⟨Option.some.inj h,hm⟩
         . cases h
        obtain ⟨rfl,hmem⟩:=hb;dsimp only [Bool.not_true,go_sem];repeat (refine UG (by decide) ?_;dsimp only [go_sem])
        refine Zr (by decide) ?_;dsimp only [go_sem];refine ⟨rfl,?_⟩;refine Zr (by decide) ?_;dsimp only [go_sem];rw [Zh (n:=(j:Int)+1) (by omega) (by omega)];refine ⟨(j+1,allj,ver,clk),⟨hlt,hMj,by rw [Ya,VF hxj (.inr hmem),List.append_nil];exact hallj,hlenj⟩,by simp only;omega,?_⟩;(refine Zj ?_ ?_ ?_ rfl rfl<;>dsimp only [Z3,Zf,Zl,Zg,Wp,ZS,ZI,Yf,ZE,Zx,Za,ZL,Zv,id,go_sem]<;>simp [Z3,Zf,Zl,Zg,Wp,ZS,ZI,Yf,ZE,Zx,Za,ZL,Zv,Za])
      intro hget;have hnb:Zm l.legs[j] v ∉ v :: been:=λhm=>by
       have h:=hL1 l.legs[j].b;rw [hoth] at hm;rw [hget,if_pos hm] at h;cases h
      have hn0:¬ Zm l.legs[j] v < 0:=by rw [hoth];omega
      dsimp only [Bool.not_false,go_sem];iterate 10 (refine YT rfl ?_;dsimp only [go_sem])
      refine call (VD l p j hlt t t hgl hok.pace hin hin) ?_;dsimp only [go_sem];refine YT rfl ?_;dsimp only [go_sem];refine ixa 1 rfl (by decide) ?_;dsimp only [go_sem];iterate 4 (refine YT rfl ?_;dsimp only [go_sem])
      refine call (ZmO way j (by omega)) ?_;dsimp only [ZS,go_sem];refine YT rfl ?_;dsimp only [go_sem];have hot:=Yc hok hxj hn0;have hih:=ih (v :: been) (Zm l.legs[j] v) (ZB true l.legs[j] p t) (way ++ [j]) allj ver clk L1 (ZS (way ++ [j])) hR' hnb hot.1 (by omega) (by simp;omega) hlenj hMj hL1 (.inl rfl);have hWj:(XW l p to till g (v :: been) (Zm l.legs[j] v) (ZB true l.legs[j] p t)).map (way ++ [j] ++ ·)=(Wh l p to till g been v t j).map (way ++ ·):=by
       rw [VZ hxj hn0 hnb,List.map_map];simp [Function.comp_def]
      rw [hWj,hoth] at hih;refine Y7 [0,1,2,3,4,5,6,7] hih rfl rfl ?_ ?_ ?_ ?_
      . rfl
      . dsimp only [rho,ZS,go_sem];simp [Za,Ze,KFR,KFL,KF,Zb,mtO,nbr,Z3,Zf,Zl,Zg,Wp,ZS,ZI,ZE,Zx,ZL,Zv]
      . dsimp only [rho,WE,Z3,go_sem];simp [Za,Ze,KFR,KFL,KF,Zb,mtO,nbr,Z3,Zf,Zl,Zg,Wp,ZS,ZI,ZE,Zx,ZL,Zv]
      rintro o ⟨ver',clk',hM',rfl⟩;dsimp only [WE,Z3,go_sem];refine YT rfl ?_;dsimp only [Bool.not_false,go_sem];have hnext:all ++ (Yq l p to till g been v t (j+1)).map (way ++ ·)=allj ++ (Wh l p to till g been v t j).map (way ++ ·):=by
       rw [Ya,List.map_append,<- List.append_assoc,<- hallj]
      generalize hWW:(Wh l p to till g been v t j).map (way ++ ·)=Wj at hnext ⊢;by_cases hsm:(allj ++ Wj).length<=200
      . refine Zr (by simp only [hsm,decide_true];rfl) ?_;dsimp only [go_sem];refine ⟨rfl,?_⟩;refine Zr (by decide) ?_;dsimp only [go_sem];rw [Zh (n:=(j:Int)+1) (by omega) (by omega),Zai (by omega)];rw [<- hnext] at hsm ⊢;refine ⟨(j+1,_,ver',clk'),⟨hlt,hM',rfl,hsm⟩,by simp only;omega,?_⟩;generalize all ++ (Yq l p to till g been v t (j+1)).map (way ++ ·)=alln;(refine Zj ?_ ?_ ?_ rfl rfl<;>dsimp only [Z3,Zf,Zl,Zg,Wp,ZS,ZI,Yf,ZE,Zx,Za,ZL,Zv,id,go_sem]<;>simp [Z3,Zf,Zl,Zg,Wp,ZS,ZI,Yf,ZE,Zx,Za,ZL,Zv,Za])
      . refine Zq (by simp only [hsm,decide_false];rfl) ?_;dsimp only [go_sem];refine ⟨rfl,?_⟩;refine Zq rfl ?_;dsimp only [go_sem];have hWs:XW l p to till (g+1) been v t=Yq l p to till g been v t l.legs.length:=by rw [Xk,if_neg hlate,if_neg hto]
        obtain ⟨R,hRs⟩:=X1 (l:=l) (p:=p) (to:=to) (till:=till) (f:=g) (been:=been) (v:=v) (t:=t) (j:=j+1) (l.legs.length - (j+1));rw [show j+1+(l.legs.length - (j+1))=l.legs.length by omega] at hRs;have hall2:all ++ (XW l p to till (g+1) been v t).map (way ++ ·)=allj ++ Wj ++ R.map (way ++ ·):=by
         rw [hWs,hRs,List.map_append,<- List.append_assoc,hnext]
        have hlong:¬ (allj ++ Wj ++ R.map (way ++ ·)).length<=200:=by rw [List.length_append];omega
        refine ⟨_,delR (key:=kI) (val:=B) (sv:=sI) (L:=L1) (k:=v) Zno Znl,?_⟩;rw [hdel];have hMf:MW L clk':=by have:=hM'.del (k:=v);rw [hdel] at this;exact this
        refine ⟨_,⟨ver',clk',hMf,rfl⟩,?_⟩;have hc2:cap (allj ++ Wj ++ R.map (way ++ ·))=cap (allj ++ Wj):=Zf0 (by omega);rw [hall2,hc2,decide_eq_false hlong];generalize cap (allj ++ Wj)=alln;(refine Yb ?_ ?_ ?_ rfl<;>dsimp only [Z3,Zf,Zl,Zg,Wp,ZS,ZI,Yf,ZE,Zx,Za,ZL,Zv,WE,id,go_sem]<;>simp [Z3,Zf,Zl,Zg,Wp,ZS,ZI,Yf,ZE,Zx,Za,ZL,Zv,WE,Za])
    refine Zr (by simpa using hca) ?_;dsimp only [go_sem];by_cases hcb:v=l.legs[j].b
    . refine Zq (by simpa using hcb) ?_;have hoth:Zm l.legs[j] v=l.legs[j].a:=by rw [Zm,if_neg (λh=>hca h.symm),if_pos hcb.symm]
      dsimp only [go_sem];refine ⟨rfl,rfl,?_⟩;refine Zko (key:=kI) (sv:=sI) (val:=B) (L:=L1) (k:=l.legs[j].a) (z:=.bool false) (zs:=B false) rfl rfl Zno Znl rfl (by kernel_rfl) (λw E n ok=>by simp only [R]) ?_ ?_
      . intro b hget;have hb:b=true/\Zm l.legs[j] v ∈ v :: been:=by
         have h:=hL1 l.legs[j].a;rw [hget] at h;rw [hoth];split at h
         . rename_i hm;exact ⟨Option.some.inj h,hm⟩
         . cases h
        obtain ⟨rfl,hmem⟩:=hb;dsimp only [Bool.not_true,go_sem];repeat (refine UG (by decide) ?_;dsimp only [go_sem])
        refine Zr (by decide) ?_;dsimp only [go_sem];refine ⟨rfl,?_⟩;refine Zr (by decide) ?_;dsimp only [go_sem];rw [Zh (n:=(j:Int)+1) (by omega) (by omega)];refine ⟨(j+1,allj,ver,clk),⟨hlt,hMj,by rw [Ya,VF hxj (.inr hmem),List.append_nil];exact hallj,hlenj⟩,by simp only;omega,?_⟩;(refine Zj ?_ ?_ ?_ rfl rfl<;>dsimp only [Z3,Zf,Zl,Zg,Wp,ZS,ZI,Yf,ZE,Zx,Za,ZL,Zv,id,go_sem]<;>simp [Z3,Zf,Zl,Zg,Wp,ZS,ZI,Yf,ZE,Zx,Za,ZL,Zv,Za])
      intro hget;have hnb:Zm l.legs[j] v ∉ v :: been:=λhm=>by
       have h:=hL1 l.legs[j].a;rw [hoth] at hm;rw [hget,if_pos hm] at h;cases h
      have hn0:¬ Zm l.legs[j] v < 0:=by rw [hoth];omega
      dsimp only [Bool.not_false,go_sem];iterate 10 (refine YT rfl ?_;dsimp only [go_sem])
      refine call (VD l p j hlt t t hgl hok.pace hin hin) ?_;dsimp only [go_sem];refine YT rfl ?_;dsimp only [go_sem];refine ixa 1 rfl (by decide) ?_;dsimp only [go_sem];iterate 4 (refine YT rfl ?_;dsimp only [go_sem])
      refine call (ZmO way j (by omega)) ?_;dsimp only [ZS,go_sem];refine YT rfl ?_;dsimp only [go_sem];have hot:=Yc hok hxj hn0;have hih:=ih (v :: been) (Zm l.legs[j] v) (ZB true l.legs[j] p t) (way ++ [j]) allj ver clk L1 (ZS (way ++ [j])) hR' hnb hot.1 (by omega) (by simp;omega) hlenj hMj hL1 (.inl rfl);have hWj:(XW l p to till g (v :: been) (Zm l.legs[j] v) (ZB true l.legs[j] p t)).map (way ++ [j] ++ ·)=(Wh l p to till g been v t j).map (way ++ ·):=by
       rw [VZ hxj hn0 hnb,List.map_map];simp [Function.comp_def]
      rw [hWj,hoth] at hih;refine Y7 [0,1,2,3,4,5,6,7] hih rfl rfl ?_ ?_ ?_ ?_
      . rfl
      . dsimp only [rho,ZS,go_sem];simp [Za,Ze,KFR,KFL,KF,Zb,mtO,nbr,Z3,Zf,Zl,Zg,Wp,ZS,ZI,ZE,Zx,ZL,Zv]
      . dsimp only [rho,WE,Z3,go_sem];simp [Za,Ze,KFR,KFL,KF,Zb,mtO,nbr,Z3,Zf,Zl,Zg,Wp,ZS,ZI,ZE,Zx,ZL,Zv]
      rintro o ⟨ver',clk',hM',rfl⟩;dsimp only [WE,Z3,go_sem];refine YT rfl ?_;dsimp only [Bool.not_false,go_sem];have hnext:all ++ (Yq l p to till g been v t (j+1)).map (way ++ ·)=allj ++ (Wh l p to till g been v t j).map (way ++ ·):=by
       rw [Ya,List.map_append,<- List.append_assoc,<- hallj]
      generalize hWW:(Wh l p to till g been v t j).map (way ++ ·)=Wj at hnext ⊢;by_cases hsm:(allj ++ Wj).length<=200
      . refine Zr (by simp only [hsm,decide_true];rfl) ?_;dsimp only [go_sem];refine ⟨rfl,?_⟩;refine Zr (by decide) ?_;dsimp only [go_sem];rw [Zh (n:=(j:Int)+1) (by omega) (by omega),Zai (by omega)];rw [<- hnext] at hsm ⊢;refine ⟨(j+1,_,ver',clk'),⟨hlt,hM',rfl,hsm⟩,by simp only;omega,?_⟩;generalize all ++ (Yq l p to till g been v t (j+1)).map (way ++ ·)=alln;(refine Zj ?_ ?_ ?_ rfl rfl<;>dsimp only [Z3,Zf,Zl,Zg,Wp,ZS,ZI,Yf,ZE,Zx,Za,ZL,Zv,id,go_sem]<;>simp [Z3,Zf,Zl,Zg,Wp,ZS,ZI,Yf,ZE,Zx,Za,ZL,Zv,Za])
      . refine Zq (by simp only [hsm,decide_false];rfl) ?_;dsimp only [go_sem];refine ⟨rfl,?_⟩;refine Zq rfl ?_;dsimp only [go_sem];have hWs:XW l p to till (g+1) been v t=Yq l p to till g been v t l.legs.length:=by rw [Xk,if_neg hlate,if_neg hto]
        obtain ⟨R,hRs⟩:=X1 (l:=l) (p:=p) (to:=to) (till:=till) (f:=g) (been:=been) (v:=v) (t:=t) (j:=j+1) (l.legs.length - (j+1));rw [show j+1+(l.legs.length - (j+1))=l.legs.length by omega] at hRs;have hall2:all ++ (XW l p to till (g+1) been v t).map (way ++ ·)=allj ++ Wj ++ R.map (way ++ ·):=by
         rw [hWs,hRs,List.map_append,<- List.append_assoc,hnext]
        have hlong:¬ (allj ++ Wj ++ R.map (way ++ ·)).length<=200:=by rw [List.length_append];omega
        refine ⟨_,delR (key:=kI) (val:=B) (sv:=sI) (L:=L1) (k:=v) Zno Znl,?_⟩;rw [hdel];have hMf:MW L clk':=by have:=hM'.del (k:=v);rw [hdel] at this;exact this
        refine ⟨_,⟨ver',clk',hMf,rfl⟩,?_⟩;have hc2:cap (allj ++ Wj ++ R.map (way ++ ·))=cap (allj ++ Wj):=Zf0 (by omega);rw [hall2,hc2,decide_eq_false hlong];generalize cap (allj ++ Wj)=alln;(refine Yb ?_ ?_ ?_ rfl<;>dsimp only [Z3,Zf,Zl,Zg,Wp,ZS,ZI,Yf,ZE,Zx,Za,ZL,Zv,WE,id,go_sem]<;>simp [Z3,Zf,Zl,Zg,Wp,ZS,ZI,Yf,ZE,Zx,Za,ZL,Zv,WE,Za])
    refine Zr (by simpa using hcb) ?_;dsimp only [go_sem];rw [Zh (n:=(j:Int)+1) (by omega) (by omega)];have hoth:Zm l.legs[j] v = -1:=by rw [Zm,if_neg (λh=>hca h.symm),if_neg (λh=>hcb h.symm)]
    refine ⟨(j+1,allj,ver,clk),⟨hlt,hMj,by rw [Ya,VF hxj (.inl (by omega)),List.append_nil];exact hallj,hlenj⟩,by simp only;omega,?_⟩;(refine Zj ?_ ?_ ?_ rfl rfl<;>dsimp only [Z3,Zf,Zl,Zg,Wp,ZS,ZI,Yf,ZE,Zx,Za,ZL,Zv,id,go_sem]<;>simp [Z3,Zf,Zl,Zg,Wp,ZS,ZI,Yf,ZE,Zx,Za,ZL,Zv,Za])
  refine Zr (by simp;omega) ?_;dsimp only [go_sem];have hje:j=l.legs.length:=by omega
  subst hje;have hWs:XW l p to till (g+1) been v t=Yq l p to till g been v t l.legs.length:=by rw [Xk,if_neg hlate,if_neg hto]
  refine ⟨_,delR (key:=kI) (val:=B) (sv:=sI) (L:=L1) (k:=v) Zno Znl,?_⟩;rw [hdel];have hMf:MW L clk:=by have:=hMj.del (k:=v);rw [hdel] at this;exact this
  refine ⟨_,⟨ver,clk,hMf,rfl⟩,?_⟩;rw [hWs,<- hallj,Zai (by omega),decide_eq_true hlenj];(refine Yb ?_ ?_ ?_ rfl<;>dsimp only [Z3,Zf,Zl,Zg,Wp,ZS,ZI,Yf,ZE,Zx,Za,ZL,Zv,WE,id,go_sem]<;>simp [Z3,Zf,Zl,Zg,Wp,ZS,ZI,Yf,ZE,Zx,Za,ZL,Zv,WE,Za])
def Zf6 (l:Land) (p:Span) (s to day till:Int) (o:Ot):Prop :=
 if Wn l p s to day till=0 then ∃ ver,o=⟨false,.tup [.mr 0 ver,I 0],[(0,.rws ver 1 (wX (XB l p s to day till)) 35 0 1 (wI (XB l p s to day till)) 3)],1⟩
 else o=⟨false,.tup [.v (.slice none 0 0),I (Wn l p s to day till)],[],0⟩
theorem ZpO (l:Land) (hs:Xu l) (s to day till:Int) (p:Span):CtM Tryz.prog 65 [] 0 [.agg (Zt l),I s,I to,I day,I till,.agg (Zc p)] (Zf6 l p s to day till):=by
 have hw:=hs.1;have hleg:=hs.2.1;refine mk65 (by simp [hpb]) (λo ho=>?_) ?_
 . unfold Zf6 at ho;split at ho
   . obtain ⟨ver,rfl⟩:=ho;simp [KX,KXL,KXP,KXH,KFL,KF,ZL,Zv]
   . subst ho;simp [KX,KXL,KXP]
 dsimp only [ck65,rk65,Zt,Zc,go_sem];by_cases ha:Ul l p=0
 case neg =>
  refine call (Zbg l hs p ha) ?_;dsimp only [go_sem];refine Zq (by simpa using ha) ?_;dsimp only [go_sem];refine ⟨_,by rw [Zf6,if_neg (by simp [Wn,ha])],?_⟩;simp only [Wn,ha,ne_eq,not_false_eq_true,if_true];(refine Yb ?_ ?_ ?_ rfl<;>dsimp only [Zf,Zl,Zg,id,go_sem]<;>simp [Zf,Zl,Zg,Za])
 have hok:=Zc1 ha;refine call (Zdf l hs p ha) ?_;dsimp only [Z3,go_sem];refine Zr (by decide) ?_;dsimp only [go_sem];simp only [List.length_map];have h1:=XD hok.land;rw [Zh (n:=(l.wells.length:Int) - 1) (by omega) (by omega)];refine call (Zec 0 (l.wells.length - 1) s to true) ?_;dsimp only [go_sem];repeat (first | (refine gb ?_;dsimp only [go_sem]) | (refine call (Zec 0 100000 day till true) ?_;dsimp only [go_sem]))
 by_cases hr:(inR 0 (l.wells.length - 1) s && inR 0 (l.wells.length - 1) to && inR 0 100000 day && inR 0 100000 till)=true
 case neg =>
  have hb:∀ a b c d:Bool,¬ (a && b && c && d)=true->(!(a && b) || !(c && d))=true:=by decide
  refine Zq (hb _ _ _ _ hr) ?_;dsimp only [go_sem];have he:Wn l p s to day till=2:=by simp [Wn,ha,hr]
  refine ⟨_,by rw [Zf6,if_neg (by rw [he];decide)],?_⟩;rw [he];(refine Yb ?_ ?_ ?_ rfl<;>dsimp only [Zf,Zl,Zg,id,go_sem]<;>simp [Zf,Zl,Zg,Za])
 have hb:∀ a b c d:Bool,(a && b && c && d)=true->(!(a && b) || !(c && d))=false:=by decide
 refine Zr (hb _ _ _ _ hr) ?_;dsimp only [go_sem];have he:Wn l p s to day till=if (XB l p s to day till).length > 200 then 9 else 0:=by simp only [Wn,XB,ha,hr];simp
 simp only [Bool.and_eq_true,inR,decide_eq_true_eq] at hr;obtain ⟨⟨⟨hr1,hr3⟩,hd⟩,hu⟩:=hr;refine Zd2 rfl rfl rfl ?_;dsimp only [go_sem];refine gh (ZG (XG 5 0 1 35 rfl rfl) (Zmx 9 0 0 1 3 rfl rfl)) ?_;dsimp only [go_sem];have hlk:=Zrm l p hs hok till to (l.wells.length+1) [] s day [] [] 0 0 [] (.v (.slice none 0 0)) ZiH.start (by simp) (by omega) (by omega) (by simp;omega) (by simp) MW.nil (λu=>by simp [XX]) (.inr ⟨rfl,rfl⟩)
 have hW:(XW l p to till (l.wells.length+1) [] s day).map (([]:List Nat) ++ ·)=XB l p s to day till:=by simp [XB]
 rw [hW] at hlk;refine Y7 [2,1,5,7,4,8,9,6] hlk rfl rfl ?_ ?_ ?_ ?_
 . rfl
 . dsimp only [rho,go_sem];simp [Za]
 . dsimp only [rho,WE,Z3,go_sem];simp [Za,Ze,KFR,KFL,KF,Zb,mtO,nbr,Yf,Z3,Zf,Zl,Zg,Wp,ZS,ZI,wX,wI]
 rintro o ⟨ver',clk',hM',rfl⟩;dsimp only [WE,Z3,go_sem];try simp only [List.nil_append]
 by_cases hl:(XB l p s to day till).length<=200
 . refine Zr (by simp only [hl,decide_true];rfl) ?_;dsimp only [go_sem];have he0:Wn l p s to day till=0:=by rw [he,if_neg (by omega)]
   refine ⟨_,by rw [Zf6,if_pos he0];exact ⟨ver',rfl⟩,?_⟩;rw [Zai (by omega)];generalize XB l p s to day till=W;refine ZBI (λ_=>9) ?_ ?_ ?_ (λi hi j hj _=>by omega) rfl (λi hi=>absurd hi (Nat.not_lt_zero i))<;>dsimp only [go_sem]<;>simp [Za,Ze,KFR,KFL,KF,Zb,mtO,nbr,ZL,Zv]
 . refine Zq (by simp only [hl,decide_false];rfl) ?_;dsimp only [go_sem];have he9:Wn l p s to day till=9:=by rw [he,if_pos (by omega)]
   refine ⟨_,by rw [Zf6,if_neg (by rw [he9];decide)],?_⟩;rw [he9];(refine Yb ?_ ?_ ?_ rfl<;>dsimp only [Zf,Zl,Zg,id,go_sem]<;>simp [Zf,Zl,Zg,Za])
end Go.Proofs.YtiigiflofnjilaaGreat
namespace Go.Sx
open Go Go.RowKit
theorem Ztq {v i m m':Nat} {X:List (List SV)} {inn:List (List (List SV))} {r:List (List SV)} (h:inn[i]? = some r) :
 vwR (Nat.beq (v+1+i) v) (Nat.ble (v+1) (v+1+i)) m m' X (inn[v+1+i - (v+1)]?) = .sl false m' r:=by
 rw [show Nat.beq (v+1+i) v=false from by rw [Bool.eq_false_iff];intro e;have:=Nat.eq_of_beq_eq_true e;omega,show Nat.ble (v+1) (v+1+i)=true from Nat.ble_eq_true_of_le (by omega),show v+1+i - (v+1)=i from by omega,h];rfl
theorem ZlG {C:Cx} {E:Env} {w:World} {hp:List (Nat × HB)} {n:Nat->Prop} {q k v m o m' j:Nat} {xs r:List (List SV)} {T T':TypeId} {inn:List (List (List SV))} (h:HSim C E hp n w) (hpass:∀ b,¬ C.pass k b) (hq:¬ n q) (hk:lkh k hp = .rws v m xs T o m' inn T') (hj:inn[j]? = some r) :
 ∃ E',(∀ k,n k->Ele E E' k k)/\E'.hv q 0=E.hv k (v+1+j)/\E'.iss q=1/\HSim C E' ((q,.row 0 m' r T') :: (k,.gone) :: hp) (λk=>n k\/k=q) w/\ZD w w (okS C E hp) (okS C E' ((q,.row 0 m' r T') :: (k,.gone) :: hp)):=by
 let x:Value:=E.hv k (v+1+j)
 let E':Env:=⟨E.β,λk u=>if k=q then x else E.hv k u,λk=>if k=q then 1 else E.iss k⟩
 have hqk:k≠q:=by rintro rfl;rw [h.kn k hq] at hk;cases hk
 have hE:∀ k,n k->Ele E E' k k:=λk hk=>⟨rfl,by simp [E',show k≠q from by rintro rfl;exact hq hk],λ_ _=>by simp [E',show k≠q from by rintro rfl;exact hq hk]⟩;have hEi:E'.iss q=1:=by simp [E']
 have hEn:E'.hv q 0=x:=by simp [E']
 have hjl:j < inn.length:=(List.getElem?_eq_some_iff.1 hj).1;have hoc:∀ i b,i≠q->occ E' i (lkh i ((q,.row 0 m' r T') :: (k,.gone) :: hp)) b->i≠k/\occ E i (lkh i hp) b:=λi b hi=>by
  rw [Zp,if_neg hi,Zp];by_cases hik:i=k
  . rw [if_pos hik];intro e;exact e.elim
  . rw [if_neg hik];intro e;refine ⟨hik,?_⟩;cases hl:lkh i hp<;>rw [hl] at e<;>simp only [occ,E',if_neg hi] at e ⊢<;>exact e
 have hocn:∀ b,occ E' q (lkh q ((q,.row 0 m' r T') :: (k,.gone) :: hp)) b->occ E k (lkh k hp) b:=λb=>by
  rw [Zp,if_pos rfl,hk];simp only [occ,hEn];rintro ⟨len,cap,e1,e2⟩;refine ⟨j+1,by omega,?_⟩;rw [show v+(j+1)=v+1+j from by omega];exact ⟨len,cap,e1,e2⟩
 have hok:∀ b,okS C E hp b->okS C E' ((q,.row 0 m' r T') :: (k,.gone) :: hp) b:=λb hb=>⟨hb.1,λi hi=>by
  by_cases hiq:i=q
  . subst hiq;exact hb.2 k (hocn b hi)
  . exact hb.2 i (hoc i b hiq hi).2⟩
 have hst:ZD w w (okS C E hp) (okS C E' ((q,.row 0 m' r T') :: (k,.gone) :: hp)):=λb hb _=>⟨hok b hb,rfl⟩;refine ⟨E',hE,hEn,hEi,⟨λi hi=>?_,λi=>?_,λi i' b h1 h2=>?_,λi b h1=>?_,h.kp,λk hk=>(by obtain ⟨p1,p2⟩:=h.pin k hk;exact ⟨.inl p1,p2.trans (hE k p1)⟩)⟩,hst⟩
 . rw [Zp,if_neg (λe=>hi (.inr e)),Zp];split
   . rfl
   . exact h.kn i (λe=>hi (.inl e))
 . rw [Zp];by_cases hi:i=q
   . subst hi;rw [if_pos rfl];simp only [Z9,hEn,hEi];refine ⟨trivial,?_⟩;have hb:=h.bk k;rw [hk] at hb;obtain ⟨_,_,a3,_⟩:=hb;have:=a3 (j+1) m' r T' (by simp only [YF,hj]);rw [show v+(j+1)=v+1+j from by omega] at this;rcases this with e1 | ⟨b,cap,cs,e1,e2,e3,e4,e5,e6,e7⟩
     . exact .inl e1
     . exact .inr ⟨b,cap,cs,e1,e2,e3,e4,e5,e6,ZJ hst hE (λ_ h=>.inl h) _ _ e7⟩
   . rw [if_neg hi,Zp];split
     . trivial
     . refine Yh hst hE (λ_ h=>.inl h) ?_ (λb ho=>rfl) (by simp [E',hi]) (h.bk i);rcases Classical.em (n i) with h' | h'
       . exact .inr h'
       . exact .inl (h.kn i h')
 . by_cases hi:i=q<;>by_cases hi':i'=q
   . rw [hi,hi']
   . subst hi;obtain ⟨e1,e2⟩:=hoc i' b hi' h2;exact absurd (h.dj i' k b e2 (hocn b h1)) e1
   . subst hi';obtain ⟨e1,e2⟩:=hoc i b hi h1;exact absurd (h.dj i k b e2 (hocn b h2)) e1
   . exact h.dj i i' b (hoc i b hi h1).2 (hoc i' b hi' h2).2
 . by_cases hi:i=q
   . subst hi;exact (h.lo k b (hocn b h1)).imp id (λp=>absurd p (hpass b))
   . exact h.lo i b (hoc i b hi h1).2
theorem Zpn {mm:Nat} {σ : St} (kb i k j:Nat) {v m o m':Nat} {l:List SV} {T1 T T':TypeId} {xs r:List (List SV)} {inn:List (List (List SV))} (hm:Nat.ble mm k=true) (hkb:lkh kb σ.hp = .cells l T1) (hl:l[i]? = some (.mr k (v+1+j))) (hk:lkh k σ.hp = .rws v m xs T o m' inn T') (hj:inn[j]? = some r) :
 Ent mm σ ⟨σ.fr,(kb,.cells (l.set i (.mr σ.n 0)) T1) :: (σ.n,.row 0 m' r T') :: (k,.gone) :: σ.hp,σ.n+1,σ.N,σ.gs⟩:=λC E a w hmc h=>by
 have hpass:∀ b,¬ C.pass k b:=λb q=>by
  have h1:=hmc.2 k b q;have h2:=hmc.1;have h3:=Nat.le_of_ble_eq_true hm;omega
 obtain ⟨E',h1,h2,h3,h4,h5⟩:=ZlG (q:=σ.n) h.hs hpass (by simp [ltn]) hk hj;have hV:(λk=>ltn σ.n k\/k = σ.n)=ltn (σ.n+1):=by funext k;simp only [ltn,eq_iff_iff];omega
 rw [hV] at h4;have hne:kb≠k:=by rintro rfl;rw [hk] at hkb;cases hkb
 have hkn:kb < σ.n:=by
  rcases Nat.lt_or_ge kb σ.n with h' | h'
  . exact h'
  . rw [h.hs.kn kb (by simp only [ltn];omega)] at hkb;cases hkb
 have hk2:lkh kb ((σ.n,.row 0 m' r T') :: (k,.gone) :: σ.hp) = .cells l T1:=by rw [Zp,if_neg (by omega),Zp,if_neg hne];exact hkb
 have hocc:∀ b,occ E' kb (.cells (l.set i (.mr σ.n 0)) T1) b↔occ E' kb (lkh kb ((σ.n,.row 0 m' r T') :: (k,.gone) :: σ.hp)) b:=λb=>by rw [hk2];rfl
 obtain ⟨h6,h7⟩:=Wf (hb:=.cells (l.set i (.mr σ.n 0)) T1) (B:=E'.β kb) h4 hocc (by rw [hk2];rfl) ⟨rfl,rfl,rfl,rfl,λ_ _=>rfl⟩ (λhst=>by
  have hb:=h.hs.bk kb;rw [hkb] at hb;simp only [Z9] at hb ⊢;obtain ⟨cs,e1,e2⟩:=hb;have hb4:=h4.bk kb;rw [hk2] at hb4;simp only [Z9] at hb4;obtain ⟨cs',e1',_⟩:=hb4;have hβ : E'.β kb=E.β kb:=(h1 kb hkn).1;rw [hβ] at e1' ⊢;rw [e1] at e1';have hS:ZD w w (okS C E σ.hp) (okS C E' ((kb,.cells (l.set i (.mr σ.n 0)) T1) :: (σ.n,.row 0 m' r T') :: (k,.gone) :: σ.hp)):=λb hb hs=>by
   obtain ⟨q1,q2⟩:=h5 b hb hs;exact hst b q1 hs
  refine ⟨cs,e1,UD (Zft (p:=λs s'=>∀ y,R w E (ltn σ.n) (okS C E σ.hp) s y->R w E' (ltn (σ.n+1)) (okS C E' ((kb,.cells (l.set i (.mr σ.n 0)) T1) :: (σ.n,.row 0 m' r T') :: (k,.gone) :: σ.hp)) s' y)
   (λs y hy=>ZU hS.c h1 (λ_ h=>by simp only [ltn] at *;omega) _ _ hy) (λy hy=>?_) hl) e2⟩
  simp only [R] at hy ⊢
  exact ⟨by simp [ltn],by rw [h3];omega,by rw [h2];exact hy.2.2.1,by first | rfl | exact hy.2.2.2⟩)
 have hst:ZD w w (okS C E σ.hp) (okS C E' ((kb,HB.cells (l.set i (.mr σ.n 0)) T1) :: (σ.n,.row 0 m' r T') :: (k,.gone) :: σ.hp)):=λb hb hs=>by
  obtain ⟨q1,q2⟩:=h5 b hb hs;exact h7 b q1 hs
 refine ⟨E',λu=>?_,h.sz,XU hst h.df,h.gs,h6⟩;exact Xy hst h1 (λk hk=>by simp only [ltn] at *;omega) (λj b s hs=>Iff.rfl) (h.fr u)
end Go.Sx
namespace Go.Proofs.YtiigiflofnjilaaGreat
open Go Go.Sx
def co25:SC:=(sr1 [o1 1 (Jz 0 0 34),o1 2 (.alloc zv6 37),Jk 3 0,Jk 4 0] (.seq (sr1 [o1 17 (lt 1 37),o1 18 (J1 16 17),m1 5 18] (sr1 [m1 19 5,o1 20 (Jc .neq 19 0)] (Ji 20 (sr1 [o1 21 (.build zv6 []),m1 22 5,Js 2 21 3,Jk 3 0,m1 4 22] .ret) .skip))) (sr1
 [o1 23 (ao 1 28),o1 24 (lf 23 1),o1 25 (ao 1 32),o1 26 (lf 25 1),o1 27 (Jb .mul 24 26),m1 3 27] (sr1 [o1 28 (lt 2 3),m1 29 3,o1 30 (J2 64 28 29),o1 6 (.alloc zv7 142),Js 6 30 4] (.seq (sr1 [o1 31 (ao 1 0),o1 32 (ao 31 0),o1 33 (lf 32 1),o1 34 (Jl
 33),Jk 35 0] (.block 0 (.loop (sr1 [o1 36 (Jb .lss 35 34)] (.seq (Ji 36 .skip (.exit 0)) (.seq (.block 1 (sr1 [m1 37 35,m1 7 37] (sr1 [o1 39 (ao 1 0),o1 40 (lt 39 2),o1 41 (ao 1 33),o1 42 (lf 41 1),m1 43 7,o1 44 (ao 1 34),o1 45 (lf 44 1),o1 46 (ao 1
 35),o1 47 (lf 46 1),o1 48 (ao 1 2),o1 49 (lt 48 2),o1 50 (.callm 65 [.t 40,.t 42,.t 43,.t 45,.t 47,.t 49]),m1 38 50,o1 51 (Je 38 0),o1 52 (Je 38 1),m1 8 51,m1 9 52] (.gh (.seq (sr1 [m1 53 9,o1 54 (Jc .neq 53 0)] (Ji 54 (sr1 [o1 55 (.build zv6 []),Js
 2 55 3,Jk 3 0,Jk 4 9] .ret) .skip)) (sr1 [m1 56 8,o1 57 (Jl 56),Jk 58 0] (.block 2 (.loop (sr1 [o1 59 (Jb .lss 58 57)] (.seq (Ji 59 .skip (.exit 2)) (.seq (.block 3 (sr1 [o1 60 (Jx 56 58 1),o1 61 (lf 60 1),m1 11 61] (.scope (.seq (.label 0) (sr1 [Jk
 62 0] (.block 4 (.loop (sr1 [o1 63 (Jc .lss 62 13)] (.seq (Ji 63 .skip (.exit 4)) (.seq (.block 5 (sr1 [m1 64 62,m1 12 64] (sr1 [o1 65 (lt 1 37),m1 66 11,m1 67 12,o1 68 (J3 66 65 66 67),m1 13 68] (.block 6 (.loop (.seq (.block 7 (.seq (sr1 [m1 71
 13,o1 72 (Jc .eql 71 0)] (Ji 72 (.exit 5) .skip)) (sr1 [m1 73 11,m1 74 13,m1 75 12,o1 76 (.build zv6 [(0,1,.t 73),(1,1,.t 74),(2,1,.t 75)]),o1 14 (.alloc zv6 37),Js 14 76 3] (sr1 [o1 77 (lt 1 37),o1 78 (lt 14 3),m1 79 7,o1 80 (J3 59 77 78 79),m1 15
 80] (sr1 [o1 81 (lt 14 3),m1 82 15,o1 83 (J2 64 81 82),o1 16 (.alloc zv7 142),Js 16 83 4] (sr1 [o1 84 (lt 14 3),o1 85 (lt 16 4),o1 86 (lt 2 3),o1 87 (lt 6 4),o1 88 (J4 67 84 85 86 87)] (Ji 88 (.regd (Jr 6) [Jo 89 (lt 14 3),.hide (.t 2),Jm 90 15,Jo 91
 (lt 16 4)] 0 3 [Ju 2 89 3 [0],⟨some 3,.mv (.t 90),none,[0,1,3]⟩,Ju 6 91 4 (Jr 5)]) .skip))))))) (.reg [m1 69 13,o1 70 (Jc .sub 69 1),m1 13 70]))))))) (.gh (.reg [o1 92 (Jc .add 62 1),m1 62 92])))))))))))) (.gh (.reg [o1 93 (Jc .add 58 1),m1 58
 93]))))))))))))) (.gh (.reg [o1 94 (Jc .add 35 1),m1 35 94])))))))) (.gh (sr1 [o1 95 (lt 2 3),m1 96 3,Js 2 95 3,m1 3 96,Jk 4 0] .ret)))))))
def ro25:List RV:=[.cell 2 3 true,.tmp 3,.tmp 4]
theorem no25:Tryz.f25.ntmps=97:=by kernel_rfl
theorem bo25:YO Tryz.prog 25=true:=by kernel_rfl
theorem ZvP:XM Tryz.prog co25 ((Tryz.f25.body).getD .skip)=true:=by kernel_rfl
theorem ZwC:Wu Tryz.prog ro25 Tryz.f25.results.toList=true:=by kernel_rfl
theorem mo25 {n0:Nat} {hp0:List (Nat × HB)} {args:List SV} {Z8:Ot->Prop} (hh:hpb n0 hp0) (hx:∀ o,Z8 o->KX o.res/\KXP o.hp) (h:sx Tryz.prog Y0 n0 co25 ⟨X8 0 args,hp0,n0,97,[]⟩ (Zbm ro25 λo=>∃ o',Z8 o'/\ZcU n0 o o')) (hA:Nat.ble args.length 97=true:=by rfl):CtM Tryz.prog 25 hp0 n0 args Z8:=YN Tryz.func25 rfl bo25 ZvP ZwC no25 (Nat.le_of_ble_eq_true hA) hh hx h
open Go.Azalai
def lsS (ver:Nat):Option Nat->SV
 | none=>.mr 3 0
 | some j=>.mr 4 (ver+1+j)
theorem WC (ver:Nat) (c:Option Nat):mtS id 5 (lsS ver c) (lsS ver c)=True:=by cases c<;>simp [lsS,mtS]
def lsW (W:List (List Nat)) (R a:List Nat):Option Nat->Prop
 | none=>a=R
 | some j=>W[j]? = some a
def ZfJ (s:Season) (o:Ot):Prop :=
 if (Xq s).2.2=0 then ∃ a:List Nat,(Xq s).1.legs=Yx a/\a.length<=1000/\o=⟨false,.tup [.agg [.mr 0 0,I (Xq s).1.animals,I (Xq s).1.slabs],I (Xq s).2.1,I 0],[(0,.row 0 1 (a.map ZI) 3)],1⟩
 else o=⟨false,.tup [.agg [.v (.slice none 0 0),I 0,I 0],I 0,I (Xq s).2.2],[],0⟩
theorem Zx8 {s:Season} {b:Bst} (hR:Xq s=(b.plan,b.w,0)) (hb:b.legs.length<=1000):ZfJ s ⟨false,.tup [.agg [.mr 0 0,I b.an,I b.sl],I b.w,I 0],[(0,.row 0 1 (b.legs.map ZI) 3)],1⟩:=by
 unfold ZfJ;rw [hR,if_pos rfl];exact ⟨b.legs,rfl,hb,rfl⟩
theorem ZmT {s:Season} {e:Int} (hR:Xq s=(⟨[],0,0⟩,0,e)) (he:e≠0):ZfJ s ⟨false,.tup [.agg [.v (.slice none 0 0),I 0,I 0],I 0,I e],[],0⟩:=by
 unfold ZfJ;rw [hR,if_neg he]
theorem Zmo {W:List (List Nat)} {j:Nat} {a:List Nat} (h:W[j]? = some a):(wI W)[j]? = some (a.map ZI):=by simp [wI,h]
theorem Zsl (s:Season) (hs:SmallS s):CtM Tryz.prog 25 [] 0 [.agg (Zs s)] (ZfJ s):=by
 refine mo25 (by simp [hpb]) (λo ho=>?_) ?_
 . unfold ZfJ at ho;split at ho
   . obtain ⟨a,-,-,rfl⟩:=ho;simp [KX,KXL,KXP,KXH,KFL,KF,Zcc]
   . subst ho;simp [KX,KXL,KXP,KFL,KF]
 dsimp only [co25,ro25,Zs,go_sem];refine call (Zez s hs) ?_;dsimp only [go_sem];by_cases ho:ZZ s=true
 case neg =>
  refine Zq (by simp [ho]) ?_;dsimp only [go_sem];refine ⟨_,ZmT (e:=90) (by unfold Xq;exact if_pos (by simpa using ho)) (by decide),?_⟩;rw [if_neg ho];(refine Yb ?_ ?_ ?_ rfl<;>dsimp only [Zf,Zl,Zg,Zi,Zc,Zn,id,go_sem]<;>simp [Zf,Zl,Zg,Zi,Zc,Zn,Za])
 refine Zr (by simp [ho]) ?_;dsimp only [go_sem];have h:OkS s:=⟨hs,ho⟩
 have hn:=h.num;have hw0:0<=s.herd * s.sale/\s.herd * s.sale<=30 * 1000000:=⟨Int.mul_nonneg (by omega) (by omega),Int.mul_le_mul (by omega) (by omega) (by omega) (by decide)⟩
 rw [Zh (n:=s.herd * s.sale) (by omega) (by omega)];refine call (ZtX (s.herd * s.sale)) ?_;dsimp only [go_sem];simp only [List.length_map];have hR:Xq s=match Zip s with | none=>(⟨[],0,0⟩,0,9) | some b=>(b.plan,b.w,0):=by unfold Xq;exact if_neg (by simp [ho])
 have hwl:=h.land;simp only [ZX,inR,Bool.and_eq_true,decide_eq_true_eq] at hwl;refine Zau (ZG (Ww [1,2,3,6,34,35] rfl) (XG 1 0 1 3 rfl rfl))
  (λq:Nat × Bst=>[(35,I q.1),(3,I q.2.w)]) (λq=>[(1,.cells [.mr 3 0,I q.2.an,I q.2.sl] 37),(2,.cells (Vt q.2) 142),(3,.row 0 1 (q.2.legs.map ZI) 3)])
  (λq=>q.1<=s.land.wells.length/\ZaR s ((List.range s.land.wells.length).drop q.1) q.2=Zip s/\SmB q.2) (λq=>s.land.wells.length - q.1) (0,⟨[],0,0,s.herd * s.sale⟩)
  ⟨Nat.zero_le _,rfl,⟨by simp,by simp,by simp⟩⟩ ?_ ?_
 . (refine Zj ?_ ?_ ?_ rfl rfl<;>dsimp only [ZK,Vt,Bst.plan,Yx,Zf,Zl,Zg,Zi,Zc,Zn,ZI,id,go_sem]<;>simp [ZK,Vt,Bst.plan,Yx,Zf,Zl,Zg,Zi,Zc,Zn,ZI,Za])
 rintro ⟨g,b⟩ ⟨hg,hi,hb⟩;simp only at hg hi hb;dsimp only [Vt,go_sem];by_cases hlt:g < s.land.wells.length
 case neg =>
  refine Zr (by simp;omega) ?_;dsimp only [go_sem];refine gh Yj ?_;dsimp only [go_sem];rw [List.drop_eq_nil_of_le (by simp;omega),ZaR] at hi;have hR':Xq s=(b.plan,b.w,0):=by rw [hR,<- hi]
  refine ⟨_,Zx8 hR' hb.len,?_⟩;have hkn:=Zcc b.legs;refine ZBI (rho [3]) ?_ ?_ ?_ (ZfN rfl rfl) rfl (λi hi=>absurd hi (Nat.not_lt_zero i))<;>dsimp only [Bst.plan,go_sem]<;>simp [Za,Ze,KFR,KFL,KF,Zb,mtO,nbr,ZI]
 refine Zq (by simpa using hlt) ?_;dsimp only [go_sem];rw [List.drop_eq_getElem_cons (by simpa using hlt),List.getElem_range,ZaR] at hi;refine Y7 [] (ZpO s.land hs.land s.start g s.day s.till s.pace) rfl rfl rfl ?_ ?_ ?_
 . dsimp only [Zt,Zc,go_sem];simp [Za,Ze,KFR,KFL,KF,Zb,mtL,mtB,mtS,mtO,Za6,nbr,Zf,Zl,Zg]
 . trivial
 intro o ho;unfold Zf6 at ho;by_cases hE:Wn s.land s.pace s.start g s.day s.till=0
 case neg =>
  rw [if_neg hE] at ho;subst ho;dsimp only [go_sem];refine gh Yj ?_;dsimp only [go_sem];refine Zq (by simpa using hE) ?_;dsimp only [go_sem];rw [if_pos hE] at hi;have hR':Xq s=(⟨[],0,0⟩,0,9):=by rw [hR,<- hi]
  refine ⟨_,ZmT hR' (by decide),?_⟩;(refine Yb ?_ ?_ ?_ rfl<;>dsimp only [Zf,Zl,Zg,Zi,Zc,Zn,id,go_sem]<;>simp [Zf,Zl,Zg,Zi,Zc,Zn,Za])
 rw [if_pos hE] at ho;obtain ⟨ver,rfl⟩:=ho;dsimp only [go_sem];refine gh Yj ?_;dsimp only [go_sem];refine Zr (by decide) ?_;dsimp only [go_sem];rw [if_neg (by simpa using hE)] at hi;have hmem:∀ a ∈ XB s.land s.pace s.start g s.day s.till,Xr s.land s.start [s.start] (Yx a)=some (g:Int)/\a.length<=24:=λa ha=>by
  have h1:=((Zgw h).1 ha).1;exact ⟨h1,by simpa [Yx] using (ZBH h h1).2⟩
 have hwlen:(XB s.land s.pace s.start g s.day s.till).length<=1000:=by
  unfold Wn at hE;split at hE
  . rename_i q;exact absurd hE q
  split at hE
  . simp at hE
  split at hE
  . simp at hE
  . rename_i q;unfold XB;omega
 generalize XB s.land s.pace s.start g s.day s.till=W at hi hmem hwlen ⊢;refine ⟨0,1,_,_,rfl,rfl,?_⟩;simp only [YV,Vu];obtain ⟨RR,hRR⟩:∃ RR,RR=b.legs:=⟨_,rfl⟩
 have hRk:=Zcc RR;have hXk:=ZL W;have hIk:=Zv W;rw [<- hRR];refine XE [1,2,3,6,7,34,35,56,57,58] rfl (λq:Nat × Bst × Option Nat=>[(58,I q.1),(3,I q.2.1.w)]) (λq=>[(1,.cells [lsS ver q.2.2,I q.2.1.an,I q.2.1.sl] 37),(2,.cells (Vt q.2.1) 142)])
  (λq=>q.1<=W.length/\(W.drop q.1).foldl (ZyH s g) q.2.1=W.foldl (ZyH s g) b/\SmB q.2.1/\lsW W RR q.2.1.legs q.2.2) (λq=>W.length - q.1) (0,b,none) ⟨Nat.zero_le _,rfl,hb,hRR.symm⟩ ?_ ?_
 . (refine Zj ?_ ?_ ?_ rfl rfl<;>dsimp only [ZK,Bst.plan,Vt,YR,Zf,Zl,Zg,Zi,Zc,Zn,ZI,lsS,hXk,hIk,hRk,hRR,id,go_sem]<;>simp [ZK,Bst.plan,Vt,YR,Zf,Zl,Zg,Zi,Zc,Zn,ZI,lsS,hXk,hIk,hRk,hRR,Za])
 rintro ⟨i,b1,c1⟩ ⟨hi1,hf1,hb1,hc1⟩;simp only at hi1 hf1 hb1 hc1;dsimp only [Vt,go_sem];by_cases hilt:i < W.length
 case neg =>
  refine Zr (by simp;omega) ?_;dsimp only [go_sem];rw [List.drop_eq_nil_of_le (by omega),List.foldl_nil] at hf1;cases c1 with
  | none =>
   refine gh Yj ?_;dsimp only [go_sem];rw [Zh (n:=(g:Int)+1) (by omega) (by omega)];have:b1.legs=RR:=hc1;refine ⟨(g+1,b1),⟨hlt,by simp only;rw [hf1];exact hi,hb1⟩,by simp only;omega,?_⟩;simp only [this];(refine Zj ?_ ?_ ?_ rfl rfl<;>dsimp only [ZK,Bst.plan,Vt,YR,Zf,Zl,Zg,Zi,Zc,Zn,ZI,lsS,hXk,hIk,hRk,id,go_sem]<;>simp [ZK,Bst.plan,Vt,YR,Zf,Zl,Zg,Zi,Zc,Zn,ZI,lsS,hXk,hIk,hRk,Za])
  | some j =>
   have hj:W[j]? = some b1.legs:=hc1;refine gh (Zpn 1 0 4 j rfl rfl rfl rfl (Zmo hj)) ?_;dsimp only [lsS,go_sem];rw [Zh (n:=(g:Int)+1) (by omega) (by omega)];refine ⟨(g+1,b1),⟨hlt,by simp only;rw [hf1];exact hi,hb1⟩,by simp only;omega,?_⟩;have hLk:=Zcc b1.legs;refine ent (rho [0,1,2,5]) ?_ ?_ ?_ (ZfN rfl rfl) rfl rfl (λi hi=>absurd hi (Nat.not_lt_zero i))<;>dsimp only [ZK,Bst.plan,Vt,YR,Zf,Zl,Zg,Zi,Zc,Zn,ZI,lsS,go_sem]<;>simp [Za,Ze,KFR,KFL,KF,Zb,mtO,nbr,ZI,hLk,Zf,Zl,Zg,Zi,Zc,Zn]
 refine Zq (by simpa using hilt) ?_;dsimp only [go_sem];refine ZzJ i rfl (by simp [Vu];omega) ?_;dsimp only [go_sem];refine ⟨0,_,_,rfl,rfl,[.mr 4 (ver+1+i)],ZQ.2 λ_=>?_,?_⟩
 . rw [Wq,if_pos (by rw [Zgo];exact hilt)];simp [wX,hilt]
 dsimp only [go_sem];rw [List.drop_eq_getElem_cons hilt,List.foldl_cons] at hf1;obtain ⟨hto,hal⟩:=hmem _ (List.getElem_mem hilt);have hai:W[i]? = some W[i]:=List.getElem?_eq_getElem hilt;generalize W[i]=a at hf1 hto hal hai ⊢;have hwv:=λm X=>Ztq (v:=ver) (i:=i) (m:=m) (m':=1) (X:=X) (Zmo hai);refine XE [1,2,3,6,7,11,34,35,56,57,58,62] rfl (λq:Nat × Bst × Option Nat=>[(62,I q.1),(3,I q.2.1.w)]) (λq=>[(1,.cells [lsS ver q.2.2,I q.2.1.an,I q.2.1.sl] 37),(2,.cells (Vt q.2.1) 142)])
  (λq=>q.1<=13/\((List.range 13).drop q.1).foldl (Zf3 s g a) q.2.1=ZyH s g b1 a/\SmB q.2.1/\lsW W RR q.2.1.legs q.2.2) (λq=>13 - q.1) (0,b1,c1) ⟨Nat.zero_le _,rfl,hb1,hc1⟩ ?_ ?_
 . (refine Zj ?_ ?_ ?_ rfl rfl<;>dsimp only [ZK,Bst.plan,Vt,YR,Zf,Zl,Zg,Zi,Zc,Zn,ZI,WC,hXk,hIk,hRk,id,go_sem]<;>simp [ZK,Bst.plan,Vt,YR,Zf,Zl,Zg,Zi,Zc,Zn,ZI,WC,hXk,hIk,hRk,Za])
 rintro ⟨k,b2,c2⟩ ⟨hk1,hf2,hb2,hc2⟩;simp only at hk1 hf2 hb2 hc2;dsimp only [Vt,go_sem];by_cases hk:k < 13
 case neg =>
  refine Zr (by simp;omega) ?_;dsimp only [go_sem];refine gh Yj ?_;dsimp only [go_sem];rw [List.drop_eq_nil_of_le (by simp;omega),List.foldl_nil] at hf2;rw [Zh (n:=(i:Int)+1) (by omega) (by omega)];refine ⟨(i+1,b2,c2),⟨hilt,by simp only;rw [hf2];exact hf1,hb2,hc2⟩,by simp only;omega,?_⟩;(refine Zj ?_ ?_ ?_ rfl rfl<;>dsimp only [ZK,Bst.plan,Vt,YR,Zf,Zl,Zg,Zi,Zc,Zn,ZI,WC,hXk,hIk,hRk,id,go_sem]<;>simp [ZK,Bst.plan,Vt,YR,Zf,Zl,Zg,Zi,Zc,Zn,ZI,WC,hXk,hIk,hRk,Za])
 refine Zq (by simp;omega) ?_;dsimp only [go_sem];have hfi:=Zyn s h (Yx a) (by rw [hto];rfl) (by rw [Y5];omega) k ⟨by omega,by omega⟩;rw [Zfv] at hfi;simp only [Zs] at hfi;refine Zaz (by simp [FLT]) (res:=I (UH s (Yx a) k)) ?_ ?_
 . dsimp only [go_sem];rw [hwv];exact hfi
 have hfb:=ZdF h (a:=Yx a) (k:=(k:Int));rw [List.drop_eq_getElem_cons (by simpa using hk),List.getElem_range,List.foldl_cons] at hf2;obtain ⟨F,hF⟩:∃ F:Nat,UH s (Yx a) k=F:=⟨(UH s (Yx a) k).toNat,by omega⟩
 have hsl:Zf3 s g a b2 k=Za8 s g a k F b2:=by simp only [Zf3,hF,Int.toNat_natCast]
 rw [hsl] at hf2;rw [hF] at hfb ⊢;dsimp only [go_sem];refine XE [1,2,3,6,7,11,12,13,34,35,56,57,58,62] rfl (λq:Nat × Bst × Option Nat=>[(13,I q.1),(3,I q.2.1.w)]) (λq=>[(1,.cells [lsS ver q.2.2,I q.2.1.an,I q.2.1.sl] 37),(2,.cells (Vt q.2.1) 142)])
  (λq=>q.1<=F/\Za8 s g a k q.1 q.2.1=Za8 s g a k F b2/\SmB q.2.1/\lsW W RR q.2.1.legs q.2.2) (λq=>q.1) (F,b2,c2) ⟨Nat.le_refl _,rfl,hb2,hc2⟩ ?_ ?_
 . (refine Zj ?_ ?_ ?_ rfl rfl<;>dsimp only [ZK,Bst.plan,Vt,YR,Zf,Zl,Zg,Zi,Zc,Zn,ZI,WC,hXk,hIk,hRk,id,go_sem]<;>simp [ZK,Bst.plan,Vt,YR,Zf,Zl,Zg,Zi,Zc,Zn,ZI,WC,hXk,hIk,hRk,Za])
 rintro ⟨n,b3,c3⟩ ⟨hn1,hf3,hb3,hc3⟩;simp only at hn1 hf3 hb3 hc3;dsimp only [Vt,go_sem];by_cases h0:n=0
 . subst h0;refine Zq (by simp) ?_;dsimp only [go_sem];rw [Za8] at hf3;refine gh Yj ?_;dsimp only [go_sem];rw [Zh (n:=(k:Int)+1) (by omega) (by omega)];refine ⟨(k+1,b3,c3),⟨by simp only;omega,by simp only;rw [hf3];exact hf2,hb3,hc3⟩,by simp only;omega,?_⟩;(refine Zj ?_ ?_ ?_ rfl rfl<;>dsimp only [ZK,Bst.plan,Vt,YR,Zf,Zl,Zg,Zi,Zc,Zn,ZI,WC,hXk,hIk,hRk,id,go_sem]<;>simp [ZK,Bst.plan,Vt,YR,Zf,Zl,Zg,Zi,Zc,Zn,ZI,WC,hXk,hIk,hRk,Za])
 obtain ⟨m,rfl⟩:∃ m,n=m+1:=⟨n - 1,by omega⟩
 refine Zr (by simp;omega) ?_;dsimp only [go_sem];have hp:U9 s ⟨Yx a,((m+1:Nat):Int),k⟩=true:=Zgu hto ⟨by simp only;omega,by simp only;omega⟩ ⟨by simp only;omega,by simp only;omega⟩;have hcs:SmB (YR s g a k ((m+1:Nat):Int)):=ZlQ (by omega) ⟨by omega,by omega⟩ ⟨by omega,by omega⟩;have hwo:=Zoh s h ⟨Yx a,((m+1:Nat):Int),k⟩ hp g hlt;simp only [ZK,Zfv,Zs] at hwo;refine Zaz (by simp [FLT]) (res:=I (ZeQ s ⟨Yx a,((m+1:Nat):Int),k⟩ g)) ?_ ?_
 . dsimp only [go_sem];rw [hwv];exact hwo
 dsimp only [go_sem];have hso:=Zen (YR s g a k ((m+1:Nat):Int)) hcs;simp only [ZK,Bst.plan,YR,Zfv] at hso;refine Zaz (by simp [FLT,Zx9,Vt]) (res:=.agg (Vt (YR s g a k ((m+1:Nat):Int)))) ?_ ?_
 . dsimp only [go_sem];rw [hwv];exact hso
 dsimp only [Vt,YR,go_sem];have hbo:=ZkZ (YR s g a k ((m+1:Nat):Int)) b3 hcs hb3;simp only [ZK,Bst.plan,Vt,YR,Zfv] at hbo;refine Zaz (by simp [FLT]) (res:=B (Z5 (YR s g a k ((m+1:Nat):Int)) b3)) ?_ ?_
 . cases c3 with
   | none =>
    have e3:b3.legs=RR:=hc3;dsimp only [lsS,go_sem];rw [hwv,<- e3];exact hbo
   | some j =>
    have hwv3:=λm X=>Ztq (v:=ver) (i:=j) (m:=m) (m':=1) (X:=X) (Zmo (W:=W) hc3);dsimp only [lsS,go_sem];rw [hwv,hwv3];exact hbo
 dsimp only [go_sem];rw [Za8] at hf3;by_cases hbb:Z5 (YR s g a k ((m+1:Nat):Int)) b3=true
 . refine Zq (by simpa using hbb) ?_;dsimp only [go_sem];rw [ZfQ,if_pos hbb] at hf3;rw [Zh (n:=(((m+1:Nat):Int)) - 1) (by omega) (by omega),show (((m+1:Nat):Int)) - 1=(m:Int) from by omega];refine ⟨(m,YR s g a k ((m+1:Nat):Int),some i),⟨by simp only;omega,hf3,hcs,hai⟩,by simp only;omega,?_⟩;(refine Zj ?_ ?_ ?_ rfl rfl<;>dsimp only [ZK,Bst.plan,Vt,YR,Zf,Zl,Zg,Zi,Zc,Zn,ZI,lsS,hXk,hIk,hRk,id,go_sem]<;>simp [ZK,Bst.plan,Vt,YR,Zf,Zl,Zg,Zi,Zc,Zn,ZI,lsS,hXk,hIk,hRk,Za])
 . refine Zr (by simpa using hbb) ?_;dsimp only [go_sem];rw [ZfQ,if_neg hbb] at hf3;rw [Zh (n:=(((m+1:Nat):Int)) - 1) (by omega) (by omega),show (((m+1:Nat):Int)) - 1=(m:Int) from by omega];refine ⟨(m,b3,c3),⟨by simp only;omega,hf3,hb3,hc3⟩,by simp only;omega,?_⟩;(refine Zj ?_ ?_ ?_ rfl rfl<;>dsimp only [ZK,Bst.plan,Vt,YR,Zf,Zl,Zg,Zi,Zc,Zn,ZI,WC,hXk,hIk,hRk,id,go_sem]<;>simp [ZK,Bst.plan,Vt,YR,Zf,Zl,Zg,Zi,Zc,Zn,ZI,WC,hXk,hIk,hRk,Za])
def c26:SC:=(sr1 [o1 1 (Jz 0 0 34),o1 2 (.alloc zv6 37),Jk 3 0,Jk 4 0] (.seq (sr1 [o1 18 (lt 1 37),o1 19 (J1 50 18),o1 20 (Jh 19)] (Ji 20 (sr1 [o1 21 (.build zv6 []),Js 2 21 3,Jk 3 0,Jk 4 90] .ret) .skip)) (sr1 [o1 5 (.mv (.c (.slice none 0 0)))]
 (.seq (sr1 [Jk 6 0] (.block 0 (.loop (.seq (sr1 [m1 22 6,o1 23 (ao 1 0),o1 24 (ao 23 0),o1 25 (lf 24 1),o1 26 (Jl 25),o1 27 (Jb .lss 22 26)] (Ji 27 .skip (.exit 0))) (.seq (.block 1 (sr1 [o1 31 (ao 1 0),o1 32 (lt 31 2),o1 33 (ao 1 33),o1 34 (lf 33
 1),m1 35 6,o1 36 (ao 1 34),o1 37 (lf 36 1),o1 38 (ao 1 35),o1 39 (lf 38 1),o1 40 (ao 1 2),o1 41 (lt 40 2),o1 42 (J6 68 32 34 35 37 39 41),m1 30 42,o1 43 (Je 30 0),o1 44 (Je 30 1),m1 7 43,m1 8 44] (.seq (sr1 [m1 45 8,o1 46 (Jc .neq 45 0)] (Ji 46 (sr1
 [o1 47 (.build zv6 []),Js 2 47 3,Jk 3 0,Jk 4 9] .ret) .skip)) (.reg [m1 48 5,m1 49 7,o1 50 (.appm 1 24 35 (.t 48) (.t 49)),m1 5 50])))) (.reg [m1 28 6,o1 29 (Jc .add 28 1),m1 6 29])))))) (.gh (sr1 [o1 51 (.build zv6 []),o1 9 (.alloc zv6 37),Js 9 51
 3] (sr1 [o1 52 (ao 1 28),o1 53 (lf 52 1),o1 54 (ao 1 32),o1 55 (lf 54 1),o1 56 (Jb .mul 53 55),m1 10 56] (.seq (sr1 [Jk 11 0] (.block 2 (.loop (.seq (sr1 [m1 57 11,m1 58 5,o1 59 (Jl 58),o1 60 (Jb .lss 57 59)] (Ji 60 .skip (.exit 2))) (.seq (.block 3
 (.seq (.regd (Jr 11) [Jo 64 (lt 1 37),Jm 65 5,Jm 66 11,Jp 67 (Jx 65 66 1) [1,2],Jp 68 (lf 67 1) [3],Jp 69 (J2 62 64 68) [0,4],Jp 63 (.mv (.t 69)) [5],Jp 70 (Je 63 0) [6],Jp 71 (Je 63 1) [6],Jp 12 (.mv (.t 70)) (Jr 8),Jp 13 (.mv (.t 71)) (Jr 10)] 0 0
 []) (sr1 [Jk 14 0] (.block 4 (.loop (.seq (sr1 [m1 72 14,o1 73 (Jc .leq 72 12)] (Ji 73 .skip (.exit 4))) (.seq (.block 5 (.seq (.regd (Jr 9) [Jo 76 (lt 1 37),Jm 77 5,Jm 78 11,Jp 79 (Jx 77 78 1) [1,2],Jp 80 (lf 79 1) [3],Jm 81 12,Jm 82 14,Jp 83 (J4 69
 76 80 81 82) [0,4,5,6],Jp 15 (.mv (.t 83)) (Jr 8)] 0 0 []) (.block 6 (.loop (.seq (sr1 [m1 84 15,o1 85 (Jc .gtr 84 0)] (Ji 85 .skip (.exit 6))) (.seq (.block 7 (sr1 [m1 88 5,m1 89 11,o1 90 (Jx 88 89 1),o1 91 (lf 90 1),m1 92 15,m1 93 14,o1 94 (.build
 zv6 [(0,1,.t 91),(1,1,.t 92),(2,1,.t 93)]),o1 16 (.alloc zv6 37),Js 16 94 3] (sr1 [o1 95 (lt 1 37),o1 96 (lt 16 3),o1 97 (J2 60 95 96),m1 17 97] (sr1 [o1 98 (lt 16 3),m1 99 17,o1 100 (lt 9 3),m1 101 10,o1 102 (J4 70 98 99 100 101)] (Ji 102 (.reg [o1
 103 (lt 16 3),m1 104 17,Js 9 103 3,m1 10 104]) .skip))))) (.reg [m1 86 15,o1 87 (Jc .sub 86 1),m1 15 87]))))))) (.gh (.reg [m1 74 14,o1 75 (Jc .add 74 1),m1 14 75]))))))))) (.gh (.reg [m1 61 11,o1 62 (Jc .add 61 1),m1 11 62]))))))) (.gh (sr1 [o1 105
 (lt 9 3),m1 106 10,Js 2 105 3,m1 3 106,Jk 4 0] .ret))))))))))
def r26:List RV:=[.cell 2 3 true,.tmp 3,.tmp 4]
theorem n26:Tryz.f26.ntmps=107:=by kernel_rfl
theorem b26:YO Tryz.prog 26=true:=by kernel_rfl
theorem Zz7:XM Tryz.prog c26 ((Tryz.f26.body).getD .skip)=true:=by kernel_rfl
theorem ZAm:Wu Tryz.prog r26 Tryz.f26.results.toList=true:=by kernel_rfl
def c69:SC:=(sr1 [o1 4 (Jz 0 0 34),Jk 8 0] (sr1 [o1 13 (ao 4 28),o1 14 (lf 13 1),m1 9 14] (.seq (sr1 [Jk 10 0] (.block 0 (.loop (.seq (sr1 [m1 15 10,o1 16 (ao 4 36),o1 17 (lf 16 1),o1 18 (Jl 17),o1 19 (Jb .lss 15 18)] (Ji 19 .skip (.exit 0))) (.seq
 (.block 1 (sr1 [o1 22 (lt 4 37),m1 23 10,m1 24 1,m1 25 2,m1 26 3,o1 27 (J5 63 22 23 24 25 26),o1 11 (.alloc ZBm 139),Js 11 27 4] (.seq (sr1 [o1 28 (ao 11 0),o1 29 (lf 28 1),o1 30 (.bin .neq (.t 29) (.c (.int .u8 0)))] (Ji 30 (sr1 [Jk 8 0] .ret)
 .skip)) (sr1 [Jk 12 0] (.block 2 (.loop (.seq (sr1 [m1 31 12,o1 32 (ao 11 2),o1 33 (lf 32 1),o1 34 (Jl 33),o1 35 (Jb .lss 31 34)] (Ji 35 .skip (.exit 2))) (.seq (.block 3 (.block 4 (.loop (.seq (.seq (.regd (Jr 17) [Jm 38 9,Jp 39 (Jc .gtr 38 0)
 [0],Jp 40 (.mv (.t 39)) [1],Jq 41 40 true (.mv (.t 9)) [2],Jq 42 40 true (ao 11 2) [2],Jq 43 40 true (lf 42 1) [2,4],Jq 44 40 true (.mv (.t 12)) [2],Jq 45 40 true (Jx 43 44 1) [2,5,6],Jq 46 40 true (lf 45 1) [2,7],Jq 47 40 true (Jb .mul 41 46)
 [2,3,8],Jq 48 40 true (ao 11 3) [2],Jq 49 40 true (lf 48 1) [2,10],Jq 50 40 true (.mv (.t 12)) [2],Jq 51 40 true (Jx 49 50 1) [2,11,12],Jq 52 40 true (lf 51 1) [2,13],Jq 53 40 true (Jb .gtr 47 52) [2,9,14],Jp 54 (.pick (.t 40) (.t 53) Jf) [2,15]] 0 0
 []) (Ji 54 .skip (.exit 4))) (.block 5 (.reg [m1 55 9,o1 56 (Jc .sub 55 1),m1 9 56])))))) (.reg [m1 36 12,o1 37 (Jc .add 36 1),m1 12 37]))))))))) (.reg [m1 20 10,o1 21 (Jc .add 20 1),m1 10 21])))))) (sr1 [m1 57 9,m1 8 57] .ret))))
def r69:List RV:=[.tmp 8]
theorem t69:Qt1 Tryz.prog 69 c69 r69 58:=Z0 Tryz.func69
def c70:SC:=(sr1 [o1 4 (Jz 0 0 37),o1 6 (Jz 2 0 37),Jw 8 Jf] (.seq (sr1 [m1 9 1,m1 10 3,o1 11 (Jb .neq 9 10)] (Ji 11 (sr1 [m1 12 1,m1 13 3,o1 14 (Jb .gtr 12 13),m1 8 14] .ret) .skip)) (.seq (sr1 [o1 15 (ao 4 1),o1 16 (lf 15 1),o1 17 (ao 6 1),o1 18 (lf
 17 1),o1 19 (Jb .neq 16 18)] (Ji 19 (sr1 [o1 20 (ao 4 1),o1 21 (lf 20 1),o1 22 (ao 6 1),o1 23 (lf 22 1),o1 24 (Jb .lss 21 23),m1 8 24] .ret) .skip)) (.seq (sr1 [o1 25 (ao 4 2),o1 26 (lf 25 1),o1 27 (ao 6 2),o1 28 (lf 27 1),o1 29 (Jb .neq 26 28)] (Ji
 29 (sr1 [o1 30 (ao 4 2),o1 31 (lf 30 1),o1 32 (ao 6 2),o1 33 (lf 32 1),o1 34 (Jb .lss 31 33),m1 8 34] .ret) .skip)) (sr1 [o1 35 (ao 4 0),o1 36 (lf 35 1),o1 37 (ao 6 0),o1 38 (lf 37 1),o1 39 (J2 117 36 38),m1 8 39] .ret)))))
def r70:List RV:=[.tmp 8]
theorem t70:Qt1 Tryz.prog 70 c70 r70 40:=Z0 Tryz.func70
def c117:SC:=(sr1 [Jw 4 Jf] (.seq (sr1 [m1 6 0,o1 7 (Jl 6),m1 8 1,o1 9 (Jl 8),o1 10 (Jb .neq 7 9)] (Ji 10 (sr1 [m1 11 0,o1 12 (Jl 11),m1 13 1,o1 14 (Jl 13),o1 15 (Jb .lss 12 14),m1 4 15] .ret) .skip)) (.seq (sr1 [Jk 5 0] (.block 0 (.loop (.seq (sr1
 [m1 16 5,m1 17 0,o1 18 (Jl 17),o1 19 (Jb .lss 16 18)] (Ji 19 .skip (.exit 0))) (.seq (.block 1 (.seq (.regd (Jr 9) [Jm 22 0,Jm 23 5,Jp 24 (Jx 22 23 1) [0,1],Jp 25 (lf 24 1) [2],Jm 26 1,Jm 27 5,Jp 28 (Jx 26 27 1) [4,5],Jp 29 (lf 28 1) [6],Jp 30 (Jb
 .neq 25 29) [3,7]] 0 0 []) (Ji 30 (.seq (.regd (Jr 10) [Jm 31 0,Jm 32 5,Jp 33 (Jx 31 32 1) [0,1],Jp 34 (lf 33 1) [2],Jm 35 1,Jm 36 5,Jp 37 (Jx 35 36 1) [4,5],Jp 38 (lf 37 1) [6],Jp 39 (Jb .lss 34 38) [3,7],Jp 4 (.mv (.t 39)) (Jr 9)] 0 0 []) .ret)
 .skip))) (.reg [m1 20 5,o1 21 (Jc .add 20 1),m1 5 21])))))) (sr1 [Jw 4 Jf] .ret))))
def r117:List RV:=[.tmp 4]
theorem t117:Qt1 Tryz.prog 117 c117 r117 40:=Z0 Tryz.func117
def c28:SC:=(sr1 [o1 1 (Jz 0 0 34),Jk 2 0,Jk 3 0] (.seq (sr1 [o1 12 (lt 1 37),o1 13 (J1 50 12),o1 14 (Jh 13)] (Ji 14 (sr1 [Jk 2 0,Jk 3 90] .ret) .skip)) (sr1 [o1 16 (ao 1 0),o1 17 (lt 16 2),o1 18 (ao 1 33),o1 19 (lf 18 1),o1 20 (ao 1 34),o1 21 (lf 20
 1),o1 22 (ao 1 2),o1 23 (lt 22 2),o1 24 (J4 72 17 19 21 23),m1 15 24,o1 25 (Je 15 0),o1 26 (Je 15 1),m1 4 25,m1 5 26] (sr1 [o1 27 (ao 1 4),o1 28 (ao 27 15),o1 29 (ao 28 0),o1 30 (lf 29 1),o1 31 (ao 1 30),o1 32 (lf 31 1),o1 33 (.div .quo (.t 30) (.t
 32)),o1 34 (.mm false [cn 12,.t 33]),m1 6 34] (sr1 [Jk 7 0] (.seq (sr1 [Jk 8 0] (.block 0 (.loop (.seq (sr1 [m1 35 8,o1 36 (ao 1 36),o1 37 (lf 36 1),o1 38 (Jl 37),o1 39 (Jb .lss 35 38)] (Ji 39 .skip (.exit 0))) (.seq (.block 1 (sr1 [o1 42 (ao 1
 32),o1 43 (lf 42 1),m1 9 43] (.seq (sr1 [Jk 10 0] (.block 2 (.loop (.seq (sr1 [m1 44 10,m1 45 4,o1 46 (Jl 45),o1 47 (Jb .lss 44 46)] (Ji 47 .skip (.exit 2))) (.seq (.block 3 (.seq (.regd (Jr 8) [Jm 50 4,Jm 51 10,Jp 52 (Jx 50 51 2) [0,1],Jp 53 (ao 52
 1) [2],Jp 54 (lf 53 1) [3],Jo 55 (ao 1 35),Jp 56 (lf 55 1) [5],Jp 57 (Jb .leq 54 56) [4,6]] 0 0 []) (Ji 57 (.regd (Jr 17) [Jm 58 9,Jm 59 6,Jo 60 (ao 1 36),Jp 61 (lf 60 1) [2],Jm 62 8,Jp 63 (Jx 61 62 6) [3,4],Jp 64 (ao 63 5) [5],Jp 65 (lf 64 1) [6],Jm
 66 10,Jp 67 (Jx 65 66 1) [7,8],Jp 68 (lf 67 1) [9],Jo 69 (ao 1 31),Jp 70 (lf 69 1) [11],Jp 71 (Jb .sub 68 70) [10,12],Jp 72 (Jb .mul 59 71) [1,13],Jp 73 (.mm true [.t 58,.t 72]) [0,14]] 0 0 [⟨some 9,.mv (.t 73),none,(Jr 16)⟩]) .skip))) (.reg [m1 48
 10,o1 49 (Jc .add 48 1),m1 10 49])))))) (sr1 [o1 74 (ao 1 28),o1 75 (lf 74 1),m1 76 9,o1 77 (Jb .mul 75 76),m1 11 77] (sr1 [m1 78 8,o1 79 (Jc .eql 78 0),m1 80 79,g1 81 80 false (.mv (.t 11)),g1 82 80 false (.mv (.t 7)),g1 83 80 false (Jb .lss 81
 82),o1 84 (.pick (.t 80) Jt (.t 83))] (Ji 84 (.reg [m1 85 11,m1 7 85]) .skip)))))) (.reg [m1 40 8,o1 41 (Jc .add 40 1),m1 8 41])))))) (sr1 [m1 86 7,m1 2 86,Jk 3 0] .ret)))))))
def r28:List RV:=[.tmp 2,.tmp 3]
theorem t28:Qt1 Tryz.prog 28 c28 r28 87:=Z0 Tryz.func28
def c5:SC:=(sr1 [o1 1 (Jz 0 0 34),Jw 2 Jf] (.seq (sr1 [o1 16 (lt 1 37),o1 17 (J1 12 16)] (Ji 17 (sr1 [Jw 2 Jt] .ret) .skip)) (sr1 [o1 18 (lt 1 37),o1 19 (J1 13 18),o1 3 (.alloc zv4 34),Js 3 19 37] (sr1 [o1 21 (lt 3 37),o1 22 (.callm 25 [.t 21]),m1 20
 22,o1 23 (Je 20 0),o1 24 (Je 20 1),o1 25 (Je 20 2),o1 4 (.alloc zv6 37),Js 4 23 3,m1 5 24,m1 6 25] (.gh (sr1 [o1 27 (lt 1 37),o1 28 (J1 26 27),m1 26 28,o1 29 (Je 26 0),o1 30 (Je 26 1),o1 31 (Je 26 2),o1 7 (.alloc zv6 37),Js 7 29 3,m1 8 30,m1 9 31]
 (sr1 [o1 33 (lt 3 37),o1 34 (J1 27 33),m1 32 34,o1 35 (Je 32 0),o1 36 (Je 32 1),m1 10 35,m1 11 36] (sr1 [o1 38 (lt 1 37),o1 39 (J1 28 38),m1 37 39,o1 40 (Je 37 0),o1 41 (Je 37 1),m1 12 40,m1 13 41] (sr1 [o1 42 (lt 4 3),o1 43 (lt 7 3),o1 44 (J2 19 42
 43),m1 45 44,g1 46 45 true (.mv (.t 5)),g1 47 45 true (.mv (.t 8)),g1 48 45 true (Jb .eql 46 47),o1 49 (.pick (.t 45) (.t 48) Jf),m1 50 49,g1 51 50 true (.mv (.t 6)),g1 52 50 true (.mv (.t 9)),g1 53 50 true (Jb .eql 51 52),o1 54 (.pick (.t 50) (.t
 53) Jf),m1 55 54,g1 56 55 true (.mv (.t 10)),g1 57 55 true (.mv (.t 12)),g1 58 55 true (Jb .eql 56 57),o1 59 (.pick (.t 55) (.t 58) Jf),m1 60 59,g1 61 60 true (.mv (.t 11)),g1 62 60 true (.mv (.t 13)),g1 63 60 true (Jb .eql 61 62),o1 64 (.pick (.t
 60) (.t 63) Jf),m1 14 64] (.seq (sr1 [o1 65 (ao 4 0),o1 66 (lf 65 1),o1 67 (Jl 66),Jk 68 0] (.block 0 (.loop (sr1 [o1 69 (Jb .lss 68 67)] (.seq (Ji 69 .skip (.exit 0)) (.seq (.block 1 (sr1 [m1 70 68,m1 15 70] (.reg [o1 71 (ao 4 0),o1 72 (lf 71 1),m1
 73 15,o1 74 (Jx 72 73 1),⟨none,.st (.t 74) (cn (-7)) 1,none,[]⟩]))) (.reg [o1 75 (Jc .add 68 1),m1 68 75]))))))) (.gh (sr1 [m1 76 14,m1 77 76,g1 78 77 true (lt 3 37),g1 79 77 true (lt 1 37),g1 80 77 true (J2 18 78 79),o1 81 (.pick (.t 77) (.t 80)
 Jf),m1 82 81,g1 83 82 true (ao 3 0),g1 84 82 true (lt 83 2),g1 85 82 true (ao 1 0),g1 86 82 true (lt 85 2),g1 87 82 true (J2 29 84 86),o1 88 (.pick (.t 82) (.t 87) Jf),m1 2 88] .ret))))))))))))
def r5:List RV:=[.tmp 2]
theorem b5:YO Tryz.prog 5=true:=by kernel_rfl
theorem t5:Qt1 Tryz.prog 5 c5 r5 89:=Z0 Tryz.func5 rfl b5 (by kernel_rfl) (by kernel_rfl) (by kernel_rfl)
end Go.Proofs.YtiigiflofnjilaaGreat
namespace Go.Azalai
open Go.Sx Go.Proofs.YtiigiflofnjilaaGreat
theorem Zm8 {a b:List Nat} (hl:a.length=b.length) {k:Nat} (h:k < a.length) (hb:k < b.length) (e:Wm (a.drop k) (b.drop k)=Wm a b) :
 (a[k]≠b[k]->Wm a b=decide (a[k] < b[k]))/\(a[k]=b[k]->Wm (a.drop (k+1)) (b.drop (k+1))=Wm a b):=by
 rw [List.drop_eq_getElem_cons h,List.drop_eq_getElem_cons hb,Wm] at e;constructor
 . intro q;rw [<- e];have:(a[k] == b[k])=false:=by simpa using q
   simp [this]
 . intro q;rw [<- e,q];simp
theorem ZlJ {f n:Int} (hf:0<=f) (hn:0<=n) (h:∀ m:Int,1<=m->(m<=f↔m<=n)):f=n:=by
 have h1:=h f;have h2:=h n;omega
def ZdR (m:Int) (q:Int × Int):Prop:=m * q.1<=q.2
def Zw3 (s:Season) (x:Scene) (k:Int) (a:List Int) (m:Int):Prop:=(goF s x k (Zy s a)).1=0/\∀ q ∈ (goF s x k (Zy s a)).2.2,ZdR m q
structure MostI (s:Season) (k:Int) (a:List Int) (L:List Scene) (D:List (Int × Int)) (n:Nat):Prop where
 le:(n:Int)<=s.herd
 iff:∀ m:Int,1<=m->(m<=n↔m<=s.herd/\(∀ x ∈ L,Zw3 s x k a m)/\∀ q ∈ D,ZdR m q)
theorem MostI.down {s:Season} {k:Int} {a:List Int} {L:List Scene} {D:List (Int × Int)} {n n':Nat} {q:Int × Int} (h:MostI s k a L D n) (hle:n'<=n) (hq:0<=q.1) (hn:n'=0\/ZdR n' q) (hb:∀ m:Int,n' < m->m<=n->¬ ZdR m q):MostI s k a L (D ++ [q]) n':=by
 refine ⟨by have:=h.le;omega,λm hm=>?_⟩;have hi:=h.iff m hm;constructor
 . intro q1;obtain ⟨a1,a2,a3⟩:=hi.1 (by omega);refine ⟨a1,a2,λy hy=>?_⟩;rcases List.mem_append.1 hy with c | c
   . exact a3 y c
   . have:y=q:=by simpa using c
     subst this;rcases hn with c | c
     . omega
     . have:=Int.mul_le_mul_of_nonneg_right q1 hq;unfold ZdR at c ⊢;omega
 . rintro ⟨a1,a2,a3⟩;have h1:=hi.2 ⟨a1,a2,λy hy=>a3 y (List.mem_append_left _ hy)⟩;rcases Int.lt_or_le n' m with c | c
   . exact absurd (a3 q (by simp)) (hb m c h1)
   . exact c
theorem MostI.scene {s:Season} {k:Int} {a:List Int} {L:List Scene} {n:Nat} {x:Scene} (h0:(goF s x k (Zy s a)).1=0) (h:MostI s k a L (goF s x k (Zy s a)).2.2 n):MostI s k a (L ++ [x]) [] n:=by
 refine ⟨h.le,λm hm=>?_⟩;rw [h.iff m hm];constructor
 . rintro ⟨a1,a2,a3⟩;refine ⟨a1,λy hy=>?_,by simp⟩;rcases List.mem_append.1 hy with c | c
   . exact a2 y c
   . have:y=x:=by simpa using c
     subst this;exact ⟨h0,a3⟩
 . rintro ⟨a1,a2,-⟩;exact ⟨a1,λy hy=>a2 y (List.mem_append_left _ hy),(a2 x (by simp)).2⟩
theorem Zln {s:Season} {a:List Int} {k m:Int} {x:Scene} (hs:X7 s a=true) (hm:1<=m):(WR s ⟨a,m,k⟩ x).1=0↔Zw3 s x k a m:=by
 rw [ZaA (by omega)];simp only [hs,true_and,Zw3,ZdR]
theorem MostI.fin {s:Season} {k:Int} {a:List Int} {n:Nat} (h:OkS s) (hs:X7 s a=true) (hI:MostI s k a s.scenes [] n):UH s a k=n:=by
 have hb:=ZdF h (a:=a) (k:=k);refine ZlJ hb.1 (by omega) λm hm=>?_;rw [hI.iff m hm,ZgP h hm];simp only [List.not_mem_nil,false_imp_iff,implies_true,and_true];exact and_congr_right λ_=>forall_congr' λx=>imp_congr_right λ_=>Zln hs hm
theorem ZAl {s:Season} {k:Int} {a:List Int} {x:Scene} (h:OkS s) (hx:x ∈ s.scenes) (h0:(goF s x k (Zy s a)).1≠0):UH s a k=0:=by
 have hb:=ZdF h (a:=a) (k:=k);rcases Int.lt_or_le 0 (UH s a k) with c | c
 . have h1:=((ZgP h (a:=a) (k:=k) (m:=1) (by decide)).1 (by omega)).2 x hx;exact absurd ((ZaA (by decide)).1 h1).2.1 h0
 . omega
end Go.Azalai
namespace Go.Proofs.YtiigiflofnjilaaGreat
open Go Go.Sx Go.Azalai
theorem Zkp (a b:List Nat) (ha:a.length<=1000) (hb:b.length<=1000) (c c':Bool):Ct Tryz.prog 117 [.sl c 1 ((Yx a).map Zn),.sl c' 1 ((Yx b).map Zn)] (B (if a.length≠b.length then decide (a.length < b.length) else Wm a b)):=by
 refine t117.1 (by simp [Za,Zn]) (by simp) ?_;dsimp only [c117,r117,go_sem];simp only [List.length_map,Y5];by_cases e:a.length=b.length
 case neg =>
  refine Zq (by simpa using by omega) ?_;dsimp only [go_sem];simp only [List.length_map,Y5];rw [if_pos e];simp
 refine Zr (by simp [e]) ?_;dsimp only [go_sem];rw [if_neg (by simpa using e)];refine Yy (λk:Nat=>[(5,I k)]) (λ_=>[]) (λk=>k<=a.length/\Wm (a.drop k) (b.drop k)=Wm a b) (λk=>a.length - k) 0 ⟨Nat.zero_le _,rfl⟩ ?_ ?_
 . (refine Zj ?_ ?_ ?_ rfl rfl<;>dsimp only [Zn,id,go_sem]<;>simp [Zn,Za])
 rintro k ⟨hk,hi⟩;dsimp only [go_sem];simp only [List.length_map,Y5];by_cases hlt:k < a.length
 case neg =>
  refine Zr (by simpa using hlt) ?_;dsimp only [go_sem];rw [List.drop_eq_nil_of_le (by omega),List.drop_eq_nil_of_le (by omega)] at hi;rw [<- hi];rfl
 refine Zq (by simpa using hlt) ?_;dsimp only [go_sem];have hkb:k < b.length:=by omega
 obtain ⟨h1,h2⟩:=Zm8 e hlt hkb hi;refine Zo k (by rw [Y5];exact hlt) rfl ?_;dsimp only [Zn,go_sem];refine Zo k (by rw [Y5];exact hkb) rfl ?_;dsimp only [Zn,go_sem];have ea:∀ h,(Yx a)[k]'h=(a[k]:Int):=λh=>by simp [Yx]
 have eb:∀ h,(Yx b)[k]'h=(b[k]:Int):=λh=>by simp [Yx]
 simp only [ea,eb];by_cases hq:a[k]=b[k]
 . refine Zr (by simp [hq]) ?_;dsimp only [go_sem];rw [Zh (n:=(k:Int)+1) (by omega) (by omega)];refine ⟨k+1,⟨hlt,h2 hq⟩,by omega,?_⟩;(refine Zj ?_ ?_ ?_ rfl rfl<;>dsimp only [Zn,id,go_sem]<;>simp [Zn,Za])
 . refine Zq (by simpa using by omega) ?_;dsimp only [go_sem];refine Zo k (by rw [Y5];exact hlt) rfl ?_;dsimp only [Zn,go_sem];refine Zo k (by rw [Y5];exact hkb) rfl ?_;dsimp only [Zn,go_sem];simp only [ea,eb];rw [h1 hq];simp
theorem ZhN (q p:Bst) (hq:SmB q) (hp:SmB p):Ct Tryz.prog 70 [.agg (ZK q.plan),I q.w,.agg (ZK p.plan),I p.w] (B (Z5 q p)):=by
 have hq1:=hq.len;have hp1:=hp.len;refine t70.1 (by simp [ZK,Bst.plan,Zn,Za,KFL,KF]) (by simp) ?_;dsimp only [c70,r70,ZK,Bst.plan,go_sem];by_cases e1:q.w=p.w
 case neg =>
  refine Zq (by simpa using e1) ?_;dsimp only [go_sem];simp [Z5,e1]
 refine Zr (by simpa using e1) ?_;dsimp only [go_sem];by_cases e2:q.an=p.an
 case neg =>
  refine Zq (by simpa using e2) ?_;dsimp only [go_sem];simp [Z5,e1,e2]
 refine Zr (by simpa using e2) ?_;dsimp only [go_sem];by_cases e3:q.sl=p.sl
 case neg =>
  refine Zq (by simpa using e3) ?_;dsimp only [go_sem];simp [Z5,e1,e2,e3]
 refine Zr (by simpa using e3) ?_;dsimp only [go_sem];refine call (Zkp q.legs p.legs hq1 hp1 false false) ?_;dsimp only [go_sem];simp only [Z5,e1,e2,e3,ne_eq,not_true_eq_false,if_false]
theorem Zye (s:Season) (h:OkS s) (a:List Int) (hs:X7 s a=true) (hg:a.length<=1000) (k:Int) (hk:0<=k/\k<=12) (c:Bool) :
 Ct Tryz.prog 69 [.agg (Zs s),.sl c 1 (a.map Zn),.sl false 6 ((Zy s a).map Zw),I k] (I (UH s a k)):=by
 have hnum:=h.num;have hsc:=h.scs;have hleg:=ZhI hs;refine t69.1 (by simp [Zs,Zi,Zf,Zl,Zg,Zc,Zn,Zw,Za]) (by simp) ?_;dsimp only [c69,r69,Zs,go_sem];obtain ⟨H,hH⟩:∃ H:Nat,s.herd=H:=⟨s.herd.toNat,by omega⟩
 try simp only [List.length_map]
 refine XE [1,2,3,4,9,10] rfl (λq:Nat × Nat=>[(10,I q.1),(9,I q.2)]) (λ_=>[])
  (λq=>q.1<=s.scenes.length/\MostI s k a (s.scenes.take q.1) [] q.2) (λq=>s.scenes.length - q.1) (0,H) ⟨Nat.zero_le _,by simp only;omega,λm hm=>by simp [hH]⟩ ?_ ?_
 . rw [hH];(refine Zj ?_ ?_ ?_ rfl rfl<;>dsimp only [Zf,Zl,Zg,Zi,Zc,Zn,Zw,id,go_sem]<;>simp [Zf,Zl,Zg,Zi,Zc,Zn,Zw,Za])
 rintro ⟨j,n⟩ ⟨hj,hI⟩;simp only at hj hI;dsimp only [go_sem];try simp only [List.length_map]
 by_cases hlt:j < s.scenes.length
 case neg =>
  refine Zr (by simp;omega) ?_;dsimp only [go_sem];rw [List.take_of_length_le (by omega)] at hI;rw [hI.fin h hs]
 refine Zq (by simpa using hlt) ?_;dsimp only [go_sem];have hgo:=Zva s h j hlt a (Zy s a) hleg.symm hg k hk c false;have hbd:=Zg1 (x:=s.scenes[j]) (slabs:=k) (l:=Zy s a) h.beast.1 h.beast.2;have hst:(Zy s a).length<=1000:=Nat.le_trans VG hg;have hf0:=ZAl (k:=k) (a:=a) h (List.getElem_mem hlt);have hsce:=λn=>MostI.scene (s:=s) (k:=k) (a:=a) (L:=s.scenes.take j) (n:=n) (x:=s.scenes[j]);have htk:s.scenes.take (j+1)=s.scenes.take j ++ [s.scenes[j]]:=by rw [List.take_succ_eq_append_getElem hlt]
 rw [<- htk] at hsce;generalize goF s s.scenes[j] k (Zy s a)=G at hgo hbd hf0 hsce;simp only [Zmc] at hgo;refine call hgo ?_;dsimp only [go_sem];by_cases h0:G.1=0
 case neg =>
  refine Zq (by simpa using h0) ?_;dsimp only [go_sem];rw [hf0 h0]
 refine Zr (by simpa using h0) ?_;dsimp only [go_sem];have hnx:=hsce n h0;clear hgo hf0;obtain ⟨hbd1,hbd2⟩:=hbd;generalize G.2.2=D at hnx hbd1 hbd2 hsce ⊢;refine XE [1,2,3,4,9,10,11,12] rfl (λq:Nat × Nat=>[(12,I q.1),(9,I q.2)]) (λ_=>[])
  (λq=>q.1<=D.length/\MostI s k a (s.scenes.take j) (D.take q.1) q.2) (λq=>D.length - q.1) (0,n) ⟨Nat.zero_le _,by simpa using hI⟩ ?_ ?_
 . (refine Zj ?_ ?_ ?_ rfl rfl<;>dsimp only [Zf,Zl,Zg,Zi,Zc,Zn,Zw,id,go_sem]<;>simp [Zf,Zl,Zg,Zi,Zc,Zn,Zw,Za])
 rintro ⟨i,n1⟩ ⟨hi,hI1⟩;simp only at hi hI1;dsimp only [go_sem];try simp only [List.length_map]
 by_cases hil:i < D.length
 case neg =>
  refine Zr (by simp;omega) ?_;dsimp only [go_sem];rw [List.take_of_length_le (l:=D) (by omega)] at hI1;rw [Zh (n:=(j:Int)+1) (by omega) (by omega)];refine ⟨(j+1,n1),⟨hlt,hsce n1 h0 hI1⟩,by simp only;omega,?_⟩;(refine Zj ?_ ?_ ?_ rfl rfl<;>dsimp only [Zf,Zl,Zg,Zi,Zc,Zn,Zw,id,go_sem]<;>simp [Zf,Zl,Zg,Zi,Zc,Zn,Zw,Za])
 refine Zq (by simpa using hil) ?_;dsimp only [go_sem];have hq:=hbd1 _ (List.getElem_mem hil);have hle1:=hI1.le;refine XE [1,2,3,4,9,10,11,12] rfl (λq:Nat=>[(9,I q)]) (λ_=>[])
  (λq=>q<=n1/\∀ m:Int,q < m->m<=n1->¬ ZdR m D[i]) (λq=>q) n1 ⟨Nat.le_refl _,λm h1 h2=>by omega⟩ ?_ ?_
 . (refine Zj ?_ ?_ ?_ rfl rfl<;>dsimp only [Zf,Zl,Zg,Zi,Zc,Zn,Zw,id,go_sem]<;>simp [Zf,Zl,Zg,Zi,Zc,Zn,Zw,Za])
 rintro n2 ⟨hn2,hb2⟩;dsimp only [go_sem];by_cases hz:n2=0
 . subst hz;repeat (refine UG (by decide) ?_;dsimp only [go_sem])
   refine Zr (by decide) ?_;dsimp only [go_sem];have hd:=hI1.down (q:=D[i]) (n':=0) (by omega) hq.1 (.inl rfl) hb2;rw [<- List.take_succ_eq_append_getElem hil] at hd;rw [Zh (n:=(i:Int)+1) (by omega) (by omega)];refine ⟨(i+1,0),⟨hil,hd⟩,by simp only;omega,?_⟩;(refine Zj ?_ ?_ ?_ rfl rfl<;>dsimp only [Zf,Zl,Zg,Zi,Zc,Zn,Zw,id,go_sem]<;>simp [Zf,Zl,Zg,Zi,Zc,Zn,Zw,Za])
 have g:decide ((n2:Int) > 0)=true:=by simp;omega
 simp only [g];have hix1:(D.map λp=>Zn p.1)[i]? = some (Zn D[i].1):=by simp [hil]
 have hix2:(D.map λp=>Zn p.2)[i]? = some (Zn D[i].2):=by simp [hil]
 have hm1:0<=(n2:Int) * D[i].1:=Int.mul_nonneg (by omega) hq.1;have hm2:(n2:Int) * D[i].1<=30 * 1000000:=Int.mul_le_mul (by omega) hq.2 hq.1 (by decide);repeat (first | (refine YT rfl ?_;dsimp only [go_sem]) | (refine ixs i _ rfl hix1 ?_;dsimp only [Zn,go_sem]) | (refine ixs i _ rfl hix2 ?_;dsimp only [Zn,go_sem]))
 rw [Zh (n:=(n2:Int) * D[i].1) (by omega) (by omega)];by_cases hgq:(n2:Int) * D[i].1 > D[i].2
 . refine Zq (by simpa using hgq) ?_;dsimp only [go_sem];obtain ⟨n3,rfl⟩:∃ n3,n2=n3+1:=⟨n2 - 1,by omega⟩
   rw [Zh (n:=((n3+1:Nat):Int) - 1) (by omega) (by omega),show ((n3+1:Nat):Int) - 1=(n3:Int) from by omega];refine ⟨n3,⟨by omega,λm h1 h2=>?_⟩,by omega,?_⟩
   . rcases Int.lt_or_le ((n3+1:Nat):Int) m with c | c
     . exact hb2 m c h2
     . have:m=((n3+1:Nat):Int):=by omega
       subst this;unfold ZdR;omega
   . (refine Zj ?_ ?_ ?_ rfl rfl<;>dsimp only [Zf,Zl,Zg,Zi,Zc,Zn,Zw,id,go_sem]<;>simp [Zf,Zl,Zg,Zi,Zc,Zn,Zw,Za])
 . refine Zr (by simpa using hgq) ?_;dsimp only [go_sem];have hd:=hI1.down (q:=D[i]) (n':=n2) hn2 hq.1 (.inr (by unfold ZdR;omega)) hb2;rw [<- List.take_succ_eq_append_getElem hil] at hd;rw [Zh (n:=(i:Int)+1) (by omega) (by omega)];refine ⟨(i+1,n2),⟨hil,hd⟩,by simp only;omega,?_⟩;(refine Zj ?_ ?_ ?_ rfl rfl<;>dsimp only [Zf,Zl,Zg,Zi,Zc,Zn,Zw,id,go_sem]<;>simp [Zf,Zl,Zg,Zi,Zc,Zn,Zw,Za])
end Go.Proofs.YtiigiflofnjilaaGreat
namespace Go.Sx
open Go
def sB:Bool->SV->SV
 | true,s=>s
 | false,_=>.any
def hB:Bool->HB->HB
 | true,h=>h
 | false,_=>.gone
theorem Ud {ρ : Nat->Nat} {n:Nat} {o:Bool} {v v':SV}:mtS ρ n (sB o v) v'=(o=true->mtS ρ n v v'):=by
 cases o<;>simp [sB,mtS]
theorem Ue {ρ : Nat->Nat} {n:Nat} {o:Bool} {v v':HB}:mtH ρ n (hB o v) v'=(o=true->mtH ρ n v v'):=by
 cases o<;>simp [hB,mtH]
theorem sBt {v:SV}:sB true v=v:=rfl
theorem sBf {v:SV}:sB false v = .any:=rfl
theorem hBt {v:HB}:hB true v=v:=rfl
theorem hBf {v:HB}:hB false v = .gone:=rfl
theorem Ze5 {ρ : Nat->Nat} {n:Nat} {h:HB}:mtH ρ n .gone h=True:=rfl
theorem Ze2 {ρ : Nat->Nat} {n:Nat} {l l2:List SV} {T T2:TypeId}:mtH ρ n (.cells l T) (.cells l2 T2)=(T2=T/\mtL ρ n l l2):=rfl
theorem Ze6 {ρ : Nat->Nat} {n v m:Nat} {xs:List (List SV)} {T:TypeId} {h:HB}:mtH ρ n (.row v m xs T) h=(h = .row v m xs T/\KFR xs):=rfl
theorem entM {m:Nat} {σ σ':St} (l:List Nat) (hf:mtF (rho l) σ'.n [] σ'.fr σ.fr) (hp:mtP (rho l) σ'.hp σ.hp σ'.n σ'.n) (hb:hpb σ'.n σ'.hp) (hn:Nat.beq l.length σ'.n=true) (hi:Za3 l=true) (hN:Nat.beq σ'.N σ.N=true) (hm:Nat.ble m σ'.n=true) (hx:∀ i,i < m->rho l i=i):Ent m σ σ' :=
 ent (rho l) hf hp hb (ZfN hn hi) hN hm hx
theorem tn {b:Bool} (h:(!b).toNat=0):b=true:=by cases b<;>simp_all
end Go.Sx
namespace Go.Azalai
def Wy (n:Nat) (been:List Int):List Bool:=(List.range n).map λi:Nat=>decide ((i:Int) ∈ been)
theorem XP {n:Nat} {been:List Int}:(Wy n been).length=n:=by simp [Wy]
theorem ZmM {n i:Nat} {been:List Int} (h:i < n) (h':i < (Wy n been).length):(Wy n been)[i]=decide ((i:Int) ∈ been):=by simp [Wy]
theorem Zrk {n v:Nat} {been:List Int} (h:v < n):(Wy n been).set v true=Wy n ((v:Int) :: been):=by
 apply List.ext_getElem
 . simp [Wy]
 . intro k h1 h2;rw [List.getElem_set];simp only [Wy,List.getElem_map,List.getElem_range,List.mem_cons];by_cases e:v=k
   . subst e;simp
   . rw [if_neg e];have:¬ (k:Int)=(v:Int):=by omega
     simp [this]
theorem Zei {n v:Nat} {been:List Int} (h:v < n) (hv:(v:Int) ∉ been):(Wy n ((v:Int) :: been)).set v false=Wy n been:=by
 apply List.ext_getElem
 . simp [Wy]
 . intro k h1 h2;rw [List.getElem_set];simp only [Wy,List.getElem_map,List.getElem_range,List.mem_cons];by_cases e:v=k
   . subst e;simp [hv]
   . rw [if_neg e];have:¬ (k:Int)=(v:Int):=by omega
     simp [this]
theorem Zzv {A:List (List Nat)} (h:(cap A).length<=200):cap A=A:=by
 unfold cap at h ⊢;rw [List.length_take] at h;exact List.take_of_length_le (by omega)
end Go.Azalai
namespace Go.Proofs.YtiigiflofnjilaaGreat
open Go Go.Sx Go.Azalai
def boL (b:Bool):List SV:=[B b]
theorem bo_kf (a:List Bool):KFR (a.map boL):=by simp [boL,Za]
def moE (l:Land) (p:Span) (been:List Int) (v to t till w on:Int) (j:Nat) (way:List Nat) (all:List (List Nat)) (ver:Nat) (x:Leg) (o0 o1 o2 o3 o4 o5 o6 o7 o8 o9 o10 o11 o12 o13:Bool):St:=⟨[(77,sB o0 (.agg (Zt l))),(78,sB o1 (I w)),(79,sB o2 (I to)),(80,sB o3 (I on)),(81,sB o4 (I till)),(82,sB o5 (.agg (Zc p))),(83,sB o6 (.mr 0 0)),(84,sB o7 (.sl true 1 [])),(85,sB o8 (ZS way)),(86,sB (o9 && !o12) (.mr 5 0)),(87,sB o10 (I (j:Int))),(88,sB o11 (.sl true 1 [[I (j:Int)]])),(89,sB o12 (ZS (way ++ [j]))),(90,sB o13 (.mr 1 ver)),(8,.mr 1 ver),(22,I on),(21,I w),(19,I (j:Int)),(14,.p 3 0),(9,.p 2 0),(7,ZS way),(6,.mr 0 0),(4,I till),(3,I t),(2,I to),(1,I v)],[(5,hB (o9 && !o12) (.row 0 1 (way.map ZI) 3)),(1,.rws ver 1 (wX all) 35 0 1 (wI all) 3),(0,.row 0 1 ((Wy l.wells.length been).map boL) 4),(2,.cells (Zt l) 25),(3,.cells (Zc p) 27),(4,.cells (Zl x) 83)],6,96,[]⟩
def mo0 (l:Land) (p:Span) (been:List Int) (v to t till w on:Int) (j:Nat) (way:List Nat) (all:List (List Nat)) (ver:Nat) (x:Leg):St:=⟨[(8,.mr 1 ver),(22,I on),(21,I w),(19,I (j:Int)),(14,.p 3 0),(9,.p 2 0),(7,ZS way),(6,.mr 0 0),(4,I till),(3,I t),(2,I to),(1,I v)],[(1,.rws ver 1 (wX all) 35 0 1 (wI all) 3),(0,.row 0 1 ((Wy l.wells.length been).map boL) 4),(2,.cells (Zt l) 25),(3,.cells (Zc p) 27),(4,.cells (Zl x) 83)],5,96,[]⟩
def mo1 (l:Land) (p:Span) (been:List Int) (v to t till:Int) (j:Nat) (way:List Nat) (all:List (List Nat)) (ver:Nat):St:=⟨[(8,.mr 1 ver),(19,I (j:Int)),(14,.p 3 0),(9,.p 2 0),(7,ZS way),(6,.mr 0 0),(4,I till),(3,I t),(2,I to),(1,I v)],[(1,.rws ver 1 (wX all) 35 0 1 (wI all) 3),(0,.row 0 1 ((Wy l.wells.length been).map boL) 4),(2,.cells (Zt l) 25),(3,.cells (Zc p) 27)],4,96,[]⟩
theorem ZoA {l:Land} {p:Span} {been:List Int} {v to t till w on:Int} {j:Nat} {way:List Nat} {all:List (List Nat)} {ver:Nat} {x:Leg} {m:Nat} (hm:m<=2):Ent m (mo0 l p been v to t till w on j way all ver x) (moE l p been v to t till w on j way all ver x false false false false false false false false false false false false false false):=by
 refine Zj ?_ ?_ ?_ rfl (Nat.ble_eq_true_of_le (show m<=6 by omega))<;>dsimp only [moE,mo0,mo1,sBt,sBf,hBt,hBf,Bool.true_and,Bool.and_true,Bool.false_and,Bool.and_false,Bool.not_true,Bool.not_false,id,go_sem]<;>simp +contextual [Ud,Ue,sBt,sBf,hBt,hBf,Zt,Zc,Zf,Zl,Zg,ZS,ZI,boL,ZL,Zv,Ze2,Ze6,Ze5,rho,Za,Ze,KFR,KFL,KF,Zb,mtL,mtB,mtS,mtO,Za6,nbr]
theorem mT0 {l:Land} {p:Span} {been:List Int} {v to t till w on:Int} {j:Nat} {way:List Nat} {all:List (List Nat)} {ver:Nat} {x:Leg} {Y:Hd} {K:Ex->St->Prop} {m n E:Nat} {o1 o2 o3 o4 o5 o6 o7 o8 o9 o10 o11 o12 o13:Bool} (hm:m<=2) (hlen:way.length<=1000) (h:LAT Tryz.prog Y m XJ n E (moE l p been v to t till w on j way all ver x true o1 o2 o3 o4 o5 o6 o7 o8 o9 o10 o11 o12 o13) K):st1 Tryz.prog Y ZjC (moE l p been v to t till w on j way all ver x false o1 o2 o3 o4 o5 o6 o7 o8 o9 o10 o11 o12 o13) (λσ' K'=>∃ σc,Ent m σ' σc/\LAT Tryz.prog Y m XJ n E σc K') K:=by
 dsimp only [moE,mo0,mo1,sBt,sBf,hBt,hBf,Bool.true_and,Bool.and_true,Bool.false_and,Bool.and_false,Bool.not_true,Bool.not_false,go_sem];refine ⟨_,?_,h⟩;refine Zj ?_ ?_ ?_ rfl (Nat.ble_eq_true_of_le (show m<=6 by omega))<;>dsimp only [moE,mo0,mo1,sBt,sBf,hBt,hBf,Bool.true_and,Bool.and_true,Bool.false_and,Bool.and_false,Bool.not_true,Bool.not_false,id,go_sem]<;>simp +contextual [Ud,Ue,sBt,sBf,hBt,hBf,Zt,Zc,Zf,Zl,Zg,ZS,ZI,boL,ZL,Zv,Ze2,Ze6,Ze5,rho,Za,Ze,KFR,KFL,KF,Zb,mtL,mtB,mtS,mtO,Za6,nbr]
theorem mT1 {l:Land} {p:Span} {been:List Int} {v to t till w on:Int} {j:Nat} {way:List Nat} {all:List (List Nat)} {ver:Nat} {x:Leg} {Y:Hd} {K:Ex->St->Prop} {m n E:Nat} {o0 o2 o3 o4 o5 o6 o7 o8 o9 o10 o11 o12 o13:Bool} (hm:m<=2) (hlen:way.length<=1000) (h:LAT Tryz.prog Y m XJ n E (moE l p been v to t till w on j way all ver x o0 true o2 o3 o4 o5 o6 o7 o8 o9 o10 o11 o12 o13) K):st1 Tryz.prog Y ZjK (moE l p been v to t till w on j way all ver x o0 false o2 o3 o4 o5 o6 o7 o8 o9 o10 o11 o12 o13) (λσ' K'=>∃ σc,Ent m σ' σc/\LAT Tryz.prog Y m XJ n E σc K') K:=by
 dsimp only [moE,mo0,mo1,sBt,sBf,hBt,hBf,Bool.true_and,Bool.and_true,Bool.false_and,Bool.and_false,Bool.not_true,Bool.not_false,go_sem];refine ⟨_,?_,h⟩;refine Zj ?_ ?_ ?_ rfl (Nat.ble_eq_true_of_le (show m<=6 by omega))<;>dsimp only [moE,mo0,mo1,sBt,sBf,hBt,hBf,Bool.true_and,Bool.and_true,Bool.false_and,Bool.and_false,Bool.not_true,Bool.not_false,id,go_sem]<;>simp +contextual [Ud,Ue,sBt,sBf,hBt,hBf,Zt,Zc,Zf,Zl,Zg,ZS,ZI,boL,ZL,Zv,Ze2,Ze6,Ze5,rho,Za,Ze,KFR,KFL,KF,Zb,mtL,mtB,mtS,mtO,Za6,nbr]
theorem mT2 {l:Land} {p:Span} {been:List Int} {v to t till w on:Int} {j:Nat} {way:List Nat} {all:List (List Nat)} {ver:Nat} {x:Leg} {Y:Hd} {K:Ex->St->Prop} {m n E:Nat} {o0 o1 o3 o4 o5 o6 o7 o8 o9 o10 o11 o12 o13:Bool} (hm:m<=2) (hlen:way.length<=1000) (h:LAT Tryz.prog Y m XJ n E (moE l p been v to t till w on j way all ver x o0 o1 true o3 o4 o5 o6 o7 o8 o9 o10 o11 o12 o13) K):st1 Tryz.prog Y ZmD (moE l p been v to t till w on j way all ver x o0 o1 false o3 o4 o5 o6 o7 o8 o9 o10 o11 o12 o13) (λσ' K'=>∃ σc,Ent m σ' σc/\LAT Tryz.prog Y m XJ n E σc K') K:=by
 dsimp only [moE,mo0,mo1,sBt,sBf,hBt,hBf,Bool.true_and,Bool.and_true,Bool.false_and,Bool.and_false,Bool.not_true,Bool.not_false,go_sem];refine ⟨_,?_,h⟩;refine Zj ?_ ?_ ?_ rfl (Nat.ble_eq_true_of_le (show m<=6 by omega))<;>dsimp only [moE,mo0,mo1,sBt,sBf,hBt,hBf,Bool.true_and,Bool.and_true,Bool.false_and,Bool.and_false,Bool.not_true,Bool.not_false,id,go_sem]<;>simp +contextual [Ud,Ue,sBt,sBf,hBt,hBf,Zt,Zc,Zf,Zl,Zg,ZS,ZI,boL,ZL,Zv,Ze2,Ze6,Ze5,rho,Za,Ze,KFR,KFL,KF,Zb,mtL,mtB,mtS,mtO,Za6,nbr]
theorem mT3 {l:Land} {p:Span} {been:List Int} {v to t till w on:Int} {j:Nat} {way:List Nat} {all:List (List Nat)} {ver:Nat} {x:Leg} {Y:Hd} {K:Ex->St->Prop} {m n E:Nat} {o0 o1 o2 o4 o5 o6 o7 o8 o9 o10 o11 o12 o13:Bool} (hm:m<=2) (hlen:way.length<=1000) (h:LAT Tryz.prog Y m XJ n E (moE l p been v to t till w on j way all ver x o0 o1 o2 true o4 o5 o6 o7 o8 o9 o10 o11 o12 o13) K):st1 Tryz.prog Y Zlp (moE l p been v to t till w on j way all ver x o0 o1 o2 false o4 o5 o6 o7 o8 o9 o10 o11 o12 o13) (λσ' K'=>∃ σc,Ent m σ' σc/\LAT Tryz.prog Y m XJ n E σc K') K:=by
 dsimp only [moE,mo0,mo1,sBt,sBf,hBt,hBf,Bool.true_and,Bool.and_true,Bool.false_and,Bool.and_false,Bool.not_true,Bool.not_false,go_sem];refine ⟨_,?_,h⟩;refine Zj ?_ ?_ ?_ rfl (Nat.ble_eq_true_of_le (show m<=6 by omega))<;>dsimp only [moE,mo0,mo1,sBt,sBf,hBt,hBf,Bool.true_and,Bool.and_true,Bool.false_and,Bool.and_false,Bool.not_true,Bool.not_false,id,go_sem]<;>simp +contextual [Ud,Ue,sBt,sBf,hBt,hBf,Zt,Zc,Zf,Zl,Zg,ZS,ZI,boL,ZL,Zv,Ze2,Ze6,Ze5,rho,Za,Ze,KFR,KFL,KF,Zb,mtL,mtB,mtS,mtO,Za6,nbr]
theorem mT4 {l:Land} {p:Span} {been:List Int} {v to t till w on:Int} {j:Nat} {way:List Nat} {all:List (List Nat)} {ver:Nat} {x:Leg} {Y:Hd} {K:Ex->St->Prop} {m n E:Nat} {o0 o1 o2 o3 o5 o6 o7 o8 o9 o10 o11 o12 o13:Bool} (hm:m<=2) (hlen:way.length<=1000) (h:LAT Tryz.prog Y m XJ n E (moE l p been v to t till w on j way all ver x o0 o1 o2 o3 true o5 o6 o7 o8 o9 o10 o11 o12 o13) K):st1 Tryz.prog Y ZjJ (moE l p been v to t till w on j way all ver x o0 o1 o2 o3 false o5 o6 o7 o8 o9 o10 o11 o12 o13) (λσ' K'=>∃ σc,Ent m σ' σc/\LAT Tryz.prog Y m XJ n E σc K') K:=by
 dsimp only [moE,mo0,mo1,sBt,sBf,hBt,hBf,Bool.true_and,Bool.and_true,Bool.false_and,Bool.and_false,Bool.not_true,Bool.not_false,go_sem];refine ⟨_,?_,h⟩;refine Zj ?_ ?_ ?_ rfl (Nat.ble_eq_true_of_le (show m<=6 by omega))<;>dsimp only [moE,mo0,mo1,sBt,sBf,hBt,hBf,Bool.true_and,Bool.and_true,Bool.false_and,Bool.and_false,Bool.not_true,Bool.not_false,id,go_sem]<;>simp +contextual [Ud,Ue,sBt,sBf,hBt,hBf,Zt,Zc,Zf,Zl,Zg,ZS,ZI,boL,ZL,Zv,Ze2,Ze6,Ze5,rho,Za,Ze,KFR,KFL,KF,Zb,mtL,mtB,mtS,mtO,Za6,nbr]
theorem mT5 {l:Land} {p:Span} {been:List Int} {v to t till w on:Int} {j:Nat} {way:List Nat} {all:List (List Nat)} {ver:Nat} {x:Leg} {Y:Hd} {K:Ex->St->Prop} {m n E:Nat} {o0 o1 o2 o3 o4 o6 o7 o8 o9 o10 o11 o12 o13:Bool} (hm:m<=2) (hlen:way.length<=1000) (h:LAT Tryz.prog Y m XJ n E (moE l p been v to t till w on j way all ver x o0 o1 o2 o3 o4 true o6 o7 o8 o9 o10 o11 o12 o13) K):st1 Tryz.prog Y Zlk (moE l p been v to t till w on j way all ver x o0 o1 o2 o3 o4 false o6 o7 o8 o9 o10 o11 o12 o13) (λσ' K'=>∃ σc,Ent m σ' σc/\LAT Tryz.prog Y m XJ n E σc K') K:=by
 dsimp only [moE,mo0,mo1,sBt,sBf,hBt,hBf,Bool.true_and,Bool.and_true,Bool.false_and,Bool.and_false,Bool.not_true,Bool.not_false,go_sem];refine ⟨_,?_,h⟩;refine Zj ?_ ?_ ?_ rfl (Nat.ble_eq_true_of_le (show m<=6 by omega))<;>dsimp only [moE,mo0,mo1,sBt,sBf,hBt,hBf,Bool.true_and,Bool.and_true,Bool.false_and,Bool.and_false,Bool.not_true,Bool.not_false,id,go_sem]<;>simp +contextual [Ud,Ue,sBt,sBf,hBt,hBf,Zt,Zc,Zf,Zl,Zg,ZS,ZI,boL,ZL,Zv,Ze2,Ze6,Ze5,rho,Za,Ze,KFR,KFL,KF,Zb,mtL,mtB,mtS,mtO,Za6,nbr]
theorem mT6 {l:Land} {p:Span} {been:List Int} {v to t till w on:Int} {j:Nat} {way:List Nat} {all:List (List Nat)} {ver:Nat} {x:Leg} {Y:Hd} {K:Ex->St->Prop} {m n E:Nat} {o0 o1 o2 o3 o4 o5 o7 o8 o9 o10 o11 o12 o13:Bool} (hm:m<=2) (hlen:way.length<=1000) (h:LAT Tryz.prog Y m XJ n E (moE l p been v to t till w on j way all ver x o0 o1 o2 o3 o4 o5 true o7 o8 o9 o10 o11 o12 o13) K):st1 Tryz.prog Y Zjk (moE l p been v to t till w on j way all ver x o0 o1 o2 o3 o4 o5 false o7 o8 o9 o10 o11 o12 o13) (λσ' K'=>∃ σc,Ent m σ' σc/\LAT Tryz.prog Y m XJ n E σc K') K:=by
 dsimp only [moE,mo0,mo1,sBt,sBf,hBt,hBf,Bool.true_and,Bool.and_true,Bool.false_and,Bool.and_false,Bool.not_true,Bool.not_false,go_sem];refine ⟨_,?_,h⟩;refine Zj ?_ ?_ ?_ rfl (Nat.ble_eq_true_of_le (show m<=6 by omega))<;>dsimp only [moE,mo0,mo1,sBt,sBf,hBt,hBf,Bool.true_and,Bool.and_true,Bool.false_and,Bool.and_false,Bool.not_true,Bool.not_false,id,go_sem]<;>simp +contextual [Ud,Ue,sBt,sBf,hBt,hBf,Zt,Zc,Zf,Zl,Zg,ZS,ZI,boL,ZL,Zv,Ze2,Ze6,Ze5,rho,Za,Ze,KFR,KFL,KF,Zb,mtL,mtB,mtS,mtO,Za6,nbr]
theorem mT7 {l:Land} {p:Span} {been:List Int} {v to t till w on:Int} {j:Nat} {way:List Nat} {all:List (List Nat)} {ver:Nat} {x:Leg} {Y:Hd} {K:Ex->St->Prop} {m n E:Nat} {o0 o1 o2 o3 o4 o5 o6 o8 o9 o10 o11 o12 o13:Bool} (hm:m<=2) (hlen:way.length<=1000) (h:LAT Tryz.prog Y m XJ n E (moE l p been v to t till w on j way all ver x o0 o1 o2 o3 o4 o5 o6 true o8 o9 o10 o11 o12 o13) K):st1 Tryz.prog Y Zl9 (moE l p been v to t till w on j way all ver x o0 o1 o2 o3 o4 o5 o6 false o8 o9 o10 o11 o12 o13) (λσ' K'=>∃ σc,Ent m σ' σc/\LAT Tryz.prog Y m XJ n E σc K') K:=by
 dsimp only [moE,mo0,mo1,sBt,sBf,hBt,hBf,Bool.true_and,Bool.and_true,Bool.false_and,Bool.and_false,Bool.not_true,Bool.not_false,go_sem];refine ⟨_,?_,h⟩;refine Zj ?_ ?_ ?_ rfl (Nat.ble_eq_true_of_le (show m<=6 by omega))<;>dsimp only [moE,mo0,mo1,sBt,sBf,hBt,hBf,Bool.true_and,Bool.and_true,Bool.false_and,Bool.and_false,Bool.not_true,Bool.not_false,id,go_sem]<;>simp +contextual [Ud,Ue,sBt,sBf,hBt,hBf,Zt,Zc,Zf,Zl,Zg,ZS,ZI,boL,ZL,Zv,Ze2,Ze6,Ze5,rho,Za,Ze,KFR,KFL,KF,Zb,mtL,mtB,mtS,mtO,Za6,nbr]
theorem mT8 {l:Land} {p:Span} {been:List Int} {v to t till w on:Int} {j:Nat} {way:List Nat} {all:List (List Nat)} {ver:Nat} {x:Leg} {Y:Hd} {K:Ex->St->Prop} {m n E:Nat} {o0 o1 o2 o3 o4 o5 o6 o7 o9 o10 o11 o12 o13:Bool} (hm:m<=2) (hlen:way.length<=1000) (h:LAT Tryz.prog Y m XJ n E (moE l p been v to t till w on j way all ver x o0 o1 o2 o3 o4 o5 o6 o7 true o9 o10 o11 o12 o13) K):st1 Tryz.prog Y Zj9 (moE l p been v to t till w on j way all ver x o0 o1 o2 o3 o4 o5 o6 o7 false o9 o10 o11 o12 o13) (λσ' K'=>∃ σc,Ent m σ' σc/\LAT Tryz.prog Y m XJ n E σc K') K:=by
 dsimp only [moE,mo0,mo1,sBt,sBf,hBt,hBf,Bool.true_and,Bool.and_true,Bool.false_and,Bool.and_false,Bool.not_true,Bool.not_false,go_sem];dsimp only [ZS,go_sem];refine ⟨_,?_,h⟩;refine Zj ?_ ?_ ?_ rfl (Nat.ble_eq_true_of_le (show m<=6 by omega))<;>dsimp only [moE,mo0,mo1,sBt,sBf,hBt,hBf,Bool.true_and,Bool.and_true,Bool.false_and,Bool.and_false,Bool.not_true,Bool.not_false,id,go_sem]<;>simp +contextual [Ud,Ue,sBt,sBf,hBt,hBf,Zt,Zc,Zf,Zl,Zg,ZS,ZI,boL,ZL,Zv,Ze2,Ze6,Ze5,rho,Za,Ze,KFR,KFL,KF,Zb,mtL,mtB,mtS,mtO,Za6,nbr]
theorem mT9 {l:Land} {p:Span} {been:List Int} {v to t till w on:Int} {j:Nat} {way:List Nat} {all:List (List Nat)} {ver:Nat} {x:Leg} {Y:Hd} {K:Ex->St->Prop} {m n E:Nat} {o0 o1 o2 o3 o4 o5 o6 o10 o11 o13:Bool} (hm:m<=2) (hlen:way.length<=1000) (h:LAT Tryz.prog Y m XJ n E (moE l p been v to t till w on j way all ver x o0 o1 o2 o3 o4 o5 o6 true true true o10 o11 false o13) K):st1 Tryz.prog Y Zl1 (moE l p been v to t till w on j way all ver x o0 o1 o2 o3 o4 o5 o6 true true false o10 o11 false o13) (λσ' K'=>∃ σc,Ent m σ' σc/\LAT Tryz.prog Y m XJ n E σc K') K:=by
 dsimp only [moE,mo0,mo1,sBt,sBf,hBt,hBf,Bool.true_and,Bool.and_true,Bool.false_and,Bool.and_false,Bool.not_true,Bool.not_false,go_sem];dsimp only [ZS,go_sem];refine ⟨by simp;omega,?_⟩;dsimp only [go_sem];refine ⟨_,?_,h⟩;refine entM [0,1,2,3,4,6] ?_ ?_ ?_ rfl rfl rfl (Nat.ble_eq_true_of_le (show m<=6 by omega)) (λi hi=>by match i,hi with | 0,_=>rfl | 1,_=>rfl | i+2,hi=>omega)<;>dsimp only [moE,mo0,mo1,sBt,sBf,hBt,hBf,Bool.true_and,Bool.and_true,Bool.false_and,Bool.and_false,Bool.not_true,Bool.not_false,go_sem]<;>simp +contextual [Ud,Ue,sBt,sBf,hBt,hBf,Zt,Zc,Zf,Zl,Zg,ZS,ZI,boL,ZL,Zv,Ze2,Ze6,Ze5,rho,Za,Ze,KFR,KFL,KF,Zb,mtL,mtB,mtS,mtO,Za6,nbr]
theorem mT10 {l:Land} {p:Span} {been:List Int} {v to t till w on:Int} {j:Nat} {way:List Nat} {all:List (List Nat)} {ver:Nat} {x:Leg} {Y:Hd} {K:Ex->St->Prop} {m n E:Nat} {o0 o1 o2 o3 o4 o5 o6 o7 o8 o9 o11 o12 o13:Bool} (hm:m<=2) (hlen:way.length<=1000) (h:LAT Tryz.prog Y m XJ n E (moE l p been v to t till w on j way all ver x o0 o1 o2 o3 o4 o5 o6 o7 o8 o9 true o11 o12 o13) K):st1 Tryz.prog Y Zd0 (moE l p been v to t till w on j way all ver x o0 o1 o2 o3 o4 o5 o6 o7 o8 o9 false o11 o12 o13) (λσ' K'=>∃ σc,Ent m σ' σc/\LAT Tryz.prog Y m XJ n E σc K') K:=by
 dsimp only [moE,mo0,mo1,sBt,sBf,hBt,hBf,Bool.true_and,Bool.and_true,Bool.false_and,Bool.and_false,Bool.not_true,Bool.not_false,go_sem];refine ⟨_,?_,h⟩;refine Zj ?_ ?_ ?_ rfl (Nat.ble_eq_true_of_le (show m<=6 by omega))<;>dsimp only [moE,mo0,mo1,sBt,sBf,hBt,hBf,Bool.true_and,Bool.and_true,Bool.false_and,Bool.and_false,Bool.not_true,Bool.not_false,id,go_sem]<;>simp +contextual [Ud,Ue,sBt,sBf,hBt,hBf,Zt,Zc,Zf,Zl,Zg,ZS,ZI,boL,ZL,Zv,Ze2,Ze6,Ze5,rho,Za,Ze,KFR,KFL,KF,Zb,mtL,mtB,mtS,mtO,Za6,nbr]
theorem mT11 {l:Land} {p:Span} {been:List Int} {v to t till w on:Int} {j:Nat} {way:List Nat} {all:List (List Nat)} {ver:Nat} {x:Leg} {Y:Hd} {K:Ex->St->Prop} {m n E:Nat} {o0 o1 o2 o3 o4 o5 o6 o7 o8 o9 o12 o13:Bool} (hm:m<=2) (hlen:way.length<=1000) (h:LAT Tryz.prog Y m XJ n E (moE l p been v to t till w on j way all ver x o0 o1 o2 o3 o4 o5 o6 o7 o8 o9 true true o12 o13) K):st1 Tryz.prog Y Zef (moE l p been v to t till w on j way all ver x o0 o1 o2 o3 o4 o5 o6 o7 o8 o9 true false o12 o13) (λσ' K'=>∃ σc,Ent m σ' σc/\LAT Tryz.prog Y m XJ n E σc K') K:=by
 dsimp only [moE,mo0,mo1,sBt,sBf,hBt,hBf,Bool.true_and,Bool.and_true,Bool.false_and,Bool.and_false,Bool.not_true,Bool.not_false,go_sem];refine ⟨_,?_,h⟩;refine Zj ?_ ?_ ?_ rfl (Nat.ble_eq_true_of_le (show m<=6 by omega))<;>dsimp only [moE,mo0,mo1,sBt,sBf,hBt,hBf,Bool.true_and,Bool.and_true,Bool.false_and,Bool.and_false,Bool.not_true,Bool.not_false,id,go_sem]<;>simp +contextual [Ud,Ue,sBt,sBf,hBt,hBf,Zt,Zc,Zf,Zl,Zg,ZS,ZI,boL,ZL,Zv,Ze2,Ze6,Ze5,rho,Za,Ze,KFR,KFL,KF,Zb,mtL,mtB,mtS,mtO,Za6,nbr]
theorem mT12 {l:Land} {p:Span} {been:List Int} {v to t till w on:Int} {j:Nat} {way:List Nat} {all:List (List Nat)} {ver:Nat} {x:Leg} {Y:Hd} {K:Ex->St->Prop} {m n E:Nat} {o0 o1 o2 o3 o4 o5 o6 o7 o8 o10 o13:Bool} (hm:m<=2) (hlen:way.length<=1000) (h:LAT Tryz.prog Y m XJ n E (moE l p been v to t till w on j way all ver x o0 o1 o2 o3 o4 o5 o6 o7 o8 true o10 true true o13) K):st1 Tryz.prog Y Zd5 (moE l p been v to t till w on j way all ver x o0 o1 o2 o3 o4 o5 o6 o7 o8 true o10 true false o13) (λσ' K'=>∃ σc,Ent m σ' σc/\LAT Tryz.prog Y m XJ n E σc K') K:=by
 dsimp only [moE,mo0,mo1,sBt,sBf,hBt,hBf,Bool.true_and,Bool.and_true,Bool.false_and,Bool.and_false,Bool.not_true,Bool.not_false,go_sem];refine ⟨by intro c hc;simp only [List.mem_singleton] at hc;subst hc;rfl,by simp;omega,?_⟩;dsimp only [go_sem];refine ⟨_,ZG (UB 89 5 1 (Nat.ble_eq_true_of_le (show m<=5 by omega)) rfl rfl rfl) ?_,h⟩;have e:way.map ZI ++ [[I (j:Int)]]=(way ++ [j]).map ZI:=by simp [ZI]
 try rw [e]
 refine Zj ?_ ?_ ?_ rfl (Nat.ble_eq_true_of_le (show m<=6 by omega))<;>dsimp only [moE,mo0,mo1,sBt,sBf,hBt,hBf,Bool.true_and,Bool.and_true,Bool.false_and,Bool.and_false,Bool.not_true,Bool.not_false,id,go_sem]<;>simp +contextual [Ud,Ue,sBt,sBf,hBt,hBf,Zt,Zc,Zf,Zl,Zg,ZS,ZI,boL,ZL,Zv,Ze2,Ze6,Ze5,rho,Za,Ze,KFR,KFL,KF,Zb,mtL,mtB,mtS,mtO,Za6,nbr]
theorem mT13 {l:Land} {p:Span} {been:List Int} {v to t till w on:Int} {j:Nat} {way:List Nat} {all:List (List Nat)} {ver:Nat} {x:Leg} {Y:Hd} {K:Ex->St->Prop} {m n E:Nat} {o0 o1 o2 o3 o4 o5 o6 o7 o8 o9 o10 o11 o12:Bool} (hm:m<=2) (hlen:way.length<=1000) (h:LAT Tryz.prog Y m XJ n E (moE l p been v to t till w on j way all ver x o0 o1 o2 o3 o4 o5 o6 o7 o8 o9 o10 o11 o12 true) K):st1 Tryz.prog Y ZeE (moE l p been v to t till w on j way all ver x o0 o1 o2 o3 o4 o5 o6 o7 o8 o9 o10 o11 o12 false) (λσ' K'=>∃ σc,Ent m σ' σc/\LAT Tryz.prog Y m XJ n E σc K') K:=by
 dsimp only [moE,mo0,mo1,sBt,sBf,hBt,hBf,Bool.true_and,Bool.and_true,Bool.false_and,Bool.and_false,Bool.not_true,Bool.not_false,go_sem];refine ⟨_,?_,h⟩;refine Zj ?_ ?_ ?_ rfl (Nat.ble_eq_true_of_le (show m<=6 by omega))<;>dsimp only [moE,mo0,mo1,sBt,sBf,hBt,hBf,Bool.true_and,Bool.and_true,Bool.false_and,Bool.and_false,Bool.not_true,Bool.not_false,id,go_sem]<;>simp +contextual [Ud,Ue,sBt,sBf,hBt,hBf,Zt,Zc,Zf,Zl,Zg,ZS,ZI,boL,ZL,Zv,Ze2,Ze6,Ze5,rho,Za,Ze,KFR,KFL,KF,Zb,mtL,mtB,mtS,mtO,Za6,nbr]
def VR (l:Land) (been:List Int) (all:List (List Nat)) (ver:Nat):List (Nat × HB):=[(0,.row 0 1 ((Wy l.wells.length been).map boL) 4),(1,.rws ver 1 (wX all) 35 0 1 (wI all) 3)]
def ZkW (l:Land) (been:List Int) (all:List (List Nat)) (o:Ot):Prop:=∃ ver,o=⟨false,.mr 1 ver,VR l been all ver,2⟩
theorem moEnd {l:Land} {p:Span} {been:List Int} {v to t till w on:Int} {j:Nat} {way:List Nat} {all:List (List Nat)} {ver:Nat} {x:Leg} {Y:Hd} {K:Ex->St->Prop} {m n E:Nat} (hm:m<=2) {all2:List (List Nat)} (hc:CtM Tryz.prog 116 (VR l been all ver) 2 [.agg (Zt l),I w,I to,I on,I till,.agg (Zc p),.mr 0 0,ZS (way ++ [j]),.mr 1 ver] (ZkW l been all2))
 (hK:∀ ver2 σF,σF=mo1 l p been v to t till j way all2 ver2->K .n σF) (hD:∀ i,i < 14->Nat.testBit E i=true) (h14:Nat.testBit E 14=false):LAT Tryz.prog Y m XJ 2 E (moE l p been v to t till w on j way all ver x true true true true true true true true true true true true true true) K:=by
 intro i x hx hb ha;by_cases hi:i < 14
 . rw [hD i hi] at hb;cases hb
 by_cases h15:i=15
 . subst h15;obtain rfl:Zcj=x:=by simpa [XJ] using hx
   simp only [Zcj,List.all_cons,Bool.and_eq_true] at ha;have:=ha.2.2.2.2.2.2.2.2.2.2.2.2.2.2.1;rw [h14] at this;cases this
 by_cases h16:i=14
 case neg=>rw [List.getElem?_eq_none (by simp [XJ];omega)] at hx;cases hx
 subst h16;obtain rfl:Zex=x:=by simpa [XJ] using hx
 dsimp only [moE,mo0,mo1,sBt,sBf,hBt,hBf,Bool.true_and,Bool.and_true,Bool.false_and,Bool.and_false,Bool.not_true,Bool.not_false,go_sem];refine Y7 [0,1] hc rfl rfl ?_ ?_ ?_ ?_
 . rfl
 . dsimp only [rho,ZS,go_sem];simp [Za,Ze,KFR,KFL,KF,Zb,mtL,mtB,mtS,mtO,Za6,nbr,Zt,Zc,Zf,Zl,Zg,ZI]
 . dsimp only [rho,VR,go_sem];simp [Za,Ze,KFR,KFL,KF,Zb,mtO,nbr,boL,ZL,Zv]
 rintro o ⟨ver2,rfl⟩;dsimp only [VR,go_sem];refine ⟨_,Yj,?_⟩;intro i x hx hb ha;have hbit:∀ i,i < 15->Nat.testBit (E ||| 2 ^ 14) i=true:=λi hi=>by
  rw [Nat.testBit_or,Nat.testBit_two_pow];by_cases q:i=14
  . subst q;simp
  . rw [hD i (by omega)];rfl
 by_cases hi:i < 15
 . rw [hbit i hi] at hb;cases hb
 by_cases h15:i=15
 case neg=>rw [List.getElem?_eq_none (by simp [XJ];omega)] at hx;cases hx
 subst h15;obtain rfl:Zcj=x:=by simpa [XJ] using hx
 dsimp only [go_sem];refine ⟨_,?_,hK ver2 _ rfl⟩;refine Zj ?_ ?_ ?_ rfl (Nat.ble_eq_true_of_le (show m<=4 by omega))<;>dsimp only [moE,mo0,mo1,sBt,sBf,hBt,hBf,Bool.true_and,Bool.and_true,Bool.false_and,Bool.and_false,Bool.not_true,Bool.not_false,id,go_sem]<;>simp +contextual [Ud,Ue,sBt,sBf,hBt,hBf,Zt,Zc,Zf,Zl,Zg,ZS,ZI,boL,ZL,Zv,Ze2,Ze6,Ze5,rho,Za,Ze,KFR,KFL,KF,Zb,mtL,mtB,mtS,mtO,Za6,nbr]
theorem ZAh {l:Land} {p:Span} {been:List Int} {v to t till w on:Int} {j:Nat} {way:List Nat} {all:List (List Nat)} {ver:Nat} {x:Leg} {Y:Hd} {K:Ex->St->Prop} {m:Nat} (hm:m<=2) (hlen:way.length<=1000) {all2:List (List Nat)} (hc:CtM Tryz.prog 116 (VR l been all ver) 2 [.agg (Zt l),I w,I to,I on,I till,.agg (Zc p),.mr 0 0,ZS (way ++ [j]),.mr 1 ver] (ZkW l been all2))
 (hK:∀ ver2 σF,σF=mo1 l p been v to t till j way all2 ver2->K .n σF):∀ n D,(!Nat.testBit D 0).toNat+(!Nat.testBit D 1).toNat+(!Nat.testBit D 2).toNat+(!Nat.testBit D 3).toNat+(!Nat.testBit D 4).toNat+(!Nat.testBit D 5).toNat+(!Nat.testBit D 6).toNat+(!Nat.testBit D 7).toNat+(!Nat.testBit D 8).toNat+(!Nat.testBit D 9).toNat+(!Nat.testBit D 10).toNat+(!Nat.testBit D 11).toNat+(!Nat.testBit D 12).toNat+(!Nat.testBit D 13).toNat=n->Nat.testBit D 14=false->(Nat.testBit D 9=true->Nat.testBit D 7=true/\Nat.testBit D 8=true)->(Nat.testBit D 11=true->Nat.testBit D 10=true)->(Nat.testBit D 12=true->Nat.testBit D 9=true/\Nat.testBit D 11=true)->LAT Tryz.prog Y m XJ (n+2) D (moE l p been v to t till w on j way all ver x (Nat.testBit D 0) (Nat.testBit D 1) (Nat.testBit D 2) (Nat.testBit D 3) (Nat.testBit D 4) (Nat.testBit D 5) (Nat.testBit D 6) (Nat.testBit D 7) (Nat.testBit D 8) (Nat.testBit D 9) (Nat.testBit D 10) (Nat.testBit D 11) (Nat.testBit D 12) (Nat.testBit D 13)) K
 | 0,D,hn,j14,i9,i11,i12=>by
  have hD:∀ i,i < 14->Nat.testBit D i=true:=λi hi=>by
   match i,hi with
   | 0,_=>exact tn (by omega)
   | 1,_=>exact tn (by omega)
   | 2,_=>exact tn (by omega)
   | 3,_=>exact tn (by omega)
   | 4,_=>exact tn (by omega)
   | 5,_=>exact tn (by omega)
   | 6,_=>exact tn (by omega)
   | 7,_=>exact tn (by omega)
   | 8,_=>exact tn (by omega)
   | 9,_=>exact tn (by omega)
   | 10,_=>exact tn (by omega)
   | 11,_=>exact tn (by omega)
   | 12,_=>exact tn (by omega)
   | 13,_=>exact tn (by omega)
  rw [hD 0 (by decide),hD 1 (by decide),hD 2 (by decide),hD 3 (by decide),hD 4 (by decide),hD 5 (by decide),hD 6 (by decide),hD 7 (by decide),hD 8 (by decide),hD 9 (by decide),hD 10 (by decide),hD 11 (by decide),hD 12 (by decide),hD 13 (by decide)];exact moEnd (n:=0) hm hc hK hD j14
 | n+1,D,hn,j14,i9,i11,i12=>by
  intro i y hx hb ha;have ih:=ZAh (l:=l) (p:=p) (been:=been) (v:=v) (to:=to) (t:=t) (till:=till) (x:=x) (Y:=Y) hm hlen hc hK n (D ||| 2 ^ i);rcases i with _ | _ | _ | _ | _ | _ | _ | _ | _ | _ | _ | _ | _ | _ | _ | _ | i
  . obtain rfl:ZjC=y:=by simpa [XJ] using hx
    simp only [ZjC,Nat.zero_add,Nat.reduceAdd,List.all_cons,List.all_nil,Bool.and_true,Bool.and_eq_true] at hb ha;simp only [Nat.testBit_or,Nat.testBit_two_pow] at ih;simp [-Nat.testBit_zero] at ih;simp only [hb] at hn ⊢;apply mT0 hm hlen;apply ih<;>first | (simp [-Nat.testBit_zero] at hn ⊢;omega) | simp_all [-Nat.testBit_zero]
  . obtain rfl:ZjK=y:=by simpa [XJ] using hx
    simp only [ZjK,Nat.zero_add,Nat.reduceAdd,List.all_cons,List.all_nil,Bool.and_true,Bool.and_eq_true] at hb ha;simp only [Nat.testBit_or,Nat.testBit_two_pow] at ih;simp [-Nat.testBit_zero] at ih;simp only [hb] at hn ⊢;apply mT1 hm hlen;apply ih<;>first | (simp [-Nat.testBit_zero] at hn ⊢;omega) | simp_all [-Nat.testBit_zero]
  . obtain rfl:ZmD=y:=by simpa [XJ] using hx
    simp only [ZmD,Nat.zero_add,Nat.reduceAdd,List.all_cons,List.all_nil,Bool.and_true,Bool.and_eq_true] at hb ha;simp only [Nat.testBit_or,Nat.testBit_two_pow] at ih;simp [-Nat.testBit_zero] at ih;simp only [hb] at hn ⊢;apply mT2 hm hlen;apply ih<;>first | (simp [-Nat.testBit_zero] at hn ⊢;omega) | simp_all [-Nat.testBit_zero]
  . obtain rfl:Zlp=y:=by simpa [XJ] using hx
    simp only [Zlp,Nat.zero_add,Nat.reduceAdd,List.all_cons,List.all_nil,Bool.and_true,Bool.and_eq_true] at hb ha;simp only [Nat.testBit_or,Nat.testBit_two_pow] at ih;simp [-Nat.testBit_zero] at ih;simp only [hb] at hn ⊢;apply mT3 hm hlen;apply ih<;>first | (simp [-Nat.testBit_zero] at hn ⊢;omega) | simp_all [-Nat.testBit_zero]
  . obtain rfl:ZjJ=y:=by simpa [XJ] using hx
    simp only [ZjJ,Nat.zero_add,Nat.reduceAdd,List.all_cons,List.all_nil,Bool.and_true,Bool.and_eq_true] at hb ha;simp only [Nat.testBit_or,Nat.testBit_two_pow] at ih;simp [-Nat.testBit_zero] at ih;simp only [hb] at hn ⊢;apply mT4 hm hlen;apply ih<;>first | (simp [-Nat.testBit_zero] at hn ⊢;omega) | simp_all [-Nat.testBit_zero]
  . obtain rfl:Zlk=y:=by simpa [XJ] using hx
    simp only [Zlk,Nat.zero_add,Nat.reduceAdd,List.all_cons,List.all_nil,Bool.and_true,Bool.and_eq_true] at hb ha;simp only [Nat.testBit_or,Nat.testBit_two_pow] at ih;simp [-Nat.testBit_zero] at ih;simp only [hb] at hn ⊢;apply mT5 hm hlen;apply ih<;>first | (simp [-Nat.testBit_zero] at hn ⊢;omega) | simp_all [-Nat.testBit_zero]
  . obtain rfl:Zjk=y:=by simpa [XJ] using hx
    simp only [Zjk,Nat.zero_add,Nat.reduceAdd,List.all_cons,List.all_nil,Bool.and_true,Bool.and_eq_true] at hb ha;simp only [Nat.testBit_or,Nat.testBit_two_pow] at ih;simp [-Nat.testBit_zero] at ih;simp only [hb] at hn ⊢;apply mT6 hm hlen;apply ih<;>first | (simp [-Nat.testBit_zero] at hn ⊢;omega) | simp_all [-Nat.testBit_zero]
  . obtain rfl:Zl9=y:=by simpa [XJ] using hx
    simp only [Zl9,Nat.zero_add,Nat.reduceAdd,List.all_cons,List.all_nil,Bool.and_true,Bool.and_eq_true] at hb ha;simp only [Nat.testBit_or,Nat.testBit_two_pow] at ih;simp [-Nat.testBit_zero] at ih;simp only [hb] at hn ⊢;apply mT7 hm hlen;apply ih<;>first | (simp [-Nat.testBit_zero] at hn ⊢;omega) | simp_all [-Nat.testBit_zero]
  . obtain rfl:Zj9=y:=by simpa [XJ] using hx
    simp only [Zj9,Nat.zero_add,Nat.reduceAdd,List.all_cons,List.all_nil,Bool.and_true,Bool.and_eq_true] at hb ha;simp only [Nat.testBit_or,Nat.testBit_two_pow] at ih;simp [-Nat.testBit_zero] at ih;simp only [hb] at hn ⊢;apply mT8 hm hlen;apply ih<;>first | (simp [-Nat.testBit_zero] at hn ⊢;omega) | simp_all [-Nat.testBit_zero]
  . obtain rfl:Zl1=y:=by simpa [XJ] using hx
    simp only [Zl1,Nat.zero_add,Nat.reduceAdd,List.all_cons,List.all_nil,Bool.and_true,Bool.and_eq_true] at hb ha;simp only [Nat.testBit_or,Nat.testBit_two_pow] at ih;simp [-Nat.testBit_zero] at ih;obtain ⟨a7,a8⟩:=ha;have b12:Nat.testBit D 12=false:=by cases h:Nat.testBit D 12<;>simp_all [-Nat.testBit_zero]
    simp only [hb,a7,a8,b12] at hn ⊢;simp only [a7,a8,b12] at ih;apply mT9 hm hlen;apply ih<;>first | (simp [-Nat.testBit_zero] at hn ⊢;omega) | simp_all [-Nat.testBit_zero]
  . obtain rfl:Zd0=y:=by simpa [XJ] using hx
    simp only [Zd0,Nat.zero_add,Nat.reduceAdd,List.all_cons,List.all_nil,Bool.and_true,Bool.and_eq_true] at hb ha;simp only [Nat.testBit_or,Nat.testBit_two_pow] at ih;simp [-Nat.testBit_zero] at ih;simp only [hb] at hn ⊢;apply mT10 hm hlen;apply ih<;>first | (simp [-Nat.testBit_zero] at hn ⊢;omega) | simp_all [-Nat.testBit_zero]
  . obtain rfl:Zef=y:=by simpa [XJ] using hx
    simp only [Zef,Nat.zero_add,Nat.reduceAdd,List.all_cons,List.all_nil,Bool.and_true,Bool.and_eq_true] at hb ha;simp only [Nat.testBit_or,Nat.testBit_two_pow] at ih;simp [-Nat.testBit_zero] at ih;have a10:=ha;simp only [hb,a10] at hn ⊢;simp only [a10] at ih;apply mT11 hm hlen;apply ih<;>first | (simp [-Nat.testBit_zero] at hn ⊢;omega) | simp_all [-Nat.testBit_zero]
  . obtain rfl:Zd5=y:=by simpa [XJ] using hx
    simp only [Zd5,Nat.zero_add,Nat.reduceAdd,List.all_cons,List.all_nil,Bool.and_true,Bool.and_eq_true] at hb ha;simp only [Nat.testBit_or,Nat.testBit_two_pow] at ih;simp [-Nat.testBit_zero] at ih;obtain ⟨a9,a11⟩:=ha;simp only [hb,a9,a11] at hn ⊢;simp only [a9,a11] at ih;apply mT12 hm hlen;apply ih<;>first | (simp [-Nat.testBit_zero] at hn ⊢;omega) | simp_all [-Nat.testBit_zero]
  . obtain rfl:ZeE=y:=by simpa [XJ] using hx
    simp only [ZeE,Nat.zero_add,Nat.reduceAdd,List.all_cons,List.all_nil,Bool.and_true,Bool.and_eq_true] at hb ha;simp only [Nat.testBit_or,Nat.testBit_two_pow] at ih;simp [-Nat.testBit_zero] at ih;simp only [hb] at hn ⊢;apply mT13 hm hlen;apply ih<;>first | (simp [-Nat.testBit_zero] at hn ⊢;omega) | simp_all [-Nat.testBit_zero]
  . obtain rfl:Zex=y:=by simpa [XJ] using hx
    simp only [Zex,List.all_cons,List.all_nil,Bool.and_true,Bool.and_eq_true] at ha;obtain ⟨a0,a1,a2,a3,a4,a5,a6,a12,a13⟩:=ha;obtain ⟨a9,a11⟩:=i12 a12;obtain ⟨a7,a8⟩:=i9 a9;have a10:=i11 a11;simp only [a0,a1,a2,a3,a4,a5,a6,a7,a8,a9,a10,a11,a12,a13] at hn;simp at hn
  . obtain rfl:Zcj=y:=by simpa [XJ] using hx
    simp only [Zcj,List.all_cons,List.all_nil,Bool.and_true,Bool.and_eq_true] at ha;have:=ha.2.2.2.2.2.2.2.2.2.2.2.2.2.2;simp [j14] at this
  . simp [XJ] at hx
theorem moReg {l:Land} {p:Span} {been:List Int} {v to t till w on:Int} {j:Nat} {way:List Nat} {all:List (List Nat)} {ver:Nat} {x:Leg} {Y:Hd} {K:Ex->St->Prop} {m:Nat} (hm:m<=2) (hlen:way.length<=1000) {all2:List (List Nat)} (hc:CtM Tryz.prog 116 (VR l been all ver) 2 [.agg (Zt l),I w,I to,I on,I till,.agg (Zc p),.mr 0 0,ZS (way ++ [j]),.mr 1 ver] (ZkW l been all2))
 (hK:∀ ver2 σF,σF=mo1 l p been v to t till j way all2 ver2->K .n σF):LAT Tryz.prog Y m XJ 16 0 (moE l p been v to t till w on j way all ver x false false false false false false false false false false false false false false) K:=by
 have h:=ZAh (l:=l) (p:=p) (been:=been) (v:=v) (to:=to) (t:=t) (till:=till) (x:=x) (Y:=Y) (K:=K) hm hlen hc hK 14 0 (by simp) (by simp) (by simp) (by simp) (by simp);simpa using h
def ZlO (l:Land) (p:Span) (been:List Int) (v to t till:Int) (all:List (List Nat)) (ver:Nat) (way:List Nat):St :=
 ⟨[(8,.mr 1 ver),(7,ZS way),(6,.mr 0 0),(5,.agg (Zc p)),(4,I till),(3,I t),(2,I to),(1,I v),(0,.agg (Zt l))],VR l been all ver,2,96,[]⟩
theorem Zpt (l:Land) (p:Span) (hs:Xu l) (hok:OkLP l p) (till to:Int) (hti:till<=100000):∀ (f:Nat) (been:List Int) (v t:Int) (way:List Nat) (all:List (List Nat)) (ver:Nat) (s7 s8:SV) (n0:Nat) (hp0:List (Nat × HB)),ZiH l f been->v ∉ been->(0<=v/\v < l.wells.length)->(0<=t/\t<=till) ->
 way.length+f<=900->all.length<=200->(n0=2/\s7=ZS way/\s8 = .mr 1 ver/\hp0=VR l been all ver\/n0=1/\s7 = .v (.slice none 0 0)/\s8 = .v (.slice none 0 0)/\way=[]/\all=[]/\ver=0/\hp0=[(0,.row 0 1 ((Wy l.wells.length been).map boL) 4)]) ->
 CtM Tryz.prog 116 hp0 n0 [.agg (Zt l),I v,I to,I t,I till,.agg (Zc p),.mr 0 0,s7,s8] (ZkW l been (cap (all ++ (XW l p to till f been v t).map (way ++ ·)))):=by
 intro f
 induction f with
 | zero =>
  intro been v t way all ver s7 s8 n0 hp0 hR hv hvi;obtain ⟨g,h,_⟩:=hR.pos hv hvi;omega
 | succ f ih =>
 intro been v t way all ver s7 s8 n0 hp0 hR hv hvi ht hlen hall hc;obtain ⟨g,hg,hR'⟩:=hR.pos hv hvi;have hgf:g=f:=by omega
 subst hgf;have hleg:=hs.2.1;have hlate:¬ t > till:=by omega
 obtain ⟨v0,hv0,rfl⟩:∃ v0:Nat,v0 < l.wells.length/\v=(v0:Int):=⟨v.toNat,by omega,by omega⟩
 have hpost:∀ (n0:Nat) (o:Ot),ZkW l been (cap (all ++ (XW l p to till (g+1) been v0 t).map (way ++ ·))) o->KX o.res/\KXP o.hp:=λn0 o ho=>by
  obtain ⟨ver',rfl⟩:=ho;simp [VR,KX,KXL,KXP,KXH,KFL,KF,ZL,Zv,bo_kf]
 rcases hc with ⟨rfl,rfl,rfl,rfl⟩ | ⟨rfl,rfl,rfl,hw0,ha0,hve,rfl⟩
 refine ZA4 (by simp [hpb,VR]) (hpost 2) ?_;dsimp only [Zpi,ZrB,go_sem];refine gh (σ1:=ZlO l p been v0 to t till all ver way) ?_ ?_
 . dsimp only [ZlO,VR,Zt,Zc,ZS,go_sem];(refine Zj ?_ ?_ ?_ rfl rfl<;>dsimp only [Zf,Zl,Zg,ZL,Zv,ZI,boL,id,go_sem]<;>simp [Zf,Zl,Zg,ZL,Zv,ZI,boL,Za])
 rotate_left
 refine ZA4 (by simp [hpb]) (hpost 1) ?_;dsimp only [Zpi,ZrB,go_sem];refine gh (σ1:=ZlO l p been v0 to t till all ver way) ?_ ?_
 . refine ZG (Yg 8 1 35 rfl rfl) (ZG (Zmx 1 0 0 1 3 rfl rfl) (ZG (Zag (s':=.sl false 1 ([]:List (List SV))) 7 rfl Yk (λ_ _ _ h=>by cases h)) ?_));subst hw0 ha0 hve;dsimp only [ZlO,VR,Zt,Zc,ZS,go_sem];(refine Zj ?_ ?_ ?_ rfl rfl<;>dsimp only [Zf,Zl,Zg,wX,wI,ZI,boL,id,go_sem]<;>simp [Zf,Zl,Zg,wX,wI,ZI,boL,Za])
 all_goals
  dsimp only [ZlO,VR,Zt,Zc,ZS,go_sem];refine br ?_ ?_
  . intro hto;have hto:(v0:Int)=to:=by simpa using hto
    dsimp only [go_sem];refine ⟨by simp;omega,?_⟩;dsimp only [go_sem];refine Zgq (k:=1) (v:=ver) (m:=1) (o:=0) (m':=1) (xs:=wX all) (ys:=[[.mr 4 0]]) (inn:=wI all) (T:=35) (T':=3) (t:=144) (bs:=24) rfl rfl rfl rfl rfl (by kernel_rfl) (by kernel_rfl) (by kernel_rfl) (by kernel_rfl) rfl rfl (by intro c hc;simp only [List.mem_singleton] at hc;subst hc;rfl) (by simp) (by rw [Vu];simp;omega) rfl rfl ?_
    dsimp only [go_sem];refine ⟨_,⟨ver+1+(wI all).length,rfl⟩,?_⟩;refine Vb (ZG (Zd8 1 4 [.mr 4 0] rfl rfl rfl (by rw [Zgo,List.getElem?_append_right (by rw [Vu];exact Nat.le_refl _),Vu,Nat.sub_self];rfl) rfl) ?_) (λ_ _ _ e=>by cases e);rw [Zi7 all way,Zks all way,Xk,if_neg hlate,if_pos hto];simp only [List.map_cons,List.map_nil,List.append_nil];rw [Zai (by simp;omega)];dsimp only [VR,go_sem];(refine Zj ?_ ?_ ?_ rfl rfl<;>dsimp only [ZL,Zv,ZI,boL,id,go_sem]<;>simp [ZL,Zv,ZI,boL,Za])
  intro hto;have hto:¬ (v0:Int)=to:=by simpa using hto
  dsimp only [go_sem];simp only [List.length_map,XP];refine Wi v0 rfl hv0 ?_;dsimp only [go_sem];refine ZdM true (by rw [XP];exact hv0) (by simp [boL]) (by simp [boL,Zu]) ?_;dsimp only [go_sem];rw [Zrk hv0];refine XE [1,2,3,4,6,7,8,9,14,19] rfl (λq:Nat × List (List Nat) × Nat=>[(19,I q.1),(8,.mr 1 q.2.2)]) (λq=>[(1,.rws q.2.2 1 (wX q.2.1) 35 0 1 (wI q.2.1) 3)])
   (λq=>q.1<=l.legs.length/\q.2.1=cap (all ++ (Yq l p to till g been v0 t q.1).map (way ++ ·))) (λq=>l.legs.length - q.1) (0,all,ver) ⟨Nat.zero_le _,by simp [ZeO,Zai (show all.length<=201 by omega)]⟩ ?_ ?_
  . (refine Zj ?_ ?_ ?_ rfl rfl<;>dsimp only [Zf,Zl,Zg,ZL,Zv,ZI,boL,id,go_sem]<;>simp [Zf,Zl,Zg,ZL,Zv,ZI,boL,Za])
  rintro ⟨j,allj,verj⟩ ⟨hj,hallj⟩;simp only at hj hallj;dsimp only [go_sem];simp only [List.length_map];have hWs:XW l p to till (g+1) been v0 t=Yq l p to till g been v0 t l.legs.length:=by rw [Xk,if_neg hlate,if_neg hto]
  by_cases hlt:j < l.legs.length
  case neg =>
   have hje:j=l.legs.length:=by omega
   have hend:cap (all ++ (XW l p to till (g+1) been v0 t).map (way ++ ·))=allj:=by rw [hWs,hallj,hje]
   have g1:decide ((j:Int) < l.legs.length)=false:=by simp;omega
   simp only [g1];iterate 3 (refine UG (by decide) ?_;dsimp only [go_sem])
   refine Zr (by decide) ?_;dsimp only [go_sem];simp only [List.length_map,XP];refine Wi v0 rfl hv0 ?_;dsimp only [go_sem];refine ZdM false (by rw [XP];exact hv0) (by simp [boL]) (by simp [boL,Zu]) ?_;dsimp only [go_sem];rw [Zei hv0 hv];refine ⟨_,⟨verj,rfl⟩,?_⟩;rw [hend];dsimp only [VR,go_sem];(refine Yb ?_ ?_ ?_ rfl<;>dsimp only [Zf,Zl,Zg,ZL,Zv,ZI,boL,id,go_sem]<;>simp [Zf,Zl,Zg,ZL,Zv,ZI,boL,Za])
  have g1:decide ((j:Int) < l.legs.length)=true:=by simp;omega
  simp only [g1];refine YT rfl ?_;dsimp only [go_sem];refine YT rfl ?_;dsimp only [go_sem];refine ⟨0,1,_,_,rfl,rfl,?_⟩;simp only [YV,Vu];refine YT rfl ?_;dsimp only [go_sem];by_cases hsm:allj.length<=200
  case neg =>
   have hend:cap (all ++ (XW l p to till (g+1) been v0 t).map (way ++ ·))=allj:=by
    obtain ⟨R,hRs⟩:=X1 (l:=l) (p:=p) (to:=to) (till:=till) (f:=g) (been:=been) (v:=(v0:Int)) (t:=t) (j:=j) (l.legs.length - j);rw [show j+(l.legs.length - j)=l.legs.length by omega] at hRs;rw [hWs,hRs,List.map_append,<- List.append_assoc,Zf0,hallj];rw [hallj] at hsm;unfold cap at hsm;rw [List.length_take] at hsm;omega
   have g2:decide ((allj.length:Int)<=200)=false:=by simp;omega
   simp only [g2];refine Zr (by decide) ?_;dsimp only [go_sem];simp only [List.length_map,XP];refine Wi v0 rfl hv0 ?_;dsimp only [go_sem];refine ZdM false (by rw [XP];exact hv0) (by simp [boL]) (by simp [boL,Zu]) ?_;dsimp only [go_sem];rw [Zei hv0 hv];refine ⟨_,⟨verj,rfl⟩,?_⟩;rw [hend];dsimp only [VR,go_sem];(refine Yb ?_ ?_ ?_ rfl<;>dsimp only [Zf,Zl,Zg,ZL,Zv,ZI,boL,id,go_sem]<;>simp [Zf,Zl,Zg,ZL,Zv,ZI,boL,Za])
  have g2:decide ((allj.length:Int)<=200)=true:=by simp;omega
  simp only [g2];refine Zq (by decide) ?_;dsimp only [go_sem];refine Zo j hlt rfl ?_;dsimp only [Zl,go_sem];have hgl:GoodLeg l.legs[j]:=Y4 hok.land _ (List.getElem_mem _);have hxj:l.legs[j]? = some l.legs[j]:=List.getElem?_eq_getElem hlt;have hin:inR 0 100001 t=true:=by simp only [inR,decide_eq_true_eq];omega
  have hab:=Xf (k:=true) (t:=t) hgl hok.pace (by omega);refine call (Vz l.legs[j] v0) ?_;dsimp only [go_sem];by_cases hn0:Zm l.legs[j] v0 < 0
  . have g3:decide (Zm l.legs[j] v0 < 0)=true:=by simpa using hn0
    simp only [g3];iterate 4 (refine UG (by decide) ?_;dsimp only [go_sem])
    refine Zq (by decide) ?_;dsimp only [go_sem];rw [Zh (n:=(j:Int)+1) (by omega) (by omega)];refine ⟨(j+1,allj,verj),⟨hlt,by rw [Ya,VF hxj (.inl hn0),List.append_nil];exact hallj⟩,by simp only;omega,?_⟩;(refine Zj ?_ ?_ ?_ rfl rfl<;>dsimp only [Zf,Zl,Zg,ZL,Zv,ZI,boL,id,go_sem]<;>simp [Zf,Zl,Zg,ZL,Zv,ZI,boL,Za])
  have g3:decide (Zm l.legs[j] v0 < 0)=false:=by simpa using hn0
  have hot:=Yc hok hxj hn0;obtain ⟨w0,hw0e⟩:∃ w0:Nat,Zm l.legs[j] v0=(w0:Int):=⟨(Zm l.legs[j] v0).toNat,by omega⟩
  have hw0:w0 < l.wells.length:=by omega
  have g5:decide ((w0:Int) < 0)=false:=by simp
  simp only [hw0e,g5];refine YT rfl ?_;dsimp only [go_sem];refine YT rfl ?_;dsimp only [go_sem];refine YT rfl ?_;dsimp only [go_sem];simp only [List.length_map,XP];refine Wi w0 rfl hw0 ?_;dsimp only [go_sem];refine YT rfl ?_;dsimp only [go_sem];refine Zan (by rw [XP];exact hw0) ?_;dsimp only [boL,go_sem];rw [ZmM hw0];by_cases hmem:(w0:Int) ∈ (v0:Int) :: been
  . rw [decide_eq_true hmem];refine Zq (by decide) ?_;dsimp only [go_sem];rw [Zh (n:=(j:Int)+1) (by omega) (by omega)];refine ⟨(j+1,allj,verj),⟨hlt,by rw [Ya,VF hxj (.inr (by rw [hw0e];exact hmem)),List.append_nil];exact hallj⟩,by simp only;omega,?_⟩;(refine Zj ?_ ?_ ?_ rfl rfl<;>dsimp only [Zf,Zl,Zg,ZL,Zv,ZI,boL,id,go_sem]<;>simp [Zf,Zl,Zg,ZL,Zv,ZI,boL,Za])
  rw [decide_eq_false hmem];refine Zr (by decide) ?_;dsimp only [go_sem];refine call (VW l.legs[j] p t t hgl hok.pace hin hin) ?_;dsimp only [go_sem];generalize htt:ZB true l.legs[j] p t=t1 at hab ⊢;have hly:Wh l p to till g been v0 t j=(XW l p to till g ((v0:Int) :: been) w0 t1).map (j :: ·):=by
   rw [VZ hxj hn0 (by rw [hw0e];exact hmem),hw0e,htt]
  by_cases ht1:t1 < 100001
  case neg =>
   have g4:decide (t1 < 100001)=false:=by simpa using ht1
   simp only [g4];iterate 3 (refine UG (by decide) ?_;dsimp only [go_sem])
   refine Zr (by decide) ?_;dsimp only [go_sem];rw [Zh (n:=(j:Int)+1) (by omega) (by omega)];refine ⟨(j+1,allj,verj),⟨hlt,by rw [Ya,hly,V9 (by omega),List.map_nil,List.append_nil];exact hallj⟩,by simp only;omega,?_⟩;(refine Zj ?_ ?_ ?_ rfl rfl<;>dsimp only [Zf,Zl,Zg,ZL,Zv,ZI,boL,id,go_sem]<;>simp [Zf,Zl,Zg,ZL,Zv,ZI,boL,Za])
  have g4:decide (t1 < 100001)=true:=by simpa using ht1
  simp only [g4];iterate 3 (refine YT rfl ?_;dsimp only [go_sem])
  by_cases ht2:t1<=till
  case neg =>
   refine Zr (by simpa using ht2) ?_;dsimp only [go_sem];rw [Zh (n:=(j:Int)+1) (by omega) (by omega)];refine ⟨(j+1,allj,verj),⟨hlt,by rw [Ya,hly,V9 (by omega),List.map_nil,List.append_nil];exact hallj⟩,by simp only;omega,?_⟩;(refine Zj ?_ ?_ ?_ rfl rfl<;>dsimp only [Zf,Zl,Zg,ZL,Zv,ZI,boL,id,go_sem]<;>simp [Zf,Zl,Zg,ZL,Zv,ZI,boL,Za])
  refine Zq (by simpa using ht2) ?_;dsimp only [go_sem];have hall2:all ++ (Yq l p to till g been v0 t j).map (way ++ ·)=allj:=by
   rw [hallj];exact (Zzv (by rw [<- hallj];exact hsm)).symm
  have hih:=ih ((v0:Int) :: been) w0 t1 (way ++ [j]) allj verj _ _ 2 _ hR' hmem (by omega) (by omega) (by simp;omega) hsm (.inl ⟨rfl,rfl,rfl,rfl⟩);have hW:cap (allj ++ (XW l p to till g ((v0:Int) :: been) w0 t1).map (way ++ [j] ++ ·))=cap (all ++ (Yq l p to till g been v0 t (j+1)).map (way ++ ·)):=by
   rw [Ya,hly,List.map_append,<- List.append_assoc,hall2,List.map_map];simp [Function.comp_def]
  rw [hW] at hih;refine gh (σ1:=moE l p ((v0:Int) :: been) v0 to t till w0 t1 j way allj verj l.legs[j] false false false false false false false false false false false false false false) (ZG (σ':=mo0 l p ((v0:Int) :: been) v0 to t till w0 t1 j way allj verj l.legs[j]) ?_ (ZoA (by decide))) ?_
  . dsimp only [mo0,Zt,Zc,Zl,ZS,go_sem];(refine Zj ?_ ?_ ?_ rfl rfl<;>dsimp only [Zf,Zl,Zg,ZL,Zv,ZI,boL,id,go_sem]<;>simp [Zf,Zl,Zg,ZL,Zv,ZI,boL,Za])
  show LAT _ _ _ _ 16 0 _ _;refine moReg (by decide) (by omega) hih ?_;intro ver2 σF eF;subst eF;dsimp only [mo1,Zt,Zc,ZS,go_sem];rw [Zh (n:=(j:Int)+1) (by omega) (by omega)];refine ⟨(j+1,cap (all ++ (Yq l p to till g been v0 t (j+1)).map (way ++ ·)),ver2),⟨hlt,rfl⟩,by simp only;omega,?_⟩;generalize cap (all ++ (Yq l p to till g been v0 t (j+1)).map (way ++ ·))=alln;(refine Zj ?_ ?_ ?_ rfl rfl<;>dsimp only [Zf,Zl,Zg,ZL,Zv,ZI,boL,id,go_sem]<;>simp [Zf,Zl,Zg,ZL,Zv,ZI,boL,Za])
theorem u30 {args:List SV} {res:SV} (ka:KFL args) (kr:KF res) (h:sx Tryz.prog Y0 0 ck68 (st0 args 66) (ZvT rk68 res)) (hA:Nat.ble args.length 66=true:=by rfl):Ct Tryz.prog 68 args res:=US Tryz.func68 rfl bk68 Zwm Zv7 nk68 (Nat.le_of_ble_eq_true hA) ka kr h
theorem been0 (n:Nat):(Wy n []).map boL=List.replicate n [SV.v (.bool false)]:=by
 apply List.ext_getElem
 . simp [Wy]
 . intro i h1 h2;simp [Wy,boL]
theorem Zsp (l:Land) (hs:Xu l) (s to day till:Int) (p:Span):Ct Tryz.prog 68 [.agg (Zt l),I s,I to,I day,I till,.agg (Zc p)] (ZcH l p s to day till):=by
 have hw:=hs.1;have hleg:=hs.2.1;refine u30 (by simp [Zt,Zf,Zl,Zg,Zc,Za]) (ZqX _ _ _ _ _ _) ?_;dsimp only [ck68,rk68,Zt,Zc,go_sem];refine call (Zbk l hs p) ?_;dsimp only [go_sem];by_cases ha:Ul l p=0
 case neg =>
  refine Zq (by simpa using ha) ?_;dsimp only [go_sem];refine ⟨_,rfl,?_⟩;simp only [ZcH,Wn,ha,YM,ne_eq,not_false_eq_true,if_true,if_false];exact ZdU.rfl
 have hok:=Zc1 ha;refine Zr (by simpa using ha) ?_;dsimp only [go_sem];simp only [List.length_map];have h1:=XD hok.land;rw [Zh (n:=(l.wells.length:Int) - 1) (by omega) (by omega)];refine call (ZW s 0 (l.wells.length - 1)) ?_;dsimp only [go_sem];repeat (first | (refine gb ?_;dsimp only [go_sem]) | (refine call (ZW to 0 (l.wells.length - 1)) ?_;dsimp only [go_sem]) | (refine call (ZW day 0 100000) ?_;dsimp only [go_sem]) | (refine call (ZW till 0 100000) ?_;dsimp only [go_sem]) | (simp only [List.length_map];rw [Zh (n:=(l.wells.length:Int) - 1) (by omega) (by omega)]))
 by_cases hr:(inR 0 (l.wells.length - 1) s && inR 0 (l.wells.length - 1) to && inR 0 100000 day && inR 0 100000 till)=true
 case neg =>
  have hb:∀ a b c d:Bool,¬ (a && b && c && d)=true->(((!a || !b) || !c) || !d)=true:=by decide
  refine Zq (hb _ _ _ _ hr) ?_;dsimp only [go_sem];have he:Wn l p s to day till=2:=by simp [Wn,ha,hr]
  refine ⟨_,rfl,?_⟩;simp only [ZcH,he,YM];exact ZdU.rfl
 have hb:∀ a b c d:Bool,(a && b && c && d)=true->(((!a || !b) || !c) || !d)=false:=by decide
 refine Zr (hb _ _ _ _ hr) ?_;dsimp only [go_sem];have he:Wn l p s to day till=if (XB l p s to day till).length > 200 then 9 else 0:=by simp only [Wn,XB,ha,hr];simp
 simp only [Bool.and_eq_true,inR,decide_eq_true_eq] at hr;obtain ⟨⟨⟨hr1,hr3⟩,hd⟩,hu⟩:=hr;by_cases hlate:day > till
 . refine Zq (by simpa using hlate) ?_;dsimp only [go_sem];have hW:XB l p s to day till=[]:=V9 hlate;refine ⟨_,rfl,?_⟩;simp only [ZcH,he,hW,YM,List.length_nil,List.map_nil];exact W7 (ZC Yk XK)
 refine Zr (by simpa using hlate) ?_;dsimp only [go_sem];simp only [List.length_map];refine ⟨l.wells.length,rfl,by omega,?_⟩;dsimp only [go_sem];have hm:=Zpt l p hs hok till to hu.2 (l.wells.length+1) [] s day [] [] 0 _ _ 1 _ ZiH.start (by simp) (by omega) (by omega) (by simp;omega) (by simp) (.inr ⟨rfl,rfl,rfl,rfl,rfl,rfl,rfl⟩);have hW:cap ([] ++ (XW l p to till (l.wells.length+1) [] s day).map (([]:List Nat) ++ ·))=cap (XB l p s to day till):=by simp [XB]
 rw [hW,been0] at hm;refine Y7 [2] hm rfl rfl ?_ ?_ ?_ ?_
 . rfl
 . dsimp only [rho,Zt,Zc,go_sem];simp [Za,Ze,KFR,KFL,KF,Zb,mtL,mtB,mtS,mtO,Za6,nbr,Zf,Zl,Zg]
 . dsimp only [rho,go_sem];have hz:=Vn (r:=[SV.v (.bool false)]) (by simp) l.wells.length;simp [Ze,KFR,KFL,KF,Zb,mtO,nbr,hz]
 rintro o ⟨ver,rfl⟩;dsimp only [VR,go_sem];refine gh (ZoN 15 3 ver rfl rfl rfl rfl) ?_;rw [w_frz];dsimp only [go_sem];simp only [List.length_map];by_cases hl:(XB l p s to day till).length<=200
 . rw [Zai (show (XB l p s to day till).length<=201 by omega)];refine Zr (by simp;omega) ?_;dsimp only [go_sem];refine ⟨_,rfl,?_⟩;rw [ZcH,he,if_neg (by omega)];simp only [YM,if_true];exact ZdU.rfl
 . have hc:(cap (XB l p s to day till)).length=201:=by unfold cap;rw [List.length_take];omega
   rw [hc];refine Zq (by decide) ?_;dsimp only [go_sem];refine ⟨_,rfl,?_⟩;rw [ZcH,he,if_pos (by omega)];simp only [YM];exact ZdU.rfl
end Go.Proofs.YtiigiflofnjilaaGreat
namespace Go.Azalai
open Go.Sx Go.Proofs.YtiigiflofnjilaaGreat
def toW (s:Season) (a:List Nat):Int:=(Xr s.land s.start [s.start] (Yx a)).getD 0
def ZyI (s:Season) (b:Bst) (a:List Nat):Bst:=ZyH s (toW s a) b a
theorem ZAE {s:Season} {g:Int}:∀ {W:List (List Nat)} {b:Bst},(∀ a ∈ W,Xr s.land s.start [s.start] (Yx a)=some g)->W.foldl (ZyH s g) b=W.foldl (ZyI s) b
 | [],_,_=>rfl
 | a :: W,b,h=>by
  rw [List.foldl_cons,List.foldl_cons,ZAE λx hx=>h x (List.mem_cons_of_mem _ hx)];congr 1;simp only [ZyI,toW,h a (List.mem_cons_self ..),Option.getD_some]
structure OkA (s:Season) (A:List (List Nat)):Prop where
 goal:∀ a ∈ A,(Xr s.land s.start [s.start] (Yx a)).isSome=true
 sure:∀ a ∈ A,X7 s (Yx a)=true
 len:∀ a ∈ A,a.length<=24
theorem OkA.app {s:Season} {A W:List (List Nat)} (h:OkA s A) (h':OkA s W):OkA s (A ++ W):=by
 refine ⟨λa ha=>?_,λa ha=>?_,λa ha=>?_⟩<;>rcases List.mem_append.1 ha with q | q
 . exact h.goal a q
 . exact h'.goal a q
 . exact h.sure a q
 . exact h'.sure a q
 . exact h.len a q
 . exact h'.len a q
end Go.Azalai
namespace Go.Proofs.YtiigiflofnjilaaGreat
open Go Go.Sx Go.Azalai
theorem u26 {args:List SV} {res:SV} (ka:KFL args) (kr:KF res) (h:sx Tryz.prog Y0 0 c26 (st0 args 107) (ZvT r26 res)) (hA:Nat.ble args.length 107=true:=by rfl):Ct Tryz.prog 26 args res:=US Tryz.func26 rfl b26 Zz7 ZAm n26 (Nat.le_of_ble_eq_true hA) ka kr h
theorem Zmr (A:List (List Nat)):KFR (A.map Wp):=by simp [Wp,ZS,ZI,Za]
theorem ZpL (s:Season) (hs:SmallS s):Ct Tryz.prog 26 [.agg (Zs s)] (ZxA (Xq s)):=by
 refine u26 (by simp [Zs,Zi,Zf,Zl,Zg,Zc,Zn,Za]) (by simp [ZxA,ZK,Zn,Za]) ?_;dsimp only [c26,r26,Zs,go_sem];refine call (Zem s hs) ?_;dsimp only [go_sem];by_cases ho:ZZ s=true
 case neg =>
  refine Zq (by simp [ho]) ?_;dsimp only [go_sem];refine ⟨_,rfl,?_⟩;rw [show Xq s=(⟨[],0,0⟩,0,90) from by unfold Xq;exact if_pos (by simpa using ho)];exact W7 (ZC (UN (ZC Yk XK)) XK)
 refine Zr (by simp [ho]) ?_;dsimp only [go_sem];have h:OkS s:=⟨hs,ho⟩
 have hn:=h.num;have hR:Xq s=match Zip s with | none=>(⟨[],0,0⟩,0,9) | some b=>(b.plan,b.w,0):=by unfold Xq;exact if_neg (by simp [ho])
 have hwl:=h.land;have hll:=XD h.land;have hkA:=Zmr;refine Zau (ZG (Ww [1,2,3,4,5,6] rfl) (Yg 5 1 35 rfl rfl))
  (λq:Nat × Nat × List (List Nat)=>[(6,I q.1),(5,.mr 2 q.2.1)]) (λq=>[(2,.row q.2.1 1 (q.2.2.map Wp) 35)])
  (λq=>q.1<=s.land.wells.length/\ZaR s ((List.range s.land.wells.length).drop q.1) (q.2.2.foldl (ZyI s) ⟨[],0,0,s.herd * s.sale⟩)=Zip s/\OkA s q.2.2/\q.2.2.length<=1000 * q.1) (λq=>s.land.wells.length - q.1) (0,0,[])
  ⟨Nat.zero_le _,rfl,⟨by simp,by simp,by simp⟩,by simp⟩ ?_ ?_
 . (refine Zj ?_ ?_ ?_ rfl rfl<;>dsimp only [Zf,Zl,Zg,Zi,Zc,Zn,hkA,id,go_sem]<;>simp [Zf,Zl,Zg,Zi,Zc,Zn,hkA,Za])
 rintro ⟨g,v,A⟩ ⟨hg,hi,hA,hAl⟩;simp only at hg hi hA hAl;dsimp only [go_sem];simp only [List.length_map];by_cases hlt:g < s.land.wells.length
 . refine Zq (by simpa using hlt) ?_;dsimp only [go_sem];have hwy:=Zsp s.land hs.land s.start g s.day s.till s.pace;rw [List.drop_eq_getElem_cons (by simpa using hlt),List.getElem_range,ZaR] at hi;by_cases hE:Wn s.land s.pace s.start g s.day s.till=0
   case neg =>
    simp only [ZcH,YM,if_neg hE] at hwy;refine call hwy ?_;dsimp only [go_sem];refine Zq (by simpa using hE) ?_;dsimp only [go_sem];rw [if_pos hE] at hi;rw [hR,<- hi];refine ⟨_,rfl,?_⟩;exact W7 (ZC (UN (ZC Yk XK)) XK)
   simp only [ZcH,YM,if_pos hE] at hwy;refine call hwy ?_;dsimp only [go_sem];refine Zr (by simpa using hE) ?_;dsimp only [go_sem];rw [if_neg (by simpa using hE)] at hi;have hmem:∀ a ∈ XB s.land s.pace s.start g s.day s.till,(Xr s.land s.start [s.start] (Yx a)=some (g:Int)/\X7 s (Yx a)=true)/\a.length<=24:=λa ha=>by
    have h1:=(Zgw h).1 ha;exact ⟨h1,by simpa [Yx] using (ZBH h h1.1).2⟩
   have hwlen:(XB s.land s.pace s.start g s.day s.till).length<=1000:=by
    unfold Wn at hE;split at hE
    . rename_i q;exact absurd hE q
    split at hE
    . simp at hE
    split at hE
    . simp at hE
    . rename_i q;unfold XB;omega
   generalize XB s.land s.pace s.start g s.day s.till=W at hi hmem hwlen ⊢;simp only [nbr];dsimp only [go_sem];refine ⟨by simp [YH,Za7,ZiN,Wp,ZS],by simp;omega,?_⟩;dsimp only [go_sem];rw [Zh (n:=(g:Int)+1) (by omega) (by omega),<- List.map_append];rw [ZAE λa ha=>(hmem a ha).1.1,<- List.foldl_append] at hi;have hW:OkA s W:=⟨λa ha=>by rw [(hmem a ha).1.1];rfl,λa ha=>(hmem a ha).1.2,λa ha=>(hmem a ha).2⟩
   refine ⟨(g+1,v+1,A ++ W),⟨hlt,hi,hA.app hW,by simp only [List.length_append];omega⟩,by simp only;omega,?_⟩;(refine Zj ?_ ?_ ?_ rfl rfl<;>dsimp only [Zf,Zl,Zg,Zi,Zc,Zn,Wp,ZS,ZI,id,go_sem]<;>simp [Zf,Zl,Zg,Zi,Zc,Zn,Wp,ZS,ZI,Za])
 refine Zr (by simp;omega) ?_;dsimp only [go_sem];refine gh (UB 5 2 v rfl rfl rfl rfl) ?_;dsimp only [go_sem];rw [List.drop_eq_nil_of_le (by simp;omega),ZaR] at hi;have hAl2:A.length<=1000000:=by omega
 clear hAl hg hlt hkA;obtain ⟨b0,hb0⟩:∃ b0:Bst,b0=⟨[],0,0,s.herd * s.sale⟩:=⟨_,rfl⟩
 rw [<- hb0] at hi;have hw0:0<=s.herd * s.sale/\s.herd * s.sale<=30 * 1000000:=⟨Int.mul_nonneg (by omega) (by omega),Int.mul_le_mul (by omega) (by omega) (by omega) (by decide)⟩
 rw [Zh (n:=s.herd * s.sale) (by omega) (by omega)];have hkA:=Zmr A;refine Zau (ZG (Ww [1,2,3,4,5,9,10,11] rfl) (Zd9 3 (l':=ZK ⟨[],0,0⟩) rfl (ZC Yk XK)))
  (λq:Nat × Bst=>[(11,I q.1),(10,I q.2.w)]) (λq=>[(3,.cells (ZK q.2.plan) 37)])
  (λq=>q.1<=A.length/\(A.drop q.1).foldl (ZyI s) q.2=A.foldl (ZyI s) b0/\SmB q.2) (λq=>A.length - q.1) (0,b0)
  ⟨Nat.zero_le _,rfl,by rw [hb0];exact ⟨by simp,by simp,by simp⟩⟩ ?_ ?_
 . rw [hb0];(refine Zj ?_ ?_ ?_ rfl rfl<;>dsimp only [ZK,Bst.plan,Yx,Zf,Zl,Zg,Zi,Zc,Zn,hkA,id,go_sem]<;>simp [ZK,Bst.plan,Yx,Zf,Zl,Zg,Zi,Zc,Zn,hkA,Za])
 rintro ⟨i,b⟩ ⟨hi1,hf1,hb⟩;simp only at hi1 hf1 hb;dsimp only [ZK,Bst.plan,go_sem];simp only [List.length_map];by_cases hilt:i < A.length
 case neg =>
  refine Zr (by simp;omega) ?_;dsimp only [go_sem];refine gh Yj ?_;dsimp only [go_sem];rw [List.drop_eq_nil_of_le (by omega),List.foldl_nil] at hf1;rw [hR,<- hi,<- hf1];exact ⟨_,rfl,λ_ _ _ _ _ h=>h⟩
 refine Zq (by simpa using hilt) ?_;dsimp only [go_sem];have hag:=hA.goal _ (List.getElem_mem hilt);have has:=hA.sure _ (List.getElem_mem hilt);have hal:=hA.len _ (List.getElem_mem hilt);have hrow:(A.map Wp)[i]? = some (Wp A[i]):=by simp [hilt]
 rw [List.drop_eq_getElem_cons hilt,List.foldl_cons] at hf1;refine ixs i _ rfl hrow ?_;generalize A[i]=a at hf1 hag has hal hrow ⊢;simp only [Wp,ZS,<- Zfv];dsimp only [go_sem];have hil:=Y5 a;refine call (ZuG s h (Yx a) (by omega) false) ?_;dsimp only [go_sem];refine XE [1,2,3,4,5,9,10,11,12,14] rfl (λq:Nat × Bst=>[(14,I q.1),(10,I q.2.w)]) (λq=>[(3,.cells (ZK q.2.plan) 37)])
  (λq=>q.1<=13/\((List.range 13).drop q.1).foldl (Zf3 s (toW s a) a) q.2=ZyI s b a/\SmB q.2) (λq=>13 - q.1) (0,b) ⟨Nat.zero_le _,rfl,hb⟩ ?_ ?_
 . (refine Zj ?_ ?_ ?_ rfl rfl<;>dsimp only [ZK,Bst.plan,Yx,Zf,Zl,Zg,Zi,Zc,Zn,Zw,hkA,ZI,id,go_sem]<;>simp [ZK,Bst.plan,Yx,Zf,Zl,Zg,Zi,Zc,Zn,Zw,hkA,ZI,Za])
 rintro ⟨k,b2⟩ ⟨hk1,hf2,hb2⟩;simp only at hk1 hf2 hb2;dsimp only [ZK,Bst.plan,go_sem];by_cases hk:k < 13
 case neg =>
  refine Zr (by simp;omega) ?_;dsimp only [go_sem];refine gh Yj ?_;dsimp only [go_sem];rw [List.drop_eq_nil_of_le (by simp;omega),List.foldl_nil] at hf2;rw [Zh (n:=(i:Int)+1) (by omega) (by omega)];refine ⟨(i+1,b2),⟨hilt,by simp only;rw [hf2];exact hf1,hb2⟩,by simp only;omega,?_⟩;(refine Zj ?_ ?_ ?_ rfl rfl<;>dsimp only [ZK,Bst.plan,Yx,Zf,Zl,Zg,Zi,Zc,Zn,Zw,hkA,ZI,id,go_sem]<;>simp [ZK,Bst.plan,Yx,Zf,Zl,Zg,Zi,Zc,Zn,Zw,hkA,ZI,Za])
 refine Zq (by simp;omega) ?_;dsimp only [go_sem];refine ixs i _ rfl hrow ?_;dsimp only [Wp,ZS,go_sem];have hmo:=Zye s h (Yx a) has (by omega) k ⟨by omega,by omega⟩ false;rw [Zfv] at hmo;refine call hmo ?_;have hfb:=ZdF h (a:=Yx a) (k:=(k:Int));rw [List.drop_eq_getElem_cons (by simpa using hk),List.getElem_range,List.foldl_cons] at hf2;obtain ⟨F,hF⟩:∃ F:Nat,UH s (Yx a) k=F:=⟨(UH s (Yx a) k).toNat,by omega⟩
 have hsl:Zf3 s (toW s a) a b2 k=Za8 s (toW s a) a k F b2:=by simp only [Zf3,hF,Int.toNat_natCast]
 rw [hsl] at hf2;rw [hF] at hfb ⊢;dsimp only [go_sem];refine XE [1,2,3,4,5,9,10,11,12,14,15] rfl (λq:Nat × Bst=>[(15,I q.1),(10,I q.2.w)]) (λq=>[(3,.cells (ZK q.2.plan) 37)])
  (λq=>q.1<=F/\Za8 s (toW s a) a k q.1 q.2=Za8 s (toW s a) a k F b2/\SmB q.2) (λq=>q.1) (F,b2) ⟨Nat.le_refl _,rfl,hb2⟩ ?_ ?_
 . (refine Zj ?_ ?_ ?_ rfl rfl<;>dsimp only [ZK,Bst.plan,Yx,Zf,Zl,Zg,Zi,Zc,Zn,Zw,hkA,ZI,id,go_sem]<;>simp [ZK,Bst.plan,Yx,Zf,Zl,Zg,Zi,Zc,Zn,Zw,hkA,ZI,Za])
 rintro ⟨n,b3⟩ ⟨hn1,hf3,hb3⟩;simp only at hn1 hf3 hb3;dsimp only [ZK,Bst.plan,go_sem];by_cases h0:n=0
 . subst h0;refine Zr (by simp) ?_;dsimp only [go_sem];refine gh Yj ?_;dsimp only [go_sem];rw [Za8] at hf3;rw [Zh (n:=(k:Int)+1) (by omega) (by omega)];refine ⟨(k+1,b3),⟨by simp only;omega,by simp only;rw [hf3];exact hf2,hb3⟩,by simp only;omega,?_⟩;(refine Zj ?_ ?_ ?_ rfl rfl<;>dsimp only [ZK,Bst.plan,Yx,Zf,Zl,Zg,Zi,Zc,Zn,Zw,hkA,ZI,id,go_sem]<;>simp [ZK,Bst.plan,Yx,Zf,Zl,Zg,Zi,Zc,Zn,Zw,hkA,ZI,Za])
 obtain ⟨m,rfl⟩:∃ m,n=m+1:=⟨n - 1,by omega⟩
 refine Zq (by first | (simp;done) | (simp;omega)) ?_;dsimp only [go_sem];refine ixs i _ rfl hrow ?_;dsimp only [Wp,ZS,go_sem];obtain ⟨to,hto⟩:=Option.isSome_iff_exists.1 hag;have hp:U9 s ⟨Yx a,((m+1:Nat):Int),k⟩=true:=Zgu hto ⟨by simp only;omega,by simp only;omega⟩ ⟨by simp only;omega,by simp only;omega⟩;have hcs:SmB (YR s (toW s a) a k ((m+1:Nat):Int)):=ZlQ (by omega) ⟨by omega,by omega⟩ ⟨by omega,by omega⟩
 have hwo:=ZmE s h ⟨Yx a,((m+1:Nat):Int),k⟩ hp (by first | omega | (simp only;omega));simp only [ZK,Zfv] at hwo;rw [show (Xr s.land s.start [s.start] (Yx a)).getD 0=toW s a from rfl] at hwo;refine call hwo ?_;dsimp only [go_sem];have hbo:=ZhN (YR s (toW s a) a k ((m+1:Nat):Int)) b3 hcs hb3;simp only [ZK,Bst.plan,YR,Zfv] at hbo;try simp only [Zfv]
 refine call hbo ?_;dsimp only [go_sem];rw [Za8] at hf3;rw [show (⟨a,((m+1:Nat):Int),(k:Int),ZeQ s ⟨Yx a,((m+1:Nat):Int),(k:Int)⟩ (toW s a)⟩:Bst)=YR s (toW s a) a k ((m+1:Nat):Int) from rfl];by_cases hbb:Z5 (YR s (toW s a) a k ((m+1:Nat):Int)) b3=true
 . refine Zq (by simpa using hbb) ?_;dsimp only [go_sem];rw [ZfQ,if_pos hbb] at hf3;rw [Zh (n:=(((m+1:Nat):Int)) - 1) (by omega) (by omega),show (((m+1:Nat):Int)) - 1=(m:Int) from by omega];refine ⟨(m,YR s (toW s a) a k ((m+1:Nat):Int)),⟨by simp only;omega,hf3,hcs⟩,by simp only;omega,?_⟩;(refine Zj ?_ ?_ ?_ rfl rfl<;>dsimp only [ZK,Bst.plan,YR,Zf,Zl,Zg,Zi,Zc,Zn,Zw,hkA,Zfv,ZI,id,go_sem]<;>simp [ZK,Bst.plan,YR,Zf,Zl,Zg,Zi,Zc,Zn,Zw,hkA,Zfv,ZI,Za])
 . refine Zr (by simpa using hbb) ?_;dsimp only [go_sem];rw [ZfQ,if_neg hbb] at hf3;rw [Zh (n:=(((m+1:Nat):Int)) - 1) (by omega) (by omega),show (((m+1:Nat):Int)) - 1=(m:Int) from by omega];refine ⟨(m,b3),⟨by simp only;omega,hf3,hb3⟩,by simp only;omega,?_⟩;(refine Zj ?_ ?_ ?_ rfl rfl<;>dsimp only [ZK,Bst.plan,Yx,Zf,Zl,Zg,Zi,Zc,Zn,Zw,hkA,ZI,id,go_sem]<;>simp [ZK,Bst.plan,Yx,Zf,Zl,Zg,Zi,Zc,Zn,Zw,hkA,ZI,Za])
theorem Zoe (s:Season) (hs:SmallS s):Ct Tryz.prog 27 [.agg (Zs s)] (.tup [I (Uo s).1,I (Uo s).2]):=by
 refine t27.1 (by simp [Zs,Zi,Zf,Zl,Zg,Zc,Zn,Za]) (by simp) ?_;dsimp only [c27,r27,Zs,go_sem];refine call (Zez s hs) ?_;dsimp only [go_sem];by_cases ho:ZZ s=true
 case neg =>
  refine Zq (by simp [ho]) ?_;dsimp only [go_sem];simp [Uo,ho]
 refine Zr (by simp [ho]) ?_;dsimp only [go_sem];have h:OkS s:=⟨hs,ho⟩
 have hn:=h.num;have hst:=h.start;have hs4:=h.scs;have hbr:=Cm.breed_bd h.beast.1;have hE:Xb s.land s.pace s.start s.day=0:=Zfw.2 ⟨h.land,h.pace,by simp only [inR,decide_eq_true_eq];omega,by simp only [inR,decide_eq_true_eq];omega⟩;have hre:=Zek s.land hs.land s.start s.day s.pace;rw [hE] at hre;simp only [YM,if_true] at hre;refine call hre ?_;dsimp only [go_sem];refine ZcV (by omega) ?_;dsimp only [go_sem]
 have hk0:=YY (a:=s.breed.strong.lo) (A:=1000000) (d:=s.slab) (by omega) (by omega) (by omega);rw [Zh (n:=s.breed.strong.lo.tdiv s.slab) (by omega) (by omega)];have hB:Uo s=(ZeR s,0):=by rw [Uo,if_neg (by simp [ho])]
 rw [hB];unfold ZeR;obtain ⟨k,hk⟩:∃ k,k=min 12 (s.breed.strong.lo.tdiv s.slab):=⟨_,rfl⟩
 rw [<- hk];have hk1:0<=k/\k<=12:=by omega
 simp only [List.length_map];have hRl:(Xl s.land s.pace s.start s.day).length=s.land.wells.length:=X5;generalize Xl s.land s.pace s.start s.day=Rr at hRl ⊢;obtain ⟨W,hW⟩:∃ W,W=s.scenes.map (λx=>s.herd * Za9 s x k Rr 0 s.sale):=⟨_,rfl⟩
 have hWl:W.length=s.scenes.length:=by rw [hW];simp
 rw [<- hW];have hwl:=h.land;simp only [ZX,inR,Bool.and_eq_true,decide_eq_true_eq] at hwl;refine Zau (ZG (Ww [1,5,7,8,40,41,42] rfl) (Yg 8 1 3 rfl rfl)) (λq:Nat × Nat=>[(42,I q.1),(8,.mr 1 q.2)])
  (λq=>[(1,.row q.2 1 ((W.take q.1).map Zn) 3)]) (λq=>q.1<=s.scenes.length) (λq=>s.scenes.length - q.1) (0,0) (Nat.zero_le _) ?_ ?_
 . (refine Zj ?_ ?_ ?_ rfl rfl<;>dsimp only [Zf,Zl,Zg,Zi,Zc,Zn,Yp,id,go_sem]<;>simp [Zf,Zl,Zg,Zi,Zc,Zn,Yp,Za])
 rintro ⟨j,v⟩ hj;simp only at hj;dsimp only [go_sem];by_cases hlt:j < s.scenes.length
 case neg =>
  refine Zr (by simp;omega) ?_;dsimp only [go_sem];rw [List.take_of_length_le (by omega)];refine gh (UB 8 1 v rfl rfl rfl rfl) ?_;dsimp only [go_sem];refine call (Zlv W (by omega) (by omega) _) ?_;dsimp only [go_sem]
 refine Zq (by simpa using hlt) ?_;dsimp only [go_sem];refine Zo j hlt rfl ?_;dsimp only [Zi,go_sem];simp only [List.length_map];refine XE [1,5,7,8,10,11,40,41,42,48,49,50] rfl (λq:Nat × Int=>[(50,I q.1),(11,I q.2)]) (λ_=>[])
  (λq=>q.1<=Rr.length/\Za9 s s.scenes[j] k (Rr.drop q.1) q.1 q.2=Za9 s s.scenes[j] k Rr 0 s.sale/\0<=q.2/\q.2<=12000000) (λq=>Rr.length - q.1) (0,s.sale) ⟨Nat.zero_le _,rfl,by simp only;omega,by simp only;omega⟩ ?_ ?_
 . (refine Zj ?_ ?_ ?_ rfl rfl<;>dsimp only [Zf,Zl,Zg,Zi,Zc,Zn,Yp,id,go_sem]<;>simp [Zf,Zl,Zg,Zi,Zc,Zn,Yp,Za])
 rintro ⟨i,e⟩ ⟨hi0,hi1,he0,he1⟩;simp only at hi0 hi1 he0 he1;dsimp only [go_sem];by_cases hilt:i < Rr.length
 case neg =>
  refine Zr (by simp;omega) ?_;dsimp only [go_sem];rw [List.drop_eq_nil_of_le (by omega),Za9] at hi1;refine gh Yj ?_;dsimp only [go_sem];have hm:0<=s.herd * e/\s.herd * e<=30 * 12000000:=⟨Int.mul_nonneg (by omega) he0,Int.mul_le_mul (by omega) he1 he0 (by decide)⟩
  rw [Zh (n:=s.herd * e) (by omega) (by omega)];simp only [nbr];dsimp only [go_sem];refine ⟨(by intro c hc;simp only [List.mem_singleton] at hc;subst hc;rfl),by simp;omega,?_⟩;dsimp only [go_sem];refine gh Yj ?_;dsimp only [go_sem];rw [Zh (n:=(j:Int)+1) (by omega) (by omega)];refine ⟨(j+1,v+1),hlt,by simp only;omega,?_⟩;simp only;have hWj:s.herd * e=W[j]'(by omega):=by simp [hW,hi1]
  rw [hWj,List.take_succ_eq_append_getElem (by omega)];simp only [List.map_append,List.map_cons,List.map_nil];(refine Zj ?_ ?_ ?_ rfl rfl<;>dsimp only [Zf,Zl,Zg,Zi,Zc,Zn,Yp,id,go_sem]<;>simp [Zf,Zl,Zg,Zi,Zc,Zn,Yp,Za])
 refine Zq (by simpa using hilt) ?_;dsimp only [go_sem];refine Zo i hilt rfl ?_;dsimp only [Zc,go_sem];rw [List.drop_eq_getElem_cons hilt,Za9] at hi1;have hnext:IntKind.i64.wrap ((i:Int)+1)=((i+1:Nat):Int):=by rw [Zh (by omega) (by omega)];omega
 by_cases hr:Rr[i].hi<=s.till
 . refine Zq (by simpa using hr) ?_;dsimp only [go_sem];obtain ⟨hq,hpr⟩:=Zab h hlt (m:=i) (by omega);refine Zo i hq rfl ?_;dsimp only [Zn,go_sem];have hpp:=Zfz (A:=k) (B:=12) (d:=s.scenes[j].prices[i] - s.cost) (M:=1000000) hk1.1 hk1.2 (by decide) (by omega);rw [Zh (n:=s.scenes[j].prices[i] - s.cost) (by omega) (by omega),Zh (n:=k * (s.scenes[j].prices[i] - s.cost)) (by omega) (by omega),hnext];rw [if_pos hr,List.getElem?_eq_getElem hq,Option.getD_some] at hi1
   refine ⟨(i+1,max e (k * (s.scenes[j].prices[i] - s.cost))),⟨hilt,hi1,by simp only;omega,by simp only;omega⟩,by simp only;omega,?_⟩;(refine Zj ?_ ?_ ?_ rfl rfl<;>dsimp only [Zf,Zl,Zg,Zi,Zc,Zn,Yp,id,go_sem]<;>simp [Zf,Zl,Zg,Zi,Zc,Zn,Yp,Za])
 . refine Zr (by simpa using hr) ?_;dsimp only [go_sem];rw [hnext];rw [if_neg hr] at hi1;refine ⟨(i+1,e),⟨hilt,hi1,he0,he1⟩,by simp only;omega,?_⟩;(refine Zj ?_ ?_ ?_ rfl rfl<;>dsimp only [Zf,Zl,Zg,Zi,Zc,Zn,Yp,id,go_sem]<;>simp [Zf,Zl,Zg,Zi,Zc,Zn,Yp,Za])
theorem Zm3 (s:Season) (hs:SmallS s):Ct Tryz.prog 28 [.agg (Zs s)] (.tup [I (Uo s).1,I (Uo s).2]):=by
 refine t28.1 (by simp [Zs,Zi,Zf,Zl,Zg,Zc,Zn,Za]) (by simp) ?_;dsimp only [c28,r28,Zs,go_sem];refine call (Zem s hs) ?_;dsimp only [go_sem];by_cases ho:ZZ s=true
 case neg =>
  refine Zq (by simp [ho]) ?_;dsimp only [go_sem];simp [Uo,ho]
 refine Zr (by simp [ho]) ?_;dsimp only [go_sem];have h:OkS s:=⟨hs,ho⟩
 have hn:=h.num;have hst:=h.start;have hs4:=h.scs;have hbr:=Cm.breed_bd h.beast.1;have hE:Xb s.land s.pace s.start s.day=0:=Zfw.2 ⟨h.land,h.pace,by simp only [inR,decide_eq_true_eq];omega,by simp only [inR,decide_eq_true_eq];omega⟩;have hre:=ZlP s.land hs.land s.start s.day s.pace;rw [hE] at hre;simp only [YM,if_true] at hre;refine call hre ?_;dsimp only [go_sem];refine ZcV (by omega) ?_;dsimp only [go_sem]
 have hk0:=YY (a:=s.breed.strong.lo) (A:=1000000) (d:=s.slab) (by omega) (by omega) (by omega);rw [Zh (n:=s.breed.strong.lo.tdiv s.slab) (by omega) (by omega)];have hB:Uo s=(ZeR s,0):=by rw [Uo,if_neg (by simp [ho])]
 rw [hB];unfold ZeR;obtain ⟨k,hk⟩:∃ k,k=min 12 (s.breed.strong.lo.tdiv s.slab):=⟨_,rfl⟩
 rw [<- hk];have hk1:0<=k/\k<=12:=by omega
 try simp only [List.length_map]
 have hRl:(Xl s.land s.pace s.start s.day).length=s.land.wells.length:=X5;generalize Xl s.land s.pace s.start s.day=Rr at hRl ⊢;obtain ⟨W,hW⟩:∃ W,W=s.scenes.map (λx=>s.herd * Za9 s x k Rr 0 s.sale):=⟨_,rfl⟩
 have hWl:W.length=s.scenes.length:=by rw [hW];simp
 rw [<- hW];have hwl:=h.land;simp only [ZX,inR,Bool.and_eq_true,decide_eq_true_eq] at hwl;refine XE [1,4,6,7,8] rfl (λq:Nat × Int=>[(8,I q.1),(7,I q.2)])
  (λq=>[]) (λq=>q.1<=s.scenes.length/\q.2=Zbj (W.take q.1)) (λq=>s.scenes.length - q.1) (0,0) ⟨Nat.zero_le _,rfl⟩ ?_ ?_
 . (refine Zj ?_ ?_ ?_ rfl rfl<;>dsimp only [Zf,Zl,Zg,Zi,Zc,Zn,id,go_sem]<;>simp [Zf,Zl,Zg,Zi,Zc,Zn,Za])
 rintro ⟨j,v⟩ ⟨hj,hv⟩;simp only at hj hv;dsimp only [go_sem];try simp only [List.length_map]
 by_cases hlt:j < s.scenes.length
 case neg =>
  refine Zr (by simp;omega) ?_;dsimp only [go_sem];rw [List.take_of_length_le (by omega)] at hv;rw [hv]
 refine Zq (by simpa using hlt) ?_;dsimp only [go_sem];try simp only [List.length_map]
 refine XE [1,4,6,7,8,9,10] rfl (λq:Nat × Int=>[(10,I q.1),(9,I q.2)]) (λ_=>[])
  (λq=>q.1<=Rr.length/\Za9 s s.scenes[j] k (Rr.drop q.1) q.1 q.2=Za9 s s.scenes[j] k Rr 0 s.sale/\0<=q.2/\q.2<=12000000) (λq=>Rr.length - q.1) (0,s.sale) ⟨Nat.zero_le _,rfl,by simp only;omega,by simp only;omega⟩ ?_ ?_
 . (refine Zj ?_ ?_ ?_ rfl rfl<;>dsimp only [Zf,Zl,Zg,Zi,Zc,Zn,id,go_sem]<;>simp [Zf,Zl,Zg,Zi,Zc,Zn,Za])
 rintro ⟨i,e⟩ ⟨hi0,hi1,he0,he1⟩;simp only at hi0 hi1 he0 he1;dsimp only [go_sem];try simp only [List.length_map]
 by_cases hilt:i < Rr.length
 case neg =>
  refine Zr (by simp;omega) ?_;dsimp only [go_sem];rw [List.drop_eq_nil_of_le (by omega),Za9] at hi1;have hm:0<=s.herd * e/\s.herd * e<=30 * 12000000:=⟨Int.mul_nonneg (by omega) he0,Int.mul_le_mul (by omega) he1 he0 (by decide)⟩
  rw [Zh (n:=s.herd * e) (by omega) (by omega)];have hWj:W[j]'(by omega)=s.herd * e:=by simp [hW,hi1]
  have htk:W.take (j+1)=W.take j ++ [s.herd * e]:=by rw [List.take_succ_eq_append_getElem (by omega),hWj]
  by_cases hj0:j=0
  . subst hj0;repeat (refine UG (by decide) ?_;dsimp only [go_sem])
    refine Zq (by decide) ?_;dsimp only [go_sem];refine ⟨(0+1,s.herd * e),⟨hlt,by simp only;rw [htk];simp [Zbj]⟩,by simp only;omega,?_⟩;have hw1:IntKind.i64.wrap 1=1:=by decide
    (refine Zj ?_ ?_ ?_ rfl rfl<;>dsimp only [Zf,Zl,Zg,Zi,Zc,Zn,hw1,id,go_sem]<;>simp [Zf,Zl,Zg,Zi,Zc,Zn,hw1,Za])
  have g:((j:Int) == 0)=false:=by simp;omega
  simp only [g];repeat (refine YT rfl ?_;dsimp only [go_sem])
  have hmn:Zbj (W.take (j+1))=min v (s.herd * e):=by rw [htk,Zcx (ZfT hj0 (by omega)),<- hv]
  by_cases hle:s.herd * e < v
  . refine Zq (by simpa using hle) ?_;dsimp only [go_sem];rw [Zh (n:=(j:Int)+1) (by omega) (by omega)];refine ⟨(j+1,s.herd * e),⟨hlt,by simp only;rw [hmn];omega⟩,by simp only;omega,?_⟩;(refine Zj ?_ ?_ ?_ rfl rfl<;>dsimp only [Zf,Zl,Zg,Zi,Zc,Zn,id,go_sem]<;>simp [Zf,Zl,Zg,Zi,Zc,Zn,Za])
  . refine Zr (by simpa using hle) ?_;dsimp only [go_sem];rw [Zh (n:=(j:Int)+1) (by omega) (by omega)];refine ⟨(j+1,v),⟨hlt,by simp only;rw [hmn];omega⟩,by simp only;omega,?_⟩;(refine Zj ?_ ?_ ?_ rfl rfl<;>dsimp only [Zf,Zl,Zg,Zi,Zc,Zn,id,go_sem]<;>simp [Zf,Zl,Zg,Zi,Zc,Zn,Za])
 refine Zq (by simpa using hilt) ?_;dsimp only [go_sem];refine Zo i hilt rfl ?_;dsimp only [Zc,go_sem];rw [List.drop_eq_getElem_cons hilt,Za9] at hi1;have hnext:IntKind.i64.wrap ((i:Int)+1)=((i+1:Nat):Int):=by rw [Zh (by omega) (by omega)];omega
 by_cases hr:Rr[i].hi<=s.till
 . refine Zq (by simpa using hr) ?_;dsimp only [go_sem];refine Zo j hlt rfl ?_;dsimp only [Zi,go_sem];obtain ⟨hq,hpr⟩:=Zab h hlt (m:=i) (by omega);refine Zo i hq rfl ?_;dsimp only [Zn,go_sem];have hpp:=Zfz (A:=k) (B:=12) (d:=s.scenes[j].prices[i] - s.cost) (M:=1000000) hk1.1 hk1.2 (by decide) (by omega);rw [Zh (n:=s.scenes[j].prices[i] - s.cost) (by omega) (by omega),Zh (n:=k * (s.scenes[j].prices[i] - s.cost)) (by omega) (by omega),hnext]
   rw [if_pos hr,List.getElem?_eq_getElem hq,Option.getD_some] at hi1;refine ⟨(i+1,max e (k * (s.scenes[j].prices[i] - s.cost))),⟨hilt,hi1,by simp only;omega,by simp only;omega⟩,by simp only;omega,?_⟩;(refine Zj ?_ ?_ ?_ rfl rfl<;>dsimp only [Zf,Zl,Zg,Zi,Zc,Zn,id,go_sem]<;>simp [Zf,Zl,Zg,Zi,Zc,Zn,Za])
 . refine Zr (by simpa using hr) ?_;dsimp only [go_sem];rw [hnext];rw [if_neg hr] at hi1;refine ⟨(i+1,e),⟨hilt,hi1,he0,he1⟩,by simp only;omega,?_⟩;(refine Zj ?_ ?_ ?_ rfl rfl<;>dsimp only [Zf,Zl,Zg,Zi,Zc,Zn,id,go_sem]<;>simp [Zf,Zl,Zg,Zi,Zc,Zn,Za])
end Go.Proofs.YtiigiflofnjilaaGreat
