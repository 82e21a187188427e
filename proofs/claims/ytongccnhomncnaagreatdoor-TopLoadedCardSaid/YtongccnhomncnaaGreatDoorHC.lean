/- Walks and plain laws that lead to the given statement, part 3 of 20. -/
import Derived.Test.YtongccnhomncnaaGreatDoorHB
set_option linter.all false
open Nat renaming beq_refl->nbr
namespace Go.Sx
open Go Go.RowKit
variable {Y:Hd}
def ZpB:Option (Nat × HB)->Lh->Lh
 | none,hp=>hp
 | some q,hp=>q :: hp
def Zul:Option (Nat × HB)->(Nat->Prop)->Nat->Prop
 | none,n=>n
 | some q,n=>λk=>n k\/k=q.1
def rdX:X->List Nat
 | .t t=>[t]
 | _=>[]
def Wh (io:Ins):List Nat :=
 (opX io.i).flatMap rdX ++ (match io.g with | some (j,_)=>[j] | none=>[])
def DynS (P:Program) (os:Array Oper) (o:Oper) (io:Ins) (fr:Lf) (hp0:Lh) (ko:Option (Nat × HB)):Prop :=
 ∀ C E hpX nX a w (next:Act->World->Prop) (Q:Exit->Act->World->Prop),ZoM hp0 hpX->HSim C E hpX nX w->(∀ q,ko=some q->¬ nX q.1) ->
  (∀ t ∈ Wh io,FR w E nX (okS C E hpX) fr (lk t fr) (a.tmps.getD t undef)) ->
  (∀ E' w' y,(∀ k,nX k->Ele E E' k k)->HSim C E' (ZpB ko hpX) (Zul ko nX) w'->ZM w w' (okS C E hpX) (okS C E' (ZpB ko hpX)) ->
   (∀ t,io.d=some t->FR w' E' (Zul ko nX) (okS C E' (ZpB ko hpX)) fr (lk t fr) y)->next (a.put o.dst y) w') ->
  if Region.wanted o (yielded os a.tmps) then o.wpq C.rd P a w next Q else next (a.put o.dst undef) w
section
variable {P:Program} {C:Cx} {E:Env} {hp hpX:Lh} {n:Nat->Prop} {w w':World} {a:Act}
def C2 (C:Cx) (E:Env) (hpX:Lh) (w:World) (hg:GS w (okS C E hpX)):Cx:=⟨w,okS C E hpX,λ_ b=>GT b=none,C.ds,C.rd,E,0,hg,λg l hg _ h=>by rw [hg] at h;cases h⟩
theorem ZgY (hx:ZoM hp hpX) (hh:HSim C E hpX n w) (b:Nat):okS (C2 C E hpX w (Zy hh)) E hp b↔okS C E hpX b:=by
 constructor
 . rintro ⟨h1 | h1,h2⟩
   . exact h1
   . exact WV hh h1
 . intro h;refine ⟨.inl h,λk ho=>?_⟩;rcases hx k with hk | hk | ⟨φ,hk,hi⟩
   . rw [hk] at ho;exact ho
   . rw [<- hk] at ho;exact h.2 k ho
   . rw [hk] at ho;exact h.2 k ((hi.1 E k b).2 ho)
theorem ZvU (hx:ZoM hp hpX) (hh:HSim C E hpX n w):HSim (C2 C E hpX w (Zy hh)) E hp n w:=by
 have hoc:∀ k b,occ E k (lkh k hp) b->occ E k (lkh k hpX) b:=λk b ho=>by
  rcases hx k with hk | hk | ⟨φ,hk,hi⟩
  . rw [hk] at ho;exact ho.elim
  . rw [hk];exact ho
  . rw [hk] at ho;exact (hi.1 E k b).2 ho
 refine ⟨λk hk=>?_,λk=>?_,λk k' b h1 h2=>hh.dj k k' b (hoc k b h1) (hoc k' b h2),λk b ho=>.inr (by
  show GT b=none;cases hq:GT b with
  | none=>rfl
  | some l=>exact absurd (hoc k b ho) (Vn hh hq k)),⟨rfl,rfl,rfl,Nat.le_refl _,λ_ _ _=>rfl⟩,λk hk=>absurd hk (Nat.not_lt_zero k)⟩
 . rcases hx k with h | h | ⟨φ,h,hi⟩
   . exact h
   . rw [<- h];exact hh.kn k hk
   . exfalso;have:=(hi.1 E k (E.β k)).2 rfl;rw [hh.kn k hk] at this;exact this
 . rcases hx k with h | h | ⟨φ,h,hi⟩
   . rw [h];trivial
   . rw [<- h];refine YU (λb hb _=>⟨(ZgY hx hh b).2 hb,rfl⟩) (λ_ _=>Ele.rfl) (λ_ h=>h) ?_ (λ_ _=>rfl) rfl (hh.bk k);rcases Classical.em (n k) with hk | hk
     . exact .inr hk
     . exact .inl (hh.kn k hk)
   . rw [h];refine YU (λb hb _=>⟨(ZgY hx hh b).2 hb,rfl⟩) (λ_ _=>Ele.rfl) (λ_ h=>h) ?_ (λ_ _=>rfl) rfl (hi.2 _ _ _ _ _ (hh.bk k));rcases Classical.em (n k) with hk | hk
     . exact .inr hk
     . exfalso;have:=(hi.1 E k (E.β k)).2 rfl;rw [hh.kn k hk] at this;exact this
theorem ZDc {ok ok':Nat->Prop} (h:∀ b,ok b↔ok' b) {s:SV} {y:Value}:R w E n ok s y↔R w E n ok' s y:=by
 rw [show ok=ok' from funext λb=>propext (h b)]
theorem ZjE {o:Oper} {i:SI} {g:Option (Nat × Bool)} {σ : St} {s:SV} (hG:ZuO P o i g σ s) (hx:ZoM σ.hp hpX) (hh:HSim C E hpX n w)
 (hρ : ∀ p ∈ opG g i,geP p.1 σ.fr->R w E n (okS C E hpX) (rdG p.1 σ.fr p.2) (evX a p.2)) (hg:geP g σ.fr):Yld P o a w (Zz C E hpX n w s):=by
 refine Zpi (hG (C2 C E hpX w (Zy hh)) E n a w (ZvU hx hh) (λp hp hg=>(ZDc (ZgY hx hh)).2 (hρ p hp hg)) hg) λy w' ⟨h1,h2⟩=>⟨(ZDc (ZgY hx hh)).1 h1,h2⟩
end
def isV:SI->Bool
 | .st _ _ _=>false
 | .raw _ _=>false
 | .box _ _ _=>false
 | .alloc _ _=>false
 | .cln _ _ _ _ _=>false
 | .appm _ _ _ _ _=>false
 | .cpy _ _ _=>false
 | .mks _ _ _ _ _=>false
 | .isn _=>false
 | .callm _ _=>false
 | .calvm _ _=>false
 | .rb _ _ _=>false
 | _=>true
def gsOK (σ : St):Prop:=∀ t j b s,lk t σ.fr = .gd j b s->j ∈ σ.gs
def ZBc (P:Program) (os:Array Oper) (o:Oper) (io:Ins) (fr fr1:Lf) (hp0:Lh) (ko:Option (Nat × HB)):Prop :=
 ∀ C E hpX nX a w (next:Act->World->Prop) (Q:Exit->Act->World->Prop),ZoM hp0 hpX->HSim C E hpX nX w->(∀ q,ko=some q->¬ nX q.1) ->
  (∀ t ∈ Wh io,FR w E nX (okS C E hpX) fr (lk t fr) (a.tmps.getD t undef)) ->
  (∀ E' w' y,(∀ k,nX k->Ele E E' k k)->HSim C E' (ZpB ko hpX) (Zul ko nX) w'->ZM w w' (okS C E hpX) (okS C E' (ZpB ko hpX)) ->
   (∀ t,io.d=some t->FR w' E' (Zul ko nX) (okS C E' (ZpB ko hpX)) fr1 (lk t fr1) y)->next (a.put o.dst y) w') ->
  if Region.wanted o (yielded os a.tmps) then o.wpq C.rd P a w next Q else next (a.put o.dst undef) w
def bas:Option (Nat × HB)->Lh->Lh
 | none,hp=>hp
 | some _,_=>[]
structure SStep (P:Program) (os:Array Oper) (o:Oper) (io:Ins) (σ σ1:St) (ko:Option (Nat × HB)):Prop where
 hp:σ1.hp=ZpB ko σ.hp
 n:(ko=none/\σ1.n = σ.n)\/∃ hb,ko=some (σ.n,hb)/\σ1.n = σ.n+1
 N:σ1.N = σ.N
 gs:∀ j ∈ σ.gs,j ∈ σ1.gs
 gsOK:gsOK σ1
 fr:(io.d=none/\σ1.fr = σ.fr)\/∃ t s,io.d=some t/\t ∉ σ1.gs/\t < σ.N/\σ1.fr=(t,s) :: σ.fr
 dyn:ZBc P os o io σ.fr σ1.fr (bas ko σ.hp) ko
section
variable {P:Program} {os:Array Oper} {o:Oper} {io:Ins} {σ : St} {r:KT} {K:RK}
theorem Wm {w:World} {E:Env} {n ok:Nat->Prop} {fr:Lf} {a:Act} {g:Option (Nat × Bool)} {x:X} (hG:GS w ok) (h:∀ t ∈ rdX x,FR w E n ok fr (lk t fr) (a.tmps.getD t undef)) (hg:geP g fr):R w E n ok (rdG g fr x) (evX a x):=by
 cases x with
 | t t=>exact Wq (h t (by simp [rdX])) hg
 | c x=>exact Wq (fr:=fr) (s:=.v x) (show R w E n ok (.v x) x by simp [R]) hg
 | f i=>exact Wq (fr:=fr) (s:=.cl i []) (show R w E n ok (.cl i []) _ by simp [R,RL,evX]) hg
 | g i=>exact Wq (ZBT hG i) hg
theorem Zkq {g:Option (Nat × Bool)} {i:SI} {p:Option (Nat × Bool) × X} (h:p ∈ opG g i):p.2 ∈ opX i:=by
 cases i<;>simp only [opG] at h<;>try (obtain ⟨x,h1,rfl⟩:=List.mem_map.1 h;exact h1)
 rename_i c x y;split at h<;>simp at h
 . rcases h with rfl | rfl | rfl<;>simp [opX]
 . subst h;simp [opX]
theorem Zaa {d:Option Nat} {s:SV} (h:YE d s none σ r K):(d=none/\r σ K)\/∃ t,d=some t/\t ∉ σ.gs/\t < σ.N/\gdS s=false/\r ⟨(t,s) :: σ.fr,σ.hp,σ.n,σ.N,σ.gs⟩ K:=by
 cases d with
 | none=>exact .inl ⟨rfl,h⟩
 | some t =>
  refine .inr ⟨t,rfl,?_⟩;simp only [YE] at h;cases hm:Xw t σ.gs<;>cases hN:Nat.blt t σ.N<;>cases hs:gdS s<;>rw [hm,hN,hs] at h<;>first | exact h.elim | skip
  exact ⟨λhh=>(by rw [ZU.2 hh] at hm;cases hm),by simpa [Nat.blt_eq] using hN,rfl,h⟩
theorem Zp6 {d:Option Nat} {s:SV} {j:Nat} {b:Bool} (h:YE d s (some (j,b)) σ r K):∃ t,d=some t/\t ∉ σ.gs/\t < σ.N/\t≠j/\r ⟨(t,.gd j b s) :: σ.fr,σ.hp,σ.n,σ.N,j :: σ.gs⟩ K:=by
 cases d with
 | none=>exact h.elim
 | some t =>
  refine ⟨t,rfl,?_⟩;simp only [YE] at h;cases hm:Xw t σ.gs<;>cases hN:Nat.blt t σ.N<;>cases hj:Nat.beq t j<;>rw [hm,hN,hj] at h<;>first | exact h.elim | skip
  exact ⟨λhh=>(by rw [ZU.2 hh] at hm;cases hm),by simpa [Nat.blt_eq] using hN,λe=>(by subst e;rw [nbr] at hj;cases hj),h⟩
theorem VX {t:Nat} {s:SV} (h:gsOK σ) (hs:∀ j b u,s≠.gd j b u) (hp:Lh) (n:Nat):gsOK ⟨(t,s) :: σ.fr,hp,n,σ.N,σ.gs⟩:=by
 intro u j b v hu;simp only [ZN] at hu;split at hu
 . exact absurd hu (hs _ _ _)
 . exact h u j b v hu
theorem Zna {t j:Nat} {b:Bool} {s:SV} (h:gsOK σ):gsOK ⟨(t,.gd j b s) :: σ.fr,σ.hp,σ.n,σ.N,j :: σ.gs⟩:=by
 intro u j' b' v hu;simp only [ZN] at hu;split at hu
 . cases hu;simp
 . simp [h u j' b' v hu]
theorem Zeg {d:Option Nat} {i:SI} {s:SV} (hgs:gsOK σ) (hdo:io.d=o.dst) (hd:io.d=d) (hi:io.i=i) (hp:YE d s none σ r K) (hG:ZuO P o i none σ s)
 (hw:∀ (a:Act) w E n ok,(∀ t ∈ Wh io,FR w E n ok σ.fr (lk t σ.fr) (a.tmps.getD t undef))->Region.wanted o (yielded os a.tmps)=true):∃ σ1,r σ1 K/\SStep P os o io σ σ1 none:=by
 have key:∀ C E hpX nX a w (next:Act->World->Prop) (Q:Exit->Act->World->Prop),ZoM σ.hp hpX->HSim C E hpX nX w ->
  (∀ t ∈ Wh io,FR w E nX (okS C E hpX) σ.fr (lk t σ.fr) (a.tmps.getD t undef)) ->
  (∀ w' y,HSim C E hpX nX w'->Below w.heap.size w w'->R w' E nX (okS C E hpX) s y->next (a.put o.dst y) w')->if Region.wanted o (yielded os a.tmps) then o.wpq C.rd P a w next Q else next (a.put o.dst undef) w:=by
  intro C E hpX nX a w next Q hx hh hr hn;rw [if_pos (hw a w E nX _ hr)];refine ZjE hG hx hh (λp hp' hg=>Wm (Zy hh) (λt ht=>hr t ?_) hg) trivial _ next Q λy w' ⟨h1,h2⟩=>hn w' y (Xz hh h2) h2 h1;simp only [Wh,List.mem_append,List.mem_flatMap];exact .inl ⟨_,by rw [hi];exact Zkq hp',ht⟩
 rcases Zaa hp with ⟨rfl,h⟩ | ⟨t,rfl,h1,h2,h4,h3⟩
 . exact ⟨σ,h,⟨rfl,.inl ⟨rfl,rfl⟩,rfl,λ_ h=>h,hgs,.inl ⟨hd,rfl⟩,λC E hpX nX a w next Q hx hh _ hr hn=>key C E hpX nX a w next Q hx hh hr λw' y k1 k2 k3 =>
    hn E w' y (λ_ _=>Ele.rfl) k1 (Yd k2) (λt ht=>by rw [hd] at ht;cases ht)⟩⟩
 . have hs:=Zkl h4
   refine ⟨_,h3,⟨rfl,.inl ⟨rfl,rfl⟩,rfl,λ_ h=>h,VX hgs hs _ _,.inr ⟨t,s,hd,h1,h2,rfl⟩,λC E hpX nX a w next Q hx hh _ hr hn=>key C E hpX nX a w next Q hx hh hr λw' y k1 k2 k3 =>
    hn E w' y (λ_ _=>Ele.rfl) k1 (Yd k2) (λu hu=>?_)⟩⟩
   rw [hd] at hu;cases hu;simp only [ZN,if_true,Zul,ZpB];cases s<;>first | exact k3 | exact absurd rfl (hs _ _ _)
theorem Zda (hgs:gsOK σ) (hdo:io.d=o.dst) (hp:YE io.d (.v undef) none σ r K)
 (hw:∀ (a:Act) w E n ok,(∀ t ∈ Wh io,FR w E n ok σ.fr (lk t σ.fr) (a.tmps.getD t undef))->Region.wanted o (yielded os a.tmps)=false):∃ σ1,r σ1 K/\SStep P os o io σ σ1 none:=by
 rcases Zaa hp with ⟨hd,h⟩ | ⟨t,hd,h1,h2,h4,h3⟩
 . refine ⟨σ,h,⟨rfl,.inl ⟨rfl,rfl⟩,rfl,λ_ h=>h,hgs,.inl ⟨hd,rfl⟩,λC E hpX nX a w next Q hx hh _ hr hn=>?_⟩⟩;rw [if_neg (by rw [hw a w E nX _ hr];simp)];exact hn E w undef (λ_ _=>Ele.rfl) hh (Yd (Below.refl _ _)) (λt ht=>by rw [hd] at ht;cases ht)
 . refine ⟨_,h3,⟨rfl,.inl ⟨rfl,rfl⟩,rfl,λ_ h=>h,VX hgs (λ_ _ _ e=>by cases e) _ _,.inr ⟨t,_,hd,h1,h2,rfl⟩,λC E hpX nX a w next Q hx hh _ hr hn=>?_⟩⟩;rw [if_neg (by rw [hw a w E nX _ hr];simp)];refine hn E w undef (λ_ _=>Ele.rfl) hh (Yd (Below.refl _ _)) (λu hu=>?_);rw [hd] at hu;cases hu;simp only [ZN,if_true];exact (by simp [R]:R w E nX (okS C E hpX) (.v undef) undef)
theorem ZbK {fr:Lf} {w:World} {E:Env} {n ok:Nat->Prop} {a:Act} {j:Nat} {wt:Bool}
 (hgd:∃ j',o.guard=some (j',wt)/\(os[j']?).bind (·.dst)=some j) (hFR:FR w E n ok fr (lk j fr) (a.tmps.getD j undef))
 (hb:(∃ b,lk j fr = .v (.bool b))\/∃ j' b' b,lk j fr = .gd j' b' (.v (.bool b))):Region.wanted o (yielded os a.tmps)=true↔ge fr j wt:=by
 obtain ⟨j',h2,hdst⟩:=hgd;simp only [Region.wanted,h2,yielded,hdst,Option.bind_some];rcases hb with ⟨b,hb⟩ | ⟨j0,b0,b,hb⟩
 . rw [hb] at hFR;have hv:a.tmps.getD j undef = .bool b:=hFR;have hv':a.tmps[j]? = some (.bool b):=by
    cases hq:a.tmps[j]?<;>simp [hq] at hv
    . cases hv
    . exact congrArg some hv
   simp only [hv',beq_iff_eq,Option.some.injEq];exact ⟨λe=>.base (by rw [hb,e]),λe=>ZDr e hb⟩
 . rw [hb] at hFR;obtain ⟨f1,f2⟩:=hFR;by_cases hge:ge fr j0 b0
   . have hv:a.tmps.getD j undef = .bool b:=by have:=f1 hge;simpa only [R] using this
     have hv':a.tmps[j]? = some (.bool b):=by
      cases hq:a.tmps[j]?<;>simp [hq] at hv
      . cases hv
      . exact congrArg some hv
     simp only [hv',beq_iff_eq,Option.some.injEq];exact ⟨λe=>.step (by rw [hb,e]) hge,λe=>by have:=(Zi0 e hb).2;simpa using this⟩
   . have hv:=f2 hge;have hv':a.tmps[j]? = none\/a.tmps[j]? = some undef:=by
      cases hq:a.tmps[j]?<;>simp [hq] at hv
      . exact .inl rfl
      . exact .inr (congrArg some hv)
     constructor
     . intro e;rcases hv' with hv' | hv'<;>simp [hv',undef] at e
     . intro e;exact absurd (Zi0 e hb).1 hge
theorem Zcq {s:SV} {j:Nat} {wt:Bool} (hgs:gsOK σ) (hdo:io.d=o.dst) (hg:io.g=some (j,wt)) (hp:YE io.d s (some (j,wt)) σ r K) (hG:ZuO P o io.i (some (j,wt)) σ s)
 (hgd:∃ j',o.guard=some (j',wt)/\(os[j']?).bind (·.dst)=some j) (hb:(∃ b,lk j σ.fr = .v (.bool b))\/∃ j' b' b,lk j σ.fr = .gd j' b' (.v (.bool b))):∃ σ1,r σ1 K/\SStep P os o io σ σ1 none:=by
 obtain ⟨t,hd,h1,h2,h5,h3⟩:=Zp6 hp;have htg:t ∉ j :: σ.gs:=by simp [h5,h1]
 refine ⟨_,h3,⟨rfl,.inl ⟨rfl,rfl⟩,rfl,λk hk=>by simp [hk],Zna hgs,.inr ⟨t,_,hd,htg,h2,rfl⟩,λC E hpX nX a w next Q hx hh _ hr hn=>?_⟩⟩;have hwant:=ZbK (os:=os) (o:=o) (fr:=σ.fr) (w:=w) (E:=E) (n:=nX) (ok:=okS C E hpX) (a:=a) hgd (hr j (by simp [Wh,hg])) hb;have hge:∀ b,ge ((t,.gd j wt s) :: σ.fr) j b↔ge σ.fr j b:=λb=>Zbz (gs:=j :: σ.gs) (λu j' b' v hu=>by simp [hgs u j' b' v hu]) htg (by simp)
 split
 . rename_i hw;have hg1:=hwant.1 hw;refine ZjE hG hx hh (λp hp' hg'=>Wm (Zy hh) (λt ht=>hr t ?_) hg') hg1 _ next Q λy w' ⟨k1,k2⟩=>hn E w' y (λ_ _=>Ele.rfl) (Xz hh k2) (Yd k2) (λu hu=>?_)
   . simp only [Wh,List.mem_append,List.mem_flatMap];exact .inl ⟨_,Zkq hp',ht⟩
   . rw [hd] at hu;cases hu;simp only [ZN,if_true];exact ⟨λ_=>k1,λhh=>absurd ((hge wt).2 hg1) hh⟩
 . rename_i hw;have hg1:¬ ge σ.fr j wt:=λh=>hw (hwant.2 h);refine hn E w undef (λ_ _=>Ele.rfl) hh (Yd (Below.refl _ _)) (λu hu=>?_);rw [hd] at hu;cases hu;simp only [ZN,if_true];exact ⟨λh=>absurd ((hge wt).1 h) hg1,λ_=>rfl⟩
theorem Zc2 {j:Nat} {wt:Bool} (hc:VN P os io o=true) (hg:io.g=some (j,wt)):∃ j',o.guard=some (j',wt)/\(os[j']?).bind (·.dst)=some j:=by
 simp only [VN,Bool.and_eq_true,decide_eq_true_eq] at hc;have h3:=hc.2;rw [hg] at h3;cases hq:o.guard with
 | none=>rw [hq] at h3;cases h3
 | some q =>
  obtain ⟨j',w'⟩:=q;rw [hq] at h3;simp only [Bool.and_eq_true,beq_iff_eq] at h3;obtain ⟨rfl,h3⟩:=h3;refine ⟨j',rfl,?_⟩;split at h3
  . rename_i t' ht';simp at h3;subst h3;exact ht'
  . cases h3
theorem VD (hc:VN P os io o=true) (hg:io.g=none):o.guard=none:=by
 simp only [VN,Bool.and_eq_true,decide_eq_true_eq] at hc;have h3:=hc.2;rw [hg] at h3;cases hq:o.guard<;>simp [hq] at h3 ⊢
def ZAa:SI->Bool
 | .rv _ _=>true
 | _=>false
theorem ZCh {i:SI} (hv:isV i=true) (hr:ZAa i=false) (h:Zog P i o=true):ZT P i o.op=true:=by
 cases i<;>first | exact h | (simp [isV] at hv;done) | (simp [ZAa] at hr;done)
theorem ZB4 {i:SI} {d:Option Nat} (hv:isV i=true) (hr:ZAa i=false) (h:stp P Y d i σ r K):Yw P none d i σ r K:=by
 cases i<;>first | exact h | (simp [isV] at hv;done) | (simp [ZAa] at hr;done)
theorem Zha {d:Option Nat} {op:Op} {xs:List X} {s:SV} (hgs:gsOK σ) (hdo:io.d=o.dst) (hd:io.d=d) (hi:io.i = .rv op xs) (hop:o.op=op) (hp:YE d s none σ r K) (hG:RBE P op xs σ s)
 (hw:∀ (a:Act) w E n ok,(∀ t ∈ Wh io,FR w E n ok σ.fr (lk t σ.fr) (a.tmps.getD t undef))->Region.wanted o (yielded os a.tmps)=true):∃ σ1,r σ1 K/\SStep P os o io σ σ1 none:=by
 have key:∀ C E hpX nX a w (next:Act->World->Prop) (Q:Exit->Act->World->Prop),ZoM σ.hp hpX->HSim C E hpX nX w ->
  (∀ t ∈ Wh io,FR w E nX (okS C E hpX) σ.fr (lk t σ.fr) (a.tmps.getD t undef)) ->
  (∀ w' y,HSim C E hpX nX w'->ZM w w' (okS C E hpX) (okS C E hpX)->R w' E nX (okS C E hpX) s y->next (a.put o.dst y) w')->if Region.wanted o (yielded os a.tmps) then o.wpq C.rd P a w next Q else next (a.put o.dst undef) w:=by
  intro C E hpX nX a w next Q hx hh hr hn;rw [if_pos (hw a w E nX _ hr)];refine hG o hop C E hpX nX a w next Q hx hh (λx hx'=>Wm (Zy hh) (λt ht=>hr t ?_) trivial) hn;simp only [Wh,List.mem_append,List.mem_flatMap];exact .inl ⟨x,by rw [hi];exact hx',ht⟩
 rcases Zaa hp with ⟨rfl,h⟩ | ⟨t,rfl,h1,h2,h4,h3⟩
 . exact ⟨σ,h,⟨rfl,.inl ⟨rfl,rfl⟩,rfl,λ_ h=>h,hgs,.inl ⟨hd,rfl⟩,λC E hpX nX a w next Q hx hh _ hr hn=>key C E hpX nX a w next Q hx hh hr λw' y k1 k2 k3 =>
    hn E w' y (λ_ _=>Ele.rfl) k1 k2 (λt ht=>by rw [hd] at ht;cases ht)⟩⟩
 . have hs:=Zkl h4
   refine ⟨_,h3,⟨rfl,.inl ⟨rfl,rfl⟩,rfl,λ_ h=>h,VX hgs hs _ _,.inr ⟨t,s,hd,h1,h2,rfl⟩,λC E hpX nX a w next Q hx hh _ hr hn=>key C E hpX nX a w next Q hx hh hr λw' y k1 k2 k3 =>
    hn E w' y (λ_ _=>Ele.rfl) k1 k2 (λu hu=>?_)⟩⟩
   rw [hd] at hu;cases hu;simp only [ZN,if_true,Zul,ZpB];cases s<;>first | exact k3 | exact absurd rfl (hs _ _ _)
theorem Zve {i:SI} (h:ZAa i=true):∃ op xs,i = .rv op xs:=by
 cases i<;>first | exact ⟨_,_,rfl⟩ | (simp [ZAa] at h)
theorem ZmR (hc:VN P os io o=true) (hv:isV io.i=true) (hgs:gsOK σ) (h:st1 P Y io σ r K):∃ σ1,r σ1 K/\SStep P os o io σ σ1 none:=by
 have hc':=hc;simp only [VN,Bool.and_eq_true,decide_eq_true_eq] at hc';obtain ⟨⟨hd,hci⟩,_⟩:=hc';cases hrv:ZAa io.i
 case true =>
  obtain ⟨d,i,g,af⟩:=io;obtain ⟨op,xs,rfl⟩:=Zve hrv;have hop:o.op=op:=(W0 hci).symm;rcases g with _ | ⟨j,wt⟩
  . simp only [st1] at h;obtain ⟨s,h1,h2⟩:=h;have hg:=VD hc rfl;exact Zha hgs hd rfl rfl hop h2 h1 (λa w E n ok _=>by simp [Region.wanted,hg])
  . simp only [st1,gK] at h;have hg:=Zc2 (j:=j) (wt:=wt) hc rfl;split at h
    . rename_i b hb;have hw:∀ (a:Act) w E n ok,(∀ t ∈ Wh ⟨d,.rv op xs,some (j,wt),af⟩,FR w E n ok σ.fr (lk t σ.fr) (a.tmps.getD t undef))->(Region.wanted o (yielded os a.tmps)=true↔ge σ.fr j wt):=λa w E n ok hr =>
       ZbK hg (hr j (by simp [Wh])) (.inl ⟨b,hb⟩)
      rcases h with ⟨rfl,h⟩ | ⟨hne,h⟩ | h
      . obtain ⟨s,h1,h2⟩:=h;exact Zha hgs hd rfl rfl hop h2 h1 (λa w E n ok hr=>(hw a w E n ok hr).2 (.base hb))
      . refine Zda hgs hd h (λa w E n ok hr=>?_);rw [Bool.eq_false_iff];intro hh;exact hne (ZDr ((hw a w E n ok hr).1 hh) hb)
      . exact False.elim h
    . exact False.elim h
    . cases h
 have hci:=ZCh hv hrv hci;obtain ⟨d,i,g,af⟩:=io;rcases g with _ | ⟨j,wt⟩
 . simp only [st1] at h;obtain ⟨s,h1,h2⟩:=X2 hci (ZB4 hv hrv h);have hg:=VD hc rfl;exact Zeg hgs hd rfl rfl h1 h2 (λa w E n ok _=>by simp [Region.wanted,hg])
 . simp only [st1,gK] at h;have hg:=Zc2 (j:=j) (wt:=wt) hc rfl;split at h
   . rename_i b hb;have hw:∀ (a:Act) w E n ok,(∀ t ∈ Wh ⟨d,i,some (j,wt),af⟩,FR w E n ok σ.fr (lk t σ.fr) (a.tmps.getD t undef))->(Region.wanted o (yielded os a.tmps)=true↔ge σ.fr j wt):=λa w E n ok hr =>
      ZbK hg (hr j (by simp [Wh])) (.inl ⟨b,hb⟩)
     rcases h with ⟨rfl,h⟩ | ⟨hne,h⟩ | h
     . obtain ⟨s,h1,h2⟩:=X2 hci (ZB4 hv hrv h);exact Zeg hgs hd rfl rfl h1 h2 (λa w E n ok hr=>(hw a w E n ok hr).2 (.base hb))
     . refine Zda hgs hd h (λa w E n ok hr=>?_);rw [Bool.eq_false_iff];intro hh;exact hne (ZDr ((hw a w E n ok hr).1 hh) hb)
     . obtain ⟨s,h1,h2⟩:=X2 hci h;exact Zcq hgs hd rfl h1 h2 hg (.inl ⟨b,hb⟩)
   . rename_i j' b' b hb;obtain ⟨s,h1,h2⟩:=X2 hci h;exact Zcq hgs hd rfl h1 h2 hg (.inr ⟨j',b',b,hb⟩)
   . cases h
def isM (io:Ins):Bool :=
 match io.g with
 | some _=>false
 | none=>match io.i with
  | .mv _=>true
  | .addo _ _=>true
  | .ext _ _=>true
  | _=>false
theorem ZC5 (hc:VN P os io o=true) (hm:isM io=true) (hgs:gsOK σ) (h:st1 P Y io σ r K):∃ σ1,r σ1 K/\σ1.hp = σ.hp/\σ1.n = σ.n/\σ1.N = σ.N/\(∀ j ∈ σ.gs,j ∈ σ1.gs)/\gsOK σ1 /\
 ((io.d=none/\σ1.fr = σ.fr)\/∃ t s,io.d=some t/\t ∉ σ1.gs/\t < σ.N/\σ1.fr=(t,s) :: σ.fr)/\ZBc P os o io σ.fr σ1.fr [] none:=by
 obtain ⟨d,i,g,af⟩:=io;cases g with
 | some q=>simp [isM] at hm
 | none =>
  cases i<;>try (simp [isM] at hm;done)
  case addo x q =>
   have h0:st1 P Y ⟨d,.addo x q,none,af⟩ ⟨σ.fr,[],σ.n,σ.N,σ.gs⟩ (λσ' K=>r ⟨σ'.fr,σ.hp,σ'.n,σ'.N,σ'.gs⟩ K) K:=by
    simp only [st1,stp,Yw] at h ⊢;cases hao:U2 q (rdG none σ.fr x) with
    | none=>rw [hao] at h;exact h.elim
    | some s =>
     rw [hao] at h;simp only [WC] at h ⊢;cases d with
     | none=>exact h
     | some t =>
      simp only [YE] at h ⊢;cases hm:Xw t σ.gs<;>cases hN:Nat.blt t σ.N<;>cases hs:gdS s<;>rw [hm,hN,hs] at h<;>first | exact h.elim | exact h
   obtain ⟨σ1,h1,S⟩:=ZmR (σ:=⟨σ.fr,[],σ.n,σ.N,σ.gs⟩) hc rfl hgs h0;have hn:σ1.n = σ.n:=by
    rcases S.n with ⟨_,h⟩ | ⟨_,h,_⟩
    . exact h
    . cases h
   exact ⟨⟨σ1.fr,σ.hp,σ1.n,σ1.N,σ1.gs⟩,h1,rfl,hn,S.N,S.gs,S.gsOK,S.fr,S.dyn⟩
  case ext x q =>
   have h0:st1 P Y ⟨d,.ext x q,none,af⟩ ⟨σ.fr,[],σ.n,σ.N,σ.gs⟩ (λσ' K=>r ⟨σ'.fr,σ.hp,σ'.n,σ'.N,σ'.gs⟩ K) K:=by
    simp only [st1,stp,Yw] at h ⊢;cases hao:pv (rdG none σ.fr) (.ext x q) with
    | none=>rw [hao] at h;exact h.elim
    | some s =>
     rw [hao] at h;simp only [WC] at h ⊢;cases d with
     | none=>exact h
     | some t =>
      simp only [YE] at h ⊢;cases hm:Xw t σ.gs<;>cases hN:Nat.blt t σ.N<;>cases hs:gdS s<;>rw [hm,hN,hs] at h<;>first | exact h.elim | exact h
   obtain ⟨σ1,h1,S⟩:=ZmR (σ:=⟨σ.fr,[],σ.n,σ.N,σ.gs⟩) hc rfl hgs h0;have hn:σ1.n = σ.n:=by
    rcases S.n with ⟨_,h⟩ | ⟨_,h,_⟩
    . exact h
    . cases h
   exact ⟨⟨σ1.fr,σ.hp,σ1.n,σ1.N,σ1.gs⟩,h1,rfl,hn,S.N,S.gs,S.gsOK,S.fr,S.dyn⟩
  rename_i x;have h0:st1 P Y ⟨d,.mv x,none,af⟩ ⟨σ.fr,[],σ.n,σ.N,σ.gs⟩ (λσ' K=>r ⟨σ'.fr,σ.hp,σ'.n,σ'.N,σ'.gs⟩ K) K:=by
   simp only [st1,stp,Yw] at h ⊢;cases d with
   | none=>exact h
   | some t =>
    simp only [YE] at h ⊢;cases hm:Xw t σ.gs<;>cases hN:Nat.blt t σ.N<;>cases hs:gdS (rdG none σ.fr x)<;>rw [hm,hN,hs] at h<;>first | exact h.elim | exact h
  obtain ⟨σ1,h1,S⟩:=ZmR (σ:=⟨σ.fr,[],σ.n,σ.N,σ.gs⟩) hc rfl hgs h0;have hn:σ1.n = σ.n:=by
   rcases S.n with ⟨_,h⟩ | ⟨_,h,_⟩
   . exact h
   . cases h
  exact ⟨⟨σ1.fr,σ.hp,σ1.n,σ1.N,σ1.gs⟩,h1,rfl,hn,S.N,S.gs,S.gsOK,S.fr,S.dyn⟩
def isA (io:Ins):Bool :=
 match io.g with
 | some _=>false
 | none=>match io.i with
  | .box _ _ _=>true
  | .alloc _ _=>true
  | .cln _ _ _ _ _=>true
  | .mks _ _ _ _ _=>true
  | _=>false
theorem Zy9 {d:Option Nat} {m:Nat} {xs:Rr} {T:TypeId} (h:Zsg d m xs T σ r K):∃ t,d=some t/\t ∉ σ.gs/\t < σ.N/\r ⟨(t,.mr σ.n 0) :: σ.fr,(σ.n,.row 0 m xs T) :: σ.hp,σ.n+1,σ.N,σ.gs⟩ K:=by
 unfold Zsg at h;split at h
 . rename_i t;refine ⟨t,rfl,?_⟩;cases hm:Xw t σ.gs<;>cases hN:Nat.blt t σ.N<;>rw [hm,hN] at h<;>first | exact h.elim | skip
   exact ⟨λhh=>(by rw [ZU.2 hh] at hm;cases hm),by simpa [Nat.blt_eq] using hN,h⟩
 . exact h.elim
theorem Zxu {d:Option Nat} {c:Option Ls} {T:TypeId} (h:Zjj d c T σ r K):∃ t l,d=some t/\c=some l/\t ∉ σ.gs/\t < σ.N/\r ⟨(t,.p σ.n 0) :: σ.fr,(σ.n,.cells l T) :: σ.hp,σ.n+1,σ.N,σ.gs⟩ K:=by
 unfold Zjj at h;split at h
 . rename_i t l;refine ⟨t,l,rfl,rfl,?_⟩;cases hm:Xw t σ.gs<;>cases hN:Nat.blt t σ.N<;>rw [hm,hN] at h<;>first | exact h.elim | skip
   exact ⟨λhh=>(by rw [ZU.2 hh] at hm;cases hm),by simpa [Nat.blt_eq] using hN,h⟩
 . exact h.elim
theorem astep (hc:VN P os io o=true) (ha:isA io=true) (hgs:gsOK σ) (h:st1 P Y io σ r K):∃ σ1 hb,r σ1 K/\SStep P os o io σ σ1 (some (σ.n,hb))/\∀ t,io.d=some t->lk t σ1.fr = .p σ.n 0\/lk t σ1.fr = .mr σ.n 0:=by
 have hc':=hc;simp only [VN,Bool.and_eq_true,decide_eq_true_eq] at hc';obtain ⟨⟨hd,hci⟩,_⟩:=hc';obtain ⟨d,i,g,af⟩:=io;cases g with
 | some q=>simp [isA] at ha
 | none =>
  have hgn:=VD hc rfl;simp only [st1] at h
  have fin:∀ (c:Option Ls) (T:TypeId),Zjj d c T σ r K->(∀ (C:Cx) (E:Env) hpX nX (a:Act) (w:World) (l:Ls),c=some l->HSim C E hpX nX w->(∀ t ∈ Wh ⟨d,i,none,af⟩,FR w E nX (okS C E hpX) σ.fr (lk t σ.fr) (a.tmps.getD t undef)) ->
   ∃ cs:Array Value,(execOp a.eval o).run P w = .ok (.value (.pointer (some ⟨w.heap.size,0,none⟩))) (w.alloc (.cells cs T))/\RL w E nX (okS C E hpX) l cs.toList) ->
   ∃ σ1 hb,r σ1 K/\SStep P os o ⟨d,i,none,af⟩ σ σ1 (some (σ.n,hb))/\∀ t,d=some t->lk t σ1.fr = .p σ.n 0\/lk t σ1.fr = .mr σ.n 0:=by
   intro c T hn hrun;obtain ⟨t,l,h1,h2,h3,h4,h5⟩:=Zxu hn;refine ⟨_,.cells l T,h5,⟨rfl,.inr ⟨_,rfl,rfl⟩,rfl,λ_ h=>h,VX hgs (λ_ _ _ e=>by cases e) _ _,.inr ⟨t,_,h1,h3,h4,rfl⟩,λC E hpX nX a w next Q hx hh hq hr hn=>?_⟩,λu hu=>by rw [h1] at hu;cases hu;simp [ZN]⟩;rw [if_pos (by simp [Region.wanted,hgn])];obtain ⟨cs,e1,e2⟩:=hrun C E hpX nX a w l h2 hh hr;obtain ⟨E',k1,k2,k3,k4⟩:=Zgu (T:=T) hh (hq _ rfl) e2
   refine ZC e1 (by simp) ?_;refine hn E' _ _ k1 k3 k4 (λu hu=>?_);simp only at hu;rw [h1] at hu;cases hu;simp only [ZN,if_true,Zul];simp [FR,R,k2]
  have finr:∀ (m:Nat) (xs:Rr) (T:TypeId),Zsg d m xs T σ r K->(∀ (C:Cx) (E:Env) hpX nX (a:Act) (w:World),HSim C E hpX nX w->(∀ t ∈ Wh ⟨d,i,none,af⟩,FR w E nX (okS C E hpX) σ.fr (lk t σ.fr) (a.tmps.getD t undef)) ->
   ∃ v w',(execOp a.eval o).run P w = .ok (.value v) w'/\Below w.heap.size w w'/\ZD3 C E hpX nX w w' m xs T v) ->
   ∃ σ1 hb,r σ1 K/\SStep P os o ⟨d,i,none,af⟩ σ σ1 (some (σ.n,hb))/\∀ t,d=some t->lk t σ1.fr = .p σ.n 0\/lk t σ1.fr = .mr σ.n 0:=by
   intro m xs T hn hrun;obtain ⟨t,h1,h3,h4,h5⟩:=Zy9 hn;refine ⟨_,.row 0 m xs T,h5,⟨rfl,.inr ⟨_,rfl,rfl⟩,rfl,λ_ h=>h,VX hgs (λ_ _ _ e=>by cases e) _ _,.inr ⟨t,_,h1,h3,h4,rfl⟩,λC E hpX nX a w next Q hx hh hq hr hn=>?_⟩,λu hu=>by rw [h1] at hu;cases hu;simp [ZN]⟩;rw [if_pos (by simp [Region.wanted,hgn])];obtain ⟨v,w',e1,e2,e3⟩:=hrun C E hpX nX a w hh hr;obtain ⟨E',k1,k2,k2',k3,k4⟩:=XA (T:=T) hh (hq _ rfl) e2 e3
   refine ZC e1 (by simp) ?_;refine hn E' _ _ k1 k3 k4 (λu hu=>?_);simp only at hu;rw [h1] at hu;cases hu;simp only [ZN,if_true,Zul];simp only [FR,R,k2,k2'];refine ⟨by simp,by omega,trivial,?_⟩;rcases e3 with ⟨_,a0,rfl⟩ | ⟨cap,cs,rfl,_⟩<;>rfl
  cases i<;>try (simp [isA] at ha;done)
  case cln m b T x y _ =>
   simp only [stp,ZuN] at h;split at h
   case h_2=>cases h
   case h_3=>cases h
   case h_4=>cases h
   rename_i ys hxs hys;obtain ⟨hlim,h⟩:=h;refine finr _ _ _ h λC E hpX nX a w hh hr=>?_;exact ZmM hci (Wm (fr:=σ.fr) (g:=none) (x:=x) (Zy hh) (λt ht=>hr t (by simp [Wh,opX,ht])) trivial) (Wm (fr:=σ.fr) (g:=none) (x:=y) (Zy hh) (λt ht=>hr t (by simp [Wh,opX,ht])) trivial) hxs hys hlim
  case mks m b z T x _ =>
   simp only [stp,ZBf] at h;split at h
   case h_2=>cases h
   rename_i kd n hx;obtain ⟨k,rfl,hlim,h⟩:=h;refine finr _ _ _ h λC E hpX nX a w hh hr=>?_;have hRx:=Wm (fr:=σ.fr) (g:=none) (x:=x) (Zy hh) (λt ht=>hr t (by simp [Wh,opX,ht])) trivial;rw [hx] at hRx;simp only [R] at hRx;exact Zf5 hci hRx hlim
  case box x m T _ =>
   refine fin _ _ h λC E hpX nX a w l hl hh hr=>?_;obtain ⟨dst,op,ty,pos,after,guard⟩:=o;simp only [Zog] at hci;cases op<;>simp [ZT] at hci
   obtain ⟨rfl,hx⟩:=hci;have hR:=Wm (fr:=σ.fr) (g:=none) (x:=x) (Zy hh) (λt ht=>hr t (by simp [Wh,opX,ht])) trivial;exact ⟨_,by simp [execOp,Zh hx a,Instr.box,newVar,newRow],Zac hR hl⟩
  case alloc z T _ =>
   refine fin _ _ h λC E hpX nX a w l hl hh hr=>?_;obtain ⟨dst,op,ty,pos,after,guard⟩:=o;simp only [Zog] at hci;cases op<;>simp [ZT] at hci
   obtain ⟨rfl,hz⟩:=hci;split at hz
   . rename_i zv hzv;have hzl:=WO hz;simp only [Option.some.injEq] at hl;subst hl;exact ⟨zv.cells,by simp [execOp,Instr.alloc,Sem.run_bind,WN hzv,newVar,newRow],by rw [hzl,ZcS];exact ZDj z⟩
   . cases hz
end
abbrev It:=Nat × Ins × Oper
def Zic (listed:Array Bool) (all:List It):Prop :=
 ∀ x ∈ all,listed.getD x.1 false=true->∀ e ∈ x.2.2.after,Region.binds .any e=true->listed.getD e.on false=true
def PrL (listed:Array Bool) (x:It):Prop:=∀ e ∈ x.2.2.after,Region.binds .any e=true->listed.getD e.on false=true
def W7 (all:List It) (y:It) (j:Nat):Prop:=∀ listed:Array Bool,Zic listed all->PrL listed y->listed.getD j false=true
def TOk (sz:Nat) (all R:List It):List It->Prop
 | []=>True
 | x :: T=>(∀ e ∈ x.2.2.after,Region.binds .any e=true->e.on < sz/\e.on ∉ (x :: (T ++ R)).map (·.1))/\(∀ y ∈ T ++ R,W7 all y x.1)/\TOk sz all R T
section
variable {P:Program} {os:Array Oper} {K:RK} {C:Cx} {Q:Exit->Act->World->Prop}
theorem XV {listed:Array Bool} {i j:Nat} (hi:i < listed.size):(listed.setIfInBounds i true).getD j false=if j=i then true else listed.getD j false:=by
 by_cases h:j=i
 . subst h;simp [hi]
 . simp [h,Ne.symm h]
theorem ZgZ {listed:Array Bool} {all:List It} {x:It} (hx:x ∈ all) (hos:∀ y ∈ all,os[y.1]? = some y.2.2) (hi:x.1 < listed.size) (hd:Zic listed all) (hp:PrL listed x):Zic (listed.setIfInBounds x.1 true) all:=by
 intro y hy hl e he hb;rw [XV hi] at hl ⊢;split
 . rfl
 . split at hl
   . rename_i h;have:y.2.2=x.2.2:=by
      have h1:=hos y hy;have h2:=hos x hx;rw [h] at h1;rw [h1] at h2;exact Option.some.inj h2
     rw [this] at he;exact hp e he hb
   . exact hd y hy hl e he hb
theorem Zuh (hY:Zdg P C Y) {all R:List It} (hos:∀ y ∈ all,os[y.1]? = some y.2.2) (hco:∀ y ∈ all,VN P os y.2.1 y.2.2=true)
 (hend:∀ (listed:Array Bool) (σ : St) E a w,K .n σ->listed.size=os.size->(∀ j,j < os.size->(listed.getD j false=false↔j ∈ R.map (·.1)))->Zic listed all->Sim C E σ a w->ZhF C.rd P .any os Q R.length listed a w)
 (hpan:∀ s σ' E a w y,K (.pan s) σ'->Sim C E σ' a w->Go.Sx.R w E (ltn σ'.n) (okS C E σ'.hp) s y->Q (.panic [{ v:=y,recovered:=false }]) a w) (hR:∀ x ∈ R,x ∈ all) :
 ∀ (T:List It) (listed:Array Bool) (σ : St) E a w,listed.size=os.size->(∀ j,j < os.size->(listed.getD j false=false↔j ∈ (T ++ R).map (·.1)))->Zic listed all->TOk os.size all R T->(∀ x ∈ T,x ∈ all)->((T ++ R).map (·.1)).Nodup ->
  rx P Y (T.map (·.2.1)) σ K->Sim C E σ a w->ZhF C.rd P .any os Q (T ++ R).length listed a w
 | [],listed,σ,E,a,w,hsz,hun,hd,hT,hall,hnd,hr,hs=>hend listed σ E a w hr hsz hun hd hs
 | x :: T,listed,σ,E,a,w,hsz,hun,hd,hT,hall,hnd,hr,hs=>by
  obtain ⟨t1,t2,t3⟩:=hT;have hxa:=hall x (List.mem_cons_self ..);have hox:=hos x hxa;have hlt:x.1 < os.size:=(Array.getElem?_eq_some_iff.1 hox).1;have hpx:PrL listed x:=λe he hb=>by
   obtain ⟨q1,q2⟩:=t1 e he hb;cases hq:listed.getD e.on false
   . exact absurd ((hun _ q1).1 hq) q2
   . rfl
  have hgd:∀ j,j < os.size->listed.getD j true=listed.getD j false:=λj hj=>by simp [Array.getD,hsz,hj]
  have hux:listed.getD x.1 false=false:=(hun _ hlt).2 (by simp);have hallR:∀ y ∈ T ++ R,y ∈ all:=λy hy=>(List.mem_append.1 hy).elim (λh=>hall y (by simp [h])) (hR y);have hready:x.1 ∈ Region.ready .any os listed:=mem_ready.2 ⟨by rw [hgd _ hlt];exact hux,x.2.2,hox,hpx⟩;refine ⟨λh=>by rw [h] at hready;simp at hready,λi hi=>?_⟩;obtain ⟨h1,o,h2,h3⟩:=mem_ready.1 hi;have hilt:i < os.size:=(Array.getElem?_eq_some_iff.1 h2).1
  rw [hgd _ hilt] at h1;have hiT:=(hun i hilt).1 h1;have hix:i=x.1:=by
   rw [List.cons_append,List.map_cons,List.mem_cons] at hiT;rcases hiT with h | h
   . exact h
   . obtain ⟨y,hy,rfl⟩:=List.mem_map.1 h;have hoy:=hos y (hallR y hy);rw [hoy] at h2;cases h2;have:=t2 y hy listed hd h3;rw [hux] at this;cases this
  subst hix;unfold Zo2;rw [hox];simp only;have hx2:x.1 < listed.size:=by rw [hsz];exact hlt
  have hnd':=hnd;rw [List.cons_append,List.map_cons,List.nodup_cons] at hnd'
  have key:=Zcs (next:=ZhF C.rd P .any os Q (T ++ R).length (listed.setIfInBounds x.1 true)) (Q:=Q) (hco x hxa) (show st1 P Y x.2.1 σ (rx P Y (T.map (·.2.1))) K from hr) hs (λσ' E' a' w' k1 k2 =>
   Zuh hY hos hco hend hpan hR T (listed.setIfInBounds x.1 true) σ' E' a' w' (by simp [hsz]) (λj hj=>by
    rw [XV hx2];by_cases hjx:j=x.1
    . simp only [if_pos hjx];subst hjx;exact ⟨λh=>(by cases h),λh=>absurd h hnd'.1⟩
    . rw [if_neg hjx,hun j hj,List.cons_append,List.map_cons,List.mem_cons]
      exact ⟨λh=>h.resolve_left hjx,.inr⟩) (ZgZ hxa hos hx2 hd hpx) t3 (λy hy=>hall y (by simp [hy])) hnd'.2 k1 k2) (λs σ' E' w' y h1 h2 h3=>hpan s σ' E' a w' y h1 h2 h3) hY
  exact key
end
inductive Kd where
 | v (hp:Lh)
 | a (k:Nat) (hb:HB)
 | b (k:Nat) (h0 h1:HB)
def Kd.pre (hpX:Lh) (nX:Nat->Prop):Kd->Prop
 | .v hp=>ZoM hp hpX
 | .a k _=>¬ nX k
 | .b k h0 _=>lkh k hpX=h0
def Kd.eff (hpX:Lh):Kd->Lh
 | .v _=>hpX
 | .a k hb=>(k,hb) :: hpX
 | .b k _ hb=>(k,hb) :: hpX
def Kd.neff (nX:Nat->Prop):Kd->(Nat->Prop)
 | .v _=>nX
 | .a k _=>λj=>nX j\/j=k
 | .b _ _ _=>nX
def Kd.key:Kd->Option Nat
 | .v _=>none
 | .a k _=>some k
 | .b k _ _=>some k
def Kd.upd (f:Nat->HB):Kd->(Nat->HB)
 | .v _=>f
 | .a k hb=>λj=>if j=k then hb else f j
 | .b k _ hb=>λj=>if j=k then hb else f j
def Zjs (P:Program) (os:Array Oper) (o:Oper) (io:Ins) (fr fr1:Lf) (kd:Kd):Prop :=
 ∀ C E hpX nX a w (next:Act->World->Prop) (Q:Exit->Act->World->Prop),kd.pre hpX nX->HSim C E hpX nX w ->
  (∀ t ∈ Wh io,FR w E nX (okS C E hpX) fr (lk t fr) (a.tmps.getD t undef)) ->
  (∀ E' w' y,(∀ k,nX k->Ele E E' k k)->HSim C E' (kd.eff hpX) (kd.neff nX) w'->ZM w w' (okS C E hpX) (okS C E' (kd.eff hpX)) ->
   (∀ t,io.d=some t->FR w' E' (kd.neff nX) (okS C E' (kd.eff hpX)) fr1 (lk t fr1) y)->next (a.put o.dst y) w') ->
  if Region.wanted o (yielded os a.tmps) then o.wpq C.rd P a w next Q else next (a.put o.dst undef) w
theorem ZlY {P:Program} {os:Array Oper} {o:Oper} {io:Ins} {fr fr1:Lf} {hp:Lh} (h:ZBc P os o io fr fr1 hp none):Zjs P os o io fr fr1 (.v hp) :=
 λC E hpX nX a w next Q h1 h2 h3 h4=>h C E hpX nX a w next Q h1 h2 (λq hq=>by cases hq) h3 h4
theorem ZDO {P:Program} {os:Array Oper} {o:Oper} {io:Ins} {fr fr1:Lf} {k:Nat} {hb:HB} (h:ZBc P os o io fr fr1 [] (some (k,hb))):Zjs P os o io fr fr1 (.a k hb) :=
 λC E hpX nX a w next Q h1 h2 h3 h4=>h C E hpX nX a w next Q (λ_=>.inl rfl) h2 (λq hq=>by cases hq;exact h1) h3 h4
def isB (io:Ins):Bool :=
 match io.d,io.g,io.i with
 | none,none,.st _ _ _=>true
 | some _,none,.appm _ _ _ _ _=>true
 | _,none,.cpy _ _ _=>true
 | some _,none,.rb _ _ _=>true
 | _,_,_=>false
def Zat (io:Ins):Bool :=
 match io.i with
 | .rb _ _ _=>true
 | _=>false
def bX (io:Ins):X :=
 match io.i with
 | .st x _ _=>x
 | .appm _ _ _ x _=>x
 | .cpy _ x _=>x
 | .rb _ x _=>x
 | _=>.t 0
def Zbm:SV->Option Nat
 | .p k _=>some k
 | .pr k _ _ _ _=>some k
 | .ms k _ _ _ _=>some k
 | .mr k _=>some k
 | .mp k=>some k
 | _=>none
section
variable {P:Program} {os:Array Oper} {o:Oper} {io:Ins} {σ : St} {r:KT} {K:RK}
theorem ZB0 (hc:VN P os io o=true) (hb:isB io=true) (hrb:Zat io=false) (h:st1 P Y io σ r K):∃ k hb' fr1,Zbm (rdG none σ.fr (bX io))=some k/\r ⟨fr1,(k,hb') :: σ.hp,σ.n,σ.N,σ.gs⟩ K /\
 ((io.d=none/\fr1 = σ.fr)\/∃ t s,io.d=some t/\t ∉ σ.gs/\t < σ.N/\(∀ j b u,s≠.gd j b u)/\fr1=(t,s) :: σ.fr)/\Zjs P os o io σ.fr fr1 (.b k (lkh k σ.hp) hb'):=by
 have hgo:=λhg=>VD (io:=io) hc hg;have hc':=hc;simp only [VN,Bool.and_eq_true,decide_eq_true_eq] at hc';obtain ⟨⟨hd,hci⟩,_⟩:=hc';obtain ⟨d,i,g,af⟩:=io;unfold isB at hb;split at hb
 . rename_i x y m e1 e2 e3;simp only at e1 e2 e3 hd hci;subst e1;subst e2;subst e3;have hgn:=hgo rfl;simp only [st1,stp,Zfe] at h;simp only [Zog] at hci;split at h
   . rename_i c _ hcy;cases hk:chk c m
     . rw [hk] at h;exact h.elim
     . cases ho:Yu c
       . rw [hk,ho] at h;exact h.elim
       . rw [hk,ho] at h;simp only [ZeP,stX] at h;have hop:∃ t xa yv,o.op = .store t xa yv/\Xb x xa=true/\Xb y yv=true/\XT P t=some m:=by
          cases hq:o.op<;>rw [hq] at hci<;>simp [ZT] at hci
          exact ⟨_,_,_,rfl,hci.1.1,hci.1.2,hci.2⟩
         obtain ⟨t,xa,yv,hoo,hx,hy,hsz⟩:=hop
         have fin:∀ (k:Nat) (hb':HB),(∀ (C:Cx) E hpX nX (a:Act) (w:World),lkh k hpX=lkh k σ.hp->HSim C E hpX nX w->R w E nX (okS C E hpX) (rdG none σ.fr x) (evX a x)->RL w E nX (okS C E hpX) c (evX a y).cells.toList->(evX a y).cells.size=m ->
          (∀ u ∈ (evX a y).cells.toList,u.oneCell'=true)->∃ w',(execOp a.eval o).run P w = .ok .skip w'/\HSim C E ((k,hb') :: hpX) nX w'/\ZM w w' (okS C E hpX) (okS C E ((k,hb') :: hpX))) ->
          Zjs P os o ⟨none,.st x y m,none,af⟩ σ.fr σ.fr (.b k (lkh k σ.hp) hb'):=by
          intro k hb' hrun C E hpX nX a w next Q hpre hh hr hn;rw [if_pos (by simp [Region.wanted,hgn])];have hRx:=Wm (fr:=σ.fr) (g:=none) (x:=x) (Zy hh) (λt ht=>hr t (by simp [Wh,opX,ht])) trivial;have hRy:=Wm (fr:=σ.fr) (g:=none) (x:=y) (Zy hh) (λt ht=>hr t (by simp [Wh,opX,ht])) trivial;have hRc:=Zac hRy hcy;have hlen:(evX a y).cells.size=m:=by
           have:=ZO hRc;rw [<- Array.length_toList,this];exact ZbS hk
          obtain ⟨w',q1,q2,q3⟩:=hrun C E hpX nX a w hpre hh hRx hRc hlen (Xg ho hRc);refine ZC q1 (by simp) ?_;exact hn E w' undef (λ_ _=>Ele.rfl) q2 q3 (λt ht=>by cases ht)
         split at h
         . rename_i k off hkx;unfold stC at h;split at h
           . rename_i l T hkk;cases hle:Nat.ble (off+m) l.length
             . rw [hle] at h;exact h.elim
             . rw [hle] at h;simp only [ZAG] at h;refine ⟨k,_,_,by simp [bX,hkx,Zbm],h,.inl ⟨rfl,rfl⟩,fin k _ λC E hpX nX a w hpre hh hRx hRc hlen h1=>?_⟩;rw [hkk] at hpre;rw [hkx] at hRx;simp only [R] at hRx;have hb:=hh.bk k;rw [hpre] at hb;simp only [Yr] at hb;obtain ⟨cs,e1,e2⟩:=hb;have hcl:=ZO e2;have hle':off+m<=l.length:=Nat.le_of_ble_eq_true hle;obtain ⟨w',q1,q2⟩:=Wn (P:=P) (t:=t) (m:=m) (v:=evX a y) (o:=off) (cs:=cs.toList) (T:=T) hsz hlen (by simpa using e1) (by omega) h1
               have hocc:∀ b,occ E k (.cells (ZJ l off c) T) b↔occ E k (lkh k hpX) b:=λb=>by rw [hpre];rfl
               obtain ⟨s1,s2⟩:=XZ hh (hb:=.cells (ZJ l off c) T) hocc (by rw [hpre];rfl) q2 (λhst=>by
                simp only [Yr]
                exact ⟨_,q2.here,by simpa using X6 off (ZL hst (λ_ _=>Ele.rfl) (λ_ h=>h) _ _ e2) (ZL hst (λ_ _=>Ele.rfl) (λ_ h=>h) _ _ hRc)⟩)
               exact ⟨w',by simp only [execOp,hoo,Zh hx a,Zh hy a,hRx.2,Instr.storeAt,Instr.sureAddr,Sem.run_bind,Sem.run_pure,Result.andThen_ok,q1],s1,s2⟩
           . cases h
         . rename_i k vv m' j off hkx;unfold stR at h;split at h
           . rename_i v' m'' xs T hkk;cases hm:We (Nat.beq m' m'') (Nat.beq vv v')
             . rw [hm] at h;exact h.elim
             . rw [hm] at h;simp only [ZAW] at h;obtain ⟨hm,hvv⟩:=Yt hm;have:=Nat.eq_of_beq_eq_true hm;subst this;have:=Nat.eq_of_beq_eq_true hvv;subst this;obtain ⟨row,r1,r2,r3⟩:=h;refine ⟨k,_,_,by simp [bX,hkx,Zbm],r3,.inl ⟨rfl,rfl⟩,fin k _ λC E hpX nX a w hpre hh hRx hRc hlen h1=>?_⟩;rw [hkk] at hpre;rw [hkx] at hRx;simp only [R] at hRx;obtain ⟨_,_,b,len,cap,g1,g2⟩:=hRx;have hb:=hh.bk k;rw [hpre] at hb;simp only [Yr] at hb
               rcases hb with ⟨hi0,⟨hb,_⟩ | ⟨b',cap',cs,q1,q2,q3,⟨q4,q4'⟩,q5,q6,q7⟩⟩
               . rw [hb] at r1;simp at r1
               . rw [g1] at q1;simp at q1;obtain ⟨rfl,rfl,rfl⟩:=q1;have hjl:j < xs.length:=(List.getElem?_eq_some_iff.1 r1).1;have hrow:row.length=m':=q6 row (List.mem_of_getElem? r1);have hcm:=ZbS hk;have hjm:j * m'+m'<=xs.length * m':=by
                  have:=Nat.mul_le_mul_right m' (show j+1<=xs.length from hjl);rw [Nat.add_mul,Nat.one_mul] at this;exact this
                 have hcapm:xs.length * m'<=cap * m':=Nat.mul_le_mul_right m' q4;obtain ⟨w',p1,p2⟩:=Wn (P:=P) (t:=t) (m:=m) (v:=evX a y) (o:=j * m'+off) (cs:=cs.toList) (T:=T) hsz hlen (by simpa using q2) (by simp only [Array.length_toList,q3];omega) h1;have hocc:∀ b',occ E k (.row vv m' (xs.set j (ZJ row off c)) T) b'↔occ E k (lkh k hpX) b':=λb'=>by rw [hpre];rfl
                 obtain ⟨s1,s2⟩:=XZ hh (hb:=.row vv m' (xs.set j (ZJ row off c)) T) hocc (by rw [hpre];exact ⟨_,_,g1,q4'⟩) p2 (λhst=>by
                  simp only [Yr];refine ⟨hi0,.inr ⟨b,cap,_,by simpa using g1,p2.here,?_,by simpa using ⟨q4,q4'⟩,by simpa using q5,λrr hrr=>?_,?_⟩⟩
                  . simp [Z5,q3]
                  . rcases List.mem_or_eq_of_mem_set hrr with hrr | rfl
                    . exact q6 rr hrr
                    . rw [XU,hrow]
                  . rw [Up r1 q6 (by omega),List.length_set];rw [XL (by rw [show (evX a y).cells.toList.length=m from by simpa using hlen];omega) (by simp [q3];omega)]
                    exact X6 _ (ZL hst (λ_ _=>Ele.rfl) (λ_ h=>h) _ _ q7) (ZL hst (λ_ _=>Ele.rfl) (λ_ h=>h) _ _ hRc))
                 exact ⟨w',by simp only [execOp,hoo,Zh hx a,Zh hy a,g2,Instr.storeAt,Instr.sureAddr,Sem.run_bind,Sem.run_pure,Result.andThen_ok,p1],s1,s2⟩
           . cases h
         . cases h
   . cases h
 . rename_i t m b T x y e1 e2 e3;simp only at e1 e2 e3 hd hci;subst e1;subst e2;subst e3;have hgn:=hgo rfl;simp only [st1,stp] at h;simp only [Zog] at hci;obtain ⟨k,v,xs,ys,t',v',xs',q2,q3,q4,q6,q7,q8,q9⟩:=ZuT h;cases q6
   refine ⟨k,_,_,by rcases q4.key with ⟨u,q1⟩ | ⟨u,i,q1⟩<;>simp only [bX,q1,Zbm],q9,.inr ⟨t,_,rfl,q7,q8,(λ_ _ _ e=>by cases e),rfl⟩,?_⟩;intro C E hpX nX a w next Q hpre hh hr hn;rw [if_pos (by simp [Region.wanted,hgn])];have hRx:=Wm (fr:=σ.fr) (g:=none) (x:=x) (Zy hh) (λt ht=>hr t (by simp [Wh,opX,ht])) trivial;have hRy:=Wm (fr:=σ.fr) (g:=none) (x:=y) (Zy hh) (λt ht=>hr t (by simp [Wh,opX,ht])) trivial
   have hpre':lkh k hpX = .row v m xs T:=by
    have:lkh k hpX=lkh k σ.hp:=hpre;rw [this];exact q3
   obtain ⟨y',w',E',g1,g2,g3,g4,g5⟩:=ZlQ hci hh hpre' hRx hRy q2 q4;refine ZC g1 (by simp) ?_;refine hn E' w' y' g2 g3 g4 (λu hu=>?_);simp only at hu;cases hu;simp only [ZN,if_true,FR];exact g5
 . rename_i m x y e2 e3;simp only at e2 e3 hd hci;subst e2;subst e3;have hgn:=hgo rfl;simp only [st1,stp] at h;simp only [Zog] at hci;obtain ⟨k,v,i,L,xs,ys,T,q1,q2,q3,q4,q5,q6⟩:=Zu4 h;have hkx:Zbm (rdG none σ.fr x)=some k:=by
    rcases q1 with ⟨q1,_⟩ | q1<;>rw [q1]<;>rfl
   have run:∀ fr1,(∀ t,d=some t->lk t fr1 = .v (.int .i64 (min L ys.length:Nat)))->Zjs P os o ⟨d,.cpy m x y,none,af⟩ σ.fr fr1 (.b k (lkh k σ.hp) (.row v m (xs.take i ++ (ys.take (min L ys.length) ++ xs.drop (i+min L ys.length))) T)):=by
    intro fr1 hf C E hpX nX a w next Q hpre hh hr hn;rw [if_pos (by simp [Region.wanted,hgn])];have hRx:=Wm (fr:=σ.fr) (g:=none) (x:=x) (Zy hh) (λt ht=>hr t (by simp [Wh,opX,ht])) trivial;have hRy:=Wm (fr:=σ.fr) (g:=none) (x:=y) (Zy hh) (λt ht=>hr t (by simp [Wh,opX,ht])) trivial;have hpre':lkh k hpX = .row v m xs T:=by
     have:lkh k hpX=lkh k σ.hp:=hpre;rw [this];exact q2
    obtain ⟨w',g1,g2,g3⟩:=ZnZ hci hh hpre' q1 hRx q3 hRy q4 q5;refine ZC g1 (by simp) ?_;refine hn E w' _ (λ_ _=>Ele.rfl) g2 g3 (λu hu=>?_);rw [hf u hu];simp only [FR,R]
   rcases ZnJ q6 with ⟨g1,g2⟩ | ⟨t,g1,g2,g3,g4⟩
   . exact ⟨k,_,_,hkx,g2,.inl ⟨g1,rfl⟩,run _ (λt ht=>by rw [g1] at ht;cases ht)⟩
   . exact ⟨k,_,_,hkx,g4,.inr ⟨t,_,g1,g2,g3,(λ_ _ _ e=>by cases e),rfl⟩,run _ (λu hu=>by rw [g1] at hu;cases hu;simp [ZN])⟩
 . rename_i e1 e2 e3;simp only at e3;subst e3;simp [Zat] at hrb
 . cases hb
theorem ZBk (hc:VN P os io o=true) (hb:isB io=true) (hrb:Zat io=true) (h:st1 P Y io σ r K):∃ k hb' fr1,Zbm (rdG none σ.fr (bX io))=some k/\r ⟨fr1,(k,hb') :: σ.hp,σ.n,σ.N,σ.gs⟩ K /\
 ((io.d=none/\fr1 = σ.fr)\/∃ t s,io.d=some t/\t ∉ σ.gs/\t < σ.N/\(∀ j b u,s≠.gd j b u)/\fr1=(t,s) :: σ.fr)/\Zjs P os o io σ.fr fr1 (.b k (lkh k σ.hp) hb')/\WK (lkh k σ.hp) hb':=by
 have hgo:=λhg=>VD (io:=io) hc hg;have hc':=hc;simp only [VN,Bool.and_eq_true,decide_eq_true_eq] at hc';obtain ⟨⟨hd,hci⟩,_⟩:=hc';obtain ⟨d,i,g,af⟩:=io;cases i<;>try (simp [Zat] at hrb;done)
 rename_i op x xs;cases d<;>cases g<;>try (simp [isB] at hb;done)
 rename_i t;have hgn:=hgo rfl;simp only [st1,stp] at h;simp only [Zog] at hci;obtain ⟨k,h1,s,g1,g2,g3,g4⟩:=h;rcases Zaa g4 with ⟨q,_⟩ | ⟨t',q1,q2,q3,q4,q5⟩
 . cases q
 cases q1
 have hs:=Zkl q4;refine ⟨k,h1,(t,s) :: σ.fr,by simp only [bX,g1,Zbm],q5,.inr ⟨t,s,rfl,q2,q3,hs,rfl⟩,?_,g2⟩;intro C E hpX nX a w next Q hpre hh hr hn;rw [if_pos (by simp [Region.wanted,hgn])];refine g3 o (W0 hci).symm C E hpX nX a w next Q hpre hh (λy hy=>Wm (Zy hh) (λu hu=>hr u ?_) trivial) λw' y k1 k2 k3=>hn E w' y (λ_ _=>Ele.rfl) k1 k2 (λu hu=>?_)
 . simp only [Wh,List.mem_append,List.mem_flatMap];exact .inl ⟨y,by simpa only [opX] using hy,hu⟩
 . simp only at hu;cases hu;simp only [ZN,if_true];cases s<;>first | exact k3 | exact absurd rfl (hs _ _ _)
theorem bstep (hc:VN P os io o=true) (hb:isB io=true) (h:st1 P Y io σ r K):∃ k hb' fr1,Zbm (rdG none σ.fr (bX io))=some k/\r ⟨fr1,(k,hb') :: σ.hp,σ.n,σ.N,σ.gs⟩ K /\
 ((io.d=none/\fr1 = σ.fr)\/∃ t s,io.d=some t/\t ∉ σ.gs/\t < σ.N/\(∀ j b u,s≠.gd j b u)/\fr1=(t,s) :: σ.fr)/\Zjs P os o io σ.fr fr1 (.b k (lkh k σ.hp) hb')/\(Zat io=true->WK (lkh k σ.hp) hb'):=by
 cases hrb:Zat io
 . obtain ⟨k,hb',fr1,h1,h2,h3,h4⟩:=ZB0 hc hb hrb h;exact ⟨k,hb',fr1,h1,h2,h3,h4,λh=>by cases h⟩
 . obtain ⟨k,hb',fr1,h1,h2,h3,h4,h5⟩:=ZBk hc hb hrb h;exact ⟨k,hb',fr1,h1,h2,h3,h4,λ_=>h5⟩
end
inductive VI where
 | op (io:Ins)
 | hide (x:X)
def Ze4 (s:SV) (σ : St) (r:KT) (K:RK):Prop :=
 match s with
 | .p k _=>r ⟨σ.fr,(k,.gone) :: σ.hp,σ.n,σ.N,σ.gs⟩ K
 | .pr k _ _ _ _=>r ⟨σ.fr,(k,.gone) :: σ.hp,σ.n,σ.N,σ.gs⟩ K
 | .ms k _ _ _ _=>r ⟨σ.fr,(k,.gone) :: σ.hp,σ.n,σ.N,σ.gs⟩ K
 | .mr k _=>r ⟨σ.fr,(k,.gone) :: σ.hp,σ.n,σ.N,σ.gs⟩ K
 | _=>False
def rxv (P:Program) (Y:Hd) (r:KT):List VI->KT
 | [],σ,K=>r σ K
 | .op io :: l,σ,K=>st1 P Y io σ (rxv P Y r l) K
 | .hide x :: l,σ,K=>Ze4 (rdG none σ.fr x) σ (rxv P Y r l) K
def ZdX (hp:Lh) (r:KT) (σ : St) (K:RK):Prop:=r ⟨σ.fr,hp,σ.n,σ.N,σ.gs⟩ K
structure El where
 ix:Nat
 io:Ins
 o:Oper
 kd:Kd
 hx:List X
def El.it (e:El):It:=(e.ix,e.io,e.o)
def AdP (io:Ins) (fr fr1:Lf):Prop:=∀ v q t,io.i = .addo (.t v) q->io.g=none->io.d=some t->Zbm (rdG none fr1 (.t t))=Zbm (rdG none fr (.t v))
theorem ZCo {P:Program} {Y:Hd} {io:Ins} {σ : St} {r:KT} {K:RK} (h:st1 P Y io σ r K):(∃ v q t,io.i = .addo (.t v) q/\io.g=none/\io.d=some t)->st1 P Y io σ (λσ' K'=>r σ' K'/\AdP io σ.fr σ'.fr) K:=by
 rintro ⟨v,q,t,e1,e2,e3⟩;obtain ⟨d,i,g,af⟩:=io;simp only at e1 e2 e3;subst e1;subst e2;subst e3;simp only [st1,stp,Yw] at h ⊢;cases hao:U2 q (rdG none σ.fr (.t v)) with
 | none=>rw [hao] at h;exact h.elim
 | some s =>
  rw [hao] at h;simp only [WC,YE] at h ⊢;have hk:Zbm s=Zbm (rdG none σ.fr (.t v))/\Xl none [] s=s:=by
   cases hs:rdG none σ.fr (.t v)<;>rw [hs] at hao<;>simp [U2] at hao<;>subst hao<;>simp [Zbm,Xl]
  cases hm:Xw t σ.gs<;>cases hN:Nat.blt t σ.N<;>cases hs:gdS s<;>rw [hm,hN,hs] at h<;>first | exact h.elim | skip
  refine ⟨h,λv' q' t' e1 _ e3=>?_⟩;simp only [SI.addo.injEq,X.t.injEq] at e1;simp only [Option.some.injEq] at e3;obtain ⟨rfl,rfl⟩:=e1;subst e3;have:rdG none ((t,s) :: σ.fr) (.t t)=s:=by
   simp only [rdG,rd,ZN,if_true];have:=hk.2;cases s<;>first | rfl | (simp [Xl] at this)
  rw [this];exact hk.1
theorem Zrw {io:Ins} {fr fr1:Lf} (h:¬ ∃ v q t,io.i = .addo (.t v) q/\io.g=none/\io.d=some t):AdP io fr fr1:=λv q t e1 e2 e3=>absurd ⟨v,q,t,e1,e2,e3⟩ h
theorem ZCY {P:Program} {Y:Hd} {os:Array Oper} {o:Oper} {io:Ins} {σ : St} {r:KT} {K:RK} (hc:VN P os io o=true) (hv:isV io.i=true) (hgs:gsOK σ) (h:st1 P Y io σ r K):∃ σ1,r σ1 K/\SStep P os o io σ σ1 none/\AdP io σ.fr σ1.fr:=by
 by_cases hi:∃ v q t,io.i = .addo (.t v) q/\io.g=none/\io.d=some t
 . obtain ⟨σ1,h1,h2⟩:=ZmR hc hv hgs (ZCo h hi);exact ⟨σ1,h1.1,h2,h1.2⟩
 . obtain ⟨σ1,h1,h2⟩:=ZmR hc hv hgs h;exact ⟨σ1,h1,h2,Zrw hi⟩
theorem ZuB {P:Program} {Y:Hd} {os:Array Oper} {o:Oper} {io:Ins} {σ : St} {r:KT} {K:RK} (hc:VN P os io o=true) (hm:isM io=true) (hgs:gsOK σ) (h:st1 P Y io σ r K):∃ σ1,r σ1 K/\σ1.hp = σ.hp/\σ1.n = σ.n/\σ1.N = σ.N/\(∀ j ∈ σ.gs,j ∈ σ1.gs)/\gsOK σ1 /\
 ((io.d=none/\σ1.fr = σ.fr)\/∃ t s,io.d=some t/\t ∉ σ1.gs/\t < σ.N/\σ1.fr=(t,s) :: σ.fr)/\ZBc P os o io σ.fr σ1.fr [] none/\AdP io σ.fr σ1.fr:=by
 by_cases hi:∃ v q t,io.i = .addo (.t v) q/\io.g=none/\io.d=some t
 . obtain ⟨σ1,h1,g1,g2,g3,g4,g5,g6,g7⟩:=ZC5 hc hm hgs (ZCo h hi);exact ⟨σ1,h1.1,g1,g2,g3,g4,g5,g6,g7,h1.2⟩
 . obtain ⟨σ1,h1,g1,g2,g3,g4,g5,g6,g7⟩:=ZC5 hc hm hgs h;exact ⟨σ1,h1,g1,g2,g3,g4,g5,g6,g7,Zrw hi⟩
structure Stp (P:Program) (os:Array Oper) (σ : St) (e:El) (σ1:St):Prop where
 N:σ1.N = σ.N
 gs:∀ j ∈ σ.gs,j ∈ σ1.gs
 gsOK:gsOK σ1
 fr:(e.io.d=none/\σ1.fr = σ.fr)\/∃ t s,e.io.d=some t/\t ∉ σ1.gs/\t < σ.N/\σ1.fr=(t,s) :: σ.fr
 v:∀ hp,e.kd = .v hp->σ1.hp = σ.hp/\σ1.n = σ.n/\HExt hp σ.hp/\∀ x ∈ e.hx,∃ k,Zbm (rdG none σ.fr x)=some k/\lkh k hp = .gone
 a:∀ k hb,e.kd = .a k hb->k = σ.n/\σ1.hp=(k,hb) :: σ.hp/\σ1.n = σ.n+1/\e.hx=[]/\∀ t,e.io.d=some t->lk t σ1.fr = .p k 0\/lk t σ1.fr = .mr k 0
 b:∀ k h0 hb,e.kd = .b k h0 hb->h0=lkh k σ.hp/\σ1.hp=(k,hb) :: σ.hp/\σ1.n = σ.n/\Zbm (rdG none σ.fr (bX e.io))=some k/\e.hx=[]/\isB e.io=true
 dyn:Zjs P os e.o e.io σ.fr σ1.fr e.kd
 ad:AdP e.io σ.fr σ1.fr
 wk:Zat e.io=true->∃ k h0 hb,e.kd = .b k h0 hb/\WK h0 hb
def Run (P:Program) (os:Array Oper):List El->St->St->Prop
 | [],σ,σF=>σF = σ
 | e :: es,σ,σF=>∃ σ1,Stp P os σ e σ1/\Run P os es σ1 σF
def ZmY (W:El->El->Prop):List El->Prop
 | []=>True
 | e :: r=>((∃ hp,e.kd = .v hp)\/∀ y ∈ r,∀ hp,y.kd = .v hp->hp=[])/\(∀ t ∈ Wh e.io,e.io.d≠some t/\∀ y ∈ r,y.io.d=some t->isB e.io=false/\W y e)/\(∀ t,e.io.d=some t->∀ y ∈ r,y.io.d≠some t)/\(∀ x ∈ e.hx,∀ t ∈ rdX x,e.io.d≠some t/\∀ y ∈ r,y.io.d≠some t)/\ZmY W r
def ZcF (f:Nat->HB):List El->(El->Bool)->Nat->HB
 | [],_=>f
 | e :: es,d=>ZcF (if d e=true then e.kd.upd f else f) es d
structure Facts (P:Program) (os:Array Oper) (W:El->El->Prop) (hp0:Lh) (es:List El) (σ σF:St):Prop where
 N:σF.N = σ.N
 gs:∀ j ∈ σ.gs,j ∈ σF.gs
 gsOK:gsOK σF
 n:σ.n<=σF.n
 lo:∀ e ∈ es,∀ k hb,e.kd = .a k hb->σ.n<=k/\k < σF.n
 al:∀ k,σ.n<=k->k < σF.n->∃ e ∈ es,∃ hb,e.kd = .a k hb
 df:es.Pairwise λe e'=>∀ k hb hb',e.kd = .a k hb->e'.kd≠.a k hb'
 heap:∀ k,lkh k σF.hp=ZcF (λk=>lkh k σ.hp) es (λ_=>true) k
 b0:∀ l1 e l2,es=l1 ++ e :: l2->∀ k h0 h1,e.kd = .b k h0 h1->h0=ZcF (λk=>lkh k σ.hp) l1 (λ_=>true) k
 vh:∀ e ∈ es,∀ hp,e.kd = .v hp->HExt hp hp0
 hid:∀ e ∈ es,∀ hp,e.kd = .v hp->∀ x ∈ e.hx,∃ k,Zbm (rdG none σF.fr x)=some k/\lkh k hp = .gone
 av:∀ e ∈ es,∀ k hb,e.kd = .a k hb->∀ t,e.io.d=some t->lk t σF.fr = .p k 0\/lk t σF.fr = .mr k 0
 bk:∀ e ∈ es,∀ k h0 hb,e.kd = .b k h0 hb->Zbm (rdG none σF.fr (bX e.io))=some k
 fr:∀ t,(∀ e ∈ es,e.io.d≠some t)->lk t σF.fr=lk t σ.fr
 ge:∀ j ∈ σ.gs,∀ b,GE σF.fr j b↔GE σ.fr j b
 dn:∀ e ∈ es,∀ t,e.io.d=some t->t < σ.N
 dyn:∀ l1 e l2,es=l1 ++ e :: l2->∃ fr,(∀ t ∈ Wh e.io,((∀ y ∈ l2,y.io.d≠some t)/\lk t fr=lk t σF.fr)\/((∃ y ∈ l2,y.io.d=some t/\W y e)/\lk t fr=lk t σ.fr)) /\
  (∀ t j b s,lk t fr = .gd j b s->∀ b,GE σF.fr j b↔GE fr j b)/\Zjs P os e.o e.io fr σF.fr e.kd
 ad:∀ e ∈ es,∀ v q t,e.io.i = .addo (.t v) q->e.io.g=none->e.io.d=some t->(∀ y ∈ es,y.io.d≠some v)->Zbm (rdG none σF.fr (.t t))=Zbm (rdG none σF.fr (.t v))
 wk:∀ e ∈ es,Zat e.io=true->∃ k h0 hb,e.kd = .b k h0 hb/\WK h0 hb
section
variable {P:Program} {os:Array Oper} {K:RK}
theorem ZkA {o:Oper} {io:Ins} {fr fr1 frF:Lf} {kd:Kd} (h:Zjs P os o io fr fr1 kd) (hd:∀ t,io.d=some t->lk t frF=lk t fr1)
 (hg1:∀ t j b s,lk t fr1 = .gd j b s->∀ b,GE frF j b↔GE fr1 j b):Zjs P os o io fr frF kd:=by
 intro C E hpX nX a w next Q h1 h2 h4 h5;refine h C E hpX nX a w next Q h1 h2 h4 (λE' w' y k1 k2 k3 k4=>h5 E' w' y k1 k2 k3 (λt ht=>?_))
 . have:=k4 t ht;rw [hd t ht];exact XD (λ_ hb _=>⟨hb,rfl⟩) (λ_ _=>Ele.rfl) (λ_ h=>h) (λj b s e=>hg1 t j b s e b) this
theorem UY {fr fr':Lf} {x:X} (h:∀ t ∈ rdX x,lk t fr'=lk t fr):rdG none fr' x=rdG none fr x:=by
 cases x with
 | t t =>
  simp only [rdG,rd];rw [h t (by simp [rdX])];cases lk t fr<;>rfl
 | c x=>rfl
 | f i=>rfl
 | g i=>rfl
theorem bX_rd {io:Ins} {t:Nat} (h:isB io=true) (ht:t ∈ rdX (bX io)):t ∈ Wh io:=by
 obtain ⟨d,i,g,af⟩:=io;unfold isB at h;split at h
 . rename_i x y m e1 e2 e3;simp only at e1 e2 e3;subst e3;simp only [bX] at ht;simp [Wh,opX,ht]
 . rename_i u m b T x y e1 e2 e3;simp only at e1 e2 e3;subst e3;simp only [bX] at ht;simp [Wh,opX,ht]
 . rename_i m x y e2 e3;simp only at e2 e3;subst e3;simp only [bX] at ht;simp [Wh,opX,ht]
 . rename_i u op x xs e1 e2 e3;simp only at e1 e2 e3;subst e3;simp only [bX] at ht;simp [Wh,opX,ht]
 . cases h
theorem VO:∀ {es:List El} {f:Nat->HB} {d:El->Bool} {k:Nat},(∀ e ∈ es,d e=true->e.kd.key≠some k)->ZcF f es d k=f k
 | [],_,_,_,_=>rfl
 | e :: es,f,d,k,h=>by
  simp only [ZcF];rw [VO (λe' he' hd=>h e' (by simp [he']) hd)];split
  . rename_i hd;have:=h e (by simp) hd;cases hk:e.kd<;>simp only [Kd.upd]<;>rw [hk] at this<;>simp only [Kd.key,ne_eq,Option.some.injEq] at this
    . rw [if_neg (λe=>this e.symm)]
    . rw [if_neg (λe=>this e.symm)]
  . rfl
theorem Zdp:∀ (l1 l2:List El) (f:Nat->HB) (d:El->Bool),ZcF f (l1 ++ l2) d=ZcF (ZcF f l1 d) l2 d
 | [],_,_,_=>rfl
 | e :: l1,l2,f,d=>by simp only [List.cons_append,ZcF];exact Zdp l1 l2 _ d
theorem VV:∀ {es:List El} {f g:Nat->HB} {d d':El->Bool} {k:Nat},f k=g k->(∀ e ∈ es,e.kd.key=some k->d e=d' e)->ZcF f es d k=ZcF g es d' k
 | [],_,_,_,_,_,h,_=>h
 | e :: es,f,g,d,d',k,h,hd=>by
  simp only [ZcF];refine VV ?_ (λe' he'=>hd e' (by simp [he']));cases hk:e.kd.key with
  | none =>
   have:∀ f:Nat->HB,e.kd.upd f=f:=λf=>by cases h:e.kd<;>rw [h] at hk<;>simp [Kd.key] at hk;rfl
   rw [this,this];simp only [ite_self];exact h
  | some j =>
   by_cases hj:j=k
   . subst hj;rw [hd e (by simp) hk];split
     . cases h':e.kd<;>rw [h'] at hk<;>simp [Kd.key] at hk<;>simp [Kd.upd,hk]
     . exact h
   . have:∀ f:Nat->HB,e.kd.upd f k=f k:=λf=>by
      cases h':e.kd<;>rw [h'] at hk<;>simp [Kd.key] at hk<;>simp only [Kd.upd]<;>rw [if_neg (by rintro rfl;exact hj hk.symm)]
     have h2:∀ (f:Nat->HB) (b:Bool),(if b=true then e.kd.upd f else f) k=f k:=λf b=>by split;exact this f;rfl
     rw [h2,h2];exact h
theorem ZkS {l1 l2:List El} {e:El} {f:Nat->HB} {d:El->Bool} {k:Nat} (h:∀ x ∈ l2,d x=true->x.kd.key≠some k) (hd:d e=true):ZcF f (l1 ++ e :: l2) d k=e.kd.upd (ZcF f l1 d) k:=by
 rw [Zdp];simp only [ZcF,hd,if_true];exact VO h
theorem runS {W:El->El->Prop} {hp0:Lh}:∀ (es:List El) (σ σF:St),ZmY W es->gsOK σ->(σ.hp=hp0\/∀ e ∈ es,∀ hp,e.kd = .v hp->hp=[])->Run P os es σ σF->Facts P os W hp0 es σ σF
 | [],σ,σF,_,hgs,_,h=>by
  have:σF = σ:=h;subst this;exact ⟨rfl,λ_ h=>h,hgs,Nat.le_refl _,λe he=>by simp at he,λk h1 h2=>by omega,.nil,λ_=>rfl,λl1 e l2 h=>by simp at h,λe he=>by simp at he,λe he=>by simp at he,λe he=>by simp at he,λe he=>by simp at he,λ_ _=>rfl,λ_ _ _=>Iff.rfl,λe he=>by simp at he,λl1 e l2 h=>by simp at h,λe he=>by simp at he,λe he=>by simp at he⟩
 | e :: es,σ,σF,hR,hgs,hhp,h=>by
  obtain ⟨hR0,hR2,hR3,hRx,hR4⟩:=hR;obtain ⟨σ1,S,hrun⟩:=h;have hhp1:σ1.hp=hp0\/∀ e ∈ es,∀ hp,e.kd = .v hp->hp=[]:=by
   rcases hR0 with ⟨hp,hv⟩ | hv
   . rcases hhp with hh | hh
     . exact .inl ((S.v hp hv).1.trans hh)
     . exact .inr (λe he=>hh e (by simp [he]))
   . exact .inr hv
  have F:=runS (hp0:=hp0) es σ1 σF hR4 S.gsOK hhp1 hrun;have frs:∀ t,e.io.d≠some t->lk t σ1.fr=lk t σ.fr:=λt ht=>by
   rcases S.fr with ⟨_,h⟩ | ⟨u,s,h,_,_,h'⟩
   . rw [h]
   . rw [h',ZN,if_neg (by rintro rfl;exact ht h)]
  have ges:∀ j ∈ σ1.gs,∀ b,GE σ1.fr j b↔GE σ.fr j b:=λj hj b=>by
   rcases S.fr with ⟨_,h⟩ | ⟨u,s,_,h,_,h'⟩
   . rw [h]
   . rw [h'];exact Zbz (λt j b s ht=>S.gs _ (hgs t j b s ht)) h hj
  have hn1:σ.n<=σ1.n:=by
   cases hk:e.kd with
   | v hp=>have:=(S.v hp hk).2.1;omega
   | a k hb=>have:=(S.a k hb hk).2.2.1;omega
   | b k h0 hb=>have:=(S.b k h0 hb hk).2.2.1;omega
  have hupd:∀ k,lkh k σ1.hp=e.kd.upd (λk=>lkh k σ.hp) k:=λk=>by
   cases hk:e.kd with
   | v hp=>rw [(S.v hp hk).1];rfl
   | a j hb=>rw [(S.a j hb hk).2.1,Zu];rfl
   | b j h0 hb=>rw [(S.b j h0 hb hk).2.1,Zu];rfl
  have hfun:(λk=>lkh k σ1.hp)=e.kd.upd (λk=>lkh k σ.hp):=funext hupd;have hF1:∀ t,(e.io.d≠some t/\∀ y ∈ es,y.io.d≠some t)->lk t σF.fr=lk t σ.fr:=λt h=>by rw [F.fr t h.2,frs t h.1]
  refine ⟨F.N.trans S.N,λj hj=>F.gs j (S.gs j hj),F.gsOK,Nat.le_trans hn1 F.n,λe' he k hb hk=>?_,λk k1 k2=>?_,?_,λk=>?_,λl1 e' l2 hs k h0 hb hk=>?_,λe' he hp hk=>?_,λe' he hp hk x hx=>?_,λe' he k hb hk t ht=>?_,λe' he k h0 hb hk=>?_,λt ht=>?_,λj hj b=>?_,λe' he t ht=>?_,λl1 e' l2 hs=>?_,λe' he v q t g1 g2 g3 g4=>?_,λe' he hr=>(List.mem_cons.1 he).elim (λq=>by subst q;exact S.wk hr) λq=>F.wk e' q hr⟩
  . rcases List.mem_cons.1 he with rfl | he
    . obtain ⟨q1,_,q3,_⟩:=S.a k hb hk;have:=F.n;omega
    . obtain ⟨q1,q2⟩:=F.lo e' he k hb hk;exact ⟨Nat.le_trans hn1 q1,q2⟩
  . by_cases hq:σ1.n<=k
    . obtain ⟨e',he,q⟩:=F.al k hq k2;exact ⟨e',by simp [he],q⟩
    . cases hk:e.kd with
      | v hp=>have:=(S.v hp hk).2.1;omega
      | a j hb=>have:=S.a j hb hk;exact ⟨e,List.mem_cons_self ..,hb,by rw [hk];congr 1;omega⟩
      | b j h0 hb=>have:=(S.b j h0 hb hk).2.2.1;omega
  . refine List.pairwise_cons.2 ⟨λe' he k hb hb' hk hk'=>?_,F.df⟩;have:=(F.lo e' he k hb' hk').1;have:=S.a k hb hk;omega
  . rw [F.heap k,hfun];simp [ZcF]
  . cases l1 with
    | nil=>simp at hs;obtain ⟨rfl,rfl⟩:=hs;exact (S.b k h0 hb hk).1
    | cons z l1 =>
     simp at hs;obtain ⟨rfl,rfl⟩:=hs;rw [F.b0 l1 e' l2 rfl k h0 hb hk,hfun];simp [ZcF]
  . rcases List.mem_cons.1 he with rfl | he
    . rcases hhp with hh | hh
      . rw [<- hh];exact (S.v hp hk).2.2.1
      . rw [hh _ (by simp) hp hk];exact λ_=>.inl rfl
    . exact F.vh e' he hp hk
  . rcases List.mem_cons.1 he with rfl | he
    . obtain ⟨k,k1,k2⟩:=(S.v hp hk).2.2.2 x hx;exact ⟨k,by rw [UY (fr:=σ.fr) (λt ht=>hF1 t (hRx x hx t ht))];exact k1,k2⟩
    . exact F.hid e' he hp hk x hx
  . rcases List.mem_cons.1 he with rfl | he
    . rw [F.fr t (λe he=>hR3 t ht e he)];exact (S.a k hb hk).2.2.2.2 t ht
    . exact F.av e' he k hb hk t ht
  . rcases List.mem_cons.1 he with rfl | he
    . have hb1:=(S.b k h0 hb hk).2.2.2.1
      rw [UY (fr:=σ.fr) (λt ht=>hF1 t (by
       have q:=hR2 t (bX_rd (S.b k h0 hb hk).2.2.2.2.2 ht)
       exact ⟨q.1,λy hy hd=>by have:=(q.2 y hy hd).1;rw [(S.b k h0 hb hk).2.2.2.2.2] at this;cases this⟩))];exact hb1
    . exact F.bk e' he k h0 hb hk
  . rw [F.fr t (λe' he=>ht e' (by simp [he])),frs t (ht _ (List.mem_cons_self ..))]
  . exact (F.ge j (S.gs j hj) b).trans (ges j (S.gs j hj) b)
  . rcases List.mem_cons.1 he with rfl | he
    . rcases S.fr with ⟨h,_⟩ | ⟨u,s,h,_,h',_⟩
      . rw [h] at ht;cases ht
      . rw [h] at ht;cases ht;exact h'
    . rw [<- S.N];exact F.dn e' he t ht
  . cases l1 with
    | nil =>
     simp at hs;obtain ⟨rfl,rfl⟩:=hs;refine ⟨σ.fr,λt ht=>?_,λt j b s hl b'=>?_,ZkA S.dyn (λt ht=>F.fr t (λe he=>hR3 t ht e he)) (λt j b s hl b'=>F.ge j (S.gsOK t j b s hl) b')⟩
     . by_cases hy:∃ y ∈ es,y.io.d=some t
       . obtain ⟨y,hy,hd⟩:=hy;exact .inr ⟨⟨y,hy,hd,((hR2 t ht).2 y hy hd).2⟩,rfl⟩
       . have hy':∀ y ∈ es,y.io.d≠some t:=λy h1 h2=>hy ⟨y,h1,h2⟩;exact .inl ⟨hy',(hF1 t ⟨(hR2 t ht).1,hy'⟩).symm⟩
     . have hj:=S.gs j (hgs t j b s hl);exact (F.ge j hj b').trans (ges j hj b')
    | cons z l1 =>
     simp at hs;obtain ⟨rfl,rfl⟩:=hs;obtain ⟨fr,g1,g2,g3⟩:=F.dyn l1 e' l2 rfl;refine ⟨fr,λt ht=>?_,g2,g3⟩;rcases g1 t ht with h | ⟨⟨y,hy,hd,hw⟩,h⟩
     . exact .inl h
     . refine .inr ⟨⟨y,hy,hd,hw⟩,?_⟩;rw [h];exact frs t λhe=>hR3 t he y (by simp [hy]) hd
  . have hv:lk v σF.fr=lk v σ.fr:=hF1 v ⟨g4 e (by simp),λy hy=>g4 y (by simp [hy])⟩;rcases List.mem_cons.1 he with rfl | he
    . rw [UY (fr:=σ1.fr) (fr':=σF.fr) (x:=.t t) (λu hu=>by
       simp only [rdX,List.mem_singleton] at hu;subst hu
       exact F.fr u (λe he=>hR3 u g3 e he)),S.ad v q t g1 g2 g3,UY (fr:=σ.fr) (fr':=σF.fr) (x:=.t v) (λu hu=>by
       simp only [rdX,List.mem_singleton] at hu;subst hu;exact hv)]
    . exact F.ad e' he v q t g1 g2 g3 (λy hy=>g4 y (by simp [hy]))
end
section
variable {P:Program} {os:Array Oper} {K:RK} {C:Cx} {Q:Exit->Act->World->Prop}
theorem ZcT {E:Env} {hp hp':Lh} {n n':Nat->Prop} {w:World} (h:∀ k,lkh k hp'=lkh k hp) (hn:∀ k,n' k↔n k) (hh:HSim C E hp n w):HSim C E hp' n' w/\okS C E hp'=okS C E hp/\n'=n:=by
 have e1:okS C E hp'=okS C E hp:=by funext b;simp only [okS,h]
 have e2:n'=n:=funext λk=>propext (hn k);subst e2;refine ⟨⟨λk hk=>by rw [h];exact hh.kn k hk,λk=>by rw [h,e1];exact hh.bk k,λk k' b=>by rw [h,h];exact hh.dj k k' b,λk b=>by rw [h];exact hh.lo k b,hh.kp,hh.pin⟩,e1,rfl⟩
theorem ZgD {α : Type} (p:α->Bool):∀ (l:List α),(∃ x ∈ l,p x=true)->∃ l1 e l2,l=l1 ++ e :: l2/\p e=true/\∀ x ∈ l1,p x=false
 | [],h=>by obtain ⟨x,h,_⟩:=h;simp at h
 | x :: l,h=>by
  cases hp:p x
  . obtain ⟨y,hy,hpy⟩:=h;have:y ∈ l:=by
     rcases List.mem_cons.1 hy with rfl | h
     . rw [hp] at hpy;cases hpy
     . exact h
    obtain ⟨l1,e,l2,h1,h2,h3⟩:=ZgD p l ⟨y,this,hpy⟩
    exact ⟨x :: l1,e,l2,by simp [h1],h2,λz hz=>by
     rcases List.mem_cons.1 hz with rfl | hz
     . exact hp
     . exact h3 z hz⟩
  . exact ⟨[],x,l,rfl,hp,λ_ h=>by simp at h⟩
theorem ZmK {listed:Array Bool}:∀ (es:List El) (e:El),(es.map (·.ix)).Nodup->e ∈ es->listed.getD e.ix false=false->e.ix < listed.size ->
 (es.filter λe'=>!(listed.setIfInBounds e.ix true).getD e'.ix false).length+1=(es.filter λe'=>!listed.getD e'.ix false).length
 | [],e,_,h,_,_=>by simp at h
 | x :: es,e,hnd,he,hl,hs=>by
  rw [List.map_cons,List.nodup_cons] at hnd;by_cases hx:x.ix=e.ix
  . have hsame:(es.filter λe'=>!(listed.setIfInBounds e.ix true).getD e'.ix false)=(es.filter λe'=>!listed.getD e'.ix false):=by
     apply List.filter_congr;intro y hy;rw [XV hs,if_neg];rintro h;exact hnd.1 (by rw [hx,<- h];exact List.mem_map.2 ⟨y,hy,rfl⟩)
    rw [List.filter_cons,List.filter_cons,hsame,XV hs,if_pos hx,hx,hl];simp
  . have he':e ∈ es:=by
     rcases List.mem_cons.1 he with rfl | h
     . exact absurd rfl hx
     . exact h
    have ih:=ZmK es e hnd.2 he' hl hs;rw [List.filter_cons,List.filter_cons,XV hs,if_neg hx];split
    . simp only [List.length_cons];omega
    . exact ih
def Un (es:List El) (listed:Array Bool) (k:Nat):Prop:=∃ e ∈ es,listed.getD e.ix false=false/\∃ hb,e.kd = .a k hb
theorem ZnN {io:Ins} {o:Oper} (hc:VN P os io o=true):io.d=o.dst:=by
 simp only [VN,Bool.and_eq_true,decide_eq_true_eq] at hc;exact hc.1.1
structure Free (P:Program) (os:Array Oper) (all Ds T:List It) (es:List El) (σ0 σF:St):Prop where
 hos:∀ y ∈ all,os[y.1]? = some y.2.2
 hco:∀ y ∈ all,VN P os y.2.1 y.2.2=true
 hall:all=Ds ++ (es.map El.it ++ T)
 nd:(all.map (·.1)).Nodup
 cov:∀ j,j < os.size->j ∈ all.map (·.1)
 ord:∀ l1 e l2,es=l1 ++ e :: l2->∀ d ∈ e.o.after,Region.binds .any d=true->d.on ∈ l1.map (·.ix)\/d.on ∈ Ds.map (·.1)
 rd:∀ l1 e l2,es=l1 ++ e :: l2->∀ t ∈ Wh e.io,∀ e' ∈ l1,e'.io.d=some t->W7 all e.it e'.ix
 nd0:∀ e ∈ es,∀ t ∈ Wh e.io,e.io.d≠some t
 hT:∀ y ∈ T,∀ e ∈ es,W7 all y e.ix
 dd:∀ e ∈ es,∀ e' ∈ es,∀ t,e.io.d=some t->e'.io.d=some t->e.ix=e'.ix
 F:Facts P os (λy e=>W7 all y.it e.ix) σ0.hp es σ0 σF
 g0:gsOK σ0
 hid:∀ e ∈ es,∀ b ∈ es,∀ hp k h0 h1,e.kd = .v hp->b.kd = .b k h0 h1->W7 all b.it e.ix\/lkh k hp = .gone\/Zat b.io=true
 rb1:∀ b ∈ es,∀ b' ∈ es,Zat b.io=true->Zat b'.io=true->b.ix=b'.ix
 ch:∀ l1 e l2,es=l1 ++ e :: l2->∀ e' ∈ l2,∀ k,e.kd.key=some k->e'.kd.key=some k->W7 all e'.it e.ix
 h0:∀ k,¬ k < σ0.n->lkh k σ0.hp = .gone
structure SInv (C:Cx) (all Ds T:List It) (es:List El) (σ0 σF:St) (sz:Nat) (listed:Array Bool) (E:Env) (a:Act) (w:World) (hpX:Lh):Prop where
 hsz:listed.size=sz
 hD:∀ y ∈ Ds,listed.getD y.1 false=true
 hT:∀ y ∈ T,listed.getD y.1 false=false
 dn:Zic listed all
 hp:∀ k,lkh k hpX=ZcF (λk=>lkh k σ0.hp) es (λe=>listed.getD e.ix false) k
 hs:HSim C E hpX (λk=>k < σF.n/\¬ Un es listed k) w
 fr:∀ t,(∃ e ∈ es,listed.getD e.ix false=false/\e.io.d=some t)\/FR w E (λk=>k < σF.n/\¬ Un es listed k) (okS C E hpX) σF.fr (lk t σF.fr) (a.tmps.getD t undef)
 f0:∀ t,(∀ e ∈ es,e.io.d=some t->listed.getD e.ix false=false)->FR w E (λk=>k < σF.n/\¬ Un es listed k) (okS C E hpX) σ0.fr (lk t σ0.fr) (a.tmps.getD t undef)
 N:a.tmps.size = σF.N
 df:DF C E hpX w a.defers
theorem ZuF {all Ds T:List It} {es:List El} {σ0 σF:St} (H:Free P os all Ds T es σ0 σF)
 (hfin:∀ (listed:Array Bool) E a w,listed.size=os.size->(∀ j,j < os.size->(listed.getD j false=false↔j ∈ T.map (·.1)))->Zic listed all->Sim C E σF a w->ZhF C.rd P .any os Q T.length listed a w) :
 ∀ (m:Nat) (listed:Array Bool) E a w hpX,(es.filter λe=>!listed.getD e.ix false).length=m->SInv C all Ds T es σ0 σF os.size listed E a w hpX->ZhF C.rd P .any os Q (m+T.length) listed a w
 | 0,listed,E,a,w,hpX,hm,I=>by
  have hl:∀ e ∈ es,listed.getD e.ix false=true:=λe he=>by
   have:=List.eq_nil_of_length_eq_zero hm;rw [List.filter_eq_nil_iff] at this;simpa using this e he
  have hU:∀ k,¬ Un es listed k:=by rintro k ⟨e,he,h,_⟩;rw [hl e he] at h;cases h
  obtain ⟨h1,h2,h3⟩:=ZcT (hp':=σF.hp) (n':=ltn σF.n) (λk=>by rw [I.hp k,H.F.heap k];exact VV rfl (λe he _=>(hl e he).symm)) (λk=>⟨λh=>⟨h,hU k⟩,λh=>h.1⟩) I.hs;rw [Nat.zero_add];refine hfin listed E a w I.hsz (λj hj=>⟨λh=>?_,λh=>?_⟩) I.dn ⟨λt=>?_,I.N,X5 (λb hb _=>⟨by rw [h2];exact hb,rfl⟩) I.df,H.F.gsOK,h1⟩
  . have:=H.cov j hj;rw [H.hall,List.map_append,List.mem_append] at this;rcases this with h' | h'
    . obtain ⟨y,hy,rfl⟩:=List.mem_map.1 h';rw [I.hD y hy] at h;cases h
    rw [List.map_append,List.mem_append] at h';rcases h' with h' | h'
    . rw [List.map_map] at h';obtain ⟨e,he,rfl⟩:=List.mem_map.1 h';have:=hl e he;simp only [Function.comp,El.it] at h;rw [this] at h;cases h
    . exact h'
  . obtain ⟨y,hy,rfl⟩:=List.mem_map.1 h;exact I.hT y hy
  . rw [h2,h3];rcases I.fr t with ⟨e,he,h,_⟩ | h
    . rw [hl e he] at h;cases h
    . exact h
 | m+1,listed,E,a,w,hpX,hm,I=>by
  have hex:∃ x ∈ es,(!listed.getD x.ix false)=true:=by
   cases hq:(es.filter λe=>!listed.getD e.ix false) with
   | nil=>rw [hq] at hm;simp at hm
   | cons x l =>
    have:x ∈ es.filter λe=>!listed.getD e.ix false:=by rw [hq];simp
    exact ⟨x,(List.mem_filter.1 this).1,(List.mem_filter.1 this).2⟩
  have hnd:=H.nd;rw [H.hall,List.map_append,List.nodup_append] at hnd;have hndD:=hnd.2.2
  replace hnd:=hnd.2.1
  rw [List.map_append,List.nodup_append] at hnd;have hnde:(es.map (·.ix)).Nodup:=by have:=hnd.1;rw [List.map_map] at this;exact this
  have hin:∀ e ∈ es,e.it ∈ all:=λe he=>by rw [H.hall];simp only [List.mem_append];exact .inr (.inl (List.mem_map.2 ⟨e,he,rfl⟩))
  have hoe:∀ e ∈ es,os[e.ix]? = some e.o:=λe he=>H.hos _ (hin e he);have hlt:∀ e ∈ es,e.ix < os.size:=λe he=>(Array.getElem?_eq_some_iff.1 (hoe e he)).1;have hgd:∀ j,j < os.size->listed.getD j true=listed.getD j false:=λj hj=>by simp [Array.getD,I.hsz,hj]
  obtain ⟨l1,e0,l2,q1,q2,q3⟩:=ZgD _ es hex;have he0:e0 ∈ es:=by rw [q1];simp
  have hu0:listed.getD e0.ix false=false:=by simpa using q2
  have hready:e0.ix ∈ Region.ready .any os listed:=mem_ready.2 ⟨by rw [hgd _ (hlt e0 he0)];exact hu0,e0.o,hoe e0 he0,λd hd hb=>by
   rcases H.ord l1 e0 l2 q1 d hd hb with ho | ho
   . obtain ⟨x,hx,hxe⟩:=List.mem_map.1 ho;rw [<- hxe];simpa using q3 x hx
   . obtain ⟨x,hx,hxe⟩:=List.mem_map.1 ho
     rw [<- hxe];exact I.hD x hx⟩
  rw [show m+1+T.length=(m+T.length)+1 from by omega];refine ⟨λh=>by rw [h] at hready;simp at hready,λi hi=>?_⟩;obtain ⟨h1,o,h2,h3⟩:=mem_ready.1 hi;have hilt:i < os.size:=(Array.getElem?_eq_some_iff.1 h2).1;rw [hgd _ hilt] at h1;have hmem:∃ e ∈ es,e.ix=i:=by
   have:=H.cov i hilt;rw [H.hall,List.map_append,List.mem_append] at this;rcases this with h | h
   . obtain ⟨y,hy,rfl⟩:=List.mem_map.1 h;rw [I.hD y hy] at h1;cases h1
   rw [List.map_append,List.mem_append] at h;rcases h with h | h
   . rw [List.map_map] at h;obtain ⟨e,he,rfl⟩:=List.mem_map.1 h;exact ⟨e,he,rfl⟩
   . obtain ⟨y,hy,rfl⟩:=List.mem_map.1 h;have hoy:=H.hos y (by rw [H.hall];simp [hy]);rw [hoy] at h2;cases h2;have:=H.hT y hy e0 he0 listed I.dn h3;rw [hu0] at this;cases this
  obtain ⟨e,he,rfl⟩:=hmem;have hoe':=hoe e he;rw [hoe'] at h2;cases h2;have hlisz:e.ix < listed.size:=by rw [I.hsz];exact hilt
  have hxpr:PrL listed e.it:=h3;unfold Zo2;rw [hoe'];simp only;have hsame:∀ e' ∈ es,e'.ix=e.ix->e'=e:=λe' he' hix=>by
   have:∀ (l:List El),(l.map (·.ix)).Nodup->e ∈ l->e' ∈ l->e'=e:=by
    intro l
    induction l with
    | nil=>intro _ h;simp at h
    | cons x l ih =>
     intro hp m1 m2;rw [List.map_cons,List.nodup_cons] at hp;rcases List.mem_cons.1 m1 with n1 | n1
     . rcases List.mem_cons.1 m2 with n2 | n2
       . rw [n1,n2]
       . exact absurd (List.mem_map.2 ⟨e',n2,by rw [hix,n1]⟩) hp.1
     . rcases List.mem_cons.1 m2 with n2 | n2
       . exact absurd (List.mem_map.2 ⟨e,n1,by rw [<- hix,n2]⟩) hp.1
       . exact ih hp.2 n1 n2
   exact this es hnde he he'
  have hset:∀ e' ∈ es,(listed.setIfInBounds e.ix true).getD e'.ix false=true↔e'=e\/listed.getD e'.ix false=true:=λe' he'=>by
   rw [XV hlisz];by_cases hix:e'.ix=e.ix
   . rw [if_pos hix];simp [hsame e' he' hix]
   . rw [if_neg hix];exact ⟨.inr,λh=>h.resolve_left (by rintro rfl;exact hix rfl)⟩
  obtain ⟨la,lb,hsplit⟩:=List.append_of_mem he;have hafter:∀ e' ∈ lb,∀ k,e.kd.key=some k->e'.kd.key=some k->listed.getD e'.ix false=false:=λe' he' k k1 k2=>by
   have he'':e' ∈ es:=by rw [hsplit];simp [he']
   cases hq:listed.getD e'.ix false
   . rfl
   . have:=H.ch la e lb hsplit e' he' k k1 k2 listed I.dn (λd hd hb=>I.dn e'.it (hin e' he'') hq d hd hb);rw [h1] at this;cases this
  have hbefore:∀ e' ∈ la,∀ k,e.kd.key=some k->e'.kd.key=some k->listed.getD e'.ix false=true:=λe' he' k k1 k2=>by
   obtain ⟨l1',l2',h⟩:=List.append_of_mem he';exact H.ch l1' e' (l2' ++ e :: lb) (by rw [hsplit,h];simp) e (by simp) k k2 k1 listed I.dn hxpr
  have hkeyA:∀ k hb,e.kd = .a k hb->∀ e' ∈ es,∀ hb',e'.kd = .a k hb'->e'=e:=λk hb hk e' he' hb' hk'=>by
   apply Classical.byContradiction;intro hne;have:∀ (l:List El),l.Pairwise (λe e'=>∀ k hb hb',e.kd = .a k hb->e'.kd≠.a k hb')->e ∈ l->e' ∈ l->False:=by
    intro l
    induction l with
    | nil=>intro _ h;simp at h
    | cons x l ih =>
     intro hp m1 m2;rw [List.pairwise_cons] at hp;rcases List.mem_cons.1 m1 with n1 | n1
     . rcases List.mem_cons.1 m2 with n2 | n2
       . exact hne (by rw [n1,n2])
       . exact hp.1 e' n2 k hb hb' (by rw [<- n1];exact hk) hk'
     . rcases List.mem_cons.1 m2 with n2 | n2
       . exact hp.1 e n1 k hb' hb (by rw [<- n2];exact hk') hk
       . exact ih hp.2 n1 n2
   exact this es H.F.df he he'
  have hun:∀ k,Un es (listed.setIfInBounds e.ix true) k↔Un es listed k/\∀ hb,e.kd≠.a k hb:=λk=>by
   constructor
   . rintro ⟨e',he',hl,hb,hk⟩;have hne:¬ (e'=e\/listed.getD e'.ix false=true):=λh=>by rw [(hset e' he').2 h] at hl;cases hl
     refine ⟨⟨e',he',?_,hb,hk⟩,λhb' hk'=>hne (.inl (hkeyA k hb' hk' e' he' hb hk))⟩;cases hq:listed.getD e'.ix false
     . rfl
     . exact absurd (.inr hq) hne
   . rintro ⟨⟨e',he',hl,hb,hk⟩,hn⟩;refine ⟨e',he',?_,hb,hk⟩;cases hq:(listed.setIfInBounds e.ix true).getD e'.ix false
     . rfl
     . rcases (hset e' he').1 hq with rfl | h
       . exact absurd hk (hn hb)
       . rw [hl] at h;cases h
  have hpre:e.kd.pre hpX (λk=>k < σF.n/\¬ Un es listed k):=by
   cases hk:e.kd with
   | v hp =>
    intro k;cases hg:lkh k hp
    case gone=>exact .inl rfl
    all_goals
     right;rw [<- hg];have hng:lkh k hp≠.gone:=by rw [hg];intro h;cases h
     rcases H.F.vh e he hp hk k with h | h
     . exact absurd h hng
     have only:∀ e' ∈ es,listed.getD e'.ix false=true->e'.kd.key=some k->Zat e'.io=true:=λe' he' hd hkey=>by
      cases hk':e'.kd with
      | v _=>rw [hk'] at hkey;cases hkey
      | a j hb =>
       rw [hk'] at hkey;simp only [Kd.key,Option.some.injEq] at hkey;subst hkey;have:=(H.F.lo e' he' j hb hk').1;rw [H.h0 j (by omega)] at h;exact absurd h.symm hng
      | b j h0 hb =>
       rw [hk'] at hkey;simp only [Kd.key,Option.some.injEq] at hkey;subst hkey;rcases H.hid e he e' he' hp j h0 hb hk hk' with hh | hh | hh
       . have:=hh listed I.dn (λd hd' hb=>I.dn e'.it (hin e' he') hd d hd' hb);rw [h1] at this;cases this
       . exact absurd hh hng
       . exact hh
     by_cases hw:∃ e' ∈ es,listed.getD e'.ix false=true/\e'.kd.key=some k
     . right;obtain ⟨b,hb,hbl,hbk⟩:=hw;have hrb:=only b hb hbl hbk;obtain ⟨k',h0,hb1,hbd,φ,hφ,hi⟩:=H.F.wk b hb hrb;have:k'=k:=by rw [hbd] at hbk;simpa [Kd.key] using hbk
       subst this;obtain ⟨xa,xb,hsp⟩:=List.append_of_mem hb;have hno:∀ e' ∈ xa ++ xb,listed.getD e'.ix false=true->e'.kd.key≠some k':=λe' he' hd hkey=>by
        have hee:e' ∈ es:=by
         rw [hsp];rcases List.mem_append.1 he' with q | q
         . simp [q]
         . simp [q]
        have hix:=H.rb1 b hb e' hee hrb (only e' hee hd hkey);have:=hnde;rw [hsp,List.map_append,List.map_cons,List.nodup_append] at this;rcases List.mem_append.1 he' with q | q
        . exact this.2.2 e'.ix (List.mem_map.2 ⟨e',q,rfl⟩) b.ix (by simp) hix.symm
        . have t2:=this.2.1;rw [List.nodup_cons] at t2;exact t2.1 (List.mem_map.2 ⟨e',q,hix.symm⟩)
       have hX:lkh k' hpX=hb1:=by
        rw [I.hp k',hsp,ZkS (λx hx hd=>hno x (by simp [hx]) hd) hbl,hbd];simp [Kd.upd]
       have h00:h0=lkh k' hp:=by
        rw [H.F.b0 xa b xb hsp k' h0 hb1 hbd,<- h];refine VO (λe' he' _ hkey=>?_);have hee:e' ∈ es:=by rw [hsp];simp [he']
        obtain ⟨ya,yb,hy⟩:=List.append_of_mem he';have:=H.ch ya e' (yb ++ b :: xb) (by rw [hsp,hy];simp) b (by simp) k' hkey hbk listed I.dn (λd hd hb'=>I.dn b.it (hin b hb) hbl d hd hb');exact hno e' (by simp [he']) this hkey
       rw [hX,<- h00];exact ⟨φ,hφ,hi⟩
     . left;rw [I.hp k,<- h];exact VO (λe' he' hd hkey=>hw ⟨e',he',hd,hkey⟩)
   | a k hb=>exact λhn=>hn.2 ⟨e,he,h1,hb,hk⟩
   | b k h0 hb =>
    show lkh k hpX=h0;rw [I.hp k,H.F.b0 la e lb hsplit k h0 hb hk,hsplit,Zdp];have hkk:e.kd.key=some k:=by rw [hk];rfl
    rw [VO (λe' he' hd hkey=>?_)]
    . exact VV rfl (λe' he' hkey=>hbefore e' he' k hkk hkey)
    . rcases List.mem_cons.1 he' with rfl | he'
      . rw [h1] at hd;cases hd
      . rw [hafter e' he' k hkk hkey] at hd;cases hd
  obtain ⟨frE,dy1,dy2,dy3⟩:=H.F.dyn la e lb hsplit;have key:=dy3 C E hpX (λk=>k < σF.n/\¬ Un es listed k) a w (ZhF C.rd P .any os Q (m+T.length) (listed.setIfInBounds e.ix true)) Q hpre I.hs
   (λt ht=>by
    rcases dy1 t ht with ⟨hno,hq⟩ | ⟨⟨y,hy,hyd,hyn⟩,hq⟩
    . rcases I.fr t with ⟨e',he',hl,hd⟩ | h
      . exfalso;rw [hsplit,List.mem_append,List.mem_cons] at he';rcases he' with he' | rfl | he'
        . have:=H.rd la e lb hsplit t ht e' he' hd listed I.dn hxpr;rw [hl] at this;cases this
        . exact H.nd0 e' he t ht hd
        . exact hno e' he' hd
      . rw [hq];exact XD (λ_ hb _=>⟨hb,rfl⟩) (λ_ _=>Ele.rfl) (λ_ h=>h) (λj b s e=>(dy2 t j b s (hq.trans e) b).symm) h
    . have hye:y ∈ es:=by rw [hsplit];simp [hy]
      have h:=I.f0 t λe' he' hd=>by
       rw [H.dd e' he' y hye t hd hyd];cases hq:listed.getD y.ix false
       . rfl
       . have:=hyn listed I.dn (λd hd hb=>I.dn y.it (hin y hye) hq d hd hb);rw [h1] at this;cases this
      rw [hq]
      exact XD (λ_ hb _=>⟨hb,rfl⟩) (λ_ _=>Ele.rfl) (λ_ h=>h) (λj b s e=>(dy2 t j b s (hq.trans e) b).symm.trans (H.F.ge j (H.g0 t j b s e) b)) h)
   (λE' w' y k1 k2 k3 k4=>by
    have hn':(λk=>k < σF.n/\¬ Un es (listed.setIfInBounds e.ix true) k)=e.kd.neff (λk=>k < σF.n/\¬ Un es listed k):=by
     funext k;apply propext
     rw [hun k];cases hko:e.kd with
     | v _=>simp [Kd.neff]
     | b _ _ _=>simp [Kd.neff]
     | a k0 hb0 =>
      have hlo:=H.F.lo e he k0 hb0 hko;simp only [Kd.neff];by_cases hk:k=k0
      . subst hk;exact ⟨λ_=>.inr rfl,λ_=>⟨hlo.2,λhh=>hh.2 hb0 rfl⟩⟩
      . exact ⟨λhh=>.inl ⟨hh.1,λhu=>hh.2 ⟨hu,λhb hq=>hk (by cases hq;rfl)⟩⟩,λhh=>by
         rcases hh with hh | hh
         . exact ⟨hh.1,λhu=>hh.2 hu.1⟩
         . exact absurd hh hk⟩
    refine ZuF H hfin m _ E' (a.put e.o.dst y) w' (e.kd.eff hpX) ?_ ⟨by simp [I.hsz],λz hz=>(by rw [XV hlisz];split;rfl;exact I.hD z hz),λz hz=>?_,ZgZ (hin e he) H.hos hlisz I.dn hxpr,λk=>?_,by rw [hn'];exact k2,λt=>?_,λt hall=>?_,?_,?_⟩
    . have:=ZmK es e hnde he h1 hlisz;omega
    . rw [XV hlisz,if_neg]
      . exact I.hT z hz
      . intro hz';exact hnd.2.2 e.ix (by rw [List.map_map];exact List.mem_map.2 ⟨e,he,rfl⟩) z.1 (List.mem_map.2 ⟨z,hz,rfl⟩) hz'.symm
    . have hdone:(listed.setIfInBounds e.ix true).getD e.ix false=true:=(hset e he).2 (.inl rfl);have hcong:e.kd.key≠some k->ZcF (λk=>lkh k σ0.hp) es (λe=>listed.getD e.ix false) k=ZcF (λk=>lkh k σ0.hp) es (λe'=>(listed.setIfInBounds e.ix true).getD e'.ix false) k:=λhne =>
       VV rfl (λe' he' hkey=>by
        cases hq:listed.getD e'.ix false
        . cases hq':(listed.setIfInBounds e.ix true).getD e'.ix false
          . rfl
          . rcases (hset e' he').1 hq' with rfl | h
            . exact absurd hkey hne
            . rw [hq] at h;cases h
        . rw [(hset e' he').2 (.inr hq)])
      have hat:∀ hb,(∀ f:Nat->HB,e.kd.upd f k=hb)->e.kd.key=some k->ZcF (λk=>lkh k σ0.hp) es (λe'=>(listed.setIfInBounds e.ix true).getD e'.ix false) k=hb:=λhb hup hkey=>by
       have h2:∀ x ∈ lb,(listed.setIfInBounds e.ix true).getD x.ix false=true->x.kd.key≠some k:=λx hx hd hk=>by
        have hxe:x ∈ es:=by rw [hsplit];simp [hx]
        rcases (hset x hxe).1 hd with rfl | h
        . have hnd':=hnde;rw [hsplit,List.map_append,List.map_cons,List.nodup_append] at hnd';have:=hnd'.2.1;rw [List.nodup_cons] at this;exact this.1 (List.mem_map.2 ⟨x,hx,rfl⟩)
        . rw [hafter x hx k hkey hk] at h;cases h
       have h3:=ZkS (l1:=la) (l2:=lb) (e:=e) (f:=λk=>lkh k σ0.hp) (d:=λe'=>(listed.setIfInBounds e.ix true).getD e'.ix false) (k:=k) h2 hdone;rw [<- hsplit] at h3;rw [h3];exact hup _
      cases hko:e.kd with
      | v hp =>
       simp only [Kd.eff];rw [I.hp k];exact hcong (by rw [hko];intro h;cases h)
      | a k0 hb0 =>
       simp only [Kd.eff,Zu];split
       . rename_i hkq;subst hkq;exact (hat hb0 (λf=>by rw [hko];simp [Kd.upd]) (by rw [hko];rfl)).symm
       . rename_i hkq;rw [I.hp k];exact hcong (by rw [hko];simp only [Kd.key,ne_eq,Option.some.injEq];exact λh=>hkq h.symm)
      | b k0 h0 hb0 =>
       simp only [Kd.eff,Zu];split
       . rename_i hkq;subst hkq;exact (hat hb0 (λf=>by rw [hko];simp [Kd.upd]) (by rw [hko];rfl)).symm
       . rename_i hkq;rw [I.hp k];exact hcong (by rw [hko];simp only [Kd.key,ne_eq,Option.some.injEq];exact λh=>hkq h.symm)
    . have hdo:e.io.d=e.o.dst:=ZnN (H.hco _ (hin e he));rw [hn'];by_cases hd:e.io.d=some t
      . right;have htN:=H.F.dn e he t hd;rw [<- hdo,hd,ZbT a t t y (by rw [I.N,H.F.N];exact htN),if_pos rfl];exact k4 t hd
      . rcases I.fr t with ⟨e',he',hl,hde⟩ | h
        . left;refine ⟨e',he',?_,hde⟩;rw [XV hlisz,if_neg]
          . exact hl
          . intro hix;have ho':=hoe e' he';rw [hix,hoe'] at ho';have h5:e'.io.d=e'.o.dst:=ZnN (H.hco _ (hin e' he'));rw [<- Option.some.inj ho',<- hdo] at h5;exact hd (h5.symm.trans hde)
        . right;have hget:(a.put e.o.dst y).tmps.getD t undef=a.tmps.getD t undef:=by
           cases hdd:e.o.dst with
           | none=>rfl
           | some u =>
            have htN:=H.F.dn e he u (hdo.trans hdd);rw [ZbT a u t y (by rw [I.N,H.F.N];exact htN),if_neg];rintro rfl;exact hd (hdo.trans hdd)
          rw [hget];refine XD k3 k1 (λk hk=>?_) (λ_ _ _ _=>Iff.rfl) h;cases e.kd with
          | v _=>exact hk
          | b _ _ _=>exact hk
          | a _ _=>exact .inl hk
    . have hdo:e.io.d=e.o.dst:=ZnN (H.hco _ (hin e he));have hdt:e.io.d≠some t:=λhd=>by
       have:=hall e he hd;rw [(hset e he).2 (.inl rfl)] at this;cases this
      have h:=I.f0 t λe' he' hd=>by
       cases hq:listed.getD e'.ix false
       . rfl
       . have:=hall e' he' hd;rw [(hset e' he').2 (.inr hq)] at this;cases this
      rw [hn'];have hget:(a.put e.o.dst y).tmps.getD t undef=a.tmps.getD t undef:=by
       cases hdd:e.o.dst with
       | none=>rfl
       | some u =>
        have htN:=H.F.dn e he u (hdo.trans hdd);rw [ZbT a u t y (by rw [I.N,H.F.N];exact htN),if_neg];rintro rfl;exact hdt (hdo.trans hdd)
      rw [hget];refine XD k3 k1 (λk hk=>?_) (λ_ _ _ _=>Iff.rfl) h;cases e.kd with
      | v _=>exact hk
      | b _ _ _=>exact hk
      | a _ _=>exact .inl hk
    . have:(a.put e.o.dst y).tmps.size=a.tmps.size:=by cases e.o.dst<;>simp [Act.put]
      rw [this];exact I.N
    . have:(a.put e.o.dst y).defers=a.defers:=by cases e.o.dst<;>simp [Act.put]
      rw [this];exact X5 k3 I.df)
  exact key
end
section
variable {P:Program} {os:Array Oper} {K:RK} {C:Cx} {Q:Exit->Act->World->Prop}
theorem ZhE {all Ds T:List It} {es:List El} {σ0 σF:St} {E:Env} {a:Act} {w:World} (H:Free P os all Ds T es σ0 σF) {listed:Array Bool} (hsz:listed.size=os.size) (hl:∀ e ∈ es,listed.getD e.ix false=false) (hT:∀ y ∈ T,listed.getD y.1 false=false) (hD:∀ y ∈ Ds,listed.getD y.1 false=true) (hdn:Zic listed all) (hg:σ0.gs=[]) (hs:Sim C E σ0 a w) :
 SInv C all Ds T es σ0 σF os.size listed E a w σ0.hp:=by
 have hU:∀ k,Un es listed k↔σ0.n<=k/\k < σF.n:=λk=>by
  constructor
  . rintro ⟨e,he,_,hb,hk⟩;exact ⟨(H.F.lo e he k hb hk).1,(H.F.lo e he k hb hk).2⟩
  . rintro ⟨h1,h2⟩;obtain ⟨e,he,hb,hk⟩:=H.F.al k h1 h2;exact ⟨e,he,hl e he,hb,hk⟩
 have hn:(λk=>k < σF.n/\¬ Un es listed k)=ltn σ0.n:=by
  funext k;apply propext
  rw [hU k];have:=H.F.n;simp only [ltn];constructor
  . rintro ⟨h1,h2⟩;omega
  . intro h;omega
 refine ⟨hsz,hD,hT,hdn,λk=>(VO (es:=es) (f:=λk=>lkh k σ0.hp) (d:=λe=>listed.getD e.ix false) (k:=k) (λe he hd=>by simp only [hl e he] at hd;cases hd)).symm,by rw [hn];exact hs.hs,λt=>?_,λt _=>by rw [hn];exact hs.fr t,by rw [hs.sz,H.F.N],hs.df⟩;by_cases hd:∃ e ∈ es,e.io.d=some t
 . obtain ⟨e,he,hd⟩:=hd;exact .inl ⟨e,he,hl e he,hd⟩
 . right;rw [hn,H.F.fr t (λe he h=>hd ⟨e,he,h⟩)];have:=hs.fr t;have hng:∀ j b s,lk t σ0.fr≠.gd j b s:=λj b s h=>by have:=hs.gs t j b s h;rw [hg] at this;simp at this
   cases hq:lk t σ0.fr<;>rw [hq] at this hng<;>first | exact this | exact absurd rfl (hng _ _ _)
theorem Zex {E:Env} {σ : St} {a:Act} {w:World} (h:Sim C E σ a w) (k:Nat):Sim C E σ a { w with drawn:=k }:=by
 have hst:ZM w { w with drawn:=k } (okS C E σ.hp) (okS C E σ.hp):=λb hb _=>⟨hb,rfl⟩;have hb:Below w.heap.size w { w with drawn:=k }:=⟨rfl,rfl,rfl,Nat.le_refl _,λ_ _=>rfl⟩
 exact YJ h hst (λ_ _=>Ele.rfl) (Nat.le_refl _) (Xz h.hs hb)
end
inductive VE where
 | op (x:It)
 | hide (x:X)
def VE.vi:VE->VI
 | .op x=>.op x.2.1
 | .hide x=>.hide x
def ZcE:List X->List VE->List (It × List X)
 | _,[]=>[]
 | hs,.op x :: r=>(x,hs) :: ZcE hs r
 | hs,.hide h :: r=>ZcE (h :: hs) r
def YA:List VE->List It
 | []=>[]
 | .op x :: r=>x :: YA r
 | .hide _ :: r=>YA r
theorem Za8:∀ (vs:List VE) (hs:List X),(ZcE hs vs).map (·.1)=YA vs
 | [],_=>rfl
 | .op x :: r,hs=>by simp [ZcE,YA,Za8 r hs]
 | .hide h :: r,hs=>by simp [ZcE,YA,Za8 r]
section
variable {P:Program} {os:Array Oper} {K:RK}
theorem Zan:∀ {es es':List El} {σ σ1 σ2:St},Run P os es σ σ1->Run P os es' σ1 σ2->Run P os (es ++ es') σ σ2
 | [],_,_,_,_,h1,h2=>by have:_=_:=h1;subst this;exact h2
 | e :: es,_,_,_,_,h1,h2=>by obtain ⟨σ',S,h⟩:=h1;exact ⟨σ',S,Zan h h2⟩
theorem ZeI {s:SV} {σ : St} {r:KT} (h:Ze4 s σ r K):∃ k,Zbm s=some k/\r ⟨σ.fr,(k,.gone) :: σ.hp,σ.n,σ.N,σ.gs⟩ K:=by
 unfold Ze4 at h;split at h
 . exact ⟨_,rfl,h⟩
 . exact ⟨_,rfl,h⟩
 . exact ⟨_,rfl,h⟩
 . exact ⟨_,rfl,h⟩
 . exact h.elim
theorem runV {r:KT}:∀ (vs:List VE) (hs:List X) (σ : St) (hpm:Lh),(∀ p ∈ ZcE hs vs,VN P os p.1.2.1 p.1.2.2=true/\isV p.1.2.1.i=true/\∀ h ∈ p.2,∀ t ∈ rdX h,p.1.2.1.d≠some t)->gsOK σ->HExt hpm σ.hp ->
 (∀ x ∈ hs,∃ k,Zbm (rdG none σ.fr x)=some k/\lkh k hpm = .gone)->rxv P Y r (vs.map VE.vi) ⟨σ.fr,hpm,σ.n,σ.N,σ.gs⟩ K ->
 ∃ (es:List El) (σ':St) (hpm':Lh),Run P os es σ σ'/\es.map (λe=>(e.it,e.hx))=ZcE hs vs/\(∀ e ∈ es,∃ hp,e.kd = .v hp)/\σ'.hp = σ.hp/\gsOK σ'/\r ⟨σ'.fr,hpm',σ'.n,σ'.N,σ'.gs⟩ K
 | [],hs,σ,hpm,_,hgs,_,_,h=>⟨[],σ,hpm,rfl,rfl,λe he=>by simp at he,rfl,hgs,h⟩
 | .hide x :: vs,hs,σ,hpm,hv,hgs,hx,hh,h=>by
  obtain ⟨k,h1,h2⟩:=ZeI h
  exact runV vs (x :: hs) σ ((k,.gone) :: hpm) (λp hp=>hv p hp) hgs (λj=>by
   rw [Zu];split
   . exact .inl rfl
   . exact hx j) (λy hy=>by
   rcases List.mem_cons.1 hy with rfl | hy
   . exact ⟨k,h1,by rw [Zu,if_pos rfl]⟩
   . obtain ⟨j,q1,q2⟩:=hh y hy
     exact ⟨j,q1,by rw [Zu];split;rfl;exact q2⟩) h2
 | .op x :: vs,hs,σ,hpm,hv,hgs,hx,hh,h=>by
  obtain ⟨ix,io,o⟩:=x;obtain ⟨v1,v2,v3⟩:=hv _ (List.mem_cons_self ..);obtain ⟨σ1,h1,S,had⟩:=ZCY (σ:=⟨σ.fr,hpm,σ.n,σ.N,σ.gs⟩) v1 v2 hgs h;have hn:σ1.n = σ.n:=by
   rcases S.n with ⟨_,h⟩ | ⟨_,h,_⟩
   . exact h
   . cases h
  have hfr:∀ t,io.d≠some t->lk t σ1.fr=lk t σ.fr:=λt ht=>by
   rcases S.fr with ⟨_,h⟩ | ⟨u,s,h,_,_,h'⟩
   . rw [h]
   . rw [h',ZN,if_neg (by rintro rfl;exact ht h)]
  have hhp:σ1.hp=hpm:=S.hp
  obtain ⟨es,σ',hpm',r1,r2,r3,r4,r5,r6⟩:=runV vs hs ⟨σ1.fr,σ.hp,σ1.n,σ1.N,σ1.gs⟩ hpm (λp hp=>hv p (by simp [ZcE,hp])) S.gsOK hx (λy hy=>by
   obtain ⟨k,q1,q2⟩:=hh y hy
   exact ⟨k,by rw [UY (fr:=σ.fr) (λt ht=>hfr t (v3 y hy t ht))];exact q1,q2⟩) (by rw [<- hhp];exact h1)
  refine ⟨⟨ix,io,o,.v hpm,hs⟩ :: es,σ',hpm',⟨⟨σ1.fr,σ.hp,σ1.n,σ1.N,σ1.gs⟩,⟨S.N,S.gs,S.gsOK,S.fr,λhp hk=>?_,(λ_ _ h=>by cases h),(λ_ _ _ h=>by cases h),ZlY S.dyn,had,λhr=>by
   have v2':isV io.i=true:=v2;have hr':Zat io=true:=hr;obtain ⟨d',i',g',a'⟩:=io
   cases i'<;>simp [Zat] at hr'<;>simp [isV] at v2'⟩,r1⟩,by simp only [List.map_cons,r2,ZcE];rfl,λe he=>?_,r4,r5,r6⟩
  . cases hk
    exact ⟨rfl,hn,hx,hh⟩
  . rcases List.mem_cons.1 he with rfl | he
    . exact ⟨_,rfl⟩
    . exact r3 e he
def ZDM (io:Ins):Bool:=isA io || isM io
def ZCv (io:Ins):Bool:=isB io || isM io
theorem isM_B {io:Ins} (h:isM io=true):isB io=false:=by
 obtain ⟨d,i,g,af⟩:=io;cases g with
 | some _=>simp [isM] at h
 | none=>cases i<;>simp [isM] at h<;>cases d<;>rfl
theorem isM_A {io:Ins} (h:isM io=true):isA io=false:=by
 obtain ⟨d,i,g,af⟩:=io;cases g with
 | some _=>simp [isM] at h
 | none=>cases i<;>simp [isM] at h<;>rfl
theorem runA {rest:List Ins}:∀ (L:List It) (σ : St),(∀ x ∈ L,VN P os x.2.1 x.2.2=true/\ZDM x.2.1=true)->gsOK σ->rx P Y (L.map (·.2.1) ++ rest) σ K ->
 ∃ (es:List El) (σ':St),Run P os es σ σ'/\es.map (λe=>(e.it,e.hx))=L.map (λx=>(x,[]))/\(∀ e ∈ es,(∃ k hb,e.kd = .a k hb)\/(e.kd = .v []/\isM e.io=true))/\gsOK σ'/\rx P Y rest σ' K
 | [],σ,_,hgs,h=>⟨[],σ,rfl,rfl,λe he=>by simp at he,hgs,h⟩
 | (ix,io,o) :: L,σ,hv,hgs,h=>by
  obtain ⟨v1,v2⟩:=hv _ (List.mem_cons_self ..);simp only [List.map_cons,List.cons_append,rx] at h;simp only [ZDM,Bool.or_eq_true] at v2;rcases v2 with v2 | v2
  case inr =>
   obtain ⟨σ1,h1,g1,g2,g3,g4,g5,g6,g7,g8⟩:=ZuB v1 v2 hgs h;obtain ⟨es,σ',r1,r2,r3,r4,r5⟩:=runA L σ1 (λx hx=>hv x (by simp [hx])) g5 h1
   refine ⟨⟨ix,io,o,.v [],[]⟩ :: es,σ',⟨σ1,⟨g3,g4,g5,g6,λhp hk=>?_,(λ_ _ h=>by cases h),(λ_ _ _ h=>by cases h),ZlY g7,g8,λhr=>by
    have v2':isM io=true:=v2;have hr':Zat io=true:=hr;obtain ⟨d',i',g',a'⟩:=io
    cases i'<;>simp [Zat] at hr'<;>cases g'<;>simp [isM] at v2'⟩,r1⟩,by simp only [List.map_cons,r2];rfl,λe he=>?_,r4,r5⟩
   . cases hk
     exact ⟨g1,g2,λ_=>.inl rfl,λx hx=>by simp at hx⟩
   . rcases List.mem_cons.1 he with rfl | he
     . exact .inr ⟨rfl,v2⟩
     . exact r3 e he
  obtain ⟨σ1,hb,h1,S,hval⟩:=astep v1 v2 hgs h;obtain ⟨es,σ',r1,r2,r3,r4,r5⟩:=runA L σ1 (λx hx=>hv x (by simp [hx])) S.gsOK h1;have hn:σ1.n = σ.n+1:=by
   rcases S.n with ⟨h,_⟩ | ⟨_,_,h⟩
   . cases h
   . exact h
  refine ⟨⟨ix,io,o,.a σ.n hb,[]⟩ :: es,σ',⟨σ1,⟨S.N,S.gs,S.gsOK,S.fr,(λ_ h=>by cases h),λk hb' hk=>?_,(λ_ _ _ h=>by cases h),ZDO S.dyn,Zrw (λ⟨v,q,t,e1,_,_⟩=>by simp only at e1;obtain ⟨d',i',g',a'⟩:=io;simp only at e1;subst e1;cases g'<;>simp [isA] at v2),λhr=>by
   have v2':isA io=true:=v2;have hr':Zat io=true:=hr;obtain ⟨d',i',g',a'⟩:=io
   cases i'<;>simp [Zat] at hr'<;>cases g'<;>simp [isA] at v2'⟩,r1⟩,by simp only [List.map_cons,r2];rfl,λe he=>?_,r4,r5⟩
  . cases hk;exact ⟨rfl,S.hp,hn,rfl,hval⟩
  . rcases List.mem_cons.1 he with rfl | he
    . exact .inl ⟨_,_,rfl⟩
    . exact r3 e he
theorem runB {rest:List Ins}:∀ (L:List It) (σ : St),(∀ x ∈ L,VN P os x.2.1 x.2.2=true/\ZCv x.2.1=true)->gsOK σ->rx P Y (L.map (·.2.1) ++ rest) σ K ->
 ∃ (es:List El) (σ':St),Run P os es σ σ'/\es.map (λe=>(e.it,e.hx))=L.map (λx=>(x,[]))/\(∀ e ∈ es,((∃ k h0 hb,e.kd = .b k h0 hb)/\isB e.io=true)\/(e.kd = .v []/\isM e.io=true))/\gsOK σ'/\rx P Y rest σ' K
 | [],σ,_,hgs,h=>⟨[],σ,rfl,rfl,λe he=>by simp at he,hgs,h⟩
 | (ix,io,o) :: L,σ,hv,hgs,h=>by
  obtain ⟨v1,v2⟩:=hv _ (List.mem_cons_self ..);simp only [List.map_cons,List.cons_append,rx] at h;simp only [ZCv,Bool.or_eq_true] at v2;rcases v2 with v2 | v2
  case inr =>
   obtain ⟨σ1,h1,g1,g2,g3,g4,g5,g6,g7,g8⟩:=ZuB v1 v2 hgs h;obtain ⟨es,σ',r1,r2,r3,r4,r5⟩:=runB L σ1 (λx hx=>hv x (by simp [hx])) g5 h1
   refine ⟨⟨ix,io,o,.v [],[]⟩ :: es,σ',⟨σ1,⟨g3,g4,g5,g6,λhp hk=>?_,(λ_ _ h=>by cases h),(λ_ _ _ h=>by cases h),ZlY g7,g8,λhr=>by
    have v2':isM io=true:=v2;have hr':Zat io=true:=hr;obtain ⟨d',i',g',a'⟩:=io
    cases i'<;>simp [Zat] at hr'<;>cases g'<;>simp [isM] at v2'⟩,r1⟩,by simp only [List.map_cons,r2];rfl,λe he=>?_,r4,r5⟩
   . cases hk
     exact ⟨g1,g2,λ_=>.inl rfl,λx hx=>by simp at hx⟩
   . rcases List.mem_cons.1 he with rfl | he
     . exact .inr ⟨rfl,v2⟩
     . exact r3 e he
  obtain ⟨k,hb,fr1,h0,h1,hf,S,hwk⟩:=bstep v1 v2 h;have hgs1:gsOK ⟨fr1,(k,hb) :: σ.hp,σ.n,σ.N,σ.gs⟩:=by
   rcases hf with ⟨_,rfl⟩ | ⟨t,v,_,_,_,hs,rfl⟩
   . exact hgs
   . exact VX hgs hs _ _
  have hfr:(io.d=none/\fr1 = σ.fr)\/∃ t s,io.d=some t/\t ∉ σ.gs/\t < σ.N/\fr1=(t,s) :: σ.fr:=by
   rcases hf with h | ⟨t,v,g1,g2,g3,_,g4⟩
   . exact .inl h
   . exact .inr ⟨t,_,g1,g2,g3,g4⟩
  obtain ⟨es,σ',r1,r2,r3,r4,r5⟩:=runB L ⟨fr1,(k,hb) :: σ.hp,σ.n,σ.N,σ.gs⟩ (λx hx=>hv x (by simp [hx])) hgs1 h1;refine ⟨⟨ix,io,o,.b k (lkh k σ.hp) hb,[]⟩ :: es,σ',⟨⟨fr1,(k,hb) :: σ.hp,σ.n,σ.N,σ.gs⟩,⟨rfl,λ_ h=>h,hgs1,hfr,(λ_ h=>by cases h),(λ_ _ h=>by cases h),λk' h0' hb' hk=>?_,S,Zrw (λ⟨v,q,t,e1,_,_⟩=>by simp only at e1;obtain ⟨d',i',g',a'⟩:=io;simp only at e1;subst e1;cases d'<;>cases g'<;>simp [isB] at v2),λhr=>⟨_,_,_,rfl,hwk hr⟩⟩,r1⟩,by simp only [List.map_cons,r2];rfl,λe he=>?_,r4,r5⟩
  . cases hk;exact ⟨rfl,rfl,rfl,h0,rfl,v2⟩
  . rcases List.mem_cons.1 he with rfl | he
    . exact .inl ⟨⟨_,_,_,rfl⟩,v2⟩
    . exact r3 e he
end
def Zxq (j:Nat):List (Nat × Nat)->Nat
 | []=>0
 | (i,m) :: r=>bif Nat.beq j i then m else Zxq j r
def Zd7 (cl:List (Nat × Nat)):List Nat->Nat
 | []=>0
 | j :: r=>Nat.lor (Nat.lor (2 ^ j) (Zxq j cl)) (Zd7 cl r)
section
variable {P:Program} {os:Array Oper}
def Zh8 (all:List It) (cl:List (Nat × Nat)):Prop:=∀ i j,Nat.testBit (Zxq i cl) j=true->∀ listed,Zic listed all->listed.getD i false=true->listed.getD j false=true
theorem Zgr {cl:List (Nat × Nat)} {j:Nat}:∀ {af:List Nat},Nat.testBit (Zd7 cl af) j=true->j ∈ af\/∃ i ∈ af,Nat.testBit (Zxq i cl) j=true
 | [],h=>by simp [Zd7] at h
 | a :: r,h=>by
  simp only [Zd7] at h;have h':((2 ^ a ||| Zxq a cl) ||| Zd7 cl r).testBit j=true:=h;rw [Nat.testBit_or,Nat.testBit_or,Bool.or_eq_true,Bool.or_eq_true,Nat.testBit_two_pow] at h';rcases h' with (h' | h') | h'
  . simp at h';exact .inl (by simp [h'])
  . exact .inr ⟨a,by simp,h'⟩
  . rcases Zgr h' with h' | ⟨i,hi,h'⟩
    . exact .inl (by simp [h'])
    . exact .inr ⟨i,by simp [hi],h'⟩
def Zjm (io:Ins) (o:Oper):Prop:=(∀ e ∈ o.after,Region.binds .any e=true->e.on ∈ io.af)/\∀ j ∈ io.af,∃ e ∈ o.after,Region.binds .any e=true/\e.on=j
theorem W3 {all:List It} {x:It} {cl:List (Nat × Nat)} (hcl:Zh8 all cl) (ha:Zjm x.2.1 x.2.2) {j:Nat} (h:Nat.testBit (Zd7 cl x.2.1.af) j=true):W7 all x j:=by
 intro listed hd hp;have hl:∀ i ∈ x.2.1.af,listed.getD i false=true:=λi hi=>by
  obtain ⟨e,he,hb,rfl⟩:=ha.2 i hi;exact hp e he hb
 rcases Zgr h with h | ⟨i,hi,h⟩
 . exact hl j h
 . exact hcl i j h listed hd (hl i hi)
theorem ZeV {all:List It} {x:It} {cl:List (Nat × Nat)} (hcl:Zh8 all cl) (ha:Zjm x.2.1 x.2.2) (hx:x ∈ all):Zh8 all ((x.1,Zd7 cl x.2.1.af) :: cl):=by
 intro i j h listed hd hl;simp only [Zxq] at h;cases hq:Nat.beq i x.1
 . rw [hq] at h;exact hcl i j h listed hd hl
 . rw [hq] at h;have:=Nat.eq_of_beq_eq_true hq;subst this;exact W3 hcl ha h listed hd (λe he hb=>hd x hx hl e he hb)
end
def ZCG (D:List Nat) (W:List (Nat × Nat)) (i:Nat) (io:Ins) (done:List Nat) (cl:List (Nat × Nat)):Bool :=
 io.af.all (λj=>Xw j done) && !Xw i done && D.all (λj=>Nat.testBit (Zd7 cl io.af) j) && (Wh io).all λt=>W.all λq=>!Nat.beq q.1 t || !Xw q.2 done || Nat.testBit (Zd7 cl io.af) q.2
def phS (D:List Nat) (W:List (Nat × Nat)):List (Nat × Ins)->List Nat->List (Nat × Nat)->Option (List Nat × List (Nat × Nat))
 | [],done,cl=>some (done,cl)
 | (i,io) :: r,done,cl=>bif ZCG D W i io done cl then phS D W r (i :: done) ((i,Zd7 cl io.af) :: cl) else none
def phT:List (Nat × Ins)->List Nat->List (Nat × Nat)->Option (List Nat × List (Nat × Nat))
 | [],done,cl=>some (done,cl)
 | (i,io) :: r,done,cl=>bif io.af.all (λj=>Xw j done) && !Xw i done && done.all (λj=>Nat.testBit (Zd7 cl io.af) j) then phT r (i :: done) ((i,Zd7 cl io.af) :: cl) else none
def wOf:List (Nat × Ins)->List (Nat × Nat)
 | []=>[]
 | (i,io) :: r=>match io.d with
  | some t=>(t,i) :: wOf r
  | none=>wOf r
theorem Zlp {i t:Nat} {io:Ins}:∀ {l:List (Nat × Ins)},(i,io) ∈ l->io.d=some t->(t,i) ∈ wOf l
 | (j,jo) :: l,h,hd=>by
  rcases List.mem_cons.1 h with h | h
  . cases h;simp [wOf,hd]
  . have:=Zlp h hd;simp only [wOf];split
    . simp [this]
    . exact this
theorem ZbP {D:List Nat} {W:List (Nat × Nat)} {all:List It}:∀ (L:List It) (done:List Nat) (cl:List (Nat × Nat)) (done':List Nat) (cl':List (Nat × Nat)),phS D W (L.map λx=>(x.1,x.2.1)) done cl=some (done',cl') ->
 (∀ x ∈ L,x ∈ all/\Zjm x.2.1 x.2.2)->Zh8 all cl ->
 Zh8 all cl'/\(∀ j,j ∈ done'↔j ∈ done\/j ∈ L.map (·.1))/\(∀ l1 x l2,L=l1 ++ x :: l2->∀ t ∈ Wh x.2.1,∀ q ∈ W,q.1=t->q.2 ∈ done\/q.2 ∈ l1.map (·.1)->W7 all x q.2) /\
  (∀ l1 x l2,L=l1 ++ x :: l2->∀ d ∈ x.2.2.after,Region.binds .any d=true->d.on ∈ done\/d.on ∈ l1.map (·.1))/\∀ x ∈ L,∀ j ∈ D,W7 all x j
 | [],done,cl,done',cl',h,_,hcl=>by
  simp only [List.map_nil,phS,Option.some.injEq,Prod.mk.injEq] at h;obtain ⟨rfl,rfl⟩:=h;exact ⟨hcl,λj=>by simp,λl1 x l2 h=>by simp at h,λl1 x l2 h=>by simp at h,λx hx=>by simp at hx⟩
 | x :: L,done,cl,done',cl',h,hall,hcl=>by
  simp only [List.map_cons,phS] at h;cases hk:ZCG D W x.1 x.2.1 done cl
  . rw [hk] at h;cases h
  . rw [hk] at h;simp only [cond_true] at h;simp only [ZCG,Bool.and_eq_true,List.all_eq_true] at hk;obtain ⟨⟨⟨k1,k2⟩,k4⟩,k3⟩:=hk;obtain ⟨hxa,haf⟩:=hall x (List.mem_cons_self ..);obtain ⟨r1,r2,r3,r4,r5⟩:=ZbP L (x.1 :: done) _ done' cl' h (λy hy=>hall y (by simp [hy])) (ZeV hcl haf hxa);refine ⟨r1,λj=>?_,λl1 y l2 he t ht q hq hqt hqd=>?_,λl1 y l2 he d hd hb=>?_,λy hy j hj=>?_⟩
    . rw [r2 j];simp only [List.mem_cons,List.map_cons];constructor
      . rintro ((h | h) | h)<;>simp [h]
      . rintro (h | h | h)<;>simp [h]
    . cases l1 with
      | nil =>
       simp at he;obtain ⟨rfl,rfl⟩:=he;have hm:Xw q.2 done=true:=ZU.2 (by simpa using hqd);have:=k3 t ht q hq;rw [hqt,nbr,hm] at this;exact W3 hcl haf (by simpa using this)
      | cons z l1 =>
       simp at he;obtain ⟨rfl,rfl⟩:=he;refine r3 l1 y l2 rfl t ht q hq hqt ?_;rcases hqd with h | h
       . exact .inl (by simp [h])
       . simp only [List.map_cons,List.mem_cons] at h ⊢;rcases h with h | h
         . exact .inl (.inl h)
         . exact .inr h
    . cases l1 with
      | nil=>simp at he;obtain ⟨rfl,rfl⟩:=he;exact .inl (ZU.1 (k1 _ (haf.1 d hd hb)))
      | cons z l1 =>
       simp at he;obtain ⟨rfl,rfl⟩:=he;rcases r4 l1 y l2 rfl d hd hb with h | h
       . rcases List.mem_cons.1 h with h | h
         . exact .inr (by simp [h])
         . exact .inl h
       . exact .inr (by simp at h ⊢;exact .inr h)
    . rcases List.mem_cons.1 hy with rfl | hy
      . exact W3 hcl haf (k4 j hj)
      . exact r5 y hy j hj
theorem ZbX {all:List It}:∀ (T:List It) (done:List Nat) (cl:List (Nat × Nat)) (done':List Nat) (cl':List (Nat × Nat)),phT (T.map λx=>(x.1,x.2.1)) done cl=some (done',cl') ->
 (∀ x ∈ T,x ∈ all/\Zjm x.2.1 x.2.2)->Zh8 all cl ->
 Zh8 all cl'/\(∀ j,j ∈ done'↔j ∈ done\/j ∈ T.map (·.1))/\(∀ y ∈ T,∀ j ∈ done,W7 all y j) /\
  ∀ (sz:Nat) (R:List It),(∀ j ∈ done,j < sz)->(∀ x ∈ T,x.1 < sz)->(∀ y ∈ R,∀ j ∈ done',W7 all y j)->(∀ j ∈ (T ++ R).map (·.1),j ∉ done)->((T ++ R).map (·.1)).Nodup->TOk sz all R T
 | [],done,cl,done',cl',h,_,hcl=>by
  simp only [List.map_nil,phT,Option.some.injEq,Prod.mk.injEq] at h;obtain ⟨rfl,rfl⟩:=h;exact ⟨hcl,λj=>by simp,λy hy=>by simp at hy,λ_ _ _ _ _ _ _=>trivial⟩
 | x :: T,done,cl,done',cl',h,hall,hcl=>by
  simp only [List.map_cons,phT] at h;cases hk:x.2.1.af.all (λj=>Xw j done) && !Xw x.1 done && done.all (λj=>Nat.testBit (Zd7 cl x.2.1.af) j)
  . rw [hk] at h;cases h
  rw [hk] at h;simp only [cond_true] at h;simp only [Bool.and_eq_true,List.all_eq_true] at hk;obtain ⟨⟨k1,k2⟩,k3⟩:=hk;obtain ⟨hxa,haf⟩:=hall x (List.mem_cons_self ..);obtain ⟨r1,r2,r3,r4⟩:=ZbX T (x.1 :: done) _ done' cl' h (λy hy=>hall y (by simp [hy])) (ZeV hcl haf hxa);refine ⟨r1,λj=>?_,λy hy j hj=>?_,λsz R hdn hsz hR hdis hnd=>⟨λd hd hb=>?_,λy hy=>?_,?_⟩⟩
  . rw [r2 j];simp only [List.mem_cons,List.map_cons];constructor
    . rintro ((h | h) | h)<;>simp [h]
    . rintro (h | h | h)<;>simp [h]
  . rcases List.mem_cons.1 hy with rfl | hy
    . exact W3 hcl haf (k3 j hj)
    . exact r3 y hy j (by simp [hj])
  . have:=ZU.1 (k1 _ (haf.1 d hd hb));exact ⟨hdn _ this,λhm=>hdis _ (by rw [List.cons_append];exact hm) this⟩
  . rcases List.mem_append.1 hy with hy | hy
    . exact r3 y hy x.1 (by simp)
    . exact hR y hy x.1 ((r2 _).2 (.inl (by simp)))
  . rw [List.cons_append,List.map_cons,List.nodup_cons] at hnd;refine r4 sz R (λj hj=>?_) (λy hy=>hsz y (by simp [hy])) hR (λj hj hm=>?_) hnd.2
    . rcases List.mem_cons.1 hj with rfl | hj
      . exact hsz x (by simp)
      . exact hdn j hj
    . rcases List.mem_cons.1 hm with rfl | hm
      . exact hnd.1 hj
      . exact hdis j (by rw [List.cons_append,List.map_cons];exact List.mem_cons_of_mem _ hj) hm
def afB (io:Ins) (o:Oper):Bool :=
 o.after.toList.all (λe=>!Region.binds .any e || Xw e.on io.af) && io.af.all λj=>o.after.toList.any λe=>Region.binds .any e && Nat.beq e.on j
theorem Znr {io:Ins} {o:Oper} (h:afB io o=true):Zjm io o:=by
 simp only [afB,Bool.and_eq_true,List.all_eq_true,List.any_eq_true,Bool.or_eq_true,Bool.not_eq_true'] at h;obtain ⟨h1,h2⟩:=h;refine ⟨λe he hb=>?_,λj hj=>?_⟩
 . rcases h1 e (by simpa using he) with h | h
   . rw [hb] at h;cases h
   . exact ZU.1 h
 . obtain ⟨e,he,hb,hj⟩:=h2 j hj;exact ⟨e,by simpa using he,hb,Nat.eq_of_beq_eq_true hj⟩
def Ze3 (P:Program) (os:Array Oper):List Nat->List Ins->Option (List It)
 | [],[]=>some []
 | i :: r,io :: s=>match os[i]?,Ze3 P os r s with
  | some o,some l=>bif VN P os io o && afB io o then some ((i,io,o) :: l) else none
  | _,_=>none
 | _,_=>none
theorem Zck {P:Program} {os:Array Oper}:∀ {ord:List Nat} {ops:List Ins} {l:List It},Ze3 P os ord ops=some l ->
 l.map (·.1)=ord/\l.map (·.2.1)=ops/\∀ x ∈ l,os[x.1]? = some x.2.2/\VN P os x.2.1 x.2.2=true/\Zjm x.2.1 x.2.2
 | [],[],l,h=>by simp [Ze3] at h;subst h;simp
 | i :: r,io :: s,l,h=>by
  simp only [Ze3] at h;split at h
  . rename_i o l' ho hl';cases hb:VN P os io o && afB io o
    . rw [hb] at h;cases h
    . rw [hb] at h;simp only [cond_true,Option.some.injEq] at h;subst h;simp only [Bool.and_eq_true] at hb;obtain ⟨h1,h2,h3⟩:=Zck hl';refine ⟨by simp [h1],by simp [h2],λx hx=>?_⟩;rcases List.mem_cons.1 hx with rfl | hx
      . exact ⟨ho,hb.1,Znr hb.2⟩
      . exact h3 x hx
  . cases h
 | [],_ :: _,_,h=>by simp [Ze3] at h
 | _ :: _,[],_,h=>by simp [Ze3] at h
def neD (d:Option Nat) (t:Nat):Bool :=
 match d with
 | none=>true
 | some u=>!Nat.beq u t
theorem Zch {d:Option Nat} {t:Nat} (h:neD d t=true):d≠some t:=by
 rintro rfl;simp [neD,nbr] at h
def Zmt (x:Ins × List X) (r:List (Ins × List X)):Bool :=
 (Wh x.1).all (λt=>neD x.1.d t) && (match x.1.d with | none=>true | some t=>r.all λy=>neD y.1.d t) &&
  x.2.all λh=>(rdX h).all λt=>neD x.1.d t && r.all λy=>neD y.1.d t
def ZaG:List (Ins × List X)->Bool
 | []=>true
 | x :: r=>Zmt x r && ZaG r
theorem ZaW {W:El->El->Prop}:∀ (es:List El),(es.Pairwise λe y=>(∃ hp,e.kd = .v hp)\/∀ hp,y.kd = .v hp->hp=[])->ZaG (es.map λe=>(e.io,e.hx))=true->(∀ l1 e l2,es=l1 ++ e :: l2->∀ t ∈ Wh e.io,∀ y ∈ l2,y.io.d=some t->isB e.io=false/\W y e)->ZmY W es
 | [],_,_,_=>trivial
 | e :: es,hk,h,hW=>by
  simp only [List.map_cons,ZaG,Zmt,Bool.and_eq_true,Bool.or_eq_true,List.all_eq_true] at h;obtain ⟨⟨⟨h2,h3⟩,h5⟩,h4⟩:=h;obtain ⟨hk1,hk⟩:=List.pairwise_cons.1 hk;have mem:∀ y ∈ es,(y.io,y.hx) ∈ es.map (λe=>(e.io,e.hx)):=λy hy=>List.mem_map.2 ⟨y,hy,rfl⟩;refine ⟨?_,λt ht=>⟨Zch (h2 t ht),λy hy hd=>hW [] e es rfl t ht y hy hd⟩,λt ht y hy=>?_,λx hx t ht=>⟨Zch (h5 x hx t ht).1,λy hy=>Zch ((h5 x hx t ht).2 _ (mem y hy))⟩,ZaW es hk h4 λl1 e' l2 he=>hW (e :: l1) e' l2 (by rw [he];rfl)⟩
  . rcases Classical.em (∃ hp,e.kd = .v hp) with h | h
    . exact .inl h
    . exact .inr (λy hy=>(hk1 y hy).resolve_left h)
  . rw [ht] at h3;simp only [List.all_eq_true] at h3;exact Zch (h3 _ (mem y hy))
def Zcl:List VI->List Ins
 | []=>[]
 | .op io :: r=>io :: Zcl r
 | .hide _ :: r=>Zcl r
def ZuM:List VI->List It->List VE
 | [],_=>[]
 | .op _ :: _,[]=>[]
 | .op _ :: r,x :: l=>.op x :: ZuM r l
 | .hide h :: r,l=>.hide h :: ZuM r l
theorem Zf8:∀ (vs:List VI) (l:List It),l.map (·.2.1)=Zcl vs->(ZuM vs l).map VE.vi=vs/\YA (ZuM vs l)=l
 | [],[],_=>⟨rfl,rfl⟩
 | [],_ :: _,h=>by simp [Zcl] at h
 | .op io :: r,[],h=>by simp [Zcl] at h
 | .op io :: r,x :: l,h=>by
  simp only [List.map_cons,Zcl,List.cons.injEq] at h;obtain ⟨h1,h2⟩:=Zf8 r l h.2;simp [ZuM,VE.vi,YA,h1,h2,h.1]
 | .hide x :: r,l,h=>by
  obtain ⟨h1,h2⟩:=Zf8 r l h;simp [ZuM,VE.vi,YA,h1,h2]
def eqX:X->X->Bool
 | .t a,.t b=>Nat.beq a b
 | _,_=>false
theorem ZA9 {x y:X} (h:eqX x y=true):x=y:=by
 unfold eqX at h;split at h
 . rw [Nat.eq_of_beq_eq_true h]
 . cases h
def ZDW (x:X) (io:Ins):Bool :=
 match x,io.d with
 | .t s,some t=>Nat.beq s t
 | _,_=>false
def prs (l:List It):List (Nat × Ins):=l.map λx=>(x.1,x.2.1)
def chB (cl:List (Nat × Nat)):List Nat->List It->Bool
 | _,[]=>true
 | pre,b :: r=>pre.all (λi=>Nat.testBit (Zd7 cl b.2.1.af) i) && chB cl (b.1 :: pre) r
def ZAF:List It->Bool
 | []=>true
 | x :: r=>(!Zat x.2.1 || r.all λy=>!Zat y.2.1) && ZAF r
theorem ZcQ:∀ {L:List It},ZAF L=true->∀ x ∈ L,∀ y ∈ L,Zat x.2.1=true->Zat y.2.1=true->x=y
 | [],_,x,hx,_,_,_,_=>by simp at hx
 | z :: L,h,x,hx,y,hy,h1,h2=>by
  simp only [ZAF,Bool.and_eq_true,Bool.or_eq_true,List.all_eq_true] at h;obtain ⟨g1,g2⟩:=h;rcases List.mem_cons.1 hx with rfl | hx
  . rcases List.mem_cons.1 hy with rfl | hy
    . rfl
    . rcases g1 with g1 | g1
      . rw [h1] at g1;cases g1
      . have:=g1 y hy;rw [h2] at this;cases this
  . rcases List.mem_cons.1 hy with hyz | hy
    . rcases g1 with g1 | g1
      . rw [<- hyz,h2] at g1;cases g1
      . have:=g1 x hx;rw [h1] at this;cases this
    . exact ZcQ g2 x hx y hy h1 h2
def isAd (v u:Nat) (x:It):Bool :=
 (match x.2.1.i with
  | .addo (.t v') _=>Nat.beq v v'
  | _=>false) && (match x.2.1.g with
  | none=>true
  | some _=>false) && (match x.2.1.d with
  | some u'=>Nat.beq u u'
  | none=>false)
def ZDv (l:List It) (h y:X):Bool :=
 match h,y with
 | .t v,.t u=>(l.all λx=>neD x.2.1.d v) && l.any (isAd v u)
 | _,_=>false
def ZAK (cl:List (Nat × Nat)):List It->Bool
 | []=>true
 | x :: r=>((Wh x.2.1).all λt=>r.all λy=>neD y.2.1.d t || (!isB x.2.1 && Nat.testBit (Zd7 cl y.2.1.af) x.1)) && ZAK cl r
def ckN (ve:List VE) (lA lB lT:List It):Option (List Nat × List (Nat × Nat))->Option (List Nat × List (Nat × Nat))
 | some q=>bif ((ZcE [] ve).all λp=>lB.all λb=>(isM b.2.1 || Zat b.2.1) || Nat.testBit (Zd7 q.2 b.2.1.af) p.1.1 || p.2.any (λh=>eqX (bX b.2.1) h || ZDv (YA ve ++ (lA ++ lB)) h (bX b.2.1)) || lA.any λa=>isA a.2.1 && ZDW (bX b.2.1) a.2.1) && chB q.2 (lA.map (·.1)) lB && ZAF (YA ve ++ (lA ++ lB)) && ZAK q.2 (YA ve ++ (lA ++ lB)) then phT (prs lT) q.1 q.2 else none
 | none=>none
def stL (ve:List VE) (lA lB:List It):List (Ins × List X):=(ZcE [] ve).map (λp=>(p.1.2.1,p.2)) ++ (lA.map (λx=>(x.2.1,[])) ++ lB.map λx=>(x.2.1,[]))
def ckM (done:List Nat) (cl:List (Nat × Nat)) (ve:List VE) (lA lB lT:List It):Option (List Nat × List (Nat × Nat)) :=
 bif (ZcE [] ve).all (λp=>isV p.1.2.1.i) && lA.all (λx=>ZDM x.2.1) && lB.all (λx=>ZCv x.2.1) && ZaG (stL ve lA lB) then
  ckN ve lA lB lT (phS done (wOf (prs (YA ve ++ (lA ++ lB)))) (prs (YA ve ++ (lA ++ lB))) done cl) else none
structure Ph where
 vs:List VI
 nA:Nat
 nB:Nat
 rest:List Ins
def Uy:List Ph->List Ins
 | []=>[]
 | p :: ps=>(Zcl p.vs ++ p.rest) ++ Uy ps
def ZiN:List Ph->List It->List Nat->List (Nat × Nat)->Bool
 | [],l,_,_=>l.isEmpty
 | p :: ps,l,done,cl =>
  match bif Nat.ble (p.nA+p.nB) p.rest.length then ckM done cl (ZuM p.vs (l.take (Zcl p.vs).length)) ((l.drop (Zcl p.vs).length).take p.nA) (((l.drop (Zcl p.vs).length).drop p.nA).take p.nB) ((((l.drop (Zcl p.vs).length).drop p.nA).drop p.nB).take (p.rest.length - p.nA - p.nB)) else none with
  | some q=>ZiN ps ((((l.drop (Zcl p.vs).length).drop p.nA).drop p.nB).drop (p.rest.length - p.nA - p.nB)) q.1 q.2
  | none=>false
def ckL (sz:Nat) (ord:List Nat) (ps:List Ph):Option (List It)->Bool
 | some l=>ZiN ps l [] [] && Nat.beq ord.length sz && (List.range sz).all λj=>Xw j ord
 | none=>false
def ckD (P:Program) (os:Array Oper) (ord:List Nat) (ps:List Ph):Bool:=ckL os.size ord ps (Ze3 P os ord (Uy ps))
theorem Zdf {all:List It} {cl:List (Nat × Nat)} (hcl:Zh8 all cl):∀ (L:List It),ZAK cl L=true->(∀ x ∈ L,Zjm x.2.1 x.2.2)->∀ l1 x l2,L=l1 ++ x :: l2->∀ t ∈ Wh x.2.1,∀ y ∈ l2,y.2.1.d=some t->isB x.2.1=false/\W7 all y x.1
 | [],_,_,l1,x,l2,h=>by simp at h
 | z :: L,h,ha,l1,x,l2,he=>by
  simp only [ZAK,Bool.and_eq_true] at h;cases l1 with
  | nil =>
   simp at he;obtain ⟨rfl,rfl⟩:=he;intro t ht y hy hd;have:=List.all_eq_true.1 (List.all_eq_true.1 h.1 t ht) y hy;rw [Bool.or_eq_true] at this;rcases this with h1 | h1
   . exact absurd hd (Zch h1)
   . rw [Bool.and_eq_true] at h1;exact ⟨by simpa using h1.1,W3 hcl (ha y (by simp [hy])) h1.2⟩
  | cons u l1 =>
   simp at he;obtain ⟨rfl,rfl⟩:=he;exact Zdf hcl _ h.2 (λx hx=>ha x (by simp [hx])) l1 x l2 rfl
theorem ZeG {all:List It} {cl:List (Nat × Nat)} (hcl:Zh8 all cl):∀ (lB:List It) (pre:List Nat),chB cl pre lB=true->(∀ b ∈ lB,Zjm b.2.1 b.2.2) ->
 (∀ b ∈ lB,∀ i ∈ pre,W7 all b i)/\∀ l1 b l2,lB=l1 ++ b :: l2->∀ b' ∈ l2,W7 all b' b.1
 | [],_,_,_=>⟨λb h=>by simp at h,λl1 b l2 h=>by simp at h⟩
 | b :: r,pre,h,ha=>by
  simp only [chB,Bool.and_eq_true,List.all_eq_true] at h;obtain ⟨h1,h2⟩:=h;obtain ⟨k1,k2⟩:=ZeG hcl r (b.1 :: pre) h2 (λx hx=>ha x (by simp [hx]));refine ⟨λx hx i hi=>?_,λl1 x l2 he y hy=>?_⟩
  . rcases List.mem_cons.1 hx with rfl | hx
    . exact W3 hcl (ha _ (by simp)) (h1 i hi)
    . exact k1 x hx i (by simp [hi])
  . cases l1 with
    | nil=>simp at he;obtain ⟨rfl,rfl⟩:=he;exact k1 y hy b.1 (by simp)
    | cons z l1=>simp at he;exact k2 l1 x l2 he.2 y hy
theorem ZnR {α β γ : Type} {f:α->γ} {g:β->γ} {l:List α} {m:List β} (h:l.map f=m.map g) {a:α} (ha:a ∈ l):∃ b ∈ m,f a=g b:=by
 have:f a ∈ m.map g:=by rw [<- h];exact List.mem_map.2 ⟨a,ha,rfl⟩
 obtain ⟨b,hb,e⟩:=List.mem_map.1 this;exact ⟨b,hb,e.symm⟩
theorem Zus {D:List Nat} {W:List (Nat × Nat)}:∀ (L:List It) (done:List Nat) (cl:List (Nat × Nat)) (done':List Nat) (cl':List (Nat × Nat)),phS D W (L.map λx=>(x.1,x.2.1)) done cl=some (done',cl') ->
 (L.map (·.1)).Nodup/\(∀ j ∈ L.map (·.1),j ∉ done)/\∀ j,j ∈ done'↔j ∈ done\/j ∈ L.map (·.1)
 | [],done,cl,done',cl',h=>by
  simp only [List.map_nil,phS,Option.some.injEq,Prod.mk.injEq] at h;obtain ⟨rfl,rfl⟩:=h;exact ⟨by simp,λj h=>by simp at h,λj=>by simp⟩
 | x :: L,done,cl,done',cl',h=>by
  simp only [List.map_cons,phS] at h;cases hk:ZCG D W x.1 x.2.1 done cl
  . rw [hk] at h;cases h
  . rw [hk] at h;simp only [cond_true] at h;simp only [ZCG,Bool.and_eq_true] at hk;have hnd:x.1 ∉ done:=λhm=>by have k2:=hk.1.1.2;rw [ZU.2 hm] at k2;cases k2
    obtain ⟨r1,r2,r3⟩:=Zus L (x.1 :: done) _ done' cl' h;refine ⟨?_,λj hj=>?_,λj=>?_⟩
    . rw [List.map_cons,List.nodup_cons];exact ⟨λhm=>r2 _ hm (by simp),r1⟩
    . rw [List.map_cons,List.mem_cons] at hj;rcases hj with rfl | hj
      . exact hnd
      . exact λhm=>r2 j hj (by simp [hm])
    . rw [r3 j];simp only [List.mem_cons,List.map_cons];constructor
      . rintro ((h | h) | h)<;>simp [h]
      . rintro (h | h | h)<;>simp [h]
theorem Zur:∀ (L:List It) (done:List Nat) (cl:List (Nat × Nat)) (done':List Nat) (cl':List (Nat × Nat)),phT (L.map λx=>(x.1,x.2.1)) done cl=some (done',cl') ->
 (L.map (·.1)).Nodup/\(∀ j ∈ L.map (·.1),j ∉ done)/\∀ j,j ∈ done'↔j ∈ done\/j ∈ L.map (·.1)
 | [],done,cl,done',cl',h=>by
  simp only [List.map_nil,phT,Option.some.injEq,Prod.mk.injEq] at h;obtain ⟨rfl,rfl⟩:=h;exact ⟨by simp,λj h=>by simp at h,λj=>by simp⟩
 | x :: L,done,cl,done',cl',h=>by
  simp only [List.map_cons,phT] at h;cases hk:x.2.1.af.all (λj=>Xw j done) && !Xw x.1 done && done.all (λj=>Nat.testBit (Zd7 cl x.2.1.af) j)
  . rw [hk] at h;cases h
  . rw [hk] at h;simp only [cond_true] at h;simp only [Bool.and_eq_true] at hk;have hnd:x.1 ∉ done:=λhm=>by have k2:=hk.1.2;rw [ZU.2 hm] at k2;cases k2
    obtain ⟨r1,r2,r3⟩:=Zur L (x.1 :: done) _ done' cl' h;refine ⟨?_,λj hj=>?_,λj=>?_⟩
    . rw [List.map_cons,List.nodup_cons];exact ⟨λhm=>r2 _ hm (by simp),r1⟩
    . rw [List.map_cons,List.mem_cons] at hj;rcases hj with rfl | hj
      . exact hnd
      . exact λhm=>r2 j hj (by simp [hm])
    . rw [r3 j];simp only [List.mem_cons,List.map_cons];constructor
      . rintro ((h | h) | h)<;>simp [h]
      . rintro (h | h | h)<;>simp [h]
def gs0 (l:List Nat) (p:Prop):Prop :=
 match l with
 | []=>p
 | _ :: _=>False
def phK (f:St->RK->Prop) (K:RK):RK
 | .n,σ=>f σ K
 | .pan s,σ=>K (.pan s) σ
 | _,_=>False
def phx (P:Program) (Y:Hd):Ph->List Ph->St->RK->Prop
 | p,[],σ,K=>gs0 σ.gs (rxv P Y (ZdX σ.hp (rx P Y p.rest)) p.vs σ K)
 | p,q :: ps,σ,K=>gs0 σ.gs (rxv P Y (ZdX σ.hp (rx P Y p.rest)) p.vs σ (phK (phx P Y q ps) K))
theorem ZbY {p:Ph} {ps:List Ph} {l:List It} {done:List Nat} {cl:List (Nat × Nat)} (h:ZiN (p :: ps) l done cl=true) (ho:l.map (·.2.1)=Uy (p :: ps)) :
 ∃ ve lA lB lT lR done1 cl1 done2 cl2,l=YA ve ++ (lA ++ lB) ++ (lT ++ lR)/\ve.map VE.vi=p.vs/\p.rest=(lA.map (·.2.1)) ++ (lB.map (·.2.1) ++ lT.map (·.2.1))/\lR.map (·.2.1)=Uy ps /\
  (∀ x ∈ ZcE [] ve,isV x.1.2.1.i=true)/\(∀ x ∈ lA,ZDM x.2.1=true)/\(∀ x ∈ lB,ZCv x.2.1=true)/\ZaG (stL ve lA lB)=true /\
  phS done (wOf (prs (YA ve ++ (lA ++ lB)))) (prs (YA ve ++ (lA ++ lB))) done cl=some (done1,cl1) /\
  ((ZcE [] ve).all λp=>lB.all λb=>(isM b.2.1 || Zat b.2.1) || Nat.testBit (Zd7 cl1 b.2.1.af) p.1.1 || p.2.any (λh=>eqX (bX b.2.1) h || ZDv (YA ve ++ (lA ++ lB)) h (bX b.2.1)) || lA.any λa=>isA a.2.1 && ZDW (bX b.2.1) a.2.1)=true/\chB cl1 (lA.map (·.1)) lB=true/\ZAF (YA ve ++ (lA ++ lB))=true/\ZAK cl1 (YA ve ++ (lA ++ lB))=true /\
  phT (prs lT) done1 cl1=some (done2,cl2)/\ZiN ps lR done2 cl2=true:=by
 simp only [ZiN] at h;split at h
 case h_2=>cases h
 rename_i q hq;cases hble:Nat.ble (p.nA+p.nB) p.rest.length
 . rw [hble] at hq;cases hq
 rw [hble] at hq;simp only [cond_true] at hq;have hble:=Nat.le_of_ble_eq_true hble;simp only [Uy] at ho;have hV:(l.take (Zcl p.vs).length).map (·.2.1)=Zcl p.vs:=by rw [List.map_take,ho,List.append_assoc];exact List.take_left' rfl
 have hR:(l.drop (Zcl p.vs).length).map (·.2.1)=p.rest ++ Uy ps:=by rw [List.map_drop,ho,List.append_assoc];exact List.drop_left' rfl
 obtain ⟨e1,e2⟩:=Zf8 p.vs _ hV;generalize hve:ZuM p.vs (l.take (Zcl p.vs).length)=ve at hq e1 e2;generalize hA:(l.drop (Zcl p.vs).length).take p.nA=lA at hq;generalize hB:((l.drop (Zcl p.vs).length).drop p.nA).take p.nB=lB at hq;generalize hT:(((l.drop (Zcl p.vs).length).drop p.nA).drop p.nB).take (p.rest.length - p.nA - p.nB)=lT at hq;generalize hRR:(((l.drop (Zcl p.vs).length).drop p.nA).drop p.nB).drop (p.rest.length - p.nA - p.nB)=lR at h
 have hsplit:l=YA ve ++ (lA ++ lB) ++ (lT ++ lR):=by
  rw [e2,<- hA,<- hB,<- hT,<- hRR,List.append_assoc,List.append_assoc,List.take_append_drop,List.take_append_drop,List.take_append_drop,List.take_append_drop]
 have hparts:lA.map (·.2.1) ++ (lB.map (·.2.1) ++ (lT.map (·.2.1) ++ lR.map (·.2.1)))=p.rest ++ Uy ps:=by
  rw [<- hR,<- hA,<- hB,<- hT,<- hRR,<- List.map_append,List.take_append_drop,<- List.map_append,List.take_append_drop,<- List.map_append,List.take_append_drop]
 unfold ckM at hq;cases hc:((ZcE [] ve).all (λp=>isV p.1.2.1.i) && lA.all (λx=>ZDM x.2.1) && lB.all (λx=>ZCv x.2.1) && ZaG (stL ve lA lB))
 . rw [hc] at hq;cases hq
 rw [hc] at hq;simp only [cond_true] at hq;simp only [Bool.and_eq_true] at hc;obtain ⟨⟨⟨c1,c2⟩,c3⟩,c4⟩:=hc;cases hs:phS done (wOf (prs (YA ve ++ (lA ++ lB)))) (prs (YA ve ++ (lA ++ lB))) done cl with
 | none=>rw [hs] at hq;cases hq
 | some q1 =>
  obtain ⟨done1,cl1⟩:=q1;rw [hs] at hq;simp only [ckN] at hq;cases hd:(((ZcE [] ve).all λp=>lB.all λb=>(isM b.2.1 || Zat b.2.1) || Nat.testBit (Zd7 cl1 b.2.1.af) p.1.1 || p.2.any (λh=>eqX (bX b.2.1) h || ZDv (YA ve ++ (lA ++ lB)) h (bX b.2.1)) || lA.any λa=>isA a.2.1 && ZDW (bX b.2.1) a.2.1) && chB cl1 (lA.map (·.1)) lB && ZAF (YA ve ++ (lA ++ lB)) && ZAK cl1 (YA ve ++ (lA ++ lB)))
  . rw [hd] at hq;cases hq
  rw [hd] at hq;simp only [cond_true] at hq;simp only [Bool.and_eq_true] at hd;have hlen:lA.length+lB.length+lT.length=p.rest.length:=by
   have h1:=congrArg List.length hR;simp only [List.length_map,List.length_append,List.length_drop] at h1;have h2:lA.length=min p.nA (l.length - (Zcl p.vs).length):=by rw [<- hA,List.length_take,List.length_drop]
   have h3:lB.length=min p.nB (l.length - (Zcl p.vs).length - p.nA):=by rw [<- hB,List.length_take,List.length_drop,List.length_drop]
   have h4:lT.length=min (p.rest.length - p.nA - p.nB) (l.length - (Zcl p.vs).length - p.nA - p.nB):=by rw [<- hT,List.length_take,List.length_drop,List.length_drop,List.length_drop]
   omega
  have hrest:p.rest=(lA.map (·.2.1)) ++ (lB.map (·.2.1) ++ lT.map (·.2.1))/\lR.map (·.2.1)=Uy ps:=by
   have h5:(lA.map (·.2.1) ++ (lB.map (·.2.1) ++ lT.map (·.2.1))) ++ lR.map (·.2.1)=p.rest ++ Uy ps:=by rw [<- hparts];simp
   have:=List.append_inj h5 (by simp;omega);exact ⟨this.1.symm,this.2⟩
  exact ⟨ve,lA,lB,lT,lR,done1,cl1,q.1,q.2,hsplit,e1,hrest.1,hrest.2,List.all_eq_true.1 c1,List.all_eq_true.1 c2,List.all_eq_true.1 c3,c4,hs,hd.1.1.1,hd.1.1.2,hd.1.2,hd.2,hq,h⟩
theorem Zdj {all:List It}:∀ (ps:List Ph) (l:List It) (done:List Nat) (cl:List (Nat × Nat)),ZiN ps l done cl=true->l.map (·.2.1)=Uy ps->(∀ x ∈ l,x ∈ all/\Zjm x.2.1 x.2.2)->Zh8 all cl->∀ y ∈ l,∀ j ∈ done,W7 all y j
 | [],l,done,cl,h,_,_,_,y,hy,j,hj=>by
  simp only [ZiN,List.isEmpty_iff] at h;subst h;cases hy
 | p :: ps,l,done,cl,h,ho,hall,hcl,y,hy,j,hj=>by
  obtain ⟨ve,lA,lB,lT,lR,done1,cl1,done2,cl2,hsplit,-,-,hoR,-,-,-,-,hq,-,-,-,-,hqT,hR⟩:=ZbY h ho;have hin:∀ x,x ∈ YA ve ++ (lA ++ lB) ++ (lT ++ lR)->x ∈ all/\Zjm x.2.1 x.2.2:=λx hx=>hall x (by rw [hsplit];exact hx);obtain ⟨s1,s2,s3,s4,s5⟩:=ZbP (all:=all) (YA ve ++ (lA ++ lB)) _ _ _ _ hq (λx hx=>hin x (List.mem_append_left _ hx)) hcl;obtain ⟨t1,t2,t3,t4⟩:=ZbX (all:=all) lT _ _ _ _ hqT (λx hx=>hin x (List.mem_append_right _ (List.mem_append_left _ hx))) s1
  rw [hsplit] at hy;rcases List.mem_append.1 hy with hy | hy
  . exact s5 y hy j hj
  . rcases List.mem_append.1 hy with hy | hy
    . exact t3 y hy j ((s2 j).2 (.inl hj))
    . exact Zdj ps lR done2 cl2 hR hoR (λx hx=>hin x (List.mem_append_right _ (List.mem_append_right _ hx))) t1 y hy j ((t2 j).2 (.inl ((s2 j).2 (.inl hj))))
theorem ZnO:∀ (ps:List Ph) (l:List It) (done:List Nat) (cl:List (Nat × Nat)),ZiN ps l done cl=true->l.map (·.2.1)=Uy ps->(l.map (·.1)).Nodup/\∀ j ∈ l.map (·.1),j ∉ done
 | [],l,done,cl,h,_=>by
  simp only [ZiN,List.isEmpty_iff] at h;subst h;exact ⟨by simp,λj h=>by simp at h⟩
 | p :: ps,l,done,cl,h,ho=>by
  obtain ⟨ve,lA,lB,lT,lR,done1,cl1,done2,cl2,hsplit,-,-,hoR,-,-,-,-,hq,-,-,-,-,hqT,hR⟩:=ZbY h ho;obtain ⟨a1,a2,a3⟩:=Zus (YA ve ++ (lA ++ lB)) _ _ _ _ hq;obtain ⟨b1,b2,b3⟩:=Zur lT _ _ _ _ hqT;obtain ⟨c1,c2⟩:=ZnO ps lR done2 cl2 hR hoR;subst hsplit;simp only [List.map_append (l₁:=YA ve ++ (lA ++ lB)),List.map_append (l₁:=lT)];refine ⟨?_,λj hj hd=>?_⟩
  . rw [List.nodup_append];refine ⟨a1,?_,λi hi j hj hij=>?_⟩
    . rw [List.nodup_append];refine ⟨b1,c1,λi hi j hj hij=>?_⟩;subst hij;exact c2 i hj ((b3 i).2 (.inr hi))
    . subst hij;rcases List.mem_append.1 hj with hj | hj
      . exact b2 i hj ((a3 i).2 (.inr hi))
      . exact c2 i hj ((b3 i).2 (.inl ((a3 i).2 (.inr hi))))
  . rcases List.mem_append.1 hj with hj | hj
    . exact a2 j hj hd
    . rcases List.mem_append.1 hj with hj | hj
      . exact b2 j hj ((a3 j).2 (.inl hd))
      . exact c2 j hj ((b3 j).2 (.inl ((a3 j).2 (.inl hd))))
theorem Zcw {P:Program} {C:Cx} {Y:Hd} (hY:Zdg P C Y) {os:Array Oper} {all:List It} {Q:Exit->Act->World->Prop} (l3:∀ x ∈ all,os[x.1]? = some x.2.2/\VN P os x.2.1 x.2.2=true/\Zjm x.2.1 x.2.2) (hndA:(all.map (·.1)).Nodup) (hcov:∀ j,j < os.size->j ∈ all.map (·.1))
 {K:RK} {ps:List Ph} {p:Ph} {l Ds:List It} {done:List Nat} {cl:List (Nat × Nat)} {σ : St} {listed:Array Bool} {E:Env} {a:Act} {w:World} (hck:ZiN (p :: ps) l done cl=true) (ho:l.map (·.2.1)=Uy (p :: ps)) (hall:all=Ds ++ l)
 (hdone:∀ j,j ∈ done↔j ∈ Ds.map (·.1)) (hcl0:Zh8 all cl) (hg:σ.gs=[]) (hr:rxv P Y (ZdX σ.hp (rx P Y p.rest)) p.vs σ K)
 (hend:∀ (lR:List It) (done2:List Nat) (cl2:List (Nat × Nat)) (Ds':List It),ZiN ps lR done2 cl2=true->lR.map (·.2.1)=Uy ps->all=Ds' ++ lR->(∀ j,j ∈ done2↔j ∈ Ds'.map (·.1))->Zh8 all cl2 ->
  ∀ (listed:Array Bool) (σ : St) E a w,K .n σ->listed.size=os.size->(∀ j,j < os.size->(listed.getD j false=false↔j ∈ lR.map (·.1)))->Zic listed all->Sim C E σ a w->ZhF C.rd P .any os Q lR.length listed a w)
 (hpan:∀ s σ' E a w y,K (.pan s) σ'->Sim C E σ' a w->R w E (ltn σ'.n) (okS C E σ'.hp) s y->Q (.panic [{ v:=y,recovered:=false }]) a w)
 (hsz:listed.size=os.size) (hun:∀ j,j < os.size->(listed.getD j false=false↔j ∈ l.map (·.1))) (hdn:Zic listed all) (hs:Sim C E σ a w):ZhF C.rd P .any os Q l.length listed a w:=by
 obtain ⟨ve,lA,lB,lT,lR,done1,cl1,done2,cl2,hsplit,e1,hrest,hoR,c1,c2,c3,c4,hq,c8,c9,c11,c10,hqT,hckR⟩:=ZbY hck ho;have hallD:all=Ds ++ (YA ve ++ (lA ++ lB) ++ (lT ++ lR)):=by rw [hall,hsplit]
 have hinL:∀ x ∈ YA ve ++ (lA ++ lB) ++ (lT ++ lR),x ∈ all:=λx hx=>by rw [hallD];exact List.mem_append_right _ hx
 have hinS:∀ x ∈ YA ve ++ (lA ++ lB),x ∈ all:=λx hx=>hinL x (List.mem_append_left _ hx);have hinT:∀ x ∈ lT,x ∈ all:=λx hx=>hinL x (List.mem_append_right _ (List.mem_append_left _ hx));have hinR:∀ x ∈ lR,x ∈ all:=λx hx=>hinL x (List.mem_append_right _ (List.mem_append_right _ hx));have hinA:∀ x ∈ lA,x ∈ all:=λx hx=>hinS x (by simp [hx]);have hinB:∀ x ∈ lB,x ∈ all:=λx hx=>hinS x (by simp [hx])
 have hinV:∀ x ∈ YA ve,x ∈ all:=λx hx=>hinS x (by simp [hx]);have hlt:∀ x ∈ all,x.1 < os.size:=λx hx=>(Array.getElem?_eq_some_iff.1 (l3 x hx).1).1;have c8':=c8;simp only [List.all_eq_true,Bool.or_eq_true,List.any_eq_true,Bool.and_eq_true] at c8;obtain ⟨s1,s2,s3,s4,s5⟩:=ZbP (all:=all) (YA ve ++ (lA ++ lB)) _ _ done1 cl1 hq (λx hx=>⟨hinS x hx,(l3 x (hinS x hx)).2.2⟩) hcl0;obtain ⟨t1,t2,t3,t4⟩:=ZbX (all:=all) lT done1 cl1 done2 cl2 hqT (λx hx=>⟨hinT x hx,(l3 x (hinT x hx)).2.2⟩) s1
 have hRneeds:=Zdj (all:=all) ps lR done2 cl2 hckR hoR (λx hx=>⟨hinR x hx,(l3 x (hinR x hx)).2.2⟩) t1;have hTR:∀ y ∈ lT ++ lR,∀ j ∈ done1,W7 all y j:=λy hy j hj=>by
  rcases List.mem_append.1 hy with hy | hy
  . exact t3 y hy j hj
  . exact hRneeds y hy j ((t2 j).2 (.inl hj))
 have hnd':=hndA;rw [hallD,List.map_append,List.nodup_append] at hnd';have hndS:=hnd'.2.1;rw [List.map_append,List.nodup_append] at hndS;have hTRdis:∀ j ∈ (lT ++ lR).map (·.1),j ∉ done1:=λj hj hm=>by
  rcases (s2 j).1 hm with h | h
  . exact hnd'.2.2 j ((hdone j).1 h) j (by rw [List.map_append];exact List.mem_append_right _ hj) rfl
  . exact hndS.2.2 j h j hj rfl
 have hTOk:=t4 os.size lR (λj hj=>by
  rcases (s2 j).1 hj with h | h
  . obtain ⟨x,hx,rfl⟩:=List.mem_map.1 ((hdone j).1 h);exact hlt x (by rw [hall];exact List.mem_append_left _ hx)
  . obtain ⟨x,hx,rfl⟩:=List.mem_map.1 h
    exact hlt x (hinS x hx)) (λx hx=>hlt x (hinT x hx)) hRneeds hTRdis hndS.2.1
 obtain ⟨u1,u2⟩:=ZeG s1 lB _ c9 (λb hb=>(l3 b (hinB b hb)).2.2);have hgs:gsOK σ:=λt j b s h=>hs.gs t j b s h;have hvmem:∀ p ∈ ZcE [] ve,p.1 ∈ YA ve:=λp hp=>by rw [<- Za8 ve []];exact List.mem_map.2 ⟨p,hp,rfl⟩
 have hhid:∀ p ∈ ZcE [] ve,∀ h ∈ p.2,∀ t ∈ rdX h,p.1.2.1.d≠some t:=by
  have:∀ (L:List (Ins × List X)),ZaG L=true->∀ p ∈ L,∀ h ∈ p.2,∀ t ∈ rdX h,p.1.d≠some t:=by
   intro L
   induction L with
   | nil=>intro _ p hp;simp at hp
   | cons y L ih =>
    intro hL p hp h hh t ht;simp only [ZaG,Zmt,Bool.and_eq_true,List.all_eq_true] at hL;rcases List.mem_cons.1 hp with rfl | hp
    . exact Zch (hL.1.2 h hh t ht).1
    . exact ih hL.2 p hp h hh t ht
  intro p hp h hh t ht;exact this _ c4 (p.1.2.1,p.2) (by simp only [stL];exact List.mem_append_left _ (List.mem_map.2 ⟨p,hp,rfl⟩)) h hh t ht
 rw [<- e1] at hr;obtain ⟨esV,σ1,hpm,v1,v2,v3,v4,v5,v6⟩:=runV (os:=os) ve [] σ σ.hp (λp hp=>⟨(l3 p.1 (hinV _ (hvmem p hp))).2.1,c1 p hp,hhid p hp⟩) hgs (λk=>.inr rfl) (λx hx=>by simp at hx) hr;have v6':rx P Y p.rest σ1 K:=by
  have:rx P Y p.rest ⟨σ1.fr,σ.hp,σ1.n,σ1.N,σ1.gs⟩ K:=v6;rw [<- v4] at this;exact this
 rw [hrest] at v6';obtain ⟨esA,σ2,a1,a2,a3,a4,a5⟩:=runA (os:=os) lA σ1 (λx hx=>⟨(l3 x (hinA x hx)).2.1,c2 x hx⟩) v5 v6';obtain ⟨esB,σF,b1,b2,b3,b4,b5⟩:=runB (os:=os) lB σ2 (λx hx=>⟨(l3 x (hinB x hx)).2.1,c3 x hx⟩) a4 a5;have hrun:Run P os (esV ++ (esA ++ esB)) σ σF:=Zan v1 (Zan a1 b1);have hVk:∀ e ∈ esV,∃ p ∈ ZcE [] ve,(e.it,e.hx)=p:=λe he=>by
  have:(e.it,e.hx) ∈ ZcE [] ve:=by rw [<- v2];exact List.mem_map.2 ⟨e,he,rfl⟩
  exact ⟨_,this,rfl⟩
 have hAk:∀ e ∈ esA,∃ x ∈ lA,(e.it,e.hx)=(x,[]):=λe he=>ZnR a2 he;have hBk:∀ e ∈ esB,∃ x ∈ lB,(e.it,e.hx)=(x,[]):=λe he=>ZnR b2 he;have hkd:(esV ++ (esA ++ esB)).Pairwise λe y=>(∃ hp,e.kd = .v hp)\/∀ hp,y.kd = .v hp->hp=[]:=by
  have right:∀ y ∈ esA ++ esB,∀ hp,y.kd = .v hp->hp=[]:=λy hy hp h=>by
   rcases List.mem_append.1 hy with hy | hy
   . rcases a3 y hy with ⟨k,hb,hk⟩ | ⟨hk,_⟩
     . rw [hk] at h;cases h
     . rw [hk] at h;cases h;rfl
   . rcases b3 y hy with ⟨⟨k,h0,hb,hk⟩,_⟩ | ⟨hk,_⟩
     . rw [hk] at h;cases h
     . rw [hk] at h;cases h;rfl
  rw [List.pairwise_append];refine ⟨List.pairwise_of_forall_mem_list λe he _ _=>.inl (v3 e he),List.pairwise_of_forall_mem_list λ_ _ y hy=>.inr (right y hy),λe he _ _=>.inl (v3 e he)⟩
 have hst:(esV ++ (esA ++ esB)).map (λe=>(e.io,e.hx))=stL ve lA lB:=by
  have g1:esV.map (λe=>(e.io,e.hx))=(ZcE [] ve).map (λp=>(p.1.2.1,p.2)):=by rw [<- v2,List.map_map];rfl
  have g2:esA.map (λe=>(e.io,e.hx))=lA.map (λx=>(x.2.1,[])):=by
   have:=congrArg (List.map λ(p:It × List X)=>(p.1.2.1,p.2)) a2;rw [List.map_map,List.map_map] at this;exact this
  have g3:esB.map (λe=>(e.io,e.hx))=lB.map (λx=>(x.2.1,[])):=by
   have:=congrArg (List.map λ(p:It × List X)=>(p.1.2.1,p.2)) b2;rw [List.map_map,List.map_map] at this;exact this
  rw [List.map_append,List.map_append,g1,g2,g3];rfl
 have hits:(esV ++ (esA ++ esB)).map El.it=YA ve ++ (lA ++ lB):=by
  have g1:esV.map El.it=YA ve:=by rw [<- Za8 ve [],<- v2,List.map_map];rfl
  have g2:esA.map El.it=lA:=by
   have:=congrArg (List.map λ(p:It × List X)=>p.1) a2;rw [List.map_map,List.map_map] at this;exact this.trans (by simp [Function.comp_def])
  have g3:esB.map El.it=lB:=by
   have:=congrArg (List.map λ(p:It × List X)=>p.1) b2;rw [List.map_map,List.map_map] at this;exact this.trans (by simp [Function.comp_def])
  rw [List.map_append,List.map_append,g1,g2,g3]
 have hsrule:=ZaW (W:=λy e=>W7 all y.it e.ix) _ hkd (by rw [hst];exact c4) (λl1 e l2 he t ht y hy hd=>Zdf s1 _ c10 (λx hx=>(l3 x (hinS x hx)).2.2) (l1.map El.it) e.it (l2.map El.it) (by rw [<- hits,he];simp) t ht y.it (List.mem_map.2 ⟨y,hy,rfl⟩) hd);have F:=runS (hp0:=σ.hp) _ σ σF hsrule hgs (.inl rfl) hrun;generalize hes:esV ++ (esA ++ esB)=es at hrun hkd hst hsrule F hits;have hein:∀ e ∈ es,e.it ∈ YA ve ++ (lA ++ lB):=λe he=>by rw [<- hits];exact List.mem_map.2 ⟨e,he,rfl⟩
 have hdd:∀ (es:List El),ZmY (λy e=>W7 all y.it e.ix) es->∀ x ∈ es,∀ y ∈ es,∀ t,x.io.d=some t->y.io.d=some t->x=y:=by
  intro es
  induction es with
  | nil=>intro _ x hx;simp at hx
  | cons z L ih =>
   intro h x hx y hy t h1 h2;rcases List.mem_cons.1 hx with e1 | hx'
   . rcases List.mem_cons.1 hy with e2 | hy'
     . rw [e1,e2]
     . rw [e1] at h1;exact absurd h2 (h.2.2.1 t h1 y hy')
   . rcases List.mem_cons.1 hy with e2 | hy'
     . rw [e2] at h2;exact absurd h1 (h.2.2.1 t h2 x hx')
     . exact ih h.2.2.2.2 x hx' y hy' t h1 h2
 have hbmem:∀ b ∈ es,∀ k h0 h1,b.kd = .b k h0 h1->b.it ∈ lB:=λb hb k h0 h1 hk=>by
  rw [<- hes] at hb;rcases List.mem_append.1 hb with hb | hb
  . obtain ⟨hp,h⟩:=v3 b hb;rw [hk] at h;cases h
  . rcases List.mem_append.1 hb with hb | hb
    . rcases a3 b hb with ⟨k',hb',h⟩ | ⟨h,_⟩<;>rw [hk] at h<;>cases h
    . obtain ⟨x,hx,h⟩:=hBk b hb;have:b.it=x:=congrArg (·.1) h;rw [this];exact hx
 have hvmem2:∀ e ∈ es,∀ hp,e.kd = .v hp->(e.it,e.hx) ∈ ZcE [] ve\/hp=[]:=λe he hp hk=>by
  rw [<- hes] at he;rcases List.mem_append.1 he with he | he
  . left;rw [<- v2];exact List.mem_map.2 ⟨e,he,rfl⟩
  . rcases List.mem_append.1 he with he | he
    . rcases a3 e he with ⟨k',hb',h⟩ | ⟨h,_⟩<;>rw [hk] at h<;>cases h
      exact .inr rfl
    . rcases b3 e he with ⟨⟨k',h0',hb',h⟩,_⟩ | ⟨h,_⟩<;>rw [hk] at h<;>cases h
      exact .inr rfl
 have hidx:∀ e ∈ es,e.ix ∈ done1:=λe he=>(s2 _).2 (.inr (List.mem_map.2 ⟨e.it,hein e he,rfl⟩));have H:Free P os all Ds (lT ++ lR) es σ σF:=by
  refine ⟨λy hy=>(l3 y hy).1,λy hy=>(l3 y hy).2.1,by rw [hits];exact hallD,hndA,hcov,λa1 e a2 he d hd hb=>?_,λl1 e l2 hs' t ht e' he' hd=>?_,?_,λy hy e he=>hTR y hy e.ix (hidx e he),λe he e' he' t h1 h2=>?_,F,hgs,λe he b hb hp k h0 h1 hk hk'=>?_,λb hb b' hb' g1 g2=>congrArg (·.1) (ZcQ c11 b.it (hein b hb) b'.it (hein b' hb') g1 g2),λa1 e a2 he e' he' k hk hk'=>?_,hs.hs.kn⟩
  . rcases s4 (a1.map El.it) e.it (a2.map El.it) (by rw [<- hits,he];simp) d hd hb with h | h
    . exact .inr ((hdone _).1 h)
    . rw [List.map_map] at h;exact .inl h
  . have he'':e' ∈ es:=by rw [hs'];simp [he']
    exact s3 (l1.map El.it) e.it (l2.map El.it) (by rw [<- hits,hs'];simp) t ht (t,e'.ix) (Zlp (List.mem_map.2 ⟨e'.it,hein e' he'',rfl⟩) hd) rfl (.inr (by rw [List.map_map];exact List.mem_map.2 ⟨e',he',rfl⟩))
  . have:∀ (es:List El),ZmY (λy e=>W7 all y.it e.ix) es->∀ e ∈ es,∀ t ∈ Wh e.io,e.io.d≠some t:=by
     intro es
     induction es with
     | nil=>intro _ e he;simp at he
     | cons z L ih =>
      intro h e he t ht;rcases List.mem_cons.1 he with rfl | he
      . exact (h.2.1 t ht).1
      . exact ih h.2.2.2.2 e he t ht
    exact this es hsrule
  . rw [hdd es hsrule e he e' he' t h1 h2]
  . have hbl:=hbmem b hb k h0 h1 hk';rcases hvmem2 e he hp hk with hel | rfl
    case inr=>exact .inr (.inl rfl)
    rcases c8 _ hel _ hbl with (((h | h) | h) | ⟨x,hx,h⟩) | ⟨x,hx,hxA,h⟩
    . exfalso;have h':isM b.io=true:=h;have hb':=hb;rw [<- hes] at hb';rcases List.mem_append.1 hb' with g | g
      . obtain ⟨hp,g⟩:=v3 b g;rw [hk'] at g;cases g
      . rcases List.mem_append.1 g with g | g
        . rcases a3 b g with ⟨_,_,g⟩ | ⟨g,_⟩<;>rw [hk'] at g<;>cases g
        . rcases b3 b g with ⟨_,g⟩ | ⟨g,_⟩
          . rw [isM_B h'] at g;cases g
          . rw [hk'] at g;cases g
    . exact .inr (.inr h)
    . exact .inl (W3 s1 (l3 _ (hinB _ hbl)).2.2 h)
    . right;left;rcases h with h | h
      . have:=ZA9 h;have hbx:bX b.io ∈ e.hx:=by
         have h2:bX b.io=x:=this;rw [h2];exact hx
        obtain ⟨k',g1,g2⟩:=F.hid e he hp hk _ hbx;rw [F.bk b hb k h0 h1 hk'] at g1;cases g1;exact g2
      . have h':ZDv (YA ve ++ (lA ++ lB)) x (bX b.io)=true:=h;unfold ZDv at h';split at h'
        . rename_i v u hbu;rw [Bool.and_eq_true,List.all_eq_true,List.any_eq_true] at h';obtain ⟨ha,z,hz,hzz⟩:=h';rw [<- hits] at hz;obtain ⟨ea,hea,rfl⟩:=List.mem_map.1 hz;simp only [isAd,Bool.and_eq_true] at hzz;obtain ⟨⟨z1,z2⟩,z3⟩:=hzz;have hz1:∃ q,ea.io.i = .addo (.t v) q:=by
           have z1':(match ea.io.i with | .addo (.t v') _=>Nat.beq v v' | _=>false)=true:=z1;split at z1'
           . rename_i v' q hq;rw [Nat.eq_of_beq_eq_true z1'];exact ⟨q,hq⟩
           . cases z1'
          have hz2:ea.io.g=none:=by
           have z2':(match ea.io.g with | none=>true | some _=>false)=true:=z2;split at z2'
           . assumption
           . cases z2'
          have hz3:ea.io.d=some u:=by
           have z3':(match ea.io.d with | some u'=>Nat.beq u u' | none=>false)=true:=z3;split at z3'
           . rename_i u' hq;rw [Nat.eq_of_beq_eq_true z3'];exact hq
           . cases z3'
          obtain ⟨q,hz1⟩:=hz1;have had:=F.ad ea hea v q u hz1 hz2 hz3 (λy hy=>Zch (ha y.it (by rw [<- hits];exact List.mem_map.2 ⟨y,hy,rfl⟩)));have hbx:X.t v ∈ e.hx:=hx;obtain ⟨k',g1,g2⟩:=F.hid e he hp hk _ hbx;have hbk:=F.bk b hb k h0 h1 hk';rw [hbu,had,g1] at hbk;cases hbk;exact g2
        . cases h'
    . right;left;have hxe:∃ ea ∈ es,ea.it=x/\∃ ka hb',ea.kd = .a ka hb':=by
       have:(x,([]:List X)) ∈ esA.map (λe=>(e.it,e.hx)):=by rw [a2];exact List.mem_map.2 ⟨x,hx,rfl⟩
       obtain ⟨ea,m1,m2⟩:=List.mem_map.1 this;have hio:ea.io=x.2.1:=by have:=congrArg (·.1) m2;rw [<- show ea.it=x from this];rfl
       rcases a3 ea m1 with ⟨ka,hb',m3⟩ | ⟨_,m3⟩
       . exact ⟨ea,by rw [<- hes];simp [m1],congrArg (·.1) m2,ka,hb',m3⟩
       . rw [hio] at m3;rw [isM_A m3] at hxA;cases hxA
      obtain ⟨ea,m1,m2,ka,hb',m3⟩:=hxe;have hio:ea.io=x.2.1:=by rw [<- m2];rfl
      have hbk:=F.bk b hb k h0 h1 hk';have hka:k=ka:=by
       unfold ZDW at h;split at h
       . rename_i s t e3 e4;have:=Nat.eq_of_beq_eq_true h;subst this;have h5:=F.av ea m1 ka hb' m3 s (by rw [hio];exact e4);have h6:bX b.io = .t s:=e3;rw [h6] at hbk;rcases h5 with h5 | h5
         . simp only [rdG,rd,h5,Xl,Zbm,Option.some.injEq] at hbk;exact hbk.symm
         . simp only [rdG,rd,h5,Xl,Zbm,Option.some.injEq] at hbk;exact hbk.symm
       . cases h
      subst hka;have:=(F.lo ea m1 k hb' m3).1;rcases F.vh e he hp hk k with g | g
      . exact g
      . rw [<- g];exact hs.hs.kn k (by simp only [ltn];omega)
  ·
   have hkb:(∃ k h0 h1,e'.kd = .b k h0 h1):=by
    cases hq':e'.kd with
    | v _=>rw [hq'] at hk';cases hk'
    | b _ _ _=>exact ⟨_,_,_,rfl⟩
    | a k2 hb2 =>
     exfalso;rw [hq'] at hk';simp only [Kd.key,Option.some.injEq] at hk';subst hk';have he1:e ∈ es:=by rw [he];simp
     have he2:e' ∈ es:=by rw [he];simp [he']
     cases hq2:e.kd with
     | v _=>rw [hq2] at hk;cases hk
     | a k3 hb3 =>
      rw [hq2] at hk;simp only [Kd.key,Option.some.injEq] at hk;subst hk;have hdf:=F.df;rw [he,List.pairwise_append] at hdf;exact (List.pairwise_cons.1 hdf.2.1).1 e' he' _ hb3 hb2 hq2 hq'
     | b k3 h03 hb3 =>
      rw [<- hes] at he;have hB2:e' ∈ esV ++ (esA ++ esB):=by rw [he];simp [he']
      have:∀ (u v:List El) (a1 a2:List El),u ++ v=a1 ++ e :: a2->e ∉ u->e' ∈ a2->e' ∈ v:=by
       intro u
       induction u with
       | nil=>intro v a1 a2 h _ hm;simp at h;rw [h];simp [hm]
       | cons z u ih =>
        intro v a1 a2 h hn hm;cases a1 with
        | nil=>simp at h;exact absurd h.1 (λe=>hn (by simp [e]))
        | cons y a1=>simp at h;exact ih v a1 a2 h.2 (λhh=>hn (by simp [hh])) hm
      have h8:=this (esV ++ esA) esB a1 a2 (by rw [<- he];simp) (λhh=>by
       rcases List.mem_append.1 hh with hh | hh
       . obtain ⟨_,g⟩:=v3 e hh;rw [hq2] at g;cases g
       . rcases a3 e hh with ⟨_,_,g⟩ | ⟨g,_⟩<;>rw [hq2] at g<;>cases g) he'
      rcases b3 e' h8 with ⟨⟨_,_,_,g⟩,_⟩ | ⟨g,_⟩
      . rw [hq'] at g;cases g
      . rw [hq'] at g;cases g
   obtain ⟨k2,h02,hb2,hq'⟩:=hkb;have he2:e' ∈ es:=by rw [he];simp [he']
   have hbl:=hbmem e' he2 _ _ _ hq';cases hq2:e.kd with
   | v _=>rw [hq2] at hk;cases hk
   | a k3 hb3 =>
    refine u1 _ hbl e.ix ?_;have he1:e ∈ es:=by rw [he];simp
    rw [<- hes] at he1;rcases List.mem_append.1 he1 with g | g
    . obtain ⟨_,g⟩:=v3 e g;rw [hq2] at g;cases g
    . rcases List.mem_append.1 g with g | g
      . obtain ⟨x,hx,g⟩:=hAk e g;have:e.it=x:=congrArg (·.1) g;exact List.mem_map.2 ⟨x,hx,by rw [<- this];rfl⟩
      . obtain ⟨⟨_,_,_,g⟩,_⟩ | ⟨g,_⟩:=b3 e g<;>rw [hq2] at g<;>cases g
   | b k3 h03 hb3 =>
    have:∀ (u v:List El) (a1 a2:List El),u ++ v=a1 ++ e :: a2->e ∉ u->∃ v1,v=v1 ++ e :: a2:=by
     intro u
     induction u with
     | nil=>intro v a1 a2 h _;exact ⟨a1,by simpa using h⟩
     | cons z u ih =>
      intro v a1 a2 h hn;cases a1 with
      | nil=>simp at h;exact absurd h.1 (λe=>hn (by simp [e]))
      | cons y a1=>simp at h;exact ih v a1 a2 h.2 (λhh=>hn (by simp [hh]))
    obtain ⟨w1,hw1⟩:=this (esV ++ esA) esB a1 a2 (by rw [<- he,<- hes];simp) (λhh=>by
     rcases List.mem_append.1 hh with hh | hh
     . obtain ⟨_,g⟩:=v3 e hh;rw [hq2] at g;cases g
     . rcases a3 e hh with ⟨_,_,g⟩ | ⟨g,_⟩<;>rw [hq2] at g<;>cases g)
    have hlB:lB=w1.map El.it ++ e.it :: a2.map El.it:=by
     have:=congrArg (List.map λ(p:It × List X)=>p.1) b2;rw [List.map_map,List.map_map] at this;have h9:esB.map El.it=lB:=this.trans (by simp [Function.comp_def]);rw [<- h9,hw1];simp
    exact u2 _ _ _ hlB e'.it (List.mem_map.2 ⟨e',he',rfl⟩)
 have hlistes:∀ e ∈ es,listed.getD e.ix false=false:=λe he=>(hun _ (hlt _ (hinS _ (hein e he)))).2 (by rw [hsplit,List.map_append];exact List.mem_append_left _ (List.mem_map.2 ⟨e.it,hein e he,rfl⟩));have hlistT:∀ y ∈ lT ++ lR,listed.getD y.1 false=false:=λy hy=>(hun _ (hlt _ (hinL y (List.mem_append_right _ hy)))).2 (by rw [hsplit,List.map_append];exact List.mem_append_right _ (List.mem_map.2 ⟨y,hy,rfl⟩))
 have hlistD:∀ y ∈ Ds,listed.getD y.1 false=true:=λy hy=>by
  cases hql:listed.getD y.1 false
  . have hyl:=(hun _ (hlt y (by rw [hall];exact List.mem_append_left _ hy))).1 hql;rw [hsplit] at hyl;exact absurd rfl (hnd'.2.2 y.1 (List.mem_map.2 ⟨y,hy,rfl⟩) y.1 hyl)
  . rfl
 have hcount:(es.filter λe=>!listed.getD e.ix false).length+(lT ++ lR).length=l.length:=by
  have h1:(es.filter λe=>!listed.getD e.ix false)=es:=by
   rw [List.filter_eq_self];intro e he;rw [hlistes e he];rfl
  have h2:es.length=(YA ve ++ (lA ++ lB)).length:=by rw [<- hits,List.length_map]
  rw [h1,h2,<- List.length_append,<- hsplit]
 have hT2:∀ (listed':Array Bool) E' a' w',listed'.size=os.size->(∀ j,j < os.size->(listed'.getD j false=false↔j ∈ (lT ++ lR).map (·.1)))->Zic listed' all->Sim C E' σF a' w'->ZhF C.rd P .any os Q (lT ++ lR).length listed' a' w':=λlisted' E' a' w' q1 q2 q3 q4 =>
  Zuh hY (λy hy=>(l3 y hy).1) (λy hy=>(l3 y hy).2.1) (hend lR done2 cl2 (Ds ++ (YA ve ++ (lA ++ lB) ++ lT)) hckR hoR (by rw [hallD];simp) (λj=>by
   rw [t2 j,s2 j,hdone j];simp only [List.map_append,List.mem_append];constructor
   . rintro ((h | h) | h)
     . exact .inl h
     . exact .inr (.inl h)
     . exact .inr (.inr h)
   . rintro (h | h | h)
     . exact .inl (.inl h)
     . exact .inl (.inr h)
     . exact .inr h) t1) hpan hinR lT listed' σF E' a' w' q1 q2 q3 hTOk hinT hndS.2.1 b5 q4
 have:=ZuF H hT2 _ listed E a w σ.hp rfl (ZhE H hsz hlistes hlistT hlistD hdn hg hs);rw [hcount] at this;exact this
theorem Ze8 {P:Program} {C:Cx} {Y:Hd} (hY:Zdg P C Y) {os:Array Oper} {all:List It} {Q:Exit->Act->World->Prop} (l3:∀ x ∈ all,os[x.1]? = some x.2.2/\VN P os x.2.1 x.2.2=true/\Zjm x.2.1 x.2.2) (hndA:(all.map (·.1)).Nodup) (hcov:∀ j,j < os.size->j ∈ all.map (·.1))
 {K:RK} (hK:LkQ C K Q):∀ (ps:List Ph) (p:Ph) (l Ds:List It) (done:List Nat) (cl:List (Nat × Nat)) (σ : St) (listed:Array Bool) (E:Env) (a:Act) (w:World),ZiN (p :: ps) l done cl=true->l.map (·.2.1)=Uy (p :: ps)->all=Ds ++ l ->
  (∀ j,j ∈ done↔j ∈ Ds.map (·.1))->Zh8 all cl->phx P Y p ps σ K->listed.size=os.size->(∀ j,j < os.size->(listed.getD j false=false↔j ∈ l.map (·.1)))->Zic listed all->Sim C E σ a w->ZhF C.rd P .any os Q l.length listed a w:=by
 intro ps
 induction ps with
 | nil =>
  intro p l Ds done cl σ listed E a w hck ho hall hdone hcl0 hr hsz hun hdn hs;cases hg:σ.gs with
  | cons j r=>simp only [phx,hg,gs0] at hr
  | nil =>
  simp only [phx,hg,gs0] at hr;refine Zcw hY l3 hndA hcov (K:=K) hck ho hall hdone hcl0 hg hr (λlR done2 cl2 Ds' hRck hRo hall' hdone' hcl' listed' σ' E' a' w' hk hsz' hun' hdn' hs'=>?_) (λs σ' E' a' w' y hk hs' hy=>hK (.pan s) σ' hk E' a' w' hs' y hy) hsz hun hdn hs;simp only [ZiN,List.isEmpty_iff] at hRck;subst hRck;refine ⟨?_,hK .n σ' hk E' a' w' hs'⟩;rw [List.eq_nil_iff_forall_not_mem];intro j hj
  obtain ⟨h1,o,h2,_⟩:=mem_ready.1 hj;have hlt:j < os.size:=(Array.getElem?_eq_some_iff.1 h2).1;have:=(hun' j hlt).1 (by simp [Array.getD,hsz',hlt] at h1 ⊢;exact h1);simp at this
 | cons q ps ih =>
  intro p l Ds done cl σ listed E a w hck ho hall hdone hcl0 hr hsz hun hdn hs;cases hg:σ.gs with
  | cons j r=>simp only [phx,hg,gs0] at hr
  | nil =>
  simp only [phx,hg,gs0] at hr
  exact Zcw hY l3 hndA hcov (K:=phK (phx P Y q ps) K) hck ho hall hdone hcl0 hg hr (λlR done2 cl2 Ds' hRck hRo hall' hdone' hcl' listed' σ' E' a' w' hk hsz' hun' hdn' hs' =>
   ih q lR Ds' done2 cl2 σ' listed' E' a' w' hRck hRo hall' hdone' hcl' hk hsz' hun' hdn' hs') (λs σ' E' a' w' y hk hs' hy=>hK (.pan s) σ' hk E' a' w' hs' y hy) hsz hun hdn hs
theorem ZcU {P:Program} {C:Cx} {Y:Hd} (hY:Zdg P C Y) {os:Array Oper} {ord:List Nat} {p:Ph} {ps:List Ph} {σ : St} {K:RK} {Q:Exit->Act->World->Prop} {E:Env} {a:Act} {w:World} {id:Nat} (hck:ckD P os ord (p :: ps)=true) (hm:P.follows .mixedOrders=true)
 (hr:phx P Y p ps σ K) (hK:LkQ C K Q) (hs:Sim C E σ a w):wpX C.rd P (Code.region id os true) Q a w:=by
 unfold ckD at hck;cases hl:Ze3 P os ord (Uy (p :: ps)) with
 | none=>rw [hl] at hck;cases hck
 | some l =>
  rw [hl] at hck;simp only [ckL,Bool.and_eq_true,List.all_eq_true,List.mem_range] at hck;obtain ⟨⟨h1,h2⟩,h3⟩:=hck;obtain ⟨l1,l2,l3⟩:=Zck hl;have hf:∀ j,(Array.replicate os.size false).getD j false=false:=λj=>by
   simp only [Array.getD,Array.size_replicate];split<;>simp
  have hlen:l.length=os.size:=by rw [<- Nat.eq_of_beq_eq_true h2,<- l1,List.length_map]
  have hcov:∀ j,j < os.size->j ∈ l.map (·.1):=λj hj=>by rw [l1];exact ZU.1 (h3 j hj)
  have hnd:=(ZnO (p :: ps) l [] [] h1 l2).1;refine ZcM hm ?_;have hs':=Zex hs (w.drawn+1);have:=Ze8 hY (all:=l) l3 hnd hcov hK ps p l [] [] [] σ (Array.replicate os.size false) E a _ h1 l2 rfl (λj=>by simp) (λi j h=>by simp [Zxq] at h) hr (by simp) (λj hj=>⟨λ_=>hcov j hj,λ_=>hf j⟩) (λx _ h=>(by rw [hf] at h;cases h)) hs';rw [hlen] at this;exact this
theorem ZiC {P:Program} {C:Cx} {Y:Hd} (hY:Zdg P C Y) {os:Array Oper} {ord:List Nat} {vs:List VI} {nA nB:Nat} {rest:List Ins} {σ : St} {K:RK} {Q:Exit->Act->World->Prop} {E:Env} {a:Act} {w:World} {id:Nat} (hck:ckD P os ord [⟨vs,nA,nB,rest⟩]=true) (hm:P.follows .mixedOrders=true)
 (hg:σ.gs=[]) (hr:rxv P Y (ZdX σ.hp (rx P Y rest)) vs σ K) (hK:LkQ C K Q) (hs:Sim C E σ a w):wpX C.rd P (Code.region id os true) Q a w :=
 ZcU hY hck hm (by simp only [phx,hg,gs0];exact hr) hK hs
inductive SC where
 | reg (ops:List Ins)
 | regd (ord:List Nat) (vs:List VI) (nA nB:Nat) (rest:List Ins)
 | regs (ord:List Nat) (p:Ph) (ps:List Ph)
 | seq (a b:SC)
 | cond (c:X) (a b:SC)
 | block (id:Nat) (c:SC)
 | loop (c:SC)
 | exit (id:Nat)
 | ret
 | skip
 | scope (c:SC)
 | label (l:Nat)
 | rfun (g:X) (ps:List Nat) (asg body:SC)
 | gh (c:SC)
abbrev CT:=St->(Ex->St->Prop)->Prop
def YH:Lf->Lf
 | []=>[]
 | (t,.gd _ _ _) :: r=>(t,.any) :: YH r
 | (t,s) :: r=>(t,s) :: YH r
def V4 (σ : St):St :=
 match σ.gs with
 | []=>σ
 | _ :: _=>⟨YH σ.fr,σ.hp,σ.n,σ.N,[]⟩
def Zd3 (K:Ex->St->Prop):Ex->St->Prop:=λe σ=>K e (V4 σ)
def Zxv (f:CT) (K:Ex->St->Prop):Ex->St->Prop
 | .n,σ=>f σ K
 | .ex i,σ=>K (.ex i) σ
 | .ret,σ=>K .ret σ
 | .pan s,σ=>K (.pan s) σ
def ZuK (id:Nat) (K:Ex->St->Prop):Ex->St->Prop
 | .n,σ=>K .n σ
 | .ex i,σ=>bif Nat.beq i id then K .n σ else K (.ex i) σ
 | .ret,σ=>K .ret σ
 | .pan s,σ=>K (.pan s) σ
def BR (b:Bool) (f g:CT) (σ : St) (K:Ex->St->Prop):Prop:=(b=true->f σ K)/\(b=false->g σ K)
def ZDV (c:SV) (f g:CT) (σ : St) (K:Ex->St->Prop):Prop :=
 match c with
 | .v (.bool b)=>BR b f g σ K
 | _=>False
def Ent (m:Nat) (σ σ':St):Prop:=∀ C E a w,MC C m->Sim C E σ a w->∃ E',Sim C E' σ' a w
def EntD (m:Nat) (σ σ1 σ2:St):Prop:=∀ C E a w,MC C m->Sim C E σ a w->(∃ E',Sim C E' σ1 a w)\/∃ E',Sim C E' σ2 a w
def GH (m:Nat) (r:CT) (σ : St) (K:Ex->St->Prop):Prop:=(∃ σ',Ent m σ σ'/\r σ' K)\/∃ σ1 σ2,EntD m σ σ1 σ2/\r σ1 K/\r σ2 K
theorem Zp {m:Nat} {σ : St}:Ent m σ σ:=λ_ E _ _ _ h=>⟨E,h⟩
theorem Yi {m:Nat} {σ σ' σ'':St} (h:Ent m σ σ') (h':Ent m σ' σ''):Ent m σ σ'':=λC E a w hm hs=>by
 obtain ⟨E',h1⟩:=h C E a w hm hs;exact h' C E' a w hm h1
theorem Yc {m:Nat} {σ : St} (t mm:Nat) (T:TypeId) (hg:σ.gs=[]) (hl:lk t σ.fr = .v (.slice none 0 0)):Ent m σ ⟨(t,.mr σ.n 0) :: σ.fr,(σ.n,.row 0 mm [] T) :: σ.hp,σ.n+1,σ.N,σ.gs⟩:=λC E a w _ h=>by
 obtain ⟨E',h1,h2,h3,h4,h5⟩:=XA (q:=σ.n) (m:=mm) (xs:=[]) (T:=T) (v:=.slice none 0 0) h.hs (by simp [ltn]) (Below.refl _ w) (.inl ⟨rfl,_,rfl⟩);have hV:(λk=>ltn σ.n k\/k = σ.n)=ltn (σ.n+1):=by funext k;simp only [ltn,eq_iff_iff];omega
 rw [hV] at h4;refine ⟨E',λu=>?_,h.sz,X5 h5 h.df,λu j b s hu=>?_,h4⟩
 . rw [ZN];split
   . rename_i hu;subst hu;have:=h.fr u;rw [hl] at this;simp only [FR,R] at this ⊢;rw [this,h2];exact ⟨by simp [ltn],by omega,rfl,rfl⟩
   . refine XD h5 h1 (λk hk=>by simp only [ltn] at *;omega) (λj b s hs=>?_) (h.fr u);have:=h.gs u j b s hs;rw [hg] at this;simp at this
 . rw [ZN] at hu;split at hu
   . cases hu
   . exact h.gs u j b s hu
theorem XE {m:Nat} {σ : St} (k i mm:Nat) (T:TypeId) {l:Ls} {T':TypeId} (hk:lkh k σ.hp = .cells l T') (hl:l[i]? = some (.v (.slice none 0 0))) :
 Ent m σ ⟨σ.fr,(k,.cells (l.set i (.mr σ.n 0)) T') :: (σ.n,.row 0 mm [] T) :: σ.hp,σ.n+1,σ.N,σ.gs⟩:=λC E a w _ h=>by
 obtain ⟨E',h1,h2,h3,h4,h5⟩:=XA (q:=σ.n) (m:=mm) (xs:=[]) (T:=T) (v:=.slice none 0 0) h.hs (by simp [ltn]) (Below.refl _ w) (.inl ⟨rfl,_,rfl⟩);have hV:(λk=>ltn σ.n k\/k = σ.n)=ltn (σ.n+1):=by funext k;simp only [ltn,eq_iff_iff];omega
 rw [hV] at h4;have hkn:k < σ.n:=by
  rcases Nat.lt_or_ge k σ.n with h' | h'
  . exact h'
  . rw [h.hs.kn k (by simp only [ltn];omega)] at hk;cases hk
 have hk2:lkh k ((σ.n,.row 0 mm [] T) :: σ.hp) = .cells l T':=by rw [Zu,if_neg (by omega)];exact hk
 have hocc:∀ b,occ E' k (.cells (l.set i (.mr σ.n 0)) T') b↔occ E' k (lkh k ((σ.n,.row 0 mm [] T) :: σ.hp)) b:=λb=>by rw [hk2];rfl
 obtain ⟨h6,h7⟩:=Wc (hb:=.cells (l.set i (.mr σ.n 0)) T') (B:=E'.β k) h4 hocc (by rw [hk2];rfl) ⟨rfl,rfl,rfl,rfl,λ_ _=>rfl⟩ (λhst=>by
  have hb:=h4.bk k;rw [hk2] at hb;simp only [Yr] at hb ⊢;obtain ⟨cs,e1,e2⟩:=hb;refine ⟨cs,e1,?_⟩;have e3:=ZL hst.c (λ_ _=>Ele.rfl) (λ_ h=>h) _ _ e2;have hi:i < l.length:=(List.getElem?_eq_some_iff.1 hl).1;obtain ⟨y,y1,y2⟩:=Vz e3 hl;simp only [R] at y2;subst y2;have hR:R w E' (ltn (σ.n+1)) (okS C E' ((k,HB.cells (l.set i (.mr σ.n 0)) T') :: (σ.n,HB.row 0 mm [] T) :: σ.hp)) (.mr σ.n 0) (.slice none 0 0):=by
   simp only [R];exact ⟨by simp [ltn],by omega,h2.symm,rfl⟩
  have hi2:=(List.getElem?_eq_some_iff.1 y1).1;have e4:=Yj (X8 i e3) (Yj (l:=[.mr σ.n 0]) (ys:=[.slice none 0 0]) (by simp only [RL];exact ⟨_,_,rfl,hR,rfl⟩) (Vb (i+1) e3));have g1:l.set i (.mr σ.n 0)=l.take i ++ ([.mr σ.n 0] ++ l.drop (i+1)):=by rw [List.set_eq_take_append_cons_drop,if_pos hi];rfl
  have g2:cs.toList=cs.toList.take i ++ ([.slice none 0 0] ++ cs.toList.drop (i+1)):=by
   have:cs.toList[i] = .slice none 0 0:=(List.getElem?_eq_some_iff.1 y1).2;rw [<- this,List.singleton_append,<- List.drop_eq_getElem_cons hi2,List.take_append_drop]
  rw [g2];rw [<- g1] at e4;exact e4)
 have hst:ZM w w (okS C E σ.hp) (okS C E' ((k,HB.cells (l.set i (.mr σ.n 0)) T') :: (σ.n,HB.row 0 mm [] T) :: σ.hp)):=λb hb hs=>by
  obtain ⟨q1,q2⟩:=h5 b hb hs;exact h7 b q1 hs
 refine ⟨E',λu=>?_,h.sz,X5 hst h.df,h.gs,h6⟩;exact XD hst h1 (λk hk=>by simp only [ltn] at *;omega) (λj b s hs=>Iff.rfl) (h.fr u)
def ZpU (m:Nat) {S:Type} (st:S->St) (rel:S->Prop) (μ : S->Nat) (s:S) (K:Ex->St->Prop):Ex->St->Prop
 | .n,σ=>∃ s',rel s'/\μ s' < μ s/\Ent m σ (st s')
 | .ex i,σ=>K (.ex i) σ
 | .ret,σ=>K .ret σ
 | .pan s,σ=>K (.pan s) σ
def ZAv (p:St->Prop) (K:Ex->St->Prop):Ex->St->Prop
 | .n,σ=>p σ
 | .ex i,σ=>K (.ex i) σ
 | .ret,σ=>K .ret σ
 | .pan s,σ=>K (.pan s) σ
def ZAu (f:CT) (K:Ex->St->Prop):Nat->St->Prop
 | 0,_=>False
 | n+1,σ=>f σ (ZAv (ZAu f K n) K)
def Zvr (m:Nat) (f:CT) (σ : St) (K:Ex->St->Prop):Prop :=
 (∃ n,ZAu f K n σ)\/∃ (S:Type) (st:S->St) (rel:S->Prop) (μ : S->Nat),(∃ s,rel s/\Ent m σ (st s))/\∀ s,rel s->f (st s) (ZpU m st rel μ s K)
def Ul (w:World) (r:Nat) (o:Obj):World:={ w with heap:=w.heap.setIfInBounds r o }
theorem Wd {w:World} {r:Nat} {o:Obj} (h:r < w.heap.size):(Ul w r o).heap[r]? = some o:=by simp [Ul,h]
theorem WX {w:World} {r k:Nat} {o:Obj} (h:k≠r):(Ul w r o).heap[k]? = w.heap[k]?:=by simp [Ul,Ne.symm h]
theorem Zcr {w:World} {r:Nat} {o:Obj}:(Ul w r o).heap.size=w.heap.size:=by simp [Ul]
def Zdw:Obj->Bool
 | .cells _ _ _=>false
 | _=>true
theorem Yn {P:Program} {w:World} {r:Nat} {o:Obj} (h:w.heap[r]? = some o) (hn:Zdw o=true):(getObj r).run P w = .ok o w:=by
 cases o<;>first | (simp [getObj,Sem.run,h];done) | (simp [Zdw] at hn)
theorem Y6 {P:Program} {w:World} {r:Nat} {o:Obj} (o':Obj) (h:w.heap[r]? = some o) (hn:Zdw o=true):(setObj r o').run P w = .ok () (Ul w r o'):=by
 cases o<;>first | (simp [setObj,Sem.run,h,Ul];done) | (simp [Zdw] at hn)
def Zuv (rec:Loop):HB->Prop
 | .lp r none=>r=rec
 | _=>False
def Zof (rec:Loop):HB->Prop
 | .lb r=>r=rec
 | _=>False
def pmS:List Nat->Ls->Lf
 | p :: ps,s :: l=>(p,s) :: pmS ps l
 | _,_=>[]
def bdE (kl:Nat) (rec:Loop) (Φ : Ot->Prop):Ex->St->Prop
 | .n,σ=>Zof rec (lkh kl σ.hp)/\Φ ⟨false,.v (.bool true),(kl,.lp rec none) :: σ.hp,σ.n⟩
 | .ex i,σ=>Zof rec (lkh kl σ.hp)/\Φ ⟨false,.v (.bool false),(kl,.lp rec (some (.ex i))) :: σ.hp,σ.n⟩
 | .ret,σ=>Zof rec (lkh kl σ.hp)/\Φ ⟨false,.v (.bool false),(kl,.lp rec (some .ret)) :: σ.hp,σ.n⟩
 | .pan s,σ=>Φ ⟨true,s,σ.hp,σ.n⟩
def asE (kl:Nat) (rec:Loop) (body:CT) (K:Ex->St->Prop):Ex->St->Prop
 | .n,σ=>Zuv rec (lkh kl σ.hp)/\body ⟨σ.fr,(kl,.lb rec) :: σ.hp,σ.n,σ.N,σ.gs⟩ K
 | .ex _,_=>False
 | .ret,_=>False
 | .pan _,_=>False
def Zoj:Ls->List Nat->Bool
 | [],[]=>true
 | _ :: l,_ :: m=>Zoj l m
 | _,_=>false
def rfB (b:Bool) (p:Prop):Prop :=
 match b with
 | true=>p
 | false=>False
theorem Zl2 {b:Bool} {p:Prop} (h:rfB b p):b=true/\p:=by cases b<;>first | exact h.elim | exact ⟨rfl,h⟩
def hdR (asg body:Nat->CT) (ps:List Nat) (kl:Nat) (rec:Loop) (fr:Lf) (N:Nat):Hd:=λk args hp n Φ =>
 rfB (Nat.beq k kl) (Zuv rec (lkh kl hp)/\rfB (Zoj args ps) (asg n ⟨pmS ps args ++ fr,hp,n,N,[]⟩ (asE kl rec (body n) (bdE kl rec Φ))))
def itE (σ : St) (K:Ex->St->Prop) (hp:Lh) (n:Nat):HB->Prop
 | .lp _ none=>K .n ⟨σ.fr,(σ.n,.gone) :: hp,n,σ.N,[]⟩
 | .lp _ (some (.ex i))=>K (.ex i) ⟨σ.fr,(σ.n,.gone) :: hp,n,σ.N,[]⟩
 | .lp _ (some .ret)=>K .ret ⟨σ.fr,(σ.n,.gone) :: hp,n,σ.N,[]⟩
 | _=>False
def itP (σ : St) (K:Ex->St->Prop) (o:Ot):Prop :=
 match o.pn with
 | false=>itE σ K o.hp o.n (lkh σ.n o.hp)
 | true=>K (.pan o.res) ⟨σ.fr,o.hp,o.n,σ.N,[]⟩
def ZaB (N:Nat):List Nat->Bool
 | []=>true
 | p :: ps=>bif Nat.blt p N then ZaB N ps else false
def RFUN (P:Program) (asg body:Nat->CT) (f:FuncId) (caps:Ls) (ps:List Nat) (σ : St) (K:Ex->St->Prop):Prop :=
 Z4 P f=true/\∀ rec,CtY P (hdR asg body ps σ.n rec σ.fr σ.N) f ((σ.n,.lp rec none) :: σ.hp) (σ.n+1) (.yl σ.n :: caps) (itP σ K)
def rfK (P:Program) (asg body:Nat->CT) (s:SV) (ps:List Nat) (σ : St) (K:Ex->St->Prop):Prop :=
 match s with
 | .cl f caps=>gs0 σ.gs (rfB (ZaB σ.N ps) (RFUN P asg body f caps ps σ K))
 | _=>False
section
variable {P:Program} {C:Cx} {E:Env} {hp:Lh} {w:World}
theorem Zel {Ci:Cx} {E':Env} {hp':Lh} {n n':Nat} {w1 w':World} (hh:HSim C E hp (ltn n) w) (hb:Below w.heap.size w w1) (c1:Ci.okp=okS C E hp) (c2:Ci.w0=w1) (c3:∀ k b,Ci.pass k b->occ E k (lkh k hp) b\/w.heap.size<=b)
 (c4:n<=Ci.m0) (c5:∀ k,k < n->Ele E Ci.e0 k k) (h:HSim Ci E' hp' (ltn n') w') :
 HSim C E' hp' (ltn n') w'/\ZM w w' (okS C E hp) (okS C E' hp')/\(∀ k,k < n->Ele E E' k k)/\n<=n'/\ZM w w' (okS C E hp) (okS Ci E' hp'):=by
 have hkeep:∀ b,b < w.heap.size->(∀ k,¬ occ E k (lkh k hp) b)->w'.heap[b]? = w.heap[b]?:=λb h1 h2=>by
  have q:=h.kp.block b (by rw [c2];exact Nat.lt_of_lt_of_le h1 hb.size) (λk hp'=>by
   rcases c3 k b hp' with hk | hk
   . exact h2 k hk
   . omega)
  rw [c2] at q;exact q.trans (hb.block b h1)
 have hsz:w.heap.size<=Ci.w0.heap.size:=by rw [c2];exact hb.size
 have hok:∀ b,okS Ci E' hp' b->okS C E' hp' b:=λb hb'=>by
  refine ⟨?_,hb'.2⟩;rcases hb'.1 with q | q
  . rw [c1] at q;exact q.1
  . exact .inr (Nat.le_trans hh.kp.size (Nat.le_trans hsz q))
 have hE:∀ k,k < n->Ele E E' k k:=λk hk=>by
  obtain ⟨_,p2⟩:=h.pin k (by omega);exact (c5 k hk).trans p2
 have hnn:n<=n':=by
  rcases Nat.eq_zero_or_pos n with e | e
  . omega
  . have:=(h.pin (n - 1) (by omega)).1;simp only [ltn] at this;omega
 have hsti:ZM w w' (okS C E hp) (okS Ci E' hp'):=λb hb' hs=>by
  have hlt:b < w.heap.size:=by
   obtain ⟨x,hx⟩:=Option.isSome_iff_exists.1 hs;exact (Array.getElem?_eq_some_iff.1 hx).1
  refine ⟨⟨.inl (by rw [c1];exact hb'),λk ho=>?_⟩,hkeep b hlt (λk=>hb'.2 k)⟩;rcases h.lo k b ho with q | q
  . omega
  . rcases c3 k b q with hj | hj
    . exact hb'.2 k hj
    . omega
 have hst:ZM w w' (okS C E hp) (okS C E' hp'):=λb hb' hs=>⟨hok b (hsti b hb' hs).1,(hsti b hb' hs).2⟩;refine ⟨⟨h.kn,λk=>?_,h.dj,λk b ho=>?_,⟨?_,?_,?_,Nat.le_trans hh.kp.size (Nat.le_trans hsz h.kp.size),λb h1 h3=>?_⟩,λk hk=>?_⟩,hst,hE,hnn,hsti⟩
 . refine XX (λb hb' _=>⟨hok b hb',rfl⟩) (λ_ _=>Ele.rfl) (λ_ h=>h) ?_ (λ_ _=>rfl) rfl (h.bk k);rcases Classical.em (ltn n' k) with hk | hk
   . exact .inr hk
   . exact .inl (h.kn k hk)
 . rcases h.lo k b ho with q | q
   . exact .inl (Nat.le_trans hh.kp.size (Nat.le_trans hsz q))
   . rcases c3 k b q with hj | hj
     . exact hh.lo k b hj
     . exact .inl (Nat.le_trans hh.kp.size hj)
 . rw [h.kp.os,c2,hb.os];exact hh.kp.os
 . rw [h.kp.tape,c2,hb.tape];exact hh.kp.tape
 . rw [h.kp.output,c2,hb.output];exact hh.kp.output
 . rw [hkeep b (Nat.lt_of_lt_of_le h1 hh.kp.size) (λk ho=>by rcases hh.lo k b ho with q | q;omega;exact h3 _ q)];exact hh.kp.block b h1 h3
 . obtain ⟨p1,p2⟩:=hh.pin k hk;have:=hE k p1;exact ⟨by simp only [ltn] at *;omega,p2.trans this⟩
theorem Vo {n:Nat->Prop} (h:HSim C E hp n w) (k:Nat):HSim C E ((k,.gone) :: hp) n w/\ZM w w (okS C E hp) (okS C E ((k,.gone) :: hp)):=by
 have hoc:∀ j b,occ E j (lkh j ((k,.gone) :: hp)) b->occ E j (lkh j hp) b:=λj b ho=>by
  rw [Zu] at ho;split at ho
  . exact ho.elim
  . exact ho
 have hst:ZM w w (okS C E hp) (okS C E ((k,.gone) :: hp)):=λb hb _=>⟨⟨hb.1,λj ho=>hb.2 j (hoc j b ho)⟩,rfl⟩;refine ⟨⟨λj hj=>?_,λj=>?_,λj j' b h1 h2=>h.dj j j' b (hoc j b h1) (hoc j' b h2),λj b ho=>h.lo j b (hoc j b ho),h.kp,h.pin⟩,hst⟩
 . rw [Zu];split
   . rfl
   . exact h.kn j hj
 . rw [Zu];split
   . trivial
   . refine YU hst (λ_ _=>Ele.rfl) (λ_ h=>h) ?_ (λ_ _=>rfl) rfl (h.bk j);rcases Classical.em (n j) with hk | hk
     . exact .inr hk
     . exact .inl (h.kn j hk)
theorem ZzT {n:Nat->Prop} {hp':Lh} (h:HSim C E hp n w) (e:∀ k,lkh k hp'=lkh k hp):HSim C E hp' n w/\okS C E hp'=okS C E hp:=by
 obtain ⟨h1,h2,_⟩:=ZcT e (λ_=>Iff.rfl) h;exact ⟨h1,h2⟩
theorem ZfE {n:Nat} {k b:Nat} (hh:HSim C E hp (ltn n) w) (h:occ E k (lkh k hp) b):k < n:=by
 rcases Nat.lt_or_ge k n with q | q
 . exact q
 . rw [hh.kn k (by simp only [ltn];omega)] at h;exact h.elim
def Cr (C:Cx) (E:Env) (hp:Lh) (n:Nat) (w:World) (r:Option Nat) (hh:HSim C E hp (ltn n) w):Cx:=⟨w,okS C E hp,λk b=>occ E k (lkh k hp) b,[],r,E,n,Zy hh,λ_ _ hg k=>Vn hh hg k⟩
theorem Zuu {n:Nat} {r:Option Nat} (hh:HSim C E hp (ltn n) w) (b:Nat):okS (Cr C E hp n w r hh) E hp b↔okS C E hp b:=by
 constructor
 . rintro ⟨h1 | h1,h2⟩
   . exact h1
   . exact WV hh h1
 . intro h;exact ⟨.inl h,h.2⟩
theorem ZzP {n:Nat} {r:Option Nat} (hh:HSim C E hp (ltn n) w):HSim (Cr C E hp n w r hh) E hp (ltn n) w:=by
 refine ⟨hh.kn,λk=>?_,hh.dj,λk b ho=>.inr ho,⟨rfl,rfl,rfl,Nat.le_refl _,λ_ _ _=>rfl⟩,λk hk=>⟨hk,Ele.rfl⟩⟩;have e:okS (Cr C E hp n w r hh) E hp=okS C E hp:=funext λb=>propext (Zuu hh b);rw [e];exact hh.bk k
def obT:OP:=⟨λ_ _ _=>True,λ_ _ _ _ _ _ h=>h⟩
def Wz:Array Value->List (Nat × Value)->Array Value
 | t,[]=>t
 | t,(p,v) :: r=>Wz (t.setIfInBounds p v) r
theorem Zcg:∀ (l:List (Nat × Value)) (t:Array Value),(Wz t l).size=t.size
 | [],t=>rfl
 | (p,v) :: r,t=>by simp only [Wz,Zcg r];simp
theorem ZaM {u:Nat}:∀ (l:List (Nat × Value)) (t:Array Value),(∀ x ∈ l,x.1≠u)->(Wz t l).getD u undef=t.getD u undef
 | [],t,_=>rfl
 | (p,v) :: r,t,h=>by
  simp only [Wz];rw [ZaM r _ (λx hx=>h x (by simp [hx]))];have:p≠u:=h (p,v) (by simp);simp only [Array.getD_eq_getD_getElem?,Array.getElem?_setIfInBounds_ne this]
theorem Zfl (ps:Array Nat) (vs:Array Value) (t:Array Value):((ps.zip vs).foldl (λt (p,v)=>t.setIfInBounds p v) t)=Wz t (ps.toList.zip vs.toList):=by
 rw [<- Array.foldl_toList,Array.toList_zip];generalize ps.toList.zip vs.toList=l
 induction l generalizing t with
 | nil=>rfl
 | cons x l ih=>obtain ⟨p,v⟩:=x;simp only [List.foldl_cons,Wz];exact ih _
theorem Zng:∀ {l:Ls} {ps:List Nat},Zoj l ps=true->l.length=ps.length
 | [],[],_=>rfl
 | _ :: l,_ :: m,h=>by simp only [Zoj] at h;simp [Zng h]
 | [],_ :: _,h=>by simp [Zoj] at h
 | _ :: _,[],h=>by simp [Zoj] at h
theorem UF {N:Nat}:∀ {ps:List Nat},ZaB N ps=true->∀ p ∈ ps,p < N
 | [],_,p,h=>by simp at h
 | q :: ps,h,p,hp=>by
  simp only [ZaB] at h;cases hq:Nat.blt q N<;>rw [hq] at h
  . cases h
  . simp only [cond_true] at h;rcases List.mem_cons.1 hp with rfl | hp
    . simpa [Nat.blt_eq] using hq
    . exact UF h p hp
theorem Zuo {E:Env} {n ok:Nat->Prop} {N:Nat}:∀ {ps:List Nat} {args:Ls} {vs:LZ} {fr:Lf} {t:Array Value},ps.Nodup->(∀ p ∈ ps,p < N)->t.size=N->args.length=ps.length->RL w E n ok args vs ->
 ∀ u,(u ∉ ps->R w E n ok (lk u fr) (t.getD u undef))->R w E n ok (lk u (pmS ps args ++ fr)) ((Wz t (ps.zip vs)).getD u undef)
 | [],[],vs,fr,t,_,_,_,_,_,u,h=>by simpa [pmS,Wz] using h (by simp)
 | p :: ps,s :: args,vs,fr,t,hnd,hlt,ht,hl,hR,u,h=>by
  simp only [RL] at hR;obtain ⟨y,r,rfl,h1,h2⟩:=hR;rw [List.nodup_cons] at hnd;simp only [pmS,List.cons_append,ZN,List.zip_cons_cons,Wz];by_cases hu:u=p
  . subst hu;rw [if_pos rfl,ZaM _ _ (λx hx e=>hnd.1 (by have:=(List.of_mem_zip hx).1;rw [e] at this;exact this))];have:=hlt u (by simp);simpa [Array.getD,ht,this] using h1
  . rw [if_neg hu];refine Zuo hnd.2 (λq hq=>hlt q (by simp [hq])) (by simp [ht]) (by simpa using hl) h2 u (λhm=>?_);have:=h (by simp [hu,hm]);simp only [Array.getD_eq_getD_getElem?,Array.getElem?_setIfInBounds_ne (Ne.symm hu)] at this ⊢;exact this
 | [],_ :: _,_,_,_,_,_,_,hl,_,_,_=>by simp at hl
 | _ :: _,[],_,_,_,_,_,_,hl,_,_,_=>by simp at hl
theorem Vd {l:Nat} {r:Loop} {w:World} (h:w.heap[l]? = some (.loop r)):(Instr.getLoop l).run P w = .ok r w:=by
 simp only [Instr.getLoop,Sem.run_bind,Yn h rfl,Result.andThen_ok,Sem.run_pure]
theorem Zmw {rec:Loop} {hb:HB} (h:Zuv rec hb):hb = .lp rec none:=by
 cases hb<;>simp only [Zuv] at h
 rename_i r pd;cases pd<;>simp only [Zuv] at h
 rw [h]
theorem ZvP {rec:Loop} {hb:HB} (h:Zof rec hb):hb = .lb rec:=by
 cases hb<;>simp only [Zof] at h
 rw [h]
theorem ZwS {w:World} {l:Nat} {o:Obj}:Wr0 w (Ul w l o) l:=⟨rfl,rfl,rfl,Zcr,λ_ hk=>WX hk⟩
theorem Vf {n:Nat->Prop} {k:Nat} {hb:HB} {o:Obj} (h:HSim C E hp n w) (h1:∀ b,occ E k (lkh k hp) b↔b=E.β k) (h2:∀ b,occ E k hb b↔b=E.β k) (hk:E.β k < w.heap.size->ZM w (Ul w (E.β k) o) (okS C E hp) (okS C E ((k,hb) :: hp))->Yr (Ul w (E.β k) o) E n (okS C E ((k,hb) :: hp)) k hb) :
 HSim C E ((k,hb) :: hp) n (Ul w (E.β k) o)/\ZM w (Ul w (E.β k) o) (okS C E hp) (okS C E ((k,hb) :: hp)) :=
 Wc (B:=E.β k) h (λb=>(h2 b).trans (h1 b).symm) ((h1 _).2 rfl) ZwS (hk (YO h ((h1 _).2 rfl)))
theorem Zhy {C0 C1 Ci C':Cx} {E0:Env} {hp0:Lh} {n0:Nat} {w w1:World} (h1:Sub C0 C1) (hH:HSim C1 E0 hp0 (ltn n0) w) (hbel:Below w.heap.size w w1) (c1:Ci.okp=okS C1 E0 hp0) (c2:Ci.w0=w1)
 (c3:∀ k b,Ci.pass k b->occ E0 k (lkh k hp0) b\/w.heap.size<=b) (c4:n0<=Ci.m0) (c5:∀ k,k < n0->Ele E0 Ci.e0 k k) (h2:Sub Ci C'):Sub C0 C':=by
 intro E hp n w' hS;obtain ⟨f1,f2,f3⟩:=h1 _ _ _ _ hH;obtain ⟨g1,g2,g3⟩:=h2 _ _ _ _ hS;rw [c2] at g1 g2;have hsz:=hbel.size;refine ⟨by omega,λb k1 k2 k3=>?_,λk hk=>?_⟩
 . obtain ⟨e1,e2⟩:=f2 b k1 k2 k3
   obtain ⟨e3,e4⟩:=g2 b (by rw [c1];exact e1) (by omega) (λk hp=>by
    rcases c3 k b hp with q | q
    . exact e1.2 k q
    . omega)
   exact ⟨e3,e4.trans ((hbel.block b (by omega)).trans e2)⟩
 . obtain ⟨e1,e2⟩:=f3 k hk;obtain ⟨e3,e4⟩:=g3 k (by omega);exact ⟨e3,e2.trans ((c5 k e1).trans e4)⟩
theorem ZDy {Y:Hd} (hYC:Zdg P C Y) {asg body:Nat->CT} {asgC bodyC:Code} {ps:List Nat} {psA:Array Nat} {kl:Nat} {rec:Loop} {σ : St} {Ci:Cx} {E0:Env} {a:Act} {w w1:World}
 (hps:psA.toList=ps) (hnd:ps.Nodup) (hlt:ZaB σ.N ps=true) (hfn:(P.funcs[rec.fn]?).isSome=true) (hrec:rec.tmps=a.tmps/\rec.params=psA/\rec.assign=asgC/\rec.body=bodyC)
 (hgs:σ.gs=[]) (hs:Sim C E0 σ a w) (hbel:Below w.heap.size w w1) (c1:Ci.okp=okS C E0 σ.hp) (c2:Ci.w0=w1) (c3:∀ k b,Ci.pass k b->occ E0 k (lkh k σ.hp) b\/w.heap.size<=b) (c4:σ.n<=Ci.m0)
 (c5:∀ k,k < σ.n->Ele E0 Ci.e0 k k)
 (hasg:∀ (C':Cx) (l:Nat),C'.rd=some l->∀ n σ' K Q E a w,MC C' n->asg n σ' K->LkQ C' K Q->Sim C' E σ' a w->wpX (some l) P asgC Q a w)
 (hbody:∀ (C':Cx) (l:Nat),C'.rd=some l->Zdg P C' Y->∀ n σ' K Q E a w,MC C' n->body n σ' K->LkQ C' K Q->Sim C' E σ' a w->wpX (some l) P bodyC Q a w) :
 Zdg P Ci (hdR asg body ps kl rec σ.fr σ.N):=by
 intro Cj hSub k args hp n Φ hY E wy vs hH hkn hR;obtain ⟨hk,hlp,hY⟩:=Zl2 hY;obtain ⟨hlen,hx⟩:=Zl2 hY;have hk:=Nat.eq_of_beq_eq_true hk;subst hk;have hlk:=Zmw hlp;have hb:=hH.bk k;rw [hlk] at hb;have hlens:=Zng hlen;have hvs:=ZO hR;obtain ⟨r1,r2,r3,r4⟩:=hrec;refine ⟨rec.fn,Wz a.tmps (ps.zip vs),asgC,bodyC,?_,?_⟩
 . have hsz:¬ (vs.toArray.size≠psA.size):=by
    rw [<- Array.length_toList (xs:=psA),hps];simp;omega
   simp only [Instr.yield,Sem.run_bind,Vd hb,Result.andThen_ok,r2,if_neg hsz,Sem.run_pure,r1,r3,r4];rw [Zfl,hps]
 obtain ⟨g1,g2,g3⟩:=hSub _ _ _ _ hH;rw [c2] at g1 g2;have hnn:σ.n<=n:=by
  rcases Nat.eq_zero_or_pos σ.n with e | e
  . omega
  . have:=(g3 (σ.n - 1) (by omega)).1;omega
 have hag:∀ k,k < σ.n->Ele E0 E k k:=λk hk=>(c5 k hk).trans (g3 k (by omega)).2;have hsti:ZM w wy (okS C E0 σ.hp) (okS Cj E hp):=λx hx hsm=>by
  have hltx:x < w.heap.size:=by
   obtain ⟨o,ho⟩:=Option.isSome_iff_exists.1 hsm;exact (Array.getElem?_eq_some_iff.1 ho).1
  have hsz:=hbel.size
  obtain ⟨e1,e2⟩:=g2 x (by rw [c1];exact hx) (by omega) (λk hp=>by
   rcases c3 k x hp with q | q
   . exact hx.2 k q
   . omega)
  exact ⟨e1,e2.trans (hbel.block x hltx)⟩
 have hYa:∀ r,Zdg P (Cr Cj E hp n wy r hH) Y:=λr C'' hS=>hYC C'' (Zhy Sub.rfl hs.hs hbel c1 c2 c3 c4 c5 (Zhy hSub hH (Below.refl _ _) rfl rfl (λ_ b ho=>.inl ho) (Nat.le_refl _) (λ_ _=>Ele.rfl) hS))
 let l:=E.β k
 let Ca:=Cr Cj E hp n wy (some l) hH
 have hokE:okS Ca E hp=okS Cj E hp:=funext λb=>propext (Zuu hH b);have hHa:HSim Ca E hp (ltn n) wy:=ZzP hH;have hfrR:∀ t,R wy E (ltn n) (okS Ca E hp) (lk t σ.fr) (a.tmps.getD t undef):=λt=>by
  have h1:=Zvx (hs.fr t) (λj b u e=>by have:=hs.gs t j b u e;rw [hgs] at this;simp at this);rw [hokE];exact ZV hsti.c hag (λk hk=>by simp only [ltn] at *;omega) _ _ h1
 have hSa:Sim Ca E ⟨pmS ps args ++ σ.fr,hp,n,σ.N,[]⟩ { tmps:=Wz a.tmps (ps.zip vs),defers:=[] } wy:=by
  have hall:∀ t,R wy E (ltn n) (okS Ca E hp) (lk t (pmS ps args ++ σ.fr)) ((Wz a.tmps (ps.zip vs)).getD t undef):=λt =>
   Zuo hnd (UF hlt) hs.sz hlens (by rw [hokE];exact hR) t (λ_=>hfrR t)
  refine ⟨λt=>?_,by simp only [Zcg];exact hs.sz,ZaC,λt j b s ht=>absurd ht (UN (hall t) j b s),hHa⟩;have h1:=hall t;have hng:=UN h1;simp only at *;cases hq:lk t (pmS ps args ++ σ.fr)<;>rw [hq] at h1 hng<;>first | exact h1 | exact absurd rfl (hng _ _ _)
 refine ZlS hfn ?_;refine hasg Ca l rfl n _ _ _ E _ wy ⟨Nat.le_refl _,λ_ _ h=>ZfE hH h⟩ hx (λe σ1 he E1 a1 wA hS1=>?_) hSa;cases e with
 | ex i=>exact he.elim
 | ret=>exact he.elim
 | pan s=>exact he.elim
 | n =>
  obtain ⟨hl1,hbd⟩:=he;have hlk1:=Zmw hl1;obtain ⟨p1,p2,_⟩:=hS1.hs.pin k hkn;have hb1:=hS1.hs.bk k;rw [hlk1] at hb1;simp only [Yr,lpS,lpP] at hb1;have hl:E1.β k=l:=p2;obtain ⟨s1,s2⟩:=Vf (k:=k) (hb:=.lb rec) (o:=.loop { rec with state:=.busy,pending:=none }) hS1.hs (λb=>by rw [hlk1];rfl) (λb=>Iff.rfl) (λhlt _=>by simp only [Yr];exact Wd hlt);refine ⟨rfl,Ul wA l (.loop { rec with state:=.busy,pending:=none }),?_,?_⟩
  . rw [hl] at hb1;unfold Instr.beginRound;rw [Sem.run_bind,Vd hb1,Result.andThen_ok,Sem.run_bind,Y6 _ hb1 rfl];rfl
  . rw [hl] at s1 s2;refine hbody Ca l rfl (hYa _) n _ _ _ E1 a1 _ ⟨Nat.le_refl _,λ_ _ h=>ZfE hH h⟩ hbd (λe σ3 he E3 a3 w3 hS3=>?_) (YJ hS1 s2 (λ_ _=>Ele.rfl) (Nat.le_refl _) s1);obtain ⟨q1,q2,_⟩:=hS3.hs.pin k hkn;have hl3:E3.β k=l:=q2;have hcc:∀ {E':Env} {hp':Lh} {n':Nat} {w':World},HSim Ca E' hp' (ltn n') w'->HSim Cj E' hp' (ltn n') w'/\ZM wy w' (okS Cj E hp) (okS Cj E' hp')/\(∀ k,k < n->Ele E E' k k)/\n<=n'/\ZM wy w' (okS Cj E hp) (okS Ca E' hp'):=λh =>
     Zel (Ci:=Ca) (w1:=wy) hH (Below.refl _ _) rfl rfl (λ_ b ho=>.inl ho) (Nat.le_refl _) (λ_ _=>Ele.rfl) h
    have hca:∀ {E':Env} {hp':Lh} {w':World} {b:Nat},okS Ca E' hp' b->okS Cj E' hp' b:=λhb=>by
     refine ⟨?_,hb.2⟩;rcases hb.1 with h | h
     . exact (show okS Cj E hp _ from h).1
     . exact .inr (Nat.le_trans hH.kp.size h)
    have fin:∀ jump:Option Ex,Zof rec (lkh k σ3.hp)->Φ ⟨false,.v (.bool jump.isNone),(k,.lp rec jump) :: σ3.hp,σ3.n⟩->∃ v w',(Instr.endRound l (lpP jump)).run P w3 = .ok v w' /\
     ∃ o E' y,Φ o/\(∀ j,j < n->Ele E E' j j)/\n<=o.n/\HSim Cj E' o.hp (ltn o.n) w'/\R w' E' (ltn o.n) (okS Cj E' o.hp) o.res y/\ZM wy w' (okS Cj E hp) (okS Cj E' o.hp)/\Ending.returned v=Zwo o.pn y:=λjump h1 h2=>by
     have hlk3:=ZvP h1;have hb3:=hS3.hs.bk k;rw [hlk3] at hb3;simp only [Yr] at hb3;obtain ⟨t1,t2⟩:=Vf (k:=k) (hb:=.lp rec jump) (o:=.loop { rec with state:=lpS jump,pending:=lpP jump }) hS3.hs (λb=>by rw [hlk3];rfl) (λb=>Iff.rfl) (λhlt _=>by simp only [Yr];exact Wd hlt);rw [hl3] at t1 t2 hb3;obtain ⟨u1,u2,u3,u4,_⟩:=hcc t1;refine ⟨.bool jump.isNone,Ul w3 l (.loop { rec with state:=lpS jump,pending:=lpP jump }),?_,_,E3,.bool jump.isNone,h2,u3,u4,u1,by simp only [R],u2,rfl⟩
     unfold Instr.endRound;rw [Sem.run_bind,Vd hb3,Result.andThen_ok,Sem.run_bind,Y6 _ hb3 rfl];cases jump<;>rfl
    cases e with
    | n=>exact fin none he.1 he.2
    | ret=>exact fin (some .ret) he.1 he.2
    | ex i=>exact fin (some (.ex i)) he.1 he.2
    | pan s =>
     intro y hy;obtain ⟨ms,d1,⟨_,d2⟩,_⟩:=hS3.df;have hms:=d2 rfl;subst hms;obtain ⟨u1,u2,u3,u4,_⟩:=hcc hS3.hs;exact ⟨d1,_,E3,y,he,u3,u4,u1,ZV (λb hb _=>⟨hca (w':=w3) hb,rfl⟩) (λ_ _=>Ele.rfl) (λ_ h=>h) _ _ hy,u2,rfl⟩
theorem Zd6 {w:World} {o:Obj}:(newObj o).run P w = .ok w.heap.size (w.alloc o):=rfl
theorem ZcP {fn:FuncId} {tmps:Array Value} {ps:Array Tmp} {asgC bodyC:Code} {w:World}:(Instr.enterLoop fn tmps ps asgC bodyC none).run P w =
 .ok (w.heap.size+1,[ZdY w.heap.size]) ((w.alloc (.deferred (some []))).alloc (.loop { state:=.ready,pending:=none,fn,tmps,params:=ps,assign:=asgC,body:=bodyC,defers:=w.heap.size })):=by
 have e:(w.alloc (.deferred (some []))).heap.size=w.heap.size+1:=by simp
 simp only [Instr.enterLoop,Sem.run_bind,Zd6,Result.andThen_ok,Sem.run_pure,e];rfl
theorem ZeN {b:Frame} {a:Act} {k:List Item} {cs:List Frame} {w:World} {g:Operand} {ps:Array Tmp} {asgC bodyC:Code} {l:Nat} {mark:List Deferred} {w1:World} {f:FuncId} {caps:Array Value}
 (he:(Instr.enterLoop b.fn a.tmps ps asgC bodyC b.roundOf).run P w = .ok (l,mark) w1) (hg:a.eval g = .func (.func f) #[] caps) (hbd:Z4 P f=true) :
 step P (lone (b.atR a (.code (.rangeFunc g ps asgC bodyC) :: k)) cs w) = .next (lone (Frame.enter P f (#[.func (.yield l) #[] #[]] ++ caps) .normal) (b.atR { a with defers:=mark ++ a.defers } (.inRangeFunc l :: k) :: cs) w1) :=
 step_lone_go (by
  have hev:=Frame.eval_atR b { a with defers:=mark ++ a.defers } (.inRangeFunc l :: k);simp only [Frame.atR] at hev;have hg':({ tmps:=a.tmps,defers:=mark ++ a.defers }:Act).eval g = .func (.func f) #[] caps:=by rw [<- hg];cases g<;>rfl
  have hy:∀ a':Act,a'.eval (.const (.func (.yield l) #[] #[])) = .func (.yield l) #[] #[]:=λ_=>rfl
  simp [stepG,stepG.exec,Frame.atR,Sem.runT_eq,he,GStep.bare_after,stepG.apply,hev,Sem.run_bind,resolve,hg',hy,Deferred.ofValue,invoke,Xe hbd])
theorem ZfP {l:Nat} {r:Loop} {w:World} (h:w.heap[l]? = some (.loop r)) (hn:r.state≠.busy):(Instr.endLoop l).run P w = .ok r.pending (Ul w l (.loop { r with state:=.exhausted })):=by
 have:(r.state == .busy)=false:=by cases hr:r.state<;>first | rfl | exact absurd hr hn
 unfold Instr.endLoop;rw [Sem.run_bind,Vd h,Result.andThen_ok];simp only [this,Bool.false_eq_true,if_false];rw [Sem.run_bind,Y6 _ h rfl];rfl
theorem Zij {b:Frame} {a:Act} {k:List Item} {cs:List Frame} {w w':World} {l:Nat} {jump:Option Code} (h:(Instr.endLoop l).run P w = .ok jump w') :
 step P (lone (b.atR a (.endRangeFunc l :: k)) cs w) = .next (lone (b.atR a ((jump.map Item.code).toList ++ k)) cs w') :=
 step_lone_go (by simp [stepG,stepG.exec,Frame.atR,Sem.runT_eq,h,GStep.bare_after])
theorem Zik {Y:Hd} (hYC:Zdg P C Y) {asg body:Nat->CT} {asgC bodyC:Code} {ps:List Nat} {psA:Array Nat} {g:Operand} {f:FuncId} {caps:Ls} {σ : St} {K:Ex->St->Prop} {Q:Exit->Act->World->Prop} {a:Act}
 (hrd:C.rd=none) (hps:psA.toList=ps) (hnd:ps.Nodup) (hlt:ZaB σ.N ps=true) (hgs:σ.gs=[]) (hs:Sim C E σ a w) {cs0:Array Value} (hg:a.eval g = .func (.func f) #[] cs0) (hcaps:RL w E (ltn σ.n) (okS C E σ.hp) caps cs0.toList)
 (hP:RFUN P asg body f caps ps σ K) (hK:LkQ C K Q)
 (hasg:∀ (C':Cx) (l:Nat),C'.rd=some l->∀ n σ' K Q E a w,MC C' n->asg n σ' K->LkQ C' K Q->Sim C' E σ' a w->wpX (some l) P asgC Q a w)
 (hbody:∀ (C':Cx) (l:Nat),C'.rd=some l->Zdg P C' Y->∀ n σ' K Q E a w,MC C' n->body n σ' K->LkQ C' K Q->Sim C' E σ' a w->wpX (some l) P bodyC Q a w) :
 wpX none P (.rangeFunc g psA asgC bodyC) Q a w:=by
 intro b k cs hro hb;obtain ⟨hbd,hit⟩:=hP
 let D:=w.heap.size
 let l:=w.heap.size+1
 let rec':Loop:={ state:=.ready,pending:=none,fn:=b.fn,tmps:=a.tmps,params:=psA,assign:=asgC,body:=bodyC,defers:=D }
 let w1:=(w.alloc (.deferred (some []))).alloc (.loop rec')
 have hsz0:(w.alloc (.deferred (some []))).heap.size=w.heap.size+1:=by simp
 have hsz1:w1.heap.size=w.heap.size+2:=by simp [w1]
 have hbel:Below w.heap.size w w1:=((Below.refl _ w).alloc (Nat.le_refl _) _).alloc (by rw [hsz0];omega) _;have hL1:w1.heap[l]? = some (.loop rec'):=by
  have:=heap_alloc_new (w.alloc (.deferred (some []))) (.loop rec');rw [hsz0] at this;exact this
 have hD1:w1.heap[D]? = some (.deferred (some [])) :=
  (((Below.refl _ (w.alloc (.deferred (some [])))).alloc (Nat.le_refl _) (.loop rec')).block D (by rw [hsz0];simp only [D];omega)).trans (heap_alloc_new w _)
 have henter:=ZeN (P:=P) (b:=b) (a:=a) (k:=k) (cs:=cs) (w:=w) (g:=g) (ps:=psA) (asgC:=asgC) (bodyC:=bodyC) (l:=l) (mark:=[ZdY D]) (w1:=w1) (by rw [hro];exact ZcP) hg hbd
 let E1:Env:=⟨λj=>if j = σ.n then l else E.β j,E.hv,E.iss⟩
 have hE1:∀ j,j < σ.n->Ele E E1 j j:=λj hj=>⟨by simp [E1,show j≠σ.n from by omega],Nat.le_refl _,λ_ _=>rfl⟩;have hE1l:E1.β σ.n=l:=by simp [E1]
 let Ci:Cx:=⟨w1,okS C E σ.hp,λj x=>occ E j (lkh j σ.hp) x\/(j = σ.n/\x=l),[],none,E1,σ.n+1,Zgc (Zy hs.hs) (λg l hg hok=>⟨by have:=(Zy hs.hs g l hg).1;omega,hok,hbel.block g (Zy hs.hs g l hg).1⟩),λg _ hg j ho=>by
  rcases ho with ho | ⟨_,ho⟩
  . exact Vn hs.hs hg j ho
  . have:=(Zy hs.hs g _ hg).1;simp only [l] at ho;omega⟩
 let hp1:=(σ.n,HB.lp rec' none) :: σ.hp
 have hol:∀ j x,j≠σ.n->(occ E1 j (lkh j hp1) x↔occ E j (lkh j σ.hp) x):=λj x hj=>by
  show occ E1 j (lkh j ((σ.n,HB.lp rec' none) :: σ.hp)) x↔_;rw [Zu,if_neg hj];cases hq:lkh j σ.hp<;>simp only [occ,E1,if_neg hj]
 have hon:∀ x,occ E1 σ.n (lkh σ.n hp1) x↔x=l:=λx=>by
  show occ E1 σ.n (lkh σ.n ((σ.n,HB.lp rec' none) :: σ.hp)) x↔_;rw [Zu,if_pos rfl];simp only [occ,hE1l]
 have hst1:ZM w w1 (okS C E σ.hp) (okS Ci E1 hp1):=λx hx hsm=>by
  have hltx:x < w.heap.size:=by
   obtain ⟨o,ho⟩:=Option.isSome_iff_exists.1 hsm;exact (Array.getElem?_eq_some_iff.1 ho).1
  refine ⟨⟨.inl hx,λj ho=>?_⟩,hbel.block x hltx⟩;by_cases hj:j = σ.n
  . subst hj;rw [hon] at ho;simp only [l] at ho;omega
  . exact hx.2 j ((hol j x hj).1 ho)
 have hHi:HSim Ci E1 hp1 (ltn (σ.n+1)) w1:=by
  refine ⟨λj hj=>?_,λj=>?_,λj j' x h1 h2=>?_,λj x ho=>.inr ?_,⟨rfl,rfl,rfl,Nat.le_refl _,λ_ _ _=>rfl⟩,λj hj=>⟨hj,Ele.rfl⟩⟩
  . show lkh j ((σ.n,HB.lp rec' none) :: σ.hp) = .gone;rw [Zu,if_neg (by rintro rfl;exact hj (by simp [ltn]))];exact hs.hs.kn j (by simp only [ltn] at *;omega)
  . by_cases hj:j = σ.n
    . subst hj;show Yr w1 E1 (ltn (σ.n+1)) (okS Ci E1 hp1) σ.n (lkh σ.n ((σ.n,HB.lp rec' none) :: σ.hp));rw [Zu,if_pos rfl];simp only [Yr,hE1l,lpS,lpP];exact hL1
    . have e:lkh j hp1=lkh j σ.hp:=by show lkh j ((σ.n,HB.lp rec' none) :: σ.hp)=_;rw [Zu,if_neg hj]
      rw [e];refine YU hst1 hE1 (λj hj=>by simp only [ltn] at *;omega) ?_ (λx ho=>hbel.block x (YO hs.hs ho)) rfl (hs.hs.bk j);rcases Classical.em (ltn σ.n j) with hk | hk
      . exact .inr hk
      . exact .inl (hs.hs.kn j hk)
  . by_cases hj:j = σ.n<;>by_cases hj':j' = σ.n
    . omega
    . subst hj;rw [hon] at h1;have:=YO hs.hs ((hol j' x hj').1 h2);simp only [l] at h1;omega
    . subst hj';rw [hon] at h2;have:=YO hs.hs ((hol j x hj).1 h1);simp only [l] at h2;omega
    . exact hs.hs.dj j j' x ((hol j x hj).1 h1) ((hol j' x hj').1 h2)
  . by_cases hj:j = σ.n
    . subst hj;exact .inr ⟨rfl,(hon x).1 ho⟩
    . exact .inl ((hol j x hj).1 ho)
 have hc3:∀ j x,Ci.pass j x->occ E j (lkh j σ.hp) x\/w.heap.size<=x:=λj x hx=>by
  rcases hx with h | h
  . exact .inl h
  . exact .inr (by rw [h.2];simp [l])
 have hdok:Zdg P Ci (hdR asg body ps σ.n rec' σ.fr σ.N) :=
  ZDy hYC (rec:=rec') (w1:=w1) hps hnd hlt hb ⟨rfl,rfl,rfl,rfl⟩ hgs hs hbel rfl rfl hc3 (Nat.le_succ _) hE1 hasg hbody
 have hRa:RL w1 E1 (ltn (σ.n+1)) (okS Ci E1 hp1) (.yl σ.n :: caps) (.func (.yield l) #[] #[] :: cs0.toList):=by
  simp only [RL];exact ⟨_,_,rfl,by simp only [R,hE1l];exact ⟨by simp [ltn],trivial⟩,ZL hst1.c hE1 (λj hj=>by simp only [ltn] at *;omega) _ _ hcaps⟩
 have hcall:=hit rec' Ci E1 w1 _ rfl rfl rfl rfl rfl (λj x h=>by
  rcases h with h | ⟨h,_⟩
  . exact Nat.lt_succ_of_lt (ZfE hs.hs h)
  . exact Nat.lt_succ_of_le (Nat.le_of_eq h)) hdok hHi hRa
 have hargs:(#[.func (.yield l) #[] #[]] ++ cs0:Array Value)=(.func (.yield l) #[] #[] :: cs0.toList).toArray:=by apply Array.toList_inj.1;simp
 rw [hargs] at henter
 let a':Act:={ a with defers:=ZdY D :: a.defers }
 obtain ⟨e,w',fr,⟨o,E',y,ho,hHo,hRo,he⟩,hst,hfn,hlv⟩:=hcall (b.atR a' (.inRangeFunc l :: k) :: cs);obtain ⟨u1,u2,u3,u4,u5⟩:=Zel (Ci:=Ci) (w1:=w1) hs.hs hbel rfl rfl hc3 (Nat.le_succ _) hE1 hHo;have hDok:okS C E' o.hp D:=by
  refine ⟨.inr (by simp only [D];exact hs.hs.kp.size),λj hj=>?_⟩;rcases hHo.lo j D hj with h | h
  . have h':w1.heap.size<=D:=h;simp only [D] at h';omega
  . rcases h with hi | ⟨_,h⟩
    . have:=YO hs.hs hi;simp only [D] at this;omega
    . simp only [D,l] at h;omega
 have hDv:w'.heap[D]? = some (.deferred (some [])):=by
  rw [hHo.kp.block D (by show D < w1.heap.size;simp only [D];omega) (λi h=>by
   rcases h with hi | ⟨_,h⟩
   . have:=YO hs.hs hi;simp only [D] at this;omega
   . simp only [D,l] at h;omega)]
  exact hD1
 have hdf:DF C E' o.hp w' a'.defers:=by
  obtain ⟨ms,d1,⟨d2,d3⟩,d4⟩:=hs.df;refine ⟨D :: ms,by simp [a',d1],⟨List.nodup_cons.2 ⟨λhm=>?_,d2⟩,λh=>by rw [hrd] at h;cases h⟩,λm hm=>?_⟩
  . have:=(Array.getElem?_eq_some_iff.1 (d4 D hm).2.2).1;simp only [D] at this;omega
  . rcases List.mem_cons.1 hm with rfl | hm
    . exact ⟨by simp only [D];exact hs.hs.kp.size,hDok,hDv⟩
    . obtain ⟨q1,q2,q3⟩:=d4 m hm;obtain ⟨k1,k2⟩:=u2 m q2 (by rw [q3];rfl);exact ⟨q1,k1,by rw [k2];exact q3⟩
 have hsim:∀ {hp'':Lh} {w'':World},HSim C E' hp'' (ltn o.n) w''->ZM w' w'' (okS C E' o.hp) (okS C E' hp'')->Sim C E' ⟨σ.fr,hp'',o.n,σ.N,[]⟩ a' w'':=λ{hp'' w''} h1 h2=>by
  have hst2:ZM w w'' (okS C E σ.hp) (okS C E' hp''):=λx hx hsm=>by
   obtain ⟨k1,k2⟩:=u2 x hx hsm;obtain ⟨k3,k4⟩:=h2 x k1 (by rw [k2];exact hsm);exact ⟨k3,k4.trans k2⟩
  refine ⟨λt=>?_,hs.sz,X5 h2 hdf,λt j bb s ht=>by have:=hs.gs t j bb s ht;rw [hgs] at this;simp at this,h1⟩;have h3:=Zvx (hs.fr t) (λj bb u e=>by have:=hs.gs t j bb u e;rw [hgs] at this;simp at this);have h4:=ZV (n:=ltn σ.n) (n':=ltn o.n) hst2.c u3 (λk hk=>Nat.lt_of_lt_of_le hk u4) _ _ h3;have hng:=UN h4;show FR _ E' (ltn o.n) _ σ.fr (lk t σ.fr) (a.tmps.getD t undef);cases hq:lk t σ.fr<;>rw [hq] at h4 hng<;>first | exact h4 | exact absurd rfl (hng _ _ _)
 have hok2:okS Ci E' o.hp=okS Ci E' o.hp:=rfl;cases hpn:o.pn with
 | true =>
  rw [hpn] at he;subst he;simp only [itP,hpn] at ho;have hsi:=hsim u1 (λx hx _=>⟨hx,rfl⟩)
  have hq:=hK _ _ ho E' a' w' hsi y (ZV (λx hx _=>⟨⟨by
   rcases hx.1 with h | h
   . exact (show okS C E σ.hp x from h).1
   . exact .inr (Nat.le_trans hs.hs.kp.size (Nat.le_trans hbel.size h)),hx.2⟩,rfl⟩) (λ_ _=>Ele.rfl) (λ_ h=>h) _ _ hRo)
  refine ⟨.panic [{ v:=y,recovered:=false }],a',w',hq,.inRangeFunc l :: k,(XJ henter).trans ((steps_iff.1 hst).trans (XJ ?_))⟩;rw [<- Frame.raise_atR];exact step_leave_panicked hlv
 | false =>
  rw [hpn] at he;subst he;simp only [itP,hpn] at ho;have hpl:=(hHo.pin σ.n (by show σ.n < σ.n+1;omega)).2.1;have hl':E'.β σ.n=l:=hpl.trans hE1l;have main:∀ (r:Loop) (pd:Option Ex),lkh σ.n o.hp = .lp r pd->∃ w'',StT P (lone (b.atR a (.code (.rangeFunc g psA asgC bodyC) :: k)) cs w) (lone (b.atR a' (((lpP pd).map Item.code).toList ++ k)) cs w'')/\Sim C E' ⟨σ.fr,(σ.n,.gone) :: o.hp,o.n,σ.N,[]⟩ a' w'':=λr pd hlkp=>by
   have hbk:=hHo.bk σ.n;rw [hlkp] at hbk;simp only [Yr,hl'] at hbk;have hend:=ZfP (P:=P) hbk (by cases pd<;>simp [lpS]);have hobj:=Vf (k:=σ.n) (hb:=.ob obT) (o:=.loop { { r with state:=lpS pd,pending:=lpP pd } with state:=.exhausted }) u1 (λb=>by rw [hlkp];rfl) (λb=>Iff.rfl) (λhlt _=>by simp only [Yr];exact ⟨_,Wd hlt,trivial⟩);rw [hl'] at hobj;obtain ⟨t1,t2⟩:=hobj;obtain ⟨g1,g2⟩:=Vo t1 σ.n
   obtain ⟨h1,h2⟩:=ZzT (hp':=(σ.n,.gone) :: o.hp) g1 (λj=>by simp only [Zu];split<;>rfl);refine ⟨_,(XJ henter).trans ((steps_iff.1 hst).trans ((XJ (step_leave_returned hlv)).trans (XJ ?_))),hsim h1 ?_⟩
   . have hfin:(b.atR a' (.inRangeFunc l :: k)).finish y=b.atR a' (.endRangeFunc l :: k):=by simp [Frame.finish,Frame.atR]
     rw [hfin];exact Zij hend
   . intro x hx hsm;obtain ⟨k1,k2⟩:=t2 x hx hsm;exact ⟨by rw [h2];exact (g2 x k1 (by rw [k2];exact hsm)).1,k2⟩
  cases hlkp:lkh σ.n o.hp<;>rw [hlkp] at ho<;>simp only [itE] at ho
  rename_i r pd;obtain ⟨w'',hst2,hsi⟩:=main r pd hlkp;cases pd with
  | none =>
   simp only [itE] at ho;exact ⟨.normal,a',w'',hK .n _ ho E' a' w'' hsi,hst2⟩
  | some e =>
   cases e with
   | n=>exact ho.elim
   | pan s=>exact ho.elim
   | ret =>
    simp only [itE] at ho;exact ⟨.ret,a',w'',hK .ret _ ho E' a' w'' hsi,λhn=>⟨_,hst2.trans (XJ (stepR_ret hn))⟩,λhr=>by rw [hro] at hr;cases hr⟩
   | ex i =>
    simp only [itE] at ho;exact ⟨.exit i,a',w'',hK (.ex i) _ ho E' a' w'' hsi,λk' hk=>hst2.trans (XJ (stepR_exit hk)),λhr=>by rw [hro] at hr;cases hr⟩
end
def sx (P:Program):Hd->Nat->SC->CT
 | Y,_,.reg ops,σ,K=>rx P Y ops σ (Zd3 K)
 | Y,_,.regd _ vs _ _ rest,σ,K=>gs0 σ.gs (rxv P Y (ZdX σ.hp (rx P Y rest)) vs σ (Zd3 K))
 | Y,_,.regs _ p ps,σ,K=>phx P Y p ps σ (Zd3 K)
 | Y,m,.seq a b,σ,K=>sx P Y m a σ (Zxv (sx P Y m b) K)
 | Y,m,.cond c a b,σ,K=>ZDV (rdG none σ.fr c) (sx P Y m a) (sx P Y m b) σ K
 | Y,m,.block id c,σ,K=>sx P Y m c σ (ZuK id K)
 | Y,m,.loop c,σ,K=>Zvr m (sx P Y m c) σ K
 | _,_,.exit id,σ,K=>K (.ex id) σ
 | _,_,.ret,σ,K=>K .ret σ
 | _,_,.skip,σ,K=>K .n σ
 | Y,m,.scope c,σ,K=>sx P Y m c σ K
 | _,_,.label _,σ,K=>K .n σ
 | Y,m,.gh c,σ,K=>GH m (sx P Y m c) σ K
 | Y,_,.rfun g ps asg body,σ,K=>rfK P (λn=>sx P Y0 n asg) (λn=>sx P Y n body) (rdG none σ.fr g) ps σ K
def Zdn:SC->Bool
 | .rfun _ _ _ _=>false
 | .seq a b=>Zdn a && Zdn b
 | .cond _ a b=>Zdn a && Zdn b
 | .block _ c=>Zdn c
 | .loop c=>Zdn c
 | .scope c=>Zdn c
 | .gh c=>Zdn c
 | _=>true
def Zdm:List Nat->Bool
 | []=>true
 | p :: ps=>!Xw p ps && Zdm ps
theorem Ws:∀ {l:List Nat},Zdm l=true->l.Nodup
 | [],_=>.nil
 | p :: ps,h=>by
  simp only [Zdm,Bool.and_eq_true,Bool.not_eq_true'] at h;exact List.nodup_cons.2 ⟨λhm=>(by rw [ZU.2 hm] at h;exact absurd h.1 (by decide)),Ws h.2⟩
def YR (P:Program):SC->Code->Bool
 | .gh a,c=>YR P a c
 | .reg ops,.region _ os draw=>!draw && ZaQ P os ops os.toList
 | .regd ord vs nA nB rest,.region _ os draw=>draw && ckD P os ord [⟨vs,nA,nB,rest⟩] && P.follows .mixedOrders
 | .regs ord p ps,.region _ os draw=>draw && ckD P os ord (p :: ps) && P.follows .mixedOrders
 | .seq a b,.seq x y=>YR P a x && YR P b y
 | .cond c a b,.cond o x y=>Xb c o && YR P a x && YR P b y
 | .block i a,.block j x=>i == j && YR P a x
 | .loop a,.loop x=>YR P a x
 | .exit i,.exit j=>i == j
 | .ret,.ret=>true
 | .skip,.skip=>true
 | .scope a,.scope x=>YR P a x
 | .label i,.label j=>i == j
 | .rfun g ps a b,.rangeFunc o qs x y=>Xb g o && qs.toList == ps && Zdm ps && Zdn a && Zdn b && YR P a x && YR P b y
 | _,_=>false
section
variable {P:Program} {C:Cx}
theorem Zbf (t:Nat):∀ (fr:Lf),lk t (YH fr)=match lk t fr with | .gd _ _ _=>.any | s=>s
 | []=>rfl
 | (u,s) :: r=>by
  cases s<;>simp only [YH,ZN]<;>by_cases h:t=u<;>first | simp [h,Zbf t r] | simp [h,Zbf u r]
theorem least_ex (p:Nat->Prop) (h:∃ m,p m):∃ m,p m/\∀ k,p k->m<=k:=by
 obtain ⟨m,hm⟩:=h
 induction m using Nat.strongRecOn with
 | _ m ih =>
  by_cases hk:∃ k,k < m/\p k
  . obtain ⟨k,h1,h2⟩:=hk;exact ih k h1 h2
  . exact ⟨m,hm,λk hk'=>Nat.le_of_not_lt λhlt=>hk ⟨k,hlt,hk'⟩⟩
theorem XK {E:Env} {σ : St} {a:Act} {w:World} (h:Sim C E σ a w):Sim C E (V4 σ) a w:=by
 unfold V4;split
 . exact h
 . refine ⟨λt=>?_,h.sz,h.df,λt j b s ht=>?_,h.hs⟩
   . have:=h.fr t;rw [Zbf];cases hl:lk t σ.fr<;>rw [hl] at this<;>first | exact this | trivial
   . rw [Zbf] at ht;cases hl:lk t σ.fr<;>rw [hl] at ht<;>cases ht
theorem Zf0 (σ : St):(V4 σ).n = σ.n:=by unfold V4;split<;>rfl
theorem Zd5 (σ : St):(V4 σ).hp = σ.hp:=by unfold V4;split<;>rfl
theorem ZcC {Q:Exit->Act->World->Prop} {e:Ex} {σ : St} {E:Env} {a:Act} {w:World} (_h:Sim C E σ a w) (hq:ExQ C Q e (V4 σ) E a w):ExQ C Q e σ E a w:=by
 cases e<;>try exact hq
 intro y hy;exact hq y (by rw [Zf0,Zd5];exact hy)
theorem Yv:∀ (c:SC) (C:Cx) (Y:Hd) (m:Nat) (code:Code) (σ : St) (K:Ex->St->Prop) (Q:Exit->Act->World->Prop) (E:Env) (a:Act) (w:World),MC C m->Zdg P C Y->(C.rd=none\/Zdn c=true)->YR P c code=true->sx P Y m c σ K->LkQ C K Q->Sim C E σ a w->wpX C.rd P code Q a w
 | .reg ops,C,Y,m,code,σ,K,Q,E,a,w,hm0,hY,hrf,hc,hs,hK,h=>by
  cases code<;>simp [YR] at hc
  obtain ⟨rfl,hc⟩:=hc;refine X7 (ZdS hY (K:=Zd3 K) (λe σ' hσ' E' a' w' h'=>ZcC h' (hK e _ hσ' E' a' w' (XK h'))) ops _ hc σ E a w (by simpa only [sx] using hs) h)
 | .regd ord vs nA nB rest,C,Y,m,code,σ,K,Q,E,a,w,hm0,hY,hrf,hc,hs,hK,h=>by
  cases code<;>simp [YR] at hc
  obtain ⟨⟨rfl,hc⟩,hm⟩:=hc;simp only [sx] at hs;cases hg:σ.gs with
  | cons j l=>rw [hg] at hs;exact hs.elim
  | nil =>
   rw [hg] at hs;simp only [gs0] at hs;exact ZiC hY hc hm hg hs (λe σ' hσ' E' a' w' h'=>ZcC h' (hK e _ hσ' E' a' w' (XK h'))) h
 | .regs ord p ps,C,Y,m,code,σ,K,Q,E,a,w,hm0,hY,hrf,hc,hs,hK,h=>by
  cases code<;>simp [YR] at hc
  obtain ⟨⟨rfl,hc⟩,hm⟩:=hc;simp only [sx] at hs;exact ZcU hY hc hm hs (λe σ' hσ' E' a' w' h'=>ZcC h' (hK e _ hσ' E' a' w' (XK h'))) h
 | .seq x y,C,Y,m,code,σ,K,Q,E,a,w,hm0,hY,hrf,hc,hs,hK,h=>by
  cases code<;>simp [YR] at hc
  refine ZdK (Yv x C Y m _ σ (Zxv (sx P Y m y) K) _ E a w hm0 hY (hrf.imp (λh=>h) (λh=>by simp only [Zdn,Bool.and_eq_true] at h;exact h.1)) hc.1 (by simpa only [sx] using hs) (λe σ' hσ' E' a' w' h'=>?_) h);cases e with
  | n=>exact Yv y C Y m _ σ' K Q E' a' w' hm0 hY (hrf.imp (λh=>h) (λh=>by simp only [Zdn,Bool.and_eq_true] at h;exact h.2)) hc.2 hσ' hK h'
  | ex i=>exact hK _ _ hσ' E' a' w' h'
  | ret=>exact hK _ _ hσ' E' a' w' h'
  | pan s=>exact hK _ _ hσ' E' a' w' h'
 | .cond c x y,C,Y,m,code,σ,K,Q,E,a,w,hm0,hY,hrf,hc,hs,hK,h=>by
  cases code<;>simp [YR] at hc
  obtain ⟨⟨h1,h2⟩,h3⟩:=hc;have hR:=YQ (Zy h.hs) h.fr (g:=none) trivial c;simp only [sx,ZDV] at hs;split at hs
  . rename_i b hb;rw [hb] at hR;simp only [R] at hR;refine ZtG (t:=b) (by rw [Zh h1 a];exact hR) ?_;cases b
    . exact Yv y C Y m _ σ K Q E a w hm0 hY (hrf.imp (λh=>h) (λh=>by simp only [Zdn,Bool.and_eq_true] at h;exact h.2)) h3 (hs.2 rfl) hK h
    . exact Yv x C Y m _ σ K Q E a w hm0 hY (hrf.imp (λh=>h) (λh=>by simp only [Zdn,Bool.and_eq_true] at h;exact h.1)) h2 (hs.1 rfl) hK h
  . cases hs
 | .block id x,C,Y,m,code,σ,K,Q,E,a,w,hm0,hY,hrf,hc,hs,hK,h=>by
  cases code<;>simp [YR] at hc
  obtain ⟨rfl,hc⟩:=hc;refine ZjK (Yv x C Y m _ σ (ZuK id K) _ E a w hm0 hY hrf hc (by simpa only [sx] using hs) (λe σ' hσ' E' a' w' h'=>?_) h);cases e with
  | n=>exact hK _ _ hσ' E' a' w' h'
  | ex i =>
   simp only [ZuK] at hσ';simp only [ExQ,Exit.inBlock];by_cases hi:i=id
   . subst hi;simp only [nbr,cond_true] at hσ';rw [if_pos rfl];exact hK _ _ hσ' E' a' w' h'
   . have:Nat.beq i id=false:=Bool.eq_false_iff.2 (λe=>hi (Nat.eq_of_beq_eq_true e));simp only [this,cond_false] at hσ';rw [if_neg hi];exact hK _ _ hσ' E' a' w' h'
  | ret=>exact hK _ _ hσ' E' a' w' h'
  | pan s=>exact hK _ _ hσ' E' a' w' h'
 | .loop x,C,Y,m,code,σ,K,Q,E,a,w,hm0,hY,hrf,hc,hs,hK,h=>by
  cases code<;>simp [YR] at hc
  rename_i body;simp only [sx] at hs;rcases hs with ⟨n,hs⟩ | ⟨S,st,rel,μ,⟨s0,hr0,he0⟩,hb⟩
  . refine ZhX n ?_;have key:∀ n (σ : St) E a w,ZAu (sx P Y m x) K n σ->Sim C E σ a w->ZDU C.rd P body Q n a w:=by
     intro n
     induction n with
     | zero=>intro σ E a w h;exact h.elim
     | succ n ih =>
      intro σ E a w h hsim;refine Yv x C Y m body σ _ _ E a w hm0 hY hrf hc h (λe σ' hσ' E' a' w' h'=>?_) hsim;cases e with
      | n=>exact ih σ' E' a' w' hσ' h'
      | ex i=>exact hK _ _ hσ' E' a' w' h'
      | ret=>exact hK _ _ hσ' E' a' w' h'
      | pan s=>exact hK _ _ hσ' E' a' w' h'
    exact key n σ E a w hs h
  obtain ⟨E0',h0⟩:=he0 C E a w hm0 h
  let p (a:Act) (w:World) (m:Nat):Prop:=∃ s E,rel s/\Sim C E (st s) a w/\μ s=m
  let μ' (a:Act) (w:World):Nat:=Classical.epsilon λm=>p a w m/\∀ k,p a w k->m<=k
  have hμ : ∀ a w,(∃ m,p a w m)->p a w (μ' a w)/\∀ k,p a w k->μ' a w<=k:=λa w h=>Classical.epsilon_spec (least_ex _ h);refine ZpM (λa w=>∃ m,p a w m) μ' ⟨_,s0,E0',hr0,h0,rfl⟩ λa w hI=>?_;obtain ⟨⟨s,E,h1,h2,h3⟩,_⟩:=hμ a w hI;refine Yv x C Y m body (st s) _ _ E a w hm0 hY hrf hc (hb s h1) (λe σ' hσ' E' a' w' h'=>?_) h2;cases e with
  | n =>
   obtain ⟨s',k1,k2,k3⟩:=hσ';obtain ⟨E'',k4⟩:=k3 C E' a' w' hm0 h';have hI':∃ m,p a' w' m:=⟨_,s',E'',k1,k4,rfl⟩
   refine ⟨hI',?_⟩;have:=(hμ a' w' hI').2 (μ s') ⟨s',E'',k1,k4,rfl⟩;omega
  | ex i=>exact hK _ _ hσ' E' a' w' h'
  | ret=>exact hK _ _ hσ' E' a' w' h'
  | pan s=>exact hK _ _ hσ' E' a' w' h'
 | .exit i,C,Y,m,code,σ,K,Q,E,a,w,hm0,hY,hrf,hc,hs,hK,h=>by
  cases code<;>simp [YR] at hc
  subst hc;exact ZoV (hK (.ex _) _ (by simpa only [sx] using hs) E a w h)
 | .ret,C,Y,m,code,σ,K,Q,E,a,w,hm0,hY,hrf,hc,hs,hK,h=>by
  cases code<;>simp [YR] at hc
  exact Zyi (hK .ret _ (by simpa only [sx] using hs) E a w h)
 | .skip,C,Y,m,code,σ,K,Q,E,a,w,hm0,hY,hrf,hc,hs,hK,h=>by
  cases code<;>simp [YR] at hc
  exact ZpF (hK .n _ (by simpa only [sx] using hs) E a w h)
 | .scope x,C,Y,m,code,σ,K,Q,E,a,w,hm0,hY,hrf,hc,hs,hK,h=>by
  cases code<;>simp [YR] at hc
  refine ZlF (Yv x C Y m _ σ K _ E a w hm0 hY hrf hc (by simpa only [sx] using hs) (λe σ' hσ' E' a' w' h'=>?_) h);cases e<;>exact hK _ _ hσ' E' a' w' h'
 | .gh x,C,Y,m,code,σ,K,Q,E,a,w,hm0,hY,hrf,hc,hs,hK,h=>by
  simp only [YR] at hc;rcases (by simpa only [sx] using hs:GH m (sx P Y m x) σ K) with ⟨σ',he,hs'⟩ | ⟨σ1,σ2,he,hs1,hs2⟩
  . obtain ⟨E',h'⟩:=he C E a w hm0 h;exact Yv x C Y m _ σ' K Q E' a w hm0 hY (hrf.imp (λh=>h) (λh=>by simpa only [Zdn] using h)) hc hs' hK h'
  . rcases he C E a w hm0 h with ⟨E',h'⟩ | ⟨E',h'⟩
    . exact Yv x C Y m _ σ1 K Q E' a w hm0 hY (hrf.imp (λh=>h) (λh=>by simpa only [Zdn] using h)) hc hs1 hK h'
    . exact Yv x C Y m _ σ2 K Q E' a w hm0 hY (hrf.imp (λh=>h) (λh=>by simpa only [Zdn] using h)) hc hs2 hK h'
 | .label l,C,Y,m,code,σ,K,Q,E,a,w,hm0,hY,hrf,hc,hs,hK,h=>by
  cases code<;>simp [YR] at hc
  exact ZjW (hK .n _ (by simpa only [sx] using hs) E a w h)
 | .rfun g ps asg body,C,Y,m,code,σ,K,Q,E,a,w,hm0,hY,hrf,hc,hs,hK,h=>by
  cases code<;>simp [YR] at hc
  rename_i o qs x y;obtain ⟨⟨⟨⟨⟨⟨h1,h2⟩,h3⟩,h4⟩,h5⟩,h6⟩,h7⟩:=hc;have hrd:C.rd=none:=hrf.elim id (λh=>by simp [Zdn] at h);have hR:=YQ (Zy h.hs) h.fr (g:=none) trivial g;simp only [sx,rfK] at hs;split at hs
  . rename_i f caps hg;rw [hg] at hR;simp only [R] at hR;obtain ⟨cs,k1,k2⟩:=hR;cases hgs:σ.gs with
    | cons j l=>rw [hgs] at hs;exact hs.elim
    | nil =>
     rw [hgs] at hs;simp only [gs0] at hs;cases hlt:ZaB σ.N ps
     . rw [hlt] at hs;exact hs.elim
     . rw [hlt] at hs;rw [hrd];exact Zik hY hrd h2 (Ws h3) hlt hgs h (by rw [Zh h1 a];exact k1) k2 hs hK
        (λC' l hl n σ' K Q E a w hn hx hk hsim=>by have:=Yv asg C' Y0 n x σ' K Q E a w hn Zcd (.inr h4) h6 hx hk hsim;rw [hl] at this;exact this)
        (λC' l hl hYb n σ' K Q E a w hn hx hk hsim=>by have:=Yv body C' Y n y σ' K Q E a w hn hYb (.inr h5) h7 hx hk hsim;rw [hl] at this;exact this)
  . cases hs
end
inductive RV where
 | tmp (t:Nat)
 | cell (t m:Nat) (ag:Bool)
mutual
def cvt (hp:Lh):SV->SV
 | .mr k v=>match lkh k hp with
  | .row v' m xs _=>vwN (Nat.beq v v') m xs
  | _=>.any
 | .agg l=>.agg (Zn4 hp l)
 | .tup l=>.tup (Zn4 hp l)
 | .v x=>.v x
 | .p k o=>.p k o
 | .sl c m xs=>.sl c m xs
 | .pr k v m i o=>.pr k v m i o
 | .ms k v m i o=>.ms k v m i o
 | .ps row o=>.ps row o
 | .cl f c=>.cl f c
 | .mp k=>.mp k
 | .yl k=>.yl k
 | .ifc T s=>.ifc T (cvt hp s)
 | .q φ=>.q φ
 | .gd j w s=>.gd j w s
 | .any=>.any
def Zn4 (hp:Lh):Ls->Ls
 | []=>[]
 | s :: l=>cvt hp s :: Zn4 hp l
end
def rv1 (σ : St):RV->Option SV
 | .tmp t=>some (rdG none σ.fr (.t t))
 | .cell t m ag=>match rdG none σ.fr (.t t) with
  | .p k o=>match lkh k σ.hp with
   | .cells l _=>Wg l o m ag
   | _=>none
  | _=>none
def rvE:Option Ls->Option SV
 | some []=>some (.tup [])
 | some [s]=>some s
 | some (a :: b :: l)=>some (.tup (a :: b :: l))
 | none=>none
def rvD (s:SV):Option Ls->Option Ls
 | some l=>some (s :: l)
 | none=>none
def rvC (hp:Lh):Option SV->Option Ls->Option Ls
 | some s,o=>rvD (cvt hp s) o
 | none,_=>none
def rvs (σ : St):List RV->Option Ls
 | []=>some []
 | r :: rs=>rvC σ.hp (rv1 σ r) (rvs σ rs)
def rvR (rs:List RV) (σ : St):Option SV:=rvE (rvs σ rs)
def ZDY (rs:List RV) (res:SV):Ex->St->Prop
 | .ex _,_=>False
 | .n,σ=>rvR rs σ = some res
 | .ret,σ=>rvR rs σ = some res
 | .pan _,_=>False
def Y2 (P:Program):List RV->List ResultVar->Bool
 | [],[]=>true
 | .tmp t :: l,.tmp u :: m=>t == u && Y2 P l m
 | .cell t s ag :: l,.cell u ty :: m=>t == u && ZcO P ty == some ag && XT P ty == some s && Y2 P l m
 | _,_=>false
def YT:Nat->Ls->Lf
 | _,[]=>[]
 | i,s :: l=>(i,s) :: YT (i+1) l
def st0 (args:Ls) (N:Nat):St:=⟨YT 0 args,[],0,N,[]⟩
section
variable {P:Program}
theorem Ui:∀ (l:Ls) (i t:Nat),lk t (YT i l)=if i<=t then l.getD (t - i) .any else .any
 | [],i,t=>by simp [YT,lk]
 | s :: l,i,t=>by
  simp only [YT,ZN];by_cases h:t=i
  . subst h;simp
  . rw [if_neg h,Ui l (i+1) t];by_cases h2:i<=t
    . rw [if_pos (by omega),if_pos h2,show t - i=(t - (i+1))+1 from by omega];simp
    . rw [if_neg (by omega),if_neg h2]
section
variable {C:Cx} {E:Env} {hp:Lh} {n:Nat->Prop} {w:World}
def okF (C:Cx) (b:Nat):Prop:=C.okp b\/C.w0.heap.size<=b
mutual
theorem ZnY (h:HSim C E hp n w) (hpass:∀ k b,¬ C.pass k b):∀ (s:SV) (y:Value),R w E n (okS C E hp) s y->R w E n (okF C) (cvt hp s) y
 | .mr k v,y,hR=>by
  simp only [R] at hR;simp only [cvt];split
  . rename_i v' m xs T hk;cases hv:Nat.beq v v'
    . simp only [vwN,R]
    have:=Nat.eq_of_beq_eq_true hv;subst this;have hb:=h.bk k;rw [hk] at hb;simp only [Yr] at hb;simp only [R,vwN];rcases hb with ⟨_,⟨h1,a0,h2⟩ | ⟨b,cap,cs,h1,h2,h3,⟨h4,h4'⟩,h5,h6,h7⟩⟩
    . exact ⟨a0,0,0,by rw [hR.2.2.1,h2],by simp [h1],⟨Nat.le_refl _,λh=>by cases h⟩,by simp [h1],.inl h1⟩
    . refine ⟨_,_,_,hR.2.2.1.trans h1,rfl,⟨h4,λh=>by cases h⟩,h5,.inr ⟨b,0,rfl,?_⟩⟩;have hoc:occ E k (lkh k hp) b:=by rw [hk];exact ⟨_,_,h1,h4'⟩
      refine WG (cs:=cs) (ok:=okS C E hp) ?_ (λj c hj=>by rw [cell_of_row _ _ _ _ _ _ h2];simpa using hj) (λb hb _=>⟨hb.1,rfl⟩) xs 0 h6 (by simpa using h7);rcases h.lo k b hoc with q | q
      . exact .inr q
      . exact absurd q (hpass k b)
  . simp only [R]
 | .agg l,y,hR=>by simp only [R,cvt] at *;obtain ⟨cs,h1,h2⟩:=hR;exact ⟨cs,h1,Zf4 h hpass l _ h2⟩
 | .tup l,y,hR=>by simp only [R,cvt] at *;obtain ⟨cs,h1,h2⟩:=hR;exact ⟨cs,h1,Zf4 h hpass l _ h2⟩
 | .v x,y,hR=>ZV (λ_ hb _=>⟨hb.1,rfl⟩) (λ_ _=>Ele.rfl) (λ_ h=>h) _ _ hR
 | .p k o,y,hR=>ZV (λ_ hb _=>⟨hb.1,rfl⟩) (λ_ _=>Ele.rfl) (λ_ h=>h) _ _ hR
 | .sl c m xs,y,hR=>ZV (λ_ hb _=>⟨hb.1,rfl⟩) (λ_ _=>Ele.rfl) (λ_ h=>h) _ _ hR
 | .pr k v m i o,y,hR=>ZV (λ_ hb _=>⟨hb.1,rfl⟩) (λ_ _=>Ele.rfl) (λ_ h=>h) _ _ hR
 | .ms k v m i o,y,hR=>ZV (λ_ hb _=>⟨hb.1,rfl⟩) (λ_ _=>Ele.rfl) (λ_ h=>h) _ _ hR
 | .ps row o,y,hR=>ZV (λ_ hb _=>⟨hb.1,rfl⟩) (λ_ _=>Ele.rfl) (λ_ h=>h) _ _ hR
 | .cl f c,y,hR=>ZV (λ_ hb _=>⟨hb.1,rfl⟩) (λ_ _=>Ele.rfl) (λ_ h=>h) _ _ hR
 | .q φ,y,hR=>ZV (λ_ hb _=>⟨hb.1,rfl⟩) (λ_ _=>Ele.rfl) (λ_ h=>h) _ _ hR
 | .mp k,y,hR=>ZV (λ_ hb _=>⟨hb.1,rfl⟩) (λ_ _=>Ele.rfl) (λ_ h=>h) _ _ hR
 | .yl k,y,hR=>ZV (λ_ hb _=>⟨hb.1,rfl⟩) (λ_ _=>Ele.rfl) (λ_ h=>h) _ _ hR
 | .ifc T s,y,hR=>by simp only [R,cvt] at *;obtain ⟨x,h1,h2⟩:=hR;exact ⟨x,h1,ZnY h hpass s x h2⟩
 | .gd j w s,y,hR=>by simp only [R] at hR
 | .any,y,hR=>by simp only [cvt,R]
theorem Zf4 (h:HSim C E hp n w) (hpass:∀ k b,¬ C.pass k b):∀ (l:Ls) (ys:LZ),RL w E n (okS C E hp) l ys->RL w E n (okF C) (Zn4 hp l) ys
 | [],ys,hR=>by simpa [RL,Zn4] using hR
 | s :: l,ys,hR=>by
  simp only [RL,Zn4] at *;obtain ⟨y,r,h1,h2,h3⟩:=hR;exact ⟨y,r,h1,ZnY h hpass s y h2,Zf4 h hpass l r h3⟩
end
end
theorem Zu5 {C:Cx} {E:Env} {σ : St} {a:Act} {w:World} {r:RV} {rr:ResultVar} {s:SV} (h:Sim C E σ a w) (hc:Y2 P [r] [rr]=true) (hs:rv1 σ r=some s) :
 ∃ y,((match rr with | .tmp t=>pure (a.tmps.getD t undef) | .cell x t=>do loadVar t (<- asAddr (a.tmps.getD x undef)):Sem Value).run P w = .ok y w)/\R w E (ltn σ.n) (okS C E σ.hp) s y:=by
 cases r with
 | tmp t =>
  cases rr<;>simp [Y2] at hc
  subst hc;simp [rv1] at hs;subst hs;exact ⟨a.tmps.getD t undef,rfl,YQ (Zy h.hs) h.fr (g:=none) trivial (.t t)⟩
 | cell t m ag =>
  cases rr<;>simp [Y2] at hc
  obtain ⟨⟨rfl,h1⟩,h2⟩:=hc;simp only [rv1] at hs;split at hs
  . rename_i k o hk;split at hs
    . rename_i l T hl;have hR:=YQ (Zy h.hs) h.fr (g:=none) trivial (.t t);rw [hk] at hR;simp only [R,evX] at hR;have hb:=h.hs.bk k;rw [hl] at hb;simp only [Yr] at hb;obtain ⟨cs,k1,k2⟩:=hb;obtain ⟨y,q1,q2⟩:=V3 (P:=P) (w:=w) (b:=E.β k) (off:=0) (o:=o) k2 (λj c hj=>by rw [Nat.zero_add,cell_of_row _ _ _ _ _ _ k1];simpa using hj) h1 h2 hs;rw [Nat.zero_add] at q1;exact ⟨y,by simp only [hR.2,asAddr,Sem.run_bind,Sem.run_pure,Result.andThen_ok,q1],q2⟩
    . cases hs
  . cases hs
theorem Zlz {C:Cx} {E:Env} {σ : St} {a:Act} {w:World} (h:Sim C E σ a w) (hpass:∀ k b,¬ C.pass k b):∀ (rs:List RV) (rr:List ResultVar) (l:Ls),Y2 P rs rr=true->rvs σ rs=some l ->
 ∃ ys,(rr.mapM (λr=>match r with | .tmp t=>pure (a.tmps.getD t undef) | .cell x t=>do loadVar t (<- asAddr (a.tmps.getD x undef)):ResultVar->Sem Value)).run P w = .ok ys w/\RL w E (ltn σ.n) (okF C) l ys
 | [],[],l,_,hl=>by simp [rvs] at hl;subst hl;exact ⟨[],by simp,by simp [RL]⟩
 | r :: rs,x :: rr,l,hc,hl=>by
  have hc2:Y2 P [r] [x]=true/\Y2 P rs rr=true:=by
   cases r<;>cases x<;>simp [Y2] at hc ⊢<;>simp_all
  simp only [rvs] at hl;cases hs:rv1 σ r with
  | none=>rw [hs] at hl;simp [rvC] at hl
  | some s =>
   rw [hs] at hl;simp only [rvC] at hl;cases hl':rvs σ rs with
   | none=>rw [hl'] at hl;simp [rvD] at hl
   | some l' =>
    rw [hl'] at hl;simp only [rvD,Option.some.injEq] at hl;subst hl;obtain ⟨y,h1,h2⟩:=Zu5 h hc2.1 hs;obtain ⟨ys,h3,h4⟩:=Zlz h hpass rs rr l' hc2.2 hl';refine ⟨y :: ys,?_,by simp only [RL];exact ⟨y,ys,rfl,ZnY h.hs hpass _ _ h2,h4⟩⟩;rw [List.mapM_cons,Sem.run_bind,h1,Result.andThen_ok,Sem.run_bind,h3];rfl
 | [],_ :: _,_,h,_=>by simp [Y2] at h
 | _ :: _,[],_,h,_=>by cases ‹RV›<;>simp [Y2] at h
def Lv (P:Program) (fn:Func) (tmps:Array Value) (R:Ending->World->Prop):List Deferred->FrameMode->World->Prop
 | [],.returning,w=>∃ v,(results fn tmps).run P w = .ok v w/\R (.returned v) w
 | [],.panicking chain,w=>R (.panicked chain) w
 | [],.run,_=>False
 | d :: ds,u,w=>u≠.run/\((∃ b w',d.target = .collected b/\(Instr.takeDeferred b).run P w = .ok [] w'/\Lv P fn tmps R ds u w') \/
  (∃ bi ats ty cs w' x,d.target = .builtin bi ats ty cs/\(invoke d.target d.args).run P w = .ok (.value x) w'/\Lv P fn tmps R ds u w') \/
  (∃ fv cap f args,d.target = .fn fv cap/\(invoke d.target d.args).run P w = .ok (.enter f args) w /\
   CallsD P f args u w fun
    | .returned _,u',w'=>Lv P fn tmps R ds (settle u') w'
    | .panicked chain,u',w'=>Lv P fn tmps R ds (raised u' chain) w'
    | .outgrown,_,w'=>R .outgrown w'))
theorem Uc {fr:Frame} {cs:List Frame} {w w':World} {d:Deferred} {ds:List Deferred} {b:Nat} (hm:fr.mode≠.run) (hd:fr.defers=d :: ds) (ht:d.target = .collected b)
 (hi:(Instr.takeDeferred b).run P w = .ok [] w'):step P (lone fr cs w) = .next (lone { fr with defers:=ds } cs w'):=by
 obtain ⟨t,a⟩:=d;simp only at ht;subst ht;refine step_lone_go ?_;cases hmode:fr.mode with
 | run=>exact absurd hmode hm
 | returning=>simp [stepG,unwind,hmode,hd,Sem.runT_eq,hi,GStep.bare_after]
 | panicking chain=>simp [stepG,unwind,hmode,hd,Sem.runT_eq,hi,GStep.bare_after]
theorem ZdG {fr:Frame} {cs:List Frame} {w w':World} {d:Deferred} {ds:List Deferred} {bi:Go.Builtin} {ats:Array TypeId} {ty:TypeId} {cc:Array Bool} {x:Value} (hm:fr.mode≠.run) (hd:fr.defers=d :: ds)
 (ht:d.target = .builtin bi ats ty cc) (hi:(invoke d.target d.args).run P w = .ok (.value x) w'):step P (lone fr cs w) = .next (lone { fr with defers:=ds } cs w'):=by
 obtain ⟨t,a⟩:=d;simp only at ht hi;subst ht;refine step_lone_go ?_;cases hmode:fr.mode with
 | run=>exact absurd hmode hm
 | returning=>simp [stepG,unwind,callDeferred,hmode,hd,Sem.runT_eq,hi,GStep.bare_after]
 | panicking chain=>simp [stepG,unwind,callDeferred,hmode,hd,Sem.runT_eq,hi,GStep.bare_after]
theorem Vg {fn:Func} {tmps:Array Value} {R:Ending->World->Prop}:∀ (ds:List Deferred) (u:FrameMode) (w:World) (fr:Frame)
 (cs:List Frame),fr.mode=u->fr.defers=ds->fr.tmps=tmps->P.funcs[fr.fn]? = some fn->fr.kind = .normal->Lv P fn tmps R ds u w ->
 ∃ e w' fr',R e w'/\Comes P (lone fr cs w) (lone fr' cs w') e/\fr'.fn=fr.fn/\fr'.leaving P w' e
 | [],u,w,fr,cs,hu,hd,ht,hf,hk,h=>by
  cases u with
  | run=>exact h.elim
  | returning =>
   obtain ⟨v,hr,hR⟩:=h;exact ⟨.returned v,w,fr,hR,Steps.refl P _,rfl,hu,hd,hk,fn,hf,ht ▸ hr⟩
  | panicking chain=>exact ⟨.panicked chain,w,fr,h,Steps.refl P _,rfl,hu,hd,fn,hf⟩
 | d :: ds,u,w,fr,cs,hu,hd,ht,hf,hk,h=>by
  obtain ⟨hrun,h | h | h⟩:=h
  . obtain ⟨b,w',k1,k2,k3⟩:=h;have h1:=Uc (P:=P) (cs:=cs) (hu ▸ hrun) hd k1 k2;obtain ⟨e',w'',fr',hR',hs',hfn',hl'⟩:=Vg ds u w' { fr with defers:=ds } cs hu rfl ht hf hk k3;exact ⟨e',w'',fr',hR',Comes.of_steps (.one h1) hs',hfn',hl'⟩
  . obtain ⟨bi,ats,ty,cc,w',x,k1,k2,k3⟩:=h;have h1:=ZdG (P:=P) (cs:=cs) (hu ▸ hrun) hd k1 k2;obtain ⟨e',w'',fr',hR',hs',hfn',hl'⟩:=Vg ds u w' { fr with defers:=ds } cs hu rfl ht hf hk k3;exact ⟨e',w'',fr',hR',Comes.of_steps (.one h1) hs',hfn',hl'⟩
  . obtain ⟨fv,cap,f,args,htar,hinv,hcall⟩:=h;have h1:=step_defer (cs:=cs) (hu ▸ hrun) hd htar hinv;obtain ⟨e,u',w',frX,hR,hsteps,hkX,hgo⟩:=hcall { fr with defers:=ds } cs hu;cases e with
    | returned v =>
     have h2:=step_going_returned (c:={ { fr with defers:=ds } with mode:=u' }) (cs:=cs) hkX hgo;obtain ⟨e',w'',fr',hR',hs',hfn',hl'⟩:=Vg ds (settle u') w' { { { fr with defers:=ds } with mode:=u' } with mode:=settle u' } cs rfl rfl ht hf hk hR;exact ⟨e',w'',fr',hR',Comes.of_steps (.head h1 (Steps.trans hsteps (.one h2))) hs',hfn',hl'⟩
    | panicked chain =>
     have h2:=step_going_panicked (c:={ { fr with defers:=ds } with mode:=u' }) (cs:=cs) hgo;obtain ⟨e',w'',fr',hR',hs',hfn',hl'⟩:=Vg ds (raised u' chain) w' { { { fr with defers:=ds } with mode:=u' } with mode:=raised u' chain } cs rfl rfl ht hf hk hR;exact ⟨e',w'',fr',hR',Comes.of_steps (.head h1 (Steps.trans hsteps (.one h2))) hs',hfn',hl'⟩
    | outgrown=>exact ⟨.outgrown,w',fr,hR,Outgrown.of_steps (.one h1) hsteps,rfl,trivial⟩
def YD (P:Program) (fn:Func) (R:Ending->World->Prop):Exit->Act->World->Prop
 | .normal,a,w | .ret,a,w=>Lv P fn a.tmps R a.defers .returning w
 | .panic chain,a,w=>Lv P fn a.tmps R a.defers (.panicking chain) w
 | .outgrown,_,w=>R .outgrown w
 | _,_,_=>False
theorem V9 {f:FuncId} {fn:Func} {c:Code} {args:Array Value} {w:World} {R:Ending->World->Prop} (hf:P.funcs[f]? = some fn) (hb:fn.body=some c)
 (h:wpX none P c (YD P fn R) { tmps:=args ++ Array.replicate (fn.ntmps - args.size) undef,defers:=[] } w):Calls P f args w R:=by
 intro cs
 let b:Frame:={ (default:Frame) with fn:=f,kind:=.normal }
 have henter:Frame.enter P f args .normal=b.at { tmps:=args ++ Array.replicate (fn.ntmps - args.size) undef,defers:=[] } [.code c]:=by
  simp [Frame.enter,Frame.at,hf,hb,b]
 obtain ⟨e,a',w',hq,harr⟩:=h b [] cs rfl (by simp [b,hf]);have harr:=(arrivesIn_iff (b:=b) (λ_ _=>steps_iff.symm) rfl).1 harr;rw [Frame.atR_of_none (b:=b) rfl,<- henter] at harr;cases e with
 | normal =>
  obtain ⟨e',w'',fr',hR,hs,hfn,hl⟩:=Vg a'.defers .returning w' { b.at a' [] with mode:=.returning } cs rfl rfl rfl hf rfl hq;exact ⟨e',w'',fr',hR,Comes.of_steps (Steps.trans harr (.one step_end)) hs,hfn,hl⟩
 | ret =>
  obtain ⟨todo,hs₀⟩:=harr;obtain ⟨e',w'',fr',hR,hs,hfn,hl⟩:=Vg a'.defers .returning w' { b.at a' todo with mode:=.returning } cs rfl rfl rfl hf rfl hq;exact ⟨e',w'',fr',hR,Comes.of_steps hs₀ hs,hfn,hl⟩
 | panic chain =>
  obtain ⟨todo,hs₀⟩:=harr;obtain ⟨e',w'',fr',hR,hs,hfn,hl⟩:=Vg a'.defers (.panicking chain) w' { b.at a' todo with mode:=.panicking chain } cs rfl rfl rfl hf rfl hq;exact ⟨e',w'',fr',hR,Comes.of_steps hs₀ hs,hfn,hl⟩
 | exit id=>exact hq.elim
 | goto l=>exact hq.elim
 | outgrown=>exact ⟨.outgrown,w',b,hq,harr.resolve_left (by simp [b]),rfl,trivial⟩
structure Unm (ms:List Nat) (w w':World):Prop where
 os:w'.os=w.os
 tape:w'.tape=w.tape
 output:w'.output=w.output
 size:w'.heap.size=w.heap.size
 other:∀ b,b ∉ ms->w'.heap[b]? = w.heap[b]?
theorem Unm.refl (w:World):Unm [] w w:=⟨rfl,rfl,rfl,rfl,λ_ _=>rfl⟩
theorem XR {fn:Func} {tmps:Array Value} {R:Ending->World->Prop} {ds:List Deferred}:∀ (ms:List Nat) (u:FrameMode) (w:World),u≠.run->ms.Nodup->(∀ m ∈ ms,w.heap[m]? = some (.deferred (some []))) ->
 (∀ w',Unm ms w w'->Lv P fn tmps R ds u w')->Lv P fn tmps R (ms.map ZdY ++ ds) u w
 | [],u,w,_,_,_,h=>h w (Unm.refl w)
 | m :: ms,u,w,hu,hnd,hm,h=>by
  rw [List.nodup_cons] at hnd;have hm0:=hm m (by simp);have hlt:=(Array.getElem?_eq_some_iff.1 hm0).1;refine ⟨hu,.inl ⟨m,Ul w m (.deferred none),rfl,?_,?_⟩⟩
  . simp only [Instr.takeDeferred,Sem.run_bind,Yn hm0 rfl,Result.andThen_ok,Y6 _ hm0 rfl,Sem.run_pure]
  . refine XR ms u _ hu hnd.2 (λk hk=>?_) (λw' hw=>h w' ?_)
    . rw [WX (by rintro rfl;exact hnd.1 hk)];exact hm k (by simp [hk])
    . refine ⟨hw.os,hw.tape,hw.output,by rw [hw.size,Zcr],λb hb=>?_⟩;rw [List.mem_cons,not_or] at hb;rw [hw.other b hb.2];exact WX hb.1
section
variable {C:Cx} {E:Env} {σ : St} {a:Act} {w w':World}
theorem Ww {ms:List Nat} (h:Sim C E σ a w) (hm:∀ m ∈ ms,C.w0.heap.size<=m/\okS C E σ.hp m/\w.heap[m]? = some (.deferred (some []))) (hu:Unm ms w w'):Sim { C with ds:=a.defers } E σ a w':=by
 have hst:Xh w w' (okS C E σ.hp) (okS C E σ.hp):=λb hb q=>⟨hb,hu.other b λhm'=>by rcases q with ⟨cs,T,fz,e⟩ | ⟨es,c,e⟩<;>(rw [(hm b hm').2.2] at e;cases e)⟩;refine ⟨λt=>?_,h.sz,ZaC,h.gs,⟨h.hs.kn,λk=>?_,h.hs.dj,h.hs.lo,⟨hu.os.trans h.hs.kp.os,hu.tape.trans h.hs.kp.tape,hu.output.trans h.hs.kp.output,by rw [hu.size];exact h.hs.kp.size,λb h1 h2=>?_⟩,h.hs.pin⟩⟩
 . have:=h.fr t;cases hq:lk t σ.fr<;>rw [hq] at this<;>try exact ZV hst (λ_ _=>Ele.rfl) (λ_ h=>h) _ _ this
   exact ⟨λhg=>ZV hst (λ_ _=>Ele.rfl) (λ_ h=>h) _ _ (this.1 hg),this.2⟩
 . refine XX hst (λ_ _=>Ele.rfl) (λ_ h=>h) ?_ (λb ho=>hu.other b λhm'=>(hm b hm').2.1.2 k ho) rfl (h.hs.bk k);rcases Classical.em (ltn σ.n k) with hk | hk
   . exact .inr hk
   . exact .inl (h.hs.kn k hk)
 . rw [hu.other b (λhm'=>by have:=(hm b hm').1;exact absurd (show b < C.w0.heap.size from h1) (by omega))];exact h.hs.kp.block b h1 h2
end
theorem Zaw {f:FuncId} {fn:Func} {code:Code} {ir:SC} {args:Ls} {N n0 m:Nat} {hp0:Lh} {C:Cx} {E:Env} {w:World} {vs:LZ} {K:Ex->St->Prop} {R':Ending->World->Prop}
 (hf:P.funcs[f]? = some fn) (hb:fn.body=some code) (hc:YR P ir code=true) (hN:fn.ntmps=N) (hA:args.length<=N) (hds:C.ds=[]) (hrd:C.rd=none) (hm:MC C m)
 (hH:HSim C E hp0 (ltn n0) w) (hR:RL w E (ltn n0) (okS C E hp0) args vs) (hY:Zdg P C Y) (h:sx P Y m ir ⟨YT 0 args,hp0,n0,N,[]⟩ K)
 (hK:∀ e σ,K e σ->∀ C' E a w',C'.w0=C.w0->C'.okp=C.okp->C'.pass=C.pass->C'.e0=C.e0->C'.m0=C.m0->Sim C' E σ a w'->match e with
  | .n | .ret=>∃ v,(results fn a.tmps).run P w' = .ok v w'/\R' (.returned v) w'
  | .ex _=>False
  | .pan s=>∀ y,R w' E (ltn σ.n) (okS C' E σ.hp) s y->R' (.panicked [{ v:=y,recovered:=false }]) w'):Calls P f vs.toArray w R':=by
 have hlen:=ZO hR;have hng:∀ t j b s,lk t (YT 0 args)≠.gd j b s:=by
  intro t j b s ht;simp only [Ui,Nat.zero_le,if_true,Nat.sub_zero] at ht;by_cases htl:t < args.length
  . have e1:args.getD t .any=args[t]:=by simp [htl]
    obtain ⟨y,h1,h2⟩:=Vz hR (List.getElem?_eq_getElem htl);rw [e1] at ht;rw [ht] at h2;simp only [R] at h2
  . have e1:args.getD t .any = .any:=by simp [List.getElem?_eq_none (Nat.le_of_not_lt htl)]
    rw [e1] at ht;cases ht
 have hS:Sim C E ⟨YT 0 args,hp0,n0,N,[]⟩ { tmps:=vs.toArray ++ Array.replicate (fn.ntmps - vs.toArray.size) undef,defers:=[] } w:=by
  refine ⟨λt=>?_,by simp [hN];omega,by rw [<- hds];exact ZaC,λt j b s ht=>absurd ht (hng t j b s),hH⟩;have hng:=hng t;have hFR:R w E (ltn n0) (okS C E hp0) (lk t (YT 0 args)) ((vs.toArray ++ Array.replicate (fn.ntmps - vs.toArray.size) undef).getD t undef):=by
   simp only [Ui,Nat.zero_le,if_true,Nat.sub_zero];by_cases ht:t < args.length
   . have e1:args.getD t .any=args[t]:=by simp [ht]
     obtain ⟨y,h1,h2⟩:=Vz hR (List.getElem?_eq_getElem ht);have e2:(vs.toArray ++ Array.replicate (fn.ntmps - vs.toArray.size) undef).getD t undef=y:=by
      have:t < vs.length:=by omega
      have h1':=(List.getElem?_eq_some_iff.1 h1).2;simp [Array.getElem?_append,this,h1']
     rw [e1,e2];exact h2
   . have e1:args.getD t .any = .any:=by simp [List.getElem?_eq_none (Nat.le_of_not_lt ht)]
     rw [e1];simp only [R]
  simp only;cases hq:lk t (YT 0 args)<;>rw [hq] at hFR hng<;>first | exact hFR | exact absurd rfl (hng _ _ _)
 refine V9 hf hb ?_;have hwp:=Yv ir C Y m code _ K (YD P fn R') E _ w hm hY (.inl hrd) hc h (λe σ hk E a w' hs=>?_) hS
 . rw [hrd] at hwp;exact hwp
 obtain ⟨ms,d1,d2,d3⟩:=hs.df;rw [hds] at d1;have key:=hK e σ hk;cases e with
 | ex i=>exact (key C E a w' rfl rfl rfl rfl rfl hs).elim
 | n =>
  show Lv P fn a.tmps R' a.defers .returning w';rw [d1];refine XR ms _ _ (by simp) d2.1 (λm hm=>(d3 m hm).2.2) λw'' hu=>?_;exact key { C with ds:=a.defers } E a w'' rfl rfl rfl rfl rfl (Ww hs d3 hu)
 | ret =>
  show Lv P fn a.tmps R' a.defers .returning w';rw [d1];refine XR ms _ _ (by simp) d2.1 (λm hm=>(d3 m hm).2.2) λw'' hu=>?_;exact key { C with ds:=a.defers } E a w'' rfl rfl rfl rfl rfl (Ww hs d3 hu)
 | pan s =>
  intro y hy;show Lv P fn a.tmps R' a.defers (.panicking _) w';rw [d1];refine XR ms _ _ (by simp) d2.1 (λm hm=>(d3 m hm).2.2) λw'' hu=>?_;have hst:Xh w' w'' (okS C E σ.hp) (okS C E σ.hp):=λb hb q=>⟨hb,hu.other b λhm'=>by rcases q with ⟨cs,T,fz,e⟩ | ⟨es,c,e⟩<;>(rw [(d3 b hm').2.2] at e;cases e)⟩;exact key { C with ds:=a.defers } E a w'' rfl rfl rfl rfl rfl (Ww hs d3 hu) y (ZV hst (λ_ _=>Ele.rfl) (λ_ h=>h) _ _ hy)
theorem Zb1 {fn:Func} {a:Act} {w:World} {ys:LZ} (h:(fn.results.toList.mapM (λr=>match r with | .tmp t=>pure (a.tmps.getD t undef) | .cell x t=>do loadVar t (<- asAddr (a.tmps.getD x undef)):ResultVar->Sem Value)).run P w = .ok ys w) :
 (results fn a.tmps).run P w = .ok (if h:ys.length=1 then ys[0] else .tuple ys.toArray) w:=by
 unfold results;rw [Sem.run_bind,Array.mapM_eq_mapM_toList];simp only [map_eq_pure_bind,Sem.run_bind];refine Eq.trans (congrArg (λr=>Result.andThen (Result.andThen r _) _) h) ?_;simp
theorem ZmE {o:Option Ls} {res:SV} (h:rvE o=some res):(∃ s,o=some [s]/\s=res)\/(∃ l,o=some l/\l.length≠1/\.tup l=res):=by
 unfold rvE at h;split at h
 . exact .inr ⟨_,rfl,by simp,by simpa using h⟩
 . exact .inl ⟨_,rfl,by simpa using h⟩
 . exact .inr ⟨_,rfl,by simp,by simpa using h⟩
 . cases h
theorem UL {fn:Func} {a:Act} {w:World} {E:Env} {n ok:Nat->Prop} {o:Option Ls} {res:SV} (h:rvE o=some res) (hr:∀ l,o=some l->∃ ys,(fn.results.toList.mapM (λr=>match r with | .tmp t=>pure (a.tmps.getD t undef) | .cell x t=>do loadVar t (<- asAddr (a.tmps.getD x undef)):ResultVar->Sem Value)).run P w = .ok ys w/\RL w E n ok l ys) :
 ∃ v,(results fn a.tmps).run P w = .ok v w/\R w E n ok res v:=by
 rcases ZmE h with ⟨s,hl,rfl⟩ | ⟨l,hl,hne,rfl⟩
 . obtain ⟨ys,h1,h2⟩:=hr _ hl;have:=Zb1 (P:=P) h1;simp only [RL] at h2;obtain ⟨y,r,rfl,h3,rfl⟩:=h2;exact ⟨y,by simpa using this,h3⟩
 . obtain ⟨ys,h1,h2⟩:=hr _ hl;have:=Zb1 (P:=P) h1;have hlen2:=ZO h2;have h1':¬ ys.length=1:=by intro e;rw [hlen2] at e;exact hne e
   rw [dif_neg h1'] at this;exact ⟨_,this,by simp only [R];exact ⟨_,rfl,by simpa using h2⟩⟩
theorem ZqD {f:FuncId} {fn:Func} {code:Code} {ir:SC} {args:Ls} {res:SV} {rs:List RV} {N:Nat} (hf:P.funcs[f]? = some fn) (hb:fn.body=some code) (hnm:Z4 P f=true) (hc:YR P ir code=true)
 (hr:Y2 P rs fn.results.toList=true) (hN:fn.ntmps=N) (hA:args.length<=N) (ka:KFL args) (kr:KF res) (h:sx P Y0 0 ir (st0 args N) (ZDY rs res)):Ct P f args res:=by
 refine ⟨hnm,ka,kr,λw ok vs hGS hR=>?_⟩
 let C:Cx:=⟨w,ok,λ_ _=>False,[],none,E0,0,hGS,λ_ _ _ _ h=>h⟩
 have hok:∀ b,ok b->okS C E0 [] b:=λb hb=>⟨.inl hb,λ_ h=>h⟩;refine Zaw (C:=C) (E:=E0) (hp0:=[]) (n0:=0) hf hb hc hN hA rfl rfl ⟨Nat.le_refl _,λ_ _ h=>h.elim⟩
  ⟨λk _=>rfl,λk=>trivial,λk k' b h=>h.elim,λk b h=>h.elim,⟨rfl,rfl,rfl,Nat.le_refl _,λ_ _ _=>rfl⟩,λk hk=>absurd hk (Nat.not_lt_zero k)⟩
  (ZL (λb hb _=>⟨hok b hb,rfl⟩) (λ_ h=>Ele.rfl) (λ_ h=>h.elim) _ _ hR) Zcd h λe σ hk C' E a w' c1 c2 c3 c4 c5 hs=>?_
 have hpass:∀ k b,¬ C'.pass k b:=λk b=>by rw [c3];exact λh=>h
 have hend:rvR rs σ = some res->∃ v,(results fn a.tmps).run P w' = .ok v w'/\∃ y,Ending.returned v = .returned y/\R w' E0 (λ_=>False) (λb=>ok b\/w.heap.size<=b) res y/\Below w.heap.size w w':=λhrr=>by
  obtain ⟨v,h1,h2⟩:=UL (P:=P) (fn:=fn) (a:=a) (w:=w') (E:=E) (n:=ltn σ.n) (ok:=okF C') hrr λl hl=>Zlz hs hpass rs _ l hr hl;have hkp:=hs.hs.kp;have e1:okF C'=λb=>ok b\/w.heap.size<=b:=by funext b;simp only [okF,c1,c2];rfl
  rw [e1] at h2;have e0:C'.w0=w:=c1;refine ⟨v,h1,v,rfl,Zje res v kr h2,?_⟩;have q:=hkp;exact ⟨by rw [<- e0];exact q.os,by rw [<- e0];exact q.tape,by rw [<- e0];exact q.output,by rw [<- e0];exact q.size,λb hb=>by rw [<- e0];exact q.block b (by rw [e0];exact hb) (λk=>hpass k b)⟩
 cases e with
 | ex i=>exact hk.elim
 | pan s=>exact hk.elim
 | n=>exact hend hk
 | ret=>exact hend hk
def ZAx:Option SV->Option Ls->Option Ls
 | some s,o=>rvD s o
 | none,_=>none
def Zfo (σ : St):List RV->Option Ls
 | []=>some []
 | r :: rs=>ZAx (rv1 σ r) (Zfo σ rs)
def ZuV (Zz:Ot->Prop) (hp:Lh) (n:Nat):Option SV->Prop
 | some s=>Zz ⟨false,s,hp,n⟩
 | none=>False
def X0 (rs:List RV) (Zz:Ot->Prop):Ex->St->Prop
 | .n,σ=>ZuV Zz σ.hp σ.n (rvE (Zfo σ rs))
 | .ret,σ=>ZuV Zz σ.hp σ.n (rvE (Zfo σ rs))
 | .pan s,σ=>Zz ⟨true,s,σ.hp,σ.n⟩
 | .ex _,_=>False
theorem ZfY {C:Cx} {E:Env} {σ : St} {a:Act} {w:World} (h:Sim C E σ a w):∀ (rs:List RV) (rr:List ResultVar) (l:Ls),Y2 P rs rr=true->Zfo σ rs=some l ->
 ∃ ys,(rr.mapM (λr=>match r with | .tmp t=>pure (a.tmps.getD t undef) | .cell x t=>do loadVar t (<- asAddr (a.tmps.getD x undef)):ResultVar->Sem Value)).run P w = .ok ys w/\RL w E (ltn σ.n) (okS C E σ.hp) l ys
 | [],[],l,_,hl=>by simp [Zfo] at hl;subst hl;exact ⟨[],by simp,by simp [RL]⟩
 | r :: rs,x :: rr,l,hc,hl=>by
  have hc2:Y2 P [r] [x]=true/\Y2 P rs rr=true:=by
   cases r<;>cases x<;>simp [Y2] at hc ⊢<;>simp_all
  simp only [Zfo] at hl;cases hs:rv1 σ r with
  | none=>rw [hs] at hl;simp [ZAx] at hl
  | some s =>
   rw [hs] at hl;simp only [ZAx] at hl;cases hl':Zfo σ rs with
   | none=>rw [hl'] at hl;simp [rvD] at hl
   | some l' =>
    rw [hl'] at hl;simp only [rvD,Option.some.injEq] at hl;subst hl;obtain ⟨y,h1,h2⟩:=Zu5 h hc2.1 hs;obtain ⟨ys,h3,h4⟩:=ZfY h rs rr l' hc2.2 hl';refine ⟨y :: ys,?_,by simp only [RL];exact ⟨y,ys,rfl,h2,h4⟩⟩;rw [List.mapM_cons,Sem.run_bind,h1,Result.andThen_ok,Sem.run_bind,h3];rfl
 | [],_ :: _,_,h,_=>by simp [Y2] at h
 | _ :: _,[],_,h,_=>by cases ‹RV›<;>simp [Y2] at h
theorem ZfQ {C C':Cx} {E:Env} {hp:Lh} {n:Nat->Prop} {w:World} (h:HSim C' E hp n w) (c1:C'.w0=C.w0) (c2:C'.okp=C.okp) (c3:C'.pass=C.pass) (c4:C'.e0=C.e0) (c5:C'.m0=C.m0):HSim C E hp n w/\okS C' E hp=okS C E hp:=by
 obtain ⟨q1,q2,q3,q4,q5,q6,q7⟩:=C;obtain ⟨r1,r2,r3,r4,r5,r6,r7⟩:=C';simp only at c1 c2 c3 c4 c5;subst c1;subst c2;subst c3;subst c4;subst c5;exact ⟨⟨h.kn,h.bk,h.dj,h.lo,⟨h.kp.os,h.kp.tape,h.kp.output,h.kp.size,h.kp.block⟩,h.pin⟩,rfl⟩
theorem WR {f:FuncId} {fn:Func} {code:Code} {ir:SC} {args:Ls} {rs:List RV} {N n0:Nat} {hp0:Lh} {Zz:Ot->Prop} (hf:P.funcs[f]? = some fn) (hb:fn.body=some code) (hc:YR P ir code=true)
 (hr:Y2 P rs fn.results.toList=true) (hN:fn.ntmps=N) (hA:args.length<=N) (h:sx P Y n0 ir ⟨YT 0 args,hp0,n0,N,[]⟩ (X0 rs Zz)):CtY P Y f hp0 n0 args Zz:=by
 intro C E w vs d1 d2 d3 d4 d5 d6 hY hH hR;refine Zaw hf hb hc hN hA d3 d2 ⟨Nat.le_of_eq d5,d6⟩ hH hR hY h λe σ hk C' E' a w' c1 c2 c3 c4 c5 hs=>?_;obtain ⟨g1,g2⟩:=ZfQ hs.hs c1 c2 c3 c4 c5;have hend:ZuV Zz σ.hp σ.n (rvE (Zfo σ rs))->∃ v,(results fn a.tmps).run P w' = .ok v w'/\∃ o E' y,Zz o/\HSim C E' o.hp (ltn o.n) w'/\R w' E' (ltn o.n) (okS C E' o.hp) o.res y/\Ending.returned v=Zwo o.pn y:=λhrr=>by
  cases hq:rvE (Zfo σ rs) with
  | none=>rw [hq] at hrr;exact hrr.elim
  | some s =>
   rw [hq] at hrr;obtain ⟨v,h1,h2⟩:=UL (P:=P) (fn:=fn) (a:=a) (w:=w') (E:=E') (n:=ltn σ.n) (ok:=okS C' E' σ.hp) hq λl hl=>ZfY hs rs _ l hr hl;rw [g2] at h2;exact ⟨v,h1,_,E',v,hrr,g1,h2,rfl⟩
 cases e with
 | ex i=>exact hk.elim
 | n=>exact hend hk
 | ret=>exact hend hk
 | pan s=>intro y hy;rw [g2] at hy;exact ⟨_,E',y,hk,g1,hy,rfl⟩
def WI (m:Nat) (o o':Ot):Prop:=o.pn=o'.pn/\∀ C E w y,MC C m->HSim C E o.hp (ltn o.n) w->R w E (ltn o.n) (okS C E o.hp) o.res y->∃ E',HSim C E' o'.hp (ltn o'.n) w/\R w E' (ltn o'.n) (okS C E' o'.hp) o'.res y
theorem CtY.mono {f:FuncId} {args:Ls} {n0:Nat} {hp0:Lh} {Zz Post':Ot->Prop} (h:CtY P Y f hp0 n0 args Zz) (hp:∀ o,Zz o->∃ o',Post' o'/\WI n0 o o'):CtY P Y f hp0 n0 args Post':=by
 intro C E w vs d1 d2 d3 d4 d5 d6 hY hH hR;refine (h C E w vs d1 d2 d3 d4 d5 d6 hY hH hR).mono λe w' ⟨o,E',y,h1,h2,h3,h4⟩=>?_;obtain ⟨o',k1,k2,k3⟩:=hp o h1;obtain ⟨E'',g1,g2⟩:=k3 C E' w' y ⟨Nat.le_of_eq d5,d6⟩ h2 h3;exact ⟨o',E'',y,k1,g1,g2,by rw [h4,k2]⟩
theorem ZB {f:FuncId} {fn:Func} {code:Code} {ir:SC} {args:Ls} {rs:List RV} {N n0:Nat} {hp0:Lh} {Zz:Ot->Prop} (hf:P.funcs[f]? = some fn) (hb:fn.body=some code) (hnm:Z4 P f=true) (hc:YR P ir code=true)
 (hr:Y2 P rs fn.results.toList=true) (hN:fn.ntmps=N) (hA:args.length<=N) (hh:hpb n0 hp0) (hx:∀ o,Zz o->KX o.res/\KXP o.hp) (h:sx P Y0 n0 ir ⟨YT 0 args,hp0,n0,N,[]⟩ (X0 rs λo=>∃ o',Zz o'/\WI n0 o o')):CtM P f hp0 n0 args Zz :=
 ⟨hnm,hh,hx,(WR hf hb hc hr hN hA h).mono λ_ h=>h⟩
end
end Go.Sx
