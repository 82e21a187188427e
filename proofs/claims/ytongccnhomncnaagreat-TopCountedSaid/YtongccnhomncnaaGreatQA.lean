/- Walks and plain laws that lead to the given statement, part 1 of 10. -/
import Derived.WalkKit
import Derived.WalkSpells
import Derived.WalkLawsBesides
import Derived.ChangeKeysEq
import Derived.IntWalk
import Derived.LoopN
import Derived.Laws.MakeOwn
import Derived.Laws.Append
import Derived.OrdersIn
import Derived.DefersIn
import Derived.RecoverIn
set_option linter.all false
attribute [go_sem] Nat.reduceAdd Nat.reduceMul Nat.reduceSub
open Nat renaming beq_refl->nbr
namespace Go.Sx
open Go Go.RowKit
structure Env where
 β : Nat->Nat
 hv:Nat->Nat->Value
 iss:Nat->Nat
def Ele (E E':Env) (k j:Nat):Prop:=E'.β j=E.β k/\E.iss k<=E'.iss j/\∀ v,v < E.iss k->E'.hv j v=E.hv k v
theorem Ele.rfl {E:Env} {k:Nat}:Ele E E k k:=⟨Eq.refl _,Nat.le_refl _,λ_ _=>Eq.refl _⟩
theorem Ele.trans {E E' E'':Env} {k j i:Nat} (h:Ele E E' k j) (h':Ele E' E'' j i):Ele E E'' k i :=
 ⟨h'.1.trans h.1,Nat.le_trans h.2.1 h'.2.1,λv hv=>(h'.2.2 v (Nat.lt_of_lt_of_le hv h.2.1)).trans (h.2.2 v hv)⟩
def ZG (w w':World) (ok ok':Nat->Prop):Prop :=
 ∀ b,ok b->(w.heap[b]?).isSome->ok' b/\w'.heap[b]? = w.heap[b]?
def YM (w w':World) (ok ok':Nat->Prop):Prop :=
 ∀ b,ok b->((∃ cs T fz,w.heap[b]? = some (.cells cs T fz))\/∃ es c,w.heap[b]? = some (.map es c))->ok' b/\w'.heap[b]? = w.heap[b]?
theorem ZG.c {w w':World} {ok ok':Nat->Prop} (h:ZG w w' ok ok'):YM w w' ok ok':=λb hb q=>h b hb (by rcases q with ⟨cs,T,fz,e⟩ | ⟨es,c,e⟩<;>(rw [e];rfl))
instance {w w':World} {ok ok':Nat->Prop}:Coe (ZG w w' ok ok') (YM w w' ok ok'):=⟨ZG.c⟩
structure VP where
 f:World->(Nat->Prop)->Value->Prop
 one:∀ w ok y,f w ok y->y.oneCell'=true
 mono:∀ w w' ok ok' y,YM w w' ok ok'->f w ok y->f w' ok' y
structure OP where
 f:World->(Nat->Prop)->Obj->Prop
 mono:∀ w w' ok ok' y,YM w w' ok ok'->f w ok y->f w' ok' y
inductive SV where
 | v (x:Value)
 | p (k o:Nat)
 | agg (l:List SV)
 | sl (c:Bool) (m:Nat) (xs:List (List SV))
 | mr (k v:Nat)
 | pr (k v m i o:Nat)
 | ms (k v m i l:Nat)
 | ps (row:List SV) (o:Nat)
 | cl (f:FuncId) (caps:List SV)
 | tup (l:List SV)
 | mp (k:Nat)
 | yl (k:Nat)
 | ifc (T:TypeId) (s:SV)
 | q (φ : VP)
 | gd (j:Nat) (w:Bool) (s:SV)
 | any
def Uf (w:World) (ok:Nat->Prop) (b off:Nat) (cs:List Value):Prop :=
 (cs≠[]->ok b)/\∀ j c,cs[j]? = some c->w.cell? ⟨b,off+j,none⟩=some c
mutual
def R (w:World) (E:Env) (n:Nat->Prop) (ok:Nat->Prop):SV->Value->Prop
 | .v x,y=>y=x
 | .p k o,y=>n k/\y = .pointer (some ⟨E.β k,o,none⟩)
 | .agg l,y=>∃ cs:Array Value,y = .agg cs/\RL w E n ok l cs.toList
 | .sl c m xs,y=>∃ a len cap,y = .slice a len cap/\len=xs.length/\(len<=cap/\(c=true->cap=len))/\xs.length<=9223372036854775807/\(xs=[]\/∃ b off,a=some ⟨b,off,none⟩/\RR w E n ok b m xs off)
 | .mr k v,y=>n k/\v < E.iss k/\y=E.hv k v/\y.oneCell'=true
 | .pr k v m i o,y=>n k/\v < E.iss k/\∃ b len cap,E.hv k v = .slice (some ⟨b,0,none⟩) len cap/\y = .pointer (some ⟨b,i * m+o,none⟩)
 | .ms k v m i l,y=>n k/\v < E.iss k/\∃ a len cap,E.hv k v = .slice a len cap/\i+l<=cap/\y = .slice (if cap - i=0 then a else a.map (·.add (i * m))) l (cap - i)
 | .ps row o,y=>∃ b off,y = .pointer (some ⟨b,off+o,none⟩)/\∃ cs,RL w E n ok row cs/\Uf w ok b off cs
 | .cl f caps,y=>∃ cs:Array Value,y = .func (.func f) #[] cs/\RL w E n ok caps cs.toList
 | .tup l,y=>∃ cs:Array Value,y = .tuple cs/\RL w E n ok l cs.toList
 | .mp k,y=>n k/\y = .map (some (E.β k))
 | .yl k,y=>n k/\y = .func (.yield (E.β k)) #[] #[]
 | .ifc T s,y=>∃ x,y = .iface T x/\R w E n ok s x
 | .q φ,y=>φ.f w ok y
 | .gd _ _ _,_=>False
 | .any,_=>True
def RL (w:World) (E:Env) (n:Nat->Prop) (ok:Nat->Prop):List SV->List Value->Prop
 | [],ys=>ys=[]
 | s :: l,ys=>∃ y r,ys=y :: r/\R w E n ok s y/\RL w E n ok l r
def RR (w:World) (E:Env) (n:Nat->Prop) (ok:Nat->Prop) (b m:Nat):List (List SV)->Nat->Prop
 | [],_=>True
 | row :: rs,off=>row.length=m/\(∃ cs,RL w E n ok row cs/\Uf w ok b off cs)/\RR w E n ok b m rs (off+m)
end
theorem Zai {w w':World} {ok ok':Nat->Prop} {b off:Nat} {cs:List Value} (hs:YM w w' ok ok') (h:Uf w ok b off cs):Uf w' ok' b off cs:=by
 obtain ⟨h1,h2⟩:=h;cases cs with
 | nil=>exact ⟨λh=>absurd rfl h,λj c h=>by simp at h⟩
 | cons c0 cs =>
  have hb:ok b:=h1 (by simp);have h0:=h2 0 c0 (by simp);have hsome:∃ cs T fz,w.heap[b]? = some (.cells cs T fz):=by
   unfold World.cell? at h0;split at h0
   . rename_i c T fz h;exact ⟨c,T,fz,h⟩
   . cases h0
  obtain ⟨k1,k2⟩:=hs b hb (.inl hsome);refine ⟨λ_=>k1,λj c hj=>?_⟩;rw [World.cell?_of_block (w:=w) (by exact k2)];exact h2 j c hj
section
variable {w w':World} {E E':Env} {n n':Nat->Prop} {ok ok':Nat->Prop}
mutual
theorem ZU (hs:YM w w' ok ok') (hE:∀ k,n k->Ele E E' k k) (hn:∀ k,n k->n' k):∀ (s:SV) (y:Value),R w E n ok s y->R w' E' n' ok' s y
 | .v x,y,h=>by simpa [R] using h
 | .p k o,y,h=>by
  simp only [R] at h ⊢;exact ⟨hn k h.1,by rw [(hE k h.1).1];exact h.2⟩
 | .agg l,y,h=>by
  simp only [R] at h ⊢;obtain ⟨cs,h1,h2⟩:=h;exact ⟨cs,h1,ZE hs hE hn l _ h2⟩
 | .sl c m xs,y,h=>by
  simp only [R] at h ⊢;obtain ⟨a,len,cap,h1,h2,h3,h4,h5⟩:=h;refine ⟨a,len,cap,h1,h2,h3,h4,?_⟩;rcases h5 with h5 | ⟨b,off,h5,h6⟩
  . exact .inl h5
  . exact .inr ⟨b,off,h5,ZlH hs hE hn b m xs _ h6⟩
 | .mr k v,y,h=>by simp only [R] at h ⊢;exact ⟨hn k h.1,Nat.lt_of_lt_of_le h.2.1 (hE k h.1).2.1,by rw [(hE k h.1).2.2 v h.2.1];exact h.2.2⟩
 | .pr k v m i o,y,h=>by simp only [R] at h ⊢;exact ⟨hn k h.1,Nat.lt_of_lt_of_le h.2.1 (hE k h.1).2.1,by rw [(hE k h.1).2.2 v h.2.1];exact h.2.2⟩
 | .ms k v m i o,y,h=>by simp only [R] at h ⊢;exact ⟨hn k h.1,Nat.lt_of_lt_of_le h.2.1 (hE k h.1).2.1,by rw [(hE k h.1).2.2 v h.2.1];exact h.2.2⟩
 | .ps row o,y,h=>by
  simp only [R] at h ⊢;obtain ⟨b,off,h1,cs,h2,h3⟩:=h;exact ⟨b,off,h1,cs,ZE hs hE hn row _ h2,Zai hs h3⟩
 | .cl f caps,y,h=>by simp only [R] at h ⊢;obtain ⟨cs,h1,h2⟩:=h;exact ⟨cs,h1,ZE hs hE hn caps _ h2⟩
 | .tup l,y,h=>by simp only [R] at h ⊢;obtain ⟨cs,h1,h2⟩:=h;exact ⟨cs,h1,ZE hs hE hn l _ h2⟩
 | .mp k,y,h=>by simp only [R] at h ⊢;exact ⟨hn k h.1,by rw [(hE k h.1).1];exact h.2⟩
 | .yl k,y,h=>by simp only [R] at h ⊢;exact ⟨hn k h.1,by rw [(hE k h.1).1];exact h.2⟩
 | .ifc T s,y,h=>by simp only [R] at h ⊢;obtain ⟨x,h1,h2⟩:=h;exact ⟨x,h1,ZU hs hE hn s x h2⟩
 | .q φ,y,h=>by simp only [R] at h ⊢;exact φ.mono _ _ _ _ _ hs h
 | .gd _ _ _,y,h=>by simp only [R] at h
 | .any,y,h=>by simp only [R]
theorem ZE (hs:YM w w' ok ok') (hE:∀ k,n k->Ele E E' k k) (hn:∀ k,n k->n' k):∀ (l:List SV) (ys:List Value),RL w E n ok l ys->RL w' E' n' ok' l ys
 | [],ys,h=>by simpa [RL] using h
 | s :: l,ys,h=>by
  simp only [RL] at h ⊢;obtain ⟨y,r,h1,h2,h3⟩:=h;exact ⟨y,r,h1,ZU hs hE hn s y h2,ZE hs hE hn l r h3⟩
theorem ZlH (hs:YM w w' ok ok') (hE:∀ k,n k->Ele E E' k k) (hn:∀ k,n k->n' k) (b m:Nat):∀ (xs:List (List SV)) (off:Nat),RR w E n ok b m xs off->RR w' E' n' ok' b m xs off
 | [],off,h=>by simp only [RR]
 | row :: rs,off,h=>by
  simp only [RR] at h ⊢;obtain ⟨h0,⟨cs,h1,h2⟩,h3⟩:=h;exact ⟨h0,⟨cs,ZE hs hE hn row cs h1,Zai hs h2⟩,ZlH hs hE hn b m rs _ h3⟩
end
end
section
variable {w w':World} {E E':Env} {n n':Nat->Prop} {ok ok':Nat->Prop}
theorem ZC:∀ {l:List SV} {ys:List Value},RL w E n ok l ys->ys.length=l.length
 | [],ys,h=>by simp only [RL] at h;simp [h]
 | s :: l,ys,h=>by
  simp only [RL] at h;obtain ⟨y,r,rfl,_,h3⟩:=h;simp [ZC h3]
theorem Vs:∀ {l:List SV} {ys:List Value} {i:Nat} {s:SV},RL w E n ok l ys->l[i]? = some s->∃ y,ys[i]? = some y/\R w E n ok s y
 | [],ys,i,s,h,hi=>by simp at hi
 | s :: l,ys,0,s',h,hi=>by
  simp only [RL] at h;obtain ⟨y,r,rfl,h2,_⟩:=h;simp at hi;subst hi;exact ⟨y,by simp,h2⟩
 | s :: l,ys,i+1,s',h,hi=>by
  simp only [RL] at h;obtain ⟨y,r,rfl,_,h3⟩:=h;simp at hi;simpa using Vs h3 hi
theorem Z7:∀ {l m:List SV} {ys zs:List Value},RL w E n ok l ys->RL w E n ok m zs->RL w E n ok (l ++ m) (ys ++ zs)
 | [],m,ys,zs,h,h'=>by simp only [RL] at h;subst h;simpa using h'
 | s :: l,m,ys,zs,h,h'=>by
  simp only [RL] at h;obtain ⟨y,r,rfl,h2,h3⟩:=h;simp only [List.cons_append,RL];exact ⟨y,r ++ zs,rfl,h2,Z7 h3 h'⟩
theorem W4:∀ {l:List SV} {ys:List Value} (o:Nat),RL w E n ok l ys->RL w E n ok (l.drop o) (ys.drop o)
 | l,ys,0,h=>by simpa using h
 | [],ys,o+1,h=>by simp only [RL] at h;subst h;simp [RL]
 | s :: l,ys,o+1,h=>by
  simp only [RL] at h;obtain ⟨y,r,rfl,_,h3⟩:=h;simpa using W4 o h3
theorem X2:∀ {l:List SV} {ys:List Value} (o:Nat),RL w E n ok l ys->RL w E n ok (l.take o) (ys.take o)
 | l,ys,0,h=>by simp [RL]
 | [],ys,o+1,h=>by simp only [RL] at h;subst h;simp [RL]
 | s :: l,ys,o+1,h=>by
  simp only [RL] at h;obtain ⟨y,r,rfl,h2,h3⟩:=h;simp only [List.take_succ_cons,RL];exact ⟨y,_,rfl,h2,X2 o h3⟩
theorem ZAV (l:List Value):RL w E n ok (l.map .v) l:=by
 induction l with
 | nil=>simp [RL]
 | cons x l ih=>simp only [List.map_cons,RL];exact ⟨x,l,rfl,by simp [R],ih⟩
end
def Zv:List SV->Nat->List SV->List SV
 | l,0,[]=>l
 | _ :: l,0,c :: cs=>c :: Zv l 0 cs
 | x :: l,o+1,cs=>x :: Zv l o cs
 | [],_,_=>[]
def ZJ:List Value->Nat->List Value->List Value
 | l,0,[]=>l
 | _ :: l,0,c :: cs=>c :: ZJ l 0 cs
 | x :: l,o+1,cs=>x :: ZJ l o cs
 | [],_,_=>[]
theorem Xy {w:World} {E:Env} {n:Nat->Prop} {ok:Nat->Prop}:∀ {l:List SV} {ys:List Value} (o:Nat) {m:List SV} {zs:List Value},RL w E n ok l ys->RL w E n ok m zs ->
 RL w E n ok (Zv l o m) (ZJ ys o zs)
 | [],ys,o,m,zs,h,h'=>by
  simp only [RL] at h;subst h;cases o with
  | zero=>cases m with
   | nil=>simp only [RL] at h';subst h';simp [Zv,ZJ,RL]
   | cons=>simp only [RL] at h';obtain ⟨y,r,rfl,_⟩:=h';simp [Zv,ZJ,RL]
  | succ=>simp [Zv,ZJ,RL]
 | s :: l,ys,0,[],zs,h,h'=>by simp only [RL] at h';subst h';simp only [RL] at h;obtain ⟨y,r,rfl,h2,h3⟩:=h;simp only [Zv,ZJ,RL];exact ⟨y,r,rfl,h2,h3⟩
 | s :: l,ys,0,t :: m,zs,h,h'=>by
  simp only [RL] at h h';obtain ⟨y,r,rfl,h2,h3⟩:=h;obtain ⟨z,q,rfl,k2,k3⟩:=h';simp only [Zv,ZJ,RL];exact ⟨z,_,rfl,k2,Xy 0 h3 k3⟩
 | s :: l,ys,o+1,m,zs,h,h'=>by
  simp only [RL] at h;obtain ⟨y,r,rfl,h2,h3⟩:=h;simp only [Zv,ZJ,RL];exact ⟨y,_,rfl,h2,Xy o h3 h'⟩
theorem ZP:∀ (l:List Value) (o:Nat) (m:List Value),(ZJ l o m).length=l.length
 | [],0,[]=>rfl
 | [],0,_ :: _=>rfl
 | [],_+1,_=>rfl
 | _ :: _,0,[]=>rfl
 | _ :: l,0,_ :: m=>by simp [ZJ,ZP l 0 m]
 | _ :: l,o+1,m=>by simp [ZJ,ZP l o m]
theorem Yg:∀ (l:List Value) (o:Nat) (m:List Value) (j:Nat),o+m.length<=l.length ->
 (ZJ l o m)[j]? = if o<=j/\j < o+m.length then m[j - o]? else l[j]?
 | [],0,[],j,_=>by simp [ZJ]
 | [],0,_ :: _,j,h=>by simp at h
 | [],_+1,_,j,h=>by simp at h
 | x :: l,0,[],j,_=>by simp [ZJ]
 | x :: l,0,c :: m,0,h=>by simp [ZJ]
 | x :: l,0,c :: m,j+1,h=>by
  have:=Yg l 0 m j (by simp at h;omega);simp only [ZJ,List.getElem?_cons_succ,this];by_cases hj:j < m.length
  . rw [if_pos (by omega),if_pos (by simp;omega)];simp
  . rw [if_neg (by omega),if_neg (by simp;omega)]
 | x :: l,o+1,m,0,h=>by simp [ZJ]
 | x :: l,o+1,m,j+1,h=>by
  have:=Yg l o m j (by simp at h;omega);simp only [ZJ,List.getElem?_cons_succ,this];by_cases hj:o<=j/\j < o+m.length
  . rw [if_pos hj,if_pos (by omega),show j+1 - (o+1)=j - o from by omega]
  . rw [if_neg hj,if_neg (by omega)]
inductive Ex where
 | n | ex (id:Nat) | ret | pan (s:SV)
def Ex.code:Ex->Code
 | .n=>.skip
 | .ex i=>.exit i
 | .ret=>.ret
 | .pan _=>.skip
def lpS:Option Ex->LoopState
 | none=>.ready
 | some _=>.done
def lpP:Option Ex->Option Code
 | none=>none
 | some e=>some e.code
inductive HB where
 | cells (l:List SV) (T:TypeId)
 | row (v m:Nat) (xs:List (List SV)) (T:TypeId)
 | ob (φ : OP)
 | map (es:List (Nat × Value × SV)) (clk:Nat)
 | it (km since:Nat) (seen:List Nat) (last:Nat)
 | lp (rec:Loop) (pd:Option Ex)
 | lb (rec:Loop)
 | rws (v m:Nat) (xs:List (List SV)) (T:TypeId) (o m':Nat) (inn:List (List (List SV))) (T':TypeId)
 | gone
structure St where
 fr:List (Nat × SV)
 hp:List (Nat × HB)
 n:Nat
 N:Nat
 gs:List Nat
def lk (t:Nat):List (Nat × SV)->SV
 | []=>.any
 | (u,s) :: r=>bif Nat.beq t u then s else lk t r
def lkh (k:Nat):List (Nat × HB)->HB
 | []=>.gone
 | (u,s) :: r=>bif Nat.beq k u then s else lkh k r
theorem ZI (t u:Nat) (s:SV) (r:List (Nat × SV)):lk t ((u,s) :: r)=if t=u then s else lk t r:=by
 simp only [lk];by_cases h:t=u
 . subst h;simp [nbr]
 . have:Nat.beq t u=false:=Bool.eq_false_iff.2 (λe=>h (Nat.eq_of_beq_eq_true e));simp [this,h]
theorem Zs (t u:Nat) (s:HB) (r:List (Nat × HB)):lkh t ((u,s) :: r)=if t=u then s else lkh t r:=by
 simp only [lkh];by_cases h:t=u
 . subst h;simp [nbr]
 . have:Nat.beq t u=false:=Bool.eq_false_iff.2 (λe=>h (Nat.eq_of_beq_eq_true e));simp [this,h]
def GT:Nat->Option (List SV):=λ_=>none
def GS (w:World) (ok:Nat->Prop):Prop:=∀ g l,GT g=some l->g < w.heap.size/\ok g/\∃ cs:List Value,(∀ (w':World) E n ok',RL w' E n ok' l cs)/\Uf w ok g 0 cs
theorem ZfI {w w':World} {ok ok':Nat->Prop} (h:GS w ok) (hs:∀ g l,GT g=some l->ok g->g < w'.heap.size/\ok' g/\w'.heap[g]? = w.heap[g]?):GS w' ok':=λg l hg=>by
 obtain ⟨h1,h2,cs,h3,h4⟩:=h g l hg;obtain ⟨k1,k2,k3⟩:=hs g l hg h2;exact ⟨k1,k2,cs,h3,λ_=>k2,λj c hj=>by rw [World.cell?_of_block (w:=w) k3];exact h4.2 j c hj⟩
structure Cx where
 w0:World
 okp:Nat->Prop
 pass:Nat->Nat->Prop
 ds:List Deferred
 rd:Option Nat
 e0:Env
 m0:Nat
 gl:GS w0 okp/\∀ g l,GT g=some l->∀ k,¬ pass k g
inductive F2 {α : Type} (p:α->α->Prop):List α->List α->Prop
 | nil:F2 p [] []
 | cons {a b:α} {l l':List α} (h1:p a b) (h2:F2 p l l'):F2 p (a :: l) (b :: l')
def ZyJ (y:Value) (b:Nat):Prop:=∃ len cap,y = .slice (some ⟨b,0,none⟩) len cap/\cap≠0
def ZaB (k o:Nat):Nat->Nat->List (List SV)->List (List SV)
 | _,0,xs=>xs
 | _,_+1,[]=>[]
 | u,n+1,row :: xs=>row.set o (.mr k u) :: ZaB k o (u+1) n xs
def ZfD (o m':Nat):List (List (List SV))->List (List SV)->List (List SV)
 | [],xs=>xs
 | _ :: _,[]=>[]
 | r :: inn,row :: xs=>row.set o (.sl false m' r) :: ZfD o m' inn xs
def Xg (k v m:Nat) (xs:List (List SV)) (T:TypeId) (o m':Nat) (inn:List (List (List SV))) (T':TypeId):Nat->Option (Nat × List (List SV) × TypeId)
 | 0=>some (m,ZaB k o (v+1) inn.length xs,T)
 | j+1=>match inn[j]? with | some r=>some (m',r,T') | none=>none
def Zyr (w:World) (E:Env) (n:Nat->Prop) (ok:Nat->Prop) (y:Value) (m:Nat) (xs:List (List SV)) (T:TypeId):Prop :=
 (xs=[]/\∃ a,y = .slice a 0 0)\/∃ b cap cs,y = .slice (some ⟨b,0,none⟩) xs.length cap/\w.heap[b]? = some (.cells cs T (0,0)) /\
  cs.size=cap * m/\(xs.length<=cap/\cap≠0)/\xs.length<=9223372036854775807/\(∀ r ∈ xs,r.length=m)/\RL w E n ok xs.flatten (cs.toList.take (xs.length * m))
def occ (E:Env) (k:Nat):HB->Nat->Prop
 | .cells _ _,b=>b=E.β k
 | .ob _,b=>b=E.β k
 | .map _ _,b=>b=E.β k
 | .it _ _ _ _,b=>b=E.β k
 | .lp _ _,b=>b=E.β k
 | .lb _,b=>b=E.β k
 | .row v _ _ _,b=>∃ len cap,E.hv k v = .slice (some ⟨b,0,none⟩) len cap/\cap≠0
 | .rws v _ _ _ _ _ inn _,b=>∃ i,i<=inn.length/\ZyJ (E.hv k (v+i)) b
 | .gone,_=>False
def okS (C:Cx) (E:Env) (hp:List (Nat × HB)) (b:Nat):Prop :=
 (C.okp b\/C.w0.heap.size<=b)/\∀ k,¬ occ E k (lkh k hp) b
def RM (w:World) (E:Env) (n:Nat->Prop) (ok:Nat->Prop):List (Nat × Value × SV)->List MapEntry->Prop
 | [],ys=>ys=[]
 | e :: l,ys=>∃ y r,ys=⟨e.2.1,y,e.1⟩ :: r/\R w E n ok e.2.2 y/\RM w E n ok l r
def Ya (w:World) (E:Env) (n:Nat->Prop) (ok:Nat->Prop) (k:Nat):HB->Prop
 | .cells l T=>∃ cs,w.heap[E.β k]? = some (.cells cs T (0,0))/\RL w E n ok l cs.toList
 | .row v m xs T=>E.iss k=v+1/\((xs=[]/\∃ a,E.hv k v = .slice a 0 0)\/∃ b cap cs,E.hv k v = .slice (some ⟨b,0,none⟩) xs.length cap/\w.heap[b]? = some (.cells cs T (0,0)) /\
  cs.size=cap * m/\(xs.length<=cap/\cap≠0)/\xs.length<=9223372036854775807/\(∀ r ∈ xs,r.length=m)/\RL w E n ok xs.flatten (cs.toList.take (xs.length * m)))
 | .ob φ=>∃ o,w.heap[E.β k]? = some o/\φ.f w ok o
 | .map es c=>∃ ys,w.heap[E.β k]? = some (.map ys c)/\RM w E n ok es ys.toList
 | .it km since seen last=>n km/\w.heap[E.β k]? = some (.mapIter (some (E.β km)) since seen.toArray last)
 | .lp rec pd=>w.heap[E.β k]? = some (.loop { rec with state:=lpS pd,pending:=lpP pd })
 | .lb rec=>w.heap[E.β k]? = some (.loop { rec with state:=.busy,pending:=none })
 | .rws v m xs T o m' inn T'=>E.iss k=v+1+inn.length/\inn.length<=xs.length/\(∀ i mm rows TT,Xg k v m xs T o m' inn T' i=some (mm,rows,TT)->Zyr w E n ok (E.hv k (v+i)) mm rows TT) /\
  ∀ i j b,i<=inn.length->j<=inn.length->ZyJ (E.hv k (v+i)) b->ZyJ (E.hv k (v+j)) b->i=j
 | .gone=>True
inductive GE (fr:List (Nat × SV)):Nat->Bool->Prop
 | base {j:Nat} {b:Bool} (h:lk j fr = .v (.bool b)):GE fr j b
 | step {j j':Nat} {b b':Bool} (h:lk j fr = .gd j' b' (.v (.bool b))) (h':GE fr j' b'):GE fr j b
abbrev ge:=GE
def FR (w:World) (E:Env) (n:Nat->Prop) (ok:Nat->Prop) (fr:List (Nat × SV)):SV->Value->Prop
 | .gd j b s,y=>(ge fr j b->R w E n ok s y)/\(¬ ge fr j b->y=undef)
 | s,y=>R w E n ok s y
structure Keeps (C:Cx) (w:World):Prop where
 os:w.os=C.w0.os
 tape:w.tape=C.w0.tape
 output:w.output=C.w0.output
 size:C.w0.heap.size<=w.heap.size
 block:∀ b,b < C.w0.heap.size->(∀ k,¬ C.pass k b)->w.heap[b]? = C.w0.heap[b]?
def ltn (n:Nat) (k:Nat):Prop:=k < n
structure HSim (C:Cx) (E:Env) (hp:List (Nat × HB)) (n:Nat->Prop) (w:World):Prop where
 kn:∀ k,¬ n k->lkh k hp = .gone
 bk:∀ k,Ya w E n (okS C E hp) k (lkh k hp)
 dj:∀ k k' b,occ E k (lkh k hp) b->occ E k' (lkh k' hp) b->k=k'
 lo:∀ k b,occ E k (lkh k hp) b->C.w0.heap.size<=b\/C.pass k b
 kp:Keeps C w
 pin:∀ k,k < C.m0->n k/\Ele C.e0 E k k
theorem Vk {C:Cx} {E:Env} {hp:List (Nat × HB)} {n:Nat->Prop} {w:World} (hh:HSim C E hp n w) {g:Nat} {l:List SV} (hg:GT g=some l) (k:Nat):¬ occ E k (lkh k hp) g:=λho=>by
 have h1:=(C.gl.1 g l hg).1;rcases hh.lo k g ho with h | h
 . omega
 . exact C.gl.2 g l hg k h
theorem Zu {C:Cx} {E:Env} {hp:List (Nat × HB)} {n:Nat->Prop} {w:World} (hh:HSim C E hp n w):GS w (okS C E hp) :=
 ZfI C.gl.1 λg l hg hok=>by
  have h1:=(C.gl.1 g l hg).1;exact ⟨Nat.lt_of_lt_of_le h1 hh.kp.size,⟨.inl hok,Vk hh hg⟩,hh.kp.block g h1 (C.gl.2 g l hg)⟩
def Zdt (m:Nat):Deferred:={ target:=.collected m,args:=#[] }
def DF (C:Cx) (E:Env) (hp:List (Nat × HB)) (w:World) (ds:List Deferred):Prop :=
 ∃ ms:List Nat,ds=ms.map Zdt ++ C.ds/\(ms.Nodup/\(C.rd.isSome=true->ms=[]))/\∀ m ∈ ms,C.w0.heap.size<=m/\okS C E hp m/\w.heap[m]? = some (.deferred (some []))
theorem XZ {C:Cx} {E E':Env} {hp hp':List (Nat × HB)} {w w':World} {ds:List Deferred} (hs:ZG w w' (okS C E hp) (okS C E' hp')) (h:DF C E hp w ds):DF C E' hp' w' ds:=by
 obtain ⟨ms,h1,h2,h3⟩:=h;refine ⟨ms,h1,h2,λm hm=>?_⟩;obtain ⟨q1,q2,q3⟩:=h3 m hm;obtain ⟨k1,k2⟩:=hs m q2 (by rw [q3];rfl);exact ⟨q1,k1,by rw [k2];exact q3⟩
theorem Zah {C:Cx} {E:Env} {hp:List (Nat × HB)} {w:World}:DF C E hp w C.ds:=⟨[],rfl,⟨.nil,λ_=>rfl⟩,λm hm=>by simp at hm⟩
def MC (C:Cx) (m:Nat):Prop:=C.m0<=m/\∀ k b,C.pass k b->k < C.m0
structure Sim (C:Cx) (E:Env) (σ : St) (a:Act) (w:World):Prop where
 fr:∀ t,FR w E (ltn σ.n) (okS C E σ.hp) σ.fr (lk t σ.fr) (a.tmps.getD t undef)
 sz:a.tmps.size = σ.N
 df:DF C E σ.hp w a.defers
 gs:∀ t j b s,lk t σ.fr = .gd j b s->j ∈ σ.gs
 hs:HSim C E σ.hp (ltn σ.n) w
inductive X where
 | t (n:Nat) | c (x:Value) | f (i:Nat) | g (i:Nat)
inductive SI where
 | mv (x:X)
 | pick (c a b:X)
 | box (x:X) (m:Nat) (T:TypeId)
 | alloc (z:List Value) (T:TypeId)
 | build (z:List Value) (ps:List (Nat × Nat × X))
 | bsl (m:Nat) (T:TypeId) (ps:List X)
 | ld (x:X) (m:Nat) (ag:Bool)
 | st (x y:X) (m:Nat)
 | nilc (x:X)
 | bin (b:BinOp) (x y:X)
 | div (b:BinOp) (x y:X)
 | eqs (ng ag:Bool) (cls:List Nat) (x y:X)
 | un (u:UnOp) (x:X)
 | addo (x:X) (o:Nat)
 | fld (x:X) (o m:Nat) (ag:Bool)
 | idx (x i:X) (len m:Nat) (ag:Bool)
 | ixa (x i:X) (len m:Nat)
 | ixs (x i:X) (m:Nat)
 | len (x:X)
 | mm (mx:Bool) (xs:List X)
 | call (f:FuncId) (as:List X)
 | calv (x:X) (as:List X)
 | callm (f:FuncId) (as:List X)
 | calvm (x:X) (as:List X)
 | mkf (f:FuncId) (cs:List X)
 | conv (k:IntKind) (x:X)
 | ext (x:X) (i:Nat)
 | app (m b:Nat) (T:TypeId) (x y:X)
 | cln (m b:Nat) (T:TypeId) (x y:X)
 | appm (m b:Nat) (T:TypeId) (x y:X)
 | cpy (m:Nat) (x y:X)
 | mks (m b:Nat) (z:List Value) (T:TypeId) (x:X)
 | isn (x:X)
 | slc (x h k:X)
 | sub (m:Nat) (x:X) (lo hi:Option X)
 | raw (op:Op) (ty:TypeId)
 | rv (op:Op) (xs:List X)
 | rb (op:Op) (x:X) (xs:List X)
def evX (a:Act):X->Value
 | .t n=>a.tmps.getD n undef
 | .c x=>x
 | .f i=>.func (.func i) #[] #[]
 | .g i=>.pointer (some ⟨i,0,none⟩)
def eqV:Value->Value->Bool
 | .bool a,.bool b=>a == b
 | .int k a,.int j b=>decide (k=j) && decide (a=b)
 | .pointer none,.pointer none=>true
 | .slice none a b,.slice none c d=>a == c && b == d
 | .map none,.map none=>true
 | .nilFunc,.nilFunc=>true
 | .nilIface,.nilIface=>true
 | .string a,.string b=>decide (a=b)
 | _,_=>false
theorem Za7:∀ {x y:Value},eqV x y=true->x=y:=by
 intro x y h;unfold eqV at h;split at h<;>simp_all
def YV:X->Operand->Bool
 | .t n,.tmp m=>n == m
 | .c x,.const y=>eqV x y
 | .f i,.func j=>i == j
 | .g i,.global j=>i == j
 | _,_=>false
theorem Zf {x:X} {o:Operand} (h:YV x o=true) (a:Act):a.eval o=evX a x:=by
 unfold YV at h;split at h
 . simp at h;subst h;rfl
 . rw [Za7 h];rfl
 . simp at h;subst h;rfl
 . simp at h;subst h;rfl
 . cases h
def Vl:List X->List Operand->Bool
 | [],[]=>true
 | x :: xs,o :: os=>YV x o && Vl xs os
 | _,_=>false
theorem YG:∀ {xs:List X} {os:List Operand},Vl xs os=true->∀ a:Act,os.map a.eval=xs.map (evX a)
 | [],[],_,_=>rfl
 | x :: xs,o :: os,h,a=>by
  simp only [Vl,Bool.and_eq_true] at h;simp [Zf h.1 a,YG h.2 a]
 | [],_ :: _,h,_=>by simp [Vl] at h
 | _ :: _,[],h,_=>by simp [Vl] at h
section
variable {P:Program} {w:World}
def XT (P:Program) (t:TypeId):Option Nat:=(P.info? t).map (·.size)
def Zcl (P:Program) (t:TypeId):Option Bool:=(P.underlying t).map λ| .struct _ | .array _ _=>true | _=>false
def Y1 (P:Program) (t:TypeId):Option Value:=(P.info? t).bind (·.zero)
theorem Z4 {t:TypeId} {m:Nat} (h:XT P t=some m):(sizeOf t).run P w = .ok m w:=by
 unfold XT at h;cases hq:P.info? t with
 | none=>simp [hq] at h
 | some i=>simp [hq] at h;subst h;simp [sizeOf,typeInfo,hq]
theorem UC {t:TypeId} {b:Bool} (h:Zcl P t=some b):(isAgg t).run P w = .ok b w:=by
 unfold Zcl at h;cases hq:P.underlying t with
 | none=>simp [hq] at h
 | some d =>
  simp [hq] at h;subst h;unfold isAgg;rw [Sem.run_bind,run_underlying hq w];cases d<;>simp
theorem VL {t:TypeId} {v:Value} (h:Y1 P t=some v):(zeroValue t).run P w = .ok v w:=by
 unfold Y1 at h;cases hq:P.info? t with
 | none=>simp [hq] at h
 | some i=>simp [hq] at h;simp [zeroValue,typeInfo,hq,h]
theorem YT (b o n:Nat):(⟨b,o,none⟩:Addr).add n=⟨b,o+n,none⟩:=by
 unfold Addr.add;split<;>simp_all
theorem ZbQ {t:TypeId} {m b o:Nat} {cs:List Value} (ha:Zcl P t=some true) (hs:XT P t=some m) (hl:cs.length=m)
 (hc:∀ j c,cs[j]? = some c->w.cell? ⟨b,o+j,none⟩=some c):(loadVar t ⟨b,o,none⟩).run P w = .ok (.agg cs.toArray) w:=by
 subst hl;have hl:(loadCells ⟨b,o,none⟩ cs.length).run P w = .ok cs.toArray w :=
  run_loadCells_list (P:=P) w ⟨b,o,none⟩ cs (λj v hv=>by rw [YT];exact hc j v hv)
 simp [loadVar,Sem.run_bind,UC ha,Z4 hs,hl]
theorem ZbB {t:TypeId} {b o:Nat} {c:Value} (ha:Zcl P t=some false)
 (hc:w.cell? ⟨b,o,none⟩=some c):(loadVar t ⟨b,o,none⟩).run P w = .ok c w:=by
 simp [loadVar,Sem.run_bind,UC ha,hc]
end
structure Wr0 (w w':World) (b:Nat):Prop where
 os:w'.os=w.os
 tape:w'.tape=w.tape
 output:w'.output=w.output
 size:w'.heap.size=w.heap.size
 same:∀ k,k≠b->w'.heap[k]? = w.heap[k]?
structure Wrote (w w':World) (b:Nat) (cs:List Value) (T:TypeId):Prop where
 os:w'.os=w.os
 tape:w'.tape=w.tape
 output:w'.output=w.output
 size:w'.heap.size=w.heap.size
 same:∀ k,k≠b->w'.heap[k]? = w.heap[k]?
 here:w'.heap[b]? = some (.cells cs.toArray T (0,0))
section
variable {P:Program}
theorem Zhe {w:World} {b o:Nat} {cs:List Value} {T:TypeId} {v:Value} (hb:w.heap[b]? = some (.cells cs.toArray T (0,0))) (ho:o < cs.length) (hv:v.oneCell'=true) :
 (store ⟨b,o,none⟩ v).run P w = .ok () (w.setCell ⟨b,o,none⟩ v)/\Wrote w (w.setCell ⟨b,o,none⟩ v) b (cs.set o v) T:=by
 have hc:w.cell? ⟨b,o,none⟩=some cs[o]:=by simp [World.cell?,hb,ho]
 have hf:w.frozen? ⟨b,o,none⟩=false:=by simp [World.frozen?,hb]
 refine ⟨by rw [run_store P w _ v _ hv,hc,hf];rfl,⟨rfl,rfl,rfl,by simp [World.setCell],λk hk=>?_,?_⟩⟩
 . exact Below.heap_setCell _ _ _ _ hk
 . simp [World.setCell,Array.getElem?_modify,hb]
theorem YQ:∀ (vs:List Value) {w:World} {b o i:Nat} {cs:List Value} {T:TypeId},w.heap[b]? = some (.cells cs.toArray T (0,0))->o+i+vs.length<=cs.length->(∀ v ∈ vs,v.oneCell'=true) ->
 ∃ w',(storeCells ⟨b,o,none⟩ vs i).run P w = .ok () w'/\Wrote w w' b (ZJ cs (o+i) vs) T
 | [],w,b,o,i,cs,T,hb,hl,h1=>by
  refine ⟨w,rfl,rfl,rfl,rfl,rfl,λ_ _=>rfl,?_⟩;have:ZJ cs (o+i) []=cs:=by
   apply List.ext_getElem?;intro j;rw [Yg _ _ _ _ (by simpa using hl)];rw [if_neg (by simp)]
  rw [this];exact hb
 | v :: vs,w,b,o,i,cs,T,hb,hl,h1=>by
  simp only [List.length_cons] at hl;obtain ⟨e1,g1⟩:=Zhe (P:=P) (o:=o+i) (v:=v) hb (by omega) (h1 v (by simp));obtain ⟨w',e2,g2⟩:=YQ vs (w:=w.setCell ⟨b,o+i,none⟩ v) (b:=b) (o:=o) (i:=i+1) (T:=T) g1.here (by simp;omega) (λu hu=>h1 u (by simp [hu]));refine ⟨w',?_,⟨g2.os.trans g1.os,g2.tape.trans g1.tape,g2.output.trans g1.output,g2.size.trans g1.size,λk hk=>(g2.same k hk).trans (g1.same k hk),?_⟩⟩
  . simp only [storeCells,YT,Sem.run_bind,e1,Result.andThen_ok];exact e2
  . rw [g2.here];congr 2;have:ZJ (cs.set (o+i) v) (o+(i+1)) vs=ZJ cs (o+i) (v :: vs):=by
     apply List.ext_getElem?;intro j;rw [Yg _ _ _ _ (by simp;omega),Yg _ _ _ _ (by simp;omega)];simp only [List.length_cons];by_cases hj:o+(i+1)<=j/\j < o+(i+1)+vs.length
     . rw [if_pos hj,if_pos (by omega),show j - (o+i)=(j - (o+(i+1)))+1 from by omega];simp
     . rw [if_neg hj];by_cases hj2:j=o+i
       . subst hj2;rw [if_pos (by omega),List.getElem?_set_self (by omega)];simp
       . rw [if_neg (by omega),List.getElem?_set_ne (by omega)]
    rw [this]
theorem YY {t:TypeId} {m:Nat} {v:Value} {w:World} {b o:Nat} {cs:List Value} {T:TypeId} (hs:XT P t=some m) (hm:v.cells.size=m) (hb:w.heap[b]? = some (.cells cs.toArray T (0,0)))
 (hl:o+m<=cs.length) (h1:∀ u ∈ v.cells.toList,u.oneCell'=true):∃ w',(storeVar t ⟨b,o,none⟩ v).run P w = .ok () w'/\Wrote w w' b (ZJ cs o v.cells.toList) T:=by
 obtain ⟨w',e,g⟩:=YQ (P:=P) v.cells.toList (w:=w) (b:=b) (o:=o) (i:=0) (T:=T) hb (by simp [hm];omega) h1;exact ⟨w',by simp [storeVar,Sem.run_bind,Z4 hs,hm,e],by simpa using g⟩
end
def ZlO:Value->Bool
 | .agg _ | .tuple _=>false
 | _=>true
def ZaO:SV->Bool
 | .v x=>ZlO x
 | .p _ _ | .sl _ _ _ | .mr _ _ | .pr _ _ _ _ _ | .ms _ _ _ _ _ | .ps _ _ | .cl _ _ | .q _ | .mp _ | .yl _ | .ifc _ _=>true
 | _=>false
theorem ZxR (v:Value):ZlO v=v.oneCell':=by cases v<;>rfl
section
variable {P:Program} {w:World}
def ZqQ (P:Program) (s f:Nat):Option Nat :=
 match P.underlying s with
 | some (.struct fs)=>match fs[f]? with
  | some fd=>match XT P fd.type with
   | some m=>if m=0 then none else some fd.offset
   | none=>none
  | none=>none
 | _=>none
theorem Ue {s f off b o:Nat} (h:ZqQ P s f=some off):(Instr.fieldAt s (.pointer (some ⟨b,o,none⟩)) f).run P w = .ok (.pointer (some ⟨b,o+off,none⟩)) w:=by
 unfold ZqQ at h;split at h
 . rename_i fs hu;split at h
   . rename_i fd hf;split at h
     . rename_i m hm;split at h
       . cases h
       . rename_i h0;simp at h;subst h;simp only [Instr.fieldAt,Sem.run_bind,run_underlying hu,Result.andThen_ok];simp [Sem.run_bind,hf,Instr.sureAddr,fieldPlace,Z4 hm,h0,YT]
     . cases h
   . cases h
 . cases h
def ZqL (P:Program) (s f:Nat):Option (Nat × TypeId) :=
 match P.underlying s with
 | some (.struct fs)=>(fs[f]?).map λfd=>(fd.offset,fd.type)
 | _=>none
theorem ZaL {t m off:Nat} {ag:Bool} {cs:Array Value} (ha:Zcl P t=some ag) (hs:XT P t=some m) (c:Value) (h1:ag=false->cs[off]? = some c) :
 (part t cs off).run P w = .ok (if ag then .agg (cs.extract off (off+m)) else c) w:=by
 cases ag
 . simp [part,Sem.run_bind,UC ha,h1 rfl]
 . simp [part,Sem.run_bind,UC ha,Z4 hs]
theorem Zmq {s f off t m:Nat} {ag:Bool} {cs:Array Value} (h:ZqL P s f=some (off,t)) (ha:Zcl P t=some ag) (hs:XT P t=some m) (c:Value) (h1:ag=false->cs[off]? = some c) :
 (Instr.field s (.agg cs) f).run P w = .ok (if ag then .agg (cs.extract off (off+m)) else c) w:=by
 unfold ZqL at h;split at h
 . rename_i fs hu;cases hf:fs[f]? with
   | none=>simp [hf] at h
   | some fd =>
    simp [hf] at h;obtain ⟨rfl,rfl⟩:=h;simp only [Instr.field,Sem.run_bind,run_underlying hu,Result.andThen_ok,hf];simp only [asAgg,Sem.run_pure,Result.andThen_ok];exact ZaL ha hs c h1
 . cases h
theorem ZpD (off:Nat) (vs:List Value) (k:Nat):∀ (cs:Array Value),off+k+vs.length<=cs.size ->
 ((vs.zipIdx k).foldl (λcs (x:Value × Nat)=>cs.setIfInBounds (off+x.2) x.1) cs).toList=ZJ cs.toList (off+k) vs:=by
 induction vs generalizing k with
 | nil =>
  intro cs h;simp only [List.zipIdx_nil,List.foldl_nil];apply List.ext_getElem?;intro j;rw [Yg _ _ _ _ (by simpa using h)];rw [if_neg (by simp)]
 | cons v vs ih =>
  intro cs h;simp only [List.length_cons] at h;simp only [List.zipIdx_cons,List.foldl_cons];rw [ih (k+1) _ (by simp;omega)];apply List.ext_getElem?;intro j;rw [Yg _ _ _ _ (by simp;omega),Yg _ _ _ _ (by simp;omega)];simp only [List.length_cons,Array.toList_setIfInBounds];by_cases hj:off+(k+1)<=j/\j < off+(k+1)+vs.length
  . rw [if_pos hj,if_pos (by omega),show j - (off+k)=(j - (off+(k+1)))+1 from by omega];simp
  . rw [if_neg hj];by_cases hj2:j=off+k
    . subst hj2;rw [if_pos (by omega),List.getElem?_set_self (by simp;omega)];simp
    . rw [if_neg (by omega),List.getElem?_set_ne (by omega)]
def Zcg:List Value->List (Nat × Value)->List Value
 | z,[]=>z
 | z,(o,v) :: r=>Zcg (ZJ z o v.cells.toList) r
theorem ZfP (place:Nat->Option (Nat × Nat)):∀ (l:List (Nat × Value)) (ps:List (Nat × Value)) (cells:Array Value),
 l.length=ps.length->(∀ i (h:i < l.length) (h':i < ps.length),∃ m,place l[i].1=some (ps[i].1,m)/\l[i].2=ps[i].2/\l[i].2.cells.size=m/\ps[i].1+m<=cells.size) ->
 Instr.fill place cells l=some (Zcg cells.toList ps).toArray
 | [],[],cells,_,_=>by simp [Instr.fill,Zcg]
 | (i,v) :: l,(o,u) :: ps,cells,hl,h=>by
  obtain ⟨m,h1,h2,h3,h4⟩:=h 0 (by simp) (by simp);simp at h1 h2 h3 h4;subst h2;have hle:¬ ((decide (v.cells.size≠m) || decide (o+v.cells.size > cells.size))=true):=by simp [h3];omega
  simp only [Instr.fill,h1,Zcg];rw [if_neg hle];have key:(v.cells.zipIdx.foldl (λcs (x:Value × Nat)=>cs.setIfInBounds (o+x.2) x.1) cells).toList=ZJ cells.toList o v.cells.toList:=by
   have:=ZpD o v.cells.toList 0 cells (by simp [h3];omega);simp only [Nat.add_zero] at this;rw [<- this,<- Array.foldl_toList];simp
  rw [ZfP place l ps _ (by simpa using hl)]
  . rw [key]
  . intro j hj hj';obtain ⟨m',k1,k2,k3,k4⟩:=h (j+1) (by simp;omega) (by simp;omega);refine ⟨m',by simpa using k1,by simpa using k2,by simpa using k3,?_⟩;have:(v.cells.zipIdx.foldl (λcs (x:Value × Nat)=>cs.setIfInBounds (o+x.2) x.1) cells).size=cells.size:=by
     rw [<- Array.length_toList,key,ZP];simp
    rw [this];simpa using k4
 | [],_ :: _,_,h,_=>by simp at h
 | _ :: _,[],_,h,_=>by simp at h
end
def Zzv (P:Program) (g:TypeId->Option (List Nat)):List Field->Nat->Option (List Nat)
 | [],_=>some []
 | fd :: r,o=>match g fd.type,Zzv P g r (o+((g fd.type).getD []).length) with
  | some l,some q=>bif fd.name != "_" && fd.offset == o && Nat.blt 0 l.length && XT P fd.type == some l.length then some (l ++ q) else none
  | _,_=>none
def eqT (P:Program):Nat->TypeId->Option (List Nat)
 | 0,_=>none
 | f+1,t=>match P.underlying t with
  | some .bool=>some [0]
  | some (.int _)=>some [1]
  | some .string=>some [2]
  | some (.struct fs)=>bif P.stoodInHeld t then none else Zzv P (eqT P f) fs.toList 0
  | some (.array n e)=>match eqT P f e with
   | some l=>bif XT P e == some l.length then some (List.replicate n l).flatten else none
   | none=>none
  | _=>none
def kbq (k j:IntKind):Bool:=decide (k=j)
def ZnT:Nat->Value->Value->Option Bool
 | 0,.bool a,.bool b=>some (a == b)
 | 1,.int k a,.int j b=>bif kbq k j then some (a == b) else none
 | 2,.string a,.string b=>some (a.toList == b.toList)
 | _,_,_=>none
def eqA:Option Bool->Option Bool->Option Bool
 | some a,some b=>some (a && b)
 | _,_=>none
def Vg:List Nat->List Value->List Value->Option Bool
 | [],[],[]=>some true
 | c :: cs,x :: xs,y :: ys=>eqA (ZnT c x y) (Vg cs xs ys)
 | _,_,_=>none
theorem VS {a b:Option Bool} {r:Bool} (h:eqA a b=some r):∃ p q,a=some p/\b=some q/\r=(p && q):=by
 cases a<;>cases b<;>simp [eqA] at h
 exact ⟨_,_,rfl,rfl,h.symm⟩
theorem Xw:∀ {cs:List Nat} {xs ys:List Value} {r:Bool},Vg cs xs ys=some r->xs.length=cs.length/\ys.length=cs.length
 | [],[],[],_,_=>⟨rfl,rfl⟩
 | c :: cs,x :: xs,y :: ys,r,h=>by
  obtain ⟨p,q,_,h2,_⟩:=VS (by simpa [Vg] using h);obtain ⟨h1,h3⟩:=Xw h2;simp [h1,h3]
 | [],_ :: _,_,_,h=>by simp [Vg] at h
 | [],[],_ :: _,_,h=>by simp [Vg] at h
 | _ :: _,[],_,_,h=>by simp [Vg] at h
 | _ :: _,_ :: _,[],_,h=>by simp [Vg] at h
theorem Zdp:∀ {c1 c2:List Nat} {xs ys:List Value} {r:Bool},Vg (c1 ++ c2) xs ys=some r ->
 ∃ p q,Vg c1 (xs.take c1.length) (ys.take c1.length)=some p/\Vg c2 (xs.drop c1.length) (ys.drop c1.length)=some q/\r=(p && q)
 | [],c2,xs,ys,r,h=>⟨true,r,by simp [Vg],by simpa using h,by simp⟩
 | c :: c1,c2,x :: xs,y :: ys,r,h=>by
  obtain ⟨p,q,h1,h2,h3⟩:=VS (by simpa [Vg] using h);obtain ⟨p',q',k1,k2,k3⟩:=Zdp h2;refine ⟨p && p',q',?_,by simpa using k2,by rw [h3,k3,Bool.and_assoc]⟩;simp [Vg,h1,k1,eqA]
 | _ :: _,_,[],_,_,h=>by simp [Vg] at h
 | _ :: _,_,_ :: _,[],_,h=>by simp [Vg] at h
def mkV (ag:Bool) (xs:List Value):Value:=if ag then .agg xs.toArray else xs.headD undef
section
variable {P:Program}
theorem W3 {t m off:Nat} {ag:Bool} {X:List Value} (w:World) (ha:Zcl P t=some ag) (hs:XT P t=some m) (h1:ag=false->m=1) (hl:off+m<=X.length) :
 (part t X.toArray off).run P w = .ok (mkV ag ((X.drop off).take m)) w:=by
 cases ag
 . have hm:=h1 rfl;subst hm;have hlt:off < X.length:=by omega
   rw [ZaL ha hs X[off] (λ_=>by simp [hlt])];simp only [mkV,Bool.false_eq_true,if_false];rw [List.drop_eq_getElem_cons hlt];rfl
 . rw [ZaL ha hs undef (λh=>by cases h)];simp only [mkV,if_true];have:X.toArray.extract off (off+m)=((X.drop off).take m).toArray:=by apply Array.toList_inj.1;simp [Array.toList_extract,List.extract]
   rw [this]
def ZwV (P:Program) (d:Nat) (t:TypeId) (cls:List Nat):Prop :=
 ∃ ag,Zcl P t=some ag/\(ag=false->cls.length=1)/\∀ (w:World) (xs ys:List Value) (r:Bool),Vg cls xs ys=some r->(Op.equalIn d t (mkV ag xs) (mkV ag ys)).run P w = .ok r w
theorem Zgs {d:Nat} {g:TypeId->Option (List Nat)} (hg:∀ t l,g t=some l->ZwV P d t l) (X Y:List Value):∀ (fs:List Field) (o:Nat) (cls:List Nat) (r:Bool) (w:World),Zzv P g fs o=some cls ->
 Vg cls (X.drop o) (Y.drop o)=some r->(Op.eqFields d X.toArray Y.toArray fs).run P w = .ok r w
 | [],o,cls,r,w,h,hr=>by
  simp [Zzv] at h;subst h;have:r=true:=by
   cases hx:X.drop o<;>cases hy:Y.drop o<;>rw [hx,hy] at hr<;>simp [Vg] at hr
   exact hr
  subst this;simp [Op.eqFields]
 | fd :: fs,o,cls,r,w,h,hr=>by
  simp only [Zzv] at h;split at h
  . rename_i l q h1 h2;rw [h1] at h2;simp only [Option.getD_some] at h2;cases hc:(fd.name != "_" && fd.offset == o && Nat.blt 0 l.length && XT P fd.type == some l.length)
    . rw [hc] at h;cases h
    . rw [hc] at h;simp only [cond_true,Option.some.injEq] at h;subst h;simp only [Bool.and_eq_true,bne_iff_ne,ne_eq,beq_iff_eq,Nat.blt_eq] at hc;obtain ⟨⟨⟨hn,ho⟩,hl0⟩,hs⟩:=hc;obtain ⟨ag,a1,a2,a3⟩:=hg _ _ h1;obtain ⟨p,q',e1,e2,e3⟩:=Zdp hr;have hX:=(Xw hr).1;have hY:=(Xw hr).2;simp only [List.length_drop,List.length_append] at hX hY;have hle:fd.offset+l.length<=X.length/\fd.offset+l.length<=Y.length:=by omega
      have pX:=W3 (X:=X) w a1 hs a2 hle.1;have pY:=W3 (X:=Y) w a1 hs a2 hle.2;rw [ho] at pX pY;simp only [Op.eqFields,hn,ne_eq,not_false_eq_true,if_true,Sem.run_bind,ho,pX,pY,Result.andThen_ok,a3 w _ _ _ e1];have ih:=Zgs hg X Y fs (o+l.length) q q' w h2 (by rw [<- List.drop_drop,<- List.drop_drop];exact e2);cases p
      . simp [e3]
      . simp [e3,ih]
  . cases h
theorem Zf5 {d e:Nat} {l:List Nat} {X Y:List Value} (hg:ZwV P d e l) (hs:XT P e=some l.length):∀ (n i:Nat) (r:Bool) (w:World),X.length=(i+n) * l.length->Y.length=(i+n) * l.length ->
 Vg (List.replicate n l).flatten (X.drop (i * l.length)) (Y.drop (i * l.length))=some r->(Op.eqItems d e l.length X.toArray Y.toArray (List.range' i n)).run P w = .ok r w
 | 0,i,r,w,hX,hY,h=>by
  have:r=true:=by
   have h1:X.drop (i * l.length)=[]:=by apply List.drop_eq_nil_of_le;simp at hX;omega
   have h2:Y.drop (i * l.length)=[]:=by apply List.drop_eq_nil_of_le;simp at hY;omega
   rw [h1,h2] at h;simpa [Vg] using h.symm
  subst this;simp [Op.eqItems]
 | n+1,i,r,w,hX,hY,h=>by
  obtain ⟨ag,a1,a2,a3⟩:=hg;rw [List.replicate_succ,List.flatten_cons] at h;obtain ⟨p,q,e1,e2,e3⟩:=Zdp h;have hle:i * l.length+l.length<=(i+(n+1)) * l.length:=by
   rw [show (i+(n+1))=(i+1)+n from by omega,Nat.add_mul,Nat.add_mul];omega
  have pX:=W3 (X:=X) w a1 hs a2 (off:=i * l.length) (by omega);have pY:=W3 (X:=Y) w a1 hs a2 (off:=i * l.length) (by omega);have ih:=Zf5 ⟨ag,a1,a2,a3⟩ hs n (i+1) q w (by rw [hX];congr 1;omega) (by rw [hY];congr 1;omega) (by rw [show (i+1) * l.length=i * l.length+l.length from by rw [Nat.add_mul];omega,<- List.drop_drop,<- List.drop_drop];exact e2);simp only [List.range'_succ,Op.eqItems,Sem.run_bind,pX,pY,Result.andThen_ok,a3 w _ _ _ e1]
  cases p
  . simp [e3]
  . simp [e3,ih]
theorem Zfi:∀ (f:Nat) (t:TypeId) (cls:List Nat),eqT P f t=some cls->∀ d,f<=d->ZwV P d t cls
 | 0,_,_,h,_,_=>by simp [eqT] at h
 | f+1,t,cls,h,d,hd=>by
  obtain ⟨d',rfl⟩:∃ d',d=d'+1:=⟨d - 1,by omega⟩
  simp only [eqT] at h;split at h
  . rename_i hu;simp at h;subst h;refine ⟨false,by simp [Zcl,hu],λ_=>rfl,λw xs ys r hr=>?_⟩
    match xs,ys,hr with
    | [.bool a],[.bool b],hr=>simp [Vg,ZnT,eqA] at hr;subst hr;simpa [mkV] using run_equalIn_bool' w d' t a b hu
    | [],_,hr=>simp [Vg] at hr
    | [_],[],hr=>simp [Vg] at hr
    | _ :: _ :: _,[],hr=>simp [Vg] at hr
    | [x],[y],hr=>exact (by
     simp only [Vg] at hr;obtain ⟨p,q,h1,_,_⟩:=VS hr;cases x<;>cases y<;>simp [ZnT] at h1
     subst h1
     simp [Vg,ZnT,eqA] at hr;subst hr;simpa [mkV] using run_equalIn_bool' w d' t _ _ hu)
    | [_],_ :: _ :: _,hr=>have:=(Xw hr).2;simp at this
    | _ :: _ :: _,_ :: _,hr=>have:=(Xw hr).1;simp at this
  . rename_i k hu;simp at h;subst h;refine ⟨false,by simp [Zcl,hu],λ_=>rfl,λw xs ys r hr=>?_⟩
    match xs,ys,hr with
    | [],_,hr=>simp [Vg] at hr
    | [_],[],hr=>simp [Vg] at hr
    | _ :: _ :: _,[],hr=>simp [Vg] at hr
    | [x],[y],hr=>exact (by
     simp only [Vg] at hr;obtain ⟨p,q,h1,h2,h3⟩:=VS hr;simp at h2;subst h2;cases x<;>cases y<;>simp [ZnT] at h1
     rename_i k1 a k2 b;cases hk:kbq k1 k2<;>rw [hk] at h1<;>simp at h1
     subst h1;have:=of_decide_eq_true hk;subst this;simp at h3;subst h3
     simpa [mkV] using run_equalIn_int w d' t _ _ _ _ hu)
    | [_],_ :: _ :: _,hr=>have:=(Xw hr).2;simp at this
    | _ :: _ :: _,_ :: _,hr=>have:=(Xw hr).1;simp at this
  . rename_i hu;simp at h;subst h;refine ⟨false,by simp [Zcl,hu],λ_=>rfl,λw xs ys r hr=>?_⟩
    match xs,ys,hr with
    | [],_,hr=>simp [Vg] at hr
    | [_],[],hr=>simp [Vg] at hr
    | _ :: _ :: _,[],hr=>simp [Vg] at hr
    | [x],[y],hr=>exact (by
     simp only [Vg] at hr;obtain ⟨p,q,h1,h2,h3⟩:=VS hr;simp at h2;subst h2;cases x<;>cases y<;>simp [ZnT] at h1
     subst h1;simp at h3;subst h3
     simpa [mkV] using run_equalIn_string w d' t _ _ hu)
    | [_],_ :: _ :: _,hr=>have:=(Xw hr).2;simp at this
    | _ :: _ :: _,_ :: _,hr=>have:=(Xw hr).1;simp at this
  . rename_i fs hu;cases hst:P.stoodInHeld t
    . rw [hst] at h;simp only [cond_false] at h;have hfs:P.fieldsOf t=fs:=by simp [Program.fieldsOf,hu]
      refine ⟨true,by simp [Zcl,hu],(λh=>by cases h),λw xs ys r hr=>?_⟩;simp only [mkV,if_true];rw [run_equalIn_struct w d' t xs.toArray ys.toArray (by rw [hfs];exact hu) hst,hfs];exact Zgs (λt l h=>Zfi f t l h d' (by omega)) xs ys fs.toList 0 cls r w h (by simpa using hr)
    . rw [hst] at h;cases h
  . rename_i n e hu;split at h
    . rename_i l hl;cases hs:(XT P e == some l.length)
      . rw [hs] at h;cases h
      . rw [hs] at h;simp only [cond_true,Option.some.injEq] at h;subst h;simp only [beq_iff_eq] at hs;refine ⟨true,by simp [Zcl,hu],(λh=>by cases h),λw xs ys r hr=>?_⟩;simp only [mkV,if_true];obtain ⟨hX,hY⟩:=Xw hr;have hi:∃ i,P.info? e=some i/\i.size=l.length:=by
         unfold XT at hs;cases hq:P.info? e with
         | none=>simp [hq] at hs
         | some i=>simp [hq] at hs;exact ⟨i,rfl,hs⟩
        obtain ⟨i,hi,hsz⟩:=hi;rw [run_equalIn_array w d' xs.toArray ys.toArray hu hi,show P.cellsOf e=l.length from by simp [Program.cellsOf,hi,hsz],List.range_eq_range'];exact Zf5 (Zfi f e l hl d' (by omega)) (by simp [XT,hi,hsz]) n 0 r w (by simpa using hX) (by simpa using hY) (by simpa using hr)
    . cases h
  . cases h
end
section
variable {P:Program} {w:World} {E:Env} {n:Nat->Prop} {ok:Nat->Prop}
def WZ (P:Program) (t:TypeId):Option Nat:=(P.info? t).map (·.bytes)
theorem U2 {k:Nat} {w:World}:Below k w w.drew:=⟨rfl,rfl,rfl,Nat.le_refl _,λ_ _=>rfl⟩
def UB (w:World) (y:Value) (m len:Nat) (cs:List Value):Prop :=
 ∃ a cap,y = .slice a len cap/\len<=cap/\cs.length=len * m/\(len=0\/∃ b off,a=some ⟨b,off,none⟩/\∀ j c,cs[j]? = some c->w.cell? ⟨b,off+j,none⟩=some c)
theorem ZbF {w:World} {m:Nat}:UB w (.slice none 0 0) m 0 []:=⟨none,0,rfl,Nat.le_refl _,by simp,.inl rfl⟩
theorem Zgv {w:World} {E:Env} {n ok:Nat->Prop} {b m:Nat}:∀ (xs:List (List SV)) (off:Nat),RR w E n ok b m xs off ->
 ∃ cs:List Value,RL w E n ok xs.flatten cs/\cs.length=xs.length * m/\∀ j c,cs[j]? = some c->w.cell? ⟨b,off+j,none⟩=some c
 | [],off,_=>⟨[],by simp [RL],by simp,λj c h=>by simp at h⟩
 | row :: xs,off,h=>by
  simp only [RR] at h;obtain ⟨h0,⟨c0,h1,h2⟩,h3⟩:=h;obtain ⟨cs,k1,k2,k3⟩:=Zgv xs (off+m) h3;have hl:=ZC h1;refine ⟨c0 ++ cs,by simpa using Z7 h1 k1,by simp [hl,h0,k2,Nat.add_mul];omega,λj c hj=>?_⟩;by_cases hlt:j < c0.length
  . rw [List.getElem?_append_left hlt] at hj;exact h2.2 j c hj
  . rw [List.getElem?_append_right (by omega)] at hj;have:=k3 _ _ hj
    rwa [show off+m+(j - c0.length)=off+j from by omega] at this
theorem ZcW {w:World} {c:Bool} {m:Nat} {xs:List (List SV)} {y:Value} (h:R w E n ok (.sl c m xs) y):∃ cs,UB w y m xs.length cs/\RL w E n ok xs.flatten cs/\(c=true->∃ a,y = .slice a xs.length xs.length):=by
 simp only [R] at h;obtain ⟨a,len,cap,rfl,rfl,⟨h1,h2⟩,h3,h4⟩:=h;rcases h4 with rfl | ⟨b,off,rfl,h4⟩
 . exact ⟨[],⟨a,cap,rfl,h1,by simp,.inl rfl⟩,by simp [RL],λhc=>⟨a,by rw [h2 hc]⟩⟩
 . obtain ⟨cs,k1,k2,k3⟩:=Zgv xs off h4;exact ⟨cs,⟨_,cap,rfl,h1,k2,.inr ⟨b,off,rfl,k3⟩⟩,k1,λhc=>⟨_,by rw [h2 hc]⟩⟩
theorem Zk7 {w:World} {E:Env} {n ok:Nat->Prop} {b m:Nat}:∀ (xs:List (List SV)) (off:Nat),RR w E n ok b m xs off->∀ r ∈ xs,r.length=m
 | [],_,_,r,h=>by simp at h
 | row :: xs,off,h,r,hr=>by
  simp only [RR] at h;rcases List.mem_cons.1 hr with rfl | hr
  . exact h.1
  . exact Zk7 xs _ h.2.2 r hr
theorem Z9 {P:Program} {w w':World} {y:Value} {m len:Nat} {cs:List Value} (h:UB w y m len cs) (hw:∀ a,w'.cell? a=w.cell? a):(Builtin.firstCells m len y).run P w' = .ok cs.toArray w':=by
 obtain ⟨a,cap,rfl,_,hl,h⟩:=h;rcases h with rfl | ⟨b,off,rfl,h⟩
 . have:cs=[]:=by simpa using hl
   subst this;cases a with
   | none=>simp [Builtin.firstCells]
   | some a=>exact run_firstCells_some w' m 0 a 0 cap [] (by simp) (λj v hj=>by simp at hj)
 . exact run_firstCells_some w' m len _ len cap cs hl (λj v hj=>by rw [YT,hw];exact h j v hj)
theorem Wm {t e ty m by':Nat} {z:Value} {x y:Value} {lx ly:Nat} {cx cy:List Value} (ht:P.underlying t=some (.slice e)) (hm:XT P e=some m) (hb:WZ P e=some by') (hz:Y1 P e=some z)
 (hx:UB w x m lx cx) (hc:∃ a,x = .slice a lx lx) (hy:UB w y m ly cy) (hlim:(lx+ly) * by'<=140737488355328) (hlim2:lx+ly<=140737488355328) :
 ∃ v w',(Builtin.append_ #[t,t] ty #[x,y]).run P w = .ok v w'/\Below w.heap.size w w' /\
  ((ly=0/\v=x/\w'=w)\/(ly≠0/\∃ cap:Nat,lx+ly<=cap/\v = .slice (some ⟨w.heap.size,0,none⟩) (lx+ly) cap/\w'=w.drew.alloc (.cells (cx.toArray ++ cy.toArray ++ Builtin.zeroCells z.cells (cap - (lx+ly))) e))):=by
 obtain ⟨i,hi⟩:∃ i,P.info? e=some i:=by
  unfold XT at hm;cases hq:P.info? e with
  | none=>simp [hq] at hm
  | some i=>exact ⟨i,rfl⟩
 have hsz:i.size=m:=by simpa [XT,hi] using hm
 have hby:i.bytes=by':=by simpa [WZ,hi] using hb
 have hzi:i.zero=some z:=by simpa [Y1,hi] using hz
 obtain ⟨a0,rfl⟩:=hc;obtain ⟨ay,capy,rfl,hcy,hly,hy'⟩:=hy;by_cases h0:ly=0
 . subst h0;have hcy0:cy=[]:=by simpa using hly
   subst hcy0;refine ⟨_,w,?_,Below.refl _ _,.inl ⟨rfl,rfl,rfl⟩⟩;have hf:=Z9 (P:=P) (w':=w) (y:=.slice ay 0 capy) (m:=m) (len:=0) (cs:=[]) ⟨ay,capy,rfl,hcy,by simp,.inl rfl⟩ (λ_=>rfl);have hsz':(sizeOf e).run P w = .ok m w:=Z4 hm;cases a0<;>simp [Builtin.append_,Sem.run_bind,run_underlying ht,hsz',Builtin.lenOf,hf,storeCells]
 . refine ⟨_,_,?_,U2.alloc (Nat.le_refl _) _,.inr ⟨h0,grownCap w (lx+ly) lx e,?_,rfl,rfl⟩⟩
   . have hn:¬ (lx+ly<=lx):=by omega
     have h63':¬ (9223372036854775807 < ((lx:Int)+(ly:Int))):=by omega
     have hfit:Builtin.nextslicecap (lx+ly) lx * i.bytes<=281474976710656:=growslice_fits (by omega) (by rw [hby];exact hlim);have h48':¬ (281474976710656 < Builtin.nextslicecap (lx+ly) lx * i.bytes):=by omega
     have hf:=Z9 (P:=P) (w':=w.drew) (y:=.slice ay ly capy) (m:=i.size) (len:=ly) (cs:=cy) (by rw [hsz];exact ⟨ay,capy,rfl,hcy,hly,hy'⟩) (λ_=>rfl);have hfo:=Z9 (P:=P) (w':=w.drew) (y:=.slice a0 lx lx) (m:=i.size) (len:=lx) (cs:=cx) (by rw [hsz];exact hx) (λ_=>rfl);simp [Builtin.append_,run_underlying ht,sizeOf,typeInfo,zeroValue,hi,hzi,Builtin.lenOf,hn,h63',h48',Question.forced,hf,hfo,newRow,grownCap]
     congr 2;apply Array.ext';simp [List.append_assoc]
   . unfold grownCap;simp only [Question.cut];omega
theorem ZbN {w:World} {E:Env} {n ok:Nat->Prop} {b m:Nat} (hok:ok b):∀ (xs:List (List SV)) (off:Nat) (cs:List Value),(∀ r ∈ xs,r.length=m)->RL w E n ok xs.flatten cs->(∀ j c,cs[j]? = some c->w.cell? ⟨b,off+j,none⟩=some c)->RR w E n ok b m xs off
 | [],off,cs,_,_,_=>by simp [RR]
 | row :: xs,off,cs,hl,hR,hc=>by
  simp only [RR];have hr:=hl row (by simp);rw [List.flatten_cons] at hR;have h1:=X2 row.length hR;have h2:=W4 row.length hR;rw [List.take_left' rfl] at h1;rw [List.drop_left' rfl] at h2;refine ⟨hr,⟨_,h1,λ_=>hok,λj c hj=>?_⟩,ZbN hok xs (off+m) _ (λr h=>hl r (by simp [h])) h2 (λj c hj=>?_)⟩
  . have hj':j < row.length:=by have:=(List.getElem?_eq_some_iff.1 hj).1;simp at this;omega
    rw [List.getElem?_take_of_lt hj'] at hj;exact hc j c hj
  . rw [List.getElem?_drop] at hj;have:=hc _ _ hj
    rwa [show off+m+j=off+(row.length+j) from by omega]
end
def chk:List SV->Nat->Bool
 | [],0=>true
 | _ :: l,n+1=>chk l n
 | _,_=>false
theorem Ut:∀ {l:List SV} {n:Nat},chk l n=true->l.length=n
 | [],0,_=>rfl
 | _ :: l,n+1,h=>by simp only [chk] at h;simp [Ut h]
 | [],_+1,h=>by simp [chk] at h
 | _ :: _,0,h=>by simp [chk] at h
def nth:List SV->Nat->Option SV
 | [],_=>none
 | s :: _,0=>some s
 | _ :: l,n+1=>nth l n
theorem ZgF:∀ (l:List SV) (n:Nat),nth l n=l[n]?
 | [],_=>by simp [nth]
 | s :: _,0=>by simp [nth]
 | _ :: l,n+1=>by simp [nth,ZgF l n]
def Ys:SV->Option (List SV)
 | .agg l=>some l
 | s=>bif ZaO s then some [s] else none
def ZA7:Option (List SV)->Option SV
 | some l=>some (.agg l)
 | none=>none
def Zuz (ρ : X->SV):List SV->List (Nat × Nat × X)->Option (List SV)
 | z,[]=>some z
 | z,(o,m,x) :: r=>match Ys (ρ x) with
  | some l=>bif chk l m then Zuz ρ (Zv z o l) r else none
  | none=>none
def ZyY (o:Nat) (l:List SV) (t:List (Nat × List SV)):Bool->Option (List (Nat × List SV))
 | true=>some ((o,l) :: t)
 | false=>none
def ZyR (o m:Nat):Option (List SV)->Option (List (Nat × List SV))->Option (List (Nat × List SV))
 | some l,some t=>ZyY o l t (chk l m)
 | _,_=>none
def Zsh (ρ : X->SV):List (Nat × Nat × X)->Option (List (Nat × List SV))
 | []=>some []
 | (o,m,x) :: r=>ZyR o m (Ys (ρ x)) (Zsh ρ r)
def spl:List SV->List (Nat × List SV)->List SV
 | z,[]=>z
 | z,(o,l) :: r=>spl (Zv z o l) r
def Zm6 (z:List SV):Option (List (Nat × List SV))->Option (List SV)
 | some t=>some (spl z t)
 | none=>none
def bld (ρ : X->SV) (z:List SV) (ps:List (Nat × Nat × X)):Option (List SV):=Zm6 z (Zsh ρ ps)
theorem Zy6 {ρ : X->SV}:∀ (ps:List (Nat × Nat × X)) {z l:List SV},bld ρ z ps=some l->Zuz ρ z ps=some l
 | [],z,l,h=>by simpa [bld,Zsh,Zm6,spl,Zuz] using h
 | (o,m,x) :: r,z,l,h=>by
  have ih:=λz'=>Zy6 (ρ:=ρ) r (z:=z') (l:=l);unfold bld at h ih;simp only [Zsh] at h;simp only [Zuz];cases hc:Ys (ρ x) with
  | none=>rw [hc] at h;simp [ZyR,Zm6] at h
  | some c =>
   rw [hc] at h;cases hx:Zsh ρ r with
   | none=>rw [hx] at h;simp [ZyR,Zm6] at h
   | some t =>
    rw [hx] at h;simp only [ZyR] at h;cases hk:chk c m
    . rw [hk] at h;simp [ZyY,Zm6] at h
    . rw [hk] at h;simp only [ZyY,Zm6,spl,Option.some.injEq] at h;simp only [hk,cond_true];exact ih (Zv z o c) (by rw [hx];simp [Zm6,h])
def ZdG:IntKind->IntKind->Bool
 | .i8,.i8 | .i16,.i16 | .i32,.i32 | .i64,.i64 | .u8,.u8 | .u16,.u16 | .u32,.u32 | .u64,.u64=>true
 | _,_=>false
theorem Zff {k j:IntKind} (h:ZdG k j=true):k=j:=by revert h;cases k<;>cases j<;>simp [ZdG]
def Zhi (b:BinOp) (k:IntKind) (x y:Int):Option SV :=
 match b with
 | .add=>some (.v (.int k (k.wrap (x+y))))
 | .sub=>some (.v (.int k (k.wrap (x - y))))
 | .mul=>some (.v (.int k (k.wrap (x * y))))
 | .eql=>some (.v (.bool (x == y)))
 | .neq=>some (.v (.bool (x != y)))
 | .lss=>some (.v (.bool (decide (x < y))))
 | .leq=>some (.v (.bool (decide (x<=y))))
 | .gtr=>some (.v (.bool (decide (x > y))))
 | .geq=>some (.v (.bool (decide (x ≥ y))))
 | _=>none
def ZyA (b:BinOp):SV->SV->Option SV
 | .v (.int k x),.v (.int j y)=>bif ZdG k j then Zhi b k x y else none
 | _,_=>none
def uni (u:UnOp):SV->Option SV
 | .v (.bool b)=>match u with | .not=>some (.v (.bool (!b))) | _=>none
 | .v (.int k n)=>match u with | .neg=>some (.v (.int k (k.wrap (0 - n)))) | _=>none
 | _=>none
def UN (o:Nat):SV->Option SV
 | .p k q=>some (.p k (q+o))
 | .pr k v m i q=>some (.pr k v m i (q+o))
 | .ps row q=>some (.ps row (q+o))
 | _=>none
def Zey:SV->Option SV
 | .p k q=>some (.p k q)
 | .pr k v m i q=>some (.pr k v m i q)
 | .ps row q=>some (.ps row q)
 | _=>none
def Wa (l:List SV) (o m:Nat) (ag:Bool):Option SV :=
 match ag with
 | true=>bif Nat.ble (o+m) l.length then some (.agg ((l.drop o).take m)) else none
 | false=>nth l o
def mmf (mx:Bool):Int->List SV->Option Int
 | x,[]=>some x
 | x,.v (.int _ y) :: r=>match mx with | true=>mmf mx (max x y) r | false=>mmf mx (min x y) r
 | _,_=>none
def mmS (mx:Bool):List SV->Option SV
 | .v (.int k x) :: r=>match mmf mx x r with | some z=>some (.v (.int k z)) | none=>none
 | _=>none
def UT (ρ : X->SV):List X->List SV
 | []=>[]
 | x :: r=>ρ x :: UT ρ r
def lit:List Value->List SV
 | []=>[]
 | x :: r=>.v x :: lit r
theorem Zcs (l:List Value):lit l=l.map .v:=by induction l<;>simp [lit, *]
def eqC:Nat->SV->SV->Option Bool
 | 0,.v (.bool a),.v (.bool b)=>some (a == b)
 | 1,.v (.int k a),.v (.int j b)=>bif ZdG k j then some (a == b) else none
 | 2,.v (.string a),.v (.string b)=>some (a.toList == b.toList)
 | _,_,_=>none
def Zhb:List Nat->List SV->List SV->Option Bool
 | [],[],[]=>some true
 | c :: cs,x :: xs,y :: ys=>eqA (eqC c x y) (Zhb cs xs ys)
 | _,_,_=>none
def Zsz (cls:List Nat):Bool->SV->SV->Option Bool
 | true,.agg a,.agg b=>Zhb cls a b
 | false,.v (.bool a),.v (.bool b)=>some (a == b)
 | _,_,_=>none
def ngB:Bool->Bool->Bool
 | true,b=>!b
 | false,b=>b
def eqR (ng:Bool):Option Bool->Option SV
 | some b=>some (.v (.bool (ngB ng b)))
 | none=>none
def pv (ρ : X->SV):SI->Option SV
 | .eqs ng ag cls x y=>eqR ng (Zsz cls ag (ρ x) (ρ y))
 | .mv x=>some (ρ x)
 | .build z ps=>ZA7 (bld ρ (lit z) ps)
 | .nilc x=>Zey (ρ x)
 | .bin b x y=>ZyA b (ρ x) (ρ y)
 | .un u x=>uni u (ρ x)
 | .addo x o=>UN o (ρ x)
 | .fld x o m ag=>match ρ x with | .agg l=>Wa l o m ag | _=>none
 | .len x=>match ρ x with | .sl _ _ xs=>some (.v (.int .i64 xs.length)) | _=>none
 | .mm mx xs=>mmS mx (UT ρ xs)
 | .mkf f cs=>some (.cl f (UT ρ cs))
 | .conv k x=>match ρ x with | .v (.int _ n)=>some (.v (.int k (k.wrap n))) | _=>none
 | .ext x i=>match ρ x with | .tup l=>nth l i | _=>none
 | _=>none
section
variable {P:Program} {w:World} {E:Env} {n:Nat->Prop} {ok:Nat->Prop}
theorem ZA0 {s:SV} {y:Value} (h:R w E n ok s y) (h1:ZaO s=true):y.oneCell'=true:=by
 cases s<;>simp only [R] at h<;>simp only [ZaO] at h1
 case v x=>subst h;rw [<- ZxR];exact h1
 case p k o=>rw [h.2];rfl
 case sl c m xs=>obtain ⟨a,l,c,h,_⟩:=h;rw [h];rfl
 case mr k v=>exact h.2.2.2
 case pr k v m i o=>obtain ⟨_,_,b,l,c,_,h⟩:=h;rw [h];rfl
 case ms k v m i o=>obtain ⟨_,_,b,l,c,_,_,h⟩:=h;rw [h];rfl
 case ps row o=>obtain ⟨b,off,h,_⟩:=h;rw [h];rfl
 case cl f caps=>obtain ⟨cs,h,_⟩:=h;rw [h];rfl
 case q φ=>exact φ.one _ _ _ h
 case mp k=>rw [h.2];rfl
 case yl k=>rw [h.2];rfl
 case ifc T s=>obtain ⟨x,h,_⟩:=h;rw [h];rfl
 all_goals cases h1
theorem ZeM {y:Value} (h:y.oneCell'=true):y.cells = #[y]:=by cases y<;>first | rfl | simp [Value.oneCell'] at h
theorem UV {s:SV} {y:Value} {l:List SV} (h:R w E n ok s y) (hc:Ys s=some l):RL w E n ok l y.cells.toList:=by
 by_cases ha:∃ l',s = .agg l'
 . obtain ⟨l',rfl⟩:=ha;simp only [Ys,Option.some.injEq] at hc;subst hc;simp only [R] at h;obtain ⟨cs,rfl,h2⟩:=h;exact h2
 . have:ZaO s=true/\l=[s]:=by
    cases s<;>simp only [Ys] at hc<;>first
     | (exact absurd ⟨_,rfl⟩ ha)
     | (cases ho:ZaO _<;>simp [ho] at hc;exact ⟨rfl,hc.symm⟩)
   obtain ⟨h1,rfl⟩:=this;rw [ZeM (ZA0 h h1)];simp only [RL];exact ⟨y,[],by simp,h,rfl⟩
end
def ZsV:List Value->List Value->Bool
 | [],[]=>true
 | x :: xs,y :: ys=>eqV x y && ZsV xs ys
 | _,_=>false
theorem WA:∀ {xs ys:List Value},ZsV xs ys=true->xs=ys
 | [],[],_=>rfl
 | x :: xs,y :: ys,h=>by simp only [ZsV,Bool.and_eq_true] at h;rw [Za7 h.1,WA h.2]
 | [],_ :: _,h=>by simp [ZsV] at h
 | _ :: _,[],h=>by simp [ZsV] at h
def Zv8 (P:Program) (t:TypeId):Option (Nat->Option (Nat × Nat)) :=
 match P.underlying t with
 | some (.array _ e)=>match P.info? e with
  | some ie=>some λi=>some (i * ie.size,ie.size)
  | none=>none
 | some (.struct fields)=>match fields.toList.mapM (λf=>(P.info? f.type).map λi=>(f.offset,i.size)) with
  | some places=>some λi=>places.toArray[i]?
  | none=>none
 | _=>none
theorem Zq3 {P:Program} {t:TypeId} {z:Value} {place:Nat->Option (Nat × Nat)} {parts:List (Nat × Value)} (hz:Y1 P t=some z) (hp:Zv8 P t=some place) :
 P.built t parts=Instr.fill place z.cells parts:=by
 unfold Y1 at hz;cases hi:P.info? t with
 | none=>simp [hi] at hz
 | some it =>
  simp [hi] at hz;unfold Zv8 at hp;split at hp
  . rename_i e hu;split at hp
    . rename_i ie he;simp at hp;subst hp;simp [Program.built,hi,hu,hz,he]
    . cases hp
  . rename_i fields hu;split at hp
    . rename_i places he;simp at hp;subst hp;simp [Program.built,hi,hu,hz,he]
    . cases hp
  . cases hp
def Zg5 (place:Nat->Option (Nat × Nat)) (zl:Nat):List (Nat × Nat × X)->List (Nat × Operand)->Bool
 | [],[]=>true
 | (o,m,x) :: ps,(i,y) :: ys=>(match place i with | some (o',m')=>o' == o && m' == m | none=>false) && YV x y && decide (o+m<=zl) && Zg5 place zl ps ys
 | _,_=>false
def cmpB (P:Program) (t:TypeId) (z:List Value) (ps:List (Nat × Nat × X)) (parts:Array (Nat × Operand)):Bool :=
 match Y1 P t,Zv8 P t with
 | some zv,some place=>ZsV zv.cells.toList z && Zg5 place z.length ps parts.toList
 | _,_=>false
section
variable {P:Program} {w:World} {E:Env} {n:Nat->Prop} {ok:Nat->Prop}
theorem Zk2 {place:Nat->Option (Nat × Nat)} {a:Act} {ρ : X->SV}:∀ (ps:List (Nat × Nat × X)) (ys:List (Nat × Operand)) (z:List SV) (zv:List Value) (zl:Nat) (l:List SV),
 (∀ p ∈ ps,R w E n ok (ρ p.2.2) (evX a p.2.2))->Zg5 place zl ps ys=true->zv.length=zl->RL w E n ok z zv->Zuz ρ z ps=some l ->
 RL w E n ok l (Zcg zv (ps.map λp=>(p.1,evX a p.2.2))) /\
  ∃ r:List (Nat × Value),r=ys.map (λp=>(p.1,a.eval p.2))/\r.length=ps.length /\
   ∀ i (h:i < r.length) (h':i < (ps.map λp=>(p.1,evX a p.2.2)).length),∃ m,place r[i].1=some ((ps.map λp=>(p.1,evX a p.2.2))[i].1,m)/\r[i].2=(ps.map λp=>(p.1,evX a p.2.2))[i].2 /\
    r[i].2.cells.size=m/\(ps.map λp=>(p.1,evX a p.2.2))[i].1+m<=zl
 | [],[],z,zv,zl,l,_,hc,hl,hz,hb=>by
  simp only [Zuz,Option.some.injEq] at hb;subst hb;refine ⟨by simpa [Zcg] using hz,[],rfl,rfl,λi h=>by simp at h⟩
 | (o,m,x) :: ps,(i,y) :: ys,z,zv,zl,l,hρ,hc,hl,hz,hb=>by
  simp only [Zg5,Bool.and_eq_true,decide_eq_true_eq] at hc;obtain ⟨⟨⟨h1,h2⟩,h3⟩,h4⟩:=hc;simp only [Zuz] at hb;split at hb
  . rename_i lx hlx;cases hk:chk lx m
    . simp [hk] at hb
    . simp only [hk,cond_true] at hb;have hR:=UV (hρ (o,m,x) (by simp)) hlx;have hsz:(evX a x).cells.size=m:=by
       have:=ZC hR;rw [<- Array.length_toList,this];exact Ut hk
      obtain ⟨k1,r,k2,k3,k4⟩:=Zk2 ps ys (Zv z o lx) (ZJ zv o (evX a x).cells.toList) zl l (λp hp=>hρ p (by simp [hp])) h4 (by rw [ZP];exact hl) (Xy o hz hR) hb;refine ⟨by simpa [Zcg] using k1,(i,a.eval y) :: r,by simp [k2],by simp [k3],λj hj hj'=>?_⟩;cases j with
      | zero =>
       cases hp:place i with
       | none=>simp [hp] at h1
       | some q =>
        obtain ⟨o',m'⟩:=q;simp [hp] at h1;obtain ⟨rfl,rfl⟩:=h1;exact ⟨m',by simp [hp],by simp [Zf h2 a],by simp [Zf h2 a,hsz],by simpa using h3⟩
      | succ j =>
       have q:=k4 j (by simpa using hj) (by simpa using hj');simp only [List.getElem_map] at q;simpa using q
  . cases hb
 | [],_ :: _,_,_,_,_,_,h,_,_,_=>by simp [Zg5] at h
 | _ :: _,[],_,_,_,_,_,h,_,_,_=>by simp [Zg5] at h
theorem ZjU {t:TypeId} {z:List Value} {ps:List (Nat × Nat × X)} {parts:Array (Nat × Operand)} {a:Act} {ρ : X->SV} {l:List SV} (hρ : ∀ p ∈ ps,R w E n ok (ρ p.2.2) (evX a p.2.2))
 (hc:cmpB P t z ps parts=true) (hb:bld ρ (lit z) ps=some l) :
 ∃ y,(Instr.build t (parts.map λ(i,x)=>(i,a.eval x))).run P w = .ok y w/\R w E n ok (.agg l) y:=by
 unfold cmpB at hc;split at hc
 . rename_i zv place hz hp;simp only [Bool.and_eq_true] at hc;have hzl:=WA hc.1;have hRz:RL w E n ok (lit z) z:=by rw [Zcs];exact ZAV z
   obtain ⟨k1,r,k2,k3,k4⟩:=Zk2 (w:=w) (E:=E) (n:=n) (ok:=ok) ps parts.toList (lit z) z z.length l hρ hc.2 rfl hRz (Zy6 ps hb)
   have hf:=ZfP place r (ps.map λp=>(p.1,evX a p.2.2)) zv.cells (by simp [k3]) (λi h h'=>by
    obtain ⟨m,q1,q2,q3,q4⟩:=k4 i h h'
    exact ⟨m,q1,q2,q3,by rw [<- Array.length_toList,hzl];exact q4⟩)
   refine ⟨_,run_build w t _ _ (by rw [Zq3 hz hp];rw [show (parts.map λ(i,x)=>(i,a.eval x)).toList=r from by simp [k2]];exact hf),?_⟩;simp only [R];exact ⟨_,rfl,by rw [hzl];exact k1⟩
 . cases hc
end
def Um:Option X->Option Operand->Bool
 | none,none=>true
 | some x,some y=>YV x y
 | _,_=>false
def ZBP (ng:Bool) (b:BinOp):Bool:=match ng,b with | false,.eql | true,.neq=>true | _,_=>false
def ZM (P:Program):SI->Op->Bool
 | .mv x,.move y=>YV x y
 | .mv x,.assign y=>YV x y
 | .pick c a b,.pick c' a' b'=>YV c c' && YV a a' && YV b b'
 | .box x _ T,.box T' x'=>T == T' && YV x x'
 | .alloc z T,.alloc T'=>T == T' && (match Y1 P T with | some v=>ZsV v.cells.toList z | none=>false)
 | .build z ps,.build t parts=>cmpB P t z ps parts
 | .bsl m T ps,.buildSlice t len parts=>(match P.underlying t with | some (.slice e)=>e == T | _=>false) && XT P T == some m && decide (len * m<=2 ^ 24) && ps.length == len && m != 0 &&
  (match Y1 P T with | some v=>v.cells.size == m | none=>false) && Vl ps (parts.toList.map (·.2)) && parts.toList.map (·.1) == List.range len
 | .ld x m ag,.load t y=>YV x y && Zcl P t == some ag && XT P t == some m
 | .st x y m,.store t a v=>YV x a && YV y v && XT P t == some m
 | .nilc x,.nilCheck y=>YV x y
 | .bin b x y,.binOp b' _ x' y' _=>b == b' && YV x x' && YV y y'
 | .div b x y,.binOp b' _ x' y' _=>b == b' && (b == .quo || b == .rem) && YV x x' && YV y y'
 | .un u x,.unOp u' _ y=>u == u' && YV x y
 | .eqs ng ag cls x y,.binOp b t x' y' _=>ZBP ng b && eqT P 50 t == some cls && !(P.eqGuardType P.depth t) && Zcl P t == some ag && (ag || cls == [0]) && YV x x' && YV y y'
 | .addo x o,.fieldAddr s y f=>YV x y && ZqQ P s f == some o
 | .fld x o m ag,.field s y f=>YV x y && (match ZqL P s f with | some (o',t)=>o' == o && Zcl P t == some ag && XT P t == some m | none=>false)
 | .idx x i len m ag,.index t y j=>YV x y && YV i j && (match P.underlying t with | some (.array len' e)=>len' == len && XT P e == some m && Zcl P e == some ag | _=>false)
 | .ixa x i len m,.indexAddr t y j=>YV x y && YV i j && (match P.underlying t with | some (.array len' e)=>len' == len && XT P e == some m | _=>false)
 | .ixs x i m,.indexAddr t y j=>YV x y && YV i j && (match P.underlying t with | some (.slice e)=>XT P e == some m | _=>false)
 | .len x,.call ⟨.builtin .len,as,ts⟩=>(match as.toList,ts[0]? with | [y],some t=>YV x y && (match P.underlying t with | some (.slice _)=>true | _=>false) | _,_=>false)
 | .app m b T x y,.call ⟨.builtin .append,as,ts⟩=>(match as.toList,ts.toList with | [x',y'],[t,t']=>t == t' && YV x x' && YV y y' && (match P.underlying t with | some (.slice e)=>e == T | _=>false) | _,_=>false) && XT P T == some m && WZ P T == some b && Nat.blt 0 b && (Y1 P T).isSome
 | .cln m b T x y,.call ⟨.builtin .append,as,ts⟩=>(match as.toList,ts.toList with | [x',y'],[t,t']=>t == t' && YV x x' && YV y y' && (match P.underlying t with | some (.slice e)=>e == T | _=>false) | _,_=>false) && XT P T == some m && WZ P T == some b && Nat.blt 0 b && (match Y1 P T with | some z=>z.cells.size == m | none=>false) && Nat.blt 0 m
 | .appm m b T x y,.call ⟨.builtin .append,as,ts⟩=>(match as.toList,ts.toList with | [x',y'],[t,t']=>t == t' && YV x x' && YV y y' && (match P.underlying t with | some (.slice e)=>e == T | _=>false) | _,_=>false) && XT P T == some m && WZ P T == some b && Nat.blt 0 b && (match Y1 P T with | some z=>z.cells.size == m | none=>false) && Nat.blt 0 m
 | .cpy m x y,.call ⟨.builtin .copy,as,ts⟩=>(match as.toList,ts[0]? with | [x',y'],some t=>YV x x' && YV y y' && (match P.underlying t with | some (.slice e)=>XT P e == some m | _=>false) | _,_=>false)
 | .mks m b z T x,.makeSlice t y y'=>YV x y && YV x y' && (match P.underlying t with | some (.slice e)=>e == T | _=>false) && XT P T == some m && WZ P T == some b && Nat.blt 0 b && Nat.blt 0 m && (match Y1 P T with | some v=>ZsV v.cells.toList z && v.cells.size == m | none=>false)
 | .isn x,.binOp b t x' y _=>(match b with | .eql=>true | _=>false) && YV x x' && (match y with | .const (.slice none 0 0)=>true | _=>false) && (match P.underlying t with | some (.slice _)=>true | _=>false)
 | .slc x h k,.slice t y none (some h') (some k')=>YV x y && YV h h' && YV k k' && (match P.underlying t with | some (.slice e)=>(P.info? e).isSome | _=>false)
 | .sub m x lo hi,.slice t y lo' hi' none=>YV x y && Um lo lo' && Um hi hi' && (match P.underlying t with | some (.slice e)=>XT P e == some m | _=>false)
 | .mm mx xs,.call ⟨.builtin b,as,_⟩=>(match b with | .max=>mx | .min=>!mx | _=>false) && Vl xs as.toList
 | .call f xs,.call ⟨.value (.func g),as,_⟩=>f == g && Vl xs as.toList
 | .calv x xs,.call ⟨.value y,as,_⟩=>YV x y && Vl xs as.toList
 | .callm f xs,.call ⟨.value (.func g),as,_⟩=>f == g && Vl xs as.toList
 | .calvm x xs,.call ⟨.value y,as,_⟩=>YV x y && Vl xs as.toList
 | .mkf f cs,.makeFunc fn first cap=>(match fn with | .func g=>f == g | _=>false) && first.isEmpty && Vl cs cap.toList
 | .conv k x,.convert s d y=>YV x y && (P.underlying s).isSome && (match P.underlying d with | some (.int k')=>k == k' | _=>false)
 | .ext x i,.extract y j=>YV x y && i == j
 | _,_=>false
section
variable {P:Program} {w:World} {E:Env} {n:Nat->Prop} {ok:Nat->Prop}
theorem ZlU (mx:Bool):∀ (l:List SV) (ys:List Value) (k:IntKind) (x z:Int),RL w E n ok l ys->mmf mx x l=some z ->
 ((ys.foldlM (if mx then Builtin.max2 else Builtin.min2) (.int k x)).run P w = .ok (.int k z) w)
 | [],ys,k,x,z,h,hz=>by simp only [RL] at h;subst h;simp [mmf] at hz;subst hz;simp
 | s :: l,ys,k,x,z,h,hz=>by
  simp only [RL] at h;obtain ⟨y,r,rfl,h1,h2⟩:=h;cases s<;>try (simp [mmf] at hz;done)
  rename_i u;cases u<;>try (simp [mmf] at hz;done)
  rename_i k' y';simp only [R] at h1;subst h1;cases mx
  . simp only [mmf] at hz;have:=ZlU false l r k (min x y') z h2 hz;simp only [List.foldlM_cons,Sem.run_bind] at this ⊢;have e:((if false=true then Builtin.max2 else Builtin.min2) (.int k x) (.int k' y')).run P w = .ok (.int k (min x y')) w:=by
     simp only [Bool.false_eq_true,if_false,Builtin.min2,Sem.run_pure];congr 2;omega
    rw [e];simpa using this
  . simp only [mmf] at hz;have:=ZlU true l r k (max x y') z h2 hz;simp only [List.foldlM_cons,Sem.run_bind,if_true] at this ⊢;have e:(Builtin.max2 (.int k x) (.int k' y')).run P w = .ok (.int k (max x y')) w:=by
     simp only [Builtin.max2,Sem.run_pure];congr 2;omega
    rw [e];simpa using this
theorem U0 {ρ : X->SV} {a:Act} (l:List X) (hρ : ∀ x ∈ l,R w E n ok (ρ x) (evX a x)):RL w E n ok (UT ρ l) (l.map (evX a)):=by
 induction l with
 | nil=>simp [UT,RL]
 | cons x l ih=>simp only [UT,List.map_cons,RL];exact ⟨_,_,rfl,hρ x (by simp),ih (λy hy=>hρ y (by simp [hy]))⟩
theorem Zts:∀ {cls:List Nat} {l l':List SV} {ys ys':List Value} {r:Bool},RL w E n ok l ys->RL w E n ok l' ys'->Zhb cls l l'=some r->Vg cls ys ys'=some r
 | [],[],[],ys,ys',r,h1,h2,h=>by simp only [RL] at h1 h2;subst h1;subst h2;simpa [Zhb,Vg] using h
 | c :: cs,x :: xs,y :: ys,zs,zs',r,h1,h2,h=>by
  simp only [RL] at h1 h2;obtain ⟨u,us,rfl,h1,h3⟩:=h1;obtain ⟨v,vs,rfl,h2,h4⟩:=h2;simp only [Zhb] at h;obtain ⟨p,q,k1,k2,k3⟩:=VS h;have ih:=Zts h3 h4 k2;have hc:ZnT c u v=some p:=by
   unfold eqC at k1;split at k1
   . simp only [R] at h1 h2;subst h1;subst h2;exact k1
   . simp only [R] at h1 h2;subst h1;subst h2;rename_i k a j b;cases hk:ZdG k j<;>rw [hk] at k1<;>simp at k1
     have:=Zff hk;subst this;simp [ZnT,kbq,k1]
   . simp only [R] at h1 h2;subst h1;subst h2;exact k1
   . cases k1
  simp only [Vg,hc,ih,eqA,k3]
 | [],_ :: _,_,_,_,_,_,_,h=>by simp [Zhb] at h
 | [],[],_ :: _,_,_,_,_,_,h=>by simp [Zhb] at h
 | _ :: _,[],_,_,_,_,_,_,h=>by simp [Zhb] at h
 | _ :: _,_ :: _,[],_,_,_,_,_,h=>by simp [Zhb] at h
theorem Zxu {ng ag:Bool} {b:BinOp} {T:TypeId} {cls:List Nat} {s t r:SV} {x y:Value} (hx:R w E n ok s x) (hy:R w E n ok t y) (h:eqR ng (Zsz cls ag s t)=some r)
 (hb:ZBP ng b=true) (hT:eqT P 50 T=some cls) (hg:P.eqGuardType P.depth T=false) (ha:Zcl P T=some ag) (ha':ag=true\/cls=[0]) (ox oy:Operand) :
 ∃ v,(do eqGuard b T ox oy x y;binOp b T x y:Sem Value).run P w = .ok v w/\R w E n ok r v:=by
 have key:∃ q,Zsz cls ag s t=some q/\(eqGuard b T ox oy x y).run P w = .ok () w/\(binOp b T x y).run P w = .ok (.bool (if ng then !q else q)) w:=by
  cases hq:Zsz cls ag s t with
  | none=>rw [hq] at h;cases ng<;>simp [eqR,ngB] at h
  | some q =>
   refine ⟨q,rfl,?_⟩;obtain ⟨ag',a1,a2,a3⟩:=Zfi 50 T cls hT Op.maxDepth (by decide);rw [ha] at a1;simp at a1;subst a1;unfold Zsz at hq;split at hq
   . rename_i l1 l2;simp only [R] at hx hy;obtain ⟨c1,rfl,hx⟩:=hx;obtain ⟨c2,rfl,hy⟩:=hy;have:=a3 w _ _ _ (Zts hx hy hq);simp only [mkV,if_true] at this;have hrun:(Op.equal T (.agg c1) (.agg c2)).run P w = .ok q w:=this;refine ⟨?_,?_⟩
     . unfold eqGuard;split<;>simp [Sem.run_bind,hg]
     . cases ng<;>cases b<;>simp [ZBP] at hb<;>simp [binOp,Sem.run_bind,hrun]
   . rename_i u v;simp only [R] at hx hy;subst hx;subst hy;simp at hq;subst hq;rcases ha' with ha' | rfl
     . cases ha'
     . have:=a3 w [.bool u] [.bool v] (u == v) (by simp [Vg,ZnT,eqA]);simp only [mkV,Bool.false_eq_true,if_false,List.headD_cons] at this;have hrun:(Op.equal T (.bool u) (.bool v)).run P w = .ok (u == v) w:=this;refine ⟨?_,?_⟩
       . unfold eqGuard;split<;>simp
       . cases ng<;>cases b<;>simp [ZBP] at hb<;>simp [binOp,Sem.run_bind,hrun]
   . cases hq
 obtain ⟨q,h0,k1,k2⟩:=key;refine ⟨.bool (if ng then !q else q),by rw [Sem.run_bind,k1,Result.andThen_ok,k2],?_⟩;rw [h0] at h;cases ng<;>simp [eqR,ngB] at h<;>subst h<;>simp [R]
theorem Zr0 {b:BinOp} {s t r:SV} {x y:Value} (hx:R w E n ok s x) (hy:R w E n ok t y) (h:ZyA b s t=some r) (T:TypeId) (ox oy:Operand) :
 ∃ v,(do eqGuard b T ox oy x y;binOp b T x y:Sem Value).run P w = .ok v w/\R w E n ok r v:=by
 unfold ZyA at h;split at h
 . rename_i k u j v;simp only [R] at hx hy;subst hx;subst hy;cases hk:ZdG k j
   . simp [hk] at h
   . simp only [hk,cond_true] at h;have:=Zff hk;subst this;have hg:(eqGuard b T ox oy (.int k u) (.int k v)).run P w = .ok () w:=by
      unfold eqGuard;split<;>simp
     rw [Sem.run_bind,hg,Result.andThen_ok];cases b<;>simp [Zhi] at h<;>subst h <;>
      exact ⟨_,by simp [binOp,Op.intArith,Op.intCmp];rfl,by simp [R]⟩
 . cases h
end
section
variable {P:Program} {w:World} {E:Env} {n:Nat->Prop} {ok:Nat->Prop}
theorem ZdM {l:List SV} {cs:Array Value} {o m:Nat} {ag:Bool} {s:SV} (h:RL w E n ok l cs.toList) (hp:Wa l o m ag=some s) :
 ∃ c,(ag=false->cs[o]? = some c)/\R w E n ok s (if ag then .agg (cs.extract o (o+m)) else c):=by
 cases ag
 . simp only [Wa,ZgF] at hp;obtain ⟨y,h1,h2⟩:=Vs h hp;exact ⟨y,λ_=>by simpa using h1,by simpa using h2⟩
 . simp only [Wa] at hp;cases hb:Nat.ble (o+m) l.length
   . simp [hb] at hp
   . simp only [hb,cond_true,Option.some.injEq] at hp;subst hp;refine ⟨undef,(λh=>by cases h),?_⟩;simp only [if_true,R];refine ⟨_,rfl,?_⟩;have:=X2 m (W4 o h);simpa [Array.toList_extract,List.extract] using this
theorem Zjc {s r:SV} {x:Value} (h:R w E n ok s x) (hs:Zey s=some r):(∃ a,x = .pointer (some a))/\R w E n ok r x:=by
 cases s<;>simp [Zey] at hs<;>subst hs
 case p k q=>simp only [R] at h ⊢;exact ⟨⟨_,h.2⟩,h⟩
 case pr k v m i q=>have h':=h;simp only [R] at h;obtain ⟨_,_,b,l,c,_,h⟩:=h;exact ⟨⟨_,h⟩,h'⟩
 case ps row q=>have h':=h;simp only [R] at h;obtain ⟨b,off,h,_⟩:=h;exact ⟨⟨_,h⟩,h'⟩
theorem ZiW {s r:SV} {x:Value} {o S f:Nat} (h:R w E n ok s x) (hs:UN o s=some r) (ho:ZqQ P S f=some o) :
 ∃ y,(Instr.fieldAt S x f).run P w = .ok y w/\R w E n ok r y:=by
 cases s<;>simp [UN] at hs<;>subst hs<;>simp only [R] at h
 case p k q=>obtain ⟨h1,rfl⟩:=h;exact ⟨_,Ue ho,by simp [R,h1]⟩
 case pr k v m i q=>obtain ⟨h1,h0,b,l,c,h2,rfl⟩:=h;exact ⟨_,Ue ho,by simp only [R];exact ⟨h1,h0,b,l,c,h2,by rw [Nat.add_assoc]⟩⟩
 case ps row q=>obtain ⟨b,off,rfl,h2⟩:=h;exact ⟨_,Ue ho,by simp only [R];exact ⟨b,off,by rw [Nat.add_assoc],h2⟩⟩
def opX:SI->List X
 | .mv x | .nilc x | .un _ x | .addo x _ | .fld x _ _ _ | .len x | .conv _ x | .ext x _ | .ld x _ _ | .box x _ _=>[x]
 | .build _ ps=>ps.map (·.2.2)
 | .bsl _ _ ps=>ps
 | .bin _ x y | .div _ x y | .eqs _ _ _ x y | .st x y _ | .app _ _ _ x y | .cln _ _ _ x y | .appm _ _ _ x y | .cpy _ x y | .idx x y _ _ _ | .ixa x y _ _ | .ixs x y _=>[x,y]
 | .mm _ xs=>xs
 | .mkf _ cs=>cs
 | .call _ xs=>xs
 | .calv x xs=>x :: xs
 | .callm _ xs=>xs
 | .calvm x xs=>x :: xs
 | .pick c a b=>[c,a,b]
 | .mks _ _ _ _ x | .isn x=>[x]
 | .slc x h k=>[x,h,k]
 | .sub _ x lo hi=>x :: (lo.toList ++ hi.toList)
 | .alloc _ _ | .raw _ _=>[]
 | .rv _ xs=>xs
 | .rb _ x xs=>x :: xs
theorem ZzQ {o:Oper} {a:Act} {ρ : X->SV} {i:SI} {s:SV} (hρ : ∀ x ∈ opX i,R w E n ok (ρ x) (evX a x)) (hc:ZM P i o.op=true) (hs:pv ρ i=some s) :
 ∃ y,(execOp a.eval o).run P w = .ok (.value y) w/\R w E n ok s y:=by
 obtain ⟨dst,op,ty,pos,after,guard⟩:=o;cases i<;>try (simp [pv] at hs;done)
 case mv x =>
  simp only [pv,Option.some.injEq] at hs;subst hs;cases op<;>simp [ZM] at hc<;>exact ⟨_,by simp only [execOp,Zf hc a];rfl,hρ x (by simp [opX])⟩
 case build z ps =>
  simp only [pv,ZA7] at hs;split at hs
  . rename_i l hl;simp at hs;subst hs;cases op<;>simp [ZM] at hc
    obtain ⟨y,h1,h2⟩:=ZjU (λp hp=>hρ p.2.2 (by simp only [opX,List.mem_map];exact ⟨p,hp,rfl⟩)) hc hl;exact ⟨y,by simp only [execOp,Sem.run_bind,h1,Result.andThen_ok,Sem.run_pure],h2⟩
  . cases hs
 case nilc x =>
  simp only [pv] at hs;cases op<;>simp [ZM] at hc
  obtain ⟨⟨ad,h1⟩,h2⟩:=Zjc (hρ x (by simp [opX])) hs;exact ⟨_,by simp [execOp,Zf hc a,h1];rfl,by rw [<- h1];exact h2⟩
 case bin b x y =>
  simp only [pv] at hs;cases op<;>simp [ZM] at hc
  rename_i b' T x' y' T';obtain ⟨⟨rfl,hx⟩,hy⟩:=hc;obtain ⟨v,h1,h2⟩:=Zr0 (P:=P) (hρ x (by simp [opX])) (hρ y (by simp [opX])) hs T x' y';exact ⟨v,by simp only [execOp,Zf hx a,Zf hy a];rw [Sem.run_bind,h1];rfl,h2⟩
 case eqs ng ag cls x y =>
  simp only [pv] at hs;cases op<;>simp [ZM] at hc
  rename_i b' T x' y' T';obtain ⟨⟨⟨⟨⟨⟨h1,h2⟩,h3⟩,h4⟩,h5⟩,hx⟩,hy⟩:=hc;obtain ⟨v,k1,k2⟩:=Zxu (P:=P) (hρ x (by simp [opX])) (hρ y (by simp [opX])) hs h1 h2 h3 h4 h5 x' y';exact ⟨v,by simp only [execOp,Zf hx a,Zf hy a];rw [Sem.run_bind,k1];rfl,k2⟩
 case un u x =>
  simp only [pv] at hs;cases op<;>simp [ZM] at hc
  obtain ⟨rfl,hx⟩:=hc;have hr:=hρ x (by simp [opX]);cases hsx:ρ x<;>rw [hsx] at hs hr<;>try (simp [uni] at hs;done)
  rename_i v;simp only [R] at hr;cases v<;>try (simp [uni] at hs;done)
  all_goals
   cases u<;>simp [uni] at hs<;>subst hs
   exact ⟨_,by simp [execOp,Zf hx a,hr,Op.unary,Op.intArith];rfl,by simp [R]⟩
 case addo x off =>
  simp only [pv] at hs;cases op<;>simp [ZM] at hc
  obtain ⟨y,h1,h2⟩:=ZiW (hρ x (by simp [opX])) hs hc.2;exact ⟨y,by simp only [execOp,Zf hc.1 a,Sem.run_bind,h1,Result.andThen_ok,Sem.run_pure],h2⟩
 case fld x off m ag =>
  simp only [pv] at hs;cases op<;>simp [ZM] at hc
  rename_i S y f;obtain ⟨hx,hc⟩:=hc;split at hs
  . rename_i l hl;have hr:=hρ x (by simp [opX]);rw [hl] at hr;simp only [R] at hr;obtain ⟨cs,h1,h2⟩:=hr;cases hf:ZqL P S f with
    | none=>simp [hf] at hc
    | some q =>
     obtain ⟨o',t⟩:=q;simp [hf] at hc;obtain ⟨⟨rfl,ha⟩,hz⟩:=hc;obtain ⟨c,k1,k2⟩:=ZdM h2 hs;exact ⟨_,by simp only [execOp,Zf hx a,h1,Sem.run_bind,Zmq hf ha hz c k1,Result.andThen_ok,Sem.run_pure],k2⟩
  . cases hs
 case len x =>
  simp only [pv] at hs;split at hs
  . rename_i m xs hl;simp at hs;subst hs;have hr:=hρ x (by simp [opX]);rw [hl] at hr;simp only [R] at hr;obtain ⟨ad,len,cap,h1,h2,_⟩:=hr;cases op<;>simp [ZM] at hc
    rename_i c;obtain ⟨callee,as,ts⟩:=c;cases callee<;>try (simp at hc;done)
    rename_i b;cases b<;>try (simp at hc;done)
    simp only at hc;split at hc
    . rename_i y t e1 e2;simp only [Bool.and_eq_true] at hc;obtain ⟨hx,hu⟩:=hc;split at hu
      . rename_i e hu';have he:as.map a.eval = #[evX a x]:=by
         apply Array.toList_inj.1;simp [e1,Zf hx a]
        refine ⟨_,by simp [execOp,resolve,he,invoke,builtin,Builtin.len_,e2,run_underlying hu',h1];rfl,?_⟩;simp only [R];rw [h2];rfl
      . cases hu
    . cases hc
  . cases hs
 case mm mx xs =>
  simp only [pv] at hs;have hl:=U0 xs (λx hx=>hρ x (by simpa [opX] using hx));cases op<;>simp [ZM] at hc
  rename_i c;obtain ⟨callee,as,ts⟩:=c;cases callee<;>try (simp at hc;done)
  rename_i b;simp only [Bool.and_eq_true] at hc;have he:(as.map a.eval).toList=xs.map (evX a):=by simp [YG hc.2 a]
  unfold mmS at hs;split at hs
  . rename_i k x r hm;rw [hm] at hl;simp only [RL] at hl;obtain ⟨y,ys,e1,e2,e3⟩:=hl;simp only [R] at e2;subst e2;split at hs
    . rename_i z hz;simp at hs;subst hs;have hrun:=ZlU (P:=P) mx r ys k x z e3 hz;have hargs:(as.map a.eval)=(Value.int k x :: ys).toArray:=by
       apply Array.toList_inj.1;rw [he,e1]
      cases b<;>simp at hc
      . obtain ⟨rfl,_⟩:=hc;exact ⟨_,by simp only [execOp,resolve,hargs,invoke,builtin,Builtin.max_,Sem.run_bind,Sem.run_pure,Result.andThen_ok];simp only [if_true] at hrun;rw [hrun];rfl,by simp [R]⟩
      . obtain ⟨rfl,_⟩:=hc;exact ⟨_,by simp only [execOp,resolve,hargs,invoke,builtin,Builtin.min_,Sem.run_bind,Sem.run_pure,Result.andThen_ok];simp only [Bool.false_eq_true,if_false] at hrun;rw [hrun];rfl,by simp [R]⟩
    . cases hs
  . cases hs
 case mkf f cs =>
  simp only [pv,Option.some.injEq] at hs;subst hs;cases op<;>simp [ZM] at hc
  rename_i fn first cap;obtain ⟨⟨h1,h2⟩,h3⟩:=hc;cases fn<;>simp at h1
  subst h1;subst h2;refine ⟨_,by simp only [execOp,Instr.makeFunc,Sem.run_bind,Sem.run_pure,Result.andThen_ok];rfl,?_⟩;simp only [R];refine ⟨cap.map a.eval,by simp,?_⟩;have:=U0 cs (λx hx=>hρ x (by simpa [opX] using hx));rw [Array.toList_map,YG h3 a];exact this
 case conv k x =>
  simp only [pv] at hs;split at hs
  . rename_i k0 m hm;simp at hs;subst hs;have hr:=hρ x (by simp [opX]);rw [hm] at hr;simp only [R] at hr;cases op<;>simp [ZM] at hc
    rename_i sT dT y;obtain ⟨⟨hx,hsu⟩,hd⟩:=hc;split at hd
    . rename_i k' hd';simp at hd;subst hd;obtain ⟨ds,hds⟩:=Option.isSome_iff_exists.1 hsu;have hrun:(convert sT dT (.int k0 m)).run P w = .ok (.int k (k.wrap m)) w:=by
       cases ds<;>simp [convert,run_underlying hds,run_underlying hd',Conv.intToInt]
      exact ⟨_,by simp only [execOp,Zf hx a,hr];rw [Sem.run_bind,hrun];rfl,by simp [R]⟩
    . cases hd
  . cases hs
 case ext x j =>
  simp only [pv] at hs;split at hs
  . rename_i l hl;have hr:=hρ x (by simp [opX]);rw [hl] at hr;simp only [R] at hr;obtain ⟨cs,h1,h2⟩:=hr;rw [ZgF] at hs;obtain ⟨y,h3,h4⟩:=Vs h2 hs;cases op<;>simp [ZM] at hc
    obtain ⟨hx,rfl⟩:=hc;have h3':cs[j]? = some y:=by simpa using h3
    exact ⟨y,by simp [execOp,Zf hx a,h1,Instr.extract,h3'],h4⟩
  . cases hs
end
mutual
def KF:SV->Prop
 | .v _=>True
 | .p _ _=>False
 | .agg l=>KFL l
 | .sl _ _ xs=>KFR xs
 | .mr _ _=>False
 | .pr _ _ _ _ _=>False
 | .ms _ _ _ _ _=>False
 | .ps row _=>KFL row
 | .cl _ caps=>KFL caps
 | .tup l=>KFL l
 | .mp _=>False
 | .yl _=>False
 | .ifc _ s=>KF s
 | .q _=>True
 | .gd _ _ _=>False
 | .any=>True
def KFL:List SV->Prop
 | []=>True
 | s :: l=>KF s/\KFL l
def KFR:List (List SV)->Prop
 | []=>True
 | r :: rs=>KFL r/\KFR rs
end
def E0:Env:=⟨λ_=>0,λ_ _=>undef,λ_=>0⟩
section
variable {w:World} {E E':Env} {n n':Nat->Prop} {ok:Nat->Prop}
mutual
theorem ZiC:∀ (s:SV) (y:Value),KF s->R w E n ok s y->R w E' n' ok s y
 | .v x,y,_,h=>by simpa [R] using h
 | .p k o,y,k0,h=>by simp [KF] at k0
 | .agg l,y,k0,h=>by simp only [R,KF] at *;obtain ⟨cs,h1,h2⟩:=h;exact ⟨cs,h1,Zb6 l _ k0 h2⟩
 | .sl c m xs,y,k0,h=>by
  simp only [R,KF] at *;obtain ⟨a,len,cap,h1,h2,h3,h4,h5⟩:=h;refine ⟨a,len,cap,h1,h2,h3,h4,?_⟩;rcases h5 with h5 | ⟨b,off,h5,h6⟩
  . exact .inl h5
  . exact .inr ⟨b,off,h5,ZAE b m xs _ k0 h6⟩
 | .mr k v,y,k0,h=>by simp [KF] at k0
 | .pr k v m i o,y,k0,h=>by simp [KF] at k0
 | .ms k v m i o,y,k0,h=>by simp [KF] at k0
 | .ps row o,y,k0,h=>by
  simp only [R,KF] at *;obtain ⟨b,off,h1,cs,h2,h3⟩:=h;exact ⟨b,off,h1,cs,Zb6 row _ k0 h2,h3⟩
 | .cl f caps,y,k0,h=>by simp only [R,KF] at *;obtain ⟨cs,h1,h2⟩:=h;exact ⟨cs,h1,Zb6 caps _ k0 h2⟩
 | .tup l,y,k0,h=>by simp only [R,KF] at *;obtain ⟨cs,h1,h2⟩:=h;exact ⟨cs,h1,Zb6 l _ k0 h2⟩
 | .mp k,y,k0,h=>by simp [KF] at k0
 | .yl k,y,k0,h=>by simp [KF] at k0
 | .ifc T s,y,k0,h=>by simp only [R,KF] at *;obtain ⟨x,h1,h2⟩:=h;exact ⟨x,h1,ZiC s x k0 h2⟩
 | .q φ,y,_,h=>by simpa [R] using h
 | .gd _ _ _,y,k0,h=>by simp [KF] at k0
 | .any,y,_,h=>by simp [R]
theorem Zb6:∀ (l:List SV) (ys:List Value),KFL l->RL w E n ok l ys->RL w E' n' ok l ys
 | [],ys,_,h=>by simpa [RL] using h
 | s :: l,ys,k0,h=>by
  simp only [RL,KFL] at *;obtain ⟨y,r,h1,h2,h3⟩:=h;exact ⟨y,r,h1,ZiC s y k0.1 h2,Zb6 l r k0.2 h3⟩
theorem ZAE (b m:Nat):∀ (xs:List (List SV)) (off:Nat),KFR xs->RR w E n ok b m xs off->RR w E' n' ok b m xs off
 | [],off,_,h=>by simp [RR]
 | row :: rs,off,k0,h=>by
  simp only [RR,KFR] at *;obtain ⟨h0,⟨cs,h1,h2⟩,h3⟩:=h;exact ⟨h0,⟨cs,Zb6 row cs k0.1 h1,h2⟩,ZAE b m rs _ k0.2 h3⟩
end
end
def Yn (P:Program) (f:FuncId):Bool:=match P.funcs[f]? with | some fn=>!(fn.name == "runtime.NumGoroutine") && fn.body.isSome | none=>false
structure Ct (P:Program) (f:FuncId) (args:List SV) (res:SV):Prop where
 bd:Yn P f=true
 ka:KFL args
 kr:KF res
 run:∀ w ok vs,GS w ok->RL w E0 (λ_=>False) ok args vs->Calls P f vs.toArray w λe w' =>
  ∃ y,e = .returned y/\R w' E0 (λ_=>False) (λb=>ok b\/w.heap.size<=b) res y/\Below w.heap.size w w'
structure Ins where
 d:Option Nat
 i:SI
 g:Option (Nat × Bool)
 af:List Nat
def Xk (t:Nat):List Nat->Bool
 | []=>false
 | u :: r=>bif Nat.beq t u then true else Xk t r
def gtS:Option (List SV)->SV
 | some l=>.ps l 0
 | none=>.any
def rd (fr:List (Nat × SV)):X->SV
 | .t n=>lk n fr
 | .c x=>.v x
 | .f i=>.cl i []
 | .g i=>gtS (GT i)
theorem gt_ok {w:World} {E:Env} {n ok:Nat->Prop} (h:GS w ok) (i:Nat):R w E n ok (gtS (GT i)) (.pointer (some ⟨i,0,none⟩)):=by
 cases hq:GT i with
 | none=>simp only [gtS,R]
 | some l =>
  obtain ⟨_,_,cs,h3,h4⟩:=h i l hq;simp only [gtS,R];exact ⟨i,0,rfl,cs,h3 _ _ _ _,h4⟩
def bbq:Bool->Bool->Bool
 | true,true=>true
 | false,false=>true
 | _,_=>false
def ZyW:Bool->SV->(Nat->Bool->Nat->Bool->Bool)->Nat->Bool->Bool
 | true,_,_,_,_=>true
 | false,.gd j' w' _,h,j,w=>h j' w' j w
 | false,_,_,_,_=>false
def Zhj:Bool->Bool->Bool->Bool
 | true,a,b=>bbq a b
 | false,_,_=>false
def alw:Nat->List (Nat × SV)->Nat->Bool->Nat->Bool->Bool
 | 0,_,_,_,_,_=>false
 | f+1,fr,j0,w0,j,w=>ZyW (Zhj (Nat.beq j0 j) w0 w) (lk j0 fr) (alw f fr) j w
def Zfe:Bool->SV->SV
 | true,s=>s
 | false,_=>.any
def Xh (g:Option (Nat × Bool)) (fr:List (Nat × SV)):SV->SV
 | .gd j w s=>match g with
  | none=>.any
  | some (j0,w0)=>Zfe (alw 8 fr j0 w0 j w) s
 | s=>s
def rdG (g:Option (Nat × Bool)) (fr:List (Nat × SV)) (x:X):SV:=Xh g fr (rd fr x)
def geP (g:Option (Nat × Bool)) (fr:List (Nat × SV)):Prop :=
 match g with
 | none=>True
 | some (j,w)=>ge fr j w
def ZfC (g:Option (Nat × Bool)) (fr:List (Nat × SV)) (p:Prop):Prop :=
 match g with
 | none=>p
 | some (j,w)=>ge fr j w->p
theorem Zx {g:Option (Nat × Bool)} {fr:List (Nat × SV)} {p:Prop}:ZfC g fr p↔(geP g fr->p):=by
 cases g<;>simp [ZfC,geP]
abbrev RK:=Ex->St->Prop
abbrev KT:=St->RK->Prop
def gdS:SV->Bool
 | .gd _ _ _=>true
 | .v _=>false
 | .p _ _=>false
 | .agg _=>false
 | .sl _ _ _=>false
 | .mr _ _=>false
 | .pr _ _ _ _ _=>false
 | .ms _ _ _ _ _=>false
 | .ps _ _=>false
 | .cl _ _=>false
 | .tup _=>false
 | .q _=>false
 | .mp _=>false
 | .yl _=>false
 | .ifc _ _=>false
 | .any=>false
theorem ZjG {s:SV} (h:gdS s=false):∀ j b u,s≠.gd j b u:=by rintro j b u rfl;cases h
def Zzb:Bool->Bool->Bool->Nat->SV->St->KT->RK->Prop
 | false,true,false,t,s,σ,r,K=>r ⟨(t,s) :: σ.fr,σ.hp,σ.n,σ.N,σ.gs⟩ K
 | _,_,_,_,_,_,_,_=>False
def ZBG:Bool->Bool->Bool->Nat->Nat->Bool->SV->St->KT->RK->Prop
 | false,true,false,t,j,w,s,σ,r,K=>r ⟨(t,.gd j w s) :: σ.fr,σ.hp,σ.n,σ.N,j :: σ.gs⟩ K
 | _,_,_,_,_,_,_,_,_,_=>False
def Yq (d:Option Nat) (s:SV) (g:Option (Nat × Bool)) (σ : St) (r:KT) (K:RK):Prop :=
 match d,g with
 | none,none=>r σ K
 | none,some _=>False
 | some t,none=>Zzb (Xk t σ.gs) (Nat.blt t σ.N) (gdS s) t s σ r K
 | some t,some (j,w)=>ZBG (Xk t σ.gs) (Nat.blt t σ.N) (Nat.beq t j) t j w s σ r K
def Wv (o:Option SV) (d:Option Nat) (g:Option (Nat × Bool)) (σ : St) (r:KT) (K:RK):Prop :=
 match o with
 | some s=>Yq d s g σ r K
 | none=>False
mutual
def FLT:SV->Prop
 | .v _=>True
 | .agg l=>ZyX l
 | .tup l=>ZyX l
 | .any=>True
 | .p _ _=>False
 | .sl _ _ _=>False
 | .mr _ _=>False
 | .pr _ _ _ _ _=>False
 | .ms _ _ _ _ _=>False
 | .ps _ _=>False
 | .cl _ _=>False
 | .mp _=>False
 | .yl _=>False
 | .ifc _ s=>FLT s
 | .q _=>False
 | .gd _ _ _=>False
def ZyX:List SV->Prop
 | []=>True
 | s :: l=>FLT s/\ZyX l
end
def Zb9 (g:SV->SV):List SV->List SV
 | []=>[]
 | s :: l=>g s :: Zb9 g l
def vwN (b:Bool) (m:Nat) (xs:List (List SV)):SV :=
 match b with
 | true=>.sl false m xs
 | false=>.any
def vwR (b c:Bool) (m m':Nat) (xs:List (List SV)) (q:Option (List (List SV))):SV :=
 match b with
 | true=>.sl false m xs
 | false=>match c with
  | true=>match q with
   | some r=>.sl false m' r
   | none=>.any
  | false=>.any
def X9 (a b:Bool):Bool:=bif a then b else false
theorem Yi {a b:Bool} (h:X9 a b=true):a=true/\b=true:=by cases a<;>first | exact ⟨rfl,h⟩ | cases h
def vwS (hp:List (Nat × HB)) (g:SV->SV):SV->SV
 | .p k o=>match lkh k hp with
  | .cells l _=>.ps (Zb9 g l) o
  | _=>.any
 | .mr k v=>match lkh k hp with
  | .row v' m xs _=>vwN (Nat.beq v v') m xs
  | .rws v' m xs _ o m' inn _=>vwR (Nat.beq v v') (Nat.ble (v'+1) v) m m' (ZfD o m' inn xs) (inn[v - (v'+1)]?)
  | _=>.any
 | .agg l=>.agg (Zb9 g l)
 | .tup l=>.tup (Zb9 g l)
 | .cl f l=>.cl f (Zb9 g l)
 | .ps l o=>.ps (Zb9 g l) o
 | .v x=>.v x
 | .sl c m xs=>.sl c m xs
 | .q φ=>.q φ
 | .mp _=>.any
 | .yl _=>.any
 | .ifc T s=>.ifc T (g s)
 | .pr k v m i o=>.pr k v m i o
 | .ms k v m i o=>.ms k v m i o
 | .gd _ _ _=>.any
 | .any=>.any
def vw0:SV->SV
 | .v x=>.v x
 | .sl c m xs=>.sl c m xs
 | .q φ=>.q φ
 | _=>.any
def vw1 (hp:List (Nat × HB)) (s:SV):SV:=vwS hp vw0 s
def vw2 (hp:List (Nat × HB)) (s:SV):SV:=vwS hp (vw1 hp) s
def vw3 (hp:List (Nat × HB)) (s:SV):SV:=vwS hp (vw2 hp) s
def vw4 (hp:List (Nat × HB)) (s:SV):SV:=vwS hp (vw3 hp) s
def Zyz (P:Program) (g:Option (Nat × Bool)) (f:FuncId) (args:List SV) (d:Option Nat) (σ : St) (r:KT) (K:RK):Prop :=
 ∃ res,(ZfC g σ.fr (Ct P f args res)\/(FLT res/\ZfC g σ.fr (Ct P f (Zb9 (vw4 σ.hp) args) res)))/\Yq d res g σ r K
def IXS (g:Option (Nat × Bool)) (xs:List (List SV)) (i:Int) (d:Option Nat) (σ : St) (r:KT) (K:RK):Prop :=
 ∃ row,ZfC g σ.fr (∃ n:Nat,i=(n:Int)/\xs[n]? = some row)/\Yq d (.ps row 0) g σ r K
def IXR (g:Option (Nat × Bool)) (k v m len:Nat) (i:Int) (d:Option Nat) (σ : St) (r:KT) (K:RK):Prop :=
 ∃ n:Nat,ZfC g σ.fr (i=(n:Int)/\n < len)/\Yq d (.pr k v m n 0) g σ r K
def IXA (g:Option (Nat × Bool)) (len:Nat) (i:Int) (F:Nat->Option SV) (d:Option Nat) (σ : St) (r:KT) (K:RK):Prop :=
 ∃ n:Nat,ZfC g σ.fr (i=(n:Int)/\n < len)/\Wv (F n) d g σ r K
def LDR (g:Option (Nat × Bool)) (xs:List (List SV)) (i o m:Nat) (ag:Bool) (d:Option Nat) (σ : St) (r:KT) (K:RK):Prop :=
 ∃ row,ZfC g σ.fr (xs[i]? = some row)/\Wv (Wa row o m ag) d g σ r K
def Zzq (b:BinOp) (k:IntKind) (x y:Int):Int:=match b with | .quo=>k.wrap (x.tdiv y) | _=>x.tmod y
def DIV (g:Option (Nat × Bool)) (b:BinOp) (k:IntKind) (x y:Int) (d:Option Nat) (σ : St) (r:KT) (K:RK):Prop :=
 ZfC g σ.fr (y≠0)/\Yq d (.v (.int k (Zzq b k x y))) g σ r K
def ZhO (a b:SV):Option SV :=
 match a,b with
 | .v (.bool x),.v (.bool y)=>some (.v (.bool (x || y)))
 | .v (.bool x),.v (.tuple _)=>bif x then some (.v (.bool true)) else none
 | _,_=>none
def Zfo (a b:SV):Option SV :=
 match a,b with
 | .v (.bool x),.v (.bool y)=>some (.v (.bool (x && y)))
 | .v (.bool x),.v (.tuple _)=>bif x then none else some (.v (.bool false))
 | _,_=>none
def Zho (fr:List (Nat × SV)) (g:Option (Nat × Bool)) (c a b:X):Option SV :=
 match c,a,b with
 | .t t,.c (.bool true),b=>ZhO (rdG g fr (.t t)) (rdG (some (t,false)) fr b)
 | .t t,a,.c (.bool false)=>Zfo (rdG g fr (.t t)) (rdG (some (t,true)) fr a)
 | _,_,_=>none
def Zyy:Option (List SV)->Nat->Option (List (List SV))->Option (List (List SV))
 | some l,m,some ls=>bif chk l m then some (l :: ls) else none
 | _,_,_=>none
def ZiB (ρ : X->SV) (m:Nat):List X->Option (List (List SV))
 | []=>some []
 | x :: r=>Zyy (Ys (ρ x)) m (ZiB ρ m r)
def ZyV (m:Nat):Option (List (List SV))->Option SV
 | some rows=>some (.sl true m rows)
 | none=>none
section
variable (P:Program) (g:Option (Nat × Bool)) (d:Option Nat) (σ : St) (r:KT) (K:RK)
def Znt (s:SV) (args:List SV):Prop :=
 match s with
 | .cl f caps=>Zyz P g f (args ++ caps) d σ r K
 | _=>False
def ZBa (b:Bool) (k v m len:Nat) (j:Int):Prop :=
 match b with
 | true=>IXR g k v m len j d σ r K
 | false=>False
def ZyZ (hb:HB) (k v m:Nat) (j:Int):Prop :=
 match hb with
 | .row v' m' xs _=>ZBa g d σ r K (X9 (Nat.beq m m') (Nat.beq v v')) k v m xs.length j
 | .rws v' m0 xs T o m' inn T'=>∃ i rows TT,v=v'+i/\Xg k v' m0 xs T o m' inn T' i=some (m,rows,TT)/\IXR g k v m rows.length j d σ r K
 | _=>False
def ZzD (b:Bool) (xs:List (List SV)) (j:Int):Prop :=
 match b with
 | true=>IXS g xs j d σ r K
 | false=>False
def ZAk (i x:SV) (m:Nat):Prop :=
 match i,x with
 | .v (.int _ j),.sl _ m' xs=>ZzD g d σ r K (Nat.beq m m') xs j
 | .v (.int _ j),.mr k v=>ZyZ g d σ r K (lkh k σ.hp) k v m j
 | _,_=>False
def ZBS (i x:SV) (len m:Nat):Prop :=
 match i with
 | .v (.int _ j)=>IXA g len j (λn=>UN (n * m) x) d σ r K
 | _=>False
def ZBO (i x:SV) (len m:Nat) (ag:Bool):Prop :=
 match i,x with
 | .v (.int _ j),.agg l=>IXA g len j (λn=>Wa l (n * m) m ag) d σ r K
 | _,_=>False
def ldC (hb:HB) (o m:Nat) (ag:Bool):Prop :=
 match hb with
 | .cells l _=>Wv (Wa l o m ag) d g σ r K
 | _=>False
def ldB (b:Bool) (xs:List (List SV)) (i o m:Nat) (ag:Bool):Prop :=
 match b with
 | true=>LDR g xs i o m ag d σ r K
 | false=>False
def ldR (k:Nat) (hb:HB) (v m' i o m:Nat) (ag:Bool):Prop :=
 match hb with
 | .row v' m'' xs _=>ldB g d σ r K (X9 (Nat.beq m' m'') (Nat.beq v v')) xs i o m ag
 | .rws v' m0 xs T oo mi inn T'=>∃ a rows TT,v=v'+a/\Xg k v' m0 xs T oo mi inn T' a=some (m',rows,TT)/\LDR g rows i o m ag d σ r K
 | _=>False
def ldK (x:SV) (m:Nat) (ag:Bool):Prop :=
 match x with
 | .p k o=>ldC g d σ r K (lkh k σ.hp) o m ag
 | .ps row o=>Wv (Wa row o m ag) d g σ r K
 | .pr k v m' i o=>ldR g d σ r K k (lkh k σ.hp) v m' i o m ag
 | _=>False
def ZAP (c:Bool) (b:BinOp) (k:IntKind) (u v:Int):Prop :=
 match c with
 | true=>DIV g b k u v d σ r K
 | false=>False
def ZBE (b:BinOp) (x y:SV):Prop :=
 match x,y with
 | .v (.int k u),.v (.int j v)=>ZAP g d σ r K (ZdG k j) b k u v
 | _,_=>False
def ZAY (b:Bool) (xs:List (List SV)):Prop :=
 match b with
 | true=>Yq d (.v (.int .i64 xs.length)) g σ r K
 | false=>False
def ZAA (k:Nat) (hb:HB) (v:Nat):Prop :=
 match hb with
 | .row v' _ xs _=>ZAY g d σ r K (Nat.beq v v') xs
 | .rws v' m0 xs T oo mi inn T'=>∃ a mm rows TT,v=v'+a/\Xg k v' m0 xs T oo mi inn T' a=some (mm,rows,TT)/\Yq d (.v (.int .i64 rows.length)) g σ r K
 | _=>False
def ZyT (x:SV):Prop :=
 match x with
 | .mr k v=>ZAA g d σ r K k (lkh k σ.hp) v
 | .ms _ _ _ _ l=>Yq d (.v (.int .i64 l)) g σ r K
 | .sl _ _ xs=>Yq d (.v (.int .i64 xs.length)) g σ r K
 | _=>False
end
def Zhx (xs:List (List SV)):Bool->Option (List (List SV))
 | true=>some xs
 | false=>none
def ZiI (m v:Nat):HB->Option (List (List SV))
 | .row v' m' xs _=>Zhx xs (X9 (Nat.beq m m') (Nat.beq v v'))
 | .cells _ _=>none
 | .ob _=>none
 | .map _ _=>none
 | .it _ _ _ _=>none
 | .lp _ _=>none
 | .lb _=>none
 | .rws _ _ _ _ _ _ _ _=>none
 | .gone=>none
def ZvX (m:Nat) (hp:List (Nat × HB)):SV->Option (List (List SV))
 | .sl _ m' xs=>Zhx xs (Nat.beq m m')
 | .v (.slice none 0 0)=>some []
 | .mr k v=>ZiI m v (lkh k hp)
 | _=>none
def ZdX (m:Nat):SV->Option (List (List SV))
 | .sl _ m' xs=>Zhx xs (Nat.beq m m')
 | .v (.slice none 0 0)=>some []
 | _=>none
def Zh4 (m:Nat):SV->Option (List (List SV))
 | .sl true m' xs=>Zhx xs (Nat.beq m m')
 | .v (.slice none 0 0)=>some []
 | _=>none
def APP (g:Option (Nat × Bool)) (m b:Nat) (xs ys:List (List SV)) (d:Option Nat) (σ : St) (r:KT) (K:RK):Prop :=
 ZfC g σ.fr ((xs.length+ys.length) * b<=140737488355328)/\Yq d (.sl false m (xs ++ ys)) g σ r K
def ZyE (g:Option (Nat × Bool)) (m b:Nat) (x y:Option (List (List SV))) (d:Option Nat) (σ : St) (r:KT) (K:RK):Prop :=
 match x,y with
 | some xs,some ys=>APP g m b xs ys d σ r K
 | some _,none=>False
 | none,_=>False
def SLC (g:Option (Nat × Bool)) (n h:Int) (m:Nat) (xs:List (List SV)) (d:Option Nat) (σ : St) (r:KT) (K:RK):Prop :=
 ZfC g σ.fr (n=xs.length/\h=xs.length)/\Yq d (.sl true m xs) g σ r K
def ZBK (g:Option (Nat × Bool)) (x h k:SV) (d:Option Nat) (σ : St) (r:KT) (K:RK):Prop :=
 match x,h,k with
 | .sl _ m xs,.v (.int _ n),.v (.int _ j)=>SLC g n j m xs d σ r K
 | _,_,_=>False
def SUB (g:Option (Nat × Bool)) (lo hi:Int) (m:Nat) (xs:List (List SV)) (d:Option Nat) (σ : St) (r:KT) (K:RK):Prop :=
 ∃ i j:Nat,ZfC g σ.fr (lo=i/\hi=j/\i<=j/\j<=xs.length)/\Yq d (.sl false m ((xs.take j).drop i)) g σ r K
def ZcB (dflt:Int) (ρ : X->SV):Option X->Option Int
 | none=>some dflt
 | some x=>match ρ x with
  | .v (.int _ n)=>some n
  | _=>none
def Zyx (g:Option (Nat × Bool)) (m:Nat) (xs:List (List SV)) (lo hi:Option Int) (d:Option Nat) (σ : St) (r:KT) (K:RK):Prop :=
 match lo,hi with
 | some i,some j=>SUB g i j m xs d σ r K
 | some _,none=>False
 | none,_=>False
def SBM (g:Option (Nat × Bool)) (lo hi:Int) (k v m:Nat) (xs:List (List SV)) (d:Option Nat) (σ : St) (r:KT) (K:RK):Prop :=
 ∃ i j:Nat,ZfC g σ.fr (lo=i/\hi=j/\i<=j/\j<=xs.length)/\Yq d (.ms k v m i (j - i)) g σ r K
def ZyS (g:Option (Nat × Bool)) (k v m:Nat) (xs:List (List SV)) (lo hi:Option Int) (d:Option Nat) (σ : St) (r:KT) (K:RK):Prop :=
 match lo,hi with
 | some i,some j=>SBM g i j k v m xs d σ r K
 | some _,none=>False
 | none,_=>False
def ZeQ (c:Bool) (p:Prop):Prop :=
 match c with
 | true=>p
 | false=>False
def ZBM (g:Option (Nat × Bool)) (m:Nat) (ρ : X->SV) (lo hi:Option X) (k v:Nat) (hb:HB) (d:Option Nat) (σ : St) (r:KT) (K:RK):Prop :=
 match hb with
 | .row v' m' xs _=>ZeQ (X9 (Nat.beq m m') (Nat.beq v v')) (ZyS g k v m xs (ZcB 0 ρ lo) (ZcB xs.length ρ hi) d σ r K)
 | _=>False
def ZA1 (g:Option (Nat × Bool)) (m:Nat) (ρ : X->SV) (lo hi:Option X) (x:SV) (d:Option Nat) (σ : St) (r:KT) (K:RK):Prop :=
 match x with
 | .sl _ m' xs=>bif Nat.beq m m' then Zyx g m xs (ZcB 0 ρ lo) (ZcB xs.length ρ hi) d σ r K else False
 | .mr k v=>ZBM g m ρ lo hi k v (lkh k σ.hp) d σ r K
 | _=>False
def Yl (P:Program) (g:Option (Nat × Bool)) (d:Option Nat) (i:SI) (σ : St) (r:KT) (K:RK):Prop :=
 match i with
 | .call f as=>Zyz P g f (UT (rdG g σ.fr) as) d σ r K
 | .calv x as=>Znt P g d σ r K (rdG g σ.fr x) (UT (rdG g σ.fr) as)
 | .callm _ _=>False
 | .calvm _ _=>False
 | .pick c a b=>Wv (Zho σ.fr g c a b) d g σ r K
 | .bsl m _ ps=>Wv (ZyV m (ZiB (rdG g σ.fr) m ps)) d g σ r K
 | .ixs x i m=>ZAk g d σ r K (rdG g σ.fr i) (rdG g σ.fr x) m
 | .ixa x i len m=>ZBS g d σ r K (rdG g σ.fr i) (rdG g σ.fr x) len m
 | .idx x i len m ag=>ZBO g d σ r K (rdG g σ.fr i) (rdG g σ.fr x) len m ag
 | .ld x m ag=>ldK g d σ r K (rdG g σ.fr x) m ag
 | .div b x y=>ZBE g d σ r K b (rdG g σ.fr x) (rdG g σ.fr y)
 | .len x=>ZyT g d σ r K (rdG g σ.fr x)
 | .mv x=>Yq d (rdG g σ.fr x) g σ r K
 | .build z ps=>Wv (pv (rdG g σ.fr) (.build z ps)) d g σ r K
 | .nilc x=>Wv (Zey (rdG g σ.fr x)) d g σ r K
 | .bin b x y=>Wv (ZyA b (rdG g σ.fr x) (rdG g σ.fr y)) d g σ r K
 | .un u x=>Wv (uni u (rdG g σ.fr x)) d g σ r K
 | .addo x o=>Wv (UN o (rdG g σ.fr x)) d g σ r K
 | .fld x o m ag=>Wv (pv (rdG g σ.fr) (.fld x o m ag)) d g σ r K
 | .mm mx xs=>Wv (mmS mx (UT (rdG g σ.fr) xs)) d g σ r K
 | .mkf f cs=>Yq d (.cl f (UT (rdG g σ.fr) cs)) g σ r K
 | .conv k x=>Wv (pv (rdG g σ.fr) (.conv k x)) d g σ r K
 | .ext x i=>Wv (pv (rdG g σ.fr) (.ext x i)) d g σ r K
 | .slc x h k=>ZBK g (rdG g σ.fr x) (rdG g σ.fr h) (rdG g σ.fr k) d σ r K
 | .sub m x lo hi=>ZA1 g m (rdG g σ.fr) lo hi (rdG g σ.fr x) d σ r K
 | .cln _ _ _ _ _=>False
 | .appm _ _ _ _ _=>False
 | .cpy _ _ _=>False
 | .mks _ _ _ _ _=>False
 | .isn _=>False
 | .app m b _ x y=>ZyE g m b (Zh4 m (rdG g σ.fr x)) (ZvX m σ.hp (rdG g σ.fr y)) d σ r K
 | .box _ _ _=>False
 | .alloc _ _=>False
 | .st _ _ _=>False
 | .eqs ng ag cls x y=>Wv (eqR ng (Zsz cls ag (rdG g σ.fr x) (rdG g σ.fr y))) d g σ r K
 | .raw _ _=>False
 | .rv _ _=>False
 | .rb _ _ _=>False
section
variable {C:Cx} {E:Env} {hp:List (Nat × HB)} {n:Nat->Prop} {w w':World}
theorem Ziw {k v m:Nat} {xs:List (List SV)} {T:TypeId} {o m':Nat} {inn:List (List (List SV))} {T':TypeId}:∀ {i:Nat},i<=inn.length->∃ mm rows TT,Xg k v m xs T o m' inn T' i=some (mm,rows,TT)
 | 0,_=>⟨_,_,_,rfl⟩
 | j+1,h=>⟨_,_,_,by simp only [Xg];rw [List.getElem?_eq_getElem (show j < inn.length by omega)]⟩
theorem ZaV {k v m:Nat} {xs:List (List SV)} {T:TypeId} {o m':Nat} {inn:List (List (List SV))} {T':TypeId} {q:Nat × List (List SV) × TypeId}:∀ {i:Nat},Xg k v m xs T o m' inn T' i=some q->i<=inn.length
 | 0,_=>Nat.zero_le _
 | j+1,h=>by
  simp only [Xg] at h;split at h
  . rename_i r hr;exact (List.getElem?_eq_some_iff.1 hr).1
  . cases h
theorem Zyr.mono {E':Env} {n':Nat->Prop} {ok ok':Nat->Prop} {y:Value} {m:Nat} {xs:List (List SV)} {T:TypeId} (hs:YM w w' ok ok') (hE:∀ k,n k->Ele E E' k k) (hn:∀ k,n k->n' k)
 (hsame:∀ b,ZyJ y b->w'.heap[b]? = w.heap[b]?) (h:Zyr w E n ok y m xs T):Zyr w' E' n' ok' y m xs T:=by
 rcases h with h | ⟨b,cap,cs,h1,h2,h3,h4,h5,h6,h7⟩
 . exact .inl h
 . exact .inr ⟨b,cap,cs,h1,by rw [hsame _ ⟨_,_,h1,h4.2⟩];exact h2,h3,h4,h5,h6,ZE hs hE hn _ _ h7⟩
theorem YE (h:HSim C E hp n w) {k b:Nat} (ho:occ E k (lkh k hp) b):b < w.heap.size:=by
 have hb:=h.bk k;have lt_of {o:Obj} {b:Nat} (hh:w.heap[b]? = some o):b < w.heap.size:=(Array.getElem?_eq_some_iff.1 hh).1;cases hk:lkh k hp<;>rw [hk] at ho hb<;>simp only [occ,Ya] at ho hb
 . obtain ⟨cs,h1,_⟩:=hb;subst ho;exact lt_of h1
 . obtain ⟨len,cap,h1,h0⟩:=ho;rcases hb with ⟨_,⟨_,_,h2⟩ | ⟨b',cap',cs,h2,h3,_⟩⟩
   . rw [h2] at h1;simp only [Value.slice.injEq] at h1;exact absurd h1.2.2.symm h0
   . rw [h2] at h1;simp at h1;obtain ⟨rfl,_⟩:=h1;exact lt_of h3
 . obtain ⟨o,h1,_⟩:=hb;subst ho;exact lt_of h1
 . obtain ⟨ys,h1,_⟩:=hb;subst ho;exact lt_of h1
 . subst ho;exact lt_of hb.2
 . subst ho;exact lt_of hb
 . subst ho;exact lt_of hb
 . obtain ⟨i,hi,len,cap,h1,h0⟩:=ho;obtain ⟨mm,rows,TT,hr⟩:=Ziw (k:=k) hi;rcases hb.2.2.1 i mm rows TT hr with ⟨_,_,h2⟩ | ⟨b',cap',cs,h2,h3,_⟩
   . rw [h2] at h1;simp only [Value.slice.injEq] at h1;exact absurd h1.2.2.symm h0
   . rw [h2] at h1;simp at h1;obtain ⟨rfl,_⟩:=h1;exact lt_of h3
theorem WG (h:HSim C E hp n w) {b:Nat} (hb:w.heap.size<=b):okS C E hp b :=
 ⟨.inr (Nat.le_trans h.kp.size hb),λk ho=>by have:=YE h ho;omega⟩
theorem Z5 {ok:Nat->Prop} (h:Below w.heap.size w w'):ZG w w' ok ok:=λb hb hs =>
 ⟨hb,h.block b (by
  obtain ⟨o,ho⟩:=Option.isSome_iff_exists.1 hs
  exact (Array.getElem?_eq_some_iff.1 ho).1)⟩
theorem WX (h:Keeps C w) (hb:Below w.heap.size w w'):Keeps C w' :=
 ⟨hb.os.trans h.os,hb.tape.trans h.tape,hb.output.trans h.output,Nat.le_trans h.size hb.size,λb h1 h2=>(hb.block b (Nat.lt_of_lt_of_le h1 h.size)).trans (h.block b h1 h2)⟩
theorem Zbc {E':Env} {n':Nat->Prop} {ok ok':Nat->Prop} (hs:YM w w' ok ok') (hE:∀ k,n k->Ele E E' k k) (hn:∀ k,n k->n' k):∀ (l:List (Nat × Value × SV)) (ys:List MapEntry),RM w E n ok l ys->RM w' E' n' ok' l ys
 | [],ys,h=>by simpa [RM] using h
 | e :: l,ys,h=>by simp only [RM] at h ⊢;obtain ⟨y,r,h1,h2,h3⟩:=h;exact ⟨y,r,h1,ZU hs hE hn _ y h2,Zbc hs hE hn l r h3⟩
theorem XQ {E':Env} {n':Nat->Prop} {ok ok':Nat->Prop} {k:Nat} {hb:HB} (hs:YM w w' ok ok') (hE:∀ k,n k->Ele E E' k k) (hn:∀ k,n k->n' k) (hk:hb = .gone\/n k)
 (hsame:∀ b,occ E k hb b->w'.heap[b]? = w.heap[b]?) (hI:E'.iss k=E.iss k) (h:Ya w E n ok k hb):Ya w' E' n' ok' k hb:=by
 cases hb with
 | gone=>trivial
 | cells l T =>
  obtain ⟨hβ,_⟩:=hE k (by simpa using hk);simp only [Ya,hβ] at h ⊢;obtain ⟨cs,h1,h2⟩:=h;exact ⟨cs,by rw [hsame _ rfl];exact h1,ZE hs hE hn _ _ h2⟩
 | row v m xs T =>
  obtain ⟨_,_,hv⟩:=hE k (by simpa using hk);simp only [Ya] at h ⊢;obtain ⟨hi,h⟩:=h;rw [hv v (by omega)];refine ⟨hI.trans hi,?_⟩;rcases h with h | ⟨b,cap,cs,h1,h2,h3,h4,h5,h6,h7⟩
  . exact .inl h
  . exact .inr ⟨b,cap,cs,h1,by rw [hsame _ ⟨_,_,h1,h4.2⟩];exact h2,h3,h4,h5,h6,ZE hs hE hn _ _ h7⟩
 | ob φ =>
  obtain ⟨hβ,_⟩:=hE k (by simpa using hk);simp only [Ya,hβ] at h ⊢;obtain ⟨o,h1,h2⟩:=h;exact ⟨o,by rw [hsame _ rfl];exact h1,φ.mono _ _ _ _ _ hs h2⟩
 | map es c =>
  obtain ⟨hβ,_⟩:=hE k (by simpa using hk);simp only [Ya,hβ] at h ⊢;obtain ⟨ys,h1,h2⟩:=h;exact ⟨ys,by rw [hsame _ rfl];exact h1,Zbc hs hE hn _ _ h2⟩
 | it km a b c =>
  obtain ⟨hβ,_⟩:=hE k (by simpa using hk);simp only [Ya,hβ] at h ⊢;obtain ⟨h1,h2⟩:=h;exact ⟨hn km h1,by rw [hsame _ rfl,(hE km h1).1];exact h2⟩
 | lp r pd =>
  obtain ⟨hβ,_⟩:=hE k (by simpa using hk);simp only [Ya,hβ] at h ⊢;rw [hsame _ rfl];exact h
 | lb r =>
  obtain ⟨hβ,_⟩:=hE k (by simpa using hk);simp only [Ya,hβ] at h ⊢;rw [hsame _ rfl];exact h
 | rws v m xs T o m' inn T' =>
  obtain ⟨_,_,hv⟩:=hE k (by simpa using hk);simp only [Ya] at h ⊢;obtain ⟨h1,h2,h3,h4⟩:=h;refine ⟨hI.trans h1,h2,λi mm rows TT hr=>?_,λi j b hi hj g1 g2=>h4 i j b hi hj (by rw [<- hv _ (by omega)];exact g1) (by rw [<- hv _ (by omega)];exact g2)⟩;have hi:=ZaV hr;rw [hv _ (by omega)];exact (h3 i mm rows TT hr).mono hs hE hn λb hb=>hsame b ⟨i,hi,hb⟩
theorem YH {E':Env} {n':Nat->Prop} {ok ok':Nat->Prop} {k:Nat} {hb:HB} (hs:ZG w w' ok ok') (hE:∀ k,n k->Ele E E' k k) (hn:∀ k,n k->n' k) (hk:hb = .gone\/n k)
 (hsame:∀ b,occ E k hb b->w'.heap[b]? = w.heap[b]?) (hI:E'.iss k=E.iss k) (h:Ya w E n ok k hb):Ya w' E' n' ok' k hb:=XQ hs hE hn hk hsame hI h
theorem Xl (h:HSim C E hp n w) (hb:Below w.heap.size w w'):HSim C E hp n w' :=
 ⟨h.kn,λk=>YH (Z5 hb) (λ_ _=>Ele.rfl) (λ_ h=>h) (by
  rcases Classical.em (n k) with hk | hk
  . exact .inr hk
  . exact .inl (h.kn k hk)) (λb ho=>hb.block b (YE h ho)) rfl (h.bk k),h.dj,h.lo,WX h.kp hb,h.pin⟩
end
abbrev TT:Machine->Prop:=λ_=>True
abbrev StT (P:Program) (m m':Machine):Prop:=StepsIn TT P m m'
def Zgj (P:Program) (m:Machine) (c:Frame) (cs:List Frame) (w:World):Ending->Prop
 | .returned v=>StT P m (lone (c.finish v) cs w)
 | .panicked chain=>StT P m (lone (c.raise chain) cs w)
 | .outgrown=>False
def Za3 (P:Program) (l:Nat) (f:FuncId) (tmps:Array Value) (assign body:Code) (w:World) (R:Ending->World->Prop):Prop :=
 ∀ (c:Frame) (cs:List Frame),∃ e w',R e w'/\Zgj P (lone (Frame.round l f tmps assign body .normal) (c :: cs) w) c cs w' e
theorem Za3.mono {P:Program} {l:Nat} {f:FuncId} {tmps:Array Value} {assign body:Code} {w:World} {R R':Ending->World->Prop} (h:Za3 P l f tmps assign body w R) (hr:∀ e w',R e w'->R' e w'):Za3 P l f tmps assign body w R' :=
 λc cs=>let ⟨e,w',h1,h2⟩:=h c cs;⟨e,w',hr _ _ h1,h2⟩
def Zax (o:Oper) (a:Act) (next:Act->World->Prop) (Q:Exit->Act->World->Prop):Ending->World->Prop
 | .returned v,w=>next (a.put o.dst v) w
 | .panicked chain,w=>Q (.panic chain) a w
 | .outgrown,_=>False
def _root_.Go.Oper.uponX (P:Program) (o:Oper) (a:Act) (next:Act->World->Prop) (Q:Exit->Act->World->Prop):Result Next->Prop
 | .ok (.value v) w'=>next (a.put o.dst v) w'
 | .ok .skip w'=>next (a.put o.dst undef) w'
 | .ok (.defer d) w'=>next ({ a with defers:=d :: a.defers }.put o.dst undef) w'
 | .ok (.enter f args) w'=>Calls P f args w' (Zax o a next Q)
 | .ok (.round l f tmps assign body) w'=>Za3 P l f tmps assign body w' (Zax o a next Q)
 | .halt (.panic v) w'=>Q (.panic [{ v,recovered:=false }]) a w'
 | _=>False
def _root_.Go.Oper.wpq (rr:Option Nat) (P:Program) (o:Oper) (a:Act) (w:World) (next:Act->World->Prop) (Q:Exit->Act->World->Prop):Prop :=
 o.uponX P a next Q ((o.semAt rr a.eval).run P w)
section
variable {P:Program} {o:Oper} {a:Act} {w w':World} {rr:Option Nat} {next:Act->World->Prop} {Q:Exit->Act->World->Prop}
theorem Zk9 {x:Next} (h:(execOp a.eval o).run P w = .ok x w') (hx:∀ d,x≠.defer d):(o.semAt rr a.eval).run P w = .ok x w':=by
 by_cases hd:∃ c,o.op = .defer c
 . obtain ⟨c,hc⟩:=hd;exfalso;have:execOp a.eval o=(do let d <- resolve a.eval c o.type;pure (.defer d)):=by
    obtain ⟨dst,op,ty,pos,after,guard⟩:=o;simp only at hc;subst hc;rfl
   rw [this,Sem.run_bind] at h;cases hr:(resolve a.eval c o.type).run P w with
   | ok d w1=>rw [hr] at h;simp at h;exact hx d h.1.symm
   | halt r w1=>rw [hr] at h;simp [Result.andThen] at h
 . rw [Oper.semAt_eq rr a.eval o (λc hc=>hd ⟨c,hc⟩)];exact h
theorem Zy {x:Next} (h:(execOp a.eval o).run P w = .ok x w') (hx:∀ d,x≠.defer d) (hn:o.uponX P a next Q (.ok x w')):o.wpq rr P a w next Q:=by
 unfold Oper.wpq;rw [Zk9 h hx];exact hn
theorem ZbH {f:FuncId} {vs:Array Value} (h:(execOp a.eval o).run P w = .ok (.enter f vs) w') (hc:Calls P f vs w' (Zax o a next Q)):o.wpq rr P a w next Q :=
 Zy h (by simp) hc
theorem Zi1 {v:Value} (h:(execOp a.eval o).run P w = .halt (.panic v) w') (hd:∀ c,o.op≠.defer c) (hn:Q (.panic [{ v,recovered:=false }]) a w'):o.wpq rr P a w next Q:=by
 unfold Oper.wpq;rw [Oper.semAt_eq rr a.eval o hd,h];exact hn
theorem Zoa {K K':Act->World->Prop} (h:∀ a w,K a w->K' a w) (hh:o.wpq rr P a w K Q):o.wpq rr P a w K' Q:=by
 unfold Oper.wpq at *;have hb:∀ e w,Zax o a K Q e w->Zax o a K' Q e w:=λe w hb=>by cases e<;>first | exact h _ _ hb | exact hb
 generalize (o.semAt rr a.eval).run P w=r at *;cases r with
 | ok x w' =>
  cases x<;>simp only [Oper.uponX] at hh ⊢ <;>
   first
    | exact h _ _ hh
    | exact hh.mono hb
 | halt x w'=>cases x<;>simp only [Oper.uponX] at hh ⊢<;>exact hh
end
def wpX (r:Option Nat) (P:Program) (c:Code) (Q:Exit->Act->World->Prop) (a:Act) (w:World):Prop :=
 ∀ (b:Frame) (k:List Item) (cs:List Frame),b.roundOf=r->(P.funcs[b.fn]?).isSome=true->∃ e a' w',Q e a' w'/\ArrivesIn TT P (lone (b.atR a (.code c :: k)) cs w) b k cs e a' w'
section
variable {P:Program} {r:Option Nat} {Q:Exit->Act->World->Prop} {a:Act} {w:World}
theorem XA {m m':Machine} (h:step P m = .next m'):StT P m m':=.one trivial h
theorem Zop (h:Q .normal a w):wpX r P .skip Q a w:=λ_ _ _ _ _=>⟨.normal,a,w,h,XA stepR_skip⟩
theorem Zjk {l:Nat} (h:Q .normal a w):wpX r P (.label l) Q a w:=λ_ _ _ _ _=>⟨.normal,a,w,h,XA stepR_label⟩
theorem ZnL {id:Nat} (h:Q (.exit id) a w):wpX r P (.exit id) Q a w:=λ_ k _ _ _=>⟨.exit id,a,w,h,λ_ hk=>XA (stepR_exit hk),λ_ hk=>⟨k,hk,.refl _⟩⟩
theorem ZwH (h:Q .ret a w):wpX r P .ret Q a w:=λ_ k _ _ _=>⟨.ret,a,w,h,λhn=>⟨_,XA (stepR_ret hn)⟩,λ_=>⟨k,.refl _⟩⟩
theorem Zed {m:Machine} {b:Frame} {x:Item} {k:List Item} {cs:List Frame} {e:Exit} {a:Act} {w:World} (hx:x.plain=true) (hn:e≠.normal) (h:ArrivesIn TT P m b (x :: k) cs e a w):ArrivesIn TT P m b k cs e a w :=
 .pass hx (λ_ _=>.inl hn) h
theorem Zdf {x y:Code} (h:wpX r P x (Exit.then (wpX r P y Q) Q) a w):wpX r P (.seq x y) Q a w:=by
 intro b k cs hr hb;obtain ⟨e,a1,w1,hq,s⟩:=h b (.code y :: k) cs hr hb;by_cases he:e = .normal
 . subst he;obtain ⟨e2,a2,w2,hq2,s2⟩:=hq b k cs hr hb;exact ⟨e2,a2,w2,hq2,.of_steps (.head trivial stepR_seq s) s2⟩
 . refine ⟨e,a1,w1,?_,.of_steps (XA stepR_seq) (Zed (x:=.code y) rfl he s)⟩;cases e<;>first | exact hq | exact absurd rfl he
theorem Zsg {c:Operand} {x y:Code} {t:Bool} (hc:a.eval c = .bool t) (h:wpX r P (if t then x else y) Q a w):wpX r P (.cond c x y) Q a w :=
 λb k cs hr hb=>let ⟨e,a',w',q,s⟩:=h b k cs hr hb;⟨e,a',w',q,.of_steps (XA (stepR_cond hc)) s⟩
theorem Zi6 {id:Nat} {c:Code} (h:wpX r P c (Exit.inBlock id Q) a w):wpX r P (.block id c) Q a w:=by
 intro b k cs hr hb;obtain ⟨e,a1,w1,hq,s⟩:=h b (.inBlock id :: k) cs hr hb;have s0:step P (lone (b.atR a (.code (.block id c) :: k)) cs w) = .next (lone (b.atR a (.code c :: .inBlock id :: k)) cs w):=stepR_block;cases e with
 | normal=>exact ⟨.normal,a1,w1,hq,(XA s0).trans (StepsIn.trans s (XA stepR_inBlock))⟩
 | exit id' =>
  simp only [Exit.inBlock] at hq;split at hq
  . rename_i hid;subst hid;exact ⟨.normal,a1,w1,hq,(XA s0).trans (s.1 k (by simp [exitTo]))⟩
  . rename_i hid;have hx:exitTo id' (.inBlock id :: k)=exitTo id' k:=by
     have:(id == id')=false:=by simpa using λe=>hid e.symm
     simp [exitTo,this]
    exact ⟨.exit id',a1,w1,hq,λk' hk=>(XA s0).trans (s.1 k' (by rw [hx];exact hk)),λhr' hk=>let ⟨k1,h1,h2⟩:=s.2 hr' (by rw [hx];exact hk);⟨k1,h1,(XA s0).trans h2⟩⟩
 | goto l =>
  have hx:gotoIn l (.inBlock id :: k)=gotoIn l k:=by simp [gotoIn]
  exact ⟨.goto l,a1,w1,hq,λk' hk=>(XA s0).trans (s.1 k' (by rw [hx];exact hk)),λhr' hk=>let ⟨k1,h1,h2⟩:=s.2 hr' (by rw [hx];exact hk);⟨k1,h1,(XA s0).trans h2⟩⟩
 | ret=>exact ⟨.ret,a1,w1,hq,.of_steps (XA s0) s⟩
 | panic ch=>exact ⟨.panic ch,a1,w1,hq,.of_steps (XA s0) s⟩
 | outgrown=>exact ⟨.outgrown,a1,w1,hq,.of_steps (XA s0) s⟩
theorem ZkR {c:Code} (h:wpX r P c (Exit.noGoto Q) a w):wpX r P (.scope c) Q a w:=by
 intro b k cs hr hb;have s0:step P (lone (b.atR a (.code (.scope c) :: k)) cs w) = .next (lone (b.atR a (.code c :: .inScope c :: k)) cs w):=step_lone_go (by simp [stepG,stepG.exec,Frame.atR]);have s1:∀ {a:Act} {w:World},step P (lone (b.atR a (.inScope c :: k)) cs w) = .next (lone (b.atR a k) cs w):=step_lone_go (by simp [stepG,stepG.exec,Frame.atR]);obtain ⟨e,a1,w1,hq,s⟩:=h b (.inScope c :: k) cs hr hb
 have hx:∀ id,exitTo id (.inScope c :: k)=exitTo id k:=λid=>by simp [exitTo]
 cases e with
 | normal=>exact ⟨.normal,a1,w1,hq,(XA s0).trans (StepsIn.trans s (XA s1))⟩
 | exit id=>exact ⟨.exit id,a1,w1,hq,λk' hk=>(XA s0).trans (s.1 k' (by rw [hx];exact hk)),λhr' hk=>let ⟨k1,h1,h2⟩:=s.2 hr' (by rw [hx];exact hk);⟨k1,h1,(XA s0).trans h2⟩⟩
 | goto l=>exact hq.elim
 | ret=>exact ⟨.ret,a1,w1,hq,.of_steps (XA s0) s⟩
 | panic ch=>exact ⟨.panic ch,a1,w1,hq,.of_steps (XA s0) s⟩
 | outgrown=>exact ⟨.outgrown,a1,w1,hq,.of_steps (XA s0) s⟩
theorem Zcr {c:Code} {b:Frame} {k:List Item} {cs:List Frame} {e:Exit} {a1:Act} {w1:World} {m:Machine} (R':Act->World->Prop) (hR:∀ a w,R' a w->∃ e a' w',Q e a' w'/\ArrivesIn TT P (lone (b.atR a (.code c :: .inLoop c :: k)) cs w) b k cs e a' w')
 (hq:Exit.then R' Q e a1 w1) (s:ArrivesIn TT P m b (.inLoop c :: k) cs e a1 w1):∃ e a' w',Q e a' w'/\ArrivesIn TT P m b k cs e a' w':=by
 by_cases he:e = .normal
 . subst he;obtain ⟨e2,a2,w2,hq2,s2⟩:=hR a1 w1 hq;exact ⟨e2,a2,w2,hq2,.of_steps (StepsIn.trans s (XA stepR_inLoop)) s2⟩
 . refine ⟨e,a1,w1,?_,Zed (x:=.inLoop c) rfl he s⟩;cases e<;>first | exact hq | exact absurd rfl he
theorem Zow {c:Code} (I:Act->World->Prop) (μ : Act->World->Nat) (h0:I a w) (rd:∀ a w,I a w->wpX r P c (Exit.then (λa' w'=>I a' w'/\μ a' w' < μ a w) Q) a w):wpX r P (.loop c) Q a w:=by
 intro b k cs hr hb;have key:∀ (j:Nat) (a:Act) (w:World),μ a w=j->I a w->∃ e a' w',Q e a' w'/\ArrivesIn TT P (lone (b.atR a (.code c :: .inLoop c :: k)) cs w) b k cs e a' w':=by
  intro j
  induction j using Nat.strongRecOn with
  | _ j ih =>
   intro a w hj hI;obtain ⟨e,a1,w1,hq,s⟩:=rd a w hI b (.inLoop c :: k) cs hr hb;exact Zcr _ (λa' w' hh=>ih (μ a' w') (hj ▸ hh.2) a' w' rfl hh.1) hq s
 obtain ⟨e,a',w',hq,s⟩:=key _ a w rfl h0;exact ⟨e,a',w',hq,.of_steps (XA stepR_loop) s⟩
def ZBA (r:Option Nat) (P:Program) (c:Code) (Q:Exit->Act->World->Prop):Nat->Act->World->Prop
 | 0,_,_=>False
 | m+1,a,w=>wpX r P c (Exit.then (ZBA r P c Q m) Q) a w
theorem Zhg {c:Code} (m:Nat) (h:ZBA r P c Q m a w):wpX r P (.loop c) Q a w:=by
 intro b k cs hr hb;have key:∀ (m:Nat) (a:Act) (w:World),ZBA r P c Q m a w->∃ e a' w',Q e a' w'/\ArrivesIn TT P (lone (b.atR a (.code c :: .inLoop c :: k)) cs w) b k cs e a' w':=by
  intro m
  induction m with
  | zero=>intro a w h;exact h.elim
  | succ m ih =>
   intro a w h;obtain ⟨e,a1,w1,hq,s⟩:=h b (.inLoop c :: k) cs hr hb;exact Zcr _ (λa' w' hh=>ih a' w' hh) hq s
 obtain ⟨e,a',w',hq,s⟩:=key m a w h;exact ⟨e,a',w',hq,.of_steps (XA stepR_loop) s⟩
variable {ops:Array Oper}
def ZnR (r:Option Nat) (P:Program) (ops:Array Oper) (Q:Exit->Act->World->Prop) (i:Nat) (K:Act->World->Prop) (a:Act) (w:World):Prop :=
 match ops[i]? with
 | none=>K a w
 | some o=>if Region.wanted o (yielded ops a.tmps) then o.wpq r P a w K Q else K (a.put o.dst undef) w
theorem ZdP {i:Nat} {K K':Act->World->Prop} (h:∀ a w,K a w->K' a w) (hh:ZnR r P ops Q i K a w):ZnR r P ops Q i K' a w:=by
 unfold ZnR at *;split
 . rename_i ho;rw [ho] at hh;exact h _ _ hh
 . rename_i o ho;rw [ho] at hh;simp only at hh;split
   . rename_i hw;rw [if_pos hw] at hh;exact Zoa h hh
   . rename_i hw;rw [if_neg hw] at hh;exact h _ _ hh
def ZiH (r:Option Nat) (P:Program) (ops:Array Oper) (Q:Exit->Act->World->Prop):List Nat->Act->World->Prop
 | [],a,w=>Q .normal a w
 | i :: rest,a,w=>ZnR r P ops Q i (ZiH r P ops Q rest) a w
theorem ZaR:∀ (l:List Nat) (a:Act) (w:World),ZiH r P ops Q l a w->∀ (b:Frame) (k:List Item) (cs:List Frame),b.roundOf=r->(P.funcs[b.fn]?).isSome=true ->
 ∃ e a' w',Q e a' w'/\ArrivesIn TT P (lone (b.atR a (.inRegion ops l :: k)) cs w) b k cs e a' w'
 | [],a,w,h,b,k,cs,_,_=>⟨.normal,a,w,h,XA stepR_region_end⟩
 | i :: rest,a,w,h,b,k,cs,hr,hb=>by
  simp only [ZiH,ZnR] at h;have fin:∀ (a1:Act) (w1:World),ZiH r P ops Q rest a1 w1->StT P (lone (b.atR a (.inRegion ops (i :: rest) :: k)) cs w) (lone (b.atR a1 (.inRegion ops rest :: k)) cs w1) ->
   ∃ e a' w',Q e a' w'/\ArrivesIn TT P (lone (b.atR a (.inRegion ops (i :: rest) :: k)) cs w) b k cs e a' w':=λa1 w1 h1 s1=>by
   obtain ⟨e,a',w',hq,s⟩:=ZaR rest a1 w1 h1 b k cs hr hb;exact ⟨e,a',w',hq,.of_steps s1 s⟩
  split at h
  . rename_i ho;refine fin _ _ h (XA ?_);have hs:=stepR_op_skip (P:=P) (b:=b) (a:=a) (k:=k) (cs:=cs) (w:=w) (ops:=ops) (i:=i) (rest:=rest) (by simp [ho]);simpa only [ho,Option.bind_none,Act.put] using hs
  . rename_i o ho;split at h
    . rename_i hw;have hg:=stepGR_op (P:=P) (b:=b) (k:=k) (cs:=cs) (w:=w) (rest:=rest) ho hw;rw [hr] at hg;have hfin:∀ v,(b.atR a (.inRegion ops (i :: rest) :: k)).finish v=b.atR (a.put o.dst v) (.inRegion ops rest :: k):=λv=>by rw [Frame.finish_atR,ho];rfl
      have hbeh:∀ (e:Ending) (w2:World),Zax o a (ZiH r P ops Q rest) Q e w2->Zgj P (lone (b.atR a (.inRegion ops (i :: rest) :: k)) cs w) (b.atR a (.inRegion ops (i :: rest) :: k)) cs w2 e ->
       ∃ e a' w',Q e a' w'/\ArrivesIn TT P (lone (b.atR a (.inRegion ops (i :: rest) :: k)) cs w) b k cs e a' w':=λe w2 hR hc=>by
       cases e with
       | returned v=>exact fin _ _ hR (by simp only [Zgj,hfin] at hc;exact hc)
       | panicked chain=>exact ⟨.panic chain,a,w2,hR,.inRegion ops (i :: rest) :: k,by simp only [Zgj,Frame.raise_atR] at hc;exact hc⟩
       | outgrown=>exact hc.elim
      unfold Oper.wpq at h;cases hx:(o.semAt r a.eval).run P w with
      | ok x w1 =>
       rw [hx] at h;cases x<;>simp only [Oper.uponX] at h
       case value v=>exact fin _ _ h (XA (step_lone_go (by rw [hg,<- hfin];simp [stepG.apply,hx])))
       case skip=>exact fin _ _ h (XA (step_lone_go (by rw [hg,<- hfin];simp [stepG.apply,hx])))
       case defer d =>
        refine fin _ _ h (XA (step_lone_go ?_));have:({ b.atR a (.inRegion ops (i :: rest) :: k) with defers:=d :: a.defers }:Frame).finish undef=b.atR ({ a with defers:=d :: a.defers }.put o.dst undef) (.inRegion ops rest :: k):=by
         have h2:=Frame.finish_atR b { a with defers:=d :: a.defers } ops i rest k undef;rw [ho] at h2;exact h2
        rw [hg,<- this];simp [stepG.apply,hx,Frame.atR]
       case enter f args =>
        have henter:step P (lone (b.atR a (.inRegion ops (i :: rest) :: k)) cs w) = .next (lone (Frame.enter P f args .normal) (b.atR a (.inRegion ops (i :: rest) :: k) :: cs) w1) :=
         step_lone_go (by rw [hg];simp [stepG.apply,hx,Frame.atR])
        obtain ⟨e,w2,fr,hR,hs,hfn,hl⟩:=h (b.atR a (.inRegion ops (i :: rest) :: k) :: cs);refine hbeh e w2 hR ?_;cases e with
        | returned v=>exact (XA henter).trans ((steps_iff.1 hs).trans (XA (step_leave_returned hl)))
        | panicked chain=>exact (XA henter).trans ((steps_iff.1 hs).trans (XA (step_leave_panicked hl)))
        | outgrown=>exact hR.elim
       case round l f tmps assign body =>
        have henter:step P (lone (b.atR a (.inRegion ops (i :: rest) :: k)) cs w) = .next (lone (Frame.round l f tmps assign body .normal) (b.atR a (.inRegion ops (i :: rest) :: k) :: cs) w1) :=
         step_lone_go (by rw [hg];simp [stepG.apply,hx,Frame.atR])
        obtain ⟨e,w2,hR,hs⟩:=h (b.atR a (.inRegion ops (i :: rest) :: k)) cs;refine hbeh e w2 hR ?_;cases e with
        | returned v=>exact (XA henter).trans hs
        | panicked chain=>exact (XA henter).trans hs
        | outgrown=>exact hs
      | halt x w1 =>
       rw [hx] at h;cases x<;>simp only [Oper.uponX] at h
       rename_i v;refine ⟨_,a,w1,h,.inRegion ops (i :: rest) :: k,XA (step_lone_go ?_)⟩;rw [hg,<- Frame.raise_atR];simp [stepG.apply,hx]
    . rename_i hw;refine fin _ _ h (XA ?_);have hs:=stepR_op_skip (P:=P) (b:=b) (a:=a) (k:=k) (cs:=cs) (w:=w) (ops:=ops) (i:=i) (rest:=rest) (by simp [ho];simpa using hw);simpa only [ho,Option.bind_some] using hs
def Ur (r:Option Nat) (P:Program) (ops:Array Oper) (Q:Exit->Act->World->Prop):List Oper->Act->World->Prop
 | [],a,w=>Q .normal a w
 | o :: os,a,w=>if Region.wanted o (yielded ops a.tmps) then o.wpq r P a w (Ur r P ops Q os) Q else Ur r P ops Q os (a.put o.dst undef) w
theorem ZbE:∀ (l:List Oper) (k:Nat),(∀ j,j < l.length->ops[k+j]? = l[j]?)->∀ a w,Ur r P ops Q l a w->ZiH r P ops Q (List.range' k l.length) a w
 | [],k,_,a,w,h=>h
 | o :: l,k,hl,a,w,h=>by
  have h0:ops[k]? = some o:=by simpa using hl 0 (by simp)
  have ih:=ZbE l (k+1) (λj hj=>by have:=hl (j+1) (by simpa using hj);rw [show k+(j+1)=k+1+j from by omega] at this;simpa using this);simp only [List.length_cons,List.range'_succ,ZiH];simp only [Ur] at h;refine ZdP ih ?_;simp only [ZnR,h0];exact h
theorem X0 {id:Nat} (h:Ur r P ops Q ops.toList a w):wpX r P (.region id ops false) Q a w:=λb k cs hr hb=>by
 have h1:=ZbE (ops:=ops) ops.toList 0 (λj hj=>by simp) a w h;rw [Array.length_toList,<- List.range_eq_range'] at h1;obtain ⟨e,a',w',q,s⟩:=ZaR _ a w h1 b k cs hr hb;exact ⟨e,a',w',q,.of_steps (XA stepR_region) s⟩
def Zg0 (r:Option Nat) (P:Program) (md:Region.Mode) (ops:Array Oper) (Q:Exit->Act->World->Prop):Nat->Array Bool->Act->World->Prop
 | 0,listed,a,w=>Region.ready md ops listed=[]/\Q .normal a w
 | fuel+1,listed,a,w=>(Region.ready md ops listed=[]->Q .normal a w)/\∀ i ∈ Region.ready md ops listed,ZnR r P ops Q i (Zg0 r P md ops Q fuel (listed.setIfInBounds i true)) a w
theorem ZgM {md:Region.Mode}:∀ (fuel t:Nat) (listed:Array Bool) (a:Act) (w:World),Zg0 r P md ops Q fuel listed a w->ZiH r P ops Q (Region.linearise.go md ops fuel t listed []) a w
 | 0,t,listed,a,w,h=>by simpa [Region.linearise.go,ZiH] using h.2
 | fuel+1,t,listed,a,w,h=>by
  obtain ⟨h0,h1⟩:=h;simp only [Region.linearise.go];split
  . rename_i i hi;rw [linearise_go_acc,List.reverse_singleton,List.singleton_append];simp only [ZiH];exact ZdP (λa w=>ZgM fuel _ _ a w) (h1 i (List.mem_of_getElem? hi))
  . rename_i hi
    replace hi:(Region.ready md ops listed)[t % (Region.ready md ops listed).length]? = none:=hi
    have hnil:Region.ready md ops listed=[]:=by
     rcases hrd:Region.ready md ops listed with _ | ⟨x,xs⟩
     . rfl
     . rw [hrd,List.getElem?_eq_none_iff] at hi;have hlt:t % (x :: xs).length < (x :: xs).length:=Nat.mod_lt _ (by simp);omega
    simpa [ZiH] using h0 hnil
theorem Zcj {id:Nat} (hm:P.follows .mixedOrders=true) (h:Zg0 r P .any ops Q ops.size (Array.replicate ops.size false) a { w with drawn:=w.drawn+1 }):wpX r P (.region id ops true) Q a w:=λb k cs hr hb=>by
 have h1:=ZgM ops.size (w.tape w.drawn (.order b.fn id)) _ a _ h;have h2:ZiH r P ops Q (Region.schedule (P.follows .mixedOrders) ops (w.tape w.drawn (.order b.fn id))) a { w with drawn:=w.drawn+1 }:=by
  simp only [Region.schedule,hm,Bool.true_or,if_true];exact h1
 obtain ⟨e,a',w',q,s⟩:=ZaR _ a _ h2 b k cs hr hb;exact ⟨e,a',w',q,.of_steps (XA stepR_region_draw) s⟩
def rPost (P:Program) (l:Nat) (R:Ending->World->Prop):Exit->Act->World->Prop
 | .normal,_,w=>∃ v w',(Instr.endRound l none).run P w = .ok v w'/\R (.returned v) w'
 | .ret,_,w=>∃ v w',(Instr.endRound l (some .ret)).run P w = .ok v w'/\R (.returned v) w'
 | .exit id,_,w=>∃ v w',(Instr.endRound l (some (.exit id))).run P w = .ok v w'/\R (.returned v) w'
 | .panic chain,a,w=>a.defers=[]/\R (.panicked chain) w
 | .goto _,_,_=>False
 | .outgrown,_,_=>False
theorem Zk5 {l:Nat} {f:FuncId} {tmps:Array Value} {assign body:Code} {R:Ending->World->Prop} (hf:(P.funcs[f]?).isSome=true)
 (h:wpX (some l) P assign (λe a₁ w₁=>e = .normal/\∃ w₂,(Instr.beginRound l).run P w₁ = .ok () w₂/\wpX (some l) P body (rPost P l R) a₁ w₂) { tmps:=tmps,defers:=[] } w):Za3 P l f tmps assign body w R:=λc cs=>by
 let b:Frame:={ (default:Frame) with fn:=f,kind:=.normal,roundOf:=some l }
 have hb0:Frame.round l f tmps assign body .normal=b.atR { tmps:=tmps,defers:=[] } [.code assign,.beginRound,.code body]:=by simp [Frame.round,Frame.atR,b]
 obtain ⟨e,a1,w1,⟨rfl,w2,hbr,hbody⟩,s⟩:=h b [.beginRound,.code body] (c :: cs) rfl hf;rw [<- hb0] at s;have s1:StT P (lone (Frame.round l f tmps assign body .normal) (c :: cs) w) (lone (b.atR a1 [.code body]) (c :: cs) w2):=StepsIn.trans s (XA (stepR_beginRound (b:=b) rfl hbr));obtain ⟨e2,a2,w3,hq,s2⟩:=hbody b [] (c :: cs) rfl hf;cases e2 with
 | normal =>
  obtain ⟨v,w4,hend,hR⟩:=hq;exact ⟨.returned v,w4,hR,s1.trans (StepsIn.trans s2 (XA (stepR_round_end (b:=b) rfl rfl hend)))⟩
 | ret =>
  obtain ⟨v,w4,hend,hR⟩:=hq;obtain ⟨k1,hs⟩:=s2.2 rfl;exact ⟨.returned v,w4,hR,s1.trans (hs.trans (XA (stepR_round_ret (b:=b) rfl rfl hend)))⟩
 | exit id =>
  obtain ⟨v,w4,hend,hR⟩:=hq;obtain ⟨k1,hk,hs⟩:=s2.2 rfl rfl;exact ⟨.returned v,w4,hR,s1.trans (hs.trans (XA (stepR_round_exit (b:=b) rfl rfl hk hend)))⟩
 | panic chain =>
  obtain ⟨hd,hR⟩:=hq;obtain ⟨todo,hs⟩:=s2;obtain ⟨fn,hfn⟩:=Option.isSome_iff_exists.1 hf;refine ⟨.panicked chain,w3,hR,s1.trans (hs.trans (XA (step_leave_panicked ⟨rfl,hd,fn,hfn⟩)))⟩
 | goto t=>exact hq.elim
 | outgrown=>exact hq.elim
end
def Yld (P:Program) (o:Oper) (a:Act) (w:World) (φ : Value->World->Prop):Prop :=
 ∀ (rr:Option Nat) (next:Act->World->Prop) (Q:Exit->Act->World->Prop),(∀ y w',φ y w'->next (a.put o.dst y) w')->o.wpq rr P a w next Q
theorem ZK {P:Program} {o:Oper} {a:Act} {w w':World} {φ : Value->World->Prop} {y:Value} (h:(execOp a.eval o).run P w = .ok (.value y) w') (hφ : φ y w'):Yld P o a w φ :=
 λrr next Q hn=>Zy h (by simp) (hn y w' hφ)
theorem Zn5 {P:Program} {o:Oper} {a:Act} {w:World} {φ ψ : Value->World->Prop} (h:Yld P o a w φ) (hi:∀ y w',φ y w'->ψ y w'):Yld P o a w ψ :=
 λrr next Q hn=>h rr next Q λy w' hy=>hn y w' (hi y w' hy)
theorem Zgm {P:Program} {o:Oper} {a:Act} {w:World} {φ : Value->World->Prop} {f:FuncId} {vs:Array Value} (h:(execOp a.eval o).run P w = .ok (.enter f vs) w)
 (hc:Calls P f vs w λe w'=>∃ y,e = .returned y/\φ y w'):Yld P o a w φ :=
 λrr next Q hn=>ZbH h (hc.mono λe w' ⟨y,he,hy⟩=>by
  subst he
  exact hn y w' hy)
def ZO (C:Cx) (E:Env) (hp:List (Nat × HB)) (n:Nat->Prop) (w:World) (s:SV) (y:Value) (w':World):Prop :=
 R w' E n (okS C E hp) s y/\Below w.heap.size w w'
def opG (g:Option (Nat × Bool)):SI->List (Option (Nat × Bool) × X)
 | .pick c a b=>match c with
  | .t t=>[(g,c),(some (t,true),a),(some (t,false),b)]
  | _=>[(g,c)]
 | i=>(opX i).map λx=>(g,x)
section
variable {P:Program} {C:Cx} {E:Env} {hp:List (Nat × HB)} {n:Nat->Prop} {w:World} {a:Act}
theorem Y2 {f:FuncId} {vs:Array Value} (h:Yn P f=true) :
 (callFunc f vs).run P w = .ok (.enter f vs) w:=by
 unfold Yn at h;split at h
 . rename_i fn hf;simp only [Bool.and_eq_true,Bool.not_eq_true'] at h;have h1:¬ fn.name = "runtime.NumGoroutine" := by simpa using h.1
   have h2:¬ fn.body=none:=by cases hb:fn.body<;>simp_all
   simp [callFunc,hf,h1,h2]
 . cases h
theorem Zs0 {o:Oper} {f:FuncId} {args:List SV} {vs:List Value} {res:SV} (hs:HSim C E hp n w) (hrun:(execOp a.eval o).run P w = .ok (.enter f vs.toArray) w)
 (hR:RL w E n (okS C E hp) args vs) (hc:Ct P f args res):Yld P o a w (ZO C E hp n w res):=by
 refine Zgm hrun ((hc.run w (okS C E hp) vs (Zu hs) (Zb6 _ _ hc.ka hR)).mono λe w' ⟨y,he,hy,hb⟩=>⟨y,he,?_,hb⟩);have h1:R w' E n (λb=>okS C E hp b\/w.heap.size<=b) res y:=ZiC res y hc.kr hy
 exact ZU (λb hb' _=>⟨by
  rcases hb' with h | h
  . exact h
  . exact WG hs h,rfl⟩) (λ_ _=>Ele.rfl) (λ_ h=>h) _ _ h1
end
theorem XS {w:World} {E:Env} {n ok ok':Nat->Prop} {b m:Nat} {cs:Array Value} (hok:ok' b) (hc:∀ j c,cs.toList[j]? = some c->w.cell? ⟨b,j,none⟩=some c) (hst:ZG w w ok ok') :
 ∀ (xs:List (List SV)) (off:Nat),(∀ r ∈ xs,r.length=m)->RL w E n ok xs.flatten ((cs.toList.drop off).take (xs.length * m))->RR w E n ok' b m xs off
 | [],_,_,_=>by simp [RR]
 | r :: xs,off,hm,h=>by
  have hr:r.length=m:=hm r (by simp);simp only [RR];simp only [List.flatten_cons,List.length_cons] at h;have h1:=X2 r.length h;rw [List.take_left' rfl,List.take_take,show min r.length ((xs.length+1) * m)=m from by rw [hr,Nat.add_mul];omega] at h1;have h2:=W4 r.length h;rw [List.drop_left' rfl,List.drop_take,hr,List.drop_drop,show (xs.length+1) * m - m=xs.length * m from by rw [Nat.add_mul];omega] at h2
  refine ⟨hr,⟨_,ZE hst (λ_ _=>Ele.rfl) (λ_ h=>h) _ _ h1,λ_=>hok,λj c hj=>?_⟩,XS hok hc hst xs (off+m) (λr hr=>hm r (by simp [hr])) h2⟩;have hj':j < m:=by have:=(List.getElem?_eq_some_iff.1 hj).1;simp at this;omega
  rw [List.getElem?_take_of_lt hj',List.getElem?_drop] at hj;exact hc _ _ hj
section
variable {P:Program} {C:Cx} {E:Env} {hp:List (Nat × HB)} {n:Nat->Prop} {w:World} {a:Act}
def Tr:Nat->Prop:=λ_=>True
theorem Ui {g:SV->SV} (hg:∀ s y,R w E n (okS C E hp) s y->R w E n Tr (g s) y):∀ (l:List SV) (ys:List Value),RL w E n (okS C E hp) l ys->RL w E n Tr (Zb9 g l) ys
 | [],ys,h=>by simpa [RL,Zb9] using h
 | s :: l,ys,h=>by
  simp only [RL,Zb9] at *;obtain ⟨y,r,h1,h2,h3⟩:=h;exact ⟨y,r,h1,hg s y h2,Ui hg l r h3⟩
theorem Zdz {w:World} {E E':Env} {n n' ok ok':Nat->Prop}:∀ {l l':List SV} {ys:List Value},F2 (λs s'=>∀ y,R w E n ok s y->R w E' n' ok' s' y) l l'->RL w E n ok l ys->RL w E' n' ok' l' ys
 | [],_,_,.nil,h=>by simpa [RL] using h
 | _ :: _,_,_,.cons h1 h2,h=>by simp only [RL] at h ⊢;obtain ⟨y,r,e,a,b⟩:=h;exact ⟨y,r,e,h1 y a,Zdz h2 b⟩
theorem ZjS {α : Type} {p:α->α->Prop}:∀ {a b c d:List α},F2 p a b->F2 p c d->F2 p (a ++ c) (b ++ d)
 | [],_,_,_,.nil,h=>h
 | _ :: _,_,_,_,.cons h1 h2,h=>.cons h1 (ZjS h2 h)
theorem Zk0 {α : Type} {p:α->α->Prop} {x y:α} (hx:p x y):∀ {l l':List α} (o:Nat),F2 p l l'->F2 p (l.set o x) (l'.set o y)
 | [],_,_,.nil=>.nil
 | _ :: _,_,0,.cons _ h2=>.cons hx h2
 | _ :: _,_,o+1,.cons h1 h2=>.cons h1 (Zk0 hx o h2)
theorem Zje {α : Type} {p:α->α->Prop} (hp:∀ s,p s s):∀ l:List α,F2 p l l
 | []=>.nil
 | _ :: l=>.cons (hp _) (Zje hp l)
theorem Zs7 {p:SV->SV->Prop} (hp:∀ s,p s s) {k o m':Nat}:∀ {inn:List (List (List SV))} {xs:List (List SV)} {u:Nat},(∀ i r,inn[i]? = some r->p (.mr k (u+i)) (.sl false m' r)) ->
 F2 p (ZaB k o u inn.length xs).flatten (ZfD o m' inn xs).flatten
 | [],xs,u,_=>by simp only [List.length_nil,ZaB,ZfD];exact Zje hp _
 | _ :: _,[],u,_=>by simp only [List.length_cons,ZaB,ZfD];exact .nil
 | r :: inn,row :: xs,u,h=>by
  simp only [List.length_cons,ZaB,ZfD,List.flatten_cons];exact ZjS (Zk0 (h 0 r rfl) o (Zje hp row)) (Zs7 hp λi r' hr=>by have:=h (i+1) r' (by simpa using hr);rw [show u+1+i=u+(i+1) from by omega];exact this)
theorem Zgk (o m':Nat):∀ (inn:List (List (List SV))) (xs:List (List SV)),(ZfD o m' inn xs).length=xs.length
 | [],_=>rfl
 | _ :: _,[]=>rfl
 | _ :: inn,_ :: xs=>by simp only [ZfD,List.length_cons,Zgk o m' inn xs]
theorem VO (k o:Nat):∀ (u N:Nat) (xs:List (List SV)),(ZaB k o u N xs).length=xs.length
 | _,0,_=>rfl
 | _,_+1,[]=>rfl
 | u,N+1,_ :: xs=>by simp only [ZaB,List.length_cons,VO k o (u+1) N xs]
theorem Zeu {k o m m':Nat}:∀ {u:Nat} {inn:List (List (List SV))} {xs:List (List SV)},(∀ r ∈ ZaB k o u inn.length xs,r.length=m)->∀ r ∈ ZfD o m' inn xs,r.length=m
 | _,[],_,h=>h
 | _,_ :: _,[],_=>λr hr=>by simp [ZfD] at hr
 | u,_ :: inn,row :: xs,h=>λr hr=>by
  simp only [ZfD,List.mem_cons] at hr;rcases hr with rfl | hr
  . have:=h (row.set o (.mr k u)) (by simp [ZaB]);simpa using this
  . exact Zeu (k:=k) (u:=u+1) (λr hr=>h r (by simp [ZaB,hr])) r hr
theorem Zyr.sl {w:World} {E:Env} {n ok ok':Nat->Prop} {y:Value} {m:Nat} {xs:List (List SV)} {T:TypeId} (hst:ZG w w ok ok') (hok:∀ b,ZyJ y b->ok' b) (h:Zyr w E n ok y m xs T):R w E n ok' (.sl false m xs) y:=by
 simp only [R];rcases h with ⟨h1,a0,h2⟩ | ⟨b,cap,cs,h1,h2,h3,⟨h4,h4'⟩,h5,h6,h7⟩
 . exact ⟨a0,0,0,h2,by simp [h1],⟨Nat.le_refl _,λh=>by cases h⟩,by simp [h1],.inl h1⟩
 . exact ⟨_,_,_,h1,rfl,⟨h4,λh=>by cases h⟩,h5,.inr ⟨b,0,rfl,XS (cs:=cs) (hok b ⟨_,_,h1,h4'⟩) (λj c hj=>by rw [cell_of_row _ _ _ _ _ _ h2];simpa using hj) hst xs 0 h6 (by simpa using h7)⟩⟩
theorem ZAX {w:World} {E:Env} {n ok ok':Nat->Prop} {k v m:Nat} {xs:List (List SV)} {T:TypeId} {o m':Nat} {inn:List (List (List SV))} {T':TypeId} (hst:ZG w w ok ok') (hok:∀ i b,i<=inn.length->ZyJ (E.hv k (v+i)) b->ok' b)
 (h:Ya w E n ok k (.rws v m xs T o m' inn T')):R w E n ok' (.sl false m (ZfD o m' inn xs)) (E.hv k v):=by
 simp only [Ya] at h;obtain ⟨a1,a2,a3,a4⟩:=h;have hin:∀ i r,inn[i]? = some r->R w E n ok' (.sl false m' r) (E.hv k (v+(i+1))):=λi r hr=>by
  have hi:i < inn.length:=(List.getElem?_eq_some_iff.1 hr).1;exact (a3 (i+1) m' r T' (by simp only [Xg,hr])).sl hst (λb hb=>hok (i+1) b (by omega) hb)
 have h0:=a3 0 _ _ _ rfl;have hl1:=VO k o (v+1) inn.length xs;have hl2:=Zgk o m' inn xs;have:Zyr w E n ok' (E.hv k v) m (ZfD o m' inn xs) T:=by
  rcases h0 with ⟨q1,q2⟩ | ⟨b,cap,cs,q1,q2,q3,q4,q5,q6,q7⟩
  . exact .inl ⟨List.eq_nil_of_length_eq_zero (by rw [hl2,<- hl1,q1];rfl),q2⟩
  . rw [hl1] at q1 q4 q5 q7;refine .inr ⟨b,cap,cs,by rw [hl2];exact q1,q2,q3,by rw [hl2];exact q4,by rw [hl2];exact q5,Zeu q6,?_⟩;rw [hl2];refine Zdz (Zs7 (p:=λs s'=>∀ y,R w E n ok s y->R w E n ok' s' y) (λs y hy=>ZU hst.c (λ_ _=>Ele.rfl) (λ_ h=>h) _ _ hy) λi r hr y hy=>?_) q7;have hy2:y=E.hv k (v+1+i):=by simp only [R] at hy;exact hy.2.2.1
    rw [hy2,show v+1+i=v+(i+1) from by omega];exact hin i r hr
 exact this.sl (λb hb _=>⟨hb,rfl⟩) (λb hb=>hok 0 b (Nat.zero_le _) hb)
theorem Zge (hh:HSim C E hp n w) {g:SV->SV} (hg:∀ s y,R w E n (okS C E hp) s y->R w E n Tr (g s) y) (s:SV) (y:Value) (h:R w E n (okS C E hp) s y):R w E n Tr (vwS hp g s) y:=by
 have tr:R w E n Tr s y:=ZU (λ_ _ _=>⟨trivial,rfl⟩) (λ_ _=>Ele.rfl) (λ_ h=>h) _ _ h;cases s<;>try exact tr
 case p k o =>
  simp only [vwS];split
  . rename_i l T hk;have hb:=hh.bk k;rw [hk] at hb;simp only [Ya] at hb;obtain ⟨cs,h1,h2⟩:=hb;simp only [R] at h ⊢;exact ⟨E.β k,0,by rw [Nat.zero_add];exact h.2,cs.toList,Ui hg _ _ h2,λ_=>trivial,λj c hj=>by rw [Nat.zero_add,cell_of_row _ _ _ _ _ _ h1];simpa using hj⟩
  . simp only [R]
 case mr k v =>
  simp only [vwS];split
  . rename_i v' m xs T hk;cases hv:Nat.beq v v'
    . simp only [vwN,R]
    have:=Nat.eq_of_beq_eq_true hv;subst this;have hb:=hh.bk k;rw [hk] at hb;simp only [Ya] at hb;simp only [R,vwN] at h ⊢;rcases hb with ⟨_,⟨h1,a0,h2⟩ | ⟨b,cap,cs,h1,h2,h3,⟨h4,_⟩,h5,h6,h7⟩⟩
    . exact ⟨a0,0,0,by rw [h.2.2.1,h2],by simp [h1],⟨Nat.le_refl _,λh=>by cases h⟩,by simp [h1],.inl h1⟩
    . refine ⟨_,_,_,h.2.2.1.trans h1,rfl,⟨h4,λh=>by cases h⟩,h5,.inr ⟨b,0,rfl,?_⟩⟩;exact XS (cs:=cs) (ok:=okS C E hp) trivial (λj c hj=>by rw [cell_of_row _ _ _ _ _ _ h2];simpa using hj) (λ_ _ _=>⟨trivial,rfl⟩) xs 0 h6 (by simpa using h7)
  . rename_i v' m xs T o m' inn T' hk;have hb:=hh.bk k;rw [hk] at hb;cases hv:Nat.beq v v'
    . cases hc:Nat.ble (v'+1) v
      . simp only [vwR,R]
      cases hq:inn[v - (v'+1)]? with
      | none=>simp only [vwR,R]
      | some r =>
       have hy:y=E.hv k v:=by simp only [R] at h;exact h.2.2.1
       have hle:=Nat.le_of_ble_eq_true hc;obtain ⟨_,_,a3,_⟩:=hb;have:=a3 (v - (v'+1)+1) m' r T' (by simp only [Xg,hq]);rw [show v'+(v - (v'+1)+1)=v from by omega] at this;rw [hy];exact this.sl (λ_ _ _=>⟨trivial,rfl⟩) (λ_ _=>trivial)
    have:=Nat.eq_of_beq_eq_true hv;subst this;have hy:y=E.hv k v:=by simp only [R] at h;exact h.2.2.1
    rw [hy];exact ZAX (λ_ _ _=>⟨trivial,rfl⟩) (λ_ _ _ _=>trivial) hb
  . simp only [R]
 case agg l=>simp only [R,vwS] at *;obtain ⟨cs,h1,h2⟩:=h;exact ⟨cs,h1,Ui hg l _ h2⟩
 case tup l=>simp only [R,vwS] at *;obtain ⟨cs,h1,h2⟩:=h;exact ⟨cs,h1,Ui hg l _ h2⟩
 case cl f l=>simp only [R,vwS] at *;obtain ⟨cs,h1,h2⟩:=h;exact ⟨cs,h1,Ui hg l _ h2⟩
 case ps l o =>
  simp only [R,vwS] at *;obtain ⟨b,off,h1,cs,h2,h3⟩:=h;exact ⟨b,off,h1,cs,Ui hg l _ h2,λ_=>trivial,h3.2⟩
 case gd j b s=>simp only [vwS,R]
 case mp k=>simp only [vwS,R]
 case yl k=>simp only [vwS,R]
 case ifc T s=>simp only [R,vwS] at *;obtain ⟨x,h1,h2⟩:=h;exact ⟨x,h1,hg _ _ h2⟩
theorem ZAi (s:SV) (y:Value) (h:R w E n (okS C E hp) s y):R w E n Tr (vw0 s) y:=by
 have tr:R w E n Tr s y:=ZU (λ_ _ _=>⟨trivial,rfl⟩) (λ_ _=>Ele.rfl) (λ_ h=>h) _ _ h;cases s<;>first | exact tr | simp only [vw0,R]
theorem ZzL (hh:HSim C E hp n w) (s:SV) (y:Value) (h:R w E n (okS C E hp) s y):R w E n Tr (vw4 hp s) y :=
 Zge hh (λs y h=>Zge hh (λs y h=>Zge hh (λs y h=>Zge hh (λs y h=>ZAi s y h) s y h) s y h) s y h) s y h
mutual
theorem ZwF {w':World} {E':Env} {n' ok ok':Nat->Prop}:∀ (s:SV) (y:Value),FLT s->R w E n ok s y->R w' E' n' ok' s y
 | .v x,y,_,h=>by simpa [R] using h
 | .agg l,y,f,h=>by simp only [R,FLT] at *;obtain ⟨cs,h1,h2⟩:=h;exact ⟨cs,h1,ZmZ l _ f h2⟩
 | .tup l,y,f,h=>by simp only [R,FLT] at *;obtain ⟨cs,h1,h2⟩:=h;exact ⟨cs,h1,ZmZ l _ f h2⟩
 | .any,y,_,h=>by simp only [R]
 | .p _ _,_,f,_=>f.elim
 | .sl _ _ _,_,f,_=>f.elim
 | .mr _ _,_,f,_=>f.elim
 | .pr _ _ _ _ _,_,f,_=>f.elim
 | .ms _ _ _ _ _,_,f,_=>f.elim
 | .ps _ _,_,f,_=>f.elim
 | .cl _ _,_,f,_=>f.elim
 | .q _,_,f,_=>f.elim
 | .mp _,_,f,_=>f.elim
 | .yl _,_,f,_=>f.elim
 | .ifc T s,y,f,h=>by simp only [R,FLT] at *;obtain ⟨x,h1,h2⟩:=h;exact ⟨x,h1,ZwF s x f h2⟩
 | .gd _ _ _,_,f,_=>f.elim
theorem ZmZ {w':World} {E':Env} {n' ok ok':Nat->Prop}:∀ (l:List SV) (ys:List Value),ZyX l->RL w E n ok l ys->RL w' E' n' ok' l ys
 | [],ys,_,h=>by simpa [RL] using h
 | s :: l,ys,f,h=>by
  simp only [RL,ZyX] at *;obtain ⟨y,r,h1,h2,h3⟩:=h;exact ⟨y,r,h1,ZwF s y f.1 h2,ZmZ l r f.2 h3⟩
end
theorem Zmm {o:Oper} {f:FuncId} {args:List SV} {vs:List Value} {res:SV} (hs:HSim C E hp n w) (hrun:(execOp a.eval o).run P w = .ok (.enter f vs.toArray) w)
 (hR:RL w E n (okS C E hp) args vs) (hf:FLT res) (hc:Ct P f (Zb9 (vw4 hp) args) res):Yld P o a w (ZO C E hp n w res):=by
 refine Zgm hrun ((hc.run w Tr vs (ZfI (Zu hs) λg l hg _=>⟨(Zu hs g l hg).1,trivial,rfl⟩) (Zb6 _ _ hc.ka (Ui (ZzL hs) _ _ hR))).mono λe w' ⟨y,he,hy,hb⟩=>⟨y,he,ZwF res y hf hy,hb⟩)
end
section
variable {fr:List (Nat × SV)} {w:World} {E:Env} {n:Nat->Prop} {ok:Nat->Prop}
theorem ZA4 {j:Nat} {b c:Bool} (h:GE fr j b) (hl:lk j fr = .v (.bool c)):c=b:=by
 cases h with
 | base h=>rw [hl] at h;simpa using h
 | step h _=>rw [hl] at h;cases h
theorem Zil {j j':Nat} {b b':Bool} {s:SV} (h:GE fr j b) (hl:lk j fr = .gd j' b' s):GE fr j' b'/\s = .v (.bool b):=by
 cases h with
 | base h=>rw [hl] at h;cases h
 | step h h'=>rw [hl] at h;cases h;exact ⟨h',rfl⟩
theorem Zzm {a b:Bool} (h:bbq a b=true):a=b:=by revert h;cases a<;>cases b<;>simp [bbq]
theorem Zrv {j0 j:Nat} {a b:Bool} (h:Zhj (Nat.beq j0 j) a b=true):j0=j/\a=b:=by
 cases hj:Nat.beq j0 j<;>rw [hj] at h
 . cases h
 . exact ⟨Nat.eq_of_beq_eq_true hj,Zzm h⟩
theorem Za1:∀ (f:Nat) {j0 j:Nat} {w0 w:Bool},alw f fr j0 w0 j w=true->GE fr j0 w0->GE fr j w
 | 0,_,_,_,_,h,_=>by simp [alw] at h
 | f+1,j0,j,w0,w,h,hg=>by
  simp only [alw] at h;cases hb:Zhj (Nat.beq j0 j) w0 w
  . rw [hb] at h;cases hl:lk j0 fr<;>rw [hl] at h<;>simp only [ZyW] at h<;>try (cases h;done)
    exact Za1 f h (Zil hg hl).1
  . obtain ⟨rfl,rfl⟩:=Zrv hb;exact hg
theorem Zt6 {s:SV} {y:Value} (h:FR w E n ok fr s y) (hs:∀ j b t,s≠.gd j b t):R w E n ok s y:=by
 cases s<;>first | exact h | exact absurd rfl (hs _ _ _)
theorem Wh {g:Option (Nat × Bool)} {s:SV} {y:Value} (h:FR w E n ok fr s y) (hg:geP g fr):R w E n ok (Xh g fr s) y:=by
 cases s<;>try exact h
 rename_i j b s;cases g with
 | none=>simp only [Xh,R]
 | some p =>
  obtain ⟨j0,w0⟩:=p;simp only [Xh];cases ha:alw 8 fr j0 w0 j b
  . simp only [Zfe,R]
  . simp only [Zfe];exact h.1 (Za1 8 ha hg)
theorem ZzP (hG:GS w ok) (i:Nat):FR w E n ok fr (gtS (GT i)) (.pointer (some ⟨i,0,none⟩)):=by
 have:=gt_ok (E:=E) (n:=n) hG i
 revert this
 cases GT i<;>exact id
theorem Yw {a:Act} {g:Option (Nat × Bool)} (hG:GS w ok) (h:∀ t,FR w E n ok fr (lk t fr) (a.tmps.getD t undef)) (hg:geP g fr) (x:X):R w E n ok (rdG g fr x) (evX a x):=by
 cases x with
 | t t=>exact Wh (h t) hg
 | c x=>exact Wh (fr:=fr) (s:=.v x) (show R w E n ok (.v x) x by simp [R]) hg
 | f i=>exact Wh (fr:=fr) (s:=.cl i []) (show R w E n ok (.cl i []) _ by simp [R,RL,evX]) hg
 | g i=>exact Wh (ZzP hG i) hg
end
section
variable {P:Program} {C:Cx} {E:Env} {hp:List (Nat × HB)} {n:Nat->Prop} {w:World} {a:Act}
theorem ZS {s:SV} {y:Value} (h:R w E n (okS C E hp) s y):ZO C E hp n w s y w:=⟨h,Below.refl _ _⟩
theorem ZgQ {ρ : X->SV} {ok:Nat->Prop} {m:Nat}:∀ {ps:List X} {rows:List (List SV)},(∀ x ∈ ps,R w E n ok (ρ x) (evX a x))->ZiB ρ m ps=some rows ->
 rows.length=ps.length/\∀ i (h:i < ps.length),∃ row,rows[i]? = some row/\row.length=m/\RL w E n ok row (evX a ps[i]).cells.toList
 | [],rows,_,h=>by simp [ZiB] at h;subst h;exact ⟨rfl,λi h=>by simp at h⟩
 | x :: r,rows,hρ,h=>by
  simp only [ZiB] at h;cases hl:Ys (ρ x) with
  | none=>rw [hl] at h;simp [Zyy] at h
  | some l =>
   cases hls:ZiB ρ m r with
   | none=>rw [hls] at h;simp [Zyy] at h
   | some ls =>
    rw [hl,hls] at h;simp only [Zyy] at h;cases hk:chk l m
    . simp [hk] at h
    . simp only [hk,cond_true,Option.some.injEq] at h;subst h;obtain ⟨h1,h2⟩:=ZgQ (ps:=r) (λy hy=>hρ y (by simp [hy])) hls;refine ⟨by simp [h1],λi hi=>?_⟩;cases i with
      | zero=>exact ⟨l,by simp,Ut hk,by simpa using UV (hρ x (by simp)) hl⟩
      | succ i=>simpa using h2 i (by simpa using hi)
end
theorem VJ (l:List Value) (o:Nat) (m:List Value) (h:o+m.length<=l.length):ZJ l o m=l.take o ++ (m ++ l.drop (o+m.length)):=by
 apply List.ext_getElem?;intro j;rw [Yg l o m j h];by_cases h1:j < o
 . rw [if_neg (by omega),List.getElem?_append_left (by simp;omega),List.getElem?_take_of_lt h1]
 . rw [List.getElem?_append_right (by simp;omega)];simp only [List.length_take,show min o l.length=o from by omega];by_cases h2:j < o+m.length
   . rw [if_pos (by omega),List.getElem?_append_left (by omega)]
   . rw [if_neg (by omega),List.getElem?_append_right (by omega),List.getElem?_drop];congr 1;omega
def Zbk (m:Nat):Nat->List Value->List (Nat × Value)
 | _,[]=>[]
 | i,v :: vs=>(i * m,v) :: Zbk m (i+1) vs
theorem ZcI (m:Nat):∀ (vs:List Value) (i:Nat) (z:List Value),z.length=(i+vs.length) * m->(∀ v ∈ vs,v.cells.size=m) ->
 Zcg z (Zbk m i vs)=z.take (i * m) ++ vs.flatMap (·.cells.toList)
 | [],i,z,hz,_=>by
  simp only [List.length_nil,Nat.add_zero] at hz;simp [Zbk,Zcg,<- hz]
 | v :: vs,i,z,hz,hv=>by
  have hm:v.cells.size=m:=hv v (by simp);simp only [List.length_cons] at hz;have hle:i * m+v.cells.toList.length<=z.length:=by
   rw [hz,Array.length_toList,hm];rw [show i+(vs.length+1)=(i+1)+vs.length from by omega,Nat.add_mul,Nat.add_mul];omega
  simp only [Zbk,Zcg];rw [ZcI m vs (i+1) _ (by rw [ZP,hz];congr 1;omega) (λu hu=>hv u (by simp [hu]))];rw [VJ _ _ _ hle];have hlen:(z.take (i * m)).length=i * m:=by simp;omega
  rw [<- List.append_assoc,List.take_left' (by rw [List.length_append,hlen,Array.length_toList,hm,Nat.add_mul];omega)];simp
theorem Zgi {w:World} {E:Env} {n:Nat->Prop} {ok:Nat->Prop} {b m:Nat} (cs:List Value) (hok:ok b) (hc:∀ j c,cs[j]? = some c->w.cell? ⟨b,j,none⟩=some c) :
 ∀ (rows:List (List SV)) (vs:List Value) (off:Nat),rows.length=vs.length->(∀ i (_:i < vs.length),∃ row,rows[i]? = some row/\row.length=m/\RL w E n ok row (vs[i]).cells.toList) ->
  (∀ j,(vs.flatMap (·.cells.toList))[j]? = cs[off+j]?)->RR w E n ok b m rows off
 | [],[],off,_,_,_=>by simp [RR]
 | row :: rows,v :: vs,off,hl,h,hcs=>by
  simp only [RR];obtain ⟨row',h1,h2,h3⟩:=h 0 (by simp);simp at h1;subst h1;simp only [List.getElem_cons_zero] at h3;have hlen:=ZC h3;refine ⟨h2,⟨_,h3,λ_=>hok,λj c hj=>hc _ _ ?_⟩,?_⟩
  . rw [<- hcs j];simp only [List.flatMap_cons];rw [List.getElem?_append_left (List.getElem?_eq_some_iff.1 hj).1];exact hj
  . refine Zgi cs hok hc rows vs (off+m) (by simpa using hl) (λi hi=>by
    have q:=h (i+1) (by simpa using hi)
    simp only [List.getElem?_cons_succ,List.getElem_cons_succ] at q;exact q) (λj=>?_)
    have:=hcs (m+j);simp only [List.flatMap_cons] at this;rw [List.getElem?_append_right (by rw [hlen,h2];omega),hlen,h2,show m+j - m=j from by omega] at this;rw [this];congr 1;omega
 | [],_ :: _,_,h,_,_=>by simp at h
 | _ :: _,[],_,h,_,_=>by simp at h
section
variable {P:Program} {C:Cx} {E:Env} {hp:List (Nat × HB)} {n:Nat->Prop} {w:World} {a:Act}
theorem UA (m:Nat):∀ (vs:List Value) (i j:Nat),(Zbk m i vs)[j]? = (vs[j]?).map λv=>((i+j) * m,v)
 | [],i,j=>by simp [Zbk]
 | v :: vs,i,0=>by simp [Zbk]
 | v :: vs,i,j+1=>by simp only [Zbk,List.getElem?_cons_succ,UA m vs (i+1) j];congr 1;funext v;congr 2;omega
theorem Vz (m:Nat):∀ (vs:List Value) (i:Nat),(Zbk m i vs).length=vs.length
 | [],i=>rfl
 | v :: vs,i=>by simp [Zbk,Vz m vs (i+1)]
theorem Zv3 {t T m len:Nat} {parts:Array (Nat × Operand)} {ps:List X} {s:SV} {ρ : X->SV} (hs:HSim C E hp n w) (hρ : ∀ x ∈ ps,R w E n (okS C E hp) (ρ x) (evX a x))
 (hu:P.underlying t=some (.slice T)) (hm:XT P T=some m) (hl:len * m<=2 ^ 24) (hpl:ps.length=len) (hm0:m≠0) (hz:∃ z,Y1 P T=some z/\z.cells.size=m)
 (hx:Vl ps (parts.toList.map (·.2))=true) (hi:parts.toList.map (·.1)=List.range len) (hv:ZyV m (ZiB ρ m ps)=some s) :
 ∃ y w',(Instr.buildSlice t len (parts.map λ(i,x)=>(i,a.eval x))).run P w = .ok y w'/\ZO C E hp n w s y w':=by
 obtain ⟨z,hz1,hz2⟩:=hz;cases hrows:ZiB ρ m ps with
 | none=>rw [hrows] at hv;cases hv
 | some rows =>
  rw [hrows] at hv;simp only [ZyV,Option.some.injEq] at hv;subst hv;obtain ⟨hr1,hr2⟩:=ZgQ (a:=a) hρ hrows
  let vs:=ps.map (evX a)
  have hvs:∀ v ∈ vs,v.cells.size=m:=by
   intro v hv;obtain ⟨i,hi',rfl⟩:=List.getElem_of_mem hv;simp only [vs,List.length_map] at hi';obtain ⟨row,k1,k2,k3⟩:=hr2 i hi';have:=ZC k3;simp only [vs,List.getElem_map];rw [<- Array.length_toList,this,k2]
  have hparts:(parts.map λ(i,x)=>(i,a.eval x)).toList=(List.range len).zip vs:=by
   rw [<- hi];have h2:=YG hx a;apply List.ext_getElem?;intro j;simp only [vs,<- h2,Array.toList_map,List.zip,List.getElem?_zipWith,List.getElem?_map];cases parts.toList[j]?<;>simp
  let Z:=(Array.range (len * m)).map (λi=>z.cells[i % z.cells.size]!)
  have hZ:Z.toList.length=(0+vs.length) * m:=by simp [Z,vs,hpl]
  have hf:=ZfP (λi=>some (i * m,m)) ((List.range len).zip vs) (Zbk m 0 vs) Z (by simp [Vz,vs,hpl]) (λi h h'=>by
   have hlt:i < vs.length:=by rw [Vz] at h';exact h'
   refine ⟨m,?_,?_,?_,?_⟩
   . have:=UA m vs 0 i;rw [List.getElem?_eq_getElem hlt,List.getElem?_eq_getElem h'] at this;simp at this;simp [this]
   . have:=UA m vs 0 i;rw [List.getElem?_eq_getElem hlt,List.getElem?_eq_getElem h'] at this;simp at this;simp [this]
   . simp;exact hvs _ (List.getElem_mem _)
   . have:=UA m vs 0 i;rw [List.getElem?_eq_getElem hlt,List.getElem?_eq_getElem h'] at this;simp at this;rw [this];simp only [Z,Array.size_map,Array.size_range];have:i+1<=len:=by simp [vs,hpl] at hlt;omega
     calc i * m+m=(i+1) * m:=by rw [Nat.add_mul];omega
      _<=len * m:=Nat.mul_le_mul_right m this)
  rw [ZcI m vs 0 _ hZ hvs] at hf;simp only [Nat.zero_mul,List.take_zero,List.nil_append] at hf
  let cs:=vs.flatMap (·.cells.toList)
  refine ⟨.slice (some ⟨w.heap.size,0,none⟩) len len,w.alloc (.cells cs.toArray T),?_,?_,?_⟩
  . have hlm:¬ len * m > 2 ^ 24:=by omega
    simp only [Instr.buildSlice,Sem.run_bind,run_underlying hu,Result.andThen_ok,Z4 hm,if_neg hlm];by_cases h0:len * m=0
    . have hlen0:len=0:=by rcases Nat.mul_eq_zero.1 h0 with h | h<;>first | exact h | exact absurd h hm0
      have hps:ps=[]:=by cases ps<;>simp_all
      subst hps;subst hlen0;have hpn:parts = #[]:=by
       apply Array.toList_inj.1;cases hq:parts.toList<;>simp_all
      subst hpn;have e0:(Array.map (λ_=>(default:Value)) (Array.range 0)) = #[]:=by apply Array.toList_inj.1;simp
      simp [Instr.fill,newRow,cs,vs,e0]
    . simp only [if_neg h0,Sem.run_bind,VL hz1,Result.andThen_ok,Sem.run_pure];rw [show ((Array.range (len * m)).map λi=>z.cells[i % z.cells.size]!)=Z from rfl,hparts,hf];simp [newRow];rfl
  . simp only [R];have hle:len<=len * m:=Nat.le_mul_of_pos_right _ (by omega);refine ⟨_,_,_,rfl,by rw [hr1,hpl],⟨Nat.le_refl _,λ_=>rfl⟩,by omega,.inr ⟨_,_,rfl,?_⟩⟩;have hnew:(w.alloc (.cells cs.toArray T)).heap[w.heap.size]? = some (.cells cs.toArray T (0,0)):=heap_alloc_new _ _;have hst:ZG w (w.alloc (.cells cs.toArray T)) (okS C E hp) (okS C E hp):=Z5 ((Below.refl _ _).alloc (Nat.le_refl _) _)
    refine Zgi cs (WG hs (Nat.le_refl _)) (λj c hj=>by rw [cell_of_row _ _ _ _ _ _ hnew];simpa using hj) rows vs 0 (by simp [vs,hr1]) (λi hi'=>?_) (λj=>by simp [cs]);simp only [vs,List.length_map] at hi';obtain ⟨row,k1,k2,k3⟩:=hr2 i hi';exact ⟨row,k1,k2,by simp only [vs,List.getElem_map];exact ZE hst (λ_ _=>Ele.rfl) (λ_ h=>h) _ _ k3⟩
  . exact (Below.refl _ _).alloc (Nat.le_refl _) _
end
end Go.Sx
