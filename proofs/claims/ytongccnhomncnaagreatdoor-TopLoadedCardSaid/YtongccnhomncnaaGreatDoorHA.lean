/- Walks and plain laws that lead to the given statement, part 1 of 20. -/
import Derived.WalkKit
import Derived.WalkSpells
import Derived.WalkLawsBesides
import Derived.ChangeKeysEq
import Derived.IntWalk
import Derived.LoopN
import Derived.Laws.MakeOwn
import Derived.Laws.Append
import Derived.OrdersIn
import Derived.DefersIn
import Derived.RecoverIn
set_option linter.all false
attribute [go_sem] Nat.reduceAdd Nat.reduceMul Nat.reduceSub
open Nat renaming beq_refl->nbr
namespace Go.Sx
open Go Go.RowKit
structure Env where
 β : Nat->Nat
 hv:Nat->Nat->Value
 iss:Nat->Nat
def Ele (E E':Env) (k j:Nat):Prop:=E'.β j=E.β k/\E.iss k<=E'.iss j/\∀ v,v < E.iss k->E'.hv j v=E.hv k v
theorem Ele.rfl {E:Env} {k:Nat}:Ele E E k k:=⟨Eq.refl _,Nat.le_refl _,λ_ _=>Eq.refl _⟩
theorem Ele.trans {E E' E'':Env} {k j i:Nat} (h:Ele E E' k j) (h':Ele E' E'' j i):Ele E E'' k i :=
 ⟨h'.1.trans h.1,Nat.le_trans h.2.1 h'.2.1,λv hv=>(h'.2.2 v (Nat.lt_of_lt_of_le hv h.2.1)).trans (h.2.2 v hv)⟩
def ZM (w w':World) (ok ok':Nat->Prop):Prop :=
 ∀ b,ok b->(w.heap[b]?).isSome->ok' b/\w'.heap[b]? = w.heap[b]?
def Xh (w w':World) (ok ok':Nat->Prop):Prop :=
 ∀ b,ok b->((∃ cs T fz,w.heap[b]? = some (.cells cs T fz))\/∃ es c,w.heap[b]? = some (.map es c))->ok' b/\w'.heap[b]? = w.heap[b]?
theorem ZM.c {w w':World} {ok ok':Nat->Prop} (h:ZM w w' ok ok'):Xh w w' ok ok':=λb hb q=>h b hb (by rcases q with ⟨cs,T,fz,e⟩ | ⟨es,c,e⟩<;>(rw [e];rfl))
instance {w w':World} {ok ok':Nat->Prop}:Coe (ZM w w' ok ok') (Xh w w' ok ok'):=⟨ZM.c⟩
structure VP where
 f:World->(Nat->Prop)->Value->Prop
 one:∀ w ok y,f w ok y->y.oneCell'=true
 mono:∀ w w' ok ok' y,Xh w w' ok ok'->f w ok y->f w' ok' y
structure OP where
 f:World->(Nat->Prop)->Obj->Prop
 mono:∀ w w' ok ok' y,Xh w w' ok ok'->f w ok y->f w' ok' y
structure WP where
 blk:Nat->Prop
 f:World->(Nat->Prop)->Prop
 mono:∀ w w' ok ok',Xh w w' ok ok'->(∀ b,blk b->w'.heap[b]? = w.heap[b]?)->f w ok->f w' ok'
 dom:∀ w ok b,f w ok->blk b->b < w.heap.size
inductive SV where
 | v (x:Value)
 | p (k o:Nat)
 | agg (l:List SV)
 | sl (c:Bool) (m:Nat) (xs:List (List SV))
 | mr (k v:Nat)
 | pr (k v m i o:Nat)
 | ms (k v m i l:Nat)
 | ps (row:List SV) (o:Nat)
 | cl (f:FuncId) (caps:List SV)
 | tup (l:List SV)
 | mp (k:Nat)
 | yl (k:Nat)
 | ifc (T:TypeId) (s:SV)
 | q (φ : VP)
 | gd (j:Nat) (w:Bool) (s:SV)
 | any
def Uv (w:World) (ok:Nat->Prop) (b off:Nat) (cs:List Value):Prop :=
 (cs≠[]->ok b)/\∀ j c,cs[j]? = some c->w.cell? ⟨b,off+j,none⟩=some c
mutual
def R (w:World) (E:Env) (n:Nat->Prop) (ok:Nat->Prop):SV->Value->Prop
 | .v x,y=>y=x
 | .p k o,y=>n k/\y = .pointer (some ⟨E.β k,o,none⟩)
 | .agg l,y=>∃ cs:Array Value,y = .agg cs/\RL w E n ok l cs.toList
 | .sl c m xs,y=>∃ a len cap,y = .slice a len cap/\len=xs.length/\(len<=cap/\(c=true->cap=len))/\xs.length<=9223372036854775807/\(xs=[]\/∃ b off,a=some ⟨b,off,none⟩/\RR w E n ok b m xs off)
 | .mr k v,y=>n k/\v < E.iss k/\y=E.hv k v/\y.oneCell'=true
 | .pr k v m i o,y=>n k/\v < E.iss k/\∃ b len cap,E.hv k v = .slice (some ⟨b,0,none⟩) len cap/\y = .pointer (some ⟨b,i * m+o,none⟩)
 | .ms k v m i l,y=>n k/\v < E.iss k/\∃ a len cap,E.hv k v = .slice a len cap/\i+l<=cap/\y = .slice (if cap - i=0 then a else a.map (·.add (i * m))) l (cap - i)
 | .ps row o,y=>∃ b off,y = .pointer (some ⟨b,off+o,none⟩)/\∃ cs,RL w E n ok row cs/\Uv w ok b off cs
 | .cl f caps,y=>∃ cs:Array Value,y = .func (.func f) #[] cs/\RL w E n ok caps cs.toList
 | .tup l,y=>∃ cs:Array Value,y = .tuple cs/\RL w E n ok l cs.toList
 | .mp k,y=>n k/\y = .map (some (E.β k))
 | .yl k,y=>n k/\y = .func (.yield (E.β k)) #[] #[]
 | .ifc T s,y=>∃ x,y = .iface T x/\R w E n ok s x
 | .q φ,y=>φ.f w ok y
 | .gd _ _ _,_=>False
 | .any,_=>True
def RL (w:World) (E:Env) (n:Nat->Prop) (ok:Nat->Prop):List SV->List Value->Prop
 | [],ys=>ys=[]
 | s :: l,ys=>∃ y r,ys=y :: r/\R w E n ok s y/\RL w E n ok l r
def RR (w:World) (E:Env) (n:Nat->Prop) (ok:Nat->Prop) (b m:Nat):List (List SV)->Nat->Prop
 | [],_=>True
 | row :: rs,off=>row.length=m/\(∃ cs,RL w E n ok row cs/\Uv w ok b off cs)/\RR w E n ok b m rs (off+m)
end
theorem ZaD {w w':World} {ok ok':Nat->Prop} {b off:Nat} {cs:List Value} (hs:Xh w w' ok ok') (h:Uv w ok b off cs):Uv w' ok' b off cs:=by
 obtain ⟨h1,h2⟩:=h;cases cs with
 | nil=>exact ⟨λh=>absurd rfl h,λj c h=>by simp at h⟩
 | cons c0 cs =>
  have hb:ok b:=h1 (by simp);have h0:=h2 0 c0 (by simp);have hsome:∃ cs T fz,w.heap[b]? = some (.cells cs T fz):=by
   unfold World.cell? at h0;split at h0
   . rename_i c T fz h;exact ⟨c,T,fz,h⟩
   . cases h0
  obtain ⟨k1,k2⟩:=hs b hb (.inl hsome);refine ⟨λ_=>k1,λj c hj=>?_⟩;rw [World.cell?_of_block (w:=w) (by exact k2)];exact h2 j c hj
section
variable {w w':World} {E E':Env} {n n':Nat->Prop} {ok ok':Nat->Prop}
mutual
theorem ZV (hs:Xh w w' ok ok') (hE:∀ k,n k->Ele E E' k k) (hn:∀ k,n k->n' k):∀ (s:SV) (y:Value),R w E n ok s y->R w' E' n' ok' s y
 | .v x,y,h=>by simpa [R] using h
 | .p k o,y,h=>by
  simp only [R] at h ⊢;exact ⟨hn k h.1,by rw [(hE k h.1).1];exact h.2⟩
 | .agg l,y,h=>by
  simp only [R] at h ⊢;obtain ⟨cs,h1,h2⟩:=h;exact ⟨cs,h1,ZL hs hE hn l _ h2⟩
 | .sl c m xs,y,h=>by
  simp only [R] at h ⊢;obtain ⟨a,len,cap,h1,h2,h3,h4,h5⟩:=h;refine ⟨a,len,cap,h1,h2,h3,h4,?_⟩;rcases h5 with h5 | ⟨b,off,h5,h6⟩
  . exact .inl h5
  . exact .inr ⟨b,off,h5,ZmB hs hE hn b m xs _ h6⟩
 | .mr k v,y,h=>by simp only [R] at h ⊢;exact ⟨hn k h.1,Nat.lt_of_lt_of_le h.2.1 (hE k h.1).2.1,by rw [(hE k h.1).2.2 v h.2.1];exact h.2.2⟩
 | .pr k v m i o,y,h=>by simp only [R] at h ⊢;exact ⟨hn k h.1,Nat.lt_of_lt_of_le h.2.1 (hE k h.1).2.1,by rw [(hE k h.1).2.2 v h.2.1];exact h.2.2⟩
 | .ms k v m i o,y,h=>by simp only [R] at h ⊢;exact ⟨hn k h.1,Nat.lt_of_lt_of_le h.2.1 (hE k h.1).2.1,by rw [(hE k h.1).2.2 v h.2.1];exact h.2.2⟩
 | .ps row o,y,h=>by
  simp only [R] at h ⊢;obtain ⟨b,off,h1,cs,h2,h3⟩:=h;exact ⟨b,off,h1,cs,ZL hs hE hn row _ h2,ZaD hs h3⟩
 | .cl f caps,y,h=>by simp only [R] at h ⊢;obtain ⟨cs,h1,h2⟩:=h;exact ⟨cs,h1,ZL hs hE hn caps _ h2⟩
 | .tup l,y,h=>by simp only [R] at h ⊢;obtain ⟨cs,h1,h2⟩:=h;exact ⟨cs,h1,ZL hs hE hn l _ h2⟩
 | .mp k,y,h=>by simp only [R] at h ⊢;exact ⟨hn k h.1,by rw [(hE k h.1).1];exact h.2⟩
 | .yl k,y,h=>by simp only [R] at h ⊢;exact ⟨hn k h.1,by rw [(hE k h.1).1];exact h.2⟩
 | .ifc T s,y,h=>by simp only [R] at h ⊢;obtain ⟨x,h1,h2⟩:=h;exact ⟨x,h1,ZV hs hE hn s x h2⟩
 | .q φ,y,h=>by simp only [R] at h ⊢;exact φ.mono _ _ _ _ _ hs h
 | .gd _ _ _,y,h=>by simp only [R] at h
 | .any,y,h=>by simp only [R]
theorem ZL (hs:Xh w w' ok ok') (hE:∀ k,n k->Ele E E' k k) (hn:∀ k,n k->n' k):∀ (l:List SV) (ys:List Value),RL w E n ok l ys->RL w' E' n' ok' l ys
 | [],ys,h=>by simpa [RL] using h
 | s :: l,ys,h=>by
  simp only [RL] at h ⊢;obtain ⟨y,r,h1,h2,h3⟩:=h;exact ⟨y,r,h1,ZV hs hE hn s y h2,ZL hs hE hn l r h3⟩
theorem ZmB (hs:Xh w w' ok ok') (hE:∀ k,n k->Ele E E' k k) (hn:∀ k,n k->n' k) (b m:Nat):∀ (xs:List (List SV)) (off:Nat),RR w E n ok b m xs off->RR w' E' n' ok' b m xs off
 | [],off,h=>by simp only [RR]
 | row :: rs,off,h=>by
  simp only [RR] at h ⊢;obtain ⟨h0,⟨cs,h1,h2⟩,h3⟩:=h;exact ⟨h0,⟨cs,ZL hs hE hn row cs h1,ZaD hs h2⟩,ZmB hs hE hn b m rs _ h3⟩
end
end
section
variable {w w':World} {E E':Env} {n n':Nat->Prop} {ok ok':Nat->Prop}
theorem ZO:∀ {l:List SV} {ys:List Value},RL w E n ok l ys->ys.length=l.length
 | [],ys,h=>by simp only [RL] at h;simp [h]
 | s :: l,ys,h=>by
  simp only [RL] at h;obtain ⟨y,r,rfl,_,h3⟩:=h;simp [ZO h3]
theorem Vz:∀ {l:List SV} {ys:List Value} {i:Nat} {s:SV},RL w E n ok l ys->l[i]? = some s->∃ y,ys[i]? = some y/\R w E n ok s y
 | [],ys,i,s,h,hi=>by simp at hi
 | s :: l,ys,0,s',h,hi=>by
  simp only [RL] at h;obtain ⟨y,r,rfl,h2,_⟩:=h;simp at hi;subst hi;exact ⟨y,by simp,h2⟩
 | s :: l,ys,i+1,s',h,hi=>by
  simp only [RL] at h;obtain ⟨y,r,rfl,_,h3⟩:=h;simp at hi;simpa using Vz h3 hi
theorem Yj:∀ {l m:List SV} {ys zs:List Value},RL w E n ok l ys->RL w E n ok m zs->RL w E n ok (l ++ m) (ys ++ zs)
 | [],m,ys,zs,h,h'=>by simp only [RL] at h;subst h;simpa using h'
 | s :: l,m,ys,zs,h,h'=>by
  simp only [RL] at h;obtain ⟨y,r,rfl,h2,h3⟩:=h;simp only [List.cons_append,RL];exact ⟨y,r ++ zs,rfl,h2,Yj h3 h'⟩
theorem Vb:∀ {l:List SV} {ys:List Value} (o:Nat),RL w E n ok l ys->RL w E n ok (l.drop o) (ys.drop o)
 | l,ys,0,h=>by simpa using h
 | [],ys,o+1,h=>by simp only [RL] at h;subst h;simp [RL]
 | s :: l,ys,o+1,h=>by
  simp only [RL] at h;obtain ⟨y,r,rfl,_,h3⟩:=h;simpa using Vb o h3
theorem X8:∀ {l:List SV} {ys:List Value} (o:Nat),RL w E n ok l ys->RL w E n ok (l.take o) (ys.take o)
 | l,ys,0,h=>by simp [RL]
 | [],ys,o+1,h=>by simp only [RL] at h;subst h;simp [RL]
 | s :: l,ys,o+1,h=>by
  simp only [RL] at h;obtain ⟨y,r,rfl,h2,h3⟩:=h;simp only [List.take_succ_cons,RL];exact ⟨y,_,rfl,h2,X8 o h3⟩
theorem ZDj (l:List Value):RL w E n ok (l.map .v) l:=by
 induction l with
 | nil=>simp [RL]
 | cons x l ih=>simp only [List.map_cons,RL];exact ⟨x,l,rfl,by simp [R],ih⟩
end
def ZJ:List SV->Nat->List SV->List SV
 | l,0,[]=>l
 | _ :: l,0,c :: cs=>c :: ZJ l 0 cs
 | x :: l,o+1,cs=>x :: ZJ l o cs
 | [],_,_=>[]
def ZP:List Value->Nat->List Value->List Value
 | l,0,[]=>l
 | _ :: l,0,c :: cs=>c :: ZP l 0 cs
 | x :: l,o+1,cs=>x :: ZP l o cs
 | [],_,_=>[]
theorem X6 {w:World} {E:Env} {n:Nat->Prop} {ok:Nat->Prop}:∀ {l:List SV} {ys:List Value} (o:Nat) {m:List SV} {zs:List Value},RL w E n ok l ys->RL w E n ok m zs ->
 RL w E n ok (ZJ l o m) (ZP ys o zs)
 | [],ys,o,m,zs,h,h'=>by
  simp only [RL] at h;subst h;cases o with
  | zero=>cases m with
   | nil=>simp only [RL] at h';subst h';simp [ZJ,ZP,RL]
   | cons=>simp only [RL] at h';obtain ⟨y,r,rfl,_⟩:=h';simp [ZJ,ZP,RL]
  | succ=>simp [ZJ,ZP,RL]
 | s :: l,ys,0,[],zs,h,h'=>by simp only [RL] at h';subst h';simp only [RL] at h;obtain ⟨y,r,rfl,h2,h3⟩:=h;simp only [ZJ,ZP,RL];exact ⟨y,r,rfl,h2,h3⟩
 | s :: l,ys,0,t :: m,zs,h,h'=>by
  simp only [RL] at h h';obtain ⟨y,r,rfl,h2,h3⟩:=h;obtain ⟨z,q,rfl,k2,k3⟩:=h';simp only [ZJ,ZP,RL];exact ⟨z,_,rfl,k2,X6 0 h3 k3⟩
 | s :: l,ys,o+1,m,zs,h,h'=>by
  simp only [RL] at h;obtain ⟨y,r,rfl,h2,h3⟩:=h;simp only [ZJ,ZP,RL];exact ⟨y,_,rfl,h2,X6 o h3 h'⟩
theorem Z5:∀ (l:List Value) (o:Nat) (m:List Value),(ZP l o m).length=l.length
 | [],0,[]=>rfl
 | [],0,_ :: _=>rfl
 | [],_+1,_=>rfl
 | _ :: _,0,[]=>rfl
 | _ :: l,0,_ :: m=>by simp [ZP,Z5 l 0 m]
 | _ :: l,o+1,m=>by simp [ZP,Z5 l o m]
theorem Yp:∀ (l:List Value) (o:Nat) (m:List Value) (j:Nat),o+m.length<=l.length ->
 (ZP l o m)[j]? = if o<=j/\j < o+m.length then m[j - o]? else l[j]?
 | [],0,[],j,_=>by simp [ZP]
 | [],0,_ :: _,j,h=>by simp at h
 | [],_+1,_,j,h=>by simp at h
 | x :: l,0,[],j,_=>by simp [ZP]
 | x :: l,0,c :: m,0,h=>by simp [ZP]
 | x :: l,0,c :: m,j+1,h=>by
  have:=Yp l 0 m j (by simp at h;omega);simp only [ZP,List.getElem?_cons_succ,this];by_cases hj:j < m.length
  . rw [if_pos (by omega),if_pos (by simp;omega)];simp
  . rw [if_neg (by omega),if_neg (by simp;omega)]
 | x :: l,o+1,m,0,h=>by simp [ZP]
 | x :: l,o+1,m,j+1,h=>by
  have:=Yp l o m j (by simp at h;omega);simp only [ZP,List.getElem?_cons_succ,this];by_cases hj:o<=j/\j < o+m.length
  . rw [if_pos hj,if_pos (by omega),show j+1 - (o+1)=j - o from by omega]
  . rw [if_neg hj,if_neg (by omega)]
inductive Ex where
 | n | ex (id:Nat) | ret | pan (s:SV)
def Ex.code:Ex->Code
 | .n=>.skip
 | .ex i=>.exit i
 | .ret=>.ret
 | .pan _=>.skip
def lpS:Option Ex->LoopState
 | none=>.ready
 | some _=>.done
def lpP:Option Ex->Option Code
 | none=>none
 | some e=>some e.code
inductive HB where
 | cells (l:List SV) (T:TypeId)
 | row (v m:Nat) (xs:List (List SV)) (T:TypeId)
 | ob (φ : OP)
 | map (es:List (Nat × Value × SV)) (clk:Nat)
 | it (km since:Nat) (seen:List Nat) (last:Nat)
 | lp (rec:Loop) (pd:Option Ex)
 | lb (rec:Loop)
 | own (φ : WP)
 | gone
abbrev Ls:=List SV
abbrev Rr:=List (List SV)
abbrev Lf:=List (Nat × SV)
abbrev Lh:=List (Nat × HB)
abbrev LZ:=List Value
structure St where
 fr:Lf
 hp:Lh
 n:Nat
 N:Nat
 gs:List Nat
def lk (t:Nat):Lf->SV
 | []=>.any
 | (u,s) :: r=>bif Nat.beq t u then s else lk t r
def lkh (k:Nat):Lh->HB
 | []=>.gone
 | (u,s) :: r=>bif Nat.beq k u then s else lkh k r
theorem ZN (t u:Nat) (s:SV) (r:Lf):lk t ((u,s) :: r)=if t=u then s else lk t r:=by
 simp only [lk];by_cases h:t=u
 . subst h;simp [nbr]
 . have:Nat.beq t u=false:=Bool.eq_false_iff.2 (λe=>h (Nat.eq_of_beq_eq_true e));simp [this,h]
theorem Zu (t u:Nat) (s:HB) (r:Lh):lkh t ((u,s) :: r)=if t=u then s else lkh t r:=by
 simp only [lkh];by_cases h:t=u
 . subst h;simp [nbr]
 . have:Nat.beq t u=false:=Bool.eq_false_iff.2 (λe=>h (Nat.eq_of_beq_eq_true e));simp [this,h]
def GT:Nat->Option Ls
 | 0=>some [.v (.int .i64 0),.v (.int .i64 0)]
 | _=>none
def GS (w:World) (ok:Nat->Prop):Prop:=∀ g l,GT g=some l->g < w.heap.size/\ok g/\∃ cs:LZ,(∀ (w':World) E n ok',RL w' E n ok' l cs)/\Uv w ok g 0 cs
theorem Zgc {w w':World} {ok ok':Nat->Prop} (h:GS w ok) (hs:∀ g l,GT g=some l->ok g->g < w'.heap.size/\ok' g/\w'.heap[g]? = w.heap[g]?):GS w' ok':=λg l hg=>by
 obtain ⟨h1,h2,cs,h3,h4⟩:=h g l hg;obtain ⟨k1,k2,k3⟩:=hs g l hg h2;exact ⟨k1,k2,cs,h3,λ_=>k2,λj c hj=>by rw [World.cell?_of_block (w:=w) k3];exact h4.2 j c hj⟩
structure Cx where
 w0:World
 okp:Nat->Prop
 pass:Nat->Nat->Prop
 ds:List Deferred
 rd:Option Nat
 e0:Env
 m0:Nat
 gl:GS w0 okp/\∀ g l,GT g=some l->∀ k,¬ pass k g
inductive F2 {α : Type} (p:α->α->Prop):List α->List α->Prop
 | nil:F2 p [] []
 | cons {a b:α} {l l':List α} (h1:p a b) (h2:F2 p l l'):F2 p (a :: l) (b :: l')
def hdAt (y:Value) (b:Nat):Prop:=∃ len cap,y = .slice (some ⟨b,0,none⟩) len cap/\cap≠0
def RowB (w:World) (E:Env) (n:Nat->Prop) (ok:Nat->Prop) (y:Value) (m:Nat) (xs:Rr) (T:TypeId):Prop :=
 (xs=[]/\∃ a,y = .slice a 0 0)\/∃ b cap cs,y = .slice (some ⟨b,0,none⟩) xs.length cap/\w.heap[b]? = some (.cells cs T (0,0)) /\
  cs.size=cap * m/\(xs.length<=cap/\cap≠0)/\xs.length<=9223372036854775807/\(∀ r ∈ xs,r.length=m)/\RL w E n ok xs.flatten (cs.toList.take (xs.length * m))
def occ (E:Env) (k:Nat):HB->Nat->Prop
 | .cells _ _,b=>b=E.β k
 | .ob _,b=>b=E.β k
 | .map _ _,b=>b=E.β k
 | .it _ _ _ _,b=>b=E.β k
 | .lp _ _,b=>b=E.β k
 | .lb _,b=>b=E.β k
 | .row v _ _ _,b=>∃ len cap,E.hv k v = .slice (some ⟨b,0,none⟩) len cap/\cap≠0
 | .own φ,b=>φ.blk b
 | .gone,_=>False
def okS (C:Cx) (E:Env) (hp:Lh) (b:Nat):Prop :=
 (C.okp b\/C.w0.heap.size<=b)/\∀ k,¬ occ E k (lkh k hp) b
def RM (w:World) (E:Env) (n:Nat->Prop) (ok:Nat->Prop):List (Nat × Value × SV)->List MapEntry->Prop
 | [],ys=>ys=[]
 | e :: l,ys=>∃ y r,ys=⟨e.2.1,y,e.1⟩ :: r/\R w E n ok e.2.2 y/\RM w E n ok l r
def Yr (w:World) (E:Env) (n:Nat->Prop) (ok:Nat->Prop) (k:Nat):HB->Prop
 | .cells l T=>∃ cs,w.heap[E.β k]? = some (.cells cs T (0,0))/\RL w E n ok l cs.toList
 | .row v m xs T=>E.iss k=v+1/\((xs=[]/\∃ a,E.hv k v = .slice a 0 0)\/∃ b cap cs,E.hv k v = .slice (some ⟨b,0,none⟩) xs.length cap/\w.heap[b]? = some (.cells cs T (0,0)) /\
  cs.size=cap * m/\(xs.length<=cap/\cap≠0)/\xs.length<=9223372036854775807/\(∀ r ∈ xs,r.length=m)/\RL w E n ok xs.flatten (cs.toList.take (xs.length * m)))
 | .ob φ=>∃ o,w.heap[E.β k]? = some o/\φ.f w ok o
 | .map es c=>∃ ys,w.heap[E.β k]? = some (.map ys c)/\RM w E n ok es ys.toList
 | .it km since seen last=>n km/\w.heap[E.β k]? = some (.mapIter (some (E.β km)) since seen.toArray last)
 | .lp rec pd=>w.heap[E.β k]? = some (.loop { rec with state:=lpS pd,pending:=lpP pd })
 | .lb rec=>w.heap[E.β k]? = some (.loop { rec with state:=.busy,pending:=none })
 | .own φ=>φ.f w ok
 | .gone=>True
inductive GE (fr:Lf):Nat->Bool->Prop
 | base {j:Nat} {b:Bool} (h:lk j fr = .v (.bool b)):GE fr j b
 | step {j j':Nat} {b b':Bool} (h:lk j fr = .gd j' b' (.v (.bool b))) (h':GE fr j' b'):GE fr j b
abbrev ge:=GE
def FR (w:World) (E:Env) (n:Nat->Prop) (ok:Nat->Prop) (fr:Lf):SV->Value->Prop
 | .gd j b s,y=>(ge fr j b->R w E n ok s y)/\(¬ ge fr j b->y=undef)
 | s,y=>R w E n ok s y
structure Keeps (C:Cx) (w:World):Prop where
 os:w.os=C.w0.os
 tape:w.tape=C.w0.tape
 output:w.output=C.w0.output
 size:C.w0.heap.size<=w.heap.size
 block:∀ b,b < C.w0.heap.size->(∀ k,¬ C.pass k b)->w.heap[b]? = C.w0.heap[b]?
def ltn (n:Nat) (k:Nat):Prop:=k < n
structure HSim (C:Cx) (E:Env) (hp:Lh) (n:Nat->Prop) (w:World):Prop where
 kn:∀ k,¬ n k->lkh k hp = .gone
 bk:∀ k,Yr w E n (okS C E hp) k (lkh k hp)
 dj:∀ k k' b,occ E k (lkh k hp) b->occ E k' (lkh k' hp) b->k=k'
 lo:∀ k b,occ E k (lkh k hp) b->C.w0.heap.size<=b\/C.pass k b
 kp:Keeps C w
 pin:∀ k,k < C.m0->n k/\Ele C.e0 E k k
theorem Vn {C:Cx} {E:Env} {hp:Lh} {n:Nat->Prop} {w:World} (hh:HSim C E hp n w) {g:Nat} {l:Ls} (hg:GT g=some l) (k:Nat):¬ occ E k (lkh k hp) g:=λho=>by
 have h1:=(C.gl.1 g l hg).1;rcases hh.lo k g ho with h | h
 . omega
 . exact C.gl.2 g l hg k h
theorem Zy {C:Cx} {E:Env} {hp:Lh} {n:Nat->Prop} {w:World} (hh:HSim C E hp n w):GS w (okS C E hp) :=
 Zgc C.gl.1 λg l hg hok=>by
  have h1:=(C.gl.1 g l hg).1;exact ⟨Nat.lt_of_lt_of_le h1 hh.kp.size,⟨.inl hok,Vn hh hg⟩,hh.kp.block g h1 (C.gl.2 g l hg)⟩
def ZdY (m:Nat):Deferred:={ target:=.collected m,args:=#[] }
def DF (C:Cx) (E:Env) (hp:Lh) (w:World) (ds:List Deferred):Prop :=
 ∃ ms:List Nat,ds=ms.map ZdY ++ C.ds/\(ms.Nodup/\(C.rd.isSome=true->ms=[]))/\∀ m ∈ ms,C.w0.heap.size<=m/\okS C E hp m/\w.heap[m]? = some (.deferred (some []))
theorem X5 {C:Cx} {E E':Env} {hp hp':Lh} {w w':World} {ds:List Deferred} (hs:ZM w w' (okS C E hp) (okS C E' hp')) (h:DF C E hp w ds):DF C E' hp' w' ds:=by
 obtain ⟨ms,h1,h2,h3⟩:=h;refine ⟨ms,h1,h2,λm hm=>?_⟩;obtain ⟨q1,q2,q3⟩:=h3 m hm;obtain ⟨k1,k2⟩:=hs m q2 (by rw [q3];rfl);exact ⟨q1,k1,by rw [k2];exact q3⟩
theorem ZaC {C:Cx} {E:Env} {hp:Lh} {w:World}:DF C E hp w C.ds:=⟨[],rfl,⟨.nil,λ_=>rfl⟩,λm hm=>by simp at hm⟩
def MC (C:Cx) (m:Nat):Prop:=C.m0<=m/\∀ k b,C.pass k b->k < C.m0
structure Sim (C:Cx) (E:Env) (σ : St) (a:Act) (w:World):Prop where
 fr:∀ t,FR w E (ltn σ.n) (okS C E σ.hp) σ.fr (lk t σ.fr) (a.tmps.getD t undef)
 sz:a.tmps.size = σ.N
 df:DF C E σ.hp w a.defers
 gs:∀ t j b s,lk t σ.fr = .gd j b s->j ∈ σ.gs
 hs:HSim C E σ.hp (ltn σ.n) w
inductive X where
 | t (n:Nat) | c (x:Value) | f (i:Nat) | g (i:Nat)
inductive SI where
 | mv (x:X)
 | pick (c a b:X)
 | box (x:X) (m:Nat) (T:TypeId)
 | alloc (z:LZ) (T:TypeId)
 | build (z:LZ) (ps:List (Nat × Nat × X))
 | bsl (m:Nat) (T:TypeId) (ps:List X)
 | ld (x:X) (m:Nat) (ag:Bool)
 | st (x y:X) (m:Nat)
 | nilc (x:X)
 | bin (b:BinOp) (x y:X)
 | div (b:BinOp) (x y:X)
 | eqs (ng ag:Bool) (cls:List Nat) (x y:X)
 | un (u:UnOp) (x:X)
 | addo (x:X) (o:Nat)
 | fld (x:X) (o m:Nat) (ag:Bool)
 | idx (x i:X) (len m:Nat) (ag:Bool)
 | ixa (x i:X) (len m:Nat)
 | ixs (x i:X) (m:Nat)
 | len (x:X)
 | mm (mx:Bool) (xs:List X)
 | call (f:FuncId) (as:List X)
 | calv (x:X) (as:List X)
 | callm (f:FuncId) (as:List X)
 | calvm (x:X) (as:List X)
 | mkf (f:FuncId) (cs:List X)
 | conv (k:IntKind) (x:X)
 | ext (x:X) (i:Nat)
 | app (m b:Nat) (T:TypeId) (x y:X)
 | cln (m b:Nat) (T:TypeId) (x y:X)
 | appm (m b:Nat) (T:TypeId) (x y:X)
 | cpy (m:Nat) (x y:X)
 | mks (m b:Nat) (z:LZ) (T:TypeId) (x:X)
 | isn (x:X)
 | slc (x h k:X)
 | sub (m:Nat) (x:X) (lo hi:Option X)
 | raw (op:Op) (ty:TypeId)
 | rv (op:Op) (xs:List X)
 | rb (op:Op) (x:X) (xs:List X)
def evX (a:Act):X->Value
 | .t n=>a.tmps.getD n undef
 | .c x=>x
 | .f i=>.func (.func i) #[] #[]
 | .g i=>.pointer (some ⟨i,0,none⟩)
def eqV:Value->Value->Bool
 | .bool a,.bool b=>a == b
 | .int k a,.int j b=>decide (k=j) && decide (a=b)
 | .pointer none,.pointer none=>true
 | .slice none a b,.slice none c d=>a == c && b == d
 | .map none,.map none=>true
 | .nilFunc,.nilFunc=>true
 | .nilIface,.nilIface=>true
 | .string a,.string b=>decide (a=b)
 | _,_=>false
theorem Zbx:∀ {x y:Value},eqV x y=true->x=y:=by
 intro x y h;unfold eqV at h;split at h<;>simp_all
def Xb:X->Operand->Bool
 | .t n,.tmp m=>n == m
 | .c x,.const y=>eqV x y
 | .f i,.func j=>i == j
 | .g i,.global j=>i == j
 | _,_=>false
theorem Zh {x:X} {o:Operand} (h:Xb x o=true) (a:Act):a.eval o=evX a x:=by
 unfold Xb at h;split at h
 . simp at h;subst h;rfl
 . rw [Zbx h];rfl
 . simp at h;subst h;rfl
 . simp at h;subst h;rfl
 . cases h
def Vr:List X->List Operand->Bool
 | [],[]=>true
 | x :: xs,o :: os=>Xb x o && Vr xs os
 | _,_=>false
theorem YS:∀ {xs:List X} {os:List Operand},Vr xs os=true->∀ a:Act,os.map a.eval=xs.map (evX a)
 | [],[],_,_=>rfl
 | x :: xs,o :: os,h,a=>by
  simp only [Vr,Bool.and_eq_true] at h;simp [Zh h.1 a,YS h.2 a]
 | [],_ :: _,h,_=>by simp [Vr] at h
 | _ :: _,[],h,_=>by simp [Vr] at h
section
variable {P:Program} {w:World}
def XT (P:Program) (t:TypeId):Option Nat:=(P.info? t).map (·.size)
def ZcO (P:Program) (t:TypeId):Option Bool:=(P.underlying t).map λ| .struct _ | .array _ _=>true | _=>false
def YN (P:Program) (t:TypeId):Option Value:=(P.info? t).bind (·.zero)
theorem Yb {t:TypeId} {m:Nat} (h:XT P t=some m):(sizeOf t).run P w = .ok m w:=by
 unfold XT at h;cases hq:P.info? t with
 | none=>simp [hq] at h
 | some i=>simp [hq] at h;subst h;simp [sizeOf,typeInfo,hq]
theorem UU {t:TypeId} {b:Bool} (h:ZcO P t=some b):(isAgg t).run P w = .ok b w:=by
 unfold ZcO at h;cases hq:P.underlying t with
 | none=>simp [hq] at h
 | some d =>
  simp [hq] at h;subst h;unfold isAgg;rw [Sem.run_bind,run_underlying hq w];cases d<;>simp
theorem WN {t:TypeId} {v:Value} (h:YN P t=some v):(zeroValue t).run P w = .ok v w:=by
 unfold YN at h;cases hq:P.info? t with
 | none=>simp [hq] at h
 | some i=>simp [hq] at h;simp [zeroValue,typeInfo,hq,h]
theorem Y7 (b o n:Nat):(⟨b,o,none⟩:Addr).add n=⟨b,o+n,none⟩:=by
 unfold Addr.add;split<;>simp_all
theorem Zci {t:TypeId} {m b o:Nat} {cs:LZ} (ha:ZcO P t=some true) (hs:XT P t=some m) (hl:cs.length=m)
 (hc:∀ j c,cs[j]? = some c->w.cell? ⟨b,o+j,none⟩=some c):(loadVar t ⟨b,o,none⟩).run P w = .ok (.agg cs.toArray) w:=by
 subst hl;have hl:(loadCells ⟨b,o,none⟩ cs.length).run P w = .ok cs.toArray w :=
  run_loadCells_list (P:=P) w ⟨b,o,none⟩ cs (λj v hv=>by rw [Y7];exact hc j v hv)
 simp [loadVar,Sem.run_bind,UU ha,Yb hs,hl]
theorem Zb0 {t:TypeId} {b o:Nat} {c:Value} (ha:ZcO P t=some false)
 (hc:w.cell? ⟨b,o,none⟩=some c):(loadVar t ⟨b,o,none⟩).run P w = .ok c w:=by
 simp [loadVar,Sem.run_bind,UU ha,hc]
end
structure Wr0 (w w':World) (b:Nat):Prop where
 os:w'.os=w.os
 tape:w'.tape=w.tape
 output:w'.output=w.output
 size:w'.heap.size=w.heap.size
 same:∀ k,k≠b->w'.heap[k]? = w.heap[k]?
structure Wrote (w w':World) (b:Nat) (cs:LZ) (T:TypeId):Prop where
 os:w'.os=w.os
 tape:w'.tape=w.tape
 output:w'.output=w.output
 size:w'.heap.size=w.heap.size
 same:∀ k,k≠b->w'.heap[k]? = w.heap[k]?
 here:w'.heap[b]? = some (.cells cs.toArray T (0,0))
section
variable {P:Program}
theorem ZhU {w:World} {b o:Nat} {cs:LZ} {T:TypeId} {v:Value} (hb:w.heap[b]? = some (.cells cs.toArray T (0,0))) (ho:o < cs.length) (hv:v.oneCell'=true) :
 (store ⟨b,o,none⟩ v).run P w = .ok () (w.setCell ⟨b,o,none⟩ v)/\Wrote w (w.setCell ⟨b,o,none⟩ v) b (cs.set o v) T:=by
 have hc:w.cell? ⟨b,o,none⟩=some cs[o]:=by simp [World.cell?,hb,ho]
 have hf:w.frozen? ⟨b,o,none⟩=false:=by simp [World.frozen?,hb]
 refine ⟨by rw [run_store P w _ v _ hv,hc,hf];rfl,⟨rfl,rfl,rfl,by simp [World.setCell],λk hk=>?_,?_⟩⟩
 . exact Below.heap_setCell _ _ _ _ hk
 . simp [World.setCell,Array.getElem?_modify,hb]
theorem Y3:∀ (vs:LZ) {w:World} {b o i:Nat} {cs:LZ} {T:TypeId},w.heap[b]? = some (.cells cs.toArray T (0,0))->o+i+vs.length<=cs.length->(∀ v ∈ vs,v.oneCell'=true) ->
 ∃ w',(storeCells ⟨b,o,none⟩ vs i).run P w = .ok () w'/\Wrote w w' b (ZP cs (o+i) vs) T
 | [],w,b,o,i,cs,T,hb,hl,h1=>by
  refine ⟨w,rfl,rfl,rfl,rfl,rfl,λ_ _=>rfl,?_⟩;have:ZP cs (o+i) []=cs:=by
   apply List.ext_getElem?;intro j;rw [Yp _ _ _ _ (by simpa using hl)];rw [if_neg (by simp)]
  rw [this];exact hb
 | v :: vs,w,b,o,i,cs,T,hb,hl,h1=>by
  simp only [List.length_cons] at hl;obtain ⟨e1,g1⟩:=ZhU (P:=P) (o:=o+i) (v:=v) hb (by omega) (h1 v (by simp));obtain ⟨w',e2,g2⟩:=Y3 vs (w:=w.setCell ⟨b,o+i,none⟩ v) (b:=b) (o:=o) (i:=i+1) (T:=T) g1.here (by simp;omega) (λu hu=>h1 u (by simp [hu]));refine ⟨w',?_,⟨g2.os.trans g1.os,g2.tape.trans g1.tape,g2.output.trans g1.output,g2.size.trans g1.size,λk hk=>(g2.same k hk).trans (g1.same k hk),?_⟩⟩
  . simp only [storeCells,Y7,Sem.run_bind,e1,Result.andThen_ok];exact e2
  . rw [g2.here];congr 2;have:ZP (cs.set (o+i) v) (o+(i+1)) vs=ZP cs (o+i) (v :: vs):=by
     apply List.ext_getElem?;intro j;rw [Yp _ _ _ _ (by simp;omega),Yp _ _ _ _ (by simp;omega)];simp only [List.length_cons];by_cases hj:o+(i+1)<=j/\j < o+(i+1)+vs.length
     . rw [if_pos hj,if_pos (by omega),show j - (o+i)=(j - (o+(i+1)))+1 from by omega];simp
     . rw [if_neg hj];by_cases hj2:j=o+i
       . subst hj2;rw [if_pos (by omega),List.getElem?_set_self (by omega)];simp
       . rw [if_neg (by omega),List.getElem?_set_ne (by omega)]
    rw [this]
theorem Wn {t:TypeId} {m:Nat} {v:Value} {w:World} {b o:Nat} {cs:LZ} {T:TypeId} (hs:XT P t=some m) (hm:v.cells.size=m) (hb:w.heap[b]? = some (.cells cs.toArray T (0,0)))
 (hl:o+m<=cs.length) (h1:∀ u ∈ v.cells.toList,u.oneCell'=true):∃ w',(storeVar t ⟨b,o,none⟩ v).run P w = .ok () w'/\Wrote w w' b (ZP cs o v.cells.toList) T:=by
 obtain ⟨w',e,g⟩:=Y3 (P:=P) v.cells.toList (w:=w) (b:=b) (o:=o) (i:=0) (T:=T) hb (by simp [hm];omega) h1;exact ⟨w',by simp [storeVar,Sem.run_bind,Yb hs,hm,e],by simpa using g⟩
end
def ZmJ:Value->Bool
 | .agg _ | .tuple _=>false
 | _=>true
def Zbd:SV->Bool
 | .v x=>ZmJ x
 | .p _ _ | .sl _ _ _ | .mr _ _ | .pr _ _ _ _ _ | .ms _ _ _ _ _ | .ps _ _ | .cl _ _ | .q _ | .mp _ | .yl _ | .ifc _ _=>true
 | _=>false
theorem ZzK (v:Value):ZmJ v=v.oneCell':=by cases v<;>rfl
section
variable {P:Program} {w:World}
def Zr9 (P:Program) (s f:Nat):Option Nat :=
 match P.underlying s with
 | some (.struct fs)=>match fs[f]? with
  | some fd=>match XT P fd.type with
   | some m=>if m=0 then none else some fd.offset
   | none=>none
  | none=>none
 | _=>none
theorem Uu {s f off b o:Nat} (h:Zr9 P s f=some off):(Instr.fieldAt s (.pointer (some ⟨b,o,none⟩)) f).run P w = .ok (.pointer (some ⟨b,o+off,none⟩)) w:=by
 unfold Zr9 at h;split at h
 . rename_i fs hu;split at h
   . rename_i fd hf;split at h
     . rename_i m hm;split at h
       . cases h
       . rename_i h0;simp at h;subst h;simp only [Instr.fieldAt,Sem.run_bind,run_underlying hu,Result.andThen_ok];simp [Sem.run_bind,hf,Instr.sureAddr,fieldPlace,Yb hm,h0,Y7]
     . cases h
   . cases h
 . cases h
def Zr4 (P:Program) (s f:Nat):Option (Nat × TypeId) :=
 match P.underlying s with
 | some (.struct fs)=>(fs[f]?).map λfd=>(fd.offset,fd.type)
 | _=>none
theorem Zba {t m off:Nat} {ag:Bool} {cs:Array Value} (ha:ZcO P t=some ag) (hs:XT P t=some m) (c:Value) (h1:ag=false->cs[off]? = some c) :
 (part t cs off).run P w = .ok (if ag then .agg (cs.extract off (off+m)) else c) w:=by
 cases ag
 . simp [part,Sem.run_bind,UU ha,h1 rfl]
 . simp [part,Sem.run_bind,UU ha,Yb hs]
theorem Znt {s f off t m:Nat} {ag:Bool} {cs:Array Value} (h:Zr4 P s f=some (off,t)) (ha:ZcO P t=some ag) (hs:XT P t=some m) (c:Value) (h1:ag=false->cs[off]? = some c) :
 (Instr.field s (.agg cs) f).run P w = .ok (if ag then .agg (cs.extract off (off+m)) else c) w:=by
 unfold Zr4 at h;split at h
 . rename_i fs hu;cases hf:fs[f]? with
   | none=>simp [hf] at h
   | some fd =>
    simp [hf] at h;obtain ⟨rfl,rfl⟩:=h;simp only [Instr.field,Sem.run_bind,run_underlying hu,Result.andThen_ok,hf];simp only [asAgg,Sem.run_pure,Result.andThen_ok];exact Zba ha hs c h1
 . cases h
theorem ZqQ (off:Nat) (vs:LZ) (k:Nat):∀ (cs:Array Value),off+k+vs.length<=cs.size ->
 ((vs.zipIdx k).foldl (λcs (x:Value × Nat)=>cs.setIfInBounds (off+x.2) x.1) cs).toList=ZP cs.toList (off+k) vs:=by
 induction vs generalizing k with
 | nil =>
  intro cs h;simp only [List.zipIdx_nil,List.foldl_nil];apply List.ext_getElem?;intro j;rw [Yp _ _ _ _ (by simpa using h)];rw [if_neg (by simp)]
 | cons v vs ih =>
  intro cs h;simp only [List.length_cons] at h;simp only [List.zipIdx_cons,List.foldl_cons];rw [ih (k+1) _ (by simp;omega)];apply List.ext_getElem?;intro j;rw [Yp _ _ _ _ (by simp;omega),Yp _ _ _ _ (by simp;omega)];simp only [List.length_cons,Array.toList_setIfInBounds];by_cases hj:off+(k+1)<=j/\j < off+(k+1)+vs.length
  . rw [if_pos hj,if_pos (by omega),show j - (off+k)=(j - (off+(k+1)))+1 from by omega];simp
  . rw [if_neg hj];by_cases hj2:j=off+k
    . subst hj2;rw [if_pos (by omega),List.getElem?_set_self (by simp;omega)];simp
    . rw [if_neg (by omega),List.getElem?_set_ne (by omega)]
def ZcJ:LZ->List (Nat × Value)->LZ
 | z,[]=>z
 | z,(o,v) :: r=>ZcJ (ZP z o v.cells.toList) r
theorem Zgj (place:Nat->Option (Nat × Nat)):∀ (l:List (Nat × Value)) (ps:List (Nat × Value)) (cells:Array Value),
 l.length=ps.length->(∀ i (h:i < l.length) (h':i < ps.length),∃ m,place l[i].1=some (ps[i].1,m)/\l[i].2=ps[i].2/\l[i].2.cells.size=m/\ps[i].1+m<=cells.size) ->
 Instr.fill place cells l=some (ZcJ cells.toList ps).toArray
 | [],[],cells,_,_=>by simp [Instr.fill,ZcJ]
 | (i,v) :: l,(o,u) :: ps,cells,hl,h=>by
  obtain ⟨m,h1,h2,h3,h4⟩:=h 0 (by simp) (by simp);simp at h1 h2 h3 h4;subst h2;have hle:¬ ((decide (v.cells.size≠m) || decide (o+v.cells.size > cells.size))=true):=by simp [h3];omega
  simp only [Instr.fill,h1,ZcJ];rw [if_neg hle];have key:(v.cells.zipIdx.foldl (λcs (x:Value × Nat)=>cs.setIfInBounds (o+x.2) x.1) cells).toList=ZP cells.toList o v.cells.toList:=by
   have:=ZqQ o v.cells.toList 0 cells (by simp [h3];omega);simp only [Nat.add_zero] at this;rw [<- this,<- Array.foldl_toList];simp
  rw [Zgj place l ps _ (by simpa using hl)]
  . rw [key]
  . intro j hj hj';obtain ⟨m',k1,k2,k3,k4⟩:=h (j+1) (by simp;omega) (by simp;omega);refine ⟨m',by simpa using k1,by simpa using k2,by simpa using k3,?_⟩;have:(v.cells.zipIdx.foldl (λcs (x:Value × Nat)=>cs.setIfInBounds (o+x.2) x.1) cells).size=cells.size:=by
     rw [<- Array.length_toList,key,Z5];simp
    rw [this];simpa using k4
 | [],_ :: _,_,h,_=>by simp at h
 | _ :: _,[],_,h,_=>by simp at h
end
def ZBv (P:Program) (g:TypeId->Option (List Nat)):List Field->Nat->Option (List Nat)
 | [],_=>some []
 | fd :: r,o=>match g fd.type,ZBv P g r (o+((g fd.type).getD []).length) with
  | some l,some q=>bif fd.name != "_" && fd.offset == o && Nat.blt 0 l.length && XT P fd.type == some l.length then some (l ++ q) else none
  | _,_=>none
def eqT (P:Program):Nat->TypeId->Option (List Nat)
 | 0,_=>none
 | f+1,t=>match P.underlying t with
  | some .bool=>some [0]
  | some (.int _)=>some [1]
  | some .string=>some [2]
  | some (.struct fs)=>bif P.stoodInHeld t then none else ZBv P (eqT P f) fs.toList 0
  | some (.array n e)=>match eqT P f e with
   | some l=>bif XT P e == some l.length then some (List.replicate n l).flatten else none
   | none=>none
  | _=>none
def kbq (k j:IntKind):Bool:=decide (k=j)
def Zo4:Nat->Value->Value->Option Bool
 | 0,.bool a,.bool b=>some (a == b)
 | 1,.int k a,.int j b=>bif kbq k j then some (a == b) else none
 | 2,.string a,.string b=>some (a.toList == b.toList)
 | _,_,_=>none
def eqA:Option Bool->Option Bool->Option Bool
 | some a,some b=>some (a && b)
 | _,_=>none
def Vk:List Nat->LZ->LZ->Option Bool
 | [],[],[]=>some true
 | c :: cs,x :: xs,y :: ys=>eqA (Zo4 c x y) (Vk cs xs ys)
 | _,_,_=>none
theorem VZ {a b:Option Bool} {r:Bool} (h:eqA a b=some r):∃ p q,a=some p/\b=some q/\r=(p && q):=by
 cases a<;>cases b<;>simp [eqA] at h
 exact ⟨_,_,rfl,rfl,h.symm⟩
theorem XH:∀ {cs:List Nat} {xs ys:LZ} {r:Bool},Vk cs xs ys=some r->xs.length=cs.length/\ys.length=cs.length
 | [],[],[],_,_=>⟨rfl,rfl⟩
 | c :: cs,x :: xs,y :: ys,r,h=>by
  obtain ⟨p,q,_,h2,_⟩:=VZ (by simpa [Vk] using h);obtain ⟨h1,h3⟩:=XH h2;simp [h1,h3]
 | [],_ :: _,_,_,h=>by simp [Vk] at h
 | [],[],_ :: _,_,h=>by simp [Vk] at h
 | _ :: _,[],_,_,h=>by simp [Vk] at h
 | _ :: _,_ :: _,[],_,h=>by simp [Vk] at h
theorem ZdU:∀ {c1 c2:List Nat} {xs ys:LZ} {r:Bool},Vk (c1 ++ c2) xs ys=some r ->
 ∃ p q,Vk c1 (xs.take c1.length) (ys.take c1.length)=some p/\Vk c2 (xs.drop c1.length) (ys.drop c1.length)=some q/\r=(p && q)
 | [],c2,xs,ys,r,h=>⟨true,r,by simp [Vk],by simpa using h,by simp⟩
 | c :: c1,c2,x :: xs,y :: ys,r,h=>by
  obtain ⟨p,q,h1,h2,h3⟩:=VZ (by simpa [Vk] using h);obtain ⟨p',q',k1,k2,k3⟩:=ZdU h2;refine ⟨p && p',q',?_,by simpa using k2,by rw [h3,k3,Bool.and_assoc]⟩;simp [Vk,h1,k1,eqA]
 | _ :: _,_,[],_,_,h=>by simp [Vk] at h
 | _ :: _,_,_ :: _,[],_,h=>by simp [Vk] at h
def mkV (ag:Bool) (xs:LZ):Value:=if ag then .agg xs.toArray else xs.headD undef
section
variable {P:Program}
theorem Va {t m off:Nat} {ag:Bool} {X:LZ} (w:World) (ha:ZcO P t=some ag) (hs:XT P t=some m) (h1:ag=false->m=1) (hl:off+m<=X.length) :
 (part t X.toArray off).run P w = .ok (mkV ag ((X.drop off).take m)) w:=by
 cases ag
 . have hm:=h1 rfl;subst hm;have hlt:off < X.length:=by omega
   rw [Zba ha hs X[off] (λ_=>by simp [hlt])];simp only [mkV,Bool.false_eq_true,if_false];rw [List.drop_eq_getElem_cons hlt];rfl
 . rw [Zba ha hs undef (λh=>by cases h)];simp only [mkV,if_true];have:X.toArray.extract off (off+m)=((X.drop off).take m).toArray:=by apply Array.toList_inj.1;simp [Array.toList_extract,List.extract]
   rw [this]
def ZyB (P:Program) (d:Nat) (t:TypeId) (cls:List Nat):Prop :=
 ∃ ag,ZcO P t=some ag/\(ag=false->cls.length=1)/\∀ (w:World) (xs ys:LZ) (r:Bool),Vk cls xs ys=some r->(Op.equalIn d t (mkV ag xs) (mkV ag ys)).run P w = .ok r w
theorem Zg1 {d:Nat} {g:TypeId->Option (List Nat)} (hg:∀ t l,g t=some l->ZyB P d t l) (X Y:LZ):∀ (fs:List Field) (o:Nat) (cls:List Nat) (r:Bool) (w:World),ZBv P g fs o=some cls ->
 Vk cls (X.drop o) (Y.drop o)=some r->(Op.eqFields d X.toArray Y.toArray fs).run P w = .ok r w
 | [],o,cls,r,w,h,hr=>by
  simp [ZBv] at h;subst h;have:r=true:=by
   cases hx:X.drop o<;>cases hy:Y.drop o<;>rw [hx,hy] at hr<;>simp [Vk] at hr
   exact hr
  subst this;simp [Op.eqFields]
 | fd :: fs,o,cls,r,w,h,hr=>by
  simp only [ZBv] at h;split at h
  . rename_i l q h1 h2;rw [h1] at h2;simp only [Option.getD_some] at h2;cases hc:(fd.name != "_" && fd.offset == o && Nat.blt 0 l.length && XT P fd.type == some l.length)
    . rw [hc] at h;cases h
    . rw [hc] at h;simp only [cond_true,Option.some.injEq] at h;subst h;simp only [Bool.and_eq_true,bne_iff_ne,ne_eq,beq_iff_eq,Nat.blt_eq] at hc;obtain ⟨⟨⟨hn,ho⟩,hl0⟩,hs⟩:=hc;obtain ⟨ag,a1,a2,a3⟩:=hg _ _ h1;obtain ⟨p,q',e1,e2,e3⟩:=ZdU hr;have hX:=(XH hr).1;have hY:=(XH hr).2;simp only [List.length_drop,List.length_append] at hX hY;have hle:fd.offset+l.length<=X.length/\fd.offset+l.length<=Y.length:=by omega
      have pX:=Va (X:=X) w a1 hs a2 hle.1;have pY:=Va (X:=Y) w a1 hs a2 hle.2;rw [ho] at pX pY;simp only [Op.eqFields,hn,ne_eq,not_false_eq_true,if_true,Sem.run_bind,ho,pX,pY,Result.andThen_ok,a3 w _ _ _ e1];have ih:=Zg1 hg X Y fs (o+l.length) q q' w h2 (by rw [<- List.drop_drop,<- List.drop_drop];exact e2);cases p
      . simp [e3]
      . simp [e3,ih]
  . cases h
theorem ZgB {d e:Nat} {l:List Nat} {X Y:LZ} (hg:ZyB P d e l) (hs:XT P e=some l.length):∀ (n i:Nat) (r:Bool) (w:World),X.length=(i+n) * l.length->Y.length=(i+n) * l.length ->
 Vk (List.replicate n l).flatten (X.drop (i * l.length)) (Y.drop (i * l.length))=some r->(Op.eqItems d e l.length X.toArray Y.toArray (List.range' i n)).run P w = .ok r w
 | 0,i,r,w,hX,hY,h=>by
  have:r=true:=by
   have h1:X.drop (i * l.length)=[]:=by apply List.drop_eq_nil_of_le;simp at hX;omega
   have h2:Y.drop (i * l.length)=[]:=by apply List.drop_eq_nil_of_le;simp at hY;omega
   rw [h1,h2] at h;simpa [Vk] using h.symm
  subst this;simp [Op.eqItems]
 | n+1,i,r,w,hX,hY,h=>by
  obtain ⟨ag,a1,a2,a3⟩:=hg;rw [List.replicate_succ,List.flatten_cons] at h;obtain ⟨p,q,e1,e2,e3⟩:=ZdU h;have hle:i * l.length+l.length<=(i+(n+1)) * l.length:=by
   rw [show (i+(n+1))=(i+1)+n from by omega,Nat.add_mul,Nat.add_mul];omega
  have pX:=Va (X:=X) w a1 hs a2 (off:=i * l.length) (by omega);have pY:=Va (X:=Y) w a1 hs a2 (off:=i * l.length) (by omega);have ih:=ZgB ⟨ag,a1,a2,a3⟩ hs n (i+1) q w (by rw [hX];congr 1;omega) (by rw [hY];congr 1;omega) (by rw [show (i+1) * l.length=i * l.length+l.length from by rw [Nat.add_mul];omega,<- List.drop_drop,<- List.drop_drop];exact e2);simp only [List.range'_succ,Op.eqItems,Sem.run_bind,pX,pY,Result.andThen_ok,a3 w _ _ _ e1]
  cases p
  . simp [e3]
  . simp [e3,ih]
theorem ZfM:∀ (f:Nat) (t:TypeId) (cls:List Nat),eqT P f t=some cls->∀ d,f<=d->ZyB P d t cls
 | 0,_,_,h,_,_=>by simp [eqT] at h
 | f+1,t,cls,h,d,hd=>by
  obtain ⟨d',rfl⟩:∃ d',d=d'+1:=⟨d - 1,by omega⟩
  simp only [eqT] at h;split at h
  . rename_i hu;simp at h;subst h;refine ⟨false,by simp [ZcO,hu],λ_=>rfl,λw xs ys r hr=>?_⟩
    match xs,ys,hr with
    | [.bool a],[.bool b],hr=>simp [Vk,Zo4,eqA] at hr;subst hr;simpa [mkV] using run_equalIn_bool' w d' t a b hu
    | [],_,hr=>simp [Vk] at hr
    | [_],[],hr=>simp [Vk] at hr
    | _ :: _ :: _,[],hr=>simp [Vk] at hr
    | [x],[y],hr=>exact (by
     simp only [Vk] at hr;obtain ⟨p,q,h1,_,_⟩:=VZ hr;cases x<;>cases y<;>simp [Zo4] at h1
     subst h1
     simp [Vk,Zo4,eqA] at hr;subst hr;simpa [mkV] using run_equalIn_bool' w d' t _ _ hu)
    | [_],_ :: _ :: _,hr=>have:=(XH hr).2;simp at this
    | _ :: _ :: _,_ :: _,hr=>have:=(XH hr).1;simp at this
  . rename_i k hu;simp at h;subst h;refine ⟨false,by simp [ZcO,hu],λ_=>rfl,λw xs ys r hr=>?_⟩
    match xs,ys,hr with
    | [],_,hr=>simp [Vk] at hr
    | [_],[],hr=>simp [Vk] at hr
    | _ :: _ :: _,[],hr=>simp [Vk] at hr
    | [x],[y],hr=>exact (by
     simp only [Vk] at hr;obtain ⟨p,q,h1,h2,h3⟩:=VZ hr;simp at h2;subst h2;cases x<;>cases y<;>simp [Zo4] at h1
     rename_i k1 a k2 b;cases hk:kbq k1 k2<;>rw [hk] at h1<;>simp at h1
     subst h1;have:=of_decide_eq_true hk;subst this;simp at h3;subst h3
     simpa [mkV] using run_equalIn_int w d' t _ _ _ _ hu)
    | [_],_ :: _ :: _,hr=>have:=(XH hr).2;simp at this
    | _ :: _ :: _,_ :: _,hr=>have:=(XH hr).1;simp at this
  . rename_i hu;simp at h;subst h;refine ⟨false,by simp [ZcO,hu],λ_=>rfl,λw xs ys r hr=>?_⟩
    match xs,ys,hr with
    | [],_,hr=>simp [Vk] at hr
    | [_],[],hr=>simp [Vk] at hr
    | _ :: _ :: _,[],hr=>simp [Vk] at hr
    | [x],[y],hr=>exact (by
     simp only [Vk] at hr;obtain ⟨p,q,h1,h2,h3⟩:=VZ hr;simp at h2;subst h2;cases x<;>cases y<;>simp [Zo4] at h1
     subst h1;simp at h3;subst h3
     simpa [mkV] using run_equalIn_string w d' t _ _ hu)
    | [_],_ :: _ :: _,hr=>have:=(XH hr).2;simp at this
    | _ :: _ :: _,_ :: _,hr=>have:=(XH hr).1;simp at this
  . rename_i fs hu;cases hst:P.stoodInHeld t
    . rw [hst] at h;simp only [cond_false] at h;have hfs:P.fieldsOf t=fs:=by simp [Program.fieldsOf,hu]
      refine ⟨true,by simp [ZcO,hu],(λh=>by cases h),λw xs ys r hr=>?_⟩;simp only [mkV,if_true];rw [run_equalIn_struct w d' t xs.toArray ys.toArray (by rw [hfs];exact hu) hst,hfs];exact Zg1 (λt l h=>ZfM f t l h d' (by omega)) xs ys fs.toList 0 cls r w h (by simpa using hr)
    . rw [hst] at h;cases h
  . rename_i n e hu;split at h
    . rename_i l hl;cases hs:(XT P e == some l.length)
      . rw [hs] at h;cases h
      . rw [hs] at h;simp only [cond_true,Option.some.injEq] at h;subst h;simp only [beq_iff_eq] at hs;refine ⟨true,by simp [ZcO,hu],(λh=>by cases h),λw xs ys r hr=>?_⟩;simp only [mkV,if_true];obtain ⟨hX,hY⟩:=XH hr;have hi:∃ i,P.info? e=some i/\i.size=l.length:=by
         unfold XT at hs;cases hq:P.info? e with
         | none=>simp [hq] at hs
         | some i=>simp [hq] at hs;exact ⟨i,rfl,hs⟩
        obtain ⟨i,hi,hsz⟩:=hi;rw [run_equalIn_array w d' xs.toArray ys.toArray hu hi,show P.cellsOf e=l.length from by simp [Program.cellsOf,hi,hsz],List.range_eq_range'];exact ZgB (ZfM f e l hl d' (by omega)) (by simp [XT,hi,hsz]) n 0 r w (by simpa using hX) (by simpa using hY) (by simpa using hr)
    . cases h
  . cases h
end
section
variable {P:Program} {w:World} {E:Env} {n:Nat->Prop} {ok:Nat->Prop}
def W8 (P:Program) (t:TypeId):Option Nat:=(P.info? t).map (·.bytes)
theorem Zaj {k:Nat} {w:World}:Below k w w.drew:=⟨rfl,rfl,rfl,Nat.le_refl _,λ_ _=>rfl⟩
def UT (w:World) (y:Value) (m len:Nat) (cs:LZ):Prop :=
 ∃ a cap,y = .slice a len cap/\len<=cap/\cs.length=len * m/\(len=0\/∃ b off,a=some ⟨b,off,none⟩/\∀ j c,cs[j]? = some c->w.cell? ⟨b,off+j,none⟩=some c)
theorem Zb4 {w:World} {m:Nat}:UT w (.slice none 0 0) m 0 []:=⟨none,0,rfl,Nat.le_refl _,by simp,.inl rfl⟩
theorem Zg4 {w:World} {E:Env} {n ok:Nat->Prop} {b m:Nat}:∀ (xs:Rr) (off:Nat),RR w E n ok b m xs off ->
 ∃ cs:LZ,RL w E n ok xs.flatten cs/\cs.length=xs.length * m/\∀ j c,cs[j]? = some c->w.cell? ⟨b,off+j,none⟩=some c
 | [],off,_=>⟨[],by simp [RL],by simp,λj c h=>by simp at h⟩
 | row :: xs,off,h=>by
  simp only [RR] at h;obtain ⟨h0,⟨c0,h1,h2⟩,h3⟩:=h;obtain ⟨cs,k1,k2,k3⟩:=Zg4 xs (off+m) h3;have hl:=ZO h1;refine ⟨c0 ++ cs,by simpa using Yj h1 k1,by simp [hl,h0,k2,Nat.add_mul];omega,λj c hj=>?_⟩;by_cases hlt:j < c0.length
  . rw [List.getElem?_append_left hlt] at hj;exact h2.2 j c hj
  . rw [List.getElem?_append_right (by omega)] at hj;have:=k3 _ _ hj
    rwa [show off+m+(j - c0.length)=off+j from by omega] at this
theorem Zdr {w:World} {c:Bool} {m:Nat} {xs:Rr} {y:Value} (h:R w E n ok (.sl c m xs) y):∃ cs,UT w y m xs.length cs/\RL w E n ok xs.flatten cs/\(c=true->∃ a,y = .slice a xs.length xs.length):=by
 simp only [R] at h;obtain ⟨a,len,cap,rfl,rfl,⟨h1,h2⟩,h3,h4⟩:=h;rcases h4 with rfl | ⟨b,off,rfl,h4⟩
 . exact ⟨[],⟨a,cap,rfl,h1,by simp,.inl rfl⟩,by simp [RL],λhc=>⟨a,by rw [h2 hc]⟩⟩
 . obtain ⟨cs,k1,k2,k3⟩:=Zg4 xs off h4;exact ⟨cs,⟨_,cap,rfl,h1,k2,.inr ⟨b,off,rfl,k3⟩⟩,k1,λhc=>⟨_,by rw [h2 hc]⟩⟩
theorem ZlT {w:World} {E:Env} {n ok:Nat->Prop} {b m:Nat}:∀ (xs:Rr) (off:Nat),RR w E n ok b m xs off->∀ r ∈ xs,r.length=m
 | [],_,_,r,h=>by simp at h
 | row :: xs,off,h,r,hr=>by
  simp only [RR] at h;rcases List.mem_cons.1 hr with rfl | hr
  . exact h.1
  . exact ZlT xs _ h.2.2 r hr
theorem Yh {P:Program} {w w':World} {y:Value} {m len:Nat} {cs:LZ} (h:UT w y m len cs) (hw:∀ a,w'.cell? a=w.cell? a):(Builtin.firstCells m len y).run P w' = .ok cs.toArray w':=by
 obtain ⟨a,cap,rfl,_,hl,h⟩:=h;rcases h with rfl | ⟨b,off,rfl,h⟩
 . have:cs=[]:=by simpa using hl
   subst this;cases a with
   | none=>simp [Builtin.firstCells]
   | some a=>exact run_firstCells_some w' m 0 a 0 cap [] (by simp) (λj v hj=>by simp at hj)
 . exact run_firstCells_some w' m len _ len cap cs hl (λj v hj=>by rw [Y7,hw];exact h j v hj)
theorem Ua {t e ty m by':Nat} {z:Value} {x y:Value} {lx ly:Nat} {cx cy:LZ} (ht:P.underlying t=some (.slice e)) (hm:XT P e=some m) (hb:W8 P e=some by') (hz:YN P e=some z)
 (hx:UT w x m lx cx) (hc:∃ a,x = .slice a lx lx) (hy:UT w y m ly cy) (hlim:(lx+ly) * by'<=140737488355328) (hlim2:lx+ly<=140737488355328) :
 ∃ v w',(Builtin.append_ #[t,t] ty #[x,y]).run P w = .ok v w'/\Below w.heap.size w w' /\
  ((ly=0/\v=x/\w'=w)\/(ly≠0/\∃ cap:Nat,lx+ly<=cap/\v = .slice (some ⟨w.heap.size,0,none⟩) (lx+ly) cap/\w'=w.drew.alloc (.cells (cx.toArray ++ cy.toArray ++ Builtin.zeroCells z.cells (cap - (lx+ly))) e))):=by
 obtain ⟨i,hi⟩:∃ i,P.info? e=some i:=by
  unfold XT at hm;cases hq:P.info? e with
  | none=>simp [hq] at hm
  | some i=>exact ⟨i,rfl⟩
 have hsz:i.size=m:=by simpa [XT,hi] using hm
 have hby:i.bytes=by':=by simpa [W8,hi] using hb
 have hzi:i.zero=some z:=by simpa [YN,hi] using hz
 obtain ⟨a0,rfl⟩:=hc;obtain ⟨ay,capy,rfl,hcy,hly,hy'⟩:=hy;by_cases h0:ly=0
 . subst h0;have hcy0:cy=[]:=by simpa using hly
   subst hcy0;refine ⟨_,w,?_,Below.refl _ _,.inl ⟨rfl,rfl,rfl⟩⟩;have hf:=Yh (P:=P) (w':=w) (y:=.slice ay 0 capy) (m:=m) (len:=0) (cs:=[]) ⟨ay,capy,rfl,hcy,by simp,.inl rfl⟩ (λ_=>rfl);have hsz':(sizeOf e).run P w = .ok m w:=Yb hm;cases a0<;>simp [Builtin.append_,Sem.run_bind,run_underlying ht,hsz',Builtin.lenOf,hf,storeCells]
 . refine ⟨_,_,?_,Zaj.alloc (Nat.le_refl _) _,.inr ⟨h0,grownCap w (lx+ly) lx e,?_,rfl,rfl⟩⟩
   . have hn:¬ (lx+ly<=lx):=by omega
     have h63':¬ (9223372036854775807 < ((lx:Int)+(ly:Int))):=by omega
     have hfit:Builtin.nextslicecap (lx+ly) lx * i.bytes<=281474976710656:=growslice_fits (by omega) (by rw [hby];exact hlim);have h48':¬ (281474976710656 < Builtin.nextslicecap (lx+ly) lx * i.bytes):=by omega
     have hf:=Yh (P:=P) (w':=w.drew) (y:=.slice ay ly capy) (m:=i.size) (len:=ly) (cs:=cy) (by rw [hsz];exact ⟨ay,capy,rfl,hcy,hly,hy'⟩) (λ_=>rfl);have hfo:=Yh (P:=P) (w':=w.drew) (y:=.slice a0 lx lx) (m:=i.size) (len:=lx) (cs:=cx) (by rw [hsz];exact hx) (λ_=>rfl);simp [Builtin.append_,run_underlying ht,sizeOf,typeInfo,zeroValue,hi,hzi,Builtin.lenOf,hn,h63',h48',Question.forced,hf,hfo,newRow,grownCap]
     congr 2;apply Array.ext';simp [List.append_assoc]
   . unfold grownCap;simp only [Question.cut];omega
theorem Zcf {w:World} {E:Env} {n ok:Nat->Prop} {b m:Nat} (hok:ok b):∀ (xs:Rr) (off:Nat) (cs:LZ),(∀ r ∈ xs,r.length=m)->RL w E n ok xs.flatten cs->(∀ j c,cs[j]? = some c->w.cell? ⟨b,off+j,none⟩=some c)->RR w E n ok b m xs off
 | [],off,cs,_,_,_=>by simp [RR]
 | row :: xs,off,cs,hl,hR,hc=>by
  simp only [RR];have hr:=hl row (by simp);rw [List.flatten_cons] at hR;have h1:=X8 row.length hR;have h2:=Vb row.length hR;rw [List.take_left' rfl] at h1;rw [List.drop_left' rfl] at h2;refine ⟨hr,⟨_,h1,λ_=>hok,λj c hj=>?_⟩,Zcf hok xs (off+m) _ (λr h=>hl r (by simp [h])) h2 (λj c hj=>?_)⟩
  . have hj':j < row.length:=by have:=(List.getElem?_eq_some_iff.1 hj).1;simp at this;omega
    rw [List.getElem?_take_of_lt hj'] at hj;exact hc j c hj
  . rw [List.getElem?_drop] at hj;have:=hc _ _ hj
    rwa [show off+m+j=off+(row.length+j) from by omega]
end
def chk:Ls->Nat->Bool
 | [],0=>true
 | _ :: l,n+1=>chk l n
 | _,_=>false
theorem ZbS:∀ {l:Ls} {n:Nat},chk l n=true->l.length=n
 | [],0,_=>rfl
 | _ :: l,n+1,h=>by simp only [chk] at h;simp [ZbS h]
 | [],_+1,h=>by simp [chk] at h
 | _ :: _,0,h=>by simp [chk] at h
def nth:Ls->Nat->Option SV
 | [],_=>none
 | s :: _,0=>some s
 | _ :: l,n+1=>nth l n
theorem Zhf:∀ (l:Ls) (n:Nat),nth l n=l[n]?
 | [],_=>by simp [nth]
 | s :: _,0=>by simp [nth]
 | _ :: l,n+1=>by simp [nth,Zhf l n]
def YC:SV->Option Ls
 | .agg l=>some l
 | s=>bif Zbd s then some [s] else none
def ZDu:Option Ls->Option SV
 | some l=>some (.agg l)
 | none=>none
def Zv3 (ρ : X->SV):Ls->List (Nat × Nat × X)->Option Ls
 | z,[]=>some z
 | z,(o,m,x) :: r=>match YC (ρ x) with
  | some l=>bif chk l m then Zv3 ρ (ZJ z o l) r else none
  | none=>none
def ZAZ (o:Nat) (l:Ls) (t:List (Nat × Ls)):Bool->Option (List (Nat × Ls))
 | true=>some ((o,l) :: t)
 | false=>none
def ZAT (o m:Nat):Option Ls->Option (List (Nat × Ls))->Option (List (Nat × Ls))
 | some l,some t=>ZAZ o l t (chk l m)
 | _,_=>none
def ZtH (ρ : X->SV):List (Nat × Nat × X)->Option (List (Nat × Ls))
 | []=>some []
 | (o,m,x) :: r=>ZAT o m (YC (ρ x)) (ZtH ρ r)
def spl:Ls->List (Nat × Ls)->Ls
 | z,[]=>z
 | z,(o,l) :: r=>spl (ZJ z o l) r
def Zod (z:Ls):Option (List (Nat × Ls))->Option Ls
 | some t=>some (spl z t)
 | none=>none
def bld (ρ : X->SV) (z:Ls) (ps:List (Nat × Nat × X)):Option Ls:=Zod z (ZtH ρ ps)
theorem ZA7 {ρ : X->SV}:∀ (ps:List (Nat × Nat × X)) {z l:Ls},bld ρ z ps=some l->Zv3 ρ z ps=some l
 | [],z,l,h=>by simpa [bld,ZtH,Zod,spl,Zv3] using h
 | (o,m,x) :: r,z,l,h=>by
  have ih:=λz'=>ZA7 (ρ:=ρ) r (z:=z') (l:=l);unfold bld at h ih;simp only [ZtH] at h;simp only [Zv3];cases hc:YC (ρ x) with
  | none=>rw [hc] at h;simp [ZAT,Zod] at h
  | some c =>
   rw [hc] at h;cases hx:ZtH ρ r with
   | none=>rw [hx] at h;simp [ZAT,Zod] at h
   | some t =>
    rw [hx] at h;simp only [ZAT] at h;cases hk:chk c m
    . rw [hk] at h;simp [ZAZ,Zod] at h
    . rw [hk] at h;simp only [ZAZ,Zod,spl,Option.some.injEq] at h;simp only [hk,cond_true];exact ih (ZJ z o c) (by rw [hx];simp [Zod,h])
def Zd9:IntKind->IntKind->Bool
 | .i8,.i8 | .i16,.i16 | .i32,.i32 | .i64,.i64 | .u8,.u8 | .u16,.u16 | .u32,.u32 | .u64,.u64=>true
 | _,_=>false
theorem ZfJ {k j:IntKind} (h:Zd9 k j=true):k=j:=by revert h;cases k<;>cases j<;>simp [Zd9]
def ZhZ (b:BinOp) (k:IntKind) (x y:Int):Option SV :=
 match b with
 | .add=>some (.v (.int k (k.wrap (x+y))))
 | .sub=>some (.v (.int k (k.wrap (x - y))))
 | .mul=>some (.v (.int k (k.wrap (x * y))))
 | .eql=>some (.v (.bool (x == y)))
 | .neq=>some (.v (.bool (x != y)))
 | .lss=>some (.v (.bool (decide (x < y))))
 | .leq=>some (.v (.bool (decide (x<=y))))
 | .gtr=>some (.v (.bool (decide (x > y))))
 | .geq=>some (.v (.bool (decide (x ≥ y))))
 | _=>none
def ZAC (b:BinOp):SV->SV->Option SV
 | .v (.int k x),.v (.int j y)=>bif Zd9 k j then ZhZ b k x y else none
 | _,_=>none
def uni (u:UnOp):SV->Option SV
 | .v (.bool b)=>match u with | .not=>some (.v (.bool (!b))) | _=>none
 | .v (.int k n)=>match u with | .neg=>some (.v (.int k (k.wrap (0 - n)))) | _=>none
 | _=>none
def U2 (o:Nat):SV->Option SV
 | .p k q=>some (.p k (q+o))
 | .pr k v m i q=>some (.pr k v m i (q+o))
 | .ps row q=>some (.ps row (q+o))
 | _=>none
def Ze6:SV->Option SV
 | .p k q=>some (.p k q)
 | .pr k v m i q=>some (.pr k v m i q)
 | .ps row q=>some (.ps row q)
 | _=>none
def Wg (l:Ls) (o m:Nat) (ag:Bool):Option SV :=
 match ag with
 | true=>bif Nat.ble (o+m) l.length then some (.agg ((l.drop o).take m)) else none
 | false=>nth l o
def mmf (mx:Bool):Int->Ls->Option Int
 | x,[]=>some x
 | x,.v (.int _ y) :: r=>match mx with | true=>mmf mx (max x y) r | false=>mmf mx (min x y) r
 | _,_=>none
def mmS (mx:Bool):Ls->Option SV
 | .v (.int k x) :: r=>match mmf mx x r with | some z=>some (.v (.int k z)) | none=>none
 | _=>none
def U6 (ρ : X->SV):List X->Ls
 | []=>[]
 | x :: r=>ρ x :: U6 ρ r
def lit:LZ->Ls
 | []=>[]
 | x :: r=>.v x :: lit r
theorem ZcS (l:LZ):lit l=l.map .v:=by induction l<;>simp [lit, *]
def eqC:Nat->SV->SV->Option Bool
 | 0,.v (.bool a),.v (.bool b)=>some (a == b)
 | 1,.v (.int k a),.v (.int j b)=>bif Zd9 k j then some (a == b) else none
 | 2,.v (.string a),.v (.string b)=>some (a.toList == b.toList)
 | _,_,_=>none
def ZhR:List Nat->Ls->Ls->Option Bool
 | [],[],[]=>some true
 | c :: cs,x :: xs,y :: ys=>eqA (eqC c x y) (ZhR cs xs ys)
 | _,_,_=>none
def Zt0 (cls:List Nat):Bool->SV->SV->Option Bool
 | true,.agg a,.agg b=>ZhR cls a b
 | false,.v (.bool a),.v (.bool b)=>some (a == b)
 | _,_,_=>none
def ngB:Bool->Bool->Bool
 | true,b=>!b
 | false,b=>b
def eqR (ng:Bool):Option Bool->Option SV
 | some b=>some (.v (.bool (ngB ng b)))
 | none=>none
def pv (ρ : X->SV):SI->Option SV
 | .eqs ng ag cls x y=>eqR ng (Zt0 cls ag (ρ x) (ρ y))
 | .mv x=>some (ρ x)
 | .build z ps=>ZDu (bld ρ (lit z) ps)
 | .nilc x=>Ze6 (ρ x)
 | .bin b x y=>ZAC b (ρ x) (ρ y)
 | .un u x=>uni u (ρ x)
 | .addo x o=>U2 o (ρ x)
 | .fld x o m ag=>match ρ x with | .agg l=>Wg l o m ag | _=>none
 | .len x=>match ρ x with | .sl _ _ xs=>some (.v (.int .i64 xs.length)) | _=>none
 | .mm mx xs=>mmS mx (U6 ρ xs)
 | .mkf f cs=>some (.cl f (U6 ρ cs))
 | .conv k x=>match ρ x with | .v (.int _ n)=>some (.v (.int k (k.wrap n))) | _=>none
 | .ext x i=>match ρ x with | .tup l=>nth l i | _=>none
 | _=>none
section
variable {P:Program} {w:World} {E:Env} {n:Nat->Prop} {ok:Nat->Prop}
theorem ZDm {s:SV} {y:Value} (h:R w E n ok s y) (h1:Zbd s=true):y.oneCell'=true:=by
 cases s<;>simp only [R] at h<;>simp only [Zbd] at h1
 case v x=>subst h;rw [<- ZzK];exact h1
 case p k o=>rw [h.2];rfl
 case sl c m xs=>obtain ⟨a,l,c,h,_⟩:=h;rw [h];rfl
 case mr k v=>exact h.2.2.2
 case pr k v m i o=>obtain ⟨_,_,b,l,c,_,h⟩:=h;rw [h];rfl
 case ms k v m i o=>obtain ⟨_,_,b,l,c,_,_,h⟩:=h;rw [h];rfl
 case ps row o=>obtain ⟨b,off,h,_⟩:=h;rw [h];rfl
 case cl f caps=>obtain ⟨cs,h,_⟩:=h;rw [h];rfl
 case q φ=>exact φ.one _ _ _ h
 case mp k=>rw [h.2];rfl
 case yl k=>rw [h.2];rfl
 case ifc T s=>obtain ⟨x,h,_⟩:=h;rw [h];rfl
 all_goals cases h1
theorem Zcy {y:Value} (h:y.oneCell'=true):y.cells = #[y]:=by cases y<;>first | rfl | simp [Value.oneCell'] at h
theorem Zac {s:SV} {y:Value} {l:Ls} (h:R w E n ok s y) (hc:YC s=some l):RL w E n ok l y.cells.toList:=by
 by_cases ha:∃ l',s = .agg l'
 . obtain ⟨l',rfl⟩:=ha;simp only [YC,Option.some.injEq] at hc;subst hc;simp only [R] at h;obtain ⟨cs,rfl,h2⟩:=h;exact h2
 . have:Zbd s=true/\l=[s]:=by
    cases s<;>simp only [YC] at hc<;>first
     | (exact absurd ⟨_,rfl⟩ ha)
     | (cases ho:Zbd _<;>simp [ho] at hc;exact ⟨rfl,hc.symm⟩)
   obtain ⟨h1,rfl⟩:=this;rw [Zcy (ZDm h h1)];simp only [RL];exact ⟨y,[],by simp,h,rfl⟩
end
def Zuk:LZ->LZ->Bool
 | [],[]=>true
 | x :: xs,y :: ys=>eqV x y && Zuk xs ys
 | _,_=>false
theorem WO:∀ {xs ys:LZ},Zuk xs ys=true->xs=ys
 | [],[],_=>rfl
 | x :: xs,y :: ys,h=>by simp only [Zuk,Bool.and_eq_true] at h;rw [Zbx h.1,WO h.2]
 | [],_ :: _,h=>by simp [Zuk] at h
 | _ :: _,[],h=>by simp [Zuk] at h
def ZxK (P:Program) (t:TypeId):Option (Nat->Option (Nat × Nat)) :=
 match P.underlying t with
 | some (.array _ e)=>match P.info? e with
  | some ie=>some λi=>some (i * ie.size,ie.size)
  | none=>none
 | some (.struct fields)=>match fields.toList.mapM (λf=>(P.info? f.type).map λi=>(f.offset,i.size)) with
  | some places=>some λi=>places.toArray[i]?
  | none=>none
 | _=>none
theorem Zsn {P:Program} {t:TypeId} {z:Value} {place:Nat->Option (Nat × Nat)} {parts:List (Nat × Value)} (hz:YN P t=some z) (hp:ZxK P t=some place) :
 P.built t parts=Instr.fill place z.cells parts:=by
 unfold YN at hz;cases hi:P.info? t with
 | none=>simp [hi] at hz
 | some it =>
  simp [hi] at hz;unfold ZxK at hp;split at hp
  . rename_i e hu;split at hp
    . rename_i ie he;simp at hp;subst hp;simp [Program.built,hi,hu,hz,he]
    . cases hp
  . rename_i fields hu;split at hp
    . rename_i places he;simp at hp;subst hp;simp [Program.built,hi,hu,hz,he]
    . cases hp
  . cases hp
def ZhL (place:Nat->Option (Nat × Nat)) (zl:Nat):List (Nat × Nat × X)->List (Nat × Operand)->Bool
 | [],[]=>true
 | (o,m,x) :: ps,(i,y) :: ys=>(match place i with | some (o',m')=>o' == o && m' == m | none=>false) && Xb x y && decide (o+m<=zl) && ZhL place zl ps ys
 | _,_=>false
def cmpB (P:Program) (t:TypeId) (z:LZ) (ps:List (Nat × Nat × X)) (parts:Array (Nat × Operand)):Bool :=
 match YN P t,ZxK P t with
 | some zv,some place=>Zuk zv.cells.toList z && ZhL place z.length ps parts.toList
 | _,_=>false
section
variable {P:Program} {w:World} {E:Env} {n:Nat->Prop} {ok:Nat->Prop}
theorem ZlP {place:Nat->Option (Nat × Nat)} {a:Act} {ρ : X->SV}:∀ (ps:List (Nat × Nat × X)) (ys:List (Nat × Operand)) (z:Ls) (zv:LZ) (zl:Nat) (l:Ls),
 (∀ p ∈ ps,R w E n ok (ρ p.2.2) (evX a p.2.2))->ZhL place zl ps ys=true->zv.length=zl->RL w E n ok z zv->Zv3 ρ z ps=some l ->
 RL w E n ok l (ZcJ zv (ps.map λp=>(p.1,evX a p.2.2))) /\
  ∃ r:List (Nat × Value),r=ys.map (λp=>(p.1,a.eval p.2))/\r.length=ps.length /\
   ∀ i (h:i < r.length) (h':i < (ps.map λp=>(p.1,evX a p.2.2)).length),∃ m,place r[i].1=some ((ps.map λp=>(p.1,evX a p.2.2))[i].1,m)/\r[i].2=(ps.map λp=>(p.1,evX a p.2.2))[i].2 /\
    r[i].2.cells.size=m/\(ps.map λp=>(p.1,evX a p.2.2))[i].1+m<=zl
 | [],[],z,zv,zl,l,_,hc,hl,hz,hb=>by
  simp only [Zv3,Option.some.injEq] at hb;subst hb;refine ⟨by simpa [ZcJ] using hz,[],rfl,rfl,λi h=>by simp at h⟩
 | (o,m,x) :: ps,(i,y) :: ys,z,zv,zl,l,hρ,hc,hl,hz,hb=>by
  simp only [ZhL,Bool.and_eq_true,decide_eq_true_eq] at hc;obtain ⟨⟨⟨h1,h2⟩,h3⟩,h4⟩:=hc;simp only [Zv3] at hb;split at hb
  . rename_i lx hlx;cases hk:chk lx m
    . simp [hk] at hb
    . simp only [hk,cond_true] at hb;have hR:=Zac (hρ (o,m,x) (by simp)) hlx;have hsz:(evX a x).cells.size=m:=by
       have:=ZO hR;rw [<- Array.length_toList,this];exact ZbS hk
      obtain ⟨k1,r,k2,k3,k4⟩:=ZlP ps ys (ZJ z o lx) (ZP zv o (evX a x).cells.toList) zl l (λp hp=>hρ p (by simp [hp])) h4 (by rw [Z5];exact hl) (X6 o hz hR) hb;refine ⟨by simpa [ZcJ] using k1,(i,a.eval y) :: r,by simp [k2],by simp [k3],λj hj hj'=>?_⟩;cases j with
      | zero =>
       cases hp:place i with
       | none=>simp [hp] at h1
       | some q =>
        obtain ⟨o',m'⟩:=q;simp [hp] at h1;obtain ⟨rfl,rfl⟩:=h1;exact ⟨m',by simp [hp],by simp [Zh h2 a],by simp [Zh h2 a,hsz],by simpa using h3⟩
      | succ j =>
       have q:=k4 j (by simpa using hj) (by simpa using hj');simp only [List.getElem_map] at q;simpa using q
  . cases hb
 | [],_ :: _,_,_,_,_,_,h,_,_,_=>by simp [ZhL] at h
 | _ :: _,[],_,_,_,_,_,h,_,_,_=>by simp [ZhL] at h
theorem ZkB {t:TypeId} {z:LZ} {ps:List (Nat × Nat × X)} {parts:Array (Nat × Operand)} {a:Act} {ρ : X->SV} {l:Ls} (hρ : ∀ p ∈ ps,R w E n ok (ρ p.2.2) (evX a p.2.2))
 (hc:cmpB P t z ps parts=true) (hb:bld ρ (lit z) ps=some l) :
 ∃ y,(Instr.build t (parts.map λ(i,x)=>(i,a.eval x))).run P w = .ok y w/\R w E n ok (.agg l) y:=by
 unfold cmpB at hc;split at hc
 . rename_i zv place hz hp;simp only [Bool.and_eq_true] at hc;have hzl:=WO hc.1;have hRz:RL w E n ok (lit z) z:=by rw [ZcS];exact ZDj z
   obtain ⟨k1,r,k2,k3,k4⟩:=ZlP (w:=w) (E:=E) (n:=n) (ok:=ok) ps parts.toList (lit z) z z.length l hρ hc.2 rfl hRz (ZA7 ps hb)
   have hf:=Zgj place r (ps.map λp=>(p.1,evX a p.2.2)) zv.cells (by simp [k3]) (λi h h'=>by
    obtain ⟨m,q1,q2,q3,q4⟩:=k4 i h h'
    exact ⟨m,q1,q2,q3,by rw [<- Array.length_toList,hzl];exact q4⟩)
   refine ⟨_,run_build w t _ _ (by rw [Zsn hz hp];rw [show (parts.map λ(i,x)=>(i,a.eval x)).toList=r from by simp [k2]];exact hf),?_⟩;simp only [R];exact ⟨_,rfl,by rw [hzl];exact k1⟩
 . cases hc
end
def UC:Option X->Option Operand->Bool
 | none,none=>true
 | some x,some y=>Xb x y
 | _,_=>false
def ZEd (ng:Bool) (b:BinOp):Bool:=match ng,b with | false,.eql | true,.neq=>true | _,_=>false
def ZT (P:Program):SI->Op->Bool
 | .mv x,.move y=>Xb x y
 | .mv x,.assign y=>Xb x y
 | .pick c a b,.pick c' a' b'=>Xb c c' && Xb a a' && Xb b b'
 | .box x _ T,.box T' x'=>T == T' && Xb x x'
 | .alloc z T,.alloc T'=>T == T' && (match YN P T with | some v=>Zuk v.cells.toList z | none=>false)
 | .build z ps,.build t parts=>cmpB P t z ps parts
 | .bsl m T ps,.buildSlice t len parts=>(match P.underlying t with | some (.slice e)=>e == T | _=>false) && XT P T == some m && decide (len * m<=2 ^ 24) && ps.length == len && m != 0 &&
  (match YN P T with | some v=>v.cells.size == m | none=>false) && Vr ps (parts.toList.map (·.2)) && parts.toList.map (·.1) == List.range len
 | .ld x m ag,.load t y=>Xb x y && ZcO P t == some ag && XT P t == some m
 | .st x y m,.store t a v=>Xb x a && Xb y v && XT P t == some m
 | .nilc x,.nilCheck y=>Xb x y
 | .bin b x y,.binOp b' _ x' y' _=>b == b' && Xb x x' && Xb y y'
 | .div b x y,.binOp b' _ x' y' _=>b == b' && (b == .quo || b == .rem) && Xb x x' && Xb y y'
 | .un u x,.unOp u' _ y=>u == u' && Xb x y
 | .eqs ng ag cls x y,.binOp b t x' y' _=>ZEd ng b && eqT P 50 t == some cls && !(P.eqGuardType P.depth t) && ZcO P t == some ag && (ag || cls == [0]) && Xb x x' && Xb y y'
 | .addo x o,.fieldAddr s y f=>Xb x y && Zr9 P s f == some o
 | .fld x o m ag,.field s y f=>Xb x y && (match Zr4 P s f with | some (o',t)=>o' == o && ZcO P t == some ag && XT P t == some m | none=>false)
 | .idx x i len m ag,.index t y j=>Xb x y && Xb i j && (match P.underlying t with | some (.array len' e)=>len' == len && XT P e == some m && ZcO P e == some ag | _=>false)
 | .ixa x i len m,.indexAddr t y j=>Xb x y && Xb i j && (match P.underlying t with | some (.array len' e)=>len' == len && XT P e == some m | _=>false)
 | .ixs x i m,.indexAddr t y j=>Xb x y && Xb i j && (match P.underlying t with | some (.slice e)=>XT P e == some m | _=>false)
 | .len x,.call ⟨.builtin .len,as,ts⟩=>(match as.toList,ts[0]? with | [y],some t=>Xb x y && (match P.underlying t with | some (.slice _)=>true | _=>false) | _,_=>false)
 | .app m b T x y,.call ⟨.builtin .append,as,ts⟩=>(match as.toList,ts.toList with | [x',y'],[t,t']=>t == t' && Xb x x' && Xb y y' && (match P.underlying t with | some (.slice e)=>e == T | _=>false) | _,_=>false) && XT P T == some m && W8 P T == some b && Nat.blt 0 b && (YN P T).isSome
 | .cln m b T x y,.call ⟨.builtin .append,as,ts⟩=>(match as.toList,ts.toList with | [x',y'],[t,t']=>t == t' && Xb x x' && Xb y y' && (match P.underlying t with | some (.slice e)=>e == T | _=>false) | _,_=>false) && XT P T == some m && W8 P T == some b && Nat.blt 0 b && (match YN P T with | some z=>z.cells.size == m | none=>false) && Nat.blt 0 m
 | .appm m b T x y,.call ⟨.builtin .append,as,ts⟩=>(match as.toList,ts.toList with | [x',y'],[t,t']=>t == t' && Xb x x' && Xb y y' && (match P.underlying t with | some (.slice e)=>e == T | _=>false) | _,_=>false) && XT P T == some m && W8 P T == some b && Nat.blt 0 b && (match YN P T with | some z=>z.cells.size == m | none=>false) && Nat.blt 0 m
 | .cpy m x y,.call ⟨.builtin .copy,as,ts⟩=>(match as.toList,ts[0]? with | [x',y'],some t=>Xb x x' && Xb y y' && (match P.underlying t with | some (.slice e)=>XT P e == some m | _=>false) | _,_=>false)
 | .mks m b z T x,.makeSlice t y y'=>Xb x y && Xb x y' && (match P.underlying t with | some (.slice e)=>e == T | _=>false) && XT P T == some m && W8 P T == some b && Nat.blt 0 b && Nat.blt 0 m && (match YN P T with | some v=>Zuk v.cells.toList z && v.cells.size == m | none=>false)
 | .isn x,.binOp b t x' y _=>(match b with | .eql=>true | _=>false) && Xb x x' && (match y with | .const (.slice none 0 0)=>true | _=>false) && (match P.underlying t with | some (.slice _)=>true | _=>false)
 | .slc x h k,.slice t y none (some h') (some k')=>Xb x y && Xb h h' && Xb k k' && (match P.underlying t with | some (.slice e)=>(P.info? e).isSome | _=>false)
 | .sub m x lo hi,.slice t y lo' hi' none=>Xb x y && UC lo lo' && UC hi hi' && (match P.underlying t with | some (.slice e)=>XT P e == some m | _=>false)
 | .mm mx xs,.call ⟨.builtin b,as,_⟩=>(match b with | .max=>mx | .min=>!mx | _=>false) && Vr xs as.toList
 | .call f xs,.call ⟨.value (.func g),as,_⟩=>f == g && Vr xs as.toList
 | .calv x xs,.call ⟨.value y,as,_⟩=>Xb x y && Vr xs as.toList
 | .callm f xs,.call ⟨.value (.func g),as,_⟩=>f == g && Vr xs as.toList
 | .calvm x xs,.call ⟨.value y,as,_⟩=>Xb x y && Vr xs as.toList
 | .mkf f cs,.makeFunc fn first cap=>(match fn with | .func g=>f == g | _=>false) && first.isEmpty && Vr cs cap.toList
 | .conv k x,.convert s d y=>Xb x y && (P.underlying s).isSome && (match P.underlying d with | some (.int k')=>k == k' | _=>false)
 | .ext x i,.extract y j=>Xb x y && i == j
 | _,_=>false
section
variable {P:Program} {w:World} {E:Env} {n:Nat->Prop} {ok:Nat->Prop}
theorem ZmQ (mx:Bool):∀ (l:Ls) (ys:LZ) (k:IntKind) (x z:Int),RL w E n ok l ys->mmf mx x l=some z ->
 ((ys.foldlM (if mx then Builtin.max2 else Builtin.min2) (.int k x)).run P w = .ok (.int k z) w)
 | [],ys,k,x,z,h,hz=>by simp only [RL] at h;subst h;simp [mmf] at hz;subst hz;simp
 | s :: l,ys,k,x,z,h,hz=>by
  simp only [RL] at h;obtain ⟨y,r,rfl,h1,h2⟩:=h;cases s<;>try (simp [mmf] at hz;done)
  rename_i u;cases u<;>try (simp [mmf] at hz;done)
  rename_i k' y';simp only [R] at h1;subst h1;cases mx
  . simp only [mmf] at hz;have:=ZmQ false l r k (min x y') z h2 hz;simp only [List.foldlM_cons,Sem.run_bind] at this ⊢;have e:((if false=true then Builtin.max2 else Builtin.min2) (.int k x) (.int k' y')).run P w = .ok (.int k (min x y')) w:=by
     simp only [Bool.false_eq_true,if_false,Builtin.min2,Sem.run_pure];congr 2;omega
    rw [e];simpa using this
  . simp only [mmf] at hz;have:=ZmQ true l r k (max x y') z h2 hz;simp only [List.foldlM_cons,Sem.run_bind,if_true] at this ⊢;have e:(Builtin.max2 (.int k x) (.int k' y')).run P w = .ok (.int k (max x y')) w:=by
     simp only [Builtin.max2,Sem.run_pure];congr 2;omega
    rw [e];simpa using this
theorem Zah {ρ : X->SV} {a:Act} (l:List X) (hρ : ∀ x ∈ l,R w E n ok (ρ x) (evX a x)):RL w E n ok (U6 ρ l) (l.map (evX a)):=by
 induction l with
 | nil=>simp [U6,RL]
 | cons x l ih=>simp only [U6,List.map_cons,RL];exact ⟨_,_,rfl,hρ x (by simp),ih (λy hy=>hρ y (by simp [hy]))⟩
theorem ZuR:∀ {cls:List Nat} {l l':Ls} {ys ys':LZ} {r:Bool},RL w E n ok l ys->RL w E n ok l' ys'->ZhR cls l l'=some r->Vk cls ys ys'=some r
 | [],[],[],ys,ys',r,h1,h2,h=>by simp only [RL] at h1 h2;subst h1;subst h2;simpa [ZhR,Vk] using h
 | c :: cs,x :: xs,y :: ys,zs,zs',r,h1,h2,h=>by
  simp only [RL] at h1 h2;obtain ⟨u,us,rfl,h1,h3⟩:=h1;obtain ⟨v,vs,rfl,h2,h4⟩:=h2;simp only [ZhR] at h;obtain ⟨p,q,k1,k2,k3⟩:=VZ h;have ih:=ZuR h3 h4 k2;have hc:Zo4 c u v=some p:=by
   unfold eqC at k1;split at k1
   . simp only [R] at h1 h2;subst h1;subst h2;exact k1
   . simp only [R] at h1 h2;subst h1;subst h2;rename_i k a j b;cases hk:Zd9 k j<;>rw [hk] at k1<;>simp at k1
     have:=ZfJ hk;subst this;simp [Zo4,kbq,k1]
   . simp only [R] at h1 h2;subst h1;subst h2;exact k1
   . cases k1
  simp only [Vk,hc,ih,eqA,k3]
 | [],_ :: _,_,_,_,_,_,_,h=>by simp [ZhR] at h
 | [],[],_ :: _,_,_,_,_,_,h=>by simp [ZhR] at h
 | _ :: _,[],_,_,_,_,_,_,h=>by simp [ZhR] at h
 | _ :: _,_ :: _,[],_,_,_,_,_,h=>by simp [ZhR] at h
theorem Zzi {ng ag:Bool} {b:BinOp} {T:TypeId} {cls:List Nat} {s t r:SV} {x y:Value} (hx:R w E n ok s x) (hy:R w E n ok t y) (h:eqR ng (Zt0 cls ag s t)=some r)
 (hb:ZEd ng b=true) (hT:eqT P 50 T=some cls) (hg:P.eqGuardType P.depth T=false) (ha:ZcO P T=some ag) (ha':ag=true\/cls=[0]) (ox oy:Operand) :
 ∃ v,(do eqGuard b T ox oy x y;binOp b T x y:Sem Value).run P w = .ok v w/\R w E n ok r v:=by
 have key:∃ q,Zt0 cls ag s t=some q/\(eqGuard b T ox oy x y).run P w = .ok () w/\(binOp b T x y).run P w = .ok (.bool (if ng then !q else q)) w:=by
  cases hq:Zt0 cls ag s t with
  | none=>rw [hq] at h;cases ng<;>simp [eqR,ngB] at h
  | some q =>
   refine ⟨q,rfl,?_⟩;obtain ⟨ag',a1,a2,a3⟩:=ZfM 50 T cls hT Op.maxDepth (by decide);rw [ha] at a1;simp at a1;subst a1;unfold Zt0 at hq;split at hq
   . rename_i l1 l2;simp only [R] at hx hy;obtain ⟨c1,rfl,hx⟩:=hx;obtain ⟨c2,rfl,hy⟩:=hy;have:=a3 w _ _ _ (ZuR hx hy hq);simp only [mkV,if_true] at this;have hrun:(Op.equal T (.agg c1) (.agg c2)).run P w = .ok q w:=this;refine ⟨?_,?_⟩
     . unfold eqGuard;split<;>simp [Sem.run_bind,hg]
     . cases ng<;>cases b<;>simp [ZEd] at hb<;>simp [binOp,Sem.run_bind,hrun]
   . rename_i u v;simp only [R] at hx hy;subst hx;subst hy;simp at hq;subst hq;rcases ha' with ha' | rfl
     . cases ha'
     . have:=a3 w [.bool u] [.bool v] (u == v) (by simp [Vk,Zo4,eqA]);simp only [mkV,Bool.false_eq_true,if_false,List.headD_cons] at this;have hrun:(Op.equal T (.bool u) (.bool v)).run P w = .ok (u == v) w:=this;refine ⟨?_,?_⟩
       . unfold eqGuard;split<;>simp
       . cases ng<;>cases b<;>simp [ZEd] at hb<;>simp [binOp,Sem.run_bind,hrun]
   . cases hq
 obtain ⟨q,h0,k1,k2⟩:=key;refine ⟨.bool (if ng then !q else q),by rw [Sem.run_bind,k1,Result.andThen_ok,k2],?_⟩;rw [h0] at h;cases ng<;>simp [eqR,ngB] at h<;>subst h<;>simp [R]
theorem Ztl {b:BinOp} {s t r:SV} {x y:Value} (hx:R w E n ok s x) (hy:R w E n ok t y) (h:ZAC b s t=some r) (T:TypeId) (ox oy:Operand) :
 ∃ v,(do eqGuard b T ox oy x y;binOp b T x y:Sem Value).run P w = .ok v w/\R w E n ok r v:=by
 unfold ZAC at h;split at h
 . rename_i k u j v;simp only [R] at hx hy;subst hx;subst hy;cases hk:Zd9 k j
   . simp [hk] at h
   . simp only [hk,cond_true] at h;have:=ZfJ hk;subst this;have hg:(eqGuard b T ox oy (.int k u) (.int k v)).run P w = .ok () w:=by
      unfold eqGuard;split<;>simp
     rw [Sem.run_bind,hg,Result.andThen_ok];cases b<;>simp [ZhZ] at h<;>subst h <;>
      exact ⟨_,by simp [binOp,Op.intArith,Op.intCmp];rfl,by simp [R]⟩
 . cases h
end
section
variable {P:Program} {w:World} {E:Env} {n:Nat->Prop} {ok:Nat->Prop}
theorem Zej {l:Ls} {cs:Array Value} {o m:Nat} {ag:Bool} {s:SV} (h:RL w E n ok l cs.toList) (hp:Wg l o m ag=some s) :
 ∃ c,(ag=false->cs[o]? = some c)/\R w E n ok s (if ag then .agg (cs.extract o (o+m)) else c):=by
 cases ag
 . simp only [Wg,Zhf] at hp;obtain ⟨y,h1,h2⟩:=Vz h hp;exact ⟨y,λ_=>by simpa using h1,by simpa using h2⟩
 . simp only [Wg] at hp;cases hb:Nat.ble (o+m) l.length
   . simp [hb] at hp
   . simp only [hb,cond_true,Option.some.injEq] at hp;subst hp;refine ⟨undef,(λh=>by cases h),?_⟩;simp only [if_true,R];refine ⟨_,rfl,?_⟩;have:=X8 m (Vb o h);simpa [Array.toList_extract,List.extract] using this
theorem ZjR {s r:SV} {x:Value} (h:R w E n ok s x) (hs:Ze6 s=some r):(∃ a,x = .pointer (some a))/\R w E n ok r x:=by
 cases s<;>simp [Ze6] at hs<;>subst hs
 case p k q=>simp only [R] at h ⊢;exact ⟨⟨_,h.2⟩,h⟩
 case pr k v m i q=>have h':=h;simp only [R] at h;obtain ⟨_,_,b,l,c,_,h⟩:=h;exact ⟨⟨_,h⟩,h'⟩
 case ps row q=>have h':=h;simp only [R] at h;obtain ⟨b,off,h,_⟩:=h;exact ⟨⟨_,h⟩,h'⟩
theorem Zjz {s r:SV} {x:Value} {o S f:Nat} (h:R w E n ok s x) (hs:U2 o s=some r) (ho:Zr9 P S f=some o) :
 ∃ y,(Instr.fieldAt S x f).run P w = .ok y w/\R w E n ok r y:=by
 cases s<;>simp [U2] at hs<;>subst hs<;>simp only [R] at h
 case p k q=>obtain ⟨h1,rfl⟩:=h;exact ⟨_,Uu ho,by simp [R,h1]⟩
 case pr k v m i q=>obtain ⟨h1,h0,b,l,c,h2,rfl⟩:=h;exact ⟨_,Uu ho,by simp only [R];exact ⟨h1,h0,b,l,c,h2,by rw [Nat.add_assoc]⟩⟩
 case ps row q=>obtain ⟨b,off,rfl,h2⟩:=h;exact ⟨_,Uu ho,by simp only [R];exact ⟨b,off,by rw [Nat.add_assoc],h2⟩⟩
def opX:SI->List X
 | .mv x | .nilc x | .un _ x | .addo x _ | .fld x _ _ _ | .len x | .conv _ x | .ext x _ | .ld x _ _ | .box x _ _=>[x]
 | .build _ ps=>ps.map (·.2.2)
 | .bsl _ _ ps=>ps
 | .bin _ x y | .div _ x y | .eqs _ _ _ x y | .st x y _ | .app _ _ _ x y | .cln _ _ _ x y | .appm _ _ _ x y | .cpy _ x y | .idx x y _ _ _ | .ixa x y _ _ | .ixs x y _=>[x,y]
 | .mm _ xs=>xs
 | .mkf _ cs=>cs
 | .call _ xs=>xs
 | .calv x xs=>x :: xs
 | .callm _ xs=>xs
 | .calvm x xs=>x :: xs
 | .pick c a b=>[c,a,b]
 | .mks _ _ _ _ x | .isn x=>[x]
 | .slc x h k=>[x,h,k]
 | .sub _ x lo hi=>x :: (lo.toList ++ hi.toList)
 | .alloc _ _ | .raw _ _=>[]
 | .rv _ xs=>xs
 | .rb _ x xs=>x :: xs
theorem ZBX {o:Oper} {a:Act} {ρ : X->SV} {i:SI} {s:SV} (hρ : ∀ x ∈ opX i,R w E n ok (ρ x) (evX a x)) (hc:ZT P i o.op=true) (hs:pv ρ i=some s) :
 ∃ y,(execOp a.eval o).run P w = .ok (.value y) w/\R w E n ok s y:=by
 obtain ⟨dst,op,ty,pos,after,guard⟩:=o;cases i<;>try (simp [pv] at hs;done)
 case mv x =>
  simp only [pv,Option.some.injEq] at hs;subst hs;cases op<;>simp [ZT] at hc<;>exact ⟨_,by simp only [execOp,Zh hc a];rfl,hρ x (by simp [opX])⟩
 case build z ps =>
  simp only [pv,ZDu] at hs;split at hs
  . rename_i l hl;simp at hs;subst hs;cases op<;>simp [ZT] at hc
    obtain ⟨y,h1,h2⟩:=ZkB (λp hp=>hρ p.2.2 (by simp only [opX,List.mem_map];exact ⟨p,hp,rfl⟩)) hc hl;exact ⟨y,by simp only [execOp,Sem.run_bind,h1,Result.andThen_ok,Sem.run_pure],h2⟩
  . cases hs
 case nilc x =>
  simp only [pv] at hs;cases op<;>simp [ZT] at hc
  obtain ⟨⟨ad,h1⟩,h2⟩:=ZjR (hρ x (by simp [opX])) hs;exact ⟨_,by simp [execOp,Zh hc a,h1];rfl,by rw [<- h1];exact h2⟩
 case bin b x y =>
  simp only [pv] at hs;cases op<;>simp [ZT] at hc
  rename_i b' T x' y' T';obtain ⟨⟨rfl,hx⟩,hy⟩:=hc;obtain ⟨v,h1,h2⟩:=Ztl (P:=P) (hρ x (by simp [opX])) (hρ y (by simp [opX])) hs T x' y';exact ⟨v,by simp only [execOp,Zh hx a,Zh hy a];rw [Sem.run_bind,h1];rfl,h2⟩
 case eqs ng ag cls x y =>
  simp only [pv] at hs;cases op<;>simp [ZT] at hc
  rename_i b' T x' y' T';obtain ⟨⟨⟨⟨⟨⟨h1,h2⟩,h3⟩,h4⟩,h5⟩,hx⟩,hy⟩:=hc;obtain ⟨v,k1,k2⟩:=Zzi (P:=P) (hρ x (by simp [opX])) (hρ y (by simp [opX])) hs h1 h2 h3 h4 h5 x' y';exact ⟨v,by simp only [execOp,Zh hx a,Zh hy a];rw [Sem.run_bind,k1];rfl,k2⟩
 case un u x =>
  simp only [pv] at hs;cases op<;>simp [ZT] at hc
  obtain ⟨rfl,hx⟩:=hc;have hr:=hρ x (by simp [opX]);cases hsx:ρ x<;>rw [hsx] at hs hr<;>try (simp [uni] at hs;done)
  rename_i v;simp only [R] at hr;cases v<;>try (simp [uni] at hs;done)
  all_goals
   cases u<;>simp [uni] at hs<;>subst hs
   exact ⟨_,by simp [execOp,Zh hx a,hr,Op.unary,Op.intArith];rfl,by simp [R]⟩
 case addo x off =>
  simp only [pv] at hs;cases op<;>simp [ZT] at hc
  obtain ⟨y,h1,h2⟩:=Zjz (hρ x (by simp [opX])) hs hc.2;exact ⟨y,by simp only [execOp,Zh hc.1 a,Sem.run_bind,h1,Result.andThen_ok,Sem.run_pure],h2⟩
 case fld x off m ag =>
  simp only [pv] at hs;cases op<;>simp [ZT] at hc
  rename_i S y f;obtain ⟨hx,hc⟩:=hc;split at hs
  . rename_i l hl;have hr:=hρ x (by simp [opX]);rw [hl] at hr;simp only [R] at hr;obtain ⟨cs,h1,h2⟩:=hr;cases hf:Zr4 P S f with
    | none=>simp [hf] at hc
    | some q =>
     obtain ⟨o',t⟩:=q;simp [hf] at hc;obtain ⟨⟨rfl,ha⟩,hz⟩:=hc;obtain ⟨c,k1,k2⟩:=Zej h2 hs;exact ⟨_,by simp only [execOp,Zh hx a,h1,Sem.run_bind,Znt hf ha hz c k1,Result.andThen_ok,Sem.run_pure],k2⟩
  . cases hs
 case len x =>
  simp only [pv] at hs;split at hs
  . rename_i m xs hl;simp at hs;subst hs;have hr:=hρ x (by simp [opX]);rw [hl] at hr;simp only [R] at hr;obtain ⟨ad,len,cap,h1,h2,_⟩:=hr;cases op<;>simp [ZT] at hc
    rename_i c;obtain ⟨callee,as,ts⟩:=c;cases callee<;>try (simp at hc;done)
    rename_i b;cases b<;>try (simp at hc;done)
    simp only at hc;split at hc
    . rename_i y t e1 e2;simp only [Bool.and_eq_true] at hc;obtain ⟨hx,hu⟩:=hc;split at hu
      . rename_i e hu';have he:as.map a.eval = #[evX a x]:=by
         apply Array.toList_inj.1;simp [e1,Zh hx a]
        refine ⟨_,by simp [execOp,resolve,he,invoke,builtin,Builtin.len_,e2,run_underlying hu',h1];rfl,?_⟩;simp only [R];rw [h2];rfl
      . cases hu
    . cases hc
  . cases hs
 case mm mx xs =>
  simp only [pv] at hs;have hl:=Zah xs (λx hx=>hρ x (by simpa [opX] using hx));cases op<;>simp [ZT] at hc
  rename_i c;obtain ⟨callee,as,ts⟩:=c;cases callee<;>try (simp at hc;done)
  rename_i b;simp only [Bool.and_eq_true] at hc;have he:(as.map a.eval).toList=xs.map (evX a):=by simp [YS hc.2 a]
  unfold mmS at hs;split at hs
  . rename_i k x r hm;rw [hm] at hl;simp only [RL] at hl;obtain ⟨y,ys,e1,e2,e3⟩:=hl;simp only [R] at e2;subst e2;split at hs
    . rename_i z hz;simp at hs;subst hs;have hrun:=ZmQ (P:=P) mx r ys k x z e3 hz;have hargs:(as.map a.eval)=(Value.int k x :: ys).toArray:=by
       apply Array.toList_inj.1;rw [he,e1]
      cases b<;>simp at hc
      . obtain ⟨rfl,_⟩:=hc;exact ⟨_,by simp only [execOp,resolve,hargs,invoke,builtin,Builtin.max_,Sem.run_bind,Sem.run_pure,Result.andThen_ok];simp only [if_true] at hrun;rw [hrun];rfl,by simp [R]⟩
      . obtain ⟨rfl,_⟩:=hc;exact ⟨_,by simp only [execOp,resolve,hargs,invoke,builtin,Builtin.min_,Sem.run_bind,Sem.run_pure,Result.andThen_ok];simp only [Bool.false_eq_true,if_false] at hrun;rw [hrun];rfl,by simp [R]⟩
    . cases hs
  . cases hs
 case mkf f cs =>
  simp only [pv,Option.some.injEq] at hs;subst hs;cases op<;>simp [ZT] at hc
  rename_i fn first cap;obtain ⟨⟨h1,h2⟩,h3⟩:=hc;cases fn<;>simp at h1
  subst h1;subst h2;refine ⟨_,by simp only [execOp,Instr.makeFunc,Sem.run_bind,Sem.run_pure,Result.andThen_ok];rfl,?_⟩;simp only [R];refine ⟨cap.map a.eval,by simp,?_⟩;have:=Zah cs (λx hx=>hρ x (by simpa [opX] using hx));rw [Array.toList_map,YS h3 a];exact this
 case conv k x =>
  simp only [pv] at hs;split at hs
  . rename_i k0 m hm;simp at hs;subst hs;have hr:=hρ x (by simp [opX]);rw [hm] at hr;simp only [R] at hr;cases op<;>simp [ZT] at hc
    rename_i sT dT y;obtain ⟨⟨hx,hsu⟩,hd⟩:=hc;split at hd
    . rename_i k' hd';simp at hd;subst hd;obtain ⟨ds,hds⟩:=Option.isSome_iff_exists.1 hsu;have hrun:(convert sT dT (.int k0 m)).run P w = .ok (.int k (k.wrap m)) w:=by
       cases ds<;>simp [convert,run_underlying hds,run_underlying hd',Conv.intToInt]
      exact ⟨_,by simp only [execOp,Zh hx a,hr];rw [Sem.run_bind,hrun];rfl,by simp [R]⟩
    . cases hd
  . cases hs
 case ext x j =>
  simp only [pv] at hs;split at hs
  . rename_i l hl;have hr:=hρ x (by simp [opX]);rw [hl] at hr;simp only [R] at hr;obtain ⟨cs,h1,h2⟩:=hr;rw [Zhf] at hs;obtain ⟨y,h3,h4⟩:=Vz h2 hs;cases op<;>simp [ZT] at hc
    obtain ⟨hx,rfl⟩:=hc;have h3':cs[j]? = some y:=by simpa using h3
    exact ⟨y,by simp [execOp,Zh hx a,h1,Instr.extract,h3'],h4⟩
  . cases hs
end
mutual
def KF:SV->Prop
 | .v _=>True
 | .p _ _=>False
 | .agg l=>KFL l
 | .sl _ _ xs=>KFR xs
 | .mr _ _=>False
 | .pr _ _ _ _ _=>False
 | .ms _ _ _ _ _=>False
 | .ps row _=>KFL row
 | .cl _ caps=>KFL caps
 | .tup l=>KFL l
 | .mp _=>False
 | .yl _=>False
 | .ifc _ s=>KF s
 | .q _=>True
 | .gd _ _ _=>False
 | .any=>True
def KFL:Ls->Prop
 | []=>True
 | s :: l=>KF s/\KFL l
def KFR:Rr->Prop
 | []=>True
 | r :: rs=>KFL r/\KFR rs
end
def E0:Env:=⟨λ_=>0,λ_ _=>undef,λ_=>0⟩
section
variable {w:World} {E E':Env} {n n':Nat->Prop} {ok:Nat->Prop}
mutual
theorem Zje:∀ (s:SV) (y:Value),KF s->R w E n ok s y->R w E' n' ok s y
 | .v x,y,_,h=>by simpa [R] using h
 | .p k o,y,k0,h=>by simp [KF] at k0
 | .agg l,y,k0,h=>by simp only [R,KF] at *;obtain ⟨cs,h1,h2⟩:=h;exact ⟨cs,h1,Zcz l _ k0 h2⟩
 | .sl c m xs,y,k0,h=>by
  simp only [R,KF] at *;obtain ⟨a,len,cap,h1,h2,h3,h4,h5⟩:=h;refine ⟨a,len,cap,h1,h2,h3,h4,?_⟩;rcases h5 with h5 | ⟨b,off,h5,h6⟩
  . exact .inl h5
  . exact .inr ⟨b,off,h5,ZCZ b m xs _ k0 h6⟩
 | .mr k v,y,k0,h=>by simp [KF] at k0
 | .pr k v m i o,y,k0,h=>by simp [KF] at k0
 | .ms k v m i o,y,k0,h=>by simp [KF] at k0
 | .ps row o,y,k0,h=>by
  simp only [R,KF] at *;obtain ⟨b,off,h1,cs,h2,h3⟩:=h;exact ⟨b,off,h1,cs,Zcz row _ k0 h2,h3⟩
 | .cl f caps,y,k0,h=>by simp only [R,KF] at *;obtain ⟨cs,h1,h2⟩:=h;exact ⟨cs,h1,Zcz caps _ k0 h2⟩
 | .tup l,y,k0,h=>by simp only [R,KF] at *;obtain ⟨cs,h1,h2⟩:=h;exact ⟨cs,h1,Zcz l _ k0 h2⟩
 | .mp k,y,k0,h=>by simp [KF] at k0
 | .yl k,y,k0,h=>by simp [KF] at k0
 | .ifc T s,y,k0,h=>by simp only [R,KF] at *;obtain ⟨x,h1,h2⟩:=h;exact ⟨x,h1,Zje s x k0 h2⟩
 | .q φ,y,_,h=>by simpa [R] using h
 | .gd _ _ _,y,k0,h=>by simp [KF] at k0
 | .any,y,_,h=>by simp [R]
theorem Zcz:∀ (l:Ls) (ys:LZ),KFL l->RL w E n ok l ys->RL w E' n' ok l ys
 | [],ys,_,h=>by simpa [RL] using h
 | s :: l,ys,k0,h=>by
  simp only [RL,KFL] at *;obtain ⟨y,r,h1,h2,h3⟩:=h;exact ⟨y,r,h1,Zje s y k0.1 h2,Zcz l r k0.2 h3⟩
theorem ZCZ (b m:Nat):∀ (xs:Rr) (off:Nat),KFR xs->RR w E n ok b m xs off->RR w E' n' ok b m xs off
 | [],off,_,h=>by simp [RR]
 | row :: rs,off,k0,h=>by
  simp only [RR,KFR] at *;obtain ⟨h0,⟨cs,h1,h2⟩,h3⟩:=h;exact ⟨h0,⟨cs,Zcz row cs k0.1 h1,h2⟩,ZCZ b m rs _ k0.2 h3⟩
end
end
def Z4 (P:Program) (f:FuncId):Bool:=match P.funcs[f]? with | some fn=>!(fn.name == "runtime.NumGoroutine") && fn.body.isSome | none=>false
structure Ct (P:Program) (f:FuncId) (args:Ls) (res:SV):Prop where
 bd:Z4 P f=true
 ka:KFL args
 kr:KF res
 run:∀ w ok vs,GS w ok->RL w E0 (λ_=>False) ok args vs->Calls P f vs.toArray w λe w' =>
  ∃ y,e = .returned y/\R w' E0 (λ_=>False) (λb=>ok b\/w.heap.size<=b) res y/\Below w.heap.size w w'
structure Ins where
 d:Option Nat
 i:SI
 g:Option (Nat × Bool)
 af:List Nat
def Xw (t:Nat):List Nat->Bool
 | []=>false
 | u :: r=>bif Nat.beq t u then true else Xw t r
def gtS:Option Ls->SV
 | some l=>.ps l 0
 | none=>.any
def rd (fr:Lf):X->SV
 | .t n=>lk n fr
 | .c x=>.v x
 | .f i=>.cl i []
 | .g i=>gtS (GT i)
theorem gt_ok {w:World} {E:Env} {n ok:Nat->Prop} (h:GS w ok) (i:Nat):R w E n ok (gtS (GT i)) (.pointer (some ⟨i,0,none⟩)):=by
 cases hq:GT i with
 | none=>simp only [gtS,R]
 | some l =>
  obtain ⟨_,_,cs,h3,h4⟩:=h i l hq;simp only [gtS,R];exact ⟨i,0,rfl,cs,h3 _ _ _ _,h4⟩
def bbq:Bool->Bool->Bool
 | true,true=>true
 | false,false=>true
 | _,_=>false
def ZAY:Bool->SV->(Nat->Bool->Nat->Bool->Bool)->Nat->Bool->Bool
 | true,_,_,_,_=>true
 | false,.gd j' w' _,h,j,w=>h j' w' j w
 | false,_,_,_,_=>false
def Zh0:Bool->Bool->Bool->Bool
 | true,a,b=>bbq a b
 | false,_,_=>false
def alw:Nat->Lf->Nat->Bool->Nat->Bool->Bool
 | 0,_,_,_,_,_=>false
 | f+1,fr,j0,w0,j,w=>ZAY (Zh0 (Nat.beq j0 j) w0 w) (lk j0 fr) (alw f fr) j w
def ZfI:Bool->SV->SV
 | true,s=>s
 | false,_=>.any
def Xl (g:Option (Nat × Bool)) (fr:Lf):SV->SV
 | .gd j w s=>match g with
  | none=>.any
  | some (j0,w0)=>ZfI (alw 8 fr j0 w0 j w) s
 | s=>s
def rdG (g:Option (Nat × Bool)) (fr:Lf) (x:X):SV:=Xl g fr (rd fr x)
def geP (g:Option (Nat × Bool)) (fr:Lf):Prop :=
 match g with
 | none=>True
 | some (j,w)=>ge fr j w
def Zf7 (g:Option (Nat × Bool)) (fr:Lf) (p:Prop):Prop :=
 match g with
 | none=>p
 | some (j,w)=>ge fr j w->p
theorem Z1 {g:Option (Nat × Bool)} {fr:Lf} {p:Prop}:Zf7 g fr p↔(geP g fr->p):=by
 cases g<;>simp [Zf7,geP]
abbrev RK:=Ex->St->Prop
abbrev KT:=St->RK->Prop
def gdS:SV->Bool
 | .gd _ _ _=>true
 | .v _=>false
 | .p _ _=>false
 | .agg _=>false
 | .sl _ _ _=>false
 | .mr _ _=>false
 | .pr _ _ _ _ _=>false
 | .ms _ _ _ _ _=>false
 | .ps _ _=>false
 | .cl _ _=>false
 | .tup _=>false
 | .q _=>false
 | .mp _=>false
 | .yl _=>false
 | .ifc _ _=>false
 | .any=>false
theorem Zkl {s:SV} (h:gdS s=false):∀ j b u,s≠.gd j b u:=by rintro j b u rfl;cases h
def ZBb:Bool->Bool->Bool->Nat->SV->St->KT->RK->Prop
 | false,true,false,t,s,σ,r,K=>r ⟨(t,s) :: σ.fr,σ.hp,σ.n,σ.N,σ.gs⟩ K
 | _,_,_,_,_,_,_,_=>False
def ZD0:Bool->Bool->Bool->Nat->Nat->Bool->SV->St->KT->RK->Prop
 | false,true,false,t,j,w,s,σ,r,K=>r ⟨(t,.gd j w s) :: σ.fr,σ.hp,σ.n,σ.N,j :: σ.gs⟩ K
 | _,_,_,_,_,_,_,_,_,_=>False
def YE (d:Option Nat) (s:SV) (g:Option (Nat × Bool)) (σ : St) (r:KT) (K:RK):Prop :=
 match d,g with
 | none,none=>r σ K
 | none,some _=>False
 | some t,none=>ZBb (Xw t σ.gs) (Nat.blt t σ.N) (gdS s) t s σ r K
 | some t,some (j,w)=>ZD0 (Xw t σ.gs) (Nat.blt t σ.N) (Nat.beq t j) t j w s σ r K
def WC (o:Option SV) (d:Option Nat) (g:Option (Nat × Bool)) (σ : St) (r:KT) (K:RK):Prop :=
 match o with
 | some s=>YE d s g σ r K
 | none=>False
mutual
def FLT:SV->Prop
 | .v _=>True
 | .agg l=>ZzZ l
 | .tup l=>ZzZ l
 | .any=>True
 | .p _ _=>False
 | .sl _ _ _=>False
 | .mr _ _=>False
 | .pr _ _ _ _ _=>False
 | .ms _ _ _ _ _=>False
 | .ps _ _=>False
 | .cl _ _=>False
 | .mp _=>False
 | .yl _=>False
 | .ifc _ s=>FLT s
 | .q _=>False
 | .gd _ _ _=>False
def ZzZ:Ls->Prop
 | []=>True
 | s :: l=>FLT s/\ZzZ l
end
def ZcD (g:SV->SV):Ls->Ls
 | []=>[]
 | s :: l=>g s :: ZcD g l
def vwN (b:Bool) (m:Nat) (xs:Rr):SV :=
 match b with
 | true=>.sl false m xs
 | false=>.any
def vwR (b c:Bool) (m m':Nat) (xs:Rr) (q:Option Rr):SV :=
 match b with
 | true=>.sl false m xs
 | false=>match c with
  | true=>match q with
   | some r=>.sl false m' r
   | none=>.any
  | false=>.any
def We (a b:Bool):Bool:=bif a then b else false
theorem Yt {a b:Bool} (h:We a b=true):a=true/\b=true:=by cases a<;>first | exact ⟨rfl,h⟩ | cases h
def vwS (hp:Lh) (g:SV->SV):SV->SV
 | .p k o=>match lkh k hp with
  | .cells l _=>.ps (ZcD g l) o
  | _=>.any
 | .mr k v=>match lkh k hp with
  | .row v' m xs _=>vwN (Nat.beq v v') m xs
  | _=>.any
 | .agg l=>.agg (ZcD g l)
 | .tup l=>.tup (ZcD g l)
 | .cl f l=>.cl f (ZcD g l)
 | .ps l o=>.ps (ZcD g l) o
 | .v x=>.v x
 | .sl c m xs=>.sl c m xs
 | .q φ=>.q φ
 | .mp _=>.any
 | .yl _=>.any
 | .ifc T s=>.ifc T (g s)
 | .pr k v m i o=>.pr k v m i o
 | .ms k v m i o=>.ms k v m i o
 | .gd _ _ _=>.any
 | .any=>.any
def vw0:SV->SV
 | .v x=>.v x
 | .sl c m xs=>.sl c m xs
 | .q φ=>.q φ
 | _=>.any
def vw1 (hp:Lh) (s:SV):SV:=vwS hp vw0 s
def vw2 (hp:Lh) (s:SV):SV:=vwS hp (vw1 hp) s
def vw3 (hp:Lh) (s:SV):SV:=vwS hp (vw2 hp) s
def vw4 (hp:Lh) (s:SV):SV:=vwS hp (vw3 hp) s
def ZAB (P:Program) (g:Option (Nat × Bool)) (f:FuncId) (args:Ls) (d:Option Nat) (σ : St) (r:KT) (K:RK):Prop :=
 ∃ res,(Zf7 g σ.fr (Ct P f args res)\/(FLT res/\Zf7 g σ.fr (Ct P f (ZcD (vw4 σ.hp) args) res)))/\YE d res g σ r K
def IXS (g:Option (Nat × Bool)) (xs:Rr) (i:Int) (d:Option Nat) (σ : St) (r:KT) (K:RK):Prop :=
 ∃ row,Zf7 g σ.fr (∃ n:Nat,i=(n:Int)/\xs[n]? = some row)/\YE d (.ps row 0) g σ r K
def IXR (g:Option (Nat × Bool)) (k v m len:Nat) (i:Int) (d:Option Nat) (σ : St) (r:KT) (K:RK):Prop :=
 ∃ n:Nat,Zf7 g σ.fr (i=(n:Int)/\n < len)/\YE d (.pr k v m n 0) g σ r K
def IXA (g:Option (Nat × Bool)) (len:Nat) (i:Int) (F:Nat->Option SV) (d:Option Nat) (σ : St) (r:KT) (K:RK):Prop :=
 ∃ n:Nat,Zf7 g σ.fr (i=(n:Int)/\n < len)/\WC (F n) d g σ r K
def LDR (g:Option (Nat × Bool)) (xs:Rr) (i o m:Nat) (ag:Bool) (d:Option Nat) (σ : St) (r:KT) (K:RK):Prop :=
 ∃ row,Zf7 g σ.fr (xs[i]? = some row)/\WC (Wg row o m ag) d g σ r K
def ZvE (b:BinOp) (k:IntKind) (x y:Int):Int:=match b with | .quo=>k.wrap (x.tdiv y) | _=>x.tmod y
def DIV (g:Option (Nat × Bool)) (b:BinOp) (k:IntKind) (x y:Int) (d:Option Nat) (σ : St) (r:KT) (K:RK):Prop :=
 Zf7 g σ.fr (y≠0)/\YE d (.v (.int k (ZvE b k x y))) g σ r K
def Ziu (a b:SV):Option SV :=
 match a,b with
 | .v (.bool x),.v (.bool y)=>some (.v (.bool (x || y)))
 | .v (.bool x),.v (.tuple _)=>bif x then some (.v (.bool true)) else none
 | _,_=>none
def ZfT (a b:SV):Option SV :=
 match a,b with
 | .v (.bool x),.v (.bool y)=>some (.v (.bool (x && y)))
 | .v (.bool x),.v (.tuple _)=>bif x then none else some (.v (.bool false))
 | _,_=>none
def Zh4 (fr:Lf) (g:Option (Nat × Bool)) (c a b:X):Option SV :=
 match c,a,b with
 | .t t,.c (.bool true),b=>Ziu (rdG g fr (.t t)) (rdG (some (t,false)) fr b)
 | .t t,a,.c (.bool false)=>ZfT (rdG g fr (.t t)) (rdG (some (t,true)) fr a)
 | _,_,_=>none
def ZAA:Option Ls->Nat->Option Rr->Option Rr
 | some l,m,some ls=>bif chk l m then some (l :: ls) else none
 | _,_,_=>none
def Zjd (ρ : X->SV) (m:Nat):List X->Option Rr
 | []=>some []
 | x :: r=>ZAA (YC (ρ x)) m (Zjd ρ m r)
def ZAX (m:Nat):Option Rr->Option SV
 | some rows=>some (.sl true m rows)
 | none=>none
section
variable (P:Program) (g:Option (Nat × Bool)) (d:Option Nat) (σ : St) (r:KT) (K:RK)
def Zoz (s:SV) (args:Ls):Prop :=
 match s with
 | .cl f caps=>ZAB P g f (args ++ caps) d σ r K
 | _=>False
def ZDw (b:Bool) (k v m len:Nat) (j:Int):Prop :=
 match b with
 | true=>IXR g k v m len j d σ r K
 | false=>False
def ZDT (hb:HB) (k v m:Nat) (j:Int):Prop :=
 match hb with
 | .row v' m' xs _=>ZDw g d σ r K (We (Nat.beq m m') (Nat.beq v v')) k v m xs.length j
 | _=>False
def ZBG (b:Bool) (xs:Rr) (j:Int):Prop :=
 match b with
 | true=>IXS g xs j d σ r K
 | false=>False
def ZCw (i x:SV) (m:Nat):Prop :=
 match i,x with
 | .v (.int _ j),.sl _ m' xs=>ZBG g d σ r K (Nat.beq m m') xs j
 | .v (.int _ j),.mr k v=>ZDT g d σ r K (lkh k σ.hp) k v m j
 | _,_=>False
def ZEg (i x:SV) (len m:Nat):Prop :=
 match i with
 | .v (.int _ j)=>IXA g len j (λn=>U2 (n * m) x) d σ r K
 | _=>False
def ZEa (i x:SV) (len m:Nat) (ag:Bool):Prop :=
 match i,x with
 | .v (.int _ j),.agg l=>IXA g len j (λn=>Wg l (n * m) m ag) d σ r K
 | _,_=>False
def ldC (hb:HB) (o m:Nat) (ag:Bool):Prop :=
 match hb with
 | .cells l _=>WC (Wg l o m ag) d g σ r K
 | _=>False
def ldB (b:Bool) (xs:Rr) (i o m:Nat) (ag:Bool):Prop :=
 match b with
 | true=>LDR g xs i o m ag d σ r K
 | false=>False
def ldR (k:Nat) (hb:HB) (v m' i o m:Nat) (ag:Bool):Prop :=
 match hb with
 | .row v' m'' xs _=>ldB g d σ r K (We (Nat.beq m' m'') (Nat.beq v v')) xs i o m ag
 | _=>False
def ldK (x:SV) (m:Nat) (ag:Bool):Prop :=
 match x with
 | .p k o=>ldC g d σ r K (lkh k σ.hp) o m ag
 | .ps row o=>WC (Wg row o m ag) d g σ r K
 | .pr k v m' i o=>ldR g d σ r K k (lkh k σ.hp) v m' i o m ag
 | _=>False
def ZDb (c:Bool) (b:BinOp) (k:IntKind) (u v:Int):Prop :=
 match c with
 | true=>DIV g b k u v d σ r K
 | false=>False
def ZDZ (b:BinOp) (x y:SV):Prop :=
 match x,y with
 | .v (.int k u),.v (.int j v)=>ZDb g d σ r K (Zd9 k j) b k u v
 | _,_=>False
def ZDl (b:Bool) (xs:Rr):Prop :=
 match b with
 | true=>YE d (.v (.int .i64 xs.length)) g σ r K
 | false=>False
def ZEi (k:Nat) (hb:HB) (v:Nat):Prop :=
 match hb with
 | .row v' _ xs _=>ZDl g d σ r K (Nat.beq v v') xs
 | _=>False
def ZAV (x:SV):Prop :=
 match x with
 | .mr k v=>ZEi g d σ r K k (lkh k σ.hp) v
 | .ms _ _ _ _ l=>YE d (.v (.int .i64 l)) g σ r K
 | .sl _ _ xs=>YE d (.v (.int .i64 xs.length)) g σ r K
 | _=>False
end
def Zie (xs:Rr):Bool->Option Rr
 | true=>some xs
 | false=>none
def Zmr (m v:Nat):HB->Option Rr
 | .row v' m' xs _=>Zie xs (We (Nat.beq m m') (Nat.beq v v'))
 | .cells _ _=>none
 | .ob _=>none
 | .map _ _=>none
 | .it _ _ _ _=>none
 | .lp _ _=>none
 | .lb _=>none
 | .own _=>none
 | .gone=>none
def Zxz (m:Nat) (hp:Lh):SV->Option Rr
 | .sl _ m' xs=>Zie xs (Nat.beq m m')
 | .v (.slice none 0 0)=>some []
 | .mr k v=>Zmr m v (lkh k hp)
 | _=>none
def ZfD (m:Nat):SV->Option Rr
 | .sl _ m' xs=>Zie xs (Nat.beq m m')
 | .v (.slice none 0 0)=>some []
 | _=>none
def Zm5 (m:Nat):SV->Option Rr
 | .sl true m' xs=>Zie xs (Nat.beq m m')
 | .v (.slice none 0 0)=>some []
 | _=>none
def APP (g:Option (Nat × Bool)) (m b:Nat) (xs ys:Rr) (d:Option Nat) (σ : St) (r:KT) (K:RK):Prop :=
 Zf7 g σ.fr ((xs.length+ys.length) * b<=140737488355328)/\YE d (.sl false m (xs ++ ys)) g σ r K
def ZAH (g:Option (Nat × Bool)) (m b:Nat) (x y:Option Rr) (d:Option Nat) (σ : St) (r:KT) (K:RK):Prop :=
 match x,y with
 | some xs,some ys=>APP g m b xs ys d σ r K
 | some _,none=>False
 | none,_=>False
def SLC (g:Option (Nat × Bool)) (n h:Int) (m:Nat) (xs:Rr) (d:Option Nat) (σ : St) (r:KT) (K:RK):Prop :=
 Zf7 g σ.fr (n=xs.length/\h=xs.length)/\YE d (.sl true m xs) g σ r K
def ZD5 (g:Option (Nat × Bool)) (x h k:SV) (d:Option Nat) (σ : St) (r:KT) (K:RK):Prop :=
 match x,h,k with
 | .sl _ m xs,.v (.int _ n),.v (.int _ j)=>SLC g n j m xs d σ r K
 | _,_,_=>False
def SUB (g:Option (Nat × Bool)) (lo hi:Int) (m:Nat) (xs:Rr) (d:Option Nat) (σ : St) (r:KT) (K:RK):Prop :=
 ∃ i j:Nat,Zf7 g σ.fr (lo=i/\hi=j/\i<=j/\j<=xs.length)/\YE d (.sl false m ((xs.take j).drop i)) g σ r K
def Zc3 (dflt:Int) (ρ : X->SV):Option X->Option Int
 | none=>some dflt
 | some x=>match ρ x with
  | .v (.int _ n)=>some n
  | _=>none
def ZAz (g:Option (Nat × Bool)) (m:Nat) (xs:Rr) (lo hi:Option Int) (d:Option Nat) (σ : St) (r:KT) (K:RK):Prop :=
 match lo,hi with
 | some i,some j=>SUB g i j m xs d σ r K
 | some _,none=>False
 | none,_=>False
def SBM (g:Option (Nat × Bool)) (lo hi:Int) (k v m:Nat) (xs:Rr) (d:Option Nat) (σ : St) (r:KT) (K:RK):Prop :=
 ∃ i j:Nat,Zf7 g σ.fr (lo=i/\hi=j/\i<=j/\j<=xs.length)/\YE d (.ms k v m i (j - i)) g σ r K
def ZAU (g:Option (Nat × Bool)) (k v m:Nat) (xs:Rr) (lo hi:Option Int) (d:Option Nat) (σ : St) (r:KT) (K:RK):Prop :=
 match lo,hi with
 | some i,some j=>SBM g i j k v m xs d σ r K
 | some _,none=>False
 | none,_=>False
def Zfq (c:Bool) (p:Prop):Prop :=
 match c with
 | true=>p
 | false=>False
def ZD8 (g:Option (Nat × Bool)) (m:Nat) (ρ : X->SV) (lo hi:Option X) (k v:Nat) (hb:HB) (d:Option Nat) (σ : St) (r:KT) (K:RK):Prop :=
 match hb with
 | .row v' m' xs _=>Zfq (We (Nat.beq m m') (Nat.beq v v')) (ZAU g k v m xs (Zc3 0 ρ lo) (Zc3 xs.length ρ hi) d σ r K)
 | _=>False
def ZDn (g:Option (Nat × Bool)) (m:Nat) (ρ : X->SV) (lo hi:Option X) (x:SV) (d:Option Nat) (σ : St) (r:KT) (K:RK):Prop :=
 match x with
 | .sl _ m' xs=>bif Nat.beq m m' then ZAz g m xs (Zc3 0 ρ lo) (Zc3 xs.length ρ hi) d σ r K else False
 | .mr k v=>ZD8 g m ρ lo hi k v (lkh k σ.hp) d σ r K
 | _=>False
def Yw (P:Program) (g:Option (Nat × Bool)) (d:Option Nat) (i:SI) (σ : St) (r:KT) (K:RK):Prop :=
 match i with
 | .call f as=>ZAB P g f (U6 (rdG g σ.fr) as) d σ r K
 | .calv x as=>Zoz P g d σ r K (rdG g σ.fr x) (U6 (rdG g σ.fr) as)
 | .callm _ _=>False
 | .calvm _ _=>False
 | .pick c a b=>WC (Zh4 σ.fr g c a b) d g σ r K
 | .bsl m _ ps=>WC (ZAX m (Zjd (rdG g σ.fr) m ps)) d g σ r K
 | .ixs x i m=>ZCw g d σ r K (rdG g σ.fr i) (rdG g σ.fr x) m
 | .ixa x i len m=>ZEg g d σ r K (rdG g σ.fr i) (rdG g σ.fr x) len m
 | .idx x i len m ag=>ZEa g d σ r K (rdG g σ.fr i) (rdG g σ.fr x) len m ag
 | .ld x m ag=>ldK g d σ r K (rdG g σ.fr x) m ag
 | .div b x y=>ZDZ g d σ r K b (rdG g σ.fr x) (rdG g σ.fr y)
 | .len x=>ZAV g d σ r K (rdG g σ.fr x)
 | .mv x=>YE d (rdG g σ.fr x) g σ r K
 | .build z ps=>WC (pv (rdG g σ.fr) (.build z ps)) d g σ r K
 | .nilc x=>WC (Ze6 (rdG g σ.fr x)) d g σ r K
 | .bin b x y=>WC (ZAC b (rdG g σ.fr x) (rdG g σ.fr y)) d g σ r K
 | .un u x=>WC (uni u (rdG g σ.fr x)) d g σ r K
 | .addo x o=>WC (U2 o (rdG g σ.fr x)) d g σ r K
 | .fld x o m ag=>WC (pv (rdG g σ.fr) (.fld x o m ag)) d g σ r K
 | .mm mx xs=>WC (mmS mx (U6 (rdG g σ.fr) xs)) d g σ r K
 | .mkf f cs=>YE d (.cl f (U6 (rdG g σ.fr) cs)) g σ r K
 | .conv k x=>WC (pv (rdG g σ.fr) (.conv k x)) d g σ r K
 | .ext x i=>WC (pv (rdG g σ.fr) (.ext x i)) d g σ r K
 | .slc x h k=>ZD5 g (rdG g σ.fr x) (rdG g σ.fr h) (rdG g σ.fr k) d σ r K
 | .sub m x lo hi=>ZDn g m (rdG g σ.fr) lo hi (rdG g σ.fr x) d σ r K
 | .cln _ _ _ _ _=>False
 | .appm _ _ _ _ _=>False
 | .cpy _ _ _=>False
 | .mks _ _ _ _ _=>False
 | .isn _=>False
 | .app m b _ x y=>ZAH g m b (Zm5 m (rdG g σ.fr x)) (Zxz m σ.hp (rdG g σ.fr y)) d σ r K
 | .box _ _ _=>False
 | .alloc _ _=>False
 | .st _ _ _=>False
 | .eqs ng ag cls x y=>WC (eqR ng (Zt0 cls ag (rdG g σ.fr x) (rdG g σ.fr y))) d g σ r K
 | .raw _ _=>False
 | .rv _ _=>False
 | .rb _ _ _=>False
section
variable {C:Cx} {E:Env} {hp:Lh} {n:Nat->Prop} {w w':World}
theorem RowB.mono {E':Env} {n':Nat->Prop} {ok ok':Nat->Prop} {y:Value} {m:Nat} {xs:Rr} {T:TypeId} (hs:Xh w w' ok ok') (hE:∀ k,n k->Ele E E' k k) (hn:∀ k,n k->n' k)
 (hsame:∀ b,hdAt y b->w'.heap[b]? = w.heap[b]?) (h:RowB w E n ok y m xs T):RowB w' E' n' ok' y m xs T:=by
 rcases h with h | ⟨b,cap,cs,h1,h2,h3,h4,h5,h6,h7⟩
 . exact .inl h
 . exact .inr ⟨b,cap,cs,h1,by rw [hsame _ ⟨_,_,h1,h4.2⟩];exact h2,h3,h4,h5,h6,ZL hs hE hn _ _ h7⟩
theorem YO (h:HSim C E hp n w) {k b:Nat} (ho:occ E k (lkh k hp) b):b < w.heap.size:=by
 have hb:=h.bk k;have lt_of {o:Obj} {b:Nat} (hh:w.heap[b]? = some o):b < w.heap.size:=(Array.getElem?_eq_some_iff.1 hh).1;cases hk:lkh k hp<;>rw [hk] at ho hb<;>simp only [occ,Yr] at ho hb
 . obtain ⟨cs,h1,_⟩:=hb;subst ho;exact lt_of h1
 . obtain ⟨len,cap,h1,h0⟩:=ho;rcases hb with ⟨_,⟨_,_,h2⟩ | ⟨b',cap',cs,h2,h3,_⟩⟩
   . rw [h2] at h1;simp only [Value.slice.injEq] at h1;exact absurd h1.2.2.symm h0
   . rw [h2] at h1;simp at h1;obtain ⟨rfl,_⟩:=h1;exact lt_of h3
 . obtain ⟨o,h1,_⟩:=hb;subst ho;exact lt_of h1
 . obtain ⟨ys,h1,_⟩:=hb;subst ho;exact lt_of h1
 . subst ho;exact lt_of hb.2
 . subst ho;exact lt_of hb
 . subst ho;exact lt_of hb
 . rename_i φ;exact φ.dom _ _ _ hb ho
theorem WV (h:HSim C E hp n w) {b:Nat} (hb:w.heap.size<=b):okS C E hp b :=
 ⟨.inr (Nat.le_trans h.kp.size hb),λk ho=>by have:=YO h ho;omega⟩
theorem Yd {ok:Nat->Prop} (h:Below w.heap.size w w'):ZM w w' ok ok:=λb hb hs =>
 ⟨hb,h.block b (by
  obtain ⟨o,ho⟩:=Option.isSome_iff_exists.1 hs
  exact (Array.getElem?_eq_some_iff.1 ho).1)⟩
theorem W6 (h:Keeps C w) (hb:Below w.heap.size w w'):Keeps C w' :=
 ⟨hb.os.trans h.os,hb.tape.trans h.tape,hb.output.trans h.output,Nat.le_trans h.size hb.size,λb h1 h2=>(hb.block b (Nat.lt_of_lt_of_le h1 h.size)).trans (h.block b h1 h2)⟩
theorem Uk {E':Env} {n':Nat->Prop} {ok ok':Nat->Prop} (hs:Xh w w' ok ok') (hE:∀ k,n k->Ele E E' k k) (hn:∀ k,n k->n' k):∀ (l:List (Nat × Value × SV)) (ys:List MapEntry),RM w E n ok l ys->RM w' E' n' ok' l ys
 | [],ys,h=>by simpa [RM] using h
 | e :: l,ys,h=>by simp only [RM] at h ⊢;obtain ⟨y,r,h1,h2,h3⟩:=h;exact ⟨y,r,h1,ZV hs hE hn _ y h2,Uk hs hE hn l r h3⟩
theorem XX {E':Env} {n':Nat->Prop} {ok ok':Nat->Prop} {k:Nat} {hb:HB} (hs:Xh w w' ok ok') (hE:∀ k,n k->Ele E E' k k) (hn:∀ k,n k->n' k) (hk:hb = .gone\/n k)
 (hsame:∀ b,occ E k hb b->w'.heap[b]? = w.heap[b]?) (hI:E'.iss k=E.iss k) (h:Yr w E n ok k hb):Yr w' E' n' ok' k hb:=by
 cases hb with
 | gone=>trivial
 | cells l T =>
  obtain ⟨hβ,_⟩:=hE k (by simpa using hk);simp only [Yr,hβ] at h ⊢;obtain ⟨cs,h1,h2⟩:=h;exact ⟨cs,by rw [hsame _ rfl];exact h1,ZL hs hE hn _ _ h2⟩
 | row v m xs T =>
  obtain ⟨_,_,hv⟩:=hE k (by simpa using hk);simp only [Yr] at h ⊢;obtain ⟨hi,h⟩:=h;rw [hv v (by omega)];refine ⟨hI.trans hi,?_⟩;rcases h with h | ⟨b,cap,cs,h1,h2,h3,h4,h5,h6,h7⟩
  . exact .inl h
  . exact .inr ⟨b,cap,cs,h1,by rw [hsame _ ⟨_,_,h1,h4.2⟩];exact h2,h3,h4,h5,h6,ZL hs hE hn _ _ h7⟩
 | ob φ =>
  obtain ⟨hβ,_⟩:=hE k (by simpa using hk);simp only [Yr,hβ] at h ⊢;obtain ⟨o,h1,h2⟩:=h;exact ⟨o,by rw [hsame _ rfl];exact h1,φ.mono _ _ _ _ _ hs h2⟩
 | map es c =>
  obtain ⟨hβ,_⟩:=hE k (by simpa using hk);simp only [Yr,hβ] at h ⊢;obtain ⟨ys,h1,h2⟩:=h;exact ⟨ys,by rw [hsame _ rfl];exact h1,Uk hs hE hn _ _ h2⟩
 | it km a b c =>
  obtain ⟨hβ,_⟩:=hE k (by simpa using hk);simp only [Yr,hβ] at h ⊢;obtain ⟨h1,h2⟩:=h;exact ⟨hn km h1,by rw [hsame _ rfl,(hE km h1).1];exact h2⟩
 | lp r pd =>
  obtain ⟨hβ,_⟩:=hE k (by simpa using hk);simp only [Yr,hβ] at h ⊢;rw [hsame _ rfl];exact h
 | lb r =>
  obtain ⟨hβ,_⟩:=hE k (by simpa using hk);simp only [Yr,hβ] at h ⊢;rw [hsame _ rfl];exact h
 | own φ=>exact φ.mono _ _ _ _ hs (λb hb=>hsame b hb) h
theorem YU {E':Env} {n':Nat->Prop} {ok ok':Nat->Prop} {k:Nat} {hb:HB} (hs:ZM w w' ok ok') (hE:∀ k,n k->Ele E E' k k) (hn:∀ k,n k->n' k) (hk:hb = .gone\/n k)
 (hsame:∀ b,occ E k hb b->w'.heap[b]? = w.heap[b]?) (hI:E'.iss k=E.iss k) (h:Yr w E n ok k hb):Yr w' E' n' ok' k hb:=XX hs hE hn hk hsame hI h
theorem Xz (h:HSim C E hp n w) (hb:Below w.heap.size w w'):HSim C E hp n w' :=
 ⟨h.kn,λk=>YU (Yd hb) (λ_ _=>Ele.rfl) (λ_ h=>h) (by
  rcases Classical.em (n k) with hk | hk
  . exact .inr hk
  . exact .inl (h.kn k hk)) (λb ho=>hb.block b (YO h ho)) rfl (h.bk k),h.dj,h.lo,W6 h.kp hb,h.pin⟩
end
abbrev TT:Machine->Prop:=λ_=>True
abbrev StT (P:Program) (m m':Machine):Prop:=StepsIn TT P m m'
def ZgR (P:Program) (m:Machine) (c:Frame) (cs:List Frame) (w:World):Ending->Prop
 | .returned v=>StT P m (lone (c.finish v) cs w)
 | .panicked chain=>StT P m (lone (c.raise chain) cs w)
 | .outgrown=>False
def Zbs (P:Program) (l:Nat) (f:FuncId) (tmps:Array Value) (assign body:Code) (w:World) (R:Ending->World->Prop):Prop :=
 ∀ (c:Frame) (cs:List Frame),∃ e w',R e w'/\ZgR P (lone (Frame.round l f tmps assign body .normal) (c :: cs) w) c cs w' e
theorem Zbs.mono {P:Program} {l:Nat} {f:FuncId} {tmps:Array Value} {assign body:Code} {w:World} {R R':Ending->World->Prop} (h:Zbs P l f tmps assign body w R) (hr:∀ e w',R e w'->R' e w'):Zbs P l f tmps assign body w R' :=
 λc cs=>let ⟨e,w',h1,h2⟩:=h c cs;⟨e,w',hr _ _ h1,h2⟩
def ZaU (o:Oper) (a:Act) (next:Act->World->Prop) (Q:Exit->Act->World->Prop):Ending->World->Prop
 | .returned v,w=>next (a.put o.dst v) w
 | .panicked chain,w=>Q (.panic chain) a w
 | .outgrown,_=>False
def _root_.Go.Oper.uponX (P:Program) (o:Oper) (a:Act) (next:Act->World->Prop) (Q:Exit->Act->World->Prop):Result Next->Prop
 | .ok (.value v) w'=>next (a.put o.dst v) w'
 | .ok .skip w'=>next (a.put o.dst undef) w'
 | .ok (.defer d) w'=>next ({ a with defers:=d :: a.defers }.put o.dst undef) w'
 | .ok (.enter f args) w'=>Calls P f args w' (ZaU o a next Q)
 | .ok (.round l f tmps assign body) w'=>Zbs P l f tmps assign body w' (ZaU o a next Q)
 | .halt (.panic v) w'=>Q (.panic [{ v,recovered:=false }]) a w'
 | _=>False
def _root_.Go.Oper.wpq (rr:Option Nat) (P:Program) (o:Oper) (a:Act) (w:World) (next:Act->World->Prop) (Q:Exit->Act->World->Prop):Prop :=
 o.uponX P a next Q ((o.semAt rr a.eval).run P w)
section
variable {P:Program} {o:Oper} {a:Act} {w w':World} {rr:Option Nat} {next:Act->World->Prop} {Q:Exit->Act->World->Prop}
theorem ZlV {x:Next} (h:(execOp a.eval o).run P w = .ok x w') (hx:∀ d,x≠.defer d):(o.semAt rr a.eval).run P w = .ok x w':=by
 by_cases hd:∃ c,o.op = .defer c
 . obtain ⟨c,hc⟩:=hd;exfalso;have:execOp a.eval o=(do let d <- resolve a.eval c o.type;pure (.defer d)):=by
    obtain ⟨dst,op,ty,pos,after,guard⟩:=o;simp only at hc;subst hc;rfl
   rw [this,Sem.run_bind] at h;cases hr:(resolve a.eval c o.type).run P w with
   | ok d w1=>rw [hr] at h;simp at h;exact hx d h.1.symm
   | halt r w1=>rw [hr] at h;simp [Result.andThen] at h
 . rw [Oper.semAt_eq rr a.eval o (λc hc=>hd ⟨c,hc⟩)];exact h
theorem ZC {x:Next} (h:(execOp a.eval o).run P w = .ok x w') (hx:∀ d,x≠.defer d) (hn:o.uponX P a next Q (.ok x w')):o.wpq rr P a w next Q:=by
 unfold Oper.wpq;rw [ZlV h hx];exact hn
theorem Zb7 {f:FuncId} {vs:Array Value} (h:(execOp a.eval o).run P w = .ok (.enter f vs) w') (hc:Calls P f vs w' (ZaU o a next Q)):o.wpq rr P a w next Q :=
 ZC h (by simp) hc
theorem ZjF {v:Value} (h:(execOp a.eval o).run P w = .halt (.panic v) w') (hd:∀ c,o.op≠.defer c) (hn:Q (.panic [{ v,recovered:=false }]) a w'):o.wpq rr P a w next Q:=by
 unfold Oper.wpq;rw [Oper.semAt_eq rr a.eval o hd,h];exact hn
theorem Zpo {K K':Act->World->Prop} (h:∀ a w,K a w->K' a w) (hh:o.wpq rr P a w K Q):o.wpq rr P a w K' Q:=by
 unfold Oper.wpq at *;have hb:∀ e w,ZaU o a K Q e w->ZaU o a K' Q e w:=λe w hb=>by cases e<;>first | exact h _ _ hb | exact hb
 generalize (o.semAt rr a.eval).run P w=r at *;cases r with
 | ok x w' =>
  cases x<;>simp only [Oper.uponX] at hh ⊢ <;>
   first
    | exact h _ _ hh
    | exact hh.mono hb
 | halt x w'=>cases x<;>simp only [Oper.uponX] at hh ⊢<;>exact hh
end
def wpX (r:Option Nat) (P:Program) (c:Code) (Q:Exit->Act->World->Prop) (a:Act) (w:World):Prop :=
 ∀ (b:Frame) (k:List Item) (cs:List Frame),b.roundOf=r->(P.funcs[b.fn]?).isSome=true->∃ e a' w',Q e a' w'/\ArrivesIn TT P (lone (b.atR a (.code c :: k)) cs w) b k cs e a' w'
section
variable {P:Program} {r:Option Nat} {Q:Exit->Act->World->Prop} {a:Act} {w:World}
theorem XJ {m m':Machine} (h:step P m = .next m'):StT P m m':=.one trivial h
theorem ZpF (h:Q .normal a w):wpX r P .skip Q a w:=λ_ _ _ _ _=>⟨.normal,a,w,h,XJ stepR_skip⟩
theorem ZjW {l:Nat} (h:Q .normal a w):wpX r P (.label l) Q a w:=λ_ _ _ _ _=>⟨.normal,a,w,h,XJ stepR_label⟩
theorem ZoV {id:Nat} (h:Q (.exit id) a w):wpX r P (.exit id) Q a w:=λ_ k _ _ _=>⟨.exit id,a,w,h,λ_ hk=>XJ (stepR_exit hk),λ_ hk=>⟨k,hk,.refl _⟩⟩
theorem Zyi (h:Q .ret a w):wpX r P .ret Q a w:=λ_ k _ _ _=>⟨.ret,a,w,h,λhn=>⟨_,XJ (stepR_ret hn)⟩,λ_=>⟨k,.refl _⟩⟩
theorem ZeM {m:Machine} {b:Frame} {x:Item} {k:List Item} {cs:List Frame} {e:Exit} {a:Act} {w:World} (hx:x.plain=true) (hn:e≠.normal) (h:ArrivesIn TT P m b (x :: k) cs e a w):ArrivesIn TT P m b k cs e a w :=
 .pass hx (λ_ _=>.inl hn) h
theorem ZdK {x y:Code} (h:wpX r P x (Exit.then (wpX r P y Q) Q) a w):wpX r P (.seq x y) Q a w:=by
 intro b k cs hr hb;obtain ⟨e,a1,w1,hq,s⟩:=h b (.code y :: k) cs hr hb;by_cases he:e = .normal
 . subst he;obtain ⟨e2,a2,w2,hq2,s2⟩:=hq b k cs hr hb;exact ⟨e2,a2,w2,hq2,.of_steps (.head trivial stepR_seq s) s2⟩
 . refine ⟨e,a1,w1,?_,.of_steps (XJ stepR_seq) (ZeM (x:=.code y) rfl he s)⟩;cases e<;>first | exact hq | exact absurd rfl he
theorem ZtG {c:Operand} {x y:Code} {t:Bool} (hc:a.eval c = .bool t) (h:wpX r P (if t then x else y) Q a w):wpX r P (.cond c x y) Q a w :=
 λb k cs hr hb=>let ⟨e,a',w',q,s⟩:=h b k cs hr hb;⟨e,a',w',q,.of_steps (XJ (stepR_cond hc)) s⟩
theorem ZjK {id:Nat} {c:Code} (h:wpX r P c (Exit.inBlock id Q) a w):wpX r P (.block id c) Q a w:=by
 intro b k cs hr hb;obtain ⟨e,a1,w1,hq,s⟩:=h b (.inBlock id :: k) cs hr hb;have s0:step P (lone (b.atR a (.code (.block id c) :: k)) cs w) = .next (lone (b.atR a (.code c :: .inBlock id :: k)) cs w):=stepR_block;cases e with
 | normal=>exact ⟨.normal,a1,w1,hq,(XJ s0).trans (StepsIn.trans s (XJ stepR_inBlock))⟩
 | exit id' =>
  simp only [Exit.inBlock] at hq;split at hq
  . rename_i hid;subst hid;exact ⟨.normal,a1,w1,hq,(XJ s0).trans (s.1 k (by simp [exitTo]))⟩
  . rename_i hid;have hx:exitTo id' (.inBlock id :: k)=exitTo id' k:=by
     have:(id == id')=false:=by simpa using λe=>hid e.symm
     simp [exitTo,this]
    exact ⟨.exit id',a1,w1,hq,λk' hk=>(XJ s0).trans (s.1 k' (by rw [hx];exact hk)),λhr' hk=>let ⟨k1,h1,h2⟩:=s.2 hr' (by rw [hx];exact hk);⟨k1,h1,(XJ s0).trans h2⟩⟩
 | goto l =>
  have hx:gotoIn l (.inBlock id :: k)=gotoIn l k:=by simp [gotoIn]
  exact ⟨.goto l,a1,w1,hq,λk' hk=>(XJ s0).trans (s.1 k' (by rw [hx];exact hk)),λhr' hk=>let ⟨k1,h1,h2⟩:=s.2 hr' (by rw [hx];exact hk);⟨k1,h1,(XJ s0).trans h2⟩⟩
 | ret=>exact ⟨.ret,a1,w1,hq,.of_steps (XJ s0) s⟩
 | panic ch=>exact ⟨.panic ch,a1,w1,hq,.of_steps (XJ s0) s⟩
 | outgrown=>exact ⟨.outgrown,a1,w1,hq,.of_steps (XJ s0) s⟩
theorem ZlF {c:Code} (h:wpX r P c (Exit.noGoto Q) a w):wpX r P (.scope c) Q a w:=by
 intro b k cs hr hb;have s0:step P (lone (b.atR a (.code (.scope c) :: k)) cs w) = .next (lone (b.atR a (.code c :: .inScope c :: k)) cs w):=step_lone_go (by simp [stepG,stepG.exec,Frame.atR]);have s1:∀ {a:Act} {w:World},step P (lone (b.atR a (.inScope c :: k)) cs w) = .next (lone (b.atR a k) cs w):=step_lone_go (by simp [stepG,stepG.exec,Frame.atR]);obtain ⟨e,a1,w1,hq,s⟩:=h b (.inScope c :: k) cs hr hb
 have hx:∀ id,exitTo id (.inScope c :: k)=exitTo id k:=λid=>by simp [exitTo]
 cases e with
 | normal=>exact ⟨.normal,a1,w1,hq,(XJ s0).trans (StepsIn.trans s (XJ s1))⟩
 | exit id=>exact ⟨.exit id,a1,w1,hq,λk' hk=>(XJ s0).trans (s.1 k' (by rw [hx];exact hk)),λhr' hk=>let ⟨k1,h1,h2⟩:=s.2 hr' (by rw [hx];exact hk);⟨k1,h1,(XJ s0).trans h2⟩⟩
 | goto l=>exact hq.elim
 | ret=>exact ⟨.ret,a1,w1,hq,.of_steps (XJ s0) s⟩
 | panic ch=>exact ⟨.panic ch,a1,w1,hq,.of_steps (XJ s0) s⟩
 | outgrown=>exact ⟨.outgrown,a1,w1,hq,.of_steps (XJ s0) s⟩
theorem ZcR {c:Code} {b:Frame} {k:List Item} {cs:List Frame} {e:Exit} {a1:Act} {w1:World} {m:Machine} (R':Act->World->Prop) (hR:∀ a w,R' a w->∃ e a' w',Q e a' w'/\ArrivesIn TT P (lone (b.atR a (.code c :: .inLoop c :: k)) cs w) b k cs e a' w')
 (hq:Exit.then R' Q e a1 w1) (s:ArrivesIn TT P m b (.inLoop c :: k) cs e a1 w1):∃ e a' w',Q e a' w'/\ArrivesIn TT P m b k cs e a' w':=by
 by_cases he:e = .normal
 . subst he;obtain ⟨e2,a2,w2,hq2,s2⟩:=hR a1 w1 hq;exact ⟨e2,a2,w2,hq2,.of_steps (StepsIn.trans s (XJ stepR_inLoop)) s2⟩
 . refine ⟨e,a1,w1,?_,ZeM (x:=.inLoop c) rfl he s⟩;cases e<;>first | exact hq | exact absurd rfl he
theorem ZpM {c:Code} (I:Act->World->Prop) (μ : Act->World->Nat) (h0:I a w) (rd:∀ a w,I a w->wpX r P c (Exit.then (λa' w'=>I a' w'/\μ a' w' < μ a w) Q) a w):wpX r P (.loop c) Q a w:=by
 intro b k cs hr hb;have key:∀ (j:Nat) (a:Act) (w:World),μ a w=j->I a w->∃ e a' w',Q e a' w'/\ArrivesIn TT P (lone (b.atR a (.code c :: .inLoop c :: k)) cs w) b k cs e a' w':=by
  intro j
  induction j using Nat.strongRecOn with
  | _ j ih =>
   intro a w hj hI;obtain ⟨e,a1,w1,hq,s⟩:=rd a w hI b (.inLoop c :: k) cs hr hb;exact ZcR _ (λa' w' hh=>ih (μ a' w') (hj ▸ hh.2) a' w' rfl hh.1) hq s
 obtain ⟨e,a',w',hq,s⟩:=key _ a w rfl h0;exact ⟨e,a',w',hq,.of_steps (XJ stepR_loop) s⟩
def ZDU (r:Option Nat) (P:Program) (c:Code) (Q:Exit->Act->World->Prop):Nat->Act->World->Prop
 | 0,_,_=>False
 | m+1,a,w=>wpX r P c (Exit.then (ZDU r P c Q m) Q) a w
theorem ZhX {c:Code} (m:Nat) (h:ZDU r P c Q m a w):wpX r P (.loop c) Q a w:=by
 intro b k cs hr hb;have key:∀ (m:Nat) (a:Act) (w:World),ZDU r P c Q m a w->∃ e a' w',Q e a' w'/\ArrivesIn TT P (lone (b.atR a (.code c :: .inLoop c :: k)) cs w) b k cs e a' w':=by
  intro m
  induction m with
  | zero=>intro a w h;exact h.elim
  | succ m ih =>
   intro a w h;obtain ⟨e,a1,w1,hq,s⟩:=h b (.inLoop c :: k) cs hr hb;exact ZcR _ (λa' w' hh=>ih a' w' hh) hq s
 obtain ⟨e,a',w',hq,s⟩:=key m a w h;exact ⟨e,a',w',hq,.of_steps (XJ stepR_loop) s⟩
variable {ops:Array Oper}
def Zo2 (r:Option Nat) (P:Program) (ops:Array Oper) (Q:Exit->Act->World->Prop) (i:Nat) (K:Act->World->Prop) (a:Act) (w:World):Prop :=
 match ops[i]? with
 | none=>K a w
 | some o=>if Region.wanted o (yielded ops a.tmps) then o.wpq r P a w K Q else K (a.put o.dst undef) w
theorem Zem {i:Nat} {K K':Act->World->Prop} (h:∀ a w,K a w->K' a w) (hh:Zo2 r P ops Q i K a w):Zo2 r P ops Q i K' a w:=by
 unfold Zo2 at *;split
 . rename_i ho;rw [ho] at hh;exact h _ _ hh
 . rename_i o ho;rw [ho] at hh;simp only at hh;split
   . rename_i hw;rw [if_pos hw] at hh;exact Zpo h hh
   . rename_i hw;rw [if_neg hw] at hh;exact h _ _ hh
def Zjk (r:Option Nat) (P:Program) (ops:Array Oper) (Q:Exit->Act->World->Prop):List Nat->Act->World->Prop
 | [],a,w=>Q .normal a w
 | i :: rest,a,w=>Zo2 r P ops Q i (Zjk r P ops Q rest) a w
theorem Zbg:∀ (l:List Nat) (a:Act) (w:World),Zjk r P ops Q l a w->∀ (b:Frame) (k:List Item) (cs:List Frame),b.roundOf=r->(P.funcs[b.fn]?).isSome=true ->
 ∃ e a' w',Q e a' w'/\ArrivesIn TT P (lone (b.atR a (.inRegion ops l :: k)) cs w) b k cs e a' w'
 | [],a,w,h,b,k,cs,_,_=>⟨.normal,a,w,h,XJ stepR_region_end⟩
 | i :: rest,a,w,h,b,k,cs,hr,hb=>by
  simp only [Zjk,Zo2] at h;have fin:∀ (a1:Act) (w1:World),Zjk r P ops Q rest a1 w1->StT P (lone (b.atR a (.inRegion ops (i :: rest) :: k)) cs w) (lone (b.atR a1 (.inRegion ops rest :: k)) cs w1) ->
   ∃ e a' w',Q e a' w'/\ArrivesIn TT P (lone (b.atR a (.inRegion ops (i :: rest) :: k)) cs w) b k cs e a' w':=λa1 w1 h1 s1=>by
   obtain ⟨e,a',w',hq,s⟩:=Zbg rest a1 w1 h1 b k cs hr hb;exact ⟨e,a',w',hq,.of_steps s1 s⟩
  split at h
  . rename_i ho;refine fin _ _ h (XJ ?_);have hs:=stepR_op_skip (P:=P) (b:=b) (a:=a) (k:=k) (cs:=cs) (w:=w) (ops:=ops) (i:=i) (rest:=rest) (by simp [ho]);simpa only [ho,Option.bind_none,Act.put] using hs
  . rename_i o ho;split at h
    . rename_i hw;have hg:=stepGR_op (P:=P) (b:=b) (k:=k) (cs:=cs) (w:=w) (rest:=rest) ho hw;rw [hr] at hg;have hfin:∀ v,(b.atR a (.inRegion ops (i :: rest) :: k)).finish v=b.atR (a.put o.dst v) (.inRegion ops rest :: k):=λv=>by rw [Frame.finish_atR,ho];rfl
      have hbeh:∀ (e:Ending) (w2:World),ZaU o a (Zjk r P ops Q rest) Q e w2->ZgR P (lone (b.atR a (.inRegion ops (i :: rest) :: k)) cs w) (b.atR a (.inRegion ops (i :: rest) :: k)) cs w2 e ->
       ∃ e a' w',Q e a' w'/\ArrivesIn TT P (lone (b.atR a (.inRegion ops (i :: rest) :: k)) cs w) b k cs e a' w':=λe w2 hR hc=>by
       cases e with
       | returned v=>exact fin _ _ hR (by simp only [ZgR,hfin] at hc;exact hc)
       | panicked chain=>exact ⟨.panic chain,a,w2,hR,.inRegion ops (i :: rest) :: k,by simp only [ZgR,Frame.raise_atR] at hc;exact hc⟩
       | outgrown=>exact hc.elim
      unfold Oper.wpq at h;cases hx:(o.semAt r a.eval).run P w with
      | ok x w1 =>
       rw [hx] at h;cases x<;>simp only [Oper.uponX] at h
       case value v=>exact fin _ _ h (XJ (step_lone_go (by rw [hg,<- hfin];simp [stepG.apply,hx])))
       case skip=>exact fin _ _ h (XJ (step_lone_go (by rw [hg,<- hfin];simp [stepG.apply,hx])))
       case defer d =>
        refine fin _ _ h (XJ (step_lone_go ?_));have:({ b.atR a (.inRegion ops (i :: rest) :: k) with defers:=d :: a.defers }:Frame).finish undef=b.atR ({ a with defers:=d :: a.defers }.put o.dst undef) (.inRegion ops rest :: k):=by
         have h2:=Frame.finish_atR b { a with defers:=d :: a.defers } ops i rest k undef;rw [ho] at h2;exact h2
        rw [hg,<- this];simp [stepG.apply,hx,Frame.atR]
       case enter f args =>
        have henter:step P (lone (b.atR a (.inRegion ops (i :: rest) :: k)) cs w) = .next (lone (Frame.enter P f args .normal) (b.atR a (.inRegion ops (i :: rest) :: k) :: cs) w1) :=
         step_lone_go (by rw [hg];simp [stepG.apply,hx,Frame.atR])
        obtain ⟨e,w2,fr,hR,hs,hfn,hl⟩:=h (b.atR a (.inRegion ops (i :: rest) :: k) :: cs);refine hbeh e w2 hR ?_;cases e with
        | returned v=>exact (XJ henter).trans ((steps_iff.1 hs).trans (XJ (step_leave_returned hl)))
        | panicked chain=>exact (XJ henter).trans ((steps_iff.1 hs).trans (XJ (step_leave_panicked hl)))
        | outgrown=>exact hR.elim
       case round l f tmps assign body =>
        have henter:step P (lone (b.atR a (.inRegion ops (i :: rest) :: k)) cs w) = .next (lone (Frame.round l f tmps assign body .normal) (b.atR a (.inRegion ops (i :: rest) :: k) :: cs) w1) :=
         step_lone_go (by rw [hg];simp [stepG.apply,hx,Frame.atR])
        obtain ⟨e,w2,hR,hs⟩:=h (b.atR a (.inRegion ops (i :: rest) :: k)) cs;refine hbeh e w2 hR ?_;cases e with
        | returned v=>exact (XJ henter).trans hs
        | panicked chain=>exact (XJ henter).trans hs
        | outgrown=>exact hs
      | halt x w1 =>
       rw [hx] at h;cases x<;>simp only [Oper.uponX] at h
       rename_i v;refine ⟨_,a,w1,h,.inRegion ops (i :: rest) :: k,XJ (step_lone_go ?_)⟩;rw [hg,<- Frame.raise_atR];simp [stepG.apply,hx]
    . rename_i hw;refine fin _ _ h (XJ ?_);have hs:=stepR_op_skip (P:=P) (b:=b) (a:=a) (k:=k) (cs:=cs) (w:=w) (ops:=ops) (i:=i) (rest:=rest) (by simp [ho];simpa using hw);simpa only [ho,Option.bind_some] using hs
def UG (r:Option Nat) (P:Program) (ops:Array Oper) (Q:Exit->Act->World->Prop):List Oper->Act->World->Prop
 | [],a,w=>Q .normal a w
 | o :: os,a,w=>if Region.wanted o (yielded ops a.tmps) then o.wpq r P a w (UG r P ops Q os) Q else UG r P ops Q os (a.put o.dst undef) w
theorem Zb3:∀ (l:List Oper) (k:Nat),(∀ j,j < l.length->ops[k+j]? = l[j]?)->∀ a w,UG r P ops Q l a w->Zjk r P ops Q (List.range' k l.length) a w
 | [],k,_,a,w,h=>h
 | o :: l,k,hl,a,w,h=>by
  have h0:ops[k]? = some o:=by simpa using hl 0 (by simp)
  have ih:=Zb3 l (k+1) (λj hj=>by have:=hl (j+1) (by simpa using hj);rw [show k+(j+1)=k+1+j from by omega] at this;simpa using this);simp only [List.length_cons,List.range'_succ,Zjk];simp only [UG] at h;refine Zem ih ?_;simp only [Zo2,h0];exact h
theorem X7 {id:Nat} (h:UG r P ops Q ops.toList a w):wpX r P (.region id ops false) Q a w:=λb k cs hr hb=>by
 have h1:=Zb3 (ops:=ops) ops.toList 0 (λj hj=>by simp) a w h;rw [Array.length_toList,<- List.range_eq_range'] at h1;obtain ⟨e,a',w',q,s⟩:=Zbg _ a w h1 b k cs hr hb;exact ⟨e,a',w',q,.of_steps (XJ stepR_region) s⟩
def ZhF (r:Option Nat) (P:Program) (md:Region.Mode) (ops:Array Oper) (Q:Exit->Act->World->Prop):Nat->Array Bool->Act->World->Prop
 | 0,listed,a,w=>Region.ready md ops listed=[]/\Q .normal a w
 | fuel+1,listed,a,w=>(Region.ready md ops listed=[]->Q .normal a w)/\∀ i ∈ Region.ready md ops listed,Zo2 r P ops Q i (ZhF r P md ops Q fuel (listed.setIfInBounds i true)) a w
theorem Zhq {md:Region.Mode}:∀ (fuel t:Nat) (listed:Array Bool) (a:Act) (w:World),ZhF r P md ops Q fuel listed a w->Zjk r P ops Q (Region.linearise.go md ops fuel t listed []) a w
 | 0,t,listed,a,w,h=>by simpa [Region.linearise.go,Zjk] using h.2
 | fuel+1,t,listed,a,w,h=>by
  obtain ⟨h0,h1⟩:=h;simp only [Region.linearise.go];split
  . rename_i i hi;rw [linearise_go_acc,List.reverse_singleton,List.singleton_append];simp only [Zjk];exact Zem (λa w=>Zhq fuel _ _ a w) (h1 i (List.mem_of_getElem? hi))
  . rename_i hi
    replace hi:(Region.ready md ops listed)[t % (Region.ready md ops listed).length]? = none:=hi
    have hnil:Region.ready md ops listed=[]:=by
     rcases hrd:Region.ready md ops listed with _ | ⟨x,xs⟩
     . rfl
     . rw [hrd,List.getElem?_eq_none_iff] at hi;have hlt:t % (x :: xs).length < (x :: xs).length:=Nat.mod_lt _ (by simp);omega
    simpa [Zjk] using h0 hnil
theorem ZcM {id:Nat} (hm:P.follows .mixedOrders=true) (h:ZhF r P .any ops Q ops.size (Array.replicate ops.size false) a { w with drawn:=w.drawn+1 }):wpX r P (.region id ops true) Q a w:=λb k cs hr hb=>by
 have h1:=Zhq ops.size (w.tape w.drawn (.order b.fn id)) _ a _ h;have h2:Zjk r P ops Q (Region.schedule (P.follows .mixedOrders) ops (w.tape w.drawn (.order b.fn id))) a { w with drawn:=w.drawn+1 }:=by
  simp only [Region.schedule,hm,Bool.true_or,if_true];exact h1
 obtain ⟨e,a',w',q,s⟩:=Zbg _ a _ h2 b k cs hr hb;exact ⟨e,a',w',q,.of_steps (XJ stepR_region_draw) s⟩
def rPost (P:Program) (l:Nat) (R:Ending->World->Prop):Exit->Act->World->Prop
 | .normal,_,w=>∃ v w',(Instr.endRound l none).run P w = .ok v w'/\R (.returned v) w'
 | .ret,_,w=>∃ v w',(Instr.endRound l (some .ret)).run P w = .ok v w'/\R (.returned v) w'
 | .exit id,_,w=>∃ v w',(Instr.endRound l (some (.exit id))).run P w = .ok v w'/\R (.returned v) w'
 | .panic chain,a,w=>a.defers=[]/\R (.panicked chain) w
 | .goto _,_,_=>False
 | .outgrown,_,_=>False
theorem ZlS {l:Nat} {f:FuncId} {tmps:Array Value} {assign body:Code} {R:Ending->World->Prop} (hf:(P.funcs[f]?).isSome=true)
 (h:wpX (some l) P assign (λe a₁ w₁=>e = .normal/\∃ w₂,(Instr.beginRound l).run P w₁ = .ok () w₂/\wpX (some l) P body (rPost P l R) a₁ w₂) { tmps:=tmps,defers:=[] } w):Zbs P l f tmps assign body w R:=λc cs=>by
 let b:Frame:={ (default:Frame) with fn:=f,kind:=.normal,roundOf:=some l }
 have hb0:Frame.round l f tmps assign body .normal=b.atR { tmps:=tmps,defers:=[] } [.code assign,.beginRound,.code body]:=by simp [Frame.round,Frame.atR,b]
 obtain ⟨e,a1,w1,⟨rfl,w2,hbr,hbody⟩,s⟩:=h b [.beginRound,.code body] (c :: cs) rfl hf;rw [<- hb0] at s;have s1:StT P (lone (Frame.round l f tmps assign body .normal) (c :: cs) w) (lone (b.atR a1 [.code body]) (c :: cs) w2):=StepsIn.trans s (XJ (stepR_beginRound (b:=b) rfl hbr));obtain ⟨e2,a2,w3,hq,s2⟩:=hbody b [] (c :: cs) rfl hf;cases e2 with
 | normal =>
  obtain ⟨v,w4,hend,hR⟩:=hq;exact ⟨.returned v,w4,hR,s1.trans (StepsIn.trans s2 (XJ (stepR_round_end (b:=b) rfl rfl hend)))⟩
 | ret =>
  obtain ⟨v,w4,hend,hR⟩:=hq;obtain ⟨k1,hs⟩:=s2.2 rfl;exact ⟨.returned v,w4,hR,s1.trans (hs.trans (XJ (stepR_round_ret (b:=b) rfl rfl hend)))⟩
 | exit id =>
  obtain ⟨v,w4,hend,hR⟩:=hq;obtain ⟨k1,hk,hs⟩:=s2.2 rfl rfl;exact ⟨.returned v,w4,hR,s1.trans (hs.trans (XJ (stepR_round_exit (b:=b) rfl rfl hk hend)))⟩
 | panic chain =>
  obtain ⟨hd,hR⟩:=hq;obtain ⟨todo,hs⟩:=s2;obtain ⟨fn,hfn⟩:=Option.isSome_iff_exists.1 hf;refine ⟨.panicked chain,w3,hR,s1.trans (hs.trans (XJ (step_leave_panicked ⟨rfl,hd,fn,hfn⟩)))⟩
 | goto t=>exact hq.elim
 | outgrown=>exact hq.elim
end
def Yld (P:Program) (o:Oper) (a:Act) (w:World) (φ : Value->World->Prop):Prop :=
 ∀ (rr:Option Nat) (next:Act->World->Prop) (Q:Exit->Act->World->Prop),(∀ y w',φ y w'->next (a.put o.dst y) w')->o.wpq rr P a w next Q
theorem ZY {P:Program} {o:Oper} {a:Act} {w w':World} {φ : Value->World->Prop} {y:Value} (h:(execOp a.eval o).run P w = .ok (.value y) w') (hφ : φ y w'):Yld P o a w φ :=
 λrr next Q hn=>ZC h (by simp) (hn y w' hφ)
theorem Zpi {P:Program} {o:Oper} {a:Act} {w:World} {φ ψ : Value->World->Prop} (h:Yld P o a w φ) (hi:∀ y w',φ y w'->ψ y w'):Yld P o a w ψ :=
 λrr next Q hn=>h rr next Q λy w' hy=>hn y w' (hi y w' hy)
theorem ZgW {P:Program} {o:Oper} {a:Act} {w:World} {φ : Value->World->Prop} {f:FuncId} {vs:Array Value} (h:(execOp a.eval o).run P w = .ok (.enter f vs) w)
 (hc:Calls P f vs w λe w'=>∃ y,e = .returned y/\φ y w'):Yld P o a w φ :=
 λrr next Q hn=>Zb7 h (hc.mono λe w' ⟨y,he,hy⟩=>by
  subst he
  exact hn y w' hy)
def Zz (C:Cx) (E:Env) (hp:Lh) (n:Nat->Prop) (w:World) (s:SV) (y:Value) (w':World):Prop :=
 R w' E n (okS C E hp) s y/\Below w.heap.size w w'
def opG (g:Option (Nat × Bool)):SI->List (Option (Nat × Bool) × X)
 | .pick c a b=>match c with
  | .t t=>[(g,c),(some (t,true),a),(some (t,false),b)]
  | _=>[(g,c)]
 | i=>(opX i).map λx=>(g,x)
section
variable {P:Program} {C:Cx} {E:Env} {hp:Lh} {n:Nat->Prop} {w:World} {a:Act}
theorem Xe {f:FuncId} {vs:Array Value} (h:Z4 P f=true) :
 (callFunc f vs).run P w = .ok (.enter f vs) w:=by
 unfold Z4 at h;split at h
 . rename_i fn hf;simp only [Bool.and_eq_true,Bool.not_eq_true'] at h;have h1:¬ fn.name = "runtime.NumGoroutine" := by simpa using h.1
   have h2:¬ fn.body=none:=by cases hb:fn.body<;>simp_all
   simp [callFunc,hf,h1,h2]
 . cases h
theorem Zuq {o:Oper} {f:FuncId} {args:Ls} {vs:LZ} {res:SV} (hs:HSim C E hp n w) (hrun:(execOp a.eval o).run P w = .ok (.enter f vs.toArray) w)
 (hR:RL w E n (okS C E hp) args vs) (hc:Ct P f args res):Yld P o a w (Zz C E hp n w res):=by
 refine ZgW hrun ((hc.run w (okS C E hp) vs (Zy hs) (Zcz _ _ hc.ka hR)).mono λe w' ⟨y,he,hy,hb⟩=>⟨y,he,?_,hb⟩);have h1:R w' E n (λb=>okS C E hp b\/w.heap.size<=b) res y:=Zje res y hc.kr hy
 exact ZV (λb hb' _=>⟨by
  rcases hb' with h | h
  . exact h
  . exact WV hs h,rfl⟩) (λ_ _=>Ele.rfl) (λ_ h=>h) _ _ h1
end
theorem WG {w:World} {E:Env} {n ok ok':Nat->Prop} {b m:Nat} {cs:Array Value} (hok:ok' b) (hc:∀ j c,cs.toList[j]? = some c->w.cell? ⟨b,j,none⟩=some c) (hst:ZM w w ok ok') :
 ∀ (xs:Rr) (off:Nat),(∀ r ∈ xs,r.length=m)->RL w E n ok xs.flatten ((cs.toList.drop off).take (xs.length * m))->RR w E n ok' b m xs off
 | [],_,_,_=>by simp [RR]
 | r :: xs,off,hm,h=>by
  have hr:r.length=m:=hm r (by simp);simp only [RR];simp only [List.flatten_cons,List.length_cons] at h;have h1:=X8 r.length h;rw [List.take_left' rfl,List.take_take,show min r.length ((xs.length+1) * m)=m from by rw [hr,Nat.add_mul];omega] at h1;have h2:=Vb r.length h;rw [List.drop_left' rfl,List.drop_take,hr,List.drop_drop,show (xs.length+1) * m - m=xs.length * m from by rw [Nat.add_mul];omega] at h2
  refine ⟨hr,⟨_,ZL hst (λ_ _=>Ele.rfl) (λ_ h=>h) _ _ h1,λ_=>hok,λj c hj=>?_⟩,WG hok hc hst xs (off+m) (λr hr=>hm r (by simp [hr])) h2⟩;have hj':j < m:=by have:=(List.getElem?_eq_some_iff.1 hj).1;simp at this;omega
  rw [List.getElem?_take_of_lt hj',List.getElem?_drop] at hj;exact hc _ _ hj
section
variable {P:Program} {C:Cx} {E:Env} {hp:Lh} {n:Nat->Prop} {w:World} {a:Act}
def Tr:Nat->Prop:=λ_=>True
theorem Ux {g:SV->SV} (hg:∀ s y,R w E n (okS C E hp) s y->R w E n Tr (g s) y):∀ (l:Ls) (ys:LZ),RL w E n (okS C E hp) l ys->RL w E n Tr (ZcD g l) ys
 | [],ys,h=>by simpa [RL,ZcD] using h
 | s :: l,ys,h=>by
  simp only [RL,ZcD] at *;obtain ⟨y,r,h1,h2,h3⟩:=h;exact ⟨y,r,h1,hg s y h2,Ux hg l r h3⟩
theorem Zns {w:World} {E E':Env} {n n' ok ok':Nat->Prop}:∀ {l l':Ls} {ys:LZ},F2 (λs s'=>∀ y,R w E n ok s y->R w E' n' ok' s' y) l l'->RL w E n ok l ys->RL w E' n' ok' l' ys
 | [],_,_,.nil,h=>by simpa [RL] using h
 | _ :: _,_,_,.cons h1 h2,h=>by simp only [RL] at h ⊢;obtain ⟨y,r,e,a,b⟩:=h;exact ⟨y,r,e,h1 y a,Zns h2 b⟩
theorem Zum {α : Type} {p:α->α->Prop} (hp:∀ s,p s s):∀ l:List α,F2 p l l
 | []=>.nil
 | _ :: l=>.cons (hp _) (Zum hp l)
theorem ZkZ {α : Type} {p:α->α->Prop} (hp:∀ s,p s s) {x y:α} (hx:p x y):∀ {l:List α} {o:Nat},l[o]? = some x->F2 p l (l.set o y)
 | [],_,h=>by simp at h
 | _ :: l,0,h=>by simp at h;subst h;exact .cons hx (Zum hp l)
 | _ :: l,o+1,h=>.cons (hp _) (ZkZ hp hx (by simpa using h))
theorem ZgL (hh:HSim C E hp n w) {g:SV->SV} (hg:∀ s y,R w E n (okS C E hp) s y->R w E n Tr (g s) y) (s:SV) (y:Value) (h:R w E n (okS C E hp) s y):R w E n Tr (vwS hp g s) y:=by
 have tr:R w E n Tr s y:=ZV (λ_ _ _=>⟨trivial,rfl⟩) (λ_ _=>Ele.rfl) (λ_ h=>h) _ _ h;cases s<;>try exact tr
 case p k o =>
  simp only [vwS];split
  . rename_i l T hk;have hb:=hh.bk k;rw [hk] at hb;simp only [Yr] at hb;obtain ⟨cs,h1,h2⟩:=hb;simp only [R] at h ⊢;exact ⟨E.β k,0,by rw [Nat.zero_add];exact h.2,cs.toList,Ux hg _ _ h2,λ_=>trivial,λj c hj=>by rw [Nat.zero_add,cell_of_row _ _ _ _ _ _ h1];simpa using hj⟩
  . simp only [R]
 case mr k v =>
  simp only [vwS];split
  . rename_i v' m xs T hk;cases hv:Nat.beq v v'
    . simp only [vwN,R]
    have:=Nat.eq_of_beq_eq_true hv;subst this;have hb:=hh.bk k;rw [hk] at hb;simp only [Yr] at hb;simp only [R,vwN] at h ⊢;rcases hb with ⟨_,⟨h1,a0,h2⟩ | ⟨b,cap,cs,h1,h2,h3,⟨h4,_⟩,h5,h6,h7⟩⟩
    . exact ⟨a0,0,0,by rw [h.2.2.1,h2],by simp [h1],⟨Nat.le_refl _,λh=>by cases h⟩,by simp [h1],.inl h1⟩
    . refine ⟨_,_,_,h.2.2.1.trans h1,rfl,⟨h4,λh=>by cases h⟩,h5,.inr ⟨b,0,rfl,?_⟩⟩;exact WG (cs:=cs) (ok:=okS C E hp) trivial (λj c hj=>by rw [cell_of_row _ _ _ _ _ _ h2];simpa using hj) (λ_ _ _=>⟨trivial,rfl⟩) xs 0 h6 (by simpa using h7)
  . simp only [R]
 case agg l=>simp only [R,vwS] at *;obtain ⟨cs,h1,h2⟩:=h;exact ⟨cs,h1,Ux hg l _ h2⟩
 case tup l=>simp only [R,vwS] at *;obtain ⟨cs,h1,h2⟩:=h;exact ⟨cs,h1,Ux hg l _ h2⟩
 case cl f l=>simp only [R,vwS] at *;obtain ⟨cs,h1,h2⟩:=h;exact ⟨cs,h1,Ux hg l _ h2⟩
 case ps l o =>
  simp only [R,vwS] at *;obtain ⟨b,off,h1,cs,h2,h3⟩:=h;exact ⟨b,off,h1,cs,Ux hg l _ h2,λ_=>trivial,h3.2⟩
 case gd j b s=>simp only [vwS,R]
 case mp k=>simp only [vwS,R]
 case yl k=>simp only [vwS,R]
 case ifc T s=>simp only [R,vwS] at *;obtain ⟨x,h1,h2⟩:=h;exact ⟨x,h1,hg _ _ h2⟩
theorem ZCt (s:SV) (y:Value) (h:R w E n (okS C E hp) s y):R w E n Tr (vw0 s) y:=by
 have tr:R w E n Tr s y:=ZV (λ_ _ _=>⟨trivial,rfl⟩) (λ_ _=>Ele.rfl) (λ_ h=>h) _ _ h;cases s<;>first | exact tr | simp only [vw0,R]
theorem ZBN (hh:HSim C E hp n w) (s:SV) (y:Value) (h:R w E n (okS C E hp) s y):R w E n Tr (vw4 hp s) y :=
 ZgL hh (λs y h=>ZgL hh (λs y h=>ZgL hh (λs y h=>ZgL hh (λs y h=>ZCt s y h) s y h) s y h) s y h) s y h
mutual
theorem Zyg {w':World} {E':Env} {n' ok ok':Nat->Prop}:∀ (s:SV) (y:Value),FLT s->R w E n ok s y->R w' E' n' ok' s y
 | .v x,y,_,h=>by simpa [R] using h
 | .agg l,y,f,h=>by simp only [R,FLT] at *;obtain ⟨cs,h1,h2⟩:=h;exact ⟨cs,h1,Zn6 l _ f h2⟩
 | .tup l,y,f,h=>by simp only [R,FLT] at *;obtain ⟨cs,h1,h2⟩:=h;exact ⟨cs,h1,Zn6 l _ f h2⟩
 | .any,y,_,h=>by simp only [R]
 | .p _ _,_,f,_=>f.elim
 | .sl _ _ _,_,f,_=>f.elim
 | .mr _ _,_,f,_=>f.elim
 | .pr _ _ _ _ _,_,f,_=>f.elim
 | .ms _ _ _ _ _,_,f,_=>f.elim
 | .ps _ _,_,f,_=>f.elim
 | .cl _ _,_,f,_=>f.elim
 | .q _,_,f,_=>f.elim
 | .mp _,_,f,_=>f.elim
 | .yl _,_,f,_=>f.elim
 | .ifc T s,y,f,h=>by simp only [R,FLT] at *;obtain ⟨x,h1,h2⟩:=h;exact ⟨x,h1,Zyg s x f h2⟩
 | .gd _ _ _,_,f,_=>f.elim
theorem Zn6 {w':World} {E':Env} {n' ok ok':Nat->Prop}:∀ (l:Ls) (ys:LZ),ZzZ l->RL w E n ok l ys->RL w' E' n' ok' l ys
 | [],ys,_,h=>by simpa [RL] using h
 | s :: l,ys,f,h=>by
  simp only [RL,ZzZ] at *;obtain ⟨y,r,h1,h2,h3⟩:=h;exact ⟨y,r,h1,Zyg s y f.1 h2,Zn6 l r f.2 h3⟩
end
theorem Zno {o:Oper} {f:FuncId} {args:Ls} {vs:LZ} {res:SV} (hs:HSim C E hp n w) (hrun:(execOp a.eval o).run P w = .ok (.enter f vs.toArray) w)
 (hR:RL w E n (okS C E hp) args vs) (hf:FLT res) (hc:Ct P f (ZcD (vw4 hp) args) res):Yld P o a w (Zz C E hp n w res):=by
 refine ZgW hrun ((hc.run w Tr vs (Zgc (Zy hs) λg l hg _=>⟨(Zy hs g l hg).1,trivial,rfl⟩) (Zcz _ _ hc.ka (Ux (ZBN hs) _ _ hR))).mono λe w' ⟨y,he,hy,hb⟩=>⟨y,he,Zyg res y hf hy,hb⟩)
end
section
variable {fr:Lf} {w:World} {E:Env} {n:Nat->Prop} {ok:Nat->Prop}
theorem ZDr {j:Nat} {b c:Bool} (h:GE fr j b) (hl:lk j fr = .v (.bool c)):c=b:=by
 cases h with
 | base h=>rw [hl] at h;simpa using h
 | step h _=>rw [hl] at h;cases h
theorem Zi0 {j j':Nat} {b b':Bool} {s:SV} (h:GE fr j b) (hl:lk j fr = .gd j' b' s):GE fr j' b'/\s = .v (.bool b):=by
 cases h with
 | base h=>rw [hl] at h;cases h
 | step h h'=>rw [hl] at h;cases h;exact ⟨h',rfl⟩
theorem ZBl {a b:Bool} (h:bbq a b=true):a=b:=by revert h;cases a<;>cases b<;>simp [bbq]
theorem ZsQ {j0 j:Nat} {a b:Bool} (h:Zh0 (Nat.beq j0 j) a b=true):j0=j/\a=b:=by
 cases hj:Nat.beq j0 j<;>rw [hj] at h
 . cases h
 . exact ⟨Nat.eq_of_beq_eq_true hj,ZBl h⟩
theorem Zbp:∀ (f:Nat) {j0 j:Nat} {w0 w:Bool},alw f fr j0 w0 j w=true->GE fr j0 w0->GE fr j w
 | 0,_,_,_,_,h,_=>by simp [alw] at h
 | f+1,j0,j,w0,w,h,hg=>by
  simp only [alw] at h;cases hb:Zh0 (Nat.beq j0 j) w0 w
  . rw [hb] at h;cases hl:lk j0 fr<;>rw [hl] at h<;>simp only [ZAY] at h<;>try (cases h;done)
    exact Zbp f h (Zi0 hg hl).1
  . obtain ⟨rfl,rfl⟩:=ZsQ hb;exact hg
theorem Zvx {s:SV} {y:Value} (h:FR w E n ok fr s y) (hs:∀ j b t,s≠.gd j b t):R w E n ok s y:=by
 cases s<;>first | exact h | exact absurd rfl (hs _ _ _)
theorem Wq {g:Option (Nat × Bool)} {s:SV} {y:Value} (h:FR w E n ok fr s y) (hg:geP g fr):R w E n ok (Xl g fr s) y:=by
 cases s<;>try exact h
 rename_i j b s;cases g with
 | none=>simp only [Xl,R]
 | some p =>
  obtain ⟨j0,w0⟩:=p;simp only [Xl];cases ha:alw 8 fr j0 w0 j b
  . simp only [ZfI,R]
  . simp only [ZfI];exact h.1 (Zbp 8 ha hg)
theorem ZBT (hG:GS w ok) (i:Nat):FR w E n ok fr (gtS (GT i)) (.pointer (some ⟨i,0,none⟩)):=by
 have:=gt_ok (E:=E) (n:=n) hG i
 revert this
 cases GT i<;>exact id
theorem YQ {a:Act} {g:Option (Nat × Bool)} (hG:GS w ok) (h:∀ t,FR w E n ok fr (lk t fr) (a.tmps.getD t undef)) (hg:geP g fr) (x:X):R w E n ok (rdG g fr x) (evX a x):=by
 cases x with
 | t t=>exact Wq (h t) hg
 | c x=>exact Wq (fr:=fr) (s:=.v x) (show R w E n ok (.v x) x by simp [R]) hg
 | f i=>exact Wq (fr:=fr) (s:=.cl i []) (show R w E n ok (.cl i []) _ by simp [R,RL,evX]) hg
 | g i=>exact Wq (ZBT hG i) hg
end
section
variable {P:Program} {C:Cx} {E:Env} {hp:Lh} {n:Nat->Prop} {w:World} {a:Act}
theorem Z9 {s:SV} {y:Value} (h:R w E n (okS C E hp) s y):Zz C E hp n w s y w:=⟨h,Below.refl _ _⟩
theorem Zhv {ρ : X->SV} {ok:Nat->Prop} {m:Nat}:∀ {ps:List X} {rows:Rr},(∀ x ∈ ps,R w E n ok (ρ x) (evX a x))->Zjd ρ m ps=some rows ->
 rows.length=ps.length/\∀ i (h:i < ps.length),∃ row,rows[i]? = some row/\row.length=m/\RL w E n ok row (evX a ps[i]).cells.toList
 | [],rows,_,h=>by simp [Zjd] at h;subst h;exact ⟨rfl,λi h=>by simp at h⟩
 | x :: r,rows,hρ,h=>by
  simp only [Zjd] at h;cases hl:YC (ρ x) with
  | none=>rw [hl] at h;simp [ZAA] at h
  | some l =>
   cases hls:Zjd ρ m r with
   | none=>rw [hls] at h;simp [ZAA] at h
   | some ls =>
    rw [hl,hls] at h;simp only [ZAA] at h;cases hk:chk l m
    . simp [hk] at h
    . simp only [hk,cond_true,Option.some.injEq] at h;subst h;obtain ⟨h1,h2⟩:=Zhv (ps:=r) (λy hy=>hρ y (by simp [hy])) hls;refine ⟨by simp [h1],λi hi=>?_⟩;cases i with
      | zero=>exact ⟨l,by simp,ZbS hk,by simpa using Zac (hρ x (by simp)) hl⟩
      | succ i=>simpa using h2 i (by simpa using hi)
end
theorem VT (l:LZ) (o:Nat) (m:LZ) (h:o+m.length<=l.length):ZP l o m=l.take o ++ (m ++ l.drop (o+m.length)):=by
 apply List.ext_getElem?;intro j;rw [Yp l o m j h];by_cases h1:j < o
 . rw [if_neg (by omega),List.getElem?_append_left (by simp;omega),List.getElem?_take_of_lt h1]
 . rw [List.getElem?_append_right (by simp;omega)];simp only [List.length_take,show min o l.length=o from by omega];by_cases h2:j < o+m.length
   . rw [if_pos (by omega),List.getElem?_append_left (by omega)]
   . rw [if_neg (by omega),List.getElem?_append_right (by omega),List.getElem?_drop];congr 1;omega
def ZbL (m:Nat):Nat->LZ->List (Nat × Value)
 | _,[]=>[]
 | i,v :: vs=>(i * m,v) :: ZbL m (i+1) vs
theorem Zdb (m:Nat):∀ (vs:LZ) (i:Nat) (z:LZ),z.length=(i+vs.length) * m->(∀ v ∈ vs,v.cells.size=m) ->
 ZcJ z (ZbL m i vs)=z.take (i * m) ++ vs.flatMap (·.cells.toList)
 | [],i,z,hz,_=>by
  simp only [List.length_nil,Nat.add_zero] at hz;simp [ZbL,ZcJ,<- hz]
 | v :: vs,i,z,hz,hv=>by
  have hm:v.cells.size=m:=hv v (by simp);simp only [List.length_cons] at hz;have hle:i * m+v.cells.toList.length<=z.length:=by
   rw [hz,Array.length_toList,hm];rw [show i+(vs.length+1)=(i+1)+vs.length from by omega,Nat.add_mul,Nat.add_mul];omega
  simp only [ZbL,ZcJ];rw [Zdb m vs (i+1) _ (by rw [Z5,hz];congr 1;omega) (λu hu=>hv u (by simp [hu]))];rw [VT _ _ _ hle];have hlen:(z.take (i * m)).length=i * m:=by simp;omega
  rw [<- List.append_assoc,List.take_left' (by rw [List.length_append,hlen,Array.length_toList,hm,Nat.add_mul];omega)];simp
theorem ZgP {w:World} {E:Env} {n:Nat->Prop} {ok:Nat->Prop} {b m:Nat} (cs:LZ) (hok:ok b) (hc:∀ j c,cs[j]? = some c->w.cell? ⟨b,j,none⟩=some c) :
 ∀ (rows:Rr) (vs:LZ) (off:Nat),rows.length=vs.length->(∀ i (_:i < vs.length),∃ row,rows[i]? = some row/\row.length=m/\RL w E n ok row (vs[i]).cells.toList) ->
  (∀ j,(vs.flatMap (·.cells.toList))[j]? = cs[off+j]?)->RR w E n ok b m rows off
 | [],[],off,_,_,_=>by simp [RR]
 | row :: rows,v :: vs,off,hl,h,hcs=>by
  simp only [RR];obtain ⟨row',h1,h2,h3⟩:=h 0 (by simp);simp at h1;subst h1;simp only [List.getElem_cons_zero] at h3;have hlen:=ZO h3;refine ⟨h2,⟨_,h3,λ_=>hok,λj c hj=>hc _ _ ?_⟩,?_⟩
  . rw [<- hcs j];simp only [List.flatMap_cons];rw [List.getElem?_append_left (List.getElem?_eq_some_iff.1 hj).1];exact hj
  . refine ZgP cs hok hc rows vs (off+m) (by simpa using hl) (λi hi=>by
    have q:=h (i+1) (by simpa using hi)
    simp only [List.getElem?_cons_succ,List.getElem_cons_succ] at q;exact q) (λj=>?_)
    have:=hcs (m+j);simp only [List.flatMap_cons] at this;rw [List.getElem?_append_right (by rw [hlen,h2];omega),hlen,h2,show m+j - m=j from by omega] at this;rw [this];congr 1;omega
 | [],_ :: _,_,h,_,_=>by simp at h
 | _ :: _,[],_,h,_,_=>by simp at h
section
variable {P:Program} {C:Cx} {E:Env} {hp:Lh} {n:Nat->Prop} {w:World} {a:Act}
theorem UR (m:Nat):∀ (vs:LZ) (i j:Nat),(ZbL m i vs)[j]? = (vs[j]?).map λv=>((i+j) * m,v)
 | [],i,j=>by simp [ZbL]
 | v :: vs,i,0=>by simp [ZbL]
 | v :: vs,i,j+1=>by simp only [ZbL,List.getElem?_cons_succ,UR m vs (i+1) j];congr 1;funext v;congr 2;omega
theorem VH (m:Nat):∀ (vs:LZ) (i:Nat),(ZbL m i vs).length=vs.length
 | [],i=>rfl
 | v :: vs,i=>by simp [ZbL,VH m vs (i+1)]
theorem ZxF {t T m len:Nat} {parts:Array (Nat × Operand)} {ps:List X} {s:SV} {ρ : X->SV} (hs:HSim C E hp n w) (hρ : ∀ x ∈ ps,R w E n (okS C E hp) (ρ x) (evX a x))
 (hu:P.underlying t=some (.slice T)) (hm:XT P T=some m) (hl:len * m<=2 ^ 24) (hpl:ps.length=len) (hm0:m≠0) (hz:∃ z,YN P T=some z/\z.cells.size=m)
 (hx:Vr ps (parts.toList.map (·.2))=true) (hi:parts.toList.map (·.1)=List.range len) (hv:ZAX m (Zjd ρ m ps)=some s) :
 ∃ y w',(Instr.buildSlice t len (parts.map λ(i,x)=>(i,a.eval x))).run P w = .ok y w'/\Zz C E hp n w s y w':=by
 obtain ⟨z,hz1,hz2⟩:=hz;cases hrows:Zjd ρ m ps with
 | none=>rw [hrows] at hv;cases hv
 | some rows =>
  rw [hrows] at hv;simp only [ZAX,Option.some.injEq] at hv;subst hv;obtain ⟨hr1,hr2⟩:=Zhv (a:=a) hρ hrows
  let vs:=ps.map (evX a)
  have hvs:∀ v ∈ vs,v.cells.size=m:=by
   intro v hv;obtain ⟨i,hi',rfl⟩:=List.getElem_of_mem hv;simp only [vs,List.length_map] at hi';obtain ⟨row,k1,k2,k3⟩:=hr2 i hi';have:=ZO k3;simp only [vs,List.getElem_map];rw [<- Array.length_toList,this,k2]
  have hparts:(parts.map λ(i,x)=>(i,a.eval x)).toList=(List.range len).zip vs:=by
   rw [<- hi];have h2:=YS hx a;apply List.ext_getElem?;intro j;simp only [vs,<- h2,Array.toList_map,List.zip,List.getElem?_zipWith,List.getElem?_map];cases parts.toList[j]?<;>simp
  let Z:=(Array.range (len * m)).map (λi=>z.cells[i % z.cells.size]!)
  have hZ:Z.toList.length=(0+vs.length) * m:=by simp [Z,vs,hpl]
  have hf:=Zgj (λi=>some (i * m,m)) ((List.range len).zip vs) (ZbL m 0 vs) Z (by simp [VH,vs,hpl]) (λi h h'=>by
   have hlt:i < vs.length:=by rw [VH] at h';exact h'
   refine ⟨m,?_,?_,?_,?_⟩
   . have:=UR m vs 0 i;rw [List.getElem?_eq_getElem hlt,List.getElem?_eq_getElem h'] at this;simp at this;simp [this]
   . have:=UR m vs 0 i;rw [List.getElem?_eq_getElem hlt,List.getElem?_eq_getElem h'] at this;simp at this;simp [this]
   . simp;exact hvs _ (List.getElem_mem _)
   . have:=UR m vs 0 i;rw [List.getElem?_eq_getElem hlt,List.getElem?_eq_getElem h'] at this;simp at this;rw [this];simp only [Z,Array.size_map,Array.size_range];have:i+1<=len:=by simp [vs,hpl] at hlt;omega
     calc i * m+m=(i+1) * m:=by rw [Nat.add_mul];omega
      _<=len * m:=Nat.mul_le_mul_right m this)
  rw [Zdb m vs 0 _ hZ hvs] at hf;simp only [Nat.zero_mul,List.take_zero,List.nil_append] at hf
  let cs:=vs.flatMap (·.cells.toList)
  refine ⟨.slice (some ⟨w.heap.size,0,none⟩) len len,w.alloc (.cells cs.toArray T),?_,?_,?_⟩
  . have hlm:¬ len * m > 2 ^ 24:=by omega
    simp only [Instr.buildSlice,Sem.run_bind,run_underlying hu,Result.andThen_ok,Yb hm,if_neg hlm];by_cases h0:len * m=0
    . have hlen0:len=0:=by rcases Nat.mul_eq_zero.1 h0 with h | h<;>first | exact h | exact absurd h hm0
      have hps:ps=[]:=by cases ps<;>simp_all
      subst hps;subst hlen0;have hpn:parts = #[]:=by
       apply Array.toList_inj.1;cases hq:parts.toList<;>simp_all
      subst hpn;have e0:(Array.map (λ_=>(default:Value)) (Array.range 0)) = #[]:=by apply Array.toList_inj.1;simp
      simp [Instr.fill,newRow,cs,vs,e0]
    . simp only [if_neg h0,Sem.run_bind,WN hz1,Result.andThen_ok,Sem.run_pure];rw [show ((Array.range (len * m)).map λi=>z.cells[i % z.cells.size]!)=Z from rfl,hparts,hf];simp [newRow];rfl
  . simp only [R];have hle:len<=len * m:=Nat.le_mul_of_pos_right _ (by omega);refine ⟨_,_,_,rfl,by rw [hr1,hpl],⟨Nat.le_refl _,λ_=>rfl⟩,by omega,.inr ⟨_,_,rfl,?_⟩⟩;have hnew:(w.alloc (.cells cs.toArray T)).heap[w.heap.size]? = some (.cells cs.toArray T (0,0)):=heap_alloc_new _ _;have hst:ZM w (w.alloc (.cells cs.toArray T)) (okS C E hp) (okS C E hp):=Yd ((Below.refl _ _).alloc (Nat.le_refl _) _)
    refine ZgP cs (WV hs (Nat.le_refl _)) (λj c hj=>by rw [cell_of_row _ _ _ _ _ _ hnew];simpa using hj) rows vs 0 (by simp [vs,hr1]) (λi hi'=>?_) (λj=>by simp [cs]);simp only [vs,List.length_map] at hi';obtain ⟨row,k1,k2,k3⟩:=hr2 i hi';exact ⟨row,k1,k2,by simp only [vs,List.getElem_map];exact ZL hst (λ_ _=>Ele.rfl) (λ_ h=>h) _ _ k3⟩
  . exact (Below.refl _ _).alloc (Nat.le_refl _) _
end
end Go.Sx
