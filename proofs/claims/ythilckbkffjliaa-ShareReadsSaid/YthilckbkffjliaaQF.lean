/- Walks and plain laws that lead to the given statement, part 6 of 9. -/
import Derived.Test.YthilckbkffjliaaQE
set_option maxRecDepth 100000
set_option maxHeartbeats 4000000
set_option linter.all false
open Nat renaming reduceAdd->rA,reduceMul->rM,reduceSub->rS,beq_refl->nbr
namespace Go.Sx
open Go Go.RowKit
def NK:Nat->Prop:=fun _=>False
theorem VZ {w:World} {E E':Env} {n n' ok:Nat->Prop}:∀ (l:List (Nat × Value × SV)) (ys:List MapEntry),(∀ e ∈ l,KF e.2.2)->RM w E n ok l ys->RM w E' n' ok l ys
 | [],ys,_,h=>by simp only [RM] at h ⊢;exact h
 | e :: l,ys,hk,h=>by
  simp only [RM] at h ⊢
  obtain ⟨y,r,rfl,h1,h2⟩:=h
  exact ⟨y,r,rfl,Zgs _ _ (hk e (by simp)) h1,VZ l r (fun e he=>hk e (by simp [he])) h2⟩
def mqV (es:List (Nat × Value × SV)):VP where
 f w ok y:=∃ b ys c,y = .map (some b)/\ok b/\w.heap[b]? = some (.map ys c)/\RM w E0 NK ok es ys.toList
 one:=by rintro w ok y ⟨b,ys,c,rfl,_⟩;rfl
 mono:=by
  rintro w w' ok ok' y hs ⟨b,ys,c,rfl,h1,h2,h3⟩
  obtain ⟨k1,k2⟩:=hs b h1 (.inr ⟨_,_,h2⟩)
  exact ⟨b,ys,c,rfl,k1,k2.trans h2,Xd hs (fun k hk=>hk.elim) (fun k hk=>hk) _ _ h3⟩
theorem ZiR {P:Program} {f:FuncId} {args:List SV} {res:SV} {Zs:Ot->Prop} (h:CtM P f [] 0 args Zs) (ka:KFL args) (kr:KF res)
 (hp:∀ o,Zs o->o.pn=false/\∀ (C:Cx) E w y,(∀ k b,¬ C.pass k b)->HSim C E o.hp (ltn o.n) w->R w E (ltn o.n) (okS C E o.hp) o.res y->R w E0 NK (fun b=>C.okp b\/C.w0.heap.size<=b) res y):Ct P f args res:=by
 refine ⟨h.bd,ka,kr,fun w ok vs hR=>?_⟩
 let C:Cx:=⟨w,ok,fun _ _=>False,[],none,E0,0⟩
 have hS:HSim C E0 [] (ltn 0) w:=⟨fun _ _=>rfl,fun _=>trivial,fun _ _ _ h=>h.elim,fun _ _ h=>h.elim,⟨rfl,rfl,rfl,Nat.le_refl _,fun _ _ _=>rfl⟩,fun k hk=>absurd hk (Nat.not_lt_zero k)⟩
 have hR':RL w E0 (ltn 0) (okS C E0 []) args vs:=Zx (E:=E0) (n:=fun _=>False) (fun b hb _=>⟨⟨.inl hb,fun k ho=>ho⟩,rfl⟩) (fun _ _=>Ele.rfl) (fun k hk=>hk.elim) _ _ hR
 refine (h.run C E0 w vs rfl rfl rfl rfl rfl (fun k b h=>h.elim) UE hS hR').mono fun e w' ⟨o,E',y,h1,h2,h3,h4⟩=>?_
 obtain ⟨q1,q2⟩:=hp o h1
 refine ⟨y,by rw [h4,q1];rfl,q2 C E' w' y (fun _ _ h=>h) h2 h3,⟨h2.kp.os,h2.kp.tape,h2.kp.output,h2.kp.size,fun b hb=>h2.kp.block b hb (fun k hk=>hk)⟩⟩
theorem mq_of {C:Cx} {E:Env} {hp:List (Nat × HB)} {n:Nat->Prop} {w:World} {k c:Nat} {es:List (Nat × Value × SV)} {y:Value} (hpass:∀ k b,¬ C.pass k b) (hs:HSim C E hp n w) (hk:lkh k hp = .map es c) (hkf:∀ e ∈ es,KF e.2.2)
 (hR:R w E n (okS C E hp) (.mp k) y):R w E0 NK (fun b=>C.okp b\/C.w0.heap.size<=b) (.q (mqV es)) y:=by
 simp only [R] at hR ⊢
 have hb:=hs.bk k
 rw [hk] at hb
 obtain ⟨ys,h1,h2⟩:=hb
 have hlo:C.w0.heap.size<=E.β k:=by
  rcases hs.lo k (E.β k) (by rw [hk];rfl) with h | h
  . exact h
  . exact absurd h (hpass _ _)
 refine ⟨E.β k,ys,c,hR.2,.inr hlo,h1,VZ _ _ hkf (Xd (n':=n) (E':=E) (fun b hb _=>⟨hb.1,rfl⟩) (fun _ _=>Ele.rfl) (fun _ h=>h) _ _ h2)⟩
section
variable {K V:Type} [DecidableEq K] {P:Program} {key:K->Value} {sv:K->SV} {val:V->SV} {L:List (Nat × K × V)} {km c:Nat} {kt et t:TypeId} {σ : St} {k:K} {i j:Nat} {ok:Bool} {zs:SV} {z:Value} {v:V}
theorem UO {g:Option (Nat × Bool)} {fr:List (Nat × SV)} {s:SV} (h:∀ j b u,s≠.gd j b u):YC g fr s=s:=by
 cases s<;>first | rfl | exact absurd rfl (h _ _ _)
theorem Zgx {w:World} {E:Env} {n ok':Nat->Prop} {b:Nat} {ys:Array MapEntry} (g1:w.heap[b]? = some (.map ys c)) (g2:RM w E n ok' (mpS key val L) ys.toList) (ht:P.underlying t=some (.map kt et)) (hK:KeyT P kt key sv)
 (hz:ZU P et=some z) :
 (mget k L=none/\(Instr.lookup t (.map (some b)) (key k) ok).run P w = .ok (if ok then .tuple #[z,.bool false] else z) w) \/
 ∃ v y,mget k L=some v/\(Instr.lookup t (.map (some b)) (key k) ok).run P w = .ok (if ok then .tuple #[y,.bool true] else y) w/\R w E n ok' (val v) y:=by
 have hfn:=fun w=>hK.fnd k _ _ w (W8 g2)
 rcases Vd (w:=w) (E:=E) (n:=n) (ok:=ok') k L ys.toList 0 g2 with ⟨a1,a2,-,-⟩ | ⟨j,v,e,b1,b2,b3,b4,b5,-⟩
 . left
   refine ⟨a1,?_⟩
   simp only [Instr.lookup,Sem.run_bind,run_underlying ht,Result.andThen_ok,Yh g1 rfl,Sem.run_pure,hK.chk,hfn,a2,Xs hz]
 . right
   refine ⟨v,e.val,b1,?_,b5⟩
   simp only [Instr.lookup,Sem.run_bind,run_underlying ht,Result.andThen_ok,Yh g1 rfl,Sem.run_pure,hK.chk,hfn,b2]
def lkS (ok:Bool) (val:V->SV) (zs:SV):Option V->SV
 | some v=>bif ok then .tup [val v,.v (.bool true)] else val v
 | none=>bif ok then .tup [zs,.v (.bool false)] else zs
theorem ZmO {w:World} {E:Env} {n ok':Nat->Prop} {b:Nat} {ys:Array MapEntry} {o:Oper} {a:Act} {next:Act->World->Prop} {Q:Exit->Act->World->Prop} {rr:Option Nat} (ho:o.op = .lookup t (.tmp i) (.tmp j) ok)
 (g1:w.heap[b]? = some (.map ys c)) (g2:RM w E n ok' (mpS key val L) ys.toList) (ht:P.underlying t=some (.map kt et)) (hK:KeyT P kt key sv) (hz:ZU P et=some z) (hzR:∀ w E n ok,R w E n ok zs z)
 (hm:a.tmps.getD i undef = .map (some b)) (hi:a.tmps.getD j undef=key k) (hn:∀ y,R w E n ok' (lkS ok val zs (mget k L)) y->next (a.put o.dst y) w):o.wpq rr P a w next Q:=by
 obtain ⟨dst',op',ty',pos,after,guard⟩:=o
 simp only at ho;subst ho
 rcases Zgx (ok:=ok) (k:=k) g1 g2 ht hK hz with ⟨q1,q2⟩ | ⟨v,y,q1,q2,q3⟩
 . refine Zv (x:=.value (if ok then .tuple #[z,.bool false] else z)) (w':=w) ?_ (by simp) ?_
   . show (execOp a.eval _).run P w=_
     simp only [execOp,Act.eval,hm,hi,Sem.run_bind,q2,Result.andThen_ok,Sem.run_pure]
   . refine hn _ ?_
     rw [q1]
     cases ok
     . exact hzR _ _ _ _
     . simp only [lkS,cond_true,if_true,R,RL];exact ⟨_,rfl,_,_,rfl,hzR _ _ _ _,_,_,rfl,rfl,rfl⟩
 . refine Zv (x:=.value (if ok then .tuple #[y,.bool true] else y)) (w':=w) ?_ (by simp) ?_
   . show (execOp a.eval _).run P w=_
     simp only [execOp,Act.eval,hm,hi,Sem.run_bind,q2,Result.andThen_ok,Sem.run_pure]
   . refine hn _ ?_
     rw [q1]
     cases ok
     . exact q3
     . simp only [lkS,cond_true,if_true,R,RL];exact ⟨_,rfl,_,_,rfl,q3,_,_,rfl,rfl,rfl⟩
theorem Zuq (hm:lk i σ.fr = .q (mqV (mpS key val L))) (hkf:∀ e ∈ mpS key val L,KF e.2.2) (hi:lk j σ.fr=sv k) (ht:P.underlying t=some (.map kt et)) (hK:KeyT P kt key sv) (hz:ZU P et=some z) (hzR:∀ w E n ok,R w E n ok zs z) :
 RBE P (.lookup t (.tmp i) (.tmp j) ok) [.t i,.t j] σ (lkS ok val zs (mget k L)):=by
 intro o ho C E hpX nX a w next Q hx hS hR hn
 have h1:=hR (.t i) (by simp)
 have h2:=hR (.t j) (by simp)
 simp only [rdG,rd,hm,YC,evX] at h1
 simp only [rdG,rd,hi,evX] at h2
 rw [UO (Zaa hK k)] at h2
 have h2:=(hK.svR k _).1 h2
 simp only [R] at h1
 obtain ⟨b,ys,c,e1,e2,e3,e4⟩:=h1
 exact ZmO (E:=E) (n:=nX) (ok':=okS C E hpX) ho e3 (VZ _ _ hkf e4) ht hK hz hzR e1 h2 fun y hy=>hn w y hS (fun b hb _=>⟨hb,rfl⟩) hy
theorem Uq (hm:lk i σ.fr = .mp km) (hh:lkh km σ.hp = .map (mpS key val L) c) (hi:lk j σ.fr=sv k) (ht:P.underlying t=some (.map kt et)) (hK:KeyT P kt key sv) (hz:ZU P et=some z) (hzR:∀ w E n ok,R w E n ok zs z) :
 RBE P (.lookup t (.tmp i) (.tmp j) ok) [.t i,.t j] σ (lkS ok val zs (mget k L)):=by
 intro o ho C E hpX nX a w next Q hx hS hR hn
 have h1:=hR (.t i) (by simp)
 have h2:=hR (.t j) (by simp)
 simp only [rdG,rd,hm,YC,evX] at h1
 simp only [rdG,rd,hi,evX] at h2
 rw [UO (Zaa hK k)] at h2
 have h2:=(hK.svR k _).1 h2
 simp only [R] at h1
 have hX:lkh km hpX = .map (mpS key val L) c:=by
  rcases hx km with h | h | ⟨φ,h,_⟩
  . rw [hh] at h;cases h
  . rw [h,hh]
  . rw [hh] at h;cases h
 have hb:=hS.bk km
 rw [hX] at hb
 obtain ⟨ys,e3,e4⟩:=hb
 exact ZmO (E:=E) (n:=nX) (ok':=okS C E hpX) ho e3 e4 ht hK hz hzR h1.2 h2 fun y hy=>hn w y hS (fun b hb _=>⟨hb,rfl⟩) hy
def ZcY (key:K->Value) (val:V->SV) (c:Nat) (k:K) (v0:V) (L:List (Nat × K × V)):OP where
 f w ok o:=∃ ys c',o = .map ys c'/\((RM w E0 NK ok (mpS key val L) ys.toList/\c'=c)\/(RM w E0 NK ok (mpS key val (mset c k v0 L)) ys.toList/\c'=mclk c k L))
 mono:=by
  rintro w w' ok ok' o hs ⟨ys,c',rfl,h⟩
  refine ⟨ys,c',rfl,?_⟩
  rcases h with ⟨h,e⟩ | ⟨h,e⟩
  . exact .inl ⟨Xd hs (fun k hk=>hk.elim) (fun k hk=>hk) _ _ h,e⟩
  . exact .inr ⟨Xd hs (fun k hk=>hk.elim) (fun k hk=>hk) _ _ h,e⟩
theorem Ziq {v0:V} (h:∀ e ∈ mpS key val L,KF e.2.2) (h0:KF (val v0)):∀ e ∈ mpS key val (mset c k v0 L),KF e.2.2:=by
 intro e he
 obtain ⟨x,hx,rfl⟩:=List.mem_map.1 he
 rcases Zjk hx with q | q
 . exact h _ (List.mem_map.2 ⟨x,q,rfl⟩)
 . simp only;rw [show x.2.2=v0 from by rw [q]];exact h0
theorem Ztq {C:Cx} {E:Env} {hp:List (Nat × HB)} {n:Nat->Prop} {w:World} {hb:HB} (h:HSim C E hp n w) (h1:∀ b,occ E km (lkh km hp) b↔occ E km hb b) (hg:lkh km hp≠.gone) (h2:ZT w E n (okS C E hp) km hb):HSim C E ((km,hb) :: hp) n w/\okS C E ((km,hb) :: hp)=okS C E hp:=by
 have ho:∀ k b,occ E k (lkh k ((km,hb) :: hp)) b↔occ E k (lkh k hp) b:=fun k b=>by
  rw [Zk];split
  . rename_i q;subst q;exact (h1 b).symm
  . exact Iff.rfl
 have hok:okS C E ((km,hb) :: hp)=okS C E hp:=by funext b;simp only [okS,ho]
 refine ⟨⟨fun k hk=>?_,fun k=>?_,fun k k' b g1 g2=>h.dj k k' b ((ho k b).1 g1) ((ho k' b).1 g2),fun k b g1=>h.lo k b ((ho k b).1 g1),h.kp,h.pin⟩,hok⟩
 . rw [Zk];split
   . rename_i q;subst q;exact absurd (h.kn k hk) hg
   . exact h.kn k hk
 . rw [Zk];split
   . rename_i q;subst q;rw [hok];exact h2
   . rw [hok];exact h.bk k
theorem Zew {m:Nat} {v0:V} (hh:lkh km σ.hp = .map (mpS key val L) c) (hkf:∀ e ∈ mpS key val L,KF e.2.2):Ent m σ ⟨σ.fr,(km,.ob (ZcY key val c k v0 L)) :: σ.hp,σ.n,σ.N,σ.gs⟩:=by
 intro C E a w _ h
 obtain ⟨h1,h2⟩:=Ztq (km:=km) (hb:=.ob (ZcY key val c k v0 L)) h.hs (fun b=>by rw [hh];simp only [occ]) (by rw [hh];simp) (by
  have hb:=h.hs.bk km
  rw [hh] at hb
  obtain ⟨ys,e3,e4⟩:=hb
  simp only [ZT]
  exact ⟨_,e3,ys,c,rfl,.inl ⟨VZ _ _ hkf e4,rfl⟩⟩)
 exact ⟨E,fun t=>by rw [show okS C E ((km,.ob (ZcY key val c k v0 L)) :: σ.hp)=okS C E σ.hp from h2];exact h.fr t,h.sz,(by rw [show DF C E ((km,.ob (ZcY key val c k v0 L)) :: σ.hp) w=DF C E σ.hp w from by funext ds;simp only [DF,h2]];exact h.df),h.gs,h1⟩
theorem ZhY {v0:V} (hv0:v0=(mget k L).getD v) (hm:lk i σ.fr = .mp km) (hh:lkh km σ.hp = .ob (ZcY key val c k v0 L)) (hkf:∀ e ∈ mpS key val L,KF e.2.2) (hk0:KF (val v0)) (hi:lk j σ.fr=sv k) (ht:P.underlying t=some (.map kt et)) (hK:KeyT P kt key sv)
 (hz:ZU P et=some z) (hzR:∀ w E n ok,R w E n ok (val v) z):RBE P (.lookup t (.tmp i) (.tmp j) false) [.t i,.t j] σ (val v0):=by
 intro o ho C E hpX nX a w next Q hx hS hR hn
 have h1:=hR (.t i) (by simp)
 have h2:=hR (.t j) (by simp)
 simp only [rdG,rd,hm,YC,evX] at h1
 simp only [rdG,rd,hi,evX] at h2
 rw [UO (Zaa hK k)] at h2
 have h2:=(hK.svR k _).1 h2
 simp only [R] at h1
 have hX:ZT w E nX (okS C E hpX) km (.ob (ZcY key val c k v0 L)):=by
  have hb:=hS.bk km
  rcases hx km with h | h | ⟨φ,h,hi⟩
  . rw [hh] at h;cases h
  . rw [h,hh] at hb;exact hb
  . rw [hh] at h;cases h;exact hi.2 _ _ _ _ _ hb
 simp only [ZT] at hX
 obtain ⟨_,e1,ys,c',rfl,e2⟩:=hX
 rcases e2 with ⟨e2,rfl⟩ | ⟨e2,rfl⟩
 . refine ZmO (E:=E) (n:=nX) (ok':=okS C E hpX) (L:=L) (zs:=val v) ho e1 (VZ _ _ hkf e2) ht hK hz hzR h1.2 h2 fun y hy=>hn w y hS (fun b hb _=>⟨hb,rfl⟩) ?_
   rw [hv0]
   cases hq:mget k L<;>rw [hq] at hy<;>exact hy
 . refine ZmO (E:=E) (n:=nX) (ok':=okS C E hpX) (L:=mset c k v0 L) (zs:=val v) ho e1 (VZ _ _ (Ziq hkf hk0) e2) ht hK hz hzR h1.2 h2 fun y hy=>hn w y hS (fun b hb _=>⟨hb,rfl⟩) ?_
   rw [mget_set,if_pos rfl] at hy;exact hy
theorem Zed {v0:V}:∀ {L:List (Nat × K × V)} {c c':Nat},Vo c' k (mset c k v0 L)=Vo c k L
 | [],c,c'=>by simp [mset,Vo]
 | e :: l,c,c'=>by
  simp only [mset,Vo]
  split
  . rename_i q;simp [Vo]
  . rename_i q;simp only [Vo,if_neg q];exact Zed
theorem Zpz {v0 v1:V} {L:List (Nat × K × V)} {c c':Nat} (h:v1=v0):mset c' k v1 (mset c k v0 L)=mset c k v0 L:=by
 subst h
 exact Zc3 (by rw [mget_set,if_pos rfl])
theorem Zbl {w:World} {E:Env} {n ok':Nat->Prop} {b:Nat} {ys:Array MapEntry} (g1:w.heap[b]? = some (.map ys c)) (g2:RM w E n ok' (mpS key val L) ys.toList) (ht:P.underlying t=some (.map kt et)) (hK:KeyT P kt key sv)
 (hz:ZU P et=some z) (hzR:∀ w E n ok,R w E n ok (val v) z) :
 ∃ (ys':Array MapEntry) (y:Value),(Instr.mapEntry t (.map (some b)) (key k)).run P w = .ok (.tuple #[y,goInt (Vo c k L)]) (WN w b (.map ys' (mclk c k L)))/\R w E n ok' (val ((mget k L).getD v)) y /\
  ∀ {w':World} {ok'':Nat->Prop},RM w' E n ok'' (mpS key val L) ys.toList->R w' E n ok'' (val ((mget k L).getD v)) y->RM w' E n ok'' (mpS key val (mset c k ((mget k L).getD v) L)) ys'.toList:=by
 have hfn:=fun w=>hK.fnd k _ _ w (W8 g2)
 rcases Vd (w:=w) (E:=E) (n:=n) (ok:=ok') k L ys.toList 0 g2 with ⟨a1,a2,-,a4⟩ | ⟨j,v0,e,b1,b2,b3,b4,b5,b6⟩
 . have hc:mclk c k L=c+1:=by simp [mclk,a1]
   have hb:Vo c k L=c:=by
    have:∀ {L:List (Nat × K × V)},mget k L=none->Vo c k L=c:=by
     intro L
     induction L with
     | nil=>intro _;rfl
     | cons e l ih =>
      intro h
      simp only [mget] at h
      simp only [Vo]
      split at h
      . cases h
      . rename_i q;rw [if_neg q];exact ih h
    exact this a1
   refine ⟨ys.push ⟨key k,z,c⟩,z,?_,by rw [a1];exact hzR _ _ _ _,fun h1 h2=>by rw [Array.toList_push];exact a4 c _ _ h2 h1⟩
   rw [hb,hc]
   simp only [Instr.mapEntry,Sem.run_bind,run_underlying ht,Result.andThen_ok,Yh g1 rfl,Sem.run_pure,hK.chk,hfn,a2,Xs hz,Yu _ g1 rfl]
 . have hc:mclk c k L=c:=by simp [mclk,b1]
   have hb:e.born=Vo c k L:=ZeX (i:=0) g2 b2 b3
   rw [Nat.zero_add] at b2
   have hj:ys[j]? = some e:=by simpa using b3
   have hek:((ys[j]?).map (·.key)).getD (key k)=key k:=by simp [hj,b4]
   have heb:((ys[j]?).map fun x=>(x.born:Int)).getD 0=(e.born:Int):=by simp [hj]
   have heb':((ys[j]?).map (·.born)).getD 0=e.born:=by simp [hj]
   refine ⟨ys.modify j fun e=>{ e with key:=key k },e.val,?_,by rw [b1];exact b5,fun {w' ok''} h1 h2=>?_⟩
   . rw [hc,<- hb]
     simp only [Instr.mapEntry,Sem.run_bind,run_underlying ht,Result.andThen_ok,Yh g1 rfl,Sem.run_pure,hK.chk,hfn,b2,hek,heb,heb',Instr.keyThatStays,hK.same,if_true,Yu _ g1 rfl]
   . rw [Array.toList_modify,show ys.toList.modify j (fun e=>{ e with key:=key k })=ys.toList.modify j (fun e'=>{ e' with key:=key k,val:=e.val }) from Zaz _ _ _ _ _ b3 rfl]
     exact (b6 h1).2 c _ _ h2
theorem ZeI {h0:HB} {v0:V} (hv0:v0=(mget k L).getD v) (hm:lk i σ.fr = .mp km) (hh:h0 = .ob (ZcY key val c k v0 L)) (hkf:∀ e ∈ mpS key val L,KF e.2.2) (hk0:KF (val v0)) (hi:lk j σ.fr=sv k) (ht:P.underlying t=some (.map kt et)) (hK:KeyT P kt key sv)
 (hz:ZU P et=some z) (hzR:∀ w E n ok,R w E n ok (val v) z) :
 RBB P (.mapEntry t (.tmp i) (.tmp j)) [.t i,.t j] km h0 (.map (mpS key val (mset c k v0 L)) (mclk c k L)) σ (.tup [val v0,.v (.int .i64 (Vo c k L))]):=by
 intro o ho C E hpX nX a w next Q hpre hS hR hn
 have h1:=hR (.t i) (by simp)
 have h2:=hR (.t j) (by simp)
 simp only [rdG,rd,hm,YC,evX] at h1
 simp only [rdG,rd,hi,evX] at h2
 rw [UO (Zaa hK k)] at h2
 have h2:=(hK.svR k _).1 h2
 simp only [R] at h1
 have hX:=hS.bk km
 rw [hpre,hh] at hX
 simp only [ZT] at hX
 obtain ⟨_,e1,ys,c',rfl,e2⟩:=hX
 have main:∃ (ys':Array MapEntry) (y:Value),(Instr.mapEntry t (.map (some (E.β km))) (key k)).run P w = .ok (.tuple #[y,goInt (Vo c k L)]) (WN w (E.β km) (.map ys' (mclk c k L)))/\R w E nX (okS C E hpX) (val v0) y /\
  ∀ {w':World} {ok'':Nat->Prop},Zt w w' (okS C E hpX) ok''->RM w' E nX ok'' (mpS key val (mset c k v0 L)) ys'.toList:=by
  rcases e2 with ⟨e2,rfl⟩ | ⟨e2,rfl⟩
  . have e2:=VZ (E':=E) (n':=nX) _ _ hkf e2
    obtain ⟨ys',y,q1,q2,q3⟩:=Zbl (v:=v) e1 e2 ht hK hz hzR
    rw [<- hv0] at q2 q3
    exact ⟨ys',y,q1,q2,fun hst=>q3 (Xd hst.c (fun _ _=>Ele.rfl) (fun _ h=>h) _ _ e2) (ZB hst.c (fun _ _=>Ele.rfl) (fun _ h=>h) _ _ q2)⟩
  . have e2:=VZ (E':=E) (n':=nX) _ _ (Ziq hkf hk0) e2
    obtain ⟨ys',y,q1,q2,q3⟩:=Zbl (v:=v) (k:=k) e1 e2 ht hK hz hzR
    have hg:(mget k (mset c k v0 L)).getD v=v0:=by rw [mget_set,if_pos rfl];rfl
    have hc:mclk (mclk c k L) k (mset c k v0 L)=mclk c k L:=by
     show (bif (mget k (mset c k v0 L)).isSome then _ else _)=_
     rw [mget_set,if_pos rfl];rfl
    rw [hg] at q2 q3
    rw [Zpz rfl] at q3
    rw [Zed,hc] at q1
    exact ⟨ys',y,q1,q2,fun hst=>q3 (Xd hst.c (fun _ _=>Ele.rfl) (fun _ h=>h) _ _ e2) (ZB hst.c (fun _ _=>Ele.rfl) (fun _ h=>h) _ _ q2)⟩
 obtain ⟨ys',y,q1,q2,q3⟩:=main
 obtain ⟨s1,s2⟩:=XL (k:=km) (hb:=.map (mpS key val (mset c k v0 L)) (mclk c k L)) (o:=.map ys' (mclk c k L)) hS (fun b=>by rw [hpre,hh];simp only [occ]) (fun b=>by simp only [occ]) (fun hlt hst=>by
  simp only [ZT]
  exact ⟨ys',Y3 hlt,q3 hst⟩)
 obtain ⟨dst',op',ty',pos,after,guard⟩:=o
 simp only at ho;subst ho
 refine Zv (x:=.value (.tuple #[y,goInt (Vo c k L)])) (w':=WN w (E.β km) (.map ys' (mclk c k L))) ?_ (by simp) ?_
 . show (execOp a.eval _).run P w=_
   have h1':a.tmps.getD i undef = .map (some (E.β km)):=h1.2
   simp only [execOp,Act.eval,h1',h2,Sem.run_bind,q1,Result.andThen_ok,Sem.run_pure]
 . refine hn _ _ s1 s2 ?_
   simp only [R,RL,goInt]
   exact ⟨_,rfl,_,_,rfl,ZB s2.c (fun _ _=>Ele.rfl) (fun _ h=>h) _ _ q2,_,_,rfl,rfl,rfl⟩
theorem Zkn {h0:HB} {v0:V} (hh:h0 = .ob (ZcY key val c k v0 L)) (hkf:∀ e ∈ mpS key val L,KF e.2.2) (hk0:KF (val v0)):WK h0 (.map (mpS key val (mset c k v0 L)) (mclk c k L)):=by
 refine ⟨_,hh,fun E k b=>by simp only [occ],fun w E n ok k h=>?_⟩
 simp only [ZT] at h ⊢
 obtain ⟨ys,e1,e2⟩:=h
 exact ⟨_,e1,ys,_,rfl,.inr ⟨VZ _ _ (Ziq hkf hk0) e2,rfl⟩⟩
end
end Go.Sx
namespace Go.Azalai
def Zw8 (k:Int) (x:Letter):Letter :=
 if k=1\/k=2 then ⟨0,0,0,0,0,0,x.rials,false⟩ else if k=3 then ⟨0,0,0,x.who,0,x.animal,0,false⟩ else if k=4\/k=5 then ⟨0,0,0,0,0,x.animal,0,false⟩
 else if k=6 then ⟨0,0,0,0,x.other,x.animal,x.rials,false⟩ else ⟨0,0,0,x.who,x.other,0,x.rials,false⟩
def Zwv (k:Int) (p:Pact) (x:Letter):Bool :=
 if k=3 then atP p x.who else if k=7\/k=8 then atP p x.who && (atP p x.other && decide (x.who≠x.other)) else true
def Zwb (x:Letter):Letter:={ Zw8 x.kind x with id:=x.id,day:=x.day,kind:=x.kind,mouth:=x.mouth }
theorem ZqZ {p:Pact} (h:ZH p=true) {k:Int} (ha:atP p k=true):0<=k/\k<=9999:=by
 simp only [ZH,Bool.and_eq_true] at h
 have hi:=(YD h.1.1.2).1
 simp only [atP,List.any_eq_true,decide_eq_true_eq] at ha
 obtain ⟨y,hy,rfl⟩:=ha
 have:=hi y hy
 omega
theorem Zps {p:Pact} {x:Letter} (hp:ZH p=true) (hk:x.kind=1\/x.kind=2\/x.kind=3\/x.kind=4\/x.kind=5\/x.kind=6\/x.kind=7\/x.kind=8) :
 ((inR 0 9999 x.id && (inR 0 9999 x.who && (inR 0 9999 x.other && inR 0 9999 x.animal))) && inR 0 100000 x.day && inR 0 10000000 x.rials && Zwv x.kind p x && decide (Zwb x=x))=Zh p x:=by
 have h1:=fun h=>ZqZ (k:=x.who) hp h
 have h2:=fun h=>ZqZ (k:=x.other) hp h
 obtain ⟨id',day,kind,who,other,animal,rials,mouth⟩:=x
 simp only at *
 cases ha:atP p who<;>cases hb:atP p other<;>rw [Bool.eq_iff_iff] <;>
  rcases hk with rfl | rfl | rfl | rfl | rfl | rfl | rfl | rfl<;>simp [Zh,Zwv,Zwb,Zw8,inR,ha,hb]<;>grind
end Go.Azalai
namespace Go.Proofs.Ythilckbkffjliaa
open Go Go.Sx Go.Azalai
theorem Zid:Try.prog.underlying 120=some (.map 5 126):=by kernel_rfl
theorem u5:Try.prog.underlying 5=some (.int .u8):=by kernel_rfl
theorem Zko:KeyT Try.prog 5 (fun n:Int=>.int .u8 n) (fun n=>.v (.int .u8 n)):=Zrm u5
abbrev kB:Int->Value:=fun n=>.int .u8 n
abbrev Kd3:=FuncId × FuncId × FuncId
def YP (v:Kd3):SV:=.agg [.cl v.1 [],.cl v.2.1 [],.cl v.2.2 []]
def ZA:List (Nat × Int × Kd3):=[(0,1,(91,90,95)),(1,2,(91,90,96)),(2,3,(97,98,99)),(3,4,(92,90,100)),(4,5,(92,90,101)),(5,6,(102,90,103)),(6,7,(93,94,104)),(7,8,(93,94,105))]
abbrev ZxF:SV:=.q (mqV (mpS kB YP ZA))
theorem UJ:∀ e ∈ mpS kB YP ZA,KF e.2.2:=by
 intro e he
 obtain ⟨x,_,rfl⟩:=List.mem_map.1 he
 simp [YP,KF,KFL]
theorem ks0:mset 0 (1:Int) (91,90,95) (ZA.take 0)=ZA.take 1/\mclk 0 (1:Int) (ZA.take 0)=1:=⟨rfl,rfl⟩
theorem ks1:mset 1 (2:Int) (91,90,96) (ZA.take 1)=ZA.take 2/\mclk 1 (2:Int) (ZA.take 1)=2:=⟨rfl,rfl⟩
theorem ks2:mset 2 (3:Int) (97,98,99) (ZA.take 2)=ZA.take 3/\mclk 2 (3:Int) (ZA.take 2)=3:=⟨rfl,rfl⟩
theorem ks3:mset 3 (4:Int) (92,90,100) (ZA.take 3)=ZA.take 4/\mclk 3 (4:Int) (ZA.take 3)=4:=⟨rfl,rfl⟩
theorem ks4:mset 4 (5:Int) (92,90,101) (ZA.take 4)=ZA.take 5/\mclk 4 (5:Int) (ZA.take 4)=5:=⟨rfl,rfl⟩
theorem ks5:mset 5 (6:Int) (102,90,103) (ZA.take 5)=ZA.take 6/\mclk 5 (6:Int) (ZA.take 5)=6:=⟨rfl,rfl⟩
theorem ks6:mset 6 (7:Int) (93,94,104) (ZA.take 6)=ZA.take 7/\mclk 6 (7:Int) (ZA.take 6)=7:=⟨rfl,rfl⟩
theorem ks7:mset 7 (8:Int) (93,94,105) (ZA.take 7)=ZA.take 8/\mclk 7 (8:Int) (ZA.take 7)=8:=⟨rfl,rfl⟩
theorem Zae:CtM Try.prog 72 [] 0 [] (fun o=>o=⟨false,.mp 0,[(0,.map (mpS kB YP ZA) 8)],1⟩):=by
 refine m72 (by simp [hpb]) (fun o ho=>by subst ho;exact ⟨by simp [KX],by simp only [KXP,KXH,and_true];exact UJ⟩) ?_
 dsimp only [c72,r72,go_sem,rA,rM,rS]
 refine Y6 rfl rfl rfl ?_
 dsimp only [go_sem,rA,rM,rS]
 refine Yd (key:=kB) (val:=YP) (sv:=fun n=>.v (kB n)) (L:=ZA.take 0) (k:=1) (v:=(91,90,95)) (ins:=true) rfl rfl Zid Zko rfl rfl (fun _ _ _ e=>by cases e) ?_
 rw [ks0.1,ks0.2]
 dsimp only [go_sem,rA,rM,rS]
 refine Yd (key:=kB) (val:=YP) (sv:=fun n=>.v (kB n)) (L:=ZA.take 1) (k:=2) (v:=(91,90,96)) (ins:=true) rfl rfl Zid Zko rfl rfl (fun _ _ _ e=>by cases e) ?_
 rw [ks1.1,ks1.2]
 dsimp only [go_sem,rA,rM,rS]
 refine Yd (key:=kB) (val:=YP) (sv:=fun n=>.v (kB n)) (L:=ZA.take 2) (k:=3) (v:=(97,98,99)) (ins:=true) rfl rfl Zid Zko rfl rfl (fun _ _ _ e=>by cases e) ?_
 rw [ks2.1,ks2.2]
 dsimp only [go_sem,rA,rM,rS]
 refine Yd (key:=kB) (val:=YP) (sv:=fun n=>.v (kB n)) (L:=ZA.take 3) (k:=4) (v:=(92,90,100)) (ins:=true) rfl rfl Zid Zko rfl rfl (fun _ _ _ e=>by cases e) ?_
 rw [ks3.1,ks3.2]
 dsimp only [go_sem,rA,rM,rS]
 refine Yd (key:=kB) (val:=YP) (sv:=fun n=>.v (kB n)) (L:=ZA.take 4) (k:=5) (v:=(92,90,101)) (ins:=true) rfl rfl Zid Zko rfl rfl (fun _ _ _ e=>by cases e) ?_
 rw [ks4.1,ks4.2]
 dsimp only [go_sem,rA,rM,rS]
 refine Yd (key:=kB) (val:=YP) (sv:=fun n=>.v (kB n)) (L:=ZA.take 5) (k:=6) (v:=(102,90,103)) (ins:=true) rfl rfl Zid Zko rfl rfl (fun _ _ _ e=>by cases e) ?_
 rw [ks5.1,ks5.2]
 dsimp only [go_sem,rA,rM,rS]
 refine Yd (key:=kB) (val:=YP) (sv:=fun n=>.v (kB n)) (L:=ZA.take 6) (k:=7) (v:=(93,94,104)) (ins:=true) rfl rfl Zid Zko rfl rfl (fun _ _ _ e=>by cases e) ?_
 rw [ks6.1,ks6.2]
 dsimp only [go_sem,rA,rM,rS]
 refine Yd (key:=kB) (val:=YP) (sv:=fun n=>.v (kB n)) (L:=ZA.take 7) (k:=8) (v:=(93,94,105)) (ins:=true) rfl rfl Zid Zko rfl rfl (fun _ _ _ e=>by cases e) ?_
 rw [ks7.1,ks7.2]
 dsimp only [go_sem,rA,rM,rS]
 refine ⟨_,rfl,?_⟩
 rw [show ZA.take 8=ZA from rfl]
 refine Zm ?_ ?_ ?_ rfl
 . dsimp only [id,go_sem,rA,rM,rS]
   exact ⟨by omega,rfl⟩
 . dsimp only [id,go_sem,rA,rM,rS]
   exact ⟨⟨rfl,UJ⟩,trivial⟩
 . dsimp only [id,go_sem,rA,rM,rS]
   exact ⟨by omega,trivial⟩
theorem Zpm:Ct Try.prog 72 [] ZxF:=by
 refine ZiR Zae trivial trivial ?_
 rintro o rfl
 exact ⟨rfl,fun C E w y h1 h2 h3=>mq_of h1 h2 rfl UJ h3⟩
theorem ZcX (p:Pact) (x:Letter):Ct Try.prog 90 [.agg (Zj p),.agg (Zb x)] (B true):=by
 refine t90.1 (by simp [Zj,Za,Zb,Zc,KFL,KF]) (by simp [KFL,KF]) ?_
 dsimp only [c90,r90,Zj,Zb,go_sem,rA,rM,rS]
theorem ZeA (x:Letter):Ct Try.prog 91 [.agg (Zb x)] (.agg (Zb ⟨0,0,0,0,0,0,x.rials,false⟩)):=by
 refine t91.1 (by simp [Zb,KFL,KF]) (by simp [Zb,KFL,KF]) ?_
 dsimp only [c91,r91,Zb,go_sem,rA,rM,rS]
theorem Zd9 (x:Letter):Ct Try.prog 92 [.agg (Zb x)] (.agg (Zb ⟨0,0,0,0,0,x.animal,0,false⟩)):=by
 refine t92.1 (by simp [Zb,KFL,KF]) (by simp [Zb,KFL,KF]) ?_
 dsimp only [c92,r92,Zb,go_sem,rA,rM,rS]
theorem Zja (x:Letter):Ct Try.prog 93 [.agg (Zb x)] (.agg (Zb ⟨0,0,0,x.who,x.other,0,x.rials,false⟩)):=by
 refine t93.1 (by simp [Zb,KFL,KF]) (by simp [Zb,KFL,KF]) ?_
 dsimp only [c93,r93,Zb,go_sem,rA,rM,rS]
theorem Zv8 (x:Letter):Ct Try.prog 97 [.agg (Zb x)] (.agg (Zb ⟨0,0,0,x.who,0,x.animal,0,false⟩)):=by
 refine t97.1 (by simp [Zb,KFL,KF]) (by simp [Zb,KFL,KF]) ?_
 dsimp only [c97,r97,Zb,go_sem,rA,rM,rS]
theorem ZrM (x:Letter):Ct Try.prog 102 [.agg (Zb x)] (.agg (Zb ⟨0,0,0,0,x.other,x.animal,x.rials,false⟩)):=by
 refine t102.1 (by simp [Zb,KFL,KF]) (by simp [Zb,KFL,KF]) ?_
 dsimp only [c102,r102,Zb,go_sem,rA,rM,rS]
theorem ZsK (p:Pact) (x:Letter) (hs:Yr p):Ct Try.prog 98 [.agg (Zj p),.agg (Zb x)] (B (atP p x.who)):=by
 refine t98.1 (by simp [Zj,Za,Zb,Zc,KFL,KF]) (by simp [KFL,KF]) ?_
 dsimp only [c98,r98,Zj,Zb,go_sem,rA,rM,rS]
 refine call (ZiK p x.who hs) ?_
 dsimp only [go_sem,rA,rM,rS]
 rw [Xf]
theorem Zq0 (p:Pact) (x:Letter) (hs:Yr p):Ct Try.prog 94 [.agg (Zj p),.agg (Zb x)] (B (atP p x.who && (atP p x.other && decide (x.who≠x.other)))):=by
 refine t94.1 (by simp [Zj,Za,Zb,Zc,KFL,KF]) (by simp [KFL,KF]) ?_
 dsimp only [c94,r94,Zj,Zb,go_sem,rA,rM,rS]
 refine call (ZiK p x.who hs) ?_
 dsimp only [go_sem,rA,rM,rS]
 rw [Xf]
 repeat (refine gb ?_;dsimp only [go_sem,rA,rM,rS])
 refine call (ZiK p x.other hs) ?_
 dsimp only [go_sem,rA,rM,rS]
 repeat (refine gb ?_;dsimp only [go_sem,rA,rM,rS])
 rw [Xf]
 cases atP p x.who<;>cases atP p x.other<;>by_cases h:x.who=x.other<;>simp [h]
theorem ZvV {p:Pact} {x:Letter} (hs:Yr p) {v:Kd3} (h:mget x.kind ZA=some v):Ct Try.prog v.1 [.agg (Zb x)] (.agg (Zb (Zw8 x.kind x)))/\Ct Try.prog v.2.1 [.agg (Zj p),.agg (Zb x)] (B (Zwv x.kind p x)) /\
 (x.kind=1\/x.kind=2\/x.kind=3\/x.kind=4\/x.kind=5\/x.kind=6\/x.kind=7\/x.kind=8):=by
 have hn:∀ k:Int,x.kind=k->Zw8 x.kind x=Zw8 k x:=fun k h=>by rw [h]
 have hv:∀ k:Int,x.kind=k->Zwv x.kind p x=Zwv k p x:=fun k h=>by rw [h]
 simp only [mget,ZA] at h
 split at h
 . rename_i q;cases h;rw [hn 1 q.symm,hv 1 q.symm];exact ⟨ZeA x,ZcX p x,by omega⟩
 split at h
 . rename_i q;cases h;rw [hn 2 q.symm,hv 2 q.symm];exact ⟨ZeA x,ZcX p x,by omega⟩
 split at h
 . rename_i q;cases h;rw [hn 3 q.symm,hv 3 q.symm];exact ⟨Zv8 x,ZsK p x hs,by omega⟩
 split at h
 . rename_i q;cases h;rw [hn 4 q.symm,hv 4 q.symm];exact ⟨Zd9 x,ZcX p x,by omega⟩
 split at h
 . rename_i q;cases h;rw [hn 5 q.symm,hv 5 q.symm];exact ⟨Zd9 x,ZcX p x,by omega⟩
 split at h
 . rename_i q;cases h;rw [hn 6 q.symm,hv 6 q.symm];exact ⟨ZrM x,ZcX p x,by omega⟩
 split at h
 . rename_i q;cases h;rw [hn 7 q.symm,hv 7 q.symm];exact ⟨Zja x,Zq0 p x hs,by omega⟩
 split at h
 . rename_i q;cases h;rw [hn 8 q.symm,hv 8 q.symm];exact ⟨Zja x,Zq0 p x hs,by omega⟩
 . cases h
theorem Zrw {k:Int} (h:mget k ZA=none):¬ (k=1\/k=2\/k=3\/k=4\/k=5\/k=6\/k=7\/k=8):=by
 rw [VF] at h
 rintro (rfl | rfl | rfl | rfl | rfl | rfl | rfl | rfl)
 . exact h _ (by simp [ZA];exact .inl rfl) rfl
 all_goals (revert h;simp [ZA])
theorem ZdM:ZU Try.prog 126=some (.agg #[.nilFunc,.nilFunc,.nilFunc]):=by kernel_rfl
abbrev zk:SV:=.agg [.v .nilFunc,.v .nilFunc,.v .nilFunc]
theorem zk_R:∀ w E n ok,R w E n ok zk (.agg #[.nilFunc,.nilFunc,.nilFunc]):=fun w E n ok=>by
 simp only [R,RL];exact ⟨_,rfl,_,_,rfl,rfl,_,_,rfl,rfl,_,_,rfl,rfl,rfl⟩
theorem ZnN (p:Pact) (x:Letter) (hs:Yr p) (hp:ZH p=true):Ct Try.prog 66 [.agg (Zj p),.agg (Zb x)] (B (Zh p x)):=by
 refine t66.1 (by simp [Zj,Za,Zb,Zc,KFL,KF]) (by simp [KFL,KF]) ?_
 dsimp only [c66,r66,Zj,Zb,go_sem,rA,rM,rS]
 refine call Zpm ?_
 dsimp only [go_sem,rA,rM,rS]
 have hrv:=fun σ h1 h2=>Zuq (P:=Try.prog) (t:=120) (σ:=σ) (i:=9) (j:=11) (ok:=true) (key:=kB) (val:=YP) (sv:=fun n=>.v (kB n)) (L:=ZA) (k:=x.kind) (zs:=zk) h1 UJ h2 Zid Zko ZdM zk_R
 cases hg:mget x.kind ZA with
 | none =>
  refine ⟨_,hrv _ rfl rfl,?_⟩
  rw [hg]
  dsimp only [lkS,go_sem,rA,rM,rS]
  repeat (refine ZdR (by decide) ?_;dsimp only [go_sem,rA,rM,rS])
  refine ZK rfl ?_
  dsimp only [go_sem,rA,rM,rS]
  have:=Zrw hg
  simp only [not_or] at this
  simp [Zh,this]
 | some v =>
  obtain ⟨k1,k2,k3⟩:=ZvV (p:=p) hs hg
  refine ⟨_,hrv _ rfl rfl,?_⟩
  rw [hg]
  dsimp only [lkS,YP,go_sem,rA,rM,rS]
  repeat (first | (refine gb ?_;dsimp only [go_sem,rA,rM,rS]) | (refine call (in4 0 9999 _ _ _ _ _) ?_;dsimp only [go_sem,rA,rM,rS]) | (refine call (in1 0 100000 _ _) ?_;dsimp only [go_sem,rA,rM,rS]) | (refine call (in1 0 10000000 _ _) ?_;dsimp only [go_sem,rA,rM,rS]))
  refine call k2 ?_
  dsimp only [go_sem,rA,rM,rS]
  repeat (refine gb ?_;dsimp only [go_sem,rA,rM,rS])
  have hq:=Zps (x:=x) hp k3
  by_cases hall:((inR 0 9999 x.id && (inR 0 9999 x.who && (inR 0 9999 x.other && inR 0 9999 x.animal))) && inR 0 100000 x.day && inR 0 10000000 x.rials && Zwv x.kind p x)=true
  case neg =>
   refine ZK (by grind) ?_
   dsimp only [go_sem,rA,rM,rS]
   rw [Bool.not_eq_true] at hall
   rw [<- hq,hall];simp
  refine Zz (by grind) ?_
  dsimp only [go_sem,rA,rM,rS]
  refine call k1 ?_
  dsimp only [Zb,go_sem,rA,rM,rS]
  rw [<- hq,hall]
  simp only [Option.some.injEq,SV.v.injEq,Value.bool.injEq,Bool.true_and]
  rw [Bool.eq_iff_iff]
  obtain ⟨id',day,kind,who,other,animal,rials,mouth⟩:=x
  simp [Zwb]
end Go.Proofs.Ythilckbkffjliaa
namespace Go.Azalai
section
variable {α : Type} (key:α->Int)
def ky (l:List α) (i:Nat):Int:=match l[i]? with | some x=>key x | none=>0
def swp (l:List α) (i j:Nat):List α:=match l[i]?,l[j]? with | some x,some y=>(l.set i y).set j x | _,_=>l
theorem Zbj {l:List α} {i j:Nat} (hi:i < l.length) (hj:j < l.length):swp l i j=(l.set i l[j]).set j l[i]:=by
 unfold swp;rw [List.getElem?_eq_getElem hi,List.getElem?_eq_getElem hj]
theorem ZhQ (l:List α) (i j:Nat):(swp l i j).length=l.length:=by unfold swp;split<;>simp
theorem ZbH {l:List α} {i j:Nat} (hi:i < l.length) (hj:j < l.length) (p:Nat):(swp l i j)[p]? = if p=i then l[j]? else if p=j then l[i]? else l[p]?:=by
 rw [Zbj hi hj]
 by_cases h1:p=j
 . subst h1
   by_cases h2:p=i
   . subst h2;simp [hi]
   . simp [h2,hi,hj]
 . rw [List.getElem?_set_ne (Ne.symm h1)]
   by_cases h2:p=i
   . subst h2;simp [hi,hj]
   . rw [List.getElem?_set_ne (Ne.symm h2),if_neg h2,if_neg h1]
theorem Zlx {l:List α} {i j:Nat} (hi:i < l.length) (hj:j < l.length):(swp l i j).Perm l:=by
 rw [Zbj hi hj];exact List.set_set_perm hi hj
theorem Ze8 {l:List α} {i j:Nat} (hi:i < l.length) (hj:j < l.length) (p:Nat):ky key (swp l i j) p=if p=i then ky key l j else if p=j then ky key l i else ky key l p:=by
 unfold ky;rw [ZbH hi hj]
 by_cases h1:p=i
 . simp only [if_pos h1]
 . by_cases h2:p=j
   . simp only [if_neg h1,if_pos h2]
   . simp only [if_neg h1,if_neg h2]
structure PIn (a b:Nat) (l l':List α):Prop where
 len:l'.length=l.length
 perm:l'.Perm l
 out:∀ i,i < a\/b<=i->l'[i]? = l[i]?
 all:∀ p:α->Prop,(∀ i x,a<=i->i < b->l[i]? = some x->p x)->∀ i x,a<=i->i < b->l'[i]? = some x->p x
theorem PIn.refl (a b:Nat) (l:List α):PIn a b l l:=⟨rfl,.refl _,fun _ _=>rfl,fun _ h=>h⟩
theorem PIn.trans {a b:Nat} {l l' l'':List α} (h:PIn a b l l') (h':PIn a b l' l''):PIn a b l l'' :=
 ⟨h'.len.trans h.len,h'.perm.trans h.perm,fun i hi=>(h'.out i hi).trans (h.out i hi),fun p hp=>h'.all p (h.all p hp)⟩
theorem PIn.mono {a b a' b':Nat} {l l':List α} (h:PIn a b l l') (ha:a'<=a) (hb:b<=b'):PIn a' b' l l':=by
 refine ⟨h.len,h.perm,fun i hi=>h.out i (by omega),fun p hp i x h1 h2 hx=>?_⟩
 by_cases hi:a<=i/\i < b
 . exact h.all p (fun i x q1 q2=>hp i x (by omega) (by omega)) i x hi.1 hi.2 hx
 . rw [h.out i (by omega)] at hx;exact hp i x h1 h2 hx
theorem PIn.swap {a b i j:Nat} {l:List α} (hi:a<=i) (hi':i < b) (hj:a<=j) (hj':j < b) (hb:b<=l.length):PIn a b l (swp l i j):=by
 have h1:i < l.length:=by omega
 have h2:j < l.length:=by omega
 refine ⟨ZhQ _ _ _,Zlx h1 h2,fun p hp=>?_,fun q hq p x g1 g2 hx=>?_⟩
 . rw [ZbH h1 h2,if_neg (by omega),if_neg (by omega)]
 . rw [ZbH h1 h2] at hx
   split at hx
   . exact hq j x hj hj' hx
   . split at hx
     . exact hq i x hi hi' hx
     . exact hq p x g1 g2 hx
theorem PIn.ky {a b:Nat} {l l':List α} (h:PIn a b l l') {i:Nat} (hi:i < a\/b<=i):ky key l' i=ky key l i:=by unfold Go.Azalai.ky;rw [h.out i hi]
theorem PIn.kall {a b:Nat} {l l':List α} (h:PIn a b l l') (hb:b<=l.length) (p:Int->Prop) (hp:∀ i,a<=i->i < b->p (Go.Azalai.ky key l i)):∀ i,a<=i->i < b->p (Go.Azalai.ky key l' i):=fun i h1 h2=>by
 have hl:i < l'.length:=by rw [h.len];omega
 have:=h.all (fun x=>p (key x)) (fun i x q1 q2 hx=>by have:=hp i q1 q2;unfold Go.Azalai.ky at this;rw [hx] at this;exact this) i l'[i] h1 h2 (List.getElem?_eq_getElem hl)
 unfold Go.Azalai.ky;rw [List.getElem?_eq_getElem hl];exact this
def Srt (a b:Nat) (l:List α):Prop:=∀ i j,a<=i->i < j->j < b->ky key l i<=ky key l j
theorem Srt.le {a b:Nat} {l:List α} (h:Srt key a b l) {i j:Nat} (h1:a<=i) (h2:i<=j) (h3:j < b):ky key l i<=ky key l j:=by
 rcases Nat.lt_or_ge i j with q | q
 . exact h i j h1 q h3
 . rw [show i=j from by omega];exact Int.le_refl _
theorem Srt.join {a c b:Nat} {l:List α} (h1:Srt key a c l) (h2:Srt key c b l) (h:∀ i j,a<=i->i < c->c<=j->j < b->ky key l i<=ky key l j):Srt key a b l:=fun i j g1 g2 g3=>by
 by_cases hj:j < c
 . exact h1 i j g1 g2 hj
 . by_cases hi:i < c
   . exact h i j g1 hi (by omega) g3
   . exact h2 i j (by omega) g2 g3
structure Ins1 (a i j:Nat) (l:List α):Prop where
 up:∀ p q,a<=p->p < q->q<=i->p≠j->q≠j->ky key l p<=ky key l q
 lo:∀ q,j < q->q<=i->ky key l j<=ky key l q
theorem ZjS {a i:Nat} {l:List α} (h:Srt key a i l):Ins1 key a i i l:=⟨fun p q h1 h2 h3 h4 h5=>h p q h1 h2 (by omega),fun q h1 h2=>by omega⟩
theorem ZpP {a i j:Nat} {l:List α} (h:Ins1 key a i j l) (hj:a < j) (hji:j<=i) (hl:i < l.length) (hk:ky key l j < ky key l (j - 1)):Ins1 key a i (j - 1) (swp l j (j - 1)):=by
 have e:=Ze8 key (l:=l) (i:=j) (j:=j - 1) (by omega) (by omega)
 refine ⟨fun p q h1 h2 h3 h4 h5=>?_,fun q h1 h2=>?_⟩
 . rw [e,e,if_neg (c:=p=j - 1) (by omega),if_neg (c:=q=j - 1) (by omega)]
   by_cases hp:p=j
   . subst hp;rw [if_pos rfl,if_neg (by omega)];exact h.up _ _ (by omega) (by omega) h3 (by omega) (by omega)
   . rw [if_neg hp]
     by_cases hq:q=j
     . subst hq;rw [if_pos rfl];exact h.up _ _ h1 (by omega) (by omega) (by omega) (by omega)
     . rw [if_neg hq];exact h.up _ _ h1 h2 h3 hp hq
 . rw [e,e,if_neg (c:=j - 1=j) (by omega),if_pos rfl]
   by_cases hq:q=j
   . subst hq;rw [if_pos rfl];omega
   . rw [if_neg hq,if_neg (by omega)];exact h.lo q (by omega) h2
theorem Zjf {a i j:Nat} {l:List α} (h:Ins1 key a i j l) (hji:j<=i) (hj:j<=a\/ky key l (j - 1)<=ky key l j):Srt key a (i+1) l:=fun p q h1 h2 h3=>by
 by_cases hp:p=j
 . subst hp;exact h.lo q h2 (by omega)
 . by_cases hq:q=j
   . subst hq
     rcases hj with hj | hj
     . omega
     . by_cases hp1:p=q - 1
       . rw [hp1];exact hj
       . have:=h.up p (q - 1) h1 (by omega) (by omega) hp (by omega)
         omega
   . exact h.up p q h1 h2 (by omega) hp hq
end
def swR (a b n:Nat) (K:Nat->Int):Nat->Int:=fun p=>if a<=p/\p < a+n then K (p+b - a) else if b<=p/\p < b+n then K (p+a - b) else K p
def Za5 (a m b:Nat) (K:Nat->Int):Nat->Int:=fun p=>if a<=p/\p < a+(b - m) then K (p+(m - a)) else if a+(b - m)<=p/\p < b then K (p - (b - m)) else K p
theorem swR_0 (a b:Nat) (K:Nat->Int) (p:Nat):swR a b 0 K p=K p:=by
 unfold swR;rw [if_neg (by omega),if_neg (by omega)]
theorem Zp5 {a b n:Nat} {K:Nat->Int} (hab:a+n < b) (p:Nat):swR a b (n+1) K p=if p=a+n then swR a b n K (b+n) else if p=b+n then swR a b n K (a+n) else swR a b n K p:=by
 unfold swR
 by_cases h1:p=a+n
 . subst h1
   rw [if_pos (by omega),if_pos rfl,if_neg (by omega),if_neg (by omega)];congr 1;omega
 . rw [if_neg h1]
   by_cases h2:p=b+n
   . subst h2
     rw [if_neg (by omega),if_pos (by omega),if_pos rfl,if_neg (by omega),if_neg (by omega)];congr 1;omega
   . rw [if_neg h2]
     by_cases h3:a<=p/\p < a+n
     . rw [if_pos (by omega),if_pos h3]
     . rw [if_neg (by omega),if_neg h3]
       by_cases h4:b<=p/\p < b+n
       . rw [if_pos (by omega),if_pos h4]
       . rw [if_neg (by omega),if_neg h4]
structure RotI (m i j:Nat) (K T:Nat->Int):Prop where
 out:∀ p,p < m - i\/m+j<=p->K p=T p
 x:∀ p,m - i<=p->p < m - i+j->T p=K (p+i)
 y:∀ p,m - i+j<=p->p < m+j->T p=K (p - j)
theorem ZkW {a m b:Nat} {K:Nat->Int} (h1:a<=m) (h2:m<=b):RotI m (m - a) (b - m) K (Za5 a m b K):=by
 have e:m - (m - a)=a:=by omega
 refine ⟨fun p hp=>?_,fun p q1 q2=>?_,fun p q1 q2=>?_⟩<;>unfold Za5<;>rw [e] at *
 . rw [if_neg (by omega),if_neg (by omega)]
 . rw [if_pos (by omega)]
 . rw [if_neg (by omega),if_pos (by omega)]
theorem ZwY {m i j:Nat} {K T:Nat->Int} (h:RotI m i j K T) (hi:i<=m) (hj:0 < j) (hij:j < i):RotI m (i - j) j (swR (m - i) m j K) T:=by
 refine ⟨fun p hp=>?_,fun p q1 q2=>?_,fun p q1 q2=>?_⟩<;>unfold swR
 . by_cases h1:m - i<=p/\p < m - i+j
   . rw [if_pos h1,h.x p h1.1 h1.2];congr 1;omega
   . rw [if_neg h1,if_neg (by omega)];exact h.out p (by omega)
 . rw [if_neg (by omega),if_pos (by omega),h.y p (by omega) (by omega)];congr 1;omega
 . rw [if_neg (by omega),if_neg (by omega),h.y p (by omega) (by omega)]
theorem Zzf {m i j:Nat} {K T:Nat->Int} (h:RotI m i j K T) (hi:i<=m) (hi0:0 < i) (hij:i < j):RotI m i (j - i) (swR (m - i) (m+j - i) i K) T:=by
 refine ⟨fun p hp=>?_,fun p q1 q2=>?_,fun p q1 q2=>?_⟩<;>unfold swR
 . by_cases h1:m+j - i<=p/\p < m+j
   . rw [if_neg (by omega),if_pos (by omega),h.y p (by omega) (by omega)];congr 1;omega
   . rw [if_neg (by omega),if_neg (by omega)];exact h.out p (by omega)
 . rw [if_neg (by omega),if_neg (by omega)];exact h.x p (by omega) (by omega)
 . rw [if_pos (by omega),h.x p (by omega) (by omega)];congr 1;omega
theorem ZxH {m i:Nat} {K T:Nat->Int} (h:RotI m i i K T) (hi:i<=m) (p:Nat):swR (m - i) m i K p=T p:=by
 unfold swR
 by_cases h1:m - i<=p/\p < m - i+i
 . rw [if_pos h1,h.x p h1.1 h1.2];congr 1;omega
 . by_cases h2:m<=p/\p < m+i
   . rw [if_neg h1,if_pos h2,h.y p (by omega) (by omega)];congr 1;omega
   . rw [if_neg h1,if_neg h2];exact h.out p (by omega)
def ZgV (a b:Nat) (K:Nat->Int):Prop:=∀ i j,a<=i->i < j->j < b->K i<=K j
theorem ZgV.le {a b:Nat} {K:Nat->Int} (h:ZgV a b K) {i j:Nat} (h1:a<=i) (h2:i<=j) (h3:j < b):K i<=K j:=by
 rcases Nat.lt_or_ge i j with q | q
 . exact h i j h1 q h3
 . rw [show i=j from by omega];exact Int.le_refl _
structure Cut (a m b n s:Nat) (K:Nat->Int):Prop where
 s0:a<=s
 s1:s<=m
 e0:m+s<=n
 e1:n<=b+s
 mid:2 * (n - m)<=a+b/\a+b<=2 * (n - m)+1
 lo:a < s->n < b+s->K (s - 1)<=K (n - s)
 hi:s < m->m+s < n->K (n - s - 1)<=K s
theorem ZqC {a m b n s:Nat} {K:Nat->Int} (h:Cut a m b n s K) (h1:ZgV a m K) (h2:ZgV m b K) :
 ZgV a s (Za5 s m (n - s) K)/\ZgV s (n - m) (Za5 s m (n - s) K)/\ZgV (n - m) (n - s) (Za5 s m (n - s) K)/\ZgV (n - s) b (Za5 s m (n - s) K) /\
  ∀ i j,a<=i->i < n - m->n - m<=j->j < b->Za5 s m (n - s) K i<=Za5 s m (n - s) K j:=by
 obtain ⟨q1,q2,q3,q4,q5,q6,q7⟩:=h
 have e:s+(n - s - m)=n - m:=by omega
 have v1:∀ p,p < s->Za5 s m (n - s) K p=K p:=fun p hp=>by unfold Za5;rw [if_neg (by omega),if_neg (by omega)]
 have v2:∀ p,s<=p->p < n - m->Za5 s m (n - s) K p=K (p+(m - s)):=fun p g1 g2=>by unfold Za5;rw [if_pos (by omega)]
 have v3:∀ p,n - m<=p->p < n - s->Za5 s m (n - s) K p=K (p - (n - s - m)):=fun p g1 g2=>by unfold Za5;rw [if_neg (by omega),if_pos (by omega)]
 have v4:∀ p,n - s<=p->Za5 s m (n - s) K p=K p:=fun p g1=>by unfold Za5;rw [if_neg (by omega),if_neg (by omega)]
 refine ⟨fun i j g1 g2 g3=>?_,fun i j g1 g2 g3=>?_,fun i j g1 g2 g3=>?_,fun i j g1 g2 g3=>?_,fun i j g1 g2 g3 g4=>?_⟩
 . rw [v1 i (by omega),v1 j (by omega)];exact h1 i j g1 g2 (by omega)
 . rw [v2 i (by omega) (by omega),v2 j (by omega) (by omega)];exact h2 _ _ (by omega) (by omega) (by omega)
 . rw [v3 i (by omega) (by omega),v3 j (by omega) (by omega)];exact h1 _ _ (by omega) (by omega) (by omega)
 . rw [v4 i (by omega),v4 j (by omega)];exact h2 _ _ (by omega) g2 g3
 . by_cases hi:i < s
   . rw [v1 i hi]
     by_cases hj:j < n - s
     . rw [v3 j g3 hj];exact h1.le g1 (by omega) (by omega)
     . rw [v4 j (by omega)]
       exact Int.le_trans (h1.le g1 (j:=s - 1) (by omega) (by omega)) (Int.le_trans (q6 (by omega) (by omega)) (h2.le (i:=n - s) (by omega) (by omega) g4))
   . rw [v2 i (by omega) g2]
     by_cases hj:j < n - s
     . rw [v3 j g3 hj]
       exact Int.le_trans (h2.le (j:=n - s - 1) (by omega) (by omega) (by omega)) (Int.le_trans (q7 (by omega) (by omega)) (h1.le (i:=s) (by omega) (by omega) (by omega)))
     . rw [v4 j (by omega)];exact h2.le (by omega) (by omega) g4
def LO:Type:={ x:Letter // 0<=x.id/\x.id<=9999 }
def loK (x:LO):Int:=x.1.day * 10000+x.1.id
def lo0:LO:=⟨⟨0,0,0,0,0,0,0,false⟩,by decide⟩
end Go.Azalai
namespace Go.Proofs.Ythilckbkffjliaa
open Go Go.Sx Go.Azalai
def loL (x:LO):List SV:=[I x.1.id,I x.1.day,U8 x.1.kind,I x.1.who,I x.1.other,I x.1.animal,I x.1.rials,B x.1.mouth]
abbrev byH:HB:=.cells [.sl true 1 [[.cl 68 []],[.cl 69 []]]] 140
def YU (v:Nat) (l:List LO):Ot:=⟨false,.tup [],[(0,.row v 8 (l.map loL) 50),(1,byH)],2⟩
theorem Zkv (v a b n:Nat) (l:List LO) (hab:a+n<=b) (hb:b+n<=l.length) (hL:l.length < 4611686018427387904) :
 CtM Try.prog 120 [(0,.row v 8 (l.map loL) 50),(1,byH)] 2 [.mr 0 v,I a,I b,I n,.cl 88 [.p 1 0]] (fun o=>∃ l',PIn a (b+n) l l'/\(∀ p,ky loK l' p=swR a b n (ky loK l) p)/\o=YU v l'):=by
 refine m120 (by simp [hpb]) (fun o ho=>by obtain ⟨l',_,_,rfl⟩:=ho;simp [YU,byH,KX,KXL,KXP,KXH,Zc,KFR,KFL,KF,loL]) ?_
 dsimp only [c120,r120,go_sem,rA,rM,rS]
 refine YY (fun s:Nat × List LO=>[(10,I s.1)]) (fun s=>[(0,.row v 8 (s.2.map loL) 50)]) (fun s=>s.1<=n/\PIn a (b+n) l s.2/\∀ p,ky loK s.2 p=swR a b s.1 (ky loK l) p) (fun s=>n - s.1) (0,l) ⟨Nat.zero_le _,.refl _ _ _,fun p=>(swR_0 _ _ _ _).symm⟩ ?_ ?_
 . (refine Zl ?_ ?_ ?_ rfl rfl<;>dsimp only [loL,id,go_sem,rA,rM,rS]<;>simp [loL,Zc,Ze,KFR,KFL,KF,Zd,mtO,nbr])
 rintro ⟨j,l1⟩ ⟨hj,hp,hk⟩
 simp only at hj hp hk
 have hl1:=hp.len
 dsimp only [go_sem,rA,rM,rS]
 by_cases hlt:j < n
 . refine ZK (by simpa using hlt) ?_
   (repeat first | dsimp only [go_sem,rA,rM,rS] | simp only [nbr])
   simp (disch:=omega) only [Zi,List.length_map]
   refine Xk (b+j) (by omega) (by omega) ?_
   (repeat first | dsimp only [go_sem,rA,rM,rS] | simp only [nbr])
   refine V0 (by omega) ?_
   (repeat first | dsimp only [loL,go_sem,rA,rM,rS] | simp only [nbr])
   simp (disch:=omega) only [Zi,List.length_map]
   refine Xk (a+j) (by omega) (by omega) ?_
   (repeat first | dsimp only [go_sem,rA,rM,rS] | simp only [nbr])
   refine V0 (by omega) ?_
   (repeat first | dsimp only [loL,go_sem,rA,rM,rS] | simp only [nbr])
   refine Xk (a+j) (by omega) (by simp;omega) ?_
   (repeat first | dsimp only [go_sem,rA,rM,rS] | simp only [nbr])
   refine ZbE l1[b+j] (by omega) (by simp [loL]) (by simp [loL,Zo]) ?_
   (repeat first | dsimp only [go_sem,rA,rM,rS] | simp only [nbr])
   refine Xk (b+j) (Zi (by omega) (by omega)) (by simp;omega) ?_
   (repeat first | dsimp only [go_sem,rA,rM,rS] | simp only [nbr])
   refine ZbE l1[a+j] (by simp;omega) (by simp [loL]) (by simp [loL,Zo]) ?_
   rw [<- Zbj (l:=l1) (i:=a+j) (j:=b+j) (by omega) (by omega)]
   (repeat first | dsimp only [go_sem,rA,rM,rS] | simp only [nbr])
   rw [Zi (n:=(j:Int)+1) (by omega) (by omega)]
   refine ⟨(j+1,swp l1 (a+j) (b+j)),⟨hlt,hp.trans (.swap (by omega) (by omega) (by omega) (by omega) (by omega)),fun p=>?_⟩,by simp only;omega,?_⟩
   . rw [Ze8 loK (by omega) (by omega),Zp5 (by omega),hk,hk,hk]
   (refine Zl ?_ ?_ ?_ rfl rfl<;>dsimp only [loL,id,go_sem,rA,rM,rS]<;>simp [loL,Zc,Ze,KFR,KFL,KF,Zd,mtO,nbr])
 refine Zz (by simp;omega) ?_
 dsimp only [go_sem,rA,rM,rS]
 refine ⟨_,⟨l1,hp,fun p=>by rw [hk p,show j=n from by omega],rfl⟩,?_⟩
 simp only [YU]
 (refine Zm ?_ ?_ ?_ rfl<;>dsimp only [loL,id,go_sem,rA,rM,rS]<;>simp [loL,Zc,Ze,KFR,KFL,KF,Zd,mtO,nbr])
theorem ZqQ (v a m b:Nat) (l:List LO) (ham:a < m) (hmb:m < b) (hb:b<=l.length) (hL:l.length < 4611686018427387904) :
 CtM Try.prog 118 [(0,.row v 8 (l.map loL) 50),(1,byH)] 2 [.mr 0 v,I a,I m,I b,.cl 88 [.p 1 0]] (fun o=>∃ l',PIn a b l l'/\(∀ p,ky loK l' p=Za5 a m b (ky loK l) p)/\o=YU v l'):=by
 refine m118 (by simp [hpb]) (fun o ho=>by obtain ⟨l',_,_,rfl⟩:=ho;simp [YU,byH,KX,KXL,KXP,KXH,Zc,KFR,KFL,KF,loL]) ?_
 dsimp only [c118,r118,go_sem,rA,rM,rS]
 rw [Zi (n:=(m:Int) - (a:Int)) (by omega) (by omega),Zi (n:=(b:Int) - (m:Int)) (by omega) (by omega),show (m:Int) - (a:Int)=((m - a:Nat):Int) from by omega,show (b:Int) - (m:Int)=((b - m:Nat):Int) from by omega]
 refine YY (fun s:Nat × Nat × List LO=>[(10,I s.1),(11,I s.2.1)]) (fun s=>[(0,.row v 8 (s.2.2.map loL) 50)]) (fun s=>(0 < s.1/\0 < s.2.1/\a+s.1<=m/\m+s.2.1<=b)/\PIn a b l s.2.2/\RotI m s.1 s.2.1 (ky loK s.2.2) (Za5 a m b (ky loK l))) (fun s=>s.1+s.2.1) (m - a,b - m,l) ⟨by simp only;omega,.refl _ _ _,ZkW (by omega) (by omega)⟩ ?_ ?_
 . (refine Zl ?_ ?_ ?_ rfl rfl<;>dsimp only [loL,id,go_sem,rA,rM,rS]<;>simp [loL,Zc,Ze,KFR,KFL,KF,Zd,mtO,nbr])
 rintro ⟨i,j,l1⟩ ⟨⟨hi0,hj0,hi,hj⟩,hp,hk⟩
 simp only at hi0 hj0 hi hj hp hk
 have hl1:=hp.len
 dsimp only [go_sem,rA,rM,rS]
 by_cases hij:i=j
 case pos =>
  subst hij
  refine Zz (by simp) ?_
  dsimp only [go_sem,rA,rM,rS]
  rw [Zi (n:=(m:Int) - (i:Int)) (by omega) (by omega),show (m:Int) - (i:Int)=((m - i:Nat):Int) from by omega]
  refine Zp [0,1] (Zkv v (m - i) m i l1 (by omega) (by omega) (by omega)) rfl rfl rfl ?_ ?_ ?_
  . (repeat first | dsimp only [go_sem,rA,rM,rS] | simp only [nbr])
    simp [mtL,mtB,mtS]
  . (repeat first | dsimp only [go_sem,rA,rM,rS] | simp only [nbr])
    simp [Zc,KFR,loL,KFL,KF]
  rintro _ ⟨l2,hp2,hk2,rfl⟩
  (repeat first | dsimp only [YU,go_sem,rA,rM,rS] | simp only [nbr])
  refine ⟨_,⟨l2,hp.trans (hp2.mono (by omega) (by omega)),fun p=>by rw [hk2 p];exact ZxH hk (by omega) p,rfl⟩,?_⟩
  (refine Zm ?_ ?_ ?_ rfl<;>dsimp only [loL,id,go_sem,rA,rM,rS]<;>simp [loL,Zc,Ze,KFR,KFL,KF,Zd,mtO,nbr])
 refine ZK (by simp;omega) ?_
 dsimp only [go_sem,rA,rM,rS]
 by_cases hgt:j < i
 . refine ZK (by simp;omega) ?_
   dsimp only [go_sem,rA,rM,rS]
   rw [Zi (n:=(m:Int) - (i:Int)) (by omega) (by omega),show (m:Int) - (i:Int)=((m - i:Nat):Int) from by omega]
   refine Zp [0,1] (Zkv v (m - i) m j l1 (by omega) (by omega) (by omega)) rfl rfl rfl ?_ ?_ ?_
   . (repeat first | dsimp only [go_sem,rA,rM,rS] | simp only [nbr])
     simp [mtL,mtB,mtS]
   . (repeat first | dsimp only [go_sem,rA,rM,rS] | simp only [nbr])
     simp [Zc,KFR,loL,KFL,KF]
   rintro _ ⟨l2,hp2,hk2,rfl⟩
   (repeat first | dsimp only [YU,go_sem,rA,rM,rS] | simp only [nbr])
   rw [Zi (n:=(i:Int) - (j:Int)) (by omega) (by omega),show (i:Int) - (j:Int)=((i - j:Nat):Int) from by omega]
   refine ⟨(i - j,j,l2),⟨by simp only;omega,hp.trans (hp2.mono (by omega) (by omega)),?_⟩,by simp only;omega,?_⟩
   . have:=ZwY hk (by omega) hj0 hgt
     rwa [<- show ky loK l2=swR (m - i) m j (ky loK l1) from funext hk2] at this
   (refine Zl ?_ ?_ ?_ rfl rfl<;>dsimp only [loL,id,go_sem,rA,rM,rS]<;>simp [loL,Zc,Ze,KFR,KFL,KF,Zd,mtO,nbr])
 refine Zz (by simp;omega) ?_
 dsimp only [go_sem,rA,rM,rS]
 simp (disch:=omega) only [Zi]
 rw [show (m:Int) - (i:Int)=((m - i:Nat):Int) from by omega,show (m:Int)+(j:Int) - (i:Int)=((m+j - i:Nat):Int) from by omega]
 refine Zp [0,1] (Zkv v (m - i) (m+j - i) i l1 (by omega) (by omega) (by omega)) rfl rfl rfl ?_ ?_ ?_
 . (repeat first | dsimp only [go_sem,rA,rM,rS] | simp only [nbr])
   simp [mtL,mtB,mtS]
 . (repeat first | dsimp only [go_sem,rA,rM,rS] | simp only [nbr])
   simp [Zc,KFR,loL,KFL,KF]
 rintro _ ⟨l2,hp2,hk2,rfl⟩
 (repeat first | dsimp only [YU,go_sem,rA,rM,rS] | simp only [nbr])
 rw [Zi (n:=(j:Int) - (i:Int)) (by omega) (by omega),show (j:Int) - (i:Int)=((j - i:Nat):Int) from by omega]
 refine ⟨(i,j - i,l2),⟨by simp only;omega,hp.trans (hp2.mono (by omega) (by omega)),?_⟩,by simp only;omega,?_⟩
 . have:=Zzf hk (by omega) hi0 (by omega)
   rwa [<- show ky loK l2=swR (m - i) (m+j - i) i (ky loK l1) from funext hk2] at this
 (refine Zl ?_ ?_ ?_ rfl rfl<;>dsimp only [loL,id,go_sem,rA,rM,rS]<;>simp [loL,Zc,Ze,KFR,KFL,KF,Zd,mtO,nbr])
end Go.Proofs.Ythilckbkffjliaa
namespace Go.Azalai
theorem XH {α : Type} (key:α->Int) {l:List α} {i:Nat} (h:i < l.length):ky key l i=key l[i]:=by unfold ky;rw [List.getElem?_eq_getElem h]
def V1 (a b:Int):Int:=if a < b then -1 else if b < a then 1 else 0
end Go.Azalai
namespace Go.Proofs.Ythilckbkffjliaa
open Go Go.Sx Go.Azalai
theorem Zq6 (a:Int):Ct Try.prog 110 [I a] (B false):=by
 refine t110.1 (by simp [KFL,KF]) (by simp [KFL,KF]) ?_
 dsimp only [c110,r110,go_sem,rA,rM,rS]
 simp
theorem Zqv (a b:Int):Ct Try.prog 89 [I a,I b] (I (V1 a b)):=by
 refine t89.1 (by simp [KFL,KF]) (by simp [KFL,KF]) ?_
 dsimp only [c89,r89,go_sem,rA,rM,rS]
 refine call (Zq6 a) ?_
 dsimp only [go_sem,rA,rM,rS]
 refine call (Zq6 b) ?_
 dsimp only [go_sem,rA,rM,rS]
 refine Zz rfl ?_
 dsimp only [go_sem,rA,rM,rS]
 refine Zz rfl ?_
 dsimp only [go_sem,rA,rM,rS]
 by_cases h1:a < b
 . refine ZK (by simpa using h1) ?_
   dsimp only [go_sem,rA,rM,rS]
   simp [V1,h1]
 refine Zz (by simpa using h1) ?_
 dsimp only [go_sem,rA,rM,rS]
 by_cases h2:b < a
 . refine ZK (by simpa using h2) ?_
   dsimp only [go_sem,rA,rM,rS]
   simp [V1,h1,h2]
 refine Zz (by simpa using h2) ?_
 dsimp only [go_sem,rA,rM,rS]
 simp [V1,h1,h2]
theorem ZqO (x:LO):Ct Try.prog 68 [.agg (loL x)] (I x.1.day):=by
 refine t68.1 (by simp [loL,KFL,KF]) (by simp [KFL,KF]) ?_
 dsimp only [c68,r68,loL,go_sem,rA,rM,rS]
theorem ZqI (x:LO):Ct Try.prog 69 [.agg (loL x)] (I x.1.id):=by
 refine t69.1 (by simp [loL,KFL,KF]) (by simp [KFL,KF]) ?_
 dsimp only [c69,r69,loL,go_sem,rA,rM,rS]
theorem Zza (x y:LO):(if V1 x.1.day y.1.day=0 then V1 x.1.id y.1.id else V1 x.1.day y.1.day)=V1 (loK x) (loK y):=by
 have hx:=x.2
 have hy:=y.2
 unfold V1 loK
 rcases Int.lt_trichotomy x.1.day y.1.day with h | h | h
 . simp only [if_pos h]
   rw [if_neg (by decide),if_pos (by omega)]
 . simp only [h,Int.lt_irrefl,if_false,if_true]
   repeat' split
   all_goals omega
 . have h':¬ x.1.day < y.1.day:=by omega
   simp only [if_neg h',if_pos h]
   rw [if_neg (by decide),if_neg (by omega),if_pos (by omega)]
theorem V4 (x y:LO):Ct Try.prog 88 [.agg (loL x),.agg (loL y),.ps [.sl true 1 [[.cl 68 []],[.cl 69 []]]] 0] (I (V1 (loK x) (loK y))):=by
 refine t88.1 (by simp [loL,KFR,KFL,KF]) (by simp [KFL,KF]) ?_
 rw [<- Zza]
 dsimp only [c88,r88,loL,go_sem,rA,rM,rS]
 refine Zrg 3 ?_
 dsimp only [ZV,go_sem,rA,rM,rS]
 refine ZK (by decide) ?_
 dsimp only [ZV,go_sem,rA,rM,rS]
 refine ixs 0 [.cl 68 []] rfl rfl ?_
 dsimp only [ZV,go_sem,rA,rM,rS]
 refine call (ZqO x) ?_
 dsimp only [ZV,go_sem,rA,rM,rS]
 refine call (ZqO y) ?_
 dsimp only [ZV,go_sem,rA,rM,rS]
 refine call (Zqv _ _) ?_
 dsimp only [ZV,go_sem,rA,rM,rS]
 by_cases h0:V1 x.1.day y.1.day=0
 case neg =>
  refine ZK (by simpa using h0) ?_
  dsimp only [ZV,go_sem,rA,rM,rS]
  rw [if_neg h0]
 refine Zz (by simpa using h0) ?_
 dsimp only [ZV,go_sem,rA,rM,rS]
 refine ZK (by decide) ?_
 dsimp only [ZV,go_sem,rA,rM,rS]
 refine ixs 1 [.cl 69 []] rfl rfl ?_
 dsimp only [ZV,go_sem,rA,rM,rS]
 refine call (ZqI x) ?_
 dsimp only [ZV,go_sem,rA,rM,rS]
 refine call (ZqI y) ?_
 dsimp only [ZV,go_sem,rA,rM,rS]
 refine call (Zqv _ _) ?_
 dsimp only [ZV,go_sem,rA,rM,rS]
 rw [if_pos h0]
 by_cases h1:V1 x.1.id y.1.id=0
 case neg =>
  refine ZK (by simpa using h1) ?_
  dsimp only [ZV,go_sem,rA,rM,rS]
 refine Zz (by simpa using h1) ?_
 dsimp only [ZV,go_sem,rA,rM,rS]
 refine Zz (by decide) ?_
 dsimp only [ZV,go_sem,rA,rM,rS]
 rw [h1]
theorem ZjN (v a b:Nat) (l:List LO) (hab:a<=b) (hb:b<=l.length) (hL:l.length < 4611686018427387904) :
 CtM Try.prog 115 [(0,.row v 8 (l.map loL) 50),(1,byH)] 2 [.mr 0 v,I a,I b,.cl 88 [.p 1 0]] (fun o=>∃ l',PIn a b l l'/\Srt loK a b l'/\o=YU v l'):=by
 refine m115 (by simp [hpb]) (fun o ho=>by obtain ⟨l',_,_,rfl⟩:=ho;simp [YU,byH,KX,KXL,KXP,KXH,Zc,KFR,KFL,KF,loL]) ?_
 dsimp only [c115,r115,go_sem,rA,rM,rS]
 rw [Zi (n:=(a:Int)+1) (by omega) (by omega)]
 refine YY (fun s:Nat × List LO=>[(8,I (s.1:Nat))]) (fun s=>[(0,.row v 8 (s.2.map loL) 50)]) (fun s=>(a < s.1/\s.1<=max b (a+1))/\PIn a b l s.2/\Srt loK a s.1 s.2) (fun s=>b - s.1) (a+1,l) ⟨by simp only;omega,.refl _ _ _,fun i j h1 h2 h3=>by simp only at h3;omega⟩ ?_ ?_
 . (refine Zl ?_ ?_ ?_ rfl rfl<;>dsimp only [loL,id,go_sem,rA,rM,rS]<;>simp [loL,Zc,Ze,KFR,KFL,KF,Zd,mtO,nbr])
 rintro ⟨i,l1⟩ ⟨⟨hi0,hi⟩,hp,hs⟩
 simp only at hi0 hi hp hs
 have hl1:=hp.len
 dsimp only [go_sem,rA,rM,rS]
 by_cases hib:i < b
 case neg =>
  refine Zz (by simp;omega) ?_
  dsimp only [go_sem,rA,rM,rS]
  refine ⟨_,⟨l1,hp,fun p q g1 g2 g3=>hs p q g1 g2 (by omega),rfl⟩,?_⟩
  simp only [YU]
  (refine Zm ?_ ?_ ?_ rfl<;>dsimp only [loL,id,go_sem,rA,rM,rS]<;>simp [loL,Zc,Ze,KFR,KFL,KF,Zd,mtO,nbr])
 refine ZK (by simpa using hib) ?_
 dsimp only [go_sem,rA,rM,rS]
 refine YY (fun s:Nat × List LO=>[(9,I (s.1:Nat))]) (fun s=>[(0,.row v 8 (s.2.map loL) 50)]) (fun s=>(a<=s.1/\s.1<=i)/\PIn a b l s.2/\Ins1 loK a i s.1 s.2) (fun s=>s.1) (i,l1) ⟨by simp only;omega,hp,ZjS loK hs⟩ ?_ ?_
 . (refine Zl ?_ ?_ ?_ rfl rfl<;>dsimp only [loL,id,go_sem,rA,rM,rS]<;>simp [loL,Zc,Ze,KFR,KFL,KF,Zd,mtO,nbr])
 rintro ⟨j,l2⟩ ⟨⟨hj0,hj⟩,hp2,hs2⟩
 simp only at hj0 hj hp2 hs2
 have hl2:=hp2.len
 dsimp only [go_sem,rA,rM,rS]
 by_cases hja:a < j
 case neg =>
  rw [show decide ((j:Int) > (a:Int))=false from by simp;omega]
  repeat (refine gb ?_;(repeat first | dsimp only [go_sem,rA,rM,rS] | simp only [nbr]))
  refine ZiC 0 rfl (fun h=>by cases h) ?_
  (repeat first | dsimp only [go_sem,rA,rM,rS] | simp only [nbr])
  refine gb ?_
  (repeat first | dsimp only [go_sem,rA,rM,rS] | simp only [nbr])
  refine ⟨loL lo0,Zrx rfl (fun h=>by cases h),?_⟩
  (repeat first | dsimp only [loL,go_sem,rA,rM,rS] | simp only [nbr])
  repeat (refine gb ?_;(repeat first | dsimp only [go_sem,rA,rM,rS] | simp only [nbr]))
  refine ZiC 0 rfl (fun h=>by cases h) ?_
  (repeat first | dsimp only [go_sem,rA,rM,rS] | simp only [nbr])
  refine gb ?_
  (repeat first | dsimp only [go_sem,rA,rM,rS] | simp only [nbr])
  refine ⟨loL lo0,Zrx rfl (fun h=>by cases h),?_⟩
  (repeat first | dsimp only [loL,go_sem,rA,rM,rS] | simp only [nbr])
  refine gb ?_
  (repeat first | dsimp only [go_sem,rA,rM,rS] | simp only [nbr])
  refine UD (by simp [FLT]) (res:=I (V1 (loK lo0) (loK lo0))) (by (repeat first | dsimp only [loL,go_sem,rA,rM,rS] | simp only [nbr]);exact V4 _ _) ?_
  (repeat first | dsimp only [go_sem,rA,rM,rS] | simp only [nbr])
  refine gb ?_
  (repeat first | dsimp only [go_sem,rA,rM,rS] | simp only [nbr])
  refine Zz rfl ?_
  (repeat first | dsimp only [go_sem,rA,rM,rS] | simp only [nbr])
  rw [Zi (n:=(i:Int)+1) (by omega) (by omega)]
  refine ⟨(i+1,l2),⟨by simp only;omega,hp2,Zjf loK hs2 hj (.inl (by omega))⟩,by simp only;omega,?_⟩
  (refine Zl ?_ ?_ ?_ rfl rfl<;>dsimp only [loL,id,go_sem,rA,rM,rS]<;>simp [loL,Zc,Ze,KFR,KFL,KF,Zd,mtO,nbr])
 rw [show decide ((j:Int) > (a:Int))=true from by simp;omega]
 repeat (refine .inl ⟨rfl,?_⟩;(repeat first | dsimp only [go_sem,rA,rM,rS] | simp only [nbr]))
 refine Xk j rfl (by simp;omega) ?_
 (repeat first | dsimp only [go_sem,rA,rM,rS] | simp only [nbr])
 refine .inl ⟨rfl,?_⟩
 (repeat first | dsimp only [go_sem,rA,rM,rS] | simp only [nbr])
 refine V0 (by omega) ?_
 (repeat first | dsimp only [loL,go_sem,rA,rM,rS] | simp only [nbr])
 repeat (refine .inl ⟨rfl,?_⟩;(repeat first | dsimp only [go_sem,rA,rM,rS] | simp only [nbr]))
 rw [Zi (n:=(j:Int) - 1) (by omega) (by omega)]
 refine Xk (j - 1) (by omega) (by simp;omega) ?_
 (repeat first | dsimp only [go_sem,rA,rM,rS] | simp only [nbr])
 refine .inl ⟨rfl,?_⟩
 (repeat first | dsimp only [go_sem,rA,rM,rS] | simp only [nbr])
 refine V0 (by omega) ?_
 (repeat first | dsimp only [loL,go_sem,rA,rM,rS] | simp only [nbr])
 repeat (refine .inl ⟨rfl,?_⟩;(repeat first | dsimp only [go_sem,rA,rM,rS] | simp only [nbr]))
 refine UD (by simp [FLT]) (res:=I (V1 (loK l2[j]) (loK l2[j - 1]))) (by (repeat first | dsimp only [loL,go_sem,rA,rM,rS] | simp only [nbr]);exact V4 _ _) ?_
 (repeat first | dsimp only [go_sem,rA,rM,rS] | simp only [nbr])
 repeat (refine .inl ⟨rfl,?_⟩;(repeat first | dsimp only [go_sem,rA,rM,rS] | simp only [nbr]))
 by_cases hlt:loK l2[j] < loK l2[j - 1]
 case neg =>
  refine Zz (by simp [V1,hlt];split<;>decide) ?_
  (repeat first | dsimp only [go_sem,rA,rM,rS] | simp only [nbr])
  have hkk:ky loK l2 (j - 1)<=ky loK l2 j:=by rw [XH loK (l:=l2) (i:=j - 1) (by omega),XH loK (l:=l2) (i:=j) (by omega)];exact Int.not_lt.1 hlt
  rw [Zi (n:=(i:Int)+1) (by omega) (by omega)]
  refine ⟨(i+1,l2),⟨by simp only;omega,hp2,Zjf loK hs2 hj (.inr hkk)⟩,by simp only;omega,?_⟩
  (refine Zl ?_ ?_ ?_ rfl rfl<;>dsimp only [loL,id,go_sem,rA,rM,rS]<;>simp [loL,Zc,Ze,KFR,KFL,KF,Zd,mtO,nbr])
 refine ZK (by simp [V1,hlt]) ?_
 (repeat first | dsimp only [go_sem,rA,rM,rS] | simp only [nbr])
 have hkk:ky loK l2 j < ky loK l2 (j - 1):=by rw [XH loK (l:=l2) (i:=j - 1) (by omega),XH loK (l:=l2) (i:=j) (by omega)];exact hlt
 rw [Zi (n:=(j:Int) - 1) (by omega) (by omega)]
 refine Xk (j - 1) (by omega) (by simp;omega) ?_
 (repeat first | dsimp only [go_sem,rA,rM,rS] | simp only [nbr])
 refine V0 (by omega) ?_
 (repeat first | dsimp only [loL,go_sem,rA,rM,rS] | simp only [nbr])
 refine Xk j rfl (by simp;omega) ?_
 (repeat first | dsimp only [go_sem,rA,rM,rS] | simp only [nbr])
 refine V0 (by omega) ?_
 (repeat first | dsimp only [loL,go_sem,rA,rM,rS] | simp only [nbr])
 refine Xk j rfl (by simp;omega) ?_
 (repeat first | dsimp only [go_sem,rA,rM,rS] | simp only [nbr])
 refine ZbE l2[j - 1] (by omega) (by simp [loL]) (by simp [loL,Zo]) ?_
 (repeat first | dsimp only [go_sem,rA,rM,rS] | simp only [nbr])
 refine Xk (j - 1) (by first | omega | (rw [Zi (by omega) (by omega)];omega)) (by simp;omega) ?_
 (repeat first | dsimp only [go_sem,rA,rM,rS] | simp only [nbr])
 refine ZbE l2[j] (by simp;omega) (by simp [loL]) (by simp [loL,Zo]) ?_
 rw [<- Zbj (l:=l2) (i:=j) (j:=j - 1) (by omega) (by omega)]
 (repeat first | dsimp only [go_sem,rA,rM,rS] | simp only [nbr])
 try rw [Zi (n:=(j:Int) - 1) (by omega) (by omega)]
 rw [show (j:Int) - 1=((j - 1:Nat):Int) from by omega]
 refine ⟨(j - 1,swp l2 j (j - 1)),⟨by simp only;omega,hp2.trans (.swap (by omega) (by omega) (by omega) (by omega) (by omega)),ZpP loK hs2 hja hj (by omega) hkk⟩,by simp only;omega,?_⟩
 (refine Zl ?_ ?_ ?_ rfl rfl<;>dsimp only [loL,id,go_sem,rA,rM,rS]<;>simp [loL,Zc,Ze,KFR,KFL,KF,Zd,mtO,nbr])
end Go.Proofs.Ythilckbkffjliaa
namespace Go.Azalai
structure Srch (p s0 r0 s r:Nat) (K:Nat->Int):Prop where
 lo:∀ c,s0<=c->c < s->K c<=K (p - c)
 hi:∀ c,r<=c->c < r0->K (p - c) < K c
theorem Zbu (p s0 r0:Nat) (K:Nat->Int):Srch p s0 r0 s0 r0 K:=⟨fun c h1 h2=>by omega,fun c h1 h2=>by omega⟩
theorem ZjY {a m b p s0 r0 s r c:Nat} {K:Nat->Int} (h:Srch p s0 r0 s r K) (h1:ZgV a m K) (h2:ZgV m b K) (ha:a<=s0) (hr:r0<=m) (hp:∀ c,s0<=c->c < r0->m<=p - c/\p - c < b) (hc:s<=c) (hcr:c < r) (hrr:r<=r0) (hk:K c<=K (p - c)) (hs:s0<=s):Srch p s0 r0 (c+1) r K:=by
 refine ⟨fun c' g1 g2=>?_,h.hi⟩
 have q1:=hp c' g1 (by omega)
 have q2:=hp c (by omega) (by omega)
 exact Int.le_trans (h1.le (by omega) (show c'<=c by omega) (by omega)) (Int.le_trans hk (h2.le (by omega) (by omega) (by omega)))
theorem Zc6 {a m b p s0 r0 s r c:Nat} {K:Nat->Int} (h:Srch p s0 r0 s r K) (h1:ZgV a m K) (h2:ZgV m b K) (ha:a<=s0) (hr:r0<=m) (hp:∀ c,s0<=c->c < r0->m<=p - c/\p - c < b) (hc:s<=c) (hcr:c < r) (hrr:r<=r0) (hk:K (p - c) < K c) (hs:s0<=s):Srch p s0 r0 s c K:=by
 refine ⟨h.lo,fun c' g1 g2=>?_⟩
 have q1:=hp c' (by omega) g2
 have q2:=hp c (by omega) (by omega)
 have e1:=h2.le (i:=p - c') (j:=p - c) (by omega) (by omega) (by omega)
 have e2:=h1.le (i:=c) (j:=c') (by omega) (by omega) (by omega)
 omega
theorem ZqT {a m b mid s:Nat} {K:Nat->Int} (ham:a < m) (hmb:m < b) (h1:2 * mid<=a+b) (h2:a+b<=2 * mid+1) (s0 r0:Nat) (hs0:s0=if m > mid then mid+m - b else a) (hr0:r0=if m > mid then mid else m)
 (hs:s0<=s) (hr:s<=r0) (h:Srch (mid+m - 1) s0 r0 s s K):Cut a m b (mid+m) s K:=by
 by_cases hm:m > mid
 . rw [if_pos hm] at hs0 hr0
   subst hs0;subst hr0
   refine ⟨by omega,by omega,by omega,by omega,by omega,fun g1 g2=>?_,fun g1 g2=>?_⟩
   . have:=h.lo (s - 1) (by omega) (by omega)
     rwa [show r0+m - 1 - (s - 1)=r0+m - s from by omega] at this
   . have:=h.hi s (Nat.le_refl _) (by omega)
     rw [show r0+m - 1 - s=r0+m - s - 1 from by omega] at this
     exact Int.le_of_lt this
 . rw [if_neg hm] at hs0 hr0
   subst hs0;subst hr0
   refine ⟨by omega,by omega,by omega,by omega,by omega,fun g1 g2=>?_,fun g1 g2=>?_⟩
   . have:=h.lo (s - 1) (by omega) (by omega)
     rwa [show mid+r0 - 1 - (s - 1)=mid+r0 - s from by omega] at this
   . have:=h.hi s (Nat.le_refl _) (by omega)
     rw [show mid+r0 - 1 - s=mid+r0 - s - 1 from by omega] at this
     exact Int.le_of_lt this
section
variable {α : Type} (key:α->Int)
structure Cutd (a i mid e b:Nat) (l:List α):Prop where
 o1:a<=i
 o2:i<=mid
 o3:mid<=e
 o4:e<=b
 s1:Srt key a i l
 s2:Srt key i mid l
 s3:Srt key mid e l
 s4:Srt key e b l
 x:∀ p q,a<=p->p < mid->mid<=q->q < b->ky key l p<=ky key l q
structure CutL (a mid e b:Nat) (l:List α):Prop where
 o1:a<=mid
 o3:mid<=e
 o4:e<=b
 s1:Srt key a mid l
 s3:Srt key mid e l
 s4:Srt key e b l
 x:∀ p q,a<=p->p < mid->mid<=q->q < b->ky key l p<=ky key l q
theorem Zb2 {a m b mid i:Nat} {l l1:List α} (h:Cut a m b (mid+m) i (ky key l)) (h1:Srt key a m l) (h2:Srt key m b l) (hk:∀ p,ky key l1 p=Za5 i m (mid+m - i) (ky key l) p):Cutd key a i mid (mid+m - i) b l1:=by
 have e:=ZqC h h1 h2
 rw [show mid+m - m=mid from by omega] at e
 obtain ⟨q0,q1,q2,q3,q4,q5,q6⟩:=h
 have ek:ky key l1=Za5 i m (mid+m - i) (ky key l):=funext hk
 refine ⟨by omega,by omega,by omega,by omega,?_,?_,?_,?_,?_⟩<;>(try unfold Srt)<;>rw [ek]
 . exact e.1
 . exact e.2.1
 . exact e.2.2.1
 . exact e.2.2.2.1
 . exact e.2.2.2.2
theorem ZjG {a m b mid i:Nat} {l:List α} (h:Cut a m b (mid+m) i (ky key l)) (h1:Srt key a m l) (h2:Srt key m b l) (hn:¬ (i < m/\m < mid+m - i)):Cutd key a i mid (mid+m - i) b l:=by
 refine Zb2 key h h1 h2 fun p=>?_
 obtain ⟨q0,q1,q2,q3,q4,q5,q6⟩:=h
 unfold Za5
 by_cases c1:i<=p/\p < i+(mid+m - i - m)
 . rw [if_pos c1];congr 1;omega
 . rw [if_neg c1]
   by_cases c2:i+(mid+m - i - m)<=p/\p < mid+m - i
   . rw [if_pos c2];congr 1;omega
   . rw [if_neg c2]
theorem UU {a i mid e b:Nat} {l l2:List α} (h:Cutd key a i mid e b l) (hp:PIn a mid l l2) (hs:Srt key a mid l2) (hb:b<=l.length):CutL key a mid e b l2:=by
 obtain ⟨o1,o2,o3,o4,s1,s2,s3,s4,x⟩:=h
 have ke:∀ q,mid<=q->ky key l2 q=ky key l q:=fun q hq=>hp.ky key (.inr hq)
 refine ⟨by omega,o3,o4,hs,fun p q g1 g2 g3=>?_,fun p q g1 g2 g3=>?_,fun p q g1 g2 g3 g4=>?_⟩
 . rw [ke p g1,ke q (by omega)];exact s3 p q g1 g2 g3
 . rw [ke p (by omega),ke q (by omega)];exact s4 p q g1 g2 g3
 . rw [ke q g3]
   exact hp.kall key (by omega) (fun k=>k<=ky key l q) (fun p q1 q2=>x p q q1 q2 g3 g4) p g1 g2
theorem ZbC {a i mid e b:Nat} {l:List α} (h:Cutd key a i mid e b l) (hn:¬ (a < i/\i < mid)):CutL key a mid e b l:=by
 obtain ⟨o1,o2,o3,o4,s1,s2,s3,s4,x⟩:=h
 refine ⟨by omega,o3,o4,fun p q g1 g2 g3=>?_,s3,s4,x⟩
 by_cases hq:a < i
 . exact s1 p q g1 g2 (by omega)
 . exact s2 p q (by omega) g2 g3
theorem WA {a mid e b:Nat} {l l2:List α} (h:CutL key a mid e b l) (hp:PIn mid b l l2) (hs:Srt key mid b l2) (hb:b<=l.length):Srt key a b l2:=by
 obtain ⟨o1,o3,o4,s1,s3,s4,x⟩:=h
 have ke:∀ q,q < mid->ky key l2 q=ky key l q:=fun q hq=>hp.ky key (.inl hq)
 refine Srt.join key (c:=mid) (fun p q g1 g2 g3=>?_) hs (fun p q g1 g2 g3 g4=>?_)
 . rw [ke p (by omega),ke q g3];exact s1 p q g1 g2 g3
 . rw [ke p g2]
   exact hp.kall key hb (fun k=>ky key l p<=k) (fun q q1 q2=>x p q g1 g2 q1 q2) q g3 g4
theorem Us {a mid e b:Nat} {l:List α} (h:CutL key a mid e b l) (hn:¬ (mid < e/\e < b)):Srt key a b l:=by
 obtain ⟨o1,o3,o4,s1,s3,s4,x⟩:=h
 refine Srt.join key (c:=mid) s1 (fun p q g1 g2 g3=>?_) x
 by_cases hq:mid < e
 . exact s3 p q g1 g2 (by omega)
 . exact s4 p q (by omega) g2 g3
end
end Go.Azalai
namespace Go.Proofs.Ythilckbkffjliaa
open Go Go.Sx Go.Azalai
theorem uwn {n:Int} (h0:0<=n) (h1:n < 18446744073709551616):IntKind.u64.wrap n=n:=by
 have e:n % 2 ^ IntKind.u64.bits=n:=Int.emod_eq_of_lt h0 (by show n < 2 ^ 64;omega)
 simp only [IntKind.wrap,e,show IntKind.u64.signed=false from rfl,Bool.false_and]
 rfl
theorem VY (m:Int) (q0:0<=m) (w:World):(binOp .shr 158 (.int .u64 m) (.int .u64 1)).run Try.prog w = .ok (.int .u64 (m / 2)) w:=by
 simp only [binOp,Op.shift]
 rw [if_neg (by decide)]
 have:m.fdiv (2 ^ 1)=m / 2:=by rw [Int.fdiv_eq_ediv_of_nonneg _ (by decide)];rfl
 show Result.ok (Value.int .u64 (m.fdiv (2 ^ (min (1:Int).toNat IntKind.u64.bits)))) w=_
 rw [show min (1:Int).toNat IntKind.u64.bits=1 from by decide,this]
theorem Zrl (v N:Nat):∀ (a m b:Nat) (l:List LO),b - a<=N->a < m->m < b->b<=l.length->l.length < 4611686018427387904->Srt loK a m l->Srt loK m b l ->
 CtM Try.prog 116 [(0,.row v 8 (l.map loL) 50),(1,byH)] 2 [.mr 0 v,I a,I m,I b,.cl 88 [.p 1 0]] (fun o=>∃ l',PIn a b l l'/\Srt loK a b l'/\o=YU v l'):=by
 induction N with
 | zero=>intro a m b l h1 h2 h3;omega
 | succ N ih =>
 intro a m b l hN ham hmb hb hL hs1 hs2
 refine m116 (by simp [hpb]) (fun o ho=>by obtain ⟨l',_,_,rfl⟩:=ho;simp [YU,byH,KX,KXL,KXP,KXH,Zc,KFR,KFL,KF,loL]) ?_
 dsimp only [c116,r116,go_sem,rA,rM,rS]
 rw [Zi (n:=(m:Int) - (a:Int)) (by omega) (by omega)]
 by_cases hm1:m=a+1
 . refine ZK (by simp;omega) ?_
   dsimp only [go_sem,rA,rM,rS]
   refine YY (fun s:Nat × Nat=>[(10,I (s.1:Nat)),(11,I (s.2:Nat))]) (fun _=>[]) (fun s=>m<=s.1/\s.1<=s.2/\s.2<=b/\(∀ c,m<=c->c < s.1->ky loK l c < ky loK l a)/\∀ c,s.2<=c->c < b->ky loK l a<=ky loK l c) (fun s=>s.2 - s.1) (m,b) ⟨Nat.le_refl _,by simp only;omega,Nat.le_refl _,fun c h1 h2=>by simp only at h2;omega,fun c h1 h2=>by simp only at h1;omega⟩ ?_ ?_
   . (refine Zl ?_ ?_ ?_ rfl rfl<;>dsimp only [loL,id,go_sem,rA,rM,rS]<;>simp [loL,Zc,Ze,KFR,KFL,KF,Zd,mtO,nbr])
   rintro ⟨i,j⟩ ⟨hi,hij,hj,hlo,hhi⟩
   simp only at hi hij hj hlo hhi
   dsimp only [go_sem,rA,rM,rS]
   by_cases hlt:i < j
   . refine ZK (by simpa using hlt) ?_
     dsimp only [go_sem,rA,rM,rS]
     simp (disch:=omega) only [Zi]
     rw [uwn (by omega) (by omega)]
     refine Zat rfl (.inr rfl) (VY _ (by omega)) rfl ?_
     dsimp only [go_sem,rA,rM,rS]
     obtain ⟨h,hh⟩:∃ h:Nat,((i:Int)+(j:Int)) / 2=(h:Int):=⟨(i+j) / 2,by omega⟩
     rw [hh,Zi (n:=(h:Int)) (by omega) (by omega)]
     have hih:i<=h/\h < j:=by omega
     (repeat first | dsimp only [go_sem,rA,rM,rS] | simp only [nbr])
     refine Xk h rfl (by simp;omega) ?_
     (repeat first | dsimp only [go_sem,rA,rM,rS] | simp only [nbr])
     refine V0 (by omega) ?_
     (repeat first | dsimp only [loL,go_sem,rA,rM,rS] | simp only [nbr])
     refine Xk a rfl (by simp;omega) ?_
     (repeat first | dsimp only [go_sem,rA,rM,rS] | simp only [nbr])
     refine V0 (by omega) ?_
     (repeat first | dsimp only [loL,go_sem,rA,rM,rS] | simp only [nbr])
     refine UD (by simp [FLT]) (res:=I (V1 (loK l[h]) (loK l[a]))) (by (repeat first | dsimp only [loL,go_sem,rA,rM,rS] | simp only [nbr]);exact V4 _ _) ?_
     (repeat first | dsimp only [go_sem,rA,rM,rS] | simp only [nbr])
     by_cases hk:loK l[h] < loK l[a]
     . refine ZK (by simp [V1,hk]) ?_
       dsimp only [go_sem,rA,rM,rS]
       rw [Zi (n:=(h:Int)+1) (by omega) (by omega)]
       have hkk:ky loK l h < ky loK l a:=by rw [XH loK (l:=l) (i:=h) (by omega),XH loK (l:=l) (i:=a) (by omega)];exact hk
       refine ⟨(h+1,j),⟨by simp only;omega,by simp only;omega,hj,fun c g1 g2=>?_,hhi⟩,by simp only;omega,?_⟩
       . have:=hs2.le loK g1 (show c<=h by simp only at g2;omega) (by omega);omega
       (refine Zl ?_ ?_ ?_ rfl rfl<;>dsimp only [loL,id,go_sem,rA,rM,rS]<;>simp [loL,Zc,Ze,KFR,KFL,KF,Zd,mtO,nbr])
     . refine Zz (by simp [V1,hk];split<;>decide) ?_
       dsimp only [go_sem,rA,rM,rS]
       have hkk:ky loK l a<=ky loK l h:=by rw [XH loK (l:=l) (i:=h) (by omega),XH loK (l:=l) (i:=a) (by omega)];exact Int.not_lt.1 hk
       refine ⟨(i,h),⟨hi,by simp only;omega,by simp only;omega,hlo,fun c g1 g2=>?_⟩,by simp only;omega,?_⟩
       . have:=hs2.le loK (show m<=h by omega) g1 g2;omega
       (refine Zl ?_ ?_ ?_ rfl rfl<;>dsimp only [loL,id,go_sem,rA,rM,rS]<;>simp [loL,Zc,Ze,KFR,KFL,KF,Zd,mtO,nbr])
   refine Zz (by simp;omega) ?_
   dsimp only [go_sem,rA,rM,rS]
   have hij':i=j:=by omega
   subst hij'
   refine YY (fun s:Nat × List LO=>[(13,I (s.1:Nat))]) (fun s=>[(0,.row v 8 (s.2.map loL) 50)]) (fun s=>(a<=s.1/\s.1<=i - 1)/\PIn a b l s.2/\∀ p,ky loK s.2 p=if a<=p/\p < s.1 then ky loK l (p+1) else if p=s.1 then ky loK l a else ky loK l p) (fun s=>i - s.1) (a,l) ⟨by simp only;omega,.refl _ _ _,fun p=>by
    simp only
    rw [if_neg (by omega)]
    split
    . rename_i h;rw [h]
    . rfl⟩ ?_ ?_
   . (refine Zl ?_ ?_ ?_ rfl rfl<;>dsimp only [loL,id,go_sem,rA,rM,rS]<;>simp [loL,Zc,Ze,KFR,KFL,KF,Zd,mtO,nbr])
   rintro ⟨k,l1⟩ ⟨⟨hk0,hk⟩,hp,hky⟩
   simp only at hk0 hk hp hky
   have hl1:=hp.len
   dsimp only [go_sem,rA,rM,rS]
   rw [Zi (n:=(i:Int) - 1) (by omega) (by omega)]
   by_cases hlt:k < i - 1
   . refine ZK (by simp;omega) ?_
     (repeat first | dsimp only [go_sem,rA,rM,rS] | simp only [nbr])
     rw [Zi (n:=(k:Int)+1) (by omega) (by omega)]
     refine Xk (k+1) (by omega) (by simp;omega) ?_
     (repeat first | dsimp only [go_sem,rA,rM,rS] | simp only [nbr])
     refine V0 (by omega) ?_
     (repeat first | dsimp only [loL,go_sem,rA,rM,rS] | simp only [nbr])
     refine Xk k rfl (by simp;omega) ?_
     (repeat first | dsimp only [go_sem,rA,rM,rS] | simp only [nbr])
     refine V0 (by omega) ?_
     (repeat first | dsimp only [loL,go_sem,rA,rM,rS] | simp only [nbr])
     refine Xk k rfl (by simp;omega) ?_
     (repeat first | dsimp only [go_sem,rA,rM,rS] | simp only [nbr])
     refine ZbE l1[k+1] (by omega) (by simp [loL]) (by simp [loL,Zo]) ?_
     (repeat first | dsimp only [go_sem,rA,rM,rS] | simp only [nbr])
     refine Xk (k+1) (by first | omega | (rw [Zi (by omega) (by omega)];omega)) (by simp;omega) ?_
     (repeat first | dsimp only [go_sem,rA,rM,rS] | simp only [nbr])
     refine ZbE l1[k] (by simp;omega) (by simp [loL]) (by simp [loL,Zo]) ?_
     rw [<- Zbj (l:=l1) (i:=k) (j:=k+1) (by omega) (by omega)]
     (repeat first | dsimp only [go_sem,rA,rM,rS] | simp only [nbr])
     try rw [Zi (n:=(k:Int)+1) (by omega) (by omega)]
     rw [show (k:Int)+1=((k+1:Nat):Int) from by omega]
     refine ⟨(k+1,swp l1 k (k+1)),⟨by simp only;omega,hp.trans (.swap (by omega) (by omega) (by omega) (by omega) (by omega)),fun p=>?_⟩,by simp only;omega,?_⟩
     . simp only
       rw [Ze8 loK (by omega) (by omega),hky,hky,hky]
       by_cases h1:p=k
       . subst h1
         rw [if_pos rfl,if_neg (by omega),if_neg (by omega),if_pos (by omega)]
       . rw [if_neg h1]
         by_cases h2:p=k+1
         . subst h2
           rw [if_pos rfl,if_neg (by omega),if_pos rfl,if_neg (by omega),if_pos rfl]
         . rw [if_neg h2,if_neg h2]
           by_cases h3:a<=p/\p < k
           . rw [if_pos h3,if_pos (by omega)]
           . rw [if_neg h3,if_neg h1,if_neg (by omega)]
     (refine Zl ?_ ?_ ?_ rfl rfl<;>dsimp only [loL,id,go_sem,rA,rM,rS]<;>simp [loL,Zc,Ze,KFR,KFL,KF,Zd,mtO,nbr])
   refine Zz (by simp;omega) ?_
   dsimp only [go_sem,rA,rM,rS]
   have hki:k=i - 1:=by omega
   refine ⟨_,⟨l1,hp,fun p q g1 g2 g3=>?_,rfl⟩,?_⟩
   . rw [hky,hky]
     by_cases h1:p < k
     . rw [if_pos (by omega)]
       by_cases h2:q < k
       . rw [if_pos (by omega)];exact hs2 _ _ (by omega) (by omega) (by omega)
       . rw [if_neg (by omega)]
         by_cases h3:q=k
         . rw [if_pos h3];exact Int.le_of_lt (hlo _ (by omega) (by omega))
         . rw [if_neg h3];exact hs2 _ _ (by omega) (by omega) (by omega)
     . rw [if_neg (by omega),if_neg (c:=a<=q/\q < k) (by omega),if_neg (c:=q=k) (by omega)]
       by_cases h3:p=k
       . rw [if_pos h3];exact hhi _ (by omega) (by omega)
       . rw [if_neg h3];exact hs2 _ _ (by omega) (by omega) (by omega)
   . simp only [YU]
     (refine Zm ?_ ?_ ?_ rfl<;>dsimp only [loL,id,go_sem,rA,rM,rS]<;>simp [loL,Zc,Ze,KFR,KFL,KF,Zd,mtO,nbr])
 refine Zz (by simp;omega) ?_
 dsimp only [go_sem,rA,rM,rS]
 rw [Zi (n:=(b:Int) - (m:Int)) (by omega) (by omega)]
 by_cases hb1:b=m+1
 . refine ZK (by simp;omega) ?_
   dsimp only [go_sem,rA,rM,rS]
   refine YY (fun s:Nat × Nat=>[(14,I (s.1:Nat)),(15,I (s.2:Nat))]) (fun _=>[]) (fun s=>a<=s.1/\s.1<=s.2/\s.2<=m/\(∀ c,a<=c->c < s.1->ky loK l c<=ky loK l m)/\∀ c,s.2<=c->c < m->ky loK l m < ky loK l c) (fun s=>s.2 - s.1) (a,m) ⟨Nat.le_refl _,by simp only;omega,Nat.le_refl _,fun c h1 h2=>by simp only at h2;omega,fun c h1 h2=>by simp only at h1;omega⟩ ?_ ?_
   . (refine Zl ?_ ?_ ?_ rfl rfl<;>dsimp only [loL,id,go_sem,rA,rM,rS]<;>simp [loL,Zc,Ze,KFR,KFL,KF,Zd,mtO,nbr])
   rintro ⟨i,j⟩ ⟨hi,hij,hj,hlo,hhi⟩
   simp only at hi hij hj hlo hhi
   dsimp only [go_sem,rA,rM,rS]
   by_cases hlt:i < j
   . refine ZK (by simpa using hlt) ?_
     dsimp only [go_sem,rA,rM,rS]
     simp (disch:=omega) only [Zi]
     rw [uwn (by omega) (by omega)]
     refine Zat rfl (.inr rfl) (VY _ (by omega)) rfl ?_
     dsimp only [go_sem,rA,rM,rS]
     obtain ⟨h,hh⟩:∃ h:Nat,((i:Int)+(j:Int)) / 2=(h:Int):=⟨(i+j) / 2,by omega⟩
     rw [hh,Zi (n:=(h:Int)) (by omega) (by omega)]
     have hih:i<=h/\h < j:=by omega
     (repeat first | dsimp only [go_sem,rA,rM,rS] | simp only [nbr])
     refine Xk m rfl (by simp;omega) ?_
     (repeat first | dsimp only [go_sem,rA,rM,rS] | simp only [nbr])
     refine V0 (by omega) ?_
     (repeat first | dsimp only [loL,go_sem,rA,rM,rS] | simp only [nbr])
     refine Xk h rfl (by simp;omega) ?_
     (repeat first | dsimp only [go_sem,rA,rM,rS] | simp only [nbr])
     refine V0 (by omega) ?_
     (repeat first | dsimp only [loL,go_sem,rA,rM,rS] | simp only [nbr])
     refine UD (by simp [FLT]) (res:=I (V1 (loK l[m]) (loK l[h]))) (by (repeat first | dsimp only [loL,go_sem,rA,rM,rS] | simp only [nbr]);exact V4 _ _) ?_
     (repeat first | dsimp only [go_sem,rA,rM,rS] | simp only [nbr])
     by_cases hk:loK l[m] < loK l[h]
     . refine Zz (by simp [V1,hk]) ?_
       dsimp only [go_sem,rA,rM,rS]
       have hkk:ky loK l m < ky loK l h:=by rw [XH loK (l:=l) (i:=h) (by omega),XH loK (l:=l) (i:=m) (by omega)];exact hk
       refine ⟨(i,h),⟨hi,by simp only;omega,by simp only;omega,hlo,fun c g1 g2=>?_⟩,by simp only;omega,?_⟩
       . have:=hs1.le loK (show a<=h by omega) g1 g2;omega
       (refine Zl ?_ ?_ ?_ rfl rfl<;>dsimp only [loL,id,go_sem,rA,rM,rS]<;>simp [loL,Zc,Ze,KFR,KFL,KF,Zd,mtO,nbr])
     . refine ZK (by simp [V1,hk];split<;>decide) ?_
       dsimp only [go_sem,rA,rM,rS]
       rw [Zi (n:=(h:Int)+1) (by omega) (by omega)]
       have hkk:ky loK l h<=ky loK l m:=by rw [XH loK (l:=l) (i:=h) (by omega),XH loK (l:=l) (i:=m) (by omega)];exact Int.not_lt.1 hk
       refine ⟨(h+1,j),⟨by simp only;omega,by simp only;omega,hj,fun c g1 g2=>?_,hhi⟩,by simp only;omega,?_⟩
       . have:=hs1.le loK g1 (show c<=h by simp only at g2;omega) (by omega);omega
       (refine Zl ?_ ?_ ?_ rfl rfl<;>dsimp only [loL,id,go_sem,rA,rM,rS]<;>simp [loL,Zc,Ze,KFR,KFL,KF,Zd,mtO,nbr])
   refine Zz (by simp;omega) ?_
   dsimp only [go_sem,rA,rM,rS]
   have hij':i=j:=by omega
   subst hij'
   refine YY (fun s:Nat × List LO=>[(17,I (s.1:Nat))]) (fun s=>[(0,.row v 8 (s.2.map loL) 50)]) (fun s=>(i<=s.1/\s.1<=m)/\PIn a b l s.2/\∀ p,ky loK s.2 p=if s.1 < p/\p<=m then ky loK l (p - 1) else if p=s.1 then ky loK l m else ky loK l p) (fun s=>s.1) (m,l) ⟨by simp only;omega,.refl _ _ _,fun p=>by
    simp only
    rw [if_neg (by omega)]
    split
    . rename_i h;rw [h]
    . rfl⟩ ?_ ?_
   . (refine Zl ?_ ?_ ?_ rfl rfl<;>dsimp only [loL,id,go_sem,rA,rM,rS]<;>simp [loL,Zc,Ze,KFR,KFL,KF,Zd,mtO,nbr])
   rintro ⟨k,l1⟩ ⟨⟨hk0,hk⟩,hp,hky⟩
   simp only at hk0 hk hp hky
   have hl1:=hp.len
   dsimp only [go_sem,rA,rM,rS]
   by_cases hlt:i < k
   . refine ZK (by simp;omega) ?_
     (repeat first | dsimp only [go_sem,rA,rM,rS] | simp only [nbr])
     rw [Zi (n:=(k:Int) - 1) (by omega) (by omega)]
     refine Xk (k - 1) (by omega) (by simp;omega) ?_
     (repeat first | dsimp only [go_sem,rA,rM,rS] | simp only [nbr])
     refine V0 (by omega) ?_
     (repeat first | dsimp only [loL,go_sem,rA,rM,rS] | simp only [nbr])
     refine Xk k rfl (by simp;omega) ?_
     (repeat first | dsimp only [go_sem,rA,rM,rS] | simp only [nbr])
     refine V0 (by omega) ?_
     (repeat first | dsimp only [loL,go_sem,rA,rM,rS] | simp only [nbr])
     refine Xk k rfl (by simp;omega) ?_
     (repeat first | dsimp only [go_sem,rA,rM,rS] | simp only [nbr])
     refine ZbE l1[k - 1] (by omega) (by simp [loL]) (by simp [loL,Zo]) ?_
     (repeat first | dsimp only [go_sem,rA,rM,rS] | simp only [nbr])
     refine Xk (k - 1) (by first | omega | (rw [Zi (by omega) (by omega)];omega)) (by simp;omega) ?_
     (repeat first | dsimp only [go_sem,rA,rM,rS] | simp only [nbr])
     refine ZbE l1[k] (by simp;omega) (by simp [loL]) (by simp [loL,Zo]) ?_
     rw [<- Zbj (l:=l1) (i:=k) (j:=k - 1) (by omega) (by omega)]
     (repeat first | dsimp only [go_sem,rA,rM,rS] | simp only [nbr])
     try rw [Zi (n:=(k:Int) - 1) (by omega) (by omega)]
     rw [show (k:Int) - 1=((k - 1:Nat):Int) from by omega]
     refine ⟨(k - 1,swp l1 k (k - 1)),⟨by simp only;omega,hp.trans (.swap (by omega) (by omega) (by omega) (by omega) (by omega)),fun p=>?_⟩,by simp only;omega,?_⟩
     . simp only
       rw [Ze8 loK (by omega) (by omega),hky,hky,hky]
       by_cases h1:p=k
       . subst h1
         rw [if_pos rfl,if_neg (by omega),if_neg (by omega),if_pos (by omega)]
       . rw [if_neg h1]
         by_cases h2:p=k - 1
         . subst h2
           rw [if_pos rfl,if_neg (by omega),if_pos rfl,if_neg (by omega),if_pos rfl]
         . rw [if_neg h2,if_neg h2]
           by_cases h3:k < p/\p<=m
           . rw [if_pos h3,if_pos (by omega)]
           . rw [if_neg h3,if_neg h1,if_neg (by omega)]
     (refine Zl ?_ ?_ ?_ rfl rfl<;>dsimp only [loL,id,go_sem,rA,rM,rS]<;>simp [loL,Zc,Ze,KFR,KFL,KF,Zd,mtO,nbr])
   refine Zz (by simp;omega) ?_
   dsimp only [go_sem,rA,rM,rS]
   have hki:k=i:=by omega
   refine ⟨_,⟨l1,hp,fun p q g1 g2 g3=>?_,rfl⟩,?_⟩
   . rw [hky,hky]
     by_cases h1:p < k
     . rw [if_neg (by omega),if_neg (c:=p=k) (by omega)]
       by_cases h2:q < k
       . rw [if_neg (by omega),if_neg (c:=q=k) (by omega)];exact hs1 _ _ (by omega) (by omega) (by omega)
       . by_cases h3:q=k
         . rw [if_neg (by omega),if_pos h3];exact hlo _ (by omega) (by omega)
         . rw [if_pos (by omega)];exact hs1.le loK (by omega) (by omega) (by omega)
     . rw [if_pos (c:=k < q/\q<=m) (by omega)]
       by_cases h3:p=k
       . rw [if_neg (by omega),if_pos h3];exact Int.le_of_lt (hhi _ (by omega) (by omega))
       . rw [if_pos (by omega)];exact hs1 _ _ (by omega) (by omega) (by omega)
   . simp only [YU]
     (refine Zm ?_ ?_ ?_ rfl<;>dsimp only [loL,id,go_sem,rA,rM,rS]<;>simp [loL,Zc,Ze,KFR,KFL,KF,Zd,mtO,nbr])
 refine Zz (by simp;omega) ?_
 dsimp only [go_sem,rA,rM,rS]
 simp (disch:=omega) only [Zi]
 rw [uwn (by omega) (by omega)]
 refine Zat rfl (.inr rfl) (VY _ (by omega)) rfl ?_
 dsimp only [go_sem,rA,rM,rS]
 obtain ⟨mid,hmid⟩:∃ h:Nat,((a:Int)+(b:Int)) / 2=(h:Int):=⟨(a+b) / 2,by omega⟩
 rw [hmid,Zi (n:=(mid:Int)) (by omega) (by omega)]
 have hm1':2 * mid<=a+b/\a+b<=2 * mid+1:=by omega
 rw [Zi (n:=(mid:Int)+(m:Int)) (by omega) (by omega)]
 have tail0:∀ s0 r0:Nat,s0=(if m > mid then mid+m - b else a)->r0=(if m > mid then mid else m)->a<=s0/\s0<=r0/\r0<=m/\(∀ c,s0<=c->c < r0->m<=mid+m - 1 - c/\mid+m - 1 - c < b):=fun s0 r0 h1 h2=>by
  by_cases hgt:m > mid
  . rw [if_pos hgt] at h1 h2;subst h1;subst h2;refine ⟨by omega,by omega,by omega,fun c _ _=>by omega⟩
  . rw [if_neg hgt] at h1 h2;subst h1;subst h2;refine ⟨by omega,by omega,by omega,fun c _ _=>by omega⟩
 obtain ⟨s0,hs0⟩:∃ s0:Nat,s0=(if m > mid then mid+m - b else a):=⟨_,rfl⟩
 obtain ⟨r0,hr0⟩:∃ r0:Nat,r0=(if m > mid then mid else m):=⟨_,rfl⟩
 obtain ⟨t1,t2,t3,t4⟩:=tail0 s0 r0 hs0 hr0
 by_cases hgt:m > mid
 . refine ZK (by simp;omega) ?_
   dsimp only [go_sem,rA,rM,rS]
   rw [Zi (n:=(mid:Int)+(m:Int) - (b:Int)) (by omega) (by omega),Zi (n:=(mid:Int)+(m:Int) - 1) (by omega) (by omega)]
   have e1:(mid:Int)+(m:Int) - (b:Int)=(s0:Int):=by rw [if_pos hgt] at hs0;omega
   have e2:mid=r0:=by rw [if_pos hgt] at hr0;omega
   rw [e1]
   have hM:((mid:Int))=(r0:Int):=by omega
   refine YY (fun s:Nat × Nat=>[(20,I (s.1:Nat)),(21,I (s.2:Nat))]) (fun _=>[]) (fun s=>s0<=s.1/\s.1<=s.2/\s.2<=r0/\Srch (mid+m - 1) s0 r0 s.1 s.2 (ky loK l)) (fun s=>s.2 - s.1) (s0,r0) ⟨Nat.le_refl _,t2,Nat.le_refl _,Zbu _ _ _ _⟩ ?_ ?_
   . rw [hM];(refine Zl ?_ ?_ ?_ rfl rfl<;>dsimp only [loL,id,go_sem,rA,rM,rS]<;>simp [loL,Zc,Ze,KFR,KFL,KF,Zd,mtO,nbr])
   rintro ⟨i,j⟩ ⟨hi,hij,hj,hsr⟩
   simp only at hi hij hj hsr
   dsimp only [go_sem,rA,rM,rS]
   by_cases hlt:i < j
   . refine ZK (by simpa using hlt) ?_
     dsimp only [go_sem,rA,rM,rS]
     simp (disch:=omega) only [Zi]
     rw [uwn (by omega) (by omega)]
     refine Zat rfl (.inr rfl) (VY _ (by omega)) rfl ?_
     dsimp only [go_sem,rA,rM,rS]
     obtain ⟨h,hh⟩:∃ h:Nat,((i:Int)+(j:Int)) / 2=(h:Int):=⟨(i+j) / 2,by omega⟩
     rw [hh,Zi (n:=(h:Int)) (by omega) (by omega)]
     have hih:i<=h/\h < j:=by omega
     have hph:=t4 h (by omega) (by omega)
     rw [Zi (n:=(mid:Int)+(m:Int) - 1 - (h:Int)) (by omega) (by omega)]
     (repeat first | dsimp only [go_sem,rA,rM,rS] | simp only [nbr])
     refine Xk (mid+m - 1 - h) (by omega) (by simp;omega) ?_
     (repeat first | dsimp only [go_sem,rA,rM,rS] | simp only [nbr])
     refine V0 (by omega) ?_
     (repeat first | dsimp only [loL,go_sem,rA,rM,rS] | simp only [nbr])
     refine Xk h rfl (by simp;omega) ?_
     (repeat first | dsimp only [go_sem,rA,rM,rS] | simp only [nbr])
     refine V0 (by omega) ?_
     (repeat first | dsimp only [loL,go_sem,rA,rM,rS] | simp only [nbr])
     refine UD (by simp [FLT]) (res:=I (V1 (loK l[mid+m - 1 - h]) (loK l[h]))) (by (repeat first | dsimp only [loL,go_sem,rA,rM,rS] | simp only [nbr]);exact V4 _ _) ?_
     (repeat first | dsimp only [go_sem,rA,rM,rS] | simp only [nbr])
     by_cases hk:loK l[mid+m - 1 - h] < loK l[h]
     . refine Zz (by simp [V1,hk]) ?_
       dsimp only [go_sem,rA,rM,rS]
       have hkk:ky loK l (mid+m - 1 - h) < ky loK l h:=by rw [XH loK (l:=l) (i:=h) (by omega),XH loK (l:=l) (i:=mid+m - 1 - h) (by omega)];exact hk
       refine ⟨(i,h),⟨hi,by simp only;omega,by simp only;omega,Zc6 hsr hs1 hs2 t1 t3 t4 hih.1 hih.2 hj hkk hi⟩,by simp only;omega,?_⟩
       (refine Zl ?_ ?_ ?_ rfl rfl<;>dsimp only [loL,id,go_sem,rA,rM,rS]<;>simp [loL,Zc,Ze,KFR,KFL,KF,Zd,mtO,nbr])
     . refine ZK (by simp [V1,hk];split<;>decide) ?_
       dsimp only [go_sem,rA,rM,rS]
       rw [Zi (n:=(h:Int)+1) (by omega) (by omega)]
       have hkk:ky loK l h<=ky loK l (mid+m - 1 - h):=by rw [XH loK (l:=l) (i:=h) (by omega),XH loK (l:=l) (i:=mid+m - 1 - h) (by omega)];exact Int.not_lt.1 hk
       refine ⟨(h+1,j),⟨by simp only;omega,by simp only;omega,hj,ZjY hsr hs1 hs2 t1 t3 t4 hih.1 hih.2 hj hkk hi⟩,by simp only;omega,?_⟩
       (refine Zl ?_ ?_ ?_ rfl rfl<;>dsimp only [loL,id,go_sem,rA,rM,rS]<;>simp [loL,Zc,Ze,KFR,KFL,KF,Zd,mtO,nbr])
   refine Zz (by simp;omega) ?_
   dsimp only [go_sem,rA,rM,rS]
   have cut:=ZqT (s:=i) ham hmb hm1'.1 hm1'.2 s0 r0 hs0 hr0 hi (by omega) (by rwa [show j=i from by omega] at hsr)
   rw [Zi (n:=(mid:Int)+(m:Int) - (i:Int)) (by omega) (by omega),show (mid:Int)+(m:Int) - (i:Int)=((mid+m - i:Nat):Int) from by omega]
   by_cases hr:i < m/\m < mid+m - i
   . rw [show decide ((i:Int) < (m:Int))=true from by simp;omega]
     repeat (refine .inl ⟨rfl,?_⟩;(repeat first | dsimp only [go_sem,rA,rM,rS] | simp only [nbr]))
     refine ZK (by simp;omega) ?_
     dsimp only [go_sem,rA,rM,rS]
     refine Zp [0,1] (ZqQ v i m (mid+m - i) l hr.1 hr.2 (by omega) hL) rfl rfl rfl ?_ ?_ ?_
     . (repeat first | dsimp only [go_sem,rA,rM,rS] | simp only [nbr])
       simp [mtL,mtB,mtS]
     . (repeat first | dsimp only [go_sem,rA,rM,rS] | simp only [nbr])
       simp [Zc,KFR,loL,KFL,KF]
     rintro _ ⟨l1,hp1,hk1,rfl⟩
     (repeat first | dsimp only [YU,go_sem,rA,rM,rS] | simp only [nbr])
     have cd:=Zb2 loK cut hs1 hs2 hk1
     have pp:PIn a b l l1:=hp1.mono (by omega) (by have:=cut.e1;omega)
     have hl1:=pp.len
     by_cases hf:a < i/\i < mid
     . rw [show decide ((a:Int) < (i:Int))=true from by simp;omega]
       repeat (refine .inl ⟨rfl,?_⟩;(repeat first | dsimp only [go_sem,rA,rM,rS] | simp only [nbr]))
       refine ZK (by simp;omega) ?_
       dsimp only [go_sem,rA,rM,rS]
       refine Zp [0,1] (ih a i mid l1 (by omega) hf.1 hf.2 (by omega) (by omega) cd.s1 cd.s2) rfl rfl rfl ?_ ?_ ?_
       . (repeat first | dsimp only [go_sem,rA,rM,rS] | simp only [nbr])
         simp [mtL,mtB,mtS]
       . (repeat first | dsimp only [go_sem,rA,rM,rS] | simp only [nbr])
         simp [Zc,KFR,loL,KFL,KF]
       rintro _ ⟨l2,hp2,hs3,rfl⟩
       (repeat first | dsimp only [YU,go_sem,rA,rM,rS] | simp only [nbr])
       have ce:=UU loK cd hp2 hs3 (by omega)
       have pq:PIn a b l l2:=pp.trans (hp2.mono (by omega) (by omega))
       have hl2:=pq.len
       by_cases hg:mid < mid+m - i/\mid+m - i < b
       . rw [show decide ((mid:Int) < ((mid+m - i:Nat):Int))=true from by simp;omega]
         repeat (refine .inl ⟨rfl,?_⟩;(repeat first | dsimp only [go_sem,rA,rM,rS] | simp only [nbr]))
         refine ZK (by simp;omega) ?_
         dsimp only [go_sem,rA,rM,rS]
         refine Zp [0,1] (ih mid (mid+m - i) b l2 (by omega) hg.1 hg.2 (by omega) (by omega) ce.s3 ce.s4) rfl rfl rfl ?_ ?_ ?_
         . (repeat first | dsimp only [go_sem,rA,rM,rS] | simp only [nbr])
           simp [mtL,mtB,mtS]
         . (repeat first | dsimp only [go_sem,rA,rM,rS] | simp only [nbr])
           simp [Zc,KFR,loL,KFL,KF]
         rintro _ ⟨l3,hp3,hs4,rfl⟩
         (repeat first | dsimp only [YU,go_sem,rA,rM,rS] | simp only [nbr])
         refine ⟨_,⟨l3,pq.trans (hp3.mono (by omega) (by omega)),WA loK ce hp3 hs4 (by omega),rfl⟩,?_⟩
         try simp only [YU]
         (refine Zm ?_ ?_ ?_ rfl<;>dsimp only [loL,id,go_sem,rA,rM,rS]<;>simp [loL,Zc,Ze,KFR,KFL,KF,Zd,mtO,nbr])
       . skip
         repeat (refine gb ?_;(repeat first | dsimp only [go_sem,rA,rM,rS] | simp only [nbr]))
         refine Zz (by simp;omega) ?_
         dsimp only [go_sem,rA,rM,rS]
         refine ⟨_,⟨l2,pq,Us loK ce hg,rfl⟩,?_⟩
         try simp only [YU]
         (refine Zm ?_ ?_ ?_ rfl<;>dsimp only [loL,id,go_sem,rA,rM,rS]<;>simp [loL,Zc,Ze,KFR,KFL,KF,Zd,mtO,nbr])
     . skip
       repeat (refine gb ?_;(repeat first | dsimp only [go_sem,rA,rM,rS] | simp only [nbr]))
       refine Zz (by simp;omega) ?_
       dsimp only [go_sem,rA,rM,rS]
       have ce:=ZbC loK cd hf
       have pq:=pp
       have hl2:=pq.len
       by_cases hg:mid < mid+m - i/\mid+m - i < b
       . rw [show decide ((mid:Int) < ((mid+m - i:Nat):Int))=true from by simp;omega]
         repeat (refine .inl ⟨rfl,?_⟩;(repeat first | dsimp only [go_sem,rA,rM,rS] | simp only [nbr]))
         refine ZK (by simp;omega) ?_
         dsimp only [go_sem,rA,rM,rS]
         refine Zp [0,1] (ih mid (mid+m - i) b l1 (by omega) hg.1 hg.2 (by omega) (by omega) ce.s3 ce.s4) rfl rfl rfl ?_ ?_ ?_
         . (repeat first | dsimp only [go_sem,rA,rM,rS] | simp only [nbr])
           simp [mtL,mtB,mtS]
         . (repeat first | dsimp only [go_sem,rA,rM,rS] | simp only [nbr])
           simp [Zc,KFR,loL,KFL,KF]
         rintro _ ⟨l3,hp3,hs4,rfl⟩
         (repeat first | dsimp only [YU,go_sem,rA,rM,rS] | simp only [nbr])
         refine ⟨_,⟨l3,pq.trans (hp3.mono (by omega) (by omega)),WA loK ce hp3 hs4 (by omega),rfl⟩,?_⟩
         try simp only [YU]
         (refine Zm ?_ ?_ ?_ rfl<;>dsimp only [loL,id,go_sem,rA,rM,rS]<;>simp [loL,Zc,Ze,KFR,KFL,KF,Zd,mtO,nbr])
       . skip
         repeat (refine gb ?_;(repeat first | dsimp only [go_sem,rA,rM,rS] | simp only [nbr]))
         refine Zz (by simp;omega) ?_
         dsimp only [go_sem,rA,rM,rS]
         refine ⟨_,⟨l1,pq,Us loK ce hg,rfl⟩,?_⟩
         try simp only [YU]
         (refine Zm ?_ ?_ ?_ rfl<;>dsimp only [loL,id,go_sem,rA,rM,rS]<;>simp [loL,Zc,Ze,KFR,KFL,KF,Zd,mtO,nbr])
   . skip
     repeat (refine gb ?_;(repeat first | dsimp only [go_sem,rA,rM,rS] | simp only [nbr]))
     refine Zz (by simp;omega) ?_
     dsimp only [go_sem,rA,rM,rS]
     have cd:=ZjG loK cut hs1 hs2 hr
     have pp:PIn a b l l:=.refl _ _ _
     have hl1:=pp.len
     by_cases hf:a < i/\i < mid
     . rw [show decide ((a:Int) < (i:Int))=true from by simp;omega]
       repeat (refine .inl ⟨rfl,?_⟩;(repeat first | dsimp only [go_sem,rA,rM,rS] | simp only [nbr]))
       refine ZK (by simp;omega) ?_
       dsimp only [go_sem,rA,rM,rS]
       refine Zp [0,1] (ih a i mid l (by omega) hf.1 hf.2 (by omega) (by omega) cd.s1 cd.s2) rfl rfl rfl ?_ ?_ ?_
       . (repeat first | dsimp only [go_sem,rA,rM,rS] | simp only [nbr])
         simp [mtL,mtB,mtS]
       . (repeat first | dsimp only [go_sem,rA,rM,rS] | simp only [nbr])
         simp [Zc,KFR,loL,KFL,KF]
       rintro _ ⟨l2,hp2,hs3,rfl⟩
       (repeat first | dsimp only [YU,go_sem,rA,rM,rS] | simp only [nbr])
       have ce:=UU loK cd hp2 hs3 (by omega)
       have pq:PIn a b l l2:=pp.trans (hp2.mono (by omega) (by omega))
       have hl2:=pq.len
       by_cases hg:mid < mid+m - i/\mid+m - i < b
       . rw [show decide ((mid:Int) < ((mid+m - i:Nat):Int))=true from by simp;omega]
         repeat (refine .inl ⟨rfl,?_⟩;(repeat first | dsimp only [go_sem,rA,rM,rS] | simp only [nbr]))
         refine ZK (by simp;omega) ?_
         dsimp only [go_sem,rA,rM,rS]
         refine Zp [0,1] (ih mid (mid+m - i) b l2 (by omega) hg.1 hg.2 (by omega) (by omega) ce.s3 ce.s4) rfl rfl rfl ?_ ?_ ?_
         . (repeat first | dsimp only [go_sem,rA,rM,rS] | simp only [nbr])
           simp [mtL,mtB,mtS]
         . (repeat first | dsimp only [go_sem,rA,rM,rS] | simp only [nbr])
           simp [Zc,KFR,loL,KFL,KF]
         rintro _ ⟨l3,hp3,hs4,rfl⟩
         (repeat first | dsimp only [YU,go_sem,rA,rM,rS] | simp only [nbr])
         refine ⟨_,⟨l3,pq.trans (hp3.mono (by omega) (by omega)),WA loK ce hp3 hs4 (by omega),rfl⟩,?_⟩
         try simp only [YU]
         (refine Zm ?_ ?_ ?_ rfl<;>dsimp only [loL,id,go_sem,rA,rM,rS]<;>simp [loL,Zc,Ze,KFR,KFL,KF,Zd,mtO,nbr])
       . skip
         repeat (refine gb ?_;(repeat first | dsimp only [go_sem,rA,rM,rS] | simp only [nbr]))
         refine Zz (by simp;omega) ?_
         dsimp only [go_sem,rA,rM,rS]
         refine ⟨_,⟨l2,pq,Us loK ce hg,rfl⟩,?_⟩
         try simp only [YU]
         (refine Zm ?_ ?_ ?_ rfl<;>dsimp only [loL,id,go_sem,rA,rM,rS]<;>simp [loL,Zc,Ze,KFR,KFL,KF,Zd,mtO,nbr])
     . skip
       repeat (refine gb ?_;(repeat first | dsimp only [go_sem,rA,rM,rS] | simp only [nbr]))
       refine Zz (by simp;omega) ?_
       dsimp only [go_sem,rA,rM,rS]
       have ce:=ZbC loK cd hf
       have pq:=pp
       have hl2:=pq.len
       by_cases hg:mid < mid+m - i/\mid+m - i < b
       . rw [show decide ((mid:Int) < ((mid+m - i:Nat):Int))=true from by simp;omega]
         repeat (refine .inl ⟨rfl,?_⟩;(repeat first | dsimp only [go_sem,rA,rM,rS] | simp only [nbr]))
         refine ZK (by simp;omega) ?_
         dsimp only [go_sem,rA,rM,rS]
         refine Zp [0,1] (ih mid (mid+m - i) b l (by omega) hg.1 hg.2 (by omega) (by omega) ce.s3 ce.s4) rfl rfl rfl ?_ ?_ ?_
         . (repeat first | dsimp only [go_sem,rA,rM,rS] | simp only [nbr])
           simp [mtL,mtB,mtS]
         . (repeat first | dsimp only [go_sem,rA,rM,rS] | simp only [nbr])
           simp [Zc,KFR,loL,KFL,KF]
         rintro _ ⟨l3,hp3,hs4,rfl⟩
         (repeat first | dsimp only [YU,go_sem,rA,rM,rS] | simp only [nbr])
         refine ⟨_,⟨l3,pq.trans (hp3.mono (by omega) (by omega)),WA loK ce hp3 hs4 (by omega),rfl⟩,?_⟩
         try simp only [YU]
         (refine Zm ?_ ?_ ?_ rfl<;>dsimp only [loL,id,go_sem,rA,rM,rS]<;>simp [loL,Zc,Ze,KFR,KFL,KF,Zd,mtO,nbr])
       . skip
         repeat (refine gb ?_;(repeat first | dsimp only [go_sem,rA,rM,rS] | simp only [nbr]))
         refine Zz (by simp;omega) ?_
         dsimp only [go_sem,rA,rM,rS]
         refine ⟨_,⟨l,pq,Us loK ce hg,rfl⟩,?_⟩
         try simp only [YU]
         (refine Zm ?_ ?_ ?_ rfl<;>dsimp only [loL,id,go_sem,rA,rM,rS]<;>simp [loL,Zc,Ze,KFR,KFL,KF,Zd,mtO,nbr])
 . refine Zz (by simp;omega) ?_
   dsimp only [go_sem,rA,rM,rS]
   rw [Zi (n:=(mid:Int)+(m:Int) - 1) (by omega) (by omega)]
   have hA:(a:Int)=(s0:Int):=by rw [if_neg hgt] at hs0;omega
   have hM:(m:Int)=(r0:Int):=by rw [if_neg hgt] at hr0;omega
   refine YY (fun s:Nat × Nat=>[(20,I (s.1:Nat)),(21,I (s.2:Nat))]) (fun _=>[]) (fun s=>s0<=s.1/\s.1<=s.2/\s.2<=r0/\Srch (mid+m - 1) s0 r0 s.1 s.2 (ky loK l)) (fun s=>s.2 - s.1) (s0,r0) ⟨Nat.le_refl _,t2,Nat.le_refl _,Zbu _ _ _ _⟩ ?_ ?_
   . have e3:s0=a:=by omega
     have e4:r0=m:=by omega
     subst e3;subst e4;(refine Zl ?_ ?_ ?_ rfl rfl<;>dsimp only [loL,id,go_sem,rA,rM,rS]<;>simp [loL,Zc,Ze,KFR,KFL,KF,Zd,mtO,nbr])
   rintro ⟨i,j⟩ ⟨hi,hij,hj,hsr⟩
   simp only at hi hij hj hsr
   dsimp only [go_sem,rA,rM,rS]
   by_cases hlt:i < j
   . refine ZK (by simpa using hlt) ?_
     dsimp only [go_sem,rA,rM,rS]
     simp (disch:=omega) only [Zi]
     rw [uwn (by omega) (by omega)]
     refine Zat rfl (.inr rfl) (VY _ (by omega)) rfl ?_
     dsimp only [go_sem,rA,rM,rS]
     obtain ⟨h,hh⟩:∃ h:Nat,((i:Int)+(j:Int)) / 2=(h:Int):=⟨(i+j) / 2,by omega⟩
     rw [hh,Zi (n:=(h:Int)) (by omega) (by omega)]
     have hih:i<=h/\h < j:=by omega
     have hph:=t4 h (by omega) (by omega)
     rw [Zi (n:=(mid:Int)+(m:Int) - 1 - (h:Int)) (by omega) (by omega)]
     (repeat first | dsimp only [go_sem,rA,rM,rS] | simp only [nbr])
     refine Xk (mid+m - 1 - h) (by omega) (by simp;omega) ?_
     (repeat first | dsimp only [go_sem,rA,rM,rS] | simp only [nbr])
     refine V0 (by omega) ?_
     (repeat first | dsimp only [loL,go_sem,rA,rM,rS] | simp only [nbr])
     refine Xk h rfl (by simp;omega) ?_
     (repeat first | dsimp only [go_sem,rA,rM,rS] | simp only [nbr])
     refine V0 (by omega) ?_
     (repeat first | dsimp only [loL,go_sem,rA,rM,rS] | simp only [nbr])
     refine UD (by simp [FLT]) (res:=I (V1 (loK l[mid+m - 1 - h]) (loK l[h]))) (by (repeat first | dsimp only [loL,go_sem,rA,rM,rS] | simp only [nbr]);exact V4 _ _) ?_
     (repeat first | dsimp only [go_sem,rA,rM,rS] | simp only [nbr])
     by_cases hk:loK l[mid+m - 1 - h] < loK l[h]
     . refine Zz (by simp [V1,hk]) ?_
       dsimp only [go_sem,rA,rM,rS]
       have hkk:ky loK l (mid+m - 1 - h) < ky loK l h:=by rw [XH loK (l:=l) (i:=h) (by omega),XH loK (l:=l) (i:=mid+m - 1 - h) (by omega)];exact hk
       refine ⟨(i,h),⟨hi,by simp only;omega,by simp only;omega,Zc6 hsr hs1 hs2 t1 t3 t4 hih.1 hih.2 hj hkk hi⟩,by simp only;omega,?_⟩
       (refine Zl ?_ ?_ ?_ rfl rfl<;>dsimp only [loL,id,go_sem,rA,rM,rS]<;>simp [loL,Zc,Ze,KFR,KFL,KF,Zd,mtO,nbr])
     . refine ZK (by simp [V1,hk];split<;>decide) ?_
       dsimp only [go_sem,rA,rM,rS]
       rw [Zi (n:=(h:Int)+1) (by omega) (by omega)]
       have hkk:ky loK l h<=ky loK l (mid+m - 1 - h):=by rw [XH loK (l:=l) (i:=h) (by omega),XH loK (l:=l) (i:=mid+m - 1 - h) (by omega)];exact Int.not_lt.1 hk
       refine ⟨(h+1,j),⟨by simp only;omega,by simp only;omega,hj,ZjY hsr hs1 hs2 t1 t3 t4 hih.1 hih.2 hj hkk hi⟩,by simp only;omega,?_⟩
       (refine Zl ?_ ?_ ?_ rfl rfl<;>dsimp only [loL,id,go_sem,rA,rM,rS]<;>simp [loL,Zc,Ze,KFR,KFL,KF,Zd,mtO,nbr])
   refine Zz (by simp;omega) ?_
   dsimp only [go_sem,rA,rM,rS]
   have cut:=ZqT (s:=i) ham hmb hm1'.1 hm1'.2 s0 r0 hs0 hr0 hi (by omega) (by rwa [show j=i from by omega] at hsr)
   rw [Zi (n:=(mid:Int)+(m:Int) - (i:Int)) (by omega) (by omega),show (mid:Int)+(m:Int) - (i:Int)=((mid+m - i:Nat):Int) from by omega]
   by_cases hr:i < m/\m < mid+m - i
   . rw [show decide ((i:Int) < (m:Int))=true from by simp;omega]
     repeat (refine .inl ⟨rfl,?_⟩;(repeat first | dsimp only [go_sem,rA,rM,rS] | simp only [nbr]))
     refine ZK (by simp;omega) ?_
     dsimp only [go_sem,rA,rM,rS]
     refine Zp [0,1] (ZqQ v i m (mid+m - i) l hr.1 hr.2 (by omega) hL) rfl rfl rfl ?_ ?_ ?_
     . (repeat first | dsimp only [go_sem,rA,rM,rS] | simp only [nbr])
       simp [mtL,mtB,mtS]
     . (repeat first | dsimp only [go_sem,rA,rM,rS] | simp only [nbr])
       simp [Zc,KFR,loL,KFL,KF]
     rintro _ ⟨l1,hp1,hk1,rfl⟩
     (repeat first | dsimp only [YU,go_sem,rA,rM,rS] | simp only [nbr])
     have cd:=Zb2 loK cut hs1 hs2 hk1
     have pp:PIn a b l l1:=hp1.mono (by omega) (by have:=cut.e1;omega)
     have hl1:=pp.len
     by_cases hf:a < i/\i < mid
     . rw [show decide ((a:Int) < (i:Int))=true from by simp;omega]
       repeat (refine .inl ⟨rfl,?_⟩;(repeat first | dsimp only [go_sem,rA,rM,rS] | simp only [nbr]))
       refine ZK (by simp;omega) ?_
       dsimp only [go_sem,rA,rM,rS]
       refine Zp [0,1] (ih a i mid l1 (by omega) hf.1 hf.2 (by omega) (by omega) cd.s1 cd.s2) rfl rfl rfl ?_ ?_ ?_
       . (repeat first | dsimp only [go_sem,rA,rM,rS] | simp only [nbr])
         simp [mtL,mtB,mtS]
       . (repeat first | dsimp only [go_sem,rA,rM,rS] | simp only [nbr])
         simp [Zc,KFR,loL,KFL,KF]
       rintro _ ⟨l2,hp2,hs3,rfl⟩
       (repeat first | dsimp only [YU,go_sem,rA,rM,rS] | simp only [nbr])
       have ce:=UU loK cd hp2 hs3 (by omega)
       have pq:PIn a b l l2:=pp.trans (hp2.mono (by omega) (by omega))
       have hl2:=pq.len
       by_cases hg:mid < mid+m - i/\mid+m - i < b
       . rw [show decide ((mid:Int) < ((mid+m - i:Nat):Int))=true from by simp;omega]
         repeat (refine .inl ⟨rfl,?_⟩;(repeat first | dsimp only [go_sem,rA,rM,rS] | simp only [nbr]))
         refine ZK (by simp;omega) ?_
         dsimp only [go_sem,rA,rM,rS]
         refine Zp [0,1] (ih mid (mid+m - i) b l2 (by omega) hg.1 hg.2 (by omega) (by omega) ce.s3 ce.s4) rfl rfl rfl ?_ ?_ ?_
         . (repeat first | dsimp only [go_sem,rA,rM,rS] | simp only [nbr])
           simp [mtL,mtB,mtS]
         . (repeat first | dsimp only [go_sem,rA,rM,rS] | simp only [nbr])
           simp [Zc,KFR,loL,KFL,KF]
         rintro _ ⟨l3,hp3,hs4,rfl⟩
         (repeat first | dsimp only [YU,go_sem,rA,rM,rS] | simp only [nbr])
         refine ⟨_,⟨l3,pq.trans (hp3.mono (by omega) (by omega)),WA loK ce hp3 hs4 (by omega),rfl⟩,?_⟩
         try simp only [YU]
         (refine Zm ?_ ?_ ?_ rfl<;>dsimp only [loL,id,go_sem,rA,rM,rS]<;>simp [loL,Zc,Ze,KFR,KFL,KF,Zd,mtO,nbr])
       . skip
         repeat (refine gb ?_;(repeat first | dsimp only [go_sem,rA,rM,rS] | simp only [nbr]))
         refine Zz (by simp;omega) ?_
         dsimp only [go_sem,rA,rM,rS]
         refine ⟨_,⟨l2,pq,Us loK ce hg,rfl⟩,?_⟩
         try simp only [YU]
         (refine Zm ?_ ?_ ?_ rfl<;>dsimp only [loL,id,go_sem,rA,rM,rS]<;>simp [loL,Zc,Ze,KFR,KFL,KF,Zd,mtO,nbr])
     . skip
       repeat (refine gb ?_;(repeat first | dsimp only [go_sem,rA,rM,rS] | simp only [nbr]))
       refine Zz (by simp;omega) ?_
       dsimp only [go_sem,rA,rM,rS]
       have ce:=ZbC loK cd hf
       have pq:=pp
       have hl2:=pq.len
       by_cases hg:mid < mid+m - i/\mid+m - i < b
       . rw [show decide ((mid:Int) < ((mid+m - i:Nat):Int))=true from by simp;omega]
         repeat (refine .inl ⟨rfl,?_⟩;(repeat first | dsimp only [go_sem,rA,rM,rS] | simp only [nbr]))
         refine ZK (by simp;omega) ?_
         dsimp only [go_sem,rA,rM,rS]
         refine Zp [0,1] (ih mid (mid+m - i) b l1 (by omega) hg.1 hg.2 (by omega) (by omega) ce.s3 ce.s4) rfl rfl rfl ?_ ?_ ?_
         . (repeat first | dsimp only [go_sem,rA,rM,rS] | simp only [nbr])
           simp [mtL,mtB,mtS]
         . (repeat first | dsimp only [go_sem,rA,rM,rS] | simp only [nbr])
           simp [Zc,KFR,loL,KFL,KF]
         rintro _ ⟨l3,hp3,hs4,rfl⟩
         (repeat first | dsimp only [YU,go_sem,rA,rM,rS] | simp only [nbr])
         refine ⟨_,⟨l3,pq.trans (hp3.mono (by omega) (by omega)),WA loK ce hp3 hs4 (by omega),rfl⟩,?_⟩
         try simp only [YU]
         (refine Zm ?_ ?_ ?_ rfl<;>dsimp only [loL,id,go_sem,rA,rM,rS]<;>simp [loL,Zc,Ze,KFR,KFL,KF,Zd,mtO,nbr])
       . skip
         repeat (refine gb ?_;(repeat first | dsimp only [go_sem,rA,rM,rS] | simp only [nbr]))
         refine Zz (by simp;omega) ?_
         dsimp only [go_sem,rA,rM,rS]
         refine ⟨_,⟨l1,pq,Us loK ce hg,rfl⟩,?_⟩
         try simp only [YU]
         (refine Zm ?_ ?_ ?_ rfl<;>dsimp only [loL,id,go_sem,rA,rM,rS]<;>simp [loL,Zc,Ze,KFR,KFL,KF,Zd,mtO,nbr])
   . skip
     repeat (refine gb ?_;(repeat first | dsimp only [go_sem,rA,rM,rS] | simp only [nbr]))
     refine Zz (by simp;omega) ?_
     dsimp only [go_sem,rA,rM,rS]
     have cd:=ZjG loK cut hs1 hs2 hr
     have pp:PIn a b l l:=.refl _ _ _
     have hl1:=pp.len
     by_cases hf:a < i/\i < mid
     . rw [show decide ((a:Int) < (i:Int))=true from by simp;omega]
       repeat (refine .inl ⟨rfl,?_⟩;(repeat first | dsimp only [go_sem,rA,rM,rS] | simp only [nbr]))
       refine ZK (by simp;omega) ?_
       dsimp only [go_sem,rA,rM,rS]
       refine Zp [0,1] (ih a i mid l (by omega) hf.1 hf.2 (by omega) (by omega) cd.s1 cd.s2) rfl rfl rfl ?_ ?_ ?_
       . (repeat first | dsimp only [go_sem,rA,rM,rS] | simp only [nbr])
         simp [mtL,mtB,mtS]
       . (repeat first | dsimp only [go_sem,rA,rM,rS] | simp only [nbr])
         simp [Zc,KFR,loL,KFL,KF]
       rintro _ ⟨l2,hp2,hs3,rfl⟩
       (repeat first | dsimp only [YU,go_sem,rA,rM,rS] | simp only [nbr])
       have ce:=UU loK cd hp2 hs3 (by omega)
       have pq:PIn a b l l2:=pp.trans (hp2.mono (by omega) (by omega))
       have hl2:=pq.len
       by_cases hg:mid < mid+m - i/\mid+m - i < b
       . rw [show decide ((mid:Int) < ((mid+m - i:Nat):Int))=true from by simp;omega]
         repeat (refine .inl ⟨rfl,?_⟩;(repeat first | dsimp only [go_sem,rA,rM,rS] | simp only [nbr]))
         refine ZK (by simp;omega) ?_
         dsimp only [go_sem,rA,rM,rS]
         refine Zp [0,1] (ih mid (mid+m - i) b l2 (by omega) hg.1 hg.2 (by omega) (by omega) ce.s3 ce.s4) rfl rfl rfl ?_ ?_ ?_
         . (repeat first | dsimp only [go_sem,rA,rM,rS] | simp only [nbr])
           simp [mtL,mtB,mtS]
         . (repeat first | dsimp only [go_sem,rA,rM,rS] | simp only [nbr])
           simp [Zc,KFR,loL,KFL,KF]
         rintro _ ⟨l3,hp3,hs4,rfl⟩
         (repeat first | dsimp only [YU,go_sem,rA,rM,rS] | simp only [nbr])
         refine ⟨_,⟨l3,pq.trans (hp3.mono (by omega) (by omega)),WA loK ce hp3 hs4 (by omega),rfl⟩,?_⟩
         try simp only [YU]
         (refine Zm ?_ ?_ ?_ rfl<;>dsimp only [loL,id,go_sem,rA,rM,rS]<;>simp [loL,Zc,Ze,KFR,KFL,KF,Zd,mtO,nbr])
       . skip
         repeat (refine gb ?_;(repeat first | dsimp only [go_sem,rA,rM,rS] | simp only [nbr]))
         refine Zz (by simp;omega) ?_
         dsimp only [go_sem,rA,rM,rS]
         refine ⟨_,⟨l2,pq,Us loK ce hg,rfl⟩,?_⟩
         try simp only [YU]
         (refine Zm ?_ ?_ ?_ rfl<;>dsimp only [loL,id,go_sem,rA,rM,rS]<;>simp [loL,Zc,Ze,KFR,KFL,KF,Zd,mtO,nbr])
     . skip
       repeat (refine gb ?_;(repeat first | dsimp only [go_sem,rA,rM,rS] | simp only [nbr]))
       refine Zz (by simp;omega) ?_
       dsimp only [go_sem,rA,rM,rS]
       have ce:=ZbC loK cd hf
       have pq:=pp
       have hl2:=pq.len
       by_cases hg:mid < mid+m - i/\mid+m - i < b
       . rw [show decide ((mid:Int) < ((mid+m - i:Nat):Int))=true from by simp;omega]
         repeat (refine .inl ⟨rfl,?_⟩;(repeat first | dsimp only [go_sem,rA,rM,rS] | simp only [nbr]))
         refine ZK (by simp;omega) ?_
         dsimp only [go_sem,rA,rM,rS]
         refine Zp [0,1] (ih mid (mid+m - i) b l (by omega) hg.1 hg.2 (by omega) (by omega) ce.s3 ce.s4) rfl rfl rfl ?_ ?_ ?_
         . (repeat first | dsimp only [go_sem,rA,rM,rS] | simp only [nbr])
           simp [mtL,mtB,mtS]
         . (repeat first | dsimp only [go_sem,rA,rM,rS] | simp only [nbr])
           simp [Zc,KFR,loL,KFL,KF]
         rintro _ ⟨l3,hp3,hs4,rfl⟩
         (repeat first | dsimp only [YU,go_sem,rA,rM,rS] | simp only [nbr])
         refine ⟨_,⟨l3,pq.trans (hp3.mono (by omega) (by omega)),WA loK ce hp3 hs4 (by omega),rfl⟩,?_⟩
         try simp only [YU]
         (refine Zm ?_ ?_ ?_ rfl<;>dsimp only [loL,id,go_sem,rA,rM,rS]<;>simp [loL,Zc,Ze,KFR,KFL,KF,Zd,mtO,nbr])
       . skip
         repeat (refine gb ?_;(repeat first | dsimp only [go_sem,rA,rM,rS] | simp only [nbr]))
         refine Zz (by simp;omega) ?_
         dsimp only [go_sem,rA,rM,rS]
         refine ⟨_,⟨l,pq,Us loK ce hg,rfl⟩,?_⟩
         try simp only [YU]
         (refine Zm ?_ ?_ ?_ rfl<;>dsimp only [loL,id,go_sem,rA,rM,rS]<;>simp [loL,Zc,Ze,KFR,KFL,KF,Zd,mtO,nbr])
end Go.Proofs.Ythilckbkffjliaa
namespace Go.Azalai
section
variable {α : Type} (key:α->Int)
def Blk (s a b:Nat) (l:List α):Prop:=∀ p q,a<=p->p < q->q < b->p / s=q / s->ky key l p<=ky key l q
theorem ZeH {s:Nat} {l:List α}:Blk key s 0 0 l:=fun p q h1 h2 h3=>by omega
theorem ZyY {s c p q:Nat} (h:p / s=q / s) (h1:s * c<=q) (hs:0 < s):s * c<=p:=by
 have e1:c<=q / s:=(Nat.le_div_iff_mul_le hs).2 (by rw [Nat.mul_comm];exact h1)
 rw [<- h] at e1
 have:=(Nat.le_div_iff_mul_le hs).1 e1
 rwa [Nat.mul_comm] at this
theorem ZbJ {s c b:Nat} {l l':List α} (hs:0 < s) (h:Blk key s 0 (s * c) l) (hp:PIn (s * c) b l l') (h':Srt key (s * c) b l'):Blk key s 0 b l':=fun p q g1 g2 g3 e=>by
 by_cases hq:q < s * c
 . rw [hp.ky key (.inl (by omega)),hp.ky key (.inl hq)];exact h p q g1 g2 hq e
 . exact h' p q (ZyY e (by omega) hs) g2 g3
theorem ZmC {s a b n:Nat} {l l':List α} (h:Blk key s a n l) (hp:PIn a b l l') (hab:a<=b):Blk key s b n l':=fun p q g1 g2 g3 e=>by
 rw [hp.ky key (.inr g1),hp.ky key (.inr (by omega))];exact h p q (by omega) g2 g3 e
theorem Zen {s c p:Nat} (h1:s * c<=p) (h2:p < s * c+s):p / s=c:=by
 have hs:0 < s:=by omega
 apply Nat.le_antisymm
 . have:p / s < c+1:=(Nat.div_lt_iff_lt_mul hs).2 (by rw [Nat.add_mul,Nat.one_mul,Nat.mul_comm];exact h2)
   omega
 . exact (Nat.le_div_iff_mul_le hs).2 (by rw [Nat.mul_comm];exact h1)
theorem ZbG {s c a b n:Nat} {l:List α} (h:Blk key s a n l) (ha:a<=s * c) (hb:b<=s * c+s) (hn:b<=n):Srt key (s * c) b l:=fun p q g1 g2 g3=>by
 refine h p q (by omega) g2 (by omega) ?_
 rw [Zen g1 (by omega),Zen (c:=c) (p:=q) (by omega) (by omega)]
end
end Go.Azalai
namespace Go.Proofs.Ythilckbkffjliaa
open Go Go.Sx Go.Azalai
theorem ZxK (v n:Nat) (l:List LO) (hn:n=l.length) (hL:l.length < 1152921504606846976) :
 CtM Try.prog 109 [(0,.row v 8 (l.map loL) 50),(1,byH)] 2 [.mr 0 v,I n,.cl 88 [.p 1 0]] (fun o=>∃ l',PIn 0 n l l'/\Srt loK 0 n l'/\o=YU v l'):=by
 refine m109 (by simp [hpb]) (fun o ho=>by obtain ⟨l',_,_,rfl⟩:=ho;simp [YU,byH,KX,KXL,KXP,KXH,Zc,KFR,KFL,KF,loL]) ?_
 dsimp only [c109,r109,go_sem,rA,rM,rS]
 refine YY (fun s:Nat × List LO=>[(7,I (20 * s.1:Nat)),(8,I (20 * s.1+20:Nat))]) (fun s=>[(0,.row v 8 (s.2.map loL) 50)]) (fun s=>20 * s.1<=n/\PIn 0 n l s.2/\Blk loK 20 0 (20 * s.1) s.2) (fun s=>n - 20 * s.1) (0,l) ⟨by simp only;omega,.refl _ _ _,ZeH loK⟩ ?_ ?_
 . (refine Zl ?_ ?_ ?_ rfl rfl<;>dsimp only [loL,id,go_sem,rA,rM,rS]<;>simp [loL,Zc,Ze,KFR,KFL,KF,Zd,mtO,nbr])
 rintro ⟨c,l1⟩ ⟨hc,hp,hb⟩
 simp only at hc hp hb
 have hl1:=hp.len
 dsimp only [go_sem,rA,rM,rS]
 by_cases hlt:20 * c+20<=n
 . refine ZK (by simp;omega) ?_
   dsimp only [go_sem,rA,rM,rS]
   refine Zp [0,1] (ZjN v (20 * c) (20 * c+20) l1 (by omega) (by omega) (by omega)) rfl rfl rfl ?_ ?_ ?_
   . (repeat first | dsimp only [go_sem,rA,rM,rS] | simp only [nbr])
     simp [mtL,mtB,mtS]
   . (repeat first | dsimp only [go_sem,rA,rM,rS] | simp only [nbr])
     simp [Zc,KFR,loL,KFL,KF]
   rintro _ ⟨l2,hp2,hs2,rfl⟩
   (repeat first | dsimp only [YU,go_sem,rA,rM,rS] | simp only [nbr])
   rw [Zi (n:=((20 * c+20:Nat):Int)+20) (by omega) (by omega)]
   refine ⟨(c+1,l2),⟨by simp only;omega,hp.trans (hp2.mono (by omega) (by omega)),?_⟩,by simp only;omega,?_⟩
   . exact ZbJ loK (by omega) hb hp2 hs2
   rw [show ((20 * c+20:Nat):Int)+20=((20 * (c+1)+20:Nat):Int) from by omega,show 20 * c+20=20 * (c+1) from by omega]
   (refine Zl ?_ ?_ ?_ rfl rfl<;>dsimp only [loL,id,go_sem,rA,rM,rS]<;>simp [loL,Zc,Ze,KFR,KFL,KF,Zd,mtO,nbr])
 refine Zz (by simp;omega) ?_
 dsimp only [go_sem,rA,rM,rS]
 refine Zp [0,1] (ZjN v (20 * c) n l1 (by omega) (by omega) (by omega)) rfl rfl rfl ?_ ?_ ?_
 . (repeat first | dsimp only [go_sem,rA,rM,rS] | simp only [nbr])
   simp [mtL,mtB,mtS]
 . (repeat first | dsimp only [go_sem,rA,rM,rS] | simp only [nbr])
   simp [Zc,KFR,loL,KFL,KF]
 rintro _ ⟨l2,hp2,hs2,rfl⟩
 (repeat first | dsimp only [YU,go_sem,rA,rM,rS] | simp only [nbr])
 have hb2:=ZbJ loK (by omega) hb hp2 hs2
 refine YY (fun s:Nat × List LO × Int × Int=>[(6,I (s.1:Nat)),(7,I s.2.2.1),(8,I s.2.2.2)]) (fun s=>[(0,.row v 8 (s.2.1.map loL) 50)]) (fun s=>(0 < s.1/\s.1<=2 * n+20)/\PIn 0 n l s.2.1/\Blk loK s.1 0 n s.2.1) (fun s=>n - s.1) (20,l2,((20 * c:Nat):Int),((20 * c+20:Nat):Int)) ⟨by simp only;omega,hp.trans (hp2.mono (by omega) (by omega)),hb2⟩ ?_ ?_
 . (refine Zl ?_ ?_ ?_ rfl rfl<;>dsimp only [loL,id,go_sem,rA,rM,rS]<;>simp [loL,Zc,Ze,KFR,KFL,KF,Zd,mtO,nbr])
 rintro ⟨s,l3,z1,z2⟩ ⟨⟨hs0,hs1⟩,hp3,hb3⟩
 simp only at hs0 hs1 hp3 hb3
 have hl3:=hp3.len
 dsimp only [go_sem,rA,rM,rS]
 by_cases hlt:s < n
 case neg =>
  refine Zz (by simp;omega) ?_
  dsimp only [go_sem,rA,rM,rS]
  refine ⟨_,⟨l3,hp3,?_,rfl⟩,?_⟩
  . have:=ZbG loK (c:=0) hb3 (Nat.zero_le _) (show n<=s * 0+s by omega) (Nat.le_refl _)
    rwa [Nat.mul_zero] at this
  . try simp only [YU]
    (refine Zm ?_ ?_ ?_ rfl<;>dsimp only [loL,id,go_sem,rA,rM,rS]<;>simp [loL,Zc,Ze,KFR,KFL,KF,Zd,mtO,nbr])
 refine ZK (by simp;omega) ?_
 dsimp only [go_sem,rA,rM,rS]
 rw [Zi (n:=2 * (s:Int)) (by omega) (by omega)]
 refine YY (fun z:Nat × List LO=>[(7,I (2 * s * z.1:Nat)),(8,I (2 * s * z.1+2 * s:Nat))]) (fun z=>[(0,.row v 8 (z.2.map loL) 50)]) (fun z=>2 * s * z.1<=n/\PIn 0 n l z.2/\Blk loK (2 * s) 0 (2 * s * z.1) z.2/\Blk loK s (2 * s * z.1) n z.2) (fun z=>n - 2 * s * z.1) (0,l3) ⟨by simp only;omega,hp3,ZeH loK,hb3⟩ ?_ ?_
 . rw [show 2 * (s:Int)=((2 * s * 0+2 * s:Nat):Int) from by omega]
   (refine Zl ?_ ?_ ?_ rfl rfl<;>dsimp only [loL,id,go_sem,rA,rM,rS]<;>simp [loL,Zc,Ze,KFR,KFL,KF,Zd,mtO,nbr])
 rintro ⟨c',l4⟩ ⟨hc4,hp4,hb4,hb5⟩
 simp only at hc4 hp4 hb4 hb5
 have hl4:=hp4.len
 have e5:s * (2 * c')=2 * s * c':=by rw [<- Nat.mul_assoc,Nat.mul_comm s 2]
 have e6:s * (2 * c'+1)=2 * s * c'+s:=by rw [Nat.mul_add,e5,Nat.mul_one]
 have e7:2 * s * (c'+1)=2 * s * c'+2 * s:=by rw [Nat.mul_add,Nat.mul_one]
 dsimp only [go_sem,rA,rM,rS]
 have hq1:2 * s * c'+s<=n->Srt loK (2 * s * c') (2 * s * c'+s) l4:=fun h=>by
  have:=ZbG loK (c:=2 * c') (b:=2 * s * c'+s) hb5 (by omega) (by omega) (by omega)
  rwa [e5] at this
 have hq2:∀ b,b<=2 * s * c'+2 * s->b<=n->Srt loK (2 * s * c'+s) b l4:=fun b h1 h2=>by
  have:=ZbG loK (c:=2 * c'+1) (b:=b) hb5 (by omega) (by omega) (by omega)
  rwa [e6] at this
 have hstep:∀ b l',PIn (2 * s * c') b l4 l'->Srt loK (2 * s * c') b l'->Blk loK (2 * s) 0 b l':=fun b l' h1 h2=>ZbJ loK (by omega) hb4 h1 h2
 have hlast:n<=2 * s * c'+s->Blk loK (2 * s) 0 n l4:=fun h=>by
  have:=ZbG loK (c:=2 * c') (b:=n) hb5 (by omega) (by omega) (by omega)
  rw [e5] at this
  exact hstep n l4 (.refl _ _ _) this
 clear hb4
 clear e5 e6
 generalize ha:2 * s * c'=a at *
 by_cases hlt2:a+2 * s<=n
 . refine ZK (by simp;omega) ?_
   dsimp only [go_sem,rA,rM,rS]
   rw [Zi (n:=(a:Int)+(s:Int)) (by omega) (by omega),show (a:Int)+(s:Int)=((a+s:Nat):Int) from by omega]
   refine Zp [0,1] (Zrl v _ a (a+s) (a+2 * s) l4 (Nat.le_refl _) (by omega) (by omega) (by omega) (by omega) (hq1 (by omega)) (hq2 _ (by omega) (by omega))) rfl rfl rfl ?_ ?_ ?_
   . (repeat first | dsimp only [go_sem,rA,rM,rS] | simp only [nbr])
     simp [mtL,mtB,mtS]
   . (repeat first | dsimp only [go_sem,rA,rM,rS] | simp only [nbr])
     simp [Zc,KFR,loL,KFL,KF]
   rintro _ ⟨l5,hp5,hs5,rfl⟩
   (repeat first | dsimp only [YU,go_sem,rA,rM,rS] | simp only [nbr])
   rw [Zi (n:=2 * (s:Int)) (by omega) (by omega),Zi (n:=((a+2 * s:Nat):Int)+2 * (s:Int)) (by omega) (by omega)]
   refine ⟨(c'+1,l5),⟨by simp only;omega,hp4.trans (hp5.mono (by omega) (by omega)),?_,?_⟩,by simp only [e7,ha];omega,?_⟩
   . simp only;rw [e7];exact hstep _ _ hp5 hs5
   . simp only;rw [e7];exact ZmC loK hb5 hp5 (by omega)
   . simp only [e7]
     rw [show ((a+2 * s:Nat):Int)+2 * (s:Int)=((a+2 * s+2 * s:Nat):Int) from by omega]
     (refine Zl ?_ ?_ ?_ rfl rfl<;>dsimp only [loL,id,go_sem,rA,rM,rS]<;>simp [loL,Zc,Ze,KFR,KFL,KF,Zd,mtO,nbr])
 refine Zz (by simp;omega) ?_
 dsimp only [go_sem,rA,rM,rS]
 rw [Zi (n:=(a:Int)+(s:Int)) (by omega) (by omega),show (a:Int)+(s:Int)=((a+s:Nat):Int) from by omega]
 by_cases hm:a+s < n
 . refine ZK (by simp;omega) ?_
   dsimp only [go_sem,rA,rM,rS]
   refine Zp [0,1] (Zrl v _ a (a+s) n l4 (Nat.le_refl _) (by omega) (by omega) (by omega) (by omega) (hq1 (by omega)) (hq2 _ (by omega) (by omega))) rfl rfl rfl ?_ ?_ ?_
   . (repeat first | dsimp only [go_sem,rA,rM,rS] | simp only [nbr])
     simp [mtL,mtB,mtS]
   . (repeat first | dsimp only [go_sem,rA,rM,rS] | simp only [nbr])
     simp [Zc,KFR,loL,KFL,KF]
   rintro _ ⟨l5,hp5,hs5,rfl⟩
   (repeat first | dsimp only [YU,go_sem,rA,rM,rS] | simp only [nbr])
   rw [Zi (n:=(s:Int) * 2) (by omega) (by omega),show (s:Int) * 2=((2 * s:Nat):Int) from by omega]
   refine ⟨(2 * s,l5,(a:Int),((a+2 * s:Nat):Int)),⟨by simp only;omega,hp4.trans (hp5.mono (by omega) (by omega)),hstep _ _ hp5 hs5⟩,by simp only;omega,?_⟩
   (refine Zl ?_ ?_ ?_ rfl rfl<;>dsimp only [loL,id,go_sem,rA,rM,rS]<;>simp [loL,Zc,Ze,KFR,KFL,KF,Zd,mtO,nbr])
 refine Zz (by simp;omega) ?_
 dsimp only [go_sem,rA,rM,rS]
 rw [Zi (n:=(s:Int) * 2) (by omega) (by omega),show (s:Int) * 2=((2 * s:Nat):Int) from by omega]
 refine ⟨(2 * s,l4,(a:Int),((a+2 * s:Nat):Int)),⟨by simp only;omega,hp4,hlast (by omega)⟩,by simp only;omega,?_⟩
 (refine Zl ?_ ?_ ?_ rfl rfl<;>dsimp only [loL,id,go_sem,rA,rM,rS]<;>simp [loL,Zc,Ze,KFR,KFL,KF,Zd,mtO,nbr])
theorem Zju (v:Nat) (l:List LO) (hL:l.length < 1152921504606846976) :
 CtM Try.prog 87 [(0,.row v 8 (l.map loL) 50),(1,byH)] 2 [.mr 0 v,.cl 88 [.p 1 0]] (fun o=>∃ l',PIn 0 l.length l l'/\Srt loK 0 l.length l'/\o=YU v l'):=by
 refine m87 (by simp [hpb]) (fun o ho=>by obtain ⟨l',_,_,rfl⟩:=ho;simp [YU,byH,KX,KXL,KXP,KXH,Zc,KFR,KFL,KF,loL]) ?_
 dsimp only [c87,r87,go_sem,rA,rM,rS]
 (repeat first | dsimp only [go_sem,rA,rM,rS] | simp only [nbr])
 simp only [List.length_map]
 refine Zp [0,1] (ZxK v l.length l rfl hL) rfl rfl rfl ?_ ?_ ?_
 . (repeat first | dsimp only [go_sem,rA,rM,rS] | simp only [nbr])
   simp [mtL,mtB,mtS]
 . (repeat first | dsimp only [go_sem,rA,rM,rS] | simp only [nbr])
   simp [Zc,KFR,loL,KFL,KF]
 rintro _ ⟨l5,hp5,hs5,rfl⟩
 (repeat first | dsimp only [YU,go_sem,rA,rM,rS] | simp only [nbr])
 refine ⟨_,⟨l5,hp5,hs5,rfl⟩,?_⟩
 try simp only [YU]
 (refine Zm ?_ ?_ ?_ rfl<;>dsimp only [loL,id,go_sem,rA,rM,rS]<;>simp [loL,Zc,Ze,KFR,KFL,KF,Zd,mtO,nbr])
end Go.Proofs.Ythilckbkffjliaa
namespace Go.Azalai
def loV (x:LO):Letter:=x.1
def Zcu (l:List Letter):Prop:=∀ x ∈ l,0<=x.id/\x.id<=9999
theorem ZrY:∀ {l:List Letter},Zcu l->∃ L:List LO,L.map loV=l
 | [],_=>⟨[],rfl⟩
 | x :: l,h=>by
  obtain ⟨L,hL⟩:=ZrY (l:=l) fun y hy=>h y (by simp [hy])
  let x':LO:=⟨x,h x (by simp)⟩
  have e:loV x'=x:=rfl
  exact ⟨x' :: L,by rw [List.map_cons,hL,e]⟩
theorem ZqA {L L':List LO} (hp:L'.Perm L) (hs:Srt loK 0 L.length L') (hn:((L.map loV).map (·.id)).Nodup):L'.map loV=Zr1 (L.map loV):=by
 have hlen:=hp.length_eq
 have hn':((L'.map loV).map (·.id)).Nodup:=(((hp.map _).map _).nodup_iff).2 hn
 refine ZbL ?_ (Zb3 hn) fun x=>by rw [X0.mem_iff,(hp.map _).mem_iff]
 rw [List.pairwise_map,List.pairwise_iff_getElem]
 intro i j hi hj hij
 have h:=hs i j (Nat.zero_le _) hij (by omega)
 rw [XH loK (by omega),XH loK (by omega)] at h
 rw [List.map_map,List.nodup_iff_pairwise_ne,List.pairwise_map,List.pairwise_iff_getElem] at hn'
 have hne:=hn' i j hi hj hij
 have h1:0<=(loV L'[i]).id/\(loV L'[i]).id<=9999:=L'[i].2
 have h2:0<=(loV L'[j]).id/\(loV L'[j]).id<=9999:=L'[j].2
 have h:(loV L'[i]).day * 10000+(loV L'[i]).id<=(loV L'[j]).day * 10000+(loV L'[j]).id:=h
 have hne:(loV L'[i]).id≠(loV L'[j]).id:=hne
 generalize loV L'[i]=a at *
 generalize loV L'[j]=b at *
 simp only [lt2,Bool.or_eq_true,Bool.and_eq_true,decide_eq_true_eq]
 omega
end Go.Azalai
namespace Go.Proofs.Ythilckbkffjliaa
open Go Go.Sx Go.Azalai
theorem ZbT (L:List LO):(L.map loV).map Zb=L.map loL:=by rw [List.map_map];rfl
theorem ZeS (l:List LO) (hL:l.length<=1000) (k:Bool):CtM Try.prog 86 [] 0 [.sl k 8 (l.map loL)] (fun o=>o=⟨false,.mr 0 0,[(0,.row 0 8 (l.map loL) 50)],1⟩):=by
 refine m86 (by simp [hpb]) (fun o ho=>by subst ho;simp [KX,KXL,KXP,KXH,Zc,KFL,KF,loL]) ?_
 dsimp only [c86,r86,go_sem,rA,rM,rS]
 intro b hb
 dsimp only [go_sem,rA,rM,rS]
 cases b with
 | true =>
  have hl:l=[]:=by simpa using hb rfl
  subst hl
  refine ZK rfl ?_
  dsimp only [go_sem,rA,rM,rS]
  refine ⟨_,rfl,?_⟩
  refine ZkJ (Y4 (Xv 0 8 50 rfl rfl) ?_) (fun _ _ _ e=>by cases e)
  (refine Zl ?_ ?_ ?_ rfl rfl<;>dsimp only [loL,id,go_sem,rA,rM,rS]<;>simp [loL,Zc,Ze,KFR,KFL,KF,Zd,mtO,nbr])
 | false =>
  refine Zz rfl ?_
  dsimp only [go_sem,rA,rM,rS]
  refine ⟨by simp;omega,?_⟩
  dsimp only [go_sem,rA,rM,rS]
  refine ⟨_,rfl,?_⟩
  (refine Zm ?_ ?_ ?_ rfl<;>dsimp only [loL,id,go_sem,rA,rM,rS]<;>simp [loL,Zc,Ze,KFR,KFL,KF,Zd,mtO,nbr])
theorem Zzu (l:List Letter) (hl:Zcu l) (hn:(l.map (·.id)).Nodup) (hL:l.length<=1000) (k:Bool):Ct Try.prog 67 [.sl k 8 (l.map Zb),.sl true 1 [[.cl 68 []],[.cl 69 []]]] (.sl false 8 ((Zr1 l).map Zb)):=by
 obtain ⟨L,rfl⟩:=ZrY hl
 rw [ZbT]
 have hL:L.length<=1000:=by simpa using hL
 refine t67.1 (by simp [Zc,KFR,loL,KFL,KF]) (by simp [Zc,Zb,KFL,KF]) ?_
 dsimp only [c67,r67,go_sem,rA,rM,rS]
 refine Zp [] (ZeS L hL k) rfl rfl rfl ?_ ?_ ?_
 . (repeat first | dsimp only [go_sem,rA,rM,rS] | simp only [nbr])
   try simp [mtL,mtB,mtS,Zc,KFL,KF,loL]
 . trivial
 rintro _ rfl
 (repeat first | dsimp only [go_sem,rA,rM,rS] | simp only [nbr])
 refine gh Yq ?_
 (repeat first | dsimp only [go_sem,rA,rM,rS] | simp only [nbr])
 refine Zp [1,0] (Zju 0 L (by omega)) rfl rfl rfl ?_ ?_ ?_
 . (repeat first | dsimp only [go_sem,rA,rM,rS] | simp only [nbr])
   try simp [mtL,mtB,mtS]
 . (repeat first | dsimp only [go_sem,rA,rM,rS] | simp only [nbr])
   simp [Zc,KFR,loL,KFL,KF]
 rintro _ ⟨L',hp,hs,rfl⟩
 (repeat first | dsimp only [YU,go_sem,rA,rM,rS] | simp only [nbr])
 refine gh (ZbW 0 1 0 rfl rfl rfl rfl) ?_
 (repeat first | dsimp only [go_sem,rA,rM,rS] | simp only [nbr])
 rw [<- ZqA hp.perm hs hn,ZbT]
end Go.Proofs.Ythilckbkffjliaa
namespace Go.Azalai
theorem Zbo {ends:Int} {x:Letter}:∀ {a:List Letter} {seen:List Int},YO ends seen (a ++ [x])=YO ends seen a ++ (if (x.id ∈ seen\/x.id ∈ a.map (·.id))\/x.day > ends then [] else [x])
 | [],seen=>by
  simp only [List.nil_append,YO,List.map_nil,List.not_mem_nil,or_false]
 | y :: a,seen=>by
  have ih:=Zbo (ends:=ends) (x:=x) (a:=a) (seen:=y.id :: seen)
  have e:((x.id ∈ y.id :: seen\/x.id ∈ a.map (·.id))\/x.day > ends)↔((x.id ∈ seen\/x.id ∈ (y :: a).map (·.id))\/x.day > ends):=by
   simp only [List.mem_cons,List.map_cons];grind
  rw [List.cons_append]
  simp only [YO]
  rw [ih]
  by_cases h:y.id ∈ seen\/y.day > ends
  . rw [if_pos h,if_pos h];simp only [e]
  . rw [if_neg h,if_neg h,List.cons_append];simp only [e]
structure PreR (p:Pact) (l:List Letter) (k:Nat) (L:List (Nat × Int × Letter)) (c:Nat) (R:List Letter):Prop where
 le:k<=l.length
 one:∀ x ∈ l.take k,∀ y ∈ l.take k,x.id=y.id->x=y
 map:∀ id x,Go.Sx.mget id L=some x↔x ∈ l.take k/\x.id=id
 rows:R=YO p.ends [] (l.take k)
theorem PreR.start (p:Pact) (l:List Letter):PreR p l 0 [] 0 []:=⟨Nat.zero_le _,fun x h=>by simp at h,fun id x=>by simp [Go.Sx.mget],rfl⟩
theorem PreR.step {p:Pact} {l:List Letter} {k c:Nat} {L:List (Nat × Int × Letter)} {R:List Letter} (h:PreR p l k L c R) (hk:k < l.length) (ho:Go.Sx.mget l[k].id L=none\/Go.Sx.mget l[k].id L=some l[k]) :
 PreR p l (k+1) (Go.Sx.mset c l[k].id l[k] L) (Go.Sx.mclk c l[k].id L) (if Go.Sx.mget l[k].id L=none/\l[k].day<=p.ends then R ++ [l[k]] else R):=by
 have ht:l.take (k+1)=l.take k ++ [l[k]]:=List.take_succ_eq_append_getElem hk
 have hnew:∀ x ∈ l.take k,x.id=l[k].id->x=l[k]:=fun x hx he=>by
  have:=(h.map l[k].id x).2 ⟨hx,he⟩
  rcases ho with q | q
  . rw [q] at this;cases this
  . rw [q] at this;cases this;rfl
 refine ⟨hk,fun x hx y hy he=>?_,fun id x=>?_,?_⟩
 . rw [ht,List.mem_append,List.mem_singleton] at hx hy
   rcases hx with hx | rfl<;>rcases hy with hy | rfl
   . exact h.one x hx y hy he
   . exact hnew x hx he
   . exact (hnew y hy he.symm).symm
   . rfl
 . rw [Go.Sx.mget_set,ht,List.mem_append,List.mem_singleton]
   by_cases hid:id=l[k].id
   . rw [if_pos hid]
     constructor
     . intro e;cases e;exact ⟨.inr rfl,hid.symm⟩
     . rintro ⟨hx | rfl,he⟩
       . rw [hnew x hx (by omega)]
       . rfl
   . rw [if_neg hid,h.map]
     constructor
     . rintro ⟨a,b⟩;exact ⟨.inl a,b⟩
     . rintro ⟨a | rfl,b⟩
       . exact ⟨a,b⟩
       . exact absurd b.symm hid
 . rw [ht,Zbo,<- h.rows]
   have hm:Go.Sx.mget l[k].id L=none↔l[k].id ∉ (l.take k).map (·.id):=by
    constructor
    . intro e hx
      obtain ⟨x,hx,he⟩:=List.mem_map.1 hx
      have:=(h.map l[k].id x).2 ⟨hx,he⟩
      rw [e] at this;cases this
    . intro hx
      rcases hq:Go.Sx.mget l[k].id L with _ | x
      . rfl
      . have:=(h.map _ _).1 hq
        exact absurd (List.mem_map.2 ⟨x,this.1,this.2⟩) hx
   by_cases hc:Go.Sx.mget l[k].id L=none/\l[k].day<=p.ends
   . rw [if_pos hc,if_neg]
     rintro ((q | q) | q)
     . cases q
     . exact hm.1 hc.1 q
     . omega
   . rw [if_neg hc,if_pos,List.append_nil]
     rcases Classical.em (Go.Sx.mget l[k].id L=none) with q | q
     . right
       rcases Classical.em (l[k].day > p.ends) with g | g
       . exact g
       . exact absurd ⟨q,by omega⟩ hc
     . left;right;exact Classical.byContradiction fun h2=>q (hm.2 h2)
theorem PreR.two {p:Pact} {l:List Letter} {k c:Nat} {L:List (Nat × Int × Letter)} {R:List Letter} (h:PreR p l k L c R) (hk:k < l.length) {y:Letter} (hg:Go.Sx.mget l[k].id L=some y) (hne:y≠l[k]):Zfd l=true:=by
 rw [<- Bool.not_eq_false]
 intro hf
 obtain ⟨h1,h2⟩:=(h.map _ _).1 hg
 exact hne (WP hf y (List.mem_of_mem_take h1) l[k] (List.getElem_mem hk) h2)
theorem PreR.len {p:Pact} {l:List Letter} {k c:Nat} {L:List (Nat × Int × Letter)} {R:List Letter} (h:PreR p l k L c R):R.length<=l.length:=by
 have:∀ {a:List Letter} {seen:List Int},(YO p.ends seen a).length<=a.length:=by
  intro a
  induction a with
  | nil=>intro _;simp [YO]
  | cons x a ih =>
   intro seen
   simp only [YO]
   split
   . have:=@ih (x.id :: seen);simp;omega
   . have:=@ih (x.id :: seen);simp;omega
 rw [h.rows]
 exact Nat.le_trans this (by simp;omega)
theorem Zys (y x:Letter):(y.id == x.id && (y.day == x.day && (y.kind == x.kind && (y.who == x.who && (y.other == x.other && (y.animal == x.animal && (y.rials == x.rials && (y.mouth == x.mouth && true))))))))=decide (y=x):=by
 rw [Bool.eq_iff_iff]
 obtain ⟨a1,a2,a3,a4,a5,a6,a7,a8⟩:=x
 obtain ⟨b1,b2,b3,b4,b5,b6,b7,b8⟩:=y
 simp
def VN (p:Pact) (l:List Letter):List Letter:=if Z2 p l=0 then Yn p l else []
end Go.Azalai
namespace Go.Proofs.Ythilckbkffjliaa
open Go Go.Sx Go.Azalai
theorem Zwq:Try.prog.underlying 114=some (.map 3 50):=by kernel_rfl
theorem u3:Try.prog.underlying 3=some (.int .i64):=by kernel_rfl
theorem W4:KeyT Try.prog 3 (fun n:Int=>.int .i64 n) (fun n=>.v (.int .i64 n)):=Zrm u3
abbrev kI:Int->Value:=fun n=>.int .i64 n
abbrev sI:Int->SV:=fun n=>.v (.int .i64 n)
def ltV (x:Letter):SV:=.agg (Zb x)
theorem u47 {args:List SV} {res:SV} (ka:KFL args) (kr:KF res) (h:sx Try.prog Y0 0 c47 (st0 args 65) (Ztd r47 res)) (hA:Nat.ble args.length 65=true:=by rfl):Ct Try.prog 47 args res:=VX Try.func47 rfl b47 Zzm Zyu n47 (Nat.le_of_ble_eq_true hA) ka kr h
theorem Zra:ZU Try.prog 50=some (.agg #[.int .i64 0,.int .i64 0,.int .u8 0,.int .i64 0,.int .i64 0,.int .i64 0,.int .i64 0,.bool false]):=by kernel_rfl
theorem zl_R:∀ w E n ok,R w E n ok (ltV ⟨0,0,0,0,0,0,0,false⟩) (.agg #[.int .i64 0,.int .i64 0,.int .u8 0,.int .i64 0,.int .i64 0,.int .i64 0,.int .i64 0,.bool false]):=fun w E n ok=>by
 simp only [ltV,Zb,R,RL]
 exact ⟨_,rfl,_,_,rfl,rfl,_,_,rfl,rfl,_,_,rfl,rfl,_,_,rfl,rfl,_,_,rfl,rfl,_,_,rfl,rfl,_,_,rfl,rfl,_,_,rfl,rfl,rfl⟩
theorem ZeO (p:Pact) (x:Letter) (hs:Yr p) (hp:ZH p=true):Ct Try.prog 65 [.agg (Zb x),.ps (Zj p) 0] (B (!Zh p x)):=by
 refine t65.1 (by simp [Zj,Za,Zb,Zc,KFL,KF]) (by simp [KFL,KF]) ?_
 dsimp only [c65,r65,Zj,Zb,go_sem,rA,rM,rS]
 refine call (ZnN p x hs hp) ?_
 dsimp only [go_sem,rA,rM,rS]
theorem ZuF (p:Pact) (l:List Letter) (hs:Yr p) (hl:l.length<=1000) (c:Bool):Ct Try.prog 47 [.agg (Zj p),.sl c 8 (l.map Zb)] (.tup [.sl false 8 ((VN p l).map Zb),I (Z2 p l)]):=by
 refine u47 (by simp [Zj,Za,Zb,Zc,KFL,KF]) (by simp [Zb,Zc,KFL,KF]) ?_
 have hs':p.partners.length<=1000:=hs
 have herr:∀ e,Z2 p l=e->e≠0->ZaT (.tup [.v (.slice none 0 0),I e]) (.tup [.sl false 8 ((VN p l).map Zb),I (Z2 p l)]):=fun e h1 h2=>by
  rw [VN,h1,if_neg h2]
  exact ZbQ (Y5 VA fun _ _ _ _ _ h=>h)
 dsimp only [c47,r47,Zj,go_sem,rA,rM,rS]
 refine call (Zd6 p hs) ?_
 dsimp only [go_sem,rA,rM,rS]
 by_cases hp:ZH p=true
 case neg =>
  refine ZK (by simp [ZfF,hp]) ?_
  dsimp only [go_sem,rA,rM,rS]
  refine ⟨_,rfl,?_⟩
  rw [show ZfF p=80 from by simp [ZfF,hp]]
  exact herr 80 (by simp [Z2,hp]) (by omega)
 refine Zz (by simp [ZfF,hp]) ?_
 dsimp only [go_sem,rA,rM,rS]
 simp only [List.length_map]
 by_cases h100:l.length > 100
 . refine ZK (by simp;omega) ?_
   dsimp only [go_sem,rA,rM,rS]
   refine ⟨_,rfl,?_⟩
   exact herr 4 (by simp [Z2,hp,h100]) (by omega)
 refine Zz (by simp;omega) ?_
 dsimp only [go_sem,rA,rM,rS]
 refine UD (by simp [FLT]) (res:=B (l.any fun x=>!Zh p x)) ?_ ?_
 . dsimp only [go_sem,rA,rM,rS]
   exact Zyc 65 [.ps (Zj p) 0] (by simp [KFL,KF,Zc,Zj,Za]) (fun x=>!Zh p x) l (fun x _=>ZeO p x hs hp) (by omega)
 dsimp only [go_sem,rA,rM,rS]
 have hany:(l.any fun x=>!Zh p x) = !l.all (Zh p):=by simp [List.all_eq_not_any_not]
 by_cases hall:l.all (Zh p)=true
 case neg =>
  refine ZK (by rw [hany];simpa using hall) ?_
  dsimp only [go_sem,rA,rM,rS]
  refine ⟨_,rfl,?_⟩
  rw [Bool.not_eq_true] at hall
  exact herr 81 (by simp only [Z2,hp,hall];simp [h100]) (by omega)
 refine Zz (by rw [hany,hall];rfl) ?_
 dsimp only [go_sem,rA,rM,rS]
 refine Y6 rfl rfl rfl ?_
 dsimp only [go_sem,rA,rM,rS]
 simp only [List.length_map]
 refine Zg3 (Xv 8 8 50 rfl rfl) (fun s:Nat × List (Nat × Int × Letter) × Nat × Nat × List Letter=>[(27,I s.1),(8,.mr 2 s.2.2.2.1)]) (fun s=>[(1,.map (mpS kI ltV s.2.1) s.2.2.1),(2,.row s.2.2.2.1 8 (s.2.2.2.2.map Zb) 50)]) (fun s=>PreR p l s.1 s.2.1 s.2.2.1 s.2.2.2.2) (fun s=>l.length - s.1) (0,[],0,0,[]) (.start p l) ?_ ?_
 . (refine Zl ?_ ?_ ?_ rfl rfl<;>dsimp only [Zb,ltV,Zj,Za,mpS,id,go_sem,rA,rM,rS]<;>simp [Zb,ltV,Zj,Za,mpS,Zc,Ze,KFR,KFL,KF,Zd,mtO,nbr])
 rintro ⟨k,L,cl,v,R⟩ hI
 simp only at hI
 have hle:=hI.le
 dsimp only [go_sem,rA,rM,rS]
 by_cases hlt:k < l.length
 . refine ZK (by simpa using hlt) ?_
   dsimp only [go_sem,rA,rM,rS]
   refine ZF k hlt rfl ?_
   dsimp only [Zb,go_sem,rA,rM,rS]
   refine YF (key:=kI) (val:=ltV) (sv:=sI) (L:=L) (k:=l[k].id) (zs:=ltV ⟨0,0,0,0,0,0,0,false⟩) rfl rfl Zwq W4 rfl Zra zl_R ?_ ?_
   . intro y hg
     dsimp only [ltV,Zb,go_sem,rA,rM,rS]
     repeat (refine gb ?_;dsimp only [go_sem,rA,rM,rS])
     by_cases hy:y=l[k]
     case neg =>
      refine ZK ?_ ?_
      . rw [Zys];simp [hy]
      dsimp only [go_sem,rA,rM,rS]
      refine ⟨_,rfl,?_⟩
      have h2:=hI.two hlt hg hy
      exact herr 82 (by simp only [Z2,hp,hall,h2];simp [h100]) (by omega)
     subst hy
     refine Zz (by simp) ?_
     dsimp only [go_sem,rA,rM,rS]
     refine Yd (key:=kI) (val:=ltV) (sv:=sI) (L:=L) (k:=l[k].id) (v:=l[k]) (ins:=false) rfl rfl Zwq W4 rfl rfl (fun _ _ _ e=>by cases e) ?_
     dsimp only [go_sem,rA,rM,rS]
     repeat (refine gb ?_;dsimp only [go_sem,rA,rM,rS])
     refine Zz (by simp) ?_
     dsimp only [go_sem,rA,rM,rS]
     rw [Zi (n:=(k:Int)+1) (by omega) (by omega)]
     have hst:=hI.step hlt (.inr hg)
     rw [if_neg (by rw [hg];simp)] at hst
     refine ⟨(k+1,mset cl l[k].id l[k] L,mclk cl l[k].id L,v,R),hst,by simp only;omega,?_⟩
     (refine Zl ?_ ?_ ?_ rfl rfl<;>dsimp only [Zb,ltV,Zj,Za,Zg,id,go_sem,rA,rM,rS]<;>simp [Zb,ltV,Zj,Za,Zg,Zc,Ze,KFR,KFL,KF,Zd,mtO,nbr])
   . intro hg
     dsimp only [ltV,Zb,go_sem,rA,rM,rS]
     repeat (refine gb ?_;dsimp only [go_sem,rA,rM,rS])
     refine Zz (by simp) ?_
     dsimp only [go_sem,rA,rM,rS]
     refine Yd (key:=kI) (val:=ltV) (sv:=sI) (L:=L) (k:=l[k].id) (v:=l[k]) (ins:=false) rfl rfl Zwq W4 rfl rfl (fun _ _ _ e=>by cases e) ?_
     dsimp only [go_sem,rA,rM,rS]
     repeat (refine gb ?_;dsimp only [go_sem,rA,rM,rS])
     have hst:=hI.step hlt (.inl hg)
     by_cases hd:l[k].day<=p.ends
     . refine ZK (by simpa using hd) ?_
       dsimp only [go_sem,rA,rM,rS]
       have hRl:=hI.len
       (repeat first | dsimp only [go_sem,rA,rM,rS] | simp only [nbr])
       refine ⟨by simp [Z9,VS,Zdf],by simp;omega,?_⟩
       (repeat first | dsimp only [go_sem,rA,rM,rS] | simp only [nbr])
       rw [Zi (n:=(k:Int)+1) (by omega) (by omega)]
       rw [if_pos ⟨hg,hd⟩] at hst
       refine ⟨(k+1,mset cl l[k].id l[k] L,mclk cl l[k].id L,v+1,R ++ [l[k]]),hst,by simp only;omega,?_⟩
       (refine Zl ?_ ?_ ?_ rfl rfl<;>dsimp only [Zb,ltV,Zj,Za,Zg,id,go_sem,rA,rM,rS]<;>simp [Zb,ltV,Zj,Za,Zg,Zc,Ze,KFR,KFL,KF,Zd,mtO,nbr])
     . refine Zz (by simpa using hd) ?_
       dsimp only [go_sem,rA,rM,rS]
       rw [Zi (n:=(k:Int)+1) (by omega) (by omega)]
       rw [if_neg (by intro q;exact hd q.2)] at hst
       refine ⟨(k+1,mset cl l[k].id l[k] L,mclk cl l[k].id L,v,R),hst,by simp only;omega,?_⟩
       (refine Zl ?_ ?_ ?_ rfl rfl<;>dsimp only [Zb,ltV,Zj,Za,Zg,id,go_sem,rA,rM,rS]<;>simp [Zb,ltV,Zj,Za,Zg,Zc,Ze,KFR,KFL,KF,Zd,mtO,nbr])
 refine Zz (by simpa using hlt) ?_
 dsimp only [go_sem,rA,rM,rS]
 refine gh (ZbW 8 2 v rfl rfl rfl rfl) ?_
 dsimp only [go_sem,rA,rM,rS]
 have hkl:k=l.length:=by omega
 have hone:=hI.one
 have hrows:=hI.rows
 rw [hkl,List.take_length] at hone hrows
 have h2:Zfd l=false:=Zb5 hone
 have he:Z2 p l=0:=by simp only [Z2,hp,hall,h2];simp [h100]
 have hRl:=hI.len
 have hsm:Zcu R:=fun x hx=>by
  rw [hrows] at hx
  have:=List.all_eq_true.1 hall x (Xy hx).1
  simp only [Zh,Bool.and_eq_true,inR,decide_eq_true_eq] at this
  exact this.1.1
 refine call (Zzu R hsm (by rw [hrows];exact XF) (by omega) false) ?_
 dsimp only [go_sem,rA,rM,rS]
 refine ⟨_,rfl,?_⟩
 rw [VN,he,if_pos rfl,Yn,<- hrows]
 exact ZaT.rfl
end Go.Proofs.Ythilckbkffjliaa
namespace Go.Azalai
open Go.Sx
structure Bks where
 loans:List (Nat × Int × (Int × Int))
 cl:Nat
 dead:List (Nat × Int × Bool)
 cd:Nat
 known:List (Nat × Int × Bool)
 ck:Nat
 debts:List (Nat × (Int × Int) × Int)
 cb:Nat
 extra:List (Nat × Int × Int)
 ce:Nat
 result:Int
def Zdg:Bks:=⟨[],0,[],0,[],0,[],0,[],0,0⟩
structure BkR (n:Nat) (c:Co) (b:Bks):Prop where
 lo:∀ a,mget a b.loans=c.loans a
 de:∀ a,(mget a b.dead).getD false=c.dead a
 kn:∀ a,(mget a b.known).getD false=c.known a
 db:∀ x y,(mget (x,y) b.debts).getD 0=c.debts x y
 ex:∀ i,(mget i b.extra).getD 0=c.extra i
 re:b.result=c.result
 w1:MW b.loans b.cl
 w2:MW b.dead b.cd
 w3:MW b.known b.ck
 w4:MW b.debts b.cb
 w5:MW b.extra b.ce
 sb:∀ a l,c.loans a=some l->0<=l.2/\l.2<=100000
 rb:-(n * 100000000:Int)<=c.result/\c.result<=n * 100000000
 eb:∀ i,-(n * 100000000:Int)<=c.extra i/\c.extra i<=n * 100000000
 bb:∀ x y,-(n * 100000000:Int)<=c.debts x y/\c.debts x y<=n * 100000000
 ln:b.loans.length<=n
 dn:b.debts.length<=n
theorem BkR.start:BkR 0 co0 Zdg:=by
 constructor
 case w1=>exact MW.nil
 case w2=>exact MW.nil
 case w3=>exact MW.nil
 case w4=>exact MW.nil
 case w5=>exact MW.nil
 all_goals (try intros);simp_all [co0,Zdg,mget]
theorem BkR.next {n:Nat} {c:Co} {b:Bks} (h:BkR n c b):BkR (n+1) c b :=
 ⟨h.lo,h.de,h.kn,h.db,h.ex,h.re,h.w1,h.w2,h.w3,h.w4,h.w5,h.sb,by have:=h.rb;omega,fun i=>by have:=h.eb i;omega,fun x y=>by have:=h.bb x y;omega,by have:=h.ln;omega,by have:=h.dn;omega⟩
theorem BkR.res {n:Nat} {c:Co} {b:Bks} (h:BkR n c b) {v:Int} (hv:-100000000<=v - c.result/\v - c.result<=100000000):BkR (n+1) { c with result:=v } { b with result:=v } :=
 ⟨h.lo,h.de,h.kn,h.db,h.ex,rfl,h.w1,h.w2,h.w3,h.w4,h.w5,h.sb,by have:=h.rb;simp only;omega,fun i=>by have:=h.eb i;simp only;omega,fun x y=>by have:=h.bb x y;simp only;omega,by have:=h.ln;simp only;omega,by have:=h.dn;simp only;omega⟩
theorem ZbX {V:Type} {L:List (Nat × Int × V)} {f:Int->V} {d v:V} {k:Int} {c:Nat} (h:∀ i,(mget i L).getD d=f i) (i:Int):(mget i (mset c k v L)).getD d=upd f k v i:=by
 rw [mget_set,upd]
 by_cases q:i=k
 . rw [if_pos q,if_pos q];rfl
 . rw [if_neg q,if_neg q,h]
theorem ZbP {h t:Int} (h0:0<=h) (h1:h<=1000) (t0:-100000<=t) (t1:t<=100000):-100000000<=h * t/\h * t<=100000000:=by
 have q1:h * t<=h * 100000:=Int.mul_le_mul_of_nonneg_left t1 h0
 have q2:h * -100000<=h * t:=Int.mul_le_mul_of_nonneg_left t0 h0
 omega
def Y8 (p:Pact) (c:Co) (b:Bks) (a d:Int) (l:Int × Int):Bks :=
 { b with loans:=V8 a b.loans,extra:=mset b.ce l.1 (c.extra l.1+p.hire * (d - l.2)) b.extra,ce:=mclk b.ce l.1 b.extra,result:=c.result - p.hire * (d - l.2) }
theorem BkR.home {p:Pact} {n:Nat} {c:Co} {b:Bks} (h:BkR n c b) (hp:0<=p.hire/\p.hire<=1000) {a d:Int} {l:Int × Int} (hl:c.loans a=some l) (hd:0<=d/\d<=100000):BkR (n+1) (ZE p c a d l) (Y8 p c b a d l):=by
 have hs:=h.sb a l hl
 have hb:=ZbP (h:=p.hire) (t:=d - l.2) hp.1 hp.2 (by omega) (by omega)
 refine ⟨fun i=>?_,h.de,h.kn,h.db,fun i=>ZbX h.ex i,rfl,h.w1.del,h.w2,h.w3,h.w4,h.w5.set _,fun i m hi=>?_,?_,fun i=>?_,fun x y=>?_,?_,by have:=h.dn;simp only [Y8];omega⟩
 . simp only [Y8,ZE,upd]
   rw [Zec h.w1.kn,h.lo]
 . simp only [ZE,upd] at hi
   split at hi
   . cases hi
   . exact h.sb i m hi
 . have:=h.rb
   simp only [ZE];omega
 . have h1:=h.eb i
   have h2:=h.eb l.1
   simp only [ZE,upd]
   split<;>omega
 . have:=h.bb x y
   simp only [ZE];omega
 . have:=h.ln
   have h2:(V8 a b.loans).length<=b.loans.length:=(VH).length_le
   simp only [Y8];omega
theorem BkR.lent {n:Nat} {c:Co} {b:Bks} (h:BkR n c b) {a who d:Int} (hd:0<=d/\d<=100000):BkR (n+1) { c with loans:=upd c.loans a (some (who,d)) } { b with loans:=mset b.cl a (who,d) b.loans,cl:=mclk b.cl a b.loans }:=by
 refine ⟨fun i=>?_,h.de,h.kn,h.db,h.ex,h.re,h.w1.set _,h.w2,h.w3,h.w4,h.w5,fun i m hi=>?_,by have:=h.rb;simp only;omega,fun i=>by have:=h.eb i;simp only;omega,fun x y=>by have:=h.bb x y;simp only;omega,?_,by have:=h.dn;simp only;omega⟩
 . simp only [upd]
   rw [mget_set,h.lo]
 . simp only [upd] at hi
   split at hi
   . cases hi;exact hd
   . exact h.sb i m hi
 . have h1:=h.ln
   have h2:∀ {L:List (Nat × Int × (Int × Int))} {c:Nat} {k:Int} {v:Int × Int},(mset c k v L).length<=L.length+1:=by
    intro L
    induction L with
    | nil=>intro c k v;simp [mset]
    | cons e l ih =>
     intro c k v
     simp only [mset]
     split
     . simp
     . have:=@ih c k v;simp;omega
   have:=@h2 b.loans b.cl a (who,d)
   simp only;omega
theorem BkR.kill {n:Nat} {c:Co} {b:Bks} (h:BkR n c b) {a:Int}:BkR n { c with dead:=upd c.dead a true } { b with dead:=mset b.cd a true b.dead,cd:=mclk b.cd a b.dead } :=
 ⟨h.lo,fun i=>ZbX h.de i,h.kn,h.db,h.ex,h.re,h.w1,h.w2.set _,h.w3,h.w4,h.w5,h.sb,h.rb,h.eb,h.bb,h.ln,h.dn⟩
theorem BkR.calf {n:Nat} {c:Co} {b:Bks} (h:BkR n c b) {who other v r:Int} (hv:-100000000<=v - c.extra who/\v - c.extra who<=100000000) (hr:-100000000<=r - c.result/\r - c.result<=100000000) :
 BkR (n+1) { c with extra:=upd c.extra who v,result:=r,known:=upd c.known other true } { b with extra:=mset b.ce who v b.extra,ce:=mclk b.ce who b.extra,result:=r,known:=mset b.ck other true b.known,ck:=mclk b.ck other b.known }:=by
 refine ⟨h.lo,h.de,fun i=>ZbX h.kn i,h.db,fun i=>ZbX h.ex i,rfl,h.w1,h.w2,h.w3.set _,h.w4,h.w5.set _,h.sb,by have:=h.rb;simp only;omega,fun i=>?_,fun x y=>by have:=h.bb x y;simp only;omega,by have:=h.ln;simp only;omega,by have:=h.dn;simp only;omega⟩
 have h1:=h.eb i
 have h2:=h.eb who
 simp only [upd]
 split<;>omega
theorem ZeE {K V:Type} [DecidableEq K] {k:K} {v:V} {c:Nat}:∀ {L:List (Nat × K × V)},(mset c k v L).length<=L.length+1
 | []=>by simp [mset]
 | e :: l=>by
  simp only [mset]
  split
  . simp
  . have:=ZeE (k:=k) (v:=v) (c:=c) (L:=l);simp;omega
theorem BkR.debt {n:Nat} {c:Co} {b:Bks} (h:BkR n c b) {who other v:Int} (hv:-100000000<=v - c.debts who other/\v - c.debts who other<=100000000) :
 BkR (n+1) { c with debts:=upd c.debts who (upd (c.debts who) other v) } { b with debts:=mset b.cb (who,other) v b.debts,cb:=mclk b.cb (who,other) b.debts }:=by
 refine ⟨h.lo,h.de,h.kn,fun x y=>?_,h.ex,h.re,h.w1,h.w2,h.w3,h.w4.set _,h.w5,h.sb,by have:=h.rb;simp only;omega,fun i=>by have:=h.eb i;simp only;omega,fun x y=>?_,by have:=h.ln;simp only;omega,by have:=h.dn;have q:=ZeE (L:=b.debts) (c:=b.cb) (k:=(who,other)) (v:=v);simp only;omega⟩
 . simp only
   rw [mget_set]
   by_cases hx:x=who
   . subst hx
     by_cases hy:y=other
     . subst hy;simp [upd]
     . rw [if_neg (by simp [hy]),h.db];simp [upd,hy]
   . rw [if_neg (by simp [hx]),h.db];simp [upd,hx]
 . have h1:=h.bb x y
   have h2:=h.bb who other
   simp only [upd]
   by_cases hx:x=who
   . subst hx
     rw [if_pos rfl]
     simp only [upd]
     split
     . rename_i q;subst q;omega
     . omega
   . rw [if_neg hx];omega
end Go.Azalai
namespace Go.Proofs.Ythilckbkffjliaa
open Go Go.Sx Go.Azalai
theorem u99:Try.prog.underlying 99=some (.map 3 150):=by kernel_rfl
theorem u71:Try.prog.underlying 71=some (.map 3 4):=by kernel_rfl
theorem Zwo:Try.prog.underlying 101=some (.map 3 3):=by kernel_rfl
theorem Zs4:Try.prog.underlying 100=some (.map 105 3):=by kernel_rfl
theorem Zak:KeyT Try.prog 105 (fun n:Int × Int=>.agg #[.int .i64 n.1,.int .i64 n.2]) (fun n=>.agg [.v (.int .i64 n.1),.v (.int .i64 n.2)]):=key64 (by kernel_rfl) u3 (by kernel_rfl) (by kernel_rfl) (by kernel_rfl) (by kernel_rfl)
abbrev kP:Int × Int->Value:=fun n=>.agg #[.int .i64 n.1,.int .i64 n.2]
abbrev sP:Int × Int->SV:=fun n=>.agg [.v (.int .i64 n.1),.v (.int .i64 n.2)]
def Zq (l:Int × Int):SV:=.agg [I l.1,I l.2]
def ZD (n:Int):SV:=I n
def ZL (b:Bool):SV:=B b
def bH (p:Pact) (b:Bks):List (Nat × HB):=[(0,.map (mpS kI Zq b.loans) b.cl),(1,.map (mpS kI ZL b.dead) b.cd),(2,.map (mpS kI ZL b.known) b.ck),(3,.map (mpS kP ZD b.debts) b.cb),(4,.map (mpS kI ZD b.extra) b.ce),
 (5,.cells [.sl false 3 (p.partners.map Za),I p.calf,I p.hire,I p.ends,.mp 0,.mp 1,.mp 2,.mp 3,.mp 4,I b.result] 103)]
def Ya (p:Pact) (b:Bks):Ot:=⟨false,.tup [],bH p b,6⟩
def Z6 (w:Int) (p:Pact) (b:Bks):Ot:=⟨true,.ifc 145 (U8 w),bH p b,6⟩
theorem XE (p:Pact) (b:Bks):KXP (bH p b):=by
 simp [bH,KXP,KXH,KXL,KX,Zg,Zc,Zq,ZD,ZL,KF,KFL,Za]
theorem Zar:ZU Try.prog 150=some (.agg #[.int .i64 0,.int .i64 0]):=by kernel_rfl
theorem Zxa:∀ w E n ok,R w E n ok (Zq (0,0)) (.agg #[.int .i64 0,.int .i64 0]):=fun w E n ok=>by
 simp only [Zq,R,RL];exact ⟨_,rfl,_,_,rfl,rfl,_,_,rfl,rfl,rfl⟩
theorem Za4:ZU Try.prog 3=some (.int .i64 0):=by kernel_rfl
theorem Zk2:∀ w E n ok,R w E n ok (ZD 0) (.int .i64 0):=fun w E n ok=>by simp only [ZD,R]
theorem ZcC:ZU Try.prog 4=some (.bool false):=by kernel_rfl
theorem Zqz:∀ w E n ok,R w E n ok (ZL false) (.bool false):=fun w E n ok=>by simp only [ZL,R]
theorem ZeT:ZcS Try.prog 145=true:=by kernel_rfl
theorem Yb (w:Int):CtM Try.prog 111 [] 0 [B false,U8 w] (fun o=>o=⟨false,.tup [],[],0⟩):=by
 refine m111 (by simp [hpb]) (fun o ho=>by subst ho;simp [KX,KXL,KXP]) ?_
 dsimp only [ZzU,ZzO,go_sem,rA,rM,rS]
 refine Zz rfl ?_
 dsimp only [go_sem,rA,rM,rS]
 refine ⟨_,rfl,?_⟩
 (refine Zm ?_ ?_ ?_ rfl<;>dsimp only [id,go_sem,rA,rM,rS]<;>simp [Zc,Ze,KFR,KFL,KF,Zd,mtO,nbr])
theorem Xq (w:Int):CtM Try.prog 111 [] 0 [B true,U8 w] (fun o=>o=⟨true,.ifc 145 (U8 w),[],0⟩):=by
 refine m111 (by simp [hpb]) (fun o ho=>by subst ho;simp [KX,KXL,KXP]) ?_
 dsimp only [ZzU,ZzO,go_sem,rA,rM,rS]
 refine ZK rfl ?_
 dsimp only [go_sem,rA,rM,rS]
 refine Zjh (s:=U8 w) ZeT rfl (fun _ _ _ e=>by cases e) ?_
 dsimp only [go_sem,rA,rM,rS]
 refine Zkg rfl ?_
 dsimp only [go_sem,rA,rM,rS]
 refine ⟨_,rfl,?_⟩
 (refine Zm ?_ ?_ ?_ rfl<;>dsimp only [id,go_sem,rA,rM,rS]<;>simp [Zc,Ze,KFR,KFL,KF,Zd,mtO,nbr])
theorem Ztu {p:Pact} {n:Nat} {c:Co} {b:Bks} (h:BkR n c b) (hn:n<=1000) (x:Letter) (hx:inR 0 10000000 x.rials=true) :
 CtM Try.prog 95 (bH p b) 6 [.p 5 0,.agg (Zb x)] (fun o=>∃ b',BkR (n+1) { c with result:=c.result+x.rials } b'/\o=Ya p b'):=by
 refine m95 (by simp [hpb,bH]) (fun o ho=>by obtain ⟨b',-,rfl⟩:=ho;exact ⟨by simp [Ya,KX,KXL],XE p b'⟩) ?_
 simp only [inR,decide_eq_true_eq] at hx
 have hr:=h.rb
 have hre:=h.re
 dsimp only [c95,r95,bH,Zb,go_sem,rA,rM,rS]
 rw [hre,Zi (n:=c.result+x.rials) (by omega) (by omega)]
 refine ⟨_,⟨_,h.res (v:=c.result+x.rials) (by omega),rfl⟩,?_⟩
 try simp only [Ya,bH]
 (refine Zm ?_ ?_ ?_ rfl<;>dsimp only [Zg,Zq,ZD,ZL,Za,id,go_sem,rA,rM,rS]<;>simp [Zg,Zq,ZD,ZL,Za,Zc,Ze,KFR,KFL,KF,Zd,mtO,nbr])
theorem Zn8 {p:Pact} {n:Nat} {c:Co} {b:Bks} (h:BkR n c b) (hn:n<=1000) (x:Letter) (hx:inR 0 10000000 x.rials=true) :
 CtM Try.prog 96 (bH p b) 6 [.p 5 0,.agg (Zb x)] (fun o=>∃ b',BkR (n+1) { c with result:=c.result - x.rials } b'/\o=Ya p b'):=by
 refine m96 (by simp [hpb,bH]) (fun o ho=>by obtain ⟨b',-,rfl⟩:=ho;exact ⟨by simp [Ya,KX,KXL],XE p b'⟩) ?_
 simp only [inR,decide_eq_true_eq] at hx
 have hr:=h.rb
 have hre:=h.re
 dsimp only [c96,r96,bH,Zb,go_sem,rA,rM,rS]
 rw [hre,Zi (n:=c.result - x.rials) (by omega) (by omega)]
 refine ⟨_,⟨_,h.res (v:=c.result - x.rials) (by omega),rfl⟩,?_⟩
 try simp only [Ya,bH]
 (refine Zm ?_ ?_ ?_ rfl<;>dsimp only [Zg,Zq,ZD,ZL,Za,id,go_sem,rA,rM,rS]<;>simp [Zg,Zq,ZD,ZL,Za,Zc,Ze,KFR,KFL,KF,Zd,mtO,nbr])
theorem ZsN {p:Pact} {n:Nat} {c:Co} {b:Bks} (h:BkR n c b) (a:Int) (hl:c.loans a=none):CtM Try.prog 112 (bH p b) 6 [.p 5 0,I a] (fun o=>o=Z6 3 p b):=by
 refine m112 (by simp [hpb,bH]) (fun o ho=>by subst ho;exact ⟨by simp [Z6,KX],XE p b⟩) ?_
 dsimp only [Zz8,ZzJ,bH,go_sem,rA,rM,rS]
 refine YF (key:=kI) (val:=Zq) (sv:=sI) (L:=b.loans) (k:=a) (zs:=Zq (0,0)) rfl rfl u99 W4 rfl Zar Zxa (fun v hg=>?_) (fun hg=>?_)
 . rw [h.lo,hl] at hg;cases hg
 dsimp only [Zq,go_sem,rA,rM,rS]
 refine Zp [] (Xq 3) rfl rfl rfl ?_ ?_ ?_
 . (repeat first | dsimp only [go_sem,rA,rM,rS] | simp only [nbr])
   try simp [mtL,mtB,mtS]
 . trivial
 rintro _ rfl
 (repeat first | dsimp only [go_sem,rA,rM,rS] | simp only [nbr])
 refine ⟨_,rfl,?_⟩
 try simp only [Z6,bH]
 (refine Zm ?_ ?_ ?_ rfl<;>dsimp only [Zg,Zq,ZD,ZL,Za,id,go_sem,rA,rM,rS]<;>simp [Zg,Zq,ZD,ZL,Za,Zc,Ze,KFR,KFL,KF,Zd,mtO,nbr])
theorem ZjP {p:Pact} {n:Nat} {c:Co} {b:Bks} (h:BkR n c b) (a:Int) {l:Int × Int} (hl:c.loans a=some l):CtM Try.prog 112 (bH p b) 6 [.p 5 0,I a] (fun o=>o=⟨false,Zq l,bH p b,6⟩):=by
 refine m112 (by simp [hpb,bH]) (fun o ho=>by subst ho;exact ⟨by simp [Zq,KX,KXL],XE p b⟩) ?_
 dsimp only [Zz8,ZzJ,bH,go_sem,rA,rM,rS]
 refine YF (key:=kI) (val:=Zq) (sv:=sI) (L:=b.loans) (k:=a) (zs:=Zq (0,0)) rfl rfl u99 W4 rfl Zar Zxa (fun v hg=>?_) (fun hg=>?_)
 . rw [h.lo,hl] at hg;cases hg
   dsimp only [Zq,go_sem,rA,rM,rS]
   refine Zp [] (Yb 3) rfl rfl rfl ?_ ?_ ?_
   . (repeat first | dsimp only [go_sem,rA,rM,rS] | simp only [nbr])
     try simp [mtL,mtB,mtS]
   . trivial
   rintro _ rfl
   (repeat first | dsimp only [go_sem,rA,rM,rS] | simp only [nbr])
   refine ⟨_,rfl,?_⟩
   try simp only [bH]
   (refine Zm ?_ ?_ ?_ rfl<;>dsimp only [Zg,Zq,ZD,ZL,Za,id,go_sem,rA,rM,rS]<;>simp [Zg,Zq,ZD,ZL,Za,Zc,Ze,KFR,KFL,KF,Zd,mtO,nbr])
 . rw [h.lo,hl] at hg;cases hg
theorem ZdF {p:Pact} {n:Nat} {c:Co} {b:Bks} (h:BkR n c b) (a d:Int) (hl:c.loans a=none):CtM Try.prog 107 (bH p b) 6 [.p 5 0,I a,I d] (fun o=>o=Z6 3 p b):=by
 refine m107 (by simp [hpb,bH]) (fun o ho=>by subst ho;exact ⟨by simp [Z6,KX],XE p b⟩) ?_
 dsimp only [ZzZ,Zz7,bH,go_sem,rA,rM,rS]
 refine Zp [0,1,2,3,4,5] (ZsN (p:=p) h a hl) rfl rfl rfl ?_ ?_ ?_
 . (repeat first | dsimp only [bH,go_sem,rA,rM,rS] | simp only [nbr])
   try simp [mtL,mtB,mtS]
 . (repeat first | dsimp only [bH,go_sem,rA,rM,rS] | simp only [nbr])
   try simp [Zg,Zq,ZD,ZL,Za,Zc,KFL,KF]
 rintro _ rfl
 (repeat first | dsimp only [Z6,bH,go_sem,rA,rM,rS] | simp only [nbr])
 refine ⟨_,rfl,?_⟩
 try simp only [Z6,bH]
 (refine Zm ?_ ?_ ?_ rfl<;>dsimp only [Zg,Zq,ZD,ZL,Za,id,go_sem,rA,rM,rS]<;>simp [Zg,Zq,ZD,ZL,Za,Zc,Ze,KFR,KFL,KF,Zd,mtO,nbr])
theorem Zcb {p:Pact} {n:Nat} {c:Co} {b:Bks} (h:BkR n c b) (hn:n<=1000) (hp:0<=p.hire/\p.hire<=1000) (a d:Int) (hd:0<=d/\d<=100000) {l:Int × Int} (hl:c.loans a=some l) :
 CtM Try.prog 107 (bH p b) 6 [.p 5 0,I a,I d] (fun o=>o=Ya p (Y8 p c b a d l)):=by
 refine m107 (by simp [hpb,bH]) (fun o ho=>by subst ho;exact ⟨by simp [Ya,KX,KXL],XE p _⟩) ?_
 have hs:=h.sb a l hl
 have hb:=ZbP (h:=p.hire) (t:=d - l.2) hp.1 hp.2 (by omega) (by omega)
 have hr:=h.rb
 have he:=h.eb l.1
 have hre:=h.re
 dsimp only [ZzZ,Zz7,bH,go_sem,rA,rM,rS]
 refine Zp [0,1,2,3,4,5] (ZjP (p:=p) h a hl) rfl rfl rfl ?_ ?_ ?_
 . (repeat first | dsimp only [bH,go_sem,rA,rM,rS] | simp only [nbr])
   try simp [mtL,mtB,mtS]
 . (repeat first | dsimp only [bH,go_sem,rA,rM,rS] | simp only [nbr])
   try simp [Zg,Zq,ZD,ZL,Za,Zc,KFL,KF]
 rintro _ rfl
 (repeat first | dsimp only [Zq,bH,go_sem,rA,rM,rS] | simp only [nbr])
 rw [Zi (n:=d - l.2) (by omega) (by omega),Zi (n:=p.hire * (d - l.2)) (by omega) (by omega),hre,Zi (n:=c.result - p.hire * (d - l.2)) (by omega) (by omega)]
 have hrv:=fun σ h1 h2 h3=>Uq (P:=Try.prog) (t:=101) (σ:=σ) (i:=32) (j:=34) (ok:=false) (km:=4) (c:=b.ce) (key:=kI) (val:=ZD) (sv:=sI) (L:=b.extra) (k:=l.1) (zs:=ZD 0) h1 h2 h3 Zwo W4 Za4 Zk2
 refine ⟨_,hrv _ rfl rfl rfl,?_⟩
 rw [show lkS false ZD (ZD 0) (mget l.1 b.extra)=ZD (c.extra l.1) from by rw [<- h.ex];cases mget l.1 b.extra<;>rfl]
 dsimp only [ZD,go_sem,rA,rM,rS]
 rw [Zi (n:=c.extra l.1+p.hire * (d - l.2)) (by omega) (by omega)]
 refine Yd (key:=kI) (val:=ZD) (sv:=sI) (L:=b.extra) (k:=l.1) (v:=c.extra l.1+p.hire * (d - l.2)) (ins:=false) rfl rfl Zwo W4 rfl rfl (fun _ _ _ e=>by cases e) ?_
 dsimp only [go_sem,rA,rM,rS]
 refine ZsS (key:=kI) (val:=Zq) (sv:=sI) (L:=b.loans) (k:=a) rfl rfl u99 W4 rfl rfl ?_
 dsimp only [go_sem,rA,rM,rS]
 refine ⟨_,rfl,?_⟩
 try simp only [Ya,bH,Y8]
 (refine Zm ?_ ?_ ?_ rfl<;>dsimp only [Zg,Zq,ZD,ZL,Za,id,go_sem,rA,rM,rS]<;>simp [Zg,Zq,ZD,ZL,Za,Zc,Ze,KFR,KFL,KF,Zd,mtO,nbr])
theorem Ztm {p:Pact} {n:Nat} {c:Co} {b:Bks} (h:BkR n c b) (x:Letter) (hl:c.loans x.animal=none) :
 CtM Try.prog 100 (bH p b) 6 [.p 5 0,.agg (Zb x)] (fun o=>o=Z6 3 p b):=by
 refine m100 (by simp [hpb,bH]) (fun o ho=>by subst ho;exact ⟨by simp [Z6,KX],XE p b⟩) ?_
 dsimp only [Zz1,ZzM,bH,Zb,go_sem,rA,rM,rS]
 refine Zp [0,1,2,3,4,5] (ZdF (p:=p) h x.animal x.day hl) rfl rfl rfl ?_ ?_ ?_
 . (repeat first | dsimp only [bH,go_sem,rA,rM,rS] | simp only [nbr])
   try simp [mtL,mtB,mtS]
 . (repeat first | dsimp only [bH,go_sem,rA,rM,rS] | simp only [nbr])
   try simp [Zg,Zq,ZD,ZL,Za,Zc,KFL,KF]
 rintro _ rfl
 (repeat first | dsimp only [Z6,bH,go_sem,rA,rM,rS] | simp only [nbr])
 refine ⟨_,rfl,?_⟩
 try simp only [Ya,Z6,bH,Y8]
 (refine Zm ?_ ?_ ?_ rfl<;>dsimp only [Zg,Zq,ZD,ZL,Za,id,go_sem,rA,rM,rS]<;>simp [Zg,Zq,ZD,ZL,Za,Zc,Ze,KFR,KFL,KF,Zd,mtO,nbr])
theorem Zmn {p:Pact} {n:Nat} {c:Co} {b:Bks} (h:BkR n c b) (hn:n<=1000) (hp:0<=p.hire/\p.hire<=1000) (x:Letter) (hd:0<=x.day/\x.day<=100000) {l:Int × Int} (hl:c.loans x.animal=some l) :
 CtM Try.prog 100 (bH p b) 6 [.p 5 0,.agg (Zb x)] (fun o=>∃ b',BkR (n+1) (ZE p c x.animal x.day l) b'/\o=Ya p b'):=by
 refine m100 (by simp [hpb,bH]) (fun o ho=>by obtain ⟨b',-,rfl⟩:=ho;exact ⟨by simp [Ya,KX,KXL],XE p b'⟩) ?_
 dsimp only [Zz1,ZzM,bH,Zb,go_sem,rA,rM,rS]
 refine Zp [0,1,2,3,4,5] (Zcb (p:=p) h hn hp x.animal x.day hd hl) rfl rfl rfl ?_ ?_ ?_
 . (repeat first | dsimp only [bH,go_sem,rA,rM,rS] | simp only [nbr])
   try simp [mtL,mtB,mtS]
 . (repeat first | dsimp only [bH,go_sem,rA,rM,rS] | simp only [nbr])
   try simp [Zg,Zq,ZD,ZL,Za,Zc,KFL,KF]
 rintro _ rfl
 (repeat first | dsimp only [Ya,bH,go_sem,rA,rM,rS] | simp only [nbr])
 refine ⟨_,⟨_,h.home hp hl hd,rfl⟩,?_⟩
 try simp only [Ya,Z6,bH,Y8]
 (refine Zm ?_ ?_ ?_ rfl<;>dsimp only [Zg,Zq,ZD,ZL,Za,id,go_sem,rA,rM,rS]<;>simp [Zg,Zq,ZD,ZL,Za,Zc,Ze,KFR,KFL,KF,Zd,mtO,nbr])
theorem Zkt {p:Pact} {n:Nat} {c:Co} {b:Bks} (h:BkR n c b) (x:Letter) (hx:c.dead x.animal=true) :
 CtM Try.prog 101 (bH p b) 6 [.p 5 0,.agg (Zb x)] (fun o=>o=Z6 2 p b):=by
 refine m101 (by simp [hpb,bH]) (fun o ho=>by subst ho;exact ⟨by simp [Z6,KX],XE p b⟩) ?_
 dsimp only [Zzn,ZyB,bH,Zb,go_sem,rA,rM,rS]
 have hq:=h.de x.animal
 rw [hx] at hq
 refine YF (key:=kI) (val:=ZL) (sv:=sI) (L:=b.dead) (k:=x.animal) (zs:=ZL false) rfl rfl u71 W4 rfl ZcC Zqz (fun v hg=>?_) (fun hg=>?_)
 case refine_2=>rw [hg] at hq;cases hq
 rw [hg] at hq
 have hq:v=true:=hq
 subst hq
 dsimp only [ZL,go_sem,rA,rM,rS]
 refine Zp [] (Xq 2) rfl rfl rfl ?_ ?_ ?_
 . (repeat first | dsimp only [go_sem,rA,rM,rS] | simp only [nbr])
   try simp [mtL,mtB,mtS]
 . trivial
 rintro _ rfl
 (repeat first | dsimp only [go_sem,rA,rM,rS] | simp only [nbr])
 refine ⟨_,rfl,?_⟩
 try simp only [Ya,Z6,bH,Y8]
 (refine Zm ?_ ?_ ?_ rfl<;>dsimp only [Zg,Zq,ZD,ZL,Za,id,go_sem,rA,rM,rS]<;>simp [Zg,Zq,ZD,ZL,Za,Zc,Ze,KFR,KFL,KF,Zd,mtO,nbr])
theorem Zsf {p:Pact} {n:Nat} {c:Co} {b:Bks} (h:BkR n c b) (x:Letter) (hx:c.dead x.animal=false) (hl:c.loans x.animal=none) :
 CtM Try.prog 101 (bH p b) 6 [.p 5 0,.agg (Zb x)] (fun o=>o=Z6 3 p b):=by
 refine m101 (by simp [hpb,bH]) (fun o ho=>by subst ho;exact ⟨by simp [Z6,KX],XE p b⟩) ?_
 dsimp only [Zzn,ZyB,bH,Zb,go_sem,rA,rM,rS]
 have hq:=h.de x.animal
 rw [hx] at hq
 have hrw:∀ v,mget x.animal b.dead=some v->v=false:=fun v hg=>by rw [hg] at hq;exact hq
 refine YF (key:=kI) (val:=ZL) (sv:=sI) (L:=b.dead) (k:=x.animal) (zs:=ZL false) rfl rfl u71 W4 rfl ZcC Zqz (fun v hg=>?_) (fun hg=>?_)
 . have:=hrw v hg;subst this
   dsimp only [ZL,go_sem,rA,rM,rS]
   refine Zp [] (Yb 2) rfl rfl rfl ?_ ?_ ?_
   . (repeat first | dsimp only [go_sem,rA,rM,rS] | simp only [nbr])
     try simp [mtL,mtB,mtS]
   . trivial
   rintro _ rfl
   (repeat first | dsimp only [go_sem,rA,rM,rS] | simp only [nbr])
   refine Zp [0,1,2,3,4,5] (ZdF (p:=p) h x.animal x.day hl) rfl rfl rfl ?_ ?_ ?_
   . (repeat first | dsimp only [bH,go_sem,rA,rM,rS] | simp only [nbr])
     try simp [mtL,mtB,mtS]
   . (repeat first | dsimp only [bH,go_sem,rA,rM,rS] | simp only [nbr])
     try simp [Zg,Zq,ZD,ZL,Za,Zc,KFL,KF]
   rintro _ rfl
   (repeat first | dsimp only [Z6,bH,go_sem,rA,rM,rS] | simp only [nbr])
   refine ⟨_,rfl,?_⟩
   try simp only [Ya,Z6,bH,Y8]
   (refine Zm ?_ ?_ ?_ rfl<;>dsimp only [Zg,Zq,ZD,ZL,Za,id,go_sem,rA,rM,rS]<;>simp [Zg,Zq,ZD,ZL,Za,Zc,Ze,KFR,KFL,KF,Zd,mtO,nbr])
 . skip
   dsimp only [ZL,go_sem,rA,rM,rS]
   refine Zp [] (Yb 2) rfl rfl rfl ?_ ?_ ?_
   . (repeat first | dsimp only [go_sem,rA,rM,rS] | simp only [nbr])
     try simp [mtL,mtB,mtS]
   . trivial
   rintro _ rfl
   (repeat first | dsimp only [go_sem,rA,rM,rS] | simp only [nbr])
   refine Zp [0,1,2,3,4,5] (ZdF (p:=p) h x.animal x.day hl) rfl rfl rfl ?_ ?_ ?_
   . (repeat first | dsimp only [bH,go_sem,rA,rM,rS] | simp only [nbr])
     try simp [mtL,mtB,mtS]
   . (repeat first | dsimp only [bH,go_sem,rA,rM,rS] | simp only [nbr])
     try simp [Zg,Zq,ZD,ZL,Za,Zc,KFL,KF]
   rintro _ rfl
   (repeat first | dsimp only [Z6,bH,go_sem,rA,rM,rS] | simp only [nbr])
   refine ⟨_,rfl,?_⟩
   try simp only [Ya,Z6,bH,Y8]
   (refine Zm ?_ ?_ ?_ rfl<;>dsimp only [Zg,Zq,ZD,ZL,Za,id,go_sem,rA,rM,rS]<;>simp [Zg,Zq,ZD,ZL,Za,Zc,Ze,KFR,KFL,KF,Zd,mtO,nbr])
theorem ZlU {p:Pact} {n:Nat} {c:Co} {b:Bks} (h:BkR n c b) (hn:n<=1000) (hp:0<=p.hire/\p.hire<=1000) (x:Letter) (hd:0<=x.day/\x.day<=100000) (hx:c.dead x.animal=false) {l:Int × Int} (hl:c.loans x.animal=some l) :
 CtM Try.prog 101 (bH p b) 6 [.p 5 0,.agg (Zb x)] (fun o=>∃ b',BkR (n+1) { ZE p c x.animal x.day l with dead:=upd c.dead x.animal true } b'/\o=Ya p b'):=by
 refine m101 (by simp [hpb,bH]) (fun o ho=>by obtain ⟨b',-,rfl⟩:=ho;exact ⟨by simp [Ya,KX,KXL],XE p b'⟩) ?_
 dsimp only [Zzn,ZyB,bH,Zb,go_sem,rA,rM,rS]
 have hq:=h.de x.animal
 rw [hx] at hq
 have hrw:∀ v,mget x.animal b.dead=some v->v=false:=fun v hg=>by rw [hg] at hq;exact hq
 refine YF (key:=kI) (val:=ZL) (sv:=sI) (L:=b.dead) (k:=x.animal) (zs:=ZL false) rfl rfl u71 W4 rfl ZcC Zqz (fun v hg=>?_) (fun hg=>?_)
 . have:=hrw v hg;subst this
   dsimp only [ZL,go_sem,rA,rM,rS]
   refine Zp [] (Yb 2) rfl rfl rfl ?_ ?_ ?_
   . (repeat first | dsimp only [go_sem,rA,rM,rS] | simp only [nbr])
     try simp [mtL,mtB,mtS]
   . trivial
   rintro _ rfl
   (repeat first | dsimp only [go_sem,rA,rM,rS] | simp only [nbr])
   refine Zp [0,1,2,3,4,5] (Zcb (p:=p) h hn hp x.animal x.day hd hl) rfl rfl rfl ?_ ?_ ?_
   . (repeat first | dsimp only [bH,go_sem,rA,rM,rS] | simp only [nbr])
     try simp [mtL,mtB,mtS]
   . (repeat first | dsimp only [bH,go_sem,rA,rM,rS] | simp only [nbr])
     try simp [Zg,Zq,ZD,ZL,Za,Zc,KFL,KF]
   rintro _ rfl
   (repeat first | dsimp only [Ya,bH,Y8,go_sem,rA,rM,rS] | simp only [nbr])
   refine Yd (key:=kI) (val:=ZL) (sv:=sI) (L:=b.dead) (k:=x.animal) (v:=true) (ins:=false) rfl rfl u71 W4 rfl rfl (fun _ _ _ e=>by cases e) ?_
   dsimp only [go_sem,rA,rM,rS]
   refine ⟨_,⟨_,(h.home hp hl hd).kill (a:=x.animal),rfl⟩,?_⟩
   try simp only [Ya,Z6,bH,Y8]
   (refine Zm ?_ ?_ ?_ rfl<;>dsimp only [Zg,Zq,ZD,ZL,Za,id,go_sem,rA,rM,rS]<;>simp [Zg,Zq,ZD,ZL,Za,Zc,Ze,KFR,KFL,KF,Zd,mtO,nbr])
 . skip
   dsimp only [ZL,go_sem,rA,rM,rS]
   refine Zp [] (Yb 2) rfl rfl rfl ?_ ?_ ?_
   . (repeat first | dsimp only [go_sem,rA,rM,rS] | simp only [nbr])
     try simp [mtL,mtB,mtS]
   . trivial
   rintro _ rfl
   (repeat first | dsimp only [go_sem,rA,rM,rS] | simp only [nbr])
   refine Zp [0,1,2,3,4,5] (Zcb (p:=p) h hn hp x.animal x.day hd hl) rfl rfl rfl ?_ ?_ ?_
   . (repeat first | dsimp only [bH,go_sem,rA,rM,rS] | simp only [nbr])
     try simp [mtL,mtB,mtS]
   . (repeat first | dsimp only [bH,go_sem,rA,rM,rS] | simp only [nbr])
     try simp [Zg,Zq,ZD,ZL,Za,Zc,KFL,KF]
   rintro _ rfl
   (repeat first | dsimp only [Ya,bH,Y8,go_sem,rA,rM,rS] | simp only [nbr])
   refine Yd (key:=kI) (val:=ZL) (sv:=sI) (L:=b.dead) (k:=x.animal) (v:=true) (ins:=false) rfl rfl u71 W4 rfl rfl (fun _ _ _ e=>by cases e) ?_
   dsimp only [go_sem,rA,rM,rS]
   refine ⟨_,⟨_,(h.home hp hl hd).kill (a:=x.animal),rfl⟩,?_⟩
   try simp only [Ya,Z6,bH,Y8]
   (refine Zm ?_ ?_ ?_ rfl<;>dsimp only [Zg,Zq,ZD,ZL,Za,id,go_sem,rA,rM,rS]<;>simp [Zg,Zq,ZD,ZL,Za,Zc,Ze,KFR,KFL,KF,Zd,mtO,nbr])
theorem Ziw {p:Pact} {n:Nat} {c:Co} {b:Bks} (h:BkR n c b) (x:Letter) {l:Int × Int} (hl:c.loans x.animal=some l) :
 CtM Try.prog 99 (bH p b) 6 [.p 5 0,.agg (Zb x)] (fun o=>o=Z6 1 p b):=by
 refine m99 (by simp [hpb,bH]) (fun o ho=>by subst ho;exact ⟨by simp [Z6,KX],XE p b⟩) ?_
 dsimp only [c99,r99,bH,Zb,go_sem,rA,rM,rS]
 have hrv:=fun σ h1 h2 h3=>Uq (P:=Try.prog) (t:=99) (σ:=σ) (i:=10) (j:=12) (ok:=true) (km:=0) (c:=b.cl) (key:=kI) (val:=Zq) (sv:=sI) (L:=b.loans) (k:=x.animal) (zs:=Zq (0,0)) h1 h2 h3 u99 W4 Zar Zxa
 refine ⟨_,hrv _ rfl rfl rfl,?_⟩
 rw [h.lo,hl]
 dsimp only [lkS,Zq,go_sem,rA,rM,rS]
 refine Zp [] (Xq 1) rfl rfl rfl ?_ ?_ ?_
 . (repeat first | dsimp only [go_sem,rA,rM,rS] | simp only [nbr])
   try simp [mtL,mtB,mtS]
 . trivial
 rintro _ rfl
 (repeat first | dsimp only [go_sem,rA,rM,rS] | simp only [nbr])
 refine ⟨_,rfl,?_⟩
 try simp only [Ya,Z6,bH,Y8]
 (refine Zm ?_ ?_ ?_ rfl<;>dsimp only [Zg,Zq,ZD,ZL,Za,id,go_sem,rA,rM,rS]<;>simp [Zg,Zq,ZD,ZL,Za,Zc,Ze,KFR,KFL,KF,Zd,mtO,nbr])
theorem ZkX {p:Pact} {n:Nat} {c:Co} {b:Bks} (h:BkR n c b) (x:Letter) (hl:c.loans x.animal=none) (hx:c.dead x.animal=true) :
 CtM Try.prog 99 (bH p b) 6 [.p 5 0,.agg (Zb x)] (fun o=>o=Z6 2 p b):=by
 refine m99 (by simp [hpb,bH]) (fun o ho=>by subst ho;exact ⟨by simp [Z6,KX],XE p b⟩) ?_
 dsimp only [c99,r99,bH,Zb,go_sem,rA,rM,rS]
 have hrv:=fun σ h1 h2 h3=>Uq (P:=Try.prog) (t:=99) (σ:=σ) (i:=10) (j:=12) (ok:=true) (km:=0) (c:=b.cl) (key:=kI) (val:=Zq) (sv:=sI) (L:=b.loans) (k:=x.animal) (zs:=Zq (0,0)) h1 h2 h3 u99 W4 Zar Zxa
 refine ⟨_,hrv _ rfl rfl rfl,?_⟩
 rw [h.lo,hl]
 dsimp only [lkS,Zq,go_sem,rA,rM,rS]
 refine Zp [] (Yb 1) rfl rfl rfl ?_ ?_ ?_
 . (repeat first | dsimp only [go_sem,rA,rM,rS] | simp only [nbr])
   try simp [mtL,mtB,mtS]
 . trivial
 rintro _ rfl
 (repeat first | dsimp only [go_sem,rA,rM,rS] | simp only [nbr])
 have hq:=h.de x.animal
 rw [hx] at hq
 refine YF (key:=kI) (val:=ZL) (sv:=sI) (L:=b.dead) (k:=x.animal) (zs:=ZL false) rfl rfl u71 W4 rfl ZcC Zqz (fun v hg=>?_) (fun hg=>?_)
 case refine_2=>rw [hg] at hq;cases hq
 rw [hg] at hq
 have hq:v=true:=hq
 subst hq
 dsimp only [ZL,go_sem,rA,rM,rS]
 refine Zp [] (Xq 2) rfl rfl rfl ?_ ?_ ?_
 . (repeat first | dsimp only [go_sem,rA,rM,rS] | simp only [nbr])
   try simp [mtL,mtB,mtS]
 . trivial
 rintro _ rfl
 (repeat first | dsimp only [go_sem,rA,rM,rS] | simp only [nbr])
 refine ⟨_,rfl,?_⟩
 try simp only [Ya,Z6,bH,Y8]
 (refine Zm ?_ ?_ ?_ rfl<;>dsimp only [Zg,Zq,ZD,ZL,Za,id,go_sem,rA,rM,rS]<;>simp [Zg,Zq,ZD,ZL,Za,Zc,Ze,KFR,KFL,KF,Zd,mtO,nbr])
theorem Zmt {p:Pact} {n:Nat} {c:Co} {b:Bks} (h:BkR n c b) (x:Letter) (hd:0<=x.day/\x.day<=100000) (hl:c.loans x.animal=none) (hx:c.dead x.animal=false) :
 CtM Try.prog 99 (bH p b) 6 [.p 5 0,.agg (Zb x)] (fun o=>∃ b',BkR (n+1) { c with loans:=upd c.loans x.animal (some (x.who,x.day)) } b'/\o=Ya p b'):=by
 refine m99 (by simp [hpb,bH]) (fun o ho=>by obtain ⟨b',-,rfl⟩:=ho;exact ⟨by simp [Ya,KX,KXL],XE p b'⟩) ?_
 dsimp only [c99,r99,bH,Zb,go_sem,rA,rM,rS]
 have hq:=h.de x.animal
 rw [hx] at hq
 have hrw:∀ v,mget x.animal b.dead=some v->v=false:=fun v hg=>by rw [hg] at hq;exact hq
 have hrv:=fun σ h1 h2 h3=>Uq (P:=Try.prog) (t:=99) (σ:=σ) (i:=10) (j:=12) (ok:=true) (km:=0) (c:=b.cl) (key:=kI) (val:=Zq) (sv:=sI) (L:=b.loans) (k:=x.animal) (zs:=Zq (0,0)) h1 h2 h3 u99 W4 Zar Zxa
 refine ⟨_,hrv _ rfl rfl rfl,?_⟩
 rw [h.lo,hl]
 dsimp only [lkS,Zq,go_sem,rA,rM,rS]
 refine Zp [] (Yb 1) rfl rfl rfl ?_ ?_ ?_
 . (repeat first | dsimp only [go_sem,rA,rM,rS] | simp only [nbr])
   try simp [mtL,mtB,mtS]
 . trivial
 rintro _ rfl
 (repeat first | dsimp only [go_sem,rA,rM,rS] | simp only [nbr])
 refine YF (key:=kI) (val:=ZL) (sv:=sI) (L:=b.dead) (k:=x.animal) (zs:=ZL false) rfl rfl u71 W4 rfl ZcC Zqz (fun v hg=>?_) (fun hg=>?_)
 . have:=hrw v hg;subst this
   dsimp only [ZL,go_sem,rA,rM,rS]
   refine Zp [] (Yb 2) rfl rfl rfl ?_ ?_ ?_
   . (repeat first | dsimp only [go_sem,rA,rM,rS] | simp only [nbr])
     try simp [mtL,mtB,mtS]
   . trivial
   rintro _ rfl
   (repeat first | dsimp only [go_sem,rA,rM,rS] | simp only [nbr])
   refine Yd (key:=kI) (val:=Zq) (sv:=sI) (L:=b.loans) (k:=x.animal) (v:=(x.who,x.day)) (ins:=false) rfl rfl u99 W4 rfl rfl (fun _ _ _ e=>by cases e) ?_
   dsimp only [go_sem,rA,rM,rS]
   refine ⟨_,⟨_,h.lent (a:=x.animal) (who:=x.who) (d:=x.day) hd,rfl⟩,?_⟩
   try simp only [Ya,Z6,bH,Y8]
   (refine Zm ?_ ?_ ?_ rfl<;>dsimp only [Zg,Zq,ZD,ZL,Za,id,go_sem,rA,rM,rS]<;>simp [Zg,Zq,ZD,ZL,Za,Zc,Ze,KFR,KFL,KF,Zd,mtO,nbr])
 . skip
   dsimp only [ZL,go_sem,rA,rM,rS]
   refine Zp [] (Yb 2) rfl rfl rfl ?_ ?_ ?_
   . (repeat first | dsimp only [go_sem,rA,rM,rS] | simp only [nbr])
     try simp [mtL,mtB,mtS]
   . trivial
   rintro _ rfl
   (repeat first | dsimp only [go_sem,rA,rM,rS] | simp only [nbr])
   refine Yd (key:=kI) (val:=Zq) (sv:=sI) (L:=b.loans) (k:=x.animal) (v:=(x.who,x.day)) (ins:=false) rfl rfl u99 W4 rfl rfl (fun _ _ _ e=>by cases e) ?_
   dsimp only [go_sem,rA,rM,rS]
   refine ⟨_,⟨_,h.lent (a:=x.animal) (who:=x.who) (d:=x.day) hd,rfl⟩,?_⟩
   try simp only [Ya,Z6,bH,Y8]
   (refine Zm ?_ ?_ ?_ rfl<;>dsimp only [Zg,Zq,ZD,ZL,Za,id,go_sem,rA,rM,rS]<;>simp [Zg,Zq,ZD,ZL,Za,Zc,Ze,KFR,KFL,KF,Zd,mtO,nbr])
theorem Zf2 {p:Pact} {n:Nat} {c:Co} {b:Bks} (h:BkR n c b) (x:Letter) (hx:c.known x.other=true) :
 CtM Try.prog 103 (bH p b) 6 [.p 5 0,.agg (Zb x)] (fun o=>o=Z6 4 p b):=by
 refine m103 (by simp [hpb,bH]) (fun o ho=>by subst ho;exact ⟨by simp [Z6,KX],XE p b⟩) ?_
 dsimp only [Zzr,ZyR,bH,Zb,go_sem,rA,rM,rS]
 have hq:=h.kn x.other
 rw [hx] at hq
 refine YF (key:=kI) (val:=ZL) (sv:=sI) (L:=b.known) (k:=x.other) (zs:=ZL false) rfl rfl u71 W4 rfl ZcC Zqz (fun v hg=>?_) (fun hg=>?_)
 case refine_2=>rw [hg] at hq;cases hq
 rw [hg] at hq
 have hq:v=true:=hq
 subst hq
 dsimp only [ZL,go_sem,rA,rM,rS]
 refine Zp [] (Xq 4) rfl rfl rfl ?_ ?_ ?_
 . (repeat first | dsimp only [go_sem,rA,rM,rS] | simp only [nbr])
   try simp [mtL,mtB,mtS]
 . trivial
 rintro _ rfl
 (repeat first | dsimp only [go_sem,rA,rM,rS] | simp only [nbr])
 refine ⟨_,rfl,?_⟩
 try simp only [Ya,Z6,bH,Y8]
 (refine Zm ?_ ?_ ?_ rfl<;>dsimp only [Zg,Zq,ZD,ZL,Za,id,go_sem,rA,rM,rS]<;>simp [Zg,Zq,ZD,ZL,Za,Zc,Ze,KFR,KFL,KF,Zd,mtO,nbr])
theorem Zwj {p:Pact} {n:Nat} {c:Co} {b:Bks} (h:BkR n c b) (x:Letter) (hx:c.known x.other=false) (hl:c.loans x.animal=none) :
 CtM Try.prog 103 (bH p b) 6 [.p 5 0,.agg (Zb x)] (fun o=>o=Z6 3 p b):=by
 refine m103 (by simp [hpb,bH]) (fun o ho=>by subst ho;exact ⟨by simp [Z6,KX],XE p b⟩) ?_
 dsimp only [Zzr,ZyR,bH,Zb,go_sem,rA,rM,rS]
 have hq:=h.kn x.other
 rw [hx] at hq
 have hrw:∀ v,mget x.other b.known=some v->v=false:=fun v hg=>by rw [hg] at hq;exact hq
 refine YF (key:=kI) (val:=ZL) (sv:=sI) (L:=b.known) (k:=x.other) (zs:=ZL false) rfl rfl u71 W4 rfl ZcC Zqz (fun v hg=>?_) (fun hg=>?_)
 . have:=hrw v hg;subst this
   dsimp only [ZL,go_sem,rA,rM,rS]
   refine Zp [] (Yb 4) rfl rfl rfl ?_ ?_ ?_
   . (repeat first | dsimp only [go_sem,rA,rM,rS] | simp only [nbr])
     try simp [mtL,mtB,mtS]
   . trivial
   rintro _ rfl
   (repeat first | dsimp only [go_sem,rA,rM,rS] | simp only [nbr])
   refine Zp [0,1,2,3,4,5] (ZsN (p:=p) h x.animal hl) rfl rfl rfl ?_ ?_ ?_
   . (repeat first | dsimp only [bH,go_sem,rA,rM,rS] | simp only [nbr])
     try simp [mtL,mtB,mtS]
   . (repeat first | dsimp only [bH,go_sem,rA,rM,rS] | simp only [nbr])
     try simp [Zg,Zq,ZD,ZL,Za,Zc,KFL,KF]
   rintro _ rfl
   (repeat first | dsimp only [Z6,bH,go_sem,rA,rM,rS] | simp only [nbr])
   refine ⟨_,rfl,?_⟩
   try simp only [Ya,Z6,bH,Y8]
   (refine Zm ?_ ?_ ?_ rfl<;>dsimp only [Zg,Zq,ZD,ZL,Za,id,go_sem,rA,rM,rS]<;>simp [Zg,Zq,ZD,ZL,Za,Zc,Ze,KFR,KFL,KF,Zd,mtO,nbr])
 . skip
   dsimp only [ZL,go_sem,rA,rM,rS]
   refine Zp [] (Yb 4) rfl rfl rfl ?_ ?_ ?_
   . (repeat first | dsimp only [go_sem,rA,rM,rS] | simp only [nbr])
     try simp [mtL,mtB,mtS]
   . trivial
   rintro _ rfl
   (repeat first | dsimp only [go_sem,rA,rM,rS] | simp only [nbr])
   refine Zp [0,1,2,3,4,5] (ZsN (p:=p) h x.animal hl) rfl rfl rfl ?_ ?_ ?_
   . (repeat first | dsimp only [bH,go_sem,rA,rM,rS] | simp only [nbr])
     try simp [mtL,mtB,mtS]
   . (repeat first | dsimp only [bH,go_sem,rA,rM,rS] | simp only [nbr])
     try simp [Zg,Zq,ZD,ZL,Za,Zc,KFL,KF]
   rintro _ rfl
   (repeat first | dsimp only [Z6,bH,go_sem,rA,rM,rS] | simp only [nbr])
   refine ⟨_,rfl,?_⟩
   try simp only [Ya,Z6,bH,Y8]
   (refine Zm ?_ ?_ ?_ rfl<;>dsimp only [Zg,Zq,ZD,ZL,Za,id,go_sem,rA,rM,rS]<;>simp [Zg,Zq,ZD,ZL,Za,Zc,Ze,KFR,KFL,KF,Zd,mtO,nbr])
theorem part_bd {r c:Int} (r0:0<=r) (r1:r<=10000000) (c0:0<=c) (c1:c<=1000):(0<=r * c/\r * c<=10000000000)/\0<=(r * c).tdiv 1000/\(r * c).tdiv 1000<=r:=by
 have q0:0<=r * c:=Int.mul_nonneg r0 c0
 have q1:r * c<=r * 1000:=Int.mul_le_mul_of_nonneg_left c1 r0
 refine ⟨⟨q0,by omega⟩,Int.tdiv_nonneg q0 (by omega),?_⟩
 rw [Int.tdiv_eq_ediv_of_nonneg q0]
 omega
theorem ZlY {p:Pact} {n:Nat} {c:Co} {b:Bks} (h:BkR n c b) (hn:n<=1000) (hp:0<=p.calf/\p.calf<=1000) (x:Letter) (hr:0<=x.rials/\x.rials<=10000000) (hx:c.known x.other=false) {l:Int × Int} (hl:c.loans x.animal=some l) :
 CtM Try.prog 103 (bH p b) 6 [.p 5 0,.agg (Zb x)] (fun o=>∃ b',BkR (n+1) { c with extra:=upd c.extra l.1 (c.extra l.1+(x.rials * p.calf).tdiv 1000),result:=c.result+(x.rials - (x.rials * p.calf).tdiv 1000),known:=upd c.known x.other true } b'/\o=Ya p b'):=by
 refine m103 (by simp [hpb,bH]) (fun o ho=>by obtain ⟨b',-,rfl⟩:=ho;exact ⟨by simp [Ya,KX,KXL],XE p b'⟩) ?_
 dsimp only [Zzr,ZyR,bH,Zb,go_sem,rA,rM,rS]
 have hq:=h.kn x.other
 rw [hx] at hq
 have hrw:∀ v,mget x.other b.known=some v->v=false:=fun v hg=>by rw [hg] at hq;exact hq
 obtain ⟨⟨m0,m1⟩,d0,d1⟩:=part_bd hr.1 hr.2 hp.1 hp.2
 have hrb:=h.rb
 have heb:=h.eb l.1
 have hre:=h.re
 refine YF (key:=kI) (val:=ZL) (sv:=sI) (L:=b.known) (k:=x.other) (zs:=ZL false) rfl rfl u71 W4 rfl ZcC Zqz (fun v hg=>?_) (fun hg=>?_)
 . have:=hrw v hg;subst this
   dsimp only [ZL,go_sem,rA,rM,rS]
   refine Zp [] (Yb 4) rfl rfl rfl ?_ ?_ ?_
   . (repeat first | dsimp only [go_sem,rA,rM,rS] | simp only [nbr])
     try simp [mtL,mtB,mtS]
   . trivial
   rintro _ rfl
   (repeat first | dsimp only [go_sem,rA,rM,rS] | simp only [nbr])
   refine Zp [0,1,2,3,4,5] (ZjP (p:=p) h x.animal hl) rfl rfl rfl ?_ ?_ ?_
   . (repeat first | dsimp only [bH,go_sem,rA,rM,rS] | simp only [nbr])
     try simp [mtL,mtB,mtS]
   . (repeat first | dsimp only [bH,go_sem,rA,rM,rS] | simp only [nbr])
     try simp [Zg,Zq,ZD,ZL,Za,Zc,KFL,KF]
   rintro _ rfl
   (repeat first | dsimp only [Zq,bH,go_sem,rA,rM,rS] | simp only [nbr])
   rw [Zi (n:=x.rials * p.calf) (by omega) (by omega)]
   refine ZzG (by decide) ?_
   dsimp only [go_sem,rA,rM,rS]
   rw [Zi (n:=(x.rials * p.calf).tdiv 1000) (by omega) (by omega)]
   have hrv:=fun σ h1 h2 h3=>Uq (P:=Try.prog) (t:=101) (σ:=σ) (i:=30) (j:=32) (ok:=false) (km:=4) (c:=b.ce) (key:=kI) (val:=ZD) (sv:=sI) (L:=b.extra) (k:=l.1) (zs:=ZD 0) h1 h2 h3 Zwo W4 Za4 Zk2
   refine ⟨_,hrv _ rfl rfl rfl,?_⟩
   rw [show lkS false ZD (ZD 0) (mget l.1 b.extra)=ZD (c.extra l.1) from by rw [<- h.ex];cases mget l.1 b.extra<;>rfl]
   dsimp only [ZD,go_sem,rA,rM,rS]
   rw [Zi (n:=c.extra l.1+(x.rials * p.calf).tdiv 1000) (by omega) (by omega)]
   refine Yd (key:=kI) (val:=ZD) (sv:=sI) (L:=b.extra) (k:=l.1) (v:=c.extra l.1+(x.rials * p.calf).tdiv 1000) (ins:=false) rfl rfl Zwo W4 rfl rfl (fun _ _ _ e=>by cases e) ?_
   dsimp only [go_sem,rA,rM,rS]
   rw [Zi (n:=x.rials - (x.rials * p.calf).tdiv 1000) (by omega) (by omega),hre,Zi (n:=c.result+(x.rials - (x.rials * p.calf).tdiv 1000)) (by omega) (by omega)]
   refine Yd (key:=kI) (val:=ZL) (sv:=sI) (L:=b.known) (k:=x.other) (v:=true) (ins:=false) rfl rfl u71 W4 rfl rfl (fun _ _ _ e=>by cases e) ?_
   dsimp only [go_sem,rA,rM,rS]
   refine ⟨_,⟨_,h.calf (who:=l.1) (other:=x.other) (v:=c.extra l.1+(x.rials * p.calf).tdiv 1000) (r:=c.result+(x.rials - (x.rials * p.calf).tdiv 1000)) (by omega) (by omega),rfl⟩,?_⟩
   try simp only [Ya,Z6,bH,Y8]
   (refine Zm ?_ ?_ ?_ rfl<;>dsimp only [Zg,Zq,ZD,ZL,Za,id,go_sem,rA,rM,rS]<;>simp [Zg,Zq,ZD,ZL,Za,Zc,Ze,KFR,KFL,KF,Zd,mtO,nbr])
 . skip
   dsimp only [ZL,go_sem,rA,rM,rS]
   refine Zp [] (Yb 4) rfl rfl rfl ?_ ?_ ?_
   . (repeat first | dsimp only [go_sem,rA,rM,rS] | simp only [nbr])
     try simp [mtL,mtB,mtS]
   . trivial
   rintro _ rfl
   (repeat first | dsimp only [go_sem,rA,rM,rS] | simp only [nbr])
   refine Zp [0,1,2,3,4,5] (ZjP (p:=p) h x.animal hl) rfl rfl rfl ?_ ?_ ?_
   . (repeat first | dsimp only [bH,go_sem,rA,rM,rS] | simp only [nbr])
     try simp [mtL,mtB,mtS]
   . (repeat first | dsimp only [bH,go_sem,rA,rM,rS] | simp only [nbr])
     try simp [Zg,Zq,ZD,ZL,Za,Zc,KFL,KF]
   rintro _ rfl
   (repeat first | dsimp only [Zq,bH,go_sem,rA,rM,rS] | simp only [nbr])
   rw [Zi (n:=x.rials * p.calf) (by omega) (by omega)]
   refine ZzG (by decide) ?_
   dsimp only [go_sem,rA,rM,rS]
   rw [Zi (n:=(x.rials * p.calf).tdiv 1000) (by omega) (by omega)]
   have hrv:=fun σ h1 h2 h3=>Uq (P:=Try.prog) (t:=101) (σ:=σ) (i:=30) (j:=32) (ok:=false) (km:=4) (c:=b.ce) (key:=kI) (val:=ZD) (sv:=sI) (L:=b.extra) (k:=l.1) (zs:=ZD 0) h1 h2 h3 Zwo W4 Za4 Zk2
   refine ⟨_,hrv _ rfl rfl rfl,?_⟩
   rw [show lkS false ZD (ZD 0) (mget l.1 b.extra)=ZD (c.extra l.1) from by rw [<- h.ex];cases mget l.1 b.extra<;>rfl]
   dsimp only [ZD,go_sem,rA,rM,rS]
   rw [Zi (n:=c.extra l.1+(x.rials * p.calf).tdiv 1000) (by omega) (by omega)]
   refine Yd (key:=kI) (val:=ZD) (sv:=sI) (L:=b.extra) (k:=l.1) (v:=c.extra l.1+(x.rials * p.calf).tdiv 1000) (ins:=false) rfl rfl Zwo W4 rfl rfl (fun _ _ _ e=>by cases e) ?_
   dsimp only [go_sem,rA,rM,rS]
   rw [Zi (n:=x.rials - (x.rials * p.calf).tdiv 1000) (by omega) (by omega),hre,Zi (n:=c.result+(x.rials - (x.rials * p.calf).tdiv 1000)) (by omega) (by omega)]
   refine Yd (key:=kI) (val:=ZL) (sv:=sI) (L:=b.known) (k:=x.other) (v:=true) (ins:=false) rfl rfl u71 W4 rfl rfl (fun _ _ _ e=>by cases e) ?_
   dsimp only [go_sem,rA,rM,rS]
   refine ⟨_,⟨_,h.calf (who:=l.1) (other:=x.other) (v:=c.extra l.1+(x.rials * p.calf).tdiv 1000) (r:=c.result+(x.rials - (x.rials * p.calf).tdiv 1000)) (by omega) (by omega),rfl⟩,?_⟩
   try simp only [Ya,Z6,bH,Y8]
   (refine Zm ?_ ?_ ?_ rfl<;>dsimp only [Zg,Zq,ZD,ZL,Za,id,go_sem,rA,rM,rS]<;>simp [Zg,Zq,ZD,ZL,Za,Zc,Ze,KFR,KFL,KF,Zd,mtO,nbr])
theorem XM (L:List (Nat × (Int × Int) × Int)):∀ e ∈ mpS kP ZD L,KF e.2.2:=by
 intro e he
 obtain ⟨x,_,rfl⟩:=List.mem_map.1 he
 simp [ZD,KF]
theorem Ztp {p:Pact} {n:Nat} {c:Co} {b:Bks} (h:BkR n c b) (hn:n<=1000) (x:Letter) (hx:0<=x.rials/\x.rials<=10000000) :
 CtM Try.prog 104 (bH p b) 6 [.p 5 0,.agg (Zb x)] (fun o=>∃ b',BkR (n+1) { c with debts:=upd c.debts x.who (upd (c.debts x.who) x.other (c.debts x.who x.other+x.rials)) } b'/\o=Ya p b'):=by
 refine m104 (by simp [hpb,bH]) (fun o ho=>by obtain ⟨b',-,rfl⟩:=ho;exact ⟨by simp [Ya,KX,KXL],XE p b'⟩) ?_
 have hb:=h.bb x.who x.other
 have hv0:c.debts x.who x.other=(mget (x.who,x.other) b.debts).getD 0:=(h.db _ _).symm
 dsimp only [c104,r104,bH,Zb,go_sem,rA,rM,rS]
 refine gh (Zew (km:=3) (key:=kP) (val:=ZD) (L:=b.debts) (c:=b.cb) (k:=(x.who,x.other)) (v0:=c.debts x.who x.other) rfl (XM _)) ?_
 dsimp only [go_sem,rA,rM,rS]
 refine ⟨_,ZhY (P:=Try.prog) (t:=100) (i:=7) (j:=12) (sv:=sP) (v:=0) hv0 rfl rfl (XM _) trivial rfl Zs4 Zak Za4 Zk2,?_⟩
 dsimp only [ZD,go_sem,rA,rM,rS]
 rw [Zi (n:=c.debts x.who x.other+x.rials) (by omega) (by omega)]
 refine ⟨3,_,_,rfl,Zkn rfl (XM _) trivial,ZeI (P:=Try.prog) (t:=100) (i:=7) (j:=12) (sv:=sP) (v:=0) hv0 rfl rfl (XM _) trivial rfl Zs4 Zak Za4 Zk2,?_⟩
 dsimp only [ZD,go_sem,rA,rM,rS]
 refine Zbt (key:=kP) (val:=ZD) (L:=b.debts) (k:=(x.who,x.other)) (c:=b.cb) (v0:=c.debts x.who x.other) (v:=c.debts x.who x.other+x.rials) rfl rfl rfl h.w4 rfl (fun _ _ _ e=>by cases e) ?_
 dsimp only [go_sem,rA,rM,rS]
 refine ⟨_,⟨_,h.debt (who:=x.who) (other:=x.other) (v:=c.debts x.who x.other+x.rials) (by omega),rfl⟩,?_⟩
 try simp only [Ya,bH]
 (refine Zm ?_ ?_ ?_ rfl<;>dsimp only [Zg,Zq,ZD,ZL,Za,id,go_sem,rA,rM,rS]<;>simp [Zg,Zq,ZD,ZL,Za,Zc,Ze,KFR,KFL,KF,Zd,mtO,nbr])
theorem Zhn {p:Pact} {n:Nat} {c:Co} {b:Bks} (h:BkR n c b) (x:Letter) (hx:c.debts x.who x.other < x.rials) :
 CtM Try.prog 105 (bH p b) 6 [.p 5 0,.agg (Zb x)] (fun o=>o=Z6 5 p b):=by
 refine m105 (by simp [hpb,bH]) (fun o ho=>by subst ho;exact ⟨by simp [Z6,KX],XE p b⟩) ?_
 dsimp only [ZzQ,ZzV,bH,Zb,go_sem,rA,rM,rS]
 have hrv:=fun σ h1 h2 h3=>Uq (P:=Try.prog) (t:=100) (σ:=σ) (i:=13) (j:=14) (ok:=false) (km:=3) (c:=b.cb) (key:=kP) (val:=ZD) (sv:=sP) (L:=b.debts) (k:=(x.who,x.other)) (zs:=ZD 0) h1 h2 h3 Zs4 Zak Za4 Zk2
 refine ⟨_,hrv _ rfl rfl rfl,?_⟩
 rw [show lkS false ZD (ZD 0) (mget (x.who,x.other) b.debts)=ZD (c.debts x.who x.other) from by rw [<- h.db];cases mget (x.who,x.other) b.debts<;>rfl]
 dsimp only [ZD,go_sem,rA,rM,rS]
 rw [show decide (c.debts x.who x.other < x.rials)=true from by simpa using hx]
 refine Zp [] (Xq 5) rfl rfl rfl ?_ ?_ ?_
 . (repeat first | dsimp only [go_sem,rA,rM,rS] | simp only [nbr])
   try simp [mtL,mtB,mtS]
 . trivial
 rintro _ rfl
 (repeat first | dsimp only [go_sem,rA,rM,rS] | simp only [nbr])
 refine ⟨_,rfl,?_⟩
 try simp only [Z6,bH]
 (refine Zm ?_ ?_ ?_ rfl<;>dsimp only [Zg,Zq,ZD,ZL,Za,id,go_sem,rA,rM,rS]<;>simp [Zg,Zq,ZD,ZL,Za,Zc,Ze,KFR,KFL,KF,Zd,mtO,nbr])
theorem Zse {p:Pact} {n:Nat} {c:Co} {b:Bks} (h:BkR n c b) (hn:n<=1000) (x:Letter) (hx:0<=x.rials/\x.rials<=10000000) (hd:¬ c.debts x.who x.other < x.rials) :
 CtM Try.prog 105 (bH p b) 6 [.p 5 0,.agg (Zb x)] (fun o=>∃ b',BkR (n+1) { c with debts:=upd c.debts x.who (upd (c.debts x.who) x.other (c.debts x.who x.other - x.rials)) } b'/\o=Ya p b'):=by
 refine m105 (by simp [hpb,bH]) (fun o ho=>by obtain ⟨b',-,rfl⟩:=ho;exact ⟨by simp [Ya,KX,KXL],XE p b'⟩) ?_
 have hb:=h.bb x.who x.other
 have hv0:c.debts x.who x.other=(mget (x.who,x.other) b.debts).getD 0:=(h.db _ _).symm
 dsimp only [ZzQ,ZzV,bH,Zb,go_sem,rA,rM,rS]
 have hrv:=fun σ h1 h2 h3=>Uq (P:=Try.prog) (t:=100) (σ:=σ) (i:=13) (j:=14) (ok:=false) (km:=3) (c:=b.cb) (key:=kP) (val:=ZD) (sv:=sP) (L:=b.debts) (k:=(x.who,x.other)) (zs:=ZD 0) h1 h2 h3 Zs4 Zak Za4 Zk2
 refine ⟨_,hrv _ rfl rfl rfl,?_⟩
 rw [show lkS false ZD (ZD 0) (mget (x.who,x.other) b.debts)=ZD (c.debts x.who x.other) from by rw [<- h.db];cases mget (x.who,x.other) b.debts<;>rfl]
 dsimp only [ZD,go_sem,rA,rM,rS]
 rw [show decide (c.debts x.who x.other < x.rials)=false from by simpa using hd]
 refine Zp [] (Yb 5) rfl rfl rfl ?_ ?_ ?_
 . (repeat first | dsimp only [go_sem,rA,rM,rS] | simp only [nbr])
   try simp [mtL,mtB,mtS]
 . trivial
 rintro _ rfl
 (repeat first | dsimp only [go_sem,rA,rM,rS] | simp only [nbr])
 refine gh (Zew (km:=3) (key:=kP) (val:=ZD) (L:=b.debts) (c:=b.cb) (k:=(x.who,x.other)) (v0:=c.debts x.who x.other) rfl (XM _)) ?_
 dsimp only [go_sem,rA,rM,rS]
 refine ⟨_,ZhY (P:=Try.prog) (t:=100) (i:=23) (j:=24) (sv:=sP) (v:=0) hv0 rfl rfl (XM _) trivial rfl Zs4 Zak Za4 Zk2,?_⟩
 dsimp only [ZD,go_sem,rA,rM,rS]
 rw [Zi (n:=c.debts x.who x.other - x.rials) (by omega) (by omega)]
 refine ⟨3,_,_,rfl,Zkn rfl (XM _) trivial,ZeI (P:=Try.prog) (t:=100) (i:=23) (j:=24) (sv:=sP) (v:=0) hv0 rfl rfl (XM _) trivial rfl Zs4 Zak Za4 Zk2,?_⟩
 dsimp only [ZD,go_sem,rA,rM,rS]
 refine Zbt (key:=kP) (val:=ZD) (L:=b.debts) (k:=(x.who,x.other)) (c:=b.cb) (v0:=c.debts x.who x.other) (v:=c.debts x.who x.other - x.rials) rfl rfl rfl h.w4 rfl (fun _ _ _ e=>by cases e) ?_
 dsimp only [go_sem,rA,rM,rS]
 refine ⟨_,⟨_,h.debt (who:=x.who) (other:=x.other) (v:=c.debts x.who x.other - x.rials) (by omega),rfl⟩,?_⟩
 try simp only [Ya,bH]
 (refine Zm ?_ ?_ ?_ rfl<;>dsimp only [Zg,Zq,ZD,ZL,Za,id,go_sem,rA,rM,rS]<;>simp [Zg,Zq,ZD,ZL,Za,Zc,Ze,KFR,KFL,KF,Zd,mtO,nbr])
end Go.Proofs.Ythilckbkffjliaa
