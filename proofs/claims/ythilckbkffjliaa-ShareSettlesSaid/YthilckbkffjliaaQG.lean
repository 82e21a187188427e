/- Walks and plain laws that lead to the given statement, part 7 of 10. -/
import Derived.Test.YthilckbkffjliaaQF
import Derived.Recover
import Derived.Test.YthilckbkffjliaaProg
set_option maxRecDepth 100000
set_option maxHeartbeats 4000000
set_option linter.all false
open Nat renaming reduceAdd->rA,reduceMul->rM,reduceSub->rS,beq_refl->nbr
namespace Go.Azalai
theorem Zcd {ends:Int} {x:Letter}:∀ {a:List Letter} {seen:List Int},Y8 ends seen (a ++ [x])=Y8 ends seen a ++ (if (x.id ∈ seen\/x.id ∈ a.map (·.id))\/x.day > ends then [] else [x])
 | [],seen=>by
  simp only [List.nil_append,Y8,List.map_nil,List.not_mem_nil,or_false]
 | y :: a,seen=>by
  have ih:=Zcd (ends:=ends) (x:=x) (a:=a) (seen:=y.id :: seen)
  have e:((x.id ∈ y.id :: seen\/x.id ∈ a.map (·.id))\/x.day > ends)↔((x.id ∈ seen\/x.id ∈ (y :: a).map (·.id))\/x.day > ends):=by
   simp only [List.mem_cons,List.map_cons];grind
  rw [List.cons_append]
  simp only [Y8]
  rw [ih]
  by_cases h:y.id ∈ seen\/y.day > ends
  . rw [if_pos h,if_pos h];simp only [e]
  . rw [if_neg h,if_neg h,List.cons_append];simp only [e]
structure PreR (p:Pact) (l:List Letter) (k:Nat) (L:List (Nat × Int × Letter)) (c:Nat) (R:List Letter):Prop where
 le:k<=l.length
 one:∀ x ∈ l.take k,∀ y ∈ l.take k,x.id=y.id->x=y
 map:∀ id x,Go.Sx.mget id L=some x↔x ∈ l.take k/\x.id=id
 rows:R=Y8 p.ends [] (l.take k)
theorem PreR.start (p:Pact) (l:List Letter):PreR p l 0 [] 0 []:=⟨Nat.zero_le _,fun x h=>by simp at h,fun id x=>by simp [Go.Sx.mget],rfl⟩
theorem PreR.step {p:Pact} {l:List Letter} {k c:Nat} {L:List (Nat × Int × Letter)} {R:List Letter} (h:PreR p l k L c R) (hk:k < l.length) (ho:Go.Sx.mget l[k].id L=none\/Go.Sx.mget l[k].id L=some l[k]) :
 PreR p l (k+1) (Go.Sx.mset c l[k].id l[k] L) (Go.Sx.mclk c l[k].id L) (if Go.Sx.mget l[k].id L=none/\l[k].day<=p.ends then R ++ [l[k]] else R):=by
 have ht:l.take (k+1)=l.take k ++ [l[k]]:=List.take_succ_eq_append_getElem hk
 have hnew:∀ x ∈ l.take k,x.id=l[k].id->x=l[k]:=fun x hx he=>by
  have:=(h.map l[k].id x).2 ⟨hx,he⟩
  rcases ho with q | q
  . rw [q] at this;cases this
  . rw [q] at this;cases this;rfl
 refine ⟨hk,fun x hx y hy he=>?_,fun id x=>?_,?_⟩
 . rw [ht,List.mem_append,List.mem_singleton] at hx hy
   rcases hx with hx | rfl<;>rcases hy with hy | rfl
   . exact h.one x hx y hy he
   . exact hnew x hx he
   . exact (hnew y hy he.symm).symm
   . rfl
 . rw [Go.Sx.mget_set,ht,List.mem_append,List.mem_singleton]
   by_cases hid:id=l[k].id
   . rw [if_pos hid]
     constructor
     . intro e;cases e;exact ⟨.inr rfl,hid.symm⟩
     . rintro ⟨hx | rfl,he⟩
       . rw [hnew x hx (by omega)]
       . rfl
   . rw [if_neg hid,h.map]
     constructor
     . rintro ⟨a,b⟩;exact ⟨.inl a,b⟩
     . rintro ⟨a | rfl,b⟩
       . exact ⟨a,b⟩
       . exact absurd b.symm hid
 . rw [ht,Zcd,<- h.rows]
   have hm:Go.Sx.mget l[k].id L=none↔l[k].id ∉ (l.take k).map (·.id):=by
    constructor
    . intro e hx
      obtain ⟨x,hx,he⟩:=List.mem_map.1 hx
      have:=(h.map l[k].id x).2 ⟨hx,he⟩
      rw [e] at this;cases this
    . intro hx
      rcases hq:Go.Sx.mget l[k].id L with _ | x
      . rfl
      . have:=(h.map _ _).1 hq
        exact absurd (List.mem_map.2 ⟨x,this.1,this.2⟩) hx
   by_cases hc:Go.Sx.mget l[k].id L=none/\l[k].day<=p.ends
   . rw [if_pos hc,if_neg]
     rintro ((q | q) | q)
     . cases q
     . exact hm.1 hc.1 q
     . omega
   . rw [if_neg hc,if_pos,List.append_nil]
     rcases Classical.em (Go.Sx.mget l[k].id L=none) with q | q
     . right
       rcases Classical.em (l[k].day > p.ends) with g | g
       . exact g
       . exact absurd ⟨q,by omega⟩ hc
     . left;right;exact Classical.byContradiction fun h2=>q (hm.2 h2)
theorem PreR.two {p:Pact} {l:List Letter} {k c:Nat} {L:List (Nat × Int × Letter)} {R:List Letter} (h:PreR p l k L c R) (hk:k < l.length) {y:Letter} (hg:Go.Sx.mget l[k].id L=some y) (hne:y≠l[k]):ZgD l=true:=by
 rw [<- Bool.not_eq_false]
 intro hf
 obtain ⟨h1,h2⟩:=(h.map _ _).1 hg
 exact hne (Vn hf y (List.mem_of_mem_take h1) l[k] (List.getElem_mem hk) h2)
theorem PreR.len {p:Pact} {l:List Letter} {k c:Nat} {L:List (Nat × Int × Letter)} {R:List Letter} (h:PreR p l k L c R):R.length<=l.length:=by
 have:∀ {a:List Letter} {seen:List Int},(Y8 p.ends seen a).length<=a.length:=by
  intro a
  induction a with
  | nil=>intro _;simp [Y8]
  | cons x a ih =>
   intro seen
   simp only [Y8]
   split
   . have:=@ih (x.id :: seen);simp;omega
   . have:=@ih (x.id :: seen);simp;omega
 rw [h.rows]
 exact Nat.le_trans this (by simp;omega)
theorem ZBb (y x:Letter):(y.id == x.id && (y.day == x.day && (y.kind == x.kind && (y.who == x.who && (y.other == x.other && (y.animal == x.animal && (y.rials == x.rials && (y.mouth == x.mouth && true))))))))=decide (y=x):=by
 rw [Bool.eq_iff_iff]
 obtain ⟨a1,a2,a3,a4,a5,a6,a7,a8⟩:=x
 obtain ⟨b1,b2,b3,b4,b5,b6,b7,b8⟩:=y
 simp
def ZdU (p:Pact) (l:List Letter):List Letter:=if YS p l=0 then Xi p l else []
end Go.Azalai
namespace Go.Proofs.Ythilckbkffjliaa
open Go Go.Sx Go.Azalai
theorem u114:Try.prog.underlying 114=some (.map 3 50):=by kernel_rfl
theorem u3:Try.prog.underlying 3=some (.int .i64):=by kernel_rfl
theorem VG:KeyT Try.prog 3 (fun n:Int=>.int .i64 n) (fun n=>.v (.int .i64 n)):=Zsl u3
abbrev kI:Int->Value:=fun n=>.int .i64 n
abbrev sI:Int->SV:=fun n=>.v (.int .i64 n)
def ltV (x:Letter):SV:=.agg (Zc x)
theorem u47 {args:List SV} {res:SV} (ka:KFL args) (kr:KF res) (h:sx Try.prog Y0 0 c47 (st0 args 65) (Zl8 r47 res)) (hA:Nat.ble args.length 65=true:=by rfl):Ct Try.prog 47 args res:=XS Try.func47 rfl b47 Zyt Zyg n47 (Nat.le_of_ble_eq_true hA) ka kr h
theorem ZAO:Z5 Try.prog 50=some (.agg #[.int .i64 0,.int .i64 0,.int .u8 0,.int .i64 0,.int .i64 0,.int .i64 0,.int .i64 0,.bool false]):=by kernel_rfl
theorem zl_R:∀ w E n ok,R w E n ok (ltV ⟨0,0,0,0,0,0,0,false⟩) (.agg #[.int .i64 0,.int .i64 0,.int .u8 0,.int .i64 0,.int .i64 0,.int .i64 0,.int .i64 0,.bool false]):=fun w E n ok=>by
 simp only [ltV,Zc,R,RL]
 exact ⟨_,rfl,_,_,rfl,rfl,_,_,rfl,rfl,_,_,rfl,rfl,_,_,rfl,rfl,_,_,rfl,rfl,_,_,rfl,rfl,_,_,rfl,rfl,_,_,rfl,rfl,rfl⟩
theorem ZqC (p:Pact) (x:Letter) (hs:YI p) (hp:ZA p=true):Ct Try.prog 65 [.agg (Zc x),.ps (Zh p) 0] (B (!Zk p x)):=by
 refine t65.1 (by simp [Zh,Za,Zc,Zb,KFL,KF]) (by simp [KFL,KF]) ?_
 dsimp only [c65,r65,Zh,Zc,go_sem,rA,rM,rS]
 refine call (ZnF p x hs hp) ?_
 dsimp only [go_sem,rA,rM,rS]
theorem Zjl (p:Pact) (l:List Letter) (hs:YI p) (hl:l.length<=1000) (c:Bool):Ct Try.prog 47 [.agg (Zh p),.sl c 8 (l.map Zc)] (.tup [.sl false 8 ((ZdU p l).map Zc),I (YS p l)]):=by
 refine u47 (by simp [Zh,Za,Zc,Zb,KFL,KF]) (by simp [Zc,Zb,KFL,KF]) ?_
 have hs':p.partners.length<=1000:=hs
 have herr:∀ e,YS p l=e->e≠0->Zak (.tup [.v (.slice none 0 0),I e]) (.tup [.sl false 8 ((ZdU p l).map Zc),I (YS p l)]):=fun e h1 h2=>by
  rw [ZdU,h1,if_neg h2]
  exact WI (YM Vq fun _ _ _ _ _ h=>h)
 dsimp only [c47,r47,Zh,go_sem,rA,rM,rS]
 refine call (ZnB p hs) ?_
 dsimp only [go_sem,rA,rM,rS]
 by_cases hp:ZA p=true
 case neg =>
  refine Zw (by simp [Zqs,hp]) ?_
  dsimp only [go_sem,rA,rM,rS]
  refine ⟨_,rfl,?_⟩
  rw [show Zqs p=80 from by simp [Zqs,hp]]
  exact herr 80 (by simp [YS,hp]) (by omega)
 refine Zu (by simp [Zqs,hp]) ?_
 dsimp only [go_sem,rA,rM,rS]
 simp only [List.length_map]
 by_cases h100:l.length > 100
 . refine Zw (by simp;omega) ?_
   dsimp only [go_sem,rA,rM,rS]
   refine ⟨_,rfl,?_⟩
   exact herr 4 (by simp [YS,hp,h100]) (by omega)
 refine Zu (by simp;omega) ?_
 dsimp only [go_sem,rA,rM,rS]
 refine Zal (by simp [FLT]) (res:=B (l.any fun x=>!Zk p x)) ?_ ?_
 . dsimp only [go_sem,rA,rM,rS]
   exact con64 65 [.ps (Zh p) 0] (by simp [KFL,KF,Zb,Zh,Za]) (fun x=>!Zk p x) l (fun x _=>ZqC p x hs hp) (by omega)
 dsimp only [go_sem,rA,rM,rS]
 have hany:(l.any fun x=>!Zk p x) = !l.all (Zk p):=by simp [List.all_eq_not_any_not]
 by_cases hall:l.all (Zk p)=true
 case neg =>
  refine Zw (by rw [hany];simpa using hall) ?_
  dsimp only [go_sem,rA,rM,rS]
  refine ⟨_,rfl,?_⟩
  rw [Bool.not_eq_true] at hall
  exact herr 81 (by simp only [YS,hp,hall];simp [h100]) (by omega)
 refine Zu (by rw [hany,hall];rfl) ?_
 dsimp only [go_sem,rA,rM,rS]
 refine XW rfl rfl rfl ?_
 dsimp only [go_sem,rA,rM,rS]
 simp only [List.length_map]
 refine Zai (ZX 8 8 50 rfl rfl) (fun s:Nat × List (Nat × Int × Letter) × Nat × Nat × List Letter=>[(27,I s.1),(8,.mr 2 s.2.2.2.1)]) (fun s=>[(1,.map (mpS kI ltV s.2.1) s.2.2.1),(2,.row s.2.2.2.1 8 (s.2.2.2.2.map Zc) 50)]) (fun s=>PreR p l s.1 s.2.1 s.2.2.1 s.2.2.2.2) (fun s=>l.length - s.1) (0,[],0,0,[]) (.start p l) ?_ ?_
 . (refine Zi ?_ ?_ ?_ rfl rfl<;>dsimp only [Zc,ltV,Zh,Za,mpS,id,go_sem,rA,rM,rS]<;>simp [Zc,ltV,Zh,Za,mpS,Zb,Ze,KFR,KFL,KF,Zd,mtO,nbr])
 rintro ⟨k,L,cl,v,R⟩ hI
 simp only at hI
 have hle:=hI.le
 dsimp only [go_sem,rA,rM,rS]
 by_cases hlt:k < l.length
 . refine Zw (by simpa using hlt) ?_
   dsimp only [go_sem,rA,rM,rS]
   refine Zq k hlt rfl ?_
   dsimp only [Zc,go_sem,rA,rM,rS]
   refine Xv (key:=kI) (val:=ltV) (sv:=sI) (L:=L) (k:=l[k].id) (zs:=ltV ⟨0,0,0,0,0,0,0,false⟩) rfl rfl u114 VG rfl ZAO zl_R ?_ ?_
   . intro y hg
     dsimp only [ltV,Zc,go_sem,rA,rM,rS]
     repeat (refine gb ?_;dsimp only [go_sem,rA,rM,rS])
     by_cases hy:y=l[k]
     case neg =>
      refine Zw ?_ ?_
      . rw [ZBb];simp [hy]
      dsimp only [go_sem,rA,rM,rS]
      refine ⟨_,rfl,?_⟩
      have h2:=hI.two hlt hg hy
      exact herr 82 (by simp only [YS,hp,hall,h2];simp [h100]) (by omega)
     subst hy
     refine Zu (by simp) ?_
     dsimp only [go_sem,rA,rM,rS]
     refine YB (key:=kI) (val:=ltV) (sv:=sI) (L:=L) (k:=l[k].id) (v:=l[k]) (ins:=false) rfl rfl u114 VG rfl rfl (fun _ _ _ e=>by cases e) ?_
     dsimp only [go_sem,rA,rM,rS]
     repeat (refine gb ?_;dsimp only [go_sem,rA,rM,rS])
     refine Zu (by simp) ?_
     dsimp only [go_sem,rA,rM,rS]
     rw [Zf (n:=(k:Int)+1) (by omega) (by omega)]
     have hst:=hI.step hlt (.inr hg)
     rw [if_neg (by rw [hg];simp)] at hst
     refine ⟨(k+1,mset cl l[k].id l[k] L,mclk cl l[k].id L,v,R),hst,by simp only;omega,?_⟩
     (refine Zi ?_ ?_ ?_ rfl rfl<;>dsimp only [Zc,ltV,Zh,Za,Zj,id,go_sem,rA,rM,rS]<;>simp [Zc,ltV,Zh,Za,Zj,Zb,Ze,KFR,KFL,KF,Zd,mtO,nbr])
   . intro hg
     dsimp only [ltV,Zc,go_sem,rA,rM,rS]
     repeat (refine gb ?_;dsimp only [go_sem,rA,rM,rS])
     refine Zu (by simp) ?_
     dsimp only [go_sem,rA,rM,rS]
     refine YB (key:=kI) (val:=ltV) (sv:=sI) (L:=L) (k:=l[k].id) (v:=l[k]) (ins:=false) rfl rfl u114 VG rfl rfl (fun _ _ _ e=>by cases e) ?_
     dsimp only [go_sem,rA,rM,rS]
     repeat (refine gb ?_;dsimp only [go_sem,rA,rM,rS])
     have hst:=hI.step hlt (.inl hg)
     by_cases hd:l[k].day<=p.ends
     . refine Zw (by simpa using hd) ?_
       dsimp only [go_sem,rA,rM,rS]
       have hRl:=hI.len
       (repeat first | dsimp only [go_sem,rA,rM,rS] | simp only [nbr])
       refine ⟨by simp [ZW,Wy,Zab],by simp;omega,?_⟩
       (repeat first | dsimp only [go_sem,rA,rM,rS] | simp only [nbr])
       rw [Zf (n:=(k:Int)+1) (by omega) (by omega)]
       rw [if_pos ⟨hg,hd⟩] at hst
       refine ⟨(k+1,mset cl l[k].id l[k] L,mclk cl l[k].id L,v+1,R ++ [l[k]]),hst,by simp only;omega,?_⟩
       (refine Zi ?_ ?_ ?_ rfl rfl<;>dsimp only [Zc,ltV,Zh,Za,Zj,id,go_sem,rA,rM,rS]<;>simp [Zc,ltV,Zh,Za,Zj,Zb,Ze,KFR,KFL,KF,Zd,mtO,nbr])
     . refine Zu (by simpa using hd) ?_
       dsimp only [go_sem,rA,rM,rS]
       rw [Zf (n:=(k:Int)+1) (by omega) (by omega)]
       rw [if_neg (by intro q;exact hd q.2)] at hst
       refine ⟨(k+1,mset cl l[k].id l[k] L,mclk cl l[k].id L,v,R),hst,by simp only;omega,?_⟩
       (refine Zi ?_ ?_ ?_ rfl rfl<;>dsimp only [Zc,ltV,Zh,Za,Zj,id,go_sem,rA,rM,rS]<;>simp [Zc,ltV,Zh,Za,Zj,Zb,Ze,KFR,KFL,KF,Zd,mtO,nbr])
 refine Zu (by simpa using hlt) ?_
 dsimp only [go_sem,rA,rM,rS]
 refine gh (WN 8 2 v rfl rfl rfl rfl) ?_
 dsimp only [go_sem,rA,rM,rS]
 have hkl:k=l.length:=by omega
 have hone:=hI.one
 have hrows:=hI.rows
 rw [hkl,List.take_length] at hone hrows
 have h2:ZgD l=false:=Zej hone
 have he:YS p l=0:=by simp only [YS,hp,hall,h2];simp [h100]
 have hRl:=hI.len
 have hsm:Zif R:=fun x hx=>by
  rw [hrows] at hx
  have:=List.all_eq_true.1 hall x (Wt hx).1
  simp only [Zk,Bool.and_eq_true,inR,decide_eq_true_eq] at this
  exact this.1.1
 refine call (Zyy R hsm (by rw [hrows];exact Ww) (by omega) false) ?_
 dsimp only [go_sem,rA,rM,rS]
 refine ⟨_,rfl,?_⟩
 rw [ZdU,he,if_pos rfl,Xi,<- hrows]
 exact Zak.rfl
end Go.Proofs.Ythilckbkffjliaa
namespace Go.Azalai
open Go.Sx
structure Bks where
 loans:List (Nat × Int × (Int × Int))
 cl:Nat
 dead:List (Nat × Int × Bool)
 cd:Nat
 known:List (Nat × Int × Bool)
 ck:Nat
 debts:List (Nat × (Int × Int) × Int)
 cb:Nat
 extra:List (Nat × Int × Int)
 ce:Nat
 result:Int
def Ztv:Bks:=⟨[],0,[],0,[],0,[],0,[],0,0⟩
structure BkR (n:Nat) (c:Co) (b:Bks):Prop where
 lo:∀ a,mget a b.loans=c.loans a
 de:∀ a,(mget a b.dead).getD false=c.dead a
 kn:∀ a,(mget a b.known).getD false=c.known a
 db:∀ x y,(mget (x,y) b.debts).getD 0=c.debts x y
 ex:∀ i,(mget i b.extra).getD 0=c.extra i
 re:b.result=c.result
 w1:MW b.loans b.cl
 w2:MW b.dead b.cd
 w3:MW b.known b.ck
 w4:MW b.debts b.cb
 w5:MW b.extra b.ce
 sb:∀ a l,c.loans a=some l->0<=l.2/\l.2<=100000
 rb:-(n * 100000000:Int)<=c.result/\c.result<=n * 100000000
 eb:∀ i,-(n * 100000000:Int)<=c.extra i/\c.extra i<=n * 100000000
 bb:∀ x y,-(n * 100000000:Int)<=c.debts x y/\c.debts x y<=n * 100000000
 ln:b.loans.length<=n
 dn:b.debts.length<=n
theorem BkR.start:BkR 0 co0 Ztv:=by
 constructor
 case w1=>exact MW.nil
 case w2=>exact MW.nil
 case w3=>exact MW.nil
 case w4=>exact MW.nil
 case w5=>exact MW.nil
 all_goals (try intros);simp_all [co0,Ztv,mget]
theorem BkR.next {n:Nat} {c:Co} {b:Bks} (h:BkR n c b):BkR (n+1) c b :=
 ⟨h.lo,h.de,h.kn,h.db,h.ex,h.re,h.w1,h.w2,h.w3,h.w4,h.w5,h.sb,by have:=h.rb;omega,fun i=>by have:=h.eb i;omega,fun x y=>by have:=h.bb x y;omega,by have:=h.ln;omega,by have:=h.dn;omega⟩
theorem BkR.res {n:Nat} {c:Co} {b:Bks} (h:BkR n c b) {v:Int} (hv:-100000000<=v - c.result/\v - c.result<=100000000):BkR (n+1) { c with result:=v } { b with result:=v } :=
 ⟨h.lo,h.de,h.kn,h.db,h.ex,rfl,h.w1,h.w2,h.w3,h.w4,h.w5,h.sb,by have:=h.rb;simp only;omega,fun i=>by have:=h.eb i;simp only;omega,fun x y=>by have:=h.bb x y;simp only;omega,by have:=h.ln;simp only;omega,by have:=h.dn;simp only;omega⟩
theorem ZcR {V:Type} {L:List (Nat × Int × V)} {f:Int->V} {d v:V} {k:Int} {c:Nat} (h:∀ i,(mget i L).getD d=f i) (i:Int):(mget i (mset c k v L)).getD d=upd f k v i:=by
 rw [mget_set,upd]
 by_cases q:i=k
 . rw [if_pos q,if_pos q];rfl
 . rw [if_neg q,if_neg q,h]
theorem Zcx {h t:Int} (h0:0<=h) (h1:h<=1000) (t0:-100000<=t) (t1:t<=100000):-100000000<=h * t/\h * t<=100000000:=by
 have q1:h * t<=h * 100000:=Int.mul_le_mul_of_nonneg_left t1 h0
 have q2:h * -100000<=h * t:=Int.mul_le_mul_of_nonneg_left t0 h0
 omega
def Y9 (p:Pact) (c:Co) (b:Bks) (a d:Int) (l:Int × Int):Bks :=
 { b with loans:=UT a b.loans,extra:=mset b.ce l.1 (c.extra l.1+p.hire * (d - l.2)) b.extra,ce:=mclk b.ce l.1 b.extra,result:=c.result - p.hire * (d - l.2) }
theorem BkR.home {p:Pact} {n:Nat} {c:Co} {b:Bks} (h:BkR n c b) (hp:0<=p.hire/\p.hire<=1000) {a d:Int} {l:Int × Int} (hl:c.loans a=some l) (hd:0<=d/\d<=100000):BkR (n+1) (ZN p c a d l) (Y9 p c b a d l):=by
 have hs:=h.sb a l hl
 have hb:=Zcx (h:=p.hire) (t:=d - l.2) hp.1 hp.2 (by omega) (by omega)
 refine ⟨fun i=>?_,h.de,h.kn,h.db,fun i=>ZcR h.ex i,rfl,h.w1.del,h.w2,h.w3,h.w4,h.w5.set _,fun i m hi=>?_,?_,fun i=>?_,fun x y=>?_,?_,by have:=h.dn;simp only [Y9];omega⟩
 . simp only [Y9,ZN,upd]
   rw [ZfP h.w1.kn,h.lo]
 . simp only [ZN,upd] at hi
   split at hi
   . cases hi
   . exact h.sb i m hi
 . have:=h.rb
   simp only [ZN];omega
 . have h1:=h.eb i
   have h2:=h.eb l.1
   simp only [ZN,upd]
   split<;>omega
 . have:=h.bb x y
   simp only [ZN];omega
 . have:=h.ln
   have h2:(UT a b.loans).length<=b.loans.length:=(V5).length_le
   simp only [Y9];omega
theorem BkR.lent {n:Nat} {c:Co} {b:Bks} (h:BkR n c b) {a who d:Int} (hd:0<=d/\d<=100000):BkR (n+1) { c with loans:=upd c.loans a (some (who,d)) } { b with loans:=mset b.cl a (who,d) b.loans,cl:=mclk b.cl a b.loans }:=by
 refine ⟨fun i=>?_,h.de,h.kn,h.db,h.ex,h.re,h.w1.set _,h.w2,h.w3,h.w4,h.w5,fun i m hi=>?_,by have:=h.rb;simp only;omega,fun i=>by have:=h.eb i;simp only;omega,fun x y=>by have:=h.bb x y;simp only;omega,?_,by have:=h.dn;simp only;omega⟩
 . simp only [upd]
   rw [mget_set,h.lo]
 . simp only [upd] at hi
   split at hi
   . cases hi;exact hd
   . exact h.sb i m hi
 . have h1:=h.ln
   have h2:∀ {L:List (Nat × Int × (Int × Int))} {c:Nat} {k:Int} {v:Int × Int},(mset c k v L).length<=L.length+1:=by
    intro L
    induction L with
    | nil=>intro c k v;simp [mset]
    | cons e l ih =>
     intro c k v
     simp only [mset]
     split
     . simp
     . have:=@ih c k v;simp;omega
   have:=@h2 b.loans b.cl a (who,d)
   simp only;omega
theorem BkR.kill {n:Nat} {c:Co} {b:Bks} (h:BkR n c b) {a:Int}:BkR n { c with dead:=upd c.dead a true } { b with dead:=mset b.cd a true b.dead,cd:=mclk b.cd a b.dead } :=
 ⟨h.lo,fun i=>ZcR h.de i,h.kn,h.db,h.ex,h.re,h.w1,h.w2.set _,h.w3,h.w4,h.w5,h.sb,h.rb,h.eb,h.bb,h.ln,h.dn⟩
theorem BkR.calf {n:Nat} {c:Co} {b:Bks} (h:BkR n c b) {who other v r:Int} (hv:-100000000<=v - c.extra who/\v - c.extra who<=100000000) (hr:-100000000<=r - c.result/\r - c.result<=100000000) :
 BkR (n+1) { c with extra:=upd c.extra who v,result:=r,known:=upd c.known other true } { b with extra:=mset b.ce who v b.extra,ce:=mclk b.ce who b.extra,result:=r,known:=mset b.ck other true b.known,ck:=mclk b.ck other b.known }:=by
 refine ⟨h.lo,h.de,fun i=>ZcR h.kn i,h.db,fun i=>ZcR h.ex i,rfl,h.w1,h.w2,h.w3.set _,h.w4,h.w5.set _,h.sb,by have:=h.rb;simp only;omega,fun i=>?_,fun x y=>by have:=h.bb x y;simp only;omega,by have:=h.ln;simp only;omega,by have:=h.dn;simp only;omega⟩
 have h1:=h.eb i
 have h2:=h.eb who
 simp only [upd]
 split<;>omega
theorem Ze5 {K V:Type} [DecidableEq K] {k:K} {v:V} {c:Nat}:∀ {L:List (Nat × K × V)},(mset c k v L).length<=L.length+1
 | []=>by simp [mset]
 | e :: l=>by
  simp only [mset]
  split
  . simp
  . have:=Ze5 (k:=k) (v:=v) (c:=c) (L:=l);simp;omega
theorem BkR.debt {n:Nat} {c:Co} {b:Bks} (h:BkR n c b) {who other v:Int} (hv:-100000000<=v - c.debts who other/\v - c.debts who other<=100000000) :
 BkR (n+1) { c with debts:=upd c.debts who (upd (c.debts who) other v) } { b with debts:=mset b.cb (who,other) v b.debts,cb:=mclk b.cb (who,other) b.debts }:=by
 refine ⟨h.lo,h.de,h.kn,fun x y=>?_,h.ex,h.re,h.w1,h.w2,h.w3,h.w4.set _,h.w5,h.sb,by have:=h.rb;simp only;omega,fun i=>by have:=h.eb i;simp only;omega,fun x y=>?_,by have:=h.ln;simp only;omega,by have:=h.dn;have q:=Ze5 (L:=b.debts) (c:=b.cb) (k:=(who,other)) (v:=v);simp only;omega⟩
 . simp only
   rw [mget_set]
   by_cases hx:x=who
   . subst hx
     by_cases hy:y=other
     . subst hy;simp [upd]
     . rw [if_neg (by simp [hy]),h.db];simp [upd,hy]
   . rw [if_neg (by simp [hx]),h.db];simp [upd,hx]
 . have h1:=h.bb x y
   have h2:=h.bb who other
   simp only [upd]
   by_cases hx:x=who
   . subst hx
     rw [if_pos rfl]
     simp only [upd]
     split
     . rename_i q;subst q;omega
     . omega
   . rw [if_neg hx];omega
end Go.Azalai
namespace Go.Proofs.Ythilckbkffjliaa
open Go Go.Sx Go.Azalai
theorem u99:Try.prog.underlying 99=some (.map 3 150):=by kernel_rfl
theorem u71:Try.prog.underlying 71=some (.map 3 4):=by kernel_rfl
theorem Ztb:Try.prog.underlying 101=some (.map 3 3):=by kernel_rfl
theorem Zwx:Try.prog.underlying 100=some (.map 105 3):=by kernel_rfl
theorem U4:KeyT Try.prog 105 (fun n:Int × Int=>.agg #[.int .i64 n.1,.int .i64 n.2]) (fun n=>.agg [.v (.int .i64 n.1),.v (.int .i64 n.2)]):=key64 (by kernel_rfl) u3 (by kernel_rfl) (by kernel_rfl) (by kernel_rfl) (by kernel_rfl)
abbrev kP:Int × Int->Value:=fun n=>.agg #[.int .i64 n.1,.int .i64 n.2]
abbrev sP:Int × Int->SV:=fun n=>.agg [.v (.int .i64 n.1),.v (.int .i64 n.2)]
def Zr (l:Int × Int):SV:=.agg [I l.1,I l.2]
def ZB (n:Int):SV:=I n
def ZP (b:Bool):SV:=B b
def bH (p:Pact) (b:Bks):List (Nat × HB):=[(0,.map (mpS kI Zr b.loans) b.cl),(1,.map (mpS kI ZP b.dead) b.cd),(2,.map (mpS kI ZP b.known) b.ck),(3,.map (mpS kP ZB b.debts) b.cb),(4,.map (mpS kI ZB b.extra) b.ce),
 (5,.cells [.sl false 3 (p.partners.map Za),I p.calf,I p.hire,I p.ends,.mp 0,.mp 1,.mp 2,.mp 3,.mp 4,I b.result] 103)]
def Yk (p:Pact) (b:Bks):Ot:=⟨false,.tup [],bH p b,6⟩
def Yi (w:Int) (p:Pact) (b:Bks):Ot:=⟨true,.ifc 145 (U8 w),bH p b,6⟩
theorem XM (p:Pact) (b:Bks):KXP (bH p b):=by
 simp [bH,KXP,KXH,KXL,KX,Zj,Zb,Zr,ZB,ZP,KF,KFL,Za]
theorem Zbl:Z5 Try.prog 150=some (.agg #[.int .i64 0,.int .i64 0]):=by kernel_rfl
theorem ZAQ:∀ w E n ok,R w E n ok (Zr (0,0)) (.agg #[.int .i64 0,.int .i64 0]):=fun w E n ok=>by
 simp only [Zr,R,RL];exact ⟨_,rfl,_,_,rfl,rfl,_,_,rfl,rfl,rfl⟩
theorem ZbG:Z5 Try.prog 3=some (.int .i64 0):=by kernel_rfl
theorem Zl3:∀ w E n ok,R w E n ok (ZB 0) (.int .i64 0):=fun w E n ok=>by simp only [ZB,R]
theorem Zdo:Z5 Try.prog 4=some (.bool false):=by kernel_rfl
theorem Zr0:∀ w E n ok,R w E n ok (ZP false) (.bool false):=fun w E n ok=>by simp only [ZP,R]
theorem ZeU:ZdD Try.prog 145=true:=by kernel_rfl
theorem Yp (w:Int):CtM Try.prog 111 [] 0 [B false,U8 w] (fun o=>o=⟨false,.tup [],[],0⟩):=by
 refine m111 (by simp [hpb]) (fun o ho=>by subst ho;simp [KX,KXL,KXP]) ?_
 dsimp only [ZBk,ZA5,go_sem,rA,rM,rS]
 refine Zu rfl ?_
 dsimp only [go_sem,rA,rM,rS]
 refine ⟨_,rfl,?_⟩
 (refine Zo ?_ ?_ ?_ rfl<;>dsimp only [id,go_sem,rA,rM,rS]<;>simp [Zb,Ze,KFR,KFL,KF,Zd,mtO,nbr])
theorem XH (w:Int):CtM Try.prog 111 [] 0 [B true,U8 w] (fun o=>o=⟨true,.ifc 145 (U8 w),[],0⟩):=by
 refine m111 (by simp [hpb]) (fun o ho=>by subst ho;simp [KX,KXL,KXP]) ?_
 dsimp only [ZBk,ZA5,go_sem,rA,rM,rS]
 refine Zw rfl ?_
 dsimp only [go_sem,rA,rM,rS]
 refine ZhX (s:=U8 w) ZeU rfl (fun _ _ _ e=>by cases e) ?_
 dsimp only [go_sem,rA,rM,rS]
 refine Zjn rfl ?_
 dsimp only [go_sem,rA,rM,rS]
 refine ⟨_,rfl,?_⟩
 (refine Zo ?_ ?_ ?_ rfl<;>dsimp only [id,go_sem,rA,rM,rS]<;>simp [Zb,Ze,KFR,KFL,KF,Zd,mtO,nbr])
theorem Zt1 {p:Pact} {n:Nat} {c:Co} {b:Bks} (h:BkR n c b) (hn:n<=1000) (x:Letter) (hx:inR 0 10000000 x.rials=true) :
 CtM Try.prog 95 (bH p b) 6 [.p 5 0,.agg (Zc x)] (fun o=>∃ b',BkR (n+1) { c with result:=c.result+x.rials } b'/\o=Yk p b'):=by
 refine m95 (by simp [hpb,bH]) (fun o ho=>by obtain ⟨b',-,rfl⟩:=ho;exact ⟨by simp [Yk,KX,KXL],XM p b'⟩) ?_
 simp only [inR,decide_eq_true_eq] at hx
 have hr:=h.rb
 have hre:=h.re
 dsimp only [c95,r95,bH,Zc,go_sem,rA,rM,rS]
 rw [hre,Zf (n:=c.result+x.rials) (by omega) (by omega)]
 refine ⟨_,⟨_,h.res (v:=c.result+x.rials) (by omega),rfl⟩,?_⟩
 try simp only [Yk,bH]
 (refine Zo ?_ ?_ ?_ rfl<;>dsimp only [Zj,Zr,ZB,ZP,Za,id,go_sem,rA,rM,rS]<;>simp [Zj,Zr,ZB,ZP,Za,Zb,Ze,KFR,KFL,KF,Zd,mtO,nbr])
theorem Zpx {p:Pact} {n:Nat} {c:Co} {b:Bks} (h:BkR n c b) (hn:n<=1000) (x:Letter) (hx:inR 0 10000000 x.rials=true) :
 CtM Try.prog 96 (bH p b) 6 [.p 5 0,.agg (Zc x)] (fun o=>∃ b',BkR (n+1) { c with result:=c.result - x.rials } b'/\o=Yk p b'):=by
 refine m96 (by simp [hpb,bH]) (fun o ho=>by obtain ⟨b',-,rfl⟩:=ho;exact ⟨by simp [Yk,KX,KXL],XM p b'⟩) ?_
 simp only [inR,decide_eq_true_eq] at hx
 have hr:=h.rb
 have hre:=h.re
 dsimp only [c96,r96,bH,Zc,go_sem,rA,rM,rS]
 rw [hre,Zf (n:=c.result - x.rials) (by omega) (by omega)]
 refine ⟨_,⟨_,h.res (v:=c.result - x.rials) (by omega),rfl⟩,?_⟩
 try simp only [Yk,bH]
 (refine Zo ?_ ?_ ?_ rfl<;>dsimp only [Zj,Zr,ZB,ZP,Za,id,go_sem,rA,rM,rS]<;>simp [Zj,Zr,ZB,ZP,Za,Zb,Ze,KFR,KFL,KF,Zd,mtO,nbr])
theorem ZwD {p:Pact} {n:Nat} {c:Co} {b:Bks} (h:BkR n c b) (a:Int) (hl:c.loans a=none):CtM Try.prog 112 (bH p b) 6 [.p 5 0,I a] (fun o=>o=Yi 3 p b):=by
 refine m112 (by simp [hpb,bH]) (fun o ho=>by subst ho;exact ⟨by simp [Yi,KX],XM p b⟩) ?_
 dsimp only [ZBt,ZBm,bH,go_sem,rA,rM,rS]
 refine Xv (key:=kI) (val:=Zr) (sv:=sI) (L:=b.loans) (k:=a) (zs:=Zr (0,0)) rfl rfl u99 VG rfl Zbl ZAQ (fun v hg=>?_) (fun hg=>?_)
 . rw [h.lo,hl] at hg;cases hg
 dsimp only [Zr,go_sem,rA,rM,rS]
 refine Zs [] (XH 3) rfl rfl rfl ?_ ?_ ?_
 . (repeat first | dsimp only [go_sem,rA,rM,rS] | simp only [nbr])
   try simp [mtL,mtB,mtS]
 . trivial
 rintro _ rfl
 (repeat first | dsimp only [go_sem,rA,rM,rS] | simp only [nbr])
 refine ⟨_,rfl,?_⟩
 try simp only [Yi,bH]
 (refine Zo ?_ ?_ ?_ rfl<;>dsimp only [Zj,Zr,ZB,ZP,Za,id,go_sem,rA,rM,rS]<;>simp [Zj,Zr,ZB,ZP,Za,Zb,Ze,KFR,KFL,KF,Zd,mtO,nbr])
theorem Zlr {p:Pact} {n:Nat} {c:Co} {b:Bks} (h:BkR n c b) (a:Int) {l:Int × Int} (hl:c.loans a=some l):CtM Try.prog 112 (bH p b) 6 [.p 5 0,I a] (fun o=>o=⟨false,Zr l,bH p b,6⟩):=by
 refine m112 (by simp [hpb,bH]) (fun o ho=>by subst ho;exact ⟨by simp [Zr,KX,KXL],XM p b⟩) ?_
 dsimp only [ZBt,ZBm,bH,go_sem,rA,rM,rS]
 refine Xv (key:=kI) (val:=Zr) (sv:=sI) (L:=b.loans) (k:=a) (zs:=Zr (0,0)) rfl rfl u99 VG rfl Zbl ZAQ (fun v hg=>?_) (fun hg=>?_)
 . rw [h.lo,hl] at hg;cases hg
   dsimp only [Zr,go_sem,rA,rM,rS]
   refine Zs [] (Yp 3) rfl rfl rfl ?_ ?_ ?_
   . (repeat first | dsimp only [go_sem,rA,rM,rS] | simp only [nbr])
     try simp [mtL,mtB,mtS]
   . trivial
   rintro _ rfl
   (repeat first | dsimp only [go_sem,rA,rM,rS] | simp only [nbr])
   refine ⟨_,rfl,?_⟩
   try simp only [bH]
   (refine Zo ?_ ?_ ?_ rfl<;>dsimp only [Zj,Zr,ZB,ZP,Za,id,go_sem,rA,rM,rS]<;>simp [Zj,Zr,ZB,ZP,Za,Zb,Ze,KFR,KFL,KF,Zd,mtO,nbr])
 . rw [h.lo,hl] at hg;cases hg
theorem Zen {p:Pact} {n:Nat} {c:Co} {b:Bks} (h:BkR n c b) (a d:Int) (hl:c.loans a=none):CtM Try.prog 107 (bH p b) 6 [.p 5 0,I a,I d] (fun o=>o=Yi 3 p b):=by
 refine m107 (by simp [hpb,bH]) (fun o ho=>by subst ho;exact ⟨by simp [Yi,KX],XM p b⟩) ?_
 dsimp only [ZAV,ZBa,bH,go_sem,rA,rM,rS]
 refine Zs [0,1,2,3,4,5] (ZwD (p:=p) h a hl) rfl rfl rfl ?_ ?_ ?_
 . (repeat first | dsimp only [bH,go_sem,rA,rM,rS] | simp only [nbr])
   try simp [mtL,mtB,mtS]
 . (repeat first | dsimp only [bH,go_sem,rA,rM,rS] | simp only [nbr])
   try simp [Zj,Zr,ZB,ZP,Za,Zb,KFL,KF]
 rintro _ rfl
 (repeat first | dsimp only [Yi,bH,go_sem,rA,rM,rS] | simp only [nbr])
 refine ⟨_,rfl,?_⟩
 try simp only [Yi,bH]
 (refine Zo ?_ ?_ ?_ rfl<;>dsimp only [Zj,Zr,ZB,ZP,Za,id,go_sem,rA,rM,rS]<;>simp [Zj,Zr,ZB,ZP,Za,Zb,Ze,KFR,KFL,KF,Zd,mtO,nbr])
theorem Zaq {p:Pact} {n:Nat} {c:Co} {b:Bks} (h:BkR n c b) (hn:n<=1000) (hp:0<=p.hire/\p.hire<=1000) (a d:Int) (hd:0<=d/\d<=100000) {l:Int × Int} (hl:c.loans a=some l) :
 CtM Try.prog 107 (bH p b) 6 [.p 5 0,I a,I d] (fun o=>o=Yk p (Y9 p c b a d l)):=by
 refine m107 (by simp [hpb,bH]) (fun o ho=>by subst ho;exact ⟨by simp [Yk,KX,KXL],XM p _⟩) ?_
 have hs:=h.sb a l hl
 have hb:=Zcx (h:=p.hire) (t:=d - l.2) hp.1 hp.2 (by omega) (by omega)
 have hr:=h.rb
 have he:=h.eb l.1
 have hre:=h.re
 dsimp only [ZAV,ZBa,bH,go_sem,rA,rM,rS]
 refine Zs [0,1,2,3,4,5] (Zlr (p:=p) h a hl) rfl rfl rfl ?_ ?_ ?_
 . (repeat first | dsimp only [bH,go_sem,rA,rM,rS] | simp only [nbr])
   try simp [mtL,mtB,mtS]
 . (repeat first | dsimp only [bH,go_sem,rA,rM,rS] | simp only [nbr])
   try simp [Zj,Zr,ZB,ZP,Za,Zb,KFL,KF]
 rintro _ rfl
 (repeat first | dsimp only [Zr,bH,go_sem,rA,rM,rS] | simp only [nbr])
 rw [Zf (n:=d - l.2) (by omega) (by omega),Zf (n:=p.hire * (d - l.2)) (by omega) (by omega),hre,Zf (n:=c.result - p.hire * (d - l.2)) (by omega) (by omega)]
 have hrv:=fun σ h1 h2 h3=>Ui (P:=Try.prog) (t:=101) (σ:=σ) (i:=32) (j:=34) (ok:=false) (km:=4) (c:=b.ce) (key:=kI) (val:=ZB) (sv:=sI) (L:=b.extra) (k:=l.1) (zs:=ZB 0) h1 h2 h3 Ztb VG ZbG Zl3
 refine ⟨_,hrv _ rfl rfl rfl,?_⟩
 rw [show lkS false ZB (ZB 0) (mget l.1 b.extra)=ZB (c.extra l.1) from by rw [<- h.ex];cases mget l.1 b.extra<;>rfl]
 dsimp only [ZB,go_sem,rA,rM,rS]
 rw [Zf (n:=c.extra l.1+p.hire * (d - l.2)) (by omega) (by omega)]
 refine YB (key:=kI) (val:=ZB) (sv:=sI) (L:=b.extra) (k:=l.1) (v:=c.extra l.1+p.hire * (d - l.2)) (ins:=false) rfl rfl Ztb VG rfl rfl (fun _ _ _ e=>by cases e) ?_
 dsimp only [go_sem,rA,rM,rS]
 refine ZvV (key:=kI) (val:=Zr) (sv:=sI) (L:=b.loans) (k:=a) rfl rfl u99 VG rfl rfl ?_
 dsimp only [go_sem,rA,rM,rS]
 refine ⟨_,rfl,?_⟩
 try simp only [Yk,bH,Y9]
 (refine Zo ?_ ?_ ?_ rfl<;>dsimp only [Zj,Zr,ZB,ZP,Za,id,go_sem,rA,rM,rS]<;>simp [Zj,Zr,ZB,ZP,Za,Zb,Ze,KFR,KFL,KF,Zd,mtO,nbr])
theorem Zxd {p:Pact} {n:Nat} {c:Co} {b:Bks} (h:BkR n c b) (x:Letter) (hl:c.loans x.animal=none) :
 CtM Try.prog 100 (bH p b) 6 [.p 5 0,.agg (Zc x)] (fun o=>o=Yi 3 p b):=by
 refine m100 (by simp [hpb,bH]) (fun o ho=>by subst ho;exact ⟨by simp [Yi,KX],XM p b⟩) ?_
 dsimp only [ZBj,ZA0,bH,Zc,go_sem,rA,rM,rS]
 refine Zs [0,1,2,3,4,5] (Zen (p:=p) h x.animal x.day hl) rfl rfl rfl ?_ ?_ ?_
 . (repeat first | dsimp only [bH,go_sem,rA,rM,rS] | simp only [nbr])
   try simp [mtL,mtB,mtS]
 . (repeat first | dsimp only [bH,go_sem,rA,rM,rS] | simp only [nbr])
   try simp [Zj,Zr,ZB,ZP,Za,Zb,KFL,KF]
 rintro _ rfl
 (repeat first | dsimp only [Yi,bH,go_sem,rA,rM,rS] | simp only [nbr])
 refine ⟨_,rfl,?_⟩
 try simp only [Yk,Yi,bH,Y9]
 (refine Zo ?_ ?_ ?_ rfl<;>dsimp only [Zj,Zr,ZB,ZP,Za,id,go_sem,rA,rM,rS]<;>simp [Zj,Zr,ZB,ZP,Za,Zb,Ze,KFR,KFL,KF,Zd,mtO,nbr])
theorem Zqv {p:Pact} {n:Nat} {c:Co} {b:Bks} (h:BkR n c b) (hn:n<=1000) (hp:0<=p.hire/\p.hire<=1000) (x:Letter) (hd:0<=x.day/\x.day<=100000) {l:Int × Int} (hl:c.loans x.animal=some l) :
 CtM Try.prog 100 (bH p b) 6 [.p 5 0,.agg (Zc x)] (fun o=>∃ b',BkR (n+1) (ZN p c x.animal x.day l) b'/\o=Yk p b'):=by
 refine m100 (by simp [hpb,bH]) (fun o ho=>by obtain ⟨b',-,rfl⟩:=ho;exact ⟨by simp [Yk,KX,KXL],XM p b'⟩) ?_
 dsimp only [ZBj,ZA0,bH,Zc,go_sem,rA,rM,rS]
 refine Zs [0,1,2,3,4,5] (Zaq (p:=p) h hn hp x.animal x.day hd hl) rfl rfl rfl ?_ ?_ ?_
 . (repeat first | dsimp only [bH,go_sem,rA,rM,rS] | simp only [nbr])
   try simp [mtL,mtB,mtS]
 . (repeat first | dsimp only [bH,go_sem,rA,rM,rS] | simp only [nbr])
   try simp [Zj,Zr,ZB,ZP,Za,Zb,KFL,KF]
 rintro _ rfl
 (repeat first | dsimp only [Yk,bH,go_sem,rA,rM,rS] | simp only [nbr])
 refine ⟨_,⟨_,h.home hp hl hd,rfl⟩,?_⟩
 try simp only [Yk,Yi,bH,Y9]
 (refine Zo ?_ ?_ ?_ rfl<;>dsimp only [Zj,Zr,ZB,ZP,Za,id,go_sem,rA,rM,rS]<;>simp [Zj,Zr,ZB,ZP,Za,Zb,Ze,KFR,KFL,KF,Zd,mtO,nbr])
theorem Zje {p:Pact} {n:Nat} {c:Co} {b:Bks} (h:BkR n c b) (x:Letter) (hx:c.dead x.animal=true) :
 CtM Try.prog 101 (bH p b) 6 [.p 5 0,.agg (Zc x)] (fun o=>o=Yi 2 p b):=by
 refine m101 (by simp [hpb,bH]) (fun o ho=>by subst ho;exact ⟨by simp [Yi,KX],XM p b⟩) ?_
 dsimp only [Zzl,Zy2,bH,Zc,go_sem,rA,rM,rS]
 have hq:=h.de x.animal
 rw [hx] at hq
 refine Xv (key:=kI) (val:=ZP) (sv:=sI) (L:=b.dead) (k:=x.animal) (zs:=ZP false) rfl rfl u71 VG rfl Zdo Zr0 (fun v hg=>?_) (fun hg=>?_)
 case refine_2=>rw [hg] at hq;cases hq
 rw [hg] at hq
 have hq:v=true:=hq
 subst hq
 dsimp only [ZP,go_sem,rA,rM,rS]
 refine Zs [] (XH 2) rfl rfl rfl ?_ ?_ ?_
 . (repeat first | dsimp only [go_sem,rA,rM,rS] | simp only [nbr])
   try simp [mtL,mtB,mtS]
 . trivial
 rintro _ rfl
 (repeat first | dsimp only [go_sem,rA,rM,rS] | simp only [nbr])
 refine ⟨_,rfl,?_⟩
 try simp only [Yk,Yi,bH,Y9]
 (refine Zo ?_ ?_ ?_ rfl<;>dsimp only [Zj,Zr,ZB,ZP,Za,id,go_sem,rA,rM,rS]<;>simp [Zj,Zr,ZB,ZP,Za,Zb,Ze,KFR,KFL,KF,Zd,mtO,nbr])
theorem ZvB {p:Pact} {n:Nat} {c:Co} {b:Bks} (h:BkR n c b) (x:Letter) (hx:c.dead x.animal=false) (hl:c.loans x.animal=none) :
 CtM Try.prog 101 (bH p b) 6 [.p 5 0,.agg (Zc x)] (fun o=>o=Yi 3 p b):=by
 refine m101 (by simp [hpb,bH]) (fun o ho=>by subst ho;exact ⟨by simp [Yi,KX],XM p b⟩) ?_
 dsimp only [Zzl,Zy2,bH,Zc,go_sem,rA,rM,rS]
 have hq:=h.de x.animal
 rw [hx] at hq
 have hrw:∀ v,mget x.animal b.dead=some v->v=false:=fun v hg=>by rw [hg] at hq;exact hq
 refine Xv (key:=kI) (val:=ZP) (sv:=sI) (L:=b.dead) (k:=x.animal) (zs:=ZP false) rfl rfl u71 VG rfl Zdo Zr0 (fun v hg=>?_) (fun hg=>?_)
 . have:=hrw v hg;subst this
   dsimp only [ZP,go_sem,rA,rM,rS]
   refine Zs [] (Yp 2) rfl rfl rfl ?_ ?_ ?_
   . (repeat first | dsimp only [go_sem,rA,rM,rS] | simp only [nbr])
     try simp [mtL,mtB,mtS]
   . trivial
   rintro _ rfl
   (repeat first | dsimp only [go_sem,rA,rM,rS] | simp only [nbr])
   refine Zs [0,1,2,3,4,5] (Zen (p:=p) h x.animal x.day hl) rfl rfl rfl ?_ ?_ ?_
   . (repeat first | dsimp only [bH,go_sem,rA,rM,rS] | simp only [nbr])
     try simp [mtL,mtB,mtS]
   . (repeat first | dsimp only [bH,go_sem,rA,rM,rS] | simp only [nbr])
     try simp [Zj,Zr,ZB,ZP,Za,Zb,KFL,KF]
   rintro _ rfl
   (repeat first | dsimp only [Yi,bH,go_sem,rA,rM,rS] | simp only [nbr])
   refine ⟨_,rfl,?_⟩
   try simp only [Yk,Yi,bH,Y9]
   (refine Zo ?_ ?_ ?_ rfl<;>dsimp only [Zj,Zr,ZB,ZP,Za,id,go_sem,rA,rM,rS]<;>simp [Zj,Zr,ZB,ZP,Za,Zb,Ze,KFR,KFL,KF,Zd,mtO,nbr])
 . skip
   dsimp only [ZP,go_sem,rA,rM,rS]
   refine Zs [] (Yp 2) rfl rfl rfl ?_ ?_ ?_
   . (repeat first | dsimp only [go_sem,rA,rM,rS] | simp only [nbr])
     try simp [mtL,mtB,mtS]
   . trivial
   rintro _ rfl
   (repeat first | dsimp only [go_sem,rA,rM,rS] | simp only [nbr])
   refine Zs [0,1,2,3,4,5] (Zen (p:=p) h x.animal x.day hl) rfl rfl rfl ?_ ?_ ?_
   . (repeat first | dsimp only [bH,go_sem,rA,rM,rS] | simp only [nbr])
     try simp [mtL,mtB,mtS]
   . (repeat first | dsimp only [bH,go_sem,rA,rM,rS] | simp only [nbr])
     try simp [Zj,Zr,ZB,ZP,Za,Zb,KFL,KF]
   rintro _ rfl
   (repeat first | dsimp only [Yi,bH,go_sem,rA,rM,rS] | simp only [nbr])
   refine ⟨_,rfl,?_⟩
   try simp only [Yk,Yi,bH,Y9]
   (refine Zo ?_ ?_ ?_ rfl<;>dsimp only [Zj,Zr,ZB,ZP,Za,id,go_sem,rA,rM,rS]<;>simp [Zj,Zr,ZB,ZP,Za,Zb,Ze,KFR,KFL,KF,Zd,mtO,nbr])
theorem Zp2 {p:Pact} {n:Nat} {c:Co} {b:Bks} (h:BkR n c b) (hn:n<=1000) (hp:0<=p.hire/\p.hire<=1000) (x:Letter) (hd:0<=x.day/\x.day<=100000) (hx:c.dead x.animal=false) {l:Int × Int} (hl:c.loans x.animal=some l) :
 CtM Try.prog 101 (bH p b) 6 [.p 5 0,.agg (Zc x)] (fun o=>∃ b',BkR (n+1) { ZN p c x.animal x.day l with dead:=upd c.dead x.animal true } b'/\o=Yk p b'):=by
 refine m101 (by simp [hpb,bH]) (fun o ho=>by obtain ⟨b',-,rfl⟩:=ho;exact ⟨by simp [Yk,KX,KXL],XM p b'⟩) ?_
 dsimp only [Zzl,Zy2,bH,Zc,go_sem,rA,rM,rS]
 have hq:=h.de x.animal
 rw [hx] at hq
 have hrw:∀ v,mget x.animal b.dead=some v->v=false:=fun v hg=>by rw [hg] at hq;exact hq
 refine Xv (key:=kI) (val:=ZP) (sv:=sI) (L:=b.dead) (k:=x.animal) (zs:=ZP false) rfl rfl u71 VG rfl Zdo Zr0 (fun v hg=>?_) (fun hg=>?_)
 . have:=hrw v hg;subst this
   dsimp only [ZP,go_sem,rA,rM,rS]
   refine Zs [] (Yp 2) rfl rfl rfl ?_ ?_ ?_
   . (repeat first | dsimp only [go_sem,rA,rM,rS] | simp only [nbr])
     try simp [mtL,mtB,mtS]
   . trivial
   rintro _ rfl
   (repeat first | dsimp only [go_sem,rA,rM,rS] | simp only [nbr])
   refine Zs [0,1,2,3,4,5] (Zaq (p:=p) h hn hp x.animal x.day hd hl) rfl rfl rfl ?_ ?_ ?_
   . (repeat first | dsimp only [bH,go_sem,rA,rM,rS] | simp only [nbr])
     try simp [mtL,mtB,mtS]
   . (repeat first | dsimp only [bH,go_sem,rA,rM,rS] | simp only [nbr])
     try simp [Zj,Zr,ZB,ZP,Za,Zb,KFL,KF]
   rintro _ rfl
   (repeat first | dsimp only [Yk,bH,Y9,go_sem,rA,rM,rS] | simp only [nbr])
   refine YB (key:=kI) (val:=ZP) (sv:=sI) (L:=b.dead) (k:=x.animal) (v:=true) (ins:=false) rfl rfl u71 VG rfl rfl (fun _ _ _ e=>by cases e) ?_
   dsimp only [go_sem,rA,rM,rS]
   refine ⟨_,⟨_,(h.home hp hl hd).kill (a:=x.animal),rfl⟩,?_⟩
   try simp only [Yk,Yi,bH,Y9]
   (refine Zo ?_ ?_ ?_ rfl<;>dsimp only [Zj,Zr,ZB,ZP,Za,id,go_sem,rA,rM,rS]<;>simp [Zj,Zr,ZB,ZP,Za,Zb,Ze,KFR,KFL,KF,Zd,mtO,nbr])
 . skip
   dsimp only [ZP,go_sem,rA,rM,rS]
   refine Zs [] (Yp 2) rfl rfl rfl ?_ ?_ ?_
   . (repeat first | dsimp only [go_sem,rA,rM,rS] | simp only [nbr])
     try simp [mtL,mtB,mtS]
   . trivial
   rintro _ rfl
   (repeat first | dsimp only [go_sem,rA,rM,rS] | simp only [nbr])
   refine Zs [0,1,2,3,4,5] (Zaq (p:=p) h hn hp x.animal x.day hd hl) rfl rfl rfl ?_ ?_ ?_
   . (repeat first | dsimp only [bH,go_sem,rA,rM,rS] | simp only [nbr])
     try simp [mtL,mtB,mtS]
   . (repeat first | dsimp only [bH,go_sem,rA,rM,rS] | simp only [nbr])
     try simp [Zj,Zr,ZB,ZP,Za,Zb,KFL,KF]
   rintro _ rfl
   (repeat first | dsimp only [Yk,bH,Y9,go_sem,rA,rM,rS] | simp only [nbr])
   refine YB (key:=kI) (val:=ZP) (sv:=sI) (L:=b.dead) (k:=x.animal) (v:=true) (ins:=false) rfl rfl u71 VG rfl rfl (fun _ _ _ e=>by cases e) ?_
   dsimp only [go_sem,rA,rM,rS]
   refine ⟨_,⟨_,(h.home hp hl hd).kill (a:=x.animal),rfl⟩,?_⟩
   try simp only [Yk,Yi,bH,Y9]
   (refine Zo ?_ ?_ ?_ rfl<;>dsimp only [Zj,Zr,ZB,ZP,Za,id,go_sem,rA,rM,rS]<;>simp [Zj,Zr,ZB,ZP,Za,Zb,Ze,KFR,KFL,KF,Zd,mtO,nbr])
theorem Zkb {p:Pact} {n:Nat} {c:Co} {b:Bks} (h:BkR n c b) (x:Letter) {l:Int × Int} (hl:c.loans x.animal=some l) :
 CtM Try.prog 99 (bH p b) 6 [.p 5 0,.agg (Zc x)] (fun o=>o=Yi 1 p b):=by
 refine m99 (by simp [hpb,bH]) (fun o ho=>by subst ho;exact ⟨by simp [Yi,KX],XM p b⟩) ?_
 dsimp only [c99,r99,bH,Zc,go_sem,rA,rM,rS]
 have hrv:=fun σ h1 h2 h3=>Ui (P:=Try.prog) (t:=99) (σ:=σ) (i:=10) (j:=12) (ok:=true) (km:=0) (c:=b.cl) (key:=kI) (val:=Zr) (sv:=sI) (L:=b.loans) (k:=x.animal) (zs:=Zr (0,0)) h1 h2 h3 u99 VG Zbl ZAQ
 refine ⟨_,hrv _ rfl rfl rfl,?_⟩
 rw [h.lo,hl]
 dsimp only [lkS,Zr,go_sem,rA,rM,rS]
 refine Zs [] (XH 1) rfl rfl rfl ?_ ?_ ?_
 . (repeat first | dsimp only [go_sem,rA,rM,rS] | simp only [nbr])
   try simp [mtL,mtB,mtS]
 . trivial
 rintro _ rfl
 (repeat first | dsimp only [go_sem,rA,rM,rS] | simp only [nbr])
 refine ⟨_,rfl,?_⟩
 try simp only [Yk,Yi,bH,Y9]
 (refine Zo ?_ ?_ ?_ rfl<;>dsimp only [Zj,Zr,ZB,ZP,Za,id,go_sem,rA,rM,rS]<;>simp [Zj,Zr,ZB,ZP,Za,Zb,Ze,KFR,KFL,KF,Zd,mtO,nbr])
theorem Zkz {p:Pact} {n:Nat} {c:Co} {b:Bks} (h:BkR n c b) (x:Letter) (hl:c.loans x.animal=none) (hx:c.dead x.animal=true) :
 CtM Try.prog 99 (bH p b) 6 [.p 5 0,.agg (Zc x)] (fun o=>o=Yi 2 p b):=by
 refine m99 (by simp [hpb,bH]) (fun o ho=>by subst ho;exact ⟨by simp [Yi,KX],XM p b⟩) ?_
 dsimp only [c99,r99,bH,Zc,go_sem,rA,rM,rS]
 have hrv:=fun σ h1 h2 h3=>Ui (P:=Try.prog) (t:=99) (σ:=σ) (i:=10) (j:=12) (ok:=true) (km:=0) (c:=b.cl) (key:=kI) (val:=Zr) (sv:=sI) (L:=b.loans) (k:=x.animal) (zs:=Zr (0,0)) h1 h2 h3 u99 VG Zbl ZAQ
 refine ⟨_,hrv _ rfl rfl rfl,?_⟩
 rw [h.lo,hl]
 dsimp only [lkS,Zr,go_sem,rA,rM,rS]
 refine Zs [] (Yp 1) rfl rfl rfl ?_ ?_ ?_
 . (repeat first | dsimp only [go_sem,rA,rM,rS] | simp only [nbr])
   try simp [mtL,mtB,mtS]
 . trivial
 rintro _ rfl
 (repeat first | dsimp only [go_sem,rA,rM,rS] | simp only [nbr])
 have hq:=h.de x.animal
 rw [hx] at hq
 refine Xv (key:=kI) (val:=ZP) (sv:=sI) (L:=b.dead) (k:=x.animal) (zs:=ZP false) rfl rfl u71 VG rfl Zdo Zr0 (fun v hg=>?_) (fun hg=>?_)
 case refine_2=>rw [hg] at hq;cases hq
 rw [hg] at hq
 have hq:v=true:=hq
 subst hq
 dsimp only [ZP,go_sem,rA,rM,rS]
 refine Zs [] (XH 2) rfl rfl rfl ?_ ?_ ?_
 . (repeat first | dsimp only [go_sem,rA,rM,rS] | simp only [nbr])
   try simp [mtL,mtB,mtS]
 . trivial
 rintro _ rfl
 (repeat first | dsimp only [go_sem,rA,rM,rS] | simp only [nbr])
 refine ⟨_,rfl,?_⟩
 try simp only [Yk,Yi,bH,Y9]
 (refine Zo ?_ ?_ ?_ rfl<;>dsimp only [Zj,Zr,ZB,ZP,Za,id,go_sem,rA,rM,rS]<;>simp [Zj,Zr,ZB,ZP,Za,Zb,Ze,KFR,KFL,KF,Zd,mtO,nbr])
theorem ZpY {p:Pact} {n:Nat} {c:Co} {b:Bks} (h:BkR n c b) (x:Letter) (hd:0<=x.day/\x.day<=100000) (hl:c.loans x.animal=none) (hx:c.dead x.animal=false) :
 CtM Try.prog 99 (bH p b) 6 [.p 5 0,.agg (Zc x)] (fun o=>∃ b',BkR (n+1) { c with loans:=upd c.loans x.animal (some (x.who,x.day)) } b'/\o=Yk p b'):=by
 refine m99 (by simp [hpb,bH]) (fun o ho=>by obtain ⟨b',-,rfl⟩:=ho;exact ⟨by simp [Yk,KX,KXL],XM p b'⟩) ?_
 dsimp only [c99,r99,bH,Zc,go_sem,rA,rM,rS]
 have hq:=h.de x.animal
 rw [hx] at hq
 have hrw:∀ v,mget x.animal b.dead=some v->v=false:=fun v hg=>by rw [hg] at hq;exact hq
 have hrv:=fun σ h1 h2 h3=>Ui (P:=Try.prog) (t:=99) (σ:=σ) (i:=10) (j:=12) (ok:=true) (km:=0) (c:=b.cl) (key:=kI) (val:=Zr) (sv:=sI) (L:=b.loans) (k:=x.animal) (zs:=Zr (0,0)) h1 h2 h3 u99 VG Zbl ZAQ
 refine ⟨_,hrv _ rfl rfl rfl,?_⟩
 rw [h.lo,hl]
 dsimp only [lkS,Zr,go_sem,rA,rM,rS]
 refine Zs [] (Yp 1) rfl rfl rfl ?_ ?_ ?_
 . (repeat first | dsimp only [go_sem,rA,rM,rS] | simp only [nbr])
   try simp [mtL,mtB,mtS]
 . trivial
 rintro _ rfl
 (repeat first | dsimp only [go_sem,rA,rM,rS] | simp only [nbr])
 refine Xv (key:=kI) (val:=ZP) (sv:=sI) (L:=b.dead) (k:=x.animal) (zs:=ZP false) rfl rfl u71 VG rfl Zdo Zr0 (fun v hg=>?_) (fun hg=>?_)
 . have:=hrw v hg;subst this
   dsimp only [ZP,go_sem,rA,rM,rS]
   refine Zs [] (Yp 2) rfl rfl rfl ?_ ?_ ?_
   . (repeat first | dsimp only [go_sem,rA,rM,rS] | simp only [nbr])
     try simp [mtL,mtB,mtS]
   . trivial
   rintro _ rfl
   (repeat first | dsimp only [go_sem,rA,rM,rS] | simp only [nbr])
   refine YB (key:=kI) (val:=Zr) (sv:=sI) (L:=b.loans) (k:=x.animal) (v:=(x.who,x.day)) (ins:=false) rfl rfl u99 VG rfl rfl (fun _ _ _ e=>by cases e) ?_
   dsimp only [go_sem,rA,rM,rS]
   refine ⟨_,⟨_,h.lent (a:=x.animal) (who:=x.who) (d:=x.day) hd,rfl⟩,?_⟩
   try simp only [Yk,Yi,bH,Y9]
   (refine Zo ?_ ?_ ?_ rfl<;>dsimp only [Zj,Zr,ZB,ZP,Za,id,go_sem,rA,rM,rS]<;>simp [Zj,Zr,ZB,ZP,Za,Zb,Ze,KFR,KFL,KF,Zd,mtO,nbr])
 . skip
   dsimp only [ZP,go_sem,rA,rM,rS]
   refine Zs [] (Yp 2) rfl rfl rfl ?_ ?_ ?_
   . (repeat first | dsimp only [go_sem,rA,rM,rS] | simp only [nbr])
     try simp [mtL,mtB,mtS]
   . trivial
   rintro _ rfl
   (repeat first | dsimp only [go_sem,rA,rM,rS] | simp only [nbr])
   refine YB (key:=kI) (val:=Zr) (sv:=sI) (L:=b.loans) (k:=x.animal) (v:=(x.who,x.day)) (ins:=false) rfl rfl u99 VG rfl rfl (fun _ _ _ e=>by cases e) ?_
   dsimp only [go_sem,rA,rM,rS]
   refine ⟨_,⟨_,h.lent (a:=x.animal) (who:=x.who) (d:=x.day) hd,rfl⟩,?_⟩
   try simp only [Yk,Yi,bH,Y9]
   (refine Zo ?_ ?_ ?_ rfl<;>dsimp only [Zj,Zr,ZB,ZP,Za,id,go_sem,rA,rM,rS]<;>simp [Zj,Zr,ZB,ZP,Za,Zb,Ze,KFR,KFL,KF,Zd,mtO,nbr])
theorem Zgl {p:Pact} {n:Nat} {c:Co} {b:Bks} (h:BkR n c b) (x:Letter) (hx:c.known x.other=true) :
 CtM Try.prog 103 (bH p b) 6 [.p 5 0,.agg (Zc x)] (fun o=>o=Yi 4 p b):=by
 refine m103 (by simp [hpb,bH]) (fun o ho=>by subst ho;exact ⟨by simp [Yi,KX],XM p b⟩) ?_
 dsimp only [Zx8,ZAu,bH,Zc,go_sem,rA,rM,rS]
 have hq:=h.kn x.other
 rw [hx] at hq
 refine Xv (key:=kI) (val:=ZP) (sv:=sI) (L:=b.known) (k:=x.other) (zs:=ZP false) rfl rfl u71 VG rfl Zdo Zr0 (fun v hg=>?_) (fun hg=>?_)
 case refine_2=>rw [hg] at hq;cases hq
 rw [hg] at hq
 have hq:v=true:=hq
 subst hq
 dsimp only [ZP,go_sem,rA,rM,rS]
 refine Zs [] (XH 4) rfl rfl rfl ?_ ?_ ?_
 . (repeat first | dsimp only [go_sem,rA,rM,rS] | simp only [nbr])
   try simp [mtL,mtB,mtS]
 . trivial
 rintro _ rfl
 (repeat first | dsimp only [go_sem,rA,rM,rS] | simp only [nbr])
 refine ⟨_,rfl,?_⟩
 try simp only [Yk,Yi,bH,Y9]
 (refine Zo ?_ ?_ ?_ rfl<;>dsimp only [Zj,Zr,ZB,ZP,Za,id,go_sem,rA,rM,rS]<;>simp [Zj,Zr,ZB,ZP,Za,Zb,Ze,KFR,KFL,KF,Zd,mtO,nbr])
theorem ZsG {p:Pact} {n:Nat} {c:Co} {b:Bks} (h:BkR n c b) (x:Letter) (hx:c.known x.other=false) (hl:c.loans x.animal=none) :
 CtM Try.prog 103 (bH p b) 6 [.p 5 0,.agg (Zc x)] (fun o=>o=Yi 3 p b):=by
 refine m103 (by simp [hpb,bH]) (fun o ho=>by subst ho;exact ⟨by simp [Yi,KX],XM p b⟩) ?_
 dsimp only [Zx8,ZAu,bH,Zc,go_sem,rA,rM,rS]
 have hq:=h.kn x.other
 rw [hx] at hq
 have hrw:∀ v,mget x.other b.known=some v->v=false:=fun v hg=>by rw [hg] at hq;exact hq
 refine Xv (key:=kI) (val:=ZP) (sv:=sI) (L:=b.known) (k:=x.other) (zs:=ZP false) rfl rfl u71 VG rfl Zdo Zr0 (fun v hg=>?_) (fun hg=>?_)
 . have:=hrw v hg;subst this
   dsimp only [ZP,go_sem,rA,rM,rS]
   refine Zs [] (Yp 4) rfl rfl rfl ?_ ?_ ?_
   . (repeat first | dsimp only [go_sem,rA,rM,rS] | simp only [nbr])
     try simp [mtL,mtB,mtS]
   . trivial
   rintro _ rfl
   (repeat first | dsimp only [go_sem,rA,rM,rS] | simp only [nbr])
   refine Zs [0,1,2,3,4,5] (ZwD (p:=p) h x.animal hl) rfl rfl rfl ?_ ?_ ?_
   . (repeat first | dsimp only [bH,go_sem,rA,rM,rS] | simp only [nbr])
     try simp [mtL,mtB,mtS]
   . (repeat first | dsimp only [bH,go_sem,rA,rM,rS] | simp only [nbr])
     try simp [Zj,Zr,ZB,ZP,Za,Zb,KFL,KF]
   rintro _ rfl
   (repeat first | dsimp only [Yi,bH,go_sem,rA,rM,rS] | simp only [nbr])
   refine ⟨_,rfl,?_⟩
   try simp only [Yk,Yi,bH,Y9]
   (refine Zo ?_ ?_ ?_ rfl<;>dsimp only [Zj,Zr,ZB,ZP,Za,id,go_sem,rA,rM,rS]<;>simp [Zj,Zr,ZB,ZP,Za,Zb,Ze,KFR,KFL,KF,Zd,mtO,nbr])
 . skip
   dsimp only [ZP,go_sem,rA,rM,rS]
   refine Zs [] (Yp 4) rfl rfl rfl ?_ ?_ ?_
   . (repeat first | dsimp only [go_sem,rA,rM,rS] | simp only [nbr])
     try simp [mtL,mtB,mtS]
   . trivial
   rintro _ rfl
   (repeat first | dsimp only [go_sem,rA,rM,rS] | simp only [nbr])
   refine Zs [0,1,2,3,4,5] (ZwD (p:=p) h x.animal hl) rfl rfl rfl ?_ ?_ ?_
   . (repeat first | dsimp only [bH,go_sem,rA,rM,rS] | simp only [nbr])
     try simp [mtL,mtB,mtS]
   . (repeat first | dsimp only [bH,go_sem,rA,rM,rS] | simp only [nbr])
     try simp [Zj,Zr,ZB,ZP,Za,Zb,KFL,KF]
   rintro _ rfl
   (repeat first | dsimp only [Yi,bH,go_sem,rA,rM,rS] | simp only [nbr])
   refine ⟨_,rfl,?_⟩
   try simp only [Yk,Yi,bH,Y9]
   (refine Zo ?_ ?_ ?_ rfl<;>dsimp only [Zj,Zr,ZB,ZP,Za,id,go_sem,rA,rM,rS]<;>simp [Zj,Zr,ZB,ZP,Za,Zb,Ze,KFR,KFL,KF,Zd,mtO,nbr])
theorem part_bd {r c:Int} (r0:0<=r) (r1:r<=10000000) (c0:0<=c) (c1:c<=1000):(0<=r * c/\r * c<=10000000000)/\0<=(r * c).tdiv 1000/\(r * c).tdiv 1000<=r:=by
 have q0:0<=r * c:=Int.mul_nonneg r0 c0
 have q1:r * c<=r * 1000:=Int.mul_le_mul_of_nonneg_left c1 r0
 refine ⟨⟨q0,by omega⟩,Int.tdiv_nonneg q0 (by omega),?_⟩
 rw [Int.tdiv_eq_ediv_of_nonneg q0]
 omega
theorem Zn9 {p:Pact} {n:Nat} {c:Co} {b:Bks} (h:BkR n c b) (hn:n<=1000) (hp:0<=p.calf/\p.calf<=1000) (x:Letter) (hr:0<=x.rials/\x.rials<=10000000) (hx:c.known x.other=false) {l:Int × Int} (hl:c.loans x.animal=some l) :
 CtM Try.prog 103 (bH p b) 6 [.p 5 0,.agg (Zc x)] (fun o=>∃ b',BkR (n+1) { c with extra:=upd c.extra l.1 (c.extra l.1+(x.rials * p.calf).tdiv 1000),result:=c.result+(x.rials - (x.rials * p.calf).tdiv 1000),known:=upd c.known x.other true } b'/\o=Yk p b'):=by
 refine m103 (by simp [hpb,bH]) (fun o ho=>by obtain ⟨b',-,rfl⟩:=ho;exact ⟨by simp [Yk,KX,KXL],XM p b'⟩) ?_
 dsimp only [Zx8,ZAu,bH,Zc,go_sem,rA,rM,rS]
 have hq:=h.kn x.other
 rw [hx] at hq
 have hrw:∀ v,mget x.other b.known=some v->v=false:=fun v hg=>by rw [hg] at hq;exact hq
 obtain ⟨⟨m0,m1⟩,d0,d1⟩:=part_bd hr.1 hr.2 hp.1 hp.2
 have hrb:=h.rb
 have heb:=h.eb l.1
 have hre:=h.re
 refine Xv (key:=kI) (val:=ZP) (sv:=sI) (L:=b.known) (k:=x.other) (zs:=ZP false) rfl rfl u71 VG rfl Zdo Zr0 (fun v hg=>?_) (fun hg=>?_)
 . have:=hrw v hg;subst this
   dsimp only [ZP,go_sem,rA,rM,rS]
   refine Zs [] (Yp 4) rfl rfl rfl ?_ ?_ ?_
   . (repeat first | dsimp only [go_sem,rA,rM,rS] | simp only [nbr])
     try simp [mtL,mtB,mtS]
   . trivial
   rintro _ rfl
   (repeat first | dsimp only [go_sem,rA,rM,rS] | simp only [nbr])
   refine Zs [0,1,2,3,4,5] (Zlr (p:=p) h x.animal hl) rfl rfl rfl ?_ ?_ ?_
   . (repeat first | dsimp only [bH,go_sem,rA,rM,rS] | simp only [nbr])
     try simp [mtL,mtB,mtS]
   . (repeat first | dsimp only [bH,go_sem,rA,rM,rS] | simp only [nbr])
     try simp [Zj,Zr,ZB,ZP,Za,Zb,KFL,KF]
   rintro _ rfl
   (repeat first | dsimp only [Zr,bH,go_sem,rA,rM,rS] | simp only [nbr])
   rw [Zf (n:=x.rials * p.calf) (by omega) (by omega)]
   refine Zrv (by decide) ?_
   dsimp only [go_sem,rA,rM,rS]
   rw [Zf (n:=(x.rials * p.calf).tdiv 1000) (by omega) (by omega)]
   have hrv:=fun σ h1 h2 h3=>Ui (P:=Try.prog) (t:=101) (σ:=σ) (i:=30) (j:=32) (ok:=false) (km:=4) (c:=b.ce) (key:=kI) (val:=ZB) (sv:=sI) (L:=b.extra) (k:=l.1) (zs:=ZB 0) h1 h2 h3 Ztb VG ZbG Zl3
   refine ⟨_,hrv _ rfl rfl rfl,?_⟩
   rw [show lkS false ZB (ZB 0) (mget l.1 b.extra)=ZB (c.extra l.1) from by rw [<- h.ex];cases mget l.1 b.extra<;>rfl]
   dsimp only [ZB,go_sem,rA,rM,rS]
   rw [Zf (n:=c.extra l.1+(x.rials * p.calf).tdiv 1000) (by omega) (by omega)]
   refine YB (key:=kI) (val:=ZB) (sv:=sI) (L:=b.extra) (k:=l.1) (v:=c.extra l.1+(x.rials * p.calf).tdiv 1000) (ins:=false) rfl rfl Ztb VG rfl rfl (fun _ _ _ e=>by cases e) ?_
   dsimp only [go_sem,rA,rM,rS]
   rw [Zf (n:=x.rials - (x.rials * p.calf).tdiv 1000) (by omega) (by omega),hre,Zf (n:=c.result+(x.rials - (x.rials * p.calf).tdiv 1000)) (by omega) (by omega)]
   refine YB (key:=kI) (val:=ZP) (sv:=sI) (L:=b.known) (k:=x.other) (v:=true) (ins:=false) rfl rfl u71 VG rfl rfl (fun _ _ _ e=>by cases e) ?_
   dsimp only [go_sem,rA,rM,rS]
   refine ⟨_,⟨_,h.calf (who:=l.1) (other:=x.other) (v:=c.extra l.1+(x.rials * p.calf).tdiv 1000) (r:=c.result+(x.rials - (x.rials * p.calf).tdiv 1000)) (by omega) (by omega),rfl⟩,?_⟩
   try simp only [Yk,Yi,bH,Y9]
   (refine Zo ?_ ?_ ?_ rfl<;>dsimp only [Zj,Zr,ZB,ZP,Za,id,go_sem,rA,rM,rS]<;>simp [Zj,Zr,ZB,ZP,Za,Zb,Ze,KFR,KFL,KF,Zd,mtO,nbr])
 . skip
   dsimp only [ZP,go_sem,rA,rM,rS]
   refine Zs [] (Yp 4) rfl rfl rfl ?_ ?_ ?_
   . (repeat first | dsimp only [go_sem,rA,rM,rS] | simp only [nbr])
     try simp [mtL,mtB,mtS]
   . trivial
   rintro _ rfl
   (repeat first | dsimp only [go_sem,rA,rM,rS] | simp only [nbr])
   refine Zs [0,1,2,3,4,5] (Zlr (p:=p) h x.animal hl) rfl rfl rfl ?_ ?_ ?_
   . (repeat first | dsimp only [bH,go_sem,rA,rM,rS] | simp only [nbr])
     try simp [mtL,mtB,mtS]
   . (repeat first | dsimp only [bH,go_sem,rA,rM,rS] | simp only [nbr])
     try simp [Zj,Zr,ZB,ZP,Za,Zb,KFL,KF]
   rintro _ rfl
   (repeat first | dsimp only [Zr,bH,go_sem,rA,rM,rS] | simp only [nbr])
   rw [Zf (n:=x.rials * p.calf) (by omega) (by omega)]
   refine Zrv (by decide) ?_
   dsimp only [go_sem,rA,rM,rS]
   rw [Zf (n:=(x.rials * p.calf).tdiv 1000) (by omega) (by omega)]
   have hrv:=fun σ h1 h2 h3=>Ui (P:=Try.prog) (t:=101) (σ:=σ) (i:=30) (j:=32) (ok:=false) (km:=4) (c:=b.ce) (key:=kI) (val:=ZB) (sv:=sI) (L:=b.extra) (k:=l.1) (zs:=ZB 0) h1 h2 h3 Ztb VG ZbG Zl3
   refine ⟨_,hrv _ rfl rfl rfl,?_⟩
   rw [show lkS false ZB (ZB 0) (mget l.1 b.extra)=ZB (c.extra l.1) from by rw [<- h.ex];cases mget l.1 b.extra<;>rfl]
   dsimp only [ZB,go_sem,rA,rM,rS]
   rw [Zf (n:=c.extra l.1+(x.rials * p.calf).tdiv 1000) (by omega) (by omega)]
   refine YB (key:=kI) (val:=ZB) (sv:=sI) (L:=b.extra) (k:=l.1) (v:=c.extra l.1+(x.rials * p.calf).tdiv 1000) (ins:=false) rfl rfl Ztb VG rfl rfl (fun _ _ _ e=>by cases e) ?_
   dsimp only [go_sem,rA,rM,rS]
   rw [Zf (n:=x.rials - (x.rials * p.calf).tdiv 1000) (by omega) (by omega),hre,Zf (n:=c.result+(x.rials - (x.rials * p.calf).tdiv 1000)) (by omega) (by omega)]
   refine YB (key:=kI) (val:=ZP) (sv:=sI) (L:=b.known) (k:=x.other) (v:=true) (ins:=false) rfl rfl u71 VG rfl rfl (fun _ _ _ e=>by cases e) ?_
   dsimp only [go_sem,rA,rM,rS]
   refine ⟨_,⟨_,h.calf (who:=l.1) (other:=x.other) (v:=c.extra l.1+(x.rials * p.calf).tdiv 1000) (r:=c.result+(x.rials - (x.rials * p.calf).tdiv 1000)) (by omega) (by omega),rfl⟩,?_⟩
   try simp only [Yk,Yi,bH,Y9]
   (refine Zo ?_ ?_ ?_ rfl<;>dsimp only [Zj,Zr,ZB,ZP,Za,id,go_sem,rA,rM,rS]<;>simp [Zj,Zr,ZB,ZP,Za,Zb,Ze,KFR,KFL,KF,Zd,mtO,nbr])
theorem X5 (L:List (Nat × (Int × Int) × Int)):∀ e ∈ mpS kP ZB L,KF e.2.2:=by
 intro e he
 obtain ⟨x,_,rfl⟩:=List.mem_map.1 he
 simp [ZB,KF]
theorem Zu8 {p:Pact} {n:Nat} {c:Co} {b:Bks} (h:BkR n c b) (hn:n<=1000) (x:Letter) (hx:0<=x.rials/\x.rials<=10000000) :
 CtM Try.prog 104 (bH p b) 6 [.p 5 0,.agg (Zc x)] (fun o=>∃ b',BkR (n+1) { c with debts:=upd c.debts x.who (upd (c.debts x.who) x.other (c.debts x.who x.other+x.rials)) } b'/\o=Yk p b'):=by
 refine m104 (by simp [hpb,bH]) (fun o ho=>by obtain ⟨b',-,rfl⟩:=ho;exact ⟨by simp [Yk,KX,KXL],XM p b'⟩) ?_
 have hb:=h.bb x.who x.other
 have hv0:c.debts x.who x.other=(mget (x.who,x.other) b.debts).getD 0:=(h.db _ _).symm
 dsimp only [c104,r104,bH,Zc,go_sem,rA,rM,rS]
 refine gh (ZfY (km:=3) (key:=kP) (val:=ZB) (L:=b.debts) (c:=b.cb) (k:=(x.who,x.other)) (v0:=c.debts x.who x.other) rfl (X5 _)) ?_
 dsimp only [go_sem,rA,rM,rS]
 refine ⟨_,ZiU (P:=Try.prog) (t:=100) (i:=7) (j:=12) (sv:=sP) (v:=0) hv0 rfl rfl (X5 _) trivial rfl Zwx U4 ZbG Zl3,?_⟩
 dsimp only [ZB,go_sem,rA,rM,rS]
 rw [Zf (n:=c.debts x.who x.other+x.rials) (by omega) (by omega)]
 refine ⟨3,_,_,rfl,Zlq rfl (X5 _) trivial,ZfJ (P:=Try.prog) (t:=100) (i:=7) (j:=12) (sv:=sP) (v:=0) hv0 rfl rfl (X5 _) trivial rfl Zwx U4 ZbG Zl3,?_⟩
 dsimp only [ZB,go_sem,rA,rM,rS]
 refine Zb8 (key:=kP) (val:=ZB) (L:=b.debts) (k:=(x.who,x.other)) (c:=b.cb) (v0:=c.debts x.who x.other) (v:=c.debts x.who x.other+x.rials) rfl rfl rfl h.w4 rfl (fun _ _ _ e=>by cases e) ?_
 dsimp only [go_sem,rA,rM,rS]
 refine ⟨_,⟨_,h.debt (who:=x.who) (other:=x.other) (v:=c.debts x.who x.other+x.rials) (by omega),rfl⟩,?_⟩
 try simp only [Yk,bH]
 (refine Zo ?_ ?_ ?_ rfl<;>dsimp only [Zj,Zr,ZB,ZP,Za,id,go_sem,rA,rM,rS]<;>simp [Zj,Zr,ZB,ZP,Za,Zb,Ze,KFR,KFL,KF,Zd,mtO,nbr])
theorem ZkK {p:Pact} {n:Nat} {c:Co} {b:Bks} (h:BkR n c b) (x:Letter) (hx:c.debts x.who x.other < x.rials) :
 CtM Try.prog 105 (bH p b) 6 [.p 5 0,.agg (Zc x)] (fun o=>o=Yi 5 p b):=by
 refine m105 (by simp [hpb,bH]) (fun o ho=>by subst ho;exact ⟨by simp [Yi,KX],XM p b⟩) ?_
 dsimp only [ZBs,ZBl,bH,Zc,go_sem,rA,rM,rS]
 have hrv:=fun σ h1 h2 h3=>Ui (P:=Try.prog) (t:=100) (σ:=σ) (i:=13) (j:=14) (ok:=false) (km:=3) (c:=b.cb) (key:=kP) (val:=ZB) (sv:=sP) (L:=b.debts) (k:=(x.who,x.other)) (zs:=ZB 0) h1 h2 h3 Zwx U4 ZbG Zl3
 refine ⟨_,hrv _ rfl rfl rfl,?_⟩
 rw [show lkS false ZB (ZB 0) (mget (x.who,x.other) b.debts)=ZB (c.debts x.who x.other) from by rw [<- h.db];cases mget (x.who,x.other) b.debts<;>rfl]
 dsimp only [ZB,go_sem,rA,rM,rS]
 rw [show decide (c.debts x.who x.other < x.rials)=true from by simpa using hx]
 refine Zs [] (XH 5) rfl rfl rfl ?_ ?_ ?_
 . (repeat first | dsimp only [go_sem,rA,rM,rS] | simp only [nbr])
   try simp [mtL,mtB,mtS]
 . trivial
 rintro _ rfl
 (repeat first | dsimp only [go_sem,rA,rM,rS] | simp only [nbr])
 refine ⟨_,rfl,?_⟩
 try simp only [Yi,bH]
 (refine Zo ?_ ?_ ?_ rfl<;>dsimp only [Zj,Zr,ZB,ZP,Za,id,go_sem,rA,rM,rS]<;>simp [Zj,Zr,ZB,ZP,Za,Zb,Ze,KFR,KFL,KF,Zd,mtO,nbr])
theorem ZwK {p:Pact} {n:Nat} {c:Co} {b:Bks} (h:BkR n c b) (hn:n<=1000) (x:Letter) (hx:0<=x.rials/\x.rials<=10000000) (hd:¬ c.debts x.who x.other < x.rials) :
 CtM Try.prog 105 (bH p b) 6 [.p 5 0,.agg (Zc x)] (fun o=>∃ b',BkR (n+1) { c with debts:=upd c.debts x.who (upd (c.debts x.who) x.other (c.debts x.who x.other - x.rials)) } b'/\o=Yk p b'):=by
 refine m105 (by simp [hpb,bH]) (fun o ho=>by obtain ⟨b',-,rfl⟩:=ho;exact ⟨by simp [Yk,KX,KXL],XM p b'⟩) ?_
 have hb:=h.bb x.who x.other
 have hv0:c.debts x.who x.other=(mget (x.who,x.other) b.debts).getD 0:=(h.db _ _).symm
 dsimp only [ZBs,ZBl,bH,Zc,go_sem,rA,rM,rS]
 have hrv:=fun σ h1 h2 h3=>Ui (P:=Try.prog) (t:=100) (σ:=σ) (i:=13) (j:=14) (ok:=false) (km:=3) (c:=b.cb) (key:=kP) (val:=ZB) (sv:=sP) (L:=b.debts) (k:=(x.who,x.other)) (zs:=ZB 0) h1 h2 h3 Zwx U4 ZbG Zl3
 refine ⟨_,hrv _ rfl rfl rfl,?_⟩
 rw [show lkS false ZB (ZB 0) (mget (x.who,x.other) b.debts)=ZB (c.debts x.who x.other) from by rw [<- h.db];cases mget (x.who,x.other) b.debts<;>rfl]
 dsimp only [ZB,go_sem,rA,rM,rS]
 rw [show decide (c.debts x.who x.other < x.rials)=false from by simpa using hd]
 refine Zs [] (Yp 5) rfl rfl rfl ?_ ?_ ?_
 . (repeat first | dsimp only [go_sem,rA,rM,rS] | simp only [nbr])
   try simp [mtL,mtB,mtS]
 . trivial
 rintro _ rfl
 (repeat first | dsimp only [go_sem,rA,rM,rS] | simp only [nbr])
 refine gh (ZfY (km:=3) (key:=kP) (val:=ZB) (L:=b.debts) (c:=b.cb) (k:=(x.who,x.other)) (v0:=c.debts x.who x.other) rfl (X5 _)) ?_
 dsimp only [go_sem,rA,rM,rS]
 refine ⟨_,ZiU (P:=Try.prog) (t:=100) (i:=23) (j:=24) (sv:=sP) (v:=0) hv0 rfl rfl (X5 _) trivial rfl Zwx U4 ZbG Zl3,?_⟩
 dsimp only [ZB,go_sem,rA,rM,rS]
 rw [Zf (n:=c.debts x.who x.other - x.rials) (by omega) (by omega)]
 refine ⟨3,_,_,rfl,Zlq rfl (X5 _) trivial,ZfJ (P:=Try.prog) (t:=100) (i:=23) (j:=24) (sv:=sP) (v:=0) hv0 rfl rfl (X5 _) trivial rfl Zwx U4 ZbG Zl3,?_⟩
 dsimp only [ZB,go_sem,rA,rM,rS]
 refine Zb8 (key:=kP) (val:=ZB) (L:=b.debts) (k:=(x.who,x.other)) (c:=b.cb) (v0:=c.debts x.who x.other) (v:=c.debts x.who x.other - x.rials) rfl rfl rfl h.w4 rfl (fun _ _ _ e=>by cases e) ?_
 dsimp only [go_sem,rA,rM,rS]
 refine ⟨_,⟨_,h.debt (who:=x.who) (other:=x.other) (v:=c.debts x.who x.other - x.rials) (by omega),rfl⟩,?_⟩
 try simp only [Yk,bH]
 (refine Zo ?_ ?_ ?_ rfl<;>dsimp only [Zj,Zr,ZB,ZP,Za,id,go_sem,rA,rM,rS]<;>simp [Zj,Zr,ZB,ZP,Za,Zb,Ze,KFR,KFL,KF,Zd,mtO,nbr])
end Go.Proofs.Ythilckbkffjliaa
namespace Go.Sx
open Go Go.RowKit
inductive FB where
 | tail (c:SC)
 | seq (a:SC) (b:FB)
 | dfr (ops:List Ins) (mx kx:X) (t:TypeId) (b:FB)
 | rcv (ops:List Ins) (cx:X) (b:FB)
def ZAt (mx kx:X) (t:TypeId) (o:Oper):Bool :=
 match o.op,o.dst,o.guard with
 | .defer c,none,none=>(match c.callee with | .builtin .delete=>true | _=>false) && (match c.args.toList with | [m,k]=>YX mx m && YX kx k | _=>false) && (match c.argTypes[0]? with | some u=>u == t | none=>false)
 | _,_,_=>false
def Zr3 (cx:X) (o:Oper):Bool :=
 match o.op,o.dst,o.guard with
 | .defer c,none,none=>(match c.callee with | .value y=>YX cx y | _=>false) && c.args.isEmpty
 | _,_,_=>false
def Za8 (P:Program):FB->Code->Bool
 | .tail c,code=>YJ P c code
 | .seq a b,code=>(match code with | .seq x y=>YJ P a x && Za8 P b y | _=>false)
 | .dfr ops mx kx t b,code=>(match code with
  | .seq (.region _ os false) y=>Zga P os ops (os.toList.take ops.length) && (match os.toList.drop ops.length with | [o]=>ZAt mx kx t o | _=>false) && Za8 P b y
  | _=>false)
 | .rcv ops cx b,code=>(match code with
  | .seq (.region _ os false) y=>Zga P os ops (os.toList.take ops.length) && (match os.toList.drop ops.length with | [o]=>Zr3 cx o | _=>false) && Za8 P b y
  | _=>false)
def ZxE (P:Program) (t:TypeId) (kv:Value) (hb hb':HB):Prop :=
 ∃ (K V:Type) (_:DecidableEq K) (key:K->Value) (val:V->SV) (sv:K->SV) (L:List (Nat × K × V)) (k:K) (kt et:TypeId) (c:Nat),
  hb = .map (mpS key val L) c/\hb' = .map (mpS key val (UT k L)) c/\kv=key k/\P.underlying t=some (.map kt et)/\KeyT P kt key sv
def dK (P:Program) (t:TypeId) (km:Nat) (kv:Value) (K:Ex->St->Prop):Ex->St->Prop
 | .n,σ=>∃ hb',ZxE P t kv (lkh km σ.hp) hb'/\K .n ⟨σ.fr,(km,hb') :: σ.hp,σ.n,σ.N,σ.gs⟩
 | .ret,σ=>∃ hb',ZxE P t kv (lkh km σ.hp) hb'/\K .ret ⟨σ.fr,(km,hb') :: σ.hp,σ.n,σ.N,σ.gs⟩
 | _,_=>False
def fxS (f:St->(Ex->St->Prop)->Prop) (K:Ex->St->Prop):Ex->St->Prop
 | .n,σ=>f σ K
 | .ex _,_=>False
 | .ret,σ=>K .ret σ
 | .pan s,σ=>K (.pan s) σ
def mpO:SV->Option Nat
 | .mp k=>some k
 | _=>none
def vO:SV->Option Value
 | .v x=>some x
 | _=>none
def ZzS (P:Program) (t:TypeId) (f:Nat->St->(Ex->St->Prop)->Prop) (km:Option Nat) (kv:Option Value) (σ : St) (K:Ex->St->Prop):Prop :=
 match km,kv with
 | some km,some kv=>Nat.blt km σ.n=true/\f σ.n σ (dK P t km kv K)
 | _,_=>False
def Zn6 (t:Nat) (o:Oper):Bool :=
 match o.op,o.dst,o.guard with
 | .call c,some u,none=>u == t && (match c.callee with | .builtin .recover=>true | _=>false) && c.args.isEmpty
 | _,_,_=>false
structure RcF (P:Program) (g:FuncId) (t:Nat) (l:List Ins) (c:SC) (N:Nat):Prop where
 ex:∃ fn id os y0 o1,P.funcs[g]? = some fn/\fn.body=some (.seq (.region id os false) y0)/\os[0]? = some o1/\Zn6 t o1=true/\Zga P os l (os.toList.drop 1)=true/\YJ P c y0=true/\fn.ntmps=N/\t < N/\fn.results = #[]
 bd:Z3 P g=true
def rcK (σ : St) (k:St->Prop):Ex->St->Prop
 | .n,σ'=>k ⟨σ.fr,σ'.hp,σ'.n,σ.N,σ.gs⟩
 | .ret,σ'=>k ⟨σ.fr,σ'.hp,σ'.n,σ.N,σ.gs⟩
 | _,_=>False
def rcR (P:Program) (t:Nat) (l:List Ins) (c:SC) (N:Nat) (caps:List SV) (s:SV) (σ : St) (k:St->Prop):Prop :=
 Nat.ble caps.length N=true/\rx P Y0 l ⟨(t,s) :: Y2 0 caps,σ.hp,σ.n,N,[]⟩ (Zce (fxS (fun σ' K=>sx P Y0 σ.n c σ' K) (rcK σ k)))
def Zya (P:Program) (f:Nat->St->(Ex->St->Prop)->Prop) (rk:FuncId->List SV->Ex->St->Prop) (s:SV) (σ : St):Prop :=
 match s with
 | .cl g caps=>f σ.n σ (rk g caps)
 | _=>False
def rK (P:Program) (K:Ex->St->Prop) (g:FuncId) (caps:List SV):Ex->St->Prop
 | .n,σ=>∃ t l c N,RcF P g t l c N/\rcR P t l c N caps (.v .nilIface) σ (K .n)
 | .ret,σ=>∃ t l c N,RcF P g t l c N/\rcR P t l c N caps (.v .nilIface) σ (K .ret)
 | .pan s,σ=>∃ t l c N,RcF P g t l c N/\rcR P t l c N caps s σ (K .ret)
 | .ex _,_=>False
def fx (P:Program):Nat->FB->St->(Ex->St->Prop)->Prop
 | m,.tail c,σ,K=>sx P Y0 m c σ K
 | m,.seq a b,σ,K=>sx P Y0 m a σ (fxS (fx P m b) K)
 | _,.dfr ops mx kx t b,σ,K=>rx P Y0 ops σ (Zce (fxS (fun σ K=>ZzS P t (fun n=>fx P n b) (mpO (rdG none σ.fr mx)) (vO (rdG none σ.fr kx)) σ K) K))
 | _,.rcv ops cx b,σ,K=>rx P Y0 ops σ (Zce (fxS (fun σ K=>Zya P (fun n=>fx P n b) (rK P K) (rdG none σ.fr cx) σ) K))
theorem Zva (P:Program) (m:Nat) (c:SC) (σ : St) (K:Ex->St->Prop):fx P m (.tail c) σ K=sx P Y0 m c σ K:=rfl
theorem Zyc (P:Program) (m:Nat) (a:SC) (b:FB) (σ : St) (K:Ex->St->Prop):fx P m (.seq a b) σ K=sx P Y0 m a σ (fxS (fx P m b) K):=rfl
theorem ZAz (P:Program) (m:Nat) (ops:List Ins) (mx kx:X) (t:TypeId) (b:FB) (σ : St) (K:Ex->St->Prop):fx P m (.dfr ops mx kx t b) σ K=rx P Y0 ops σ (Zce (fxS (fun σ K=>ZzS P t (fun n=>fx P n b) (mpO (rdG none σ.fr mx)) (vO (rdG none σ.fr kx)) σ K) K)):=rfl
theorem Zzr (P:Program) (m:Nat) (ops:List Ins) (cx:X) (b:FB) (σ : St) (K:Ex->St->Prop):fx P m (.rcv ops cx b) σ K=rx P Y0 ops σ (Zce (fxS (fun σ K=>Zya P (fun n=>fx P n b) (rK P K) (rdG none σ.fr cx) σ) K)):=rfl
theorem Zxg (P:Program) (f:Nat->St->(Ex->St->Prop)->Prop) (rk:FuncId->List SV->Ex->St->Prop) (g:FuncId) (caps:List SV) (σ : St):Zya P f rk (.cl g caps) σ = f σ.n σ (rk g caps):=rfl
theorem rK_n (P:Program) (K:Ex->St->Prop) (g:FuncId) (caps:List SV) (σ : St):rK P K g caps .n σ = ∃ t l c N,RcF P g t l c N/\rcR P t l c N caps (.v .nilIface) σ (K .n):=rfl
theorem Zzs (P:Program) (K:Ex->St->Prop) (g:FuncId) (caps:List SV) (σ : St):rK P K g caps .ret σ = ∃ t l c N,RcF P g t l c N/\rcR P t l c N caps (.v .nilIface) σ (K .ret):=rfl
theorem ZzW (P:Program) (K:Ex->St->Prop) (g:FuncId) (caps:List SV) (s:SV) (σ : St):rK P K g caps (.pan s) σ = ∃ t l c N,RcF P g t l c N/\rcR P t l c N caps s σ (K .ret):=rfl
theorem e_rcR (P:Program) (t:Nat) (l:List Ins) (c:SC) (N:Nat) (caps:List SV) (s:SV) (σ : St) (k:St->Prop):rcR P t l c N caps s σ k=(Nat.ble caps.length N=true/\rx P Y0 l ⟨(t,s) :: Y2 0 caps,σ.hp,σ.n,N,[]⟩ (Zce (fxS (fun σ' K=>sx P Y0 σ.n c σ' K) (rcK σ k)))):=rfl
theorem rcK_n (σ : St) (k:St->Prop) (σ':St):rcK σ k .n σ'=k ⟨σ.fr,σ'.hp,σ'.n,σ.N,σ.gs⟩:=rfl
theorem Zsr (σ : St) (k:St->Prop) (σ':St):rcK σ k .ret σ'=k ⟨σ.fr,σ'.hp,σ'.n,σ.N,σ.gs⟩:=rfl
attribute [go_sem] Zzr Zxg rK_n Zzs ZzW e_rcR rcK_n Zsr
theorem fxS_n (f:St->(Ex->St->Prop)->Prop) (K:Ex->St->Prop) (σ : St):fxS f K .n σ = f σ K:=rfl
theorem ZsR (f:St->(Ex->St->Prop)->Prop) (K:Ex->St->Prop) (σ : St):fxS f K .ret σ = K .ret σ:=rfl
theorem Zyo (P:Program) (t:TypeId) (f:Nat->St->(Ex->St->Prop)->Prop) (km:Nat) (kv:Value) (σ : St) (K:Ex->St->Prop):ZzS P t f (some km) (some kv) σ K=(Nat.blt km σ.n=true/\f σ.n σ (dK P t km kv K)):=rfl
theorem ZzR (k:Nat):mpO (.mp k)=some k:=rfl
theorem vO_v (x:Value):vO (.v x)=some x:=rfl
theorem dK_n (P:Program) (t:TypeId) (km:Nat) (kv:Value) (K:Ex->St->Prop) (σ : St):dK P t km kv K .n σ = ∃ hb',ZxE P t kv (lkh km σ.hp) hb'/\K .n ⟨σ.fr,(km,hb') :: σ.hp,σ.n,σ.N,σ.gs⟩:=rfl
theorem ZzF (P:Program) (t:TypeId) (km:Nat) (kv:Value) (K:Ex->St->Prop) (σ : St):dK P t km kv K .ret σ = ∃ hb',ZxE P t kv (lkh km σ.hp) hb'/\K .ret ⟨σ.fr,(km,hb') :: σ.hp,σ.n,σ.N,σ.gs⟩:=rfl
attribute [go_sem] Zva Zyc ZAz fxS_n ZsR Zyo ZzR vO_v dK_n ZzF
section
variable {P:Program}
theorem Zh8 {C:Cx} {Y:Hd} (hY:ZdC P C Y) {ops:Array Oper} {Q:Exit->Act->World->Prop} {K:RK} {os2:List Oper} (hn:∀ σ E a w,K .n σ->Sim C E σ a w->Uc C.rd P ops Q os2 a w)
 (hp:∀ s σ' E a w y,K (.pan s) σ'->Sim C E σ' a w->R w E (ltn σ'.n) (okS C E σ'.hp) s y->Q (.panic [{ v:=y,recovered:=false }]) a w):∀ (l:List Ins) (os:List Oper),Zga P ops l os=true ->
 ∀ (σ : St) E a w,rx P Y l σ K->Sim C E σ a w->Uc C.rd P ops Q (os ++ os2) a w
 | [],[],_,σ,E,a,w,hr,h=>hn σ E a w hr h
 | io :: l,o :: os,hc,σ,E,a,w,hr,h=>by
  simp only [Zga,Bool.and_eq_true] at hc
  have ih:=Zh8 hY hn hp l os hc.2
  exact Us (next:=Uc C.rd P ops Q (os ++ os2)) hc.1 hr h (fun σ' E' a' w' h1 h2=>ih σ' E' a' w' h1 h2) (fun s σ' E' w' y h1 h2 h3=>hp s σ' E' a w' y h1 h2 h3) hY
 | [],_ :: _,h,_,_,_,_,_,_=>by simp [Zga] at h
 | _ :: _,[],h,_,_,_,_,_,_=>by simp [Zga] at h
theorem ZuI {C:Cx} {E:Env} {σ : St} {a:Act} {w:World} (h:Sim C E σ a w) {t:TypeId} {km:Nat} {kv:Value} {hb':HB} {ats:Array TypeId} {ty:TypeId} {cc:Array Bool} (ha:ats[0]? = some t) (hd:ZxE P t kv (lkh km σ.hp) hb') :
 ∃ x w',(invoke (.builtin .delete ats ty cc) #[.map (some (E.β km)),kv]).run P w = .ok (.value x) w'/\Sim C E ⟨σ.fr,(km,hb') :: σ.hp,σ.n,σ.N,σ.gs⟩ a w'/\ZC w w' (okS C E σ.hp) (okS C E ((km,hb') :: σ.hp)):=by
 obtain ⟨K,V,_,key,val,sv,L,k,kt,et,c,hh,rfl,rfl,ht,hK⟩:=hd
 obtain ⟨g0,ys,g1,g2⟩:=UX h hh
 have hfn:=fun w=>hK.fnd k _ _ w (VZ g2)
 have hex:∀ w',(Builtin.delete_ ats ty #[.map (some (E.β km)),key k]).run P w = .ok (.tuple #[]) w'->(invoke (.builtin .delete ats ty cc) #[.map (some (E.β km)),key k]).run P w = .ok (.value (.tuple #[])) w':=fun w' hy=>by
  simp [invoke,builtin,hy]
 have hfin:∀ ys':Array MapEntry,(∀ {w':World} {ok':Nat->Prop},RM w' E (ltn σ.n) ok' (mpS key val L) ys.toList->RM w' E (ltn σ.n) ok' (mpS key val (UT k L)) ys'.toList) ->
  Sim C E ⟨σ.fr,(km,.map (mpS key val (UT k L)) c) :: σ.hp,σ.n,σ.N,σ.gs⟩ a (WV w (E.β km) (.map ys' c))/\ZC w (WV w (E.β km) (.map ys' c)) (okS C E σ.hp) (okS C E ((km,.map (mpS key val (UT k L)) c) :: σ.hp)):=fun ys' hRM=>by
  obtain ⟨q1,q2⟩:=XA (k:=km) (hb:=.map (mpS key val (UT k L)) c) (o:=.map ys' c) h.hs (fun b=>by rw [hh];simp only [occ]) (fun b=>by simp only [occ]) (fun hlt hst=>by
   simp only [ZZ]
   exact ⟨ys',Xc hlt,hRM (Xw hst.c (fun _ _=>Ele.rfl) (fun _ h=>h) _ _ g2)⟩)
  exact ⟨Yb h q2 (fun _ _=>Ele.rfl) (Nat.le_refl _) q1,q2⟩
 rcases VT (w:=w) (E:=E) (n:=ltn σ.n) (ok:=okS C E σ.hp) k L ys.toList 0 g2 with ⟨a1,a2,a3,-⟩ | ⟨j,v0,e,b1,b2,b3,b4,b5,b6⟩
 . have hrun:(Builtin.delete_ ats ty #[.map (some (E.β km)),key k]).run P w = .ok (.tuple #[]) (WV w (E.β km) (.map ys c)):=by
    simp [Builtin.delete_,Sem.run_bind,ha,run_underlying ht,Result.andThen_ok,Z4 g1 rfl,Sem.run_pure,hK.chk,hfn,a2,YC _ g1 rfl]
   exact ⟨_,_,hex _ hrun,hfin _ fun h1=>by rw [a3];exact h1⟩
 . rw [Nat.zero_add] at b2
   have hlt:j < ys.size:=by
    have:ys[j]? = some e:=by simpa using b3
    exact (Array.getElem?_eq_some_iff.1 this).1
   have hrun:(Builtin.delete_ ats ty #[.map (some (E.β km)),key k]).run P w = .ok (.tuple #[]) (WV w (E.β km) (.map (ys.eraseIdxIfInBounds j) c)):=by
    simp [Builtin.delete_,Sem.run_bind,ha,run_underlying ht,Result.andThen_ok,Z4 g1 rfl,Sem.run_pure,hK.chk,hfn,b2,YC _ g1 rfl]
   exact ⟨_,_,hex _ hrun,hfin _ fun {w' ok'} h1=>by
    have:(ys.eraseIdxIfInBounds j).toList=ys.toList.eraseIdx j:=by simp [Array.eraseIdxIfInBounds,hlt]
    rw [this];exact (b6 h1).1⟩
theorem ZeB {C C':Cx} {E E':Env} {σ σ':St} {a a':Act} {w w':World} (h:Sim C E σ a w) (h':Sim C' E' σ' a' w') (c1:C'.w0=w) (c2:C'.okp=okS C E σ.hp) (c3:C'.pass=fun k b=>occ E k (lkh k σ.hp) b) (c4:C'.e0=E) (c5:C'.m0 = σ.n) (hm:C.m0<=σ.n) :
 Sim { C with ds:=a'.defers } E' σ' a' w':=by
 have hok:∀ b,okS C' E' σ'.hp b->okS C E' σ'.hp b:=fun b hb=>by
  obtain ⟨g1,g2⟩:=hb
  refine ⟨?_,g2⟩
  rw [c1,c2] at g1
  rcases g1 with g1 | g1
  . exact g1.1
  . exact .inr (Nat.le_trans h.hs.kp.size g1)
 have hst:YO w' w' (okS C' E' σ'.hp) (okS C E' σ'.hp):=fun b hb _=>⟨hok b hb,rfl⟩
 refine ⟨fun t=>?_,h'.sz,U0,h'.gs,⟨h'.hs.kn,fun k=>?_,h'.hs.dj,fun k b ho=>?_,⟨?_,?_,?_,?_,fun b h1 h2=>?_⟩,fun k hk=>?_⟩⟩
 . have:=h'.fr t
   cases hq:lk t σ'.fr<;>rw [hq] at this<;>try exact ZI hst (fun _ _=>Ele.rfl) (fun _ h=>h) _ _ this
   exact ⟨fun hg=>ZI hst (fun _ _=>Ele.rfl) (fun _ h=>h) _ _ (this.1 hg),this.2⟩
 . refine XL hst (fun _ _=>Ele.rfl) (fun _ h=>h) ?_ (fun b ho=>rfl) rfl (h'.hs.bk k)
   rcases Classical.em (ltn σ'.n k) with hk | hk
   . exact .inr hk
   . exact .inl (h'.hs.kn k hk)
 . rcases h'.hs.lo k b ho with g | g
   . rw [c1] at g;exact .inl (Nat.le_trans h.hs.kp.size g)
   . rw [c3] at g;exact h.hs.lo k b g
 . have:=h'.hs.kp.os;rw [c1] at this;exact this.trans h.hs.kp.os
 . have:=h'.hs.kp.tape;rw [c1] at this;exact this.trans h.hs.kp.tape
 . have:=h'.hs.kp.output;rw [c1] at this;exact this.trans h.hs.kp.output
 . have:=h'.hs.kp.size;rw [c1] at this;exact Nat.le_trans h.hs.kp.size this
 . have h1':b < C.w0.heap.size:=h1
   have h2':∀ k,¬ C.pass k b:=h2
   have hb:=h'.hs.kp.block b (by rw [c1];exact Nat.lt_of_lt_of_le h1' h.hs.kp.size) (fun k hk=>by
    rw [c3] at hk
    rcases h.hs.lo k b hk with g | g
    . exact absurd h1' (Nat.not_lt.2 g)
    . exact h2' k g)
   rw [c1] at hb
   exact hb.trans (h.hs.kp.block b h1' h2')
 . have hk':k < C.m0:=hk
   have p1:=h.hs.pin k hk'
   have p2:=h'.hs.pin k (by rw [c5];exact Nat.lt_of_lt_of_le hk' hm)
   rw [c4] at p2
   exact ⟨p2.1,p1.2.trans p2.2⟩
theorem Um {fn:Func} {R':Ending->World->Prop} {C:Cx} {K:Ex->St->Prop}
 (hK:∀ e σ',K e σ'->∀ (C':Cx) E' a' w',C'.w0=C.w0->C'.okp=C.okp->C'.pass=C.pass->C'.e0=C.e0->C'.m0=C.m0->Sim C' E' σ' a' w'->match e with
  | .n | .ret=>Lv P fn a'.tmps R' C.ds .returning w'
  | .ex _=>False
  | .pan s=>∀ y,R w' E' (ltn σ'.n) (okS C' E' σ'.hp) s y->Lv P fn a'.tmps R' C.ds (.panicking [{ v:=y,recovered:=false }]) w')
 (e:Ex) (σ':St) (hk:K e σ') (E':Env) (a':Act) (w':World) (hs:Sim C E' σ' a' w'):ExQ C (Yz P fn R') e σ' E' a' w':=by
 obtain ⟨ms,d1,d2,d3⟩:=hs.df
 have key:=hK e σ' hk
 cases e with
 | ex i=>exact (key C E' a' w' rfl rfl rfl rfl rfl hs).elim
 | n =>
  show Lv P fn a'.tmps R' a'.defers .returning w'
  rw [d1]
  refine XB ms _ _ (by simp) d2.1 (fun m hm=>(d3 m hm).2.2) fun w'' hu=>?_
  exact key { C with ds:=a'.defers } E' a' w'' rfl rfl rfl rfl rfl (We hs d3 hu)
 | ret =>
  show Lv P fn a'.tmps R' a'.defers .returning w'
  rw [d1]
  refine XB ms _ _ (by simp) d2.1 (fun m hm=>(d3 m hm).2.2) fun w'' hu=>?_
  exact key { C with ds:=a'.defers } E' a' w'' rfl rfl rfl rfl rfl (We hs d3 hu)
 | pan s =>
  intro y hy
  show Lv P fn a'.tmps R' a'.defers (.panicking _) w'
  rw [d1]
  refine XB ms _ _ (by simp) d2.1 (fun m hm=>(d3 m hm).2.2) fun w'' hu=>?_
  have hst:YO w' w'' (okS C E' σ'.hp) (okS C E' σ'.hp):=fun b hb q=>⟨hb,hu.other b fun hm'=>by rcases q with ⟨cs,T,fz,e⟩ | ⟨es,c,e⟩<;>(rw [(d3 b hm').2.2] at e;cases e)⟩
  exact key { C with ds:=a'.defers } E' a' w'' rfl rfl rfl rfl rfl (We hs d3 hu) y (ZI hst (fun _ _=>Ele.rfl) (fun _ h=>h) _ _ hy)
theorem Zj0 {C:Cx} {E:Env} {σ : St} {a:Act} {w:World} (h:Sim C E σ a w) (ds:List Deferred):Sim ⟨w,okS C E σ.hp,fun k b=>occ E k (lkh k σ.hp) b,ds,none,E,σ.n⟩ E σ { a with defers:=ds } w:=by
 have hst:YO w w (okS C E σ.hp) (okS ⟨w,okS C E σ.hp,fun k b=>occ E k (lkh k σ.hp) b,ds,none,E,σ.n⟩ E σ.hp):=fun b hb _=>⟨⟨.inl hb,hb.2⟩,rfl⟩
 refine ⟨fun t=>?_,h.sz,U0,h.gs,⟨h.hs.kn,fun k=>?_,h.hs.dj,fun k b ho=>.inr ho,⟨rfl,rfl,rfl,Nat.le_refl _,fun _ _ _=>rfl⟩,fun k hk=>⟨hk,Ele.rfl⟩⟩⟩
 . have:=h.fr t
   show FR w E (ltn σ.n) _ σ.fr (lk t σ.fr) (a.tmps.getD t undef)
   cases hq:lk t σ.fr<;>rw [hq] at this<;>try exact ZI hst (fun _ _=>Ele.rfl) (fun _ h=>h) _ _ this
   exact ⟨fun hg=>ZI hst (fun _ _=>Ele.rfl) (fun _ h=>h) _ _ (this.1 hg),this.2⟩
 . refine XL hst (fun _ _=>Ele.rfl) (fun _ h=>h) ?_ (fun b ho=>rfl) rfl (h.hs.bk k)
   rcases Classical.em (ltn σ.n k) with hk | hk
   . exact .inr hk
   . exact .inl (h.hs.kn k hk)
def ZAX (v:Value) (u u':FrameMode):Prop:=(u = .returning/\v = .nilIface/\u' = .returning)\/(u = .panicking [{ v:=v,recovered:=false }]/\u' = .panicking [{ v:=v,recovered:=true }])
theorem Zm1 {b c₀:Frame} {a:Act} {k:List Item} {cs:List Frame} {w:World} {os:Array Oper} {o:Oper} {rest:List Nat} {t:Nat} {v:Value} {u u':FrameMode} (hb:b.kind = .deferred) (h0:os[0]? = some o) (hr:Zn6 t o=true)
 (hc:c₀.mode=u) (hu:ZAX v u u'):step P (lone (b.at a (.inRegion os (0 :: rest) :: k)) (c₀ :: cs) w) = .next (lone (b.at (a.put (some t) v) (.inRegion os rest :: k)) ({ c₀ with mode:=u' } :: cs) w):=by
 obtain ⟨dst,op,ty,pos,after,guard⟩:=o
 unfold Zn6 at hr
 split at hr
 case h_2=>cases hr
 rename_i c x e1 e2 e3
 simp only at e1 e2 e3
 subst e1;subst e2;subst e3
 simp only [Bool.and_eq_true,beq_iff_eq] at hr
 obtain ⟨⟨rfl,hr1⟩,hr2⟩:=hr
 split at hr1
 case h_2=>cases hr1
 rename_i hcal
 have hw:Region.wanted (⟨some x,.call c,ty,pos,after,none⟩:Oper) (yielded os a.tmps)=true:=rfl
 have hg:=stepG_op (P:=P) (b:=b) (k:=k) (cs:=c₀ :: cs) (w:=w) (rest:=rest) h0 hw
 have hfin:∀ v,(b.at a (.inRegion os (0 :: rest) :: k)).finish v=b.at (a.put (some x) v) (.inRegion os rest :: k):=by
  intro v;rw [Frame.finish_at,h0];rfl
 have hrun:(execOp a.eval (⟨some x,.call c,ty,pos,after,none⟩:Oper)).run P w = .ok .recover w:=by
  simp [execOp,resolve,hcal,invoke,builtin,Sem.run_bind,Sem.run_pure]
 have hk:(b.at a (.inRegion os (0 :: rest) :: k)).kind = .deferred:=hb
 have htr:=tryRecover_deferred hk (c₀ :: cs)
 refine step_lone_go ?_
 rw [hg,<- hfin]
 rcases hu with ⟨rfl,rfl,rfl⟩ | ⟨rfl,rfl⟩
 . have hrd:recoverD (c₀ :: cs)=none:=by simp [recoverD,hc]
   have hcc:({ c₀ with mode:=.returning }:Frame)=c₀:=by rw [<- hc]
   simp only [Frame.at] at htr ⊢
   simp [stepG.apply,hrun,htr,hrd,hcc]
 . have hrd:recoverD (c₀ :: cs)=some (v,{ c₀ with mode:=.panicking [{ v:=v,recovered:=true }] } :: cs):=by simp [recoverD,hc]
   simp only [Frame.at] at htr ⊢
   simp [stepG.apply,hrun,htr,hrd]
theorem Zsp {fr:Frame} {cs:List Frame}:∀ (ms:List Nat) (w:World),fr.mode≠.run->fr.defers=ms.map Zct->ms.Nodup->(∀ m ∈ ms,w.heap[m]? = some (.deferred (some []))) ->
 ∃ w',Unm ms w w'/\Steps P (lone fr cs w) (lone { fr with defers:=[] } cs w')
 | [],w,_,hd,_,_=>⟨w,Unm.refl w,by rw [show ({ fr with defers:=[] }:Frame)=fr by rw [<- show fr.defers=[] from hd]];exact Steps.refl P _⟩
 | m :: ms,w,hm,hd,hnd,hh=>by
  rw [List.nodup_cons] at hnd
  have hm0:=hh m (by simp)
  have hlt:=(Array.getElem?_eq_some_iff.1 hm0).1
  have h1:step P (lone fr cs w) = .next (lone { fr with defers:=ms.map Zct } cs (WV w m (.deferred none))) :=
   VC hm hd rfl (by simp only [Instr.takeDeferred,Sem.run_bind,Z4 hm0 rfl,Result.andThen_ok,YC _ hm0 rfl,Sem.run_pure])
  obtain ⟨w',g1,g2⟩:=Zsp (fr:={ fr with defers:=ms.map Zct }) (cs:=cs) ms (WV w m (.deferred none)) hm rfl hnd.2 (fun k hk=>by
   rw [Wl (by rintro rfl;exact hnd.1 hk)];exact hh k (by simp [hk]))
  refine ⟨w',⟨g1.os,g1.tape,g1.output,by rw [g1.size,Za6],fun b hb=>?_⟩,.head h1 g2⟩
  rw [List.mem_cons,not_or] at hb
  rw [g1.other b hb.2];exact Wl hb.1
theorem Zj1 {g:FuncId} {fn:Func} {id:Nat} {os:Array Oper} {y0:Code} {o1:Oper} {t:Nat} {args:Array Value} {w:World} {u u':FrameMode} {v:Value} {R:Ending->FrameMode->World->Prop} {Q:Exit->Act->World->Prop}
 (hf:P.funcs[g]? = some fn) (hb:fn.body=some (.seq (.region id os false) y0)) (h0:os[0]? = some o1) (hrec:Zn6 t o1=true) (hu:ZAX v u u')
 (h:Uc none P os (Exit.then (wpX none P y0 Q) Q) (os.toList.drop 1) (({ tmps:=args ++ Array.replicate (fn.ntmps - args.size) undef,defers:=[] }:Act).put (some t) v) w)
 (hQ:∀ e a w,Q e a w->(e = .normal\/e = .ret)/\∃ ms:List Nat,a.defers=ms.map Zct/\ms.Nodup/\(∀ m ∈ ms,w.heap[m]? = some (.deferred (some [])))/\∀ w',Unm ms w w'->∃ val,(results fn a.tmps).run P w' = .ok val w'/\R (.returned val) u' w') :
 CallsD P g args u w R:=by
 intro c₀ cs hc
 let b:Frame:={ (default:Frame) with fn:=g,kind:=.deferred }
 let a0:Act:={ tmps:=args ++ Array.replicate (fn.ntmps - args.size) undef,defers:=[] }
 have henter:Frame.enter P g args .deferred=b.at a0 [.code (.seq (.region id os false) y0)]:=by
  simp [Frame.enter,Frame.at,hf,hb,b,a0]
 have hsz:0 < os.size:=(Array.getElem?_eq_some_iff.1 h0).1
 have hrange:List.range os.size=0 :: List.range' 1 (os.size - 1):=by
  rw [List.range_eq_range',show os.size=(os.size - 1)+1 from by omega,List.range'_succ];simp
 have h1:=ZaF (r:=none) (P:=P) (ops:=os) (os.toList.drop 1) 1 (fun j hj=>by simp [List.getElem?_drop,Nat.add_comm]) _ w h
 rw [List.length_drop,Array.length_toList] at h1
 obtain ⟨e,a1,w1,q,s⟩:=Zau _ _ w h1 b [.code y0] ({ c₀ with mode:=u' } :: cs) rfl (by simp [b,hf])
 have s:=(arrivesIn_iff (b:=b) (fun _ _=>steps_iff.symm) rfl).1 s
 rw [Frame.atR_of_none (b:=b) rfl] at s
 have hpre:Steps P (lone (Frame.enter P g args .deferred) (c₀ :: cs) w) (lone (b.at (a0.put (some t) v) (.inRegion os (List.range' 1 (os.size - 1)) :: [.code y0])) ({ c₀ with mode:=u' } :: cs) w):=by
  rw [henter]
  refine .head step_seq (.head step_region ?_)
  rw [hrange]
  exact .one (Zm1 rfl h0 hrec hc hu)
 have fin:∀ (e:Exit) (a:Act) (w2:World) (todo:List Item),Q e a w2->Steps P (lone (Frame.enter P g args .deferred) (c₀ :: cs) w) (lone ({ b.at a todo with mode:=.returning }:Frame) ({ c₀ with mode:=u' } :: cs) w2) ->
  ∃ e u'' w' fr,R e u'' w'/\Comes P (lone (Frame.enter P g args .deferred) (c₀ :: cs) w) (lone fr ({ c₀ with mode:=u'' } :: cs) w') e/\fr.kind = .deferred/\fr.going P w' e:=fun e a w2 todo hq hs=>by
  obtain ⟨_,ms,d1,d2,d3,d4⟩:=hQ e a w2 hq
  obtain ⟨w3,g1,g2⟩:=Zsp (P:=P) (fr:={ b.at a todo with mode:=.returning }) (cs:={ c₀ with mode:=u' } :: cs) ms w2 (by simp) d1 d2 d3
  obtain ⟨val,hr,hR⟩:=d4 w3 g1
  exact ⟨.returned val,u',w3,_,hR,Steps.trans hs g2,rfl,rfl,rfl,fn,hf,hr⟩
 have tl:∀ (a:Act) (w2:World),wpX none P y0 Q a w2->Steps P (lone (Frame.enter P g args .deferred) (c₀ :: cs) w) (lone (b.at a [.code y0]) ({ c₀ with mode:=u' } :: cs) w2) ->
  ∃ e u'' w' fr,R e u'' w'/\Comes P (lone (Frame.enter P g args .deferred) (c₀ :: cs) w) (lone fr ({ c₀ with mode:=u'' } :: cs) w') e/\fr.kind = .deferred/\fr.going P w' e:=fun a w2 hy hs=>by
  obtain ⟨e2,a2,w3,q2,s2⟩:=hy b [] ({ c₀ with mode:=u' } :: cs) rfl (by simp [b,hf])
  have s2:=(arrivesIn_iff (b:=b) (fun _ _=>steps_iff.symm) rfl).1 s2
  rw [Frame.atR_of_none (b:=b) rfl] at s2
  rcases (hQ e2 a2 w3 q2).1 with rfl | rfl
  . exact fin _ a2 w3 [] q2 (Steps.trans hs (Steps.trans s2 (.one step_end)))
  . obtain ⟨todo,s3⟩:=s2
    exact fin _ a2 w3 todo q2 (Steps.trans hs s3)
 cases e with
 | normal=>exact tl a1 w1 q (Steps.trans hpre s)
 | ret =>
  obtain ⟨todo,s3⟩:=s
  exact fin _ a1 w1 todo q (Steps.trans hpre s3)
 | panic chain=>rcases (hQ _ a1 w1 q).1 with h | h<;>cases h
 | exit id=>rcases (hQ _ a1 w1 q).1 with h | h<;>cases h
 | goto l=>rcases (hQ _ a1 w1 q).1 with h | h<;>cases h
 | outgrown=>rcases (hQ _ a1 w1 q).1 with h | h<;>cases h
theorem Zi6 {C:Cx} {E:Env} {hp0:List (Nat × HB)} {n0 N:Nat} {args:List SV} {vs:List Value} {w:World} (hN:args.length<=N) (hds:C.ds=[]) (hH:HSim C E hp0 (ltn n0) w) (hR:RL w E (ltn n0) (okS C E hp0) args vs) :
 Sim C E ⟨Y2 0 args,hp0,n0,N,[]⟩ { tmps:=vs.toArray ++ Array.replicate (N - vs.toArray.size) undef,defers:=[] } w:=by
 have hlen:=ZD hR
 have hng:∀ t j b s,lk t (Y2 0 args)≠.gd j b s:=by
  intro t j b s ht
  simp only [VS,Nat.zero_le,if_true,Nat.sub_zero] at ht
  by_cases htl:t < args.length
  . have e1:args.getD t .any=args[t]:=by simp [htl]
    obtain ⟨y,h1,h2⟩:=W8 hR (List.getElem?_eq_getElem htl)
    rw [e1] at ht;rw [ht] at h2;simp only [R] at h2
  . have e1:args.getD t .any = .any:=by simp [List.getElem?_eq_none (Nat.le_of_not_lt htl)]
    rw [e1] at ht;cases ht
 refine ⟨fun t=>?_,by simp;omega,by rw [<- hds];exact U0,fun t j b s ht=>absurd ht (hng t j b s),hH⟩
 have hng:=hng t
 have hFR:R w E (ltn n0) (okS C E hp0) (lk t (Y2 0 args)) ((vs.toArray ++ Array.replicate (N - vs.toArray.size) undef).getD t undef):=by
  simp only [VS,Nat.zero_le,if_true,Nat.sub_zero]
  by_cases ht:t < args.length
  . have e1:args.getD t .any=args[t]:=by simp [ht]
    obtain ⟨y,h1,h2⟩:=W8 hR (List.getElem?_eq_getElem ht)
    have e2:(vs.toArray ++ Array.replicate (N - vs.toArray.size) undef).getD t undef=y:=by
     have:t < vs.length:=by omega
     have h1':=(List.getElem?_eq_some_iff.1 h1).2
     simp [Array.getElem?_append,this,h1']
    rw [e1,e2];exact h2
  . have e1:args.getD t .any = .any:=by simp [List.getElem?_eq_none (Nat.le_of_not_lt ht)]
    rw [e1];simp only [R]
 simp only
 cases hq:lk t (Y2 0 args)<;>rw [hq] at hFR hng<;>first | exact hFR | exact absurd rfl (hng _ _ _)
theorem ZzH {g:FuncId} {t N:Nat} {l:List Ins} {c:SC} (hF:RcF P g t l c N) {C:Cx} {E:Env} {σ : St} {a:Act} {w:World} (hS:Sim C E σ a w) (hm:C.m0<=σ.n) {caps:List SV} {vs:List Value} (hR:RL w E (ltn σ.n) (okS C E σ.hp) caps vs)
 {s:SV} {v:Value} (hv:R w E (ltn σ.n) (okS C E σ.hp) s v) {k:St->Prop} (hrun:rcR P t l c N caps s σ k) {u u':FrameMode} (hu:ZAX v u u') {R':Ending->FrameMode->World->Prop}
 (hk:∀ hp' n' E' w',k ⟨σ.fr,hp',n',σ.N,σ.gs⟩->Sim C E' ⟨σ.fr,hp',n',σ.N,σ.gs⟩ a w'->R' (.returned (.tuple #[])) u' w'):CallsD P g vs.toArray u w R':=by
 obtain ⟨fn,id,os,y0,o1,f1,f2,f3,f4,f5,f6,f7,f8,f9⟩:=hF.ex
 obtain ⟨hcl,hrun⟩:=hrun
 have hcl:=Nat.le_of_ble_eq_true hcl
 let C2:Cx:=⟨w,okS C E σ.hp,fun k b=>occ E k (lkh k σ.hp) b,[],none,E,σ.n⟩
 have hst:YO w w (okS C E σ.hp) (okS C2 E σ.hp):=fun b hb _=>⟨⟨.inl hb,hb.2⟩,rfl⟩
 have hin:=Zj0 hS []
 have hR2:RL w E (ltn σ.n) (okS C2 E σ.hp) caps vs:=ZG hst (fun _ _=>Ele.rfl) (fun _ h=>h) _ _ hR
 have hv2:R w E (ltn σ.n) (okS C2 E σ.hp) s v:=ZI hst (fun _ _=>Ele.rfl) (fun _ h=>h) _ _ hv
 have h0:Sim C2 E ⟨Y2 0 caps,σ.hp,σ.n,N,[]⟩ { tmps:=vs.toArray ++ Array.replicate (N - vs.toArray.size) undef,defers:=[] } w:=Zi6 hcl rfl hin.hs hR2
 have h1:Sim C2 E ⟨(t,s) :: Y2 0 caps,σ.hp,σ.n,N,[]⟩ (Act.put { tmps:=vs.toArray ++ Array.replicate (N - vs.toArray.size) undef,defers:=[] } (some t) v) w :=
  Xu h0 (fun b hb _=>⟨hb,rfl⟩) (fun _ _=>Ele.rfl) (Nat.le_refl _) hin.hs (by simp) f8 (Ua hv) hv2
 let Q:Exit->Act->World->Prop:=fun e a2 w2=>(e = .normal\/e = .ret)/\∃ σ' E',k ⟨σ.fr,σ'.hp,σ'.n,σ.N,σ.gs⟩/\Sim C2 E' σ' a2 w2
 have hKQ:LkQ C2 (rcK σ k) Q:=fun e σ' hk' E' a' w' hs=>by
  cases e with
  | n=>exact ⟨.inl rfl,σ',E',hk',hs⟩
  | ret=>exact ⟨.inr rfl,σ',E',hk',hs⟩
  | ex i=>exact hk'.elim
  | pan s=>exact hk'.elim
 have hmc:MC C2 σ.n:=⟨Nat.le_refl _,fun j b ho=>by
  rcases Classical.em (ltn σ.n j) with hj | hj
  . exact hj
  . have ho':occ E j (lkh j σ.hp) b:=ho
    rw [hS.hs.kn j hj] at ho';exact ho'.elim⟩
 have hlist:=Zcy (P:=P) (C:=C2) (Y:=Y0) Zah (ops:=os) (Q:=Exit.then (wpX none P y0 Q) Q) (K:=Zce (fxS (fun σ' K=>sx P Y0 σ.n c σ' K) (rcK σ k))) (fun e σ' hk' E' a' w' hs0=>by
  have hs:=Xf hs0
  cases e with
  | n =>
   have hwp:=YD c C2 Y0 σ.n y0 (VA σ') (rcK σ k) Q E' a' w' hmc Zah (.inl rfl) f6 hk' hKQ hs
   exact hwp
  | ret=>exact hKQ .ret _ hk' E' a' w' hs
  | ex i=>exact hk'.elim
  | pan s=>exact hk'.elim) l _ f5 _ E _ w hrun h1
 refine Zj1 (u':=u') (v:=v) f1 f2 f3 f4 hu (Q:=Q) (by rw [f7];exact hlist) (fun e a2 w2 hq=>⟨hq.1,?_⟩)
 obtain ⟨_,σ',E',hk',hs'⟩:=hq
 obtain ⟨ms,d1,d2,d3⟩:=hs'.df
 refine ⟨ms,by rw [d1];simp [C2],d2.1,fun m hm'=>(d3 m hm').2.2,fun w3 hu3=>?_⟩
 refine ⟨.tuple #[],by simp [results,f9],?_⟩
 have hs3:=We hs' d3 hu3
 have hout:=ZeB hS hs3 rfl rfl rfl rfl rfl hm
 obtain ⟨g1,g2⟩:=Zd1 (C:=C) hout.hs rfl rfl rfl rfl rfl
 have hpin:∀ j,j < σ.n->j < σ'.n/\Ele E E' j j:=fun j hj=>hs3.hs.pin j hj
 refine hk σ'.hp σ'.n E' w3 hk' (Yb hS (fun b hb hsome=>?_) (fun j hj=>(hpin j hj).2) ?_ g1)
 . obtain ⟨b1,b2⟩:=hb
   have hlt:b < w.heap.size:=by
    rcases Nat.lt_or_ge b w.heap.size with q | q
    . exact q
    . rw [Array.getElem?_eq_none q] at hsome;cases hsome
   refine ⟨⟨b1,fun j ho=>?_⟩,?_⟩
   . rcases hs3.hs.lo j b ho with q | q
     . exact absurd hlt (Nat.not_lt.2 q)
     . exact b2 j q
   . exact hs3.hs.kp.block b hlt (fun j q=>b2 j q)
 . rcases Nat.lt_or_ge σ'.n σ.n with q | q
   . exact absurd (hpin σ'.n q).1 (Nat.lt_irrefl _)
   . exact q
theorem Zat {fn:Func} {R':Ending->World->Prop}:∀ (b:FB) (C:Cx) (m:Nat) (code:Code) (σ : St) (K:Ex->St->Prop) (E:Env) (a:Act) (w:World),MC C m->C.rd=none->Za8 P b code=true->fx P m b σ K->Sim C E σ a w ->
 (∀ e σ',K e σ'->∀ (C':Cx) E' a' w',C'.w0=C.w0->C'.okp=C.okp->C'.pass=C.pass->C'.e0=C.e0->C'.m0=C.m0->Sim C' E' σ' a' w'->match e with
  | .n | .ret=>Lv P fn a'.tmps R' C.ds .returning w'
  | .ex _=>False
  | .pan s=>∀ y,R w' E' (ltn σ'.n) (okS C' E' σ'.hp) s y->Lv P fn a'.tmps R' C.ds (.panicking [{ v:=y,recovered:=false }]) w') ->
 wpX none P code (Yz P fn R') a w
 | .tail c,C,m,code,σ,K,E,a,w,hm,hrd,hc,h,hS,hK=>by
  have hwp:=YD c C Y0 m code σ K (Yz P fn R') E a w hm Zah (.inl hrd) hc h (fun e σ' hk E' a' w' hs=>Um hK e σ' hk E' a' w' hs) hS
  rw [hrd] at hwp;exact hwp
 | .seq x b,C,m,code,σ,K,E,a,w,hm,hrd,hc,h,hS,hK=>by
  cases code<;>simp [Za8] at hc
  rename_i cx cy
  refine ZcK ?_
  have hwp:=YD x C Y0 m cx σ (fxS (fx P m b) K) (Exit.then (wpX none P cy (Yz P fn R')) (Yz P fn R')) E a w hm Zah (.inl hrd) hc.1 h (fun e σ' hk E' a' w' hs=>?_) hS
  . rw [hrd] at hwp;exact hwp
  cases e with
  | n=>exact Zat b C m cy σ' K E' a' w' hm hrd hc.2 hk hs hK
  | ex i=>exact hk.elim
  | ret=>exact Um hK .ret σ' hk E' a' w' hs
  | pan s=>exact Um hK (.pan s) σ' hk E' a' w' hs
 | .dfr ops mx kx t b,C,m,code,σ,K,E,a,w,hm,hrd,hc,h,hS,hK=>by
  unfold Za8 at hc
  split at hc
  case h_2=>cases hc
  rename_i id os cy
  simp only [Bool.and_eq_true] at hc
  obtain ⟨⟨hc1,hc2⟩,hc3⟩:=hc
  split at hc2
  case h_2=>cases hc2
  rename_i o ho
  have hos:os.toList=os.toList.take ops.length ++ [o]:=by rw [<- ho,List.take_append_drop]
  refine ZcK (XV ?_)
  rw [hos,<- hrd]
  refine Zh8 (C:=C) (Q:=Exit.then (wpX C.rd P cy (Yz P fn R')) (Yz P fn R')) (os2:=[o]) Zah (K:=Zce (fxS (fun σ K=>ZzS P t (fun n=>fx P n b) (mpO (rdG none σ.fr mx)) (vO (rdG none σ.fr kx)) σ K) K)) (fun σ0 E1 a1 w1 hk0 hs0=>?_)
   (fun s σ' E' a' w' y hk hs hy=>Um hK (.pan s) (VA σ') hk E' a' w' (Xf hs) y (by rw [Zek,Zcq];exact hy)) ops _ hc1 σ E a w h hS
  have hs:=Xf hs0
  simp only [Zce,fxS] at hk0
  generalize VA σ0 = σ1 at hs hk0
  obtain ⟨ms,d1,d2,d3⟩:=hs.df
  unfold ZzS at hk0
  split at hk0
  case h_2=>exact hk0.elim
  rename_i km kv hkm hkv
  obtain ⟨hlt,hfx⟩:=hk0
  have hlt:=Nat.le_of_ble_eq_true hlt
  have hmv:a1.tmps=a1.tmps/\evX a1 mx = .map (some (E1.β km)):=by
   have hR:=YG hs.fr (g:=none) trivial mx
   cases hq:rdG none σ1.fr mx<;>rw [hq] at hkm<;>simp only [mpO,Option.some.injEq,reduceCtorEq] at hkm
   subst hkm
   rw [hq] at hR;simp only [R] at hR
   exact ⟨rfl,hR.2⟩
  have hkv':evX a1 kx=kv:=by
   have hR:=YG hs.fr (g:=none) trivial kx
   cases hq:rdG none σ1.fr kx<;>rw [hq] at hkv<;>simp only [vO,Option.some.injEq,reduceCtorEq] at hkv
   subst hkv
   rw [hq] at hR;simp only [R] at hR
   exact hR
  have hmn:C.m0<=σ1.n:=by
   rcases Nat.lt_or_ge σ1.n C.m0 with q | q
   . exact absurd (hs.hs.pin σ1.n q).1 (Nat.lt_irrefl _)
   . exact q
  unfold ZAt at hc2
  split at hc2
  case h_2=>cases hc2
  rename_i c hop hdst hgd
  simp only [Bool.and_eq_true] at hc2
  obtain ⟨⟨e1,e2⟩,e3⟩:=hc2
  split at e1
  case h_2=>cases e1
  rename_i hcal
  split at e2
  case h_2=>cases e2
  rename_i om ok hargs
  simp only [Bool.and_eq_true] at e2
  split at e3
  case h_2=>cases e3
  rename_i u hu
  have hut:u=t:=by simpa using e3
  subst hut
  have hca:c.args = #[om,ok]:=by apply Array.toList_inj.1;rw [hargs]
  rw [hrd]
  simp only [Uc,Region.wanted,hgd]
  simp only [if_true]
  have hrun:(o.semAt none a1.eval).run P w1 = .ok (.defer { target:=.builtin .delete c.argTypes o.type (c.args.map fun | .const _=>true | _=>false),args:=#[.map (some (E1.β km)),kv] }) w1:=by
   rw [Oper.semAt_none]
   obtain ⟨dst',op',ty',pos,after,guard⟩:=o
   simp only at hop;subst hop
   simp only [execOp,Sem.run_bind,resolve,hcal,Sem.run_pure,Result.andThen_ok,hca]
   simp only [List.map_toArray,List.map_cons,List.map_nil,Zg e2.1 a1,Zg e2.2 a1,hmv.2,hkv']
   cases om<;>cases ok<;>rfl
  show o.wpq none P a1 w1 _ _
  unfold Oper.wpq
  rw [hrun]
  simp only [Oper.uponX,hdst]
  show Exit.then _ _ .normal _ w1
  simp only [Exit.then]
  show wpX none P cy (Yz P fn R') { a1 with defers:=_ :: a1.defers } w1
  refine Zat b _ σ1.n cy σ1 (dK P u km kv K) E1 _ w1 ⟨Nat.le_refl _,fun k b ho=>?_⟩ rfl hc3 hfx (Zj0 hs _) (fun e σ' hk C2 E' a' w' c1 c2 c3 c4 c5 hs'=>?_)
  . rcases Classical.em (ltn σ1.n k) with hk | hk
    . exact hk
    . have ho':occ E1 k (lkh k σ1.hp) b:=ho
      rw [hs.hs.kn k hk] at ho';exact ho'.elim
  have main:∀ (hb':HB),ZxE P u kv (lkh km σ'.hp) hb'->(∀ (C':Cx) E' a' w',C'.w0=C.w0->C'.okp=C.okp->C'.pass=C.pass->C'.e0=C.e0->C'.m0=C.m0->Sim C' E' ⟨σ'.fr,(km,hb') :: σ'.hp,σ'.n,σ'.N,σ'.gs⟩ a' w'->Lv P fn a'.tmps R' C.ds .returning w') ->
   Lv P fn a'.tmps R' ({ target:=.builtin .delete c.argTypes o.type (c.args.map fun | .const _=>true | _=>false),args:=#[.map (some (E1.β km)),kv] } :: a1.defers) .returning w':=fun hb' hdel hKK=>by
   obtain ⟨x,w2,hrun2,hs2,_⟩:=ZuI hs' (ty:=o.type) (cc:=c.args.map fun | .const _=>true | _=>false) hu hdel
   have hβ : E'.β km=E1.β km:=by
    have:=(hs'.hs.pin km (by rw [c5];exact hlt)).2.1
    rw [c4] at this;exact this
   rw [hβ] at hrun2
   refine ⟨by simp,.inr (.inl ⟨.delete,c.argTypes,o.type,_,w2,x,rfl,hrun2,?_⟩)⟩
   rw [d1]
   have hsim:=ZeB hs hs2 c1 c2 c3 c4 c5 hmn
   have hmark:∀ m ∈ ms,C.w0.heap.size<=m/\okS C E' ((km,hb') :: σ'.hp) m/\w2.heap[m]? = some (.deferred (some [])):=fun m hm=>by
    obtain ⟨p1,p2,p3⟩:=d3 m hm
    have hlt':m < w1.heap.size:=(Array.getElem?_eq_some_iff.1 p3).1
    have hnp:∀ k,¬ C2.pass k m:=fun k hk=>by rw [c3] at hk;exact p2.2 k hk
    refine ⟨p1,⟨p2.1,fun k ho=>?_⟩,?_⟩
    . rcases hs2.hs.lo k m ho with g | g
      . rw [c1] at g;exact absurd hlt' (Nat.not_lt.2 g)
      . exact hnp k g
    . have:=hs2.hs.kp.block m (by rw [c1];exact hlt') hnp
      rw [c1] at this;rw [this];exact p3
   refine XB ms _ _ (by simp) d2.1 (fun m hm=>(hmark m hm).2.2) fun w3 hu3=>?_
   exact hKK { C with ds:=a'.defers } E' a' w3 rfl rfl rfl rfl rfl (We (C:={ C with ds:=a'.defers }) hsim hmark hu3)
  cases e with
  | ex i=>exact hk.elim
  | pan s=>exact hk.elim
  | n =>
   obtain ⟨hb',h1,h2⟩:=hk
   exact main hb' h1 (fun C' E' a' w' q1 q2 q3 q4 q5 q6=>hK .n _ h2 C' E' a' w' q1 q2 q3 q4 q5 q6)
  | ret =>
   obtain ⟨hb',h1,h2⟩:=hk
   exact main hb' h1 (fun C' E' a' w' q1 q2 q3 q4 q5 q6=>hK .ret _ h2 C' E' a' w' q1 q2 q3 q4 q5 q6)
 | .rcv ops cx b,C,m,code,σ,K,E,a,w,hm,hrd,hc,h,hS,hK=>by
  unfold Za8 at hc
  split at hc
  case h_2=>cases hc
  rename_i id os cy
  simp only [Bool.and_eq_true] at hc
  obtain ⟨⟨hc1,hc2⟩,hc3⟩:=hc
  split at hc2
  case h_2=>cases hc2
  rename_i o ho
  have hos:os.toList=os.toList.take ops.length ++ [o]:=by rw [<- ho,List.take_append_drop]
  refine ZcK (XV ?_)
  rw [hos,<- hrd]
  refine Zh8 (C:=C) (Q:=Exit.then (wpX C.rd P cy (Yz P fn R')) (Yz P fn R')) (os2:=[o]) Zah (K:=Zce (fxS (fun σ K=>Zya P (fun n=>fx P n b) (rK P K) (rdG none σ.fr cx) σ) K)) (fun σ0 E1 a1 w1 hk0 hs0=>?_)
   (fun s σ' E' a' w' y hk hs hy=>Um hK (.pan s) (VA σ') hk E' a' w' (Xf hs) y (by rw [Zek,Zcq];exact hy)) ops _ hc1 σ E a w h hS
  have hs:=Xf hs0
  simp only [Zce,fxS] at hk0
  generalize VA σ0 = σ1 at hs hk0
  obtain ⟨ms,d1,d2,d3⟩:=hs.df
  unfold Zya at hk0
  split at hk0
  case h_2=>exact hk0.elim
  rename_i g caps hcl
  have hRx:=YG hs.fr (g:=none) trivial cx
  rw [hcl] at hRx
  simp only [R] at hRx
  obtain ⟨cs,k1,k2⟩:=hRx
  have hmn:C.m0<=σ1.n:=by
   rcases Nat.lt_or_ge σ1.n C.m0 with q | q
   . exact absurd (hs.hs.pin σ1.n q).1 (Nat.lt_irrefl _)
   . exact q
  unfold Zr3 at hc2
  split at hc2
  case h_2=>cases hc2
  rename_i cc hop hdst hgd
  simp only [Bool.and_eq_true] at hc2
  obtain ⟨e1,e2⟩:=hc2
  split at e1
  case h_2=>cases e1
  rename_i y hcal
  have hca:cc.args = #[]:=by simpa using e2
  rw [hrd]
  simp only [Uc,Region.wanted,hgd]
  simp only [if_true]
  have hrun:(o.semAt none a1.eval).run P w1 = .ok (.defer { target:=.fn (.func g) cs,args:=#[] }) w1:=by
   rw [Oper.semAt_none]
   obtain ⟨dst',op',ty',pos,after,guard⟩:=o
   simp only at hop;subst hop
   simp [execOp,resolve,hcal,hca,Zg e1 a1,k1,Deferred.ofValue,Sem.run_bind,Sem.run_pure]
  show o.wpq none P a1 w1 _ _
  unfold Oper.wpq
  rw [hrun]
  simp only [Oper.uponX,hdst]
  show Exit.then _ _ .normal _ w1
  simp only [Exit.then]
  show wpX none P cy (Yz P fn R') { a1 with defers:=_ :: a1.defers } w1
  refine Zat b _ σ1.n cy σ1 (rK P K g caps) E1 _ w1 ⟨Nat.le_refl _,fun k b ho=>?_⟩ rfl hc3 hk0 (Zj0 hs _) (fun e σ' hk C2 E' a' w' c1 c2 c3 c4 c5 hs'=>?_)
  . rcases Classical.em (ltn σ1.n k) with hk | hk
    . exact hk
    . have ho':occ E1 k (lkh k σ1.hp) b:=ho
      rw [hs.hs.kn k hk] at ho';exact ho'.elim
  have hpin:∀ j,j < σ1.n->j < σ'.n/\Ele E1 E' j j:=fun j hj=>by
   have:=hs'.hs.pin j (by rw [c5];exact hj)
   rw [c4] at this;exact this
  have hstC:YO w1 w' (okS C E1 σ1.hp) (okS C2 E' σ'.hp):=fun b hb q=>by
   have hlt:b < w1.heap.size:=by rcases q with ⟨cells,T,fz,hcell⟩ | ⟨es,c,hcell⟩<;>exact (Array.getElem?_eq_some_iff.1 hcell).1
   refine ⟨⟨.inl (by rw [c2];exact hb),fun j ho=>?_⟩,?_⟩
   . rcases hs'.hs.lo j b ho with q | q
     . rw [c1] at q;exact absurd hlt (Nat.not_lt.2 q)
     . rw [c3] at q;exact hb.2 j q
   . have:=hs'.hs.kp.block b (by rw [c1];exact hlt) (fun j q=>by rw [c3] at q;exact hb.2 j q)
     rw [c1] at this;exact this
  have hcaps:RL w' E' (ltn σ'.n) (okS C2 E' σ'.hp) caps cs.toList:=ZG hstC (fun j hj=>(hpin j hj).2) (fun j hj=>(hpin j hj).1) _ _ k2
  have fin:∀ (kk:St->Prop) (eK:Ex) (heK:eK = .n\/eK = .ret),(∀ σ,kk σ->K eK σ)->∀ hp' n' E3 w3,kk ⟨σ'.fr,hp',n',σ'.N,σ'.gs⟩->Sim C2 E3 ⟨σ'.fr,hp',n',σ'.N,σ'.gs⟩ a' w3->Lv P fn a'.tmps R' a1.defers .returning w3:=fun kk eK heK hkk hp' n' E3 w3 hq hs2=>by
   rw [d1]
   have hsim:=ZeB hs hs2 c1 c2 c3 c4 c5 hmn
   have hmark:∀ m ∈ ms,C.w0.heap.size<=m/\okS C E3 hp' m/\w3.heap[m]? = some (.deferred (some [])):=fun m hm=>by
    obtain ⟨p1,p2,p3⟩:=d3 m hm
    have hlt':m < w1.heap.size:=(Array.getElem?_eq_some_iff.1 p3).1
    have hnp:∀ k,¬ C2.pass k m:=fun k hk=>by rw [c3] at hk;exact p2.2 k hk
    refine ⟨p1,⟨p2.1,fun k ho=>?_⟩,?_⟩
    . rcases hs2.hs.lo k m ho with g | g
      . rw [c1] at g;exact absurd hlt' (Nat.not_lt.2 g)
      . exact hnp k g
    . have:=hs2.hs.kp.block m (by rw [c1];exact hlt') hnp
      rw [c1] at this;rw [this];exact p3
   refine XB ms _ _ (by simp) d2.1 (fun m hm=>(hmark m hm).2.2) fun w4 hu4=>?_
   rcases heK with rfl | rfl
   . exact hK .n _ (hkk _ hq) { C with ds:=a'.defers } E3 a' w4 rfl rfl rfl rfl rfl (We (C:={ C with ds:=a'.defers }) hsim hmark hu4)
   . exact hK .ret _ (hkk _ hq) { C with ds:=a'.defers } E3 a' w4 rfl rfl rfl rfl rfl (We (C:={ C with ds:=a'.defers }) hsim hmark hu4)
  have hm2:C2.m0<=σ'.n:=by
   rw [c5]
   rcases Nat.lt_or_ge σ'.n σ1.n with q | q
   . exact absurd (hpin σ'.n q).1 (Nat.lt_irrefl _)
   . exact q
  have main:∀ (s:SV) (v:Value) (u u':FrameMode) (eK:Ex),(eK = .n\/eK = .ret)->R w' E' (ltn σ'.n) (okS C2 E' σ'.hp) s v->ZAX v u u'->(∃ t l c N,RcF P g t l c N/\rcR P t l c N caps s σ' (K eK)) ->
   Lv P fn a'.tmps R' ({ target:=.fn (.func g) cs,args:=#[] } :: a1.defers) u w':=fun s v u u' eK heK hv hu hex=>by
   obtain ⟨t,l,c,N,hF,hrun⟩:=hex
   have hset:u≠.run/\settle u' = .returning:=by
    rcases hu with ⟨rfl,rfl,rfl⟩ | ⟨rfl,rfl⟩
    . exact ⟨by simp,rfl⟩
    . exact ⟨by simp,rfl⟩
   refine ⟨hset.1,.inr (.inr ⟨.func g,cs,g,cs,rfl,by simp [invoke,Y4 hF.bd],?_⟩)⟩
   have hcalls:=ZzH hF hs' hm2 hcaps hv hrun hu (R':=fun e u'' w''=>match e with
    | .returned _=>Lv P fn a'.tmps R' a1.defers (settle u'') w''
    | .panicked chain=>Lv P fn a'.tmps R' a1.defers (raised u'' chain) w''
    | .outgrown=>R' .outgrown w'') (fun hp' n' E3 w3 hq hs3=>by
    show Lv P fn a'.tmps R' a1.defers (settle u') w3
    rw [hset.2]
    exact fin (K eK) eK heK (fun _ h=>h) hp' n' E3 w3 hq hs3)
   rw [show cs.toList.toArray=cs from rfl] at hcalls
   intro c₀ cs0 hc0
   obtain ⟨e2,u2,w2,fr2,q1,q2,q3,q4⟩:=hcalls c₀ cs0 hc0
   refine ⟨e2,u2,w2,fr2,?_,q2,q3,q4⟩
   cases e2<;>exact q1
  cases e with
  | ex i=>exact hk.elim
  | n=>exact main _ _ _ _ .n (.inl rfl) (by simp only [R]) (.inl ⟨rfl,rfl,rfl⟩) hk
  | ret=>exact main _ _ _ _ .ret (.inr rfl) (by simp only [R]) (.inl ⟨rfl,rfl,rfl⟩) hk
  | pan s=>intro y hy;exact main s y _ _ .ret (.inr rfl) hy (.inr ⟨rfl,rfl⟩) hk
theorem Zd6 {f:FuncId} {fn:Func} {code:Code} {fb:FB} {args:List SV} {N n0 m:Nat} {hp0:List (Nat × HB)} {C:Cx} {E:Env} {w:World} {vs:List Value} {K:Ex->St->Prop} {R':Ending->World->Prop}
 (hf:P.funcs[f]? = some fn) (hb:fn.body=some code) (hc:Za8 P fb code=true) (hN:fn.ntmps=N) (hA:args.length<=N) (hds:C.ds=[]) (hrd:C.rd=none) (hm:MC C m)
 (hH:HSim C E hp0 (ltn n0) w) (hR:RL w E (ltn n0) (okS C E hp0) args vs) (h:fx P m fb ⟨Y2 0 args,hp0,n0,N,[]⟩ K)
 (hK:∀ e σ,K e σ->∀ C' E a w',C'.w0=C.w0->C'.okp=C.okp->C'.pass=C.pass->C'.e0=C.e0->C'.m0=C.m0->Sim C' E σ a w'->match e with
  | .n | .ret=>∃ v,(results fn a.tmps).run P w' = .ok v w'/\R' (.returned v) w'
  | .ex _=>False
  | .pan s=>∀ y,R w' E (ltn σ.n) (okS C' E σ.hp) s y->R' (.panicked [{ v:=y,recovered:=false }]) w'):Calls P f vs.toArray w R':=by
 have hlen:=ZD hR
 have hng:∀ t j b s,lk t (Y2 0 args)≠.gd j b s:=by
  intro t j b s ht
  simp only [VS,Nat.zero_le,if_true,Nat.sub_zero] at ht
  by_cases htl:t < args.length
  . have e1:args.getD t .any=args[t]:=by simp [htl]
    obtain ⟨y,h1,h2⟩:=W8 hR (List.getElem?_eq_getElem htl)
    rw [e1] at ht;rw [ht] at h2;simp only [R] at h2
  . have e1:args.getD t .any = .any:=by simp [List.getElem?_eq_none (Nat.le_of_not_lt htl)]
    rw [e1] at ht;cases ht
 have hS:Sim C E ⟨Y2 0 args,hp0,n0,N,[]⟩ { tmps:=vs.toArray ++ Array.replicate (fn.ntmps - vs.toArray.size) undef,defers:=[] } w:=by
  refine ⟨fun t=>?_,by simp [hN];omega,by rw [<- hds];exact U0,fun t j b s ht=>absurd ht (hng t j b s),hH⟩
  have hng:=hng t
  have hFR:R w E (ltn n0) (okS C E hp0) (lk t (Y2 0 args)) ((vs.toArray ++ Array.replicate (fn.ntmps - vs.toArray.size) undef).getD t undef):=by
   simp only [VS,Nat.zero_le,if_true,Nat.sub_zero]
   by_cases ht:t < args.length
   . have e1:args.getD t .any=args[t]:=by simp [ht]
     obtain ⟨y,h1,h2⟩:=W8 hR (List.getElem?_eq_getElem ht)
     have e2:(vs.toArray ++ Array.replicate (fn.ntmps - vs.toArray.size) undef).getD t undef=y:=by
      have:t < vs.length:=by omega
      have h1':=(List.getElem?_eq_some_iff.1 h1).2
      simp [Array.getElem?_append,this,h1']
     rw [e1,e2];exact h2
   . have e1:args.getD t .any = .any:=by simp [List.getElem?_eq_none (Nat.le_of_not_lt ht)]
     rw [e1];simp only [R]
  simp only
  cases hq:lk t (Y2 0 args)<;>rw [hq] at hFR hng<;>first | exact hFR | exact absurd rfl (hng _ _ _)
 refine VF hf hb ?_
 refine Zat fb C m code _ K E _ w hm hrd hc h hS (fun e σ hk C' E a w' c1 c2 c3 c4 c5 hs=>?_)
 have key:=hK e σ hk C' E a w' c1 c2 c3 c4 c5 hs
 rw [hds]
 cases e with
 | ex i=>exact key
 | n=>exact key
 | ret=>exact key
 | pan s=>exact key
theorem ZhB {f:FuncId} {fn:Func} {code:Code} {fb:FB} {args:List SV} {rs:List RV} {N n0:Nat} {hp0:List (Nat × HB)} {Zx:Ot->Prop} (hf:P.funcs[f]? = some fn) (hb:fn.body=some code) (hc:Za8 P fb code=true)
 (hr:Y5 P rs fn.results.toList=true) (hN:fn.ntmps=N) (hA:args.length<=N) (h:fx P n0 fb ⟨Y2 0 args,hp0,n0,N,[]⟩ (WC rs Zx)):CtY P Y0 f hp0 n0 args Zx:=by
 intro C E w vs d1 d2 d3 d4 d5 d6 hY hH hR
 refine Zd6 hf hb hc hN hA d3 d2 ⟨Nat.le_of_eq d5,d6⟩ hH hR h fun e σ hk C' E' a w' c1 c2 c3 c4 c5 hs=>?_
 obtain ⟨g1,g2⟩:=Zd1 hs.hs c1 c2 c3 c4 c5
 have hend:Zsb Zx σ.hp σ.n (rvE (Zd0 σ rs))->∃ v,(results fn a.tmps).run P w' = .ok v w'/\∃ o E' y,Zx o/\HSim C E' o.hp (ltn o.n) w'/\R w' E' (ltn o.n) (okS C E' o.hp) o.res y/\Ending.returned v=Zvb o.pn y:=fun hrr=>by
  cases hq:rvE (Zd0 σ rs) with
  | none=>rw [hq] at hrr;exact hrr.elim
  | some s =>
   rw [hq] at hrr
   obtain ⟨v,h1,h2⟩:=V8 (P:=P) (fn:=fn) (a:=a) (w:=w') (E:=E') (n:=ltn σ.n) (ok:=okS C' E' σ.hp) hq fun l hl=>Zeo hs rs _ l hr hl
   rw [g2] at h2
   exact ⟨v,h1,_,E',v,hrr,g1,h2,rfl⟩
 cases e with
 | ex i=>exact hk.elim
 | n=>exact hend hk
 | ret=>exact hend hk
 | pan s=>intro y hy;rw [g2] at hy;exact ⟨_,E',y,hk,g1,hy,rfl⟩
theorem Zgg {f:FuncId} {fn:Func} {code:Code} {fb:FB} {args:List SV} {rs:List RV} {N n0:Nat} {hp0:List (Nat × HB)} {Zx:Ot->Prop} (hf:P.funcs[f]? = some fn) (hb:fn.body=some code) (hnm:Z3 P f=true) (hc:Za8 P fb code=true)
 (hr:Y5 P rs fn.results.toList=true) (hN:fn.ntmps=N) (hA:args.length<=N) (hh:hpb n0 hp0) (hx:∀ o,Zx o->KX o.res/\KXP o.hp) (h:fx P n0 fb ⟨Y2 0 args,hp0,n0,N,[]⟩ (WC rs fun o=>∃ o',Zx o'/\WW n0 o o')):CtM P f hp0 n0 args Zx :=
 ⟨hnm,hh,hx,(ZhB hf hb hc hr hN hA h).mono fun _ h=>h⟩
end
end Go.Sx
namespace Go.Proofs.Ythilckbkffjliaa
open Go Go.Sx
def c73:FB:=(.seq (.reg [
 o1 4 (.box (.t 1) 0 50),
 o1 6 (.alloc [.int .u8 0] 5)])
 (.rcv [
 o1 7 (.mkf 106 [.t 6])] (.t 7)
 (.tail (.seq (.reg [
 m1 8 2,
 m1 9 0,
 o1 10 (.ld (.t 4) 8 true),
 o1 11 (.calvm (.t 8) [.t 9,.t 10])])
 (.seq (.reg [
 ⟨none,.st (.t 6) (.c (.int .u8 0)) 1,none,[]⟩])
 .ret)))))
def r73:List RV:=[.cell 6 1 false]
theorem n73:Try.f73.ntmps=12:=by kernel_rfl
theorem b73:Z3 Try.prog 73=true:=by kernel_rfl
theorem Zx7:Za8 Try.prog c73 ((Try.f73.body).getD .skip)=true:=by kernel_rfl
theorem ZyO:Y5 Try.prog r73 Try.f73.results.toList=true:=by kernel_rfl
theorem m73 {n0:Nat} {hp0:List (Nat × HB)} {args:List SV} {Zx:Ot->Prop} (hh:hpb n0 hp0) (hx:∀ o,Zx o->KX o.res/\KXP o.hp) (h:fx Try.prog n0 c73 ⟨Y2 0 args,hp0,n0,12,[]⟩ (WC r73 fun o=>∃ o',Zx o'/\WW n0 o o')) (hA:Nat.ble args.length 12=true:=by rfl):CtM Try.prog 73 hp0 n0 args Zx:=Zgg Try.func73 rfl b73 Zx7 ZyO n73 (Nat.le_of_ble_eq_true hA) hh hx h
def l106:List Ins:=[
]
def k106:SC:=(.block 0 (sr1 [
 o1 6 (.raw (Go.Op.binOp Go.BinOp.eql 20 (Go.Operand.tmp 4) (Go.Operand.const Go.Value.nilIface) 20) 4)]
 (.cond (.t 6)
 (.reg [
  m1 1 4])
 (sr1 [
  o1 7 (.raw (Go.Op.typeAssert (Go.Operand.tmp 4) 20 145 Bool.true) 0),
  o1 8 (.ext (.t 7) 1),
  o1 9 (.ext (.t 7) 0)]
  (.cond (.t 8)
  (sr1 [
   m1 2 9]
   (.reg [
   m1 10 2,
   ⟨none,.st (.t 0) (.t 10) 1,none,[]⟩]))
  (sr1 [
   m1 3 4]
   (.reg [
   m1 5 3,
   ⟨none,.raw (Go.Op.panic (Go.Operand.tmp 5)) 0,none,[]⟩])))))))
theorem q106:RcF Try.prog 106 4 l106 k106 11:=⟨⟨Try.f106,_,_,_,_,Try.func106,rfl,rfl,by kernel_rfl,by kernel_rfl,by kernel_rfl,by kernel_rfl,by decide,rfl⟩,by kernel_rfl⟩
open Go.Azalai
theorem u20:Try.prog.underlying 20=some (.interface (Try.prog.methodsAt 20)):=by kernel_rfl
def Zlh (w:Int) (p:Pact) (b:Bks):Ot:=⟨false,U8 w,bH p b,6⟩
theorem X1 {p:Pact} {b:Bks} {x:Letter} {f:FuncId} {Rl:Bks->Prop} (hf:CtM Try.prog f (bH p b) 6 [.p 5 0,.agg (Zc x)] (fun o=>∃ b',Rl b'/\o=Yk p b')) :
 CtM Try.prog 73 (bH p b) 6 [.p 5 0,.agg (Zc x),.cl f []] (fun o=>∃ b',Rl b'/\o=Zlh 0 p b'):=by
 refine m73 (by simp [hpb,bH]) (fun o ho=>by obtain ⟨b',-,rfl⟩:=ho;exact ⟨by simp [Zlh,KX],XM p b'⟩) ?_
 dsimp only [c73,r73,bH,Zc,go_sem,rA,rM,rS]
 refine Zs [0,1,2,3,4,5] hf rfl rfl rfl ?_ ?_ ?_
 . (repeat first | dsimp only [bH,go_sem,rA,rM,rS] | simp only [nbr])
   try simp [mtL,mtB,mtS,Zc]
 . (repeat first | dsimp only [bH,go_sem,rA,rM,rS] | simp only [nbr])
   try simp [Zj,Zr,ZB,ZP,Za,Zc,Zb,KFL,KF]
 rintro _ ⟨b',hb',rfl⟩
 (repeat first | dsimp only [Yk,bH,go_sem,rA,rM,rS] | simp only [nbr])
 refine ⟨_,_,_,_,q106,?_⟩
 dsimp only [l106,k106,go_sem,rA,rM,rS]
 refine ⟨rfl,?_⟩
 refine ZiE u20 rfl ?_
 dsimp only [go_sem,rA,rM,rS]
 refine Zw rfl ?_
 dsimp only [go_sem,rA,rM,rS]
 refine ⟨_,⟨b',hb',rfl⟩,?_⟩
 try simp only [Zlh,bH]
 (refine Zo ?_ ?_ ?_ rfl<;>dsimp only [Zj,Zr,ZB,ZP,Za,id,go_sem,rA,rM,rS]<;>simp [Zj,Zr,ZB,ZP,Za,Zb,Ze,KFR,KFL,KF,Zd,mtO,nbr])
theorem X8 {p:Pact} {b:Bks} {x:Letter} {f:FuncId} {w:Int} (hf:CtM Try.prog f (bH p b) 6 [.p 5 0,.agg (Zc x)] (fun o=>o=Yi w p b)) :
 CtM Try.prog 73 (bH p b) 6 [.p 5 0,.agg (Zc x),.cl f []] (fun o=>o=Zlh w p b):=by
 refine m73 (by simp [hpb,bH]) (fun o ho=>by subst ho;exact ⟨by simp [Zlh,KX],XM p b⟩) ?_
 dsimp only [c73,r73,bH,Zc,go_sem,rA,rM,rS]
 refine Zs [0,1,2,3,4,5] hf rfl rfl rfl ?_ ?_ ?_
 . (repeat first | dsimp only [bH,go_sem,rA,rM,rS] | simp only [nbr])
   try simp [mtL,mtB,mtS,Zc]
 . (repeat first | dsimp only [bH,go_sem,rA,rM,rS] | simp only [nbr])
   try simp [Zj,Zr,ZB,ZP,Za,Zc,Zb,KFL,KF]
 rintro _ rfl
 (repeat first | dsimp only [Yi,bH,go_sem,rA,rM,rS] | simp only [nbr])
 refine ⟨_,_,_,_,q106,?_⟩
 dsimp only [l106,k106,go_sem,rA,rM,rS]
 refine ⟨rfl,?_⟩
 refine Zrm u20 rfl ?_
 dsimp only [go_sem,rA,rM,rS]
 refine Zu rfl ?_
 dsimp only [go_sem,rA,rM,rS]
 refine Zeq ZeU rfl ?_
 dsimp only [go_sem,rA,rM,rS]
 refine Zw rfl ?_
 dsimp only [go_sem,rA,rM,rS]
 refine ⟨_,rfl,?_⟩
 try simp only [Zlh,bH]
 (refine Zo ?_ ?_ ?_ rfl<;>dsimp only [Zj,Zr,ZB,ZP,Za,id,go_sem,rA,rM,rS]<;>simp [Zj,Zr,ZB,ZP,Za,Zb,Ze,KFR,KFL,KF,Zd,mtO,nbr])
def Wk (k:Int):FuncId:=if k=1 then 95 else if k=2 then 96 else if k=3 then 99 else if k=4 then 100 else if k=5 then 101 else if k=6 then 103 else if k=7 then 104 else 105
theorem Zzp {p:Pact} {n:Nat} {c:Co} {b:Bks} (h:BkR n c b) (hn:n<=1000) (hp:ZA p=true) (x:Letter) (hx:Zk p x=true) :
 CtM Try.prog 73 (bH p b) 6 [.p 5 0,.agg (Zc x),.cl (Wk x.kind) []] (fun o=>∃ b',BkR (n+1) (Zp p c x).1 b'/\o=Zlh (Zp p c x).2 p b'):=by
 have hpp:(0<=p.hire/\p.hire<=1000)/\(0<=p.calf/\p.calf<=1000):=by
  simp only [ZA,Bool.and_eq_true,inR,decide_eq_true_eq] at hp
  omega
 have hv:∀ w,CtM Try.prog 73 (bH p b) 6 [.p 5 0,.agg (Zc x),.cl (Wk x.kind) []] (fun o=>o=Zlh w p b)->Zp p c x=(c,w)->CtM Try.prog 73 (bH p b) 6 [.p 5 0,.agg (Zc x),.cl (Wk x.kind) []] (fun o=>∃ b',BkR (n+1) (Zp p c x).1 b'/\o=Zlh (Zp p c x).2 p b'):=fun w hc he=>by
  rw [he]
  exact ⟨hc.bd,hc.hb,fun o ⟨b',_,ho⟩=>by subst ho;exact ⟨by simp [Zlh,KX],XM p b'⟩,fun C E w vs a1 a2 a3 a4 a5 a6 a7 a8 a9=>(hc.run C E w vs a1 a2 a3 a4 a5 a6 a7 a8 a9).mono fun e w' ⟨o,E',y,q1,q2⟩=>⟨o,E',y,⟨b,h.next,q1⟩,q2⟩⟩
 have hday:0<=x.day/\x.day<=100000:=by
  simp only [Zk,Bool.and_eq_true,inR,decide_eq_true_eq] at hx
  exact hx.1.2
 have hk:x.kind=1\/x.kind=2\/x.kind=3\/x.kind=4\/x.kind=5\/x.kind=6\/x.kind=7\/x.kind=8:=by
  apply Classical.byContradiction
  intro q
  simp only [not_or] at q
  simp [Zk,q] at hx
 rcases hk with hk | hk | hk | hk | hk | hk | hk | hk
 . have he:Zp p c x=({ c with result:=c.result+x.rials },0):=by simp [Zp,hk]
   have hr:inR 0 10000000 x.rials=true:=by
    simp only [Zk,hk,Bool.and_eq_true] at hx;simp at hx;exact hx.2.1
   rw [he,show Wk x.kind=95 from by simp [Wk,hk]]
   exact X1 (Rl:=BkR (n+1) { c with result:=c.result+x.rials }) (Zt1 h hn x hr)
 . have he:Zp p c x=({ c with result:=c.result - x.rials },0):=by simp [Zp,hk]
   have hr:inR 0 10000000 x.rials=true:=by
    simp only [Zk,hk,Bool.and_eq_true] at hx;simp at hx;exact hx.2.1
   rw [he,show Wk x.kind=96 from by simp [Wk,hk]]
   exact X1 (Rl:=BkR (n+1) { c with result:=c.result - x.rials }) (Zpx h hn x hr)
 . have hw:Wk x.kind=99:=by simp [Wk,hk]
   cases hl:c.loans x.animal with
   | some l =>
    refine hv 1 ?_ (by simp [Zp,hk,hl])
    rw [hw];exact X8 (Zkb h x hl)
   | none =>
    cases hd:c.dead x.animal with
    | true =>
     refine hv 2 ?_ (by simp [Zp,hk,hl,hd])
     rw [hw];exact X8 (Zkz h x hl hd)
    | false =>
     rw [show Zp p c x=({ c with loans:=upd c.loans x.animal (some (x.who,x.day)) },0) from by simp [Zp,hk,hl,hd],hw]
     exact X1 (Rl:=BkR (n+1) { c with loans:=upd c.loans x.animal (some (x.who,x.day)) }) (ZpY h x hday hl hd)
 . have hw:Wk x.kind=100:=by simp [Wk,hk]
   cases hl:c.loans x.animal with
   | none =>
    refine hv 3 ?_ (by simp [Zp,hk,hl])
    rw [hw];exact X8 (Zxd h x hl)
   | some l =>
    rw [show Zp p c x=(ZN p c x.animal x.day l,0) from by simp [Zp,hk,hl],hw]
    exact X1 (Rl:=BkR (n+1) (ZN p c x.animal x.day l)) (Zqv h hn hpp.1 x hday hl)
 . have hw:Wk x.kind=101:=by simp [Wk,hk]
   cases hd:c.dead x.animal with
   | true =>
    refine hv 2 ?_ (by simp [Zp,hk,hd])
    rw [hw];exact X8 (Zje h x hd)
   | false =>
    cases hl:c.loans x.animal with
    | none =>
     refine hv 3 ?_ (by simp [Zp,hk,hl,hd])
     rw [hw];exact X8 (ZvB h x hd hl)
    | some l =>
     rw [show Zp p c x=({ ZN p c x.animal x.day l with dead:=upd c.dead x.animal true },0) from by simp [Zp,hk,hl,hd],hw]
     exact X1 (Rl:=BkR (n+1) { ZN p c x.animal x.day l with dead:=upd c.dead x.animal true }) (Zp2 h hn hpp.1 x hday hd hl)
 . have hw:Wk x.kind=103:=by simp [Wk,hk]
   have hr:0<=x.rials/\x.rials<=10000000:=by
    simp only [Zk,hk,Bool.and_eq_true] at hx;simp [inR] at hx;omega
   cases hd:c.known x.other with
   | true =>
    refine hv 4 ?_ (by simp [Zp,hk,hd])
    rw [hw];exact X8 (Zgl h x hd)
   | false =>
    cases hl:c.loans x.animal with
    | none =>
     refine hv 3 ?_ (by simp [Zp,hk,hl,hd])
     rw [hw];exact X8 (ZsG h x hd hl)
    | some l =>
     rw [show Zp p c x=({ c with extra:=upd c.extra l.1 (c.extra l.1+(x.rials * p.calf).tdiv 1000),result:=c.result+(x.rials - (x.rials * p.calf).tdiv 1000),known:=upd c.known x.other true },0) from by simp [Zp,hk,hl,hd],hw]
     exact X1 (Rl:=BkR (n+1) { c with extra:=upd c.extra l.1 (c.extra l.1+(x.rials * p.calf).tdiv 1000),result:=c.result+(x.rials - (x.rials * p.calf).tdiv 1000),known:=upd c.known x.other true }) (Zn9 h hn hpp.2 x hr hd hl)
 . have hw:Wk x.kind=104:=by simp [Wk,hk]
   have hr:0<=x.rials/\x.rials<=10000000:=by
    simp only [Zk,hk,Bool.and_eq_true] at hx;simp [inR] at hx;omega
   rw [show Zp p c x=({ c with debts:=upd c.debts x.who (upd (c.debts x.who) x.other (c.debts x.who x.other+x.rials)) },0) from by simp [Zp,hk],hw]
   exact X1 (Rl:=BkR (n+1) { c with debts:=upd c.debts x.who (upd (c.debts x.who) x.other (c.debts x.who x.other+x.rials)) }) (Zu8 h hn x hr)
 . have hw:Wk x.kind=105:=by simp [Wk,hk]
   have hr:0<=x.rials/\x.rials<=10000000:=by
    simp only [Zk,hk,Bool.and_eq_true] at hx;simp [inR] at hx;omega
   by_cases hd:c.debts x.who x.other < x.rials
   . refine hv 5 ?_ (by simp [Zp,hk,hd])
     rw [hw];exact X8 (ZkK h x hd)
   . rw [show Zp p c x=({ c with debts:=upd c.debts x.who (upd (c.debts x.who) x.other (c.debts x.who x.other - x.rials)) },0) from by simp [Zp,hk,hd],hw]
     exact X1 (Rl:=BkR (n+1) { c with debts:=upd c.debts x.who (upd (c.debts x.who) x.other (c.debts x.who x.other - x.rials)) }) (ZwK h hn x hr hd)
end Go.Proofs.Ythilckbkffjliaa
namespace Go.Azalai
theorem Zbr {f:Nat->Int} {n:Nat}:Zt ((List.range (n+1)).map f)=Zt ((List.range n).map f)+f n:=by
 rw [List.range_succ,List.map_append,Vv];simp [Zt]
theorem Xk {α : Type} {f g:α->Int} {l:List α} (h:∀ x ∈ l,f x=g x):Zt (l.map f)=Zt (l.map g):=by rw [List.map_congr_left h]
theorem Zeg {f g:Nat->Int} {a:Nat} (h:∀ i,i≠a->f i=g i):∀ {n:Nat},a < n->Zt ((List.range n).map f)=Zt ((List.range n).map g)+(f a - g a)
 | 0,q=>by omega
 | n+1,q=>by
  rw [Zbr,Zbr]
  by_cases e:a=n
  . subst e
    rw [Xk (g:=g) fun i hi=>h i (by have:=List.mem_range.1 hi;omega)];omega
  . rw [Zeg h (n:=n) (by omega),h n (fun q=>e q.symm)];omega
theorem Ur {p:Pact} {c:Co} {a d:Int} {l:Int × Int} (i:Nat):Yn p (ZN p c a d l) i=if (i:Int)=a then 0 else Yn p c i:=by
 simp only [Yn,ZN,upd]
 by_cases h:(i:Int)=a
 . simp [h]
 . simp [h]
theorem U7 {p:Pact} {c:Co} {a d who:Int} {l:Int × Int} (i:Nat):YP p (ZN p c a d l) who i=if (i:Int)=a then 0 else YP p c who i:=by
 simp only [YP,ZN,upd]
 by_cases h:(i:Int)=a
 . simp [h]
 . simp [h]
theorem ZdX {p:Pact} {c:Co} {a:Int} {l:Int × Int} (hl:c.loans a=some l) (h0:0<=a) (h1:a<=9999):Vr p (ZN p c a p.ends l)=Vr p c:=by
 have e:((a.toNat:Nat):Int)=a:=by omega
 have h2:=Zeg (f:=Yn p c) (g:=Yn p (ZN p c a p.ends l)) (a:=a.toNat) (fun i hi=>by rw [Ur,if_neg (by omega)]) (n:=10000) (by omega)
 rw [Ur,if_pos e] at h2
 have h3:Yn p c a.toNat=p.hire * (p.ends - l.2):=by simp only [Yn,e,hl]
 rw [h3] at h2
 simp only [Vr]
 rw [h2]
 simp only [ZN];omega
theorem Zc1 {p:Pact} {c:Co} {a:Int} {l:Int × Int} (hl:c.loans a=some l) (h0:0<=a) (h1:a<=9999) (who:Int):UC p (ZN p c a p.ends l) who=UC p c who:=by
 have e:((a.toNat:Nat):Int)=a:=by omega
 have h2:=Zeg (f:=YP p c who) (g:=YP p (ZN p c a p.ends l) who) (a:=a.toNat) (fun i hi=>by rw [U7,if_neg (by omega)]) (n:=10000) (by omega)
 rw [U7,if_pos e] at h2
 have h3:YP p c who a.toNat=if l.1=who then p.hire * (p.ends - l.2) else 0:=by simp only [YP,e,hl]
 rw [h3] at h2
 simp only [UC]
 rw [h2]
 simp only [ZN,upd]
 by_cases q:who=l.1
 . rw [if_pos q,if_pos q.symm,q];omega
 . rw [if_neg q,if_neg fun h=>q h.symm];omega
structure EndI (p:Pact) (c0 c:Co):Prop where
 ok:CoOk p c
 er:Vr p c=Vr p c0
 ex:∀ w,UC p c w=UC p c0 w
 db:c.debts=c0.debts
theorem EndI.start {p:Pact} {c:Co} (h:CoOk p c):EndI p c c:=⟨h,rfl,fun _=>rfl,rfl⟩
theorem EndI.home {p:Pact} {c0 c:Co} (h:EndI p c0 c) {a:Int} {l:Int × Int} (hl:c.loans a=some l):EndI p c0 (ZN p c a p.ends l):=by
 have hb:=h.ok.inb a l hl
 exact ⟨h.ok.home,by rw [ZdX hl hb.1 hb.2,h.er],fun w=>by rw [Zc1 hl hb.1 hb.2,h.ex],by simp only [ZN];exact h.db⟩
theorem ZdT {p:Pact} {c:Co} (h:∀ a,c.loans a=none):Vr p c=c.result:=by
 rw [Vr,YL fun i _=>by simp only [Yn,h]];omega
theorem Zdl {p:Pact} {c:Co} (h:∀ a,c.loans a=none) (w:Int):UC p c w=c.extra w:=by
 rw [UC,YL fun i _=>by simp only [YP,h]];omega
theorem EndI.done {p:Pact} {c0 c:Co} (h:EndI p c0 c) (hn:∀ a,c.loans a=none):c.result=Vr p c0/\∀ w,c.extra w=UC p c0 w :=
 ⟨by rw [<- h.er,ZdT hn],fun w=>by rw [<- h.ex,Zdl hn]⟩
def Zfi (p:Pact) (c:Co):Prop:=∀ w o,c.debts w o≠0->w ∈ ids p/\o ∈ ids p
theorem Zfi.co0 {p:Pact}:Zfi p co0:=fun w o h=>absurd rfl h
theorem Zfi.step {p:Pact} {c:Co} (h:Zfi p c) {x:Letter} (hx:Zk p x=true):Zfi p (Zp p c x).1:=by
 intro w o hwo
 rw [ZjA.1,ZpT] at hwo
 have hk:x.kind=7\/x.kind=8->x.who ∈ ids p/\x.other ∈ ids p:=fun hk=>by
  simp only [Zk] at hx
  rcases hk with hk | hk<;>simp only [hk] at hx<;>simp [ZaO] at hx<;>exact ⟨hx.2.1.1.1.1,hx.2.1.1.1.2⟩
 have hu:∀ (v:Int),(x.kind=7\/x.kind=8)->upd c.debts x.who (upd (c.debts x.who) x.other v) w o≠0->w ∈ ids p/\o ∈ ids p:=fun v k hv=>by
  simp only [upd] at hv
  split at hv
  . rename_i e1
    simp only [upd] at hv
    split at hv
    . rename_i e2
      rw [e1,e2];exact hk k
    . rw [<- e1] at hv;exact h _ _ hv
  . exact h _ _ hv
 split at hwo
 . rename_i k;exact hu _ (.inl k) hwo
 split at hwo
 . rename_i k;exact hu _ (.inr k.1) hwo
 . exact h _ _ hwo
theorem Zfi.run {p:Pact}:∀ {l:List Letter} {c:Co},Zfi p c->(∀ x ∈ l,Zk p x=true)->Zfi p (Xx p c l)
 | [],_,h,_=>h
 | x :: l,c,h,hl=>by
  show Zfi p (Xx p (Zp p c x).1 l)
  exact Zfi.run (h.step (hl x (by simp))) fun y hy=>hl y (by simp [hy])
theorem Zcm {α : Type} (f g:α->Int):∀ l:List α,Zt (l.map fun x=>f x - g x)=Zt (l.map f) - Zt (l.map g)
 | []=>rfl
 | x :: l=>by simp only [List.map_cons,Zt];rw [Zcm f g l];omega
def Xl (id:Int) (e:Nat × (Int × Int) × Int):Int:=(if e.2.1.2=id then e.2.2 else 0) - (if e.2.1.1=id then e.2.2 else 0)
theorem ZsI {L:List (Nat × (Int × Int) × Int)} {f:Int->Int->Int} (hn:(L.map (·.2.1)).Nodup) (h1:∀ e ∈ L,f e.2.1.1 e.2.1.2=e.2.2) (h2:∀ x y,(∀ e ∈ L,e.2.1≠(x,y))->f x y=0) (x y:Int) :
 f x y=Zt (L.map fun e=>if e.2.1=(x,y) then e.2.2 else 0):=by
 by_cases hx:∃ e ∈ L,e.2.1=(x,y)
 . obtain ⟨e,he,hk⟩:=hx
   have hf:f x y=e.2.2:=by rw [<- h1 e he,hk]
   rw [hf]
   clear h1 h2 hf
   induction L with
   | nil=>cases he
   | cons z l ih =>
    simp only [List.map_cons,List.nodup_cons] at hn
    simp only [List.map_cons,Zt]
    rcases List.mem_cons.1 he with rfl | he
    . rw [if_pos hk,YL fun e' he'=>if_neg fun q=>hn.1 (List.mem_map.2 ⟨e',he',by rw [q,hk]⟩)];omega
    . rw [if_neg fun q=>hn.1 (List.mem_map.2 ⟨e,he,by rw [q,hk]⟩),<- ih hn.2 he];omega
 . rw [h2 x y fun e he q=>hx ⟨e,he,q⟩,YL fun e he=>if_neg fun q=>hx ⟨e,he,q⟩]
theorem Zm7 {p:Pact} {c:Co} {L:List (Nat × (Int × Int) × Int)} (hn:(L.map (·.2.1)).Nodup) (h1:∀ e ∈ L,c.debts e.2.1.1 e.2.1.2=e.2.2) (h2:∀ x y,(∀ e ∈ L,e.2.1≠(x,y))->c.debts x y=0)
 (hd:Zfi p c) (hi:(ids p).Nodup) (id:Int):Zt (L.map (Xl id))=XC p c id:=by
 have hks:=ZsI hn h1 h2
 have hsw:∀ (g:(Int × Int)->Int) (t:Int->Int × Int),(∀ e ∈ L,e.2.2≠0->g e.2.1 ∈ ids p)->(∀ y (k:Int × Int),k=t y->g k=y) ->
  Zt ((ids p).map fun y=>Zt (L.map fun e=>if e.2.1=t y then e.2.2 else 0))=Zt (L.map fun e=>if e.2.1=t (g e.2.1) then e.2.2 else 0):=fun g t hg ht=>by
  rw [Ux]
  refine Xk fun e he=>?_
  by_cases h0:e.2.2=0
  . rw [h0];simp only [ite_self];exact YL fun _ _=>rfl
  by_cases hk:e.2.1=t (g e.2.1)
  . rw [if_pos hk]
    refine Eq.trans (Xk fun y hy=>?_) (ZeQ (v:=e.2.2) hi (hg e he h0))
    by_cases q:g e.2.1=y
    . rw [if_pos q,if_pos (by rw [<- q];exact hk)]
    . rw [if_neg q,if_neg fun h=>q (ht y _ h)]
  . rw [if_neg hk,YL fun y _=>if_neg fun h=>hk (by rw [ht y _ h];exact h)]
 have hm:∀ e ∈ L,e.2.2≠0->e.2.1.1 ∈ ids p/\e.2.1.2 ∈ ids p:=fun e he h0=>hd _ _ (by rw [h1 e he];exact h0)
 have a1:Zt ((ids p).map fun y=>c.debts y id)=Zt (L.map fun e=>if e.2.1.2=id then e.2.2 else 0):=by
  rw [Xk (g:=fun y=>Zt (L.map fun e=>if e.2.1=(y,id) then e.2.2 else 0)) fun y _=>hks y id,hsw (fun k=>k.1) (fun y=>(y,id)) (fun e he h0=>(hm e he h0).1) (fun y k h=>by rw [h])]
  refine Xk fun e _=>?_
  by_cases q:e.2.1.2=id
  . rw [if_pos q,if_pos (by rw [<- q])]
  . rw [if_neg q,if_neg fun h=>q (by rw [h])]
 have a2:Zt ((ids p).map fun y=>c.debts id y)=Zt (L.map fun e=>if e.2.1.1=id then e.2.2 else 0):=by
  rw [Xk (g:=fun y=>Zt (L.map fun e=>if e.2.1=(id,y) then e.2.2 else 0)) fun y _=>hks id y,hsw (fun k=>k.2) (fun y=>(id,y)) (fun e he h0=>(hm e he h0).2) (fun y k h=>by rw [h])]
  refine Xk fun e _=>?_
  by_cases q:e.2.1.1=id
  . rw [if_pos q,if_pos (by rw [<- q])]
  . rw [if_neg q,if_neg fun h=>q (by rw [h])]
 rw [XC,Zcm (fun y:Partner=>c.debts y.id id) (fun y=>c.debts id y.id)]
 rw [show p.partners.map (fun y=>c.debts y.id id)=(ids p).map fun y=>c.debts y id from by simp [ids],show p.partners.map (fun y=>c.debts id y.id)=(ids p).map fun y=>c.debts id y from by simp [ids],a1,a2,<- Zcm]
 rfl
def ZfU (c:Nat->Int) (i:Nat):Int:=i - 16 * c i
structure Stb (n i j:Nat) (l:List Nat):Prop where
 len:l.length=n
 at':l[j]? = some i
 lt:∀ p x,l[p]? = some x->p≠j->p<=i->x < i
 gt:∀ p,i < p->p < n->l[p]? = some p
structure Otb (n i:Nat) (l:List Nat):Prop where
 len:l.length=n
 lt:∀ p x,l[p]? = some x->p < i->x < i
 gt:∀ p,i<=p->p < n->l[p]? = some p
theorem Otb.start (n:Nat):Otb n 1 (List.range n):=by
 refine ⟨List.length_range,fun p x h hp=>?_,fun p h1 h2=>by simp [h2]⟩
 rw [List.getElem?_range (by have:=(List.getElem?_eq_some_iff.1 h).1;simpa using this)] at h
 cases h;exact hp
theorem Otb.into {n i:Nat} {l:List Nat} (h:Otb n i l) (hi:i < n):Stb n i i l:=⟨h.len,h.gt i (Nat.le_refl _) hi,fun p x hp h1 h2=>h.lt p x hp (by omega),fun p h1 h2=>h.gt p (by omega) h2⟩
theorem Stb.out {n i j:Nat} {l:List Nat} (h:Stb n i j l):Otb n (i+1) l:=by
 refine ⟨h.len,fun p x hp h1=>?_,fun p h1 h2=>h.gt p (by omega) h2⟩
 by_cases e:p=j
 . subst e;rw [h.at'] at hp;cases hp;omega
 . have:=h.lt p x hp e (by omega);omega
theorem Stb.step {n i j:Nat} {l:List Nat} (h:Stb n i j l) (hj:0 < j) (hji:j<=i) (hi:i < n):Stb n i (j - 1) (swp l j (j - 1)):=by
 have hl:=h.len
 have hg:=Zcj (l:=l) (i:=j) (j:=j - 1) (by omega) (by omega)
 refine ⟨by rw [Zkq,hl],?_,fun p x hp h1 h2=>?_,fun p h1 h2=>?_⟩
 . rw [hg,if_neg (by omega),if_pos rfl,h.at']
 . rw [hg] at hp
   by_cases e:p=j
   . rw [if_pos e] at hp;exact h.lt _ _ hp (by omega) (by omega)
   . rw [if_neg e,if_neg h1] at hp;exact h.lt _ _ hp e h2
 . rw [hg,if_neg (by omega),if_neg (by omega),h.gt p h1 h2]
theorem ZAr {c:Nat->Int} {i y:Nat} (hy:y < i) (hi:i < 16):ZfU c i < ZfU c y↔c y < c i:=by
 unfold ZfU;omega
theorem Zw1 {c:Nat->Int} {n:Nat} {l:List Nat} (hn:n<=16) (hp:l.Perm (List.range n)) (hs:Srt (ZfU c) 0 n l):l.Pairwise fun a b=>UD c a b=true:=by
 have hl:l.length=n:=by rw [hp.length_eq,List.length_range]
 have hnd:l.Nodup:=hp.nodup_iff.2 List.nodup_range
 rw [List.pairwise_iff_getElem]
 intro i j hi hj hij
 have h1:=hs i j (Nat.zero_le _) hij (by omega)
 rw [Xo _ hi,Xo _ hj] at h1
 have h2:=List.pairwise_iff_getElem.1 (List.nodup_iff_pairwise_ne.1 hnd) i j hi hj hij
 have h3:=List.mem_range.1 (hp.mem_iff.1 (List.getElem_mem hi))
 have h4:=List.mem_range.1 (hp.mem_iff.1 (List.getElem_mem hj))
 generalize l[i]=a at *
 generalize l[j]=b at *
 simp only [UD,Bool.or_eq_true,Bool.and_eq_true,decide_eq_true_eq]
 simp only [ZfU] at h1
 omega
structure Dvd (amount:Int) (by':List Int):Prop where
 a0:0<=amount
 a1:amount<=90000000000
 n1:by'.length<=16
 b0:∀ x ∈ by',0<=x/\x<=100000000
 s0:0 < Zt by'
theorem Dvd.s1 {amount:Int} {by':List Int} (h:Dvd amount by'):Zt by'<=1600000000:=by
 have h1:=Zd5 (l:=by') (b:=100000000) fun x hx=>(h.b0 x hx).2
 have h2:=h.n1
 omega
theorem Dvd.mul {amount x:Int} {by':List Int} (h:Dvd amount by') (hx:0<=x/\x<=100000000):0<=amount * x/\amount * x<=9000000000000000000:=by
 have h1:amount * x<=90000000000 * x:=Int.mul_le_mul_of_nonneg_right h.a1 hx.1
 have h2:=Int.mul_nonneg h.a0 hx.1
 omega
theorem UO {by':List Int} {i:Nat} (hi:i < by'.length):byF by' i=by'[i]:=by
 unfold byF;rw [List.getD_eq_getElem?_getD,List.getElem?_eq_getElem hi];rfl
theorem Dvd.part {amount:Int} {by':List Int} (h:Dvd amount by') {i:Nat} (hi:i < by'.length):0<=ZE amount by' i/\ZE amount by' i<=9000000000000000000:=by
 have hm:=h.mul (h.b0 _ (List.getElem_mem hi))
 have h0:=h.s0
 unfold ZE
 rw [UO hi]
 refine ⟨Int.tdiv_nonneg hm.1 (by omega),?_⟩
 rw [Int.tdiv_eq_ediv_of_nonneg hm.1]
 have:=Int.ediv_le_self (Zt by') hm.1
 omega
end Go.Azalai
namespace Go.Proofs.Ythilckbkffjliaa
open Go Go.Sx Go.Azalai
def Yr (i:Nat):List SV:=[I (i:Int)]
theorem ZfC {amount:Int} {by':List Int} (h:Dvd amount by') {i:Nat} (hi:i < by'.length) (k:Bool):Ct Try.prog 82 [I (i:Int),.ps [I amount] 0,.ps [.sl k 1 (by'.map Zl)] 0,.ps [I (Zt by')] 0] (I (Xe amount by' i)):=by
 refine t82.1 (by simp [Zb,Zl,KFL,KF]) (by simp [KFL,KF]) ?_
 have hb:=h.mul (h.b0 _ (List.getElem_mem hi))
 have hs:=h.s0
 dsimp only [c82,r82,go_sem,rA,rM,rS]
 refine Zq i hi rfl ?_
 dsimp only [Zl,go_sem,rA,rM,rS]
 rw [Zf (n:=amount * by'[i]) (by omega) (by omega)]
 refine Zrv (by omega) ?_
 dsimp only [go_sem,rA,rM,rS]
 simp [ZhN,Xe,UO hi]
abbrev cutS (amount:Int) (by':List Int) (k:Bool):SV:=.cl 82 [.ps [I amount] 0,.ps [.sl k 1 (by'.map Zl)] 0,.ps [I (Zt by')] 0]
theorem Zja {amount:Int} {by':List Int} (h:Dvd amount by') {a b:Nat} (ha:a < by'.length) (hb:b < by'.length) (k:Bool) :
 Ct Try.prog 84 [I (a:Int),I (b:Int),.ps [cutS amount by' k] 0] (I (Xe amount by' b - Xe amount by' a)):=by
 refine t84.1 (by simp [Zb,Zl,KFL,KF]) (by simp [KFL,KF]) ?_
 have hs:=h.s0
 have hs1:=h.s1
 have h1:=Zaa h.a0 (fun x hx=>(h.b0 x hx).1) hs a
 have h2:=Zaa h.a0 (fun x hx=>(h.b0 x hx).1) hs b
 dsimp only [c84,r84,go_sem,rA,rM,rS]
 refine call (ZfC h hb k) ?_
 dsimp only [go_sem,rA,rM,rS]
 refine call (ZfC h ha k) ?_
 dsimp only [go_sem,rA,rM,rS]
 rw [Zf (n:=Xe amount by' b - Xe amount by' a) (by omega) (by omega)]
def dvH (amount:Int) (by':List Int) (k:Bool):List (Nat × HB):=[(1,.cells [.cl 82 [.p 2 0,.p 3 0,.p 4 0]] 135),(2,.cells [I amount] 3),(3,.cells [.sl k 1 (by'.map Zl)] 27),(4,.cells [I (Zt by')] 3)]
def ZhJ (v:Nat) (l:List Nat) (amount:Int) (by':List Int) (k:Bool):Ot:=⟨false,.tup [],(0,.row v 1 (l.map Yr) 3) :: dvH amount by' k,5⟩
theorem Zu9 {amount:Int} {by':List Int} (h:Dvd amount by') (v:Nat) (k:Bool) :
 CtM Try.prog 113 ((0,.row v 1 ((List.range by'.length).map Yr) 3) :: dvH amount by' k) 5 [.mr 0 v,I (0:Nat),I (by'.length:Nat),.cl 84 [.p 1 0]] (fun o=>∃ l',l'.Perm (List.range by'.length)/\Srt (ZfU (Xe amount by')) 0 by'.length l'/\o=ZhJ v l' amount by' k):=by
 refine m113 (by simp [hpb,dvH]) (fun o ho=>by obtain ⟨l',_,_,rfl⟩:=ho;simp [ZhJ,dvH,KX,KXL,KXP,KXH,Zb,KFR,KFL,KF,Yr,Zl]) ?_
 have hn1:=h.n1
 have hs:=h.s0
 have hs1:=h.s1
 dsimp only [c113,r113,dvH,go_sem,rA,rM,rS]
 rw [Zf (n:=((0:Nat):Int)+1) (by omega) (by omega)]
 refine Yf (fun s:Nat × List Nat=>[(8,I (s.1:Nat))]) (fun s=>[(0,.row v 1 (s.2.map Yr) 3)]) (fun s=>(1<=s.1/\s.1<=max by'.length 1)/\s.2.Perm (List.range by'.length)/\Srt (ZfU (Xe amount by')) 0 s.1 s.2/\Otb by'.length s.1 s.2) (fun s=>by'.length - s.1) (1,List.range by'.length) ⟨by simp only;omega,.refl _,fun i j h1 h2 h3=>by simp only at h3;omega,.start _⟩ ?_ ?_
 . (refine Zi ?_ ?_ ?_ rfl rfl<;>dsimp only [Yr,Zl,id,go_sem,rA,rM,rS]<;>simp [Yr,Zl,Zb,Ze,KFR,KFL,KF,Zd,mtO,nbr])
 rintro ⟨i,l1⟩ ⟨⟨hi0,hi⟩,hp,hss,hot⟩
 simp only at hi0 hi hp hss hot
 have hl1:=hot.len
 dsimp only [go_sem,rA,rM,rS]
 by_cases hib:i < by'.length
 case neg =>
  refine Zu (by simp;omega) ?_
  dsimp only [go_sem,rA,rM,rS]
  refine ⟨_,⟨l1,hp,fun p q g1 g2 g3=>hss p q g1 g2 (by omega),rfl⟩,?_⟩
  simp only [ZhJ,dvH]
  (refine Zo ?_ ?_ ?_ rfl<;>dsimp only [Yr,Zl,id,go_sem,rA,rM,rS]<;>simp [Yr,Zl,Zb,Ze,KFR,KFL,KF,Zd,mtO,nbr])
 refine Zw (by simpa using hib) ?_
 dsimp only [go_sem,rA,rM,rS]
 refine Yf (fun s:Nat × List Nat=>[(9,I (s.1:Nat))]) (fun s=>[(0,.row v 1 (s.2.map Yr) 3)]) (fun s=>s.1<=i/\s.2.Perm (List.range by'.length)/\Ins1 (ZfU (Xe amount by')) 0 i s.1 s.2/\Stb by'.length i s.1 s.2) (fun s=>s.1) (i,l1) ⟨Nat.le_refl _,hp,ZdE _ hss,hot.into hib⟩ ?_ ?_
 . (refine Zi ?_ ?_ ?_ rfl rfl<;>dsimp only [Yr,Zl,id,go_sem,rA,rM,rS]<;>simp [Yr,Zl,Zb,Ze,KFR,KFL,KF,Zd,mtO,nbr])
 rintro ⟨j,l2⟩ ⟨hj,hp2,hs2,hst⟩
 simp only at hj hp2 hs2 hst
 have hl2:=hst.len
 dsimp only [go_sem,rA,rM,rS]
 by_cases hja:0 < j
 case neg =>
  have g:decide ((j:Int) > ((0:Nat):Int))=false:=by simp;omega
  simp only [g]
  repeat (refine gb ?_;(repeat first | dsimp only [go_sem,rA,rM,rS] | simp only [nbr]))
  refine Zc2 0 rfl (fun h=>by cases h) ?_
  (repeat first | dsimp only [go_sem,rA,rM,rS] | simp only [nbr])
  refine gb ?_
  (repeat first | dsimp only [go_sem,rA,rM,rS] | simp only [nbr])
  refine ⟨Yr 0,Zjh rfl (fun h=>by cases h),?_⟩
  (repeat first | dsimp only [Yr,go_sem,rA,rM,rS] | simp only [nbr])
  repeat (refine gb ?_;(repeat first | dsimp only [go_sem,rA,rM,rS] | simp only [nbr]))
  refine Zc2 0 rfl (fun h=>by cases h) ?_
  (repeat first | dsimp only [go_sem,rA,rM,rS] | simp only [nbr])
  refine gb ?_
  (repeat first | dsimp only [go_sem,rA,rM,rS] | simp only [nbr])
  refine ⟨Yr 0,Zjh rfl (fun h=>by cases h),?_⟩
  (repeat first | dsimp only [Yr,go_sem,rA,rM,rS] | simp only [nbr])
  refine gb ?_
  (repeat first | dsimp only [go_sem,rA,rM,rS] | simp only [nbr])
  have h0:0 < by'.length:=by omega
  refine Zal (by simp [FLT]) (res:=I (Xe amount by' 0 - Xe amount by' 0)) (by (repeat first | dsimp only [go_sem,rA,rM,rS] | simp only [nbr]);exact Zja h h0 h0 k) ?_
  (repeat first | dsimp only [go_sem,rA,rM,rS] | simp only [nbr])
  refine gb ?_
  (repeat first | dsimp only [go_sem,rA,rM,rS] | simp only [nbr])
  refine Zu rfl ?_
  (repeat first | dsimp only [go_sem,rA,rM,rS] | simp only [nbr])
  rw [Zf (n:=(i:Int)+1) (by omega) (by omega)]
  refine ⟨(i+1,l2),⟨by simp only;omega,hp2,ZcC _ hs2 hj (.inl (by omega)),hst.out⟩,by simp only;omega,?_⟩
  (refine Zi ?_ ?_ ?_ rfl rfl<;>dsimp only [Yr,Zl,id,go_sem,rA,rM,rS]<;>simp [Yr,Zl,Zb,Ze,KFR,KFL,KF,Zd,mtO,nbr])
 have g:decide ((j:Int) > ((0:Nat):Int))=true:=by simp;omega
 simp only [g]
 have hgj:l2[j]'(by omega)=i:=by have:=hst.at';rw [List.getElem?_eq_getElem (by omega)] at this;exact Option.some.inj this
 have hgy:l2[j - 1]'(by omega) < i:=hst.lt (j - 1) _ (List.getElem?_eq_getElem (by omega)) (by omega) (by omega)
 repeat (refine .inl ⟨rfl,?_⟩;(repeat first | dsimp only [go_sem,rA,rM,rS] | simp only [nbr]))
 refine Yl j rfl (by simp;omega) ?_
 (repeat first | dsimp only [go_sem,rA,rM,rS] | simp only [nbr])
 refine .inl ⟨rfl,?_⟩
 (repeat first | dsimp only [go_sem,rA,rM,rS] | simp only [nbr])
 refine Xt (by omega) ?_
 (repeat first | dsimp only [Yr,go_sem,rA,rM,rS] | simp only [nbr])
 repeat (refine .inl ⟨rfl,?_⟩;(repeat first | dsimp only [go_sem,rA,rM,rS] | simp only [nbr]))
 rw [Zf (n:=(j:Int) - 1) (by omega) (by omega)]
 refine Yl (j - 1) (by omega) (by simp;omega) ?_
 (repeat first | dsimp only [go_sem,rA,rM,rS] | simp only [nbr])
 refine .inl ⟨rfl,?_⟩
 (repeat first | dsimp only [go_sem,rA,rM,rS] | simp only [nbr])
 refine Xt (by omega) ?_
 (repeat first | dsimp only [Yr,go_sem,rA,rM,rS] | simp only [nbr])
 rw [hgj]
 generalize hy:l2[j - 1]'(by omega)=y at *
 have c1:=Zaa h.a0 (fun x hx=>(h.b0 x hx).1) hs i
 have c2:=Zaa h.a0 (fun x hx=>(h.b0 x hx).1) hs y
 repeat (refine .inl ⟨rfl,?_⟩;(repeat first | dsimp only [go_sem,rA,rM,rS] | simp only [nbr]))
 refine Zal (by simp [FLT]) (res:=I (Xe amount by' y - Xe amount by' i)) (by (repeat first | dsimp only [go_sem,rA,rM,rS] | simp only [nbr]);exact Zja h (by omega) (by omega) k) ?_
 (repeat first | dsimp only [go_sem,rA,rM,rS] | simp only [nbr])
 repeat (refine .inl ⟨rfl,?_⟩;(repeat first | dsimp only [go_sem,rA,rM,rS] | simp only [nbr]))
 have hkj:ky (ZfU (Xe amount by')) l2 j=ZfU (Xe amount by') i:=by rw [Xo _ (l:=l2) (i:=j) (by omega),hgj]
 have hky:ky (ZfU (Xe amount by')) l2 (j - 1)=ZfU (Xe amount by') y:=by rw [Xo _ (l:=l2) (i:=j - 1) (by omega),hy]
 have hor:=ZAr (c:=Xe amount by') hgy (by omega:i < 16)
 by_cases hlt:Xe amount by' y < Xe amount by' i
 case neg =>
  refine Zu (by simp;omega) ?_
  (repeat first | dsimp only [go_sem,rA,rM,rS] | simp only [nbr])
  rw [Zf (n:=(i:Int)+1) (by omega) (by omega)]
  refine ⟨(i+1,l2),⟨by simp only;omega,hp2,ZcC _ hs2 hj (.inr (by rw [hkj,hky];omega)),hst.out⟩,by simp only;omega,?_⟩
  (refine Zi ?_ ?_ ?_ rfl rfl<;>dsimp only [Yr,Zl,id,go_sem,rA,rM,rS]<;>simp [Yr,Zl,Zb,Ze,KFR,KFL,KF,Zd,mtO,nbr])
 refine Zw (by simp;omega) ?_
 (repeat first | dsimp only [go_sem,rA,rM,rS] | simp only [nbr])
 rw [Zf (n:=(j:Int) - 1) (by omega) (by omega)]
 refine Yl (j - 1) (by omega) (by simp;omega) ?_
 (repeat first | dsimp only [go_sem,rA,rM,rS] | simp only [nbr])
 refine Xt (by omega) ?_
 (repeat first | dsimp only [Yr,go_sem,rA,rM,rS] | simp only [nbr])
 refine Yl j rfl (by simp;omega) ?_
 (repeat first | dsimp only [go_sem,rA,rM,rS] | simp only [nbr])
 refine Xt (by omega) ?_
 (repeat first | dsimp only [Yr,go_sem,rA,rM,rS] | simp only [nbr])
 refine Yl j rfl (by simp;omega) ?_
 (repeat first | dsimp only [go_sem,rA,rM,rS] | simp only [nbr])
 refine WT (l2[j - 1]'(by omega)) (by omega) (by simp [Yr]) (by simp [Yr,Zn]) ?_
 (repeat first | dsimp only [go_sem,rA,rM,rS] | simp only [nbr])
 refine Yl (j - 1) (by first | omega | (rw [Zf (by omega) (by omega)];omega)) (by simp;omega) ?_
 (repeat first | dsimp only [go_sem,rA,rM,rS] | simp only [nbr])
 refine WT (l2[j]'(by omega)) (by simp;omega) (by simp [Yr]) (by simp [Yr,Zn]) ?_
 rw [<- ZaJ (l:=l2) (i:=j) (j:=j - 1) (by omega) (by omega)]
 (repeat first | dsimp only [go_sem,rA,rM,rS] | simp only [nbr])
 try rw [Zf (n:=(j:Int) - 1) (by omega) (by omega)]
 rw [show (j:Int) - 1=((j - 1:Nat):Int) from by omega]
 refine ⟨(j - 1,swp l2 j (j - 1)),⟨by simp only;omega,(Zff (by omega) (by omega)).trans hp2,Zfm _ hs2 hja hj (by omega) (by rw [hkj,hky];exact hor.2 hlt),hst.step hja hj hib⟩,by simp only;omega,?_⟩
 (refine Zi ?_ ?_ ?_ rfl rfl<;>dsimp only [Yr,Zl,id,go_sem,rA,rM,rS]<;>simp [Yr,Zl,Zb,Ze,KFR,KFL,KF,Zd,mtO,nbr])
theorem Zv9 {amount:Int} {by':List Int} (h:Dvd amount by') (v:Nat) (k:Bool) :
 CtM Try.prog 108 ((0,.row v 1 ((List.range by'.length).map Yr) 3) :: dvH amount by' k) 5 [.mr 0 v,I (by'.length:Nat),.cl 84 [.p 1 0]] (fun o=>∃ l',l'.Perm (List.range by'.length)/\Srt (ZfU (Xe amount by')) 0 by'.length l'/\o=ZhJ v l' amount by' k):=by
 refine m108 (by simp [hpb,dvH]) (fun o ho=>by obtain ⟨l',_,_,rfl⟩:=ho;simp [ZhJ,dvH,KX,KXL,KXP,KXH,Zb,KFR,KFL,KF,Yr,Zl]) ?_
 have hn1:=h.n1
 dsimp only [c108,r108,dvH,go_sem,rA,rM,rS]
 refine Zkx 1 ?_
 dsimp only [ZU,go_sem,rA,rM,rS]
 refine Zu (by simp;omega) ?_
 dsimp only [ZU,go_sem,rA,rM,rS]
 refine Zs [0,1,2,3,4] (Zu9 h v k) rfl rfl rfl ?_ ?_ ?_
 . (repeat first | dsimp only [dvH,go_sem,rA,rM,rS] | simp only [nbr])
   simp [mtL,mtB,mtS]
 . (repeat first | dsimp only [dvH,go_sem,rA,rM,rS] | simp only [nbr])
   simp [Zb,KFR,Yr,Zl,KFL,KF]
 rintro _ ⟨l',hp,hs,rfl⟩
 (repeat first | dsimp only [ZhJ,dvH,go_sem,rA,rM,rS] | simp only [nbr])
 refine Zkx 1 ?_
 dsimp only [ZU,go_sem,rA,rM,rS]
 refine Zu (by simp;omega) ?_
 dsimp only [ZU,go_sem,rA,rM,rS]
 refine ⟨_,⟨l',hp,hs,rfl⟩,?_⟩
 try simp only [ZhJ,dvH]
 (refine Zo ?_ ?_ ?_ rfl<;>dsimp only [Yr,Zl,id,go_sem,rA,rM,rS]<;>simp [Yr,Zl,Zb,Ze,KFR,KFL,KF,Zd,mtO,nbr])
theorem Zpd {amount:Int} {by':List Int} (h:Dvd amount by') (v:Nat) (k:Bool) :
 CtM Try.prog 83 ((0,.row v 1 ((List.range by'.length).map Yr) 3) :: dvH amount by' k) 5 [.mr 0 v,.cl 84 [.p 1 0]] (fun o=>∃ l',l'.Perm (List.range by'.length)/\Srt (ZfU (Xe amount by')) 0 by'.length l'/\o=ZhJ v l' amount by' k):=by
 refine m83 (by simp [hpb,dvH]) (fun o ho=>by obtain ⟨l',_,_,rfl⟩:=ho;simp [ZhJ,dvH,KX,KXL,KXP,KXH,Zb,KFR,KFL,KF,Yr,Zl]) ?_
 dsimp only [c83,r83,dvH,go_sem,rA,rM,rS]
 (repeat first | dsimp only [go_sem,rA,rM,rS] | simp only [nbr])
 simp only [List.length_map,List.length_range]
 refine Zs [0,1,2,3,4] (Zv9 h v k) rfl rfl rfl ?_ ?_ ?_
 . (repeat first | dsimp only [dvH,go_sem,rA,rM,rS] | simp only [nbr])
   simp [mtL,mtB,mtS]
 . (repeat first | dsimp only [dvH,go_sem,rA,rM,rS] | simp only [nbr])
   simp [Zb,KFR,Yr,Zl,KFL,KF]
 rintro _ ⟨l',hp,hs,rfl⟩
 (repeat first | dsimp only [ZhJ,dvH,go_sem,rA,rM,rS] | simp only [nbr])
 refine ⟨_,⟨l',hp,hs,rfl⟩,?_⟩
 try simp only [ZhJ,dvH]
 (refine Zo ?_ ?_ ?_ rfl<;>dsimp only [Yr,Zl,id,go_sem,rA,rM,rS]<;>simp [Yr,Zl,Zb,Ze,KFR,KFL,KF,Zd,mtO,nbr])
end Go.Proofs.Ythilckbkffjliaa
namespace Go.Azalai
theorem Zg1 {l:List Int} {k:Nat} (h:k < l.length):Zt (l.take (k+1))=Zt (l.take k)+l[k]:=by
 have:=V7 (f:=fun x:Int=>x) h
 simpa using this
theorem Uy:∀ {l:List Int},(∀ x ∈ l,0<=x)->∀ k,0<=Zt (l.take k)/\Zt (l.take k)<=Zt l
 | [],_,k=>by simp [Zt]
 | x :: l,h,0=>by simp only [List.take_zero,Zt];exact ⟨Int.le_refl _,XT h⟩
 | x :: l,h,k+1=>by
  have h1:=Uy (l:=l) (fun y hy=>h y (by simp [hy])) k
  have h2:=h x (by simp)
  simp only [List.take_succ_cons,Zt];omega
def ZdP (amount:Int) (by':List Int) (O:List Nat):List Int:=(List.range by'.length).map fun i=>ZE amount by' i+if i ∈ O then 1 else 0
theorem Zcw {amount:Int} {by':List Int}:ZdP amount by' []=(List.range by'.length).map (ZE amount by'):=by
 unfold ZdP;apply List.map_congr_left;intro i _;simp
theorem YU {amount:Int} {by':List Int} {O:List Nat}:(ZdP amount by' O).length=by'.length:=by simp [ZdP]
theorem V6 {amount:Int} {by':List Int} {O:List Nat} {i:Nat} (hi:i < (ZdP amount by' O).length):(ZdP amount by' O)[i]=ZE amount by' i+if i ∈ O then 1 else 0:=by simp [ZdP]
theorem ZcP {amount:Int} {by':List Int} {O:List Nat} {t:Nat} (ht:t < O.length) (hn:O.Nodup) (hi:O[t] < by'.length) :
 (ZdP amount by' (O.take t)).set O[t] (ZE amount by' O[t]+1)=ZdP amount by' (O.take (t+1)):=by
 apply List.ext_getElem
 . simp [ZdP]
 intro i h1 h2
 rw [List.getElem_set,V6,V6]
 have hm:∀ x,x ∈ O.take (t+1)↔x ∈ O.take t\/x=O[t]:=fun x=>by rw [List.take_succ_eq_append_getElem ht,List.mem_append,List.mem_singleton]
 by_cases e:O[t]=i
 . rw [if_pos e,<- e,if_pos ((hm _).2 (.inr rfl))]
 . rw [if_neg e]
   by_cases q:i ∈ O.take t
   . rw [if_pos q,if_pos ((hm i).2 (.inl q))]
   . rw [if_neg q,if_neg fun z=>((hm i).1 z).elim q fun z=>e z.symm]
theorem ZcM {O:List Nat} {t:Nat} (ht:t < O.length) (hn:O.Nodup):O[t] ∉ O.take t:=by
 intro h
 obtain ⟨j,hj,e⟩:=List.mem_take_iff_getElem.1 h
 have:=List.pairwise_iff_getElem.1 (List.nodup_iff_pairwise_ne.1 hn) j t (by omega) ht (by omega)
 exact this e
theorem ZaS {amount:Int} {by':List Int} {O:List Nat} (h:Dvd amount by') (hp:O.Perm (List.range by'.length)) (ho:O.Pairwise fun a b=>UD (Xe amount by') a b=true):ZdP amount by' (O.take (Ya amount by').toNat)=Zy amount by':=by
 have hl:=UQ h.a0 (fun x hx=>(h.b0 x hx).1) h.s0
 unfold ZdP Zy
 apply List.map_congr_left
 intro i hi
 have hi:=List.mem_range.1 hi
 have:=ZaH hp ho (t:=(Ya amount by').toNat) hi
 by_cases q:i ∈ O.take (Ya amount by').toNat
 . have:=this.1 q
   rw [if_pos q,if_pos (by omega)]
 . have h2:=mt this.2 q
   rw [if_neg q,if_neg (by omega)]
theorem Vl {amount:Int} {by':List Int} (h:Dvd amount by'):∀ {k:Nat},k<=by'.length->0<=Zt ((List.range k).map (ZE amount by'))/\Zt ((List.range k).map (ZE amount by'))<=amount:=by
 have hl:=UQ h.a0 (fun x hx=>(h.b0 x hx).1) h.s0
 have hall:∀ x ∈ (List.range by'.length).map (ZE amount by'),0<=x:=fun x hx=>by
  obtain ⟨i,hi,rfl⟩:=List.mem_map.1 hx
  exact (h.part (List.mem_range.1 hi)).1
 intro k hk
 have h1:=Uy hall k
 rw [<- List.map_take,List.take_range,Nat.min_eq_left hk] at h1
 have h2:Ya amount by'=amount - Zt ((List.range by'.length).map (ZE amount by')):=rfl
 omega
end Go.Azalai
namespace Go.Proofs.Ythilckbkffjliaa
open Go Go.Sx Go.Azalai
def Zko (n:Nat) (l:List Int):Ot:=⟨false,.mr 3 n,[(3,.row n 1 (l.map Zl) 3)],4⟩
theorem ZbZ {amount:Int} {by':List Int} (h:Dvd amount by') (kb:Bool):CtM Try.prog 63 [] 0 [I amount,.sl kb 1 (by'.map Zl)] (fun o=>o=Zko by'.length (Zy amount by')):=by
 refine m63 (by simp [hpb]) (fun o ho=>by subst ho;simp [Zko,KX,KXL,KXP,KXH,Zb,KFL,KF,Zl]) ?_
 have hn1:=h.n1
 have hs:=h.s0
 have hs1:=h.s1
 have ha:=h.a0
 have ha1:=h.a1
 have hpos:∀ x ∈ by',0<=x:=fun x hx=>(h.b0 x hx).1
 have hlf:=UQ h.a0 hpos h.s0
 dsimp only [c63,r63,go_sem,rA,rM,rS]
 simp only [List.length_map]
 refine Yf (fun s:Nat × Int=>[(19,I (s.1:Nat))]) (fun s=>[(2,.cells [I s.2] 3)]) (fun s=>s.1<=by'.length/\s.2=Zt (by'.take s.1)) (fun s=>by'.length - s.1) (0,0) ⟨Nat.zero_le _,rfl⟩ ?_ ?_
 . (refine Zi ?_ ?_ ?_ rfl rfl<;>dsimp only [Zl,id,go_sem,rA,rM,rS]<;>simp [Zl,Zb,Ze,KFR,KFL,KF,Zd,mtO,nbr])
 rintro ⟨j,t⟩ ⟨hj,ht⟩
 simp only at hj ht
 dsimp only [go_sem,rA,rM,rS]
 by_cases hlt:j < by'.length
 . refine Zw (by simpa using hlt) ?_
   dsimp only [go_sem,rA,rM,rS]
   refine Zq j hlt rfl ?_
   dsimp only [Zl,go_sem,rA,rM,rS]
   have h1:=Zg1 hlt
   have h2:=Uy hpos (j+1)
   rw [Zf (n:=t+by'[j]) (by omega) (by omega),Zf (n:=(j:Int)+1) (by omega) (by omega)]
   refine ⟨(j+1,t+by'[j]),⟨hlt,by simp only;omega⟩,by simp only;omega,?_⟩
   (refine Zi ?_ ?_ ?_ rfl rfl<;>dsimp only [Zl,id,go_sem,rA,rM,rS]<;>simp [Zl,Zb,Ze,KFR,KFL,KF,Zd,mtO,nbr])
 refine Zu (by simpa using hlt) ?_
 dsimp only [go_sem,rA,rM,rS]
 have hjl:j=by'.length:=by omega
 rw [hjl,List.take_length] at ht
 subst ht
 refine gh ZL ?_
 dsimp only [go_sem,rA,rM,rS]
 simp only [List.length_map]
 refine Zai (YF (ZX 9 1 3 rfl rfl) (ZX 10 1 3 rfl rfl)) (fun s:Nat=>[(29,I (s:Nat)),(6,I (amount - Zt ((List.range s).map (ZE amount by')))),(9,.mr 3 s),(10,.mr 4 s)]) (fun s=>[(3,.row s 1 (((List.range s).map (ZE amount by')).map Zl) 3),(4,.row s 1 ((List.range s).map Yr) 3)]) (fun s=>s<=by'.length) (fun s=>by'.length - s) 0 (Nat.zero_le _) ?_ ?_
 . (refine Zi ?_ ?_ ?_ rfl rfl<;>dsimp only [Zl,Yr,Zt,id,go_sem,rA,rM,rS]<;>simp [Zl,Yr,Zt,Zb,Ze,KFR,KFL,KF,Zd,mtO,nbr])
 intro k hk
 dsimp only [go_sem,rA,rM,rS]
 by_cases hlt:k < by'.length
 . refine Zw (by simpa using hlt) ?_
   dsimp only [go_sem,rA,rM,rS]
   refine Zq k hlt rfl ?_
   dsimp only [Zl,go_sem,rA,rM,rS]
   have hm:=h.mul (h.b0 _ (List.getElem_mem hlt))
   have hp:=h.part hlt
   have e1:(amount * by'[k]).tdiv (Zt by')=ZE amount by' k:=by simp [ZE,UO hlt]
   rw [Zf (n:=amount * by'[k]) (by omega) (by omega)]
   refine Zrv (by omega) ?_
   dsimp only [ZhN,go_sem,rA,rM,rS]
   rw [e1,Zf (n:=ZE amount by' k) (by omega) (by omega)]
   (repeat first | dsimp only [go_sem,rA,rM,rS] | simp only [nbr])
   refine ⟨by simp [ZW,Wy,Zab],by simp;omega,?_⟩
   (repeat first | dsimp only [go_sem,rA,rM,rS] | simp only [nbr])
   refine ⟨by simp [ZW,Wy,Zab],by simp;omega,?_⟩
   (repeat first | dsimp only [go_sem,rA,rM,rS] | simp only [nbr])
   have e2:((List.range k).map (ZE amount by')).map Zl ++ [[I (ZE amount by' k)]]=((List.range (k+1)).map (ZE amount by')).map Zl:=by simp [List.range_succ,Zl]
   have e3:(List.range k).map Yr ++ [[I (k:Int)]]=(List.range (k+1)).map Yr:=by simp [List.range_succ,Yr]
   rw [e2,e3]
   refine Yl k rfl (by simp) ?_
   (repeat first | dsimp only [go_sem,rA,rM,rS] | simp only [nbr])
   refine Xt (by simp) ?_
   (repeat first | dsimp only [Zl,go_sem,rA,rM,rS] | simp only [nbr])
   simp only [List.getElem_map,List.getElem_range]
   have h3:=Zbr (f:=ZE amount by') (n:=k)
   have h4:=Vl h (k:=k+1) (by omega)
   have h5:=Vl h (k:=k) (by omega)
   rw [Zf (n:=amount - Zt ((List.range k).map (ZE amount by')) - ZE amount by' k) (by omega) (by omega),Zf (n:=(k:Int)+1) (by omega) (by omega)]
   rw [show amount - Zt ((List.range k).map (ZE amount by')) - ZE amount by' k=amount - Zt ((List.range (k+1)).map (ZE amount by')) from by omega]
   refine ⟨k+1,hlt,by omega,?_⟩
   (refine Zi ?_ ?_ ?_ rfl rfl<;>dsimp only [Zl,Yr,id,go_sem,rA,rM,rS]<;>simp [Zl,Yr,Zb,Ze,KFR,KFL,KF,Zd,mtO,nbr])
 refine Zu (by simpa using hlt) ?_
 dsimp only [go_sem,rA,rM,rS]
 have hkl:k=by'.length:=by omega
 subst hkl
 refine gh ZL ?_
 dsimp only [go_sem,rA,rM,rS]
 refine Zs [4,5,0,1,2] (Zpd h by'.length kb) rfl rfl rfl ?_ ?_ ?_
 . (repeat first | dsimp only [dvH,go_sem,rA,rM,rS] | simp only [nbr])
   simp [mtL,mtB,mtS]
 . (repeat first | dsimp only [dvH,go_sem,rA,rM,rS] | simp only [nbr])
   simp [Zb,KFR,Yr,Zl,KFL,KF]
 rintro _ ⟨O,hO,hsr,rfl⟩
 have hof:=Zw1 hn1 hO hsr
 have hOn:O.Nodup:=hO.nodup_iff.2 List.nodup_range
 have hOl:O.length=by'.length:=by rw [hO.length_eq,List.length_range]
 (repeat first | dsimp only [ZhJ,dvH,go_sem,rA,rM,rS] | simp only [nbr])
 refine gh (WN 10 4 by'.length rfl rfl rfl rfl) ?_
 (repeat first | dsimp only [go_sem,rA,rM,rS] | simp only [nbr])
 have hL:amount - Zt ((List.range by'.length).map (ZE amount by'))=Ya amount by':=rfl
 rw [hL]
 have hlN:(((Ya amount by').toNat:Nat):Int)=Ya amount by':=by omega
 refine ⟨0,(Ya amount by').toNat,⟨rfl,hlN.symm,Nat.zero_le _,by simp;omega⟩,?_⟩
 (repeat first | dsimp only [go_sem,rA,rM,rS] | simp only [nbr])
 try rw [List.drop_zero]
 try dsimp only [List.drop]
 rw [<- List.map_take]
 simp only [List.length_map,List.length_take]
 rw [Nat.min_eq_left (by omega:(Ya amount by').toNat<=O.length)]
 rw [<- Zcw]
 have hkf:KFR (List.take (Ya amount by').toNat (List.map Yr O)):=by rw [<- List.map_take];exact Zb.2 fun x _=>by simp [Yr,KFL,KF]
 refine Yf (fun s:Nat=>[(61,I (s:Nat))]) (fun s=>[(3,.row by'.length 1 ((ZdP amount by' (O.take s)).map Zl) 3)]) (fun s=>s<=(Ya amount by').toNat) (fun s=>(Ya amount by').toNat - s) 0 (Nat.zero_le _) ?_ ?_
 . (refine Zi ?_ ?_ ?_ rfl rfl<;>dsimp only [Zl,Yr,hkf,List.take_zero,id,go_sem,rA,rM,rS]<;>simp [Zl,Yr,hkf,List.take_zero,Zb,Ze,KFR,KFL,KF,Zd,mtO,nbr])
 intro t ht
 dsimp only [go_sem,rA,rM,rS]
 by_cases hlt:t < (Ya amount by').toNat
 . refine Zw (by simp;omega) ?_
   dsimp only [go_sem,rA,rM,rS]
   refine Zq t (by simp;omega) rfl ?_
   dsimp only [Yr,go_sem,rA,rM,rS]
   have htO:t < O.length:=by omega
   have hOt:O[t] < by'.length:=List.mem_range.1 (hO.mem_iff.1 (List.getElem_mem htO))
   simp only [List.getElem_take]
   (repeat first | dsimp only [go_sem,rA,rM,rS] | simp only [nbr])
   refine Yl O[t] rfl (by simp [YU];omega) ?_
   (repeat first | dsimp only [go_sem,rA,rM,rS] | simp only [nbr])
   refine Xt (by rw [YU];omega) ?_
   (repeat first | dsimp only [Zl,go_sem,rA,rM,rS] | simp only [nbr])
   rw [V6,if_neg (ZcM htO hOn),Int.add_zero]
   have hp:=h.part hOt
   rw [Zf (n:=ZE amount by' O[t]+1) (by omega) (by omega)]
   refine Yl O[t] rfl (by simp [YU];omega) ?_
   (repeat first | dsimp only [go_sem,rA,rM,rS] | simp only [nbr])
   refine WT (ZE amount by' O[t]+1) (by rw [YU];omega) (by simp [Zl]) (by simp [Zl,Zn]) ?_
   (repeat first | dsimp only [go_sem,rA,rM,rS] | simp only [nbr])
   rw [ZcP htO hOn hOt,Zf (n:=(t:Int)+1) (by omega) (by omega)]
   refine ⟨t+1,hlt,by omega,?_⟩
   (refine Zi ?_ ?_ ?_ rfl rfl<;>dsimp only [Zl,Yr,hkf,id,go_sem,rA,rM,rS]<;>simp [Zl,Yr,hkf,Zb,Ze,KFR,KFL,KF,Zd,mtO,nbr])
 refine Zu (by simp;omega) ?_
 dsimp only [go_sem,rA,rM,rS]
 have htl:t=(Ya amount by').toNat:=by omega
 rw [htl,ZaS h hO hof]
 refine gh ZL ?_
 (repeat first | dsimp only [go_sem,rA,rM,rS] | simp only [nbr])
 refine ⟨_,rfl,?_⟩
 simp only [Zko]
 (refine Zo ?_ ?_ ?_ rfl<;>dsimp only [Zl,hkf,id,go_sem,rA,rM,rS]<;>simp [Zl,hkf,Zb,Ze,KFR,KFL,KF,Zd,mtO,nbr])
theorem U5 {amount:Int} {by':List Int}:(Zy amount by').length=by'.length:=by simp [Zy]
theorem getF_bd {amount:Int} {by':List Int} (h:Dvd amount by') {i:Nat} (hi:i < (Zy amount by').length):0<=(Zy amount by')[i]/\(Zy amount by')[i]<=9000000000000000001:=by
 have hi':i < by'.length:=by simpa [Zy] using hi
 have:=h.part hi'
 simp only [Zy,List.getElem_map,List.getElem_range]
 split<;>omega
theorem Dvd.of {p:Pact} (hp:ZA p=true) {r:Int} (h0:0<=r) (h1:r<=90000000000):Dvd r (p.partners.map (·.share))/\Dvd r (p.partners.map (·.put)):=by
 have hA:=Yx hp
 have hP:Ye (-1) p.partners=true:=by
  simp only [ZA,Bool.and_eq_true] at hp;exact hp.1.1.2
 have hB:=(Yd hP).2.2
 refine ⟨⟨h0,h1,by simp;omega,fun x hx=>?_,by omega⟩,⟨h0,h1,by simp;omega,fun x hx=>?_,by omega⟩⟩
 . obtain ⟨y,hy,rfl⟩:=List.mem_map.1 hx
   have:=hB y hy;omega
 . obtain ⟨y,hy,rfl⟩:=List.mem_map.1 hx
   have:=hB y hy;omega
theorem ZlT (p:Pact) (hp:ZA p=true) {r:Int} (h0:-90000000000<=r) (h1:r<=90000000000):Ct Try.prog 43 [.agg (Zh p),I r] (.sl false 1 ((ZF p r).map Zl)):=by
 refine t43.1 (by simp [Zh,Za,Zb,KFL,KF]) (by simp [Zb,Zl,KFL,KF]) ?_
 have h8:=(Yx hp).2.2.2.2.2.2
 dsimp only [c43,r43,Zh,go_sem,rA,rM,rS]
 simp only [List.length_map]
 refine Zai (YF (ZX 5 1 3 rfl rfl) (ZX 6 1 3 rfl rfl)) (fun s:Nat=>[(14,I (s:Nat)),(5,.mr 1 s),(6,.mr 2 s)]) (fun s=>[(1,.row s 1 ((p.partners.take s).map fun x=>[I x.share]) 3),(2,.row s 1 ((p.partners.take s).map fun x=>[I x.put]) 3)]) (fun s=>s<=p.partners.length) (fun s=>p.partners.length - s) 0 (Nat.zero_le _) ?_ ?_
 . (refine Zi ?_ ?_ ?_ rfl rfl<;>dsimp only [Zh,Za,id,go_sem,rA,rM,rS]<;>simp [Zh,Za,Zb,Ze,KFR,KFL,KF,Zd,mtO,nbr])
 intro k hk
 dsimp only [go_sem,rA,rM,rS]
 by_cases hlt:k < p.partners.length
 . refine Zw (by simpa using hlt) ?_
   dsimp only [go_sem,rA,rM,rS]
   refine Zq k hlt rfl ?_
   (repeat first | dsimp only [Za,go_sem,rA,rM,rS] | simp only [nbr])
   refine ⟨by simp [ZW,Wy,Zab],by simp;omega,?_⟩
   (repeat first | dsimp only [go_sem,rA,rM,rS] | simp only [nbr])
   refine ⟨by simp [ZW,Wy,Zab],by simp;omega,?_⟩
   (repeat first | dsimp only [go_sem,rA,rM,rS] | simp only [nbr])
   have e2:(p.partners.take k).map (fun x=>[I x.share]) ++ [[I p.partners[k].share]]=(p.partners.take (k+1)).map fun x=>[I x.share]:=by rw [List.take_succ_eq_append_getElem hlt,List.map_append];rfl
   have e3:(p.partners.take k).map (fun x=>[I x.put]) ++ [[I p.partners[k].put]]=(p.partners.take (k+1)).map fun x=>[I x.put]:=by rw [List.take_succ_eq_append_getElem hlt,List.map_append];rfl
   rw [e2,e3,Zf (n:=(k:Int)+1) (by omega) (by omega)]
   have hk1:KFR (List.take (k+1) (List.map (fun x=>[I x.share]) p.partners)):=by rw [<- List.map_take];exact Zb.2 fun x _=>by simp [KFL,KF]
   have hk2:KFR (List.take (k+1) (List.map (fun x=>[I x.put]) p.partners)):=by rw [<- List.map_take];exact Zb.2 fun x _=>by simp [KFL,KF]
   refine ⟨k+1,hlt,by omega,?_⟩
   (refine Zi ?_ ?_ ?_ rfl rfl<;>dsimp only [Zh,Za,hk1,hk2,id,go_sem,rA,rM,rS]<;>simp [Zh,Za,hk1,hk2,Zb,Ze,KFR,KFL,KF,Zd,mtO,nbr])
 refine Zu (by simpa using hlt) ?_
 dsimp only [go_sem,rA,rM,rS]
 have hkl:k=p.partners.length:=by omega
 subst hkl
 refine gh (YF (WN 5 1 p.partners.length rfl rfl rfl rfl) (WN 6 2 p.partners.length rfl rfl rfl rfl)) ?_
 (repeat first | dsimp only [go_sem,rA,rM,rS] | simp only [nbr])
 rw [List.take_length]
 have e2:p.partners.map (fun x=>[I x.share])=(p.partners.map (·.share)).map Zl:=by simp [Zl,Function.comp_def]
 have e3:p.partners.map (fun x=>[I x.put])=(p.partners.map (·.put)).map Zl:=by simp [Zl,Function.comp_def]
 rw [e2,e3]
 by_cases hr:0<=r
 . refine Zw (by simpa using hr) ?_
   dsimp only [go_sem,rA,rM,rS]
   refine Zs [] (ZbZ (Dvd.of hp hr h1).1 false) rfl rfl rfl ?_ ?_ ?_
   . (repeat first | dsimp only [go_sem,rA,rM,rS] | simp only [nbr])
     simp [mtL,mtB,mtS,Zb,KFL,KF,Zl]
   . trivial
   rintro _ rfl
   (repeat first | dsimp only [Zko,go_sem,rA,rM,rS] | simp only [nbr])
   rw [ZF,if_pos hr]
   refine gh ZL ?_
   (repeat first | dsimp only [go_sem,rA,rM,rS] | simp only [nbr])
 refine Zu (by simpa using hr) ?_
 dsimp only [go_sem,rA,rM,rS]
 rw [Zf (n:=0 - r) (by omega) (by omega),show (0:Int) - r = -r from by omega]
 have hD:=(Dvd.of hp (r:=-r) (by omega) (by omega)).2
 refine Zs [] (ZbZ hD false) rfl rfl rfl ?_ ?_ ?_
 . (repeat first | dsimp only [go_sem,rA,rM,rS] | simp only [nbr])
   simp [mtL,mtB,mtS,Zb,KFL,KF,Zl]
 . trivial
 rintro _ rfl
 (repeat first | dsimp only [Zko,go_sem,rA,rM,rS] | simp only [nbr])
 have hF:ZF p r=(Zy (-r) (p.partners.map (·.put))).map fun n=>-n:=by rw [ZF,if_neg hr]
 rw [hF]
 have hlen:(Zy (-r) (p.partners.map (·.put))).length=p.partners.length:=by simp [Zy]
 generalize hQ:Zy (-r) (p.partners.map (·.put))=Q at *
 refine gh ZL ?_
 (repeat first | dsimp only [go_sem,rA,rM,rS] | simp only [nbr])
 simp only [List.length_map]
 have hb:∀ i (hi:i < Q.length),0<=Q[i]/\Q[i]<=9000000000000000001:=by
  subst hQ;intro i hi;exact getF_bd hD hi
 refine Yf (fun s:Nat=>[(40,I (s:Nat))]) (fun s=>[(6,.row p.partners.length 1 (((Q.take s).map (fun n=>-n) ++ Q.drop s).map Zl) 3)]) (fun s=>s<=Q.length) (fun s=>Q.length - s) 0 (Nat.zero_le _) ?_ ?_
 . (refine Zi ?_ ?_ ?_ rfl rfl<;>dsimp only [Zh,Za,Zl,id,go_sem,rA,rM,rS]<;>simp [Zh,Za,Zl,Zb,Ze,KFR,KFL,KF,Zd,mtO,nbr])
 intro k hk
 dsimp only [go_sem,rA,rM,rS]
 by_cases hlt:k < Q.length
 . refine Zw (by simpa using hlt) ?_
   (repeat first | dsimp only [go_sem,rA,rM,rS] | simp only [nbr])
   have hgl:((Q.take k).map (fun n=>-n) ++ Q.drop k).length=Q.length:=by simp;omega
   have hg:((Q.take k).map (fun n=>-n) ++ Q.drop k)[k]'(by omega)=Q[k]:=by
    rw [List.getElem_append_right (by simp;omega)]
    simp [Nat.min_eq_left (Nat.le_of_lt hlt)]
   refine Yl k rfl (by rw [List.length_map,hgl];exact hlt) ?_
   (repeat first | dsimp only [go_sem,rA,rM,rS] | simp only [nbr])
   refine Xt (by rw [hgl];exact hlt) ?_
   (repeat first | dsimp only [Zl,go_sem,rA,rM,rS] | simp only [nbr])
   rw [hg]
   have:=hb k hlt
   rw [Zf (n:=0 - Q[k]) (by omega) (by omega),show (0:Int) - Q[k] = -Q[k] from by omega]
   refine Yl k rfl (by rw [List.length_map,hgl];exact hlt) ?_
   (repeat first | dsimp only [go_sem,rA,rM,rS] | simp only [nbr])
   refine WT (-Q[k]) (by rw [hgl];exact hlt) (by simp [Zl]) (by simp [Zl,Zn]) ?_
   (repeat first | dsimp only [go_sem,rA,rM,rS] | simp only [nbr])
   have hset:((Q.take k).map (fun n=>-n) ++ Q.drop k).set k (-Q[k])=(Q.take (k+1)).map (fun n=>-n) ++ Q.drop (k+1):=by
    rw [List.set_append_right (h:=by simp;omega)]
    simp only [List.length_map,List.length_take,Nat.min_eq_left (Nat.le_of_lt hlt),Nat.sub_self]
    rw [List.drop_eq_getElem_cons hlt,List.set_cons_zero,List.take_succ_eq_append_getElem hlt,List.map_append,List.append_assoc]
    rfl
   rw [hset,Zf (n:=(k:Int)+1) (by omega) (by omega)]
   have hk1:KFR (List.take (k+1) (List.map (Zl ∘ fun n=>-n) Q)):=by rw [<- List.map_take];exact Zb.2 fun x _=>by simp [KFL,KF,Zl]
   have hk2:KFR (List.drop (k+1) (List.map Zl Q)):=by rw [<- List.map_drop];exact Zb.2 fun x _=>by simp [KFL,KF,Zl]
   refine ⟨k+1,hlt,by omega,?_⟩
   (refine Zi ?_ ?_ ?_ rfl rfl<;>dsimp only [Zh,Za,Zl,hk1,hk2,id,go_sem,rA,rM,rS]<;>simp [Zh,Za,Zl,hk1,hk2,Zb,Ze,KFR,KFL,KF,Zd,mtO,nbr])
 refine Zu (by simpa using hlt) ?_
 dsimp only [go_sem,rA,rM,rS]
 have hkl:k=Q.length:=by omega
 rw [hkl,List.take_length,List.drop_length,List.append_nil]
 refine gh ZL ?_
 (repeat first | dsimp only [go_sem,rA,rM,rS] | simp only [nbr])
end Go.Proofs.Ythilckbkffjliaa
namespace Go.Azalai
open Go.Sx
theorem Ud {p:Pact} {l:List Letter} {c:Co} {j:Nat} (h:j < l.length):Xx p c (l.take (j+1))=(Zp p (Xx p c (l.take j)) l[j]).1:=by
 rw [List.take_succ_eq_append_getElem h,Zax];rfl
theorem ZmE {p:Pact} {l:List Letter} {c:Co} {j:Nat} (h:j < l.length):ZbO p c (l.take (j+1))=ZbO p c (l.take j) ++ [(Zp p (Xx p c (l.take j)) l[j]).2]:=by
 rw [List.take_succ_eq_append_getElem h,ZfN];rfl
theorem Zfy {α : Type} (g:Nat × α->Int) {seen:List Nat} {e:Nat × α} (hs:e.1 ∉ seen):∀ {L:List (Nat × α)},(L.map (·.1)).Nodup->e ∈ L ->
 Zt ((L.filter fun x=>(seen ++ [e.1]).contains x.1).map g)=Zt ((L.filter fun x=>seen.contains x.1).map g)+g e
 | z :: l,hn,he=>by
  simp only [List.map_cons,List.nodup_cons] at hn
  rcases List.mem_cons.1 he with rfl | he
  . have h1:(l.filter fun x=>(seen ++ [e.1]).contains x.1)=l.filter fun x=>seen.contains x.1:=by
     apply List.filter_congr
     intro x hx
     have:x.1≠e.1:=fun q=>hn.1 (q ▸ List.mem_map.2 ⟨x,hx,rfl⟩)
     simp [this]
    have h2:(seen ++ [e.1]).contains e.1=true:=by simp
    have h3:seen.contains e.1=false:=by simpa using hs
    rw [List.filter_cons,if_pos h2,List.filter_cons,if_neg (by rw [h3];simp),h1,List.map_cons,Zt];omega
  . have ih:=Zfy g hs hn.2 he
    have hz:z.1≠e.1:=fun q=>hn.1 (q ▸ List.mem_map.2 ⟨e,he,rfl⟩)
    have h2:(seen ++ [e.1]).contains z.1=seen.contains z.1:=by simp [hz]
    rw [List.filter_cons,h2,List.filter_cons]
    split
    . simp only [List.map_cons,Zt];omega
    . exact ih
def X9 {α : Type} (g:Nat × α->Int) (L:List (Nat × α)) (q:List Nat):Int:=Zt ((L.filter fun x=>q.contains x.1).map g)
theorem Zdv {α : Type} {g:Nat × α->Int} {L:List (Nat × α)}:X9 g L []=0:=by
 unfold X9;rw [List.filter_eq_nil_iff.2 (by simp)];rfl
theorem Zij {α : Type} {g:Nat × α->Int} {L:List (Nat × α)} {q:List Nat} (h:∀ e ∈ L,e.1 ∈ q):X9 g L q=Zt (L.map g):=by
 unfold X9;rw [List.filter_eq_self.2 fun e he=>by simpa using h e he]
theorem ZfQ {b:Int}:∀ {l:List Int},(∀ x ∈ l,-b<=x/\x<=b)->-(l.length * b)<=Zt l/\Zt l<=l.length * b
 | [],_=>by simp [Zt]
 | x :: l,h=>by
  have h1:=h x (by simp)
  have h2:=ZfQ (l:=l) fun y hy=>h y (by simp [hy])
  simp only [Zt,List.length_cons]
  rw [show ((l.length+1:Nat):Int)=(l.length:Int)+1 from by omega,Int.add_mul];omega
end Go.Azalai
namespace Go.Proofs.Ythilckbkffjliaa
open Go Go.Sx Go.Azalai
def Ze6 (p:Pact):Ot:=⟨false,.p 6 0,[(1,.map [] 0),(2,.map [] 0),(3,.map [] 0),(4,.map [] 0),(5,.map [] 0),(6,.cells [.sl false 3 (p.partners.map Za),I p.calf,I p.hire,I p.ends,.mp 1,.mp 2,.mp 3,.mp 4,.mp 5,I 0] 103)],7⟩
theorem Zmn (p:Pact):CtM Try.prog 49 [] 0 [.agg (Zh p)] (fun o=>o=Ze6 p):=by
 refine m49 (by simp [hpb]) (fun o ho=>by subst ho;simp [Ze6,KX,KXL,KXP,KXH,Zb,KFL,KF,Za]) ?_
 dsimp only [c49,r49,Zh,go_sem,rA,rM,rS]
 refine XW rfl rfl rfl ?_
 dsimp only [go_sem,rA,rM,rS]
 refine XW rfl rfl rfl ?_
 dsimp only [go_sem,rA,rM,rS]
 refine XW rfl rfl rfl ?_
 dsimp only [go_sem,rA,rM,rS]
 refine XW rfl rfl rfl ?_
 dsimp only [go_sem,rA,rM,rS]
 refine XW rfl rfl rfl ?_
 dsimp only [go_sem,rA,rM,rS]
 refine ⟨_,rfl,?_⟩
 simp only [Ze6]
 (refine Zo ?_ ?_ ?_ rfl<;>dsimp only [Za,id,go_sem,rA,rM,rS]<;>simp [Za,Zb,Ze,KFR,KFL,KF,Zd,mtO,nbr])
def rsH (p:Pact) (b:Bks) (l:List Letter) (k:Bool):List (Nat × HB):=bH p b ++ [(6,.cells [.p 5 0] 87),(7,.cells [.sl k 8 (l.map Zc)] 38)]
theorem ZwT (p:Pact) (b:Bks) (l:List Letter) (k:Bool):CtM Try.prog 50 (bH p b) 6 [.p 5 0,.sl k 8 (l.map Zc)] (fun o=>o=⟨false,.cl 71 [.p 7 0,.p 6 0],rsH p b l k,8⟩):=by
 refine m50 (by simp [hpb,bH]) (fun o ho=>by subst ho;simp [rsH,bH,KX,KXL,KXP,KXH,Zb,KFL,KF,Za,Zc,Zr,ZB,ZP,Zj]) ?_
 dsimp only [c50,r50,bH,go_sem,rA,rM,rS]
 refine ⟨_,rfl,?_⟩
 simp only [rsH,bH]
 (refine Zo ?_ ?_ ?_ rfl<;>dsimp only [Zj,Zr,ZB,ZP,Za,Zc,id,go_sem,rA,rM,rS]<;>simp [Zj,Zr,ZB,ZP,Za,Zc,Zb,Ze,KFR,KFL,KF,Zd,mtO,nbr])
theorem Zpv {k:Int} (hk:k=1\/k=2\/k=3\/k=4\/k=5\/k=6\/k=7\/k=8):∃ a b,Go.Sx.mget k ZO=some (a,b,Wk k):=by
 rcases hk with h | h | h | h | h | h | h | h<;>subst h<;>exact ⟨_,_,rfl⟩
theorem Ue {p:Pact} {x:Letter} (hx:Zk p x=true):x.kind=1\/x.kind=2\/x.kind=3\/x.kind=4\/x.kind=5\/x.kind=6\/x.kind=7\/x.kind=8:=by
 apply Classical.byContradiction
 intro q
 simp only [not_or] at q
 simp [Zk,q] at hx
def u8L (w:Int):List SV:=[U8 w]
end Go.Proofs.Ythilckbkffjliaa
namespace Go.Azalai
open Go.Sx
theorem ZbX {p:Pact} (hp:ZA p=true) {r:Int} (h0:-90000000000<=r) (h1:r<=90000000000) {i:Nat} (hi:i < (ZF p r).length):-9000000000000000001<=(ZF p r)[i]/\(ZF p r)[i]<=9000000000000000001:=by
 by_cases hr:r ≥ 0
 . have hD:=(Go.Proofs.Ythilckbkffjliaa.Dvd.of hp hr h1).1
   have e:ZF p r=Zy r (p.partners.map (·.share)):=by rw [ZF,if_pos hr]
   have hi':i < (Zy r (p.partners.map (·.share))).length:=by rw [<- e];exact hi
   have:=Go.Proofs.Ythilckbkffjliaa.getF_bd hD hi'
   simp only [e];omega
 . have hD:=(Go.Proofs.Ythilckbkffjliaa.Dvd.of hp (r:=-r) (by omega) (by omega)).2
   have e:ZF p r=(Zy (-r) (p.partners.map (·.put))).map fun n=>-n:=by rw [ZF,if_neg hr]
   have hi':i < (Zy (-r) (p.partners.map (·.put))).length:=by rw [e] at hi;simpa using hi
   have:=Go.Proofs.Ythilckbkffjliaa.getF_bd hD hi'
   simp only [e,List.getElem_map];omega
structure EndB (p:Pact) (c0:Co) (b0:Bks) (M m:Nat) (c:Co) (b:Bks) (seen:List Nat):Prop where
 ei:EndI p c0 c
 bk:BkR m c b
 mm:m+b.loans.length<=M
 sn:∀ e ∈ b.loans,e.1 ∉ seen
 ck:b.cl=b0.cl
theorem EndB.step {p:Pact} {c0 c:Co} {b0 b:Bks} {M m:Nat} {seen:List Nat} (h:EndB p c0 b0 M m c b seen) (hp:0<=p.hire/\p.hire<=1000) (he:0<=p.ends/\p.ends<=100000) {e:Nat × Int × (Int × Int)} (hm:e ∈ b.loans) :
 c.loans e.2.1=some e.2.2/\EndB p c0 b0 M (m+1) (ZN p c e.2.1 p.ends e.2.2) (Y9 p c b e.2.1 p.ends e.2.2) (seen ++ [e.1]):=by
 have hg:mget e.2.1 b.loans=some e.2.2:=ZcO h.bk.w1.kn hm
 have hl:c.loans e.2.1=some e.2.2:=by rw [<- h.bk.lo,hg]
 have hlen:=Zan (L:=b.loans) (k:=e.2.1) (by rw [hg];rfl)
 have h1:=h.mm
 refine ⟨hl,h.ei.home hl,h.bk.home hp hl he,by simp only [Y9];omega,fun x hx=>?_,h.ck⟩
 have hx':=(ZvM h.bk.w1.kn).1 hx
 simp only [List.mem_append,List.mem_singleton,not_or]
 refine ⟨h.sn x hx'.1,fun q=>hx'.2 ?_⟩
 have hn:=h.bk.w1.bn
 have:∀ {L:List (Nat × Int × (Int × Int))},(L.map (·.1)).Nodup->x ∈ L->e ∈ L->x.1=e.1->x=e:=by
  intro L
  induction L with
  | nil=>intro _ h;cases h
  | cons z l ih =>
   intro hn h1 h2 h3
   simp only [List.map_cons,List.nodup_cons] at hn
   rcases List.mem_cons.1 h1 with q1 | q1
   . rcases List.mem_cons.1 h2 with q2 | q2
     . rw [q1,q2]
     . exact absurd (List.mem_map.2 ⟨e,q2,by rw [<- h3,q1]⟩) hn.1
   . rcases List.mem_cons.1 h2 with q2 | q2
     . exact absurd (List.mem_map.2 ⟨x,q1,by rw [h3,q2]⟩) hn.1
     . exact ih hn.2 q1 q2 h3
 rw [this hn hx'.1 hm q]
theorem EndB.none {p:Pact} {c0 c:Co} {b0 b:Bks} {M m:Nat} {seen:List Nat} (h:EndB p c0 b0 M m c b seen) (hs:∀ e ∈ b.loans,e.1 ∈ seen):∀ a,c.loans a=none:=by
 have:b.loans=[]:=by
  cases hb:b.loans with
  | nil=>rfl
  | cons e l=>exact absurd (hs e (by simp [hb])) (h.sn e (by simp [hb]))
 intro a
 rw [<- h.bk.lo,this];rfl
theorem ZeY {p:Pact} {c:Co} {k:Nat} (hk:k < p.partners.length) (hk':k < (VB p c).length) (hd:k < (ZF p (Vr p c)).length) :
 (VB p c)[k]=p.partners[k].put+(ZF p (Vr p c))[k]+UC p c p.partners[k].id+XC p c p.partners[k].id:=by
 simp only [VB,List.getElem_map,List.getElem_range]
 rw [List.getElem?_eq_getElem hk]
 simp only [Zr6]
 rw [List.getD_eq_getElem?_getD,List.getElem?_eq_getElem hd];rfl
end Go.Azalai
namespace Go.Proofs.Ythilckbkffjliaa
open Go Go.Sx Go.Azalai
def ZA3 (p:Pact) (c:Co):Ot:=⟨false,.mr 7 p.partners.length,[(7,.row p.partners.length 1 ((VB p c).map Zl) 3)],8⟩
theorem ZzD {p:Pact} (hp:ZA p=true) {n:Nat} {c:Co} {b:Bks} (h:BkR n c b) (hn:n<=400) (hc:CoOk p c) (hdb:Zfi p c) :
 CtM Try.prog 80 (bH p b) 6 [.p 5 0] (fun o=>o=ZA3 p c):=by
 refine m80 (by simp [hpb,bH]) (fun o ho=>by subst ho;simp [ZA3,KX,KXL,KXP,KXH,Zb,KFL,KF,Zl]) ?_
 have hP:=hp
 simp only [ZA,Bool.and_eq_true,inR,decide_eq_true_eq] at hP
 have hh:0<=p.hire/\p.hire<=1000:=by omega
 have he:0<=p.ends/\p.ends<=100000:=by omega
 have h8:=(Yx hp).2.2.2.2.2.2
 have hln:=h.ln
 have hdn:=h.dn
 dsimp only [c80,r80,bH,go_sem,rA,rM,rS]
 refine Zdh rfl rfl u99 rfl rfl ?_
 dsimp only [go_sem,rA,rM,rS]
 refine Yf (fun _:Nat × Co × Bks × List Nat=>[]) (fun s=>bH p s.2.2.1 ++ [(6,.it 0 b.cl s.2.2.2 b.cl)]) (fun s=>EndB p c b (n+b.loans.length) s.1 s.2.1 s.2.2.1 s.2.2.2) (fun s=>s.2.2.1.loans.length) (n,c,b,[]) ⟨.start hc,h,Nat.le_refl _,fun e _=>by simp,rfl⟩ ?_ ?_
 . dsimp only [bH,go_sem,rA,rM,rS]
   (refine Zi ?_ ?_ ?_ rfl rfl<;>dsimp only [Zj,Zr,ZB,ZP,Za,id,go_sem,rA,rM,rS]<;>simp [Zj,Zr,ZB,ZP,Za,Zb,Ze,KFR,KFL,KF,Zd,mtO,nbr])
 rintro ⟨m,c1,b1,seen⟩ hE
 simp only at hE
 have hmm:=hE.mm
 dsimp only [bH,go_sem,rA,rM,rS]
 have hck:=hE.ck
 refine ZeZ (key:=kI) (val:=Zr) (sv:=sI) (L:=b1.loans) (c:=b1.cl) rfl (by rw [hck];rfl) rfl (fun e he=>by rw [<- hck];exact hE.bk.w1.bl e he) (Nat.le_refl _) VG (fun hs=>?_) (fun e hm hs=>?_)
 . dsimp only [go_sem,rA,rM,rS]
   refine Zu rfl ?_
   dsimp only [go_sem,rA,rM,rS]
   have hno:=hE.none hs
   obtain ⟨hR,hX⟩:=hE.ei.done hno
   have hre:=hE.bk.re
   have hrb:=hE.bk.rb
   refine gh ZL ?_
   dsimp only [go_sem,rA,rM,rS]
   rw [hre,hR]
   rw [hR] at hrb
   refine call (ZlT p hp (by omega) (by omega)) ?_
   dsimp only [go_sem,rA,rM,rS]
   simp only [List.length_map]
   have hdl:=ZaW (p:=p) (r:=Vr p c)
   refine Zai (ZX 5 1 3 rfl rfl) (fun s:Nat=>[(43,I (s:Nat)),(5,.mr 7 s)]) (fun s=>[(7,.row s 1 (((VB p c).take s).map Zl) 3)]) (fun s=>s<=p.partners.length) (fun s=>p.partners.length - s) 0 (Nat.zero_le _) ?_ ?_
   . (refine Zi ?_ ?_ ?_ rfl rfl<;>dsimp only [Zj,Zr,ZB,ZP,Za,Zl,id,go_sem,rA,rM,rS]<;>simp [Zj,Zr,ZB,ZP,Za,Zl,Zb,Ze,KFR,KFL,KF,Zd,mtO,nbr])
   intro k hk
   have hk0:KFR (List.take k (List.map Zl (VB p c))):=by rw [<- List.map_take];exact Zb.2 fun x _=>by simp [KFL,KF,Zl]
   dsimp only [go_sem,rA,rM,rS]
   by_cases hlt:k < p.partners.length
   . refine Zw (by simpa using hlt) ?_
     dsimp only [go_sem,rA,rM,rS]
     refine Zq k hlt rfl ?_
     dsimp only [Za,go_sem,rA,rM,rS]
     refine Zq k (by rw [hdl];exact hlt) rfl ?_
     dsimp only [Zl,go_sem,rA,rM,rS]
     have hrv:=fun (w:Int) σ h1 h2 h3=>Ui (P:=Try.prog) (t:=101) (σ:=σ) (i:=58) (j:=60) (ok:=false) (km:=4) (c:=b1.ce) (key:=kI) (val:=ZB) (sv:=sI) (L:=b1.extra) (k:=w) (zs:=ZB 0) h1 h2 h3 Ztb VG ZbG Zl3
     refine ⟨_,hrv p.partners[k].id _ rfl rfl rfl,?_⟩
     rw [show lkS false ZB (ZB 0) (Go.Sx.mget p.partners[k].id b1.extra)=ZB (c1.extra p.partners[k].id) from by rw [<- hE.bk.ex];cases Go.Sx.mget p.partners[k].id b1.extra<;>rfl]
     rw [hX]
     have hexb:=hE.bk.eb p.partners[k].id
     rw [hX] at hexb
     have hpb:=ZbX hp (r:=Vr p c) (by omega) (by omega) (i:=k) (by rw [hdl];exact hlt)
     have hpu:=((Yd hP.1.1.2).2.2 _ (List.getElem_mem hlt))
     dsimp only [ZB,go_sem,rA,rM,rS]
     rw [Zf (n:=p.partners[k].put+_) (by omega) (by omega),Zf (n:=p.partners[k].put+(ZF p (Vr p c))[k]+_) (by omega) (by omega)]
     refine Zdh rfl rfl Zwx rfl rfl ?_
     dsimp only [go_sem,rA,rM,rS]
     have hget:=ZeY (p:=p) (c:=c) hlt (by rw [YV];exact hlt) (by rw [hdl];exact hlt)
     generalize hbs:p.partners[k].put+(ZF p (Vr p c))[k]+UC p c p.partners[k].id=bs at *
     have hds:=Zm7 (p:=p) (c:=c1) hE.bk.w4.kn (fun e he=>by rw [<- hE.bk.db,ZcO hE.bk.w4.kn he];rfl) (fun x y hno=>by rw [<- hE.bk.db,W2.2 hno];rfl) (by intro w o;rw [hE.ei.db];exact hdb w o) (Yx hp).1 p.partners[k].id
     have hod:XC p c1 p.partners[k].id=XC p c p.partners[k].id:=by simp only [XC,hE.ei.db]
     rw [hod] at hds
     have hdl1:=hE.bk.dn
     have htb:∀ e ∈ b1.debts,-90000000000<=e.2.2/\e.2.2<=90000000000:=fun e he=>by
      have h1:=hE.bk.bb e.2.1.1 e.2.1.2
      rw [<- hE.bk.db,ZcO hE.bk.w4.kn he] at h1
      simp only [Option.getD_some] at h1
      omega
     have hdt:∀ e ∈ b1.debts,-180000000000<=Xl p.partners[k].id e/\Xl p.partners[k].id e<=180000000000:=fun e he=>by
      have:=htb e he
      simp only [Xl]
      split<;>split<;>omega
     have hsb:∀ q:List Nat,-200000000000000<=X9 (Xl p.partners[k].id) b1.debts q/\X9 (Xl p.partners[k].id) b1.debts q<=200000000000000:=fun q=>by
      have h1:=ZfQ (b:=180000000000) (l:=(b1.debts.filter fun x=>q.contains x.1).map (Xl p.partners[k].id)) (fun x hx=>by
       obtain ⟨e,he,rfl⟩:=List.mem_map.1 hx
       exact hdt e (List.mem_filter.1 he).1)
      have h2:=List.length_filter_le (fun x=>q.contains x.1) b1.debts
      rw [List.length_map] at h1
      simp only [X9]
      omega
     have hseen:=fun (q:List Nat) (e:Nat × (Int × Int) × Int) (hs:e.1 ∉ q) (he:e ∈ b1.debts)=>Zfy (Xl p.partners[k].id) hs hE.bk.w4.bn he
     generalize hid:p.partners[k].id=pid at *
     refine Yf (fun s:List Nat=>[(8,I (bs+X9 (Xl pid) b1.debts s))]) (fun s=>[(9,.it 3 b1.cb s b1.cb)]) (fun _=>True) (fun s=>Zph b1.debts s) [] trivial ?_ ?_
     . (refine Zi ?_ ?_ ?_ rfl rfl<;>dsimp only [Zj,Zr,ZB,ZP,Za,Zl,Zdv,Int.add_zero,hk0,id,go_sem,rA,rM,rS]<;>simp [Zj,Zr,ZB,ZP,Za,Zl,Zdv,Int.add_zero,hk0,Zb,Ze,KFR,KFL,KF,Zd,mtO,nbr])
     intro q _
     dsimp only [go_sem,rA,rM,rS]
     have hq0:=hsb q
     refine ZeZ (key:=kP) (val:=ZB) (sv:=sP) (L:=b1.debts) (c:=b1.cb) rfl rfl rfl (fun e he=>hE.bk.w4.bl e he) (Nat.le_refl _) U4 (fun hs=>?_) (fun e hm hs=>?_)
     . dsimp only [go_sem,rA,rM,rS]
       refine Zu rfl ?_
       dsimp only [go_sem,rA,rM,rS]
       rw [Zij hs,hds,<- hget]
       refine gh ZL ?_
       (repeat first | dsimp only [go_sem,rA,rM,rS] | simp only [nbr])
       refine ⟨by simp [ZW,Wy,Zab],by simp [YV];omega,?_⟩
       (repeat first | dsimp only [go_sem,rA,rM,rS] | simp only [nbr])
       refine gh ZL ?_
       (repeat first | dsimp only [go_sem,rA,rM,rS] | simp only [nbr])
       have e1:((VB p c).take k).map Zl ++ [[I ((VB p c)[k]'(by rw [YV];exact hlt))]]=((VB p c).take (k+1)).map Zl:=by
        rw [List.take_succ_eq_append_getElem (by rw [YV];exact hlt),List.map_append];rfl
       rw [e1,Zf (n:=(k:Int)+1) (by omega) (by omega)]
       have hk1:KFR (List.take (k+1) (List.map Zl (VB p c))):=by rw [<- List.map_take];exact Zb.2 fun x _=>by simp [KFL,KF,Zl]
       refine ⟨k+1,hlt,by omega,?_⟩
       (refine Zi ?_ ?_ ?_ rfl rfl<;>dsimp only [Zj,Zr,ZB,ZP,Za,Zl,hk1,id,go_sem,rA,rM,rS]<;>simp [Zj,Zr,ZB,ZP,Za,Zl,hk1,Zb,Ze,KFR,KFL,KF,Zd,mtO,nbr])
     . dsimp only [go_sem,rA,rM,rS]
       refine Zw rfl ?_
       dsimp only [go_sem,rA,rM,rS]
       refine Zc0 (key:=kP) (val:=ZB) (sv:=sP) (L:=b1.debts) (e:=e) (since:=b1.cb) (seen:=q) (c:=b1.cb) rfl rfl rfl hm hE.bk.w4.bn U4 ?_
       dsimp only [ZB,go_sem,rA,rM,rS]
       have hv:=htb e hm
       have hnew:X9 (Xl pid) b1.debts (q ++ [e.1])=X9 (Xl pid) b1.debts q+Xl pid e:=hseen q e hs hm
       have hlN:=ZnZ hm hs
       by_cases q1:e.2.1.2=pid
       . refine Zw (by simpa using q1) ?_
         dsimp only [go_sem,rA,rM,rS]
         rw [Zf (n:=bs+X9 (Xl pid) b1.debts q+e.2.2) (by omega) (by omega)]
         by_cases q2:e.2.1.1=pid
         . refine Zw (by simpa using q2) ?_
           dsimp only [go_sem,rA,rM,rS]
           rw [Zf (n:=bs+X9 (Xl pid) b1.debts q+e.2.2 - e.2.2) (by omega) (by omega)]
           rw [show bs+X9 (Xl pid) b1.debts q+e.2.2 - e.2.2=bs+X9 (Xl pid) b1.debts (q ++ [e.1]) from by rw [hnew];simp only [Xl,q1,q2,if_true];omega]
           refine ⟨q ++ [e.1],trivial,hlN,?_⟩
           (refine Zi ?_ ?_ ?_ rfl rfl<;>dsimp only [Zj,Zr,ZB,ZP,Za,Zl,hk0,id,go_sem,rA,rM,rS]<;>simp [Zj,Zr,ZB,ZP,Za,Zl,hk0,Zb,Ze,KFR,KFL,KF,Zd,mtO,nbr])
         . refine Zu (by simpa using q2) ?_
           dsimp only [go_sem,rA,rM,rS]
           rw [show bs+X9 (Xl pid) b1.debts q+e.2.2=bs+X9 (Xl pid) b1.debts (q ++ [e.1]) from by rw [hnew];simp only [Xl,q1,q2,if_true,if_false];omega]
           refine ⟨q ++ [e.1],trivial,hlN,?_⟩
           (refine Zi ?_ ?_ ?_ rfl rfl<;>dsimp only [Zj,Zr,ZB,ZP,Za,Zl,hk0,id,go_sem,rA,rM,rS]<;>simp [Zj,Zr,ZB,ZP,Za,Zl,hk0,Zb,Ze,KFR,KFL,KF,Zd,mtO,nbr])
       . refine Zu (by simpa using q1) ?_
         dsimp only [go_sem,rA,rM,rS]
         by_cases q2:e.2.1.1=pid
         . refine Zw (by simpa using q2) ?_
           dsimp only [go_sem,rA,rM,rS]
           rw [Zf (n:=bs+X9 (Xl pid) b1.debts q - e.2.2) (by omega) (by omega)]
           rw [show bs+X9 (Xl pid) b1.debts q - e.2.2=bs+X9 (Xl pid) b1.debts (q ++ [e.1]) from by rw [hnew];simp only [Xl,q1,q2,if_true,if_false];omega]
           refine ⟨q ++ [e.1],trivial,hlN,?_⟩
           (refine Zi ?_ ?_ ?_ rfl rfl<;>dsimp only [Zj,Zr,ZB,ZP,Za,Zl,hk0,id,go_sem,rA,rM,rS]<;>simp [Zj,Zr,ZB,ZP,Za,Zl,hk0,Zb,Ze,KFR,KFL,KF,Zd,mtO,nbr])
         . refine Zu (by simpa using q2) ?_
           dsimp only [go_sem,rA,rM,rS]
           rw [show bs+X9 (Xl pid) b1.debts q=bs+X9 (Xl pid) b1.debts (q ++ [e.1]) from by rw [hnew];simp only [Xl,q1,q2,if_false];omega]
           refine ⟨q ++ [e.1],trivial,hlN,?_⟩
           (refine Zi ?_ ?_ ?_ rfl rfl<;>dsimp only [Zj,Zr,ZB,ZP,Za,Zl,hk0,id,go_sem,rA,rM,rS]<;>simp [Zj,Zr,ZB,ZP,Za,Zl,hk0,Zb,Ze,KFR,KFL,KF,Zd,mtO,nbr])
   refine Zu (by simpa using hlt) ?_
   dsimp only [go_sem,rA,rM,rS]
   have hkl:k=p.partners.length:=by omega
   subst hkl
   refine gh ZL ?_
   dsimp only [go_sem,rA,rM,rS]
   refine ⟨_,rfl,?_⟩
   rw [List.take_of_length_le (by rw [YV];exact Nat.le_refl _)]
   try simp only [ZA3]
   (refine Zo ?_ ?_ ?_ rfl<;>dsimp only [Zj,Zr,ZB,ZP,Za,Zl,id,go_sem,rA,rM,rS]<;>simp [Zj,Zr,ZB,ZP,Za,Zl,Zb,Ze,KFR,KFL,KF,Zd,mtO,nbr])
 . dsimp only [go_sem,rA,rM,rS]
   refine Zw rfl ?_
   dsimp only [go_sem,rA,rM,rS]
   obtain ⟨hl,hE'⟩:=hE.step hh he hm
   rw [hck]
   refine Zc0 (key:=kI) (val:=Zr) (sv:=sI) (L:=b1.loans) (e:=e) (since:=b.cl) (seen:=seen) (c:=b.cl) rfl rfl rfl hm hE.bk.w1.bn VG ?_
   dsimp only [go_sem,rA,rM,rS]
   refine Zs [0,1,2,3,4,5] (Zaq hE.bk (by omega) hh e.2.1 p.ends he hl) rfl rfl rfl ?_ ?_ ?_
   . (repeat first | dsimp only [bH,go_sem,rA,rM,rS] | simp only [nbr])
     try simp [mtL,mtB,mtS]
   . (repeat first | dsimp only [bH,go_sem,rA,rM,rS] | simp only [nbr])
     try simp [Zj,Zr,ZB,ZP,Za,Zc,Zb,KFL,KF,hck]
   rintro _ rfl
   (repeat first | dsimp only [Yk,bH,go_sem,rA,rM,rS] | simp only [nbr])
   refine ⟨(m+1,ZN p c1 e.2.1 p.ends e.2.2,Y9 p c1 b1 e.2.1 p.ends e.2.2,seen ++ [e.1]),hE',?_,?_⟩
   . have:=Zan (L:=b1.loans) (k:=e.2.1) (by rw [hE.bk.lo,hl];rfl)
     simp only [Y9];omega
   dsimp only [bH,Y9,go_sem,rA,rM,rS]
   (refine Zi ?_ ?_ ?_ rfl rfl<;>dsimp only [Zj,Zr,ZB,ZP,Za,id,go_sem,rA,rM,rS]<;>simp [Zj,Zr,ZB,ZP,Za,Zb,Ze,KFR,KFL,KF,Zd,mtO,nbr])
end Go.Proofs.Ythilckbkffjliaa
namespace Go.Azalai
def rg {α : Type} (n:Nat) (f:Int->α):List α:=(List.range n).map fun k:Nat=>f (k:Int)
theorem Yu {α : Type} {n:Nat} {f:Int->α}:(rg n f).length=n:=by simp [rg]
theorem U1 {α : Type} {n i:Nat} {f:Int->α} (h:i < n):(rg n f)[i]'(by rw [Yu];exact h)=f i:=by simp [rg]
theorem Zb5 {α : Type} {n i:Nat} {f:Int->α} {v:α} (h:i < n):(rg n f).set i v=rg n (upd f i v):=by
 apply List.ext_getElem
 . simp [rg]
 . intro k h1 h2
   rw [List.getElem_set]
   simp only [rg,List.getElem_map,List.getElem_range,upd]
   by_cases hk:i=k
   . subst hk;simp
   . rw [if_neg hk,if_neg (by omega)]
def pp {α : Type} (p:Pact) (f:Int->α):List α:=p.partners.map fun x=>f x.id
theorem Xj {α : Type} {p:Pact} {f:Int->α}:(pp p f).length=p.partners.length:=by simp [pp]
theorem ZdQ {α : Type} {p:Pact} {f:Int->α} {i:Nat} (h:i < p.partners.length):(pp p f)[i]'(by rw [Xj];exact h)=f p.partners[i].id:=by simp [pp]
theorem Zfh {α : Type} {p:Pact} (hn:(ids p).Nodup) {i:Nat} {f:Int->α} {v:α} (h:i < p.partners.length):(pp p f).set i v=pp p (upd f p.partners[i].id v):=by
 apply List.ext_getElem
 . simp [pp]
 . intro k h1 h2
   rw [List.getElem_set]
   simp only [pp,List.getElem_map,upd]
   have hk:k < p.partners.length:=by simpa [pp] using h2
   by_cases e:i=k
   . subst e;simp
   . rw [if_neg e,if_neg]
     intro q
     have:=List.pairwise_iff_getElem.1 (List.nodup_iff_pairwise_ne.1 hn)
     rcases Nat.lt_or_gt_of_ne e with g | g
     . exact this i k (by simpa [ids] using h) (by simpa [ids] using hk) g (by simpa [ids] using q.symm)
     . exact this k i (by simpa [ids] using hk) (by simpa [ids] using h) g (by simpa [ids] using q)
theorem W4 {p:Pact} {who:Int} (h:who ∈ ids p):∃ i:Nat,∃ h:i < p.partners.length,Go.Proofs.Ythilckbkffjliaa.atF p who=(i:Int)/\p.partners[i].id=who:=by
 have key:∀ (l:List Partner) (k:Nat),who ∈ l.map (·.id)->∃ i:Nat,∃ h:i < l.length,X7 (fun x:Partner=>decide (x.id=who)) l k=((k+i:Nat):Int)/\l[i].id=who:=by
  intro l
  induction l with
  | nil=>intro k h;simp at h
  | cons x l ih =>
   intro k h
   simp only [X7]
   by_cases hx:x.id=who
   . exact ⟨0,by simp,by simp [hx],by simpa using hx⟩
   . have hm:who ∈ l.map (·.id):=by
      simp only [List.map_cons,List.mem_cons] at h
      rcases h with h | h
      . exact absurd h.symm hx
      . exact h
     obtain ⟨i,hi,e1,e2⟩:=ih (k+1) hm
     refine ⟨i+1,by simpa using hi,?_,by simpa using e2⟩
     simp only [hx,decide_false]
     rw [show k+(i+1)=k+1+i from by omega,<- e1]
     rfl
 obtain ⟨i,hi,e1,e2⟩:=key p.partners 0 h
 exact ⟨i,hi,by simpa [Go.Proofs.Ythilckbkffjliaa.atF] using e1,e2⟩
def U9 (p:Pact) (c:Co) (a:Int):Int:=match c.loans a with
 | none=>-1
 | some l=>Go.Proofs.Ythilckbkffjliaa.atF p l.1
def ZaL (c:Co) (s:Int->Int):Prop:=∀ a l,c.loans a=some l->s a=l.2
def ddL (p:Pact) (d:Int->Int->Int):List (List Int):=pp p fun a=>pp p (d a)
theorem VR {p:Pact} {d:Int->Int->Int}:(ddL p d).length=p.partners.length:=Xj
theorem ZeD {p:Pact} {d:Int->Int->Int} {i:Nat} (hi:i < p.partners.length):(ddL p d)[i]'(by rw [VR];exact hi)=pp p (d p.partners[i].id):=by simp [ddL,pp]
theorem Zeu {p:Pact} {d:Int->Int->Int} {i j:Nat} (hi:i < p.partners.length) (hj:j < p.partners.length) (h1:i < (ddL p d).length) (h2:j < ((ddL p d)[i]).length):(ddL p d)[i][j]=d p.partners[i].id p.partners[j].id:=by simp [ddL,pp]
theorem ZvW {p:Pact} (hn:(ids p).Nodup) {i j:Nat} {d:Int->Int->Int} {v:Int} (hi:i < p.partners.length) (hj:j < p.partners.length) :
 (ddL p d).set i ((pp p (d p.partners[i].id)).set j v)=ddL p (upd d p.partners[i].id (upd (d p.partners[i].id) p.partners[j].id v)):=by
 rw [Zfh hn hj]
 rw [ddL,Zfh hn hi,ddL]
 simp only [pp]
 refine List.map_congr_left fun x _=>?_
 simp only [upd]
 split<;>rfl
def Vh (p:Pact) (c:Co):Nat->Co
 | 0=>c
 | n+1=>match c.loans n with
  | none=>Vh p c n
  | some l=>ZN p (Vh p c n) n p.ends l
theorem Vb {p:Pact} {c:Co}:∀ {n:Nat} {a:Int},(Vh p c n).loans a=if 0<=a/\a < n then none else c.loans a
 | 0,a=>by simp only [Vh];rw [if_neg (by omega)]
 | n+1,a=>by
  simp only [Vh]
  split
  . rename_i h
    rw [Vb]
    by_cases ha:a=n
    . subst ha;rw [if_neg (by omega),if_pos (by omega),h]
    . by_cases q:0<=a/\a < n
      . rw [if_pos q,if_pos (by omega)]
      . rw [if_neg q,if_neg (by omega)]
  . simp only [ZN,upd]
    rw [Vb]
    by_cases ha:a=n
    . subst ha;rw [if_pos rfl,if_pos (by omega)]
    . rw [if_neg ha]
      by_cases q:0<=a/\a < n
      . rw [if_pos q,if_pos (by omega)]
      . rw [if_neg q,if_neg (by omega)]
theorem WX {f:Nat->Int} {n:Nat}:Zt ((List.range (n+1)).map f)=Zt ((List.range n).map f)+f n:=by
 rw [List.range_succ,List.map_append,Vv];simp [Zt]
theorem Zar {p:Pact} {c:Co}:∀ {n:Nat},(Vh p c n).result=c.result - Zt ((List.range n).map (Yn p c))
 | 0=>by simp [Vh,Zt]
 | n+1=>by
  rw [WX]
  simp only [Vh,Yn]
  cases h:c.loans n with
  | none=>simp only [];rw [Zar];omega
  | some l=>simp only [ZN];rw [Zar];omega
theorem Uf {p:Pact} {c:Co} {who:Int}:∀ {n:Nat},(Vh p c n).extra who=c.extra who+Zt ((List.range n).map (YP p c who))
 | 0=>by simp [Vh,Zt]
 | n+1=>by
  rw [WX]
  simp only [Vh,YP]
  cases h:c.loans n with
  | none=>simp only [];rw [Uf];omega
  | some l =>
   simp only [ZN,upd]
   by_cases hw:who=l.1
   . subst hw;rw [if_pos rfl,if_pos rfl,Uf];omega
   . rw [if_neg hw,if_neg (fun e=>hw e.symm),Uf];omega
theorem UJ {p:Pact} {c:Co}:∀ {n:Nat},(Vh p c n).debts=c.debts
 | 0=>rfl
 | n+1=>by
  simp only [Vh]
  split
  . exact UJ
  . exact UJ
theorem Zbo {ends:Int}:∀ {a b:List Letter} {seen:List Int},Y8 ends seen (a ++ b)=Y8 ends seen a ++ Y8 ends ((a.map (·.id)).reverse ++ seen) b
 | [],b,seen=>by simp [Y8]
 | x :: a,b,seen=>by
  simp only [List.cons_append,Y8,List.map_cons,List.reverse_cons,List.append_assoc,List.singleton_append]
  split
  . exact Zbo
  . rw [Zbo];rfl
def XU (ends:Int) (a:List Letter) (x:Letter):Bool:=decide (x.day > ends) || a.any fun y=>decide (y.id=x.id)
theorem Zdp {ends:Int} {l:List Letter} {i:Nat} (hi:i < l.length):Y8 ends [] (l.take (i+1))=Y8 ends [] (l.take i) ++ if XU ends (l.take i) l[i]=true then [] else [l[i]]:=by
 rw [List.take_succ_eq_append_getElem hi,Zbo]
 congr 1
 simp only [Y8,List.append_nil,List.mem_reverse,List.mem_map,XU,Bool.or_eq_true,decide_eq_true_eq,List.any_eq_true]
 by_cases h:(∃ a,a ∈ List.take i l/\a.id=l[i].id)\/l[i].day > ends
 . rw [if_pos h,if_pos (h.symm)]
 . rw [if_neg h,if_neg (fun q=>h q.symm)]
theorem Zhi {A B:List Letter} {x:Letter} (h:(A ++ B).Pairwise fun a b=>lt2 a b=true) (hB:∀ b ∈ B,lt2 x b=true) (hA:A=[]\/∃ A' a,A=A' ++ [a]/\lt2 x a=false) (hid:∀ y ∈ A ++ B,y.id≠x.id) :
 (A ++ x :: B).Pairwise fun a b=>lt2 a b=true:=by
 rw [List.pairwise_append] at h ⊢
 obtain ⟨h1,h2,h3⟩:=h
 refine ⟨h1,List.pairwise_cons.2 ⟨hB,h2⟩,fun a ha b hb=>?_⟩
 rcases List.mem_cons.1 hb with rfl | hb
 . rcases hA with rfl | ⟨A',z,rfl,hz⟩
   . cases ha
   . have hzx:lt2 z b=true:=(Zid (hid z (by simp))).resolve_right (by rw [hz];decide)
     rcases List.mem_append.1 ha with ha | ha
     . rw [List.pairwise_append] at h1
       exact Zdr (h1.2.2 a ha z (by simp)) hzx
     . simp only [List.mem_singleton] at ha;subst ha;exact hzx
 . exact h3 a ha b hb
structure RdI (ends:Int) (l:List Letter) (i:Nat) (Q:List Letter):Prop where
 ord:Q.Pairwise fun a b=>lt2 a b=true
 mem:∀ y,y ∈ Q↔y ∈ Y8 ends [] (l.take i)
 len:Q.length<=i
theorem RdI.start {ends:Int} {l:List Letter}:RdI ends l 0 []:=⟨List.Pairwise.nil,fun y=>by simp [Y8],Nat.le_refl _⟩
theorem RdI.skip {ends:Int} {l:List Letter} {i:Nat} {Q:List Letter} (h:RdI ends l i Q) (hi:i < l.length) (ht:XU ends (l.take i) l[i]=true):RdI ends l (i+1) Q :=
 ⟨h.ord,fun y=>by rw [Zdp hi,if_pos ht,List.append_nil];exact h.mem y,by have:=h.len;omega⟩
theorem RdI.ids {ends:Int} {l:List Letter} {i:Nat} {Q:List Letter} (h:RdI ends l i Q) (hi:i < l.length) (ht:XU ends (l.take i) l[i]=false):∀ y ∈ Q,y.id≠l[i].id:=fun y hy e=>by
 have h1:=(Wt ((h.mem y).1 hy)).1
 simp only [XU,Bool.or_eq_false_iff,List.any_eq_false,decide_eq_true_eq] at ht
 exact ht.2 y h1 e
structure RdS (Q:List Letter) (x:Letter) (k:Nat) (R:List Letter):Prop where
 ex:∃ A B,R=A ++ x :: B/\A ++ B=Q/\A.length=k/\∀ b ∈ B,lt2 x b=true
theorem RdS.start {Q:List Letter} {x:Letter}:RdS Q x Q.length (Q ++ [x]):=⟨Q,[],rfl,by simp,rfl,by simp⟩
theorem RdS.len {Q:List Letter} {x:Letter} {k:Nat} {R:List Letter} (h:RdS Q x k R):R.length=Q.length+1/\k<=Q.length:=by
 obtain ⟨A,B,rfl,rfl,rfl,_⟩:=h.ex
 constructor
 . simp only [List.length_append,List.length_cons];omega
 . simp only [List.length_append];omega
theorem RdS.at {Q:List Letter} {x:Letter} {k:Nat} {R:List Letter} (h:RdS Q x k R) (hk:k < R.length):R[k]=x:=by
 obtain ⟨A,B,rfl,rfl,rfl,_⟩:=h.ex
 simp
theorem RdS.swap {Q:List Letter} {x:Letter} {k:Nat} {R:List Letter} (h:RdS Q x (k+1) R) (hk:k+1 < R.length) (hlt:lt2 x (R[k]'(by omega))=true):RdS Q x k ((R.set (k+1) (R[k]'(by omega))).set k x):=by
 obtain ⟨A,B,rfl,hq,hl,hB⟩:=h.ex
 have hne:A≠[]:=by intro e;subst e;simp at hl
 obtain ⟨A',a,rfl⟩:∃ A' a,A=A' ++ [a]:=⟨A.dropLast,A.getLast hne,(List.dropLast_concat_getLast hne).symm⟩
 have hl':A'.length=k:=by simpa using hl
 have hg:((A' ++ [a]) ++ x :: B)[k]'(by omega)=a:=by
  subst hl'
  simp
 rw [hg] at hlt
 refine ⟨A',a :: B,?_,by rw [<- hq];simp,hl',fun b hb=>?_⟩
 . rw [hg]
   subst hl'
   simp only [List.append_assoc,List.singleton_append]
   rw [List.set_append_right _ _ (by omega),show A'.length+1 - A'.length=1 from by omega]
   simp only [List.set_cons_succ,List.set_cons_zero]
   rw [List.set_append_right _ _ (Nat.le_refl _),Nat.sub_self,List.set_cons_zero]
 . rcases List.mem_cons.1 hb with rfl | hb
   . exact hlt
   . exact hB b hb
theorem RdI.put {ends:Int} {l:List Letter} {i k:Nat} {Q R:List Letter} (h:RdI ends l i Q) (hi:i < l.length) (ht:XU ends (l.take i) l[i]=false) (hs:RdS Q l[i] k R) (hk:k<=R.length) (hend:k=0\/∃ h:k - 1 < R.length,0 < k/\lt2 l[i] R[k - 1]=false):RdI ends l (i+1) R:=by
 obtain ⟨A,B,rfl,hq,hl,hB⟩:=hs.ex
 have hid:=h.ids hi ht
 refine ⟨Zhi (by rw [hq];exact h.ord) hB ?_ (by rw [hq];exact hid),fun y=>?_,?_⟩
 . rcases hend with h0 | ⟨h1,h2,h3⟩
   . left;exact List.eq_nil_of_length_eq_zero (by omega)
   . right
     have hne:A≠[]:=by intro e;subst e;simp at hl;omega
     refine ⟨A.dropLast,A.getLast hne,(List.dropLast_concat_getLast hne).symm,?_⟩
     have hg:(A ++ l[i] :: B)[k - 1]'h1=A.getLast hne:=by
      rw [List.getElem_append_left (by omega),List.getLast_eq_getElem]
      congr 1;omega
     rw [<- hg];exact h3
 . rw [Zdp hi,ht,if_neg (by decide)]
   simp only [List.mem_append,List.mem_cons,List.mem_singleton,List.not_mem_nil,or_false]
   rw [<- h.mem,<- hq,List.mem_append]
   constructor
   . rintro (q | q | q)
     . exact .inl (.inl q)
     . exact .inr q
     . exact .inl (.inr q)
   . rintro ((q | q) | q)
     . exact .inl q
     . exact .inr (.inr q)
     . exact .inr (.inl q)
 . have:=h.len
   have e:=congrArg List.length hq
   simp only [List.length_append,List.length_cons] at e ⊢
   omega
theorem RdI.fin {p:Pact} {l:List Letter} {Q:List Letter} (h:RdI p.ends l l.length Q):Q=Xi p l :=
 Zcn h.ord Ziw fun y=>by
  rw [h.mem,List.take_length,Xi,Wi.mem_iff]
end Go.Azalai
