/- Walks and plain laws that lead to the given statement, part 8 of 9. -/
import Derived.Test.YtiigiflofnjilaaGreatQG
import Derived.Test.YtiigiflofnjilaaGreatProg
set_option maxRecDepth 100000
set_option maxHeartbeats 4000000
set_option linter.all false
open Nat renaming reduceAdd->rA,reduceMul->rM,reduceSub->rS,beq_refl->nbr
namespace Go.Azalai
open Go.Sx
theorem ZfH {l:Land} {i:Nat} {v:Int}:W0 l i v=match l.legs[i]? with | some x=>Zj x v | none=>-1:=by
 cases h:l.legs[i]? with
 | none=>rw [List.getElem?_eq_none_iff] at h;exact Zek (.inr (by omega))
 | some x =>
  obtain ⟨hi,hx⟩:=List.getElem?_eq_some_iff.1 h
  rw [ZaE hi,hx]
theorem UB {l:Land} {p:Span} {to till:Int}:∀ {c:List Nat} {been:List Int} {v t:Int},
 Ua l p to till been v t c↔Yo l v (v :: been) (Yv c)=some to/\∃ u,goW true l p v t c=some (to,u)/\u<=till
 | [],been,v,t=>by
  simp only [Ua,Yv,List.map_nil,Yo,Option.some.injEq,goW,Prod.mk.injEq]
  constructor
  . rintro ⟨h1,h2⟩;exact ⟨h1,t,⟨h1,rfl⟩,h2⟩
  . rintro ⟨h1,u,⟨_,rfl⟩,h2⟩;exact ⟨h1,h2⟩
 | i :: c,been,v,t=>by
  simp only [Ua,Yv,List.map_cons,Yo,goW]
  rw [ZfH]
  cases hx:l.legs[i]? with
  | none =>
   constructor
   . rintro ⟨x,hx',_⟩;cases hx'
   . rintro ⟨h1,_⟩;simp at h1
  | some x =>
   simp only
   constructor
   . rintro ⟨y,hy,ho,hr,hn,q⟩
     cases hy
     obtain ⟨q1,q2⟩:=(UB (c:=c)).1 q
     rw [if_neg (by omega),if_neg hn,if_neg (by omega),if_neg (by omega)]
     exact ⟨q1,q2⟩
   . rintro ⟨h1,h2⟩
     split at h1
     . cases h1
     rename_i h3
     split at h1
     . cases h1
     rename_i h4
     rw [if_neg h3] at h2
     split at h2
     . obtain ⟨u,hu,_⟩:=h2;cases hu
     rename_i h5
     exact ⟨x,rfl,by omega,by omega,h4,(UB (c:=c)).2 ⟨h1,h2⟩⟩
theorem ZdR {l:Land} {p:Span} (hg:OkLP l p):∀ {legs:List Int} {v u:Int} {been:List Int},been.Nodup->(∀ b ∈ been,0<=b/\b < l.wells.length)->Yo l v been legs=some u->legs.length+been.length<=l.wells.length
 | [],v,u,been,h1,h2,_=>by have:=Zdq h1 h2;simpa using this
 | i :: r,v,u,been,h1,h2,h=>by
  simp only [Yo] at h
  split at h
  . cases h
  rename_i he
  split at h
  . cases h
  rename_i hn
  obtain ⟨k,x,_,_,hx,_,e⟩:=UJ he
  have hin:=(ZV hg hx (by rw [<- e];exact he)).1
  have:=ZdR hg (List.nodup_cons.2 ⟨hn,h1⟩) (fun b hb=>(List.mem_cons.1 hb).elim (fun q=>by rw [q,e];exact hin) (h2 b)) h
  simp only [List.length_cons] at this ⊢;omega
open Go.Proofs.YtiigiflofnjilaaGreat
theorem ZfJ:∀ {a b:List Nat},Yv a=Yv b->a=b
 | [],[],_=>rfl
 | x :: a,y :: b,h=>by
  simp only [Yv,List.map_cons,List.cons.injEq] at h
  rw [ZfJ (a:=a) (b:=b) h.2,show x=y by omega]
 | [],_ :: _,h=>by simp [Yv] at h
 | _ :: _,[],h=>by simp [Yv] at h
theorem Zyo {s:Season} (h:OkS s) {legs:List Int} {u:Int} (hg:Yo s.land s.start [s.start] legs=some u):legs.length < s.land.wells.length/\legs.length<=24:=by
 have:=ZdR h.lp (legs:=legs) (v:=s.start) (u:=u) (been:=[s.start]) (by simp) (fun b hb=>by simp only [List.mem_singleton] at hb;subst hb;exact h.start) hg
 have hw:=h.land
 simp only [ZS,inR,Bool.and_eq_true,decide_eq_true_eq] at hw
 simp only [List.length_cons,List.length_nil] at this
 omega
theorem Zaw {s:Season} (h:OkS s) {c:List Nat} (hc:c.length<=24):XV s (Yv c)=true↔∃ v u,goW true s.land s.pace s.start s.day c=some (v,u)/\u<=s.till:=by
 have hn:=h.num
 have hst:=h.start
 have key:∀ {ss:List Stop} {at':Int},YE s.land s.pace s.start s.day (Yv c)=(ss,at',0)->(XV s (Yv c)=true↔∃ v u,goW true s.land s.pace s.start s.day c=some (v,u)/\u<=s.till):=fun {ss at'} hw=>by
  obtain ⟨_,ht⟩:=Zcu hw
  have hss:Zz s (Yv c)=ss:=by unfold Zz;rw [hw]
  have hlen:=ht.len
  simp only [Yv,List.length_map] at hlen
  unfold XV
  rw [hss,hw]
  simp only [decide_true,Bool.true_and,Bool.or_eq_true,decide_eq_true_eq]
  by_cases h0:ss.length=0
  . have:c=[]:=List.eq_nil_of_length_eq_zero (by omega)
    subst this
    exact ⟨fun _=>⟨s.start,s.day,rfl,by omega⟩,fun _=>.inl h0⟩
  . obtain ⟨c',h1,h2,h3,_⟩:=ht.at h.lp (Int.le_refl _) (by omega) (ss.length - 1) (ZgX ss) (ZdQ h0)
    have hcc:c'=c:=by
     have e:(Yv c).take (ss.length - 1+1)=Yv c:=List.take_of_length_le (by simp [Yv];omega)
     rw [e] at h2
     exact ZfJ h2.symm
    subst hcc
    constructor
    . rintro (q | q)
      . exact absurd q h0
      . exact ⟨_,_,h3,q⟩
    . rintro ⟨v,u,e,q⟩
      rw [h3] at e
      simp only [Option.some.injEq,Prod.mk.injEq] at e
      exact .inr (by omega)
 constructor
 . intro q
   have q':=q
   simp only [XV,Bool.and_eq_true,decide_eq_true_eq] at q'
   have:YE s.land s.pace s.start s.day (Yv c)=((YE s.land s.pace s.start s.day (Yv c)).1,(YE s.land s.pace s.start s.day (Yv c)).2.1,0):=by
    rw [<- q'.1]
   exact (key this).1 q
 . rintro ⟨v,u,e,q⟩
   obtain ⟨ss,hw⟩:=ZtN h.lp (by omega) (by omega) hst.1 hst.2 hc e
   exact (key hw).2 ⟨v,u,e,q⟩
theorem ZfF {s:Season} {legs:List Int} (h:XV s legs=true):∃ c:List Nat,legs=Yv c:=by
 simp only [XV,Bool.and_eq_true,decide_eq_true_eq] at h
 have hw:YE s.land s.pace s.start s.day legs=((YE s.land s.pace s.start s.day legs).1,(YE s.land s.pace s.start s.day legs).2.1,0):=by rw [<- h.1]
 obtain ⟨_,ht⟩:=Zcu hw
 exact Zly ht
theorem ZcG {k:Bool} {l:Land} {p:Span} {w u to:Int}:∀ {c:List Nat} {v t:Int} {been:List Int},goW k l p v t c=some (w,u)->Yo l v been (Yv c)=some to->w=to
 | [],v,t,been,h,h'=>by
  simp only [goW,Option.some.injEq,Prod.mk.injEq,Yv,List.map_nil,Yo] at h h'
  omega
 | i :: c,v,t,been,h,h'=>by
  simp only [goW,Yv,List.map_cons,Yo] at h h'
  rw [ZfH] at h'
  cases hx:l.legs[i]? with
  | none=>rw [hx] at h;cases h
  | some x =>
   rw [hx] at h h'
   simp only at h h'
   split at h
   . cases h
   rename_i h1
   split at h
   . cases h
   rw [if_neg h1] at h'
   split at h'
   . cases h'
   exact ZcG h h'
theorem Zc0 {s:Season} (h:OkS s) {to:Int} {c:List Nat}:c ∈ Uq s.land s.pace s.start to s.day s.till↔Yo s.land s.start [s.start] (Yv c)=some to/\XV s (Yv c)=true:=by
 have hn:=h.num
 unfold Uq
 rw [Zh2 h.lp (by omega) ZlK.start (by simp) h.start (by omega),UB]
 constructor
 . rintro ⟨h1,u,h2,h3⟩
   have hl:=(Zyo h h1).2
   exact ⟨h1,(Zaw h (by simpa [Yv] using hl)).2 ⟨_,_,h2,h3⟩⟩
 . rintro ⟨h1,h2⟩
   have hl:=(Zyo h h1).2
   obtain ⟨v,u,h3,h4⟩:=(Zaw h (by simpa [Yv] using hl)).1 h2
   refine ⟨h1,u,?_,h4⟩
   rw [ZcG h3 h1] at h3;exact h3
theorem Zhq {b:Breed} {c:Camel} (hb:ZA b=true) (hc:Zy b c=true):(ZeR b c).lo<=b.strong.lo:=by
 have h1:=Cm.breed_bd hb
 have h2:=Cm.fit_bd hb hc
 have e:ZeR b c=Zwh b c:=by unfold ZeR;rw [if_pos (Cm.errC_0.2 ⟨hb,hc⟩)]
 rw [e]
 show (b.strong.lo * (Zdf b c).lo).tdiv 1000<=_
 have h3:b.strong.lo * (Zdf b c).lo<=b.strong.lo * 1000:=Int.mul_le_mul_of_nonneg_left h2.2.1 (by omega)
 have h4:0<=b.strong.lo * (Zdf b c).lo:=Int.mul_nonneg (by omega) h2.1
 rw [Int.tdiv_eq_ediv_of_nonneg h4]
 omega
theorem Zmw {s:Season} (h:OkS s) {i:Nat} {x:Leg} (hx:s.land.legs[i]? = some x):1<=(Xp s.land i s.pace).1.hi:=by
 obtain ⟨hi,hx'⟩:=List.getElem?_eq_some_iff.1 hx
 have:=(ZjM (k:=true) (h.lp.leg hx) h.pace).1
 unfold Xp
 rw [if_neg (by simp [Zac,h.land,h.pace]),if_neg (by simp [inR];omega)]
 simp only [Int.toNat_natCast,hx]
 exact this
theorem ZlU {s:Season} (h:OkS s) {x:Scene} {k:Int} {c:List Nat} (hs:XV s (Yv c)=true) (hg:(goF s x k (Zz s (Yv c))).1=0):k * s.slab<=s.breed.strong.lo:=by
 have hcar:=Zhq h.beast.1 h.beast.2
 have hl:=Zhv hs
 unfold goF at hg
 split at hg
 . simp only at hg
   split at hg
   . simp at hg
   . omega
 . rename_i hne
   cases hst:Zz s (Yv c) with
   | nil=>exact absurd hst hne
   | cons st r =>
    rw [hst] at hg hl
    simp only [goG] at hg
    split at hg
    . rename_i hb;exact absurd hg hb
    . rename_i hb
      simp only [ne_eq,Decidable.not_not] at hb
      cases c with
      | nil=>simp [Yv] at hl
      | cons i c =>
       simp only [List.map_cons,Yv,List.cons.injEq] at hl
       have hx:∃ y,s.land.legs[i]? = some y:=by
        simp only [XV,Bool.and_eq_true,decide_eq_true_eq] at hs
        have hw:YE s.land s.pace s.start s.day (Yv (i :: c))=((YE s.land s.pace s.start s.day (Yv (i :: c))).1,(YE s.land s.pace s.start s.day (Yv (i :: c))).2.1,0):=by rw [<- hs.1]
        obtain ⟨_,ht⟩:=Zcu hw
        have e:(YE s.land s.pace s.start s.day (Yv (i :: c))).1=st :: r:=hst
        rw [e] at ht
        obtain ⟨k',y,hk,hy,_⟩:=ht
        exact ⟨y,by rw [<- hy];congr 1;have:(i:Int)=k':=hk;omega⟩
       obtain ⟨y,hy⟩:=hx
       have hd:=Zmw h hy
       rw [hl.1] at hb
       unfold Xy at hb
       obtain ⟨n,hn⟩:∃ n,(Xp s.land i s.pace).1.hi.toNat=n+1:=⟨(Xp s.land i s.pace).1.hi.toNat - 1,by omega⟩
       rw [hn,U5] at hb
       split at hb
       . simp at hb
       . rename_i hq
         have:(Zcl s x k).load=k * s.slab:=rfl
         omega
theorem Zfw {s:Season} {x:Scene} {k:Int}:∀ {l:List Span} {i:Nat} {e:Int},e<=ZaR s x k l i e/\∀ (j:Nat) (r:Span),l[j]? = some r->r.hi<=s.till->k * ((x.prices[i+j]?).getD 0 - s.cost)<=ZaR s x k l i e
 | [],i,e=>⟨Int.le_refl _,fun j r h=>by simp at h⟩
 | r :: l,i,e=>by
  rw [ZaR]
  obtain ⟨h1,h2⟩:=Zfw (s:=s) (x:=x) (k:=k) (l:=l) (i:=i+1) (e:=if r.hi<=s.till then max e (k * ((x.prices[i]?).getD 0 - s.cost)) else e)
  refine ⟨Int.le_trans ?_ h1,fun j q hj hq=>?_⟩
  . split<;>omega
  . cases j with
    | zero =>
     simp only [List.getElem?_cons_zero,Option.some.injEq] at hj
     subst hj
     rw [if_pos hq] at h1 ⊢
     simp only [Nat.add_zero];omega
    | succ j =>
     simp only [List.getElem?_cons_succ] at hj
     have:=h2 j q hj hq
     rw [show i+(j+1)=i+1+j by omega];exact this
theorem Zsn {s:Season} (h:OkS s) {x:Scene} {a k n pc each:Int} (ha:0<=a/\a<=s.herd) (hk:0<=k) (hkn:a≠0->k<=n) (hs:s.sale<=each) (hp:n * pc<=each):a * k * pc+(s.herd - a) * s.sale<=s.herd * each:=by
 have hn:=h.num
 have e1:(s.herd - a) * s.sale<=(s.herd - a) * each:=Int.mul_le_mul_of_nonneg_left hs (by omega)
 have e2:a * k * pc<=a * each:=by
  by_cases h0:a=0
  . rw [h0];simp
  rw [Int.mul_assoc]
  refine Int.mul_le_mul_of_nonneg_left ?_ ha.1
  by_cases hpc:0<=pc
  . have:=Int.mul_le_mul_of_nonneg_right (hkn h0) hpc;omega
  . have:k * pc<=0:=Int.mul_nonpos_of_nonneg_of_nonpos hk (by omega)
    omega
 have e3:(s.herd - a) * each=s.herd * each - a * each:=Int.sub_mul ..
 omega
theorem Zge {l:Land} {p:Span} {s day:Int} {i:Nat} (h:i < l.wells.length):(YL l p s day)[i]? = some ⟨YI false l p s day i,YI true l p s day i⟩:=by
 simp [YL,XS,h]
theorem Za6 {s:Season} (h:OkS s) {p:Plan} (hp:YB s p=true) (hf:∀ x ∈ s.scenes,(Yq s p x).1=0) {to:Int} (hto:Yo s.land s.start [s.start] p.legs=some to):U0 s p to<=Um s:=by
 have hn:=h.num
 have hst:=h.start
 have hsc:=h.scs
 obtain ⟨_,hpl⟩:=Xm hp
 unfold Um U0
 have hm:=ZfT (l:=s.scenes.map fun x=>s.herd * ZaR s x (min 12 (s.breed.strong.lo.tdiv s.slab)) (YL s.land s.pace s.start s.day) 0 s.sale) (by simp;intro e;rw [e] at hsc;simp at hsc)
 obtain ⟨x,hx,e⟩:=List.mem_map.1 hm
 rw [<- e]
 refine Int.le_trans (Zkj (List.mem_map.2 ⟨x,hx,rfl⟩)) ?_
 have hfx:=hf x hx
 have hsure:XV s p.legs=true:=by
  unfold Yq at hfx
  split at hfx
  . simp at hfx
  . rename_i q;simpa using q
 obtain ⟨c,hc⟩:=ZfF hsure
 rw [hc] at hto hsure
 have hl:=(Zyo h hto).2
 obtain ⟨v,u,hgo,hu⟩:=(Zaw h (by simpa [Yv] using hl)).1 hsure
 have hv:=ZcG hgo hto
 subst hv
 have hin:=VY h.lp hst hto
 obtain ⟨m,hm⟩:∃ m:Nat,v=m:=⟨v.toNat,by omega⟩
 subst hm
 have hr:=Zge (l:=s.land) (p:=s.pace) (s:=s.start) (day:=s.day) (i:=m) (by omega)
 have hrle:=Uo h.lp hgo (by omega) (by omega) hst.1 hst.2
 obtain ⟨q1,q2⟩:=Zfw (s:=s) (x:=x) (k:=min 12 (s.breed.strong.lo.tdiv s.slab)) (l:=YL s.land s.pace s.start s.day) (i:=0) (e:=s.sale)
 have q3:=q2 m _ hr (by simp only;omega)
 rw [Nat.zero_add] at q3
 show p.animals * p.slabs * ((x.prices[((m:Int)).toNat]?).getD 0 - s.cost)+(s.herd - p.animals) * s.sale<=_
 rw [Int.toNat_natCast]
 refine Zsn (x:=x) h ⟨hpl.1,hpl.2.1⟩ hpl.2.2.1 (fun h0=>?_) q1 q3
 have hb:=Cm.breed_bd h.beast.1
 have hgF:(goF s x p.slabs (Zz s (Yv c))).1=0:=by
  have:(Yq s ⟨p.legs,p.animals,p.slabs⟩ x).1=0:=hfx
  rw [ZbA h0,hc] at this
  exact this.2.1
 have hload:=ZlU h hsure hgF
 have:p.slabs<=s.breed.strong.lo.tdiv s.slab:=(ZeQ (by omega) (by omega)).2 hload
 omega
theorem Zpl {l:Land} {well day:Int}:0<=(Wf l well [] day).1.lo:=by
 unfold Wf
 split
 . exact Int.le_refl _
 rename_i h1
 split
 . exact Int.le_refl _
 rename_i h2
 split
 . exact Int.le_refl _
 split
 . exact Int.le_refl _
 split
 . rename_i w hw
   simp only [Bool.not_eq_false,ZS,Bool.and_eq_true,List.all_eq_true,inR,decide_eq_true_eq] at h1 h2
   have hwell:=h1.1.2 w (List.mem_of_getElem? hw)
   simp only [YQ,Ya,inR,Bool.and_eq_true,decide_eq_true_eq] at hwell
   have:0<=(day - 1 - -1) * w.yld.lo:=Int.mul_nonneg (by omega) (by omega)
   simp only [VC,X1]
   omega
 . exact Int.le_refl _
theorem ZlB {s:Season} {x:Scene} (st:Stop):0<=ZaL s x st:=Zpl
theorem Ze0 {c:List Nat} {sl w:Int} {b:Bst} (h:ZW ⟨[],0,0,w⟩ b=false) (hs:0<=sl):ZW ⟨c,0,sl,w⟩ b=false:=by
 simp only [ZW] at h ⊢
 by_cases e1:w=b.w
 . rw [if_neg (by simpa using e1)] at h ⊢
   by_cases e2:0=b.an
   . rw [if_neg (by simpa using e2)] at h ⊢
     by_cases e3:0=b.sl
     . rw [if_neg (by simpa using e3)] at h
       by_cases e4:sl=b.sl
       . rw [if_neg (by simpa using e4)]
         by_cases e5:([]:List Nat).length=b.legs.length
         . have hb:b.legs=[]:=List.eq_nil_of_length_eq_zero (by simpa using e5.symm)
           rw [hb]
           cases c with
           | nil=>simp [WA]
           | cons x r=>simp
         . rw [if_pos e5,decide_eq_false_iff_not] at h
           simp only [List.length_nil] at h e5
           omega
       . rw [if_pos e4,decide_eq_false_iff_not];omega
     . rw [if_pos e3,decide_eq_false_iff_not] at h
       rw [if_pos (by omega),decide_eq_false_iff_not];omega
   . rw [if_pos e2,decide_eq_false_iff_not] at h
     rw [if_pos e2,decide_eq_false_iff_not];exact h
 . rw [if_pos (by simpa using e1)] at h ⊢;exact h
theorem ZbL {s:Season} {p:Plan} (h:Zw s=true) (hp:YB s p=true) (hf:∀ x ∈ s.scenes,(Yq s p x).1=0) {to:Int} (hto:Yo s.land s.start [s.start] p.legs=some to):Z3 s p=(U0 s p to,0):=by
 obtain ⟨h0,h1⟩:=Ut h hp
 unfold Z3
 rw [if_neg (by simp [h0]),if_neg (by simp [h1.2 hf]),hto];rfl
theorem ZcJ {s:Season} {p:Plan} {to:Int} (hto:Yo s.land s.start [s.start] p.legs=some to) (ha:0<=p.animals/\p.animals<=s.herd) (hs:0<=p.slabs/\p.slabs<=12):YB s p=true:=by
 simp only [YB,hto,Option.isSome_some,inR,Bool.true_and,Bool.and_eq_true,decide_eq_true_eq];omega
theorem ZmT {s:Season} (h:OkS s):XV s []=true:=by
 have hn:=h.num
 exact (Zaw h (c:=[]) (by simp)).2 ⟨_,_,rfl,by omega⟩
theorem ZfK {s:Season} (h:OkS s) {a:List Int} {k m:Int} (hm:1<=m):m<=Zbc s a k↔m<=s.herd/\∀ x ∈ s.scenes,(Yq s ⟨a,m,k⟩ x).1=0 :=
 Zfb hm h.beast.1 h.beast.2 (fun _ _=>ZlB)
theorem Zi0 {s:Season} (h:OkS s) {a:List Int} {k:Int}:0<=Zbc s a k/\Zbc s a k<=s.herd:=ZiF (by have:=h.num;omega) (fun _ _=>ZlB)
theorem Zex {s:Season} (h:OkS s) {g:Nat} {b:Bst} (hb:ZwM s g b):YB s b.plan=true/\(∀ x ∈ s.scenes,(Yq s b.plan x).1=0)/\Z3 s b.plan=(b.w,0):=by
 obtain ⟨a,ha,k,hk,m,h1,h2,rfl⟩:=hb
 have hfb:=Zi0 h (a:=Yv a) (k:=k)
 have hm:(m:Int)<=Zbc s (Yv a) k:=by omega
 obtain ⟨q1,q2⟩:=(ZfK h (m:=m) (by omega)).1 hm
 obtain ⟨hto,_⟩:=(Zc0 h).1 ha
 rw [List.mem_range] at hk
 have hp:YB s (YU s g a k m).plan=true:=ZcJ (to:=g) hto ⟨by simp [Bst.plan,YU],q1⟩ ⟨by simp [Bst.plan,YU],by simp only [Bst.plan,YU];omega⟩
 exact ⟨hp,q2,ZbL h.ok hp q2 hto⟩
theorem Zmn {s:Season} (h:OkS s) {b:Bst} (hb:Zg3 s=some b) :
 YB s b.plan=true/\Z3 s b.plan=(b.w,0)/\b.w<=Um s/\s.herd * s.sale<=b.w /\
  ∀ (p:Plan),YB s p=true->(Z3 s p).2=0->∃ c:List Nat,p.legs=Yv c/\ZW ⟨c,p.animals,p.slabs,(Z3 s p).1⟩ b=false:=by
 have hn:=h.num
 obtain ⟨ht,_⟩:=ZdW (Top.zero (b0:=⟨[],0,0,s.herd * s.sale⟩)) hb
 have hzero:∀ p:Plan,p.animals=0->YB s p=true->(Z3 s p).2=0->(Z3 s p).1=s.herd * s.sale:=fun p h0 hp he=>(Zgm h.ok hp he).2.2 h0
 have hg0:Yo s.land s.start [s.start] []=some s.start:=rfl
 have hi:YB s ⟨[],0,0⟩=true/\(∀ x ∈ s.scenes,(Yq s ⟨[],0,0⟩ x).1=0)/\Z3 s ⟨[],0,0⟩=(s.herd * s.sale,0):=by
  have hp:YB s ⟨[],0,0⟩=true:=ZcJ hg0 ⟨Int.le_refl _,by simp only;omega⟩ (by simp)
  have hf:∀ x ∈ s.scenes,(Yq s ⟨[],0,0⟩ x).1=0:=fun x _=>by
   unfold Yq;rw [if_neg (by simp [ZmT h]),if_pos rfl]
  have he:=ZbL h.ok hp hf hg0
  refine ⟨hp,hf,?_⟩
  have:=hzero ⟨[],0,0⟩ rfl hp (by rw [he])
  rw [he] at this ⊢
  simp only at this
  rw [this]
 have hall:YB s b.plan=true/\(∀ x ∈ s.scenes,(Yq s b.plan x).1=0)/\Z3 s b.plan=(b.w,0):=by
  rcases ht.is with rfl | q | ⟨g,_,q⟩
  . exact hi
  . exact q.elim
  . exact Zex h q
 obtain ⟨h1,h2,h3⟩:=hall
 obtain ⟨to,hto⟩:=(Xm h1).1
 refine ⟨h1,h3,?_,?_,fun p hp he=>?_⟩
 . have:=Za6 h h1 h2 hto
   have e:=ZbL h.ok h1 h2 hto
   rw [h3] at e
   simp only [Prod.mk.injEq,and_true] at e
   omega
 . have:=ht.init
   simp only [ZW] at this
   split at this
   . rw [decide_eq_false_iff_not] at this;omega
   . rename_i q;simp only [ne_eq,Decidable.not_not] at q;omega
 . obtain ⟨hf,hw⟩:=Uw h.ok hp he
   obtain ⟨⟨to,hto⟩,ha0,ha1,hs0,hs1⟩:=Xm hp
   have hsc:=h.scs
   have hx:s.scenes[0] ∈ s.scenes:=List.getElem_mem (by omega)
   have hsure:XV s p.legs=true:=by
    have:=hf _ hx
    unfold Yq at this
    split at this
    . simp at this
    . rename_i q;simpa using q
   obtain ⟨c,hc⟩:=ZfF hsure
   refine ⟨c,hc,?_⟩
   by_cases h0:p.animals=0
   . rw [h0,hzero p h0 hp he]
     exact Ze0 ht.init hs0
   . refine ht.all _ (.inr ?_)
     have hin:=VY h.lp h.start hto
     obtain ⟨g,hg⟩:∃ g:Nat,to=g:=⟨to.toNat,by omega⟩
     obtain ⟨k,hk⟩:∃ k:Nat,p.slabs=k:=⟨p.slabs.toNat,by omega⟩
     obtain ⟨m,hm⟩:∃ m:Nat,p.animals=m:=⟨p.animals.toNat,by omega⟩
     have hpe:p=⟨Yv c,m,k⟩:=by rw [<- hc,<- hm,<- hk]
     refine ⟨g,List.mem_range.2 (by omega),c,(Zc0 h).2 ⟨by rw [<- hc,hto,hg],by rw [<- hc];exact hsure⟩,k,List.mem_range.2 (by omega),m,by omega,?_,?_⟩
     . have:=(ZfK h (a:=Yv c) (k:=k) (m:=m) (by omega)).2 ⟨by omega,fun x hx=>by rw [<- hpe];exact hf x hx⟩
       omega
     . rw [hw,hto]
       simp only [YU,Option.getD_some,hg,hk,hm]
       rw [hpe]
end Go.Azalai
namespace Go.Proofs.YtiigiflofnjilaaGreat
open Go Go.Sx
def c64:SC:=(.seq (.reg [
 o1 2 (.box (.t 0) 0 37),
 o1 4 (.alloc [.int .i64 0,.int .i64 0,.int .i64 0,.int .i64 0] 142)])
 (.seq (.reg [
 m1 5 1,
 o1 6 (.addo (.t 2) 1),
 o1 7 (.ld (.t 6) 1 false),
 o1 8 (.un .neg (.t 7)),
 o1 9 (.addo (.t 2) 2),
 o1 10 (.ld (.t 9) 1 false),
 o1 11 (.un .neg (.t 10)),
 o1 12 (.addo (.t 2) 0),
 o1 13 (.ld (.t 12) 1 false),
 o1 14 (.len (.t 13)),
 o1 15 (.un .neg (.t 14)),
 o1 16 (.build [.int .i64 0,.int .i64 0,.int .i64 0,.int .i64 0] [(0,1,.t 5),(1,1,.t 8),(2,1,.t 11),(3,1,.t 15)]),
 ⟨none,.st (.t 4) (.t 16) 4,none,[]⟩])
 .ret))
def r64:List RV:=[.cell 4 4 true]
theorem t64:Qt1 Tryz.prog 64 c64 r64 17:=Z6 Tryz.func64 rfl (by kernel_rfl) (by kernel_rfl) (by kernel_rfl) (by kernel_rfl)
def c67:SC:=(.seq (.reg [
 o1 4 (.box (.t 0) 0 37),
 o1 5 (.box (.t 1) 0 142),
 o1 6 (.box (.t 2) 0 37),
 o1 7 (.box (.t 3) 0 142),
 o1 8 (.mv (.c (.bool false)))])
 (.seq (.seq (.reg [
 o1 10 (.ld (.t 5) 4 true),
 o1 11 (.ld (.t 7) 4 true),
 o1 12 (.eqs false true [1,1,1,1] (.t 10) (.t 11))])
 (.cond (.t 12)
 (.seq (.reg [
  o1 13 (.addo (.t 4) 0),
  o1 14 (.ld (.t 13) 1 false),
  o1 15 (.addo (.t 6) 0),
  o1 16 (.ld (.t 15) 1 false),
  o1 17 (.call 114 [.t 14,.t 16]),
  o1 18 (.bin .lss (.t 17) (.c (.int .i64 0))),
  m1 8 18])
  .ret)
 .skip))
 (.seq (.seq (.reg [
 o1 19 (.mv (.c (.int .i64 0)))])
 (.block 0 (.loop (.seq (.reg [
  o1 20 (.bin .lss (.t 19) (.c (.int .i64 4)))])
  (.seq (.cond (.t 20)
  .skip
  (.exit 0))
  (.seq (.block 1 (.seq (.reg [
   m1 21 19,
   m1 9 21])
   (.seq (.regd [0,1,2,3,4,5,6] [
   .op (m1 22 9),
   .op ⟨some 23,.ixa (.t 5) (.t 22) 4 1,none,[0]⟩,
   .op ⟨some 24,.ld (.t 23) 1 false,none,[1]⟩,
   .op (m1 25 9),
   .op ⟨some 26,.ixa (.t 7) (.t 25) 4 1,none,[3]⟩,
   .op ⟨some 27,.ld (.t 26) 1 false,none,[4]⟩,
   .op ⟨some 28,.bin .neq (.t 24) (.t 27),none,[2,5]⟩] 0 0 [
])
 (.cond (.t 28)
 (.seq (.regd [0,1,2,3,4,5,6,7] [
  .op (m1 29 9),
  .op ⟨some 30,.ixa (.t 5) (.t 29) 4 1,none,[0]⟩,
  .op ⟨some 31,.ld (.t 30) 1 false,none,[1]⟩,
  .op (m1 32 9),
  .op ⟨some 33,.ixa (.t 7) (.t 32) 4 1,none,[3]⟩,
  .op ⟨some 34,.ld (.t 33) 1 false,none,[4]⟩,
  .op ⟨some 35,.bin .gtr (.t 31) (.t 34),none,[2,5]⟩,
  .op ⟨some 8,.mv (.t 35),none,[0,1,2,3,4,5,6]⟩] 0 0 [
])
 .ret)
 .skip))))
 (.reg [
 o1 36 (.bin .add (.t 19) (.c (.int .i64 1))),
 m1 19 36])))))))
 (.seq (.reg [
 o1 8 (.mv (.c (.bool false)))])
 .ret))))
def r67:List RV:=[.tmp 8]
theorem t67:Qt1 Tryz.prog 67 c67 r67 37:=Z6 Tryz.func67 rfl (by kernel_rfl) (by kernel_rfl) (by kernel_rfl) (by kernel_rfl)
def c27:SC:=(.seq (.reg [
 o1 1 (.box (.t 0) 0 34),
 o1 2 (.mv (.c (.int .i64 0))),
 o1 3 (.mv (.c (.int .i64 0)))])
 (.seq (.seq (.reg [
 o1 14 (.ld (.t 1) 37 true),
 o1 15 (.call 16 [.t 14]),
 m1 4 15])
 (.seq (.reg [
 m1 16 4,
 o1 17 (.bin .neq (.t 16) (.c (.int .i64 0)))])
 (.cond (.t 17)
 (.seq (.reg [
  m1 18 4,
  o1 2 (.mv (.c (.int .i64 0))),
  m1 3 18])
  .ret)
 .skip)))
 (.seq (.reg [
 o1 20 (.addo (.t 1) 0),
 o1 21 (.ld (.t 20) 2 true),
 o1 22 (.addo (.t 1) 33),
 o1 23 (.ld (.t 22) 1 false),
 o1 24 (.addo (.t 1) 34),
 o1 25 (.ld (.t 24) 1 false),
 o1 26 (.addo (.t 1) 2),
 o1 27 (.ld (.t 26) 2 true),
 o1 28 (.call 52 [.t 21,.t 23,.t 25,.t 27]),
 m1 19 28,
 o1 29 (.ext (.t 19) 0),
 o1 30 (.ext (.t 19) 1),
 m1 5 29,
 m1 6 30])
 (.seq (.reg [
 o1 31 (.addo (.t 1) 4),
 o1 32 (.addo (.t 31) 15),
 o1 33 (.addo (.t 32) 0),
 o1 34 (.ld (.t 33) 1 false),
 o1 35 (.addo (.t 1) 30),
 o1 36 (.ld (.t 35) 1 false),
 o1 37 (.div .quo (.t 34) (.t 36)),
 o1 38 (.mm false [.c (.int .i64 12),.t 37]),
 m1 7 38])
 (.seq (.reg [
 o1 8 (.mv (.c (.slice none 0 0)))])
 (.seq (.seq (.reg [
 o1 39 (.addo (.t 1) 36),
 o1 40 (.ld (.t 39) 1 false),
 o1 41 (.len (.t 40)),
 o1 42 (.mv (.c (.int .i64 0)))])
 (.block 0 (.loop (.seq (.reg [
  o1 43 (.bin .lss (.t 42) (.t 41))])
  (.seq (.cond (.t 43)
  .skip
  (.exit 0))
  (.seq (.block 1 (.seq (.reg [
   o1 44 (.ixs (.t 40) (.t 42) 6),
   o1 45 (.ld (.t 44) 6 true),
   o1 10 (.alloc zv5 72),
   ⟨none,.st (.t 10) (.t 45) 6,none,[]⟩])
   (.seq (.reg [
   o1 46 (.addo (.t 1) 32),
   o1 47 (.ld (.t 46) 1 false),
   m1 11 47])
   (.seq (.seq (.reg [
   m1 48 5,
   o1 49 (.len (.t 48)),
   o1 50 (.mv (.c (.int .i64 0)))])
   (.block 2 (.loop (.seq (.reg [
    o1 51 (.bin .lss (.t 50) (.t 49))])
    (.seq (.cond (.t 51)
    .skip
    (.exit 2))
    (.seq (.block 3 (.seq (.reg [
     m1 52 50,
     o1 53 (.ixs (.t 48) (.t 50) 2),
     o1 54 (.ld (.t 53) 2 true),
     o1 13 (.alloc [.int .i64 0,.int .i64 0] 27),
     m1 12 52,
     ⟨none,.st (.t 13) (.t 54) 2,none,[]⟩])
     (.seq (.reg [
     o1 55 (.addo (.t 13) 1),
     o1 56 (.ld (.t 55) 1 false),
     o1 57 (.addo (.t 1) 35),
     o1 58 (.ld (.t 57) 1 false),
     o1 59 (.bin .leq (.t 56) (.t 58))])
     (.cond (.t 59)
     (.regd [0,1,2,3,4,5,6,7,8,9,10,11,12] [
      .op (m1 60 11),
      .op (m1 61 7),
      .op (o1 62 (.addo (.t 10) 5)),
      .op ⟨some 63,.ld (.t 62) 1 false,none,[2]⟩,
      .op (m1 64 12),
      .op ⟨some 65,.ixs (.t 63) (.t 64) 1,none,[3,4]⟩,
      .op ⟨some 66,.ld (.t 65) 1 false,none,[5]⟩,
      .op (o1 67 (.addo (.t 1) 31)),
      .op ⟨some 68,.ld (.t 67) 1 false,none,[7]⟩,
      .op ⟨some 69,.bin .sub (.t 66) (.t 68),none,[6,8]⟩,
      .op ⟨some 70,.bin .mul (.t 61) (.t 69),none,[1,9]⟩,
      .op ⟨some 71,.mm true [.t 60,.t 70],none,[0,10]⟩] 0 0 [
      ⟨some 11,.mv (.t 71),none,[0,1,2,3,4,5,6,7,8,9,10,11]⟩])
     .skip))))
    (.reg [
    o1 72 (.bin .add (.t 50) (.c (.int .i64 1))),
    m1 50 72])))))))
   (.gh (.reg [
   m1 73 8,
   o1 74 (.addo (.t 1) 28),
   o1 75 (.ld (.t 74) 1 false),
   m1 76 11,
   o1 77 (.bin .mul (.t 75) (.t 76)),
   o1 78 (.bsl 1 3 [.t 77]),
   o1 79 (.appm 1 8 3 (.t 73) (.t 78)),
   m1 8 79]))))))
  (.gh (.reg [
  o1 80 (.bin .add (.t 42) (.c (.int .i64 1))),
  m1 42 80]))))))))
 (.gh (.seq (.reg [
 m1 81 8,
 o1 82 (.call 71 [.t 81]),
 m1 2 82,
 o1 3 (.mv (.c (.int .i64 0)))])
 .ret))))))))
def r27:List RV:=[.tmp 2,.tmp 3]
theorem t27:Qt1 Tryz.prog 27 c27 r27 83:=Z6 Tryz.func27 rfl (by kernel_rfl) (by kernel_rfl) (by kernel_rfl) (by kernel_rfl)
def c25:SC:=(.seq (.reg [
 o1 1 (.box (.t 0) 0 34),
 o1 2 (.alloc [.slice none 0 0,.int .i64 0,.int .i64 0] 37),
 o1 3 (.mv (.c (.int .i64 0))),
 o1 4 (.mv (.c (.int .i64 0)))])
 (.seq (.seq (.reg [
 o1 17 (.ld (.t 1) 37 true),
 o1 18 (.call 16 [.t 17]),
 m1 5 18])
 (.seq (.reg [
 m1 19 5,
 o1 20 (.bin .neq (.t 19) (.c (.int .i64 0)))])
 (.cond (.t 20)
 (.seq (.reg [
  o1 21 (.build [.slice none 0 0,.int .i64 0,.int .i64 0] []),
  m1 22 5,
  ⟨none,.st (.t 2) (.t 21) 3,none,[]⟩,
  o1 3 (.mv (.c (.int .i64 0))),
  m1 4 22])
  .ret)
 .skip)))
 (.seq (.reg [
 o1 23 (.addo (.t 1) 28),
 o1 24 (.ld (.t 23) 1 false),
 o1 25 (.addo (.t 1) 32),
 o1 26 (.ld (.t 25) 1 false),
 o1 27 (.bin .mul (.t 24) (.t 26)),
 m1 3 27])
 (.seq (.reg [
 o1 28 (.ld (.t 2) 3 true),
 m1 29 3,
 o1 30 (.call 64 [.t 28,.t 29]),
 o1 6 (.alloc [.int .i64 0,.int .i64 0,.int .i64 0,.int .i64 0] 142),
 ⟨none,.st (.t 6) (.t 30) 4,none,[]⟩])
 (.seq (.seq (.reg [
 o1 31 (.addo (.t 1) 0),
 o1 32 (.addo (.t 31) 0),
 o1 33 (.ld (.t 32) 1 false),
 o1 34 (.len (.t 33)),
 o1 35 (.mv (.c (.int .i64 0)))])
 (.block 0 (.loop (.seq (.reg [
  o1 36 (.bin .lss (.t 35) (.t 34))])
  (.seq (.cond (.t 36)
  .skip
  (.exit 0))
  (.seq (.block 1 (.seq (.reg [
   m1 37 35,
   m1 7 37])
   (.seq (.reg [
   o1 39 (.addo (.t 1) 0),
   o1 40 (.ld (.t 39) 2 true),
   o1 41 (.addo (.t 1) 33),
   o1 42 (.ld (.t 41) 1 false),
   m1 43 7,
   o1 44 (.addo (.t 1) 34),
   o1 45 (.ld (.t 44) 1 false),
   o1 46 (.addo (.t 1) 35),
   o1 47 (.ld (.t 46) 1 false),
   o1 48 (.addo (.t 1) 2),
   o1 49 (.ld (.t 48) 2 true),
   o1 50 (.call 65 [.t 40,.t 42,.t 43,.t 45,.t 47,.t 49]),
   m1 38 50,
   o1 51 (.ext (.t 38) 0),
   o1 52 (.ext (.t 38) 1),
   m1 8 51,
   m1 9 52])
   (.seq (.seq (.reg [
   m1 53 9,
   o1 54 (.bin .neq (.t 53) (.c (.int .i64 0)))])
   (.cond (.t 54)
   (.seq (.reg [
    o1 55 (.build [.slice none 0 0,.int .i64 0,.int .i64 0] []),
    ⟨none,.st (.t 2) (.t 55) 3,none,[]⟩,
    o1 3 (.mv (.c (.int .i64 0))),
    o1 4 (.mv (.c (.int .i64 9)))])
    .ret)
   .skip))
   (.seq (.reg [
   m1 56 8,
   o1 57 (.len (.t 56)),
   o1 58 (.mv (.c (.int .i64 0)))])
   (.block 2 (.loop (.seq (.reg [
    o1 59 (.bin .lss (.t 58) (.t 57))])
    (.seq (.cond (.t 59)
    .skip
    (.exit 2))
    (.seq (.block 3 (.seq (.reg [
     o1 60 (.ixs (.t 56) (.t 58) 1),
     o1 61 (.ld (.t 60) 1 false),
     m1 11 61])
     (.scope (.seq (.label 0)
     (.seq (.reg [
     o1 62 (.mv (.c (.int .i64 0)))])
     (.block 4 (.loop (.seq (.reg [
      o1 63 (.bin .lss (.t 62) (.c (.int .i64 13)))])
      (.seq (.cond (.t 63)
      .skip
      (.exit 4))
      (.seq (.block 5 (.seq (.reg [
       m1 64 62,
       m1 12 64])
       (.seq (.reg [
       o1 65 (.ld (.t 1) 37 true),
       m1 66 11,
       m1 67 12,
       o1 68 (.call 66 [.t 65,.t 66,.t 67]),
       m1 13 68])
       (.block 6 (.loop (.seq (.block 7 (.seq (.seq (.reg [
        m1 71 13,
        o1 72 (.bin .eql (.t 71) (.c (.int .i64 0)))])
        (.cond (.t 72)
        (.exit 5)
        .skip))
        (.seq (.reg [
        m1 73 11,
        m1 74 13,
        m1 75 12,
        o1 76 (.build [.slice none 0 0,.int .i64 0,.int .i64 0] [(0,1,.t 73),(1,1,.t 74),(2,1,.t 75)]),
        o1 14 (.alloc [.slice none 0 0,.int .i64 0,.int .i64 0] 37),
        ⟨none,.st (.t 14) (.t 76) 3,none,[]⟩])
        (.seq (.reg [
        o1 77 (.ld (.t 1) 37 true),
        o1 78 (.ld (.t 14) 3 true),
        m1 79 7,
        o1 80 (.call 59 [.t 77,.t 78,.t 79]),
        m1 15 80])
        (.seq (.reg [
        o1 81 (.ld (.t 14) 3 true),
        m1 82 15,
        o1 83 (.call 64 [.t 81,.t 82]),
        o1 16 (.alloc [.int .i64 0,.int .i64 0,.int .i64 0,.int .i64 0] 142),
        ⟨none,.st (.t 16) (.t 83) 4,none,[]⟩])
        (.seq (.reg [
        o1 84 (.ld (.t 14) 3 true),
        o1 85 (.ld (.t 16) 4 true),
        o1 86 (.ld (.t 2) 3 true),
        o1 87 (.ld (.t 6) 4 true),
        o1 88 (.call 67 [.t 84,.t 85,.t 86,.t 87])])
        (.cond (.t 88)
        (.regd [0,1,2,3,4,5] [
         .op (o1 89 (.ld (.t 14) 3 true)),
         .hide (.t 2),
         .op (m1 90 15),
         .op (o1 91 (.ld (.t 16) 4 true))] 0 3 [
         ⟨none,.st (.t 2) (.t 89) 3,none,[0]⟩,
         ⟨some 3,.mv (.t 90),none,[0,1,3]⟩,
         ⟨none,.st (.t 6) (.t 91) 4,none,[0,1,2,3,4]⟩])
        .skip)))))))
        (.reg [
        m1 69 13,
        o1 70 (.bin .sub (.t 69) (.c (.int .i64 1))),
        m1 13 70])))))))
      (.reg [
      o1 92 (.bin .add (.t 62) (.c (.int .i64 1))),
      m1 62 92])))))))))))
    (.reg [
    o1 93 (.bin .add (.t 58) (.c (.int .i64 1))),
    m1 58 93])))))))))))
  (.reg [
  o1 94 (.bin .add (.t 35) (.c (.int .i64 1))),
  m1 35 94])))))))
 (.seq (.reg [
 o1 95 (.ld (.t 2) 3 true),
 m1 96 3,
 ⟨none,.st (.t 2) (.t 95) 3,none,[]⟩,
 m1 3 96,
 o1 4 (.mv (.c (.int .i64 0)))])
 .ret))))))
def r25:List RV:=[.cell 2 3 true,.tmp 3,.tmp 4]
theorem n25:Tryz.f25.ntmps=97:=by kernel_rfl
theorem b25:YM Tryz.prog 25=true:=by kernel_rfl
theorem Zxw:XB Tryz.prog c25 ((Tryz.f25.body).getD .skip)=true:=by kernel_rfl
theorem Zyg:Wo Tryz.prog r25 Tryz.f25.results.toList=true:=by kernel_rfl
def c73:SC:=(.seq (.reg [
 o1 0 (.alloc zv2 34)])
 (.seq (.reg [
 o1 1 (.mv (.f 119))])
 (.seq (.reg [
 o1 2 (.build zv4 []),
 o1 3 (.build zv4 [(5,1,.c (.int .i64 1000000))]),
 o1 4 (.build zv4 []),
 o1 5 (.bsl 9 88 [.t 2,.t 3,.t 4]),
 m1 6 1,
 o1 7 (.calv (.t 6) [.c (.int .i64 0),.c (.int .i64 1),.c (.int .i64 40000)]),
 m1 8 1,
 o1 9 (.calv (.t 8) [.c (.int .i64 1),.c (.int .i64 2),.c (.int .i64 40000)]),
 m1 10 1,
 o1 11 (.calv (.t 10) [.c (.int .i64 0),.c (.int .i64 2),.c (.int .i64 100000)]),
 o1 12 (.bsl 5 83 [.t 7,.t 9,.t 11]),
 o1 13 (.build [.slice none 0 0,.slice none 0 0] [(0,1,.t 5),(1,1,.t 12)]),
 o1 14 (.call 43 [.c (.int .i64 20000),.c (.int .i64 20000)]),
 o1 15 (.call 43 [.c (.int .i64 5000),.c (.int .i64 5000)]),
 o1 16 (.call 43 [.c (.int .i64 1000),.c (.int .i64 1000)]),
 o1 17 (.call 43 [.c (.int .i64 100),.c (.int .i64 100)]),
 o1 18 (.call 43 [.c (.int .i64 200000),.c (.int .i64 200000)]),
 o1 19 (.build [.int .i64 0,.int .i64 0,.int .i64 0,.int .i64 0,.int .i64 0,.int .i64 0,.int .i64 0,.int .i64 0,.int .i64 0,.int .i64 0,.int .i64 0,.int .i64 0,.int .i64 0,.int .i64 0,.int .i64 0,.int .i64 0,.int .i64 0] [(0,1,.c (.int .i64 100000)),(1,1,.c (.int .i64 50000)),(2,2,.t 15),(6,2,.t 16),(8,2,.t 17),(15,2,.t 18)]),
 o1 20 (.call 43 [.c (.int .i64 100000),.c (.int .i64 100000)]),
 o1 21 (.call 43 [.c (.int .i64 50000),.c (.int .i64 50000)]),
 o1 22 (.build zv3 [(0,2,.t 20),(2,2,.t 21)]),
 o1 23 (.build [.int .i64 0,.int .i64 0] []),
 o1 24 (.call 43 [.c (.int .i64 50000),.c (.int .i64 50000)]),
 o1 25 (.build [.int .i64 0,.int .i64 0] []),
 o1 26 (.bsl 2 27 [.t 23,.t 24,.t 25]),
 o1 27 (.bsl 1 3 [.c (.int .i64 10),.c (.int .i64 12),.c (.int .i64 40)]),
 o1 28 (.build zv5 [(4,1,.t 26),(5,1,.t 27)]),
 o1 29 (.bsl 6 72 [.t 28]),
 o1 30 (.build zv2 [(0,2,.t 13),(2,2,.t 14),(4,17,.t 19),(21,7,.t 22),(28,1,.c (.int .i64 10)),(29,1,.c (.int .i64 10)),(30,1,.c (.int .i64 50000)),(31,1,.c (.int .i64 10)),(32,1,.c (.int .i64 60)),(35,1,.c (.int .i64 20)),(36,1,.t 29)]),
 ⟨none,.st (.t 0) (.t 30) 37,none,[]⟩])
 .ret)))
def r73:List RV:=[.cell 0 37 true]
theorem n73:Tryz.f73.ntmps=31:=by kernel_rfl
theorem b73:YM Tryz.prog 73=true:=by kernel_rfl
theorem ZwO:XB Tryz.prog c73 ((Tryz.f73.body).getD .skip)=true:=by kernel_rfl
theorem Zx2:Wo Tryz.prog r73 Tryz.f73.results.toList=true:=by kernel_rfl
def c119:SC:=(.seq (.reg [
 o1 6 (.alloc zv6 83)])
 (.seq (.reg [
 m1 7 0,
 m1 8 1,
 m1 9 2,
 m1 10 2,
 o1 11 (.call 43 [.t 9,.t 10]),
 o1 12 (.call 43 [.c (.int .i64 99),.c (.int .i64 99)]),
 o1 13 (.build [.int .i64 0,.int .i64 0,.int .i64 0,.int .i64 0] [(2,2,.t 12)]),
 o1 14 (.bsl 4 85 [.t 13]),
 o1 15 (.build zv6 [(0,1,.t 7),(1,1,.t 8),(2,2,.t 11),(4,1,.t 14)]),
 ⟨none,.st (.t 6) (.t 15) 5,none,[]⟩])
 .ret))
def r119:List RV:=[.cell 6 5 true]
theorem n119:Tryz.f119.ntmps=16:=by kernel_rfl
theorem b119:YM Tryz.prog 119=true:=by kernel_rfl
theorem ZsJ:XB Tryz.prog c119 ((Tryz.f119.body).getD .skip)=true:=by kernel_rfl
theorem Zvh:Wo Tryz.prog r119 Tryz.f119.results.toList=true:=by kernel_rfl
def c74:SC:=(.seq (.reg [
 o1 6 (.alloc [.slice none 0 0,.int .i64 0,.int .i64 0] 37)])
 (.seq (.reg [
 m1 7 2,
 m1 8 0,
 m1 9 1,
 o1 10 (.build [.slice none 0 0,.int .i64 0,.int .i64 0] [(0,1,.t 7),(1,1,.t 8),(2,1,.t 9)]),
 ⟨none,.st (.t 6) (.t 10) 3,none,[]⟩])
 .ret))
def r74:List RV:=[.cell 6 3 true]
theorem n74:Tryz.f74.ntmps=11:=by kernel_rfl
theorem b74:YM Tryz.prog 74=true:=by kernel_rfl
theorem Zw2:XB Tryz.prog c74 ((Tryz.f74.body).getD .skip)=true:=by kernel_rfl
theorem ZwC:Wo Tryz.prog r74 Tryz.f74.results.toList=true:=by kernel_rfl
def c43:SC:=(.seq (.reg [
 o1 4 (.alloc [.int .i64 0,.int .i64 0] 27)])
 (.seq (.reg [
 m1 5 0,
 m1 6 1,
 o1 7 (.build [.int .i64 0,.int .i64 0] [(0,1,.t 5),(1,1,.t 6)]),
 ⟨none,.st (.t 4) (.t 7) 2,none,[]⟩])
 .ret))
def r43:List RV:=[.cell 4 2 true]
theorem t43:Qt1 Tryz.prog 43 c43 r43 8:=Z6 Tryz.func43 rfl (by kernel_rfl) (by kernel_rfl) (by kernel_rfl) (by kernel_rfl)
def c30:SC:=(.seq (.reg [
 o1 0 (.mv (.c (.bool false)))])
 (.seq (.reg [
 o1 23 (.call 73 []),
 o1 24 (.bsl 1 3 [.c (.int .i64 0),.c (.int .i64 1)]),
 o1 25 (.call 74 [.c (.int .i64 2),.c (.int .i64 2),.t 24]),
 o1 26 (.call 14 [.t 23,.t 25]),
 m1 22 26,
 o1 27 (.ext (.t 22) 0),
 o1 28 (.ext (.t 22) 1),
 o1 29 (.ext (.t 22) 2),
 o1 30 (.ext (.t 22) 3),
 m1 1 27,
 m1 2 28,
 m1 3 29,
 m1 4 30])
 (.seq (.reg [
 o1 32 (.call 73 []),
 o1 33 (.bsl 1 3 [.c (.int .i64 0),.c (.int .i64 1)]),
 o1 34 (.call 74 [.c (.int .i64 3),.c (.int .i64 2),.t 33]),
 o1 35 (.call 14 [.t 32,.t 34]),
 m1 31 35,
 o1 36 (.ext (.t 31) 0),
 o1 37 (.ext (.t 31) 1),
 o1 38 (.ext (.t 31) 2),
 o1 39 (.ext (.t 31) 3),
 m1 5 36,
 m1 6 37,
 m1 7 38,
 m1 8 39])
 (.seq (.reg [
 o1 41 (.call 73 []),
 o1 42 (.bsl 1 3 [.c (.int .i64 2)]),
 o1 43 (.call 74 [.c (.int .i64 10),.c (.int .i64 1),.t 42]),
 o1 44 (.call 14 [.t 41,.t 43]),
 m1 40 44,
 o1 45 (.ext (.t 40) 0),
 o1 46 (.ext (.t 40) 1),
 o1 47 (.ext (.t 40) 2),
 o1 48 (.ext (.t 40) 3),
 m1 9 45,
 m1 10 46,
 m1 11 47,
 m1 12 48])
 (.seq (.reg [
 o1 50 (.call 73 []),
 o1 51 (.bsl 1 3 [.c (.int .i64 0),.c (.int .i64 1)]),
 o1 52 (.call 74 [.c (.int .i64 2),.c (.int .i64 2),.t 51]),
 o1 53 (.call 20 [.t 50,.t 52]),
 m1 49 53,
 o1 54 (.ext (.t 49) 0),
 o1 55 (.ext (.t 49) 1),
 m1 13 54,
 m1 14 55])
 (.seq (.reg [
 o1 57 (.call 73 []),
 o1 58 (.bsl 1 3 [.c (.int .i64 0),.c (.int .i64 1)]),
 o1 59 (.call 74 [.c (.int .i64 2),.c (.int .i64 2),.t 58]),
 o1 60 (.call 22 [.t 57,.t 59,.c (.int .i64 0)]),
 m1 56 60,
 o1 61 (.ext (.t 56) 0),
 o1 62 (.ext (.t 56) 1),
 m1 15 61,
 m1 16 62])
 (.seq (.reg [
 o1 64 (.call 73 []),
 o1 65 (.call 25 [.t 64]),
 m1 63 65,
 o1 66 (.ext (.t 63) 0),
 o1 67 (.ext (.t 63) 1),
 o1 68 (.ext (.t 63) 2),
 o1 17 (.alloc [.slice none 0 0,.int .i64 0,.int .i64 0] 37),
 ⟨none,.st (.t 17) (.t 66) 3,none,[]⟩,
 m1 18 67,
 m1 19 68])
 (.seq (.reg [
 o1 70 (.call 73 []),
 o1 71 (.call 27 [.t 70]),
 m1 69 71,
 o1 72 (.ext (.t 69) 0),
 o1 73 (.ext (.t 69) 1),
 m1 20 72,
 m1 21 73])
 (.seq (.regd [0,1,2,3,4,5,6,7,8,9,10,11,12,13,14,15,16,17,18,19,20,21,22,23,24,25,26,27,28,29,30,31,32,33,34,35,36,37,38,39,40,41,42,43,44,45,46,47,48,49,50,51,52,53,54,55,56,57,58,59,60,61,62] [
 .op (m1 74 4),
 .op ⟨some 75,.bin .eql (.t 74) (.c (.int .i64 0)),none,[0]⟩,
 .op ⟨some 76,.mv (.t 75),none,[1]⟩,
 .op ⟨some 77,.mv (.t 1),some (76,true),[2]⟩,
 .op ⟨some 78,.bin .eql (.t 77) (.c (.int .u8 0)),some (76,true),[2,3]⟩,
 .op ⟨some 79,.pick (.t 76) (.t 78) (.c (.bool false)),none,[2,4]⟩,
 .op ⟨some 80,.mv (.t 79),none,[2,5]⟩,
 .op ⟨some 81,.mv (.t 8),some (80,true),[6]⟩,
 .op ⟨some 82,.bin .eql (.t 81) (.c (.int .i64 0)),some (80,true),[6,7]⟩,
 .op ⟨some 83,.pick (.t 80) (.t 82) (.c (.bool false)),none,[6,8]⟩,
 .op ⟨some 84,.mv (.t 83),none,[6,9]⟩,
 .op ⟨some 85,.mv (.t 5),some (84,true),[10]⟩,
 .op ⟨some 86,.bin .eql (.t 85) (.c (.int .u8 4)),some (84,true),[10,11]⟩,
 .op ⟨some 87,.pick (.t 84) (.t 86) (.c (.bool false)),none,[10,12]⟩,
 .op ⟨some 88,.mv (.t 87),none,[10,13]⟩,
 .op ⟨some 89,.mv (.t 12),some (88,true),[14]⟩,
 .op ⟨some 90,.bin .eql (.t 89) (.c (.int .i64 0)),some (88,true),[14,15]⟩,
 .op ⟨some 91,.pick (.t 88) (.t 90) (.c (.bool false)),none,[14,16]⟩,
 .op ⟨some 92,.mv (.t 91),none,[14,17]⟩,
 .op ⟨some 93,.mv (.t 9),some (92,true),[18]⟩,
 .op ⟨some 94,.bin .eql (.t 93) (.c (.int .u8 0)),some (92,true),[18,19]⟩,
 .op ⟨some 95,.pick (.t 92) (.t 94) (.c (.bool false)),none,[18,20]⟩,
 .op ⟨some 96,.mv (.t 95),none,[18,21]⟩,
 .op ⟨some 97,.mv (.t 14),some (96,true),[22]⟩,
 .op ⟨some 98,.bin .eql (.t 97) (.c (.int .i64 0)),some (96,true),[22,23]⟩,
 .op ⟨some 99,.pick (.t 96) (.t 98) (.c (.bool false)),none,[22,24]⟩,
 .op ⟨some 100,.mv (.t 99),none,[22,25]⟩,
 .op ⟨some 101,.mv (.t 13),some (100,true),[26]⟩,
 .op ⟨some 102,.bin .eql (.t 101) (.c (.int .i64 600)),some (100,true),[26,27]⟩,
 .op ⟨some 103,.pick (.t 100) (.t 102) (.c (.bool false)),none,[26,28]⟩,
 .op ⟨some 104,.mv (.t 103),none,[26,29]⟩,
 .op ⟨some 105,.mv (.t 16),some (104,true),[30]⟩,
 .op ⟨some 106,.bin .eql (.t 105) (.c (.int .i64 0)),some (104,true),[30,31]⟩,
 .op ⟨some 107,.pick (.t 104) (.t 106) (.c (.bool false)),none,[30,32]⟩,
 .op ⟨some 108,.mv (.t 107),none,[30,33]⟩,
 .op ⟨some 109,.mv (.t 15),some (108,true),[34]⟩,
 .op ⟨some 110,.build [.int .i64 0,.int .i64 0,.int .i64 0] [(0,1,.c (.int .i64 1)),(1,1,.c (.int .i64 2)),(2,1,.c (.int .i64 100000))],some (108,true),[34]⟩,
 .op ⟨some 111,.bsl 3 111 [.t 110],some (108,true),[34,36]⟩,
 .op ⟨some 112,.call 24 [.t 109,.t 111],some (108,true),[34,35,37]⟩,
 .op ⟨some 113,.pick (.t 108) (.t 112) (.c (.bool false)),none,[34,38]⟩,
 .op ⟨some 114,.mv (.t 113),none,[38,39]⟩,
 .op ⟨some 115,.mv (.t 19),some (114,true),[40]⟩,
 .op ⟨some 116,.bin .eql (.t 115) (.c (.int .i64 0)),some (114,true),[40,41]⟩,
 .op ⟨some 117,.pick (.t 114) (.t 116) (.c (.bool false)),none,[40,42]⟩,
 .op ⟨some 118,.mv (.t 117),none,[40,43]⟩,
 .op ⟨some 119,.mv (.t 18),some (118,true),[44]⟩,
 .op ⟨some 120,.bin .eql (.t 119) (.c (.int .i64 660)),some (118,true),[44,45]⟩,
 .op ⟨some 121,.pick (.t 118) (.t 120) (.c (.bool false)),none,[44,46]⟩,
 .op ⟨some 122,.mv (.t 121),none,[44,47]⟩,
 .op ⟨some 123,.ld (.t 17) 3 true,some (122,true),[48]⟩,
 .op ⟨some 124,.bsl 1 3 [.c (.int .i64 0),.c (.int .i64 1)],some (122,true),[48]⟩,
 .op ⟨some 125,.call 74 [.c (.int .i64 1),.c (.int .i64 4),.t 124],some (122,true),[48,50]⟩,
 .op ⟨some 126,.call 19 [.t 123,.t 125],some (122,true),[48,49,51]⟩,
 .op ⟨some 127,.pick (.t 122) (.t 126) (.c (.bool false)),none,[48,52]⟩,
 .op ⟨some 128,.mv (.t 127),none,[52,53]⟩,
 .op ⟨some 129,.mv (.t 21),some (128,true),[54]⟩,
 .op ⟨some 130,.bin .eql (.t 129) (.c (.int .i64 0)),some (128,true),[54,55]⟩,
 .op ⟨some 131,.pick (.t 128) (.t 130) (.c (.bool false)),none,[54,56]⟩,
 .op ⟨some 132,.mv (.t 131),none,[54,57]⟩,
 .op ⟨some 133,.mv (.t 20),some (132,true),[58]⟩,
 .op ⟨some 134,.bin .eql (.t 133) (.c (.int .i64 1200)),some (132,true),[58,59]⟩,
 .op ⟨some 135,.pick (.t 132) (.t 134) (.c (.bool false)),none,[58,60]⟩,
 .op ⟨some 0,.mv (.t 135),none,[0,1,2,3,4,5,6,7,8,9,10,11,12,13,14,15,16,17,18,19,20,21,22,23,24,25,26,27,28,29,30,31,32,33,34,35,36,37,38,39,40,41,42,43,44,45,46,47,48,49,50,51,52,53,54,55,56,57,58,59,60,61]⟩] 0 0 [
])
 .ret)))))))))
def r30:List RV:=[.tmp 0]
theorem t30:Qt1 Tryz.prog 30 c30 r30 136:=Z6 Tryz.func30 rfl (by kernel_rfl) (by kernel_rfl) (by kernel_rfl) (by kernel_rfl)
def c31:SC:=(.seq (.reg [
 o1 2 (.box (.t 0) 0 34),
 o1 3 (.box (.t 1) 0 37),
 o1 4 (.mv (.c (.bool false)))])
 (.seq (.reg [
 o1 5 (.ld (.t 2) 37 true),
 o1 6 (.call 12 [.t 5]),
 o1 7 (.un .not (.t 6)),
 m1 8 7,
 ⟨some 9,.ld (.t 2) 37 true,some (8,true),[]⟩,
 ⟨some 10,.call 17 [.t 9],some (8,true),[]⟩,
 ⟨some 11,.bin .eql (.t 10) (.c (.int .i64 0)),some (8,true),[]⟩,
 o1 12 (.pick (.t 8) (.t 11) (.c (.bool false))),
 m1 13 12,
 ⟨some 14,.addo (.t 3) 0,some (13,true),[]⟩,
 ⟨some 15,.ld (.t 14) 1 false,some (13,true),[]⟩,
 ⟨some 16,.len (.t 15),some (13,true),[]⟩,
 ⟨some 17,.bin .leq (.t 16) (.c (.int .i64 40)),some (13,true),[]⟩,
 o1 18 (.pick (.t 13) (.t 17) (.c (.bool false))),
 m1 19 18,
 ⟨some 20,.ld (.t 2) 37 true,some (19,true),[]⟩,
 ⟨some 21,.ld (.t 3) 3 true,some (19,true),[]⟩,
 ⟨some 22,.call 44 [.t 20,.t 21],some (19,true),[]⟩,
 o1 23 (.pick (.t 19) (.t 22) (.c (.bool false))),
 m1 24 23,
 ⟨some 25,.addo (.t 2) 35,some (24,true),[]⟩,
 ⟨some 26,.ld (.t 25) 1 false,some (24,true),[]⟩,
 ⟨some 27,.bin .leq (.t 26) (.c (.int .i64 2000)),some (24,true),[]⟩,
 o1 28 (.pick (.t 24) (.t 27) (.c (.bool false))),
 m1 4 28])
 .ret))
def r31:List RV:=[.tmp 4]
theorem t31:Qt1 Tryz.prog 31 c31 r31 29:=Z6 Tryz.func31 rfl (by kernel_rfl) (by kernel_rfl) (by kernel_rfl) (by kernel_rfl)
open Go.Azalai
theorem ZwL {s:Season} (h:OkS s) {p:Plan} (hp:YB s p=true):∃ m:Nat,m < s.land.wells.length/\Yo s.land s.start [s.start] p.legs=some (m:Int):=by
 obtain ⟨⟨to,hto⟩,_⟩:=Xm hp
 have:=VY h.lp h.start hto
 exact ⟨to.toNat,by omega,by rw [hto];congr 1;omega⟩
theorem ZbI (s:Season) (hs:SmallS s) (p:Plan) (hg:p.legs.length<=1000):Ct Tryz.prog 20 [.agg (Zr s),.agg (ZB p)] (.tup [I (Z3 s p).1,I (Z3 s p).2]):=by
 refine t20.1 (by simp [Zr,ZB,Zk,Zf,Zm,Zg,Zd,Zo,Za,KFL,KF]) (by simp [KFL,KF]) ?_
 dsimp only [c20,r20,Zr,ZB,go_sem,rA,rM,rS]
 refine call (Uk s hs p hg) ?_
 dsimp only [ZcN,go_sem,rA,rM,rS]
 by_cases he:(Yk s p).2.2.2=0
 case neg =>
  refine Zu (by simpa using he) ?_
  dsimp only [go_sem,rA,rM,rS]
  simp [Z3,he]
 refine Zv (by simpa using he) ?_
 dsimp only [go_sem,rA,rM,rS]
 by_cases hw:(Yk s p).1=0
 case neg =>
  refine Zu (by simpa using hw) ?_
  dsimp only [go_sem,rA,rM,rS]
  simp [Z3,he,hw]
 refine Zv (by simpa using hw) ?_
 dsimp only [go_sem,rA,rM,rS]
 obtain ⟨ho,hp⟩:=Zbi he
 have h:OkS s:=⟨hs,ho⟩
 obtain ⟨m,hm,hto⟩:=ZwL h hp
 refine call (ZdF s hs h.land h.pace h.start p.legs hg _) ?_
 dsimp only [go_sem,rA,rM,rS]
 rw [hto]
 simp only [Option.getD_some]
 refine call (ZfC s h p hp m hm) ?_
 dsimp only [go_sem,rA,rM,rS]
 simp [Z3,he,hw,hto]
def Zib (r:List Draw × Int):SV:=.tup [.sl false 3 (r.1.map Z2),I r.2]
theorem u22 {args:List SV} {res:SV} (ka:KFL args) (kr:KF res) (h:sx Tryz.prog Y0 0 cw22 (st0 args 48) (ZoD rw22 res)) (hA:Nat.ble args.length 48=true:=by rfl):Ct Tryz.prog 22 args res:=Wu Tryz.func22 rfl bw22 Zsf ZsX nw22 (Nat.le_of_ble_eq_true hA) ka kr h
theorem Zmr (s:Season) (hs:SmallS s) (p:Plan) (hg:p.legs.length<=1000) (k:Int):Ct Tryz.prog 22 [.agg (Zr s),.agg (ZB p),I k] (Zib (Zco s p k)):=by
 have hsc:=hs.sc
 refine u22 (by simp [Zr,ZB,Zk,Zf,Zm,Zg,Zd,Zo,Za,KFL,KF]) (by simp [Zib,Z2,Za,KFL,KF]) ?_
 dsimp only [cw22,rw22,Zr,ZB,go_sem,rA,rM,rS]
 refine call (Uk s hs p hg) ?_
 dsimp only [ZcN,go_sem,rA,rM,rS]
 by_cases he:(Yk s p).2.2.2=0
 case neg =>
  refine Zu (by simpa using he) ?_
  dsimp only [go_sem,rA,rM,rS]
  refine ⟨_,rfl,?_⟩
  rw [Zco,if_pos he]
  exact XY (Z0 YN XZ)
 refine Zv (by simpa using he) ?_
 dsimp only [go_sem,rA,rM,rS]
 obtain ⟨ho,hp⟩:=Zbi he
 have h:OkS s:=⟨hs,ho⟩
 try simp only [List.length_map]
 repeat (first | (refine gb ?_;dsimp only [go_sem,rA,rM,rS]) | (refine call (ZfR _ _ _ _) ?_;dsimp only [go_sem,rA,rM,rS]))
 simp only [List.length_map]
 rw [Zi (n:=(s.scenes.length:Int) - 1) (by omega) (by omega)]
 by_cases hw:(Yk s p).1≠0\/inR 0 (s.scenes.length - 1) k=false
 . refine Zu (by simpa using hw) ?_
   dsimp only [go_sem,rA,rM,rS]
   refine ⟨_,rfl,?_⟩
   rw [Zco,if_neg (by simpa using he),if_pos hw]
   exact XY (Z0 YN XZ)
 refine Zv (by simpa using hw) ?_
 dsimp only [go_sem,rA,rM,rS]
 have hw1:(Yk s p).1=0:=Classical.byContradiction fun q=>hw (.inl q)
 have hk:0<=k/\k < s.scenes.length:=by
  have:inR 0 (s.scenes.length - 1) k=true:=by cases hq:inR 0 (s.scenes.length - 1) k with | true=>rfl | false=>exact absurd (.inr hq) hw
  simp only [inR,decide_eq_true_eq] at this;omega
 obtain ⟨j,rfl⟩:∃ j:Nat,k=j:=⟨k.toNat,by omega⟩
 have hj:j < s.scenes.length:=by omega
 have ht:=ZjC s h j hj p hp hg
 have hf:=Znp he hw1 _ (List.getElem_mem hj)
 have hR:Zco s p j=(Xt s s.scenes[j] p.animals p.slabs (Zz s p.legs),0):=by
  rw [Zco,if_neg (by simpa using he),if_neg hw]
  simp only [Int.toNat_natCast,List.getElem?_eq_getElem hj]
 rw [hR]
 have hT:XU s p s.scenes[j]=Xt s s.scenes[j] p.animals p.slabs (Zz s p.legs):=by rw [XU,if_pos hf]
 rw [hT] at ht
 generalize Xt s s.scenes[j] p.animals p.slabs (Zz s p.legs)=D at ht ⊢
 generalize Yq s p s.scenes[j]=w at ht
 refine YP [] ht rfl rfl rfl ?_ ?_ ?_
 . exact Zc (by simp [Yl,ZB,Zf,Zm,Zg,Zk,Zd,Zo,ZQ,Za,KFL,KF])
 . trivial
 rintro _ rfl
 (repeat first | dsimp only [Zri,go_sem,rA,rM,rS] | simp only [nbr])
 exact ⟨_,rfl,fun _ _ _ _ _ h=>h⟩
theorem Zeg (a b:List Draw) (ha:a.length<=1000000) (hb:b.length<=1000000) (c d:Bool):Ct Tryz.prog 24 [.sl c 3 (a.map Z2),.sl d 3 (b.map Z2)] (B (decide (a=b))):=by
 refine t24.1 (by simp [Z2,Za,KFL,KF]) (by simp [KFL,KF]) ?_
 dsimp only [c24,r24,go_sem,rA,rM,rS]
 simp only [List.length_map]
 by_cases hl:a.length=b.length
 case neg =>
  refine Zu (by simp;omega) ?_
  dsimp only [go_sem,rA,rM,rS]
  rw [decide_eq_false (fun e=>hl (by rw [e]))]
 refine Zv (by simp;omega) ?_
 dsimp only [go_sem,rA,rM,rS]
 refine Vf [0,1,4,5] rfl (fun k:Nat=>[(5,I k)]) (fun _=>[]) (fun k=>k<=a.length/\(a=b↔a.drop k=b.drop k)) (fun k=>a.length - k) 0 ⟨Nat.zero_le _,by simp⟩ ?_ ?_
 . (refine Zl ?_ ?_ ?_ rfl rfl<;>dsimp only [Z2,id,go_sem,rA,rM,rS]<;>simp [Z2,Za,Ze,KFR,KFL,KF,Zc,mtO,nbr])
 rintro k ⟨hk,hi⟩
 dsimp only [go_sem,rA,rM,rS]
 simp only [List.length_map]
 by_cases hlt:k < a.length
 case neg =>
  refine Zv (by simp;omega) ?_
  dsimp only [go_sem,rA,rM,rS]
  rw [List.drop_eq_nil_of_le (by omega),List.drop_eq_nil_of_le (by omega)] at hi
  rw [decide_eq_true (hi.2 rfl)]
 refine Zu (by simpa using hlt) ?_
 dsimp only [go_sem,rA,rM,rS]
 have hlb:k < b.length:=by omega
 refine Zp k hlt rfl ?_
 dsimp only [go_sem,rA,rM,rS]
 refine Zp k hlb rfl ?_
 dsimp only [Z2,go_sem,rA,rM,rS]
 rw [List.drop_eq_getElem_cons hlt,List.drop_eq_getElem_cons hlb,List.cons.injEq] at hi
 by_cases hq:a[k]=b[k]
 . refine Zv (by simp [hq]) ?_
   dsimp only [go_sem,rA,rM,rS]
   rw [Zi (n:=(k:Int)+1) (by omega) (by omega)]
   refine ⟨k+1,⟨hlt,by rw [hi];simp [hq]⟩,by omega,?_⟩
   (refine Zl ?_ ?_ ?_ rfl rfl<;>dsimp only [Z2,id,go_sem,rA,rM,rS]<;>simp [Z2,Za,Ze,KFR,KFL,KF,Zc,mtO,nbr])
 . have hne:¬ (a[k].well=b[k].well/\a[k].day=b[k].day/\a[k].water=b[k].water):=fun q=>hq (by
    revert q;generalize a[k]=x;generalize b[k]=y;intro q;cases x;cases y;simpa using q)
   refine Zu (by simp;omega) ?_
   dsimp only [go_sem,rA,rM,rS]
   rw [decide_eq_false (fun e=>hq (hi.1 e).1)]
end Go.Proofs.YtiigiflofnjilaaGreat
namespace Go.Azalai
open Go.Sx Go.Proofs.YtiigiflofnjilaaGreat
theorem Zn1 {l:Land} {well day:Int}:(Wf l well [] day).1.lo<=1000000000:=by
 unfold Wf
 split
 . simp
 rename_i h1
 split
 . simp
 split
 . simp
 split
 . simp
 split
 . rename_i w hw
   simp only [Bool.not_eq_false,ZS,Bool.and_eq_true,List.all_eq_true,inR,decide_eq_true_eq] at h1
   have hwell:=h1.1.2 w (List.mem_of_getElem? hw)
   simp only [YQ,Ya,inR,Bool.and_eq_true,decide_eq_true_eq] at hwell
   simp only [VC,X1]
   omega
 . simp
theorem ZxD {s:Season} {x:Scene} (st:Stop):ZaL s x st<=1000000000:=Zn1
theorem Zeu {s:Season} {p:Plan} {x:Scene} (h:OkS s) (hp:YB s p=true):∀ d ∈ XU s p x,0<=d.water/\d.water<=30000000:=by
 have hn:=h.num
 obtain ⟨_,hpl⟩:=Xm hp
 intro d hd
 unfold XU at hd
 split at hd
 . unfold Xt at hd
   split at hd
   . cases hd
   split at hd
   . obtain ⟨st,_,rfl⟩:=List.mem_map.1 hd
     simp
   . unfold X6 at hd
     obtain ⟨i,hi,rfl⟩:=List.getElem_of_mem hd
     simp only [List.length_zipWith] at hi
     rw [List.getElem_zipWith]
     have hb:=(ZhD (x:=x) (slabs:=p.slabs) (l:=Zz s p.legs) h.beast.1 h.beast.2).1 _ (List.getElem_mem (show i < _ by omega))
     simp only [Vg]
     have h1:0<=p.animals * ((goF s x p.slabs (Zz s p.legs)).2.2[i]'(by omega)).1:=Int.mul_nonneg hpl.1 hb.1
     have h2:p.animals * ((goF s x p.slabs (Zz s p.legs)).2.2[i]'(by omega)).1<=30 * 1000000:=Int.mul_le_mul (by omega) hb.2 hb.1 (by decide)
     omega
 . cases hd
theorem Zlx {s:Season} {p:Plan} {x:Scene} (hg:p.legs.length<=1000):(XU s p x).length<=1000:=by
 have h1:(Zz s p.legs).length<=1000:=Nat.le_trans Zbe hg
 unfold XU Xt
 split
 . split
   . simp
   split
   . simp;omega
   . simp only [X6,List.length_zipWith];omega
 . simp
end Go.Azalai
namespace Go.Proofs.YtiigiflofnjilaaGreat
open Go Go.Sx Go.Azalai
theorem Zwf (s:Season) (h:OkS s) (a:List Int) (ha:(Yo s.land s.start [s.start] a).isSome=true) (hg:a.length<=1000) (k:Int) (hk:0<=k/\k<=12) :
 Ct Tryz.prog 66 [.agg (Zr s),.sl false 1 (a.map Zo),I k] (I (Zbc s a k)):=by
 have hnum:=h.num
 have hsc:=h.scs
 have hp:YB s ⟨a,1,k⟩=true:=by
  simp only [YB,ha,inR,Bool.true_and,Bool.and_eq_true,decide_eq_true_eq];omega
 refine tw66.1 (by simp [Zr,Zk,Zf,Zm,Zg,Zd,Zo,Za,KFL,KF]) (by simp [KFL,KF]) ?_
 dsimp only [cw66,rw66,Zr,go_sem,rA,rM,rS]
 simp only [List.length_map]
 refine Vf [1,2,3,7,18,19] rfl (fun q:Nat × Int=>[(19,I q.1),(7,I q.2)]) (fun _=>[])
  (fun q=>q.1<=s.scenes.length/\Ziz s a k (s.scenes.drop q.1) q.2=Zbc s a k/\0<=q.2/\q.2<=30) (fun q=>s.scenes.length - q.1) (0,s.herd) ⟨Nat.zero_le _,rfl,by simp only;omega,by simp only;omega⟩ ?_ ?_
 . (refine Zl ?_ ?_ ?_ rfl rfl<;>dsimp only [Zf,Zm,Zg,Zk,Zd,Zo,id,go_sem,rA,rM,rS]<;>simp [Zf,Zm,Zg,Zk,Zd,Zo,Za,Ze,KFR,KFL,KF,Zc,mtO,nbr])
 rintro ⟨j,n⟩ ⟨hj,hi,hn0,hn1⟩
 simp only at hj hi hn0 hn1
 dsimp only [go_sem,rA,rM,rS]
 by_cases hlt:j < s.scenes.length
 case neg =>
  refine Zv (by simp;omega) ?_
  dsimp only [go_sem,rA,rM,rS]
  rw [List.drop_eq_nil_of_le (by omega),Ziz] at hi
  rw [hi]
 refine Zu (by simpa using hlt) ?_
 dsimp only [go_sem,rA,rM,rS]
 have ht:=ZjC s h j hlt ⟨a,1,k⟩ hp hg
 have hx:=h.scene _ (List.getElem_mem hlt)
 have hy:s.scenes[j].yields.length=s.land.wells.length:=by simp only [Yx,Bool.and_eq_true,decide_eq_true_eq] at hx;omega
 have hwat:=Zeu (x:=s.scenes[j]) h hp
 have hlen:=Zlx (s:=s) (p:=⟨a,1,k⟩) (x:=s.scenes[j]) hg
 rw [List.drop_eq_getElem_cons hlt,Ziz] at hi
 generalize XU s ⟨a,1,k⟩ s.scenes[j]=D at ht hi hwat hlen
 generalize Yq s ⟨a,1,k⟩ s.scenes[j]=w at ht hi
 refine YP [] ht rfl rfl rfl ?_ ?_ ?_
 . exact Zc (by simp [Yl,ZB,Zf,Zm,Zg,Zk,Zd,Zo,ZQ,Za,KFL,KF])
 . trivial
 rintro _ rfl
 (repeat first | dsimp only [Zri,go_sem,rA,rM,rS] | simp only [nbr])
 by_cases hw0:w.1=0
 case neg =>
  refine Zu (by simpa using hw0) ?_
  dsimp only [go_sem,rA,rM,rS]
  rw [if_pos hw0] at hi
  rw [<- hi]
 refine Zv (by simpa using hw0) ?_
 dsimp only [go_sem,rA,rM,rS]
 rw [if_neg (by simpa using hw0)] at hi
 simp only [List.length_map]
 refine Vf [1,2,3,7,9,18,19,36,37,38] rfl (fun q:Nat × Int=>[(38,I q.1),(7,I q.2)]) (fun _=>[])
  (fun q=>q.1<=D.length/\ZgD s s.scenes[j] (D.drop q.1) q.2=ZgD s s.scenes[j] D n/\0<=q.2/\q.2<=30) (fun q=>D.length - q.1) (0,n) ⟨Nat.zero_le _,rfl,hn0,hn1⟩ ?_ ?_
 . (refine Zl ?_ ?_ ?_ rfl rfl<;>dsimp only [Yl,Zf,Zm,Zg,Zk,Zd,Zo,ZQ,Z2,id,go_sem,rA,rM,rS]<;>simp [Yl,Zf,Zm,Zg,Zk,Zd,Zo,ZQ,Z2,Za,Ze,KFR,KFL,KF,Zc,mtO,nbr])
 rintro ⟨i,m⟩ ⟨hi0,hi1,hm0,hm1⟩
 simp only at hi0 hi1 hm0 hm1
 dsimp only [go_sem,rA,rM,rS]
 by_cases hilt:i < D.length
 case neg =>
  refine Zv (by simp;omega) ?_
  dsimp only [go_sem,rA,rM,rS]
  rw [List.drop_eq_nil_of_le (by omega),ZgD] at hi1
  rw [Zi (n:=(j:Int)+1) (by omega) (by omega)]
  refine ⟨(j+1,m),⟨hlt,by simp only;rw [hi1];exact hi,hm0,hm1⟩,by simp only;omega,?_⟩
  (refine Zl ?_ ?_ ?_ rfl rfl<;>dsimp only [Yl,Zf,Zm,Zg,Zk,Zd,Zo,ZQ,Z2,id,go_sem,rA,rM,rS]<;>simp [Yl,Zf,Zm,Zg,Zk,Zd,Zo,ZQ,Z2,Za,Ze,KFR,KFL,KF,Zc,mtO,nbr])
 refine Zu (by simpa using hilt) ?_
 dsimp only [go_sem,rA,rM,rS]
 refine Zp i hilt rfl ?_
 dsimp only [Z2,go_sem,rA,rM,rS]
 rw [List.drop_eq_getElem_cons hilt,ZgD] at hi1
 have hw:=hwat _ (List.getElem_mem hilt)
 have hnext:IntKind.i64.wrap ((i:Int)+1)=((i+1:Nat):Int):=by rw [Zi (by omega) (by omega)];omega
 by_cases hpos:D[i].water > 0
 . refine Zu (by simpa using hpos) ?_
   dsimp only [go_sem,rA,rM,rS]
   refine call (Zq5 s h.small j hlt hy ⟨0,D[i].well,⟨0,0⟩,⟨D[i].day,0⟩⟩) ?_
   dsimp only [go_sem,rA,rM,rS]
   refine Zrq (by omega) ?_
   have h1:=ZlB (s:=s) (x:=s.scenes[j]) ⟨0,D[i].well,⟨0,0⟩,⟨D[i].day,0⟩⟩
   have h2:=ZxD (s:=s) (x:=s.scenes[j]) ⟨0,D[i].well,⟨0,0⟩,⟨D[i].day,0⟩⟩
   have h3:=X8 (d:=D[i].water) h1 h2 (by omega)
   dsimp only [go_sem,rA,rM,rS]
   rw [Zi (n:=(ZaL s s.scenes[j] ⟨0,D[i].well,⟨0,0⟩,⟨D[i].day,0⟩⟩).tdiv D[i].water) (by omega) (by omega),hnext]
   rw [if_pos hpos] at hi1
   refine ⟨(i+1,min m ((ZaL s s.scenes[j] ⟨0,D[i].well,⟨0,0⟩,⟨D[i].day,0⟩⟩).tdiv D[i].water)),⟨hilt,hi1,by simp only;omega,by simp only;omega⟩,by simp only;omega,?_⟩
   (refine Zl ?_ ?_ ?_ rfl rfl<;>dsimp only [Yl,Zf,Zm,Zg,Zk,Zd,Zo,ZQ,Z2,id,go_sem,rA,rM,rS]<;>simp [Yl,Zf,Zm,Zg,Zk,Zd,Zo,ZQ,Z2,Za,Ze,KFR,KFL,KF,Zc,mtO,nbr])
 . refine Zv (by simpa using hpos) ?_
   dsimp only [go_sem,rA,rM,rS]
   rw [hnext]
   rw [if_neg hpos] at hi1
   refine ⟨(i+1,m),⟨hilt,hi1,hm0,hm1⟩,by simp only;omega,?_⟩
   (refine Zl ?_ ?_ ?_ rfl rfl<;>dsimp only [Yl,Zf,Zm,Zg,Zk,Zd,Zo,ZQ,Z2,id,go_sem,rA,rM,rS]<;>simp [Yl,Zf,Zm,Zg,Zk,Zd,Zo,ZQ,Z2,Za,Ze,KFR,KFL,KF,Zc,mtO,nbr])
def Vd (b:Bst):List SV:=[I b.w,I (-b.an),I (-b.sl),I (-(b.legs.length:Int))]
theorem mapW (a:List Nat):(Yv a).map Zo=a.map Z5:=by simp [Yv,Z5,Zo]
theorem V9 (a:List Nat):(Yv a).length=a.length:=by simp [Yv]
structure SmB (b:Bst):Prop where
 len:b.legs.length<=1000
 an:0<=b.an/\b.an<=30
 sl:0<=b.sl/\b.sl<=12
theorem Zee (b:Bst) (hb:SmB b):Ct Tryz.prog 64 [.agg (ZB b.plan),I b.w] (.agg (Vd b)):=by
 obtain ⟨h1,h2,h3⟩:=hb
 refine t64.1 (by simp [ZB,Bst.plan,Zo,Za,KFL,KF]) (by simp [Vd,KFL,KF]) ?_
 dsimp only [c64,r64,ZB,Bst.plan,Vd,go_sem,rA,rM,rS]
 simp only [List.length_map,V9]
 rw [Int.zero_sub,Int.zero_sub,Int.zero_sub,Zi (n:=-b.an) (by omega) (by omega),Zi (n:=-b.sl) (by omega) (by omega),Zi (n:=-(b.legs.length:Int)) (by omega) (by omega)]
theorem ZjT (q p:Bst) (hq:SmB q) (hp:SmB p):Ct Tryz.prog 67 [.agg (ZB q.plan),.agg (Vd q),.agg (ZB p.plan),.agg (Vd p)] (B (ZW q p)):=by
 have hq1:=hq.len
 have hp1:=hp.len
 refine t67.1 (by simp [ZB,Bst.plan,Zo,Za,Vd,KFL,KF]) (by simp [KFL,KF]) ?_
 dsimp only [c67,r67,ZB,Bst.plan,Vd,go_sem,rA,rM,rS]
 by_cases e:q.w=p.w/\q.an=p.an/\q.sl=p.sl/\q.legs.length=p.legs.length
 . obtain ⟨e1,e2,e3,e4⟩:=e
   refine Zu (by simp [e1,e2,e3,e4]) ?_
   dsimp only [go_sem,rA,rM,rS]
   have hc:=ZgL q.legs p.legs (by omega) (by omega)
   simp only [ZX,<- mapW] at hc
   refine call hc ?_
   dsimp only [go_sem,rA,rM,rS]
   rw [ZfD]
   simp [ZW,e1,e2,e3,e4]
 refine Zv (by simp;omega) ?_
 dsimp only [go_sem,rA,rM,rS]
 refine Xd 5 ?_
 dsimp only [Zb,go_sem,rA,rM,rS]
 refine Zu (by decide) ?_
 dsimp only [Zb,go_sem,rA,rM,rS]
 repeat (refine ixa 0 rfl (by decide) ?_;dsimp only [Zb,go_sem,rA,rM,rS])
 by_cases e1:q.w=p.w
 case neg =>
  refine Zu (by simpa using e1) ?_
  dsimp only [Zb,go_sem,rA,rM,rS]
  repeat (refine ixa 0 rfl (by decide) ?_;dsimp only [Zb,go_sem,rA,rM,rS])
  simp [ZW,e1]
 refine Zv (by simpa using e1) ?_
 dsimp only [Zb,go_sem,rA,rM,rS]
 refine Zu (by decide) ?_
 dsimp only [Zb,go_sem,rA,rM,rS]
 repeat (refine ixa 1 rfl (by decide) ?_;dsimp only [Zb,go_sem,rA,rM,rS])
 by_cases e2:q.an=p.an
 case neg =>
  refine Zu (by simp;omega) ?_
  dsimp only [Zb,go_sem,rA,rM,rS]
  repeat (refine ixa 1 rfl (by decide) ?_;dsimp only [Zb,go_sem,rA,rM,rS])
  have:decide (-q.an > -p.an)=decide (q.an < p.an):=by rw [decide_eq_decide];omega
  simp [ZW,e1,e2]
 refine Zv (by simp;omega) ?_
 dsimp only [Zb,go_sem,rA,rM,rS]
 refine Zu (by decide) ?_
 dsimp only [Zb,go_sem,rA,rM,rS]
 repeat (refine ixa 2 rfl (by decide) ?_;dsimp only [Zb,go_sem,rA,rM,rS])
 by_cases e3:q.sl=p.sl
 case neg =>
  refine Zu (by simp;omega) ?_
  dsimp only [Zb,go_sem,rA,rM,rS]
  repeat (refine ixa 2 rfl (by decide) ?_;dsimp only [Zb,go_sem,rA,rM,rS])
  simp [ZW,e1,e2,e3]
 refine Zv (by simp;omega) ?_
 dsimp only [Zb,go_sem,rA,rM,rS]
 refine Zu (by decide) ?_
 dsimp only [Zb,go_sem,rA,rM,rS]
 repeat (refine ixa 3 rfl (by decide) ?_;dsimp only [Zb,go_sem,rA,rM,rS])
 have e4:¬ q.legs.length=p.legs.length:=fun e4=>e ⟨e1,e2,e3,e4⟩
 refine Zu (by simp;omega) ?_
 dsimp only [Zb,go_sem,rA,rM,rS]
 repeat (refine ixa 3 rfl (by decide) ?_;dsimp only [Zb,go_sem,rA,rM,rS])
 simp [ZW,e1,e2,e3,e4]
end Go.Proofs.YtiigiflofnjilaaGreat
namespace Go.Sx
open Go Go.RowKit
theorem ZkH {m:Nat} {σ : St} (k:Nat) {l l':List SV} {T':TypeId} (hk:lkh k σ.hp = .cells l T') (hw:∀ (w:World) (E:Env) (n ok:Nat->Prop) (ys:List Value),RL w E n ok l ys->RL w E n ok l' ys) :
 Ent m σ ⟨σ.fr,(k,.cells l' T') :: σ.hp,σ.n,σ.N,σ.gs⟩:=fun C E a w _ h=>by
 have hocc:∀ b,occ E k (.cells l' T') b↔occ E k (lkh k σ.hp) b:=fun b=>by rw [hk];rfl
 obtain ⟨h6,h7⟩:=WN (hb:=.cells l' T') (B:=E.β k) h.hs hocc (by rw [hk];rfl) ⟨rfl,rfl,rfl,rfl,fun _ _=>rfl⟩ (fun hst=>by
  have hb:=h.hs.bk k
  rw [hk] at hb
  simp only [Z7] at hb ⊢
  obtain ⟨cs,e1,e2⟩:=hb
  exact ⟨cs,e1,hw _ _ _ _ _ (ZD hst (fun _ _=>Ele.rfl) (fun _ h=>h) _ _ e2)⟩)
 exact ⟨E,fun u=>Xg h7 (fun _ _=>Ele.rfl) (fun _ h=>h) (fun _ _ _ _=>Iff.rfl) (h.fr u),h.sz,XR h7 h.df,h.gs,h6⟩
end Go.Sx
namespace Go.Proofs.YtiigiflofnjilaaGreat
open Go Go.Sx Go.Azalai
def Zkc (r:Plan × Int × Int):SV:=.tup [.agg (ZB r.1),I r.2.1,I r.2.2]
theorem Ztp (w:Int):Ct Tryz.prog 64 [.agg [.v (.slice none 0 0),I 0,I 0],I w] (.agg [I w,I 0,I 0,I 0]) :=
 (Zee ⟨[],0,0,w⟩ ⟨by simp,by simp,by simp⟩).args (by simp [KFL,KF]) (Z0 (Vo (Z0 YN XZ)) XZ)
theorem Zsw {s:Season} {to:Int} {a:List Nat} {k n:Int} (ha:a.length<=1000) (hn:0<=n/\n<=30) (hk:0<=k/\k<=12):SmB (YU s to a k n):=⟨ha,hn,hk⟩
theorem u25 {args:List SV} {res:SV} (ka:KFL args) (kr:KF res) (h:sx Tryz.prog Y0 0 c25 (st0 args 97) (ZoD r25 res)) (hA:Nat.ble args.length 97=true:=by rfl):Ct Tryz.prog 25 args res:=Wu Tryz.func25 rfl b25 Zxw Zyg n25 (Nat.le_of_ble_eq_true hA) ka kr h
theorem Zk9 (s:Season) (hs:SmallS s):Ct Tryz.prog 25 [.agg (Zr s)] (Zkc (Zec s)):=by
 refine u25 (by simp [Zr,Zk,Zf,Zm,Zg,Zd,Zo,Za,KFL,KF]) (by simp [Zkc,ZB,Zo,Za,KFL,KF]) ?_
 dsimp only [c25,r25,Zr,go_sem,rA,rM,rS]
 refine call (Za1 s hs) ?_
 dsimp only [go_sem,rA,rM,rS]
 by_cases ho:Zw s=true
 case neg =>
  refine Zu (by simp [ho]) ?_
  dsimp only [go_sem,rA,rM,rS]
  refine ⟨_,rfl,?_⟩
  rw [show Zec s=(⟨[],0,0⟩,0,90) from by unfold Zec;exact if_pos (by simpa using ho),if_neg ho]
  exact XY (Z0 (Vo (Z0 YN XZ)) XZ)
 refine Zv (by simp [ho]) ?_
 dsimp only [go_sem,rA,rM,rS]
 have h:OkS s:=⟨hs,ho⟩
 have hn:=h.num
 have hw0:0<=s.herd * s.sale/\s.herd * s.sale<=30 * 1000000:=⟨Int.mul_nonneg (by omega) (by omega),Int.mul_le_mul (by omega) (by omega) (by omega) (by decide)⟩
 rw [Zi (n:=s.herd * s.sale) (by omega) (by omega)]
 refine call (Ztp (s.herd * s.sale)) ?_
 dsimp only [go_sem,rA,rM,rS]
 simp only [List.length_map]
 have hR:Zec s=match Zg3 s with | none=>(⟨[],0,0⟩,0,9) | some b=>(b.plan,b.w,0):=by unfold Zec;exact if_neg (by simp [ho])
 have hwl:=h.land
 simp only [ZS,inR,Bool.and_eq_true,decide_eq_true_eq] at hwl
 refine ZdP (YA (Uj [1,2,3,6,34,35] rfl) (ZkH 1 (l':=ZB ⟨[],0,0⟩) rfl (Z0 YN XZ)))
  (fun q:Nat × Bst=>[(35,I q.1),(3,I q.2.w)]) (fun q=>[(1,.cells (ZB q.2.plan) 37),(2,.cells (Vd q.2) 142)])
  (fun q=>q.1<=s.land.wells.length/\US s ((List.range s.land.wells.length).drop q.1) q.2=Zg3 s/\SmB q.2) (fun q=>s.land.wells.length - q.1) (0,⟨[],0,0,s.herd * s.sale⟩)
  ⟨Nat.zero_le _,rfl,⟨by simp,by simp,by simp⟩⟩ ?_ ?_
 . (refine Zl ?_ ?_ ?_ rfl rfl<;>dsimp only [ZB,Vd,Bst.plan,Yv,Zf,Zm,Zg,Zk,Zd,Zo,id,go_sem,rA,rM,rS]<;>simp [ZB,Vd,Bst.plan,Yv,Zf,Zm,Zg,Zk,Zd,Zo,Za,Ze,KFR,KFL,KF,Zc,mtO,nbr])
 rintro ⟨g,b⟩ ⟨hg,hi,hb⟩
 simp only at hg hi hb
 dsimp only [ZB,Vd,go_sem,rA,rM,rS]
 by_cases hlt:g < s.land.wells.length
 case neg =>
  refine Zv (by simp;omega) ?_
  dsimp only [go_sem,rA,rM,rS]
  rw [List.drop_eq_nil_of_le (by simp;omega),US] at hi
  rw [hR,<- hi]
  exact ⟨_,rfl,fun _ _ _ _ _ h=>h⟩
 refine Zu (by simpa using hlt) ?_
 dsimp only [go_sem,rA,rM,rS]
 have hwy:=Zoz s.land hs.land s.start g s.day s.till s.pace
 rw [List.drop_eq_getElem_cons (by simpa using hlt),List.getElem_range,US] at hi
 by_cases hE:ZbW s.land s.pace s.start g s.day s.till=0
 case neg =>
  simp only [ZcU,Xz,if_neg hE] at hwy
  refine call hwy ?_
  dsimp only [go_sem,rA,rM,rS]
  refine Zu (by simpa using hE) ?_
  dsimp only [go_sem,rA,rM,rS]
  rw [if_pos hE] at hi
  rw [hR,<- hi]
  refine ⟨_,rfl,?_⟩
  exact XY (Z0 (Vo (Z0 YN XZ)) XZ)
 simp only [ZcU,Xz,if_pos hE] at hwy
 refine call hwy ?_
 dsimp only [go_sem,rA,rM,rS]
 refine Zv (by simpa using hE) ?_
 dsimp only [go_sem,rA,rM,rS]
 rw [if_neg (by simpa using hE)] at hi
 simp only [List.length_map]
 have hmem:∀ a ∈ Uq s.land s.pace s.start g s.day s.till,Yo s.land s.start [s.start] (Yv a)=some (g:Int)/\a.length<=24:=fun a ha=>by
  have h1:=((Zc0 h).1 ha).1
  exact ⟨h1,by simpa [Yv] using (Zyo h h1).2⟩
 have hwlen:(Uq s.land s.pace s.start g s.day s.till).length<=1000:=by
  unfold ZbW at hE
  split at hE
  . rename_i q;exact absurd hE q
  split at hE
  . simp at hE
  split at hE
  . simp at hE
  . rename_i q;unfold Uq;omega
 generalize Uq s.land s.pace s.start g s.day s.till=W at hi hmem hwlen ⊢
 refine Vf [1,2,3,6,7,34,35,56,57,58] rfl (fun q:Nat × Bst=>[(58,I q.1),(3,I q.2.w)]) (fun q=>[(1,.cells (ZB q.2.plan) 37),(2,.cells (Vd q.2) 142)])
  (fun q=>q.1<=W.length/\(W.drop q.1).foldl (Zwi s g) q.2=W.foldl (Zwi s g) b/\SmB q.2) (fun q=>W.length - q.1) (0,b) ⟨Nat.zero_le _,rfl,hb⟩ ?_ ?_
 . (refine Zl ?_ ?_ ?_ rfl rfl<;>dsimp only [ZB,Bst.plan,Vd,YU,Yr,ZX,Z5,Yv,Zf,Zm,Zg,Zk,Zd,Zo,id,go_sem,rA,rM,rS]<;>simp [ZB,Bst.plan,Vd,YU,Yr,ZX,Z5,Yv,Zf,Zm,Zg,Zk,Zd,Zo,Za,Ze,KFR,KFL,KF,Zc,mtO,nbr])
 rintro ⟨i,b1⟩ ⟨hi1,hf1,hb1⟩
 simp only at hi1 hf1 hb1
 dsimp only [ZB,Bst.plan,Vd,go_sem,rA,rM,rS]
 by_cases hilt:i < W.length
 case neg =>
  refine Zv (by simp;omega) ?_
  dsimp only [go_sem,rA,rM,rS]
  rw [List.drop_eq_nil_of_le (by omega),List.foldl_nil] at hf1
  rw [Zi (n:=(g:Int)+1) (by omega) (by omega)]
  refine ⟨(g+1,b1),⟨hlt,by simp only;rw [hf1];exact hi,hb1⟩,by simp only;omega,?_⟩
  (refine Zl ?_ ?_ ?_ rfl rfl<;>dsimp only [ZB,Bst.plan,Vd,YU,Yr,ZX,Z5,Yv,Zf,Zm,Zg,Zk,Zd,Zo,id,go_sem,rA,rM,rS]<;>simp [ZB,Bst.plan,Vd,YU,Yr,ZX,Z5,Yv,Zf,Zm,Zg,Zk,Zd,Zo,Za,Ze,KFR,KFL,KF,Zc,mtO,nbr])
 refine Zu (by simpa using hilt) ?_
 dsimp only [go_sem,rA,rM,rS]
 refine Zp i hilt rfl ?_
 rw [List.drop_eq_getElem_cons hilt,List.foldl_cons] at hf1
 obtain ⟨hto,hal⟩:=hmem _ (List.getElem_mem hilt)
 generalize W[i]=a at hf1 hto hal ⊢
 simp only [Yr,ZX,<- mapW]
 dsimp only [go_sem,rA,rM,rS]
 refine Vf [1,2,3,6,7,11,34,35,56,57,58,62] rfl (fun q:Nat × Bst=>[(62,I q.1),(3,I q.2.w)]) (fun q=>[(1,.cells (ZB q.2.plan) 37),(2,.cells (Vd q.2) 142)])
  (fun q=>q.1<=13/\((List.range 13).drop q.1).foldl (ZhK s g a) q.2=Zwi s g b1 a/\SmB q.2) (fun q=>13 - q.1) (0,b1) ⟨Nat.zero_le _,rfl,hb1⟩ ?_ ?_
 . (refine Zl ?_ ?_ ?_ rfl rfl<;>dsimp only [ZB,Bst.plan,Vd,YU,Yr,ZX,Z5,Yv,Zf,Zm,Zg,Zk,Zd,Zo,id,go_sem,rA,rM,rS]<;>simp [ZB,Bst.plan,Vd,YU,Yr,ZX,Z5,Yv,Zf,Zm,Zg,Zk,Zd,Zo,Za,Ze,KFR,KFL,KF,Zc,mtO,nbr])
 rintro ⟨k,b2⟩ ⟨hk1,hf2,hb2⟩
 simp only at hk1 hf2 hb2
 dsimp only [ZB,Bst.plan,Vd,go_sem,rA,rM,rS]
 by_cases hk:k < 13
 case neg =>
  refine Zv (by simp;omega) ?_
  dsimp only [go_sem,rA,rM,rS]
  rw [List.drop_eq_nil_of_le (by simp;omega),List.foldl_nil] at hf2
  rw [Zi (n:=(i:Int)+1) (by omega) (by omega)]
  refine ⟨(i+1,b2),⟨hilt,by simp only;rw [hf2];exact hf1,hb2⟩,by simp only;omega,?_⟩
  (refine Zl ?_ ?_ ?_ rfl rfl<;>dsimp only [ZB,Bst.plan,Vd,YU,Yr,ZX,Z5,Yv,Zf,Zm,Zg,Zk,Zd,Zo,id,go_sem,rA,rM,rS]<;>simp [ZB,Bst.plan,Vd,YU,Yr,ZX,Z5,Yv,Zf,Zm,Zg,Zk,Zd,Zo,Za,Ze,KFR,KFL,KF,Zc,mtO,nbr])
 refine Zu (by simp;omega) ?_
 dsimp only [go_sem,rA,rM,rS]
 refine call (Zwf s h (Yv a) (by rw [hto];rfl) (by rw [V9];omega) k ⟨by omega,by omega⟩) ?_
 have hfb:=Zi0 h (a:=Yv a) (k:=(k:Int))
 rw [List.drop_eq_getElem_cons (by simpa using hk),List.getElem_range,List.foldl_cons] at hf2
 obtain ⟨F,hF⟩:∃ F:Nat,Zbc s (Yv a) k=F:=⟨(Zbc s (Yv a) k).toNat,by omega⟩
 have hsl:ZhK s g a b2 k=Zds s g a k F b2:=by simp only [ZhK,hF,Int.toNat_natCast]
 rw [hsl] at hf2
 rw [hF] at hfb ⊢
 dsimp only [go_sem,rA,rM,rS]
 refine Vf [1,2,3,6,7,11,12,13,34,35,56,57,58,62] rfl (fun q:Nat × Bst=>[(13,I q.1),(3,I q.2.w)]) (fun q=>[(1,.cells (ZB q.2.plan) 37),(2,.cells (Vd q.2) 142)])
  (fun q=>q.1<=F/\Zds s g a k q.1 q.2=Zds s g a k F b2/\SmB q.2) (fun q=>q.1) (F,b2) ⟨Nat.le_refl _,rfl,hb2⟩ ?_ ?_
 . (refine Zl ?_ ?_ ?_ rfl rfl<;>dsimp only [ZB,Bst.plan,Vd,YU,Yr,ZX,Z5,Yv,Zf,Zm,Zg,Zk,Zd,Zo,id,go_sem,rA,rM,rS]<;>simp [ZB,Bst.plan,Vd,YU,Yr,ZX,Z5,Yv,Zf,Zm,Zg,Zk,Zd,Zo,Za,Ze,KFR,KFL,KF,Zc,mtO,nbr])
 rintro ⟨n,b3⟩ ⟨hn1,hf3,hb3⟩
 simp only at hn1 hf3 hb3
 dsimp only [ZB,Bst.plan,Vd,go_sem,rA,rM,rS]
 by_cases h0:n=0
 . subst h0
   refine Zu (by simp) ?_
   dsimp only [go_sem,rA,rM,rS]
   rw [Zds] at hf3
   rw [Zi (n:=(k:Int)+1) (by omega) (by omega)]
   refine ⟨(k+1,b3),⟨by simp only;omega,by simp only;rw [hf3];exact hf2,hb3⟩,by simp only;omega,?_⟩
   (refine Zl ?_ ?_ ?_ rfl rfl<;>dsimp only [ZB,Bst.plan,Vd,YU,Yr,ZX,Z5,Yv,Zf,Zm,Zg,Zk,Zd,Zo,id,go_sem,rA,rM,rS]<;>simp [ZB,Bst.plan,Vd,YU,Yr,ZX,Z5,Yv,Zf,Zm,Zg,Zk,Zd,Zo,Za,Ze,KFR,KFL,KF,Zc,mtO,nbr])
 obtain ⟨m,rfl⟩:∃ m,n=m+1:=⟨n - 1,by omega⟩
 refine Zv (by simp;omega) ?_
 dsimp only [go_sem,rA,rM,rS]
 have hp:YB s ⟨Yv a,((m+1:Nat):Int),k⟩=true:=ZcJ hto ⟨by simp only;omega,by simp only;omega⟩ ⟨by simp only;omega,by simp only;omega⟩
 have hcs:SmB (YU s g a k ((m+1:Nat):Int)):=Zsw (by omega) ⟨by omega,by omega⟩ ⟨by omega,by omega⟩
 have hwo:=ZfC s h ⟨Yv a,((m+1:Nat):Int),k⟩ hp g hlt
 simp only [ZB] at hwo
 refine call hwo ?_
 dsimp only [go_sem,rA,rM,rS]
 have hso:=Zee (YU s g a k ((m+1:Nat):Int)) hcs
 simp only [ZB,Bst.plan,YU,Vd] at hso
 refine call hso ?_
 dsimp only [go_sem,rA,rM,rS]
 have hbo:=ZjT (YU s g a k ((m+1:Nat):Int)) b3 hcs hb3
 simp only [ZB,Bst.plan,Vd] at hbo
 refine call hbo ?_
 dsimp only [go_sem,rA,rM,rS]
 rw [Zds] at hf3
 by_cases hbb:ZW (YU s g a k ((m+1:Nat):Int)) b3=true
 . refine Zu (by simpa using hbb) ?_
   dsimp only [go_sem,rA,rM,rS]
   rw [ZkW,if_pos hbb] at hf3
   rw [Zi (n:=(((m+1:Nat):Int)) - 1) (by omega) (by omega),show (((m+1:Nat):Int)) - 1=(m:Int) from by omega]
   refine ⟨(m,YU s g a k ((m+1:Nat):Int)),⟨by simp only;omega,hf3,hcs⟩,by simp only;omega,?_⟩
   (refine Zl ?_ ?_ ?_ rfl rfl<;>dsimp only [ZB,Bst.plan,Vd,YU,Yr,ZX,Z5,Yv,Zf,Zm,Zg,Zk,Zd,Zo,id,go_sem,rA,rM,rS]<;>simp [ZB,Bst.plan,Vd,YU,Yr,ZX,Z5,Yv,Zf,Zm,Zg,Zk,Zd,Zo,Za,Ze,KFR,KFL,KF,Zc,mtO,nbr])
 . refine Zv (by simpa using hbb) ?_
   dsimp only [go_sem,rA,rM,rS]
   rw [ZkW,if_neg hbb] at hf3
   rw [Zi (n:=(((m+1:Nat):Int)) - 1) (by omega) (by omega),show (((m+1:Nat):Int)) - 1=(m:Int) from by omega]
   refine ⟨(m,b3),⟨by simp only;omega,hf3,hb3⟩,by simp only;omega,?_⟩
   (refine Zl ?_ ?_ ?_ rfl rfl<;>dsimp only [ZB,Bst.plan,Vd,YU,Yr,ZX,Z5,Yv,Zf,Zm,Zg,Zk,Zd,Zo,id,go_sem,rA,rM,rS]<;>simp [ZB,Bst.plan,Vd,YU,Yr,ZX,Z5,Yv,Zf,Zm,Zg,Zk,Zd,Zo,Za,Ze,KFR,KFL,KF,Zc,mtO,nbr])
theorem Zff (s:Season) (hs:SmallS s):Ct Tryz.prog 27 [.agg (Zr s)] (.tup [I (Ub s).1,I (Ub s).2]):=by
 refine t27.1 (by simp [Zr,Zk,Zf,Zm,Zg,Zd,Zo,Za,KFL,KF]) (by simp [KFL,KF]) ?_
 dsimp only [c27,r27,Zr,go_sem,rA,rM,rS]
 refine call (Za1 s hs) ?_
 dsimp only [go_sem,rA,rM,rS]
 by_cases ho:Zw s=true
 case neg =>
  refine Zu (by simp [ho]) ?_
  dsimp only [go_sem,rA,rM,rS]
  simp [Ub,ho]
 refine Zv (by simp [ho]) ?_
 dsimp only [go_sem,rA,rM,rS]
 have h:OkS s:=⟨hs,ho⟩
 have hn:=h.num
 have hst:=h.start
 have hs4:=h.scs
 have hbr:=Cm.breed_bd h.beast.1
 have hE:X7 s.land s.pace s.start s.day=0:=Zj1.2 ⟨h.land,h.pace,by simp only [inR,decide_eq_true_eq];omega,by simp only [inR,decide_eq_true_eq];omega⟩
 have hre:=Zdi s.land hs.land s.start s.day s.pace
 rw [hE] at hre
 simp only [Xz,if_true] at hre
 refine call hre ?_
 dsimp only [go_sem,rA,rM,rS]
 refine Zrq (by omega) ?_
 dsimp only [go_sem,rA,rM,rS]
 have hk0:=X8 (a:=s.breed.strong.lo) (A:=1000000) (d:=s.slab) (by omega) (by omega) (by omega)
 rw [Zi (n:=s.breed.strong.lo.tdiv s.slab) (by omega) (by omega)]
 have hB:Ub s=(Um s,0):=by rw [Ub,if_neg (by simp [ho])]
 rw [hB]
 unfold Um
 obtain ⟨k,hk⟩:∃ k,k=min 12 (s.breed.strong.lo.tdiv s.slab):=⟨_,rfl⟩
 rw [<- hk]
 have hk1:0<=k/\k<=12:=by omega
 simp only [List.length_map]
 have hRl:(YL s.land s.pace s.start s.day).length=s.land.wells.length:=Wh
 generalize YL s.land s.pace s.start s.day=Rr at hRl ⊢
 obtain ⟨W,hW⟩:∃ W,W=s.scenes.map (fun x=>s.herd * ZaR s x k Rr 0 s.sale):=⟨_,rfl⟩
 have hWl:W.length=s.scenes.length:=by rw [hW];simp
 rw [<- hW]
 have hwl:=h.land
 simp only [ZS,inR,Bool.and_eq_true,decide_eq_true_eq] at hwl
 refine ZdP (YA (Uj [1,5,7,8,40,41,42] rfl) (YX 8 1 3 rfl rfl)) (fun q:Nat × Nat=>[(42,I q.1),(8,.mr 1 q.2)])
  (fun q=>[(1,.row q.2 1 ((W.take q.1).map Zo) 3)]) (fun q=>q.1<=s.scenes.length) (fun q=>s.scenes.length - q.1) (0,0) (Nat.zero_le _) ?_ ?_
 . (refine Zl ?_ ?_ ?_ rfl rfl<;>dsimp only [Zf,Zm,Zg,Zk,Zd,Zo,Ye,id,go_sem,rA,rM,rS]<;>simp [Zf,Zm,Zg,Zk,Zd,Zo,Ye,Za,Ze,KFR,KFL,KF,Zc,mtO,nbr])
 rintro ⟨j,v⟩ hj
 simp only at hj
 dsimp only [go_sem,rA,rM,rS]
 by_cases hlt:j < s.scenes.length
 case neg =>
  refine Zv (by simp;omega) ?_
  dsimp only [go_sem,rA,rM,rS]
  rw [List.take_of_length_le (by omega)]
  refine gh (ZaG 8 1 v rfl rfl rfl rfl) ?_
  dsimp only [go_sem,rA,rM,rS]
  refine call (Zkq W (by omega) (by omega) _) ?_
  dsimp only [go_sem,rA,rM,rS]
 refine Zu (by simpa using hlt) ?_
 dsimp only [go_sem,rA,rM,rS]
 refine Zp j hlt rfl ?_
 dsimp only [Zk,go_sem,rA,rM,rS]
 simp only [List.length_map]
 refine Vf [1,5,7,8,10,11,40,41,42,48,49,50] rfl (fun q:Nat × Int=>[(50,I q.1),(11,I q.2)]) (fun _=>[])
  (fun q=>q.1<=Rr.length/\ZaR s s.scenes[j] k (Rr.drop q.1) q.1 q.2=ZaR s s.scenes[j] k Rr 0 s.sale/\0<=q.2/\q.2<=12000000) (fun q=>Rr.length - q.1) (0,s.sale) ⟨Nat.zero_le _,rfl,by simp only;omega,by simp only;omega⟩ ?_ ?_
 . (refine Zl ?_ ?_ ?_ rfl rfl<;>dsimp only [Zf,Zm,Zg,Zk,Zd,Zo,Ye,id,go_sem,rA,rM,rS]<;>simp [Zf,Zm,Zg,Zk,Zd,Zo,Ye,Za,Ze,KFR,KFL,KF,Zc,mtO,nbr])
 rintro ⟨i,e⟩ ⟨hi0,hi1,he0,he1⟩
 simp only at hi0 hi1 he0 he1
 dsimp only [go_sem,rA,rM,rS]
 by_cases hilt:i < Rr.length
 case neg =>
  refine Zv (by simp;omega) ?_
  dsimp only [go_sem,rA,rM,rS]
  rw [List.drop_eq_nil_of_le (by omega),ZaR] at hi1
  refine gh WR ?_
  dsimp only [go_sem,rA,rM,rS]
  have hm:0<=s.herd * e/\s.herd * e<=30 * 12000000:=⟨Int.mul_nonneg (by omega) he0,Int.mul_le_mul (by omega) he1 he0 (by decide)⟩
  rw [Zi (n:=s.herd * e) (by omega) (by omega)]
  simp only [nbr]
  dsimp only [go_sem,rA,rM,rS]
  refine ⟨(by intro c hc;simp only [List.mem_singleton] at hc;subst hc;rfl),by simp;omega,?_⟩
  dsimp only [go_sem,rA,rM,rS]
  refine gh WR ?_
  dsimp only [go_sem,rA,rM,rS]
  rw [Zi (n:=(j:Int)+1) (by omega) (by omega)]
  refine ⟨(j+1,v+1),hlt,by simp only;omega,?_⟩
  simp only
  have hWj:s.herd * e=W[j]'(by omega):=by simp [hW,hi1]
  rw [hWj,List.take_succ_eq_append_getElem (by omega)]
  simp only [List.map_append,List.map_cons,List.map_nil]
  (refine Zl ?_ ?_ ?_ rfl rfl<;>dsimp only [Zf,Zm,Zg,Zk,Zd,Zo,Ye,id,go_sem,rA,rM,rS]<;>simp [Zf,Zm,Zg,Zk,Zd,Zo,Ye,Za,Ze,KFR,KFL,KF,Zc,mtO,nbr])
 refine Zu (by simpa using hilt) ?_
 dsimp only [go_sem,rA,rM,rS]
 refine Zp i hilt rfl ?_
 dsimp only [Zd,go_sem,rA,rM,rS]
 rw [List.drop_eq_getElem_cons hilt,ZaR] at hi1
 have hnext:IntKind.i64.wrap ((i:Int)+1)=((i+1:Nat):Int):=by rw [Zi (by omega) (by omega)];omega
 by_cases hr:Rr[i].hi<=s.till
 . refine Zu (by simpa using hr) ?_
   dsimp only [go_sem,rA,rM,rS]
   obtain ⟨hq,hpr⟩:=Zcr h hlt (m:=i) (by omega)
   refine Zp i hq rfl ?_
   dsimp only [Zo,go_sem,rA,rM,rS]
   have hpp:=Zlc (A:=k) (B:=12) (d:=s.scenes[j].prices[i] - s.cost) (M:=1000000) hk1.1 hk1.2 (by decide) (by omega)
   rw [Zi (n:=s.scenes[j].prices[i] - s.cost) (by omega) (by omega),Zi (n:=k * (s.scenes[j].prices[i] - s.cost)) (by omega) (by omega),hnext]
   rw [if_pos hr,List.getElem?_eq_getElem hq,Option.getD_some] at hi1
   refine ⟨(i+1,max e (k * (s.scenes[j].prices[i] - s.cost))),⟨hilt,hi1,by simp only;omega,by simp only;omega⟩,by simp only;omega,?_⟩
   (refine Zl ?_ ?_ ?_ rfl rfl<;>dsimp only [Zf,Zm,Zg,Zk,Zd,Zo,Ye,id,go_sem,rA,rM,rS]<;>simp [Zf,Zm,Zg,Zk,Zd,Zo,Ye,Za,Ze,KFR,KFL,KF,Zc,mtO,nbr])
 . refine Zv (by simpa using hr) ?_
   dsimp only [go_sem,rA,rM,rS]
   rw [hnext]
   rw [if_neg hr] at hi1
   refine ⟨(i+1,e),⟨hilt,hi1,he0,he1⟩,by simp only;omega,?_⟩
   (refine Zl ?_ ?_ ?_ rfl rfl<;>dsimp only [Zf,Zm,Zg,Zk,Zd,Zo,Ye,id,go_sem,rA,rM,rS]<;>simp [Zf,Zm,Zg,Zk,Zd,Zo,Ye,Za,Ze,KFR,KFL,KF,Zc,mtO,nbr])
end Go.Proofs.YtiigiflofnjilaaGreat
namespace Go.Sx
open Go Go.RowKit
def RLW (l l':List SV):Prop:=∀ (w:World) (E:Env) (n ok:Nat->Prop) (ys:List Value),RL w E n ok l ys->RL w E n ok l' ys
theorem Zcs {l:List SV}:RLW l l:=fun _ _ _ _ _ h=>h
theorem Zq {s s':SV} {l l':List SV} (h1:Xa s s') (h2:RLW l l'):RLW (s :: l) (s' :: l'):=Z0 h1 h2
def RRW:List (List SV)->List (List SV)->Prop
 | [],[]=>True
 | r :: xs,r' :: xs'=>RLW r r'/\r'.length=r.length/\RRW xs xs'
 | _,_=>False
theorem Zc5:∀ {xs xs':List (List SV)},RRW xs xs'->xs'.length=xs.length
 | [],[],_=>rfl
 | _ :: xs,_ :: xs',h=>by simp [Zc5 h.2.2]
 | [],_ :: _,h=>h.elim
 | _ :: _,[],h=>h.elim
theorem ZrB {w:World} {E:Env} {n ok:Nat->Prop} {b m:Nat}:∀ {xs xs':List (List SV)} {off:Nat},RRW xs xs'->RR w E n ok b m xs off->RR w E n ok b m xs' off
 | [],[],_,_,h=>h
 | r :: xs,r' :: xs',off,hw,h=>by
  simp only [RR] at h ⊢
  obtain ⟨h0,⟨cs,h1,h2⟩,h3⟩:=h
  exact ⟨by rw [hw.2.1];exact h0,⟨cs,hw.1 _ _ _ _ _ h1,h2⟩,ZrB hw.2.2 h3⟩
 | [],_ :: _,_,h,_=>h.elim
 | _ :: _,[],_,h,_=>h.elim
theorem Zuj {c:Bool} {m:Nat} {xs xs':List (List SV)} (h:RRW xs xs'):Xa (.sl c m xs) (.sl false m xs'):=fun w E n ok y hy=>by
 simp only [R] at hy ⊢
 obtain ⟨a,len,cap,h1,h2,h3,h4,h5⟩:=hy
 refine ⟨a,len,cap,h1,by rw [Zc5 h];exact h2,⟨h3.1,fun h=>by cases h⟩,by rw [Zc5 h];exact h4,?_⟩
 rcases h5 with h5 | ⟨b,off,h5,h6⟩
 . left
   have:=Zc5 h
   rw [h5] at this
   exact List.eq_nil_of_length_eq_zero this
 . exact .inr ⟨b,off,h5,ZrB h h6⟩
end Go.Sx
namespace Go.Azalai
open Go.Sx Go.Proofs.YtiigiflofnjilaaGreat
def Xb:Season :=
 ⟨⟨[⟨0,0,0,⟨0,0⟩,0,⟨0,0⟩,0⟩,⟨0,0,0,⟨0,0⟩,1000000,⟨0,0⟩,0⟩,⟨0,0,0,⟨0,0⟩,0,⟨0,0⟩,0⟩],
  [⟨0,1,⟨40000,40000⟩,[⟨⟨0,0⟩,⟨99,99⟩⟩]⟩,⟨1,2,⟨40000,40000⟩,[⟨⟨0,0⟩,⟨99,99⟩⟩]⟩,⟨0,2,⟨100000,100000⟩,[⟨⟨0,0⟩,⟨99,99⟩⟩]⟩]⟩,
  ⟨20000,20000⟩,⟨100000,50000,⟨5000,5000⟩,⟨0,0⟩,⟨1000,1000⟩,⟨100,100⟩,⟨0,0⟩,⟨0,0⟩,0,⟨200000,200000⟩⟩,⟨⟨100000,100000⟩,⟨50000,50000⟩,⟨0,0⟩,false⟩,
  10,10,50000,10,60,0,0,20,[⟨⟨0,0⟩,⟨0,0⟩,[⟨0,0⟩,⟨50000,50000⟩,⟨0,0⟩],[10,12,40]⟩]⟩
theorem Y1:SmallS Xb:=Zaz (by decide +kernel)
theorem Ziu:Zw Xb=true:=by decide +kernel
theorem ZmJ:OkS Xb:=⟨Y1,Ziu⟩
theorem Zwe:Yk Xb ⟨[0,1],2,2⟩=(0,0,0,0):=by decide +kernel
theorem Zs0:Yk Xb ⟨[0,1],3,2⟩=(4,0,0,0):=by decide +kernel
theorem Zu0:Yk Xb ⟨[2],10,1⟩=(0,0,0,0):=by decide +kernel
theorem ZgT:Z3 Xb ⟨[0,1],2,2⟩=(600,0):=by decide +kernel
theorem Zgc:Zco Xb ⟨[0,1],2,2⟩ 0=([⟨1,2,100000⟩],0):=by decide +kernel
theorem Zj9:Zec Xb=(⟨[0,1],1,4⟩,660,0):=by decide +kernel
def Zo5 (v:Int):Int:=if v=0 then 0 else if v=1 then 2 else if v=2 then 4 else 100001
theorem Ze4 (k:Bool) (v:Int):YI k Xb.land Xb.pace 0 0 v=Zo5 v:=by
 refine (Zap (k:=k) (s:=0) (day:=0) ZmJ.lp (by decide) (by decide) (by decide) (by decide) (d:=Zo5) (by decide) ?_ ?_ ?_ v).symm
 . cases k<;>(intro x hx;simp only [Xb,List.mem_cons,List.not_mem_nil,or_false] at hx;rcases hx with rfl | rfl | rfl<;>decide)
 . intro v;unfold Zo5;repeat' split
   all_goals decide
 . intro v
   unfold Zo5
   split
   . rename_i h;subst h;exact .inr ⟨[],by cases k<;>decide⟩
   . split
     . rename_i h;subst h;exact .inr ⟨[0],by cases k<;>decide⟩
     . split
       . rename_i h;subst h
         exact .inr ⟨[0,1],by cases k<;>decide⟩
       . exact .inl rfl
theorem Zg5:YL Xb.land Xb.pace Xb.start Xb.day=[⟨0,0⟩,⟨2,2⟩,⟨4,4⟩]:=by
 have h:Xb.land.wells.length=3:=rfl
 show YL Xb.land Xb.pace 0 0=_
 simp only [YL,XS,h,Ze4]
 decide
theorem ZgW:Ub Xb=(1200,0):=by
 rw [Ub,if_neg (by simp [Ziu]),Um,Zg5]
 decide +kernel
end Go.Azalai
namespace Go.Proofs.YtiigiflofnjilaaGreat
open Go Go.Sx Go.Azalai
theorem Zef (a b:Int):Ct Tryz.prog 43 [I a,I b] (.agg (Zd ⟨a,b⟩)):=by
 refine t43.1 (by simp [KFR,KFL,KF]) (by simp [Zd,KFL,KF]) ?_
 dsimp only [c43,r43,go_sem,rA,rM,rS]
 rfl
theorem u119 {args:List SV} {res:SV} (ka:KFL args) (kr:KF res) (h:sx Tryz.prog Y0 0 c119 (st0 args 16) (ZoD r119 res)) (hA:Nat.ble args.length 16=true:=by rfl):Ct Tryz.prog 119 args res:=Wu Tryz.func119 rfl b119 ZsJ Zvh n119 (Nat.le_of_ble_eq_true hA) ka kr h
theorem u73 {args:List SV} {res:SV} (ka:KFL args) (kr:KF res) (h:sx Tryz.prog Y0 0 c73 (st0 args 31) (ZoD r73 res)) (hA:Nat.ble args.length 31=true:=by rfl):Ct Tryz.prog 73 args res:=Wu Tryz.func73 rfl b73 ZwO Zx2 n73 (Nat.le_of_ble_eq_true hA) ka kr h
theorem u74 {args:List SV} {res:SV} (ka:KFL args) (kr:KF res) (h:sx Tryz.prog Y0 0 c74 (st0 args 11) (ZoD r74 res)) (hA:Nat.ble args.length 11=true:=by rfl):Ct Tryz.prog 74 args res:=Wu Tryz.func74 rfl b74 Zw2 ZwC n74 (Nat.le_of_ble_eq_true hA) ka kr h
theorem Zh9 (a b c:Int):Ct Tryz.prog 119 [I a,I b,I c] (.agg (Zm ⟨a,b,⟨c,c⟩,[⟨⟨0,0⟩,⟨99,99⟩⟩]⟩)):=by
 refine u119 (by simp [KFR,KFL,KF]) (by simp [Zm,Zg,Zd,KFR,KFL,KF]) ?_
 dsimp only [c119,r119,go_sem,rA,rM,rS]
 repeat (refine call (Zef _ _) ?_;dsimp only [Zd,go_sem,rA,rM,rS])
 exact ⟨_,rfl,Vo (Zq Xa.rfl (Zq Xa.rfl (Zq Xa.rfl (Zq Xa.rfl (Zq Zcg Zcs)))))⟩
theorem ZgQ (an sl:Int) (legs:List Int) (c:Bool):Ct Tryz.prog 74 [I an,I sl,.sl c 1 (legs.map Zo)] (.agg (ZB ⟨legs,an,sl⟩)):=by
 refine u74 (by simp [Zo,Za,KFL,KF]) (by simp [ZB,Zo,Za,KFL,KF]) ?_
 dsimp only [c74,r74,go_sem,rA,rM,rS]
 exact ⟨_,rfl,Vo (Zq Zcg Zcs)⟩
theorem WE:Ct Tryz.prog 73 [] (.agg (Zr Xb)):=by
 refine u73 (by simp [KFR,KFL,KF]) (by simp [Zr,Zk,Zf,Zm,Zg,Zd,Zo,Xb,KFR,KFL,KF]) ?_
 dsimp only [c73,r73,go_sem,rA,rM,rS]
 repeat (first | (refine call (Zef _ _) ?_;dsimp only [Zd,go_sem,rA,rM,rS]) | (refine call (Zh9 _ _ _) ?_;dsimp only [Zm,go_sem,rA,rM,rS]))
 exact ⟨_,rfl,Vo (Zq Zcg (Zq Zcg (Zq Xa.rfl (Zq Xa.rfl (Zq Xa.rfl (Zq Xa.rfl (Zq Xa.rfl (Zq Xa.rfl (Zq Xa.rfl (Zq Xa.rfl (Zq Xa.rfl (Zq Xa.rfl (Zq Xa.rfl (Zq Xa.rfl (Zq Xa.rfl (Zq Xa.rfl (Zq Xa.rfl (Zq Xa.rfl (Zq Xa.rfl (Zq Xa.rfl (Zq Xa.rfl (Zq Xa.rfl (Zq Xa.rfl (Zq Xa.rfl (Zq Xa.rfl (Zq Xa.rfl (Zq Xa.rfl (Zq Xa.rfl (Zq Xa.rfl (Zq Xa.rfl (Zq Xa.rfl (Zq Xa.rfl (Zq Xa.rfl (Zq Xa.rfl (Zq Xa.rfl (Zq Xa.rfl (Zq (Zuj ⟨Zq Xa.rfl (Zq Xa.rfl (Zq Xa.rfl (Zq Xa.rfl (Zq Zcg (Zq Zcg Zcs))))),rfl,trivial⟩) Zcs)))))))))))))))))))))))))))))))))))))⟩
def c3:SC:=(.seq (.reg [
 o1 2 (.box (.t 0) 0 34),
 o1 3 (.box (.t 1) 0 37),
 o1 4 (.mv (.c (.bool false)))])
 (.seq (.seq (.reg [
 o1 15 (.ld (.t 2) 37 true),
 o1 16 (.call 12 [.t 15]),
 m1 17 16,
 ⟨some 18,.addo (.t 3) 0,some (17,false),[]⟩,
 ⟨some 19,.ld (.t 18) 1 false,some (17,false),[]⟩,
 ⟨some 20,.len (.t 19),some (17,false),[]⟩,
 ⟨some 21,.bin .gtr (.t 20) (.c (.int .i64 40)),some (17,false),[]⟩,
 o1 22 (.pick (.t 17) (.c (.bool true)) (.t 21))])
 (.cond (.t 22)
 (.seq (.reg [
  o1 4 (.mv (.c (.bool true)))])
  .ret)
 .skip))
 (.seq (.regd [0,1,2,3,4,5,6] [
 .op (o1 23 (.ld (.t 2) 37 true)),
 .op ⟨some 24,.call 13 [.t 23],none,[0]⟩,
 .op (o1 25 (.ld (.t 3) 3 true))] 2 2 [
 o1 5 (.alloc zv2 34),
 o1 6 (.alloc [.slice none 0 0,.int .i64 0,.int .i64 0] 37),
 ⟨none,.st (.t 5) (.t 24) 37,none,[0,1,3,4]⟩,
 ⟨none,.st (.t 6) (.t 25) 3,none,[0,1,2,3,4,5]⟩])
 (.seq (.reg [
 o1 26 (.bsl 1 3 []),
 o1 27 (.addo (.t 3) 0),
 o1 28 (.ld (.t 27) 1 false),
 o1 29 (.app 1 8 3 (.t 26) (.t 28)),
 o1 30 (.addo (.t 6) 0),
 ⟨none,.st (.t 30) (.t 29) 1,none,[]⟩])
 (.seq (.reg [
 o1 32 (.ld (.t 5) 37 true),
 o1 33 (.ld (.t 6) 3 true),
 o1 34 (.call 14 [.t 32,.t 33]),
 m1 31 34,
 o1 35 (.ext (.t 31) 0),
 o1 36 (.ext (.t 31) 1),
 o1 37 (.ext (.t 31) 2),
 o1 38 (.ext (.t 31) 3),
 m1 7 35,
 m1 8 36,
 m1 9 37,
 m1 10 38])
 (.seq (.reg [
 o1 40 (.ld (.t 2) 37 true),
 o1 41 (.ld (.t 3) 3 true),
 o1 42 (.call 15 [.t 40,.t 41]),
 m1 39 42,
 o1 43 (.ext (.t 39) 0),
 o1 44 (.ext (.t 39) 1),
 o1 45 (.ext (.t 39) 2),
 o1 46 (.ext (.t 39) 3),
 m1 11 43,
 m1 12 44,
 m1 13 45,
 m1 14 46])
 (.seq (.regd [0,1,2,3,4,5,6,7,8,9,10,11,12,13,14,15,16,17,18,19,20,21,22,23,24,25,26,27,28,29,30,31,32,33,34,35] [
 .op (o1 47 (.ld (.t 5) 37 true)),
 .op ⟨some 48,.call 16 [.t 47],none,[0]⟩,
 .op (o1 49 (.ld (.t 2) 37 true)),
 .op ⟨some 50,.call 17 [.t 49],none,[1,2]⟩,
 .op ⟨some 51,.bin .eql (.t 48) (.t 50),none,[1,3]⟩,
 .op ⟨some 52,.mv (.t 51),none,[3,4]⟩,
 .op ⟨some 53,.mv (.t 7),some (52,true),[5]⟩,
 .op ⟨some 54,.mv (.t 11),some (52,true),[5]⟩,
 .op ⟨some 55,.bin .eql (.t 53) (.t 54),some (52,true),[5,6,7]⟩,
 .op ⟨some 56,.pick (.t 52) (.t 55) (.c (.bool false)),none,[5,8]⟩,
 .op ⟨some 57,.mv (.t 56),none,[5,9]⟩,
 .op ⟨some 58,.mv (.t 8),some (57,true),[10]⟩,
 .op ⟨some 59,.mv (.t 12),some (57,true),[10]⟩,
 .op ⟨some 60,.bin .eql (.t 58) (.t 59),some (57,true),[10,11,12]⟩,
 .op ⟨some 61,.pick (.t 57) (.t 60) (.c (.bool false)),none,[10,13]⟩,
 .op ⟨some 62,.mv (.t 61),none,[10,14]⟩,
 .op ⟨some 63,.mv (.t 9),some (62,true),[15]⟩,
 .op ⟨some 64,.mv (.t 13),some (62,true),[15]⟩,
 .op ⟨some 65,.bin .eql (.t 63) (.t 64),some (62,true),[15,16,17]⟩,
 .op ⟨some 66,.pick (.t 62) (.t 65) (.c (.bool false)),none,[15,18]⟩,
 .op ⟨some 67,.mv (.t 66),none,[15,19]⟩,
 .op ⟨some 68,.mv (.t 10),some (67,true),[20]⟩,
 .op ⟨some 69,.mv (.t 14),some (67,true),[20]⟩,
 .op ⟨some 70,.bin .eql (.t 68) (.t 69),some (67,true),[20,21,22]⟩,
 .op ⟨some 71,.pick (.t 67) (.t 70) (.c (.bool false)),none,[20,23]⟩,
 .op ⟨some 72,.mv (.t 71),none,[20,24]⟩,
 .op ⟨some 73,.ld (.t 5) 37 true,some (72,true),[25]⟩,
 .op ⟨some 74,.ld (.t 2) 37 true,some (72,true),[25]⟩,
 .op ⟨some 75,.call 18 [.t 73,.t 74],some (72,true),[25,26,27]⟩,
 .op ⟨some 76,.pick (.t 72) (.t 75) (.c (.bool false)),none,[25,28]⟩,
 .op ⟨some 77,.mv (.t 76),none,[28,29]⟩,
 .op ⟨some 78,.ld (.t 6) 3 true,some (77,true),[30]⟩,
 .op ⟨some 79,.ld (.t 3) 3 true,some (77,true),[30]⟩,
 .op ⟨some 80,.call 19 [.t 78,.t 79],some (77,true),[30,31,32]⟩,
 .op ⟨some 81,.pick (.t 77) (.t 80) (.c (.bool false)),none,[30,33]⟩,
 .op ⟨some 4,.mv (.t 81),none,[0,1,2,3,4,5,6,7,8,9,10,11,12,13,14,15,16,17,18,19,20,21,22,23,24,25,26,27,28,29,30,31,32,33,34]⟩] 0 0 [
])
 .ret)))))))
def r3:List RV:=[.tmp 4]
theorem n3:Tryz.f3.ntmps=82:=by kernel_rfl
theorem b3:YM Tryz.prog 3=true:=by kernel_rfl
theorem t3:Qt1 Tryz.prog 3 c3 r3 82:=Z6 Tryz.func3 rfl b3 (by kernel_rfl) (by kernel_rfl) n3
theorem Zgj (s:Season) (hs:SmallS s):Ct Tryz.prog 17 [.agg (Zr s)] (I (if Zw s=true then 0 else 90)):=by
 refine t17.1 (by simp [Zr,Zk,Zf,Zm,Zg,Zd,Zo,Za,KFL,KF]) (by simp [KFL,KF]) ?_
 dsimp only [c17,r17,Zr,go_sem,rA,rM,rS]
 refine call (ZjR s hs) ?_
 dsimp only [go_sem,rA,rM,rS]
 refine br ?_ ?_
 . intro h
   dsimp only [go_sem,rA,rM,rS]
   simp at h
   simp [h]
 . intro h
   dsimp only [go_sem,rA,rM,rS]
   simp at h
   simp [h]
end Go.Proofs.YtiigiflofnjilaaGreat
namespace Go.Azalai
open Go.Sx
def Wx (s:Season) (p:Plan):Bool:=!Ug s && Zw s && decide (p.legs.length<=40) && YB s p && decide (s.till<=2000)
end Go.Azalai
namespace Go.Proofs.YtiigiflofnjilaaGreat
open Go Go.Sx Go.Azalai
structure ReadyS (s:Season) (p:Plan):Prop where
 great:Ug s=false
 ok:OkS s
 legs:p.legs.length<=40
 plan:YB s p=true
 till:s.till<=2000
theorem Zgu {s:Season} {p:Plan} (h:Wx s p=true):ReadyS s p:=by
 simp only [Wx,Bool.and_eq_true,Bool.not_eq_true',decide_eq_true_eq] at h
 obtain ⟨⟨⟨⟨h1,h2⟩,h3⟩,h4⟩,h5⟩:=h
 exact ⟨h1,⟨Zaz h1,h2⟩,h3,h4,h5⟩
theorem ZnL (s:Season) (p:Plan):Ct Tryz.prog 31 [.agg (Zr s),.agg (ZB p)] (B (Wx s p)):=by
 refine t31.1 (by simp [Zr,ZB,Zk,Zf,Zm,Zg,Zd,Zo,Za,KFL,KF]) (by simp [KFL,KF]) ?_
 dsimp only [c31,r31,Zr,ZB,go_sem,rA,rM,rS]
 refine call (Zj7 s) ?_
 dsimp only [go_sem,rA,rM,rS]
 cases h:Ug s
 case true =>
  rw [show Wx s p=false from by simp [Wx,h]]
  repeat (refine Vb (by decide) ?_;dsimp only [go_sem,rA,rM,rS])
 have hs:=Zaz h
 refine Yp rfl ?_
 dsimp only [go_sem,rA,rM,rS]
 refine Yp rfl ?_
 dsimp only [go_sem,rA,rM,rS]
 refine call (Zgj s hs) ?_
 dsimp only [go_sem,rA,rM,rS]
 refine Yp rfl ?_
 dsimp only [go_sem,rA,rM,rS]
 cases h2:Zw s
 case false =>
  rw [show Wx s p=false from by simp [Wx,h,h2]]
  simp only [Bool.false_eq_true,if_false,Bool.not_false,Bool.true_and,show ((90:Int) == 0)=false from rfl]
  repeat (refine Vb (by decide) ?_;dsimp only [go_sem,rA,rM,rS])
 simp only [if_true,Bool.not_false,Bool.true_and,show ((0:Int) == 0)=true from rfl]
 iterate 4 (refine Yp rfl ?_;dsimp only [go_sem,rA,rM,rS])
 simp only [List.length_map]
 by_cases h3:p.legs.length<=40
 case neg =>
  rw [show Wx s p=false from by simp [Wx,h,h2,h3]]
  have:decide ((p.legs.length:Int)<=40)=false:=by simp;omega
  simp only [this,Bool.and_false]
  repeat (refine Vb (by decide) ?_;dsimp only [go_sem,rA,rM,rS])
 have e3:decide ((p.legs.length:Int)<=40)=true:=by simp;omega
 simp only [e3,Bool.and_true]
 iterate 2 (refine Yp rfl ?_;dsimp only [go_sem,rA,rM,rS])
 refine Yp rfl ?_
 dsimp only [go_sem,rA,rM,rS]
 refine call (Zkx s ⟨hs,h2⟩ p (by omega)) ?_
 dsimp only [go_sem,rA,rM,rS]
 cases h4:YB s p
 case false =>
  rw [show Wx s p=false from by simp [Wx,h4]]
  simp only [Bool.and_false]
  repeat (refine Vb (by decide) ?_;dsimp only [go_sem,rA,rM,rS])
 simp only [Bool.and_true]
 iterate 3 (refine Yp rfl ?_;dsimp only [go_sem,rA,rM,rS])
 simp [Wx,h,h2,h3,h4]
theorem ZmL:Ct Tryz.prog 30 [] (B true):=by
 have h1:=Uk Xb Y1 ⟨[0,1],2,2⟩ (by decide)
 have h2:=Uk Xb Y1 ⟨[0,1],3,2⟩ (by decide)
 have h3:=Uk Xb Y1 ⟨[2],10,1⟩ (by decide)
 have h4:=ZbI Xb Y1 ⟨[0,1],2,2⟩ (by decide)
 have h5:=Zmr Xb Y1 ⟨[0,1],2,2⟩ (by decide) 0
 have h6:=Zk9 Xb Y1
 have h7:=Zff Xb Y1
 rw [Zwe] at h1
 rw [Zs0] at h2
 rw [Zu0] at h3
 rw [ZgT] at h4
 rw [Zgc] at h5
 rw [Zj9] at h6
 rw [ZgW] at h7
 refine t30.1 (by simp [KFR,KFL,KF]) (by simp [KFL,KF]) ?_
 dsimp only [c30,r30,go_sem,rA,rM,rS]
 refine call WE ?_
 dsimp only [go_sem,rA,rM,rS]
 refine call (ZgQ 2 2 [0,1] true) ?_
 dsimp only [go_sem,rA,rM,rS]
 refine call h1 ?_
 dsimp only [ZcN,go_sem,rA,rM,rS]
 refine call WE ?_
 dsimp only [go_sem,rA,rM,rS]
 refine call (ZgQ 3 2 [0,1] true) ?_
 dsimp only [go_sem,rA,rM,rS]
 refine call h2 ?_
 dsimp only [ZcN,go_sem,rA,rM,rS]
 refine call WE ?_
 dsimp only [go_sem,rA,rM,rS]
 refine call (ZgQ 10 1 [2] true) ?_
 dsimp only [go_sem,rA,rM,rS]
 refine call h3 ?_
 dsimp only [ZcN,go_sem,rA,rM,rS]
 refine call WE ?_
 dsimp only [go_sem,rA,rM,rS]
 refine call (ZgQ 2 2 [0,1] true) ?_
 dsimp only [go_sem,rA,rM,rS]
 refine call h4 ?_
 dsimp only [go_sem,rA,rM,rS]
 refine call WE ?_
 dsimp only [go_sem,rA,rM,rS]
 refine call (ZgQ 2 2 [0,1] true) ?_
 dsimp only [go_sem,rA,rM,rS]
 refine call h5 ?_
 dsimp only [Zib,go_sem,rA,rM,rS]
 refine call WE ?_
 dsimp only [go_sem,rA,rM,rS]
 refine call h6 ?_
 dsimp only [Zkc,ZB,go_sem,rA,rM,rS]
 refine call WE ?_
 dsimp only [go_sem,rA,rM,rS]
 refine call h7 ?_
 dsimp only [go_sem,rA,rM,rS]
 repeat (first | (refine gb ?_;dsimp only [go_sem,rA,rM,rS]) | (refine call (Zeg [⟨1,2,100000⟩] [⟨1,2,100000⟩] (by decide) (by decide) false true) ?_;dsimp only [go_sem,rA,rM,rS]) | (refine call (ZgQ 1 4 [0,1] true) ?_;dsimp only [ZB,go_sem,rA,rM,rS]) | (refine call (ZeT ⟨[0,1],1,4⟩ ⟨[0,1],1,4⟩ (by decide) (by decide)) ?_;dsimp only [go_sem,rA,rM,rS]))
 simp
def c8:SC:=(.seq (.reg [
 o1 2 (.box (.t 0) 0 34),
 o1 3 (.box (.t 1) 0 37),
 o1 4 (.mv (.c (.bool false)))])
 (.seq (.reg [
 o1 16 (.call 30 []),
 m1 5 16])
 (.seq (.seq (.reg [
 m1 17 5,
 o1 18 (.un .not (.t 17))])
 (.cond (.t 18)
 (.seq (.reg [
  o1 4 (.mv (.c (.bool false)))])
  .ret)
 .skip))
 (.seq (.seq (.reg [
 o1 19 (.ld (.t 2) 37 true),
 o1 20 (.ld (.t 3) 3 true),
 o1 21 (.call 31 [.t 19,.t 20]),
 o1 22 (.un .not (.t 21))])
 (.cond (.t 22)
 (.seq (.reg [
  m1 23 5,
  m1 4 23])
  .ret)
 .skip))
 (.seq (.reg [
 o1 25 (.ld (.t 2) 37 true),
 o1 26 (.call 27 [.t 25]),
 m1 24 26,
 o1 27 (.ext (.t 24) 0),
 o1 28 (.ext (.t 24) 1),
 m1 6 27,
 m1 7 28])
 (.seq (.seq (.reg [
 m1 29 7,
 o1 30 (.bin .neq (.t 29) (.c (.int .i64 0)))])
 (.cond (.t 30)
 (.seq (.reg [
  o1 4 (.mv (.c (.bool false)))])
  .ret)
 .skip))
 (.seq (.reg [
 o1 32 (.ld (.t 2) 37 true),
 o1 33 (.ld (.t 3) 3 true),
 o1 34 (.call 20 [.t 32,.t 33]),
 m1 31 34,
 o1 35 (.ext (.t 31) 0),
 o1 36 (.ext (.t 31) 1),
 m1 8 35,
 m1 9 36])
 (.seq (.seq (.reg [
 m1 37 9,
 o1 38 (.bin .neq (.t 37) (.c (.int .i64 0))),
 m1 39 38,
 ⟨some 40,.mv (.t 9),some (39,true),[]⟩,
 ⟨some 41,.bin .neq (.t 40) (.c (.int .i64 92)),some (39,true),[]⟩,
 o1 42 (.pick (.t 39) (.t 41) (.c (.bool false))),
 m1 43 42,
 ⟨some 44,.mv (.t 9),some (43,false),[]⟩,
 ⟨some 45,.bin .eql (.t 44) (.c (.int .i64 0)),some (43,false),[]⟩,
 ⟨some 46,.mv (.t 45),some (43,false),[]⟩,
 ⟨some 47,.mv (.t 8),some (46,true),[]⟩,
 ⟨some 48,.mv (.t 6),some (46,true),[]⟩,
 ⟨some 49,.bin .gtr (.t 47) (.t 48),some (46,true),[]⟩,
 ⟨some 50,.pick (.t 46) (.t 49) (.c (.bool false)),some (43,false),[]⟩,
 o1 51 (.pick (.t 43) (.c (.bool true)) (.t 50))])
 (.cond (.t 51)
 (.seq (.reg [
  o1 4 (.mv (.c (.bool false)))])
  .ret)
 .skip))
 (.seq (.reg [
 o1 53 (.ld (.t 2) 37 true),
 o1 54 (.call 25 [.t 53]),
 m1 52 54,
 o1 55 (.ext (.t 52) 0),
 o1 56 (.ext (.t 52) 1),
 o1 57 (.ext (.t 52) 2),
 o1 10 (.alloc [.slice none 0 0,.int .i64 0,.int .i64 0] 37),
 ⟨none,.st (.t 10) (.t 55) 3,none,[]⟩,
 m1 11 56,
 m1 12 57])
 (.seq (.seq (.reg [
 m1 58 12,
 o1 59 (.bin .neq (.t 58) (.c (.int .i64 0)))])
 (.cond (.t 59)
 (.seq (.reg [
  m1 60 5,
  m1 61 60,
  ⟨some 62,.mv (.t 12),some (61,true),[]⟩,
  ⟨some 63,.bin .eql (.t 62) (.c (.int .i64 9)),some (61,true),[]⟩,
  o1 64 (.pick (.t 61) (.t 63) (.c (.bool false))),
  m1 4 64])
  .ret)
 .skip))
 (.seq (.seq (.reg [
 o1 65 (.ld (.t 2) 37 true),
 o1 66 (.ld (.t 10) 3 true),
 o1 67 (.call 44 [.t 65,.t 66]),
 o1 68 (.un .not (.t 67))])
 (.cond (.t 68)
 (.seq (.reg [
  o1 4 (.mv (.c (.bool false)))])
  .ret)
 .skip))
 (.seq (.reg [
 o1 70 (.ld (.t 2) 37 true),
 o1 71 (.ld (.t 10) 3 true),
 o1 72 (.call 20 [.t 70,.t 71]),
 m1 69 72,
 o1 73 (.ext (.t 69) 0),
 o1 74 (.ext (.t 69) 1),
 m1 13 73,
 m1 14 74])
 (.seq (.seq (.reg [
 m1 75 14,
 o1 76 (.bin .neq (.t 75) (.c (.int .i64 0))),
 m1 77 76,
 ⟨some 78,.mv (.t 13),some (77,false),[]⟩,
 ⟨some 79,.mv (.t 11),some (77,false),[]⟩,
 ⟨some 80,.bin .neq (.t 78) (.t 79),some (77,false),[]⟩,
 o1 81 (.pick (.t 77) (.c (.bool true)) (.t 80)),
 m1 82 81,
 ⟨some 83,.mv (.t 11),some (82,false),[]⟩,
 ⟨some 84,.mv (.t 6),some (82,false),[]⟩,
 ⟨some 85,.bin .gtr (.t 83) (.t 84),some (82,false),[]⟩,
 o1 86 (.pick (.t 82) (.c (.bool true)) (.t 85)),
 m1 87 86,
 ⟨some 88,.mv (.t 11),some (87,false),[]⟩,
 ⟨some 89,.addo (.t 2) 28,some (87,false),[]⟩,
 ⟨some 90,.ld (.t 89) 1 false,some (87,false),[]⟩,
 ⟨some 91,.addo (.t 2) 32,some (87,false),[]⟩,
 ⟨some 92,.ld (.t 91) 1 false,some (87,false),[]⟩,
 ⟨some 93,.bin .mul (.t 90) (.t 92),some (87,false),[]⟩,
 ⟨some 94,.bin .lss (.t 88) (.t 93),some (87,false),[]⟩,
 o1 95 (.pick (.t 87) (.c (.bool true)) (.t 94))])
 (.cond (.t 95)
 (.seq (.reg [
  o1 4 (.mv (.c (.bool false)))])
  .ret)
 .skip))
 (.seq (.seq (.reg [
 m1 96 9,
 o1 97 (.bin .neq (.t 96) (.c (.int .i64 0))),
 m1 98 97,
 ⟨some 99,.mv (.t 8),some (98,false),[]⟩,
 ⟨some 100,.mv (.t 11),some (98,false),[]⟩,
 ⟨some 101,.bin .lss (.t 99) (.t 100),some (98,false),[]⟩,
 o1 102 (.pick (.t 98) (.c (.bool true)) (.t 101))])
 (.cond (.t 102)
 (.seq (.reg [
  m1 103 5,
  m1 4 103])
  .ret)
 .skip))
 (.seq (.seq (.reg [
 m1 104 8,
 m1 105 11,
 o1 106 (.bin .gtr (.t 104) (.t 105))])
 (.cond (.t 106)
 (.seq (.reg [
  o1 4 (.mv (.c (.bool false)))])
  .ret)
 .skip))
 (.seq (.seq (.reg [
 o1 107 (.addo (.t 3) 1),
 o1 108 (.ld (.t 107) 1 false),
 o1 109 (.addo (.t 10) 1),
 o1 110 (.ld (.t 109) 1 false),
 o1 111 (.bin .neq (.t 108) (.t 110))])
 (.cond (.t 111)
 (.seq (.reg [
  m1 112 5,
  m1 113 112,
  ⟨some 114,.addo (.t 10) 1,some (113,true),[]⟩,
  ⟨some 115,.ld (.t 114) 1 false,some (113,true),[]⟩,
  ⟨some 116,.addo (.t 3) 1,some (113,true),[]⟩,
  ⟨some 117,.ld (.t 116) 1 false,some (113,true),[]⟩,
  ⟨some 118,.bin .lss (.t 115) (.t 117),some (113,true),[]⟩,
  o1 119 (.pick (.t 113) (.t 118) (.c (.bool false))),
  m1 4 119])
  .ret)
 .skip))
 (.seq (.seq (.reg [
 o1 120 (.addo (.t 3) 2),
 o1 121 (.ld (.t 120) 1 false),
 o1 122 (.addo (.t 10) 2),
 o1 123 (.ld (.t 122) 1 false),
 o1 124 (.bin .neq (.t 121) (.t 123))])
 (.cond (.t 124)
 (.seq (.reg [
  m1 125 5,
  m1 126 125,
  ⟨some 127,.addo (.t 10) 2,some (126,true),[]⟩,
  ⟨some 128,.ld (.t 127) 1 false,some (126,true),[]⟩,
  ⟨some 129,.addo (.t 3) 2,some (126,true),[]⟩,
  ⟨some 130,.ld (.t 129) 1 false,some (126,true),[]⟩,
  ⟨some 131,.bin .lss (.t 128) (.t 130),some (126,true),[]⟩,
  o1 132 (.pick (.t 126) (.t 131) (.c (.bool false))),
  m1 4 132])
  .ret)
 .skip))
 (.seq (.seq (.reg [
 o1 133 (.addo (.t 3) 0),
 o1 134 (.ld (.t 133) 1 false),
 o1 135 (.len (.t 134)),
 o1 136 (.addo (.t 10) 0),
 o1 137 (.ld (.t 136) 1 false),
 o1 138 (.len (.t 137)),
 o1 139 (.bin .neq (.t 135) (.t 138))])
 (.cond (.t 139)
 (.seq (.reg [
  m1 140 5,
  m1 141 140,
  ⟨some 142,.addo (.t 10) 0,some (141,true),[]⟩,
  ⟨some 143,.ld (.t 142) 1 false,some (141,true),[]⟩,
  ⟨some 144,.len (.t 143),some (141,true),[]⟩,
  ⟨some 145,.addo (.t 3) 0,some (141,true),[]⟩,
  ⟨some 146,.ld (.t 145) 1 false,some (141,true),[]⟩,
  ⟨some 147,.len (.t 146),some (141,true),[]⟩,
  ⟨some 148,.bin .lss (.t 144) (.t 147),some (141,true),[]⟩,
  o1 149 (.pick (.t 141) (.t 148) (.c (.bool false))),
  m1 4 149])
  .ret)
 .skip))
 (.seq (.seq (.reg [
 o1 150 (.addo (.t 3) 0),
 o1 151 (.ld (.t 150) 1 false),
 o1 152 (.len (.t 151)),
 o1 153 (.mv (.c (.int .i64 0)))])
 (.block 0 (.loop (.seq (.reg [
  o1 154 (.bin .lss (.t 153) (.t 152))])
  (.seq (.cond (.t 154)
  .skip
  (.exit 0))
  (.seq (.block 1 (.seq (.reg [
   m1 155 153,
   m1 15 155])
   (.seq (.regd [0,1,2,3,4,5,6,7,8,9,10] [
   .op (o1 156 (.addo (.t 3) 0)),
   .op ⟨some 157,.ld (.t 156) 1 false,none,[0]⟩,
   .op (m1 158 15),
   .op ⟨some 159,.ixs (.t 157) (.t 158) 1,none,[1,2]⟩,
   .op ⟨some 160,.ld (.t 159) 1 false,none,[3]⟩,
   .op (o1 161 (.addo (.t 10) 0)),
   .op ⟨some 162,.ld (.t 161) 1 false,none,[5]⟩,
   .op (m1 163 15),
   .op ⟨some 164,.ixs (.t 162) (.t 163) 1,none,[6,7]⟩,
   .op ⟨some 165,.ld (.t 164) 1 false,none,[8]⟩,
   .op ⟨some 166,.bin .neq (.t 160) (.t 165),none,[4,9]⟩] 0 0 [
])
 (.cond (.t 166)
 (.seq (.regd [0,1,2,3,4,5,6,7,8,9,10,11,12,13,14] [
  .op (m1 167 5),
  .op ⟨some 168,.mv (.t 167),none,[0]⟩,
  .op ⟨some 169,.addo (.t 10) 0,some (168,true),[1]⟩,
  .op ⟨some 170,.ld (.t 169) 1 false,some (168,true),[1,2]⟩,
  .op ⟨some 171,.mv (.t 15),some (168,true),[1]⟩,
  .op ⟨some 172,.ixs (.t 170) (.t 171) 1,some (168,true),[1,3,4]⟩,
  .op ⟨some 173,.ld (.t 172) 1 false,some (168,true),[1,5]⟩,
  .op ⟨some 174,.addo (.t 3) 0,some (168,true),[1]⟩,
  .op ⟨some 175,.ld (.t 174) 1 false,some (168,true),[1,7]⟩,
  .op ⟨some 176,.mv (.t 15),some (168,true),[1]⟩,
  .op ⟨some 177,.ixs (.t 175) (.t 176) 1,some (168,true),[1,8,9]⟩,
  .op ⟨some 178,.ld (.t 177) 1 false,some (168,true),[1,10]⟩,
  .op ⟨some 179,.bin .lss (.t 173) (.t 178),some (168,true),[1,6,11]⟩,
  .op ⟨some 180,.pick (.t 168) (.t 179) (.c (.bool false)),none,[1,12]⟩,
  .op ⟨some 4,.mv (.t 180),none,[0,1,2,3,4,5,6,7,8,9,10,11,12,13]⟩] 0 0 [
])
 .ret)
 .skip))))
 (.reg [
 o1 181 (.bin .add (.t 153) (.c (.int .i64 1))),
 m1 153 181])))))))
 (.seq (.reg [
 m1 182 5,
 m1 4 182])
 .ret))))))))))))))))))))
def r8:List RV:=[.tmp 4]
theorem t8:Qt1 Tryz.prog 8 c8 r8 183:=Z6 Tryz.func8 rfl (by kernel_rfl) (by kernel_rfl) (by kernel_rfl) (by kernel_rfl)
theorem ZcR (s:Season) (p:Plan):Ct Tryz.prog 8 [.agg (Zr s),.agg (ZB p)] (B true):=by
 refine t8.1 (by simp [Zr,ZB,Zk,Zf,Zm,Zg,Zd,Zo,Za,KFL,KF]) (by simp [KFL,KF]) ?_
 dsimp only [c8,r8,Zr,ZB,go_sem,rA,rM,rS]
 refine call ZmL ?_
 dsimp only [go_sem,rA,rM,rS]
 refine Zv rfl ?_
 dsimp only [go_sem,rA,rM,rS]
 refine call (ZnL s p) ?_
 dsimp only [go_sem,rA,rM,rS]
 by_cases hr:Wx s p=true
 case neg =>
  refine Zu (by simpa using hr) ?_
  dsimp only [go_sem,rA,rM,rS]
 refine Zv (by simpa using hr) ?_
 dsimp only [go_sem,rA,rM,rS]
 obtain ⟨hgr,h,hlegs,hp,htill⟩:=Zgu hr
 have hn:=h.num
 have hw0:0<=s.herd * s.sale/\s.herd * s.sale<=30 * 1000000:=⟨Int.mul_nonneg (by omega) (by omega),Int.mul_le_mul (by omega) (by omega) (by omega) (by decide)⟩
 have hbd:=Zff s h.small
 rw [show Ub s=(Um s,0) from by rw [Ub,if_neg (by simp [h.ok])]] at hbd
 refine call hbd ?_
 dsimp only [go_sem,rA,rM,rS]
 refine Zv (by decide) ?_
 dsimp only [go_sem,rA,rM,rS]
 refine call (ZbI s h.small p (by omega)) ?_
 dsimp only [go_sem,rA,rM,rS]
 repeat (refine gb ?_;dsimp only [go_sem,rA,rM,rS])
 have hle:(Z3 s p).2=0->(Z3 s p).1<=Um s:=fun he=>by
  obtain ⟨q1,q2⟩:=Uw h.ok hp he
  obtain ⟨m,hm,hto⟩:=ZwL h hp
  rw [q2,hto]
  exact Za6 h hp q1 hto
 refine Zv ?_ ?_
 . by_cases he:(Z3 s p).2=0
   . have:=hle he
     simp [he];omega
   . have:=(ZhJ h.ok hp he).1
     simp [this]
 dsimp only [go_sem,rA,rM,rS]
 have hbo:=Zk9 s h.small
 have hbR:Zec s=match Zg3 s with | none=>(⟨[],0,0⟩,0,9) | some b=>(b.plan,b.w,0):=by unfold Zec;exact if_neg (by simp [h.ok])
 rw [hbR] at hbo
 cases hb:Zg3 s with
 | none =>
  rw [hb] at hbo
  refine call hbo ?_
  dsimp only [Zkc,ZB,go_sem,rA,rM,rS]
  refine Zu (by decide) ?_
  dsimp only [go_sem,rA,rM,rS]
  repeat (refine gb ?_;dsimp only [go_sem,rA,rM,rS])
  simp
 | some b =>
  rw [hb] at hbo
  refine call hbo ?_
  dsimp only [Zkc,ZB,Bst.plan,go_sem,rA,rM,rS]
  refine Zv (by decide) ?_
  dsimp only [go_sem,rA,rM,rS]
  obtain ⟨t1,t2,t3,t4,t5⟩:=Zmn h hb
  obtain ⟨⟨to,hto⟩,_⟩:=Xm t1
  have hbl:=(Zyo h hto).2
  have hpl:=Zkx s h b.plan (by omega)
  rw [t1] at hpl
  refine call hpl ?_
  dsimp only [go_sem,rA,rM,rS]
  refine Zv (by decide) ?_
  dsimp only [go_sem,rA,rM,rS]
  have hwo:=ZbI s h.small b.plan (by omega)
  rw [t2] at hwo
  refine call hwo ?_
  dsimp only [go_sem,rA,rM,rS]
  repeat (refine gb ?_;dsimp only [go_sem,rA,rM,rS])
  rw [Zi (n:=s.herd * s.sale) (by omega) (by omega)]
  refine Zv (by simp;omega) ?_
  dsimp only [go_sem,rA,rM,rS]
  repeat (refine gb ?_;dsimp only [go_sem,rA,rM,rS])
  by_cases hq:(Z3 s p).2≠0\/(Z3 s p).1 < b.w
  . refine Zu (by simpa using hq) ?_
    dsimp only [go_sem,rA,rM,rS]
  refine Zv (by simpa using hq) ?_
  dsimp only [go_sem,rA,rM,rS]
  have he:(Z3 s p).2=0:=Classical.byContradiction fun q=>hq (.inl q)
  have hge:¬ (Z3 s p).1 < b.w:=fun q=>hq (.inr q)
  obtain ⟨c,hc,hbet⟩:=t5 p hp he
  generalize Z3 s p=wr at he hge hbet hq ⊢
  obtain ⟨pl,pa,ps⟩:=p
  simp only at hc hbet
  subst hc
  have hcl:c.length<=40:=by simpa [Yv] using hlegs
  simp only [ZW] at hbet
  have hww:wr.1=b.w:=by
   split at hbet
   . rw [decide_eq_false_iff_not] at hbet;omega
   . rename_i q;simpa using q
  rw [if_neg (by simpa using hww)] at hbet
  refine Zv (by simp;omega) ?_
  dsimp only [go_sem,rA,rM,rS]
  by_cases h1:pa=b.an
  case neg =>
   refine Zu (by simpa using h1) ?_
   dsimp only [go_sem,rA,rM,rS]
   repeat (refine gb ?_;dsimp only [go_sem,rA,rM,rS])
   rw [if_pos h1,decide_eq_false_iff_not] at hbet
   simp;omega
  rw [if_neg (by simpa using h1)] at hbet
  refine Zv (by simpa using h1) ?_
  dsimp only [go_sem,rA,rM,rS]
  by_cases h2:ps=b.sl
  case neg =>
   refine Zu (by simpa using h2) ?_
   dsimp only [go_sem,rA,rM,rS]
   repeat (refine gb ?_;dsimp only [go_sem,rA,rM,rS])
   rw [if_pos h2,decide_eq_false_iff_not] at hbet
   simp;omega
  rw [if_neg (by simpa using h2)] at hbet
  refine Zv (by simpa using h2) ?_
  dsimp only [go_sem,rA,rM,rS]
  simp only [List.length_map,V9]
  by_cases h3:c.length=b.legs.length
  case neg =>
   refine Zu (by simp;omega) ?_
   dsimp only [go_sem,rA,rM,rS]
   repeat (refine gb ?_;dsimp only [go_sem,rA,rM,rS])
   simp only [List.length_map,V9]
   rw [if_pos h3,decide_eq_false_iff_not] at hbet
   simp;omega
  rw [if_neg (by simpa using h3)] at hbet
  refine Zv (by simp;omega) ?_
  dsimp only [go_sem,rA,rM,rS]
  simp only [List.length_map,V9]
  simp only [mapW]
  refine Vf [3,5,10,152,153] rfl (fun k:Nat=>[(153,I k)]) (fun _=>[]) (fun k=>k<=c.length/\WA (c.drop k) (b.legs.drop k)=false) (fun k=>c.length - k) 0 ⟨Nat.zero_le _,hbet⟩ ?_ ?_
  . (refine Zl ?_ ?_ ?_ rfl rfl<;>dsimp only [Zf,Zm,Zg,Zk,Zd,Zo,Z5,id,go_sem,rA,rM,rS]<;>simp [Zf,Zm,Zg,Zk,Zd,Zo,Z5,Za,Ze,KFR,KFL,KF,Zc,mtO,nbr])
  rintro k ⟨hk,hlx⟩
  dsimp only [go_sem,rA,rM,rS]
  by_cases hlt:k < c.length
  case neg =>
   refine Zv (by simp;omega) ?_
   dsimp only [go_sem,rA,rM,rS]
  have hlb:k < b.legs.length:=by omega
  refine Zu (by simpa using hlt) ?_
  dsimp only [go_sem,rA,rM,rS]
  refine Zp k hlt rfl ?_
  dsimp only [Z5,go_sem,rA,rM,rS]
  refine Zp k hlb rfl ?_
  dsimp only [Z5,go_sem,rA,rM,rS]
  rw [List.drop_eq_getElem_cons hlt,List.drop_eq_getElem_cons hlb,WA,Bool.or_eq_false_iff,decide_eq_false_iff_not,Bool.and_eq_false_iff] at hlx
  by_cases hq:c[k]=b.legs[k]
  . refine Zv (by simp [hq]) ?_
    dsimp only [go_sem,rA,rM,rS]
    rw [Zi (n:=(k:Int)+1) (by omega) (by omega)]
    refine ⟨k+1,⟨hlt,?_⟩,by omega,?_⟩
    . rcases hlx.2 with q | q
      . simp [hq] at q
      . exact q
    (refine Zl ?_ ?_ ?_ rfl rfl<;>dsimp only [Zf,Zm,Zg,Zk,Zd,Zo,Z5,id,go_sem,rA,rM,rS]<;>simp [Zf,Zm,Zg,Zk,Zd,Zo,Z5,Za,Ze,KFR,KFL,KF,Zc,mtO,nbr])
  . refine Zu (by simp;omega) ?_
    dsimp only [go_sem,rA,rM,rS]
    repeat (first | (refine gb ?_;dsimp only [Z5,go_sem,rA,rM,rS]) | (refine Zp k hlt rfl ?_;dsimp only [Z5,go_sem,rA,rM,rS]) | (refine Zp k hlb rfl ?_;dsimp only [Z5,go_sem,rA,rM,rS]))
    simp;omega
end Go.Proofs.YtiigiflofnjilaaGreat
