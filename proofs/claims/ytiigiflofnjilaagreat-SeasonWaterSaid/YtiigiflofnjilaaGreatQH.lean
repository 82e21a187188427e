/- Walks and plain laws that lead to the given statement, part 8 of 9. -/
import Derived.Test.YtiigiflofnjilaaGreatQG
import Derived.Test.YtiigiflofnjilaaGreatProg
set_option maxRecDepth 100000
set_option maxHeartbeats 8000000
set_option linter.all false
open Nat renaming reduceAdd->rA,reduceMul->rM,reduceSub->rS,beq_refl->nbr
namespace Go.Azalai
structure Ready (l:Land) (p:Span):Prop where
 small:X9 l
 ok:OkLP l p
theorem Zrb {n day:Int} {o s:Gate->Int} {t:Int} (ht:t<=100000):∀ {l:List Gate} {a:Int},Zde n day o s a l<=t↔a<=t\/∃ g ∈ l,max day (o g)+n - 1<=s g/\max day (o g)<=t
 | [],a=>by simp [Zde]
 | g :: l,a=>by
  simp only [Zde]
  rw [Zrb ht (l:=l)]
  simp only [List.mem_cons,exists_eq_or_imp]
  by_cases h:max day (o g)+n - 1<=s g
  . rw [if_pos h]
    constructor
    . rintro (q | q)
      . by_cases ha:a<=t
        . exact .inl ha
        . exact .inr (.inl ⟨h,by omega⟩)
      . exact .inr (.inr q)
    . rintro (q | q | q)
      . exact .inl (by omega)
      . exact .inl (by have:=q.2;omega)
      . exact .inr q
  . rw [if_neg h]
    constructor
    . rintro (q | q)
      . exact .inl q
      . exact .inr (.inr q)
    . rintro (q | q | q)
      . exact .inl q
      . exact absurd q.1 h
      . exact .inr q
def oK (k:Bool) (g:Gate):Int:=bif k then g.opens.hi else g.opens.lo
def sK (k:Bool) (g:Gate):Int:=bif k then g.shuts.lo else g.shuts.hi
theorem Zk6 {k:Bool} {x:Leg} {p:Span} {t u:Int} (h:GoodLeg x) (hp:Z3 p=true) (hu:u<=100000) :
 leK k x p t<=u↔∃ g ∈ x.gates,max t (oK k g)+nK k x p - 1<=sK k g/\max t (oK k g)<=u:=by
 rw [(Zbg (k:=k) (t:=t) h hp).1,Zrb hu]
 constructor
 . rintro (q | q)
   . omega
   . exact q
 . exact fun q=>.inr q
theorem ZqZ {k:Bool} {x:Leg} {p:Span} {t:Int} (h:GoodLeg x) (hp:Z3 p=true) (ht:t<=100001):t<=leK k x p t/\leK k x p t<=100001:=by
 have hn:=Zqg (k:=k) h hp
 obtain ⟨_,a2,a3⟩:=Zbg (k:=k) (t:=t) h hp
 have:=Zew (day:=t) (o:=fun g=>bif k then g.opens.hi else g.opens.lo) hn.1 a3
 refine ⟨?_,by omega⟩
 apply Classical.byContradiction
 intro q
 obtain ⟨g,hg,h1,h2⟩:=(Zk6 (k:=k) (t:=t) (u:=leK k x p t) h hp (by omega)).1 (Int.le_refl _)
 omega
theorem ZdR {a b:Int} (ha:1<=a) (hb:1<=b):a<=(a+b - 1).tdiv b * b/\((a+b - 1).tdiv b - 1) * b < a:=by
 rw [Int.tdiv_eq_ediv_of_nonneg (by omega)]
 have h1:=Int.emod_add_mul_ediv (a+b - 1) b
 have h2:=Int.emod_nonneg (a+b - 1) (show b≠0 by omega)
 have h3:=Int.emod_lt_of_pos (a+b - 1) (show 0 < b by omega)
 rw [Int.sub_mul,Int.mul_comm ((a+b - 1) / b) b]
 omega
theorem ZjA {x:Leg} {p:Span} (h:GoodLeg x) (hp:Z3 p=true):nK false x p<=nK true x p:=by
 simp only [Z3,Z9,decide_eq_true_eq] at hp
 obtain ⟨h1,h2,h3,_,_⟩:=h
 simp only [nK,cond_true,cond_false,Zb5]
 have u:=ZdR (a:=x.long.lo) (b:=p.hi) h1 (by omega)
 have v:=ZdR (a:=x.long.hi) (b:=p.lo) (by omega) (by omega)
 have w:0<=(x.long.hi+p.lo - 1).tdiv p.lo:=Int.tdiv_nonneg (by omega) (by omega)
 generalize (x.long.lo+p.hi - 1).tdiv p.hi=A at *
 generalize (x.long.hi+p.lo - 1).tdiv p.lo=B at *
 have q:=Int.mul_le_mul_of_nonneg_left hp.2.1 w
 apply Classical.byContradiction
 intro hc
 have q2:B * p.hi<=(A - 1) * p.hi:=Int.mul_le_mul_of_nonneg_right (by omega) (by omega)
 omega
theorem ZmC {x:Leg} {p:Span} {t:Int} (h:GoodLeg x) (hp:Z3 p=true) (ht:t<=100001):leK false x p t<=leK true x p t:=by
 have b0:=ZqZ (k:=false) h hp ht
 have b1:=ZqZ (k:=true) h hp ht
 have hn:=ZjA h hp
 apply Classical.byContradiction
 intro q
 obtain ⟨g,hg,h1,h2⟩:=(Zk6 (k:=true) (t:=t) (u:=leK true x p t) h hp (by omega)).1 (Int.le_refl _)
 have hm:=Xl h.g2 (Int.le_refl _) g hg
 simp only [oK,sK,cond_true] at h1 h2
 exact q ((Zk6 (k:=false) h hp (by omega)).2 ⟨g,hg,by simp only [oK,sK,cond_false];omega,by simp only [oK,cond_false];omega⟩)
end Go.Azalai
namespace Go.Proofs.YtiigiflofnjilaaGreat
open Go Go.Sx Go.Azalai
end Go.Proofs.YtiigiflofnjilaaGreat
namespace Go.Azalai
theorem Zdq {x:Leg} {p:Span} {t t':Int} (h:GoodLeg x) (hp:Z3 p=true) (ht:t<=t') (ht':t'<=100001):ZT false x p t<=ZT true x p t':=by
 have h1:=ZaS (k:=false) h hp ht
 have h2:=ZmC (t:=t') h hp ht'
 have h3:=ZjA h hp
 simp only [ZT] at *;omega
def Trk (l:Land) (p:Span):Int->Int->Int->List Int->List Stop->Prop
 | _,_,_,[],[]=>True
 | v,a,b,i :: r,s :: ss=>∃ (k:Nat) (x:Leg),i=k/\l.legs[k]? = some x/\0<=Zk x v/\ZT true x p b<=100000 /\
  s=⟨k,Zk x v,⟨leK false x p a,leK true x p b⟩,⟨ZT false x p a,ZT true x p b⟩⟩/\Trk l p (Zk x v) (ZT false x p a) (ZT true x p b) r ss
 | _,_,_,_,_=>False
theorem Trk.len {l:Land} {p:Span}:∀ {legs:List Int} {ss:List Stop} {v a b:Int},Trk l p v a b legs ss->ss.length=legs.length
 | [],[],_,_,_,_=>rfl
 | i :: r,s :: ss,_,_,_,h=>by obtain ⟨_,_,_,_,_,_,_,h⟩:=h;simp [h.len]
 | [],_ :: _,_,_,_,h=>h.elim
 | _ :: _,[],_,_,_,h=>h.elim
theorem Trk.at {l:Land} {p:Span} (h:OkLP l p):∀ {legs:List Int} {ss:List Stop} {v a b:Int},Trk l p v a b legs ss->a<=b->b<=100000->∀ (i:Nat) (s:Stop),ss[i]? = some s ->
 ∃ c:List Nat,c.length=i+1/\legs.take (i+1)=c.map (fun n:Nat=>(n:Int))/\goW true l p v b c=some (s.well,s.arrives.hi)/\goW false l p v a c=some (s.well,s.arrives.lo)
 | [],[],_,_,_,_,_,_,i,s,hs=>by simp at hs
 | j :: r,s0 :: ss,v,a,b,q,hab,hb,i,s,hs=>by
  obtain ⟨k,x,rfl,hx,ho,hr,rfl,q⟩:=q
  have hm:=Zdq (h.leg hx) h.pace hab (by omega)
  cases i with
  | zero =>
   simp only [List.getElem?_cons_zero,Option.some.injEq] at hs
   subst hs
   refine ⟨[k],rfl,by simp,?_,?_⟩
   . simp only [goW,hx];rw [if_neg (by omega),if_neg (by omega)]
   . simp only [goW,hx];rw [if_neg (by omega),if_neg (by omega)]
  | succ i =>
   simp only [List.getElem?_cons_succ] at hs
   obtain ⟨c,h1,h2,h3,h4⟩:=Trk.at h q hm hr i s hs
   refine ⟨k :: c,by simp [h1],by simp [h2],?_,?_⟩
   . simp only [goW,hx];rw [if_neg (by omega),if_neg (by omega)];exact h3
   . simp only [goW,hx];rw [if_neg (by omega),if_neg (by omega)];exact h4
 | [],_ :: _,_,_,_,q,_,_,_,_,_=>q.elim
 | _ :: _,[],_,_,_,q,_,_,_,_,_=>q.elim
theorem Zh8 {l:Land} {p:Span}:∀ {legs:List Int} {v a b:Int} {k:Nat} {acc ss:List Stop} {at':Int},XX l v legs k=none->goS l p v a b legs k acc=(ss,at',0)->∃ tt,ss=acc ++ tt/\at'=0/\Trk l p v a b legs tt
 | [],v,a,b,k,acc,ss,at',_,h=>by
  simp only [goS,Prod.mk.injEq] at h
  exact ⟨[],by simp [h.1],h.2.1.symm,trivial⟩
 | i :: r,v,a,b,k,acc,ss,at',hb,h=>by
  simp only [XX] at hb
  by_cases he:W4 l i v < 0
  . rw [if_pos he] at hb;cases hb
  rw [if_neg he] at hb
  obtain ⟨n,x,rfl,hn,hx,_,e⟩:=UE he
  simp only [goS,Int.toNat_natCast,hx] at h
  by_cases hr:ZT true x p b > 100000
  . rw [if_pos hr] at h;simp at h
  rw [if_neg hr] at h
  rw [e] at hb he
  obtain ⟨tt,e1,e2,e3⟩:=Zh8 hb h
  exact ⟨_ :: tt,by rw [e1,List.append_assoc];rfl,e2,n,x,rfl,hx,by omega,by omega,rfl,e3⟩
theorem Zfn {l:Land} {p:Span} {s day:Int} {legs:List Int} {ss:List Stop} {at':Int} (h:YM l p s day legs=(ss,at',0)):at'=0/\Trk l p s day day legs ss:=by
 unfold YM at h
 split at h
 . rename_i q;simp at h;exact absurd h.2.2 q
 split at h
 . simp at h
 split at h
 . simp at h
 split at h
 . simp at h
 . rename_i q
   obtain ⟨tt,rfl,e2,e3⟩:=Zh8 q h
   exact ⟨e2,by simpa using e3⟩
theorem Zij {l:Land} {p:Span}:∀ {c:List Nat} {v a b w u:Int} {k:Nat} {acc:List Stop},goW true l p v b c=some (w,u) ->
 XX l v (c.map fun n:Nat=>(n:Int)) k=none/\∃ ss,goS l p v a b (c.map fun n:Nat=>(n:Int)) k acc=(ss,0,0)
 | [],v,a,b,w,u,k,acc,_=>⟨rfl,acc,rfl⟩
 | i :: c,v,a,b,w,u,k,acc,h=>by
  simp only [goW] at h
  cases hx:l.legs[i]? with
  | none=>rw [hx] at h;cases h
  | some x =>
   rw [hx] at h
   simp only at h
   by_cases ho:Zk x v < 0
   . rw [if_pos ho] at h;cases h
   rw [if_neg ho] at h
   by_cases hr:ZT true x p b > 100000
   . rw [if_pos hr] at h;cases h
   rw [if_neg hr] at h
   have hi:i < l.legs.length:=(List.getElem?_eq_some_iff.1 hx).1
   have he:W4 l (i:Int) v=Zk x v:=by rw [Za1 hi,(List.getElem?_eq_some_iff.1 hx).2]
   obtain ⟨h1,_⟩:=Zij (a:=ZT false x p a) (k:=k+1) (acc:=[]) h
   refine ⟨?_,?_⟩
   . simp only [List.map_cons,XX,he];rw [if_neg ho];exact h1
   . obtain ⟨_,ss,h2⟩:=Zij (a:=ZT false x p a) (k:=k+1) (acc:=acc ++ [⟨i,Zk x v,⟨leK false x p a,leK true x p b⟩,⟨ZT false x p a,ZT true x p b⟩⟩]) h
     refine ⟨ss,?_⟩
     simp only [List.map_cons,goS,Int.toNat_natCast,hx]
     rw [if_neg hr];exact h2
theorem ZtI {l:Land} {p:Span} (h:OkLP l p) {s day:Int} (hd:0<=day) (hd':day<=100000) (h0:0<=s) (h1:s < l.wells.length) {c:List Nat} {w u:Int} (hc:c.length<=24) (hw:goW true l p s day c=some (w,u)) :
 ∃ ss,YM l p s day (c.map fun n:Nat=>(n:Int))=(ss,0,0):=by
 obtain ⟨e1,ss,e2⟩:=Zij (a:=day) (k:=0) (acc:=[]) hw
 refine ⟨ss,?_⟩
 unfold YM
 rw [if_neg (by simp [Zaf,h.land,h.pace]),if_neg (by simp [inR];omega),if_neg (by simp;omega),e1]
 exact e2
theorem Gr.ends {l:Land} {p:Span} {s day to best:Int} {n0:Nat} (hg:OkLP l p) (hd:0<=day) (hd':day<=100000) (h0:0<=s) (h1:s < l.wells.length) (hb:best=YR true l p s day to) (hb':best<=100000) :
 ∀ {n:Nat} {v t:Int} {out:List Nat},Gr l p s day to best n0 n v t out->∃ v' t' out',Gr l p s day to best n0 0 v' t' out'
 | 0,v,t,out,h=>⟨v,t,out,h⟩
 | n+1,v,t,out,h=>by
  obtain ⟨i,_,hf⟩:=h.ex hg hd hd' h0 h1 hb hb'
  obtain ⟨m,⟨x,g1,g2,g3,g4⟩,hm⟩:=Go.Sx.least_ex (fun i=>Fit l p to best n v t i) ⟨i,hf⟩
  exact Gr.ends hg hd hd' h0 h1 hb hb' (h.step hg hd hd' h0 h1 hb g1 g2 g3 g4 fun j hj hq=>by have:=hm j hq;omega)
open Go.Sx
def Up (l:Land) (p:Span) (to till:Int):List Int->Int->Int->List Nat->Prop
 | _,v,t,[]=>v=to/\t<=till
 | been,v,t,i :: r=>∃ x,l.legs[i]? = some x/\0<=Zk x v/\ZT true x p t<=100000/\Zk x v ∉ v :: been/\Up l p to till (v :: been) (Zk x v) (ZT true x p t) r
theorem Up.le {l:Land} {p:Span} (h:OkLP l p) {to till:Int}:∀ {a:List Nat} {been:List Int} {v t:Int},Up l p to till been v t a->t<=100001->t<=till
 | [],_,_,_,q,_=>q.2
 | i :: r,been,v,t,q,ht=>by
  obtain ⟨x,hx,ho,hr,hn,q⟩:=q
  have:=VT (k:=true) (h.leg hx) h.pace ht
  have:=Up.le h q (by omega)
  omega
theorem Up.nin {l:Land} {p:Span} {to till:Int}:∀ {a:List Nat} {been:List Int} {v t:Int},Up l p to till been v t a->v ∉ been->to ∉ been
 | [],_,_,_,q,hv=>by rw [<- q.1];exact hv
 | i :: r,been,v,t,q,hv=>by
  obtain ⟨x,hx,ho,hr,hn,q⟩:=q
  have:=Up.nin q hn
  exact fun h=>this (List.mem_cons_of_mem _ h)
theorem ZiO {l:Land} {p:Span} (h:OkLP l p) {to till:Int} (htill:till<=100000):∀ {f:Nat} {been:List Int} {v t:Int} {a:List Nat},ZlA l f been->v ∉ been->(0<=v/\v < l.wells.length)->t<=100001 ->
 (a ∈ XE l p to till f been v t↔Up l p to till been v t a):=by
 intro f
 induction f with
 | zero =>
  intro been v t a hR hv hvi
  obtain ⟨g,q,_⟩:=hR.pos hv hvi
  omega
 | succ f ih =>
  intro been v t a hR hv hvi ht
  obtain ⟨g,hg,hR'⟩:=hR.pos hv hvi
  have hgf:g=f:=by omega
  subst hgf
  rw [YA]
  by_cases h1:t > till
  . rw [if_pos h1]
    constructor
    . intro q;cases q
    . intro q;have:=q.le h ht;omega
  rw [if_neg h1]
  by_cases h2:v=to
  . rw [if_pos h2,List.mem_singleton]
    constructor
    . rintro rfl;exact ⟨h2,by omega⟩
    . intro q
      cases a with
      | nil=>rfl
      | cons i r =>
       obtain ⟨x,hx,ho,hr,hn,q⟩:=q
       have:=q.nin hn
       exact absurd (by simp [h2]) this
  rw [if_neg h2]
  simp only [Z8,List.mem_flatMap,List.mem_range]
  constructor
  . rintro ⟨i,hi,q⟩
    simp only [Y1] at q
    cases hx:l.legs[i]? with
    | none=>rw [hx] at q;cases q
    | some x =>
     rw [hx] at q
     simp only at q
     by_cases hc:Zk x v < 0\/Zk x v ∈ v :: been
     . rw [if_pos hc] at q;cases q
     rw [if_neg hc] at q
     obtain ⟨r,hr,rfl⟩:=List.mem_map.1 q
     have ho:¬ Zk x v < 0:=fun z=>hc (.inl z)
     have hn:Zk x v ∉ v :: been:=fun z=>hc (.inr z)
     have ha:=Xy (k:=true) (h.leg hx) h.pace ht
     have hr':=(ih hR' hn (ZW h hx ho).1 (by omega)).1 hr
     refine ⟨x,hx,by omega,?_,hn,hr'⟩
     have:=hr'.le h (by omega)
     omega
  . intro q
    cases a with
    | nil=>exact absurd q.1 h2
    | cons i r =>
     obtain ⟨x,hx,ho,hr,hn,q⟩:=q
     refine ⟨i,(List.getElem?_eq_some_iff.1 hx).1,?_⟩
     rw [Wp hx (by omega) hn]
     exact List.mem_map.2 ⟨r,(ih hR' hn (ZW h hx (by omega)).1 (by omega)).2 q,rfl⟩
theorem Up.len {l:Land} {p:Span} (h:OkLP l p) {to till:Int}:∀ {a:List Nat} {f:Nat} {been:List Int} {v t:Int},Up l p to till been v t a->ZlA l f been->v ∉ been->(0<=v/\v < l.wells.length)->a.length+1<=f
 | [],f,been,v,t,q,hR,hv,hi=>by obtain ⟨g,hg,_⟩:=hR.pos hv hi;simp;omega
 | i :: r,f,been,v,t,q,hR,hv,hi=>by
  obtain ⟨g,hg,hR'⟩:=hR.pos hv hi
  obtain ⟨x,hx,ho,hr,hn,q⟩:=q
  have:=Up.len h q hR' hn (ZW h hx (by omega)).1
  simp;omega
theorem ZcM {l:Land} {i:Nat} {v:Int}:W4 l i v=match l.legs[i]? with | some x=>Zk x v | none=>-1:=by
 cases h:l.legs[i]? with
 | none=>rw [List.getElem?_eq_none_iff] at h;exact ZeE (.inr (by omega))
 | some x =>
  obtain ⟨hi,hx⟩:=List.getElem?_eq_some_iff.1 h
  rw [Za1 hi,hx]
theorem UN {l:Land} {p:Span} {to till:Int}:∀ {c:List Nat} {been:List Int} {v t:Int},
 Up l p to till been v t c↔YI l v (v :: been) (Y9 c)=some to/\∃ u,goW true l p v t c=some (to,u)/\u<=till
 | [],been,v,t=>by
  simp only [Up,Y9,List.map_nil,YI,Option.some.injEq,goW,Prod.mk.injEq]
  constructor
  . rintro ⟨h1,h2⟩;exact ⟨h1,t,⟨h1,rfl⟩,h2⟩
  . rintro ⟨h1,u,⟨_,rfl⟩,h2⟩;exact ⟨h1,h2⟩
 | i :: c,been,v,t=>by
  simp only [Up,Y9,List.map_cons,YI,goW]
  rw [ZcM]
  cases hx:l.legs[i]? with
  | none =>
   constructor
   . rintro ⟨x,hx',_⟩;cases hx'
   . rintro ⟨h1,_⟩;simp at h1
  | some x =>
   simp only
   constructor
   . rintro ⟨y,hy,ho,hr,hn,q⟩
     cases hy
     obtain ⟨q1,q2⟩:=(UN (c:=c)).1 q
     rw [if_neg (by omega),if_neg hn,if_neg (by omega),if_neg (by omega)]
     exact ⟨q1,q2⟩
   . rintro ⟨h1,h2⟩
     split at h1
     . cases h1
     rename_i h3
     split at h1
     . cases h1
     rename_i h4
     rw [if_neg h3] at h2
     split at h2
     . obtain ⟨u,hu,_⟩:=h2;cases hu
     rename_i h5
     exact ⟨x,rfl,by omega,by omega,h4,(UN (c:=c)).2 ⟨h1,h2⟩⟩
theorem ZdK {l:Land} {p:Span} (hg:OkLP l p):∀ {legs:List Int} {v u:Int} {been:List Int},been.Nodup->(∀ b ∈ been,0<=b/\b < l.wells.length)->YI l v been legs=some u->legs.length+been.length<=l.wells.length
 | [],v,u,been,h1,h2,_=>by have:=ZdO h1 h2;simpa using this
 | i :: r,v,u,been,h1,h2,h=>by
  simp only [YI] at h
  split at h
  . cases h
  rename_i he
  split at h
  . cases h
  rename_i hn
  obtain ⟨k,x,_,_,hx,_,e⟩:=UE he
  have hin:=(ZW hg hx (by rw [<- e];exact he)).1
  have:=ZdK hg (List.nodup_cons.2 ⟨hn,h1⟩) (fun b hb=>(List.mem_cons.1 hb).elim (fun q=>by rw [q,e];exact hin) (h2 b)) h
  simp only [List.length_cons] at this ⊢;omega
open Go.Proofs.YtiigiflofnjilaaGreat
theorem Zfe:∀ {a b:List Nat},Y9 a=Y9 b->a=b
 | [],[],_=>rfl
 | x :: a,y :: b,h=>by
  simp only [Y9,List.map_cons,List.cons.injEq] at h
  rw [Zfe (a:=a) (b:=b) h.2,show x=y by omega]
 | [],_ :: _,h=>by simp [Y9] at h
 | _ :: _,[],h=>by simp [Y9] at h
theorem Zyu {s:Season} (h:OkS s) {legs:List Int} {u:Int} (hg:YI s.land s.start [s.start] legs=some u):legs.length < s.land.wells.length/\legs.length<=24:=by
 have:=ZdK h.lp (legs:=legs) (v:=s.start) (u:=u) (been:=[s.start]) (by simp) (fun b hb=>by simp only [List.mem_singleton] at hb;subst hb;exact h.start) hg
 have hw:=h.land
 simp only [ZH,inR,Bool.and_eq_true,decide_eq_true_eq] at hw
 simp only [List.length_cons,List.length_nil] at this
 omega
theorem ZfP {s:Season} (h:OkS s) {c:List Nat} (hc:c.length<=24):Wy s (Y9 c)=true↔∃ v u,goW true s.land s.pace s.start s.day c=some (v,u)/\u<=s.till:=by
 have hn:=h.num
 have hst:=h.start
 have key:∀ {ss:List Stop} {at':Int},YM s.land s.pace s.start s.day (Y9 c)=(ss,at',0)->(Wy s (Y9 c)=true↔∃ v u,goW true s.land s.pace s.start s.day c=some (v,u)/\u<=s.till):=fun {ss at'} hw=>by
  obtain ⟨_,ht⟩:=Zfn hw
  have hss:Zw s (Y9 c)=ss:=by unfold Zw;rw [hw]
  have hlen:=ht.len
  simp only [Y9,List.length_map] at hlen
  unfold Wy
  rw [hss,hw]
  simp only [decide_true,Bool.true_and,Bool.or_eq_true,decide_eq_true_eq]
  by_cases h0:ss.length=0
  . have:c=[]:=List.eq_nil_of_length_eq_zero (by omega)
    subst this
    exact ⟨fun _=>⟨s.start,s.day,rfl,by omega⟩,fun _=>.inl h0⟩
  . obtain ⟨c',h1,h2,h3,_⟩:=ht.at h.lp (Int.le_refl _) (by omega) (ss.length - 1) (Zee ss) (ZbJ h0)
    have hcc:c'=c:=by
     have e:(Y9 c).take (ss.length - 1+1)=Y9 c:=List.take_of_length_le (by simp [Y9];omega)
     rw [e] at h2
     exact Zfe h2.symm
    subst hcc
    constructor
    . rintro (q | q)
      . exact absurd q h0
      . exact ⟨_,_,h3,q⟩
    . rintro ⟨v,u,e,q⟩
      rw [h3] at e
      simp only [Option.some.injEq,Prod.mk.injEq] at e
      exact .inr (by omega)
 constructor
 . intro q
   have q':=q
   simp only [Wy,Bool.and_eq_true,decide_eq_true_eq] at q'
   have:YM s.land s.pace s.start s.day (Y9 c)=((YM s.land s.pace s.start s.day (Y9 c)).1,(YM s.land s.pace s.start s.day (Y9 c)).2.1,0):=by
    rw [<- q'.1]
   exact (key this).1 q
 . rintro ⟨v,u,e,q⟩
   obtain ⟨ss,hw⟩:=ZtI h.lp (by omega) (by omega) hst.1 hst.2 hc e
   exact (key hw).2 ⟨v,u,e,q⟩
theorem ZfT {k:Bool} {l:Land} {p:Span} {w u to:Int}:∀ {c:List Nat} {v t:Int} {been:List Int},goW k l p v t c=some (w,u)->YI l v been (Y9 c)=some to->w=to
 | [],v,t,been,h,h'=>by
  simp only [goW,Option.some.injEq,Prod.mk.injEq,Y9,List.map_nil,YI] at h h'
  omega
 | i :: c,v,t,been,h,h'=>by
  simp only [goW,Y9,List.map_cons,YI] at h h'
  rw [ZcM] at h'
  cases hx:l.legs[i]? with
  | none=>rw [hx] at h;cases h
  | some x =>
   rw [hx] at h h'
   simp only at h h'
   split at h
   . cases h
   rename_i h1
   split at h
   . cases h
   rw [if_neg h1] at h'
   split at h'
   . cases h'
   exact ZfT h h'
theorem Zmj {s:Season} (h:OkS s) {to:Int} {c:List Nat}:c ∈ UI s.land s.pace s.start to s.day s.till↔YI s.land s.start [s.start] (Y9 c)=some to/\Wy s (Y9 c)=true:=by
 have hn:=h.num
 unfold UI
 rw [ZiO h.lp (by omega) ZlA.start (by simp) h.start (by omega),UN]
 constructor
 . rintro ⟨h1,u,h2,h3⟩
   have hl:=(Zyu h h1).2
   exact ⟨h1,(ZfP h (by simpa [Y9] using hl)).2 ⟨_,_,h2,h3⟩⟩
 . rintro ⟨h1,h2⟩
   have hl:=(Zyu h h1).2
   obtain ⟨v,u,h3,h4⟩:=(ZfP h (by simpa [Y9] using hl)).1 h2
   refine ⟨h1,u,?_,h4⟩
   rw [ZfT h3 h1] at h3;exact h3
theorem ZfQ {l:Land} {well day:Int}:0<=(Z1 l well [] day).1.lo:=by
 unfold Z1
 split
 . exact Int.le_refl _
 rename_i h1
 split
 . exact Int.le_refl _
 rename_i h2
 split
 . exact Int.le_refl _
 split
 . exact Int.le_refl _
 split
 . rename_i w hw
   simp only [Bool.not_eq_false,ZH,Bool.and_eq_true,List.all_eq_true,inR,decide_eq_true_eq] at h1 h2
   have hwell:=h1.1.2 w (List.mem_of_getElem? hw)
   simp only [Yu,Z9,inR,Bool.and_eq_true,decide_eq_true_eq] at hwell
   have:0<=(day - 1 - -1) * w.yld.lo:=Int.mul_nonneg (by omega) (by omega)
   simp only [Y4,YG]
   omega
 . exact Int.le_refl _
theorem ZiC {s:Season} {x:Scene} (st:Stop):0<=ZbV s x st:=ZfQ
theorem Znc {s:Season} {p:Plan} {to:Int} (hto:YI s.land s.start [s.start] p.legs=some to) (ha:0<=p.animals/\p.animals<=s.herd) (hs:0<=p.slabs/\p.slabs<=12):Xa s p=true:=by
 simp only [Xa,hto,Option.isSome_some,inR,Bool.true_and,Bool.and_eq_true,decide_eq_true_eq];omega
theorem Zv5 {s:Season} (h:OkS s) {a:List Int} {k:Int}:0<=Zen s a k/\Zen s a k<=s.herd:=Zkz (by have:=h.num;omega) (fun _ _=>ZiC)
theorem Ut {w:Well} {well D:Int}:∀ {l l':List Draw} {now:Span} {ev:Int} {i:Nat},(∀ x ∈ l,x.well≠well)->Y4 w well D now ev i (l ++ l')=Y4 w well D now ev (i+l.length) l'
 | [],_,_,_,_,_=>rfl
 | x :: l,l',now,ev,i,h=>by
  simp only [List.cons_append,Y4]
  rw [if_pos (by simp [h x (List.mem_cons_self ..)]),Ut (fun y hy=>h y (List.mem_cons_of_mem _ hy)),List.length_cons,show i+1+l.length=i+(l.length+1) from by omega]
theorem ZeZ {w:Well} {well D:Int} {l:List Draw} {now:Span} {ev:Int} {i:Nat} (h:∀ x ∈ l,x.well≠well):Y4 w well D now ev i l=(YG w now (D - 1 - ev),0,0):=by
 have:=Ut (w:=w) (D:=D) (now:=now) (ev:=ev) (i:=i) (l':=[]) h
 rw [List.append_nil] at this
 rw [this];rfl
theorem Zf5 {w:Well} {well D:Int} {pre post:List Draw} {d:Draw} {now:Span} {ev:Int} {i:Nat} (h1:∀ x ∈ pre,x.well≠well) (h2:∀ x ∈ post,x.well≠well) (hw:d.well=well) (hd:d.day < D) (hf:d.water<=(YG w now (d.day - ev)).hi) :
 Y4 w well D now ev i (pre ++ d :: post)=(YG w ⟨max 0 ((YG w now (d.day - ev)).lo - d.water),(YG w now (d.day - ev)).hi - d.water⟩ (D - 1 - d.day),0,0):=by
 rw [Ut h1]
 simp only [Y4]
 rw [if_neg (by simp [hw];omega),if_neg (by omega),ZeZ h2]
theorem V3 {l:Land} {D:Int} {draws:List Draw} {k:Nat} (hok:ZH l=true) (hk:k < l.wells.length) (hD:0<=D/\D<=100000) (hl:draws.length<=200) (hd:YC l.wells.length 0 draws=true) :
 Z1 l k draws D=Y4 l.wells[k] k D l.wells[k].has (-1) 0 draws:=by
 unfold Z1
 rw [if_neg (by simp [hok]),if_neg (by simp [inR];omega),if_neg (by omega),if_neg (by simp [hd]),Int.toNat_natCast,List.getElem?_eq_getElem hk]
theorem Zb4 {n:Int}:∀ {l:List Draw} {last:Int},(∀ x ∈ l,inR 0 (n - 1) x.well=true/\last<=x.day/\x.day<=100000/\0<=x.water/\x.water<=1000000000)->l.Pairwise (fun a b=>a.day<=b.day)->YC n last l=true
 | [],_,_,_=>rfl
 | x :: l,last,h,hp=>by
  obtain ⟨h1,h2,h3,h4,h5⟩:=h x (List.mem_cons_self ..)
  rw [List.pairwise_cons] at hp
  simp only [YC,Bool.and_eq_true]
  refine ⟨⟨⟨h1,by simp only [inR,decide_eq_true_eq];omega⟩,by simp only [inR,decide_eq_true_eq];omega⟩,Zb4 (fun y hy=>?_) hp.2⟩
  obtain ⟨g1,g2,g3,g4,g5⟩:=h y (List.mem_cons_of_mem _ hy)
  exact ⟨g1,hp.1 y hy,g3,g4,g5⟩
theorem ZgB {l:Land} {on:Int} {draws:List Draw} {k i:Nat} (hok:ZH l=true) (hk:k < l.wells.length) (hl:draws.length<=200) (hd:YC l.wells.length 0 draws=true) (hi:i < draws.length) (hw:draws[i].well=k)
 (hu:∀ (j:Nat) (hj:j < draws.length),j≠i->draws[j].well≠k) (hb:0<=draws[i].day/\0<=draws[i].water) (ho:draws[i].day < on/\on<=100000) (hm:draws[i].water<=(Z1 l k [] draws[i].day).1.lo) :
 (Z1 l k draws on).2.2=0/\(Z1 l k [] on).2.2=0/\(Z1 l k draws on).1.lo<=(Z1 l k [] on).1.lo/\(Z1 l k draws on).1.hi<=(Z1 l k [] on).1.hi /\
  (Z1 l k [] on).1.lo - draws[i].water<=(Z1 l k draws on).1.lo/\(Z1 l k [] on).1.hi - draws[i].water<=(Z1 l k draws on).1.hi:=by
 have hwl:Yu l.wells[k]=true:=by
  simp only [ZH,Bool.and_eq_true,List.all_eq_true] at hok
  exact hok.1.2 _ (List.getElem_mem hk)
 simp only [Yu,Z9,inR,Bool.and_eq_true,decide_eq_true_eq] at hwl
 rw [V3 hok hk (by omega) (by simp) rfl] at hm
 rw [V3 hok hk (by omega) hl hd,V3 hok hk (by omega) (by simp) rfl]
 have hsplit:draws=draws.take i ++ draws[i] :: draws.drop (i+1):=by rw [<- List.drop_eq_getElem_cons hi,List.take_append_drop]
 generalize hdi:draws[i]=d at *
 generalize l.wells[k]=w at *
 have h1:∀ x ∈ draws.take i,x.well≠(k:Int):=fun x hx=>by
  obtain ⟨j,hj,rfl⟩:=List.getElem_of_mem hx
  rw [List.length_take] at hj
  rw [List.getElem_take]
  exact hu j (by omega) (by omega)
 have h2:∀ x ∈ draws.drop (i+1),x.well≠(k:Int):=fun x hx=>by
  obtain ⟨j,hj,rfl⟩:=List.getElem_of_mem hx
  rw [List.length_drop] at hj
  rw [List.getElem_drop]
  exact hu _ (by omega) (by omega)
 have p1:0<=(d.day - 1 - -1) * w.yld.lo:=Int.mul_nonneg (by omega) (by omega)
 have p2:0<=(on - 1 - d.day) * w.yld.lo:=Int.mul_nonneg (by omega) (by omega)
 have p3:0<=(on - 1 - d.day) * w.yld.hi:=Int.mul_nonneg (by omega) (by omega)
 have p4:(d.day - 1 - -1) * w.yld.lo<=(d.day - 1 - -1) * w.yld.hi:=Int.mul_le_mul_of_nonneg_left (by omega) (by omega)
 have e1:(on - 1 - -1) * w.yld.lo=(d.day - -1) * w.yld.lo+(on - 1 - d.day) * w.yld.lo:=by rw [<- Int.add_mul];congr 1;omega
 have e2:(on - 1 - -1) * w.yld.hi=(d.day - -1) * w.yld.hi+(on - 1 - d.day) * w.yld.hi:=by rw [<- Int.add_mul];congr 1;omega
 have e3:(d.day - -1) * w.yld.lo=(d.day - 1 - -1) * w.yld.lo+w.yld.lo:=by rw [show d.day - -1=(d.day - 1 - -1)+1 from by omega,Int.add_mul,Int.one_mul]
 have e4:(d.day - -1) * w.yld.hi=(d.day - 1 - -1) * w.yld.hi+w.yld.hi:=by rw [show d.day - -1=(d.day - 1 - -1)+1 from by omega,Int.add_mul,Int.one_mul]
 simp only [Y4,YG] at hm
 have hf:d.water<=(YG w w.has (d.day - -1)).hi:=by simp only [YG];omega
 rw [hsplit,Zf5 h1 h2 hw ho.1 hf]
 simp only [Y4,YG]
 generalize (d.day - 1 - -1) * w.yld.lo=a1 at *
 generalize (d.day - 1 - -1) * w.yld.hi=a2 at *
 generalize (on - 1 - d.day) * w.yld.lo=a3 at *
 generalize (on - 1 - d.day) * w.yld.hi=a4 at *
 generalize (d.day - -1) * w.yld.lo=a5 at *
 generalize (d.day - -1) * w.yld.hi=a6 at *
 generalize (on - 1 - -1) * w.yld.lo=a7 at *
 generalize (on - 1 - -1) * w.yld.hi=a8 at *
 refine ⟨trivial,trivial,?_,?_,?_,?_⟩<;>omega
theorem ZdC {l:Land} {p:Span} (hg:OkLP l p):∀ {legs:List Int} {ss:List Stop} {v a b to:Int} {been:List Int},Trk l p v a b legs ss->YI l v been legs=some to ->
 (ss.map Stop.well).Nodup/\∀ w ∈ ss.map Stop.well,w ∉ been/\0<=w/\w < l.wells.length
 | [],[],_,_,_,_,_,_,_=>⟨List.nodup_nil,fun w h=>by cases h⟩
 | i :: r,s :: ss,v,a,b,to,been,ht,hgo=>by
  obtain ⟨k,x,rfl,hx,ho,hr,rfl,ht⟩:=ht
  simp only [YI] at hgo
  rw [ZcM,hx] at hgo
  simp only at hgo
  split at hgo
  . cases hgo
  rename_i h1
  split at hgo
  . cases hgo
  rename_i h2
  obtain ⟨q1,q2⟩:=ZdC hg ht hgo
  have hin:=(ZW hg hx h1).1
  refine ⟨?_,?_⟩
  . rw [List.map_cons,List.nodup_cons]
    exact ⟨fun hm=>(q2 _ hm).1 (List.mem_cons_self ..),q1⟩
  . intro w hw
    rcases List.mem_cons.1 hw with rfl | hw
    . exact ⟨h2,hin⟩
    . exact ⟨fun hm=>(q2 _ hw).1 (List.mem_cons_of_mem _ hm),(q2 _ hw).2⟩
 | [],_ :: _,_,_,_,_,_,h,_=>h.elim
 | _ :: _,[],_,_,_,_,_,h,_=>h.elim
theorem Zfq {l:Land} {p:Span} (hg:OkLP l p):∀ {legs:List Int} {ss:List Stop} {v a b:Int},Trk l p v a b legs ss->a<=b->b<=100000->ss.Pairwise (fun x y=>x.arrives.lo<=y.arrives.lo)/\∀ s ∈ ss,a<=s.arrives.lo/\s.arrives.lo<=100000/\s.arrives.lo<=s.arrives.hi
 | [],[],_,_,_,_,_,_=>⟨.nil,fun _ h=>by cases h⟩
 | i :: r,s :: ss,v,a,b,ht,hab,hb=>by
  obtain ⟨k,x,rfl,hx,ho,hr,rfl,ht⟩:=ht
  have h1:=VT (k:=false) (hg.leg hx) hg.pace (show a<=100001 by omega)
  have h2:=Zdq (hg.leg hx) hg.pace hab (by omega)
  obtain ⟨q1,q2⟩:=Zfq hg ht h2 hr
  refine ⟨List.pairwise_cons.2 ⟨fun y hy=>(q2 y hy).1,q1⟩,fun y hy=>?_⟩
  rcases List.mem_cons.1 hy with rfl | hy
  . simp only;omega
  . have:=q2 y hy;omega
 | [],_ :: _,_,_,_,h,_,_=>h.elim
 | _ :: _,[],_,_,_,h,_,_=>h.elim
theorem Ze9 {s:Season} {x:Scene} {slabs:Int}:∀ {l:List Stop} {i:Nat} {c:Camel} {acc:List (Int × Int)},(goG s x slabs l i c acc).1=0->(goG s x slabs l i c acc).2.2.length=acc.length+(l.length - 1)
 | [],_,_,acc,_=>by simp [goG]
 | st :: r,i,c,acc,h=>by
  simp only [goG] at h ⊢
  split
  . rename_i hb;rw [if_pos hb] at h;exact absurd h hb
  . rename_i hb;rw [if_neg hb] at h
    rw [Ze9 h]
    split
    . rename_i hr;subst hr;simp
    . rename_i hr
      have:r.length≠0:=fun e=>hr (List.eq_nil_of_length_eq_zero e)
      simp only [List.length_append,List.length_cons,List.length_nil];omega
theorem ZfM {s:Season} {x:Scene} {slabs:Int} (hb:ZA s.breed=true):∀ {l:List Stop} {i:Nat} {c:Camel} {acc:List (Int × Int)},Zz s.breed c=true->(∀ q ∈ acc,q.1<=s.breed.full)->∀ q ∈ (goG s x slabs l i c acc).2.2,q.1<=s.breed.full
 | [],_,_,acc,_,ha=>ha
 | st :: r,i,c,acc,hc,ha=>by
  simp only [goG]
  split
  . exact ha
  have hbo:=Zbe (x:=x) (d:=(XU s.land st.leg s.pace).1) (slabs:=slabs) hb hc
  have hw:=Uo hb hbo
  refine ZfM hb (Zay hb hbo) ?_
  split
  . exact ha
  . intro q hq
    rcases List.mem_append.1 hq with hq | hq
    . exact ha q hq
    . simp only [List.mem_singleton] at hq;subst hq;simp only;omega
structure Dr (s:Season) (p:Plan) (x:Scene) (D:List Draw):Prop where
 len:D.length=p.legs.length - 1
 at_:∀ (i:Nat) (hi:i < D.length) (hs:i < (Zw s p.legs).length),D[i].well=(Zw s p.legs)[i].well/\D[i].day=(Zw s p.legs)[i].arrives.lo/\0<=D[i].water/\D[i].water<=p.animals * s.breed.full /\
  (p.animals=0->D[i].water=0)/\D[i].water<=ZbV s x (Zw s p.legs)[i]
theorem ZqM {s:Season} {p:Plan} {x:Scene} (h:OkS s) (hp:Xa s p=true) (hf:(Xi s p x).1=0):Dr s p x (YP s x p.animals p.slabs (Zw s p.legs)):=by
 obtain ⟨_,hpl⟩:=Wm hp
 have hb:=Cm.breed_bd h.beast.1
 by_cases hn:p.animals=0
 . have hsure:Wy s p.legs=true:=by
    unfold Xi at hf
    split at hf
    . simp at hf
    . rename_i q;simpa using q
   have hl:(Zw s p.legs).length=p.legs.length:=by have:=congrArg List.length (UM hsure);simpa using this
   have hD:YP s x p.animals p.slabs (Zw s p.legs)=(Zw s p.legs).dropLast.map fun st=>⟨st.well,st.arrives.lo,0⟩:=by
    unfold YP
    split
    . rename_i q;rw [q];rfl
    . first | rfl | rw [if_pos hn]
   rw [hD]
   refine ⟨by simp [hl],fun i hi hs=>?_⟩
   have hhas:=ZiC (s:=s) (x:=x) (Zw s p.legs)[i]
   simp only [List.getElem_map,List.getElem_dropLast]
   refine ⟨trivial,trivial,Int.le_refl _,by rw [hn];simp,fun _=>trivial,hhas⟩
 . obtain ⟨hsure,hg,hq⟩:=(ZvE (a:=p.legs) (k:=p.slabs) hn).1 hf
   have hl:(Zw s p.legs).length=p.legs.length:=by have:=congrArg List.length (UM hsure);simpa using this
   have hha:=Zta (s:=s) (x:=x) (slabs:=p.slabs) (l:=Zw s p.legs)
   have hbd:=Zri (x:=x) (slabs:=p.slabs) (l:=Zw s p.legs) h.beast.1 h.beast.2
   have hfu:∀ q ∈ (goF s x p.slabs (Zw s p.legs)).2.2,q.1<=s.breed.full:=by
    unfold goF
    split
    . simp
    . exact ZfM h.beast.1 h.beast.2 (by simp)
   have hlen:(goF s x p.slabs (Zw s p.legs)).2.2.length=(Zw s p.legs).length - 1:=by
    unfold goF at hg ⊢
    split
    . rename_i q;rw [q];rfl
    . rename_i q;rw [if_neg q] at hg
      have:=Ze9 hg
      simpa using this
   have hD:YP s x p.animals p.slabs (Zw s p.legs)=Wz p.animals (Zw s p.legs) (goF s x p.slabs (Zw s p.legs)).2.2:=by
    unfold YP
    split
    . rename_i q;rw [q];rfl
    . first | rfl | rw [if_neg hn]
   rw [hD]
   unfold Wz
   refine ⟨by simp only [List.length_zipWith];omega,fun i hi hs=>?_⟩
   simp only [List.length_zipWith] at hi
   have hi2:i < (goF s x p.slabs (Zw s p.legs)).2.2.length:=by omega
   have e:=hha i _ _ (List.getElem?_eq_getElem hs) (List.getElem?_eq_getElem hi2)
   have g1:=hbd.1 _ (List.getElem_mem hi2)
   have g2:=hq _ (List.getElem_mem hi2)
   have g3:=hfu _ (List.getElem_mem hi2)
   rw [List.getElem_zipWith]
   simp only [Zaa]
   refine ⟨trivial,trivial,Int.mul_nonneg hpl.1 g1.1,Int.mul_le_mul_of_nonneg_left g3 hpl.1,fun q=>absurd q hn,by rw [<- e];exact g2⟩
theorem Zpy {l:Land} {well day:Int}:0<=(Z1 l well [] day).1.hi/\(Z1 l well [] day).1.hi<=1000000000:=by
 unfold Z1
 split
 . simp
 rename_i h1
 split
 . simp
 rename_i h2
 split
 . simp
 split
 . simp
 split
 . rename_i w hw
   simp only [Bool.not_eq_false,ZH,Bool.and_eq_true,List.all_eq_true,inR,decide_eq_true_eq] at h1 h2
   have hwell:=h1.1.2 w (List.mem_of_getElem? hw)
   simp only [Yu,Z9,inR,Bool.and_eq_true,decide_eq_true_eq] at hwell
   have:0<=(day - 1 - -1) * w.yld.hi:=Int.mul_nonneg (by omega) (by omega)
   simp only [Y4,YG]
   omega
 . simp
theorem Zgl {s:Season} {p:Plan} {k:Int} (h:Zy s=true) (hp:Xa s p=true) (he:(Wl s p k).2≠0):Wl s p k=([],92):=by
 obtain ⟨h0,_⟩:=Zcm h hp
 unfold Wl at he ⊢
 rw [if_neg (by simp [h0])] at he ⊢
 split at he
 . rename_i q;rw [if_pos q]
 . split at he<;>simp at he
theorem ZeO {s:Season} {p:Plan} {k:Nat} (h:Zy s=true) (hp:Xa s p=true) (hk:k < s.scenes.length) (he:(Wl s p k).2=0) :
 (∀ x ∈ s.scenes,(Xi s p x).1=0)/\Wl s p k=(YP s s.scenes[k] p.animals p.slabs (Zw s p.legs),0):=by
 obtain ⟨h0,h1⟩:=Zcm h hp
 unfold Wl at he ⊢
 rw [if_neg (by simp [h0])] at he ⊢
 split at he
 . simp at he
 . rename_i q
   rw [if_neg q]
   refine ⟨h1.1 (Classical.byContradiction fun z=>q (.inl z)),?_⟩
   simp only [Int.toNat_natCast,List.getElem?_eq_getElem hk]
theorem ZkV {l:Land} {p:Span} (hg:OkLP l p):∀ {legs:List Int} {ss:List Stop} {v a b:Int},Trk l p v a b legs ss->b<=100000->ss.Pairwise (fun x y=>x.arrives.hi<=y.arrives.hi)/\∀ s ∈ ss,b<=s.arrives.hi
 | [],[],_,_,_,_,_=>⟨.nil,fun _ h=>by cases h⟩
 | i :: r,s :: ss,v,a,b,ht,hb=>by
  obtain ⟨k,x,rfl,hx,ho,hr,rfl,ht⟩:=ht
  have h1:=VT (k:=true) (hg.leg hx) hg.pace (show b<=100001 by omega)
  obtain ⟨q1,q2⟩:=ZkV hg ht hr
  refine ⟨List.pairwise_cons.2 ⟨fun y hy=>q2 y hy,q1⟩,fun y hy=>?_⟩
  rcases List.mem_cons.1 hy with rfl | hy
  . exact h1
  . have:=q2 y hy;omega
 | [],_ :: _,_,_,_,h,_=>h.elim
 | _ :: _,[],_,_,_,h,_=>h.elim
theorem ZhH {S:List Stop} {till:Int} (hh:S.Pairwise (fun x y=>x.arrives.hi<=y.arrives.hi)) (hs:S.length=0\/(Zee S).arrives.hi<=till) {i:Nat} (hi:i < S.length):S[i].arrives.hi<=till:=by
 have h0:S.length≠0:=by omega
 have:=ZbJ h0
 rw [List.getElem?_eq_getElem (by omega),Option.some.injEq] at this
 rcases hs with q | q
 . omega
 . rw [<- this] at q
   by_cases he:i=S.length - 1
   . subst he;exact q
   . have:=(List.pairwise_iff_getElem.1 hh) i (S.length - 1) hi (by omega) (by omega)
     omega
end Go.Azalai
namespace Go.Proofs.YtiigiflofnjilaaGreat
open Go Go.Sx
def c64:SC:=(.seq (.reg [
 o1 2 (.box (.t 0) 0 37),
 o1 4 (.alloc [.int .i64 0,.int .i64 0,.int .i64 0,.int .i64 0] 142)])
 (.seq (.reg [
 m1 5 1,
 o1 6 (.addo (.t 2) 1),
 o1 7 (.ld (.t 6) 1 false),
 o1 8 (.un .neg (.t 7)),
 o1 9 (.addo (.t 2) 2),
 o1 10 (.ld (.t 9) 1 false),
 o1 11 (.un .neg (.t 10)),
 o1 12 (.addo (.t 2) 0),
 o1 13 (.ld (.t 12) 1 false),
 o1 14 (.len (.t 13)),
 o1 15 (.un .neg (.t 14)),
 o1 16 (.build [.int .i64 0,.int .i64 0,.int .i64 0,.int .i64 0] [(0,1,.t 5),(1,1,.t 8),(2,1,.t 11),(3,1,.t 15)]),
 ⟨none,.st (.t 4) (.t 16) 4,none,[]⟩])
 .ret))
def r64:List RV:=[.cell 4 4 true]
theorem t64:Qt1 Tryz.prog 64 c64 r64 17:=Z6 Tryz.func64 rfl (by kernel_rfl) (by kernel_rfl) (by kernel_rfl) (by kernel_rfl)
def c67:SC:=(.seq (.reg [
 o1 4 (.box (.t 0) 0 37),
 o1 5 (.box (.t 1) 0 142),
 o1 6 (.box (.t 2) 0 37),
 o1 7 (.box (.t 3) 0 142),
 o1 8 (.mv (.c (.bool false)))])
 (.seq (.seq (.reg [
 o1 10 (.ld (.t 5) 4 true),
 o1 11 (.ld (.t 7) 4 true),
 o1 12 (.eqs false true [1,1,1,1] (.t 10) (.t 11))])
 (.cond (.t 12)
 (.seq (.reg [
  o1 13 (.addo (.t 4) 0),
  o1 14 (.ld (.t 13) 1 false),
  o1 15 (.addo (.t 6) 0),
  o1 16 (.ld (.t 15) 1 false),
  o1 17 (.call 114 [.t 14,.t 16]),
  o1 18 (.bin .lss (.t 17) (.c (.int .i64 0))),
  m1 8 18])
  .ret)
 .skip))
 (.seq (.seq (.reg [
 o1 19 (.mv (.c (.int .i64 0)))])
 (.block 0 (.loop (.seq (.reg [
  o1 20 (.bin .lss (.t 19) (.c (.int .i64 4)))])
  (.seq (.cond (.t 20)
  .skip
  (.exit 0))
  (.seq (.block 1 (.seq (.reg [
   m1 21 19,
   m1 9 21])
   (.seq (.regd [0,1,2,3,4,5,6] [
   .op (m1 22 9),
   .op ⟨some 23,.ixa (.t 5) (.t 22) 4 1,none,[0]⟩,
   .op ⟨some 24,.ld (.t 23) 1 false,none,[1]⟩,
   .op (m1 25 9),
   .op ⟨some 26,.ixa (.t 7) (.t 25) 4 1,none,[3]⟩,
   .op ⟨some 27,.ld (.t 26) 1 false,none,[4]⟩,
   .op ⟨some 28,.bin .neq (.t 24) (.t 27),none,[2,5]⟩] 0 0 [
])
 (.cond (.t 28)
 (.seq (.regd [0,1,2,3,4,5,6,7] [
  .op (m1 29 9),
  .op ⟨some 30,.ixa (.t 5) (.t 29) 4 1,none,[0]⟩,
  .op ⟨some 31,.ld (.t 30) 1 false,none,[1]⟩,
  .op (m1 32 9),
  .op ⟨some 33,.ixa (.t 7) (.t 32) 4 1,none,[3]⟩,
  .op ⟨some 34,.ld (.t 33) 1 false,none,[4]⟩,
  .op ⟨some 35,.bin .gtr (.t 31) (.t 34),none,[2,5]⟩,
  .op ⟨some 8,.mv (.t 35),none,[0,1,2,3,4,5,6]⟩] 0 0 [
])
 .ret)
 .skip))))
 (.reg [
 o1 36 (.bin .add (.t 19) (.c (.int .i64 1))),
 m1 19 36])))))))
 (.seq (.reg [
 o1 8 (.mv (.c (.bool false)))])
 .ret))))
def r67:List RV:=[.tmp 8]
theorem t67:Qt1 Tryz.prog 67 c67 r67 37:=Z6 Tryz.func67 rfl (by kernel_rfl) (by kernel_rfl) (by kernel_rfl) (by kernel_rfl)
def c27:SC:=(.seq (.reg [
 o1 1 (.box (.t 0) 0 34),
 o1 2 (.mv (.c (.int .i64 0))),
 o1 3 (.mv (.c (.int .i64 0)))])
 (.seq (.seq (.reg [
 o1 14 (.ld (.t 1) 37 true),
 o1 15 (.call 16 [.t 14]),
 m1 4 15])
 (.seq (.reg [
 m1 16 4,
 o1 17 (.bin .neq (.t 16) (.c (.int .i64 0)))])
 (.cond (.t 17)
 (.seq (.reg [
  m1 18 4,
  o1 2 (.mv (.c (.int .i64 0))),
  m1 3 18])
  .ret)
 .skip)))
 (.seq (.reg [
 o1 20 (.addo (.t 1) 0),
 o1 21 (.ld (.t 20) 2 true),
 o1 22 (.addo (.t 1) 33),
 o1 23 (.ld (.t 22) 1 false),
 o1 24 (.addo (.t 1) 34),
 o1 25 (.ld (.t 24) 1 false),
 o1 26 (.addo (.t 1) 2),
 o1 27 (.ld (.t 26) 2 true),
 o1 28 (.call 52 [.t 21,.t 23,.t 25,.t 27]),
 m1 19 28,
 o1 29 (.ext (.t 19) 0),
 o1 30 (.ext (.t 19) 1),
 m1 5 29,
 m1 6 30])
 (.seq (.reg [
 o1 31 (.addo (.t 1) 4),
 o1 32 (.addo (.t 31) 15),
 o1 33 (.addo (.t 32) 0),
 o1 34 (.ld (.t 33) 1 false),
 o1 35 (.addo (.t 1) 30),
 o1 36 (.ld (.t 35) 1 false),
 o1 37 (.div .quo (.t 34) (.t 36)),
 o1 38 (.mm false [.c (.int .i64 12),.t 37]),
 m1 7 38])
 (.seq (.reg [
 o1 8 (.mv (.c (.slice none 0 0)))])
 (.seq (.seq (.reg [
 o1 39 (.addo (.t 1) 36),
 o1 40 (.ld (.t 39) 1 false),
 o1 41 (.len (.t 40)),
 o1 42 (.mv (.c (.int .i64 0)))])
 (.block 0 (.loop (.seq (.reg [
  o1 43 (.bin .lss (.t 42) (.t 41))])
  (.seq (.cond (.t 43)
  .skip
  (.exit 0))
  (.seq (.block 1 (.seq (.reg [
   o1 44 (.ixs (.t 40) (.t 42) 6),
   o1 45 (.ld (.t 44) 6 true),
   o1 10 (.alloc zv5 72),
   ⟨none,.st (.t 10) (.t 45) 6,none,[]⟩])
   (.seq (.reg [
   o1 46 (.addo (.t 1) 32),
   o1 47 (.ld (.t 46) 1 false),
   m1 11 47])
   (.seq (.seq (.reg [
   m1 48 5,
   o1 49 (.len (.t 48)),
   o1 50 (.mv (.c (.int .i64 0)))])
   (.block 2 (.loop (.seq (.reg [
    o1 51 (.bin .lss (.t 50) (.t 49))])
    (.seq (.cond (.t 51)
    .skip
    (.exit 2))
    (.seq (.block 3 (.seq (.reg [
     m1 52 50,
     o1 53 (.ixs (.t 48) (.t 50) 2),
     o1 54 (.ld (.t 53) 2 true),
     o1 13 (.alloc [.int .i64 0,.int .i64 0] 27),
     m1 12 52,
     ⟨none,.st (.t 13) (.t 54) 2,none,[]⟩])
     (.seq (.reg [
     o1 55 (.addo (.t 13) 1),
     o1 56 (.ld (.t 55) 1 false),
     o1 57 (.addo (.t 1) 35),
     o1 58 (.ld (.t 57) 1 false),
     o1 59 (.bin .leq (.t 56) (.t 58))])
     (.cond (.t 59)
     (.regd [0,1,2,3,4,5,6,7,8,9,10,11,12] [
      .op (m1 60 11),
      .op (m1 61 7),
      .op (o1 62 (.addo (.t 10) 5)),
      .op ⟨some 63,.ld (.t 62) 1 false,none,[2]⟩,
      .op (m1 64 12),
      .op ⟨some 65,.ixs (.t 63) (.t 64) 1,none,[3,4]⟩,
      .op ⟨some 66,.ld (.t 65) 1 false,none,[5]⟩,
      .op (o1 67 (.addo (.t 1) 31)),
      .op ⟨some 68,.ld (.t 67) 1 false,none,[7]⟩,
      .op ⟨some 69,.bin .sub (.t 66) (.t 68),none,[6,8]⟩,
      .op ⟨some 70,.bin .mul (.t 61) (.t 69),none,[1,9]⟩,
      .op ⟨some 71,.mm true [.t 60,.t 70],none,[0,10]⟩] 0 0 [
      ⟨some 11,.mv (.t 71),none,[0,1,2,3,4,5,6,7,8,9,10,11]⟩])
     .skip))))
    (.reg [
    o1 72 (.bin .add (.t 50) (.c (.int .i64 1))),
    m1 50 72])))))))
   (.gh (.reg [
   m1 73 8,
   o1 74 (.addo (.t 1) 28),
   o1 75 (.ld (.t 74) 1 false),
   m1 76 11,
   o1 77 (.bin .mul (.t 75) (.t 76)),
   o1 78 (.bsl 1 3 [.t 77]),
   o1 79 (.appm 1 8 3 (.t 73) (.t 78)),
   m1 8 79]))))))
  (.gh (.reg [
  o1 80 (.bin .add (.t 42) (.c (.int .i64 1))),
  m1 42 80]))))))))
 (.gh (.seq (.reg [
 m1 81 8,
 o1 82 (.call 71 [.t 81]),
 m1 2 82,
 o1 3 (.mv (.c (.int .i64 0)))])
 .ret))))))))
def r27:List RV:=[.tmp 2,.tmp 3]
theorem t27:Qt1 Tryz.prog 27 c27 r27 83:=Z6 Tryz.func27 rfl (by kernel_rfl) (by kernel_rfl) (by kernel_rfl) (by kernel_rfl)
def c25:SC:=(.seq (.reg [
 o1 1 (.box (.t 0) 0 34),
 o1 2 (.alloc [.slice none 0 0,.int .i64 0,.int .i64 0] 37),
 o1 3 (.mv (.c (.int .i64 0))),
 o1 4 (.mv (.c (.int .i64 0)))])
 (.seq (.seq (.reg [
 o1 17 (.ld (.t 1) 37 true),
 o1 18 (.call 16 [.t 17]),
 m1 5 18])
 (.seq (.reg [
 m1 19 5,
 o1 20 (.bin .neq (.t 19) (.c (.int .i64 0)))])
 (.cond (.t 20)
 (.seq (.reg [
  o1 21 (.build [.slice none 0 0,.int .i64 0,.int .i64 0] []),
  m1 22 5,
  ⟨none,.st (.t 2) (.t 21) 3,none,[]⟩,
  o1 3 (.mv (.c (.int .i64 0))),
  m1 4 22])
  .ret)
 .skip)))
 (.seq (.reg [
 o1 23 (.addo (.t 1) 28),
 o1 24 (.ld (.t 23) 1 false),
 o1 25 (.addo (.t 1) 32),
 o1 26 (.ld (.t 25) 1 false),
 o1 27 (.bin .mul (.t 24) (.t 26)),
 m1 3 27])
 (.seq (.reg [
 o1 28 (.ld (.t 2) 3 true),
 m1 29 3,
 o1 30 (.call 64 [.t 28,.t 29]),
 o1 6 (.alloc [.int .i64 0,.int .i64 0,.int .i64 0,.int .i64 0] 142),
 ⟨none,.st (.t 6) (.t 30) 4,none,[]⟩])
 (.seq (.seq (.reg [
 o1 31 (.addo (.t 1) 0),
 o1 32 (.addo (.t 31) 0),
 o1 33 (.ld (.t 32) 1 false),
 o1 34 (.len (.t 33)),
 o1 35 (.mv (.c (.int .i64 0)))])
 (.block 0 (.loop (.seq (.reg [
  o1 36 (.bin .lss (.t 35) (.t 34))])
  (.seq (.cond (.t 36)
  .skip
  (.exit 0))
  (.seq (.block 1 (.seq (.reg [
   m1 37 35,
   m1 7 37])
   (.seq (.reg [
   o1 39 (.addo (.t 1) 0),
   o1 40 (.ld (.t 39) 2 true),
   o1 41 (.addo (.t 1) 33),
   o1 42 (.ld (.t 41) 1 false),
   m1 43 7,
   o1 44 (.addo (.t 1) 34),
   o1 45 (.ld (.t 44) 1 false),
   o1 46 (.addo (.t 1) 35),
   o1 47 (.ld (.t 46) 1 false),
   o1 48 (.addo (.t 1) 2),
   o1 49 (.ld (.t 48) 2 true),
   o1 50 (.call 65 [.t 40,.t 42,.t 43,.t 45,.t 47,.t 49]),
   m1 38 50,
   o1 51 (.ext (.t 38) 0),
   o1 52 (.ext (.t 38) 1),
   m1 8 51,
   m1 9 52])
   (.seq (.seq (.reg [
   m1 53 9,
   o1 54 (.bin .neq (.t 53) (.c (.int .i64 0)))])
   (.cond (.t 54)
   (.seq (.reg [
    o1 55 (.build [.slice none 0 0,.int .i64 0,.int .i64 0] []),
    ⟨none,.st (.t 2) (.t 55) 3,none,[]⟩,
    o1 3 (.mv (.c (.int .i64 0))),
    o1 4 (.mv (.c (.int .i64 9)))])
    .ret)
   .skip))
   (.seq (.reg [
   m1 56 8,
   o1 57 (.len (.t 56)),
   o1 58 (.mv (.c (.int .i64 0)))])
   (.block 2 (.loop (.seq (.reg [
    o1 59 (.bin .lss (.t 58) (.t 57))])
    (.seq (.cond (.t 59)
    .skip
    (.exit 2))
    (.seq (.block 3 (.seq (.reg [
     o1 60 (.ixs (.t 56) (.t 58) 1),
     o1 61 (.ld (.t 60) 1 false),
     m1 11 61])
     (.scope (.seq (.label 0)
     (.seq (.reg [
     o1 62 (.mv (.c (.int .i64 0)))])
     (.block 4 (.loop (.seq (.reg [
      o1 63 (.bin .lss (.t 62) (.c (.int .i64 13)))])
      (.seq (.cond (.t 63)
      .skip
      (.exit 4))
      (.seq (.block 5 (.seq (.reg [
       m1 64 62,
       m1 12 64])
       (.seq (.reg [
       o1 65 (.ld (.t 1) 37 true),
       m1 66 11,
       m1 67 12,
       o1 68 (.call 66 [.t 65,.t 66,.t 67]),
       m1 13 68])
       (.block 6 (.loop (.seq (.block 7 (.seq (.seq (.reg [
        m1 71 13,
        o1 72 (.bin .eql (.t 71) (.c (.int .i64 0)))])
        (.cond (.t 72)
        (.exit 5)
        .skip))
        (.seq (.reg [
        m1 73 11,
        m1 74 13,
        m1 75 12,
        o1 76 (.build [.slice none 0 0,.int .i64 0,.int .i64 0] [(0,1,.t 73),(1,1,.t 74),(2,1,.t 75)]),
        o1 14 (.alloc [.slice none 0 0,.int .i64 0,.int .i64 0] 37),
        ⟨none,.st (.t 14) (.t 76) 3,none,[]⟩])
        (.seq (.reg [
        o1 77 (.ld (.t 1) 37 true),
        o1 78 (.ld (.t 14) 3 true),
        m1 79 7,
        o1 80 (.call 59 [.t 77,.t 78,.t 79]),
        m1 15 80])
        (.seq (.reg [
        o1 81 (.ld (.t 14) 3 true),
        m1 82 15,
        o1 83 (.call 64 [.t 81,.t 82]),
        o1 16 (.alloc [.int .i64 0,.int .i64 0,.int .i64 0,.int .i64 0] 142),
        ⟨none,.st (.t 16) (.t 83) 4,none,[]⟩])
        (.seq (.reg [
        o1 84 (.ld (.t 14) 3 true),
        o1 85 (.ld (.t 16) 4 true),
        o1 86 (.ld (.t 2) 3 true),
        o1 87 (.ld (.t 6) 4 true),
        o1 88 (.call 67 [.t 84,.t 85,.t 86,.t 87])])
        (.cond (.t 88)
        (.regd [0,1,2,3,4,5] [
         .op (o1 89 (.ld (.t 14) 3 true)),
         .hide (.t 2),
         .op (m1 90 15),
         .op (o1 91 (.ld (.t 16) 4 true))] 0 3 [
         ⟨none,.st (.t 2) (.t 89) 3,none,[0]⟩,
         ⟨some 3,.mv (.t 90),none,[0,1,3]⟩,
         ⟨none,.st (.t 6) (.t 91) 4,none,[0,1,2,3,4]⟩])
        .skip)))))))
        (.reg [
        m1 69 13,
        o1 70 (.bin .sub (.t 69) (.c (.int .i64 1))),
        m1 13 70])))))))
      (.reg [
      o1 92 (.bin .add (.t 62) (.c (.int .i64 1))),
      m1 62 92])))))))))))
    (.reg [
    o1 93 (.bin .add (.t 58) (.c (.int .i64 1))),
    m1 58 93])))))))))))
  (.reg [
  o1 94 (.bin .add (.t 35) (.c (.int .i64 1))),
  m1 35 94])))))))
 (.seq (.reg [
 o1 95 (.ld (.t 2) 3 true),
 m1 96 3,
 ⟨none,.st (.t 2) (.t 95) 3,none,[]⟩,
 m1 3 96,
 o1 4 (.mv (.c (.int .i64 0)))])
 .ret))))))
def r25:List RV:=[.cell 2 3 true,.tmp 3,.tmp 4]
theorem n25:Tryz.f25.ntmps=97:=by kernel_rfl
theorem b25:YL Tryz.prog 25=true:=by kernel_rfl
theorem ZwS:XB Tryz.prog c25 ((Tryz.f25.body).getD .skip)=true:=by kernel_rfl
theorem Zxv:Wd Tryz.prog r25 Tryz.f25.results.toList=true:=by kernel_rfl
def c73:SC:=(.seq (.reg [
 o1 0 (.alloc zv2 34)])
 (.seq (.reg [
 o1 1 (.mv (.f 119))])
 (.seq (.reg [
 o1 2 (.build zv4 []),
 o1 3 (.build zv4 [(5,1,.c (.int .i64 1000000))]),
 o1 4 (.build zv4 []),
 o1 5 (.bsl 9 88 [.t 2,.t 3,.t 4]),
 m1 6 1,
 o1 7 (.calv (.t 6) [.c (.int .i64 0),.c (.int .i64 1),.c (.int .i64 40000)]),
 m1 8 1,
 o1 9 (.calv (.t 8) [.c (.int .i64 1),.c (.int .i64 2),.c (.int .i64 40000)]),
 m1 10 1,
 o1 11 (.calv (.t 10) [.c (.int .i64 0),.c (.int .i64 2),.c (.int .i64 100000)]),
 o1 12 (.bsl 5 83 [.t 7,.t 9,.t 11]),
 o1 13 (.build [.slice none 0 0,.slice none 0 0] [(0,1,.t 5),(1,1,.t 12)]),
 o1 14 (.call 43 [.c (.int .i64 20000),.c (.int .i64 20000)]),
 o1 15 (.call 43 [.c (.int .i64 5000),.c (.int .i64 5000)]),
 o1 16 (.call 43 [.c (.int .i64 1000),.c (.int .i64 1000)]),
 o1 17 (.call 43 [.c (.int .i64 100),.c (.int .i64 100)]),
 o1 18 (.call 43 [.c (.int .i64 200000),.c (.int .i64 200000)]),
 o1 19 (.build [.int .i64 0,.int .i64 0,.int .i64 0,.int .i64 0,.int .i64 0,.int .i64 0,.int .i64 0,.int .i64 0,.int .i64 0,.int .i64 0,.int .i64 0,.int .i64 0,.int .i64 0,.int .i64 0,.int .i64 0,.int .i64 0,.int .i64 0] [(0,1,.c (.int .i64 100000)),(1,1,.c (.int .i64 50000)),(2,2,.t 15),(6,2,.t 16),(8,2,.t 17),(15,2,.t 18)]),
 o1 20 (.call 43 [.c (.int .i64 100000),.c (.int .i64 100000)]),
 o1 21 (.call 43 [.c (.int .i64 50000),.c (.int .i64 50000)]),
 o1 22 (.build zv3 [(0,2,.t 20),(2,2,.t 21)]),
 o1 23 (.build [.int .i64 0,.int .i64 0] []),
 o1 24 (.call 43 [.c (.int .i64 50000),.c (.int .i64 50000)]),
 o1 25 (.build [.int .i64 0,.int .i64 0] []),
 o1 26 (.bsl 2 27 [.t 23,.t 24,.t 25]),
 o1 27 (.bsl 1 3 [.c (.int .i64 10),.c (.int .i64 12),.c (.int .i64 40)]),
 o1 28 (.build zv5 [(4,1,.t 26),(5,1,.t 27)]),
 o1 29 (.bsl 6 72 [.t 28]),
 o1 30 (.build zv2 [(0,2,.t 13),(2,2,.t 14),(4,17,.t 19),(21,7,.t 22),(28,1,.c (.int .i64 10)),(29,1,.c (.int .i64 10)),(30,1,.c (.int .i64 50000)),(31,1,.c (.int .i64 10)),(32,1,.c (.int .i64 60)),(35,1,.c (.int .i64 20)),(36,1,.t 29)]),
 ⟨none,.st (.t 0) (.t 30) 37,none,[]⟩])
 .ret)))
def r73:List RV:=[.cell 0 37 true]
theorem n73:Tryz.f73.ntmps=31:=by kernel_rfl
theorem b73:YL Tryz.prog 73=true:=by kernel_rfl
theorem ZxB:XB Tryz.prog c73 ((Tryz.f73.body).getD .skip)=true:=by kernel_rfl
theorem Zyb:Wd Tryz.prog r73 Tryz.f73.results.toList=true:=by kernel_rfl
def c119:SC:=(.seq (.reg [
 o1 6 (.alloc zv6 83)])
 (.seq (.reg [
 m1 7 0,
 m1 8 1,
 m1 9 2,
 m1 10 2,
 o1 11 (.call 43 [.t 9,.t 10]),
 o1 12 (.call 43 [.c (.int .i64 99),.c (.int .i64 99)]),
 o1 13 (.build [.int .i64 0,.int .i64 0,.int .i64 0,.int .i64 0] [(2,2,.t 12)]),
 o1 14 (.bsl 4 85 [.t 13]),
 o1 15 (.build zv6 [(0,1,.t 7),(1,1,.t 8),(2,2,.t 11),(4,1,.t 14)]),
 ⟨none,.st (.t 6) (.t 15) 5,none,[]⟩])
 .ret))
def r119:List RV:=[.cell 6 5 true]
theorem n119:Tryz.f119.ntmps=16:=by kernel_rfl
theorem b119:YL Tryz.prog 119=true:=by kernel_rfl
theorem Zup:XB Tryz.prog c119 ((Tryz.f119.body).getD .skip)=true:=by kernel_rfl
theorem Zti:Wd Tryz.prog r119 Tryz.f119.results.toList=true:=by kernel_rfl
def c74:SC:=(.seq (.reg [
 o1 6 (.alloc [.slice none 0 0,.int .i64 0,.int .i64 0] 37)])
 (.seq (.reg [
 m1 7 2,
 m1 8 0,
 m1 9 1,
 o1 10 (.build [.slice none 0 0,.int .i64 0,.int .i64 0] [(0,1,.t 7),(1,1,.t 8),(2,1,.t 9)]),
 ⟨none,.st (.t 6) (.t 10) 3,none,[]⟩])
 .ret))
def r74:List RV:=[.cell 6 3 true]
theorem n74:Tryz.f74.ntmps=11:=by kernel_rfl
theorem b74:YL Tryz.prog 74=true:=by kernel_rfl
theorem Zxm:XB Tryz.prog c74 ((Tryz.f74.body).getD .skip)=true:=by kernel_rfl
theorem Zxw:Wd Tryz.prog r74 Tryz.f74.results.toList=true:=by kernel_rfl
def c43:SC:=(.seq (.reg [
 o1 4 (.alloc [.int .i64 0,.int .i64 0] 27)])
 (.seq (.reg [
 m1 5 0,
 m1 6 1,
 o1 7 (.build [.int .i64 0,.int .i64 0] [(0,1,.t 5),(1,1,.t 6)]),
 ⟨none,.st (.t 4) (.t 7) 2,none,[]⟩])
 .ret))
def r43:List RV:=[.cell 4 2 true]
theorem t43:Qt1 Tryz.prog 43 c43 r43 8:=Z6 Tryz.func43 rfl (by kernel_rfl) (by kernel_rfl) (by kernel_rfl) (by kernel_rfl)
def c30:SC:=(.seq (.reg [
 o1 0 (.mv (.c (.bool false)))])
 (.seq (.reg [
 o1 23 (.call 73 []),
 o1 24 (.bsl 1 3 [.c (.int .i64 0),.c (.int .i64 1)]),
 o1 25 (.call 74 [.c (.int .i64 2),.c (.int .i64 2),.t 24]),
 o1 26 (.call 14 [.t 23,.t 25]),
 m1 22 26,
 o1 27 (.ext (.t 22) 0),
 o1 28 (.ext (.t 22) 1),
 o1 29 (.ext (.t 22) 2),
 o1 30 (.ext (.t 22) 3),
 m1 1 27,
 m1 2 28,
 m1 3 29,
 m1 4 30])
 (.seq (.reg [
 o1 32 (.call 73 []),
 o1 33 (.bsl 1 3 [.c (.int .i64 0),.c (.int .i64 1)]),
 o1 34 (.call 74 [.c (.int .i64 3),.c (.int .i64 2),.t 33]),
 o1 35 (.call 14 [.t 32,.t 34]),
 m1 31 35,
 o1 36 (.ext (.t 31) 0),
 o1 37 (.ext (.t 31) 1),
 o1 38 (.ext (.t 31) 2),
 o1 39 (.ext (.t 31) 3),
 m1 5 36,
 m1 6 37,
 m1 7 38,
 m1 8 39])
 (.seq (.reg [
 o1 41 (.call 73 []),
 o1 42 (.bsl 1 3 [.c (.int .i64 2)]),
 o1 43 (.call 74 [.c (.int .i64 10),.c (.int .i64 1),.t 42]),
 o1 44 (.call 14 [.t 41,.t 43]),
 m1 40 44,
 o1 45 (.ext (.t 40) 0),
 o1 46 (.ext (.t 40) 1),
 o1 47 (.ext (.t 40) 2),
 o1 48 (.ext (.t 40) 3),
 m1 9 45,
 m1 10 46,
 m1 11 47,
 m1 12 48])
 (.seq (.reg [
 o1 50 (.call 73 []),
 o1 51 (.bsl 1 3 [.c (.int .i64 0),.c (.int .i64 1)]),
 o1 52 (.call 74 [.c (.int .i64 2),.c (.int .i64 2),.t 51]),
 o1 53 (.call 20 [.t 50,.t 52]),
 m1 49 53,
 o1 54 (.ext (.t 49) 0),
 o1 55 (.ext (.t 49) 1),
 m1 13 54,
 m1 14 55])
 (.seq (.reg [
 o1 57 (.call 73 []),
 o1 58 (.bsl 1 3 [.c (.int .i64 0),.c (.int .i64 1)]),
 o1 59 (.call 74 [.c (.int .i64 2),.c (.int .i64 2),.t 58]),
 o1 60 (.call 22 [.t 57,.t 59,.c (.int .i64 0)]),
 m1 56 60,
 o1 61 (.ext (.t 56) 0),
 o1 62 (.ext (.t 56) 1),
 m1 15 61,
 m1 16 62])
 (.seq (.reg [
 o1 64 (.call 73 []),
 o1 65 (.call 25 [.t 64]),
 m1 63 65,
 o1 66 (.ext (.t 63) 0),
 o1 67 (.ext (.t 63) 1),
 o1 68 (.ext (.t 63) 2),
 o1 17 (.alloc [.slice none 0 0,.int .i64 0,.int .i64 0] 37),
 ⟨none,.st (.t 17) (.t 66) 3,none,[]⟩,
 m1 18 67,
 m1 19 68])
 (.seq (.reg [
 o1 70 (.call 73 []),
 o1 71 (.call 27 [.t 70]),
 m1 69 71,
 o1 72 (.ext (.t 69) 0),
 o1 73 (.ext (.t 69) 1),
 m1 20 72,
 m1 21 73])
 (.seq (.regd [0,1,2,3,4,5,6,7,8,9,10,11,12,13,14,15,16,17,18,19,20,21,22,23,24,25,26,27,28,29,30,31,32,33,34,35,36,37,38,39,40,41,42,43,44,45,46,47,48,49,50,51,52,53,54,55,56,57,58,59,60,61,62] [
 .op (m1 74 4),
 .op ⟨some 75,.bin .eql (.t 74) (.c (.int .i64 0)),none,[0]⟩,
 .op ⟨some 76,.mv (.t 75),none,[1]⟩,
 .op ⟨some 77,.mv (.t 1),some (76,true),[2]⟩,
 .op ⟨some 78,.bin .eql (.t 77) (.c (.int .u8 0)),some (76,true),[2,3]⟩,
 .op ⟨some 79,.pick (.t 76) (.t 78) (.c (.bool false)),none,[2,4]⟩,
 .op ⟨some 80,.mv (.t 79),none,[2,5]⟩,
 .op ⟨some 81,.mv (.t 8),some (80,true),[6]⟩,
 .op ⟨some 82,.bin .eql (.t 81) (.c (.int .i64 0)),some (80,true),[6,7]⟩,
 .op ⟨some 83,.pick (.t 80) (.t 82) (.c (.bool false)),none,[6,8]⟩,
 .op ⟨some 84,.mv (.t 83),none,[6,9]⟩,
 .op ⟨some 85,.mv (.t 5),some (84,true),[10]⟩,
 .op ⟨some 86,.bin .eql (.t 85) (.c (.int .u8 4)),some (84,true),[10,11]⟩,
 .op ⟨some 87,.pick (.t 84) (.t 86) (.c (.bool false)),none,[10,12]⟩,
 .op ⟨some 88,.mv (.t 87),none,[10,13]⟩,
 .op ⟨some 89,.mv (.t 12),some (88,true),[14]⟩,
 .op ⟨some 90,.bin .eql (.t 89) (.c (.int .i64 0)),some (88,true),[14,15]⟩,
 .op ⟨some 91,.pick (.t 88) (.t 90) (.c (.bool false)),none,[14,16]⟩,
 .op ⟨some 92,.mv (.t 91),none,[14,17]⟩,
 .op ⟨some 93,.mv (.t 9),some (92,true),[18]⟩,
 .op ⟨some 94,.bin .eql (.t 93) (.c (.int .u8 0)),some (92,true),[18,19]⟩,
 .op ⟨some 95,.pick (.t 92) (.t 94) (.c (.bool false)),none,[18,20]⟩,
 .op ⟨some 96,.mv (.t 95),none,[18,21]⟩,
 .op ⟨some 97,.mv (.t 14),some (96,true),[22]⟩,
 .op ⟨some 98,.bin .eql (.t 97) (.c (.int .i64 0)),some (96,true),[22,23]⟩,
 .op ⟨some 99,.pick (.t 96) (.t 98) (.c (.bool false)),none,[22,24]⟩,
 .op ⟨some 100,.mv (.t 99),none,[22,25]⟩,
 .op ⟨some 101,.mv (.t 13),some (100,true),[26]⟩,
 .op ⟨some 102,.bin .eql (.t 101) (.c (.int .i64 600)),some (100,true),[26,27]⟩,
 .op ⟨some 103,.pick (.t 100) (.t 102) (.c (.bool false)),none,[26,28]⟩,
 .op ⟨some 104,.mv (.t 103),none,[26,29]⟩,
 .op ⟨some 105,.mv (.t 16),some (104,true),[30]⟩,
 .op ⟨some 106,.bin .eql (.t 105) (.c (.int .i64 0)),some (104,true),[30,31]⟩,
 .op ⟨some 107,.pick (.t 104) (.t 106) (.c (.bool false)),none,[30,32]⟩,
 .op ⟨some 108,.mv (.t 107),none,[30,33]⟩,
 .op ⟨some 109,.mv (.t 15),some (108,true),[34]⟩,
 .op ⟨some 110,.build [.int .i64 0,.int .i64 0,.int .i64 0] [(0,1,.c (.int .i64 1)),(1,1,.c (.int .i64 2)),(2,1,.c (.int .i64 100000))],some (108,true),[34]⟩,
 .op ⟨some 111,.bsl 3 111 [.t 110],some (108,true),[34,36]⟩,
 .op ⟨some 112,.call 24 [.t 109,.t 111],some (108,true),[34,35,37]⟩,
 .op ⟨some 113,.pick (.t 108) (.t 112) (.c (.bool false)),none,[34,38]⟩,
 .op ⟨some 114,.mv (.t 113),none,[38,39]⟩,
 .op ⟨some 115,.mv (.t 19),some (114,true),[40]⟩,
 .op ⟨some 116,.bin .eql (.t 115) (.c (.int .i64 0)),some (114,true),[40,41]⟩,
 .op ⟨some 117,.pick (.t 114) (.t 116) (.c (.bool false)),none,[40,42]⟩,
 .op ⟨some 118,.mv (.t 117),none,[40,43]⟩,
 .op ⟨some 119,.mv (.t 18),some (118,true),[44]⟩,
 .op ⟨some 120,.bin .eql (.t 119) (.c (.int .i64 660)),some (118,true),[44,45]⟩,
 .op ⟨some 121,.pick (.t 118) (.t 120) (.c (.bool false)),none,[44,46]⟩,
 .op ⟨some 122,.mv (.t 121),none,[44,47]⟩,
 .op ⟨some 123,.ld (.t 17) 3 true,some (122,true),[48]⟩,
 .op ⟨some 124,.bsl 1 3 [.c (.int .i64 0),.c (.int .i64 1)],some (122,true),[48]⟩,
 .op ⟨some 125,.call 74 [.c (.int .i64 1),.c (.int .i64 4),.t 124],some (122,true),[48,50]⟩,
 .op ⟨some 126,.call 19 [.t 123,.t 125],some (122,true),[48,49,51]⟩,
 .op ⟨some 127,.pick (.t 122) (.t 126) (.c (.bool false)),none,[48,52]⟩,
 .op ⟨some 128,.mv (.t 127),none,[52,53]⟩,
 .op ⟨some 129,.mv (.t 21),some (128,true),[54]⟩,
 .op ⟨some 130,.bin .eql (.t 129) (.c (.int .i64 0)),some (128,true),[54,55]⟩,
 .op ⟨some 131,.pick (.t 128) (.t 130) (.c (.bool false)),none,[54,56]⟩,
 .op ⟨some 132,.mv (.t 131),none,[54,57]⟩,
 .op ⟨some 133,.mv (.t 20),some (132,true),[58]⟩,
 .op ⟨some 134,.bin .eql (.t 133) (.c (.int .i64 1200)),some (132,true),[58,59]⟩,
 .op ⟨some 135,.pick (.t 132) (.t 134) (.c (.bool false)),none,[58,60]⟩,
 .op ⟨some 0,.mv (.t 135),none,[0,1,2,3,4,5,6,7,8,9,10,11,12,13,14,15,16,17,18,19,20,21,22,23,24,25,26,27,28,29,30,31,32,33,34,35,36,37,38,39,40,41,42,43,44,45,46,47,48,49,50,51,52,53,54,55,56,57,58,59,60,61]⟩] 0 0 [
])
 .ret)))))))))
def r30:List RV:=[.tmp 0]
theorem t30:Qt1 Tryz.prog 30 c30 r30 136:=Z6 Tryz.func30 rfl (by kernel_rfl) (by kernel_rfl) (by kernel_rfl) (by kernel_rfl)
def c31:SC:=(.seq (.reg [
 o1 2 (.box (.t 0) 0 34),
 o1 3 (.box (.t 1) 0 37),
 o1 4 (.mv (.c (.bool false)))])
 (.seq (.reg [
 o1 5 (.ld (.t 2) 37 true),
 o1 6 (.call 12 [.t 5]),
 o1 7 (.un .not (.t 6)),
 m1 8 7,
 ⟨some 9,.ld (.t 2) 37 true,some (8,true),[]⟩,
 ⟨some 10,.call 17 [.t 9],some (8,true),[]⟩,
 ⟨some 11,.bin .eql (.t 10) (.c (.int .i64 0)),some (8,true),[]⟩,
 o1 12 (.pick (.t 8) (.t 11) (.c (.bool false))),
 m1 13 12,
 ⟨some 14,.addo (.t 3) 0,some (13,true),[]⟩,
 ⟨some 15,.ld (.t 14) 1 false,some (13,true),[]⟩,
 ⟨some 16,.len (.t 15),some (13,true),[]⟩,
 ⟨some 17,.bin .leq (.t 16) (.c (.int .i64 40)),some (13,true),[]⟩,
 o1 18 (.pick (.t 13) (.t 17) (.c (.bool false))),
 m1 19 18,
 ⟨some 20,.ld (.t 2) 37 true,some (19,true),[]⟩,
 ⟨some 21,.ld (.t 3) 3 true,some (19,true),[]⟩,
 ⟨some 22,.call 44 [.t 20,.t 21],some (19,true),[]⟩,
 o1 23 (.pick (.t 19) (.t 22) (.c (.bool false))),
 m1 24 23,
 ⟨some 25,.addo (.t 2) 35,some (24,true),[]⟩,
 ⟨some 26,.ld (.t 25) 1 false,some (24,true),[]⟩,
 ⟨some 27,.bin .leq (.t 26) (.c (.int .i64 2000)),some (24,true),[]⟩,
 o1 28 (.pick (.t 24) (.t 27) (.c (.bool false))),
 m1 4 28])
 .ret))
def r31:List RV:=[.tmp 4]
theorem t31:Qt1 Tryz.prog 31 c31 r31 29:=Z6 Tryz.func31 rfl (by kernel_rfl) (by kernel_rfl) (by kernel_rfl) (by kernel_rfl)
open Go.Azalai
theorem goalN {s:Season} (h:OkS s) {p:Plan} (hp:Xa s p=true):∃ m:Nat,m < s.land.wells.length/\YI s.land s.start [s.start] p.legs=some (m:Int):=by
 obtain ⟨⟨to,hto⟩,_⟩:=Wm hp
 have:=ZcT h.lp h.start hto
 exact ⟨to.toNat,by omega,by rw [hto];congr 1;omega⟩
theorem ZjB (s:Season) (hs:SmallS s) (p:Plan) (hg:p.legs.length<=1000):Ct Tryz.prog 20 [.agg (Zr s),.agg (ZB p)] (.tup [I (Zco s p).1,I (Zco s p).2]):=by
 refine t20.1 (by simp [Zr,ZB,Zj,Ze,Zm,Zg,Zd,Zo,Za,KFL,KF]) (by simp [KFL,KF]) ?_
 dsimp only [c20,r20,Zr,ZB,go_sem,rA,rM,rS]
 refine call (V5 s hs p hg) ?_
 dsimp only [ZcD,go_sem,rA,rM,rS]
 by_cases he:(Ym s p).2.2.2=0
 case neg =>
  refine Zu (by simpa using he) ?_
  dsimp only [go_sem,rA,rM,rS]
  simp [Zco,he]
 refine Zv (by simpa using he) ?_
 dsimp only [go_sem,rA,rM,rS]
 by_cases hw:(Ym s p).1=0
 case neg =>
  refine Zu (by simpa using hw) ?_
  dsimp only [go_sem,rA,rM,rS]
  simp [Zco,he,hw]
 refine Zv (by simpa using hw) ?_
 dsimp only [go_sem,rA,rM,rS]
 obtain ⟨ho,hp⟩:=Zbx he
 have h:OkS s:=⟨hs,ho⟩
 obtain ⟨m,hm,hto⟩:=goalN h hp
 refine call (Zd9 s hs h.land h.pace h.start p.legs hg _) ?_
 dsimp only [go_sem,rA,rM,rS]
 rw [hto]
 simp only [Option.getD_some]
 refine call (Zfs s h p hp m hm) ?_
 dsimp only [go_sem,rA,rM,rS]
 simp [Zco,he,hw,hto]
def ZfN (r:List Draw × Int):SV:=.tup [.sl false 3 (r.1.map ZK),I r.2]
theorem u22 {args:List SV} {res:SV} (ka:KFL args) (kr:KF res) (h:sx Tryz.prog Y0 0 cw22 (st0 args 48) (ZpI rw22 res)) (hA:Nat.ble args.length 48=true:=by rfl):Ct Tryz.prog 22 args res:=Wo Tryz.func22 rfl bw22 Zr3 Zuh nw22 (Nat.le_of_ble_eq_true hA) ka kr h
theorem Zfx (s:Season) (hs:SmallS s) (p:Plan) (hg:p.legs.length<=1000) (k:Int):Ct Tryz.prog 22 [.agg (Zr s),.agg (ZB p),I k] (ZfN (Wl s p k)):=by
 have hsc:=hs.sc
 refine u22 (by simp [Zr,ZB,Zj,Ze,Zm,Zg,Zd,Zo,Za,KFL,KF]) (by simp [ZfN,ZK,Za,KFL,KF]) ?_
 dsimp only [cw22,rw22,Zr,ZB,go_sem,rA,rM,rS]
 refine call (V5 s hs p hg) ?_
 dsimp only [ZcD,go_sem,rA,rM,rS]
 by_cases he:(Ym s p).2.2.2=0
 case neg =>
  refine Zu (by simpa using he) ?_
  dsimp only [go_sem,rA,rM,rS]
  refine ⟨_,rfl,?_⟩
  rw [Wl,if_pos he]
  exact XZ (ZS YF XN)
 refine Zv (by simpa using he) ?_
 dsimp only [go_sem,rA,rM,rS]
 obtain ⟨ho,hp⟩:=Zbx he
 have h:OkS s:=⟨hs,ho⟩
 try simp only [List.length_map]
 repeat (first | (refine gb ?_;dsimp only [go_sem,rA,rM,rS]) | (refine call (ZfC _ _ _ _) ?_;dsimp only [go_sem,rA,rM,rS]))
 simp only [List.length_map]
 rw [Zi (n:=(s.scenes.length:Int) - 1) (by omega) (by omega)]
 by_cases hw:(Ym s p).1≠0\/inR 0 (s.scenes.length - 1) k=false
 . refine Zu (by simpa using hw) ?_
   dsimp only [go_sem,rA,rM,rS]
   refine ⟨_,rfl,?_⟩
   rw [Wl,if_neg (by simpa using he),if_pos hw]
   exact XZ (ZS YF XN)
 refine Zv (by simpa using hw) ?_
 dsimp only [go_sem,rA,rM,rS]
 have hw1:(Ym s p).1=0:=Classical.byContradiction fun q=>hw (.inl q)
 have hk:0<=k/\k < s.scenes.length:=by
  have:inR 0 (s.scenes.length - 1) k=true:=by cases hq:inR 0 (s.scenes.length - 1) k with | true=>rfl | false=>exact absurd (.inr hq) hw
  simp only [inR,decide_eq_true_eq] at this;omega
 obtain ⟨j,rfl⟩:∃ j:Nat,k=j:=⟨k.toNat,by omega⟩
 have hj:j < s.scenes.length:=by omega
 have ht:=Zi2 s h j hj p hp hg
 have hf:=Zov he hw1 _ (List.getElem_mem hj)
 have hR:Wl s p j=(YP s s.scenes[j] p.animals p.slabs (Zw s p.legs),0):=by
  rw [Wl,if_neg (by simpa using he),if_neg hw]
  simp only [Int.toNat_natCast,List.getElem?_eq_getElem hj]
 rw [hR]
 have hT:Wu s p s.scenes[j]=YP s s.scenes[j] p.animals p.slabs (Zw s p.legs):=by rw [Wu,if_pos hf]
 rw [hT] at ht
 generalize YP s s.scenes[j] p.animals p.slabs (Zw s p.legs)=D at ht ⊢
 generalize Xi s p s.scenes[j]=w at ht
 refine YQ [] ht rfl rfl rfl ?_ ?_ ?_
 . exact Zc (by simp [Yn,ZB,Ze,Zm,Zg,Zj,Zd,Zo,ZL,Za,KFL,KF])
 . trivial
 rintro _ rfl
 (repeat first | dsimp only [Zq8,go_sem,rA,rM,rS] | simp only [nbr])
 exact ⟨_,rfl,fun _ _ _ _ _ h=>h⟩
theorem Zdt (a b:List Draw) (ha:a.length<=1000000) (hb:b.length<=1000000) (c d:Bool):Ct Tryz.prog 24 [.sl c 3 (a.map ZK),.sl d 3 (b.map ZK)] (B (decide (a=b))):=by
 refine t24.1 (by simp [ZK,Za,KFL,KF]) (by simp [KFL,KF]) ?_
 dsimp only [c24,r24,go_sem,rA,rM,rS]
 simp only [List.length_map]
 by_cases hl:a.length=b.length
 case neg =>
  refine Zu (by simp;omega) ?_
  dsimp only [go_sem,rA,rM,rS]
  rw [decide_eq_false (fun e=>hl (by rw [e]))]
 refine Zv (by simp;omega) ?_
 dsimp only [go_sem,rA,rM,rS]
 refine W3 [0,1,4,5] rfl (fun k:Nat=>[(5,I k)]) (fun _=>[]) (fun k=>k<=a.length/\(a=b↔a.drop k=b.drop k)) (fun k=>a.length - k) 0 ⟨Nat.zero_le _,by simp⟩ ?_ ?_
 . (refine Zl ?_ ?_ ?_ rfl rfl<;>dsimp only [ZK,id,go_sem,rA,rM,rS]<;>simp [ZK,Za,Zf,KFR,KFL,KF,Zc,mtO,nbr])
 rintro k ⟨hk,hi⟩
 dsimp only [go_sem,rA,rM,rS]
 simp only [List.length_map]
 by_cases hlt:k < a.length
 case neg =>
  refine Zv (by simp;omega) ?_
  dsimp only [go_sem,rA,rM,rS]
  rw [List.drop_eq_nil_of_le (by omega),List.drop_eq_nil_of_le (by omega)] at hi
  rw [decide_eq_true (hi.2 rfl)]
 refine Zu (by simpa using hlt) ?_
 dsimp only [go_sem,rA,rM,rS]
 have hlb:k < b.length:=by omega
 refine Zp k hlt rfl ?_
 dsimp only [go_sem,rA,rM,rS]
 refine Zp k hlb rfl ?_
 dsimp only [ZK,go_sem,rA,rM,rS]
 rw [List.drop_eq_getElem_cons hlt,List.drop_eq_getElem_cons hlb,List.cons.injEq] at hi
 by_cases hq:a[k]=b[k]
 . refine Zv (by simp [hq]) ?_
   dsimp only [go_sem,rA,rM,rS]
   rw [Zi (n:=(k:Int)+1) (by omega) (by omega)]
   refine ⟨k+1,⟨hlt,by rw [hi];simp [hq]⟩,by omega,?_⟩
   (refine Zl ?_ ?_ ?_ rfl rfl<;>dsimp only [ZK,id,go_sem,rA,rM,rS]<;>simp [ZK,Za,Zf,KFR,KFL,KF,Zc,mtO,nbr])
 . have hne:¬ (a[k].well=b[k].well/\a[k].day=b[k].day/\a[k].water=b[k].water):=fun q=>hq (by
    revert q;generalize a[k]=x;generalize b[k]=y;intro q;cases x;cases y;simpa using q)
   refine Zu (by simp;omega) ?_
   dsimp only [go_sem,rA,rM,rS]
   rw [decide_eq_false (fun e=>hq (hi.1 e).1)]
end Go.Proofs.YtiigiflofnjilaaGreat
namespace Go.Azalai
open Go.Sx Go.Proofs.YtiigiflofnjilaaGreat
theorem Zfg {l:Land} {well day:Int}:(Z1 l well [] day).1.lo<=1000000000:=by
 unfold Z1
 split
 . simp
 rename_i h1
 split
 . simp
 split
 . simp
 split
 . simp
 split
 . rename_i w hw
   simp only [Bool.not_eq_false,ZH,Bool.and_eq_true,List.all_eq_true,inR,decide_eq_true_eq] at h1
   have hwell:=h1.1.2 w (List.mem_of_getElem? hw)
   simp only [Yu,Z9,inR,Bool.and_eq_true,decide_eq_true_eq] at hwell
   simp only [Y4,YG]
   omega
 . simp
theorem Zww {s:Season} {x:Scene} (st:Stop):ZbV s x st<=1000000000:=Zfg
theorem ZeB {s:Season} {p:Plan} {x:Scene} (h:OkS s) (hp:Xa s p=true):∀ d ∈ Wu s p x,0<=d.water/\d.water<=30000000:=by
 have hn:=h.num
 obtain ⟨_,hpl⟩:=Wm hp
 intro d hd
 unfold Wu at hd
 split at hd
 . unfold YP at hd
   split at hd
   . cases hd
   split at hd
   . obtain ⟨st,_,rfl⟩:=List.mem_map.1 hd
     simp
   . unfold Wz at hd
     obtain ⟨i,hi,rfl⟩:=List.getElem_of_mem hd
     simp only [List.length_zipWith] at hi
     rw [List.getElem_zipWith]
     have hb:=(Zri (x:=x) (slabs:=p.slabs) (l:=Zw s p.legs) h.beast.1 h.beast.2).1 _ (List.getElem_mem (show i < _ by omega))
     simp only [Zaa]
     have h1:0<=p.animals * ((goF s x p.slabs (Zw s p.legs)).2.2[i]'(by omega)).1:=Int.mul_nonneg hpl.1 hb.1
     have h2:p.animals * ((goF s x p.slabs (Zw s p.legs)).2.2[i]'(by omega)).1<=30 * 1000000:=Int.mul_le_mul (by omega) hb.2 hb.1 (by decide)
     omega
 . cases hd
theorem Zh1 {s:Season} {p:Plan} {x:Scene} (hg:p.legs.length<=1000):(Wu s p x).length<=1000:=by
 have h1:(Zw s p.legs).length<=1000:=Nat.le_trans ZaN hg
 unfold Wu YP
 split
 . split
   . simp
   split
   . simp;omega
   . simp only [Wz,List.length_zipWith];omega
 . simp
end Go.Azalai
namespace Go.Proofs.YtiigiflofnjilaaGreat
open Go Go.Sx Go.Azalai
theorem ZtH (s:Season) (h:OkS s) (a:List Int) (ha:(YI s.land s.start [s.start] a).isSome=true) (hg:a.length<=1000) (k:Int) (hk:0<=k/\k<=12) :
 Ct Tryz.prog 66 [.agg (Zr s),.sl false 1 (a.map Zo),I k] (I (Zen s a k)):=by
 have hnum:=h.num
 have hsc:=h.scs
 have hp:Xa s ⟨a,1,k⟩=true:=by
  simp only [Xa,ha,inR,Bool.true_and,Bool.and_eq_true,decide_eq_true_eq];omega
 refine tw66.1 (by simp [Zr,Zj,Ze,Zm,Zg,Zd,Zo,Za,KFL,KF]) (by simp [KFL,KF]) ?_
 dsimp only [cw66,rw66,Zr,go_sem,rA,rM,rS]
 simp only [List.length_map]
 refine W3 [1,2,3,7,18,19] rfl (fun q:Nat × Int=>[(19,I q.1),(7,I q.2)]) (fun _=>[])
  (fun q=>q.1<=s.scenes.length/\Zq3 s a k (s.scenes.drop q.1) q.2=Zen s a k/\0<=q.2/\q.2<=30) (fun q=>s.scenes.length - q.1) (0,s.herd) ⟨Nat.zero_le _,rfl,by simp only;omega,by simp only;omega⟩ ?_ ?_
 . (refine Zl ?_ ?_ ?_ rfl rfl<;>dsimp only [Ze,Zm,Zg,Zj,Zd,Zo,id,go_sem,rA,rM,rS]<;>simp [Ze,Zm,Zg,Zj,Zd,Zo,Za,Zf,KFR,KFL,KF,Zc,mtO,nbr])
 rintro ⟨j,n⟩ ⟨hj,hi,hn0,hn1⟩
 simp only at hj hi hn0 hn1
 dsimp only [go_sem,rA,rM,rS]
 by_cases hlt:j < s.scenes.length
 case neg =>
  refine Zv (by simp;omega) ?_
  dsimp only [go_sem,rA,rM,rS]
  rw [List.drop_eq_nil_of_le (by omega),Zq3] at hi
  rw [hi]
 refine Zu (by simpa using hlt) ?_
 dsimp only [go_sem,rA,rM,rS]
 have ht:=Zi2 s h j hlt ⟨a,1,k⟩ hp hg
 have hx:=h.scene _ (List.getElem_mem hlt)
 have hy:s.scenes[j].yields.length=s.land.wells.length:=by simp only [Yg,Bool.and_eq_true,decide_eq_true_eq] at hx;omega
 have hwat:=ZeB (x:=s.scenes[j]) h hp
 have hlen:=Zh1 (s:=s) (p:=⟨a,1,k⟩) (x:=s.scenes[j]) hg
 rw [List.drop_eq_getElem_cons hlt,Zq3] at hi
 generalize Wu s ⟨a,1,k⟩ s.scenes[j]=D at ht hi hwat hlen
 generalize Xi s ⟨a,1,k⟩ s.scenes[j]=w at ht hi
 refine YQ [] ht rfl rfl rfl ?_ ?_ ?_
 . exact Zc (by simp [Yn,ZB,Ze,Zm,Zg,Zj,Zd,Zo,ZL,Za,KFL,KF])
 . trivial
 rintro _ rfl
 (repeat first | dsimp only [Zq8,go_sem,rA,rM,rS] | simp only [nbr])
 by_cases hw0:w.1=0
 case neg =>
  refine Zu (by simpa using hw0) ?_
  dsimp only [go_sem,rA,rM,rS]
  rw [if_pos hw0] at hi
  rw [<- hi]
 refine Zv (by simpa using hw0) ?_
 dsimp only [go_sem,rA,rM,rS]
 rw [if_neg (by simpa using hw0)] at hi
 simp only [List.length_map]
 refine W3 [1,2,3,7,9,18,19,36,37,38] rfl (fun q:Nat × Int=>[(38,I q.1),(7,I q.2)]) (fun _=>[])
  (fun q=>q.1<=D.length/\Zhv s s.scenes[j] (D.drop q.1) q.2=Zhv s s.scenes[j] D n/\0<=q.2/\q.2<=30) (fun q=>D.length - q.1) (0,n) ⟨Nat.zero_le _,rfl,hn0,hn1⟩ ?_ ?_
 . (refine Zl ?_ ?_ ?_ rfl rfl<;>dsimp only [Yn,Ze,Zm,Zg,Zj,Zd,Zo,ZL,ZK,id,go_sem,rA,rM,rS]<;>simp [Yn,Ze,Zm,Zg,Zj,Zd,Zo,ZL,ZK,Za,Zf,KFR,KFL,KF,Zc,mtO,nbr])
 rintro ⟨i,m⟩ ⟨hi0,hi1,hm0,hm1⟩
 simp only at hi0 hi1 hm0 hm1
 dsimp only [go_sem,rA,rM,rS]
 by_cases hilt:i < D.length
 case neg =>
  refine Zv (by simp;omega) ?_
  dsimp only [go_sem,rA,rM,rS]
  rw [List.drop_eq_nil_of_le (by omega),Zhv] at hi1
  rw [Zi (n:=(j:Int)+1) (by omega) (by omega)]
  refine ⟨(j+1,m),⟨hlt,by simp only;rw [hi1];exact hi,hm0,hm1⟩,by simp only;omega,?_⟩
  (refine Zl ?_ ?_ ?_ rfl rfl<;>dsimp only [Yn,Ze,Zm,Zg,Zj,Zd,Zo,ZL,ZK,id,go_sem,rA,rM,rS]<;>simp [Yn,Ze,Zm,Zg,Zj,Zd,Zo,ZL,ZK,Za,Zf,KFR,KFL,KF,Zc,mtO,nbr])
 refine Zu (by simpa using hilt) ?_
 dsimp only [go_sem,rA,rM,rS]
 refine Zp i hilt rfl ?_
 dsimp only [ZK,go_sem,rA,rM,rS]
 rw [List.drop_eq_getElem_cons hilt,Zhv] at hi1
 have hw:=hwat _ (List.getElem_mem hilt)
 have hnext:IntKind.i64.wrap ((i:Int)+1)=((i+1:Nat):Int):=by rw [Zi (by omega) (by omega)];omega
 by_cases hpos:D[i].water > 0
 . refine Zu (by simpa using hpos) ?_
   dsimp only [go_sem,rA,rM,rS]
   refine call (Zrq s h.small j hlt hy ⟨0,D[i].well,⟨0,0⟩,⟨D[i].day,0⟩⟩) ?_
   dsimp only [go_sem,rA,rM,rS]
   refine Zpb (by omega) ?_
   have h1:=ZiC (s:=s) (x:=s.scenes[j]) ⟨0,D[i].well,⟨0,0⟩,⟨D[i].day,0⟩⟩
   have h2:=Zww (s:=s) (x:=s.scenes[j]) ⟨0,D[i].well,⟨0,0⟩,⟨D[i].day,0⟩⟩
   have h3:=X8 (d:=D[i].water) h1 h2 (by omega)
   dsimp only [go_sem,rA,rM,rS]
   rw [Zi (n:=(ZbV s s.scenes[j] ⟨0,D[i].well,⟨0,0⟩,⟨D[i].day,0⟩⟩).tdiv D[i].water) (by omega) (by omega),hnext]
   rw [if_pos hpos] at hi1
   refine ⟨(i+1,min m ((ZbV s s.scenes[j] ⟨0,D[i].well,⟨0,0⟩,⟨D[i].day,0⟩⟩).tdiv D[i].water)),⟨hilt,hi1,by simp only;omega,by simp only;omega⟩,by simp only;omega,?_⟩
   (refine Zl ?_ ?_ ?_ rfl rfl<;>dsimp only [Yn,Ze,Zm,Zg,Zj,Zd,Zo,ZL,ZK,id,go_sem,rA,rM,rS]<;>simp [Yn,Ze,Zm,Zg,Zj,Zd,Zo,ZL,ZK,Za,Zf,KFR,KFL,KF,Zc,mtO,nbr])
 . refine Zv (by simpa using hpos) ?_
   dsimp only [go_sem,rA,rM,rS]
   rw [hnext]
   rw [if_neg hpos] at hi1
   refine ⟨(i+1,m),⟨hilt,hi1,hm0,hm1⟩,by simp only;omega,?_⟩
   (refine Zl ?_ ?_ ?_ rfl rfl<;>dsimp only [Yn,Ze,Zm,Zg,Zj,Zd,Zo,ZL,ZK,id,go_sem,rA,rM,rS]<;>simp [Yn,Ze,Zm,Zg,Zj,Zd,Zo,ZL,ZK,Za,Zf,KFR,KFL,KF,Zc,mtO,nbr])
def Vf (b:Bst):List SV:=[I b.w,I (-b.an),I (-b.sl),I (-(b.legs.length:Int))]
theorem mapW (a:List Nat):(Y9 a).map Zo=a.map Yf:=by simp [Y9,Yf,Zo]
theorem ZfY (a:List Nat):(Y9 a).length=a.length:=by simp [Y9]
structure SmB (b:Bst):Prop where
 len:b.legs.length<=1000
 an:0<=b.an/\b.an<=30
 sl:0<=b.sl/\b.sl<=12
theorem ZdP (b:Bst) (hb:SmB b):Ct Tryz.prog 64 [.agg (ZB b.plan),I b.w] (.agg (Vf b)):=by
 obtain ⟨h1,h2,h3⟩:=hb
 refine t64.1 (by simp [ZB,Bst.plan,Zo,Za,KFL,KF]) (by simp [Vf,KFL,KF]) ?_
 dsimp only [c64,r64,ZB,Bst.plan,Vf,go_sem,rA,rM,rS]
 simp only [List.length_map,ZfY]
 rw [Int.zero_sub,Int.zero_sub,Int.zero_sub,Zi (n:=-b.an) (by omega) (by omega),Zi (n:=-b.sl) (by omega) (by omega),Zi (n:=-(b.legs.length:Int)) (by omega) (by omega)]
theorem Zle (q p:Bst) (hq:SmB q) (hp:SmB p):Ct Tryz.prog 67 [.agg (ZB q.plan),.agg (Vf q),.agg (ZB p.plan),.agg (Vf p)] (B (Yl q p)):=by
 have hq1:=hq.len
 have hp1:=hp.len
 refine t67.1 (by simp [ZB,Bst.plan,Zo,Za,Vf,KFL,KF]) (by simp [KFL,KF]) ?_
 dsimp only [c67,r67,ZB,Bst.plan,Vf,go_sem,rA,rM,rS]
 by_cases e:q.w=p.w/\q.an=p.an/\q.sl=p.sl/\q.legs.length=p.legs.length
 . obtain ⟨e1,e2,e3,e4⟩:=e
   refine Zu (by simp [e1,e2,e3,e4]) ?_
   dsimp only [go_sem,rA,rM,rS]
   have hc:=Zf8 q.legs p.legs (by omega) (by omega)
   simp only [Z0,<- mapW] at hc
   refine call hc ?_
   dsimp only [go_sem,rA,rM,rS]
   rw [ZfX]
   simp [Yl,e1,e2,e3,e4]
 refine Zv (by simp;omega) ?_
 dsimp only [go_sem,rA,rM,rS]
 refine Xh 5 ?_
 dsimp only [Zb,go_sem,rA,rM,rS]
 refine Zu (by decide) ?_
 dsimp only [Zb,go_sem,rA,rM,rS]
 repeat (refine ixa 0 rfl (by decide) ?_;dsimp only [Zb,go_sem,rA,rM,rS])
 by_cases e1:q.w=p.w
 case neg =>
  refine Zu (by simpa using e1) ?_
  dsimp only [Zb,go_sem,rA,rM,rS]
  repeat (refine ixa 0 rfl (by decide) ?_;dsimp only [Zb,go_sem,rA,rM,rS])
  simp [Yl,e1]
 refine Zv (by simpa using e1) ?_
 dsimp only [Zb,go_sem,rA,rM,rS]
 refine Zu (by decide) ?_
 dsimp only [Zb,go_sem,rA,rM,rS]
 repeat (refine ixa 1 rfl (by decide) ?_;dsimp only [Zb,go_sem,rA,rM,rS])
 by_cases e2:q.an=p.an
 case neg =>
  refine Zu (by simp;omega) ?_
  dsimp only [Zb,go_sem,rA,rM,rS]
  repeat (refine ixa 1 rfl (by decide) ?_;dsimp only [Zb,go_sem,rA,rM,rS])
  have:decide (-q.an > -p.an)=decide (q.an < p.an):=by rw [decide_eq_decide];omega
  simp [Yl,e1,e2]
 refine Zv (by simp;omega) ?_
 dsimp only [Zb,go_sem,rA,rM,rS]
 refine Zu (by decide) ?_
 dsimp only [Zb,go_sem,rA,rM,rS]
 repeat (refine ixa 2 rfl (by decide) ?_;dsimp only [Zb,go_sem,rA,rM,rS])
 by_cases e3:q.sl=p.sl
 case neg =>
  refine Zu (by simp;omega) ?_
  dsimp only [Zb,go_sem,rA,rM,rS]
  repeat (refine ixa 2 rfl (by decide) ?_;dsimp only [Zb,go_sem,rA,rM,rS])
  simp [Yl,e1,e2,e3]
 refine Zv (by simp;omega) ?_
 dsimp only [Zb,go_sem,rA,rM,rS]
 refine Zu (by decide) ?_
 dsimp only [Zb,go_sem,rA,rM,rS]
 repeat (refine ixa 3 rfl (by decide) ?_;dsimp only [Zb,go_sem,rA,rM,rS])
 have e4:¬ q.legs.length=p.legs.length:=fun e4=>e ⟨e1,e2,e3,e4⟩
 refine Zu (by simp;omega) ?_
 dsimp only [Zb,go_sem,rA,rM,rS]
 repeat (refine ixa 3 rfl (by decide) ?_;dsimp only [Zb,go_sem,rA,rM,rS])
 simp [Yl,e1,e2,e3,e4]
end Go.Proofs.YtiigiflofnjilaaGreat
namespace Go.Sx
open Go Go.RowKit
theorem ZkD {m:Nat} {σ : St} (k:Nat) {l l':List SV} {T':TypeId} (hk:lkh k σ.hp = .cells l T') (hw:∀ (w:World) (E:Env) (n ok:Nat->Prop) (ys:List Value),RL w E n ok l ys->RL w E n ok l' ys) :
 Ent m σ ⟨σ.fr,(k,.cells l' T') :: σ.hp,σ.n,σ.N,σ.gs⟩:=fun C E a w _ h=>by
 have hocc:∀ b,occ E k (.cells l' T') b↔occ E k (lkh k σ.hp) b:=fun b=>by rw [hk];rfl
 obtain ⟨h6,h7⟩:=WG (hb:=.cells l' T') (B:=E.β k) h.hs hocc (by rw [hk];rfl) ⟨rfl,rfl,rfl,rfl,fun _ _=>rfl⟩ (fun hst=>by
  have hb:=h.hs.bk k
  rw [hk] at hb
  simp only [Z7] at hb ⊢
  obtain ⟨cs,e1,e2⟩:=hb
  exact ⟨cs,e1,hw _ _ _ _ _ (ZE hst (fun _ _=>Ele.rfl) (fun _ h=>h) _ _ e2)⟩)
 exact ⟨E,fun u=>Xk h7 (fun _ _=>Ele.rfl) (fun _ h=>h) (fun _ _ _ _=>Iff.rfl) (h.fr u),h.sz,XS h7 h.df,h.gs,h6⟩
end Go.Sx
namespace Go.Proofs.YtiigiflofnjilaaGreat
open Go Go.Sx Go.Azalai
def Zsj (r:Plan × Int × Int):SV:=.tup [.agg (ZB r.1),I r.2.1,I r.2.2]
theorem Zub (w:Int):Ct Tryz.prog 64 [.agg [.v (.slice none 0 0),I 0,I 0],I w] (.agg [I w,I 0,I 0,I 0]) :=
 (ZdP ⟨[],0,0,w⟩ ⟨by simp,by simp,by simp⟩).args (by simp [KFL,KF]) (ZS (Vl (ZS YF XN)) XN)
theorem ZrI {s:Season} {to:Int} {a:List Nat} {k n:Int} (ha:a.length<=1000) (hn:0<=n/\n<=30) (hk:0<=k/\k<=12):SmB (XG s to a k n):=⟨ha,hn,hk⟩
theorem u25 {args:List SV} {res:SV} (ka:KFL args) (kr:KF res) (h:sx Tryz.prog Y0 0 c25 (st0 args 97) (ZpI r25 res)) (hA:Nat.ble args.length 97=true:=by rfl):Ct Tryz.prog 25 args res:=Wo Tryz.func25 rfl b25 ZwS Zxv n25 (Nat.le_of_ble_eq_true hA) ka kr h
theorem ZvZ (s:Season) (hs:SmallS s):Ct Tryz.prog 25 [.agg (Zr s)] (Zsj (ZgU s)):=by
 refine u25 (by simp [Zr,Zj,Ze,Zm,Zg,Zd,Zo,Za,KFL,KF]) (by simp [Zsj,ZB,Zo,Za,KFL,KF]) ?_
 dsimp only [c25,r25,Zr,go_sem,rA,rM,rS]
 refine call (Zbh s hs) ?_
 dsimp only [go_sem,rA,rM,rS]
 by_cases ho:Zy s=true
 case neg =>
  refine Zu (by simp [ho]) ?_
  dsimp only [go_sem,rA,rM,rS]
  refine ⟨_,rfl,?_⟩
  rw [show ZgU s=(⟨[],0,0⟩,0,90) from by unfold ZgU;exact if_pos (by simpa using ho),if_neg ho]
  exact XZ (ZS (Vl (ZS YF XN)) XN)
 refine Zv (by simp [ho]) ?_
 dsimp only [go_sem,rA,rM,rS]
 have h:OkS s:=⟨hs,ho⟩
 have hn:=h.num
 have hw0:0<=s.herd * s.sale/\s.herd * s.sale<=30 * 1000000:=⟨Int.mul_nonneg (by omega) (by omega),Int.mul_le_mul (by omega) (by omega) (by omega) (by decide)⟩
 rw [Zi (n:=s.herd * s.sale) (by omega) (by omega)]
 refine call (Zub (s.herd * s.sale)) ?_
 dsimp only [go_sem,rA,rM,rS]
 simp only [List.length_map]
 have hR:ZgU s=match ZrD s with | none=>(⟨[],0,0⟩,0,9) | some b=>(b.plan,b.w,0):=by unfold ZgU;exact if_neg (by simp [ho])
 have hwl:=h.land
 simp only [ZH,inR,Bool.and_eq_true,decide_eq_true_eq] at hwl
 refine ZdT (Yz (Ub [1,2,3,6,34,35] rfl) (ZkD 1 (l':=ZB ⟨[],0,0⟩) rfl (ZS YF XN)))
  (fun q:Nat × Bst=>[(35,I q.1),(3,I q.2.w)]) (fun q=>[(1,.cells (ZB q.2.plan) 37),(2,.cells (Vf q.2) 142)])
  (fun q=>q.1<=s.land.wells.length/\Zdz s ((List.range s.land.wells.length).drop q.1) q.2=ZrD s/\SmB q.2) (fun q=>s.land.wells.length - q.1) (0,⟨[],0,0,s.herd * s.sale⟩)
  ⟨Nat.zero_le _,rfl,⟨by simp,by simp,by simp⟩⟩ ?_ ?_
 . (refine Zl ?_ ?_ ?_ rfl rfl<;>dsimp only [ZB,Vf,Bst.plan,Y9,Ze,Zm,Zg,Zj,Zd,Zo,id,go_sem,rA,rM,rS]<;>simp [ZB,Vf,Bst.plan,Y9,Ze,Zm,Zg,Zj,Zd,Zo,Za,Zf,KFR,KFL,KF,Zc,mtO,nbr])
 rintro ⟨g,b⟩ ⟨hg,hi,hb⟩
 simp only at hg hi hb
 dsimp only [ZB,Vf,go_sem,rA,rM,rS]
 by_cases hlt:g < s.land.wells.length
 case neg =>
  refine Zv (by simp;omega) ?_
  dsimp only [go_sem,rA,rM,rS]
  rw [List.drop_eq_nil_of_le (by simp;omega),Zdz] at hi
  rw [hR,<- hi]
  exact ⟨_,rfl,fun _ _ _ _ _ h=>h⟩
 refine Zu (by simpa using hlt) ?_
 dsimp only [go_sem,rA,rM,rS]
 have hwy:=ZpO s.land hs.land s.start g s.day s.till s.pace
 rw [List.drop_eq_getElem_cons (by simpa using hlt),List.getElem_range,Zdz] at hi
 by_cases hE:Zcr s.land s.pace s.start g s.day s.till=0
 case neg =>
  simp only [ZcX,XC,if_neg hE] at hwy
  refine call hwy ?_
  dsimp only [go_sem,rA,rM,rS]
  refine Zu (by simpa using hE) ?_
  dsimp only [go_sem,rA,rM,rS]
  rw [if_pos hE] at hi
  rw [hR,<- hi]
  refine ⟨_,rfl,?_⟩
  exact XZ (ZS (Vl (ZS YF XN)) XN)
 simp only [ZcX,XC,if_pos hE] at hwy
 refine call hwy ?_
 dsimp only [go_sem,rA,rM,rS]
 refine Zv (by simpa using hE) ?_
 dsimp only [go_sem,rA,rM,rS]
 rw [if_neg (by simpa using hE)] at hi
 simp only [List.length_map]
 have hmem:∀ a ∈ UI s.land s.pace s.start g s.day s.till,YI s.land s.start [s.start] (Y9 a)=some (g:Int)/\a.length<=24:=fun a ha=>by
  have h1:=((Zmj h).1 ha).1
  exact ⟨h1,by simpa [Y9] using (Zyu h h1).2⟩
 have hwlen:(UI s.land s.pace s.start g s.day s.till).length<=1000:=by
  unfold Zcr at hE
  split at hE
  . rename_i q;exact absurd hE q
  split at hE
  . simp at hE
  split at hE
  . simp at hE
  . rename_i q;unfold UI;omega
 generalize UI s.land s.pace s.start g s.day s.till=W at hi hmem hwlen ⊢
 refine W3 [1,2,3,6,7,34,35,56,57,58] rfl (fun q:Nat × Bst=>[(58,I q.1),(3,I q.2.w)]) (fun q=>[(1,.cells (ZB q.2.plan) 37),(2,.cells (Vf q.2) 142)])
  (fun q=>q.1<=W.length/\(W.drop q.1).foldl (Zys s g) q.2=W.foldl (Zys s g) b/\SmB q.2) (fun q=>W.length - q.1) (0,b) ⟨Nat.zero_le _,rfl,hb⟩ ?_ ?_
 . (refine Zl ?_ ?_ ?_ rfl rfl<;>dsimp only [ZB,Bst.plan,Vf,XG,Yr,Z0,Yf,Y9,Ze,Zm,Zg,Zj,Zd,Zo,id,go_sem,rA,rM,rS]<;>simp [ZB,Bst.plan,Vf,XG,Yr,Z0,Yf,Y9,Ze,Zm,Zg,Zj,Zd,Zo,Za,Zf,KFR,KFL,KF,Zc,mtO,nbr])
 rintro ⟨i,b1⟩ ⟨hi1,hf1,hb1⟩
 simp only at hi1 hf1 hb1
 dsimp only [ZB,Bst.plan,Vf,go_sem,rA,rM,rS]
 by_cases hilt:i < W.length
 case neg =>
  refine Zv (by simp;omega) ?_
  dsimp only [go_sem,rA,rM,rS]
  rw [List.drop_eq_nil_of_le (by omega),List.foldl_nil] at hf1
  rw [Zi (n:=(g:Int)+1) (by omega) (by omega)]
  refine ⟨(g+1,b1),⟨hlt,by simp only;rw [hf1];exact hi,hb1⟩,by simp only;omega,?_⟩
  (refine Zl ?_ ?_ ?_ rfl rfl<;>dsimp only [ZB,Bst.plan,Vf,XG,Yr,Z0,Yf,Y9,Ze,Zm,Zg,Zj,Zd,Zo,id,go_sem,rA,rM,rS]<;>simp [ZB,Bst.plan,Vf,XG,Yr,Z0,Yf,Y9,Ze,Zm,Zg,Zj,Zd,Zo,Za,Zf,KFR,KFL,KF,Zc,mtO,nbr])
 refine Zu (by simpa using hilt) ?_
 dsimp only [go_sem,rA,rM,rS]
 refine Zp i hilt rfl ?_
 rw [List.drop_eq_getElem_cons hilt,List.foldl_cons] at hf1
 obtain ⟨hto,hal⟩:=hmem _ (List.getElem_mem hilt)
 generalize W[i]=a at hf1 hto hal ⊢
 simp only [Yr,Z0,<- mapW]
 dsimp only [go_sem,rA,rM,rS]
 refine W3 [1,2,3,6,7,11,34,35,56,57,58,62] rfl (fun q:Nat × Bst=>[(62,I q.1),(3,I q.2.w)]) (fun q=>[(1,.cells (ZB q.2.plan) 37),(2,.cells (Vf q.2) 142)])
  (fun q=>q.1<=13/\((List.range 13).drop q.1).foldl (ZqC s g a) q.2=Zys s g b1 a/\SmB q.2) (fun q=>13 - q.1) (0,b1) ⟨Nat.zero_le _,rfl,hb1⟩ ?_ ?_
 . (refine Zl ?_ ?_ ?_ rfl rfl<;>dsimp only [ZB,Bst.plan,Vf,XG,Yr,Z0,Yf,Y9,Ze,Zm,Zg,Zj,Zd,Zo,id,go_sem,rA,rM,rS]<;>simp [ZB,Bst.plan,Vf,XG,Yr,Z0,Yf,Y9,Ze,Zm,Zg,Zj,Zd,Zo,Za,Zf,KFR,KFL,KF,Zc,mtO,nbr])
 rintro ⟨k,b2⟩ ⟨hk1,hf2,hb2⟩
 simp only at hk1 hf2 hb2
 dsimp only [ZB,Bst.plan,Vf,go_sem,rA,rM,rS]
 by_cases hk:k < 13
 case neg =>
  refine Zv (by simp;omega) ?_
  dsimp only [go_sem,rA,rM,rS]
  rw [List.drop_eq_nil_of_le (by simp;omega),List.foldl_nil] at hf2
  rw [Zi (n:=(i:Int)+1) (by omega) (by omega)]
  refine ⟨(i+1,b2),⟨hilt,by simp only;rw [hf2];exact hf1,hb2⟩,by simp only;omega,?_⟩
  (refine Zl ?_ ?_ ?_ rfl rfl<;>dsimp only [ZB,Bst.plan,Vf,XG,Yr,Z0,Yf,Y9,Ze,Zm,Zg,Zj,Zd,Zo,id,go_sem,rA,rM,rS]<;>simp [ZB,Bst.plan,Vf,XG,Yr,Z0,Yf,Y9,Ze,Zm,Zg,Zj,Zd,Zo,Za,Zf,KFR,KFL,KF,Zc,mtO,nbr])
 refine Zu (by simp;omega) ?_
 dsimp only [go_sem,rA,rM,rS]
 refine call (ZtH s h (Y9 a) (by rw [hto];rfl) (by rw [ZfY];omega) k ⟨by omega,by omega⟩) ?_
 have hfb:=Zv5 h (a:=Y9 a) (k:=(k:Int))
 rw [List.drop_eq_getElem_cons (by simpa using hk),List.getElem_range,List.foldl_cons] at hf2
 obtain ⟨F,hF⟩:∃ F:Nat,Zen s (Y9 a) k=F:=⟨(Zen s (Y9 a) k).toNat,by omega⟩
 have hsl:ZqC s g a b2 k=ZeH s g a k F b2:=by simp only [ZqC,hF,Int.toNat_natCast]
 rw [hsl] at hf2
 rw [hF] at hfb ⊢
 dsimp only [go_sem,rA,rM,rS]
 refine W3 [1,2,3,6,7,11,12,13,34,35,56,57,58,62] rfl (fun q:Nat × Bst=>[(13,I q.1),(3,I q.2.w)]) (fun q=>[(1,.cells (ZB q.2.plan) 37),(2,.cells (Vf q.2) 142)])
  (fun q=>q.1<=F/\ZeH s g a k q.1 q.2=ZeH s g a k F b2/\SmB q.2) (fun q=>q.1) (F,b2) ⟨Nat.le_refl _,rfl,hb2⟩ ?_ ?_
 . (refine Zl ?_ ?_ ?_ rfl rfl<;>dsimp only [ZB,Bst.plan,Vf,XG,Yr,Z0,Yf,Y9,Ze,Zm,Zg,Zj,Zd,Zo,id,go_sem,rA,rM,rS]<;>simp [ZB,Bst.plan,Vf,XG,Yr,Z0,Yf,Y9,Ze,Zm,Zg,Zj,Zd,Zo,Za,Zf,KFR,KFL,KF,Zc,mtO,nbr])
 rintro ⟨n,b3⟩ ⟨hn1,hf3,hb3⟩
 simp only at hn1 hf3 hb3
 dsimp only [ZB,Bst.plan,Vf,go_sem,rA,rM,rS]
 by_cases h0:n=0
 . subst h0
   refine Zu (by simp) ?_
   dsimp only [go_sem,rA,rM,rS]
   rw [ZeH] at hf3
   rw [Zi (n:=(k:Int)+1) (by omega) (by omega)]
   refine ⟨(k+1,b3),⟨by simp only;omega,by simp only;rw [hf3];exact hf2,hb3⟩,by simp only;omega,?_⟩
   (refine Zl ?_ ?_ ?_ rfl rfl<;>dsimp only [ZB,Bst.plan,Vf,XG,Yr,Z0,Yf,Y9,Ze,Zm,Zg,Zj,Zd,Zo,id,go_sem,rA,rM,rS]<;>simp [ZB,Bst.plan,Vf,XG,Yr,Z0,Yf,Y9,Ze,Zm,Zg,Zj,Zd,Zo,Za,Zf,KFR,KFL,KF,Zc,mtO,nbr])
 obtain ⟨m,rfl⟩:∃ m,n=m+1:=⟨n - 1,by omega⟩
 refine Zv (by simp;omega) ?_
 dsimp only [go_sem,rA,rM,rS]
 have hp:Xa s ⟨Y9 a,((m+1:Nat):Int),k⟩=true:=Znc hto ⟨by simp only;omega,by simp only;omega⟩ ⟨by simp only;omega,by simp only;omega⟩
 have hcs:SmB (XG s g a k ((m+1:Nat):Int)):=ZrI (by omega) ⟨by omega,by omega⟩ ⟨by omega,by omega⟩
 have hwo:=Zfs s h ⟨Y9 a,((m+1:Nat):Int),k⟩ hp g hlt
 simp only [ZB] at hwo
 refine call hwo ?_
 dsimp only [go_sem,rA,rM,rS]
 have hso:=ZdP (XG s g a k ((m+1:Nat):Int)) hcs
 simp only [ZB,Bst.plan,XG,Vf] at hso
 refine call hso ?_
 dsimp only [go_sem,rA,rM,rS]
 have hbo:=Zle (XG s g a k ((m+1:Nat):Int)) b3 hcs hb3
 simp only [ZB,Bst.plan,Vf] at hbo
 refine call hbo ?_
 dsimp only [go_sem,rA,rM,rS]
 rw [ZeH] at hf3
 by_cases hbb:Yl (XG s g a k ((m+1:Nat):Int)) b3=true
 . refine Zu (by simpa using hbb) ?_
   dsimp only [go_sem,rA,rM,rS]
   rw [ZhZ,if_pos hbb] at hf3
   rw [Zi (n:=(((m+1:Nat):Int)) - 1) (by omega) (by omega),show (((m+1:Nat):Int)) - 1=(m:Int) from by omega]
   refine ⟨(m,XG s g a k ((m+1:Nat):Int)),⟨by simp only;omega,hf3,hcs⟩,by simp only;omega,?_⟩
   (refine Zl ?_ ?_ ?_ rfl rfl<;>dsimp only [ZB,Bst.plan,Vf,XG,Yr,Z0,Yf,Y9,Ze,Zm,Zg,Zj,Zd,Zo,id,go_sem,rA,rM,rS]<;>simp [ZB,Bst.plan,Vf,XG,Yr,Z0,Yf,Y9,Ze,Zm,Zg,Zj,Zd,Zo,Za,Zf,KFR,KFL,KF,Zc,mtO,nbr])
 . refine Zv (by simpa using hbb) ?_
   dsimp only [go_sem,rA,rM,rS]
   rw [ZhZ,if_neg hbb] at hf3
   rw [Zi (n:=(((m+1:Nat):Int)) - 1) (by omega) (by omega),show (((m+1:Nat):Int)) - 1=(m:Int) from by omega]
   refine ⟨(m,b3),⟨by simp only;omega,hf3,hb3⟩,by simp only;omega,?_⟩
   (refine Zl ?_ ?_ ?_ rfl rfl<;>dsimp only [ZB,Bst.plan,Vf,XG,Yr,Z0,Yf,Y9,Ze,Zm,Zg,Zj,Zd,Zo,id,go_sem,rA,rM,rS]<;>simp [ZB,Bst.plan,Vf,XG,Yr,Z0,Yf,Y9,Ze,Zm,Zg,Zj,Zd,Zo,Za,Zf,KFR,KFL,KF,Zc,mtO,nbr])
theorem Znp (s:Season) (hs:SmallS s):Ct Tryz.prog 27 [.agg (Zr s)] (.tup [I (Za5 s).1,I (Za5 s).2]):=by
 refine t27.1 (by simp [Zr,Zj,Ze,Zm,Zg,Zd,Zo,Za,KFL,KF]) (by simp [KFL,KF]) ?_
 dsimp only [c27,r27,Zr,go_sem,rA,rM,rS]
 refine call (Zbh s hs) ?_
 dsimp only [go_sem,rA,rM,rS]
 by_cases ho:Zy s=true
 case neg =>
  refine Zu (by simp [ho]) ?_
  dsimp only [go_sem,rA,rM,rS]
  simp [Za5,ho]
 refine Zv (by simp [ho]) ?_
 dsimp only [go_sem,rA,rM,rS]
 have h:OkS s:=⟨hs,ho⟩
 have hn:=h.num
 have hst:=h.start
 have hs4:=h.scs
 have hbr:=Cm.breed_bd h.beast.1
 have hE:X2 s.land s.pace s.start s.day=0:=Zj6.2 ⟨h.land,h.pace,by simp only [inR,decide_eq_true_eq];omega,by simp only [inR,decide_eq_true_eq];omega⟩
 have hre:=Zdx s.land hs.land s.start s.day s.pace
 rw [hE] at hre
 simp only [XC,if_true] at hre
 refine call hre ?_
 dsimp only [go_sem,rA,rM,rS]
 refine Zpb (by omega) ?_
 dsimp only [go_sem,rA,rM,rS]
 have hk0:=X8 (a:=s.breed.strong.lo) (A:=1000000) (d:=s.slab) (by omega) (by omega) (by omega)
 rw [Zi (n:=s.breed.strong.lo.tdiv s.slab) (by omega) (by omega)]
 have hB:Za5 s=(ZfU s,0):=by rw [Za5,if_neg (by simp [ho])]
 rw [hB]
 unfold ZfU
 obtain ⟨k,hk⟩:∃ k,k=min 12 (s.breed.strong.lo.tdiv s.slab):=⟨_,rfl⟩
 rw [<- hk]
 have hk1:0<=k/\k<=12:=by omega
 simp only [List.length_map]
 have hRl:(Xe s.land s.pace s.start s.day).length=s.land.wells.length:=Ww
 generalize Xe s.land s.pace s.start s.day=Rr at hRl ⊢
 obtain ⟨W,hW⟩:∃ W,W=s.scenes.map (fun x=>s.herd * Ze3 s x k Rr 0 s.sale):=⟨_,rfl⟩
 have hWl:W.length=s.scenes.length:=by rw [hW];simp
 rw [<- hW]
 have hwl:=h.land
 simp only [ZH,inR,Bool.and_eq_true,decide_eq_true_eq] at hwl
 refine ZdT (Yz (Ub [1,5,7,8,40,41,42] rfl) (YV 8 1 3 rfl rfl)) (fun q:Nat × Nat=>[(42,I q.1),(8,.mr 1 q.2)])
  (fun q=>[(1,.row q.2 1 ((W.take q.1).map Zo) 3)]) (fun q=>q.1<=s.scenes.length) (fun q=>s.scenes.length - q.1) (0,0) (Nat.zero_le _) ?_ ?_
 . (refine Zl ?_ ?_ ?_ rfl rfl<;>dsimp only [Ze,Zm,Zg,Zj,Zd,Zo,Ye,id,go_sem,rA,rM,rS]<;>simp [Ze,Zm,Zg,Zj,Zd,Zo,Ye,Za,Zf,KFR,KFL,KF,Zc,mtO,nbr])
 rintro ⟨j,v⟩ hj
 simp only at hj
 dsimp only [go_sem,rA,rM,rS]
 by_cases hlt:j < s.scenes.length
 case neg =>
  refine Zv (by simp;omega) ?_
  dsimp only [go_sem,rA,rM,rS]
  rw [List.take_of_length_le (by omega)]
  refine gh (Za3 8 1 v rfl rfl rfl rfl) ?_
  dsimp only [go_sem,rA,rM,rS]
  refine call (ZhT W (by omega) (by omega) _) ?_
  dsimp only [go_sem,rA,rM,rS]
 refine Zu (by simpa using hlt) ?_
 dsimp only [go_sem,rA,rM,rS]
 refine Zp j hlt rfl ?_
 dsimp only [Zj,go_sem,rA,rM,rS]
 simp only [List.length_map]
 refine W3 [1,5,7,8,10,11,40,41,42,48,49,50] rfl (fun q:Nat × Int=>[(50,I q.1),(11,I q.2)]) (fun _=>[])
  (fun q=>q.1<=Rr.length/\Ze3 s s.scenes[j] k (Rr.drop q.1) q.1 q.2=Ze3 s s.scenes[j] k Rr 0 s.sale/\0<=q.2/\q.2<=12000000) (fun q=>Rr.length - q.1) (0,s.sale) ⟨Nat.zero_le _,rfl,by simp only;omega,by simp only;omega⟩ ?_ ?_
 . (refine Zl ?_ ?_ ?_ rfl rfl<;>dsimp only [Ze,Zm,Zg,Zj,Zd,Zo,Ye,id,go_sem,rA,rM,rS]<;>simp [Ze,Zm,Zg,Zj,Zd,Zo,Ye,Za,Zf,KFR,KFL,KF,Zc,mtO,nbr])
 rintro ⟨i,e⟩ ⟨hi0,hi1,he0,he1⟩
 simp only at hi0 hi1 he0 he1
 dsimp only [go_sem,rA,rM,rS]
 by_cases hilt:i < Rr.length
 case neg =>
  refine Zv (by simp;omega) ?_
  dsimp only [go_sem,rA,rM,rS]
  rw [List.drop_eq_nil_of_le (by omega),Ze3] at hi1
  refine gh WN ?_
  dsimp only [go_sem,rA,rM,rS]
  have hm:0<=s.herd * e/\s.herd * e<=30 * 12000000:=⟨Int.mul_nonneg (by omega) he0,Int.mul_le_mul (by omega) he1 he0 (by decide)⟩
  rw [Zi (n:=s.herd * e) (by omega) (by omega)]
  simp only [nbr]
  dsimp only [go_sem,rA,rM,rS]
  refine ⟨(by intro c hc;simp only [List.mem_singleton] at hc;subst hc;rfl),by simp;omega,?_⟩
  dsimp only [go_sem,rA,rM,rS]
  refine gh WN ?_
  dsimp only [go_sem,rA,rM,rS]
  rw [Zi (n:=(j:Int)+1) (by omega) (by omega)]
  refine ⟨(j+1,v+1),hlt,by simp only;omega,?_⟩
  simp only
  have hWj:s.herd * e=W[j]'(by omega):=by simp [hW,hi1]
  rw [hWj,List.take_succ_eq_append_getElem (by omega)]
  simp only [List.map_append,List.map_cons,List.map_nil]
  (refine Zl ?_ ?_ ?_ rfl rfl<;>dsimp only [Ze,Zm,Zg,Zj,Zd,Zo,Ye,id,go_sem,rA,rM,rS]<;>simp [Ze,Zm,Zg,Zj,Zd,Zo,Ye,Za,Zf,KFR,KFL,KF,Zc,mtO,nbr])
 refine Zu (by simpa using hilt) ?_
 dsimp only [go_sem,rA,rM,rS]
 refine Zp i hilt rfl ?_
 dsimp only [Zd,go_sem,rA,rM,rS]
 rw [List.drop_eq_getElem_cons hilt,Ze3] at hi1
 have hnext:IntKind.i64.wrap ((i:Int)+1)=((i+1:Nat):Int):=by rw [Zi (by omega) (by omega)];omega
 by_cases hr:Rr[i].hi<=s.till
 . refine Zu (by simpa using hr) ?_
   dsimp only [go_sem,rA,rM,rS]
   obtain ⟨hq,hpr⟩:=ZcZ h hlt (m:=i) (by omega)
   refine Zp i hq rfl ?_
   dsimp only [Zo,go_sem,rA,rM,rS]
   have hpp:=ZkM (A:=k) (B:=12) (d:=s.scenes[j].prices[i] - s.cost) (M:=1000000) hk1.1 hk1.2 (by decide) (by omega)
   rw [Zi (n:=s.scenes[j].prices[i] - s.cost) (by omega) (by omega),Zi (n:=k * (s.scenes[j].prices[i] - s.cost)) (by omega) (by omega),hnext]
   rw [if_pos hr,List.getElem?_eq_getElem hq,Option.getD_some] at hi1
   refine ⟨(i+1,max e (k * (s.scenes[j].prices[i] - s.cost))),⟨hilt,hi1,by simp only;omega,by simp only;omega⟩,by simp only;omega,?_⟩
   (refine Zl ?_ ?_ ?_ rfl rfl<;>dsimp only [Ze,Zm,Zg,Zj,Zd,Zo,Ye,id,go_sem,rA,rM,rS]<;>simp [Ze,Zm,Zg,Zj,Zd,Zo,Ye,Za,Zf,KFR,KFL,KF,Zc,mtO,nbr])
 . refine Zv (by simpa using hr) ?_
   dsimp only [go_sem,rA,rM,rS]
   rw [hnext]
   rw [if_neg hr] at hi1
   refine ⟨(i+1,e),⟨hilt,hi1,he0,he1⟩,by simp only;omega,?_⟩
   (refine Zl ?_ ?_ ?_ rfl rfl<;>dsimp only [Ze,Zm,Zg,Zj,Zd,Zo,Ye,id,go_sem,rA,rM,rS]<;>simp [Ze,Zm,Zg,Zj,Zd,Zo,Ye,Za,Zf,KFR,KFL,KF,Zc,mtO,nbr])
end Go.Proofs.YtiigiflofnjilaaGreat
namespace Go.Sx
open Go Go.RowKit
def RLW (l l':List SV):Prop:=∀ (w:World) (E:Env) (n ok:Nat->Prop) (ys:List Value),RL w E n ok l ys->RL w E n ok l' ys
theorem ZcP {l:List SV}:RLW l l:=fun _ _ _ _ _ h=>h
theorem Zq {s s':SV} {l l':List SV} (h1:Y7 s s') (h2:RLW l l'):RLW (s :: l) (s' :: l'):=ZS h1 h2
def RRW:List (List SV)->List (List SV)->Prop
 | [],[]=>True
 | r :: xs,r' :: xs'=>RLW r r'/\r'.length=r.length/\RRW xs xs'
 | _,_=>False
theorem Zc0:∀ {xs xs':List (List SV)},RRW xs xs'->xs'.length=xs.length
 | [],[],_=>rfl
 | _ :: xs,_ :: xs',h=>by simp [Zc0 h.2.2]
 | [],_ :: _,h=>h.elim
 | _ :: _,[],h=>h.elim
theorem Zrx {w:World} {E:Env} {n ok:Nat->Prop} {b m:Nat}:∀ {xs xs':List (List SV)} {off:Nat},RRW xs xs'->RR w E n ok b m xs off->RR w E n ok b m xs' off
 | [],[],_,_,h=>h
 | r :: xs,r' :: xs',off,hw,h=>by
  simp only [RR] at h ⊢
  obtain ⟨h0,⟨cs,h1,h2⟩,h3⟩:=h
  exact ⟨by rw [hw.2.1];exact h0,⟨cs,hw.1 _ _ _ _ _ h1,h2⟩,Zrx hw.2.2 h3⟩
 | [],_ :: _,_,h,_=>h.elim
 | _ :: _,[],_,h,_=>h.elim
theorem ZvF {c:Bool} {m:Nat} {xs xs':List (List SV)} (h:RRW xs xs'):Y7 (.sl c m xs) (.sl false m xs'):=fun w E n ok y hy=>by
 simp only [R] at hy ⊢
 obtain ⟨a,len,cap,h1,h2,h3,h4,h5⟩:=hy
 refine ⟨a,len,cap,h1,by rw [Zc0 h];exact h2,⟨h3.1,fun h=>by cases h⟩,by rw [Zc0 h];exact h4,?_⟩
 rcases h5 with h5 | ⟨b,off,h5,h6⟩
 . left
   have:=Zc0 h
   rw [h5] at this
   exact List.eq_nil_of_length_eq_zero this
 . exact .inr ⟨b,off,h5,Zrx h h6⟩
end Go.Sx
namespace Go.Azalai
open Go.Sx Go.Proofs.YtiigiflofnjilaaGreat
def Xd:Season :=
 ⟨⟨[⟨0,0,0,⟨0,0⟩,0,⟨0,0⟩,0⟩,⟨0,0,0,⟨0,0⟩,1000000,⟨0,0⟩,0⟩,⟨0,0,0,⟨0,0⟩,0,⟨0,0⟩,0⟩],
  [⟨0,1,⟨40000,40000⟩,[⟨⟨0,0⟩,⟨99,99⟩⟩]⟩,⟨1,2,⟨40000,40000⟩,[⟨⟨0,0⟩,⟨99,99⟩⟩]⟩,⟨0,2,⟨100000,100000⟩,[⟨⟨0,0⟩,⟨99,99⟩⟩]⟩]⟩,
  ⟨20000,20000⟩,⟨100000,50000,⟨5000,5000⟩,⟨0,0⟩,⟨1000,1000⟩,⟨100,100⟩,⟨0,0⟩,⟨0,0⟩,0,⟨200000,200000⟩⟩,⟨⟨100000,100000⟩,⟨50000,50000⟩,⟨0,0⟩,false⟩,
  10,10,50000,10,60,0,0,20,[⟨⟨0,0⟩,⟨0,0⟩,[⟨0,0⟩,⟨50000,50000⟩,⟨0,0⟩],[10,12,40]⟩]⟩
theorem YZ:SmallS Xd:=ZbN (by decide +kernel)
theorem ZiG:Zy Xd=true:=by decide +kernel
theorem Zo8:OkS Xd:=⟨YZ,ZiG⟩
theorem Zva:Ym Xd ⟨[0,1],2,2⟩=(0,0,0,0):=by decide +kernel
theorem ZsJ:Ym Xd ⟨[0,1],3,2⟩=(4,0,0,0):=by decide +kernel
theorem Zsw:Ym Xd ⟨[2],10,1⟩=(0,0,0,0):=by decide +kernel
theorem Zga:Zco Xd ⟨[0,1],2,2⟩=(600,0):=by decide +kernel
theorem Zgy:Wl Xd ⟨[0,1],2,2⟩ 0=([⟨1,2,100000⟩],0):=by decide +kernel
theorem ZiB:ZgU Xd=(⟨[0,1],1,4⟩,660,0):=by decide +kernel
def Zo7 (v:Int):Int:=if v=0 then 0 else if v=1 then 2 else if v=2 then 4 else 100001
theorem ZeJ (k:Bool) (v:Int):YR k Xd.land Xd.pace 0 0 v=Zo7 v:=by
 refine (Zas (k:=k) (s:=0) (day:=0) Zo8.lp (by decide) (by decide) (by decide) (by decide) (d:=Zo7) (by decide) ?_ ?_ ?_ v).symm
 . cases k<;>(intro x hx;simp only [Xd,List.mem_cons,List.not_mem_nil,or_false] at hx;rcases hx with rfl | rfl | rfl<;>decide)
 . intro v;unfold Zo7;repeat' split
   all_goals decide
 . intro v
   unfold Zo7
   split
   . rename_i h;subst h;exact .inr ⟨[],by cases k<;>decide⟩
   . split
     . rename_i h;subst h;exact .inr ⟨[0],by cases k<;>decide⟩
     . split
       . rename_i h;subst h
         exact .inr ⟨[0,1],by cases k<;>decide⟩
       . exact .inl rfl
theorem Zgb:Xe Xd.land Xd.pace Xd.start Xd.day=[⟨0,0⟩,⟨2,2⟩,⟨4,4⟩]:=by
 have h:Xd.land.wells.length=3:=rfl
 show Xe Xd.land Xd.pace 0 0=_
 simp only [Xe,X0,h,ZeJ]
 decide
theorem Zhm:Za5 Xd=(1200,0):=by
 rw [Za5,if_neg (by simp [ZiG]),ZfU,Zgb]
 decide +kernel
end Go.Azalai
namespace Go.Proofs.YtiigiflofnjilaaGreat
open Go Go.Sx Go.Azalai
theorem Zd5 (a b:Int):Ct Tryz.prog 43 [I a,I b] (.agg (Zd ⟨a,b⟩)):=by
 refine t43.1 (by simp [KFR,KFL,KF]) (by simp [Zd,KFL,KF]) ?_
 dsimp only [c43,r43,go_sem,rA,rM,rS]
 rfl
theorem u119 {args:List SV} {res:SV} (ka:KFL args) (kr:KF res) (h:sx Tryz.prog Y0 0 c119 (st0 args 16) (ZpI r119 res)) (hA:Nat.ble args.length 16=true:=by rfl):Ct Tryz.prog 119 args res:=Wo Tryz.func119 rfl b119 Zup Zti n119 (Nat.le_of_ble_eq_true hA) ka kr h
theorem u73 {args:List SV} {res:SV} (ka:KFL args) (kr:KF res) (h:sx Tryz.prog Y0 0 c73 (st0 args 31) (ZpI r73 res)) (hA:Nat.ble args.length 31=true:=by rfl):Ct Tryz.prog 73 args res:=Wo Tryz.func73 rfl b73 ZxB Zyb n73 (Nat.le_of_ble_eq_true hA) ka kr h
theorem u74 {args:List SV} {res:SV} (ka:KFL args) (kr:KF res) (h:sx Tryz.prog Y0 0 c74 (st0 args 11) (ZpI r74 res)) (hA:Nat.ble args.length 11=true:=by rfl):Ct Tryz.prog 74 args res:=Wo Tryz.func74 rfl b74 Zxm Zxw n74 (Nat.le_of_ble_eq_true hA) ka kr h
theorem Zlg (a b c:Int):Ct Tryz.prog 119 [I a,I b,I c] (.agg (Zm ⟨a,b,⟨c,c⟩,[⟨⟨0,0⟩,⟨99,99⟩⟩]⟩)):=by
 refine u119 (by simp [KFR,KFL,KF]) (by simp [Zm,Zg,Zd,KFR,KFL,KF]) ?_
 dsimp only [c119,r119,go_sem,rA,rM,rS]
 repeat (refine call (Zd5 _ _) ?_;dsimp only [Zd,go_sem,rA,rM,rS])
 exact ⟨_,rfl,Vl (Zq Y7.rfl (Zq Y7.rfl (Zq Y7.rfl (Zq Y7.rfl (Zq Zb7 ZcP)))))⟩
theorem Zgz (an sl:Int) (legs:List Int) (c:Bool):Ct Tryz.prog 74 [I an,I sl,.sl c 1 (legs.map Zo)] (.agg (ZB ⟨legs,an,sl⟩)):=by
 refine u74 (by simp [Zo,Za,KFL,KF]) (by simp [ZB,Zo,Za,KFL,KF]) ?_
 dsimp only [c74,r74,go_sem,rA,rM,rS]
 exact ⟨_,rfl,Vl (Zq Zb7 ZcP)⟩
theorem WJ:Ct Tryz.prog 73 [] (.agg (Zr Xd)):=by
 refine u73 (by simp [KFR,KFL,KF]) (by simp [Zr,Zj,Ze,Zm,Zg,Zd,Zo,Xd,KFR,KFL,KF]) ?_
 dsimp only [c73,r73,go_sem,rA,rM,rS]
 repeat (first | (refine call (Zd5 _ _) ?_;dsimp only [Zd,go_sem,rA,rM,rS]) | (refine call (Zlg _ _ _) ?_;dsimp only [Zm,go_sem,rA,rM,rS]))
 exact ⟨_,rfl,Vl (Zq Zb7 (Zq Zb7 (Zq Y7.rfl (Zq Y7.rfl (Zq Y7.rfl (Zq Y7.rfl (Zq Y7.rfl (Zq Y7.rfl (Zq Y7.rfl (Zq Y7.rfl (Zq Y7.rfl (Zq Y7.rfl (Zq Y7.rfl (Zq Y7.rfl (Zq Y7.rfl (Zq Y7.rfl (Zq Y7.rfl (Zq Y7.rfl (Zq Y7.rfl (Zq Y7.rfl (Zq Y7.rfl (Zq Y7.rfl (Zq Y7.rfl (Zq Y7.rfl (Zq Y7.rfl (Zq Y7.rfl (Zq Y7.rfl (Zq Y7.rfl (Zq Y7.rfl (Zq Y7.rfl (Zq Y7.rfl (Zq Y7.rfl (Zq Y7.rfl (Zq Y7.rfl (Zq Y7.rfl (Zq Y7.rfl (Zq (ZvF ⟨Zq Y7.rfl (Zq Y7.rfl (Zq Y7.rfl (Zq Y7.rfl (Zq Zb7 (Zq Zb7 ZcP))))),rfl,trivial⟩) ZcP)))))))))))))))))))))))))))))))))))))⟩
def c3:SC:=(.seq (.reg [
 o1 2 (.box (.t 0) 0 34),
 o1 3 (.box (.t 1) 0 37),
 o1 4 (.mv (.c (.bool false)))])
 (.seq (.seq (.reg [
 o1 15 (.ld (.t 2) 37 true),
 o1 16 (.call 12 [.t 15]),
 m1 17 16,
 ⟨some 18,.addo (.t 3) 0,some (17,false),[]⟩,
 ⟨some 19,.ld (.t 18) 1 false,some (17,false),[]⟩,
 ⟨some 20,.len (.t 19),some (17,false),[]⟩,
 ⟨some 21,.bin .gtr (.t 20) (.c (.int .i64 40)),some (17,false),[]⟩,
 o1 22 (.pick (.t 17) (.c (.bool true)) (.t 21))])
 (.cond (.t 22)
 (.seq (.reg [
  o1 4 (.mv (.c (.bool true)))])
  .ret)
 .skip))
 (.seq (.regd [0,1,2,3,4,5,6] [
 .op (o1 23 (.ld (.t 2) 37 true)),
 .op ⟨some 24,.call 13 [.t 23],none,[0]⟩,
 .op (o1 25 (.ld (.t 3) 3 true))] 2 2 [
 o1 5 (.alloc zv2 34),
 o1 6 (.alloc [.slice none 0 0,.int .i64 0,.int .i64 0] 37),
 ⟨none,.st (.t 5) (.t 24) 37,none,[0,1,3,4]⟩,
 ⟨none,.st (.t 6) (.t 25) 3,none,[0,1,2,3,4,5]⟩])
 (.seq (.reg [
 o1 26 (.bsl 1 3 []),
 o1 27 (.addo (.t 3) 0),
 o1 28 (.ld (.t 27) 1 false),
 o1 29 (.app 1 8 3 (.t 26) (.t 28)),
 o1 30 (.addo (.t 6) 0),
 ⟨none,.st (.t 30) (.t 29) 1,none,[]⟩])
 (.seq (.reg [
 o1 32 (.ld (.t 5) 37 true),
 o1 33 (.ld (.t 6) 3 true),
 o1 34 (.call 14 [.t 32,.t 33]),
 m1 31 34,
 o1 35 (.ext (.t 31) 0),
 o1 36 (.ext (.t 31) 1),
 o1 37 (.ext (.t 31) 2),
 o1 38 (.ext (.t 31) 3),
 m1 7 35,
 m1 8 36,
 m1 9 37,
 m1 10 38])
 (.seq (.reg [
 o1 40 (.ld (.t 2) 37 true),
 o1 41 (.ld (.t 3) 3 true),
 o1 42 (.call 15 [.t 40,.t 41]),
 m1 39 42,
 o1 43 (.ext (.t 39) 0),
 o1 44 (.ext (.t 39) 1),
 o1 45 (.ext (.t 39) 2),
 o1 46 (.ext (.t 39) 3),
 m1 11 43,
 m1 12 44,
 m1 13 45,
 m1 14 46])
 (.seq (.regd [0,1,2,3,4,5,6,7,8,9,10,11,12,13,14,15,16,17,18,19,20,21,22,23,24,25,26,27,28,29,30,31,32,33,34,35] [
 .op (o1 47 (.ld (.t 5) 37 true)),
 .op ⟨some 48,.call 16 [.t 47],none,[0]⟩,
 .op (o1 49 (.ld (.t 2) 37 true)),
 .op ⟨some 50,.call 17 [.t 49],none,[1,2]⟩,
 .op ⟨some 51,.bin .eql (.t 48) (.t 50),none,[1,3]⟩,
 .op ⟨some 52,.mv (.t 51),none,[3,4]⟩,
 .op ⟨some 53,.mv (.t 7),some (52,true),[5]⟩,
 .op ⟨some 54,.mv (.t 11),some (52,true),[5]⟩,
 .op ⟨some 55,.bin .eql (.t 53) (.t 54),some (52,true),[5,6,7]⟩,
 .op ⟨some 56,.pick (.t 52) (.t 55) (.c (.bool false)),none,[5,8]⟩,
 .op ⟨some 57,.mv (.t 56),none,[5,9]⟩,
 .op ⟨some 58,.mv (.t 8),some (57,true),[10]⟩,
 .op ⟨some 59,.mv (.t 12),some (57,true),[10]⟩,
 .op ⟨some 60,.bin .eql (.t 58) (.t 59),some (57,true),[10,11,12]⟩,
 .op ⟨some 61,.pick (.t 57) (.t 60) (.c (.bool false)),none,[10,13]⟩,
 .op ⟨some 62,.mv (.t 61),none,[10,14]⟩,
 .op ⟨some 63,.mv (.t 9),some (62,true),[15]⟩,
 .op ⟨some 64,.mv (.t 13),some (62,true),[15]⟩,
 .op ⟨some 65,.bin .eql (.t 63) (.t 64),some (62,true),[15,16,17]⟩,
 .op ⟨some 66,.pick (.t 62) (.t 65) (.c (.bool false)),none,[15,18]⟩,
 .op ⟨some 67,.mv (.t 66),none,[15,19]⟩,
 .op ⟨some 68,.mv (.t 10),some (67,true),[20]⟩,
 .op ⟨some 69,.mv (.t 14),some (67,true),[20]⟩,
 .op ⟨some 70,.bin .eql (.t 68) (.t 69),some (67,true),[20,21,22]⟩,
 .op ⟨some 71,.pick (.t 67) (.t 70) (.c (.bool false)),none,[20,23]⟩,
 .op ⟨some 72,.mv (.t 71),none,[20,24]⟩,
 .op ⟨some 73,.ld (.t 5) 37 true,some (72,true),[25]⟩,
 .op ⟨some 74,.ld (.t 2) 37 true,some (72,true),[25]⟩,
 .op ⟨some 75,.call 18 [.t 73,.t 74],some (72,true),[25,26,27]⟩,
 .op ⟨some 76,.pick (.t 72) (.t 75) (.c (.bool false)),none,[25,28]⟩,
 .op ⟨some 77,.mv (.t 76),none,[28,29]⟩,
 .op ⟨some 78,.ld (.t 6) 3 true,some (77,true),[30]⟩,
 .op ⟨some 79,.ld (.t 3) 3 true,some (77,true),[30]⟩,
 .op ⟨some 80,.call 19 [.t 78,.t 79],some (77,true),[30,31,32]⟩,
 .op ⟨some 81,.pick (.t 77) (.t 80) (.c (.bool false)),none,[30,33]⟩,
 .op ⟨some 4,.mv (.t 81),none,[0,1,2,3,4,5,6,7,8,9,10,11,12,13,14,15,16,17,18,19,20,21,22,23,24,25,26,27,28,29,30,31,32,33,34]⟩] 0 0 [
])
 .ret)))))))
def r3:List RV:=[.tmp 4]
theorem n3:Tryz.f3.ntmps=82:=by kernel_rfl
theorem b3:YL Tryz.prog 3=true:=by kernel_rfl
theorem t3:Qt1 Tryz.prog 3 c3 r3 82:=Z6 Tryz.func3 rfl b3 (by kernel_rfl) (by kernel_rfl) n3
theorem Zg3 (s:Season) (hs:SmallS s):Ct Tryz.prog 17 [.agg (Zr s)] (I (if Zy s=true then 0 else 90)):=by
 refine t17.1 (by simp [Zr,Zj,Ze,Zm,Zg,Zd,Zo,Za,KFL,KF]) (by simp [KFL,KF]) ?_
 dsimp only [c17,r17,Zr,go_sem,rA,rM,rS]
 refine call (Zk0 s hs) ?_
 dsimp only [go_sem,rA,rM,rS]
 refine br ?_ ?_
 . intro h
   dsimp only [go_sem,rA,rM,rS]
   simp at h
   simp [h]
 . intro h
   dsimp only [go_sem,rA,rM,rS]
   simp at h
   simp [h]
end Go.Proofs.YtiigiflofnjilaaGreat
namespace Go.Azalai
open Go.Sx
def Wr (s:Season) (p:Plan):Bool:=!Ul s && Zy s && decide (p.legs.length<=40) && Xa s p && decide (s.till<=2000)
end Go.Azalai
namespace Go.Proofs.YtiigiflofnjilaaGreat
open Go Go.Sx Go.Azalai
structure ReadyS (s:Season) (p:Plan):Prop where
 great:Ul s=false
 ok:OkS s
 legs:p.legs.length<=40
 plan:Xa s p=true
 till:s.till<=2000
theorem Zho {s:Season} {p:Plan} (h:Wr s p=true):ReadyS s p:=by
 simp only [Wr,Bool.and_eq_true,Bool.not_eq_true',decide_eq_true_eq] at h
 obtain ⟨⟨⟨⟨h1,h2⟩,h3⟩,h4⟩,h5⟩:=h
 exact ⟨h1,⟨ZbN h1,h2⟩,h3,h4,h5⟩
theorem Zpj (s:Season) (p:Plan):Ct Tryz.prog 31 [.agg (Zr s),.agg (ZB p)] (B (Wr s p)):=by
 refine t31.1 (by simp [Zr,ZB,Zj,Ze,Zm,Zg,Zd,Zo,Za,KFL,KF]) (by simp [KFL,KF]) ?_
 dsimp only [c31,r31,Zr,ZB,go_sem,rA,rM,rS]
 refine call (ZkB s) ?_
 dsimp only [go_sem,rA,rM,rS]
 cases h:Ul s
 case true =>
  rw [show Wr s p=false from by simp [Wr,h]]
  repeat (refine Vi (by decide) ?_;dsimp only [go_sem,rA,rM,rS])
 have hs:=ZbN h
 refine Yo rfl ?_
 dsimp only [go_sem,rA,rM,rS]
 refine Yo rfl ?_
 dsimp only [go_sem,rA,rM,rS]
 refine call (Zg3 s hs) ?_
 dsimp only [go_sem,rA,rM,rS]
 refine Yo rfl ?_
 dsimp only [go_sem,rA,rM,rS]
 cases h2:Zy s
 case false =>
  rw [show Wr s p=false from by simp [Wr,h,h2]]
  simp only [Bool.false_eq_true,if_false,Bool.not_false,Bool.true_and,show ((90:Int) == 0)=false from rfl]
  repeat (refine Vi (by decide) ?_;dsimp only [go_sem,rA,rM,rS])
 simp only [if_true,Bool.not_false,Bool.true_and,show ((0:Int) == 0)=true from rfl]
 iterate 4 (refine Yo rfl ?_;dsimp only [go_sem,rA,rM,rS])
 simp only [List.length_map]
 by_cases h3:p.legs.length<=40
 case neg =>
  rw [show Wr s p=false from by simp [Wr,h,h2,h3]]
  have:decide ((p.legs.length:Int)<=40)=false:=by simp;omega
  simp only [this,Bool.and_false]
  repeat (refine Vi (by decide) ?_;dsimp only [go_sem,rA,rM,rS])
 have e3:decide ((p.legs.length:Int)<=40)=true:=by simp;omega
 simp only [e3,Bool.and_true]
 iterate 2 (refine Yo rfl ?_;dsimp only [go_sem,rA,rM,rS])
 refine Yo rfl ?_
 dsimp only [go_sem,rA,rM,rS]
 refine call (Zs0 s ⟨hs,h2⟩ p (by omega)) ?_
 dsimp only [go_sem,rA,rM,rS]
 cases h4:Xa s p
 case false =>
  rw [show Wr s p=false from by simp [Wr,h4]]
  simp only [Bool.and_false]
  repeat (refine Vi (by decide) ?_;dsimp only [go_sem,rA,rM,rS])
 simp only [Bool.and_true]
 iterate 3 (refine Yo rfl ?_;dsimp only [go_sem,rA,rM,rS])
 simp [Wr,h,h2,h3,h4]
theorem Zoz:Ct Tryz.prog 30 [] (B true):=by
 have h1:=V5 Xd YZ ⟨[0,1],2,2⟩ (by decide)
 have h2:=V5 Xd YZ ⟨[0,1],3,2⟩ (by decide)
 have h3:=V5 Xd YZ ⟨[2],10,1⟩ (by decide)
 have h4:=ZjB Xd YZ ⟨[0,1],2,2⟩ (by decide)
 have h5:=Zfx Xd YZ ⟨[0,1],2,2⟩ (by decide) 0
 have h6:=ZvZ Xd YZ
 have h7:=Znp Xd YZ
 rw [Zva] at h1
 rw [ZsJ] at h2
 rw [Zsw] at h3
 rw [Zga] at h4
 rw [Zgy] at h5
 rw [ZiB] at h6
 rw [Zhm] at h7
 refine t30.1 (by simp [KFR,KFL,KF]) (by simp [KFL,KF]) ?_
 dsimp only [c30,r30,go_sem,rA,rM,rS]
 refine call WJ ?_
 dsimp only [go_sem,rA,rM,rS]
 refine call (Zgz 2 2 [0,1] true) ?_
 dsimp only [go_sem,rA,rM,rS]
 refine call h1 ?_
 dsimp only [ZcD,go_sem,rA,rM,rS]
 refine call WJ ?_
 dsimp only [go_sem,rA,rM,rS]
 refine call (Zgz 3 2 [0,1] true) ?_
 dsimp only [go_sem,rA,rM,rS]
 refine call h2 ?_
 dsimp only [ZcD,go_sem,rA,rM,rS]
 refine call WJ ?_
 dsimp only [go_sem,rA,rM,rS]
 refine call (Zgz 10 1 [2] true) ?_
 dsimp only [go_sem,rA,rM,rS]
 refine call h3 ?_
 dsimp only [ZcD,go_sem,rA,rM,rS]
 refine call WJ ?_
 dsimp only [go_sem,rA,rM,rS]
 refine call (Zgz 2 2 [0,1] true) ?_
 dsimp only [go_sem,rA,rM,rS]
 refine call h4 ?_
 dsimp only [go_sem,rA,rM,rS]
 refine call WJ ?_
 dsimp only [go_sem,rA,rM,rS]
 refine call (Zgz 2 2 [0,1] true) ?_
 dsimp only [go_sem,rA,rM,rS]
 refine call h5 ?_
 dsimp only [ZfN,go_sem,rA,rM,rS]
 refine call WJ ?_
 dsimp only [go_sem,rA,rM,rS]
 refine call h6 ?_
 dsimp only [Zsj,ZB,go_sem,rA,rM,rS]
 refine call WJ ?_
 dsimp only [go_sem,rA,rM,rS]
 refine call h7 ?_
 dsimp only [go_sem,rA,rM,rS]
 repeat (first | (refine gb ?_;dsimp only [go_sem,rA,rM,rS]) | (refine call (Zdt [⟨1,2,100000⟩] [⟨1,2,100000⟩] (by decide) (by decide) false true) ?_;dsimp only [go_sem,rA,rM,rS]) | (refine call (Zgz 1 4 [0,1] true) ?_;dsimp only [ZB,go_sem,rA,rM,rS]) | (refine call (ZeT ⟨[0,1],1,4⟩ ⟨[0,1],1,4⟩ (by decide) (by decide)) ?_;dsimp only [go_sem,rA,rM,rS]))
 simp
def c11:SC:=(.seq (.reg [
 o1 4 (.box (.t 0) 0 34),
 o1 5 (.box (.t 1) 0 37),
 o1 8 (.mv (.c (.bool false)))])
 (.seq (.reg [
 o1 29 (.call 30 []),
 m1 9 29])
 (.seq (.seq (.reg [
 m1 30 9,
 o1 31 (.un .not (.t 30))])
 (.cond (.t 31)
 (.seq (.reg [
  o1 8 (.mv (.c (.bool false)))])
  .ret)
 .skip))
 (.seq (.seq (.reg [
 o1 32 (.ld (.t 4) 37 true),
 o1 33 (.ld (.t 5) 3 true),
 o1 34 (.call 31 [.t 32,.t 33]),
 o1 35 (.un .not (.t 34))])
 (.cond (.t 35)
 (.seq (.reg [
  m1 36 9,
  m1 8 36])
  .ret)
 .skip))
 (.seq (.reg [
 m1 37 2,
 o1 38 (.conv .i64 (.t 37)),
 o1 39 (.addo (.t 4) 36),
 o1 40 (.ld (.t 39) 1 false),
 o1 41 (.len (.t 40)),
 o1 42 (.div .rem (.t 38) (.t 41)),
 m1 10 42])
 (.seq (.reg [
 o1 44 (.ld (.t 4) 37 true),
 o1 45 (.ld (.t 5) 3 true),
 m1 46 10,
 o1 47 (.call 22 [.t 44,.t 45,.t 46]),
 m1 43 47,
 o1 48 (.ext (.t 43) 0),
 o1 49 (.ext (.t 43) 1),
 m1 11 48,
 m1 12 49])
 (.seq (.seq (.reg [
 m1 50 12,
 o1 51 (.bin .neq (.t 50) (.c (.int .i64 0)))])
 (.cond (.t 51)
 (.seq (.reg [
  m1 52 9,
  m1 53 52,
  ⟨some 54,.mv (.t 12),some (53,true),[]⟩,
  ⟨some 55,.bin .eql (.t 54) (.c (.int .i64 92)),some (53,true),[]⟩,
  o1 56 (.pick (.t 53) (.t 55) (.c (.bool false))),
  m1 57 56,
  ⟨some 58,.mv (.t 11),some (57,true),[]⟩,
  ⟨some 59,.len (.t 58),some (57,true),[]⟩,
  ⟨some 60,.bin .eql (.t 59) (.c (.int .i64 0)),some (57,true),[]⟩,
  o1 61 (.pick (.t 57) (.t 60) (.c (.bool false))),
  m1 8 61])
  .ret)
 .skip))
 (.seq (.seq (.reg [
 m1 62 11,
 o1 63 (.len (.t 62)),
 o1 64 (.addo (.t 5) 0),
 o1 65 (.ld (.t 64) 1 false),
 o1 66 (.len (.t 65)),
 o1 67 (.bin .sub (.t 66) (.c (.int .i64 1))),
 o1 68 (.mm true [.c (.int .i64 0),.t 67]),
 o1 69 (.bin .neq (.t 63) (.t 68))])
 (.cond (.t 69)
 (.seq (.reg [
  o1 8 (.mv (.c (.bool false)))])
  .ret)
 .skip))
 (.seq (.reg [
 o1 70 (.ld (.t 4) 37 true),
 m1 71 10,
 o1 72 (.call 38 [.t 70,.t 71]),
 o1 13 (.alloc [.slice none 0 0,.slice none 0 0] 25),
 ⟨none,.st (.t 13) (.t 72) 2,none,[]⟩])
 (.seq (.reg [
 o1 74 (.addo (.t 4) 0),
 o1 75 (.ld (.t 74) 2 true),
 o1 76 (.addo (.t 4) 33),
 o1 77 (.ld (.t 76) 1 false),
 o1 78 (.addo (.t 4) 34),
 o1 79 (.ld (.t 78) 1 false),
 o1 80 (.addo (.t 4) 2),
 o1 81 (.ld (.t 80) 2 true),
 o1 82 (.addo (.t 5) 0),
 o1 83 (.ld (.t 82) 1 false),
 o1 84 (.call 36 [.t 75,.t 77,.t 79,.t 81,.t 83]),
 m1 73 84,
 o1 85 (.ext (.t 73) 0),
 o1 86 (.ext (.t 73) 1),
 o1 87 (.ext (.t 73) 2),
 m1 14 85,
 m1 15 86,
 m1 16 87])
 (.seq (.seq (.reg [
 m1 88 16,
 o1 89 (.bin .neq (.t 88) (.c (.int .i64 0))),
 m1 90 89,
 ⟨some 91,.mv (.t 14),some (90,false),[]⟩,
 ⟨some 92,.len (.t 91),some (90,false),[]⟩,
 ⟨some 93,.addo (.t 5) 0,some (90,false),[]⟩,
 ⟨some 94,.ld (.t 93) 1 false,some (90,false),[]⟩,
 ⟨some 95,.len (.t 94),some (90,false),[]⟩,
 ⟨some 96,.bin .neq (.t 92) (.t 95),some (90,false),[]⟩,
 o1 97 (.pick (.t 90) (.c (.bool true)) (.t 96)),
 m1 98 97,
 ⟨some 99,.ld (.t 13) 2 true,some (98,false),[]⟩,
 ⟨some 100,.mv (.t 11),some (98,false),[]⟩,
 ⟨some 101,.call 45 [.t 99,.t 100],some (98,false),[]⟩,
 ⟨some 102,.un .not (.t 101),some (98,false),[]⟩,
 o1 103 (.pick (.t 98) (.c (.bool true)) (.t 102))])
 (.cond (.t 103)
 (.seq (.reg [
  o1 8 (.mv (.c (.bool false)))])
  .ret)
 .skip))
 (.seq (.seq (.reg [
 m1 104 11,
 o1 105 (.len (.t 104)),
 o1 106 (.mv (.c (.int .i64 0)))])
 (.block 0 (.loop (.seq (.reg [
  o1 107 (.bin .lss (.t 106) (.t 105))])
  (.seq (.cond (.t 107)
  .skip
  (.exit 0))
  (.seq (.block 1 (.seq (.reg [
   m1 108 106,
   o1 109 (.ixs (.t 104) (.t 106) 3),
   o1 110 (.ld (.t 109) 3 true),
   o1 18 (.alloc [.int .i64 0,.int .i64 0,.int .i64 0] 111),
   m1 17 108,
   ⟨none,.st (.t 18) (.t 110) 3,none,[]⟩])
   (.seq (.seq (.regd [0,1,2,3,4,5,6,7,8,9,10,11,12,13,14,15,16,17,18,19,20,21,22,23,24,25,26,27,28,29,30,31,32,33,34,35,36,37,38,39,40,41,42,43,44] [
   .op (o1 111 (.addo (.t 18) 0)),
   .op ⟨some 112,.ld (.t 111) 1 false,none,[0]⟩,
   .op (m1 113 14),
   .op (m1 114 17),
   .op ⟨some 115,.ixs (.t 113) (.t 114) 6,none,[2,3]⟩,
   .op ⟨some 116,.addo (.t 115) 1,none,[4]⟩,
   .op ⟨some 117,.ld (.t 116) 1 false,none,[5]⟩,
   .op ⟨some 118,.bin .neq (.t 112) (.t 117),none,[1,6]⟩,
   .op ⟨some 119,.mv (.t 118),none,[7]⟩,
   .op ⟨some 120,.addo (.t 18) 1,some (119,false),[8]⟩,
   .op ⟨some 121,.ld (.t 120) 1 false,some (119,false),[8,9]⟩,
   .op ⟨some 122,.mv (.t 14),some (119,false),[8]⟩,
   .op ⟨some 123,.mv (.t 17),some (119,false),[8]⟩,
   .op ⟨some 124,.ixs (.t 122) (.t 123) 6,some (119,false),[8,11,12]⟩,
   .op ⟨some 125,.addo (.t 124) 4,some (119,false),[8,13]⟩,
   .op ⟨some 126,.addo (.t 125) 0,some (119,false),[8,14]⟩,
   .op ⟨some 127,.ld (.t 126) 1 false,some (119,false),[8,15]⟩,
   .op ⟨some 128,.bin .neq (.t 121) (.t 127),some (119,false),[8,10,16]⟩,
   .op ⟨some 129,.pick (.t 119) (.c (.bool true)) (.t 128),none,[8,17]⟩,
   .op ⟨some 130,.mv (.t 129),none,[8,18]⟩,
   .op ⟨some 131,.addo (.t 18) 2,some (130,false),[19]⟩,
   .op ⟨some 132,.ld (.t 131) 1 false,some (130,false),[19,20]⟩,
   .op ⟨some 133,.bin .lss (.t 132) (.c (.int .i64 0)),some (130,false),[19,21]⟩,
   .op ⟨some 134,.pick (.t 130) (.c (.bool true)) (.t 133),none,[19,22]⟩,
   .op ⟨some 135,.mv (.t 134),none,[19,23]⟩,
   .op ⟨some 136,.addo (.t 18) 2,some (135,false),[24]⟩,
   .op ⟨some 137,.ld (.t 136) 1 false,some (135,false),[24,25]⟩,
   .op ⟨some 138,.addo (.t 5) 1,some (135,false),[24]⟩,
   .op ⟨some 139,.ld (.t 138) 1 false,some (135,false),[24,27]⟩,
   .op ⟨some 140,.addo (.t 4) 4,some (135,false),[24]⟩,
   .op ⟨some 141,.addo (.t 140) 0,some (135,false),[24,29]⟩,
   .op ⟨some 142,.ld (.t 141) 1 false,some (135,false),[24,30]⟩,
   .op ⟨some 143,.bin .mul (.t 139) (.t 142),some (135,false),[24,28,31]⟩,
   .op ⟨some 144,.bin .gtr (.t 137) (.t 143),some (135,false),[24,26,32]⟩,
   .op ⟨some 145,.pick (.t 135) (.c (.bool true)) (.t 144),none,[24,33]⟩,
   .op ⟨some 146,.mv (.t 145),none,[24,34]⟩,
   .op ⟨some 147,.addo (.t 5) 1,some (146,false),[35]⟩,
   .op ⟨some 148,.ld (.t 147) 1 false,some (146,false),[35,36]⟩,
   .op ⟨some 149,.bin .eql (.t 148) (.c (.int .i64 0)),some (146,false),[35,37]⟩,
   .op ⟨some 150,.mv (.t 149),some (146,false),[35,38]⟩,
   .op ⟨some 151,.addo (.t 18) 2,some (150,true),[39]⟩,
   .op ⟨some 152,.ld (.t 151) 1 false,some (150,true),[39,40]⟩,
   .op ⟨some 153,.bin .neq (.t 152) (.c (.int .i64 0)),some (150,true),[39,41]⟩,
   .op ⟨some 154,.pick (.t 150) (.t 153) (.c (.bool false)),some (146,false),[35,39,42]⟩,
   .op ⟨some 155,.pick (.t 146) (.c (.bool true)) (.t 154),none,[35,43]⟩] 0 0 [
])
 (.cond (.t 155)
 (.seq (.reg [
  o1 8 (.mv (.c (.bool false)))])
  .ret)
 .skip))
 (.seq (.reg [
 o1 157 (.ld (.t 13) 2 true),
 o1 158 (.addo (.t 18) 0),
 o1 159 (.ld (.t 158) 1 false),
 o1 160 (.addo (.t 18) 1),
 o1 161 (.ld (.t 160) 1 false),
 o1 162 (.call 42 [.t 157,.t 159,.c (.slice none 0 0),.t 161]),
 m1 156 162,
 o1 163 (.ext (.t 156) 0),
 o1 164 (.ext (.t 156) 1),
 o1 165 (.ext (.t 156) 2),
 o1 19 (.alloc [.int .i64 0,.int .i64 0] 27),
 ⟨none,.st (.t 19) (.t 163) 2,none,[]⟩,
 m1 20 164,
 m1 21 165])
 (.seq (.seq (.reg [
 m1 166 21,
 o1 167 (.bin .neq (.t 166) (.c (.int .i64 0))),
 m1 168 167,
 ⟨some 169,.addo (.t 19) 0,some (168,false),[]⟩,
 ⟨some 170,.ld (.t 169) 1 false,some (168,false),[]⟩,
 ⟨some 171,.addo (.t 18) 2,some (168,false),[]⟩,
 ⟨some 172,.ld (.t 171) 1 false,some (168,false),[]⟩,
 ⟨some 173,.bin .lss (.t 170) (.t 172),some (168,false),[]⟩,
 o1 174 (.pick (.t 168) (.c (.bool true)) (.t 173))])
 (.cond (.t 174)
 (.seq (.reg [
  o1 8 (.mv (.c (.bool false)))])
  .ret)
 .skip))
 (.seq (.reg [
 o1 175 (.addo (.t 18) 1),
 o1 176 (.ld (.t 175) 1 false),
 o1 177 (.bin .add (.t 176) (.c (.int .i64 1))),
 m1 178 3,
 o1 179 (.conv .i64 (.t 178)),
 o1 180 (.bin .add (.t 177) (.t 179)),
 o1 181 (.mm false [.t 180,.c (.int .i64 100000)]),
 m1 22 181])
 (.seq (.reg [
 o1 183 (.ld (.t 13) 2 true),
 o1 184 (.addo (.t 18) 0),
 o1 185 (.ld (.t 184) 1 false),
 m1 186 11,
 m1 187 22,
 o1 188 (.call 42 [.t 183,.t 185,.t 186,.t 187]),
 m1 182 188,
 o1 189 (.ext (.t 182) 0),
 o1 190 (.ext (.t 182) 1),
 o1 191 (.ext (.t 182) 2),
 o1 23 (.alloc [.int .i64 0,.int .i64 0] 27),
 ⟨none,.st (.t 23) (.t 189) 2,none,[]⟩,
 m1 24 190,
 m1 25 191])
 (.seq (.reg [
 o1 193 (.ld (.t 13) 2 true),
 o1 194 (.addo (.t 18) 0),
 o1 195 (.ld (.t 194) 1 false),
 m1 196 22,
 o1 197 (.call 42 [.t 193,.t 195,.c (.slice none 0 0),.t 196]),
 m1 192 197,
 o1 198 (.ext (.t 192) 0),
 o1 199 (.ext (.t 192) 1),
 o1 200 (.ext (.t 192) 2),
 o1 26 (.alloc [.int .i64 0,.int .i64 0] 27),
 ⟨none,.st (.t 26) (.t 198) 2,none,[]⟩,
 m1 27 199,
 m1 28 200])
 (.seq (.reg [
 m1 201 25,
 o1 202 (.bin .neq (.t 201) (.c (.int .i64 0))),
 m1 203 202,
 ⟨some 204,.mv (.t 28),some (203,false),[]⟩,
 ⟨some 205,.bin .neq (.t 204) (.c (.int .i64 0)),some (203,false),[]⟩,
 o1 206 (.pick (.t 203) (.c (.bool true)) (.t 205)),
 m1 207 206,
 ⟨some 208,.addo (.t 23) 0,some (207,false),[]⟩,
 ⟨some 209,.ld (.t 208) 1 false,some (207,false),[]⟩,
 ⟨some 210,.addo (.t 26) 0,some (207,false),[]⟩,
 ⟨some 211,.ld (.t 210) 1 false,some (207,false),[]⟩,
 ⟨some 212,.bin .gtr (.t 209) (.t 211),some (207,false),[]⟩,
 o1 213 (.pick (.t 207) (.c (.bool true)) (.t 212)),
 m1 214 213,
 ⟨some 215,.addo (.t 23) 1,some (214,false),[]⟩,
 ⟨some 216,.ld (.t 215) 1 false,some (214,false),[]⟩,
 ⟨some 217,.addo (.t 26) 1,some (214,false),[]⟩,
 ⟨some 218,.ld (.t 217) 1 false,some (214,false),[]⟩,
 ⟨some 219,.bin .gtr (.t 216) (.t 218),some (214,false),[]⟩,
 o1 220 (.pick (.t 214) (.c (.bool true)) (.t 219)),
 m1 221 220,
 ⟨some 222,.addo (.t 23) 0,some (221,false),[]⟩,
 ⟨some 223,.ld (.t 222) 1 false,some (221,false),[]⟩,
 ⟨some 224,.addo (.t 26) 0,some (221,false),[]⟩,
 ⟨some 225,.ld (.t 224) 1 false,some (221,false),[]⟩,
 ⟨some 226,.addo (.t 18) 2,some (221,false),[]⟩,
 ⟨some 227,.ld (.t 226) 1 false,some (221,false),[]⟩,
 ⟨some 228,.bin .sub (.t 225) (.t 227),some (221,false),[]⟩,
 ⟨some 229,.bin .lss (.t 223) (.t 228),some (221,false),[]⟩,
 o1 230 (.pick (.t 221) (.c (.bool true)) (.t 229)),
 m1 231 230,
 ⟨some 232,.addo (.t 23) 1,some (231,false),[]⟩,
 ⟨some 233,.ld (.t 232) 1 false,some (231,false),[]⟩,
 ⟨some 234,.addo (.t 26) 1,some (231,false),[]⟩,
 ⟨some 235,.ld (.t 234) 1 false,some (231,false),[]⟩,
 ⟨some 236,.addo (.t 18) 2,some (231,false),[]⟩,
 ⟨some 237,.ld (.t 236) 1 false,some (231,false),[]⟩,
 ⟨some 238,.bin .sub (.t 235) (.t 237),some (231,false),[]⟩,
 ⟨some 239,.bin .lss (.t 233) (.t 238),some (231,false),[]⟩,
 o1 240 (.pick (.t 231) (.c (.bool true)) (.t 239))])
 (.cond (.t 240)
 (.seq (.reg [
  o1 8 (.mv (.c (.bool false)))])
  .ret)
 .skip))))))))))
 (.reg [
 o1 241 (.bin .add (.t 106) (.c (.int .i64 1))),
 m1 106 241])))))))
 (.seq (.reg [
 m1 242 9,
 m1 8 242])
 .ret)))))))))))))
def r11:List RV:=[.tmp 8]
theorem t11:Qt1 Tryz.prog 11 c11 r11 243:=Z6 Tryz.func11 rfl (by kernel_rfl) (by kernel_rfl) (by kernel_rfl) (by kernel_rfl)
theorem Zdh (l:Land) (hs:X9 l) (well day:Int):Ct Tryz.prog 42 [.agg (ZN l),I well,.v (.slice none 0 0),I day] (Zgn (Z1 l well [] day)) :=
 (Zc4 l hs well day [] (by simp)).args (by simp [ZN,Ze,Zm,Zg,Za,KFL,KF]) (ZS (fun _ _ _ _ _ h=>h) (ZS (fun _ _ _ _ _ h=>h) (ZS YF XN)))
theorem Zii {s:Season} (h:OkS s) {p:Plan} (hp:Xa s p=true) (hsure:Wy s p.legs=true):Trk s.land s.pace s.start s.day s.day p.legs (Zw s p.legs)/\(Zw s p.legs).length=p.legs.length/\YM s.land s.pace s.start s.day p.legs=(Zw s p.legs,0,0):=by
 have hl:(Zw s p.legs).length=p.legs.length:=by have:=congrArg List.length (UM hsure);simpa using this
 have q:=hsure
 simp only [Wy,Bool.and_eq_true,decide_eq_true_eq] at q
 have hw:YM s.land s.pace s.start s.day p.legs=((YM s.land s.pace s.start s.day p.legs).1,(YM s.land s.pace s.start s.day p.legs).2.1,0):=by rw [<- q.1]
 obtain ⟨e,ht⟩:=Zfn hw
 refine ⟨ht,hl,?_⟩
 rw [hw,e];rfl
theorem Zcx {s:Season} {x:Scene} (h:ZH s.land=true) (hx:Yg s.land.wells.length x=true):ZH (Z4 s x)=true:=by
 simp only [Yg,Bool.and_eq_true,decide_eq_true_eq,List.all_eq_true] at hx
 have hy:x.yields.length=s.land.wells.length:=by omega
 have hl:(Z4 s x).wells.length=s.land.wells.length:=Vw hy
 simp only [ZH,Bool.and_eq_true,List.all_eq_true] at h ⊢
 rw [hl]
 obtain ⟨⟨h1,h2⟩,h3⟩:=h
 refine ⟨⟨h1,fun w hw=>?_⟩,h3⟩
 obtain ⟨i,hi,rfl⟩:=List.getElem_of_mem hw
 rw [hl] at hi
 have e:(Z4 s x).wells[i]'(by omega)={ s.land.wells[i] with yld:=x.yields[i]'(by omega) }:=Zcs hi (by omega) (by rw [Vw hy];exact hi)
 rw [e]
 have a1:=h2 _ (List.getElem_mem hi)
 have a2:=hx.1.2 _ (List.getElem_mem (show i < x.yields.length by omega))
 simp only [Yu,Bool.and_eq_true] at a1 ⊢
 exact ⟨⟨⟨⟨⟨⟨a1.1.1.1.1.1.1,a1.1.1.1.1.1.2⟩,a1.1.1.1.1.2⟩,a2⟩,a1.1.1.2⟩,a1.1.2⟩,a1.2⟩
theorem Zb2 (s:Season) (p:Plan) (sc la:Int) (hsc:0<=sc/\sc < 256) (hla:0<=la/\la < 256):Ct Tryz.prog 11 [.agg (Zr s),.agg (ZB p),U8 sc,U8 la] (B true):=by
 refine t11.1 (by simp [Zr,ZB,Zj,Ze,Zm,Zg,Zd,Zo,Za,KFL,KF]) (by simp [KFL,KF]) ?_
 dsimp only [c11,r11,Zr,ZB,go_sem,rA,rM,rS]
 refine call Zoz ?_
 dsimp only [go_sem,rA,rM,rS]
 refine Zv rfl ?_
 dsimp only [go_sem,rA,rM,rS]
 refine call (Zpj s p) ?_
 dsimp only [go_sem,rA,rM,rS]
 by_cases hr:Wr s p=true
 case neg =>
  refine Zu (by simpa using hr) ?_
  dsimp only [go_sem,rA,rM,rS]
 refine Zv (by simpa using hr) ?_
 dsimp only [go_sem,rA,rM,rS]
 obtain ⟨hgr,h,hlegs,hp,htill⟩:=Zho hr
 have hn:=h.num
 have hst:=h.start
 have hs4:=h.scs
 obtain ⟨⟨to,hto⟩,hpl⟩:=Wm hp
 simp only [List.length_map]
 refine Zpb (by omega) ?_
 dsimp only [go_sem,rA,rM,rS]
 have hrem:0<=sc.tmod s.scenes.length/\sc.tmod s.scenes.length < s.scenes.length:=⟨Int.tmod_nonneg _ hsc.1,Int.tmod_lt_of_pos _ (by omega)⟩
 obtain ⟨k,hk⟩:∃ k:Nat,sc.tmod s.scenes.length=k:=⟨(sc.tmod s.scenes.length).toNat,by omega⟩
 have hdv:divr .rem .i64 (IntKind.i64.wrap sc) s.scenes.length=(k:Int):=by
  rw [Zi (n:=sc) (by omega) (by omega)]
  exact hk
 rw [hdv]
 have hklt:k < s.scenes.length:=by omega
 refine call (Zfx s h.small p (by omega) k) ?_
 dsimp only [ZfN,go_sem,rA,rM,rS]
 by_cases he:(Wl s p k).2=0
 case neg =>
  rw [Zgl h.ok hp he]
  refine Zu (by decide) ?_
  dsimp only [go_sem,rA,rM,rS]
  repeat (refine gb ?_;dsimp only [go_sem,rA,rM,rS])
  simp
 obtain ⟨hfa,hT⟩:=ZeO h.ok hp hklt he
 have hf:=hfa _ (List.getElem_mem hklt)
 have hsure:Wy s p.legs=true:=by
  unfold Xi at hf
  split at hf
  . simp at hf
  . rename_i q;simpa using q
 obtain ⟨ht,hl,hwk⟩:=Zii h hp hsure
 have hDr:=ZqM h hp hf
 rw [hT]
 refine Zv rfl ?_
 dsimp only [go_sem,rA,rM,rS]
 have hx:=h.scene _ (List.getElem_mem hklt)
 have hy:s.scenes[k].yields.length=s.land.wells.length:=by simp only [Yg,Bool.and_eq_true,decide_eq_true_eq] at hx;omega
 generalize YP s s.scenes[k] p.animals p.slabs (Zw s p.legs)=D at hDr ⊢
 have hDl:=hDr.len
 simp only [List.length_map]
 rw [Zi (n:=(p.legs.length:Int) - 1) (by omega) (by omega)]
 refine Zv (by simp;omega) ?_
 dsimp only [go_sem,rA,rM,rS]
 refine call (ZiL s h.small k hklt hy) ?_
 dsimp only [ZN,go_sem,rA,rM,rS]
 have hww:=Zws s h p.legs (by omega) false (Zfm s.land h.small.land s.start s.day s.pace p.legs (by omega) false)
 rw [hwk] at hww
 refine call hww ?_
 dsimp only [go_sem,rA,rM,rS]
 have hSm:=U4 (x:=s.scenes[k]) h.small.land hy
 have hokL:ZH (Z4 s s.scenes[k])=true:=Zcx h.land hx
 have hwl:(Z4 s s.scenes[k]).wells.length=s.land.wells.length:=Vw hy
 have hLe:=Zyu h hto
 obtain ⟨hnd,hwin⟩:=ZdC h.lp ht hto
 obtain ⟨hpw,hdin⟩:=Zfq h.lp ht (Int.le_refl _) (by omega)
 have hat:∀ (i:Nat) (hi:i < D.length),∃ wn:Nat,wn < s.land.wells.length/\D[i].well=wn/\0<=D[i].day/\D[i].day<=100000/\0<=D[i].water/\D[i].water<=30 * 1000000:=fun i hi=>by
  have his:i < (Zw s p.legs).length:=by omega
  obtain ⟨g1,g2,g3,g4,g5,g6⟩:=hDr.at_ i hi his
  have w1:=(hwin _ (List.mem_map.2 ⟨_,List.getElem_mem his,rfl⟩)).2
  have w2:=hdin _ (List.getElem_mem his)
  have hm:=Uo h.beast.1 h.beast.2
  have hfl:p.animals * s.breed.full<=30 * 1000000:=Int.mul_le_mul (by omega) (by omega) (by omega) (by decide)
  exact ⟨((Zw s p.legs)[i].well).toNat,by omega,by omega,by omega,by omega,g3,by omega⟩
 have hokD:YC (Z4 s s.scenes[k]).wells.length 0 D=true:=by
  rw [hwl]
  refine Zb4 (fun x hxD=>?_) ?_
  . obtain ⟨i,hi,rfl⟩:=List.getElem_of_mem hxD
    obtain ⟨wn,q1,q2,q3,q4,q5,q6⟩:=hat i hi
    exact ⟨by simp only [inR,decide_eq_true_eq];omega,q3,q4,q5,by omega⟩
  . rw [List.pairwise_iff_getElem]
    intro i j hi hj hij
    have h1:=(hDr.at_ i hi (by omega)).2.1
    have h2:=(hDr.at_ j hj (by omega)).2.1
    rw [h1,h2]
    exact (List.pairwise_iff_getElem.1 hpw) i j (by omega) (by omega) hij
 have hdl:=ZjZ (Z4 s s.scenes[k]) hSm D (by omega)
 rw [hokD] at hdl
 simp only [ZN] at hdl
 repeat (first | (refine gb ?_;dsimp only [go_sem,rA,rM,rS]) | (refine call hdl ?_;dsimp only [go_sem,rA,rM,rS]))
 try simp only [List.length_map]
 refine Zv (by simp [hl]) ?_
 dsimp only [go_sem,rA,rM,rS]
 simp only [List.length_map]
 refine W3 [3,4,5,9,11,13,14,104,105,106] rfl (fun q:Nat=>[(106,I q)]) (fun _=>[]) (fun q=>q<=D.length) (fun q=>D.length - q) 0 (Nat.zero_le _) ?_ ?_
 . (refine Zl ?_ ?_ ?_ rfl rfl<;>dsimp only [Ze,Zm,Zg,Zj,Zd,Zo,ZL,ZK,ZN,id,go_sem,rA,rM,rS]<;>simp [Ze,Zm,Zg,Zj,Zd,Zo,ZL,ZK,ZN,Za,Zf,KFR,KFL,KF,Zc,mtO,nbr])
 intro i hi
 dsimp only [go_sem,rA,rM,rS]
 by_cases hilt:i < D.length
 case neg =>
  refine Zv (by simp;omega) ?_
  dsimp only [go_sem,rA,rM,rS]
 refine Zu (by simpa using hilt) ?_
 dsimp only [go_sem,rA,rM,rS]
 refine Zp i hilt rfl ?_
 dsimp only [ZK,go_sem,rA,rM,rS]
 have his:i < (Zw s p.legs).length:=by omega
 obtain ⟨g1,g2,g3,g4,g5,g6⟩:=hDr.at_ i hilt his
 obtain ⟨wn,q1,q2,q3,q4,q5,q6⟩:=hat i hilt
 have hm:=Uo h.beast.1 h.beast.2
 have hfl:0<=p.animals * s.breed.full/\p.animals * s.breed.full<=30 * 1000000:=⟨Int.mul_nonneg hpl.1 (by omega),Int.mul_le_mul (by omega) (by omega) (by omega) (by decide)⟩
 repeat (first | (refine gb ?_;dsimp only [ZL,go_sem,rA,rM,rS]) | (refine Zp i his rfl ?_;dsimp only [ZL,go_sem,rA,rM,rS]))
 rw [Zi (n:=p.animals * s.breed.full) (by omega) (by omega)]
 refine Zv ?_ ?_
 . simp only [g1,g2]
   by_cases hn0:p.animals=0
   . have:=g5 hn0
     simp [hn0,this]
   . simp [hn0];omega
 dsimp only [go_sem,rA,rM,rS]
 have hwk':D[i].well=(wn:Int):=q2
 have hkl:wn < (Z4 s s.scenes[k]).wells.length:=by rw [hwl];exact q1
 have hday0:(Z1 (Z4 s s.scenes[k]) D[i].well [] D[i].day).2.2=0:=by
  rw [hwk',V3 hokL hkl ⟨q3,q4⟩ (by simp) rfl];rfl
 have hmor:D[i].water<=(Z1 (Z4 s s.scenes[k]) D[i].well [] D[i].day).1.lo:=by
  have:ZbV s s.scenes[k] (Zw s p.legs)[i]=(Z1 (Z4 s s.scenes[k]) (Zw s p.legs)[i].well [] (Zw s p.legs)[i].arrives.lo).1.lo:=rfl
  rw [g1,g2,<- this];exact g6
 have hw1:=Zdh (Z4 s s.scenes[k]) hSm D[i].well D[i].day
 simp only [ZN] at hw1
 refine call hw1 ?_
 dsimp only [Zgn,Zd,go_sem,rA,rM,rS]
 rw [hday0]
 repeat (refine gb ?_;dsimp only [go_sem,rA,rM,rS])
 refine Zv (by simp;omega) ?_
 dsimp only [go_sem,rA,rM,rS]
 rw [Zi (n:=la) (by omega) (by omega),Zi (n:=D[i].day+1) (by omega) (by omega),Zi (n:=D[i].day+1+la) (by omega) (by omega)]
 obtain ⟨on,hon⟩:∃ on,on=min (D[i].day+1+la) 100000:=⟨_,rfl⟩
 rw [<- hon]
 have hw2:=Zc4 (Z4 s s.scenes[k]) hSm D[i].well on D (by omega)
 simp only [ZN] at hw2
 refine call hw2 ?_
 dsimp only [Zgn,Zd,go_sem,rA,rM,rS]
 have hw3:=Zdh (Z4 s s.scenes[k]) hSm D[i].well on
 simp only [ZN] at hw3
 refine call hw3 ?_
 dsimp only [Zgn,Zd,go_sem,rA,rM,rS]
 have hb1:=ZfQ (l:=Z4 s s.scenes[k]) (well:=D[i].well) (day:=on)
 have hb2:=Zfg (l:=Z4 s s.scenes[k]) (well:=D[i].well) (day:=on)
 have hb3:=Zpy (l:=Z4 s s.scenes[k]) (well:=D[i].well) (day:=on)
 have hsi:(Zw s p.legs).length=0\/(Zee (Zw s p.legs)).arrives.hi<=s.till:=by
  simp only [Wy,Bool.and_eq_true,Bool.or_eq_true,decide_eq_true_eq] at hsure;exact hsure.2
 have hd99:D[i].day < 100000:=by
  have t1:=ZhH (ZkV h.lp ht (by omega)).1 hsi his
  have t2:=hdin _ (List.getElem_mem his)
  omega
 have hleft:=ZgB (on:=on) (draws:=D) (i:=i) hokL hkl (by omega) hokD hilt hwk' (fun j hj hne=>by
  have hjs:j < (Zw s p.legs).length:=by omega
  rw [(hDr.at_ j hj hjs).1,<- hwk',g1]
  have hpn:=List.pairwise_iff_getElem.1 hnd
  intro e
  rcases Nat.lt_or_gt_of_ne hne with q | q
  . exact hpn j i (by simpa using hjs) (by simpa using his) q (by simpa using e)
  . exact hpn i j (by simpa using his) (by simpa using hjs) q (by simpa using e.symm)) ⟨q3,q5⟩ ⟨by omega,by omega⟩ (by rw [<- hwk'];exact hmor)
 rw [<- hwk'] at hleft
 obtain ⟨z1,z2,z3,z4,z5,z6⟩:=hleft
 rw [z1,z2]
 generalize (Z1 (Z4 s s.scenes[k]) D[i].well D on).1=lf at *
 generalize (Z1 (Z4 s s.scenes[k]) D[i].well [] on).1=fu at *
 repeat (refine gb ?_;dsimp only [go_sem,rA,rM,rS])
 rw [Zi (n:=fu.lo - D[i].water) (by omega) (by omega),Zi (n:=fu.hi - D[i].water) (by omega) (by omega)]
 refine Zv (by simp;omega) ?_
 dsimp only [go_sem,rA,rM,rS]
 rw [Zi (n:=(i:Int)+1) (by omega) (by omega)]
 refine ⟨i+1,hilt,by omega,?_⟩
 (refine Zl ?_ ?_ ?_ rfl rfl<;>dsimp only [Ze,Zm,Zg,Zj,Zd,Zo,ZL,ZK,ZN,id,go_sem,rA,rM,rS]<;>simp [Ze,Zm,Zg,Zj,Zd,Zo,ZL,ZK,ZN,Za,Zf,KFR,KFL,KF,Zc,mtO,nbr])
end Go.Proofs.YtiigiflofnjilaaGreat
