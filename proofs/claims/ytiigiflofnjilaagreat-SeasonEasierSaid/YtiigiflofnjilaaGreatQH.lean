/- Walks and plain laws that lead to the given statement, part 8 of 9. -/
import Derived.Test.YtiigiflofnjilaaGreatQG
import Derived.Test.YtiigiflofnjilaaGreatProg
set_option maxRecDepth 100000
set_option maxHeartbeats 16000000
set_option linter.all false
open Nat renaming reduceAdd->rA,reduceMul->rM,reduceSub->rS,beq_refl->nbr
namespace Go.Azalai
open Go.Sx
def U4 (l:Land) (p:Span) (to till:Int):List Int->Int->Int->List Nat->Prop
 | _,v,t,[]=>v=to/\t<=till
 | been,v,t,i :: r=>∃ x,l.legs[i]? = some x/\0<=Zl x v/\ZU true x p t<=100000/\Zl x v ∉ v :: been/\U4 l p to till (v :: been) (Zl x v) (ZU true x p t) r
theorem U4.le {l:Land} {p:Span} (h:OkLP l p) {to till:Int}:∀ {a:List Nat} {been:List Int} {v t:Int},U4 l p to till been v t a->t<=100001->t<=till
 | [],_,_,_,q,_=>q.2
 | i :: r,been,v,t,q,ht=>by
  obtain ⟨x,hx,ho,hr,hn,q⟩:=q
  have:=Zbj (k:=true) (h.leg hx) h.pace ht
  have:=U4.le h q (by omega)
  omega
theorem U4.nin {l:Land} {p:Span} {to till:Int}:∀ {a:List Nat} {been:List Int} {v t:Int},U4 l p to till been v t a->v ∉ been->to ∉ been
 | [],_,_,_,q,hv=>by rw [<- q.1];exact hv
 | i :: r,been,v,t,q,hv=>by
  obtain ⟨x,hx,ho,hr,hn,q⟩:=q
  have:=U4.nin q hn
  exact fun h=>this (List.mem_cons_of_mem _ h)
theorem ZjR {l:Land} {p:Span} (h:OkLP l p) {to till:Int} (htill:till<=100000):∀ {f:Nat} {been:List Int} {v t:Int} {a:List Nat},Zm4 l f been->v ∉ been->(0<=v/\v < l.wells.length)->t<=100001 ->
 (a ∈ VH l p to till f been v t↔U4 l p to till been v t a):=by
 intro f
 induction f with
 | zero =>
  intro been v t a hR hv hvi
  obtain ⟨g,q,_⟩:=hR.pos hv hvi
  omega
 | succ f ih =>
  intro been v t a hR hv hvi ht
  obtain ⟨g,hg,hR'⟩:=hR.pos hv hvi
  have hgf:g=f:=by omega
  subst hgf
  rw [XZ]
  by_cases h1:t > till
  . rw [if_pos h1]
    constructor
    . intro q;cases q
    . intro q;have:=q.le h ht;omega
  rw [if_neg h1]
  by_cases h2:v=to
  . rw [if_pos h2,List.mem_singleton]
    constructor
    . rintro rfl;exact ⟨h2,by omega⟩
    . intro q
      cases a with
      | nil=>rfl
      | cons i r =>
       obtain ⟨x,hx,ho,hr,hn,q⟩:=q
       have:=q.nin hn
       exact absurd (by simp [h2]) this
  rw [if_neg h2]
  simp only [YT,List.mem_flatMap,List.mem_range]
  constructor
  . rintro ⟨i,hi,q⟩
    simp only [Wr] at q
    cases hx:l.legs[i]? with
    | none=>rw [hx] at q;cases q
    | some x =>
     rw [hx] at q
     simp only at q
     by_cases hc:Zl x v < 0\/Zl x v ∈ v :: been
     . rw [if_pos hc] at q;cases q
     rw [if_neg hc] at q
     obtain ⟨r,hr,rfl⟩:=List.mem_map.1 q
     have ho:¬ Zl x v < 0:=fun z=>hc (.inl z)
     have hn:Zl x v ∉ v :: been:=fun z=>hc (.inr z)
     have ha:=Wc (k:=true) (h.leg hx) h.pace ht
     have hr':=(ih hR' hn (Yb h hx ho).1 (by omega)).1 hr
     refine ⟨x,hx,by omega,?_,hn,hr'⟩
     have:=hr'.le h (by omega)
     omega
  . intro q
    cases a with
    | nil=>exact absurd q.1 h2
    | cons i r =>
     obtain ⟨x,hx,ho,hr,hn,q⟩:=q
     refine ⟨i,(List.getElem?_eq_some_iff.1 hx).1,?_⟩
     rw [Zau hx (by omega) hn]
     exact List.mem_map.2 ⟨r,(ih hR' hn (Yb h hx (by omega)).1 (by omega)).2 q,rfl⟩
theorem U4.len {l:Land} {p:Span} (h:OkLP l p) {to till:Int}:∀ {a:List Nat} {f:Nat} {been:List Int} {v t:Int},U4 l p to till been v t a->Zm4 l f been->v ∉ been->(0<=v/\v < l.wells.length)->a.length+1<=f
 | [],f,been,v,t,q,hR,hv,hi=>by obtain ⟨g,hg,_⟩:=hR.pos hv hi;simp;omega
 | i :: r,f,been,v,t,q,hR,hv,hi=>by
  obtain ⟨g,hg,hR'⟩:=hR.pos hv hi
  obtain ⟨x,hx,ho,hr,hn,q⟩:=q
  have:=U4.len h q hR' hn (Yb h hx (by omega)).1
  simp;omega
theorem Zgt {l:Land} {i:Nat} {v:Int}:WY l i v=match l.legs[i]? with | some x=>Zl x v | none=>-1:=by
 cases h:l.legs[i]? with
 | none=>rw [List.getElem?_eq_none_iff] at h;exact Zfw (.inr (by omega))
 | some x =>
  obtain ⟨hi,hx⟩:=List.getElem?_eq_some_iff.1 h
  rw [Zbe hi,hx]
theorem Zao {l:Land} {p:Span} {to till:Int}:∀ {c:List Nat} {been:List Int} {v t:Int},
 U4 l p to till been v t c↔YE l v (v :: been) (Xn c)=some to/\∃ u,goW true l p v t c=some (to,u)/\u<=till
 | [],been,v,t=>by
  simp only [U4,Xn,List.map_nil,YE,Option.some.injEq,goW,Prod.mk.injEq]
  constructor
  . rintro ⟨h1,h2⟩;exact ⟨h1,t,⟨h1,rfl⟩,h2⟩
  . rintro ⟨h1,u,⟨_,rfl⟩,h2⟩;exact ⟨h1,h2⟩
 | i :: c,been,v,t=>by
  simp only [U4,Xn,List.map_cons,YE,goW]
  rw [Zgt]
  cases hx:l.legs[i]? with
  | none =>
   constructor
   . rintro ⟨x,hx',_⟩;cases hx'
   . rintro ⟨h1,_⟩;simp at h1
  | some x =>
   simp only
   constructor
   . rintro ⟨y,hy,ho,hr,hn,q⟩
     cases hy
     obtain ⟨q1,q2⟩:=(Zao (c:=c)).1 q
     rw [if_neg (by omega),if_neg hn,if_neg (by omega),if_neg (by omega)]
     exact ⟨q1,q2⟩
   . rintro ⟨h1,h2⟩
     split at h1
     . cases h1
     rename_i h3
     split at h1
     . cases h1
     rename_i h4
     rw [if_neg h3] at h2
     split at h2
     . obtain ⟨u,hu,_⟩:=h2;cases hu
     rename_i h5
     exact ⟨x,rfl,by omega,by omega,h4,(Zao (c:=c)).2 ⟨h1,h2⟩⟩
theorem Zef {l:Land} {p:Span} (hg:OkLP l p):∀ {legs:List Int} {v u:Int} {been:List Int},been.Nodup->(∀ b ∈ been,0<=b/\b < l.wells.length)->YE l v been legs=some u->legs.length+been.length<=l.wells.length
 | [],v,u,been,h1,h2,_=>by have:=Zd1 h1 h2;simpa using this
 | i :: r,v,u,been,h1,h2,h=>by
  simp only [YE] at h
  split at h
  . cases h
  rename_i he
  split at h
  . cases h
  rename_i hn
  obtain ⟨k,x,_,_,hx,_,e⟩:=Zcq he
  have hin:=(Yb hg hx (by rw [<- e];exact he)).1
  have:=Zef hg (List.nodup_cons.2 ⟨hn,h1⟩) (fun b hb=>(List.mem_cons.1 hb).elim (fun q=>by rw [q,e];exact hin) (h2 b)) h
  simp only [List.length_cons] at this ⊢;omega
open Go.Proofs.YtiigiflofnjilaaGreat
theorem ZgF:∀ {a b:List Nat},Xn a=Xn b->a=b
 | [],[],_=>rfl
 | x :: a,y :: b,h=>by
  simp only [Xn,List.map_cons,List.cons.injEq] at h
  rw [ZgF (a:=a) (b:=b) h.2,show x=y by omega]
 | [],_ :: _,h=>by simp [Xn] at h
 | _ :: _,[],h=>by simp [Xn] at h
theorem lenS {s:Season} (h:OkS s) {legs:List Int} {u:Int} (hg:YE s.land s.start [s.start] legs=some u):legs.length < s.land.wells.length/\legs.length<=24:=by
 have:=Zef h.lp (legs:=legs) (v:=s.start) (u:=u) (been:=[s.start]) (by simp) (fun b hb=>by simp only [List.mem_singleton] at hb;subst hb;exact h.start) hg
 have hw:=h.land
 simp only [ZA,inR,Bool.and_eq_true,decide_eq_true_eq] at hw
 simp only [List.length_cons,List.length_nil] at this
 omega
theorem ZgN {s:Season} (h:OkS s) {c:List Nat} (hc:c.length<=24):Vj s (Xn c)=true↔∃ v u,goW true s.land s.pace s.start s.day c=some (v,u)/\u<=s.till:=by
 have hn:=h.num
 have hst:=h.start
 have key:∀ {ss:List Stop} {at':Int},YZ s.land s.pace s.start s.day (Xn c)=(ss,at',0)->(Vj s (Xn c)=true↔∃ v u,goW true s.land s.pace s.start s.day c=some (v,u)/\u<=s.till):=fun {ss at'} hw=>by
  obtain ⟨_,ht⟩:=Zn1 hw
  have hss:ZO s (Xn c)=ss:=by unfold ZO;rw [hw]
  have hlen:=ht.len
  simp only [Xn,List.length_map] at hlen
  unfold Vj
  rw [hss,hw]
  simp only [decide_true,Bool.true_and,Bool.or_eq_true,decide_eq_true_eq]
  by_cases h0:ss.length=0
  . have:c=[]:=List.eq_nil_of_length_eq_zero (by omega)
    subst this
    exact ⟨fun _=>⟨s.start,s.day,rfl,by omega⟩,fun _=>.inl h0⟩
  . obtain ⟨c',h1,h2,h3,_⟩:=ht.at h.lp (Int.le_refl _) (by omega) (ss.length - 1) (Zh4 ss) (Zeh h0)
    have hcc:c'=c:=by
     have e:(Xn c).take (ss.length - 1+1)=Xn c:=List.take_of_length_le (by simp [Xn];omega)
     rw [e] at h2
     exact ZgF h2.symm
    subst hcc
    constructor
    . rintro (q | q)
      . exact absurd q h0
      . exact ⟨_,_,h3,q⟩
    . rintro ⟨v,u,e,q⟩
      rw [h3] at e
      simp only [Option.some.injEq,Prod.mk.injEq] at e
      exact .inr (by omega)
 constructor
 . intro q
   have q':=q
   simp only [Vj,Bool.and_eq_true,decide_eq_true_eq] at q'
   have:YZ s.land s.pace s.start s.day (Xn c)=((YZ s.land s.pace s.start s.day (Xn c)).1,(YZ s.land s.pace s.start s.day (Xn c)).2.1,0):=by
    rw [<- q'.1]
   exact (key this).1 q
 . rintro ⟨v,u,e,q⟩
   obtain ⟨ss,hw⟩:=Zxr h.lp (by omega) (by omega) hst.1 hst.2 hc e
   exact (key hw).2 ⟨v,u,e,q⟩
theorem Zgm {k:Bool} {l:Land} {p:Span} {w u to:Int}:∀ {c:List Nat} {v t:Int} {been:List Int},goW k l p v t c=some (w,u)->YE l v been (Xn c)=some to->w=to
 | [],v,t,been,h,h'=>by
  simp only [goW,Option.some.injEq,Prod.mk.injEq,Xn,List.map_nil,YE] at h h'
  omega
 | i :: c,v,t,been,h,h'=>by
  simp only [goW,Xn,List.map_cons,YE] at h h'
  rw [Zgt] at h'
  cases hx:l.legs[i]? with
  | none=>rw [hx] at h;cases h
  | some x =>
   rw [hx] at h h'
   simp only at h h'
   split at h
   . cases h
   rename_i h1
   split at h
   . cases h
   rw [if_neg h1] at h'
   split at h'
   . cases h'
   exact Zgm h h'
theorem ZoW {s:Season} (h:OkS s) {to:Int} {c:List Nat}:c ∈ Zag s.land s.pace s.start to s.day s.till↔YE s.land s.start [s.start] (Xn c)=some to/\Vj s (Xn c)=true:=by
 have hn:=h.num
 unfold Zag
 rw [ZjR h.lp (by omega) Zm4.start (by simp) h.start (by omega),Zao]
 constructor
 . rintro ⟨h1,u,h2,h3⟩
   have hl:=(lenS h h1).2
   exact ⟨h1,(ZgN h (by simpa [Xn] using hl)).2 ⟨_,_,h2,h3⟩⟩
 . rintro ⟨h1,h2⟩
   have hl:=(lenS h h1).2
   obtain ⟨v,u,h3,h4⟩:=(ZgN h (by simpa [Xn] using hl)).1 h2
   refine ⟨h1,u,?_,h4⟩
   rw [Zgm h3 h1] at h3;exact h3
theorem ZoN {l:Land} {well day:Int}:0<=(XP l well [] day).1.lo:=by
 unfold XP
 split
 . exact Int.le_refl _
 rename_i h1
 split
 . exact Int.le_refl _
 rename_i h2
 split
 . exact Int.le_refl _
 split
 . exact Int.le_refl _
 split
 . rename_i w hw
   simp only [Bool.not_eq_false,ZA,Bool.and_eq_true,List.all_eq_true,inR,decide_eq_true_eq] at h1 h2
   have hwell:=h1.1.2 w (List.mem_of_getElem? hw)
   simp only [Yy,Z3,inR,Bool.and_eq_true,decide_eq_true_eq] at hwell
   have:0<=(day - 1 - -1) * w.yld.lo:=Int.mul_nonneg (by omega) (by omega)
   simp only [Vw,Wo]
   omega
 . exact Int.le_refl _
theorem Ztf {s:Season} {x:Scene} (st:Stop):0<=Zar s x st:=ZoN
theorem ZrK {s:Season} {p:Plan} {to:Int} (hto:YE s.land s.start [s.start] p.legs=some to) (ha:0<=p.animals/\p.animals<=s.herd) (hs:0<=p.slabs/\p.slabs<=12):YM s p=true:=by
 simp only [YM,hto,Option.isSome_some,inR,Bool.true_and,Bool.and_eq_true,decide_eq_true_eq];omega
theorem Zxc {s:Season} (h:OkS s) {a:List Int} {k:Int}:0<=Zfg s a k/\Zfg s a k<=s.herd:=ZmG (by have:=h.num;omega) (fun _ _=>Ztf)
theorem Zmc {l:Land} {D:Int} {draws:List Draw} {k:Nat} (hok:ZA l=true) (hk:k < l.wells.length) (hD:0<=D/\D<=100000) (hl:draws.length<=200) (hd:Wy l.wells.length 0 draws=true) :
 XP l k draws D=Vw l.wells[k] k D l.wells[k].has (-1) 0 draws:=by
 unfold XP
 rw [if_neg (by simp [hok]),if_neg (by simp [inR];omega),if_neg (by omega),if_neg (by simp [hd]),Int.toNat_natCast,List.getElem?_eq_getElem hk]
structure Dr (s:Season) (p:Plan) (x:Scene) (D:List Draw):Prop where
 len:D.length=p.legs.length - 1
 at_:∀ (i:Nat) (hi:i < D.length) (hs:i < (ZO s p.legs).length),D[i].well=(ZO s p.legs)[i].well/\D[i].day=(ZO s p.legs)[i].arrives.lo/\0<=D[i].water/\D[i].water<=p.animals * s.breed.full /\
  (p.animals=0->D[i].water=0)/\D[i].water<=Zar s x (ZO s p.legs)[i]
end Go.Azalai
namespace Go.Proofs.YtiigiflofnjilaaGreat
open Go Go.Sx
def c64:SC:=(sr1 [
 o1 2 (.box (.t 0) 0 37),
 o1 4 (.alloc [.int .i64 0,.int .i64 0,.int .i64 0,.int .i64 0] 142)]
 (sr1 [
 m1 5 1,
 o1 6 (ao 2 1),
 o1 7 (lf 6 1),
 o1 8 (.un .neg (.t 7)),
 o1 9 (ao 2 2),
 o1 10 (lf 9 1),
 o1 11 (.un .neg (.t 10)),
 o1 12 (ao 2 0),
 o1 13 (lf 12 1),
 o1 14 (.len (.t 13)),
 o1 15 (.un .neg (.t 14)),
 o1 16 (.build [.int .i64 0,.int .i64 0,.int .i64 0,.int .i64 0] [(0,1,.t 5),(1,1,.t 8),(2,1,.t 11),(3,1,.t 15)]),
 ⟨none,.st (.t 4) (.t 16) 4,none,[]⟩]
 .ret))
def r64:List RV:=[.cell 4 4 true]
theorem t64:Qt1 Tryz.prog 64 c64 r64 17:=Z8 Tryz.func64 rfl (by kernel_rfl) (by kernel_rfl) (by kernel_rfl) (by kernel_rfl)
def c67:SC:=(sr1 [
 o1 4 (.box (.t 0) 0 37),
 o1 5 (.box (.t 1) 0 142),
 o1 6 (.box (.t 2) 0 37),
 o1 7 (.box (.t 3) 0 142),
 o1 8 (.mv (.c (.bool false)))]
 (.seq (sr1 [
 o1 10 (lt 5 4),
 o1 11 (lt 7 4),
 o1 12 (.eqs false true [1,1,1,1] (.t 10) (.t 11))]
 (.cond (.t 12)
 (sr1 [
  o1 13 (ao 4 0),
  o1 14 (lf 13 1),
  o1 15 (ao 6 0),
  o1 16 (lf 15 1),
  o1 17 (.call 114 [.t 14,.t 16]),
  o1 18 (.bin .lss (.t 17) (cn 0)),
  m1 8 18]
  .ret)
 .skip))
 (.seq (sr1 [
 o1 19 (.mv (cn 0))]
 (.block 0 (.loop (sr1 [
  o1 20 (.bin .lss (.t 19) (cn 4))]
  (.seq (.cond (.t 20)
  .skip
  (.exit 0))
  (.seq (.block 1 (sr1 [
   m1 21 19,
   m1 9 21]
   (.seq (.regd [0,1,2,3,4,5,6] [
   .op (m1 22 9),
   .op (p1 23 (.ixa (.t 5) (.t 22) 4 1) [0]),
   .op (p1 24 (lf 23 1) [1]),
   .op (m1 25 9),
   .op (p1 26 (.ixa (.t 7) (.t 25) 4 1) [3]),
   .op (p1 27 (lf 26 1) [4]),
   .op (p1 28 (.bin .neq (.t 24) (.t 27)) [2,5])] 0 0 [
])
 (.cond (.t 28)
 (.seq (.regd [0,1,2,3,4,5,6,7] [
  .op (m1 29 9),
  .op (p1 30 (.ixa (.t 5) (.t 29) 4 1) [0]),
  .op (p1 31 (lf 30 1) [1]),
  .op (m1 32 9),
  .op (p1 33 (.ixa (.t 7) (.t 32) 4 1) [3]),
  .op (p1 34 (lf 33 1) [4]),
  .op (p1 35 (.bin .gtr (.t 31) (.t 34)) [2,5]),
  .op (p1 8 (.mv (.t 35)) [0,1,2,3,4,5,6])] 0 0 [
])
 .ret)
 .skip))))
 (.reg [
 o1 36 (.bin .add (.t 19) (cn 1)),
 m1 19 36])))))))
 (sr1 [
 o1 8 (.mv (.c (.bool false)))]
 .ret))))
def r67:List RV:=[.tmp 8]
theorem t67:Qt1 Tryz.prog 67 c67 r67 37:=Z8 Tryz.func67 rfl (by kernel_rfl) (by kernel_rfl) (by kernel_rfl) (by kernel_rfl)
def c27:SC:=(sr1 [
 o1 1 (.box (.t 0) 0 34),
 o1 2 (.mv (cn 0)),
 o1 3 (.mv (cn 0))]
 (.seq (sr1 [
 o1 14 (lt 1 37),
 o1 15 (.call 16 [.t 14]),
 m1 4 15]
 (sr1 [
 m1 16 4,
 o1 17 (.bin .neq (.t 16) (cn 0))]
 (.cond (.t 17)
 (sr1 [
  m1 18 4,
  o1 2 (.mv (cn 0)),
  m1 3 18]
  .ret)
 .skip)))
 (sr1 [
 o1 20 (ao 1 0),
 o1 21 (lt 20 2),
 o1 22 (ao 1 33),
 o1 23 (lf 22 1),
 o1 24 (ao 1 34),
 o1 25 (lf 24 1),
 o1 26 (ao 1 2),
 o1 27 (lt 26 2),
 o1 28 (.call 52 [.t 21,.t 23,.t 25,.t 27]),
 m1 19 28,
 o1 29 (.ext (.t 19) 0),
 o1 30 (.ext (.t 19) 1),
 m1 5 29,
 m1 6 30]
 (sr1 [
 o1 31 (ao 1 4),
 o1 32 (ao 31 15),
 o1 33 (ao 32 0),
 o1 34 (lf 33 1),
 o1 35 (ao 1 30),
 o1 36 (lf 35 1),
 o1 37 (.div .quo (.t 34) (.t 36)),
 o1 38 (.mm false [.c (.int .i64 12),.t 37]),
 m1 7 38]
 (sr1 [
 o1 8 (.mv (.c (.slice none 0 0)))]
 (.seq (sr1 [
 o1 39 (ao 1 36),
 o1 40 (lf 39 1),
 o1 41 (.len (.t 40)),
 o1 42 (.mv (cn 0))]
 (.block 0 (.loop (sr1 [
  o1 43 (.bin .lss (.t 42) (.t 41))]
  (.seq (.cond (.t 43)
  .skip
  (.exit 0))
  (.seq (.block 1 (sr1 [
   o1 44 (.ixs (.t 40) (.t 42) 6),
   o1 45 (lt 44 6),
   o1 10 (.alloc zv5 72),
   ⟨none,.st (.t 10) (.t 45) 6,none,[]⟩]
   (sr1 [
   o1 46 (ao 1 32),
   o1 47 (lf 46 1),
   m1 11 47]
   (.seq (sr1 [
   m1 48 5,
   o1 49 (.len (.t 48)),
   o1 50 (.mv (cn 0))]
   (.block 2 (.loop (sr1 [
    o1 51 (.bin .lss (.t 50) (.t 49))]
    (.seq (.cond (.t 51)
    .skip
    (.exit 2))
    (.seq (.block 3 (sr1 [
     m1 52 50,
     o1 53 (.ixs (.t 48) (.t 50) 2),
     o1 54 (lt 53 2),
     o1 13 (.alloc [.int .i64 0,.int .i64 0] 27),
     m1 12 52,
     ⟨none,.st (.t 13) (.t 54) 2,none,[]⟩]
     (sr1 [
     o1 55 (ao 13 1),
     o1 56 (lf 55 1),
     o1 57 (ao 1 35),
     o1 58 (lf 57 1),
     o1 59 (.bin .leq (.t 56) (.t 58))]
     (.cond (.t 59)
     (.regd [0,1,2,3,4,5,6,7,8,9,10,11,12] [
      .op (m1 60 11),
      .op (m1 61 7),
      .op (o1 62 (ao 10 5)),
      .op (p1 63 (lf 62 1) [2]),
      .op (m1 64 12),
      .op (p1 65 (.ixs (.t 63) (.t 64) 1) [3,4]),
      .op (p1 66 (lf 65 1) [5]),
      .op (o1 67 (ao 1 31)),
      .op (p1 68 (lf 67 1) [7]),
      .op (p1 69 (.bin .sub (.t 66) (.t 68)) [6,8]),
      .op (p1 70 (.bin .mul (.t 61) (.t 69)) [1,9]),
      .op (p1 71 (.mm true [.t 60,.t 70]) [0,10])] 0 0 [
      ⟨some 11,.mv (.t 71),none,[0,1,2,3,4,5,6,7,8,9,10,11]⟩])
     .skip))))
    (.reg [
    o1 72 (.bin .add (.t 50) (cn 1)),
    m1 50 72])))))))
   (.gh (.reg [
   m1 73 8,
   o1 74 (ao 1 28),
   o1 75 (lf 74 1),
   m1 76 11,
   o1 77 (.bin .mul (.t 75) (.t 76)),
   o1 78 (.bsl 1 3 [.t 77]),
   o1 79 (.appm 1 8 3 (.t 73) (.t 78)),
   m1 8 79]))))))
  (.gh (.reg [
  o1 80 (.bin .add (.t 42) (cn 1)),
  m1 42 80]))))))))
 (.gh (sr1 [
 m1 81 8,
 o1 82 (.call 71 [.t 81]),
 m1 2 82,
 o1 3 (.mv (cn 0))]
 .ret))))))))
def r27:List RV:=[.tmp 2,.tmp 3]
theorem t27:Qt1 Tryz.prog 27 c27 r27 83:=Z8 Tryz.func27 rfl (by kernel_rfl) (by kernel_rfl) (by kernel_rfl) (by kernel_rfl)
def c25:SC:=(sr1 [
 o1 1 (.box (.t 0) 0 34),
 o1 2 (.alloc [.slice none 0 0,.int .i64 0,.int .i64 0] 37),
 o1 3 (.mv (cn 0)),
 o1 4 (.mv (cn 0))]
 (.seq (sr1 [
 o1 17 (lt 1 37),
 o1 18 (.call 16 [.t 17]),
 m1 5 18]
 (sr1 [
 m1 19 5,
 o1 20 (.bin .neq (.t 19) (cn 0))]
 (.cond (.t 20)
 (sr1 [
  o1 21 (.build [.slice none 0 0,.int .i64 0,.int .i64 0] []),
  m1 22 5,
  ⟨none,.st (.t 2) (.t 21) 3,none,[]⟩,
  o1 3 (.mv (cn 0)),
  m1 4 22]
  .ret)
 .skip)))
 (sr1 [
 o1 23 (ao 1 28),
 o1 24 (lf 23 1),
 o1 25 (ao 1 32),
 o1 26 (lf 25 1),
 o1 27 (.bin .mul (.t 24) (.t 26)),
 m1 3 27]
 (sr1 [
 o1 28 (lt 2 3),
 m1 29 3,
 o1 30 (.call 64 [.t 28,.t 29]),
 o1 6 (.alloc [.int .i64 0,.int .i64 0,.int .i64 0,.int .i64 0] 142),
 ⟨none,.st (.t 6) (.t 30) 4,none,[]⟩]
 (.seq (sr1 [
 o1 31 (ao 1 0),
 o1 32 (ao 31 0),
 o1 33 (lf 32 1),
 o1 34 (.len (.t 33)),
 o1 35 (.mv (cn 0))]
 (.block 0 (.loop (sr1 [
  o1 36 (.bin .lss (.t 35) (.t 34))]
  (.seq (.cond (.t 36)
  .skip
  (.exit 0))
  (.seq (.block 1 (sr1 [
   m1 37 35,
   m1 7 37]
   (sr1 [
   o1 39 (ao 1 0),
   o1 40 (lt 39 2),
   o1 41 (ao 1 33),
   o1 42 (lf 41 1),
   m1 43 7,
   o1 44 (ao 1 34),
   o1 45 (lf 44 1),
   o1 46 (ao 1 35),
   o1 47 (lf 46 1),
   o1 48 (ao 1 2),
   o1 49 (lt 48 2),
   o1 50 (.call 65 [.t 40,.t 42,.t 43,.t 45,.t 47,.t 49]),
   m1 38 50,
   o1 51 (.ext (.t 38) 0),
   o1 52 (.ext (.t 38) 1),
   m1 8 51,
   m1 9 52]
   (.seq (sr1 [
   m1 53 9,
   o1 54 (.bin .neq (.t 53) (cn 0))]
   (.cond (.t 54)
   (sr1 [
    o1 55 (.build [.slice none 0 0,.int .i64 0,.int .i64 0] []),
    ⟨none,.st (.t 2) (.t 55) 3,none,[]⟩,
    o1 3 (.mv (cn 0)),
    o1 4 (.mv (cn 9))]
    .ret)
   .skip))
   (sr1 [
   m1 56 8,
   o1 57 (.len (.t 56)),
   o1 58 (.mv (cn 0))]
   (.block 2 (.loop (sr1 [
    o1 59 (.bin .lss (.t 58) (.t 57))]
    (.seq (.cond (.t 59)
    .skip
    (.exit 2))
    (.seq (.block 3 (sr1 [
     o1 60 (.ixs (.t 56) (.t 58) 1),
     o1 61 (lf 60 1),
     m1 11 61]
     (.scope (.seq (.label 0)
     (sr1 [
     o1 62 (.mv (cn 0))]
     (.block 4 (.loop (sr1 [
      o1 63 (.bin .lss (.t 62) (cn 13))]
      (.seq (.cond (.t 63)
      .skip
      (.exit 4))
      (.seq (.block 5 (sr1 [
       m1 64 62,
       m1 12 64]
       (sr1 [
       o1 65 (lt 1 37),
       m1 66 11,
       m1 67 12,
       o1 68 (.call 66 [.t 65,.t 66,.t 67]),
       m1 13 68]
       (.block 6 (.loop (.seq (.block 7 (.seq (sr1 [
        m1 71 13,
        o1 72 (.bin .eql (.t 71) (cn 0))]
        (.cond (.t 72)
        (.exit 5)
        .skip))
        (sr1 [
        m1 73 11,
        m1 74 13,
        m1 75 12,
        o1 76 (.build [.slice none 0 0,.int .i64 0,.int .i64 0] [(0,1,.t 73),(1,1,.t 74),(2,1,.t 75)]),
        o1 14 (.alloc [.slice none 0 0,.int .i64 0,.int .i64 0] 37),
        ⟨none,.st (.t 14) (.t 76) 3,none,[]⟩]
        (sr1 [
        o1 77 (lt 1 37),
        o1 78 (lt 14 3),
        m1 79 7,
        o1 80 (.call 59 [.t 77,.t 78,.t 79]),
        m1 15 80]
        (sr1 [
        o1 81 (lt 14 3),
        m1 82 15,
        o1 83 (.call 64 [.t 81,.t 82]),
        o1 16 (.alloc [.int .i64 0,.int .i64 0,.int .i64 0,.int .i64 0] 142),
        ⟨none,.st (.t 16) (.t 83) 4,none,[]⟩]
        (sr1 [
        o1 84 (lt 14 3),
        o1 85 (lt 16 4),
        o1 86 (lt 2 3),
        o1 87 (lt 6 4),
        o1 88 (.call 67 [.t 84,.t 85,.t 86,.t 87])]
        (.cond (.t 88)
        (.regd [0,1,2,3,4,5] [
         .op (o1 89 (lt 14 3)),
         .hide (.t 2),
         .op (m1 90 15),
         .op (o1 91 (lt 16 4))] 0 3 [
         ⟨none,.st (.t 2) (.t 89) 3,none,[0]⟩,
         ⟨some 3,.mv (.t 90),none,[0,1,3]⟩,
         ⟨none,.st (.t 6) (.t 91) 4,none,[0,1,2,3,4]⟩])
        .skip)))))))
        (.reg [
        m1 69 13,
        o1 70 (.bin .sub (.t 69) (cn 1)),
        m1 13 70])))))))
      (.reg [
      o1 92 (.bin .add (.t 62) (cn 1)),
      m1 62 92])))))))))))
    (.reg [
    o1 93 (.bin .add (.t 58) (cn 1)),
    m1 58 93])))))))))))
  (.reg [
  o1 94 (.bin .add (.t 35) (cn 1)),
  m1 35 94])))))))
 (sr1 [
 o1 95 (lt 2 3),
 m1 96 3,
 ⟨none,.st (.t 2) (.t 95) 3,none,[]⟩,
 m1 3 96,
 o1 4 (.mv (cn 0))]
 .ret))))))
def r25:List RV:=[.cell 2 3 true,.tmp 3,.tmp 4]
theorem n25:Tryz.f25.ntmps=97:=by kernel_rfl
theorem b25:YI Tryz.prog 25=true:=by kernel_rfl
theorem ZAX:XK Tryz.prog c25 ((Tryz.f25.body).getD .skip)=true:=by kernel_rfl
theorem ZzX:Wg Tryz.prog r25 Tryz.f25.results.toList=true:=by kernel_rfl
def c73:SC:=(sr1 [
 o1 0 (.alloc zv0 34)]
 (sr1 [
 o1 1 (.mv (.f 119))]
 (sr1 [
 o1 2 (.build zv4 []),
 o1 3 (.build zv4 [(5,1,.c (.int .i64 1000000))]),
 o1 4 (.build zv4 []),
 o1 5 (.bsl 9 88 [.t 2,.t 3,.t 4]),
 m1 6 1,
 o1 7 (.calv (.t 6) [.c (.int .i64 0),.c (.int .i64 1),.c (.int .i64 40000)]),
 m1 8 1,
 o1 9 (.calv (.t 8) [.c (.int .i64 1),.c (.int .i64 2),.c (.int .i64 40000)]),
 m1 10 1,
 o1 11 (.calv (.t 10) [.c (.int .i64 0),.c (.int .i64 2),.c (.int .i64 100000)]),
 o1 12 (.bsl 5 83 [.t 7,.t 9,.t 11]),
 o1 13 (.build [.slice none 0 0,.slice none 0 0] [(0,1,.t 5),(1,1,.t 12)]),
 o1 14 (.call 43 [.c (.int .i64 20000),.c (.int .i64 20000)]),
 o1 15 (.call 43 [.c (.int .i64 5000),.c (.int .i64 5000)]),
 o1 16 (.call 43 [.c (.int .i64 1000),.c (.int .i64 1000)]),
 o1 17 (.call 43 [.c (.int .i64 100),.c (.int .i64 100)]),
 o1 18 (.call 43 [.c (.int .i64 200000),.c (.int .i64 200000)]),
 o1 19 (.build [.int .i64 0,.int .i64 0,.int .i64 0,.int .i64 0,.int .i64 0,.int .i64 0,.int .i64 0,.int .i64 0,.int .i64 0,.int .i64 0,.int .i64 0,.int .i64 0,.int .i64 0,.int .i64 0,.int .i64 0,.int .i64 0,.int .i64 0] [(0,1,.c (.int .i64 100000)),(1,1,.c (.int .i64 50000)),(2,2,.t 15),(6,2,.t 16),(8,2,.t 17),(15,2,.t 18)]),
 o1 20 (.call 43 [.c (.int .i64 100000),.c (.int .i64 100000)]),
 o1 21 (.call 43 [.c (.int .i64 50000),.c (.int .i64 50000)]),
 o1 22 (.build zv3 [(0,2,.t 20),(2,2,.t 21)]),
 o1 23 (.build [.int .i64 0,.int .i64 0] []),
 o1 24 (.call 43 [.c (.int .i64 50000),.c (.int .i64 50000)]),
 o1 25 (.build [.int .i64 0,.int .i64 0] []),
 o1 26 (.bsl 2 27 [.t 23,.t 24,.t 25]),
 o1 27 (.bsl 1 3 [.c (.int .i64 10),.c (.int .i64 12),.c (.int .i64 40)]),
 o1 28 (.build zv5 [(4,1,.t 26),(5,1,.t 27)]),
 o1 29 (.bsl 6 72 [.t 28]),
 o1 30 (.build zv0 [(0,2,.t 13),(2,2,.t 14),(4,17,.t 19),(21,7,.t 22),(28,1,.c (.int .i64 10)),(29,1,.c (.int .i64 10)),(30,1,.c (.int .i64 50000)),(31,1,.c (.int .i64 10)),(32,1,.c (.int .i64 60)),(35,1,.c (.int .i64 20)),(36,1,.t 29)]),
 ⟨none,.st (.t 0) (.t 30) 37,none,[]⟩]
 .ret)))
def r73:List RV:=[.cell 0 37 true]
theorem n73:Tryz.f73.ntmps=31:=by kernel_rfl
theorem b73:YI Tryz.prog 73=true:=by kernel_rfl
theorem Zzq:XK Tryz.prog c73 ((Tryz.f73.body).getD .skip)=true:=by kernel_rfl
theorem ZA2:Wg Tryz.prog r73 Tryz.f73.results.toList=true:=by kernel_rfl
def c119:SC:=(sr1 [
 o1 6 (.alloc zv6 83)]
 (sr1 [
 m1 7 0,
 m1 8 1,
 m1 9 2,
 m1 10 2,
 o1 11 (.call 43 [.t 9,.t 10]),
 o1 12 (.call 43 [.c (.int .i64 99),.c (.int .i64 99)]),
 o1 13 (.build [.int .i64 0,.int .i64 0,.int .i64 0,.int .i64 0] [(2,2,.t 12)]),
 o1 14 (.bsl 4 85 [.t 13]),
 o1 15 (.build zv6 [(0,1,.t 7),(1,1,.t 8),(2,2,.t 11),(4,1,.t 14)]),
 ⟨none,.st (.t 6) (.t 15) 5,none,[]⟩]
 .ret))
def r119:List RV:=[.cell 6 5 true]
theorem n119:Tryz.f119.ntmps=16:=by kernel_rfl
theorem b119:YI Tryz.prog 119=true:=by kernel_rfl
theorem ZxW:XK Tryz.prog c119 ((Tryz.f119.body).getD .skip)=true:=by kernel_rfl
theorem ZxL:Wg Tryz.prog r119 Tryz.f119.results.toList=true:=by kernel_rfl
def c74:SC:=(sr1 [
 o1 6 (.alloc [.slice none 0 0,.int .i64 0,.int .i64 0] 37)]
 (sr1 [
 m1 7 2,
 m1 8 0,
 m1 9 1,
 o1 10 (.build [.slice none 0 0,.int .i64 0,.int .i64 0] [(0,1,.t 7),(1,1,.t 8),(2,1,.t 9)]),
 ⟨none,.st (.t 6) (.t 10) 3,none,[]⟩]
 .ret))
def r74:List RV:=[.cell 6 3 true]
theorem n74:Tryz.f74.ntmps=11:=by kernel_rfl
theorem b74:YI Tryz.prog 74=true:=by kernel_rfl
theorem ZyO:XK Tryz.prog c74 ((Tryz.f74.body).getD .skip)=true:=by kernel_rfl
theorem ZA5:Wg Tryz.prog r74 Tryz.f74.results.toList=true:=by kernel_rfl
def c43:SC:=(sr1 [
 o1 4 (.alloc [.int .i64 0,.int .i64 0] 27)]
 (sr1 [
 m1 5 0,
 m1 6 1,
 o1 7 (.build [.int .i64 0,.int .i64 0] [(0,1,.t 5),(1,1,.t 6)]),
 ⟨none,.st (.t 4) (.t 7) 2,none,[]⟩]
 .ret))
def r43:List RV:=[.cell 4 2 true]
theorem t43:Qt1 Tryz.prog 43 c43 r43 8:=Z8 Tryz.func43 rfl (by kernel_rfl) (by kernel_rfl) (by kernel_rfl) (by kernel_rfl)
def c30:SC:=(sr1 [
 o1 0 (.mv (.c (.bool false)))]
 (sr1 [
 o1 23 (.call 73 []),
 o1 24 (.bsl 1 3 [.c (.int .i64 0),.c (.int .i64 1)]),
 o1 25 (.call 74 [.c (.int .i64 2),.c (.int .i64 2),.t 24]),
 o1 26 (.call 14 [.t 23,.t 25]),
 m1 22 26,
 o1 27 (.ext (.t 22) 0),
 o1 28 (.ext (.t 22) 1),
 o1 29 (.ext (.t 22) 2),
 o1 30 (.ext (.t 22) 3),
 m1 1 27,
 m1 2 28,
 m1 3 29,
 m1 4 30]
 (sr1 [
 o1 32 (.call 73 []),
 o1 33 (.bsl 1 3 [.c (.int .i64 0),.c (.int .i64 1)]),
 o1 34 (.call 74 [.c (.int .i64 3),.c (.int .i64 2),.t 33]),
 o1 35 (.call 14 [.t 32,.t 34]),
 m1 31 35,
 o1 36 (.ext (.t 31) 0),
 o1 37 (.ext (.t 31) 1),
 o1 38 (.ext (.t 31) 2),
 o1 39 (.ext (.t 31) 3),
 m1 5 36,
 m1 6 37,
 m1 7 38,
 m1 8 39]
 (sr1 [
 o1 41 (.call 73 []),
 o1 42 (.bsl 1 3 [.c (.int .i64 2)]),
 o1 43 (.call 74 [.c (.int .i64 10),.c (.int .i64 1),.t 42]),
 o1 44 (.call 14 [.t 41,.t 43]),
 m1 40 44,
 o1 45 (.ext (.t 40) 0),
 o1 46 (.ext (.t 40) 1),
 o1 47 (.ext (.t 40) 2),
 o1 48 (.ext (.t 40) 3),
 m1 9 45,
 m1 10 46,
 m1 11 47,
 m1 12 48]
 (sr1 [
 o1 50 (.call 73 []),
 o1 51 (.bsl 1 3 [.c (.int .i64 0),.c (.int .i64 1)]),
 o1 52 (.call 74 [.c (.int .i64 2),.c (.int .i64 2),.t 51]),
 o1 53 (.call 20 [.t 50,.t 52]),
 m1 49 53,
 o1 54 (.ext (.t 49) 0),
 o1 55 (.ext (.t 49) 1),
 m1 13 54,
 m1 14 55]
 (sr1 [
 o1 57 (.call 73 []),
 o1 58 (.bsl 1 3 [.c (.int .i64 0),.c (.int .i64 1)]),
 o1 59 (.call 74 [.c (.int .i64 2),.c (.int .i64 2),.t 58]),
 o1 60 (.call 22 [.t 57,.t 59,.c (.int .i64 0)]),
 m1 56 60,
 o1 61 (.ext (.t 56) 0),
 o1 62 (.ext (.t 56) 1),
 m1 15 61,
 m1 16 62]
 (sr1 [
 o1 64 (.call 73 []),
 o1 65 (.call 25 [.t 64]),
 m1 63 65,
 o1 66 (.ext (.t 63) 0),
 o1 67 (.ext (.t 63) 1),
 o1 68 (.ext (.t 63) 2),
 o1 17 (.alloc [.slice none 0 0,.int .i64 0,.int .i64 0] 37),
 ⟨none,.st (.t 17) (.t 66) 3,none,[]⟩,
 m1 18 67,
 m1 19 68]
 (sr1 [
 o1 70 (.call 73 []),
 o1 71 (.call 27 [.t 70]),
 m1 69 71,
 o1 72 (.ext (.t 69) 0),
 o1 73 (.ext (.t 69) 1),
 m1 20 72,
 m1 21 73]
 (.seq (.regd [0,1,2,3,4,5,6,7,8,9,10,11,12,13,14,15,16,17,18,19,20,21,22,23,24,25,26,27,28,29,30,31,32,33,34,35,36,37,38,39,40,41,42,43,44,45,46,47,48,49,50,51,52,53,54,55,56,57,58,59,60,61,62] [
 .op (m1 74 4),
 .op (p1 75 (.bin .eql (.t 74) (cn 0)) [0]),
 .op (p1 76 (.mv (.t 75)) [1]),
 .op (q1 77 76 true (.mv (.t 1)) [2]),
 .op (q1 78 76 true (.bin .eql (.t 77) (.c (.int .u8 0))) [2,3]),
 .op (p1 79 (.pick (.t 76) (.t 78) (.c (.bool false))) [2,4]),
 .op (p1 80 (.mv (.t 79)) [2,5]),
 .op (q1 81 80 true (.mv (.t 8)) [6]),
 .op (q1 82 80 true (.bin .eql (.t 81) (cn 0)) [6,7]),
 .op (p1 83 (.pick (.t 80) (.t 82) (.c (.bool false))) [6,8]),
 .op (p1 84 (.mv (.t 83)) [6,9]),
 .op (q1 85 84 true (.mv (.t 5)) [10]),
 .op (q1 86 84 true (.bin .eql (.t 85) (.c (.int .u8 4))) [10,11]),
 .op (p1 87 (.pick (.t 84) (.t 86) (.c (.bool false))) [10,12]),
 .op (p1 88 (.mv (.t 87)) [10,13]),
 .op (q1 89 88 true (.mv (.t 12)) [14]),
 .op (q1 90 88 true (.bin .eql (.t 89) (cn 0)) [14,15]),
 .op (p1 91 (.pick (.t 88) (.t 90) (.c (.bool false))) [14,16]),
 .op (p1 92 (.mv (.t 91)) [14,17]),
 .op (q1 93 92 true (.mv (.t 9)) [18]),
 .op (q1 94 92 true (.bin .eql (.t 93) (.c (.int .u8 0))) [18,19]),
 .op (p1 95 (.pick (.t 92) (.t 94) (.c (.bool false))) [18,20]),
 .op (p1 96 (.mv (.t 95)) [18,21]),
 .op (q1 97 96 true (.mv (.t 14)) [22]),
 .op (q1 98 96 true (.bin .eql (.t 97) (cn 0)) [22,23]),
 .op (p1 99 (.pick (.t 96) (.t 98) (.c (.bool false))) [22,24]),
 .op (p1 100 (.mv (.t 99)) [22,25]),
 .op (q1 101 100 true (.mv (.t 13)) [26]),
 .op (q1 102 100 true (.bin .eql (.t 101) (cn 600)) [26,27]),
 .op (p1 103 (.pick (.t 100) (.t 102) (.c (.bool false))) [26,28]),
 .op (p1 104 (.mv (.t 103)) [26,29]),
 .op (q1 105 104 true (.mv (.t 16)) [30]),
 .op (q1 106 104 true (.bin .eql (.t 105) (cn 0)) [30,31]),
 .op (p1 107 (.pick (.t 104) (.t 106) (.c (.bool false))) [30,32]),
 .op (p1 108 (.mv (.t 107)) [30,33]),
 .op (q1 109 108 true (.mv (.t 15)) [34]),
 .op (q1 110 108 true (.build [.int .i64 0,.int .i64 0,.int .i64 0] [(0,1,.c (.int .i64 1)),(1,1,.c (.int .i64 2)),(2,1,.c (.int .i64 100000))]) [34]),
 .op (q1 111 108 true (.bsl 3 111 [.t 110]) [34,36]),
 .op (q1 112 108 true (.call 24 [.t 109,.t 111]) [34,35,37]),
 .op (p1 113 (.pick (.t 108) (.t 112) (.c (.bool false))) [34,38]),
 .op (p1 114 (.mv (.t 113)) [38,39]),
 .op (q1 115 114 true (.mv (.t 19)) [40]),
 .op (q1 116 114 true (.bin .eql (.t 115) (cn 0)) [40,41]),
 .op (p1 117 (.pick (.t 114) (.t 116) (.c (.bool false))) [40,42]),
 .op (p1 118 (.mv (.t 117)) [40,43]),
 .op (q1 119 118 true (.mv (.t 18)) [44]),
 .op (q1 120 118 true (.bin .eql (.t 119) (cn 660)) [44,45]),
 .op (p1 121 (.pick (.t 118) (.t 120) (.c (.bool false))) [44,46]),
 .op (p1 122 (.mv (.t 121)) [44,47]),
 .op (q1 123 122 true (lt 17 3) [48]),
 .op (q1 124 122 true (.bsl 1 3 [.c (.int .i64 0),.c (.int .i64 1)]) [48]),
 .op (q1 125 122 true (.call 74 [.c (.int .i64 1),.c (.int .i64 4),.t 124]) [48,50]),
 .op (q1 126 122 true (.call 19 [.t 123,.t 125]) [48,49,51]),
 .op (p1 127 (.pick (.t 122) (.t 126) (.c (.bool false))) [48,52]),
 .op (p1 128 (.mv (.t 127)) [52,53]),
 .op (q1 129 128 true (.mv (.t 21)) [54]),
 .op (q1 130 128 true (.bin .eql (.t 129) (cn 0)) [54,55]),
 .op (p1 131 (.pick (.t 128) (.t 130) (.c (.bool false))) [54,56]),
 .op (p1 132 (.mv (.t 131)) [54,57]),
 .op (q1 133 132 true (.mv (.t 20)) [58]),
 .op (q1 134 132 true (.bin .eql (.t 133) (cn 1200)) [58,59]),
 .op (p1 135 (.pick (.t 132) (.t 134) (.c (.bool false))) [58,60]),
 .op (p1 0 (.mv (.t 135)) [0,1,2,3,4,5,6,7,8,9,10,11,12,13,14,15,16,17,18,19,20,21,22,23,24,25,26,27,28,29,30,31,32,33,34,35,36,37,38,39,40,41,42,43,44,45,46,47,48,49,50,51,52,53,54,55,56,57,58,59,60,61])] 0 0 [
])
 .ret)))))))))
def r30:List RV:=[.tmp 0]
theorem t30:Qt1 Tryz.prog 30 c30 r30 136:=Z8 Tryz.func30 rfl (by kernel_rfl) (by kernel_rfl) (by kernel_rfl) (by kernel_rfl)
def c31:SC:=(sr1 [
 o1 2 (.box (.t 0) 0 34),
 o1 3 (.box (.t 1) 0 37),
 o1 4 (.mv (.c (.bool false)))]
 (sr1 [
 o1 5 (lt 2 37),
 o1 6 (.call 12 [.t 5]),
 o1 7 (.un .not (.t 6)),
 m1 8 7,
 g1 9 8 true (lt 2 37),
 g1 10 8 true (.call 17 [.t 9]),
 g1 11 8 true (.bin .eql (.t 10) (cn 0)),
 o1 12 (.pick (.t 8) (.t 11) (.c (.bool false))),
 m1 13 12,
 g1 14 13 true (ao 3 0),
 g1 15 13 true (lf 14 1),
 g1 16 13 true (.len (.t 15)),
 g1 17 13 true (.bin .leq (.t 16) (cn 40)),
 o1 18 (.pick (.t 13) (.t 17) (.c (.bool false))),
 m1 19 18,
 g1 20 19 true (lt 2 37),
 g1 21 19 true (lt 3 3),
 g1 22 19 true (.call 44 [.t 20,.t 21]),
 o1 23 (.pick (.t 19) (.t 22) (.c (.bool false))),
 m1 24 23,
 g1 25 24 true (ao 2 35),
 g1 26 24 true (lf 25 1),
 g1 27 24 true (.bin .leq (.t 26) (cn 2000)),
 o1 28 (.pick (.t 24) (.t 27) (.c (.bool false))),
 m1 4 28]
 .ret))
def r31:List RV:=[.tmp 4]
theorem t31:Qt1 Tryz.prog 31 c31 r31 29:=Z8 Tryz.func31 rfl (by kernel_rfl) (by kernel_rfl) (by kernel_rfl) (by kernel_rfl)
open Go.Azalai
theorem goalN {s:Season} (h:OkS s) {p:Plan} (hp:YM s p=true):∃ m:Nat,m < s.land.wells.length/\YE s.land s.start [s.start] p.legs=some (m:Int):=by
 obtain ⟨⟨to,hto⟩,_⟩:=UE hp
 have:=Zde h.lp h.start hto
 exact ⟨to.toNat,by omega,by rw [hto];congr 1;omega⟩
theorem Zmd (s:Season) (hs:SmallS s) (p:Plan) (hg:p.legs.length<=1000):Ct Tryz.prog 20 [.agg (Zn s),.agg (Zy p)] (.tup [I (Zc3 s p).1,I (Zc3 s p).2]):=by
 refine t20.1 (by simp [Zn,Zy,Zh,Ze,Zm,Zg,Zd,Zo,Za,KFL,KF]) (by simp [KFL,KF]) ?_
 dsimp only [c20,r20,Zn,Zy,go_sem,rA,rM,rS]
 refine call (YJ s hs p hg) ?_
 dsimp only [Xk,go_sem,rA,rM,rS]
 by_cases he:(ZM s p).2.2.2=0
 case neg =>
  refine Zu (by simpa using he) ?_
  dsimp only [go_sem,rA,rM,rS]
  simp [Zc3,he]
 refine Zx (by simpa using he) ?_
 dsimp only [go_sem,rA,rM,rS]
 by_cases hw:(ZM s p).1=0
 case neg =>
  refine Zu (by simpa using hw) ?_
  dsimp only [go_sem,rA,rM,rS]
  simp [Zc3,he,hw]
 refine Zx (by simpa using hw) ?_
 dsimp only [go_sem,rA,rM,rS]
 obtain ⟨ho,hp⟩:=Zcm he
 have h:OkS s:=⟨hs,ho⟩
 obtain ⟨m,hm,hto⟩:=goalN h hp
 refine call (Zew s hs h.land h.pace h.start p.legs hg _) ?_
 dsimp only [go_sem,rA,rM,rS]
 rw [hto]
 simp only [Option.getD_some]
 refine call (Zf5 s h p hp m hm) ?_
 dsimp only [go_sem,rA,rM,rS]
 simp [Zc3,he,hw,hto]
def Zms (r:List Draw × Int):SV:=.tup [.sl false 3 (r.1.map Z1),I r.2]
theorem u22 {args:List SV} {res:SV} (ka:KFL args) (kr:KF res) (h:sx Tryz.prog Y0 0 cw22 (st0 args 48) (ZpG rw22 res)) (hA:Nat.ble args.length 48=true:=by rfl):Ct Tryz.prog 22 args res:=WE Tryz.func22 rfl bw22 ZwS Zxq nw22 (Nat.le_of_ble_eq_true hA) ka kr h
theorem Znk (s:Season) (hs:SmallS s) (p:Plan) (hg:p.legs.length<=1000) (k:Int):Ct Tryz.prog 22 [.agg (Zn s),.agg (Zy p),I k] (Zms (ZcV s p k)):=by
 have hsc:=hs.sc
 refine u22 (by simp [Zn,Zy,Zh,Ze,Zm,Zg,Zd,Zo,Za,KFL,KF]) (by simp [Zms,Z1,Za,KFL,KF]) ?_
 dsimp only [cw22,rw22,Zn,Zy,go_sem,rA,rM,rS]
 refine call (YJ s hs p hg) ?_
 dsimp only [Xk,go_sem,rA,rM,rS]
 by_cases he:(ZM s p).2.2.2=0
 case neg =>
  refine Zu (by simpa using he) ?_
  dsimp only [go_sem,rA,rM,rS]
  refine ⟨_,rfl,?_⟩
  rw [ZcV,if_pos he]
  exact Wn (Z0 YR Wq)
 refine Zx (by simpa using he) ?_
 dsimp only [go_sem,rA,rM,rS]
 obtain ⟨ho,hp⟩:=Zcm he
 have h:OkS s:=⟨hs,ho⟩
 try simp only [List.length_map]
 repeat (first | (refine gb ?_;dsimp only [go_sem,rA,rM,rS]) | (refine call (Zgn _ _ _ _) ?_;dsimp only [go_sem,rA,rM,rS]))
 simp only [List.length_map]
 rw [Zi (n:=(s.scenes.length:Int) - 1) (by omega) (by omega)]
 by_cases hw:(ZM s p).1≠0\/inR 0 (s.scenes.length - 1) k=false
 . refine Zu (by simpa using hw) ?_
   dsimp only [go_sem,rA,rM,rS]
   refine ⟨_,rfl,?_⟩
   rw [ZcV,if_neg (by simpa using he),if_pos hw]
   exact Wn (Z0 YR Wq)
 refine Zx (by simpa using hw) ?_
 dsimp only [go_sem,rA,rM,rS]
 have hw1:(ZM s p).1=0:=Classical.byContradiction fun q=>hw (.inl q)
 have hk:0<=k/\k < s.scenes.length:=by
  have:inR 0 (s.scenes.length - 1) k=true:=by cases hq:inR 0 (s.scenes.length - 1) k with | true=>rfl | false=>exact absurd (.inr hq) hw
  simp only [inR,decide_eq_true_eq] at this;omega
 obtain ⟨j,rfl⟩:∃ j:Nat,k=j:=⟨k.toNat,by omega⟩
 have hj:j < s.scenes.length:=by omega
 have ht:=Zk3 s h j hj p hp hg
 have hf:=Zq0 he hw1 _ (List.getElem_mem hj)
 have hR:ZcV s p j=(X6 s s.scenes[j] p.animals p.slabs (ZO s p.legs),0):=by
  rw [ZcV,if_neg (by simpa using he),if_neg hw]
  simp only [Int.toNat_natCast,List.getElem?_eq_getElem hj]
 rw [hR]
 have hT:WN s p s.scenes[j]=X6 s s.scenes[j] p.animals p.slabs (ZO s p.legs):=by rw [WN,if_pos hf]
 rw [hT] at ht
 generalize X6 s s.scenes[j] p.animals p.slabs (ZO s p.legs)=D at ht ⊢
 generalize XG s p s.scenes[j]=w at ht
 refine Xd [] ht rfl rfl rfl ?_ ?_ ?_
 . exact Zc (by simp [Yp,Zy,Ze,Zm,Zg,Zh,Zd,Zo,ZT,Za,KFL,KF])
 . trivial
 rintro _ rfl
 (repeat first | dsimp only [ZsZ,go_sem,rA,rM,rS] | simp only [nbr])
 exact ⟨_,rfl,fun _ _ _ _ _ h=>h⟩
theorem Zet (a b:List Draw) (ha:a.length<=1000000) (hb:b.length<=1000000) (c d:Bool):Ct Tryz.prog 24 [.sl c 3 (a.map Z1),.sl d 3 (b.map Z1)] (B (decide (a=b))):=by
 refine t24.1 (by simp [Z1,Za,KFL,KF]) (by simp [KFL,KF]) ?_
 dsimp only [c24,r24,go_sem,rA,rM,rS]
 simp only [List.length_map]
 by_cases hl:a.length=b.length
 case neg =>
  refine Zu (by simp;omega) ?_
  dsimp only [go_sem,rA,rM,rS]
  rw [decide_eq_false (fun e=>hl (by rw [e]))]
 refine Zx (by simp;omega) ?_
 dsimp only [go_sem,rA,rM,rS]
 refine WU [0,1,4,5] rfl (fun k:Nat=>[(5,I k)]) (fun _=>[]) (fun k=>k<=a.length/\(a=b↔a.drop k=b.drop k)) (fun k=>a.length - k) 0 ⟨Nat.zero_le _,by simp⟩ ?_ ?_
 . (refine Zk ?_ ?_ ?_ rfl rfl<;>dsimp only [Z1,id,go_sem,rA,rM,rS]<;>simp [Z1,Za,Zf,KFR,KFL,KF,Zc,mtO,nbr])
 rintro k ⟨hk,hi⟩
 dsimp only [go_sem,rA,rM,rS]
 simp only [List.length_map]
 by_cases hlt:k < a.length
 case neg =>
  refine Zx (by simp;omega) ?_
  dsimp only [go_sem,rA,rM,rS]
  rw [List.drop_eq_nil_of_le (by omega),List.drop_eq_nil_of_le (by omega)] at hi
  rw [decide_eq_true (hi.2 rfl)]
 refine Zu (by simpa using hlt) ?_
 dsimp only [go_sem,rA,rM,rS]
 have hlb:k < b.length:=by omega
 refine Zr k hlt rfl ?_
 dsimp only [go_sem,rA,rM,rS]
 refine Zr k hlb rfl ?_
 dsimp only [Z1,go_sem,rA,rM,rS]
 rw [List.drop_eq_getElem_cons hlt,List.drop_eq_getElem_cons hlb,List.cons.injEq] at hi
 by_cases hq:a[k]=b[k]
 . refine Zx (by simp [hq]) ?_
   dsimp only [go_sem,rA,rM,rS]
   rw [Zi (n:=(k:Int)+1) (by omega) (by omega)]
   refine ⟨k+1,⟨hlt,by rw [hi];simp [hq]⟩,by omega,?_⟩
   (refine Zk ?_ ?_ ?_ rfl rfl<;>dsimp only [Z1,id,go_sem,rA,rM,rS]<;>simp [Z1,Za,Zf,KFR,KFL,KF,Zc,mtO,nbr])
 . have hne:¬ (a[k].well=b[k].well/\a[k].day=b[k].day/\a[k].water=b[k].water):=fun q=>hq (by
    revert q;generalize a[k]=x;generalize b[k]=y;intro q;cases x;cases y;simpa using q)
   refine Zu (by simp;omega) ?_
   dsimp only [go_sem,rA,rM,rS]
   rw [decide_eq_false (fun e=>hq (hi.1 e).1)]
end Go.Proofs.YtiigiflofnjilaaGreat
namespace Go.Azalai
open Go.Sx Go.Proofs.YtiigiflofnjilaaGreat
theorem ZrB {l:Land} {well day:Int}:(XP l well [] day).1.lo<=1000000000:=by
 unfold XP
 split
 . simp
 rename_i h1
 split
 . simp
 split
 . simp
 split
 . simp
 split
 . rename_i w hw
   simp only [Bool.not_eq_false,ZA,Bool.and_eq_true,List.all_eq_true,inR,decide_eq_true_eq] at h1
   have hwell:=h1.1.2 w (List.mem_of_getElem? hw)
   simp only [Yy,Z3,inR,Bool.and_eq_true,decide_eq_true_eq] at hwell
   simp only [Vw,Wo]
   omega
 . simp
theorem Zza {s:Season} {x:Scene} (st:Stop):Zar s x st<=1000000000:=ZrB
theorem ZfR {s:Season} {p:Plan} {x:Scene} (h:OkS s) (hp:YM s p=true):∀ d ∈ WN s p x,0<=d.water/\d.water<=30000000:=by
 have hn:=h.num
 obtain ⟨_,hpl⟩:=UE hp
 intro d hd
 unfold WN at hd
 split at hd
 . unfold X6 at hd
   split at hd
   . cases hd
   split at hd
   . obtain ⟨st,_,rfl⟩:=List.mem_map.1 hd
     simp
   . unfold VA at hd
     obtain ⟨i,hi,rfl⟩:=List.getElem_of_mem hd
     simp only [List.length_zipWith] at hi
     rw [List.getElem_zipWith]
     have hb:=(ZzO (x:=x) (slabs:=p.slabs) (l:=ZO s p.legs) h.beast.1 h.beast.2).1 _ (List.getElem_mem (show i < _ by omega))
     simp only [ZbD]
     have h1:0<=p.animals * ((goF s x p.slabs (ZO s p.legs)).2.2[i]'(by omega)).1:=Int.mul_nonneg hpl.1 hb.1
     have h2:p.animals * ((goF s x p.slabs (ZO s p.legs)).2.2[i]'(by omega)).1<=30 * 1000000:=Int.mul_le_mul (by omega) hb.2 hb.1 (by decide)
     omega
 . cases hd
theorem ZjD {s:Season} {p:Plan} {x:Scene} (hg:p.legs.length<=1000):(WN s p x).length<=1000:=by
 have h1:(ZO s p.legs).length<=1000:=Nat.le_trans ZbH hg
 unfold WN X6
 split
 . split
   . simp
   split
   . simp;omega
   . simp only [VA,List.length_zipWith];omega
 . simp
end Go.Azalai
namespace Go.Proofs.YtiigiflofnjilaaGreat
open Go Go.Sx Go.Azalai
theorem ZvU (s:Season) (h:OkS s) (a:List Int) (ha:(YE s.land s.start [s.start] a).isSome=true) (hg:a.length<=1000) (k:Int) (hk:0<=k/\k<=12) :
 Ct Tryz.prog 66 [.agg (Zn s),.sl false 1 (a.map Zo),I k] (I (Zfg s a k)):=by
 have hnum:=h.num
 have hsc:=h.scs
 have hp:YM s ⟨a,1,k⟩=true:=by
  simp only [YM,ha,inR,Bool.true_and,Bool.and_eq_true,decide_eq_true_eq];omega
 refine tw66.1 (by simp [Zn,Zh,Ze,Zm,Zg,Zd,Zo,Za,KFL,KF]) (by simp [KFL,KF]) ?_
 dsimp only [cw66,rw66,Zn,go_sem,rA,rM,rS]
 simp only [List.length_map]
 refine WU [1,2,3,7,18,19] rfl (fun q:Nat × Int=>[(19,I q.1),(7,I q.2)]) (fun _=>[])
  (fun q=>q.1<=s.scenes.length/\Zs3 s a k (s.scenes.drop q.1) q.2=Zfg s a k/\0<=q.2/\q.2<=30) (fun q=>s.scenes.length - q.1) (0,s.herd) ⟨Nat.zero_le _,rfl,by simp only;omega,by simp only;omega⟩ ?_ ?_
 . (refine Zk ?_ ?_ ?_ rfl rfl<;>dsimp only [Ze,Zm,Zg,Zh,Zd,Zo,id,go_sem,rA,rM,rS]<;>simp [Ze,Zm,Zg,Zh,Zd,Zo,Za,Zf,KFR,KFL,KF,Zc,mtO,nbr])
 rintro ⟨j,n⟩ ⟨hj,hi,hn0,hn1⟩
 simp only at hj hi hn0 hn1
 dsimp only [go_sem,rA,rM,rS]
 by_cases hlt:j < s.scenes.length
 case neg =>
  refine Zx (by simp;omega) ?_
  dsimp only [go_sem,rA,rM,rS]
  rw [List.drop_eq_nil_of_le (by omega),Zs3] at hi
  rw [hi]
 refine Zu (by simpa using hlt) ?_
 dsimp only [go_sem,rA,rM,rS]
 have ht:=Zk3 s h j hlt ⟨a,1,k⟩ hp hg
 have hx:=h.scene _ (List.getElem_mem hlt)
 have hy:s.scenes[j].yields.length=s.land.wells.length:=by simp only [ZG,Bool.and_eq_true,decide_eq_true_eq] at hx;omega
 have hwat:=ZfR (x:=s.scenes[j]) h hp
 have hlen:=ZjD (s:=s) (p:=⟨a,1,k⟩) (x:=s.scenes[j]) hg
 rw [List.drop_eq_getElem_cons hlt,Zs3] at hi
 generalize WN s ⟨a,1,k⟩ s.scenes[j]=D at ht hi hwat hlen
 generalize XG s ⟨a,1,k⟩ s.scenes[j]=w at ht hi
 refine Xd [] ht rfl rfl rfl ?_ ?_ ?_
 . exact Zc (by simp [Yp,Zy,Ze,Zm,Zg,Zh,Zd,Zo,ZT,Za,KFL,KF])
 . trivial
 rintro _ rfl
 (repeat first | dsimp only [ZsZ,go_sem,rA,rM,rS] | simp only [nbr])
 by_cases hw0:w.1=0
 case neg =>
  refine Zu (by simpa using hw0) ?_
  dsimp only [go_sem,rA,rM,rS]
  rw [if_pos hw0] at hi
  rw [<- hi]
 refine Zx (by simpa using hw0) ?_
 dsimp only [go_sem,rA,rM,rS]
 rw [if_neg (by simpa using hw0)] at hi
 simp only [List.length_map]
 refine WU [1,2,3,7,9,18,19,36,37,38] rfl (fun q:Nat × Int=>[(38,I q.1),(7,I q.2)]) (fun _=>[])
  (fun q=>q.1<=D.length/\ZiG s s.scenes[j] (D.drop q.1) q.2=ZiG s s.scenes[j] D n/\0<=q.2/\q.2<=30) (fun q=>D.length - q.1) (0,n) ⟨Nat.zero_le _,rfl,hn0,hn1⟩ ?_ ?_
 . (refine Zk ?_ ?_ ?_ rfl rfl<;>dsimp only [Yp,Ze,Zm,Zg,Zh,Zd,Zo,ZT,Z1,id,go_sem,rA,rM,rS]<;>simp [Yp,Ze,Zm,Zg,Zh,Zd,Zo,ZT,Z1,Za,Zf,KFR,KFL,KF,Zc,mtO,nbr])
 rintro ⟨i,m⟩ ⟨hi0,hi1,hm0,hm1⟩
 simp only at hi0 hi1 hm0 hm1
 dsimp only [go_sem,rA,rM,rS]
 by_cases hilt:i < D.length
 case neg =>
  refine Zx (by simp;omega) ?_
  dsimp only [go_sem,rA,rM,rS]
  rw [List.drop_eq_nil_of_le (by omega),ZiG] at hi1
  rw [Zi (n:=(j:Int)+1) (by omega) (by omega)]
  refine ⟨(j+1,m),⟨hlt,by simp only;rw [hi1];exact hi,hm0,hm1⟩,by simp only;omega,?_⟩
  (refine Zk ?_ ?_ ?_ rfl rfl<;>dsimp only [Yp,Ze,Zm,Zg,Zh,Zd,Zo,ZT,Z1,id,go_sem,rA,rM,rS]<;>simp [Yp,Ze,Zm,Zg,Zh,Zd,Zo,ZT,Z1,Za,Zf,KFR,KFL,KF,Zc,mtO,nbr])
 refine Zu (by simpa using hilt) ?_
 dsimp only [go_sem,rA,rM,rS]
 refine Zr i hilt rfl ?_
 dsimp only [Z1,go_sem,rA,rM,rS]
 rw [List.drop_eq_getElem_cons hilt,ZiG] at hi1
 have hw:=hwat _ (List.getElem_mem hilt)
 have hnext:IntKind.i64.wrap ((i:Int)+1)=((i+1:Nat):Int):=by rw [Zi (by omega) (by omega)];omega
 by_cases hpos:D[i].water > 0
 . refine Zu (by simpa using hpos) ?_
   dsimp only [go_sem,rA,rM,rS]
   refine call (Ztg s h.small j hlt hy ⟨0,D[i].well,⟨0,0⟩,⟨D[i].day,0⟩⟩) ?_
   dsimp only [go_sem,rA,rM,rS]
   refine Zd2 (by omega) ?_
   have h1:=Ztf (s:=s) (x:=s.scenes[j]) ⟨0,D[i].well,⟨0,0⟩,⟨D[i].day,0⟩⟩
   have h2:=Zza (s:=s) (x:=s.scenes[j]) ⟨0,D[i].well,⟨0,0⟩,⟨D[i].day,0⟩⟩
   have h3:=WA (d:=D[i].water) h1 h2 (by omega)
   dsimp only [go_sem,rA,rM,rS]
   rw [Zi (n:=(Zar s s.scenes[j] ⟨0,D[i].well,⟨0,0⟩,⟨D[i].day,0⟩⟩).tdiv D[i].water) (by omega) (by omega),hnext]
   rw [if_pos hpos] at hi1
   refine ⟨(i+1,min m ((Zar s s.scenes[j] ⟨0,D[i].well,⟨0,0⟩,⟨D[i].day,0⟩⟩).tdiv D[i].water)),⟨hilt,hi1,by simp only;omega,by simp only;omega⟩,by simp only;omega,?_⟩
   (refine Zk ?_ ?_ ?_ rfl rfl<;>dsimp only [Yp,Ze,Zm,Zg,Zh,Zd,Zo,ZT,Z1,id,go_sem,rA,rM,rS]<;>simp [Yp,Ze,Zm,Zg,Zh,Zd,Zo,ZT,Z1,Za,Zf,KFR,KFL,KF,Zc,mtO,nbr])
 . refine Zx (by simpa using hpos) ?_
   dsimp only [go_sem,rA,rM,rS]
   rw [hnext]
   rw [if_neg hpos] at hi1
   refine ⟨(i+1,m),⟨hilt,hi1,hm0,hm1⟩,by simp only;omega,?_⟩
   (refine Zk ?_ ?_ ?_ rfl rfl<;>dsimp only [Yp,Ze,Zm,Zg,Zh,Zd,Zo,ZT,Z1,id,go_sem,rA,rM,rS]<;>simp [Yp,Ze,Zm,Zg,Zh,Zd,Zo,ZT,Z1,Za,Zf,KFR,KFL,KF,Zc,mtO,nbr])
def Vt (b:Bst):List SV:=[I b.w,I (-b.an),I (-b.sl),I (-(b.legs.length:Int))]
theorem mapW (a:List Nat):(Xn a).map Zo=a.map YY:=by simp [Xn,YY,Zo]
theorem ZfY (a:List Nat):(Xn a).length=a.length:=by simp [Xn]
structure SmB (b:Bst):Prop where
 len:b.legs.length<=1000
 an:0<=b.an/\b.an<=30
 sl:0<=b.sl/\b.sl<=12
theorem Zem (b:Bst) (hb:SmB b):Ct Tryz.prog 64 [.agg (Zy b.plan),I b.w] (.agg (Vt b)):=by
 obtain ⟨h1,h2,h3⟩:=hb
 refine t64.1 (by simp [Zy,Bst.plan,Zo,Za,KFL,KF]) (by simp [Vt,KFL,KF]) ?_
 dsimp only [c64,r64,Zy,Bst.plan,Vt,go_sem,rA,rM,rS]
 simp only [List.length_map,ZfY]
 rw [Int.zero_sub,Int.zero_sub,Int.zero_sub,Zi (n:=-b.an) (by omega) (by omega),Zi (n:=-b.sl) (by omega) (by omega),Zi (n:=-(b.legs.length:Int)) (by omega) (by omega)]
theorem ZkA (q p:Bst) (hq:SmB q) (hp:SmB p):Ct Tryz.prog 67 [.agg (Zy q.plan),.agg (Vt q),.agg (Zy p.plan),.agg (Vt p)] (B (Yn q p)):=by
 have hq1:=hq.len
 have hp1:=hp.len
 refine t67.1 (by simp [Zy,Bst.plan,Zo,Za,Vt,KFL,KF]) (by simp [KFL,KF]) ?_
 dsimp only [c67,r67,Zy,Bst.plan,Vt,go_sem,rA,rM,rS]
 by_cases e:q.w=p.w/\q.an=p.an/\q.sl=p.sl/\q.legs.length=p.legs.length
 . obtain ⟨e1,e2,e3,e4⟩:=e
   refine Zu (by simp [e1,e2,e3,e4]) ?_
   dsimp only [go_sem,rA,rM,rS]
   have hc:=ZgZ q.legs p.legs (by omega) (by omega)
   simp only [YF,<- mapW] at hc
   refine call hc ?_
   dsimp only [go_sem,rA,rM,rS]
   rw [ZgJ]
   simp [Yn,e1,e2,e3,e4]
 refine Zx (by simp;omega) ?_
 dsimp only [go_sem,rA,rM,rS]
 refine Xw 5 ?_
 dsimp only [Zb,go_sem,rA,rM,rS]
 refine Zu (by decide) ?_
 dsimp only [Zb,go_sem,rA,rM,rS]
 repeat (refine ixa 0 rfl (by decide) ?_;dsimp only [Zb,go_sem,rA,rM,rS])
 by_cases e1:q.w=p.w
 case neg =>
  refine Zu (by simpa using e1) ?_
  dsimp only [Zb,go_sem,rA,rM,rS]
  repeat (refine ixa 0 rfl (by decide) ?_;dsimp only [Zb,go_sem,rA,rM,rS])
  simp [Yn,e1]
 refine Zx (by simpa using e1) ?_
 dsimp only [Zb,go_sem,rA,rM,rS]
 refine Zu (by decide) ?_
 dsimp only [Zb,go_sem,rA,rM,rS]
 repeat (refine ixa 1 rfl (by decide) ?_;dsimp only [Zb,go_sem,rA,rM,rS])
 by_cases e2:q.an=p.an
 case neg =>
  refine Zu (by simp;omega) ?_
  dsimp only [Zb,go_sem,rA,rM,rS]
  repeat (refine ixa 1 rfl (by decide) ?_;dsimp only [Zb,go_sem,rA,rM,rS])
  have:decide (-q.an > -p.an)=decide (q.an < p.an):=by rw [decide_eq_decide];omega
  simp [Yn,e1,e2]
 refine Zx (by simp;omega) ?_
 dsimp only [Zb,go_sem,rA,rM,rS]
 refine Zu (by decide) ?_
 dsimp only [Zb,go_sem,rA,rM,rS]
 repeat (refine ixa 2 rfl (by decide) ?_;dsimp only [Zb,go_sem,rA,rM,rS])
 by_cases e3:q.sl=p.sl
 case neg =>
  refine Zu (by simp;omega) ?_
  dsimp only [Zb,go_sem,rA,rM,rS]
  repeat (refine ixa 2 rfl (by decide) ?_;dsimp only [Zb,go_sem,rA,rM,rS])
  simp [Yn,e1,e2,e3]
 refine Zx (by simp;omega) ?_
 dsimp only [Zb,go_sem,rA,rM,rS]
 refine Zu (by decide) ?_
 dsimp only [Zb,go_sem,rA,rM,rS]
 repeat (refine ixa 3 rfl (by decide) ?_;dsimp only [Zb,go_sem,rA,rM,rS])
 have e4:¬ q.legs.length=p.legs.length:=fun e4=>e ⟨e1,e2,e3,e4⟩
 refine Zu (by simp;omega) ?_
 dsimp only [Zb,go_sem,rA,rM,rS]
 repeat (refine ixa 3 rfl (by decide) ?_;dsimp only [Zb,go_sem,rA,rM,rS])
 simp [Yn,e1,e2,e3,e4]
end Go.Proofs.YtiigiflofnjilaaGreat
namespace Go.Sx
open Go Go.RowKit
theorem Zmi {m:Nat} {σ : St} (k:Nat) {l l':List SV} {T':TypeId} (hk:lkh k σ.hp = .cells l T') (hw:∀ (w:World) (E:Env) (n ok:Nat->Prop) (ys:List Value),RL w E n ok l ys->RL w E n ok l' ys) :
 Ent m σ ⟨σ.fr,(k,.cells l' T') :: σ.hp,σ.n,σ.N,σ.gs⟩:=fun C E a w _ h=>by
 have hocc:∀ b,occ E k (.cells l' T') b↔occ E k (lkh k σ.hp) b:=fun b=>by rw [hk];rfl
 obtain ⟨h6,h7⟩:=X7 (hb:=.cells l' T') (B:=E.β k) h.hs hocc (by rw [hk];rfl) ⟨rfl,rfl,rfl,rfl,fun _ _=>rfl⟩ (fun hst=>by
  have hb:=h.hs.bk k
  rw [hk] at hb
  simp only [Z2] at hb ⊢
  obtain ⟨cs,e1,e2⟩:=hb
  exact ⟨cs,e1,hw _ _ _ _ _ (ZJ hst (fun _ _=>Ele.rfl) (fun _ h=>h) _ _ e2)⟩)
 exact ⟨E,fun u=>XB h7 (fun _ _=>Ele.rfl) (fun _ h=>h) (fun _ _ _ _=>Iff.rfl) (h.fr u),h.sz,Wa h7 h.df,h.gs,h6⟩
end Go.Sx
namespace Go.Proofs.YtiigiflofnjilaaGreat
open Go Go.Sx Go.Azalai
def ZvH (r:Plan × Int × Int):SV:=.tup [.agg (Zy r.1),I r.2.1,I r.2.2]
theorem ZwH (w:Int):Ct Tryz.prog 64 [.agg [.v (.slice none 0 0),I 0,I 0],I w] (.agg [I w,I 0,I 0,I 0]) :=
 (Zem ⟨[],0,0,w⟩ ⟨by simp,by simp,by simp⟩).args (by simp [KFL,KF]) (Z0 (VU (Z0 YR Wq)) Wq)
theorem Zv2 {s:Season} {to:Int} {a:List Nat} {k n:Int} (ha:a.length<=1000) (hn:0<=n/\n<=30) (hk:0<=k/\k<=12):SmB (XS s to a k n):=⟨ha,hn,hk⟩
theorem u25 {args:List SV} {res:SV} (ka:KFL args) (kr:KF res) (h:sx Tryz.prog Y0 0 c25 (st0 args 97) (ZpG r25 res)) (hA:Nat.ble args.length 97=true:=by rfl):Ct Tryz.prog 25 args res:=WE Tryz.func25 rfl b25 ZAX ZzX n25 (Nat.le_of_ble_eq_true hA) ka kr h
theorem ZtJ (s:Season) (hs:SmallS s):Ct Tryz.prog 25 [.agg (Zn s)] (ZvH (Zht s)):=by
 refine u25 (by simp [Zn,Zh,Ze,Zm,Zg,Zd,Zo,Za,KFL,KF]) (by simp [ZvH,Zy,Zo,Za,KFL,KF]) ?_
 dsimp only [c25,r25,Zn,go_sem,rA,rM,rS]
 refine call (ZbK s hs) ?_
 dsimp only [go_sem,rA,rM,rS]
 by_cases ho:Zt s=true
 case neg =>
  refine Zu (by simp [ho]) ?_
  dsimp only [go_sem,rA,rM,rS]
  refine ⟨_,rfl,?_⟩
  rw [show Zht s=(⟨[],0,0⟩,0,90) from by unfold Zht;exact if_pos (by simpa using ho),if_neg ho]
  exact Wn (Z0 (VU (Z0 YR Wq)) Wq)
 refine Zx (by simp [ho]) ?_
 dsimp only [go_sem,rA,rM,rS]
 have h:OkS s:=⟨hs,ho⟩
 have hn:=h.num
 have hw0:0<=s.herd * s.sale/\s.herd * s.sale<=30 * 1000000:=⟨Int.mul_nonneg (by omega) (by omega),Int.mul_le_mul (by omega) (by omega) (by omega) (by decide)⟩
 rw [Zi (n:=s.herd * s.sale) (by omega) (by omega)]
 refine call (ZwH (s.herd * s.sale)) ?_
 dsimp only [go_sem,rA,rM,rS]
 simp only [List.length_map]
 have hR:Zht s=match ZvB s with | none=>(⟨[],0,0⟩,0,9) | some b=>(b.plan,b.w,0):=by unfold Zht;exact if_neg (by simp [ho])
 have hwl:=h.land
 simp only [ZA,inR,Bool.and_eq_true,decide_eq_true_eq] at hwl
 refine Zd5 (Yg (UW [1,2,3,6,34,35] rfl) (Zmi 1 (l':=Zy ⟨[],0,0⟩) rfl (Z0 YR Wq)))
  (fun q:Nat × Bst=>[(35,I q.1),(3,I q.2.w)]) (fun q=>[(1,.cells (Zy q.2.plan) 37),(2,.cells (Vt q.2) 142)])
  (fun q=>q.1<=s.land.wells.length/\Zex s ((List.range s.land.wells.length).drop q.1) q.2=ZvB s/\SmB q.2) (fun q=>s.land.wells.length - q.1) (0,⟨[],0,0,s.herd * s.sale⟩)
  ⟨Nat.zero_le _,rfl,⟨by simp,by simp,by simp⟩⟩ ?_ ?_
 . (refine Zk ?_ ?_ ?_ rfl rfl<;>dsimp only [Zy,Vt,Bst.plan,Xn,Ze,Zm,Zg,Zh,Zd,Zo,id,go_sem,rA,rM,rS]<;>simp [Zy,Vt,Bst.plan,Xn,Ze,Zm,Zg,Zh,Zd,Zo,Za,Zf,KFR,KFL,KF,Zc,mtO,nbr])
 rintro ⟨g,b⟩ ⟨hg,hi,hb⟩
 simp only at hg hi hb
 dsimp only [Zy,Vt,go_sem,rA,rM,rS]
 by_cases hlt:g < s.land.wells.length
 case neg =>
  refine Zx (by simp;omega) ?_
  dsimp only [go_sem,rA,rM,rS]
  rw [List.drop_eq_nil_of_le (by simp;omega),Zex] at hi
  rw [hR,<- hi]
  exact ⟨_,rfl,fun _ _ _ _ _ h=>h⟩
 refine Zu (by simpa using hlt) ?_
 dsimp only [go_sem,rA,rM,rS]
 have hwy:=ZrS s.land hs.land s.start g s.day s.till s.pace
 rw [List.drop_eq_getElem_cons (by simpa using hlt),List.getElem_range,Zex] at hi
 by_cases hE:Zdy s.land s.pace s.start g s.day s.till=0
 case neg =>
  simp only [ZdI,XQ,if_neg hE] at hwy
  refine call hwy ?_
  dsimp only [go_sem,rA,rM,rS]
  refine Zu (by simpa using hE) ?_
  dsimp only [go_sem,rA,rM,rS]
  rw [if_pos hE] at hi
  rw [hR,<- hi]
  refine ⟨_,rfl,?_⟩
  exact Wn (Z0 (VU (Z0 YR Wq)) Wq)
 simp only [ZdI,XQ,if_pos hE] at hwy
 refine call hwy ?_
 dsimp only [go_sem,rA,rM,rS]
 refine Zx (by simpa using hE) ?_
 dsimp only [go_sem,rA,rM,rS]
 rw [if_neg (by simpa using hE)] at hi
 simp only [List.length_map]
 have hmem:∀ a ∈ Zag s.land s.pace s.start g s.day s.till,YE s.land s.start [s.start] (Xn a)=some (g:Int)/\a.length<=24:=fun a ha=>by
  have h1:=((ZoW h).1 ha).1
  exact ⟨h1,by simpa [Xn] using (lenS h h1).2⟩
 have hwlen:(Zag s.land s.pace s.start g s.day s.till).length<=1000:=by
  unfold Zdy at hE
  split at hE
  . rename_i q;exact absurd hE q
  split at hE
  . simp at hE
  split at hE
  . simp at hE
  . rename_i q;unfold Zag;omega
 generalize Zag s.land s.pace s.start g s.day s.till=W at hi hmem hwlen ⊢
 refine WU [1,2,3,6,7,34,35,56,57,58] rfl (fun q:Nat × Bst=>[(58,I q.1),(3,I q.2.w)]) (fun q=>[(1,.cells (Zy q.2.plan) 37),(2,.cells (Vt q.2) 142)])
  (fun q=>q.1<=W.length/\(W.drop q.1).foldl (ZBi s g) q.2=W.foldl (ZBi s g) b/\SmB q.2) (fun q=>W.length - q.1) (0,b) ⟨Nat.zero_le _,rfl,hb⟩ ?_ ?_
 . (refine Zk ?_ ?_ ?_ rfl rfl<;>dsimp only [Zy,Bst.plan,Vt,XS,XL,YF,YY,Xn,Ze,Zm,Zg,Zh,Zd,Zo,id,go_sem,rA,rM,rS]<;>simp [Zy,Bst.plan,Vt,XS,XL,YF,YY,Xn,Ze,Zm,Zg,Zh,Zd,Zo,Za,Zf,KFR,KFL,KF,Zc,mtO,nbr])
 rintro ⟨i,b1⟩ ⟨hi1,hf1,hb1⟩
 simp only at hi1 hf1 hb1
 dsimp only [Zy,Bst.plan,Vt,go_sem,rA,rM,rS]
 by_cases hilt:i < W.length
 case neg =>
  refine Zx (by simp;omega) ?_
  dsimp only [go_sem,rA,rM,rS]
  rw [List.drop_eq_nil_of_le (by omega),List.foldl_nil] at hf1
  rw [Zi (n:=(g:Int)+1) (by omega) (by omega)]
  refine ⟨(g+1,b1),⟨hlt,by simp only;rw [hf1];exact hi,hb1⟩,by simp only;omega,?_⟩
  (refine Zk ?_ ?_ ?_ rfl rfl<;>dsimp only [Zy,Bst.plan,Vt,XS,XL,YF,YY,Xn,Ze,Zm,Zg,Zh,Zd,Zo,id,go_sem,rA,rM,rS]<;>simp [Zy,Bst.plan,Vt,XS,XL,YF,YY,Xn,Ze,Zm,Zg,Zh,Zd,Zo,Za,Zf,KFR,KFL,KF,Zc,mtO,nbr])
 refine Zu (by simpa using hilt) ?_
 dsimp only [go_sem,rA,rM,rS]
 refine Zr i hilt rfl ?_
 rw [List.drop_eq_getElem_cons hilt,List.foldl_cons] at hf1
 obtain ⟨hto,hal⟩:=hmem _ (List.getElem_mem hilt)
 generalize W[i]=a at hf1 hto hal ⊢
 simp only [XL,YF,<- mapW]
 dsimp only [go_sem,rA,rM,rS]
 refine WU [1,2,3,6,7,11,34,35,56,57,58,62] rfl (fun q:Nat × Bst=>[(62,I q.1),(3,I q.2.w)]) (fun q=>[(1,.cells (Zy q.2.plan) 37),(2,.cells (Vt q.2) 142)])
  (fun q=>q.1<=13/\((List.range 13).drop q.1).foldl (Zra s g a) q.2=ZBi s g b1 a/\SmB q.2) (fun q=>13 - q.1) (0,b1) ⟨Nat.zero_le _,rfl,hb1⟩ ?_ ?_
 . (refine Zk ?_ ?_ ?_ rfl rfl<;>dsimp only [Zy,Bst.plan,Vt,XS,XL,YF,YY,Xn,Ze,Zm,Zg,Zh,Zd,Zo,id,go_sem,rA,rM,rS]<;>simp [Zy,Bst.plan,Vt,XS,XL,YF,YY,Xn,Ze,Zm,Zg,Zh,Zd,Zo,Za,Zf,KFR,KFL,KF,Zc,mtO,nbr])
 rintro ⟨k,b2⟩ ⟨hk1,hf2,hb2⟩
 simp only at hk1 hf2 hb2
 dsimp only [Zy,Bst.plan,Vt,go_sem,rA,rM,rS]
 by_cases hk:k < 13
 case neg =>
  refine Zx (by simp;omega) ?_
  dsimp only [go_sem,rA,rM,rS]
  rw [List.drop_eq_nil_of_le (by simp;omega),List.foldl_nil] at hf2
  rw [Zi (n:=(i:Int)+1) (by omega) (by omega)]
  refine ⟨(i+1,b2),⟨hilt,by simp only;rw [hf2];exact hf1,hb2⟩,by simp only;omega,?_⟩
  (refine Zk ?_ ?_ ?_ rfl rfl<;>dsimp only [Zy,Bst.plan,Vt,XS,XL,YF,YY,Xn,Ze,Zm,Zg,Zh,Zd,Zo,id,go_sem,rA,rM,rS]<;>simp [Zy,Bst.plan,Vt,XS,XL,YF,YY,Xn,Ze,Zm,Zg,Zh,Zd,Zo,Za,Zf,KFR,KFL,KF,Zc,mtO,nbr])
 refine Zu (by simp;omega) ?_
 dsimp only [go_sem,rA,rM,rS]
 refine call (ZvU s h (Xn a) (by rw [hto];rfl) (by rw [ZfY];omega) k ⟨by omega,by omega⟩) ?_
 have hfb:=Zxc h (a:=Xn a) (k:=(k:Int))
 rw [List.drop_eq_getElem_cons (by simpa using hk),List.getElem_range,List.foldl_cons] at hf2
 obtain ⟨F,hF⟩:∃ F:Nat,Zfg s (Xn a) k=F:=⟨(Zfg s (Xn a) k).toNat,by omega⟩
 have hsl:Zra s g a b2 k=Zfl s g a k F b2:=by simp only [Zra,hF,Int.toNat_natCast]
 rw [hsl] at hf2
 rw [hF] at hfb ⊢
 dsimp only [go_sem,rA,rM,rS]
 refine WU [1,2,3,6,7,11,12,13,34,35,56,57,58,62] rfl (fun q:Nat × Bst=>[(13,I q.1),(3,I q.2.w)]) (fun q=>[(1,.cells (Zy q.2.plan) 37),(2,.cells (Vt q.2) 142)])
  (fun q=>q.1<=F/\Zfl s g a k q.1 q.2=Zfl s g a k F b2/\SmB q.2) (fun q=>q.1) (F,b2) ⟨Nat.le_refl _,rfl,hb2⟩ ?_ ?_
 . (refine Zk ?_ ?_ ?_ rfl rfl<;>dsimp only [Zy,Bst.plan,Vt,XS,XL,YF,YY,Xn,Ze,Zm,Zg,Zh,Zd,Zo,id,go_sem,rA,rM,rS]<;>simp [Zy,Bst.plan,Vt,XS,XL,YF,YY,Xn,Ze,Zm,Zg,Zh,Zd,Zo,Za,Zf,KFR,KFL,KF,Zc,mtO,nbr])
 rintro ⟨n,b3⟩ ⟨hn1,hf3,hb3⟩
 simp only at hn1 hf3 hb3
 dsimp only [Zy,Bst.plan,Vt,go_sem,rA,rM,rS]
 by_cases h0:n=0
 . subst h0
   refine Zu (by simp) ?_
   dsimp only [go_sem,rA,rM,rS]
   rw [Zfl] at hf3
   rw [Zi (n:=(k:Int)+1) (by omega) (by omega)]
   refine ⟨(k+1,b3),⟨by simp only;omega,by simp only;rw [hf3];exact hf2,hb3⟩,by simp only;omega,?_⟩
   (refine Zk ?_ ?_ ?_ rfl rfl<;>dsimp only [Zy,Bst.plan,Vt,XS,XL,YF,YY,Xn,Ze,Zm,Zg,Zh,Zd,Zo,id,go_sem,rA,rM,rS]<;>simp [Zy,Bst.plan,Vt,XS,XL,YF,YY,Xn,Ze,Zm,Zg,Zh,Zd,Zo,Za,Zf,KFR,KFL,KF,Zc,mtO,nbr])
 obtain ⟨m,rfl⟩:∃ m,n=m+1:=⟨n - 1,by omega⟩
 refine Zx (by simp;omega) ?_
 dsimp only [go_sem,rA,rM,rS]
 have hp:YM s ⟨Xn a,((m+1:Nat):Int),k⟩=true:=ZrK hto ⟨by simp only;omega,by simp only;omega⟩ ⟨by simp only;omega,by simp only;omega⟩
 have hcs:SmB (XS s g a k ((m+1:Nat):Int)):=Zv2 (by omega) ⟨by omega,by omega⟩ ⟨by omega,by omega⟩
 have hwo:=Zf5 s h ⟨Xn a,((m+1:Nat):Int),k⟩ hp g hlt
 simp only [Zy] at hwo
 refine call hwo ?_
 dsimp only [go_sem,rA,rM,rS]
 have hso:=Zem (XS s g a k ((m+1:Nat):Int)) hcs
 simp only [Zy,Bst.plan,XS,Vt] at hso
 refine call hso ?_
 dsimp only [go_sem,rA,rM,rS]
 have hbo:=ZkA (XS s g a k ((m+1:Nat):Int)) b3 hcs hb3
 simp only [Zy,Bst.plan,Vt] at hbo
 refine call hbo ?_
 dsimp only [go_sem,rA,rM,rS]
 rw [Zfl] at hf3
 by_cases hbb:Yn (XS s g a k ((m+1:Nat):Int)) b3=true
 . refine Zu (by simpa using hbb) ?_
   dsimp only [go_sem,rA,rM,rS]
   rw [Zkf,if_pos hbb] at hf3
   rw [Zi (n:=(((m+1:Nat):Int)) - 1) (by omega) (by omega),show (((m+1:Nat):Int)) - 1=(m:Int) from by omega]
   refine ⟨(m,XS s g a k ((m+1:Nat):Int)),⟨by simp only;omega,hf3,hcs⟩,by simp only;omega,?_⟩
   (refine Zk ?_ ?_ ?_ rfl rfl<;>dsimp only [Zy,Bst.plan,Vt,XS,XL,YF,YY,Xn,Ze,Zm,Zg,Zh,Zd,Zo,id,go_sem,rA,rM,rS]<;>simp [Zy,Bst.plan,Vt,XS,XL,YF,YY,Xn,Ze,Zm,Zg,Zh,Zd,Zo,Za,Zf,KFR,KFL,KF,Zc,mtO,nbr])
 . refine Zx (by simpa using hbb) ?_
   dsimp only [go_sem,rA,rM,rS]
   rw [Zkf,if_neg hbb] at hf3
   rw [Zi (n:=(((m+1:Nat):Int)) - 1) (by omega) (by omega),show (((m+1:Nat):Int)) - 1=(m:Int) from by omega]
   refine ⟨(m,b3),⟨by simp only;omega,hf3,hb3⟩,by simp only;omega,?_⟩
   (refine Zk ?_ ?_ ?_ rfl rfl<;>dsimp only [Zy,Bst.plan,Vt,XS,XL,YF,YY,Xn,Ze,Zm,Zg,Zh,Zd,Zo,id,go_sem,rA,rM,rS]<;>simp [Zy,Bst.plan,Vt,XS,XL,YF,YY,Xn,Ze,Zm,Zg,Zh,Zd,Zo,Za,Zf,KFR,KFL,KF,Zc,mtO,nbr])
theorem Zna (s:Season) (hs:SmallS s):Ct Tryz.prog 27 [.agg (Zn s)] (.tup [I (Zb3 s).1,I (Zb3 s).2]):=by
 refine t27.1 (by simp [Zn,Zh,Ze,Zm,Zg,Zd,Zo,Za,KFL,KF]) (by simp [KFL,KF]) ?_
 dsimp only [c27,r27,Zn,go_sem,rA,rM,rS]
 refine call (ZbK s hs) ?_
 dsimp only [go_sem,rA,rM,rS]
 by_cases ho:Zt s=true
 case neg =>
  refine Zu (by simp [ho]) ?_
  dsimp only [go_sem,rA,rM,rS]
  simp [Zb3,ho]
 refine Zx (by simp [ho]) ?_
 dsimp only [go_sem,rA,rM,rS]
 have h:OkS s:=⟨hs,ho⟩
 have hn:=h.num
 have hst:=h.start
 have hs4:=h.scs
 have hbr:=Cm.breed_bd h.beast.1
 have hE:Wh s.land s.pace s.start s.day=0:=ZlC.2 ⟨h.land,h.pace,by simp only [inR,decide_eq_true_eq];omega,by simp only [inR,decide_eq_true_eq];omega⟩
 have hre:=Zeo s.land hs.land s.start s.day s.pace
 rw [hE] at hre
 simp only [XQ,if_true] at hre
 refine call hre ?_
 dsimp only [go_sem,rA,rM,rS]
 refine Zd2 (by omega) ?_
 dsimp only [go_sem,rA,rM,rS]
 have hk0:=WA (a:=s.breed.strong.lo) (A:=1000000) (d:=s.slab) (by omega) (by omega) (by omega)
 rw [Zi (n:=s.breed.strong.lo.tdiv s.slab) (by omega) (by omega)]
 have hB:Zb3 s=(Zgu s,0):=by rw [Zb3,if_neg (by simp [ho])]
 rw [hB]
 unfold Zgu
 obtain ⟨k,hk⟩:∃ k,k=min 12 (s.breed.strong.lo.tdiv s.slab):=⟨_,rfl⟩
 rw [<- hk]
 have hk1:0<=k/\k<=12:=by omega
 simp only [List.length_map]
 have hRl:(Xt s.land s.pace s.start s.day).length=s.land.wells.length:=WG
 generalize Xt s.land s.pace s.start s.day=Rr at hRl ⊢
 obtain ⟨W,hW⟩:∃ W,W=s.scenes.map (fun x=>s.herd * Ze9 s x k Rr 0 s.sale):=⟨_,rfl⟩
 have hWl:W.length=s.scenes.length:=by rw [hW];simp
 rw [<- hW]
 have hwl:=h.land
 simp only [ZA,inR,Bool.and_eq_true,decide_eq_true_eq] at hwl
 refine Zd5 (Yg (UW [1,5,7,8,40,41,42] rfl) (Y7 8 1 3 rfl rfl)) (fun q:Nat × Nat=>[(42,I q.1),(8,.mr 1 q.2)])
  (fun q=>[(1,.row q.2 1 ((W.take q.1).map Zo) 3)]) (fun q=>q.1<=s.scenes.length) (fun q=>s.scenes.length - q.1) (0,0) (Nat.zero_le _) ?_ ?_
 . (refine Zk ?_ ?_ ?_ rfl rfl<;>dsimp only [Ze,Zm,Zg,Zh,Zd,Zo,Yj,id,go_sem,rA,rM,rS]<;>simp [Ze,Zm,Zg,Zh,Zd,Zo,Yj,Za,Zf,KFR,KFL,KF,Zc,mtO,nbr])
 rintro ⟨j,v⟩ hj
 simp only at hj
 dsimp only [go_sem,rA,rM,rS]
 by_cases hlt:j < s.scenes.length
 case neg =>
  refine Zx (by simp;omega) ?_
  dsimp only [go_sem,rA,rM,rS]
  rw [List.take_of_length_le (by omega)]
  refine gh (Zbf 8 1 v rfl rfl rfl rfl) ?_
  dsimp only [go_sem,rA,rM,rS]
  refine call (Zlr W (by omega) (by omega) _) ?_
  dsimp only [go_sem,rA,rM,rS]
 refine Zu (by simpa using hlt) ?_
 dsimp only [go_sem,rA,rM,rS]
 refine Zr j hlt rfl ?_
 dsimp only [Zh,go_sem,rA,rM,rS]
 simp only [List.length_map]
 refine WU [1,5,7,8,10,11,40,41,42,48,49,50] rfl (fun q:Nat × Int=>[(50,I q.1),(11,I q.2)]) (fun _=>[])
  (fun q=>q.1<=Rr.length/\Ze9 s s.scenes[j] k (Rr.drop q.1) q.1 q.2=Ze9 s s.scenes[j] k Rr 0 s.sale/\0<=q.2/\q.2<=12000000) (fun q=>Rr.length - q.1) (0,s.sale) ⟨Nat.zero_le _,rfl,by simp only;omega,by simp only;omega⟩ ?_ ?_
 . (refine Zk ?_ ?_ ?_ rfl rfl<;>dsimp only [Ze,Zm,Zg,Zh,Zd,Zo,Yj,id,go_sem,rA,rM,rS]<;>simp [Ze,Zm,Zg,Zh,Zd,Zo,Yj,Za,Zf,KFR,KFL,KF,Zc,mtO,nbr])
 rintro ⟨i,e⟩ ⟨hi0,hi1,he0,he1⟩
 simp only at hi0 hi1 he0 he1
 dsimp only [go_sem,rA,rM,rS]
 by_cases hilt:i < Rr.length
 case neg =>
  refine Zx (by simp;omega) ?_
  dsimp only [go_sem,rA,rM,rS]
  rw [List.drop_eq_nil_of_le (by omega),Ze9] at hi1
  refine gh Xo ?_
  dsimp only [go_sem,rA,rM,rS]
  have hm:0<=s.herd * e/\s.herd * e<=30 * 12000000:=⟨Int.mul_nonneg (by omega) he0,Int.mul_le_mul (by omega) he1 he0 (by decide)⟩
  rw [Zi (n:=s.herd * e) (by omega) (by omega)]
  simp only [nbr]
  dsimp only [go_sem,rA,rM,rS]
  refine ⟨(by intro c hc;simp only [List.mem_singleton] at hc;subst hc;rfl),by simp;omega,?_⟩
  dsimp only [go_sem,rA,rM,rS]
  refine gh Xo ?_
  dsimp only [go_sem,rA,rM,rS]
  rw [Zi (n:=(j:Int)+1) (by omega) (by omega)]
  refine ⟨(j+1,v+1),hlt,by simp only;omega,?_⟩
  simp only
  have hWj:s.herd * e=W[j]'(by omega):=by simp [hW,hi1]
  rw [hWj,List.take_succ_eq_append_getElem (by omega)]
  simp only [List.map_append,List.map_cons,List.map_nil]
  (refine Zk ?_ ?_ ?_ rfl rfl<;>dsimp only [Ze,Zm,Zg,Zh,Zd,Zo,Yj,id,go_sem,rA,rM,rS]<;>simp [Ze,Zm,Zg,Zh,Zd,Zo,Yj,Za,Zf,KFR,KFL,KF,Zc,mtO,nbr])
 refine Zu (by simpa using hilt) ?_
 dsimp only [go_sem,rA,rM,rS]
 refine Zr i hilt rfl ?_
 dsimp only [Zd,go_sem,rA,rM,rS]
 rw [List.drop_eq_getElem_cons hilt,Ze9] at hi1
 have hnext:IntKind.i64.wrap ((i:Int)+1)=((i+1:Nat):Int):=by rw [Zi (by omega) (by omega)];omega
 by_cases hr:Rr[i].hi<=s.till
 . refine Zu (by simpa using hr) ?_
   dsimp only [go_sem,rA,rM,rS]
   obtain ⟨hq,hpr⟩:=ZdO h hlt (m:=i) (by omega)
   refine Zr i hq rfl ?_
   dsimp only [Zo,go_sem,rA,rM,rS]
   have hpp:=Zi0 (A:=k) (B:=12) (d:=s.scenes[j].prices[i] - s.cost) (M:=1000000) hk1.1 hk1.2 (by decide) (by omega)
   rw [Zi (n:=s.scenes[j].prices[i] - s.cost) (by omega) (by omega),Zi (n:=k * (s.scenes[j].prices[i] - s.cost)) (by omega) (by omega),hnext]
   rw [if_pos hr,List.getElem?_eq_getElem hq,Option.getD_some] at hi1
   refine ⟨(i+1,max e (k * (s.scenes[j].prices[i] - s.cost))),⟨hilt,hi1,by simp only;omega,by simp only;omega⟩,by simp only;omega,?_⟩
   (refine Zk ?_ ?_ ?_ rfl rfl<;>dsimp only [Ze,Zm,Zg,Zh,Zd,Zo,Yj,id,go_sem,rA,rM,rS]<;>simp [Ze,Zm,Zg,Zh,Zd,Zo,Yj,Za,Zf,KFR,KFL,KF,Zc,mtO,nbr])
 . refine Zx (by simpa using hr) ?_
   dsimp only [go_sem,rA,rM,rS]
   rw [hnext]
   rw [if_neg hr] at hi1
   refine ⟨(i+1,e),⟨hilt,hi1,he0,he1⟩,by simp only;omega,?_⟩
   (refine Zk ?_ ?_ ?_ rfl rfl<;>dsimp only [Ze,Zm,Zg,Zh,Zd,Zo,Yj,id,go_sem,rA,rM,rS]<;>simp [Ze,Zm,Zg,Zh,Zd,Zo,Yj,Za,Zf,KFR,KFL,KF,Zc,mtO,nbr])
end Go.Proofs.YtiigiflofnjilaaGreat
namespace Go.Sx
open Go Go.RowKit
def RLW (l l':List SV):Prop:=∀ (w:World) (E:Env) (n ok:Nat->Prop) (ys:List Value),RL w E n ok l ys->RL w E n ok l' ys
theorem Zdu {l:List SV}:RLW l l:=fun _ _ _ _ _ h=>h
theorem Zq {s s':SV} {l l':List SV} (h1:Xs s s') (h2:RLW l l'):RLW (s :: l) (s' :: l'):=Z0 h1 h2
def RRW:List (List SV)->List (List SV)->Prop
 | [],[]=>True
 | r :: xs,r' :: xs'=>RLW r r'/\r'.length=r.length/\RRW xs xs'
 | _,_=>False
theorem Zdf:∀ {xs xs':List (List SV)},RRW xs xs'->xs'.length=xs.length
 | [],[],_=>rfl
 | _ :: xs,_ :: xs',h=>by simp [Zdf h.2.2]
 | [],_ :: _,h=>h.elim
 | _ :: _,[],h=>h.elim
theorem ZsQ {w:World} {E:Env} {n ok:Nat->Prop} {b m:Nat}:∀ {xs xs':List (List SV)} {off:Nat},RRW xs xs'->RR w E n ok b m xs off->RR w E n ok b m xs' off
 | [],[],_,_,h=>h
 | r :: xs,r' :: xs',off,hw,h=>by
  simp only [RR] at h ⊢
  obtain ⟨h0,⟨cs,h1,h2⟩,h3⟩:=h
  exact ⟨by rw [hw.2.1];exact h0,⟨cs,hw.1 _ _ _ _ _ h1,h2⟩,ZsQ hw.2.2 h3⟩
 | [],_ :: _,_,h,_=>h.elim
 | _ :: _,[],_,h,_=>h.elim
theorem ZuN {c:Bool} {m:Nat} {xs xs':List (List SV)} (h:RRW xs xs'):Xs (.sl c m xs) (.sl false m xs'):=fun w E n ok y hy=>by
 simp only [R] at hy ⊢
 obtain ⟨a,len,cap,h1,h2,h3,h4,h5⟩:=hy
 refine ⟨a,len,cap,h1,by rw [Zdf h];exact h2,⟨h3.1,fun h=>by cases h⟩,by rw [Zdf h];exact h4,?_⟩
 rcases h5 with h5 | ⟨b,off,h5,h6⟩
 . left
   have:=Zdf h
   rw [h5] at this
   exact List.eq_nil_of_length_eq_zero this
 . exact .inr ⟨b,off,h5,ZsQ h h6⟩
end Go.Sx
namespace Go.Azalai
open Go.Sx Go.Proofs.YtiigiflofnjilaaGreat
def Xr:Season :=
 ⟨⟨[⟨0,0,0,⟨0,0⟩,0,⟨0,0⟩,0⟩,⟨0,0,0,⟨0,0⟩,1000000,⟨0,0⟩,0⟩,⟨0,0,0,⟨0,0⟩,0,⟨0,0⟩,0⟩],
  [⟨0,1,⟨40000,40000⟩,[⟨⟨0,0⟩,⟨99,99⟩⟩]⟩,⟨1,2,⟨40000,40000⟩,[⟨⟨0,0⟩,⟨99,99⟩⟩]⟩,⟨0,2,⟨100000,100000⟩,[⟨⟨0,0⟩,⟨99,99⟩⟩]⟩]⟩,
  ⟨20000,20000⟩,⟨100000,50000,⟨5000,5000⟩,⟨0,0⟩,⟨1000,1000⟩,⟨100,100⟩,⟨0,0⟩,⟨0,0⟩,0,⟨200000,200000⟩⟩,⟨⟨100000,100000⟩,⟨50000,50000⟩,⟨0,0⟩,false⟩,
  10,10,50000,10,60,0,0,20,[⟨⟨0,0⟩,⟨0,0⟩,[⟨0,0⟩,⟨50000,50000⟩,⟨0,0⟩],[10,12,40]⟩]⟩
theorem Y9:SmallS Xr:=ZbI (by decide +kernel)
theorem Zlf:Zt Xr=true:=by decide +kernel
theorem ZnP:OkS Xr:=⟨Y9,Zlf⟩
theorem Zw1:ZM Xr ⟨[0,1],2,2⟩=(0,0,0,0):=by decide +kernel
theorem ZuA:ZM Xr ⟨[0,1],3,2⟩=(4,0,0,0):=by decide +kernel
theorem ZxH:ZM Xr ⟨[2],10,1⟩=(0,0,0,0):=by decide +kernel
theorem Zia:Zc3 Xr ⟨[0,1],2,2⟩=(600,0):=by decide +kernel
theorem Zir:ZcV Xr ⟨[0,1],2,2⟩ 0=([⟨1,2,100000⟩],0):=by decide +kernel
theorem ZmJ:Zht Xr=(⟨[0,1],1,4⟩,660,0):=by decide +kernel
def Zpl (v:Int):Int:=if v=0 then 0 else if v=1 then 2 else if v=2 then 4 else 100001
theorem ZfH (k:Bool) (v:Int):YV k Xr.land Xr.pace 0 0 v=Zpl v:=by
 refine (Zbb (k:=k) (s:=0) (day:=0) ZnP.lp (by decide) (by decide) (by decide) (by decide) (d:=Zpl) (by decide) ?_ ?_ ?_ v).symm
 . cases k<;>(intro x hx;simp only [Xr,List.mem_cons,List.not_mem_nil,or_false] at hx;rcases hx with rfl | rfl | rfl<;>decide)
 . intro v;unfold Zpl;repeat' split
   all_goals decide
 . intro v
   unfold Zpl
   split
   . rename_i h;subst h;exact .inr ⟨[],by cases k<;>decide⟩
   . split
     . rename_i h;subst h;exact .inr ⟨[0],by cases k<;>decide⟩
     . split
       . rename_i h;subst h
         exact .inr ⟨[0,1],by cases k<;>decide⟩
       . exact .inl rfl
theorem Zic:Xt Xr.land Xr.pace Xr.start Xr.day=[⟨0,0⟩,⟨2,2⟩,⟨4,4⟩]:=by
 have h:Xr.land.wells.length=3:=rfl
 show Xt Xr.land Xr.pace 0 0=_
 simp only [Xt,Wt,h,ZfH]
 decide
theorem ZhI:Zb3 Xr=(1200,0):=by
 rw [Zb3,if_neg (by simp [Zlf]),Zgu,Zic]
 decide +kernel
end Go.Azalai
namespace Go.Proofs.YtiigiflofnjilaaGreat
open Go Go.Sx Go.Azalai
theorem UJ (a b:Int):Ct Tryz.prog 43 [I a,I b] (.agg (Zd ⟨a,b⟩)):=by
 refine t43.1 (by simp [KFR,KFL,KF]) (by simp [Zd,KFL,KF]) ?_
 dsimp only [c43,r43,go_sem,rA,rM,rS]
 rfl
theorem u119 {args:List SV} {res:SV} (ka:KFL args) (kr:KF res) (h:sx Tryz.prog Y0 0 c119 (st0 args 16) (ZpG r119 res)) (hA:Nat.ble args.length 16=true:=by rfl):Ct Tryz.prog 119 args res:=WE Tryz.func119 rfl b119 ZxW ZxL n119 (Nat.le_of_ble_eq_true hA) ka kr h
theorem u73 {args:List SV} {res:SV} (ka:KFL args) (kr:KF res) (h:sx Tryz.prog Y0 0 c73 (st0 args 31) (ZpG r73 res)) (hA:Nat.ble args.length 31=true:=by rfl):Ct Tryz.prog 73 args res:=WE Tryz.func73 rfl b73 Zzq ZA2 n73 (Nat.le_of_ble_eq_true hA) ka kr h
theorem u74 {args:List SV} {res:SV} (ka:KFL args) (kr:KF res) (h:sx Tryz.prog Y0 0 c74 (st0 args 11) (ZpG r74 res)) (hA:Nat.ble args.length 11=true:=by rfl):Ct Tryz.prog 74 args res:=WE Tryz.func74 rfl b74 ZyO ZA5 n74 (Nat.le_of_ble_eq_true hA) ka kr h
theorem Zjw (a b c:Int):Ct Tryz.prog 119 [I a,I b,I c] (.agg (Zm ⟨a,b,⟨c,c⟩,[⟨⟨0,0⟩,⟨99,99⟩⟩]⟩)):=by
 refine u119 (by simp [KFR,KFL,KF]) (by simp [Zm,Zg,Zd,KFR,KFL,KF]) ?_
 dsimp only [c119,r119,go_sem,rA,rM,rS]
 repeat (refine call (UJ _ _) ?_;dsimp only [Zd,go_sem,rA,rM,rS])
 exact ⟨_,rfl,VU (Zq Xs.rfl (Zq Xs.rfl (Zq Xs.rfl (Zq Xs.rfl (Zq ZcN Zdu)))))⟩
theorem Zhe (an sl:Int) (legs:List Int) (c:Bool):Ct Tryz.prog 74 [I an,I sl,.sl c 1 (legs.map Zo)] (.agg (Zy ⟨legs,an,sl⟩)):=by
 refine u74 (by simp [Zo,Za,KFL,KF]) (by simp [Zy,Zo,Za,KFL,KF]) ?_
 dsimp only [c74,r74,go_sem,rA,rM,rS]
 exact ⟨_,rfl,VU (Zq ZcN Zdu)⟩
theorem Vl:Ct Tryz.prog 73 [] (.agg (Zn Xr)):=by
 refine u73 (by simp [KFR,KFL,KF]) (by simp [Zn,Zh,Ze,Zm,Zg,Zd,Zo,Xr,KFR,KFL,KF]) ?_
 dsimp only [c73,r73,go_sem,rA,rM,rS]
 repeat (first | (refine call (UJ _ _) ?_;dsimp only [Zd,go_sem,rA,rM,rS]) | (refine call (Zjw _ _ _) ?_;dsimp only [Zm,go_sem,rA,rM,rS]))
 exact ⟨_,rfl,VU (Zq ZcN (Zq ZcN (Zq Xs.rfl (Zq Xs.rfl (Zq Xs.rfl (Zq Xs.rfl (Zq Xs.rfl (Zq Xs.rfl (Zq Xs.rfl (Zq Xs.rfl (Zq Xs.rfl (Zq Xs.rfl (Zq Xs.rfl (Zq Xs.rfl (Zq Xs.rfl (Zq Xs.rfl (Zq Xs.rfl (Zq Xs.rfl (Zq Xs.rfl (Zq Xs.rfl (Zq Xs.rfl (Zq Xs.rfl (Zq Xs.rfl (Zq Xs.rfl (Zq Xs.rfl (Zq Xs.rfl (Zq Xs.rfl (Zq Xs.rfl (Zq Xs.rfl (Zq Xs.rfl (Zq Xs.rfl (Zq Xs.rfl (Zq Xs.rfl (Zq Xs.rfl (Zq Xs.rfl (Zq Xs.rfl (Zq (ZuN ⟨Zq Xs.rfl (Zq Xs.rfl (Zq Xs.rfl (Zq Xs.rfl (Zq ZcN (Zq ZcN Zdu))))),rfl,trivial⟩) Zdu)))))))))))))))))))))))))))))))))))))⟩
def c3:SC:=(sr1 [
 o1 2 (.box (.t 0) 0 34),
 o1 3 (.box (.t 1) 0 37),
 o1 4 (.mv (.c (.bool false)))]
 (.seq (sr1 [
 o1 15 (lt 2 37),
 o1 16 (.call 12 [.t 15]),
 m1 17 16,
 g1 18 17 false (ao 3 0),
 g1 19 17 false (lf 18 1),
 g1 20 17 false (.len (.t 19)),
 g1 21 17 false (.bin .gtr (.t 20) (cn 40)),
 o1 22 (.pick (.t 17) (.c (.bool true)) (.t 21))]
 (.cond (.t 22)
 (sr1 [
  o1 4 (.mv (.c (.bool true)))]
  .ret)
 .skip))
 (.seq (.regd [0,1,2,3,4,5,6] [
 .op (o1 23 (lt 2 37)),
 .op (p1 24 (.call 13 [.t 23]) [0]),
 .op (o1 25 (lt 3 3))] 2 2 [
 o1 5 (.alloc zv0 34),
 o1 6 (.alloc [.slice none 0 0,.int .i64 0,.int .i64 0] 37),
 ⟨none,.st (.t 5) (.t 24) 37,none,[0,1,3,4]⟩,
 ⟨none,.st (.t 6) (.t 25) 3,none,[0,1,2,3,4,5]⟩])
 (sr1 [
 o1 26 (.bsl 1 3 []),
 o1 27 (ao 3 0),
 o1 28 (lf 27 1),
 o1 29 (.app 1 8 3 (.t 26) (.t 28)),
 o1 30 (ao 6 0),
 ⟨none,.st (.t 30) (.t 29) 1,none,[]⟩]
 (sr1 [
 o1 32 (lt 5 37),
 o1 33 (lt 6 3),
 o1 34 (.call 14 [.t 32,.t 33]),
 m1 31 34,
 o1 35 (.ext (.t 31) 0),
 o1 36 (.ext (.t 31) 1),
 o1 37 (.ext (.t 31) 2),
 o1 38 (.ext (.t 31) 3),
 m1 7 35,
 m1 8 36,
 m1 9 37,
 m1 10 38]
 (sr1 [
 o1 40 (lt 2 37),
 o1 41 (lt 3 3),
 o1 42 (.call 15 [.t 40,.t 41]),
 m1 39 42,
 o1 43 (.ext (.t 39) 0),
 o1 44 (.ext (.t 39) 1),
 o1 45 (.ext (.t 39) 2),
 o1 46 (.ext (.t 39) 3),
 m1 11 43,
 m1 12 44,
 m1 13 45,
 m1 14 46]
 (.seq (.regd [0,1,2,3,4,5,6,7,8,9,10,11,12,13,14,15,16,17,18,19,20,21,22,23,24,25,26,27,28,29,30,31,32,33,34,35] [
 .op (o1 47 (lt 5 37)),
 .op (p1 48 (.call 16 [.t 47]) [0]),
 .op (o1 49 (lt 2 37)),
 .op (p1 50 (.call 17 [.t 49]) [1,2]),
 .op (p1 51 (.bin .eql (.t 48) (.t 50)) [1,3]),
 .op (p1 52 (.mv (.t 51)) [3,4]),
 .op (q1 53 52 true (.mv (.t 7)) [5]),
 .op (q1 54 52 true (.mv (.t 11)) [5]),
 .op (q1 55 52 true (.bin .eql (.t 53) (.t 54)) [5,6,7]),
 .op (p1 56 (.pick (.t 52) (.t 55) (.c (.bool false))) [5,8]),
 .op (p1 57 (.mv (.t 56)) [5,9]),
 .op (q1 58 57 true (.mv (.t 8)) [10]),
 .op (q1 59 57 true (.mv (.t 12)) [10]),
 .op (q1 60 57 true (.bin .eql (.t 58) (.t 59)) [10,11,12]),
 .op (p1 61 (.pick (.t 57) (.t 60) (.c (.bool false))) [10,13]),
 .op (p1 62 (.mv (.t 61)) [10,14]),
 .op (q1 63 62 true (.mv (.t 9)) [15]),
 .op (q1 64 62 true (.mv (.t 13)) [15]),
 .op (q1 65 62 true (.bin .eql (.t 63) (.t 64)) [15,16,17]),
 .op (p1 66 (.pick (.t 62) (.t 65) (.c (.bool false))) [15,18]),
 .op (p1 67 (.mv (.t 66)) [15,19]),
 .op (q1 68 67 true (.mv (.t 10)) [20]),
 .op (q1 69 67 true (.mv (.t 14)) [20]),
 .op (q1 70 67 true (.bin .eql (.t 68) (.t 69)) [20,21,22]),
 .op (p1 71 (.pick (.t 67) (.t 70) (.c (.bool false))) [20,23]),
 .op (p1 72 (.mv (.t 71)) [20,24]),
 .op (q1 73 72 true (lt 5 37) [25]),
 .op (q1 74 72 true (lt 2 37) [25]),
 .op (q1 75 72 true (.call 18 [.t 73,.t 74]) [25,26,27]),
 .op (p1 76 (.pick (.t 72) (.t 75) (.c (.bool false))) [25,28]),
 .op (p1 77 (.mv (.t 76)) [28,29]),
 .op (q1 78 77 true (lt 6 3) [30]),
 .op (q1 79 77 true (lt 3 3) [30]),
 .op (q1 80 77 true (.call 19 [.t 78,.t 79]) [30,31,32]),
 .op (p1 81 (.pick (.t 77) (.t 80) (.c (.bool false))) [30,33]),
 .op (p1 4 (.mv (.t 81)) [0,1,2,3,4,5,6,7,8,9,10,11,12,13,14,15,16,17,18,19,20,21,22,23,24,25,26,27,28,29,30,31,32,33,34])] 0 0 [
])
 .ret)))))))
def r3:List RV:=[.tmp 4]
theorem n3:Tryz.f3.ntmps=82:=by kernel_rfl
theorem b3:YI Tryz.prog 3=true:=by kernel_rfl
theorem t3:Qt1 Tryz.prog 3 c3 r3 82:=Z8 Tryz.func3 rfl b3 (by kernel_rfl) (by kernel_rfl) n3
theorem Zhi (s:Season) (hs:SmallS s):Ct Tryz.prog 17 [.agg (Zn s)] (I (if Zt s=true then 0 else 90)):=by
 refine t17.1 (by simp [Zn,Zh,Ze,Zm,Zg,Zd,Zo,Za,KFL,KF]) (by simp [KFL,KF]) ?_
 dsimp only [c17,r17,Zn,go_sem,rA,rM,rS]
 refine call (Zk2 s hs) ?_
 dsimp only [go_sem,rA,rM,rS]
 refine br ?_ ?_
 . intro h
   dsimp only [go_sem,rA,rM,rS]
   simp at h
   simp [h]
 . intro h
   dsimp only [go_sem,rA,rM,rS]
   simp at h
   simp [h]
end Go.Proofs.YtiigiflofnjilaaGreat
namespace Go.Azalai
open Go.Sx
def WD (s:Season) (p:Plan):Bool:=!UX s && Zt s && decide (p.legs.length<=40) && YM s p && decide (s.till<=2000)
end Go.Azalai
namespace Go.Proofs.YtiigiflofnjilaaGreat
open Go Go.Sx Go.Azalai
structure ReadyS (s:Season) (p:Plan):Prop where
 great:UX s=false
 ok:OkS s
 legs:p.legs.length<=40
 plan:YM s p=true
 till:s.till<=2000
theorem Zie {s:Season} {p:Plan} (h:WD s p=true):ReadyS s p:=by
 simp only [WD,Bool.and_eq_true,Bool.not_eq_true',decide_eq_true_eq] at h
 obtain ⟨⟨⟨⟨h1,h2⟩,h3⟩,h4⟩,h5⟩:=h
 exact ⟨h1,⟨ZbI h1,h2⟩,h3,h4,h5⟩
theorem ZqX (s:Season) (p:Plan):Ct Tryz.prog 31 [.agg (Zn s),.agg (Zy p)] (B (WD s p)):=by
 refine t31.1 (by simp [Zn,Zy,Zh,Ze,Zm,Zg,Zd,Zo,Za,KFL,KF]) (by simp [KFL,KF]) ?_
 dsimp only [c31,r31,Zn,Zy,go_sem,rA,rM,rS]
 refine call (Zkq s) ?_
 dsimp only [go_sem,rA,rM,rS]
 cases h:UX s
 case true =>
  rw [show WD s p=false from by simp [WD,h]]
  repeat (refine U7 (by decide) ?_;dsimp only [go_sem,rA,rM,rS])
 have hs:=ZbI h
 refine Y1 rfl ?_
 dsimp only [go_sem,rA,rM,rS]
 refine Y1 rfl ?_
 dsimp only [go_sem,rA,rM,rS]
 refine call (Zhi s hs) ?_
 dsimp only [go_sem,rA,rM,rS]
 refine Y1 rfl ?_
 dsimp only [go_sem,rA,rM,rS]
 cases h2:Zt s
 case false =>
  rw [show WD s p=false from by simp [WD,h,h2]]
  simp only [Bool.false_eq_true,if_false,Bool.not_false,Bool.true_and,show ((90:Int) == 0)=false from rfl]
  repeat (refine U7 (by decide) ?_;dsimp only [go_sem,rA,rM,rS])
 simp only [if_true,Bool.not_false,Bool.true_and,show ((0:Int) == 0)=true from rfl]
 iterate 4 (refine Y1 rfl ?_;dsimp only [go_sem,rA,rM,rS])
 simp only [List.length_map]
 by_cases h3:p.legs.length<=40
 case neg =>
  rw [show WD s p=false from by simp [WD,h,h2,h3]]
  have:decide ((p.legs.length:Int)<=40)=false:=by simp;omega
  simp only [this,Bool.and_false]
  repeat (refine U7 (by decide) ?_;dsimp only [go_sem,rA,rM,rS])
 have e3:decide ((p.legs.length:Int)<=40)=true:=by simp;omega
 simp only [e3,Bool.and_true]
 iterate 2 (refine Y1 rfl ?_;dsimp only [go_sem,rA,rM,rS])
 refine Y1 rfl ?_
 dsimp only [go_sem,rA,rM,rS]
 refine call (Zu6 s ⟨hs,h2⟩ p (by omega)) ?_
 dsimp only [go_sem,rA,rM,rS]
 cases h4:YM s p
 case false =>
  rw [show WD s p=false from by simp [WD,h4]]
  simp only [Bool.and_false]
  repeat (refine U7 (by decide) ?_;dsimp only [go_sem,rA,rM,rS])
 simp only [Bool.and_true]
 iterate 3 (refine Y1 rfl ?_;dsimp only [go_sem,rA,rM,rS])
 simp [WD,h,h2,h3,h4]
theorem ZrJ:Ct Tryz.prog 30 [] (B true):=by
 have h1:=YJ Xr Y9 ⟨[0,1],2,2⟩ (by decide)
 have h2:=YJ Xr Y9 ⟨[0,1],3,2⟩ (by decide)
 have h3:=YJ Xr Y9 ⟨[2],10,1⟩ (by decide)
 have h4:=Zmd Xr Y9 ⟨[0,1],2,2⟩ (by decide)
 have h5:=Znk Xr Y9 ⟨[0,1],2,2⟩ (by decide) 0
 have h6:=ZtJ Xr Y9
 have h7:=Zna Xr Y9
 rw [Zw1] at h1
 rw [ZuA] at h2
 rw [ZxH] at h3
 rw [Zia] at h4
 rw [Zir] at h5
 rw [ZmJ] at h6
 rw [ZhI] at h7
 refine t30.1 (by simp [KFR,KFL,KF]) (by simp [KFL,KF]) ?_
 dsimp only [c30,r30,go_sem,rA,rM,rS]
 refine call Vl ?_
 dsimp only [go_sem,rA,rM,rS]
 refine call (Zhe 2 2 [0,1] true) ?_
 dsimp only [go_sem,rA,rM,rS]
 refine call h1 ?_
 dsimp only [Xk,go_sem,rA,rM,rS]
 refine call Vl ?_
 dsimp only [go_sem,rA,rM,rS]
 refine call (Zhe 3 2 [0,1] true) ?_
 dsimp only [go_sem,rA,rM,rS]
 refine call h2 ?_
 dsimp only [Xk,go_sem,rA,rM,rS]
 refine call Vl ?_
 dsimp only [go_sem,rA,rM,rS]
 refine call (Zhe 10 1 [2] true) ?_
 dsimp only [go_sem,rA,rM,rS]
 refine call h3 ?_
 dsimp only [Xk,go_sem,rA,rM,rS]
 refine call Vl ?_
 dsimp only [go_sem,rA,rM,rS]
 refine call (Zhe 2 2 [0,1] true) ?_
 dsimp only [go_sem,rA,rM,rS]
 refine call h4 ?_
 dsimp only [go_sem,rA,rM,rS]
 refine call Vl ?_
 dsimp only [go_sem,rA,rM,rS]
 refine call (Zhe 2 2 [0,1] true) ?_
 dsimp only [go_sem,rA,rM,rS]
 refine call h5 ?_
 dsimp only [Zms,go_sem,rA,rM,rS]
 refine call Vl ?_
 dsimp only [go_sem,rA,rM,rS]
 refine call h6 ?_
 dsimp only [ZvH,Zy,go_sem,rA,rM,rS]
 refine call Vl ?_
 dsimp only [go_sem,rA,rM,rS]
 refine call h7 ?_
 dsimp only [go_sem,rA,rM,rS]
 repeat (first | (refine gb ?_;dsimp only [go_sem,rA,rM,rS]) | (refine call (Zet [⟨1,2,100000⟩] [⟨1,2,100000⟩] (by decide) (by decide) false true) ?_;dsimp only [go_sem,rA,rM,rS]) | (refine call (Zhe 1 4 [0,1] true) ?_;dsimp only [Zy,go_sem,rA,rM,rS]) | (refine call (Zfk ⟨[0,1],1,4⟩ ⟨[0,1],1,4⟩ (by decide) (by decide)) ?_;dsimp only [go_sem,rA,rM,rS]))
 simp
def c33:SC:=(sr1 [
 o1 4 (.mv (.c (.int .u32 0)))]
 (.seq (sr1 [
 m1 5 0,
 o1 6 (.len (.t 5)),
 o1 7 (.bin .eql (.t 6) (cn 0))]
 (.cond (.t 7)
 (sr1 [
  o1 4 (.mv (.c (.int .u32 0)))]
  .ret)
 .skip))
 (sr1 [
 m1 8 0,
 m1 9 1,
 m1 10 0,
 o1 11 (.len (.t 10)),
 o1 12 (.div .rem (.t 9) (.t 11)),
 o1 13 (.ixs (.t 8) (.t 12) 1),
 o1 14 (lf 13 1),
 m1 4 14]
 .ret)))
def r33:List RV:=[.tmp 4]
theorem t33:Qt1 Tryz.prog 33 c33 r33 15:=Z8 Tryz.func33 rfl (by kernel_rfl) (by kernel_rfl) (by kernel_rfl) (by kernel_rfl)
theorem okLand_scened {s:Season} {x:Scene} (h:ZA s.land=true) (hx:ZG s.land.wells.length x=true):ZA (Y8 s x)=true:=by
 simp only [ZG,Bool.and_eq_true,decide_eq_true_eq,List.all_eq_true] at hx
 have hy:x.yields.length=s.land.wells.length:=by omega
 have hl:(Y8 s x).wells.length=s.land.wells.length:=Ws hy
 simp only [ZA,Bool.and_eq_true,List.all_eq_true] at h ⊢
 rw [hl]
 obtain ⟨⟨h1,h2⟩,h3⟩:=h
 refine ⟨⟨h1,fun w hw=>?_⟩,h3⟩
 obtain ⟨i,hi,rfl⟩:=List.getElem_of_mem hw
 rw [hl] at hi
 have e:(Y8 s x).wells[i]'(by omega)={ s.land.wells[i] with yld:=x.yields[i]'(by omega) }:=ZdA hi (by omega) (by rw [Ws hy];exact hi)
 rw [e]
 have a1:=h2 _ (List.getElem_mem hi)
 have a2:=hx.1.2 _ (List.getElem_mem (show i < x.yields.length by omega))
 simp only [Yy,Bool.and_eq_true] at a1 ⊢
 exact ⟨⟨⟨⟨⟨⟨a1.1.1.1.1.1.1,a1.1.1.1.1.1.2⟩,a1.1.1.1.1.2⟩,a2⟩,a1.1.1.2⟩,a1.1.2⟩,a1.2⟩
end Go.Proofs.YtiigiflofnjilaaGreat
namespace Go.Azalai
open Go.Sx Go.Proofs.YtiigiflofnjilaaGreat
def Zym (a r:Camel):Prop:=(r.water.lo<=a.water.lo/\a.water.hi<=r.water.hi)/\(r.fat.lo<=a.fat.lo/\a.fat.hi<=r.fat.hi)/\r.sore.lo<=a.sore.lo/\a.sore.hi<=r.sore.hi
theorem Zym.rfl {a:Camel}:Zym a a:=⟨⟨Int.le_refl _,Int.le_refl _⟩,⟨Int.le_refl _,Int.le_refl _⟩,Int.le_refl _,Int.le_refl _⟩
theorem Zym.trans {a b c:Camel} (h:Zym a b) (h':Zym b c):Zym a c:=by
 obtain ⟨⟨a1,a2⟩,⟨a3,a4⟩,a5,a6⟩:=h
 obtain ⟨⟨b1,b2⟩,⟨b3,b4⟩,b5,b6⟩:=h'
 exact ⟨⟨by first | omega | (simp only;omega),by first | omega | (simp only;omega)⟩,⟨by first | omega | (simp only;omega),by first | omega | (simp only;omega)⟩,by first | omega | (simp only;omega),by first | omega | (simp only;omega)⟩
theorem ZmK {b:Breed} {c:Camel} {m:March} (hb:Zz b=true) (hc:Zv b c=true) (he:(Yr b c m).2.2=0):ZZ m=true/\(Yr b c m).1=(Ya b c m).1/\(Yr b c m).2.1=(Ya b c m).2:=by
 unfold Yr at he ⊢
 rw [if_neg (by rw [Cm.errC_0.2 ⟨hb,hc⟩];simp)] at he ⊢
 split at he
 . simp at he
 . rename_i h
   rw [if_neg h]
   split at he
   . simp at he
   . rename_i h2
     rw [if_neg h2]
     exact ⟨by simpa using h,rfl,rfl⟩
theorem ZsD {s:Season} {x:Scene} {st:Stop} {wn:Nat} (hl:ZA s.land=true) (hx:ZG s.land.wells.length x=true) (hw:wn < s.land.wells.length) (hst:st.well=wn) (hd:0<=st.arrives.lo/\st.arrives.lo<=100000) :
 Zar s x st=min (s.land.wells[wn]).room ((s.land.wells[wn]).has.lo+(st.arrives.lo - 1 - -1) * ((x.yields[wn]?).getD ⟨0,0⟩).lo):=by
 have hy:x.yields.length=s.land.wells.length:=by simp only [ZG,Bool.and_eq_true,decide_eq_true_eq] at hx;omega
 have hlen:(Y8 s x).wells.length=s.land.wells.length:=Ws hy
 have e:(Y8 s x).wells[wn]'(by first | omega | (simp only;omega))={ s.land.wells[wn] with yld:=x.yields[wn]'(by first | omega | (simp only;omega)) }:=ZdA hw (by first | omega | (simp only;omega)) (by rw [Ws hy];exact hw)
 unfold Zar
 rw [hst,Zmc (okLand_scened hl hx) (by first | omega | (simp only;omega)) hd (by simp) rfl,e,List.getElem?_eq_getElem (by first | omega | (simp only;omega))]
 rfl
end Go.Azalai
namespace Go.Proofs.YtiigiflofnjilaaGreat
open Go Go.Sx
end Go.Proofs.YtiigiflofnjilaaGreat
namespace Go.Azalai
structure Tbd (t:Truth):Prop where
 water:0<=t.water/\t.water<=100000000000
 fat:0<=t.fat/\t.fat<=100000000000
 sore:0<=t.sore/\t.sore<=1000000000
end Go.Azalai
namespace Go.Proofs.YtiigiflofnjilaaGreat
open Go Go.Sx Go.Azalai
theorem at_ok (l:List W32) (i:Nat) (hl:l.length<=9223372036854775807) (hi:i<=1000000) (c:Bool):Ct Tryz.prog 33 [.sl c 1 (l.map VR),I i] (U32 (atF l i)):=by
 refine t33.1 (by simp [Za,VR,U32,KFL,KF]) (by simp [U32,KFL,KF]) ?_
 dsimp only [c33,r33,go_sem,rA,rM,rS]
 simp only [List.length_map]
 by_cases h0:l.length=0
 . refine Zu (by simpa using h0) ?_
   dsimp only [go_sem,rA,rM,rS]
   have:l=[]:=List.eq_nil_of_length_eq_zero h0
   subst this
   rfl
 refine Zx (by simpa using h0) ?_
 dsimp only [go_sem,rA,rM,rS]
 refine Zd2 (by simpa using h0) ?_
 dsimp only [go_sem,rA,rM,rS]
 have hlt:i % l.length < l.length:=Nat.mod_lt _ (by omega)
 simp only [List.length_map,Zf2]
 rw [show ((i:Int)).tmod (l.length:Int)=((i % l.length:Nat):Int) from by rw [Int.tmod_eq_emod_of_nonneg (by omega)];rfl]
 refine Zr (i % l.length) hlt rfl ?_
 dsimp only [VR,U32,go_sem,rA,rM,rS]
 unfold atF
 rw [List.getElem?_eq_getElem hlt]
theorem ZaM (l:List W32) (i:Int) (k:Nat) (h:i=k) (hl:l.length<=9223372036854775807) (hi:k<=1000000) (c:Bool):Ct Tryz.prog 33 [.sl c 1 (l.map VR),I i] (U32 (atF l k)):=by
 rw [h];exact at_ok l k hl hi c
end Go.Proofs.YtiigiflofnjilaaGreat
namespace Go.Sx
open Go
theorem Zve {l:List Nat} {n:Nat} (hn:Nat.beq l.length n=true) (hi:ZaG l=true):∀ i,i < n->∀ j,j < n->rho l i=rho l j->i=j:=fun i hi' j hj e=>by
 have hn:=Nat.eq_of_beq_eq_true hn
 rw [W0 l i (by omega),W0 l j (by omega)] at e
 have hp:=List.pairwise_iff_getElem.1 (XI hi)
 rcases Nat.lt_trichotomy i j with h | h | h
 . exact absurd e (hp i j (by omega) (by omega) h)
 . exact h
 . exact absurd e.symm (hp j i (by omega) (by omega) h)
theorem ZhU {σ σ':St} (l:List Nat) (hf:mtF (rho l) σ'.n [] σ'.fr σ.fr) (hp:mtP (rho l) σ'.hp σ.hp σ'.n σ'.n) (hb:hpb σ'.n σ'.hp) (hn:Nat.beq l.length σ'.n=true) (hi:ZaG l=true) (hN:Nat.beq σ'.N σ.N=true):Ent 0 σ σ' :=
 ent (rho l) hf hp hb (Zve hn hi) hN rfl (fun i h=>absurd h (Nat.not_lt_zero i))
theorem ZtP {P:Program} {Y:Hd} {r:KT} {σ : St} {K:RK}:rxT P Y [] r σ K=r σ K:=rfl
theorem Zm9 {P:Program} {Y:Hd} {x:Ins} {l:List Ins} {r:KT} {σ : St} {K:RK}:rxT P Y (x :: l) r σ K=st1 P Y x σ (rxT P Y l r) K:=rfl
attribute [go_sem] ZtP Zm9
end Go.Sx
namespace Go.Proofs.YtiigiflofnjilaaGreat
open Go Go.Sx
def ZAJ:Ins:=o1 67 (.ld (.t 3) 37 true)
def Zzx:Ins:=⟨some 68,.callm 13 [.t 67],none,[0]⟩
def ZAq:Ins:=o1 69 (.ld (.t 3) 37 true)
def ZzL:Ins:=⟨some 70,.callm 13 [.t 69],none,[1,2]⟩
def ZBa:Ins:=o1 71 (.ld (.t 3) 37 true)
def ZAY:Ins:=⟨some 72,.callm 13 [.t 71],none,[3,4]⟩
def ZzT:Ins:=o1 12 (.alloc zv0 34)
def ZA1:Ins:=o1 13 (.alloc zv0 34)
def ZzS:Ins:=o1 14 (.alloc zv0 34)
def Zy1:Ins:=⟨none,.st (.t 12) (.t 68) 37,none,[0,1,5,6,7,8]⟩
def ZkF:Ins:=⟨none,.st (.t 13) (.t 70) 37,none,[0,1,2,3,6,7,8,9]⟩
def Zmn:Ins:=⟨none,.st (.t 14) (.t 72) 37,none,[0,1,2,3,4,5,6,7,8,9,10]⟩
attribute [go_sem] ZAJ Zzx ZAq ZzL ZBa ZAY ZzT ZA1 ZzS Zy1 ZkF Zmn
def e9a:List Ins:=[ZAJ,Zzx,ZAq,ZzL,ZBa,ZAY,ZzT,ZA1,ZzS,Zy1,ZkF,Zmn]
def ce9:SC:=(sr1 [
 o1 3 (.box (.t 0) 0 34),
 o1 4 (.box (.t 1) 0 37),
 o1 6 (.mv (.c (.bool false)))]
 (sr1 [
 o1 40 (.call 30 []),
 m1 7 40]
 (.seq (sr1 [
 m1 41 7,
 o1 42 (.un .not (.t 41))]
 (.cond (.t 42)
 (sr1 [
  o1 6 (.mv (.c (.bool false)))]
  .ret)
 .skip))
 (.seq (sr1 [
 o1 43 (lt 3 37),
 o1 44 (lt 4 3),
 o1 45 (.call 31 [.t 43,.t 44]),
 o1 46 (.un .not (.t 45))]
 (.cond (.t 46)
 (sr1 [
  m1 47 7,
  m1 6 47]
  .ret)
 .skip))
 (sr1 [
 o1 49 (lt 3 37),
 o1 50 (lt 4 3),
 o1 51 (.call 14 [.t 49,.t 50]),
 m1 48 51,
 o1 52 (.ext (.t 48) 0),
 o1 53 (.ext (.t 48) 1),
 o1 54 (.ext (.t 48) 2),
 o1 55 (.ext (.t 48) 3),
 m1 8 52,
 m1 9 53,
 m1 10 54,
 m1 11 55]
 (.seq (sr1 [
 m1 56 11,
 o1 57 (.bin .neq (.t 56) (cn 0)),
 m1 58 57,
 g1 59 58 false (.mv (.t 8)),
 g1 60 58 false (.bin .neq (.t 59) (.c (.int .u8 0))),
 o1 61 (.pick (.t 58) (.c (.bool true)) (.t 60))]
 (.cond (.t 61)
 (sr1 [
  m1 62 7,
  m1 63 62,
  g1 64 63 true (.mv (.t 11)),
  g1 65 63 true (.bin .eql (.t 64) (cn 0)),
  o1 66 (.pick (.t 63) (.t 65) (.c (.bool false))),
  m1 6 66]
  .ret)
 .skip))
 (.seq (.gh (.regl e9a))
 (.seq (.regd [0,1,2,3,4,5,6,7,8,9,10] [
 .op (o1 73 (ao 12 30)),
 .op (p1 74 (lf 73 1) [0]),
 .op (m1 75 2),
 .op (p1 76 (.call 33 [.t 75,.c (.int .i64 0)]) [2]),
 .op (p1 77 (.conv .i64 (.t 76)) [3]),
 .op (o1 78 (ao 3 30)),
 .op (p1 79 (lf 78 1) [5]),
 .op (p1 80 (.div .rem (.t 77) (.t 79)) [4,6]),
 .op (p1 81 (.bin .sub (.t 74) (.t 80)) [1,7]),
 .op (p1 82 (ao 12 30) [0,1,2,3,4,5,6,7,8])] 0 1 [
 ⟨none,.st (.t 82) (.t 81) 1,none,[0,1,2,3,4,5,6,7,8,9]⟩])
 (.seq (sr1 [
 o1 83 (ao 13 0),
 o1 84 (ao 83 0),
 o1 85 (lf 84 1),
 o1 86 (.len (.t 85)),
 o1 87 (.mv (cn 0))]
 (.block 0 (.loop (sr1 [
  o1 88 (.bin .lss (.t 87) (.t 86))]
  (.seq (.cond (.t 88)
  .skip
  (.exit 0))
  (.seq (.block 1 (sr1 [
   m1 89 87,
   m1 15 89]
   (sr1 [
   o1 90 (ao 13 0),
   o1 91 (ao 90 0),
   o1 92 (lf 91 1),
   m1 93 15,
   o1 94 (.ixs (.t 92) (.t 93) 9),
   m1 16 94]
   (.seq (.regd [0,1,2,3,4,5,6,7,8,9,10,11,12,13,14,15,16] [
   .op (m1 95 2),
   .op (m1 96 15),
   .op (p1 97 (.call 33 [.t 95,.t 96]) [0,1]),
   .op (p1 98 (.conv .i64 (.t 97)) [2]),
   .op (m1 99 16),
   .op (p1 100 (.nilc (.t 99)) [4]),
   .op (p1 101 (ao 100 5) [5]),
   .op (p1 102 (lf 101 1) [6]),
   .op (m1 103 16),
   .op (p1 104 (.nilc (.t 103)) [8]),
   .op (p1 105 (ao 104 6) [9]),
   .op (p1 106 (ao 105 1) [10]),
   .op (p1 107 (lf 106 1) [11]),
   .op (p1 108 (.bin .sub (.t 102) (.t 107)) [7,12]),
   .op (p1 109 (.bin .add (.t 108) (cn 1)) [13]),
   .op (p1 110 (.div .rem (.t 98) (.t 109)) [3,14]),
   .op (p1 17 (.mv (.t 110)) [0,1,2,3,4,5,6,7,8,9,10,11,12,13,14,15])] 0 0 [
])
 (.seq (.regd [0,1,2,3,4,5,6,7,8,9,10,11,12,13,14,15,16,17,18] [
 .op (m1 111 16),
 .op (m1 112 16),
 .op (p1 113 (.nilc (.t 112)) [1]),
 .op (p1 114 (ao 113 6) [2]),
 .op (p1 115 (ao 114 0) [3]),
 .op (p1 116 (lf 115 1) [4]),
 .op (m1 117 17),
 .op (p1 118 (.bin .add (.t 116) (.t 117)) [5,6]),
 .op (m1 119 16),
 .op (p1 120 (.nilc (.t 119)) [8]),
 .op (p1 121 (ao 120 6) [9]),
 .op (p1 122 (ao 121 1) [10]),
 .op (p1 123 (lf 122 1) [11]),
 .op (m1 124 17),
 .op (p1 125 (.bin .add (.t 123) (.t 124)) [12,13]),
 .op (p1 126 (.call 43 [.t 118,.t 125]) [7,14]),
 .op (p1 127 (.nilc (.t 111)) [0,1,2,3,4,5,6,7,8,9,10,11,12,13,14,15]),
 .op (p1 128 (ao 127 6) [0,1,2,3,4,5,6,7,8,9,10,11,12,13,14,15,16])] 0 1 [
 ⟨none,.st (.t 128) (.t 126) 2,none,[0,1,2,3,4,5,6,7,8,9,10,11,12,13,14,15,17]⟩])
 (sr1 [
 o1 129 (ao 13 36),
 o1 130 (lf 129 1),
 o1 131 (.len (.t 130)),
 o1 132 (.mv (cn 0))]
 (.block 2 (.loop (sr1 [
  o1 133 (.bin .lss (.t 132) (.t 131))]
  (.seq (.cond (.t 133)
  .skip
  (.exit 2))
  (.seq (.block 3 (sr1 [
   m1 134 132,
   m1 18 134]
   (sr1 [
   o1 135 (ao 13 36),
   o1 136 (lf 135 1),
   m1 137 18,
   o1 138 (.ixs (.t 136) (.t 137) 6),
   o1 139 (ao 138 4),
   o1 140 (lf 139 1),
   m1 141 15,
   o1 142 (.ixs (.t 140) (.t 141) 2),
   m1 19 142]
   (.seq (.regd [0,1,2,3,4,5,6,7,8,9,10,11,12,13] [
   .op (m1 143 2),
   .op (m1 144 15),
   .op (m1 145 18),
   .op (p1 146 (.bin .add (.t 144) (.t 145)) [1,2]),
   .op (p1 147 (.call 33 [.t 143,.t 146]) [0,3]),
   .op (p1 148 (.conv .i64 (.t 147)) [4]),
   .op (m1 149 19),
   .op (p1 150 (.nilc (.t 149)) [6]),
   .op (p1 151 (ao 150 1) [7]),
   .op (p1 152 (lf 151 1) [8]),
   .op (p1 153 (.bin .sub (cn 10000000) (.t 152)) [9]),
   .op (p1 154 (.bin .add (.t 153) (cn 1)) [10]),
   .op (p1 155 (.div .rem (.t 148) (.t 154)) [5,11]),
   .op (p1 20 (.mv (.t 155)) [0,1,2,3,4,5,6,7,8,9,10,11,12])] 0 0 [
])
 (.regd [0,1,2,3,4,5,6,7,8,9,10,11,12,13,14,15] [
 .op (m1 156 19),
 .op (m1 157 19),
 .op (p1 158 (.nilc (.t 157)) [1]),
 .op (p1 159 (ao 158 0) [2]),
 .op (p1 160 (lf 159 1) [3]),
 .op (m1 161 20),
 .op (p1 162 (.bin .add (.t 160) (.t 161)) [4,5]),
 .op (m1 163 19),
 .op (p1 164 (.nilc (.t 163)) [7]),
 .op (p1 165 (ao 164 1) [8]),
 .op (p1 166 (lf 165 1) [9]),
 .op (m1 167 20),
 .op (p1 168 (.bin .add (.t 166) (.t 167)) [10,11]),
 .op (p1 169 (.call 43 [.t 162,.t 168]) [6,12]),
 .op (p1 170 (.nilc (.t 156)) [0,1,2,3,4,5,6,7,8,9,10,11,12,13])] 0 1 [
 ⟨none,.st (.t 170) (.t 169) 2,none,[0,1,2,3,4,5,6,7,8,9,10,11,12,13,14]⟩])))))
 (.reg [
 o1 171 (.bin .add (.t 132) (cn 1)),
 m1 132 171]))))))))))))
 (.reg [
 o1 172 (.bin .add (.t 87) (cn 1)),
 m1 87 172])))))))
 (.seq (sr1 [
 o1 173 (ao 14 36),
 o1 174 (lf 173 1),
 o1 175 (.len (.t 174)),
 m1 21 175]
 (sr1 [
 m1 176 21,
 o1 177 (.bin .gtr (.t 176) (cn 1))]
 (.cond (.t 177)
 (sr1 [
  m1 178 2,
  o1 179 (.call 33 [.t 178,.c (.int .i64 1)]),
  o1 180 (.conv .i64 (.t 179)),
  m1 181 21,
  o1 182 (.div .rem (.t 180) (.t 181)),
  m1 22 182]
  (.regd [0,1,2,3,4,5,6,7,8,9,10,11] [
  .op (o1 183 (ao 14 36)),
  .op (p1 184 (lf 183 1) [0]),
  .op (m1 185 22),
  .op (p1 186 (.sub 6 (.t 184) none (some (.t 185))) [1,2]),
  .op (o1 187 (ao 14 36)),
  .op (p1 188 (lf 187 1) [4]),
  .op (m1 189 22),
  .op (p1 190 (.bin .add (.t 189) (cn 1)) [6]),
  .op (p1 191 (.sub 6 (.t 188) (some (.t 190)) none) [5,7])] 0 0 [
  ⟨some 192,.raw (Go.Op.call { callee:=(Go.Callee.builtin Go.Builtin.append),args:=#[(Go.Operand.tmp 186),(Go.Operand.tmp 191)],argTypes:=#[32,32] }) 32,none,[3,8]⟩,
  ⟨some 193,ao 14 36,none,[0,1,2,3,4,5,6,7,8,9]⟩,
  ⟨none,.st (.t 193) (.t 192) 1,none,[0,1,2,3,4,5,6,7,8,9,10]⟩]))
 .skip)))
 (sr1 [
 o1 194 (lt 4 3),
 o1 23 (.alloc [.slice none 0 0,.int .i64 0,.int .i64 0] 37),
 ⟨none,.st (.t 23) (.t 194) 3,none,[]⟩]
 (.seq (.regd [0,1,2,3,4,5,6,7,8,9,10,11] [
 .op (o1 195 (ao 23 1)),
 .op (p1 196 (lf 195 1) [0]),
 .op (m1 197 2),
 .op (p1 198 (.call 33 [.t 197,.c (.int .i64 2)]) [2]),
 .op (p1 199 (.conv .i64 (.t 198)) [3]),
 .op (o1 200 (ao 4 1)),
 .op (p1 201 (lf 200 1) [5]),
 .op (p1 202 (.bin .add (.t 201) (cn 1)) [6]),
 .op (p1 203 (.div .rem (.t 199) (.t 202)) [4,7]),
 .op (p1 204 (.bin .sub (.t 196) (.t 203)) [1,8]),
 .op (p1 205 (ao 23 1) [0,1,2,3,4,5,6,7,8,9])] 0 1 [
 ⟨none,.st (.t 205) (.t 204) 1,none,[0,1,2,3,4,5,6,7,8,9,10]⟩])
 (.seq (.regd [0,1,2,3,4,5,6,7,8,9,10,11] [
 .op (o1 206 (ao 23 2)),
 .op (p1 207 (lf 206 1) [0]),
 .op (m1 208 2),
 .op (p1 209 (.call 33 [.t 208,.c (.int .i64 3)]) [2]),
 .op (p1 210 (.conv .i64 (.t 209)) [3]),
 .op (o1 211 (ao 4 2)),
 .op (p1 212 (lf 211 1) [5]),
 .op (p1 213 (.bin .add (.t 212) (cn 1)) [6]),
 .op (p1 214 (.div .rem (.t 210) (.t 213)) [4,7]),
 .op (p1 215 (.bin .sub (.t 207) (.t 214)) [1,8]),
 .op (p1 216 (ao 23 2) [0,1,2,3,4,5,6,7,8,9])] 0 1 [
 ⟨none,.st (.t 216) (.t 215) 1,none,[0,1,2,3,4,5,6,7,8,9,10]⟩])
 (sr1 [
 o1 218 (lt 12 37),
 o1 219 (lt 4 3),
 o1 220 (.call 14 [.t 218,.t 219]),
 m1 217 220,
 o1 221 (.ext (.t 217) 0),
 o1 222 (.ext (.t 217) 1),
 o1 223 (.ext (.t 217) 2),
 o1 224 (.ext (.t 217) 3),
 m1 24 221,
 m1 25 222,
 m1 26 223,
 m1 27 224]
 (sr1 [
 o1 226 (lt 13 37),
 o1 227 (lt 4 3),
 o1 228 (.call 14 [.t 226,.t 227]),
 m1 225 228,
 o1 229 (.ext (.t 225) 0),
 o1 230 (.ext (.t 225) 1),
 o1 231 (.ext (.t 225) 2),
 o1 232 (.ext (.t 225) 3),
 m1 28 229,
 m1 29 230,
 m1 30 231,
 m1 31 232]
 (sr1 [
 o1 234 (lt 14 37),
 o1 235 (lt 4 3),
 o1 236 (.call 14 [.t 234,.t 235]),
 m1 233 236,
 o1 237 (.ext (.t 233) 0),
 o1 238 (.ext (.t 233) 1),
 o1 239 (.ext (.t 233) 2),
 o1 240 (.ext (.t 233) 3),
 m1 32 237,
 m1 33 238,
 m1 34 239,
 m1 35 240]
 (sr1 [
 o1 242 (lt 3 37),
 o1 243 (lt 23 3),
 o1 244 (.call 14 [.t 242,.t 243]),
 m1 241 244,
 o1 245 (.ext (.t 241) 0),
 o1 246 (.ext (.t 241) 1),
 o1 247 (.ext (.t 241) 2),
 o1 248 (.ext (.t 241) 3),
 m1 36 245,
 m1 37 246,
 m1 38 247,
 m1 39 248]
 (sr1 [
 m1 249 7,
 m1 250 249,
 g1 251 250 true (.mv (.t 27)),
 g1 252 250 true (.bin .eql (.t 251) (cn 0)),
 o1 253 (.pick (.t 250) (.t 252) (.c (.bool false))),
 m1 254 253,
 g1 255 254 true (.mv (.t 31)),
 g1 256 254 true (.bin .eql (.t 255) (cn 0)),
 o1 257 (.pick (.t 254) (.t 256) (.c (.bool false))),
 m1 258 257,
 g1 259 258 true (.mv (.t 35)),
 g1 260 258 true (.bin .eql (.t 259) (cn 0)),
 o1 261 (.pick (.t 258) (.t 260) (.c (.bool false))),
 m1 262 261,
 g1 263 262 true (.mv (.t 39)),
 g1 264 262 true (.bin .eql (.t 263) (cn 0)),
 o1 265 (.pick (.t 262) (.t 264) (.c (.bool false))),
 m1 266 265,
 g1 267 266 true (.mv (.t 24)),
 g1 268 266 true (.bin .eql (.t 267) (.c (.int .u8 0))),
 o1 269 (.pick (.t 266) (.t 268) (.c (.bool false))),
 m1 270 269,
 g1 271 270 true (.mv (.t 28)),
 g1 272 270 true (.bin .eql (.t 271) (.c (.int .u8 0))),
 o1 273 (.pick (.t 270) (.t 272) (.c (.bool false))),
 m1 274 273,
 g1 275 274 true (.mv (.t 32)),
 g1 276 274 true (.bin .eql (.t 275) (.c (.int .u8 0))),
 o1 277 (.pick (.t 274) (.t 276) (.c (.bool false))),
 m1 278 277,
 g1 279 278 true (.mv (.t 36)),
 g1 280 278 true (.bin .eql (.t 279) (.c (.int .u8 0))),
 o1 281 (.pick (.t 278) (.t 280) (.c (.bool false))),
 m1 6 281]
 .ret))))))))))))))))))
def re9:List RV:=[.tmp 6]
theorem te9:Qt1 Tryz.prog 9 ce9 re9 282:=Z8 Tryz.func9 rfl (by kernel_rfl) (by kernel_rfl) (by kernel_rfl) (by kernel_rfl)
open Go.Azalai
theorem kfS (s:Season):KFL (Zn s)=True:=by simp [Zn,KFL,KF,Za,Ze,Zm,Zg,Zh,Zd,Zo]
theorem mtV {ρ : Nat->Nat} {n:Nat} {s:Season} {w x w' x':SV}:mtL ρ n (Z7 s w x) (Z7 s w' x')=(mtS ρ n w w'/\mtS ρ n x x'):=by
 simp [Z7,mtL,mtB,mtS,KFL,KF,Za,Ze,Zm,Zg,Zh,Zd,Zo]
theorem Zgc {ρ : Nat->Nat} {n:Nat} {s:Season}:mtL ρ n (Zn s) (Zn s)=True:=eq_true (Zc (by rw [kfS];trivial))
theorem ldS {s:Season}:Zwd (Nat.ble 37 (Zn s).length) (Zn s) 0 37=some (.agg (Zn s)):=rfl
theorem rnV {ρ : Nat->Nat} {s:Season} {w x:SV}:rnL ρ (Z7 s w x)=Z7 s (rnS ρ w) (rnS ρ x):=rfl
def zS:List SV:=[.v (.slice none 0 0),.v (.slice none 0 0),.v (.int .i64 0),.v (.int .i64 0),.v (.int .i64 0),.v (.int .i64 0),.v (.int .i64 0),.v (.int .i64 0),.v (.int .i64 0),.v (.int .i64 0),.v (.int .i64 0),.v (.int .i64 0),.v (.int .i64 0),.v (.int .i64 0),.v (.int .i64 0),.v (.int .i64 0),.v (.int .i64 0),.v (.int .i64 0),.v (.int .i64 0),.v (.int .i64 0),.v (.int .i64 0),.v (.int .i64 0),.v (.int .i64 0),.v (.int .i64 0),.v (.int .i64 0),.v (.int .i64 0),.v (.int .i64 0),.v (.bool false),.v (.int .i64 0),.v (.int .i64 0),.v (.int .i64 0),.v (.int .i64 0),.v (.int .i64 0),.v (.int .i64 0),.v (.int .i64 0),.v (.int .i64 0),.v (.slice none 0 0)]
theorem kfZ:KFL zS=True:=by simp [zS,KFL,KF]
theorem mtZ {ρ : Nat->Nat} {n:Nat}:mtL ρ n zS zS=True:=eq_true (Zc (by rw [kfZ];trivial))
theorem mtP {ρ : Nat->Nat} {n:Nat} {p:Plan}:mtL ρ n (Zy p) (Zy p)=True:=eq_true (Zc (by simp [Zy,KFL,KF,Za,Zo]))
theorem ZhD {ρ : Nat->Nat} {n:Nat}:mtL ρ n zS [.v (.slice none 0 0),.v (.slice none 0 0),.v (.int .i64 0),.v (.int .i64 0),.v (.int .i64 0),.v (.int .i64 0),.v (.int .i64 0),.v (.int .i64 0),.v (.int .i64 0),.v (.int .i64 0),.v (.int .i64 0),.v (.int .i64 0),.v (.int .i64 0),.v (.int .i64 0),.v (.int .i64 0),.v (.int .i64 0),.v (.int .i64 0),.v (.int .i64 0),.v (.int .i64 0),.v (.int .i64 0),.v (.int .i64 0),.v (.int .i64 0),.v (.int .i64 0),.v (.int .i64 0),.v (.int .i64 0),.v (.int .i64 0),.v (.int .i64 0),.v (.bool false),.v (.int .i64 0),.v (.int .i64 0),.v (.int .i64 0),.v (.int .i64 0),.v (.int .i64 0),.v (.int .i64 0),.v (.int .i64 0),.v (.int .i64 0),.v (.slice none 0 0)]=True:=mtZ
theorem U6 {s:Season} {w x:SV}:Zs zS 0 (Z7 s w x)=Z7 s w x:=rfl
theorem ZvW {ρ : Nat->Nat} {s:Season}:mtL ρ 0 [.agg (Zn s)] [.agg (Zn s)]:=by simp [mtL,mtB,mtS,mtO,Zgc,Zc6]
def sB:Bool->SV->SV
 | true,s=>s
 | false,_=>.any
def hB:Bool->HB->HB
 | true,h=>h
 | false,_=>.gone
def eS (s:Season) (p:Plan) (c:Bool) (l:List W32) (o0 o1 o2 o3 o4 o5 o6 o7 o8 o9 o10 o11:Bool):St:=⟨[(14,sB o8 (.p 8 0)),(13,sB o7 (.p 7 0)),(12,sB o6 (.p 6 0)),(67,sB (o0 && !o1) (.agg (Zn s))),(69,sB (o2 && !o3) (.agg (Zn s))),(71,sB (o4 && !o5) (.agg (Zn s))),(68,sB (o1 && !o9) (.agg (Z7 s (.sl false 9 (s.land.wells.map Ze)) (.mr 2 0)))),(70,sB (o3 && !o10) (.agg (Z7 s (.mr 3 0) (.mr 4 0)))),(72,sB (o5 && !o11) (.agg (Z7 s (.sl false 9 (s.land.wells.map Ze)) (.mr 5 0)))),(7,B true),(4,.p 1 0),(3,.p 0 0),(2,.sl c 1 (l.map VR))],[(8,hB o8 (.cells (bif o11 then Z7 s (.sl false 9 (s.land.wells.map Ze)) (.mr 5 0) else zS) 34)),(7,hB o7 (.cells (bif o10 then Z7 s (.mr 3 0) (.mr 4 0) else zS) 34)),(6,hB o6 (.cells (bif o9 then Z7 s (.sl false 9 (s.land.wells.map Ze)) (.mr 2 0) else zS) 34)),(5,hB o5 (.row 0 6 (s.scenes.map Zh) 72)),(4,hB o3 (.rws 0 6 (s.scenes.map ZK) 72 4 2 (s.scenes.map WF) 27)),(3,hB o3 (.row 0 9 (s.land.wells.map Ze) 88)),(2,hB o1 (.row 0 6 (s.scenes.map Zh) 72)),(1,.cells (Zy p) 37),(0,.cells (Zn s) 34)],9,282,[]⟩
theorem Zaj {ρ : Nat->Nat} {n:Nat} {o:Bool} {v v':SV}:mtS ρ n (sB o v) v'=(o=true->mtS ρ n v v'):=by
 cases o<;>simp [sB,mtS]
theorem U9 {ρ : Nat->Nat} {n:Nat} {o:Bool} {v v':HB}:mtH ρ n (hB o v) v'=(o=true->mtH ρ n v v'):=by
 cases o<;>simp [hB,mtH]
theorem sBt {v:SV}:sB true v=v:=rfl
theorem sBf {v:SV}:sB false v = .any:=rfl
theorem hBt {v:HB}:hB true v=v:=rfl
theorem hBf {v:HB}:hB false v = .gone:=rfl
theorem Zhx {ρ : Nat->Nat} {n:Nat} {h:HB}:mtH ρ n .gone h=True:=rfl
theorem Zh7 {ρ : Nat->Nat} {n:Nat} {l l2:List SV} {T T2:TypeId}:mtH ρ n (.cells l T) (.cells l2 T2)=(T2=T/\mtL ρ n l l2):=rfl
theorem ZhE {ρ : Nat->Nat} {n v m:Nat} {xs:List (List SV)} {T:TypeId} {h:HB}:mtH ρ n (.row v m xs T) h=(h = .row v m xs T/\KFR xs):=rfl
theorem ZhM {ρ : Nat->Nat} {n v m o m':Nat} {xs:List (List SV)} {T T':TypeId} {inn:List (List (List SV))} {h:HB}:mtH ρ n (.rws v m xs T o m' inn T') h=(h = .rws v m xs T o m' inn T'/\KFR xs/\∀ r ∈ inn,KFR r):=rfl
theorem ZhZ {ρ : Nat->Nat} {n:Nat} {o:Bool} {l l2:List SV}:mtL ρ n (bif o then l else zS) (bif o then l2 else zS)=(o=true->mtL ρ n l l2):=by
 cases o<;>simp [mtZ]
theorem tn {b:Bool} (h:(!b).toNat=0):b=true:=by cases b<;>simp_all
theorem eT0 {s:Season} (hs:SmallS s) {p:Plan} {c:Bool} {l:List W32} {K:Ex->St->Prop} {n E:Nat} {o1 o2 o3 o4 o5 o6 o7 o8 o9 o10 o11:Bool} (h:LAT Tryz.prog Y0 0 e9a n E (eS s p c l true o1 o2 o3 o4 o5 o6 o7 o8 o9 o10 o11) K):st1 Tryz.prog Y0 ZAJ (eS s p c l false o1 o2 o3 o4 o5 o6 o7 o8 o9 o10 o11) (fun σ' K'=>∃ σc,Ent 0 σ' σc/\LAT Tryz.prog Y0 0 e9a n E σc K') K:=by
 dsimp only [eS,sBt,sBf,hBt,hBf,ldS,rnV,U6,Bool.true_and,Bool.and_true,Bool.false_and,Bool.and_false,Bool.not_true,Bool.not_false,go_sem,rA,rM,rS]
 refine ⟨_,ZhU [0,1,2,3,4,5,6,7,8] ?_ ?_ ?_ rfl rfl rfl,h⟩<;>dsimp only [eS,go_sem,rA,rM,rS]<;>simp +contextual [mtV,Zgc,kfS,kfZ,mtZ,ZhD,mtP,U6,mtS,Zaj,U9,ZhZ,sBt,sBf,hBt,hBf,Zh,Ze,Zm,Zg,Zd,Zo,ZK,WF,VR,U32,Zh7,ZhE,ZhM,Zhx,Zc6,rho,Za,Zf,KFR,KFL,KF,Zc,mtO,nbr]
theorem eT1 {s:Season} (hs:SmallS s) {p:Plan} {c:Bool} {l:List W32} {K:Ex->St->Prop} {n E:Nat} {o2 o3 o4 o5 o6 o7 o8 o10 o11:Bool} (h:LAT Tryz.prog Y0 0 e9a n E (eS s p c l true true o2 o3 o4 o5 o6 o7 o8 false o10 o11) K):st1 Tryz.prog Y0 Zzx (eS s p c l true false o2 o3 o4 o5 o6 o7 o8 false o10 o11) (fun σ' K'=>∃ σc,Ent 0 σ' σc/\LAT Tryz.prog Y0 0 e9a n E σc K') K:=by
 dsimp only [eS,sBt,sBf,hBt,hBf,ldS,rnV,U6,Bool.true_and,Bool.and_true,Bool.false_and,Bool.and_false,Bool.not_true,Bool.not_false,go_sem,rA,rM,rS]
 refine V5 [] (Zgz s hs) rfl rfl rfl ZvW trivial ?_
 dsimp only [eS,sBt,sBf,hBt,hBf,ldS,rnV,U6,Bool.true_and,Bool.and_true,Bool.false_and,Bool.and_false,Bool.not_true,Bool.not_false,go_sem,rA,rM,rS]
 refine ⟨_,ZhU [0,1,9,3,4,5,6,7,8] ?_ ?_ ?_ rfl rfl rfl,h⟩<;>dsimp only [eS,go_sem,rA,rM,rS]<;>simp +contextual [mtV,Zgc,kfS,kfZ,mtZ,ZhD,mtP,U6,mtS,Zaj,U9,ZhZ,sBt,sBf,hBt,hBf,Zh,Ze,Zm,Zg,Zd,Zo,ZK,WF,VR,U32,Zh7,ZhE,ZhM,Zhx,Zc6,rho,Za,Zf,KFR,KFL,KF,Zc,mtO,nbr]
theorem eT2 {s:Season} (hs:SmallS s) {p:Plan} {c:Bool} {l:List W32} {K:Ex->St->Prop} {n E:Nat} {o0 o1 o3 o4 o5 o6 o7 o8 o9 o10 o11:Bool} (h:LAT Tryz.prog Y0 0 e9a n E (eS s p c l o0 o1 true o3 o4 o5 o6 o7 o8 o9 o10 o11) K):st1 Tryz.prog Y0 ZAq (eS s p c l o0 o1 false o3 o4 o5 o6 o7 o8 o9 o10 o11) (fun σ' K'=>∃ σc,Ent 0 σ' σc/\LAT Tryz.prog Y0 0 e9a n E σc K') K:=by
 dsimp only [eS,sBt,sBf,hBt,hBf,ldS,rnV,U6,Bool.true_and,Bool.and_true,Bool.false_and,Bool.and_false,Bool.not_true,Bool.not_false,go_sem,rA,rM,rS]
 refine ⟨_,ZhU [0,1,2,3,4,5,6,7,8] ?_ ?_ ?_ rfl rfl rfl,h⟩<;>dsimp only [eS,go_sem,rA,rM,rS]<;>simp +contextual [mtV,Zgc,kfS,kfZ,mtZ,ZhD,mtP,U6,mtS,Zaj,U9,ZhZ,sBt,sBf,hBt,hBf,Zh,Ze,Zm,Zg,Zd,Zo,ZK,WF,VR,U32,Zh7,ZhE,ZhM,Zhx,Zc6,rho,Za,Zf,KFR,KFL,KF,Zc,mtO,nbr]
theorem eT3 {s:Season} (hs:SmallS s) {p:Plan} {c:Bool} {l:List W32} {K:Ex->St->Prop} {n E:Nat} {o0 o4 o5 o6 o7 o8 o9 o11:Bool} (h:LAT Tryz.prog Y0 0 e9a n E (eS s p c l o0 true true true o4 o5 o6 o7 o8 o9 false o11) K):st1 Tryz.prog Y0 ZzL (eS s p c l o0 true true false o4 o5 o6 o7 o8 o9 false o11) (fun σ' K'=>∃ σc,Ent 0 σ' σc/\LAT Tryz.prog Y0 0 e9a n E σc K') K:=by
 dsimp only [eS,sBt,sBf,hBt,hBf,ldS,rnV,U6,Bool.true_and,Bool.and_true,Bool.false_and,Bool.and_false,Bool.not_true,Bool.not_false,go_sem,rA,rM,rS]
 refine V5 [] (ZnZ s hs) rfl rfl rfl ZvW trivial ?_
 dsimp only [eS,sBt,sBf,hBt,hBf,ldS,rnV,U6,Bool.true_and,Bool.and_true,Bool.false_and,Bool.and_false,Bool.not_true,Bool.not_false,go_sem,rA,rM,rS]
 refine ⟨_,ZhU [0,1,2,9,10,5,6,7,8] ?_ ?_ ?_ rfl rfl rfl,h⟩<;>dsimp only [eS,go_sem,rA,rM,rS]<;>simp +contextual [mtV,Zgc,kfS,kfZ,mtZ,ZhD,mtP,U6,mtS,Zaj,U9,ZhZ,sBt,sBf,hBt,hBf,Zh,Ze,Zm,Zg,Zd,Zo,ZK,WF,VR,U32,Zh7,ZhE,ZhM,Zhx,Zc6,rho,Za,Zf,KFR,KFL,KF,Zc,mtO,nbr]
theorem eT4 {s:Season} (hs:SmallS s) {p:Plan} {c:Bool} {l:List W32} {K:Ex->St->Prop} {n E:Nat} {o0 o1 o2 o3 o5 o6 o7 o8 o9 o10 o11:Bool} (h:LAT Tryz.prog Y0 0 e9a n E (eS s p c l o0 o1 o2 o3 true o5 o6 o7 o8 o9 o10 o11) K):st1 Tryz.prog Y0 ZBa (eS s p c l o0 o1 o2 o3 false o5 o6 o7 o8 o9 o10 o11) (fun σ' K'=>∃ σc,Ent 0 σ' σc/\LAT Tryz.prog Y0 0 e9a n E σc K') K:=by
 dsimp only [eS,sBt,sBf,hBt,hBf,ldS,rnV,U6,Bool.true_and,Bool.and_true,Bool.false_and,Bool.and_false,Bool.not_true,Bool.not_false,go_sem,rA,rM,rS]
 refine ⟨_,ZhU [0,1,2,3,4,5,6,7,8] ?_ ?_ ?_ rfl rfl rfl,h⟩<;>dsimp only [eS,go_sem,rA,rM,rS]<;>simp +contextual [mtV,Zgc,kfS,kfZ,mtZ,ZhD,mtP,U6,mtS,Zaj,U9,ZhZ,sBt,sBf,hBt,hBf,Zh,Ze,Zm,Zg,Zd,Zo,ZK,WF,VR,U32,Zh7,ZhE,ZhM,Zhx,Zc6,rho,Za,Zf,KFR,KFL,KF,Zc,mtO,nbr]
theorem eT5 {s:Season} (hs:SmallS s) {p:Plan} {c:Bool} {l:List W32} {K:Ex->St->Prop} {n E:Nat} {o0 o1 o2 o6 o7 o8 o9 o10:Bool} (h:LAT Tryz.prog Y0 0 e9a n E (eS s p c l o0 o1 o2 true true true o6 o7 o8 o9 o10 false) K):st1 Tryz.prog Y0 ZAY (eS s p c l o0 o1 o2 true true false o6 o7 o8 o9 o10 false) (fun σ' K'=>∃ σc,Ent 0 σ' σc/\LAT Tryz.prog Y0 0 e9a n E σc K') K:=by
 dsimp only [eS,sBt,sBf,hBt,hBf,ldS,rnV,U6,Bool.true_and,Bool.and_true,Bool.false_and,Bool.and_false,Bool.not_true,Bool.not_false,go_sem,rA,rM,rS]
 refine V5 [] (Zgz s hs) rfl rfl rfl ZvW trivial ?_
 dsimp only [eS,sBt,sBf,hBt,hBf,ldS,rnV,U6,Bool.true_and,Bool.and_true,Bool.false_and,Bool.and_false,Bool.not_true,Bool.not_false,go_sem,rA,rM,rS]
 refine ⟨_,ZhU [0,1,2,3,4,9,6,7,8] ?_ ?_ ?_ rfl rfl rfl,h⟩<;>dsimp only [eS,go_sem,rA,rM,rS]<;>simp +contextual [mtV,Zgc,kfS,kfZ,mtZ,ZhD,mtP,U6,mtS,Zaj,U9,ZhZ,sBt,sBf,hBt,hBf,Zh,Ze,Zm,Zg,Zd,Zo,ZK,WF,VR,U32,Zh7,ZhE,ZhM,Zhx,Zc6,rho,Za,Zf,KFR,KFL,KF,Zc,mtO,nbr]
theorem eT6 {s:Season} (hs:SmallS s) {p:Plan} {c:Bool} {l:List W32} {K:Ex->St->Prop} {n E:Nat} {o0 o1 o2 o3 o4 o5 o7 o8 o10 o11:Bool} (h:LAT Tryz.prog Y0 0 e9a n E (eS s p c l o0 o1 o2 o3 o4 o5 true o7 o8 false o10 o11) K):st1 Tryz.prog Y0 ZzT (eS s p c l o0 o1 o2 o3 o4 o5 false o7 o8 false o10 o11) (fun σ' K'=>∃ σc,Ent 0 σ' σc/\LAT Tryz.prog Y0 0 e9a n E σc K') K:=by
 dsimp only [eS,sBt,sBf,hBt,hBf,ldS,rnV,U6,Bool.true_and,Bool.and_true,Bool.false_and,Bool.and_false,Bool.not_true,Bool.not_false,go_sem,rA,rM,rS]
 refine ⟨_,ZhU [0,1,2,3,4,5,9,7,8] ?_ ?_ ?_ rfl rfl rfl,h⟩<;>dsimp only [eS,go_sem,rA,rM,rS]<;>simp +contextual [mtV,Zgc,kfS,kfZ,mtZ,ZhD,mtP,U6,mtS,Zaj,U9,ZhZ,sBt,sBf,hBt,hBf,Zh,Ze,Zm,Zg,Zd,Zo,ZK,WF,VR,U32,Zh7,ZhE,ZhM,Zhx,Zc6,rho,Za,Zf,KFR,KFL,KF,Zc,mtO,nbr]
theorem eT7 {s:Season} (hs:SmallS s) {p:Plan} {c:Bool} {l:List W32} {K:Ex->St->Prop} {n E:Nat} {o0 o1 o2 o3 o4 o5 o6 o8 o9 o11:Bool} (h:LAT Tryz.prog Y0 0 e9a n E (eS s p c l o0 o1 o2 o3 o4 o5 o6 true o8 o9 false o11) K):st1 Tryz.prog Y0 ZA1 (eS s p c l o0 o1 o2 o3 o4 o5 o6 false o8 o9 false o11) (fun σ' K'=>∃ σc,Ent 0 σ' σc/\LAT Tryz.prog Y0 0 e9a n E σc K') K:=by
 dsimp only [eS,sBt,sBf,hBt,hBf,ldS,rnV,U6,Bool.true_and,Bool.and_true,Bool.false_and,Bool.and_false,Bool.not_true,Bool.not_false,go_sem,rA,rM,rS]
 refine ⟨_,ZhU [0,1,2,3,4,5,6,9,8] ?_ ?_ ?_ rfl rfl rfl,h⟩<;>dsimp only [eS,go_sem,rA,rM,rS]<;>simp +contextual [mtV,Zgc,kfS,kfZ,mtZ,ZhD,mtP,U6,mtS,Zaj,U9,ZhZ,sBt,sBf,hBt,hBf,Zh,Ze,Zm,Zg,Zd,Zo,ZK,WF,VR,U32,Zh7,ZhE,ZhM,Zhx,Zc6,rho,Za,Zf,KFR,KFL,KF,Zc,mtO,nbr]
theorem eT8 {s:Season} (hs:SmallS s) {p:Plan} {c:Bool} {l:List W32} {K:Ex->St->Prop} {n E:Nat} {o0 o1 o2 o3 o4 o5 o6 o7 o9 o10:Bool} (h:LAT Tryz.prog Y0 0 e9a n E (eS s p c l o0 o1 o2 o3 o4 o5 o6 o7 true o9 o10 false) K):st1 Tryz.prog Y0 ZzS (eS s p c l o0 o1 o2 o3 o4 o5 o6 o7 false o9 o10 false) (fun σ' K'=>∃ σc,Ent 0 σ' σc/\LAT Tryz.prog Y0 0 e9a n E σc K') K:=by
 dsimp only [eS,sBt,sBf,hBt,hBf,ldS,rnV,U6,Bool.true_and,Bool.and_true,Bool.false_and,Bool.and_false,Bool.not_true,Bool.not_false,go_sem,rA,rM,rS]
 refine ⟨_,ZhU [0,1,2,3,4,5,6,7,9] ?_ ?_ ?_ rfl rfl rfl,h⟩<;>dsimp only [eS,go_sem,rA,rM,rS]<;>simp +contextual [mtV,Zgc,kfS,kfZ,mtZ,ZhD,mtP,U6,mtS,Zaj,U9,ZhZ,sBt,sBf,hBt,hBf,Zh,Ze,Zm,Zg,Zd,Zo,ZK,WF,VR,U32,Zh7,ZhE,ZhM,Zhx,Zc6,rho,Za,Zf,KFR,KFL,KF,Zc,mtO,nbr]
theorem eT9 {s:Season} (hs:SmallS s) {p:Plan} {c:Bool} {l:List W32} {K:Ex->St->Prop} {n E:Nat} {o2 o3 o4 o10 o11:Bool} (h:LAT Tryz.prog Y0 0 e9a n E (eS s p c l true true o2 o3 o4 true true true true true o10 o11) K):st1 Tryz.prog Y0 Zy1 (eS s p c l true true o2 o3 o4 true true true true false o10 o11) (fun σ' K'=>∃ σc,Ent 0 σ' σc/\LAT Tryz.prog Y0 0 e9a n E σc K') K:=by
 dsimp only [eS,sBt,sBf,hBt,hBf,ldS,rnV,U6,Bool.true_and,Bool.and_true,Bool.false_and,Bool.and_false,Bool.not_true,Bool.not_false,go_sem,rA,rM,rS]
 refine ⟨_,ZhU [0,1,2,3,4,5,6,7,8] ?_ ?_ ?_ rfl rfl rfl,h⟩<;>dsimp only [eS,go_sem,rA,rM,rS]<;>simp +contextual [mtV,Zgc,kfS,kfZ,mtZ,ZhD,mtP,U6,mtS,Zaj,U9,ZhZ,sBt,sBf,hBt,hBf,Zh,Ze,Zm,Zg,Zd,Zo,ZK,WF,VR,U32,Zh7,ZhE,ZhM,Zhx,Zc6,rho,Za,Zf,KFR,KFL,KF,Zc,mtO,nbr]
theorem eT10 {s:Season} (hs:SmallS s) {p:Plan} {c:Bool} {l:List W32} {K:Ex->St->Prop} {n E:Nat} {o4 o5 o11:Bool} (h:LAT Tryz.prog Y0 0 e9a n E (eS s p c l true true true true o4 o5 true true true true true o11) K):st1 Tryz.prog Y0 ZkF (eS s p c l true true true true o4 o5 true true true true false o11) (fun σ' K'=>∃ σc,Ent 0 σ' σc/\LAT Tryz.prog Y0 0 e9a n E σc K') K:=by
 dsimp only [eS,sBt,sBf,hBt,hBf,ldS,rnV,U6,Bool.true_and,Bool.and_true,Bool.false_and,Bool.and_false,Bool.not_true,Bool.not_false,go_sem,rA,rM,rS]
 refine ⟨_,ZhU [0,1,2,3,4,5,6,7,8] ?_ ?_ ?_ rfl rfl rfl,h⟩<;>dsimp only [eS,go_sem,rA,rM,rS]<;>simp +contextual [mtV,Zgc,kfS,kfZ,mtZ,ZhD,mtP,U6,mtS,Zaj,U9,ZhZ,sBt,sBf,hBt,hBf,Zh,Ze,Zm,Zg,Zd,Zo,ZK,WF,VR,U32,Zh7,ZhE,ZhM,Zhx,Zc6,rho,Za,Zf,KFR,KFL,KF,Zc,mtO,nbr]
theorem eT11 {s:Season} (hs:SmallS s) {p:Plan} {c:Bool} {l:List W32} {K:Ex->St->Prop} {n E:Nat} (h:LAT Tryz.prog Y0 0 e9a n E (eS s p c l true true true true true true true true true true true true) K):st1 Tryz.prog Y0 Zmn (eS s p c l true true true true true true true true true true true false) (fun σ' K'=>∃ σc,Ent 0 σ' σc/\LAT Tryz.prog Y0 0 e9a n E σc K') K:=by
 dsimp only [eS,sBt,sBf,hBt,hBf,ldS,rnV,U6,Bool.true_and,Bool.and_true,Bool.false_and,Bool.and_false,Bool.not_true,Bool.not_false,go_sem,rA,rM,rS]
 refine ⟨_,ZhU [0,1,2,3,4,5,6,7,8] ?_ ?_ ?_ rfl rfl rfl,h⟩<;>dsimp only [eS,go_sem,rA,rM,rS]<;>simp +contextual [mtV,Zgc,kfS,kfZ,mtZ,ZhD,mtP,U6,mtS,Zaj,U9,ZhZ,sBt,sBf,hBt,hBf,Zh,Ze,Zm,Zg,Zd,Zo,ZK,WF,VR,U32,Zh7,ZhE,ZhM,Zhx,Zc6,rho,Za,Zf,KFR,KFL,KF,Zc,mtO,nbr]
theorem ZzP {s:Season} (hs:SmallS s) {p:Plan} {c:Bool} {l:List W32} {K:Ex->St->Prop} (hK:K .n (eS s p c l true true true true true true true true true true true true)):∀ n D,(!Nat.testBit D 0).toNat+(!Nat.testBit D 1).toNat+(!Nat.testBit D 2).toNat+(!Nat.testBit D 3).toNat+(!Nat.testBit D 4).toNat+(!Nat.testBit D 5).toNat+(!Nat.testBit D 6).toNat+(!Nat.testBit D 7).toNat+(!Nat.testBit D 8).toNat+(!Nat.testBit D 9).toNat+(!Nat.testBit D 10).toNat+(!Nat.testBit D 11).toNat=n->(Nat.testBit D 9=true->Nat.testBit D 1=true/\Nat.testBit D 6=true)->(Nat.testBit D 10=true->Nat.testBit D 3=true/\Nat.testBit D 7=true)->(Nat.testBit D 11=true->Nat.testBit D 5=true/\Nat.testBit D 8=true)->LAT Tryz.prog Y0 0 e9a n D (eS s p c l (Nat.testBit D 0) (Nat.testBit D 1) (Nat.testBit D 2) (Nat.testBit D 3) (Nat.testBit D 4) (Nat.testBit D 5) (Nat.testBit D 6) (Nat.testBit D 7) (Nat.testBit D 8) (Nat.testBit D 9) (Nat.testBit D 10) (Nat.testBit D 11)) K
 | 0,D,hn,i1,i2,i3=>by
  rw [tn (b:=Nat.testBit D 0) (by omega),tn (b:=Nat.testBit D 1) (by omega),tn (b:=Nat.testBit D 2) (by omega),tn (b:=Nat.testBit D 3) (by omega),tn (b:=Nat.testBit D 4) (by omega),tn (b:=Nat.testBit D 5) (by omega),tn (b:=Nat.testBit D 6) (by omega),tn (b:=Nat.testBit D 7) (by omega),tn (b:=Nat.testBit D 8) (by omega),tn (b:=Nat.testBit D 9) (by omega),tn (b:=Nat.testBit D 10) (by omega),tn (b:=Nat.testBit D 11) (by omega)]
  exact hK
 | n+1,D,hn,i1,i2,i3=>by
  intro i x hx hb ha
  have ih:=ZzP hs hK n (D ||| 2 ^ i)
  rcases i with _ | _ | _ | _ | _ | _ | _ | _ | _ | _ | _ | _ | i
  . obtain rfl:ZAJ=x:=by simpa [e9a] using hx
    simp only [ZAJ,Nat.zero_add,Nat.reduceAdd,List.all_cons,List.all_nil,Bool.and_true,Bool.and_eq_true] at hb ha
    simp only [Nat.testBit_or,Nat.testBit_two_pow] at ih
    simp [-Nat.testBit_zero] at ih
    simp only [hb] at hn ⊢
    apply eT0 hs;apply ih<;>first | (simp [-Nat.testBit_zero] at hn ⊢;omega) | simp_all [-Nat.testBit_zero]
  . obtain rfl:Zzx=x:=by simpa [e9a] using hx
    simp only [Zzx,Nat.zero_add,Nat.reduceAdd,List.all_cons,List.all_nil,Bool.and_true,Bool.and_eq_true] at hb ha
    simp only [Nat.testBit_or,Nat.testBit_two_pow] at ih
    simp [-Nat.testBit_zero] at ih
    have a0:=ha
    have b9:Nat.testBit D 9=false:=by cases h:Nat.testBit D 9<;>simp_all [-Nat.testBit_zero]
    simp only [hb,a0,b9] at hn ⊢
    simp only [a0,b9] at ih
    apply eT1 hs;apply ih<;>first | (simp [-Nat.testBit_zero] at hn ⊢;omega) | simp_all [-Nat.testBit_zero]
  . obtain rfl:ZAq=x:=by simpa [e9a] using hx
    simp only [ZAq,Nat.zero_add,Nat.reduceAdd,List.all_cons,List.all_nil,Bool.and_true,Bool.and_eq_true] at hb ha
    simp only [Nat.testBit_or,Nat.testBit_two_pow] at ih
    simp [-Nat.testBit_zero] at ih
    simp only [hb] at hn ⊢
    apply eT2 hs;apply ih<;>first | (simp [-Nat.testBit_zero] at hn ⊢;omega) | simp_all [-Nat.testBit_zero]
  . obtain rfl:ZzL=x:=by simpa [e9a] using hx
    simp only [ZzL,Nat.zero_add,Nat.reduceAdd,List.all_cons,List.all_nil,Bool.and_true,Bool.and_eq_true] at hb ha
    simp only [Nat.testBit_or,Nat.testBit_two_pow] at ih
    simp [-Nat.testBit_zero] at ih
    obtain ⟨a1,a2⟩:=ha
    have b10:Nat.testBit D 10=false:=by cases h:Nat.testBit D 10<;>simp_all [-Nat.testBit_zero]
    simp only [hb,a1,a2,b10] at hn ⊢
    simp only [a1,a2,b10] at ih
    apply eT3 hs;apply ih<;>first | (simp [-Nat.testBit_zero] at hn ⊢;omega) | simp_all [-Nat.testBit_zero]
  . obtain rfl:ZBa=x:=by simpa [e9a] using hx
    simp only [ZBa,Nat.zero_add,Nat.reduceAdd,List.all_cons,List.all_nil,Bool.and_true,Bool.and_eq_true] at hb ha
    simp only [Nat.testBit_or,Nat.testBit_two_pow] at ih
    simp [-Nat.testBit_zero] at ih
    simp only [hb] at hn ⊢
    apply eT4 hs;apply ih<;>first | (simp [-Nat.testBit_zero] at hn ⊢;omega) | simp_all [-Nat.testBit_zero]
  . obtain rfl:ZAY=x:=by simpa [e9a] using hx
    simp only [ZAY,Nat.zero_add,Nat.reduceAdd,List.all_cons,List.all_nil,Bool.and_true,Bool.and_eq_true] at hb ha
    simp only [Nat.testBit_or,Nat.testBit_two_pow] at ih
    simp [-Nat.testBit_zero] at ih
    obtain ⟨a3,a4⟩:=ha
    have b11:Nat.testBit D 11=false:=by cases h:Nat.testBit D 11<;>simp_all [-Nat.testBit_zero]
    simp only [hb,a3,a4,b11] at hn ⊢
    simp only [a3,a4,b11] at ih
    apply eT5 hs;apply ih<;>first | (simp [-Nat.testBit_zero] at hn ⊢;omega) | simp_all [-Nat.testBit_zero]
  . obtain rfl:ZzT=x:=by simpa [e9a] using hx
    simp only [ZzT,Nat.zero_add,Nat.reduceAdd,List.all_cons,List.all_nil,Bool.and_true,Bool.and_eq_true] at hb ha
    simp only [Nat.testBit_or,Nat.testBit_two_pow] at ih
    simp [-Nat.testBit_zero] at ih
    have b9:Nat.testBit D 9=false:=by cases h:Nat.testBit D 9<;>simp_all [-Nat.testBit_zero]
    simp only [hb,b9] at hn ⊢
    simp only [b9] at ih
    apply eT6 hs;apply ih<;>first | (simp [-Nat.testBit_zero] at hn ⊢;omega) | simp_all [-Nat.testBit_zero]
  . obtain rfl:ZA1=x:=by simpa [e9a] using hx
    simp only [ZA1,Nat.zero_add,Nat.reduceAdd,List.all_cons,List.all_nil,Bool.and_true,Bool.and_eq_true] at hb ha
    simp only [Nat.testBit_or,Nat.testBit_two_pow] at ih
    simp [-Nat.testBit_zero] at ih
    have b10:Nat.testBit D 10=false:=by cases h:Nat.testBit D 10<;>simp_all [-Nat.testBit_zero]
    simp only [hb,b10] at hn ⊢
    simp only [b10] at ih
    apply eT7 hs;apply ih<;>first | (simp [-Nat.testBit_zero] at hn ⊢;omega) | simp_all [-Nat.testBit_zero]
  . obtain rfl:ZzS=x:=by simpa [e9a] using hx
    simp only [ZzS,Nat.zero_add,Nat.reduceAdd,List.all_cons,List.all_nil,Bool.and_true,Bool.and_eq_true] at hb ha
    simp only [Nat.testBit_or,Nat.testBit_two_pow] at ih
    simp [-Nat.testBit_zero] at ih
    have b11:Nat.testBit D 11=false:=by cases h:Nat.testBit D 11<;>simp_all [-Nat.testBit_zero]
    simp only [hb,b11] at hn ⊢
    simp only [b11] at ih
    apply eT8 hs;apply ih<;>first | (simp [-Nat.testBit_zero] at hn ⊢;omega) | simp_all [-Nat.testBit_zero]
  . obtain rfl:Zy1=x:=by simpa [e9a] using hx
    simp only [Zy1,Nat.zero_add,Nat.reduceAdd,List.all_cons,List.all_nil,Bool.and_true,Bool.and_eq_true] at hb ha
    simp only [Nat.testBit_or,Nat.testBit_two_pow] at ih
    simp [-Nat.testBit_zero] at ih
    obtain ⟨a0,a1,a5,a6,a7,a8⟩:=ha
    simp only [hb,a0,a1,a5,a6,a7,a8] at hn ⊢
    simp only [a0,a1,a5,a6,a7,a8] at ih
    apply eT9 hs;apply ih<;>first | (simp [-Nat.testBit_zero] at hn ⊢;omega) | simp_all [-Nat.testBit_zero]
  . obtain rfl:ZkF=x:=by simpa [e9a] using hx
    simp only [ZkF,Nat.zero_add,Nat.reduceAdd,List.all_cons,List.all_nil,Bool.and_true,Bool.and_eq_true] at hb ha
    simp only [Nat.testBit_or,Nat.testBit_two_pow] at ih
    simp [-Nat.testBit_zero] at ih
    obtain ⟨a0,a1,a2,a3,a6,a7,a8,a9⟩:=ha
    simp only [hb,a0,a1,a2,a3,a6,a7,a8,a9] at hn ⊢
    simp only [a0,a1,a2,a3,a6,a7,a8,a9] at ih
    apply eT10 hs;apply ih<;>first | (simp [-Nat.testBit_zero] at hn ⊢;omega) | simp_all [-Nat.testBit_zero]
  . obtain rfl:Zmn=x:=by simpa [e9a] using hx
    simp only [Zmn,Nat.zero_add,Nat.reduceAdd,List.all_cons,List.all_nil,Bool.and_true,Bool.and_eq_true] at hb ha
    simp only [Nat.testBit_or,Nat.testBit_two_pow] at ih
    simp [-Nat.testBit_zero] at ih
    obtain ⟨a0,a1,a2,a3,a4,a5,a6,a7,a8,a9,a10⟩:=ha
    simp only [hb,a0,a1,a2,a3,a4,a5,a6,a7,a8,a9,a10] at hn ⊢
    simp only [a0,a1,a2,a3,a4,a5,a6,a7,a8,a9,a10] at ih
    apply eT11 hs;apply ih<;>first | (simp [-Nat.testBit_zero] at hn ⊢;omega) | simp_all [-Nat.testBit_zero]
  . simp [e9a] at hx
def ez0 (p:Plan) (c:Bool) (l:List W32) (s:Season):St:=⟨[(7,B true),(4,.p 1 0),(3,.p 0 0),(2,.sl c 1 (l.map VR))],[(1,.cells (Zy p) 37),(0,.cells (Zn s) 34)],2,282,[]⟩
def ez1 (p:Plan) (c:Bool) (l:List W32) (s:Season):St:=⟨[(14,.p 8 0),(13,.p 7 0),(12,.p 6 0),(67,.any),(69,.any),(71,.any),(68,.any),(70,.any),(72,.any),(7,B true),(4,.p 1 0),(3,.p 0 0),(2,.sl c 1 (l.map VR))],[(8,.cells (Z7 s (.sl false 9 (s.land.wells.map Ze)) (.mr 5 0)) 34),(7,.cells (Z7 s (.mr 3 0) (.mr 4 0)) 34),(6,.cells (Z7 s (.sl false 9 (s.land.wells.map Ze)) (.mr 2 0)) 34),(5,.row 0 6 (s.scenes.map Zh) 72),(4,.rws 0 6 (s.scenes.map ZK) 72 4 2 (s.scenes.map WF) 27),(3,.row 0 9 (s.land.wells.map Ze) 88),(2,.row 0 6 (s.scenes.map Zh) 72),(1,.cells (Zy p) 37),(0,.cells (Zn s) 34)],9,282,[]⟩
theorem Zp7 {p:Plan} {c:Bool} {l:List W32} {s:Season}:Ent 0 (ez0 p c l s) (eS s p c l false false false false false false false false false false false false):=by
 refine ZhU [0,1,2,3,4,5,6,7,8] ?_ ?_ ?_ rfl rfl rfl<;>dsimp only [eS,ez0,go_sem,rA,rM,rS]<;>simp +contextual [mtV,Zgc,kfS,kfZ,mtZ,ZhD,mtP,U6,mtS,Zaj,U9,ZhZ,sBt,sBf,hBt,hBf,Zh,Ze,Zm,Zg,Zd,Zo,ZK,WF,VR,U32,Zh7,ZhE,ZhM,Zhx,Zc6,rho,Za,Zf,KFR,KFL,KF,Zc,mtO,nbr]
theorem ezReg {s:Season} (hs:SmallS s) {p:Plan} {c:Bool} {l:List W32} {K:Ex->St->Prop} (hK:∀ σF,σF=ez1 p c l s->K .n σF):LAT Tryz.prog Y0 0 e9a 12 0 (eS s p c l false false false false false false false false false false false false) K:=by
 have h:=ZzP hs (p:=p) (c:=c) (l:=l) (K:=K) (hK _ rfl) 12 0 (by simp) (by simp) (by simp) (by simp)
 simpa using h
end Go.Proofs.YtiigiflofnjilaaGreat
namespace Go.Azalai
open Go.Sx
theorem Uf {a b d:Int} (h0:0<=a) (h:a<=b) (hd:0 < d):a.tdiv d<=b.tdiv d:=by
 rw [Int.tdiv_eq_ediv_of_nonneg h0,Int.tdiv_eq_ediv_of_nonneg (Int.le_trans h0 h)]
 exact Int.ediv_le_ediv hd h
theorem ZuM {a b d:Int} (h0:0<=a) (h:a<=b) (hd:0 < d):upF a d<=upF b d:=by
 unfold upF;exact Uf (by omega) (by omega) hd
theorem Zb6 {x a b:Int} (hx:0<=x) (h:0<=a/\a<=b):0<=x * a/\x * a<=x * b:=⟨Int.mul_nonneg hx h.1,Int.mul_le_mul_of_nonneg_left h.2 hx⟩
def EzC (a c:Camel):Prop:=a.water.lo<=c.water.lo/\a.water.hi<=c.water.hi/\a.fat.lo<=c.fat.lo/\a.fat.hi<=c.fat.hi/\c.sore.lo<=a.sore.lo/\c.sore.hi<=a.sore.hi/\c.milks=a.milks
theorem EzC.rfl {a:Camel}:EzC a a:=⟨Int.le_refl _,Int.le_refl _,Int.le_refl _,Int.le_refl _,Int.le_refl _,Int.le_refl _,Eq.refl _⟩
theorem Zqp {b:Breed} {c c':Camel} {m n:March} (hb:Zz b=true) (hm:ZZ m=true) (hn:ZZ n=true) (h1:n.hours=m.hours) (h2:n.load<=m.load) (hh:n.heat=m.heat)
 (h3:n.drinks=m.drinks) (h4:n.grass=m.grass) (hc:EzC c c') (hd:(Ya b c m).2≠2) :
 (Ya b c' n).2≠2/\((Ya b c m).2=0->(Ya b c' n).2=0)/\EzC (Ya b c m).1 (Ya b c' n).1:=by
 have hbb:=Go.Proofs.YtiigiflofnjilaaGreat.Cm.breed_bd hb
 have hmm:=Go.Proofs.YtiigiflofnjilaaGreat.Cm.march_bd hm
 have hnn:=Go.Proofs.YtiigiflofnjilaaGreat.Cm.march_bd hn
 obtain ⟨q1,q2,q3,q4,q5,q6,q7⟩:=hc
 have hw:0<=Yk n/\Yk n<=Yk m:=by
  unfold Yk
  rw [h1]
  exact ⟨Int.mul_nonneg (by omega) (by omega),Int.mul_le_mul_of_nonneg_left (by omega) (by omega)⟩
 have hl:0<=n.hours * n.load/\n.hours * n.load<=m.hours * m.load:=by
  rw [h1]
  exact ⟨Int.mul_nonneg (by omega) (by omega),Int.mul_le_mul_of_nonneg_left (by omega) (by omega)⟩
 have t1:=Zb6 (x:=b.toil.lo) (by omega) hw
 have t2:=Zb6 (x:=b.toil.hi) (by omega) hw
 have u1:=Zb6 (x:=b.burn.lo) (by omega) hw
 have u2:=Zb6 (x:=b.burn.hi) (by omega) hw
 have r1:=Zb6 (x:=b.rub.lo) (by omega) hl
 have r2:=Zb6 (x:=b.rub.hi) (by omega) hl
 have T1:=Uf t1.1 t1.2 (d:=100000) (by decide)
 have T2:=ZuM t2.1 t2.2 (d:=100000) (by decide)
 have U1:=Uf u1.1 u1.2 (d:=100000) (by decide)
 have U2:=ZuM u2.1 u2.2 (d:=100000) (by decide)
 have R1:=Uf r1.1 r1.2 (d:=1000000) (by decide)
 have R2:=ZuM r2.1 r2.2 (d:=1000000) (by decide)
 have cw:(XR b c'.milks n).lo<=(XR b c.milks m).lo/\(XR b c'.milks n).hi<=(XR b c.milks m).hi:=by
  rw [q7];simp only [XR,hh];omega
 have cf:(X5 b n).lo<=(X5 b m).lo/\(X5 b n).hi<=(X5 b m).hi:=by
  simp only [X5];omega
 have cs:(Ud b c'.sore n).lo<=(Ud b c.sore m).lo/\(Ud b c'.sore n).hi<=(Ud b c.sore m).hi:=by
  unfold Ud
  by_cases h:m.hours=0
  . rw [if_pos h,if_pos (by omega)];simp only;omega
  . rw [if_neg h,if_neg (by omega)];simp only;omega
 unfold Ya at hd ⊢
 simp only at hd ⊢
 rw [h3,h4]
 generalize XR b c'.milks n=wn at *
 generalize XR b c.milks m=wm at *
 generalize X5 b n=fn at *
 generalize X5 b m=fm at *
 by_cases hdm:c.water.hi < wm.lo\/c.fat.hi < fm.lo
 . rw [if_pos hdm] at hd;simp at hd
 rw [if_neg hdm] at hd ⊢
 rw [if_neg (by omega)]
 simp only [ZaP]
 refine ⟨by split<;>simp,fun h=>?_,by simp only;omega,by simp only;omega,by simp only;omega,by simp only;omega,cs.1,cs.2,q7⟩
 by_cases hq:c.water.lo ≥ wm.hi/\c.fat.lo ≥ fm.hi
 . rw [if_pos (by omega)]
 . rw [if_neg hq] at h;simp at h
theorem ZzW {b:Breed} {c c':Camel} (hb:Zz b=true) (hc:Zv b c=true) (hc':Zv b c'=true) (h:EzC c c'):(ZdJ b c).lo<=(ZdJ b c').lo:=by
 have hbb:=Go.Proofs.YtiigiflofnjilaaGreat.Cm.breed_bd hb
 have b1:=Go.Proofs.YtiigiflofnjilaaGreat.Cm.camel_bd hb hc
 obtain ⟨q1,q2,q3,q4,q5,q6,q7⟩:=h
 rw [ZdJ,ZdJ,if_pos (Go.Proofs.YtiigiflofnjilaaGreat.Cm.errC_0.2 ⟨hb,hc⟩),if_pos (Go.Proofs.YtiigiflofnjilaaGreat.Cm.errC_0.2 ⟨hb,hc'⟩)]
 have w:=Uf (a:=2000 * c.water.lo) (b:=2000 * c'.water.lo) (d:=b.full) (by omega) (by omega) (by omega)
 have f:=Uf (a:=2000 * c.fat.lo) (b:=2000 * c'.fat.lo) (d:=b.fed) (by omega) (by omega) (by omega)
 have w0:0<=(2000 * c.water.lo).tdiv b.full:=Int.tdiv_nonneg (by omega) (by omega)
 have f0:0<=(2000 * c.fat.lo).tdiv b.fed:=Int.tdiv_nonneg (by omega) (by omega)
 have hf:0<=(Zda b c).lo/\(Zda b c).lo<=(Zda b c').lo:=by simp only [Zda];omega
 have hm:=Zb6 (x:=b.strong.lo) (by omega) hf
 exact Uf hm.1 hm.2 (by decide)
theorem ZwX {a a' b b':Camel} (h:EzC a a') (k:EzC b b'):EzC (ZfT a b) (ZfT a' b'):=by
 obtain ⟨q1,q2,q3,q4,q5,q6,q7⟩:=h
 obtain ⟨k1,k2,k3,k4,k5,k6,k7⟩:=k
 refine ⟨?_,?_,?_,?_,?_,?_,q7⟩<;>simp only [ZfT,Zix]<;>omega
theorem Zgd {b:Breed} {m n:March} {lo:Int} (hb:Zz b=true) (h1:n.hours=m.hours) (h0:0<=n.load) (h2:n.load<=m.load) (hh:n.heat=m.heat) (h3:n.drinks=m.drinks) (h4:n.grass=m.grass) :
 ∀ {j k:Nat} {c c' out out':Camel},EzC c c'->EzC out out'->Zv b c=true->Zv b c'=true->(Vm b m lo j k c out).2=0->(Vm b n lo j k c' out').2=0/\EzC (Vm b m lo j k c out).1 (Vm b n lo j k c' out').1
 | 0,_,_,_,_,_,_,ho,_,_,_=>⟨Eq.refl _,ho⟩
 | j+1,k,c,c',out,out',hc,ho,ok,ok',h=>by
  simp only [Vm] at h ⊢
  by_cases g1:m.load > (ZdJ b c).lo
  . rw [if_pos g1] at h;simp at h
  rw [if_neg g1] at h ⊢
  have hcar:=ZzW hb ok ok' hc
  rw [if_neg (show ¬ n.load > (ZdJ b c').lo by omega)]
  by_cases g2:(Yr b c m).2.2≠0\/(Yr b c m).2.1≠0
  . rw [if_pos g2] at h;simp at h
  rw [if_neg g2] at h ⊢
  have e0:(Yr b c m).2.2=0:=by omega
  obtain ⟨hm,e1,e2⟩:=ZmK hb ok e0
  have hmm:=Go.Proofs.YtiigiflofnjilaaGreat.Cm.march_bd hm
  have hn:ZZ n=true:=by
   simp only [ZZ,inR,Z3,Bool.and_eq_true,decide_eq_true_eq,h1,hh,h3,h4]
   omega
  have hz:(Ya b c m).2=0:=by omega
  obtain ⟨l1,l2,l3⟩:=Zqp hb hm hn h1 h2 hh h3 h4 hc (by omega)
  have eN:Yr b c' n=((Ya b c' n).1,(Ya b c' n).2,0):=by
   unfold Yr
   rw [if_neg (by rw [Go.Proofs.YtiigiflofnjilaaGreat.Cm.errC_0.2 ⟨hb,ok'⟩];simp),if_neg (by rw [hn];simp),if_neg l1]
  have hz':=l2 hz
  rw [if_neg (by rw [eN];simp [hz'])]
  have E1:EzC (Yr b c m).1 (Yr b c' n).1:=by rw [e1,eN];exact l3
  refine Zgd hb h1 h0 h2 hh h3 h4 E1 ?_ (Zcp hb ok e0) (Zcp hb ok' (by rw [eN])) h
  by_cases p1:(k:Int)+1=lo
  . rw [if_pos p1,if_pos p1];exact E1
  . rw [if_neg p1,if_neg p1]
    by_cases p2:(k:Int)+1 > lo
    . rw [if_pos p2,if_pos p2];exact ZwX ho E1
    . rw [if_neg p2,if_neg p2];exact ho
def EzA (n n':Int) (a a':List (Int × Int)):Prop:=(∀ q ∈ a,n * q.1<=q.2)->∀ q ∈ a',n' * q.1<=q.2
theorem EzA.snoc {n n':Int} {a a':List (Int × Int)} {q q':Int × Int} (h:EzA n n' a a') (hn:0<=n'/\n'<=n) (h0:0<=q.1) (h1:q'.1<=q.1) (h2:q.2<=q'.2):EzA n n' (a ++ [q]) (a' ++ [q']):=by
 intro g r hr
 rcases List.mem_append.1 hr with hr | hr
 . exact h (fun x hx=>g x (List.mem_append_left _ hx)) r hr
 . rw [List.mem_singleton] at hr
   subst hr
   have g1:=g q (by simp)
   have g2:=Int.mul_le_mul_of_nonneg_left h1 hn.1
   have g3:=Int.mul_le_mul_of_nonneg_right hn.2 h0
   omega
structure EzS (s s':Season) (x x':Scene) (k k':Int):Prop where
 b:s'.breed=s.breed
 c:s'.camel=s.camel
 hrs:s'.hours=s.hours
 nn:0<=k' * s'.slab
 ld:k' * s'.slab<=k * s.slab
 ht:x'.heat=x.heat
 gr:x'.grass=x.grass
 dy:∀ i,YO s'.land i s'.pace=YO s.land i s.pace
 hs:∀ st,Zar s x st<=Zar s' x' st
theorem ZzC {s s':Season} {x x':Scene} {k k' n n':Int} (hb:Zz s.breed=true) (hz:EzS s s' x x' k k') (hn:0<=n'/\n'<=n):∀ {l:List Stop} {i:Nat} {c c':Camel} {acc acc':List (Int × Int)},
 EzC c c'->Zv s.breed c=true->Zv s.breed c'=true->EzA n n' acc acc'->(goG s x k l i c acc).1=0->(goG s' x' k' l i c' acc').1=0/\EzA n n' (goG s x k l i c acc).2.2 (goG s' x' k' l i c' acc').2.2
 | [],_,_,_,_,_,_,_,_,ha,_=>⟨Eq.refl _,ha⟩
 | st :: r,i,c,c',acc,acc',hc,ok,ok',ha,h=>by
  simp only [goG] at h ⊢
  by_cases g:(YX s x (YO s.land st.leg s.pace).1 k c).2≠0
  . rw [if_pos g] at h;simp only at h;exact absurd h g
  rw [if_neg g] at h ⊢
  have g0:(YX s x (YO s.land st.leg s.pace).1 k c).2=0:=by omega
  obtain ⟨m1,m2⟩:(YX s' x' (YO s'.land st.leg s'.pace).1 k' c').2=0/\EzC (YX s x (YO s.land st.leg s.pace).1 k c).1 (YX s' x' (YO s'.land st.leg s'.pace).1 k' c').1:=by
   unfold YX at g0 ⊢
   rw [hz.dy,hz.b]
   exact Zgd (m:=ZaL s x k) (n:=ZaL s' x' k') hb (by simp only [ZaL,hz.hrs]) hz.nn hz.ld hz.ht (Eq.refl _) hz.gr hc EzC.rfl ok ok' g0
  rw [if_neg (by rw [m1];simp)]
  have o1:=UT (x:=x) (d:=(YO s.land st.leg s.pace).1) (slabs:=k) hb ok
  have o2:=UT (s:=s') (x:=x') (d:=(YO s'.land st.leg s'.pace).1) (slabs:=k') (c:=c') (by rw [hz.b];exact hb) (by rw [hz.b];exact ok')
  rw [hz.b] at o2 ⊢
  have b1:=Go.Proofs.YtiigiflofnjilaaGreat.Cm.camel_bd hb o1
  refine ZzC hb hz hn ?_ (UY hb o1) (UY hb o2) ?_ h
  . obtain ⟨q1,q2,q3,q4,q5,q6,q7⟩:=m2
    exact ⟨Int.le_refl _,Int.le_refl _,q3,q4,q5,q6,q7⟩
  . by_cases hr:r=[]
    . rw [if_pos hr,if_pos hr];exact ha
    . rw [if_neg hr,if_neg hr]
      exact ha.snoc hn (by simp only;omega) (by have:=m2.1;simp only;omega) (hz.hs st)
theorem Zz4 {s s':Season} {x x':Scene} {k k' n n':Int} (hb:Zz s.breed=true) (hc:Zv s.breed s.camel=true) (hz:EzS s s' x x' k k') (hn:0<=n'/\n'<=n) {l:List Stop} (h:(goF s x k l).1=0) :
 (goF s' x' k' l).1=0/\EzA n n' (goF s x k l).2.2 (goF s' x' k' l).2.2:=by
 unfold goF at h ⊢
 by_cases hl:l=[]
 . rw [if_pos hl] at h ⊢
   rw [if_pos hl]
   rw [hz.b,hz.c]
   have:=hz.ld
   by_cases g:k * s.slab > (ZdJ s.breed s.camel).lo
   . rw [if_pos g] at h;simp at h
   . rw [if_neg (by omega)]
     exact ⟨Eq.refl _,fun _ q hq=>by simp at hq⟩
 . rw [if_neg hl] at h ⊢
   rw [if_neg hl,hz.c]
   exact ZzC hb hz hn EzC.rfl hc hc (fun _ q hq=>by simp at hq) h
theorem Zdl {s s':Season} {x x':Scene} {p p':Plan} (hb:Zz s.breed=true) (hc:Zv s.breed s.camel=true) (hz:EzS s s' x x' p.slabs p'.slabs) (hn:0<=p'.animals/\p'.animals<=p.animals) (hL:p'.legs=p.legs)
 (hs:Vj s' p.legs=Vj s p.legs) (ht:ZO s' p.legs=ZO s p.legs) (h:(XG s p x).1=0):(XG s' p' x').1=0:=by
 obtain ⟨a,n,k⟩:=p
 obtain ⟨a',n',k'⟩:=p'
 simp only at hL hn hs ht hz
 subst hL
 by_cases h0:n'=0
 . simp only [XG] at h ⊢
   rw [hs]
   by_cases q:Vj s a'=false
   . rw [if_pos q] at h;simp at h
   . rw [if_neg q,if_pos h0]
 . have hn0:n≠0:=by omega
   obtain ⟨q1,q2,q3⟩:=(ZlW hn0).1 h
   rw [ZlW h0,hs,ht]
   obtain ⟨r1,r2⟩:=Zz4 hb hc hz hn q2
   exact ⟨q1,r1,r2 q3⟩
theorem Zen {s:Season} (h:Zt s=true):ZA s.land=true/\ZX s.pace=true/\Zz s.breed=true/\Zv s.breed s.camel=true/\W9 s=true/\inR 0 (s.land.wells.length - 1) s.start=true/\inR 1 4 s.scenes.length=true/\∀ x ∈ s.scenes,ZG s.land.wells.length x=true:=by
 simp only [Zt,Bool.and_eq_true,decide_eq_true_eq,List.all_eq_true] at h
 obtain ⟨⟨⟨⟨⟨⟨h1,h2⟩,h3⟩,h4⟩,h5⟩,h6⟩,h7⟩:=h
 obtain ⟨e1,e2⟩:=Go.Proofs.YtiigiflofnjilaaGreat.Cm.errC_0.1 h3
 exact ⟨h1,h2,e1,e2,h4,h5,h6,h7⟩
theorem Zxj {s:Season} (h1:ZA s.land=true) (h2:ZX s.pace=true) (h3:Zz s.breed=true) (h3':Zv s.breed s.camel=true) (h4:W9 s=true) (h5:inR 0 (s.land.wells.length - 1) s.start=true) (h6:inR 1 4 s.scenes.length=true)
 (h7:∀ x ∈ s.scenes,ZG s.land.wells.length x=true):Zt s=true:=by
 simp only [Zt,Bool.and_eq_true,decide_eq_true_eq,List.all_eq_true]
 exact ⟨⟨⟨⟨⟨⟨h1,h2⟩,Go.Proofs.YtiigiflofnjilaaGreat.Cm.errC_0.2 ⟨h3,h3'⟩⟩,h4⟩,h5⟩,h6⟩,h7⟩
theorem US {s:Season} {p:Plan} (h:YM s p=true):(0<=p.animals/\p.animals<=s.herd)/\0<=p.slabs/\p.slabs<=12:=by
 simp only [YM,inR,Bool.and_eq_true,decide_eq_true_eq] at h
 omega
theorem Zf7 {s:Season} {p:Plan} {d:Int} (h:Zt s=true) (hp:YM s p=true) (hd:0<=d/\d < s.slab) (h0:(ZM s p).1=0) :
 (ZM { s with slab:=s.slab - d } p).2.2.2=0/\(ZM { s with slab:=s.slab - d } p).1=0:=by
 obtain ⟨h1,h2,h3,h3',h4,h5,h6,h7⟩:=Zen h
 have hk:Zt { s with slab:=s.slab - d }=true:=Zxj h1 h2 h3 h3' (by
  simp only [W9,inR,Bool.and_eq_true,decide_eq_true_eq] at h4 ⊢;omega) h5 h6 h7
 have hs:=US hp
 have hn:1<=s.slab:=by simp only [W9,inR,Bool.and_eq_true,decide_eq_true_eq] at h4;omega
 obtain ⟨e1,e2⟩:=YQ (s:={ s with slab:=s.slab - d }) (p:=p) hk hp
 refine ⟨e1,e2.2 fun x hx=>?_⟩
 have hx0:=(YQ h hp).2.1 h0 x hx
 refine Zdl (s:=s) (x:=x) (p:=p) h3 h3' ⟨rfl,rfl,rfl,Int.mul_nonneg hs.2.1 (by simp only;omega),Int.mul_le_mul_of_nonneg_left (by simp only;omega) hs.2.1,rfl,rfl,fun _=>rfl,fun _=>Int.le_refl _⟩ ⟨hs.1.1,Int.le_refl _⟩ rfl rfl rfl hx0
theorem ZsU {s:Season} {p:Plan} {l:List Scene} (h:Zt s=true) (hp:YM s p=true) (hl:l.Sublist s.scenes) (hne:1<=l.length) (h0:(ZM s p).1=0) :
 (ZM { s with scenes:=l } p).2.2.2=0/\(ZM { s with scenes:=l } p).1=0:=by
 obtain ⟨h1,h2,h3,h3',h4,h5,h6,h7⟩:=Zen h
 have hll:=hl.length_le
 have hk:Zt { s with scenes:=l }=true:=Zxj h1 h2 h3 h3' h4 h5 (by
  simp only [inR,decide_eq_true_eq] at h6 ⊢;omega) (fun x hx=>h7 x (hl.subset hx))
 have hs:=US hp
 have hn:1<=s.slab:=by simp only [W9,inR,Bool.and_eq_true,decide_eq_true_eq] at h4;omega
 obtain ⟨e1,e2⟩:=YQ (s:={ s with scenes:=l }) (p:=p) hk hp
 refine ⟨e1,e2.2 fun x hx=>?_⟩
 have hx0:=(YQ h hp).2.1 h0 x (hl.subset hx)
 refine Zdl (s:=s) (x:=x) (p:=p) h3 h3' ⟨rfl,rfl,rfl,Int.mul_nonneg hs.2.1 (by simp only;omega),Int.le_refl _,rfl,rfl,fun _=>rfl,fun _=>Int.le_refl _⟩ ⟨hs.1.1,Int.le_refl _⟩ rfl rfl rfl hx0
theorem ZkK {s:Season} {p:Plan} {a k:Int} (h:Zt s=true) (hp:YM s p=true) (ha:0<=a/\a<=p.animals) (hk:0<=k/\k<=p.slabs) (h0:(ZM s p).1=0) :
 YM s ⟨p.legs,a,k⟩=true/\(ZM s ⟨p.legs,a,k⟩).2.2.2=0/\(ZM s ⟨p.legs,a,k⟩).1=0:=by
 obtain ⟨h1,h2,h3,h3',h4,h5,h6,h7⟩:=Zen h
 have hs:=US hp
 have hq:YM s ⟨p.legs,a,k⟩=true:=by
  simp only [YM,inR,Bool.and_eq_true,decide_eq_true_eq] at hp ⊢
  exact ⟨⟨hp.1.1,by omega⟩,by omega⟩
 have hn:1<=s.slab:=by simp only [W9,inR,Bool.and_eq_true,decide_eq_true_eq] at h4;omega
 obtain ⟨e1,e2⟩:=YQ h hq
 refine ⟨hq,e1,e2.2 fun x hx=>?_⟩
 have hx0:=(YQ h hp).2.1 h0 x hx
 refine Zdl (s:=s) (x:=x) (p:=p) h3 h3' ⟨rfl,rfl,rfl,Int.mul_nonneg hk.1 (by omega),Int.mul_le_mul_of_nonneg_right hk.2 (by omega),rfl,rfl,fun _=>rfl,fun _=>Int.le_refl _⟩ ha rfl rfl rfl hx0
theorem ZeP {w w':List Well} {g:List Leg} {i v:Int}:WY ⟨w',g⟩ i v=WY ⟨w,g⟩ i v:=rfl
theorem ZcH {w w':List Well} {g:List Leg}:∀ {l:List Int} {v:Int} {k:Nat},X4 ⟨w',g⟩ v l k=X4 ⟨w,g⟩ v l k
 | [],_,_=>rfl
 | i :: r,v,k=>by
  simp only [X4,ZeP (w:=w) (w':=w')]
  rw [ZcH (w:=w) (w':=w') (l:=r)]
theorem ZcY {w w':List Well} {g:List Leg}:∀ {l:List Int} {v:Int} {been:List Int},YE ⟨w',g⟩ v been l=YE ⟨w,g⟩ v been l
 | [],_,_=>rfl
 | i :: r,v,been=>by
  simp only [YE,ZeP (w:=w) (w':=w')]
  rw [ZcY (w:=w) (w':=w') (l:=r)]
theorem ZgB {w w':List Well} {g:List Leg} {p:Span}:∀ {l:List Int} {v a b:Int} {k:Nat} {acc:List Stop},goS ⟨w',g⟩ p v a b l k acc=goS ⟨w,g⟩ p v a b l k acc
 | [],_,_,_,_,_=>rfl
 | i :: r,v,a,b,k,acc=>by
  simp only [goS]
  cases g[i.toNat]? with
  | none=>rfl
  | some x=>simp only;rw [ZgB (w:=w) (w':=w') (l:=r)]
theorem ZhH {w w':List Well} {g:List Leg} {p:Span} {s d:Int} {l:List Int} (h:ZA ⟨w',g⟩=ZA ⟨w,g⟩) (hl:w'.length=w.length):YZ ⟨w',g⟩ p s d l=YZ ⟨w,g⟩ p s d l:=by
 unfold YZ Zay
 rw [h,ZcH (w:=w),ZgB (w:=w)]
 simp only [hl]
theorem Zg0 {w w':List Well} {g:List Leg} {p:Span} {i:Int} (h:ZA ⟨w',g⟩=ZA ⟨w,g⟩):YO ⟨w',g⟩ i p=YO ⟨w,g⟩ i p:=by
 unfold YO Zay
 rw [h]
def ZfD (W:List Well) (d:Nat->Int):List Well:=W.mapIdx fun i w=>{ w with has:=⟨w.has.lo+d i,w.has.hi+d i⟩ }
def Ze2 (Y:List Span) (r:Nat->Int):List Span:=Y.mapIdx fun i y=>⟨y.lo+r i,y.hi+r i⟩
def ZpZ (X:List Scene) (r:Nat->Nat->Int):List Scene:=X.mapIdx fun k x=>{ x with yields:=Ze2 x.yields (r k) }
def Zaq (s:Season) (d:Nat->Int) (r:Nat->Nat->Int):Season:={ s with land:=⟨ZfD s.land.wells d,s.land.legs⟩,scenes:=ZpZ s.scenes r }
theorem Yq {W:List Well} {d:Nat->Int}:(ZfD W d).length=W.length:=by simp [ZfD]
theorem Yz {Y:List Span} {r:Nat->Int}:(Ze2 Y r).length=Y.length:=by simp [Ze2]
theorem XT {X:List Scene} {r:Nat->Nat->Int}:(ZpZ X r).length=X.length:=by simp [ZpZ]
theorem VQ {W:List Well} {d:Nat->Int} {i:Nat} (h:i < (ZfD W d).length):(ZfD W d)[i]={ W[i]'(by rw [<- Yq (d:=d)];exact h) with has:=⟨(W[i]'(by rw [<- Yq (d:=d)];exact h)).has.lo+d i,(W[i]'(by rw [<- Yq (d:=d)];exact h)).has.hi+d i⟩ }:=by simp [ZfD]
theorem Wl {Y:List Span} {r:Nat->Int} {i:Nat} (h:i < (Ze2 Y r).length):(Ze2 Y r)[i]=⟨(Y[i]'(by rw [<- Yz (r:=r)];exact h)).lo+r i,(Y[i]'(by rw [<- Yz (r:=r)];exact h)).hi+r i⟩:=by simp [Ze2]
theorem Za8 {X:List Scene} {r:Nat->Nat->Int} {k:Nat} (h:k < (ZpZ X r).length):(ZpZ X r)[k]={ X[k]'(by rw [<- XT (r:=r)];exact h) with yields:=Ze2 (X[k]'(by rw [<- XT (r:=r)];exact h)).yields (r k) }:=by simp [ZpZ]
theorem Zgw {l:Land} {d:Nat->Int} (h:ZA l=true) (hd:∀ i (hi:i < l.wells.length),0<=d i/\l.wells[i].has.hi+d i<=l.wells[i].room):ZA ⟨ZfD l.wells d,l.legs⟩=true:=by
 simp only [ZA,Bool.and_eq_true,decide_eq_true_eq,List.all_eq_true,Yq] at h ⊢
 obtain ⟨⟨⟨h1,h2⟩,h3⟩,h4⟩:=h
 refine ⟨⟨⟨h1,h2⟩,fun w hw=>?_⟩,h4⟩
 obtain ⟨i,hi,rfl⟩:=List.mem_iff_getElem.1 hw
 have hi':i < l.wells.length:=by rw [<- Yq (d:=d)];exact hi
 rw [VQ hi]
 have hw0:=h3 _ (List.getElem_mem hi')
 have hd0:=hd i hi'
 simp only [Yy,Z3,inR,Bool.and_eq_true,decide_eq_true_eq] at hw0 ⊢
 omega
theorem ZeF {n:Nat} {x:Scene} {r:Nat->Int} (h:ZG n x=true) (hr:∀ i (hi:i < x.yields.length),0<=r i/\x.yields[i].hi+r i<=10000000):ZG n { x with yields:=Ze2 x.yields r }=true:=by
 simp only [ZG,Bool.and_eq_true,decide_eq_true_eq,List.all_eq_true,Yz] at h ⊢
 obtain ⟨⟨⟨⟨⟨h1,h2⟩,h3⟩,h4⟩,h5⟩,h6⟩:=h
 refine ⟨⟨⟨⟨⟨h1,h2⟩,h3⟩,h4⟩,fun y hy=>?_⟩,h6⟩
 obtain ⟨i,hi,rfl⟩:=List.mem_iff_getElem.1 hy
 have hi':i < x.yields.length:=by rw [<- Yz (r:=r)];exact hi
 rw [Wl hi]
 have hy0:=h5 _ (List.getElem_mem hi')
 have hr0:=hr i hi'
 simp only [Z3,decide_eq_true_eq] at hy0 ⊢
 omega
theorem Zxh {s s':Season} {x:Scene} {d r:Nat->Int} {st:Stop} (hl:ZA s.land=true) (hx:ZG s.land.wells.length x=true) (hL:s'.land=⟨ZfD s.land.wells d,s.land.legs⟩)
 (hd:∀ i (hi:i < s.land.wells.length),0<=d i/\s.land.wells[i].has.hi+d i<=s.land.wells[i].room) (hr:∀ i (hi:i < x.yields.length),0<=r i/\x.yields[i].hi+r i<=10000000) :
 Zar s x st<=Zar s' { x with yields:=Ze2 x.yields r } st:=by
 have hl':ZA s'.land=true:=by rw [hL];exact Zgw hl hd
 have hlen:s'.land.wells.length=s.land.wells.length:=by rw [hL];exact Yq
 have hx':ZG s'.land.wells.length { x with yields:=Ze2 x.yields r }=true:=by rw [hlen];exact ZeF hx hr
 by_cases hin:(0<=st.well/\st.well<=(s.land.wells.length:Int) - 1)/\0<=st.arrives.lo/\st.arrives.lo<=100000
 . obtain ⟨wn,hwn⟩:∃ k:Nat,st.well=k:=⟨st.well.toNat,by omega⟩
   have hw:wn < s.land.wells.length:=by omega
   rw [ZsD hl hx hw hwn hin.2,ZsD hl' hx' (by rw [hlen];exact hw) hwn hin.2]
   have hy:x.yields.length=s.land.wells.length:=by simp only [ZG,Bool.and_eq_true,decide_eq_true_eq] at hx;omega
   have hd0:=hd wn hw
   have hr0:=hr wn (by omega)
   have eW:s'.land.wells[wn]'(by rw [hlen];exact hw)={ s.land.wells[wn] with has:=⟨s.land.wells[wn].has.lo+d wn,s.land.wells[wn].has.hi+d wn⟩ }:=by
    have:∀ (L:Land) (e:L=⟨ZfD s.land.wells d,s.land.legs⟩) (h:wn < L.wells.length),L.wells[wn]={ s.land.wells[wn] with has:=⟨s.land.wells[wn].has.lo+d wn,s.land.wells[wn].has.hi+d wn⟩ }:=by
     rintro L rfl h
     exact VQ h
    exact this _ hL _
   rw [eW]
   simp only
   rw [List.getElem?_eq_getElem (show wn < x.yields.length by omega),List.getElem?_eq_getElem (show wn < (Ze2 x.yields r).length by rw [Yz];omega),Wl]
   simp only [Option.getD_some]
   have q:=Int.mul_le_mul_of_nonneg_left (show x.yields[wn].lo<=x.yields[wn].lo+r wn by omega) (show 0<=st.arrives.lo - 1 - -1 by omega)
   omega
 . have e:∀ (s:Season) (x:Scene),ZA (Y8 s x)=true->¬ ((0<=st.well/\st.well<=((Y8 s x).wells.length:Int) - 1)/\0<=st.arrives.lo/\st.arrives.lo<=100000)->Zar s x st=0:=fun s x h1 h2=>by
    unfold Zar XP
    rw [if_neg (by rw [h1];simp),if_pos]
    rw [Bool.eq_false_iff]
    intro h3
    simp only [inR,Bool.and_eq_true,decide_eq_true_eq] at h3
    exact h2 ⟨h3.1,h3.2⟩
   have hy:x.yields.length=s.land.wells.length:=by simp only [ZG,Bool.and_eq_true,decide_eq_true_eq] at hx;omega
   rw [e s x (Go.Proofs.YtiigiflofnjilaaGreat.okLand_scened hl hx) (by simp only [Y8];rw [Ws hy];exact hin),e s' _ (Go.Proofs.YtiigiflofnjilaaGreat.okLand_scened hl' hx') (by simp only [Y8];rw [Ws (by rw [Yz,hlen];exact hy),hlen];exact hin)]
   exact Int.le_refl _
theorem ZAp {s:Season} {p:Plan} {d:Nat->Int} {r:Nat->Nat->Int} (h:Zt s=true) (hp:YM s p=true) (hd:∀ i (hi:i < s.land.wells.length),0<=d i/\s.land.wells[i].has.hi+d i<=s.land.wells[i].room)
 (hr:∀ k (hk:k < s.scenes.length) i (hi:i < s.scenes[k].yields.length),0<=r k i/\s.scenes[k].yields[i].hi+r k i<=10000000) (h0:(ZM s p).1=0) :
 (ZM (Zaq s d r) p).2.2.2=0/\(ZM (Zaq s d r) p).1=0:=by
 obtain ⟨h1,h2,h3,h3',h4,h5,h6,h7⟩:=Zen h
 have hL:=Zgw h1 hd
 have hk:Zt (Zaq s d r)=true:=by
  refine Zxj (s:=Zaq s d r) hL h2 h3 h3' h4 ?_ ?_ fun x hx=>?_
  . simp only [Zaq,Yq];exact h5
  . simp only [Zaq,XT];exact h6
  . simp only [Zaq] at hx ⊢
    obtain ⟨k,hk,rfl⟩:=List.mem_iff_getElem.1 hx
    have hk':k < s.scenes.length:=by rw [<- XT (r:=r)];exact hk
    rw [Za8 hk,Yq]
    exact ZeF (h7 _ (List.getElem_mem hk')) (hr k hk')
 have hs:=US hp
 have hn:1<=s.slab:=by simp only [W9,inR,Bool.and_eq_true,decide_eq_true_eq] at h4;omega
 have eL:(Zaq s d r).land=⟨ZfD s.land.wells d,s.land.legs⟩:=rfl
 have hpp:YM (Zaq s d r) p=true:=by
  have:YE (Zaq s d r).land (Zaq s d r).start [(Zaq s d r).start] p.legs=YE s.land s.start [s.start] p.legs:=ZcY (w:=s.land.wells)
  simp only [YM,this] at hp ⊢
  exact hp
 have hW:∀ l,YZ (Zaq s d r).land s.pace s.start s.day l=YZ s.land s.pace s.start s.day l:=fun l=>ZhH (w:=s.land.wells) (by rw [hL];exact h1.symm) Yq
 obtain ⟨e1,e2⟩:=YQ hk hpp
 refine ⟨e1,e2.2 fun x hx=>?_⟩
 have hx1:x ∈ ZpZ s.scenes r:=hx
 obtain ⟨k,hk,rfl⟩:=List.mem_iff_getElem.1 hx1
 have hk':k < s.scenes.length:=by rw [<- XT (r:=r)];exact hk
 have hx0:=(YQ h hp).2.1 h0 _ (List.getElem_mem hk')
 rw [Za8 hk]
 refine Zdl (s:=s) (x:=s.scenes[k]) (p:=p) h3 h3' ⟨rfl,rfl,rfl,Int.mul_nonneg hs.2.1 (show 0<=s.slab by omega),Int.le_refl _,rfl,rfl,fun i=>Zg0 (w:=s.land.wells) (by rw [hL];exact h1.symm),fun st=>Zxh h1 (h7 _ (List.getElem_mem hk')) eL hd (hr k hk')⟩ ⟨hs.1.1,Int.le_refl _⟩ rfl ?_ ?_ hx0
 . show Vj (Zaq s d r) p.legs=Vj s p.legs
   have:∀ l,ZO (Zaq s d r) l=ZO s l:=fun l=>by simp only [ZO];exact congrArg Prod.fst (hW l)
   simp only [Vj,this]
   have:=hW p.legs
   simp only [show (Zaq s d r).pace=s.pace from rfl,show (Zaq s d r).start=s.start from rfl,show (Zaq s d r).day=s.day from rfl,show (Zaq s d r).till=s.till from rfl,this]
 . show ZO (Zaq s d r) p.legs=ZO s p.legs
   simp only [ZO];exact congrArg Prod.fst (hW p.legs)
def dW (s:Season) (l:List W32) (j:Nat):Int:=match s.land.wells[j]? with | some w=>(atF l j).tmod (w.room - w.has.hi+1) | none=>0
def rX (s:Season) (l:List W32) (k j:Nat):Int:=match (s.scenes[k]?).bind (·.yields[j]?) with | some y=>(atF l (j+k)).tmod (10000000 - y.hi+1) | none=>0
def wWi (s:Season) (l:List W32) (i:Nat):List Well:=ZfD s.land.wells fun j=>if j < i then dW s l j else 0
def yY (s:Season) (l:List W32) (i k k':Nat) (Y:List Span):List Span:=Ze2 Y fun j=>if j < i\/(j=i/\k' < k) then rX s l k' j else 0
def Xi (s:Season) (l:List W32) (i k:Nat):List Scene:=s.scenes.mapIdx fun k' x=>{ x with yields:=yY s l i k k' x.yields }
theorem ZAD {Y:List Span}:Ze2 Y (fun _=>0)=Y:=by
 apply List.ext_getElem Yz
 intro i h1 h2
 rw [Wl];simp
theorem ZA8 {W:List Well}:ZfD W (fun _=>0)=W:=by
 apply List.ext_getElem Yq
 intro i h1 h2
 rw [VQ];simp
theorem Zg5 {W:List Well} {d d':Nat->Int} (h:∀ i,i < W.length->d i=d' i):ZfD W d=ZfD W d':=by
 apply List.ext_getElem (by rw [Yq,Yq])
 intro i h1 h2
 rw [VQ,VQ,h i (by rw [<- Yq (d:=d)];exact h1)]
theorem VV {W:List Span} {d d':Nat->Int} (h:∀ i,i < W.length->d i=d' i):Ze2 W d=Ze2 W d':=by
 apply List.ext_getElem (by rw [Yz,Yz])
 intro i h1 h2
 rw [Wl,Wl,h i (by rw [<- Yz (r:=d)];exact h1)]
theorem Zdp {s:Season} {l:List W32} {i:Nat}:(wWi s l i).length=s.land.wells.length:=Yq
theorem wWi_0 {s:Season} {l:List W32}:wWi s l 0=s.land.wells:=by
 unfold wWi;simp only [Nat.not_lt_zero,if_false];exact ZA8
theorem Zfe {s:Season} {l:List W32} {i j:Nat} (h:j < s.land.wells.length) :
 (wWi s l i)[j]? = some { s.land.wells[j] with has:=⟨s.land.wells[j].has.lo+(if j < i then dW s l j else 0),s.land.wells[j].has.hi+(if j < i then dW s l j else 0)⟩ }:=by
 unfold wWi
 rw [List.getElem?_eq_getElem (by rw [Yq];exact h),VQ]
theorem ZAB {s:Season} {l:List W32} {i:Nat} (h:i < s.land.wells.length):(wWi s l i)[i]? = some s.land.wells[i]:=by
 rw [Zfe h];simp
theorem Zn5 {s:Season} {l:List W32} {i:Nat} (h:i < s.land.wells.length):(wWi s l i).set i { s.land.wells[i] with has:=⟨s.land.wells[i].has.lo+dW s l i,s.land.wells[i].has.hi+dW s l i⟩ }=wWi s l (i+1):=by
 apply List.ext_getElem? fun j=>?_
 by_cases hj:j < s.land.wells.length
 . rw [Zfe hj]
   by_cases e:i=j
   . subst e
     rw [List.getElem?_set_self (by rw [Zdp];exact h),if_pos (by omega)]
   . rw [List.getElem?_set_ne e,Zfe hj]
     by_cases q:j < i
     . rw [if_pos q,if_pos (by omega)]
     . rw [if_neg q,if_neg (by omega)]
 . rw [List.getElem?_eq_none (by rw [List.length_set,Zdp];omega),List.getElem?_eq_none (by rw [Zdp];omega)]
theorem Zw2 {s:Season} {l:List W32}:wWi s l s.land.wells.length=ZfD s.land.wells (dW s l):=Zg5 fun i hi=>if_pos hi
theorem Zeu {s:Season} {l:List W32} {i k:Nat}:(Xi s l i k).length=s.scenes.length:=by simp [Xi]
theorem Zbw {s:Season} {l:List W32} {i k j:Nat} (h:j < s.scenes.length):(Xi s l i k)[j]? = some { s.scenes[j] with yields:=yY s l i k j s.scenes[j].yields }:=by
 unfold Xi
 rw [List.getElem?_mapIdx,List.getElem?_eq_getElem h];rfl
theorem Zbt {s:Season} {l:List W32} {i k j:Nat} (h:¬ j < s.scenes.length):(Xi s l i k)[j]? = none:=List.getElem?_eq_none (by rw [Zeu];omega)
theorem Xi_0 {s:Season} {l:List W32}:Xi s l 0 0=s.scenes:=by
 apply List.ext_getElem? fun j=>?_
 by_cases h:j < s.scenes.length
 . rw [Zbw h,List.getElem?_eq_getElem h]
   have:yY s l 0 0 j s.scenes[j].yields=s.scenes[j].yields:=by
    unfold yY
    rw [VV (d':=fun _=>0) (fun i hi=>if_neg (by omega)),ZAD]
   rw [this]
 . rw [Zbt h,List.getElem?_eq_none (by omega)]
theorem Zx0 {s:Season} {l:List W32} {i:Nat}:Xi s l i s.scenes.length=Xi s l (i+1) 0:=by
 apply List.ext_getElem? fun j=>?_
 by_cases h:j < s.scenes.length
 . rw [Zbw h,Zbw h]
   have:yY s l i s.scenes.length j s.scenes[j].yields=yY s l (i+1) 0 j s.scenes[j].yields:=VV fun q hq=>by
    by_cases e:q < i\/(q=i/\j < s.scenes.length)
    . rw [if_pos e,if_pos (by omega)]
    . rw [if_neg e,if_neg (by omega)]
   rw [this]
 . rw [Zbt h,Zbt h]
theorem Zo4 {s:Season} {l:List W32} {i k:Nat} {Y:List Span} (hi:i < Y.length):(yY s l i k k Y)[i]? = some Y[i]:=by
 unfold yY
 rw [List.getElem?_eq_getElem (by rw [Yz];exact hi),Wl]
 simp
theorem ZAF {s:Season} {l:List W32} {i k k':Nat} {Y:List Span}:(yY s l i k k' Y).length=Y.length:=Yz
theorem Zxm {s:Season} {l:List W32} {i k:Nat} {Y:List Span} (hi:i < Y.length):(yY s l i k k Y).set i ⟨Y[i].lo+rX s l k i,Y[i].hi+rX s l k i⟩=yY s l i (k+1) k Y:=by
 unfold yY
 apply List.ext_getElem (by rw [List.length_set,Yz,Yz])
 intro q h1 h2
 rw [List.getElem_set,Wl,Wl]
 by_cases e2:i=q
 . subst e2
   rw [if_pos rfl,if_pos (by omega)]
 . rw [if_neg e2]
   by_cases e3:q < i\/(q=i/\k < k)
   . rw [if_pos e3,if_pos (by omega)]
   . rw [if_neg e3,if_neg (by omega)]
theorem ZwI {s:Season} {l:List W32} {i k:Nat} (hk:k < s.scenes.length):(Xi s l i k).set k { s.scenes[k] with yields:=yY s l i (k+1) k s.scenes[k].yields }=Xi s l i (k+1):=by
 apply List.ext_getElem? fun j=>?_
 by_cases h:j < s.scenes.length
 . rw [Zbw h]
   by_cases e:k=j
   . subst e
     rw [List.getElem?_set_self (by rw [Zeu];exact h)]
   . rw [List.getElem?_set_ne e,Zbw h]
     have:yY s l i k j s.scenes[j].yields=yY s l i (k+1) j s.scenes[j].yields:=VV fun q hq=>by
      by_cases e3:q < i\/(q=i/\j < k)
      . rw [if_pos e3,if_pos (by omega)]
      . rw [if_neg e3,if_neg (by omega)]
     rw [this]
 . rw [List.getElem?_eq_none (by rw [List.length_set,Zeu];omega),Zbt h]
theorem Zy0 {s:Season} {l:List W32} {n:Nat} (h:∀ x ∈ s.scenes,x.yields.length=n):Xi s l n 0=ZpZ s.scenes (rX s l):=by
 apply List.ext_getElem? fun j=>?_
 by_cases hj:j < s.scenes.length
 . rw [Zbw hj,List.getElem?_eq_getElem (by rw [XT];exact hj),Za8]
   have:yY s l n 0 j s.scenes[j].yields=Ze2 s.scenes[j].yields (rX s l j):=VV fun q hq=>if_pos (.inl (by rw [<- h _ (List.getElem_mem hj)];exact hq))
   rw [this]
 . rw [Zbt hj,List.getElem?_eq_none (by rw [XT];omega)]
end Go.Azalai
namespace Go.Sx
open Go Go.RowKit
section
variable {P:Program}
theorem Zuf {ty:TypeId} {ax ay:Operand} {az:Array Operand} {ts:Array TypeId} {σ : St} {r:KT} {K:RK} {k v m i:Nat} {xs:List (List SV)} {T t:TypeId} {u:Nat}
 (hx:ZaQ σ ax = .ms k v m 0 i) (hy:ZaQ σ ay = .ms k v m (i+1) (xs.length - (i+1))) (hk:lkh k σ.hp = .row v m xs T) (hi:i < xs.length)
 (has:az = #[ax,ay]) (hts:ts = #[t,t]) (ht:P.underlying t=some (.slice T)) (hsz:Wf P T=some m) (hone:∀ c ∈ xs,Yv c=true)
 (h1:Xy u σ.gs=false) (h2:Nat.blt u σ.N=true) (h:r ⟨(u,.mr k (v+1)) :: σ.fr,(k,.row (v+1) m (xs.take i ++ xs.drop (i+1)) T) :: σ.hp,σ.n,σ.N,σ.gs⟩ K) :
 RAW P (some u) (.call ⟨.builtin .append,az,ts⟩) ty σ r K:=by
 intro o C E a w next Q e1 e2 e3 hS hn hq
 have hxv:=Vp hS hx (fun _ _ _=>by simp)
 have hyv:=Vp hS hy (fun _ _ _=>by simp)
 simp only [R] at hxv hyv
 obtain ⟨hnk,hvi,a0,len0,cap0,p1,p2,p3⟩:=hxv
 obtain ⟨_,_,a1,len1,cap1,r1,r2,r3⟩:=hyv
 rw [p1] at r1
 injection r1 with r1a r1b r1c
 subst r1a r1b r1c
 have hb:=hS.hs.bk k
 rw [hk] at hb
 simp only [Z2] at hb
 obtain ⟨his,hb⟩:=hb
 rcases hb with ⟨g0,_⟩ | ⟨b,cap,cs,g1,g2,g3,g4,g5,g6,g7⟩
 . rw [g0] at hi;simp at hi
 rw [p1] at g1
 injection g1 with q1 q2 q3
 subst q1 q2 q3
 have hsz':∀ w,(sizeOf T).run P w = .ok m w:=fun w=>Z4 hsz
 have hc0:cap0 - 0≠0:=by omega
 rw [if_neg hc0] at p3
 have ex:a.eval ax = .slice (some ⟨b,0,none⟩) i cap0:=by
  rw [p3];simp [Addr.add]
 have hcsl:cs.toList.length=cap0 * m:=by rw [Array.length_toList];exact g3
 have hflat:xs.flatten.length=xs.length * m:=Y2 g6
 have hsplit:xs.take (i+1) ++ xs.drop (i+1)=xs:=List.take_append_drop _ _
 have hdl:(xs.drop (i+1)).length=xs.length - (i+1):=List.length_drop
 have hfl2:(xs.drop (i+1)).flatten.length=(xs.length - (i+1)) * m:=by rw [Y2 (fun r hr=>g6 r (List.mem_of_mem_drop hr)),hdl]
 have hft:(xs.take (i+1)).flatten.length=(i+1) * m:=by rw [Y2 (fun r hr=>g6 r (List.mem_of_mem_take hr)),List.length_take,Nat.min_eq_left (by omega)]
 have hfi:(xs.take i).flatten.length=i * m:=by rw [Y2 (fun r hr=>g6 r (List.mem_of_mem_take hr)),List.length_take,Nat.min_eq_left (by omega)]
 have hlen0:xs.length * m<=cap0 * m:=Nat.mul_le_mul_right m g4.1
 have him:(i+1) * m+(xs.length - (i+1)) * m=xs.length * m:=by rw [<- Nat.add_mul];congr 1;omega
 have sp:∀ {a b:List SV} {ys:List Value},RL w E (ltn σ.n) (okS C E σ.hp) (a ++ b) ys->RL w E (ltn σ.n) (okS C E σ.hp) a (ys.take a.length)/\RL w E (ltn σ.n) (okS C E σ.hp) b (ys.drop a.length):=by
  intro a
  induction a with
  | nil=>intro b ys hh;exact ⟨by simp [RL],by simpa using hh⟩
  | cons s a ih =>
   intro b ys hh
   simp only [List.cons_append,RL] at hh
   obtain ⟨y,rr,rfl,k1,k2⟩:=hh
   obtain ⟨j1,j2⟩:=ih k2
   simp only [List.length_cons,List.take_succ_cons,List.drop_succ_cons]
   exact ⟨by simp only [RL];exact ⟨_,_,rfl,k1,j1⟩,j2⟩
 have g7':RL w E (ltn σ.n) (okS C E σ.hp) ((xs.take (i+1)).flatten ++ (xs.drop (i+1)).flatten) (cs.toList.take (xs.length * m)):=by
  rw [<- List.flatten_append,hsplit];exact g7
 obtain ⟨_,y2⟩:=sp g7'
 have y1:RL w E (ltn σ.n) (okS C E σ.hp) (xs.take i).flatten (cs.toList.take (i * m)):=by
  have g8:RL w E (ltn σ.n) (okS C E σ.hp) ((xs.take i).flatten ++ (xs.drop i).flatten) (cs.toList.take (xs.length * m)):=by
   rw [<- List.flatten_append,List.take_append_drop];exact g7
  have:=(sp g8).1
  rw [hfi,List.take_take,Nat.min_eq_left (Nat.mul_le_mul_right m (by omega))] at this
  exact this
 rw [hft] at y2
 generalize hcy:(cs.toList.take (xs.length * m)).drop ((i+1) * m)=cy at y2
 have hcyl:cy.length=(xs.length - (i+1)) * m:=by rw [<- hfl2];exact ZF y2
 have hcell:∀ j c,cy[j]? = some c->w.cell? ⟨b,(i+1) * m+j,none⟩=some c:=by
  intro j c hj
  rw [<- hcy,List.getElem?_drop,List.getElem?_take] at hj
  split at hj
  . simp only [World.cell?,g2]
    rw [Array.getElem?_toList] at hj
    simpa using hj
  . cases hj
 have hone':∀ z ∈ cy,z.oneCell'=true:=by
  have:Yv (xs.drop (i+1)).flatten=true:=by
   have:∀ l:List (List SV),(∀ c ∈ l,Yv c=true)->Yv l.flatten=true:=by
    intro l
    induction l with
    | nil=>intro _;rfl
    | cons c l ih=>intro hh;rw [List.flatten_cons];exact VO (hh c (by simp)) (ih (fun d hd=>hh d (by simp [hd])))
   exact this _ (fun c hc=>hone c (List.mem_of_mem_drop hc))
  exact Xe this y2
 obtain ⟨a2,ey,hsh⟩:∃ a2,a.eval ay = .slice a2 (xs.length - (i+1)) (cap0 - (i+1))/\Um w (.slice a2 (xs.length - (i+1)) (cap0 - (i+1))) m (xs.length - (i+1)) cy:=by
  refine ⟨_,r3,_,_,rfl,by omega,hcyl,?_⟩
  by_cases hl0:xs.length - (i+1)=0
  . exact .inl hl0
  . refine .inr ⟨b,(i+1) * m,?_,hcell⟩
    rw [if_neg (show ¬ cap0 - (i+1)=0 by omega)]
    simp [Addr.add]
    intro e;exact e.symm
 have hf:=Z9 (P:=P) (w':=w) hsh (fun _=>rfl)
 have hle:i * m+cy.length<=cs.toList.length:=by
  rw [hcyl,hcsl,<- Nat.add_mul]
  exact Nat.mul_le_mul_right m (by omega)
 obtain ⟨w',s1,s2⟩:=YW (P:=P) cy (w:=w) (b:=b) (o:=i * m) (i:=0) (cs:=cs.toList) (T:=T) (by simpa using g2) (by simpa using hle) hone'
 have hfit:i+(xs.length - (i+1))<=cap0:=by omega
 have hrun:(Builtin.append_ #[t,t] ty #[a.eval ax,a.eval ay]).run P w = .ok (.slice (some ⟨b,0,none⟩) (i+(xs.length - (i+1))) cap0) w':=by
  rw [ex,ey]
  simp only [Builtin.append_]
  simp [Sem.run_bind,run_underlying ht,hsz',Builtin.lenOf,hfit,hf,Y4]
  rw [s1];rfl
 have hxl:(xs.take i ++ xs.drop (i+1)).length=i+(xs.length - (i+1)):=by simp;omega
 obtain ⟨E',g1',g2',g3',g4',g5',g6'⟩:=Zgx (w':=w') (xs':=xs.take i ++ xs.drop (i+1)) (y:=.slice (some ⟨b,0,none⟩) (i+(xs.length - (i+1))) cap0) hS.hs hk s2.os s2.tape s2.output (Nat.le_of_eq s2.size.symm)
  (fun b' hb hno=>s2.same b' (fun e=>by subst e;exact hno (by rw [hk];exact ⟨_,_,p1,g4.2⟩)))
  (.inr ⟨b,cap0,(ZH cs.toList (i * m) cy).toArray,by rw [hxl],.inl (by rw [hk];exact ⟨_,_,p1,g4.2⟩),by have:=s2.here;simpa using this,by rw [List.size_toArray,ZQ];exact hcsl,⟨by rw [hxl];exact hfit,g4.2⟩,by rw [hxl];omega,
   fun q hq=>by rcases List.mem_append.1 hq with hq | hq;exact g6 q (List.mem_of_mem_take hq);exact g6 q (List.mem_of_mem_drop hq),by
    rw [hxl,List.flatten_append,Nat.add_mul,<- hcyl,List.toList_toArray,Xf (Nat.le_refl _) hle]
    have e1:ZH (List.take (i * m+cy.length) cs.toList) (i * m) cy=List.take (i * m) cs.toList ++ cy:=by
     rw [VM _ _ _ (by rw [List.length_take,Nat.min_eq_left hle];exact Nat.le_refl _),List.take_take,Nat.min_eq_left (by omega),List.drop_of_length_le (by rw [List.length_take,Nat.min_eq_left hle];exact Nat.le_refl _),List.append_nil]
    rw [e1]
    exact Yf y1 y2⟩)
 have hx:(execOp a.eval o).run P w = .ok (.value (.slice (some ⟨b,0,none⟩) (i+(xs.length - (i+1))) cap0)) w':=by
  obtain ⟨dst',op',ty',pos,after,guard⟩:=o
  simp only at e2 e3;subst e2;subst e3
  subst has hts
  simp [execOp,resolve,invoke,builtin,hrun]
 refine ZD hx (by simp) ?_
 show next (a.put o.dst _) w'
 rw [e1]
 exact hn _ E' _ _ h (XM (σ:=σ) (hp':=(k,.row (v+1) m (xs.take i ++ xs.drop (i+1)) T) :: σ.hp) hS g6' g1' (Nat.le_refl _) g5' (fun hh=>by rw [ZV.2 hh] at h1;cases h1) (by simpa [Nat.blt_eq] using h2) (fun _ _ _ e=>by cases e)
  (by simp only [R];exact ⟨g4',by omega,g2'.symm,rfl⟩))
end
end Go.Sx
namespace Go.Proofs.YtiigiflofnjilaaGreat
open Go Go.Sx Go.Azalai
theorem Zkx (s:Season) (p:Plan) (l:List W32) (hl:l.length<=9223372036854775807) (c:Bool):Ct Tryz.prog 9 [.agg (Zn s),.agg (Zy p),.sl c 1 (l.map VR)] (B true):=by
 refine te9.1 (by simp [Zn,Zy,Zh,Ze,Zm,Zg,Zd,Zo,Za,VR,U32,KFL,KF]) (by simp [KFL,KF]) ?_
 dsimp only [ce9,re9,Zn,Zy,go_sem,rA,rM,rS]
 refine call ZrJ ?_
 dsimp only [go_sem,rA,rM,rS]
 refine Zx rfl ?_
 dsimp only [go_sem,rA,rM,rS]
 refine call (ZqX s p) ?_
 dsimp only [go_sem,rA,rM,rS]
 by_cases hr:WD s p=true
 case neg =>
  refine Zu (by simpa using hr) ?_
  dsimp only [go_sem,rA,rM,rS]
 refine Zx (by simpa using hr) ?_
 dsimp only [go_sem,rA,rM,rS]
 obtain ⟨hgr,h,hlegs,hp,htill⟩:=Zie hr
 have hn:=h.num
 have hs:=h.small
 have hH:=YQ h.ok hp
 obtain ⟨k1,k2,k3,k3',k4,k5,k6,k7⟩:=Zen h.ok
 have hw12:=(VK k1).2.1
 have hsc4:s.scenes.length<=4:=by simp only [inR,decide_eq_true_eq] at k6;omega
 refine call (YJ s hs p (by omega)) ?_
 dsimp only [Xk,go_sem,rA,rM,rS]
 rw [hH.1]
 simp only [show ((0:Int) != 0)=false from rfl]
 repeat (refine Y1 rfl ?_;dsimp only [go_sem,rA,rM,rS])
 by_cases h0:(ZM s p).1=0
 case neg =>
  refine Zu (by simpa using h0) ?_
  dsimp only [go_sem,rA,rM,rS]
  repeat (refine Y1 rfl ?_;dsimp only [go_sem,rA,rM,rS])
  rfl
 refine Zx (by simpa using h0) ?_
 dsimp only [go_sem,rA,rM,rS]
 refine gh (Yg (σ':=ez0 p c l s) ?_ Zp7) ?_
 . (refine Zk ?_ ?_ ?_ rfl rfl<;>dsimp only [ez0,ez1,Z7,Zn,Zy,Zh,Ze,Zm,Zg,Zd,Zo,ZK,WF,VR,U32,id,go_sem,rA,rM,rS]<;>simp [ez0,ez1,Z7,Zn,Zy,Zh,Ze,Zm,Zg,Zd,Zo,ZK,WF,VR,U32,Za,Zf,KFR,KFL,KF,Zc,mtO,nbr])
 show LAT _ _ _ _ 12 _ _ _
 refine ezReg hs ?_
 intro σF eF
 subst eF
 dsimp only [ez1,Z7,Zn,Zy,go_sem,rA,rM,rS]
 refine call (ZaM l 0 0 rfl hl (by omega) c) ?_
 dsimp only [U32,go_sem,rA,rM,rS]
 have hat:∀ i,0<=atF l i/\atF l i<=4294967295:=fun i=>⟨(ZsJ l i).1,by have:=(ZsJ l i).2;omega⟩
 have ha0:=hat 0
 rw [Zi (n:=atF l 0) (by omega) (by omega)]
 refine Zd2 (by omega) ?_
 dsimp only [Zf2,go_sem,rA,rM,rS]
 have hd0:0<=(atF l 0).tmod s.slab/\(atF l 0).tmod s.slab < s.slab:=⟨Int.tmod_nonneg _ ha0.1,Int.tmod_lt_of_pos _ (by omega)⟩
 generalize (atF l 0).tmod s.slab=d0 at hd0
 rw [Zi (n:=s.slab - d0) (by omega) (by omega)]
 try simp only [List.length_map]
 refine WU [87,86,2,3,4,7,12,13,14] rfl (fun i:Nat=>[(87,I i)]) (fun i=>[(4,.rws 0 6 ((Xi s l i 0).map ZK) 72 4 2 ((Xi s l i 0).map WF) 27),(3,.row 0 9 ((wWi s l i).map Ze) 88)])
  (fun i=>i<=s.land.wells.length) (fun i=>s.land.wells.length - i) 0 (Nat.zero_le _) ?_ ?_
 . dsimp only [go_sem,rA,rM,rS]
   simp only [Xi_0,wWi_0]
   (refine Zk ?_ ?_ ?_ rfl rfl<;>dsimp only [Zy,Zh,Ze,Zm,Zg,Zd,Zo,ZK,WF,VR,U32,id,go_sem,rA,rM,rS]<;>simp [Zy,Zh,Ze,Zm,Zg,Zd,Zo,ZK,WF,VR,U32,Za,Zf,KFR,KFL,KF,Zc,mtO,nbr])
 intro i hi
 dsimp only [go_sem,rA,rM,rS]
 by_cases hlt:i < s.land.wells.length
 . refine Zu (by simpa using hlt) ?_
   dsimp only [go_sem,rA,rM,rS]
   have hwl:i < (wWi s l i).length:=by rw [Zdp];exact hlt
   have hwa:(wWi s l i)[i]=s.land.wells[i]:=by
    have:=ZAB (l:=l) hlt
    rw [List.getElem?_eq_getElem hwl] at this
    exact Option.some.inj this
   refine UA i rfl (by simpa using hwl) ?_
   dsimp only [go_sem,rA,rM,rS]
   refine call (ZaM l i i rfl hl (by omega) c) ?_
   dsimp only [U32,go_sem,rA,rM,rS]
   refine ZcE hwl ?_
   rw [hwa]
   dsimp only [Ze,go_sem,rA,rM,rS]
   refine ZcE hwl ?_
   rw [hwa]
   dsimp only [Ze,go_sem,rA,rM,rS]
   have hwk:=Up k1 s.land.wells[i] (List.getElem_mem _)
   simp only [Yy,Z3,inR,Bool.and_eq_true,decide_eq_true_eq] at hwk
   have ha:=hat i
   rw [Zi (n:=atF l i) (by omega) (by omega),Zi (n:=s.land.wells[i].room - s.land.wells[i].has.hi) (by omega) (by omega),Zi (n:=s.land.wells[i].room - s.land.wells[i].has.hi+1) (by omega) (by omega)]
   refine Zd2 (by omega) ?_
   dsimp only [Zf2,go_sem,rA,rM,rS]
   have hm0:0<=(atF l i).tmod (s.land.wells[i].room - s.land.wells[i].has.hi+1)/\(atF l i).tmod (s.land.wells[i].room - s.land.wells[i].has.hi+1) < s.land.wells[i].room - s.land.wells[i].has.hi+1:=⟨Int.tmod_nonneg _ ha.1,Int.tmod_lt_of_pos _ (by omega)⟩
   have hdW:dW s l i=(atF l i).tmod (s.land.wells[i].room - s.land.wells[i].has.hi+1):=by unfold dW;rw [List.getElem?_eq_getElem hlt]
   rw [<- hdW] at hm0
   rw [<- hdW]
   refine ZcE hwl ?_
   rw [hwa]
   dsimp only [Ze,go_sem,rA,rM,rS]
   refine ZcE hwl ?_
   rw [hwa]
   dsimp only [Ze,go_sem,rA,rM,rS]
   rw [Zi (n:=s.land.wells[i].has.lo+dW s l i) (by omega) (by omega),Zi (n:=s.land.wells[i].has.hi+dW s l i) (by omega) (by omega)]
   refine call (UJ _ _) ?_
   dsimp only [Zd,go_sem,rA,rM,rS]
   refine ZiI { s.land.wells[i] with has:=⟨s.land.wells[i].has.lo+dW s l i,s.land.wells[i].has.hi+dW s l i⟩ } hwl (by simp [Ze]) (by rw [hwa];simp [Ze,Zs]) ?_
   rw [Zn5 hlt]
   dsimp only [go_sem,rA,rM,rS]
   refine ⟨0,6,_,_,rfl,rfl,?_⟩
   simp only [Xq,List.length_map,Zeu]
   refine WU [132,131,87,86,15,2,3,4,7,12,13,14] rfl (fun k:Nat=>[(132,I k)]) (fun k=>[(4,.rws 0 6 ((Xi s l i k).map ZK) 72 4 2 ((Xi s l i k).map WF) 27)]) (fun k=>k<=s.scenes.length) (fun k=>s.scenes.length - k) 0 (Nat.zero_le _) ?_ ?_
   . (refine Zk ?_ ?_ ?_ rfl rfl<;>dsimp only [Zy,Zh,Ze,Zm,Zg,Zd,Zo,ZK,WF,VR,U32,id,go_sem,rA,rM,rS]<;>simp [Zy,Zh,Ze,Zm,Zg,Zd,Zo,ZK,WF,VR,U32,Za,Zf,KFR,KFL,KF,Zc,mtO,nbr])
   intro k hk
   dsimp only [go_sem,rA,rM,rS]
   by_cases hltk:k < s.scenes.length
   . refine Zu (by simpa using hltk) ?_
     dsimp only [go_sem,rA,rM,rS]
     have hXl:k < (Xi s l i k).length:=by rw [Zeu];exact hltk
     have hX:(Xi s l i k)[k]? = some { s.scenes[k] with yields:=yY s l i k k s.scenes[k].yields }:=Zbw hltk
     have hXk:(Xi s l i k)[k]={ s.scenes[k] with yields:=yY s l i k k s.scenes[k].yields }:=by
      rw [List.getElem?_eq_getElem hXl] at hX
      exact Option.some.inj hX
     have hsk:=k7 _ (List.getElem_mem hltk)
     have hyl:s.scenes[k].yields.length=s.land.wells.length:=by simp only [ZG,Bool.and_eq_true,decide_eq_true_eq] at hsk;omega
     have hyi:i < s.scenes[k].yields.length:=by omega
     have hyk:Z3 0 10000000 s.scenes[k].yields[i]=true:=by
      simp only [ZG,Bool.and_eq_true,List.all_eq_true] at hsk
      exact hsk.1.2 _ (List.getElem_mem hyi)
     simp only [Z3,decide_eq_true_eq] at hyk
     refine ZdX k rfl (by simpa using hXl) ?_
     dsimp only [go_sem,rA,rM,rS]
     refine ZBe (row:=ZK { s.scenes[k] with yields:=yY s l i k k s.scenes[k].yields }) (by rw [List.getElem?_map,hX];rfl) (by simpa using hXl) ?_
     simp only [ZK,List.set_cons_succ,List.set_cons_zero]
     dsimp only [go_sem,rA,rM,rS]
     refine Zz6 (rows:=(yY s l i k k s.scenes[k].yields).map Zd) k i (by omega) (by rw [List.getElem?_map,hX];rfl) rfl (by rw [List.length_map,ZAF];exact hyi) ?_
     dsimp only [go_sem,rA,rM,rS]
     rw [Zi (n:=(i:Int)+(k:Int)) (by omega) (by omega)]
     refine call (ZaM l _ (i+k) (by omega) hl (by omega) c) ?_
     dsimp only [U32,go_sem,rA,rM,rS]
     refine ZlU (row:=Zd s.scenes[k].yields[i]) (rows:=(yY s l i k k s.scenes[k].yields).map Zd) k (by omega) (by rw [List.getElem?_map,hX];rfl) (by rw [List.getElem?_map,Zo4 hyi];rfl) ?_
     dsimp only [Zd,go_sem,rA,rM,rS]
     have ha:=hat (i+k)
     rw [Zi (n:=atF l (i+k)) (by omega) (by omega),Zi (n:=10000000 - s.scenes[k].yields[i].hi) (by omega) (by omega),Zi (n:=10000000 - s.scenes[k].yields[i].hi+1) (by omega) (by omega)]
     refine Zd2 (by omega) ?_
     dsimp only [Zf2,go_sem,rA,rM,rS]
     have hm1:0<=(atF l (i+k)).tmod (10000000 - s.scenes[k].yields[i].hi+1)/\(atF l (i+k)).tmod (10000000 - s.scenes[k].yields[i].hi+1) < 10000000 - s.scenes[k].yields[i].hi+1:=⟨Int.tmod_nonneg _ ha.1,Int.tmod_lt_of_pos _ (by omega)⟩
     have hrX:rX s l k i=(atF l (i+k)).tmod (10000000 - s.scenes[k].yields[i].hi+1):=by
      unfold rX
      rw [List.getElem?_eq_getElem hltk]
      simp only [Option.bind_some]
      rw [List.getElem?_eq_getElem hyi]
     rw [<- hrX] at hm1
     rw [<- hrX]
     refine ZlU (row:=Zd s.scenes[k].yields[i]) (rows:=(yY s l i k k s.scenes[k].yields).map Zd) k (by omega) (by rw [List.getElem?_map,hX];rfl) (by rw [List.getElem?_map,Zo4 hyi];rfl) ?_
     dsimp only [Zd,go_sem,rA,rM,rS]
     refine ZlU (row:=Zd s.scenes[k].yields[i]) (rows:=(yY s l i k k s.scenes[k].yields).map Zd) k (by omega) (by rw [List.getElem?_map,hX];rfl) (by rw [List.getElem?_map,Zo4 hyi];rfl) ?_
     dsimp only [Zd,go_sem,rA,rM,rS]
     rw [Zi (n:=s.scenes[k].yields[i].lo+rX s l k i) (by omega) (by omega),Zi (n:=s.scenes[k].yields[i].hi+rX s l k i) (by omega) (by omega)]
     refine call (UJ _ _) ?_
     dsimp only [Zd,go_sem,rA,rM,rS]
     refine Zz9 k { s.scenes[k] with yields:=yY s l i (k+1) k s.scenes[k].yields } (by omega) hXl (row:=Zd s.scenes[k].yields[i]) (by rw [hXk];simp only [WF];rw [List.getElem?_map,Zo4 hyi];rfl) (by simp [Zd]) (by
      rw [hXk]
      simp only [WF]
      rw [<- Zxm hyi,List.map_set]
      rfl) (by rw [hXk];rfl) ?_
     rw [ZwI hltk]
     dsimp only [go_sem,rA,rM,rS]
     rw [Zi (n:=(k:Int)+1) (by omega) (by omega)]
     refine ⟨k+1,hltk,by omega,?_⟩
     (refine Zk ?_ ?_ ?_ rfl rfl<;>dsimp only [Zy,Zh,Ze,Zm,Zg,Zd,Zo,ZK,WF,VR,U32,id,go_sem,rA,rM,rS]<;>simp [Zy,Zh,Ze,Zm,Zg,Zd,Zo,ZK,WF,VR,U32,Za,Zf,KFR,KFL,KF,Zc,mtO,nbr])
   refine Zx (by simpa using hltk) ?_
   dsimp only [go_sem,rA,rM,rS]
   have hke:k=s.scenes.length:=by omega
   subst hke
   rw [Zx0,Zi (n:=(i:Int)+1) (by omega) (by omega)]
   refine ⟨i+1,hlt,by omega,?_⟩
   (refine Zk ?_ ?_ ?_ rfl rfl<;>dsimp only [Zy,Zh,Ze,Zm,Zg,Zd,Zo,ZK,WF,VR,U32,id,go_sem,rA,rM,rS]<;>simp [Zy,Zh,Ze,Zm,Zg,Zd,Zo,ZK,WF,VR,U32,Za,Zf,KFR,KFL,KF,Zc,mtO,nbr])
 refine Zx (by simpa using hlt) ?_
 dsimp only [go_sem,rA,rM,rS]
 have hie:i=s.land.wells.length:=by omega
 subst hie
 rw [Zw2,Zy0 (n:=s.land.wells.length) (fun x hx=>by have:=k7 x hx;simp only [ZG,Bool.and_eq_true,decide_eq_true_eq] at this;omega)]
 simp only [List.length_map]
 have hpa:=US hp
 have hqd:∀ i (hi:i < s.land.wells.length),0<=dW s l i/\s.land.wells[i].has.hi+dW s l i<=s.land.wells[i].room:=fun i hi=>by
  have hwk:=Up k1 s.land.wells[i] (List.getElem_mem _)
  simp only [Yy,Z3,inR,Bool.and_eq_true,decide_eq_true_eq] at hwk
  have ha:=hat i
  have e:dW s l i=(atF l i).tmod (s.land.wells[i].room - s.land.wells[i].has.hi+1):=by unfold dW;rw [List.getElem?_eq_getElem hi]
  have b1:=Int.tmod_nonneg (s.land.wells[i].room - s.land.wells[i].has.hi+1) ha.1
  have b2:=Int.tmod_lt_of_pos (atF l i) (show 0 < s.land.wells[i].room - s.land.wells[i].has.hi+1 by omega)
  omega
 have hqr:∀ k (hk:k < s.scenes.length) i (hi:i < s.scenes[k].yields.length),0<=rX s l k i/\s.scenes[k].yields[i].hi+rX s l k i<=10000000:=fun k hk i hi=>by
  have hsk:=k7 _ (List.getElem_mem hk)
  have hyk:Z3 0 10000000 s.scenes[k].yields[i]=true:=by
   simp only [ZG,Bool.and_eq_true,List.all_eq_true] at hsk
   exact hsk.1.2 _ (List.getElem_mem hi)
  simp only [Z3,decide_eq_true_eq] at hyk
  have ha:=hat (i+k)
  have e:rX s l k i=(atF l (i+k)).tmod (10000000 - s.scenes[k].yields[i].hi+1):=by
   unfold rX
   rw [List.getElem?_eq_getElem hk]
   simp only [Option.bind_some]
   rw [List.getElem?_eq_getElem hi]
  have b1:=Int.tmod_nonneg (10000000 - s.scenes[k].yields[i].hi+1) ha.1
  have b2:=Int.tmod_lt_of_pos (atF l (i+k)) (show 0 < 10000000 - s.scenes[k].yields[i].hi+1 by omega)
  omega
 have q2:=ZAp (d:=dW s l) (r:=rX s l) h.ok hp hqd hqr h0
 have hsW:SmallS (Zaq s (dW s l) (rX s l)):=by
  refine ⟨⟨by simp only [Zaq,Yq];exact hs.land.1,hs.land.2.1,hs.land.2.2⟩,by simp only [Zaq,XT];exact hs.sc,fun x hx=>?_⟩
  have hx1:x ∈ ZpZ s.scenes (rX s l):=hx
  obtain ⟨j,hj,rfl⟩:=List.mem_iff_getElem.1 hx1
  have hj':j < s.scenes.length:=by rw [<- XT (r:=rX s l)];exact hj
  rw [Za8 hj]
  simp only [Yz]
  exact hs.each _ (List.getElem_mem hj')
 by_cases hone:s.scenes.length > 1
 . refine Zu (by simp;omega) ?_
   dsimp only [go_sem,rA,rM,rS]
   refine call (ZaM l 1 1 rfl hl (by omega) c) ?_
   dsimp only [U32,go_sem,rA,rM,rS]
   have ha1:=hat 1
   rw [Zi (n:=atF l 1) (by omega) (by omega)]
   refine Zd2 (by omega) ?_
   dsimp only [Zf2,go_sem,rA,rM,rS]
   obtain ⟨kn,hkn⟩:∃ n:Nat,(atF l 1).tmod (s.scenes.length:Int)=n:=⟨((atF l 1).tmod (s.scenes.length:Int)).toNat,by have:=Int.tmod_nonneg (s.scenes.length:Int) ha1.1;omega⟩
   have hkl:kn < s.scenes.length:=by have:=Int.tmod_lt_of_pos (atF l 1) (show (0:Int) < s.scenes.length by omega);omega
   rw [hkn]
   refine ⟨0,kn,ZB.2 fun _=>⟨rfl,rfl,by omega,by simp;omega⟩,?_⟩
   dsimp only [go_sem,rA,rM,rS]
   rw [Zi (n:=(kn:Int)+1) (by omega) (by omega)]
   refine ⟨kn+1,(s.scenes.map Zh).length,ZB.2 fun _=>⟨by omega,rfl,by simp;omega,by simp⟩,?_⟩
   dsimp only [go_sem,rA,rM,rS]
   refine Zuf (k:=5) (v:=0) (m:=6) (i:=kn) (xs:=s.scenes.map Zh) (T:=72) (t:=32) rfl rfl rfl (by simpa using hkl) rfl rfl (by kernel_rfl) (by kernel_rfl) (fun q hq=>by obtain ⟨x,_,rfl⟩:=List.mem_map.1 hq;simp [Zh,Yv,ZaT,ZiK]) rfl rfl ?_
   rw [show List.take kn (s.scenes.map Zh) ++ List.drop (kn+1) (s.scenes.map Zh)=(s.scenes.take kn ++ s.scenes.drop (kn+1)).map Zh from by simp [List.map_take,List.map_drop]]
   dsimp only [go_sem,rA,rM,rS]
   have hFs:(s.scenes.take kn ++ s.scenes.drop (kn+1)).Sublist s.scenes:=by
    have:=(List.Sublist.refl (s.scenes.take kn)).append (List.drop_sublist_drop_left s.scenes (show kn<=kn+1 by omega))
    rwa [List.take_append_drop] at this
   have hFl:1<=(s.scenes.take kn ++ s.scenes.drop (kn+1)).length:=by simp;omega
   generalize s.scenes.take kn ++ s.scenes.drop (kn+1)=F at hFs hFl
   have q3:=ZsU h.ok hp hFs hFl h0
   have hsF:SmallS { s with scenes:=F }:=⟨hs.land,by have:=hFs.length_le;have:=hs.sc;simp only;omega,fun x hx=>hs.each x (hFs.subset hx)⟩
   refine call (ZaM l 2 2 rfl hl (by omega) c) ?_
   dsimp only [U32,go_sem,rA,rM,rS]
   have ha2:=hat 2
   have hd2:0<=(atF l 2).tmod (p.animals+1)/\(atF l 2).tmod (p.animals+1) < p.animals+1:=⟨Int.tmod_nonneg _ ha2.1,Int.tmod_lt_of_pos _ (by omega)⟩
   rw [Zi (n:=atF l 2) (by omega) (by omega),Zi (n:=p.animals+1) (by omega) (by omega)]
   refine Zd2 (by omega) ?_
   dsimp only [Zf2,go_sem,rA,rM,rS]
   generalize (atF l 2).tmod (p.animals+1)=d2 at hd2
   rw [Zi (n:=p.animals - d2) (by omega) (by omega)]
   refine call (ZaM l 3 3 rfl hl (by omega) c) ?_
   dsimp only [U32,go_sem,rA,rM,rS]
   have ha3:=hat 3
   have hd3:0<=(atF l 3).tmod (p.slabs+1)/\(atF l 3).tmod (p.slabs+1) < p.slabs+1:=⟨Int.tmod_nonneg _ ha3.1,Int.tmod_lt_of_pos _ (by omega)⟩
   rw [Zi (n:=atF l 3) (by omega) (by omega),Zi (n:=p.slabs+1) (by omega) (by omega)]
   refine Zd2 (by omega) ?_
   dsimp only [Zf2,go_sem,rA,rM,rS]
   generalize (atF l 3).tmod (p.slabs+1)=d3 at hd3
   rw [Zi (n:=p.slabs - d3) (by omega) (by omega)]
   have q1:=Zf7 h.ok hp hd0 h0
   refine UF (by simp [FLT,ZiH,Xk]) (res:=Xk (ZM { s with slab:=s.slab - d0 } p)) ?_ ?_
   . dsimp only [go_sem,rA,rM,rS]
     exact YJ { s with slab:=s.slab - d0 } ⟨hs.land,hs.sc,hs.each⟩ p (by omega)
   dsimp only [Xk,go_sem,rA,rM,rS]
   refine UF (by simp [FLT,ZiH,Xk]) (res:=Xk (ZM (Zaq s (dW s l) (rX s l)) p)) ?_ ?_
   . dsimp only [go_sem,rA,rM,rS]
     rw [Zdn]
     exact YJ (Zaq s (dW s l) (rX s l)) hsW p (by omega)
   dsimp only [Xk,go_sem,rA,rM,rS]
   refine UF (by simp [FLT,ZiH,Xk]) (res:=Xk (ZM { s with scenes:=F } p)) ?_ ?_
   . dsimp only [go_sem,rA,rM,rS]
     exact YJ { s with scenes:=F } hsF p (by omega)
   dsimp only [Xk,go_sem,rA,rM,rS]
   obtain ⟨q4,q5,q6⟩:=ZkK (a:=p.animals - d2) (k:=p.slabs - d3) h.ok hp (by omega) (by omega) h0
   refine call (YJ s hs ⟨p.legs,p.animals - d2,p.slabs - d3⟩ (by simp only;omega)) ?_
   dsimp only [Xk,go_sem,rA,rM,rS]
   simp only [q1.1,q1.2,q2.1,q2.2,q3.1,q3.2,q5,q6,show ((0:Int) == 0)=true from rfl]
   repeat (refine Y1 rfl ?_;dsimp only [go_sem,rA,rM,rS])
   rfl
 refine Zx (by simp;omega) ?_
 dsimp only [go_sem,rA,rM,rS]
 have q3:=ZsU h.ok hp (List.Sublist.refl s.scenes) (by simp only [inR,decide_eq_true_eq] at k6;omega) h0
 have hsF:SmallS { s with scenes:=s.scenes }:=hs
 refine call (ZaM l 2 2 rfl hl (by omega) c) ?_
 dsimp only [U32,go_sem,rA,rM,rS]
 have ha2:=hat 2
 have hd2:0<=(atF l 2).tmod (p.animals+1)/\(atF l 2).tmod (p.animals+1) < p.animals+1:=⟨Int.tmod_nonneg _ ha2.1,Int.tmod_lt_of_pos _ (by omega)⟩
 rw [Zi (n:=atF l 2) (by omega) (by omega),Zi (n:=p.animals+1) (by omega) (by omega)]
 refine Zd2 (by omega) ?_
 dsimp only [Zf2,go_sem,rA,rM,rS]
 generalize (atF l 2).tmod (p.animals+1)=d2 at hd2
 rw [Zi (n:=p.animals - d2) (by omega) (by omega)]
 refine call (ZaM l 3 3 rfl hl (by omega) c) ?_
 dsimp only [U32,go_sem,rA,rM,rS]
 have ha3:=hat 3
 have hd3:0<=(atF l 3).tmod (p.slabs+1)/\(atF l 3).tmod (p.slabs+1) < p.slabs+1:=⟨Int.tmod_nonneg _ ha3.1,Int.tmod_lt_of_pos _ (by omega)⟩
 rw [Zi (n:=atF l 3) (by omega) (by omega),Zi (n:=p.slabs+1) (by omega) (by omega)]
 refine Zd2 (by omega) ?_
 dsimp only [Zf2,go_sem,rA,rM,rS]
 generalize (atF l 3).tmod (p.slabs+1)=d3 at hd3
 rw [Zi (n:=p.slabs - d3) (by omega) (by omega)]
 have q1:=Zf7 h.ok hp hd0 h0
 refine UF (by simp [FLT,ZiH,Xk]) (res:=Xk (ZM { s with slab:=s.slab - d0 } p)) ?_ ?_
 . dsimp only [go_sem,rA,rM,rS]
   exact YJ { s with slab:=s.slab - d0 } ⟨hs.land,hs.sc,hs.each⟩ p (by omega)
 dsimp only [Xk,go_sem,rA,rM,rS]
 refine UF (by simp [FLT,ZiH,Xk]) (res:=Xk (ZM (Zaq s (dW s l) (rX s l)) p)) ?_ ?_
 . dsimp only [go_sem,rA,rM,rS]
   rw [Zdn]
   exact YJ (Zaq s (dW s l) (rX s l)) hsW p (by omega)
 dsimp only [Xk,go_sem,rA,rM,rS]
 refine UF (by simp [FLT,ZiH,Xk]) (res:=Xk (ZM { s with scenes:=s.scenes } p)) ?_ ?_
 . dsimp only [go_sem,rA,rM,rS]
   exact YJ { s with scenes:=s.scenes } hsF p (by omega)
 dsimp only [Xk,go_sem,rA,rM,rS]
 obtain ⟨q4,q5,q6⟩:=ZkK (a:=p.animals - d2) (k:=p.slabs - d3) h.ok hp (by omega) (by omega) h0
 refine call (YJ s hs ⟨p.legs,p.animals - d2,p.slabs - d3⟩ (by simp only;omega)) ?_
 dsimp only [Xk,go_sem,rA,rM,rS]
 simp only [q1.1,q1.2,q2.1,q2.2,q3.1,q3.2,q5,q6,show ((0:Int) == 0)=true from rfl]
 repeat (refine Y1 rfl ?_;dsimp only [go_sem,rA,rM,rS])
 rfl
end Go.Proofs.YtiigiflofnjilaaGreat
