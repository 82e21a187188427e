/- Walks and plain laws that lead to the given statement, part 8 of 9. -/
import Derived.Test.YtiigiflofnjilaaGreatQG
import Derived.Test.YtiigiflofnjilaaGreatProg
set_option maxRecDepth 100000
set_option maxHeartbeats 4000000
set_option linter.all false
open Nat renaming reduceAdd->rA,reduceMul->rM,reduceSub->rS,beq_refl->nbr
namespace Go.Azalai
open Go.Sx
theorem Zfk {l:Land} {i:Nat} {v:Int}:WY l i v=match l.legs[i]? with | some x=>Zk x v | none=>-1:=by
 cases h:l.legs[i]? with
 | none=>rw [List.getElem?_eq_none_iff] at h;exact ZeI (.inr (by omega))
 | some x =>
  obtain ⟨hi,hx⟩:=List.getElem?_eq_some_iff.1 h
  rw [Zbr hi,hx]
theorem UE {l:Land} {p:Span} {to till:Int}:∀ {c:List Nat} {been:List Int} {v t:Int},
 Uj l p to till been v t c↔Yp l v (v :: been) (Y3 c)=some to/\∃ u,goW true l p v t c=some (to,u)/\u<=till
 | [],been,v,t=>by
  simp only [Uj,Y3,List.map_nil,Yp,Option.some.injEq,goW,Prod.mk.injEq]
  constructor
  . rintro ⟨h1,h2⟩;exact ⟨h1,t,⟨h1,rfl⟩,h2⟩
  . rintro ⟨h1,u,⟨_,rfl⟩,h2⟩;exact ⟨h1,h2⟩
 | i :: c,been,v,t=>by
  simp only [Uj,Y3,List.map_cons,Yp,goW]
  rw [Zfk]
  cases hx:l.legs[i]? with
  | none =>
   constructor
   . rintro ⟨x,hx',_⟩;cases hx'
   . rintro ⟨h1,_⟩;simp at h1
  | some x =>
   simp only
   constructor
   . rintro ⟨y,hy,ho,hr,hn,q⟩
     cases hy
     obtain ⟨q1,q2⟩:=(UE (c:=c)).1 q
     rw [if_neg (by omega),if_neg hn,if_neg (by omega),if_neg (by omega)]
     exact ⟨q1,q2⟩
   . rintro ⟨h1,h2⟩
     split at h1
     . cases h1
     rename_i h3
     split at h1
     . cases h1
     rename_i h4
     rw [if_neg h3] at h2
     split at h2
     . obtain ⟨u,hu,_⟩:=h2;cases hu
     rename_i h5
     exact ⟨x,rfl,by omega,by omega,h4,(UE (c:=c)).2 ⟨h1,h2⟩⟩
theorem Zc7 {l:Land} {p:Span} (hg:OkLP l p):∀ {legs:List Int} {v u:Int} {been:List Int},been.Nodup->(∀ b ∈ been,0<=b/\b < l.wells.length)->Yp l v been legs=some u->legs.length+been.length<=l.wells.length
 | [],v,u,been,h1,h2,_=>by have:=ZdX h1 h2;simpa using this
 | i :: r,v,u,been,h1,h2,h=>by
  simp only [Yp] at h
  split at h
  . cases h
  rename_i he
  split at h
  . cases h
  rename_i hn
  obtain ⟨k,x,_,_,hx,_,e⟩:=Za0 he
  have hin:=(ZU hg hx (by rw [<- e];exact he)).1
  have:=Zc7 hg (List.nodup_cons.2 ⟨hn,h1⟩) (fun b hb=>(List.mem_cons.1 hb).elim (fun q=>by rw [q,e];exact hin) (h2 b)) h
  simp only [List.length_cons] at this ⊢;omega
open Go.Proofs.YtiigiflofnjilaaGreat
theorem Zfl:∀ {a b:List Nat},Y3 a=Y3 b->a=b
 | [],[],_=>rfl
 | x :: a,y :: b,h=>by
  simp only [Y3,List.map_cons,List.cons.injEq] at h
  rw [Zfl (a:=a) (b:=b) h.2,show x=y by omega]
 | [],_ :: _,h=>by simp [Y3] at h
 | _ :: _,[],h=>by simp [Y3] at h
theorem lenS {s:Season} (h:OkS s) {legs:List Int} {u:Int} (hg:Yp s.land s.start [s.start] legs=some u):legs.length < s.land.wells.length/\legs.length<=24:=by
 have:=Zc7 h.lp (legs:=legs) (v:=s.start) (u:=u) (been:=[s.start]) (by simp) (fun b hb=>by simp only [List.mem_singleton] at hb;subst hb;exact h.start) hg
 have hw:=h.land
 simp only [ZR,inR,Bool.and_eq_true,decide_eq_true_eq] at hw
 simp only [List.length_cons,List.length_nil] at this
 omega
theorem Ze9 {s:Season} (h:OkS s) {c:List Nat} (hc:c.length<=24):Zaq s (Y3 c)=true↔∃ v u,goW true s.land s.pace s.start s.day c=some (v,u)/\u<=s.till:=by
 have hn:=h.num
 have hst:=h.start
 have key:∀ {ss:List Stop} {at':Int},Xe s.land s.pace s.start s.day (Y3 c)=(ss,at',0)->(Zaq s (Y3 c)=true↔∃ v u,goW true s.land s.pace s.start s.day c=some (v,u)/\u<=s.till):=fun {ss at'} hw=>by
  obtain ⟨_,ht⟩:=ZoL hw
  have hss:Z6 s (Y3 c)=ss:=by unfold Z6;rw [hw]
  have hlen:=ht.len
  simp only [Y3,List.length_map] at hlen
  unfold Zaq
  rw [hss,hw]
  simp only [decide_true,Bool.true_and,Bool.or_eq_true,decide_eq_true_eq]
  by_cases h0:ss.length=0
  . have:c=[]:=List.eq_nil_of_length_eq_zero (by omega)
    subst this
    exact ⟨fun _=>⟨s.start,s.day,rfl,by omega⟩,fun _=>.inl h0⟩
  . obtain ⟨c',h1,h2,h3,_⟩:=ht.at h.lp (Int.le_refl _) (by omega) (ss.length - 1) (Zf7 ss) (ZdR h0)
    have hcc:c'=c:=by
     have e:(Y3 c).take (ss.length - 1+1)=Y3 c:=List.take_of_length_le (by simp [Y3];omega)
     rw [e] at h2
     exact Zfl h2.symm
    subst hcc
    constructor
    . rintro (q | q)
      . exact absurd q h0
      . exact ⟨_,_,h3,q⟩
    . rintro ⟨v,u,e,q⟩
      rw [h3] at e
      simp only [Option.some.injEq,Prod.mk.injEq] at e
      exact .inr (by omega)
 constructor
 . intro q
   have q':=q
   simp only [Zaq,Bool.and_eq_true,decide_eq_true_eq] at q'
   have:Xe s.land s.pace s.start s.day (Y3 c)=((Xe s.land s.pace s.start s.day (Y3 c)).1,(Xe s.land s.pace s.start s.day (Y3 c)).2.1,0):=by
    rw [<- q'.1]
   exact (key this).1 q
 . rintro ⟨v,u,e,q⟩
   obtain ⟨ss,hw⟩:=Zuh h.lp (by omega) (by omega) hst.1 hst.2 hc e
   exact (key hw).2 ⟨v,u,e,q⟩
theorem Zft {k:Bool} {l:Land} {p:Span} {w u to:Int}:∀ {c:List Nat} {v t:Int} {been:List Int},goW k l p v t c=some (w,u)->Yp l v been (Y3 c)=some to->w=to
 | [],v,t,been,h,h'=>by
  simp only [goW,Option.some.injEq,Prod.mk.injEq,Y3,List.map_nil,Yp] at h h'
  omega
 | i :: c,v,t,been,h,h'=>by
  simp only [goW,Y3,List.map_cons,Yp] at h h'
  rw [Zfk] at h'
  cases hx:l.legs[i]? with
  | none=>rw [hx] at h;cases h
  | some x =>
   rw [hx] at h h'
   simp only at h h'
   split at h
   . cases h
   rename_i h1
   split at h
   . cases h
   rw [if_neg h1] at h'
   split at h'
   . cases h'
   exact Zft h h'
theorem ZlS {s:Season} (h:OkS s) {to:Int} {c:List Nat}:c ∈ Us s.land s.pace s.start to s.day s.till↔Yp s.land s.start [s.start] (Y3 c)=some to/\Zaq s (Y3 c)=true:=by
 have hn:=h.num
 unfold Us
 rw [ZkB h.lp (by omega) Zlh.start (by simp) h.start (by omega),UE]
 constructor
 . rintro ⟨h1,u,h2,h3⟩
   have hl:=(lenS h h1).2
   exact ⟨h1,(Ze9 h (by simpa [Y3] using hl)).2 ⟨_,_,h2,h3⟩⟩
 . rintro ⟨h1,h2⟩
   have hl:=(lenS h h1).2
   obtain ⟨v,u,h3,h4⟩:=(Ze9 h (by simpa [Y3] using hl)).1 h2
   refine ⟨h1,u,?_,h4⟩
   rw [Zft h3 h1] at h3;exact h3
theorem ZnD {l:Land} {well day:Int}:0<=(Wc l well [] day).1.lo:=by
 unfold Wc
 split
 . exact Int.le_refl _
 rename_i h1
 split
 . exact Int.le_refl _
 rename_i h2
 split
 . exact Int.le_refl _
 split
 . exact Int.le_refl _
 split
 . rename_i w hw
   simp only [Bool.not_eq_false,ZR,Bool.and_eq_true,List.all_eq_true,inR,decide_eq_true_eq] at h1 h2
   have hwell:=h1.1.2 w (List.mem_of_getElem? hw)
   simp only [YI,Z8,inR,Bool.and_eq_true,decide_eq_true_eq] at hwell
   have:0<=(day - 1 - -1) * w.yld.lo:=Int.mul_nonneg (by omega) (by omega)
   simp only [VF,XX]
   omega
 . exact Int.le_refl _
theorem Zq0 {s:Season} {x:Scene} (st:Stop):0<=ZcZ s x st:=ZnD
theorem Zm9 {s:Season} {p:Plan} {to:Int} (hto:Yp s.land s.start [s.start] p.legs=some to) (ha:0<=p.animals/\p.animals<=s.herd) (hs:0<=p.slabs/\p.slabs<=12):YS s p=true:=by
 simp only [YS,hto,Option.isSome_some,inR,Bool.true_and,Bool.and_eq_true,decide_eq_true_eq];omega
theorem ZsG {s:Season} (h:OkS s) {a:List Int} {k:Int}:0<=Zef s a k/\Zef s a k<=s.herd:=Zin (by have:=h.num;omega) (fun _ _=>Zq0)
end Go.Azalai
namespace Go.Proofs.YtiigiflofnjilaaGreat
open Go Go.Sx
def c64:SC:=(.seq (.reg [
 o1 2 (.box (.t 0) 0 37),
 o1 4 (.alloc [.int .i64 0,.int .i64 0,.int .i64 0,.int .i64 0] 142)])
 (.seq (.reg [
 m1 5 1,
 o1 6 (.addo (.t 2) 1),
 o1 7 (.ld (.t 6) 1 false),
 o1 8 (.un .neg (.t 7)),
 o1 9 (.addo (.t 2) 2),
 o1 10 (.ld (.t 9) 1 false),
 o1 11 (.un .neg (.t 10)),
 o1 12 (.addo (.t 2) 0),
 o1 13 (.ld (.t 12) 1 false),
 o1 14 (.len (.t 13)),
 o1 15 (.un .neg (.t 14)),
 o1 16 (.build [.int .i64 0,.int .i64 0,.int .i64 0,.int .i64 0] [(0,1,.t 5),(1,1,.t 8),(2,1,.t 11),(3,1,.t 15)]),
 ⟨none,.st (.t 4) (.t 16) 4,none,[]⟩])
 .ret))
def r64:List RV:=[.cell 4 4 true]
theorem t64:Qt1 Tryz.prog 64 c64 r64 17:=Z3 Tryz.func64 rfl (by kernel_rfl) (by kernel_rfl) (by kernel_rfl) (by kernel_rfl)
def c67:SC:=(.seq (.reg [
 o1 4 (.box (.t 0) 0 37),
 o1 5 (.box (.t 1) 0 142),
 o1 6 (.box (.t 2) 0 37),
 o1 7 (.box (.t 3) 0 142),
 o1 8 (.mv (.c (.bool false)))])
 (.seq (.seq (.reg [
 o1 10 (.ld (.t 5) 4 true),
 o1 11 (.ld (.t 7) 4 true),
 o1 12 (.eqs false true [1,1,1,1] (.t 10) (.t 11))])
 (.cond (.t 12)
 (.seq (.reg [
  o1 13 (.addo (.t 4) 0),
  o1 14 (.ld (.t 13) 1 false),
  o1 15 (.addo (.t 6) 0),
  o1 16 (.ld (.t 15) 1 false),
  o1 17 (.call 114 [.t 14,.t 16]),
  o1 18 (.bin .lss (.t 17) (.c (.int .i64 0))),
  m1 8 18])
  .ret)
 .skip))
 (.seq (.seq (.reg [
 o1 19 (.mv (.c (.int .i64 0)))])
 (.block 0 (.loop (.seq (.reg [
  o1 20 (.bin .lss (.t 19) (.c (.int .i64 4)))])
  (.seq (.cond (.t 20)
  .skip
  (.exit 0))
  (.seq (.block 1 (.seq (.reg [
   m1 21 19,
   m1 9 21])
   (.seq (.regd [0,1,2,3,4,5,6] [
   .op (m1 22 9),
   .op ⟨some 23,.ixa (.t 5) (.t 22) 4 1,none,[0]⟩,
   .op ⟨some 24,.ld (.t 23) 1 false,none,[1]⟩,
   .op (m1 25 9),
   .op ⟨some 26,.ixa (.t 7) (.t 25) 4 1,none,[3]⟩,
   .op ⟨some 27,.ld (.t 26) 1 false,none,[4]⟩,
   .op ⟨some 28,.bin .neq (.t 24) (.t 27),none,[2,5]⟩] 0 0 [
])
 (.cond (.t 28)
 (.seq (.regd [0,1,2,3,4,5,6,7] [
  .op (m1 29 9),
  .op ⟨some 30,.ixa (.t 5) (.t 29) 4 1,none,[0]⟩,
  .op ⟨some 31,.ld (.t 30) 1 false,none,[1]⟩,
  .op (m1 32 9),
  .op ⟨some 33,.ixa (.t 7) (.t 32) 4 1,none,[3]⟩,
  .op ⟨some 34,.ld (.t 33) 1 false,none,[4]⟩,
  .op ⟨some 35,.bin .gtr (.t 31) (.t 34),none,[2,5]⟩,
  .op ⟨some 8,.mv (.t 35),none,[0,1,2,3,4,5,6]⟩] 0 0 [
])
 .ret)
 .skip))))
 (.reg [
 o1 36 (.bin .add (.t 19) (.c (.int .i64 1))),
 m1 19 36])))))))
 (.seq (.reg [
 o1 8 (.mv (.c (.bool false)))])
 .ret))))
def r67:List RV:=[.tmp 8]
theorem t67:Qt1 Tryz.prog 67 c67 r67 37:=Z3 Tryz.func67 rfl (by kernel_rfl) (by kernel_rfl) (by kernel_rfl) (by kernel_rfl)
def c27:SC:=(.seq (.reg [
 o1 1 (.box (.t 0) 0 34),
 o1 2 (.mv (.c (.int .i64 0))),
 o1 3 (.mv (.c (.int .i64 0)))])
 (.seq (.seq (.reg [
 o1 14 (.ld (.t 1) 37 true),
 o1 15 (.call 16 [.t 14]),
 m1 4 15])
 (.seq (.reg [
 m1 16 4,
 o1 17 (.bin .neq (.t 16) (.c (.int .i64 0)))])
 (.cond (.t 17)
 (.seq (.reg [
  m1 18 4,
  o1 2 (.mv (.c (.int .i64 0))),
  m1 3 18])
  .ret)
 .skip)))
 (.seq (.reg [
 o1 20 (.addo (.t 1) 0),
 o1 21 (.ld (.t 20) 2 true),
 o1 22 (.addo (.t 1) 33),
 o1 23 (.ld (.t 22) 1 false),
 o1 24 (.addo (.t 1) 34),
 o1 25 (.ld (.t 24) 1 false),
 o1 26 (.addo (.t 1) 2),
 o1 27 (.ld (.t 26) 2 true),
 o1 28 (.call 52 [.t 21,.t 23,.t 25,.t 27]),
 m1 19 28,
 o1 29 (.ext (.t 19) 0),
 o1 30 (.ext (.t 19) 1),
 m1 5 29,
 m1 6 30])
 (.seq (.reg [
 o1 31 (.addo (.t 1) 4),
 o1 32 (.addo (.t 31) 15),
 o1 33 (.addo (.t 32) 0),
 o1 34 (.ld (.t 33) 1 false),
 o1 35 (.addo (.t 1) 30),
 o1 36 (.ld (.t 35) 1 false),
 o1 37 (.div .quo (.t 34) (.t 36)),
 o1 38 (.mm false [.c (.int .i64 12),.t 37]),
 m1 7 38])
 (.seq (.reg [
 o1 8 (.mv (.c (.slice none 0 0)))])
 (.seq (.seq (.reg [
 o1 39 (.addo (.t 1) 36),
 o1 40 (.ld (.t 39) 1 false),
 o1 41 (.len (.t 40)),
 o1 42 (.mv (.c (.int .i64 0)))])
 (.block 0 (.loop (.seq (.reg [
  o1 43 (.bin .lss (.t 42) (.t 41))])
  (.seq (.cond (.t 43)
  .skip
  (.exit 0))
  (.seq (.block 1 (.seq (.reg [
   o1 44 (.ixs (.t 40) (.t 42) 6),
   o1 45 (.ld (.t 44) 6 true),
   o1 10 (.alloc zv5 72),
   ⟨none,.st (.t 10) (.t 45) 6,none,[]⟩])
   (.seq (.reg [
   o1 46 (.addo (.t 1) 32),
   o1 47 (.ld (.t 46) 1 false),
   m1 11 47])
   (.seq (.seq (.reg [
   m1 48 5,
   o1 49 (.len (.t 48)),
   o1 50 (.mv (.c (.int .i64 0)))])
   (.block 2 (.loop (.seq (.reg [
    o1 51 (.bin .lss (.t 50) (.t 49))])
    (.seq (.cond (.t 51)
    .skip
    (.exit 2))
    (.seq (.block 3 (.seq (.reg [
     m1 52 50,
     o1 53 (.ixs (.t 48) (.t 50) 2),
     o1 54 (.ld (.t 53) 2 true),
     o1 13 (.alloc [.int .i64 0,.int .i64 0] 27),
     m1 12 52,
     ⟨none,.st (.t 13) (.t 54) 2,none,[]⟩])
     (.seq (.reg [
     o1 55 (.addo (.t 13) 1),
     o1 56 (.ld (.t 55) 1 false),
     o1 57 (.addo (.t 1) 35),
     o1 58 (.ld (.t 57) 1 false),
     o1 59 (.bin .leq (.t 56) (.t 58))])
     (.cond (.t 59)
     (.regd [0,1,2,3,4,5,6,7,8,9,10,11,12] [
      .op (m1 60 11),
      .op (m1 61 7),
      .op (o1 62 (.addo (.t 10) 5)),
      .op ⟨some 63,.ld (.t 62) 1 false,none,[2]⟩,
      .op (m1 64 12),
      .op ⟨some 65,.ixs (.t 63) (.t 64) 1,none,[3,4]⟩,
      .op ⟨some 66,.ld (.t 65) 1 false,none,[5]⟩,
      .op (o1 67 (.addo (.t 1) 31)),
      .op ⟨some 68,.ld (.t 67) 1 false,none,[7]⟩,
      .op ⟨some 69,.bin .sub (.t 66) (.t 68),none,[6,8]⟩,
      .op ⟨some 70,.bin .mul (.t 61) (.t 69),none,[1,9]⟩,
      .op ⟨some 71,.mm true [.t 60,.t 70],none,[0,10]⟩] 0 0 [
      ⟨some 11,.mv (.t 71),none,[0,1,2,3,4,5,6,7,8,9,10,11]⟩])
     .skip))))
    (.reg [
    o1 72 (.bin .add (.t 50) (.c (.int .i64 1))),
    m1 50 72])))))))
   (.gh (.reg [
   m1 73 8,
   o1 74 (.addo (.t 1) 28),
   o1 75 (.ld (.t 74) 1 false),
   m1 76 11,
   o1 77 (.bin .mul (.t 75) (.t 76)),
   o1 78 (.bsl 1 3 [.t 77]),
   o1 79 (.appm 1 8 3 (.t 73) (.t 78)),
   m1 8 79]))))))
  (.gh (.reg [
  o1 80 (.bin .add (.t 42) (.c (.int .i64 1))),
  m1 42 80]))))))))
 (.gh (.seq (.reg [
 m1 81 8,
 o1 82 (.call 71 [.t 81]),
 m1 2 82,
 o1 3 (.mv (.c (.int .i64 0)))])
 .ret))))))))
def r27:List RV:=[.tmp 2,.tmp 3]
theorem t27:Qt1 Tryz.prog 27 c27 r27 83:=Z3 Tryz.func27 rfl (by kernel_rfl) (by kernel_rfl) (by kernel_rfl) (by kernel_rfl)
def c25:SC:=(.seq (.reg [
 o1 1 (.box (.t 0) 0 34),
 o1 2 (.alloc [.slice none 0 0,.int .i64 0,.int .i64 0] 37),
 o1 3 (.mv (.c (.int .i64 0))),
 o1 4 (.mv (.c (.int .i64 0)))])
 (.seq (.seq (.reg [
 o1 17 (.ld (.t 1) 37 true),
 o1 18 (.call 16 [.t 17]),
 m1 5 18])
 (.seq (.reg [
 m1 19 5,
 o1 20 (.bin .neq (.t 19) (.c (.int .i64 0)))])
 (.cond (.t 20)
 (.seq (.reg [
  o1 21 (.build [.slice none 0 0,.int .i64 0,.int .i64 0] []),
  m1 22 5,
  ⟨none,.st (.t 2) (.t 21) 3,none,[]⟩,
  o1 3 (.mv (.c (.int .i64 0))),
  m1 4 22])
  .ret)
 .skip)))
 (.seq (.reg [
 o1 23 (.addo (.t 1) 28),
 o1 24 (.ld (.t 23) 1 false),
 o1 25 (.addo (.t 1) 32),
 o1 26 (.ld (.t 25) 1 false),
 o1 27 (.bin .mul (.t 24) (.t 26)),
 m1 3 27])
 (.seq (.reg [
 o1 28 (.ld (.t 2) 3 true),
 m1 29 3,
 o1 30 (.call 64 [.t 28,.t 29]),
 o1 6 (.alloc [.int .i64 0,.int .i64 0,.int .i64 0,.int .i64 0] 142),
 ⟨none,.st (.t 6) (.t 30) 4,none,[]⟩])
 (.seq (.seq (.reg [
 o1 31 (.addo (.t 1) 0),
 o1 32 (.addo (.t 31) 0),
 o1 33 (.ld (.t 32) 1 false),
 o1 34 (.len (.t 33)),
 o1 35 (.mv (.c (.int .i64 0)))])
 (.block 0 (.loop (.seq (.reg [
  o1 36 (.bin .lss (.t 35) (.t 34))])
  (.seq (.cond (.t 36)
  .skip
  (.exit 0))
  (.seq (.block 1 (.seq (.reg [
   m1 37 35,
   m1 7 37])
   (.seq (.reg [
   o1 39 (.addo (.t 1) 0),
   o1 40 (.ld (.t 39) 2 true),
   o1 41 (.addo (.t 1) 33),
   o1 42 (.ld (.t 41) 1 false),
   m1 43 7,
   o1 44 (.addo (.t 1) 34),
   o1 45 (.ld (.t 44) 1 false),
   o1 46 (.addo (.t 1) 35),
   o1 47 (.ld (.t 46) 1 false),
   o1 48 (.addo (.t 1) 2),
   o1 49 (.ld (.t 48) 2 true),
   o1 50 (.call 65 [.t 40,.t 42,.t 43,.t 45,.t 47,.t 49]),
   m1 38 50,
   o1 51 (.ext (.t 38) 0),
   o1 52 (.ext (.t 38) 1),
   m1 8 51,
   m1 9 52])
   (.seq (.seq (.reg [
   m1 53 9,
   o1 54 (.bin .neq (.t 53) (.c (.int .i64 0)))])
   (.cond (.t 54)
   (.seq (.reg [
    o1 55 (.build [.slice none 0 0,.int .i64 0,.int .i64 0] []),
    ⟨none,.st (.t 2) (.t 55) 3,none,[]⟩,
    o1 3 (.mv (.c (.int .i64 0))),
    o1 4 (.mv (.c (.int .i64 9)))])
    .ret)
   .skip))
   (.seq (.reg [
   m1 56 8,
   o1 57 (.len (.t 56)),
   o1 58 (.mv (.c (.int .i64 0)))])
   (.block 2 (.loop (.seq (.reg [
    o1 59 (.bin .lss (.t 58) (.t 57))])
    (.seq (.cond (.t 59)
    .skip
    (.exit 2))
    (.seq (.block 3 (.seq (.reg [
     o1 60 (.ixs (.t 56) (.t 58) 1),
     o1 61 (.ld (.t 60) 1 false),
     m1 11 61])
     (.scope (.seq (.label 0)
     (.seq (.reg [
     o1 62 (.mv (.c (.int .i64 0)))])
     (.block 4 (.loop (.seq (.reg [
      o1 63 (.bin .lss (.t 62) (.c (.int .i64 13)))])
      (.seq (.cond (.t 63)
      .skip
      (.exit 4))
      (.seq (.block 5 (.seq (.reg [
       m1 64 62,
       m1 12 64])
       (.seq (.reg [
       o1 65 (.ld (.t 1) 37 true),
       m1 66 11,
       m1 67 12,
       o1 68 (.call 66 [.t 65,.t 66,.t 67]),
       m1 13 68])
       (.block 6 (.loop (.seq (.block 7 (.seq (.seq (.reg [
        m1 71 13,
        o1 72 (.bin .eql (.t 71) (.c (.int .i64 0)))])
        (.cond (.t 72)
        (.exit 5)
        .skip))
        (.seq (.reg [
        m1 73 11,
        m1 74 13,
        m1 75 12,
        o1 76 (.build [.slice none 0 0,.int .i64 0,.int .i64 0] [(0,1,.t 73),(1,1,.t 74),(2,1,.t 75)]),
        o1 14 (.alloc [.slice none 0 0,.int .i64 0,.int .i64 0] 37),
        ⟨none,.st (.t 14) (.t 76) 3,none,[]⟩])
        (.seq (.reg [
        o1 77 (.ld (.t 1) 37 true),
        o1 78 (.ld (.t 14) 3 true),
        m1 79 7,
        o1 80 (.call 59 [.t 77,.t 78,.t 79]),
        m1 15 80])
        (.seq (.reg [
        o1 81 (.ld (.t 14) 3 true),
        m1 82 15,
        o1 83 (.call 64 [.t 81,.t 82]),
        o1 16 (.alloc [.int .i64 0,.int .i64 0,.int .i64 0,.int .i64 0] 142),
        ⟨none,.st (.t 16) (.t 83) 4,none,[]⟩])
        (.seq (.reg [
        o1 84 (.ld (.t 14) 3 true),
        o1 85 (.ld (.t 16) 4 true),
        o1 86 (.ld (.t 2) 3 true),
        o1 87 (.ld (.t 6) 4 true),
        o1 88 (.call 67 [.t 84,.t 85,.t 86,.t 87])])
        (.cond (.t 88)
        (.regd [0,1,2,3,4,5] [
         .op (o1 89 (.ld (.t 14) 3 true)),
         .hide (.t 2),
         .op (m1 90 15),
         .op (o1 91 (.ld (.t 16) 4 true))] 0 3 [
         ⟨none,.st (.t 2) (.t 89) 3,none,[0]⟩,
         ⟨some 3,.mv (.t 90),none,[0,1,3]⟩,
         ⟨none,.st (.t 6) (.t 91) 4,none,[0,1,2,3,4]⟩])
        .skip)))))))
        (.reg [
        m1 69 13,
        o1 70 (.bin .sub (.t 69) (.c (.int .i64 1))),
        m1 13 70])))))))
      (.reg [
      o1 92 (.bin .add (.t 62) (.c (.int .i64 1))),
      m1 62 92])))))))))))
    (.reg [
    o1 93 (.bin .add (.t 58) (.c (.int .i64 1))),
    m1 58 93])))))))))))
  (.reg [
  o1 94 (.bin .add (.t 35) (.c (.int .i64 1))),
  m1 35 94])))))))
 (.seq (.reg [
 o1 95 (.ld (.t 2) 3 true),
 m1 96 3,
 ⟨none,.st (.t 2) (.t 95) 3,none,[]⟩,
 m1 3 96,
 o1 4 (.mv (.c (.int .i64 0)))])
 .ret))))))
def r25:List RV:=[.cell 2 3 true,.tmp 3,.tmp 4]
theorem n25:Tryz.f25.ntmps=97:=by kernel_rfl
theorem b25:YF Tryz.prog 25=true:=by kernel_rfl
theorem Zwz:XA Tryz.prog c25 ((Tryz.f25.body).getD .skip)=true:=by kernel_rfl
theorem Zx2:Wu Tryz.prog r25 Tryz.f25.results.toList=true:=by kernel_rfl
def c73:SC:=(.seq (.reg [
 o1 0 (.alloc zv0 34)])
 (.seq (.reg [
 o1 1 (.mv (.f 119))])
 (.seq (.reg [
 o1 2 (.build zv4 []),
 o1 3 (.build zv4 [(5,1,.c (.int .i64 1000000))]),
 o1 4 (.build zv4 []),
 o1 5 (.bsl 9 88 [.t 2,.t 3,.t 4]),
 m1 6 1,
 o1 7 (.calv (.t 6) [.c (.int .i64 0),.c (.int .i64 1),.c (.int .i64 40000)]),
 m1 8 1,
 o1 9 (.calv (.t 8) [.c (.int .i64 1),.c (.int .i64 2),.c (.int .i64 40000)]),
 m1 10 1,
 o1 11 (.calv (.t 10) [.c (.int .i64 0),.c (.int .i64 2),.c (.int .i64 100000)]),
 o1 12 (.bsl 5 83 [.t 7,.t 9,.t 11]),
 o1 13 (.build [.slice none 0 0,.slice none 0 0] [(0,1,.t 5),(1,1,.t 12)]),
 o1 14 (.call 43 [.c (.int .i64 20000),.c (.int .i64 20000)]),
 o1 15 (.call 43 [.c (.int .i64 5000),.c (.int .i64 5000)]),
 o1 16 (.call 43 [.c (.int .i64 1000),.c (.int .i64 1000)]),
 o1 17 (.call 43 [.c (.int .i64 100),.c (.int .i64 100)]),
 o1 18 (.call 43 [.c (.int .i64 200000),.c (.int .i64 200000)]),
 o1 19 (.build [.int .i64 0,.int .i64 0,.int .i64 0,.int .i64 0,.int .i64 0,.int .i64 0,.int .i64 0,.int .i64 0,.int .i64 0,.int .i64 0,.int .i64 0,.int .i64 0,.int .i64 0,.int .i64 0,.int .i64 0,.int .i64 0,.int .i64 0] [(0,1,.c (.int .i64 100000)),(1,1,.c (.int .i64 50000)),(2,2,.t 15),(6,2,.t 16),(8,2,.t 17),(15,2,.t 18)]),
 o1 20 (.call 43 [.c (.int .i64 100000),.c (.int .i64 100000)]),
 o1 21 (.call 43 [.c (.int .i64 50000),.c (.int .i64 50000)]),
 o1 22 (.build zv3 [(0,2,.t 20),(2,2,.t 21)]),
 o1 23 (.build [.int .i64 0,.int .i64 0] []),
 o1 24 (.call 43 [.c (.int .i64 50000),.c (.int .i64 50000)]),
 o1 25 (.build [.int .i64 0,.int .i64 0] []),
 o1 26 (.bsl 2 27 [.t 23,.t 24,.t 25]),
 o1 27 (.bsl 1 3 [.c (.int .i64 10),.c (.int .i64 12),.c (.int .i64 40)]),
 o1 28 (.build zv5 [(4,1,.t 26),(5,1,.t 27)]),
 o1 29 (.bsl 6 72 [.t 28]),
 o1 30 (.build zv0 [(0,2,.t 13),(2,2,.t 14),(4,17,.t 19),(21,7,.t 22),(28,1,.c (.int .i64 10)),(29,1,.c (.int .i64 10)),(30,1,.c (.int .i64 50000)),(31,1,.c (.int .i64 10)),(32,1,.c (.int .i64 60)),(35,1,.c (.int .i64 20)),(36,1,.t 29)]),
 ⟨none,.st (.t 0) (.t 30) 37,none,[]⟩])
 .ret)))
def r73:List RV:=[.cell 0 37 true]
theorem n73:Tryz.f73.ntmps=31:=by kernel_rfl
theorem b73:YF Tryz.prog 73=true:=by kernel_rfl
theorem Zxm:XA Tryz.prog c73 ((Tryz.f73.body).getD .skip)=true:=by kernel_rfl
theorem ZxC:Wu Tryz.prog r73 Tryz.f73.results.toList=true:=by kernel_rfl
def c119:SC:=(.seq (.reg [
 o1 6 (.alloc zv6 83)])
 (.seq (.reg [
 m1 7 0,
 m1 8 1,
 m1 9 2,
 m1 10 2,
 o1 11 (.call 43 [.t 9,.t 10]),
 o1 12 (.call 43 [.c (.int .i64 99),.c (.int .i64 99)]),
 o1 13 (.build [.int .i64 0,.int .i64 0,.int .i64 0,.int .i64 0] [(2,2,.t 12)]),
 o1 14 (.bsl 4 85 [.t 13]),
 o1 15 (.build zv6 [(0,1,.t 7),(1,1,.t 8),(2,2,.t 11),(4,1,.t 14)]),
 ⟨none,.st (.t 6) (.t 15) 5,none,[]⟩])
 .ret))
def r119:List RV:=[.cell 6 5 true]
theorem n119:Tryz.f119.ntmps=16:=by kernel_rfl
theorem b119:YF Tryz.prog 119=true:=by kernel_rfl
theorem Zus:XA Tryz.prog c119 ((Tryz.f119.body).getD .skip)=true:=by kernel_rfl
theorem Ztb:Wu Tryz.prog r119 Tryz.f119.results.toList=true:=by kernel_rfl
def c74:SC:=(.seq (.reg [
 o1 6 (.alloc [.slice none 0 0,.int .i64 0,.int .i64 0] 37)])
 (.seq (.reg [
 m1 7 2,
 m1 8 0,
 m1 9 1,
 o1 10 (.build [.slice none 0 0,.int .i64 0,.int .i64 0] [(0,1,.t 7),(1,1,.t 8),(2,1,.t 9)]),
 ⟨none,.st (.t 6) (.t 10) 3,none,[]⟩])
 .ret))
def r74:List RV:=[.cell 6 3 true]
theorem n74:Tryz.f74.ntmps=11:=by kernel_rfl
theorem b74:YF Tryz.prog 74=true:=by kernel_rfl
theorem Zx0:XA Tryz.prog c74 ((Tryz.f74.body).getD .skip)=true:=by kernel_rfl
theorem ZxZ:Wu Tryz.prog r74 Tryz.f74.results.toList=true:=by kernel_rfl
def c43:SC:=(.seq (.reg [
 o1 4 (.alloc [.int .i64 0,.int .i64 0] 27)])
 (.seq (.reg [
 m1 5 0,
 m1 6 1,
 o1 7 (.build [.int .i64 0,.int .i64 0] [(0,1,.t 5),(1,1,.t 6)]),
 ⟨none,.st (.t 4) (.t 7) 2,none,[]⟩])
 .ret))
def r43:List RV:=[.cell 4 2 true]
theorem t43:Qt1 Tryz.prog 43 c43 r43 8:=Z3 Tryz.func43 rfl (by kernel_rfl) (by kernel_rfl) (by kernel_rfl) (by kernel_rfl)
def c30:SC:=(.seq (.reg [
 o1 0 (.mv (.c (.bool false)))])
 (.seq (.reg [
 o1 23 (.call 73 []),
 o1 24 (.bsl 1 3 [.c (.int .i64 0),.c (.int .i64 1)]),
 o1 25 (.call 74 [.c (.int .i64 2),.c (.int .i64 2),.t 24]),
 o1 26 (.call 14 [.t 23,.t 25]),
 m1 22 26,
 o1 27 (.ext (.t 22) 0),
 o1 28 (.ext (.t 22) 1),
 o1 29 (.ext (.t 22) 2),
 o1 30 (.ext (.t 22) 3),
 m1 1 27,
 m1 2 28,
 m1 3 29,
 m1 4 30])
 (.seq (.reg [
 o1 32 (.call 73 []),
 o1 33 (.bsl 1 3 [.c (.int .i64 0),.c (.int .i64 1)]),
 o1 34 (.call 74 [.c (.int .i64 3),.c (.int .i64 2),.t 33]),
 o1 35 (.call 14 [.t 32,.t 34]),
 m1 31 35,
 o1 36 (.ext (.t 31) 0),
 o1 37 (.ext (.t 31) 1),
 o1 38 (.ext (.t 31) 2),
 o1 39 (.ext (.t 31) 3),
 m1 5 36,
 m1 6 37,
 m1 7 38,
 m1 8 39])
 (.seq (.reg [
 o1 41 (.call 73 []),
 o1 42 (.bsl 1 3 [.c (.int .i64 2)]),
 o1 43 (.call 74 [.c (.int .i64 10),.c (.int .i64 1),.t 42]),
 o1 44 (.call 14 [.t 41,.t 43]),
 m1 40 44,
 o1 45 (.ext (.t 40) 0),
 o1 46 (.ext (.t 40) 1),
 o1 47 (.ext (.t 40) 2),
 o1 48 (.ext (.t 40) 3),
 m1 9 45,
 m1 10 46,
 m1 11 47,
 m1 12 48])
 (.seq (.reg [
 o1 50 (.call 73 []),
 o1 51 (.bsl 1 3 [.c (.int .i64 0),.c (.int .i64 1)]),
 o1 52 (.call 74 [.c (.int .i64 2),.c (.int .i64 2),.t 51]),
 o1 53 (.call 20 [.t 50,.t 52]),
 m1 49 53,
 o1 54 (.ext (.t 49) 0),
 o1 55 (.ext (.t 49) 1),
 m1 13 54,
 m1 14 55])
 (.seq (.reg [
 o1 57 (.call 73 []),
 o1 58 (.bsl 1 3 [.c (.int .i64 0),.c (.int .i64 1)]),
 o1 59 (.call 74 [.c (.int .i64 2),.c (.int .i64 2),.t 58]),
 o1 60 (.call 22 [.t 57,.t 59,.c (.int .i64 0)]),
 m1 56 60,
 o1 61 (.ext (.t 56) 0),
 o1 62 (.ext (.t 56) 1),
 m1 15 61,
 m1 16 62])
 (.seq (.reg [
 o1 64 (.call 73 []),
 o1 65 (.call 25 [.t 64]),
 m1 63 65,
 o1 66 (.ext (.t 63) 0),
 o1 67 (.ext (.t 63) 1),
 o1 68 (.ext (.t 63) 2),
 o1 17 (.alloc [.slice none 0 0,.int .i64 0,.int .i64 0] 37),
 ⟨none,.st (.t 17) (.t 66) 3,none,[]⟩,
 m1 18 67,
 m1 19 68])
 (.seq (.reg [
 o1 70 (.call 73 []),
 o1 71 (.call 27 [.t 70]),
 m1 69 71,
 o1 72 (.ext (.t 69) 0),
 o1 73 (.ext (.t 69) 1),
 m1 20 72,
 m1 21 73])
 (.seq (.regd [0,1,2,3,4,5,6,7,8,9,10,11,12,13,14,15,16,17,18,19,20,21,22,23,24,25,26,27,28,29,30,31,32,33,34,35,36,37,38,39,40,41,42,43,44,45,46,47,48,49,50,51,52,53,54,55,56,57,58,59,60,61,62] [
 .op (m1 74 4),
 .op ⟨some 75,.bin .eql (.t 74) (.c (.int .i64 0)),none,[0]⟩,
 .op ⟨some 76,.mv (.t 75),none,[1]⟩,
 .op ⟨some 77,.mv (.t 1),some (76,true),[2]⟩,
 .op ⟨some 78,.bin .eql (.t 77) (.c (.int .u8 0)),some (76,true),[2,3]⟩,
 .op ⟨some 79,.pick (.t 76) (.t 78) (.c (.bool false)),none,[2,4]⟩,
 .op ⟨some 80,.mv (.t 79),none,[2,5]⟩,
 .op ⟨some 81,.mv (.t 8),some (80,true),[6]⟩,
 .op ⟨some 82,.bin .eql (.t 81) (.c (.int .i64 0)),some (80,true),[6,7]⟩,
 .op ⟨some 83,.pick (.t 80) (.t 82) (.c (.bool false)),none,[6,8]⟩,
 .op ⟨some 84,.mv (.t 83),none,[6,9]⟩,
 .op ⟨some 85,.mv (.t 5),some (84,true),[10]⟩,
 .op ⟨some 86,.bin .eql (.t 85) (.c (.int .u8 4)),some (84,true),[10,11]⟩,
 .op ⟨some 87,.pick (.t 84) (.t 86) (.c (.bool false)),none,[10,12]⟩,
 .op ⟨some 88,.mv (.t 87),none,[10,13]⟩,
 .op ⟨some 89,.mv (.t 12),some (88,true),[14]⟩,
 .op ⟨some 90,.bin .eql (.t 89) (.c (.int .i64 0)),some (88,true),[14,15]⟩,
 .op ⟨some 91,.pick (.t 88) (.t 90) (.c (.bool false)),none,[14,16]⟩,
 .op ⟨some 92,.mv (.t 91),none,[14,17]⟩,
 .op ⟨some 93,.mv (.t 9),some (92,true),[18]⟩,
 .op ⟨some 94,.bin .eql (.t 93) (.c (.int .u8 0)),some (92,true),[18,19]⟩,
 .op ⟨some 95,.pick (.t 92) (.t 94) (.c (.bool false)),none,[18,20]⟩,
 .op ⟨some 96,.mv (.t 95),none,[18,21]⟩,
 .op ⟨some 97,.mv (.t 14),some (96,true),[22]⟩,
 .op ⟨some 98,.bin .eql (.t 97) (.c (.int .i64 0)),some (96,true),[22,23]⟩,
 .op ⟨some 99,.pick (.t 96) (.t 98) (.c (.bool false)),none,[22,24]⟩,
 .op ⟨some 100,.mv (.t 99),none,[22,25]⟩,
 .op ⟨some 101,.mv (.t 13),some (100,true),[26]⟩,
 .op ⟨some 102,.bin .eql (.t 101) (.c (.int .i64 600)),some (100,true),[26,27]⟩,
 .op ⟨some 103,.pick (.t 100) (.t 102) (.c (.bool false)),none,[26,28]⟩,
 .op ⟨some 104,.mv (.t 103),none,[26,29]⟩,
 .op ⟨some 105,.mv (.t 16),some (104,true),[30]⟩,
 .op ⟨some 106,.bin .eql (.t 105) (.c (.int .i64 0)),some (104,true),[30,31]⟩,
 .op ⟨some 107,.pick (.t 104) (.t 106) (.c (.bool false)),none,[30,32]⟩,
 .op ⟨some 108,.mv (.t 107),none,[30,33]⟩,
 .op ⟨some 109,.mv (.t 15),some (108,true),[34]⟩,
 .op ⟨some 110,.build [.int .i64 0,.int .i64 0,.int .i64 0] [(0,1,.c (.int .i64 1)),(1,1,.c (.int .i64 2)),(2,1,.c (.int .i64 100000))],some (108,true),[34]⟩,
 .op ⟨some 111,.bsl 3 111 [.t 110],some (108,true),[34,36]⟩,
 .op ⟨some 112,.call 24 [.t 109,.t 111],some (108,true),[34,35,37]⟩,
 .op ⟨some 113,.pick (.t 108) (.t 112) (.c (.bool false)),none,[34,38]⟩,
 .op ⟨some 114,.mv (.t 113),none,[38,39]⟩,
 .op ⟨some 115,.mv (.t 19),some (114,true),[40]⟩,
 .op ⟨some 116,.bin .eql (.t 115) (.c (.int .i64 0)),some (114,true),[40,41]⟩,
 .op ⟨some 117,.pick (.t 114) (.t 116) (.c (.bool false)),none,[40,42]⟩,
 .op ⟨some 118,.mv (.t 117),none,[40,43]⟩,
 .op ⟨some 119,.mv (.t 18),some (118,true),[44]⟩,
 .op ⟨some 120,.bin .eql (.t 119) (.c (.int .i64 660)),some (118,true),[44,45]⟩,
 .op ⟨some 121,.pick (.t 118) (.t 120) (.c (.bool false)),none,[44,46]⟩,
 .op ⟨some 122,.mv (.t 121),none,[44,47]⟩,
 .op ⟨some 123,.ld (.t 17) 3 true,some (122,true),[48]⟩,
 .op ⟨some 124,.bsl 1 3 [.c (.int .i64 0),.c (.int .i64 1)],some (122,true),[48]⟩,
 .op ⟨some 125,.call 74 [.c (.int .i64 1),.c (.int .i64 4),.t 124],some (122,true),[48,50]⟩,
 .op ⟨some 126,.call 19 [.t 123,.t 125],some (122,true),[48,49,51]⟩,
 .op ⟨some 127,.pick (.t 122) (.t 126) (.c (.bool false)),none,[48,52]⟩,
 .op ⟨some 128,.mv (.t 127),none,[52,53]⟩,
 .op ⟨some 129,.mv (.t 21),some (128,true),[54]⟩,
 .op ⟨some 130,.bin .eql (.t 129) (.c (.int .i64 0)),some (128,true),[54,55]⟩,
 .op ⟨some 131,.pick (.t 128) (.t 130) (.c (.bool false)),none,[54,56]⟩,
 .op ⟨some 132,.mv (.t 131),none,[54,57]⟩,
 .op ⟨some 133,.mv (.t 20),some (132,true),[58]⟩,
 .op ⟨some 134,.bin .eql (.t 133) (.c (.int .i64 1200)),some (132,true),[58,59]⟩,
 .op ⟨some 135,.pick (.t 132) (.t 134) (.c (.bool false)),none,[58,60]⟩,
 .op ⟨some 0,.mv (.t 135),none,[0,1,2,3,4,5,6,7,8,9,10,11,12,13,14,15,16,17,18,19,20,21,22,23,24,25,26,27,28,29,30,31,32,33,34,35,36,37,38,39,40,41,42,43,44,45,46,47,48,49,50,51,52,53,54,55,56,57,58,59,60,61]⟩] 0 0 [
])
 .ret)))))))))
def r30:List RV:=[.tmp 0]
theorem t30:Qt1 Tryz.prog 30 c30 r30 136:=Z3 Tryz.func30 rfl (by kernel_rfl) (by kernel_rfl) (by kernel_rfl) (by kernel_rfl)
def c31:SC:=(.seq (.reg [
 o1 2 (.box (.t 0) 0 34),
 o1 3 (.box (.t 1) 0 37),
 o1 4 (.mv (.c (.bool false)))])
 (.seq (.reg [
 o1 5 (.ld (.t 2) 37 true),
 o1 6 (.call 12 [.t 5]),
 o1 7 (.un .not (.t 6)),
 m1 8 7,
 ⟨some 9,.ld (.t 2) 37 true,some (8,true),[]⟩,
 ⟨some 10,.call 17 [.t 9],some (8,true),[]⟩,
 ⟨some 11,.bin .eql (.t 10) (.c (.int .i64 0)),some (8,true),[]⟩,
 o1 12 (.pick (.t 8) (.t 11) (.c (.bool false))),
 m1 13 12,
 ⟨some 14,.addo (.t 3) 0,some (13,true),[]⟩,
 ⟨some 15,.ld (.t 14) 1 false,some (13,true),[]⟩,
 ⟨some 16,.len (.t 15),some (13,true),[]⟩,
 ⟨some 17,.bin .leq (.t 16) (.c (.int .i64 40)),some (13,true),[]⟩,
 o1 18 (.pick (.t 13) (.t 17) (.c (.bool false))),
 m1 19 18,
 ⟨some 20,.ld (.t 2) 37 true,some (19,true),[]⟩,
 ⟨some 21,.ld (.t 3) 3 true,some (19,true),[]⟩,
 ⟨some 22,.call 44 [.t 20,.t 21],some (19,true),[]⟩,
 o1 23 (.pick (.t 19) (.t 22) (.c (.bool false))),
 m1 24 23,
 ⟨some 25,.addo (.t 2) 35,some (24,true),[]⟩,
 ⟨some 26,.ld (.t 25) 1 false,some (24,true),[]⟩,
 ⟨some 27,.bin .leq (.t 26) (.c (.int .i64 2000)),some (24,true),[]⟩,
 o1 28 (.pick (.t 24) (.t 27) (.c (.bool false))),
 m1 4 28])
 .ret))
def r31:List RV:=[.tmp 4]
theorem t31:Qt1 Tryz.prog 31 c31 r31 29:=Z3 Tryz.func31 rfl (by kernel_rfl) (by kernel_rfl) (by kernel_rfl) (by kernel_rfl)
def c10:SC:=(.seq (.reg [
 o1 2 (.box (.t 0) 0 34),
 o1 3 (.box (.t 1) 0 37),
 o1 4 (.mv (.c (.bool false)))])
 (.seq (.reg [
 o1 14 (.call 30 []),
 m1 5 14])
 (.seq (.seq (.reg [
 m1 15 5,
 o1 16 (.un .not (.t 15))])
 (.cond (.t 16)
 (.seq (.reg [
  o1 4 (.mv (.c (.bool false)))])
  .ret)
 .skip))
 (.seq (.seq (.reg [
 o1 17 (.ld (.t 2) 37 true),
 o1 18 (.ld (.t 3) 3 true),
 o1 19 (.call 31 [.t 17,.t 18]),
 o1 20 (.un .not (.t 19))])
 (.cond (.t 20)
 (.seq (.reg [
  m1 21 5,
  m1 4 21])
  .ret)
 .skip))
 (.seq (.reg [
 o1 23 (.ld (.t 2) 37 true),
 o1 24 (.ld (.t 3) 3 true),
 o1 25 (.call 20 [.t 23,.t 24]),
 m1 22 25,
 o1 26 (.ext (.t 22) 0),
 o1 27 (.ext (.t 22) 1),
 m1 6 26,
 m1 7 27])
 (.seq (.reg [
 o1 8 (.mv (.c (.bool true))),
 o1 9 (.mv (.c (.bool false)))])
 (.seq (.seq (.reg [
 o1 28 (.addo (.t 2) 36),
 o1 29 (.ld (.t 28) 1 false),
 o1 30 (.len (.t 29)),
 o1 31 (.mv (.c (.int .i64 0)))])
 (.block 0 (.loop (.seq (.reg [
  o1 32 (.bin .lss (.t 31) (.t 30))])
  (.seq (.cond (.t 32)
  .skip
  (.exit 0))
  (.seq (.block 1 (.seq (.reg [
   m1 33 31,
   m1 10 33])
   (.seq (.reg [
   o1 34 (.ld (.t 2) 37 true),
   o1 35 (.call 13 [.t 34]),
   o1 11 (.alloc zv0 34),
   ⟨none,.st (.t 11) (.t 35) 37,none,[]⟩])
   (.seq (.reg [
   o1 36 (.addo (.t 11) 36),
   o1 37 (.ld (.t 36) 1 false),
   m1 38 10,
   m1 39 10,
   o1 40 (.bin .add (.t 39) (.c (.int .i64 1))),
   o1 41 (.sub 6 (.t 37) (some (.t 38)) (some (.t 40))),
   o1 42 (.addo (.t 11) 36),
   ⟨none,.st (.t 42) (.t 41) 1,none,[]⟩])
   (.seq (.reg [
   o1 44 (.ld (.t 11) 37 true),
   o1 45 (.ld (.t 3) 3 true),
   o1 46 (.call 20 [.t 44,.t 45]),
   m1 43 46,
   o1 47 (.ext (.t 43) 0),
   o1 48 (.ext (.t 43) 1),
   m1 12 47,
   m1 13 48])
   (.seq (.seq (.reg [
   m1 49 13,
   o1 50 (.bin .neq (.t 49) (.c (.int .i64 0))),
   m1 51 50,
   ⟨some 52,.mv (.t 13),some (51,true),[]⟩,
   ⟨some 53,.bin .neq (.t 52) (.c (.int .i64 92)),some (51,true),[]⟩,
   o1 54 (.pick (.t 51) (.t 53) (.c (.bool false)))])
   (.cond (.t 54)
   (.seq (.reg [
    o1 4 (.mv (.c (.bool false)))])
    .ret)
   .skip))
   (.seq (.reg [
   m1 55 8,
   m1 56 55,
   ⟨some 57,.mv (.t 13),some (56,true),[]⟩,
   ⟨some 58,.bin .eql (.t 57) (.c (.int .i64 0)),some (56,true),[]⟩,
   o1 59 (.pick (.t 56) (.t 58) (.c (.bool false))),
   m1 8 59])
   (.seq (.reg [
   m1 60 9,
   m1 61 60,
   ⟨some 62,.mv (.t 13),some (61,false),[]⟩,
   ⟨some 63,.bin .eql (.t 62) (.c (.int .i64 0)),some (61,false),[]⟩,
   ⟨some 64,.mv (.t 63),some (61,false),[]⟩,
   ⟨some 65,.mv (.t 12),some (64,true),[]⟩,
   ⟨some 66,.mv (.t 6),some (64,true),[]⟩,
   ⟨some 67,.bin .eql (.t 65) (.t 66),some (64,true),[]⟩,
   ⟨some 68,.pick (.t 64) (.t 67) (.c (.bool false)),some (61,false),[]⟩,
   o1 69 (.pick (.t 61) (.c (.bool true)) (.t 68)),
   m1 9 69])
   (.seq (.reg [
   m1 70 7,
   o1 71 (.bin .eql (.t 70) (.c (.int .i64 0))),
   m1 72 71,
   ⟨some 73,.mv (.t 13),some (72,true),[]⟩,
   ⟨some 74,.bin .eql (.t 73) (.c (.int .i64 0)),some (72,true),[]⟩,
   o1 75 (.pick (.t 72) (.t 74) (.c (.bool false))),
   m1 76 75,
   ⟨some 77,.mv (.t 12),some (76,true),[]⟩,
   ⟨some 78,.mv (.t 6),some (76,true),[]⟩,
   ⟨some 79,.bin .lss (.t 77) (.t 78),some (76,true),[]⟩,
   o1 80 (.pick (.t 76) (.t 79) (.c (.bool false)))])
   (.cond (.t 80)
   (.seq (.reg [
    o1 4 (.mv (.c (.bool false)))])
    .ret)
   .skip))))))))))
  (.reg [
  o1 81 (.bin .add (.t 31) (.c (.int .i64 1))),
  m1 31 81])))))))
 (.seq (.seq (.reg [
 m1 82 7,
 o1 83 (.bin .neq (.t 82) (.c (.int .i64 0)))])
 (.cond (.t 83)
 (.seq (.reg [
  m1 84 5,
  m1 85 84,
  ⟨some 86,.mv (.t 7),some (85,true),[]⟩,
  ⟨some 87,.bin .eql (.t 86) (.c (.int .i64 92)),some (85,true),[]⟩,
  o1 88 (.pick (.t 85) (.t 87) (.c (.bool false))),
  m1 89 88,
  ⟨some 90,.mv (.t 8),some (89,true),[]⟩,
  ⟨some 91,.un .not (.t 90),some (89,true),[]⟩,
  o1 92 (.pick (.t 89) (.t 91) (.c (.bool false))),
  m1 4 92])
  .ret)
 .skip))
 (.seq (.reg [
 m1 93 5,
 m1 94 93,
 ⟨some 95,.mv (.t 8),some (94,true),[]⟩,
 o1 96 (.pick (.t 94) (.t 95) (.c (.bool false))),
 m1 97 96,
 ⟨some 98,.mv (.t 9),some (97,true),[]⟩,
 o1 99 (.pick (.t 97) (.t 98) (.c (.bool false))),
 m1 100 99,
 ⟨some 101,.addo (.t 3) 1,some (100,true),[]⟩,
 ⟨some 102,.ld (.t 101) 1 false,some (100,true),[]⟩,
 ⟨some 103,.bin .gtr (.t 102) (.c (.int .i64 0)),some (100,true),[]⟩,
 ⟨some 104,.mv (.t 103),some (100,true),[]⟩,
 ⟨some 105,.mv (.t 6),some (104,false),[]⟩,
 ⟨some 106,.addo (.t 2) 28,some (104,false),[]⟩,
 ⟨some 107,.ld (.t 106) 1 false,some (104,false),[]⟩,
 ⟨some 108,.addo (.t 2) 32,some (104,false),[]⟩,
 ⟨some 109,.ld (.t 108) 1 false,some (104,false),[]⟩,
 ⟨some 110,.bin .mul (.t 107) (.t 109),some (104,false),[]⟩,
 ⟨some 111,.bin .eql (.t 105) (.t 110),some (104,false),[]⟩,
 ⟨some 112,.pick (.t 104) (.c (.bool true)) (.t 111),some (100,true),[]⟩,
 o1 113 (.pick (.t 100) (.t 112) (.c (.bool false))),
 m1 4 113])
 .ret)))))))))
def r10:List RV:=[.tmp 4]
theorem t10:Qt1 Tryz.prog 10 c10 r10 114:=Z3 Tryz.func10 rfl (by kernel_rfl) (by kernel_rfl) (by kernel_rfl) (by kernel_rfl)
open Go.Azalai
theorem Zw2 {s:Season} (h:OkS s) {p:Plan} (hp:YS s p=true):∃ m:Nat,m < s.land.wells.length/\Yp s.land s.start [s.start] p.legs=some (m:Int):=by
 obtain ⟨⟨to,hto⟩,_⟩:=Vb hp
 have:=ZcE h.lp h.start hto
 exact ⟨to.toNat,by omega,by rw [hto];congr 1;omega⟩
theorem Zbn (s:Season) (hs:SmallS s) (p:Plan) (hg:p.legs.length<=1000):Ct Tryz.prog 20 [.agg (Zp s),.agg (Zz p)] (.tup [I (YO s p).1,I (YO s p).2]):=by
 refine t20.1 (by simp [Zp,Zz,Zj,Zf,Zm,Zg,Zd,Zo,Za,KFL,KF]) (by simp [KFL,KF]) ?_
 dsimp only [c20,r20,Zp,Zz,go_sem,rA,rM,rS]
 refine call (Ul s hs p hg) ?_
 dsimp only [ZcX,go_sem,rA,rM,rS]
 by_cases he:(Yb s p).2.2.2=0
 case neg =>
  refine Zu (by simpa using he) ?_
  dsimp only [go_sem,rA,rM,rS]
  simp [YO,he]
 refine Zv (by simpa using he) ?_
 dsimp only [go_sem,rA,rM,rS]
 by_cases hw:(Yb s p).1=0
 case neg =>
  refine Zu (by simpa using hw) ?_
  dsimp only [go_sem,rA,rM,rS]
  simp [YO,he,hw]
 refine Zv (by simpa using hw) ?_
 dsimp only [go_sem,rA,rM,rS]
 obtain ⟨ho,hp⟩:=ZaV he
 have h:OkS s:=⟨hs,ho⟩
 obtain ⟨m,hm,hto⟩:=Zw2 h hp
 refine call (Zdf s hs h.land h.pace h.start p.legs hg _) ?_
 dsimp only [go_sem,rA,rM,rS]
 rw [hto]
 simp only [Option.getD_some]
 refine call (Ze2 s h p hp m hm) ?_
 dsimp only [go_sem,rA,rM,rS]
 simp [YO,he,hw,hto]
def ZkN (r:List Draw × Int):SV:=.tup [.sl false 3 (r.1.map ZX),I r.2]
theorem u22 {args:List SV} {res:SV} (ka:KFL args) (kr:KF res) (h:sx Tryz.prog Y0 0 cw22 (st0 args 48) (ZlQ rw22 res)) (hA:Nat.ble args.length 48=true:=by rfl):Ct Tryz.prog 22 args res:=Wq Tryz.func22 rfl bw22 ZrX ZuK nw22 (Nat.le_of_ble_eq_true hA) ka kr h
theorem Zqt (s:Season) (hs:SmallS s) (p:Plan) (hg:p.legs.length<=1000) (k:Int):Ct Tryz.prog 22 [.agg (Zp s),.agg (Zz p),I k] (ZkN (Zb4 s p k)):=by
 have hsc:=hs.sc
 refine u22 (by simp [Zp,Zz,Zj,Zf,Zm,Zg,Zd,Zo,Za,KFL,KF]) (by simp [ZkN,ZX,Za,KFL,KF]) ?_
 dsimp only [cw22,rw22,Zp,Zz,go_sem,rA,rM,rS]
 refine call (Ul s hs p hg) ?_
 dsimp only [ZcX,go_sem,rA,rM,rS]
 by_cases he:(Yb s p).2.2.2=0
 case neg =>
  refine Zu (by simpa using he) ?_
  dsimp only [go_sem,rA,rM,rS]
  refine ⟨_,rfl,?_⟩
  rw [Zb4,if_pos he]
  exact X3 (ZY YH X4)
 refine Zv (by simpa using he) ?_
 dsimp only [go_sem,rA,rM,rS]
 obtain ⟨ho,hp⟩:=ZaV he
 have h:OkS s:=⟨hs,ho⟩
 try simp only [List.length_map]
 repeat (first | (refine gb ?_;dsimp only [go_sem,rA,rM,rS]) | (refine call (Zfh _ _ _ _) ?_;dsimp only [go_sem,rA,rM,rS]))
 simp only [List.length_map]
 rw [Zi (n:=(s.scenes.length:Int) - 1) (by omega) (by omega)]
 by_cases hw:(Yb s p).1≠0\/inR 0 (s.scenes.length - 1) k=false
 . refine Zu (by simpa using hw) ?_
   dsimp only [go_sem,rA,rM,rS]
   refine ⟨_,rfl,?_⟩
   rw [Zb4,if_neg (by simpa using he),if_pos hw]
   exact X3 (ZY YH X4)
 refine Zv (by simpa using hw) ?_
 dsimp only [go_sem,rA,rM,rS]
 have hw1:(Yb s p).1=0:=Classical.byContradiction fun q=>hw (.inl q)
 have hk:0<=k/\k < s.scenes.length:=by
  have:inR 0 (s.scenes.length - 1) k=true:=by cases hq:inR 0 (s.scenes.length - 1) k with | true=>rfl | false=>exact absurd (.inr hq) hw
  simp only [inR,decide_eq_true_eq] at this;omega
 obtain ⟨j,rfl⟩:∃ j:Nat,k=j:=⟨k.toNat,by omega⟩
 have hj:j < s.scenes.length:=by omega
 have ht:=Zh5 s h j hj p hp hg
 have hf:=Zlu he hw1 _ (List.getElem_mem hj)
 have hR:Zb4 s p j=(XM s s.scenes[j] p.animals p.slabs (Z6 s p.legs),0):=by
  rw [Zb4,if_neg (by simpa using he),if_neg hw]
  simp only [Int.toNat_natCast,List.getElem?_eq_getElem hj]
 rw [hR]
 have hT:Wl s p s.scenes[j]=XM s s.scenes[j] p.animals p.slabs (Z6 s p.legs):=by rw [Wl,if_pos hf]
 rw [hT] at ht
 generalize XM s s.scenes[j] p.animals p.slabs (Z6 s p.legs)=D at ht ⊢
 generalize YN s p s.scenes[j]=w at ht
 refine YK [] ht rfl rfl rfl ?_ ?_ ?_
 . exact Zc (by simp [Yk,Zz,Zf,Zm,Zg,Zj,Zd,Zo,ZO,Za,KFL,KF])
 . trivial
 rintro _ rfl
 (repeat first | dsimp only [ZqJ,go_sem,rA,rM,rS] | simp only [nbr])
 exact ⟨_,rfl,fun _ _ _ _ _ h=>h⟩
theorem ZdJ (a b:List Draw) (ha:a.length<=1000000) (hb:b.length<=1000000) (c d:Bool):Ct Tryz.prog 24 [.sl c 3 (a.map ZX),.sl d 3 (b.map ZX)] (B (decide (a=b))):=by
 refine t24.1 (by simp [ZX,Za,KFL,KF]) (by simp [KFL,KF]) ?_
 dsimp only [c24,r24,go_sem,rA,rM,rS]
 simp only [List.length_map]
 by_cases hl:a.length=b.length
 case neg =>
  refine Zu (by simp;omega) ?_
  dsimp only [go_sem,rA,rM,rS]
  rw [decide_eq_false (fun e=>hl (by rw [e]))]
 refine Zv (by simp;omega) ?_
 dsimp only [go_sem,rA,rM,rS]
 refine WZ [0,1,4,5] rfl (fun k:Nat=>[(5,I k)]) (fun _=>[]) (fun k=>k<=a.length/\(a=b↔a.drop k=b.drop k)) (fun k=>a.length - k) 0 ⟨Nat.zero_le _,by simp⟩ ?_ ?_
 . (refine Zl ?_ ?_ ?_ rfl rfl<;>dsimp only [ZX,id,go_sem,rA,rM,rS]<;>simp [ZX,Za,Ze,KFR,KFL,KF,Zc,mtO,nbr])
 rintro k ⟨hk,hi⟩
 dsimp only [go_sem,rA,rM,rS]
 simp only [List.length_map]
 by_cases hlt:k < a.length
 case neg =>
  refine Zv (by simp;omega) ?_
  dsimp only [go_sem,rA,rM,rS]
  rw [List.drop_eq_nil_of_le (by omega),List.drop_eq_nil_of_le (by omega)] at hi
  rw [decide_eq_true (hi.2 rfl)]
 refine Zu (by simpa using hlt) ?_
 dsimp only [go_sem,rA,rM,rS]
 have hlb:k < b.length:=by omega
 refine Zr k hlt rfl ?_
 dsimp only [go_sem,rA,rM,rS]
 refine Zr k hlb rfl ?_
 dsimp only [ZX,go_sem,rA,rM,rS]
 rw [List.drop_eq_getElem_cons hlt,List.drop_eq_getElem_cons hlb,List.cons.injEq] at hi
 by_cases hq:a[k]=b[k]
 . refine Zv (by simp [hq]) ?_
   dsimp only [go_sem,rA,rM,rS]
   rw [Zi (n:=(k:Int)+1) (by omega) (by omega)]
   refine ⟨k+1,⟨hlt,by rw [hi];simp [hq]⟩,by omega,?_⟩
   (refine Zl ?_ ?_ ?_ rfl rfl<;>dsimp only [ZX,id,go_sem,rA,rM,rS]<;>simp [ZX,Za,Ze,KFR,KFL,KF,Zc,mtO,nbr])
 . have hne:¬ (a[k].well=b[k].well/\a[k].day=b[k].day/\a[k].water=b[k].water):=fun q=>hq (by
    revert q;generalize a[k]=x;generalize b[k]=y;intro q;cases x;cases y;simpa using q)
   refine Zu (by simp;omega) ?_
   dsimp only [go_sem,rA,rM,rS]
   rw [decide_eq_false (fun e=>hq (hi.1 e).1)]
end Go.Proofs.YtiigiflofnjilaaGreat
namespace Go.Azalai
open Go.Sx Go.Proofs.YtiigiflofnjilaaGreat
theorem ZnP {l:Land} {well day:Int}:(Wc l well [] day).1.lo<=1000000000:=by
 unfold Wc
 split
 . simp
 rename_i h1
 split
 . simp
 split
 . simp
 split
 . simp
 split
 . rename_i w hw
   simp only [Bool.not_eq_false,ZR,Bool.and_eq_true,List.all_eq_true,inR,decide_eq_true_eq] at h1
   have hwell:=h1.1.2 w (List.mem_of_getElem? hw)
   simp only [YI,Z8,inR,Bool.and_eq_true,decide_eq_true_eq] at hwell
   simp only [VF,XX]
   omega
 . simp
theorem ZwC {s:Season} {x:Scene} (st:Stop):ZcZ s x st<=1000000000:=ZnP
theorem Zep {s:Season} {p:Plan} {x:Scene} (h:OkS s) (hp:YS s p=true):∀ d ∈ Wl s p x,0<=d.water/\d.water<=30000000:=by
 have hn:=h.num
 obtain ⟨_,hpl⟩:=Vb hp
 intro d hd
 unfold Wl at hd
 split at hd
 . unfold XM at hd
   split at hd
   . cases hd
   split at hd
   . obtain ⟨st,_,rfl⟩:=List.mem_map.1 hd
     simp
   . unfold W5 at hd
     obtain ⟨i,hi,rfl⟩:=List.getElem_of_mem hd
     simp only [List.length_zipWith] at hi
     rw [List.getElem_zipWith]
     have hb:=(ZwB (x:=x) (slabs:=p.slabs) (l:=Z6 s p.legs) h.beast.1 h.beast.2).1 _ (List.getElem_mem (show i < _ by omega))
     simp only [ZaS]
     have h1:0<=p.animals * ((goF s x p.slabs (Z6 s p.legs)).2.2[i]'(by omega)).1:=Int.mul_nonneg hpl.1 hb.1
     have h2:p.animals * ((goF s x p.slabs (Z6 s p.legs)).2.2[i]'(by omega)).1<=30 * 1000000:=Int.mul_le_mul (by omega) hb.2 hb.1 (by decide)
     omega
 . cases hd
theorem ZhW {s:Season} {p:Plan} {x:Scene} (hg:p.legs.length<=1000):(Wl s p x).length<=1000:=by
 have h1:(Z6 s p.legs).length<=1000:=Nat.le_trans ZaW hg
 unfold Wl XM
 split
 . split
   . simp
   split
   . simp;omega
   . simp only [W5,List.length_zipWith];omega
 . simp
end Go.Azalai
namespace Go.Proofs.YtiigiflofnjilaaGreat
open Go Go.Sx Go.Azalai
theorem ZtZ (s:Season) (h:OkS s) (a:List Int) (ha:(Yp s.land s.start [s.start] a).isSome=true) (hg:a.length<=1000) (k:Int) (hk:0<=k/\k<=12) :
 Ct Tryz.prog 66 [.agg (Zp s),.sl false 1 (a.map Zo),I k] (I (Zef s a k)):=by
 have hnum:=h.num
 have hsc:=h.scs
 have hp:YS s ⟨a,1,k⟩=true:=by
  simp only [YS,ha,inR,Bool.true_and,Bool.and_eq_true,decide_eq_true_eq];omega
 refine tw66.1 (by simp [Zp,Zj,Zf,Zm,Zg,Zd,Zo,Za,KFL,KF]) (by simp [KFL,KF]) ?_
 dsimp only [cw66,rw66,Zp,go_sem,rA,rM,rS]
 simp only [List.length_map]
 refine WZ [1,2,3,7,18,19] rfl (fun q:Nat × Int=>[(19,I q.1),(7,I q.2)]) (fun _=>[])
  (fun q=>q.1<=s.scenes.length/\Zq2 s a k (s.scenes.drop q.1) q.2=Zef s a k/\0<=q.2/\q.2<=30) (fun q=>s.scenes.length - q.1) (0,s.herd) ⟨Nat.zero_le _,rfl,by simp only;omega,by simp only;omega⟩ ?_ ?_
 . (refine Zl ?_ ?_ ?_ rfl rfl<;>dsimp only [Zf,Zm,Zg,Zj,Zd,Zo,id,go_sem,rA,rM,rS]<;>simp [Zf,Zm,Zg,Zj,Zd,Zo,Za,Ze,KFR,KFL,KF,Zc,mtO,nbr])
 rintro ⟨j,n⟩ ⟨hj,hi,hn0,hn1⟩
 simp only at hj hi hn0 hn1
 dsimp only [go_sem,rA,rM,rS]
 by_cases hlt:j < s.scenes.length
 case neg =>
  refine Zv (by simp;omega) ?_
  dsimp only [go_sem,rA,rM,rS]
  rw [List.drop_eq_nil_of_le (by omega),Zq2] at hi
  rw [hi]
 refine Zu (by simpa using hlt) ?_
 dsimp only [go_sem,rA,rM,rS]
 have ht:=Zh5 s h j hlt ⟨a,1,k⟩ hp hg
 have hx:=h.scene _ (List.getElem_mem hlt)
 have hy:s.scenes[j].yields.length=s.land.wells.length:=by simp only [Ys,Bool.and_eq_true,decide_eq_true_eq] at hx;omega
 have hwat:=Zep (x:=s.scenes[j]) h hp
 have hlen:=ZhW (s:=s) (p:=⟨a,1,k⟩) (x:=s.scenes[j]) hg
 rw [List.drop_eq_getElem_cons hlt,Zq2] at hi
 generalize Wl s ⟨a,1,k⟩ s.scenes[j]=D at ht hi hwat hlen
 generalize YN s ⟨a,1,k⟩ s.scenes[j]=w at ht hi
 refine YK [] ht rfl rfl rfl ?_ ?_ ?_
 . exact Zc (by simp [Yk,Zz,Zf,Zm,Zg,Zj,Zd,Zo,ZO,Za,KFL,KF])
 . trivial
 rintro _ rfl
 (repeat first | dsimp only [ZqJ,go_sem,rA,rM,rS] | simp only [nbr])
 by_cases hw0:w.1=0
 case neg =>
  refine Zu (by simpa using hw0) ?_
  dsimp only [go_sem,rA,rM,rS]
  rw [if_pos hw0] at hi
  rw [<- hi]
 refine Zv (by simpa using hw0) ?_
 dsimp only [go_sem,rA,rM,rS]
 rw [if_neg (by simpa using hw0)] at hi
 simp only [List.length_map]
 refine WZ [1,2,3,7,9,18,19,36,37,38] rfl (fun q:Nat × Int=>[(38,I q.1),(7,I q.2)]) (fun _=>[])
  (fun q=>q.1<=D.length/\Zha s s.scenes[j] (D.drop q.1) q.2=Zha s s.scenes[j] D n/\0<=q.2/\q.2<=30) (fun q=>D.length - q.1) (0,n) ⟨Nat.zero_le _,rfl,hn0,hn1⟩ ?_ ?_
 . (refine Zl ?_ ?_ ?_ rfl rfl<;>dsimp only [Yk,Zf,Zm,Zg,Zj,Zd,Zo,ZO,ZX,id,go_sem,rA,rM,rS]<;>simp [Yk,Zf,Zm,Zg,Zj,Zd,Zo,ZO,ZX,Za,Ze,KFR,KFL,KF,Zc,mtO,nbr])
 rintro ⟨i,m⟩ ⟨hi0,hi1,hm0,hm1⟩
 simp only at hi0 hi1 hm0 hm1
 dsimp only [go_sem,rA,rM,rS]
 by_cases hilt:i < D.length
 case neg =>
  refine Zv (by simp;omega) ?_
  dsimp only [go_sem,rA,rM,rS]
  rw [List.drop_eq_nil_of_le (by omega),Zha] at hi1
  rw [Zi (n:=(j:Int)+1) (by omega) (by omega)]
  refine ⟨(j+1,m),⟨hlt,by simp only;rw [hi1];exact hi,hm0,hm1⟩,by simp only;omega,?_⟩
  (refine Zl ?_ ?_ ?_ rfl rfl<;>dsimp only [Yk,Zf,Zm,Zg,Zj,Zd,Zo,ZO,ZX,id,go_sem,rA,rM,rS]<;>simp [Yk,Zf,Zm,Zg,Zj,Zd,Zo,ZO,ZX,Za,Ze,KFR,KFL,KF,Zc,mtO,nbr])
 refine Zu (by simpa using hilt) ?_
 dsimp only [go_sem,rA,rM,rS]
 refine Zr i hilt rfl ?_
 dsimp only [ZX,go_sem,rA,rM,rS]
 rw [List.drop_eq_getElem_cons hilt,Zha] at hi1
 have hw:=hwat _ (List.getElem_mem hilt)
 have hnext:IntKind.i64.wrap ((i:Int)+1)=((i+1:Nat):Int):=by rw [Zi (by omega) (by omega)];omega
 by_cases hpos:D[i].water > 0
 . refine Zu (by simpa using hpos) ?_
   dsimp only [go_sem,rA,rM,rS]
   refine call (ZqN s h.small j hlt hy ⟨0,D[i].well,⟨0,0⟩,⟨D[i].day,0⟩⟩) ?_
   dsimp only [go_sem,rA,rM,rS]
   refine Zrg (by omega) ?_
   have h1:=Zq0 (s:=s) (x:=s.scenes[j]) ⟨0,D[i].well,⟨0,0⟩,⟨D[i].day,0⟩⟩
   have h2:=ZwC (s:=s) (x:=s.scenes[j]) ⟨0,D[i].well,⟨0,0⟩,⟨D[i].day,0⟩⟩
   have h3:=X6 (d:=D[i].water) h1 h2 (by omega)
   dsimp only [go_sem,rA,rM,rS]
   rw [Zi (n:=(ZcZ s s.scenes[j] ⟨0,D[i].well,⟨0,0⟩,⟨D[i].day,0⟩⟩).tdiv D[i].water) (by omega) (by omega),hnext]
   rw [if_pos hpos] at hi1
   refine ⟨(i+1,min m ((ZcZ s s.scenes[j] ⟨0,D[i].well,⟨0,0⟩,⟨D[i].day,0⟩⟩).tdiv D[i].water)),⟨hilt,hi1,by simp only;omega,by simp only;omega⟩,by simp only;omega,?_⟩
   (refine Zl ?_ ?_ ?_ rfl rfl<;>dsimp only [Yk,Zf,Zm,Zg,Zj,Zd,Zo,ZO,ZX,id,go_sem,rA,rM,rS]<;>simp [Yk,Zf,Zm,Zg,Zj,Zd,Zo,ZO,ZX,Za,Ze,KFR,KFL,KF,Zc,mtO,nbr])
 . refine Zv (by simpa using hpos) ?_
   dsimp only [go_sem,rA,rM,rS]
   rw [hnext]
   rw [if_neg hpos] at hi1
   refine ⟨(i+1,m),⟨hilt,hi1,hm0,hm1⟩,by simp only;omega,?_⟩
   (refine Zl ?_ ?_ ?_ rfl rfl<;>dsimp only [Yk,Zf,Zm,Zg,Zj,Zd,Zo,ZO,ZX,id,go_sem,rA,rM,rS]<;>simp [Yk,Zf,Zm,Zg,Zj,Zd,Zo,ZO,ZX,Za,Ze,KFR,KFL,KF,Zc,mtO,nbr])
def Vf (b:Bst):List SV:=[I b.w,I (-b.an),I (-b.sl),I (-(b.legs.length:Int))]
theorem mapW (a:List Nat):(Y3 a).map Zo=a.map Ye:=by simp [Y3,Ye,Zo]
theorem Ze5 (a:List Nat):(Y3 a).length=a.length:=by simp [Y3]
structure SmB (b:Bst):Prop where
 len:b.legs.length<=1000
 an:0<=b.an/\b.an<=30
 sl:0<=b.sl/\b.sl<=12
theorem Zdr (b:Bst) (hb:SmB b):Ct Tryz.prog 64 [.agg (Zz b.plan),I b.w] (.agg (Vf b)):=by
 obtain ⟨h1,h2,h3⟩:=hb
 refine t64.1 (by simp [Zz,Bst.plan,Zo,Za,KFL,KF]) (by simp [Vf,KFL,KF]) ?_
 dsimp only [c64,r64,Zz,Bst.plan,Vf,go_sem,rA,rM,rS]
 simp only [List.length_map,Ze5]
 rw [Int.zero_sub,Int.zero_sub,Int.zero_sub,Zi (n:=-b.an) (by omega) (by omega),Zi (n:=-b.sl) (by omega) (by omega),Zi (n:=-(b.legs.length:Int)) (by omega) (by omega)]
theorem Zjs (q p:Bst) (hq:SmB q) (hp:SmB p):Ct Tryz.prog 67 [.agg (Zz q.plan),.agg (Vf q),.agg (Zz p.plan),.agg (Vf p)] (B (Yj q p)):=by
 have hq1:=hq.len
 have hp1:=hp.len
 refine t67.1 (by simp [Zz,Bst.plan,Zo,Za,Vf,KFL,KF]) (by simp [KFL,KF]) ?_
 dsimp only [c67,r67,Zz,Bst.plan,Vf,go_sem,rA,rM,rS]
 by_cases e:q.w=p.w/\q.an=p.an/\q.sl=p.sl/\q.legs.length=p.legs.length
 . obtain ⟨e1,e2,e3,e4⟩:=e
   refine Zu (by simp [e1,e2,e3,e4]) ?_
   dsimp only [go_sem,rA,rM,rS]
   have hc:=Zge q.legs p.legs (by omega) (by omega)
   simp only [ZV,<- mapW] at hc
   refine call hc ?_
   dsimp only [go_sem,rA,rM,rS]
   rw [Zfb]
   simp [Yj,e1,e2,e3,e4]
 refine Zv (by simp;omega) ?_
 dsimp only [go_sem,rA,rM,rS]
 refine Xc 5 ?_
 dsimp only [Zb,go_sem,rA,rM,rS]
 refine Zu (by decide) ?_
 dsimp only [Zb,go_sem,rA,rM,rS]
 repeat (refine ixa 0 rfl (by decide) ?_;dsimp only [Zb,go_sem,rA,rM,rS])
 by_cases e1:q.w=p.w
 case neg =>
  refine Zu (by simpa using e1) ?_
  dsimp only [Zb,go_sem,rA,rM,rS]
  repeat (refine ixa 0 rfl (by decide) ?_;dsimp only [Zb,go_sem,rA,rM,rS])
  simp [Yj,e1]
 refine Zv (by simpa using e1) ?_
 dsimp only [Zb,go_sem,rA,rM,rS]
 refine Zu (by decide) ?_
 dsimp only [Zb,go_sem,rA,rM,rS]
 repeat (refine ixa 1 rfl (by decide) ?_;dsimp only [Zb,go_sem,rA,rM,rS])
 by_cases e2:q.an=p.an
 case neg =>
  refine Zu (by simp;omega) ?_
  dsimp only [Zb,go_sem,rA,rM,rS]
  repeat (refine ixa 1 rfl (by decide) ?_;dsimp only [Zb,go_sem,rA,rM,rS])
  have:decide (-q.an > -p.an)=decide (q.an < p.an):=by rw [decide_eq_decide];omega
  simp [Yj,e1,e2]
 refine Zv (by simp;omega) ?_
 dsimp only [Zb,go_sem,rA,rM,rS]
 refine Zu (by decide) ?_
 dsimp only [Zb,go_sem,rA,rM,rS]
 repeat (refine ixa 2 rfl (by decide) ?_;dsimp only [Zb,go_sem,rA,rM,rS])
 by_cases e3:q.sl=p.sl
 case neg =>
  refine Zu (by simp;omega) ?_
  dsimp only [Zb,go_sem,rA,rM,rS]
  repeat (refine ixa 2 rfl (by decide) ?_;dsimp only [Zb,go_sem,rA,rM,rS])
  simp [Yj,e1,e2,e3]
 refine Zv (by simp;omega) ?_
 dsimp only [Zb,go_sem,rA,rM,rS]
 refine Zu (by decide) ?_
 dsimp only [Zb,go_sem,rA,rM,rS]
 repeat (refine ixa 3 rfl (by decide) ?_;dsimp only [Zb,go_sem,rA,rM,rS])
 have e4:¬ q.legs.length=p.legs.length:=fun e4=>e ⟨e1,e2,e3,e4⟩
 refine Zu (by simp;omega) ?_
 dsimp only [Zb,go_sem,rA,rM,rS]
 repeat (refine ixa 3 rfl (by decide) ?_;dsimp only [Zb,go_sem,rA,rM,rS])
 simp [Yj,e1,e2,e3,e4]
end Go.Proofs.YtiigiflofnjilaaGreat
namespace Go.Sx
open Go Go.RowKit
theorem ZhG {m:Nat} {σ : St} (k:Nat) {l l':List SV} {T':TypeId} (hk:lkh k σ.hp = .cells l T') (hw:∀ (w:World) (E:Env) (n ok:Nat->Prop) (ys:List Value),RL w E n ok l ys->RL w E n ok l' ys) :
 Ent m σ ⟨σ.fr,(k,.cells l' T') :: σ.hp,σ.n,σ.N,σ.gs⟩:=fun C E a w _ h=>by
 have hocc:∀ b,occ E k (.cells l' T') b↔occ E k (lkh k σ.hp) b:=fun b=>by rw [hk];rfl
 obtain ⟨h6,h7⟩:=WE (hb:=.cells l' T') (B:=E.β k) h.hs hocc (by rw [hk];rfl) ⟨rfl,rfl,rfl,rfl,fun _ _=>rfl⟩ (fun hst=>by
  have hb:=h.hs.bk k
  rw [hk] at hb
  simp only [Z4] at hb ⊢
  obtain ⟨cs,e1,e2⟩:=hb
  exact ⟨cs,e1,hw _ _ _ _ _ (ZD hst (fun _ _=>Ele.rfl) (fun _ h=>h) _ _ e2)⟩)
 exact ⟨E,fun u=>Xg h7 (fun _ _=>Ele.rfl) (fun _ h=>h) (fun _ _ _ _=>Iff.rfl) (h.fr u),h.sz,XN h7 h.df,h.gs,h6⟩
end Go.Sx
namespace Go.Proofs.YtiigiflofnjilaaGreat
open Go Go.Sx Go.Azalai
def Zu9 (r:Plan × Int × Int):SV:=.tup [.agg (Zz r.1),I r.2.1,I r.2.2]
theorem Zvq (w:Int):Ct Tryz.prog 64 [.agg [.v (.slice none 0 0),I 0,I 0],I w] (.agg [I w,I 0,I 0,I 0]) :=
 (Zdr ⟨[],0,0,w⟩ ⟨by simp,by simp,by simp⟩).args (by simp [KFL,KF]) (ZY (Vo (ZY YH X4)) X4)
theorem ZrO {s:Season} {to:Int} {a:List Nat} {k n:Int} (ha:a.length<=1000) (hn:0<=n/\n<=30) (hk:0<=k/\k<=12):SmB (Xy s to a k n):=⟨ha,hn,hk⟩
theorem u25 {args:List SV} {res:SV} (ka:KFL args) (kr:KF res) (h:sx Tryz.prog Y0 0 c25 (st0 args 97) (ZlQ r25 res)) (hA:Nat.ble args.length 97=true:=by rfl):Ct Tryz.prog 25 args res:=Wq Tryz.func25 rfl b25 Zwz Zx2 n25 (Nat.le_of_ble_eq_true hA) ka kr h
theorem Ztt (s:Season) (hs:SmallS s):Ct Tryz.prog 25 [.agg (Zp s)] (Zu9 (ZfY s)):=by
 refine u25 (by simp [Zp,Zj,Zf,Zm,Zg,Zd,Zo,Za,KFL,KF]) (by simp [Zu9,Zz,Zo,Za,KFL,KF]) ?_
 dsimp only [c25,r25,Zp,go_sem,rA,rM,rS]
 refine call (ZaP s hs) ?_
 dsimp only [go_sem,rA,rM,rS]
 by_cases ho:Zw s=true
 case neg =>
  refine Zu (by simp [ho]) ?_
  dsimp only [go_sem,rA,rM,rS]
  refine ⟨_,rfl,?_⟩
  rw [show ZfY s=(⟨[],0,0⟩,0,90) from by unfold ZfY;exact if_pos (by simpa using ho),if_neg ho]
  exact X3 (ZY (Vo (ZY YH X4)) X4)
 refine Zv (by simp [ho]) ?_
 dsimp only [go_sem,rA,rM,rS]
 have h:OkS s:=⟨hs,ho⟩
 have hn:=h.num
 have hw0:0<=s.herd * s.sale/\s.herd * s.sale<=30 * 1000000:=⟨Int.mul_nonneg (by omega) (by omega),Int.mul_le_mul (by omega) (by omega) (by omega) (by decide)⟩
 rw [Zi (n:=s.herd * s.sale) (by omega) (by omega)]
 refine call (Zvq (s.herd * s.sale)) ?_
 dsimp only [go_sem,rA,rM,rS]
 simp only [List.length_map]
 have hR:ZfY s=match Zug s with | none=>(⟨[],0,0⟩,0,9) | some b=>(b.plan,b.w,0):=by unfold ZfY;exact if_neg (by simp [ho])
 have hwl:=h.land
 simp only [ZR,inR,Bool.and_eq_true,decide_eq_true_eq] at hwl
 refine Zdv (Yw (V3 [1,2,3,6,34,35] rfl) (ZhG 1 (l':=Zz ⟨[],0,0⟩) rfl (ZY YH X4)))
  (fun q:Nat × Bst=>[(35,I q.1),(3,I q.2.w)]) (fun q=>[(1,.cells (Zz q.2.plan) 37),(2,.cells (Vf q.2) 142)])
  (fun q=>q.1<=s.land.wells.length/\Zdt s ((List.range s.land.wells.length).drop q.1) q.2=Zug s/\SmB q.2) (fun q=>s.land.wells.length - q.1) (0,⟨[],0,0,s.herd * s.sale⟩)
  ⟨Nat.zero_le _,rfl,⟨by simp,by simp,by simp⟩⟩ ?_ ?_
 . (refine Zl ?_ ?_ ?_ rfl rfl<;>dsimp only [Zz,Vf,Bst.plan,Y3,Zf,Zm,Zg,Zj,Zd,Zo,id,go_sem,rA,rM,rS]<;>simp [Zz,Vf,Bst.plan,Y3,Zf,Zm,Zg,Zj,Zd,Zo,Za,Ze,KFR,KFL,KF,Zc,mtO,nbr])
 rintro ⟨g,b⟩ ⟨hg,hi,hb⟩
 simp only at hg hi hb
 dsimp only [Zz,Vf,go_sem,rA,rM,rS]
 by_cases hlt:g < s.land.wells.length
 case neg =>
  refine Zv (by simp;omega) ?_
  dsimp only [go_sem,rA,rM,rS]
  rw [List.drop_eq_nil_of_le (by simp;omega),Zdt] at hi
  rw [hR,<- hi]
  exact ⟨_,rfl,fun _ _ _ _ _ h=>h⟩
 refine Zu (by simpa using hlt) ?_
 dsimp only [go_sem,rA,rM,rS]
 have hwy:=Zl0 s.land hs.land s.start g s.day s.till s.pace
 rw [List.drop_eq_getElem_cons (by simpa using hlt),List.getElem_range,Zdt] at hi
 by_cases hE:ZcT s.land s.pace s.start g s.day s.till=0
 case neg =>
  simp only [ZcS,XB,if_neg hE] at hwy
  refine call hwy ?_
  dsimp only [go_sem,rA,rM,rS]
  refine Zu (by simpa using hE) ?_
  dsimp only [go_sem,rA,rM,rS]
  rw [if_pos hE] at hi
  rw [hR,<- hi]
  refine ⟨_,rfl,?_⟩
  exact X3 (ZY (Vo (ZY YH X4)) X4)
 simp only [ZcS,XB,if_pos hE] at hwy
 refine call hwy ?_
 dsimp only [go_sem,rA,rM,rS]
 refine Zv (by simpa using hE) ?_
 dsimp only [go_sem,rA,rM,rS]
 rw [if_neg (by simpa using hE)] at hi
 simp only [List.length_map]
 have hmem:∀ a ∈ Us s.land s.pace s.start g s.day s.till,Yp s.land s.start [s.start] (Y3 a)=some (g:Int)/\a.length<=24:=fun a ha=>by
  have h1:=((ZlS h).1 ha).1
  exact ⟨h1,by simpa [Y3] using (lenS h h1).2⟩
 have hwlen:(Us s.land s.pace s.start g s.day s.till).length<=1000:=by
  unfold ZcT at hE
  split at hE
  . rename_i q;exact absurd hE q
  split at hE
  . simp at hE
  split at hE
  . simp at hE
  . rename_i q;unfold Us;omega
 generalize Us s.land s.pace s.start g s.day s.till=W at hi hmem hwlen ⊢
 refine WZ [1,2,3,6,7,34,35,56,57,58] rfl (fun q:Nat × Bst=>[(58,I q.1),(3,I q.2.w)]) (fun q=>[(1,.cells (Zz q.2.plan) 37),(2,.cells (Vf q.2) 142)])
  (fun q=>q.1<=W.length/\(W.drop q.1).foldl (Zyf s g) q.2=W.foldl (Zyf s g) b/\SmB q.2) (fun q=>W.length - q.1) (0,b) ⟨Nat.zero_le _,rfl,hb⟩ ?_ ?_
 . (refine Zl ?_ ?_ ?_ rfl rfl<;>dsimp only [Zz,Bst.plan,Vf,Xy,Yo,ZV,Ye,Y3,Zf,Zm,Zg,Zj,Zd,Zo,id,go_sem,rA,rM,rS]<;>simp [Zz,Bst.plan,Vf,Xy,Yo,ZV,Ye,Y3,Zf,Zm,Zg,Zj,Zd,Zo,Za,Ze,KFR,KFL,KF,Zc,mtO,nbr])
 rintro ⟨i,b1⟩ ⟨hi1,hf1,hb1⟩
 simp only at hi1 hf1 hb1
 dsimp only [Zz,Bst.plan,Vf,go_sem,rA,rM,rS]
 by_cases hilt:i < W.length
 case neg =>
  refine Zv (by simp;omega) ?_
  dsimp only [go_sem,rA,rM,rS]
  rw [List.drop_eq_nil_of_le (by omega),List.foldl_nil] at hf1
  rw [Zi (n:=(g:Int)+1) (by omega) (by omega)]
  refine ⟨(g+1,b1),⟨hlt,by simp only;rw [hf1];exact hi,hb1⟩,by simp only;omega,?_⟩
  (refine Zl ?_ ?_ ?_ rfl rfl<;>dsimp only [Zz,Bst.plan,Vf,Xy,Yo,ZV,Ye,Y3,Zf,Zm,Zg,Zj,Zd,Zo,id,go_sem,rA,rM,rS]<;>simp [Zz,Bst.plan,Vf,Xy,Yo,ZV,Ye,Y3,Zf,Zm,Zg,Zj,Zd,Zo,Za,Ze,KFR,KFL,KF,Zc,mtO,nbr])
 refine Zu (by simpa using hilt) ?_
 dsimp only [go_sem,rA,rM,rS]
 refine Zr i hilt rfl ?_
 rw [List.drop_eq_getElem_cons hilt,List.foldl_cons] at hf1
 obtain ⟨hto,hal⟩:=hmem _ (List.getElem_mem hilt)
 generalize W[i]=a at hf1 hto hal ⊢
 simp only [Yo,ZV,<- mapW]
 dsimp only [go_sem,rA,rM,rS]
 refine WZ [1,2,3,6,7,11,34,35,56,57,58,62] rfl (fun q:Nat × Bst=>[(62,I q.1),(3,I q.2.w)]) (fun q=>[(1,.cells (Zz q.2.plan) 37),(2,.cells (Vf q.2) 142)])
  (fun q=>q.1<=13/\((List.range 13).drop q.1).foldl (ZoV s g a) q.2=Zyf s g b1 a/\SmB q.2) (fun q=>13 - q.1) (0,b1) ⟨Nat.zero_le _,rfl,hb1⟩ ?_ ?_
 . (refine Zl ?_ ?_ ?_ rfl rfl<;>dsimp only [Zz,Bst.plan,Vf,Xy,Yo,ZV,Ye,Y3,Zf,Zm,Zg,Zj,Zd,Zo,id,go_sem,rA,rM,rS]<;>simp [Zz,Bst.plan,Vf,Xy,Yo,ZV,Ye,Y3,Zf,Zm,Zg,Zj,Zd,Zo,Za,Ze,KFR,KFL,KF,Zc,mtO,nbr])
 rintro ⟨k,b2⟩ ⟨hk1,hf2,hb2⟩
 simp only at hk1 hf2 hb2
 dsimp only [Zz,Bst.plan,Vf,go_sem,rA,rM,rS]
 by_cases hk:k < 13
 case neg =>
  refine Zv (by simp;omega) ?_
  dsimp only [go_sem,rA,rM,rS]
  rw [List.drop_eq_nil_of_le (by simp;omega),List.foldl_nil] at hf2
  rw [Zi (n:=(i:Int)+1) (by omega) (by omega)]
  refine ⟨(i+1,b2),⟨hilt,by simp only;rw [hf2];exact hf1,hb2⟩,by simp only;omega,?_⟩
  (refine Zl ?_ ?_ ?_ rfl rfl<;>dsimp only [Zz,Bst.plan,Vf,Xy,Yo,ZV,Ye,Y3,Zf,Zm,Zg,Zj,Zd,Zo,id,go_sem,rA,rM,rS]<;>simp [Zz,Bst.plan,Vf,Xy,Yo,ZV,Ye,Y3,Zf,Zm,Zg,Zj,Zd,Zo,Za,Ze,KFR,KFL,KF,Zc,mtO,nbr])
 refine Zu (by simp;omega) ?_
 dsimp only [go_sem,rA,rM,rS]
 refine call (ZtZ s h (Y3 a) (by rw [hto];rfl) (by rw [Ze5];omega) k ⟨by omega,by omega⟩) ?_
 have hfb:=ZsG h (a:=Y3 a) (k:=(k:Int))
 rw [List.drop_eq_getElem_cons (by simpa using hk),List.getElem_range,List.foldl_cons] at hf2
 obtain ⟨F,hF⟩:∃ F:Nat,Zef s (Y3 a) k=F:=⟨(Zef s (Y3 a) k).toNat,by omega⟩
 have hsl:ZoV s g a b2 k=ZeR s g a k F b2:=by simp only [ZoV,hF,Int.toNat_natCast]
 rw [hsl] at hf2
 rw [hF] at hfb ⊢
 dsimp only [go_sem,rA,rM,rS]
 refine WZ [1,2,3,6,7,11,12,13,34,35,56,57,58,62] rfl (fun q:Nat × Bst=>[(13,I q.1),(3,I q.2.w)]) (fun q=>[(1,.cells (Zz q.2.plan) 37),(2,.cells (Vf q.2) 142)])
  (fun q=>q.1<=F/\ZeR s g a k q.1 q.2=ZeR s g a k F b2/\SmB q.2) (fun q=>q.1) (F,b2) ⟨Nat.le_refl _,rfl,hb2⟩ ?_ ?_
 . (refine Zl ?_ ?_ ?_ rfl rfl<;>dsimp only [Zz,Bst.plan,Vf,Xy,Yo,ZV,Ye,Y3,Zf,Zm,Zg,Zj,Zd,Zo,id,go_sem,rA,rM,rS]<;>simp [Zz,Bst.plan,Vf,Xy,Yo,ZV,Ye,Y3,Zf,Zm,Zg,Zj,Zd,Zo,Za,Ze,KFR,KFL,KF,Zc,mtO,nbr])
 rintro ⟨n,b3⟩ ⟨hn1,hf3,hb3⟩
 simp only at hn1 hf3 hb3
 dsimp only [Zz,Bst.plan,Vf,go_sem,rA,rM,rS]
 by_cases h0:n=0
 . subst h0
   refine Zu (by simp) ?_
   dsimp only [go_sem,rA,rM,rS]
   rw [ZeR] at hf3
   rw [Zi (n:=(k:Int)+1) (by omega) (by omega)]
   refine ⟨(k+1,b3),⟨by simp only;omega,by simp only;rw [hf3];exact hf2,hb3⟩,by simp only;omega,?_⟩
   (refine Zl ?_ ?_ ?_ rfl rfl<;>dsimp only [Zz,Bst.plan,Vf,Xy,Yo,ZV,Ye,Y3,Zf,Zm,Zg,Zj,Zd,Zo,id,go_sem,rA,rM,rS]<;>simp [Zz,Bst.plan,Vf,Xy,Yo,ZV,Ye,Y3,Zf,Zm,Zg,Zj,Zd,Zo,Za,Ze,KFR,KFL,KF,Zc,mtO,nbr])
 obtain ⟨m,rfl⟩:∃ m,n=m+1:=⟨n - 1,by omega⟩
 refine Zv (by simp;omega) ?_
 dsimp only [go_sem,rA,rM,rS]
 have hp:YS s ⟨Y3 a,((m+1:Nat):Int),k⟩=true:=Zm9 hto ⟨by simp only;omega,by simp only;omega⟩ ⟨by simp only;omega,by simp only;omega⟩
 have hcs:SmB (Xy s g a k ((m+1:Nat):Int)):=ZrO (by omega) ⟨by omega,by omega⟩ ⟨by omega,by omega⟩
 have hwo:=Ze2 s h ⟨Y3 a,((m+1:Nat):Int),k⟩ hp g hlt
 simp only [Zz] at hwo
 refine call hwo ?_
 dsimp only [go_sem,rA,rM,rS]
 have hso:=Zdr (Xy s g a k ((m+1:Nat):Int)) hcs
 simp only [Zz,Bst.plan,Xy,Vf] at hso
 refine call hso ?_
 dsimp only [go_sem,rA,rM,rS]
 have hbo:=Zjs (Xy s g a k ((m+1:Nat):Int)) b3 hcs hb3
 simp only [Zz,Bst.plan,Vf] at hbo
 refine call hbo ?_
 dsimp only [go_sem,rA,rM,rS]
 rw [ZeR] at hf3
 by_cases hbb:Yj (Xy s g a k ((m+1:Nat):Int)) b3=true
 . refine Zu (by simpa using hbb) ?_
   dsimp only [go_sem,rA,rM,rS]
   rw [ZkI,if_pos hbb] at hf3
   rw [Zi (n:=(((m+1:Nat):Int)) - 1) (by omega) (by omega),show (((m+1:Nat):Int)) - 1=(m:Int) from by omega]
   refine ⟨(m,Xy s g a k ((m+1:Nat):Int)),⟨by simp only;omega,hf3,hcs⟩,by simp only;omega,?_⟩
   (refine Zl ?_ ?_ ?_ rfl rfl<;>dsimp only [Zz,Bst.plan,Vf,Xy,Yo,ZV,Ye,Y3,Zf,Zm,Zg,Zj,Zd,Zo,id,go_sem,rA,rM,rS]<;>simp [Zz,Bst.plan,Vf,Xy,Yo,ZV,Ye,Y3,Zf,Zm,Zg,Zj,Zd,Zo,Za,Ze,KFR,KFL,KF,Zc,mtO,nbr])
 . refine Zv (by simpa using hbb) ?_
   dsimp only [go_sem,rA,rM,rS]
   rw [ZkI,if_neg hbb] at hf3
   rw [Zi (n:=(((m+1:Nat):Int)) - 1) (by omega) (by omega),show (((m+1:Nat):Int)) - 1=(m:Int) from by omega]
   refine ⟨(m,b3),⟨by simp only;omega,hf3,hb3⟩,by simp only;omega,?_⟩
   (refine Zl ?_ ?_ ?_ rfl rfl<;>dsimp only [Zz,Bst.plan,Vf,Xy,Yo,ZV,Ye,Y3,Zf,Zm,Zg,Zj,Zd,Zo,id,go_sem,rA,rM,rS]<;>simp [Zz,Bst.plan,Vf,Xy,Yo,ZV,Ye,Y3,Zf,Zm,Zg,Zj,Zd,Zo,Za,Ze,KFR,KFL,KF,Zc,mtO,nbr])
theorem Zo9 (s:Season) (hs:SmallS s):Ct Tryz.prog 27 [.agg (Zp s)] (.tup [I (Za2 s).1,I (Za2 s).2]):=by
 refine t27.1 (by simp [Zp,Zj,Zf,Zm,Zg,Zd,Zo,Za,KFL,KF]) (by simp [KFL,KF]) ?_
 dsimp only [c27,r27,Zp,go_sem,rA,rM,rS]
 refine call (ZaP s hs) ?_
 dsimp only [go_sem,rA,rM,rS]
 by_cases ho:Zw s=true
 case neg =>
  refine Zu (by simp [ho]) ?_
  dsimp only [go_sem,rA,rM,rS]
  simp [Za2,ho]
 refine Zv (by simp [ho]) ?_
 dsimp only [go_sem,rA,rM,rS]
 have h:OkS s:=⟨hs,ho⟩
 have hn:=h.num
 have hst:=h.start
 have hs4:=h.scs
 have hbr:=Cm.breed_bd h.beast.1
 have hE:XZ s.land s.pace s.start s.day=0:=Zhn.2 ⟨h.land,h.pace,by simp only [inR,decide_eq_true_eq];omega,by simp only [inR,decide_eq_true_eq];omega⟩
 have hre:=Zd1 s.land hs.land s.start s.day s.pace
 rw [hE] at hre
 simp only [XB,if_true] at hre
 refine call hre ?_
 dsimp only [go_sem,rA,rM,rS]
 refine Zrg (by omega) ?_
 dsimp only [go_sem,rA,rM,rS]
 have hk0:=X6 (a:=s.breed.strong.lo) (A:=1000000) (d:=s.slab) (by omega) (by omega) (by omega)
 rw [Zi (n:=s.breed.strong.lo.tdiv s.slab) (by omega) (by omega)]
 have hB:Za2 s=(ZfC s,0):=by rw [Za2,if_neg (by simp [ho])]
 rw [hB]
 unfold ZfC
 obtain ⟨k,hk⟩:∃ k,k=min 12 (s.breed.strong.lo.tdiv s.slab):=⟨_,rfl⟩
 rw [<- hk]
 have hk1:0<=k/\k<=12:=by omega
 simp only [List.length_map]
 have hRl:(Y6 s.land s.pace s.start s.day).length=s.land.wells.length:=Wg
 generalize Y6 s.land s.pace s.start s.day=Rr at hRl ⊢
 obtain ⟨W,hW⟩:∃ W,W=s.scenes.map (fun x=>s.herd * Zem s x k Rr 0 s.sale):=⟨_,rfl⟩
 have hWl:W.length=s.scenes.length:=by rw [hW];simp
 rw [<- hW]
 have hwl:=h.land
 simp only [ZR,inR,Bool.and_eq_true,decide_eq_true_eq] at hwl
 refine Zdv (Yw (V3 [1,5,7,8,40,41,42] rfl) (YQ 8 1 3 rfl rfl)) (fun q:Nat × Nat=>[(42,I q.1),(8,.mr 1 q.2)])
  (fun q=>[(1,.row q.2 1 ((W.take q.1).map Zo) 3)]) (fun q=>q.1<=s.scenes.length) (fun q=>s.scenes.length - q.1) (0,0) (Nat.zero_le _) ?_ ?_
 . (refine Zl ?_ ?_ ?_ rfl rfl<;>dsimp only [Zf,Zm,Zg,Zj,Zd,Zo,Yd,id,go_sem,rA,rM,rS]<;>simp [Zf,Zm,Zg,Zj,Zd,Zo,Yd,Za,Ze,KFR,KFL,KF,Zc,mtO,nbr])
 rintro ⟨j,v⟩ hj
 simp only at hj
 dsimp only [go_sem,rA,rM,rS]
 by_cases hlt:j < s.scenes.length
 case neg =>
  refine Zv (by simp;omega) ?_
  dsimp only [go_sem,rA,rM,rS]
  rw [List.take_of_length_le (by omega)]
  refine gh (Zbs 8 1 v rfl rfl rfl rfl) ?_
  dsimp only [go_sem,rA,rM,rS]
  refine call (Zhr W (by omega) (by omega) _) ?_
  dsimp only [go_sem,rA,rM,rS]
 refine Zu (by simpa using hlt) ?_
 dsimp only [go_sem,rA,rM,rS]
 refine Zr j hlt rfl ?_
 dsimp only [Zj,go_sem,rA,rM,rS]
 simp only [List.length_map]
 refine WZ [1,5,7,8,10,11,40,41,42,48,49,50] rfl (fun q:Nat × Int=>[(50,I q.1),(11,I q.2)]) (fun _=>[])
  (fun q=>q.1<=Rr.length/\Zem s s.scenes[j] k (Rr.drop q.1) q.1 q.2=Zem s s.scenes[j] k Rr 0 s.sale/\0<=q.2/\q.2<=12000000) (fun q=>Rr.length - q.1) (0,s.sale) ⟨Nat.zero_le _,rfl,by simp only;omega,by simp only;omega⟩ ?_ ?_
 . (refine Zl ?_ ?_ ?_ rfl rfl<;>dsimp only [Zf,Zm,Zg,Zj,Zd,Zo,Yd,id,go_sem,rA,rM,rS]<;>simp [Zf,Zm,Zg,Zj,Zd,Zo,Yd,Za,Ze,KFR,KFL,KF,Zc,mtO,nbr])
 rintro ⟨i,e⟩ ⟨hi0,hi1,he0,he1⟩
 simp only at hi0 hi1 he0 he1
 dsimp only [go_sem,rA,rM,rS]
 by_cases hilt:i < Rr.length
 case neg =>
  refine Zv (by simp;omega) ?_
  dsimp only [go_sem,rA,rM,rS]
  rw [List.drop_eq_nil_of_le (by omega),Zem] at hi1
  refine gh WU ?_
  dsimp only [go_sem,rA,rM,rS]
  have hm:0<=s.herd * e/\s.herd * e<=30 * 12000000:=⟨Int.mul_nonneg (by omega) he0,Int.mul_le_mul (by omega) he1 he0 (by decide)⟩
  rw [Zi (n:=s.herd * e) (by omega) (by omega)]
  simp only [nbr]
  dsimp only [go_sem,rA,rM,rS]
  refine ⟨(by intro c hc;simp only [List.mem_singleton] at hc;subst hc;rfl),by simp;omega,?_⟩
  dsimp only [go_sem,rA,rM,rS]
  refine gh WU ?_
  dsimp only [go_sem,rA,rM,rS]
  rw [Zi (n:=(j:Int)+1) (by omega) (by omega)]
  refine ⟨(j+1,v+1),hlt,by simp only;omega,?_⟩
  simp only
  have hWj:s.herd * e=W[j]'(by omega):=by simp [hW,hi1]
  rw [hWj,List.take_succ_eq_append_getElem (by omega)]
  simp only [List.map_append,List.map_cons,List.map_nil]
  (refine Zl ?_ ?_ ?_ rfl rfl<;>dsimp only [Zf,Zm,Zg,Zj,Zd,Zo,Yd,id,go_sem,rA,rM,rS]<;>simp [Zf,Zm,Zg,Zj,Zd,Zo,Yd,Za,Ze,KFR,KFL,KF,Zc,mtO,nbr])
 refine Zu (by simpa using hilt) ?_
 dsimp only [go_sem,rA,rM,rS]
 refine Zr i hilt rfl ?_
 dsimp only [Zd,go_sem,rA,rM,rS]
 rw [List.drop_eq_getElem_cons hilt,Zem] at hi1
 have hnext:IntKind.i64.wrap ((i:Int)+1)=((i+1:Nat):Int):=by rw [Zi (by omega) (by omega)];omega
 by_cases hr:Rr[i].hi<=s.till
 . refine Zu (by simpa using hr) ?_
   dsimp only [go_sem,rA,rM,rS]
   obtain ⟨hq,hpr⟩:=Zcw h hlt (m:=i) (by omega)
   refine Zr i hq rfl ?_
   dsimp only [Zo,go_sem,rA,rM,rS]
   have hpp:=Zk2 (A:=k) (B:=12) (d:=s.scenes[j].prices[i] - s.cost) (M:=1000000) hk1.1 hk1.2 (by decide) (by omega)
   rw [Zi (n:=s.scenes[j].prices[i] - s.cost) (by omega) (by omega),Zi (n:=k * (s.scenes[j].prices[i] - s.cost)) (by omega) (by omega),hnext]
   rw [if_pos hr,List.getElem?_eq_getElem hq,Option.getD_some] at hi1
   refine ⟨(i+1,max e (k * (s.scenes[j].prices[i] - s.cost))),⟨hilt,hi1,by simp only;omega,by simp only;omega⟩,by simp only;omega,?_⟩
   (refine Zl ?_ ?_ ?_ rfl rfl<;>dsimp only [Zf,Zm,Zg,Zj,Zd,Zo,Yd,id,go_sem,rA,rM,rS]<;>simp [Zf,Zm,Zg,Zj,Zd,Zo,Yd,Za,Ze,KFR,KFL,KF,Zc,mtO,nbr])
 . refine Zv (by simpa using hr) ?_
   dsimp only [go_sem,rA,rM,rS]
   rw [hnext]
   rw [if_neg hr] at hi1
   refine ⟨(i+1,e),⟨hilt,hi1,he0,he1⟩,by simp only;omega,?_⟩
   (refine Zl ?_ ?_ ?_ rfl rfl<;>dsimp only [Zf,Zm,Zg,Zj,Zd,Zo,Yd,id,go_sem,rA,rM,rS]<;>simp [Zf,Zm,Zg,Zj,Zd,Zo,Yd,Za,Ze,KFR,KFL,KF,Zc,mtO,nbr])
end Go.Proofs.YtiigiflofnjilaaGreat
namespace Go.Sx
open Go Go.RowKit
def RLW (l l':List SV):Prop:=∀ (w:World) (E:Env) (n ok:Nat->Prop) (ys:List Value),RL w E n ok l ys->RL w E n ok l' ys
theorem Zct {l:List SV}:RLW l l:=fun _ _ _ _ _ h=>h
theorem Zq {s s':SV} {l l':List SV} (h1:Y2 s s') (h2:RLW l l'):RLW (s :: l) (s' :: l'):=ZY h1 h2
def RRW:List (List SV)->List (List SV)->Prop
 | [],[]=>True
 | r :: xs,r' :: xs'=>RLW r r'/\r'.length=r.length/\RRW xs xs'
 | _,_=>False
theorem ZcG:∀ {xs xs':List (List SV)},RRW xs xs'->xs'.length=xs.length
 | [],[],_=>rfl
 | _ :: xs,_ :: xs',h=>by simp [ZcG h.2.2]
 | [],_ :: _,h=>h.elim
 | _ :: _,[],h=>h.elim
theorem Zq8 {w:World} {E:Env} {n ok:Nat->Prop} {b m:Nat}:∀ {xs xs':List (List SV)} {off:Nat},RRW xs xs'->RR w E n ok b m xs off->RR w E n ok b m xs' off
 | [],[],_,_,h=>h
 | r :: xs,r' :: xs',off,hw,h=>by
  simp only [RR] at h ⊢
  obtain ⟨h0,⟨cs,h1,h2⟩,h3⟩:=h
  exact ⟨by rw [hw.2.1];exact h0,⟨cs,hw.1 _ _ _ _ _ h1,h2⟩,Zq8 hw.2.2 h3⟩
 | [],_ :: _,_,h,_=>h.elim
 | _ :: _,[],_,h,_=>h.elim
theorem Zsd {c:Bool} {m:Nat} {xs xs':List (List SV)} (h:RRW xs xs'):Y2 (.sl c m xs) (.sl false m xs'):=fun w E n ok y hy=>by
 simp only [R] at hy ⊢
 obtain ⟨a,len,cap,h1,h2,h3,h4,h5⟩:=hy
 refine ⟨a,len,cap,h1,by rw [ZcG h];exact h2,⟨h3.1,fun h=>by cases h⟩,by rw [ZcG h];exact h4,?_⟩
 rcases h5 with h5 | ⟨b,off,h5,h6⟩
 . left
   have:=ZcG h
   rw [h5] at this
   exact List.eq_nil_of_length_eq_zero this
 . exact .inr ⟨b,off,h5,Zq8 h h6⟩
end Go.Sx
namespace Go.Azalai
open Go.Sx Go.Proofs.YtiigiflofnjilaaGreat
def Y7:Season :=
 ⟨⟨[⟨0,0,0,⟨0,0⟩,0,⟨0,0⟩,0⟩,⟨0,0,0,⟨0,0⟩,1000000,⟨0,0⟩,0⟩,⟨0,0,0,⟨0,0⟩,0,⟨0,0⟩,0⟩],
  [⟨0,1,⟨40000,40000⟩,[⟨⟨0,0⟩,⟨99,99⟩⟩]⟩,⟨1,2,⟨40000,40000⟩,[⟨⟨0,0⟩,⟨99,99⟩⟩]⟩,⟨0,2,⟨100000,100000⟩,[⟨⟨0,0⟩,⟨99,99⟩⟩]⟩]⟩,
  ⟨20000,20000⟩,⟨100000,50000,⟨5000,5000⟩,⟨0,0⟩,⟨1000,1000⟩,⟨100,100⟩,⟨0,0⟩,⟨0,0⟩,0,⟨200000,200000⟩⟩,⟨⟨100000,100000⟩,⟨50000,50000⟩,⟨0,0⟩,false⟩,
  10,10,50000,10,60,0,0,20,[⟨⟨0,0⟩,⟨0,0⟩,[⟨0,0⟩,⟨50000,50000⟩,⟨0,0⟩],[10,12,40]⟩]⟩
theorem YZ:SmallS Y7:=Zbi (by decide +kernel)
theorem ZiG:Zw Y7=true:=by decide +kernel
theorem ZoF:OkS Y7:=⟨YZ,ZiG⟩
theorem Zvh:Yb Y7 ⟨[0,1],2,2⟩=(0,0,0,0):=by decide +kernel
theorem ZrU:Yb Y7 ⟨[0,1],3,2⟩=(4,0,0,0):=by decide +kernel
theorem Ztg:Yb Y7 ⟨[2],10,1⟩=(0,0,0,0):=by decide +kernel
theorem ZgG:YO Y7 ⟨[0,1],2,2⟩=(600,0):=by decide +kernel
theorem Zgf:Zb4 Y7 ⟨[0,1],2,2⟩ 0=([⟨1,2,100000⟩],0):=by decide +kernel
theorem Zjk:ZfY Y7=(⟨[0,1],1,4⟩,660,0):=by decide +kernel
def ZqD (v:Int):Int:=if v=0 then 0 else if v=1 then 2 else if v=2 then 4 else 100001
theorem ZeS (k:Bool) (v:Int):YM k Y7.land Y7.pace 0 0 v=ZqD v:=by
 refine (Zak (k:=k) (s:=0) (day:=0) ZoF.lp (by decide) (by decide) (by decide) (by decide) (d:=ZqD) (by decide) ?_ ?_ ?_ v).symm
 . cases k<;>(intro x hx;simp only [Y7,List.mem_cons,List.not_mem_nil,or_false] at hx;rcases hx with rfl | rfl | rfl<;>decide)
 . intro v;unfold ZqD;repeat' split
   all_goals decide
 . intro v
   unfold ZqD
   split
   . rename_i h;subst h;exact .inr ⟨[],by cases k<;>decide⟩
   . split
     . rename_i h;subst h;exact .inr ⟨[0],by cases k<;>decide⟩
     . split
       . rename_i h;subst h
         exact .inr ⟨[0,1],by cases k<;>decide⟩
       . exact .inl rfl
theorem Zgh:Y6 Y7.land Y7.pace Y7.start Y7.day=[⟨0,0⟩,⟨2,2⟩,⟨4,4⟩]:=by
 have h:Y7.land.wells.length=3:=rfl
 show Y6 Y7.land Y7.pace 0 0=_
 simp only [Y6,XV,h,ZeS]
 decide
theorem Zgw:Za2 Y7=(1200,0):=by
 rw [Za2,if_neg (by simp [ZiG]),ZfC,Zgh]
 decide +kernel
end Go.Azalai
namespace Go.Proofs.YtiigiflofnjilaaGreat
open Go Go.Sx Go.Azalai
theorem Zd2 (a b:Int):Ct Tryz.prog 43 [I a,I b] (.agg (Zd ⟨a,b⟩)):=by
 refine t43.1 (by simp [KFR,KFL,KF]) (by simp [Zd,KFL,KF]) ?_
 dsimp only [c43,r43,go_sem,rA,rM,rS]
 rfl
theorem u119 {args:List SV} {res:SV} (ka:KFL args) (kr:KF res) (h:sx Tryz.prog Y0 0 c119 (st0 args 16) (ZlQ r119 res)) (hA:Nat.ble args.length 16=true:=by rfl):Ct Tryz.prog 119 args res:=Wq Tryz.func119 rfl b119 Zus Ztb n119 (Nat.le_of_ble_eq_true hA) ka kr h
theorem u73 {args:List SV} {res:SV} (ka:KFL args) (kr:KF res) (h:sx Tryz.prog Y0 0 c73 (st0 args 31) (ZlQ r73 res)) (hA:Nat.ble args.length 31=true:=by rfl):Ct Tryz.prog 73 args res:=Wq Tryz.func73 rfl b73 Zxm ZxC n73 (Nat.le_of_ble_eq_true hA) ka kr h
theorem u74 {args:List SV} {res:SV} (ka:KFL args) (kr:KF res) (h:sx Tryz.prog Y0 0 c74 (st0 args 11) (ZlQ r74 res)) (hA:Nat.ble args.length 11=true:=by rfl):Ct Tryz.prog 74 args res:=Wq Tryz.func74 rfl b74 Zx0 ZxZ n74 (Nat.le_of_ble_eq_true hA) ka kr h
theorem Zk9 (a b c:Int):Ct Tryz.prog 119 [I a,I b,I c] (.agg (Zm ⟨a,b,⟨c,c⟩,[⟨⟨0,0⟩,⟨99,99⟩⟩]⟩)):=by
 refine u119 (by simp [KFR,KFL,KF]) (by simp [Zm,Zg,Zd,KFR,KFL,KF]) ?_
 dsimp only [c119,r119,go_sem,rA,rM,rS]
 repeat (refine call (Zd2 _ _) ?_;dsimp only [Zd,go_sem,rA,rM,rS])
 exact ⟨_,rfl,Vo (Zq Y2.rfl (Zq Y2.rfl (Zq Y2.rfl (Zq Y2.rfl (Zq ZbZ Zct)))))⟩
theorem Zg6 (an sl:Int) (legs:List Int) (c:Bool):Ct Tryz.prog 74 [I an,I sl,.sl c 1 (legs.map Zo)] (.agg (Zz ⟨legs,an,sl⟩)):=by
 refine u74 (by simp [Zo,Za,KFL,KF]) (by simp [Zz,Zo,Za,KFL,KF]) ?_
 dsimp only [c74,r74,go_sem,rA,rM,rS]
 exact ⟨_,rfl,Vo (Zq ZbZ Zct)⟩
theorem WV:Ct Tryz.prog 73 [] (.agg (Zp Y7)):=by
 refine u73 (by simp [KFR,KFL,KF]) (by simp [Zp,Zj,Zf,Zm,Zg,Zd,Zo,Y7,KFR,KFL,KF]) ?_
 dsimp only [c73,r73,go_sem,rA,rM,rS]
 repeat (first | (refine call (Zd2 _ _) ?_;dsimp only [Zd,go_sem,rA,rM,rS]) | (refine call (Zk9 _ _ _) ?_;dsimp only [Zm,go_sem,rA,rM,rS]))
 exact ⟨_,rfl,Vo (Zq ZbZ (Zq ZbZ (Zq Y2.rfl (Zq Y2.rfl (Zq Y2.rfl (Zq Y2.rfl (Zq Y2.rfl (Zq Y2.rfl (Zq Y2.rfl (Zq Y2.rfl (Zq Y2.rfl (Zq Y2.rfl (Zq Y2.rfl (Zq Y2.rfl (Zq Y2.rfl (Zq Y2.rfl (Zq Y2.rfl (Zq Y2.rfl (Zq Y2.rfl (Zq Y2.rfl (Zq Y2.rfl (Zq Y2.rfl (Zq Y2.rfl (Zq Y2.rfl (Zq Y2.rfl (Zq Y2.rfl (Zq Y2.rfl (Zq Y2.rfl (Zq Y2.rfl (Zq Y2.rfl (Zq Y2.rfl (Zq Y2.rfl (Zq Y2.rfl (Zq Y2.rfl (Zq Y2.rfl (Zq Y2.rfl (Zq (Zsd ⟨Zq Y2.rfl (Zq Y2.rfl (Zq Y2.rfl (Zq Y2.rfl (Zq ZbZ (Zq ZbZ Zct))))),rfl,trivial⟩) Zct)))))))))))))))))))))))))))))))))))))⟩
def c3:SC:=(.seq (.reg [
 o1 2 (.box (.t 0) 0 34),
 o1 3 (.box (.t 1) 0 37),
 o1 4 (.mv (.c (.bool false)))])
 (.seq (.seq (.reg [
 o1 15 (.ld (.t 2) 37 true),
 o1 16 (.call 12 [.t 15]),
 m1 17 16,
 ⟨some 18,.addo (.t 3) 0,some (17,false),[]⟩,
 ⟨some 19,.ld (.t 18) 1 false,some (17,false),[]⟩,
 ⟨some 20,.len (.t 19),some (17,false),[]⟩,
 ⟨some 21,.bin .gtr (.t 20) (.c (.int .i64 40)),some (17,false),[]⟩,
 o1 22 (.pick (.t 17) (.c (.bool true)) (.t 21))])
 (.cond (.t 22)
 (.seq (.reg [
  o1 4 (.mv (.c (.bool true)))])
  .ret)
 .skip))
 (.seq (.regd [0,1,2,3,4,5,6] [
 .op (o1 23 (.ld (.t 2) 37 true)),
 .op ⟨some 24,.call 13 [.t 23],none,[0]⟩,
 .op (o1 25 (.ld (.t 3) 3 true))] 2 2 [
 o1 5 (.alloc zv0 34),
 o1 6 (.alloc [.slice none 0 0,.int .i64 0,.int .i64 0] 37),
 ⟨none,.st (.t 5) (.t 24) 37,none,[0,1,3,4]⟩,
 ⟨none,.st (.t 6) (.t 25) 3,none,[0,1,2,3,4,5]⟩])
 (.seq (.reg [
 o1 26 (.bsl 1 3 []),
 o1 27 (.addo (.t 3) 0),
 o1 28 (.ld (.t 27) 1 false),
 o1 29 (.app 1 8 3 (.t 26) (.t 28)),
 o1 30 (.addo (.t 6) 0),
 ⟨none,.st (.t 30) (.t 29) 1,none,[]⟩])
 (.seq (.reg [
 o1 32 (.ld (.t 5) 37 true),
 o1 33 (.ld (.t 6) 3 true),
 o1 34 (.call 14 [.t 32,.t 33]),
 m1 31 34,
 o1 35 (.ext (.t 31) 0),
 o1 36 (.ext (.t 31) 1),
 o1 37 (.ext (.t 31) 2),
 o1 38 (.ext (.t 31) 3),
 m1 7 35,
 m1 8 36,
 m1 9 37,
 m1 10 38])
 (.seq (.reg [
 o1 40 (.ld (.t 2) 37 true),
 o1 41 (.ld (.t 3) 3 true),
 o1 42 (.call 15 [.t 40,.t 41]),
 m1 39 42,
 o1 43 (.ext (.t 39) 0),
 o1 44 (.ext (.t 39) 1),
 o1 45 (.ext (.t 39) 2),
 o1 46 (.ext (.t 39) 3),
 m1 11 43,
 m1 12 44,
 m1 13 45,
 m1 14 46])
 (.seq (.regd [0,1,2,3,4,5,6,7,8,9,10,11,12,13,14,15,16,17,18,19,20,21,22,23,24,25,26,27,28,29,30,31,32,33,34,35] [
 .op (o1 47 (.ld (.t 5) 37 true)),
 .op ⟨some 48,.call 16 [.t 47],none,[0]⟩,
 .op (o1 49 (.ld (.t 2) 37 true)),
 .op ⟨some 50,.call 17 [.t 49],none,[1,2]⟩,
 .op ⟨some 51,.bin .eql (.t 48) (.t 50),none,[1,3]⟩,
 .op ⟨some 52,.mv (.t 51),none,[3,4]⟩,
 .op ⟨some 53,.mv (.t 7),some (52,true),[5]⟩,
 .op ⟨some 54,.mv (.t 11),some (52,true),[5]⟩,
 .op ⟨some 55,.bin .eql (.t 53) (.t 54),some (52,true),[5,6,7]⟩,
 .op ⟨some 56,.pick (.t 52) (.t 55) (.c (.bool false)),none,[5,8]⟩,
 .op ⟨some 57,.mv (.t 56),none,[5,9]⟩,
 .op ⟨some 58,.mv (.t 8),some (57,true),[10]⟩,
 .op ⟨some 59,.mv (.t 12),some (57,true),[10]⟩,
 .op ⟨some 60,.bin .eql (.t 58) (.t 59),some (57,true),[10,11,12]⟩,
 .op ⟨some 61,.pick (.t 57) (.t 60) (.c (.bool false)),none,[10,13]⟩,
 .op ⟨some 62,.mv (.t 61),none,[10,14]⟩,
 .op ⟨some 63,.mv (.t 9),some (62,true),[15]⟩,
 .op ⟨some 64,.mv (.t 13),some (62,true),[15]⟩,
 .op ⟨some 65,.bin .eql (.t 63) (.t 64),some (62,true),[15,16,17]⟩,
 .op ⟨some 66,.pick (.t 62) (.t 65) (.c (.bool false)),none,[15,18]⟩,
 .op ⟨some 67,.mv (.t 66),none,[15,19]⟩,
 .op ⟨some 68,.mv (.t 10),some (67,true),[20]⟩,
 .op ⟨some 69,.mv (.t 14),some (67,true),[20]⟩,
 .op ⟨some 70,.bin .eql (.t 68) (.t 69),some (67,true),[20,21,22]⟩,
 .op ⟨some 71,.pick (.t 67) (.t 70) (.c (.bool false)),none,[20,23]⟩,
 .op ⟨some 72,.mv (.t 71),none,[20,24]⟩,
 .op ⟨some 73,.ld (.t 5) 37 true,some (72,true),[25]⟩,
 .op ⟨some 74,.ld (.t 2) 37 true,some (72,true),[25]⟩,
 .op ⟨some 75,.call 18 [.t 73,.t 74],some (72,true),[25,26,27]⟩,
 .op ⟨some 76,.pick (.t 72) (.t 75) (.c (.bool false)),none,[25,28]⟩,
 .op ⟨some 77,.mv (.t 76),none,[28,29]⟩,
 .op ⟨some 78,.ld (.t 6) 3 true,some (77,true),[30]⟩,
 .op ⟨some 79,.ld (.t 3) 3 true,some (77,true),[30]⟩,
 .op ⟨some 80,.call 19 [.t 78,.t 79],some (77,true),[30,31,32]⟩,
 .op ⟨some 81,.pick (.t 77) (.t 80) (.c (.bool false)),none,[30,33]⟩,
 .op ⟨some 4,.mv (.t 81),none,[0,1,2,3,4,5,6,7,8,9,10,11,12,13,14,15,16,17,18,19,20,21,22,23,24,25,26,27,28,29,30,31,32,33,34]⟩] 0 0 [
])
 .ret)))))))
def r3:List RV:=[.tmp 4]
theorem n3:Tryz.f3.ntmps=82:=by kernel_rfl
theorem b3:YF Tryz.prog 3=true:=by kernel_rfl
theorem t3:Qt1 Tryz.prog 3 c3 r3 82:=Z3 Tryz.func3 rfl b3 (by kernel_rfl) (by kernel_rfl) n3
theorem ZgZ (s:Season) (hs:SmallS s):Ct Tryz.prog 17 [.agg (Zp s)] (I (if Zw s=true then 0 else 90)):=by
 refine t17.1 (by simp [Zp,Zj,Zf,Zm,Zg,Zd,Zo,Za,KFL,KF]) (by simp [KFL,KF]) ?_
 dsimp only [c17,r17,Zp,go_sem,rA,rM,rS]
 refine call (Zhz s hs) ?_
 dsimp only [go_sem,rA,rM,rS]
 refine br ?_ ?_
 . intro h
   dsimp only [go_sem,rA,rM,rS]
   simp at h
   simp [h]
 . intro h
   dsimp only [go_sem,rA,rM,rS]
   simp at h
   simp [h]
end Go.Proofs.YtiigiflofnjilaaGreat
namespace Go.Azalai
open Go.Sx
def Wd (s:Season) (p:Plan):Bool:=!V1 s && Zw s && decide (p.legs.length<=40) && YS s p && decide (s.till<=2000)
end Go.Azalai
namespace Go.Proofs.YtiigiflofnjilaaGreat
open Go Go.Sx Go.Azalai
structure ReadyS (s:Season) (p:Plan):Prop where
 great:V1 s=false
 ok:OkS s
 legs:p.legs.length<=40
 plan:YS s p=true
 till:s.till<=2000
theorem ZgN {s:Season} {p:Plan} (h:Wd s p=true):ReadyS s p:=by
 simp only [Wd,Bool.and_eq_true,Bool.not_eq_true',decide_eq_true_eq] at h
 obtain ⟨⟨⟨⟨h1,h2⟩,h3⟩,h4⟩,h5⟩:=h
 exact ⟨h1,⟨Zbi h1,h2⟩,h3,h4,h5⟩
theorem ZmH (s:Season) (p:Plan):Ct Tryz.prog 31 [.agg (Zp s),.agg (Zz p)] (B (Wd s p)):=by
 refine t31.1 (by simp [Zp,Zz,Zj,Zf,Zm,Zg,Zd,Zo,Za,KFL,KF]) (by simp [KFL,KF]) ?_
 dsimp only [c31,r31,Zp,Zz,go_sem,rA,rM,rS]
 refine call (ZjD s) ?_
 dsimp only [go_sem,rA,rM,rS]
 cases h:V1 s
 case true =>
  rw [show Wd s p=false from by simp [Wd,h]]
  repeat (refine Vi (by decide) ?_;dsimp only [go_sem,rA,rM,rS])
 have hs:=Zbi h
 refine Yn rfl ?_
 dsimp only [go_sem,rA,rM,rS]
 refine Yn rfl ?_
 dsimp only [go_sem,rA,rM,rS]
 refine call (ZgZ s hs) ?_
 dsimp only [go_sem,rA,rM,rS]
 refine Yn rfl ?_
 dsimp only [go_sem,rA,rM,rS]
 cases h2:Zw s
 case false =>
  rw [show Wd s p=false from by simp [Wd,h,h2]]
  simp only [Bool.false_eq_true,if_false,Bool.not_false,Bool.true_and,show ((90:Int) == 0)=false from rfl]
  repeat (refine Vi (by decide) ?_;dsimp only [go_sem,rA,rM,rS])
 simp only [if_true,Bool.not_false,Bool.true_and,show ((0:Int) == 0)=true from rfl]
 iterate 4 (refine Yn rfl ?_;dsimp only [go_sem,rA,rM,rS])
 simp only [List.length_map]
 by_cases h3:p.legs.length<=40
 case neg =>
  rw [show Wd s p=false from by simp [Wd,h,h2,h3]]
  have:decide ((p.legs.length:Int)<=40)=false:=by simp;omega
  simp only [this,Bool.and_false]
  repeat (refine Vi (by decide) ?_;dsimp only [go_sem,rA,rM,rS])
 have e3:decide ((p.legs.length:Int)<=40)=true:=by simp;omega
 simp only [e3,Bool.and_true]
 iterate 2 (refine Yn rfl ?_;dsimp only [go_sem,rA,rM,rS])
 refine Yn rfl ?_
 dsimp only [go_sem,rA,rM,rS]
 refine call (Zuz s ⟨hs,h2⟩ p (by omega)) ?_
 dsimp only [go_sem,rA,rM,rS]
 cases h4:YS s p
 case false =>
  rw [show Wd s p=false from by simp [Wd,h4]]
  simp only [Bool.and_false]
  repeat (refine Vi (by decide) ?_;dsimp only [go_sem,rA,rM,rS])
 simp only [Bool.and_true]
 iterate 3 (refine Yn rfl ?_;dsimp only [go_sem,rA,rM,rS])
 simp [Wd,h,h2,h3,h4]
theorem ZmX:Ct Tryz.prog 30 [] (B true):=by
 have h1:=Ul Y7 YZ ⟨[0,1],2,2⟩ (by decide)
 have h2:=Ul Y7 YZ ⟨[0,1],3,2⟩ (by decide)
 have h3:=Ul Y7 YZ ⟨[2],10,1⟩ (by decide)
 have h4:=Zbn Y7 YZ ⟨[0,1],2,2⟩ (by decide)
 have h5:=Zqt Y7 YZ ⟨[0,1],2,2⟩ (by decide) 0
 have h6:=Ztt Y7 YZ
 have h7:=Zo9 Y7 YZ
 rw [Zvh] at h1
 rw [ZrU] at h2
 rw [Ztg] at h3
 rw [ZgG] at h4
 rw [Zgf] at h5
 rw [Zjk] at h6
 rw [Zgw] at h7
 refine t30.1 (by simp [KFR,KFL,KF]) (by simp [KFL,KF]) ?_
 dsimp only [c30,r30,go_sem,rA,rM,rS]
 refine call WV ?_
 dsimp only [go_sem,rA,rM,rS]
 refine call (Zg6 2 2 [0,1] true) ?_
 dsimp only [go_sem,rA,rM,rS]
 refine call h1 ?_
 dsimp only [ZcX,go_sem,rA,rM,rS]
 refine call WV ?_
 dsimp only [go_sem,rA,rM,rS]
 refine call (Zg6 3 2 [0,1] true) ?_
 dsimp only [go_sem,rA,rM,rS]
 refine call h2 ?_
 dsimp only [ZcX,go_sem,rA,rM,rS]
 refine call WV ?_
 dsimp only [go_sem,rA,rM,rS]
 refine call (Zg6 10 1 [2] true) ?_
 dsimp only [go_sem,rA,rM,rS]
 refine call h3 ?_
 dsimp only [ZcX,go_sem,rA,rM,rS]
 refine call WV ?_
 dsimp only [go_sem,rA,rM,rS]
 refine call (Zg6 2 2 [0,1] true) ?_
 dsimp only [go_sem,rA,rM,rS]
 refine call h4 ?_
 dsimp only [go_sem,rA,rM,rS]
 refine call WV ?_
 dsimp only [go_sem,rA,rM,rS]
 refine call (Zg6 2 2 [0,1] true) ?_
 dsimp only [go_sem,rA,rM,rS]
 refine call h5 ?_
 dsimp only [ZkN,go_sem,rA,rM,rS]
 refine call WV ?_
 dsimp only [go_sem,rA,rM,rS]
 refine call h6 ?_
 dsimp only [Zu9,Zz,go_sem,rA,rM,rS]
 refine call WV ?_
 dsimp only [go_sem,rA,rM,rS]
 refine call h7 ?_
 dsimp only [go_sem,rA,rM,rS]
 repeat (first | (refine gb ?_;dsimp only [go_sem,rA,rM,rS]) | (refine call (ZdJ [⟨1,2,100000⟩] [⟨1,2,100000⟩] (by decide) (by decide) false true) ?_;dsimp only [go_sem,rA,rM,rS]) | (refine call (Zg6 1 4 [0,1] true) ?_;dsimp only [Zz,go_sem,rA,rM,rS]) | (refine call (Zd6 ⟨[0,1],1,4⟩ ⟨[0,1],1,4⟩ (by decide) (by decide)) ?_;dsimp only [go_sem,rA,rM,rS]))
 simp
theorem ZbN (s:Season) (p:Plan):Ct Tryz.prog 10 [.agg (Zp s),.agg (Zz p)] (B true):=by
 refine t10.1 (by simp [Zp,Zz,Zj,Zf,Zm,Zg,Zd,Zo,Za,KFL,KF]) (by simp [KFL,KF]) ?_
 dsimp only [c10,r10,Zp,Zz,go_sem,rA,rM,rS]
 refine call ZmX ?_
 dsimp only [go_sem,rA,rM,rS]
 refine Zv rfl ?_
 dsimp only [go_sem,rA,rM,rS]
 refine call (ZmH s p) ?_
 dsimp only [go_sem,rA,rM,rS]
 by_cases hr:Wd s p=true
 case neg =>
  refine Zu (by simpa using hr) ?_
  dsimp only [go_sem,rA,rM,rS]
 refine Zv (by simpa using hr) ?_
 dsimp only [go_sem,rA,rM,rS]
 obtain ⟨hgr,h,hlegs,hp,htill⟩:=ZgN hr
 have hn:=h.num
 have hs4:=h.scs
 have hw0:0<=s.herd * s.sale/\s.herd * s.sale<=30 * 1000000:=⟨Int.mul_nonneg (by omega) (by omega),Int.mul_le_mul (by omega) (by omega) (by omega) (by decide)⟩
 refine call (Zbn s h.small p (by omega)) ?_
 dsimp only [go_sem,rA,rM,rS]
 simp only [List.length_map]
 obtain ⟨m,hm,hto⟩:=Zw2 h hp
 refine WZ [2,3,5,6,7,8,9,30,31] rfl (fun k:Nat=>[(31,I k),(8,B (Xu s p (s.scenes.take k)).1),(9,B (Xu s p (s.scenes.take k)).2)]) (fun _=>[])
  (fun k=>k<=s.scenes.length) (fun k=>s.scenes.length - k) 0 (Nat.zero_le _) ?_ ?_
 . (refine Zl ?_ ?_ ?_ rfl rfl<;>dsimp only [Xu,Zf,Zm,Zg,Zj,Zd,Zo,id,go_sem,rA,rM,rS]<;>simp [Xu,Zf,Zm,Zg,Zj,Zd,Zo,Za,Ze,KFR,KFL,KF,Zc,mtO,nbr])
 intro k hk
 dsimp only [go_sem,rA,rM,rS]
 by_cases hlt:k < s.scenes.length
 case neg =>
  refine Zv (by simp;omega) ?_
  dsimp only [go_sem,rA,rM,rS]
  rw [List.take_of_length_le (by omega)]
  by_cases he:(YO s p).2=0
  . refine Zv (by simpa using he) ?_
    dsimp only [go_sem,rA,rM,rS]
    obtain ⟨q1,q2,q3⟩:=ZbW h.ok hp he
    rw [q1]
    repeat (refine gb ?_;dsimp only [go_sem,rA,rM,rS])
    rw [Zi (n:=s.herd * s.sale) (by omega) (by omega)]
    obtain ⟨_,hpl⟩:=Vb hp
    by_cases h0:p.animals=0
    . rw [q3 h0];simp
    . have:decide (p.animals > 0)=true:=by simp;omega
      simp [this]
  . refine Zu (by simpa using he) ?_
    dsimp only [go_sem,rA,rM,rS]
    obtain ⟨q1,q2⟩:=ZhR h.ok hp he
    rw [q1,q2]
    repeat (refine gb ?_;dsimp only [go_sem,rA,rM,rS])
    rfl
 refine Zu (by simpa using hlt) ?_
 dsimp only [go_sem,rA,rM,rS]
 have hx:s.scenes[k] ∈ s.scenes:=List.getElem_mem hlt
 refine call (Zn5 s h.small) ?_
 dsimp only [Zp,go_sem,rA,rM,rS]
 refine ⟨k,k+1,⟨rfl,by rw [Zi (by omega) (by omega)];omega,by omega,by simp;omega⟩,?_⟩
 have e1:((s.scenes.map Zj).take (k+1)).drop k=[s.scenes[k]].map Zj:=by
  rw [List.drop_take,Nat.add_sub_cancel_left,List.drop_eq_getElem_cons (by simpa using hlt)]
  simp
 rw [e1]
 dsimp only [go_sem,rA,rM,rS]
 have hwo:=Zbn (Wf s s.scenes[k]) (ZhZ h.small hx) p (by omega)
 rw [Zi4 h.ok hp hx] at hwo
 have hnext:IntKind.i64.wrap ((k:Int)+1)=((k+1:Nat):Int):=by rw [Zi (by omega) (by omega)];omega
 have hsn:=ZdP (s:=s) (p:=p) (l:=s.scenes.take k) (x:=s.scenes[k])
 rw [<- List.take_succ_eq_append_getElem hlt] at hsn
 by_cases hf:(YN s p s.scenes[k]).1=0
 . rw [if_neg (by simpa using hf)] at hwo
   simp only [hf,decide_true,Bool.and_true,Bool.true_and] at hsn
   refine call hwo ?_
   dsimp only [go_sem,rA,rM,rS]
   repeat (refine gb ?_;dsimp only [go_sem,rA,rM,rS])
   refine Zv (by simp) ?_
   dsimp only [go_sem,rA,rM,rS]
   repeat (refine gb ?_;dsimp only [go_sem,rA,rM,rS])
   refine Zv ?_ ?_
   . by_cases he:(YO s p).2=0
     . have:=(ZbW h.ok hp he).2.1 _ hx
       simp [he];omega
     . simp [he]
   dsimp only [go_sem,rA,rM,rS]
   rw [hnext]
   refine ⟨k+1,hlt,by omega,?_⟩
   rw [hsn]
   (refine Zl ?_ ?_ ?_ rfl rfl<;>dsimp only [Zf,Zm,Zg,Zj,Zd,Zo,Wf,id,go_sem,rA,rM,rS]<;>simp [Zf,Zm,Zg,Zj,Zd,Zo,Wf,Za,Ze,KFR,KFL,KF,Zc,mtO,nbr])
 . rw [if_pos (by simpa using hf)] at hwo
   simp only [hf,decide_false,Bool.and_false,Bool.false_and,Bool.or_false] at hsn
   refine call hwo ?_
   dsimp only [go_sem,rA,rM,rS]
   repeat (refine gb ?_;dsimp only [go_sem,rA,rM,rS])
   refine Zv (by simp) ?_
   dsimp only [go_sem,rA,rM,rS]
   repeat (refine gb ?_;dsimp only [go_sem,rA,rM,rS])
   refine Zv (by simp) ?_
   dsimp only [go_sem,rA,rM,rS]
   rw [hnext]
   refine ⟨k+1,hlt,by omega,?_⟩
   rw [hsn]
   (refine Zl ?_ ?_ ?_ rfl rfl<;>dsimp only [Zf,Zm,Zg,Zj,Zd,Zo,Wf,id,go_sem,rA,rM,rS]<;>simp [Zf,Zm,Zg,Zj,Zd,Zo,Wf,Za,Ze,KFR,KFL,KF,Zc,mtO,nbr])
end Go.Proofs.YtiigiflofnjilaaGreat
