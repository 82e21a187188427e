/- Walks and plain laws that lead to the given statement, part 8 of 9. -/
import Derived.Test.YtiigiflofnjilaaGreatQG
import Derived.Test.YtiigiflofnjilaaGreatProg
set_option maxRecDepth 100000
set_option maxHeartbeats 4000000
set_option linter.all false
open Nat renaming reduceAdd->rA,reduceMul->rM,reduceSub->rS,beq_refl->nbr
namespace Go.Azalai
open Go.Sx Go.Proofs.YtiigiflofnjilaaGreat
def Zlt (lo:Int) (all:List Camel):Camel:=if (all.length:Int) < lo then Y5 else (all.drop lo.toNat).foldl Zbp ((all[lo.toNat - 1]?).getD Y5)
theorem Zm6 {lo:Int} (hlo:1<=lo):Zlt lo []=Y5:=by
 unfold Zlt;rw [if_pos (by simp;omega)]
theorem ZiP {lo:Int} (hlo:1<=lo) {all:List Camel} {c:Camel}:Zlt lo (all ++ [c])=if (all.length:Int)+1=lo then c else if (all.length:Int)+1 > lo then Zbp (Zlt lo all) c else Zlt lo all:=by
 unfold Zlt
 simp only [List.length_append,List.length_cons,List.length_nil]
 by_cases h1:(all.length:Int)+1=lo
 . rw [if_pos h1,if_neg (by omega),List.drop_eq_nil_of_le (by simp;omega),List.foldl_nil,show lo.toNat - 1=all.length from by omega]
   simp
 rw [if_neg h1]
 by_cases h2:(all.length:Int)+1 > lo
 . rw [if_pos h2,if_neg (by omega),if_neg (by omega),List.drop_append_of_le_length (by omega),List.foldl_append,List.getElem?_append_left (by omega)]
   rfl
 . rw [if_neg h2,if_pos (by omega),if_pos (by omega)]
theorem Zj9 {l:Land} {p:Span} (hg:OkLP l p):∀ {legs:List Int} {ss:List Stop} {v a b:Int},Trk l p v a b legs ss->b<=100000->ss.Pairwise (fun x y=>x.arrives.hi<=y.arrives.hi)/\∀ s ∈ ss,b<=s.arrives.hi
 | [],[],_,_,_,_,_=>⟨.nil,fun _ h=>by cases h⟩
 | i :: r,s :: ss,v,a,b,ht,hb=>by
  obtain ⟨k,x,rfl,hx,ho,hr,rfl,ht⟩:=ht
  have h1:=Vb (k:=true) (hg.leg hx) hg.pace (show b<=100001 by omega)
  obtain ⟨q1,q2⟩:=Zj9 hg ht hr
  refine ⟨List.pairwise_cons.2 ⟨fun y hy=>q2 y hy,q1⟩,fun y hy=>?_⟩
  rcases List.mem_cons.1 hy with rfl | hy
  . exact h1
  . have:=q2 y hy;omega
 | [],_ :: _,_,_,_,h,_=>h.elim
 | _ :: _,[],_,_,_,h,_=>h.elim
theorem ZjI {S:List Stop} {till:Int} (hh:S.Pairwise (fun x y=>x.arrives.hi<=y.arrives.hi)) (hs:S.length=0\/(ZaQ S).arrives.hi<=till) {i:Nat} (hi:i < S.length):S[i].arrives.hi<=till:=by
 have h0:S.length≠0:=by omega
 have:=Uc h0
 rw [List.getElem?_eq_getElem (by omega),Option.some.injEq] at this
 rcases hs with q | q
 . omega
 . rw [<- this] at q
   by_cases he:i=S.length - 1
   . subst he;exact q
   . have:=(List.pairwise_iff_getElem.1 hh) i (S.length - 1) hi (by omega) (by omega)
     omega
theorem ZjZ {l:Land} {p:Span} (hg:OkLP l p):∀ {legs:List Int} {ss:List Stop} {v a b:Int},Trk l p v a b legs ss->0<=b->b<=100000->∀ (i:Nat) (h1:i < legs.length) (h2:i < ss.length),
 (YL l legs[i] p).2=0/\1<=(YL l legs[i] p).1.lo/\(YL l legs[i] p).1.lo<=(YL l legs[i] p).1.hi/\(YL l legs[i] p).1.hi<=ss[i].arrives.hi/\ss[i].leg=legs[i]
 | i :: r,s :: ss,v,a,b,ht,hb0,hb,j,h1,h2=>by
  obtain ⟨k,x,rfl,hx,ho,hr,rfl,ht⟩:=ht
  have hge:=Vb (k:=true) (hg.leg hx) hg.pace (show b<=100001 by omega)
  cases j with
  | zero =>
   obtain ⟨hk,hx'⟩:=List.getElem?_eq_some_iff.1 hx
   have e:YL l (k:Int) p=(Zby x p,0):=by
    unfold YL
    rw [if_neg (by simp [Zae,hg.land,hg.pace]),if_neg (by simp [inR];omega)]
    simp only [Int.toNat_natCast,hx]
   have n1:=(ZhW (k:=false) (hg.leg hx) hg.pace).1
   have n2:=Zer (hg.leg hx) hg.pace
   have n3:=Xi (k:=true) (hg.leg hx) hg.pace (show b<=100001 by omega)
   simp only [List.getElem_cons_zero]
   rw [e]
   have m1:nK false x p=(Zby x p).lo:=rfl
   have m2:nK true x p=(Zby x p).hi:=rfl
   refine ⟨rfl,by simp only;omega,by simp only;omega,?_,trivial⟩
   have:=(n3.2.2.1 (by omega)).1
   simp only
   have hle:=Zj2 (k:=true) (hg.leg hx) hg.pace (show b<=100001 by omega)
   omega
  | succ j =>
   simp only [List.getElem_cons_succ]
   exact ZjZ hg ht (by omega) hr j _ _
 | [],_,_,_,_,_,_,_,j,h1,_=>by simp at h1
 | _ :: _,[],_,_,_,h,_,_,_,_,_=>h.elim
end Go.Azalai
namespace Go.Proofs.YtiigiflofnjilaaGreat
open Go Go.Sx
def c64:SC:=(.seq (.reg [
 o1 2 (.box (.t 0) 0 37),
 o1 4 (.alloc [.int .i64 0,.int .i64 0,.int .i64 0,.int .i64 0] 142)])
 (.seq (.reg [
 m1 5 1,
 o1 6 (.addo (.t 2) 1),
 o1 7 (.ld (.t 6) 1 false),
 o1 8 (.un .neg (.t 7)),
 o1 9 (.addo (.t 2) 2),
 o1 10 (.ld (.t 9) 1 false),
 o1 11 (.un .neg (.t 10)),
 o1 12 (.addo (.t 2) 0),
 o1 13 (.ld (.t 12) 1 false),
 o1 14 (.len (.t 13)),
 o1 15 (.un .neg (.t 14)),
 o1 16 (.build [.int .i64 0,.int .i64 0,.int .i64 0,.int .i64 0] [(0,1,.t 5),(1,1,.t 8),(2,1,.t 11),(3,1,.t 15)]),
 ⟨none,.st (.t 4) (.t 16) 4,none,[]⟩])
 .ret))
def r64:List RV:=[.cell 4 4 true]
theorem t64:Qt1 Tryz.prog 64 c64 r64 17:=Z4 Tryz.func64 rfl (by kernel_rfl) (by kernel_rfl) (by kernel_rfl) (by kernel_rfl)
def c67:SC:=(.seq (.reg [
 o1 4 (.box (.t 0) 0 37),
 o1 5 (.box (.t 1) 0 142),
 o1 6 (.box (.t 2) 0 37),
 o1 7 (.box (.t 3) 0 142),
 o1 8 (.mv (.c (.bool false)))])
 (.seq (.seq (.reg [
 o1 10 (.ld (.t 5) 4 true),
 o1 11 (.ld (.t 7) 4 true),
 o1 12 (.eqs false true [1,1,1,1] (.t 10) (.t 11))])
 (.cond (.t 12)
 (.seq (.reg [
  o1 13 (.addo (.t 4) 0),
  o1 14 (.ld (.t 13) 1 false),
  o1 15 (.addo (.t 6) 0),
  o1 16 (.ld (.t 15) 1 false),
  o1 17 (.call 114 [.t 14,.t 16]),
  o1 18 (.bin .lss (.t 17) (.c (.int .i64 0))),
  m1 8 18])
  .ret)
 .skip))
 (.seq (.seq (.reg [
 o1 19 (.mv (.c (.int .i64 0)))])
 (.block 0 (.loop (.seq (.reg [
  o1 20 (.bin .lss (.t 19) (.c (.int .i64 4)))])
  (.seq (.cond (.t 20)
  .skip
  (.exit 0))
  (.seq (.block 1 (.seq (.reg [
   m1 21 19,
   m1 9 21])
   (.seq (.regd [0,1,2,3,4,5,6] [
   .op (m1 22 9),
   .op ⟨some 23,.ixa (.t 5) (.t 22) 4 1,none,[0]⟩,
   .op ⟨some 24,.ld (.t 23) 1 false,none,[1]⟩,
   .op (m1 25 9),
   .op ⟨some 26,.ixa (.t 7) (.t 25) 4 1,none,[3]⟩,
   .op ⟨some 27,.ld (.t 26) 1 false,none,[4]⟩,
   .op ⟨some 28,.bin .neq (.t 24) (.t 27),none,[2,5]⟩] 0 0 [
])
 (.cond (.t 28)
 (.seq (.regd [0,1,2,3,4,5,6,7] [
  .op (m1 29 9),
  .op ⟨some 30,.ixa (.t 5) (.t 29) 4 1,none,[0]⟩,
  .op ⟨some 31,.ld (.t 30) 1 false,none,[1]⟩,
  .op (m1 32 9),
  .op ⟨some 33,.ixa (.t 7) (.t 32) 4 1,none,[3]⟩,
  .op ⟨some 34,.ld (.t 33) 1 false,none,[4]⟩,
  .op ⟨some 35,.bin .gtr (.t 31) (.t 34),none,[2,5]⟩,
  .op ⟨some 8,.mv (.t 35),none,[0,1,2,3,4,5,6]⟩] 0 0 [
])
 .ret)
 .skip))))
 (.reg [
 o1 36 (.bin .add (.t 19) (.c (.int .i64 1))),
 m1 19 36])))))))
 (.seq (.reg [
 o1 8 (.mv (.c (.bool false)))])
 .ret))))
def r67:List RV:=[.tmp 8]
theorem t67:Qt1 Tryz.prog 67 c67 r67 37:=Z4 Tryz.func67 rfl (by kernel_rfl) (by kernel_rfl) (by kernel_rfl) (by kernel_rfl)
def c27:SC:=(.seq (.reg [
 o1 1 (.box (.t 0) 0 34),
 o1 2 (.mv (.c (.int .i64 0))),
 o1 3 (.mv (.c (.int .i64 0)))])
 (.seq (.seq (.reg [
 o1 14 (.ld (.t 1) 37 true),
 o1 15 (.call 16 [.t 14]),
 m1 4 15])
 (.seq (.reg [
 m1 16 4,
 o1 17 (.bin .neq (.t 16) (.c (.int .i64 0)))])
 (.cond (.t 17)
 (.seq (.reg [
  m1 18 4,
  o1 2 (.mv (.c (.int .i64 0))),
  m1 3 18])
  .ret)
 .skip)))
 (.seq (.reg [
 o1 20 (.addo (.t 1) 0),
 o1 21 (.ld (.t 20) 2 true),
 o1 22 (.addo (.t 1) 33),
 o1 23 (.ld (.t 22) 1 false),
 o1 24 (.addo (.t 1) 34),
 o1 25 (.ld (.t 24) 1 false),
 o1 26 (.addo (.t 1) 2),
 o1 27 (.ld (.t 26) 2 true),
 o1 28 (.call 52 [.t 21,.t 23,.t 25,.t 27]),
 m1 19 28,
 o1 29 (.ext (.t 19) 0),
 o1 30 (.ext (.t 19) 1),
 m1 5 29,
 m1 6 30])
 (.seq (.reg [
 o1 31 (.addo (.t 1) 4),
 o1 32 (.addo (.t 31) 15),
 o1 33 (.addo (.t 32) 0),
 o1 34 (.ld (.t 33) 1 false),
 o1 35 (.addo (.t 1) 30),
 o1 36 (.ld (.t 35) 1 false),
 o1 37 (.div .quo (.t 34) (.t 36)),
 o1 38 (.mm false [.c (.int .i64 12),.t 37]),
 m1 7 38])
 (.seq (.reg [
 o1 8 (.mv (.c (.slice none 0 0)))])
 (.seq (.seq (.reg [
 o1 39 (.addo (.t 1) 36),
 o1 40 (.ld (.t 39) 1 false),
 o1 41 (.len (.t 40)),
 o1 42 (.mv (.c (.int .i64 0)))])
 (.block 0 (.loop (.seq (.reg [
  o1 43 (.bin .lss (.t 42) (.t 41))])
  (.seq (.cond (.t 43)
  .skip
  (.exit 0))
  (.seq (.block 1 (.seq (.reg [
   o1 44 (.ixs (.t 40) (.t 42) 6),
   o1 45 (.ld (.t 44) 6 true),
   o1 10 (.alloc zv4 72),
   ⟨none,.st (.t 10) (.t 45) 6,none,[]⟩])
   (.seq (.reg [
   o1 46 (.addo (.t 1) 32),
   o1 47 (.ld (.t 46) 1 false),
   m1 11 47])
   (.seq (.seq (.reg [
   m1 48 5,
   o1 49 (.len (.t 48)),
   o1 50 (.mv (.c (.int .i64 0)))])
   (.block 2 (.loop (.seq (.reg [
    o1 51 (.bin .lss (.t 50) (.t 49))])
    (.seq (.cond (.t 51)
    .skip
    (.exit 2))
    (.seq (.block 3 (.seq (.reg [
     m1 52 50,
     o1 53 (.ixs (.t 48) (.t 50) 2),
     o1 54 (.ld (.t 53) 2 true),
     o1 13 (.alloc [.int .i64 0,.int .i64 0] 27),
     m1 12 52,
     ⟨none,.st (.t 13) (.t 54) 2,none,[]⟩])
     (.seq (.reg [
     o1 55 (.addo (.t 13) 1),
     o1 56 (.ld (.t 55) 1 false),
     o1 57 (.addo (.t 1) 35),
     o1 58 (.ld (.t 57) 1 false),
     o1 59 (.bin .leq (.t 56) (.t 58))])
     (.cond (.t 59)
     (.regd [0,1,2,3,4,5,6,7,8,9,10,11,12] [
      .op (m1 60 11),
      .op (m1 61 7),
      .op (o1 62 (.addo (.t 10) 5)),
      .op ⟨some 63,.ld (.t 62) 1 false,none,[2]⟩,
      .op (m1 64 12),
      .op ⟨some 65,.ixs (.t 63) (.t 64) 1,none,[3,4]⟩,
      .op ⟨some 66,.ld (.t 65) 1 false,none,[5]⟩,
      .op (o1 67 (.addo (.t 1) 31)),
      .op ⟨some 68,.ld (.t 67) 1 false,none,[7]⟩,
      .op ⟨some 69,.bin .sub (.t 66) (.t 68),none,[6,8]⟩,
      .op ⟨some 70,.bin .mul (.t 61) (.t 69),none,[1,9]⟩,
      .op ⟨some 71,.mm true [.t 60,.t 70],none,[0,10]⟩] 0 0 [
      ⟨some 11,.mv (.t 71),none,[0,1,2,3,4,5,6,7,8,9,10,11]⟩])
     .skip))))
    (.reg [
    o1 72 (.bin .add (.t 50) (.c (.int .i64 1))),
    m1 50 72])))))))
   (.gh (.reg [
   m1 73 8,
   o1 74 (.addo (.t 1) 28),
   o1 75 (.ld (.t 74) 1 false),
   m1 76 11,
   o1 77 (.bin .mul (.t 75) (.t 76)),
   o1 78 (.bsl 1 3 [.t 77]),
   o1 79 (.appm 1 8 3 (.t 73) (.t 78)),
   m1 8 79]))))))
  (.gh (.reg [
  o1 80 (.bin .add (.t 42) (.c (.int .i64 1))),
  m1 42 80]))))))))
 (.gh (.seq (.reg [
 m1 81 8,
 o1 82 (.call 71 [.t 81]),
 m1 2 82,
 o1 3 (.mv (.c (.int .i64 0)))])
 .ret))))))))
def r27:List RV:=[.tmp 2,.tmp 3]
theorem t27:Qt1 Tryz.prog 27 c27 r27 83:=Z4 Tryz.func27 rfl (by kernel_rfl) (by kernel_rfl) (by kernel_rfl) (by kernel_rfl)
def c25:SC:=(.seq (.reg [
 o1 1 (.box (.t 0) 0 34),
 o1 2 (.alloc [.slice none 0 0,.int .i64 0,.int .i64 0] 37),
 o1 3 (.mv (.c (.int .i64 0))),
 o1 4 (.mv (.c (.int .i64 0)))])
 (.seq (.seq (.reg [
 o1 17 (.ld (.t 1) 37 true),
 o1 18 (.call 16 [.t 17]),
 m1 5 18])
 (.seq (.reg [
 m1 19 5,
 o1 20 (.bin .neq (.t 19) (.c (.int .i64 0)))])
 (.cond (.t 20)
 (.seq (.reg [
  o1 21 (.build [.slice none 0 0,.int .i64 0,.int .i64 0] []),
  m1 22 5,
  ⟨none,.st (.t 2) (.t 21) 3,none,[]⟩,
  o1 3 (.mv (.c (.int .i64 0))),
  m1 4 22])
  .ret)
 .skip)))
 (.seq (.reg [
 o1 23 (.addo (.t 1) 28),
 o1 24 (.ld (.t 23) 1 false),
 o1 25 (.addo (.t 1) 32),
 o1 26 (.ld (.t 25) 1 false),
 o1 27 (.bin .mul (.t 24) (.t 26)),
 m1 3 27])
 (.seq (.reg [
 o1 28 (.ld (.t 2) 3 true),
 m1 29 3,
 o1 30 (.call 64 [.t 28,.t 29]),
 o1 6 (.alloc [.int .i64 0,.int .i64 0,.int .i64 0,.int .i64 0] 142),
 ⟨none,.st (.t 6) (.t 30) 4,none,[]⟩])
 (.seq (.seq (.reg [
 o1 31 (.addo (.t 1) 0),
 o1 32 (.addo (.t 31) 0),
 o1 33 (.ld (.t 32) 1 false),
 o1 34 (.len (.t 33)),
 o1 35 (.mv (.c (.int .i64 0)))])
 (.block 0 (.loop (.seq (.reg [
  o1 36 (.bin .lss (.t 35) (.t 34))])
  (.seq (.cond (.t 36)
  .skip
  (.exit 0))
  (.seq (.block 1 (.seq (.reg [
   m1 37 35,
   m1 7 37])
   (.seq (.reg [
   o1 39 (.addo (.t 1) 0),
   o1 40 (.ld (.t 39) 2 true),
   o1 41 (.addo (.t 1) 33),
   o1 42 (.ld (.t 41) 1 false),
   m1 43 7,
   o1 44 (.addo (.t 1) 34),
   o1 45 (.ld (.t 44) 1 false),
   o1 46 (.addo (.t 1) 35),
   o1 47 (.ld (.t 46) 1 false),
   o1 48 (.addo (.t 1) 2),
   o1 49 (.ld (.t 48) 2 true),
   o1 50 (.call 65 [.t 40,.t 42,.t 43,.t 45,.t 47,.t 49]),
   m1 38 50,
   o1 51 (.ext (.t 38) 0),
   o1 52 (.ext (.t 38) 1),
   m1 8 51,
   m1 9 52])
   (.seq (.seq (.reg [
   m1 53 9,
   o1 54 (.bin .neq (.t 53) (.c (.int .i64 0)))])
   (.cond (.t 54)
   (.seq (.reg [
    o1 55 (.build [.slice none 0 0,.int .i64 0,.int .i64 0] []),
    ⟨none,.st (.t 2) (.t 55) 3,none,[]⟩,
    o1 3 (.mv (.c (.int .i64 0))),
    o1 4 (.mv (.c (.int .i64 9)))])
    .ret)
   .skip))
   (.seq (.reg [
   m1 56 8,
   o1 57 (.len (.t 56)),
   o1 58 (.mv (.c (.int .i64 0)))])
   (.block 2 (.loop (.seq (.reg [
    o1 59 (.bin .lss (.t 58) (.t 57))])
    (.seq (.cond (.t 59)
    .skip
    (.exit 2))
    (.seq (.block 3 (.seq (.reg [
     o1 60 (.ixs (.t 56) (.t 58) 1),
     o1 61 (.ld (.t 60) 1 false),
     m1 11 61])
     (.scope (.seq (.label 0)
     (.seq (.reg [
     o1 62 (.mv (.c (.int .i64 0)))])
     (.block 4 (.loop (.seq (.reg [
      o1 63 (.bin .lss (.t 62) (.c (.int .i64 13)))])
      (.seq (.cond (.t 63)
      .skip
      (.exit 4))
      (.seq (.block 5 (.seq (.reg [
       m1 64 62,
       m1 12 64])
       (.seq (.reg [
       o1 65 (.ld (.t 1) 37 true),
       m1 66 11,
       m1 67 12,
       o1 68 (.call 66 [.t 65,.t 66,.t 67]),
       m1 13 68])
       (.block 6 (.loop (.seq (.block 7 (.seq (.seq (.reg [
        m1 71 13,
        o1 72 (.bin .eql (.t 71) (.c (.int .i64 0)))])
        (.cond (.t 72)
        (.exit 5)
        .skip))
        (.seq (.reg [
        m1 73 11,
        m1 74 13,
        m1 75 12,
        o1 76 (.build [.slice none 0 0,.int .i64 0,.int .i64 0] [(0,1,.t 73),(1,1,.t 74),(2,1,.t 75)]),
        o1 14 (.alloc [.slice none 0 0,.int .i64 0,.int .i64 0] 37),
        ⟨none,.st (.t 14) (.t 76) 3,none,[]⟩])
        (.seq (.reg [
        o1 77 (.ld (.t 1) 37 true),
        o1 78 (.ld (.t 14) 3 true),
        m1 79 7,
        o1 80 (.call 59 [.t 77,.t 78,.t 79]),
        m1 15 80])
        (.seq (.reg [
        o1 81 (.ld (.t 14) 3 true),
        m1 82 15,
        o1 83 (.call 64 [.t 81,.t 82]),
        o1 16 (.alloc [.int .i64 0,.int .i64 0,.int .i64 0,.int .i64 0] 142),
        ⟨none,.st (.t 16) (.t 83) 4,none,[]⟩])
        (.seq (.reg [
        o1 84 (.ld (.t 14) 3 true),
        o1 85 (.ld (.t 16) 4 true),
        o1 86 (.ld (.t 2) 3 true),
        o1 87 (.ld (.t 6) 4 true),
        o1 88 (.call 67 [.t 84,.t 85,.t 86,.t 87])])
        (.cond (.t 88)
        (.regd [0,1,2,3,4,5] [
         .op (o1 89 (.ld (.t 14) 3 true)),
         .hide (.t 2),
         .op (m1 90 15),
         .op (o1 91 (.ld (.t 16) 4 true))] 0 3 [
         ⟨none,.st (.t 2) (.t 89) 3,none,[0]⟩,
         ⟨some 3,.mv (.t 90),none,[0,1,3]⟩,
         ⟨none,.st (.t 6) (.t 91) 4,none,[0,1,2,3,4]⟩])
        .skip)))))))
        (.reg [
        m1 69 13,
        o1 70 (.bin .sub (.t 69) (.c (.int .i64 1))),
        m1 13 70])))))))
      (.reg [
      o1 92 (.bin .add (.t 62) (.c (.int .i64 1))),
      m1 62 92])))))))))))
    (.reg [
    o1 93 (.bin .add (.t 58) (.c (.int .i64 1))),
    m1 58 93])))))))))))
  (.reg [
  o1 94 (.bin .add (.t 35) (.c (.int .i64 1))),
  m1 35 94])))))))
 (.seq (.reg [
 o1 95 (.ld (.t 2) 3 true),
 m1 96 3,
 ⟨none,.st (.t 2) (.t 95) 3,none,[]⟩,
 m1 3 96,
 o1 4 (.mv (.c (.int .i64 0)))])
 .ret))))))
def r25:List RV:=[.cell 2 3 true,.tmp 3,.tmp 4]
theorem n25:Tryz.f25.ntmps=97:=by kernel_rfl
theorem b25:YF Tryz.prog 25=true:=by kernel_rfl
theorem ZxE:XA Tryz.prog c25 ((Tryz.f25.body).getD .skip)=true:=by kernel_rfl
theorem Zw6:We Tryz.prog r25 Tryz.f25.results.toList=true:=by kernel_rfl
def c73:SC:=(.seq (.reg [
 o1 0 (.alloc zv2 34)])
 (.seq (.reg [
 o1 1 (.mv (.f 119))])
 (.seq (.reg [
 o1 2 (.build zv5 []),
 o1 3 (.build zv5 [(5,1,.c (.int .i64 1000000))]),
 o1 4 (.build zv5 []),
 o1 5 (.bsl 9 88 [.t 2,.t 3,.t 4]),
 m1 6 1,
 o1 7 (.calv (.t 6) [.c (.int .i64 0),.c (.int .i64 1),.c (.int .i64 40000)]),
 m1 8 1,
 o1 9 (.calv (.t 8) [.c (.int .i64 1),.c (.int .i64 2),.c (.int .i64 40000)]),
 m1 10 1,
 o1 11 (.calv (.t 10) [.c (.int .i64 0),.c (.int .i64 2),.c (.int .i64 100000)]),
 o1 12 (.bsl 5 83 [.t 7,.t 9,.t 11]),
 o1 13 (.build [.slice none 0 0,.slice none 0 0] [(0,1,.t 5),(1,1,.t 12)]),
 o1 14 (.call 43 [.c (.int .i64 20000),.c (.int .i64 20000)]),
 o1 15 (.call 43 [.c (.int .i64 5000),.c (.int .i64 5000)]),
 o1 16 (.call 43 [.c (.int .i64 1000),.c (.int .i64 1000)]),
 o1 17 (.call 43 [.c (.int .i64 100),.c (.int .i64 100)]),
 o1 18 (.call 43 [.c (.int .i64 200000),.c (.int .i64 200000)]),
 o1 19 (.build [.int .i64 0,.int .i64 0,.int .i64 0,.int .i64 0,.int .i64 0,.int .i64 0,.int .i64 0,.int .i64 0,.int .i64 0,.int .i64 0,.int .i64 0,.int .i64 0,.int .i64 0,.int .i64 0,.int .i64 0,.int .i64 0,.int .i64 0] [(0,1,.c (.int .i64 100000)),(1,1,.c (.int .i64 50000)),(2,2,.t 15),(6,2,.t 16),(8,2,.t 17),(15,2,.t 18)]),
 o1 20 (.call 43 [.c (.int .i64 100000),.c (.int .i64 100000)]),
 o1 21 (.call 43 [.c (.int .i64 50000),.c (.int .i64 50000)]),
 o1 22 (.build zv3 [(0,2,.t 20),(2,2,.t 21)]),
 o1 23 (.build [.int .i64 0,.int .i64 0] []),
 o1 24 (.call 43 [.c (.int .i64 50000),.c (.int .i64 50000)]),
 o1 25 (.build [.int .i64 0,.int .i64 0] []),
 o1 26 (.bsl 2 27 [.t 23,.t 24,.t 25]),
 o1 27 (.bsl 1 3 [.c (.int .i64 10),.c (.int .i64 12),.c (.int .i64 40)]),
 o1 28 (.build zv4 [(4,1,.t 26),(5,1,.t 27)]),
 o1 29 (.bsl 6 72 [.t 28]),
 o1 30 (.build zv2 [(0,2,.t 13),(2,2,.t 14),(4,17,.t 19),(21,7,.t 22),(28,1,.c (.int .i64 10)),(29,1,.c (.int .i64 10)),(30,1,.c (.int .i64 50000)),(31,1,.c (.int .i64 10)),(32,1,.c (.int .i64 60)),(35,1,.c (.int .i64 20)),(36,1,.t 29)]),
 ⟨none,.st (.t 0) (.t 30) 37,none,[]⟩])
 .ret)))
def r73:List RV:=[.cell 0 37 true]
theorem n73:Tryz.f73.ntmps=31:=by kernel_rfl
theorem b73:YF Tryz.prog 73=true:=by kernel_rfl
theorem Zxo:XA Tryz.prog c73 ((Tryz.f73.body).getD .skip)=true:=by kernel_rfl
theorem ZwH:We Tryz.prog r73 Tryz.f73.results.toList=true:=by kernel_rfl
def c119:SC:=(.seq (.reg [
 o1 6 (.alloc zv8 83)])
 (.seq (.reg [
 m1 7 0,
 m1 8 1,
 m1 9 2,
 m1 10 2,
 o1 11 (.call 43 [.t 9,.t 10]),
 o1 12 (.call 43 [.c (.int .i64 99),.c (.int .i64 99)]),
 o1 13 (.build [.int .i64 0,.int .i64 0,.int .i64 0,.int .i64 0] [(2,2,.t 12)]),
 o1 14 (.bsl 4 85 [.t 13]),
 o1 15 (.build zv8 [(0,1,.t 7),(1,1,.t 8),(2,2,.t 11),(4,1,.t 14)]),
 ⟨none,.st (.t 6) (.t 15) 5,none,[]⟩])
 .ret))
def r119:List RV:=[.cell 6 5 true]
theorem n119:Tryz.f119.ntmps=16:=by kernel_rfl
theorem b119:YF Tryz.prog 119=true:=by kernel_rfl
theorem ZsV:XA Tryz.prog c119 ((Tryz.f119.body).getD .skip)=true:=by kernel_rfl
theorem Zte:We Tryz.prog r119 Tryz.f119.results.toList=true:=by kernel_rfl
def c74:SC:=(.seq (.reg [
 o1 6 (.alloc [.slice none 0 0,.int .i64 0,.int .i64 0] 37)])
 (.seq (.reg [
 m1 7 2,
 m1 8 0,
 m1 9 1,
 o1 10 (.build [.slice none 0 0,.int .i64 0,.int .i64 0] [(0,1,.t 7),(1,1,.t 8),(2,1,.t 9)]),
 ⟨none,.st (.t 6) (.t 10) 3,none,[]⟩])
 .ret))
def r74:List RV:=[.cell 6 3 true]
theorem n74:Tryz.f74.ntmps=11:=by kernel_rfl
theorem b74:YF Tryz.prog 74=true:=by kernel_rfl
theorem ZxI:XA Tryz.prog c74 ((Tryz.f74.body).getD .skip)=true:=by kernel_rfl
theorem Zx1:We Tryz.prog r74 Tryz.f74.results.toList=true:=by kernel_rfl
def c43:SC:=(.seq (.reg [
 o1 4 (.alloc [.int .i64 0,.int .i64 0] 27)])
 (.seq (.reg [
 m1 5 0,
 m1 6 1,
 o1 7 (.build [.int .i64 0,.int .i64 0] [(0,1,.t 5),(1,1,.t 6)]),
 ⟨none,.st (.t 4) (.t 7) 2,none,[]⟩])
 .ret))
def r43:List RV:=[.cell 4 2 true]
theorem t43:Qt1 Tryz.prog 43 c43 r43 8:=Z4 Tryz.func43 rfl (by kernel_rfl) (by kernel_rfl) (by kernel_rfl) (by kernel_rfl)
def c30:SC:=(.seq (.reg [
 o1 0 (.mv (.c (.bool false)))])
 (.seq (.reg [
 o1 23 (.call 73 []),
 o1 24 (.bsl 1 3 [.c (.int .i64 0),.c (.int .i64 1)]),
 o1 25 (.call 74 [.c (.int .i64 2),.c (.int .i64 2),.t 24]),
 o1 26 (.call 14 [.t 23,.t 25]),
 m1 22 26,
 o1 27 (.ext (.t 22) 0),
 o1 28 (.ext (.t 22) 1),
 o1 29 (.ext (.t 22) 2),
 o1 30 (.ext (.t 22) 3),
 m1 1 27,
 m1 2 28,
 m1 3 29,
 m1 4 30])
 (.seq (.reg [
 o1 32 (.call 73 []),
 o1 33 (.bsl 1 3 [.c (.int .i64 0),.c (.int .i64 1)]),
 o1 34 (.call 74 [.c (.int .i64 3),.c (.int .i64 2),.t 33]),
 o1 35 (.call 14 [.t 32,.t 34]),
 m1 31 35,
 o1 36 (.ext (.t 31) 0),
 o1 37 (.ext (.t 31) 1),
 o1 38 (.ext (.t 31) 2),
 o1 39 (.ext (.t 31) 3),
 m1 5 36,
 m1 6 37,
 m1 7 38,
 m1 8 39])
 (.seq (.reg [
 o1 41 (.call 73 []),
 o1 42 (.bsl 1 3 [.c (.int .i64 2)]),
 o1 43 (.call 74 [.c (.int .i64 10),.c (.int .i64 1),.t 42]),
 o1 44 (.call 14 [.t 41,.t 43]),
 m1 40 44,
 o1 45 (.ext (.t 40) 0),
 o1 46 (.ext (.t 40) 1),
 o1 47 (.ext (.t 40) 2),
 o1 48 (.ext (.t 40) 3),
 m1 9 45,
 m1 10 46,
 m1 11 47,
 m1 12 48])
 (.seq (.reg [
 o1 50 (.call 73 []),
 o1 51 (.bsl 1 3 [.c (.int .i64 0),.c (.int .i64 1)]),
 o1 52 (.call 74 [.c (.int .i64 2),.c (.int .i64 2),.t 51]),
 o1 53 (.call 20 [.t 50,.t 52]),
 m1 49 53,
 o1 54 (.ext (.t 49) 0),
 o1 55 (.ext (.t 49) 1),
 m1 13 54,
 m1 14 55])
 (.seq (.reg [
 o1 57 (.call 73 []),
 o1 58 (.bsl 1 3 [.c (.int .i64 0),.c (.int .i64 1)]),
 o1 59 (.call 74 [.c (.int .i64 2),.c (.int .i64 2),.t 58]),
 o1 60 (.call 22 [.t 57,.t 59,.c (.int .i64 0)]),
 m1 56 60,
 o1 61 (.ext (.t 56) 0),
 o1 62 (.ext (.t 56) 1),
 m1 15 61,
 m1 16 62])
 (.seq (.reg [
 o1 64 (.call 73 []),
 o1 65 (.call 25 [.t 64]),
 m1 63 65,
 o1 66 (.ext (.t 63) 0),
 o1 67 (.ext (.t 63) 1),
 o1 68 (.ext (.t 63) 2),
 o1 17 (.alloc [.slice none 0 0,.int .i64 0,.int .i64 0] 37),
 ⟨none,.st (.t 17) (.t 66) 3,none,[]⟩,
 m1 18 67,
 m1 19 68])
 (.seq (.reg [
 o1 70 (.call 73 []),
 o1 71 (.call 27 [.t 70]),
 m1 69 71,
 o1 72 (.ext (.t 69) 0),
 o1 73 (.ext (.t 69) 1),
 m1 20 72,
 m1 21 73])
 (.seq (.regd [0,1,2,3,4,5,6,7,8,9,10,11,12,13,14,15,16,17,18,19,20,21,22,23,24,25,26,27,28,29,30,31,32,33,34,35,36,37,38,39,40,41,42,43,44,45,46,47,48,49,50,51,52,53,54,55,56,57,58,59,60,61,62] [
 .op (m1 74 4),
 .op ⟨some 75,.bin .eql (.t 74) (.c (.int .i64 0)),none,[0]⟩,
 .op ⟨some 76,.mv (.t 75),none,[1]⟩,
 .op ⟨some 77,.mv (.t 1),some (76,true),[2]⟩,
 .op ⟨some 78,.bin .eql (.t 77) (.c (.int .u8 0)),some (76,true),[2,3]⟩,
 .op ⟨some 79,.pick (.t 76) (.t 78) (.c (.bool false)),none,[2,4]⟩,
 .op ⟨some 80,.mv (.t 79),none,[2,5]⟩,
 .op ⟨some 81,.mv (.t 8),some (80,true),[6]⟩,
 .op ⟨some 82,.bin .eql (.t 81) (.c (.int .i64 0)),some (80,true),[6,7]⟩,
 .op ⟨some 83,.pick (.t 80) (.t 82) (.c (.bool false)),none,[6,8]⟩,
 .op ⟨some 84,.mv (.t 83),none,[6,9]⟩,
 .op ⟨some 85,.mv (.t 5),some (84,true),[10]⟩,
 .op ⟨some 86,.bin .eql (.t 85) (.c (.int .u8 4)),some (84,true),[10,11]⟩,
 .op ⟨some 87,.pick (.t 84) (.t 86) (.c (.bool false)),none,[10,12]⟩,
 .op ⟨some 88,.mv (.t 87),none,[10,13]⟩,
 .op ⟨some 89,.mv (.t 12),some (88,true),[14]⟩,
 .op ⟨some 90,.bin .eql (.t 89) (.c (.int .i64 0)),some (88,true),[14,15]⟩,
 .op ⟨some 91,.pick (.t 88) (.t 90) (.c (.bool false)),none,[14,16]⟩,
 .op ⟨some 92,.mv (.t 91),none,[14,17]⟩,
 .op ⟨some 93,.mv (.t 9),some (92,true),[18]⟩,
 .op ⟨some 94,.bin .eql (.t 93) (.c (.int .u8 0)),some (92,true),[18,19]⟩,
 .op ⟨some 95,.pick (.t 92) (.t 94) (.c (.bool false)),none,[18,20]⟩,
 .op ⟨some 96,.mv (.t 95),none,[18,21]⟩,
 .op ⟨some 97,.mv (.t 14),some (96,true),[22]⟩,
 .op ⟨some 98,.bin .eql (.t 97) (.c (.int .i64 0)),some (96,true),[22,23]⟩,
 .op ⟨some 99,.pick (.t 96) (.t 98) (.c (.bool false)),none,[22,24]⟩,
 .op ⟨some 100,.mv (.t 99),none,[22,25]⟩,
 .op ⟨some 101,.mv (.t 13),some (100,true),[26]⟩,
 .op ⟨some 102,.bin .eql (.t 101) (.c (.int .i64 600)),some (100,true),[26,27]⟩,
 .op ⟨some 103,.pick (.t 100) (.t 102) (.c (.bool false)),none,[26,28]⟩,
 .op ⟨some 104,.mv (.t 103),none,[26,29]⟩,
 .op ⟨some 105,.mv (.t 16),some (104,true),[30]⟩,
 .op ⟨some 106,.bin .eql (.t 105) (.c (.int .i64 0)),some (104,true),[30,31]⟩,
 .op ⟨some 107,.pick (.t 104) (.t 106) (.c (.bool false)),none,[30,32]⟩,
 .op ⟨some 108,.mv (.t 107),none,[30,33]⟩,
 .op ⟨some 109,.mv (.t 15),some (108,true),[34]⟩,
 .op ⟨some 110,.build [.int .i64 0,.int .i64 0,.int .i64 0] [(0,1,.c (.int .i64 1)),(1,1,.c (.int .i64 2)),(2,1,.c (.int .i64 100000))],some (108,true),[34]⟩,
 .op ⟨some 111,.bsl 3 111 [.t 110],some (108,true),[34,36]⟩,
 .op ⟨some 112,.call 24 [.t 109,.t 111],some (108,true),[34,35,37]⟩,
 .op ⟨some 113,.pick (.t 108) (.t 112) (.c (.bool false)),none,[34,38]⟩,
 .op ⟨some 114,.mv (.t 113),none,[38,39]⟩,
 .op ⟨some 115,.mv (.t 19),some (114,true),[40]⟩,
 .op ⟨some 116,.bin .eql (.t 115) (.c (.int .i64 0)),some (114,true),[40,41]⟩,
 .op ⟨some 117,.pick (.t 114) (.t 116) (.c (.bool false)),none,[40,42]⟩,
 .op ⟨some 118,.mv (.t 117),none,[40,43]⟩,
 .op ⟨some 119,.mv (.t 18),some (118,true),[44]⟩,
 .op ⟨some 120,.bin .eql (.t 119) (.c (.int .i64 660)),some (118,true),[44,45]⟩,
 .op ⟨some 121,.pick (.t 118) (.t 120) (.c (.bool false)),none,[44,46]⟩,
 .op ⟨some 122,.mv (.t 121),none,[44,47]⟩,
 .op ⟨some 123,.ld (.t 17) 3 true,some (122,true),[48]⟩,
 .op ⟨some 124,.bsl 1 3 [.c (.int .i64 0),.c (.int .i64 1)],some (122,true),[48]⟩,
 .op ⟨some 125,.call 74 [.c (.int .i64 1),.c (.int .i64 4),.t 124],some (122,true),[48,50]⟩,
 .op ⟨some 126,.call 19 [.t 123,.t 125],some (122,true),[48,49,51]⟩,
 .op ⟨some 127,.pick (.t 122) (.t 126) (.c (.bool false)),none,[48,52]⟩,
 .op ⟨some 128,.mv (.t 127),none,[52,53]⟩,
 .op ⟨some 129,.mv (.t 21),some (128,true),[54]⟩,
 .op ⟨some 130,.bin .eql (.t 129) (.c (.int .i64 0)),some (128,true),[54,55]⟩,
 .op ⟨some 131,.pick (.t 128) (.t 130) (.c (.bool false)),none,[54,56]⟩,
 .op ⟨some 132,.mv (.t 131),none,[54,57]⟩,
 .op ⟨some 133,.mv (.t 20),some (132,true),[58]⟩,
 .op ⟨some 134,.bin .eql (.t 133) (.c (.int .i64 1200)),some (132,true),[58,59]⟩,
 .op ⟨some 135,.pick (.t 132) (.t 134) (.c (.bool false)),none,[58,60]⟩,
 .op ⟨some 0,.mv (.t 135),none,[0,1,2,3,4,5,6,7,8,9,10,11,12,13,14,15,16,17,18,19,20,21,22,23,24,25,26,27,28,29,30,31,32,33,34,35,36,37,38,39,40,41,42,43,44,45,46,47,48,49,50,51,52,53,54,55,56,57,58,59,60,61]⟩] 0 0 [
])
 .ret)))))))))
def r30:List RV:=[.tmp 0]
theorem t30:Qt1 Tryz.prog 30 c30 r30 136:=Z4 Tryz.func30 rfl (by kernel_rfl) (by kernel_rfl) (by kernel_rfl) (by kernel_rfl)
def c31:SC:=(.seq (.reg [
 o1 2 (.box (.t 0) 0 34),
 o1 3 (.box (.t 1) 0 37),
 o1 4 (.mv (.c (.bool false)))])
 (.seq (.reg [
 o1 5 (.ld (.t 2) 37 true),
 o1 6 (.call 12 [.t 5]),
 o1 7 (.un .not (.t 6)),
 m1 8 7,
 ⟨some 9,.ld (.t 2) 37 true,some (8,true),[]⟩,
 ⟨some 10,.call 17 [.t 9],some (8,true),[]⟩,
 ⟨some 11,.bin .eql (.t 10) (.c (.int .i64 0)),some (8,true),[]⟩,
 o1 12 (.pick (.t 8) (.t 11) (.c (.bool false))),
 m1 13 12,
 ⟨some 14,.addo (.t 3) 0,some (13,true),[]⟩,
 ⟨some 15,.ld (.t 14) 1 false,some (13,true),[]⟩,
 ⟨some 16,.len (.t 15),some (13,true),[]⟩,
 ⟨some 17,.bin .leq (.t 16) (.c (.int .i64 40)),some (13,true),[]⟩,
 o1 18 (.pick (.t 13) (.t 17) (.c (.bool false))),
 m1 19 18,
 ⟨some 20,.ld (.t 2) 37 true,some (19,true),[]⟩,
 ⟨some 21,.ld (.t 3) 3 true,some (19,true),[]⟩,
 ⟨some 22,.call 44 [.t 20,.t 21],some (19,true),[]⟩,
 o1 23 (.pick (.t 19) (.t 22) (.c (.bool false))),
 m1 24 23,
 ⟨some 25,.addo (.t 2) 35,some (24,true),[]⟩,
 ⟨some 26,.ld (.t 25) 1 false,some (24,true),[]⟩,
 ⟨some 27,.bin .leq (.t 26) (.c (.int .i64 2000)),some (24,true),[]⟩,
 o1 28 (.pick (.t 24) (.t 27) (.c (.bool false))),
 m1 4 28])
 .ret))
def r31:List RV:=[.tmp 4]
theorem t31:Qt1 Tryz.prog 31 c31 r31 29:=Z4 Tryz.func31 rfl (by kernel_rfl) (by kernel_rfl) (by kernel_rfl) (by kernel_rfl)
open Go.Azalai
theorem goalN {s:Season} (h:OkS s) {p:Plan} (hp:Xu s p=true):∃ m:Nat,m < s.land.wells.length/\YI s.land s.start [s.start] p.legs=some (m:Int):=by
 obtain ⟨⟨to,hto⟩,_⟩:=W6 hp
 have:=ZcX h.lp h.start hto
 exact ⟨to.toNat,by omega,by rw [hto];congr 1;omega⟩
theorem ZjQ (s:Season) (hs:SmallS s) (p:Plan) (hg:p.legs.length<=1000):Ct Tryz.prog 20 [.agg (Zr s),.agg (ZB p)] (.tup [I (Zch s p).1,I (Zch s p).2]):=by
 refine t20.1 (by simp [Zr,ZB,Zj,Ze,Zm,Zg,Zd,Zo,Za,KFL,KF]) (by simp [KFL,KF]) ?_
 dsimp only [c20,r20,Zr,ZB,go_sem,rA,rM,rS]
 refine call (VC s hs p hg) ?_
 dsimp only [ZbW,go_sem,rA,rM,rS]
 by_cases he:(Z5 s p).2.2.2=0
 case neg =>
  refine Zu (by simpa using he) ?_
  dsimp only [go_sem,rA,rM,rS]
  simp [Zch,he]
 refine Zv (by simpa using he) ?_
 dsimp only [go_sem,rA,rM,rS]
 by_cases hw:(Z5 s p).1=0
 case neg =>
  refine Zu (by simpa using hw) ?_
  dsimp only [go_sem,rA,rM,rS]
  simp [Zch,he,hw]
 refine Zv (by simpa using hw) ?_
 dsimp only [go_sem,rA,rM,rS]
 obtain ⟨ho,hp⟩:=Zbt he
 have h:OkS s:=⟨hs,ho⟩
 obtain ⟨m,hm,hto⟩:=goalN h hp
 refine call (Zdr s hs h.land h.pace h.start p.legs hg _) ?_
 dsimp only [go_sem,rA,rM,rS]
 rw [hto]
 simp only [Option.getD_some]
 refine call (Zfn s h p hp m hm) ?_
 dsimp only [go_sem,rA,rM,rS]
 simp [Zch,he,hw,hto]
def Zhs (r:List Draw × Int):SV:=.tup [.sl false 3 (r.1.map Z0),I r.2]
theorem u22 {args:List SV} {res:SV} (ka:KFL args) (kr:KF res) (h:sx Tryz.prog Y0 0 cw22 (st0 args 48) (ZlT rw22 res)) (hA:Nat.ble args.length 48=true:=by rfl):Ct Tryz.prog 22 args res:=Wf Tryz.func22 rfl bw22 Ztd Zst nw22 (Nat.le_of_ble_eq_true hA) ka kr h
theorem Zob (s:Season) (hs:SmallS s) (p:Plan) (hg:p.legs.length<=1000) (k:Int):Ct Tryz.prog 22 [.agg (Zr s),.agg (ZB p),I k] (Zhs (Zb5 s p k)):=by
 have hsc:=hs.sc
 refine u22 (by simp [Zr,ZB,Zj,Ze,Zm,Zg,Zd,Zo,Za,KFL,KF]) (by simp [Zhs,Z0,Za,KFL,KF]) ?_
 dsimp only [cw22,rw22,Zr,ZB,go_sem,rA,rM,rS]
 refine call (VC s hs p hg) ?_
 dsimp only [ZbW,go_sem,rA,rM,rS]
 by_cases he:(Z5 s p).2.2.2=0
 case neg =>
  refine Zu (by simpa using he) ?_
  dsimp only [go_sem,rA,rM,rS]
  refine ⟨_,rfl,?_⟩
  rw [Zb5,if_pos he]
  exact X1 (ZO YA XV)
 refine Zv (by simpa using he) ?_
 dsimp only [go_sem,rA,rM,rS]
 obtain ⟨ho,hp⟩:=Zbt he
 have h:OkS s:=⟨hs,ho⟩
 try simp only [List.length_map]
 repeat (first | (refine gb ?_;dsimp only [go_sem,rA,rM,rS]) | (refine call (ZfC _ _ _ _) ?_;dsimp only [go_sem,rA,rM,rS]))
 simp only [List.length_map]
 rw [Zi (n:=(s.scenes.length:Int) - 1) (by omega) (by omega)]
 by_cases hw:(Z5 s p).1≠0\/inR 0 (s.scenes.length - 1) k=false
 . refine Zu (by simpa using hw) ?_
   dsimp only [go_sem,rA,rM,rS]
   refine ⟨_,rfl,?_⟩
   rw [Zb5,if_neg (by simpa using he),if_pos hw]
   exact X1 (ZO YA XV)
 refine Zv (by simpa using hw) ?_
 dsimp only [go_sem,rA,rM,rS]
 have hw1:(Z5 s p).1=0:=Classical.byContradiction fun q=>hw (.inl q)
 have hk:0<=k/\k < s.scenes.length:=by
  have:inR 0 (s.scenes.length - 1) k=true:=by cases hq:inR 0 (s.scenes.length - 1) k with | true=>rfl | false=>exact absurd (.inr hq) hw
  simp only [inR,decide_eq_true_eq] at this;omega
 obtain ⟨j,rfl⟩:∃ j:Nat,k=j:=⟨k.toNat,by omega⟩
 have hj:j < s.scenes.length:=by omega
 have ht:=ZhU s h j hj p hp hg
 have hf:=Zne he hw1 _ (List.getElem_mem hj)
 have hR:Zb5 s p j=(XN s s.scenes[j] p.animals p.slabs (Zz s p.legs),0):=by
  rw [Zb5,if_neg (by simpa using he),if_neg hw]
  simp only [Int.toNat_natCast,List.getElem?_eq_getElem hj]
 rw [hR]
 have hT:Wu s p s.scenes[j]=XN s s.scenes[j] p.animals p.slabs (Zz s p.legs):=by rw [Wu,if_pos hf]
 rw [hT] at ht
 generalize XN s s.scenes[j] p.animals p.slabs (Zz s p.legs)=D at ht ⊢
 generalize Xk s p s.scenes[j]=w at ht
 refine YM [] ht rfl rfl rfl ?_ ?_ ?_
 . exact Zc (by simp [Yl,ZB,Ze,Zm,Zg,Zj,Zd,Zo,Zy,Za,KFL,KF])
 . trivial
 rintro _ rfl
 (repeat first | dsimp only [Zrg,go_sem,rA,rM,rS] | simp only [nbr])
 exact ⟨_,rfl,fun _ _ _ _ _ h=>h⟩
theorem ZdC (a b:List Draw) (ha:a.length<=1000000) (hb:b.length<=1000000) (c d:Bool):Ct Tryz.prog 24 [.sl c 3 (a.map Z0),.sl d 3 (b.map Z0)] (B (decide (a=b))):=by
 refine t24.1 (by simp [Z0,Za,KFL,KF]) (by simp [KFL,KF]) ?_
 dsimp only [c24,r24,go_sem,rA,rM,rS]
 simp only [List.length_map]
 by_cases hl:a.length=b.length
 case neg =>
  refine Zu (by simp;omega) ?_
  dsimp only [go_sem,rA,rM,rS]
  rw [decide_eq_false (fun e=>hl (by rw [e]))]
 refine Zv (by simp;omega) ?_
 dsimp only [go_sem,rA,rM,rS]
 refine Ws [0,1,4,5] rfl (fun k:Nat=>[(5,I k)]) (fun _=>[]) (fun k=>k<=a.length/\(a=b↔a.drop k=b.drop k)) (fun k=>a.length - k) 0 ⟨Nat.zero_le _,by simp⟩ ?_ ?_
 . (refine Zl ?_ ?_ ?_ rfl rfl<;>dsimp only [Z0,id,go_sem,rA,rM,rS]<;>simp [Z0,Za,Zf,KFR,KFL,KF,Zc,mtO,nbr])
 rintro k ⟨hk,hi⟩
 dsimp only [go_sem,rA,rM,rS]
 simp only [List.length_map]
 by_cases hlt:k < a.length
 case neg =>
  refine Zv (by simp;omega) ?_
  dsimp only [go_sem,rA,rM,rS]
  rw [List.drop_eq_nil_of_le (by omega),List.drop_eq_nil_of_le (by omega)] at hi
  rw [decide_eq_true (hi.2 rfl)]
 refine Zu (by simpa using hlt) ?_
 dsimp only [go_sem,rA,rM,rS]
 have hlb:k < b.length:=by omega
 refine Zp k hlt rfl ?_
 dsimp only [go_sem,rA,rM,rS]
 refine Zp k hlb rfl ?_
 dsimp only [Z0,go_sem,rA,rM,rS]
 rw [List.drop_eq_getElem_cons hlt,List.drop_eq_getElem_cons hlb,List.cons.injEq] at hi
 by_cases hq:a[k]=b[k]
 . refine Zv (by simp [hq]) ?_
   dsimp only [go_sem,rA,rM,rS]
   rw [Zi (n:=(k:Int)+1) (by omega) (by omega)]
   refine ⟨k+1,⟨hlt,by rw [hi];simp [hq]⟩,by omega,?_⟩
   (refine Zl ?_ ?_ ?_ rfl rfl<;>dsimp only [Z0,id,go_sem,rA,rM,rS]<;>simp [Z0,Za,Zf,KFR,KFL,KF,Zc,mtO,nbr])
 . have hne:¬ (a[k].well=b[k].well/\a[k].day=b[k].day/\a[k].water=b[k].water):=fun q=>hq (by
    revert q;generalize a[k]=x;generalize b[k]=y;intro q;cases x;cases y;simpa using q)
   refine Zu (by simp;omega) ?_
   dsimp only [go_sem,rA,rM,rS]
   rw [decide_eq_false (fun e=>hq (hi.1 e).1)]
end Go.Proofs.YtiigiflofnjilaaGreat
namespace Go.Azalai
open Go.Sx Go.Proofs.YtiigiflofnjilaaGreat
theorem ZlU {l:Land} {well day:Int}:(Xd l well [] day).1.lo<=1000000000:=by
 unfold Xd
 split
 . simp
 rename_i h1
 split
 . simp
 split
 . simp
 split
 . simp
 split
 . rename_i w hw
   simp only [Bool.not_eq_false,ZM,Bool.and_eq_true,List.all_eq_true,inR,decide_eq_true_eq] at h1
   have hwell:=h1.1.2 w (List.mem_of_getElem? hw)
   simp only [YD,Z9,inR,Bool.and_eq_true,decide_eq_true_eq] at hwell
   simp only [W9,X4]
   omega
 . simp
theorem Zxv {s:Season} {x:Scene} (st:Stop):ZaP s x st<=1000000000:=ZlU
theorem ZeR {s:Season} {p:Plan} {x:Scene} (h:OkS s) (hp:Xu s p=true):∀ d ∈ Wu s p x,0<=d.water/\d.water<=30000000:=by
 have hn:=h.num
 obtain ⟨_,hpl⟩:=W6 hp
 intro d hd
 unfold Wu at hd
 split at hd
 . unfold XN at hd
   split at hd
   . cases hd
   split at hd
   . obtain ⟨st,_,rfl⟩:=List.mem_map.1 hd
     simp
   . unfold W5 at hd
     obtain ⟨i,hi,rfl⟩:=List.getElem_of_mem hd
     simp only [List.length_zipWith] at hi
     rw [List.getElem_zipWith]
     have hb:=(ZwP (x:=x) (slabs:=p.slabs) (l:=Zz s p.legs) h.beast.1 h.beast.2).1 _ (List.getElem_mem (show i < _ by omega))
     simp only [ZbP]
     have h1:0<=p.animals * ((goF s x p.slabs (Zz s p.legs)).2.2[i]'(by omega)).1:=Int.mul_nonneg hpl.1 hb.1
     have h2:p.animals * ((goF s x p.slabs (Zz s p.legs)).2.2[i]'(by omega)).1<=30 * 1000000:=Int.mul_le_mul (by omega) hb.2 hb.1 (by decide)
     omega
 . cases hd
theorem Ziw {s:Season} {p:Plan} {x:Scene} (hg:p.legs.length<=1000):(Wu s p x).length<=1000:=by
 have h1:(Zz s p.legs).length<=1000:=Nat.le_trans Uo hg
 unfold Wu XN
 split
 . split
   . simp
   split
   . simp;omega
   . simp only [W5,List.length_zipWith];omega
 . simp
end Go.Azalai
namespace Go.Proofs.YtiigiflofnjilaaGreat
open Go Go.Sx Go.Azalai
theorem ZsG (s:Season) (h:OkS s) (a:List Int) (ha:(YI s.land s.start [s.start] a).isSome=true) (hg:a.length<=1000) (k:Int) (hk:0<=k/\k<=12) :
 Ct Tryz.prog 66 [.agg (Zr s),.sl false 1 (a.map Zo),I k] (I (Zeu s a k)):=by
 have hnum:=h.num
 have hsc:=h.scs
 have hp:Xu s ⟨a,1,k⟩=true:=by
  simp only [Xu,ha,inR,Bool.true_and,Bool.and_eq_true,decide_eq_true_eq];omega
 refine tw66.1 (by simp [Zr,Zj,Ze,Zm,Zg,Zd,Zo,Za,KFL,KF]) (by simp [KFL,KF]) ?_
 dsimp only [cw66,rw66,Zr,go_sem,rA,rM,rS]
 simp only [List.length_map]
 refine Ws [1,2,3,7,18,19] rfl (fun q:Nat × Int=>[(19,I q.1),(7,I q.2)]) (fun _=>[])
  (fun q=>q.1<=s.scenes.length/\ZqQ s a k (s.scenes.drop q.1) q.2=Zeu s a k/\0<=q.2/\q.2<=30) (fun q=>s.scenes.length - q.1) (0,s.herd) ⟨Nat.zero_le _,rfl,by simp only;omega,by simp only;omega⟩ ?_ ?_
 . (refine Zl ?_ ?_ ?_ rfl rfl<;>dsimp only [Ze,Zm,Zg,Zj,Zd,Zo,id,go_sem,rA,rM,rS]<;>simp [Ze,Zm,Zg,Zj,Zd,Zo,Za,Zf,KFR,KFL,KF,Zc,mtO,nbr])
 rintro ⟨j,n⟩ ⟨hj,hi,hn0,hn1⟩
 simp only at hj hi hn0 hn1
 dsimp only [go_sem,rA,rM,rS]
 by_cases hlt:j < s.scenes.length
 case neg =>
  refine Zv (by simp;omega) ?_
  dsimp only [go_sem,rA,rM,rS]
  rw [List.drop_eq_nil_of_le (by omega),ZqQ] at hi
  rw [hi]
 refine Zu (by simpa using hlt) ?_
 dsimp only [go_sem,rA,rM,rS]
 have ht:=ZhU s h j hlt ⟨a,1,k⟩ hp hg
 have hx:=h.scene _ (List.getElem_mem hlt)
 have hy:s.scenes[j].yields.length=s.land.wells.length:=by simp only [Yg,Bool.and_eq_true,decide_eq_true_eq] at hx;omega
 have hwat:=ZeR (x:=s.scenes[j]) h hp
 have hlen:=Ziw (s:=s) (p:=⟨a,1,k⟩) (x:=s.scenes[j]) hg
 rw [List.drop_eq_getElem_cons hlt,ZqQ] at hi
 generalize Wu s ⟨a,1,k⟩ s.scenes[j]=D at ht hi hwat hlen
 generalize Xk s ⟨a,1,k⟩ s.scenes[j]=w at ht hi
 refine YM [] ht rfl rfl rfl ?_ ?_ ?_
 . exact Zc (by simp [Yl,ZB,Ze,Zm,Zg,Zj,Zd,Zo,Zy,Za,KFL,KF])
 . trivial
 rintro _ rfl
 (repeat first | dsimp only [Zrg,go_sem,rA,rM,rS] | simp only [nbr])
 by_cases hw0:w.1=0
 case neg =>
  refine Zu (by simpa using hw0) ?_
  dsimp only [go_sem,rA,rM,rS]
  rw [if_pos hw0] at hi
  rw [<- hi]
 refine Zv (by simpa using hw0) ?_
 dsimp only [go_sem,rA,rM,rS]
 rw [if_neg (by simpa using hw0)] at hi
 simp only [List.length_map]
 refine Ws [1,2,3,7,9,18,19,36,37,38] rfl (fun q:Nat × Int=>[(38,I q.1),(7,I q.2)]) (fun _=>[])
  (fun q=>q.1<=D.length/\Zhk s s.scenes[j] (D.drop q.1) q.2=Zhk s s.scenes[j] D n/\0<=q.2/\q.2<=30) (fun q=>D.length - q.1) (0,n) ⟨Nat.zero_le _,rfl,hn0,hn1⟩ ?_ ?_
 . (refine Zl ?_ ?_ ?_ rfl rfl<;>dsimp only [Yl,Ze,Zm,Zg,Zj,Zd,Zo,Zy,Z0,id,go_sem,rA,rM,rS]<;>simp [Yl,Ze,Zm,Zg,Zj,Zd,Zo,Zy,Z0,Za,Zf,KFR,KFL,KF,Zc,mtO,nbr])
 rintro ⟨i,m⟩ ⟨hi0,hi1,hm0,hm1⟩
 simp only at hi0 hi1 hm0 hm1
 dsimp only [go_sem,rA,rM,rS]
 by_cases hilt:i < D.length
 case neg =>
  refine Zv (by simp;omega) ?_
  dsimp only [go_sem,rA,rM,rS]
  rw [List.drop_eq_nil_of_le (by omega),Zhk] at hi1
  rw [Zi (n:=(j:Int)+1) (by omega) (by omega)]
  refine ⟨(j+1,m),⟨hlt,by simp only;rw [hi1];exact hi,hm0,hm1⟩,by simp only;omega,?_⟩
  (refine Zl ?_ ?_ ?_ rfl rfl<;>dsimp only [Yl,Ze,Zm,Zg,Zj,Zd,Zo,Zy,Z0,id,go_sem,rA,rM,rS]<;>simp [Yl,Ze,Zm,Zg,Zj,Zd,Zo,Zy,Z0,Za,Zf,KFR,KFL,KF,Zc,mtO,nbr])
 refine Zu (by simpa using hilt) ?_
 dsimp only [go_sem,rA,rM,rS]
 refine Zp i hilt rfl ?_
 dsimp only [Z0,go_sem,rA,rM,rS]
 rw [List.drop_eq_getElem_cons hilt,Zhk] at hi1
 have hw:=hwat _ (List.getElem_mem hilt)
 have hnext:IntKind.i64.wrap ((i:Int)+1)=((i+1:Nat):Int):=by rw [Zi (by omega) (by omega)];omega
 by_cases hpos:D[i].water > 0
 . refine Zu (by simpa using hpos) ?_
   dsimp only [go_sem,rA,rM,rS]
   refine call (Zq6 s h.small j hlt hy ⟨0,D[i].well,⟨0,0⟩,⟨D[i].day,0⟩⟩) ?_
   dsimp only [go_sem,rA,rM,rS]
   refine ZqR (by omega) ?_
   have h1:=ZqX (s:=s) (x:=s.scenes[j]) ⟨0,D[i].well,⟨0,0⟩,⟨D[i].day,0⟩⟩
   have h2:=Zxv (s:=s) (x:=s.scenes[j]) ⟨0,D[i].well,⟨0,0⟩,⟨D[i].day,0⟩⟩
   have h3:=Wa (d:=D[i].water) h1 h2 (by omega)
   dsimp only [go_sem,rA,rM,rS]
   rw [Zi (n:=(ZaP s s.scenes[j] ⟨0,D[i].well,⟨0,0⟩,⟨D[i].day,0⟩⟩).tdiv D[i].water) (by omega) (by omega),hnext]
   rw [if_pos hpos] at hi1
   refine ⟨(i+1,min m ((ZaP s s.scenes[j] ⟨0,D[i].well,⟨0,0⟩,⟨D[i].day,0⟩⟩).tdiv D[i].water)),⟨hilt,hi1,by simp only;omega,by simp only;omega⟩,by simp only;omega,?_⟩
   (refine Zl ?_ ?_ ?_ rfl rfl<;>dsimp only [Yl,Ze,Zm,Zg,Zj,Zd,Zo,Zy,Z0,id,go_sem,rA,rM,rS]<;>simp [Yl,Ze,Zm,Zg,Zj,Zd,Zo,Zy,Z0,Za,Zf,KFR,KFL,KF,Zc,mtO,nbr])
 . refine Zv (by simpa using hpos) ?_
   dsimp only [go_sem,rA,rM,rS]
   rw [hnext]
   rw [if_neg hpos] at hi1
   refine ⟨(i+1,m),⟨hilt,hi1,hm0,hm1⟩,by simp only;omega,?_⟩
   (refine Zl ?_ ?_ ?_ rfl rfl<;>dsimp only [Yl,Ze,Zm,Zg,Zj,Zd,Zo,Zy,Z0,id,go_sem,rA,rM,rS]<;>simp [Yl,Ze,Zm,Zg,Zj,Zd,Zo,Zy,Z0,Za,Zf,KFR,KFL,KF,Zc,mtO,nbr])
def Vf (b:Bst):List SV:=[I b.w,I (-b.an),I (-b.sl),I (-(b.legs.length:Int))]
theorem mapW (a:List Nat):(Y7 a).map Zo=a.map Ye:=by simp [Y7,Ye,Zo]
theorem ZfP (a:List Nat):(Y7 a).length=a.length:=by simp [Y7]
structure SmB (b:Bst):Prop where
 len:b.legs.length<=1000
 an:0<=b.an/\b.an<=30
 sl:0<=b.sl/\b.sl<=12
theorem ZdY (b:Bst) (hb:SmB b):Ct Tryz.prog 64 [.agg (ZB b.plan),I b.w] (.agg (Vf b)):=by
 obtain ⟨h1,h2,h3⟩:=hb
 refine t64.1 (by simp [ZB,Bst.plan,Zo,Za,KFL,KF]) (by simp [Vf,KFL,KF]) ?_
 dsimp only [c64,r64,ZB,Bst.plan,Vf,go_sem,rA,rM,rS]
 simp only [List.length_map,ZfP]
 rw [Int.zero_sub,Int.zero_sub,Int.zero_sub,Zi (n:=-b.an) (by omega) (by omega),Zi (n:=-b.sl) (by omega) (by omega),Zi (n:=-(b.legs.length:Int)) (by omega) (by omega)]
theorem Zig (q p:Bst) (hq:SmB q) (hp:SmB p):Ct Tryz.prog 67 [.agg (ZB q.plan),.agg (Vf q),.agg (ZB p.plan),.agg (Vf p)] (B (Yk q p)):=by
 have hq1:=hq.len
 have hp1:=hp.len
 refine t67.1 (by simp [ZB,Bst.plan,Zo,Za,Vf,KFL,KF]) (by simp [KFL,KF]) ?_
 dsimp only [c67,r67,ZB,Bst.plan,Vf,go_sem,rA,rM,rS]
 by_cases e:q.w=p.w/\q.an=p.an/\q.sl=p.sl/\q.legs.length=p.legs.length
 . obtain ⟨e1,e2,e3,e4⟩:=e
   refine Zu (by simp [e1,e2,e3,e4]) ?_
   dsimp only [go_sem,rA,rM,rS]
   have hc:=ZgO q.legs p.legs (by omega) (by omega)
   simp only [ZZ,<- mapW] at hc
   refine call hc ?_
   dsimp only [go_sem,rA,rM,rS]
   rw [Zfm]
   simp [Yk,e1,e2,e3,e4]
 refine Zv (by simp;omega) ?_
 dsimp only [go_sem,rA,rM,rS]
 refine Xh 5 ?_
 dsimp only [Zb,go_sem,rA,rM,rS]
 refine Zu (by decide) ?_
 dsimp only [Zb,go_sem,rA,rM,rS]
 repeat (refine ixa 0 rfl (by decide) ?_;dsimp only [Zb,go_sem,rA,rM,rS])
 by_cases e1:q.w=p.w
 case neg =>
  refine Zu (by simpa using e1) ?_
  dsimp only [Zb,go_sem,rA,rM,rS]
  repeat (refine ixa 0 rfl (by decide) ?_;dsimp only [Zb,go_sem,rA,rM,rS])
  simp [Yk,e1]
 refine Zv (by simpa using e1) ?_
 dsimp only [Zb,go_sem,rA,rM,rS]
 refine Zu (by decide) ?_
 dsimp only [Zb,go_sem,rA,rM,rS]
 repeat (refine ixa 1 rfl (by decide) ?_;dsimp only [Zb,go_sem,rA,rM,rS])
 by_cases e2:q.an=p.an
 case neg =>
  refine Zu (by simp;omega) ?_
  dsimp only [Zb,go_sem,rA,rM,rS]
  repeat (refine ixa 1 rfl (by decide) ?_;dsimp only [Zb,go_sem,rA,rM,rS])
  have:decide (-q.an > -p.an)=decide (q.an < p.an):=by rw [decide_eq_decide];omega
  simp [Yk,e1,e2]
 refine Zv (by simp;omega) ?_
 dsimp only [Zb,go_sem,rA,rM,rS]
 refine Zu (by decide) ?_
 dsimp only [Zb,go_sem,rA,rM,rS]
 repeat (refine ixa 2 rfl (by decide) ?_;dsimp only [Zb,go_sem,rA,rM,rS])
 by_cases e3:q.sl=p.sl
 case neg =>
  refine Zu (by simp;omega) ?_
  dsimp only [Zb,go_sem,rA,rM,rS]
  repeat (refine ixa 2 rfl (by decide) ?_;dsimp only [Zb,go_sem,rA,rM,rS])
  simp [Yk,e1,e2,e3]
 refine Zv (by simp;omega) ?_
 dsimp only [Zb,go_sem,rA,rM,rS]
 refine Zu (by decide) ?_
 dsimp only [Zb,go_sem,rA,rM,rS]
 repeat (refine ixa 3 rfl (by decide) ?_;dsimp only [Zb,go_sem,rA,rM,rS])
 have e4:¬ q.legs.length=p.legs.length:=fun e4=>e ⟨e1,e2,e3,e4⟩
 refine Zu (by simp;omega) ?_
 dsimp only [Zb,go_sem,rA,rM,rS]
 repeat (refine ixa 3 rfl (by decide) ?_;dsimp only [Zb,go_sem,rA,rM,rS])
 simp [Yk,e1,e2,e3,e4]
end Go.Proofs.YtiigiflofnjilaaGreat
namespace Go.Sx
open Go Go.RowKit
theorem Zko {m:Nat} {σ : St} (k:Nat) {l l':List SV} {T':TypeId} (hk:lkh k σ.hp = .cells l T') (hw:∀ (w:World) (E:Env) (n ok:Nat->Prop) (ys:List Value),RL w E n ok l ys->RL w E n ok l' ys) :
 Ent m σ ⟨σ.fr,(k,.cells l' T') :: σ.hp,σ.n,σ.N,σ.gs⟩:=fun C E a w _ h=>by
 have hocc:∀ b,occ E k (.cells l' T') b↔occ E k (lkh k σ.hp) b:=fun b=>by rw [hk];rfl
 obtain ⟨h6,h7⟩:=WL (hb:=.cells l' T') (B:=E.β k) h.hs hocc (by rw [hk];rfl) ⟨rfl,rfl,rfl,rfl,fun _ _=>rfl⟩ (fun hst=>by
  have hb:=h.hs.bk k
  rw [hk] at hb
  simp only [Z6] at hb ⊢
  obtain ⟨cs,e1,e2⟩:=hb
  exact ⟨cs,e1,hw _ _ _ _ _ (ZE hst (fun _ _=>Ele.rfl) (fun _ h=>h) _ _ e2)⟩)
 exact ⟨E,fun u=>Xj h7 (fun _ _=>Ele.rfl) (fun _ h=>h) (fun _ _ _ _=>Iff.rfl) (h.fr u),h.sz,XT h7 h.df,h.gs,h6⟩
end Go.Sx
namespace Go.Proofs.YtiigiflofnjilaaGreat
open Go Go.Sx Go.Azalai
def Zr4 (r:Plan × Int × Int):SV:=.tup [.agg (ZB r.1),I r.2.1,I r.2.2]
theorem ZsX (w:Int):Ct Tryz.prog 64 [.agg [.v (.slice none 0 0),I 0,I 0],I w] (.agg [I w,I 0,I 0,I 0]) :=
 (ZdY ⟨[],0,0,w⟩ ⟨by simp,by simp,by simp⟩).args (by simp [KFL,KF]) (ZO (Vo (ZO YA XV)) XV)
theorem Zsp {s:Season} {to:Int} {a:List Nat} {k n:Int} (ha:a.length<=1000) (hn:0<=n/\n<=30) (hk:0<=k/\k<=12):SmB (XF s to a k n):=⟨ha,hn,hk⟩
theorem u25 {args:List SV} {res:SV} (ka:KFL args) (kr:KF res) (h:sx Tryz.prog Y0 0 c25 (st0 args 97) (ZlT r25 res)) (hA:Nat.ble args.length 97=true:=by rfl):Ct Tryz.prog 25 args res:=Wf Tryz.func25 rfl b25 ZxE Zw6 n25 (Nat.le_of_ble_eq_true hA) ka kr h
theorem Ztn (s:Season) (hs:SmallS s):Ct Tryz.prog 25 [.agg (Zr s)] (Zr4 (ZgG s)):=by
 refine u25 (by simp [Zr,Zj,Ze,Zm,Zg,Zd,Zo,Za,KFL,KF]) (by simp [Zr4,ZB,Zo,Za,KFL,KF]) ?_
 dsimp only [c25,r25,Zr,go_sem,rA,rM,rS]
 refine call (ZaK s hs) ?_
 dsimp only [go_sem,rA,rM,rS]
 by_cases ho:ZA s=true
 case neg =>
  refine Zu (by simp [ho]) ?_
  dsimp only [go_sem,rA,rM,rS]
  refine ⟨_,rfl,?_⟩
  rw [show ZgG s=(⟨[],0,0⟩,0,90) from by unfold ZgG;exact if_pos (by simpa using ho),if_neg ho]
  exact X1 (ZO (Vo (ZO YA XV)) XV)
 refine Zv (by simp [ho]) ?_
 dsimp only [go_sem,rA,rM,rS]
 have h:OkS s:=⟨hs,ho⟩
 have hn:=h.num
 have hw0:0<=s.herd * s.sale/\s.herd * s.sale<=30 * 1000000:=⟨Int.mul_nonneg (by omega) (by omega),Int.mul_le_mul (by omega) (by omega) (by omega) (by decide)⟩
 rw [Zi (n:=s.herd * s.sale) (by omega) (by omega)]
 refine call (ZsX (s.herd * s.sale)) ?_
 dsimp only [go_sem,rA,rM,rS]
 simp only [List.length_map]
 have hR:ZgG s=match Zu5 s with | none=>(⟨[],0,0⟩,0,9) | some b=>(b.plan,b.w,0):=by unfold ZgG;exact if_neg (by simp [ho])
 have hwl:=h.land
 simp only [ZM,inR,Bool.and_eq_true,decide_eq_true_eq] at hwl
 refine Zc7 (Yo (Vv [1,2,3,6,34,35] rfl) (Zko 1 (l':=ZB ⟨[],0,0⟩) rfl (ZO YA XV)))
  (fun q:Nat × Bst=>[(35,I q.1),(3,I q.2.w)]) (fun q=>[(1,.cells (ZB q.2.plan) 37),(2,.cells (Vf q.2) 142)])
  (fun q=>q.1<=s.land.wells.length/\ZdI s ((List.range s.land.wells.length).drop q.1) q.2=Zu5 s/\SmB q.2) (fun q=>s.land.wells.length - q.1) (0,⟨[],0,0,s.herd * s.sale⟩)
  ⟨Nat.zero_le _,rfl,⟨by simp,by simp,by simp⟩⟩ ?_ ?_
 . (refine Zl ?_ ?_ ?_ rfl rfl<;>dsimp only [ZB,Vf,Bst.plan,Y7,Ze,Zm,Zg,Zj,Zd,Zo,id,go_sem,rA,rM,rS]<;>simp [ZB,Vf,Bst.plan,Y7,Ze,Zm,Zg,Zj,Zd,Zo,Za,Zf,KFR,KFL,KF,Zc,mtO,nbr])
 rintro ⟨g,b⟩ ⟨hg,hi,hb⟩
 simp only at hg hi hb
 dsimp only [ZB,Vf,go_sem,rA,rM,rS]
 by_cases hlt:g < s.land.wells.length
 case neg =>
  refine Zv (by simp;omega) ?_
  dsimp only [go_sem,rA,rM,rS]
  rw [List.drop_eq_nil_of_le (by simp;omega),ZdI] at hi
  rw [hR,<- hi]
  exact ⟨_,rfl,fun _ _ _ _ _ h=>h⟩
 refine Zu (by simpa using hlt) ?_
 dsimp only [go_sem,rA,rM,rS]
 have hwy:=Znr s.land hs.land s.start g s.day s.till s.pace
 rw [List.drop_eq_getElem_cons (by simpa using hlt),List.getElem_range,ZdI] at hi
 by_cases hE:ZcC s.land s.pace s.start g s.day s.till=0
 case neg =>
  simp only [ZcA,XB,if_neg hE] at hwy
  refine call hwy ?_
  dsimp only [go_sem,rA,rM,rS]
  refine Zu (by simpa using hE) ?_
  dsimp only [go_sem,rA,rM,rS]
  rw [if_pos hE] at hi
  rw [hR,<- hi]
  refine ⟨_,rfl,?_⟩
  exact X1 (ZO (Vo (ZO YA XV)) XV)
 simp only [ZcA,XB,if_pos hE] at hwy
 refine call hwy ?_
 dsimp only [go_sem,rA,rM,rS]
 refine Zv (by simpa using hE) ?_
 dsimp only [go_sem,rA,rM,rS]
 rw [if_neg (by simpa using hE)] at hi
 simp only [List.length_map]
 have hmem:∀ a ∈ US s.land s.pace s.start g s.day s.till,YI s.land s.start [s.start] (Y7 a)=some (g:Int)/\a.length<=24:=fun a ha=>by
  have h1:=((Zm2 h).1 ha).1
  exact ⟨h1,by simpa [Y7] using (lenS h h1).2⟩
 have hwlen:(US s.land s.pace s.start g s.day s.till).length<=1000:=by
  unfold ZcC at hE
  split at hE
  . rename_i q;exact absurd hE q
  split at hE
  . simp at hE
  split at hE
  . simp at hE
  . rename_i q;unfold US;omega
 generalize US s.land s.pace s.start g s.day s.till=W at hi hmem hwlen ⊢
 refine Ws [1,2,3,6,7,34,35,56,57,58] rfl (fun q:Nat × Bst=>[(58,I q.1),(3,I q.2.w)]) (fun q=>[(1,.cells (ZB q.2.plan) 37),(2,.cells (Vf q.2) 142)])
  (fun q=>q.1<=W.length/\(W.drop q.1).foldl (Zyg s g) q.2=W.foldl (Zyg s g) b/\SmB q.2) (fun q=>W.length - q.1) (0,b) ⟨Nat.zero_le _,rfl,hb⟩ ?_ ?_
 . (refine Zl ?_ ?_ ?_ rfl rfl<;>dsimp only [ZB,Bst.plan,Vf,XF,Yq,ZZ,Ye,Y7,Ze,Zm,Zg,Zj,Zd,Zo,id,go_sem,rA,rM,rS]<;>simp [ZB,Bst.plan,Vf,XF,Yq,ZZ,Ye,Y7,Ze,Zm,Zg,Zj,Zd,Zo,Za,Zf,KFR,KFL,KF,Zc,mtO,nbr])
 rintro ⟨i,b1⟩ ⟨hi1,hf1,hb1⟩
 simp only at hi1 hf1 hb1
 dsimp only [ZB,Bst.plan,Vf,go_sem,rA,rM,rS]
 by_cases hilt:i < W.length
 case neg =>
  refine Zv (by simp;omega) ?_
  dsimp only [go_sem,rA,rM,rS]
  rw [List.drop_eq_nil_of_le (by omega),List.foldl_nil] at hf1
  rw [Zi (n:=(g:Int)+1) (by omega) (by omega)]
  refine ⟨(g+1,b1),⟨hlt,by simp only;rw [hf1];exact hi,hb1⟩,by simp only;omega,?_⟩
  (refine Zl ?_ ?_ ?_ rfl rfl<;>dsimp only [ZB,Bst.plan,Vf,XF,Yq,ZZ,Ye,Y7,Ze,Zm,Zg,Zj,Zd,Zo,id,go_sem,rA,rM,rS]<;>simp [ZB,Bst.plan,Vf,XF,Yq,ZZ,Ye,Y7,Ze,Zm,Zg,Zj,Zd,Zo,Za,Zf,KFR,KFL,KF,Zc,mtO,nbr])
 refine Zu (by simpa using hilt) ?_
 dsimp only [go_sem,rA,rM,rS]
 refine Zp i hilt rfl ?_
 rw [List.drop_eq_getElem_cons hilt,List.foldl_cons] at hf1
 obtain ⟨hto,hal⟩:=hmem _ (List.getElem_mem hilt)
 generalize W[i]=a at hf1 hto hal ⊢
 simp only [Yq,ZZ,<- mapW]
 dsimp only [go_sem,rA,rM,rS]
 refine Ws [1,2,3,6,7,11,34,35,56,57,58,62] rfl (fun q:Nat × Bst=>[(62,I q.1),(3,I q.2.w)]) (fun q=>[(1,.cells (ZB q.2.plan) 37),(2,.cells (Vf q.2) 142)])
  (fun q=>q.1<=13/\((List.range 13).drop q.1).foldl (ZmF s g a) q.2=Zyg s g b1 a/\SmB q.2) (fun q=>13 - q.1) (0,b1) ⟨Nat.zero_le _,rfl,hb1⟩ ?_ ?_
 . (refine Zl ?_ ?_ ?_ rfl rfl<;>dsimp only [ZB,Bst.plan,Vf,XF,Yq,ZZ,Ye,Y7,Ze,Zm,Zg,Zj,Zd,Zo,id,go_sem,rA,rM,rS]<;>simp [ZB,Bst.plan,Vf,XF,Yq,ZZ,Ye,Y7,Ze,Zm,Zg,Zj,Zd,Zo,Za,Zf,KFR,KFL,KF,Zc,mtO,nbr])
 rintro ⟨k,b2⟩ ⟨hk1,hf2,hb2⟩
 simp only at hk1 hf2 hb2
 dsimp only [ZB,Bst.plan,Vf,go_sem,rA,rM,rS]
 by_cases hk:k < 13
 case neg =>
  refine Zv (by simp;omega) ?_
  dsimp only [go_sem,rA,rM,rS]
  rw [List.drop_eq_nil_of_le (by simp;omega),List.foldl_nil] at hf2
  rw [Zi (n:=(i:Int)+1) (by omega) (by omega)]
  refine ⟨(i+1,b2),⟨hilt,by simp only;rw [hf2];exact hf1,hb2⟩,by simp only;omega,?_⟩
  (refine Zl ?_ ?_ ?_ rfl rfl<;>dsimp only [ZB,Bst.plan,Vf,XF,Yq,ZZ,Ye,Y7,Ze,Zm,Zg,Zj,Zd,Zo,id,go_sem,rA,rM,rS]<;>simp [ZB,Bst.plan,Vf,XF,Yq,ZZ,Ye,Y7,Ze,Zm,Zg,Zj,Zd,Zo,Za,Zf,KFR,KFL,KF,Zc,mtO,nbr])
 refine Zu (by simp;omega) ?_
 dsimp only [go_sem,rA,rM,rS]
 refine call (ZsG s h (Y7 a) (by rw [hto];rfl) (by rw [ZfP];omega) k ⟨by omega,by omega⟩) ?_
 have hfb:=ZsO h (a:=Y7 a) (k:=(k:Int))
 rw [List.drop_eq_getElem_cons (by simpa using hk),List.getElem_range,List.foldl_cons] at hf2
 obtain ⟨F,hF⟩:∃ F:Nat,Zeu s (Y7 a) k=F:=⟨(Zeu s (Y7 a) k).toNat,by omega⟩
 have hsl:ZmF s g a b2 k=Zez s g a k F b2:=by simp only [ZmF,hF,Int.toNat_natCast]
 rw [hsl] at hf2
 rw [hF] at hfb ⊢
 dsimp only [go_sem,rA,rM,rS]
 refine Ws [1,2,3,6,7,11,12,13,34,35,56,57,58,62] rfl (fun q:Nat × Bst=>[(13,I q.1),(3,I q.2.w)]) (fun q=>[(1,.cells (ZB q.2.plan) 37),(2,.cells (Vf q.2) 142)])
  (fun q=>q.1<=F/\Zez s g a k q.1 q.2=Zez s g a k F b2/\SmB q.2) (fun q=>q.1) (F,b2) ⟨Nat.le_refl _,rfl,hb2⟩ ?_ ?_
 . (refine Zl ?_ ?_ ?_ rfl rfl<;>dsimp only [ZB,Bst.plan,Vf,XF,Yq,ZZ,Ye,Y7,Ze,Zm,Zg,Zj,Zd,Zo,id,go_sem,rA,rM,rS]<;>simp [ZB,Bst.plan,Vf,XF,Yq,ZZ,Ye,Y7,Ze,Zm,Zg,Zj,Zd,Zo,Za,Zf,KFR,KFL,KF,Zc,mtO,nbr])
 rintro ⟨n,b3⟩ ⟨hn1,hf3,hb3⟩
 simp only at hn1 hf3 hb3
 dsimp only [ZB,Bst.plan,Vf,go_sem,rA,rM,rS]
 by_cases h0:n=0
 . subst h0
   refine Zu (by simp) ?_
   dsimp only [go_sem,rA,rM,rS]
   rw [Zez] at hf3
   rw [Zi (n:=(k:Int)+1) (by omega) (by omega)]
   refine ⟨(k+1,b3),⟨by simp only;omega,by simp only;rw [hf3];exact hf2,hb3⟩,by simp only;omega,?_⟩
   (refine Zl ?_ ?_ ?_ rfl rfl<;>dsimp only [ZB,Bst.plan,Vf,XF,Yq,ZZ,Ye,Y7,Ze,Zm,Zg,Zj,Zd,Zo,id,go_sem,rA,rM,rS]<;>simp [ZB,Bst.plan,Vf,XF,Yq,ZZ,Ye,Y7,Ze,Zm,Zg,Zj,Zd,Zo,Za,Zf,KFR,KFL,KF,Zc,mtO,nbr])
 obtain ⟨m,rfl⟩:∃ m,n=m+1:=⟨n - 1,by omega⟩
 refine Zv (by simp;omega) ?_
 dsimp only [go_sem,rA,rM,rS]
 have hp:Xu s ⟨Y7 a,((m+1:Nat):Int),k⟩=true:=Zny hto ⟨by simp only;omega,by simp only;omega⟩ ⟨by simp only;omega,by simp only;omega⟩
 have hcs:SmB (XF s g a k ((m+1:Nat):Int)):=Zsp (by omega) ⟨by omega,by omega⟩ ⟨by omega,by omega⟩
 have hwo:=Zfn s h ⟨Y7 a,((m+1:Nat):Int),k⟩ hp g hlt
 simp only [ZB] at hwo
 refine call hwo ?_
 dsimp only [go_sem,rA,rM,rS]
 have hso:=ZdY (XF s g a k ((m+1:Nat):Int)) hcs
 simp only [ZB,Bst.plan,XF,Vf] at hso
 refine call hso ?_
 dsimp only [go_sem,rA,rM,rS]
 have hbo:=Zig (XF s g a k ((m+1:Nat):Int)) b3 hcs hb3
 simp only [ZB,Bst.plan,Vf] at hbo
 refine call hbo ?_
 dsimp only [go_sem,rA,rM,rS]
 rw [Zez] at hf3
 by_cases hbb:Yk (XF s g a k ((m+1:Nat):Int)) b3=true
 . refine Zu (by simpa using hbb) ?_
   dsimp only [go_sem,rA,rM,rS]
   rw [ZjC,if_pos hbb] at hf3
   rw [Zi (n:=(((m+1:Nat):Int)) - 1) (by omega) (by omega),show (((m+1:Nat):Int)) - 1=(m:Int) from by omega]
   refine ⟨(m,XF s g a k ((m+1:Nat):Int)),⟨by simp only;omega,hf3,hcs⟩,by simp only;omega,?_⟩
   (refine Zl ?_ ?_ ?_ rfl rfl<;>dsimp only [ZB,Bst.plan,Vf,XF,Yq,ZZ,Ye,Y7,Ze,Zm,Zg,Zj,Zd,Zo,id,go_sem,rA,rM,rS]<;>simp [ZB,Bst.plan,Vf,XF,Yq,ZZ,Ye,Y7,Ze,Zm,Zg,Zj,Zd,Zo,Za,Zf,KFR,KFL,KF,Zc,mtO,nbr])
 . refine Zv (by simpa using hbb) ?_
   dsimp only [go_sem,rA,rM,rS]
   rw [ZjC,if_neg hbb] at hf3
   rw [Zi (n:=(((m+1:Nat):Int)) - 1) (by omega) (by omega),show (((m+1:Nat):Int)) - 1=(m:Int) from by omega]
   refine ⟨(m,b3),⟨by simp only;omega,hf3,hb3⟩,by simp only;omega,?_⟩
   (refine Zl ?_ ?_ ?_ rfl rfl<;>dsimp only [ZB,Bst.plan,Vf,XF,Yq,ZZ,Ye,Y7,Ze,Zm,Zg,Zj,Zd,Zo,id,go_sem,rA,rM,rS]<;>simp [ZB,Bst.plan,Vf,XF,Yq,ZZ,Ye,Y7,Ze,Zm,Zg,Zj,Zd,Zo,Za,Zf,KFR,KFL,KF,Zc,mtO,nbr])
theorem Zng (s:Season) (hs:SmallS s):Ct Tryz.prog 27 [.agg (Zr s)] (.tup [I (Zbi s).1,I (Zbi s).2]):=by
 refine t27.1 (by simp [Zr,Zj,Ze,Zm,Zg,Zd,Zo,Za,KFL,KF]) (by simp [KFL,KF]) ?_
 dsimp only [c27,r27,Zr,go_sem,rA,rM,rS]
 refine call (ZaK s hs) ?_
 dsimp only [go_sem,rA,rM,rS]
 by_cases ho:ZA s=true
 case neg =>
  refine Zu (by simp [ho]) ?_
  dsimp only [go_sem,rA,rM,rS]
  simp [Zbi,ho]
 refine Zv (by simp [ho]) ?_
 dsimp only [go_sem,rA,rM,rS]
 have h:OkS s:=⟨hs,ho⟩
 have hn:=h.num
 have hst:=h.start
 have hs4:=h.scs
 have hbr:=Cm.breed_bd h.beast.1
 have hE:XZ s.land s.pace s.start s.day=0:=ZiF.2 ⟨h.land,h.pace,by simp only [inR,decide_eq_true_eq];omega,by simp only [inR,decide_eq_true_eq];omega⟩
 have hre:=ZdL s.land hs.land s.start s.day s.pace
 rw [hE] at hre
 simp only [XB,if_true] at hre
 refine call hre ?_
 dsimp only [go_sem,rA,rM,rS]
 refine ZqR (by omega) ?_
 dsimp only [go_sem,rA,rM,rS]
 have hk0:=Wa (a:=s.breed.strong.lo) (A:=1000000) (d:=s.slab) (by omega) (by omega) (by omega)
 rw [Zi (n:=s.breed.strong.lo.tdiv s.slab) (by omega) (by omega)]
 have hB:Zbi s=(Ze5 s,0):=by rw [Zbi,if_neg (by simp [ho])]
 rw [hB]
 unfold Ze5
 obtain ⟨k,hk⟩:∃ k,k=min 12 (s.breed.strong.lo.tdiv s.slab):=⟨_,rfl⟩
 rw [<- hk]
 have hk1:0<=k/\k<=12:=by omega
 simp only [List.length_map]
 have hRl:(Y8 s.land s.pace s.start s.day).length=s.land.wells.length:=Wp
 generalize Y8 s.land s.pace s.start s.day=Rr at hRl ⊢
 obtain ⟨W,hW⟩:∃ W,W=s.scenes.map (fun x=>s.herd * ZeX s x k Rr 0 s.sale):=⟨_,rfl⟩
 have hWl:W.length=s.scenes.length:=by rw [hW];simp
 rw [<- hW]
 have hwl:=h.land
 simp only [ZM,inR,Bool.and_eq_true,decide_eq_true_eq] at hwl
 refine Zc7 (Yo (Vv [1,5,7,8,40,41,42] rfl) (YC 8 1 3 rfl rfl)) (fun q:Nat × Nat=>[(42,I q.1),(8,.mr 1 q.2)])
  (fun q=>[(1,.row q.2 1 ((W.take q.1).map Zo) 3)]) (fun q=>q.1<=s.scenes.length) (fun q=>s.scenes.length - q.1) (0,0) (Nat.zero_le _) ?_ ?_
 . (refine Zl ?_ ?_ ?_ rfl rfl<;>dsimp only [Ze,Zm,Zg,Zj,Zd,Zo,Yd,id,go_sem,rA,rM,rS]<;>simp [Ze,Zm,Zg,Zj,Zd,Zo,Yd,Za,Zf,KFR,KFL,KF,Zc,mtO,nbr])
 rintro ⟨j,v⟩ hj
 simp only at hj
 dsimp only [go_sem,rA,rM,rS]
 by_cases hlt:j < s.scenes.length
 case neg =>
  refine Zv (by simp;omega) ?_
  dsimp only [go_sem,rA,rM,rS]
  rw [List.take_of_length_le (by omega)]
  refine gh (UQ 8 1 v rfl rfl rfl rfl) ?_
  dsimp only [go_sem,rA,rM,rS]
  refine call (Zjr W (by omega) (by omega) _) ?_
  dsimp only [go_sem,rA,rM,rS]
 refine Zu (by simpa using hlt) ?_
 dsimp only [go_sem,rA,rM,rS]
 refine Zp j hlt rfl ?_
 dsimp only [Zj,go_sem,rA,rM,rS]
 simp only [List.length_map]
 refine Ws [1,5,7,8,10,11,40,41,42,48,49,50] rfl (fun q:Nat × Int=>[(50,I q.1),(11,I q.2)]) (fun _=>[])
  (fun q=>q.1<=Rr.length/\ZeX s s.scenes[j] k (Rr.drop q.1) q.1 q.2=ZeX s s.scenes[j] k Rr 0 s.sale/\0<=q.2/\q.2<=12000000) (fun q=>Rr.length - q.1) (0,s.sale) ⟨Nat.zero_le _,rfl,by simp only;omega,by simp only;omega⟩ ?_ ?_
 . (refine Zl ?_ ?_ ?_ rfl rfl<;>dsimp only [Ze,Zm,Zg,Zj,Zd,Zo,Yd,id,go_sem,rA,rM,rS]<;>simp [Ze,Zm,Zg,Zj,Zd,Zo,Yd,Za,Zf,KFR,KFL,KF,Zc,mtO,nbr])
 rintro ⟨i,e⟩ ⟨hi0,hi1,he0,he1⟩
 simp only at hi0 hi1 he0 he1
 dsimp only [go_sem,rA,rM,rS]
 by_cases hilt:i < Rr.length
 case neg =>
  refine Zv (by simp;omega) ?_
  dsimp only [go_sem,rA,rM,rS]
  rw [List.drop_eq_nil_of_le (by omega),ZeX] at hi1
  refine gh YR ?_
  dsimp only [go_sem,rA,rM,rS]
  have hm:0<=s.herd * e/\s.herd * e<=30 * 12000000:=⟨Int.mul_nonneg (by omega) he0,Int.mul_le_mul (by omega) he1 he0 (by decide)⟩
  rw [Zi (n:=s.herd * e) (by omega) (by omega)]
  simp only [nbr]
  dsimp only [go_sem,rA,rM,rS]
  refine ⟨(by intro c hc;simp only [List.mem_singleton] at hc;subst hc;rfl),by simp;omega,?_⟩
  dsimp only [go_sem,rA,rM,rS]
  refine gh YR ?_
  dsimp only [go_sem,rA,rM,rS]
  rw [Zi (n:=(j:Int)+1) (by omega) (by omega)]
  refine ⟨(j+1,v+1),hlt,by simp only;omega,?_⟩
  simp only
  have hWj:s.herd * e=W[j]'(by omega):=by simp [hW,hi1]
  rw [hWj,List.take_succ_eq_append_getElem (by omega)]
  simp only [List.map_append,List.map_cons,List.map_nil]
  (refine Zl ?_ ?_ ?_ rfl rfl<;>dsimp only [Ze,Zm,Zg,Zj,Zd,Zo,Yd,id,go_sem,rA,rM,rS]<;>simp [Ze,Zm,Zg,Zj,Zd,Zo,Yd,Za,Zf,KFR,KFL,KF,Zc,mtO,nbr])
 refine Zu (by simpa using hilt) ?_
 dsimp only [go_sem,rA,rM,rS]
 refine Zp i hilt rfl ?_
 dsimp only [Zd,go_sem,rA,rM,rS]
 rw [List.drop_eq_getElem_cons hilt,ZeX] at hi1
 have hnext:IntKind.i64.wrap ((i:Int)+1)=((i+1:Nat):Int):=by rw [Zi (by omega) (by omega)];omega
 by_cases hr:Rr[i].hi<=s.till
 . refine Zu (by simpa using hr) ?_
   dsimp only [go_sem,rA,rM,rS]
   obtain ⟨hq,hpr⟩:=Zcv h hlt (m:=i) (by omega)
   refine Zp i hq rfl ?_
   dsimp only [Zo,go_sem,rA,rM,rS]
   have hpp:=ZhH (A:=k) (B:=12) (d:=s.scenes[j].prices[i] - s.cost) (M:=1000000) hk1.1 hk1.2 (by decide) (by omega)
   rw [Zi (n:=s.scenes[j].prices[i] - s.cost) (by omega) (by omega),Zi (n:=k * (s.scenes[j].prices[i] - s.cost)) (by omega) (by omega),hnext]
   rw [if_pos hr,List.getElem?_eq_getElem hq,Option.getD_some] at hi1
   refine ⟨(i+1,max e (k * (s.scenes[j].prices[i] - s.cost))),⟨hilt,hi1,by simp only;omega,by simp only;omega⟩,by simp only;omega,?_⟩
   (refine Zl ?_ ?_ ?_ rfl rfl<;>dsimp only [Ze,Zm,Zg,Zj,Zd,Zo,Yd,id,go_sem,rA,rM,rS]<;>simp [Ze,Zm,Zg,Zj,Zd,Zo,Yd,Za,Zf,KFR,KFL,KF,Zc,mtO,nbr])
 . refine Zv (by simpa using hr) ?_
   dsimp only [go_sem,rA,rM,rS]
   rw [hnext]
   rw [if_neg hr] at hi1
   refine ⟨(i+1,e),⟨hilt,hi1,he0,he1⟩,by simp only;omega,?_⟩
   (refine Zl ?_ ?_ ?_ rfl rfl<;>dsimp only [Ze,Zm,Zg,Zj,Zd,Zo,Yd,id,go_sem,rA,rM,rS]<;>simp [Ze,Zm,Zg,Zj,Zd,Zo,Yd,Za,Zf,KFR,KFL,KF,Zc,mtO,nbr])
end Go.Proofs.YtiigiflofnjilaaGreat
namespace Go.Sx
open Go Go.RowKit
def RLW (l l':List SV):Prop:=∀ (w:World) (E:Env) (n ok:Nat->Prop) (ys:List Value),RL w E n ok l ys->RL w E n ok l' ys
theorem Zc0 {l:List SV}:RLW l l:=fun _ _ _ _ _ h=>h
theorem Zq {s s':SV} {l l':List SV} (h1:Y6 s s') (h2:RLW l l'):RLW (s :: l) (s' :: l'):=ZO h1 h2
def RRW:List (List SV)->List (List SV)->Prop
 | [],[]=>True
 | r :: xs,r' :: xs'=>RLW r r'/\r'.length=r.length/\RRW xs xs'
 | _,_=>False
theorem Zcz:∀ {xs xs':List (List SV)},RRW xs xs'->xs'.length=xs.length
 | [],[],_=>rfl
 | _ :: xs,_ :: xs',h=>by simp [Zcz h.2.2]
 | [],_ :: _,h=>h.elim
 | _ :: _,[],h=>h.elim
theorem ZqO {w:World} {E:Env} {n ok:Nat->Prop} {b m:Nat}:∀ {xs xs':List (List SV)} {off:Nat},RRW xs xs'->RR w E n ok b m xs off->RR w E n ok b m xs' off
 | [],[],_,_,h=>h
 | r :: xs,r' :: xs',off,hw,h=>by
  simp only [RR] at h ⊢
  obtain ⟨h0,⟨cs,h1,h2⟩,h3⟩:=h
  exact ⟨by rw [hw.2.1];exact h0,⟨cs,hw.1 _ _ _ _ _ h1,h2⟩,ZqO hw.2.2 h3⟩
 | [],_ :: _,_,h,_=>h.elim
 | _ :: _,[],_,h,_=>h.elim
theorem Ztj {c:Bool} {m:Nat} {xs xs':List (List SV)} (h:RRW xs xs'):Y6 (.sl c m xs) (.sl false m xs'):=fun w E n ok y hy=>by
 simp only [R] at hy ⊢
 obtain ⟨a,len,cap,h1,h2,h3,h4,h5⟩:=hy
 refine ⟨a,len,cap,h1,by rw [Zcz h];exact h2,⟨h3.1,fun h=>by cases h⟩,by rw [Zcz h];exact h4,?_⟩
 rcases h5 with h5 | ⟨b,off,h5,h6⟩
 . left
   have:=Zcz h
   rw [h5] at this
   exact List.eq_nil_of_length_eq_zero this
 . exact .inr ⟨b,off,h5,ZqO h h6⟩
end Go.Sx
namespace Go.Azalai
open Go.Sx Go.Proofs.YtiigiflofnjilaaGreat
def Xb:Season :=
 ⟨⟨[⟨0,0,0,⟨0,0⟩,0,⟨0,0⟩,0⟩,⟨0,0,0,⟨0,0⟩,1000000,⟨0,0⟩,0⟩,⟨0,0,0,⟨0,0⟩,0,⟨0,0⟩,0⟩],
  [⟨0,1,⟨40000,40000⟩,[⟨⟨0,0⟩,⟨99,99⟩⟩]⟩,⟨1,2,⟨40000,40000⟩,[⟨⟨0,0⟩,⟨99,99⟩⟩]⟩,⟨0,2,⟨100000,100000⟩,[⟨⟨0,0⟩,⟨99,99⟩⟩]⟩]⟩,
  ⟨20000,20000⟩,⟨100000,50000,⟨5000,5000⟩,⟨0,0⟩,⟨1000,1000⟩,⟨100,100⟩,⟨0,0⟩,⟨0,0⟩,0,⟨200000,200000⟩⟩,⟨⟨100000,100000⟩,⟨50000,50000⟩,⟨0,0⟩,false⟩,
  10,10,50000,10,60,0,0,20,[⟨⟨0,0⟩,⟨0,0⟩,[⟨0,0⟩,⟨50000,50000⟩,⟨0,0⟩],[10,12,40]⟩]⟩
theorem YY:SmallS Xb:=ZbA (by decide +kernel)
theorem Zkg:ZA Xb=true:=by decide +kernel
theorem ZoE:OkS Xb:=⟨YY,Zkg⟩
theorem ZrC:Z5 Xb ⟨[0,1],2,2⟩=(0,0,0,0):=by decide +kernel
theorem Zud:Z5 Xb ⟨[0,1],3,2⟩=(4,0,0,0):=by decide +kernel
theorem Zt1:Z5 Xb ⟨[2],10,1⟩=(0,0,0,0):=by decide +kernel
theorem Zhb:Zch Xb ⟨[0,1],2,2⟩=(600,0):=by decide +kernel
theorem ZgN:Zb5 Xb ⟨[0,1],2,2⟩ 0=([⟨1,2,100000⟩],0):=by decide +kernel
theorem Ziy:ZgG Xb=(⟨[0,1],1,4⟩,660,0):=by decide +kernel
def Zmv (v:Int):Int:=if v=0 then 0 else if v=1 then 2 else if v=2 then 4 else 100001
theorem Zeg (k:Bool) (v:Int):YP k Xb.land Xb.pace 0 0 v=Zmv v:=by
 refine (Zap (k:=k) (s:=0) (day:=0) ZoE.lp (by decide) (by decide) (by decide) (by decide) (d:=Zmv) (by decide) ?_ ?_ ?_ v).symm
 . cases k<;>(intro x hx;simp only [Xb,List.mem_cons,List.not_mem_nil,or_false] at hx;rcases hx with rfl | rfl | rfl<;>decide)
 . intro v;unfold Zmv;repeat' split
   all_goals decide
 . intro v
   unfold Zmv
   split
   . rename_i h;subst h;exact .inr ⟨[],by cases k<;>decide⟩
   . split
     . rename_i h;subst h;exact .inr ⟨[0],by cases k<;>decide⟩
     . split
       . rename_i h;subst h
         exact .inr ⟨[0,1],by cases k<;>decide⟩
       . exact .inl rfl
theorem ZfX:Y8 Xb.land Xb.pace Xb.start Xb.day=[⟨0,0⟩,⟨2,2⟩,⟨4,4⟩]:=by
 have h:Xb.land.wells.length=3:=rfl
 show Y8 Xb.land Xb.pace 0 0=_
 simp only [Y8,X0,h,Zeg]
 decide
theorem ZgA:Zbi Xb=(1200,0):=by
 rw [Zbi,if_neg (by simp [Zkg]),Ze5,ZfX]
 decide +kernel
end Go.Azalai
namespace Go.Proofs.YtiigiflofnjilaaGreat
open Go Go.Sx Go.Azalai
theorem Ux (a b:Int):Ct Tryz.prog 43 [I a,I b] (.agg (Zd ⟨a,b⟩)):=by
 refine t43.1 (by simp [KFR,KFL,KF]) (by simp [Zd,KFL,KF]) ?_
 dsimp only [c43,r43,go_sem,rA,rM,rS]
 rfl
theorem u119 {args:List SV} {res:SV} (ka:KFL args) (kr:KF res) (h:sx Tryz.prog Y0 0 c119 (st0 args 16) (ZlT r119 res)) (hA:Nat.ble args.length 16=true:=by rfl):Ct Tryz.prog 119 args res:=Wf Tryz.func119 rfl b119 ZsV Zte n119 (Nat.le_of_ble_eq_true hA) ka kr h
theorem u73 {args:List SV} {res:SV} (ka:KFL args) (kr:KF res) (h:sx Tryz.prog Y0 0 c73 (st0 args 31) (ZlT r73 res)) (hA:Nat.ble args.length 31=true:=by rfl):Ct Tryz.prog 73 args res:=Wf Tryz.func73 rfl b73 Zxo ZwH n73 (Nat.le_of_ble_eq_true hA) ka kr h
theorem u74 {args:List SV} {res:SV} (ka:KFL args) (kr:KF res) (h:sx Tryz.prog Y0 0 c74 (st0 args 11) (ZlT r74 res)) (hA:Nat.ble args.length 11=true:=by rfl):Ct Tryz.prog 74 args res:=Wf Tryz.func74 rfl b74 ZxI Zx1 n74 (Nat.le_of_ble_eq_true hA) ka kr h
theorem ZhK (a b c:Int):Ct Tryz.prog 119 [I a,I b,I c] (.agg (Zm ⟨a,b,⟨c,c⟩,[⟨⟨0,0⟩,⟨99,99⟩⟩]⟩)):=by
 refine u119 (by simp [KFR,KFL,KF]) (by simp [Zm,Zg,Zd,KFR,KFL,KF]) ?_
 dsimp only [c119,r119,go_sem,rA,rM,rS]
 repeat (refine call (Ux _ _) ?_;dsimp only [Zd,go_sem,rA,rM,rS])
 exact ⟨_,rfl,Vo (Zq Y6.rfl (Zq Y6.rfl (Zq Y6.rfl (Zq Y6.rfl (Zq Zcf Zc0)))))⟩
theorem ZgV (an sl:Int) (legs:List Int) (c:Bool):Ct Tryz.prog 74 [I an,I sl,.sl c 1 (legs.map Zo)] (.agg (ZB ⟨legs,an,sl⟩)):=by
 refine u74 (by simp [Zo,Za,KFL,KF]) (by simp [ZB,Zo,Za,KFL,KF]) ?_
 dsimp only [c74,r74,go_sem,rA,rM,rS]
 exact ⟨_,rfl,Vo (Zq Zcf Zc0)⟩
theorem WD:Ct Tryz.prog 73 [] (.agg (Zr Xb)):=by
 refine u73 (by simp [KFR,KFL,KF]) (by simp [Zr,Zj,Ze,Zm,Zg,Zd,Zo,Xb,KFR,KFL,KF]) ?_
 dsimp only [c73,r73,go_sem,rA,rM,rS]
 repeat (first | (refine call (Ux _ _) ?_;dsimp only [Zd,go_sem,rA,rM,rS]) | (refine call (ZhK _ _ _) ?_;dsimp only [Zm,go_sem,rA,rM,rS]))
 exact ⟨_,rfl,Vo (Zq Zcf (Zq Zcf (Zq Y6.rfl (Zq Y6.rfl (Zq Y6.rfl (Zq Y6.rfl (Zq Y6.rfl (Zq Y6.rfl (Zq Y6.rfl (Zq Y6.rfl (Zq Y6.rfl (Zq Y6.rfl (Zq Y6.rfl (Zq Y6.rfl (Zq Y6.rfl (Zq Y6.rfl (Zq Y6.rfl (Zq Y6.rfl (Zq Y6.rfl (Zq Y6.rfl (Zq Y6.rfl (Zq Y6.rfl (Zq Y6.rfl (Zq Y6.rfl (Zq Y6.rfl (Zq Y6.rfl (Zq Y6.rfl (Zq Y6.rfl (Zq Y6.rfl (Zq Y6.rfl (Zq Y6.rfl (Zq Y6.rfl (Zq Y6.rfl (Zq Y6.rfl (Zq Y6.rfl (Zq Y6.rfl (Zq (Ztj ⟨Zq Y6.rfl (Zq Y6.rfl (Zq Y6.rfl (Zq Y6.rfl (Zq Zcf (Zq Zcf Zc0))))),rfl,trivial⟩) Zc0)))))))))))))))))))))))))))))))))))))⟩
def c3:SC:=(.seq (.reg [
 o1 2 (.box (.t 0) 0 34),
 o1 3 (.box (.t 1) 0 37),
 o1 4 (.mv (.c (.bool false)))])
 (.seq (.seq (.reg [
 o1 15 (.ld (.t 2) 37 true),
 o1 16 (.call 12 [.t 15]),
 m1 17 16,
 ⟨some 18,.addo (.t 3) 0,some (17,false),[]⟩,
 ⟨some 19,.ld (.t 18) 1 false,some (17,false),[]⟩,
 ⟨some 20,.len (.t 19),some (17,false),[]⟩,
 ⟨some 21,.bin .gtr (.t 20) (.c (.int .i64 40)),some (17,false),[]⟩,
 o1 22 (.pick (.t 17) (.c (.bool true)) (.t 21))])
 (.cond (.t 22)
 (.seq (.reg [
  o1 4 (.mv (.c (.bool true)))])
  .ret)
 .skip))
 (.seq (.regd [0,1,2,3,4,5,6] [
 .op (o1 23 (.ld (.t 2) 37 true)),
 .op ⟨some 24,.call 13 [.t 23],none,[0]⟩,
 .op (o1 25 (.ld (.t 3) 3 true))] 2 2 [
 o1 5 (.alloc zv2 34),
 o1 6 (.alloc [.slice none 0 0,.int .i64 0,.int .i64 0] 37),
 ⟨none,.st (.t 5) (.t 24) 37,none,[0,1,3,4]⟩,
 ⟨none,.st (.t 6) (.t 25) 3,none,[0,1,2,3,4,5]⟩])
 (.seq (.reg [
 o1 26 (.bsl 1 3 []),
 o1 27 (.addo (.t 3) 0),
 o1 28 (.ld (.t 27) 1 false),
 o1 29 (.app 1 8 3 (.t 26) (.t 28)),
 o1 30 (.addo (.t 6) 0),
 ⟨none,.st (.t 30) (.t 29) 1,none,[]⟩])
 (.seq (.reg [
 o1 32 (.ld (.t 5) 37 true),
 o1 33 (.ld (.t 6) 3 true),
 o1 34 (.call 14 [.t 32,.t 33]),
 m1 31 34,
 o1 35 (.ext (.t 31) 0),
 o1 36 (.ext (.t 31) 1),
 o1 37 (.ext (.t 31) 2),
 o1 38 (.ext (.t 31) 3),
 m1 7 35,
 m1 8 36,
 m1 9 37,
 m1 10 38])
 (.seq (.reg [
 o1 40 (.ld (.t 2) 37 true),
 o1 41 (.ld (.t 3) 3 true),
 o1 42 (.call 15 [.t 40,.t 41]),
 m1 39 42,
 o1 43 (.ext (.t 39) 0),
 o1 44 (.ext (.t 39) 1),
 o1 45 (.ext (.t 39) 2),
 o1 46 (.ext (.t 39) 3),
 m1 11 43,
 m1 12 44,
 m1 13 45,
 m1 14 46])
 (.seq (.regd [0,1,2,3,4,5,6,7,8,9,10,11,12,13,14,15,16,17,18,19,20,21,22,23,24,25,26,27,28,29,30,31,32,33,34,35] [
 .op (o1 47 (.ld (.t 5) 37 true)),
 .op ⟨some 48,.call 16 [.t 47],none,[0]⟩,
 .op (o1 49 (.ld (.t 2) 37 true)),
 .op ⟨some 50,.call 17 [.t 49],none,[1,2]⟩,
 .op ⟨some 51,.bin .eql (.t 48) (.t 50),none,[1,3]⟩,
 .op ⟨some 52,.mv (.t 51),none,[3,4]⟩,
 .op ⟨some 53,.mv (.t 7),some (52,true),[5]⟩,
 .op ⟨some 54,.mv (.t 11),some (52,true),[5]⟩,
 .op ⟨some 55,.bin .eql (.t 53) (.t 54),some (52,true),[5,6,7]⟩,
 .op ⟨some 56,.pick (.t 52) (.t 55) (.c (.bool false)),none,[5,8]⟩,
 .op ⟨some 57,.mv (.t 56),none,[5,9]⟩,
 .op ⟨some 58,.mv (.t 8),some (57,true),[10]⟩,
 .op ⟨some 59,.mv (.t 12),some (57,true),[10]⟩,
 .op ⟨some 60,.bin .eql (.t 58) (.t 59),some (57,true),[10,11,12]⟩,
 .op ⟨some 61,.pick (.t 57) (.t 60) (.c (.bool false)),none,[10,13]⟩,
 .op ⟨some 62,.mv (.t 61),none,[10,14]⟩,
 .op ⟨some 63,.mv (.t 9),some (62,true),[15]⟩,
 .op ⟨some 64,.mv (.t 13),some (62,true),[15]⟩,
 .op ⟨some 65,.bin .eql (.t 63) (.t 64),some (62,true),[15,16,17]⟩,
 .op ⟨some 66,.pick (.t 62) (.t 65) (.c (.bool false)),none,[15,18]⟩,
 .op ⟨some 67,.mv (.t 66),none,[15,19]⟩,
 .op ⟨some 68,.mv (.t 10),some (67,true),[20]⟩,
 .op ⟨some 69,.mv (.t 14),some (67,true),[20]⟩,
 .op ⟨some 70,.bin .eql (.t 68) (.t 69),some (67,true),[20,21,22]⟩,
 .op ⟨some 71,.pick (.t 67) (.t 70) (.c (.bool false)),none,[20,23]⟩,
 .op ⟨some 72,.mv (.t 71),none,[20,24]⟩,
 .op ⟨some 73,.ld (.t 5) 37 true,some (72,true),[25]⟩,
 .op ⟨some 74,.ld (.t 2) 37 true,some (72,true),[25]⟩,
 .op ⟨some 75,.call 18 [.t 73,.t 74],some (72,true),[25,26,27]⟩,
 .op ⟨some 76,.pick (.t 72) (.t 75) (.c (.bool false)),none,[25,28]⟩,
 .op ⟨some 77,.mv (.t 76),none,[28,29]⟩,
 .op ⟨some 78,.ld (.t 6) 3 true,some (77,true),[30]⟩,
 .op ⟨some 79,.ld (.t 3) 3 true,some (77,true),[30]⟩,
 .op ⟨some 80,.call 19 [.t 78,.t 79],some (77,true),[30,31,32]⟩,
 .op ⟨some 81,.pick (.t 77) (.t 80) (.c (.bool false)),none,[30,33]⟩,
 .op ⟨some 4,.mv (.t 81),none,[0,1,2,3,4,5,6,7,8,9,10,11,12,13,14,15,16,17,18,19,20,21,22,23,24,25,26,27,28,29,30,31,32,33,34]⟩] 0 0 [
])
 .ret)))))))
def r3:List RV:=[.tmp 4]
theorem n3:Tryz.f3.ntmps=82:=by kernel_rfl
theorem b3:YF Tryz.prog 3=true:=by kernel_rfl
theorem t3:Qt1 Tryz.prog 3 c3 r3 82:=Z4 Tryz.func3 rfl b3 (by kernel_rfl) (by kernel_rfl) n3
theorem Zf9 (s:Season) (hs:SmallS s):Ct Tryz.prog 17 [.agg (Zr s)] (I (if ZA s=true then 0 else 90)):=by
 refine t17.1 (by simp [Zr,Zj,Ze,Zm,Zg,Zd,Zo,Za,KFL,KF]) (by simp [KFL,KF]) ?_
 dsimp only [c17,r17,Zr,go_sem,rA,rM,rS]
 refine call (Zjn s hs) ?_
 dsimp only [go_sem,rA,rM,rS]
 refine br ?_ ?_
 . intro h
   dsimp only [go_sem,rA,rM,rS]
   simp at h
   simp [h]
 . intro h
   dsimp only [go_sem,rA,rM,rS]
   simp at h
   simp [h]
end Go.Proofs.YtiigiflofnjilaaGreat
namespace Go.Azalai
open Go.Sx
def Wt (s:Season) (p:Plan):Bool:=!Uj s && ZA s && decide (p.legs.length<=40) && Xu s p && decide (s.till<=2000)
end Go.Azalai
namespace Go.Proofs.YtiigiflofnjilaaGreat
open Go Go.Sx Go.Azalai
structure ReadyS (s:Season) (p:Plan):Prop where
 great:Uj s=false
 ok:OkS s
 legs:p.legs.length<=40
 plan:Xu s p=true
 till:s.till<=2000
theorem Zgd {s:Season} {p:Plan} (h:Wt s p=true):ReadyS s p:=by
 simp only [Wt,Bool.and_eq_true,Bool.not_eq_true',decide_eq_true_eq] at h
 obtain ⟨⟨⟨⟨h1,h2⟩,h3⟩,h4⟩,h5⟩:=h
 exact ⟨h1,⟨ZbA h1,h2⟩,h3,h4,h5⟩
theorem Zmh (s:Season) (p:Plan):Ct Tryz.prog 31 [.agg (Zr s),.agg (ZB p)] (B (Wt s p)):=by
 refine t31.1 (by simp [Zr,ZB,Zj,Ze,Zm,Zg,Zd,Zo,Za,KFL,KF]) (by simp [KFL,KF]) ?_
 dsimp only [c31,r31,Zr,ZB,go_sem,rA,rM,rS]
 refine call (ZkY s) ?_
 dsimp only [go_sem,rA,rM,rS]
 cases h:Uj s
 case true =>
  rw [show Wt s p=false from by simp [Wt,h]]
  repeat (refine Ve (by decide) ?_;dsimp only [go_sem,rA,rM,rS])
 have hs:=ZbA h
 refine Yp rfl ?_
 dsimp only [go_sem,rA,rM,rS]
 refine Yp rfl ?_
 dsimp only [go_sem,rA,rM,rS]
 refine call (Zf9 s hs) ?_
 dsimp only [go_sem,rA,rM,rS]
 refine Yp rfl ?_
 dsimp only [go_sem,rA,rM,rS]
 cases h2:ZA s
 case false =>
  rw [show Wt s p=false from by simp [Wt,h,h2]]
  simp only [Bool.false_eq_true,if_false,Bool.not_false,Bool.true_and,show ((90:Int) == 0)=false from rfl]
  repeat (refine Ve (by decide) ?_;dsimp only [go_sem,rA,rM,rS])
 simp only [if_true,Bool.not_false,Bool.true_and,show ((0:Int) == 0)=true from rfl]
 iterate 4 (refine Yp rfl ?_;dsimp only [go_sem,rA,rM,rS])
 simp only [List.length_map]
 by_cases h3:p.legs.length<=40
 case neg =>
  rw [show Wt s p=false from by simp [Wt,h,h2,h3]]
  have:decide ((p.legs.length:Int)<=40)=false:=by simp;omega
  simp only [this,Bool.and_false]
  repeat (refine Ve (by decide) ?_;dsimp only [go_sem,rA,rM,rS])
 have e3:decide ((p.legs.length:Int)<=40)=true:=by simp;omega
 simp only [e3,Bool.and_true]
 iterate 2 (refine Yp rfl ?_;dsimp only [go_sem,rA,rM,rS])
 refine Yp rfl ?_
 dsimp only [go_sem,rA,rM,rS]
 refine call (ZvG s ⟨hs,h2⟩ p (by omega)) ?_
 dsimp only [go_sem,rA,rM,rS]
 cases h4:Xu s p
 case false =>
  rw [show Wt s p=false from by simp [Wt,h4]]
  simp only [Bool.and_false]
  repeat (refine Ve (by decide) ?_;dsimp only [go_sem,rA,rM,rS])
 simp only [Bool.and_true]
 iterate 3 (refine Yp rfl ?_;dsimp only [go_sem,rA,rM,rS])
 simp [Wt,h,h2,h3,h4]
theorem ZmC:Ct Tryz.prog 30 [] (B true):=by
 have h1:=VC Xb YY ⟨[0,1],2,2⟩ (by decide)
 have h2:=VC Xb YY ⟨[0,1],3,2⟩ (by decide)
 have h3:=VC Xb YY ⟨[2],10,1⟩ (by decide)
 have h4:=ZjQ Xb YY ⟨[0,1],2,2⟩ (by decide)
 have h5:=Zob Xb YY ⟨[0,1],2,2⟩ (by decide) 0
 have h6:=Ztn Xb YY
 have h7:=Zng Xb YY
 rw [ZrC] at h1
 rw [Zud] at h2
 rw [Zt1] at h3
 rw [Zhb] at h4
 rw [ZgN] at h5
 rw [Ziy] at h6
 rw [ZgA] at h7
 refine t30.1 (by simp [KFR,KFL,KF]) (by simp [KFL,KF]) ?_
 dsimp only [c30,r30,go_sem,rA,rM,rS]
 refine call WD ?_
 dsimp only [go_sem,rA,rM,rS]
 refine call (ZgV 2 2 [0,1] true) ?_
 dsimp only [go_sem,rA,rM,rS]
 refine call h1 ?_
 dsimp only [ZbW,go_sem,rA,rM,rS]
 refine call WD ?_
 dsimp only [go_sem,rA,rM,rS]
 refine call (ZgV 3 2 [0,1] true) ?_
 dsimp only [go_sem,rA,rM,rS]
 refine call h2 ?_
 dsimp only [ZbW,go_sem,rA,rM,rS]
 refine call WD ?_
 dsimp only [go_sem,rA,rM,rS]
 refine call (ZgV 10 1 [2] true) ?_
 dsimp only [go_sem,rA,rM,rS]
 refine call h3 ?_
 dsimp only [ZbW,go_sem,rA,rM,rS]
 refine call WD ?_
 dsimp only [go_sem,rA,rM,rS]
 refine call (ZgV 2 2 [0,1] true) ?_
 dsimp only [go_sem,rA,rM,rS]
 refine call h4 ?_
 dsimp only [go_sem,rA,rM,rS]
 refine call WD ?_
 dsimp only [go_sem,rA,rM,rS]
 refine call (ZgV 2 2 [0,1] true) ?_
 dsimp only [go_sem,rA,rM,rS]
 refine call h5 ?_
 dsimp only [Zhs,go_sem,rA,rM,rS]
 refine call WD ?_
 dsimp only [go_sem,rA,rM,rS]
 refine call h6 ?_
 dsimp only [Zr4,ZB,go_sem,rA,rM,rS]
 refine call WD ?_
 dsimp only [go_sem,rA,rM,rS]
 refine call h7 ?_
 dsimp only [go_sem,rA,rM,rS]
 repeat (first | (refine gb ?_;dsimp only [go_sem,rA,rM,rS]) | (refine call (ZdC [⟨1,2,100000⟩] [⟨1,2,100000⟩] (by decide) (by decide) false true) ?_;dsimp only [go_sem,rA,rM,rS]) | (refine call (ZgV 1 4 [0,1] true) ?_;dsimp only [ZB,go_sem,rA,rM,rS]) | (refine call (Zet ⟨[0,1],1,4⟩ ⟨[0,1],1,4⟩ (by decide) (by decide)) ?_;dsimp only [go_sem,rA,rM,rS]))
 simp
def c41:SC:=(.seq (.reg [
 o1 2 (.box (.t 0) 0 27),
 o1 3 (.box (.t 1) 0 27),
 o1 4 (.alloc [.int .i64 0,.int .i64 0] 27)])
 (.seq (.reg [
 o1 5 (.addo (.t 2) 0),
 o1 6 (.ld (.t 5) 1 false),
 o1 7 (.addo (.t 3) 0),
 o1 8 (.ld (.t 7) 1 false),
 o1 9 (.mm false [.t 6,.t 8]),
 o1 10 (.addo (.t 2) 1),
 o1 11 (.ld (.t 10) 1 false),
 o1 12 (.addo (.t 3) 1),
 o1 13 (.ld (.t 12) 1 false),
 o1 14 (.mm true [.t 11,.t 13]),
 o1 15 (.call 43 [.t 9,.t 14]),
 ⟨none,.st (.t 4) (.t 15) 2,none,[]⟩])
 .ret))
def r41:List RV:=[.cell 4 2 true]
theorem t41:Qt1 Tryz.prog 41 c41 r41 16:=Z4 Tryz.func41 rfl (by kernel_rfl) (by kernel_rfl) (by kernel_rfl) (by kernel_rfl)
theorem Zjj (l:Land) (hs:Wo l) (well day:Int):Ct Tryz.prog 42 [.agg (ZY l),I well,.v (.slice none 0 0),I day] (ZiE (Xd l well [] day)) :=
 (Zfi l hs well day [] (by simp)).args (by simp [ZY,Ze,Zm,Zg,Za,KFL,KF]) (ZO (fun _ _ _ _ _ h=>h) (ZO (fun _ _ _ _ _ h=>h) (ZO YA XV)))
theorem ZjW {s:Season} (h:OkS s) {p:Plan} (hp:Xu s p=true) (hsure:WZ s p.legs=true):Trk s.land s.pace s.start s.day s.day p.legs (Zz s p.legs)/\(Zz s p.legs).length=p.legs.length/\YG s.land s.pace s.start s.day p.legs=(Zz s p.legs,0,0):=by
 have hl:(Zz s p.legs).length=p.legs.length:=by have:=congrArg List.length (Zgr hsure);simpa using this
 have q:=hsure
 simp only [WZ,Bool.and_eq_true,decide_eq_true_eq] at q
 have hw:YG s.land s.pace s.start s.day p.legs=((YG s.land s.pace s.start s.day p.legs).1,(YG s.land s.pace s.start s.day p.legs).2.1,0):=by rw [<- q.1]
 obtain ⟨e,ht⟩:=Ze2 hw
 refine ⟨ht,hl,?_⟩
 rw [hw,e];rfl
theorem Zcu {s:Season} {x:Scene} (h:ZM s.land=true) (hx:Yg s.land.wells.length x=true):ZM (YV s x)=true:=by
 simp only [Yg,Bool.and_eq_true,decide_eq_true_eq,List.all_eq_true] at hx
 have hy:x.yields.length=s.land.wells.length:=by omega
 have hl:(YV s x).wells.length=s.land.wells.length:=Vu hy
 simp only [ZM,Bool.and_eq_true,List.all_eq_true] at h ⊢
 rw [hl]
 obtain ⟨⟨h1,h2⟩,h3⟩:=h
 refine ⟨⟨h1,fun w hw=>?_⟩,h3⟩
 obtain ⟨i,hi,rfl⟩:=List.getElem_of_mem hw
 rw [hl] at hi
 have e:(YV s x).wells[i]'(by omega)={ s.land.wells[i] with yld:=x.yields[i]'(by omega) }:=ZcJ hi (by omega) (by rw [Vu hy];exact hi)
 rw [e]
 have a1:=h2 _ (List.getElem_mem hi)
 have a2:=hx.1.2 _ (List.getElem_mem (show i < x.yields.length by omega))
 simp only [YD,Bool.and_eq_true] at a1 ⊢
 exact ⟨⟨⟨⟨⟨⟨a1.1.1.1.1.1.1,a1.1.1.1.1.1.2⟩,a1.1.1.1.1.2⟩,a2⟩,a1.1.1.2⟩,a1.1.2⟩,a1.2⟩
def cw7:SC:=(.seq (.reg [
 o1 2 (.box (.t 0) 0 34),
 o1 3 (.box (.t 1) 0 37),
 o1 4 (.mv (.c (.bool false)))])
 (.seq (.reg [
 o1 35 (.call 30 []),
 m1 5 35])
 (.seq (.seq (.reg [
 m1 36 5,
 o1 37 (.un .not (.t 36))])
 (.cond (.t 37)
 (.seq (.reg [
  o1 4 (.mv (.c (.bool false)))])
  .ret)
 .skip))
 (.seq (.seq (.reg [
 o1 38 (.ld (.t 2) 37 true),
 o1 39 (.ld (.t 3) 3 true),
 o1 40 (.call 31 [.t 38,.t 39]),
 o1 41 (.un .not (.t 40))])
 (.cond (.t 41)
 (.seq (.reg [
  m1 42 5,
  m1 4 42])
  .ret)
 .skip))
 (.seq (.reg [
 o1 44 (.ld (.t 2) 37 true),
 o1 45 (.ld (.t 3) 3 true),
 o1 46 (.call 14 [.t 44,.t 45]),
 m1 43 46,
 o1 47 (.ext (.t 43) 0),
 o1 48 (.ext (.t 43) 1),
 o1 49 (.ext (.t 43) 2),
 o1 50 (.ext (.t 43) 3),
 m1 6 47,
 m1 7 48,
 m1 8 49,
 m1 9 50])
 (.seq (.seq (.reg [
 m1 51 9,
 o1 52 (.bin .neq (.t 51) (.c (.int .i64 0)))])
 (.cond (.t 52)
 (.seq (.reg [
  o1 4 (.mv (.c (.bool false)))])
  .ret)
 .skip))
 (.seq (.reg [
 o1 54 (.addo (.t 2) 0),
 o1 55 (.ld (.t 54) 2 true),
 o1 56 (.addo (.t 2) 33),
 o1 57 (.ld (.t 56) 1 false),
 o1 58 (.addo (.t 2) 34),
 o1 59 (.ld (.t 58) 1 false),
 o1 60 (.addo (.t 2) 2),
 o1 61 (.ld (.t 60) 2 true),
 o1 62 (.addo (.t 3) 0),
 o1 63 (.ld (.t 62) 1 false),
 o1 64 (.call 36 [.t 55,.t 57,.t 59,.t 61,.t 63]),
 m1 53 64,
 o1 65 (.ext (.t 53) 0),
 o1 66 (.ext (.t 53) 1),
 o1 67 (.ext (.t 53) 2),
 m1 10 65,
 m1 11 66,
 m1 12 67])
 (.seq (.seq (.regd [0,1,2,3,4,5,6,7,8,9,10,11,12,13,14,15,16,17,18,19,20,21,22,23,24,25,26,27] [
 .op (m1 68 12),
 .op ⟨some 69,.bin .neq (.t 68) (.c (.int .i64 0)),none,[0]⟩,
 .op ⟨some 70,.mv (.t 69),none,[1]⟩,
 .op ⟨some 71,.mv (.t 10),some (70,false),[2]⟩,
 .op ⟨some 72,.len (.t 71),some (70,false),[2,3]⟩,
 .op ⟨some 73,.addo (.t 3) 0,some (70,false),[2]⟩,
 .op ⟨some 74,.ld (.t 73) 1 false,some (70,false),[2,5]⟩,
 .op ⟨some 75,.len (.t 74),some (70,false),[2,6]⟩,
 .op ⟨some 76,.bin .neq (.t 72) (.t 75),some (70,false),[2,4,7]⟩,
 .op ⟨some 77,.pick (.t 70) (.c (.bool true)) (.t 76),none,[2,8]⟩,
 .op ⟨some 78,.mv (.t 77),none,[2,9]⟩,
 .op ⟨some 79,.mv (.t 10),some (78,false),[10]⟩,
 .op ⟨some 80,.len (.t 79),some (78,false),[10,11]⟩,
 .op ⟨some 81,.bin .gtr (.t 80) (.c (.int .i64 0)),some (78,false),[10,12]⟩,
 .op ⟨some 82,.mv (.t 81),some (78,false),[10,13]⟩,
 .op ⟨some 83,.mv (.t 10),some (82,true),[14]⟩,
 .op ⟨some 84,.mv (.t 10),some (82,true),[14]⟩,
 .op ⟨some 85,.len (.t 84),some (82,true),[14,16]⟩,
 .op ⟨some 86,.bin .sub (.t 85) (.c (.int .i64 1)),some (82,true),[14,17]⟩,
 .op ⟨some 87,.ixs (.t 83) (.t 86) 6,some (82,true),[14,15,18]⟩,
 .op ⟨some 88,.addo (.t 87) 4,some (82,true),[14,19]⟩,
 .op ⟨some 89,.addo (.t 88) 1,some (82,true),[14,20]⟩,
 .op ⟨some 90,.ld (.t 89) 1 false,some (82,true),[14,21]⟩,
 .op ⟨some 91,.addo (.t 2) 35,some (82,true),[14]⟩,
 .op ⟨some 92,.ld (.t 91) 1 false,some (82,true),[14,23]⟩,
 .op ⟨some 93,.bin .gtr (.t 90) (.t 92),some (82,true),[14,22,24]⟩,
 .op ⟨some 94,.pick (.t 82) (.t 93) (.c (.bool false)),some (78,false),[10,14,25]⟩,
 .op ⟨some 95,.pick (.t 78) (.c (.bool true)) (.t 94),none,[10,26]⟩] 0 0 [
])
 (.cond (.t 95)
 (.seq (.reg [
  m1 96 5,
  m1 97 96,
  ⟨some 98,.mv (.t 6),some (97,true),[]⟩,
  ⟨some 99,.bin .eql (.t 98) (.c (.int .u8 1)),some (97,true),[]⟩,
  o1 100 (.pick (.t 97) (.t 99) (.c (.bool false))),
  m1 101 100,
  ⟨some 102,.mv (.t 7),some (101,true),[]⟩,
  ⟨some 103,.bin .eql (.t 102) (.c (.int .i64 0)),some (101,true),[]⟩,
  o1 104 (.pick (.t 101) (.t 103) (.c (.bool false))),
  m1 105 104,
  ⟨some 106,.mv (.t 8),some (105,true),[]⟩,
  ⟨some 107,.bin .eql (.t 106) (.c (.int .i64 0)),some (105,true),[]⟩,
  o1 108 (.pick (.t 105) (.t 107) (.c (.bool false))),
  m1 4 108])
  .ret)
 .skip))
 (.seq (.seq (.reg [
 o1 109 (.addo (.t 3) 1),
 o1 110 (.ld (.t 109) 1 false),
 o1 111 (.bin .eql (.t 110) (.c (.int .i64 0)))])
 (.cond (.t 111)
 (.seq (.reg [
  m1 112 5,
  m1 113 112,
  ⟨some 114,.mv (.t 6),some (113,true),[]⟩,
  ⟨some 115,.bin .eql (.t 114) (.c (.int .u8 0)),some (113,true),[]⟩,
  o1 116 (.pick (.t 113) (.t 115) (.c (.bool false))),
  m1 117 116,
  ⟨some 118,.mv (.t 7),some (117,true),[]⟩,
  ⟨some 119,.bin .eql (.t 118) (.c (.int .i64 0)),some (117,true),[]⟩,
  o1 120 (.pick (.t 117) (.t 119) (.c (.bool false))),
  m1 121 120,
  ⟨some 122,.mv (.t 8),some (121,true),[]⟩,
  ⟨some 123,.bin .eql (.t 122) (.c (.int .i64 0)),some (121,true),[]⟩,
  o1 124 (.pick (.t 121) (.t 123) (.c (.bool false))),
  m1 4 124])
  .ret)
 .skip))
 (.seq (.seq (.reg [
 o1 125 (.addo (.t 2) 36),
 o1 126 (.ld (.t 125) 1 false),
 o1 127 (.len (.t 126)),
 o1 128 (.mv (.c (.int .i64 0)))])
 (.block 0 (.loop (.seq (.reg [
  o1 129 (.bin .lss (.t 128) (.t 127))])
  (.seq (.cond (.t 129)
  .skip
  (.exit 0))
  (.seq (.block 1 (.seq (.reg [
   m1 130 128,
   o1 131 (.ixs (.t 126) (.t 128) 6),
   o1 132 (.ld (.t 131) 6 true),
   o1 14 (.alloc zv4 72),
   m1 13 130,
   ⟨none,.st (.t 14) (.t 132) 6,none,[]⟩])
   (.seq (.reg [
   o1 133 (.addo (.t 2) 21),
   o1 134 (.ld (.t 133) 7 true),
   o1 15 (.alloc zv3 31),
   ⟨none,.st (.t 15) (.t 134) 7,none,[]⟩])
   (.seq (.reg [
   o1 135 (.addo (.t 2) 29),
   o1 136 (.ld (.t 135) 1 false),
   o1 137 (.addo (.t 3) 2),
   o1 138 (.ld (.t 137) 1 false),
   o1 139 (.addo (.t 2) 30),
   o1 140 (.ld (.t 139) 1 false),
   o1 141 (.bin .mul (.t 138) (.t 140)),
   o1 142 (.addo (.t 14) 0),
   o1 143 (.ld (.t 142) 2 true),
   o1 144 (.addo (.t 14) 2),
   o1 145 (.ld (.t 144) 2 true),
   o1 146 (.build zv6 [(0,1,.t 136),(1,1,.t 141),(2,2,.t 143),(4,2,.t 145)]),
   o1 16 (.alloc zv6 80),
   ⟨none,.st (.t 16) (.t 146) 8,none,[]⟩])
   (.seq (.seq (.reg [
   o1 148 (.addo (.t 2) 4),
   o1 149 (.ld (.t 148) 17 true),
   o1 150 (.ld (.t 15) 7 true),
   o1 151 (.call 37 [.t 149,.t 150]),
   m1 147 151,
   o1 152 (.ext (.t 147) 0),
   o1 153 (.ext (.t 147) 1),
   o1 17 (.alloc [.int .i64 0,.int .i64 0] 27),
   ⟨none,.st (.t 17) (.t 152) 2,none,[]⟩,
   m1 18 153])
   (.seq (.reg [
   m1 154 18,
   o1 155 (.bin .neq (.t 154) (.c (.int .i64 0))),
   m1 156 155,
   ⟨some 157,.mv (.t 10),some (156,false),[]⟩,
   ⟨some 158,.len (.t 157),some (156,false),[]⟩,
   ⟨some 159,.bin .eql (.t 158) (.c (.int .i64 0)),some (156,false),[]⟩,
   ⟨some 160,.mv (.t 159),some (156,false),[]⟩,
   ⟨some 161,.addo (.t 16) 1,some (160,true),[]⟩,
   ⟨some 162,.ld (.t 161) 1 false,some (160,true),[]⟩,
   ⟨some 163,.addo (.t 17) 0,some (160,true),[]⟩,
   ⟨some 164,.ld (.t 163) 1 false,some (160,true),[]⟩,
   ⟨some 165,.bin .gtr (.t 162) (.t 164),some (160,true),[]⟩,
   ⟨some 166,.pick (.t 160) (.t 165) (.c (.bool false)),some (156,false),[]⟩,
   o1 167 (.pick (.t 156) (.c (.bool true)) (.t 166))])
   (.cond (.t 167)
   (.seq (.reg [
    m1 168 5,
    m1 169 168,
    ⟨some 170,.mv (.t 18),some (169,true),[]⟩,
    ⟨some 171,.bin .eql (.t 170) (.c (.int .i64 0)),some (169,true),[]⟩,
    o1 172 (.pick (.t 169) (.t 171) (.c (.bool false))),
    m1 173 172,
    ⟨some 174,.mv (.t 6),some (173,true),[]⟩,
    ⟨some 175,.bin .eql (.t 174) (.c (.int .u8 2)),some (173,true),[]⟩,
    o1 176 (.pick (.t 173) (.t 175) (.c (.bool false))),
    m1 177 176,
    ⟨some 178,.mv (.t 7),some (177,true),[]⟩,
    ⟨some 179,.mv (.t 13),some (177,true),[]⟩,
    ⟨some 180,.bin .eql (.t 178) (.t 179),some (177,true),[]⟩,
    o1 181 (.pick (.t 177) (.t 180) (.c (.bool false))),
    m1 182 181,
    ⟨some 183,.mv (.t 8),some (182,true),[]⟩,
    ⟨some 184,.bin .eql (.t 183) (.c (.int .i64 0)),some (182,true),[]⟩,
    o1 185 (.pick (.t 182) (.t 184) (.c (.bool false))),
    m1 4 185])
    .ret)
   .skip)))
   (.seq (.reg [
   o1 186 (.ld (.t 2) 37 true),
   m1 187 13,
   o1 188 (.call 38 [.t 186,.t 187]),
   o1 19 (.alloc [.slice none 0 0,.slice none 0 0] 25),
   ⟨none,.st (.t 19) (.t 188) 2,none,[]⟩])
   (.seq (.reg [
   m1 189 10,
   o1 190 (.len (.t 189)),
   o1 191 (.mv (.c (.int .i64 0)))])
   (.block 2 (.loop (.seq (.reg [
    o1 192 (.bin .lss (.t 191) (.t 190))])
    (.seq (.cond (.t 192)
    .skip
    (.exit 2))
    (.seq (.block 3 (.seq (.reg [
     m1 193 191,
     o1 194 (.ixs (.t 189) (.t 191) 6),
     o1 195 (.ld (.t 194) 6 true),
     o1 21 (.alloc zv7 94),
     m1 20 193,
     ⟨none,.st (.t 21) (.t 195) 6,none,[]⟩])
     (.seq (.regd [0,1,2,3,4,5,6,7,8,9,10,11,12,13,14,15] [
     .op (o1 197 (.addo (.t 2) 0)),
     .op ⟨some 198,.ld (.t 197) 2 true,none,[0]⟩,
     .op (o1 199 (.addo (.t 3) 0)),
     .op ⟨some 200,.ld (.t 199) 1 false,none,[2]⟩,
     .op (m1 201 20),
     .op ⟨some 202,.ixs (.t 200) (.t 201) 1,none,[3,4]⟩,
     .op ⟨some 203,.ld (.t 202) 1 false,none,[5]⟩,
     .op (o1 204 (.addo (.t 2) 2)),
     .op ⟨some 205,.ld (.t 204) 2 true,none,[7]⟩,
     .op ⟨some 206,.call 39 [.t 198,.t 203,.t 205],none,[1,6,8]⟩,
     .op ⟨some 196,.mv (.t 206),none,[9]⟩,
     .op ⟨some 207,.ext (.t 196) 0,none,[10]⟩,
     .op ⟨some 208,.ext (.t 196) 1,none,[10]⟩] 1 2 [
     o1 22 (.alloc [.int .i64 0,.int .i64 0] 27),
     ⟨none,.st (.t 22) (.t 207) 2,none,[0,1,2,3,4,5,6,7,8,9,10,11,13]⟩,
     ⟨some 23,.mv (.t 208),none,[0,1,2,3,4,5,6,7,8,9,10,11,12,13,14]⟩])
     (.seq (.seq (.reg [
     m1 209 23,
     o1 210 (.bin .neq (.t 209) (.c (.int .i64 0))),
     m1 211 210,
     ⟨some 212,.addo (.t 22) 0,some (211,false),[]⟩,
     ⟨some 213,.ld (.t 212) 1 false,some (211,false),[]⟩,
     ⟨some 214,.bin .lss (.t 213) (.c (.int .i64 1)),some (211,false),[]⟩,
     o1 215 (.pick (.t 211) (.c (.bool true)) (.t 214)),
     m1 216 215,
     ⟨some 217,.addo (.t 22) 1,some (216,false),[]⟩,
     ⟨some 218,.ld (.t 217) 1 false,some (216,false),[]⟩,
     ⟨some 219,.addo (.t 2) 35,some (216,false),[]⟩,
     ⟨some 220,.ld (.t 219) 1 false,some (216,false),[]⟩,
     ⟨some 221,.bin .gtr (.t 218) (.t 220),some (216,false),[]⟩,
     o1 222 (.pick (.t 216) (.c (.bool true)) (.t 221))])
     (.cond (.t 222)
     (.seq (.reg [
      o1 4 (.mv (.c (.bool false)))])
      .ret)
     .skip))
     (.seq (.reg [
     o1 24 (.mv (.c (.slice none 0 0)))])
     (.seq (.seq (.reg [
     o1 223 (.addo (.t 22) 1),
     o1 224 (.ld (.t 223) 1 false),
     o1 225 (.mv (.c (.int .i64 0)))])
     (.block 4 (.loop (.seq (.reg [
      o1 226 (.bin .lss (.t 225) (.t 224))])
      (.seq (.cond (.t 226)
      .skip
      (.exit 4))
      (.seq (.block 5 (.seq (.reg [
       o1 228 (.addo (.t 2) 4),
       o1 229 (.ld (.t 228) 17 true),
       o1 230 (.ld (.t 15) 7 true),
       o1 231 (.call 37 [.t 229,.t 230]),
       m1 227 231,
       o1 232 (.ext (.t 227) 0),
       o1 233 (.ext (.t 227) 1),
       o1 25 (.alloc [.int .i64 0,.int .i64 0] 27),
       ⟨none,.st (.t 25) (.t 232) 2,none,[]⟩,
       m1 26 233])
       (.seq (.reg [
       o1 235 (.addo (.t 2) 4),
       o1 236 (.ld (.t 235) 17 true),
       o1 237 (.ld (.t 15) 7 true),
       o1 238 (.ld (.t 16) 8 true),
       o1 239 (.call 40 [.t 236,.t 237,.t 238]),
       m1 234 239,
       o1 240 (.ext (.t 234) 0),
       o1 241 (.ext (.t 234) 1),
       o1 242 (.ext (.t 234) 2),
       o1 27 (.alloc zv3 31),
       ⟨none,.st (.t 27) (.t 240) 7,none,[]⟩,
       m1 28 241,
       m1 29 242])
       (.seq (.seq (.reg [
       m1 243 26,
       o1 244 (.bin .neq (.t 243) (.c (.int .i64 0)))])
       (.cond (.t 244)
       (.seq (.reg [
        o1 4 (.mv (.c (.bool false)))])
        .ret)
       .skip))
       (.seq (.seq (.reg [
       o1 245 (.addo (.t 16) 1),
       o1 246 (.ld (.t 245) 1 false),
       o1 247 (.addo (.t 25) 0),
       o1 248 (.ld (.t 247) 1 false),
       o1 249 (.bin .gtr (.t 246) (.t 248))])
       (.cond (.t 249)
       (.seq (.reg [
        m1 250 5,
        m1 251 250,
        ⟨some 252,.mv (.t 6),some (251,true),[]⟩,
        ⟨some 253,.bin .eql (.t 252) (.c (.int .u8 2)),some (251,true),[]⟩,
        o1 254 (.pick (.t 251) (.t 253) (.c (.bool false))),
        m1 255 254,
        ⟨some 256,.mv (.t 7),some (255,true),[]⟩,
        ⟨some 257,.mv (.t 13),some (255,true),[]⟩,
        ⟨some 258,.bin .eql (.t 256) (.t 257),some (255,true),[]⟩,
        o1 259 (.pick (.t 255) (.t 258) (.c (.bool false))),
        m1 260 259,
        ⟨some 261,.mv (.t 8),some (260,true),[]⟩,
        ⟨some 262,.mv (.t 20),some (260,true),[]⟩,
        ⟨some 263,.bin .eql (.t 261) (.t 262),some (260,true),[]⟩,
        o1 264 (.pick (.t 260) (.t 263) (.c (.bool false))),
        m1 4 264])
        .ret)
       .skip))
       (.seq (.seq (.reg [
       m1 265 29,
       o1 266 (.bin .neq (.t 265) (.c (.int .i64 0))),
       m1 267 266,
       ⟨some 268,.mv (.t 28),some (267,false),[]⟩,
       ⟨some 269,.bin .neq (.t 268) (.c (.int .u8 0)),some (267,false),[]⟩,
       o1 270 (.pick (.t 267) (.c (.bool true)) (.t 269))])
       (.cond (.t 270)
       (.seq (.reg [
        m1 271 5,
        m1 272 271,
        ⟨some 273,.mv (.t 6),some (272,true),[]⟩,
        ⟨some 274,.bin .eql (.t 273) (.c (.int .u8 3)),some (272,true),[]⟩,
        o1 275 (.pick (.t 272) (.t 274) (.c (.bool false))),
        m1 276 275,
        ⟨some 277,.mv (.t 7),some (276,true),[]⟩,
        ⟨some 278,.mv (.t 13),some (276,true),[]⟩,
        ⟨some 279,.bin .eql (.t 277) (.t 278),some (276,true),[]⟩,
        o1 280 (.pick (.t 276) (.t 279) (.c (.bool false))),
        m1 281 280,
        ⟨some 282,.mv (.t 8),some (281,true),[]⟩,
        ⟨some 283,.mv (.t 20),some (281,true),[]⟩,
        ⟨some 284,.bin .eql (.t 282) (.t 283),some (281,true),[]⟩,
        o1 285 (.pick (.t 281) (.t 284) (.c (.bool false))),
        m1 4 285])
        .ret)
       .skip))
       (.seq (.reg [
       o1 286 (.ld (.t 27) 7 true),
       ⟨none,.st (.t 15) (.t 286) 7,none,[]⟩])
       (.reg [
       m1 287 24,
       o1 288 (.ld (.t 15) 7 true),
       o1 289 (.bsl 7 31 [.t 288]),
       o1 290 (.appm 7 56 31 (.t 287) (.t 289)),
       m1 24 290]))))))))
      (.reg [
      o1 291 (.bin .add (.t 225) (.c (.int .i64 1))),
      m1 225 291])))))))
     (.gh (.seq (.reg [
     m1 292 24,
     o1 293 (.addo (.t 22) 0),
     o1 294 (.ld (.t 293) 1 false),
     o1 295 (.bin .sub (.t 294) (.c (.int .i64 1))),
     o1 296 (.ixs (.t 292) (.t 295) 7),
     o1 297 (.ld (.t 296) 7 true),
     ⟨none,.st (.t 15) (.t 297) 7,none,[]⟩])
     (.seq (.seq (.reg [
     m1 298 24,
     o1 299 (.addo (.t 22) 0),
     o1 300 (.ld (.t 299) 1 false),
     o1 301 (.sub 7 (.t 298) (some (.t 300)) none),
     o1 302 (.len (.t 301)),
     o1 303 (.mv (.c (.int .i64 0)))])
     (.block 6 (.loop (.seq (.reg [
      o1 304 (.bin .lss (.t 303) (.t 302))])
      (.seq (.cond (.t 304)
      .skip
      (.exit 6))
      (.seq (.block 7 (.seq (.reg [
       o1 305 (.ixs (.t 301) (.t 303) 7),
       o1 306 (.ld (.t 305) 7 true),
       o1 31 (.alloc zv3 31),
       ⟨none,.st (.t 31) (.t 306) 7,none,[]⟩])
       (.regd [0,1,2,3,4,5,6,7,8,9,10,11,12,13,14,15,16,17,18,19,20] [
       .op (o1 307 (.addo (.t 15) 0)),
       .op ⟨some 308,.ld (.t 307) 2 true,none,[0]⟩,
       .op (o1 309 (.addo (.t 31) 0)),
       .op ⟨some 310,.ld (.t 309) 2 true,none,[2]⟩,
       .op ⟨some 311,.call 41 [.t 308,.t 310],none,[1,3]⟩,
       .op (o1 312 (.addo (.t 15) 2)),
       .op ⟨some 313,.ld (.t 312) 2 true,none,[5]⟩,
       .op (o1 314 (.addo (.t 31) 2)),
       .op ⟨some 315,.ld (.t 314) 2 true,none,[7]⟩,
       .op ⟨some 316,.call 41 [.t 313,.t 315],none,[4,6,8]⟩,
       .op (o1 317 (.addo (.t 15) 4)),
       .op ⟨some 318,.ld (.t 317) 2 true,none,[10]⟩,
       .op (o1 319 (.addo (.t 31) 4)),
       .op ⟨some 320,.ld (.t 319) 2 true,none,[12]⟩,
       .op ⟨some 321,.call 41 [.t 318,.t 320],none,[9,11,13]⟩,
       .op ⟨some 322,.addo (.t 15) 0,none,[0,1,2,3,4,5,6,10,11]⟩] 0 1 [
       ⟨none,.st (.t 322) (.t 311) 2,none,[0,1,2,3,4,5,6,10,11,14,15]⟩,
       ⟨some 323,.addo (.t 15) 2,none,[0,1,2,3,4,5,6,7,8,9,10,11,15,16]⟩,
       ⟨none,.st (.t 323) (.t 316) 2,none,[0,1,2,3,4,5,6,7,8,9,10,11,15,16,17]⟩,
       ⟨some 324,.addo (.t 15) 4,none,[0,1,2,3,4,5,6,7,8,9,10,11,12,13,14,15,16,17,18]⟩,
       ⟨none,.st (.t 324) (.t 321) 2,none,[0,1,2,3,4,5,6,7,8,9,10,11,12,13,14,15,16,17,18,19]⟩])))
      (.reg [
      o1 325 (.bin .add (.t 303) (.c (.int .i64 1))),
      m1 303 325])))))))
     (.gh (.seq (.seq (.reg [
     m1 326 20,
     o1 327 (.bin .add (.t 326) (.c (.int .i64 1))),
     m1 328 10,
     o1 329 (.len (.t 328)),
     o1 330 (.bin .eql (.t 327) (.t 329))])
     (.cond (.t 330)
     (.exit 2)
     .skip))
     (.seq (.reg [
     o1 332 (.ld (.t 19) 2 true),
     o1 333 (.addo (.t 21) 1),
     o1 334 (.ld (.t 333) 1 false),
     o1 335 (.addo (.t 21) 4),
     o1 336 (.addo (.t 335) 0),
     o1 337 (.ld (.t 336) 1 false),
     o1 338 (.call 42 [.t 332,.t 334,.c (.slice none 0 0),.t 337]),
     m1 331 338,
     o1 339 (.ext (.t 331) 0),
     o1 340 (.ext (.t 331) 1),
     o1 341 (.ext (.t 331) 2),
     o1 32 (.alloc [.int .i64 0,.int .i64 0] 27),
     ⟨none,.st (.t 32) (.t 339) 2,none,[]⟩,
     m1 33 340,
     m1 34 341])
     (.seq (.seq (.reg [
     m1 342 34,
     o1 343 (.bin .neq (.t 342) (.c (.int .i64 0)))])
     (.cond (.t 343)
     (.seq (.reg [
      o1 4 (.mv (.c (.bool false)))])
      .ret)
     .skip))
     (.seq (.seq (.reg [
     o1 344 (.addo (.t 3) 1),
     o1 345 (.ld (.t 344) 1 false),
     o1 346 (.addo (.t 2) 4),
     o1 347 (.addo (.t 346) 0),
     o1 348 (.ld (.t 347) 1 false),
     o1 349 (.addo (.t 15) 0),
     o1 350 (.addo (.t 349) 0),
     o1 351 (.ld (.t 350) 1 false),
     o1 352 (.bin .sub (.t 348) (.t 351)),
     o1 353 (.bin .mul (.t 345) (.t 352)),
     o1 354 (.addo (.t 32) 0),
     o1 355 (.ld (.t 354) 1 false),
     o1 356 (.bin .gtr (.t 353) (.t 355))])
     (.cond (.t 356)
     (.seq (.reg [
      m1 357 5,
      m1 358 357,
      ⟨some 359,.mv (.t 6),some (358,true),[]⟩,
      ⟨some 360,.bin .eql (.t 359) (.c (.int .u8 4)),some (358,true),[]⟩,
      o1 361 (.pick (.t 358) (.t 360) (.c (.bool false))),
      m1 362 361,
      ⟨some 363,.mv (.t 7),some (362,true),[]⟩,
      ⟨some 364,.mv (.t 13),some (362,true),[]⟩,
      ⟨some 365,.bin .eql (.t 363) (.t 364),some (362,true),[]⟩,
      o1 366 (.pick (.t 362) (.t 365) (.c (.bool false))),
      m1 367 366,
      ⟨some 368,.mv (.t 8),some (367,true),[]⟩,
      ⟨some 369,.mv (.t 20),some (367,true),[]⟩,
      ⟨some 370,.bin .eql (.t 368) (.t 369),some (367,true),[]⟩,
      o1 371 (.pick (.t 367) (.t 370) (.c (.bool false))),
      m1 4 371])
      .ret)
     .skip))
     (.reg [
     o1 372 (.addo (.t 2) 4),
     o1 373 (.addo (.t 372) 0),
     o1 374 (.ld (.t 373) 1 false),
     o1 375 (.addo (.t 2) 4),
     o1 376 (.addo (.t 375) 0),
     o1 377 (.ld (.t 376) 1 false),
     o1 378 (.call 43 [.t 374,.t 377]),
     o1 379 (.addo (.t 15) 0),
     ⟨none,.st (.t 379) (.t 378) 2,none,[]⟩])))))))))))))))
    (.gh (.reg [
    o1 380 (.bin .add (.t 191) (.c (.int .i64 1))),
    m1 191 380]))))))))))))))
  (.gh (.reg [
  o1 381 (.bin .add (.t 128) (.c (.int .i64 1))),
  m1 128 381]))))))))
 (.gh (.seq (.reg [
 m1 382 5,
 m1 383 382,
 ⟨some 384,.mv (.t 6),some (383,true),[]⟩,
 ⟨some 385,.bin .eql (.t 384) (.c (.int .u8 0)),some (383,true),[]⟩,
 o1 386 (.pick (.t 383) (.t 385) (.c (.bool false))),
 m1 387 386,
 ⟨some 388,.mv (.t 7),some (387,true),[]⟩,
 ⟨some 389,.bin .eql (.t 388) (.c (.int .i64 0)),some (387,true),[]⟩,
 o1 390 (.pick (.t 387) (.t 389) (.c (.bool false))),
 m1 391 390,
 ⟨some 392,.mv (.t 8),some (391,true),[]⟩,
 ⟨some 393,.bin .eql (.t 392) (.c (.int .i64 0)),some (391,true),[]⟩,
 o1 394 (.pick (.t 391) (.t 393) (.c (.bool false))),
 m1 4 394])
 .ret))))))))))))
def rw7:List RV:=[.tmp 4]
theorem tw7:Qt1 Tryz.prog 7 cw7 rw7 395:=Z4 Tryz.func7 rfl (by kernel_rfl) (by kernel_rfl) (by kernel_rfl) (by kernel_rfl)
theorem Zbu (a b:Span):Ct Tryz.prog 41 [.agg (Zd a),.agg (Zd b)] (.agg (Zd (ZfU a b))):=by
 refine t41.1 (by simp [Zd,KFL,KF]) (by simp [Zd,KFL,KF]) ?_
 dsimp only [c41,r41,Zd,go_sem,rA,rM,rS]
 refine call (Ux _ _) ?_
 dsimp only [Zd,go_sem,rA,rM,rS]
 rfl
theorem ZbT (s:Season) (p:Plan):Ct Tryz.prog 7 [.agg (Zr s),.agg (ZB p)] (B true):=by
 refine tw7.1 (by simp [Zr,ZB,Zj,Ze,Zm,Zg,Zd,Zo,Za,KFL,KF]) (by simp [KFL,KF]) ?_
 dsimp only [cw7,rw7,Zr,ZB,go_sem,rA,rM,rS]
 refine call ZmC ?_
 dsimp only [go_sem,rA,rM,rS]
 refine Zv rfl ?_
 dsimp only [go_sem,rA,rM,rS]
 refine call (Zmh s p) ?_
 dsimp only [go_sem,rA,rM,rS]
 by_cases hr:Wt s p=true
 case neg =>
  refine Zu (by simpa using hr) ?_
  dsimp only [go_sem,rA,rM,rS]
 refine Zv (by simpa using hr) ?_
 dsimp only [go_sem,rA,rM,rS]
 obtain ⟨hgr,h,hlegs,hp,htill⟩:=Zgd hr
 have hn:=h.num
 have hst:=h.start
 have hs4:=h.scs
 obtain ⟨⟨to,hto⟩,hpl⟩:=W6 hp
 refine call (VC s h.small p (by omega)) ?_
 dsimp only [ZbW,go_sem,rA,rM,rS]
 have hH:Z5 s p=YN s p s.scenes 0:=by unfold Z5;rw [if_neg (by simp [h.ok]),if_neg (by simp [hp])]
 have hH0:(Z5 s p).2.2.2=0:=by rw [hH];exact ZcH
 refine Zv (by simp [hH0]) ?_
 dsimp only [go_sem,rA,rM,rS]
 refine call (Zxm s h p.legs (by omega) false (Zfz s.land h.small.land s.start s.day s.pace p.legs (by omega) false)) ?_
 dsimp only [go_sem,rA,rM,rS]
 try simp only [List.length_map]
 have hsl:(Zz s p.legs).length<=p.legs.length:=Uo
 have hlast:(Zz s p.legs).length≠0->(Zz s p.legs)[(Zz s p.legs).length - 1]? = some (ZaQ (Zz s p.legs)):=Uc
 repeat (refine gb ?_;dsimp only [go_sem,rA,rM,rS])
 simp only [List.length_map]
 refine ZiA ((Zz s p.legs).length - 1) (Zy (ZaQ (Zz s p.legs))) rfl (fun hq=>?_) ?_
 . have hq0:0 < (Zz s p.legs).length:=by simpa using hq
   have hq':(Zz s p.legs).length≠0:=by omega
   exact ⟨by rw [Zi (by omega) (by omega)];omega,by rw [List.getElem?_map,hlast hq'];rfl⟩
 dsimp only [Zy,go_sem,rA,rM,rS]
 repeat (refine gb ?_;dsimp only [go_sem,rA,rM,rS])
 try simp only [List.length_map]
 by_cases hsure:WZ s p.legs=true
 case neg =>
  have hf:∀ x,Xk s p x=(1,0):=fun x=>by unfold Xk;rw [if_pos (by simpa using hsure)]
  have hH1:Z5 s p=(1,0,0,0):=by
   rw [hH]
   cases hq:s.scenes with
   | nil=>rw [hq] at hs4;simp at hs4
   | cons x r=>simp only [YN,hf];rfl
  refine Zu ?_ ?_
  . by_cases he:(YG s.land s.pace s.start s.day p.legs).2.2=0
    . have hns:¬ ((Zz s p.legs).length=0\/(ZaQ (Zz s p.legs)).arrives.hi<=s.till):=fun q=>hsure (by simp only [WZ,he,decide_true,Bool.true_and,Bool.or_eq_true,decide_eq_true_eq];exact q)
      simp;omega
    . simp [he]
  dsimp only [go_sem,rA,rM,rS]
  rw [hH1]
  repeat (refine gb ?_;dsimp only [go_sem,rA,rM,rS])
  rfl
 obtain ⟨ht,hl,hwk⟩:=ZjW h hp hsure
 have hsi:(Zz s p.legs).length=0\/(ZaQ (Zz s p.legs)).arrives.hi<=s.till:=by
  simp only [WZ,Bool.and_eq_true,Bool.or_eq_true,decide_eq_true_eq] at hsure;exact hsure.2
 refine Zv ?_ ?_
 . rw [hwk];simp;omega
 dsimp only [go_sem,rA,rM,rS]
 by_cases hn0:p.animals=0
 . have hf:∀ x,Xk s p x=(0,0):=fun x=>by unfold Xk;rw [if_neg (by simp [hsure]),if_pos hn0]
   have hH1:Z5 s p=(0,0,0,0):=by
    have h1:=Zgi h.ok hp
    have h2:∀ (l:List Scene) (i:Nat),YN s p l i=(0,0,0,0):=by
     intro l
     induction l with
     | nil=>intro i;rfl
     | cons x r ih=>intro i;simp only [YN,hf];exact ih _
    rw [hH,h2]
   refine Zu (by simpa using hn0) ?_
   dsimp only [go_sem,rA,rM,rS]
   rw [hH1]
   repeat (refine gb ?_;dsimp only [go_sem,rA,rM,rS])
   rfl
 refine Zv (by simpa using hn0) ?_
 dsimp only [go_sem,rA,rM,rS]
 have hfF:∀ x,Xk s p x=XX p.animals (goF s x p.slabs (Zz s p.legs)):=fun x=>by unfold Xk;rw [if_neg (by simp [hsure]),if_neg hn0]
 have hb:0<=p.slabs * s.slab/\p.slabs * s.slab<=12 * 1000000:=⟨Int.mul_nonneg hpl.2.2.1 (by omega),Int.mul_le_mul hpl.2.2.2 (by omega) (by omega) (by decide)⟩
 try simp only [List.length_map]
 have hday:=ZjZ h.lp ht (by omega) (by omega)
 have hhis:=(Zj9 h.lp ht (by omega)).1
 obtain ⟨hnd,hwin⟩:=Zdo h.lp ht hto
 have hdin:=(ZfE h.lp ht (Int.le_refl _) (by omega)).2
 generalize hS:Zz s p.legs=S at *
 rw [hH] at hH0 ⊢
 refine Ws [2,3,5,6,7,8,10,126,127,128] rfl (fun q:Nat=>[(128,I q)]) (fun _=>[]) (fun q=>q<=s.scenes.length/\YN s p (s.scenes.drop q) q=YN s p s.scenes 0) (fun q=>s.scenes.length - q) 0 ⟨Nat.zero_le _,rfl⟩ ?_ ?_
 . (refine Zl ?_ ?_ ?_ rfl rfl<;>dsimp only [Cm.camelL,Ze,Zm,Zg,Zj,Zd,Zo,Zy,id,go_sem,rA,rM,rS]<;>simp [Cm.camelL,Ze,Zm,Zg,Zj,Zd,Zo,Zy,Za,Zf,KFR,KFL,KF,Zc,mtO,nbr])
 rintro j ⟨hj,hi⟩
 dsimp only [go_sem,rA,rM,rS]
 by_cases hlt:j < s.scenes.length
 case neg =>
  refine Zv (by simp;omega) ?_
  dsimp only [go_sem,rA,rM,rS]
  refine gh YR ?_
  dsimp only [go_sem,rA,rM,rS]
  rw [List.drop_eq_nil_of_le (by omega),YN] at hi
  rw [<- hi]
  repeat (refine gb ?_;dsimp only [go_sem,rA,rM,rS])
  rfl
 refine Zu (by simpa using hlt) ?_
 dsimp only [go_sem,rA,rM,rS]
 refine Zp j hlt rfl ?_
 dsimp only [Zj,go_sem,rA,rM,rS]
 rw [List.drop_eq_getElem_cons hlt,YN,hfF] at hi
 rw [Zi (n:=p.slabs * s.slab) (by omega) (by omega)]
 refine call (Cm.carries_ok s.breed s.camel) ?_
 dsimp only [Cm.sres,Zd,go_sem,rA,rM,rS]
 have hec:Zaa s.breed s.camel=0:=Cm.errC_0.2 h.beast
 rw [show (if Zaa s.breed s.camel=0 then Zr2 s.breed s.camel else Ub)=ZcP s.breed s.camel from rfl,hec]
 repeat (refine gb ?_;dsimp only [go_sem,rA,rM,rS])
 try simp only [List.length_map]
 by_cases hweak:S.length=0/\p.slabs * s.slab > (ZcP s.breed s.camel).lo
 . refine Zu (by have h2:=hweak.2;simp [hweak.1];omega) ?_
   dsimp only [go_sem,rA,rM,rS]
   have hS0:S=[]:=List.eq_nil_of_length_eq_zero hweak.1
   have hg:XX p.animals (goF s s.scenes[j] p.slabs S)=(2,0):=by
    rw [hS0];unfold goF;rw [if_pos rfl,if_pos hweak.2];rfl
   rw [hg,if_pos (by decide)] at hi
   rw [<- hi]
   repeat (refine gb ?_;dsimp only [go_sem,rA,rM,rS])
   simp
 refine Zv ?_ ?_
 . by_cases q:S.length=0
   . have:¬ p.slabs * s.slab > (ZcP s.breed s.camel).lo:=fun z=>hweak ⟨q,z⟩
     simp [q];omega
   . have q':S≠[]:=fun e=>q (by rw [e];rfl)
     simp [q']
 dsimp only [go_sem,rA,rM,rS]
 have hx:=h.scene _ (List.getElem_mem hlt)
 have hy:s.scenes[j].yields.length=s.land.wells.length:=by simp only [Yg,Bool.and_eq_true,decide_eq_true_eq] at hx;omega
 refine call (Zjk s h.small j hlt hy) ?_
 dsimp only [ZY,go_sem,rA,rM,rS]
 try simp only [List.length_map]
 have hgo:goF s s.scenes[j] p.slabs S=goG s s.scenes[j] p.slabs S 0 s.camel []:=by
  unfold goF
  split
  . rename_i q;subst q;rw [if_neg (by intro z;exact hweak ⟨rfl,z⟩)];rfl
  . rfl
 have hgs:∀ (i n:Nat) (hi:i < S.length) c acc,goG s s.scenes[j] p.slabs (S.drop i) n c acc=if (Y3 s s.scenes[j] (YL s.land S[i].leg s.pace).1 p.slabs c).2≠0 then ((Y3 s s.scenes[j] (YL s.land S[i].leg s.pace).1 p.slabs c).2,(n:Int),acc)
  else goG s s.scenes[j] p.slabs (S.drop (i+1)) (n+1) (Ul s.breed (Y3 s s.scenes[j] (YL s.land S[i].leg s.pace).1 p.slabs c).1)
   (if S.drop (i+1)=[] then acc else acc ++ [(s.breed.full - (Y3 s s.scenes[j] (YL s.land S[i].leg s.pace).1 p.slabs c).1.water.lo,ZaP s s.scenes[j] S[i])]):=fun i n hi c acc=>by
  rw [List.drop_eq_getElem_cons hi,goG]
 refine Ws [2,3,5,6,7,8,10,126,127,128,13,14,15,16,19,189,190,191] rfl (fun q:Nat × Camel × List (Int × Int)=>[(191,I q.1)]) (fun q=>[(3,.cells (Cm.camelL q.2.1) 31)])
  (fun q=>q.1<=S.length/\goG s s.scenes[j] p.slabs (S.drop q.1) q.1 q.2.1 q.2.2=goF s s.scenes[j] p.slabs S/\Zx s.breed q.2.1=true/\UA p.animals q.2.2 0=none/\(q.1 < S.length\/q.1=0->q.2.2.length=q.1)) (fun q=>S.length - q.1) (0,s.camel,[])
  ⟨Nat.zero_le _,hgo.symm,h.beast.2,rfl,fun _=>rfl⟩ ?_ ?_
 . (refine Zl ?_ ?_ ?_ rfl rfl<;>dsimp only [Cm.camelL,Ze,Zm,Zg,Zj,Zd,Zo,Zy,id,go_sem,rA,rM,rS]<;>simp [Cm.camelL,Ze,Zm,Zg,Zj,Zd,Zo,Zy,Za,Zf,KFR,KFL,KF,Zc,mtO,nbr])
 rintro ⟨i,c,acc⟩ ⟨hi0,hi1,hc,hdry,hal⟩
 simp only at hi0 hi1 hc hdry hal
 dsimp only [Cm.camelL,go_sem,rA,rM,rS]
 have hnextj:IntKind.i64.wrap ((j:Int)+1)=((j+1:Nat):Int):=by rw [Zi (by omega) (by omega)];omega
 by_cases hilt:i < S.length
 case neg =>
  refine Zv (by simp;omega) ?_
  dsimp only [go_sem,rA,rM,rS]
  refine gh YR ?_
  dsimp only [go_sem,rA,rM,rS]
  rw [List.drop_eq_nil_of_le (by omega),goG] at hi1
  rw [<- hi1,show XX p.animals (0,0,acc)=(0,0) from by simp only [XX,hdry],if_neg (by decide)] at hi
  rw [hnextj]
  refine ⟨j+1,⟨hlt,hi⟩,by omega,?_⟩
  (refine Zl ?_ ?_ ?_ rfl rfl<;>dsimp only [Cm.camelL,Ze,Zm,Zg,Zj,Zd,Zo,Zy,id,go_sem,rA,rM,rS]<;>simp [Cm.camelL,Ze,Zm,Zg,Zj,Zd,Zo,Zy,Za,Zf,KFR,KFL,KF,Zc,mtO,nbr])
 refine Zu (by simpa using hilt) ?_
 dsimp only [go_sem,rA,rM,rS]
 refine Zp i hilt rfl ?_
 dsimp only [Zy,go_sem,rA,rM,rS]
 have hil:i < p.legs.length:=by omega
 refine Zp i hil rfl ?_
 dsimp only [Zo,go_sem,rA,rM,rS]
 obtain ⟨d1,d2,d3,d4,d5⟩:=hday i hil hilt
 have d6:S[i].arrives.hi<=s.till:=ZjI hhis hsi hilt
 rw [hgs i i hilt,d5] at hi1
 have hdc:=ZiD s h p.legs[i]
 generalize hD:YL s.land p.legs[i] s.pace=D at d1 d2 d3 d4 hi1 hdc
 refine call hdc ?_
 dsimp only [sres,Zd,go_sem,rA,rM,rS]
 rw [d1]
 repeat (refine gb ?_;dsimp only [go_sem,rA,rM,rS])
 refine Zv (by simp;omega) ?_
 dsimp only [go_sem,rA,rM,rS]
 have hbo:=Zbk (x:=s.scenes[j]) (d:=D.1) (slabs:=p.slabs) h.beast.1 hc
 generalize hB:Y3 s s.scenes[j] D.1 p.slabs c=B at hi1 hbo
 refine Zc7 (Yo (Vv [2,3,5,6,7,8,10,126,127,128,13,14,15,16,19,189,190,191,20,21,22,24,224,225] rfl) (YC 24 7 31 rfl rfl)) (fun q:Nat × Camel × List Camel × Nat=>[(225,I q.1),(24,.mr 9 q.2.2.2)])
  (fun q=>[(3,.cells (Cm.camelL q.2.1) 31),(9,.row q.2.2.2 7 (q.2.2.1.map Cm.camelL) 31)])
  (fun q=>q.1<=D.1.hi.toNat/\VK s.breed (VJ s s.scenes[j] p.slabs) D.1.lo (D.1.hi.toNat - q.1) q.1 q.2.1 (Zlt D.1.lo q.2.2.1)=B/\Zx s.breed q.2.1=true/\q.2.2.1.length=q.1) (fun q=>D.1.hi.toNat - q.1) (0,c,[],0)
  ⟨Nat.zero_le _,by simp only;rw [Zm6 d2,<- hB];rfl,hc,rfl⟩ ?_ ?_
 . (refine Zl ?_ ?_ ?_ rfl rfl<;>dsimp only [Cm.camelL,Ze,Zm,Zg,Zj,Zd,Zo,Zy,id,go_sem,rA,rM,rS]<;>simp [Cm.camelL,Ze,Zm,Zg,Zj,Zd,Zo,Zy,Za,Zf,KFR,KFL,KF,Zc,mtO,nbr])
 rintro ⟨n,c1,all,v⟩ ⟨hn1,hbg,hc1,hall⟩
 simp only at hn1 hbg hc1 hall
 dsimp only [Cm.camelL,go_sem,rA,rM,rS]
 by_cases hnlt:n < D.1.hi.toNat
 . refine Zu (by simp;omega) ?_
   dsimp only [go_sem,rA,rM,rS]
   refine call (Cm.carries_ok s.breed c1) ?_
   dsimp only [Cm.sres,Zd,go_sem,rA,rM,rS]
   have hec1:Zaa s.breed c1=0:=Cm.errC_0.2 ⟨h.beast.1,hc1⟩
   rw [show (if Zaa s.breed c1=0 then Zr2 s.breed c1 else Ub)=ZcP s.breed c1 from rfl,hec1]
   have haf:=ZdU (m:=VJ s s.scenes[j] p.slabs) h.beast.1 hc1
   refine call (Cm.after1_ok s.breed c1 (VJ s s.scenes[j] p.slabs)) ?_
   rw [show D.1.hi.toNat - n=(D.1.hi.toNat - (n+1))+1 from by omega,VK] at hbg
   generalize Xv s.breed c1 (VJ s s.scenes[j] p.slabs)=r at hbg haf ⊢
   dsimp only [Cm.camelL,Cm.U8,go_sem,rA,rM,rS]
   refine Zv (by decide) ?_
   dsimp only [go_sem,rA,rM,rS]
   by_cases hw:(VJ s s.scenes[j] p.slabs).load > (ZcP s.breed c1).lo
   . refine Zu (by have:p.slabs * s.slab > (ZcP s.breed c1).lo:=hw;simpa using this) ?_
     dsimp only [go_sem,rA,rM,rS]
     rw [if_pos hw] at hbg
     rw [<- hbg,if_pos (by decide)] at hi1
     rw [<- hi1,show XX p.animals (2,(i:Int),acc)=(2,(i:Int)) from by simp only [XX,hdry],if_pos (show (2:Int)≠0 from by decide)] at hi
     rw [<- hi]
     repeat (refine gb ?_;dsimp only [go_sem,rA,rM,rS])
     simp
   refine Zv (by have:¬ p.slabs * s.slab > (ZcP s.breed c1).lo:=hw;simpa using this) ?_
   dsimp only [go_sem,rA,rM,rS]
   rw [if_neg hw] at hbg
   repeat (refine gb ?_;dsimp only [go_sem,rA,rM,rS])
   by_cases hf:r.2.2≠0\/r.2.1≠0
   . refine Zu (by simpa using hf) ?_
     dsimp only [go_sem,rA,rM,rS]
     rw [if_pos hf] at hbg
     rw [<- hbg,if_pos (by decide)] at hi1
     rw [<- hi1,show XX p.animals (3,(i:Int),acc)=(3,(i:Int)) from by simp only [XX,hdry],if_pos (show (3:Int)≠0 from by decide)] at hi
     rw [<- hi]
     repeat (refine gb ?_;dsimp only [go_sem,rA,rM,rS])
     simp
   refine Zv (by simpa using hf) ?_
   dsimp only [go_sem,rA,rM,rS]
   rw [if_neg hf] at hbg
   simp only [nbr]
   dsimp only [go_sem,rA,rM,rS]
   refine ⟨(by intro c hc;simp only [List.mem_singleton] at hc;subst hc;rfl),by simp;omega,?_⟩
   dsimp only [go_sem,rA,rM,rS]
   rw [Zi (n:=(n:Int)+1) (by omega) (by omega)]
   refine ⟨(n+1,r.1,all ++ [r.1],v+1),⟨hnlt,?_,haf (by omega),by simp [hall]⟩,by simp only;omega,?_⟩
   . simp only
     rw [ZiP d2,hall];exact hbg
   simp only [List.map_append,List.map_cons,List.map_nil]
   (refine Zl ?_ ?_ ?_ rfl rfl<;>dsimp only [Cm.camelL,Ze,Zm,Zg,Zj,Zd,Zo,Zy,id,go_sem,rA,rM,rS]<;>simp [Cm.camelL,Ze,Zm,Zg,Zj,Zd,Zo,Zy,Za,Zf,KFR,KFL,KF,Zc,mtO,nbr])
 refine Zv (by simp;omega) ?_
 dsimp only [go_sem,rA,rM,rS]
 rw [show D.1.hi.toNat - n=0 from by omega,VK] at hbg
 refine gh (UQ 24 9 v rfl rfl rfl rfl) ?_
 dsimp only [go_sem,rA,rM,rS]
 have hal0:D.1.lo.toNat - 1 < all.length:=by omega
 refine Zp (D.1.lo.toNat - 1) hal0 (by rw [Zi (by omega) (by omega)];omega) ?_
 dsimp only [Cm.camelL,go_sem,rA,rM,rS]
 refine ⟨D.1.lo.toNat,all.length,⟨by omega,by simp,by omega,by simp⟩,?_⟩
 dsimp only [go_sem,rA,rM,rS]
 have hoB:Zlt D.1.lo all=(all.drop D.1.lo.toNat).foldl Zbp all[D.1.lo.toNat - 1]:=by
  unfold Zlt;rw [if_neg (by omega),List.getElem?_eq_getElem hal0];rfl
 rw [show ((all.map Cm.camelL).take all.length).drop D.1.lo.toNat=(all.drop D.1.lo.toNat).map Cm.camelL from by rw [List.take_of_length_le (by simp),List.map_drop]]
 simp only [List.length_map]
 have hYl:(all.drop D.1.lo.toNat).length<=100000:=by rw [List.length_drop];omega
 generalize all.drop D.1.lo.toNat=Y at hoB hYl ⊢
 refine Ws [2,3,5,6,7,8,10,126,127,128,13,14,15,16,19,189,190,191,20,21,301,302,303] rfl (fun q:Nat × Camel=>[(303,I q.1)]) (fun q=>[(3,.cells (Cm.camelL q.2) 31)])
  (fun q=>q.1<=Y.length/\(Y.drop q.1).foldl Zbp q.2=Zlt D.1.lo all) (fun q=>Y.length - q.1) (0,all[D.1.lo.toNat - 1]) ⟨Nat.zero_le _,hoB.symm⟩ ?_ ?_
 . (refine Zl ?_ ?_ ?_ rfl rfl<;>dsimp only [Cm.camelL,Ze,Zm,Zg,Zj,Zd,Zo,Zy,id,go_sem,rA,rM,rS]<;>simp [Cm.camelL,Ze,Zm,Zg,Zj,Zd,Zo,Zy,Za,Zf,KFR,KFL,KF,Zc,mtO,nbr])
 rintro ⟨m,c2⟩ ⟨hm0,hm1⟩
 simp only at hm0 hm1
 dsimp only [Cm.camelL,go_sem,rA,rM,rS]
 by_cases hmlt:m < Y.length
 . refine Zu (by simpa using hmlt) ?_
   dsimp only [go_sem,rA,rM,rS]
   refine Zp m hmlt rfl ?_
   dsimp only [Cm.camelL,go_sem,rA,rM,rS]
   rw [List.drop_eq_getElem_cons hmlt,List.foldl_cons] at hm1
   refine call (Zbu c2.water Y[m].water) ?_
   dsimp only [Zd,go_sem,rA,rM,rS]
   refine call (Zbu c2.fat Y[m].fat) ?_
   dsimp only [Zd,go_sem,rA,rM,rS]
   refine call (Zbu c2.sore Y[m].sore) ?_
   dsimp only [Zd,go_sem,rA,rM,rS]
   have hnm:IntKind.i64.wrap ((m:Int)+1)=((m+1:Nat):Int):=by rw [Zi (by omega) (by omega)];omega
   rw [hnm]
   refine ⟨(m+1,Zbp c2 Y[m]),⟨hmlt,hm1⟩,by simp only;omega,?_⟩
   (refine Zl ?_ ?_ ?_ rfl rfl<;>dsimp only [Cm.camelL,Ze,Zm,Zg,Zj,Zd,Zo,Zy,Zbp,id,go_sem,rA,rM,rS]<;>simp [Cm.camelL,Ze,Zm,Zg,Zj,Zd,Zo,Zy,Zbp,Za,Zf,KFR,KFL,KF,Zc,mtO,nbr])
 refine Zv (by simp;omega) ?_
 dsimp only [go_sem,rA,rM,rS]
 rw [List.drop_eq_nil_of_le (by omega),List.foldl_nil] at hm1
 rw [<- hm1] at hbg
 refine gh YR ?_
 dsimp only [go_sem,rA,rM,rS]
 rw [<- hbg] at hi1 hbo
 rw [if_neg (by simp)] at hi1
 simp only at hi1 hbo
 have hwb:=Zc2 h.beast.1 hbo
 rw [Zi (n:=(i:Int)+1) (by omega) (by omega)]
 simp only [List.length_map]
 by_cases hlst:i+1=S.length
 . refine Zu (by simp;omega) ?_
   dsimp only [go_sem,rA,rM,rS]
   refine gh YR ?_
   dsimp only [go_sem,rA,rM,rS]
   rw [if_pos (List.drop_eq_nil_of_le (by omega)),List.drop_eq_nil_of_le (by omega),goG] at hi1
   rw [<- hi1,show XX p.animals (0,0,acc)=(0,0) from by simp only [XX,hdry],if_neg (by decide)] at hi
   rw [hnextj]
   refine ⟨j+1,⟨hlt,hi⟩,by omega,?_⟩
   (refine Zl ?_ ?_ ?_ rfl rfl<;>dsimp only [Cm.camelL,Ze,Zm,Zg,Zj,Zd,Zo,Zy,id,go_sem,rA,rM,rS]<;>simp [Cm.camelL,Ze,Zm,Zg,Zj,Zd,Zo,Zy,Za,Zf,KFR,KFL,KF,Zc,mtO,nbr])
 refine Zv (by simp;omega) ?_
 dsimp only [go_sem,rA,rM,rS]
 rw [if_neg (by intro e;rw [List.drop_eq_nil_iff] at e;omega)] at hi1
 have hw1:=Zjj (YV s s.scenes[j]) (U9 h.small.land hy) S[i].well S[i].arrives.lo
 simp only [ZY] at hw1
 refine call hw1 ?_
 dsimp only [ZiE,Zd,go_sem,rA,rM,rS]
 have hwin1:=(hwin _ (List.mem_map.2 ⟨_,List.getElem_mem hilt,rfl⟩)).2
 have hdin1:=hdin _ (List.getElem_mem hilt)
 have hw0:(Xd (YV s s.scenes[j]) S[i].well [] S[i].arrives.lo).2.2=0:=by
  rw [show S[i].well=((S[i].well.toNat:Nat):Int) from by omega,ZiB (Zcu h.land hx) (by rw [show (YV s s.scenes[j]).wells.length=s.land.wells.length from Vu hy];omega) ⟨by omega,by omega⟩ (by simp) rfl];rfl
 rw [hw0]
 refine Zv (by decide) ?_
 dsimp only [go_sem,rA,rM,rS]
 have hm2:0<=p.animals * (s.breed.full - c2.water.lo)/\p.animals * (s.breed.full - c2.water.lo)<=30 * 1000000:=⟨Int.mul_nonneg hpl.1 (by omega),Int.mul_le_mul (by omega) (by omega) (by omega) (by decide)⟩
 rw [Zi (n:=s.breed.full - c2.water.lo) (by omega) (by omega),Zi (n:=p.animals * (s.breed.full - c2.water.lo)) (by omega) (by omega)]
 have hal1:=hal (.inl hilt)
 by_cases hdr:p.animals * (s.breed.full - c2.water.lo) > ZaP s s.scenes[j] S[i]
 . refine Zu (by have:p.animals * (s.breed.full - c2.water.lo) > (Xd (YV s s.scenes[j]) S[i].well [] S[i].arrives.lo).1.lo:=hdr;simpa using this) ?_
   dsimp only [go_sem,rA,rM,rS]
   obtain ⟨more,hmore⟩:=ZcK (s:=s) (x:=s.scenes[j]) (slabs:=p.slabs) (l:=S.drop (i+1)) (i:=i+1) (c:=Ul s.breed c2) (acc:=acc ++ [(s.breed.full - c2.water.lo,ZaP s s.scenes[j] S[i])])
   have hf:XX p.animals (goF s s.scenes[j] p.slabs S)=(4,(i:Int)):=by
    rw [<- hi1];simp only [XX]
    rw [hmore,List.append_assoc,Vm hdry,hal1]
    simp only [List.cons_append,List.nil_append,UA]
    rw [if_pos (by omega)];simp
   rw [hf,if_pos (show (4:Int)≠0 from by decide)] at hi
   rw [<- hi]
   repeat (refine gb ?_;dsimp only [go_sem,rA,rM,rS])
   simp
 refine Zv (by have:¬ p.animals * (s.breed.full - c2.water.lo) > (Xd (YV s s.scenes[j]) S[i].well [] S[i].arrives.lo).1.lo:=hdr;simpa using this) ?_
 dsimp only [go_sem,rA,rM,rS]
 refine call (Ux _ _) ?_
 dsimp only [Zd,go_sem,rA,rM,rS]
 refine gh YR ?_
 dsimp only [go_sem,rA,rM,rS]
 rw [Zi (n:=(i:Int)+1) (by omega) (by omega)]
 refine ⟨(i+1,Ul s.breed c2,acc ++ [(s.breed.full - c2.water.lo,ZaP s s.scenes[j] S[i])]),⟨by simp only;omega,hi1,Zav h.beast.1 hbo,?_,fun _=>by simp [hal1]⟩,by simp only;omega,?_⟩
 . simp only
   rw [Vm hdry]
   simp only [UA]
   rw [if_neg (by omega)]
 (refine Zl ?_ ?_ ?_ rfl rfl<;>dsimp only [Cm.camelL,Ze,Zm,Zg,Zj,Zd,Zo,Zy,Ul,id,go_sem,rA,rM,rS]<;>simp [Cm.camelL,Ze,Zm,Zg,Zj,Zd,Zo,Zy,Ul,Za,Zf,KFR,KFL,KF,Zc,mtO,nbr])
end Go.Proofs.YtiigiflofnjilaaGreat
