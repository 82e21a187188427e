/- Walks and plain laws that lead to the given statement, part 9 of 10. -/
import Derived.Test.YthilckbkffjliaaQH
import Derived.Test.YthilckbkffjliaaProg
set_option maxRecDepth 100000
set_option maxHeartbeats 8000000
set_option linter.all false
open Nat renaming reduceAdd->rA,reduceMul->rM,reduceSub->rS,beq_refl->nbr
namespace Go.Azalai
theorem ZoV {p:Pact} {c d:Co} (h:c.debts=d.debts) (id:Int):XC p c id=XC p d id:=by simp only [XC,h]
theorem Zud {p:Pact} {c d:Co} (h1:Vr p c=Vr p d) (h2:∀ w,UC p c w=UC p d w) (h3:c.debts=d.debts):VB p c=VB p d:=by
 simp only [VB,h1,h2,ZoV h3]
def ZAk (p:Pact) (c:Co) (a:Int):Co:=match c.loans a with
 | none=>c
 | some l=>ZN p c a p.ends l
theorem ZiY {p:Pact} {c:Co} {a:Int} (h0:0<=a) (h1:a<=9999):VB p (ZAk p c a)=VB p c:=by
 unfold ZAk
 split
 . rfl
 . rename_i l hl
   exact Zud (ZdX hl h0 h1) (Zc1 hl h0 h1) rfl
def hasN (p:Pact) (c:Co):List Int :=
 (List.range p.partners.length).map fun i=>Zr6 (fun x=>x.put+(ZF p c.result).getD i 0+c.extra x.id+XC p c x.id) p.partners[i]?
theorem Zkl {p:Pact} {c:Co} (h:∀ a,c.loans a=none):VB p c=hasN p c:=by
 simp only [VB,hasN,ZdT h,Zdl h]
theorem ZdB {p:Pact} {a:Int}:∀ {l:List Letter} {c:Co},(∀ b,b≠a->c.loans b=none)->(∀ x ∈ l,x.kind=3->x.animal=a)->∀ b,b≠a->(Xx p c l).loans b=none
 | [],c,h,_,b,hb=>h b hb
 | x :: l,c,h,hl,b,hb=>by
  refine ZdB (l:=l) (c:=(Zp p c x).1) (fun b hb=>?_) (fun y hy=>hl y (by simp [hy])) b hb
  have h0:=h b hb
  have h3:=hl x (by simp)
  unfold Zp
  repeat' split
  all_goals first | exact h0 | (simp only [upd,ZN];split<;>first | rfl | exact h0 | (rename_i q;exact absurd (q.trans (h3 (by assumption))) hb))
theorem Vc {p:Pact} {l:List Letter} {a:Int} (h0:0<=a) (h1:a<=9999) (hl:∀ x ∈ l,x.kind=3->x.animal=a):YA p l=hasN p (ZAk p (Xx p co0 l) a):=by
 rw [YA,<- ZiY h0 h1]
 refine Zkl fun b=>?_
 have ho:=ZdB (p:=p) (c:=co0) (fun _ _=>rfl) hl
 by_cases e:b=a
 . subst e
   unfold ZAk
   split
   . assumption
   . simp [ZN,upd]
 . have:=ho b e
   unfold ZAk
   split
   . exact this
   . simp only [ZN,upd,if_neg e];exact this
end Go.Azalai
namespace Go.Proofs.Ythilckbkffjliaa
open Go Go.Sx Go.Azalai
theorem v1:ZF Vz 1001=[501,200,300]:=by decide +kernel
theorem v2:ZF Vz (-100)=[-67,-33,0]:=by decide +kernel
theorem e3:YS Vz Vf=0:=by decide +kernel
theorem e4:YS Vz (Vf ++ Zso)=0:=by decide +kernel
theorem e5:YS Vz (Vf ++ [Zsa])=0:=by decide +kernel
theorem e6:YS Vz XF=0:=by decide +kernel
theorem v3:YY Vz Vf=[951,440,310]:=by
 rw [YY,if_pos e3,Vc (a:=7) (by decide) (by decide) (by decide +kernel)];decide +kernel
theorem v4:YY Vz (Vf ++ Zso)=[941,450,310]:=by
 rw [YY,if_pos e4,Vc (a:=7) (by decide) (by decide) (by decide +kernel)];decide +kernel
theorem v5:ZzN Vz (Vf ++ [Zsa])=[0,0,4,0,0,0]:=by
 rw [ZzN,if_pos e5];decide +kernel
theorem v60:YA Vz (Z1 0 0 XF)=[881,412,408]:=by
 rw [Vc (a:=7) (by decide) (by decide) (by decide +kernel)];decide +kernel
theorem v61:YA Vz (Z1 1 0 XF)=[951,440,310]:=by
 rw [Vc (a:=7) (by decide) (by decide) (by decide +kernel)];decide +kernel
theorem rd6:Xi Vz XF=XF:=by decide +kernel
theorem v6:Ys Vz XF=0/\YR Vz XF=[(881,951),(412,440),(310,408)]:=by
 have h0:Ys Vz XF=0:=by rw [Ys,if_pos e6,rd6];decide +kernel
 refine ⟨h0,?_⟩
 rw [YR,if_pos h0,rd6]
 have hm:(XF.filter (·.mouth)).length=1:=by decide +kernel
 simp only [VV,hm]
 rw [show List.range Vz.partners.length=[0,1,2] from by decide]
 simp only [List.map_cons,List.map_nil,show 2 ^ 1 - 1=1 from rfl,ZrE,Zsh,ZH,v60,v61]
 decide
end Go.Proofs.Ythilckbkffjliaa
namespace Go.Azalai
structure Bd (n:Nat) (c:Co):Prop where
 rb:-(n * 100000000:Int)<=c.result/\c.result<=n * 100000000
 eb:∀ i,-(n * 100000000:Int)<=c.extra i/\c.extra i<=n * 100000000
 bb:∀ x y,-(n * 100000000:Int)<=c.debts x y/\c.debts x y<=n * 100000000
 sb:∀ a l,c.loans a=some l->0<=l.2/\l.2<=100000
theorem Bd.co0:Bd 0 co0:=⟨by simp [Go.Azalai.co0],fun i=>by simp [Go.Azalai.co0],fun x y=>by simp [Go.Azalai.co0],fun a l h=>by simp [Go.Azalai.co0] at h⟩
theorem Bd.next {n:Nat} {c:Co} (h:Bd n c):Bd (n+1) c:=⟨by have:=h.rb;omega,fun i=>by have:=h.eb i;omega,fun x y=>by have:=h.bb x y;omega,h.sb⟩
theorem Bd.home {p:Pact} {n:Nat} {c:Co} (h:Bd n c) (hp:0<=p.hire/\p.hire<=1000) {a d:Int} {l:Int × Int} (hl:c.loans a=some l) (hd:0<=d/\d<=100000):Bd (n+1) (ZN p c a d l):=by
 have hs:=h.sb a l hl
 have hb:=Zcx (h:=p.hire) (t:=d - l.2) hp.1 hp.2 (by omega) (by omega)
 refine ⟨?_,fun i=>?_,fun x y=>?_,fun i m hi=>?_⟩
 . have:=h.rb
   simp only [ZN];omega
 . have h1:=h.eb i
   have h2:=h.eb l.1
   simp only [ZN,upd]
   split<;>omega
 . have:=h.bb x y
   simp only [ZN];omega
 . simp only [ZN,upd] at hi
   split at hi
   . cases hi
   . exact h.sb i m hi
theorem Bd.deb {n:Nat} {c:Co} (h:Bd n c) {who other v:Int} (hv:-100000000<=v - c.debts who other/\v - c.debts who other<=100000000):Bd (n+1) { c with debts:=upd c.debts who (upd (c.debts who) other v) }:=by
 refine ⟨by have:=h.rb;simp only;omega,fun i=>by have:=h.eb i;simp only;omega,fun x y=>?_,h.sb⟩
 have h1:=h.bb x y
 have h2:=h.bb who other
 simp only [upd]
 by_cases hx:x=who
 . subst hx
   rw [if_pos rfl]
   simp only [upd]
   split
   . rename_i q;subst q;omega
   . omega
 . rw [if_neg hx];omega
theorem Bd.step {p:Pact} {n:Nat} {c:Co} (h:Bd n c) (hp:ZA p=true) {x:Letter} (hx:Zk p x=true):Bd (n+1) (Zp p c x).1:=by
 have hpp:(0<=p.hire/\p.hire<=1000)/\(0<=p.calf/\p.calf<=1000):=by
  simp only [ZA,Bool.and_eq_true,inR,decide_eq_true_eq] at hp
  omega
 have hday:0<=x.day/\x.day<=100000:=by
  simp only [Zk,Bool.and_eq_true,inR,decide_eq_true_eq] at hx
  exact hx.1.2
 have hrb:=h.rb
 unfold Zp
 split
 . rename_i k
   have hr:0<=x.rials/\x.rials<=10000000:=by simp only [Zk,k,Bool.and_eq_true] at hx;simp [inR] at hx;omega
   exact ⟨by simp only;omega,h.next.eb,h.next.bb,h.sb⟩
 split
 . rename_i k
   have hr:0<=x.rials/\x.rials<=10000000:=by simp only [Zk,k,Bool.and_eq_true] at hx;simp [inR] at hx;omega
   exact ⟨by simp only;omega,h.next.eb,h.next.bb,h.sb⟩
 split
 . split
   . exact h.next
   split
   . exact h.next
   . refine ⟨h.next.rb,h.next.eb,h.next.bb,fun a l hl=>?_⟩
     simp only [upd] at hl
     split at hl
     . cases hl;exact hday
     . exact h.sb a l hl
 split
 . split
   . exact h.next
   . rename_i l hl;exact h.home hpp.1 hl hday
 split
 . split
   . exact h.next
   split
   . exact h.next
   . rename_i l hl
     have:=h.home hpp.1 hl hday
     exact ⟨this.rb,this.eb,this.bb,this.sb⟩
 split
 . rename_i k
   have hr:0<=x.rials/\x.rials<=10000000:=by simp only [Zk,k,Bool.and_eq_true] at hx;simp [inR] at hx;omega
   split
   . exact h.next
   split
   . exact h.next
   . rename_i l hl
     have hb:=Go.Proofs.Ythilckbkffjliaa.part_bd hr.1 hr.2 hpp.2.1 hpp.2.2
     refine ⟨by simp only;omega,fun i=>?_,h.next.bb,h.sb⟩
     have h1:=h.eb i
     have h2:=h.eb l.1
     simp only [upd]
     split<;>omega
 split
 . rename_i k
   have hr:0<=x.rials/\x.rials<=10000000:=by simp only [Zk,k,Bool.and_eq_true] at hx;simp [inR] at hx;omega
   exact h.deb (by omega)
 split
 . rename_i k
   have hr:0<=x.rials/\x.rials<=10000000:=by simp only [Zk,k,Bool.and_eq_true] at hx;simp [inR] at hx;omega
   split
   . exact h.next
   . exact h.deb (by omega)
 . exact h.next
theorem Bd.run {p:Pact} (hp:ZA p=true):∀ {l:List Letter} {n:Nat} {c:Co},Bd n c->(∀ x ∈ l,Zk p x=true)->Bd (n+l.length) (Xx p c l)
 | [],_,_,h,_=>h
 | x :: l,n,c,h,hl=>by
  have:=Bd.run (l:=l) hp (h.step hp (hl x (by simp))) fun y hy=>hl y (by simp [hy])
  rw [List.length_cons,show n+(l.length+1)=n+1+l.length from by omega]
  exact this
theorem ZbY:∀ {l:List Int} {x:Int},(∀ y ∈ l,0<=y)->x ∈ l->x<=Zt l
 | y :: l,x,h,hx=>by
  have h1:=h y (by simp)
  have h2:=XT (l:=l) fun z hz=>h z (by simp [hz])
  simp only [Zt]
  rcases List.mem_cons.1 hx with rfl | hx
  . omega
  . have:=ZbY (l:=l) (fun z hz=>h z (by simp [hz])) hx;omega
theorem ZlI {amount:Int} {by':List Int} (ha:0<=amount) (hb:∀ x ∈ by',0<=x) (hs:0 < Zt by') {i:Nat} (hi:i < (Zy amount by').length):0<=(Zy amount by')[i]/\(Zy amount by')[i]<=amount+1:=by
 have hi':i < by'.length:=by simpa [Zy] using hi
 have h0:=hb _ (List.getElem_mem hi')
 have h1:=ZbY hb (List.getElem_mem hi')
 have hp:0<=ZE amount by' i/\ZE amount by' i<=amount:=by
  unfold ZE
  rw [UO hi']
  have hm:0<=amount * by'[i]:=Int.mul_nonneg ha h0
  refine ⟨Int.tdiv_nonneg hm (by omega),?_⟩
  rw [Int.tdiv_eq_ediv_of_nonneg hm]
  have h2:amount * by'[i]<=amount * Zt by':=Int.mul_le_mul_of_nonneg_left h1 ha
  exact Int.ediv_le_of_le_mul hs h2
 simp only [Zy,List.getElem_map,List.getElem_range]
 split<;>omega
end Go.Azalai
namespace Go.Proofs.Ythilckbkffjliaa
open Go Go.Sx
def c3:SC:=(sr1 [
 o1 2 (.box (.t 0) 0 24),
 o1 4 (.mv (.c (.bool false)))]
 (.seq (sr1 [
 o1 10 (lt 2 4),
 o1 11 (.call 16 [.t 10,.c (.slice none 0 0)])]
 (.cond (.t 11)
 (sr1 [
  o1 4 (.mv (.c (.bool true)))]
  .ret)
 .skip))
 (sr1 [
 o1 12 (lt 2 4),
 o1 13 (.call 17 [.t 12]),
 o1 5 (.alloc [.slice none 0 0,.int .i64 0,.int .i64 0,.int .i64 0] 24),
 ⟨none,.st (.t 5) (.t 13) 4,none,[]⟩]
 (sr1 [
 o1 15 (lt 5 4),
 m1 16 1,
 o1 17 (.call 18 [.t 15,.t 16]),
 m1 14 17,
 o1 18 (.ext (.t 14) 0),
 o1 19 (.ext (.t 14) 1),
 m1 6 18,
 m1 7 19]
 (sr1 [
 o1 21 (lt 2 4),
 m1 22 1,
 o1 23 (.call 19 [.t 21,.t 22]),
 m1 20 23,
 o1 24 (.ext (.t 20) 0),
 o1 25 (.ext (.t 20) 1),
 m1 8 24,
 m1 9 25]
 (.seq (.regd [0,1,2,3,4,5,6,7,8,9,10,11,12,13,14,15,16,17,18,19,20] [
 .op (o1 26 (lt 5 4)),
 .op (p1 27 (.call 20 [.t 26]) [0]),
 .op (o1 28 (lt 2 4)),
 .op (p1 29 (.call 21 [.t 28]) [1,2]),
 .op (p1 30 (.bin .eql (.t 27) (.t 29)) [1,3]),
 .op (p1 31 (.mv (.t 30)) [3,4]),
 .op (q1 32 31 true (.mv (.t 6)) [5]),
 .op (q1 33 31 true (.mv (.t 8)) [5]),
 .op (q1 34 31 true (.call 22 [.t 32,.t 33]) [5,6,7]),
 .op (p1 35 (.pick (.t 31) (.t 34) (.c (.bool false))) [5,8]),
 .op (p1 36 (.mv (.t 35)) [8,9]),
 .op (q1 37 36 true (.mv (.t 7)) [10]),
 .op (q1 38 36 true (.mv (.t 9)) [10]),
 .op (q1 39 36 true (.bin .eql (.t 37) (.t 38)) [10,11,12]),
 .op (p1 40 (.pick (.t 36) (.t 39) (.c (.bool false))) [10,13]),
 .op (p1 41 (.mv (.t 40)) [10,14]),
 .op (q1 42 41 true (lt 5 4) [15]),
 .op (q1 43 41 true (lt 2 4) [15]),
 .op (q1 44 41 true (.call 23 [.t 42,.t 43]) [15,16,17]),
 .op (p1 45 (.pick (.t 41) (.t 44) (.c (.bool false))) [15,18]),
 .op (p1 4 (.mv (.t 45)) [0,1,2,3,4,5,6,7,8,9,10,11,12,13,14,15,16,17,18,19])] 0 0 [
])
 .ret))))))
def r3:List RV:=[.tmp 4]
theorem b3:Z3 Try.prog 3=true:=by kernel_rfl
theorem t3:Qt1 Try.prog 3 c3 r3 46:=XN Try.func3 rfl b3 (by kernel_rfl) (by kernel_rfl) (by kernel_rfl)
def c17:SC:=(sr1 [
 o1 1 (.box (.t 0) 0 24),
 o1 2 (.alloc [.slice none 0 0,.int .i64 0,.int .i64 0,.int .i64 0] 24)]
 (sr1 [
 o1 3 (.bsl 3 64 []),
 o1 4 (ao 1 0),
 o1 5 (lf 4 1),
 o1 6 (.app 3 24 64 (.t 3) (.t 5)),
 o1 7 (ao 1 0),
 ⟨none,.st (.t 7) (.t 6) 1,none,[]⟩]
 (sr1 [
 o1 8 (lt 1 4),
 ⟨none,.st (.t 2) (.t 8) 4,none,[]⟩]
 .ret)))
def r17:List RV:=[.cell 2 4 true]
theorem t17:Qt1 Try.prog 17 c17 r17 9:=XN Try.func17 rfl (by kernel_rfl) (by kernel_rfl) (by kernel_rfl) (by kernel_rfl)
def c23:SC:=(sr1 [
 o1 2 (.box (.t 0) 0 24),
 o1 3 (.box (.t 1) 0 24),
 o1 4 (.mv (.c (.bool false)))]
 (.seq (sr1 [
 o1 6 (ao 2 1),
 o1 7 (lf 6 1),
 o1 8 (ao 3 1),
 o1 9 (lf 8 1),
 o1 10 (.bin .neq (.t 7) (.t 9)),
 m1 11 10,
 g1 12 11 false (ao 2 2),
 g1 13 11 false (lf 12 1),
 g1 14 11 false (ao 3 2),
 g1 15 11 false (lf 14 1),
 g1 16 11 false (.bin .neq (.t 13) (.t 15)),
 o1 17 (.pick (.t 11) (.c (.bool true)) (.t 16)),
 m1 18 17,
 g1 19 18 false (ao 2 3),
 g1 20 18 false (lf 19 1),
 g1 21 18 false (ao 3 3),
 g1 22 18 false (lf 21 1),
 g1 23 18 false (.bin .neq (.t 20) (.t 22)),
 o1 24 (.pick (.t 18) (.c (.bool true)) (.t 23)),
 m1 25 24,
 g1 26 25 false (ao 2 0),
 g1 27 25 false (lf 26 1),
 g1 28 25 false (.len (.t 27)),
 g1 29 25 false (ao 3 0),
 g1 30 25 false (lf 29 1),
 g1 31 25 false (.len (.t 30)),
 g1 32 25 false (.bin .neq (.t 28) (.t 31)),
 o1 33 (.pick (.t 25) (.c (.bool true)) (.t 32))]
 (.cond (.t 33)
 (sr1 [
  o1 4 (.mv (.c (.bool false)))]
  .ret)
 .skip))
 (.seq (sr1 [
 o1 5 (.mv (cn 0))]
 (.block 0 (.loop (.seq (sr1 [
  m1 34 5,
  o1 35 (ao 2 0),
  o1 36 (lf 35 1),
  o1 37 (.len (.t 36)),
  o1 38 (.bin .lss (.t 34) (.t 37))]
  (.cond (.t 38)
  .skip
  (.exit 0)))
  (.seq (.block 1 (.seq (.regd [0,1,2,3,4,5,6,7,8,9,10] [
   .op (o1 41 (ao 2 0)),
   .op (p1 42 (lf 41 1) [0]),
   .op (m1 43 5),
   .op (p1 44 (.ixs (.t 42) (.t 43) 3) [1,2]),
   .op (p1 45 (lt 44 3) [3]),
   .op (o1 46 (ao 3 0)),
   .op (p1 47 (lf 46 1) [5]),
   .op (m1 48 5),
   .op (p1 49 (.ixs (.t 47) (.t 48) 3) [6,7]),
   .op (p1 50 (lt 49 3) [8]),
   .op (p1 51 (.eqs true true [1,1,1] (.t 45) (.t 50)) [4,9])] 0 0 [
])
 (.cond (.t 51)
 (sr1 [
  o1 4 (.mv (.c (.bool false)))]
  .ret)
 .skip)))
 (.reg [
 m1 39 5,
 o1 40 (.bin .add (.t 39) (cn 1)),
 m1 5 40]))))))
 (sr1 [
 o1 4 (.mv (.c (.bool true)))]
 .ret))))
def r23:List RV:=[.tmp 4]
theorem t23:Qt1 Try.prog 23 c23 r23 52:=XN Try.func23 rfl (by kernel_rfl) (by kernel_rfl) (by kernel_rfl) (by kernel_rfl)
def c46:SC:=(sr1 [
 o1 2 (.box (.t 0) 0 24),
 o1 4 (.mv (.c (.slice none 0 0)))]
 (sr1 [
 o1 18 (ao 2 0),
 o1 19 (lf 18 1),
 o1 20 (.len (.t 19)),
 m1 5 20]
 (sr1 [
 o1 6 (.mv (cn 1000)),
 o1 7 (.mv (cn 1))]
 (.seq (sr1 [
 m1 21 1,
 o1 22 (.bin .lss (.t 21) (cn 0))]
 (.cond (.t 22)
 (sr1 [
  o1 6 (.mv (cn 0)),
  o1 7 (.mv (.c (.int .i64 (-1))))]
  (sr1 [
  o1 8 (.mv (cn 0))]
  (.block 0 (.loop (.seq (sr1 [
   m1 23 8,
   m1 24 5,
   o1 25 (.bin .lss (.t 23) (.t 24))]
   (.cond (.t 25)
   .skip
   (.exit 0)))
   (.seq (.block 1 (.reg [
    m1 28 6,
    o1 29 (ao 2 0),
    o1 30 (lf 29 1),
    m1 31 8,
    o1 32 (.ixs (.t 30) (.t 31) 3),
    o1 33 (ao 32 1),
    o1 34 (lf 33 1),
    o1 35 (.bin .add (.t 28) (.t 34)),
    m1 6 35]))
   (.reg [
   m1 26 8,
   o1 27 (.bin .add (.t 26) (cn 1)),
   m1 8 27])))))))
 .skip))
 (sr1 [
 m1 36 1,
 m1 37 7,
 o1 38 (.bin .mul (.t 36) (.t 37)),
 m1 9 38]
 (.seq (.regd [0,2,1,3,4,5] [
 .op (m1 39 5),
 .op (m1 41 5)] 4 0 [
 ⟨some 40,.mks 1 8 [.int .i64 0] 3 (.t 39),none,[0]⟩,
 ⟨some 42,.mks 1 8 [.int .i64 0] 3 (.t 41),none,[2]⟩,
 ⟨some 10,.mv (.t 40),none,[0,1]⟩,
 ⟨some 11,.mv (.t 42),none,[0,1,2,3,4]⟩])
 (sr1 [
 m1 43 9,
 m1 12 43]
 (.seq (sr1 [
 o1 13 (.mv (cn 0))]
 (.block 2 (.loop (.seq (sr1 [
  m1 44 13,
  m1 45 5,
  o1 46 (.bin .lss (.t 44) (.t 45))]
  (.cond (.t 46)
  .skip
  (.exit 2)))
  (.seq (.block 3 (sr1 [
   o1 49 (ao 2 0),
   o1 50 (lf 49 1),
   m1 51 13,
   o1 52 (.ixs (.t 50) (.t 51) 3),
   o1 53 (ao 52 2),
   o1 54 (lf 53 1),
   m1 14 54]
   (.seq (sr1 [
   m1 55 1,
   o1 56 (.bin .lss (.t 55) (cn 0))]
   (.cond (.t 56)
   (.reg [
    o1 57 (ao 2 0),
    o1 58 (lf 57 1),
    m1 59 13,
    o1 60 (.ixs (.t 58) (.t 59) 3),
    o1 61 (ao 60 1),
    o1 62 (lf 61 1),
    m1 14 62])
   .skip))
   (.seq (.regd [0,1,4,5,6,7,8,14,2,3,9,10,11,12,13,15,16,17] [
   .op (m1 63 10),
   .op (m1 64 13),
   .op (m1 67 9),
   .op (m1 68 14),
   .op (p1 69 (.bin .mul (.t 67) (.t 68)) [4,5]),
   .op (m1 70 6),
   .op (p1 71 (.div .quo (.t 69) (.t 70)) [6,7]),
   .op (p1 77 (.ixs (.t 63) (.t 64) 1) [0,1,4,5,6,7,8]),
   .hide (.t 77),
   .op (m1 65 11),
   .op (m1 66 13),
   .op (m1 72 9),
   .op (m1 73 14),
   .op (p1 74 (.bin .mul (.t 72) (.t 73)) [9,10]),
   .op (m1 75 6),
   .op (p1 76 (.div .rem (.t 74) (.t 75)) [11,12])] 0 1 [
   ⟨none,.st (.t 77) (.t 71) 1,none,[0,1,4,5,6,7,8,14]⟩,
   ⟨some 78,.ixs (.t 65) (.t 66) 1,none,[0,1,2,3,4,5,6,7,8,9,10,11,12,13,14,15]⟩,
   ⟨none,.st (.t 78) (.t 76) 1,none,[0,1,2,3,4,5,6,7,8,9,10,11,12,13,14,15,16]⟩])
   (.reg [
   m1 79 12,
   m1 80 10,
   m1 81 13,
   o1 82 (.ixs (.t 80) (.t 81) 1),
   o1 83 (lf 82 1),
   o1 84 (.bin .sub (.t 79) (.t 83)),
   m1 12 84])))))
  (.reg [
  m1 47 13,
  o1 48 (.bin .add (.t 47) (cn 1)),
  m1 13 48]))))))
 (.seq (.block 4 (.loop (.seq (sr1 [
  m1 85 12,
  o1 86 (.bin .gtr (.t 85) (cn 0))]
  (.cond (.t 86)
  .skip
  (.exit 4)))
  (.block 5 (sr1 [
   o1 15 (.mv (cn 0))]
   (.seq (sr1 [
   o1 16 (.mv (cn 1))]
   (.block 6 (.loop (.seq (sr1 [
    m1 87 16,
    m1 88 5,
    o1 89 (.bin .lss (.t 87) (.t 88))]
    (.cond (.t 89)
    .skip
    (.exit 6)))
    (.seq (.block 7 (.seq (.regd [0,1,2,3,4,5,6,7,8] [
     .op (m1 92 11),
     .op (m1 93 16),
     .op (p1 94 (.ixs (.t 92) (.t 93) 1) [0,1]),
     .op (p1 95 (lf 94 1) [2]),
     .op (m1 96 11),
     .op (m1 97 15),
     .op (p1 98 (.ixs (.t 96) (.t 97) 1) [4,5]),
     .op (p1 99 (lf 98 1) [6]),
     .op (p1 100 (.bin .gtr (.t 95) (.t 99)) [3,7])] 0 0 [
])
 (.cond (.t 100)
 (.reg [
  m1 101 16,
  m1 15 101])
 .skip)))
 (.reg [
 m1 90 16,
 o1 91 (.bin .add (.t 90) (cn 1)),
 m1 16 91]))))))
 (sr1 [
 m1 102 10,
 m1 103 15,
 o1 104 (.ixs (.t 102) (.t 103) 1),
 o1 105 (lf 104 1),
 o1 106 (.bin .add (.t 105) (cn 1)),
 o1 107 (.ixs (.t 102) (.t 103) 1),
 ⟨none,.st (.t 107) (.t 106) 1,none,[]⟩]
 (sr1 [
 m1 108 11,
 m1 109 15,
 o1 110 (.ixs (.t 108) (.t 109) 1),
 ⟨none,.st (.t 110) (.c (.int .i64 (-1))) 1,none,[]⟩]
 (.reg [
 m1 111 12,
 o1 112 (.bin .sub (.t 111) (cn 1)),
 m1 12 112])))))))))
 (.seq (sr1 [
 o1 17 (.mv (cn 0))]
 (.block 8 (.loop (.seq (sr1 [
  m1 113 17,
  m1 114 5,
  o1 115 (.bin .lss (.t 113) (.t 114))]
  (.cond (.t 115)
  .skip
  (.exit 8)))
  (.seq (.block 9 (.reg [
   m1 118 10,
   m1 119 17,
   o1 120 (.ixs (.t 118) (.t 119) 1),
   o1 121 (lf 120 1),
   m1 122 7,
   o1 123 (.bin .mul (.t 121) (.t 122)),
   o1 124 (.ixs (.t 118) (.t 119) 1),
   ⟨none,.st (.t 124) (.t 123) 1,none,[]⟩]))
  (.reg [
  m1 116 17,
  o1 117 (.bin .add (.t 116) (cn 1)),
  m1 17 117]))))))
 (sr1 [
 m1 125 10,
 m1 4 125]
 .ret)))))))))))
def r46:List RV:=[.tmp 4]
theorem t46:Qt1 Try.prog 46 c46 r46 126:=XN Try.func46 rfl (by kernel_rfl) (by kernel_rfl) (by kernel_rfl) (by kernel_rfl)
end Go.Proofs.Ythilckbkffjliaa
namespace Go.Azalai
def cuT (c:Nat->Int) (T:List Nat) (i:Nat):Int:=if i ∈ T then -1 else c i
def Fm (c:Nat->Int) (n b:Nat):Prop:=b < n/\∀ j,j < n->c j < c b\/(c j=c b/\b<=j)
theorem Fm.uniq {c:Nat->Int} {n a b:Nat} (h:Fm c n a) (h':Fm c n b):a=b:=by
 have h1:=h.2 b h'.1
 have h2:=h'.2 a h.1
 omega
theorem ZlS {c:Nat->Int} {n:Nat} {O:List Nat} (hO:O.Perm (List.range n)) (ho:O.Pairwise fun a b=>UD c a b=true) (hc:∀ i,0<=c i) {t:Nat} (ht:t < O.length):Fm (cuT c (O.take t)) n O[t]:=by
 have hn:O.Nodup:=hO.nodup_iff.2 List.nodup_range
 refine ⟨List.mem_range.1 (hO.mem_iff.1 (List.getElem_mem ht)),fun j hj=>?_⟩
 have e0:cuT c (O.take t) O[t]=c O[t]:=if_neg (ZcM ht hn)
 rw [e0]
 by_cases hm:j ∈ O.take t
 . left
   rw [cuT,if_pos hm]
   have:=hc O[t];omega
 . rw [cuT,if_neg hm]
   obtain ⟨s,hs,rfl⟩:=List.getElem_of_mem (hO.mem_iff.2 (List.mem_range.2 hj))
   rcases Nat.lt_trichotomy s t with q | q | q
   . exact absurd (List.mem_take_iff_getElem.2 ⟨s,by omega,rfl⟩) hm
   . subst q;right;exact ⟨rfl,Nat.le_refl _⟩
   . have:=List.pairwise_iff_getElem.1 ho t s ht hs q
     simp only [UD,Bool.or_eq_true,Bool.and_eq_true,decide_eq_true_eq] at this
     omega
theorem ZjD {c:Nat->Int} {n:Nat} {O:List Nat} {t:Nat} (ht:t < O.length):((List.range n).map (cuT c (O.take t))).set O[t] (-1)=(List.range n).map (cuT c (O.take (t+1))):=by
 have hm:∀ x,x ∈ O.take (t+1)↔x ∈ O.take t\/x=O[t]:=fun x=>by rw [List.take_succ_eq_append_getElem ht,List.mem_append,List.mem_singleton]
 apply List.ext_getElem
 . simp
 intro i h1 h2
 rw [List.getElem_set,List.getElem_map,List.getElem_map,List.getElem_range]
 by_cases e:O[t]=i
 . rw [if_pos e,cuT,if_pos ((hm i).2 (.inr e.symm))]
 . rw [if_neg e]
   unfold cuT
   by_cases q:i ∈ O.take t
   . rw [if_pos q,if_pos ((hm i).2 (.inl q))]
   . rw [if_neg q,if_neg fun z=>((hm i).1 z).elim q fun z=>e z.symm]
def upL (n k:Nat) (f:Nat->Int):List Int:=(List.range n).map fun i=>if i < k then f i else 0
theorem Zin {n:Nat} {f:Nat->Int}:upL n 0 f=List.replicate n 0:=by
 rw [List.eq_replicate_iff]
 refine ⟨by simp [upL],fun b hb=>?_⟩
 obtain ⟨i,_,rfl⟩:=List.mem_map.1 hb
 rw [if_neg (by omega)]
theorem Zrf {n:Nat} {f:Nat->Int}:upL n n f=(List.range n).map f:=by
 apply List.map_congr_left
 intro i hi
 rw [if_pos (List.mem_range.1 hi)]
theorem ZcN {n k:Nat} {f:Nat->Int} (hk:k < n):(upL n k f).set k (f k)=upL n (k+1) f:=by
 apply List.ext_getElem
 . simp [upL]
 intro i h1 h2
 simp only [upL,List.getElem_set,List.getElem_map,List.getElem_range]
 by_cases e:k=i
 . subst e;simp
 . rw [if_neg e]
   by_cases q:i < k
   . rw [if_pos q,if_pos (by omega)]
   . rw [if_neg q,if_neg (by omega)]
end Go.Azalai
namespace Go.Proofs.Ythilckbkffjliaa
open Go Go.Sx Go.Azalai
theorem WH {n:Nat} {x:Int}:KFR (List.replicate n [SV.v (Value.int .i64 x)]):=by
 induction n with
 | zero=>simp [KFR]
 | succ n ih=>simp [List.replicate_succ,KFR,KFL,KF,ih]
theorem ZvS (p:Pact) (hp:ZA p=true) (r:Int) (hb:-90000000000<=r/\r<=90000000000):Ct Try.prog 46 [.agg (Zh p),I r] (.sl false 1 ((ZF p r).map Zl)):=by
 refine t46.1 (by simp [Zh,Za,Zb,KFL,KF]) (by simp [Zb,Zl,KFL,KF]) ?_
 have hAll:=Yx hp
 have h8:=hAll.2.2.2.2.2.2
 have h1p:=hAll.2.2.2.2.2.1
 have hP4:Ye (-1) p.partners=true:=by
  simp only [ZA,Bool.and_eq_true] at hp;exact hp.1.1.2
 have hP5:=(Yd hP4).2.2
 have ez:∀ f:Nat->Int,List.replicate p.partners.length [SV.v (Value.int .i64 0)]=(upL p.partners.length 0 f).map Zl:=fun f=>by rw [Zin,List.map_replicate];rfl
 dsimp only [c46,r46,Zh,go_sem,rA,rM,rS]
 simp only [List.length_map]
 by_cases hr0:0<=r
 . refine Zu (by simp;omega) ?_
   dsimp only [go_sem,rA,rM,rS]
   obtain ⟨A,BY,hA0,hA1,hBl,hBb,hS,hBY,hav,hwv0,hfin0⟩:∃ (A:Int) (BY:List Int),0<=A/\A<=90000000000/\BY.length=p.partners.length/\(∀ x ∈ BY,0<=x/\x<=100000000)/\0 < Zt BY/\BY=p.partners.map (·.share)/\A=r/\(1000:Int)=Zt BY/\ZF p r=(Zy A BY).map (fun x=>x * (1:Int)):=by
    refine ⟨r,p.partners.map (·.share),hr0,hb.2,by simp,fun x hx=>?_,by omega,rfl,rfl,by omega,by rw [ZF,if_pos hr0];simp⟩
    obtain ⟨y,hy,rfl⟩:=List.mem_map.1 hx
    have:=hP5 y hy;omega
   have hB0:∀ x ∈ BY,0<=x:=fun x hx=>(hBb x hx).1
   have hDv:Dvd A BY:=⟨hA0,by omega,by omega,hBb,hS⟩
   have hlf:=UQ hA0 hB0 hS
   obtain ⟨O,hO,hof⟩:∃ O:List Nat,O.Perm (List.range BY.length)/\O.Pairwise fun a b=>UD (Xe A BY) a b=true:=⟨_,W0,Zam List.nodup_range⟩
   have hOn:O.Nodup:=hO.nodup_iff.2 List.nodup_range
   have hOl:O.length=BY.length:=by rw [hO.length_eq,List.length_range]
   rw [Zf (n:=r * (1:Int)) (by omega) (by omega),show r * (1:Int)=A from by omega]
   have hwv:(1000:Int)=Zt BY:=hwv0
   refine ⟨p.partners.length,rfl,by omega,?_⟩
   (repeat first | dsimp only [go_sem,rA,rM,rS] | simp only [nbr])
   refine ⟨p.partners.length,rfl,by omega,?_⟩
   (repeat first | dsimp only [go_sem,rA,rM,rS] | simp only [nbr])
   refine Yf (fun s:Nat=>[(13,I (s:Nat)),(12,I (A - Zt ((List.range s).map (ZE A BY))))]) (fun s=>[(1,.row 0 1 ((upL p.partners.length s (ZE A BY)).map Zl) 3),(2,.row 0 1 ((upL p.partners.length s (Xe A BY)).map Zl) 3)]) (fun s=>s<=p.partners.length) (fun s=>p.partners.length - s) 0 (Nat.zero_le _) ?_ ?_
   . (refine Zi ?_ ?_ ?_ rfl rfl<;>dsimp only [Zh,Za,Zl,Zt,Zin,WH,id,go_sem,rA,rM,rS]<;>simp [Zh,Za,Zl,Zt,Zin,WH,Zb,Ze,KFR,KFL,KF,Zd,mtO,nbr])
   intro k hk'
   dsimp only [go_sem,rA,rM,rS]
   by_cases hlt:k < p.partners.length
   . refine Zw (by simpa using hlt) ?_
     dsimp only [go_sem,rA,rM,rS]
     refine Zq k hlt rfl ?_
     dsimp only [Za,go_sem,rA,rM,rS]
     refine Zu (by simp;omega) ?_
     dsimp only [go_sem,rA,rM,rS]
     have hkB:k < BY.length:=by omega
     have hbk:=hBb _ (List.getElem_mem hkB)
     have hbyF:byF BY k=BY[k]:=UO hkB
     have hbv:p.partners[k].share=byF BY k:=by rw [hbyF];simp [hBY]
     have hmul:0<=A * byF BY k/\A * byF BY k<=9000000000000000000:=by
      rw [hbyF]
      have m1:A * BY[k]<=90000000000 * BY[k]:=Int.mul_le_mul_of_nonneg_right hA1 hbk.1
      have m2:=Int.mul_nonneg hA0 hbk.1
      omega
     have hpb:0<=ZE A BY k/\ZE A BY k<=9000000000000000000:=by
      unfold ZE
      refine ⟨Int.tdiv_nonneg hmul.1 (by omega),?_⟩
      rw [Int.tdiv_eq_ediv_of_nonneg hmul.1]
      have:=Int.ediv_le_self (Zt BY) hmul.1
      omega
     have hw0:(1000:Int)≠0:=by omega
     have hq1:(A * p.partners[k].share).tdiv (1000:Int)=ZE A BY k:=by rw [hbv,hwv];rfl
     have hq2:(A * p.partners[k].share).tmod (1000:Int)=Xe A BY k:=by rw [hbv,hwv];rfl
     have hmm:0<=A * p.partners[k].share/\A * p.partners[k].share<=9000000000000000000:=by rw [hbv];exact hmul
     have hul:∀ f:Nat->Int,k < (upL p.partners.length k f).length:=fun f=>by simp [upL];exact hlt
     have hul2:∀ f:Nat->Int,k < (upL p.partners.length (k+1) f).length:=fun f=>by simp [upL];exact hlt
     rw [Zf (n:=A * p.partners[k].share) (by omega) (by omega)]
     refine Zrv hw0 ?_
     (repeat first | dsimp only [ZhN,go_sem,rA,rM,rS] | simp only [nbr])
     rw [hq1,Zf (n:=ZE A BY k) (by omega) (by omega)]
     refine Yl k rfl (by rw [List.length_map];exact hul _) ?_
     (repeat first | dsimp only [go_sem,rA,rM,rS] | simp only [nbr])
     try rw [Zf (n:=A * p.partners[k].share) (by omega) (by omega)]
     refine Zrv hw0 ?_
     (repeat first | dsimp only [ZhN,go_sem,rA,rM,rS] | simp only [nbr])
     rw [hq2]
     refine WT (ZE A BY k) (hul _) (by simp [Zl]) (by simp [Zl,Zn]) ?_
     (repeat first | dsimp only [go_sem,rA,rM,rS] | simp only [nbr])
     refine Yl k rfl (by rw [List.length_map];exact hul _) ?_
     (repeat first | dsimp only [go_sem,rA,rM,rS] | simp only [nbr])
     refine WT (Xe A BY k) (hul _) (by simp [Zl]) (by simp [Zl,Zn]) ?_
     (repeat first | dsimp only [go_sem,rA,rM,rS] | simp only [nbr])
     rw [ZcN hlt,ZcN hlt]
     refine Yl k rfl (by rw [List.length_map];exact hul2 _) ?_
     (repeat first | dsimp only [go_sem,rA,rM,rS] | simp only [nbr])
     refine Xt (hul2 _) ?_
     (repeat first | dsimp only [Zl,go_sem,rA,rM,rS] | simp only [nbr])
     have hug:(upL p.partners.length (k+1) (ZE A BY))[k]'(hul2 _)=ZE A BY k:=by simp [upL]
     rw [hug]
     have h3:=Zbr (f:=ZE A BY) (n:=k)
     have h4:=Vl hDv (k:=k+1) (by omega)
     have h5:=Vl hDv (k:=k) (by omega)
     rw [Zf (n:=A - Zt ((List.range k).map (ZE A BY)) - ZE A BY k) (by omega) (by omega),Zf (n:=(k:Int)+1) (by omega) (by omega)]
     rw [show A - Zt ((List.range k).map (ZE A BY)) - ZE A BY k=A - Zt ((List.range (k+1)).map (ZE A BY)) from by omega]
     refine ⟨k+1,hlt,by omega,?_⟩
     (refine Zi ?_ ?_ ?_ rfl rfl<;>dsimp only [Zh,Za,Zl,id,go_sem,rA,rM,rS]<;>simp [Zh,Za,Zl,Zb,Ze,KFR,KFL,KF,Zd,mtO,nbr])
   refine Zu (by simpa using hlt) ?_
   dsimp only [go_sem,rA,rM,rS]
   have hke:k=p.partners.length:=by omega
   subst hke
   have hL:A - Zt ((List.range p.partners.length).map (ZE A BY))=Ya A BY:=by rw [Ya,hBl]
   rw [hL,Zrf,Zrf]
   have i1:(List.range p.partners.length).map (ZE A BY)=ZdP A BY (O.take 0):=by rw [List.take_zero,Zcw,hBl]
   have i2:(List.range p.partners.length).map (Xe A BY)=(List.range p.partners.length).map (cuT (Xe A BY) (O.take 0)):=by
    apply List.map_congr_left;intro i _;simp [cuT]
   rw [i1,i2]
   refine Yf (fun t:Nat=>[(12,I (Ya A BY - t))]) (fun t=>[(1,.row 0 1 ((ZdP A BY (O.take t)).map Zl) 3),(2,.row 0 1 (((List.range p.partners.length).map (cuT (Xe A BY) (O.take t))).map Zl) 3)]) (fun t=>(t:Int)<=Ya A BY) (fun t=>(Ya A BY).toNat - t) 0 (by simp;omega) ?_ ?_
   . (refine Zi ?_ ?_ ?_ rfl rfl<;>dsimp only [Zh,Za,Zl,Int.sub_zero,id,go_sem,rA,rM,rS]<;>simp [Zh,Za,Zl,Int.sub_zero,Zb,Ze,KFR,KFL,KF,Zd,mtO,nbr])
   intro t ht
   dsimp only [go_sem,rA,rM,rS]
   by_cases hlt2:(t:Int) < Ya A BY
   . refine Zw (by simp;omega) ?_
     dsimp only [go_sem,rA,rM,rS]
     have htO:t < O.length:=by omega
     have hfm:=ZlS (c:=Xe A BY) hO hof (fun i=>(Zaa hA0 hB0 hS i).1) (t:=t) (by omega)
     rw [hBl] at hfm
     refine Yf (fun s:Nat × Nat=>[(16,I (s.1:Nat)),(15,I (s.2:Nat))]) (fun _=>[]) (fun s=>(1<=s.1/\s.1<=p.partners.length)/\Fm (cuT (Xe A BY) (O.take t)) s.1 s.2) (fun s=>p.partners.length - s.1) (1,0) ⟨by simp only;omega,by simp only;omega,fun j hj=>by
      have:j=0:=by simp only at hj;omega
      subst this;right;simp⟩ ?_ ?_
     . (refine Zi ?_ ?_ ?_ rfl rfl<;>dsimp only [Zh,Za,Zl,id,go_sem,rA,rM,rS]<;>simp [Zh,Za,Zl,Zb,Ze,KFR,KFL,KF,Zd,mtO,nbr])
     rintro ⟨i,b⟩ ⟨hi,hb⟩
     simp only at hi hb
     have hbi:=hb.1
     dsimp only [go_sem,rA,rM,rS]
     by_cases hlt3:i < p.partners.length
     . refine Zw (by simpa using hlt3) ?_
       (repeat first | dsimp only [go_sem,rA,rM,rS] | simp only [nbr])
       refine Yl i rfl (by simpa using hlt3) ?_
       (repeat first | dsimp only [go_sem,rA,rM,rS] | simp only [nbr])
       refine Xt (by simpa using hlt3) ?_
       (repeat first | dsimp only [Zl,go_sem,rA,rM,rS] | simp only [nbr])
       refine Yl b rfl (by simp;omega) ?_
       (repeat first | dsimp only [go_sem,rA,rM,rS] | simp only [nbr])
       refine Xt (by simp;omega) ?_
       (repeat first | dsimp only [Zl,go_sem,rA,rM,rS] | simp only [nbr])
       simp only [List.getElem_map,List.getElem_range]
       by_cases hc:cuT (Xe A BY) (O.take t) i > cuT (Xe A BY) (O.take t) b
       . refine Zw (by simpa using hc) ?_
         (repeat first | dsimp only [go_sem,rA,rM,rS] | simp only [nbr])
         rw [Zf (n:=(i:Int)+1) (by omega) (by omega)]
         refine ⟨(i+1,i),⟨by simp only;omega,by simp only;omega,fun j hj=>?_⟩,by simp only;omega,?_⟩
         . simp only at hj ⊢
           by_cases e:j=i
           . subst e;right;exact ⟨rfl,Nat.le_refl _⟩
           . have:=hb.2 j (by omega);omega
         (refine Zi ?_ ?_ ?_ rfl rfl<;>dsimp only [Zh,Za,Zl,id,go_sem,rA,rM,rS]<;>simp [Zh,Za,Zl,Zb,Ze,KFR,KFL,KF,Zd,mtO,nbr])
       . refine Zu (by simpa using hc) ?_
         (repeat first | dsimp only [go_sem,rA,rM,rS] | simp only [nbr])
         rw [Zf (n:=(i:Int)+1) (by omega) (by omega)]
         refine ⟨(i+1,b),⟨by simp only;omega,by simp only;omega,fun j hj=>?_⟩,by simp only;omega,?_⟩
         . simp only at hj ⊢
           by_cases e:j=i
           . subst e;omega
           . exact hb.2 j (by omega)
         (refine Zi ?_ ?_ ?_ rfl rfl<;>dsimp only [Zh,Za,Zl,id,go_sem,rA,rM,rS]<;>simp [Zh,Za,Zl,Zb,Ze,KFR,KFL,KF,Zd,mtO,nbr])
     refine Zu (by simpa using hlt3) ?_
     (repeat first | dsimp only [go_sem,rA,rM,rS] | simp only [nbr])
     have hie:i=p.partners.length:=by omega
     subst hie
     have hbO:b=O[t]:=Fm.uniq hb hfm
     have hOt:O[t] < BY.length:=by rw [<- hbO,hBl];exact hbi
     refine Yl b rfl (by simp [YU];omega) ?_
     (repeat first | dsimp only [go_sem,rA,rM,rS] | simp only [nbr])
     refine Xt (by rw [YU];omega) ?_
     (repeat first | dsimp only [Zl,go_sem,rA,rM,rS] | simp only [nbr])
     subst hbO
     rw [V6,if_neg (ZcM htO hOn),Int.add_zero]
     have hpp:=hDv.part hOt
     rw [Zf (n:=ZE A BY O[t]+1) (by omega) (by omega)]
     refine Yl O[t] rfl (by simp [YU];omega) ?_
     (repeat first | dsimp only [go_sem,rA,rM,rS] | simp only [nbr])
     refine WT (ZE A BY O[t]+1) (by rw [YU];omega) (by simp [Zl]) (by simp [Zl,Zn]) ?_
     (repeat first | dsimp only [go_sem,rA,rM,rS] | simp only [nbr])
     rw [ZcP htO hOn hOt]
     refine Yl O[t] rfl (by simp;omega) ?_
     (repeat first | dsimp only [go_sem,rA,rM,rS] | simp only [nbr])
     refine WT (-1) (by simp;omega) (by simp [Zl]) (by simp [Zl,Zn]) ?_
     (repeat first | dsimp only [go_sem,rA,rM,rS] | simp only [nbr])
     rw [ZjD htO,Zf (n:=Ya A BY - t - 1) (by omega) (by omega),show Ya A BY - (t:Int) - 1=Ya A BY - ((t+1:Nat):Int) from by omega]
     refine ⟨t+1,by omega,by omega,?_⟩
     (refine Zi ?_ ?_ ?_ rfl rfl<;>dsimp only [Zh,Za,Zl,id,go_sem,rA,rM,rS]<;>simp [Zh,Za,Zl,Zb,Ze,KFR,KFL,KF,Zd,mtO,nbr])
   refine Zu (by simp;omega) ?_
   dsimp only [go_sem,rA,rM,rS]
   have hte:t=(Ya A BY).toNat:=by omega
   rw [hte,ZaS hDv hO hof]
   obtain ⟨D,hD,hDl,hDb,hfin⟩:∃ D:List Int,Zy A BY=D/\D.length=p.partners.length/\(∀ i (hi:i < D.length),0<=D[i]/\D[i]<=A+1)/\ZF p r=D.map (fun x=>x * (1:Int)):=⟨_,rfl,by rw [U5,hBl],fun i hi=>ZlI hA0 hB0 hS hi,hfin0⟩
   rw [hD]
   refine Yf (fun s:Nat=>[(17,I (s:Nat))]) (fun s=>[(1,.row 0 1 (((D.take s).map (fun x=>x * (1:Int)) ++ D.drop s).map Zl) 3)]) (fun s=>s<=D.length) (fun s=>D.length - s) 0 (Nat.zero_le _) ?_ ?_
   . (refine Zi ?_ ?_ ?_ rfl rfl<;>dsimp only [Zh,Za,Zl,id,go_sem,rA,rM,rS]<;>simp [Zh,Za,Zl,Zb,Ze,KFR,KFL,KF,Zd,mtO,nbr])
   intro k hk
   dsimp only [go_sem,rA,rM,rS]
   by_cases hltk:k < D.length
   . refine Zw (by simp;omega) ?_
     (repeat first | dsimp only [go_sem,rA,rM,rS] | simp only [nbr])
     have hgl:((D.take k).map (fun x=>x * (1:Int)) ++ D.drop k).length=D.length:=by simp<;>omega
     have hg:((D.take k).map (fun x=>x * (1:Int)) ++ D.drop k)[k]'(by omega)=D[k]:=by
      rw [List.getElem_append_right (by simp;omega)]
      simp [Nat.min_eq_left (Nat.le_of_lt hltk)]
     refine Yl k rfl (by rw [List.length_map,hgl];exact hltk) ?_
     (repeat first | dsimp only [go_sem,rA,rM,rS] | simp only [nbr])
     refine Xt (by rw [hgl];exact hltk) ?_
     (repeat first | dsimp only [Zl,go_sem,rA,rM,rS] | simp only [nbr])
     rw [hg]
     have:=hDb k hltk
     rw [Zf (n:=D[k] * (1:Int)) (by omega) (by omega)]
     refine Yl k rfl (by rw [List.length_map,hgl];exact hltk) ?_
     (repeat first | dsimp only [go_sem,rA,rM,rS] | simp only [nbr])
     refine WT (D[k] * (1:Int)) (by rw [hgl];exact hltk) (by simp [Zl]) (by simp [Zl,Zn]) ?_
     (repeat first | dsimp only [go_sem,rA,rM,rS] | simp only [nbr])
     have hset:((D.take k).map (fun x=>x * (1:Int)) ++ D.drop k).set k (D[k] * (1:Int))=(D.take (k+1)).map (fun x=>x * (1:Int)) ++ D.drop (k+1):=by
      rw [List.set_append_right (h:=by simp;omega)]
      simp only [List.length_map,List.length_take,Nat.min_eq_left (Nat.le_of_lt hltk),Nat.sub_self]
      rw [List.drop_eq_getElem_cons hltk,List.set_cons_zero,List.take_succ_eq_append_getElem hltk,List.map_append,List.append_assoc]
      rfl
     rw [hset,Zf (n:=(k:Int)+1) (by omega) (by omega)]
     have hk1:KFR (List.map Zl ((D.take (k+1)).map (fun x=>x * (1:Int)) ++ D.drop (k+1))):=Zb.2 fun x _=>by simp [KFL,KF,Zl]
     refine ⟨k+1,hltk,by omega,?_⟩
     generalize (D.take (k+1)).map (fun x=>x * (1:Int)) ++ D.drop (k+1)=Q at *
     (refine Zi ?_ ?_ ?_ rfl rfl<;>dsimp only [Zh,Za,Zl,id,go_sem,rA,rM,rS]<;>simp [Zh,Za,Zl,Zb,Ze,KFR,KFL,KF,Zd,mtO,nbr])
   refine Zu (by simp;omega) ?_
   dsimp only [go_sem,rA,rM,rS]
   have hkl:k=D.length:=by omega
   rw [hkl,List.take_length,List.drop_length,List.append_nil,hfin]
 . refine Zw (by simp;omega) ?_
   dsimp only [go_sem,rA,rM,rS]
   refine Yf (fun s:Nat=>[(8,I (s:Nat)),(6,I (Zt ((p.partners.take s).map (·.put))))]) (fun _=>[]) (fun s=>s<=p.partners.length) (fun s=>p.partners.length - s) 0 (Nat.zero_le _) ?_ ?_
   . (refine Zi ?_ ?_ ?_ rfl rfl<;>dsimp only [Zh,Za,Zl,Zt,id,go_sem,rA,rM,rS]<;>simp [Zh,Za,Zl,Zt,Zb,Ze,KFR,KFL,KF,Zd,mtO,nbr])
   intro k hk'
   dsimp only [go_sem,rA,rM,rS]
   have hb2:=Zd5 (l:=p.partners.map (·.put)) (b:=100000000) fun x hx=>by
    obtain ⟨y,hy,rfl⟩:=List.mem_map.1 hx
    have:=hP5 y hy;omega
   simp only [List.length_map] at hb2
   by_cases hlt:k < p.partners.length
   . refine Zw (by simpa using hlt) ?_
     dsimp only [go_sem,rA,rM,rS]
     refine Zq k hlt rfl ?_
     dsimp only [Za,go_sem,rA,rM,rS]
     have hs1:=V7 (f:=fun x:Partner=>x.put) hlt
     have hb1:=Uy hAll.2.2.1 (k+1)
     rw [<- List.map_take] at hb1
     rw [Zf (n:=_+p.partners[k].put) (by omega) (by omega),Zf (n:=(k:Int)+1) (by omega) (by omega),<- hs1]
     refine ⟨k+1,hlt,by omega,?_⟩
     (refine Zi ?_ ?_ ?_ rfl rfl<;>dsimp only [Zh,Za,Zl,id,go_sem,rA,rM,rS]<;>simp [Zh,Za,Zl,Zb,Ze,KFR,KFL,KF,Zd,mtO,nbr])
   refine Zu (by simpa using hlt) ?_
   dsimp only [go_sem,rA,rM,rS]
   have hke:k=p.partners.length:=by omega
   subst hke
   rw [List.take_length]
   obtain ⟨A,BY,hA0,hA1,hBl,hBb,hS,hBY,hav,hwv0,hfin0⟩:∃ (A:Int) (BY:List Int),0<=A/\A<=90000000000/\BY.length=p.partners.length/\(∀ x ∈ BY,0<=x/\x<=100000000)/\0 < Zt BY/\BY=p.partners.map (·.put)/\A = -r/\Zt (p.partners.map (·.put))=Zt BY/\ZF p r=(Zy A BY).map (fun x=>x * (-1:Int)):=by
    refine ⟨-r,p.partners.map (·.put),by omega,by omega,by simp,fun x hx=>?_,by omega,rfl,rfl,rfl,by rw [ZF,if_neg hr0];apply List.map_congr_left;intro x _;omega⟩
    obtain ⟨y,hy,rfl⟩:=List.mem_map.1 hx
    have:=hP5 y hy;omega
   have hB0:∀ x ∈ BY,0<=x:=fun x hx=>(hBb x hx).1
   have hDv:Dvd A BY:=⟨hA0,by omega,by omega,hBb,hS⟩
   have hlf:=UQ hA0 hB0 hS
   obtain ⟨O,hO,hof⟩:∃ O:List Nat,O.Perm (List.range BY.length)/\O.Pairwise fun a b=>UD (Xe A BY) a b=true:=⟨_,W0,Zam List.nodup_range⟩
   have hOn:O.Nodup:=hO.nodup_iff.2 List.nodup_range
   have hOl:O.length=BY.length:=by rw [hO.length_eq,List.length_range]
   rw [Zf (n:=r * (-1:Int)) (by omega) (by omega),show r * (-1:Int)=A from by omega]
   have hwv:(Zt (p.partners.map (·.put)))=Zt BY:=hwv0
   refine ⟨p.partners.length,rfl,by omega,?_⟩
   (repeat first | dsimp only [go_sem,rA,rM,rS] | simp only [nbr])
   refine ⟨p.partners.length,rfl,by omega,?_⟩
   (repeat first | dsimp only [go_sem,rA,rM,rS] | simp only [nbr])
   refine Yf (fun s:Nat=>[(13,I (s:Nat)),(12,I (A - Zt ((List.range s).map (ZE A BY))))]) (fun s=>[(1,.row 0 1 ((upL p.partners.length s (ZE A BY)).map Zl) 3),(2,.row 0 1 ((upL p.partners.length s (Xe A BY)).map Zl) 3)]) (fun s=>s<=p.partners.length) (fun s=>p.partners.length - s) 0 (Nat.zero_le _) ?_ ?_
   . (refine Zi ?_ ?_ ?_ rfl rfl<;>dsimp only [Zh,Za,Zl,Zt,Zin,WH,id,go_sem,rA,rM,rS]<;>simp [Zh,Za,Zl,Zt,Zin,WH,Zb,Ze,KFR,KFL,KF,Zd,mtO,nbr])
   intro k hk'
   dsimp only [go_sem,rA,rM,rS]
   by_cases hlt:k < p.partners.length
   . refine Zw (by simpa using hlt) ?_
     dsimp only [go_sem,rA,rM,rS]
     refine Zq k hlt rfl ?_
     dsimp only [Za,go_sem,rA,rM,rS]
     refine Zw (by simp;omega) ?_
     dsimp only [go_sem,rA,rM,rS]
     refine Zq k hlt rfl ?_
     dsimp only [Za,go_sem,rA,rM,rS]
     have hkB:k < BY.length:=by omega
     have hbk:=hBb _ (List.getElem_mem hkB)
     have hbyF:byF BY k=BY[k]:=UO hkB
     have hbv:p.partners[k].put=byF BY k:=by rw [hbyF];simp [hBY]
     have hmul:0<=A * byF BY k/\A * byF BY k<=9000000000000000000:=by
      rw [hbyF]
      have m1:A * BY[k]<=90000000000 * BY[k]:=Int.mul_le_mul_of_nonneg_right hA1 hbk.1
      have m2:=Int.mul_nonneg hA0 hbk.1
      omega
     have hpb:0<=ZE A BY k/\ZE A BY k<=9000000000000000000:=by
      unfold ZE
      refine ⟨Int.tdiv_nonneg hmul.1 (by omega),?_⟩
      rw [Int.tdiv_eq_ediv_of_nonneg hmul.1]
      have:=Int.ediv_le_self (Zt BY) hmul.1
      omega
     have hw0:(Zt (p.partners.map (·.put)))≠0:=by omega
     have hq1:(A * p.partners[k].put).tdiv (Zt (p.partners.map (·.put)))=ZE A BY k:=by rw [hbv,hwv];rfl
     have hq2:(A * p.partners[k].put).tmod (Zt (p.partners.map (·.put)))=Xe A BY k:=by rw [hbv,hwv];rfl
     have hmm:0<=A * p.partners[k].put/\A * p.partners[k].put<=9000000000000000000:=by rw [hbv];exact hmul
     have hul:∀ f:Nat->Int,k < (upL p.partners.length k f).length:=fun f=>by simp [upL];exact hlt
     have hul2:∀ f:Nat->Int,k < (upL p.partners.length (k+1) f).length:=fun f=>by simp [upL];exact hlt
     rw [Zf (n:=A * p.partners[k].put) (by omega) (by omega)]
     refine Zrv hw0 ?_
     (repeat first | dsimp only [ZhN,go_sem,rA,rM,rS] | simp only [nbr])
     rw [hq1,Zf (n:=ZE A BY k) (by omega) (by omega)]
     refine Yl k rfl (by rw [List.length_map];exact hul _) ?_
     (repeat first | dsimp only [go_sem,rA,rM,rS] | simp only [nbr])
     try rw [Zf (n:=A * p.partners[k].put) (by omega) (by omega)]
     refine Zrv hw0 ?_
     (repeat first | dsimp only [ZhN,go_sem,rA,rM,rS] | simp only [nbr])
     rw [hq2]
     refine WT (ZE A BY k) (hul _) (by simp [Zl]) (by simp [Zl,Zn]) ?_
     (repeat first | dsimp only [go_sem,rA,rM,rS] | simp only [nbr])
     refine Yl k rfl (by rw [List.length_map];exact hul _) ?_
     (repeat first | dsimp only [go_sem,rA,rM,rS] | simp only [nbr])
     refine WT (Xe A BY k) (hul _) (by simp [Zl]) (by simp [Zl,Zn]) ?_
     (repeat first | dsimp only [go_sem,rA,rM,rS] | simp only [nbr])
     rw [ZcN hlt,ZcN hlt]
     refine Yl k rfl (by rw [List.length_map];exact hul2 _) ?_
     (repeat first | dsimp only [go_sem,rA,rM,rS] | simp only [nbr])
     refine Xt (hul2 _) ?_
     (repeat first | dsimp only [Zl,go_sem,rA,rM,rS] | simp only [nbr])
     have hug:(upL p.partners.length (k+1) (ZE A BY))[k]'(hul2 _)=ZE A BY k:=by simp [upL]
     rw [hug]
     have h3:=Zbr (f:=ZE A BY) (n:=k)
     have h4:=Vl hDv (k:=k+1) (by omega)
     have h5:=Vl hDv (k:=k) (by omega)
     rw [Zf (n:=A - Zt ((List.range k).map (ZE A BY)) - ZE A BY k) (by omega) (by omega),Zf (n:=(k:Int)+1) (by omega) (by omega)]
     rw [show A - Zt ((List.range k).map (ZE A BY)) - ZE A BY k=A - Zt ((List.range (k+1)).map (ZE A BY)) from by omega]
     refine ⟨k+1,hlt,by omega,?_⟩
     (refine Zi ?_ ?_ ?_ rfl rfl<;>dsimp only [Zh,Za,Zl,id,go_sem,rA,rM,rS]<;>simp [Zh,Za,Zl,Zb,Ze,KFR,KFL,KF,Zd,mtO,nbr])
   refine Zu (by simpa using hlt) ?_
   dsimp only [go_sem,rA,rM,rS]
   have hke:k=p.partners.length:=by omega
   subst hke
   have hL:A - Zt ((List.range p.partners.length).map (ZE A BY))=Ya A BY:=by rw [Ya,hBl]
   rw [hL,Zrf,Zrf]
   have i1:(List.range p.partners.length).map (ZE A BY)=ZdP A BY (O.take 0):=by rw [List.take_zero,Zcw,hBl]
   have i2:(List.range p.partners.length).map (Xe A BY)=(List.range p.partners.length).map (cuT (Xe A BY) (O.take 0)):=by
    apply List.map_congr_left;intro i _;simp [cuT]
   rw [i1,i2]
   refine Yf (fun t:Nat=>[(12,I (Ya A BY - t))]) (fun t=>[(1,.row 0 1 ((ZdP A BY (O.take t)).map Zl) 3),(2,.row 0 1 (((List.range p.partners.length).map (cuT (Xe A BY) (O.take t))).map Zl) 3)]) (fun t=>(t:Int)<=Ya A BY) (fun t=>(Ya A BY).toNat - t) 0 (by simp;omega) ?_ ?_
   . (refine Zi ?_ ?_ ?_ rfl rfl<;>dsimp only [Zh,Za,Zl,Int.sub_zero,id,go_sem,rA,rM,rS]<;>simp [Zh,Za,Zl,Int.sub_zero,Zb,Ze,KFR,KFL,KF,Zd,mtO,nbr])
   intro t ht
   dsimp only [go_sem,rA,rM,rS]
   by_cases hlt2:(t:Int) < Ya A BY
   . refine Zw (by simp;omega) ?_
     dsimp only [go_sem,rA,rM,rS]
     have htO:t < O.length:=by omega
     have hfm:=ZlS (c:=Xe A BY) hO hof (fun i=>(Zaa hA0 hB0 hS i).1) (t:=t) (by omega)
     rw [hBl] at hfm
     refine Yf (fun s:Nat × Nat=>[(16,I (s.1:Nat)),(15,I (s.2:Nat))]) (fun _=>[]) (fun s=>(1<=s.1/\s.1<=p.partners.length)/\Fm (cuT (Xe A BY) (O.take t)) s.1 s.2) (fun s=>p.partners.length - s.1) (1,0) ⟨by simp only;omega,by simp only;omega,fun j hj=>by
      have:j=0:=by simp only at hj;omega
      subst this;right;simp⟩ ?_ ?_
     . (refine Zi ?_ ?_ ?_ rfl rfl<;>dsimp only [Zh,Za,Zl,id,go_sem,rA,rM,rS]<;>simp [Zh,Za,Zl,Zb,Ze,KFR,KFL,KF,Zd,mtO,nbr])
     rintro ⟨i,b⟩ ⟨hi,hb⟩
     simp only at hi hb
     have hbi:=hb.1
     dsimp only [go_sem,rA,rM,rS]
     by_cases hlt3:i < p.partners.length
     . refine Zw (by simpa using hlt3) ?_
       (repeat first | dsimp only [go_sem,rA,rM,rS] | simp only [nbr])
       refine Yl i rfl (by simpa using hlt3) ?_
       (repeat first | dsimp only [go_sem,rA,rM,rS] | simp only [nbr])
       refine Xt (by simpa using hlt3) ?_
       (repeat first | dsimp only [Zl,go_sem,rA,rM,rS] | simp only [nbr])
       refine Yl b rfl (by simp;omega) ?_
       (repeat first | dsimp only [go_sem,rA,rM,rS] | simp only [nbr])
       refine Xt (by simp;omega) ?_
       (repeat first | dsimp only [Zl,go_sem,rA,rM,rS] | simp only [nbr])
       simp only [List.getElem_map,List.getElem_range]
       by_cases hc:cuT (Xe A BY) (O.take t) i > cuT (Xe A BY) (O.take t) b
       . refine Zw (by simpa using hc) ?_
         (repeat first | dsimp only [go_sem,rA,rM,rS] | simp only [nbr])
         rw [Zf (n:=(i:Int)+1) (by omega) (by omega)]
         refine ⟨(i+1,i),⟨by simp only;omega,by simp only;omega,fun j hj=>?_⟩,by simp only;omega,?_⟩
         . simp only at hj ⊢
           by_cases e:j=i
           . subst e;right;exact ⟨rfl,Nat.le_refl _⟩
           . have:=hb.2 j (by omega);omega
         (refine Zi ?_ ?_ ?_ rfl rfl<;>dsimp only [Zh,Za,Zl,id,go_sem,rA,rM,rS]<;>simp [Zh,Za,Zl,Zb,Ze,KFR,KFL,KF,Zd,mtO,nbr])
       . refine Zu (by simpa using hc) ?_
         (repeat first | dsimp only [go_sem,rA,rM,rS] | simp only [nbr])
         rw [Zf (n:=(i:Int)+1) (by omega) (by omega)]
         refine ⟨(i+1,b),⟨by simp only;omega,by simp only;omega,fun j hj=>?_⟩,by simp only;omega,?_⟩
         . simp only at hj ⊢
           by_cases e:j=i
           . subst e;omega
           . exact hb.2 j (by omega)
         (refine Zi ?_ ?_ ?_ rfl rfl<;>dsimp only [Zh,Za,Zl,id,go_sem,rA,rM,rS]<;>simp [Zh,Za,Zl,Zb,Ze,KFR,KFL,KF,Zd,mtO,nbr])
     refine Zu (by simpa using hlt3) ?_
     (repeat first | dsimp only [go_sem,rA,rM,rS] | simp only [nbr])
     have hie:i=p.partners.length:=by omega
     subst hie
     have hbO:b=O[t]:=Fm.uniq hb hfm
     have hOt:O[t] < BY.length:=by rw [<- hbO,hBl];exact hbi
     refine Yl b rfl (by simp [YU];omega) ?_
     (repeat first | dsimp only [go_sem,rA,rM,rS] | simp only [nbr])
     refine Xt (by rw [YU];omega) ?_
     (repeat first | dsimp only [Zl,go_sem,rA,rM,rS] | simp only [nbr])
     subst hbO
     rw [V6,if_neg (ZcM htO hOn),Int.add_zero]
     have hpp:=hDv.part hOt
     rw [Zf (n:=ZE A BY O[t]+1) (by omega) (by omega)]
     refine Yl O[t] rfl (by simp [YU];omega) ?_
     (repeat first | dsimp only [go_sem,rA,rM,rS] | simp only [nbr])
     refine WT (ZE A BY O[t]+1) (by rw [YU];omega) (by simp [Zl]) (by simp [Zl,Zn]) ?_
     (repeat first | dsimp only [go_sem,rA,rM,rS] | simp only [nbr])
     rw [ZcP htO hOn hOt]
     refine Yl O[t] rfl (by simp;omega) ?_
     (repeat first | dsimp only [go_sem,rA,rM,rS] | simp only [nbr])
     refine WT (-1) (by simp;omega) (by simp [Zl]) (by simp [Zl,Zn]) ?_
     (repeat first | dsimp only [go_sem,rA,rM,rS] | simp only [nbr])
     rw [ZjD htO,Zf (n:=Ya A BY - t - 1) (by omega) (by omega),show Ya A BY - (t:Int) - 1=Ya A BY - ((t+1:Nat):Int) from by omega]
     refine ⟨t+1,by omega,by omega,?_⟩
     (refine Zi ?_ ?_ ?_ rfl rfl<;>dsimp only [Zh,Za,Zl,id,go_sem,rA,rM,rS]<;>simp [Zh,Za,Zl,Zb,Ze,KFR,KFL,KF,Zd,mtO,nbr])
   refine Zu (by simp;omega) ?_
   dsimp only [go_sem,rA,rM,rS]
   have hte:t=(Ya A BY).toNat:=by omega
   rw [hte,ZaS hDv hO hof]
   obtain ⟨D,hD,hDl,hDb,hfin⟩:∃ D:List Int,Zy A BY=D/\D.length=p.partners.length/\(∀ i (hi:i < D.length),0<=D[i]/\D[i]<=A+1)/\ZF p r=D.map (fun x=>x * (-1:Int)):=⟨_,rfl,by rw [U5,hBl],fun i hi=>ZlI hA0 hB0 hS hi,hfin0⟩
   rw [hD]
   refine Yf (fun s:Nat=>[(17,I (s:Nat))]) (fun s=>[(1,.row 0 1 (((D.take s).map (fun x=>x * (-1:Int)) ++ D.drop s).map Zl) 3)]) (fun s=>s<=D.length) (fun s=>D.length - s) 0 (Nat.zero_le _) ?_ ?_
   . (refine Zi ?_ ?_ ?_ rfl rfl<;>dsimp only [Zh,Za,Zl,id,go_sem,rA,rM,rS]<;>simp [Zh,Za,Zl,Zb,Ze,KFR,KFL,KF,Zd,mtO,nbr])
   intro k hk
   dsimp only [go_sem,rA,rM,rS]
   by_cases hltk:k < D.length
   . refine Zw (by simp;omega) ?_
     (repeat first | dsimp only [go_sem,rA,rM,rS] | simp only [nbr])
     have hgl:((D.take k).map (fun x=>x * (-1:Int)) ++ D.drop k).length=D.length:=by simp<;>omega
     have hg:((D.take k).map (fun x=>x * (-1:Int)) ++ D.drop k)[k]'(by omega)=D[k]:=by
      rw [List.getElem_append_right (by simp;omega)]
      simp [Nat.min_eq_left (Nat.le_of_lt hltk)]
     refine Yl k rfl (by rw [List.length_map,hgl];exact hltk) ?_
     (repeat first | dsimp only [go_sem,rA,rM,rS] | simp only [nbr])
     refine Xt (by rw [hgl];exact hltk) ?_
     (repeat first | dsimp only [Zl,go_sem,rA,rM,rS] | simp only [nbr])
     rw [hg]
     have:=hDb k hltk
     rw [Zf (n:=D[k] * (-1:Int)) (by omega) (by omega)]
     refine Yl k rfl (by rw [List.length_map,hgl];exact hltk) ?_
     (repeat first | dsimp only [go_sem,rA,rM,rS] | simp only [nbr])
     refine WT (D[k] * (-1:Int)) (by rw [hgl];exact hltk) (by simp [Zl]) (by simp [Zl,Zn]) ?_
     (repeat first | dsimp only [go_sem,rA,rM,rS] | simp only [nbr])
     have hset:((D.take k).map (fun x=>x * (-1:Int)) ++ D.drop k).set k (D[k] * (-1:Int))=(D.take (k+1)).map (fun x=>x * (-1:Int)) ++ D.drop (k+1):=by
      rw [List.set_append_right (h:=by simp;omega)]
      simp only [List.length_map,List.length_take,Nat.min_eq_left (Nat.le_of_lt hltk),Nat.sub_self]
      rw [List.drop_eq_getElem_cons hltk,List.set_cons_zero,List.take_succ_eq_append_getElem hltk,List.map_append,List.append_assoc]
      rfl
     rw [hset,Zf (n:=(k:Int)+1) (by omega) (by omega)]
     have hk1:KFR (List.map Zl ((D.take (k+1)).map (fun x=>x * (-1:Int)) ++ D.drop (k+1))):=Zb.2 fun x _=>by simp [KFL,KF,Zl]
     refine ⟨k+1,hltk,by omega,?_⟩
     generalize (D.take (k+1)).map (fun x=>x * (-1:Int)) ++ D.drop (k+1)=Q at *
     (refine Zi ?_ ?_ ?_ rfl rfl<;>dsimp only [Zh,Za,Zl,id,go_sem,rA,rM,rS]<;>simp [Zh,Za,Zl,Zb,Ze,KFR,KFL,KF,Zd,mtO,nbr])
   refine Zu (by simp;omega) ?_
   dsimp only [go_sem,rA,rM,rS]
   have hkl:k=D.length:=by omega
   rw [hkl,List.take_length,List.drop_length,List.append_nil,hfin]
end Go.Proofs.Ythilckbkffjliaa
namespace Go.Azalai
open Go.Sx
theorem ZiZ {p:Pact} (hh:0<=p.hire/\p.hire<=1000) (he:0<=p.ends/\p.ends<=100000) {n:Nat} {c:Co} {b:Bks} (h:BkR n c b):∀ i:Nat,∃ m bi,BkR m (Vh p c i) bi/\m+bi.loans.length<=n+b.loans.length
 | 0=>⟨n,b,h,Nat.le_refl _⟩
 | i+1=>by
  obtain ⟨m,bi,h1,h2⟩:=ZiZ hh he h i
  simp only [Vh]
  cases hl:c.loans i with
  | none=>exact ⟨m,bi,h1,h2⟩
  | some l =>
   have hli:(Vh p c i).loans i=some l:=by rw [Vb,if_neg (by omega)];exact hl
   have hg:mget (i:Int) bi.loans=some l:=by rw [h1.lo];exact hli
   have hlen:=Zan (L:=bi.loans) (k:=(i:Int)) (by rw [hg];rfl)
   exact ⟨m+1,_,h1.home hh hli he,by simp only [Y9];omega⟩
theorem ZmL {p:Pact} (hp:ZA p=true) {n:Nat} {c:Co} {b:Bks} (h:BkR n c b) (hn:n<=100) :
 (-20000000000<=Vr p c/\Vr p c<=20000000000)/\∀ w,-20000000000<=UC p c w/\UC p c w<=20000000000:=by
 simp only [ZA,Bool.and_eq_true,inR,decide_eq_true_eq] at hp
 obtain ⟨m,bi,h1,h2⟩:=ZiZ (p:=p) (by omega) (by omega) h 10000
 have hl:=h.ln
 have e1:(Vh p c 10000).result=Vr p c:=Zar
 have r:=h1.rb
 rw [e1] at r
 refine ⟨by omega,fun w=>?_⟩
 have e2:(Vh p c 10000).extra w=UC p c w:=Uf
 have x:=h1.eb w
 rw [e2] at x
 omega
def V9 (p:Pact) (c:Co) (id:Int) (k:Nat):Int:=Zt ((p.partners.take k).map fun y=>c.debts y.id id - c.debts id y.id)
theorem Zb1 {p:Pact} {c:Co} {id:Int} {k:Nat} (h:k < p.partners.length):V9 p c id (k+1)=V9 p c id k+(c.debts p.partners[k].id id - c.debts id p.partners[k].id):=by
 simp only [V9]
 rw [List.take_succ_eq_append_getElem h,List.map_append,Vv]
 simp [Zt]
theorem Zfa {p:Pact} {c:Co} {n:Nat} {b:Bks} (hb:BkR n c b) (hn:n<=100) {id:Int}:∀ {k:Nat},k<=p.partners.length->-(k * 20000000000:Int)<=V9 p c id k/\V9 p c id k<=k * 20000000000
 | 0,_=>by simp [V9,Zt]
 | k+1,h=>by
  rw [Zb1 (by omega)]
  have h1:=Zfa (p:=p) hb hn (id:=id) (k:=k) (by omega)
  have h2:=hb.bb p.partners[k].id id
  have h3:=hb.bb id p.partners[k].id
  omega
theorem ZlB {p:Pact} {c:Co} {id:Int}:V9 p c id p.partners.length=XC p c id:=by simp [V9,XC]
theorem ZrZ {p:Pact} (hp:ZA p=true):∀ {l:List Letter} {n:Nat} {c:Co} {b:Bks},BkR n c b->(∀ x ∈ l,Zk p x=true)->∃ b',BkR (n+l.length) (Xx p c l) b'
 | [],n,c,b,h,_=>⟨b,h⟩
 | x :: l,n,c,b,h,hl=>by
  obtain ⟨b1,h1⟩:=Go.Proofs.Ythilckbkffjliaa.bk_step h hp (hl x (by simp))
  obtain ⟨b2,h2⟩:=ZrZ hp h1 fun y hy=>hl y (List.mem_cons_of_mem _ hy)
  exact ⟨b2,by rw [List.length_cons,show n+(l.length+1)=n+1+l.length from by omega];exact h2⟩
end Go.Azalai
namespace Go.Proofs.Ythilckbkffjliaa
open Go Go.Sx Go.Azalai
theorem Zch {p:Pact} (hp:ZA p=true) (l:List Letter) (hl:∀ x ∈ l,Zk p x=true) (h100:l.length<=100) (k:Bool):Ct Try.prog 57 [.agg (Zh p),.sl k 8 (l.map Zc)] (.sl false 1 ((YA p l).map Zl)):=by
 refine t57.1 (by simp [Zh,Za,Zc,Zb,KFL,KF]) (by simp [Zb,Zl,KFL,KF]) ?_
 have hA:=Yx hp
 have h8:=hA.2.2.2.2.2.2
 have hP4:Ye (-1) p.partners=true:=by
  simp only [ZA,Bool.and_eq_true] at hp;exact hp.1.1.2
 have hP5:=(Yd hP4).2.2
 dsimp only [c57,r57,Zh,go_sem,rA,rM,rS]
 refine call (ZzG hp l hl (by omega) k) ?_
 dsimp only [Zvj,owS,go_sem,rA,rM,rS]
 obtain ⟨b,hb⟩:=ZrZ hp BkR.start hl
 rw [Nat.zero_add] at hb
 have hbd:=ZmL hp hb h100
 have hset:YA p l=VB p (Xx p co0 l):=rfl
 rw [hset]
 generalize Xx p co0 l=c at hb hbd ⊢
 refine call (ZvS p hp (Vr p c) (by omega)) ?_
 dsimp only [go_sem,rA,rM,rS]
 have hkt:∀ m,KFR (((VB p c).map Zl).take m):=fun m=>by rw [<- List.map_take];exact Zb.2 fun r _=>by simp [Zl,KFL,KF]
 have hdl:(ZF p (Vr p c)).length=p.partners.length:=by
  unfold ZF;split<;>simp [Zy]
 refine Zai (YF (Uv [2,5,7,8,9] rfl) (ZX 8 1 3 rfl rfl)) (fun i:Nat=>[(9,I i),(8,.mr 2 i),(10,.any),(11,.any)]) (fun i=>[(2,.row i 1 (((VB p c).take i).map Zl) 3)]) (fun i=>i<=p.partners.length) (fun i=>p.partners.length - i) 0 (Nat.zero_le _) ?_ ?_
 . (refine Zi ?_ ?_ ?_ rfl rfl<;>dsimp only [Za,Zl,List.take_zero,List.map_nil,UZ,id,go_sem,rA,rM,rS]<;>simp [Za,Zl,List.take_zero,List.map_nil,UZ,Zb,Ze,KFR,KFL,KF,Zd,mtO,nbr])
 intro i hi
 dsimp only [go_sem,rA,rM,rS]
 simp only [List.length_map]
 by_cases hlt:i < p.partners.length
 case neg =>
  refine Zu (by simpa using hlt) ?_
  dsimp only [go_sem,rA,rM,rS]
  refine gh ZL ?_
  dsimp only [go_sem,rA,rM,rS]
  simp only [nbr]
  dsimp only [go_sem,rA,rM,rS]
  rw [List.take_of_length_le (by rw [YV];omega)]
 refine Zw (by simpa using hlt) ?_
 dsimp only [go_sem,rA,rM,rS]
 refine Zq i hlt rfl ?_
 dsimp only [Za,go_sem,rA,rM,rS]
 refine Zq i (by rw [hdl];exact hlt) rfl ?_
 dsimp only [Zl,go_sem,rA,rM,rS]
 refine Zq i (by rw [Xj];exact hlt) rfl ?_
 dsimp only [Zl,go_sem,rA,rM,rS]
 rw [ZdQ hlt]
 have hput:=hP5 p.partners[i] (List.getElem_mem hlt)
 have hpb:=ZbX hp (r:=Vr p c) (by omega) (by omega) (i:=i) (by rw [hdl];exact hlt)
 have hxb:=hbd.2 p.partners[i].id
 have hhas:=ZeY (c:=c) hlt (by rw [YV];exact hlt) (by rw [hdl];exact hlt)
 generalize hD:(ZF p (Vr p c))[i]'(by rw [hdl];exact hlt)=D at hpb hhas ⊢
 generalize UC p c p.partners[i].id=X at hxb hhas ⊢
 have hfi:(VB p c).take (i+1)=(VB p c).take i ++ [p.partners[i].put+D+X+XC p c p.partners[i].id]:=by
  rw [List.take_succ_eq_append_getElem (by rw [YV];exact hlt),hhas]
 have hob:=fun j (hj:j<=p.partners.length)=>Zfa (p:=p) hb h100 (id:=p.partners[i].id) hj
 rw [Zf (n:=p.partners[i].put+D) (by omega) (by omega),Zf (n:=p.partners[i].put+D+X) (by omega) (by omega)]
 generalize hB0:p.partners[i].put+D+X=B0 at hfi
 have hB1:-9000000000000000001 - 20000000000<=B0/\B0<=9000000000000000001+20000000000+100000000:=by omega
 clear hB0 hhas hD
 refine Zet [2,5,7,8,9,10,11] rfl (fun j:Nat=>[(11,I j),(10,I (B0+V9 p c p.partners[i].id j))]) (fun _=>[]) (fun j=>j<=p.partners.length) (fun j=>p.partners.length - j) 0 (Nat.zero_le _) ?_ ?_
 . (refine Zi ?_ ?_ ?_ rfl rfl<;>dsimp only [Za,Zl,UZ,hkt,V9,List.take_zero,List.map_nil,Zt,Int.add_zero,id,go_sem,rA,rM,rS]<;>simp [Za,Zl,UZ,hkt,V9,List.take_zero,List.map_nil,Zt,Int.add_zero,Zb,Ze,KFR,KFL,KF,Zd,mtO,nbr])
 intro j hj
 dsimp only [go_sem,rA,rM,rS]
 simp only [List.length_map]
 by_cases hji:j < p.partners.length
 case neg =>
  refine Zu (by simpa using hji) ?_
  dsimp only [go_sem,rA,rM,rS]
  refine gh ZL ?_
  dsimp only [go_sem,rA,rM,rS]
  simp only [nbr]
  dsimp only [go_sem,rA,rM,rS]
  refine ⟨by simp [ZW,Wy,Zab],by simp [YV];omega,?_⟩
  dsimp only [go_sem,rA,rM,rS]
  refine gh ZL ?_
  dsimp only [go_sem,rA,rM,rS]
  have e:B0+V9 p c p.partners[i].id j=B0+XC p c p.partners[i].id:=by rw [show j=p.partners.length from by omega,ZlB]
  have e1:((VB p c).take i).map Zl ++ [[SV.v (Value.int IntKind.i64 (B0+V9 p c p.partners[i].id j))]]=((VB p c).take (i+1)).map Zl:=by rw [e,hfi,List.map_append];rfl
  rw [e1,Zf (n:=(i:Int)+1) (by omega) (by omega)]
  refine ⟨i+1,hlt,by omega,?_⟩
  (refine Zi ?_ ?_ ?_ rfl rfl<;>dsimp only [Za,Zl,UZ,hkt,id,go_sem,rA,rM,rS]<;>simp [Za,Zl,UZ,hkt,Zb,Ze,KFR,KFL,KF,Zd,mtO,nbr])
 refine Zw (by simpa using hji) ?_
 dsimp only [go_sem,rA,rM,rS]
 refine Zq j (by rw [VR];exact hji) rfl ?_
 dsimp only [go_sem,rA,rM,rS]
 refine Zq i (by rw [ZeD hji,Xj];exact hlt) rfl ?_
 dsimp only [Zl,go_sem,rA,rM,rS]
 refine Zq i (by rw [VR];exact hlt) rfl ?_
 dsimp only [go_sem,rA,rM,rS]
 refine Zq j (by rw [ZeD hlt,Xj];exact hji) rfl ?_
 dsimp only [Zl,go_sem,rA,rM,rS]
 rw [Zeu hji hlt,Zeu hlt hji]
 have q1:=hb.bb p.partners[j].id p.partners[i].id
 have q2:=hb.bb p.partners[i].id p.partners[j].id
 have q3:=hob j (by omega)
 have q4:=Zb1 (c:=c) (id:=p.partners[i].id) hji
 rw [Zf (n:=c.debts p.partners[j].id p.partners[i].id - c.debts p.partners[i].id p.partners[j].id) (by omega) (by omega),Zf (n:=B0+V9 p c p.partners[i].id j+(c.debts p.partners[j].id p.partners[i].id - c.debts p.partners[i].id p.partners[j].id)) (by omega) (by omega),Zf (n:=(j:Int)+1) (by omega) (by omega)]
 refine ⟨j+1,hji,by omega,?_⟩
 rw [q4,<- Int.add_assoc]
 (refine Zi ?_ ?_ ?_ rfl rfl<;>dsimp only [Za,Zl,UZ,hkt,id,go_sem,rA,rM,rS]<;>simp [Za,Zl,UZ,hkt,Zb,Ze,KFR,KFL,KF,Zd,mtO,nbr])
theorem u30 {args:List SV} {res:SV} (ka:KFL args) (kr:KF res) (h:sx Try.prog Y0 0 c30 (st0 args 21) (Zl8 r30 res)) (hA:Nat.ble args.length 21=true:=by rfl):Ct Try.prog 30 args res:=XS Try.func30 rfl b30 ZAd Zz6 n30 (Nat.le_of_ble_eq_true hA) ka kr h
theorem Zgz (p:Pact) (l:List Letter) (hs:YI p) (hl:l.length<=1000) (c:Bool):Ct Try.prog 30 [.agg (Zh p),.sl c 8 (l.map Zc)] (.tup [.sl false 1 ((YY p l).map Zl),I (YS p l)]):=by
 refine u30 (by simp [Zh,Za,Zc,Zb,KFL,KF]) (by simp [Zb,Zl,KFL,KF]) ?_
 dsimp only [c30,r30,Zh,go_sem,rA,rM,rS]
 refine call (Zfr p hs) ?_
 dsimp only [go_sem,rA,rM,rS]
 by_cases hp:ZA p=true
 case neg =>
  have e:YS p l=80:=by rw [YS,if_pos (by simpa using hp)]
  refine Zw (by simpa using hp) ?_
  dsimp only [go_sem,rA,rM,rS]
  refine ⟨_,rfl,?_⟩
  rw [YY,e,if_neg (by decide)]
  exact WI (YM Vq fun _ _ _ _ _ h=>h)
 refine Zu (by simp [hp]) ?_
 dsimp only [go_sem,rA,rM,rS]
 refine call (Zcb p l hs hl c) ?_
 dsimp only [go_sem,rA,rM,rS]
 rw [<- Zfx (l:=l) hp]
 by_cases h0:YS p l=0
 case neg =>
  refine Zw (by simpa using h0) ?_
  dsimp only [go_sem,rA,rM,rS]
  refine ⟨_,rfl,?_⟩
  rw [YY,if_neg h0]
  exact WI (YM Vq fun _ _ _ _ _ h=>h)
 refine Zu (by simpa using h0) ?_
 dsimp only [go_sem,rA,rM,rS]
 have hlen:=Uo (p:=p) (l:=l)
 obtain ⟨_,h100,-,-⟩:=Zbg h0
 refine call (ZfX p l hl c) ?_
 dsimp only [go_sem,rA,rM,rS]
 refine call (Zch hp (Xi p l) (ZaA h0) (by omega) false) ?_
 dsimp only [go_sem,rA,rM,rS]
 refine ⟨_,rfl,?_⟩
 rw [YY,if_pos h0,h0]
 exact Zak.rfl
end Go.Proofs.Ythilckbkffjliaa
namespace Go.Azalai
theorem ZkX {X:List Letter} {i:Nat} (hi:i < X.length):mN (X.take (i+1))=mN (X.take i)+if X[i].mouth=true then 1 else 0:=by
 rw [List.take_succ_eq_append_getElem hi,mN,mN,List.filter_append,List.length_append]
 congr 1
 by_cases h:X[i].mouth=true
 . rw [if_pos h];simp [h]
 . rw [if_neg h];simp [h]
theorem mN_le {X:List Letter} {i:Nat}:mN (X.take i)<=X.length:=by
 unfold mN
 refine Nat.le_trans (List.length_filter_le _ _) ?_
 rw [List.length_take];omega
def sR (p:Pact) (X:List Letter) (set:Nat):List (Int × Int):=if set=0 then [] else alL p X set 0
def sV (p:Pact) (set:Nat):Nat:=if set=0 then 0 else p.partners.length
def fR (p:Pact) (X:List Letter) (i:Nat):List (Int × Int):=(List.range i).map (alR p X 1)
theorem Zw9 {p:Pact} {X:List Letter} {i:Nat}:fR p X (i+1)=fR p X i ++ [alR p X 1 i]:=by simp [fR,List.range_succ]
theorem ZrS {p:Pact} {X:List Letter} {i:Nat}:(fR p X i).length=i:=by simp [fR]
theorem Zv6 {p:Pact} {X:List Letter}:fR p X p.partners.length=sR p X 1:=by
 rw [sR,if_neg (by decide),<- ZcI]
 exact List.map_congr_left fun i hi=>by rw [if_pos (List.mem_range.1 hi)]
end Go.Azalai
namespace Go.Proofs.Ythilckbkffjliaa
open Go Go.Sx Go.Azalai
theorem u32 {args:List SV} {res:SV} (ka:KFL args) (kr:KF res) (h:sx Try.prog Y0 0 c32 (st0 args 125) (Zl8 r32 res)) (hA:Nat.ble args.length 125=true:=by rfl):Ct Try.prog 32 args res:=XS Try.func32 rfl b32 Zzw ZyR n32 (Nat.le_of_ble_eq_true hA) ka kr h
theorem Zgj (p:Pact) (l:List Letter) (hs:YI p) (hl:l.length<=1000) (c:Bool):Ct Try.prog 32 [.agg (Zh p),.sl c 8 (l.map Zc)] (.tup [.sl false 2 ((YR p l).map Yo),I (Ys p l)]):=by
 refine u32 (by simp [Zh,Za,Zc,Zb,KFL,KF]) (by simp [Zb,Yo,KFL,KF]) ?_
 have herr:∀ e,Ys p l=e->e≠0->Zak (.tup [.v (.slice none 0 0),I e]) (.tup [.sl false 2 ((YR p l).map Yo),I (Ys p l)]):=fun e h1 h2=>by
  rw [YR,h1,if_neg h2]
  exact WI (YM Vq fun _ _ _ _ _ h=>h)
 dsimp only [c32,r32,Zh,go_sem,rA,rM,rS]
 refine call (Zfr p hs) ?_
 dsimp only [go_sem,rA,rM,rS]
 by_cases hp:ZA p=true
 case neg =>
  have e:YS p l=80:=by rw [YS,if_pos (by simpa using hp)]
  refine Zw (by simpa using hp) ?_
  dsimp only [go_sem,rA,rM,rS]
  exact ⟨_,rfl,herr 80 (by rw [Ys,e,if_neg (by decide)]) (by decide)⟩
 refine Zu (by simp [hp]) ?_
 dsimp only [go_sem,rA,rM,rS]
 refine call (Zcb p l hs hl c) ?_
 dsimp only [go_sem,rA,rM,rS]
 rw [<- Zfx (l:=l) hp]
 by_cases h0:YS p l=0
 case neg =>
  refine Zw (by simpa using h0) ?_
  dsimp only [go_sem,rA,rM,rS]
  exact ⟨_,rfl,herr _ (by rw [Ys,if_neg h0]) h0⟩
 refine Zu (by simpa using h0) ?_
 dsimp only [go_sem,rA,rM,rS]
 obtain ⟨_,h100,-,-⟩:=Zbg h0
 have h8:=(Yx hp).2.2.2.2.2.2
 have hlen:=Uo (p:=p) (l:=l)
 refine call (ZfX p l hl c) ?_
 dsimp only [go_sem,rA,rM,rS]
 have hsE:Ys p l=if mN (Xi p l) > 6 then 83 else 0:=by rw [Ys,if_pos h0]
 have hsR:mN (Xi p l)<=6->YR p l=VV p (Xi p l):=fun h=>by
  have hz:Ys p l=0:=by rw [hsE];exact if_neg (by omega)
  rw [YR,if_pos hz]
 have hX:=ZaA h0
 generalize Xi p l=X at *
 refine Yf (fun s:Nat=>[(9,I (s:Nat)),(8,I (mN (X.take s):Nat))]) (fun _=>[]) (fun s=>s<=X.length) (fun s=>X.length - s) 0 (Nat.zero_le _) ?_ ?_
 . (refine Zi ?_ ?_ ?_ rfl rfl<;>dsimp only [Zh,Za,Zc,mN,List.take_zero,List.filter_nil,List.length_nil,id,go_sem,rA,rM,rS]<;>simp [Zh,Za,Zc,mN,List.take_zero,List.filter_nil,List.length_nil,Zb,Ze,KFR,KFL,KF,Zd,mtO,nbr])
 intro k hk
 dsimp only [go_sem,rA,rM,rS]
 simp only [List.length_map]
 by_cases hlt:k < X.length
 . refine Zw (by simpa using hlt) ?_
   dsimp only [go_sem,rA,rM,rS]
   refine Zq k hlt rfl ?_
   dsimp only [Zc,go_sem,rA,rM,rS]
   have hmt:=ZkX hlt
   have hml:=mN_le (X:=X) (i:=k)
   by_cases hm:X[k].mouth=true
   . refine Zw hm ?_
     dsimp only [go_sem,rA,rM,rS]
     rw [if_pos hm] at hmt
     rw [Zf (n:=((mN (X.take k):Nat):Int)+1) (by omega) (by omega),Zf (n:=(k:Int)+1) (by omega) (by omega),show ((mN (X.take k):Nat):Int)+1=((mN (X.take (k+1)):Nat):Int) from by omega]
     refine ⟨k+1,hlt,by omega,?_⟩
     (refine Zi ?_ ?_ ?_ rfl rfl<;>dsimp only [Zh,Za,Zc,id,go_sem,rA,rM,rS]<;>simp [Zh,Za,Zc,Zb,Ze,KFR,KFL,KF,Zd,mtO,nbr])
   . refine Zu (by simpa using hm) ?_
     dsimp only [go_sem,rA,rM,rS]
     rw [if_neg hm] at hmt
     rw [Zf (n:=(k:Int)+1) (by omega) (by omega)]
     refine ⟨k+1,hlt,by omega,?_⟩
     rw [show mN (X.take (k+1))=mN (X.take k) from by omega]
     (refine Zi ?_ ?_ ?_ rfl rfl<;>dsimp only [Zh,Za,Zc,id,go_sem,rA,rM,rS]<;>simp [Zh,Za,Zc,Zb,Ze,KFR,KFL,KF,Zd,mtO,nbr])
 refine Zu (by simpa using hlt) ?_
 dsimp only [go_sem,rA,rM,rS]
 have hkl:k=X.length:=by omega
 subst hkl
 rw [List.take_length]
 refine gh ZL ?_
 dsimp only [go_sem,rA,rM,rS]
 by_cases h6:mN X > 6
 . refine Zw (by simp;omega) ?_
   dsimp only [go_sem,rA,rM,rS]
   exact ⟨_,rfl,herr 83 (by rw [hsE,if_pos h6]) (by omega)⟩
 refine Zu (by simp;omega) ?_
 dsimp only [go_sem,rA,rM,rS]
 have hR:=hsR (by omega)
 have hE0:Ys p l=0:=by rw [hsE];exact if_neg h6
 rw [hR,hE0]
 have hal:∀ L:List (Int × Int),KFR (L.map Yo):=fun L=>Zb.2 fun x _=>by simp [Yo,KFL,KF]
 have hdone:=Zf5 (p:=p) (X:=X)
 have hNpos:0 < 2 ^ mN X:=Nat.two_pow_pos _
 have hpow:2 ^ mN X<=64:=by
  have:2 ^ mN X<=2 ^ 6:=Nat.pow_le_pow_right (by omega) (by omega)
  omega
 refine Zai (YF (Uv [2,7,8,10,11] rfl) (ZX 10 2 70 rfl rfl)) (fun s:Nat=>[(11,I (s:Nat)),(10,.mr 1 (sV p s))]) (fun s=>[(1,.row (sV p s) 2 ((sR p X s).map Yo) 70)]) (fun s=>s<=2 ^ mN X) (fun s=>2 ^ mN X - s) 0 (Nat.zero_le _) ?_ ?_
 . (refine Zi ?_ ?_ ?_ rfl rfl<;>dsimp only [Zh,Za,Zc,sV,sR,if_true,List.map_nil,id,go_sem,rA,rM,rS]<;>simp [Zh,Za,Zc,sV,sR,if_true,List.map_nil,Zb,Ze,KFR,KFL,KF,Zd,mtO,nbr])
 intro set hset
 dsimp only [go_sem,rA,rM,rS]
 refine Vs rfl rfl (.inr (.inr rfl)) (Zlb (by omega)) ?_
 dsimp only [go_sem,rA,rM,rS]
 by_cases hlt2:set < 2 ^ mN X
 case neg =>
  refine Zu (decide_eq_false fun h=>hlt2 (Int.ofNat_lt.1 h)) ?_
  dsimp only [go_sem,rA,rM,rS]
  have hse:set=2 ^ mN X:=by omega
  refine gh ZL ?_
  dsimp only [go_sem,rA,rM,rS]
  simp only [nbr]
  dsimp only [go_sem,rA,rM,rS]
  refine ⟨_,rfl,?_⟩
  rw [sR,if_neg (by omega),hse,hdone]
  exact Zak.rfl
 refine Zw (decide_eq_true (Int.ofNat_lt.2 hlt2)) ?_
 dsimp only [go_sem,rA,rM,rS]
 refine Zai (ZX 12 8 50 rfl rfl) (fun s:Nat=>[(14,I (s:Nat)),(12,.mr 2 (Z1 set 0 (X.take s)).length),(13,I (mN (X.take s):Nat))]) (fun s=>[(2,.row (Z1 set 0 (X.take s)).length 8 ((Z1 set 0 (X.take s)).map Zc) 50)]) (fun s=>s<=X.length) (fun s=>X.length - s) 0 (Nat.zero_le _) ?_ ?_
 . (refine Zi ?_ ?_ ?_ rfl rfl<;>dsimp only [Zh,Za,Zc,hal,Z1,mN,List.take_zero,List.filter_nil,List.length_nil,id,go_sem,rA,rM,rS]<;>simp [Zh,Za,Zc,hal,Z1,mN,List.take_zero,List.filter_nil,List.length_nil,Zb,Ze,KFR,KFL,KF,Zd,mtO,nbr])
 intro i hi
 dsimp only [go_sem,rA,rM,rS]
 simp only [List.length_map]
 by_cases hlt3:i < X.length
 . refine Zw (by simpa using hlt3) ?_
   dsimp only [go_sem,rA,rM,rS]
   refine Zq i hlt3 rfl ?_
   dsimp only [Zc,go_sem,rA,rM,rS]
   have hst:=ZdK (set:=set) (X:=X) hlt3
   have hsl:(Z1 set 0 (X.take i)).length<=X.length:=Nat.le_trans Xd.length_le (by simp;omega)
   have hml:mN (X.take i)<=mN X:=by
    unfold mN;exact ((List.take_sublist i X).filter _).length_le
   have hmt:=ZkX hlt3
   by_cases hm:X[i].mouth=true
   . rw [if_pos hm] at hst hmt
     refine Zw hm ?_
     dsimp only [go_sem,rA,rM,rS]
     refine Vs rfl rfl (.inr (.inl rfl)) (ZjR (by omega)) ?_
     dsimp only [go_sem,rA,rM,rS]
     refine Vs rfl rfl (.inl rfl) (Zjp (Nat.lt_of_le_of_lt (Nat.div_le_self _ _) (by omega))) ?_
     dsimp only [go_sem,rA,rM,rS]
     rw [Zf (n:=((mN (X.take i):Nat):Int)+1) (by omega) (by omega),show ((mN (X.take i):Nat):Int)+1=((mN (X.take (i+1)):Nat):Int) from by omega]
     have htb:set.testBit (mN (X.take i))=decide (set / 2 ^ mN (X.take i) % 2=1):=Nat.testBit_eq_decide_div_mod_eq
     generalize hbit:set / 2 ^ mN (X.take i) % 2=bit at *
     by_cases hb1:bit=1
     . refine Zw (by simp [hb1]) ?_
       dsimp only [go_sem,rA,rM,rS]
       refine Zq i hlt3 rfl ?_
       (repeat first | dsimp only [Zc,go_sem,rA,rM,rS] | simp only [nbr])
       rw [htb,hb1,decide_eq_true rfl,if_pos rfl] at hst
       refine ⟨by simp [ZW,Wy,Zab],by simp;omega,?_⟩
       (repeat first | dsimp only [go_sem,rA,rM,rS] | simp only [nbr])
       have e1:(Z1 set 0 (X.take i)).map Zc ++ [Zc X[i]]=(Z1 set 0 (X.take (i+1))).map Zc:=by rw [hst,List.map_append];rfl
       have e2:(Z1 set 0 (X.take i)).length+1=(Z1 set 0 (X.take (i+1))).length:=by rw [hst];simp
       simp only [Zc] at e1
       rw [e1,e2,Zf (n:=(i:Int)+1) (by omega) (by omega)]
       refine ⟨i+1,hlt3,by omega,?_⟩
       (refine Zi ?_ ?_ ?_ rfl rfl<;>dsimp only [Zh,Za,Zc,hal,id,go_sem,rA,rM,rS]<;>simp [Zh,Za,Zc,hal,Zb,Ze,KFR,KFL,KF,Zd,mtO,nbr])
     . refine Zu (by simp;omega) ?_
       dsimp only [go_sem,rA,rM,rS]
       rw [htb,if_neg (by simp [hb1]),List.append_nil] at hst
       rw [Zf (n:=(i:Int)+1) (by omega) (by omega)]
       refine ⟨i+1,hlt3,by omega,?_⟩
       rw [hst]
       (refine Zi ?_ ?_ ?_ rfl rfl<;>dsimp only [Zh,Za,Zc,hal,id,go_sem,rA,rM,rS]<;>simp [Zh,Za,Zc,hal,Zb,Ze,KFR,KFL,KF,Zd,mtO,nbr])
   . rw [if_neg hm] at hst hmt
     refine Zu (by simpa using hm) ?_
     dsimp only [go_sem,rA,rM,rS]
     refine Zw rfl ?_
     dsimp only [go_sem,rA,rM,rS]
     refine Zq i hlt3 rfl ?_
     (repeat first | dsimp only [Zc,go_sem,rA,rM,rS] | simp only [nbr])
     refine ⟨by simp [ZW,Wy,Zab],by simp;omega,?_⟩
     (repeat first | dsimp only [go_sem,rA,rM,rS] | simp only [nbr])
     have e1:(Z1 set 0 (X.take i)).map Zc ++ [Zc X[i]]=(Z1 set 0 (X.take (i+1))).map Zc:=by rw [hst,List.map_append];rfl
     have e2:(Z1 set 0 (X.take i)).length+1=(Z1 set 0 (X.take (i+1))).length:=by rw [hst];simp
     simp only [Zc] at e1
     rw [e1,e2,Zf (n:=(i:Int)+1) (by omega) (by omega)]
     refine ⟨i+1,hlt3,by omega,?_⟩
     rw [show mN (X.take (i+1))=mN (X.take i) from by omega]
     (refine Zi ?_ ?_ ?_ rfl rfl<;>dsimp only [Zh,Za,Zc,hal,id,go_sem,rA,rM,rS]<;>simp [Zh,Za,Zc,hal,Zb,Ze,KFR,KFL,KF,Zd,mtO,nbr])
 refine Zu (by simpa using hlt3) ?_
 dsimp only [go_sem,rA,rM,rS]
 have hie:i=X.length:=by omega
 subst hie
 rw [List.take_length]
 refine gh (WN 12 2 (Z1 set 0 X).length rfl rfl rfl rfl) ?_
 dsimp only [go_sem,rA,rM,rS]
 have hsX:∀ x ∈ Z1 set 0 X,Zk p x=true:=fun x hx=>hX x (Xd.subset hx)
 have hsl:(Z1 set 0 X).length<=X.length:=Xd.length_le
 refine call (Zch hp (Z1 set 0 X) hsX (by omega) false) ?_
 dsimp only [go_sem,rA,rM,rS]
 have hsh:(YA p (Z1 set 0 X)).length=p.partners.length:=YV
 cases set with
 | zero =>
  refine Zet [2,7,8,10,11,16,17] rfl (fun s:Nat=>[(17,I (s:Nat)),(10,.mr 1 s)]) (fun s=>[(1,.row s 2 ((fR p X s).map Yo) 70)]) (fun s=>s<=p.partners.length) (fun s=>p.partners.length - s) 0 (Nat.zero_le _) ?_ ?_
  . (refine Zi ?_ ?_ ?_ rfl rfl<;>dsimp only [Zh,Za,Zc,hal,Zl,sV,sR,if_true,fR,List.range_zero,List.map_nil,id,go_sem,rA,rM,rS]<;>simp [Zh,Za,Zc,hal,Zl,sV,sR,if_true,fR,List.range_zero,List.map_nil,Zb,Ze,KFR,KFL,KF,Zd,mtO,nbr])
  intro k hk
  dsimp only [go_sem,rA,rM,rS]
  simp only [List.length_map,hsh]
  by_cases hlt4:k < p.partners.length
  . refine Zw (by simpa using hlt4) ?_
    dsimp only [go_sem,rA,rM,rS]
    refine Zw (by decide) ?_
    dsimp only [go_sem,rA,rM,rS]
    have hn:(YA p (Z1 0 0 X))[k]'(by rw [hsh];exact hlt4)=ZH p X k 0:=by
     rw [ZH,List.getD_eq_getElem?_getD,List.getElem?_eq_getElem (by rw [hsh];exact hlt4)];rfl
    refine Zq k (by rw [hsh];exact hlt4) rfl ?_
    dsimp only [Zl,go_sem,rA,rM,rS]
    rw [hn]
    refine Zq k (by rw [hsh];exact hlt4) rfl ?_
    (repeat first | dsimp only [Zl,go_sem,rA,rM,rS] | simp only [nbr])
    rw [hn]
    refine ⟨by simp [ZW,Wy,Zab],by simp [ZrS];omega,?_⟩
    (repeat first | dsimp only [go_sem,rA,rM,rS] | simp only [nbr])
    have e1:(fR p X k).map Yo ++ [[SV.v (Value.int IntKind.i64 (ZH p X k 0)),SV.v (Value.int IntKind.i64 (ZH p X k 0))]]=(fR p X (k+1)).map Yo:=by rw [Zw9,List.map_append];rfl
    first | rw [e1] | (simp only [] ; rw [e1])
    have hgl:k < (fR p X (k+1)).length:=by rw [ZrS];omega
    have hgg:(fR p X (k+1))[k]'hgl=(ZH p X k 0,ZH p X k 0):=by simp only [fR,List.getElem_map,List.getElem_range];rfl
    have hset:(fR p X (k+1)).set k (ZH p X k 0,ZH p X k 0)=fR p X (k+1):=by rw [<- hgg,List.set_getElem_self]
    refine Yl k rfl (by rw [List.length_map];exact hgl) ?_
    (repeat first | dsimp only [go_sem,rA,rM,rS] | simp only [nbr])
    refine Xt hgl ?_
    rw [hgg]
    (repeat first | dsimp only [Yo,go_sem,rA,rM,rS] | simp only [nbr])
    refine Zq k (by rw [hsh];exact hlt4) rfl ?_
    (repeat first | dsimp only [Zl,go_sem,rA,rM,rS] | simp only [nbr])
    rw [hn]
    refine Yl k rfl (by rw [List.length_map];exact hgl) ?_
    (repeat first | dsimp only [go_sem,rA,rM,rS] | simp only [nbr])
    refine Xt hgl ?_
    rw [hgg]
    (repeat first | dsimp only [Yo,go_sem,rA,rM,rS] | simp only [nbr])
    refine Zq k (by rw [hsh];exact hlt4) rfl ?_
    (repeat first | dsimp only [Zl,go_sem,rA,rM,rS] | simp only [nbr])
    rw [hn]
    refine Yl k rfl (by rw [List.length_map];exact hgl) ?_
    (repeat first | dsimp only [go_sem,rA,rM,rS] | simp only [nbr])
    rw [Int.min_self,Int.max_self]
    refine WT (ZH p X k 0,ZH p X k 0) hgl (by simp [Yo]) (by simp [Yo,Zn]) ?_
    (repeat first | dsimp only [go_sem,rA,rM,rS] | simp only [nbr])
    rw [hset,Zf (n:=(k:Int)+1) (by omega) (by omega)]
    refine ⟨k+1,hlt4,by omega,?_⟩
    (refine Zi ?_ ?_ ?_ rfl rfl<;>dsimp only [Zh,Za,Zc,hal,Zl,id,go_sem,rA,rM,rS]<;>simp [Zh,Za,Zc,hal,Zl,Zb,Ze,KFR,KFL,KF,Zd,mtO,nbr])
  refine Zu (by simpa using hlt4) ?_
  dsimp only [go_sem,rA,rM,rS]
  refine gh ZL ?_
  dsimp only [go_sem,rA,rM,rS]
  rw [show k=p.partners.length from by omega,Zv6,Zf (n:=((0:Nat):Int)+1) (by omega) (by omega)]
  refine ⟨1,by omega,by omega,?_⟩
  (refine Zi ?_ ?_ ?_ rfl rfl<;>dsimp only [Zh,Za,Zc,hal,Zl,sV,id,go_sem,rA,rM,rS]<;>simp [Zh,Za,Zc,hal,Zl,sV,Zb,Ze,KFR,KFL,KF,Zd,mtO,nbr])
 | succ t =>
  refine Zet [2,7,8,10,11,16,17] rfl (fun s:Nat=>[(17,I (s:Nat)),(10,.mr 1 p.partners.length)]) (fun s=>[(1,.row p.partners.length 2 ((alL p X (t+1) s).map Yo) 70)]) (fun s=>s<=p.partners.length) (fun s=>p.partners.length - s) 0 (Nat.zero_le _) ?_ ?_
  . (refine Zi ?_ ?_ ?_ rfl rfl<;>dsimp only [Zh,Za,Zc,hal,Zl,sV,sR,id,go_sem,rA,rM,rS]<;>simp [Zh,Za,Zc,hal,Zl,sV,sR,Zb,Ze,KFR,KFL,KF,Zd,mtO,nbr])
  intro k hk
  dsimp only [go_sem,rA,rM,rS]
  simp only [List.length_map,hsh]
  by_cases hlt4:k < p.partners.length
  . refine Zw (by simpa using hlt4) ?_
    dsimp only [go_sem,rA,rM,rS]
    refine Zu (by simp;omega) ?_
    dsimp only [go_sem,rA,rM,rS]
    have hn:(YA p (Z1 (t+1) 0 X))[k]'(by rw [hsh];exact hlt4)=ZH p X k (t+1):=by
     rw [ZH,List.getD_eq_getElem?_getD,List.getElem?_eq_getElem (by rw [hsh];exact hlt4)];rfl
    have hgl:k < (alL p X (t+1) k).length:=by rw [WM];exact hlt4
    have hgg:(alL p X (t+1) k)[k]=(ZrE (ZH p X k) t,Zsh (ZH p X k) t):=by rw [ZcH,if_neg (by omega)];rfl
    simp only [nbr]
    (repeat first | dsimp only [go_sem,rA,rM,rS] | simp only [nbr])
    refine Yl k rfl (by rw [List.length_map];exact hgl) ?_
    (repeat first | dsimp only [go_sem,rA,rM,rS] | simp only [nbr])
    refine Xt hgl ?_
    rw [hgg]
    (repeat first | dsimp only [Yo,go_sem,rA,rM,rS] | simp only [nbr])
    refine Zq k (by rw [hsh];exact hlt4) rfl ?_
    (repeat first | dsimp only [Zl,go_sem,rA,rM,rS] | simp only [nbr])
    rw [hn]
    refine Yl k rfl (by rw [List.length_map];exact hgl) ?_
    (repeat first | dsimp only [go_sem,rA,rM,rS] | simp only [nbr])
    refine Xt hgl ?_
    rw [hgg]
    (repeat first | dsimp only [Yo,go_sem,rA,rM,rS] | simp only [nbr])
    refine Zq k (by rw [hsh];exact hlt4) rfl ?_
    (repeat first | dsimp only [Zl,go_sem,rA,rM,rS] | simp only [nbr])
    rw [hn]
    refine Yl k rfl (by rw [List.length_map];exact hgl) ?_
    (repeat first | dsimp only [go_sem,rA,rM,rS] | simp only [nbr])
    refine WT (alR p X (t+2) k) hgl (by simp [Yo]) (by simp [Yo,Zn,alR,ZrE,Zsh]) ?_
    (repeat first | dsimp only [go_sem,rA,rM,rS] | simp only [nbr])
    rw [Zed hlt4,Zf (n:=(k:Int)+1) (by omega) (by omega)]
    refine ⟨k+1,hlt4,by omega,?_⟩
    (refine Zi ?_ ?_ ?_ rfl rfl<;>dsimp only [Zh,Za,Zc,hal,Zl,id,go_sem,rA,rM,rS]<;>simp [Zh,Za,Zc,hal,Zl,Zb,Ze,KFR,KFL,KF,Zd,mtO,nbr])
  refine Zu (by simpa using hlt4) ?_
  dsimp only [go_sem,rA,rM,rS]
  refine gh ZL ?_
  dsimp only [go_sem,rA,rM,rS]
  rw [show k=p.partners.length from by omega,ZcI,Zf (n:=((t+1:Nat):Int)+1) (by omega) (by omega)]
  refine ⟨t+1+1,by omega,by omega,?_⟩
  (refine Zi ?_ ?_ ?_ rfl rfl<;>dsimp only [Zh,Za,Zc,hal,Zl,sV,sR,id,go_sem,rA,rM,rS]<;>simp [Zh,Za,Zc,hal,Zl,sV,sR,Zb,Ze,KFR,KFL,KF,Zd,mtO,nbr])
theorem Zsy (p:Pact) (hs:YI p):Ct Try.prog 17 [.agg (Zh p)] (.agg (Zh p)):=by
 have hs':p.partners.length<=1000:=hs
 refine t17.1 (by simp [Zh,Za,Zb,KFL,KF]) (by simp [Zh,Za,Zb,KFL,KF]) ?_
 dsimp only [c17,r17,Zh,go_sem,rA,rM,rS]
 refine app0 (by simp;omega) ?_
 dsimp only [go_sem,rA,rM,rS]
 try simp
theorem Zel (p:Pact) (hs:YI p):Ct Try.prog 23 [.agg (Zh p),.agg (Zh p)] (B true):=by
 have hs':p.partners.length<=1000:=hs
 refine t23.1 (by simp [Zh,Za,Zb,KFL,KF]) (by simp [KFL,KF]) ?_
 dsimp only [c23,r23,Zh,go_sem,rA,rM,rS]
 repeat (refine gb ?_;dsimp only [go_sem,rA,rM,rS])
 refine Zu (by simp) ?_
 dsimp only [go_sem,rA,rM,rS]
 refine Yf (fun s:Nat=>[(5,I (s:Nat))]) (fun _=>[]) (fun s=>s<=p.partners.length) (fun s=>p.partners.length - s) 0 (Nat.zero_le _) ?_ ?_
 . (refine Zi ?_ ?_ ?_ rfl rfl<;>dsimp only [Zh,Za,id,go_sem,rA,rM,rS]<;>simp [Zh,Za,Zb,Ze,KFR,KFL,KF,Zd,mtO,nbr])
 intro k hk
 dsimp only [go_sem,rA,rM,rS]
 simp only [List.length_map]
 by_cases hlt:k < p.partners.length
 . refine Zw (by simpa using hlt) ?_
   dsimp only [go_sem,rA,rM,rS]
   refine Zq k hlt rfl ?_
   dsimp only [Za,go_sem,rA,rM,rS]
   refine Zq k hlt rfl ?_
   dsimp only [Za,go_sem,rA,rM,rS]
   refine Zu (by simp [ngB]) ?_
   dsimp only [go_sem,rA,rM,rS]
   rw [Zf (n:=(k:Int)+1) (by omega) (by omega)]
   refine ⟨k+1,hlt,by omega,?_⟩
   (refine Zi ?_ ?_ ?_ rfl rfl<;>dsimp only [Zh,Za,id,go_sem,rA,rM,rS]<;>simp [Zh,Za,Zb,Ze,KFR,KFL,KF,Zd,mtO,nbr])
 refine Zu (by simpa using hlt) ?_
 dsimp only [go_sem,rA,rM,rS]
theorem ZaM {p:Pact} {l:List Letter}:(YY p l).length<=p.partners.length:=by
 unfold YY
 split
 . exact Nat.le_of_eq YV
 . simp
theorem Za9 {p:Pact} {l:List Letter}:(YR p l).length<=p.partners.length:=by
 unfold YR
 split
 . simp [VV]
 . simp
theorem Zhw (p:Pact) (l:List Letter) (c:Bool):Ct Try.prog 5 [.agg (Zh p),.sl c 8 (l.map Zc)] (B true):=by
 refine t5.1 (by simp [Zh,Za,Zc,Zb,KFL,KF]) (by simp [KFL,KF]) ?_
 dsimp only [c5,r5,Zh,go_sem,rA,rM,rS]
 refine call (Zql p l c) ?_
 dsimp only [go_sem,rA,rM,rS]
 by_cases hg:ZfH p l=true
 . refine Zw hg ?_
   dsimp only [go_sem,rA,rM,rS]
 refine Zu (by simpa using hg) ?_
 dsimp only [go_sem,rA,rM,rS]
 simp only [ZfH,Bool.or_eq_true,decide_eq_true_eq,not_or] at hg
 have hs:YI p:=by unfold YI;omega
 have hl:l.length<=1000:=by omega
 have k1:=Zki (YY p l) (YY p l) (by have:=ZaM (p:=p) (l:=l);omega) (by have:=ZaM (p:=p) (l:=l);omega) false false
 have k2:=Zk5 (YR p l) (YR p l) (by have:=Za9 (p:=p) (l:=l);omega) (by have:=Za9 (p:=p) (l:=l);omega) false false
 have k3:=ZjJ l l (by omega) (by omega) false c
 refine call (Zsy p hs) ?_
 dsimp only [Zh,go_sem,rA,rM,rS]
 refine app0 (by simp;omega) ?_
 dsimp only [go_sem,rA,rM,rS]
 refine call (Zjj p l hs hl false) ?_
 dsimp only [go_sem,rA,rM,rS]
 refine call (Zgz p l hs hl c) ?_
 dsimp only [go_sem,rA,rM,rS]
 refine call (ZkI p l hs hl false) ?_
 dsimp only [go_sem,rA,rM,rS]
 refine call (Zgj p l hs hl c) ?_
 dsimp only [go_sem,rA,rM,rS]
 refine call k1 ?_
 dsimp only [go_sem,rA,rM,rS]
 repeat (first | (refine gb ?_;dsimp only [go_sem,rA,rM,rS]) | (refine call k2 ?_;dsimp only [go_sem,rA,rM,rS]) | (refine call k3 ?_;dsimp only [go_sem,rA,rM,rS]) | (refine call (Zel p hs) ?_;dsimp only [go_sem,rA,rM,rS]))
 simp
end Go.Proofs.Ythilckbkffjliaa
