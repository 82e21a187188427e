/- Walks and plain laws that lead to the given statement, part 8 of 9. -/
import Derived.Test.YtiigiflofnjilaaGreatQG
import Derived.Test.YtiigiflofnjilaaGreatProg
import Derived.WideLaws
set_option maxRecDepth 100000
set_option maxHeartbeats 4000000
set_option linter.all false
open Nat renaming reduceAdd->rA,reduceMul->rM,reduceSub->rS,beq_refl->nbr
namespace Go.Proofs.YtiigiflofnjilaaGreat
open Go Go.Sx Go.Azalai
theorem Zce:Zc2 Tryz.prog 117=true:=by kernel_rfl
def Xe (why at_:Int):Ot:=⟨true,.ifc 117 (.agg [U8 why,I at_]),[],0⟩
theorem VZ (w k:Int):CtM Tryz.prog 91 [] 0 [B true,U8 w,I k] (fun o=>o=⟨false,.tup [],[],0⟩):=by
 refine m91 (by simp [hpb]) (fun o ho=>by subst ho;simp [KX,KXL,KXP]) ?_
 dsimp only [c91,r91,go_sem,rA,rM,rS]
 refine Zs rfl ?_
 dsimp only [go_sem,rA,rM,rS]
 refine ⟨_,rfl,?_⟩
 (refine Y2 ?_ ?_ ?_ rfl<;>dsimp only [id,go_sem,rA,rM,rS]<;>simp [Za,Zi,KFR,KFL,KF,Zd,mtO,nbr])
theorem ZaG (w k:Int):CtM Tryz.prog 91 [] 0 [B false,U8 w,I k] (fun o=>o=Xe w k):=by
 refine m91 (by simp [hpb]) (fun o ho=>by subst ho;simp [Xe,KX,KXL,KXP]) ?_
 dsimp only [c91,r91,go_sem,rA,rM,rS]
 refine Zr rfl ?_
 dsimp only [go_sem,rA,rM,rS]
 refine Zgv (s:=.agg [U8 w,I k]) Zce rfl (fun _ _ _ e=>by cases e) ?_
 dsimp only [go_sem,rA,rM,rS]
 refine Zgu rfl ?_
 dsimp only [go_sem,rA,rM,rS]
 refine ⟨_,rfl,?_⟩
 (refine Y2 ?_ ?_ ?_ rfl<;>dsimp only [Xe,id,go_sem,rA,rM,rS]<;>simp [Xe,Za,Zi,KFR,KFL,KF,Zd,mtO,nbr])
theorem Zgt (s:Season) (k:Nat) (hk:k < s.scenes.length):Ct Tryz.prog 156 [.agg (YA s k)] (.agg (Zj s.scenes[k])):=by
 refine t156.1 (by simp [YA,Zj,Zf,Zl,Zh,Zc,Zo,Za,KFL,KF]) (by simp [Zj,Zc,Zo,Za,KFL,KF]) ?_
 dsimp only [c156,r156,YA,go_sem,rA,rM,rS]
 refine Zm k hk rfl ?_
 dsimp only [Zj,go_sem,rA,rM,rS]
def U3 (at_:Int) (r:Camel × Int):Ot:=if r.2=0 then ⟨false,.agg (camelL r.1),[],0⟩ else Xe r.2 at_
theorem Znz (s:Season) (k:Nat) (hk:k < s.scenes.length) (at_:Int) (c:Camel) (d:Span) (slabs:Int) (hn:0<=slabs/\slabs<=12) (hs:0<=s.slab/\s.slab<=1000000) (hd:d.hi<=1000000000) :
 CtM Tryz.prog 164 [] 0 [.agg (YA s k),I at_,.agg (camelL c),.agg (Zc d),I slabs] (fun o=>o=U3 at_ (Yu s s.scenes[k] d slabs c)):=by
 have hb:0<=slabs * s.slab/\slabs * s.slab<=12 * 1000000:=⟨Int.mul_nonneg hn.1 hs.1,Int.mul_le_mul hn.2 hs.2 hs.1 (by decide)⟩
 refine m164 (by simp [hpb]) (fun o ho=>by subst ho;unfold U3;split<;>simp [Xe,Cm.camelL,KX,KXL,KXP]) ?_
 dsimp only [c164,r164,Zc,Cm.camelL,YA,go_sem,rA,rM,rS]
 refine call (Zgt s k hk) ?_
 dsimp only [Zj,go_sem,rA,rM,rS]
 refine call (Zgt s k hk) ?_
 dsimp only [Zj,go_sem,rA,rM,rS]
 rw [Ze (n:=slabs * s.slab) (by omega) (by omega)]
 refine Vl [1,5,7,8,10,11,12,13,35,36] rfl (fun q:Nat × Camel × Camel=>[(36,I q.1)]) (fun q=>[(1,.cells (Cm.camelL q.2.1) 31),(5,.cells (Cm.camelL q.2.2) 31)])
  (fun q=>q.1<=d.hi.toNat/\VT s.breed (VA s s.scenes[k] slabs) d.lo (d.hi.toNat - q.1) q.1 q.2.1 q.2.2=Yu s s.scenes[k] d slabs c) (fun q=>d.hi.toNat - q.1) (0,c,Yf) ⟨Nat.zero_le _,rfl⟩ ?_ ?_
 . (refine Zk ?_ ?_ ?_ rfl rfl<;>dsimp only [Cm.camelL,Yf,Xx,Zh,Zf,Zl,Zj,Zc,Zo,mtL,mtB,mtS,id,go_sem,rA,rM,rS]<;>simp [Cm.camelL,Yf,Xx,Zh,Zf,Zl,Zj,Zc,Zo,mtL,mtB,mtS,Za,Zi,KFR,KFL,KF,Zd,mtO,nbr])
 rintro ⟨n,c,out⟩ ⟨hk',hi⟩
 simp only at hk' hi
 dsimp only [Cm.camelL,go_sem,rA,rM,rS]
 by_cases hlt:n < d.hi.toNat
 case neg =>
  refine Zs (by simp;omega) ?_
  dsimp only [go_sem,rA,rM,rS]
  rw [show d.hi.toNat - n=0 from by omega,VT] at hi
  rw [<- hi]
  refine ⟨_,rfl,?_⟩
  simp only [U3,if_true]
  (refine Y2 ?_ ?_ ?_ rfl<;>dsimp only [Cm.camelL,mtL,mtB,mtS,id,go_sem,rA,rM,rS]<;>simp [Cm.camelL,mtL,mtB,mtS,Za,Zi,KFR,KFL,KF,Zd,mtO,nbr])
 refine Zr (by simp;omega) ?_
 dsimp only [go_sem,rA,rM,rS]
 refine call (Cm.carries_ok s.breed c) ?_
 dsimp only [Cm.sres,Zc,go_sem,rA,rM,rS]
 rw [show (if Ub s.breed c=0 then Zpn s.breed c else Xx)=Zda s.breed c from rfl]
 have hj:d.hi.toNat - n=(d.hi.toNat - (n+1))+1:=by omega
 rw [hj,VT] at hi
 by_cases hw:(VA s s.scenes[k] slabs).load > (Zda s.breed c).lo
 . rw [show decide (slabs * s.slab<=(Zda s.breed c).lo)=false from decide_eq_false (by have:slabs * s.slab > (Zda s.breed c).lo:=hw;omega)]
   refine Xh [] (ZaG 2 at_) rfl rfl rfl ?_ ?_ ?_
   . (repeat first | dsimp only [go_sem,rA,rM,rS] | simp only [nbr])
     try simp [mtL,mtB,mtS]
   . trivial
   rintro _ rfl
   (repeat first | dsimp only [Xe,go_sem,rA,rM,rS] | simp only [nbr])
   rw [<- hi,if_pos hw]
   refine ⟨_,rfl,?_⟩
   simp only [U3]
   (refine Y2 ?_ ?_ ?_ rfl<;>dsimp only [Xe,id,go_sem,rA,rM,rS]<;>simp [Xe,Za,Zi,KFR,KFL,KF,Zd,mtO,nbr])
 rw [show decide (slabs * s.slab<=(Zda s.breed c).lo)=true from decide_eq_true (by have:¬ slabs * s.slab > (Zda s.breed c).lo:=hw;omega)]
 refine Xh [] (VZ 2 at_) rfl rfl rfl ?_ ?_ ?_
 . (repeat first | dsimp only [go_sem,rA,rM,rS] | simp only [nbr])
   try simp [mtL,mtB,mtS]
 . trivial
 rintro _ rfl
 (repeat first | dsimp only [go_sem,rA,rM,rS] | simp only [nbr])
 rw [if_neg hw] at hi
 refine call (Cm.after1_ok s.breed c (VA s s.scenes[k] slabs)) ?_
 generalize Yo s.breed c (VA s s.scenes[k] slabs)=r at hi ⊢
 dsimp only [Cm.camelL,Cm.U8,go_sem,rA,rM,rS]
 repeat (refine gb ?_;dsimp only [go_sem,rA,rM,rS])
 by_cases hf:r.2.2≠0\/r.2.1≠0
 . rw [show (r.2.2 == 0 && r.2.1 == 0)=false from by simp;omega]
   refine Xh [] (ZaG 3 at_) rfl rfl rfl ?_ ?_ ?_
   . (repeat first | dsimp only [go_sem,rA,rM,rS] | simp only [nbr])
     try simp [mtL,mtB,mtS]
   . trivial
   rintro _ rfl
   (repeat first | dsimp only [Xe,go_sem,rA,rM,rS] | simp only [nbr])
   rw [<- hi,if_pos hf]
   refine ⟨_,rfl,?_⟩
   simp only [U3]
   (refine Y2 ?_ ?_ ?_ rfl<;>dsimp only [Xe,id,go_sem,rA,rM,rS]<;>simp [Xe,Za,Zi,KFR,KFL,KF,Zd,mtO,nbr])
 rw [show (r.2.2 == 0 && r.2.1 == 0)=true from by simp;omega]
 refine Xh [] (VZ 3 at_) rfl rfl rfl ?_ ?_ ?_
 . (repeat first | dsimp only [go_sem,rA,rM,rS] | simp only [nbr])
   try simp [mtL,mtB,mtS]
 . trivial
 rintro _ rfl
 (repeat first | dsimp only [go_sem,rA,rM,rS] | simp only [nbr])
 rw [if_neg hf] at hi
 rw [Ze (n:=(n:Int)+1) (by omega) (by omega)]
 by_cases hl:(n:Int)+1=d.lo
 . refine Zr (by simpa using hl) ?_
   dsimp only [go_sem,rA,rM,rS]
   rw [if_pos hl] at hi
   try rw [Ze (n:=(n:Int)+1) (by omega) (by omega)]
   refine ⟨(n+1,r.1,r.1),⟨hlt,hi⟩,by simp only;omega,?_⟩
   (refine Zk ?_ ?_ ?_ rfl rfl<;>dsimp only [Cm.camelL,Yf,Xx,Zh,Zf,Zl,Zj,Zc,Zo,mtL,mtB,mtS,id,go_sem,rA,rM,rS]<;>simp [Cm.camelL,Yf,Xx,Zh,Zf,Zl,Zj,Zc,Zo,mtL,mtB,mtS,Za,Zi,KFR,KFL,KF,Zd,mtO,nbr])
 refine Zs (by simpa using hl) ?_
 dsimp only [go_sem,rA,rM,rS]
 rw [if_neg hl] at hi
 try rw [Ze (n:=(n:Int)+1) (by omega) (by omega)]
 by_cases hm:(n:Int)+1 > d.lo
 . refine Zr (by simpa using hm) ?_
   dsimp only [go_sem,rA,rM,rS]
   rw [if_pos hm] at hi
   refine call (Zdq out.water r.1.water _) ?_
   dsimp only [go_sem,rA,rM,rS]
   refine call (Zdq out.fat r.1.fat _) ?_
   dsimp only [go_sem,rA,rM,rS]
   refine call (Zdq out.sore r.1.sore _) ?_
   dsimp only [Zc,go_sem,rA,rM,rS]
   try rw [Ze (n:=(n:Int)+1) (by omega) (by omega)]
   refine ⟨(n+1,r.1,ZdZ out r.1),⟨hlt,hi⟩,by simp only;omega,?_⟩
   (refine Zk ?_ ?_ ?_ rfl rfl<;>dsimp only [Cm.camelL,ZdZ,Yf,Xx,Zh,Zf,Zl,Zj,Zc,Zo,mtL,mtB,mtS,id,go_sem,rA,rM,rS]<;>simp [Cm.camelL,ZdZ,Yf,Xx,Zh,Zf,Zl,Zj,Zc,Zo,mtL,mtB,mtS,Za,Zi,KFR,KFL,KF,Zd,mtO,nbr])
 refine Zs (by simp;omega) ?_
 dsimp only [go_sem,rA,rM,rS]
 rw [if_neg hm] at hi
 try rw [Ze (n:=(n:Int)+1) (by omega) (by omega)]
 refine ⟨(n+1,r.1,out),⟨hlt,hi⟩,by simp only;omega,?_⟩
 (refine Zk ?_ ?_ ?_ rfl rfl<;>dsimp only [Cm.camelL,Yf,Xx,Zh,Zf,Zl,Zj,Zc,Zo,mtL,mtB,mtS,id,go_sem,rA,rM,rS]<;>simp [Cm.camelL,Yf,Xx,Zh,Zf,Zl,Zj,Zc,Zo,mtL,mtB,mtS,Za,Zi,KFR,KFL,KF,Zd,mtO,nbr])
def Zsx:SC:=(.seq (.reg [
 o1 2 (.mv (.c (.slice none 0 0)))])
 (.seq (.seq (.reg [
 m1 3 0,
 o1 4 (.isn (.t 3))])
 (.cond (.t 4)
 (.seq (.reg [
  o1 2 (.mv (.c (.slice none 0 0)))])
  .ret)
 .skip))
 (.seq (.reg [
 o1 5 (.bsl 9 88 []),
 m1 6 0,
 o1 7 (.cln 9 72 88 (.t 5) (.t 6)),
 m1 2 7])
 .ret)))
def Zqc:List RV:=[.tmp 2]
theorem nw155:Tryz.f155.ntmps=8:=by kernel_rfl
theorem bw155:YO Tryz.prog 155=true:=by kernel_rfl
theorem Znd:Xv Tryz.prog Zsx ((Tryz.f155.body).getD .skip)=true:=by kernel_rfl
theorem Zml:Ww Tryz.prog Zqc Tryz.f155.results.toList=true:=by kernel_rfl
theorem mw155 {n0:Nat} {hp0:List (Nat × HB)} {args:List SV} {ZV:Ot->Prop} (hh:hpb n0 hp0) (hx:∀ o,ZV o->KX o.res/\KXP o.hp) (h:sx Tryz.prog Y0 n0 Zsx ⟨enum 0 args,hp0,n0,8,[]⟩ (retM Zqc fun o=>∃ o',ZV o'/\ZdT n0 o o')) (hA:Nat.ble args.length 8=true:=by rfl):CtM Tryz.prog 155 hp0 n0 args ZV:=Y9 Tryz.func155 rfl bw155 Znd Zml nw155 (Nat.le_of_ble_eq_true hA) hh hx h
def ZuG:SC:=(.seq (.reg [
 o1 2 (.box (.t 0) 0 120),
 o1 3 (.box (.t 1) 0 94),
 o1 4 (.mv (.c (.int .i64 0)))])
 (.seq (.reg [
 o1 10 (.addo (.t 2) 0),
 o1 11 (.addo (.t 10) 0),
 o1 12 (.ld (.t 11) 2 true),
 o1 5 (.alloc [.slice none 0 0,.slice none 0 0] 25),
 ⟨none,.st (.t 5) (.t 12) 2,none,[]⟩])
 (.seq (.reg [
 o1 13 (.addo (.t 5) 0),
 o1 14 (.ld (.t 13) 1 false),
 o1 15 (.callm 155 [.t 14]),
 o1 16 (.addo (.t 5) 0),
 ⟨none,.st (.t 16) (.t 15) 1,none,[]⟩])
 (.seq (.seq (.reg [
 o1 17 (.addo (.t 5) 0),
 o1 18 (.ld (.t 17) 1 false),
 o1 19 (.len (.t 18)),
 o1 20 (.mv (.c (.int .i64 0)))])
 (.block 0 (.loop (.seq (.reg [
  o1 21 (.bin .lss (.t 20) (.t 19))])
  (.seq (.cond (.t 21)
  .skip
  (.exit 0))
  (.seq (.block 1 (.seq (.reg [
   m1 22 20,
   m1 6 22])
   (.regd [0,1,2,3,4,5,6,7,8,9,10,11] [
   .op (o1 23 (.addo (.t 5) 0)),
   .op ⟨some 24,.ld (.t 23) 1 false,none,[0]⟩,
   .op (m1 25 6),
   .op (o1 26 (.ld (.t 2) 38 true)),
   .op ⟨some 27,.call 156 [.t 26],none,[3]⟩,
   .op ⟨some 28,.fld (.t 27) 4 1 false,none,[4]⟩,
   .op (m1 29 6),
   .op ⟨some 30,.ixs (.t 28) (.t 29) 2,none,[5,6]⟩,
   .op ⟨some 31,.ld (.t 30) 2 true,none,[7]⟩,
   .op ⟨some 32,.ixs (.t 24) (.t 25) 9,none,[0,1,2,3,4,5,6,7,8]⟩,
   .op ⟨some 33,.addo (.t 32) 3,none,[0,1,2,3,4,5,6,7,8,9]⟩] 0 1 [
   ⟨none,.st (.t 33) (.t 31) 2,none,[0,1,2,3,4,5,6,7,8,10]⟩])))
  (.reg [
  o1 34 (.bin .add (.t 20) (.c (.int .i64 1))),
  m1 20 34])))))))
 (.seq (.reg [
 o1 36 (.ld (.t 5) 2 true),
 o1 37 (.addo (.t 3) 1),
 o1 38 (.ld (.t 37) 1 false),
 o1 39 (.addo (.t 3) 4),
 o1 40 (.addo (.t 39) 0),
 o1 41 (.ld (.t 40) 1 false),
 o1 42 (.call 42 [.t 36,.t 38,.c (.slice none 0 0),.t 41]),
 m1 35 42,
 o1 43 (.ext (.t 35) 0),
 o1 44 (.ext (.t 35) 1),
 o1 45 (.ext (.t 35) 2),
 o1 7 (.alloc [.int .i64 0,.int .i64 0] 27),
 ⟨none,.st (.t 7) (.t 43) 2,none,[]⟩,
 m1 8 44,
 m1 9 45])
 (.seq (.reg [
 o1 46 (.addo (.t 7) 0),
 o1 47 (.ld (.t 46) 1 false),
 m1 4 47])
 .ret))))))
def Zui:List RV:=[.tmp 4]
theorem tw113:Qt1 Tryz.prog 113 ZuG Zui 48:=ZT Tryz.func113 rfl (by kernel_rfl) (by kernel_rfl) (by kernel_rfl) (by kernel_rfl)
def cw38:SC:=(.seq (.reg [
 o1 2 (.box (.t 0) 0 34),
 o1 4 (.alloc [.slice none 0 0,.slice none 0 0] 25)])
 (.seq (.reg [
 o1 7 (.addo (.t 2) 0),
 o1 8 (.ld (.t 7) 2 true),
 o1 9 (.callm 47 [.t 8]),
 o1 5 (.alloc [.slice none 0 0,.slice none 0 0] 25),
 ⟨none,.st (.t 5) (.t 9) 2,none,[]⟩])
 (.seq (.seq (.reg [
 o1 6 (.mv (.c (.int .i64 0)))])
 (.block 0 (.loop (.seq (.seq (.reg [
  m1 10 6,
  o1 11 (.addo (.t 5) 0),
  o1 12 (.ld (.t 11) 1 false),
  o1 13 (.len (.t 12)),
  o1 14 (.bin .lss (.t 10) (.t 13))])
  (.cond (.t 14)
  .skip
  (.exit 0)))
  (.seq (.block 1 (.regd [0,1,2,3,4,5,6,7,8,9,10,11,12,13,14] [
   .op (o1 17 (.addo (.t 5) 0)),
   .op ⟨some 18,.ld (.t 17) 1 false,none,[0]⟩,
   .op (m1 19 6),
   .op (o1 20 (.addo (.t 2) 36)),
   .op ⟨some 21,.ld (.t 20) 1 false,none,[3]⟩,
   .op (m1 22 1),
   .op ⟨some 23,.ixs (.t 21) (.t 22) 6,none,[4,5]⟩,
   .op ⟨some 24,.addo (.t 23) 4,none,[6]⟩,
   .op ⟨some 25,.ld (.t 24) 1 false,none,[7]⟩,
   .op (m1 26 6),
   .op ⟨some 27,.ixs (.t 25) (.t 26) 2,none,[8,9]⟩,
   .op ⟨some 28,.ld (.t 27) 2 true,none,[10]⟩,
   .op ⟨some 29,.ixs (.t 18) (.t 19) 9,none,[0,1,2,3,4,5,6,7,8,9,10,11]⟩,
   .op ⟨some 30,.addo (.t 29) 3,none,[0,1,2,3,4,5,6,7,8,9,10,11,12]⟩] 0 1 [
   ⟨none,.st (.t 30) (.t 28) 2,none,[0,1,2,3,4,5,6,7,8,9,10,11,13]⟩]))
  (.reg [
  m1 15 6,
  o1 16 (.bin .add (.t 15) (.c (.int .i64 1))),
  m1 6 16]))))))
 (.seq (.reg [
 o1 31 (.ld (.t 5) 2 true),
 ⟨none,.st (.t 4) (.t 31) 2,none,[]⟩])
 .ret))))
def rw38:List RV:=[.cell 4 2 true]
theorem tw38:Qt1 Tryz.prog 38 cw38 rw38 32:=ZT Tryz.func38 rfl (by kernel_rfl) (by kernel_rfl) (by kernel_rfl) (by kernel_rfl)
def cw47:SC:=(.seq (.reg [
 o1 1 (.box (.t 0) 0 25),
 o1 2 (.alloc [.slice none 0 0,.slice none 0 0] 25)])
 (.seq (.reg [
 o1 4 (.bsl 9 88 []),
 o1 5 (.addo (.t 1) 0),
 o1 6 (.ld (.t 5) 1 false),
 o1 7 (.cln 9 72 88 (.t 4) (.t 6)),
 o1 8 (.addo (.t 1) 0),
 ⟨none,.st (.t 8) (.t 7) 1,none,[]⟩])
 (.seq (.reg [
 o1 9 (.bsl 5 83 []),
 o1 10 (.addo (.t 1) 1),
 o1 11 (.ld (.t 10) 1 false),
 o1 12 (.cln 5 56 83 (.t 9) (.t 11)),
 o1 13 (.addo (.t 1) 1),
 ⟨none,.st (.t 13) (.t 12) 1,none,[]⟩])
 (.seq (.seq (.reg [
 o1 3 (.mv (.c (.int .i64 0)))])
 (.block 0 (.loop (.seq (.seq (.reg [
  m1 14 3,
  o1 15 (.addo (.t 1) 1),
  o1 16 (.ld (.t 15) 1 false),
  o1 17 (.len (.t 16)),
  o1 18 (.bin .lss (.t 14) (.t 17))])
  (.cond (.t 18)
  .skip
  (.exit 0)))
  (.seq (.block 1 (.regd [0,1,2,3,4,5,6,7,8,9,10,11,12,13] [
   .op (o1 21 (.addo (.t 1) 1)),
   .op ⟨some 22,.ld (.t 21) 1 false,none,[0]⟩,
   .op (m1 23 3),
   .op (o1 24 (.bsl 4 85 [])),
   .op (o1 25 (.addo (.t 1) 1)),
   .op ⟨some 26,.ld (.t 25) 1 false,none,[4]⟩,
   .op (m1 27 3),
   .op ⟨some 28,.ixs (.t 26) (.t 27) 5,none,[5,6]⟩,
   .op ⟨some 29,.addo (.t 28) 4,none,[7]⟩,
   .op ⟨some 30,.ld (.t 29) 1 false,none,[8]⟩,
   .op ⟨some 31,.app 4 32 85 (.t 24) (.t 30),none,[3,9]⟩,
   .op ⟨some 32,.ixs (.t 22) (.t 23) 5,none,[0,1,2,3,4,5,6,7,8,9,10]⟩,
   .op ⟨some 33,.addo (.t 32) 4,none,[0,1,2,3,4,5,6,7,8,9,10,11]⟩] 0 1 [
   ⟨none,.st (.t 33) (.t 31) 1,none,[0,1,2,3,4,5,6,7,8,9,10,12]⟩]))
  (.reg [
  m1 19 3,
  o1 20 (.bin .add (.t 19) (.c (.int .i64 1))),
  m1 3 20]))))))
 (.seq (.reg [
 o1 34 (.ld (.t 1) 2 true),
 ⟨none,.st (.t 2) (.t 34) 2,none,[]⟩])
 .ret)))))
def rw47:List RV:=[.cell 2 2 true]
theorem nw47:Tryz.f47.ntmps=35:=by kernel_rfl
theorem bw47:YO Tryz.prog 47=true:=by kernel_rfl
theorem ZpX:Xv Tryz.prog cw47 ((Tryz.f47.body).getD .skip)=true:=by kernel_rfl
theorem Zty:Ww Tryz.prog rw47 Tryz.f47.results.toList=true:=by kernel_rfl
theorem mw47 {n0:Nat} {hp0:List (Nat × HB)} {args:List SV} {ZV:Ot->Prop} (hh:hpb n0 hp0) (hx:∀ o,ZV o->KX o.res/\KXP o.hp) (h:sx Tryz.prog Y0 n0 cw47 ⟨enum 0 args,hp0,n0,35,[]⟩ (retM rw47 fun o=>∃ o',ZV o'/\ZdT n0 o o')) (hA:Nat.ble args.length 35=true:=by rfl):CtM Tryz.prog 47 hp0 n0 args ZV:=Y9 Tryz.func47 rfl bw47 ZpX Zty nw47 (Nat.le_of_ble_eq_true hA) hh hx h
end Go.Proofs.YtiigiflofnjilaaGreat
namespace Go.Azalai
open Go.Sx
def Zch (ws:List Well) (ys:List Span):List Well:=List.zipWith (fun w y=>{ w with yld:=y }) ws ys
def Wi (s:Season) (x:Scene):Land:=⟨Zch s.land.wells x.yields,s.land.legs⟩
def XR (ws Z:List Well) (k:Nat):List Well:=Z.take k ++ ws.drop k
theorem ZbH {ws:List Well} {ys:List Span} (h:ys.length=ws.length):(Zch ws ys).length=ws.length:=by simp [Zch,h]
theorem WM {ws Z:List Well} {k:Nat} (h:Z.length=ws.length) (hk:k<=ws.length):(XR ws Z k).length=ws.length:=by simp [XR];omega
theorem VG {ws Z:List Well} {k:Nat} (h:Z.length=ws.length) (hk:k < ws.length) (hk':k < (XR ws Z k).length):(XR ws Z k)[k]=ws[k]:=by
 simp only [XR]
 rw [List.getElem_append_right (by simp;omega)]
 simp [Nat.min_eq_left (Nat.le_of_lt (h ▸ hk:k < Z.length))]
theorem Zc1 {ws Z:List Well} {k:Nat} (h:Z.length=ws.length) (hk:k < ws.length) (hz:k < Z.length):(XR ws Z k).set k Z[k]=XR ws Z (k+1):=by
 simp only [XR]
 rw [List.set_append_right _ _ (by simp;omega)]
 have h1:(Z.take k).length=k:=by simp;omega
 rw [h1,Nat.sub_self,List.drop_eq_getElem_cons hk,List.set_cons_zero,List.take_succ_eq_append_getElem hz,List.append_assoc]
 rfl
theorem Zen {ws:List Well} {ys:List Span} {k:Nat} (h1:k < ws.length) (h2:k < ys.length) (h:k < (Zch ws ys).length):(Zch ws ys)[k]={ ws[k] with yld:=ys[k] }:=by simp [Zch]
def Zd1 (s:Season) (x:Scene) (st:Stop):Int:=(Xg (Wi s x) st.well [] st.arrives.lo).1.lo
end Go.Azalai
namespace Go.Proofs.YtiigiflofnjilaaGreat
open Go Go.Sx Go.Azalai
theorem UC {s:Season} {x:Scene} (h:XM s.land) (hx:x.yields.length=s.land.wells.length):XM (Wi s x):=by
 refine ⟨?_,h.2.1,h.2.2⟩
 simp only [Wi];rw [ZbH hx];exact h.1
theorem Zg5 (l:List Well) (hL:l.length<=1000) (k:Bool):CtM Tryz.prog 155 [] 0 [.sl k 9 (l.map Zf)] (fun o=>o=⟨false,.mr 0 0,[(0,.row 0 9 (l.map Zf) 88)],1⟩):=by
 refine mw155 (by simp [hpb]) (fun o ho=>by subst ho;simp [KX,KXL,KXP,KXH,Za,KFL,KF,Zf]) ?_
 dsimp only [Zsx,Zqc,go_sem,rA,rM,rS]
 intro b hb
 dsimp only [go_sem,rA,rM,rS]
 cases b with
 | true =>
  have hl:l=[]:=by simpa using hb rfl
  subst hl
  refine Zr rfl ?_
  dsimp only [go_sem,rA,rM,rS]
  refine ⟨_,rfl,?_⟩
  refine Vp (Z6 (Yj 0 9 88 rfl rfl) ?_) (fun _ _ _ e=>by cases e)
  (refine Zk ?_ ?_ ?_ rfl rfl<;>dsimp only [Zf,id,go_sem,rA,rM,rS]<;>simp [Zf,Za,Zi,KFR,KFL,KF,Zd,mtO,nbr])
 | false =>
  refine Zs rfl ?_
  dsimp only [go_sem,rA,rM,rS]
  refine ⟨by simp;omega,?_⟩
  dsimp only [go_sem,rA,rM,rS]
  refine ⟨_,rfl,?_⟩
  (refine Y2 ?_ ?_ ?_ rfl<;>dsimp only [Zf,id,go_sem,rA,rM,rS]<;>simp [Zf,Za,Zi,KFR,KFL,KF,Zd,mtO,nbr])
theorem Zln (l:Land) (hs:XM l):CtM Tryz.prog 47 [] 0 [.agg (ZH l)] (fun o=>o=⟨false,.agg [.mr 0 0,.mr 1 0],[(0,.row 0 9 (l.wells.map Zf) 88),(1,.row 0 5 (l.legs.map Zl) 83)],2⟩):=by
 refine mw47 (by simp [hpb]) (fun o ho=>by subst ho;simp [KX,KXL,KXP,KXH,Za,KFL,KF,ZH,Zf,Zl,Zh]) ?_
 dsimp only [cw47,rw47,ZH,go_sem,rA,rM,rS]
 refine ⟨by simp;have:=hs.1;omega,?_⟩
 dsimp only [go_sem,rA,rM,rS]
 refine ⟨by simp;have:=hs.2.1;omega,?_⟩
 dsimp only [go_sem,rA,rM,rS]
 refine YV (fun k:Nat=>[(3,I k)]) (fun _=>[]) (fun k=>k<=l.legs.length) (fun k=>l.legs.length - k) 0 (Nat.zero_le _) ?_ ?_
 . (refine Zk ?_ ?_ ?_ rfl rfl<;>dsimp only [Zh,Zf,Zl,id,go_sem,rA,rM,rS]<;>simp [Zh,Zf,Zl,Za,Zi,KFR,KFL,KF,Zd,mtO,nbr])
 intro k hk
 dsimp only [go_sem,rA,rM,rS]
 simp only [List.length_map]
 by_cases hlt:k < l.legs.length
 . refine Zr (by simpa using hlt) ?_
   dsimp only [go_sem,rA,rM,rS]
   refine Zbb k rfl (by simpa using hlt) ?_
   dsimp only [go_sem,rA,rM,rS]
   refine Zee hlt ?_
   dsimp only [Zl,go_sem,rA,rM,rS]
   refine app0 (by simp;have:=hs.2.2 _ (List.getElem_mem hlt);omega) ?_
   dsimp only [go_sem,rA,rM,rS]
   refine Zbb k rfl (by simpa using hlt) ?_
   dsimp only [go_sem,rA,rM,rS]
   refine Zok l.legs[k] hlt (by simp [Zl]) (by simp [Zl,splice]) ?_
   rw [List.set_getElem_self]
   dsimp only [go_sem,rA,rM,rS]
   rw [Ze (n:=(k:Int)+1) (by omega) (by have:=hs.2.1;omega)]
   refine ⟨k+1,hlt,by omega,?_⟩
   (refine Zk ?_ ?_ ?_ rfl rfl<;>dsimp only [Zh,Zf,Zl,id,go_sem,rA,rM,rS]<;>simp [Zh,Zf,Zl,Za,Zi,KFR,KFL,KF,Zd,mtO,nbr])
 refine Zs (by simp;omega) ?_
 dsimp only [go_sem,rA,rM,rS]
 refine ⟨_,rfl,?_⟩
 refine entO (fun i=>i+2) ?_ ?_ ?_ (fun i hi j hj h=>by omega) rfl (fun i hi=>absurd hi (Nat.not_lt_zero i))<;>dsimp only [go_sem,rA,rM,rS]<;>simp [Za,Zi,KFR,KFL,KF,Zd,mtO,nbr,Zf,Zl,Zh]
theorem ZvC (s:Season) (hs:SmallS s) (k:Nat) (hk:k < s.scenes.length) (hy:s.scenes[k].yields.length=s.land.wells.length) (st:Stop):Ct Tryz.prog 113 [.agg (YA s k),.agg (Zt st)] (I (Zd1 s s.scenes[k] st)):=by
 have hw:=hs.land.1
 refine tw113.1 (by simp [YA,Zt,Zj,Zf,Zl,Zh,Zc,Zo,Za,KFL,KF]) (by simp [KFL,KF]) ?_
 dsimp only [ZuG,Zui,YA,Zt,go_sem,rA,rM,rS]
 refine Zbl [] (Zg5 s.land.wells hw false) rfl rfl rfl ?_ ?_ ?_
 . exact Zd (by simp [Za,Zf,KFL,KF])
 . trivial
 dsimp only [go_sem,rA,rM,rS]
 simp only [List.length_map]
 have hz:=ZbH hy
 refine Vl [2,3,4,5,19,20] rfl (fun q:Nat=>[(20,I q)]) (fun q=>[(3,.row 0 9 ((XR s.land.wells (Zch s.land.wells s.scenes[k].yields) q).map Zf) 88)])
  (fun q=>q<=s.land.wells.length) (fun q=>s.land.wells.length - q) 0 (Nat.zero_le _) ?_ ?_
 . (refine Zk ?_ ?_ ?_ rfl rfl<;>dsimp only [Zf,Zl,Zh,Zj,Zc,Zo,XR,id,go_sem,rA,rM,rS]<;>simp [Zf,Zl,Zh,Zj,Zc,Zo,XR,Za,Zi,KFR,KFL,KF,Zd,mtO,nbr])
 intro q hq
 dsimp only [go_sem,rA,rM,rS]
 by_cases hlt:q < s.land.wells.length
 . refine Zr (by simpa using hlt) ?_
   dsimp only [go_sem,rA,rM,rS]
   refine call (Zgt s k hk) ?_
   dsimp only [Zj,go_sem,rA,rM,rS]
   refine Zm q (by omega) rfl ?_
   dsimp only [Zc,go_sem,rA,rM,rS]
   refine Zbb q rfl (by simp [WM hz hq];omega) ?_
   dsimp only [go_sem,rA,rM,rS]
   have hq2:q < (XR s.land.wells (Zch s.land.wells s.scenes[k].yields) q).length:=by rw [WM hz hq];exact hlt
   have hq3:q < (Zch s.land.wells s.scenes[k].yields).length:=by omega
   refine Zok ((Zch s.land.wells s.scenes[k].yields)[q]) hq2 (by rw [VG hz hlt];simp [Zf]) (by rw [VG hz hlt,Zen hlt (by omega)];simp [Zf,splice]) ?_
   rw [Zc1 hz hlt hq3]
   dsimp only [go_sem,rA,rM,rS]
   rw [Ze (n:=(q:Int)+1) (by omega) (by omega)]
   refine ⟨q+1,by omega,by omega,?_⟩
   (refine Zk ?_ ?_ ?_ rfl rfl<;>dsimp only [Zf,Zl,Zh,Zj,Zc,Zo,id,go_sem,rA,rM,rS]<;>simp [Zf,Zl,Zh,Zj,Zc,Zo,Za,Zi,KFR,KFL,KF,Zd,mtO,nbr])
 refine Zs (by simp;omega) ?_
 dsimp only [go_sem,rA,rM,rS]
 have hq':XR s.land.wells (Zch s.land.wells s.scenes[k].yields) q=Zch s.land.wells s.scenes[k].yields:=by
  simp only [XR];rw [List.take_of_length_le (by omega),List.drop_eq_nil_of_le (by omega),List.append_nil]
 rw [hq']
 have hwa:=(Zn4 (Wi s s.scenes[k]) (UC hs.land hy) st.well st.arrives.lo [] (by simp)).args (args0:=[.agg (ZH (Wi s s.scenes[k])),I st.well,.v (.slice none 0 0),I st.arrives.lo]) (by simp [ZH,Zf,Zl,Zh,Za,KFL,KF]) (ZG (fun _ _ _ _ _ h=>h) (ZG (fun _ _ _ _ _ h=>h) (ZG Yq Wv)))
 refine ZcA (by simp [FLT,Zt6,Zdb,Zc]) (res:=Zdb (Xg (Wi s s.scenes[k]) st.well [] st.arrives.lo)) ?_ ?_
 . dsimp only [go_sem,rA,rM,rS]
   exact hwa
 dsimp only [Zdb,Zc,go_sem,rA,rM,rS]
 rfl
theorem Zgr (s:Season) (hs:SmallS s) (k:Nat) (hk:k < s.scenes.length) (hy:s.scenes[k].yields.length=s.land.wells.length):Ct Tryz.prog 38 [.agg (Zp s),I k] (.agg (ZH (Wi s s.scenes[k]))):=by
 have hw:=hs.land.1
 refine tw38.1 (by simp [Zp,Zj,Zf,Zl,Zh,Zc,Zo,Za,KFL,KF]) (by simp [ZH,Zf,Zl,Zh,Za,KFL,KF]) ?_
 dsimp only [cw38,rw38,Zp,go_sem,rA,rM,rS]
 refine Zbl [] (Zln s.land hs.land) rfl rfl rfl ?_ ?_ ?_
 . exact Zd (by simp [ZH,Zf,Zl,Zh,Za,KFL,KF])
 . trivial
 dsimp only [go_sem,rA,rM,rS]
 have hz:=ZbH hy
 refine Vl [2,4,5,6,1] rfl (fun q:Nat=>[(6,I q)]) (fun q=>[(2,.row 0 9 ((XR s.land.wells (Zch s.land.wells s.scenes[k].yields) q).map Zf) 88)])
  (fun q=>q<=s.land.wells.length) (fun q=>s.land.wells.length - q) 0 (Nat.zero_le _) ?_ ?_
 . (refine Zk ?_ ?_ ?_ rfl rfl<;>dsimp only [Zf,Zl,Zh,Zj,Zc,Zo,XR,id,go_sem,rA,rM,rS]<;>simp [Zf,Zl,Zh,Zj,Zc,Zo,XR,Za,Zi,KFR,KFL,KF,Zd,mtO,nbr])
 intro q hq
 dsimp only [go_sem,rA,rM,rS]
 simp only [List.length_map,WM hz hq]
 by_cases hlt:q < s.land.wells.length
 . refine Zr (by simpa using hlt) ?_
   dsimp only [go_sem,rA,rM,rS]
   refine Zm k hk rfl ?_
   dsimp only [Zj,go_sem,rA,rM,rS]
   refine Zm q (by omega) rfl ?_
   dsimp only [Zc,go_sem,rA,rM,rS]
   refine Zbb q rfl (by simp [WM hz hq];omega) ?_
   dsimp only [go_sem,rA,rM,rS]
   have hq2:q < (XR s.land.wells (Zch s.land.wells s.scenes[k].yields) q).length:=by rw [WM hz hq];exact hlt
   have hq3:q < (Zch s.land.wells s.scenes[k].yields).length:=by omega
   refine Zok ((Zch s.land.wells s.scenes[k].yields)[q]) hq2 (by rw [VG hz hlt];simp [Zf]) (by rw [VG hz hlt,Zen hlt (by omega)];simp [Zf,splice]) ?_
   rw [Zc1 hz hlt hq3]
   dsimp only [go_sem,rA,rM,rS]
   rw [Ze (n:=(q:Int)+1) (by omega) (by omega)]
   refine ⟨q+1,by omega,by omega,?_⟩
   (refine Zk ?_ ?_ ?_ rfl rfl<;>dsimp only [Zf,Zl,Zh,Zj,Zc,Zo,id,go_sem,rA,rM,rS]<;>simp [Zf,Zl,Zh,Zj,Zc,Zo,Za,Zi,KFR,KFL,KF,Zd,mtO,nbr])
 refine Zs (by simp;omega) ?_
 dsimp only [go_sem,rA,rM,rS]
 have hq':XR s.land.wells (Zch s.land.wells s.scenes[k].yields) q=Zch s.land.wells s.scenes[k].yields:=by
  simp only [XR];rw [List.take_of_length_le (by omega),List.drop_eq_nil_of_le (by omega),List.append_nil]
 rw [hq']
 rfl
end Go.Proofs.YtiigiflofnjilaaGreat
namespace Go.Sx
open Go Go.RowKit
theorem ZeG {l l':List SV} (h:∀ (w:World) (E:Env) (n ok:Nat->Prop) (ys:List Value),RL w E n ok l ys->RL w E n ok l' ys):ZfD (.agg l) (.agg l'):=fun w E n ok y hy=>by
 simp only [R] at hy ⊢
 obtain ⟨cs,h1,h2⟩:=hy
 exact ⟨cs,h1,h _ _ _ _ _ h2⟩
end Go.Sx
namespace Go.Azalai
open Go.Sx
def Va (b:Breed) (c:Camel):Camel:={ c with water:=⟨b.full,b.full⟩ }
def goG (s:Season) (x:Scene) (slabs:Int):List Stop->Nat->Camel->List (Int × Int)->Int × Int × List (Int × Int)
 | [],_,_,acc=>(0,0,acc)
 | st :: r,i,c,acc =>
  if (Yu s x (Yz s.land st.leg s.pace).1 slabs c).2≠0 then ((Yu s x (Yz s.land st.leg s.pace).1 slabs c).2,i,acc)
  else goG s x slabs r (i+1) (Va s.breed (Yu s x (Yz s.land st.leg s.pace).1 slabs c).1)
   (if r=[] then acc else acc ++ [(s.breed.full - (Yu s x (Yz s.land st.leg s.pace).1 slabs c).1.water.lo,Zd1 s x st)])
def goF (s:Season) (x:Scene) (slabs:Int) (l:List Stop):Int × Int × List (Int × Int) :=
 if l=[] then (if slabs * s.slab > (Zda s.breed s.camel).lo then 2 else 0,0,[]) else goG s x slabs l 0 s.camel []
theorem ZdC {lo hi:Int} {a b:Span} (ha:Z0 lo hi a=true) (hb:Z0 lo hi b=true):Z0 lo hi (ZfG a b)=true:=by
 simp only [Z0,decide_eq_true_eq] at ha hb
 show decide (lo<=min a.lo b.lo/\min a.lo b.lo<=max a.hi b.hi/\max a.hi b.hi<=hi)=true
 rw [decide_eq_true_eq];omega
theorem ZjO {b:Breed} {c:Camel} {m:March} (hb:Zv b=true) (hc:Zu b c=true) (he:(Yo b c m).2.2=0):Zu b (Yo b c m).1=true:=by
 unfold Yo at he ⊢
 rw [if_neg (by rw [Go.Proofs.YtiigiflofnjilaaGreat.Cm.errC_0.2 ⟨hb,hc⟩];simp)] at he ⊢
 split
 . rename_i h;rw [if_pos h] at he;simp at he
 . rename_i h
   rw [if_neg h] at he
   split
   . rename_i h2;rw [if_pos h2] at he;simp at he
   . rename_i h2
     exact Go.Azalai.after_ok hb hc (by simpa using h) h2
theorem Zb1 {b:Breed} (hb:Zv b=true):Zu b Yf=true:=by
 have:=Go.Proofs.YtiigiflofnjilaaGreat.Cm.breed_bd hb
 simp [Zu,Yf,Z0];omega
theorem Zc0 {b:Breed} {m:March} {lo:Int} (hb:Zv b=true):∀ {j n:Nat} {c out:Camel},Zu b c=true->Zu b out=true->Zu b (VT b m lo j n c out).1=true
 | 0,_,_,_,_,ho=>ho
 | j+1,n,c,out,hc,ho=>by
  simp only [VT]
  split
  . exact Zb1 hb
  split
  . exact Zb1 hb
  rename_i h1 h2
  have ha:=ZjO (m:=m) hb hc (by omega)
  refine Zc0 hb ha ?_
  split
  . exact ha
  split
  . simp only [Zu,Bool.and_eq_true] at ha ho ⊢
    exact ⟨⟨ZdC ho.1.1 ha.1.1,ZdC ho.1.2 ha.1.2⟩,ZdC ho.2 ha.2⟩
  . exact ho
theorem U6 {s:Season} {x:Scene} {d:Span} {slabs:Int} {c:Camel} (hb:Zv s.breed=true) (hc:Zu s.breed c=true):Zu s.breed (Yu s x d slabs c).1=true:=Zc0 hb hc (Zb1 hb)
theorem VC {b:Breed} {c:Camel} (hb:Zv b=true) (hc:Zu b c=true):Zu b (Va b c)=true:=by
 have:=Go.Proofs.YtiigiflofnjilaaGreat.Cm.breed_bd hb
 simp only [Zu,Va,Bool.and_eq_true] at hc ⊢
 exact ⟨⟨by simp only [Z0,decide_eq_true_eq];omega,hc.1.2⟩,hc.2⟩
theorem ZeP {l:Land} {p:Span} {leg:Int} (hg:OkLP l p):(Yz l leg p).1.hi<=1000000000:=by
 unfold Yz
 split
 . simp
 split
 . simp
 split
 . rename_i x hx
   have:=Go.Azalai.day_bd (hg.leg hx) hg.pace
   simp only;omega
 . simp
theorem ZbI {b:Breed} {c:Camel} (hb:Zv b=true) (hc:Zu b c=true):0<=c.water.lo/\c.water.lo<=b.full/\1<=b.full/\b.full<=1000000:=by
 have h1:=Go.Proofs.YtiigiflofnjilaaGreat.Cm.breed_bd hb
 have h2:=Go.Proofs.YtiigiflofnjilaaGreat.Cm.camel_bd hb hc
 omega
end Go.Azalai
namespace Go.Proofs.YtiigiflofnjilaaGreat
open Go Go.Sx Go.Azalai
theorem ZsF (s:Season) (h:OkS s) (leg:Int):Ct Tryz.prog 39 [.agg (ZH s.land),I leg,.agg (Zc s.pace)] (sres (Yz s.land leg s.pace)):=Zkf s.land h.small.land leg s.pace
theorem u63 {args:List SV} {res:SV} (ka:KFL args) (kr:KF res) (h:sx Tryz.prog Y0 0 c63 (st0 args 139) (Zt5 r63 res)) (hA:Nat.ble args.length 139=true:=by rfl):Ct Tryz.prog 63 args res:=U4 Tryz.func63 rfl b63 Zuq ZuA n63 (Nat.le_of_ble_eq_true hA) ka kr h
def ZeT (g:Int × Int × List (Int × Int)):List SV:=[U8 g.1,I g.2.1,.sl false 1 (g.2.2.map fun p=>Zo p.1),.sl false 1 (g.2.2.map fun p=>Zo p.2)]
theorem ZjD (s:Season) (h:OkS s) (k:Nat) (hk:k < s.scenes.length) (legs:List Int) (sts:List Stop) (hl:legs=sts.map Stop.leg) (hg:legs.length<=1000) (slabs:Int) (hn:0<=slabs/\slabs<=12) (c1 c2:Bool) :
 Ct Tryz.prog 63 [.agg (Zp s),I k,.sl c1 1 (legs.map Zo),.sl c2 6 (sts.map Zt),I slabs] (.agg (ZeT (goF s s.scenes[k] slabs sts))):=by
 have hnum:=h.num
 have hx:=h.scene _ (List.getElem_mem hk)
 have hy:s.scenes[k].yields.length=s.land.wells.length:=by simp only [Yk,Bool.and_eq_true,decide_eq_true_eq] at hx;omega
 have hb:0<=slabs * s.slab/\slabs * s.slab<=12 * 1000000:=⟨Int.mul_nonneg hn.1 (by omega),Int.mul_le_mul hn.2 (by omega) (by omega) (by decide)⟩
 refine u63 (by simp [Zp,Zj,Zf,Zl,Zh,Zc,Zo,Zt,Za,KFL,KF]) (by simp [ZeT,Zo,Za,KFL,KF]) ?_
 dsimp only [c63,r63,Zp,go_sem,rA,rM,rS]
 refine Zm k hk rfl ?_
 dsimp only [Zj,go_sem,rA,rM,rS]
 simp only [List.length_map]
 by_cases hs0:sts=[]
 . subst hs0
   subst hl
   refine Zr (by simp) ?_
   dsimp only [go_sem,rA,rM,rS]
   refine call (Cm.carriesR_ok s.breed s.camel) ?_
   dsimp only [Cm.sres,Zc,go_sem,rA,rM,rS]
   rw [show (if Ub s.breed s.camel=0 then Zpn s.breed s.camel else Xx)=Zda s.breed s.camel from rfl,Ze (n:=slabs * s.slab) (by omega) (by omega)]
   by_cases hw:slabs * s.slab > (Zda s.breed s.camel).lo
   . refine Zr (by simpa using hw) ?_
     dsimp only [go_sem,rA,rM,rS]
     refine ⟨_,rfl,?_⟩
     simp only [goF,if_true,if_pos hw,ZeT,List.map_nil]
     exact ZeG (ZG (fun _ _ _ _ _ h=>h) (ZG (fun _ _ _ _ _ h=>h) (ZG Yq (ZG Yq Wv))))
   . refine Zs (by simpa using hw) ?_
     dsimp only [go_sem,rA,rM,rS]
     refine ⟨_,rfl,?_⟩
     simp only [goF,if_true,if_neg hw,ZeT,List.map_nil]
     exact ZeG (ZG (fun _ _ _ _ _ h=>h) (ZG (fun _ _ _ _ _ h=>h) (ZG Yq (ZG Yq Wv))))
 have hlen:legs.length=sts.length:=by rw [hl];simp
 have h0:sts.length≠0:=fun e=>hs0 (List.length_eq_zero_iff.1 e)
 refine Zs (by rw [hlen];simpa using hs0) ?_
 dsimp only [go_sem,rA,rM,rS]
 refine call (Zgr s h.small k hk hy) ?_
 dsimp only [ZH,go_sem,rA,rM,rS]
 subst hl
 simp only [List.length_map] at hg
 have hgF:goF s s.scenes[k] slabs sts=goG s s.scenes[k] slabs sts 0 s.camel []:=by simp only [goF,if_neg hs0]
 rw [hgF]
 have hgs:∀ (j n:Nat) (hj:j < sts.length) c acc,goG s s.scenes[k] slabs (sts.drop j) n c acc=if (Yu s s.scenes[k] (Yz s.land sts[j].leg s.pace).1 slabs c).2≠0 then ((Yu s s.scenes[k] (Yz s.land sts[j].leg s.pace).1 slabs c).2,(n:Int),acc)
  else goG s s.scenes[k] slabs (sts.drop (j+1)) (n+1) (Va s.breed (Yu s s.scenes[k] (Yz s.land sts[j].leg s.pace).1 slabs c).1)
   (if sts.drop (j+1)=[] then acc else acc ++ [(s.breed.full - (Yu s s.scenes[k] (Yz s.land sts[j].leg s.pace).1 slabs c).1.water.lo,Zd1 s s.scenes[k] sts[j])]):=fun j n hj c acc=>by
  rw [List.drop_eq_getElem_cons hj,goG]
 refine Za5 (Z6 (W6 [2,3,4,5,10,11,12,13,16,17] rfl) (Z6 (Wl 2 2 1 3 rfl rfl) (Wl 2 3 1 3 rfl rfl))) (fun q:Nat × Camel × List (Int × Int) × Nat × Nat=>[(17,I q.1)])
  (fun q=>[(2,.cells [U8 0,I 0,.mr 6 q.2.2.2.1,.mr 7 q.2.2.2.2] 139),(6,.row q.2.2.2.1 1 (q.2.2.1.map fun p=>Zo p.1) 3),(7,.row q.2.2.2.2 1 (q.2.2.1.map fun p=>Zo p.2) 3),(4,.cells (Cm.camelL q.2.1) 31)])
  (fun q=>q.1<=sts.length/\goG s s.scenes[k] slabs (sts.drop q.1) q.1 q.2.1 q.2.2.1=goG s s.scenes[k] slabs sts 0 s.camel []/\Zu s.breed q.2.1=true/\q.2.2.1.length<=q.1) (fun q=>sts.length - q.1) (0,s.camel,[],0,0)
  ⟨Nat.zero_le _,rfl,h.beast.2,Nat.le_refl _⟩ ?_ ?_
 . (refine Zk ?_ ?_ ?_ rfl rfl<;>dsimp only [Cm.camelL,Zf,Zl,Zh,Zj,Zc,Zo,Zt,mtL,mtB,mtS,id,go_sem,rA,rM,rS]<;>simp [Cm.camelL,Zf,Zl,Zh,Zj,Zc,Zo,Zt,mtL,mtB,mtS,Za,Zi,KFR,KFL,KF,Zd,mtO,nbr])
 rintro ⟨j,c,acc,v1,v2⟩ ⟨hj,hi,hc,hal⟩
 simp only at hj hi hc hal
 dsimp only [Cm.camelL,go_sem,rA,rM,rS]
 simp only [List.length_map]
 by_cases hlt:j < sts.length
 case neg =>
  refine Zs (by simp;omega) ?_
  dsimp only [go_sem,rA,rM,rS]
  rw [<- hi,List.drop_eq_nil_of_le (by omega),goG]
  simp only [nbr]
  exact ⟨_,rfl,fun _ _ _ _ _ h=>h⟩
 refine Zr (by simpa using hlt) ?_
 dsimp only [go_sem,rA,rM,rS]
 refine Zm j (by simpa using hlt) rfl ?_
 simp only [List.getElem_map]
 dsimp only [Zo,go_sem,rA,rM,rS]
 refine call (Zmy s.land h.small.land sts[j].leg s.pace) ?_
 dsimp only [sres,Zc,go_sem,rA,rM,rS]
 refine call (ZkF s s.scenes[k] c (Yz s.land sts[j].leg s.pace).1 slabs hn (by omega) (ZeP h.lp)) ?_
 rw [hgs j j hlt] at hi
 have hbo:=U6 (x:=s.scenes[k]) (d:=(Yz s.land sts[j].leg s.pace).1) (slabs:=slabs) h.beast.1 hc
 generalize Yu s s.scenes[k] (Yz s.land sts[j].leg s.pace).1 slabs c=b at hi hbo ⊢
 dsimp only [camelL,Cm.camelL,go_sem,rA,rM,rS]
 by_cases hw:b.2=0
 case neg =>
  refine Zr (by simpa using hw) ?_
  dsimp only [go_sem,rA,rM,rS]
  rw [if_pos hw] at hi
  rw [<- hi]
  simp only [nbr]
  exact ⟨_,rfl,fun _ _ _ _ _ h=>h⟩
 refine Zs (by simpa using hw) ?_
 dsimp only [go_sem,rA,rM,rS]
 rw [if_neg (by simpa using hw)] at hi
 have hwb:=ZbI h.beast.1 hbo
 rw [Ze (n:=(j:Int)+1) (by omega) (by omega)]
 simp only [List.length_map]
 by_cases hlast:j+1 < sts.length
 . refine Zr (by simp;omega) ?_
   dsimp only [go_sem,rA,rM,rS]
   rw [if_neg (by intro e;rw [List.drop_eq_nil_iff] at e;omega)] at hi
   refine Zm j hlt rfl ?_
   dsimp only [Zt,go_sem,rA,rM,rS]
   refine Zm j hlt rfl ?_
   dsimp only [Zt,go_sem,rA,rM,rS]
   have hwa:=(ZjU (Wi s s.scenes[k]) (UC h.small.land hy) sts[j].well sts[j].arrives.lo [] (by simp)).args (args0:=[.agg (ZH (Wi s s.scenes[k])),I sts[j].well,.v (.slice none 0 0),I sts[j].arrives.lo]) (by simp [ZH,Zf,Zl,Zh,Za,KFL,KF]) (ZG (fun _ _ _ _ _ h=>h) (ZG (fun _ _ _ _ _ h=>h) (ZG Yq Wv)))
   refine call hwa ?_
   dsimp only [Zdb,Zc,go_sem,rA,rM,rS]
   rw [Ze (n:=s.breed.full - b.1.water.lo) (by omega) (by omega)]
   simp only [nbr]
   dsimp only [go_sem,rA,rM,rS]
   refine ⟨(by intro c hc;simp only [List.mem_singleton] at hc;subst hc;rfl),by simp;omega,?_⟩
   dsimp only [go_sem,rA,rM,rS]
   simp only [nbr]
   dsimp only [go_sem,rA,rM,rS]
   refine ⟨(by intro c hc;simp only [List.mem_singleton] at hc;subst hc;rfl),by simp;omega,?_⟩
   dsimp only [go_sem,rA,rM,rS]
   rw [Ze (n:=(j:Int)+1) (by omega) (by omega)]
   refine ⟨(j+1,Va s.breed b.1,acc ++ [(s.breed.full - b.1.water.lo,Zd1 s s.scenes[k] sts[j])],v1+1,v2+1),⟨hlt,hi,VC h.beast.1 hbo,by simp;omega⟩,by simp only;omega,?_⟩
   simp only [List.map_append,List.map_cons,List.map_nil]
   (refine Zk ?_ ?_ ?_ rfl rfl<;>dsimp only [Cm.camelL,Va,Zd1,Zf,Zl,Zh,Zj,Zc,Zo,Zt,mtL,mtB,mtS,id,go_sem,rA,rM,rS]<;>simp [Cm.camelL,Va,Zd1,Zf,Zl,Zh,Zj,Zc,Zo,Zt,mtL,mtB,mtS,Za,Zi,KFR,KFL,KF,Zd,mtO,nbr])
 refine Zs (by simp;omega) ?_
 dsimp only [go_sem,rA,rM,rS]
 rw [if_pos (List.drop_eq_nil_of_le (by omega))] at hi
 rw [Ze (n:=(j:Int)+1) (by omega) (by omega)]
 refine ⟨(j+1,Va s.breed b.1,acc,v1,v2),⟨hlt,hi,VC h.beast.1 hbo,by simp only;omega⟩,by simp only;omega,?_⟩
 (refine Zk ?_ ?_ ?_ rfl rfl<;>dsimp only [Cm.camelL,Va,Zf,Zl,Zh,Zj,Zc,Zo,Zt,mtL,mtB,mtS,id,go_sem,rA,rM,rS]<;>simp [Cm.camelL,Va,Zf,Zl,Zh,Zj,Zc,Zo,Zt,mtL,mtB,mtS,Za,Zi,KFR,KFL,KF,Zd,mtO,nbr])
end Go.Proofs.YtiigiflofnjilaaGreat
namespace Go.Azalai
open Go.Sx
theorem Zd8 {l:Land} {p:Span}:∀ {legs:List Int} {v a b:Int} {k k':Nat} {acc:List Stop},X4 l v legs k'=none->(goS l p v a b legs k acc).2.2=0->(goS l p v a b legs k acc).1.map Stop.leg=acc.map Stop.leg ++ legs
 | [],_,_,_,_,_,_,_,_=>by simp [goS]
 | i :: r,v,a,b,k,k',acc,h,h0=>by
  simp only [X4] at h
  split at h
  . cases h
  rename_i hn
  obtain ⟨n,x,rfl,hk,hx,_,e⟩:=ZbO hn
  simp only [goS,Int.toNat_natCast,hx] at h0 ⊢
  split
  . rename_i h1;rw [if_pos h1] at h0;simp at h0
  . rename_i h1;rw [if_neg h1] at h0
    rw [e] at h
    rw [Zd8 h h0];simp
theorem Zfx {l:Land} {p:Span} {s d:Int} {legs:List Int} (h:(YE l p s d legs).2.2=0):(YE l p s d legs).1.map Stop.leg=legs:=by
 unfold YE at h ⊢
 split
 . rename_i h1;rw [if_pos h1] at h;exact absurd h h1
 rename_i h1
 rw [if_neg h1] at h
 split
 . rename_i h2;rw [if_pos h2] at h;simp at h
 rename_i h2
 rw [if_neg h2] at h
 split
 . rename_i h3;rw [if_pos h3] at h;simp at h
 rename_i h3
 rw [if_neg h3] at h
 split
 . rename_i h4;rw [h4] at h;simp at h
 rename_i h4
 rw [h4] at h
 rw [Zd8 h4 h];simp
theorem Zbt {s:Season} {legs:List Int} (h:V8 s legs=true):(Zw s legs).map Stop.leg=legs:=by
 simp only [V8,Bool.and_eq_true,decide_eq_true_eq] at h
 exact Zfx h.1
def VO (n:Int):List (Int × Int)->Nat->Option Nat
 | [],_=>none
 | p :: r,i=>if n * p.1 > p.2 then some i else VO n r (i+1)
def V4 (n:Int) (g:Int × Int × List (Int × Int)):Int × Int :=
 match VO n g.2.2 0 with
 | some i=>(4,i)
 | none=>(g.1,g.2.1)
def Xc (s:Season) (p:Plan) (x:Scene):Int × Int :=
 if V8 s p.legs=false then (1,0) else if p.animals=0 then (0,0) else V4 p.animals (goF s x p.slabs (Zw s p.legs))
def XG (s:Season) (p:Plan):List Scene->Nat->Int × Int × Int × Int
 | [],_=>(0,0,0,0)
 | x :: r,i=>if (Xc s p x).1≠0 then ((Xc s p x).1,i,(Xc s p x).2,0) else XG s p r (i+1)
def Z3 (s:Season) (p:Plan):Int × Int × Int × Int :=
 if ZN s=false then (0,0,0,90) else if Wy s p=false then (0,0,0,91) else XG s p s.scenes 0
theorem Zjw {s:Season} {x:Scene} {slabs:Int} (hb:Zv s.breed=true):∀ {l:List Stop} {i:Nat} {c:Camel} {acc:List (Int × Int)},Zu s.breed c=true->(∀ q ∈ acc,0<=q.1/\q.1<=1000000) ->
 (∀ q ∈ (goG s x slabs l i c acc).2.2,0<=q.1/\q.1<=1000000)/\(goG s x slabs l i c acc).2.2.length<=acc.length+l.length
 | [],_,_,acc,_,ha=>⟨ha,by simp [goG]⟩
 | st :: r,i,c,acc,hc,ha=>by
  simp only [goG]
  split
  . exact ⟨ha,by simp only;omega⟩
  have hbo:=U6 (x:=x) (d:=(Yz s.land st.leg s.pace).1) (slabs:=slabs) hb hc
  have hw:=ZbI hb hbo
  split
  . obtain ⟨h1,h2⟩:=Zjw (s:=s) (x:=x) (slabs:=slabs) hb (l:=r) (i:=i+1) (acc:=acc) (VC hb hbo) ha
    exact ⟨h1,by simp only [List.length_cons];omega⟩
  . obtain ⟨h1,h2⟩:=Zjw (s:=s) (x:=x) (slabs:=slabs) hb (l:=r) (i:=i+1) (acc:=acc ++ [(s.breed.full - (Yu s x (Yz s.land st.leg s.pace).1 slabs c).1.water.lo,Zd1 s x st)]) (VC hb hbo) (fun q hq=>by
     rcases List.mem_append.1 hq with hq | hq
     . exact ha q hq
     . simp only [List.mem_singleton] at hq;subst hq;simp only;omega)
    exact ⟨h1,by simp only [List.length_cons,List.length_append,List.length_nil] at h2 ⊢;omega⟩
theorem Zps {s:Season} {x:Scene} {slabs:Int} {l:List Stop} (hb:Zv s.breed=true) (hc:Zu s.breed s.camel=true):(∀ q ∈ (goF s x slabs l).2.2,0<=q.1/\q.1<=1000000)/\(goF s x slabs l).2.2.length<=l.length:=by
 unfold goF
 split
 . simp
 . obtain ⟨h1,h2⟩:=Zjw (x:=x) (slabs:=slabs) hb (l:=l) (i:=0) (acc:=[]) hc (by simp)
   exact ⟨h1,by simpa using h2⟩
end Go.Azalai
namespace Go.Proofs.YtiigiflofnjilaaGreat
open Go Go.Sx Go.Azalai
theorem WG {s:Season} {p:Plan} (h:Wy s p=true):(∃ v,XK s.land s.start [s.start] p.legs=some v)/\0<=p.animals/\p.animals<=s.herd/\0<=p.slabs/\p.slabs<=12:=by
 simp only [Wy,inR,Bool.and_eq_true,decide_eq_true_eq,Option.isSome_iff_exists] at h
 exact ⟨h.1.1,by omega⟩
theorem ZlT (s:Season) (h:OkS s) (p:Plan) (hp:Wy s p=true) (hg:p.legs.length<=1000) (k:Nat) (hk:k < s.scenes.length) :
 Ct Tryz.prog 51 [.agg (Zp s),.agg (Yd p),I k] (.tup [U8 (Xc s p s.scenes[k]).1,I (Xc s p s.scenes[k]).2]):=by
 have hnum:=h.num
 obtain ⟨_,hpl⟩:=WG hp
 refine t51.1 (by simp [Zp,Yd,Zj,Zf,Zl,Zh,Zc,Zo,Zt,Za,KFL,KF]) (by simp [KFL,KF]) ?_
 dsimp only [c51,r51,Zp,Yd,go_sem,rA,rM,rS]
 refine call (ZgC s h p.legs hg _) ?_
 dsimp only [go_sem,rA,rM,rS]
 by_cases hs:V8 s p.legs=true
 case neg =>
  refine Zr (by simpa using hs) ?_
  dsimp only [go_sem,rA,rM,rS]
  simp only [Xc,Bool.eq_false_iff.2 hs,if_true]
 refine Zs (by simpa using hs) ?_
 dsimp only [go_sem,rA,rM,rS]
 by_cases ha:p.animals=0
 . refine Zr (by simpa using ha) ?_
   dsimp only [go_sem,rA,rM,rS]
   simp only [Xc,hs,ha,if_true,Bool.true_eq_false,if_false]
 refine Zs (by simpa using ha) ?_
 dsimp only [go_sem,rA,rM,rS]
 have hF:Xc s p s.scenes[k]=V4 p.animals (goF s s.scenes[k] p.slabs (Zw s p.legs)):=by simp only [Xc,hs,ha,Bool.true_eq_false,if_false]
 rw [hF]
 refine call (ZjD s h k hk p.legs (Zw s p.legs) (Zbt hs).symm hg p.slabs ⟨hpl.2.2.1,hpl.2.2.2⟩ _ _) ?_
 obtain ⟨hb1,hb2⟩:=Zps (s:=s) (x:=s.scenes[k]) (slabs:=p.slabs) (l:=Zw s p.legs) h.beast.1 h.beast.2
 have hln:(Zw s p.legs).length<=1000:=Nat.le_trans X0 hg
 generalize goF s s.scenes[k] p.slabs (Zw s p.legs)=g at hb1 hb2 ⊢
 dsimp only [ZeT,go_sem,rA,rM,rS]
 refine Vl [4,10,11] rfl (fun q:Nat=>[(11,I q)]) (fun _=>[]) (fun q=>q<=g.2.2.length/\VO p.animals (g.2.2.drop q) q=VO p.animals g.2.2 0) (fun q=>g.2.2.length - q) 0 ⟨Nat.zero_le _,rfl⟩ ?_ ?_
 . (refine Zk ?_ ?_ ?_ rfl rfl<;>dsimp only [Zf,Zl,Zh,Zj,Zc,Zo,Zt,id,go_sem,rA,rM,rS]<;>simp [Zf,Zl,Zh,Zj,Zc,Zo,Zt,Za,Zi,KFR,KFL,KF,Zd,mtO,nbr])
 rintro j ⟨hj,hi⟩
 dsimp only [go_sem,rA,rM,rS]
 simp only [List.length_map]
 by_cases hlt:j < g.2.2.length
 case neg =>
  refine Zs (by simp;omega) ?_
  dsimp only [go_sem,rA,rM,rS]
  rw [List.drop_eq_nil_of_le (by omega),VO] at hi
  simp only [V4,<- hi]
 refine Zr (by simpa using hlt) ?_
 dsimp only [go_sem,rA,rM,rS]
 refine Zm j hlt rfl ?_
 dsimp only [Zo,go_sem,rA,rM,rS]
 have hq:=hb1 _ (List.getElem_mem hlt)
 have hm:0<=p.animals * g.2.2[j].1/\p.animals * g.2.2[j].1<=30 * 1000000:=⟨Int.mul_nonneg hpl.1 hq.1,Int.mul_le_mul (by omega) hq.2 hq.1 (by decide)⟩
 rw [Ze (n:=p.animals * g.2.2[j].1) (by omega) (by omega)]
 refine Zm j hlt rfl ?_
 dsimp only [Zo,go_sem,rA,rM,rS]
 rw [List.drop_eq_getElem_cons hlt,VO] at hi
 by_cases hd:p.animals * g.2.2[j].1 > g.2.2[j].2
 . refine Zr (by simpa using hd) ?_
   dsimp only [go_sem,rA,rM,rS]
   rw [if_pos hd] at hi
   simp only [V4,<- hi]
 refine Zs (by simpa using hd) ?_
 dsimp only [go_sem,rA,rM,rS]
 rw [if_neg hd] at hi
 rw [Ze (n:=(j:Int)+1) (by omega) (by omega)]
 refine ⟨j+1,⟨hlt,hi⟩,by omega,?_⟩
 (refine Zk ?_ ?_ ?_ rfl rfl<;>dsimp only [Zf,Zl,Zh,Zj,Zc,Zo,Zt,id,go_sem,rA,rM,rS]<;>simp [Zf,Zl,Zh,Zj,Zc,Zo,Zt,Za,Zi,KFR,KFL,KF,Zd,mtO,nbr])
def UI (r:Int × Int × Int × Int):SV:=.tup [U8 r.1,I r.2.1,I r.2.2.1,I r.2.2.2]
theorem Zcs (s:Season) (hs:SmallS s) (p:Plan) (hg:p.legs.length<=1000):Ct Tryz.prog 15 [.agg (Zp s),.agg (Yd p)] (UI (Z3 s p)):=by
 refine t15.1 (by simp [Zp,Yd,Zj,Zf,Zl,Zh,Zc,Zo,Zt,Za,KFL,KF]) (by simp [UI,KFL,KF]) ?_
 dsimp only [c15,r15,Zp,Yd,go_sem,rA,rM,rS]
 refine call (Zj3 s hs) ?_
 dsimp only [go_sem,rA,rM,rS]
 by_cases ho:ZN s=true
 case neg =>
  refine Zr (by simpa using ho) ?_
  dsimp only [go_sem,rA,rM,rS]
  simp only [UI,Z3,Bool.eq_false_iff.2 ho,if_true]
 refine Zs (by simpa using ho) ?_
 dsimp only [go_sem,rA,rM,rS]
 have h:OkS s:=⟨hs,ho⟩
 refine call (Zs7 s h p hg) ?_
 dsimp only [go_sem,rA,rM,rS]
 by_cases hp:Wy s p=true
 case neg =>
  refine Zr (by simpa using hp) ?_
  dsimp only [go_sem,rA,rM,rS]
  simp only [UI,Z3,ho,Bool.eq_false_iff.2 hp,if_true,Bool.true_eq_false,if_false]
 refine Zs (by simpa using hp) ?_
 dsimp only [go_sem,rA,rM,rS]
 have hF:Z3 s p=XG s p s.scenes 0:=by simp only [Z3,ho,hp,Bool.true_eq_false,if_false]
 rw [hF]
 have hsc:=hs.sc
 refine Vl [2,3,8] rfl (fun q:Nat=>[(8,I q)]) (fun _=>[]) (fun q=>q<=s.scenes.length/\XG s p (s.scenes.drop q) q=XG s p s.scenes 0) (fun q=>s.scenes.length - q) 0 ⟨Nat.zero_le _,rfl⟩ ?_ ?_
 . (refine Zk ?_ ?_ ?_ rfl rfl<;>dsimp only [Zf,Zl,Zh,Zj,Zc,Zo,Zt,id,go_sem,rA,rM,rS]<;>simp [Zf,Zl,Zh,Zj,Zc,Zo,Zt,Za,Zi,KFR,KFL,KF,Zd,mtO,nbr])
 rintro j ⟨hj,hi⟩
 dsimp only [go_sem,rA,rM,rS]
 simp only [List.length_map]
 by_cases hlt:j < s.scenes.length
 case neg =>
  refine Zs (by simp;omega) ?_
  dsimp only [go_sem,rA,rM,rS]
  rw [List.drop_eq_nil_of_le (by omega),XG] at hi
  rw [<- hi];rfl
 refine Zr (by simpa using hlt) ?_
 dsimp only [go_sem,rA,rM,rS]
 refine call (ZlT s h p hp hg j hlt) ?_
 dsimp only [go_sem,rA,rM,rS]
 rw [List.drop_eq_getElem_cons hlt,XG] at hi
 by_cases hf:(Xc s p s.scenes[j]).1=0
 case neg =>
  refine Zr (by simpa using hf) ?_
  dsimp only [go_sem,rA,rM,rS]
  rw [if_pos hf] at hi
  rw [<- hi];rfl
 refine Zs (by simpa using hf) ?_
 dsimp only [go_sem,rA,rM,rS]
 rw [if_neg (by simpa using hf)] at hi
 rw [Ze (n:=(j:Int)+1) (by omega) (by omega)]
 refine ⟨j+1,⟨hlt,hi⟩,by omega,?_⟩
 (refine Zk ?_ ?_ ?_ rfl rfl<;>dsimp only [Zf,Zl,Zh,Zj,Zc,Zo,Zt,id,go_sem,rA,rM,rS]<;>simp [Zf,Zl,Zh,Zj,Zc,Zo,Zt,Za,Zi,KFR,KFL,KF,Zd,mtO,nbr])
end Go.Proofs.YtiigiflofnjilaaGreat
namespace Go.Azalai
open Go.Sx
def UH (n:Int) (st:Stop) (p:Int × Int):Draw:=⟨st.well,st.arrives.lo,n * p.1⟩
def Xs (n:Int) (l:List Stop) (g:List (Int × Int)):List Draw:=List.zipWith (UH n) l g
def YX (s:Season) (x:Scene) (n slabs:Int) (l:List Stop):List Draw :=
 if l=[] then [] else if n=0 then l.dropLast.map fun st=>⟨st.well,st.arrives.lo,0⟩ else Xs n l (goF s x slabs l).2.2
def Zf1 (s:Season) (x:Scene) (n slabs:Int) (l:List Stop):Int × Int:=if n=0 then (0,0) else V4 n (goF s x slabs l)
theorem ZdO {s:Season} {x:Scene} {slabs:Int}:∀ {l:List Stop} {i:Nat} {c:Camel} {acc:List (Int × Int)},∃ more,(goG s x slabs l i c acc).2.2=acc ++ more
 | [],_,_,acc=>⟨[],by simp [goG]⟩
 | st :: r,i,c,acc=>by
  simp only [goG]
  split
  . exact ⟨[],by simp⟩
  split
  . exact ZdO
  . obtain ⟨m,hm⟩:=ZdO (s:=s) (x:=x) (slabs:=slabs) (l:=r) (i:=i+1) (c:=Va s.breed (Yu s x (Yz s.land st.leg s.pace).1 slabs c).1) (acc:=acc ++ [(s.breed.full - (Yu s x (Yz s.land st.leg s.pace).1 slabs c).1.water.lo,Zd1 s x st)])
    exact ⟨_,by rw [hm,List.append_assoc]⟩
theorem Zar {n:Int}:∀ {a b:List (Int × Int)} {i:Nat},VO n a i=none->VO n (a ++ b) i=VO n b (i+a.length)
 | [],_,_,_=>by simp
 | p :: a,b,i,h=>by
  simp only [VO] at h
  split at h
  . cases h
  rename_i hp
  simp only [List.cons_append,VO]
  rw [if_neg hp,Zar h,List.length_cons];congr 1;omega
theorem Za1 {n:Int} {l:List Stop} {acc:List (Int × Int)} {p:Int × Int} {j:Nat} (hj:j < l.length) (ha:acc.length=j):Xs n l (acc ++ [p])=Xs n l acc ++ [UH n l[j] p]:=by
 simp only [Xs]
 subst ha
 have h1:l=l.take acc.length ++ l.drop acc.length:=(List.take_append_drop ..).symm
 have hlen:(l.take acc.length).length=acc.length:=by simp;omega
 have e1:List.zipWith (UH n) l (acc ++ [p])=List.zipWith (UH n) (l.take acc.length) acc ++ List.zipWith (UH n) (l.drop acc.length) [p]:=by
  rw [<- List.zipWith_append hlen,<- h1]
 have e2:List.zipWith (UH n) l acc=List.zipWith (UH n) (l.take acc.length) acc:=by
  have:=List.zipWith_append (f:=UH n) (l₁:=l.take acc.length) (l₁':=l.drop acc.length) (l₂:=acc) (l₂':=[]) hlen
  rw [<- h1] at this;simpa using this
 rw [e1,e2,List.drop_eq_getElem_cons hj]
 simp only [List.zipWith_cons_cons,List.zipWith_nil_right]
end Go.Azalai
namespace Go.Proofs.YtiigiflofnjilaaGreat
open Go Go.Sx Go.Azalai
def Zvs (s:Season) (k:Int) (l:List Stop) (slabs:Int):Ot:=⟨false,.cl 163 [.p 0 0,.p 1 0,.p 2 0],[(0,.cells (YA s k) 120),(1,.cells [.sl false 6 (l.map Zt)] 90),(2,.cells [I slabs] 3)],3⟩
theorem ZdD (s:Season) (k:Int) (l:List Stop) (slabs:Int):CtM Tryz.prog 135 [] 0 [.agg (YA s k),.sl false 6 (l.map Zt),I slabs] (fun o=>o=Zvs s k l slabs):=by
 refine m135 (by simp [hpb]) (fun o ho=>by subst ho;simp [Zvs,YA,KX,KXL,KXP,KXH,Za,KFL,KF,Zf,Zl,Zh,Zj,Zc,Zo,Zt]) ?_
 dsimp only [c135,r135,go_sem,rA,rM,rS]
 refine ⟨_,rfl,?_⟩
 (refine Y2 ?_ ?_ ?_ rfl<;>dsimp only [Zvs,YA,Zf,Zl,Zh,Zj,Zc,Zo,Zt,id,go_sem,rA,rM,rS]<;>simp [Zvs,YA,Zf,Zl,Zh,Zj,Zc,Zo,Zt,Za,Zi,KFR,KFL,KF,Zd,mtO,nbr])
def Ve (w:Int × Int) (ds:List Draw):Ot:=if w.1=0 then ⟨false,.sl false 3 (ds.map Zz),[],0⟩ else Xe w.1 w.2
theorem ZoV (s:Season) (h:OkS s) (k:Nat) (hk:k < s.scenes.length) (l:List Stop) (hl:l.length<=1000) (n slabs:Int) (hn:0<=n/\n<=s.herd) (hsl:0<=slabs/\slabs<=12) :
 CtM Tryz.prog 92 [] 0 [.agg (YA s k),.sl false 6 (l.map Zt),I n,I slabs] (fun o=>o=Ve (Zf1 s s.scenes[k] n slabs l) (YX s s.scenes[k] n slabs l)):=by
 have hnum:=h.num
 have hx:=h.scene _ (List.getElem_mem hk)
 have hy:s.scenes[k].yields.length=s.land.wells.length:=by simp only [Yk,Bool.and_eq_true,decide_eq_true_eq] at hx;omega
 have hb:0<=slabs * s.slab/\slabs * s.slab<=12 * 1000000:=⟨Int.mul_nonneg hsl.1 (by omega),Int.mul_le_mul hsl.2 (by omega) (by omega) (by decide)⟩
 refine m92 (by simp [hpb]) (fun o ho=>by subst ho;unfold Ve;split<;>simp [Xe,KX,KXL,KXP,Za,KFL,KF,Zz]) ?_
 dsimp only [c92,r92,YA,go_sem,rA,rM,rS]
 simp only [List.length_map]
 by_cases hl0:l=[]
 . subst hl0
   refine Zr (by simp) ?_
   dsimp only [go_sem,rA,rM,rS]
   refine call (Cm.carries_ok s.breed s.camel) ?_
   dsimp only [Cm.sres,Zc,go_sem,rA,rM,rS]
   rw [show (if Ub s.breed s.camel=0 then Zpn s.breed s.camel else Xx)=Zda s.breed s.camel from rfl]
   repeat (refine gb ?_;dsimp only [go_sem,rA,rM,rS])
   rw [Ze (n:=slabs * s.slab) (by omega) (by omega)]
   by_cases hok:n=0\/slabs * s.slab<=(Zda s.breed s.camel).lo
   . rw [show (n == 0 || decide (slabs * s.slab<=(Zda s.breed s.camel).lo))=true from by simpa using hok]
     refine Xh [] (VZ 2 0) rfl rfl rfl ?_ ?_ ?_
     . (repeat first | dsimp only [go_sem,rA,rM,rS] | simp only [nbr])
       try simp [mtL,mtB,mtS]
     . trivial
     rintro _ rfl
     (repeat first | dsimp only [go_sem,rA,rM,rS] | simp only [nbr])
     refine ⟨_,rfl,?_⟩
     have hw:Zf1 s s.scenes[k] n slabs []=(0,0):=by
      unfold Zf1
      split
      . rfl
      . rw [goF,if_pos rfl,if_neg (by omega)];rfl
     rw [hw]
     simp only [Ve,if_true,YX,List.map_nil]
     refine Vp (Z6 (Yj 0 3 111 rfl rfl) (Z6 (ZbF 0 4 0 rfl rfl rfl rfl) ?_)) (fun _ _ _ e=>by cases e)
     (refine Zk ?_ ?_ ?_ rfl rfl<;>dsimp only [id,go_sem,rA,rM,rS]<;>simp [Za,Zi,KFR,KFL,KF,Zd,mtO,nbr])
   . rw [show (n == 0 || decide (slabs * s.slab<=(Zda s.breed s.camel).lo))=false from by simpa using hok]
     refine Xh [] (ZaG 2 0) rfl rfl rfl ?_ ?_ ?_
     . (repeat first | dsimp only [go_sem,rA,rM,rS] | simp only [nbr])
       try simp [mtL,mtB,mtS]
     . trivial
     rintro _ rfl
     (repeat first | dsimp only [Xe,go_sem,rA,rM,rS] | simp only [nbr])
     refine ⟨_,rfl,?_⟩
     have hw:Zf1 s s.scenes[k] n slabs []=(2,0):=by
      unfold Zf1
      rw [if_neg (by omega),goF,if_pos rfl,if_pos (by omega)];rfl
     rw [hw]
     simp only [Ve]
     (refine Y2 ?_ ?_ ?_ rfl<;>dsimp only [Xe,id,go_sem,rA,rM,rS]<;>simp [Xe,Za,Zi,KFR,KFL,KF,Zd,mtO,nbr])
 have hl1:l.length≠0:=fun e=>hl0 (List.length_eq_zero_iff.1 e)
 refine Zs (by simpa using hl0) ?_
 dsimp only [go_sem,rA,rM,rS]
 by_cases hn0:n=0
 . refine Zr (by simpa using hn0) ?_
   dsimp only [go_sem,rA,rM,rS]
   simp only [List.length_map]
   refine ⟨0,l.length - 1,⟨rfl,by rw [Ze (by omega) (by omega)];omega,by omega,by simp⟩,?_⟩
   rw [List.drop_zero,show (l.map Zt).take (l.length - 1)=l.dropLast.map Zt from by rw [List.dropLast_eq_take,List.map_take]]
   dsimp only [go_sem,rA,rM,rS]
   simp only [List.length_map]
   have hwF:Zf1 s s.scenes[k] n slabs l=(0,0):=by simp only [Zf1,if_pos hn0]
   have hdF:YX s s.scenes[k] n slabs l=l.dropLast.map fun st=>⟨st.well,st.arrives.lo,0⟩:=by simp only [YX,if_neg hl0,if_pos hn0]
   have hdl:l.dropLast.length<=1000:=by simp;omega
   rw [hwF,hdF]
   generalize l.dropLast=m at hdl ⊢
   refine Za5 (Z6 (W6 [4,5,6,8,11,49,50,51] rfl) (Wl 3 0 3 111 rfl rfl)) (fun q:Nat × Nat × List Draw=>[(51,I q.1)])
    (fun q=>[(3,.cells [.mr 4 q.2.1] 54),(4,.row q.2.1 3 (q.2.2.map Zz) 111)]) (fun q=>q.1<=m.length/\q.2.2=(m.map fun st=>(⟨st.well,st.arrives.lo,0⟩:Draw)).take q.1) (fun q=>m.length - q.1) (0,0,[]) ⟨Nat.zero_le _,by simp⟩ ?_ ?_
   . (refine Zk ?_ ?_ ?_ rfl rfl<;>dsimp only [YA,Zf,Zl,Zh,Zj,Zc,Zo,Zt,Zz,id,go_sem,rA,rM,rS]<;>simp [YA,Zf,Zl,Zh,Zj,Zc,Zo,Zt,Zz,Za,Zi,KFR,KFL,KF,Zd,mtO,nbr])
   rintro ⟨j,v,D⟩ ⟨hj,hD⟩
   simp only at hj hD
   dsimp only [go_sem,rA,rM,rS]
   by_cases hlt:j < m.length
   . refine Zr (by simpa using hlt) ?_
     dsimp only [go_sem,rA,rM,rS]
     refine Zm j hlt rfl ?_
     dsimp only [Zt,go_sem,rA,rM,rS]
     simp only [nbr]
     dsimp only [go_sem,rA,rM,rS]
     refine ⟨(by intro c hc;simp only [List.mem_singleton] at hc;subst hc;rfl),by simp [hD];omega,?_⟩
     dsimp only [go_sem,rA,rM,rS]
     rw [Ze (n:=(j:Int)+1) (by omega) (by omega)]
     refine ⟨(j+1,v+1,D ++ [⟨m[j].well,m[j].arrives.lo,0⟩]),⟨hlt,?_⟩,by simp only;omega,?_⟩
     . simp only;rw [List.take_succ_eq_append_getElem (by simpa using hlt),<- hD,List.getElem_map]
     simp only [List.map_append,List.map_cons,List.map_nil]
     (refine Zk ?_ ?_ ?_ rfl rfl<;>dsimp only [YA,Zf,Zl,Zh,Zj,Zc,Zo,Zt,Zz,id,go_sem,rA,rM,rS]<;>simp [YA,Zf,Zl,Zh,Zj,Zc,Zo,Zt,Zz,Za,Zi,KFR,KFL,KF,Zd,mtO,nbr])
   refine Zs (by simp;omega) ?_
   dsimp only [go_sem,rA,rM,rS]
   rw [List.take_of_length_le (by simp;omega)] at hD
   rw [<- hD]
   refine ⟨_,rfl,?_⟩
   simp only [Ve,if_true]
   refine Vp (Z6 (ZbF 0 4 v rfl rfl rfl rfl) ?_) (fun _ _ _ e=>by cases e)
   (refine Zk ?_ ?_ ?_ rfl rfl<;>dsimp only [Zz,id,go_sem,rA,rM,rS]<;>simp [Zz,Za,Zi,KFR,KFL,KF,Zd,mtO,nbr])
 refine Zs (by simpa using hn0) ?_
 dsimp only [go_sem,rA,rM,rS]
 refine Zbl [] (ZdD s k l slabs) rfl rfl rfl ?_ ?_ ?_
 . exact Zd (by simp [YA,Zf,Zl,Zh,Zj,Zc,Zo,Zt,Za,KFL,KF])
 . trivial
 dsimp only [Zvs,YA,go_sem,rA,rM,rS]
 refine gh (Wl 3 0 3 111 rfl rfl) ?_
 dsimp only [go_sem,rA,rM,rS]
 refine ⟨b163,fun rec=>?_⟩
 refine y163 ?_
 dsimp only [c163,r163,go_sem,rA,rM,rS]
 have hgF:goF s s.scenes[k] slabs l=goG s s.scenes[k] slabs l 0 s.camel []:=by simp only [goF,if_neg hl0]
 have hgs:∀ (j n:Nat) (hj:j < l.length) c acc,goG s s.scenes[k] slabs (l.drop j) n c acc=if (Yu s s.scenes[k] (Yz s.land l[j].leg s.pace).1 slabs c).2≠0 then ((Yu s s.scenes[k] (Yz s.land l[j].leg s.pace).1 slabs c).2,(n:Int),acc)
  else goG s s.scenes[k] slabs (l.drop (j+1)) (n+1) (Va s.breed (Yu s s.scenes[k] (Yz s.land l[j].leg s.pace).1 slabs c).1)
   (if l.drop (j+1)=[] then acc else acc ++ [(s.breed.full - (Yu s s.scenes[k] (Yz s.land l[j].leg s.pace).1 slabs c).1.water.lo,Zd1 s s.scenes[k] l[j])]):=fun j n hj c acc=>by
  rw [List.drop_eq_getElem_cons hj,goG]
 have hwF:Zf1 s s.scenes[k] n slabs l=V4 n (goF s s.scenes[k] slabs l):=by simp only [Zf1,if_neg hn0]
 have hdF:YX s s.scenes[k] n slabs l=Xs n l (goF s s.scenes[k] slabs l).2.2:=by simp only [YX,if_neg hl0,if_neg hn0]
 rw [hwF,hdF]
 refine Vl [0,1,2,3,5,13,14,15] rfl (fun q:Nat × Camel × List (Int × Int) × Nat=>[(15,I q.1)])
  (fun q=>[(9,.cells (Cm.camelL q.2.1) 31),(3,.cells [.mr 7 q.2.2.2] 54),(7,.row q.2.2.2 3 ((Xs n l q.2.2.1).map Zz) 111)])
  (fun q=>q.1 < l.length/\goG s s.scenes[k] slabs (l.drop q.1) q.1 q.2.1 q.2.2.1=goF s s.scenes[k] slabs l/\Zu s.breed q.2.1=true/\VO n q.2.2.1 0=none/\q.2.2.1.length=q.1) (fun q=>l.length - q.1) (0,s.camel,[],0)
  ⟨by simp only;omega,hgF.symm,h.beast.2,rfl,rfl⟩ ?_ ?_
 . (refine Zk ?_ ?_ ?_ rfl rfl<;>dsimp only [Cm.camelL,Xs,YA,Zf,Zl,Zh,Zj,Zc,Zo,Zt,Zz,mtL,mtB,mtS,id,go_sem,rA,rM,rS]<;>simp [Cm.camelL,Xs,YA,Zf,Zl,Zh,Zj,Zc,Zo,Zt,Zz,mtL,mtB,mtS,Za,Zi,KFR,KFL,KF,Zd,mtO,nbr])
 rintro ⟨j,c,acc,v⟩ ⟨hlt,hi,hc,hdry,hal⟩
 simp only at hlt hi hc hdry hal
 dsimp only [Cm.camelL,go_sem,rA,rM,rS]
 simp only [List.length_map]
 refine Zr (by simpa using hlt) ?_
 dsimp only [go_sem,rA,rM,rS]
 refine Zm j hlt rfl ?_
 dsimp only [Zt,go_sem,rA,rM,rS]
 refine call (ZsF s h l[j].leg) ?_
 dsimp only [sres,Zc,go_sem,rA,rM,rS]
 have hm:=Znz s k hk j c (Yz s.land l[j].leg s.pace).1 slabs hsl (by omega) (ZeP h.lp)
 rw [hgs j j hlt] at hi
 have hbo:=U6 (x:=s.scenes[k]) (d:=(Yz s.land l[j].leg s.pace).1) (slabs:=slabs) h.beast.1 hc
 generalize Yu s s.scenes[k] (Yz s.land l[j].leg s.pace).1 slabs c=b at hi hbo hm
 have hwb:=ZbI h.beast.1 hbo
 by_cases hw:b.2=0
 case neg =>
  simp only [U3,if_neg hw] at hm
  refine Xh [] hm rfl rfl rfl ?_ ?_ ?_
  . exact Zd (by simp [YA,Cm.camelL,Zf,Zl,Zh,Zj,Zc,Zo,Zt,Za,KFL,KF])
  . trivial
  rintro _ rfl
  (repeat first | dsimp only [Xe,go_sem,rA,rM,rS] | simp only [nbr])
  rw [if_pos hw] at hi
  rw [<- hi]
  refine ⟨_,rfl,?_⟩
  rw [show V4 n (b.2,(j:Int),acc)=(b.2,(j:Int)) from by simp only [V4,hdry]]
  simp only [Ve,if_neg hw]
  (refine Y2 ?_ ?_ ?_ rfl<;>dsimp only [Xe,id,go_sem,rA,rM,rS]<;>simp [Xe,Za,Zi,KFR,KFL,KF,Zd,mtO,nbr])
 simp only [U3,if_pos hw] at hm
 refine Xh [] hm rfl rfl rfl ?_ ?_ ?_
 . exact Zd (by simp [YA,Cm.camelL,Zf,Zl,Zh,Zj,Zc,Zo,Zt,Za,KFL,KF])
 . trivial
 rintro _ rfl
 (repeat first | dsimp only [camelL,Cm.camelL,go_sem,rA,rM,rS] | simp only [nbr])
 rw [if_neg (by simpa using hw)] at hi
 refine ⟨trivial,trivial,?_⟩
 rw [Ze (n:=(j:Int)+1) (by omega) (by omega)]
 simp only [List.length_map]
 by_cases hlast:j+1=l.length
 . refine Zr (by simp;omega) ?_
   dsimp only [go_sem,rA,rM,rS]
   refine ⟨by trivial,?_⟩
   refine Zr rfl ?_
   dsimp only [go_sem,rA,rM,rS]
   rw [if_pos (List.drop_eq_nil_of_le (by omega)),List.drop_eq_nil_of_le (by omega),goG] at hi
   rw [<- hi]
   refine ⟨_,rfl,?_⟩
   rw [show V4 n (0,0,acc)=(0,0) from by simp only [V4,hdry]]
   simp only [Ve,if_true]
   refine Vp (Z6 (ZbF 0 7 v rfl rfl rfl rfl) ?_) (fun _ _ _ e=>by cases e)
   (refine Zk ?_ ?_ ?_ rfl rfl<;>dsimp only [Zz,id,go_sem,rA,rM,rS]<;>simp [Zz,Za,Zi,KFR,KFL,KF,Zd,mtO,nbr])
 refine Zs (by simp;omega) ?_
 dsimp only [go_sem,rA,rM,rS]
 rw [if_neg (by intro e;rw [List.drop_eq_nil_iff] at e;omega)] at hi
 refine Zm j hlt rfl ?_
 dsimp only [Zt,go_sem,rA,rM,rS]
 refine Zm j hlt rfl ?_
 dsimp only [Zt,go_sem,rA,rM,rS]
 have hm2:0<=n * (s.breed.full - b.1.water.lo)/\n * (s.breed.full - b.1.water.lo)<=30 * 1000000:=⟨Int.mul_nonneg hn.1 (by omega),Int.mul_le_mul (by omega) (by omega) (by omega) (by decide)⟩
 rw [Ze (n:=s.breed.full - b.1.water.lo) (by omega) (by omega),Ze (n:=n * (s.breed.full - b.1.water.lo)) (by omega) (by omega)]
 refine Zm j hlt rfl ?_
 dsimp only [Zt,go_sem,rA,rM,rS]
 refine call (ZvC s h.small k hk hy l[j]) ?_
 dsimp only [go_sem,rA,rM,rS]
 by_cases hdr:n * (s.breed.full - b.1.water.lo)<=Zd1 s s.scenes[k] l[j]
 case neg =>
  rw [show decide (n * (s.breed.full - b.1.water.lo)<=Zd1 s s.scenes[k] l[j])=false from decide_eq_false hdr]
  refine Xh [] (ZaG 4 j) rfl rfl rfl ?_ ?_ ?_
  . (repeat first | dsimp only [go_sem,rA,rM,rS] | simp only [nbr])
    try simp [mtL,mtB,mtS]
  . trivial
  rintro _ rfl
  (repeat first | dsimp only [Xe,go_sem,rA,rM,rS] | simp only [nbr])
  refine ⟨_,rfl,?_⟩
  obtain ⟨more,hmore⟩:=ZdO (s:=s) (x:=s.scenes[k]) (slabs:=slabs) (l:=l.drop (j+1)) (i:=j+1) (c:=Va s.breed b.1) (acc:=acc ++ [(s.breed.full - b.1.water.lo,Zd1 s s.scenes[k] l[j])])
  have hf:V4 n (goF s s.scenes[k] slabs l)=(4,(j:Int)):=by
   rw [<- hi];simp only [V4]
   rw [hmore,List.append_assoc,Zar hdry,hal]
   simp only [List.cons_append,List.nil_append,VO]
   rw [if_pos (by omega)];simp
  rw [hf]
  simp only [Ve]
  (refine Y2 ?_ ?_ ?_ rfl<;>dsimp only [Xe,id,go_sem,rA,rM,rS]<;>simp [Xe,Za,Zi,KFR,KFL,KF,Zd,mtO,nbr])
 rw [show decide (n * (s.breed.full - b.1.water.lo)<=Zd1 s s.scenes[k] l[j])=true from decide_eq_true hdr]
 refine Xh [] (VZ 4 j) rfl rfl rfl ?_ ?_ ?_
 . (repeat first | dsimp only [go_sem,rA,rM,rS] | simp only [nbr])
   try simp [mtL,mtB,mtS]
 . trivial
 rintro _ rfl
 (repeat first | dsimp only [go_sem,rA,rM,rS] | simp only [nbr])
 refine ⟨(by intro c hc;simp only [List.mem_singleton] at hc;subst hc;rfl),by simp [Xs];omega,?_⟩
 dsimp only [go_sem,rA,rM,rS]
 refine ⟨by trivial,?_⟩
 refine Zs rfl ?_
 dsimp only [go_sem,rA,rM,rS]
 rw [Ze (n:=(j:Int)+1) (by omega) (by omega)]
 refine ⟨(j+1,Va s.breed b.1,acc ++ [(s.breed.full - b.1.water.lo,Zd1 s s.scenes[k] l[j])],v+1),⟨by simp only;omega,hi,VC h.beast.1 hbo,?_,by simp;omega⟩,by simp only;omega,?_⟩
 . simp only
   rw [Zar hdry]
   simp only [VO]
   rw [if_neg (by omega)]
 simp only
 rw [Za1 hlt hal]
 simp only [List.map_append,List.map_cons,List.map_nil]
 (refine Zk ?_ ?_ ?_ rfl rfl<;>dsimp only [Cm.camelL,Va,UH,YA,Zf,Zl,Zh,Zj,Zc,Zo,Zt,Zz,mtL,mtB,mtS,id,go_sem,rA,rM,rS]<;>simp [Cm.camelL,Va,UH,YA,Zf,Zl,Zh,Zj,Zc,Zo,Zt,Zz,mtL,mtB,mtS,Za,Zi,KFR,KFL,KF,Zd,mtO,nbr])
def Zwd:List Ins:=[
 m1 2 5]
def Zwf:SC:=(.seq (.reg [
 m1 6 2,
 o1 7 (.raw (Go.Op.binOp Go.BinOp.neq 20 (Go.Operand.tmp 6) (Go.Operand.const Go.Value.nilIface) 20) 4)])
 (.cond (.t 7)
 (.seq (.reg [
  m1 9 2,
  o1 10 (.raw (Go.Op.typeAssert (Go.Operand.tmp 9) 20 117 Bool.true) 177),
  m1 8 10,
  o1 11 (.ext (.t 8) 0),
  o1 12 (.ext (.t 8) 1),
  o1 3 (.alloc [.int .u8 0,.int .i64 0] 117),
  ⟨none,.st (.t 3) (.t 11) 2,none,[]⟩,
  m1 4 12])
  (.seq (.seq (.reg [
  m1 13 4,
  o1 14 (.un .not (.t 13))])
  (.cond (.t 14)
  (.reg [
   m1 15 2,
   ⟨none,.raw (Go.Op.panic (Go.Operand.tmp 15)) 0,none,[]⟩])
  .skip))
  (.regd [0,1,2] [
  .hide (.t 0),
  .op (o1 16 (.ld (.t 3) 2 true))] 0 2 [
  ⟨none,.st (.t 0) (.c (.slice none 0 0)) 1,none,[]⟩,
  ⟨none,.st (.t 1) (.t 16) 2,none,[0,1]⟩])))
 .skip))
theorem qw89:RcF Tryz.prog 89 5 Zwd Zwf 17:=⟨⟨Tryz.f89,_,_,_,_,Tryz.func89,rfl,rfl,by kernel_rfl,by kernel_rfl,by kernel_rfl,by kernel_rfl,by decide,rfl⟩,by kernel_rfl⟩
def cw14:SC:=(.seq (.reg [
 o1 2 (.box (.t 0) 0 34),
 o1 3 (.box (.t 1) 0 37),
 o1 4 (.mv (.c (.int .u8 0))),
 o1 5 (.mv (.c (.int .i64 0))),
 o1 6 (.mv (.c (.int .i64 0))),
 o1 7 (.mv (.c (.int .i64 0)))])
 (.seq (.seq (.reg [
 o1 12 (.ld (.t 2) 37 true),
 o1 13 (.ld (.t 3) 3 true),
 o1 14 (.call 48 [.t 12,.t 13]),
 m1 8 14])
 (.seq (.reg [
 m1 15 8,
 o1 16 (.bin .neq (.t 15) (.c (.int .i64 0)))])
 (.cond (.t 16)
 (.seq (.reg [
  m1 17 8,
  o1 4 (.mv (.c (.int .u8 0))),
  o1 5 (.mv (.c (.int .i64 0))),
  o1 6 (.mv (.c (.int .i64 0))),
  m1 7 17])
  .ret)
 .skip)))
 (.seq (.seq (.reg [
 o1 18 (.addo (.t 2) 36),
 o1 19 (.ld (.t 18) 1 false),
 o1 20 (.len (.t 19)),
 o1 21 (.mv (.c (.int .i64 0)))])
 (.block 0 (.loop (.seq (.reg [
  o1 22 (.bin .lss (.t 21) (.t 20))])
  (.seq (.cond (.t 22)
  .skip
  (.exit 0))
  (.seq (.block 1 (.seq (.reg [
   m1 23 21,
   m1 9 23])
   (.seq (.reg [
   o1 25 (.ld (.t 2) 37 true),
   m1 26 9,
   o1 27 (.build zv2 [(0,37,.t 25),(37,1,.t 26)]),
   o1 28 (.ld (.t 3) 3 true),
   o1 29 (.callm 49 [.t 27,.t 28]),
   m1 24 29,
   o1 30 (.ext (.t 24) 0),
   o1 31 (.ext (.t 24) 1),
   o1 11 (.alloc [.int .u8 0,.int .i64 0] 117),
   m1 10 30,
   ⟨none,.st (.t 11) (.t 31) 2,none,[]⟩])
   (.seq (.reg [
   o1 32 (.addo (.t 11) 0),
   o1 33 (.ld (.t 32) 1 false),
   o1 34 (.bin .neq (.t 33) (.c (.int .u8 0)))])
   (.cond (.t 34)
   (.seq (.regd [0,1,2,3,4,5,6,7,8] [
    .op (o1 35 (.addo (.t 11) 0)),
    .op ⟨some 36,.ld (.t 35) 1 false,none,[0]⟩,
    .op (m1 37 9),
    .op (o1 38 (.addo (.t 11) 1)),
    .op ⟨some 39,.ld (.t 38) 1 false,none,[3]⟩,
    .op ⟨some 4,.mv (.t 36),none,[0,1]⟩,
    .op ⟨some 5,.mv (.t 37),none,[0,1,2,5]⟩,
    .op ⟨some 6,.mv (.t 39),none,[0,1,2,3,4,5,6]⟩,
    .op ⟨some 7,.mv (.c (.int .i64 0)),none,[0,1,2,3,4,5,6,7]⟩] 0 0 [
])
 .ret)
 .skip)))))
 (.reg [
 o1 40 (.bin .add (.t 21) (.c (.int .i64 1))),
 m1 21 40])))))))
 (.seq (.reg [
 o1 4 (.mv (.c (.int .u8 0))),
 o1 5 (.mv (.c (.int .i64 0))),
 o1 6 (.mv (.c (.int .i64 0))),
 o1 7 (.mv (.c (.int .i64 0)))])
 .ret))))
def rw14:List RV:=[.tmp 4,.tmp 5,.tmp 6,.tmp 7]
theorem tw14:Qt1 Tryz.prog 14 cw14 rw14 41:=ZT Tryz.func14 rfl (by kernel_rfl) (by kernel_rfl) (by kernel_rfl) (by kernel_rfl)
def cw22:SC:=(.seq (.reg [
 o1 3 (.box (.t 0) 0 34),
 o1 4 (.box (.t 1) 0 37),
 o1 6 (.mv (.c (.slice none 0 0))),
 o1 7 (.mv (.c (.int .i64 0)))])
 (.seq (.reg [
 o1 15 (.ld (.t 3) 37 true),
 o1 16 (.ld (.t 4) 3 true),
 o1 17 (.call 14 [.t 15,.t 16]),
 m1 14 17,
 o1 18 (.ext (.t 14) 0),
 o1 19 (.ext (.t 14) 1),
 o1 20 (.ext (.t 14) 2),
 o1 21 (.ext (.t 14) 3),
 m1 8 18,
 m1 9 19,
 m1 10 20,
 m1 11 21])
 (.seq (.block 0 (.seq (.reg [
  m1 23 11,
  o1 24 (.bin .neq (.t 23) (.c (.int .i64 0))),
  m1 22 24])
  (.cond (.t 22)
  (.seq (.reg [
   m1 25 11,
   o1 6 (.mv (.c (.slice none 0 0))),
   m1 7 25])
   .ret)
  (.seq (.reg [
   m1 27 8,
   o1 28 (.bin .neq (.t 27) (.c (.int .u8 0))),
   m1 29 28,
   ⟨some 30,.addo (.t 3) 36,some (29,false),[]⟩,
   ⟨some 31,.ld (.t 30) 1 false,some (29,false),[]⟩,
   ⟨some 32,.len (.t 31),some (29,false),[]⟩,
   ⟨some 33,.bin .sub (.t 32) (.c (.int .i64 1)),some (29,false),[]⟩,
   ⟨some 34,.mv (.t 2),some (29,false),[]⟩,
   ⟨some 35,.bsl 1 3 [.t 34],some (29,false),[]⟩,
   ⟨some 36,.call 53 [.c (.int .i64 0),.t 33,.t 35],some (29,false),[]⟩,
   ⟨some 37,.un .not (.t 36),some (29,false),[]⟩,
   o1 38 (.pick (.t 29) (.c (.bool true)) (.t 37)),
   m1 26 38])
   (.cond (.t 26)
   (.seq (.reg [
    o1 6 (.mv (.c (.slice none 0 0))),
    o1 7 (.mv (.c (.int .i64 92)))])
    .ret)
   .skip)))))
 (.seq (.reg [
 o1 40 (.ld (.t 3) 37 true),
 m1 41 2,
 o1 42 (.build zv2 [(0,37,.t 40),(37,1,.t 41)]),
 o1 43 (.ld (.t 4) 3 true),
 o1 44 (.callm 49 [.t 42,.t 43]),
 m1 39 44,
 o1 45 (.ext (.t 39) 0),
 o1 46 (.ext (.t 39) 1),
 o1 13 (.alloc [.int .u8 0,.int .i64 0] 117),
 m1 12 45,
 ⟨none,.st (.t 13) (.t 46) 2,none,[]⟩])
 (.seq (.reg [
 m1 47 12,
 m1 6 47,
 o1 7 (.mv (.c (.int .i64 0)))])
 .ret)))))
def rw22:List RV:=[.tmp 6,.tmp 7]
theorem nw22:Tryz.f22.ntmps=48:=by kernel_rfl
theorem bw22:YO Tryz.prog 22=true:=by kernel_rfl
theorem ZpZ:Xv Tryz.prog cw22 ((Tryz.f22.body).getD .skip)=true:=by kernel_rfl
theorem ZtT:Ww Tryz.prog rw22 Tryz.f22.results.toList=true:=by kernel_rfl
end Go.Proofs.YtiigiflofnjilaaGreat
namespace Go.Sx
open Go Go.RowKit
section
variable {P:Program} {ty T T':TypeId} {ix jx:Operand} {σ : St} {r:KT} {K:RK} {d:Option Nat} {s:SV}
theorem Zev {pt:TypeId} (hu:P.underlying T'=some (.interface (P.methodsAt T'))) (hi:ZaE σ ix = .ifc T s) (h:putK d (.v (.bool true)) none σ r K):RAW P d (.binOp .neq T' ix (.const .nilIface) pt) ty σ r K:=by
 intro o C E a w next Q e1 e2 e3 hS hn hq
 have hiv:=W9 hS hi (fun _ _ _=>by simp)
 simp only [R] at hiv
 obtain ⟨x,hx,hR⟩:=hiv
 have hb:=run_neq_held_nil (P:=P) w T' T x hu
 have hy:(execOp a.eval o).run P w = .ok (.value (.bool true)) w:=by
  obtain ⟨dst',op',ty',pos,after,guard⟩:=o
  simp only at e2;subst e2
  have h0:a.eval (.const .nilIface) = .nilIface:=rfl
  have hg:(eqGuard .neq T' ix (.const .nilIface) (.iface T x) .nilIface).run P w = .ok () w:=by
   simp [eqGuard,Sem.run_pure]
  simp only [execOp,Sem.run_bind,hx,h0,hg,hb,Result.andThen_ok,Sem.run_pure]
 refine Zy hy (by simp) ?_
 show next (a.put o.dst _) _
 rw [e1]
 exact Wk h hS (by simp only [R]) hn
theorem ZgJ {pt:TypeId} (hu:P.underlying T'=some (.interface (P.methodsAt T'))) (hi:ZaE σ ix = .v .nilIface) (h:putK d (.v (.bool false)) none σ r K):RAW P d (.binOp .neq T' ix (.const .nilIface) pt) ty σ r K:=by
 intro o C E a w next Q e1 e2 e3 hS hn hq
 have hx:=W9 hS hi (fun _ _ _=>by simp)
 simp only [R] at hx
 have hb:=run_neq_nil_nil (P:=P) w T' hu
 have hy:(execOp a.eval o).run P w = .ok (.value (.bool false)) w:=by
  obtain ⟨dst',op',ty',pos,after,guard⟩:=o
  simp only at e2;subst e2
  have h0:a.eval (.const .nilIface) = .nilIface:=rfl
  have hg:(eqGuard .neq T' ix (.const .nilIface) .nilIface .nilIface).run P w = .ok () w:=by
   simp [eqGuard,Sem.run_pure]
  simp only [execOp,Sem.run_bind,hx,h0,hg,hb,Result.andThen_ok,Sem.run_pure]
 refine Zy hy (by simp) ?_
 show next (a.put o.dst _) _
 rw [e1]
 exact Wk h hS (by simp only [R]) hn
end
end Go.Sx
namespace Go.Proofs.YtiigiflofnjilaaGreat
open Go Go.Sx Go.Azalai
theorem Zvv {s:Season} {x:Scene} {slabs:Int}:∀ {l:List Stop} {i:Nat} {c:Camel} {acc:List (Int × Int)},(goG s x slabs l i c acc).1=0->((goG s x slabs l i c acc).1,(goG s x slabs l i c acc).2.1)=(0,0)
 | [],_,_,acc,_=>by simp [goG]
 | st :: r,i,c,acc,h=>by
  simp only [goG] at h ⊢
  split
  . rename_i hb;rw [if_pos hb] at h;exact absurd h hb
  . rename_i hb;rw [if_neg hb] at h
    exact Zvv h
theorem goF_z {s:Season} {x:Scene} {slabs:Int} {l:List Stop} (h:(goF s x slabs l).1=0):((goF s x slabs l).1,(goF s x slabs l).2.1)=(0,0):=by
 unfold goF at h ⊢
 split
 . rename_i hb;rw [if_pos hb] at h;simp only at h ⊢;rw [h]
 . rename_i hb;rw [if_neg hb] at h;exact Zvv h
theorem u20:Tryz.prog.underlying 20=some (.interface (Tryz.prog.methodsAt 20)):=by kernel_rfl
theorem ZcR {s:Season} {p:Plan} {x:Scene}:Xc s p x=if V8 s p.legs=false then (1,0) else Zf1 s x p.animals p.slabs (Zw s p.legs):=by
 unfold Xc Zf1;rfl
def ZcE (s:Season) (p:Plan) (x:Scene):List Draw:=if (Xc s p x).1=0 then YX s x p.animals p.slabs (Zw s p.legs) else []
def Zqi (w:Int × Int) (ds:List Draw):Ot:=⟨false,.tup [.sl false 3 (ds.map Zz),.agg [U8 w.1,I w.2]],[],0⟩
theorem Zpf (s:Season) (h:OkS s) (k:Nat) (hk:k < s.scenes.length) (p:Plan) (hp:Wy s p=true) (hg:p.legs.length<=1000) :
 CtM Tryz.prog 49 [] 0 [.agg (YA s k),.agg (Yd p)] (fun o=>o=Zqi (Xc s p s.scenes[k]) (ZcE s p s.scenes[k])):=by
 have hnum:=h.num
 obtain ⟨_,hpl⟩:=WG hp
 refine m49 (by simp [hpb]) (fun o ho=>by subst ho;simp [Zqi,KX,KXL,KXP,Za,KFL,KF,Zz]) ?_
 dsimp only [c49,r49,YA,Yd,go_sem,rA,rM,rS]
 refine call (ZmX s h p.legs hg _) ?_
 dsimp only [go_sem,rA,rM,rS]
 by_cases hs:V8 s p.legs=true
 case neg =>
  rw [Bool.eq_false_iff.2 hs]
  refine Xh [] (ZaG 1 0) rfl rfl rfl ?_ ?_ ?_
  . (repeat first | dsimp only [go_sem,rA,rM,rS] | simp only [nbr])
    try simp [mtL,mtB,mtS]
  . trivial
  rintro _ rfl
  (repeat first | dsimp only [Xe,go_sem,rA,rM,rS] | simp only [nbr])
  refine ⟨_,_,_,_,qw89,?_⟩
  dsimp only [Zwd,Zwf,go_sem,rA,rM,rS]
  refine ⟨rfl,?_⟩
  refine Zev u20 rfl ?_
  dsimp only [go_sem,rA,rM,rS]
  refine Zr rfl ?_
  dsimp only [go_sem,rA,rM,rS]
  refine U9 Zce rfl ?_
  dsimp only [go_sem,rA,rM,rS]
  refine Zs rfl ?_
  dsimp only [go_sem,rA,rM,rS]
  refine ⟨_,rfl,?_⟩
  have hF:Xc s p s.scenes[k]=(1,0):=by rw [ZcR,if_pos (Bool.eq_false_iff.2 hs)]
  rw [Zqi,ZcE,hF]
  refine Vp (Z6 (Zct (s':=.tup [.sl false 3 [],.agg [U8 1,I 0]]) 0 rfl (XE (ZG Yq Wv)) (fun _ _ _ h=>by cases h)) ?_) (fun _ _ _ e=>by cases e)
  (refine Zk ?_ ?_ ?_ rfl rfl<;>dsimp only [id,go_sem,rA,rM,rS]<;>simp [Za,Zi,KFR,KFL,KF,Zd,mtO,nbr])
 rw [hs]
 refine Xh [] (VZ 1 0) rfl rfl rfl ?_ ?_ ?_
 . (repeat first | dsimp only [go_sem,rA,rM,rS] | simp only [nbr])
   try simp [mtL,mtB,mtS]
 . trivial
 rintro _ rfl
 (repeat first | dsimp only [go_sem,rA,rM,rS] | simp only [nbr])
 have hF:Xc s p s.scenes[k]=Zf1 s s.scenes[k] p.animals p.slabs (Zw s p.legs):=by rw [ZcR,if_neg (by simp [hs])]
 have hd:=ZoV s h k hk (Zw s p.legs) (Nat.le_trans X0 hg) p.animals p.slabs ⟨hpl.1,hpl.2.1⟩ hpl.2.2
 rw [<- hF] at hd
 have hT:ZcE s p s.scenes[k]=if (Xc s p s.scenes[k]).1=0 then YX s s.scenes[k] p.animals p.slabs (Zw s p.legs) else []:=rfl
 rw [hT]
 have hz:(Xc s p s.scenes[k]).1=0->Xc s p s.scenes[k]=(0,0):=fun h0=>by
  rw [hF] at h0 ⊢
  revert h0
  unfold Zf1
  split
  . intro _;rfl
  . unfold V4
    split
    . intro h1;simp at h1
    . intro h1;exact goF_z h1
 generalize Xc s p s.scenes[k]=w at hd hz ⊢
 generalize YX s s.scenes[k] p.animals p.slabs (Zw s p.legs)=D at hd ⊢
 by_cases hw:w.1=0
 . simp only [Ve,if_pos hw] at hd
   refine Xh [] hd rfl rfl rfl ?_ ?_ ?_
   . exact Zd (by simp [YA,Zf,Zl,Zh,Zj,Zc,Zo,Zt,Za,KFL,KF])
   . trivial
   rintro _ rfl
   (repeat first | dsimp only [go_sem,rA,rM,rS] | simp only [nbr])
   refine ⟨_,_,_,_,qw89,?_⟩
   dsimp only [Zwd,Zwf,go_sem,rA,rM,rS]
   refine ⟨rfl,?_⟩
   refine ZgJ u20 rfl ?_
   dsimp only [go_sem,rA,rM,rS]
   refine Zs rfl ?_
   dsimp only [go_sem,rA,rM,rS]
   refine ⟨_,rfl,?_⟩
   rw [hz hw]
   simp only [Zqi,if_true]
   (refine Y2 ?_ ?_ ?_ rfl<;>dsimp only [Zz,id,go_sem,rA,rM,rS]<;>simp [Zz,Za,Zi,KFR,KFL,KF,Zd,mtO,nbr])
 simp only [Ve,if_neg hw] at hd
 refine Xh [] hd rfl rfl rfl ?_ ?_ ?_
 . exact Zd (by simp [YA,Zf,Zl,Zh,Zj,Zc,Zo,Zt,Za,KFL,KF])
 . trivial
 rintro _ rfl
 (repeat first | dsimp only [Xe,go_sem,rA,rM,rS] | simp only [nbr])
 refine ⟨_,_,_,_,qw89,?_⟩
 dsimp only [Zwd,Zwf,go_sem,rA,rM,rS]
 refine ⟨rfl,?_⟩
 refine Zev u20 rfl ?_
 dsimp only [go_sem,rA,rM,rS]
 refine Zr rfl ?_
 dsimp only [go_sem,rA,rM,rS]
 refine U9 Zce rfl ?_
 dsimp only [go_sem,rA,rM,rS]
 refine Zs rfl ?_
 dsimp only [go_sem,rA,rM,rS]
 refine ⟨_,rfl,?_⟩
 rw [Zqi,if_neg hw]
 refine Vp (Z6 (Zct (s':=.tup [.sl false 3 [],.agg [U8 w.1,I w.2]]) 0 rfl (XE (ZG Yq Wv)) (fun _ _ _ h=>by cases h)) ?_) (fun _ _ _ e=>by cases e)
 (refine Zk ?_ ?_ ?_ rfl rfl<;>dsimp only [id,go_sem,rA,rM,rS]<;>simp [Za,Zi,KFR,KFL,KF,Zd,mtO,nbr])
theorem Zd6 (s:Season) (hs:SmallS s) (p:Plan) (hg:p.legs.length<=1000):Ct Tryz.prog 14 [.agg (Zp s),.agg (Yd p)] (UI (Z3 s p)):=by
 refine tw14.1 (by simp [Zp,Yd,Zj,Zf,Zl,Zh,Zc,Zo,Zt,Za,KFL,KF]) (by simp [UI,KFL,KF]) ?_
 dsimp only [cw14,rw14,Zp,Yd,go_sem,rA,rM,rS]
 refine call (ZlM s hs p hg) ?_
 dsimp only [go_sem,rA,rM,rS]
 by_cases ho:ZN s=true
 case neg =>
  refine Zr (by simp [ho]) ?_
  dsimp only [go_sem,rA,rM,rS]
  simp [UI,Z3,ho]
 by_cases hp:Wy s p=true
 case neg =>
  refine Zr (by simp [ho,hp]) ?_
  dsimp only [go_sem,rA,rM,rS]
  simp [UI,Z3,ho,hp]
 refine Zs (by simp [ho,hp]) ?_
 dsimp only [go_sem,rA,rM,rS]
 simp only [List.length_map]
 have h:OkS s:=⟨hs,ho⟩
 have hF:Z3 s p=XG s p s.scenes 0:=by simp only [Z3,ho,hp,Bool.true_eq_false,if_false]
 rw [hF]
 have hsc:=hs.sc
 refine Vl [2,3,20,21] rfl (fun q:Nat=>[(21,I q)]) (fun _=>[]) (fun q=>q<=s.scenes.length/\XG s p (s.scenes.drop q) q=XG s p s.scenes 0) (fun q=>s.scenes.length - q) 0 ⟨Nat.zero_le _,rfl⟩ ?_ ?_
 . (refine Zk ?_ ?_ ?_ rfl rfl<;>dsimp only [Zf,Zl,Zh,Zj,Zc,Zo,Zt,id,go_sem,rA,rM,rS]<;>simp [Zf,Zl,Zh,Zj,Zc,Zo,Zt,Za,Zi,KFR,KFL,KF,Zd,mtO,nbr])
 rintro j ⟨hj,hi⟩
 dsimp only [go_sem,rA,rM,rS]
 by_cases hlt:j < s.scenes.length
 case neg =>
  refine Zs (by simp;omega) ?_
  dsimp only [go_sem,rA,rM,rS]
  rw [List.drop_eq_nil_of_le (by omega),XG] at hi
  rw [<- hi];rfl
 refine Zr (by simpa using hlt) ?_
 dsimp only [go_sem,rA,rM,rS]
 have ht:=Zpf s h j hlt p hp hg
 rw [List.drop_eq_getElem_cons hlt,XG] at hi
 generalize Xc s p s.scenes[j]=w at ht hi
 refine Xh [] ht rfl rfl rfl ?_ ?_ ?_
 . exact Zd (by simp [YA,Yd,Zf,Zl,Zh,Zj,Zc,Zo,Zt,Za,KFL,KF])
 . trivial
 rintro _ rfl
 (repeat first | dsimp only [Zqi,go_sem,rA,rM,rS] | simp only [nbr])
 by_cases hf:w.1=0
 case neg =>
  refine Zr (by simpa using hf) ?_
  dsimp only [go_sem,rA,rM,rS]
  rw [if_pos hf] at hi
  rw [<- hi];rfl
 refine Zs (by simpa using hf) ?_
 dsimp only [go_sem,rA,rM,rS]
 rw [if_neg (by simpa using hf)] at hi
 rw [Ze (n:=(j:Int)+1) (by omega) (by omega)]
 refine ⟨j+1,⟨hlt,hi⟩,by omega,?_⟩
 (refine Zk ?_ ?_ ?_ rfl rfl<;>dsimp only [Zf,Zl,Zh,Zj,Zc,Zo,Zt,id,go_sem,rA,rM,rS]<;>simp [Zf,Zl,Zh,Zj,Zc,Zo,Zt,Za,Zi,KFR,KFL,KF,Zd,mtO,nbr])
def c59:SC:=(.seq (.reg [
 o1 3 (.box (.t 0) 0 34),
 o1 4 (.box (.t 1) 0 37),
 o1 6 (.mv (.c (.int .i64 0)))])
 (.seq (.reg [
 o1 7 (.mv (.c (.slice none 0 0)))])
 (.seq (.seq (.reg [
 o1 10 (.addo (.t 3) 36),
 o1 11 (.ld (.t 10) 1 false),
 o1 12 (.len (.t 11)),
 o1 13 (.mv (.c (.int .i64 0)))])
 (.block 0 (.loop (.seq (.reg [
  o1 14 (.bin .lss (.t 13) (.t 12))])
  (.seq (.cond (.t 14)
  .skip
  (.exit 0))
  (.seq (.block 1 (.seq (.reg [
   o1 15 (.ixs (.t 11) (.t 13) 6),
   o1 16 (.ld (.t 15) 6 true),
   o1 9 (.alloc zv5 72),
   ⟨none,.st (.t 9) (.t 16) 6,none,[]⟩])
   (.regs [0,1,2,3,4,5,6,7,8,9,10,11,12,13,14,15,16,17,18,19,20,21,22,23,24,25,26] ⟨[
   .op (m1 17 7),
   .op (o1 18 (.addo (.t 4) 1)),
   .op ⟨some 19,.ld (.t 18) 1 false,none,[1]⟩,
   .op (o1 20 (.addo (.t 4) 2)),
   .op ⟨some 21,.ld (.t 20) 1 false,none,[3]⟩,
   .op ⟨some 22,.bin .mul (.t 19) (.t 21),none,[2,4]⟩,
   .op (o1 23 (.addo (.t 9) 5)),
   .op ⟨some 24,.ld (.t 23) 1 false,none,[6]⟩,
   .op (m1 25 2),
   .op ⟨some 26,.ixs (.t 24) (.t 25) 1,none,[7,8]⟩,
   .op ⟨some 27,.ld (.t 26) 1 false,none,[9]⟩,
   .op (o1 28 (.addo (.t 3) 31)),
   .op ⟨some 29,.ld (.t 28) 1 false,none,[11]⟩,
   .op ⟨some 30,.bin .sub (.t 27) (.t 29),none,[10,12]⟩,
   .op ⟨some 31,.bin .mul (.t 22) (.t 30),none,[5,13]⟩,
   .op (o1 32 (.addo (.t 3) 28)),
   .op ⟨some 33,.ld (.t 32) 1 false,none,[15]⟩,
   .op (o1 34 (.addo (.t 4) 1)),
   .op ⟨some 35,.ld (.t 34) 1 false,none,[17]⟩,
   .op ⟨some 36,.bin .sub (.t 33) (.t 35),none,[16,18]⟩,
   .op (o1 37 (.addo (.t 3) 32)),
   .op ⟨some 38,.ld (.t 37) 1 false,none,[20]⟩,
   .op ⟨some 39,.bin .mul (.t 36) (.t 38),none,[19,21]⟩,
   .op ⟨some 40,.bin .add (.t 31) (.t 39),none,[14,22]⟩,
   .op ⟨some 41,.bsl 1 3 [.t 40],none,[23]⟩],0,1,[
   ⟨some 42,.appm 1 8 3 (.t 17) (.t 41),none,[0,24]⟩]⟩ [⟨[
],0,1,[
 ⟨some 7,.mv (.t 42),none,[0,1,2,3,4,5,6,7,8,9,10,11,12,13,14,15,16,17,18,19,20,21,22,23,24,25]⟩]⟩])))
 (.reg [
 o1 43 (.bin .add (.t 13) (.c (.int .i64 1))),
 m1 13 43])))))))
 (.gh (.seq (.reg [
 m1 44 7,
 o1 45 (.call 71 [.t 44]),
 m1 6 45])
 .ret)))))
def r59:List RV:=[.tmp 6]
theorem t59:Qt1 Tryz.prog 59 c59 r59 46:=ZT Tryz.func59 rfl (by kernel_rfl) (by kernel_rfl) (by kernel_rfl) (by kernel_rfl)
def c60:SC:=(.seq (.reg [
 o1 2 (.box (.t 0) 0 34),
 o1 3 (.box (.t 1) 0 37),
 o1 4 (.mv (.c (.int .i64 0)))])
 (.seq (.reg [
 o1 9 (.ld (.t 2) 37 true),
 o1 10 (.addo (.t 3) 0),
 o1 11 (.ld (.t 10) 1 false),
 o1 12 (.call 87 [.t 9,.t 11]),
 m1 5 12])
 (.seq (.reg [
 o1 6 (.mv (.c (.int .i64 0)))])
 (.seq (.seq (.reg [
 o1 7 (.mv (.c (.int .i64 0)))])
 (.block 0 (.loop (.seq (.seq (.reg [
  m1 13 7,
  o1 14 (.addo (.t 2) 36),
  o1 15 (.ld (.t 14) 1 false),
  o1 16 (.len (.t 15)),
  o1 17 (.bin .lss (.t 13) (.t 16))])
  (.cond (.t 17)
  .skip
  (.exit 0)))
  (.seq (.block 1 (.seq (.regd [0,1,2,3,4,5,6,7,8,9,10,11,12,13,14,15,16,17,18,19,20,21,22,23,24,25,26,27] [
   .op (o1 20 (.addo (.t 3) 1)),
   .op ⟨some 21,.ld (.t 20) 1 false,none,[0]⟩,
   .op (o1 22 (.addo (.t 3) 2)),
   .op ⟨some 23,.ld (.t 22) 1 false,none,[2]⟩,
   .op ⟨some 24,.bin .mul (.t 21) (.t 23),none,[1,3]⟩,
   .op (o1 25 (.addo (.t 2) 36)),
   .op ⟨some 26,.ld (.t 25) 1 false,none,[5]⟩,
   .op (m1 27 7),
   .op ⟨some 28,.ixs (.t 26) (.t 27) 6,none,[6,7]⟩,
   .op ⟨some 29,.addo (.t 28) 5,none,[8]⟩,
   .op ⟨some 30,.ld (.t 29) 1 false,none,[9]⟩,
   .op (m1 31 5),
   .op ⟨some 32,.ixs (.t 30) (.t 31) 1,none,[10,11]⟩,
   .op ⟨some 33,.ld (.t 32) 1 false,none,[12]⟩,
   .op (o1 34 (.addo (.t 2) 31)),
   .op ⟨some 35,.ld (.t 34) 1 false,none,[14]⟩,
   .op ⟨some 36,.bin .sub (.t 33) (.t 35),none,[13,15]⟩,
   .op ⟨some 37,.bin .mul (.t 24) (.t 36),none,[4,16]⟩,
   .op (o1 38 (.addo (.t 2) 28)),
   .op ⟨some 39,.ld (.t 38) 1 false,none,[18]⟩,
   .op (o1 40 (.addo (.t 3) 1)),
   .op ⟨some 41,.ld (.t 40) 1 false,none,[20]⟩,
   .op ⟨some 42,.bin .sub (.t 39) (.t 41),none,[19,21]⟩,
   .op (o1 43 (.addo (.t 2) 32)),
   .op ⟨some 44,.ld (.t 43) 1 false,none,[23]⟩,
   .op ⟨some 45,.bin .mul (.t 42) (.t 44),none,[22,24]⟩,
   .op ⟨some 46,.bin .add (.t 37) (.t 45),none,[17,25]⟩,
   .op ⟨some 8,.mv (.t 46),none,[0,1,2,3,4,5,6,7,8,9,10,11,12,13,14,15,16,17,18,19,20,21,22,23,24,25,26]⟩] 0 0 [
])
 (.seq (.reg [
 m1 47 7,
 o1 48 (.bin .eql (.t 47) (.c (.int .i64 0))),
 m1 49 48,
 ⟨some 50,.mv (.t 8),some (49,false),[]⟩,
 ⟨some 51,.mv (.t 6),some (49,false),[]⟩,
 ⟨some 52,.bin .lss (.t 50) (.t 51),some (49,false),[]⟩,
 o1 53 (.pick (.t 49) (.c (.bool true)) (.t 52))])
 (.cond (.t 53)
 (.reg [
  m1 54 8,
  m1 6 54])
 .skip))))
 (.reg [
 m1 18 7,
 o1 19 (.bin .add (.t 18) (.c (.int .i64 1))),
 m1 7 19]))))))
 (.seq (.reg [
 m1 55 6,
 m1 4 55])
 .ret)))))
def r60:List RV:=[.tmp 4]
theorem t60:Qt1 Tryz.prog 60 c60 r60 56:=ZT Tryz.func60 rfl (by kernel_rfl) (by kernel_rfl) (by kernel_rfl) (by kernel_rfl)
def c20:SC:=(.seq (.reg [
 o1 2 (.box (.t 0) 0 34),
 o1 3 (.box (.t 1) 0 37),
 o1 4 (.mv (.c (.int .i64 0))),
 o1 5 (.mv (.c (.int .i64 0)))])
 (.seq (.reg [
 o1 13 (.ld (.t 2) 37 true),
 o1 14 (.ld (.t 3) 3 true),
 o1 15 (.call 14 [.t 13,.t 14]),
 m1 12 15,
 o1 16 (.ext (.t 12) 0),
 o1 17 (.ext (.t 12) 1),
 o1 18 (.ext (.t 12) 2),
 o1 19 (.ext (.t 12) 3),
 m1 6 16,
 m1 7 17,
 m1 8 18,
 m1 9 19])
 (.seq (.block 0 (.seq (.reg [
  m1 21 9,
  o1 22 (.bin .neq (.t 21) (.c (.int .i64 0))),
  m1 20 22])
  (.cond (.t 20)
  (.seq (.reg [
   m1 23 9,
   o1 4 (.mv (.c (.int .i64 0))),
   m1 5 23])
   .ret)
  (.seq (.reg [
   m1 25 6,
   o1 26 (.bin .neq (.t 25) (.c (.int .u8 0))),
   m1 24 26])
   (.cond (.t 24)
   (.seq (.reg [
    o1 4 (.mv (.c (.int .i64 0))),
    o1 5 (.mv (.c (.int .i64 92)))])
    .ret)
   .skip)))))
 (.seq (.reg [
 o1 28 (.ld (.t 2) 37 true),
 o1 29 (.addo (.t 3) 0),
 o1 30 (.ld (.t 29) 1 false),
 o1 31 (.call 58 [.t 28,.t 30]),
 m1 27 31,
 o1 32 (.ext (.t 27) 0),
 o1 33 (.ext (.t 27) 1),
 m1 10 32,
 m1 11 33])
 (.seq (.reg [
 o1 34 (.ld (.t 2) 37 true),
 o1 35 (.ld (.t 3) 3 true),
 m1 36 10,
 o1 37 (.call 59 [.t 34,.t 35,.t 36]),
 m1 4 37,
 o1 5 (.mv (.c (.int .i64 0)))])
 .ret)))))
def r20:List RV:=[.tmp 4,.tmp 5]
theorem t20:Qt1 Tryz.prog 20 c20 r20 38:=ZT Tryz.func20 rfl (by kernel_rfl) (by kernel_rfl) (by kernel_rfl) (by kernel_rfl)
def c21:SC:=(.seq (.reg [
 o1 2 (.box (.t 0) 0 34),
 o1 3 (.box (.t 1) 0 37),
 o1 4 (.mv (.c (.int .i64 0))),
 o1 5 (.mv (.c (.int .i64 0)))])
 (.seq (.reg [
 o1 11 (.ld (.t 2) 37 true),
 o1 12 (.ld (.t 3) 3 true),
 o1 13 (.call 15 [.t 11,.t 12]),
 m1 10 13,
 o1 14 (.ext (.t 10) 0),
 o1 15 (.ext (.t 10) 1),
 o1 16 (.ext (.t 10) 2),
 o1 17 (.ext (.t 10) 3),
 m1 6 14,
 m1 7 15,
 m1 8 16,
 m1 9 17])
 (.seq (.seq (.reg [
 m1 18 9,
 o1 19 (.bin .neq (.t 18) (.c (.int .i64 0)))])
 (.cond (.t 19)
 (.seq (.reg [
  m1 20 9,
  o1 4 (.mv (.c (.int .i64 0))),
  m1 5 20])
  .ret)
 .skip))
 (.seq (.seq (.reg [
 m1 21 6,
 o1 22 (.bin .neq (.t 21) (.c (.int .u8 0)))])
 (.cond (.t 22)
 (.seq (.reg [
  o1 4 (.mv (.c (.int .i64 0))),
  o1 5 (.mv (.c (.int .i64 92)))])
  .ret)
 .skip))
 (.seq (.reg [
 o1 23 (.ld (.t 2) 37 true),
 o1 24 (.ld (.t 3) 3 true),
 o1 25 (.call 60 [.t 23,.t 24]),
 m1 4 25,
 o1 5 (.mv (.c (.int .i64 0)))])
 .ret)))))
def r21:List RV:=[.tmp 4,.tmp 5]
theorem t21:Qt1 Tryz.prog 21 c21 r21 26:=ZT Tryz.func21 rfl (by kernel_rfl) (by kernel_rfl) (by kernel_rfl) (by kernel_rfl)
def c23:SC:=(.seq (.reg [
 o1 3 (.box (.t 0) 0 34),
 o1 4 (.box (.t 1) 0 37),
 o1 6 (.mv (.c (.slice none 0 0))),
 o1 7 (.mv (.c (.int .i64 0)))])
 (.seq (.reg [
 o1 19 (.ld (.t 3) 37 true),
 o1 20 (.ld (.t 4) 3 true),
 o1 21 (.call 15 [.t 19,.t 20]),
 m1 18 21,
 o1 22 (.ext (.t 18) 0),
 o1 23 (.ext (.t 18) 1),
 o1 24 (.ext (.t 18) 2),
 o1 25 (.ext (.t 18) 3),
 m1 8 22,
 m1 9 23,
 m1 10 24,
 m1 11 25])
 (.seq (.seq (.reg [
 m1 26 11,
 o1 27 (.bin .neq (.t 26) (.c (.int .i64 0)))])
 (.cond (.t 27)
 (.seq (.reg [
  m1 28 11,
  o1 6 (.mv (.c (.slice none 0 0))),
  m1 7 28])
  .ret)
 .skip))
 (.seq (.seq (.reg [
 m1 29 8,
 o1 30 (.bin .neq (.t 29) (.c (.int .u8 0))),
 m1 31 30,
 ⟨some 32,.mv (.t 2),some (31,false),[]⟩,
 ⟨some 33,.addo (.t 3) 36,some (31,false),[]⟩,
 ⟨some 34,.ld (.t 33) 1 false,some (31,false),[]⟩,
 ⟨some 35,.len (.t 34),some (31,false),[]⟩,
 ⟨some 36,.bin .sub (.t 35) (.c (.int .i64 1)),some (31,false),[]⟩,
 ⟨some 37,.call 61 [.t 32,.c (.int .i64 0),.t 36],some (31,false),[]⟩,
 ⟨some 38,.un .not (.t 37),some (31,false),[]⟩,
 o1 39 (.pick (.t 31) (.c (.bool true)) (.t 38))])
 (.cond (.t 39)
 (.seq (.reg [
  o1 6 (.mv (.c (.slice none 0 0))),
  o1 7 (.mv (.c (.int .i64 92)))])
  .ret)
 .skip))
 (.seq (.reg [
 o1 41 (.ld (.t 3) 37 true),
 o1 42 (.addo (.t 4) 0),
 o1 43 (.ld (.t 42) 1 false),
 o1 44 (.call 62 [.t 41,.t 43]),
 m1 40 44,
 o1 45 (.ext (.t 40) 0),
 o1 46 (.ext (.t 40) 1),
 m1 12 45,
 m1 13 46])
 (.seq (.reg [
 o1 14 (.mv (.c (.slice none 0 0)))])
 (.seq (.seq (.reg [
 o1 47 (.addo (.t 4) 1),
 o1 48 (.ld (.t 47) 1 false),
 o1 49 (.bin .eql (.t 48) (.c (.int .i64 0)))])
 (.cond (.t 49)
 (.seq (.seq (.reg [
  o1 15 (.mv (.c (.int .i64 0)))])
  (.block 0 (.loop (.seq (.seq (.reg [
   m1 50 15,
   o1 51 (.bin .add (.t 50) (.c (.int .i64 1))),
   m1 52 12,
   o1 53 (.len (.t 52)),
   o1 54 (.bin .lss (.t 51) (.t 53))])
   (.cond (.t 54)
   .skip
   (.exit 0)))
   (.seq (.block 1 (.regs [0,1,2,3,4,5,6,7,8,9,10,11,12,13,14,15] ⟨[
    .op (m1 57 14),
    .op (m1 58 12),
    .op (m1 59 15),
    .op ⟨some 60,.ixs (.t 58) (.t 59) 6,none,[1,2]⟩,
    .op ⟨some 61,.addo (.t 60) 1,none,[3]⟩,
    .op ⟨some 62,.ld (.t 61) 1 false,none,[4]⟩,
    .op (m1 63 12),
    .op (m1 64 15),
    .op ⟨some 65,.ixs (.t 63) (.t 64) 6,none,[6,7]⟩,
    .op ⟨some 66,.addo (.t 65) 4,none,[8]⟩,
    .op ⟨some 67,.addo (.t 66) 0,none,[9]⟩,
    .op ⟨some 68,.ld (.t 67) 1 false,none,[10]⟩,
    .op ⟨some 69,.build [.int .i64 0,.int .i64 0,.int .i64 0] [(0,1,.t 62),(1,1,.t 68)],none,[5,11]⟩,
    .op ⟨some 70,.bsl 3 111 [.t 69],none,[12]⟩],0,1,[
    ⟨some 71,.appm 3 24 111 (.t 57) (.t 70),none,[0,13]⟩]⟩ [⟨[
],0,1,[
 ⟨some 14,.mv (.t 71),none,[0,1,2,3,4,5,6,7,8,9,10,11,12,13,14]⟩]⟩]))
 (.reg [
 m1 55 15,
 o1 56 (.bin .add (.t 55) (.c (.int .i64 1))),
 m1 15 56]))))))
 (.seq (.reg [
 m1 72 14,
 m1 6 72,
 o1 7 (.mv (.c (.int .i64 0)))])
 .ret))
 .skip))
 (.seq (.reg [
 o1 73 (.ld (.t 3) 37 true),
 m1 74 2,
 o1 75 (.addo (.t 4) 0),
 o1 76 (.ld (.t 75) 1 false),
 m1 77 12,
 o1 78 (.addo (.t 4) 2),
 o1 79 (.ld (.t 78) 1 false),
 o1 80 (.call 63 [.t 73,.t 74,.t 76,.t 77,.t 79]),
 o1 16 (.alloc [.int .u8 0,.int .i64 0,.slice none 0 0,.slice none 0 0] 139),
 ⟨none,.st (.t 16) (.t 80) 4,none,[]⟩])
 (.seq (.seq (.reg [
 o1 17 (.mv (.c (.int .i64 0)))])
 (.block 2 (.loop (.seq (.seq (.reg [
  m1 81 17,
  o1 82 (.addo (.t 16) 2),
  o1 83 (.ld (.t 82) 1 false),
  o1 84 (.len (.t 83)),
  o1 85 (.bin .lss (.t 81) (.t 84))])
  (.cond (.t 85)
  .skip
  (.exit 2)))
  (.seq (.block 3 (.regs [0,1,2,3,4,5,6,7,8,9,10,11,12,13,14,15,16,17,18,19,20,21,22,23] ⟨[
   .op (m1 88 14),
   .op (m1 89 12),
   .op (m1 90 17),
   .op ⟨some 91,.ixs (.t 89) (.t 90) 6,none,[1,2]⟩,
   .op ⟨some 92,.addo (.t 91) 1,none,[3]⟩,
   .op ⟨some 93,.ld (.t 92) 1 false,none,[4]⟩,
   .op (m1 94 12),
   .op (m1 95 17),
   .op ⟨some 96,.ixs (.t 94) (.t 95) 6,none,[6,7]⟩,
   .op ⟨some 97,.addo (.t 96) 4,none,[8]⟩,
   .op ⟨some 98,.addo (.t 97) 0,none,[9]⟩,
   .op ⟨some 99,.ld (.t 98) 1 false,none,[10]⟩,
   .op (o1 100 (.addo (.t 4) 1)),
   .op ⟨some 101,.ld (.t 100) 1 false,none,[12]⟩,
   .op (o1 102 (.addo (.t 16) 2)),
   .op ⟨some 103,.ld (.t 102) 1 false,none,[14]⟩,
   .op (m1 104 17),
   .op ⟨some 105,.ixs (.t 103) (.t 104) 1,none,[15,16]⟩,
   .op ⟨some 106,.ld (.t 105) 1 false,none,[17]⟩,
   .op ⟨some 107,.bin .mul (.t 101) (.t 106),none,[13,18]⟩,
   .op ⟨some 108,.build [.int .i64 0,.int .i64 0,.int .i64 0] [(0,1,.t 93),(1,1,.t 99),(2,1,.t 107)],none,[5,11,19]⟩,
   .op ⟨some 109,.bsl 3 111 [.t 108],none,[20]⟩],0,1,[
   ⟨some 110,.appm 3 24 111 (.t 88) (.t 109),none,[0,21]⟩]⟩ [⟨[
],0,1,[
 ⟨some 14,.mv (.t 110),none,[0,1,2,3,4,5,6,7,8,9,10,11,12,13,14,15,16,17,18,19,20,21,22]⟩]⟩]))
 (.reg [
 m1 86 17,
 o1 87 (.bin .add (.t 86) (.c (.int .i64 1))),
 m1 17 87]))))))
 (.seq (.reg [
 m1 111 14,
 m1 6 111,
 o1 7 (.mv (.c (.int .i64 0)))])
 .ret))))))))))
def r23:List RV:=[.tmp 6,.tmp 7]
theorem n23:Tryz.f23.ntmps=112:=by kernel_rfl
theorem b23:YO Tryz.prog 23=true:=by kernel_rfl
theorem ZuZ:Xv Tryz.prog c23 ((Tryz.f23.body).getD .skip)=true:=by kernel_rfl
theorem ZuJ:Ww Tryz.prog r23 Tryz.f23.results.toList=true:=by kernel_rfl
def c24:SC:=(.seq (.reg [
 o1 4 (.mv (.c (.bool false)))])
 (.seq (.seq (.reg [
 m1 6 0,
 o1 7 (.len (.t 6)),
 m1 8 1,
 o1 9 (.len (.t 8)),
 o1 10 (.bin .neq (.t 7) (.t 9))])
 (.cond (.t 10)
 (.seq (.reg [
  o1 4 (.mv (.c (.bool false)))])
  .ret)
 .skip))
 (.seq (.seq (.reg [
 o1 5 (.mv (.c (.int .i64 0)))])
 (.block 0 (.loop (.seq (.seq (.reg [
  m1 11 5,
  m1 12 0,
  o1 13 (.len (.t 12)),
  o1 14 (.bin .lss (.t 11) (.t 13))])
  (.cond (.t 14)
  .skip
  (.exit 0)))
  (.seq (.block 1 (.seq (.regd [0,1,2,3,4,5,6,7,8] [
   .op (m1 17 0),
   .op (m1 18 5),
   .op ⟨some 19,.ixs (.t 17) (.t 18) 3,none,[0,1]⟩,
   .op ⟨some 20,.ld (.t 19) 3 true,none,[2]⟩,
   .op (m1 21 1),
   .op (m1 22 5),
   .op ⟨some 23,.ixs (.t 21) (.t 22) 3,none,[4,5]⟩,
   .op ⟨some 24,.ld (.t 23) 3 true,none,[6]⟩,
   .op ⟨some 25,.eqs true true [1,1,1] (.t 20) (.t 24),none,[3,7]⟩] 0 0 [
])
 (.cond (.t 25)
 (.seq (.reg [
  o1 4 (.mv (.c (.bool false)))])
  .ret)
 .skip)))
 (.reg [
 m1 15 5,
 o1 16 (.bin .add (.t 15) (.c (.int .i64 1))),
 m1 5 16]))))))
 (.seq (.reg [
 o1 4 (.mv (.c (.bool true)))])
 .ret))))
def r24:List RV:=[.tmp 4]
theorem t24:Qt1 Tryz.prog 24 c24 r24 26:=ZT Tryz.func24 rfl (by kernel_rfl) (by kernel_rfl) (by kernel_rfl) (by kernel_rfl)
def c4:SC:=(.seq (.reg [
 o1 3 (.box (.t 0) 0 34),
 o1 4 (.box (.t 1) 0 37),
 o1 6 (.mv (.c (.bool false)))])
 (.seq (.seq (.reg [
 o1 15 (.ld (.t 3) 37 true),
 o1 16 (.call 12 [.t 15]),
 m1 17 16,
 ⟨some 18,.addo (.t 4) 0,some (17,false),[]⟩,
 ⟨some 19,.ld (.t 18) 1 false,some (17,false),[]⟩,
 ⟨some 20,.len (.t 19),some (17,false),[]⟩,
 ⟨some 21,.bin .gtr (.t 20) (.c (.int .i64 40)),some (17,false),[]⟩,
 o1 22 (.pick (.t 17) (.c (.bool true)) (.t 21))])
 (.cond (.t 22)
 (.seq (.reg [
  o1 6 (.mv (.c (.bool true)))])
  .ret)
 .skip))
 (.seq (.reg [
 o1 24 (.ld (.t 3) 37 true),
 o1 25 (.ld (.t 4) 3 true),
 o1 26 (.call 20 [.t 24,.t 25]),
 m1 23 26,
 o1 27 (.ext (.t 23) 0),
 o1 28 (.ext (.t 23) 1),
 m1 7 27,
 m1 8 28])
 (.seq (.reg [
 o1 30 (.ld (.t 3) 37 true),
 o1 31 (.ld (.t 4) 3 true),
 o1 32 (.call 21 [.t 30,.t 31]),
 m1 29 32,
 o1 33 (.ext (.t 29) 0),
 o1 34 (.ext (.t 29) 1),
 m1 9 33,
 m1 10 34])
 (.seq (.reg [
 o1 36 (.ld (.t 3) 37 true),
 o1 37 (.ld (.t 4) 3 true),
 m1 38 2,
 o1 39 (.call 22 [.t 36,.t 37,.t 38]),
 m1 35 39,
 o1 40 (.ext (.t 35) 0),
 o1 41 (.ext (.t 35) 1),
 m1 11 40,
 m1 12 41])
 (.seq (.reg [
 o1 43 (.ld (.t 3) 37 true),
 o1 44 (.ld (.t 4) 3 true),
 m1 45 2,
 o1 46 (.call 23 [.t 43,.t 44,.t 45]),
 m1 42 46,
 o1 47 (.ext (.t 42) 0),
 o1 48 (.ext (.t 42) 1),
 m1 13 47,
 m1 14 48])
 (.seq (.reg [
 m1 49 7,
 m1 50 9,
 o1 51 (.bin .eql (.t 49) (.t 50)),
 m1 52 51,
 ⟨some 53,.mv (.t 8),some (52,true),[]⟩,
 ⟨some 54,.mv (.t 10),some (52,true),[]⟩,
 ⟨some 55,.bin .eql (.t 53) (.t 54),some (52,true),[]⟩,
 o1 56 (.pick (.t 52) (.t 55) (.c (.bool false))),
 m1 57 56,
 ⟨some 58,.mv (.t 11),some (57,true),[]⟩,
 ⟨some 59,.mv (.t 13),some (57,true),[]⟩,
 ⟨some 60,.call 24 [.t 58,.t 59],some (57,true),[]⟩,
 o1 61 (.pick (.t 57) (.t 60) (.c (.bool false))),
 m1 62 61,
 ⟨some 63,.mv (.t 12),some (62,true),[]⟩,
 ⟨some 64,.mv (.t 14),some (62,true),[]⟩,
 ⟨some 65,.bin .eql (.t 63) (.t 64),some (62,true),[]⟩,
 o1 66 (.pick (.t 62) (.t 65) (.c (.bool false))),
 m1 6 66])
 .ret)))))))
def r4:List RV:=[.tmp 6]
theorem n4:Tryz.f4.ntmps=67:=by kernel_rfl
theorem b4:YO Tryz.prog 4=true:=by kernel_rfl
theorem t4:Qt1 Tryz.prog 4 c4 r4 67:=ZT Tryz.func4 rfl b4 (by kernel_rfl) (by kernel_rfl) n4
end Go.Proofs.YtiigiflofnjilaaGreat
namespace Go.Azalai
open Go.Sx
def Zbx:List Int->Int
 | []=>0
 | x :: r=>r.foldl min x
theorem Zc4 {l:List Int} {a:Int} (h:l≠[]):Zbx (l ++ [a])=min (Zbx l) a:=by
 cases l with
 | nil=>exact absurd rfl h
 | cons x r=>simp [Zbx,List.foldl_append]
def YQ (s:Season) (p:Plan) (to:Int) (x:Scene):Int:=p.animals * p.slabs * ((x.prices[to.toNat]?).getD 0 - s.cost)+(s.herd - p.animals) * s.sale
def Zj4 (s:Season) (p:Plan) (to:Int):Int:=Zbx (s.scenes.map (YQ s p to))
def Vg (s:Season) (p:Plan):Int × Int :=
 if (Z3 s p).2.2.2≠0 then (0,(Z3 s p).2.2.2) else if (Z3 s p).1≠0 then (0,92) else (Zj4 s p ((XK s.land s.start [s.start] p.legs).getD 0),0)
theorem ZiW {α : Type} {L:List α} {k:Nat} (hk:k≠0) (h:1<=L.length):L.take k≠[]:=fun e=>by
 rw [List.take_eq_nil_iff] at e
 rcases e with e | e
 . exact hk e
 . rw [e] at h;simp at h
theorem Zs1 {A B d M:Int} (h0:0<=A) (h1:A<=B) (hM:0<=M) (hd:-M<=d/\d<=M):-(B * M)<=A * d/\A * d<=B * M:=by
 have e1:A * d<=A * M:=Int.mul_le_mul_of_nonneg_left hd.2 h0
 have e2:A * M<=B * M:=Int.mul_le_mul_of_nonneg_right h1 hM
 have e3:A * (-M)<=A * d:=Int.mul_le_mul_of_nonneg_left hd.1 h0
 rw [Int.mul_neg] at e3
 omega
theorem Zd0 {s:Season} {p:Plan}:∀ {l:List Scene} {i:Nat},(XG s p l i).1=0->∀ x ∈ l,(Xc s p x).1=0
 | [],_,_,x,hx=>by cases hx
 | y :: r,i,h,x,hx=>by
  simp only [XG] at h
  split at h
  . rename_i hf;exact absurd h hf
  . rename_i hf
    rcases List.mem_cons.1 hx with rfl | hx
    . simpa using hf
    . exact Zd0 h x hx
theorem WL {s:Season} {p:Plan} (h:(Z3 s p).2.2.2=0):ZN s=true/\Wy s p=true:=by
 unfold Z3 at h
 split at h
 . simp at h
 rename_i h1
 split at h
 . simp at h
 rename_i h2
 exact ⟨by simpa using h1,by simpa using h2⟩
theorem Zez {s:Season} {p:Plan} (h:(Z3 s p).2.2.2=0) (h1:(Z3 s p).1=0):∀ x ∈ s.scenes,(Xc s p x).1=0:=by
 obtain ⟨ho,hp⟩:=WL h
 unfold Z3 at h1
 rw [if_neg (by simp [ho]),if_neg (by simp [hp])] at h1
 exact Zd0 h1
def XF (s:Season) (p:Plan) (k:Int):List Draw × Int :=
 if (Z3 s p).2.2.2≠0 then ([],(Z3 s p).2.2.2) else if (Z3 s p).1≠0\/inR 0 (s.scenes.length - 1) k=false then ([],92)
 else match s.scenes[k.toNat]? with
  | some x=>(YX s x p.animals p.slabs (Zw s p.legs),0)
  | none=>([],0)
end Go.Azalai
namespace Go.Proofs.YtiigiflofnjilaaGreat
open Go Go.Sx Go.Azalai
theorem Zt1 (L:List Int) (h1:1<=L.length) (hl:L.length<=1001) (c:Bool):Ct Tryz.prog 71 [.sl c 1 (L.map Zo)] (I (Zbx L)):=by
 refine t71.1 (by simp [Za,Zo,KFL,KF]) (by simp [KFL,KF]) ?_
 dsimp only [c71,r71,go_sem,rA,rM,rS]
 simp only [List.length_map]
 refine Zs (by simp;omega) ?_
 dsimp only [go_sem,rA,rM,rS]
 refine Zm 0 (by omega) rfl ?_
 dsimp only [Zo,go_sem,rA,rM,rS]
 have h0:L[0]=Zbx (L.take 1):=by
  cases L with
  | nil=>simp at h1
  | cons x r=>simp [Zbx]
 rw [h0]
 refine YV (fun k:Nat=>[(4,I (k+1)),(3,I (Zbx (L.take (k+1))))]) (fun _=>[]) (fun k=>k+1<=L.length) (fun k=>L.length - k) 0 h1 ?_ ?_
 . (refine Zk ?_ ?_ ?_ rfl rfl<;>dsimp only [Zo,id,go_sem,rA,rM,rS]<;>simp [Zo,Za,Zi,KFR,KFL,KF,Zd,mtO,nbr])
 intro k hk
 dsimp only [go_sem,rA,rM,rS]
 simp only [List.length_map]
 by_cases hlt:k+1 < L.length
 . refine Zr (by simp;omega) ?_
   dsimp only [go_sem,rA,rM,rS]
   refine Zm (k+1) hlt (by simp) ?_
   dsimp only [Zo,go_sem,rA,rM,rS]
   rw [Ze (n:=(k:Int)+1+1) (by omega) (by omega)]
   refine ⟨k+1,by omega,by omega,?_⟩
   have e:min (Zbx (L.take (k+1))) L[k+1]=Zbx (L.take (k+1+1)):=by
    rw [List.take_succ_eq_append_getElem hlt,Zc4 (ZiW (by omega) h1)]
   rw [e]
   (refine Zk ?_ ?_ ?_ rfl rfl<;>dsimp only [Zo,id,go_sem,rA,rM,rS]<;>simp [Zo,Za,Zi,KFR,KFL,KF,Zd,mtO,nbr])
 refine Zs (by simp;omega) ?_
 dsimp only [go_sem,rA,rM,rS]
 rw [List.take_of_length_le (by omega)]
theorem ZbC {s:Season} (h:OkS s) {k:Nat} (hk:k < s.scenes.length) {m:Nat} (hm:m < s.land.wells.length):∃ hp:m < (s.scenes[k]).prices.length,0<=(s.scenes[k]).prices[m]/\(s.scenes[k]).prices[m]<=1000000:=by
 have hx:=h.scene _ (List.getElem_mem hk)
 simp only [Yk,Bool.and_eq_true,decide_eq_true_eq,List.all_eq_true] at hx
 have hp:m < (s.scenes[k]).prices.length:=by omega
 have:=hx.2 _ (List.getElem_mem hp)
 simp only [inR,decide_eq_true_eq] at this
 exact ⟨hp,this⟩
theorem Zi5 {s:Season} (h:OkS s) {p:Plan} (hp:Wy s p=true) {k:Nat} (hk:k < s.scenes.length) {m:Nat} (hm:m < s.land.wells.length) (hq:m < (s.scenes[k]).prices.length) :
 IntKind.i64.wrap (IntKind.i64.wrap (IntKind.i64.wrap (p.animals * p.slabs) * IntKind.i64.wrap ((s.scenes[k]).prices[m] - s.cost))+IntKind.i64.wrap (IntKind.i64.wrap (s.herd - p.animals) * s.sale))=YQ s p m s.scenes[k] /\
 -1000000000<=YQ s p m s.scenes[k]/\YQ s p m s.scenes[k]<=1000000000:=by
 have hnum:=h.num
 obtain ⟨_,hpl⟩:=WG hp
 obtain ⟨_,hpr⟩:=ZbC h hk hm
 have e1:0<=p.animals * p.slabs/\p.animals * p.slabs<=30 * 12:=⟨Int.mul_nonneg hpl.1 hpl.2.2.1,Int.mul_le_mul (by omega) hpl.2.2.2 hpl.2.2.1 (by decide)⟩
 have e2:=Zs1 (A:=p.animals * p.slabs) (B:=360) (d:=(s.scenes[k]).prices[m] - s.cost) (M:=1000000) e1.1 (by omega) (by decide) (by omega)
 have e3:0<=(s.herd - p.animals) * s.sale/\(s.herd - p.animals) * s.sale<=30 * 1000000:=⟨Int.mul_nonneg (by omega) (by omega),Int.mul_le_mul (by omega) (by omega) (by omega) (by decide)⟩
 have e4:YQ s p m s.scenes[k]=p.animals * p.slabs * ((s.scenes[k]).prices[m] - s.cost)+(s.herd - p.animals) * s.sale:=by
  simp only [YQ,Int.toNat_natCast,List.getElem?_eq_getElem hq,Option.getD_some]
 rw [Ze (n:=p.animals * p.slabs) (by omega) (by omega),Ze (n:=(s.scenes[k]).prices[m] - s.cost) (by omega) (by omega),Ze (n:=s.herd - p.animals) (by omega) (by omega),
  Ze (n:=p.animals * p.slabs * ((s.scenes[k]).prices[m] - s.cost)) (by omega) (by omega),Ze (n:=(s.herd - p.animals) * s.sale) (by omega) (by omega),Ze (by omega) (by omega),e4]
 exact ⟨rfl,by omega,by omega⟩
theorem ZlQ (s:Season) (h:OkS s) (p:Plan) (hp:Wy s p=true) (m:Nat) (hm:m < s.land.wells.length):Ct Tryz.prog 59 [.agg (Zp s),.agg (Yd p),I m] (I (Zj4 s p m)):=by
 have hsc:=h.scs
 have hs4:=h.scs
 refine t59.1 (by simp [Zp,Yd,Zj,Zf,Zl,Zh,Zc,Zo,Za,KFL,KF]) (by simp [KFL,KF]) ?_
 dsimp only [c59,r59,Zp,Yd,go_sem,rA,rM,rS]
 simp only [List.length_map]
 obtain ⟨W,hW⟩:∃ W,W=s.scenes.map (YQ s p m):=⟨_,rfl⟩
 have hWl:W.length=s.scenes.length:=by rw [hW];simp
 refine Za5 (Z6 (W6 [2,3,4,6,7,11,12,13] rfl) (Yj 7 1 3 rfl rfl)) (fun q:Nat × Nat=>[(13,I q.1),(7,.mr 2 q.2)])
  (fun q=>[(2,.row q.2 1 ((W.take q.1).map Zo) 3)]) (fun q=>q.1<=s.scenes.length) (fun q=>s.scenes.length - q.1) (0,0) (Nat.zero_le _) ?_ ?_
 . (refine Zk ?_ ?_ ?_ rfl rfl<;>dsimp only [Zf,Zl,Zh,Zj,Zc,Zo,YD,id,go_sem,rA,rM,rS]<;>simp [Zf,Zl,Zh,Zj,Zc,Zo,YD,Za,Zi,KFR,KFL,KF,Zd,mtO,nbr])
 rintro ⟨j,v⟩ hj
 simp only at hj
 dsimp only [go_sem,rA,rM,rS]
 by_cases hlt:j < s.scenes.length
 . refine Zr (by simpa using hlt) ?_
   dsimp only [go_sem,rA,rM,rS]
   refine Zm j hlt rfl ?_
   dsimp only [Zj,go_sem,rA,rM,rS]
   obtain ⟨hq,_⟩:=ZbC h hlt hm
   refine Zm m hq rfl ?_
   dsimp only [Zo,go_sem,rA,rM,rS]
   obtain ⟨hww,hwb⟩:=Zi5 h hp hlt hm hq
   rw [hww]
   simp only [nbr]
   dsimp only [go_sem,rA,rM,rS]
   refine ⟨(by intro c hc;simp only [List.mem_singleton] at hc;subst hc;rfl),by simp;omega,?_⟩
   dsimp only [go_sem,rA,rM,rS]
   rw [Ze (n:=(j:Int)+1) (by omega) (by omega)]
   refine ⟨(j+1,v+1),hlt,by simp only;omega,?_⟩
   simp only
   have hWj:YQ s p m s.scenes[j]=W[j]'(by omega):=by simp [hW]
   rw [hWj,List.take_succ_eq_append_getElem (by omega)]
   simp only [List.map_append,List.map_cons,List.map_nil]
   (refine Zk ?_ ?_ ?_ rfl rfl<;>dsimp only [Zf,Zl,Zh,Zj,Zc,Zo,YD,id,go_sem,rA,rM,rS]<;>simp [Zf,Zl,Zh,Zj,Zc,Zo,YD,Za,Zi,KFR,KFL,KF,Zd,mtO,nbr])
 refine Zs (by simp;omega) ?_
 dsimp only [go_sem,rA,rM,rS]
 rw [List.take_of_length_le (by omega)]
 refine gh (ZbF 7 2 v rfl rfl rfl rfl) ?_
 dsimp only [go_sem,rA,rM,rS]
 refine call (Zt1 W (by omega) (by omega) _) ?_
 dsimp only [go_sem,rA,rM,rS]
 rw [hW];rfl
theorem Zu6 {s:Season} (h:OkS s) {p:Plan} (hp:Wy s p=true):∃ m:Nat,m < s.land.wells.length/\XK s.land s.start [s.start] p.legs=some (m:Int):=by
 obtain ⟨⟨to,hto⟩,_⟩:=WG hp
 have:=Zb2 h.lp h.start hto
 exact ⟨to.toNat,by omega,by rw [hto];congr 1;omega⟩
theorem ZjK (s:Season) (hs:SmallS s) (p:Plan) (hg:p.legs.length<=1000):Ct Tryz.prog 20 [.agg (Zp s),.agg (Yd p)] (.tup [I (Vg s p).1,I (Vg s p).2]):=by
 refine t20.1 (by simp [Zp,Yd,Zj,Zf,Zl,Zh,Zc,Zo,Za,KFL,KF]) (by simp [KFL,KF]) ?_
 dsimp only [c20,r20,Zp,Yd,go_sem,rA,rM,rS]
 refine call (Zd6 s hs p hg) ?_
 dsimp only [UI,go_sem,rA,rM,rS]
 by_cases he:(Z3 s p).2.2.2=0
 case neg =>
  refine Zr (by simpa using he) ?_
  dsimp only [go_sem,rA,rM,rS]
  simp [Vg,he]
 refine Zs (by simpa using he) ?_
 dsimp only [go_sem,rA,rM,rS]
 by_cases hw:(Z3 s p).1=0
 case neg =>
  refine Zr (by simpa using hw) ?_
  dsimp only [go_sem,rA,rM,rS]
  simp [Vg,he,hw]
 refine Zs (by simpa using hw) ?_
 dsimp only [go_sem,rA,rM,rS]
 obtain ⟨ho,hp⟩:=WL he
 have h:OkS s:=⟨hs,ho⟩
 obtain ⟨m,hm,hto⟩:=Zu6 h hp
 refine call (ZcU s hs h.land h.pace h.start p.legs hg _) ?_
 dsimp only [go_sem,rA,rM,rS]
 rw [hto]
 simp only [Option.getD_some]
 refine call (ZlQ s h p hp m hm) ?_
 dsimp only [go_sem,rA,rM,rS]
 simp [Vg,he,hw,hto]
theorem Zim (s:Season) (h:OkS s) (p:Plan) (hp:Wy s p=true) (hg:p.legs.length<=1000):Ct Tryz.prog 60 [.agg (Zp s),.agg (Yd p)] (I (Zj4 s p ((XK s.land s.start [s.start] p.legs).getD 0))):=by
 have hsc:=h.scs
 obtain ⟨m,hm,hto⟩:=Zu6 h hp
 refine t60.1 (by simp [Zp,Yd,Zj,Zf,Zl,Zh,Zc,Zo,Za,KFL,KF]) (by simp [KFL,KF]) ?_
 dsimp only [c60,r60,Zp,Yd,go_sem,rA,rM,rS]
 refine call (Zht s h.small h.land h.pace h.start p.legs hg _) ?_
 dsimp only [go_sem,rA,rM,rS]
 rw [hto]
 simp only [Option.getD_some]
 have step:∀ k,k < s.scenes.length->Zbx ((s.scenes.map (YQ s p m)).take (k+1))=if k=0 then YQ s p m (s.scenes[k]?.getD ⟨⟨0,0⟩,⟨0,0⟩,[],[]⟩) else min (Zbx ((s.scenes.map (YQ s p m)).take k)) (YQ s p m (s.scenes[k]?.getD ⟨⟨0,0⟩,⟨0,0⟩,[],[]⟩)):=fun k hk=>by
  rw [List.take_succ_eq_append_getElem (by simpa using hk),List.getElem_map,List.getElem?_eq_getElem hk,Option.getD_some]
  split
  . rename_i h0;subst h0;simp [Zbx]
  . rename_i h0
    rw [Zc4 (ZiW h0 (by simp;omega))]
 refine Vl [2,3,5,6,7] rfl (fun k:Nat=>[(6,I (Zbx ((s.scenes.map (YQ s p m)).take k))),(7,I k)]) (fun _=>[]) (fun k=>k<=s.scenes.length) (fun k=>s.scenes.length - k) 0 (Nat.zero_le _) ?_ ?_
 . (refine Zk ?_ ?_ ?_ rfl rfl<;>dsimp only [Zf,Zl,Zh,Zj,Zc,Zo,Zbx,id,go_sem,rA,rM,rS]<;>simp [Zf,Zl,Zh,Zj,Zc,Zo,Zbx,Za,Zi,KFR,KFL,KF,Zd,mtO,nbr])
 intro k hk
 dsimp only [go_sem,rA,rM,rS]
 simp only [List.length_map]
 by_cases hlt:k < s.scenes.length
 case neg =>
  refine Zs (by simp;omega) ?_
  dsimp only [go_sem,rA,rM,rS]
  rw [List.take_of_length_le (by simp;omega)];rfl
 refine Zr (by simpa using hlt) ?_
 dsimp only [go_sem,rA,rM,rS]
 refine Zm k hlt rfl ?_
 dsimp only [Zj,go_sem,rA,rM,rS]
 obtain ⟨hq,_⟩:=ZbC h hlt hm
 refine Zm m hq rfl ?_
 dsimp only [Zo,go_sem,rA,rM,rS]
 obtain ⟨hww,hwb⟩:=Zi5 h hp hlt hm hq
 rw [hww]
 have hst:=step k hlt
 rw [List.getElem?_eq_getElem hlt,Option.getD_some] at hst
 repeat (refine gb ?_;dsimp only [go_sem,rA,rM,rS])
 have hnext:IntKind.i64.wrap ((k:Int)+1)=((k+1:Nat):Int):=by rw [Ze (by omega) (by omega)];omega
 by_cases hb:k=0\/YQ s p m s.scenes[k] < Zbx ((s.scenes.map (YQ s p m)).take k)
 . refine Zr (by simp;omega) ?_
   dsimp only [go_sem,rA,rM,rS]
   rw [hnext]
   have:YQ s p m s.scenes[k]=Zbx ((s.scenes.map (YQ s p m)).take (k+1)):=by
    rw [hst];split<;>omega
   rw [this]
   refine ⟨k+1,hlt,by omega,?_⟩
   (refine Zk ?_ ?_ ?_ rfl rfl<;>dsimp only [Zf,Zl,Zh,Zj,Zc,Zo,id,go_sem,rA,rM,rS]<;>simp [Zf,Zl,Zh,Zj,Zc,Zo,Za,Zi,KFR,KFL,KF,Zd,mtO,nbr])
 . refine Zs (by simp;omega) ?_
   dsimp only [go_sem,rA,rM,rS]
   rw [hnext]
   have:Zbx ((s.scenes.map (YQ s p m)).take k)=Zbx ((s.scenes.map (YQ s p m)).take (k+1)):=by
    rw [hst,if_neg (by omega)];omega
   rw [this]
   refine ⟨k+1,hlt,by omega,?_⟩
   (refine Zk ?_ ?_ ?_ rfl rfl<;>dsimp only [Zf,Zl,Zh,Zj,Zc,Zo,id,go_sem,rA,rM,rS]<;>simp [Zf,Zl,Zh,Zj,Zc,Zo,Za,Zi,KFR,KFL,KF,Zd,mtO,nbr])
theorem ZhE (s:Season) (hs:SmallS s) (p:Plan) (hg:p.legs.length<=1000):Ct Tryz.prog 21 [.agg (Zp s),.agg (Yd p)] (.tup [I (Vg s p).1,I (Vg s p).2]):=by
 refine t21.1 (by simp [Zp,Yd,Zj,Zf,Zl,Zh,Zc,Zo,Za,KFL,KF]) (by simp [KFL,KF]) ?_
 dsimp only [c21,r21,Zp,Yd,go_sem,rA,rM,rS]
 refine call (Zcs s hs p hg) ?_
 dsimp only [UI,go_sem,rA,rM,rS]
 by_cases he:(Z3 s p).2.2.2=0
 case neg =>
  refine Zr (by simpa using he) ?_
  dsimp only [go_sem,rA,rM,rS]
  simp [Vg,he]
 refine Zs (by simpa using he) ?_
 dsimp only [go_sem,rA,rM,rS]
 by_cases hw:(Z3 s p).1=0
 case neg =>
  refine Zr (by simpa using hw) ?_
  dsimp only [go_sem,rA,rM,rS]
  simp [Vg,he,hw]
 refine Zs (by simpa using hw) ?_
 dsimp only [go_sem,rA,rM,rS]
 obtain ⟨ho,hp⟩:=WL he
 have h:OkS s:=⟨hs,ho⟩
 refine call (Zim s h p hp hg) ?_
 dsimp only [go_sem,rA,rM,rS]
 simp [Vg,he,hw]
def Zbh (r:List Draw × Int):SV:=.tup [.sl false 3 (r.1.map Zz),I r.2]
theorem u22 {args:List SV} {res:SV} (ka:KFL args) (kr:KF res) (h:sx Tryz.prog Y0 0 cw22 (st0 args 48) (Zt5 rw22 res)) (hA:Nat.ble args.length 48=true:=by rfl):Ct Tryz.prog 22 args res:=U4 Tryz.func22 rfl bw22 ZpZ ZtT nw22 (Nat.le_of_ble_eq_true hA) ka kr h
theorem u23 {args:List SV} {res:SV} (ka:KFL args) (kr:KF res) (h:sx Tryz.prog Y0 0 c23 (st0 args 112) (Zt5 r23 res)) (hA:Nat.ble args.length 112=true:=by rfl):Ct Tryz.prog 23 args res:=U4 Tryz.func23 rfl b23 ZuZ ZuJ n23 (Nat.le_of_ble_eq_true hA) ka kr h
theorem ZkL (s:Season) (hs:SmallS s) (p:Plan) (hg:p.legs.length<=1000) (k:Int):Ct Tryz.prog 22 [.agg (Zp s),.agg (Yd p),I k] (Zbh (XF s p k)):=by
 have hsc:=hs.sc
 refine u22 (by simp [Zp,Yd,Zj,Zf,Zl,Zh,Zc,Zo,Za,KFL,KF]) (by simp [Zbh,Zz,Za,KFL,KF]) ?_
 dsimp only [cw22,rw22,Zp,Yd,go_sem,rA,rM,rS]
 refine call (Zd6 s hs p hg) ?_
 dsimp only [UI,go_sem,rA,rM,rS]
 by_cases he:(Z3 s p).2.2.2=0
 case neg =>
  refine Zr (by simpa using he) ?_
  dsimp only [go_sem,rA,rM,rS]
  refine ⟨_,rfl,?_⟩
  rw [XF,if_pos he]
  exact XE (ZG Yq Wv)
 refine Zs (by simpa using he) ?_
 dsimp only [go_sem,rA,rM,rS]
 obtain ⟨ho,hp⟩:=WL he
 have h:OkS s:=⟨hs,ho⟩
 try simp only [List.length_map]
 repeat (first | (refine gb ?_;dsimp only [go_sem,rA,rM,rS]) | (refine call (Zet _ _ _ _) ?_;dsimp only [go_sem,rA,rM,rS]))
 simp only [List.length_map]
 rw [Ze (n:=(s.scenes.length:Int) - 1) (by omega) (by omega)]
 by_cases hw:(Z3 s p).1≠0\/inR 0 (s.scenes.length - 1) k=false
 . refine Zr (by simpa using hw) ?_
   dsimp only [go_sem,rA,rM,rS]
   refine ⟨_,rfl,?_⟩
   rw [XF,if_neg (by simpa using he),if_pos hw]
   exact XE (ZG Yq Wv)
 refine Zs (by simpa using hw) ?_
 dsimp only [go_sem,rA,rM,rS]
 have hw1:(Z3 s p).1=0:=Classical.byContradiction fun q=>hw (.inl q)
 have hk:0<=k/\k < s.scenes.length:=by
  have:inR 0 (s.scenes.length - 1) k=true:=by cases hq:inR 0 (s.scenes.length - 1) k with | true=>rfl | false=>exact absurd (.inr hq) hw
  simp only [inR,decide_eq_true_eq] at this;omega
 obtain ⟨j,rfl⟩:∃ j:Nat,k=j:=⟨k.toNat,by omega⟩
 have hj:j < s.scenes.length:=by omega
 have ht:=Zpf s h j hj p hp hg
 have hf:=Zez he hw1 _ (List.getElem_mem hj)
 have hR:XF s p j=(YX s s.scenes[j] p.animals p.slabs (Zw s p.legs),0):=by
  rw [XF,if_neg (by simpa using he),if_neg hw]
  simp only [Int.toNat_natCast,List.getElem?_eq_getElem hj]
 rw [hR]
 have hT:ZcE s p s.scenes[j]=YX s s.scenes[j] p.animals p.slabs (Zw s p.legs):=by rw [ZcE,if_pos hf]
 rw [hT] at ht
 generalize YX s s.scenes[j] p.animals p.slabs (Zw s p.legs)=D at ht ⊢
 generalize Xc s p s.scenes[j]=w at ht
 refine Xh [] ht rfl rfl rfl ?_ ?_ ?_
 . exact Zd (by simp [YA,Yd,Zf,Zl,Zh,Zj,Zc,Zo,Zt,Za,KFL,KF])
 . trivial
 rintro _ rfl
 (repeat first | dsimp only [Zqi,go_sem,rA,rM,rS] | simp only [nbr])
 exact ⟨_,rfl,fun _ _ _ _ _ h=>h⟩
theorem ZiN (s:Season) (hs:SmallS s) (p:Plan) (hg:p.legs.length<=1000) (k:Int):Ct Tryz.prog 23 [.agg (Zp s),.agg (Yd p),I k] (Zbh (XF s p k)):=by
 have hsc:=hs.sc
 refine u23 (by simp [Zp,Yd,Zj,Zf,Zl,Zh,Zc,Zo,Za,KFL,KF]) (by simp [Zbh,Zz,Za,KFL,KF]) ?_
 dsimp only [c23,r23,Zp,Yd,go_sem,rA,rM,rS]
 refine call (Zcs s hs p hg) ?_
 dsimp only [UI,go_sem,rA,rM,rS]
 by_cases he:(Z3 s p).2.2.2=0
 case neg =>
  refine Zr (by simpa using he) ?_
  dsimp only [go_sem,rA,rM,rS]
  refine ⟨_,rfl,?_⟩
  rw [XF,if_pos he]
  exact XE (ZG Yq Wv)
 refine Zs (by simpa using he) ?_
 dsimp only [go_sem,rA,rM,rS]
 obtain ⟨ho,hp⟩:=WL he
 have h:OkS s:=⟨hs,ho⟩
 have hnum:=h.num
 obtain ⟨_,hpl⟩:=WG hp
 try simp only [List.length_map]
 repeat (first | (refine gb ?_;dsimp only [go_sem,rA,rM,rS]) | (refine call (YZ _ _ _) ?_;dsimp only [go_sem,rA,rM,rS]))
 simp only [List.length_map]
 rw [Ze (n:=(s.scenes.length:Int) - 1) (by omega) (by omega)]
 by_cases hw:(Z3 s p).1≠0\/inR 0 (s.scenes.length - 1) k=false
 . refine Zr (by simpa using hw) ?_
   dsimp only [go_sem,rA,rM,rS]
   refine ⟨_,rfl,?_⟩
   rw [XF,if_neg (by simpa using he),if_pos hw]
   exact XE (ZG Yq Wv)
 refine Zs (by simpa using hw) ?_
 dsimp only [go_sem,rA,rM,rS]
 have hw1:(Z3 s p).1=0:=Classical.byContradiction fun q=>hw (.inl q)
 have hk:0<=k/\k < s.scenes.length:=by
  have:inR 0 (s.scenes.length - 1) k=true:=by cases hq:inR 0 (s.scenes.length - 1) k with | true=>rfl | false=>exact absurd (.inr hq) hw
  simp only [inR,decide_eq_true_eq] at this;omega
 obtain ⟨j,rfl⟩:∃ j:Nat,k=j:=⟨k.toNat,by omega⟩
 have hj:j < s.scenes.length:=by omega
 have hf:=Zez he hw1 _ (List.getElem_mem hj)
 have hsure:V8 s p.legs=true:=by
  unfold Xc at hf
  split at hf
  . simp at hf
  . rename_i q;simpa using q
 have hR:XF s p j=(YX s s.scenes[j] p.animals p.slabs (Zw s p.legs),0):=by
  rw [XF,if_neg (by simpa using he),if_neg hw]
  simp only [Int.toNat_natCast,List.getElem?_eq_getElem hj]
 rw [hR]
 refine call (ZgC s h p.legs hg _) ?_
 dsimp only [go_sem,rA,rM,rS]
 have hsl:(Zw s p.legs).length<=1000:=Nat.le_trans X0 hg
 by_cases hn0:p.animals=0
 . refine Zr (by simpa using hn0) ?_
   dsimp only [go_sem,rA,rM,rS]
   have hdF:YX s s.scenes[j] p.animals p.slabs (Zw s p.legs)=(Zw s p.legs).dropLast.map fun st=>⟨st.well,st.arrives.lo,0⟩:=by
    unfold YX
    split
    . rename_i q;rw [q];rfl
    . first | rfl | rw [if_pos hn0]
   rw [hdF]
   generalize Zw s p.legs=l at hsl ⊢
   obtain ⟨W,hW⟩:∃ W,W=l.dropLast.map fun st=>(⟨st.well,st.arrives.lo,0⟩:Draw):=⟨_,rfl⟩
   have hWl:W.length=l.length - 1:=by rw [hW];simp
   rw [<- hW]
   refine Za5 (Z6 (W6 [12,14,15] rfl) (Yj 14 3 111 rfl rfl)) (fun q:Nat × Nat=>[(15,I q.1),(14,.mr 2 q.2)])
    (fun q=>[(2,.row q.2 3 ((W.take q.1).map Zz) 111)]) (fun q=>q.1=0\/q.1+1<=l.length) (fun q=>l.length - q.1) (0,0) (.inl rfl) ?_ ?_
   . (refine Zk ?_ ?_ ?_ rfl rfl<;>dsimp only [Zf,Zl,Zh,Zj,Zc,Zo,Zt,Zz,YD,id,go_sem,rA,rM,rS]<;>simp [Zf,Zl,Zh,Zj,Zc,Zo,Zt,Zz,YD,Za,Zi,KFR,KFL,KF,Zd,mtO,nbr])
   rintro ⟨i,v⟩ hi
   simp only at hi
   dsimp only [go_sem,rA,rM,rS]
   simp only [List.length_map]
   rw [Ze (n:=(i:Int)+1) (by omega) (by omega)]
   by_cases hlt:i+1 < l.length
   case neg =>
    refine Zs (by simp;omega) ?_
    dsimp only [go_sem,rA,rM,rS]
    simp only [nbr]
    rw [List.take_of_length_le (by omega)]
    exact ⟨_,rfl,fun _ _ _ _ _ h=>h⟩
   refine Zr (by simp;omega) ?_
   dsimp only [go_sem,rA,rM,rS]
   refine Zm i (by omega) rfl ?_
   dsimp only [Zt,go_sem,rA,rM,rS]
   refine Zm i (by omega) rfl ?_
   dsimp only [Zt,go_sem,rA,rM,rS]
   simp only [nbr]
   dsimp only [go_sem,rA,rM,rS]
   refine ⟨(by intro c hc;simp only [List.mem_singleton] at hc;subst hc;rfl),by simp;omega,?_⟩
   dsimp only [go_sem,rA,rM,rS]
   rw [Ze (n:=(i:Int)+1) (by omega) (by omega)]
   refine ⟨(i+1,v+1),.inr (by simp only;omega),by simp only;omega,?_⟩
   simp only
   have hWi:W[i]'(by omega)=⟨l[i].well,l[i].arrives.lo,0⟩:=by simp [hW]
   rw [List.take_succ_eq_append_getElem (by omega),hWi]
   simp only [List.map_append,List.map_cons,List.map_nil]
   (refine Zk ?_ ?_ ?_ rfl rfl<;>dsimp only [Zf,Zl,Zh,Zj,Zc,Zo,Zt,Zz,YD,id,go_sem,rA,rM,rS]<;>simp [Zf,Zl,Zh,Zj,Zc,Zo,Zt,Zz,YD,Za,Zi,KFR,KFL,KF,Zd,mtO,nbr])
 refine Zs (by simpa using hn0) ?_
 dsimp only [go_sem,rA,rM,rS]
 refine call (ZjD s h j hj p.legs (Zw s p.legs) (Zbt hsure).symm hg p.slabs hpl.2.2 _ _) ?_
 dsimp only [ZeT,go_sem,rA,rM,rS]
 have hdF:YX s s.scenes[j] p.animals p.slabs (Zw s p.legs)=Xs p.animals (Zw s p.legs) (goF s s.scenes[j] p.slabs (Zw s p.legs)).2.2:=by
  unfold YX
  split
  . rename_i q;rw [q];rfl
  . first | rfl | rw [if_neg hn0]
 rw [hdF]
 have hgb:=Zps (x:=s.scenes[j]) (slabs:=p.slabs) (l:=Zw s p.legs) h.beast.1 h.beast.2
 generalize goF s s.scenes[j] p.slabs (Zw s p.legs)=G at hgb ⊢
 generalize Zw s p.legs=l at hsl hgb ⊢
 refine Za5 (Z6 (W6 [4,12,14,16,17] rfl) (Yj 14 3 111 rfl rfl)) (fun q:Nat × Nat=>[(17,I q.1),(14,.mr 3 q.2)])
  (fun q=>[(3,.row q.2 3 ((Xs p.animals l (G.2.2.take q.1)).map Zz) 111)]) (fun q=>q.1<=G.2.2.length) (fun q=>G.2.2.length - q.1) (0,0) (Nat.zero_le _) ?_ ?_
 . (refine Zk ?_ ?_ ?_ rfl rfl<;>dsimp only [Zf,Zl,Zh,Zj,Zc,Zo,Zt,Zz,Xs,id,go_sem,rA,rM,rS]<;>simp [Zf,Zl,Zh,Zj,Zc,Zo,Zt,Zz,Xs,Za,Zi,KFR,KFL,KF,Zd,mtO,nbr])
 rintro ⟨i,v⟩ hi
 simp only at hi
 dsimp only [go_sem,rA,rM,rS]
 simp only [List.length_map]
 by_cases hlt:i < G.2.2.length
 case neg =>
  refine Zs (by simp;omega) ?_
  dsimp only [go_sem,rA,rM,rS]
  simp only [nbr]
  rw [List.take_of_length_le (by omega)]
  exact ⟨_,rfl,fun _ _ _ _ _ h=>h⟩
 refine Zr (by simpa using hlt) ?_
 dsimp only [go_sem,rA,rM,rS]
 refine Zm i (by omega) rfl ?_
 dsimp only [Zt,go_sem,rA,rM,rS]
 refine Zm i (by omega) rfl ?_
 dsimp only [Zt,go_sem,rA,rM,rS]
 refine Zm i hlt rfl ?_
 dsimp only [Zo,go_sem,rA,rM,rS]
 have hneed:=hgb.1 _ (List.getElem_mem hlt)
 have hm2:0<=p.animals * (G.2.2[i]).1/\p.animals * (G.2.2[i]).1<=30 * 1000000:=⟨Int.mul_nonneg hpl.1 hneed.1,Int.mul_le_mul (by omega) hneed.2 hneed.1 (by decide)⟩
 rw [Ze (n:=p.animals * (G.2.2[i]).1) (by omega) (by omega)]
 simp only [nbr]
 dsimp only [go_sem,rA,rM,rS]
 refine ⟨(by intro c hc;simp only [List.mem_singleton] at hc;subst hc;rfl),by simp [Xs];omega,?_⟩
 dsimp only [go_sem,rA,rM,rS]
 rw [Ze (n:=(i:Int)+1) (by omega) (by omega)]
 refine ⟨(i+1,v+1),hlt,by simp only;omega,?_⟩
 simp only
 rw [List.take_succ_eq_append_getElem hlt,Za1 (j:=i) (by omega) (by simp;omega)]
 simp only [List.map_append,List.map_cons,List.map_nil]
 (refine Zk ?_ ?_ ?_ rfl rfl<;>dsimp only [Zf,Zl,Zh,Zj,Zc,Zo,Zt,Zz,UH,id,go_sem,rA,rM,rS]<;>simp [Zf,Zl,Zh,Zj,Zc,Zo,Zt,Zz,UH,Za,Zi,KFR,KFL,KF,Zd,mtO,nbr])
theorem ZcL (a b:List Draw) (ha:a.length<=1000000) (hb:b.length<=1000000) (c d:Bool):Ct Tryz.prog 24 [.sl c 3 (a.map Zz),.sl d 3 (b.map Zz)] (B (decide (a=b))):=by
 refine t24.1 (by simp [Zz,Za,KFL,KF]) (by simp [KFL,KF]) ?_
 dsimp only [c24,r24,go_sem,rA,rM,rS]
 simp only [List.length_map]
 by_cases hl:a.length=b.length
 case neg =>
  refine Zr (by simp;omega) ?_
  dsimp only [go_sem,rA,rM,rS]
  rw [decide_eq_false (fun e=>hl (by rw [e]))]
 refine Zs (by simp;omega) ?_
 dsimp only [go_sem,rA,rM,rS]
 refine Vl [0,1,4,5] rfl (fun k:Nat=>[(5,I k)]) (fun _=>[]) (fun k=>k<=a.length/\(a=b↔a.drop k=b.drop k)) (fun k=>a.length - k) 0 ⟨Nat.zero_le _,by simp⟩ ?_ ?_
 . (refine Zk ?_ ?_ ?_ rfl rfl<;>dsimp only [Zz,id,go_sem,rA,rM,rS]<;>simp [Zz,Za,Zi,KFR,KFL,KF,Zd,mtO,nbr])
 rintro k ⟨hk,hi⟩
 dsimp only [go_sem,rA,rM,rS]
 simp only [List.length_map]
 by_cases hlt:k < a.length
 case neg =>
  refine Zs (by simp;omega) ?_
  dsimp only [go_sem,rA,rM,rS]
  rw [List.drop_eq_nil_of_le (by omega),List.drop_eq_nil_of_le (by omega)] at hi
  rw [decide_eq_true (hi.2 rfl)]
 refine Zr (by simpa using hlt) ?_
 dsimp only [go_sem,rA,rM,rS]
 have hlb:k < b.length:=by omega
 refine Zm k hlt rfl ?_
 dsimp only [go_sem,rA,rM,rS]
 refine Zm k hlb rfl ?_
 dsimp only [Zz,go_sem,rA,rM,rS]
 rw [List.drop_eq_getElem_cons hlt,List.drop_eq_getElem_cons hlb,List.cons.injEq] at hi
 by_cases hq:a[k]=b[k]
 . refine Zs (by simp [hq]) ?_
   dsimp only [go_sem,rA,rM,rS]
   rw [Ze (n:=(k:Int)+1) (by omega) (by omega)]
   refine ⟨k+1,⟨hlt,by rw [hi];simp [hq]⟩,by omega,?_⟩
   (refine Zk ?_ ?_ ?_ rfl rfl<;>dsimp only [Zz,id,go_sem,rA,rM,rS]<;>simp [Zz,Za,Zi,KFR,KFL,KF,Zd,mtO,nbr])
 . have hne:¬ (a[k].well=b[k].well/\a[k].day=b[k].day/\a[k].water=b[k].water):=fun q=>hq (by
    revert q;generalize a[k]=x;generalize b[k]=y;intro q;cases x;cases y;simpa using q)
   refine Zr (by simp;omega) ?_
   dsimp only [go_sem,rA,rM,rS]
   rw [decide_eq_false (fun e=>hq (hi.1 e).1)]
theorem ZeX {s:Season} {p:Plan} {k:Int} (hg:p.legs.length<=1000):(XF s p k).1.length<=1000:=by
 have h1:(Zw s p.legs).length<=1000:=Nat.le_trans X0 hg
 unfold XF
 split
 . simp
 split
 . simp
 split
 . simp only
   unfold YX
   split
   . simp
   split
   . simp;omega
   . simp only [Xs,List.length_zipWith];omega
 . simp
theorem Zbd (s:Season) (p:Plan) (k:Int):Ct Tryz.prog 4 [.agg (Zp s),.agg (Yd p),I k] (B true):=by
 refine t4.1 (by simp [Zp,Yd,Zj,Zf,Zl,Zh,Zc,Zo,Za,KFL,KF]) (by simp [KFL,KF]) ?_
 dsimp only [c4,r4,Zp,Yd,go_sem,rA,rM,rS]
 refine call (Zjs s) ?_
 dsimp only [go_sem,rA,rM,rS]
 repeat (refine gb ?_;dsimp only [go_sem,rA,rM,rS])
 simp only [List.length_map]
 by_cases hq:Ur s=false/\p.legs.length<=40
 case neg =>
  refine Zr ?_ ?_
  . cases hgs:Ur s
    . have:¬ p.legs.length<=40:=fun h=>hq ⟨hgs,h⟩
      simp;omega
    . simp
  dsimp only [go_sem,rA,rM,rS]
 refine Zs (by simp [hq.1];omega) ?_
 dsimp only [go_sem,rA,rM,rS]
 have hs:=Zik hq.1
 have hg:p.legs.length<=1000:=by omega
 have hl:=ZeX (s:=s) (k:=k) hg
 refine call (ZjK s hs p hg) ?_
 dsimp only [go_sem,rA,rM,rS]
 refine call (ZhE s hs p hg) ?_
 dsimp only [go_sem,rA,rM,rS]
 refine call (ZkL s hs p hg k) ?_
 dsimp only [Zbh,go_sem,rA,rM,rS]
 refine call (ZiN s hs p hg k) ?_
 dsimp only [Zbh,go_sem,rA,rM,rS]
 repeat (first | (refine gb ?_;dsimp only [go_sem,rA,rM,rS]) | (refine call (ZcL (XF s p k).1 (XF s p k).1 (by omega) (by omega) _ _) ?_;dsimp only [go_sem,rA,rM,rS]))
 simp
end Go.Proofs.YtiigiflofnjilaaGreat
