/- Walks and plain laws that lead to the given statement, part 8 of 10. -/
import Derived.Test.YtiigiflofnjilaaGreatQG
import Derived.Test.YtiigiflofnjilaaGreatProg
import Derived.WideLaws
set_option maxRecDepth 100000
set_option maxHeartbeats 4000000
set_option linter.all false
open Nat renaming reduceAdd->rA,reduceMul->rM,reduceSub->rS,beq_refl->nbr
namespace Go.Proofs.YtiigiflofnjilaaGreat
open Go Go.Sx Go.Azalai
theorem ZdJ:ZdT Tryz.prog 117=true:=by kernel_rfl
def XH (why at_:Int):Ot:=⟨true,.ifc 117 (.agg [U8 why,I at_]),[],0⟩
theorem UA (w k:Int):CtM Tryz.prog 91 [] 0 [B true,U8 w,I k] (fun o=>o=⟨false,.tup [],[],0⟩):=by
 refine m91 (by simp [hpb]) (fun o ho=>by subst ho;simp [KX,KXL,KXP]) ?_
 dsimp only [c91,r91,go_sem,rA,rM,rS]
 refine Zw rfl ?_
 dsimp only [go_sem,rA,rM,rS]
 refine ⟨_,rfl,?_⟩
 (refine Z1 ?_ ?_ ?_ rfl<;>dsimp only [id,go_sem,rA,rM,rS]<;>simp [Za,Ze,KFR,KFL,KF,Zc,mtO,nbr])
theorem Zcc (w k:Int):CtM Tryz.prog 91 [] 0 [B false,U8 w,I k] (fun o=>o=XH w k):=by
 refine m91 (by simp [hpb]) (fun o ho=>by subst ho;simp [XH,KX,KXL,KXP]) ?_
 dsimp only [c91,r91,go_sem,rA,rM,rS]
 refine Zv rfl ?_
 dsimp only [go_sem,rA,rM,rS]
 refine Zl8 (s:=.agg [U8 w,I k]) ZdJ rfl (fun _ _ _ e=>by cases e) ?_
 dsimp only [go_sem,rA,rM,rS]
 refine Zl4 rfl ?_
 dsimp only [go_sem,rA,rM,rS]
 refine ⟨_,rfl,?_⟩
 (refine Z1 ?_ ?_ ?_ rfl<;>dsimp only [XH,id,go_sem,rA,rM,rS]<;>simp [XH,Za,Ze,KFR,KFL,KF,Zc,mtO,nbr])
theorem Zlo (s:Season) (k:Nat) (hk:k < s.scenes.length):Ct Tryz.prog 156 [.agg (Yv s k)] (.agg (Zj s.scenes[k])):=by
 refine t156.1 (by simp [Yv,Zj,Zg,Zm,Zh,Zd,Zo,Za,KFL,KF]) (by simp [Zj,Zd,Zo,Za,KFL,KF]) ?_
 dsimp only [c156,r156,Yv,go_sem,rA,rM,rS]
 refine Zp k hk rfl ?_
 dsimp only [Zj,go_sem,rA,rM,rS]
def Za7 (at_:Int) (r:Camel × Int):Ot:=if r.2=0 then ⟨false,.agg (camelL r.1),[],0⟩ else XH r.2 at_
theorem Zqu (s:Season) (k:Nat) (hk:k < s.scenes.length) (at_:Int) (c:Camel) (d:Span) (slabs:Int) (hn:0<=slabs/\slabs<=12) (hs:0<=s.slab/\s.slab<=1000000) (hd:d.hi<=1000000000) :
 CtM Tryz.prog 164 [] 0 [.agg (Yv s k),I at_,.agg (camelL c),.agg (Zd d),I slabs] (fun o=>o=Za7 at_ (Xl s s.scenes[k] d slabs c)):=by
 have hb:0<=slabs * s.slab/\slabs * s.slab<=12 * 1000000:=⟨Int.mul_nonneg hn.1 hs.1,Int.mul_le_mul hn.2 hs.2 hs.1 (by decide)⟩
 refine m164 (by simp [hpb]) (fun o ho=>by subst ho;unfold Za7;split<;>simp [XH,Cm.camelL,KX,KXL,KXP]) ?_
 dsimp only [c164,r164,Zd,Cm.camelL,Yv,go_sem,rA,rM,rS]
 refine call (Zlo s k hk) ?_
 dsimp only [Zj,go_sem,rA,rM,rS]
 refine call (Zlo s k hk) ?_
 dsimp only [Zj,go_sem,rA,rM,rS]
 rw [Zf (n:=slabs * s.slab) (by omega) (by omega)]
 refine WH [1,5,7,8,10,11,12,13,35,36] rfl (fun q:Nat × Camel × Camel=>[(36,I q.1)]) (fun q=>[(1,.cells (Cm.camelL q.2.1) 31),(5,.cells (Cm.camelL q.2.2) 31)])
  (fun q=>q.1<=d.hi.toNat/\Wd s.breed (XB s s.scenes[k] slabs) d.lo (d.hi.toNat - q.1) q.1 q.2.1 q.2.2=Xl s s.scenes[k] d slabs c) (fun q=>d.hi.toNat - q.1) (0,c,Xk) ⟨Nat.zero_le _,rfl⟩ ?_ ?_
 . (refine Zl ?_ ?_ ?_ rfl rfl<;>dsimp only [Cm.camelL,Xk,ZaF,Zh,Zg,Zm,Zj,Zd,Zo,mtL,mtB,mtS,id,go_sem,rA,rM,rS]<;>simp [Cm.camelL,Xk,ZaF,Zh,Zg,Zm,Zj,Zd,Zo,mtL,mtB,mtS,Za,Ze,KFR,KFL,KF,Zc,mtO,nbr])
 rintro ⟨n,c,out⟩ ⟨hk',hi⟩
 simp only at hk' hi
 dsimp only [Cm.camelL,go_sem,rA,rM,rS]
 by_cases hlt:n < d.hi.toNat
 case neg =>
  refine Zw (by simp;omega) ?_
  dsimp only [go_sem,rA,rM,rS]
  rw [show d.hi.toNat - n=0 from by omega,Wd] at hi
  rw [<- hi]
  refine ⟨_,rfl,?_⟩
  simp only [Za7,if_true]
  (refine Z1 ?_ ?_ ?_ rfl<;>dsimp only [Cm.camelL,mtL,mtB,mtS,id,go_sem,rA,rM,rS]<;>simp [Cm.camelL,mtL,mtB,mtS,Za,Ze,KFR,KFL,KF,Zc,mtO,nbr])
 refine Zv (by simp;omega) ?_
 dsimp only [go_sem,rA,rM,rS]
 refine call (Cm.carries_ok s.breed c) ?_
 dsimp only [Cm.sres,Zd,go_sem,rA,rM,rS]
 rw [show (if Zcn s.breed c=0 then Zmy s.breed c else ZaF)=ZeX s.breed c from rfl]
 have hj:d.hi.toNat - n=(d.hi.toNat - (n+1))+1:=by omega
 rw [hj,Wd] at hi
 by_cases hw:(XB s s.scenes[k] slabs).load > (ZeX s.breed c).lo
 . rw [show decide (slabs * s.slab<=(ZeX s.breed c).lo)=false from decide_eq_false (by have:slabs * s.slab > (ZeX s.breed c).lo:=hw;omega)]
   refine YO [] (Zcc 2 at_) rfl rfl rfl ?_ ?_ ?_
   . (repeat first | dsimp only [go_sem,rA,rM,rS] | simp only [nbr])
     try simp [mtL,mtB,mtS]
   . trivial
   rintro _ rfl
   (repeat first | dsimp only [XH,go_sem,rA,rM,rS] | simp only [nbr])
   rw [<- hi,if_pos hw]
   refine ⟨_,rfl,?_⟩
   simp only [Za7]
   (refine Z1 ?_ ?_ ?_ rfl<;>dsimp only [XH,id,go_sem,rA,rM,rS]<;>simp [XH,Za,Ze,KFR,KFL,KF,Zc,mtO,nbr])
 rw [show decide (slabs * s.slab<=(ZeX s.breed c).lo)=true from decide_eq_true (by have:¬ slabs * s.slab > (ZeX s.breed c).lo:=hw;omega)]
 refine YO [] (UA 2 at_) rfl rfl rfl ?_ ?_ ?_
 . (repeat first | dsimp only [go_sem,rA,rM,rS] | simp only [nbr])
   try simp [mtL,mtB,mtS]
 . trivial
 rintro _ rfl
 (repeat first | dsimp only [go_sem,rA,rM,rS] | simp only [nbr])
 rw [if_neg hw] at hi
 refine call (Cm.after1_ok s.breed c (XB s s.scenes[k] slabs)) ?_
 generalize Yb s.breed c (XB s s.scenes[k] slabs)=r at hi ⊢
 dsimp only [Cm.camelL,Cm.U8,go_sem,rA,rM,rS]
 repeat (refine gb ?_;dsimp only [go_sem,rA,rM,rS])
 by_cases hf:r.2.2≠0\/r.2.1≠0
 . rw [show (r.2.2 == 0 && r.2.1 == 0)=false from by simp;omega]
   refine YO [] (Zcc 3 at_) rfl rfl rfl ?_ ?_ ?_
   . (repeat first | dsimp only [go_sem,rA,rM,rS] | simp only [nbr])
     try simp [mtL,mtB,mtS]
   . trivial
   rintro _ rfl
   (repeat first | dsimp only [XH,go_sem,rA,rM,rS] | simp only [nbr])
   rw [<- hi,if_pos hf]
   refine ⟨_,rfl,?_⟩
   simp only [Za7]
   (refine Z1 ?_ ?_ ?_ rfl<;>dsimp only [XH,id,go_sem,rA,rM,rS]<;>simp [XH,Za,Ze,KFR,KFL,KF,Zc,mtO,nbr])
 rw [show (r.2.2 == 0 && r.2.1 == 0)=true from by simp;omega]
 refine YO [] (UA 3 at_) rfl rfl rfl ?_ ?_ ?_
 . (repeat first | dsimp only [go_sem,rA,rM,rS] | simp only [nbr])
   try simp [mtL,mtB,mtS]
 . trivial
 rintro _ rfl
 (repeat first | dsimp only [go_sem,rA,rM,rS] | simp only [nbr])
 rw [if_neg hf] at hi
 rw [Zf (n:=(n:Int)+1) (by omega) (by omega)]
 by_cases hl:(n:Int)+1=d.lo
 . refine Zv (by simpa using hl) ?_
   dsimp only [go_sem,rA,rM,rS]
   rw [if_pos hl] at hi
   try rw [Zf (n:=(n:Int)+1) (by omega) (by omega)]
   refine ⟨(n+1,r.1,r.1),⟨hlt,hi⟩,by simp only;omega,?_⟩
   (refine Zl ?_ ?_ ?_ rfl rfl<;>dsimp only [Cm.camelL,Xk,ZaF,Zh,Zg,Zm,Zj,Zd,Zo,mtL,mtB,mtS,id,go_sem,rA,rM,rS]<;>simp [Cm.camelL,Xk,ZaF,Zh,Zg,Zm,Zj,Zd,Zo,mtL,mtB,mtS,Za,Ze,KFR,KFL,KF,Zc,mtO,nbr])
 refine Zw (by simpa using hl) ?_
 dsimp only [go_sem,rA,rM,rS]
 rw [if_neg hl] at hi
 try rw [Zf (n:=(n:Int)+1) (by omega) (by omega)]
 by_cases hm:(n:Int)+1 > d.lo
 . refine Zv (by simpa using hm) ?_
   dsimp only [go_sem,rA,rM,rS]
   rw [if_pos hm] at hi
   refine call (ZfK out.water r.1.water _) ?_
   dsimp only [go_sem,rA,rM,rS]
   refine call (ZfK out.fat r.1.fat _) ?_
   dsimp only [go_sem,rA,rM,rS]
   refine call (ZfK out.sore r.1.sore _) ?_
   dsimp only [Zd,go_sem,rA,rM,rS]
   try rw [Zf (n:=(n:Int)+1) (by omega) (by omega)]
   refine ⟨(n+1,r.1,Zd6 out r.1),⟨hlt,hi⟩,by simp only;omega,?_⟩
   (refine Zl ?_ ?_ ?_ rfl rfl<;>dsimp only [Cm.camelL,Zd6,Xk,ZaF,Zh,Zg,Zm,Zj,Zd,Zo,mtL,mtB,mtS,id,go_sem,rA,rM,rS]<;>simp [Cm.camelL,Zd6,Xk,ZaF,Zh,Zg,Zm,Zj,Zd,Zo,mtL,mtB,mtS,Za,Ze,KFR,KFL,KF,Zc,mtO,nbr])
 refine Zw (by simp;omega) ?_
 dsimp only [go_sem,rA,rM,rS]
 rw [if_neg hm] at hi
 try rw [Zf (n:=(n:Int)+1) (by omega) (by omega)]
 refine ⟨(n+1,r.1,out),⟨hlt,hi⟩,by simp only;omega,?_⟩
 (refine Zl ?_ ?_ ?_ rfl rfl<;>dsimp only [Cm.camelL,Xk,ZaF,Zh,Zg,Zm,Zj,Zd,Zo,mtL,mtB,mtS,id,go_sem,rA,rM,rS]<;>simp [Cm.camelL,Xk,ZaF,Zh,Zg,Zm,Zj,Zd,Zo,mtL,mtB,mtS,Za,Ze,KFR,KFL,KF,Zc,mtO,nbr])
def Zui:SC:=(sr1 [
 o1 2 (.mv (.c (.slice none 0 0)))]
 (.seq (sr1 [
 m1 3 0,
 o1 4 (.isn (.t 3))]
 (.cond (.t 4)
 (sr1 [
  o1 2 (.mv (.c (.slice none 0 0)))]
  .ret)
 .skip))
 (sr1 [
 o1 5 (.bsl 9 88 []),
 m1 6 0,
 o1 7 (.cln 9 72 88 (.t 5) (.t 6)),
 m1 2 7]
 .ret)))
def ZtI:List RV:=[.tmp 2]
theorem nw155:Tryz.f155.ntmps=8:=by kernel_rfl
theorem bw155:YP Tryz.prog 155=true:=by kernel_rfl
theorem Zn8:XK Tryz.prog Zui ((Tryz.f155.body).getD .skip)=true:=by kernel_rfl
theorem Zr1:Wx Tryz.prog ZtI Tryz.f155.results.toList=true:=by kernel_rfl
theorem mw155 {n0:Nat} {hp0:List (Nat × HB)} {args:List SV} {Yi:Ot->Prop} (hh:hpb n0 hp0) (hx:∀ o,Yi o->KX o.res/\KXP o.hp) (h:sx Tryz.prog Y0 n0 Zui ⟨Wu 0 args,hp0,n0,8,[]⟩ (ZcF ZtI fun o=>∃ o',Yi o'/\ZeW n0 o o')) (hA:Nat.ble args.length 8=true:=by rfl):CtM Tryz.prog 155 hp0 n0 args Yi:=XA Tryz.func155 rfl bw155 Zn8 Zr1 nw155 (Nat.le_of_ble_eq_true hA) hh hx h
def ZyO:SC:=(sr1 [
 o1 2 (.box (.t 0) 0 120),
 o1 3 (.box (.t 1) 0 94),
 o1 4 (.mv (.c (.int .i64 0)))]
 (sr1 [
 o1 10 (.addo (.t 2) 0),
 o1 11 (.addo (.t 10) 0),
 o1 12 (.ld (.t 11) 2 true),
 o1 5 (.alloc [.slice none 0 0,.slice none 0 0] 25),
 ⟨none,.st (.t 5) (.t 12) 2,none,[]⟩]
 (sr1 [
 o1 13 (.addo (.t 5) 0),
 o1 14 (.ld (.t 13) 1 false),
 o1 15 (.callm 155 [.t 14]),
 o1 16 (.addo (.t 5) 0),
 ⟨none,.st (.t 16) (.t 15) 1,none,[]⟩]
 (.seq (sr1 [
 o1 17 (.addo (.t 5) 0),
 o1 18 (.ld (.t 17) 1 false),
 o1 19 (.len (.t 18)),
 o1 20 (.mv (.c (.int .i64 0)))]
 (.block 0 (.loop (sr1 [
  o1 21 (.bin .lss (.t 20) (.t 19))]
  (.seq (.cond (.t 21)
  .skip
  (.exit 0))
  (.seq (.block 1 (sr1 [
   m1 22 20,
   m1 6 22]
   (.regd [0,1,2,3,4,5,6,7,8,9,10,11] [
   .op (o1 23 (.addo (.t 5) 0)),
   .op ⟨some 24,.ld (.t 23) 1 false,none,[0]⟩,
   .op (m1 25 6),
   .op (o1 26 (.ld (.t 2) 38 true)),
   .op ⟨some 27,.call 156 [.t 26],none,[3]⟩,
   .op ⟨some 28,.fld (.t 27) 4 1 false,none,[4]⟩,
   .op (m1 29 6),
   .op ⟨some 30,.ixs (.t 28) (.t 29) 2,none,[5,6]⟩,
   .op ⟨some 31,.ld (.t 30) 2 true,none,[7]⟩,
   .op ⟨some 32,.ixs (.t 24) (.t 25) 9,none,[0,1,2,3,4,5,6,7,8]⟩,
   .op ⟨some 33,.addo (.t 32) 3,none,[0,1,2,3,4,5,6,7,8,9]⟩] 0 1 [
   ⟨none,.st (.t 33) (.t 31) 2,none,[0,1,2,3,4,5,6,7,8,10]⟩])))
  (.reg [
  o1 34 (.bin .add (.t 20) (.c (.int .i64 1))),
  m1 20 34])))))))
 (sr1 [
 o1 36 (.ld (.t 5) 2 true),
 o1 37 (.addo (.t 3) 1),
 o1 38 (.ld (.t 37) 1 false),
 o1 39 (.addo (.t 3) 4),
 o1 40 (.addo (.t 39) 0),
 o1 41 (.ld (.t 40) 1 false),
 o1 42 (.call 42 [.t 36,.t 38,.c (.slice none 0 0),.t 41]),
 m1 35 42,
 o1 43 (.ext (.t 35) 0),
 o1 44 (.ext (.t 35) 1),
 o1 45 (.ext (.t 35) 2),
 o1 7 (.alloc [.int .i64 0,.int .i64 0] 27),
 ⟨none,.st (.t 7) (.t 43) 2,none,[]⟩,
 m1 8 44,
 m1 9 45]
 (sr1 [
 o1 46 (.addo (.t 7) 0),
 o1 47 (.ld (.t 46) 1 false),
 m1 4 47]
 .ret))))))
def Zyd:List RV:=[.tmp 4]
theorem tw113:Qt1 Tryz.prog 113 ZyO Zyd 48:=Z8 Tryz.func113 rfl (by kernel_rfl) (by kernel_rfl) (by kernel_rfl) (by kernel_rfl)
end Go.Proofs.YtiigiflofnjilaaGreat
namespace Go.Azalai
open Go.Sx
def Zim (ws:List Well) (ys:List Span):List Well:=List.zipWith (fun w y=>{ w with yld:=y }) ws ys
def X6 (s:Season) (x:Scene):Land:=⟨Zim s.land.wells x.yields,s.land.legs⟩
def UE (ws Z:List Well) (k:Nat):List Well:=Z.take k ++ ws.drop k
theorem VL {ws:List Well} {ys:List Span} (h:ys.length=ws.length):(Zim ws ys).length=ws.length:=by simp [Zim,h]
theorem Zef {ws Z:List Well} {k:Nat} (h:Z.length=ws.length) (hk:k<=ws.length):(UE ws Z k).length=ws.length:=by simp [UE];omega
theorem ZdS {ws Z:List Well} {k:Nat} (h:Z.length=ws.length) (hk:k < ws.length) (hk':k < (UE ws Z k).length):(UE ws Z k)[k]=ws[k]:=by
 simp only [UE]
 rw [List.getElem_append_right (by simp;omega)]
 simp [Nat.min_eq_left (Nat.le_of_lt (h ▸ hk:k < Z.length))]
theorem Zmo {ws Z:List Well} {k:Nat} (h:Z.length=ws.length) (hk:k < ws.length) (hz:k < Z.length):(UE ws Z k).set k Z[k]=UE ws Z (k+1):=by
 simp only [UE]
 rw [List.set_append_right _ _ (by simp;omega)]
 have h1:(Z.take k).length=k:=by simp;omega
 rw [h1,Nat.sub_self,List.drop_eq_getElem_cons hk,List.set_cons_zero,List.take_succ_eq_append_getElem hz,List.append_assoc]
 rfl
theorem Zds {ws:List Well} {ys:List Span} {k:Nat} (h1:k < ws.length) (h2:k < ys.length) (h:k < (Zim ws ys).length):(Zim ws ys)[k]={ ws[k] with yld:=ys[k] }:=by simp [Zim]
def ZaY (s:Season) (x:Scene) (st:Stop):Int:=(X1 (X6 s x) st.well [] st.arrives.lo).1.lo
end Go.Azalai
namespace Go.Proofs.YtiigiflofnjilaaGreat
open Go Go.Sx Go.Azalai
theorem ZeT {s:Season} {x:Scene} (h:Vl s.land) (hx:x.yields.length=s.land.wells.length):Vl (X6 s x):=by
 refine ⟨?_,h.2.1,h.2.2⟩
 simp only [X6];rw [VL hx];exact h.1
theorem Zkq (l:List Well) (hL:l.length<=1000) (k:Bool):CtM Tryz.prog 155 [] 0 [.sl k 9 (l.map Zg)] (fun o=>o=⟨false,.mr 0 0,[(0,.row 0 9 (l.map Zg) 88)],1⟩):=by
 refine mw155 (by simp [hpb]) (fun o ho=>by subst ho;simp [KX,KXL,KXP,KXH,Za,KFL,KF,Zg]) ?_
 dsimp only [Zui,ZtI,go_sem,rA,rM,rS]
 intro b hb
 dsimp only [go_sem,rA,rM,rS]
 cases b with
 | true =>
  have hl:l=[]:=by simpa using hb rfl
  subst hl
  refine Zv rfl ?_
  dsimp only [go_sem,rA,rM,rS]
  refine ⟨_,rfl,?_⟩
  refine Uc (YF (Y5 0 9 88 rfl rfl) ?_) (fun _ _ _ e=>by cases e)
  (refine Zl ?_ ?_ ?_ rfl rfl<;>dsimp only [Zg,id,go_sem,rA,rM,rS]<;>simp [Zg,Za,Ze,KFR,KFL,KF,Zc,mtO,nbr])
 | false =>
  refine Zw rfl ?_
  dsimp only [go_sem,rA,rM,rS]
  refine ⟨by simp;omega,?_⟩
  dsimp only [go_sem,rA,rM,rS]
  refine ⟨_,rfl,?_⟩
  (refine Z1 ?_ ?_ ?_ rfl<;>dsimp only [Zg,id,go_sem,rA,rM,rS]<;>simp [Zg,Za,Ze,KFR,KFL,KF,Zc,mtO,nbr])
theorem Zsv (s:Season) (hs:SmallS s) (k:Nat) (hk:k < s.scenes.length) (hy:s.scenes[k].yields.length=s.land.wells.length) (st:Stop):Ct Tryz.prog 113 [.agg (Yv s k),.agg (ZT st)] (I (ZaY s s.scenes[k] st)):=by
 have hw:=hs.land.1
 refine tw113.1 (by simp [Yv,ZT,Zj,Zg,Zm,Zh,Zd,Zo,Za,KFL,KF]) (by simp [KFL,KF]) ?_
 dsimp only [ZyO,Zyd,Yv,ZT,go_sem,rA,rM,rS]
 refine ZbK [] (Zkq s.land.wells hw false) rfl rfl rfl ?_ ?_ ?_
 . exact Zc (by simp [Za,Zg,KFL,KF])
 . trivial
 dsimp only [go_sem,rA,rM,rS]
 simp only [List.length_map]
 have hz:=VL hy
 refine WH [2,3,4,5,19,20] rfl (fun q:Nat=>[(20,I q)]) (fun q=>[(3,.row 0 9 ((UE s.land.wells (Zim s.land.wells s.scenes[k].yields) q).map Zg) 88)])
  (fun q=>q<=s.land.wells.length) (fun q=>s.land.wells.length - q) 0 (Nat.zero_le _) ?_ ?_
 . (refine Zl ?_ ?_ ?_ rfl rfl<;>dsimp only [Zg,Zm,Zh,Zj,Zd,Zo,UE,id,go_sem,rA,rM,rS]<;>simp [Zg,Zm,Zh,Zj,Zd,Zo,UE,Za,Ze,KFR,KFL,KF,Zc,mtO,nbr])
 intro q hq
 dsimp only [go_sem,rA,rM,rS]
 by_cases hlt:q < s.land.wells.length
 . refine Zv (by simpa using hlt) ?_
   dsimp only [go_sem,rA,rM,rS]
   refine call (Zlo s k hk) ?_
   dsimp only [Zj,go_sem,rA,rM,rS]
   refine Zp q (by omega) rfl ?_
   dsimp only [Zd,go_sem,rA,rM,rS]
   refine ZdN q rfl (by simp [Zef hz hq];omega) ?_
   dsimp only [go_sem,rA,rM,rS]
   have hq2:q < (UE s.land.wells (Zim s.land.wells s.scenes[k].yields) q).length:=by rw [Zef hz hq];exact hlt
   have hq3:q < (Zim s.land.wells s.scenes[k].yields).length:=by omega
   refine Zxc ((Zim s.land.wells s.scenes[k].yields)[q]) hq2 (by rw [ZdS hz hlt];simp [Zg]) (by rw [ZdS hz hlt,Zds hlt (by omega)];simp [Zg,Zy]) ?_
   rw [Zmo hz hlt hq3]
   dsimp only [go_sem,rA,rM,rS]
   rw [Zf (n:=(q:Int)+1) (by omega) (by omega)]
   refine ⟨q+1,by omega,by omega,?_⟩
   (refine Zl ?_ ?_ ?_ rfl rfl<;>dsimp only [Zg,Zm,Zh,Zj,Zd,Zo,id,go_sem,rA,rM,rS]<;>simp [Zg,Zm,Zh,Zj,Zd,Zo,Za,Ze,KFR,KFL,KF,Zc,mtO,nbr])
 refine Zw (by simp;omega) ?_
 dsimp only [go_sem,rA,rM,rS]
 have hq':UE s.land.wells (Zim s.land.wells s.scenes[k].yields) q=Zim s.land.wells s.scenes[k].yields:=by
  simp only [UE];rw [List.take_of_length_le (by omega),List.drop_eq_nil_of_le (by omega),List.append_nil]
 rw [hq']
 have hwa:=(ZnN (X6 s s.scenes[k]) (ZeT hs.land hy) st.well st.arrives.lo [] (by simp)).args (args0:=[.agg (Yo (X6 s s.scenes[k])),I st.well,.v (.slice none 0 0),I st.arrives.lo]) (by simp [Yo,Zg,Zm,Zh,Za,KFL,KF]) (Z3 (fun _ _ _ _ _ h=>h) (Z3 (fun _ _ _ _ _ h=>h) (Z3 YV Wg)))
 refine ZeE (by simp [FLT,ZxM,ZqE,Zd]) (res:=ZqE (X1 (X6 s s.scenes[k]) st.well [] st.arrives.lo)) ?_ ?_
 . dsimp only [go_sem,rA,rM,rS]
   exact hwa
 dsimp only [ZqE,Zd,go_sem,rA,rM,rS]
 rfl
end Go.Proofs.YtiigiflofnjilaaGreat
namespace Go.Sx
open Go Go.RowKit
theorem VT {l l':List SV} (h:∀ (w:World) (E:Env) (n ok:Nat->Prop) (ys:List Value),RL w E n ok l ys->RL w E n ok l' ys):Xh (.agg l) (.agg l'):=fun w E n ok y hy=>by
 simp only [R] at hy ⊢
 obtain ⟨cs,h1,h2⟩:=hy
 exact ⟨cs,h1,h _ _ _ _ _ h2⟩
end Go.Sx
namespace Go.Azalai
open Go.Sx
def Zag (b:Breed) (c:Camel):Camel:={ c with water:=⟨b.full,b.full⟩ }
def goG (s:Season) (x:Scene) (slabs:Int):List Stop->Nat->Camel->List (Int × Int)->Int × Int × List (Int × Int)
 | [],_,_,acc=>(0,0,acc)
 | st :: r,i,c,acc =>
  if (Xl s x (XL s.land st.leg s.pace).1 slabs c).2≠0 then ((Xl s x (XL s.land st.leg s.pace).1 slabs c).2,i,acc)
  else goG s x slabs r (i+1) (Zag s.breed (Xl s x (XL s.land st.leg s.pace).1 slabs c).1)
   (if r=[] then acc else acc ++ [(s.breed.full - (Xl s x (XL s.land st.leg s.pace).1 slabs c).1.water.lo,ZaY s x st)])
def goF (s:Season) (x:Scene) (slabs:Int) (l:List Stop):Int × Int × List (Int × Int) :=
 if l=[] then (if slabs * s.slab > (ZeX s.breed s.camel).lo then 2 else 0,0,[]) else goG s x slabs l 0 s.camel []
theorem Ze3 {lo hi:Int} {a b:Span} (ha:Z6 lo hi a=true) (hb:Z6 lo hi b=true):Z6 lo hi (ZfS a b)=true:=by
 simp only [Z6,decide_eq_true_eq] at ha hb
 show decide (lo<=min a.lo b.lo/\min a.lo b.lo<=max a.hi b.hi/\max a.hi b.hi<=hi)=true
 rw [decide_eq_true_eq];omega
theorem Zb2 {b:Breed} {c:Camel} {m:March} (hb:Zx b=true) (hc:Zu b c=true) (he:(Yb b c m).2.2=0):Zu b (Yb b c m).1=true:=by
 unfold Yb at he ⊢
 rw [if_neg (by rw [Go.Proofs.YtiigiflofnjilaaGreat.Cm.errC_0.2 ⟨hb,hc⟩];simp)] at he ⊢
 split
 . rename_i h;rw [if_pos h] at he;simp at he
 . rename_i h
   rw [if_neg h] at he
   split
   . rename_i h2;rw [if_pos h2] at he;simp at he
   . rename_i h2
     exact Go.Azalai.after_ok hb hc (by simpa using h) h2
theorem ZdH {b:Breed} (hb:Zx b=true):Zu b Xk=true:=by
 have:=Go.Proofs.YtiigiflofnjilaaGreat.Cm.breed_bd hb
 simp [Zu,Xk,Z6];omega
theorem ZeL {b:Breed} {m:March} {lo:Int} (hb:Zx b=true):∀ {j n:Nat} {c out:Camel},Zu b c=true->Zu b out=true->Zu b (Wd b m lo j n c out).1=true
 | 0,_,_,_,_,ho=>ho
 | j+1,n,c,out,hc,ho=>by
  simp only [Wd]
  split
  . exact ZdH hb
  split
  . exact ZdH hb
  rename_i h1 h2
  have ha:=Zb2 (m:=m) hb hc (by omega)
  refine ZeL hb ha ?_
  split
  . exact ha
  split
  . simp only [Zu,Bool.and_eq_true] at ha ho ⊢
    exact ⟨⟨Ze3 ho.1.1 ha.1.1,Ze3 ho.1.2 ha.1.2⟩,Ze3 ho.2 ha.2⟩
  . exact ho
theorem Zch {s:Season} {x:Scene} {d:Span} {slabs:Int} {c:Camel} (hb:Zx s.breed=true) (hc:Zu s.breed c=true):Zu s.breed (Xl s x d slabs c).1=true:=ZeL hb hc (ZdH hb)
theorem ZaV {b:Breed} {c:Camel} (hb:Zx b=true) (hc:Zu b c=true):Zu b (Zag b c)=true:=by
 have:=Go.Proofs.YtiigiflofnjilaaGreat.Cm.breed_bd hb
 simp only [Zu,Zag,Bool.and_eq_true] at hc ⊢
 exact ⟨⟨by simp only [Z6,decide_eq_true_eq];omega,hc.1.2⟩,hc.2⟩
theorem ZpN {l:Land} {p:Span} {leg:Int} (hg:OkLP l p):(XL l leg p).1.hi<=1000000000:=by
 unfold XL
 split
 . simp
 split
 . simp
 split
 . rename_i x hx
   have:=Go.Azalai.day_bd (hg.leg hx) hg.pace
   simp only;omega
 . simp
theorem Zdk {b:Breed} {c:Camel} (hb:Zx b=true) (hc:Zu b c=true):0<=c.water.lo/\c.water.lo<=b.full/\1<=b.full/\b.full<=1000000:=by
 have h1:=Go.Proofs.YtiigiflofnjilaaGreat.Cm.breed_bd hb
 have h2:=Go.Proofs.YtiigiflofnjilaaGreat.Cm.camel_bd hb hc
 omega
end Go.Azalai
namespace Go.Proofs.YtiigiflofnjilaaGreat
open Go Go.Sx Go.Azalai
theorem Zxm (s:Season) (h:OkS s) (leg:Int):Ct Tryz.prog 39 [.agg (Yo s.land),I leg,.agg (Zd s.pace)] (sres (XL s.land leg s.pace)):=ZrX s.land h.small.land leg s.pace
end Go.Proofs.YtiigiflofnjilaaGreat
namespace Go.Azalai
open Go.Sx
theorem Zgd {l:Land} {p:Span}:∀ {legs:List Int} {v a b:Int} {k k':Nat} {acc:List Stop},Wa l v legs k'=none->(goS l p v a b legs k acc).2.2=0->(goS l p v a b legs k acc).1.map Stop.leg=acc.map Stop.leg ++ legs
 | [],_,_,_,_,_,_,_,_=>by simp [goS]
 | i :: r,v,a,b,k,k',acc,h,h0=>by
  simp only [Wa] at h
  split at h
  . cases h
  rename_i hn
  obtain ⟨n,x,rfl,hk,hx,_,e⟩:=U4 hn
  simp only [goS,Int.toNat_natCast,hx] at h0 ⊢
  split
  . rename_i h1;rw [if_pos h1] at h0;simp at h0
  . rename_i h1;rw [if_neg h1] at h0
    rw [e] at h
    rw [Zgd h h0];simp
theorem ZgO {l:Land} {p:Span} {s d:Int} {legs:List Int} (h:(YU l p s d legs).2.2=0):(YU l p s d legs).1.map Stop.leg=legs:=by
 unfold YU at h ⊢
 split
 . rename_i h1;rw [if_pos h1] at h;exact absurd h h1
 rename_i h1
 rw [if_neg h1] at h
 split
 . rename_i h2;rw [if_pos h2] at h;simp at h
 rename_i h2
 rw [if_neg h2] at h
 split
 . rename_i h3;rw [if_pos h3] at h;simp at h
 rename_i h3
 rw [if_neg h3] at h
 split
 . rename_i h4;rw [h4] at h;simp at h
 rename_i h4
 rw [h4] at h
 rw [Zgd h4 h];simp
theorem Zhj {s:Season} {legs:List Int} (h:W7 s legs=true):(ZJ s legs).map Stop.leg=legs:=by
 simp only [W7,Bool.and_eq_true,decide_eq_true_eq] at h
 exact ZgO h.1
def UW (n:Int):List (Int × Int)->Nat->Option Nat
 | [],_=>none
 | p :: r,i=>if n * p.1 > p.2 then some i else UW n r (i+1)
def ZaD (n:Int) (g:Int × Int × List (Int × Int)):Int × Int :=
 match UW n g.2.2 0 with
 | some i=>(4,i)
 | none=>(g.1,g.2.1)
def XI (s:Season) (p:Plan) (x:Scene):Int × Int :=
 if W7 s p.legs=false then (1,0) else if p.animals=0 then (0,0) else ZaD p.animals (goF s x p.slabs (ZJ s p.legs))
def Wk (s:Season) (p:Plan):List Scene->Nat->Int × Int × Int × Int
 | [],_=>(0,0,0,0)
 | x :: r,i=>if (XI s p x).1≠0 then ((XI s p x).1,i,(XI s p x).2,0) else Wk s p r (i+1)
def Yr (s:Season) (p:Plan):Int × Int × Int × Int :=
 if ZA s=false then (0,0,0,90) else if Xs s p=false then (0,0,0,91) else Wk s p s.scenes 0
theorem Zkk {s:Season} {x:Scene} {slabs:Int} (hb:Zx s.breed=true):∀ {l:List Stop} {i:Nat} {c:Camel} {acc:List (Int × Int)},Zu s.breed c=true->(∀ q ∈ acc,0<=q.1/\q.1<=1000000) ->
 (∀ q ∈ (goG s x slabs l i c acc).2.2,0<=q.1/\q.1<=1000000)/\(goG s x slabs l i c acc).2.2.length<=acc.length+l.length
 | [],_,_,acc,_,ha=>⟨ha,by simp [goG]⟩
 | st :: r,i,c,acc,hc,ha=>by
  simp only [goG]
  split
  . exact ⟨ha,by simp only;omega⟩
  have hbo:=Zch (x:=x) (d:=(XL s.land st.leg s.pace).1) (slabs:=slabs) hb hc
  have hw:=Zdk hb hbo
  split
  . obtain ⟨h1,h2⟩:=Zkk (s:=s) (x:=x) (slabs:=slabs) hb (l:=r) (i:=i+1) (acc:=acc) (ZaV hb hbo) ha
    exact ⟨h1,by simp only [List.length_cons];omega⟩
  . obtain ⟨h1,h2⟩:=Zkk (s:=s) (x:=x) (slabs:=slabs) hb (l:=r) (i:=i+1) (acc:=acc ++ [(s.breed.full - (Xl s x (XL s.land st.leg s.pace).1 slabs c).1.water.lo,ZaY s x st)]) (ZaV hb hbo) (fun q hq=>by
     rcases List.mem_append.1 hq with hq | hq
     . exact ha q hq
     . simp only [List.mem_singleton] at hq;subst hq;simp only;omega)
    exact ⟨h1,by simp only [List.length_cons,List.length_append,List.length_nil] at h2 ⊢;omega⟩
theorem Zzd {s:Season} {x:Scene} {slabs:Int} {l:List Stop} (hb:Zx s.breed=true) (hc:Zu s.breed s.camel=true):(∀ q ∈ (goF s x slabs l).2.2,0<=q.1/\q.1<=1000000)/\(goF s x slabs l).2.2.length<=l.length:=by
 unfold goF
 split
 . simp
 . obtain ⟨h1,h2⟩:=Zkk (x:=x) (slabs:=slabs) hb (l:=l) (i:=0) (acc:=[]) hc (by simp)
   exact ⟨h1,by simpa using h2⟩
end Go.Azalai
namespace Go.Proofs.YtiigiflofnjilaaGreat
open Go Go.Sx Go.Azalai
theorem VB {s:Season} {p:Plan} (h:Xs s p=true):(∃ v,YH s.land s.start [s.start] p.legs=some v)/\0<=p.animals/\p.animals<=s.herd/\0<=p.slabs/\p.slabs<=12:=by
 simp only [Xs,inR,Bool.and_eq_true,decide_eq_true_eq,Option.isSome_iff_exists] at h
 exact ⟨h.1.1,by omega⟩
def Zcu (r:Int × Int × Int × Int):SV:=.tup [U8 r.1,I r.2.1,I r.2.2.1,I r.2.2.2]
end Go.Proofs.YtiigiflofnjilaaGreat
namespace Go.Azalai
open Go.Sx
def Zb4 (n:Int) (st:Stop) (p:Int × Int):Draw:=⟨st.well,st.arrives.lo,n * p.1⟩
def VD (n:Int) (l:List Stop) (g:List (Int × Int)):List Draw:=List.zipWith (Zb4 n) l g
def XY (s:Season) (x:Scene) (n slabs:Int) (l:List Stop):List Draw :=
 if l=[] then [] else if n=0 then l.dropLast.map fun st=>⟨st.well,st.arrives.lo,0⟩ else VD n l (goF s x slabs l).2.2
def ZhD (s:Season) (x:Scene) (n slabs:Int) (l:List Stop):Int × Int:=if n=0 then (0,0) else ZaD n (goF s x slabs l)
theorem ZdA {s:Season} {x:Scene} {slabs:Int}:∀ {l:List Stop} {i:Nat} {c:Camel} {acc:List (Int × Int)},∃ more,(goG s x slabs l i c acc).2.2=acc ++ more
 | [],_,_,acc=>⟨[],by simp [goG]⟩
 | st :: r,i,c,acc=>by
  simp only [goG]
  split
  . exact ⟨[],by simp⟩
  split
  . exact ZdA
  . obtain ⟨m,hm⟩:=ZdA (s:=s) (x:=x) (slabs:=slabs) (l:=r) (i:=i+1) (c:=Zag s.breed (Xl s x (XL s.land st.leg s.pace).1 slabs c).1) (acc:=acc ++ [(s.breed.full - (Xl s x (XL s.land st.leg s.pace).1 slabs c).1.water.lo,ZaY s x st)])
    exact ⟨_,by rw [hm,List.append_assoc]⟩
theorem Zcg {n:Int}:∀ {a b:List (Int × Int)} {i:Nat},UW n a i=none->UW n (a ++ b) i=UW n b (i+a.length)
 | [],_,_,_=>by simp
 | p :: a,b,i,h=>by
  simp only [UW] at h
  split at h
  . cases h
  rename_i hp
  simp only [List.cons_append,UW]
  rw [if_neg hp,Zcg h,List.length_cons];congr 1;omega
theorem ZfQ {n:Int} {l:List Stop} {acc:List (Int × Int)} {p:Int × Int} {j:Nat} (hj:j < l.length) (ha:acc.length=j):VD n l (acc ++ [p])=VD n l acc ++ [Zb4 n l[j] p]:=by
 simp only [VD]
 subst ha
 have h1:l=l.take acc.length ++ l.drop acc.length:=(List.take_append_drop ..).symm
 have hlen:(l.take acc.length).length=acc.length:=by simp;omega
 have e1:List.zipWith (Zb4 n) l (acc ++ [p])=List.zipWith (Zb4 n) (l.take acc.length) acc ++ List.zipWith (Zb4 n) (l.drop acc.length) [p]:=by
  rw [<- List.zipWith_append hlen,<- h1]
 have e2:List.zipWith (Zb4 n) l acc=List.zipWith (Zb4 n) (l.take acc.length) acc:=by
  have:=List.zipWith_append (f:=Zb4 n) (l₁:=l.take acc.length) (l₁':=l.drop acc.length) (l₂:=acc) (l₂':=[]) hlen
  rw [<- h1] at this;simpa using this
 rw [e1,e2,List.drop_eq_getElem_cons hj]
 simp only [List.zipWith_cons_cons,List.zipWith_nil_right]
end Go.Azalai
namespace Go.Proofs.YtiigiflofnjilaaGreat
open Go Go.Sx Go.Azalai
def ZzH (s:Season) (k:Int) (l:List Stop) (slabs:Int):Ot:=⟨false,.cl 163 [.p 0 0,.p 1 0,.p 2 0],[(0,.cells (Yv s k) 120),(1,.cells [.sl false 6 (l.map ZT)] 90),(2,.cells [I slabs] 3)],3⟩
theorem Ze8 (s:Season) (k:Int) (l:List Stop) (slabs:Int):CtM Tryz.prog 135 [] 0 [.agg (Yv s k),.sl false 6 (l.map ZT),I slabs] (fun o=>o=ZzH s k l slabs):=by
 refine m135 (by simp [hpb]) (fun o ho=>by subst ho;simp [ZzH,Yv,KX,KXL,KXP,KXH,Za,KFL,KF,Zg,Zm,Zh,Zj,Zd,Zo,ZT]) ?_
 dsimp only [c135,r135,go_sem,rA,rM,rS]
 refine ⟨_,rfl,?_⟩
 (refine Z1 ?_ ?_ ?_ rfl<;>dsimp only [ZzH,Yv,Zg,Zm,Zh,Zj,Zd,Zo,ZT,id,go_sem,rA,rM,rS]<;>simp [ZzH,Yv,Zg,Zm,Zh,Zj,Zd,Zo,ZT,Za,Ze,KFR,KFL,KF,Zc,mtO,nbr])
def V8 (w:Int × Int) (ds:List Draw):Ot:=if w.1=0 then ⟨false,.sl false 3 (ds.map Z5),[],0⟩ else XH w.1 w.2
theorem ZoM (s:Season) (h:OkS s) (k:Nat) (hk:k < s.scenes.length) (l:List Stop) (hl:l.length<=1000) (n slabs:Int) (hn:0<=n/\n<=s.herd) (hsl:0<=slabs/\slabs<=12) :
 CtM Tryz.prog 92 [] 0 [.agg (Yv s k),.sl false 6 (l.map ZT),I n,I slabs] (fun o=>o=V8 (ZhD s s.scenes[k] n slabs l) (XY s s.scenes[k] n slabs l)):=by
 have hnum:=h.num
 have hx:=h.scene _ (List.getElem_mem hk)
 have hy:s.scenes[k].yields.length=s.land.wells.length:=by simp only [Z9,Bool.and_eq_true,decide_eq_true_eq] at hx;omega
 have hb:0<=slabs * s.slab/\slabs * s.slab<=12 * 1000000:=⟨Int.mul_nonneg hsl.1 (by omega),Int.mul_le_mul hsl.2 (by omega) (by omega) (by decide)⟩
 refine m92 (by simp [hpb]) (fun o ho=>by subst ho;unfold V8;split<;>simp [XH,KX,KXL,KXP,Za,KFL,KF,Z5]) ?_
 dsimp only [c92,r92,Yv,go_sem,rA,rM,rS]
 simp only [List.length_map]
 by_cases hl0:l=[]
 . subst hl0
   refine Zv (by simp) ?_
   dsimp only [go_sem,rA,rM,rS]
   refine call (Cm.carries_ok s.breed s.camel) ?_
   dsimp only [Cm.sres,Zd,go_sem,rA,rM,rS]
   rw [show (if Zcn s.breed s.camel=0 then Zmy s.breed s.camel else ZaF)=ZeX s.breed s.camel from rfl]
   repeat (refine gb ?_;dsimp only [go_sem,rA,rM,rS])
   rw [Zf (n:=slabs * s.slab) (by omega) (by omega)]
   by_cases hok:n=0\/slabs * s.slab<=(ZeX s.breed s.camel).lo
   . rw [show (n == 0 || decide (slabs * s.slab<=(ZeX s.breed s.camel).lo))=true from by simpa using hok]
     refine YO [] (UA 2 0) rfl rfl rfl ?_ ?_ ?_
     . (repeat first | dsimp only [go_sem,rA,rM,rS] | simp only [nbr])
       try simp [mtL,mtB,mtS]
     . trivial
     rintro _ rfl
     (repeat first | dsimp only [go_sem,rA,rM,rS] | simp only [nbr])
     refine ⟨_,rfl,?_⟩
     have hw:ZhD s s.scenes[k] n slabs []=(0,0):=by
      unfold ZhD
      split
      . rfl
      . rw [goF,if_pos rfl,if_neg (by omega)];rfl
     rw [hw]
     simp only [V8,if_true,XY,List.map_nil]
     refine Uc (YF (Y5 0 3 111 rfl rfl) (YF (ZbD 0 4 0 rfl rfl rfl rfl) ?_)) (fun _ _ _ e=>by cases e)
     (refine Zl ?_ ?_ ?_ rfl rfl<;>dsimp only [id,go_sem,rA,rM,rS]<;>simp [Za,Ze,KFR,KFL,KF,Zc,mtO,nbr])
   . rw [show (n == 0 || decide (slabs * s.slab<=(ZeX s.breed s.camel).lo))=false from by simpa using hok]
     refine YO [] (Zcc 2 0) rfl rfl rfl ?_ ?_ ?_
     . (repeat first | dsimp only [go_sem,rA,rM,rS] | simp only [nbr])
       try simp [mtL,mtB,mtS]
     . trivial
     rintro _ rfl
     (repeat first | dsimp only [XH,go_sem,rA,rM,rS] | simp only [nbr])
     refine ⟨_,rfl,?_⟩
     have hw:ZhD s s.scenes[k] n slabs []=(2,0):=by
      unfold ZhD
      rw [if_neg (by omega),goF,if_pos rfl,if_pos (by omega)];rfl
     rw [hw]
     simp only [V8]
     (refine Z1 ?_ ?_ ?_ rfl<;>dsimp only [XH,id,go_sem,rA,rM,rS]<;>simp [XH,Za,Ze,KFR,KFL,KF,Zc,mtO,nbr])
 have hl1:l.length≠0:=fun e=>hl0 (List.length_eq_zero_iff.1 e)
 refine Zw (by simpa using hl0) ?_
 dsimp only [go_sem,rA,rM,rS]
 by_cases hn0:n=0
 . refine Zv (by simpa using hn0) ?_
   dsimp only [go_sem,rA,rM,rS]
   simp only [List.length_map]
   refine ⟨0,l.length - 1,⟨rfl,by rw [Zf (by omega) (by omega)];omega,by omega,by simp⟩,?_⟩
   rw [List.drop_zero,show (l.map ZT).take (l.length - 1)=l.dropLast.map ZT from by rw [List.dropLast_eq_take,List.map_take]]
   dsimp only [go_sem,rA,rM,rS]
   simp only [List.length_map]
   have hwF:ZhD s s.scenes[k] n slabs l=(0,0):=by simp only [ZhD,if_pos hn0]
   have hdF:XY s s.scenes[k] n slabs l=l.dropLast.map fun st=>⟨st.well,st.arrives.lo,0⟩:=by simp only [XY,if_neg hl0,if_pos hn0]
   have hdl:l.dropLast.length<=1000:=by simp;omega
   rw [hwF,hdF]
   generalize l.dropLast=m at hdl ⊢
   refine ZeN (YF (UD [4,5,6,8,11,49,50,51] rfl) (Um 3 0 3 111 rfl rfl)) (fun q:Nat × Nat × List Draw=>[(51,I q.1)])
    (fun q=>[(3,.cells [.mr 4 q.2.1] 54),(4,.row q.2.1 3 (q.2.2.map Z5) 111)]) (fun q=>q.1<=m.length/\q.2.2=(m.map fun st=>(⟨st.well,st.arrives.lo,0⟩:Draw)).take q.1) (fun q=>m.length - q.1) (0,0,[]) ⟨Nat.zero_le _,by simp⟩ ?_ ?_
   . (refine Zl ?_ ?_ ?_ rfl rfl<;>dsimp only [Yv,Zg,Zm,Zh,Zj,Zd,Zo,ZT,Z5,id,go_sem,rA,rM,rS]<;>simp [Yv,Zg,Zm,Zh,Zj,Zd,Zo,ZT,Z5,Za,Ze,KFR,KFL,KF,Zc,mtO,nbr])
   rintro ⟨j,v,D⟩ ⟨hj,hD⟩
   simp only at hj hD
   dsimp only [go_sem,rA,rM,rS]
   by_cases hlt:j < m.length
   . refine Zv (by simpa using hlt) ?_
     dsimp only [go_sem,rA,rM,rS]
     refine Zp j hlt rfl ?_
     dsimp only [ZT,go_sem,rA,rM,rS]
     simp only [nbr]
     dsimp only [go_sem,rA,rM,rS]
     refine ⟨(by intro c hc;simp only [List.mem_singleton] at hc;subst hc;rfl),by simp [hD];omega,?_⟩
     dsimp only [go_sem,rA,rM,rS]
     rw [Zf (n:=(j:Int)+1) (by omega) (by omega)]
     refine ⟨(j+1,v+1,D ++ [⟨m[j].well,m[j].arrives.lo,0⟩]),⟨hlt,?_⟩,by simp only;omega,?_⟩
     . simp only;rw [List.take_succ_eq_append_getElem (by simpa using hlt),<- hD,List.getElem_map]
     simp only [List.map_append,List.map_cons,List.map_nil]
     (refine Zl ?_ ?_ ?_ rfl rfl<;>dsimp only [Yv,Zg,Zm,Zh,Zj,Zd,Zo,ZT,Z5,id,go_sem,rA,rM,rS]<;>simp [Yv,Zg,Zm,Zh,Zj,Zd,Zo,ZT,Z5,Za,Ze,KFR,KFL,KF,Zc,mtO,nbr])
   refine Zw (by simp;omega) ?_
   dsimp only [go_sem,rA,rM,rS]
   rw [List.take_of_length_le (by simp;omega)] at hD
   rw [<- hD]
   refine ⟨_,rfl,?_⟩
   simp only [V8,if_true]
   refine Uc (YF (ZbD 0 4 v rfl rfl rfl rfl) ?_) (fun _ _ _ e=>by cases e)
   (refine Zl ?_ ?_ ?_ rfl rfl<;>dsimp only [Z5,id,go_sem,rA,rM,rS]<;>simp [Z5,Za,Ze,KFR,KFL,KF,Zc,mtO,nbr])
 refine Zw (by simpa using hn0) ?_
 dsimp only [go_sem,rA,rM,rS]
 refine ZbK [] (Ze8 s k l slabs) rfl rfl rfl ?_ ?_ ?_
 . exact Zc (by simp [Yv,Zg,Zm,Zh,Zj,Zd,Zo,ZT,Za,KFL,KF])
 . trivial
 dsimp only [ZzH,Yv,go_sem,rA,rM,rS]
 refine gh (Um 3 0 3 111 rfl rfl) ?_
 dsimp only [go_sem,rA,rM,rS]
 refine ⟨b163,fun rec=>?_⟩
 refine y163 ?_
 dsimp only [c163,r163,go_sem,rA,rM,rS]
 have hgF:goF s s.scenes[k] slabs l=goG s s.scenes[k] slabs l 0 s.camel []:=by simp only [goF,if_neg hl0]
 have hgs:∀ (j n:Nat) (hj:j < l.length) c acc,goG s s.scenes[k] slabs (l.drop j) n c acc=if (Xl s s.scenes[k] (XL s.land l[j].leg s.pace).1 slabs c).2≠0 then ((Xl s s.scenes[k] (XL s.land l[j].leg s.pace).1 slabs c).2,(n:Int),acc)
  else goG s s.scenes[k] slabs (l.drop (j+1)) (n+1) (Zag s.breed (Xl s s.scenes[k] (XL s.land l[j].leg s.pace).1 slabs c).1)
   (if l.drop (j+1)=[] then acc else acc ++ [(s.breed.full - (Xl s s.scenes[k] (XL s.land l[j].leg s.pace).1 slabs c).1.water.lo,ZaY s s.scenes[k] l[j])]):=fun j n hj c acc=>by
  rw [List.drop_eq_getElem_cons hj,goG]
 have hwF:ZhD s s.scenes[k] n slabs l=ZaD n (goF s s.scenes[k] slabs l):=by simp only [ZhD,if_neg hn0]
 have hdF:XY s s.scenes[k] n slabs l=VD n l (goF s s.scenes[k] slabs l).2.2:=by simp only [XY,if_neg hl0,if_neg hn0]
 rw [hwF,hdF]
 refine WH [0,1,2,3,5,13,14,15] rfl (fun q:Nat × Camel × List (Int × Int) × Nat=>[(15,I q.1)])
  (fun q=>[(9,.cells (Cm.camelL q.2.1) 31),(3,.cells [.mr 7 q.2.2.2] 54),(7,.row q.2.2.2 3 ((VD n l q.2.2.1).map Z5) 111)])
  (fun q=>q.1 < l.length/\goG s s.scenes[k] slabs (l.drop q.1) q.1 q.2.1 q.2.2.1=goF s s.scenes[k] slabs l/\Zu s.breed q.2.1=true/\UW n q.2.2.1 0=none/\q.2.2.1.length=q.1) (fun q=>l.length - q.1) (0,s.camel,[],0)
  ⟨by simp only;omega,hgF.symm,h.beast.2,rfl,rfl⟩ ?_ ?_
 . (refine Zl ?_ ?_ ?_ rfl rfl<;>dsimp only [Cm.camelL,VD,Yv,Zg,Zm,Zh,Zj,Zd,Zo,ZT,Z5,mtL,mtB,mtS,id,go_sem,rA,rM,rS]<;>simp [Cm.camelL,VD,Yv,Zg,Zm,Zh,Zj,Zd,Zo,ZT,Z5,mtL,mtB,mtS,Za,Ze,KFR,KFL,KF,Zc,mtO,nbr])
 rintro ⟨j,c,acc,v⟩ ⟨hlt,hi,hc,hdry,hal⟩
 simp only at hlt hi hc hdry hal
 dsimp only [Cm.camelL,go_sem,rA,rM,rS]
 simp only [List.length_map]
 refine Zv (by simpa using hlt) ?_
 dsimp only [go_sem,rA,rM,rS]
 refine Zp j hlt rfl ?_
 dsimp only [ZT,go_sem,rA,rM,rS]
 refine call (Zxm s h l[j].leg) ?_
 dsimp only [sres,Zd,go_sem,rA,rM,rS]
 have hm:=Zqu s k hk j c (XL s.land l[j].leg s.pace).1 slabs hsl (by omega) (ZpN h.lp)
 rw [hgs j j hlt] at hi
 have hbo:=Zch (x:=s.scenes[k]) (d:=(XL s.land l[j].leg s.pace).1) (slabs:=slabs) h.beast.1 hc
 generalize Xl s s.scenes[k] (XL s.land l[j].leg s.pace).1 slabs c=b at hi hbo hm
 have hwb:=Zdk h.beast.1 hbo
 by_cases hw:b.2=0
 case neg =>
  simp only [Za7,if_neg hw] at hm
  refine YO [] hm rfl rfl rfl ?_ ?_ ?_
  . exact Zc (by simp [Yv,Cm.camelL,Zg,Zm,Zh,Zj,Zd,Zo,ZT,Za,KFL,KF])
  . trivial
  rintro _ rfl
  (repeat first | dsimp only [XH,go_sem,rA,rM,rS] | simp only [nbr])
  rw [if_pos hw] at hi
  rw [<- hi]
  refine ⟨_,rfl,?_⟩
  rw [show ZaD n (b.2,(j:Int),acc)=(b.2,(j:Int)) from by simp only [ZaD,hdry]]
  simp only [V8,if_neg hw]
  (refine Z1 ?_ ?_ ?_ rfl<;>dsimp only [XH,id,go_sem,rA,rM,rS]<;>simp [XH,Za,Ze,KFR,KFL,KF,Zc,mtO,nbr])
 simp only [Za7,if_pos hw] at hm
 refine YO [] hm rfl rfl rfl ?_ ?_ ?_
 . exact Zc (by simp [Yv,Cm.camelL,Zg,Zm,Zh,Zj,Zd,Zo,ZT,Za,KFL,KF])
 . trivial
 rintro _ rfl
 (repeat first | dsimp only [camelL,Cm.camelL,go_sem,rA,rM,rS] | simp only [nbr])
 rw [if_neg (by simpa using hw)] at hi
 refine ⟨trivial,trivial,?_⟩
 rw [Zf (n:=(j:Int)+1) (by omega) (by omega)]
 simp only [List.length_map]
 by_cases hlast:j+1=l.length
 . refine Zv (by simp;omega) ?_
   dsimp only [go_sem,rA,rM,rS]
   refine ⟨by trivial,?_⟩
   refine Zv rfl ?_
   dsimp only [go_sem,rA,rM,rS]
   rw [if_pos (List.drop_eq_nil_of_le (by omega)),List.drop_eq_nil_of_le (by omega),goG] at hi
   rw [<- hi]
   refine ⟨_,rfl,?_⟩
   rw [show ZaD n (0,0,acc)=(0,0) from by simp only [ZaD,hdry]]
   simp only [V8,if_true]
   refine Uc (YF (ZbD 0 7 v rfl rfl rfl rfl) ?_) (fun _ _ _ e=>by cases e)
   (refine Zl ?_ ?_ ?_ rfl rfl<;>dsimp only [Z5,id,go_sem,rA,rM,rS]<;>simp [Z5,Za,Ze,KFR,KFL,KF,Zc,mtO,nbr])
 refine Zw (by simp;omega) ?_
 dsimp only [go_sem,rA,rM,rS]
 rw [if_neg (by intro e;rw [List.drop_eq_nil_iff] at e;omega)] at hi
 refine Zp j hlt rfl ?_
 dsimp only [ZT,go_sem,rA,rM,rS]
 refine Zp j hlt rfl ?_
 dsimp only [ZT,go_sem,rA,rM,rS]
 have hm2:0<=n * (s.breed.full - b.1.water.lo)/\n * (s.breed.full - b.1.water.lo)<=30 * 1000000:=⟨Int.mul_nonneg hn.1 (by omega),Int.mul_le_mul (by omega) (by omega) (by omega) (by decide)⟩
 rw [Zf (n:=s.breed.full - b.1.water.lo) (by omega) (by omega),Zf (n:=n * (s.breed.full - b.1.water.lo)) (by omega) (by omega)]
 refine Zp j hlt rfl ?_
 dsimp only [ZT,go_sem,rA,rM,rS]
 refine call (Zsv s h.small k hk hy l[j]) ?_
 dsimp only [go_sem,rA,rM,rS]
 by_cases hdr:n * (s.breed.full - b.1.water.lo)<=ZaY s s.scenes[k] l[j]
 case neg =>
  rw [show decide (n * (s.breed.full - b.1.water.lo)<=ZaY s s.scenes[k] l[j])=false from decide_eq_false hdr]
  refine YO [] (Zcc 4 j) rfl rfl rfl ?_ ?_ ?_
  . (repeat first | dsimp only [go_sem,rA,rM,rS] | simp only [nbr])
    try simp [mtL,mtB,mtS]
  . trivial
  rintro _ rfl
  (repeat first | dsimp only [XH,go_sem,rA,rM,rS] | simp only [nbr])
  refine ⟨_,rfl,?_⟩
  obtain ⟨more,hmore⟩:=ZdA (s:=s) (x:=s.scenes[k]) (slabs:=slabs) (l:=l.drop (j+1)) (i:=j+1) (c:=Zag s.breed b.1) (acc:=acc ++ [(s.breed.full - b.1.water.lo,ZaY s s.scenes[k] l[j])])
  have hf:ZaD n (goF s s.scenes[k] slabs l)=(4,(j:Int)):=by
   rw [<- hi];simp only [ZaD]
   rw [hmore,List.append_assoc,Zcg hdry,hal]
   simp only [List.cons_append,List.nil_append,UW]
   rw [if_pos (by omega)];simp
  rw [hf]
  simp only [V8]
  (refine Z1 ?_ ?_ ?_ rfl<;>dsimp only [XH,id,go_sem,rA,rM,rS]<;>simp [XH,Za,Ze,KFR,KFL,KF,Zc,mtO,nbr])
 rw [show decide (n * (s.breed.full - b.1.water.lo)<=ZaY s s.scenes[k] l[j])=true from decide_eq_true hdr]
 refine YO [] (UA 4 j) rfl rfl rfl ?_ ?_ ?_
 . (repeat first | dsimp only [go_sem,rA,rM,rS] | simp only [nbr])
   try simp [mtL,mtB,mtS]
 . trivial
 rintro _ rfl
 (repeat first | dsimp only [go_sem,rA,rM,rS] | simp only [nbr])
 refine ⟨(by intro c hc;simp only [List.mem_singleton] at hc;subst hc;rfl),by simp [VD];omega,?_⟩
 dsimp only [go_sem,rA,rM,rS]
 refine ⟨by trivial,?_⟩
 refine Zw rfl ?_
 dsimp only [go_sem,rA,rM,rS]
 rw [Zf (n:=(j:Int)+1) (by omega) (by omega)]
 refine ⟨(j+1,Zag s.breed b.1,acc ++ [(s.breed.full - b.1.water.lo,ZaY s s.scenes[k] l[j])],v+1),⟨by simp only;omega,hi,ZaV h.beast.1 hbo,?_,by simp;omega⟩,by simp only;omega,?_⟩
 . simp only
   rw [Zcg hdry]
   simp only [UW]
   rw [if_neg (by omega)]
 simp only
 rw [ZfQ hlt hal]
 simp only [List.map_append,List.map_cons,List.map_nil]
 (refine Zl ?_ ?_ ?_ rfl rfl<;>dsimp only [Cm.camelL,Zag,Zb4,Yv,Zg,Zm,Zh,Zj,Zd,Zo,ZT,Z5,mtL,mtB,mtS,id,go_sem,rA,rM,rS]<;>simp [Cm.camelL,Zag,Zb4,Yv,Zg,Zm,Zh,Zj,Zd,Zo,ZT,Z5,mtL,mtB,mtS,Za,Ze,KFR,KFL,KF,Zc,mtO,nbr])
def ZAp:List Ins:=[
 m1 2 5]
def ZAq:SC:=(sr1 [
 m1 6 2,
 o1 7 (.raw (Go.Op.binOp Go.BinOp.neq 20 (Go.Operand.tmp 6) (Go.Operand.const Go.Value.nilIface) 20) 4)]
 (.cond (.t 7)
 (sr1 [
  m1 9 2,
  o1 10 (.raw (Go.Op.typeAssert (Go.Operand.tmp 9) 20 117 Bool.true) 177),
  m1 8 10,
  o1 11 (.ext (.t 8) 0),
  o1 12 (.ext (.t 8) 1),
  o1 3 (.alloc [.int .u8 0,.int .i64 0] 117),
  ⟨none,.st (.t 3) (.t 11) 2,none,[]⟩,
  m1 4 12]
  (.seq (sr1 [
  m1 13 4,
  o1 14 (.un .not (.t 13))]
  (.cond (.t 14)
  (.reg [
   m1 15 2,
   ⟨none,.raw (Go.Op.panic (Go.Operand.tmp 15)) 0,none,[]⟩])
  .skip))
  (.regd [0,1,2] [
  .hide (.t 0),
  .op (o1 16 (.ld (.t 3) 2 true))] 0 2 [
  ⟨none,.st (.t 0) (.c (.slice none 0 0)) 1,none,[]⟩,
  ⟨none,.st (.t 1) (.t 16) 2,none,[0,1]⟩])))
 .skip))
theorem qw89:RcF Tryz.prog 89 5 ZAp ZAq 17:=⟨⟨Tryz.f89,_,_,_,_,Tryz.func89,rfl,rfl,by kernel_rfl,by kernel_rfl,by kernel_rfl,by kernel_rfl,by decide,rfl⟩,by kernel_rfl⟩
def cw14:SC:=(sr1 [
 o1 2 (.box (.t 0) 0 34),
 o1 3 (.box (.t 1) 0 37),
 o1 4 (.mv (.c (.int .u8 0))),
 o1 5 (.mv (.c (.int .i64 0))),
 o1 6 (.mv (.c (.int .i64 0))),
 o1 7 (.mv (.c (.int .i64 0)))]
 (.seq (sr1 [
 o1 12 (.ld (.t 2) 37 true),
 o1 13 (.ld (.t 3) 3 true),
 o1 14 (.call 48 [.t 12,.t 13]),
 m1 8 14]
 (sr1 [
 m1 15 8,
 o1 16 (.bin .neq (.t 15) (.c (.int .i64 0)))]
 (.cond (.t 16)
 (sr1 [
  m1 17 8,
  o1 4 (.mv (.c (.int .u8 0))),
  o1 5 (.mv (.c (.int .i64 0))),
  o1 6 (.mv (.c (.int .i64 0))),
  m1 7 17]
  .ret)
 .skip)))
 (.seq (sr1 [
 o1 18 (.addo (.t 2) 36),
 o1 19 (.ld (.t 18) 1 false),
 o1 20 (.len (.t 19)),
 o1 21 (.mv (.c (.int .i64 0)))]
 (.block 0 (.loop (sr1 [
  o1 22 (.bin .lss (.t 21) (.t 20))]
  (.seq (.cond (.t 22)
  .skip
  (.exit 0))
  (.seq (.block 1 (sr1 [
   m1 23 21,
   m1 9 23]
   (sr1 [
   o1 25 (.ld (.t 2) 37 true),
   m1 26 9,
   o1 27 (.build zv0 [(0,37,.t 25),(37,1,.t 26)]),
   o1 28 (.ld (.t 3) 3 true),
   o1 29 (.callm 49 [.t 27,.t 28]),
   m1 24 29,
   o1 30 (.ext (.t 24) 0),
   o1 31 (.ext (.t 24) 1),
   o1 11 (.alloc [.int .u8 0,.int .i64 0] 117),
   m1 10 30,
   ⟨none,.st (.t 11) (.t 31) 2,none,[]⟩]
   (sr1 [
   o1 32 (.addo (.t 11) 0),
   o1 33 (.ld (.t 32) 1 false),
   o1 34 (.bin .neq (.t 33) (.c (.int .u8 0)))]
   (.cond (.t 34)
   (.seq (.regd [0,1,2,3,4,5,6,7,8] [
    .op (o1 35 (.addo (.t 11) 0)),
    .op ⟨some 36,.ld (.t 35) 1 false,none,[0]⟩,
    .op (m1 37 9),
    .op (o1 38 (.addo (.t 11) 1)),
    .op ⟨some 39,.ld (.t 38) 1 false,none,[3]⟩,
    .op ⟨some 4,.mv (.t 36),none,[0,1]⟩,
    .op ⟨some 5,.mv (.t 37),none,[0,1,2,5]⟩,
    .op ⟨some 6,.mv (.t 39),none,[0,1,2,3,4,5,6]⟩,
    .op ⟨some 7,.mv (.c (.int .i64 0)),none,[0,1,2,3,4,5,6,7]⟩] 0 0 [
])
 .ret)
 .skip)))))
 (.reg [
 o1 40 (.bin .add (.t 21) (.c (.int .i64 1))),
 m1 21 40])))))))
 (sr1 [
 o1 4 (.mv (.c (.int .u8 0))),
 o1 5 (.mv (.c (.int .i64 0))),
 o1 6 (.mv (.c (.int .i64 0))),
 o1 7 (.mv (.c (.int .i64 0)))]
 .ret))))
def rw14:List RV:=[.tmp 4,.tmp 5,.tmp 6,.tmp 7]
theorem tw14:Qt1 Tryz.prog 14 cw14 rw14 41:=Z8 Tryz.func14 rfl (by kernel_rfl) (by kernel_rfl) (by kernel_rfl) (by kernel_rfl)
def cw22:SC:=(sr1 [
 o1 3 (.box (.t 0) 0 34),
 o1 4 (.box (.t 1) 0 37),
 o1 6 (.mv (.c (.slice none 0 0))),
 o1 7 (.mv (.c (.int .i64 0)))]
 (sr1 [
 o1 15 (.ld (.t 3) 37 true),
 o1 16 (.ld (.t 4) 3 true),
 o1 17 (.call 14 [.t 15,.t 16]),
 m1 14 17,
 o1 18 (.ext (.t 14) 0),
 o1 19 (.ext (.t 14) 1),
 o1 20 (.ext (.t 14) 2),
 o1 21 (.ext (.t 14) 3),
 m1 8 18,
 m1 9 19,
 m1 10 20,
 m1 11 21]
 (.seq (.block 0 (sr1 [
  m1 23 11,
  o1 24 (.bin .neq (.t 23) (.c (.int .i64 0))),
  m1 22 24]
  (.cond (.t 22)
  (sr1 [
   m1 25 11,
   o1 6 (.mv (.c (.slice none 0 0))),
   m1 7 25]
   .ret)
  (sr1 [
   m1 27 8,
   o1 28 (.bin .neq (.t 27) (.c (.int .u8 0))),
   m1 29 28,
   ⟨some 30,.addo (.t 3) 36,some (29,false),[]⟩,
   ⟨some 31,.ld (.t 30) 1 false,some (29,false),[]⟩,
   ⟨some 32,.len (.t 31),some (29,false),[]⟩,
   ⟨some 33,.bin .sub (.t 32) (.c (.int .i64 1)),some (29,false),[]⟩,
   ⟨some 34,.mv (.t 2),some (29,false),[]⟩,
   ⟨some 35,.bsl 1 3 [.t 34],some (29,false),[]⟩,
   ⟨some 36,.call 53 [.c (.int .i64 0),.t 33,.t 35],some (29,false),[]⟩,
   ⟨some 37,.un .not (.t 36),some (29,false),[]⟩,
   o1 38 (.pick (.t 29) (.c (.bool true)) (.t 37)),
   m1 26 38]
   (.cond (.t 26)
   (sr1 [
    o1 6 (.mv (.c (.slice none 0 0))),
    o1 7 (.mv (.c (.int .i64 92)))]
    .ret)
   .skip)))))
 (sr1 [
 o1 40 (.ld (.t 3) 37 true),
 m1 41 2,
 o1 42 (.build zv0 [(0,37,.t 40),(37,1,.t 41)]),
 o1 43 (.ld (.t 4) 3 true),
 o1 44 (.callm 49 [.t 42,.t 43]),
 m1 39 44,
 o1 45 (.ext (.t 39) 0),
 o1 46 (.ext (.t 39) 1),
 o1 13 (.alloc [.int .u8 0,.int .i64 0] 117),
 m1 12 45,
 ⟨none,.st (.t 13) (.t 46) 2,none,[]⟩]
 (sr1 [
 m1 47 12,
 m1 6 47,
 o1 7 (.mv (.c (.int .i64 0)))]
 .ret)))))
def rw22:List RV:=[.tmp 6,.tmp 7]
theorem nw22:Tryz.f22.ntmps=48:=by kernel_rfl
theorem bw22:YP Tryz.prog 22=true:=by kernel_rfl
theorem Zvf:XK Tryz.prog cw22 ((Tryz.f22.body).getD .skip)=true:=by kernel_rfl
theorem Ztk:Wx Tryz.prog rw22 Tryz.f22.results.toList=true:=by kernel_rfl
def cw66:SC:=(sr1 [
 o1 3 (.box (.t 0) 0 34),
 o1 6 (.mv (.c (.int .i64 0)))]
 (sr1 [
 o1 14 (.addo (.t 3) 28),
 o1 15 (.ld (.t 14) 1 false),
 m1 7 15]
 (.seq (sr1 [
 o1 16 (.addo (.t 3) 36),
 o1 17 (.ld (.t 16) 1 false),
 o1 18 (.len (.t 17)),
 o1 19 (.mv (.c (.int .i64 0)))]
 (.block 0 (.loop (sr1 [
  o1 20 (.bin .lss (.t 19) (.t 18))]
  (.seq (.cond (.t 20)
  .skip
  (.exit 0))
  (.seq (.block 1 (sr1 [
   m1 21 19,
   m1 8 21]
   (sr1 [
   o1 22 (.ld (.t 3) 37 true),
   m1 23 8,
   o1 24 (.build zv0 [(0,37,.t 22),(37,1,.t 23)]),
   o1 9 (.alloc zv0 120),
   ⟨none,.st (.t 9) (.t 24) 38,none,[]⟩]
   (sr1 [
   o1 26 (.ld (.t 9) 38 true),
   m1 27 1,
   m1 28 2,
   o1 29 (.build [.slice none 0 0,.int .i64 0,.int .i64 0] [(0,1,.t 27),(1,1,.c (.int .i64 1)),(2,1,.t 28)]),
   o1 30 (.callm 49 [.t 26,.t 29]),
   m1 25 30,
   o1 31 (.ext (.t 25) 0),
   o1 32 (.ext (.t 25) 1),
   o1 11 (.alloc [.int .u8 0,.int .i64 0] 117),
   m1 10 31,
   ⟨none,.st (.t 11) (.t 32) 2,none,[]⟩]
   (.seq (sr1 [
   o1 33 (.addo (.t 11) 0),
   o1 34 (.ld (.t 33) 1 false),
   o1 35 (.bin .neq (.t 34) (.c (.int .u8 0)))]
   (.cond (.t 35)
   (sr1 [
    o1 6 (.mv (.c (.int .i64 0)))]
    .ret)
   .skip))
   (sr1 [
   m1 36 10,
   o1 37 (.len (.t 36)),
   o1 38 (.mv (.c (.int .i64 0)))]
   (.block 2 (.loop (sr1 [
    o1 39 (.bin .lss (.t 38) (.t 37))]
    (.seq (.cond (.t 39)
    .skip
    (.exit 2))
    (.seq (.block 3 (sr1 [
     o1 40 (.ixs (.t 36) (.t 38) 3),
     o1 41 (.ld (.t 40) 3 true),
     o1 13 (.alloc [.int .i64 0,.int .i64 0,.int .i64 0] 111),
     ⟨none,.st (.t 13) (.t 41) 3,none,[]⟩]
     (sr1 [
     o1 42 (.addo (.t 13) 2),
     o1 43 (.ld (.t 42) 1 false),
     o1 44 (.bin .gtr (.t 43) (.c (.int .i64 0)))]
     (.cond (.t 44)
     (.regd [0,1,2,3,4,5,6,7,8,9,10,11,12,13] [
      .op (m1 45 7),
      .op (o1 46 (.ld (.t 9) 38 true)),
      .op (o1 47 (.addo (.t 13) 0)),
      .op ⟨some 48,.ld (.t 47) 1 false,none,[2]⟩,
      .op (o1 49 (.addo (.t 13) 1)),
      .op ⟨some 50,.ld (.t 49) 1 false,none,[4]⟩,
      .op ⟨some 51,.build [.int .i64 0,.int .i64 0] [(0,1,.t 50)],none,[5]⟩,
      .op ⟨some 52,.build zv8 [(1,1,.t 48),(4,2,.t 51)],none,[3,6]⟩,
      .op ⟨some 53,.call 113 [.t 46,.t 52],none,[1,7]⟩,
      .op (o1 54 (.addo (.t 13) 2)),
      .op ⟨some 55,.ld (.t 54) 1 false,none,[9]⟩,
      .op ⟨some 56,.div .quo (.t 53) (.t 55),none,[8,10]⟩,
      .op ⟨some 57,.mm false [.t 45,.t 56],none,[0,11]⟩] 0 0 [
      ⟨some 7,.mv (.t 57),none,[0,1,2,3,4,5,6,7,8,9,10,11,12]⟩])
     .skip))))
    (.reg [
    o1 58 (.bin .add (.t 38) (.c (.int .i64 1))),
    m1 38 58]))))))))))))
  (.reg [
  o1 59 (.bin .add (.t 19) (.c (.int .i64 1))),
  m1 19 59])))))))
 (sr1 [
 m1 60 7,
 m1 6 60]
 .ret))))
def rw66:List RV:=[.tmp 6]
theorem tw66:Qt1 Tryz.prog 66 cw66 rw66 61:=Z8 Tryz.func66 rfl (by kernel_rfl) (by kernel_rfl) (by kernel_rfl) (by kernel_rfl)
end Go.Proofs.YtiigiflofnjilaaGreat
namespace Go.Sx
open Go Go.RowKit
section
variable {P:Program} {ty T T':TypeId} {ix jx:Operand} {σ : St} {r:KT} {K:RK} {d:Option Nat} {s:SV}
theorem ZfX {pt:TypeId} (hu:P.underlying T'=some (.interface (P.methodsAt T'))) (hi:Zbv σ ix = .ifc T s) (h:YA d (.v (.bool true)) none σ r K):RAW P d (.binOp .neq T' ix (.const .nilIface) pt) ty σ r K:=by
 intro o C E a w next Q e1 e2 e3 hS hn hq
 have hiv:=V0 hS hi (fun _ _ _=>by simp)
 simp only [R] at hiv
 obtain ⟨x,hx,hR⟩:=hiv
 have hb:=run_neq_held_nil (P:=P) w T' T x hu
 have hy:(execOp a.eval o).run P w = .ok (.value (.bool true)) w:=by
  obtain ⟨dst',op',ty',pos,after,guard⟩:=o
  simp only at e2;subst e2
  have h0:a.eval (.const .nilIface) = .nilIface:=rfl
  have hg:(eqGuard .neq T' ix (.const .nilIface) (.iface T x) .nilIface).run P w = .ok () w:=by
   simp [eqGuard,Sem.run_pure]
  simp only [execOp,Sem.run_bind,hx,h0,hg,hb,Result.andThen_ok,Sem.run_pure]
 refine ZE hy (by simp) ?_
 show next (a.put o.dst _) _
 rw [e1]
 exact Vf h hS (by simp only [R]) hn
theorem ZlT {pt:TypeId} (hu:P.underlying T'=some (.interface (P.methodsAt T'))) (hi:Zbv σ ix = .v .nilIface) (h:YA d (.v (.bool false)) none σ r K):RAW P d (.binOp .neq T' ix (.const .nilIface) pt) ty σ r K:=by
 intro o C E a w next Q e1 e2 e3 hS hn hq
 have hx:=V0 hS hi (fun _ _ _=>by simp)
 simp only [R] at hx
 have hb:=run_neq_nil_nil (P:=P) w T' hu
 have hy:(execOp a.eval o).run P w = .ok (.value (.bool false)) w:=by
  obtain ⟨dst',op',ty',pos,after,guard⟩:=o
  simp only at e2;subst e2
  have h0:a.eval (.const .nilIface) = .nilIface:=rfl
  have hg:(eqGuard .neq T' ix (.const .nilIface) .nilIface .nilIface).run P w = .ok () w:=by
   simp [eqGuard,Sem.run_pure]
  simp only [execOp,Sem.run_bind,hx,h0,hg,hb,Result.andThen_ok,Sem.run_pure]
 refine ZE hy (by simp) ?_
 show next (a.put o.dst _) _
 rw [e1]
 exact Vf h hS (by simp only [R]) hn
end
end Go.Sx
namespace Go.Proofs.YtiigiflofnjilaaGreat
open Go Go.Sx Go.Azalai
theorem ZzE {s:Season} {x:Scene} {slabs:Int}:∀ {l:List Stop} {i:Nat} {c:Camel} {acc:List (Int × Int)},(goG s x slabs l i c acc).1=0->((goG s x slabs l i c acc).1,(goG s x slabs l i c acc).2.1)=(0,0)
 | [],_,_,acc,_=>by simp [goG]
 | st :: r,i,c,acc,h=>by
  simp only [goG] at h ⊢
  split
  . rename_i hb;rw [if_pos hb] at h;exact absurd h hb
  . rename_i hb;rw [if_neg hb] at h
    exact ZzE h
theorem goF_z {s:Season} {x:Scene} {slabs:Int} {l:List Stop} (h:(goF s x slabs l).1=0):((goF s x slabs l).1,(goF s x slabs l).2.1)=(0,0):=by
 unfold goF at h ⊢
 split
 . rename_i hb;rw [if_pos hb] at h;simp only at h ⊢;rw [h]
 . rename_i hb;rw [if_neg hb] at h;exact ZzE h
theorem u20:Tryz.prog.underlying 20=some (.interface (Tryz.prog.methodsAt 20)):=by kernel_rfl
theorem Zd8 {s:Season} {p:Plan} {x:Scene}:XI s p x=if W7 s p.legs=false then (1,0) else ZhD s x p.animals p.slabs (ZJ s p.legs):=by
 unfold XI ZhD;rfl
def WE (s:Season) (p:Plan) (x:Scene):List Draw:=if (XI s p x).1=0 then XY s x p.animals p.slabs (ZJ s p.legs) else []
def Zsa (w:Int × Int) (ds:List Draw):Ot:=⟨false,.tup [.sl false 3 (ds.map Z5),.agg [U8 w.1,I w.2]],[],0⟩
theorem Zmr (s:Season) (h:OkS s) (k:Nat) (hk:k < s.scenes.length) (p:Plan) (hp:Xs s p=true) (hg:p.legs.length<=1000) :
 CtM Tryz.prog 49 [] 0 [.agg (Yv s k),.agg (ZC p)] (fun o=>o=Zsa (XI s p s.scenes[k]) (WE s p s.scenes[k])):=by
 have hnum:=h.num
 obtain ⟨_,hpl⟩:=VB hp
 refine m49 (by simp [hpb]) (fun o ho=>by subst ho;simp [Zsa,KX,KXL,KXP,Za,KFL,KF,Z5]) ?_
 dsimp only [c49,r49,Yv,ZC,go_sem,rA,rM,rS]
 refine call (Zoc s h p.legs hg _) ?_
 dsimp only [go_sem,rA,rM,rS]
 by_cases hs:W7 s p.legs=true
 case neg =>
  rw [Bool.eq_false_iff.2 hs]
  refine YO [] (Zcc 1 0) rfl rfl rfl ?_ ?_ ?_
  . (repeat first | dsimp only [go_sem,rA,rM,rS] | simp only [nbr])
    try simp [mtL,mtB,mtS]
  . trivial
  rintro _ rfl
  (repeat first | dsimp only [XH,go_sem,rA,rM,rS] | simp only [nbr])
  refine ⟨_,_,_,_,qw89,?_⟩
  dsimp only [ZAp,ZAq,go_sem,rA,rM,rS]
  refine ⟨rfl,?_⟩
  refine ZfX u20 rfl ?_
  dsimp only [go_sem,rA,rM,rS]
  refine Zv rfl ?_
  dsimp only [go_sem,rA,rM,rS]
  refine Zbi ZdJ rfl ?_
  dsimp only [go_sem,rA,rM,rS]
  refine Zw rfl ?_
  dsimp only [go_sem,rA,rM,rS]
  refine ⟨_,rfl,?_⟩
  have hF:XI s p s.scenes[k]=(1,0):=by rw [Zd8,if_pos (Bool.eq_false_iff.2 hs)]
  rw [Zsa,WE,hF]
  refine Uc (YF (Za6 (s':=.tup [.sl false 3 [],.agg [U8 1,I 0]]) 0 rfl (Wi (Z3 YV Wg)) (fun _ _ _ h=>by cases h)) ?_) (fun _ _ _ e=>by cases e)
  (refine Zl ?_ ?_ ?_ rfl rfl<;>dsimp only [id,go_sem,rA,rM,rS]<;>simp [Za,Ze,KFR,KFL,KF,Zc,mtO,nbr])
 rw [hs]
 refine YO [] (UA 1 0) rfl rfl rfl ?_ ?_ ?_
 . (repeat first | dsimp only [go_sem,rA,rM,rS] | simp only [nbr])
   try simp [mtL,mtB,mtS]
 . trivial
 rintro _ rfl
 (repeat first | dsimp only [go_sem,rA,rM,rS] | simp only [nbr])
 have hF:XI s p s.scenes[k]=ZhD s s.scenes[k] p.animals p.slabs (ZJ s p.legs):=by rw [Zd8,if_neg (by simp [hs])]
 have hd:=ZoM s h k hk (ZJ s p.legs) (Nat.le_trans ZbV hg) p.animals p.slabs ⟨hpl.1,hpl.2.1⟩ hpl.2.2
 rw [<- hF] at hd
 have hT:WE s p s.scenes[k]=if (XI s p s.scenes[k]).1=0 then XY s s.scenes[k] p.animals p.slabs (ZJ s p.legs) else []:=rfl
 rw [hT]
 have hz:(XI s p s.scenes[k]).1=0->XI s p s.scenes[k]=(0,0):=fun h0=>by
  rw [hF] at h0 ⊢
  revert h0
  unfold ZhD
  split
  . intro _;rfl
  . unfold ZaD
    split
    . intro h1;simp at h1
    . intro h1;exact goF_z h1
 generalize XI s p s.scenes[k]=w at hd hz ⊢
 generalize XY s s.scenes[k] p.animals p.slabs (ZJ s p.legs)=D at hd ⊢
 by_cases hw:w.1=0
 . simp only [V8,if_pos hw] at hd
   refine YO [] hd rfl rfl rfl ?_ ?_ ?_
   . exact Zc (by simp [Yv,Zg,Zm,Zh,Zj,Zd,Zo,ZT,Za,KFL,KF])
   . trivial
   rintro _ rfl
   (repeat first | dsimp only [go_sem,rA,rM,rS] | simp only [nbr])
   refine ⟨_,_,_,_,qw89,?_⟩
   dsimp only [ZAp,ZAq,go_sem,rA,rM,rS]
   refine ⟨rfl,?_⟩
   refine ZlT u20 rfl ?_
   dsimp only [go_sem,rA,rM,rS]
   refine Zw rfl ?_
   dsimp only [go_sem,rA,rM,rS]
   refine ⟨_,rfl,?_⟩
   rw [hz hw]
   simp only [Zsa,if_true]
   (refine Z1 ?_ ?_ ?_ rfl<;>dsimp only [Z5,id,go_sem,rA,rM,rS]<;>simp [Z5,Za,Ze,KFR,KFL,KF,Zc,mtO,nbr])
 simp only [V8,if_neg hw] at hd
 refine YO [] hd rfl rfl rfl ?_ ?_ ?_
 . exact Zc (by simp [Yv,Zg,Zm,Zh,Zj,Zd,Zo,ZT,Za,KFL,KF])
 . trivial
 rintro _ rfl
 (repeat first | dsimp only [XH,go_sem,rA,rM,rS] | simp only [nbr])
 refine ⟨_,_,_,_,qw89,?_⟩
 dsimp only [ZAp,ZAq,go_sem,rA,rM,rS]
 refine ⟨rfl,?_⟩
 refine ZfX u20 rfl ?_
 dsimp only [go_sem,rA,rM,rS]
 refine Zv rfl ?_
 dsimp only [go_sem,rA,rM,rS]
 refine Zbi ZdJ rfl ?_
 dsimp only [go_sem,rA,rM,rS]
 refine Zw rfl ?_
 dsimp only [go_sem,rA,rM,rS]
 refine ⟨_,rfl,?_⟩
 rw [Zsa,if_neg hw]
 refine Uc (YF (Za6 (s':=.tup [.sl false 3 [],.agg [U8 w.1,I w.2]]) 0 rfl (Wi (Z3 YV Wg)) (fun _ _ _ h=>by cases h)) ?_) (fun _ _ _ e=>by cases e)
 (refine Zl ?_ ?_ ?_ rfl rfl<;>dsimp only [id,go_sem,rA,rM,rS]<;>simp [Za,Ze,KFR,KFL,KF,Zc,mtO,nbr])
theorem Zjb (a b:List Int) (ha:a.length<=1000000) (hb:b.length<=1000000) (c c':Bool):Ct Tryz.prog 57 [.sl c 1 (a.map Zo),.sl c' 1 (b.map Zo)] (B (decide (a=b))):=by
 refine t57.1 (by simp [Za,Zo,KFL,KF]) (by simp [KFL,KF]) ?_
 dsimp only [c57,r57,go_sem,rA,rM,rS]
 simp only [List.length_map]
 by_cases hl:a.length=b.length
 case neg =>
  refine Zv (by simp;omega) ?_
  dsimp only [go_sem,rA,rM,rS]
  have:a≠b:=fun e=>hl (by rw [e])
  simp [this]
 refine Zw (by simp;omega) ?_
 dsimp only [go_sem,rA,rM,rS]
 refine Xt (fun j:Nat=>[(5,I j)]) (fun _=>[]) (fun j=>j<=a.length/\a.take j=b.take j) (fun j=>a.length - j) 0 ⟨Nat.zero_le _,rfl⟩ ?_ ?_
 . (refine Zl ?_ ?_ ?_ rfl rfl<;>dsimp only [Zo,id,go_sem,rA,rM,rS]<;>simp [Zo,Za,Ze,KFR,KFL,KF,Zc,mtO,nbr])
 rintro j ⟨hj,ht⟩
 dsimp only [go_sem,rA,rM,rS]
 simp only [List.length_map]
 by_cases hlt:j < a.length
 . refine Zv (by simpa using hlt) ?_
   dsimp only [go_sem,rA,rM,rS]
   have hltb:j < b.length:=by omega
   refine Zp j hlt rfl ?_
   dsimp only [go_sem,rA,rM,rS]
   refine Zp j hltb rfl ?_
   dsimp only [Zo,go_sem,rA,rM,rS]
   by_cases he:a[j]=b[j]
   . refine Zw (by rw [he];simp [ngB]) ?_
     dsimp only [go_sem,rA,rM,rS]
     rw [Zf (n:=(j:Int)+1) (by omega) (by omega)]
     refine ⟨j+1,⟨hlt,?_⟩,by omega,?_⟩
     . rw [List.take_succ_eq_append_getElem hlt,List.take_succ_eq_append_getElem hltb,ht,he]
     (refine Zl ?_ ?_ ?_ rfl rfl<;>dsimp only [Zo,id,go_sem,rA,rM,rS]<;>simp [Zo,Za,Ze,KFR,KFL,KF,Zc,mtO,nbr])
   . refine Zv ?_ ?_
     . simpa using he
     dsimp only [go_sem,rA,rM,rS]
     have:a≠b:=fun e=>he (by subst e;rfl)
     simp [this]
 refine Zw (by simp;omega) ?_
 dsimp only [go_sem,rA,rM,rS]
 have:a=b:=by
  rw [List.take_of_length_le (by omega),List.take_of_length_le (by omega)] at ht
  exact ht
 simp [this]
theorem VN (s:Season) (hs:SmallS s) (p:Plan) (hg:p.legs.length<=1000):Ct Tryz.prog 14 [.agg (Zr s),.agg (ZC p)] (Zcu (Yr s p)):=by
 refine tw14.1 (by simp [Zr,ZC,Zj,Zg,Zm,Zh,Zd,Zo,ZT,Za,KFL,KF]) (by simp [Zcu,KFL,KF]) ?_
 dsimp only [cw14,rw14,Zr,ZC,go_sem,rA,rM,rS]
 refine call (ZoR s hs p hg) ?_
 dsimp only [go_sem,rA,rM,rS]
 by_cases ho:ZA s=true
 case neg =>
  refine Zv (by simp [ho]) ?_
  dsimp only [go_sem,rA,rM,rS]
  simp [Zcu,Yr,ho]
 by_cases hp:Xs s p=true
 case neg =>
  refine Zv (by simp [ho,hp]) ?_
  dsimp only [go_sem,rA,rM,rS]
  simp [Zcu,Yr,ho,hp]
 refine Zw (by simp [ho,hp]) ?_
 dsimp only [go_sem,rA,rM,rS]
 simp only [List.length_map]
 have h:OkS s:=⟨hs,ho⟩
 have hF:Yr s p=Wk s p s.scenes 0:=by simp only [Yr,ho,hp,Bool.true_eq_false,if_false]
 rw [hF]
 have hsc:=hs.sc
 refine WH [2,3,20,21] rfl (fun q:Nat=>[(21,I q)]) (fun _=>[]) (fun q=>q<=s.scenes.length/\Wk s p (s.scenes.drop q) q=Wk s p s.scenes 0) (fun q=>s.scenes.length - q) 0 ⟨Nat.zero_le _,rfl⟩ ?_ ?_
 . (refine Zl ?_ ?_ ?_ rfl rfl<;>dsimp only [Zg,Zm,Zh,Zj,Zd,Zo,ZT,id,go_sem,rA,rM,rS]<;>simp [Zg,Zm,Zh,Zj,Zd,Zo,ZT,Za,Ze,KFR,KFL,KF,Zc,mtO,nbr])
 rintro j ⟨hj,hi⟩
 dsimp only [go_sem,rA,rM,rS]
 by_cases hlt:j < s.scenes.length
 case neg =>
  refine Zw (by simp;omega) ?_
  dsimp only [go_sem,rA,rM,rS]
  rw [List.drop_eq_nil_of_le (by omega),Wk] at hi
  rw [<- hi];rfl
 refine Zv (by simpa using hlt) ?_
 dsimp only [go_sem,rA,rM,rS]
 have ht:=Zmr s h j hlt p hp hg
 rw [List.drop_eq_getElem_cons hlt,Wk] at hi
 generalize XI s p s.scenes[j]=w at ht hi
 refine YO [] ht rfl rfl rfl ?_ ?_ ?_
 . exact Zc (by simp [Yv,ZC,Zg,Zm,Zh,Zj,Zd,Zo,ZT,Za,KFL,KF])
 . trivial
 rintro _ rfl
 (repeat first | dsimp only [Zsa,go_sem,rA,rM,rS] | simp only [nbr])
 by_cases hf:w.1=0
 case neg =>
  refine Zv (by simpa using hf) ?_
  dsimp only [go_sem,rA,rM,rS]
  rw [if_pos hf] at hi
  rw [<- hi];rfl
 refine Zw (by simpa using hf) ?_
 dsimp only [go_sem,rA,rM,rS]
 rw [if_neg (by simpa using hf)] at hi
 rw [Zf (n:=(j:Int)+1) (by omega) (by omega)]
 refine ⟨j+1,⟨hlt,hi⟩,by omega,?_⟩
 (refine Zl ?_ ?_ ?_ rfl rfl<;>dsimp only [Zg,Zm,Zh,Zj,Zd,Zo,ZT,id,go_sem,rA,rM,rS]<;>simp [Zg,Zm,Zh,Zj,Zd,Zo,ZT,Za,Ze,KFR,KFL,KF,Zc,mtO,nbr])
theorem Ze9 (p q:Plan) (hp:p.legs.length<=1000) (hq:q.legs.length<=1000):Ct Tryz.prog 19 [.agg (ZC p),.agg (ZC q)] (B (decide (p=q))):=by
 refine t19.1 (by simp [ZC,Zo,Za,KFL,KF]) (by simp [KFL,KF]) ?_
 dsimp only [c19,r19,ZC,go_sem,rA,rM,rS]
 repeat (first | (refine gb ?_;dsimp only [go_sem,rA,rM,rS]) | (refine call (Zjb p.legs q.legs (by omega) (by omega) _ _) ?_;dsimp only [go_sem,rA,rM,rS]))
 have:(p.animals == q.animals && p.slabs == q.slabs && decide (p.legs=q.legs))=decide (p=q):=by
  obtain ⟨a,b,c⟩:=p;obtain ⟨a',b',c'⟩:=q
  rw [Bool.eq_iff_iff];simp;constructor
  . rintro ⟨⟨h1,h2⟩,h3⟩;exact ⟨h3,h1,h2⟩
  . rintro ⟨h1,h2,h3⟩;exact ⟨⟨h2,h3⟩,h1⟩
 rw [this]
def c59:SC:=(sr1 [
 o1 3 (.box (.t 0) 0 34),
 o1 4 (.box (.t 1) 0 37),
 o1 6 (.mv (.c (.int .i64 0)))]
 (sr1 [
 o1 7 (.mv (.c (.slice none 0 0)))]
 (.seq (sr1 [
 o1 10 (.addo (.t 3) 36),
 o1 11 (.ld (.t 10) 1 false),
 o1 12 (.len (.t 11)),
 o1 13 (.mv (.c (.int .i64 0)))]
 (.block 0 (.loop (sr1 [
  o1 14 (.bin .lss (.t 13) (.t 12))]
  (.seq (.cond (.t 14)
  .skip
  (.exit 0))
  (.seq (.block 1 (sr1 [
   o1 15 (.ixs (.t 11) (.t 13) 6),
   o1 16 (.ld (.t 15) 6 true),
   o1 9 (.alloc zv5 72),
   ⟨none,.st (.t 9) (.t 16) 6,none,[]⟩]
   (.regs [0,1,2,3,4,5,6,7,8,9,10,11,12,13,14,15,16,17,18,19,20,21,22,23,24,25,26] ⟨[
   .op (m1 17 7),
   .op (o1 18 (.addo (.t 4) 1)),
   .op ⟨some 19,.ld (.t 18) 1 false,none,[1]⟩,
   .op (o1 20 (.addo (.t 4) 2)),
   .op ⟨some 21,.ld (.t 20) 1 false,none,[3]⟩,
   .op ⟨some 22,.bin .mul (.t 19) (.t 21),none,[2,4]⟩,
   .op (o1 23 (.addo (.t 9) 5)),
   .op ⟨some 24,.ld (.t 23) 1 false,none,[6]⟩,
   .op (m1 25 2),
   .op ⟨some 26,.ixs (.t 24) (.t 25) 1,none,[7,8]⟩,
   .op ⟨some 27,.ld (.t 26) 1 false,none,[9]⟩,
   .op (o1 28 (.addo (.t 3) 31)),
   .op ⟨some 29,.ld (.t 28) 1 false,none,[11]⟩,
   .op ⟨some 30,.bin .sub (.t 27) (.t 29),none,[10,12]⟩,
   .op ⟨some 31,.bin .mul (.t 22) (.t 30),none,[5,13]⟩,
   .op (o1 32 (.addo (.t 3) 28)),
   .op ⟨some 33,.ld (.t 32) 1 false,none,[15]⟩,
   .op (o1 34 (.addo (.t 4) 1)),
   .op ⟨some 35,.ld (.t 34) 1 false,none,[17]⟩,
   .op ⟨some 36,.bin .sub (.t 33) (.t 35),none,[16,18]⟩,
   .op (o1 37 (.addo (.t 3) 32)),
   .op ⟨some 38,.ld (.t 37) 1 false,none,[20]⟩,
   .op ⟨some 39,.bin .mul (.t 36) (.t 38),none,[19,21]⟩,
   .op ⟨some 40,.bin .add (.t 31) (.t 39),none,[14,22]⟩,
   .op ⟨some 41,.bsl 1 3 [.t 40],none,[23]⟩],0,1,[
   ⟨some 42,.appm 1 8 3 (.t 17) (.t 41),none,[0,24]⟩]⟩ [⟨[
],0,1,[
 ⟨some 7,.mv (.t 42),none,[0,1,2,3,4,5,6,7,8,9,10,11,12,13,14,15,16,17,18,19,20,21,22,23,24,25]⟩]⟩])))
 (.reg [
 o1 43 (.bin .add (.t 13) (.c (.int .i64 1))),
 m1 13 43])))))))
 (.gh (sr1 [
 m1 44 7,
 o1 45 (.call 71 [.t 44]),
 m1 6 45]
 .ret)))))
def r59:List RV:=[.tmp 6]
theorem t59:Qt1 Tryz.prog 59 c59 r59 46:=Z8 Tryz.func59 rfl (by kernel_rfl) (by kernel_rfl) (by kernel_rfl) (by kernel_rfl)
def c20:SC:=(sr1 [
 o1 2 (.box (.t 0) 0 34),
 o1 3 (.box (.t 1) 0 37),
 o1 4 (.mv (.c (.int .i64 0))),
 o1 5 (.mv (.c (.int .i64 0)))]
 (sr1 [
 o1 13 (.ld (.t 2) 37 true),
 o1 14 (.ld (.t 3) 3 true),
 o1 15 (.call 14 [.t 13,.t 14]),
 m1 12 15,
 o1 16 (.ext (.t 12) 0),
 o1 17 (.ext (.t 12) 1),
 o1 18 (.ext (.t 12) 2),
 o1 19 (.ext (.t 12) 3),
 m1 6 16,
 m1 7 17,
 m1 8 18,
 m1 9 19]
 (.seq (.block 0 (sr1 [
  m1 21 9,
  o1 22 (.bin .neq (.t 21) (.c (.int .i64 0))),
  m1 20 22]
  (.cond (.t 20)
  (sr1 [
   m1 23 9,
   o1 4 (.mv (.c (.int .i64 0))),
   m1 5 23]
   .ret)
  (sr1 [
   m1 25 6,
   o1 26 (.bin .neq (.t 25) (.c (.int .u8 0))),
   m1 24 26]
   (.cond (.t 24)
   (sr1 [
    o1 4 (.mv (.c (.int .i64 0))),
    o1 5 (.mv (.c (.int .i64 92)))]
    .ret)
   .skip)))))
 (sr1 [
 o1 28 (.ld (.t 2) 37 true),
 o1 29 (.addo (.t 3) 0),
 o1 30 (.ld (.t 29) 1 false),
 o1 31 (.call 58 [.t 28,.t 30]),
 m1 27 31,
 o1 32 (.ext (.t 27) 0),
 o1 33 (.ext (.t 27) 1),
 m1 10 32,
 m1 11 33]
 (sr1 [
 o1 34 (.ld (.t 2) 37 true),
 o1 35 (.ld (.t 3) 3 true),
 m1 36 10,
 o1 37 (.call 59 [.t 34,.t 35,.t 36]),
 m1 4 37,
 o1 5 (.mv (.c (.int .i64 0)))]
 .ret)))))
def r20:List RV:=[.tmp 4,.tmp 5]
theorem t20:Qt1 Tryz.prog 20 c20 r20 38:=Z8 Tryz.func20 rfl (by kernel_rfl) (by kernel_rfl) (by kernel_rfl) (by kernel_rfl)
def c24:SC:=(sr1 [
 o1 4 (.mv (.c (.bool false)))]
 (.seq (sr1 [
 m1 6 0,
 o1 7 (.len (.t 6)),
 m1 8 1,
 o1 9 (.len (.t 8)),
 o1 10 (.bin .neq (.t 7) (.t 9))]
 (.cond (.t 10)
 (sr1 [
  o1 4 (.mv (.c (.bool false)))]
  .ret)
 .skip))
 (.seq (sr1 [
 o1 5 (.mv (.c (.int .i64 0)))]
 (.block 0 (.loop (.seq (sr1 [
  m1 11 5,
  m1 12 0,
  o1 13 (.len (.t 12)),
  o1 14 (.bin .lss (.t 11) (.t 13))]
  (.cond (.t 14)
  .skip
  (.exit 0)))
  (.seq (.block 1 (.seq (.regd [0,1,2,3,4,5,6,7,8] [
   .op (m1 17 0),
   .op (m1 18 5),
   .op ⟨some 19,.ixs (.t 17) (.t 18) 3,none,[0,1]⟩,
   .op ⟨some 20,.ld (.t 19) 3 true,none,[2]⟩,
   .op (m1 21 1),
   .op (m1 22 5),
   .op ⟨some 23,.ixs (.t 21) (.t 22) 3,none,[4,5]⟩,
   .op ⟨some 24,.ld (.t 23) 3 true,none,[6]⟩,
   .op ⟨some 25,.eqs true true [1,1,1] (.t 20) (.t 24),none,[3,7]⟩] 0 0 [
])
 (.cond (.t 25)
 (sr1 [
  o1 4 (.mv (.c (.bool false)))]
  .ret)
 .skip)))
 (.reg [
 m1 15 5,
 o1 16 (.bin .add (.t 15) (.c (.int .i64 1))),
 m1 5 16]))))))
 (sr1 [
 o1 4 (.mv (.c (.bool true)))]
 .ret))))
def r24:List RV:=[.tmp 4]
theorem t24:Qt1 Tryz.prog 24 c24 r24 26:=Z8 Tryz.func24 rfl (by kernel_rfl) (by kernel_rfl) (by kernel_rfl) (by kernel_rfl)
def c4:SC:=(sr1 [
 o1 3 (.box (.t 0) 0 34),
 o1 4 (.box (.t 1) 0 37),
 o1 6 (.mv (.c (.bool false)))]
 (.seq (sr1 [
 o1 15 (.ld (.t 3) 37 true),
 o1 16 (.call 12 [.t 15]),
 m1 17 16,
 ⟨some 18,.addo (.t 4) 0,some (17,false),[]⟩,
 ⟨some 19,.ld (.t 18) 1 false,some (17,false),[]⟩,
 ⟨some 20,.len (.t 19),some (17,false),[]⟩,
 ⟨some 21,.bin .gtr (.t 20) (.c (.int .i64 40)),some (17,false),[]⟩,
 o1 22 (.pick (.t 17) (.c (.bool true)) (.t 21))]
 (.cond (.t 22)
 (sr1 [
  o1 6 (.mv (.c (.bool true)))]
  .ret)
 .skip))
 (sr1 [
 o1 24 (.ld (.t 3) 37 true),
 o1 25 (.ld (.t 4) 3 true),
 o1 26 (.call 20 [.t 24,.t 25]),
 m1 23 26,
 o1 27 (.ext (.t 23) 0),
 o1 28 (.ext (.t 23) 1),
 m1 7 27,
 m1 8 28]
 (sr1 [
 o1 30 (.ld (.t 3) 37 true),
 o1 31 (.ld (.t 4) 3 true),
 o1 32 (.call 21 [.t 30,.t 31]),
 m1 29 32,
 o1 33 (.ext (.t 29) 0),
 o1 34 (.ext (.t 29) 1),
 m1 9 33,
 m1 10 34]
 (sr1 [
 o1 36 (.ld (.t 3) 37 true),
 o1 37 (.ld (.t 4) 3 true),
 m1 38 2,
 o1 39 (.call 22 [.t 36,.t 37,.t 38]),
 m1 35 39,
 o1 40 (.ext (.t 35) 0),
 o1 41 (.ext (.t 35) 1),
 m1 11 40,
 m1 12 41]
 (sr1 [
 o1 43 (.ld (.t 3) 37 true),
 o1 44 (.ld (.t 4) 3 true),
 m1 45 2,
 o1 46 (.call 23 [.t 43,.t 44,.t 45]),
 m1 42 46,
 o1 47 (.ext (.t 42) 0),
 o1 48 (.ext (.t 42) 1),
 m1 13 47,
 m1 14 48]
 (sr1 [
 m1 49 7,
 m1 50 9,
 o1 51 (.bin .eql (.t 49) (.t 50)),
 m1 52 51,
 ⟨some 53,.mv (.t 8),some (52,true),[]⟩,
 ⟨some 54,.mv (.t 10),some (52,true),[]⟩,
 ⟨some 55,.bin .eql (.t 53) (.t 54),some (52,true),[]⟩,
 o1 56 (.pick (.t 52) (.t 55) (.c (.bool false))),
 m1 57 56,
 ⟨some 58,.mv (.t 11),some (57,true),[]⟩,
 ⟨some 59,.mv (.t 13),some (57,true),[]⟩,
 ⟨some 60,.call 24 [.t 58,.t 59],some (57,true),[]⟩,
 o1 61 (.pick (.t 57) (.t 60) (.c (.bool false))),
 m1 62 61,
 ⟨some 63,.mv (.t 12),some (62,true),[]⟩,
 ⟨some 64,.mv (.t 14),some (62,true),[]⟩,
 ⟨some 65,.bin .eql (.t 63) (.t 64),some (62,true),[]⟩,
 o1 66 (.pick (.t 62) (.t 65) (.c (.bool false))),
 m1 6 66]
 .ret)))))))
def r4:List RV:=[.tmp 6]
theorem n4:Tryz.f4.ntmps=67:=by kernel_rfl
theorem b4:YP Tryz.prog 4=true:=by kernel_rfl
theorem t4:Qt1 Tryz.prog 4 c4 r4 67:=Z8 Tryz.func4 rfl b4 (by kernel_rfl) (by kernel_rfl) n4
end Go.Proofs.YtiigiflofnjilaaGreat
namespace Go.Azalai
open Go.Sx
def Zip:List Int->Int
 | []=>0
 | x :: r=>r.foldl min x
theorem Zme {l:List Int} {a:Int} (h:l≠[]):Zip (l ++ [a])=min (Zip l) a:=by
 cases l with
 | nil=>exact absurd rfl h
 | cons x r=>simp [Zip,List.foldl_append]
def V6 (s:Season) (p:Plan) (to:Int) (x:Scene):Int:=p.animals * p.slabs * ((x.prices[to.toNat]?).getD 0 - s.cost)+(s.herd - p.animals) * s.sale
def ZcD (s:Season) (p:Plan) (to:Int):Int:=Zip (s.scenes.map (V6 s p to))
def Zam (s:Season) (p:Plan):Int × Int :=
 if (Yr s p).2.2.2≠0 then (0,(Yr s p).2.2.2) else if (Yr s p).1≠0 then (0,92) else (ZcD s p ((YH s.land s.start [s.start] p.legs).getD 0),0)
theorem Zuf {α : Type} {L:List α} {k:Nat} (hk:k≠0) (h:1<=L.length):L.take k≠[]:=fun e=>by
 rw [List.take_eq_nil_iff] at e
 rcases e with e | e
 . exact hk e
 . rw [e] at h;simp at h
theorem Ze4 {A B d M:Int} (h0:0<=A) (h1:A<=B) (hM:0<=M) (hd:-M<=d/\d<=M):-(B * M)<=A * d/\A * d<=B * M:=by
 have e1:A * d<=A * M:=Int.mul_le_mul_of_nonneg_left hd.2 h0
 have e2:A * M<=B * M:=Int.mul_le_mul_of_nonneg_right h1 hM
 have e3:A * (-M)<=A * d:=Int.mul_le_mul_of_nonneg_left hd.1 h0
 rw [Int.mul_neg] at e3
 omega
theorem Zge {s:Season} {p:Plan}:∀ {l:List Scene} {i:Nat},(Wk s p l i).2.2.2=0
 | [],_=>rfl
 | x :: r,i=>by
  simp only [Wk];split
  . rfl
  . exact Zge
theorem ZdB {s:Season} {p:Plan}:∀ {l:List Scene} {i:Nat},(Wk s p l i).1=0->∀ x ∈ l,(XI s p x).1=0
 | [],_,_,x,hx=>by cases hx
 | y :: r,i,h,x,hx=>by
  simp only [Wk] at h
  split at h
  . rename_i hf;exact absurd h hf
  . rename_i hf
    rcases List.mem_cons.1 hx with rfl | hx
    . simpa using hf
    . exact ZdB h x hx
theorem Zby {s:Season} {p:Plan} (h:(Yr s p).2.2.2=0):ZA s=true/\Xs s p=true:=by
 unfold Yr at h
 split at h
 . simp at h
 rename_i h1
 split at h
 . simp at h
 rename_i h2
 exact ⟨by simpa using h1,by simpa using h2⟩
theorem Zph {s:Season} {p:Plan} (h:(Yr s p).2.2.2=0) (h1:(Yr s p).1=0):∀ x ∈ s.scenes,(XI s p x).1=0:=by
 obtain ⟨ho,hp⟩:=Zby h
 unfold Yr at h1
 rw [if_neg (by simp [ho]),if_neg (by simp [hp])] at h1
 exact ZdB h1
def ZcN (s:Season) (p:Plan) (k:Int):List Draw × Int :=
 if (Yr s p).2.2.2≠0 then ([],(Yr s p).2.2.2) else if (Yr s p).1≠0\/inR 0 (s.scenes.length - 1) k=false then ([],92)
 else match s.scenes[k.toNat]? with
  | some x=>(XY s x p.animals p.slabs (ZJ s p.legs),0)
  | none=>([],0)
end Go.Azalai
namespace Go.Proofs.YtiigiflofnjilaaGreat
open Go Go.Sx Go.Azalai
theorem Zkd (L:List Int) (h1:1<=L.length) (hl:L.length<=1001) (c:Bool):Ct Tryz.prog 71 [.sl c 1 (L.map Zo)] (I (Zip L)):=by
 refine t71.1 (by simp [Za,Zo,KFL,KF]) (by simp [KFL,KF]) ?_
 dsimp only [c71,r71,go_sem,rA,rM,rS]
 simp only [List.length_map]
 refine Zw (by simp;omega) ?_
 dsimp only [go_sem,rA,rM,rS]
 refine Zp 0 (by omega) rfl ?_
 dsimp only [Zo,go_sem,rA,rM,rS]
 have h0:L[0]=Zip (L.take 1):=by
  cases L with
  | nil=>simp at h1
  | cons x r=>simp [Zip]
 rw [h0]
 refine Xt (fun k:Nat=>[(4,I (k+1)),(3,I (Zip (L.take (k+1))))]) (fun _=>[]) (fun k=>k+1<=L.length) (fun k=>L.length - k) 0 h1 ?_ ?_
 . (refine Zl ?_ ?_ ?_ rfl rfl<;>dsimp only [Zo,id,go_sem,rA,rM,rS]<;>simp [Zo,Za,Ze,KFR,KFL,KF,Zc,mtO,nbr])
 intro k hk
 dsimp only [go_sem,rA,rM,rS]
 simp only [List.length_map]
 by_cases hlt:k+1 < L.length
 . refine Zv (by simp;omega) ?_
   dsimp only [go_sem,rA,rM,rS]
   refine Zp (k+1) hlt (by simp) ?_
   dsimp only [Zo,go_sem,rA,rM,rS]
   rw [Zf (n:=(k:Int)+1+1) (by omega) (by omega)]
   refine ⟨k+1,by omega,by omega,?_⟩
   have e:min (Zip (L.take (k+1))) L[k+1]=Zip (L.take (k+1+1)):=by
    rw [List.take_succ_eq_append_getElem hlt,Zme (Zuf (by omega) h1)]
   rw [e]
   (refine Zl ?_ ?_ ?_ rfl rfl<;>dsimp only [Zo,id,go_sem,rA,rM,rS]<;>simp [Zo,Za,Ze,KFR,KFL,KF,Zc,mtO,nbr])
 refine Zw (by simp;omega) ?_
 dsimp only [go_sem,rA,rM,rS]
 rw [List.take_of_length_le (by omega)]
theorem UL {s:Season} (h:OkS s) {k:Nat} (hk:k < s.scenes.length) {m:Nat} (hm:m < s.land.wells.length):∃ hp:m < (s.scenes[k]).prices.length,0<=(s.scenes[k]).prices[m]/\(s.scenes[k]).prices[m]<=1000000:=by
 have hx:=h.scene _ (List.getElem_mem hk)
 simp only [Z9,Bool.and_eq_true,decide_eq_true_eq,List.all_eq_true] at hx
 have hp:m < (s.scenes[k]).prices.length:=by omega
 have:=hx.2 _ (List.getElem_mem hp)
 simp only [inR,decide_eq_true_eq] at this
 exact ⟨hp,this⟩
theorem Zfm {s:Season} (h:OkS s) {p:Plan} (hp:Xs s p=true) {k:Nat} (hk:k < s.scenes.length) {m:Nat} (hm:m < s.land.wells.length) (hq:m < (s.scenes[k]).prices.length) :
 IntKind.i64.wrap (IntKind.i64.wrap (IntKind.i64.wrap (p.animals * p.slabs) * IntKind.i64.wrap ((s.scenes[k]).prices[m] - s.cost))+IntKind.i64.wrap (IntKind.i64.wrap (s.herd - p.animals) * s.sale))=V6 s p m s.scenes[k] /\
 -1000000000<=V6 s p m s.scenes[k]/\V6 s p m s.scenes[k]<=1000000000:=by
 have hnum:=h.num
 obtain ⟨_,hpl⟩:=VB hp
 obtain ⟨_,hpr⟩:=UL h hk hm
 have e1:0<=p.animals * p.slabs/\p.animals * p.slabs<=30 * 12:=⟨Int.mul_nonneg hpl.1 hpl.2.2.1,Int.mul_le_mul (by omega) hpl.2.2.2 hpl.2.2.1 (by decide)⟩
 have e2:=Ze4 (A:=p.animals * p.slabs) (B:=360) (d:=(s.scenes[k]).prices[m] - s.cost) (M:=1000000) e1.1 (by omega) (by decide) (by omega)
 have e3:0<=(s.herd - p.animals) * s.sale/\(s.herd - p.animals) * s.sale<=30 * 1000000:=⟨Int.mul_nonneg (by omega) (by omega),Int.mul_le_mul (by omega) (by omega) (by omega) (by decide)⟩
 have e4:V6 s p m s.scenes[k]=p.animals * p.slabs * ((s.scenes[k]).prices[m] - s.cost)+(s.herd - p.animals) * s.sale:=by
  simp only [V6,Int.toNat_natCast,List.getElem?_eq_getElem hq,Option.getD_some]
 rw [Zf (n:=p.animals * p.slabs) (by omega) (by omega),Zf (n:=(s.scenes[k]).prices[m] - s.cost) (by omega) (by omega),Zf (n:=s.herd - p.animals) (by omega) (by omega),
  Zf (n:=p.animals * p.slabs * ((s.scenes[k]).prices[m] - s.cost)) (by omega) (by omega),Zf (n:=(s.herd - p.animals) * s.sale) (by omega) (by omega),Zf (by omega) (by omega),e4]
 exact ⟨rfl,by omega,by omega⟩
theorem ZgB (s:Season) (h:OkS s) (p:Plan) (hp:Xs s p=true) (m:Nat) (hm:m < s.land.wells.length):Ct Tryz.prog 59 [.agg (Zr s),.agg (ZC p),I m] (I (ZcD s p m)):=by
 have hsc:=h.scs
 have hs4:=h.scs
 refine t59.1 (by simp [Zr,ZC,Zj,Zg,Zm,Zh,Zd,Zo,Za,KFL,KF]) (by simp [KFL,KF]) ?_
 dsimp only [c59,r59,Zr,ZC,go_sem,rA,rM,rS]
 simp only [List.length_map]
 obtain ⟨W,hW⟩:∃ W,W=s.scenes.map (V6 s p m):=⟨_,rfl⟩
 have hWl:W.length=s.scenes.length:=by rw [hW];simp
 refine ZeN (YF (UD [2,3,4,6,7,11,12,13] rfl) (Y5 7 1 3 rfl rfl)) (fun q:Nat × Nat=>[(13,I q.1),(7,.mr 2 q.2)])
  (fun q=>[(2,.row q.2 1 ((W.take q.1).map Zo) 3)]) (fun q=>q.1<=s.scenes.length) (fun q=>s.scenes.length - q.1) (0,0) (Nat.zero_le _) ?_ ?_
 . (refine Zl ?_ ?_ ?_ rfl rfl<;>dsimp only [Zg,Zm,Zh,Zj,Zd,Zo,Yj,id,go_sem,rA,rM,rS]<;>simp [Zg,Zm,Zh,Zj,Zd,Zo,Yj,Za,Ze,KFR,KFL,KF,Zc,mtO,nbr])
 rintro ⟨j,v⟩ hj
 simp only at hj
 dsimp only [go_sem,rA,rM,rS]
 by_cases hlt:j < s.scenes.length
 . refine Zv (by simpa using hlt) ?_
   dsimp only [go_sem,rA,rM,rS]
   refine Zp j hlt rfl ?_
   dsimp only [Zj,go_sem,rA,rM,rS]
   obtain ⟨hq,_⟩:=UL h hlt hm
   refine Zp m hq rfl ?_
   dsimp only [Zo,go_sem,rA,rM,rS]
   obtain ⟨hww,hwb⟩:=Zfm h hp hlt hm hq
   rw [hww]
   simp only [nbr]
   dsimp only [go_sem,rA,rM,rS]
   refine ⟨(by intro c hc;simp only [List.mem_singleton] at hc;subst hc;rfl),by simp;omega,?_⟩
   dsimp only [go_sem,rA,rM,rS]
   rw [Zf (n:=(j:Int)+1) (by omega) (by omega)]
   refine ⟨(j+1,v+1),hlt,by simp only;omega,?_⟩
   simp only
   have hWj:V6 s p m s.scenes[j]=W[j]'(by omega):=by simp [hW]
   rw [hWj,List.take_succ_eq_append_getElem (by omega)]
   simp only [List.map_append,List.map_cons,List.map_nil]
   (refine Zl ?_ ?_ ?_ rfl rfl<;>dsimp only [Zg,Zm,Zh,Zj,Zd,Zo,Yj,id,go_sem,rA,rM,rS]<;>simp [Zg,Zm,Zh,Zj,Zd,Zo,Yj,Za,Ze,KFR,KFL,KF,Zc,mtO,nbr])
 refine Zw (by simp;omega) ?_
 dsimp only [go_sem,rA,rM,rS]
 rw [List.take_of_length_le (by omega)]
 refine gh (ZbD 7 2 v rfl rfl rfl rfl) ?_
 dsimp only [go_sem,rA,rM,rS]
 refine call (Zkd W (by omega) (by omega) _) ?_
 dsimp only [go_sem,rA,rM,rS]
 rw [hW];rfl
end Go.Proofs.YtiigiflofnjilaaGreat
namespace Go.Azalai
open Go.Sx
theorem ZiH {l:List Int} {a:Int} (h:a ∈ l):Zip l<=a:=by
 cases l with
 | nil=>cases h
 | cons x r =>
  show r.foldl min x<=a
  have key:∀ (r:List Int) (x a:Int),(a=x\/a ∈ r)->r.foldl min x<=a:=by
   intro r
   induction r with
   | nil =>
    intro x a h
    rcases h with rfl | h
    . exact Int.le_refl _
    . cases h
   | cons y r ih =>
    intro x a h
    rw [List.foldl_cons]
    rcases h with rfl | h
    . exact Int.le_trans (ih (min a y) (min a y) (.inl rfl)) (Int.min_le_left _ _)
    . rcases List.mem_cons.1 h with rfl | h
      . exact Int.le_trans (ih (min x a) (min x a) (.inl rfl)) (Int.min_le_right _ _)
      . exact ih _ _ (.inr h)
  exact key r x a (List.mem_cons.1 h)
theorem Zbb {s:Season} {p:Plan}:∀ {l:List Scene} {i:Nat},(∀ x ∈ l,(XI s p x).1=0)->(Wk s p l i).1=0
 | [],_,_=>rfl
 | x :: r,i,h=>by
  simp only [Wk]
  rw [if_neg (by simp [h x (List.mem_cons_self ..)])]
  exact Zbb fun y hy=>h y (List.mem_cons_of_mem _ hy)
theorem ZcB {s:Season} {p:Plan} (h:ZA s=true) (hp:Xs s p=true):(Yr s p).2.2.2=0/\((Yr s p).1=0↔∀ x ∈ s.scenes,(XI s p x).1=0):=by
 have e:Yr s p=Wk s p s.scenes 0:=by unfold Yr;rw [if_neg (by simp [h]),if_neg (by simp [hp])]
 rw [e]
 exact ⟨Zge,ZdB,Zbb⟩
open Go.Proofs.YtiigiflofnjilaaGreat
structure Bst where
 legs:List Nat
 an:Int
 sl:Int
 w:Int
deriving DecidableEq
def Xi (a:List Nat):List Int:=a.map fun n:Nat=>(n:Int)
def Bst.plan (q:Bst):Plan:=⟨Xi q.legs,q.an,q.sl⟩
def Yu (q p:Bst):Bool :=
 if q.w≠p.w then decide (q.w > p.w) else if q.an≠p.an then decide (q.an < p.an) else if q.sl≠p.sl then decide (q.sl < p.sl)
 else if q.legs.length≠p.legs.length then decide (q.legs.length < p.legs.length) else Vo q.legs p.legs
def Zlh (p q:Bst):Bst:=if Yu q p then q else p
def XP (s:Season) (to:Int) (a:List Nat) (k n:Int):Bst:=⟨a,n,k,ZcD s ⟨Xi a,n,k⟩ to⟩
def Zio (s:Season) (x:Scene):List Draw->Int->Int
 | [],n=>n
 | d :: r,n=>Zio s x r (if d.water > 0 then min n ((ZaY s x ⟨0,d.well,⟨0,0⟩,⟨d.day,0⟩⟩).tdiv d.water) else n)
def Zsi (s:Season) (a:List Int) (k:Int):List Scene->Int->Int
 | [],n=>n
 | x :: r,n=>if (XI s ⟨a,1,k⟩ x).1≠0 then 0 else Zsi s a k r (Zio s x (WE s ⟨a,1,k⟩ x) n)
def Zfu (s:Season) (a:List Int) (k:Int):Int:=Zsi s a k s.scenes s.herd
def Zfx (s:Season) (to:Int) (a:List Nat) (k:Int):Nat->Bst->Bst
 | 0,b=>b
 | n+1,b=>Zfx s to a k n (Zlh b (XP s to a k (n+1:Nat)))
def ZmG (s:Season) (to:Int) (a:List Nat) (b:Bst) (k:Nat):Bst:=Zfx s to a k (Zfu s (Xi a) k).toNat b
def ZAr (s:Season) (to:Int) (b:Bst) (a:List Nat):Bst:=(List.range 13).foldl (ZmG s to a) b
def Zey (s:Season):List Nat->Bst->Option Bst
 | [],b=>some b
 | g :: r,b=>if Zdd s.land s.pace s.start g s.day s.till≠0 then none else Zey s r ((Zaf s.land s.pace s.start g s.day s.till).foldl (ZAr s g) b)
def Zvg (s:Season):Option Bst:=Zey s (List.range s.land.wells.length) ⟨[],0,0,s.herd * s.sale⟩
def Zg9 (s:Season):Plan × Int × Int :=
 if ZA s=false then (⟨[],0,0⟩,0,90) else match Zvg s with
  | none=>(⟨[],0,0⟩,0,9)
  | some b=>(b.plan,b.w,0)
def ZfA (s:Season) (x:Scene) (k:Int):List Span->Nat->Int->Int
 | [],_,e=>e
 | r :: l,i,e=>ZfA s x k l (i+1) (if r.hi<=s.till then max e (k * ((x.prices[i]?).getD 0 - s.cost)) else e)
noncomputable def ZgC (s:Season):Int:=Zip (s.scenes.map fun x=>s.herd * ZfA s x (min 12 (s.breed.strong.lo.tdiv s.slab)) (Xf s.land s.pace s.start s.day) 0 s.sale)
noncomputable def ZbR (s:Season):Int × Int:=if ZA s=false then (0,90) else (ZgC s,0)
theorem Zf1 {s:Season} {x:Scene}:∀ {D:List Draw} {n m:Int},(m<=Zio s x D n↔m<=n/\∀ d ∈ D,d.water > 0->m<=(ZaY s x ⟨0,d.well,⟨0,0⟩,⟨d.day,0⟩⟩).tdiv d.water)
 | [],n,m=>by simp [Zio]
 | d :: r,n,m=>by
  rw [Zio,Zf1]
  simp only [List.mem_cons,forall_eq_or_imp]
  split
  . rename_i h
    constructor
    . rintro ⟨h1,h2⟩;exact ⟨by omega,fun _=>by omega,h2⟩
    . rintro ⟨h1,h2,h3⟩;exact ⟨by have:=h2 h;omega,h3⟩
  . rename_i h
    constructor
    . rintro ⟨h1,h2⟩;exact ⟨h1,fun q=>absurd q h,h2⟩
    . rintro ⟨h1,_,h3⟩;exact ⟨h1,h3⟩
theorem ZkJ {s:Season} {x:Scene} (h:∀ st:Stop,0<=ZaY s x st):∀ {D:List Draw} {n:Int},0<=n->0<=Zio s x D n
 | [],n,hn=>hn
 | d :: r,n,hn=>by
  rw [Zio]
  refine ZkJ h ?_
  split
  . have:=Int.tdiv_nonneg (h ⟨0,d.well,⟨0,0⟩,⟨d.day,0⟩⟩) (show (0:Int)<=d.water by omega)
    omega
  . exact hn
theorem ZcJ {n:Int}:∀ {g:List (Int × Int)} {i:Nat},UW n g i=none↔∀ q ∈ g,n * q.1<=q.2
 | [],_=>by simp [UW]
 | p :: r,i=>by
  simp only [UW,List.mem_cons,forall_eq_or_imp]
  split
  . rename_i h
    constructor
    . intro q;cases q
    . rintro ⟨q,_⟩;omega
  . rename_i h
    rw [ZcJ]
    exact ⟨fun q=>⟨by omega,q⟩,fun q=>q.2⟩
theorem Zuh {n:Int} {g:Int × Int × List (Int × Int)}:(ZaD n g).1=0↔g.1=0/\∀ q ∈ g.2.2,n * q.1<=q.2:=by
 unfold ZaD
 rw [<- ZcJ (i:=0)]
 split
 . rename_i i h;rw [h];simp
 . rename_i h;rw [h];simp
theorem ZuW {s:Season} {a:List Int} {n k:Int} {x:Scene} (hn:n≠0):(XI s ⟨a,n,k⟩ x).1=0↔W7 s a=true/\(goF s x k (ZJ s a)).1=0/\∀ q ∈ (goF s x k (ZJ s a)).2.2,n * q.1<=q.2:=by
 unfold XI
 cases h:W7 s a with
 | false=>simp
 | true =>
  simp only [Bool.true_eq_false,if_false]
  rw [if_neg hn,Zuh]
  simp
theorem Zmj {s:Season} {a:List Int} {k:Int}:∀ {l:List Scene} {n:Int},0<=n->(∀ x ∈ l,∀ st:Stop,0<=ZaY s x st)->0<=Zsi s a k l n/\Zsi s a k l n<=n
 | [],n,hn,_=>⟨hn,Int.le_refl _⟩
 | x :: r,n,hn,hh=>by
  rw [Zsi]
  split
  . omega
  . have h1:=ZkJ (hh x (List.mem_cons_self ..)) (D:=WE s ⟨a,1,k⟩ x) hn
    have h2:Zio s x (WE s ⟨a,1,k⟩ x) n<=n:=(Zf1.1 (Int.le_refl _)).1
    have:=Zmj (s:=s) (a:=a) (k:=k) h1 (fun y hy=>hh y (List.mem_cons_of_mem _ hy))
    omega
theorem ZcQ (b:Bst):Yu b b=false:=by simp [Yu,W6]
theorem ZeI {a b c:Bst} (h:Yu a b=true) (h':Yu b c=true):Yu a c=true:=by
 obtain ⟨al,aa,ak,aw⟩:=a;obtain ⟨bl,ba,bk,bw⟩:=b;obtain ⟨cl,ca,ck,cw⟩:=c
 simp only [Yu] at h h' ⊢
 by_cases e1:aw=bw
 . subst e1
   rw [if_neg (by simp)] at h
   by_cases e2:aw=cw
   . subst e2
     rw [if_neg (by simp)] at h' ⊢
     by_cases e3:aa=ba
     . subst e3
       rw [if_neg (by simp)] at h
       by_cases e4:aa=ca
       . subst e4
         rw [if_neg (by simp)] at h' ⊢
         by_cases e5:ak=bk
         . subst e5
           rw [if_neg (by simp)] at h
           by_cases e6:ak=ck
           . subst e6
             rw [if_neg (by simp)] at h' ⊢
             by_cases e7:al.length=bl.length
             . rw [if_neg (by simp [e7])] at h
               by_cases e8:al.length=cl.length
               . rw [if_neg (by omega)] at h' ⊢
                 exact WG h h'
               . rw [if_pos (by omega)] at h' ⊢
                 rw [decide_eq_true_eq] at h' ⊢;omega
             . rw [if_pos (by omega),decide_eq_true_eq] at h
               by_cases e8:bl.length=cl.length
               . rw [if_pos (by omega),decide_eq_true_eq];omega
               . rw [if_pos (by omega),decide_eq_true_eq] at h'
                 rw [if_pos (by omega),decide_eq_true_eq];omega
           . rw [if_pos e6] at h' ⊢;exact h'
         . rw [if_pos e5,decide_eq_true_eq] at h
           by_cases e6:bk=ck
           . subst e6;rw [if_pos e5,decide_eq_true_eq];exact h
           . rw [if_pos e6,decide_eq_true_eq] at h'
             rw [if_pos (by omega),decide_eq_true_eq];omega
       . rw [if_pos e4] at h' ⊢;exact h'
     . rw [if_pos e3,decide_eq_true_eq] at h
       by_cases e4:ba=ca
       . subst e4;rw [if_pos e3,decide_eq_true_eq];exact h
       . rw [if_pos e4,decide_eq_true_eq] at h'
         rw [if_pos (by omega),decide_eq_true_eq];omega
   . rw [if_pos e2] at h' ⊢;exact h'
 . rw [if_pos e1,decide_eq_true_eq] at h
   by_cases e2:bw=cw
   . subst e2;rw [if_pos e1,decide_eq_true_eq];exact h
   . rw [if_pos e2,decide_eq_true_eq] at h'
     rw [if_pos (by omega),decide_eq_true_eq];omega
structure Top (b0:Bst) (C:Bst->Prop) (b:Bst):Prop where
 is:b=b0\/C b
 init:Yu b0 b=false
 all:∀ q,C q->Yu q b=false
theorem Top.zero {b0:Bst}:Top b0 (fun _=>False) b0:=⟨.inl rfl,ZcQ _,fun _ h=>h.elim⟩
theorem Top.congr {b0:Bst} {C C':Bst->Prop} {b:Bst} (h:Top b0 C b) (hc:∀ q,C' q↔C q):Top b0 C' b:=⟨h.is.imp id (hc b).2,h.init,fun q hq=>h.all q ((hc q).1 hq)⟩
theorem Top.take {b0:Bst} {C:Bst->Prop} {b:Bst} (h:Top b0 C b) (q:Bst):Top b0 (fun r=>C r\/r=q) (Zlh b q):=by
 unfold Zlh
 have up:∀ r,Yu r b=false->Yu q b=true->Yu r q=false:=fun r h1 h2=>by
  cases h3:Yu r q with
  | false=>rfl
  | true=>have:=ZeI h3 h2;rw [h1] at this;cases this
 cases hq:Yu q b with
 | false =>
  simp only [Bool.false_eq_true,if_false]
  exact ⟨h.is.imp id .inl,h.init,fun r hr=>hr.elim (h.all r) (fun e=>e ▸ hq)⟩
 | true =>
  simp only [if_true]
  exact ⟨.inr (.inr rfl),up _ h.init hq,fun r hr=>hr.elim (fun q=>up r (h.all r q) hq) (fun e=>e ▸ ZcQ _)⟩
theorem Top.fold {α : Type} {b0:Bst} {f:Bst->α->Bst} {P:α->Bst->Prop} (hf:∀ {C:Bst->Prop} {b:Bst} (x:α),Top b0 C b->Top b0 (fun r=>C r\/P x r) (f b x)) :
 ∀ {l:List α} {C:Bst->Prop} {b:Bst},Top b0 C b->Top b0 (fun r=>C r\/∃ x ∈ l,P x r) (l.foldl f b)
 | [],C,b,h=>h.congr fun q=>by simp
 | x :: r,C,b,h=>(Top.fold hf (l:=r) (hf x h)).congr fun q=>by
  simp only [List.mem_cons,exists_eq_or_imp,or_assoc]
theorem Zjq {x:Leg} {p:Span} {t t':Int} (h:GoodLeg x) (hp:ZX p=true) (ht:t<=t') (ht':t'<=100001):ZK false x p t<=ZK true x p t':=by
 have h1:=Zbf (k:=false) h hp ht
 have h2:=Zrn (t:=t') h hp ht'
 have h3:=Zjk h hp
 simp only [ZK] at *;omega
def Trk (l:Land) (p:Span):Int->Int->Int->List Int->List Stop->Prop
 | _,_,_,[],[]=>True
 | v,a,b,i :: r,s :: ss=>∃ (k:Nat) (x:Leg),i=k/\l.legs[k]? = some x/\0<=Zk x v/\ZK true x p b<=100000 /\
  s=⟨k,Zk x v,⟨leK false x p a,leK true x p b⟩,⟨ZK false x p a,ZK true x p b⟩⟩/\Trk l p (Zk x v) (ZK false x p a) (ZK true x p b) r ss
 | _,_,_,_,_=>False
theorem Trk.len {l:Land} {p:Span}:∀ {legs:List Int} {ss:List Stop} {v a b:Int},Trk l p v a b legs ss->ss.length=legs.length
 | [],[],_,_,_,_=>rfl
 | i :: r,s :: ss,_,_,_,h=>by obtain ⟨_,_,_,_,_,_,_,h⟩:=h;simp [h.len]
 | [],_ :: _,_,_,_,h=>h.elim
 | _ :: _,[],_,_,_,h=>h.elim
theorem Trk.at {l:Land} {p:Span} (h:OkLP l p):∀ {legs:List Int} {ss:List Stop} {v a b:Int},Trk l p v a b legs ss->a<=b->b<=100000->∀ (i:Nat) (s:Stop),ss[i]? = some s ->
 ∃ c:List Nat,c.length=i+1/\legs.take (i+1)=c.map (fun n:Nat=>(n:Int))/\goW true l p v b c=some (s.well,s.arrives.hi)/\goW false l p v a c=some (s.well,s.arrives.lo)
 | [],[],_,_,_,_,_,_,i,s,hs=>by simp at hs
 | j :: r,s0 :: ss,v,a,b,q,hab,hb,i,s,hs=>by
  obtain ⟨k,x,rfl,hx,ho,hr,rfl,q⟩:=q
  have hm:=Zjq (h.leg hx) h.pace hab (by omega)
  cases i with
  | zero =>
   simp only [List.getElem?_cons_zero,Option.some.injEq] at hs
   subst hs
   refine ⟨[k],rfl,by simp,?_,?_⟩
   . simp only [goW,hx];rw [if_neg (by omega),if_neg (by omega)]
   . simp only [goW,hx];rw [if_neg (by omega),if_neg (by omega)]
  | succ i =>
   simp only [List.getElem?_cons_succ] at hs
   obtain ⟨c,h1,h2,h3,h4⟩:=Trk.at h q hm hr i s hs
   refine ⟨k :: c,by simp [h1],by simp [h2],?_,?_⟩
   . simp only [goW,hx];rw [if_neg (by omega),if_neg (by omega)];exact h3
   . simp only [goW,hx];rw [if_neg (by omega),if_neg (by omega)];exact h4
 | [],_ :: _,_,_,_,q,_,_,_,_,_=>q.elim
 | _ :: _,[],_,_,_,q,_,_,_,_,_=>q.elim
theorem Zl9 {l:Land} {p:Span}:∀ {legs:List Int} {v a b:Int} {k:Nat} {acc ss:List Stop} {at':Int},Wa l v legs k=none->goS l p v a b legs k acc=(ss,at',0)->∃ tt,ss=acc ++ tt/\at'=0/\Trk l p v a b legs tt
 | [],v,a,b,k,acc,ss,at',_,h=>by
  simp only [goS,Prod.mk.injEq] at h
  exact ⟨[],by simp [h.1],h.2.1.symm,trivial⟩
 | i :: r,v,a,b,k,acc,ss,at',hb,h=>by
  simp only [Wa] at hb
  by_cases he:Vm l i v < 0
  . rw [if_pos he] at hb;cases hb
  rw [if_neg he] at hb
  obtain ⟨n,x,rfl,hn,hx,_,e⟩:=U4 he
  simp only [goS,Int.toNat_natCast,hx] at h
  by_cases hr:ZK true x p b > 100000
  . rw [if_pos hr] at h;simp at h
  rw [if_neg hr] at h
  rw [e] at hb he
  obtain ⟨tt,e1,e2,e3⟩:=Zl9 hb h
  exact ⟨_ :: tt,by rw [e1,List.append_assoc];rfl,e2,n,x,rfl,hx,by omega,by omega,rfl,e3⟩
theorem Zgo {l:Land} {p:Span} {s day:Int} {legs:List Int} {ss:List Stop} {at':Int} (h:YU l p s day legs=(ss,at',0)):at'=0/\Trk l p s day day legs ss:=by
 unfold YU at h
 split at h
 . rename_i q;simp at h;exact absurd h.2.2 q
 split at h
 . simp at h
 split at h
 . simp at h
 split at h
 . simp at h
 . rename_i q
   obtain ⟨tt,rfl,e2,e3⟩:=Zl9 q h
   exact ⟨e2,by simpa using e3⟩
theorem ZlR {l:Land} {p:Span}:∀ {c:List Nat} {v a b w u:Int} {k:Nat} {acc:List Stop},goW true l p v b c=some (w,u) ->
 Wa l v (c.map fun n:Nat=>(n:Int)) k=none/\∃ ss,goS l p v a b (c.map fun n:Nat=>(n:Int)) k acc=(ss,0,0)
 | [],v,a,b,w,u,k,acc,_=>⟨rfl,acc,rfl⟩
 | i :: c,v,a,b,w,u,k,acc,h=>by
  simp only [goW] at h
  cases hx:l.legs[i]? with
  | none=>rw [hx] at h;cases h
  | some x =>
   rw [hx] at h
   simp only at h
   by_cases ho:Zk x v < 0
   . rw [if_pos ho] at h;cases h
   rw [if_neg ho] at h
   by_cases hr:ZK true x p b > 100000
   . rw [if_pos hr] at h;cases h
   rw [if_neg hr] at h
   have hi:i < l.legs.length:=(List.getElem?_eq_some_iff.1 hx).1
   have he:Vm l (i:Int) v=Zk x v:=by rw [ZbT hi,(List.getElem?_eq_some_iff.1 hx).2]
   obtain ⟨h1,_⟩:=ZlR (a:=ZK false x p a) (k:=k+1) (acc:=[]) h
   refine ⟨?_,?_⟩
   . simp only [List.map_cons,Wa,he];rw [if_neg ho];exact h1
   . obtain ⟨_,ss,h2⟩:=ZlR (a:=ZK false x p a) (k:=k+1) (acc:=acc ++ [⟨i,Zk x v,⟨leK false x p a,leK true x p b⟩,⟨ZK false x p a,ZK true x p b⟩⟩]) h
     refine ⟨ss,?_⟩
     simp only [List.map_cons,goS,Int.toNat_natCast,hx]
     rw [if_neg hr];exact h2
theorem Zxe {l:Land} {p:Span} (h:OkLP l p) {s day:Int} (hd:0<=day) (hd':day<=100000) (h0:0<=s) (h1:s < l.wells.length) {c:List Nat} {w u:Int} (hc:c.length<=24) (hw:goW true l p s day c=some (w,u)) :
 ∃ ss,YU l p s day (c.map fun n:Nat=>(n:Int))=(ss,0,0):=by
 obtain ⟨e1,ss,e2⟩:=ZlR (a:=day) (k:=0) (acc:=[]) hw
 refine ⟨ss,?_⟩
 unfold YU
 rw [if_neg (by simp [ZaE,h.land,h.pace]),if_neg (by simp [inR];omega),if_neg (by simp;omega),e1]
 exact e2
theorem Gr.ends {l:Land} {p:Span} {s day to best:Int} {n0:Nat} (hg:OkLP l p) (hd:0<=day) (hd':day<=100000) (h0:0<=s) (h1:s < l.wells.length) (hb:best=Y1 true l p s day to) (hb':best<=100000) :
 ∀ {n:Nat} {v t:Int} {out:List Nat},Gr l p s day to best n0 n v t out->∃ v' t' out',Gr l p s day to best n0 0 v' t' out'
 | 0,v,t,out,h=>⟨v,t,out,h⟩
 | n+1,v,t,out,h=>by
  obtain ⟨i,_,hf⟩:=h.ex hg hd hd' h0 h1 hb hb'
  obtain ⟨m,⟨x,g1,g2,g3,g4⟩,hm⟩:=Go.Sx.least_ex (fun i=>Fit l p to best n v t i) ⟨i,hf⟩
  exact Gr.ends hg hd hd' h0 h1 hb hb' (h.step hg hd hd' h0 h1 hb g1 g2 g3 g4 fun j hj hq=>by have:=hm j hq;omega)
def UP (l:Land) (p:Span) (to till:Int):List Int->Int->Int->List Nat->Prop
 | _,v,t,[]=>v=to/\t<=till
 | been,v,t,i :: r=>∃ x,l.legs[i]? = some x/\0<=Zk x v/\ZK true x p t<=100000/\Zk x v ∉ v :: been/\UP l p to till (v :: been) (Zk x v) (ZK true x p t) r
theorem UP.le {l:Land} {p:Span} (h:OkLP l p) {to till:Int}:∀ {a:List Nat} {been:List Int} {v t:Int},UP l p to till been v t a->t<=100001->t<=till
 | [],_,_,_,q,_=>q.2
 | i :: r,been,v,t,q,ht=>by
  obtain ⟨x,hx,ho,hr,hn,q⟩:=q
  have:=Vs (k:=true) (h.leg hx) h.pace ht
  have:=UP.le h q (by omega)
  omega
theorem UP.nin {l:Land} {p:Span} {to till:Int}:∀ {a:List Nat} {been:List Int} {v t:Int},UP l p to till been v t a->v ∉ been->to ∉ been
 | [],_,_,_,q,hv=>by rw [<- q.1];exact hv
 | i :: r,been,v,t,q,hv=>by
  obtain ⟨x,hx,ho,hr,hn,q⟩:=q
  have:=UP.nin q hn
  exact fun h=>this (List.mem_cons_of_mem _ h)
theorem Zj4 {l:Land} {p:Span} (h:OkLP l p) {to till:Int} (htill:till<=100000):∀ {f:Nat} {been:List Int} {v t:Int} {a:List Nat},Zmx l f been->v ∉ been->(0<=v/\v < l.wells.length)->t<=100001 ->
 (a ∈ XM l p to till f been v t↔UP l p to till been v t a):=by
 intro f
 induction f with
 | zero =>
  intro been v t a hR hv hvi
  obtain ⟨g,q,_⟩:=hR.pos hv hvi
  omega
 | succ f ih =>
  intro been v t a hR hv hvi ht
  obtain ⟨g,hg,hR'⟩:=hR.pos hv hvi
  have hgf:g=f:=by omega
  subst hgf
  rw [YI]
  by_cases h1:t > till
  . rw [if_pos h1]
    constructor
    . intro q;cases q
    . intro q;have:=q.le h ht;omega
  rw [if_neg h1]
  by_cases h2:v=to
  . rw [if_pos h2,List.mem_singleton]
    constructor
    . rintro rfl;exact ⟨h2,by omega⟩
    . intro q
      cases a with
      | nil=>rfl
      | cons i r =>
       obtain ⟨x,hx,ho,hr,hn,q⟩:=q
       have:=q.nin hn
       exact absurd (by simp [h2]) this
  rw [if_neg h2]
  simp only [Yd,List.mem_flatMap,List.mem_range]
  constructor
  . rintro ⟨i,hi,q⟩
    simp only [Xb] at q
    cases hx:l.legs[i]? with
    | none=>rw [hx] at q;cases q
    | some x =>
     rw [hx] at q
     simp only at q
     by_cases hc:Zk x v < 0\/Zk x v ∈ v :: been
     . rw [if_pos hc] at q;cases q
     rw [if_neg hc] at q
     obtain ⟨r,hr,rfl⟩:=List.mem_map.1 q
     have ho:¬ Zk x v < 0:=fun z=>hc (.inl z)
     have hn:Zk x v ∉ v :: been:=fun z=>hc (.inr z)
     have ha:=Xu (k:=true) (h.leg hx) h.pace ht
     have hr':=(ih hR' hn (ZW h hx ho).1 (by omega)).1 hr
     refine ⟨x,hx,by omega,?_,hn,hr'⟩
     have:=hr'.le h (by omega)
     omega
  . intro q
    cases a with
    | nil=>exact absurd q.1 h2
    | cons i r =>
     obtain ⟨x,hx,ho,hr,hn,q⟩:=q
     refine ⟨i,(List.getElem?_eq_some_iff.1 hx).1,?_⟩
     rw [WN hx (by omega) hn]
     exact List.mem_map.2 ⟨r,(ih hR' hn (ZW h hx (by omega)).1 (by omega)).2 q,rfl⟩
theorem UP.len {l:Land} {p:Span} (h:OkLP l p) {to till:Int}:∀ {a:List Nat} {f:Nat} {been:List Int} {v t:Int},UP l p to till been v t a->Zmx l f been->v ∉ been->(0<=v/\v < l.wells.length)->a.length+1<=f
 | [],f,been,v,t,q,hR,hv,hi=>by obtain ⟨g,hg,_⟩:=hR.pos hv hi;simp;omega
 | i :: r,f,been,v,t,q,hR,hv,hi=>by
  obtain ⟨g,hg,hR'⟩:=hR.pos hv hi
  obtain ⟨x,hx,ho,hr,hn,q⟩:=q
  have:=UP.len h q hR' hn (ZW h hx (by omega)).1
  simp;omega
theorem Zc9 {l:Land} {i:Nat} {v:Int}:Vm l i v=match l.legs[i]? with | some x=>Zk x v | none=>-1:=by
 cases h:l.legs[i]? with
 | none=>rw [List.getElem?_eq_none_iff] at h;exact Zfd (.inr (by omega))
 | some x =>
  obtain ⟨hi,hx⟩:=List.getElem?_eq_some_iff.1 h
  rw [ZbT hi,hx]
theorem UU {l:Land} {p:Span} {to till:Int}:∀ {c:List Nat} {been:List Int} {v t:Int},
 UP l p to till been v t c↔YH l v (v :: been) (Xi c)=some to/\∃ u,goW true l p v t c=some (to,u)/\u<=till
 | [],been,v,t=>by
  simp only [UP,Xi,List.map_nil,YH,Option.some.injEq,goW,Prod.mk.injEq]
  constructor
  . rintro ⟨h1,h2⟩;exact ⟨h1,t,⟨h1,rfl⟩,h2⟩
  . rintro ⟨h1,u,⟨_,rfl⟩,h2⟩;exact ⟨h1,h2⟩
 | i :: c,been,v,t=>by
  simp only [UP,Xi,List.map_cons,YH,goW]
  rw [Zc9]
  cases hx:l.legs[i]? with
  | none =>
   constructor
   . rintro ⟨x,hx',_⟩;cases hx'
   . rintro ⟨h1,_⟩;simp at h1
  | some x =>
   simp only
   constructor
   . rintro ⟨y,hy,ho,hr,hn,q⟩
     cases hy
     obtain ⟨q1,q2⟩:=(UU (c:=c)).1 q
     rw [if_neg (by omega),if_neg hn,if_neg (by omega),if_neg (by omega)]
     exact ⟨q1,q2⟩
   . rintro ⟨h1,h2⟩
     split at h1
     . cases h1
     rename_i h3
     split at h1
     . cases h1
     rename_i h4
     rw [if_neg h3] at h2
     split at h2
     . obtain ⟨u,hu,_⟩:=h2;cases hu
     rename_i h5
     exact ⟨x,rfl,by omega,by omega,h4,(UU (c:=c)).2 ⟨h1,h2⟩⟩
theorem Zej {l:Land} {p:Span} (hg:OkLP l p):∀ {legs:List Int} {v u:Int} {been:List Int},been.Nodup->(∀ b ∈ been,0<=b/\b < l.wells.length)->YH l v been legs=some u->legs.length+been.length<=l.wells.length
 | [],v,u,been,h1,h2,_=>by have:=Zer h1 h2;simpa using this
 | i :: r,v,u,been,h1,h2,h=>by
  simp only [YH] at h
  split at h
  . cases h
  rename_i he
  split at h
  . cases h
  rename_i hn
  obtain ⟨k,x,_,_,hx,_,e⟩:=U4 he
  have hin:=(ZW hg hx (by rw [<- e];exact he)).1
  have:=Zej hg (List.nodup_cons.2 ⟨hn,h1⟩) (fun b hb=>(List.mem_cons.1 hb).elim (fun q=>by rw [q,e];exact hin) (h2 b)) h
  simp only [List.length_cons] at this ⊢;omega
theorem ZfZ:∀ {a b:List Nat},Xi a=Xi b->a=b
 | [],[],_=>rfl
 | x :: a,y :: b,h=>by
  simp only [Xi,List.map_cons,List.cons.injEq] at h
  rw [ZfZ (a:=a) (b:=b) h.2,show x=y by omega]
 | [],_ :: _,h=>by simp [Xi] at h
 | _ :: _,[],h=>by simp [Xi] at h
theorem lenS {s:Season} (h:OkS s) {legs:List Int} {u:Int} (hg:YH s.land s.start [s.start] legs=some u):legs.length < s.land.wells.length/\legs.length<=24:=by
 have:=Zej h.lp (legs:=legs) (v:=s.start) (u:=u) (been:=[s.start]) (by simp) (fun b hb=>by simp only [List.mem_singleton] at hb;subst hb;exact h.start) hg
 have hw:=h.land
 simp only [ZM,inR,Bool.and_eq_true,decide_eq_true_eq] at hw
 simp only [List.length_cons,List.length_nil] at this
 omega
theorem Zgi {s:Season} (h:OkS s) {c:List Nat} (hc:c.length<=24):W7 s (Xi c)=true↔∃ v u,goW true s.land s.pace s.start s.day c=some (v,u)/\u<=s.till:=by
 have hn:=h.num
 have hst:=h.start
 have key:∀ {ss:List Stop} {at':Int},YU s.land s.pace s.start s.day (Xi c)=(ss,at',0)->(W7 s (Xi c)=true↔∃ v u,goW true s.land s.pace s.start s.day c=some (v,u)/\u<=s.till):=fun {ss at'} hw=>by
  obtain ⟨_,ht⟩:=Zgo hw
  have hss:ZJ s (Xi c)=ss:=by unfold ZJ;rw [hw]
  have hlen:=ht.len
  simp only [Xi,List.length_map] at hlen
  unfold W7
  rw [hss,hw]
  simp only [decide_true,Bool.true_and,Bool.or_eq_true,decide_eq_true_eq]
  by_cases h0:ss.length=0
  . have:c=[]:=List.eq_nil_of_length_eq_zero (by omega)
    subst this
    exact ⟨fun _=>⟨s.start,s.day,rfl,by omega⟩,fun _=>.inl h0⟩
  . obtain ⟨c',h1,h2,h3,_⟩:=ht.at h.lp (Int.le_refl _) (by omega) (ss.length - 1) (Zd3 ss) (Zbq h0)
    have hcc:c'=c:=by
     have e:(Xi c).take (ss.length - 1+1)=Xi c:=List.take_of_length_le (by simp [Xi];omega)
     rw [e] at h2
     exact ZfZ h2.symm
    subst hcc
    constructor
    . rintro (q | q)
      . exact absurd q h0
      . exact ⟨_,_,h3,q⟩
    . rintro ⟨v,u,e,q⟩
      rw [h3] at e
      simp only [Option.some.injEq,Prod.mk.injEq] at e
      exact .inr (by omega)
 constructor
 . intro q
   have q':=q
   simp only [W7,Bool.and_eq_true,decide_eq_true_eq] at q'
   have:YU s.land s.pace s.start s.day (Xi c)=((YU s.land s.pace s.start s.day (Xi c)).1,(YU s.land s.pace s.start s.day (Xi c)).2.1,0):=by
    rw [<- q'.1]
   exact (key this).1 q
 . rintro ⟨v,u,e,q⟩
   obtain ⟨ss,hw⟩:=Zxe h.lp (by omega) (by omega) hst.1 hst.2 hc e
   exact (key hw).2 ⟨v,u,e,q⟩
theorem Zgk {k:Bool} {l:Land} {p:Span} {w u to:Int}:∀ {c:List Nat} {v t:Int} {been:List Int},goW k l p v t c=some (w,u)->YH l v been (Xi c)=some to->w=to
 | [],v,t,been,h,h'=>by
  simp only [goW,Option.some.injEq,Prod.mk.injEq,Xi,List.map_nil,YH] at h h'
  omega
 | i :: c,v,t,been,h,h'=>by
  simp only [goW,Xi,List.map_cons,YH] at h h'
  rw [Zc9] at h'
  cases hx:l.legs[i]? with
  | none=>rw [hx] at h;cases h
  | some x =>
   rw [hx] at h h'
   simp only at h h'
   split at h
   . cases h
   rename_i h1
   split at h
   . cases h
   rw [if_neg h1] at h'
   split at h'
   . cases h'
   exact Zgk h h'
theorem ZrP {s:Season} (h:OkS s) {to:Int} {c:List Nat}:c ∈ Zaf s.land s.pace s.start to s.day s.till↔YH s.land s.start [s.start] (Xi c)=some to/\W7 s (Xi c)=true:=by
 have hn:=h.num
 unfold Zaf
 rw [Zj4 h.lp (by omega) Zmx.start (by simp) h.start (by omega),UU]
 constructor
 . rintro ⟨h1,u,h2,h3⟩
   have hl:=(lenS h h1).2
   exact ⟨h1,(Zgi h (by simpa [Xi] using hl)).2 ⟨_,_,h2,h3⟩⟩
 . rintro ⟨h1,h2⟩
   have hl:=(lenS h h1).2
   obtain ⟨v,u,h3,h4⟩:=(Zgi h (by simpa [Xi] using hl)).1 h2
   refine ⟨h1,u,?_,h4⟩
   rw [Zgk h3 h1] at h3;exact h3
theorem Zoo {l:Land} {well day:Int}:0<=(X1 l well [] day).1.lo:=by
 unfold X1
 split
 . exact Int.le_refl _
 rename_i h1
 split
 . exact Int.le_refl _
 rename_i h2
 split
 . exact Int.le_refl _
 split
 . exact Int.le_refl _
 split
 . rename_i w hw
   simp only [Bool.not_eq_false,ZM,Bool.and_eq_true,List.all_eq_true,inR,decide_eq_true_eq] at h1 h2
   have hwell:=h1.1.2 w (List.mem_of_getElem? hw)
   simp only [YM,Z6,inR,Bool.and_eq_true,decide_eq_true_eq] at hwell
   have:0<=(day - 1 - -1) * w.yld.lo:=Int.mul_nonneg (by omega) (by omega)
   simp only [Vw,Wm]
   omega
 . exact Int.le_refl _
theorem Zsx {s:Season} {x:Scene} (st:Stop):0<=ZaY s x st:=Zoo
theorem ZlA {s:Season} {p:Plan} (h:ZA s=true) (hp:Xs s p=true) (hf:∀ x ∈ s.scenes,(XI s p x).1=0) {to:Int} (hto:YH s.land s.start [s.start] p.legs=some to):Zam s p=(ZcD s p to,0):=by
 obtain ⟨h0,h1⟩:=ZcB h hp
 unfold Zam
 rw [if_neg (by simp [h0]),if_neg (by simp [h1.2 hf]),hto];rfl
theorem ZpR {s:Season} {p:Plan} {to:Int} (hto:YH s.land s.start [s.start] p.legs=some to) (ha:0<=p.animals/\p.animals<=s.herd) (hs:0<=p.slabs/\p.slabs<=12):Xs s p=true:=by
 simp only [Xs,hto,Option.isSome_some,inR,Bool.true_and,Bool.and_eq_true,decide_eq_true_eq];omega
theorem Ztf {s:Season} (h:OkS s) {a:List Int} {k:Int}:0<=Zfu s a k/\Zfu s a k<=s.herd:=Zmj (by have:=h.num;omega) (fun _ _=>Zsx)
theorem ZkI {l:Land} {D:Int} {draws:List Draw} {k:Nat} (hok:ZM l=true) (hk:k < l.wells.length) (hD:0<=D/\D<=100000) (hl:draws.length<=200) (hd:Wt l.wells.length 0 draws=true) :
 X1 l k draws D=Vw l.wells[k] k D l.wells[k].has (-1) 0 draws:=by
 unfold X1
 rw [if_neg (by simp [hok]),if_neg (by simp [inR];omega),if_neg (by omega),if_neg (by simp [hd]),Int.toNat_natCast,List.getElem?_eq_getElem hk]
structure Dr (s:Season) (p:Plan) (x:Scene) (D:List Draw):Prop where
 len:D.length=p.legs.length - 1
 at_:∀ (i:Nat) (hi:i < D.length) (hs:i < (ZJ s p.legs).length),D[i].well=(ZJ s p.legs)[i].well/\D[i].day=(ZJ s p.legs)[i].arrives.lo/\0<=D[i].water/\D[i].water<=p.animals * s.breed.full /\
  (p.animals=0->D[i].water=0)/\D[i].water<=ZaY s x (ZJ s p.legs)[i]
theorem Zk0 {l:Land} {p:Span} (hg:OkLP l p):∀ {legs:List Int} {ss:List Stop} {v a b:Int},Trk l p v a b legs ss->b<=100000->ss.Pairwise (fun x y=>x.arrives.hi<=y.arrives.hi)/\∀ s ∈ ss,b<=s.arrives.hi
 | [],[],_,_,_,_,_=>⟨.nil,fun _ h=>by cases h⟩
 | i :: r,s :: ss,v,a,b,ht,hb=>by
  obtain ⟨k,x,rfl,hx,ho,hr,rfl,ht⟩:=ht
  have h1:=Vs (k:=true) (hg.leg hx) hg.pace (show b<=100001 by omega)
  obtain ⟨q1,q2⟩:=Zk0 hg ht hr
  refine ⟨List.pairwise_cons.2 ⟨fun y hy=>q2 y hy,q1⟩,fun y hy=>?_⟩
  rcases List.mem_cons.1 hy with rfl | hy
  . exact h1
  . have:=q2 y hy;omega
 | [],_ :: _,_,_,_,h,_=>h.elim
 | _ :: _,[],_,_,_,h,_=>h.elim
theorem Zkg {S:List Stop} {till:Int} (hh:S.Pairwise (fun x y=>x.arrives.hi<=y.arrives.hi)) (hs:S.length=0\/(Zd3 S).arrives.hi<=till) {i:Nat} (hi:i < S.length):S[i].arrives.hi<=till:=by
 have h0:S.length≠0:=by omega
 have:=Zbq h0
 rw [List.getElem?_eq_getElem (by omega),Option.some.injEq] at this
 rcases hs with q | q
 . omega
 . rw [<- this] at q
   by_cases he:i=S.length - 1
   . subst he;exact q
   . have:=(List.pairwise_iff_getElem.1 hh) i (S.length - 1) hi (by omega) (by omega)
     omega
end Go.Azalai
namespace Go.Proofs.YtiigiflofnjilaaGreat
open Go Go.Sx
def c64:SC:=(sr1 [
 o1 2 (.box (.t 0) 0 37),
 o1 4 (.alloc [.int .i64 0,.int .i64 0,.int .i64 0,.int .i64 0] 142)]
 (sr1 [
 m1 5 1,
 o1 6 (.addo (.t 2) 1),
 o1 7 (.ld (.t 6) 1 false),
 o1 8 (.un .neg (.t 7)),
 o1 9 (.addo (.t 2) 2),
 o1 10 (.ld (.t 9) 1 false),
 o1 11 (.un .neg (.t 10)),
 o1 12 (.addo (.t 2) 0),
 o1 13 (.ld (.t 12) 1 false),
 o1 14 (.len (.t 13)),
 o1 15 (.un .neg (.t 14)),
 o1 16 (.build [.int .i64 0,.int .i64 0,.int .i64 0,.int .i64 0] [(0,1,.t 5),(1,1,.t 8),(2,1,.t 11),(3,1,.t 15)]),
 ⟨none,.st (.t 4) (.t 16) 4,none,[]⟩]
 .ret))
def r64:List RV:=[.cell 4 4 true]
theorem t64:Qt1 Tryz.prog 64 c64 r64 17:=Z8 Tryz.func64 rfl (by kernel_rfl) (by kernel_rfl) (by kernel_rfl) (by kernel_rfl)
def c67:SC:=(sr1 [
 o1 4 (.box (.t 0) 0 37),
 o1 5 (.box (.t 1) 0 142),
 o1 6 (.box (.t 2) 0 37),
 o1 7 (.box (.t 3) 0 142),
 o1 8 (.mv (.c (.bool false)))]
 (.seq (sr1 [
 o1 10 (.ld (.t 5) 4 true),
 o1 11 (.ld (.t 7) 4 true),
 o1 12 (.eqs false true [1,1,1,1] (.t 10) (.t 11))]
 (.cond (.t 12)
 (sr1 [
  o1 13 (.addo (.t 4) 0),
  o1 14 (.ld (.t 13) 1 false),
  o1 15 (.addo (.t 6) 0),
  o1 16 (.ld (.t 15) 1 false),
  o1 17 (.call 114 [.t 14,.t 16]),
  o1 18 (.bin .lss (.t 17) (.c (.int .i64 0))),
  m1 8 18]
  .ret)
 .skip))
 (.seq (sr1 [
 o1 19 (.mv (.c (.int .i64 0)))]
 (.block 0 (.loop (sr1 [
  o1 20 (.bin .lss (.t 19) (.c (.int .i64 4)))]
  (.seq (.cond (.t 20)
  .skip
  (.exit 0))
  (.seq (.block 1 (sr1 [
   m1 21 19,
   m1 9 21]
   (.seq (.regd [0,1,2,3,4,5,6] [
   .op (m1 22 9),
   .op ⟨some 23,.ixa (.t 5) (.t 22) 4 1,none,[0]⟩,
   .op ⟨some 24,.ld (.t 23) 1 false,none,[1]⟩,
   .op (m1 25 9),
   .op ⟨some 26,.ixa (.t 7) (.t 25) 4 1,none,[3]⟩,
   .op ⟨some 27,.ld (.t 26) 1 false,none,[4]⟩,
   .op ⟨some 28,.bin .neq (.t 24) (.t 27),none,[2,5]⟩] 0 0 [
])
 (.cond (.t 28)
 (.seq (.regd [0,1,2,3,4,5,6,7] [
  .op (m1 29 9),
  .op ⟨some 30,.ixa (.t 5) (.t 29) 4 1,none,[0]⟩,
  .op ⟨some 31,.ld (.t 30) 1 false,none,[1]⟩,
  .op (m1 32 9),
  .op ⟨some 33,.ixa (.t 7) (.t 32) 4 1,none,[3]⟩,
  .op ⟨some 34,.ld (.t 33) 1 false,none,[4]⟩,
  .op ⟨some 35,.bin .gtr (.t 31) (.t 34),none,[2,5]⟩,
  .op ⟨some 8,.mv (.t 35),none,[0,1,2,3,4,5,6]⟩] 0 0 [
])
 .ret)
 .skip))))
 (.reg [
 o1 36 (.bin .add (.t 19) (.c (.int .i64 1))),
 m1 19 36])))))))
 (sr1 [
 o1 8 (.mv (.c (.bool false)))]
 .ret))))
def r67:List RV:=[.tmp 8]
theorem t67:Qt1 Tryz.prog 67 c67 r67 37:=Z8 Tryz.func67 rfl (by kernel_rfl) (by kernel_rfl) (by kernel_rfl) (by kernel_rfl)
def c27:SC:=(sr1 [
 o1 1 (.box (.t 0) 0 34),
 o1 2 (.mv (.c (.int .i64 0))),
 o1 3 (.mv (.c (.int .i64 0)))]
 (.seq (sr1 [
 o1 14 (.ld (.t 1) 37 true),
 o1 15 (.call 16 [.t 14]),
 m1 4 15]
 (sr1 [
 m1 16 4,
 o1 17 (.bin .neq (.t 16) (.c (.int .i64 0)))]
 (.cond (.t 17)
 (sr1 [
  m1 18 4,
  o1 2 (.mv (.c (.int .i64 0))),
  m1 3 18]
  .ret)
 .skip)))
 (sr1 [
 o1 20 (.addo (.t 1) 0),
 o1 21 (.ld (.t 20) 2 true),
 o1 22 (.addo (.t 1) 33),
 o1 23 (.ld (.t 22) 1 false),
 o1 24 (.addo (.t 1) 34),
 o1 25 (.ld (.t 24) 1 false),
 o1 26 (.addo (.t 1) 2),
 o1 27 (.ld (.t 26) 2 true),
 o1 28 (.call 52 [.t 21,.t 23,.t 25,.t 27]),
 m1 19 28,
 o1 29 (.ext (.t 19) 0),
 o1 30 (.ext (.t 19) 1),
 m1 5 29,
 m1 6 30]
 (sr1 [
 o1 31 (.addo (.t 1) 4),
 o1 32 (.addo (.t 31) 15),
 o1 33 (.addo (.t 32) 0),
 o1 34 (.ld (.t 33) 1 false),
 o1 35 (.addo (.t 1) 30),
 o1 36 (.ld (.t 35) 1 false),
 o1 37 (.div .quo (.t 34) (.t 36)),
 o1 38 (.mm false [.c (.int .i64 12),.t 37]),
 m1 7 38]
 (sr1 [
 o1 8 (.mv (.c (.slice none 0 0)))]
 (.seq (sr1 [
 o1 39 (.addo (.t 1) 36),
 o1 40 (.ld (.t 39) 1 false),
 o1 41 (.len (.t 40)),
 o1 42 (.mv (.c (.int .i64 0)))]
 (.block 0 (.loop (sr1 [
  o1 43 (.bin .lss (.t 42) (.t 41))]
  (.seq (.cond (.t 43)
  .skip
  (.exit 0))
  (.seq (.block 1 (sr1 [
   o1 44 (.ixs (.t 40) (.t 42) 6),
   o1 45 (.ld (.t 44) 6 true),
   o1 10 (.alloc zv5 72),
   ⟨none,.st (.t 10) (.t 45) 6,none,[]⟩]
   (sr1 [
   o1 46 (.addo (.t 1) 32),
   o1 47 (.ld (.t 46) 1 false),
   m1 11 47]
   (.seq (sr1 [
   m1 48 5,
   o1 49 (.len (.t 48)),
   o1 50 (.mv (.c (.int .i64 0)))]
   (.block 2 (.loop (sr1 [
    o1 51 (.bin .lss (.t 50) (.t 49))]
    (.seq (.cond (.t 51)
    .skip
    (.exit 2))
    (.seq (.block 3 (sr1 [
     m1 52 50,
     o1 53 (.ixs (.t 48) (.t 50) 2),
     o1 54 (.ld (.t 53) 2 true),
     o1 13 (.alloc [.int .i64 0,.int .i64 0] 27),
     m1 12 52,
     ⟨none,.st (.t 13) (.t 54) 2,none,[]⟩]
     (sr1 [
     o1 55 (.addo (.t 13) 1),
     o1 56 (.ld (.t 55) 1 false),
     o1 57 (.addo (.t 1) 35),
     o1 58 (.ld (.t 57) 1 false),
     o1 59 (.bin .leq (.t 56) (.t 58))]
     (.cond (.t 59)
     (.regd [0,1,2,3,4,5,6,7,8,9,10,11,12] [
      .op (m1 60 11),
      .op (m1 61 7),
      .op (o1 62 (.addo (.t 10) 5)),
      .op ⟨some 63,.ld (.t 62) 1 false,none,[2]⟩,
      .op (m1 64 12),
      .op ⟨some 65,.ixs (.t 63) (.t 64) 1,none,[3,4]⟩,
      .op ⟨some 66,.ld (.t 65) 1 false,none,[5]⟩,
      .op (o1 67 (.addo (.t 1) 31)),
      .op ⟨some 68,.ld (.t 67) 1 false,none,[7]⟩,
      .op ⟨some 69,.bin .sub (.t 66) (.t 68),none,[6,8]⟩,
      .op ⟨some 70,.bin .mul (.t 61) (.t 69),none,[1,9]⟩,
      .op ⟨some 71,.mm true [.t 60,.t 70],none,[0,10]⟩] 0 0 [
      ⟨some 11,.mv (.t 71),none,[0,1,2,3,4,5,6,7,8,9,10,11]⟩])
     .skip))))
    (.reg [
    o1 72 (.bin .add (.t 50) (.c (.int .i64 1))),
    m1 50 72])))))))
   (.gh (.reg [
   m1 73 8,
   o1 74 (.addo (.t 1) 28),
   o1 75 (.ld (.t 74) 1 false),
   m1 76 11,
   o1 77 (.bin .mul (.t 75) (.t 76)),
   o1 78 (.bsl 1 3 [.t 77]),
   o1 79 (.appm 1 8 3 (.t 73) (.t 78)),
   m1 8 79]))))))
  (.gh (.reg [
  o1 80 (.bin .add (.t 42) (.c (.int .i64 1))),
  m1 42 80]))))))))
 (.gh (sr1 [
 m1 81 8,
 o1 82 (.call 71 [.t 81]),
 m1 2 82,
 o1 3 (.mv (.c (.int .i64 0)))]
 .ret))))))))
def r27:List RV:=[.tmp 2,.tmp 3]
theorem t27:Qt1 Tryz.prog 27 c27 r27 83:=Z8 Tryz.func27 rfl (by kernel_rfl) (by kernel_rfl) (by kernel_rfl) (by kernel_rfl)
def c25:SC:=(sr1 [
 o1 1 (.box (.t 0) 0 34),
 o1 2 (.alloc [.slice none 0 0,.int .i64 0,.int .i64 0] 37),
 o1 3 (.mv (.c (.int .i64 0))),
 o1 4 (.mv (.c (.int .i64 0)))]
 (.seq (sr1 [
 o1 17 (.ld (.t 1) 37 true),
 o1 18 (.call 16 [.t 17]),
 m1 5 18]
 (sr1 [
 m1 19 5,
 o1 20 (.bin .neq (.t 19) (.c (.int .i64 0)))]
 (.cond (.t 20)
 (sr1 [
  o1 21 (.build [.slice none 0 0,.int .i64 0,.int .i64 0] []),
  m1 22 5,
  ⟨none,.st (.t 2) (.t 21) 3,none,[]⟩,
  o1 3 (.mv (.c (.int .i64 0))),
  m1 4 22]
  .ret)
 .skip)))
 (sr1 [
 o1 23 (.addo (.t 1) 28),
 o1 24 (.ld (.t 23) 1 false),
 o1 25 (.addo (.t 1) 32),
 o1 26 (.ld (.t 25) 1 false),
 o1 27 (.bin .mul (.t 24) (.t 26)),
 m1 3 27]
 (sr1 [
 o1 28 (.ld (.t 2) 3 true),
 m1 29 3,
 o1 30 (.call 64 [.t 28,.t 29]),
 o1 6 (.alloc [.int .i64 0,.int .i64 0,.int .i64 0,.int .i64 0] 142),
 ⟨none,.st (.t 6) (.t 30) 4,none,[]⟩]
 (.seq (sr1 [
 o1 31 (.addo (.t 1) 0),
 o1 32 (.addo (.t 31) 0),
 o1 33 (.ld (.t 32) 1 false),
 o1 34 (.len (.t 33)),
 o1 35 (.mv (.c (.int .i64 0)))]
 (.block 0 (.loop (sr1 [
  o1 36 (.bin .lss (.t 35) (.t 34))]
  (.seq (.cond (.t 36)
  .skip
  (.exit 0))
  (.seq (.block 1 (sr1 [
   m1 37 35,
   m1 7 37]
   (sr1 [
   o1 39 (.addo (.t 1) 0),
   o1 40 (.ld (.t 39) 2 true),
   o1 41 (.addo (.t 1) 33),
   o1 42 (.ld (.t 41) 1 false),
   m1 43 7,
   o1 44 (.addo (.t 1) 34),
   o1 45 (.ld (.t 44) 1 false),
   o1 46 (.addo (.t 1) 35),
   o1 47 (.ld (.t 46) 1 false),
   o1 48 (.addo (.t 1) 2),
   o1 49 (.ld (.t 48) 2 true),
   o1 50 (.call 65 [.t 40,.t 42,.t 43,.t 45,.t 47,.t 49]),
   m1 38 50,
   o1 51 (.ext (.t 38) 0),
   o1 52 (.ext (.t 38) 1),
   m1 8 51,
   m1 9 52]
   (.seq (sr1 [
   m1 53 9,
   o1 54 (.bin .neq (.t 53) (.c (.int .i64 0)))]
   (.cond (.t 54)
   (sr1 [
    o1 55 (.build [.slice none 0 0,.int .i64 0,.int .i64 0] []),
    ⟨none,.st (.t 2) (.t 55) 3,none,[]⟩,
    o1 3 (.mv (.c (.int .i64 0))),
    o1 4 (.mv (.c (.int .i64 9)))]
    .ret)
   .skip))
   (sr1 [
   m1 56 8,
   o1 57 (.len (.t 56)),
   o1 58 (.mv (.c (.int .i64 0)))]
   (.block 2 (.loop (sr1 [
    o1 59 (.bin .lss (.t 58) (.t 57))]
    (.seq (.cond (.t 59)
    .skip
    (.exit 2))
    (.seq (.block 3 (sr1 [
     o1 60 (.ixs (.t 56) (.t 58) 1),
     o1 61 (.ld (.t 60) 1 false),
     m1 11 61]
     (.scope (.seq (.label 0)
     (sr1 [
     o1 62 (.mv (.c (.int .i64 0)))]
     (.block 4 (.loop (sr1 [
      o1 63 (.bin .lss (.t 62) (.c (.int .i64 13)))]
      (.seq (.cond (.t 63)
      .skip
      (.exit 4))
      (.seq (.block 5 (sr1 [
       m1 64 62,
       m1 12 64]
       (sr1 [
       o1 65 (.ld (.t 1) 37 true),
       m1 66 11,
       m1 67 12,
       o1 68 (.call 66 [.t 65,.t 66,.t 67]),
       m1 13 68]
       (.block 6 (.loop (.seq (.block 7 (.seq (sr1 [
        m1 71 13,
        o1 72 (.bin .eql (.t 71) (.c (.int .i64 0)))]
        (.cond (.t 72)
        (.exit 5)
        .skip))
        (sr1 [
        m1 73 11,
        m1 74 13,
        m1 75 12,
        o1 76 (.build [.slice none 0 0,.int .i64 0,.int .i64 0] [(0,1,.t 73),(1,1,.t 74),(2,1,.t 75)]),
        o1 14 (.alloc [.slice none 0 0,.int .i64 0,.int .i64 0] 37),
        ⟨none,.st (.t 14) (.t 76) 3,none,[]⟩]
        (sr1 [
        o1 77 (.ld (.t 1) 37 true),
        o1 78 (.ld (.t 14) 3 true),
        m1 79 7,
        o1 80 (.call 59 [.t 77,.t 78,.t 79]),
        m1 15 80]
        (sr1 [
        o1 81 (.ld (.t 14) 3 true),
        m1 82 15,
        o1 83 (.call 64 [.t 81,.t 82]),
        o1 16 (.alloc [.int .i64 0,.int .i64 0,.int .i64 0,.int .i64 0] 142),
        ⟨none,.st (.t 16) (.t 83) 4,none,[]⟩]
        (sr1 [
        o1 84 (.ld (.t 14) 3 true),
        o1 85 (.ld (.t 16) 4 true),
        o1 86 (.ld (.t 2) 3 true),
        o1 87 (.ld (.t 6) 4 true),
        o1 88 (.call 67 [.t 84,.t 85,.t 86,.t 87])]
        (.cond (.t 88)
        (.regd [0,1,2,3,4,5] [
         .op (o1 89 (.ld (.t 14) 3 true)),
         .hide (.t 2),
         .op (m1 90 15),
         .op (o1 91 (.ld (.t 16) 4 true))] 0 3 [
         ⟨none,.st (.t 2) (.t 89) 3,none,[0]⟩,
         ⟨some 3,.mv (.t 90),none,[0,1,3]⟩,
         ⟨none,.st (.t 6) (.t 91) 4,none,[0,1,2,3,4]⟩])
        .skip)))))))
        (.reg [
        m1 69 13,
        o1 70 (.bin .sub (.t 69) (.c (.int .i64 1))),
        m1 13 70])))))))
      (.reg [
      o1 92 (.bin .add (.t 62) (.c (.int .i64 1))),
      m1 62 92])))))))))))
    (.reg [
    o1 93 (.bin .add (.t 58) (.c (.int .i64 1))),
    m1 58 93])))))))))))
  (.reg [
  o1 94 (.bin .add (.t 35) (.c (.int .i64 1))),
  m1 35 94])))))))
 (sr1 [
 o1 95 (.ld (.t 2) 3 true),
 m1 96 3,
 ⟨none,.st (.t 2) (.t 95) 3,none,[]⟩,
 m1 3 96,
 o1 4 (.mv (.c (.int .i64 0)))]
 .ret))))))
def r25:List RV:=[.cell 2 3 true,.tmp 3,.tmp 4]
theorem n25:Tryz.f25.ntmps=97:=by kernel_rfl
theorem b25:YP Tryz.prog 25=true:=by kernel_rfl
theorem Zzf:XK Tryz.prog c25 ((Tryz.f25.body).getD .skip)=true:=by kernel_rfl
theorem Zyh:Wx Tryz.prog r25 Tryz.f25.results.toList=true:=by kernel_rfl
def c73:SC:=(sr1 [
 o1 0 (.alloc zv2 34)]
 (sr1 [
 o1 1 (.mv (.f 119))]
 (sr1 [
 o1 2 (.build zv3 []),
 o1 3 (.build zv3 [(5,1,.c (.int .i64 1000000))]),
 o1 4 (.build zv3 []),
 o1 5 (.bsl 9 88 [.t 2,.t 3,.t 4]),
 m1 6 1,
 o1 7 (.calv (.t 6) [.c (.int .i64 0),.c (.int .i64 1),.c (.int .i64 40000)]),
 m1 8 1,
 o1 9 (.calv (.t 8) [.c (.int .i64 1),.c (.int .i64 2),.c (.int .i64 40000)]),
 m1 10 1,
 o1 11 (.calv (.t 10) [.c (.int .i64 0),.c (.int .i64 2),.c (.int .i64 100000)]),
 o1 12 (.bsl 5 83 [.t 7,.t 9,.t 11]),
 o1 13 (.build [.slice none 0 0,.slice none 0 0] [(0,1,.t 5),(1,1,.t 12)]),
 o1 14 (.call 43 [.c (.int .i64 20000),.c (.int .i64 20000)]),
 o1 15 (.call 43 [.c (.int .i64 5000),.c (.int .i64 5000)]),
 o1 16 (.call 43 [.c (.int .i64 1000),.c (.int .i64 1000)]),
 o1 17 (.call 43 [.c (.int .i64 100),.c (.int .i64 100)]),
 o1 18 (.call 43 [.c (.int .i64 200000),.c (.int .i64 200000)]),
 o1 19 (.build [.int .i64 0,.int .i64 0,.int .i64 0,.int .i64 0,.int .i64 0,.int .i64 0,.int .i64 0,.int .i64 0,.int .i64 0,.int .i64 0,.int .i64 0,.int .i64 0,.int .i64 0,.int .i64 0,.int .i64 0,.int .i64 0,.int .i64 0] [(0,1,.c (.int .i64 100000)),(1,1,.c (.int .i64 50000)),(2,2,.t 15),(6,2,.t 16),(8,2,.t 17),(15,2,.t 18)]),
 o1 20 (.call 43 [.c (.int .i64 100000),.c (.int .i64 100000)]),
 o1 21 (.call 43 [.c (.int .i64 50000),.c (.int .i64 50000)]),
 o1 22 (.build zv4 [(0,2,.t 20),(2,2,.t 21)]),
 o1 23 (.build [.int .i64 0,.int .i64 0] []),
 o1 24 (.call 43 [.c (.int .i64 50000),.c (.int .i64 50000)]),
 o1 25 (.build [.int .i64 0,.int .i64 0] []),
 o1 26 (.bsl 2 27 [.t 23,.t 24,.t 25]),
 o1 27 (.bsl 1 3 [.c (.int .i64 10),.c (.int .i64 12),.c (.int .i64 40)]),
 o1 28 (.build zv5 [(4,1,.t 26),(5,1,.t 27)]),
 o1 29 (.bsl 6 72 [.t 28]),
 o1 30 (.build zv2 [(0,2,.t 13),(2,2,.t 14),(4,17,.t 19),(21,7,.t 22),(28,1,.c (.int .i64 10)),(29,1,.c (.int .i64 10)),(30,1,.c (.int .i64 50000)),(31,1,.c (.int .i64 10)),(32,1,.c (.int .i64 60)),(35,1,.c (.int .i64 20)),(36,1,.t 29)]),
 ⟨none,.st (.t 0) (.t 30) 37,none,[]⟩]
 .ret)))
def r73:List RV:=[.cell 0 37 true]
theorem n73:Tryz.f73.ntmps=31:=by kernel_rfl
theorem b73:YP Tryz.prog 73=true:=by kernel_rfl
theorem Zy5:XK Tryz.prog c73 ((Tryz.f73.body).getD .skip)=true:=by kernel_rfl
theorem Zz4:Wx Tryz.prog r73 Tryz.f73.results.toList=true:=by kernel_rfl
def c119:SC:=(sr1 [
 o1 6 (.alloc zv7 83)]
 (sr1 [
 m1 7 0,
 m1 8 1,
 m1 9 2,
 m1 10 2,
 o1 11 (.call 43 [.t 9,.t 10]),
 o1 12 (.call 43 [.c (.int .i64 99),.c (.int .i64 99)]),
 o1 13 (.build [.int .i64 0,.int .i64 0,.int .i64 0,.int .i64 0] [(2,2,.t 12)]),
 o1 14 (.bsl 4 85 [.t 13]),
 o1 15 (.build zv7 [(0,1,.t 7),(1,1,.t 8),(2,2,.t 11),(4,1,.t 14)]),
 ⟨none,.st (.t 6) (.t 15) 5,none,[]⟩]
 .ret))
def r119:List RV:=[.cell 6 5 true]
theorem n119:Tryz.f119.ntmps=16:=by kernel_rfl
theorem b119:YP Tryz.prog 119=true:=by kernel_rfl
theorem ZtT:XK Tryz.prog c119 ((Tryz.f119.body).getD .skip)=true:=by kernel_rfl
theorem ZwH:Wx Tryz.prog r119 Tryz.f119.results.toList=true:=by kernel_rfl
def c74:SC:=(sr1 [
 o1 6 (.alloc [.slice none 0 0,.int .i64 0,.int .i64 0] 37)]
 (sr1 [
 m1 7 2,
 m1 8 0,
 m1 9 1,
 o1 10 (.build [.slice none 0 0,.int .i64 0,.int .i64 0] [(0,1,.t 7),(1,1,.t 8),(2,1,.t 9)]),
 ⟨none,.st (.t 6) (.t 10) 3,none,[]⟩]
 .ret))
def r74:List RV:=[.cell 6 3 true]
theorem n74:Tryz.f74.ntmps=11:=by kernel_rfl
theorem b74:YP Tryz.prog 74=true:=by kernel_rfl
theorem Zz1:XK Tryz.prog c74 ((Tryz.f74.body).getD .skip)=true:=by kernel_rfl
theorem Zyv:Wx Tryz.prog r74 Tryz.f74.results.toList=true:=by kernel_rfl
def c43:SC:=(sr1 [
 o1 4 (.alloc [.int .i64 0,.int .i64 0] 27)]
 (sr1 [
 m1 5 0,
 m1 6 1,
 o1 7 (.build [.int .i64 0,.int .i64 0] [(0,1,.t 5),(1,1,.t 6)]),
 ⟨none,.st (.t 4) (.t 7) 2,none,[]⟩]
 .ret))
def r43:List RV:=[.cell 4 2 true]
theorem t43:Qt1 Tryz.prog 43 c43 r43 8:=Z8 Tryz.func43 rfl (by kernel_rfl) (by kernel_rfl) (by kernel_rfl) (by kernel_rfl)
def c30:SC:=(sr1 [
 o1 0 (.mv (.c (.bool false)))]
 (sr1 [
 o1 23 (.call 73 []),
 o1 24 (.bsl 1 3 [.c (.int .i64 0),.c (.int .i64 1)]),
 o1 25 (.call 74 [.c (.int .i64 2),.c (.int .i64 2),.t 24]),
 o1 26 (.call 14 [.t 23,.t 25]),
 m1 22 26,
 o1 27 (.ext (.t 22) 0),
 o1 28 (.ext (.t 22) 1),
 o1 29 (.ext (.t 22) 2),
 o1 30 (.ext (.t 22) 3),
 m1 1 27,
 m1 2 28,
 m1 3 29,
 m1 4 30]
 (sr1 [
 o1 32 (.call 73 []),
 o1 33 (.bsl 1 3 [.c (.int .i64 0),.c (.int .i64 1)]),
 o1 34 (.call 74 [.c (.int .i64 3),.c (.int .i64 2),.t 33]),
 o1 35 (.call 14 [.t 32,.t 34]),
 m1 31 35,
 o1 36 (.ext (.t 31) 0),
 o1 37 (.ext (.t 31) 1),
 o1 38 (.ext (.t 31) 2),
 o1 39 (.ext (.t 31) 3),
 m1 5 36,
 m1 6 37,
 m1 7 38,
 m1 8 39]
 (sr1 [
 o1 41 (.call 73 []),
 o1 42 (.bsl 1 3 [.c (.int .i64 2)]),
 o1 43 (.call 74 [.c (.int .i64 10),.c (.int .i64 1),.t 42]),
 o1 44 (.call 14 [.t 41,.t 43]),
 m1 40 44,
 o1 45 (.ext (.t 40) 0),
 o1 46 (.ext (.t 40) 1),
 o1 47 (.ext (.t 40) 2),
 o1 48 (.ext (.t 40) 3),
 m1 9 45,
 m1 10 46,
 m1 11 47,
 m1 12 48]
 (sr1 [
 o1 50 (.call 73 []),
 o1 51 (.bsl 1 3 [.c (.int .i64 0),.c (.int .i64 1)]),
 o1 52 (.call 74 [.c (.int .i64 2),.c (.int .i64 2),.t 51]),
 o1 53 (.call 20 [.t 50,.t 52]),
 m1 49 53,
 o1 54 (.ext (.t 49) 0),
 o1 55 (.ext (.t 49) 1),
 m1 13 54,
 m1 14 55]
 (sr1 [
 o1 57 (.call 73 []),
 o1 58 (.bsl 1 3 [.c (.int .i64 0),.c (.int .i64 1)]),
 o1 59 (.call 74 [.c (.int .i64 2),.c (.int .i64 2),.t 58]),
 o1 60 (.call 22 [.t 57,.t 59,.c (.int .i64 0)]),
 m1 56 60,
 o1 61 (.ext (.t 56) 0),
 o1 62 (.ext (.t 56) 1),
 m1 15 61,
 m1 16 62]
 (sr1 [
 o1 64 (.call 73 []),
 o1 65 (.call 25 [.t 64]),
 m1 63 65,
 o1 66 (.ext (.t 63) 0),
 o1 67 (.ext (.t 63) 1),
 o1 68 (.ext (.t 63) 2),
 o1 17 (.alloc [.slice none 0 0,.int .i64 0,.int .i64 0] 37),
 ⟨none,.st (.t 17) (.t 66) 3,none,[]⟩,
 m1 18 67,
 m1 19 68]
 (sr1 [
 o1 70 (.call 73 []),
 o1 71 (.call 27 [.t 70]),
 m1 69 71,
 o1 72 (.ext (.t 69) 0),
 o1 73 (.ext (.t 69) 1),
 m1 20 72,
 m1 21 73]
 (.seq (.regd [0,1,2,3,4,5,6,7,8,9,10,11,12,13,14,15,16,17,18,19,20,21,22,23,24,25,26,27,28,29,30,31,32,33,34,35,36,37,38,39,40,41,42,43,44,45,46,47,48,49,50,51,52,53,54,55,56,57,58,59,60,61,62] [
 .op (m1 74 4),
 .op ⟨some 75,.bin .eql (.t 74) (.c (.int .i64 0)),none,[0]⟩,
 .op ⟨some 76,.mv (.t 75),none,[1]⟩,
 .op ⟨some 77,.mv (.t 1),some (76,true),[2]⟩,
 .op ⟨some 78,.bin .eql (.t 77) (.c (.int .u8 0)),some (76,true),[2,3]⟩,
 .op ⟨some 79,.pick (.t 76) (.t 78) (.c (.bool false)),none,[2,4]⟩,
 .op ⟨some 80,.mv (.t 79),none,[2,5]⟩,
 .op ⟨some 81,.mv (.t 8),some (80,true),[6]⟩,
 .op ⟨some 82,.bin .eql (.t 81) (.c (.int .i64 0)),some (80,true),[6,7]⟩,
 .op ⟨some 83,.pick (.t 80) (.t 82) (.c (.bool false)),none,[6,8]⟩,
 .op ⟨some 84,.mv (.t 83),none,[6,9]⟩,
 .op ⟨some 85,.mv (.t 5),some (84,true),[10]⟩,
 .op ⟨some 86,.bin .eql (.t 85) (.c (.int .u8 4)),some (84,true),[10,11]⟩,
 .op ⟨some 87,.pick (.t 84) (.t 86) (.c (.bool false)),none,[10,12]⟩,
 .op ⟨some 88,.mv (.t 87),none,[10,13]⟩,
 .op ⟨some 89,.mv (.t 12),some (88,true),[14]⟩,
 .op ⟨some 90,.bin .eql (.t 89) (.c (.int .i64 0)),some (88,true),[14,15]⟩,
 .op ⟨some 91,.pick (.t 88) (.t 90) (.c (.bool false)),none,[14,16]⟩,
 .op ⟨some 92,.mv (.t 91),none,[14,17]⟩,
 .op ⟨some 93,.mv (.t 9),some (92,true),[18]⟩,
 .op ⟨some 94,.bin .eql (.t 93) (.c (.int .u8 0)),some (92,true),[18,19]⟩,
 .op ⟨some 95,.pick (.t 92) (.t 94) (.c (.bool false)),none,[18,20]⟩,
 .op ⟨some 96,.mv (.t 95),none,[18,21]⟩,
 .op ⟨some 97,.mv (.t 14),some (96,true),[22]⟩,
 .op ⟨some 98,.bin .eql (.t 97) (.c (.int .i64 0)),some (96,true),[22,23]⟩,
 .op ⟨some 99,.pick (.t 96) (.t 98) (.c (.bool false)),none,[22,24]⟩,
 .op ⟨some 100,.mv (.t 99),none,[22,25]⟩,
 .op ⟨some 101,.mv (.t 13),some (100,true),[26]⟩,
 .op ⟨some 102,.bin .eql (.t 101) (.c (.int .i64 600)),some (100,true),[26,27]⟩,
 .op ⟨some 103,.pick (.t 100) (.t 102) (.c (.bool false)),none,[26,28]⟩,
 .op ⟨some 104,.mv (.t 103),none,[26,29]⟩,
 .op ⟨some 105,.mv (.t 16),some (104,true),[30]⟩,
 .op ⟨some 106,.bin .eql (.t 105) (.c (.int .i64 0)),some (104,true),[30,31]⟩,
 .op ⟨some 107,.pick (.t 104) (.t 106) (.c (.bool false)),none,[30,32]⟩,
 .op ⟨some 108,.mv (.t 107),none,[30,33]⟩,
 .op ⟨some 109,.mv (.t 15),some (108,true),[34]⟩,
 .op ⟨some 110,.build [.int .i64 0,.int .i64 0,.int .i64 0] [(0,1,.c (.int .i64 1)),(1,1,.c (.int .i64 2)),(2,1,.c (.int .i64 100000))],some (108,true),[34]⟩,
 .op ⟨some 111,.bsl 3 111 [.t 110],some (108,true),[34,36]⟩,
 .op ⟨some 112,.call 24 [.t 109,.t 111],some (108,true),[34,35,37]⟩,
 .op ⟨some 113,.pick (.t 108) (.t 112) (.c (.bool false)),none,[34,38]⟩,
 .op ⟨some 114,.mv (.t 113),none,[38,39]⟩,
 .op ⟨some 115,.mv (.t 19),some (114,true),[40]⟩,
 .op ⟨some 116,.bin .eql (.t 115) (.c (.int .i64 0)),some (114,true),[40,41]⟩,
 .op ⟨some 117,.pick (.t 114) (.t 116) (.c (.bool false)),none,[40,42]⟩,
 .op ⟨some 118,.mv (.t 117),none,[40,43]⟩,
 .op ⟨some 119,.mv (.t 18),some (118,true),[44]⟩,
 .op ⟨some 120,.bin .eql (.t 119) (.c (.int .i64 660)),some (118,true),[44,45]⟩,
 .op ⟨some 121,.pick (.t 118) (.t 120) (.c (.bool false)),none,[44,46]⟩,
 .op ⟨some 122,.mv (.t 121),none,[44,47]⟩,
 .op ⟨some 123,.ld (.t 17) 3 true,some (122,true),[48]⟩,
 .op ⟨some 124,.bsl 1 3 [.c (.int .i64 0),.c (.int .i64 1)],some (122,true),[48]⟩,
 .op ⟨some 125,.call 74 [.c (.int .i64 1),.c (.int .i64 4),.t 124],some (122,true),[48,50]⟩,
 .op ⟨some 126,.call 19 [.t 123,.t 125],some (122,true),[48,49,51]⟩,
 .op ⟨some 127,.pick (.t 122) (.t 126) (.c (.bool false)),none,[48,52]⟩,
 .op ⟨some 128,.mv (.t 127),none,[52,53]⟩,
 .op ⟨some 129,.mv (.t 21),some (128,true),[54]⟩,
 .op ⟨some 130,.bin .eql (.t 129) (.c (.int .i64 0)),some (128,true),[54,55]⟩,
 .op ⟨some 131,.pick (.t 128) (.t 130) (.c (.bool false)),none,[54,56]⟩,
 .op ⟨some 132,.mv (.t 131),none,[54,57]⟩,
 .op ⟨some 133,.mv (.t 20),some (132,true),[58]⟩,
 .op ⟨some 134,.bin .eql (.t 133) (.c (.int .i64 1200)),some (132,true),[58,59]⟩,
 .op ⟨some 135,.pick (.t 132) (.t 134) (.c (.bool false)),none,[58,60]⟩,
 .op ⟨some 0,.mv (.t 135),none,[0,1,2,3,4,5,6,7,8,9,10,11,12,13,14,15,16,17,18,19,20,21,22,23,24,25,26,27,28,29,30,31,32,33,34,35,36,37,38,39,40,41,42,43,44,45,46,47,48,49,50,51,52,53,54,55,56,57,58,59,60,61]⟩] 0 0 [
])
 .ret)))))))))
def r30:List RV:=[.tmp 0]
theorem t30:Qt1 Tryz.prog 30 c30 r30 136:=Z8 Tryz.func30 rfl (by kernel_rfl) (by kernel_rfl) (by kernel_rfl) (by kernel_rfl)
def c31:SC:=(sr1 [
 o1 2 (.box (.t 0) 0 34),
 o1 3 (.box (.t 1) 0 37),
 o1 4 (.mv (.c (.bool false)))]
 (sr1 [
 o1 5 (.ld (.t 2) 37 true),
 o1 6 (.call 12 [.t 5]),
 o1 7 (.un .not (.t 6)),
 m1 8 7,
 ⟨some 9,.ld (.t 2) 37 true,some (8,true),[]⟩,
 ⟨some 10,.call 17 [.t 9],some (8,true),[]⟩,
 ⟨some 11,.bin .eql (.t 10) (.c (.int .i64 0)),some (8,true),[]⟩,
 o1 12 (.pick (.t 8) (.t 11) (.c (.bool false))),
 m1 13 12,
 ⟨some 14,.addo (.t 3) 0,some (13,true),[]⟩,
 ⟨some 15,.ld (.t 14) 1 false,some (13,true),[]⟩,
 ⟨some 16,.len (.t 15),some (13,true),[]⟩,
 ⟨some 17,.bin .leq (.t 16) (.c (.int .i64 40)),some (13,true),[]⟩,
 o1 18 (.pick (.t 13) (.t 17) (.c (.bool false))),
 m1 19 18,
 ⟨some 20,.ld (.t 2) 37 true,some (19,true),[]⟩,
 ⟨some 21,.ld (.t 3) 3 true,some (19,true),[]⟩,
 ⟨some 22,.call 44 [.t 20,.t 21],some (19,true),[]⟩,
 o1 23 (.pick (.t 19) (.t 22) (.c (.bool false))),
 m1 24 23,
 ⟨some 25,.addo (.t 2) 35,some (24,true),[]⟩,
 ⟨some 26,.ld (.t 25) 1 false,some (24,true),[]⟩,
 ⟨some 27,.bin .leq (.t 26) (.c (.int .i64 2000)),some (24,true),[]⟩,
 o1 28 (.pick (.t 24) (.t 27) (.c (.bool false))),
 m1 4 28]
 .ret))
def r31:List RV:=[.tmp 4]
theorem t31:Qt1 Tryz.prog 31 c31 r31 29:=Z8 Tryz.func31 rfl (by kernel_rfl) (by kernel_rfl) (by kernel_rfl) (by kernel_rfl)
open Go.Azalai
theorem ZzP {s:Season} (h:OkS s) {p:Plan} (hp:Xs s p=true):∃ m:Nat,m < s.land.wells.length/\YH s.land s.start [s.start] p.legs=some (m:Int):=by
 obtain ⟨⟨to,hto⟩,_⟩:=VB hp
 have:=Zdr h.lp h.start hto
 exact ⟨to.toNat,by omega,by rw [hto];congr 1;omega⟩
theorem Zel (s:Season) (hs:SmallS s) (p:Plan) (hg:p.legs.length<=1000):Ct Tryz.prog 20 [.agg (Zr s),.agg (ZC p)] (.tup [I (Zam s p).1,I (Zam s p).2]):=by
 refine t20.1 (by simp [Zr,ZC,Zj,Zg,Zm,Zh,Zd,Zo,Za,KFL,KF]) (by simp [KFL,KF]) ?_
 dsimp only [c20,r20,Zr,ZC,go_sem,rA,rM,rS]
 refine call (VN s hs p hg) ?_
 dsimp only [Zcu,go_sem,rA,rM,rS]
 by_cases he:(Yr s p).2.2.2=0
 case neg =>
  refine Zv (by simpa using he) ?_
  dsimp only [go_sem,rA,rM,rS]
  simp [Zam,he]
 refine Zw (by simpa using he) ?_
 dsimp only [go_sem,rA,rM,rS]
 by_cases hw:(Yr s p).1=0
 case neg =>
  refine Zv (by simpa using hw) ?_
  dsimp only [go_sem,rA,rM,rS]
  simp [Zam,he,hw]
 refine Zw (by simpa using hw) ?_
 dsimp only [go_sem,rA,rM,rS]
 obtain ⟨ho,hp⟩:=Zby he
 have h:OkS s:=⟨hs,ho⟩
 obtain ⟨m,hm,hto⟩:=ZzP h hp
 refine call (Zd4 s hs h.land h.pace h.start p.legs hg _) ?_
 dsimp only [go_sem,rA,rM,rS]
 rw [hto]
 simp only [Option.getD_some]
 refine call (ZgB s h p hp m hm) ?_
 dsimp only [go_sem,rA,rM,rS]
 simp [Zam,he,hw,hto]
def Zk7 (r:List Draw × Int):SV:=.tup [.sl false 3 (r.1.map Z5),I r.2]
theorem u22 {args:List SV} {res:SV} (ka:KFL args) (kr:KF res) (h:sx Tryz.prog Y0 0 cw22 (st0 args 48) (Zqm rw22 res)) (hA:Nat.ble args.length 48=true:=by rfl):Ct Tryz.prog 22 args res:=WU Tryz.func22 rfl bw22 Zvf Ztk nw22 (Nat.le_of_ble_eq_true hA) ka kr h
theorem ZrM (s:Season) (hs:SmallS s) (p:Plan) (hg:p.legs.length<=1000) (k:Int):Ct Tryz.prog 22 [.agg (Zr s),.agg (ZC p),I k] (Zk7 (ZcN s p k)):=by
 have hsc:=hs.sc
 refine u22 (by simp [Zr,ZC,Zj,Zg,Zm,Zh,Zd,Zo,Za,KFL,KF]) (by simp [Zk7,Z5,Za,KFL,KF]) ?_
 dsimp only [cw22,rw22,Zr,ZC,go_sem,rA,rM,rS]
 refine call (VN s hs p hg) ?_
 dsimp only [Zcu,go_sem,rA,rM,rS]
 by_cases he:(Yr s p).2.2.2=0
 case neg =>
  refine Zv (by simpa using he) ?_
  dsimp only [go_sem,rA,rM,rS]
  refine ⟨_,rfl,?_⟩
  rw [ZcN,if_pos he]
  exact Wi (Z3 YV Wg)
 refine Zw (by simpa using he) ?_
 dsimp only [go_sem,rA,rM,rS]
 obtain ⟨ho,hp⟩:=Zby he
 have h:OkS s:=⟨hs,ho⟩
 try simp only [List.length_map]
 repeat (first | (refine gb ?_;dsimp only [go_sem,rA,rM,rS]) | (refine call (Zf4 _ _ _ _) ?_;dsimp only [go_sem,rA,rM,rS]))
 simp only [List.length_map]
 rw [Zf (n:=(s.scenes.length:Int) - 1) (by omega) (by omega)]
 by_cases hw:(Yr s p).1≠0\/inR 0 (s.scenes.length - 1) k=false
 . refine Zv (by simpa using hw) ?_
   dsimp only [go_sem,rA,rM,rS]
   refine ⟨_,rfl,?_⟩
   rw [ZcN,if_neg (by simpa using he),if_pos hw]
   exact Wi (Z3 YV Wg)
 refine Zw (by simpa using hw) ?_
 dsimp only [go_sem,rA,rM,rS]
 have hw1:(Yr s p).1=0:=Classical.byContradiction fun q=>hw (.inl q)
 have hk:0<=k/\k < s.scenes.length:=by
  have:inR 0 (s.scenes.length - 1) k=true:=by cases hq:inR 0 (s.scenes.length - 1) k with | true=>rfl | false=>exact absurd (.inr hq) hw
  simp only [inR,decide_eq_true_eq] at this;omega
 obtain ⟨j,rfl⟩:∃ j:Nat,k=j:=⟨k.toNat,by omega⟩
 have hj:j < s.scenes.length:=by omega
 have ht:=Zmr s h j hj p hp hg
 have hf:=Zph he hw1 _ (List.getElem_mem hj)
 have hR:ZcN s p j=(XY s s.scenes[j] p.animals p.slabs (ZJ s p.legs),0):=by
  rw [ZcN,if_neg (by simpa using he),if_neg hw]
  simp only [Int.toNat_natCast,List.getElem?_eq_getElem hj]
 rw [hR]
 have hT:WE s p s.scenes[j]=XY s s.scenes[j] p.animals p.slabs (ZJ s p.legs):=by rw [WE,if_pos hf]
 rw [hT] at ht
 generalize XY s s.scenes[j] p.animals p.slabs (ZJ s p.legs)=D at ht ⊢
 generalize XI s p s.scenes[j]=w at ht
 refine YO [] ht rfl rfl rfl ?_ ?_ ?_
 . exact Zc (by simp [Yv,ZC,Zg,Zm,Zh,Zj,Zd,Zo,ZT,Za,KFL,KF])
 . trivial
 rintro _ rfl
 (repeat first | dsimp only [Zsa,go_sem,rA,rM,rS] | simp only [nbr])
 exact ⟨_,rfl,fun _ _ _ _ _ h=>h⟩
theorem ZeS (a b:List Draw) (ha:a.length<=1000000) (hb:b.length<=1000000) (c d:Bool):Ct Tryz.prog 24 [.sl c 3 (a.map Z5),.sl d 3 (b.map Z5)] (B (decide (a=b))):=by
 refine t24.1 (by simp [Z5,Za,KFL,KF]) (by simp [KFL,KF]) ?_
 dsimp only [c24,r24,go_sem,rA,rM,rS]
 simp only [List.length_map]
 by_cases hl:a.length=b.length
 case neg =>
  refine Zv (by simp;omega) ?_
  dsimp only [go_sem,rA,rM,rS]
  rw [decide_eq_false (fun e=>hl (by rw [e]))]
 refine Zw (by simp;omega) ?_
 dsimp only [go_sem,rA,rM,rS]
 refine WH [0,1,4,5] rfl (fun k:Nat=>[(5,I k)]) (fun _=>[]) (fun k=>k<=a.length/\(a=b↔a.drop k=b.drop k)) (fun k=>a.length - k) 0 ⟨Nat.zero_le _,by simp⟩ ?_ ?_
 . (refine Zl ?_ ?_ ?_ rfl rfl<;>dsimp only [Z5,id,go_sem,rA,rM,rS]<;>simp [Z5,Za,Ze,KFR,KFL,KF,Zc,mtO,nbr])
 rintro k ⟨hk,hi⟩
 dsimp only [go_sem,rA,rM,rS]
 simp only [List.length_map]
 by_cases hlt:k < a.length
 case neg =>
  refine Zw (by simp;omega) ?_
  dsimp only [go_sem,rA,rM,rS]
  rw [List.drop_eq_nil_of_le (by omega),List.drop_eq_nil_of_le (by omega)] at hi
  rw [decide_eq_true (hi.2 rfl)]
 refine Zv (by simpa using hlt) ?_
 dsimp only [go_sem,rA,rM,rS]
 have hlb:k < b.length:=by omega
 refine Zp k hlt rfl ?_
 dsimp only [go_sem,rA,rM,rS]
 refine Zp k hlb rfl ?_
 dsimp only [Z5,go_sem,rA,rM,rS]
 rw [List.drop_eq_getElem_cons hlt,List.drop_eq_getElem_cons hlb,List.cons.injEq] at hi
 by_cases hq:a[k]=b[k]
 . refine Zw (by simp [hq]) ?_
   dsimp only [go_sem,rA,rM,rS]
   rw [Zf (n:=(k:Int)+1) (by omega) (by omega)]
   refine ⟨k+1,⟨hlt,by rw [hi];simp [hq]⟩,by omega,?_⟩
   (refine Zl ?_ ?_ ?_ rfl rfl<;>dsimp only [Z5,id,go_sem,rA,rM,rS]<;>simp [Z5,Za,Ze,KFR,KFL,KF,Zc,mtO,nbr])
 . have hne:¬ (a[k].well=b[k].well/\a[k].day=b[k].day/\a[k].water=b[k].water):=fun q=>hq (by
    revert q;generalize a[k]=x;generalize b[k]=y;intro q;cases x;cases y;simpa using q)
   refine Zv (by simp;omega) ?_
   dsimp only [go_sem,rA,rM,rS]
   rw [decide_eq_false (fun e=>hq (hi.1 e).1)]
end Go.Proofs.YtiigiflofnjilaaGreat
namespace Go.Azalai
open Go.Sx Go.Proofs.YtiigiflofnjilaaGreat
theorem Zqb {l:Land} {well day:Int}:(X1 l well [] day).1.lo<=1000000000:=by
 unfold X1
 split
 . simp
 rename_i h1
 split
 . simp
 split
 . simp
 split
 . simp
 split
 . rename_i w hw
   simp only [Bool.not_eq_false,ZM,Bool.and_eq_true,List.all_eq_true,inR,decide_eq_true_eq] at h1
   have hwell:=h1.1.2 w (List.mem_of_getElem? hw)
   simp only [YM,Z6,inR,Bool.and_eq_true,decide_eq_true_eq] at hwell
   simp only [Vw,Wm]
   omega
 . simp
theorem Zyg {s:Season} {x:Scene} (st:Stop):ZaY s x st<=1000000000:=Zqb
theorem Ze6 {s:Season} {p:Plan} {x:Scene} (h:OkS s) (hp:Xs s p=true):∀ d ∈ WE s p x,0<=d.water/\d.water<=30000000:=by
 have hn:=h.num
 obtain ⟨_,hpl⟩:=VB hp
 intro d hd
 unfold WE at hd
 split at hd
 . unfold XY at hd
   split at hd
   . cases hd
   split at hd
   . obtain ⟨st,_,rfl⟩:=List.mem_map.1 hd
     simp
   . unfold VD at hd
     obtain ⟨i,hi,rfl⟩:=List.getElem_of_mem hd
     simp only [List.length_zipWith] at hi
     rw [List.getElem_zipWith]
     have hb:=(Zzd (x:=x) (slabs:=p.slabs) (l:=ZJ s p.legs) h.beast.1 h.beast.2).1 _ (List.getElem_mem (show i < _ by omega))
     simp only [Zb4]
     have h1:0<=p.animals * ((goF s x p.slabs (ZJ s p.legs)).2.2[i]'(by omega)).1:=Int.mul_nonneg hpl.1 hb.1
     have h2:p.animals * ((goF s x p.slabs (ZJ s p.legs)).2.2[i]'(by omega)).1<=30 * 1000000:=Int.mul_le_mul (by omega) hb.2 hb.1 (by decide)
     omega
 . cases hd
theorem Zjg {s:Season} {p:Plan} {x:Scene} (hg:p.legs.length<=1000):(WE s p x).length<=1000:=by
 have h1:(ZJ s p.legs).length<=1000:=Nat.le_trans ZbV hg
 unfold WE XY
 split
 . split
   . simp
   split
   . simp;omega
   . simp only [VD,List.length_zipWith];omega
 . simp
end Go.Azalai
namespace Go.Proofs.YtiigiflofnjilaaGreat
open Go Go.Sx Go.Azalai
theorem ZvB (s:Season) (h:OkS s) (a:List Int) (ha:(YH s.land s.start [s.start] a).isSome=true) (hg:a.length<=1000) (k:Int) (hk:0<=k/\k<=12) :
 Ct Tryz.prog 66 [.agg (Zr s),.sl false 1 (a.map Zo),I k] (I (Zfu s a k)):=by
 have hnum:=h.num
 have hsc:=h.scs
 have hp:Xs s ⟨a,1,k⟩=true:=by
  simp only [Xs,ha,inR,Bool.true_and,Bool.and_eq_true,decide_eq_true_eq];omega
 refine tw66.1 (by simp [Zr,Zj,Zg,Zm,Zh,Zd,Zo,Za,KFL,KF]) (by simp [KFL,KF]) ?_
 dsimp only [cw66,rw66,Zr,go_sem,rA,rM,rS]
 simp only [List.length_map]
 refine WH [1,2,3,7,18,19] rfl (fun q:Nat × Int=>[(19,I q.1),(7,I q.2)]) (fun _=>[])
  (fun q=>q.1<=s.scenes.length/\Zsi s a k (s.scenes.drop q.1) q.2=Zfu s a k/\0<=q.2/\q.2<=30) (fun q=>s.scenes.length - q.1) (0,s.herd) ⟨Nat.zero_le _,rfl,by simp only;omega,by simp only;omega⟩ ?_ ?_
 . (refine Zl ?_ ?_ ?_ rfl rfl<;>dsimp only [Zg,Zm,Zh,Zj,Zd,Zo,id,go_sem,rA,rM,rS]<;>simp [Zg,Zm,Zh,Zj,Zd,Zo,Za,Ze,KFR,KFL,KF,Zc,mtO,nbr])
 rintro ⟨j,n⟩ ⟨hj,hi,hn0,hn1⟩
 simp only at hj hi hn0 hn1
 dsimp only [go_sem,rA,rM,rS]
 by_cases hlt:j < s.scenes.length
 case neg =>
  refine Zw (by simp;omega) ?_
  dsimp only [go_sem,rA,rM,rS]
  rw [List.drop_eq_nil_of_le (by omega),Zsi] at hi
  rw [hi]
 refine Zv (by simpa using hlt) ?_
 dsimp only [go_sem,rA,rM,rS]
 have ht:=Zmr s h j hlt ⟨a,1,k⟩ hp hg
 have hx:=h.scene _ (List.getElem_mem hlt)
 have hy:s.scenes[j].yields.length=s.land.wells.length:=by simp only [Z9,Bool.and_eq_true,decide_eq_true_eq] at hx;omega
 have hwat:=Ze6 (x:=s.scenes[j]) h hp
 have hlen:=Zjg (s:=s) (p:=⟨a,1,k⟩) (x:=s.scenes[j]) hg
 rw [List.drop_eq_getElem_cons hlt,Zsi] at hi
 generalize WE s ⟨a,1,k⟩ s.scenes[j]=D at ht hi hwat hlen
 generalize XI s ⟨a,1,k⟩ s.scenes[j]=w at ht hi
 refine YO [] ht rfl rfl rfl ?_ ?_ ?_
 . exact Zc (by simp [Yv,ZC,Zg,Zm,Zh,Zj,Zd,Zo,ZT,Za,KFL,KF])
 . trivial
 rintro _ rfl
 (repeat first | dsimp only [Zsa,go_sem,rA,rM,rS] | simp only [nbr])
 by_cases hw0:w.1=0
 case neg =>
  refine Zv (by simpa using hw0) ?_
  dsimp only [go_sem,rA,rM,rS]
  rw [if_pos hw0] at hi
  rw [<- hi]
 refine Zw (by simpa using hw0) ?_
 dsimp only [go_sem,rA,rM,rS]
 rw [if_neg (by simpa using hw0)] at hi
 simp only [List.length_map]
 refine WH [1,2,3,7,9,18,19,36,37,38] rfl (fun q:Nat × Int=>[(38,I q.1),(7,I q.2)]) (fun _=>[])
  (fun q=>q.1<=D.length/\Zio s s.scenes[j] (D.drop q.1) q.2=Zio s s.scenes[j] D n/\0<=q.2/\q.2<=30) (fun q=>D.length - q.1) (0,n) ⟨Nat.zero_le _,rfl,hn0,hn1⟩ ?_ ?_
 . (refine Zl ?_ ?_ ?_ rfl rfl<;>dsimp only [Yv,Zg,Zm,Zh,Zj,Zd,Zo,ZT,Z5,id,go_sem,rA,rM,rS]<;>simp [Yv,Zg,Zm,Zh,Zj,Zd,Zo,ZT,Z5,Za,Ze,KFR,KFL,KF,Zc,mtO,nbr])
 rintro ⟨i,m⟩ ⟨hi0,hi1,hm0,hm1⟩
 simp only at hi0 hi1 hm0 hm1
 dsimp only [go_sem,rA,rM,rS]
 by_cases hilt:i < D.length
 case neg =>
  refine Zw (by simp;omega) ?_
  dsimp only [go_sem,rA,rM,rS]
  rw [List.drop_eq_nil_of_le (by omega),Zio] at hi1
  rw [Zf (n:=(j:Int)+1) (by omega) (by omega)]
  refine ⟨(j+1,m),⟨hlt,by simp only;rw [hi1];exact hi,hm0,hm1⟩,by simp only;omega,?_⟩
  (refine Zl ?_ ?_ ?_ rfl rfl<;>dsimp only [Yv,Zg,Zm,Zh,Zj,Zd,Zo,ZT,Z5,id,go_sem,rA,rM,rS]<;>simp [Yv,Zg,Zm,Zh,Zj,Zd,Zo,ZT,Z5,Za,Ze,KFR,KFL,KF,Zc,mtO,nbr])
 refine Zv (by simpa using hilt) ?_
 dsimp only [go_sem,rA,rM,rS]
 refine Zp i hilt rfl ?_
 dsimp only [Z5,go_sem,rA,rM,rS]
 rw [List.drop_eq_getElem_cons hilt,Zio] at hi1
 have hw:=hwat _ (List.getElem_mem hilt)
 have hnext:IntKind.i64.wrap ((i:Int)+1)=((i+1:Nat):Int):=by rw [Zf (by omega) (by omega)];omega
 by_cases hpos:D[i].water > 0
 . refine Zv (by simpa using hpos) ?_
   dsimp only [go_sem,rA,rM,rS]
   refine call (Zsv s h.small j hlt hy ⟨0,D[i].well,⟨0,0⟩,⟨D[i].day,0⟩⟩) ?_
   dsimp only [go_sem,rA,rM,rS]
   refine Zir (by omega) ?_
   have h1:=Zsx (s:=s) (x:=s.scenes[j]) ⟨0,D[i].well,⟨0,0⟩,⟨D[i].day,0⟩⟩
   have h2:=Zyg (s:=s) (x:=s.scenes[j]) ⟨0,D[i].well,⟨0,0⟩,⟨D[i].day,0⟩⟩
   have h3:=Wv (d:=D[i].water) h1 h2 (by omega)
   dsimp only [go_sem,rA,rM,rS]
   rw [Zf (n:=(ZaY s s.scenes[j] ⟨0,D[i].well,⟨0,0⟩,⟨D[i].day,0⟩⟩).tdiv D[i].water) (by omega) (by omega),hnext]
   rw [if_pos hpos] at hi1
   refine ⟨(i+1,min m ((ZaY s s.scenes[j] ⟨0,D[i].well,⟨0,0⟩,⟨D[i].day,0⟩⟩).tdiv D[i].water)),⟨hilt,hi1,by simp only;omega,by simp only;omega⟩,by simp only;omega,?_⟩
   (refine Zl ?_ ?_ ?_ rfl rfl<;>dsimp only [Yv,Zg,Zm,Zh,Zj,Zd,Zo,ZT,Z5,id,go_sem,rA,rM,rS]<;>simp [Yv,Zg,Zm,Zh,Zj,Zd,Zo,ZT,Z5,Za,Ze,KFR,KFL,KF,Zc,mtO,nbr])
 . refine Zw (by simpa using hpos) ?_
   dsimp only [go_sem,rA,rM,rS]
   rw [hnext]
   rw [if_neg hpos] at hi1
   refine ⟨(i+1,m),⟨hilt,hi1,hm0,hm1⟩,by simp only;omega,?_⟩
   (refine Zl ?_ ?_ ?_ rfl rfl<;>dsimp only [Yv,Zg,Zm,Zh,Zj,Zd,Zo,ZT,Z5,id,go_sem,rA,rM,rS]<;>simp [Yv,Zg,Zm,Zh,Zj,Zd,Zo,ZT,Z5,Za,Ze,KFR,KFL,KF,Zc,mtO,nbr])
def Vz (b:Bst):List SV:=[I b.w,I (-b.an),I (-b.sl),I (-(b.legs.length:Int))]
theorem mapW (a:List Nat):(Xi a).map Zo=a.map Ym:=by simp [Xi,Ym,Zo]
theorem ZgE (a:List Nat):(Xi a).length=a.length:=by simp [Xi]
structure SmB (b:Bst):Prop where
 len:b.legs.length<=1000
 an:0<=b.an/\b.an<=30
 sl:0<=b.sl/\b.sl<=12
theorem ZdY (b:Bst) (hb:SmB b):Ct Tryz.prog 64 [.agg (ZC b.plan),I b.w] (.agg (Vz b)):=by
 obtain ⟨h1,h2,h3⟩:=hb
 refine t64.1 (by simp [ZC,Bst.plan,Zo,Za,KFL,KF]) (by simp [Vz,KFL,KF]) ?_
 dsimp only [c64,r64,ZC,Bst.plan,Vz,go_sem,rA,rM,rS]
 simp only [List.length_map,ZgE]
 rw [Int.zero_sub,Int.zero_sub,Int.zero_sub,Zf (n:=-b.an) (by omega) (by omega),Zf (n:=-b.sl) (by omega) (by omega),Zf (n:=-(b.legs.length:Int)) (by omega) (by omega)]
theorem ZiL (q p:Bst) (hq:SmB q) (hp:SmB p):Ct Tryz.prog 67 [.agg (ZC q.plan),.agg (Vz q),.agg (ZC p.plan),.agg (Vz p)] (B (Yu q p)):=by
 have hq1:=hq.len
 have hp1:=hp.len
 refine t67.1 (by simp [ZC,Bst.plan,Zo,Za,Vz,KFL,KF]) (by simp [KFL,KF]) ?_
 dsimp only [c67,r67,ZC,Bst.plan,Vz,go_sem,rA,rM,rS]
 by_cases e:q.w=p.w/\q.an=p.an/\q.sl=p.sl/\q.legs.length=p.legs.length
 . obtain ⟨e1,e2,e3,e4⟩:=e
   refine Zv (by simp [e1,e2,e3,e4]) ?_
   dsimp only [go_sem,rA,rM,rS]
   have hc:=Zg2 q.legs p.legs (by omega) (by omega)
   simp only [Z2,<- mapW] at hc
   refine call hc ?_
   dsimp only [go_sem,rA,rM,rS]
   rw [ZgI]
   simp [Yu,e1,e2,e3,e4]
 refine Zw (by simp;omega) ?_
 dsimp only [go_sem,rA,rM,rS]
 refine Xp 5 ?_
 dsimp only [Zb,go_sem,rA,rM,rS]
 refine Zv (by decide) ?_
 dsimp only [Zb,go_sem,rA,rM,rS]
 repeat (refine ixa 0 rfl (by decide) ?_;dsimp only [Zb,go_sem,rA,rM,rS])
 by_cases e1:q.w=p.w
 case neg =>
  refine Zv (by simpa using e1) ?_
  dsimp only [Zb,go_sem,rA,rM,rS]
  repeat (refine ixa 0 rfl (by decide) ?_;dsimp only [Zb,go_sem,rA,rM,rS])
  simp [Yu,e1]
 refine Zw (by simpa using e1) ?_
 dsimp only [Zb,go_sem,rA,rM,rS]
 refine Zv (by decide) ?_
 dsimp only [Zb,go_sem,rA,rM,rS]
 repeat (refine ixa 1 rfl (by decide) ?_;dsimp only [Zb,go_sem,rA,rM,rS])
 by_cases e2:q.an=p.an
 case neg =>
  refine Zv (by simp;omega) ?_
  dsimp only [Zb,go_sem,rA,rM,rS]
  repeat (refine ixa 1 rfl (by decide) ?_;dsimp only [Zb,go_sem,rA,rM,rS])
  have:decide (-q.an > -p.an)=decide (q.an < p.an):=by rw [decide_eq_decide];omega
  simp [Yu,e1,e2]
 refine Zw (by simp;omega) ?_
 dsimp only [Zb,go_sem,rA,rM,rS]
 refine Zv (by decide) ?_
 dsimp only [Zb,go_sem,rA,rM,rS]
 repeat (refine ixa 2 rfl (by decide) ?_;dsimp only [Zb,go_sem,rA,rM,rS])
 by_cases e3:q.sl=p.sl
 case neg =>
  refine Zv (by simp;omega) ?_
  dsimp only [Zb,go_sem,rA,rM,rS]
  repeat (refine ixa 2 rfl (by decide) ?_;dsimp only [Zb,go_sem,rA,rM,rS])
  simp [Yu,e1,e2,e3]
 refine Zw (by simp;omega) ?_
 dsimp only [Zb,go_sem,rA,rM,rS]
 refine Zv (by decide) ?_
 dsimp only [Zb,go_sem,rA,rM,rS]
 repeat (refine ixa 3 rfl (by decide) ?_;dsimp only [Zb,go_sem,rA,rM,rS])
 have e4:¬ q.legs.length=p.legs.length:=fun e4=>e ⟨e1,e2,e3,e4⟩
 refine Zv (by simp;omega) ?_
 dsimp only [Zb,go_sem,rA,rM,rS]
 repeat (refine ixa 3 rfl (by decide) ?_;dsimp only [Zb,go_sem,rA,rM,rS])
 simp [Yu,e1,e2,e3,e4]
end Go.Proofs.YtiigiflofnjilaaGreat
namespace Go.Sx
open Go Go.RowKit
theorem ZjX {m:Nat} {σ : St} (k:Nat) {l l':List SV} {T':TypeId} (hk:lkh k σ.hp = .cells l T') (hw:∀ (w:World) (E:Env) (n ok:Nat->Prop) (ys:List Value),RL w E n ok l ys->RL w E n ok l' ys) :
 Ent m σ ⟨σ.fr,(k,.cells l' T') :: σ.hp,σ.n,σ.N,σ.gs⟩:=fun C E a w _ h=>by
 have hocc:∀ b,occ E k (.cells l' T') b↔occ E k (lkh k σ.hp) b:=fun b=>by rw [hk];rfl
 obtain ⟨h6,h7⟩:=W8 (hb:=.cells l' T') (B:=E.β k) h.hs hocc (by rw [hk];rfl) ⟨rfl,rfl,rfl,rfl,fun _ _=>rfl⟩ (fun hst=>by
  have hb:=h.hs.bk k
  rw [hk] at hb
  simp only [Yc] at hb ⊢
  obtain ⟨cs,e1,e2⟩:=hb
  exact ⟨cs,e1,hw _ _ _ _ _ (ZD hst (fun _ _=>Ele.rfl) (fun _ h=>h) _ _ e2)⟩)
 exact ⟨E,fun u=>Xq h7 (fun _ _=>Ele.rfl) (fun _ h=>h) (fun _ _ _ _=>Iff.rfl) (h.fr u),h.sz,X2 h7 h.df,h.gs,h6⟩
end Go.Sx
namespace Go.Proofs.YtiigiflofnjilaaGreat
open Go Go.Sx Go.Azalai
def ZvV (r:Plan × Int × Int):SV:=.tup [.agg (ZC r.1),I r.2.1,I r.2.2]
theorem Zv9 (w:Int):Ct Tryz.prog 64 [.agg [.v (.slice none 0 0),I 0,I 0],I w] (.agg [I w,I 0,I 0,I 0]) :=
 (ZdY ⟨[],0,0,w⟩ ⟨by simp,by simp,by simp⟩).args (by simp [KFL,KF]) (Z3 (VT (Z3 YV Wg)) Wg)
theorem Zv8 {s:Season} {to:Int} {a:List Nat} {k n:Int} (ha:a.length<=1000) (hn:0<=n/\n<=30) (hk:0<=k/\k<=12):SmB (XP s to a k n):=⟨ha,hn,hk⟩
theorem u25 {args:List SV} {res:SV} (ka:KFL args) (kr:KF res) (h:sx Tryz.prog Y0 0 c25 (st0 args 97) (Zqm r25 res)) (hA:Nat.ble args.length 97=true:=by rfl):Ct Tryz.prog 25 args res:=WU Tryz.func25 rfl b25 Zzf Zyh n25 (Nat.le_of_ble_eq_true hA) ka kr h
theorem Zvz (s:Season) (hs:SmallS s):Ct Tryz.prog 25 [.agg (Zr s)] (ZvV (Zg9 s)):=by
 refine u25 (by simp [Zr,Zj,Zg,Zm,Zh,Zd,Zo,Za,KFL,KF]) (by simp [ZvV,ZC,Zo,Za,KFL,KF]) ?_
 dsimp only [c25,r25,Zr,go_sem,rA,rM,rS]
 refine call (ZbB s hs) ?_
 dsimp only [go_sem,rA,rM,rS]
 by_cases ho:ZA s=true
 case neg =>
  refine Zv (by simp [ho]) ?_
  dsimp only [go_sem,rA,rM,rS]
  refine ⟨_,rfl,?_⟩
  rw [show Zg9 s=(⟨[],0,0⟩,0,90) from by unfold Zg9;exact if_pos (by simpa using ho),if_neg ho]
  exact Wi (Z3 (VT (Z3 YV Wg)) Wg)
 refine Zw (by simp [ho]) ?_
 dsimp only [go_sem,rA,rM,rS]
 have h:OkS s:=⟨hs,ho⟩
 have hn:=h.num
 have hw0:0<=s.herd * s.sale/\s.herd * s.sale<=30 * 1000000:=⟨Int.mul_nonneg (by omega) (by omega),Int.mul_le_mul (by omega) (by omega) (by omega) (by decide)⟩
 rw [Zf (n:=s.herd * s.sale) (by omega) (by omega)]
 refine call (Zv9 (s.herd * s.sale)) ?_
 dsimp only [go_sem,rA,rM,rS]
 simp only [List.length_map]
 have hR:Zg9 s=match Zvg s with | none=>(⟨[],0,0⟩,0,9) | some b=>(b.plan,b.w,0):=by unfold Zg9;exact if_neg (by simp [ho])
 have hwl:=h.land
 simp only [ZM,inR,Bool.and_eq_true,decide_eq_true_eq] at hwl
 refine ZeN (YF (UD [1,2,3,6,34,35] rfl) (ZjX 1 (l':=ZC ⟨[],0,0⟩) rfl (Z3 YV Wg)))
  (fun q:Nat × Bst=>[(35,I q.1),(3,I q.2.w)]) (fun q=>[(1,.cells (ZC q.2.plan) 37),(2,.cells (Vz q.2) 142)])
  (fun q=>q.1<=s.land.wells.length/\Zey s ((List.range s.land.wells.length).drop q.1) q.2=Zvg s/\SmB q.2) (fun q=>s.land.wells.length - q.1) (0,⟨[],0,0,s.herd * s.sale⟩)
  ⟨Nat.zero_le _,rfl,⟨by simp,by simp,by simp⟩⟩ ?_ ?_
 . (refine Zl ?_ ?_ ?_ rfl rfl<;>dsimp only [ZC,Vz,Bst.plan,Xi,Zg,Zm,Zh,Zj,Zd,Zo,id,go_sem,rA,rM,rS]<;>simp [ZC,Vz,Bst.plan,Xi,Zg,Zm,Zh,Zj,Zd,Zo,Za,Ze,KFR,KFL,KF,Zc,mtO,nbr])
 rintro ⟨g,b⟩ ⟨hg,hi,hb⟩
 simp only at hg hi hb
 dsimp only [ZC,Vz,go_sem,rA,rM,rS]
 by_cases hlt:g < s.land.wells.length
 case neg =>
  refine Zw (by simp;omega) ?_
  dsimp only [go_sem,rA,rM,rS]
  rw [List.drop_eq_nil_of_le (by simp;omega),Zey] at hi
  rw [hR,<- hi]
  exact ⟨_,rfl,fun _ _ _ _ _ h=>h⟩
 refine Zv (by simpa using hlt) ?_
 dsimp only [go_sem,rA,rM,rS]
 have hwy:=Zqk s.land hs.land s.start g s.day s.till s.pace
 rw [List.drop_eq_getElem_cons (by simpa using hlt),List.getElem_range,Zey] at hi
 by_cases hE:Zdd s.land s.pace s.start g s.day s.till=0
 case neg =>
  simp only [Zda,XQ,if_neg hE] at hwy
  refine call hwy ?_
  dsimp only [go_sem,rA,rM,rS]
  refine Zv (by simpa using hE) ?_
  dsimp only [go_sem,rA,rM,rS]
  rw [if_pos hE] at hi
  rw [hR,<- hi]
  refine ⟨_,rfl,?_⟩
  exact Wi (Z3 (VT (Z3 YV Wg)) Wg)
 simp only [Zda,XQ,if_pos hE] at hwy
 refine call hwy ?_
 dsimp only [go_sem,rA,rM,rS]
 refine Zw (by simpa using hE) ?_
 dsimp only [go_sem,rA,rM,rS]
 rw [if_neg (by simpa using hE)] at hi
 simp only [List.length_map]
 have hmem:∀ a ∈ Zaf s.land s.pace s.start g s.day s.till,YH s.land s.start [s.start] (Xi a)=some (g:Int)/\a.length<=24:=fun a ha=>by
  have h1:=((ZrP h).1 ha).1
  exact ⟨h1,by simpa [Xi] using (lenS h h1).2⟩
 have hwlen:(Zaf s.land s.pace s.start g s.day s.till).length<=1000:=by
  unfold Zdd at hE
  split at hE
  . rename_i q;exact absurd hE q
  split at hE
  . simp at hE
  split at hE
  . simp at hE
  . rename_i q;unfold Zaf;omega
 generalize Zaf s.land s.pace s.start g s.day s.till=W at hi hmem hwlen ⊢
 refine WH [1,2,3,6,7,34,35,56,57,58] rfl (fun q:Nat × Bst=>[(58,I q.1),(3,I q.2.w)]) (fun q=>[(1,.cells (ZC q.2.plan) 37),(2,.cells (Vz q.2) 142)])
  (fun q=>q.1<=W.length/\(W.drop q.1).foldl (ZAr s g) q.2=W.foldl (ZAr s g) b/\SmB q.2) (fun q=>W.length - q.1) (0,b) ⟨Nat.zero_le _,rfl,hb⟩ ?_ ?_
 . (refine Zl ?_ ?_ ?_ rfl rfl<;>dsimp only [ZC,Bst.plan,Vz,XP,Yz,Z2,Ym,Xi,Zg,Zm,Zh,Zj,Zd,Zo,id,go_sem,rA,rM,rS]<;>simp [ZC,Bst.plan,Vz,XP,Yz,Z2,Ym,Xi,Zg,Zm,Zh,Zj,Zd,Zo,Za,Ze,KFR,KFL,KF,Zc,mtO,nbr])
 rintro ⟨i,b1⟩ ⟨hi1,hf1,hb1⟩
 simp only at hi1 hf1 hb1
 dsimp only [ZC,Bst.plan,Vz,go_sem,rA,rM,rS]
 by_cases hilt:i < W.length
 case neg =>
  refine Zw (by simp;omega) ?_
  dsimp only [go_sem,rA,rM,rS]
  rw [List.drop_eq_nil_of_le (by omega),List.foldl_nil] at hf1
  rw [Zf (n:=(g:Int)+1) (by omega) (by omega)]
  refine ⟨(g+1,b1),⟨hlt,by simp only;rw [hf1];exact hi,hb1⟩,by simp only;omega,?_⟩
  (refine Zl ?_ ?_ ?_ rfl rfl<;>dsimp only [ZC,Bst.plan,Vz,XP,Yz,Z2,Ym,Xi,Zg,Zm,Zh,Zj,Zd,Zo,id,go_sem,rA,rM,rS]<;>simp [ZC,Bst.plan,Vz,XP,Yz,Z2,Ym,Xi,Zg,Zm,Zh,Zj,Zd,Zo,Za,Ze,KFR,KFL,KF,Zc,mtO,nbr])
 refine Zv (by simpa using hilt) ?_
 dsimp only [go_sem,rA,rM,rS]
 refine Zp i hilt rfl ?_
 rw [List.drop_eq_getElem_cons hilt,List.foldl_cons] at hf1
 obtain ⟨hto,hal⟩:=hmem _ (List.getElem_mem hilt)
 generalize W[i]=a at hf1 hto hal ⊢
 simp only [Yz,Z2,<- mapW]
 dsimp only [go_sem,rA,rM,rS]
 refine WH [1,2,3,6,7,11,34,35,56,57,58,62] rfl (fun q:Nat × Bst=>[(62,I q.1),(3,I q.2.w)]) (fun q=>[(1,.cells (ZC q.2.plan) 37),(2,.cells (Vz q.2) 142)])
  (fun q=>q.1<=13/\((List.range 13).drop q.1).foldl (ZmG s g a) q.2=ZAr s g b1 a/\SmB q.2) (fun q=>13 - q.1) (0,b1) ⟨Nat.zero_le _,rfl,hb1⟩ ?_ ?_
 . (refine Zl ?_ ?_ ?_ rfl rfl<;>dsimp only [ZC,Bst.plan,Vz,XP,Yz,Z2,Ym,Xi,Zg,Zm,Zh,Zj,Zd,Zo,id,go_sem,rA,rM,rS]<;>simp [ZC,Bst.plan,Vz,XP,Yz,Z2,Ym,Xi,Zg,Zm,Zh,Zj,Zd,Zo,Za,Ze,KFR,KFL,KF,Zc,mtO,nbr])
 rintro ⟨k,b2⟩ ⟨hk1,hf2,hb2⟩
 simp only at hk1 hf2 hb2
 dsimp only [ZC,Bst.plan,Vz,go_sem,rA,rM,rS]
 by_cases hk:k < 13
 case neg =>
  refine Zw (by simp;omega) ?_
  dsimp only [go_sem,rA,rM,rS]
  rw [List.drop_eq_nil_of_le (by simp;omega),List.foldl_nil] at hf2
  rw [Zf (n:=(i:Int)+1) (by omega) (by omega)]
  refine ⟨(i+1,b2),⟨hilt,by simp only;rw [hf2];exact hf1,hb2⟩,by simp only;omega,?_⟩
  (refine Zl ?_ ?_ ?_ rfl rfl<;>dsimp only [ZC,Bst.plan,Vz,XP,Yz,Z2,Ym,Xi,Zg,Zm,Zh,Zj,Zd,Zo,id,go_sem,rA,rM,rS]<;>simp [ZC,Bst.plan,Vz,XP,Yz,Z2,Ym,Xi,Zg,Zm,Zh,Zj,Zd,Zo,Za,Ze,KFR,KFL,KF,Zc,mtO,nbr])
 refine Zv (by simp;omega) ?_
 dsimp only [go_sem,rA,rM,rS]
 refine call (ZvB s h (Xi a) (by rw [hto];rfl) (by rw [ZgE];omega) k ⟨by omega,by omega⟩) ?_
 have hfb:=Ztf h (a:=Xi a) (k:=(k:Int))
 rw [List.drop_eq_getElem_cons (by simpa using hk),List.getElem_range,List.foldl_cons] at hf2
 obtain ⟨F,hF⟩:∃ F:Nat,Zfu s (Xi a) k=F:=⟨(Zfu s (Xi a) k).toNat,by omega⟩
 have hsl:ZmG s g a b2 k=Zfx s g a k F b2:=by simp only [ZmG,hF,Int.toNat_natCast]
 rw [hsl] at hf2
 rw [hF] at hfb ⊢
 dsimp only [go_sem,rA,rM,rS]
 refine WH [1,2,3,6,7,11,12,13,34,35,56,57,58,62] rfl (fun q:Nat × Bst=>[(13,I q.1),(3,I q.2.w)]) (fun q=>[(1,.cells (ZC q.2.plan) 37),(2,.cells (Vz q.2) 142)])
  (fun q=>q.1<=F/\Zfx s g a k q.1 q.2=Zfx s g a k F b2/\SmB q.2) (fun q=>q.1) (F,b2) ⟨Nat.le_refl _,rfl,hb2⟩ ?_ ?_
 . (refine Zl ?_ ?_ ?_ rfl rfl<;>dsimp only [ZC,Bst.plan,Vz,XP,Yz,Z2,Ym,Xi,Zg,Zm,Zh,Zj,Zd,Zo,id,go_sem,rA,rM,rS]<;>simp [ZC,Bst.plan,Vz,XP,Yz,Z2,Ym,Xi,Zg,Zm,Zh,Zj,Zd,Zo,Za,Ze,KFR,KFL,KF,Zc,mtO,nbr])
 rintro ⟨n,b3⟩ ⟨hn1,hf3,hb3⟩
 simp only at hn1 hf3 hb3
 dsimp only [ZC,Bst.plan,Vz,go_sem,rA,rM,rS]
 by_cases h0:n=0
 . subst h0
   refine Zv (by simp) ?_
   dsimp only [go_sem,rA,rM,rS]
   rw [Zfx] at hf3
   rw [Zf (n:=(k:Int)+1) (by omega) (by omega)]
   refine ⟨(k+1,b3),⟨by simp only;omega,by simp only;rw [hf3];exact hf2,hb3⟩,by simp only;omega,?_⟩
   (refine Zl ?_ ?_ ?_ rfl rfl<;>dsimp only [ZC,Bst.plan,Vz,XP,Yz,Z2,Ym,Xi,Zg,Zm,Zh,Zj,Zd,Zo,id,go_sem,rA,rM,rS]<;>simp [ZC,Bst.plan,Vz,XP,Yz,Z2,Ym,Xi,Zg,Zm,Zh,Zj,Zd,Zo,Za,Ze,KFR,KFL,KF,Zc,mtO,nbr])
 obtain ⟨m,rfl⟩:∃ m,n=m+1:=⟨n - 1,by omega⟩
 refine Zw (by simp;omega) ?_
 dsimp only [go_sem,rA,rM,rS]
 have hp:Xs s ⟨Xi a,((m+1:Nat):Int),k⟩=true:=ZpR hto ⟨by simp only;omega,by simp only;omega⟩ ⟨by simp only;omega,by simp only;omega⟩
 have hcs:SmB (XP s g a k ((m+1:Nat):Int)):=Zv8 (by omega) ⟨by omega,by omega⟩ ⟨by omega,by omega⟩
 have hwo:=ZgB s h ⟨Xi a,((m+1:Nat):Int),k⟩ hp g hlt
 simp only [ZC] at hwo
 refine call hwo ?_
 dsimp only [go_sem,rA,rM,rS]
 have hso:=ZdY (XP s g a k ((m+1:Nat):Int)) hcs
 simp only [ZC,Bst.plan,XP,Vz] at hso
 refine call hso ?_
 dsimp only [go_sem,rA,rM,rS]
 have hbo:=ZiL (XP s g a k ((m+1:Nat):Int)) b3 hcs hb3
 simp only [ZC,Bst.plan,Vz] at hbo
 refine call hbo ?_
 dsimp only [go_sem,rA,rM,rS]
 rw [Zfx] at hf3
 by_cases hbb:Yu (XP s g a k ((m+1:Nat):Int)) b3=true
 . refine Zv (by simpa using hbb) ?_
   dsimp only [go_sem,rA,rM,rS]
   rw [Zlh,if_pos hbb] at hf3
   rw [Zf (n:=(((m+1:Nat):Int)) - 1) (by omega) (by omega),show (((m+1:Nat):Int)) - 1=(m:Int) from by omega]
   refine ⟨(m,XP s g a k ((m+1:Nat):Int)),⟨by simp only;omega,hf3,hcs⟩,by simp only;omega,?_⟩
   (refine Zl ?_ ?_ ?_ rfl rfl<;>dsimp only [ZC,Bst.plan,Vz,XP,Yz,Z2,Ym,Xi,Zg,Zm,Zh,Zj,Zd,Zo,id,go_sem,rA,rM,rS]<;>simp [ZC,Bst.plan,Vz,XP,Yz,Z2,Ym,Xi,Zg,Zm,Zh,Zj,Zd,Zo,Za,Ze,KFR,KFL,KF,Zc,mtO,nbr])
 . refine Zw (by simpa using hbb) ?_
   dsimp only [go_sem,rA,rM,rS]
   rw [Zlh,if_neg hbb] at hf3
   rw [Zf (n:=(((m+1:Nat):Int)) - 1) (by omega) (by omega),show (((m+1:Nat):Int)) - 1=(m:Int) from by omega]
   refine ⟨(m,b3),⟨by simp only;omega,hf3,hb3⟩,by simp only;omega,?_⟩
   (refine Zl ?_ ?_ ?_ rfl rfl<;>dsimp only [ZC,Bst.plan,Vz,XP,Yz,Z2,Ym,Xi,Zg,Zm,Zh,Zj,Zd,Zo,id,go_sem,rA,rM,rS]<;>simp [ZC,Bst.plan,Vz,XP,Yz,Z2,Ym,Xi,Zg,Zm,Zh,Zj,Zd,Zo,Za,Ze,KFR,KFL,KF,Zc,mtO,nbr])
theorem ZrZ (s:Season) (hs:SmallS s):Ct Tryz.prog 27 [.agg (Zr s)] (.tup [I (ZbR s).1,I (ZbR s).2]):=by
 refine t27.1 (by simp [Zr,Zj,Zg,Zm,Zh,Zd,Zo,Za,KFL,KF]) (by simp [KFL,KF]) ?_
 dsimp only [c27,r27,Zr,go_sem,rA,rM,rS]
 refine call (ZbB s hs) ?_
 dsimp only [go_sem,rA,rM,rS]
 by_cases ho:ZA s=true
 case neg =>
  refine Zv (by simp [ho]) ?_
  dsimp only [go_sem,rA,rM,rS]
  simp [ZbR,ho]
 refine Zw (by simp [ho]) ?_
 dsimp only [go_sem,rA,rM,rS]
 have h:OkS s:=⟨hs,ho⟩
 have hn:=h.num
 have hst:=h.start
 have hs4:=h.scs
 have hbr:=Cm.breed_bd h.beast.1
 have hE:Wn s.land s.pace s.start s.day=0:=Zj5.2 ⟨h.land,h.pace,by simp only [inR,decide_eq_true_eq];omega,by simp only [inR,decide_eq_true_eq];omega⟩
 have hre:=ZdZ s.land hs.land s.start s.day s.pace
 rw [hE] at hre
 simp only [XQ,if_true] at hre
 refine call hre ?_
 dsimp only [go_sem,rA,rM,rS]
 refine Zir (by omega) ?_
 dsimp only [go_sem,rA,rM,rS]
 have hk0:=Wv (a:=s.breed.strong.lo) (A:=1000000) (d:=s.slab) (by omega) (by omega) (by omega)
 rw [Zf (n:=s.breed.strong.lo.tdiv s.slab) (by omega) (by omega)]
 have hB:ZbR s=(ZgC s,0):=by rw [ZbR,if_neg (by simp [ho])]
 rw [hB]
 unfold ZgC
 obtain ⟨k,hk⟩:∃ k,k=min 12 (s.breed.strong.lo.tdiv s.slab):=⟨_,rfl⟩
 rw [<- hk]
 have hk1:0<=k/\k<=12:=by omega
 simp only [List.length_map]
 have hRl:(Xf s.land s.pace s.start s.day).length=s.land.wells.length:=WM
 generalize Xf s.land s.pace s.start s.day=Rr at hRl ⊢
 obtain ⟨W,hW⟩:∃ W,W=s.scenes.map (fun x=>s.herd * ZfA s x k Rr 0 s.sale):=⟨_,rfl⟩
 have hWl:W.length=s.scenes.length:=by rw [hW];simp
 rw [<- hW]
 have hwl:=h.land
 simp only [ZM,inR,Bool.and_eq_true,decide_eq_true_eq] at hwl
 refine ZeN (YF (UD [1,5,7,8,40,41,42] rfl) (Y5 8 1 3 rfl rfl)) (fun q:Nat × Nat=>[(42,I q.1),(8,.mr 1 q.2)])
  (fun q=>[(1,.row q.2 1 ((W.take q.1).map Zo) 3)]) (fun q=>q.1<=s.scenes.length) (fun q=>s.scenes.length - q.1) (0,0) (Nat.zero_le _) ?_ ?_
 . (refine Zl ?_ ?_ ?_ rfl rfl<;>dsimp only [Zg,Zm,Zh,Zj,Zd,Zo,Yj,id,go_sem,rA,rM,rS]<;>simp [Zg,Zm,Zh,Zj,Zd,Zo,Yj,Za,Ze,KFR,KFL,KF,Zc,mtO,nbr])
 rintro ⟨j,v⟩ hj
 simp only at hj
 dsimp only [go_sem,rA,rM,rS]
 by_cases hlt:j < s.scenes.length
 case neg =>
  refine Zw (by simp;omega) ?_
  dsimp only [go_sem,rA,rM,rS]
  rw [List.take_of_length_le (by omega)]
  refine gh (ZbD 8 1 v rfl rfl rfl rfl) ?_
  dsimp only [go_sem,rA,rM,rS]
  refine call (Zkd W (by omega) (by omega) _) ?_
  dsimp only [go_sem,rA,rM,rS]
 refine Zv (by simpa using hlt) ?_
 dsimp only [go_sem,rA,rM,rS]
 refine Zp j hlt rfl ?_
 dsimp only [Zj,go_sem,rA,rM,rS]
 simp only [List.length_map]
 refine WH [1,5,7,8,10,11,40,41,42,48,49,50] rfl (fun q:Nat × Int=>[(50,I q.1),(11,I q.2)]) (fun _=>[])
  (fun q=>q.1<=Rr.length/\ZfA s s.scenes[j] k (Rr.drop q.1) q.1 q.2=ZfA s s.scenes[j] k Rr 0 s.sale/\0<=q.2/\q.2<=12000000) (fun q=>Rr.length - q.1) (0,s.sale) ⟨Nat.zero_le _,rfl,by simp only;omega,by simp only;omega⟩ ?_ ?_
 . (refine Zl ?_ ?_ ?_ rfl rfl<;>dsimp only [Zg,Zm,Zh,Zj,Zd,Zo,Yj,id,go_sem,rA,rM,rS]<;>simp [Zg,Zm,Zh,Zj,Zd,Zo,Yj,Za,Ze,KFR,KFL,KF,Zc,mtO,nbr])
 rintro ⟨i,e⟩ ⟨hi0,hi1,he0,he1⟩
 simp only at hi0 hi1 he0 he1
 dsimp only [go_sem,rA,rM,rS]
 by_cases hilt:i < Rr.length
 case neg =>
  refine Zw (by simp;omega) ?_
  dsimp only [go_sem,rA,rM,rS]
  rw [List.drop_eq_nil_of_le (by omega),ZfA] at hi1
  refine gh Vh ?_
  dsimp only [go_sem,rA,rM,rS]
  have hm:0<=s.herd * e/\s.herd * e<=30 * 12000000:=⟨Int.mul_nonneg (by omega) he0,Int.mul_le_mul (by omega) he1 he0 (by decide)⟩
  rw [Zf (n:=s.herd * e) (by omega) (by omega)]
  simp only [nbr]
  dsimp only [go_sem,rA,rM,rS]
  refine ⟨(by intro c hc;simp only [List.mem_singleton] at hc;subst hc;rfl),by simp;omega,?_⟩
  dsimp only [go_sem,rA,rM,rS]
  refine gh Vh ?_
  dsimp only [go_sem,rA,rM,rS]
  rw [Zf (n:=(j:Int)+1) (by omega) (by omega)]
  refine ⟨(j+1,v+1),hlt,by simp only;omega,?_⟩
  simp only
  have hWj:s.herd * e=W[j]'(by omega):=by simp [hW,hi1]
  rw [hWj,List.take_succ_eq_append_getElem (by omega)]
  simp only [List.map_append,List.map_cons,List.map_nil]
  (refine Zl ?_ ?_ ?_ rfl rfl<;>dsimp only [Zg,Zm,Zh,Zj,Zd,Zo,Yj,id,go_sem,rA,rM,rS]<;>simp [Zg,Zm,Zh,Zj,Zd,Zo,Yj,Za,Ze,KFR,KFL,KF,Zc,mtO,nbr])
 refine Zv (by simpa using hilt) ?_
 dsimp only [go_sem,rA,rM,rS]
 refine Zp i hilt rfl ?_
 dsimp only [Zd,go_sem,rA,rM,rS]
 rw [List.drop_eq_getElem_cons hilt,ZfA] at hi1
 have hnext:IntKind.i64.wrap ((i:Int)+1)=((i+1:Nat):Int):=by rw [Zf (by omega) (by omega)];omega
 by_cases hr:Rr[i].hi<=s.till
 . refine Zv (by simpa using hr) ?_
   dsimp only [go_sem,rA,rM,rS]
   obtain ⟨hq,hpr⟩:=UL h hlt (m:=i) (by omega)
   refine Zp i hq rfl ?_
   dsimp only [Zo,go_sem,rA,rM,rS]
   have hpp:=Ze4 (A:=k) (B:=12) (d:=s.scenes[j].prices[i] - s.cost) (M:=1000000) hk1.1 hk1.2 (by decide) (by omega)
   rw [Zf (n:=s.scenes[j].prices[i] - s.cost) (by omega) (by omega),Zf (n:=k * (s.scenes[j].prices[i] - s.cost)) (by omega) (by omega),hnext]
   rw [if_pos hr,List.getElem?_eq_getElem hq,Option.getD_some] at hi1
   refine ⟨(i+1,max e (k * (s.scenes[j].prices[i] - s.cost))),⟨hilt,hi1,by simp only;omega,by simp only;omega⟩,by simp only;omega,?_⟩
   (refine Zl ?_ ?_ ?_ rfl rfl<;>dsimp only [Zg,Zm,Zh,Zj,Zd,Zo,Yj,id,go_sem,rA,rM,rS]<;>simp [Zg,Zm,Zh,Zj,Zd,Zo,Yj,Za,Ze,KFR,KFL,KF,Zc,mtO,nbr])
 . refine Zw (by simpa using hr) ?_
   dsimp only [go_sem,rA,rM,rS]
   rw [hnext]
   rw [if_neg hr] at hi1
   refine ⟨(i+1,e),⟨hilt,hi1,he0,he1⟩,by simp only;omega,?_⟩
   (refine Zl ?_ ?_ ?_ rfl rfl<;>dsimp only [Zg,Zm,Zh,Zj,Zd,Zo,Yj,id,go_sem,rA,rM,rS]<;>simp [Zg,Zm,Zh,Zj,Zd,Zo,Yj,Za,Ze,KFR,KFL,KF,Zc,mtO,nbr])
end Go.Proofs.YtiigiflofnjilaaGreat
namespace Go.Sx
open Go Go.RowKit
def RLW (l l':List SV):Prop:=∀ (w:World) (E:Env) (n ok:Nat->Prop) (ys:List Value),RL w E n ok l ys->RL w E n ok l' ys
theorem ZdC {l:List SV}:RLW l l:=fun _ _ _ _ _ h=>h
theorem Zq {s s':SV} {l l':List SV} (h1:Xh s s') (h2:RLW l l'):RLW (s :: l) (s' :: l'):=Z3 h1 h2
def RRW:List (List SV)->List (List SV)->Prop
 | [],[]=>True
 | r :: xs,r' :: xs'=>RLW r r'/\r'.length=r.length/\RRW xs xs'
 | _,_=>False
theorem Zc4:∀ {xs xs':List (List SV)},RRW xs xs'->xs'.length=xs.length
 | [],[],_=>rfl
 | _ :: xs,_ :: xs',h=>by simp [Zc4 h.2.2]
 | [],_ :: _,h=>h.elim
 | _ :: _,[],h=>h.elim
theorem Zsb {w:World} {E:Env} {n ok:Nat->Prop} {b m:Nat}:∀ {xs xs':List (List SV)} {off:Nat},RRW xs xs'->RR w E n ok b m xs off->RR w E n ok b m xs' off
 | [],[],_,_,h=>h
 | r :: xs,r' :: xs',off,hw,h=>by
  simp only [RR] at h ⊢
  obtain ⟨h0,⟨cs,h1,h2⟩,h3⟩:=h
  exact ⟨by rw [hw.2.1];exact h0,⟨cs,hw.1 _ _ _ _ _ h1,h2⟩,Zsb hw.2.2 h3⟩
 | [],_ :: _,_,h,_=>h.elim
 | _ :: _,[],_,h,_=>h.elim
theorem ZuT {c:Bool} {m:Nat} {xs xs':List (List SV)} (h:RRW xs xs'):Xh (.sl c m xs) (.sl false m xs'):=fun w E n ok y hy=>by
 simp only [R] at hy ⊢
 obtain ⟨a,len,cap,h1,h2,h3,h4,h5⟩:=hy
 refine ⟨a,len,cap,h1,by rw [Zc4 h];exact h2,⟨h3.1,fun h=>by cases h⟩,by rw [Zc4 h];exact h4,?_⟩
 rcases h5 with h5 | ⟨b,off,h5,h6⟩
 . left
   have:=Zc4 h
   rw [h5] at this
   exact List.eq_nil_of_length_eq_zero this
 . exact .inr ⟨b,off,h5,Zsb h h6⟩
end Go.Sx
namespace Go.Azalai
open Go.Sx Go.Proofs.YtiigiflofnjilaaGreat
def Xc:Season :=
 ⟨⟨[⟨0,0,0,⟨0,0⟩,0,⟨0,0⟩,0⟩,⟨0,0,0,⟨0,0⟩,1000000,⟨0,0⟩,0⟩,⟨0,0,0,⟨0,0⟩,0,⟨0,0⟩,0⟩],
  [⟨0,1,⟨40000,40000⟩,[⟨⟨0,0⟩,⟨99,99⟩⟩]⟩,⟨1,2,⟨40000,40000⟩,[⟨⟨0,0⟩,⟨99,99⟩⟩]⟩,⟨0,2,⟨100000,100000⟩,[⟨⟨0,0⟩,⟨99,99⟩⟩]⟩]⟩,
  ⟨20000,20000⟩,⟨100000,50000,⟨5000,5000⟩,⟨0,0⟩,⟨1000,1000⟩,⟨100,100⟩,⟨0,0⟩,⟨0,0⟩,0,⟨200000,200000⟩⟩,⟨⟨100000,100000⟩,⟨50000,50000⟩,⟨0,0⟩,false⟩,
  10,10,50000,10,60,0,0,20,[⟨⟨0,0⟩,⟨0,0⟩,[⟨0,0⟩,⟨50000,50000⟩,⟨0,0⟩],[10,12,40]⟩]⟩
theorem Xa:SmallS Xc:=Zbn (by decide +kernel)
theorem Zkx:ZA Xc=true:=by decide +kernel
theorem Zpz:OkS Xc:=⟨Xa,Zkx⟩
theorem Zwx:Yr Xc ⟨[0,1],2,2⟩=(0,0,0,0):=by decide +kernel
theorem ZtG:Yr Xc ⟨[0,1],3,2⟩=(4,0,0,0):=by decide +kernel
theorem Zta:Yr Xc ⟨[2],10,1⟩=(0,0,0,0):=by decide +kernel
theorem ZhF:Zam Xc ⟨[0,1],2,2⟩=(600,0):=by decide +kernel
theorem ZhC:ZcN Xc ⟨[0,1],2,2⟩ 0=([⟨1,2,100000⟩],0):=by decide +kernel
theorem Zka:Zg9 Xc=(⟨[0,1],1,4⟩,660,0):=by decide +kernel
def ZmR (v:Int):Int:=if v=0 then 0 else if v=1 then 2 else if v=2 then 4 else 100001
theorem ZfF (k:Bool) (v:Int):Y1 k Xc.land Xc.pace 0 0 v=ZmR v:=by
 refine (ZaI (k:=k) (s:=0) (day:=0) Zpz.lp (by decide) (by decide) (by decide) (by decide) (d:=ZmR) (by decide) ?_ ?_ ?_ v).symm
 . cases k<;>(intro x hx;simp only [Xc,List.mem_cons,List.not_mem_nil,or_false] at hx;rcases hx with rfl | rfl | rfl<;>decide)
 . intro v;unfold ZmR;repeat' split
   all_goals decide
 . intro v
   unfold ZmR
   split
   . rename_i h;subst h;exact .inr ⟨[],by cases k<;>decide⟩
   . split
     . rename_i h;subst h;exact .inr ⟨[0],by cases k<;>decide⟩
     . split
       . rename_i h;subst h
         exact .inr ⟨[0,1],by cases k<;>decide⟩
       . exact .inl rfl
theorem Zhh:Xf Xc.land Xc.pace Xc.start Xc.day=[⟨0,0⟩,⟨2,2⟩,⟨4,4⟩]:=by
 have h:Xc.land.wells.length=3:=rfl
 show Xf Xc.land Xc.pace 0 0=_
 simp only [Xf,Wo,h,ZfF]
 decide
theorem Zhf:ZbR Xc=(1200,0):=by
 rw [ZbR,if_neg (by simp [Zkx]),ZgC,Zhh]
 decide +kernel
end Go.Azalai
namespace Go.Proofs.YtiigiflofnjilaaGreat
open Go Go.Sx Go.Azalai
theorem ZeC (a b:Int):Ct Tryz.prog 43 [I a,I b] (.agg (Zd ⟨a,b⟩)):=by
 refine t43.1 (by simp [KFR,KFL,KF]) (by simp [Zd,KFL,KF]) ?_
 dsimp only [c43,r43,go_sem,rA,rM,rS]
 rfl
theorem u119 {args:List SV} {res:SV} (ka:KFL args) (kr:KF res) (h:sx Tryz.prog Y0 0 c119 (st0 args 16) (Zqm r119 res)) (hA:Nat.ble args.length 16=true:=by rfl):Ct Tryz.prog 119 args res:=WU Tryz.func119 rfl b119 ZtT ZwH n119 (Nat.le_of_ble_eq_true hA) ka kr h
theorem u73 {args:List SV} {res:SV} (ka:KFL args) (kr:KF res) (h:sx Tryz.prog Y0 0 c73 (st0 args 31) (Zqm r73 res)) (hA:Nat.ble args.length 31=true:=by rfl):Ct Tryz.prog 73 args res:=WU Tryz.func73 rfl b73 Zy5 Zz4 n73 (Nat.le_of_ble_eq_true hA) ka kr h
theorem u74 {args:List SV} {res:SV} (ka:KFL args) (kr:KF res) (h:sx Tryz.prog Y0 0 c74 (st0 args 11) (Zqm r74 res)) (hA:Nat.ble args.length 11=true:=by rfl):Ct Tryz.prog 74 args res:=WU Tryz.func74 rfl b74 Zz1 Zyv n74 (Nat.le_of_ble_eq_true hA) ka kr h
theorem Zma (a b c:Int):Ct Tryz.prog 119 [I a,I b,I c] (.agg (Zm ⟨a,b,⟨c,c⟩,[⟨⟨0,0⟩,⟨99,99⟩⟩]⟩)):=by
 refine u119 (by simp [KFR,KFL,KF]) (by simp [Zm,Zh,Zd,KFR,KFL,KF]) ?_
 dsimp only [c119,r119,go_sem,rA,rM,rS]
 repeat (refine call (ZeC _ _) ?_;dsimp only [Zd,go_sem,rA,rM,rS])
 exact ⟨_,rfl,VT (Zq Xh.rfl (Zq Xh.rfl (Zq Xh.rfl (Zq Xh.rfl (Zq ZcM ZdC)))))⟩
theorem ZhP (an sl:Int) (legs:List Int) (c:Bool):Ct Tryz.prog 74 [I an,I sl,.sl c 1 (legs.map Zo)] (.agg (ZC ⟨legs,an,sl⟩)):=by
 refine u74 (by simp [Zo,Za,KFL,KF]) (by simp [ZC,Zo,Za,KFL,KF]) ?_
 dsimp only [c74,r74,go_sem,rA,rM,rS]
 exact ⟨_,rfl,VT (Zq ZcM ZdC)⟩
theorem Vd:Ct Tryz.prog 73 [] (.agg (Zr Xc)):=by
 refine u73 (by simp [KFR,KFL,KF]) (by simp [Zr,Zj,Zg,Zm,Zh,Zd,Zo,Xc,KFR,KFL,KF]) ?_
 dsimp only [c73,r73,go_sem,rA,rM,rS]
 repeat (first | (refine call (ZeC _ _) ?_;dsimp only [Zd,go_sem,rA,rM,rS]) | (refine call (Zma _ _ _) ?_;dsimp only [Zm,go_sem,rA,rM,rS]))
 exact ⟨_,rfl,VT (Zq ZcM (Zq ZcM (Zq Xh.rfl (Zq Xh.rfl (Zq Xh.rfl (Zq Xh.rfl (Zq Xh.rfl (Zq Xh.rfl (Zq Xh.rfl (Zq Xh.rfl (Zq Xh.rfl (Zq Xh.rfl (Zq Xh.rfl (Zq Xh.rfl (Zq Xh.rfl (Zq Xh.rfl (Zq Xh.rfl (Zq Xh.rfl (Zq Xh.rfl (Zq Xh.rfl (Zq Xh.rfl (Zq Xh.rfl (Zq Xh.rfl (Zq Xh.rfl (Zq Xh.rfl (Zq Xh.rfl (Zq Xh.rfl (Zq Xh.rfl (Zq Xh.rfl (Zq Xh.rfl (Zq Xh.rfl (Zq Xh.rfl (Zq Xh.rfl (Zq Xh.rfl (Zq Xh.rfl (Zq Xh.rfl (Zq (ZuT ⟨Zq Xh.rfl (Zq Xh.rfl (Zq Xh.rfl (Zq Xh.rfl (Zq ZcM (Zq ZcM ZdC))))),rfl,trivial⟩) ZdC)))))))))))))))))))))))))))))))))))))⟩
def c3:SC:=(sr1 [
 o1 2 (.box (.t 0) 0 34),
 o1 3 (.box (.t 1) 0 37),
 o1 4 (.mv (.c (.bool false)))]
 (.seq (sr1 [
 o1 15 (.ld (.t 2) 37 true),
 o1 16 (.call 12 [.t 15]),
 m1 17 16,
 ⟨some 18,.addo (.t 3) 0,some (17,false),[]⟩,
 ⟨some 19,.ld (.t 18) 1 false,some (17,false),[]⟩,
 ⟨some 20,.len (.t 19),some (17,false),[]⟩,
 ⟨some 21,.bin .gtr (.t 20) (.c (.int .i64 40)),some (17,false),[]⟩,
 o1 22 (.pick (.t 17) (.c (.bool true)) (.t 21))]
 (.cond (.t 22)
 (sr1 [
  o1 4 (.mv (.c (.bool true)))]
  .ret)
 .skip))
 (.seq (.regd [0,1,2,3,4,5,6] [
 .op (o1 23 (.ld (.t 2) 37 true)),
 .op ⟨some 24,.call 13 [.t 23],none,[0]⟩,
 .op (o1 25 (.ld (.t 3) 3 true))] 2 2 [
 o1 5 (.alloc zv2 34),
 o1 6 (.alloc [.slice none 0 0,.int .i64 0,.int .i64 0] 37),
 ⟨none,.st (.t 5) (.t 24) 37,none,[0,1,3,4]⟩,
 ⟨none,.st (.t 6) (.t 25) 3,none,[0,1,2,3,4,5]⟩])
 (sr1 [
 o1 26 (.bsl 1 3 []),
 o1 27 (.addo (.t 3) 0),
 o1 28 (.ld (.t 27) 1 false),
 o1 29 (.app 1 8 3 (.t 26) (.t 28)),
 o1 30 (.addo (.t 6) 0),
 ⟨none,.st (.t 30) (.t 29) 1,none,[]⟩]
 (sr1 [
 o1 32 (.ld (.t 5) 37 true),
 o1 33 (.ld (.t 6) 3 true),
 o1 34 (.call 14 [.t 32,.t 33]),
 m1 31 34,
 o1 35 (.ext (.t 31) 0),
 o1 36 (.ext (.t 31) 1),
 o1 37 (.ext (.t 31) 2),
 o1 38 (.ext (.t 31) 3),
 m1 7 35,
 m1 8 36,
 m1 9 37,
 m1 10 38]
 (sr1 [
 o1 40 (.ld (.t 2) 37 true),
 o1 41 (.ld (.t 3) 3 true),
 o1 42 (.call 15 [.t 40,.t 41]),
 m1 39 42,
 o1 43 (.ext (.t 39) 0),
 o1 44 (.ext (.t 39) 1),
 o1 45 (.ext (.t 39) 2),
 o1 46 (.ext (.t 39) 3),
 m1 11 43,
 m1 12 44,
 m1 13 45,
 m1 14 46]
 (.seq (.regd [0,1,2,3,4,5,6,7,8,9,10,11,12,13,14,15,16,17,18,19,20,21,22,23,24,25,26,27,28,29,30,31,32,33,34,35] [
 .op (o1 47 (.ld (.t 5) 37 true)),
 .op ⟨some 48,.call 16 [.t 47],none,[0]⟩,
 .op (o1 49 (.ld (.t 2) 37 true)),
 .op ⟨some 50,.call 17 [.t 49],none,[1,2]⟩,
 .op ⟨some 51,.bin .eql (.t 48) (.t 50),none,[1,3]⟩,
 .op ⟨some 52,.mv (.t 51),none,[3,4]⟩,
 .op ⟨some 53,.mv (.t 7),some (52,true),[5]⟩,
 .op ⟨some 54,.mv (.t 11),some (52,true),[5]⟩,
 .op ⟨some 55,.bin .eql (.t 53) (.t 54),some (52,true),[5,6,7]⟩,
 .op ⟨some 56,.pick (.t 52) (.t 55) (.c (.bool false)),none,[5,8]⟩,
 .op ⟨some 57,.mv (.t 56),none,[5,9]⟩,
 .op ⟨some 58,.mv (.t 8),some (57,true),[10]⟩,
 .op ⟨some 59,.mv (.t 12),some (57,true),[10]⟩,
 .op ⟨some 60,.bin .eql (.t 58) (.t 59),some (57,true),[10,11,12]⟩,
 .op ⟨some 61,.pick (.t 57) (.t 60) (.c (.bool false)),none,[10,13]⟩,
 .op ⟨some 62,.mv (.t 61),none,[10,14]⟩,
 .op ⟨some 63,.mv (.t 9),some (62,true),[15]⟩,
 .op ⟨some 64,.mv (.t 13),some (62,true),[15]⟩,
 .op ⟨some 65,.bin .eql (.t 63) (.t 64),some (62,true),[15,16,17]⟩,
 .op ⟨some 66,.pick (.t 62) (.t 65) (.c (.bool false)),none,[15,18]⟩,
 .op ⟨some 67,.mv (.t 66),none,[15,19]⟩,
 .op ⟨some 68,.mv (.t 10),some (67,true),[20]⟩,
 .op ⟨some 69,.mv (.t 14),some (67,true),[20]⟩,
 .op ⟨some 70,.bin .eql (.t 68) (.t 69),some (67,true),[20,21,22]⟩,
 .op ⟨some 71,.pick (.t 67) (.t 70) (.c (.bool false)),none,[20,23]⟩,
 .op ⟨some 72,.mv (.t 71),none,[20,24]⟩,
 .op ⟨some 73,.ld (.t 5) 37 true,some (72,true),[25]⟩,
 .op ⟨some 74,.ld (.t 2) 37 true,some (72,true),[25]⟩,
 .op ⟨some 75,.call 18 [.t 73,.t 74],some (72,true),[25,26,27]⟩,
 .op ⟨some 76,.pick (.t 72) (.t 75) (.c (.bool false)),none,[25,28]⟩,
 .op ⟨some 77,.mv (.t 76),none,[28,29]⟩,
 .op ⟨some 78,.ld (.t 6) 3 true,some (77,true),[30]⟩,
 .op ⟨some 79,.ld (.t 3) 3 true,some (77,true),[30]⟩,
 .op ⟨some 80,.call 19 [.t 78,.t 79],some (77,true),[30,31,32]⟩,
 .op ⟨some 81,.pick (.t 77) (.t 80) (.c (.bool false)),none,[30,33]⟩,
 .op ⟨some 4,.mv (.t 81),none,[0,1,2,3,4,5,6,7,8,9,10,11,12,13,14,15,16,17,18,19,20,21,22,23,24,25,26,27,28,29,30,31,32,33,34]⟩] 0 0 [
])
 .ret)))))))
def r3:List RV:=[.tmp 4]
theorem n3:Tryz.f3.ntmps=82:=by kernel_rfl
theorem b3:YP Tryz.prog 3=true:=by kernel_rfl
theorem t3:Qt1 Tryz.prog 3 c3 r3 82:=Z8 Tryz.func3 rfl b3 (by kernel_rfl) (by kernel_rfl) n3
theorem Zh8 (s:Season) (hs:SmallS s):Ct Tryz.prog 17 [.agg (Zr s)] (I (if ZA s=true then 0 else 90)):=by
 refine t17.1 (by simp [Zr,Zj,Zg,Zm,Zh,Zd,Zo,Za,KFL,KF]) (by simp [KFL,KF]) ?_
 dsimp only [c17,r17,Zr,go_sem,rA,rM,rS]
 refine call (Zkt s hs) ?_
 dsimp only [go_sem,rA,rM,rS]
 refine br ?_ ?_
 . intro h
   dsimp only [go_sem,rA,rM,rS]
   simp at h
   simp [h]
 . intro h
   dsimp only [go_sem,rA,rM,rS]
   simp at h
   simp [h]
end Go.Proofs.YtiigiflofnjilaaGreat
namespace Go.Azalai
open Go.Sx
def WQ (s:Season) (p:Plan):Bool:=!UC s && ZA s && decide (p.legs.length<=40) && Xs s p && decide (s.till<=2000)
end Go.Azalai
namespace Go.Proofs.YtiigiflofnjilaaGreat
open Go Go.Sx Go.Azalai
structure ReadyS (s:Season) (p:Plan):Prop where
 great:UC s=false
 ok:OkS s
 legs:p.legs.length<=40
 plan:Xs s p=true
 till:s.till<=2000
theorem Zha {s:Season} {p:Plan} (h:WQ s p=true):ReadyS s p:=by
 simp only [WQ,Bool.and_eq_true,Bool.not_eq_true',decide_eq_true_eq] at h
 obtain ⟨⟨⟨⟨h1,h2⟩,h3⟩,h4⟩,h5⟩:=h
 exact ⟨h1,⟨Zbn h1,h2⟩,h3,h4,h5⟩
theorem ZnB (s:Season) (p:Plan):Ct Tryz.prog 31 [.agg (Zr s),.agg (ZC p)] (B (WQ s p)):=by
 refine t31.1 (by simp [Zr,ZC,Zj,Zg,Zm,Zh,Zd,Zo,Za,KFL,KF]) (by simp [KFL,KF]) ?_
 dsimp only [c31,r31,Zr,ZC,go_sem,rA,rM,rS]
 refine call (Zlc s) ?_
 dsimp only [go_sem,rA,rM,rS]
 cases h:UC s
 case true =>
  rw [show WQ s p=false from by simp [WQ,h]]
  repeat (refine Vt (by decide) ?_;dsimp only [go_sem,rA,rM,rS])
 have hs:=Zbn h
 refine Yn rfl ?_
 dsimp only [go_sem,rA,rM,rS]
 refine Yn rfl ?_
 dsimp only [go_sem,rA,rM,rS]
 refine call (Zh8 s hs) ?_
 dsimp only [go_sem,rA,rM,rS]
 refine Yn rfl ?_
 dsimp only [go_sem,rA,rM,rS]
 cases h2:ZA s
 case false =>
  rw [show WQ s p=false from by simp [WQ,h,h2]]
  simp only [Bool.false_eq_true,if_false,Bool.not_false,Bool.true_and,show ((90:Int) == 0)=false from rfl]
  repeat (refine Vt (by decide) ?_;dsimp only [go_sem,rA,rM,rS])
 simp only [if_true,Bool.not_false,Bool.true_and,show ((0:Int) == 0)=true from rfl]
 iterate 4 (refine Yn rfl ?_;dsimp only [go_sem,rA,rM,rS])
 simp only [List.length_map]
 by_cases h3:p.legs.length<=40
 case neg =>
  rw [show WQ s p=false from by simp [WQ,h,h2,h3]]
  have:decide ((p.legs.length:Int)<=40)=false:=by simp;omega
  simp only [this,Bool.and_false]
  repeat (refine Vt (by decide) ?_;dsimp only [go_sem,rA,rM,rS])
 have e3:decide ((p.legs.length:Int)<=40)=true:=by simp;omega
 simp only [e3,Bool.and_true]
 iterate 2 (refine Yn rfl ?_;dsimp only [go_sem,rA,rM,rS])
 refine Yn rfl ?_
 dsimp only [go_sem,rA,rM,rS]
 refine call (Zu7 s ⟨hs,h2⟩ p (by omega)) ?_
 dsimp only [go_sem,rA,rM,rS]
 cases h4:Xs s p
 case false =>
  rw [show WQ s p=false from by simp [WQ,h4]]
  simp only [Bool.and_false]
  repeat (refine Vt (by decide) ?_;dsimp only [go_sem,rA,rM,rS])
 simp only [Bool.and_true]
 iterate 3 (refine Yn rfl ?_;dsimp only [go_sem,rA,rM,rS])
 simp [WQ,h,h2,h3,h4]
theorem Zrp:Ct Tryz.prog 30 [] (B true):=by
 have h1:=VN Xc Xa ⟨[0,1],2,2⟩ (by decide)
 have h2:=VN Xc Xa ⟨[0,1],3,2⟩ (by decide)
 have h3:=VN Xc Xa ⟨[2],10,1⟩ (by decide)
 have h4:=Zel Xc Xa ⟨[0,1],2,2⟩ (by decide)
 have h5:=ZrM Xc Xa ⟨[0,1],2,2⟩ (by decide) 0
 have h6:=Zvz Xc Xa
 have h7:=ZrZ Xc Xa
 rw [Zwx] at h1
 rw [ZtG] at h2
 rw [Zta] at h3
 rw [ZhF] at h4
 rw [ZhC] at h5
 rw [Zka] at h6
 rw [Zhf] at h7
 refine t30.1 (by simp [KFR,KFL,KF]) (by simp [KFL,KF]) ?_
 dsimp only [c30,r30,go_sem,rA,rM,rS]
 refine call Vd ?_
 dsimp only [go_sem,rA,rM,rS]
 refine call (ZhP 2 2 [0,1] true) ?_
 dsimp only [go_sem,rA,rM,rS]
 refine call h1 ?_
 dsimp only [Zcu,go_sem,rA,rM,rS]
 refine call Vd ?_
 dsimp only [go_sem,rA,rM,rS]
 refine call (ZhP 3 2 [0,1] true) ?_
 dsimp only [go_sem,rA,rM,rS]
 refine call h2 ?_
 dsimp only [Zcu,go_sem,rA,rM,rS]
 refine call Vd ?_
 dsimp only [go_sem,rA,rM,rS]
 refine call (ZhP 10 1 [2] true) ?_
 dsimp only [go_sem,rA,rM,rS]
 refine call h3 ?_
 dsimp only [Zcu,go_sem,rA,rM,rS]
 refine call Vd ?_
 dsimp only [go_sem,rA,rM,rS]
 refine call (ZhP 2 2 [0,1] true) ?_
 dsimp only [go_sem,rA,rM,rS]
 refine call h4 ?_
 dsimp only [go_sem,rA,rM,rS]
 refine call Vd ?_
 dsimp only [go_sem,rA,rM,rS]
 refine call (ZhP 2 2 [0,1] true) ?_
 dsimp only [go_sem,rA,rM,rS]
 refine call h5 ?_
 dsimp only [Zk7,go_sem,rA,rM,rS]
 refine call Vd ?_
 dsimp only [go_sem,rA,rM,rS]
 refine call h6 ?_
 dsimp only [ZvV,ZC,go_sem,rA,rM,rS]
 refine call Vd ?_
 dsimp only [go_sem,rA,rM,rS]
 refine call h7 ?_
 dsimp only [go_sem,rA,rM,rS]
 repeat (first | (refine gb ?_;dsimp only [go_sem,rA,rM,rS]) | (refine call (ZeS [⟨1,2,100000⟩] [⟨1,2,100000⟩] (by decide) (by decide) false true) ?_;dsimp only [go_sem,rA,rM,rS]) | (refine call (ZhP 1 4 [0,1] true) ?_;dsimp only [ZC,go_sem,rA,rM,rS]) | (refine call (Ze9 ⟨[0,1],1,4⟩ ⟨[0,1],1,4⟩ (by decide) (by decide)) ?_;dsimp only [go_sem,rA,rM,rS]))
 simp
def c32:SC:=(sr1 [
 o1 2 (.box (.t 0) 0 27),
 o1 4 (.mv (.c (.int .i64 0)))]
 (.seq (.regd [0,1,2,3,4,5,6,7,8,9,10,11,12] [
 .op (o1 5 (.addo (.t 2) 0)),
 .op ⟨some 6,.ld (.t 5) 1 false,none,[0]⟩,
 .op (m1 7 1),
 .op ⟨some 8,.conv .i64 (.t 7),none,[2]⟩,
 .op (o1 9 (.addo (.t 2) 1)),
 .op ⟨some 10,.ld (.t 9) 1 false,none,[4]⟩,
 .op (o1 11 (.addo (.t 2) 0)),
 .op ⟨some 12,.ld (.t 11) 1 false,none,[6]⟩,
 .op ⟨some 13,.bin .sub (.t 10) (.t 12),none,[5,7]⟩,
 .op ⟨some 14,.bin .add (.t 13) (.c (.int .i64 1)),none,[8]⟩,
 .op ⟨some 15,.div .rem (.t 8) (.t 14),none,[3,9]⟩,
 .op ⟨some 16,.bin .add (.t 6) (.t 15),none,[1,10]⟩,
 .op ⟨some 4,.mv (.t 16),none,[0,1,2,3,4,5,6,7,8,9,10,11]⟩] 0 0 [
])
 .ret))
def r32:List RV:=[.tmp 4]
theorem t32:Qt1 Tryz.prog 32 c32 r32 17:=Z8 Tryz.func32 rfl (by kernel_rfl) (by kernel_rfl) (by kernel_rfl) (by kernel_rfl)
def c33:SC:=(sr1 [
 o1 4 (.mv (.c (.int .u32 0)))]
 (.seq (sr1 [
 m1 5 0,
 o1 6 (.len (.t 5)),
 o1 7 (.bin .eql (.t 6) (.c (.int .i64 0)))]
 (.cond (.t 7)
 (sr1 [
  o1 4 (.mv (.c (.int .u32 0)))]
  .ret)
 .skip))
 (sr1 [
 m1 8 0,
 m1 9 1,
 m1 10 0,
 o1 11 (.len (.t 10)),
 o1 12 (.div .rem (.t 9) (.t 11)),
 o1 13 (.ixs (.t 8) (.t 12) 1),
 o1 14 (.ld (.t 13) 1 false),
 m1 4 14]
 .ret)))
def r33:List RV:=[.tmp 4]
theorem t33:Qt1 Tryz.prog 33 c33 r33 15:=Z8 Tryz.func33 rfl (by kernel_rfl) (by kernel_rfl) (by kernel_rfl) (by kernel_rfl)
theorem Zkh {s:Season} (h:OkS s) {p:Plan} (hp:Xs s p=true) (hsure:W7 s p.legs=true):Trk s.land s.pace s.start s.day s.day p.legs (ZJ s p.legs)/\(ZJ s p.legs).length=p.legs.length/\YU s.land s.pace s.start s.day p.legs=(ZJ s p.legs,0,0):=by
 have hl:(ZJ s p.legs).length=p.legs.length:=by have:=congrArg List.length (Zhj hsure);simpa using this
 have q:=hsure
 simp only [W7,Bool.and_eq_true,decide_eq_true_eq] at q
 have hw:YU s.land s.pace s.start s.day p.legs=((YU s.land s.pace s.start s.day p.legs).1,(YU s.land s.pace s.start s.day p.legs).2.1,0):=by rw [<- q.1]
 obtain ⟨e,ht⟩:=Zgo hw
 refine ⟨ht,hl,?_⟩
 rw [hw,e];rfl
theorem Zdc {s:Season} {x:Scene} (h:ZM s.land=true) (hx:Z9 s.land.wells.length x=true):ZM (X6 s x)=true:=by
 simp only [Z9,Bool.and_eq_true,decide_eq_true_eq,List.all_eq_true] at hx
 have hy:x.yields.length=s.land.wells.length:=by omega
 have hl:(X6 s x).wells.length=s.land.wells.length:=VL hy
 simp only [ZM,Bool.and_eq_true,List.all_eq_true] at h ⊢
 rw [hl]
 obtain ⟨⟨h1,h2⟩,h3⟩:=h
 refine ⟨⟨h1,fun w hw=>?_⟩,h3⟩
 obtain ⟨i,hi,rfl⟩:=List.getElem_of_mem hw
 rw [hl] at hi
 have e:(X6 s x).wells[i]'(by omega)={ s.land.wells[i] with yld:=x.yields[i]'(by omega) }:=Zds hi (by omega) (by rw [VL hy];exact hi)
 rw [e]
 have a1:=h2 _ (List.getElem_mem hi)
 have a2:=hx.1.2 _ (List.getElem_mem (show i < x.yields.length by omega))
 simp only [YM,Bool.and_eq_true] at a1 ⊢
 exact ⟨⟨⟨⟨⟨⟨a1.1.1.1.1.1.1,a1.1.1.1.1.1.2⟩,a1.1.1.1.1.2⟩,a2⟩,a1.1.1.2⟩,a1.1.2⟩,a1.2⟩
end Go.Proofs.YtiigiflofnjilaaGreat
namespace Go.Azalai
def V7 (day n:Int) (l:List Gate):Int:=Zco n day (fun g=>g.opens.lo) (fun g=>g.shuts.lo) 100001 l
theorem Zki {a a' b b':Int} (ha:1<=a) (haa:a<=a') (hb:1<=b) (hbb:b<=b'):(a+b' - 1).tdiv b'<=(a'+b - 1).tdiv b:=by
 have u:=UO (a:=a) (b:=b') ha (by omega)
 have v:=UO (a:=a') (b:=b) (by omega) hb
 have w:0<=(a'+b - 1).tdiv b:=Int.tdiv_nonneg (by omega) (by omega)
 generalize (a+b' - 1).tdiv b'=A at *
 generalize (a'+b - 1).tdiv b=B at *
 have q:=Int.mul_le_mul_of_nonneg_left hbb w
 apply Classical.byContradiction
 intro hc
 have q2:B * b'<=(A - 1) * b':=Int.mul_le_mul_of_nonneg_right (by omega) (by omega)
 omega
theorem nK_in {x:Leg} {p:Span} (h:GoodLeg x) (hp:ZX p=true) {a q:Int} (h1:x.long.lo<=a) (h2:a<=x.long.hi) (h3:p.lo<=q) (h4:q<=p.hi) :
 nK false x p<=(a+q - 1).tdiv q/\(a+q - 1).tdiv q<=nK true x p:=by
 simp only [ZX,Z6,decide_eq_true_eq] at hp
 obtain ⟨l1,l2,l3,_,_⟩:=h
 simp only [nK,cond_true,cond_false,V2]
 exact ⟨Zki l1 h1 (by omega) h4,Zki (by omega) h2 (by omega) h3⟩
open Go.Sx Go.Proofs.YtiigiflofnjilaaGreat
def pkS (b:Breed) (m:March) (ns:List W32) (k:Nat):Pk :=
 ⟨YY b.rest (atF ns k),YY b.heat (atF ns (k+1)),YY m.heat (atF ns (k+2)),YY b.toil (atF ns (k+3)),YY b.milk (atF ns (k+4)),YY b.burn (atF ns (k+5)),0,YY m.grass (atF ns (k+6)),YY b.rub (atF ns (k+7))⟩
theorem ZsZ {b:Breed} {m:March} (ns:List W32) (k:Nat) (hb:Zx b=true) (hm:ZY m=true) (hd:m.drinks=⟨0,0⟩):Pin (pkS b m ns k) b m:=by
 have hbb:=Cm.breed_bd hb
 have hmm:=Cm.march_bd hm
 refine ⟨?_,?_,?_,?_,?_,?_,?_,?_,?_⟩
 case refine_7=>rw [hd];exact ⟨Int.le_refl _,Int.le_refl _⟩
 all_goals exact Yh (by first | omega | (simp only;omega)) (Ya _ _).1
def goT (p:Pk) (b:Breed) (k:Bool) (m:March) (t:Truth):Truth:=⟨Ve p k m t,min (100000 * b.fed) (Vr p m t+100000 * p.grass),min 1000000000 (t.sore+p.rub * m.hours * m.load)⟩
theorem Zpn {p:Pk} {b:Breed} {k:Bool} {m:March} {t:Truth} (hm:m.hours≠0) (hd:p.drinks=0) (hw:Ve p k m t<=100000 * b.full):goT p b k m t=Znu p b k m t:=by
 unfold goT Znu Zk1
 rw [if_neg hm,hd,Int.mul_zero,Int.add_zero,Int.min_eq_right hw]
def carT (b:Breed) (strong load:Int) (t:Truth):Bool :=
 decide (load * 100000 * b.full<=strong * 2 * t.water) && decide (load * 100000 * b.fed<=strong * 2 * t.fat) && decide (load<=strong) && decide (load * 1000 * 1000000<=strong * (1000000000 - t.sore))
theorem Ziz {b:Breed} {c:Camel} {t:Truth} {x load:Int} (hb:Zx b=true) (hc:Zu b c=true) (ht:Tin t c) (hx:inS x b.strong) (hl:load<=(ZeX b c).lo):carT b x load t=true:=by
 have hbb:=Cm.breed_bd hb
 have e:ZeX b c=Zmy b c:=by unfold ZeX;rw [if_pos (Cm.errC_0.2 ⟨hb,hc⟩)]
 rw [e] at hl
 have h1:=(ZoH hb hc hx).1
 obtain ⟨f1,f2,f3,f4,_⟩:=ZpO hb hc ht
 have f0:=(Cm.fit_bd hb hc).1
 unfold inS at hx
 generalize (Wy b c).lo=F at *
 generalize (Zmy b c).lo=C at *
 have hx0:0<=x:=by first | omega | (simp only;omega)
 have g1:load * 1000<=x * F:=by first | omega | (simp only;omega)
 have m1:load * 1000 * (100000 * b.full)<=x * F * (100000 * b.full):=Int.mul_le_mul_of_nonneg_right g1 (by first | omega | (simp only;omega))
 have m2:x * (F * 100000 * b.full)<=x * (2000 * t.water):=Int.mul_le_mul_of_nonneg_left f2 hx0
 have m3:load * 1000 * (100000 * b.fed)<=x * F * (100000 * b.fed):=Int.mul_le_mul_of_nonneg_right g1 (by first | omega | (simp only;omega))
 have m4:x * (F * 100000 * b.fed)<=x * (2000 * t.fat):=Int.mul_le_mul_of_nonneg_left f3 hx0
 have m5:x * F<=x * 1000:=Int.mul_le_mul_of_nonneg_left f1 hx0
 have m6:x * (1000000 * F)<=x * (1000000000 - t.sore):=Int.mul_le_mul_of_nonneg_left f4 hx0
 have a1:load * 1000 * (100000 * b.full)=1000 * (load * 100000 * b.full):=by ac_rfl
 have a2:x * F * (100000 * b.full)=x * (F * 100000 * b.full):=by ac_rfl
 have a3:x * (2000 * t.water)=1000 * (x * 2 * t.water):=by rw [show (2000:Int)=1000 * 2 from rfl];ac_rfl
 have a4:load * 1000 * (100000 * b.fed)=1000 * (load * 100000 * b.fed):=by ac_rfl
 have a5:x * F * (100000 * b.fed)=x * (F * 100000 * b.fed):=by ac_rfl
 have a6:x * (2000 * t.fat)=1000 * (x * 2 * t.fat):=by rw [show (2000:Int)=1000 * 2 from rfl];ac_rfl
 have a7:x * (1000000 * F)=1000000 * (x * F):=by ac_rfl
 have a8:load * 1000 * 1000000=1000000 * (load * 1000):=by ac_rfl
 unfold carT
 simp only [Bool.and_eq_true,decide_eq_true_eq]
 generalize x * (1000000000 - t.sore)=q1 at *
 generalize load * 100000 * b.full=q2 at *
 generalize load * 100000 * b.fed=q3 at *
 generalize x * 2 * t.water=q4 at *
 generalize x * 2 * t.fat=q5 at *
 generalize x * (F * 100000 * b.full)=q6 at *
 generalize x * (F * 100000 * b.fed)=q7 at *
 generalize x * F=q8 at *
 omega
def itC (b:Breed) (m:March):Nat->Camel->Camel
 | 0,c=>c
 | n+1,c=>itC b m n (Yb b c m).1
theorem ZaO {b:Breed} {m:March}:∀ {n:Nat} {c:Camel},itC b m (n+1) c=(Yb b (itC b m n c) m).1
 | 0,_=>rfl
 | n+1,c=>by rw [itC,ZaO];rfl
def Ze0 (a r:Camel):Prop:=(r.water.lo<=a.water.lo/\a.water.hi<=r.water.hi)/\(r.fat.lo<=a.fat.lo/\a.fat.hi<=r.fat.hi)/\r.sore.lo<=a.sore.lo/\a.sore.hi<=r.sore.hi
theorem Ze0.rfl {a:Camel}:Ze0 a a:=⟨⟨Int.le_refl _,Int.le_refl _⟩,⟨Int.le_refl _,Int.le_refl _⟩,Int.le_refl _,Int.le_refl _⟩
theorem Ze0.trans {a b c:Camel} (h:Ze0 a b) (h':Ze0 b c):Ze0 a c:=by
 obtain ⟨⟨a1,a2⟩,⟨a3,a4⟩,a5,a6⟩:=h
 obtain ⟨⟨b1,b2⟩,⟨b3,b4⟩,b5,b6⟩:=h'
 exact ⟨⟨by first | omega | (simp only;omega),by first | omega | (simp only;omega)⟩,⟨by first | omega | (simp only;omega),by first | omega | (simp only;omega)⟩,by first | omega | (simp only;omega),by first | omega | (simp only;omega)⟩
theorem Zg3 {a b:Camel}:Ze0 a (Zd6 a b):=by
 unfold Zd6 ZfS;exact ⟨⟨by first | omega | (simp only;omega),by first | omega | (simp only;omega)⟩,⟨by first | omega | (simp only;omega),by first | omega | (simp only;omega)⟩,by first | omega | (simp only;omega),by first | omega | (simp only;omega)⟩
theorem Zic {a b:Camel}:Ze0 b (Zd6 a b):=by
 unfold Zd6 ZfS;exact ⟨⟨by first | omega | (simp only;omega),by first | omega | (simp only;omega)⟩,⟨by first | omega | (simp only;omega),by first | omega | (simp only;omega)⟩,by first | omega | (simp only;omega),by first | omega | (simp only;omega)⟩
theorem Zu3 {t:Truth} {a r:Camel} (h:Tin t a) (hs:Ze0 a r):Tin t r:=by
 obtain ⟨h1,h2,h3⟩:=h
 obtain ⟨⟨a1,a2⟩,⟨a3,a4⟩,a5,a6⟩:=hs
 exact ⟨⟨by first | omega | (simp only;omega),by first | omega | (simp only;omega)⟩,⟨by first | omega | (simp only;omega),by first | omega | (simp only;omega)⟩,⟨by first | omega | (simp only;omega),by first | omega | (simp only;omega)⟩⟩
theorem ZeQ {b:Breed} {m:March} {lo:Int}:∀ {j n:Nat} {c out:Camel},(Wd b m lo j n c out).2=0 ->
 (∀ i < j,m.load<=(ZeX b (itC b m i c)).lo/\(Yb b (itC b m i c) m).2.2=0/\(Yb b (itC b m i c) m).2.1=0) /\
 (∀ i < j,lo<=(n+i+1:Nat)->Ze0 (itC b m (i+1) c) (Wd b m lo j n c out).1)/\(lo<=n->Ze0 out (Wd b m lo j n c out).1)
 | 0,n,c,out,_=>⟨fun i h=>absurd h (Nat.not_lt_zero i),fun i h=>absurd h (Nat.not_lt_zero i),fun _=>Ze0.rfl⟩
 | j+1,n,c,out,h=>by
  simp only [Wd] at h ⊢
  split at h
  . simp at h
  rename_i h1
  rw [if_neg h1]
  split at h
  . simp at h
  rename_i h2
  rw [if_neg h2]
  obtain ⟨r1,r2,r3⟩:=ZeQ h
  refine ⟨fun i hi=>?_,fun i hi hl=>?_,fun hl=>?_⟩
  . cases i with
    | zero=>exact ⟨by simp only [itC];omega,by simp only [itC];omega,by simp only [itC];omega⟩
    | succ i=>exact r1 i (by first | omega | (simp only;omega))
  . cases i with
    | zero =>
     refine Ze0.trans ?_ (r3 (by first | omega | (simp only;omega)))
     show Ze0 (Yb b c m).1 _
     by_cases e1:(n:Int)+1=lo
     . rw [if_pos e1];exact Ze0.rfl
     . rw [if_neg e1,if_pos (by first | omega | (simp only;omega))];exact Zic
    | succ i=>exact r2 i (by first | omega | (simp only;omega)) (by first | omega | (simp only;omega))
  . refine Ze0.trans ?_ (r3 (by first | omega | (simp only;omega)))
    rw [if_neg (by first | omega | (simp only;omega)),if_pos (by first | omega | (simp only;omega))];exact Zg3
theorem Zem {b:Breed} {c:Camel} {m:March} (hb:Zx b=true) (hc:Zu b c=true) (he:(Yb b c m).2.2=0):ZY m=true/\(Yb b c m).1=(Yl b c m).1/\(Yb b c m).2.1=(Yl b c m).2:=by
 unfold Yb at he ⊢
 rw [if_neg (by rw [Cm.errC_0.2 ⟨hb,hc⟩];simp)] at he ⊢
 split at he
 . simp at he
 . rename_i h
   rw [if_neg h]
   split at he
   . simp at he
   . rename_i h2
     rw [if_neg h2]
     exact ⟨by simpa using h,rfl,rfl⟩
theorem Zgc {b:Breed} {c:Camel} {m:March} (h:(Yl b c m).2≠2):(Yl b c m).1.milks=c.milks:=by
 unfold Yl at h ⊢
 simp only at h ⊢
 split at h
 . exact absurd rfl h
 . rename_i hn;rw [if_neg hn]
theorem Zpu {b:Breed} {c:Camel} {m:March} {t:Truth} {k:Nat} (ns:List W32) (hb:Zx b=true) (hc:Zu b c=true) (hd:m.drinks=⟨0,0⟩) (hh:m.hours≠0) (ht:Tin t c) (he:(Yb b c m).2.2=0) (hf:(Yb b c m).2.1=0) :
 ZY m=true/\XJ (pkS b m ns k) c.milks m t=true/\Tin (goT (pkS b m ns k) b c.milks m t) (Yb b c m).1/\Zu b (Yb b c m).1=true/\(Yb b c m).1.milks=c.milks:=by
 obtain ⟨hm,e1,e2⟩:=Zem hb hc he
 have hok:=Zb2 hb hc he
 rw [e2] at hf
 have hp:=ZsZ ns k hb hm hd
 obtain ⟨t1,t2⟩:=Znd hb hc hm hp ht
 have hl:=t1 hf
 obtain ⟨_,t3⟩:=t2 hl
 have hw:Ve (pkS b m ns k) c.milks m t<=100000 * b.full:=by
  have hct:=(ZdU c.milks hb hm hp t).1.1
  have hbb:=Cm.breed_bd hb
  have hmm:=Cm.march_bd hm
  simp only [Zu,Z6,Bool.and_eq_true,decide_eq_true_eq] at hc
  have hcw:0<=(X4 b c.milks m).lo:=by
   have w1:0<=b.heat.lo * max 0 (m.heat.lo - 20):=Int.mul_nonneg (by first | omega | (simp only;omega)) (by first | omega | (simp only;omega))
   have w2:0<=ZB m:=(Cm.work_bd hm).1
   have w3:0<=(b.toil.lo * ZB m).tdiv 100000:=Int.tdiv_nonneg (Int.mul_nonneg (by first | omega | (simp only;omega)) w2) (by first | omega | (simp only;omega))
   unfold X4
   simp only
   split<;>omega
  have:=ht.water
  omega
 rw [Zpn hh rfl hw]
 rw [e1] at hok ⊢
 exact ⟨hm,hl,t3,hok,Zgc (by rw [hf];decide)⟩
theorem ZbI {b:Breed} {m:March} {lo:Int} {K:Bool} (hb:Zx b=true):∀ {j n:Nat} {c out:Camel},(Wd b m lo j n c out).2=0->Zu b c=true->c.milks=K->(lo<=n->out.milks=K)->lo<=(n+j:Nat)->(Wd b m lo j n c out).1.milks=K
 | 0,n,c,out,_,_,_,ho,hl=>ho (by first | omega | (simp only;omega))
 | j+1,n,c,out,h,hc,hk,ho,hl=>by
  simp only [Wd] at h ⊢
  split at h
  . simp at h
  rename_i h1
  rw [if_neg h1]
  split at h
  . simp at h
  rename_i h2
  rw [if_neg h2]
  have hz:(Yb b c m).2.2=0/\(Yb b c m).2.1=0:=by first | omega | (simp only;omega)
  obtain ⟨_,e1,e2⟩:=Zem hb hc hz.1
  have hmk:(Yb b c m).1.milks=K:=by rw [e1,Zgc (by rw [<- e2,hz.2];decide)];exact hk
  refine ZbI hb h (Zb2 hb hc hz.1) hmk (fun q=>?_) (by first | omega | (simp only;omega))
  split
  . exact hmk
  . split
    . exact ho (by first | omega | (simp only;omega))
    . omega
theorem Zx6 {s:Season} {x:Scene} {st:Stop} {wn:Nat} (hl:ZM s.land=true) (hx:Z9 s.land.wells.length x=true) (hw:wn < s.land.wells.length) (hst:st.well=wn) (hd:0<=st.arrives.lo/\st.arrives.lo<=100000) :
 ZaY s x st=min (s.land.wells[wn]).room ((s.land.wells[wn]).has.lo+(st.arrives.lo - 1 - -1) * ((x.yields[wn]?).getD ⟨0,0⟩).lo):=by
 have hy:x.yields.length=s.land.wells.length:=by simp only [Z9,Bool.and_eq_true,decide_eq_true_eq] at hx;omega
 have hlen:(X6 s x).wells.length=s.land.wells.length:=VL hy
 have e:(X6 s x).wells[wn]'(by first | omega | (simp only;omega))={ s.land.wells[wn] with yld:=x.yields[wn]'(by first | omega | (simp only;omega)) }:=Zds hw (by first | omega | (simp only;omega)) (by rw [VL hy];exact hw)
 unfold ZaY
 rw [hst,ZkI (Zdc hl hx) (by first | omega | (simp only;omega)) hd (by simp) rfl,e,List.getElem?_eq_getElem (by first | omega | (simp only;omega))]
 rfl
def ZqY (room:Int) (y:Nat->Int) (h0:Int):Nat->Int
 | 0=>h0
 | n+1=>min room (ZqY room y h0 n+y n)
theorem ZjZ {room h0:Int} {y:Nat->Int} (h:0<=h0/\h0<=room) (hy:∀ n,0<=y n):∀ n,0<=ZqY room y h0 n/\ZqY room y h0 n<=room
 | 0=>h
 | n+1=>by have:=ZjZ h hy n;have:=hy n;simp only [ZqY];omega
theorem ZkG {room h0 lo yl:Int} {y:Nat->Int} (h:lo<=h0) (hr:h0<=room) (hyl:0<=yl) (hy:∀ n,yl<=y n):∀ n:Nat,min room (lo+n * yl)<=ZqY room y h0 n
 | 0=>by
  simp only [ZqY]
  have:((0:Nat):Int) * yl=0:=by simp
  omega
 | n+1=>by
  have h1:=ZkG h hr hyl hy n
  have h2:=hy n
  have e:((n+1:Nat):Int) * yl=n * yl+yl:=by rw [Int.natCast_add,Int.add_mul];simp
  simp only [ZqY]
  omega
def Vn (ns:List W32) (i:Nat):Nat->List Gate->List Gate
 | _,[]=>[]
 | j,g :: r=>⟨⟨YY g.opens (atF ns (2 * i+3 * j)),YY g.opens (atF ns (2 * i+3 * j))⟩,⟨YY g.shuts (atF ns (2 * i+3 * j+1)),YY g.shuts (atF ns (2 * i+3 * j+1))⟩⟩ :: Vn ns i (j+1) r
theorem Zee {ns:List W32} {i:Nat}:∀ {l:List Gate} {j:Nat} {y:Gate},(∀ g ∈ l,g.opens.lo<=g.opens.hi/\g.shuts.lo<=g.shuts.hi)->y ∈ Vn ns i j l->∃ g ∈ l,inS y.opens.lo g.opens/\inS y.shuts.lo g.shuts
 | g :: r,j,y,hl,h=>by
  simp only [Vn,List.mem_cons] at h
  rcases h with rfl | h
  . have:=hl g (List.mem_cons_self ..)
    exact ⟨g,List.mem_cons_self ..,Yh this.1 (Ya _ _).1,Yh this.2 (Ya _ _).1⟩
  . obtain ⟨g',hm,q⟩:=Zee (fun x hx=>hl x (List.mem_cons_of_mem _ hx)) h
    exact ⟨g',List.mem_cons_of_mem _ hm,q⟩
theorem Zgv {ns:List W32} {i:Nat}:∀ {l:List Gate} {j:Nat} {g:Gate},(∀ g ∈ l,g.opens.lo<=g.opens.hi/\g.shuts.lo<=g.shuts.hi)->g ∈ l->∃ y ∈ Vn ns i j l,inS y.opens.lo g.opens/\inS y.shuts.lo g.shuts
 | g0 :: r,j,g,hl,h=>by
  simp only [Vn]
  rcases List.mem_cons.1 h with rfl | h
  . have:=hl g (List.mem_cons_self ..)
    exact ⟨_,List.mem_cons_self ..,Yh this.1 (Ya _ _).1,Yh this.2 (Ya _ _).1⟩
  . obtain ⟨y,hm,q⟩:=Zgv (fun x hx=>hl x (List.mem_cons_of_mem _ hx)) h (j:=j+1)
    exact ⟨y,List.mem_cons_of_mem _ hm,q⟩
theorem Zz2 {x:Leg} {p:Span} {ns:List W32} {i:Nat} {now a b n:Int} (h:GoodLeg x) (hp:ZX p=true) (h0:0<=a) (ha:a<=now) (hb:now<=b) (hn0:nK false x p<=n) (hn1:n<=nK true x p) (hr:ZK true x p b<=100000) :
 0<=V7 now n (Vn ns i 0 x.gates)+n/\V7 now n (Vn ns i 0 x.gates)+n<=100000/\ZK false x p a<=V7 now n (Vn ns i 0 x.gates)+n/\V7 now n (Vn ns i 0 x.gates)+n<=ZK true x p b:=by
 have hg:=YQ h.g2 (Int.le_refl _)
 have hg':∀ g ∈ x.gates,g.opens.lo<=g.opens.hi/\g.shuts.lo<=g.shuts.hi:=fun g hm=>by have:=hg g hm;omega
 have hl1:=ZeF (k:=true) h hp
 have hl0:=ZeF (k:=false) h hp
 have hle:leK true x p b+nK true x p<=100000:=by simp only [ZK] at hr;omega
 obtain ⟨g,hm,q1,q2⟩:=(Zeg (k:=true) (t:=b) (u:=leK true x p b) h hp (by first | omega | (simp only;omega))).1 (Int.le_refl _)
 simp only [oK,sK,cond_true] at q1 q2
 have hgm:=hg g hm
 obtain ⟨y,hin,⟨v1,v2⟩,v3,v4⟩:=Zgv (ns:=ns) (i:=i) (j:=0) hg' hm
 have hf1:V7 now n (Vn ns i 0 x.gates)<=leK true x p b:=by
  unfold V7
  rw [ZgJ (by first | omega | (simp only;omega))]
  exact .inr ⟨_,hin,by first | omega | (simp only;omega),by first | omega | (simp only;omega)⟩
 have hf0:leK false x p a<=V7 now n (Vn ns i 0 x.gates):=by
  have hq:=(ZgJ (n:=n) (day:=now) (o:=fun g=>g.opens.lo) (s:=fun g=>g.shuts.lo) (t:=V7 now n (Vn ns i 0 x.gates)) (by first | omega | (simp only;omega)) (l:=Vn ns i 0 x.gates) (a:=100001)).1 (Int.le_refl _)
  rcases hq with hq | ⟨y,hy,w1,w2⟩
  . omega
  . obtain ⟨g2,hm2,⟨z1,z2⟩,z3,z4⟩:=Zee hg' hy
    rw [Zeg h hp (by first | omega | (simp only;omega))]
    exact ⟨g2,hm2,by simp only [oK,sK,cond_false];omega,by simp only [oK,cond_false];omega⟩
 have hk0:ZK false x p a<=leK false x p a+nK false x p:=by simp only [ZK];omega
 have hk1:ZK true x p b=leK true x p b+nK true x p:=by simp only [ZK];omega
 have hfl:0<=V7 now n (Vn ns i 0 x.gates):=by
  have:=Zlx (k:=false) h hp (show a<=100001 by have:=Vs (k:=true) h hp (show b<=100001 by have:=Xu (k:=true) (t:=b) h hp;omega);omega)
  omega
 exact ⟨by first | omega | (simp only;omega),by first | omega | (simp only;omega),by first | omega | (simp only;omega),by first | omega | (simp only;omega)⟩
end Go.Azalai
