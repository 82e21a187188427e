/- Walks and plain laws that lead to the given statement, part 7 of 10. -/
import Derived.Test.YtkpkgafhfakpdaaGreatDoorQF
import Derived.Test.YtkpkgafhfakpdaaGreatDoorProg
set_option maxRecDepth 100000
set_option maxHeartbeats 4000000
set_option linter.all false
open Nat renaming beq_refl->nbr
namespace Go.Azalai
structure Offer where
 place:Int
 give:Int
 get:Int
 units:Int
 fors:Span
 since:Int
 until_:Int
def Wk (x:Offer):Bool:=inR 0 9999 x.place && (inR 0 4 x.give && (inR 0 4 x.get && (!(x.give == x.get) && (inR 1 50 x.units && (Z8 1 50 x.fors && Z8 0 100000 ⟨x.since,x.until_⟩)))))
end Go.Azalai
namespace Go.Proofs.YtkpkgafhfakpdaaGreatDoor
open Go Go.Sx Go.Azalai
def Zm (x:Offer):List SV:=[I x.place,I x.give,I x.get,I x.units,I x.fors.lo,I x.fors.hi,I x.since,I x.until_]
theorem ZiY (x:Offer):Ct Tryz.prog 178 [.agg (Zm x)] (B (Wk x)):=by
 refine t178.1 (by simp [Zm]) (by simp) ?_;dsimp only [c178,r178,Zm,go_sem];repeat (first | (refine gb ?_;dsimp only [go_sem]) | (refine call (Ur _ _ _) ?_;dsimp only [go_sem]) | (refine call (ZbK _) ?_;dsimp only [go_sem]) | (refine call (V6 x.fors _ _) ?_;dsimp only [go_sem]) | (refine call (V6 ⟨x.since,x.until_⟩ _ _) ?_;dsimp only [go_sem]))
 simp only [Wk,Bool.and_assoc];rfl
theorem ZzU (h:Nat) (caps:List SV) (hk:KFL caps) (g:Offer->Bool) (l:List Offer) (hg:∀ x ∈ l,Ct Tryz.prog h (.agg (Zm x) :: caps) (B (g x))) (hl:l.length < 4611686018427387904) {c:Bool} :
 Ct Tryz.prog 251 [.sl c 8 (l.map Zm),.cl h caps] (I (Yv g l 0)):=by
 refine t251.1 ⟨by simp [KF,Za,KFL,Zm],hk,trivial⟩ (by simp [KF]) ?_;dsimp only [c251,r251,go_sem];refine Yb (λk:Nat=>[(8,I k)]) (λ_=>[]) (λk=>k<=l.length/\Yv g (l.drop k) k=Yv g l 0) (λk=>l.length - k) 0 ⟨Nat.zero_le _,rfl⟩ ?_ ?_
 . (refine Zi ?_ ?_ ?_ rfl rfl<;>dsimp only [Zm,hk,id,go_sem]<;>simp [Zm,hk,Za])
 . intro k ⟨hk',hi⟩;dsimp only [go_sem];refine br ?_ ?_
   . intro hlt;have hlt:k < l.length:=by simpa using hlt
     dsimp only [go_sem];refine Zx k hlt rfl ?_;dsimp only [Zm,go_sem];refine call (hg l[k] (List.getElem_mem _)) ?_;dsimp only [go_sem];refine br ?_ ?_
     . intro hgx;dsimp only [go_sem];rw [<- hi,List.drop_eq_getElem_cons hlt];simp [Yv,hgx]
     . intro hgx;dsimp only [go_sem];refine ⟨k+1,⟨by omega,?_⟩,by omega,?_⟩
       . rw [<- hi,List.drop_eq_getElem_cons hlt];simp [Yv,hgx]
       . rw [Zf (by omega) (by omega)];(refine Zi ?_ ?_ ?_ rfl rfl<;>dsimp only [Zm,hk,id,go_sem]<;>simp [Zm,hk,Za])
   . intro hlt;have hlt:k=l.length:=by simp at hlt;omega
     dsimp only [go_sem];rw [<- hi,hlt];simp [Yv]
theorem Zxs (h:Nat) (caps:List SV) (hk:KFL caps) (g:Offer->Bool) (l:List Offer) (hg:∀ x ∈ l,Ct Tryz.prog h (.agg (Zm x) :: caps) (B (g x))) (hl:l.length < 4611686018427387904) {c:Bool} :
 Ct Tryz.prog 217 [.sl c 8 (l.map Zm),.cl h caps] (B (l.any g)):=by
 refine t217.1 ⟨by simp [KF,Za,KFL,Zm],hk,trivial⟩ (by simp [KF]) ?_;dsimp only [c217,r217,go_sem];refine call (ZzU h caps hk g l hg hl) ?_;dsimp only [go_sem];rw [YR]
theorem Zd2 (x:Offer):Ct Tryz.prog 218 [.agg (Zm x),.ps [.cl 178 []] 0] (B (!Wk x)):=by
 refine t218.1 (by simp [Zm]) (by simp) ?_;dsimp only [c218,r218,Zm,go_sem];refine call (ZiY x) ?_;dsimp only [go_sem]
theorem Zbe (l:List Offer) (hl:l.length < 4611686018427387904) (c:Bool):Ct Tryz.prog 177 [.sl c 8 (l.map Zm),.cl 178 []] (B (l.all Wk)):=by
 refine t177.1 (by simp [Za,Zm]) (by simp) ?_;dsimp only [c177,r177,go_sem];refine Xi (by simp [FLT]) (res:=B (l.any λx=>!Wk x)) ?_ ?_
 . dsimp only [go_sem];exact Zxs 218 [.ps [.cl 178 []] 0] (by simp) (λx=>!Wk x) l (λx _=>Zd2 x) hl
 . dsimp only [go_sem];simp [List.all_eq_not_any_not]
theorem u243:Tryz.prog.underlying 244=some (.map 3 29):=by kernel_rfl
def Z7 (b:Nat) (c:Bool) (os:List Offer) (L:List (Nat × Int × List Int)) (clk:Nat):List (Nat × HB):=[(b,.map (mpS kI (λl=>.sl false 1 (l.map Zk)) L) clk),(b+1,.cells [.sl c 8 (os.map Zm),.mp b] 246)]
theorem Zih (c:Bool):CtM Tryz.prog 128 [] 0 [.sl c 8 []] (λo=>o=⟨false,.tup [.p 1 0,I 0],Z7 0 c [] [] 0,2⟩):=by
 refine m128 (by simp [hpb]) (λo ho=>by subst ho;simp [Z7,mpS,KX,KXL,KXP,KXH,KFL,KF,KFR]) ?_;dsimp only [ZAg,ZAa,go_sem];repeat (refine gb ?_;dsimp only [go_sem])
 refine call (Zbe [] (by decide) c) ?_;dsimp only [go_sem];repeat (refine gb ?_;dsimp only [go_sem])
 refine Zn rfl ?_;dsimp only [go_sem];refine WA rfl rfl rfl ?_;dsimp only [go_sem];refine ZU 1 ?_;dsimp only [Zc,go_sem];refine Zn rfl ?_;dsimp only [go_sem];refine ⟨_,rfl,?_⟩;(refine Zp ?_ ?_ ?_ rfl<;>dsimp only [Z7,mpS,id,go_sem]<;>simp [Z7,mpS,Za])
theorem Zd9 (f g:Fare) (c d e:Bool) (hf:Xd f=true) (hg:Xd g=true) (h:f.day<=g.day) :
 CtM Tryz.prog 69 [] 0 [.sl c 8 [],.sl d 3 [Zu e f,Zu e g]] (λo=>o=⟨false,.tup [.agg [.p 2 0,.sl d 3 [Zu e f,Zu e g]],I 0],Z7 1 c [] [] 0,3⟩):=by
 have hff:=hf;have hgg:=hg;simp only [Xd,inR,Bool.and_eq_true,decide_eq_true_eq] at hff hgg;have kf:KFL (Zu e f):=by simp [Zu,KFL,KF,Za,Zh]
 have kg:KFL (Zu e g):=by simp [Zu,KFL,KF,Za,Zh]
 refine m69 (by simp [hpb]) (λo ho=>by subst ho;simp [Z7,mpS,KX,KXL,KXP,KXH,KFL,KF,KFR,kf,kg]) ?_;dsimp only [c69,r69,go_sem];refine Zl [] (Zih c) rfl rfl rfl ?_ ?_ ?_
 . (repeat first | dsimp only [go_sem] | simp only [nbr])
   try simp [mtL,mtB,mtS,KFR]
 . trivial
 rintro _ rfl
 (repeat first | dsimp only [Z7,go_sem] | simp only [nbr])
 refine Zn rfl ?_;dsimp only [go_sem];refine call (Ur _ _ _) ?_;dsimp only [go_sem];rw [show inR 1 5 ((2:Nat):Int)=true from by decide];refine ZO rfl ?_;dsimp only [go_sem];refine ZO rfl ?_;dsimp only [go_sem];refine call (Zbr [f,g] (by simp) d e (by simp;omega)) ?_;rw [show [f,g].all Xd=true from by simp [hf,hg]];dsimp only [go_sem];repeat (refine ZO rfl ?_;dsimp only [go_sem])
 refine call (Zbo f g d e (by omega) (by omega) h) ?_;dsimp only [go_sem];repeat (refine ZO rfl ?_;dsimp only [go_sem])
 refine Zn rfl ?_;dsimp only [go_sem];refine ⟨_,rfl,?_⟩;(refine Zp ?_ ?_ ?_ rfl<;>dsimp only [Z7,mpS,kf,kg,id,go_sem]<;>simp [Z7,mpS,kf,kg,Za])
end Go.Proofs.YtkpkgafhfakpdaaGreatDoor
namespace Go.Sx
open Go Go.RowKit
section
variable {P:Program} {σ : St} {r:KT} {K:RK} {t e ty:TypeId}
theorem ZmH {m:Nat} {σ : St} (t k:Nat) {l:List SV} {T:TypeId} (hm:Nat.ble m k=true) (hg:σ.gs=[]) (hl:lk t σ.fr = .p k 0) (hk:lkh k σ.hp = .cells l T) :
 Ent m σ ⟨(t,.ps l 0) :: σ.fr,(k,.gone) :: σ.hp,σ.n,σ.N,σ.gs⟩ :=
 ZbP t k _ hg (λ_ _ _ e=>by cases e) λC E w y hmc hh hR=>by
  rw [hl] at hR;simp only [R] at hR ⊢;have hb:=hh.bk k;rw [hk] at hb;simp only [Z1] at hb;obtain ⟨cs,h2,h7⟩:=hb;have hoc:occ E k (lkh k σ.hp) (E.β k):=by rw [hk];rfl
  have hok:okS C E ((k,.gone) :: σ.hp) (E.β k):=by
   refine ⟨?_,λj ho=>?_⟩
   . rcases hh.lo k _ hoc with q | q
     . exact .inr q
     . have:=hmc.2 k _ q;have:=hmc.1;have:=Nat.le_of_ble_eq_true hm;omega
   . rw [Zj] at ho;split at ho
     . exact ho.elim
     . exact absurd (hh.dj j k _ ho hoc).symm (by omega)
  refine ⟨E.β k,0,by rw [hR.2],cs.toList,ZC (XP hh k).2.c (λ_ _=>Ele.rfl) (λ_ h=>h) _ _ h7,λ_=>hok,λj c hj=>?_⟩;rw [cell_of_row _ _ _ _ _ _ h2];simpa using hj
theorem ZrA {w:World} {E:Env} {n ok:Nat->Prop}:∀ (a b:List SV) (cs:List Value),RL w E n ok (a ++ b) cs->∃ c1 c2,cs=c1 ++ c2/\c1.length=a.length/\RL w E n ok a c1/\RL w E n ok b c2
 | [],b,cs,h=>⟨[],cs,rfl,rfl,by simp [RL],h⟩
 | s :: a,b,cs,h=>by
  simp only [List.cons_append,RL] at h;obtain ⟨y,q,rfl,h1,h2⟩:=h;obtain ⟨c1,c2,rfl,k1,k2,k3⟩:=ZrA a b q h2;exact ⟨y :: c1,c2,rfl,by simp [k1],by simp only [RL];exact ⟨_,_,rfl,h1,k2⟩,k3⟩
theorem ZkK {w:World} {E:Env} {n ok:Nat->Prop} {b m:Nat}:∀ (rows:List (List SV)) (off:Nat) (cs:List Value),(∀ x ∈ rows,x.length=m)->RL w E n ok rows.flatten cs->WH w ok b off cs->RR w E n ok b m rows off
 | [],_,_,_,_,_=>trivial
 | row :: rs,off,cs,hr,h,hc=>by
  rw [List.flatten_cons] at h;obtain ⟨c1,c2,rfl,k1,k2,k3⟩:=ZrA _ _ _ h;have hm:row.length=m:=hr row (by simp);refine ⟨hm,⟨c1,k2,λhne=>hc.1 (by simp [hne]),λj c hj=>hc.2 j c ?_⟩,ZkK rs (off+m) c2 (λx hx=>hr x (by simp [hx])) k3 ⟨λhne=>hc.1 (by simp [hne]),λj c hj=>?_⟩⟩
  . rw [List.getElem?_append_left (by obtain ⟨h,_⟩:=List.getElem?_eq_some_iff.1 hj;exact h)];exact hj
  . have:=hc.2 (m+j) c (by rw [List.getElem?_append_right (by omega)];rw [show m+j - c1.length=j from by omega];exact hj);rw [show off+m+j=off+(m+j) from by omega];exact this
theorem Zs0 {ax:Operand} {d:Option Nat} {l:List SV} {N m:Nat} (rows:List (List SV)) (hx:ZaI σ ax = .ps l 0) (ht:P.underlying t=some (.array N e)) (hs:Xh P e=some m) (hl:l=rows.flatten) (hn:rows.length=N)
 (hr:∀ x ∈ rows,x.length=m) (hN:N<=1000000) (h:Yo d (.sl true m rows) none σ r K):RAW P d (.slice t ax none none none) ty σ r K:=by
 intro o C E a w next Q e1 e2 e3 hS hnx hq;have hxv:=W8 hS hx (λ_ _ _=>by simp);simp only [R] at hxv;obtain ⟨b,off,hv,cs,hcs,hca⟩:=hxv;have hsz:(sizeOf e).run P w = .ok m w:=ZT hs;have hrun:(Instr.sliceAt t (a.eval ax) none none none).run P w = .ok (.slice (some ⟨b,off,none⟩) N N) w:=by
  rw [hv];simp [Instr.sliceAt,Sem.run_bind,run_underlying ht,Instr.sureAddr,Instr.sliceBounds,hsz,Addr.add]
 have hx2:(execOp a.eval o).run P w = .ok (.value (.slice (some ⟨b,off,none⟩) N N)) w:=by
  obtain ⟨dst',op',ty',pos,after,guard⟩:=o;simp only at e2 e3;subst e2;subst e3;simp [execOp,Sem.run_bind,hrun]
 refine Zz hx2 (by simp) ?_;show next (a.put o.dst _) _;rw [e1];refine X5 h hS ?_ hnx;simp only [R];exact ⟨some ⟨b,off,none⟩,N,N,rfl,hn.symm,⟨Nat.le_refl _,λ_=>rfl⟩,by omega,.inr ⟨b,off,rfl,ZkK rows off cs hr (hl ▸ hcs) hca⟩⟩
end
end Go.Sx
namespace Go.Proofs.YtkpkgafhfakpdaaGreatDoor
open Go Go.Sx Go.Azalai
def Za9 (m:Int) (k:Span):List (List SV):=if (Zdl m k).hi > 0 then [ZbH 0 0 (Zdl m k)] else []
def ZbI (m:Int) (k:Span):List (List SV):=[[I ((m * k.lo).tdiv 1000),I ((m * k.hi).tdiv 1000)],[I 0,I 0],[I 0,I 0],[I 0,I 0],[I 0,I 0]]
theorem u154:Tryz.prog.underlying 154=some (.array 5 23):=by kernel_rfl
theorem ZeW (m:Int) (k:Span) (pl dy dz:Int) (c d e c2 c3:Bool) (hm:0<=m/\m<=1000000) (hk:Z8 0 1000 k=true) (hp:inR 0 9999 pl=true) (hd:inR 0 100000 dy=true) (hz:inR 0 100000 dz=true) (h:dy<=dz) :
 Ct Tryz.prog 18 [.sl c 8 [],.sl d 3 [Zu e ⟨pl,dy,keepF k⟩,Zu e ⟨pl,dz,keepF k⟩],.sl c3 1 [[I m],[I 0],[I 0],[I 0],[I 0]],.sl c2 3 []] (.tup [.sl true 2 (ZbI m k),.sl false 4 (Za9 m k),I 0,I 0]):=by
 have hall:(keepF k).all (Z8 0 1000)=true:=by simp [keepF,hk];decide
 have kf:∀ x,KFL (Zu e ⟨pl,x,keepF k⟩):=λx=>by simp [Zu,KFL,KF,Za,Zh]
 refine t18.1 ⟨by simp [KF,KFR],by simp [KF,KFR,kf],by simp [KF,KFR,KFL],by simp [KF,KFR],trivial⟩ (by simp only [Za9];split<;>simp [KF,KFL,KFR,ZbI,ZbH]) ?_;dsimp only [c18,r18,go_sem];refine gh Zr ?_;dsimp only [go_sem];refine Zl [] (Zd9 ⟨pl,dy,keepF k⟩ ⟨pl,dz,keepF k⟩ c d e (by simp only [Xd,hp,hd,hall];rfl) (by simp only [Xd,hp,hz,hall];rfl) h) rfl rfl rfl ?_ ?_ ?_
 . (repeat first | dsimp only [go_sem] | simp only [nbr])
   try simp [mtL,mtB,mtS,KFR,kf]
 . trivial
 rintro _ rfl
 (repeat first | dsimp only [Z7,go_sem] | simp only [nbr])
 repeat (first | (refine gh Zr ?_;dsimp only [go_sem]) | (refine Zn rfl ?_;dsimp only [go_sem]))
 refine call (Zgt m 0 0 0 0 c3 (by simp [inR];omega)) ?_;dsimp only [go_sem];repeat (first | (refine gh Zr ?_;dsimp only [go_sem]) | (refine Zn rfl ?_;dsimp only [go_sem]))
 refine ZU 1 ?_;dsimp only [Zc,go_sem];repeat (first | (refine gh Zr ?_;dsimp only [go_sem]) | (refine Zn rfl ?_;dsimp only [go_sem]))
 refine ZU 2 ?_;dsimp only [Zc,go_sem];repeat (first | (refine gh Zr ?_;dsimp only [go_sem]) | (refine Zt rfl ?_;dsimp only [go_sem]))
 refine ixs 0 _ rfl rfl ?_;dsimp only [Zu,go_sem];refine Zl [4] (ZnD m k pl dy e hm hk) rfl rfl rfl ?_ ?_ ?_
 . (repeat first | dsimp only [Zu,go_sem] | simp only [nbr])
   try simp [mtL,mtB,mtS,KFR,kf,Zb,Za,Zh,KFL,KF]
 . (repeat first | dsimp only [ZbU,go_sem] | simp only [nbr])
   try simp [mtL,mtB,mtS]
 rintro _ rfl;have hlv:∃ q:SV,Zfi m k=q/\(q = .sl false 4 (Za9 m k)\/(q = .v (.slice none 0 0)/\Za9 m k=[])):=by
  refine ⟨_,rfl,?_⟩;simp only [Zfi,Za9];split
  . exact .inl rfl
  . exact .inr ⟨rfl,rfl⟩
 obtain ⟨q,hq1,hq2⟩:=hlv;rw [hq1];rcases hq2 with rfl | ⟨rfl,hq3⟩
 case' inl =>
  (repeat first | dsimp only [ZbU,go_sem] | simp only [nbr])
  refine UB (by simp only [Za9];split<;>simp) ?_;dsimp only [go_sem]
 case' inr =>
  (repeat first | dsimp only [ZbU,go_sem] | simp only [nbr])
  refine UB (by simp) ?_;dsimp only [go_sem];rw [hq3]
 all_goals
  dsimp only [Zc,go_sem];repeat (first | (refine Zn rfl ?_;dsimp only [go_sem]))
  refine gh (ZmH 13 4 rfl rfl rfl rfl) ?_;dsimp only [go_sem];repeat (first | (refine gh Zr ?_;dsimp only [go_sem]) | (refine Zn rfl ?_;dsimp only [go_sem]))
  refine Zs0 (m:=2) (l:=(ZbI m k).flatten) (ZbI m k) ?_ u154 (by kernel_rfl) ?_ rfl (by simp [ZbI]) (by decide) ?_
  . rfl
  . rfl
  dsimp only [go_sem];repeat (refine gh Zr ?_;dsimp only [go_sem])
def c73:SC:=(sr1 [o1 2 (Jz 0 0 150),o1 4 (.mv (.c (.slice none 0 0)))] (.seq (.regd (Jr 16) [Jo 5 (ao 2 0),Jp 6 (lf 5 1) [0],Jo 7 (ao 2 1),Jp 8 (lf 7 1) [2],Jm 9 1,Jp 10 (Jx 8 9 3) [3,4],Jp 11 (ao 10 0) [5],Jp 12 (lf 11 1) [6],Jo 13 (ao 2 1),Jp 14 (lf
 13 1) [8],Jm 15 1,Jp 16 (Jx 14 15 3) [9,10],Jp 17 (ao 16 1) [11],Jp 18 (lf 17 1) [12]] 0 0 [⟨some 19,.callm 136 [.t 6,.t 12,.t 18],none,[1,7,13]⟩,⟨some 4,.mv (.t 19),none,(Jr 15)⟩]) .ret))
def r73:List RV:=[.tmp 4]
theorem n73:Tryz.f73.ntmps=20:=by kernel_rfl
theorem b73:ZV Tryz.prog 73=true:=by kernel_rfl
theorem Zyf:YA Tryz.prog c73 ((Tryz.f73.body).getD .skip)=true:=by kernel_rfl
theorem Zym:YQ Tryz.prog r73 Tryz.f73.results.toList=true:=by kernel_rfl
theorem m73 {n0:Nat} {hp0:List (Nat × HB)} {args:List SV} {Zw:Ot->Prop} (hh:hpb n0 hp0) (hx:∀ o,Zw o->KX o.res/\KXP o.hp) (h:sx Tryz.prog Y0 n0 c73 ⟨YD 0 args,hp0,n0,20,[]⟩ (Xs r73 λo=>∃ o',Zw o'/\XV n0 o o')) (hA:Nat.ble args.length 20=true:=by rfl):CtM Tryz.prog 73 hp0 n0 args Zw:=Zv Tryz.func73 rfl b73 Zyf Zym n73 (Nat.le_of_ble_eq_true hA) hh hx h
def c136:SC:=(sr1 [o1 6 (.mv (.c (.slice none 0 0)))] (sr1 [o1 7 (.mv (.c (.slice none 0 0)))] (.seq (sr1 [m1 10 0,o1 11 (.nilc (.t 10)),o1 12 (ao 11 1),o1 13 (lf 12 1),m1 14 1,o1 15 (.raw (Go.Op.lookup 244 (Go.Operand.tmp 13) (Go.Operand.tmp 14)
 Bool.false) 29),o1 16 (Jl 15),Jk 17 0] (.block 0 (.loop (sr1 [o1 18 (Jb .lss 17 16)] (.seq (Ji 18 .skip (.exit 0)) (.seq (.block 1 (sr1 [o1 19 (Jx 15 17 1),o1 20 (lf 19 1),m1 9 20] (.seq (.regd (Jr 18) [Jm 21 2,Jm 22 0,Jp 23 (.nilc (.t 22)) [1],Jp 24
 (ao 23 0) [2],Jp 25 (lf 24 1) [3],Jm 26 9,Jp 27 (Jx 25 26 8) [4,5],Jp 28 (ao 27 6) [6],Jp 29 (lf 28 1) [7],Jm 30 0,Jp 31 (.nilc (.t 30)) [9],Jp 32 (ao 31 0) [10],Jp 33 (lf 32 1) [11],Jm 34 9,Jp 35 (Jx 33 34 8) [12,13],Jp 36 (ao 35 7) [14],Jp 37 (lf
 36 1) [15],Jp 38 (J3 71 21 29 37) [0,8,16]] 0 0 []) (Ji 38 (.reg [m1 39 7,m1 40 9,o1 41 (.bsl 1 3 [.t 40]),o1 42 (.app 1 8 3 (.t 39) (.t 41)),m1 7 42]) .skip)))) (.reg [o1 43 (Jc .add 17 1),m1 17 43]))))))) (sr1 [m1 44 7,m1 6 44] .ret))))
def r136:List RV:=[.tmp 6]
theorem n136:Tryz.f136.ntmps=45:=by kernel_rfl
theorem b136:ZV Tryz.prog 136=true:=by kernel_rfl
theorem Zse:YA Tryz.prog c136 ((Tryz.f136.body).getD .skip)=true:=by kernel_rfl
theorem Zst:YQ Tryz.prog r136 Tryz.f136.results.toList=true:=by kernel_rfl
theorem m136 {n0:Nat} {hp0:List (Nat × HB)} {args:List SV} {Zw:Ot->Prop} (hh:hpb n0 hp0) (hx:∀ o,Zw o->KX o.res/\KXP o.hp) (h:sx Tryz.prog Y0 n0 c136 ⟨YD 0 args,hp0,n0,45,[]⟩ (Xs r136 λo=>∃ o',Zw o'/\XV n0 o o')) (hA:Nat.ble args.length 45=true:=by rfl):CtM Tryz.prog 136 hp0 n0 args Zw:=Zv Tryz.func136 rfl b136 Zse Zst n136 (Nat.le_of_ble_eq_true hA) hh hx h
def c85:SC:=(sr1 [o1 4 (Jz 0 0 150),o1 5 (Jz 1 0 3),o1 6 (Jz 2 0 176),o1 7 (Jz 3 0 29),o1 8 (.mv (.c (.nilFunc)))] (sr1 [o1 9 (.mkf 145 [.t 5,.t 4,.t 7,.t 6]),m1 8 9] .ret))
def r85:List RV:=[.tmp 8]
theorem n85:Tryz.f85.ntmps=10:=by kernel_rfl
theorem b85:ZV Tryz.prog 85=true:=by kernel_rfl
theorem Zy0:YA Tryz.prog c85 ((Tryz.f85.body).getD .skip)=true:=by kernel_rfl
theorem ZyX:YQ Tryz.prog r85 Tryz.f85.results.toList=true:=by kernel_rfl
theorem m85 {n0:Nat} {hp0:List (Nat × HB)} {args:List SV} {Zw:Ot->Prop} (hh:hpb n0 hp0) (hx:∀ o,Zw o->KX o.res/\KXP o.hp) (h:sx Tryz.prog Y0 n0 c85 ⟨YD 0 args,hp0,n0,10,[]⟩ (Xs r85 λo=>∃ o',Zw o'/\XV n0 o o')) (hA:Nat.ble args.length 10=true:=by rfl):CtM Tryz.prog 85 hp0 n0 args Zw:=Zv Tryz.func85 rfl b85 Zy0 ZyX n85 (Nat.le_of_ble_eq_true hA) hh hx h
def c31:SC:=(sr1 [o1 9 (Jz 4 0 3),o1 10 (.alloc [.slice none 0 0] 29),Jk 11 0,Jk 12 0] (sr1 [m1 18 0,m1 19 1,o1 20 (.callm 69 [.t 18,.t 19]),m1 17 20,o1 21 (Je 17 0),o1 22 (Je 17 1),o1 13 (.alloc [.pointer none,.slice none 0 0] 150),Js 13 21 2,m1 12
 22] (.seq (sr1 [m1 23 12,o1 24 (Jc .neq 23 0)] (Ji 24 (sr1 [m1 25 12,Jv 10 (.c (.slice none 0 0)) 1,Jk 11 0,m1 12 25] .ret) .skip)) (.seq (sr1 [m1 26 2,o1 27 (J1 84 26),o1 28 (Jh 27),m1 29 28,g1 30 29 false (lf 9 1),g1 31 29 false (J1 84 30),g1 32 29
 false (Jh 31),o1 33 (.pick (.t 29) Jt (.t 32)),m1 34 33,g1 35 34 false (.mv (.t 3)),g1 36 34 false (.call 71 [.t 35,cn 0,cn 1000000]),g1 37 34 false (Jh 36),o1 38 (.pick (.t 34) Jt (.t 37))] (Ji 38 (sr1 [Jv 10 (.c (.slice none 0 0)) 1,Jk 11 0,Jk 12
 2] .ret) .skip)) (sr1 [o1 39 (lf 9 1),o1 40 (.build zv0 [(0,1,.t 39),(1,1,.c (.int .i64 (-1)))]),o1 14 (.alloc zv0 176),Js 14 40 2] (.seq (sr1 [o1 41 (lt 13 2),m1 42 2,m1 43 3,o1 44 (.build zv0 [(0,1,.t 42),(1,1,.t 43)]),o1 45 (.callm 85 [.t 41,cn
 0,.t 44,.c (.slice none 0 0)])] (.block 0 (.gh (.rfun (.t 45) [46,47] (sr1 [m1 15 46] (.reg [o1 16 (.alloc zv0 176),Js 16 47 2])) (.block 1 (sr1 [o1 48 (ao 16 0),o1 49 (lf 48 1),o1 50 (lf 9 1),o1 51 (Jb .eql 49 50),m1 52 51,g1 53 52 true (lt 16 2),g1
 54 52 true (lt 14 2),g1 55 52 true (.eqs true true [1,1] (.t 53) (.t 54)),o1 56 (.pick (.t 52) (.t 55) Jf),m1 57 56,g1 58 57 true (ao 16 1),g1 59 57 true (lf 58 1),g1 60 57 true (ao 14 1),g1 61 57 true (lf 60 1),g1 62 57 true (Jb .gtr 59 61),o1 63
 (.pick (.t 57) (.t 62) Jf)] (Ji 63 (.gh (.regl [m1 64 15,⟨some 65,.callm 86 [.t 64],none,[0]⟩,o1 66 (lt 16 2),Ju 10 65 1 [0,1],Ju 14 66 2 (Jr 4)])) .skip))))))) (.seq (sr1 [o1 67 (lf 10 1),o1 68 (.raw (Go.Op.binOp Go.BinOp.eql 29 (Go.Operand.tmp 67)
 (Go.Operand.const (Go.Value.slice Option.none 0 0)) 29) 4)] (Ji 68 (sr1 [Jv 10 (.c (.slice none 0 0)) 1,Jk 11 0,Jk 12 6] .ret) .skip)) (.seq (.regd (Jr 6) [Jo 69 (lf 10 1),.hide (.t 10),Jo 70 (ao 14 1),Jp 71 (lf 70 1) [1]] 0 3 [Ju 10 69 1 [0],⟨some
 11,.mv (.t 71),none,(Jr 4)⟩,⟨some 12,.mv (cn 0),none,(Jr 5)⟩]) .ret))))))))
def r31:List RV:=[.cell 10 1 false,.tmp 11,.tmp 12]
theorem t31:Qt1 Tryz.prog 31 c31 r31 72:=ZL Tryz.func31
def c14:SC:=(sr1 [Jw 0 Jf] (sr1 [o1 13 (.call 17 [cn 1000,cn 1000]),o1 14 (.call 17 [cn 1,cn 1]),o1 15 (.call 17 [cn 50,cn 100]),o1 16 (.build zv5 [(0,1,.c (.int .u8 1)),(1,2,.t 13),(3,2,.t 14),(5,2,.t 15),(9,1,.c (.int .i64 1))]),o1 17 (J1 16 16),m1
 12 17,o1 18 (Je 12 0),o1 19 (Je 12 1),o1 20 (Je 12 2),o1 21 (Je 12 3),o1 1 (.alloc zv0 23),o1 2 (.alloc zv0 23),Js 1 18 2,Js 2 19 2,m1 3 20,m1 4 21] (sr1 [o1 23 (.call 64 []),o1 24 (.bsl 1 3 [cn 1000,cn 0,cn 0,cn 0,cn 0]),o1 25 (.call 18 [.c (.slice
 none 0 0),.t 23,.t 24,.c (.slice none 0 0)]),m1 22 25,o1 26 (Je 22 0),o1 27 (Je 22 1),o1 28 (Je 22 2),o1 29 (Je 22 3),m1 5 26,m1 6 27,m1 7 28,m1 8 29] (sr1 [o1 31 (.call 17 [cn 3,cn 3]),o1 32 (.build zv2 [(0,1,.c (.int .i64 1)),(2,1,.c (.int .i64
 1)),(3,1,.c (.int .i64 2)),(4,2,.t 31),(7,1,.c (.int .i64 9))]),o1 33 (.bsl 8 84 [.t 32]),o1 34 (.call 64 []),o1 35 (.call 31 [.t 33,.t 34,cn 0,cn 10,cn 1]),m1 30 35,o1 36 (Je 30 0),o1 37 (Je 30 1),o1 38 (Je 30 2),m1 9 36,m1 10 37,m1 11 38] (.seq
 (.regd (Jr 40) [Jo 39 (.call 7 []),Jp 40 (.mv (.t 39)) [0],Jq 41 40 true (.mv (.t 4)) [1],Jq 42 40 true (Jc .eql 41 0) [1,2],Jp 43 (.pick (.t 40) (.t 42) Jf) [1,3],Jp 44 (.mv (.t 43)) [1,4],Jq 45 44 true (lt 1 2) [5],Jq 46 44 true (.call 17 [cn
 900,cn 950]) [5],Jq 47 44 true (.eqs false true [1,1] (.t 45) (.t 46)) [5,6,7],Jp 48 (.pick (.t 44) (.t 47) Jf) [5,8],Jp 49 (.mv (.t 48)) [7,9],Jq 50 49 true (.mv (.t 8)) [10],Jq 51 49 true (Jc .eql 50 0) [10,11],Jp 52 (.pick (.t 49) (.t 51) Jf)
 [10,12],Jp 53 (.mv (.t 52)) [10,13],Jq 54 53 true (.mv (.t 5)) [14],Jq 55 53 true (Jl 54) [14,15],Jq 56 53 true (Jc .eql 55 5) [14,16],Jp 57 (.pick (.t 53) (.t 56) Jf) [14,17],Jp 58 (.mv (.t 57)) [14,18],Jq 59 58 true (.mv (.t 5)) [19],Jq 60 58 true
 (.ixs (.t 59) (cn 0) 2) [19,20],Jq 61 58 true (lt 60 2) [19,21],Jq 62 58 true (.call 17 [cn 900,cn 950]) [19],Jq 63 58 true (.eqs false true [1,1] (.t 61) (.t 62)) [19,22,23],Jp 64 (.pick (.t 58) (.t 63) Jf) [19,24],Jp 65 (.mv (.t 64)) [23,25],Jq 66
 65 true (.mv (.t 11)) [26],Jq 67 65 true (Jc .eql 66 0) [26,27],Jp 68 (.pick (.t 65) (.t 67) Jf) [26,28],Jp 69 (.mv (.t 68)) [26,29],Jq 70 69 true (.mv (.t 10)) [30],Jq 71 69 true (Jc .eql 70 12) [30,31],Jp 72 (.pick (.t 69) (.t 71) Jf) [30,32],Jp 73
 (.mv (.t 72)) [30,33],Jq 74 73 true (.mv (.t 9)) [34],Jq 75 73 true (.bsl 1 3 [.c (.int .i64 (-1)),cn 0]) [34],Jq 76 73 true (J2 32 74 75) [34,35,36],Jp 77 (.pick (.t 73) (.t 76) Jf) [34,37],Jp 0 (.mv (.t 77)) (Jr 39)] 0 0 []) .ret)))))
def r14:List RV:=[.tmp 0]
theorem b14:ZV Tryz.prog 14=true:=by kernel_rfl
theorem t14:Qt1 Tryz.prog 14 c14 r14 78:=ZL Tryz.func14 rfl b14 (by kernel_rfl) (by kernel_rfl) (by kernel_rfl)
abbrev slV:List Int->SV:=λl=>.sl false 1 (l.map Zk)
def Yg (x:Offer):List (Nat × Int × List Int):=[(0,x.place,[0])]
theorem ZqO:Yk Tryz.prog 29=some (.slice none 0 0):=by kernel_rfl
theorem Zir (x:Offer) (c:Bool) (hx:Wk x=true):CtM Tryz.prog 128 [] 0 [.sl c 8 [Zm x]] (λo=>o=⟨false,.tup [.p 1 0,I 0],Z7 0 c [x] (Yg x) 1,2⟩):=by
 refine m128 (by simp [hpb]) (λo ho=>by subst ho;simp [Z7,Yg,Zm,mpS,Zk,KX,KXL,KXP,KXH,KFL,KF,KFR]) ?_;dsimp only [ZAg,ZAa,go_sem];repeat (refine gb ?_;dsimp only [go_sem])
 refine call (Zbe [x] (by simp) c) ?_;rw [show [x].all Wk=true from by simp [hx]];dsimp only [go_sem];repeat (refine gb ?_;dsimp only [go_sem])
 refine Zn rfl ?_;dsimp only [go_sem];refine WA rfl rfl rfl ?_;dsimp only [go_sem];refine ZU 2 ?_;dsimp only [Zc,go_sem];refine Zt rfl ?_;dsimp only [go_sem];refine ixs 0 _ rfl rfl ?_;dsimp only [Zm,go_sem];refine ⟨_,Zyu (P:=Tryz.prog) (t:=244) (ok:=false) (key:=kI) (val:=slV) (sv:=λn=>.v (kI n)) (L:=[]) (k:=x.place) (zs:=.v (.slice none 0 0)) rfl rfl rfl u243 ZgM ZqO (λ_ _ _=>by simp [R]),?_⟩
 dsimp only [lkS,Wt,go_sem];refine UB (by simp) ?_;dsimp only [go_sem];refine Ww (ins:=false) (key:=kI) (val:=slV) (sv:=λn=>.v (kI n)) (L:=[]) (k:=x.place) (v:=[0]) rfl rfl u243 ZgM rfl rfl (λ_ _ _ e=>by cases e) ?_;dsimp only [go_sem];rw [Zf (n:=0+1) (by decide) (by decide)];refine Zn rfl ?_;dsimp only [go_sem];refine ⟨_,rfl,?_⟩;(refine Zp ?_ ?_ ?_ rfl<;>dsimp only [Z7,Yg,mpS,Zm,UC,UN,Wt,Zk,id,go_sem]<;>simp [Z7,Yg,mpS,Zm,UC,UN,Wt,Zk,Za])
theorem ZiB (x:Offer) (day:Int) (c:Bool) (h:inR x.since x.until_ day=true):CtM Tryz.prog 136 (Z7 0 c [x] (Yg x) 1) 2 [.p 1 0,I x.place,I day] (λo=>o=⟨false,.sl false 1 [[I 0]],Z7 0 c [x] (Yg x) 1,2⟩):=by
 refine m136 (by simp [hpb,Z7]) (λo ho=>by subst ho;simp [Z7,Yg,Zm,mpS,Zk,KX,KXL,KXP,KXH,KFL,KF,KFR]) ?_;dsimp only [c136,r136,Z7,go_sem];refine V4 (key:=kI) (val:=slV) (sv:=λn=>.v (kI n)) (L:=Yg x) (k:=x.place) rfl rfl u243 ZgM rfl ZqO (zs:=.v (.slice none 0 0)) (λ_ _ _=>by simp [R]) ?_ ?_
 case _ =>
  intro v hv;have:v=[0]:=by simpa [Yg,Wt,eq_comm] using hv
  subst this;dsimp only [go_sem];refine ZU 2 ?_;dsimp only [Zc,go_sem];refine Zt rfl ?_;dsimp only [go_sem];refine ixs 0 _ rfl rfl ?_;dsimp only [go_sem];refine ixs 0 _ rfl rfl ?_;dsimp only [go_sem];refine ixs 0 _ rfl rfl ?_;dsimp only [go_sem];refine call (Ur _ _ _) ?_;dsimp only [go_sem];rw [h];refine Zt rfl ?_;dsimp only [go_sem];refine UB (by simp) ?_;dsimp only [go_sem];rw [Zf (n:=0+1) (by decide) (by decide)]
  refine Zn rfl ?_;dsimp only [go_sem];refine ⟨_,rfl,?_⟩;(refine Zp ?_ ?_ ?_ rfl<;>dsimp only [Z7,Yg,mpS,Zm,Zk,id,go_sem]<;>simp [Z7,Yg,mpS,Zm,Zk,Za])
 case _ =>
  intro hv;simp [Yg,Wt] at hv
def c242:SC:=(sr1 [o1 1 (Jz 0 0 312),o1 2 (.alloc zv2 342),Jw 3 Jf] (sr1 [o1 4 (.alloc zv2 342)] (.seq (sr1 [o1 7 (ao 1 4),o1 8 (lf 7 1),o1 9 (Jl 8),Jk 10 0] (.block 0 (.loop (sr1 [o1 11 (Jb .lss 10 9)] (.seq (Ji 11 .skip (.exit 0)) (.seq (.block 1
 (sr1 [o1 12 (Jx 8 10 2),o1 13 (lt 12 2),o1 6 (.alloc zv0 357),Js 6 13 2] (.seq (sr1 [o1 14 (ao 6 0),o1 15 (lf 14 1),o1 16 (.bsl 1 3 [.t 15]),o1 17 (.call 243 [cn 0,cn 7,.t 16]),o1 18 (Jh 17),m1 19 18,g1 20 19 false (ao 6 1),g1 21 19 false (lf 20
 1),g1 22 19 false (.bsl 1 3 [.t 21]),g1 23 19 false (.call 243 [cn 1,cn 20,.t 22]),g1 24 19 false (Jh 23),o1 25 (.pick (.t 19) Jt (.t 24)),m1 26 25,g1 27 26 false (ao 6 0),g1 28 26 false (lf 27 1),g1 29 26 false (.ixa (.t 4) (.t 28) 8 1),g1 30 26
 false (lf 29 1),g1 31 26 false (Jc .neq 30 0),o1 32 (.pick (.t 26) Jt (.t 31))] (Ji 32 (sr1 [o1 33 (lt 4 8),Js 2 33 8,Jw 3 Jf] .ret) .skip)) (.reg [o1 34 (ao 6 0),o1 35 (lf 34 1),o1 36 (ao 6 1),o1 37 (lf 36 1),o1 38 (.ixa (.t 4) (.t 35) 8 1),Js 38 37
 1])))) (.reg [o1 39 (Jc .add 10 1),m1 10 39]))))))) (sr1 [o1 40 (lt 4 8),Js 2 40 8,Jw 3 Jt] .ret))))
def r242:List RV:=[.cell 2 8 true,.tmp 3]
theorem t242:Qt1 Tryz.prog 242 c242 r242 41:=ZL Tryz.func242
def c243:SC:=(sr1 [o1 3 (Jz 0 0 3),o1 4 (Jz 1 0 3),Jw 6 Jf] (sr1 [m1 7 2,o1 8 (.mkf 265 [.t 3,.t 4]),o1 9 (J2 140 7 8),o1 10 (Jh 9),m1 6 10] .ret))
def r243:List RV:=[.tmp 6]
theorem t243:Qt1 Tryz.prog 243 c243 r243 11:=ZL Tryz.func243
def c244:SC:=(sr1 [o1 3 (Jz 0 0 3),o1 4 (Jz 1 0 3),Jw 6 Jf] (sr1 [m1 7 2,o1 8 (.mkf 266 [.t 3,.t 4]),o1 9 (J2 173 7 8),o1 10 (Jh 9),m1 6 10] .ret))
def r244:List RV:=[.tmp 6]
theorem t244:Qt1 Tryz.prog 244 c244 r244 11:=ZL Tryz.func244
def c265:SC:=(sr1 [Jw 4 Jf] (sr1 [m1 5 0,o1 6 (lf 1 1),o1 7 (Jb .lss 5 6),m1 8 7,g1 9 8 false (.mv (.t 0)),g1 10 8 false (lf 2 1),g1 11 8 false (Jb .gtr 9 10),o1 12 (.pick (.t 8) Jt (.t 11)),m1 4 12] .ret))
def r265:List RV:=[.tmp 4]
theorem t265:Qt1 Tryz.prog 265 c265 r265 13:=ZL Tryz.func265
def c266:SC:=(sr1 [o1 3 (Jz 0 0 23),Jw 4 Jf] (sr1 [o1 5 (ao 3 0),o1 6 (lf 5 1),o1 7 (ao 3 1),o1 8 (lf 7 1),o1 9 (Jb .gtr 6 8),m1 10 9,g1 11 10 false (lf 1 1),g1 12 10 false (lf 2 1),g1 13 10 false (ao 3 0),g1 14 10 false (lf 13 1),g1 15 10 false (ao 3
 1),g1 16 10 false (lf 15 1),g1 17 10 false (.bsl 1 3 [.t 14,.t 16]),g1 18 10 false (J3 243 11 12 17),g1 19 10 false (Jh 18),o1 20 (.pick (.t 10) Jt (.t 19)),m1 4 20] .ret))
def r266:List RV:=[.tmp 4]
theorem t266:Qt1 Tryz.prog 266 c266 r266 21:=ZL Tryz.func266
def c135:SC:=(sr1 [Jk 4 0] (.seq (sr1 [m1 6 0,o1 7 (Jl 6),Jk 8 0] (.block 0 (.loop (sr1 [o1 9 (Jb .lss 8 7)] (.seq (Ji 9 .skip (.exit 0)) (.seq (.block 1 (sr1 [m1 10 8,m1 5 10] (sr1 [m1 11 1,m1 12 0,m1 13 5,o1 14 (Jx 12 13 1),o1 15 (lf 14 1),o1 16 (Jb
 .eql 11 15)] (Ji 16 (sr1 [m1 17 5,m1 4 17] .ret) .skip)))) (.reg [o1 18 (Jc .add 8 1),m1 8 18]))))))) (sr1 [o1 4 (.mv (cn (-1)))] .ret)))
def r135:List RV:=[.tmp 4]
theorem t135:Qt1 Tryz.prog 135 c135 r135 19:=ZL Tryz.func135
def c164:SC:=(sr1 [o1 0 (.mv (.c (.slice none 0 0)))] (sr1 [o1 1 (.build zv6 [(0,1,.c (.int .i64 1)),(1,1,.c (.int .i64 (-1)))]),o1 2 (.call 17 [cn 1400,cn 2000]),o1 3 (.build zv6 [(0,1,.c (.int .i64 2)),(1,1,.c (.int .i64 1)),(2,2,.t 2)]),o1 4 (.call
 17 [cn 3000,cn 4000]),o1 5 (.build zv6 [(0,1,.c (.int .i64 3)),(1,1,.c (.int .i64 2)),(2,2,.t 4)]),o1 6 (.build zv6 [(0,1,.c (.int .i64 9)),(1,1,.c (.int .i64 (-1)))]),o1 7 (.bsl 5 312 [.t 1,.t 3,.t 5,.t 6]),m1 0 7] .ret))
def r164:List RV:=[.tmp 0]
theorem t164:Qt1 Tryz.prog 164 c164 r164 8:=ZL Tryz.func164
def c17:SC:=(sr1 [o1 4 (.alloc zv0 23)] (sr1 [m1 5 0,m1 6 1,o1 7 (.build zv0 [(0,1,.t 5),(1,1,.t 6)]),Js 4 7 2] .ret))
def r17:List RV:=[.cell 4 2 true]
theorem t17:Qt1 Tryz.prog 17 c17 r17 8:=ZL Tryz.func17
def c203:SC:=(sr1 [o1 1 (Jz 0 0 268),o1 2 (.alloc [.pointer none] 298),o1 3 (.alloc [.int .i64 0] 35)] (sr1 [o1 17 (lf 1 1),o1 18 (.raw (Go.Op.makeMap 302 Option.none) 302),o1 19 (.build [.slice none 0 0,.map none,.slice none 0 0,.slice none 0 0]
 [(0,1,.t 17),(1,1,.t 18)]),o1 20 (Jz 19 0 305),m1 4 20] (.seq (sr1 [o1 21 (lf 1 1),o1 22 (Jl 21),o1 23 (Jc .gtr 22 16)] (Ji 23 (sr1 [Jv 2 (.c (.pointer none)) 1,Jv 3 (cn 20) 1] .ret) .skip)) (.seq (sr1 [o1 24 (lf 1 1),o1 25 (Jl 24),Jk 26 0] (.block 0
 (.loop (sr1 [o1 27 (Jb .lss 26 25)] (.seq (Ji 27 .skip (.exit 0)) (.seq (.block 1 (sr1 [m1 28 26,o1 29 (Jx 24 26 5),o1 30 (lt 29 5),o1 6 (.alloc zv6 312),m1 5 28,Js 6 30 5] (sr1 [o1 32 (lt 6 5),o1 33 (J1 242 32),m1 31 33,o1 34 (Je 31 0),o1 35 (Je 31
 1),o1 7 (.alloc zv2 342),Js 7 34 8,m1 8 35] (.seq (.seq (.regs (Jr 12) ⟨[Jm 37 4,Jp 38 (.nilc (.t 37)) [0],Jp 39 (ao 38 1) [1],Jp 40 (lf 39 1) [2],Jo 41 (ao 6 0),Jp 42 (lf 41 1) [4]],0,0,[⟨some 43,.raw (Go.Op.lookup 302 (Go.Operand.tmp 40)
 (Go.Operand.tmp 42) Bool.true) 301,none,[3,5]⟩]⟩ [⟨[Jp 36 (.mv (.t 43)) [6],Jp 44 (Je 36 0) [7],Jp 45 (Je 36 1) [7],Jp 9 (.mv (.t 44)) (Jr 9),Jp 10 (.mv (.t 45)) (Jr 11)],0,0,[]⟩]) (sr1 [m1 46 10,m1 47 46,g1 48 47 false (.mv (.t 8)),g1 49 47 false
 (Jh 48),o1 50 (.pick (.t 47) Jt (.t 49)),m1 51 50,g1 52 51 false (ao 6 0),g1 53 51 false (lf 52 1),g1 54 51 false (.bsl 1 3 [.t 53]),g1 55 51 false (.call 243 [cn 0,cn 9999,.t 54]),g1 56 51 false (Jh 55),o1 57 (.pick (.t 51) Jt (.t 56)),m1 58 57,g1
 59 58 false (ao 6 2),g1 60 58 false (lt 59 2),g1 61 58 false (.bsl 2 23 [.t 60]),g1 62 58 false (.call 244 [.c (.int .i64 (-100000)),cn 100000,.t 61]),g1 63 58 false (Jh 62),o1 64 (.pick (.t 58) Jt (.t 63))] (Ji 64 (sr1 [Jv 2 (.c (.pointer none))
 1,Jv 3 (cn 20) 1] .ret) .skip))) (.seq (.regd (Jr 8) [Jm 65 4,Jp 66 (.nilc (.t 65)) [0],Jp 67 (ao 66 1) [1],Jp 68 (lf 67 1) [2],Jo 69 (ao 6 0),Jp 70 (lf 69 1) [4],Jm 71 5] 0 0 [⟨none,.raw (Go.Op.mapUpdate 302 (Go.Operand.tmp 68) (Go.Operand.tmp 70)
 (Go.Operand.tmp 71)) 0,none,(Jr 7)⟩]) (.regd [1,2,3,4,5,6,0,7,8,9,10] [Jm 73 4,Jp 74 (.nilc (.t 73)) [1],Jp 75 (ao 74 3) [2],Jp 76 (lf 75 1) [3],Jo 77 (lt 7 8),Jp 78 (.bsl 8 342 [.t 77]) [5],.hide (.t 76),Jm 72 4] 0 1 [⟨some 79,.appm 8 64 342 (.t 76)
 (.t 78),none,[4,6]⟩,⟨some 80,.nilc (.t 72),none,(Jr 8)⟩,⟨some 81,ao 80 3,none,(Jr 9)⟩,Ju 81 79 1 [0,1,2,3,4,5,6,7,9]])))))) (.reg [o1 82 (Jc .add 26 1),m1 26 82]))))))) (.seq (sr1 [o1 83 (lf 1 1),o1 84 (Jl 83),Jk 85 0] (.block 2 (.loop (sr1 [o1 86
 (Jb .lss 85 84)] (.seq (Ji 86 .skip (.exit 2)) (.seq (.block 3 (sr1 [o1 87 (Jx 83 85 5),o1 88 (lt 87 5),o1 12 (.alloc zv6 312),Js 12 88 5] (.seq (.regs (Jr 12) ⟨[Jm 90 4,Jp 91 (.nilc (.t 90)) [0],Jp 92 (ao 91 1) [1],Jp 93 (lf 92 1) [2],Jo 94 (ao 12
 1),Jp 95 (lf 94 1) [4]],0,0,[⟨some 96,.raw (Go.Op.lookup 302 (Go.Operand.tmp 93) (Go.Operand.tmp 95) Bool.true) 301,none,[3,5]⟩]⟩ [⟨[Jp 89 (.mv (.t 96)) [6],Jp 97 (Je 89 0) [7],Jp 98 (Je 89 1) [7],Jp 13 (.mv (.t 97)) (Jr 9),Jp 14 (.mv (.t 98)) (Jr
 11)],0,0,[]⟩]) (.seq (sr1 [o1 99 (ao 12 1),o1 100 (lf 99 1),o1 101 (.bin .eql (.t 100) (cn (-1)))] (Ji 101 (.reg [o1 13 (.mv (cn (-1))),Jw 14 Jt]) .skip)) (.seq (sr1 [m1 102 14,o1 103 (Jh 102)] (Ji 103 (sr1 [Jv 2 (.c (.pointer none)) 1,Jv 3 (cn 20)
 1] .ret) .skip)) (.reg [m1 104 4,m1 105 4,o1 106 (.nilc (.t 105)),o1 107 (ao 106 2),o1 108 (lf 107 1),m1 109 13,o1 110 (.bsl 1 3 [.t 109]),o1 111 (.appm 1 8 3 (.t 108) (.t 110)),o1 112 (.nilc (.t 104)),o1 113 (ao 112 2),Js 113 111 1])))))) (.reg [o1
 114 (Jc .add 85 1),m1 85 114]))))))) (.seq (sr1 [o1 115 (lf 1 1),o1 116 (Jl 115),Jk 117 0] (.block 4 (.loop (sr1 [o1 118 (Jb .lss 117 116)] (.seq (Ji 118 .skip (.exit 4)) (.seq (.block 5 (sr1 [m1 119 117,m1 15 119] (sr1 [o1 16 (.alloc [.int .i64 0]
 3),Jv 16 (cn 0) 1] (sr1 [m1 120 4,m1 121 15,o1 122 (.callm 205 [.t 120,.t 121])] (.block 6 (.gh (.rfun (.t 122) [123] .skip (.block 7 (sr1 [o1 124 (lf 16 1),o1 125 (Jc .add 124 1),Js 16 125 1] (sr1 [o1 126 (lf 16 1),o1 127 (lf 1 1),o1 128 (Jl 127),o1
 129 (Jb .gtr 126 128)] (Ji 129 (sr1 [Jv 2 (.c (.pointer none)) 1,Jv 3 (cn 20) 1] .ret) .skip))))))))))) (.reg [o1 130 (Jc .add 117 1),m1 117 130]))))))) (sr1 [m1 131 4,Js 2 131 1,Jv 3 (cn 0) 1] .ret)))))))
def r203:List RV:=[.cell 2 1 false,.cell 3 1 false]
theorem n203:Tryz.f203.ntmps=132:=by kernel_rfl
theorem b203:ZV Tryz.prog 203=true:=by kernel_rfl
theorem ZuX:YA Tryz.prog c203 ((Tryz.f203.body).getD .skip)=true:=by kernel_rfl
theorem ZrQ:YQ Tryz.prog r203 Tryz.f203.results.toList=true:=by kernel_rfl
theorem m203 {n0:Nat} {hp0:List (Nat × HB)} {args:List SV} {Zw:Ot->Prop} (hh:hpb n0 hp0) (hx:∀ o,Zw o->KX o.res/\KXP o.hp) (h:sx Tryz.prog Y0 n0 c203 ⟨YD 0 args,hp0,n0,132,[]⟩ (Xs r203 λo=>∃ o',Zw o'/\XV n0 o o')) (hA:Nat.ble args.length 132=true:=by rfl):CtM Tryz.prog 203 hp0 n0 args Zw:=Zv Tryz.func203 rfl b203 ZuX ZrQ n203 (Nat.le_of_ble_eq_true hA) hh hx h
def c204:SC:=(sr1 [o1 2 (.mv (.c (.slice none 0 0)))] (sr1 [m1 3 0,o1 4 (.callm 245 [.c (.slice none 0 0),.t 3]),m1 2 4] .ret))
def r204:List RV:=[.tmp 2]
theorem n204:Tryz.f204.ntmps=5:=by kernel_rfl
theorem b204:ZV Tryz.prog 204=true:=by kernel_rfl
theorem ZsF:YA Tryz.prog c204 ((Tryz.f204.body).getD .skip)=true:=by kernel_rfl
theorem ZvR:YQ Tryz.prog r204 Tryz.f204.results.toList=true:=by kernel_rfl
theorem m204 {n0:Nat} {hp0:List (Nat × HB)} {args:List SV} {Zw:Ot->Prop} (hh:hpb n0 hp0) (hx:∀ o,Zw o->KX o.res/\KXP o.hp) (h:sx Tryz.prog Y0 n0 c204 ⟨YD 0 args,hp0,n0,5,[]⟩ (Xs r204 λo=>∃ o',Zw o'/\XV n0 o o')) (hA:Nat.ble args.length 5=true:=by rfl):CtM Tryz.prog 204 hp0 n0 args Zw:=Zv Tryz.func204 rfl b204 ZsF ZvR n204 (Nat.le_of_ble_eq_true hA) hh hx h
def c205:SC:=(sr1 [o1 2 (Jz 0 0 298),o1 3 (Jz 1 0 3),o1 4 (.mv (.c (.nilFunc)))] (sr1 [o1 5 (.mkf 246 [.t 3,.t 2]),m1 4 5] .ret))
def r205:List RV:=[.tmp 4]
theorem n205:Tryz.f205.ntmps=6:=by kernel_rfl
theorem b205:ZV Tryz.prog 205=true:=by kernel_rfl
theorem Zwa:YA Tryz.prog c205 ((Tryz.f205.body).getD .skip)=true:=by kernel_rfl
theorem Zwh:YQ Tryz.prog r205 Tryz.f205.results.toList=true:=by kernel_rfl
theorem m205 {n0:Nat} {hp0:List (Nat × HB)} {args:List SV} {Zw:Ot->Prop} (hh:hpb n0 hp0) (hx:∀ o,Zw o->KX o.res/\KXP o.hp) (h:sx Tryz.prog Y0 n0 c205 ⟨YD 0 args,hp0,n0,6,[]⟩ (Xs r205 λo=>∃ o',Zw o'/\XV n0 o o')) (hA:Nat.ble args.length 6=true:=by rfl):CtM Tryz.prog 205 hp0 n0 args Zw:=Zv Tryz.func205 rfl b205 Zwa Zwh n205 (Nat.le_of_ble_eq_true hA) hh hx h
def c245:SC:=(sr1 [o1 2 (Jz 0 0 29),o1 4 (.mv (.c (.slice none 0 0)))] (.seq (sr1 [m1 6 1] (.block 0 (.gh (.rfun (.t 6) [7] (.reg [m1 5 7]) (.block 1 (.reg [o1 8 (lf 2 1),m1 9 5,o1 10 (.bsl 1 3 [.t 9]),o1 11 (.appm 1 8 3 (.t 8) (.t 10)),Js 2 11 1])))))) (sr1 [o1 12 (lf 2 1),m1 4 12] .ret)))
def r245:List RV:=[.tmp 4]
theorem n245:Tryz.f245.ntmps=13:=by kernel_rfl
theorem b245:ZV Tryz.prog 245=true:=by kernel_rfl
theorem Zt3:YA Tryz.prog c245 ((Tryz.f245.body).getD .skip)=true:=by kernel_rfl
theorem Zu5:YQ Tryz.prog r245 Tryz.f245.results.toList=true:=by kernel_rfl
theorem m245 {n0:Nat} {hp0:List (Nat × HB)} {args:List SV} {Zw:Ot->Prop} (hh:hpb n0 hp0) (hx:∀ o,Zw o->KX o.res/\KXP o.hp) (h:sx Tryz.prog Y0 n0 c245 ⟨YD 0 args,hp0,n0,13,[]⟩ (Xs r245 λo=>∃ o',Zw o'/\XV n0 o o')) (hA:Nat.ble args.length 13=true:=by rfl):CtM Tryz.prog 245 hp0 n0 args Zw:=Zv Tryz.func245 rfl b245 Zt3 Zu5 n245 (Nat.le_of_ble_eq_true hA) hh hx h
def Zyr:SC:=(.block 0 (.loop (.seq (sr1 [o1 4 (lf 1 1),o1 5 (Jc .geq 4 0)] (Ji 5 .skip (.exit 0))) (.seq (.block 1 (sr1 [m1 13 0,o1 14 (lf 1 1),o1 15 (.calvm (.t 13) [.t 14]),o1 16 (Jh 15)] (Ji 16 .ret .skip))) (.regd (Jr 8) [Jo 6 (lf 2 1),Jp 7 (.nilc
 (.t 6)) [0],Jp 8 (ao 7 2) [1],Jp 9 (lf 8 1) [2],Jo 10 (lf 1 1),Jp 11 (Jx 9 10 1) [3,4],Jp 12 (lf 11 1) [5]] 0 1 [Ju 1 12 1 (Jr 7)])))))
def ZyK:List RV:=[]
theorem n246:Tryz.f246.ntmps=17:=by kernel_rfl
theorem b246:ZV Tryz.prog 246=true:=by kernel_rfl
theorem Zwr:YA Tryz.prog Zyr ((Tryz.f246.body).getD .skip)=true:=by kernel_rfl
theorem Zuj:YQ Tryz.prog ZyK Tryz.f246.results.toList=true:=by kernel_rfl
theorem y246 {Y:Hd} {n0:Nat} {hp0:List (Nat × HB)} {args:List SV} {Zw:Ot->Prop} (h:sx Tryz.prog Y n0 Zyr ⟨YD 0 args,hp0,n0,17,[]⟩ (Xs ZyK Zw)) (hA:Nat.ble args.length 17=true:=by rfl):CtY Tryz.prog Y 246 hp0 n0 args Zw:=WG Tryz.func246 rfl Zwr Zuj n246 (Nat.le_of_ble_eq_true hA) h
def c163:SC:=(sr1 [o1 6 (.alloc [.int .i64 0] 3),o1 7 (.alloc [.int .i64 0] 3),o1 8 (.alloc [.int .i64 0] 35)] (sr1 [m1 17 0,o1 18 (.callm 203 [.t 17]),m1 16 18,o1 19 (Je 16 0),o1 20 (Je 16 1),m1 9 19,Js 8 20 1] (.seq (sr1 [o1 21 (lf 8 1),o1 22 (Jc
 .neq 21 0)] (Ji 22 (.seq (.regd (Jr 4) [.hide (.t 6),.hide (.t 7),Jo 23 (lf 8 1)] 0 3 [Jv 6 (cn 0) 1,⟨none,.st (.t 7) (cn 0) 1,none,[1]⟩,Ju 8 23 1 [0,1,2]]) .ret) .skip)) (sr1 [m1 25 9,o1 26 (.nilc (.t 25)),o1 27 (ao 26 1),o1 28 (lf 27 1),m1 29 1,o1
 30 (.raw (Go.Op.lookup 302 (Go.Operand.tmp 28) (Go.Operand.tmp 29) Bool.true) 301),m1 24 30,o1 31 (Je 24 0),o1 32 (Je 24 1),m1 10 31,m1 11 32] (sr1 [m1 34 9,o1 35 (.nilc (.t 34)),o1 36 (ao 35 1),o1 37 (lf 36 1),m1 38 2,o1 39 (.raw (Go.Op.lookup 302
 (Go.Operand.tmp 37) (Go.Operand.tmp 38) Bool.true) 301),m1 33 39,o1 40 (Je 33 0),o1 41 (Je 33 1),m1 12 40,m1 13 41] (.seq (sr1 [m1 42 11,o1 43 (Jh 42),m1 44 43,g1 45 44 false (.mv (.t 13)),g1 46 44 false (Jh 45),o1 47 (.pick (.t 44) Jt (.t 46))] (Ji
 47 (sr1 [Jv 6 (cn 0) 1,Jv 7 (cn 0) 1,Jv 8 (cn 2) 1] .ret) .skip)) (sr1 [m1 48 9,m1 49 12,o1 50 (.callm 205 [.t 48,.t 49]),o1 51 (.callm 204 [.t 50]),o1 14 (.alloc [.slice none 0 0] 29),Js 14 51 1] (.seq (sr1 [m1 52 9,m1 53 10,o1 54 (.callm 205 [.t
 52,.t 53])] (.block 0 (.gh (.rfun (.t 54) [55] (.reg [m1 15 55]) (.block 1 (.seq (sr1 [o1 56 (lf 14 1),m1 57 15,o1 58 (J2 135 56 57),Js 7 58 1] (sr1 [o1 59 (lf 7 1),o1 60 (Jc .geq 59 0)] (Ji 60 (.seq (.regd (Jr 5) [Jo 61 (lf 6 1),.hide (.t 6),Jo 62
 (lf 7 1)] 0 3 [Ju 6 61 1 [0],Ju 7 62 1 [0,1,2],⟨none,.st (.t 8) (cn 0) 1,none,(Jr 4)⟩]) .ret) .skip))) (.reg [o1 63 (lf 6 1),o1 64 (Jc .add 63 1),Js 6 64 1]))))))) (sr1 [Jv 6 (cn 0) 1,Jv 7 (cn 0) 1,Jv 8 (cn 6) 1] .ret)))))))))
def r163:List RV:=[.cell 6 1 false,.cell 7 1 false,.cell 8 1 false]
theorem t163:Qt1 Tryz.prog 163 c163 r163 65:=ZL Tryz.func163
def UO (l:List Pack) (t:Tied) (b:Breed) (m:Camel) (bound is:Int) (c:Bool):List (Nat × HB):=[(0,.cells [.sl c 11 (l.map Zo)] 28),(1,.cells (ZY t) 31),(2,.cells (Cm.breedL b) 25),(3,.cells (Cm.camelL m) 27),(4,.cells [I bound] 3),(5,.cells [U8 is] 5)]
theorem Ztx (l:List Pack) (t:Tied) (b:Breed) (m:Camel) (bound:Int) (c:Bool) (h:CarB l t) (he:Zau b m=0) (hb:0<=bound/\bound<=1000000000) :
 CtM Tryz.prog 59 (UO l t b m bound 0 c) 6 [.p 0 0,.p 1 0,.p 2 0,.p 3 0,.p 4 0,.p 5 0] (λo=>o=⟨false,.tup [],UO l t b m bound (ZaQ (Zel b m) l t bound) c,6⟩):=by
 have hlen:=h.len;have hl:=h.hl;have hall:=h.facts;refine m59 (by simp [hpb,UO]) (λo ho=>by subst ho;simp [UO,KX,KXL,KXP,KXH,KFL,KF,Za,Zo,ZY,Zk,Cm.breedL,Cm.camelL]) ?_;dsimp only [c59,r59,UO,ZY,Cm.breedL,Cm.camelL,go_sem];refine Zl [] (Vv l t h.hl h.hp h.ht c true) rfl rfl rfl ?_ ?_ ?_
 . (repeat first | dsimp only [ZY,go_sem] | simp only [nbr])
   try simp [mtL,mtB,mtS,Zb,Za,Zo,Zk,KFL,KF,KFR]
 . trivial
 rintro _ rfl
 (repeat first | dsimp only [go_sem] | simp only [nbr])
 refine call (Cm.carries_ok b m) ?_;dsimp only [Cm.sres,Zh,go_sem];rw [if_pos he,he];refine Zl [] (Yw 0) rfl rfl rfl ?_ ?_ ?_
 . (repeat first | dsimp only [go_sem] | simp only [nbr])
   try simp [mtL,mtB,mtS]
 . trivial
 rintro _ rfl
 (repeat first | dsimp only [go_sem] | simp only [nbr])
 refine Zl [] (ZgG bound hb) rfl rfl rfl ?_ ?_ ?_
 . (repeat first | dsimp only [go_sem] | simp only [nbr])
   try simp [mtL,mtB,mtS]
 . trivial
 rintro _ rfl
 (repeat first | dsimp only [go_sem] | simp only [nbr])
 refine call (Znu l h.hp (by omega) c) ?_;dsimp only [go_sem];refine call (Zq2 t (by omega) (by omega) (by omega)) ?_;dsimp only [go_sem];refine call (Zay l t (ZcK t) h.hp (by omega) hall.1 (by omega) false) ?_;dsimp only [Zh,go_sem];refine call (Zga l t bound h.hp (by omega) h.left h.right (by omega) (by omega) hb) ?_;dsimp only [go_sem];have hF:ZaQ (Zel b m) l t bound=if (YY l (ZcK t)).lo > (Zel b m).hi then 0 else if Zvx l t bound=2/\(YY l (ZcK t)).hi > (Zel b m).lo then 1 else Zvx l t bound:=rfl
 rw [hF];generalize YY l (ZcK t)=w;generalize Zel b m=can;generalize Zvx l t bound=q;by_cases h1:w.lo > can.hi
 . refine Zt (by simpa using h1) ?_;dsimp only [go_sem];repeat (refine gb ?_;dsimp only [go_sem])
   refine Zn (by simp) ?_;dsimp only [go_sem];rw [if_pos h1];refine ⟨_,rfl,?_⟩;(refine Zp ?_ ?_ ?_ rfl<;>dsimp only [UO,Zo,ZY,Zk,Cm.breedL,Cm.camelL,id,go_sem]<;>simp [UO,Zo,ZY,Zk,Cm.breedL,Cm.camelL,Za])
 refine Zn (by simpa using h1) ?_;dsimp only [go_sem];rw [if_neg h1];repeat (refine gb ?_;dsimp only [go_sem])
 by_cases h2:q=2/\w.hi > can.lo
 . refine Zt (by simpa using h2) ?_;dsimp only [go_sem];rw [if_pos h2];refine ⟨_,rfl,?_⟩;(refine Zp ?_ ?_ ?_ rfl<;>dsimp only [UO,Zo,ZY,Zk,Cm.breedL,Cm.camelL,id,go_sem]<;>simp [UO,Zo,ZY,Zk,Cm.breedL,Cm.camelL,Za])
 refine Zn (by rw [Bool.eq_false_iff];intro h;exact h2 (by simpa using h)) ?_;dsimp only [go_sem];rw [if_neg h2];refine ⟨_,rfl,?_⟩;(refine Zp ?_ ?_ ?_ rfl<;>dsimp only [UO,Zo,ZY,Zk,Cm.breedL,Cm.camelL,id,go_sem]<;>simp [UO,Zo,ZY,Zk,Cm.breedL,Cm.camelL,Za])
theorem ZsO (l:List Pack) (t:Tied) (b:Breed) (m:Camel) (bound:Int) (c:Bool) (h:CarB l t) (he:Zau b m=0) (hb:0<=bound/\bound<=1000000000):CtM Tryz.prog 45 (UO l t b m bound 0 c) 6 [.cl 59 [.p 0 0,.p 1 0,.p 2 0,.p 3 0,.p 4 0,.p 5 0]] (λo=>o=⟨false,I 0,UO l t b m bound (ZaQ (Zel b m) l t bound) c,6⟩):=by
 refine m45 (by simp [hpb,UO]) (λo ho=>by subst ho;simp [UO,KX,KXL,KXP,KXH,KFL,KF,Za,Zo,ZY,Zh,Zk,Cm.breedL,Cm.camelL]) ?_;dsimp only [c45,r45,UO,go_sem];refine Zl [0,1,2,3,4,5] (Ztx l t b m bound c h he hb) rfl rfl rfl ?_ ?_ ?_
 . (repeat first | dsimp only [UO,go_sem] | simp only [nbr])
   try simp [mtL,mtB,mtS]
 . (repeat first | dsimp only [UO,go_sem] | simp only [nbr])
   try simp [mtL,mtB,mtS,Zb,KFL,KF,Za,Zo,ZY,Zh,Zk,Cm.breedL,Cm.camelL]
 rintro _ rfl
 (repeat first | dsimp only [UO,go_sem] | simp only [nbr])
 refine ⟨_,_,_,_,q109,?_⟩;dsimp only [l109,k109,go_sem];refine ⟨rfl,?_⟩;refine ZcO u20 rfl ?_;dsimp only [go_sem];refine Zn rfl ?_;dsimp only [go_sem];refine ⟨_,rfl,?_⟩;(refine Zp ?_ ?_ ?_ rfl<;>dsimp only [UO,Zo,ZY,Zh,Zk,Cm.breedL,Cm.camelL,id,go_sem]<;>simp [UO,Zo,ZY,Zh,Zk,Cm.breedL,Cm.camelL,Za])
theorem ZhA (b:Breed) (m:Camel) (l:List Pack) (t:Tied) (bound:Int) (c:Bool) (h:CarB l t) (he:Zau b m=0) (hb:0<=bound/\bound<=1000000000) :
 Ct Tryz.prog 12 [.agg (Cm.breedL b),.agg (Cm.camelL m),.sl c 11 (l.map Zo),.agg (ZY t),I bound] (.tup [U8 (ZaQ (Zel b m) l t bound),I 0]):=by
 refine t12.1 (by simp [Za,Zo,ZY,Zk,Cm.breedL,Cm.camelL,KFL,KF]) (by simp) ?_;dsimp only [c12,r12,ZY,Cm.breedL,Cm.camelL,go_sem];refine Zl [2,3,0,1,4,5] (ZsO l t b m bound c h he hb) rfl rfl rfl ?_ ?_ ?_
 . (repeat first | dsimp only [UO,go_sem] | simp only [nbr])
   try simp [mtL,mtB,mtS]
 . (repeat first | dsimp only [UO,Cm.breedL,Cm.camelL,go_sem] | simp only [nbr])
   try simp [mtL,mtB,mtS,Zb,KFL,KF,Za,Zo,ZY,Zk]
 rintro _ rfl
 (repeat first | dsimp only [UO,ZY,Cm.breedL,Cm.camelL,go_sem] | simp only [nbr])
end Go.Proofs.YtkpkgafhfakpdaaGreatDoor
namespace Go.Azalai
def VJ {α : Type} (f:α->α) (l:List α) (k:Nat):List α:=(l.map f).take k ++ l.drop k
theorem Zkt {α : Type} {f:α->α} {l:List α} {k:Nat} (h:k<=l.length):(VJ f l k).length=l.length:=by simp [VJ];omega
theorem Zaz {α : Type} {f:α->α} {l:List α} {k:Nat} (h:k < l.length) (h':k < (VJ f l k).length):(VJ f l k)[k]=l[k]:=by
 simp only [VJ];rw [List.getElem_append_right (by simp;omega)];simp [Nat.min_eq_left (Nat.le_of_lt h)]
theorem Zg1 {α : Type} {f:α->α} {l:List α} {k:Nat} (h:k < l.length):(VJ f l k).set k (f l[k])=VJ f l (k+1):=by
 simp only [VJ];rw [List.set_append_right _ _ (by simp;omega)];have h1:((l.map f).take k).length=k:=by simp;omega
 rw [h1,Nat.sub_self,List.drop_eq_getElem_cons h,List.set_cons_zero,List.take_succ_eq_append_getElem (show k < (l.map f).length by simpa using h),List.append_assoc];simp
theorem Zie {α : Type} {f:α->α} {l:List α}:VJ f l 0=l:=by simp [VJ]
theorem Zh2 {α : Type} {f:α->α} {l:List α}:VJ f l l.length=l.map f:=by simp [VJ,List.take_of_length_le]
def Zf8 (d:Int) (p:Pack):Pack:={ p with days:=p.days+d }
theorem Zyc {d:Int} {l:List Pack} (hp:l.all ZW=true) (hd:0<=d) (h:∀ p ∈ l,p.days+d<=100000):(l.map (Zf8 d)).all ZW=true:=by
 rw [List.all_map];rw [List.all_eq_true] at hp ⊢;intro p hm;have h1:=hp p hm;have h2:=h p hm;simp only [ZW,Bool.and_eq_true] at h1;obtain ⟨⟨⟨a,b⟩,c⟩,e⟩:=h1;have c':inR 0 100000 (p.days+d)=true:=by simp only [inR,decide_eq_true_eq] at c ⊢;omega
 show (Z8 0 1000000 p.mass && inR 0 6000000 p.hurt && inR 0 100000 (p.days+d) && Va p)=true;rw [a,b,c',e];rfl
end Go.Azalai
namespace Go.Proofs.YtkpkgafhfakpdaaGreatDoor
open Go Go.Sx Go.Azalai
theorem Zwq (caps:List SV) (hk:KFL caps) (c:Bool):Ct Tryz.prog 201 [.sl c 2 [],.cl 158 caps] (I (-1)):=by
 refine t201.1 ⟨by simp [KF,KFR],hk,trivial⟩ (by simp [KF]) ?_;dsimp only [c201,r201,go_sem];refine ZU 1 ?_;dsimp only [Zc,go_sem];refine Zn rfl ?_;dsimp only [go_sem]
theorem ZsL (caps:List SV) (hk:KFL caps) (c:Bool):Ct Tryz.prog 157 [.sl c 2 [],.cl 158 caps] (B false):=by
 refine t157.1 ⟨by simp [KF,KFR],hk,trivial⟩ (by simp [KF]) ?_;dsimp only [c157,r157,go_sem];refine call (Zwq caps hk c) ?_;dsimp only [go_sem];rfl
theorem Zh6 (t:Tied) (c:Bool):Ct Tryz.prog 96 [.sl c 2 [],.cl 97 [.ps [.sl true 3 [ZY t]] 0]] (B true):=by
 have hk:KFL (ZY t):=by simp [KFL,KF,ZY,Za,Zk]
 refine t96.1 ⟨by simp [KF,KFR],by simp [KF,KFL,KFR,hk],trivial⟩ (by simp [KF]) ?_;dsimp only [c96,r96,ZY,go_sem];refine Xi (by simp [FLT]) (res:=B false) ?_ ?_
 . dsimp only [go_sem];exact ZsL _ (by simp [KFL,KF,KFR,Za,Zk]) c
 . dsimp only [go_sem];rfl
theorem Zhc (l:List Pack) (hL:l.length<=1000) (k:Bool):CtM Tryz.prog 98 [] 0 [.sl k 11 (l.map Zo)] (λo=>o=⟨false,.mr 0 0,[(0,.row 0 11 (l.map Zo) 49)],1⟩):=by
 refine m98 (by simp [hpb]) (λo ho=>by subst ho;simp [KX,KXL,KXP,KXH,Za,KFL,KF,Zo]) ?_;dsimp only [c98,r98,go_sem];intro b hb;dsimp only [go_sem];cases b with
 | true =>
  have hl:l=[]:=by simpa using hb rfl
  subst hl;refine Zt rfl ?_;dsimp only [go_sem];refine ⟨_,rfl,?_⟩;refine ZdF (WD (Xt 0 11 49 rfl rfl) ?_) (λ_ _ _ e=>by cases e);(refine Zi ?_ ?_ ?_ rfl rfl<;>dsimp only [Zo,id,go_sem]<;>simp [Zo,Za])
 | false =>
  refine Zn rfl ?_;dsimp only [go_sem];refine ⟨by simp;omega,?_⟩;dsimp only [go_sem];refine ⟨_,rfl,?_⟩;(refine Zp ?_ ?_ ?_ rfl<;>dsimp only [Zo,id,go_sem]<;>simp [Zo,Za])
def Zbw (l:List Pack) (t:Tied) (d:Int) (nx:SV) (c:Bool) (r:List (Nat × HB)):List (Nat × HB):=[(0,.cells [.sl c 11 (l.map Zo)] 28),(1,.cells [.sl true 3 [ZY t]] 113),(2,.cells [I d] 3),(3,.cells [.sl true 2 []] 191),(4,.cells [nx] 28)] ++ r
theorem Zsg (l:List Pack) (t:Tied) (d:Int) (c:Bool) (h:CarB l t) (hd:0<=d/\d<=100000) (ha:∀ p ∈ l,p.days+d<=100000) :
 CtM Tryz.prog 94 (Zbw l t d (.v (.slice none 0 0)) c []) 5 [.p 0 0,.p 1 0,.p 2 0,.p 3 0,.p 4 0] (λo=>o=⟨false,.tup [],Zbw l t d (.mr 5 0) c [(5,.row 0 11 ((l.map (Zf8 d)).map Zo) 49)],6⟩):=by
 have hlen:=h.len;have hl:=h.hl;refine m94 (by simp [hpb,Zbw]) (λo ho=>by subst ho;simp [Zbw,KX,KXL,KXP,KXH,KFL,KF,Za,KFR,Zo,ZY,Zk]) ?_;dsimp only [c94,r94,Zbw,ZY,go_sem];refine Zl [] (Vv l t h.hl h.hp h.ht c true) rfl rfl rfl ?_ ?_ ?_
 . (repeat first | dsimp only [ZY,go_sem] | simp only [nbr])
   try simp [mtL,mtB,mtS,Zb,Za,Zo,Zk,KFL,KF,KFR]
 . trivial
 rintro _ rfl
 (repeat first | dsimp only [go_sem] | simp only [nbr])
 refine call (ZAk 0 100000 d _) ?_;rw [show inR 0 100000 d=true from by simp only [inR,decide_eq_true_eq];omega];dsimp only [go_sem];refine Zl [] (Yw 2) rfl rfl rfl ?_ ?_ ?_
 . (repeat first | dsimp only [go_sem] | simp only [nbr])
   try simp [mtL,mtB,mtS]
 . trivial
 rintro _ rfl
 (repeat first | dsimp only [go_sem] | simp only [nbr])
 refine Zl [] (Yw 4) rfl rfl rfl ?_ ?_ ?_
 . (repeat first | dsimp only [go_sem] | simp only [nbr])
   try simp [mtL,mtB,mtS]
 . trivial
 rintro _ rfl
 (repeat first | dsimp only [go_sem] | simp only [nbr])
 refine Xi (by simp [FLT]) (res:=B true) ?_ ?_
 . dsimp only [go_sem];exact Zh6 t true
 dsimp only [go_sem];refine Zl [] (Yw 53) rfl rfl rfl ?_ ?_ ?_
 . (repeat first | dsimp only [go_sem] | simp only [nbr])
   try simp [mtL,mtB,mtS]
 . trivial
 rintro _ rfl
 (repeat first | dsimp only [go_sem] | simp only [nbr])
 refine Zl [] (Zhc l (by omega) c) rfl rfl rfl ?_ ?_ ?_
 . (repeat first | dsimp only [go_sem] | simp only [nbr])
   try simp [mtL,mtB,mtS,Zb,Za,Zo,KFL,KF]
 . trivial
 rintro _ rfl
 (repeat first | dsimp only [go_sem] | simp only [nbr])
 refine ZU 1 ?_;dsimp only [Zc,go_sem];refine Zn rfl ?_;dsimp only [go_sem];simp only [List.length_map];refine Yb (λk:Nat=>[(79,I k)]) (λk=>[(5,.row 0 11 ((VJ (Zf8 d) l k).map Zo) 49)]) (λk=>k<=l.length) (λk=>l.length - k) 0 (Nat.zero_le _) ?_ ?_
 . (refine Zi ?_ ?_ ?_ rfl rfl<;>dsimp only [Zo,ZY,Zk,Zie,id,go_sem]<;>simp [Zo,ZY,Zk,Zie,Za])
 intro k hk;dsimp only [go_sem];by_cases hlt:k < l.length
 . have hlt2:k < (VJ (Zf8 d) l k).length:=by rw [Zkt hk];exact hlt
   refine Zt (by simpa using hlt) ?_;dsimp only [go_sem];refine XC k rfl (by simpa using hlt2) ?_;dsimp only [go_sem];refine VX hlt2 ?_;rw [Zaz hlt hlt2];dsimp only [Zo,go_sem];have hp0:=(ZuV (List.all_eq_true.1 h.hp _ (List.getElem_mem hlt))).d0;have hp1:=ha _ (List.getElem_mem hlt);rw [Zf (n:=l[k].days+d) (by omega) (by omega)];refine XC k rfl (by simpa using hlt2) ?_;dsimp only [go_sem];refine Zc2 (Zf8 d l[k]) hlt2 (by rw [Zaz hlt hlt2];simp [Zo]) (by rw [Zaz hlt hlt2];simp [Zo,Zq,Zf8]) ?_
   rw [Zg1 hlt];dsimp only [go_sem];rw [Zf (n:=(k:Int)+1) (by omega) (by omega)];refine ⟨k+1,hlt,by omega,?_⟩;(refine Zi ?_ ?_ ?_ rfl rfl<;>dsimp only [Zo,ZY,Zk,id,go_sem]<;>simp [Zo,ZY,Zk,Za])
 refine Zn (by simp;omega) ?_;dsimp only [go_sem];have hke:k=l.length:=by omega
 subst hke;rw [Zh2];have hall:=Zyc h.hp hd.1 ha;refine Xi (by simp [FLT]) (res:=B true) ?_ ?_
 . dsimp only [go_sem];have:=ZcN (l.map (Zf8 d)) (by simp;omega) false;rw [hall] at this;exact this
 dsimp only [go_sem];refine Zl [] (Yw 9) rfl rfl rfl ?_ ?_ ?_
 . (repeat first | dsimp only [go_sem] | simp only [nbr])
   try simp [mtL,mtB,mtS]
 . trivial
 rintro _ rfl
 (repeat first | dsimp only [go_sem] | simp only [nbr])
 refine ⟨_,rfl,?_⟩;(refine Zp ?_ ?_ ?_ rfl<;>dsimp only [Zbw,Zo,ZY,Zk,id,go_sem]<;>simp [Zbw,Zo,ZY,Zk,Za])
theorem ZrH (l:List Pack) (t:Tied) (d:Int) (c:Bool) (h:CarB l t) (hd:0<=d/\d<=100000) (ha:∀ p ∈ l,p.days+d<=100000):CtM Tryz.prog 45 (Zbw l t d (.v (.slice none 0 0)) c []) 5 [.cl 94 [.p 0 0,.p 1 0,.p 2 0,.p 3 0,.p 4 0]] (λo=>o=⟨false,I 0,Zbw l t d (.mr 6 0) c [(6,.row 0 11 ((l.map (Zf8 d)).map Zo) 49)],7⟩):=by
 refine m45 (by simp [hpb,Zbw]) (λo ho=>by subst ho;simp [Zbw,KX,KXL,KXP,KXH,KFL,KF,Za,KFR,Zo,ZY,Zh,Zk,Cm.breedL,Cm.camelL]) ?_;dsimp only [c45,r45,Zbw,go_sem];refine Zl [0,1,2,3,4] (Zsg l t d c h hd ha) rfl rfl rfl ?_ ?_ ?_
 . (repeat first | dsimp only [Zbw,go_sem] | simp only [nbr])
   try simp [mtL,mtB,mtS]
 . (repeat first | dsimp only [Zbw,go_sem] | simp only [nbr])
   try simp [mtL,mtB,mtS,Zb,KFL,KF,Za,KFR,Zo,ZY,Zh,Zk,Cm.breedL,Cm.camelL]
 rintro _ rfl
 (repeat first | dsimp only [Zbw,go_sem] | simp only [nbr])
 refine ⟨_,_,_,_,q109,?_⟩;dsimp only [l109,k109,go_sem];refine ⟨rfl,?_⟩;refine ZcO u20 rfl ?_;dsimp only [go_sem];refine Zn rfl ?_;dsimp only [go_sem];refine ⟨_,rfl,?_⟩;(refine Zp ?_ ?_ ?_ rfl<;>dsimp only [Zbw,Zo,ZY,Zh,Zk,Cm.breedL,Cm.camelL,id,go_sem]<;>simp [Zbw,Zo,ZY,Zh,Zk,Cm.breedL,Cm.camelL,Za])
theorem Zfl (l:List Pack) (t:Tied) (d:Int) (c:Bool) (h:CarB l t) (hd:0<=d/\d<=100000) (ha:∀ p ∈ l,p.days+d<=100000) :
 Ct Tryz.prog 40 [.sl c 11 (l.map Zo),.sl true 3 [ZY t],.sl true 2 [],I d] (.tup [.sl false 11 ((l.map (Zf8 d)).map Zo),I 0]):=by
 refine t40.1 (by simp [Za,KFR,Zo,ZY,Zk]) (by simp [Za,Zo]) ?_;dsimp only [c40,r40,ZY,go_sem];refine Zl [0,1,3,2,4] (ZrH l t d c h hd ha) rfl rfl rfl ?_ ?_ ?_
 . (repeat first | dsimp only [Zbw,go_sem] | simp only [nbr])
   try simp [mtL,mtB,mtS]
 . (repeat first | dsimp only [Zbw,ZY,go_sem] | simp only [nbr])
   try simp [mtL,mtB,mtS,Zb,KFL,KF,Za,KFR,Zo,ZY,Zk]
 rintro _ rfl
 (repeat first | dsimp only [Zbw,ZY,go_sem] | simp only [nbr])
end Go.Proofs.YtkpkgafhfakpdaaGreatDoor
namespace Go.Azalai
structure An where
 id:Int
 mom:Int
 born:Span
deriving DecidableEq
def okAn (a:An):Bool:=inR 0 9999 a.id && Z8 (-100000) 100000 a.born
def Wq:List An:=[⟨1,-1,⟨0,0⟩⟩,⟨2,1,⟨1400,2000⟩⟩,⟨3,2,⟨3000,4000⟩⟩,⟨9,-1,⟨0,0⟩⟩]
def Uc:List Int:=[-1,0,1,-1]
def YX (n:Nat):List (Nat × Int × Int):=[(0,1,0),(1,2,1),(2,3,2),(3,9,3)].take n
end Go.Azalai
namespace Go.Proofs.YtkpkgafhfakpdaaGreatDoor
open Go Go.Sx Go.Azalai
def anL (a:An):List SV:=[I a.id,I a.mom,I a.born.lo,I a.born.hi,.sl true 2 []]
def XO:List SV:=[I 0,I 0,I 0,I 0,I 0,I 0,I 0,I 0]
theorem Yu (lo hi:Int):Ct Tryz.prog 17 [I lo,I hi] (.agg [I lo,I hi]):=by
 refine t17.1 (by simp) (by simp) ?_;dsimp only [c17,r17,go_sem]
theorem Zsj (lo hi x:Int):Ct Tryz.prog 265 [I x,.ps [I lo] 0,.ps [I hi] 0] (B (!inR lo hi x)):=by
 refine t265.1 (by simp) (by simp) ?_;dsimp only [c265,r265,go_sem];repeat (refine gb ?_;dsimp only [go_sem])
 (simp only [inR,Option.some.injEq,SV.v.injEq,Value.bool.injEq]<;>grind)
theorem ZkT (lo hi:Int) (l:List Int) (hl:l.length < 4611686018427387904) (c:Bool):Ct Tryz.prog 243 [I lo,I hi,.sl c 1 (l.map Zk)] (B (l.all (inR lo hi))):=by
 refine t243.1 (by simp [Za,Zk]) (by simp) ?_;dsimp only [c243,r243,go_sem];refine Xi (by simp [FLT]) (res:=B (l.any λx=>!inR lo hi x)) ?_ ?_
 . dsimp only [go_sem];exact Zno 265 [.ps [I lo] 0,.ps [I hi] 0] (by simp) (λx=>!inR lo hi x) l (λx _=>Zsj lo hi x) hl
 . dsimp only [go_sem];simp [List.all_eq_not_any_not]
theorem inB1 (lo hi a:Int) (c:Bool):Ct Tryz.prog 243 [I lo,I hi,.sl c 1 [[I a]]] (B (inR lo hi a)):=by
 have:=ZkT lo hi [a] (by simp) c;simpa [Zk] using this
theorem inB2 (lo hi a b:Int) (c:Bool):Ct Tryz.prog 243 [I lo,I hi,.sl c 1 [[I a],[I b]]] (B (inR lo hi a && inR lo hi b)):=by
 have:=ZkT lo hi [a,b] (by simp) c;simpa [Zk] using this
theorem Znq (lo hi:Int) (s:Span):Ct Tryz.prog 266 [.agg (Zh s),.ps [I lo] 0,.ps [I hi] 0] (B (!Z8 lo hi s)):=by
 refine t266.1 (by simp [Zh]) (by simp) ?_;dsimp only [c266,r266,Zh,go_sem];repeat (first | (refine gb ?_;dsimp only [go_sem]) | (refine call (inB2 _ _ _ _ _) ?_;dsimp only [go_sem]))
 (simp only [Z8,inR,Option.some.injEq,SV.v.injEq,Value.bool.injEq]<;>grind)
theorem ZlG (lo hi:Int) (l:List Span) (hl:l.length < 4611686018427387904) (c:Bool):Ct Tryz.prog 244 [I lo,I hi,.sl c 2 (l.map Zh)] (B (l.all (Z8 lo hi))):=by
 refine t244.1 (by simp [Za,Zh]) (by simp) ?_;dsimp only [c244,r244,go_sem];refine Xi (by simp [FLT]) (res:=B (l.any λx=>!Z8 lo hi x)) ?_ ?_
 . dsimp only [go_sem];exact Zri 266 [.ps [I lo] 0,.ps [I hi] 0] (by simp) (λx=>!Z8 lo hi x) l (λx _=>Znq lo hi x) hl
 . dsimp only [go_sem];simp [List.all_eq_not_any_not]
theorem proB1 (lo hi:Int) (s:Span) (c:Bool):Ct Tryz.prog 244 [I lo,I hi,.sl c 2 [[I s.lo,I s.hi]]] (B (Z8 lo hi s)):=by
 have:=ZlG lo hi [s] (by simp) c;simpa [Zh] using this
theorem ZjE (a:An):Ct Tryz.prog 242 [.agg (anL a)] (.tup [.agg XO,B true]):=by
 refine t242.1 (by simp [anL,KFR]) (by simp [XO]) ?_;dsimp only [c242,r242,anL,go_sem];refine ZU 1 ?_;dsimp only [Zc,go_sem];refine Zn rfl ?_;dsimp only [go_sem];rfl
theorem Zco (l:List Int) (x:Int) (hl:l.length<=1000) (c:Bool):Ct Tryz.prog 135 [.sl c 1 (l.map Zk),I x] (I (Yv (λy=>decide (x=y)) l 0)):=by
 refine t135.1 (by simp [Za,Zk]) (by simp) ?_;dsimp only [c135,r135,go_sem];simp only [List.length_map];refine Yb (λk:Nat=>[(8,I k)]) (λ_=>[]) (λk=>k<=l.length/\Yv (λy=>decide (x=y)) (l.drop k) k=Yv (λy=>decide (x=y)) l 0) (λk=>l.length - k) 0 ⟨Nat.zero_le _,rfl⟩ ?_ ?_
 . (refine Zi ?_ ?_ ?_ rfl rfl<;>dsimp only [Zk,id,go_sem]<;>simp [Zk,Za])
 intro k ⟨hk,hi⟩;dsimp only [go_sem];by_cases hlt:k < l.length
 . refine Zt (by simpa using hlt) ?_;dsimp only [go_sem];refine Zx k hlt rfl ?_;dsimp only [Zk,go_sem];rw [List.drop_eq_getElem_cons hlt,Yv] at hi;by_cases hx:x=l[k]
   . refine Zt (by simpa using hx) ?_;dsimp only [go_sem];rw [if_pos (by simpa using hx)] at hi;rw [<- hi]
   . refine Zn (by simpa using hx) ?_;dsimp only [go_sem];rw [if_neg (by simpa using hx)] at hi;rw [Zf (n:=(k:Int)+1) (by omega) (by omega)];refine ⟨k+1,⟨hlt,hi⟩,by omega,?_⟩;(refine Zi ?_ ?_ ?_ rfl rfl<;>dsimp only [Zk,id,go_sem]<;>simp [Zk,Za])
 refine Zn (by simp;omega) ?_;dsimp only [go_sem];rw [<- hi,List.drop_eq_nil_of_le (by omega)];rfl
theorem Zci (a:An):∀ (w:World) (E:Env) (n ok:Nat->Prop) (ys:List Value),RL w E n ok [I a.id,I a.mom,I a.born.lo,I a.born.hi,.v (.slice none 0 0)] ys->RL w E n ok (anL a) ys:=by
 intro w E n ok ys h;simp only [RL,R,anL] at h ⊢;obtain ⟨y0,r0,rfl,h0,y1,r1,rfl,h1,y2,r2,rfl,h2,y3,r3,rfl,h3,y4,r4,rfl,h4,rfl⟩:=h;exact ⟨_,_,rfl,h0,_,_,rfl,h1,_,_,rfl,h2,_,_,rfl,h3,_,_,rfl,⟨none,0,0,h4,rfl,⟨Nat.le_refl _,λ_=>rfl⟩,by simp,.inl trivial⟩,rfl⟩
end Go.Proofs.YtkpkgafhfakpdaaGreatDoor
namespace Go.Sx
open Go Go.RowKit
theorem Ct.res {P:Program} {f:FuncId} {args:List SV} {res res0:SV} (h:Ct P f args res) (kr:KF res0) (hw:ZfS res res0):Ct P f args res0 :=
 ⟨h.1,h.2,kr,λw ok vs hG hR=>Calls.mono (h.4 w ok vs hG hR) λe w' q=>by
  obtain ⟨y,h1,h2,h3⟩:=q
  exact ⟨y,h1,hw _ _ _ _ _ h2,h3⟩⟩
theorem UV {l:List SV}:∀ (w:World) (E:Env) (n ok:Nat->Prop) (ys:List Value),RL w E n ok l ys->RL w E n ok l ys:=λ_ _ _ _ _ h=>h
def keepF (fr:List (Nat × SV)):List Nat->List (Nat × SV)
 | []=>[]
 | t :: ts=>(t,lk t fr) :: keepF fr ts
theorem Zhu (fr:List (Nat × SV)):keepF fr []=[]:=rfl
theorem ZfF (fr:List (Nat × SV)) (t:Nat) (ts:List Nat):keepF fr (t :: ts)=(t,lk t fr) :: keepF fr ts:=rfl
attribute [go_sem] Zhu ZfF
theorem Zcu (fr:List (Nat × SV)):∀ ts,Zw6 (keepF fr ts) fr
 | []=>trivial
 | _ :: ts=>⟨rfl,Zcu fr ts⟩
theorem ZqF {m:Nat} {σ : St} (ts:List Nat) (hg:Zw8 (keepF σ.fr ts)=true):Ent m σ ⟨keepF σ.fr ts,σ.hp,σ.n,σ.N,[]⟩:=by
 intro C E a w _ h;refine ⟨E,λt=>?_,h.sz,h.df,λt j b s ht=>absurd ht (Zdt hg t j b s),h.hs⟩;have hfr:=h.fr t;rcases Ziu (Zcu σ.fr ts) t with h1 | h1
 . rw [h1];exact trivial
 . rw [h1];have:=Zdt hg t;rw [h1] at this;cases hq:lk t σ.fr<;>rw [hq] at hfr this<;>first | exact hfr | exact absurd rfl (this _ _ _)
theorem loopK {m:Nat} {f:CT} {σ : St} {K:Ex->St->Prop} {S:Type} (ts:List Nat) (hg:Zw8 (keepF σ.fr ts)=true) (ov:S->List (Nat × SV)) (hv:S->List (Nat × HB)) (rel:S->Prop) (μ : S->Nat) (s0:S) (h0:rel s0)
 (he:Ent m ⟨keepF σ.fr ts,σ.hp,σ.n,σ.N,[]⟩ (stO ⟨keepF σ.fr ts,σ.hp,σ.n,σ.N,[]⟩ ov hv s0))
 (hb:∀ s,rel s->f (stO ⟨keepF σ.fr ts,σ.hp,σ.n,σ.N,[]⟩ ov hv s) (Zmy m (stO ⟨keepF σ.fr ts,σ.hp,σ.n,σ.N,[]⟩ ov hv) rel μ s K)):ZrV m f σ K :=
 ZmU (ZqF ts hg) ov hv rel μ s0 h0 he hb
end Go.Sx
namespace Go.Azalai
open Go.Sx
theorem Y2:Wq.length=4:=rfl
theorem Zys:∀ k (h:k < Wq.length),okAn Wq[k]=true:=by decide
theorem Zvi:∀ k (h:k < Wq.length),Wt Wq[k].id (YX k)=none/\UC k Wq[k].id (k:Int) (YX k)=YX (k+1)/\UN k Wq[k].id (YX k)=k+1:=by decide
theorem Ztg:∀ k (h:k < Wq.length),(Wq[k].mom = -1/\Wt Wq[k].mom (YX 4)=none/\Uc.take (k+1)=Uc.take k ++ [-1])\/(Wq[k].mom≠-1/\∃ j,Wt Wq[k].mom (YX 4)=some j/\Uc.take (k+1)=Uc.take k ++ [j]):=by
 intro k h;have:k=0\/k=1\/k=2\/k=3:=by have:=Y2;omega
 rcases this with rfl | rfl | rfl | rfl
 . exact .inl ⟨rfl,rfl,rfl⟩
 . exact .inr ⟨by simp [Wq],0,rfl,rfl⟩
 . exact .inr ⟨by simp [Wq],1,rfl,rfl⟩
 . exact .inl ⟨rfl,rfl,rfl⟩
def ZwY (c:Int):Int:=if c=0\/c=3 then 1 else if c=1 then 2 else if c=2 then 3 else 0
theorem Zuw:∀ j (h:j < Uc.length),ZwY Uc[j]=ZwY (j:Int) - 1/\-1<=Uc[j]/\Uc[j] < 4:=by decide
theorem ZqN {c:Int} (h:0<=c/\c < 4):1<=ZwY c/\ZwY c<=3:=by
 have:c=0\/c=1\/c=2\/c=3:=by omega
 rcases this with rfl | rfl | rfl | rfl<;>decide
theorem Znk:Uc.length=4:=rfl
end Go.Azalai
namespace Go.Proofs.YtkpkgafhfakpdaaGreatDoor
open Go Go.Sx Go.Azalai
theorem Zw7:Tryz.prog.underlying 302=some (.map 3 3):=by kernel_rfl
theorem ZkP:Yk Tryz.prog 3=some (.int .i64 0):=by kernel_rfl
abbrev iV:Int->SV:=λn=>I n
theorem Zyp:∀ w E n ok,R w E n ok (I 0) (.int .i64 0):=λw E n ok=>by simp [R]
theorem Zqe (k:Nat):KFR (List.take k (List.map Zk Uc)):=ZkF (λ_=>by simp [KFL,KF,Zk]) k Uc
theorem W5 (k:Nat):KFR (List.replicate k [I 0,I 0,I 0,I 0,I 0,I 0,I 0,I 0]):=WN (by simp) k
def Zc6:List (Nat × HB):=[(0,.cells [.sl true 5 (Wq.map anL),.mp 1,.mr 2 4,.any] 305),(1,.map (mpS kI iV (YX 4)) 4),(2,.row 4 1 (Uc.map Zk) 3)]
theorem Zvz (r:List (Nat × HB)) (h:KXP r):KXP (Zc6 ++ r):=by
 simp [Zc6,KXP,KXH,KXL,KX,KF,KFL,KFR,Za,anL,Zk,ZN,ZA,h]
theorem Zdr (i:Int):CtM Tryz.prog 205 Zc6 3 [.p 0 0,I i] (λo=>o=⟨false,.cl 246 [.p 4 0,.p 3 0],Zc6 ++ [(3,.cells [.p 0 0] 298),(4,.cells [I i] 3)],5⟩):=by
 refine m205 (by simp [hpb,Zc6]) (λo ho=>by subst ho;exact ⟨by simp [KX,KXL],Zvz _ (by simp [KXP,KXH,KXL,KX])⟩) ?_;dsimp only [c205,r205,Zc6,go_sem];refine ⟨_,rfl,?_⟩;(refine Zp ?_ ?_ ?_ rfl<;>dsimp only [Zc6,anL,Zk,ZN,ZA,id,go_sem]<;>simp [Zc6,anL,Zk,ZN,ZA,Za])
theorem Zr2:CtM Tryz.prog 203 [] 0 [.sl true 5 (Wq.map anL)] (λo=>o=⟨false,.tup [.p 0 0,I 0],[(0,.cells [.sl true 5 (Wq.map anL),.mp 1,.mr 2 4,.any] 305),(1,.map (mpS kI iV (YX 4)) 4),(2,.row 4 1 (Uc.map Zk) 3)],3⟩):=by
 refine m203 (by simp [hpb]) (λo ho=>by subst ho;exact ⟨by simp [KX,KXL],by simp [KXP,KXH,KXL,KX,KF,KFL,KFR,Za,anL,Zk,ZN,ZA]⟩) ?_;dsimp only [c203,r203,go_sem];refine WA rfl rfl rfl ?_;dsimp only [go_sem];simp only [List.length_map];refine Zn rfl ?_;dsimp only [go_sem];refine ZmU (WD (Vo 4 3 8 342 rfl rfl) (Vo 4 2 1 3 rfl rfl)) (λk:Nat=>[(26,I k)]) (λk=>[(3,.map (mpS kI iV (YX k)) k),(4,.cells [.sl true 5 (Wq.map anL),.mp 3,.mr 6 0,.mr 5 k] 305),(5,.row k 8 (List.replicate k XO) 342)]) (λk=>k<=Wq.length) (λk=>Wq.length - k) 0 (Nat.zero_le _) ?_ ?_
 . (refine Zi ?_ ?_ ?_ rfl rfl<;>dsimp only [anL,mpS,YX,id,go_sem]<;>simp [anL,mpS,YX,Za])
 intro k hk;dsimp only [go_sem];by_cases hlt:k < Wq.length
 . refine Zt (by simpa using hlt) ?_;dsimp only [go_sem];refine Zx k hlt rfl ?_;dsimp only [anL,go_sem];refine call (ZjE Wq[k]) ?_;dsimp only [XO,go_sem];obtain ⟨f1,f2,f3⟩:=Zvi k hlt;have hok:=Zys k hlt;simp only [okAn,Bool.and_eq_true] at hok;refine V4 (key:=kI) (val:=iV) (sv:=λn=>.v (kI n)) (L:=YX k) (k:=Wq[k].id) (zs:=I 0) rfl rfl Zw7 ZgM rfl ZkP Zyp (λv hg=>?_) (λ_=>?_)
   . rw [f1] at hg;cases hg
   dsimp only [go_sem];iterate 6 (refine ZO rfl ?_;dsimp only [go_sem])
   refine call (inB1 0 9999 Wq[k].id _) ?_;rw [hok.1];dsimp only [go_sem];iterate 5 (refine ZO rfl ?_;dsimp only [go_sem])
   refine call (proB1 (-100000) 100000 Wq[k].born _) ?_;rw [hok.2];dsimp only [go_sem];refine ZO rfl ?_;dsimp only [go_sem];refine Zn rfl ?_;dsimp only [go_sem];refine Ww (key:=kI) (val:=iV) (sv:=λn=>.v (kI n)) (L:=YX k) (k:=Wq[k].id) (v:=(k:Int)) (ins:=false) rfl rfl Zw7 ZgM rfl rfl (λ_ _ _ e=>by cases e) ?_;rw [f2,f3];dsimp only [go_sem];simp only [nbr];dsimp only [go_sem];refine ⟨(by intro c hc;simp only [List.mem_singleton] at hc;subst hc;rfl),by simp;have:=Y2;omega,?_⟩
   dsimp only [go_sem];rw [Zf (n:=(k:Int)+1) (by omega) (by have:=Y2;omega)];refine ⟨k+1,hlt,by omega,?_⟩;rw [List.replicate_succ'];(refine Zi ?_ ?_ ?_ rfl rfl<;>dsimp only [anL,XO,ZN,ZA,W5,id,go_sem]<;>simp [anL,XO,ZN,ZA,W5,Za])
 refine Zn (by simp;omega) ?_;dsimp only [go_sem];have hk4:k=4:=by have:=Y2;omega
 subst hk4;refine Yb (λk:Nat=>[(85,I k)]) (λk=>[(6,.row k 1 ((Uc.take k).map Zk) 3),(4,.cells [.sl true 5 (Wq.map anL),.mp 3,.mr 6 k,.any] 305)]) (λk=>k<=Wq.length) (λk=>Wq.length - k) 0 (Nat.zero_le _) ?_ ?_
 . (refine Zi ?_ ?_ ?_ rfl rfl<;>dsimp only [anL,ZN,ZA,W5,XO,id,go_sem]<;>simp [anL,ZN,ZA,W5,XO,Za])
 intro k hk;dsimp only [go_sem];by_cases hlt2:k < Wq.length
 . refine Zt (by simpa using hlt2) ?_;dsimp only [go_sem];refine Zx k hlt2 rfl ?_;dsimp only [anL,go_sem];have fin:∀ j:Int,Uc.take (k+1)=Uc.take k ++ [j]->True:=λ_ _=>trivial;rcases Ztg k hlt2 with ⟨g1,g2,g3⟩ | ⟨g1,j,g2,g3⟩
   . refine V4 (key:=kI) (val:=iV) (sv:=λn=>.v (kI n)) (L:=YX 4) (k:=Wq[k].mom) (zs:=I 0) rfl rfl Zw7 ZgM rfl ZkP Zyp (λv hg=>?_) (λ_=>?_)
     . rw [g2] at hg;cases hg
     dsimp only [go_sem];refine Zt (by simpa using g1) ?_;dsimp only [go_sem];refine Zn rfl ?_;dsimp only [go_sem];simp only [nbr];dsimp only [go_sem];refine ⟨(by intro c hc;simp only [List.mem_singleton] at hc;subst hc;rfl),by simp;have:=Y2;omega,?_⟩;dsimp only [go_sem];rw [Zf (n:=(k:Int)+1) (by omega) (by have:=Y2;omega)];refine ⟨k+1,hlt2,by omega,?_⟩;rw [g3];(refine Zi ?_ ?_ ?_ rfl rfl<;>dsimp only [anL,Zk,ZN,ZA,W5,Zqe,XO,id,go_sem]<;>simp [anL,Zk,ZN,ZA,W5,Zqe,XO,Za])
   . refine V4 (key:=kI) (val:=iV) (sv:=λn=>.v (kI n)) (L:=YX 4) (k:=Wq[k].mom) (zs:=I 0) rfl rfl Zw7 ZgM rfl ZkP Zyp (λv hg=>?_) (λhg=>?_)
     . rw [g2] at hg;cases hg;dsimp only [go_sem];refine Zn (by simpa using g1) ?_;dsimp only [go_sem];refine Zn rfl ?_;dsimp only [go_sem];simp only [nbr];dsimp only [go_sem];refine ⟨(by intro c hc;simp only [List.mem_singleton] at hc;subst hc;rfl),by simp;have:=Y2;omega,?_⟩;dsimp only [go_sem];rw [Zf (n:=(k:Int)+1) (by omega) (by have:=Y2;omega)];refine ⟨k+1,hlt2,by omega,?_⟩;rw [g3];(refine Zi ?_ ?_ ?_ rfl rfl<;>dsimp only [anL,Zk,ZN,ZA,W5,Zqe,XO,id,go_sem]<;>simp [anL,Zk,ZN,ZA,W5,Zqe,XO,Za])
     . rw [g2] at hg;cases hg
 refine Zn (by simp;omega) ?_;dsimp only [go_sem];have hk4:k=4:=by have:=Y2;omega
 subst hk4;rw [show Uc.take 4=Uc from rfl];refine loopK [1,2,3,4,115,116,117] rfl (λk:Nat=>[(117,I k)]) (λk=>[]) (λk=>k<=Wq.length) (λk=>Wq.length - k) 0 (Nat.zero_le _) ?_ ?_
 . (refine Zi ?_ ?_ ?_ rfl rfl<;>dsimp only [anL,Zk,ZN,ZA,W5,XO,id,go_sem]<;>simp [anL,Zk,ZN,ZA,W5,XO,Za])
 intro k hk;dsimp only [go_sem];by_cases hlt3:k < Wq.length
 . refine Zt (by simpa using hlt3) ?_;dsimp only [go_sem];refine Zl [4,3,6] (Zdr k) rfl rfl rfl ?_ ?_ ?_
   . (repeat first | dsimp only [Zc6,go_sem] | simp only [nbr])
     try simp [mtL,mtB,mtS]
   . (repeat first | dsimp only [Zc6,go_sem] | simp only [nbr])
     try simp [mtL,mtB,mtS,Zb,KFL,KF,Za,KFR,anL,Zk,ZN,ZA]
   rintro _ rfl
   (repeat first | dsimp only [Zc6,go_sem] | simp only [nbr])
   refine gh Zr ?_;dsimp only [go_sem];refine ⟨b246,λrec=>?_⟩;refine y246 ?_;dsimp only [Zyr,ZyK,go_sem];refine Yb (λq:Int × Int=>[]) (λq=>[(9,.cells [I q.1] 3),(7,.cells [I q.2] 3)]) (λq=>(-1<=q.1/\q.1 < 4)/\0<=q.2/\q.2+ZwY q.1<=4) (λq=>(ZwY q.1).toNat) ((k:Int),0) ⟨by have:=Y2;simp only;omega,Int.le_refl _,by have:=Y2;have:=ZqN (c:=k) (by omega);simp only;omega⟩ ?_ ?_
   . (refine Zi ?_ ?_ ?_ rfl rfl<;>dsimp only [anL,Zk,ZN,ZA,W5,XO,id,go_sem]<;>simp [anL,Zk,ZN,ZA,W5,XO,Za])
   rintro ⟨cur,st⟩ ⟨hc,hs,hd⟩;simp only at hc hs hd;dsimp only [go_sem];by_cases h0:0<=cur
   . have hb:=ZqN (c:=cur) ⟨h0,hc.2⟩;obtain ⟨j,hj⟩:=Int.eq_ofNat_of_zero_le h0;subst hj;have hj4:j < Uc.length:=by have:=Znk;omega
     obtain ⟨e1,e2,e3⟩:=Zuw j hj4;refine Zt (by simp) ?_;dsimp only [go_sem];refine ⟨rfl,rfl,?_⟩;rw [Zf (n:=st+1) (by omega) (by omega)];simp only [List.length_map];refine Zn (by have:=Y2;simp;omega) ?_;dsimp only [go_sem];refine ⟨rfl,?_⟩;refine Zn rfl ?_;dsimp only [go_sem];refine XC j rfl (by simpa using hj4) ?_;dsimp only [go_sem];refine VX hj4 ?_;dsimp only [Zk,go_sem];refine ⟨(Uc[j],st+1),⟨⟨e2,e3⟩,by simp only;omega,by simp only;omega⟩,by simp only;omega,?_⟩
     (refine Zi ?_ ?_ ?_ rfl rfl<;>dsimp only [anL,Zk,ZN,ZA,W5,XO,id,go_sem]<;>simp [anL,Zk,ZN,ZA,W5,XO,Za])
   refine Zn (by simpa using h0) ?_;dsimp only [go_sem];rw [Zf (n:=(k:Int)+1) (by omega) (by have:=Y2;omega)];refine ⟨k+1,hlt3,by omega,?_⟩;(refine Zi ?_ ?_ ?_ rfl rfl<;>dsimp only [anL,Zk,ZN,ZA,W5,XO,id,go_sem]<;>simp [anL,Zk,ZN,ZA,W5,XO,Za])
 refine Zn (by simp;omega) ?_;dsimp only [go_sem];refine ⟨_,rfl,?_⟩;refine entO (rho [4,3,6]) ?_ ?_ ?_ (show ∀ i,i < 3->∀ j,j < 3->rho [4,3,6] i=rho [4,3,6] j->i=j by decide) rfl (λi hi=>absurd hi (Nat.not_lt_zero i))<;>dsimp only [go_sem]<;>simp [Za,Zd,KFR,KFL,KF,Zb,mtO,nbr,anL,Zk,ZN,ZA]
def Zcc (c:Int) (r:List (Nat × HB)):List (Nat × HB):=[(0,.cells [.sl true 5 (Wq.map anL),.mp 1,.mr 2 4,.any] 305),(1,.map (mpS kI iV (YX 4)) 4),(2,.row 4 1 (Uc.map Zk) 3),(3,.cells [.p 0 0] 298),(4,.cells [I c] 3)] ++ r
theorem Zg6 (c:Int) (r:List (Nat × HB)) (h:KXP r):KXP (Zcc c r):=by
 simp [Zcc,KXP,KXH,KXL,KX,KF,KFL,KFR,Za,anL,Zk,ZN,ZA,h]
theorem Zjp:CtM Tryz.prog 245 (Zcc 0 []) 5 [.v (.slice none 0 0),.cl 246 [.p 4 0,.p 3 0]] (λo=>o=⟨false,.mr 5 1,Zcc (-1) [(5,.row 1 1 [[I 0]] 3)],6⟩):=by
 refine m245 (by simp [hpb,Zcc]) (λo ho=>by subst ho;exact ⟨by simp [KX],Zg6 _ _ (by simp [KXP,KXH,KFR])⟩) ?_;dsimp only [c245,r245,Zcc,go_sem];refine gh (Vo 5 0 1 3 rfl rfl) ?_;dsimp only [go_sem];refine ⟨b246,λrec=>?_⟩;refine y246 ?_;dsimp only [Zyr,ZyK,go_sem];refine ZU 2 ?_;dsimp only [Zc,go_sem];refine Zt rfl ?_;dsimp only [go_sem];refine ⟨rfl,rfl,?_⟩;refine ⟨(by intro c hc;simp only [List.mem_singleton] at hc;subst hc;rfl),by simp,?_⟩
 dsimp only [go_sem];refine ⟨rfl,?_⟩;refine Zn rfl ?_;dsimp only [go_sem];refine XC 0 rfl (by decide) ?_;dsimp only [go_sem];refine VX (show 0 < Uc.length by decide) ?_;rw [show Uc[0]'(by decide) = -1 from rfl];dsimp only [Zk,go_sem];dsimp only [Zc,go_sem];refine Zn rfl ?_;dsimp only [go_sem];refine ⟨_,rfl,?_⟩;refine entO (rho [0,1,2,3,4,6]) ?_ ?_ ?_ (show ∀ i,i < 6->∀ j,j < 6->rho [0,1,2,3,4,6] i=rho [0,1,2,3,4,6] j->i=j by decide) rfl (show ∀ i,i < 5->rho [0,1,2,3,4,6] i=i by decide)<;>dsimp only [go_sem]<;>simp [Zcc,Za,Zd,KFR,KFL,KF,Zb,mtO,nbr,anL,Zk,ZN,ZA]
theorem ZfB:CtM Tryz.prog 204 (Zcc 0 []) 5 [.cl 246 [.p 4 0,.p 3 0]] (λo=>o=⟨false,.mr 5 1,Zcc (-1) [(5,.row 1 1 [[I 0]] 3)],6⟩):=by
 refine m204 (by simp [hpb,Zcc]) (λo ho=>by subst ho;exact ⟨by simp [KX],Zg6 _ _ (by simp [KXP,KXH,KFR])⟩) ?_;dsimp only [c204,r204,Zcc,go_sem];refine Zl [0,1,2,3,4] Zjp rfl rfl rfl ?_ ?_ ?_
 . (repeat first | dsimp only [Zcc,go_sem] | simp only [nbr])
   try simp [mtL,mtB,mtS]
 . (repeat first | dsimp only [Zcc,go_sem] | simp only [nbr])
   try simp [mtL,mtB,mtS,Zb,KFL,KF,Za,KFR,anL,Zk,ZN,ZA]
 rintro _ rfl
 (repeat first | dsimp only [Zcc,go_sem] | simp only [nbr])
 refine ⟨_,rfl,?_⟩;(refine Zp ?_ ?_ ?_ rfl<;>dsimp only [Zcc,anL,Zk,ZN,ZA,id,go_sem]<;>simp [Zcc,anL,Zk,ZN,ZA,Za])
theorem Zzd:Ct Tryz.prog 163 [.sl true 5 (Wq.map anL),I 3,I 1] (.tup [I 2,I 0,I 0]):=by
 refine t163.1 (by simp [Za,anL,KFR]) (by simp) ?_;dsimp only [c163,r163,go_sem];refine Zl [] Zr2 rfl rfl rfl ?_ ?_ ?_
 . (repeat first | dsimp only [go_sem] | simp only [nbr])
   try simp [mtL,mtB,mtS,Zb,Za,anL,KFL,KF,KFR]
 . trivial
 rintro _ rfl
 (repeat first | dsimp only [go_sem] | simp only [nbr])
 refine Zn rfl ?_;dsimp only [go_sem];refine V4 (key:=kI) (val:=iV) (sv:=λn=>.v (kI n)) (L:=YX 4) (k:=3) (zs:=I 0) rfl rfl Zw7 ZgM rfl ZkP Zyp (λv hg=>?_) (λhg=>by cases hg);cases hg
 dsimp only [go_sem];refine V4 (key:=kI) (val:=iV) (sv:=λn=>.v (kI n)) (L:=YX 4) (k:=1) (zs:=I 0) rfl rfl Zw7 ZgM rfl ZkP Zyp (λv hg=>?_) (λhg=>by cases hg);cases hg
 dsimp only [go_sem];refine ZO rfl ?_;dsimp only [go_sem];refine ZO rfl ?_;dsimp only [go_sem];refine Zn rfl ?_;dsimp only [go_sem];refine Zl [3,4,5] (Zdr 0) rfl rfl rfl ?_ ?_ ?_
 . (repeat first | dsimp only [Zc6,go_sem] | simp only [nbr])
   try simp [mtL,mtB,mtS]
 . (repeat first | dsimp only [Zc6,go_sem] | simp only [nbr])
   try simp [mtL,mtB,mtS,Zb,KFL,KF,Za,KFR,anL,Zk,ZN,ZA]
 rintro _ rfl
 (repeat first | dsimp only [Zc6,go_sem] | simp only [nbr])
 refine Zl [3,4,5,6,7] ZfB rfl rfl rfl ?_ ?_ ?_
 . (repeat first | dsimp only [Zcc,go_sem] | simp only [nbr])
   try simp [mtL,mtB,mtS]
 . (repeat first | dsimp only [Zcc,go_sem] | simp only [nbr])
   try simp [mtL,mtB,mtS,Zb,KFL,KF,Za,KFR,anL,Zk,ZN,ZA]
 rintro _ rfl
 (repeat first | dsimp only [Zcc,go_sem] | simp only [nbr])
 refine Zl [3,4,5] (Zdr 2) rfl rfl rfl ?_ ?_ ?_
 . (repeat first | dsimp only [Zc6,go_sem] | simp only [nbr])
   try simp [mtL,mtB,mtS]
 . (repeat first | dsimp only [Zc6,go_sem] | simp only [nbr])
   try simp [mtL,mtB,mtS,Zb,KFL,KF,Za,KFR,anL,Zk,ZN,ZA]
 rintro _ rfl
 (repeat first | dsimp only [Zc6,go_sem] | simp only [nbr])
 refine gh Zr ?_;dsimp only [go_sem];refine ⟨b246,λrec=>?_⟩;refine y246 ?_;dsimp only [Zyr,ZyK,go_sem];refine ZU 4 ?_;dsimp only [Zc,go_sem];refine Zt rfl ?_;dsimp only [go_sem];refine ⟨rfl,rfl,?_⟩;refine Xi (by simp [FLT]) (res:=I (-1)) ?_ ?_
 . dsimp only [go_sem];exact Zco [0] 2 (by decide) false
 dsimp only [go_sem];refine Zn rfl ?_;dsimp only [go_sem];refine ⟨rfl,?_⟩;refine Zn rfl ?_;dsimp only [go_sem];refine XC 2 rfl (by decide) ?_;dsimp only [go_sem];refine VX (show 2 < Uc.length by decide) ?_;rw [show Uc[2]'(by decide)=1 from rfl];dsimp only [Zk,go_sem];dsimp only [Zc,go_sem];refine Zt rfl ?_;dsimp only [go_sem];refine ⟨rfl,rfl,?_⟩;refine Xi (by simp [FLT]) (res:=I (-1)) ?_ ?_
 . dsimp only [go_sem];exact Zco [0] 1 (by decide) false
 dsimp only [go_sem];refine Zn rfl ?_;dsimp only [go_sem];refine ⟨rfl,?_⟩;refine Zn rfl ?_;dsimp only [go_sem];refine XC 1 rfl (by decide) ?_;dsimp only [go_sem];refine VX (show 1 < Uc.length by decide) ?_;rw [show Uc[1]'(by decide)=0 from rfl];dsimp only [Zk,go_sem];dsimp only [Zc,go_sem];refine Zt rfl ?_;dsimp only [go_sem];refine ⟨rfl,rfl,?_⟩;refine Xi (by simp [FLT]) (res:=I 0) ?_ ?_
 . dsimp only [go_sem];exact Zco [0] 0 (by decide) false
 dsimp only [go_sem];refine Zt rfl ?_;dsimp only [go_sem];refine ⟨rfl,?_⟩;refine Zt rfl ?_;dsimp only [go_sem];rw [show IntKind.i64.wrap (IntKind.i64.wrap (0+1)+1)=2 from by decide]
def c104:SC:=(sr1 [Jw 0 Jf] (sr1 [o1 7 (.call 164 []),o1 8 (.call 163 [.t 7,cn 3,cn 1]),m1 6 8,o1 9 (Je 6 0),o1 10 (Je 6 1),o1 11 (Je 6 2),m1 1 9,m1 2 10,m1 3 11] (sr1 [o1 13 (.bsl 1 3 [cn 0]),o1 14 (.build zv12 [(0,1,.c (.int .i64 0)),(1,1,.c (.int
 .i64 1)),(2,1,.c (.int .i64 5)),(3,1,.c (.bool true))]),o1 15 (.bsl 4 274 [.t 14]),o1 16 (.call 17 [cn 3,cn 4]),o1 17 (.call 165 [cn 2,.t 13,.t 15,.t 16,cn 9]),m1 12 17,o1 18 (Je 12 0),o1 19 (Je 12 1),m1 4 18,m1 5 19] (sr1 [m1 20 3,o1 21 (Jc .eql 20
 0),m1 22 21,g1 23 22 true (.mv (.t 1)),g1 24 22 true (Jc .eql 23 2),o1 25 (.pick (.t 22) (.t 24) Jf),m1 26 25,g1 27 26 true (.mv (.t 2)),g1 28 26 true (Jc .eql 27 0),o1 29 (.pick (.t 26) (.t 28) Jf),m1 30 29,g1 31 30 true (.mv (.t 5)),g1 32 30 true
 (Jc .eql 31 0),o1 33 (.pick (.t 30) (.t 32) Jf),m1 34 33,g1 35 34 true (.mv (.t 4)),g1 36 34 true (.raw (Go.Op.convert 270 9 (Go.Operand.tmp 35)) 9),g1 37 34 true (.raw (Go.Op.binOp Go.BinOp.eql 9 (Go.Operand.tmp 36) (Go.Operand.const
 (Go.Value.string { data:=#[2,2] })) 9) 4),o1 38 (.pick (.t 34) (.t 37) Jf),m1 0 38] .ret))))
def r104:List RV:=[.tmp 0]
theorem t104:Qt1 Tryz.prog 104 c104 r104 39:=ZL Tryz.func104
def c7:SC:=(sr1 [Jw 0 Jf] (sr1 [o1 13 (.call 17 [cn 100,cn 120]),o1 14 (.build zv3 [(0,1,.c (.int .i64 1000)),(1,1,.c (.int .i64 1000)),(15,2,.t 13)]),o1 1 (.alloc zv3 25),Js 1 14 17] (sr1 [o1 15 (.call 17 [cn 1000,cn 1000]),o1 16 (.call 17 [cn
 1000,cn 1000]),o1 17 (.build zv4 [(0,2,.t 15),(2,2,.t 16)]),o1 2 (.alloc zv4 27),Js 2 17 7] (sr1 [o1 18 (.call 17 [cn 30,cn 30]),o1 19 (.build zv5 [(0,1,.c (.int .u8 2)),(1,2,.t 18)]),o1 20 (.call 17 [cn 30,cn 30]),o1 21 (.call 17 [cn 1,cn 2]),o1 22
 (.build zv5 [(0,1,.c (.int .u8 3)),(1,2,.t 20),(7,2,.t 21)]),o1 23 (.bsl 11 49 [.t 19,.t 22]),m1 3 23] (sr1 [o1 24 (.bsl 1 3 [cn 0]),o1 25 (.bsl 1 3 [cn 1]),o1 26 (.build zv8 [(0,1,.t 24),(1,1,.t 25)]),o1 4 (.alloc zv8 31),Js 4 26 3] (sr1 [o1 28 (lt
 1 17),o1 29 (lt 2 7),m1 30 3,o1 31 (lt 4 3),o1 32 (.call 12 [.t 28,.t 29,.t 30,.t 31,cn 4]),m1 27 32,o1 33 (Je 27 0),o1 34 (Je 27 1),m1 5 33,m1 6 34] (sr1 [m1 36 3,o1 37 (lt 4 3),o1 38 (.bsl 3 31 [.t 37]),o1 39 (.call 40 [.t 36,.t 38,.c (.slice none
 0 0),cn 2]),m1 35 39,o1 40 (Je 35 0),o1 41 (Je 35 1),m1 7 40,m1 8 41] (sr1 [o1 43 (lt 1 17),o1 44 (lt 2 7),m1 45 7,o1 46 (lt 4 3),o1 47 (.call 12 [.t 43,.t 44,.t 45,.t 46,cn 4]),m1 42 47,o1 48 (Je 42 0),o1 49 (Je 42 1),m1 9 48,m1 10 49] (sr1 [o1 51
 (lt 1 17),o1 52 (lt 2 7),o1 53 (.build zv2 [(0,1,.c (.int .i64 1))]),o1 54 (.bsl 8 43 [.t 53]),o1 55 (J3 11 51 52 54),m1 50 55,o1 56 (Je 50 0),o1 57 (Je 50 1),m1 11 56,m1 12 57] (sr1 [o1 58 (.call 41 []),m1 59 58,g1 60 59 true (.mv (.t 6)),g1 61 59
 true (Jc .eql 60 0),o1 62 (.pick (.t 59) (.t 61) Jf),m1 63 62,g1 64 63 true (.mv (.t 5)),g1 65 63 true (.bin .eql (.t 64) (.c (.int .u8 2))),o1 66 (.pick (.t 63) (.t 65) Jf),m1 67 66,g1 68 67 true (.mv (.t 8)),g1 69 67 true (Jc .eql 68 0),o1 70
 (.pick (.t 67) (.t 69) Jf),m1 71 70,g1 72 71 true (.mv (.t 10)),g1 73 71 true (Jc .eql 72 0),o1 74 (.pick (.t 71) (.t 73) Jf),m1 75 74,g1 76 75 true (.mv (.t 9)),g1 77 75 true (.bin .eql (.t 76) (.c (.int .u8 2))),o1 78 (.pick (.t 75) (.t 77) Jf),m1
 79 78,g1 80 79 true (.mv (.t 12)),g1 81 79 true (Jc .eql 80 0),o1 82 (.pick (.t 79) (.t 81) Jf),m1 83 82,g1 84 83 true (.mv (.t 11)),g1 85 83 true (Jc .eql 84 100),o1 86 (.pick (.t 83) (.t 85) Jf),m1 0 86] .ret))))))))))
def r7:List RV:=[.tmp 0]
theorem t7:Qt1 Tryz.prog 7 c7 r7 87:=ZL Tryz.func7
def c41:SC:=(sr1 [Jw 0 Jf] (sr1 [o1 11 (.build zv3 [(0,1,.c (.int .i64 1000)),(1,1,.c (.int .i64 1000))]),o1 1 (.alloc zv3 25),Js 1 11 17] (sr1 [o1 12 (.call 17 [cn 600,cn 700]),o1 13 (.call 17 [cn 5,cn 5]),o1 14 (.build zv4 [(0,2,.t 12),(2,2,.t
 13)]),o1 2 (.alloc zv4 27),Js 2 14 7] (sr1 [o1 16 (lt 1 17),o1 17 (lt 2 7),o1 18 (.bsl 7 27 [.t 17]),o1 19 (J2 101 16 18),m1 15 19,o1 20 (Je 15 0),o1 21 (Je 15 1),o1 3 (.alloc zv0 23),Js 3 20 2,m1 4 21] (.seq (.regd (Jr 13) [Jo 23 (lt 1 17),Jo 24 (lt
 2 7),Jo 25 (.call 17 [cn 400,cn 400]),Jp 26 (.build zv2 [(6,2,.t 25)]) [2],Jp 27 (J3 13 23 24 26) (Jr 4),Jp 22 (.mv (.t 27)) [4],Jp 28 (Je 22 0) [5],Jp 29 (Je 22 1) [5],Jp 30 (Je 22 2) [5]] 1 3 [o1 5 (.alloc zv4 27),Ju 5 28 7 [0,1,2,3,4,5,6,9],⟨some
 6,.mv (.t 29),none,[0,1,2,3,4,5,6,7,9,10]⟩,⟨some 7,.mv (.t 30),none,(Jr 12)⟩]) (sr1 [o1 32 (.call 103 []),o1 33 (.build Zya [(2,1,.c (.int .i64 400))]),o1 34 (.bsl 3 206 [.t 33]),o1 35 (.call 102 [.t 32,cn 0,.t 34,cn 1]),m1 31 35,o1 36 (Je 31 0),o1
 37 (Je 31 1),o1 38 (Je 31 2),o1 8 (.alloc zv0 23),Js 8 36 2,m1 9 37,m1 10 38] (.seq (.regd (Jr 30) [Jo 39 (.call 104 []),Jp 40 (.mv (.t 39)) [0],Jq 41 40 true (.mv (.t 4)) [1],Jq 42 40 true (Jc .eql 41 0) [1,2],Jp 43 (.pick (.t 40) (.t 42) Jf)
 [1,3],Jp 44 (.mv (.t 43)) [1,4],Jq 45 44 true (lt 3 2) [5],Jq 46 44 true (.call 17 [cn 300,cn 400]) [5],Jq 47 44 true (.eqs false true [1,1] (.t 45) (.t 46)) [5,6,7],Jp 48 (.pick (.t 44) (.t 47) Jf) [5,8],Jp 49 (.mv (.t 48)) [7,9],Jq 50 49 true (.mv
 (.t 7)) [10],Jq 51 49 true (Jc .eql 50 0) [10,11],Jp 52 (.pick (.t 49) (.t 51) Jf) [10,12],Jp 53 (.mv (.t 52)) [10,13],Jq 54 53 true (ao 5 0) [14],Jq 55 53 true (lt 54 2) [14,15],Jq 56 53 true (.call 17 [cn 1000,cn 1000]) [14],Jq 57 53 true (.eqs
 false true [1,1] (.t 55) (.t 56)) [14,16,17],Jp 58 (.pick (.t 53) (.t 57) Jf) [14,18],Jp 59 (.mv (.t 58)) [17,19],Jq 60 59 true (.mv (.t 10)) [20],Jq 61 59 true (Jc .eql 60 0) [20,21],Jp 62 (.pick (.t 59) (.t 61) Jf) [20,22],Jp 63 (.mv (.t 62))
 [20,23],Jq 64 63 true (lt 8 2) [24],Jq 65 63 true (.call 17 [cn 110,cn 520]) [24],Jq 66 63 true (.eqs false true [1,1] (.t 64) (.t 65)) [24,25,26],Jp 67 (.pick (.t 63) (.t 66) Jf) [24,27],Jp 0 (.mv (.t 67)) (Jr 29)] 0 0 []) .ret)))))))
def r41:List RV:=[.tmp 0]
theorem t41:Qt1 Tryz.prog 41 c41 r41 68:=ZL Tryz.func41
def c103:SC:=(sr1 [o1 0 (.alloc zv16 68)] (sr1 [o1 1 (.call 17 [cn 10,cn 20]),o1 2 (.call 17 [cn 500,cn 900]),o1 3 (.build zv10 [(3,2,.t 1),(5,1,.c (.int .i64 1000)),(6,2,.t 2)]),o1 4 (.bsl 9 264 [.t 3]),o1 5 (.build zv16 [(0,1,.t 4)]),Js 0 5 2] .ret))
def r103:List RV:=[.cell 0 2 true]
theorem t103:Qt1 Tryz.prog 103 c103 r103 6:=ZL Tryz.func103
def c165:SC:=(sr1 [o1 5 (Jz 0 0 3),o1 8 (Jz 3 0 23),o1 10 (.mv (.c (.slice none 0 0))),Jk 11 0] (.seq (sr1 [o1 19 (lf 5 1),o1 20 (.bsl 1 3 [.t 19]),o1 21 (.call 120 [cn 1,cn 30,.t 20]),o1 22 (Jh 21),m1 23 22,g1 24 23 false (lt 8 2),g1 25 23 false
 (.bsl 2 23 [.t 24]),g1 26 23 false (.call 119 [cn 1,cn 60,.t 25]),g1 27 23 false (Jh 26),o1 28 (.pick (.t 23) Jt (.t 27)),m1 29 28,g1 30 29 false (.mv (.t 4)),g1 31 29 false (.bsl 1 3 [.t 30]),g1 32 29 false (.call 120 [cn 0,cn 100000,.t 31]),g1 33
 29 false (Jh 32),o1 34 (.pick (.t 29) Jt (.t 33))] (Ji 34 (sr1 [o1 10 (.mv (.c (.slice none 0 0))),Jk 11 2] .ret) .skip)) (.seq (sr1 [m1 35 1,o1 36 (Jl 35),o1 37 (Jc .gtr 36 30),m1 38 37,g1 39 38 false (.mv (.t 2)),g1 40 38 false (Jl 39),g1 41 38
 false (Jc .gtr 40 200),o1 42 (.pick (.t 38) Jt (.t 41))] (Ji 42 (sr1 [o1 10 (.mv (.c (.slice none 0 0))),Jk 11 4] .ret) .skip)) (sr1 [o1 43 (.mkf 206 [.t 5]),m1 12 43] (.seq (sr1 [o1 44 (lf 5 1),o1 45 (Jc .sub 44 1),m1 46 1,o1 47 (.call 120 [cn 0,.t
 45,.t 46]),o1 48 (Jh 47),m1 49 48,g1 50 49 false (.mv (.t 2)),g1 51 49 false (.mv (.t 12)),g1 52 49 false (J2 207 50 51),o1 53 (.pick (.t 49) Jt (.t 52))] (Ji 53 (sr1 [o1 10 (.mv (.c (.slice none 0 0))),Jk 11 14] .ret) .skip)) (sr1 [m1 54 2,o1 55
 (.callm 208 [.t 54]),m1 13 55] (.gh (sr1 [m1 56 13,o1 57 (.callm 209 [.t 56,.f 210])] (.gh (sr1 [o1 58 (lf 5 1),m1 59 1,m1 60 13,o1 61 (ao 8 0),o1 62 (lf 61 1),m1 63 4,o1 64 (J5 212 58 59 60 62 63),m1 14 64] (sr1 [m1 65 13,o1 66 (.callm 208 [.t
 65]),o1 67 (.callm 213 [.t 66,.f 214]),m1 15 67] (.gh (sr1 [o1 68 (lf 5 1),m1 69 1,m1 70 15,o1 71 (ao 8 1),o1 72 (lf 71 1),m1 73 4,o1 74 (J5 212 68 69 70 72 73),m1 16 74] (sr1 [o1 75 (lf 5 1),o1 76 (.mks 1 1 [.int .u8 0] 5 (.t 75)),m1 17 76] (.seq
 (sr1 [m1 77 17,o1 78 (Jl 77),Jk 79 0] (.block 0 (.loop (sr1 [o1 80 (Jb .lss 79 78)] (.seq (Ji 80 .skip (.exit 0)) (.seq (.block 1 (sr1 [m1 81 79,m1 18 81] (.block 2 (sr1 [m1 83 16,m1 84 18,o1 85 (Jx 83 84 1),o1 86 (lf 85 1),m1 87 4,o1 88 (Jb .leq 86
 87),m1 82 88] (Ji 82 (.reg [m1 89 17,m1 90 18,o1 91 (Jx 89 90 1),Jv 91 (.c (.int .u8 2)) 1]) (sr1 [m1 93 14,m1 94 18,o1 95 (Jx 93 94 1),o1 96 (lf 95 1),m1 97 4,o1 98 (Jb .leq 96 97),m1 92 98] (Ji 92 (.reg [m1 99 17,m1 100 18,o1 101 (Jx 99 100 1),Jv
 101 (.c (.int .u8 1)) 1]) .skip))))))) (.reg [o1 102 (Jc .add 79 1),m1 79 102]))))))) (sr1 [m1 103 17,m1 10 103,Jk 11 0] .ret))))))))))))))))
def r165:List RV:=[.tmp 10,.tmp 11]
theorem t165:Qt1 Tryz.prog 165 c165 r165 104:=ZL Tryz.func165
def c206:SC:=(sr1 [o1 2 (Jz 0 0 274),Jw 3 Jf] (sr1 [o1 4 (lf 1 1),o1 5 (Jc .sub 4 1),o1 6 (ao 2 0),o1 7 (lf 6 1),o1 8 (ao 2 1),o1 9 (lf 8 1),o1 10 (.bsl 1 3 [.t 7,.t 9]),o1 11 (.call 120 [cn 0,.t 5,.t 10]),o1 12 (Jh 11),m1 13 12,g1 14 13 false (ao 2
 0),g1 15 13 false (lf 14 1),g1 16 13 false (ao 2 1),g1 17 13 false (lf 16 1),g1 18 13 false (Jb .eql 15 17),o1 19 (.pick (.t 13) Jt (.t 18)),m1 20 19,g1 21 20 false (ao 2 2),g1 22 20 false (lf 21 1),g1 23 20 false (.bsl 1 3 [.t 22]),g1 24 20 false
 (.call 120 [cn 0,cn 100000,.t 23]),g1 25 20 false (Jh 24),o1 26 (.pick (.t 20) Jt (.t 25)),m1 3 26] .ret))
def r206:List RV:=[.tmp 3]
theorem t206:Qt1 Tryz.prog 206 c206 r206 27:=ZL Tryz.func206
def c207:SC:=(sr1 [Jw 4 Jf] (sr1 [m1 5 0,m1 6 1,o1 7 (J2 247 5 6),o1 8 (Jc .geq 7 0),m1 4 8] .ret))
def r207:List RV:=[.tmp 4]
theorem t207:Qt1 Tryz.prog 207 c207 r207 9:=ZL Tryz.func207
def c208:SC:=(sr1 [o1 2 (.mv (.c (.slice none 0 0)))] (.seq (sr1 [m1 3 0,o1 4 (.isn (.t 3))] (Ji 4 (sr1 [o1 2 (.mv (.c (.slice none 0 0)))] .ret) .skip)) (sr1 [o1 5 (.bsl 4 274 []),m1 6 0,o1 7 (.cln 4 32 274 (.t 5) (.t 6)),m1 2 7] .ret)))
def r208:List RV:=[.tmp 2]
theorem n208:Tryz.f208.ntmps=8:=by kernel_rfl
theorem b208:ZV Tryz.prog 208=true:=by kernel_rfl
theorem ZtJ:YA Tryz.prog c208 ((Tryz.f208.body).getD .skip)=true:=by kernel_rfl
theorem ZtD:YQ Tryz.prog r208 Tryz.f208.results.toList=true:=by kernel_rfl
theorem m208 {n0:Nat} {hp0:List (Nat × HB)} {args:List SV} {Zw:Ot->Prop} (hh:hpb n0 hp0) (hx:∀ o,Zw o->KX o.res/\KXP o.hp) (h:sx Tryz.prog Y0 n0 c208 ⟨YD 0 args,hp0,n0,8,[]⟩ (Xs r208 λo=>∃ o',Zw o'/\XV n0 o o')) (hA:Nat.ble args.length 8=true:=by rfl):CtM Tryz.prog 208 hp0 n0 args Zw:=Zv Tryz.func208 rfl b208 ZtJ ZtD n208 (Nat.le_of_ble_eq_true hA) hh hx h
def c209:SC:=(.reg [m1 4 0,m1 5 0,o1 6 (Jl 5),m1 7 1,o1 8 (.callm 248 [.t 4,.t 6,.t 7])])
def r209:List RV:=[]
theorem n209:Tryz.f209.ntmps=9:=by kernel_rfl
theorem b209:ZV Tryz.prog 209=true:=by kernel_rfl
theorem ZrZ:YA Tryz.prog c209 ((Tryz.f209.body).getD .skip)=true:=by kernel_rfl
theorem ZwB:YQ Tryz.prog r209 Tryz.f209.results.toList=true:=by kernel_rfl
theorem m209 {n0:Nat} {hp0:List (Nat × HB)} {args:List SV} {Zw:Ot->Prop} (hh:hpb n0 hp0) (hx:∀ o,Zw o->KX o.res/\KXP o.hp) (h:sx Tryz.prog Y0 n0 c209 ⟨YD 0 args,hp0,n0,9,[]⟩ (Xs r209 λo=>∃ o',Zw o'/\XV n0 o o')) (hA:Nat.ble args.length 9=true:=by rfl):CtM Tryz.prog 209 hp0 n0 args Zw:=Zv Tryz.func209 rfl b209 ZrZ ZwB n209 (Nat.le_of_ble_eq_true hA) hh hx h
def c210:SC:=(sr1 [o1 2 (Jz 0 0 274),o1 3 (Jz 1 0 274),Jk 4 0] (sr1 [o1 5 (ao 2 2),o1 6 (lf 5 1),o1 7 (ao 3 2),o1 8 (lf 7 1),o1 9 (J2 211 6 8),m1 4 9] .ret))
def r210:List RV:=[.tmp 4]
theorem t210:Qt1 Tryz.prog 210 c210 r210 10:=ZL Tryz.func210
def c212:SC:=(sr1 [o1 10 (.mv (.c (.slice none 0 0)))] (.scope (sr1 [o1 17 (.bsl 1 3 [cn 100061]),m1 18 0,o1 19 (.callm 250 [.t 17,.t 18]),m1 11 19] (.seq (sr1 [m1 20 1,o1 21 (Jl 20),Jk 22 0] (.block 0 (.loop (sr1 [o1 23 (Jb .lss 22 21)] (.seq (Ji 23
 .skip (.exit 0)) (.seq (.block 1 (sr1 [o1 24 (Jx 20 22 1),o1 25 (lf 24 1),m1 13 25] (.reg [m1 26 11,m1 27 13,o1 28 (Jx 26 27 1),Jv 28 (cn 0) 1]))) (.reg [o1 29 (Jc .add 22 1),m1 22 29]))))))) (.seq (.label 0) (.seq (sr1 [m1 30 2,o1 31 (Jl 30),Jk 32
 0] (.block 2 (.loop (sr1 [o1 33 (Jb .lss 32 31)] (.seq (Ji 33 .skip (.exit 2)) (.seq (.block 3 (sr1 [m1 34 32,m1 14 34] (.seq (.regd (Jr 24) [Jm 35 2,Jm 36 14,Jp 37 (Jx 35 36 4) [0,1],Jp 38 (ao 37 0) [2],Jp 39 (lf 38 1) [3],Jm 40 2,Jm 41 14,Jp 42 (Jx
 40 41 4) [5,6],Jp 43 (ao 42 1) [7],Jp 44 (lf 43 1) [8],Jp 45 (.build zv0 [(0,1,.t 39),(1,1,.t 44)]) [4,9],Jm 46 2,Jm 47 14,Jp 48 (Jx 46 47 4) [11,12],Jp 49 (ao 48 1) [13],Jp 50 (lf 49 1) [14],Jm 51 2,Jm 52 14,Jp 53 (Jx 51 52 4) [16,17],Jp 54 (ao 53
 0) [18],Jp 55 (lf 54 1) [19],Jp 56 (.build zv0 [(0,1,.t 50),(1,1,.t 55)]) [15,20],Jp 57 (.build zv7 [(0,2,.t 45),(2,2,.t 56)]) [10,21],.op (Jk 58 0)] 0 0 []) (.block 4 (.loop (sr1 [o1 59 (Jc .lss 58 2)] (.seq (Ji 59 .skip (.exit 4)) (.seq (.block 5
 (sr1 [o1 60 (.idx (.t 57) (.t 58) 2 2 true),o1 16 (.alloc zv0 172),Js 16 60 2] (.seq (sr1 [m1 61 2,m1 62 14,o1 63 (Jx 61 62 4),o1 64 (ao 63 2),o1 65 (lf 64 1),m1 66 4,o1 67 (Jb .gtr 65 66)] (Ji 67 (.exit 2) .skip)) (.seq (.regd (Jr 11) [Jm 68 11,Jo
 69 (.ixa (.t 16) (cn 0) 2 1),Jp 70 (lf 69 1) [1],Jp 71 (Jx 68 70 1) [0,2],Jp 72 (lf 71 1) [3],Jm 73 2,Jm 74 14,Jp 75 (Jx 73 74 4) [5,6],Jp 76 (ao 75 2) [7],Jp 77 (lf 76 1) [8],Jp 78 (Jb .leq 72 77) [4,9]] 0 0 []) (Ji 78 (.regd (Jr 18) [Jm 79 11,Jo 80
 (.ixa (.t 16) (cn 1) 2 1),Jp 81 (lf 80 1) [1],Jm 82 11,Jo 83 (.ixa (.t 16) (cn 1) 2 1),Jp 84 (lf 83 1) [4],Jp 85 (Jx 82 84 1) [3,5],Jp 86 (lf 85 1) [6],Jm 87 2,Jm 88 14,Jp 89 (Jx 87 88 4) [8,9],Jp 90 (ao 89 2) [10],Jp 91 (lf 90 1) [11],Jm 92 3,Jp 93
 (Jb .add 91 92) [12,13],Jp 94 (.mm false [.t 86,.t 93]) [7,14],Jp 95 (Jx 79 81 1) (Jr 16)] 0 1 [Ju 95 94 1 (Jr 17)]) .skip))))) (.reg [o1 96 (Jc .add 58 1),m1 58 96]))))))))) (.reg [o1 97 (Jc .add 32 1),m1 32 97]))))))) (sr1 [m1 98 11,m1 10 98]
 .ret)))))))
def r212:List RV:=[.tmp 10]
theorem t212:Qt1 Tryz.prog 212 c212 r212 99:=ZL Tryz.func212
def c213:SC:=(sr1 [o1 4 (.mv (.c (.slice none 0 0)))] (sr1 [m1 8 0,m1 9 1,o1 10 (J2 247 8 9),m1 5 10] (.seq (sr1 [m1 11 5,o1 12 (.bin .eql (.t 11) (cn (-1)))] (Ji 12 (sr1 [m1 13 0,m1 4 13] .ret) .skip)) (.seq (sr1 [m1 14 5,o1 15 (Jc .add 14 1),m1 6
 15] (.block 0 (.loop (.seq (sr1 [m1 16 6,m1 17 0,o1 18 (Jl 17),o1 19 (Jb .lss 16 18)] (Ji 19 .skip (.exit 0))) (.seq (.block 1 (sr1 [m1 22 0,m1 23 6,o1 24 (Jx 22 23 4),o1 25 (lt 24 4),o1 7 (.alloc zv12 274),Js 7 25 4] (sr1 [m1 26 1,o1 27 (lt 7 4),o1
 28 (.calv (.t 26) [.t 27]),o1 29 (Jh 28)] (Ji 29 (sr1 [m1 30 0,m1 31 5,o1 32 (lt 7 4),o1 33 (Jx 30 31 4),Js 33 32 4] (.reg [m1 34 5,o1 35 (Jc .add 34 1),m1 5 35])) .skip)))) (.reg [m1 20 6,o1 21 (Jc .add 20 1),m1 6 21])))))) (sr1 [m1 36 0,m1 37 5,o1
 38 (.sub 4 (.t 36) (some (.t 37)) none),⟨none,.raw (Go.Op.call { callee:=(Go.Callee.builtin Go.Builtin.clear),args:=#[(Go.Operand.tmp 38)],argTypes:=#[275] }) 0,none,[]⟩] (sr1 [m1 39 0,m1 40 5,o1 41 (.sub 4 (.t 39) none (some (.t 40))),m1 4 41]
 .ret))))))
def r213:List RV:=[.tmp 4]
theorem n213:Tryz.f213.ntmps=42:=by kernel_rfl
theorem b213:ZV Tryz.prog 213=true:=by kernel_rfl
theorem ZrM:YA Tryz.prog c213 ((Tryz.f213.body).getD .skip)=true:=by kernel_rfl
theorem Zwu:YQ Tryz.prog r213 Tryz.f213.results.toList=true:=by kernel_rfl
theorem m213 {n0:Nat} {hp0:List (Nat × HB)} {args:List SV} {Zw:Ot->Prop} (hh:hpb n0 hp0) (hx:∀ o,Zw o->KX o.res/\KXP o.hp) (h:sx Tryz.prog Y0 n0 c213 ⟨YD 0 args,hp0,n0,42,[]⟩ (Xs r213 λo=>∃ o',Zw o'/\XV n0 o o')) (hA:Nat.ble args.length 42=true:=by rfl):CtM Tryz.prog 213 hp0 n0 args Zw:=Zv Tryz.func213 rfl b213 ZrM Zwu n213 (Nat.le_of_ble_eq_true hA) hh hx h
def c214:SC:=(sr1 [o1 1 (Jz 0 0 274),Jw 2 Jf] (sr1 [o1 3 (ao 1 3),o1 4 (lf 3 1),o1 5 (Jh 4),m1 2 5] .ret))
def r214:List RV:=[.tmp 2]
theorem t214:Qt1 Tryz.prog 214 c214 r214 6:=ZL Tryz.func214
def c247:SC:=(sr1 [Jk 4 0] (.seq (sr1 [m1 6 0,o1 7 (Jl 6),Jk 8 0] (.block 0 (.loop (sr1 [o1 9 (Jb .lss 8 7)] (.seq (Ji 9 .skip (.exit 0)) (.seq (.block 1 (sr1 [m1 10 8,m1 5 10] (sr1 [m1 11 1,m1 12 0,m1 13 5,o1 14 (Jx 12 13 4),o1 15 (lt 14 4),o1 16
 (.calv (.t 11) [.t 15])] (Ji 16 (sr1 [m1 17 5,m1 4 17] .ret) .skip)))) (.reg [o1 18 (Jc .add 8 1),m1 8 18]))))))) (sr1 [o1 4 (.mv (cn (-1)))] .ret)))
def r247:List RV:=[.tmp 4]
theorem t247:Qt1 Tryz.prog 247 c247 r247 19:=ZL Tryz.func247
def c248:SC:=(sr1 [Jk 6 20] (sr1 [m1 10 6,Jk 7 0,m1 8 10] (.seq (.block 0 (.loop (.seq (sr1 [m1 11 8,m1 12 1,o1 13 (Jb .leq 11 12)] (Ji 13 .skip (.exit 0))) (.block 1 (sr1 [m1 14 0,m1 15 7,m1 16 8,m1 17 2,o1 18 (.callm 267 [.t 14,.t 15,.t 16,.t 17])]
 (sr1 [m1 19 8,m1 7 19] (.reg [m1 20 8,m1 21 6,o1 22 (Jb .add 20 21),m1 8 22]))))))) (sr1 [m1 23 0,m1 24 7,m1 25 1,m1 26 2,o1 27 (.callm 267 [.t 23,.t 24,.t 25,.t 26])] (.block 2 (.loop (.seq (sr1 [m1 28 6,m1 29 1,o1 30 (Jb .lss 28 29)] (Ji 30 .skip
 (.exit 2))) (.block 3 (sr1 [m1 31 6,o1 32 (.bin .mul (cn 2) (.t 31)),Jk 7 0,m1 8 32] (.seq (.block 4 (.loop (.seq (sr1 [m1 33 8,m1 34 1,o1 35 (Jb .leq 33 34)] (Ji 35 .skip (.exit 4))) (.block 5 (sr1 [m1 36 0,m1 37 7,m1 38 7,m1 39 6,o1 40 (Jb .add 38
 39),m1 41 8,m1 42 2,o1 43 (.callm 268 [.t 36,.t 37,.t 40,.t 41,.t 42])] (sr1 [m1 44 8,m1 7 44] (.reg [m1 45 8,m1 46 6,o1 47 (.bin .mul (cn 2) (.t 46)),o1 48 (Jb .add 45 47),m1 8 48]))))))) (.seq (sr1 [m1 49 7,m1 50 6,o1 51 (Jb .add 49 50),m1 9 51]
 (sr1 [m1 52 9,m1 53 1,o1 54 (Jb .lss 52 53)] (Ji 54 (.reg [m1 55 0,m1 56 7,m1 57 9,m1 58 1,m1 59 2,o1 60 (.callm 268 [.t 55,.t 56,.t 57,.t 58,.t 59])]) .skip))) (.reg [m1 61 6,o1 62 (Jc .mul 61 2),m1 6 62]))))))))))))
def r248:List RV:=[]
theorem n248:Tryz.f248.ntmps=63:=by kernel_rfl
theorem b248:ZV Tryz.prog 248=true:=by kernel_rfl
theorem Zr7:YA Tryz.prog c248 ((Tryz.f248.body).getD .skip)=true:=by kernel_rfl
theorem Zwk:YQ Tryz.prog r248 Tryz.f248.results.toList=true:=by kernel_rfl
theorem m248 {n0:Nat} {hp0:List (Nat × HB)} {args:List SV} {Zw:Ot->Prop} (hh:hpb n0 hp0) (hx:∀ o,Zw o->KX o.res/\KXP o.hp) (h:sx Tryz.prog Y0 n0 c248 ⟨YD 0 args,hp0,n0,63,[]⟩ (Xs r248 λo=>∃ o',Zw o'/\XV n0 o o')) (hA:Nat.ble args.length 63=true:=by rfl):CtM Tryz.prog 248 hp0 n0 args Zw:=Zv Tryz.func248 rfl b248 Zr7 Zwk n248 (Nat.le_of_ble_eq_true hA) hh hx h
def c267:SC:=(sr1 [m1 10 1,o1 11 (Jc .add 10 1),m1 8 11] (.block 0 (.loop (.seq (sr1 [m1 12 8,m1 13 2,o1 14 (Jb .lss 12 13)] (Ji 14 .skip (.exit 0))) (.seq (.block 1 (sr1 [m1 17 8,m1 9 17] (.block 2 (.loop (.seq (.seq (.regd (Jr 17) [Jm 18 9,Jm 19
 1,Jp 20 (Jb .gtr 18 19) [0,1],Jp 21 (.mv (.t 20)) [2],Jq 22 21 true (.mv (.t 3)) [3],Jq 23 21 true (.mv (.t 0)) [3],Jq 24 21 true (.mv (.t 9)) [3],Jq 25 21 true (Jx 23 24 4) [3,5,6],Jq 26 21 true (lt 25 4) [3,7],Jq 27 21 true (.mv (.t 0)) [3],Jq 28
 21 true (.mv (.t 9)) [3],Jq 29 21 true (Jc .sub 28 1) [3,10],Jq 30 21 true (Jx 27 29 4) [3,9,11],Jq 31 21 true (lt 30 4) [3,12],Jq 32 21 true (.calv (.t 22) [.t 26,.t 31]) [3,4,8,13],Jq 33 21 true (Jc .lss 32 0) [3,14],Jp 34 (.pick (.t 21) (.t 33)
 Jf) [3,15]] 0 0 []) (Ji 34 .skip (.exit 2))) (.seq (.block 3 (.regd [0,1,5,6,7,8,9,10,11,12,13,14,2,3,4,15,16,17] [Jm 37 0,Jm 38 9,Jm 42 0,Jm 43 9,Jp 44 (Jc .sub 43 1) [6],Jp 45 (Jx 42 44 4) [5,7],Jp 46 (lt 45 4) [8],Jm 47 0,Jm 48 9,Jp 49 (Jx 47 48
 4) [10,11],Jp 50 (lt 49 4) [12],Jp 51 (Jx 37 38 4) [0,1,5,6,7,8,9,13],.hide (.t 51),Jm 39 0,Jm 40 9,Jp 41 (Jc .sub 40 1) [3]] 0 1 [Ju 51 46 4 [0,1,5,6,7,8,9,13,14],⟨some 52,Jx 39 41 4,none,(Jr 16)⟩,Ju 52 50 4 (Jr 17)])) (.reg [m1 35 9,o1 36 (Jc .sub
 35 1),m1 9 36]))))))) (.reg [m1 15 8,o1 16 (Jc .add 15 1),m1 8 16]))))))
def r267:List RV:=[]
theorem n267:Tryz.f267.ntmps=53:=by kernel_rfl
theorem b267:ZV Tryz.prog 267=true:=by kernel_rfl
theorem ZtS:YA Tryz.prog c267 ((Tryz.f267.body).getD .skip)=true:=by kernel_rfl
theorem Zr5:YQ Tryz.prog r267 Tryz.f267.results.toList=true:=by kernel_rfl
theorem m267 {n0:Nat} {hp0:List (Nat × HB)} {args:List SV} {Zw:Ot->Prop} (hh:hpb n0 hp0) (hx:∀ o,Zw o->KX o.res/\KXP o.hp) (h:sx Tryz.prog Y0 n0 c267 ⟨YD 0 args,hp0,n0,53,[]⟩ (Xs r267 λo=>∃ o',Zw o'/\XV n0 o o')) (hA:Nat.ble args.length 53=true:=by rfl):CtM Tryz.prog 267 hp0 n0 args Zw:=Zv Tryz.func267 rfl b267 ZtS Zr5 n267 (Nat.le_of_ble_eq_true hA) hh hx h
def c268:SC:=(.seq (sr1 [m1 25 2,m1 26 1,o1 27 (Jb .sub 25 26),o1 28 (Jc .eql 27 1)] (Ji 28 (sr1 [m1 29 2,m1 10 29] (sr1 [m1 30 3,m1 11 30] (.seq (.block 0 (.loop (.seq (sr1 [m1 31 10,m1 32 11,o1 33 (Jb .lss 31 32)] (Ji 33 .skip (.exit 0))) (.block 1
 (sr1 [m1 34 10,m1 35 11,o1 36 (Jb .add 34 35),o1 37 (.conv .u64 (.t 36)),o1 38 (.raw (Go.Op.binOp Go.BinOp.shr 360 (Go.Operand.tmp 37) (Go.Operand.const (Go.Value.int Go.IntKind.u64 1)) 360) 360),o1 39 (.conv .i64 (.t 38)),m1 12 39] (.seq (.regd (Jr
 11) [Jm 40 4,Jm 41 0,Jm 42 12,Jp 43 (Jx 41 42 4) [1,2],Jp 44 (lt 43 4) [3],Jm 45 0,Jm 46 1,Jp 47 (Jx 45 46 4) [5,6],Jp 48 (lt 47 4) [7],Jp 49 (.calv (.t 40) [.t 44,.t 48]) [0,4,8],Jp 50 (Jc .lss 49 0) [9]] 0 0 []) (Ji 50 (.reg [m1 51 12,o1 52 (Jc
 .add 51 1),m1 10 52]) (.reg [m1 53 12,m1 11 53])))))))) (.seq (sr1 [m1 54 1,m1 13 54] (.block 2 (.loop (.seq (sr1 [m1 55 13,m1 56 10,o1 57 (Jc .sub 56 1),o1 58 (Jb .lss 55 57)] (Ji 58 .skip (.exit 2))) (.seq (.block 3 (.regd
 [0,1,5,6,7,8,9,10,11,12,13,14,2,3,4,15,16,17] [Jm 61 0,Jm 62 13,Jm 66 0,Jm 67 13,Jp 68 (Jc .add 67 1) [6],Jp 69 (Jx 66 68 4) [5,7],Jp 70 (lt 69 4) [8],Jm 71 0,Jm 72 13,Jp 73 (Jx 71 72 4) [10,11],Jp 74 (lt 73 4) [12],Jp 75 (Jx 61 62 4)
 [0,1,5,6,7,8,9,13],.hide (.t 75),Jm 63 0,Jm 64 13,Jp 65 (Jc .add 64 1) [3]] 0 1 [Ju 75 70 4 [0,1,5,6,7,8,9,13,14],⟨some 76,Jx 63 65 4,none,(Jr 16)⟩,Ju 76 74 4 (Jr 17)])) (.reg [m1 59 13,o1 60 (Jc .add 59 1),m1 13 60])))))) .ret)))) .skip)) (.seq (sr1
 [m1 77 3,m1 78 2,o1 79 (Jb .sub 77 78),o1 80 (Jc .eql 79 1)] (Ji 80 (sr1 [m1 81 1,m1 14 81] (sr1 [m1 82 2,m1 15 82] (.seq (.block 4 (.loop (.seq (sr1 [m1 83 14,m1 84 15,o1 85 (Jb .lss 83 84)] (Ji 85 .skip (.exit 4))) (.block 5 (sr1 [m1 86 14,m1 87
 15,o1 88 (Jb .add 86 87),o1 89 (.conv .u64 (.t 88)),o1 90 (.raw (Go.Op.binOp Go.BinOp.shr 360 (Go.Operand.tmp 89) (Go.Operand.const (Go.Value.int Go.IntKind.u64 1)) 360) 360),o1 91 (.conv .i64 (.t 90)),m1 16 91] (.seq (.regd (Jr 12) [Jm 92 4,Jm 93
 0,Jm 94 2,Jp 95 (Jx 93 94 4) [1,2],Jp 96 (lt 95 4) [3],Jm 97 0,Jm 98 16,Jp 99 (Jx 97 98 4) [5,6],Jp 100 (lt 99 4) [7],Jp 101 (.calv (.t 92) [.t 96,.t 100]) [0,4,8],Jp 102 (Jc .lss 101 0) [9],Jp 103 (Jh 102) [10]] 0 0 []) (Ji 103 (.reg [m1 104 16,o1
 105 (Jc .add 104 1),m1 14 105]) (.reg [m1 106 16,m1 15 106])))))))) (.seq (sr1 [m1 107 2,m1 17 107] (.block 6 (.loop (.seq (sr1 [m1 108 17,m1 109 14,o1 110 (Jb .gtr 108 109)] (Ji 110 .skip (.exit 6))) (.seq (.block 7 (.regd
 [0,1,5,6,7,8,9,10,11,12,13,14,2,3,4,15,16,17] [Jm 113 0,Jm 114 17,Jm 118 0,Jm 119 17,Jp 120 (Jc .sub 119 1) [6],Jp 121 (Jx 118 120 4) [5,7],Jp 122 (lt 121 4) [8],Jm 123 0,Jm 124 17,Jp 125 (Jx 123 124 4) [10,11],Jp 126 (lt 125 4) [12],Jp 127 (Jx 113
 114 4) [0,1,5,6,7,8,9,13],.hide (.t 127),Jm 115 0,Jm 116 17,Jp 117 (Jc .sub 116 1) [3]] 0 1 [Ju 127 122 4 [0,1,5,6,7,8,9,13,14],⟨some 128,Jx 115 117 4,none,(Jr 16)⟩,Ju 128 126 4 (Jr 17)])) (.reg [m1 111 17,o1 112 (Jc .sub 111 1),m1 17 112]))))))
 .ret)))) .skip)) (sr1 [m1 129 1,m1 130 3,o1 131 (Jb .add 129 130),o1 132 (.conv .u64 (.t 131)),o1 133 (.raw (Go.Op.binOp Go.BinOp.shr 360 (Go.Operand.tmp 132) (Go.Operand.const (Go.Value.int Go.IntKind.u64 1)) 360) 360),o1 134 (.conv .i64 (.t
 133)),m1 18 134] (sr1 [m1 135 18,m1 136 2,o1 137 (Jb .add 135 136),m1 19 137] (sr1 [Jk 20 0,Jk 21 0] (.seq (sr1 [m1 138 2,m1 139 18,o1 140 (Jb .gtr 138 139)] (Ji 140 (sr1 [m1 141 19,m1 142 3,o1 143 (Jb .sub 141 142),m1 20 143] (.reg [m1 144 18,m1 21
 144])) (sr1 [m1 145 1,m1 20 145] (.reg [m1 146 2,m1 21 146])))) (sr1 [m1 147 19,o1 148 (Jc .sub 147 1),m1 22 148] (.seq (.block 8 (.loop (.seq (sr1 [m1 149 20,m1 150 21,o1 151 (Jb .lss 149 150)] (Ji 151 .skip (.exit 8))) (.block 9 (sr1 [m1 152 20,m1
 153 21,o1 154 (Jb .add 152 153),o1 155 (.conv .u64 (.t 154)),o1 156 (.raw (Go.Op.binOp Go.BinOp.shr 360 (Go.Operand.tmp 155) (Go.Operand.const (Go.Value.int Go.IntKind.u64 1)) 360) 360),o1 157 (.conv .i64 (.t 156)),m1 23 157] (.seq (.regd (Jr 14) [Jm
 158 4,Jm 159 0,Jm 160 22,Jm 161 23,Jp 162 (Jb .sub 160 161) [2,3],Jp 163 (Jx 159 162 4) [1,4],Jp 164 (lt 163 4) [5],Jm 165 0,Jm 166 23,Jp 167 (Jx 165 166 4) [7,8],Jp 168 (lt 167 4) [9],Jp 169 (.calv (.t 158) [.t 164,.t 168]) [0,6,10],Jp 170 (Jc .lss
 169 0) [11],Jp 171 (Jh 170) [12]] 0 0 []) (Ji 171 (.reg [m1 172 23,o1 173 (Jc .add 172 1),m1 20 173]) (.reg [m1 174 23,m1 21 174])))))))) (sr1 [m1 175 19,m1 176 20,o1 177 (Jb .sub 175 176),m1 24 177] (.seq (sr1 [m1 178 20,m1 179 2,o1 180 (Jb .lss 178
 179),m1 181 180,g1 182 181 true (.mv (.t 2)),g1 183 181 true (.mv (.t 24)),g1 184 181 true (Jb .lss 182 183),o1 185 (.pick (.t 181) (.t 184) Jf)] (Ji 185 (.reg [m1 186 0,m1 187 20,m1 188 2,m1 189 24,m1 190 4,o1 191 (.callm 280 [.t 186,.t 187,.t
 188,.t 189,.t 190])]) .skip)) (.seq (sr1 [m1 192 1,m1 193 20,o1 194 (Jb .lss 192 193),m1 195 194,g1 196 195 true (.mv (.t 20)),g1 197 195 true (.mv (.t 18)),g1 198 195 true (Jb .lss 196 197),o1 199 (.pick (.t 195) (.t 198) Jf)] (Ji 199 (.reg [m1 200
 0,m1 201 1,m1 202 20,m1 203 18,m1 204 4,o1 205 (.callm 268 [.t 200,.t 201,.t 202,.t 203,.t 204])]) .skip)) (sr1 [m1 206 18,m1 207 24,o1 208 (Jb .lss 206 207),m1 209 208,g1 210 209 true (.mv (.t 24)),g1 211 209 true (.mv (.t 3)),g1 212 209 true (Jb
 .lss 210 211),o1 213 (.pick (.t 209) (.t 212) Jf)] (Ji 213 (.reg [m1 214 0,m1 215 18,m1 216 24,m1 217 3,m1 218 4,o1 219 (.callm 268 [.t 214,.t 215,.t 216,.t 217,.t 218])]) .skip)))))))))))))
def r268:List RV:=[]
theorem n268:Tryz.f268.ntmps=220:=by kernel_rfl
theorem b268:ZV Tryz.prog 268=true:=by kernel_rfl
theorem ZvZ:YA Tryz.prog c268 ((Tryz.f268.body).getD .skip)=true:=by kernel_rfl
theorem Zux:YQ Tryz.prog r268 Tryz.f268.results.toList=true:=by kernel_rfl
theorem m268 {n0:Nat} {hp0:List (Nat × HB)} {args:List SV} {Zw:Ot->Prop} (hh:hpb n0 hp0) (hx:∀ o,Zw o->KX o.res/\KXP o.hp) (h:sx Tryz.prog Y0 n0 c268 ⟨YD 0 args,hp0,n0,220,[]⟩ (Xs r268 λo=>∃ o',Zw o'/\XV n0 o o')) (hA:Nat.ble args.length 220=true:=by rfl):CtM Tryz.prog 268 hp0 n0 args Zw:=Zv Tryz.func268 rfl b268 ZvZ Zux n268 (Nat.le_of_ble_eq_true hA) hh hx h
def c280:SC:=(sr1 [m1 12 2,m1 13 1,o1 14 (Jb .sub 12 13),m1 10 14] (sr1 [m1 15 3,m1 16 2,o1 17 (Jb .sub 15 16),m1 11 17] (.seq (.block 0 (.loop (.seq (sr1 [m1 18 10,m1 19 11,o1 20 (Jb .neq 18 19)] (Ji 20 .skip (.exit 0))) (.block 1 (sr1 [m1 21 10,m1
 22 11,o1 23 (Jb .gtr 21 22)] (Ji 23 (sr1 [m1 24 0,m1 25 2,m1 26 10,o1 27 (Jb .sub 25 26),m1 28 2,m1 29 11,m1 30 4,o1 31 (.callm 293 [.t 24,.t 27,.t 28,.t 29,.t 30])] (.reg [m1 32 10,m1 33 11,o1 34 (Jb .sub 32 33),m1 10 34])) (sr1 [m1 35 0,m1 36 2,m1
 37 10,o1 38 (Jb .sub 36 37),m1 39 2,m1 40 11,o1 41 (Jb .add 39 40),m1 42 10,o1 43 (Jb .sub 41 42),m1 44 10,m1 45 4,o1 46 (.callm 293 [.t 35,.t 38,.t 43,.t 44,.t 45])] (.reg [m1 47 11,m1 48 10,o1 49 (Jb .sub 47 48),m1 11 49])))))))) (.reg [m1 50 0,m1
 51 2,m1 52 10,o1 53 (Jb .sub 51 52),m1 54 2,m1 55 10,m1 56 4,o1 57 (.callm 293 [.t 50,.t 53,.t 54,.t 55,.t 56])]))))
def r280:List RV:=[]
theorem n280:Tryz.f280.ntmps=58:=by kernel_rfl
theorem b280:ZV Tryz.prog 280=true:=by kernel_rfl
theorem ZvD:YA Tryz.prog c280 ((Tryz.f280.body).getD .skip)=true:=by kernel_rfl
theorem ZuQ:YQ Tryz.prog r280 Tryz.f280.results.toList=true:=by kernel_rfl
theorem m280 {n0:Nat} {hp0:List (Nat × HB)} {args:List SV} {Zw:Ot->Prop} (hh:hpb n0 hp0) (hx:∀ o,Zw o->KX o.res/\KXP o.hp) (h:sx Tryz.prog Y0 n0 c280 ⟨YD 0 args,hp0,n0,58,[]⟩ (Xs r280 λo=>∃ o',Zw o'/\XV n0 o o')) (hA:Nat.ble args.length 58=true:=by rfl):CtM Tryz.prog 280 hp0 n0 args Zw:=Zv Tryz.func280 rfl b280 ZvD ZuQ n280 (Nat.le_of_ble_eq_true hA) hh hx h
def c293:SC:=(sr1 [Jk 10 0] (.block 0 (.loop (.seq (sr1 [m1 11 10,m1 12 3,o1 13 (Jb .lss 11 12)] (Ji 13 .skip (.exit 0))) (.seq (.block 1 (.regd [0,1,2,3,8,9,10,11,12,13,14,15,16,17,18,19,20,4,5,6,7,21,22,23] [Jm 16 0,Jm 17 1,Jm 18 10,Jp 19 (Jb .add
 17 18) [1,2],Jm 24 0,Jm 25 2,Jm 26 10,Jp 27 (Jb .add 25 26) [9,10],Jp 28 (Jx 24 27 4) [8,11],Jp 29 (lt 28 4) [12],Jm 30 0,Jm 31 1,Jm 32 10,Jp 33 (Jb .add 31 32) [15,16],Jp 34 (Jx 30 33 4) [14,17],Jp 35 (lt 34 4) [18],Jp 36 (Jx 16 19 4)
 [0,1,2,3,8,9,10,11,12,13,19],.hide (.t 36),Jm 20 0,Jm 21 2,Jm 22 10,Jp 23 (Jb .add 21 22) [5,6]] 0 1 [Ju 36 29 4 [0,1,2,3,8,9,10,11,12,13,19,20],⟨some 37,Jx 20 23 4,none,(Jr 22)⟩,Ju 37 35 4 (Jr 23)])) (.reg [m1 14 10,o1 15 (Jc .add 14 1),m1 10
 15]))))))
def r293:List RV:=[]
theorem n293:Tryz.f293.ntmps=38:=by kernel_rfl
theorem b293:ZV Tryz.prog 293=true:=by kernel_rfl
theorem Zub:YA Tryz.prog c293 ((Tryz.f293.body).getD .skip)=true:=by kernel_rfl
theorem Zt5:YQ Tryz.prog r293 Tryz.f293.results.toList=true:=by kernel_rfl
theorem m293 {n0:Nat} {hp0:List (Nat × HB)} {args:List SV} {Zw:Ot->Prop} (hh:hpb n0 hp0) (hx:∀ o,Zw o->KX o.res/\KXP o.hp) (h:sx Tryz.prog Y0 n0 c293 ⟨YD 0 args,hp0,n0,38,[]⟩ (Xs r293 λo=>∃ o',Zw o'/\XV n0 o o')) (hA:Nat.ble args.length 38=true:=by rfl):CtM Tryz.prog 293 hp0 n0 args Zw:=Zv Tryz.func293 rfl b293 Zub Zt5 n293 (Nat.le_of_ble_eq_true hA) hh hx h
def c211:SC:=(sr1 [Jk 4 0] (sr1 [m1 7 0,o1 8 (J1 249 7),m1 5 8] (sr1 [m1 9 1,o1 10 (J1 249 9),m1 6 10] (.seq (sr1 [m1 11 5] (Ji 11 (.seq (sr1 [m1 12 6] (Ji 12 (sr1 [Jk 4 0] .ret) .skip)) (sr1 [o1 4 (.mv (cn (-1)))] .ret)) .skip)) (.seq (sr1 [m1 13 6]
 (Ji 13 (sr1 [Jk 4 1] .ret) .skip)) (.seq (sr1 [m1 14 0,m1 15 1,o1 16 (Jb .lss 14 15)] (Ji 16 (sr1 [o1 4 (.mv (cn (-1)))] .ret) .skip)) (.seq (sr1 [m1 17 0,m1 18 1,o1 19 (Jb .gtr 17 18)] (Ji 19 (sr1 [Jk 4 1] .ret) .skip)) (sr1 [Jk 4 0] .ret))))))))
def r211:List RV:=[.tmp 4]
theorem t211:Qt1 Tryz.prog 211 c211 r211 20:=ZL Tryz.func211
def c249:SC:=(sr1 [Jw 2 Jf] (sr1 [m1 3 0,m1 4 0,o1 5 (Jb .neq 3 4),m1 2 5] .ret))
def r249:List RV:=[.tmp 2]
theorem t249:Qt1 Tryz.prog 249 c249 r249 6:=ZL Tryz.func249
def c250:SC:=(sr1 [o1 4 (.mv (.c (.slice none 0 0)))] (.seq (sr1 [m1 9 1,o1 10 (Jc .lss 9 0)] (Ji 10 (.reg [o1 11 (.raw (Go.Op.makeInterface 9 (Go.Operand.const (Go.Value.string { data:=#[99,97,110,110,111,116,32,98,101,32,110,101,103,97,116,105,118,101] })))
 20),⟨none,.raw (Go.Op.panic (Go.Operand.tmp 11)) 0,none,[]⟩]) .skip)) (sr1 [m1 13 0,o1 14 (Jl 13),o1 15 (.conv .u64 (.t 14)),m1 16 1,o1 17 (.conv .u64 (.t 16)),o1 18 (J2 269 15 17),m1 12 18,o1 19 (Je 12 0),o1 20 (Je 12 1),m1 5 19,m1 6 20] (.seq (sr1
 [m1 21 5,o1 22 (.bin .gtr (.t 21) (.c (.int .u64 0))),m1 23 22,g1 24 23 false (.mv (.t 6)),g1 25 23 false (.bin .gtr (.t 24) (.c (.int .u64 9223372036854775807))),o1 26 (.pick (.t 23) Jt (.t 25))] (Ji 26 (.reg [o1 27 (.raw (Go.Op.makeInterface 9
 (Go.Operand.const (Go.Value.string { data:=#[116,104,101,32,114,101,115,117,108,116,32,111,102,32,40,108,101,110,40,120,41,32,42,32,99,111,117,110,116,41,32,111,118,101,114,102,108,111,119,115] }))) 20),⟨none,.raw (Go.Op.panic (Go.Operand.tmp 27))
 0,none,[]⟩]) .skip)) (sr1 [m1 28 6,o1 29 (.conv .i64 (.t 28)),o1 30 (.mks 1 8 [.int .i64 0] 3 (.t 29)),m1 7 30] (sr1 [m1 31 7,m1 32 0,o1 33 (.cpy 1 (.t 31) (.t 32)),m1 8 33] (.seq (.block 0 (.loop (.seq (sr1 [m1 34 8,m1 35 7,o1 36 (Jl 35),o1 37 (Jb
 .lss 34 36)] (Ji 37 .skip (.exit 0))) (.block 1 (.regd [1,2,3,4,5,6,0,7,8,9] [Jm 39 7,Jm 40 8,Jp 41 (.sub 1 (.t 39) (some (.t 40)) none) [1,2],Jm 42 7,Jm 43 8,Jp 44 (.sub 1 (.t 42) none (some (.t 43))) [4,5],.hide (.t 41),Jm 38 8] 0 1 [⟨some 45,.cpy
 1 (.t 41) (.t 44),none,[3,6]⟩,⟨some 46,Jb .add 38 45,none,[0,7]⟩,⟨some 8,.mv (.t 46),none,(Jr 9)⟩]))))) (sr1 [m1 47 7,m1 4 47] .ret))))))))
def r250:List RV:=[.tmp 4]
theorem n250:Tryz.f250.ntmps=48:=by kernel_rfl
theorem b250:ZV Tryz.prog 250=true:=by kernel_rfl
theorem Zs8:YA Tryz.prog c250 ((Tryz.f250.body).getD .skip)=true:=by kernel_rfl
theorem ZvH:YQ Tryz.prog r250 Tryz.f250.results.toList=true:=by kernel_rfl
theorem m250 {n0:Nat} {hp0:List (Nat × HB)} {args:List SV} {Zw:Ot->Prop} (hh:hpb n0 hp0) (hx:∀ o,Zw o->KX o.res/\KXP o.hp) (h:sx Tryz.prog Y0 n0 c250 ⟨YD 0 args,hp0,n0,48,[]⟩ (Xs r250 λo=>∃ o',Zw o'/\XV n0 o o')) (hA:Nat.ble args.length 48=true:=by rfl):CtM Tryz.prog 250 hp0 n0 args Zw:=Zv Tryz.func250 rfl b250 Zs8 ZvH n250 (Nat.le_of_ble_eq_true hA) hh hx h
def c269:SC:=(sr1 [o1 4 (.mv (.c (.int .u64 0))),o1 5 (.mv (.c (.int .u64 0)))] (.seq (.cond Jf (sr1 [m1 11 0,o1 12 (.conv .u32 (.t 11)),m1 13 1,o1 14 (.conv .u32 (.t 13)),o1 15 (J2 281 12 14),m1 10 15,o1 16 (Je 10 0),o1 17 (Je 10 1),m1 6 16,m1 7 17]
 (sr1 [m1 18 6,o1 19 (.conv .u64 (.t 18)),m1 20 7,o1 21 (.conv .u64 (.t 20)),m1 4 19,m1 5 21] .ret)) .skip) (sr1 [m1 23 0,m1 24 1,o1 25 (J2 282 23 24),m1 22 25,o1 26 (Je 22 0),o1 27 (Je 22 1),m1 8 26,m1 9 27] (sr1 [m1 28 8,m1 29 9,m1 4 28,m1 5 29]
 .ret))))
def r269:List RV:=[.tmp 4,.tmp 5]
theorem t269:Qt1 Tryz.prog 269 c269 r269 30:=ZL Tryz.func269
def c282:SC:=(sr1 [o1 4 (.mv (.c (.int .u64 0))),o1 5 (.mv (.c (.int .u64 0)))] (sr1 [m1 14 0,o1 15 (.raw (Go.Op.binOp Go.BinOp.and 371 (Go.Operand.tmp 14) (Go.Operand.const (Go.Value.int Go.IntKind.u64 4294967295)) 371) 371),m1 6 15] (sr1 [m1 16 0,o1
 17 (.raw (Go.Op.binOp Go.BinOp.shr 371 (Go.Operand.tmp 16) (Go.Operand.const (Go.Value.int Go.IntKind.u64 32)) 360) 371),m1 7 17] (sr1 [m1 18 1,o1 19 (.raw (Go.Op.binOp Go.BinOp.and 371 (Go.Operand.tmp 18) (Go.Operand.const (Go.Value.int
 Go.IntKind.u64 4294967295)) 371) 371),m1 8 19] (sr1 [m1 20 1,o1 21 (.raw (Go.Op.binOp Go.BinOp.shr 371 (Go.Operand.tmp 20) (Go.Operand.const (Go.Value.int Go.IntKind.u64 32)) 360) 371),m1 9 21] (sr1 [m1 22 6,m1 23 8,o1 24 (Jb .mul 22 23),m1 10 24]
 (sr1 [m1 25 7,m1 26 8,o1 27 (Jb .mul 25 26),m1 28 10,o1 29 (.raw (Go.Op.binOp Go.BinOp.shr 371 (Go.Operand.tmp 28) (Go.Operand.const (Go.Value.int Go.IntKind.u64 32)) 360) 371),o1 30 (Jb .add 27 29),m1 11 30] (sr1 [m1 31 11,o1 32 (.raw (Go.Op.binOp
 Go.BinOp.and 371 (Go.Operand.tmp 31) (Go.Operand.const (Go.Value.int Go.IntKind.u64 4294967295)) 371) 371),m1 12 32] (sr1 [m1 33 11,o1 34 (.raw (Go.Op.binOp Go.BinOp.shr 371 (Go.Operand.tmp 33) (Go.Operand.const (Go.Value.int Go.IntKind.u64 32)) 360)
 371),m1 13 34] (sr1 [m1 35 12,m1 36 6,m1 37 9,o1 38 (Jb .mul 36 37),o1 39 (Jb .add 35 38),m1 12 39] (sr1 [m1 40 7,m1 41 9,o1 42 (Jb .mul 40 41),m1 43 13,o1 44 (Jb .add 42 43),m1 45 12,o1 46 (.raw (Go.Op.binOp Go.BinOp.shr 371 (Go.Operand.tmp 45)
 (Go.Operand.const (Go.Value.int Go.IntKind.u64 32)) 360) 371),o1 47 (Jb .add 44 46),m1 4 47] (sr1 [m1 48 0,m1 49 1,o1 50 (Jb .mul 48 49),m1 5 50] .ret))))))))))))
def r282:List RV:=[.tmp 4,.tmp 5]
theorem t282:Qt1 Tryz.prog 282 c282 r282 51:=ZL Tryz.func282
end Go.Proofs.YtkpkgafhfakpdaaGreatDoor
namespace Go.Azalai
section
variable {α : Type} (key:α->Int)
def ky (l:List α) (i:Nat):Int:=match l[i]? with | some x=>key x | none=>0
def swp (l:List α) (i j:Nat):List α:=match l[i]?,l[j]? with | some x,some y=>(l.set i y).set j x | _,_=>l
theorem Zbi {l:List α} {i j:Nat} (hi:i < l.length) (hj:j < l.length):swp l i j=(l.set i l[j]).set j l[i]:=by
 unfold swp;rw [List.getElem?_eq_getElem hi,List.getElem?_eq_getElem hj]
theorem Zu3 (l:List α) (i j:Nat):(swp l i j).length=l.length:=by unfold swp;split<;>simp
theorem Zea {l:List α} {i j:Nat} (hi:i < l.length) (hj:j < l.length) (p:Nat):(swp l i j)[p]? = if p=i then l[j]? else if p=j then l[i]? else l[p]?:=by
 rw [Zbi hi hj];by_cases h1:p=j
 . subst h1;by_cases h2:p=i
   . subst h2;simp [hi]
   . simp [h2,hi,hj]
 . rw [List.getElem?_set_ne (Ne.symm h1)];by_cases h2:p=i
   . subst h2;simp [hi,hj]
   . rw [List.getElem?_set_ne (Ne.symm h2),if_neg h2,if_neg h1]
theorem Zoh {l:List α} {i j:Nat} (hi:i < l.length) (hj:j < l.length):(swp l i j).Perm l:=by
 rw [Zbi hi hj];exact List.set_set_perm hi hj
theorem ZeY {l:List α} {i j:Nat} (hi:i < l.length) (hj:j < l.length) (p:Nat):ky key (swp l i j) p=if p=i then ky key l j else if p=j then ky key l i else ky key l p:=by
 unfold ky;rw [Zea hi hj];by_cases h1:p=i
 . simp only [if_pos h1]
 . by_cases h2:p=j
   . simp only [if_neg h1,if_pos h2]
   . simp only [if_neg h1,if_neg h2]
structure PIn (a b:Nat) (l l':List α):Prop where
 len:l'.length=l.length
 perm:l'.Perm l
 out:∀ i,i < a\/b<=i->l'[i]? = l[i]?
 all:∀ p:α->Prop,(∀ i x,a<=i->i < b->l[i]? = some x->p x)->∀ i x,a<=i->i < b->l'[i]? = some x->p x
theorem PIn.refl (a b:Nat) (l:List α):PIn a b l l:=⟨rfl,.refl _,λ_ _=>rfl,λ_ h=>h⟩
theorem PIn.trans {a b:Nat} {l l' l'':List α} (h:PIn a b l l') (h':PIn a b l' l''):PIn a b l l'' :=
 ⟨h'.len.trans h.len,h'.perm.trans h.perm,λi hi=>(h'.out i hi).trans (h.out i hi),λp hp=>h'.all p (h.all p hp)⟩
theorem PIn.mono {a b a' b':Nat} {l l':List α} (h:PIn a b l l') (ha:a'<=a) (hb:b<=b'):PIn a' b' l l':=by
 refine ⟨h.len,h.perm,λi hi=>h.out i (by omega),λp hp i x h1 h2 hx=>?_⟩;by_cases hi:a<=i/\i < b
 . exact h.all p (λi x q1 q2=>hp i x (by omega) (by omega)) i x hi.1 hi.2 hx
 . rw [h.out i (by omega)] at hx;exact hp i x h1 h2 hx
theorem PIn.swap {a b i j:Nat} {l:List α} (hi:a<=i) (hi':i < b) (hj:a<=j) (hj':j < b) (hb:b<=l.length):PIn a b l (swp l i j):=by
 have h1:i < l.length:=by omega
 have h2:j < l.length:=by omega
 refine ⟨Zu3 _ _ _,Zoh h1 h2,λp hp=>?_,λq hq p x g1 g2 hx=>?_⟩
 . rw [Zea h1 h2,if_neg (by omega),if_neg (by omega)]
 . rw [Zea h1 h2] at hx;split at hx
   . exact hq j x hj hj' hx
   . split at hx
     . exact hq i x hi hi' hx
     . exact hq p x g1 g2 hx
theorem PIn.ky {a b:Nat} {l l':List α} (h:PIn a b l l') {i:Nat} (hi:i < a\/b<=i):ky key l' i=ky key l i:=by unfold Go.Azalai.ky;rw [h.out i hi]
theorem PIn.kall {a b:Nat} {l l':List α} (h:PIn a b l l') (hb:b<=l.length) (p:Int->Prop) (hp:∀ i,a<=i->i < b->p (Go.Azalai.ky key l i)):∀ i,a<=i->i < b->p (Go.Azalai.ky key l' i):=λi h1 h2=>by
 have hl:i < l'.length:=by rw [h.len];omega
 have:=h.all (λx=>p (key x)) (λi x q1 q2 hx=>by have:=hp i q1 q2;unfold Go.Azalai.ky at this;rw [hx] at this;exact this) i l'[i] h1 h2 (List.getElem?_eq_getElem hl);unfold Go.Azalai.ky;rw [List.getElem?_eq_getElem hl];exact this
def Srt (a b:Nat) (l:List α):Prop:=∀ i j,a<=i->i < j->j < b->ky key l i<=ky key l j
theorem Srt.le {a b:Nat} {l:List α} (h:Srt key a b l) {i j:Nat} (h1:a<=i) (h2:i<=j) (h3:j < b):ky key l i<=ky key l j:=by
 rcases Nat.lt_or_ge i j with q | q
 . exact h i j h1 q h3
 . rw [show i=j from by omega];exact Int.le_refl _
theorem Srt.join {a c b:Nat} {l:List α} (h1:Srt key a c l) (h2:Srt key c b l) (h:∀ i j,a<=i->i < c->c<=j->j < b->ky key l i<=ky key l j):Srt key a b l:=λi j g1 g2 g3=>by
 by_cases hj:j < c
 . exact h1 i j g1 g2 hj
 . by_cases hi:i < c
   . exact h i j g1 hi (by omega) g3
   . exact h2 i j (by omega) g2 g3
structure Ins1 (a i j:Nat) (l:List α):Prop where
 up:∀ p q,a<=p->p < q->q<=i->p≠j->q≠j->ky key l p<=ky key l q
 lo:∀ q,j < q->q<=i->ky key l j<=ky key l q
theorem Zjg {a i:Nat} {l:List α} (h:Srt key a i l):Ins1 key a i i l:=⟨λp q h1 h2 h3 h4 h5=>h p q h1 h2 (by omega),λq h1 h2=>by omega⟩
theorem Zlz {a i j:Nat} {l:List α} (h:Ins1 key a i j l) (hj:a < j) (hji:j<=i) (hl:i < l.length) (hk:ky key l j < ky key l (j - 1)):Ins1 key a i (j - 1) (swp l j (j - 1)):=by
 have e:=ZeY key (l:=l) (i:=j) (j:=j - 1) (by omega) (by omega);refine ⟨λp q h1 h2 h3 h4 h5=>?_,λq h1 h2=>?_⟩
 . rw [e,e,if_neg (c:=p=j - 1) (by omega),if_neg (c:=q=j - 1) (by omega)];by_cases hp:p=j
   . subst hp;rw [if_pos rfl,if_neg (by omega)];exact h.up _ _ (by omega) (by omega) h3 (by omega) (by omega)
   . rw [if_neg hp];by_cases hq:q=j
     . subst hq;rw [if_pos rfl];exact h.up _ _ h1 (by omega) (by omega) (by omega) (by omega)
     . rw [if_neg hq];exact h.up _ _ h1 h2 h3 hp hq
 . rw [e,e,if_neg (c:=j - 1=j) (by omega),if_pos rfl];by_cases hq:q=j
   . subst hq;rw [if_pos rfl];omega
   . rw [if_neg hq,if_neg (by omega)];exact h.lo q (by omega) h2
theorem Zjd {a i j:Nat} {l:List α} (h:Ins1 key a i j l) (hji:j<=i) (hj:j<=a\/ky key l (j - 1)<=ky key l j):Srt key a (i+1) l:=λp q h1 h2 h3=>by
 by_cases hp:p=j
 . subst hp;exact h.lo q h2 (by omega)
 . by_cases hq:q=j
   . subst hq;rcases hj with hj | hj
     . omega
     . by_cases hp1:p=q - 1
       . rw [hp1];exact hj
       . have:=h.up p (q - 1) h1 (by omega) (by omega) hp (by omega);omega
   . exact h.up p q h1 h2 (by omega) hp hq
end
def swR (a b n:Nat) (K:Nat->Int):Nat->Int:=λp=>if a<=p/\p < a+n then K (p+b - a) else if b<=p/\p < b+n then K (p+a - b) else K p
def Za5 (a m b:Nat) (K:Nat->Int):Nat->Int:=λp=>if a<=p/\p < a+(b - m) then K (p+(m - a)) else if a+(b - m)<=p/\p < b then K (p - (b - m)) else K p
theorem swR_0 (a b:Nat) (K:Nat->Int) (p:Nat):swR a b 0 K p=K p:=by
 unfold swR;rw [if_neg (by omega),if_neg (by omega)]
theorem Zlq {a b n:Nat} {K:Nat->Int} (hab:a+n < b) (p:Nat):swR a b (n+1) K p=if p=a+n then swR a b n K (b+n) else if p=b+n then swR a b n K (a+n) else swR a b n K p:=by
 unfold swR;by_cases h1:p=a+n
 . subst h1;rw [if_pos (by omega),if_pos rfl,if_neg (by omega),if_neg (by omega)];congr 1;omega
 . rw [if_neg h1];by_cases h2:p=b+n
   . subst h2;rw [if_neg (by omega),if_pos (by omega),if_pos rfl,if_neg (by omega),if_neg (by omega)];congr 1;omega
   . rw [if_neg h2];by_cases h3:a<=p/\p < a+n
     . rw [if_pos (by omega),if_pos h3]
     . rw [if_neg (by omega),if_neg h3];by_cases h4:b<=p/\p < b+n
       . rw [if_pos (by omega),if_pos h4]
       . rw [if_neg (by omega),if_neg h4]
structure RotI (m i j:Nat) (K T:Nat->Int):Prop where
 out:∀ p,p < m - i\/m+j<=p->K p=T p
 x:∀ p,m - i<=p->p < m - i+j->T p=K (p+i)
 y:∀ p,m - i+j<=p->p < m+j->T p=K (p - j)
theorem Zkn {a m b:Nat} {K:Nat->Int} (h1:a<=m) (h2:m<=b):RotI m (m - a) (b - m) K (Za5 a m b K):=by
 have e:m - (m - a)=a:=by omega
 refine ⟨λp hp=>?_,λp q1 q2=>?_,λp q1 q2=>?_⟩<;>unfold Za5<;>rw [e] at *
 . rw [if_neg (by omega),if_neg (by omega)]
 . rw [if_pos (by omega)]
 . rw [if_neg (by omega),if_pos (by omega)]
theorem ZyC {m i j:Nat} {K T:Nat->Int} (h:RotI m i j K T) (hi:i<=m) (hj:0 < j) (hij:j < i):RotI m (i - j) j (swR (m - i) m j K) T:=by
 refine ⟨λp hp=>?_,λp q1 q2=>?_,λp q1 q2=>?_⟩<;>unfold swR
 . by_cases h1:m - i<=p/\p < m - i+j
   . rw [if_pos h1,h.x p h1.1 h1.2];congr 1;omega
   . rw [if_neg h1,if_neg (by omega)];exact h.out p (by omega)
 . rw [if_neg (by omega),if_pos (by omega),h.y p (by omega) (by omega)];congr 1;omega
 . rw [if_neg (by omega),if_neg (by omega),h.y p (by omega) (by omega)]
theorem ZxW {m i j:Nat} {K T:Nat->Int} (h:RotI m i j K T) (hi:i<=m) (hi0:0 < i) (hij:i < j):RotI m i (j - i) (swR (m - i) (m+j - i) i K) T:=by
 refine ⟨λp hp=>?_,λp q1 q2=>?_,λp q1 q2=>?_⟩<;>unfold swR
 . by_cases h1:m+j - i<=p/\p < m+j
   . rw [if_neg (by omega),if_pos (by omega),h.y p (by omega) (by omega)];congr 1;omega
   . rw [if_neg (by omega),if_neg (by omega)];exact h.out p (by omega)
 . rw [if_neg (by omega),if_neg (by omega)];exact h.x p (by omega) (by omega)
 . rw [if_pos (by omega),h.x p (by omega) (by omega)];congr 1;omega
theorem Zzp {m i:Nat} {K T:Nat->Int} (h:RotI m i i K T) (hi:i<=m) (p:Nat):swR (m - i) m i K p=T p:=by
 unfold swR;by_cases h1:m - i<=p/\p < m - i+i
 . rw [if_pos h1,h.x p h1.1 h1.2];congr 1;omega
 . by_cases h2:m<=p/\p < m+i
   . rw [if_neg h1,if_pos h2,h.y p (by omega) (by omega)];congr 1;omega
   . rw [if_neg h1,if_neg h2];exact h.out p (by omega)
def ZgQ (a b:Nat) (K:Nat->Int):Prop:=∀ i j,a<=i->i < j->j < b->K i<=K j
theorem ZgQ.le {a b:Nat} {K:Nat->Int} (h:ZgQ a b K) {i j:Nat} (h1:a<=i) (h2:i<=j) (h3:j < b):K i<=K j:=by
 rcases Nat.lt_or_ge i j with q | q
 . exact h i j h1 q h3
 . rw [show i=j from by omega];exact Int.le_refl _
structure Cut (a m b n s:Nat) (K:Nat->Int):Prop where
 s0:a<=s
 s1:s<=m
 e0:m+s<=n
 e1:n<=b+s
 mid:2 * (n - m)<=a+b/\a+b<=2 * (n - m)+1
 lo:a < s->n < b+s->K (s - 1)<=K (n - s)
 hi:s < m->m+s < n->K (n - s - 1)<=K s
theorem ZzR {a m b n s:Nat} {K:Nat->Int} (h:Cut a m b n s K) (h1:ZgQ a m K) (h2:ZgQ m b K) :
 ZgQ a s (Za5 s m (n - s) K)/\ZgQ s (n - m) (Za5 s m (n - s) K)/\ZgQ (n - m) (n - s) (Za5 s m (n - s) K)/\ZgQ (n - s) b (Za5 s m (n - s) K) /\
  ∀ i j,a<=i->i < n - m->n - m<=j->j < b->Za5 s m (n - s) K i<=Za5 s m (n - s) K j:=by
 obtain ⟨q1,q2,q3,q4,q5,q6,q7⟩:=h;have e:s+(n - s - m)=n - m:=by omega
 have v1:∀ p,p < s->Za5 s m (n - s) K p=K p:=λp hp=>by unfold Za5;rw [if_neg (by omega),if_neg (by omega)]
 have v2:∀ p,s<=p->p < n - m->Za5 s m (n - s) K p=K (p+(m - s)):=λp g1 g2=>by unfold Za5;rw [if_pos (by omega)]
 have v3:∀ p,n - m<=p->p < n - s->Za5 s m (n - s) K p=K (p - (n - s - m)):=λp g1 g2=>by unfold Za5;rw [if_neg (by omega),if_pos (by omega)]
 have v4:∀ p,n - s<=p->Za5 s m (n - s) K p=K p:=λp g1=>by unfold Za5;rw [if_neg (by omega),if_neg (by omega)]
 refine ⟨λi j g1 g2 g3=>?_,λi j g1 g2 g3=>?_,λi j g1 g2 g3=>?_,λi j g1 g2 g3=>?_,λi j g1 g2 g3 g4=>?_⟩
 . rw [v1 i (by omega),v1 j (by omega)];exact h1 i j g1 g2 (by omega)
 . rw [v2 i (by omega) (by omega),v2 j (by omega) (by omega)];exact h2 _ _ (by omega) (by omega) (by omega)
 . rw [v3 i (by omega) (by omega),v3 j (by omega) (by omega)];exact h1 _ _ (by omega) (by omega) (by omega)
 . rw [v4 i (by omega),v4 j (by omega)];exact h2 _ _ (by omega) g2 g3
 . by_cases hi:i < s
   . rw [v1 i hi];by_cases hj:j < n - s
     . rw [v3 j g3 hj];exact h1.le g1 (by omega) (by omega)
     . rw [v4 j (by omega)];exact Int.le_trans (h1.le g1 (j:=s - 1) (by omega) (by omega)) (Int.le_trans (q6 (by omega) (by omega)) (h2.le (i:=n - s) (by omega) (by omega) g4))
   . rw [v2 i (by omega) g2];by_cases hj:j < n - s
     . rw [v3 j g3 hj];exact Int.le_trans (h2.le (j:=n - s - 1) (by omega) (by omega) (by omega)) (Int.le_trans (q7 (by omega) (by omega)) (h1.le (i:=s) (by omega) (by omega) (by omega)))
     . rw [v4 j (by omega)];exact h2.le (by omega) (by omega) g4
structure Meet where
 a:Int
 b:Int
 day:Int
 close:Bool
deriving DecidableEq
end Go.Azalai
namespace Go.Proofs.YtkpkgafhfakpdaaGreatDoor.Cm
open Go Go.Sx Go.Azalai
def Zg (m:Meet):List SV:=[I m.a,I m.b,I m.day,B m.close]
def YW (v:Nat) (l:List Meet):Ot:=⟨false,.tup [],[(0,.row v 4 (l.map Zg) 274)],1⟩
theorem ZgT (v a b n:Nat) (l:List Meet) (hab:a+n<=b) (hb:b+n<=l.length) (hL:l.length < 4611686018427387904) :
 CtM Tryz.prog 293 [(0,.row v 4 (l.map Zg) 274)] 1 [.mr 0 v,I a,I b,I n,.cl 210 []] (λo=>∃ l',PIn a (b+n) l l'/\(∀ p,ky Meet.day l' p=swR a b n (ky Meet.day l) p)/\o=YW v l'):=by
 refine m293 (by simp [hpb]) (λo ho=>by obtain ⟨l',_,_,rfl⟩:=ho;simp [YW,KX,KXL,KXP,KXH,Za,KFL,KF,Zg]) ?_;dsimp only [c293,r293,go_sem];refine Yb (λs:Nat × List Meet=>[(10,I s.1)]) (λs=>[(0,.row v 4 (s.2.map Zg) 274)]) (λs=>s.1<=n/\PIn a (b+n) l s.2/\∀ p,ky Meet.day s.2 p=swR a b s.1 (ky Meet.day l) p) (λs=>n - s.1) (0,l) ⟨Nat.zero_le _,.refl _ _ _,λp=>(swR_0 _ _ _ _).symm⟩ ?_ ?_
 . (refine Zi ?_ ?_ ?_ rfl rfl<;>dsimp only [Zg,id,go_sem]<;>simp [Zg,Za])
 rintro ⟨j,l1⟩ ⟨hj,hp,hk⟩;simp only at hj hp hk;have hl1:=hp.len;dsimp only [go_sem];by_cases hlt:j < n
 . refine Zt (by simpa using hlt) ?_
   (repeat first | dsimp only [go_sem] | simp only [nbr])
   simp (disch:=omega) only [Zf,List.length_map];refine XC (b+j) (by omega) (by omega) ?_
   (repeat first | dsimp only [go_sem] | simp only [nbr])
   refine VX (by omega) ?_
   (repeat first | dsimp only [Zg,go_sem] | simp only [nbr])
   simp (disch:=omega) only [Zf,List.length_map];refine XC (a+j) (by omega) (by omega) ?_
   (repeat first | dsimp only [go_sem] | simp only [nbr])
   refine VX (by omega) ?_
   (repeat first | dsimp only [Zg,go_sem] | simp only [nbr])
   refine XC (a+j) (by omega) (by simp;omega) ?_
   (repeat first | dsimp only [go_sem] | simp only [nbr])
   refine Zc2 l1[b+j] (by omega) (by simp [Zg]) (by simp [Zg,Zq]) ?_
   (repeat first | dsimp only [go_sem] | simp only [nbr])
   refine XC (b+j) (Zf (by omega) (by omega)) (by simp;omega) ?_
   (repeat first | dsimp only [go_sem] | simp only [nbr])
   refine Zc2 l1[a+j] (by simp;omega) (by simp [Zg]) (by simp [Zg,Zq]) ?_;rw [<- Zbi (l:=l1) (i:=a+j) (j:=b+j) (by omega) (by omega)]
   (repeat first | dsimp only [go_sem] | simp only [nbr])
   rw [Zf (n:=(j:Int)+1) (by omega) (by omega)];refine ⟨(j+1,swp l1 (a+j) (b+j)),⟨hlt,hp.trans (.swap (by omega) (by omega) (by omega) (by omega) (by omega)),λp=>?_⟩,by simp only;omega,?_⟩
   . rw [ZeY Meet.day (by omega) (by omega),Zlq (by omega),hk,hk,hk]
   (refine Zi ?_ ?_ ?_ rfl rfl<;>dsimp only [Zg,id,go_sem]<;>simp [Zg,Za])
 refine Zn (by simp;omega) ?_;dsimp only [go_sem];refine ⟨_,⟨l1,hp,λp=>by rw [hk p,show j=n from by omega],rfl⟩,?_⟩;simp only [YW];(refine Zp ?_ ?_ ?_ rfl<;>dsimp only [Zg,id,go_sem]<;>simp [Zg,Za])
theorem Zrw (v a m b:Nat) (l:List Meet) (ham:a < m) (hmb:m < b) (hb:b<=l.length) (hL:l.length < 4611686018427387904) :
 CtM Tryz.prog 280 [(0,.row v 4 (l.map Zg) 274)] 1 [.mr 0 v,I a,I m,I b,.cl 210 []] (λo=>∃ l',PIn a b l l'/\(∀ p,ky Meet.day l' p=Za5 a m b (ky Meet.day l) p)/\o=YW v l'):=by
 refine m280 (by simp [hpb]) (λo ho=>by obtain ⟨l',_,_,rfl⟩:=ho;simp [YW,KX,KXL,KXP,KXH,Za,KFL,KF,Zg]) ?_;dsimp only [c280,r280,go_sem];rw [Zf (n:=(m:Int) - (a:Int)) (by omega) (by omega),Zf (n:=(b:Int) - (m:Int)) (by omega) (by omega),show (m:Int) - (a:Int)=((m - a:Nat):Int) from by omega,show (b:Int) - (m:Int)=((b - m:Nat):Int) from by omega];refine Yb (λs:Nat × Nat × List Meet=>[(10,I s.1),(11,I s.2.1)]) (λs=>[(0,.row v 4 (s.2.2.map Zg) 274)]) (λs=>(0 < s.1/\0 < s.2.1/\a+s.1<=m/\m+s.2.1<=b)/\PIn a b l s.2.2/\RotI m s.1 s.2.1 (ky Meet.day s.2.2) (Za5 a m b (ky Meet.day l))) (λs=>s.1+s.2.1) (m - a,b - m,l) ⟨by simp only;omega,.refl _ _ _,Zkn (by omega) (by omega)⟩ ?_ ?_
 . (refine Zi ?_ ?_ ?_ rfl rfl<;>dsimp only [Zg,id,go_sem]<;>simp [Zg,Za])
 rintro ⟨i,j,l1⟩ ⟨⟨hi0,hj0,hi,hj⟩,hp,hk⟩;simp only at hi0 hj0 hi hj hp hk;have hl1:=hp.len;dsimp only [go_sem];by_cases hij:i=j
 case pos =>
  subst hij;refine Zn (by simp) ?_;dsimp only [go_sem];rw [Zf (n:=(m:Int) - (i:Int)) (by omega) (by omega),show (m:Int) - (i:Int)=((m - i:Nat):Int) from by omega];refine Zl [0] (ZgT v (m - i) m i l1 (by omega) (by omega) (by omega)) rfl rfl rfl ?_ ?_ ?_
  . (repeat first | dsimp only [go_sem] | simp only [nbr])
    simp [mtL,mtB,mtS]
  . (repeat first | dsimp only [go_sem] | simp only [nbr])
    simp [Za,Zg,KFL,KF]
  rintro _ ⟨l2,hp2,hk2,rfl⟩
  (repeat first | dsimp only [YW,go_sem] | simp only [nbr])
  refine ⟨_,⟨l2,hp.trans (hp2.mono (by omega) (by omega)),λp=>by rw [hk2 p];exact Zzp hk (by omega) p,rfl⟩,?_⟩;(refine Zp ?_ ?_ ?_ rfl<;>dsimp only [Zg,id,go_sem]<;>simp [Zg,Za])
 refine Zt (by simp;omega) ?_;dsimp only [go_sem];by_cases hgt:j < i
 . refine Zt (by simp;omega) ?_;dsimp only [go_sem];rw [Zf (n:=(m:Int) - (i:Int)) (by omega) (by omega),show (m:Int) - (i:Int)=((m - i:Nat):Int) from by omega];refine Zl [0] (ZgT v (m - i) m j l1 (by omega) (by omega) (by omega)) rfl rfl rfl ?_ ?_ ?_
   . (repeat first | dsimp only [go_sem] | simp only [nbr])
     simp [mtL,mtB,mtS]
   . (repeat first | dsimp only [go_sem] | simp only [nbr])
     simp [Za,Zg,KFL,KF]
   rintro _ ⟨l2,hp2,hk2,rfl⟩
   (repeat first | dsimp only [YW,go_sem] | simp only [nbr])
   rw [Zf (n:=(i:Int) - (j:Int)) (by omega) (by omega),show (i:Int) - (j:Int)=((i - j:Nat):Int) from by omega];refine ⟨(i - j,j,l2),⟨by simp only;omega,hp.trans (hp2.mono (by omega) (by omega)),?_⟩,by simp only;omega,?_⟩
   . have:=ZyC hk (by omega) hj0 hgt
     rwa [<- show ky Meet.day l2=swR (m - i) m j (ky Meet.day l1) from funext hk2] at this
   (refine Zi ?_ ?_ ?_ rfl rfl<;>dsimp only [Zg,id,go_sem]<;>simp [Zg,Za])
 refine Zn (by simp;omega) ?_;dsimp only [go_sem];simp (disch:=omega) only [Zf];rw [show (m:Int) - (i:Int)=((m - i:Nat):Int) from by omega,show (m:Int)+(j:Int) - (i:Int)=((m+j - i:Nat):Int) from by omega];refine Zl [0] (ZgT v (m - i) (m+j - i) i l1 (by omega) (by omega) (by omega)) rfl rfl rfl ?_ ?_ ?_
 . (repeat first | dsimp only [go_sem] | simp only [nbr])
   simp [mtL,mtB,mtS]
 . (repeat first | dsimp only [go_sem] | simp only [nbr])
   simp [Za,Zg,KFL,KF]
 rintro _ ⟨l2,hp2,hk2,rfl⟩
 (repeat first | dsimp only [YW,go_sem] | simp only [nbr])
 rw [Zf (n:=(j:Int) - (i:Int)) (by omega) (by omega),show (j:Int) - (i:Int)=((j - i:Nat):Int) from by omega];refine ⟨(i,j - i,l2),⟨by simp only;omega,hp.trans (hp2.mono (by omega) (by omega)),?_⟩,by simp only;omega,?_⟩
 . have:=ZxW hk (by omega) hi0 (by omega)
   rwa [<- show ky Meet.day l2=swR (m - i) (m+j - i) i (ky Meet.day l1) from funext hk2] at this
 (refine Zi ?_ ?_ ?_ rfl rfl<;>dsimp only [Zg,id,go_sem]<;>simp [Zg,Za])
end Go.Proofs.YtkpkgafhfakpdaaGreatDoor.Cm
namespace Go.Azalai
theorem XF {α : Type} (key:α->Int) {l:List α} {i:Nat} (h:i < l.length):ky key l i=key l[i]:=by unfold ky;rw [List.getElem?_eq_getElem h]
def Zds (a b:Int):Int:=if a < b then -1 else if b < a then 1 else 0
end Go.Azalai
namespace Go.Proofs.YtkpkgafhfakpdaaGreatDoor.Cm
open Go Go.Sx Go.Azalai
theorem Zrt (a:Int):Ct Tryz.prog 249 [I a] (B false):=by
 refine t249.1 (by simp) (by simp) ?_;dsimp only [c249,r249,go_sem];simp
theorem ZxT (a b:Int):Ct Tryz.prog 211 [I a,I b] (I (Zds a b)):=by
 refine t211.1 (by simp) (by simp) ?_;dsimp only [c211,r211,go_sem];refine call (Zrt a) ?_;dsimp only [go_sem];refine call (Zrt b) ?_;dsimp only [go_sem];refine Zn rfl ?_;dsimp only [go_sem];refine Zn rfl ?_;dsimp only [go_sem];by_cases h1:a < b
 . refine Zt (by simpa using h1) ?_;dsimp only [go_sem];simp [Zds,h1]
 refine Zn (by simpa using h1) ?_;dsimp only [go_sem];by_cases h2:b < a
 . refine Zt (by simpa using h2) ?_;dsimp only [go_sem];simp [Zds,h1,h2]
 refine Zn (by simpa using h2) ?_;dsimp only [go_sem];simp [Zds,h1,h2]
theorem Ud (x y:Meet):Ct Tryz.prog 210 [.agg (Zg x),.agg (Zg y)] (I (Zds x.day y.day)):=by
 refine t210.1 (by simp [Zg]) (by simp) ?_;dsimp only [c210,r210,Zg,go_sem];refine call (ZxT x.day y.day) ?_;dsimp only [go_sem]
theorem Zj0 (v a b:Nat) (l:List Meet) (hab:a<=b) (hb:b<=l.length) (hL:l.length < 4611686018427387904) :
 CtM Tryz.prog 267 [(0,.row v 4 (l.map Zg) 274)] 1 [.mr 0 v,I a,I b,.cl 210 []] (λo=>∃ l',PIn a b l l'/\Srt Meet.day a b l'/\o=YW v l'):=by
 refine m267 (by simp [hpb]) (λo ho=>by obtain ⟨l',_,_,rfl⟩:=ho;simp [YW,KX,KXL,KXP,KXH,Za,KFL,KF,Zg]) ?_;dsimp only [c267,r267,go_sem];rw [Zf (n:=(a:Int)+1) (by omega) (by omega)];refine Yb (λs:Nat × List Meet=>[(8,I (s.1:Nat))]) (λs=>[(0,.row v 4 (s.2.map Zg) 274)]) (λs=>(a < s.1/\s.1<=max b (a+1))/\PIn a b l s.2/\Srt Meet.day a s.1 s.2) (λs=>b - s.1) (a+1,l) ⟨by simp only;omega,.refl _ _ _,λi j h1 h2 h3=>by simp only at h3;omega⟩ ?_ ?_
 . (refine Zi ?_ ?_ ?_ rfl rfl<;>dsimp only [Zg,id,go_sem]<;>simp [Zg,Za])
 rintro ⟨i,l1⟩ ⟨⟨hi0,hi⟩,hp,hs⟩;simp only at hi0 hi hp hs;have hl1:=hp.len;dsimp only [go_sem];by_cases hib:i < b
 case neg =>
  refine Zn (by simp;omega) ?_;dsimp only [go_sem];refine ⟨_,⟨l1,hp,λp q g1 g2 g3=>hs p q g1 g2 (by omega),rfl⟩,?_⟩;simp only [YW];(refine Zp ?_ ?_ ?_ rfl<;>dsimp only [Zg,id,go_sem]<;>simp [Zg,Za])
 refine Zt (by simpa using hib) ?_;dsimp only [go_sem];refine Yb (λs:Nat × List Meet=>[(9,I (s.1:Nat))]) (λs=>[(0,.row v 4 (s.2.map Zg) 274)]) (λs=>(a<=s.1/\s.1<=i)/\PIn a b l s.2/\Ins1 Meet.day a i s.1 s.2) (λs=>s.1) (i,l1) ⟨by simp only;omega,hp,Zjg Meet.day hs⟩ ?_ ?_
 . (refine Zi ?_ ?_ ?_ rfl rfl<;>dsimp only [Zg,id,go_sem]<;>simp [Zg,Za])
 rintro ⟨j,l2⟩ ⟨⟨hj0,hj⟩,hp2,hs2⟩;simp only at hj0 hj hp2 hs2;have hl2:=hp2.len;dsimp only [go_sem];by_cases hja:a < j
 case neg =>
  rw [show decide ((j:Int) > (a:Int))=false from by simp;omega];repeat (refine gb ?_;(repeat first | dsimp only [go_sem] | simp only [nbr]))
  refine Zrs 0 rfl (λh=>by cases h) ?_
  (repeat first | dsimp only [go_sem] | simp only [nbr])
  refine gb ?_
  (repeat first | dsimp only [go_sem] | simp only [nbr])
  refine ⟨Zg ⟨0,0,0,false⟩,Zqq rfl (λh=>by cases h),?_⟩
  (repeat first | dsimp only [Zg,go_sem] | simp only [nbr])
  repeat (refine gb ?_;(repeat first | dsimp only [go_sem] | simp only [nbr]))
  refine Zrs 0 rfl (λh=>by cases h) ?_
  (repeat first | dsimp only [go_sem] | simp only [nbr])
  refine gb ?_
  (repeat first | dsimp only [go_sem] | simp only [nbr])
  refine ⟨Zg ⟨0,0,0,false⟩,Zqq rfl (λh=>by cases h),?_⟩
  (repeat first | dsimp only [Zg,go_sem] | simp only [nbr])
  refine gb ?_
  (repeat first | dsimp only [go_sem] | simp only [nbr])
  refine call (Ud ⟨0,0,0,false⟩ ⟨0,0,0,false⟩) ?_
  (repeat first | dsimp only [go_sem] | simp only [nbr])
  refine gb ?_
  (repeat first | dsimp only [go_sem] | simp only [nbr])
  refine Zn rfl ?_
  (repeat first | dsimp only [go_sem] | simp only [nbr])
  rw [Zf (n:=(i:Int)+1) (by omega) (by omega)];refine ⟨(i+1,l2),⟨by simp only;omega,hp2,Zjd Meet.day hs2 hj (.inl (by omega))⟩,by simp only;omega,?_⟩;(refine Zi ?_ ?_ ?_ rfl rfl<;>dsimp only [Zg,id,go_sem]<;>simp [Zg,Za])
 rw [show decide ((j:Int) > (a:Int))=true from by simp;omega];repeat (refine .inl ⟨rfl,?_⟩;(repeat first | dsimp only [go_sem] | simp only [nbr]))
 refine XC j rfl (by simp;omega) ?_
 (repeat first | dsimp only [go_sem] | simp only [nbr])
 refine .inl ⟨rfl,?_⟩
 (repeat first | dsimp only [go_sem] | simp only [nbr])
 refine VX (by omega) ?_
 (repeat first | dsimp only [Zg,go_sem] | simp only [nbr])
 repeat (refine .inl ⟨rfl,?_⟩;(repeat first | dsimp only [go_sem] | simp only [nbr]))
 rw [Zf (n:=(j:Int) - 1) (by omega) (by omega)];refine XC (j - 1) (by omega) (by simp;omega) ?_
 (repeat first | dsimp only [go_sem] | simp only [nbr])
 refine .inl ⟨rfl,?_⟩
 (repeat first | dsimp only [go_sem] | simp only [nbr])
 refine VX (by omega) ?_
 (repeat first | dsimp only [Zg,go_sem] | simp only [nbr])
 repeat (refine .inl ⟨rfl,?_⟩;(repeat first | dsimp only [go_sem] | simp only [nbr]))
 refine call (Ud l2[j] l2[j - 1]) ?_
 (repeat first | dsimp only [go_sem] | simp only [nbr])
 repeat (refine .inl ⟨rfl,?_⟩;(repeat first | dsimp only [go_sem] | simp only [nbr]))
 by_cases hlt:l2[j].day < l2[j - 1].day
 case neg =>
  refine Zn (by simp [Zds,hlt];split<;>decide) ?_
  (repeat first | dsimp only [go_sem] | simp only [nbr])
  have hkk:ky Meet.day l2 (j - 1)<=ky Meet.day l2 j:=by rw [XF Meet.day (l:=l2) (i:=j - 1) (by omega),XF Meet.day (l:=l2) (i:=j) (by omega)];exact Int.not_lt.1 hlt
  rw [Zf (n:=(i:Int)+1) (by omega) (by omega)];refine ⟨(i+1,l2),⟨by simp only;omega,hp2,Zjd Meet.day hs2 hj (.inr hkk)⟩,by simp only;omega,?_⟩;(refine Zi ?_ ?_ ?_ rfl rfl<;>dsimp only [Zg,id,go_sem]<;>simp [Zg,Za])
 refine Zt (by simp [Zds,hlt]) ?_
 (repeat first | dsimp only [go_sem] | simp only [nbr])
 have hkk:ky Meet.day l2 j < ky Meet.day l2 (j - 1):=by rw [XF Meet.day (l:=l2) (i:=j - 1) (by omega),XF Meet.day (l:=l2) (i:=j) (by omega)];exact hlt
 rw [Zf (n:=(j:Int) - 1) (by omega) (by omega)];refine XC (j - 1) (by omega) (by simp;omega) ?_
 (repeat first | dsimp only [go_sem] | simp only [nbr])
 refine VX (by omega) ?_
 (repeat first | dsimp only [Zg,go_sem] | simp only [nbr])
 refine XC j rfl (by simp;omega) ?_
 (repeat first | dsimp only [go_sem] | simp only [nbr])
 refine VX (by omega) ?_
 (repeat first | dsimp only [Zg,go_sem] | simp only [nbr])
 refine XC j rfl (by simp;omega) ?_
 (repeat first | dsimp only [go_sem] | simp only [nbr])
 refine Zc2 l2[j - 1] (by omega) (by simp [Zg]) (by simp [Zg,Zq]) ?_
 (repeat first | dsimp only [go_sem] | simp only [nbr])
 refine XC (j - 1) (by first | omega | (rw [Zf (by omega) (by omega)];omega)) (by simp;omega) ?_
 (repeat first | dsimp only [go_sem] | simp only [nbr])
 refine Zc2 l2[j] (by simp;omega) (by simp [Zg]) (by simp [Zg,Zq]) ?_;rw [<- Zbi (l:=l2) (i:=j) (j:=j - 1) (by omega) (by omega)]
 (repeat first | dsimp only [go_sem] | simp only [nbr])
 try rw [Zf (n:=(j:Int) - 1) (by omega) (by omega)]
 rw [show (j:Int) - 1=((j - 1:Nat):Int) from by omega];refine ⟨(j - 1,swp l2 j (j - 1)),⟨by simp only;omega,hp2.trans (.swap (by omega) (by omega) (by omega) (by omega) (by omega)),Zlz Meet.day hs2 hja hj (by omega) hkk⟩,by simp only;omega,?_⟩;(refine Zi ?_ ?_ ?_ rfl rfl<;>dsimp only [Zg,id,go_sem]<;>simp [Zg,Za])
end Go.Proofs.YtkpkgafhfakpdaaGreatDoor.Cm
namespace Go.Azalai
structure Srch (p s0 r0 s r:Nat) (K:Nat->Int):Prop where
 lo:∀ c,s0<=c->c < s->K c<=K (p - c)
 hi:∀ c,r<=c->c < r0->K (p - c) < K c
theorem Zbf (p s0 r0:Nat) (K:Nat->Int):Srch p s0 r0 s0 r0 K:=⟨λc h1 h2=>by omega,λc h1 h2=>by omega⟩
theorem ZkB {a m b p s0 r0 s r c:Nat} {K:Nat->Int} (h:Srch p s0 r0 s r K) (h1:ZgQ a m K) (h2:ZgQ m b K) (ha:a<=s0) (hr:r0<=m) (hp:∀ c,s0<=c->c < r0->m<=p - c/\p - c < b) (hc:s<=c) (hcr:c < r) (hrr:r<=r0) (hk:K c<=K (p - c)) (hs:s0<=s):Srch p s0 r0 (c+1) r K:=by
 refine ⟨λc' g1 g2=>?_,h.hi⟩;have q1:=hp c' g1 (by omega);have q2:=hp c (by omega) (by omega);exact Int.le_trans (h1.le (by omega) (show c'<=c by omega) (by omega)) (Int.le_trans hk (h2.le (by omega) (by omega) (by omega)))
theorem ZcI {a m b p s0 r0 s r c:Nat} {K:Nat->Int} (h:Srch p s0 r0 s r K) (h1:ZgQ a m K) (h2:ZgQ m b K) (ha:a<=s0) (hr:r0<=m) (hp:∀ c,s0<=c->c < r0->m<=p - c/\p - c < b) (hc:s<=c) (hcr:c < r) (hrr:r<=r0) (hk:K (p - c) < K c) (hs:s0<=s):Srch p s0 r0 s c K:=by
 refine ⟨h.lo,λc' g1 g2=>?_⟩;have q1:=hp c' (by omega) g2;have q2:=hp c (by omega) (by omega);have e1:=h2.le (i:=p - c') (j:=p - c) (by omega) (by omega) (by omega);have e2:=h1.le (i:=c) (j:=c') (by omega) (by omega) (by omega);omega
theorem Zrp {a m b mid s:Nat} {K:Nat->Int} (ham:a < m) (hmb:m < b) (h1:2 * mid<=a+b) (h2:a+b<=2 * mid+1) (s0 r0:Nat) (hs0:s0=if m > mid then mid+m - b else a) (hr0:r0=if m > mid then mid else m)
 (hs:s0<=s) (hr:s<=r0) (h:Srch (mid+m - 1) s0 r0 s s K):Cut a m b (mid+m) s K:=by
 by_cases hm:m > mid
 . rw [if_pos hm] at hs0 hr0;subst hs0;subst hr0;refine ⟨by omega,by omega,by omega,by omega,by omega,λg1 g2=>?_,λg1 g2=>?_⟩
   . have:=h.lo (s - 1) (by omega) (by omega)
     rwa [show r0+m - 1 - (s - 1)=r0+m - s from by omega] at this
   . have:=h.hi s (Nat.le_refl _) (by omega);rw [show r0+m - 1 - s=r0+m - s - 1 from by omega] at this;exact Int.le_of_lt this
 . rw [if_neg hm] at hs0 hr0;subst hs0;subst hr0;refine ⟨by omega,by omega,by omega,by omega,by omega,λg1 g2=>?_,λg1 g2=>?_⟩
   . have:=h.lo (s - 1) (by omega) (by omega)
     rwa [show mid+r0 - 1 - (s - 1)=mid+r0 - s from by omega] at this
   . have:=h.hi s (Nat.le_refl _) (by omega);rw [show mid+r0 - 1 - s=mid+r0 - s - 1 from by omega] at this;exact Int.le_of_lt this
section
variable {α : Type} (key:α->Int)
structure Cutd (a i mid e b:Nat) (l:List α):Prop where
 o1:a<=i
 o2:i<=mid
 o3:mid<=e
 o4:e<=b
 s1:Srt key a i l
 s2:Srt key i mid l
 s3:Srt key mid e l
 s4:Srt key e b l
 x:∀ p q,a<=p->p < mid->mid<=q->q < b->ky key l p<=ky key l q
structure CutL (a mid e b:Nat) (l:List α):Prop where
 o1:a<=mid
 o3:mid<=e
 o4:e<=b
 s1:Srt key a mid l
 s3:Srt key mid e l
 s4:Srt key e b l
 x:∀ p q,a<=p->p < mid->mid<=q->q < b->ky key l p<=ky key l q
theorem ZbZ {a m b mid i:Nat} {l l1:List α} (h:Cut a m b (mid+m) i (ky key l)) (h1:Srt key a m l) (h2:Srt key m b l) (hk:∀ p,ky key l1 p=Za5 i m (mid+m - i) (ky key l) p):Cutd key a i mid (mid+m - i) b l1:=by
 have e:=ZzR h h1 h2;rw [show mid+m - m=mid from by omega] at e;obtain ⟨q0,q1,q2,q3,q4,q5,q6⟩:=h;have ek:ky key l1=Za5 i m (mid+m - i) (ky key l):=funext hk;refine ⟨by omega,by omega,by omega,by omega,?_,?_,?_,?_,?_⟩<;>(try unfold Srt)<;>rw [ek]
 . exact e.1
 . exact e.2.1
 . exact e.2.2.1
 . exact e.2.2.2.1
 . exact e.2.2.2.2
theorem Zhb {a m b mid i:Nat} {l:List α} (h:Cut a m b (mid+m) i (ky key l)) (h1:Srt key a m l) (h2:Srt key m b l) (hn:¬ (i < m/\m < mid+m - i)):Cutd key a i mid (mid+m - i) b l:=by
 refine ZbZ key h h1 h2 λp=>?_;obtain ⟨q0,q1,q2,q3,q4,q5,q6⟩:=h;unfold Za5;by_cases c1:i<=p/\p < i+(mid+m - i - m)
 . rw [if_pos c1];congr 1;omega
 . rw [if_neg c1];by_cases c2:i+(mid+m - i - m)<=p/\p < mid+m - i
   . rw [if_pos c2];congr 1;omega
   . rw [if_neg c2]
theorem UJ {a i mid e b:Nat} {l l2:List α} (h:Cutd key a i mid e b l) (hp:PIn a mid l l2) (hs:Srt key a mid l2) (hb:b<=l.length):CutL key a mid e b l2:=by
 obtain ⟨o1,o2,o3,o4,s1,s2,s3,s4,x⟩:=h;have ke:∀ q,mid<=q->ky key l2 q=ky key l q:=λq hq=>hp.ky key (.inr hq);refine ⟨by omega,o3,o4,hs,λp q g1 g2 g3=>?_,λp q g1 g2 g3=>?_,λp q g1 g2 g3 g4=>?_⟩
 . rw [ke p g1,ke q (by omega)];exact s3 p q g1 g2 g3
 . rw [ke p (by omega),ke q (by omega)];exact s4 p q g1 g2 g3
 . rw [ke q g3];exact hp.kall key (by omega) (λk=>k<=ky key l q) (λp q1 q2=>x p q q1 q2 g3 g4) p g1 g2
theorem Zch {a i mid e b:Nat} {l:List α} (h:Cutd key a i mid e b l) (hn:¬ (a < i/\i < mid)):CutL key a mid e b l:=by
 obtain ⟨o1,o2,o3,o4,s1,s2,s3,s4,x⟩:=h;refine ⟨by omega,o3,o4,λp q g1 g2 g3=>?_,s3,s4,x⟩;by_cases hq:a < i
 . exact s1 p q g1 g2 (by omega)
 . exact s2 p q (by omega) g2 g3
theorem WR {a mid e b:Nat} {l l2:List α} (h:CutL key a mid e b l) (hp:PIn mid b l l2) (hs:Srt key mid b l2) (hb:b<=l.length):Srt key a b l2:=by
 obtain ⟨o1,o3,o4,s1,s3,s4,x⟩:=h;have ke:∀ q,q < mid->ky key l2 q=ky key l q:=λq hq=>hp.ky key (.inl hq);refine Srt.join key (c:=mid) (λp q g1 g2 g3=>?_) hs (λp q g1 g2 g3 g4=>?_)
 . rw [ke p (by omega),ke q g3];exact s1 p q g1 g2 g3
 . rw [ke p g2];exact hp.kall key hb (λk=>ky key l p<=k) (λq q1 q2=>x p q g1 g2 q1 q2) q g3 g4
theorem Um {a mid e b:Nat} {l:List α} (h:CutL key a mid e b l) (hn:¬ (mid < e/\e < b)):Srt key a b l:=by
 obtain ⟨o1,o3,o4,s1,s3,s4,x⟩:=h;refine Srt.join key (c:=mid) s1 (λp q g1 g2 g3=>?_) x;by_cases hq:mid < e
 . exact s3 p q g1 g2 (by omega)
 . exact s4 p q (by omega) g2 g3
end
end Go.Azalai
