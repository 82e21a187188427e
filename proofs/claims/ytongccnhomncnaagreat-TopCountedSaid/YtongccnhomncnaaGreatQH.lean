/- Walks and plain laws that lead to the given statement, part 8 of 10. -/
import Derived.Test.YtongccnhomncnaaGreatQG
import Derived.Test.YtongccnhomncnaaGreatProg
import Derived.Lib.AppendZerosOnto
set_option maxRecDepth 100000
set_option maxHeartbeats 8000000
set_option linter.all false
open Nat renaming beq_refl->nbr
namespace Go.Azalai
open Go.Sx
structure Trek where
 days:Span
 east:Span
 north:Span
def ZcP (t:Trek):Bool:=ZX 0 60 t.days && (ZX (-100000) 100000 t.east && ZX (-100000) 100000 t.north)
def boxF (e n:Span):List Half:=[⟨1,0,e.hi⟩,⟨-1,0,w64 (0 - e.lo)⟩,⟨0,1,n.hi⟩,⟨0,-1,w64 (0 - n.lo)⟩]
def ZlN (h:Half):Bool:=(inR (-1000) 1000 h.a && inR (-1000) 1000 h.b) && ((h.a != 0 || h.b != 0) && inR (-100000000000) 100000000000 h.c)
end Go.Azalai
namespace Go.Proofs.YtongccnhomncnaaGreat
open Go Go.Sx Go.Azalai
def Zm (h:Half):List SV:=[I h.a,I h.b,I h.c]
def Zcf (c:WD):List SV:=[I c.1,I c.2.1,I c.2.2]
def Y7 (t:Trek):List SV:=[I t.days.lo,I t.days.hi,I t.east.lo,I t.east.hi,I t.north.lo,I t.north.hi]
theorem WN (a b:Int):Ct Tryz.prog 7 [I a,I b] (.agg [I a,I b]):=by
 refine t7.1 (by simp) (by simp) ?_;dsimp only [c7,r7,go_sem]
theorem Zi8 (lo hi x:Int):Ct Tryz.prog 141 [I x,.ps [I lo] 0,.ps [I hi] 0] (B (!inR lo hi x)):=by
 refine t141.1 (by simp) (by simp) ?_;dsimp only [c141,r141,go_sem];repeat (refine gb ?_;dsimp only [go_sem])
 (simp only [inR,Option.some.injEq,SV.v.injEq,Value.bool.injEq]<;>grind)
theorem ZdR (lo hi:Int) (l:List Int) (hl:l.length < 4611686018427387904) (c:Bool):Ct Tryz.prog 104 [I lo,I hi,.sl c 1 (l.map Zq)] (B (l.all (inR lo hi))):=by
 refine t104.1 (by simp [Za,Zq]) (by simp) ?_;dsimp only [c104,r104,go_sem];refine Vi (by simp [FLT]) (res:=B (l.any λx=>!inR lo hi x)) ?_ ?_
 . dsimp only [go_sem];exact Zpw 141 [.ps [I lo] 0,.ps [I hi] 0] (by simp) (λx=>!inR lo hi x) l (λx _=>Zi8 lo hi x) hl
 . dsimp only [go_sem];simp [List.all_eq_not_any_not]
theorem ZgJ (lo hi a:Int) (c:Bool):Ct Tryz.prog 104 [I lo,I hi,.sl c 1 [[I a]]] (B (inR lo hi a)):=by
 have:=ZdR lo hi [a] (by simp) c;simpa [Zq] using this
theorem Zkr (lo hi a b:Int) (c:Bool):Ct Tryz.prog 104 [I lo,I hi,.sl c 1 [[I a],[I b]]] (B (inR lo hi a && inR lo hi b)):=by
 have:=ZdR lo hi [a,b] (by simp) c;simpa [Zq] using this
theorem ZoN (lo hi:Int) (s:Span):Ct Tryz.prog 144 [.agg (Ze s),.ps [I lo] 0,.ps [I hi] 0] (B (ZX lo hi s)):=by
 refine t144.1 (by simp [Ze]) (by simp) ?_;dsimp only [c144,r144,Ze,go_sem];repeat (first | (refine gb ?_;dsimp only [go_sem]) | (refine call (Zkr _ _ _ _ _) ?_;dsimp only [go_sem]))
 (simp only [ZX,inR,Option.some.injEq,SV.v.injEq,Value.bool.injEq]<;>grind)
theorem Zfu (lo hi:Int) (s:Span):Ct Tryz.prog 166 [.agg (Ze s),.ps [.cl 144 [.ps [I lo] 0,.ps [I hi] 0]] 0] (B (!ZX lo hi s)):=by
 refine t166.1 (by simp [Ze]) (by simp) ?_;dsimp only [c166,r166,Ze,go_sem];refine call (ZoN lo hi s) ?_;dsimp only [go_sem]
theorem Zh8 (lo hi:Int) (l:List Span) (hl:l.length < 4611686018427387904) (c:Bool):Ct Tryz.prog 143 [.sl c 2 (l.map Ze),.cl 144 [.ps [I lo] 0,.ps [I hi] 0]] (B (l.all (ZX lo hi))):=by
 refine t143.1 (by simp [Za,Ze]) (by simp) ?_;dsimp only [c143,r143,go_sem];refine Vi (by simp [FLT]) (res:=B (l.any λx=>!ZX lo hi x)) ?_ ?_
 . dsimp only [go_sem];exact ZgD 166 [.ps [.cl 144 [.ps [I lo] 0,.ps [I hi] 0]] 0] (by simp) (λx=>!ZX lo hi x) l (λx _=>Zfu lo hi x) hl
 . dsimp only [go_sem];simp [List.all_eq_not_any_not]
theorem Zaw (lo hi:Int) (l:List Span) (hl:l.length < 4611686018427387904) (c:Bool):Ct Tryz.prog 107 [I lo,I hi,.sl c 2 (l.map Ze)] (B (l.all (ZX lo hi))):=by
 refine t107.1 (by simp [Za,Ze]) (by simp) ?_;dsimp only [c107,r107,go_sem];refine Vi (by simp [FLT]) (res:=B (l.all (ZX lo hi))) ?_ ?_
 . dsimp only [go_sem];exact Zh8 lo hi l hl c
 . dsimp only [go_sem]
theorem Zke (lo hi:Int) (s:Span) (c:Bool):Ct Tryz.prog 107 [I lo,I hi,.sl c 2 [[I s.lo,I s.hi]]] (B (ZX lo hi s)):=by
 have:=Zaw lo hi [s] (by simp) c;simpa [Ze] using this
theorem Zl0 (lo hi:Int) (s t:Span) (c:Bool):Ct Tryz.prog 107 [I lo,I hi,.sl c 2 [[I s.lo,I s.hi],[I t.lo,I t.hi]]] (B (ZX lo hi s && ZX lo hi t)):=by
 have:=Zaw lo hi [s,t] (by simp) c;simpa [Ze] using this
theorem Zlx (t:Trek):Ct Tryz.prog 67 [.agg (Y7 t)] (B (ZcP t)):=by
 refine t67.1 (by simp [Y7]) (by simp) ?_;dsimp only [c67,r67,Y7,go_sem];repeat (first | (refine gb ?_;dsimp only [go_sem]) | (refine call (Zke _ _ _ _) ?_;dsimp only [go_sem]) | (refine call (Zl0 _ _ _ _ _) ?_;dsimp only [go_sem]))
 rfl
theorem Zz8 (h:Nat) (caps:List SV) (hk:KFL caps) (g:Trek->Bool) (l:List Trek) (hg:∀ x ∈ l,Ct Tryz.prog h (.agg (Y7 x) :: caps) (B (g x))) (hl:l.length < 4611686018427387904) {c:Bool} :
 Ct Tryz.prog 142 [.sl c 6 (l.map Y7),.cl h caps] (I (Xv g l 0)):=by
 refine t142.1 ⟨by simp [KF,Za,KFL,Y7],hk,trivial⟩ (by simp [KF]) ?_;dsimp only [c142,r142,go_sem];refine YF (λk:Nat=>[(8,I k)]) (λ_=>[]) (λk=>k<=l.length/\Xv g (l.drop k) k=Xv g l 0) (λk=>l.length - k) 0 ⟨Nat.zero_le _,rfl⟩ ?_ ?_
 . (refine Zj ?_ ?_ ?_ rfl rfl<;>dsimp only [Y7,hk,id,go_sem]<;>simp [Y7,hk,Za])
 . intro k ⟨hk',hi⟩;dsimp only [go_sem];refine br ?_ ?_
   . intro hlt;have hlt:k < l.length:=by simpa using hlt
     dsimp only [go_sem];refine Zp k hlt rfl ?_;dsimp only [Y7,go_sem];refine call (hg l[k] (List.getElem_mem _)) ?_;dsimp only [go_sem];refine br ?_ ?_
     . intro hgx;dsimp only [go_sem];rw [<- hi,List.drop_eq_getElem_cons hlt];simp [Xv,hgx]
     . intro hgx;dsimp only [go_sem];refine ⟨k+1,⟨by omega,?_⟩,by omega,?_⟩
       . rw [<- hi,List.drop_eq_getElem_cons hlt];simp [Xv,hgx]
       . rw [Zg (by omega) (by omega)];(refine Zj ?_ ?_ ?_ rfl rfl<;>dsimp only [Y7,hk,id,go_sem]<;>simp [Y7,hk,Za])
   . intro hlt;have hlt:k=l.length:=by simp at hlt;omega
     dsimp only [go_sem];rw [<- hi,hlt];simp [Xv]
theorem ZAm (h:Nat) (caps:List SV) (hk:KFL caps) (g:Trek->Bool) (l:List Trek) (hg:∀ x ∈ l,Ct Tryz.prog h (.agg (Y7 x) :: caps) (B (g x))) (hl:l.length < 4611686018427387904) {c:Bool} :
 Ct Tryz.prog 105 [.sl c 6 (l.map Y7),.cl h caps] (B (l.any g)):=by
 refine t105.1 ⟨by simp [KF,Za,KFL,Y7],hk,trivial⟩ (by simp [KF]) ?_;dsimp only [c105,r105,go_sem];refine call (Zz8 h caps hk g l hg hl) ?_;dsimp only [go_sem];rw [XL]
theorem ZAr (h:Nat) (caps:List SV) (hk:KFL caps) (g:Half->Bool) (l:List Half) (hg:∀ x ∈ l,Ct Tryz.prog h (.agg (Zm x) :: caps) (B (g x))) (hl:l.length < 4611686018427387904) {c:Bool} :
 Ct Tryz.prog 168 [.sl c 3 (l.map Zm),.cl h caps] (I (Xv g l 0)):=by
 refine t168.1 ⟨by simp [KF,Za,KFL,Zm],hk,trivial⟩ (by simp [KF]) ?_;dsimp only [c168,r168,go_sem];refine YF (λk:Nat=>[(8,I k)]) (λ_=>[]) (λk=>k<=l.length/\Xv g (l.drop k) k=Xv g l 0) (λk=>l.length - k) 0 ⟨Nat.zero_le _,rfl⟩ ?_ ?_
 . (refine Zj ?_ ?_ ?_ rfl rfl<;>dsimp only [Zm,hk,id,go_sem]<;>simp [Zm,hk,Za])
 . intro k ⟨hk',hi⟩;dsimp only [go_sem];refine br ?_ ?_
   . intro hlt;have hlt:k < l.length:=by simpa using hlt
     dsimp only [go_sem];refine Zp k hlt rfl ?_;dsimp only [Zm,go_sem];refine call (hg l[k] (List.getElem_mem _)) ?_;dsimp only [go_sem];refine br ?_ ?_
     . intro hgx;dsimp only [go_sem];rw [<- hi,List.drop_eq_getElem_cons hlt];simp [Xv,hgx]
     . intro hgx;dsimp only [go_sem];refine ⟨k+1,⟨by omega,?_⟩,by omega,?_⟩
       . rw [<- hi,List.drop_eq_getElem_cons hlt];simp [Xv,hgx]
       . rw [Zg (by omega) (by omega)];(refine Zj ?_ ?_ ?_ rfl rfl<;>dsimp only [Zm,hk,id,go_sem]<;>simp [Zm,hk,Za])
   . intro hlt;have hlt:k=l.length:=by simp at hlt;omega
     dsimp only [go_sem];rw [<- hi,hlt];simp [Xv]
theorem Zzp (h:Nat) (caps:List SV) (hk:KFL caps) (g:Half->Bool) (l:List Half) (hg:∀ x ∈ l,Ct Tryz.prog h (.agg (Zm x) :: caps) (B (g x))) (hl:l.length < 4611686018427387904) {c:Bool} :
 Ct Tryz.prog 149 [.sl c 3 (l.map Zm),.cl h caps] (B (l.any g)):=by
 refine t149.1 ⟨by simp [KF,Za,KFL,Zm],hk,trivial⟩ (by simp [KF]) ?_;dsimp only [c149,r149,go_sem];refine call (ZAr h caps hk g l hg hl) ?_;dsimp only [go_sem];rw [XL]
theorem Ziu (t:Trek):Ct Tryz.prog 106 [.agg (Y7 t),.ps [.cl 67 []] 0] (B (!ZcP t)):=by
 refine t106.1 (by simp [Y7]) (by simp) ?_;dsimp only [c106,r106,Y7,go_sem];refine call (Zlx t) ?_;dsimp only [go_sem]
theorem Zi9 (l:List Trek) (hl:l.length < 4611686018427387904) (c:Bool):Ct Tryz.prog 66 [.sl c 6 (l.map Y7),.cl 67 []] (B (l.all ZcP)):=by
 refine t66.1 (by simp [Za,Y7]) (by simp) ?_;dsimp only [c66,r66,go_sem];refine Vi (by simp [FLT]) (res:=B (l.any λx=>!ZcP x)) ?_ ?_
 . dsimp only [go_sem];exact ZAm 106 [.ps [.cl 67 []] 0] (by simp) (λx=>!ZcP x) l (λx _=>Ziu x) hl
 . dsimp only [go_sem];simp [List.all_eq_not_any_not]
theorem Zii (f:Nat) (caps:List SV) (hk:KFL caps) (g:Half->Bool) (x:Half) (hc:Ct Tryz.prog f (.agg (Zm x) :: caps) (B (g x))):Ct Tryz.prog 150 [.agg (Zm x),.ps [.cl f caps] 0] (B (!g x)):=by
 refine t150.1 (by simp [KFL,KF,Zm,hk]) (by simp) ?_;dsimp only [c150,r150,Zm,go_sem];refine call hc ?_;dsimp only [go_sem]
theorem Zbh (f:Nat) (caps:List SV) (hk:KFL caps) (hv:∀ hp,Zb9 (vw1 hp) caps=caps) (g:Half->Bool) (l:List Half) (hc:∀ x ∈ l,Ct Tryz.prog f (.agg (Zm x) :: caps) (B (g x))) (hl:l.length < 4611686018427387904) (c:Bool):Ct Tryz.prog 112 [.sl c 3 (l.map Zm),.cl f caps] (B (l.all g)):=by
 refine t112.1 (by simp [KFL,KF,Za,Zm,hk]) (by simp) ?_;dsimp only [c112,r112,go_sem];refine Vi (by simp [FLT]) (res:=B (l.any λx=>!g x)) ?_ ?_
 . dsimp only [go_sem];rw [hv];exact Zzp 150 [.ps [.cl f caps] 0] (by simp [KFL,KF,hk]) (λx=>!g x) l (λx hx=>Zii f caps hk g x (hc x hx)) hl
 . dsimp only [go_sem];simp [List.all_eq_not_any_not]
theorem Zkc (p q:Half):Ct Tryz.prog 146 [.agg (Zm p),.agg (Zm q)] (.agg (Zcf (Wn p q))):=by
 refine t146.1 (by simp [Zm]) (by simp [Zcf]) ?_;dsimp only [c146,r146,Zm,go_sem];by_cases h:w64 (w64 (p.a * q.b) - w64 (q.a * p.b)) < 0
 . refine Zr (by simpa using h) ?_;dsimp only [go_sem];rw [Wn,if_pos h];rfl
 . refine Zo (by simpa using h) ?_;dsimp only [go_sem];rw [Wn,if_neg h];rfl
theorem Zz3 (c:WD) (h:Half):Ct Tryz.prog 147 [.agg (Zm h),.ps (Zcf c) 0] (B (inH c h)):=by
 refine t147.1 (by simp [Zm,Zcf]) (by simp) ?_;dsimp only [c147,r147,Zm,Zcf,go_sem];rfl
theorem ZsD (h:Half):Ct Tryz.prog 115 [.agg (Zm h)] (B (ZlN h)):=by
 refine t115.1 (by simp [Zm]) (by simp) ?_;dsimp only [c115,r115,Zm,go_sem];repeat (first | (refine gb ?_;dsimp only [go_sem]) | (refine call (Zkr _ _ _ _ _) ?_;dsimp only [go_sem]) | (refine call (ZgJ _ _ _ _) ?_;dsimp only [go_sem]))
 (simp only [ZlN,inR,Option.some.injEq,SV.v.injEq,Value.bool.injEq]<;>grind)
theorem Zws (h:Half):Ct Tryz.prog 113 [.agg (Zm h)] (B (inR (-100000000000) 100000000000 h.c)):=by
 refine t113.1 (by simp [Zm]) (by simp) ?_;dsimp only [c113,r113,Zm,go_sem];refine call (ZgJ _ _ _ _) ?_;dsimp only [go_sem]
theorem ZsT (e n:Span):Ct Tryz.prog 114 [.agg (Ze e),.agg (Ze n)] (.sl true 3 ((boxF e n).map Zm)):=by
 refine t114.1 (by simp [Ze]) (by simp [boxF,Zm,KFR]) ?_;dsimp only [c114,r114,Ze,go_sem];rfl
theorem Zkm (x y far:Int):Ct Tryz.prog 108 [I x,I y,I far] (.sl true 3 ((Vx x y far).map Zm)):=by
 refine t108.1 (by simp) (by simp [Vx,Zm,KFR]) ?_;dsimp only [c108,r108,go_sem];refine call (ZsT ⟨_,_⟩ ⟨_,_⟩) ?_;dsimp only [go_sem];rfl
def A0:List Half:=[⟨1,0,0⟩,⟨-1,0,0⟩,⟨0,1,0⟩,⟨0,-1,0⟩]
theorem Zlp:Ct Tryz.prog 35 [I 0,I 0] (.agg [.sl true 3 (A0.map Zm)]):=by
 refine t35.1 (by simp) (by simp [A0,Zm,KFR]) ?_;dsimp only [c35,r35,go_sem];rfl
theorem Zes:Ct Tryz.prog 71 [.agg [.sl true 3 (A0.map Zm)]] (I 0):=by
 refine t71.1 (by simp [A0,Zm,KFR]) (by simp) ?_;dsimp only [c71,r71,go_sem];refine call (ZgJ _ _ _ _) ?_;dsimp only [go_sem];refine Zo rfl ?_;dsimp only [go_sem];refine call (ZsT ⟨0,0⟩ ⟨0,0⟩) ?_;dsimp only [boxF,go_sem];refine ZY 5 ?_;dsimp only [Zb,go_sem];repeat (first | (refine Zo rfl ?_;dsimp only [go_sem]) | (refine Zr rfl ?_;dsimp only [go_sem]) | (refine ZR rfl ?_;dsimp only [go_sem]) | (refine ixs 0 _ rfl rfl ?_;dsimp only [Zm,A0,go_sem]) | (refine ixs 1 _ rfl rfl ?_;dsimp only [Zm,A0,go_sem]) | (refine ixs 2 _ rfl rfl ?_;dsimp only [Zm,A0,go_sem]) | (refine ixs 3 _ rfl rfl ?_;dsimp only [Zm,A0,go_sem]))
 refine call (Zbh 115 [] trivial (λ_=>rfl) ZlN A0 (λx _=>ZsD x) (by decide) true) ?_;dsimp only [go_sem];refine Zo rfl ?_;dsimp only [go_sem]
def ZBU:SC:=(sr1 [o1 8 (lf 1 1),o1 9 (Jl 8),Jk 10 0] (.block 0 (.loop (sr1 [o1 11 (Jb .lss 10 9)] (.seq (Ji 11 .skip (.exit 0)) (.seq (.block 1 (sr1 [m1 12 10,o1 13 (Jx 8 10 3),o1 14 (lt 13 3),o1 4 (.alloc zv4 103),m1 3 12,Js 4 14 3] (sr1 [o1 15 (lf 1
 1),m1 16 3,o1 17 (.sub 3 (.t 15) none (some (.t 16))),o1 18 (Jl 17),Jk 19 0] (.block 2 (.loop (sr1 [o1 20 (Jb .lss 19 18)] (.seq (Ji 20 .skip (.exit 2)) (.seq (.block 3 (sr1 [o1 21 (Jx 17 19 3),o1 22 (lt 21 3),o1 6 (.alloc zv4 103),Js 6 22 3] (sr1
 [o1 23 (lt 4 3),o1 24 (lt 6 3),o1 25 (J2 146 23 24),o1 7 (.alloc zv4 202),Js 7 25 3] (sr1 [o1 26 (ao 7 2),o1 27 (lf 26 1),o1 28 (Jc .neq 27 0),m1 29 28,g1 30 29 true (lf 1 1),g1 31 29 true (.mkf 147 [.t 7]),g1 32 29 true (J2 112 30 31),o1 33 (.pick
 (.t 29) (.t 32) Jf),m1 34 33,g1 35 34 true (.mv (.t 0)),g1 36 34 true (lt 7 3),g1 37 34 true (.calvm (.t 35) [.t 36]),g1 38 34 true (Jh 37),o1 39 (.pick (.t 34) (.t 38) Jf)] (Ji 39 .ret .skip))))) (.reg [o1 40 (Jc .add 19 1),m1 19 40]))))))))) (.reg
 [o1 41 (Jc .add 10 1),m1 10 41])))))))
def ZBV:List RV:=[]
theorem n145:Tryz.f145.ntmps=42:=by kernel_rfl
theorem b145:Yn Tryz.prog 145=true:=by kernel_rfl
theorem Zt0:Xi Tryz.prog ZBU ((Tryz.f145.body).getD .skip)=true:=by kernel_rfl
theorem Zva:XV Tryz.prog ZBV Tryz.f145.results.toList=true:=by kernel_rfl
theorem y145 {Y:Hd} {n0:Nat} {hp0:List (Nat × HB)} {args:List SV} {ZO:Ot->Prop} (h:sx Tryz.prog Y n0 ZBU ⟨Xx 0 args,hp0,n0,42,[]⟩ (Uk ZBV ZO)) (hA:Nat.ble args.length 42=true:=by rfl):CtY Tryz.prog Y 145 hp0 n0 args ZO:=WC Tryz.func145 rfl Zt0 Zva n145 (Nat.le_of_ble_eq_true hA) h
def c109:SC:=(sr1 [o1 1 (Jz 0 0 94),o1 2 (.mv (.c (.nilFunc)))] (sr1 [o1 3 (.mkf 145 [.t 1]),m1 2 3] .ret))
def r109:List RV:=[.tmp 2]
theorem n109:Tryz.f109.ntmps=4:=by kernel_rfl
theorem b109:Yn Tryz.prog 109=true:=by kernel_rfl
theorem ZxW:Xi Tryz.prog c109 ((Tryz.f109.body).getD .skip)=true:=by kernel_rfl
theorem ZtP:XV Tryz.prog r109 Tryz.f109.results.toList=true:=by kernel_rfl
theorem m109 {n0:Nat} {hp0:List (Nat × HB)} {args:List SV} {ZO:Ot->Prop} (hh:hpb n0 hp0) (hx:∀ o,ZO o->KX o.res/\KXP o.hp) (h:sx Tryz.prog Y0 n0 c109 ⟨Xx 0 args,hp0,n0,4,[]⟩ (Uk r109 λo=>∃ o',ZO o'/\Zbs n0 o o')) (hA:Nat.ble args.length 4=true:=by rfl):CtM Tryz.prog 109 hp0 n0 args ZO:=Yf Tryz.func109 rfl b109 ZxW ZtP n109 (Nat.le_of_ble_eq_true hA) hh hx h
def c69:SC:=(sr1 [o1 8 (.mv (.c (.int .u8 0)))] (.scope (sr1 [m1 14 1,m1 15 2,m1 16 3,o1 17 (J3 108 14 15 16),o1 9 (.alloc [.slice none 0 0] 94),Js 9 17 1] (.seq (sr1 [m1 18 0,o1 19 (lf 9 1),o1 20 (.bsl 1 94 [.t 18,.t 19]),o1 21 (J1 72 20),o1 22 (Jh
 21)] (Ji 22 (sr1 [o1 8 (.mv (.c (.int .u8 0)))] .ret) .skip)) (sr1 [o1 10 (.alloc [.int .u8 0] 5),Jv 10 (.c (.int .u8 2)) 1] (.seq (.label 0) (.seq (sr1 [m1 23 0,o1 24 (.callm 109 [.t 23])] (.block 0 (.gh (.rfun (.t 24) [25] (.reg [o1 11 (.alloc zv4
 202),Js 11 25 3]) (.block 1 (sr1 [o1 26 (lf 9 1),o1 27 (Jl 26),Jk 28 0] (.block 2 (.loop (sr1 [o1 29 (Jb .lss 28 27)] (.seq (Ji 29 .skip (.exit 2)) (.seq (.block 3 (sr1 [o1 30 (Jx 26 28 3),o1 31 (lt 30 3),o1 13 (.alloc zv4 103),Js 13 31 3] (sr1 [o1
 32 (ao 13 0),o1 33 (lf 32 1),o1 34 (ao 11 0),o1 35 (lf 34 1),o1 36 (Jb .mul 33 35),o1 37 (ao 13 1),o1 38 (lf 37 1),o1 39 (ao 11 1),o1 40 (lf 39 1),o1 41 (Jb .mul 38 40),o1 42 (Jb .add 36 41),o1 43 (ao 13 2),o1 44 (lf 43 1),o1 45 (ao 11 2),o1 46 (lf
 45 1),o1 47 (Jb .mul 44 46),o1 48 (Jb .gtr 42 47)] (Ji 48 (sr1 [Jv 10 (.c (.int .u8 1)) 1] (.exit 0)) .skip)))) (.reg [o1 49 (Jc .add 28 1),m1 28 49])))))))))))) (sr1 [o1 50 (lf 10 1),m1 8 50] .ret))))))))
def r69:List RV:=[.tmp 8]
theorem t69:Qt1 Tryz.prog 69 c69 r69 51:=ZH Tryz.func69
def c65:SC:=(sr1 [o1 4 (Jz 0 0 96),Jk 8 0] (.seq (sr1 [o1 10 (lt 4 1),o1 11 (J1 71 10),m1 9 11] (.block 0 (sr1 [m1 13 9,o1 14 (Jc .neq 13 0),m1 12 14] (Ji 12 (sr1 [m1 15 9,m1 8 15] .ret) (sr1 [m1 17 1,m1 18 2,o1 19 (.bsl 1 3 [.t 17,.t 18]),o1 20
 (.call 104 [.c (.int .i64 (-10000000)),cn 10000000,.t 19]),o1 21 (Jh 20),m1 22 21,g1 23 22 false (.mv (.t 3)),g1 24 22 false (.bsl 1 3 [.t 23]),g1 25 22 false (.call 104 [cn 0,cn 10000000,.t 24]),g1 26 22 false (Jh 25),o1 27 (.pick (.t 22) Jt (.t
 26)),m1 16 27] (Ji 16 (sr1 [Jk 8 2] .ret) (sr1 [o1 29 (ao 4 0),o1 30 (lf 29 1),o1 31 (.bsl 1 94 [.t 30]),o1 32 (J1 72 31),o1 33 (Jh 32),m1 28 33] (Ji 28 (sr1 [Jk 8 43] .ret) .skip)))))))) (sr1 [Jk 8 0] .ret)))
def r65:List RV:=[.tmp 8]
theorem t65:Qt1 Tryz.prog 65 c65 r65 34:=ZH Tryz.func65
def c34:SC:=(sr1 [o1 5 (Jz 0 0 96),o1 7 (Jz 2 0 3),o1 8 (Jz 3 0 3),o1 9 (Jz 4 0 3),Jk 10 0,Jk 11 0,Jk 12 0] (.seq (sr1 [o1 21 (lt 5 1),o1 22 (lf 7 1),o1 23 (lf 8 1),o1 24 (lf 9 1),o1 25 (J4 65 21 22 23 24),m1 13 25] (sr1 [m1 26 13,o1 27 (Jc .neq 26
 0)] (Ji 27 (sr1 [m1 28 13,Jk 10 0,Jk 11 0,m1 12 28] .ret) .skip))) (.seq (.block 0 (sr1 [m1 30 1,o1 31 (Jl 30),o1 32 (Jc .gtr 31 60),m1 29 32] (Ji 29 (sr1 [Jk 10 0,Jk 11 0,Jk 12 4] .ret) (sr1 [m1 34 1,o1 35 (.call 66 [.t 34,.f 67]),o1 36 (Jh 35),m1
 33 36] (Ji 33 (sr1 [Jk 10 0,Jk 11 0,Jk 12 42] .ret) .skip))))) (sr1 [o1 37 (ao 5 0),o1 38 (lf 37 1),o1 14 (.alloc [.slice none 0 0] 94),Js 14 38 1] (sr1 [o1 39 (.build zv4 [(1,1,.c (.int .i64 (-1))),(2,1,.c (.int .i64 (-1)))]),o1 15 (.alloc zv4
 157),Js 15 39 3] (sr1 [o1 40 (.mkf 68 [.t 14,.t 7,.t 8,.t 9,.t 15]),m1 16 40] (sr1 [m1 41 16,o1 42 (.calvm (.t 41) [cn 0])] (.seq (sr1 [m1 43 1,o1 44 (Jl 43),Jk 45 0] (.block 1 (.loop (sr1 [o1 46 (Jb .lss 45 44)] (.seq (Ji 46 .skip (.exit 1)) (.seq
 (.block 2 (sr1 [m1 47 45,o1 48 (Jx 43 45 6),o1 49 (lt 48 6),o1 18 (.alloc ZqK 91),m1 17 47,Js 18 49 6] (sr1 [o1 51 (lf 14 1),o1 52 (lt 18 6),o1 53 (J2 70 51 52),m1 50 53,o1 54 (Je 50 0),o1 55 (Je 50 1),m1 19 54,m1 20 55] (.seq (sr1 [m1 56 20,o1 57
 (Jh 56)] (Ji 57 (sr1 [Jk 10 0,Jk 11 0,Jk 12 9] .ret) .skip)) (sr1 [m1 58 19,Js 14 58 1] (.reg [m1 59 16,m1 60 17,o1 61 (Jc .add 60 1),o1 62 (.calvm (.t 59) [.t 61])])))))) (.reg [o1 63 (Jc .add 45 1),m1 45 63]))))))) (.seq (.regd (Jr 7) [Jo 64 (.ixa
 (.t 15) (cn 1) 3 1),Jp 65 (lf 64 1) [0],Jo 66 (.ixa (.t 15) (cn 2) 3 1),Jp 67 (lf 66 1) [2],Jp 10 (.mv (.t 65)) [0,1],Jp 11 (.mv (.t 67)) (Jr 5),Jp 12 (.mv (cn 0)) (Jr 6)] 0 0 []) .ret)))))))))
def r34:List RV:=[.tmp 10,.tmp 11,.tmp 12]
theorem t34:Qt1 Tryz.prog 34 c34 r34 68:=ZH Tryz.func34
def c68:SC:=(sr1 [o1 8 (lf 1 1),o1 9 (lf 2 1),o1 10 (lf 3 1),o1 11 (lf 4 1),o1 12 (J4 69 8 9 10 11),m1 7 12] (.block 0 (.loop (.seq (sr1 [m1 13 7,o1 14 (.bin .gtr (.t 13) (.c (.int .u8 0)))] (Ji 14 .skip (.exit 0))) (.seq (.block 1 (sr1 [m1 17 7,o1 18
 (.ixa (.t 5) (.t 17) 3 1),o1 19 (lf 18 1),o1 20 (Jc .lss 19 0)] (Ji 20 (.reg [m1 21 7,m1 22 0,o1 23 (.ixa (.t 5) (.t 21) 3 1),Js 23 22 1]) .skip))) (.reg [m1 15 7,o1 16 (.bin .sub (.t 15) (.c (.int .u8 1))),m1 7 16]))))))
def r68:List RV:=[]
theorem n68:Tryz.f68.ntmps=24:=by kernel_rfl
theorem b68:Yn Tryz.prog 68=true:=by kernel_rfl
theorem ZzG:Xi Tryz.prog c68 ((Tryz.f68.body).getD .skip)=true:=by kernel_rfl
theorem ZzK:XV Tryz.prog r68 Tryz.f68.results.toList=true:=by kernel_rfl
theorem m68 {n0:Nat} {hp0:List (Nat × HB)} {args:List SV} {ZO:Ot->Prop} (hh:hpb n0 hp0) (hx:∀ o,ZO o->KX o.res/\KXP o.hp) (h:sx Tryz.prog Y0 n0 c68 ⟨Xx 0 args,hp0,n0,24,[]⟩ (Uk r68 λo=>∃ o',ZO o'/\Zbs n0 o o')) (hA:Nat.ble args.length 24=true:=by rfl):CtM Tryz.prog 68 hp0 n0 args ZO:=Yf Tryz.func68 rfl b68 ZzG ZzK n68 (Nat.le_of_ble_eq_true hA) hh hx h
def c70:SC:=(sr1 [o1 3 (Jz 1 0 91),o1 4 (.mv (.c (.slice none 0 0))),Jw 5 Jf] (.seq (.regd (Jr 14) [Jo 11 (ao 3 0),Jp 12 (lt 11 2) [0],Jo 13 (ao 3 2),Jp 14 (lt 13 2) [2],Jp 15 (J2 110 12 14) [1,3],Jo 16 (ao 3 0),Jp 17 (lt 16 2) [5],Jo 18 (ao 3 4),Jp
 19 (lt 18 2) [7],Jp 20 (J2 110 17 19) [4,6,8]] 2 2 [o1 6 (.alloc zv0 27),o1 7 (.alloc zv0 27),Ju 6 15 2 [0,1,2,3,4,9,10,11],Ju 7 20 2 (Jr 13)]) (sr1 [m1 21 0,o1 22 (.callm 111 [.t 21]),m1 8 22] (.seq (sr1 [m1 23 8,o1 24 (Jl 23),Jk 25 0] (.block 0
 (.loop (sr1 [o1 26 (Jb .lss 25 24)] (.seq (Ji 26 .skip (.exit 0)) (.seq (.block 1 (sr1 [m1 27 25,m1 9 27] (sr1 [m1 28 8,m1 29 9,o1 30 (Jx 28 29 3),m1 10 30] (.regd (Jr 39) [Jm 31 10,Jp 32 (.nilc (.t 31)) [0],Jp 33 (ao 32 2) [1],Jp 34 (lf 33 1) [2],Jm
 35 10,Jp 36 (.nilc (.t 35)) [4],Jp 37 (ao 36 0) [5],Jp 38 (lf 37 1) [6],Jo 39 (ao 6 0),Jp 40 (lf 39 1) [8],Jp 41 (Jb .mul 38 40) [7,9],Jm 42 10,Jp 43 (.nilc (.t 42)) [11],Jp 44 (ao 43 0) [12],Jp 45 (lf 44 1) [13],Jo 46 (ao 6 1),Jp 47 (lf 46 1)
 [15],Jp 48 (Jb .mul 45 47) [14,16],Jp 49 (.mm true [.t 41,.t 48]) [10,17],Jm 50 10,Jp 51 (.nilc (.t 50)) [19],Jp 52 (ao 51 1) [20],Jp 53 (lf 52 1) [21],Jo 54 (ao 7 0),Jp 55 (lf 54 1) [23],Jp 56 (Jb .mul 53 55) [22,24],Jm 57 10,Jp 58 (.nilc (.t 57))
 [26],Jp 59 (ao 58 1) [27],Jp 60 (lf 59 1) [28],Jo 61 (ao 7 1),Jp 62 (lf 61 1) [30],Jp 63 (Jb .mul 60 62) [29,31],Jp 64 (.mm true [.t 56,.t 63]) [25,32],Jp 65 (Jb .add 49 64) [18,33],Jp 66 (Jb .add 34 65) [3,34],Jp 67 (.nilc (.t 31)) (Jr 36),Jp 68 (ao
 67 2) (Jr 37)] 0 1 [Ju 68 66 1 [0,1,2,3,4,5,6,7,8,9,10,11,12,13,14,15,16,17,18,19,20,21,22,23,24,25,26,27,28,29,30,31,32,33,34,35,37]])))) (.reg [o1 69 (Jc .add 25 1),m1 25 69]))))))) (sr1 [m1 70 8,m1 71 8,o1 72 (.call 112 [.t 71,.f 113]),m1 4 70,m1
 5 72] .ret)))))
def r70:List RV:=[.tmp 4,.tmp 5]
theorem t70:Qt1 Tryz.prog 70 c70 r70 73:=ZH Tryz.func70
def c36:SC:=(sr1 [o1 2 (Jz 0 0 96),o1 3 (Jz 1 0 91),o1 4 (.alloc [.slice none 0 0] 96),Jk 5 0] (.seq (sr1 [o1 9 (lt 2 1),o1 10 (J1 71 9),m1 6 10] (sr1 [m1 11 6,o1 12 (Jc .neq 11 0)] (Ji 12 (sr1 [o1 13 (.build [.slice none 0 0] []),m1 14 6,Js 4 13 1,m1
 5 14] .ret) .skip))) (.seq (sr1 [o1 15 (lt 3 6),o1 16 (J1 67 15),o1 17 (Jh 16)] (Ji 17 (sr1 [o1 18 (.build [.slice none 0 0] []),Js 4 18 1,Jk 5 42] .ret) .skip)) (sr1 [o1 20 (ao 2 0),o1 21 (lf 20 1),o1 22 (lt 3 6),o1 23 (J2 70 21 22),m1 19 23,o1 24
 (Je 19 0),o1 25 (Je 19 1),m1 7 24,m1 8 25] (.seq (.block 0 (sr1 [m1 27 8,o1 28 (Jh 27),m1 26 28] (Ji 26 (sr1 [o1 29 (.build [.slice none 0 0] []),Js 4 29 1,Jk 5 9] .ret) (sr1 [o1 31 (ao 2 0),o1 32 (lf 31 1),o1 33 (.bsl 1 94 [.t 32]),o1 34 (J1 72
 33),o1 35 (Jh 34),m1 30 35] (Ji 30 (sr1 [o1 36 (.build [.slice none 0 0] []),Js 4 36 1,Jk 5 43] .ret) .skip))))) (sr1 [m1 37 7,o1 38 (.build [.slice none 0 0] [(0,1,.t 37)]),Js 4 38 1,Jk 5 0] .ret))))))
def r36:List RV:=[.cell 4 1 true,.tmp 5]
theorem t36:Qt1 Tryz.prog 36 c36 r36 39:=ZH Tryz.func36
def c72:SC:=(sr1 [o1 2 (.alloc [.bool false] 4)] (.seq (sr1 [m1 3 0,o1 4 (J1 116 3),o1 5 (.callm 109 [.t 4])] (.block 0 (.gh (.rfun (.t 5) [6] .skip (.block 1 (sr1 [Jv 2 Jt 1] .ret)))))) (sr1 [Jv 2 Jf 1] .ret)))
def r72:List RV:=[.cell 2 1 false]
theorem t72:Qt1 Tryz.prog 72 c72 r72 7:=ZH Tryz.func72
def c116:SC:=(sr1 [o1 2 (.mv (.c (.slice none 0 0)))] (sr1 [Jk 3 0] (.seq (sr1 [m1 9 0,o1 10 (Jl 9),Jk 11 0] (.block 0 (.loop (sr1 [o1 12 (Jb .lss 11 10)] (.seq (Ji 12 .skip (.exit 0)) (.seq (.block 1 (sr1 [o1 13 (Jx 9 11 1),o1 14 (lf 13 1),m1 5 14]
 (sr1 [m1 15 3,m1 16 5,o1 17 (Jl 16),o1 18 (Jb .add 15 17),m1 3 18] (sr1 [m1 19 3,o1 20 (Jc .lss 19 0)] (Ji 20 (.reg [o1 21 (.raw (Go.Op.makeInterface 9 (Go.Operand.const (Go.Value.string { data:=#[108,101,110,32,111,117,116,32,111,102,32,114,97,110,103,101] })))
 20),⟨none,.raw (Go.Op.panic (Go.Operand.tmp 21)) 0,none,[]⟩]) .skip))))) (.reg [o1 22 (Jc .add 11 1),m1 11 22]))))))) (sr1 [m1 23 3,o1 24 (.callm 151 [.c (.slice none 0 0),.t 23]),m1 6 24] (.gh (.seq (sr1 [m1 25 0,o1 26 (Jl 25),Jk 27 0] (.block 2
 (.loop (sr1 [o1 28 (Jb .lss 27 26)] (.seq (Ji 28 .skip (.exit 2)) (.seq (.block 3 (sr1 [o1 29 (Jx 25 27 1),o1 30 (lf 29 1),m1 8 30] (.reg [m1 31 6,m1 32 8,o1 33 (.appm 3 24 103 (.t 31) (.t 32)),m1 6 33]))) (.reg [o1 34 (Jc .add 27 1),m1 27 34])))))))
 (sr1 [m1 35 6,m1 2 35] .ret)))))))
def r116:List RV:=[.tmp 2]
theorem t116:Qt1 Tryz.prog 116 c116 r116 36:=ZH Tryz.func116
def c151:SC:=(sr1 [o1 4 (.mv (.c (.slice none 0 0)))] (.seq (sr1 [m1 5 1,o1 6 (Jc .lss 5 0)] (Ji 6 (.reg [o1 7 (.raw (Go.Op.makeInterface 9 (Go.Operand.const (Go.Value.string { data:=#[99,97,110,110,111,116,32,98,101,32,110,101,103,97,116,105,118,101] })))
 20),⟨none,.raw (Go.Op.panic (Go.Operand.tmp 7)) 0,none,[]⟩]) .skip)) (.seq (sr1 [m1 8 1,m1 9 0,o1 10 (.raw (Go.Op.call { callee:=(Go.Callee.builtin Go.Builtin.cap),args:=#[(Go.Operand.tmp 9)],argTypes:=#[94] }) 3),m1 11 0,o1 12 (.raw (Go.Op.call { callee:=(Go.Callee.builtin Go.Builtin.len),args:=#[(Go.Operand.tmp 11)],argTypes:=#[94] })
 3),o1 13 (Jb .sub 10 12),o1 14 (Jb .sub 8 13),m1 1 14] (sr1 [m1 15 1,o1 16 (Jc .gtr 15 0)] (Ji 16 (.reg [m1 17 0,m1 18 0,o1 19 (.raw (Go.Op.call { callee:=(Go.Callee.builtin Go.Builtin.cap),args:=#[(Go.Operand.tmp 18)],argTypes:=#[94] }) 3),o1 20
 (.raw (Go.Op.slice 94 (Go.Operand.tmp 17) Option.none (Option.some (Go.Operand.tmp 19)) Option.none) 94),m1 21 1,o1 22 (.raw (Go.Op.call { callee:=(Go.Callee.builtin Go.Builtin.append),args:=#[(Go.Operand.tmp 20),(Go.Operand.tmp 21)],argTypes:=#[94,3] })
 94),m1 23 0,o1 24 (.raw (Go.Op.call { callee:=(Go.Callee.builtin Go.Builtin.len),args:=#[(Go.Operand.tmp 23)],argTypes:=#[94] }) 3),o1 25 (.raw (Go.Op.slice 94 (Go.Operand.tmp 22) Option.none (Option.some (Go.Operand.tmp 24)) Option.none) 94),m1 0
 25]) .skip))) (sr1 [m1 26 0,m1 4 26] .ret))))
def r151:List RV:=[.tmp 4]
theorem n151:Tryz.f151.ntmps=27:=by kernel_rfl
theorem b151:Yn Tryz.prog 151=true:=by kernel_rfl
theorem ZuE:Xi Tryz.prog c151 ((Tryz.f151.body).getD .skip)=true:=by kernel_rfl
theorem ZwD:XV Tryz.prog r151 Tryz.f151.results.toList=true:=by kernel_rfl
theorem m151 {n0:Nat} {hp0:List (Nat × HB)} {args:List SV} {ZO:Ot->Prop} (hh:hpb n0 hp0) (hx:∀ o,ZO o->KX o.res/\KXP o.hp) (h:sx Tryz.prog Y0 n0 c151 ⟨Xx 0 args,hp0,n0,27,[]⟩ (Uk r151 λo=>∃ o',ZO o'/\Zbs n0 o o')) (hA:Nat.ble args.length 27=true:=by rfl):CtM Tryz.prog 151 hp0 n0 args ZO:=Yf Tryz.func151 rfl b151 ZuE ZwD n151 (Nat.le_of_ble_eq_true hA) hh hx h
def c111:SC:=(sr1 [o1 2 (.mv (.c (.slice none 0 0)))] (.seq (sr1 [m1 3 0,o1 4 (.isn (.t 3))] (Ji 4 (sr1 [o1 2 (.mv (.c (.slice none 0 0)))] .ret) .skip)) (sr1 [o1 5 (.bsl 3 103 []),m1 6 0,o1 7 (.cln 3 24 103 (.t 5) (.t 6)),m1 2 7] .ret)))
def r111:List RV:=[.tmp 2]
theorem n111:Tryz.f111.ntmps=8:=by kernel_rfl
theorem b111:Yn Tryz.prog 111=true:=by kernel_rfl
theorem Zuw:Xi Tryz.prog c111 ((Tryz.f111.body).getD .skip)=true:=by kernel_rfl
theorem Zyp:XV Tryz.prog r111 Tryz.f111.results.toList=true:=by kernel_rfl
theorem m111 {n0:Nat} {hp0:List (Nat × HB)} {args:List SV} {ZO:Ot->Prop} (hh:hpb n0 hp0) (hx:∀ o,ZO o->KX o.res/\KXP o.hp) (h:sx Tryz.prog Y0 n0 c111 ⟨Xx 0 args,hp0,n0,8,[]⟩ (Uk r111 λo=>∃ o',ZO o'/\Zbs n0 o o')) (hA:Nat.ble args.length 8=true:=by rfl):CtM Tryz.prog 111 hp0 n0 args ZO:=Yf Tryz.func111 rfl b111 Zuw Zyp n111 (Nat.le_of_ble_eq_true hA) hh hx h
end Go.Proofs.YtongccnhomncnaaGreat
namespace Go.Sx
open Go Go.RowKit
section
variable {P:Program} {σ : St} {r:KT} {K:RK} {T t ty:TypeId} {m:Nat}
theorem Zgo {ax:Operand} {d:Option Nat} (hx:Ug σ ax = .v (.slice none 0 0)) (ht:P.underlying t=some (.slice T)) (h:Yq d (.v (.int .i64 0)) none σ r K) :
 RAW P d (.call ⟨.builtin .cap,#[ax],#[t]⟩) ty σ r K:=by
 intro o C E a w next Q e1 e2 e3 hS hn hq;have hxv:=XO hS hx (λ_ _ _=>by simp);simp only [R] at hxv;have hrun:(Builtin.cap_ #[t] ty #[a.eval ax]).run P w = .ok (.int .i64 0) w:=by
  rw [hxv];simp [Builtin.cap_,Sem.run_bind,run_underlying ht,goInt]
 have hx:(execOp a.eval o).run P w = .ok (.value (.int .i64 0)) w:=by
  obtain ⟨dst',op',ty',pos,after,guard⟩:=o;simp only at e2 e3;subst e2;subst e3;simp [execOp,resolve,invoke,builtin,hrun]
 refine Zy hx (by simp) ?_;show next (a.put o.dst _) _;rw [e1];exact XF h hS (by simp only [R]) hn
theorem Zgq {ax:Operand} {d:Option Nat} (hx:Ug σ ax = .v (.slice none 0 0)) (ht:P.underlying t=some (.slice T)) (h:Yq d (.v (.int .i64 0)) none σ r K) :
 RAW P d (.call ⟨.builtin .len,#[ax],#[t]⟩) ty σ r K:=by
 intro o C E a w next Q e1 e2 e3 hS hn hq;have hxv:=XO hS hx (λ_ _ _=>by simp);simp only [R] at hxv;have hrun:(Builtin.len_ #[t] ty #[a.eval ax]).run P w = .ok (.int .i64 0) w:=by
  rw [hxv];simp [Builtin.len_,Sem.run_bind,run_underlying ht,goInt]
 have hx:(execOp a.eval o).run P w = .ok (.value (.int .i64 0)) w:=by
  obtain ⟨dst',op',ty',pos,after,guard⟩:=o;simp only at e2 e3;subst e2;subst e3;simp [execOp,resolve,invoke,builtin,hrun]
 refine Zy hx (by simp) ?_;show next (a.put o.dst _) _;rw [e1];exact XF h hS (by simp only [R]) hn
theorem Zgt {w:World} {ad:Option Addr} {len cap:Nat} (ht:P.underlying t=some (.slice T)) (hm:XT P T=some m) :
 (Instr.sliceAt t (.slice ad len cap) none (some (.int .i64 0)) none).run P w = .ok (.slice (if cap=0 then ad else ad.map (·.add (0 * m))) 0 cap) w:=by
 rw [Xt _ _ _ _ ht];simp [Instr.slice,Instr.sliceBounds,Instr.sliceBound,Sem.run_bind,run_underlying ht,Z4 hm,asInt,asIntOf]
theorem Zwq {ax ay:Operand} {d:Option Nat} (hx:Ug σ ax = .v (.slice none 0 0)) (hy:Ug σ ay = .v (.int .i64 0)) (ht:P.underlying t=some (.slice T)) (hm:XT P T=some m) (h:Yq d (.v (.slice none 0 0)) none σ r K) :
 RAW P d (.slice t ax none (some ay) none) ty σ r K:=by
 intro o C E a w next Q e1 e2 e3 hS hn hq;have hxv:=XO hS hx (λ_ _ _=>by simp);have hyv:=XO hS hy (λ_ _ _=>by simp);simp only [R] at hxv hyv;have hx:(execOp a.eval o).run P w = .ok (.value (.slice none 0 0)) w:=by
  obtain ⟨dst',op',ty',pos,after,guard⟩:=o;simp only at e2 e3;subst e2;simp [execOp,Sem.run_bind,hxv,hyv,Zgt ht hm]
 refine Zy hx (by simp) ?_;show next (a.put o.dst _) _;rw [e1];exact XF h hS (by simp only [R]) hn
theorem Zvs {ax ay:Operand} {u k v:Nat} {xs:List (List SV)} (hx:Ug σ ax = .mr k v) (hk:lkh k σ.hp = .row v m xs T) (hy:Ug σ ay = .v (.int .i64 0)) (ht:P.underlying t=some (.slice T)) (hm:XT P T=some m)
 (h1:Xk u σ.gs=false) (h2:Nat.blt u σ.N=true) (h:r ⟨(u,.mr k (v+1)) :: σ.fr,(k,.row (v+1) m [] T) :: σ.hp,σ.n,σ.N,σ.gs⟩ K) :
 RAW P (some u) (.slice t ax none (some ay) none) ty σ r K:=by
 intro o C E a w next Q e1 e2 e3 hS hn hq;have hxv:=XO hS hx (λ_ _ _=>by simp);have hyv:=XO hS hy (λ_ _ _=>by simp);simp only [R] at hxv hyv;obtain ⟨hnk,hvi,hxv,_⟩:=hxv;have hb:=hS.hs.bk k;rw [hk] at hb;simp only [Ya] at hb;obtain ⟨his,hb⟩:=hb
 have key:∃ y,(execOp a.eval o).run P w = .ok (.value y) w/\y.oneCell'=true/\((([]:List (List SV))=[]/\∃ a,y = .slice a 0 0)\/∃ b cap cs,y = .slice (some ⟨b,0,none⟩) ([]:List (List SV)).length cap/\(occ E k (lkh k σ.hp) b\/w.heap.size<=b)/\w.heap[b]? = some (.cells cs T (0,0))/\cs.size=cap * m/\(([]:List (List SV)).length<=cap/\cap≠0)/\([]:List (List SV)).length<=9223372036854775807 /\
  (∀ r ∈ ([]:List (List SV)),r.length=m)/\RL w E (ltn σ.n) (okS C E σ.hp) ([]:List (List SV)).flatten (cs.toList.take (([]:List (List SV)).length * m))):=by
  have hex:∀ {ad len cap},a.eval ax = .slice ad len cap->(execOp a.eval o).run P w = .ok (.value (.slice (if cap=0 then ad else ad.map (·.add (0 * m))) 0 cap)) w:=by
   intro ad len cap he;obtain ⟨dst',op',ty',pos,after,guard⟩:=o;simp only at e2 e3;subst e2;simp [execOp,Sem.run_bind,he,hyv,Zgt ht hm]
  rcases hb with ⟨g0,a0,g1⟩ | ⟨b,cap,cs,g1,g2,g3,g4,g5,g6,g7⟩
  . rw [hxv] at hex;exact ⟨_,hex g1,rfl,.inl ⟨rfl,_,rfl⟩⟩
  . rw [hxv] at hex;have:=hex g1;rw [if_neg g4.2] at this;refine ⟨_,this,rfl,.inr ⟨b,cap,cs,by simp [Addr.add],.inl (by rw [hk];exact ⟨_,_,g1,g4.2⟩),g2,g3,⟨Nat.zero_le _,g4.2⟩,by simp,λr hr=>by simp at hr,by simp [RL]⟩⟩
 obtain ⟨y,hrun,hone,hv⟩:=key;obtain ⟨E',g1',g2',g3',g4',g5',g6'⟩:=ZgG (w':=w) (xs':=[]) (y:=y) hS.hs hk rfl rfl rfl (Nat.le_refl _) (λ_ _ _=>rfl) hv;refine Zy hrun (by simp) ?_;show next (a.put o.dst _) w;rw [e1]
 exact hn _ E' _ _ h (Xo (σ:=σ) (hp':=(k,.row (v+1) m [] T) :: σ.hp) hS g6' g1' (Nat.le_refl _) g5' (λhh=>by rw [ZW.2 hh] at h1;cases h1) (by simpa [Nat.blt_eq] using h2) (λ_ _ _ e=>by cases e)
  (by simp only [R];exact ⟨g4',by omega,g2'.symm,hone⟩))
end
theorem UF (c:Array Value) (hc:0 < c.size):∀ n,(Builtin.zeroCells c n).toList=(List.replicate n c.toList).flatten
 | 0=>by simp [Builtin.zeroCells]
 | n+1=>by
  have ih:=UF c hc n;simp only [Builtin.zeroCells,Array.toList_map,Array.toList_range] at ih ⊢;rw [Nat.add_mul,Nat.one_mul,List.range_add,List.map_append,ih,List.replicate_succ',List.flatten_append,List.flatten_singleton,List.map_map];congr 1;refine List.ext_getElem (by simp) λi h1 h2=>?_;simp only [List.length_map,List.length_range] at h1;simp only [List.getElem_map,List.getElem_range,Function.comp_apply]
  rw [Nat.mul_comm,Nat.mul_add_mod,Nat.mod_eq_of_lt h1,getElem!_pos c i h1];simp
theorem Zsi {α : Type} (l:List α) (a b:Nat) (h:a<=b):(List.replicate b l).flatten.take (a * l.length)=(List.replicate a l).flatten:=by
 obtain ⟨c,rfl⟩:=Nat.exists_eq_add_of_le h;rw [<- List.replicate_append_replicate,List.flatten_append,List.take_left' (by simp)]
theorem Zgn {w:World} {E:Env} {k ok:Nat->Prop} {l:List Value}:∀ n:Nat,RL w E k ok (List.replicate n (l.map SV.v)).flatten (List.replicate n l).flatten
 | 0=>by simp [RL]
 | n+1=>by
  simp only [List.replicate_succ,List.flatten_cons];exact Z7 (ZAV l) (Zgn n)
section
variable {P:Program} {σ : St} {r:KT} {K:RK} {T t ty:TypeId} {m:Nat}
theorem ZiO {ax ay:Operand} {u n:Nat} {tn:TypeId} {i:TypeInfo} {z:Value} {zs:List Value} (hx:Ug σ ax = .v (.slice none 0 0)) (hy:Ug σ ay = .v (.int .i64 n)) (h1:Xk u σ.gs=false) (h2:Nat.blt u σ.N=true)
 (ht:P.underlying t=some (.slice T)) (htn:P.underlying tn=some (.int .i64)) (hi:P.info? T=some i) (hz:i.zero=some z) (hs:i.size=m) (hm:0 < m) (hz1:z.cells.toList=zs) (hzl:zs.length=m) (h0:0 < n) (hb:n * i.bytes<=140737488355328) (hn6:n<=4611686018427387904)
 (h:r ⟨(u,.mr σ.n 0) :: σ.fr,(σ.n,.row 0 m (List.replicate n (zs.map .v)) T) :: σ.hp,σ.n+1,σ.N,σ.gs⟩ K) :
 RAW P (some u) (.call ⟨.builtin .append,#[ax,ay],#[t,tn]⟩) ty σ r K:=by
 intro o C E a w next Q e1 e2 e3 hS hn hq;have hxv:=XO hS hx (λ_ _ _=>by simp);have hyv:=XO hS hy (λ_ _ _=>by simp);simp only [R] at hxv hyv;have hnx:Builtin.nextslicecap (0+n) 0=n:=by simp [Builtin.nextslicecap,h0]
 have hrun:=Lib.run_append_grow_zeros (P:=P) w t tn ty T i z .i64 .i64 ht htn hi hz none 0 0 [] (run_firstCells_none w.drew i.size 0 0 0) n h0 (by omega) (by omega) (by omega) (by omega) (by rw [hnx];omega);generalize hcap:grownCap w (0+n) 0 T=cap at hrun;have hcl:n<=cap:=by
  have:=grownCap_ge w (0+n) 0 T;omega
 let cs:Array Value:=(([]:List Value).toArray ++ Builtin.zeroCells z.cells n ++ Builtin.zeroCells z.cells (cap - (0+n)))
 have hzs:0 < z.cells.size:=by rw [<- Array.length_toList,hz1,hzl];exact hm
 have hcs:cs.toList=(List.replicate cap zs).flatten:=by
  simp only [cs,Array.toList_append,UF _ hzs,hz1,List.nil_append];rw [<- List.flatten_append,List.replicate_append_replicate,show n+(cap - (0+n))=cap by omega]
 have hsz:cs.size=cap * m:=by rw [<- Array.length_toList,hcs];simp [hzl]
 have hbel:Below w.heap.size w (w.drew.alloc (.cells cs T)):=((Below.refl _ _).drew).alloc (Nat.le_refl _) _;obtain ⟨E',k1,k2,k3,k4,k5⟩:=X4 (q:=σ.n) (m:=m) (xs:=List.replicate n (zs.map .v)) (T:=T) (v:=.slice (some ⟨w.heap.size,0,none⟩) n cap) hS.hs (by simp [ltn]) hbel
  (.inr ⟨cap,cs,by simp,heap_alloc_new _ _,hsz,⟨by simp;omega,by omega⟩,by simp;omega,λq hq=>by rw [List.eq_of_mem_replicate hq];simp [hzl],by
   rw [hcs];simp only [List.length_replicate];rw [<- hzl,Zsi _ _ _ hcl]
   exact Zgn n⟩)
 have hV:(λk=>ltn σ.n k\/k = σ.n)=ltn (σ.n+1):=by funext k;simp only [ltn,eq_iff_iff];omega
 rw [hV] at k4;have hx:(execOp a.eval o).run P w = .ok (.value (.slice (some ⟨w.heap.size,0,none⟩) n cap)) (w.drew.alloc (.cells cs T)):=by
  obtain ⟨dst',op',ty',pos,after,guard⟩:=o;simp only at e2 e3;subst e2;subst e3;rw [<- hxv,<- hyv] at hrun;simp [execOp,resolve,invoke,builtin,hrun,cs]
 refine Zy hx (by simp) ?_;show next (a.put o.dst _) _;rw [e1];refine hn _ E' _ _ h (Xo hS k5 k1 (by omega) k4 (λhh=>?_) (by simpa [Nat.blt_eq] using h2) (λ_ _ _ e=>by cases e) ?_)
 . rw [ZW.2 hh] at h1;cases h1
 . simp only [R];exact ⟨by simp [ltn],by omega,by rw [k2];exact ⟨rfl,rfl⟩⟩
end
end Go.Sx
namespace Go.Proofs.YtongccnhomncnaaGreat
open Go Go.Sx Go.Azalai
theorem u94:Tryz.prog.underlying 94=some (.slice 103):=by kernel_rfl
theorem ug3:Tryz.prog.underlying 3=some (.int .i64):=by kernel_rfl
theorem ZAL:XT Tryz.prog 103=some 3:=by kernel_rfl
def zh:List Value:=zv4
theorem Zxf:∃ i z,Tryz.prog.info? 103=some i/\i.zero=some z/\i.size=3/\z.cells.toList=zh/\i.bytes=24:=by
 refine ⟨_,.agg #[.int .i64 0,.int .i64 0,.int .i64 0],rfl,?_,?_,?_,?_⟩<;>kernel_rfl
theorem Zgu (n:Nat) (h0:0 < n) (h1:n<=100000):CtM Tryz.prog 151 [] 0 [.v (.slice none 0 0),I n] (λo=>o=⟨false,.mr 0 1,[(0,.row 1 3 [] 103)],1⟩):=by
 obtain ⟨i,z,q1,q2,q3,q4,q5⟩:=Zxf;refine m151 (by simp [hpb]) (λo ho=>by subst ho;simp [KX,KXP,KXH,KFR]) ?_;dsimp only [c151,r151,go_sem];refine Zo (by simp) ?_;dsimp only [go_sem];refine Zgo rfl u94 ?_;dsimp only [go_sem];refine Zgq rfl u94 ?_;dsimp only [go_sem];rw [Zg (n:=0 - 0) (by omega) (by omega)];rw [Zg (n:=(n:Int) - (0 - 0)) (by omega) (by omega)];rw [show (n:Int) - (0 - 0)=n from by omega]
 refine Zr (by simp;omega) ?_;dsimp only [go_sem];refine Zgo rfl u94 ?_;dsimp only [go_sem];refine Zwq rfl rfl u94 ZAL ?_;dsimp only [go_sem];refine ZiO rfl rfl rfl rfl u94 ug3 q1 q2 q3 (by decide) q4 rfl h0 (by rw [q5];omega) (by omega) ?_;dsimp only [go_sem];refine Zgq rfl u94 ?_;dsimp only [go_sem];refine Zvs rfl rfl rfl u94 ZAL rfl rfl ?_;dsimp only [go_sem];refine ⟨_,rfl,?_⟩;(refine ZT ?_ ?_ ?_ rfl<;>dsimp only [id,go_sem]<;>simp [Za])
theorem oneH:∀ q:List Half,∀ r ∈ q.map Zm,Yt r=true:=λq r hr=>by obtain ⟨x,_,rfl⟩:=List.mem_map.1 hr;rfl
theorem Zcx (a:List Half) (ha:1<=a.length/\a.length<=1000) (k ca:Bool):Ct Tryz.prog 116 [.sl k 1 [[.sl ca 3 (a.map Zm)]]] (.sl false 3 (a.map Zm)):=by
 refine t116.1 (by simp [Za,KFR,Zm]) (by simp [Za,Zd,Zm]) ?_;dsimp only [c116,r116,go_sem];refine ZY 2 ?_;dsimp only [Zb,go_sem];refine Zr rfl ?_;dsimp only [go_sem];refine ixs 0 _ rfl rfl ?_;dsimp only [go_sem];simp only [List.length_map];rw [Zg (n:=0+(a.length:Int)) (by omega) (by omega)];refine Zo (by simp<;>omega) ?_;dsimp only [Zb,go_sem];refine Zo rfl ?_;dsimp only [go_sem];rw [show 0+(a.length:Int)=(((a.length:Nat):Nat):Int) from by omega]
 refine Yd [] (Zgu ((a.length:Nat)) (by omega) (by omega)) rfl rfl rfl ?_ ?_ ?_
 . (repeat first | dsimp only [go_sem] | simp only [nbr])
   try simp [mtL,mtB,mtS]
 . trivial
 rintro _ rfl
 (repeat first | dsimp only [go_sem] | simp only [nbr])
 refine gh Xu ?_;dsimp only [go_sem];refine ZY 2 ?_;dsimp only [Zb,go_sem];refine Zr rfl ?_;dsimp only [go_sem];refine ixs 0 _ rfl rfl ?_;dsimp only [go_sem];refine ⟨oneH a,by simp;omega,?_⟩;dsimp only [Zb,go_sem];refine Zo rfl ?_;dsimp only [go_sem];try simp
theorem Zh1 (a b:List Half) (ha:1<=a.length/\a.length<=1000) (hb:1<=b.length/\b.length<=1000) (k ca cb:Bool):Ct Tryz.prog 116 [.sl k 1 [[.sl ca 3 (a.map Zm)],[.sl cb 3 (b.map Zm)]]] (.sl false 3 ((a ++ b).map Zm)):=by
 refine t116.1 (by simp [Za,KFR,Zm]) (by simp [Za,Zd,Zm]) ?_;dsimp only [c116,r116,go_sem];refine ZY 3 ?_;dsimp only [Zb,go_sem];refine Zr rfl ?_;dsimp only [go_sem];refine ixs 0 _ rfl rfl ?_;dsimp only [go_sem];simp only [List.length_map];rw [Zg (n:=0+(a.length:Int)) (by omega) (by omega)];refine Zo (by simp<;>omega) ?_;dsimp only [Zb,go_sem];refine Zr rfl ?_;dsimp only [go_sem];refine ixs 1 _ rfl rfl ?_
 dsimp only [go_sem];simp only [List.length_map];rw [Zg (n:=0+(a.length:Int)+(b.length:Int)) (by omega) (by omega)];refine Zo (by simp<;>omega) ?_;dsimp only [Zb,go_sem];refine Zo rfl ?_;dsimp only [go_sem];rw [show 0+(a.length:Int)+(b.length:Int)=(((a.length+b.length:Nat):Nat):Int) from by omega];refine Yd [] (Zgu ((a.length+b.length:Nat)) (by omega) (by omega)) rfl rfl rfl ?_ ?_ ?_
 . (repeat first | dsimp only [go_sem] | simp only [nbr])
   try simp [mtL,mtB,mtS]
 . trivial
 rintro _ rfl
 (repeat first | dsimp only [go_sem] | simp only [nbr])
 refine gh Xu ?_;dsimp only [go_sem];refine ZY 3 ?_;dsimp only [Zb,go_sem];refine Zr rfl ?_;dsimp only [go_sem];refine ixs 0 _ rfl rfl ?_;dsimp only [go_sem];refine ⟨oneH a,by simp;omega,?_⟩;dsimp only [Zb,go_sem];refine Zr rfl ?_;dsimp only [go_sem];refine ixs 1 _ rfl rfl ?_;dsimp only [go_sem];refine ⟨oneH b,by simp;omega,?_⟩;dsimp only [Zb,go_sem];refine Zo rfl ?_;dsimp only [go_sem];try simp
theorem Zty {α : Type} {f:α->List SV} (h:∀ x,KFL (f x)) (n:Nat) (l:List α):KFR (List.take n (List.map f l)):=by
 rw [<- List.map_take,Za];exact λx _=>h x
theorem Wc (n:Nat) (l:List Half):KFR (List.take n (List.map Zm l)):=Zty (λ_=>by simp [Zm]) n l
theorem YK (n:Nat) (l:List Half):KFR (List.take n (List.map (λh=>[I h.a,I h.b,I h.c]) l)):=Zty (λ_=>by simp) n l
theorem Vt (g:WD->Bool) (l:List Half) (p:Half) (j:Nat) (h:j < l.length):Zkh g l p (l.take (j+1))=(Zkh g l p (l.take j) || (okC l (Wn p l[j]) && g (Wn p l[j]))):=by
 rw [Zkh,List.take_succ_eq_append_getElem h,List.any_append];simp [Zkh]
theorem ZbS (g:WD->Bool) (l:List Half) (k:Nat) (h:k < l.length):Zmy g l (k+1)=(Zmy g l k || Zkh g l l[k] (l.take k)):=by
 rw [Zmy,List.getElem?_eq_getElem h]
theorem UY {g:WD->Bool} {l:List Half} {k:Nat}:∀ {n:Nat},n<=l.length->(hk:k < l.length)->Zkh g l l[k] (l.take k)=true->(hn:k < n:=by assumption)->Zmy g l n=true
 | n+1,hn,hk,h,hkn=>by
  rw [ZbS g l n (by omega)];by_cases e:k=n
  . subst e;rw [h,Bool.or_true]
  . rw [UY (by omega) hk h (by omega),Bool.true_or]
theorem ZcF {g:WD->Bool} {l:List Half} {p:Half} {j k:Nat} (hj:j < k) (hk:k<=l.length) (h:(okC l (Wn p (l[j]'(by omega))) && g (Wn p (l[j]'(by omega))))=true):Zkh g l p (l.take k)=true:=by
 rw [Zkh,List.any_eq_true];exact ⟨l[j]'(by omega),by rw [List.mem_take_iff_getElem];exact ⟨j,by omega,rfl⟩,h⟩
theorem ZcD (l:List Half) (c:Bool):CtM Tryz.prog 109 [] 0 [.sl c 3 (l.map Zm)] (λo=>o=⟨false,.cl 145 [.p 0 0],[(0,.cells [.sl c 3 (l.map Zm)] 94)],1⟩):=by
 refine m109 (by simp [hpb]) (λo ho=>by subst ho;simp [KX,KXL,KXP,KXH,Za,Zm,KFL,KF]) ?_;dsimp only [c109,r109,go_sem];refine ⟨_,rfl,?_⟩;(refine ZT ?_ ?_ ?_ rfl<;>dsimp only [Zm,id,go_sem]<;>simp [Zm,Za])
theorem Zgw (l:List Half) (c:WD) (hl:l.length<=1000) (k:Bool):Ct Tryz.prog 112 [.sl k 3 (l.map Zm),.cl 147 [.ps (Zcf c) 0]] (B (l.all (inH c))) :=
 Zbh 147 [.ps (Zcf c) 0] (by simp [KFL,KF,Zcf]) (λ_=>rfl) (inH c) l (λx _=>Zz3 c x) (by omega) k
theorem Zfr (l:List Half) (k:Bool) (xs:List (List SV)) (hc:Ct Tryz.prog 116 [.sl k 1 xs] (.sl false 3 (l.map Zm))) (hk:KFR xs) (hl:l.length<=1000):Ct Tryz.prog 72 [.sl k 1 xs] (B (Zic l)):=by
 refine t72.1 (by simp [KFL,KF,hk]) (by simp) ?_;dsimp only [c72,r72,go_sem];refine call hc ?_;dsimp only [go_sem];refine Yd [] (ZcD l false) rfl rfl rfl ?_ ?_ ?_
 . (repeat first | dsimp only [go_sem] | simp only [nbr])
   try simp [mtL,mtB,mtS,Za,Zm,KFL,KF]
 . trivial
 rintro _ rfl
 (repeat first | dsimp only [go_sem] | simp only [nbr])
 refine gh Xu ?_;dsimp only [go_sem];refine ⟨b145,λrec=>?_⟩;refine y145 ?_;dsimp only [ZBU,ZBV,go_sem];refine YF (λk:Nat=>[(10,I k)]) (λ_=>[]) (λk=>k<=l.length/\Zmy (λ_=>true) l k=false) (λk=>l.length - k) 0 ⟨Nat.zero_le _,rfl⟩ ?_ ?_
 . (refine Zj ?_ ?_ ?_ rfl rfl<;>dsimp only [Zm,id,go_sem]<;>simp [Zm,Za])
 rintro k ⟨hk0,hi⟩;dsimp only [go_sem];simp only [List.length_map];by_cases hlt:k < l.length
 . refine Zr (by simpa using hlt) ?_;dsimp only [go_sem];refine Zp k hlt rfl ?_;dsimp only [Zm,go_sem];refine ⟨0,k,⟨rfl,rfl,Nat.zero_le _,by simp;omega⟩,?_⟩;dsimp only [go_sem];rw [<- List.map_take];simp only [List.length_map,List.length_take,Nat.min_eq_left hk0];refine YF (λj:Nat=>[(19,I j)]) (λ_=>[]) (λj=>j<=k/\Zkh (λ_=>true) l l[k] (l.take j)=false) (λj=>k - j) 0 ⟨Nat.zero_le _,rfl⟩ ?_ ?_
   . (refine Zj ?_ ?_ ?_ rfl rfl<;>dsimp only [Zm,Wc,YK,id,go_sem]<;>simp [Zm,Wc,YK,Za])
   rintro j ⟨hj0,hj⟩;dsimp only [go_sem];by_cases hjk:j < k
   . refine Zr (by simpa using hjk) ?_;dsimp only [go_sem];refine Zp j (by simp;omega) rfl ?_;rw [List.getElem_take];dsimp only [Zm,go_sem];refine call (Zkc l[k] l[j]) ?_;dsimp only [Zcf,go_sem];cases hD:((Wn l[k] l[j]).2.2 != 0) with
     | false =>
      repeat (refine YW (by decide) ?_;dsimp only [go_sem])
      refine Zo rfl ?_;dsimp only [go_sem];rw [Zg (n:=(j:Int)+1) (by omega) (by omega)];refine ⟨j+1,⟨hjk,by rw [Vt _ _ _ _ (by omega),hj];simp [okC,hD]⟩,by omega,?_⟩;(refine Zj ?_ ?_ ?_ rfl rfl<;>dsimp only [Zm,Wc,YK,id,go_sem]<;>simp [Zm,Wc,YK,Za])
     | true =>
      iterate 2 (refine ZR rfl ?_;dsimp only [go_sem])
      refine ZR rfl ?_;dsimp only [go_sem];refine Vi (by simp [FLT]) (res:=B (l.all (inH (Wn l[k] l[j])))) ?_ ?_
      . dsimp only [go_sem];exact Zgw l (Wn l[k] l[j]) hl false
      dsimp only [go_sem];cases hA:l.all (inH (Wn l[k] l[j])) with
      | false =>
       repeat (refine YW (by decide) ?_;dsimp only [go_sem])
       refine Zo rfl ?_;dsimp only [go_sem];rw [Zg (n:=(j:Int)+1) (by omega) (by omega)];refine ⟨j+1,⟨hjk,by rw [Vt _ _ _ _ (by omega),hj];simp [okC,hA]⟩,by omega,?_⟩;(refine Zj ?_ ?_ ?_ rfl rfl<;>dsimp only [Zm,Wc,YK,id,go_sem]<;>simp [Zm,Wc,YK,Za])
      | true =>
       iterate 2 (refine ZR rfl ?_;dsimp only [go_sem])
       refine ZR rfl ?_;dsimp only [go_sem];refine ⟨rfl,rfl,rfl,?_⟩;repeat (first | (refine ZR rfl ?_;dsimp only [go_sem]) | (refine YW (by decide) ?_;dsimp only [go_sem]))
       refine Zr rfl ?_;dsimp only [go_sem];rw [show Zic l=true from UY (by omega) hlt (ZcF hjk (by omega) (by simp [okC,hD,hA]))]
   refine Zo (by simpa using hjk) ?_;dsimp only [go_sem];have hjk':j=k:=by omega
   subst hjk';rw [Zg (n:=(j:Int)+1) (by omega) (by omega)];refine ⟨j+1,⟨hlt,by rw [ZbS _ _ _ hlt,hi,hj];rfl⟩,by omega,?_⟩;(refine Zj ?_ ?_ ?_ rfl rfl<;>dsimp only [Zm,Wc,YK,id,go_sem]<;>simp [Zm,Wc,YK,Za])
 refine Zo (by simpa using hlt) ?_;dsimp only [go_sem];have hkl:k=l.length:=by omega
 subst hkl;rw [show Zic l=false from hi]
abbrev V8 (n:Int):SV:=.v (.int .u8 n)
theorem ZxS (l:List Half) (x y far:Int) (h1:1<=l.length) (hl:l.length<=900) (c:Bool):Ct Tryz.prog 69 [.sl c 3 (l.map Zm),I x,I y,I far] (V8 (ZfT l x y far)):=by
 refine t69.1 (by simp [Za,Zm]) (by simp) ?_;dsimp only [c69,r69,go_sem];refine call (Zkm x y far) ?_;dsimp only [go_sem];have hcl:(Vx x y far).length=4:=rfl;have hnear:ZfT l x y far=if Zic (l ++ Vx x y far)=false then 0 else if Zmy (λc=>(Vx x y far).any λh=>!inH c h) l l.length=true then 1 else 2:=rfl
 generalize Vx x y far=cs at hcl hnear;refine call (Zfr (l ++ cs) true [[.sl c 3 (l.map Zm)],[.sl true 3 (cs.map Zm)]] (Zh1 l cs ⟨h1,by omega⟩ (by omega) true c true) (by simp [KFR,KFL,KF,Za,Zm]) (by simp;omega)) ?_;dsimp only [go_sem];rw [hnear];cases hs:Zic (l ++ cs) with
 | false =>
  refine Zr rfl ?_;dsimp only [go_sem];simp
 | true =>
 refine Zo rfl ?_;dsimp only [go_sem];refine Yd [] (ZcD l c) rfl rfl rfl ?_ ?_ ?_
 . (repeat first | dsimp only [go_sem] | simp only [nbr])
   try simp [mtL,mtB,mtS,Za,Zm,KFL,KF]
 . trivial
 rintro _ rfl
 (repeat first | dsimp only [go_sem] | simp only [nbr])
 refine gh Xu ?_;dsimp only [go_sem];obtain ⟨G,hG⟩:∃ G:WD->Bool,G=λc=>cs.any λh=>!inH c h:=⟨_,rfl⟩;rw [<- hG];refine ⟨b145,λrec=>?_⟩;refine y145 ?_;dsimp only [ZBU,ZBV,go_sem];refine YF (λk:Nat=>[(10,I k)]) (λ_=>[]) (λk=>k<=l.length/\Zmy G l k=false) (λk=>l.length - k) 0 ⟨Nat.zero_le _,rfl⟩ ?_ ?_
 . (refine Zj ?_ ?_ ?_ rfl rfl<;>dsimp only [Zm,id,go_sem]<;>simp [Zm,Za])
 rintro k ⟨hk0,hi⟩;dsimp only [go_sem];simp only [List.length_map];by_cases hlt:k < l.length
 . refine Zr (by simpa using hlt) ?_;dsimp only [go_sem];refine Zp k hlt rfl ?_;dsimp only [Zm,go_sem];refine ⟨0,k,⟨rfl,rfl,Nat.zero_le _,by simp;omega⟩,?_⟩;dsimp only [go_sem];rw [<- List.map_take];simp only [List.length_map,List.length_take,Nat.min_eq_left hk0];refine YF (λj:Nat=>[(19,I j)]) (λ_=>[]) (λj=>j<=k/\Zkh G l l[k] (l.take j)=false) (λj=>k - j) 0 ⟨Nat.zero_le _,rfl⟩ ?_ ?_
   . (refine Zj ?_ ?_ ?_ rfl rfl<;>dsimp only [Zm,Wc,YK,id,go_sem]<;>simp [Zm,Wc,YK,Za])
   rintro j ⟨hj0,hj⟩;dsimp only [go_sem];by_cases hjk:j < k
   . refine Zr (by simpa using hjk) ?_;dsimp only [go_sem];refine Zp j (by simp;omega) rfl ?_;rw [List.getElem_take];dsimp only [Zm,go_sem];refine call (Zkc l[k] l[j]) ?_;dsimp only [Zcf,go_sem];cases hD:((Wn l[k] l[j]).2.2 != 0) with
     | false =>
      repeat (refine YW (by decide) ?_;dsimp only [go_sem])
      refine Zo rfl ?_;dsimp only [go_sem];rw [Zg (n:=(j:Int)+1) (by omega) (by omega)];refine ⟨j+1,⟨hjk,by rw [Vt _ _ _ _ (by omega),hj];simp [okC,hD]⟩,by omega,?_⟩;(refine Zj ?_ ?_ ?_ rfl rfl<;>dsimp only [Zm,Wc,YK,id,go_sem]<;>simp [Zm,Wc,YK,Za])
     | true =>
      iterate 2 (refine ZR rfl ?_;dsimp only [go_sem])
      refine ZR rfl ?_;dsimp only [go_sem];refine Vi (by simp [FLT]) (res:=B (l.all (inH (Wn l[k] l[j])))) ?_ ?_
      . dsimp only [go_sem];exact Zgw l (Wn l[k] l[j]) (by omega) c
      dsimp only [go_sem];cases hA:l.all (inH (Wn l[k] l[j])) with
      | false =>
       repeat (refine YW (by decide) ?_;dsimp only [go_sem])
       refine Zo rfl ?_;dsimp only [go_sem];rw [Zg (n:=(j:Int)+1) (by omega) (by omega)];refine ⟨j+1,⟨hjk,by rw [Vt _ _ _ _ (by omega),hj];simp [okC,hA]⟩,by omega,?_⟩;(refine Zj ?_ ?_ ?_ rfl rfl<;>dsimp only [Zm,Wc,YK,id,go_sem]<;>simp [Zm,Wc,YK,Za])
      | true =>
       iterate 2 (refine ZR rfl ?_;dsimp only [go_sem])
       refine ZR rfl ?_;dsimp only [go_sem];refine ⟨rfl,rfl,?_⟩;simp only [List.length_map];refine YF (λi:Nat=>[(28,I i)]) (λ_=>[]) (λi=>i<=cs.length/\(cs.take i).any (λh=>!inH (Wn l[k] l[j]) h)=false) (λi=>cs.length - i) 0 ⟨Nat.zero_le _,rfl⟩ ?_ ?_
       . (refine Zj ?_ ?_ ?_ rfl rfl<;>dsimp only [Zm,Wc,YK,id,go_sem]<;>simp [Zm,Wc,YK,Za])
       rintro i ⟨hi0,hin⟩;dsimp only [go_sem];by_cases hic:i < cs.length
       . refine Zr (by simpa using hic) ?_;dsimp only [go_sem];refine Zp i hic rfl ?_;dsimp only [Zm,go_sem];cases hV:inH (Wn l[k] l[j]) cs[i] with
         | false =>
          refine Zr (by simpa [inH] using hV) ?_;dsimp only [go_sem];refine ⟨rfl,?_⟩;repeat (refine ZR rfl ?_;dsimp only [go_sem])
          refine Zr rfl ?_;dsimp only [go_sem];have hgv:G (Wn l[k] l[j])=true:=by rw [hG];exact List.any_eq_true.2 ⟨cs[i],List.getElem_mem _,by simp [hV]⟩
          rw [show Zmy G l l.length=true from UY (Nat.le_refl _) hlt (ZcF hjk (by omega) (by simp [okC,hD,hA,hgv]))];rfl
         | true =>
          refine Zo (by simpa [inH] using hV) ?_;dsimp only [go_sem];rw [Zg (n:=(i:Int)+1) (by omega) (by omega)];refine ⟨i+1,⟨hic,by rw [List.take_succ_eq_append_getElem hic,List.any_append,hin];simp [hV]⟩,by omega,?_⟩;(refine Zj ?_ ?_ ?_ rfl rfl<;>dsimp only [Zm,Wc,YK,id,go_sem]<;>simp [Zm,Wc,YK,Za])
       refine Zo (by simpa using hic) ?_;dsimp only [go_sem];have hice:i=cs.length:=by omega
       subst hice;rw [List.take_length] at hin;have hgv:G (Wn l[k] l[j])=false:=by rw [hG];exact hin
       refine ⟨rfl,?_⟩;repeat (refine ZR rfl ?_;dsimp only [go_sem])
       refine Zo rfl ?_;dsimp only [go_sem];rw [Zg (n:=(j:Int)+1) (by omega) (by omega)];refine ⟨j+1,⟨hjk,by rw [Vt _ _ _ _ (by omega),hj,hgv];simp⟩,by omega,?_⟩;(refine Zj ?_ ?_ ?_ rfl rfl<;>dsimp only [Zm,Wc,YK,id,go_sem]<;>simp [Zm,Wc,YK,Za])
   refine Zo (by simpa using hjk) ?_;dsimp only [go_sem];have hjk':j=k:=by omega
   subst hjk';rw [Zg (n:=(j:Int)+1) (by omega) (by omega)];refine ⟨j+1,⟨hlt,by rw [ZbS _ _ _ hlt,hi,hj];rfl⟩,by omega,?_⟩;(refine Zj ?_ ?_ ?_ rfl rfl<;>dsimp only [Zm,Wc,YK,id,go_sem]<;>simp [Zm,Wc,YK,Za])
 refine Zo (by simpa using hlt) ?_;dsimp only [go_sem];have hkl:k=l.length:=by omega
 subst hkl;rw [hi];rfl
def c167:SC:=(sr1 [Jk 2 0] (.seq (sr1 [m1 5 0,o1 6 (Jl 5),o1 7 (Jc .lss 6 1)] (Ji 7 (.reg [o1 8 (.raw (Go.Op.makeInterface 9 (Go.Operand.const (Go.Value.string { data:=#[115,108,105,99,101,115,46,77,97,120,58,32,101,109,112,116,121,32,108,105,115,116] })))
 20),⟨none,.raw (Go.Op.panic (Go.Operand.tmp 8)) 0,none,[]⟩]) .skip)) (sr1 [m1 9 0,o1 10 (.ixs (.t 9) (cn 0) 1),o1 11 (lf 10 1),m1 3 11] (.seq (sr1 [Jk 4 1] (.block 0 (.loop (.seq (sr1 [m1 12 4,m1 13 0,o1 14 (Jl 13),o1 15 (Jb .lss 12 14)] (Ji 15 .skip
 (.exit 0))) (.seq (.block 1 (.reg [m1 18 3,m1 19 0,m1 20 4,o1 21 (Jx 19 20 1),o1 22 (lf 21 1),o1 23 (.mm true [.t 18,.t 22]),m1 3 23])) (.reg [m1 16 4,o1 17 (Jc .add 16 1),m1 4 17])))))) (sr1 [m1 24 3,m1 2 24] .ret)))))
def r167:List RV:=[.tmp 2]
theorem t167:Qt1 Tryz.prog 167 c167 r167 25:=ZH Tryz.func167
theorem Zwb (a b c d:Int) (k:Bool):Ct Tryz.prog 167 [.sl k 1 [[I a],[I b],[I c],[I d]]] (I (max (max (max a b) c) d)):=by
 refine t167.1 (by simp [KFR]) (by simp) ?_;dsimp only [c167,r167,go_sem];refine Zo rfl ?_;dsimp only [go_sem];refine ixs 0 _ rfl rfl ?_;dsimp only [go_sem];refine ZY 4 ?_;dsimp only [Zb,go_sem];refine Zr rfl ?_;dsimp only [go_sem];refine ixs 1 _ rfl rfl ?_;dsimp only [go_sem];rw [show IntKind.i64.wrap ((1:Int)+1)=2 from rfl];refine Zr rfl ?_;dsimp only [go_sem];refine ixs 2 _ rfl rfl ?_;dsimp only [go_sem]
 rw [show IntKind.i64.wrap ((2:Int)+1)=3 from rfl];refine Zr rfl ?_;dsimp only [go_sem];refine ixs 3 _ rfl rfl ?_;dsimp only [go_sem];rw [show IntKind.i64.wrap ((3:Int)+1)=4 from rfl];refine Zo rfl ?_;dsimp only [go_sem]
theorem Zqp (a b c d:Int):Ct Tryz.prog 148 [.sl true 1 [[I a],[I b],[I c],[I d]]] (.agg [I (Zf8 [a,b,c,d]),I (max (max (max a b) c) d)]):=by
 refine t148.1 (by simp [KFR]) (by simp) ?_;dsimp only [c148,r148,go_sem];refine call (Zlu [a,b,c,d] (by simp) (by simp) true) ?_;dsimp only [go_sem];refine call (Zwb a b c d true) ?_;dsimp only [go_sem]
theorem ZgH (a b:Span):Ct Tryz.prog 110 [.agg (Ze a),.agg (Ze b)] (.agg [I (Zf8 [w64 (a.lo * b.lo),w64 (a.lo * b.hi),w64 (a.hi * b.lo),w64 (a.hi * b.hi)]),I (max (max (max (w64 (a.lo * b.lo)) (w64 (a.lo * b.hi))) (w64 (a.hi * b.lo))) (w64 (a.hi * b.hi)))]):=by
 refine t110.1 (by simp [Ze]) (by simp) ?_;dsimp only [c110,r110,Ze,go_sem];refine call (Zqp _ _ _ _) ?_;dsimp only [go_sem]
def T0:Trek:=⟨⟨1,1⟩,⟨10,20⟩,⟨0,0⟩⟩
theorem Zju:Ct Tryz.prog 110 [.agg [I 1,I 1],.agg [I 10,I 20]] (.agg [I 10,I 20]):=ZgH ⟨1,1⟩ ⟨10,20⟩
theorem Zli:Ct Tryz.prog 110 [.agg [I 1,I 1],.agg [I 0,I 0]] (.agg [I 0,I 0]):=ZgH ⟨1,1⟩ ⟨0,0⟩
def AX (a b c d:Int):List Half:=[⟨1,0,a⟩,⟨-1,0,b⟩,⟨0,1,c⟩,⟨0,-1,d⟩]
theorem Zln (l:List Half) (h1:l≠[]) (hl:l.length<=1000) (c:Bool):CtM Tryz.prog 111 [] 0 [.sl c 3 (l.map Zm)] (λo=>o=⟨false,.mr 0 0,[(0,.row 0 3 (l.map Zm) 103)],1⟩):=by
 refine m111 (by simp [hpb]) (λo ho=>by subst ho;simp [KX,KXL,KXP,KXH,Za,Zm,KFL,KF]) ?_;dsimp only [c111,r111,go_sem];intro b hb;dsimp only [go_sem];cases b with
 | true=>exact absurd (by simpa using hb rfl) h1
 | false =>
  refine Zo rfl ?_;dsimp only [go_sem];refine ⟨by simp;omega,?_⟩;dsimp only [go_sem];refine ⟨_,rfl,?_⟩;(refine ZT ?_ ?_ ?_ rfl<;>dsimp only [Zm,id,go_sem]<;>simp [Zm,Za])
theorem Zc6 (a b c d:Int) (k:Bool):Ct Tryz.prog 70 [.sl k 3 ((AX a b c d).map Zm),.agg (Y7 T0)] (.tup [.sl false 3 ((AX (w64 (a+w64 (20+0))) (w64 (b+w64 (-10+0))) (w64 (c+w64 (0+0))) (w64 (d+w64 (0+0)))).map Zm),B ((AX (w64 (a+w64 (20+0))) (w64 (b+w64 (-10+0))) (w64 (c+w64 (0+0))) (w64 (d+w64 (0+0)))).all λh=>inR (-100000000000) 100000000000 h.c)]):=by
 refine t70.1 (by simp [AX,Zm,KFR,Y7]) (by simp [AX,Zm,KFR]) ?_;dsimp only [c70,r70,Y7,T0,go_sem];refine call Zju ?_;dsimp only [go_sem];refine call Zli ?_;dsimp only [go_sem];refine Yd [] (Zln (AX a b c d) (by simp [AX]) (by simp [AX]) k) rfl rfl rfl ?_ ?_ ?_
 . (repeat first | dsimp only [go_sem] | simp only [nbr])
   try simp [mtL,mtB,mtS,Za,Zm,KFL,KF]
 . trivial
 rintro _ rfl
 (repeat first | dsimp only [AX,go_sem] | simp only [nbr])
 simp only [List.map_cons,List.map_nil];dsimp only [Zm,go_sem];refine ZY 5 ?_;dsimp only [Zb,go_sem];repeat (first | (refine Zo rfl ?_;dsimp only [go_sem]) | (refine Zr rfl ?_;dsimp only [go_sem]) | (refine Uu 0 rfl (by decide) ?_;dsimp only [go_sem]) | (refine Uu 1 rfl (by decide) ?_;dsimp only [go_sem]) | (refine Uu 2 rfl (by decide) ?_;dsimp only [go_sem]) | (refine Uu 3 rfl (by decide) ?_;dsimp only [go_sem]) | (refine ⟨_,Zx.2 λ_=>rfl,?_⟩;dsimp only [go_sem]) | (refine ⟨_,rfl,by simp,?_⟩;dsimp only [List.set,go_sem]))
 simp only [show max (IntKind.i64.wrap (1 * 10)) (IntKind.i64.wrap (1 * 20))=(20:Int) from rfl,show max (IntKind.i64.wrap (-1 * 10)) (IntKind.i64.wrap (-1 * 20))=(-10:Int) from rfl,show max (IntKind.i64.wrap (0 * 10)) (IntKind.i64.wrap (0 * 20))=(0:Int) from rfl,show max (IntKind.i64.wrap (0 * 0)) (IntKind.i64.wrap (0 * 0))=(0:Int) from rfl,show max (IntKind.i64.wrap (1 * 0)) (IntKind.i64.wrap (1 * 0))=(0:Int) from rfl,show max (IntKind.i64.wrap (-1 * 0)) (IntKind.i64.wrap (-1 * 0))=(0:Int) from rfl]
 refine Vi (by simp [FLT]) (res:=B ((AX (w64 (a+w64 (20+0))) (w64 (b+w64 (-10+0))) (w64 (c+w64 (0+0))) (w64 (d+w64 (0+0)))).all λh=>inR (-100000000000) 100000000000 h.c)) ?_ ?_
 . dsimp only [go_sem];exact Zbh 113 [] trivial (λ_=>rfl) (λh=>inR (-100000000000) 100000000000 h.c) (AX _ _ _ _) (λx _=>Zws x) (by simp [AX]) false
 dsimp only [go_sem];rfl
def AL (c:Bool) (l:List Half):SV:=.agg [.sl c 3 (l.map Zm)]
theorem ZoZ:Ct Tryz.prog 65 [AL true A0,I 30,I 0,I 10] (I 0):=by
 refine t65.1 (by simp [AL,A0,Zm,KFR]) (by simp) ?_;dsimp only [c65,r65,AL,go_sem];refine call Zes ?_;dsimp only [go_sem];refine Zo rfl ?_;dsimp only [go_sem];refine call (Zkr _ _ _ _ _) ?_;dsimp only [go_sem];refine ZR rfl ?_;dsimp only [go_sem];refine ZR rfl ?_;dsimp only [go_sem];refine ZR rfl ?_;dsimp only [go_sem];refine call (ZgJ _ _ _ _) ?_;dsimp only [go_sem];repeat (refine ZR rfl ?_;dsimp only [go_sem])
 refine Zo rfl ?_;dsimp only [go_sem];refine call (Zfr A0 true [[.sl true 3 (A0.map Zm)]] (Zcx A0 (by decide) true true) (by simp [KFR,KFL,KF,Za,Zm,A0]) (by decide)) ?_;dsimp only [go_sem];refine Zo rfl ?_;dsimp only [go_sem]
def XM (l:List Half) (c:Bool) (f1 f2:Int):List (Nat × HB):=[(0,.cells [.sl c 3 (l.map Zm)] 94),(1,.cells [I 30] 3),(2,.cells [I 0] 3),(3,.cells [I 10] 3),(4,.cells [I 0,I f1,I f2] 157)]
theorem Zde (l:List Half) (c:Bool) (n f1 f2 v:Int) (h1:1<=l.length) (h2:l.length<=900) (hv:ZfT l 30 0 10=v) (h:v=0\/v=1\/v=2) :
 CtM Tryz.prog 68 (XM l c f1 f2) 5 [I n,.p 0 0,.p 1 0,.p 2 0,.p 3 0,.p 4 0] (λo=>o=⟨false,.tup [],XM l c (if 1<=v/\f1 < 0 then n else f1) (if v=2/\f2 < 0 then n else f2),5⟩):=by
 have hkr:∀ g1 g2:Int,KXP (XM l c g1 g2):=λg1 g2=>by simp [XM,KX,KXL,KXP,KXH,Za,Zm]
 refine m68 (by simp [hpb,XM]) (λo ho=>by subst ho;exact ⟨by simp [KX,KXL],hkr _ _⟩) ?_;dsimp only [c68,r68,XM,go_sem];refine call (ZxS l 30 0 10 h1 h2 c) ?_;rw [hv];dsimp only [go_sem];rcases h with rfl | rfl | rfl
 . refine ZY 1 ?_;dsimp only [Zb,go_sem];refine Zo rfl ?_;dsimp only [go_sem];refine ⟨_,rfl,?_⟩;rw [if_neg (by omega),if_neg (by omega)];(refine ZT ?_ ?_ ?_ rfl<;>dsimp only [Zm,XM,id,go_sem]<;>simp [Zm,XM,Za])
 . refine ZY 2 ?_;dsimp only [Zb,go_sem];refine Zr rfl ?_;dsimp only [go_sem];refine ixa 1 rfl (by decide) ?_;dsimp only [go_sem];by_cases hf:f1 < 0
   . refine Zr (by simpa using hf) ?_;dsimp only [go_sem];refine ixa 1 rfl (by decide) ?_;dsimp only [go_sem];refine Zo rfl ?_;dsimp only [go_sem];refine ⟨_,rfl,?_⟩;rw [if_pos ⟨by omega,hf⟩,if_neg (by omega)];(refine ZT ?_ ?_ ?_ rfl<;>dsimp only [Zm,XM,id,go_sem]<;>simp [Zm,XM,Za])
   . refine Zo (by simpa using hf) ?_;dsimp only [go_sem];refine Zo rfl ?_;dsimp only [go_sem];refine ⟨_,rfl,?_⟩;rw [if_neg (by omega),if_neg (by omega)];(refine ZT ?_ ?_ ?_ rfl<;>dsimp only [Zm,XM,id,go_sem]<;>simp [Zm,XM,Za])
 . refine ZY 3 ?_;dsimp only [Zb,go_sem];refine Zr rfl ?_;dsimp only [go_sem];refine ixa 2 rfl (by decide) ?_;dsimp only [go_sem];by_cases hg:f2 < 0
   case' pos =>
    refine Zr (by simpa using hg) ?_;dsimp only [go_sem];refine ixa 2 rfl (by decide) ?_;dsimp only [go_sem]
   case' neg =>
    refine Zo (by simpa using hg) ?_;dsimp only [go_sem]
   all_goals
    refine Zr rfl ?_;dsimp only [go_sem];refine ixa 1 rfl (by decide) ?_;dsimp only [go_sem];by_cases hf:f1 < 0
    . refine Zr (by simpa using hf) ?_;dsimp only [go_sem];refine ixa 1 rfl (by decide) ?_;dsimp only [go_sem];refine Zo rfl ?_;dsimp only [go_sem];refine ⟨_,rfl,?_⟩;simp only [hf,hg,and_true,and_false,if_true,if_false,if_pos,show (1:Int)<=2 from by decide];(refine ZT ?_ ?_ ?_ rfl<;>dsimp only [Zm,XM,id,go_sem]<;>simp [Zm,XM,Za])
    . refine Zo (by simpa using hf) ?_;dsimp only [go_sem];refine Zo rfl ?_;dsimp only [go_sem];refine ⟨_,rfl,?_⟩;simp only [hf,hg,and_true,and_false,if_true,if_false,if_pos,show (1:Int)<=2 from by decide];(refine ZT ?_ ?_ ?_ rfl<;>dsimp only [Zm,XM,id,go_sem]<;>simp [Zm,XM,Za])
theorem near0:ZfT (AX 0 0 0 0) 30 0 10=0:=by decide +kernel
theorem near1:ZfT (AX 20 (-10) 0 0) 30 0 10=1:=by decide +kernel
theorem near2:ZfT (AX 40 (-20) 0 0) 30 0 10=2:=by decide +kernel
theorem near3:ZfT (AX 60 (-30) 0 0) 30 0 10=1:=by decide +kernel
theorem mov0 (k:Bool):Ct Tryz.prog 70 [.sl k 3 ((AX 0 0 0 0).map Zm),.agg (Y7 T0)] (.tup [.sl false 3 ((AX 20 (-10) 0 0).map Zm),B true]):=Zc6 0 0 0 0 k
theorem mov1 (k:Bool):Ct Tryz.prog 70 [.sl k 3 ((AX 20 (-10) 0 0).map Zm),.agg (Y7 T0)] (.tup [.sl false 3 ((AX 40 (-20) 0 0).map Zm),B true]):=Zc6 20 (-10) 0 0 k
theorem mov2 (k:Bool):Ct Tryz.prog 70 [.sl k 3 ((AX 40 (-20) 0 0).map Zm),.agg (Y7 T0)] (.tup [.sl false 3 ((AX 60 (-30) 0 0).map Zm),B true]):=Zc6 40 (-20) 0 0 k
theorem Znw:Ct Tryz.prog 34 [AL true A0,.sl true 6 ([T0,T0,T0].map Y7),I 30,I 0,I 10] (.tup [I 1,I 2,I 0]):=by
 refine t34.1 (by simp [AL,A0,Zm,KFR,Y7,T0]) (by simp) ?_;dsimp only [c34,r34,AL,go_sem];refine call ZoZ ?_;dsimp only [go_sem];refine Zo rfl ?_;dsimp only [go_sem];refine Zo rfl ?_;dsimp only [go_sem];refine call (Zi9 [T0,T0,T0] (by simp) true) ?_;dsimp only [go_sem];rw [show [T0,T0,T0].all ZcP=true from rfl];refine Zo rfl ?_;dsimp only [go_sem];refine Yd [4,1,2,3,5] (Zde (AX 0 0 0 0) true 0 (-1) (-1) 0 (by decide) (by decide) near0 (.inl rfl)) rfl rfl rfl ?_ ?_ ?_
 . (repeat first | dsimp only [go_sem] | simp only [nbr])
   try simp [mtL,mtB,mtS]
 . (repeat first | dsimp only [XM,go_sem] | simp only [nbr])
   try simp [mtL,mtB,mtS,Zc,KFL,KF,KFR,Za,Zm,A0,AX]
 rintro _ rfl
 (repeat first | dsimp only [XM,go_sem] | simp only [nbr])
 simp only [show ((0:Int)=2)=False from by simp,false_and,if_false,show ¬ ((1:Int)<=0) from by decide];try dsimp only [go_sem]
 refine ZY 4 ?_;dsimp only [Zb,go_sem];refine Zr rfl ?_;dsimp only [go_sem];refine Zp 0 (by decide) rfl ?_;dsimp only [go_sem];refine call (mov0 true) ?_;dsimp only [go_sem];refine Zo rfl ?_;dsimp only [go_sem];rw [show IntKind.i64.wrap ((0:Int)+1)=1 from rfl];refine Yd [4,1,2,3,5] (Zde (AX 20 (-10) 0 0) false 1 (-1) (-1) 1 (by decide) (by decide) near1 (.inr (.inl rfl))) rfl rfl rfl ?_ ?_ ?_
 . (repeat first | dsimp only [go_sem] | simp only [nbr])
   try simp [mtL,mtB,mtS]
 . (repeat first | dsimp only [XM,go_sem] | simp only [nbr])
   try simp [mtL,mtB,mtS,Zc,KFL,KF,KFR,Za,Zm,A0,AX]
 rintro _ rfl
 (repeat first | dsimp only [XM,go_sem] | simp only [nbr])
 try simp only [show ¬ ((1:Int)=2) from by decide,show ((1:Int)<=1) from by decide,show ((1:Int)<=2) from by decide,show ((-1:Int) < 0) from by decide,show ¬ ((1:Int) < 0) from by decide,show ¬ ((2:Int) < 0) from by decide,true_and,false_and,and_false,if_true,if_false]
 try dsimp only [go_sem]
 refine Zr rfl ?_;dsimp only [go_sem];refine Zp 1 (by decide) rfl ?_;dsimp only [go_sem];refine call (mov1 false) ?_;dsimp only [go_sem];refine Zo rfl ?_;dsimp only [go_sem];rw [show IntKind.i64.wrap (IntKind.i64.wrap ((0:Int)+1)+1)=2 from rfl];refine Yd [4,1,2,3,5] (Zde (AX 40 (-20) 0 0) false 2 1 (-1) 2 (by decide) (by decide) near2 (.inr (.inr rfl))) rfl rfl rfl ?_ ?_ ?_
 . (repeat first | dsimp only [go_sem] | simp only [nbr])
   try simp [mtL,mtB,mtS]
 . (repeat first | dsimp only [XM,go_sem] | simp only [nbr])
   try simp [mtL,mtB,mtS,Zc,KFL,KF,KFR,Za,Zm,A0,AX]
 rintro _ rfl
 (repeat first | dsimp only [XM,go_sem] | simp only [nbr])
 try simp only [show ¬ ((1:Int)=2) from by decide,show ((1:Int)<=1) from by decide,show ((1:Int)<=2) from by decide,show ((-1:Int) < 0) from by decide,show ¬ ((1:Int) < 0) from by decide,show ¬ ((2:Int) < 0) from by decide,true_and,false_and,and_false,if_true,if_false]
 try dsimp only [go_sem]
 refine Zr rfl ?_;dsimp only [go_sem];refine Zp 2 (by decide) rfl ?_;dsimp only [go_sem];refine call (mov2 false) ?_;dsimp only [go_sem];refine Zo rfl ?_;dsimp only [go_sem];rw [show IntKind.i64.wrap (IntKind.i64.wrap (IntKind.i64.wrap ((0:Int)+1)+1)+1)=3 from rfl];refine Yd [4,1,2,3,5] (Zde (AX 60 (-30) 0 0) false 3 1 2 1 (by decide) (by decide) near3 (.inr (.inl rfl))) rfl rfl rfl ?_ ?_ ?_
 . (repeat first | dsimp only [go_sem] | simp only [nbr])
   try simp [mtL,mtB,mtS]
 . (repeat first | dsimp only [XM,go_sem] | simp only [nbr])
   try simp [mtL,mtB,mtS,Zc,KFL,KF,KFR,Za,Zm,A0,AX]
 rintro _ rfl
 (repeat first | dsimp only [XM,go_sem] | simp only [nbr])
 try simp only [show ¬ ((1:Int)=2) from by decide,show ((1:Int)<=1) from by decide,show ((1:Int)<=2) from by decide,show ((-1:Int) < 0) from by decide,show ¬ ((1:Int) < 0) from by decide,show ¬ ((2:Int) < 0) from by decide,true_and,false_and,and_false,if_true,if_false]
 try dsimp only [go_sem]
 refine Zo rfl ?_;dsimp only [go_sem];refine ixa 1 rfl (by decide) ?_;dsimp only [go_sem];refine ixa 2 rfl (by decide) ?_;dsimp only [go_sem]
def c74:SC:=(sr1 [o1 3 (Jz 0 0 29),o1 4 (Jz 1 0 31),o1 5 (Jz 2 0 168),o1 6 (.alloc zv0 27),Jk 7 0] (.seq (sr1 [o1 13 (lt 3 17),o1 14 (lt 4 7),o1 15 (lt 5 8),o1 16 (.bsl 8 168 [.t 15]),o1 17 (J3 118 13 14 16),m1 8 17] (sr1 [m1 18 8,o1 19 (Jc .neq 18
 0)] (Ji 19 (sr1 [o1 20 (.build zv0 []),m1 21 8,Js 6 20 2,m1 7 21] .ret) .skip))) (sr1 [o1 9 (.alloc zv0 27)] (sr1 [o1 10 (.alloc [.bool false] 4),Jv 10 Jt 1] (.seq (.seq (.regd (Jr 7) [Jo 22 (lt 3 17),Jo 23 (lt 4 7),Jp 24 (.build zv1 [(0,17,.t
 22),(17,7,.t 23)]) [0,1],Jo 25 (lt 5 8),Jp 26 (.bsl 8 168 [.t 25]) [3],Jp 27 (.call 120 [.t 26,cn 60]) [4]] 0 0 [⟨some 28,.callm 119 [.t 24,.t 27],none,[2,5]⟩]) (.block 0 (.gh (.rfun (.t 28) [29,30] (.reg [m1 12 30]) (.block 1 (.seq (sr1 [m1 31 12,o1
 32 (.bin .eql (.t 31) (.c (.int .u8 2)))] (Ji 32 (.exit 0) .skip)) (sr1 [o1 33 (ao 9 1),o1 34 (lf 33 1),o1 35 (Jc .add 34 1),o1 36 (ao 9 1),Js 36 35 1] (sr1 [o1 37 (lf 10 1),m1 38 37,g1 39 38 true (.mv (.t 12)),g1 40 38 true (.bin .eql (.t 39) (.c
 (.int .u8 0))),o1 41 (.pick (.t 38) (.t 40) Jf),Js 10 41 1] (sr1 [o1 42 (lf 10 1)] (Ji 42 (.reg [o1 43 (ao 9 0),o1 44 (lf 43 1),o1 45 (Jc .add 44 1),o1 46 (ao 9 0),Js 46 45 1]) .skip)))))))))) (sr1 [o1 47 (lt 9 2),Js 6 47 2,Jk 7 0] .ret))))))
def r74:List RV:=[.cell 6 2 true,.tmp 7]
theorem t74:Qt1 Tryz.prog 74 c74 r74 48:=ZH Tryz.func74
def c75:SC:=(sr1 [o1 3 (Jz 0 0 29),o1 4 (Jz 1 0 31),o1 6 (.alloc [.slice none 0 0] 169),o1 7 (.alloc [.int .u8 0] 5),o1 8 (.alloc [.int .i64 0] 3),o1 9 (.alloc [.int .i64 0] 40)] (.seq (sr1 [o1 13 (lt 3 17),o1 14 (lt 4 7),m1 15 2,o1 16 (J3 118 13 14
 15),m1 10 16] (sr1 [m1 17 10,o1 18 (Jc .neq 17 0)] (Ji 18 (sr1 [m1 19 10,Jv 6 (.c (.slice none 0 0)) 1,Jv 7 (.c (.int .u8 0)) 1,Jv 8 (cn 0) 1,Js 9 19 1] .ret) .skip))) (.seq (sr1 [o1 20 (lt 3 17),o1 21 (lt 4 7),o1 22 (.build zv1 [(0,17,.t
 20),(17,7,.t 21)]),m1 23 2,o1 24 (.callm 119 [.t 22,.t 23])] (.block 0 (.gh (.rfun (.t 24) [25,26] (sr1 [o1 11 (.alloc zv1 215),Js 11 25 24] (.reg [m1 12 26])) (.block 1 (.seq (sr1 [m1 27 12,o1 28 (.bin .eql (.t 27) (.c (.int .u8 2)))] (Ji 28 (sr1
 [m1 29 12,o1 30 (lf 6 1),o1 31 (Jl 30),Jv 6 (.c (.slice none 0 0)) 1,Js 7 29 1,Js 8 31 1,Jv 9 (cn 13) 1] .ret) .skip)) (.regd [0,1,2,3,5,6,7,4,8,9] [Jo 32 (lf 6 1),Jo 33 (ao 11 17),Jp 34 (lt 33 7) [1],Jp 35 (.bsl 7 31 [.t 34]) [2],.hide (.t 32),.hide
 (.t 6),Jo 37 (lf 7 1),Jm 38 12,Jp 39 (.mm true [.t 37,.t 38]) [5,6]] 0 3 [⟨some 36,.appm 7 56 31 (.t 32) (.t 35),none,[0,3]⟩,Ju 6 36 1 (Jr 5),Ju 7 39 1 (Jr 9)]))))))) (.seq (.regd (Jr 6) [Jo 40 (lf 6 1),.hide (.t 6),Jo 41 (lf 7 1)] 0 4 [Ju 6 40 1
 [0],Ju 7 41 1 [0,1,2],⟨none,.st (.t 8) (cn 0) 1,none,(Jr 4)⟩,⟨none,.st (.t 9) (cn 0) 1,none,(Jr 5)⟩]) .ret))))
def r75:List RV:=[.cell 6 1 false,.cell 7 1 false,.cell 8 1 false,.cell 9 1 false]
theorem t75:Qt1 Tryz.prog 75 c75 r75 42:=ZH Tryz.func75
def c118:SC:=(sr1 [o1 3 (Jz 0 0 29),o1 4 (Jz 1 0 31),Jk 6 0] (.seq (sr1 [o1 8 (lt 3 17),o1 9 (lt 4 7),o1 10 (J2 54 8 9),m1 7 10] (sr1 [m1 11 7,o1 12 (Jc .neq 11 0)] (Ji 12 (sr1 [m1 13 7,m1 6 13] .ret) .skip))) (.seq (sr1 [m1 14 2,o1 15 (Jl 14),o1 16
 (Jc .gtr 15 60)] (Ji 16 (sr1 [Jk 6 4] .ret) .skip)) (sr1 [m1 17 2,o1 18 (J1 152 17),m1 6 18] .ret))))
def r118:List RV:=[.tmp 6]
theorem t118:Qt1 Tryz.prog 118 c118 r118 19:=ZH Tryz.func118
def c119:SC:=(sr1 [o1 2 (Jz 0 0 215),o1 3 (Jz 1 0 172),o1 4 (.mv (.c (.nilFunc)))] (sr1 [o1 5 (.mkf 153 [.t 3,.t 2]),m1 4 5] .ret))
def r119:List RV:=[.tmp 4]
theorem n119:Tryz.f119.ntmps=6:=by kernel_rfl
theorem b119:Yn Tryz.prog 119=true:=by kernel_rfl
theorem ZvJ:Xi Tryz.prog c119 ((Tryz.f119.body).getD .skip)=true:=by kernel_rfl
theorem Zt2:XV Tryz.prog r119 Tryz.f119.results.toList=true:=by kernel_rfl
theorem m119 {n0:Nat} {hp0:List (Nat × HB)} {args:List SV} {ZO:Ot->Prop} (hh:hpb n0 hp0) (hx:∀ o,ZO o->KX o.res/\KXP o.hp) (h:sx Tryz.prog Y0 n0 c119 ⟨Xx 0 args,hp0,n0,6,[]⟩ (Uk r119 λo=>∃ o',ZO o'/\Zbs n0 o o')) (hA:Nat.ble args.length 6=true:=by rfl):CtM Tryz.prog 119 hp0 n0 args ZO:=Yf Tryz.func119 rfl b119 ZvJ Zt2 n119 (Nat.le_of_ble_eq_true hA) hh hx h
def ZBT:SC:=(sr1 [o1 8 (lf 1 1),o1 9 (Jl 8),Jk 10 0] (.block 0 (.loop (sr1 [o1 11 (Jb .lss 10 9)] (.seq (Ji 11 .skip (.exit 0)) (.seq (.block 1 (sr1 [o1 12 (Jx 8 10 8),o1 13 (lt 12 8),o1 5 (.alloc zv8 168),Js 5 13 8] (sr1 [o1 15 (lt 2 24),o1 16 (lt 5
 8),o1 17 (J2 154 15 16),m1 14 17,o1 18 (Je 14 0),o1 19 (Je 14 1),o1 6 (.alloc zv1 215),Js 6 18 24,m1 7 19] (.seq (sr1 [m1 20 0,o1 21 (lt 6 24),m1 22 7,o1 23 (.calvm (.t 20) [.t 21,.t 22]),o1 24 (Jh 23),m1 25 24,g1 26 25 false (.mv (.t 7)),g1 27 25
 false (.bin .eql (.t 26) (.c (.int .u8 2))),o1 28 (.pick (.t 25) Jt (.t 27))] (Ji 28 .ret .skip)) (.reg [o1 29 (lt 6 24),Js 2 29 24]))))) (.reg [o1 30 (Jc .add 10 1),m1 10 30])))))))
def ZBQ:List RV:=[]
theorem n153:Tryz.f153.ntmps=31:=by kernel_rfl
theorem b153:Yn Tryz.prog 153=true:=by kernel_rfl
theorem Zyj:Xi Tryz.prog ZBT ((Tryz.f153.body).getD .skip)=true:=by kernel_rfl
theorem ZtY:XV Tryz.prog ZBQ Tryz.f153.results.toList=true:=by kernel_rfl
theorem y153 {Y:Hd} {n0:Nat} {hp0:List (Nat × HB)} {args:List SV} {ZO:Ot->Prop} (h:sx Tryz.prog Y n0 ZBT ⟨Xx 0 args,hp0,n0,31,[]⟩ (Uk ZBQ ZO)) (hA:Nat.ble args.length 31=true:=by rfl):CtY Tryz.prog Y 153 hp0 n0 args ZO:=WC Tryz.func153 rfl Zyj ZtY n153 (Nat.le_of_ble_eq_true hA) h
def c120:SC:=(sr1 [o1 4 (.mv (.c (.slice none 0 0)))] (.seq (sr1 [m1 9 1,o1 10 (Jc .lss 9 0)] (Ji 10 (.reg [o1 11 (.raw (Go.Op.makeInterface 9 (Go.Operand.const (Go.Value.string { data:=#[99,97,110,110,111,116,32,98,101,32,110,101,103,97,116,105,118,101] })))
 20),⟨none,.raw (Go.Op.panic (Go.Operand.tmp 11)) 0,none,[]⟩]) .skip)) (sr1 [m1 13 0,o1 14 (Jl 13),o1 15 (.conv .u64 (.t 14)),m1 16 1,o1 17 (.conv .u64 (.t 16)),o1 18 (J2 155 15 17),m1 12 18,o1 19 (Je 12 0),o1 20 (Je 12 1),m1 5 19,m1 6 20] (.seq (sr1
 [m1 21 5,o1 22 (.bin .gtr (.t 21) (.c (.int .u64 0))),m1 23 22,g1 24 23 false (.mv (.t 6)),g1 25 23 false (.bin .gtr (.t 24) (.c (.int .u64 9223372036854775807))),o1 26 (.pick (.t 23) Jt (.t 25))] (Ji 26 (.reg [o1 27 (.raw (Go.Op.makeInterface 9
 (Go.Operand.const (Go.Value.string { data:=#[116,104,101,32,114,101,115,117,108,116,32,111,102,32,40,108,101,110,40,120,41,32,42,32,99,111,117,110,116,41,32,111,118,101,114,102,108,111,119,115] }))) 20),⟨none,.raw (Go.Op.panic (Go.Operand.tmp 27))
 0,none,[]⟩]) .skip)) (sr1 [m1 28 6,o1 29 (.conv .i64 (.t 28)),o1 30 (.mks 8 64 zv8 168 (.t 29)),m1 7 30] (sr1 [m1 31 7,m1 32 0,o1 33 (.cpy 8 (.t 31) (.t 32)),m1 8 33] (.seq (.block 0 (.loop (.seq (sr1 [m1 34 8,m1 35 7,o1 36 (Jl 35),o1 37 (Jb .lss 34
 36)] (Ji 37 .skip (.exit 0))) (.block 1 (.regd [1,2,3,4,5,6,0,7,8,9] [Jm 39 7,Jm 40 8,Jp 41 (.sub 8 (.t 39) (some (.t 40)) none) [1,2],Jm 42 7,Jm 43 8,Jp 44 (.sub 8 (.t 42) none (some (.t 43))) [4,5],.hide (.t 41),Jm 38 8] 0 1 [⟨some 45,.cpy 8 (.t
 41) (.t 44),none,[3,6]⟩,⟨some 46,Jb .add 38 45,none,[0,7]⟩,⟨some 8,.mv (.t 46),none,(Jr 9)⟩]))))) (sr1 [m1 47 7,m1 4 47] .ret))))))))
def r120:List RV:=[.tmp 4]
theorem t120:Qt1 Tryz.prog 120 c120 r120 48:=ZH Tryz.func120
end Go.Proofs.YtongccnhomncnaaGreat
namespace Go.Proofs.YtongccnhomncnaaGreat.Cm
open Go Go.Sx Go.Azalai
theorem Zd1 (b:Breed) (c:Camel) (l:List March) (hl:l.length < 4611686018427387904) (k:Bool):Ct Tryz.prog 118 [.agg (breedL b),.agg (camelL c),.sl k 8 (l.map marchL)] (I (ZiF b c l)):=by
 refine t118.1 (by simp [breedL,camelL,marchL,Za]) (by simp) ?_;dsimp only [c118,r118,breedL,camelL,go_sem];refine call (checkCamel_ok b c) ?_;dsimp only [go_sem];by_cases h0:Zav b c=0
 case neg =>
  refine Zr (by simpa using h0) ?_;dsimp only [go_sem];simp [ZiF,h0]
 refine Zo (by simpa using h0) ?_;dsimp only [go_sem];simp only [List.length_map];by_cases h1:l.length > 60
 case pos =>
  refine Zr (by simp;omega) ?_;dsimp only [go_sem];simp [ZiF,h0,h1]
 refine Zo (by simp;omega) ?_;dsimp only [go_sem];refine call (Zas l hl k) ?_;dsimp only [go_sem];simp only [ZiF,h0,h1];by_cases h2:l.all Z3=true
 . simp [h2]
 . simp [h2]
def Zjo (b:Breed) (c:Camel) (l:List March) (k:Bool):Ot:=⟨false,.cl 153 [.p 1 0,.p 0 0],[(1,.cells [.sl k 8 (l.map marchL)] 172),(0,.cells (ZA b c) 215)],2⟩
theorem Zll (b:Breed) (c:Camel) (l:List March) (k:Bool):CtM Tryz.prog 119 [] 0 [.agg (ZA b c),.sl k 8 (l.map marchL)] (λo=>o=Zjo b c l k):=by
 refine m119 (by simp [hpb]) (λo ho=>by subst ho;simp [Zjo,KX,KXL,KXP,KXH,Za,KFL,KF,marchL,ZA]) ?_;dsimp only [c119,r119,ZA,go_sem];refine ⟨_,rfl,?_⟩;simp only [Zjo];(refine ZT ?_ ?_ ?_ rfl<;>dsimp only [ZA,marchL,id,go_sem]<;>simp [ZA,marchL,Za])
theorem days_ok (b:Breed) (c:Camel) (l:List March) (k:Bool) (hl0:l.length < 4611686018427387904):Ct Tryz.prog 75 [.agg (breedL b),.agg (camelL c),.sl k 8 (l.map marchL)] (.tup [ZlB (Uo b c l).2.2.2 (Uo b c l).1,U8 (Uo b c l).2.1,I (Uo b c l).2.2.1,I (Uo b c l).2.2.2]):=by
 refine t75.1 (by simp [breedL,camelL,marchL,Za]) (by unfold ZlB;split<;>simp [KFL,KF,Za,camelL,U8]) ?_;dsimp only [c75,r75,breedL,camelL,go_sem];refine call (Zd1 b c l hl0 k) ?_;dsimp only [go_sem];by_cases h0:ZiF b c l=0
 case neg =>
  refine Zr (by simpa using h0) ?_;dsimp only [go_sem];simp [Uo,h0,ZlB,U8]
 refine Zo (by simpa using h0) ?_;dsimp only [go_sem];obtain ⟨hb,hc,h60,hl⟩:=Zth h0;have hall:=List.all_eq_true.1 hl;have hbd:=breed_bd hb;have hF:Uo b c l=Zfp b c [] 0 l:=by simp [Uo,h0]
 rw [hF];refine Zan [] (Zll b c l k) rfl rfl rfl ?_ ?_ ?_
 . exact Zc (by simp [breedL,camelL,ZA,marchL,Za])
 . trivial
 dsimp only [Zjo,ZA,go_sem];refine gh (W9 2 0 7 31 rfl rfl) ?_;dsimp only [go_sem];refine ⟨b153,λrec=>?_⟩;refine y153 ?_;dsimp only [ZBT,ZBQ,go_sem];refine YF (λs:Nat × Nat × Camel × List Camel × Int=>[(10,I s.1)]) (λs=>[(6,.cells (ZA b s.2.2.1) 215),(2,.cells [.mr 8 s.2.1] 169),(3,.cells [U8 s.2.2.2.2] 5),(8,.row s.2.1 7 (s.2.2.2.1.map camelL) 31)])
  (λs=>s.1<=l.length/\Zz b s.2.2.1=true/\s.2.2.2.1.length=s.1/\(0<=s.2.2.2.2/\s.2.2.2.2<=2)/\Zfp b s.2.2.1 s.2.2.2.1 s.2.2.2.2 (l.drop s.1)=Zfp b c [] 0 l) (λs=>l.length - s.1) (0,0,c,[],0) ⟨Nat.zero_le _,hc,rfl,⟨Int.le_refl _,by simp⟩,rfl⟩ ?_ ?_
 . (refine Zj ?_ ?_ ?_ rfl rfl<;>dsimp only [breedL,camelL,marchL,ZA,U8,id,go_sem]<;>simp [breedL,camelL,marchL,ZA,U8,Za])
 rintro ⟨j,v,c1,out,worst⟩ ⟨hj,hc1,ho,hw,hi⟩;simp only at hj hc1 ho hw hi;dsimp only [ZA,U8,go_sem];simp only [List.length_map];by_cases hlt:j < l.length
 . refine Zr (by simpa using hlt) ?_;dsimp only [go_sem];rw [List.drop_eq_getElem_cons hlt,Zfp] at hi;have hm:=hall l[j] (List.getElem_mem _);refine Zp j hlt rfl ?_;dsimp only [marchL,go_sem];by_cases hf2:(ZQ b c1 l[j]).2=2
   . refine call (Zc7 b c1 l[j] hb hc1 hm hf2) ?_;dsimp only [ZA,Xa,go_sem];refine ⟨rfl,rfl,?_⟩;refine Zr (by decide) ?_;dsimp only [go_sem];simp only [nbr];dsimp only [go_sem];refine ⟨rfl,?_⟩;refine gb ?_;dsimp only [go_sem];refine gb ?_;dsimp only [go_sem];refine Zr (by decide) ?_;dsimp only [go_sem];rw [if_pos hf2] at hi;rw [<- hi];simp [ZlB]
   refine call (Zky b c1 l[j] hb hc1 hm hf2) ?_;dsimp only [ZA,go_sem];refine ⟨rfl,rfl,?_⟩;refine Zo (by simpa using hf2) ?_;dsimp only [go_sem];simp only [nbr];dsimp only [go_sem];refine ⟨(by intro c hc;simp only [List.mem_singleton] at hc;subst hc;rfl),by simp;omega,?_⟩;dsimp only [go_sem];refine ⟨rfl,?_⟩;refine gb ?_;dsimp only [go_sem];refine gb ?_;dsimp only [go_sem];refine Zo (by simpa using hf2) ?_
   dsimp only [go_sem];rw [if_neg (by simpa using hf2)] at hi;have hfr:0<=(ZQ b c1 l[j]).2/\(ZQ b c1 l[j]).2<=2:=by
    unfold ZQ;simp only;split
    . simp
    . simp only;split<;>simp
   rw [Zg (n:=(j:Int)+1) (by omega) (by omega)];refine ⟨(j+1,v+1,(ZQ b c1 l[j]).1,out ++ [(ZQ b c1 l[j]).1],max worst (ZQ b c1 l[j]).2),⟨hlt,after_ok hb hc1 hm hf2,by simp [ho],(by simp only;omega),hi⟩,by simp only;omega,?_⟩;(refine Zj ?_ ?_ ?_ rfl rfl<;>dsimp only [breedL,camelL,marchL,ZA,U8,id,go_sem]<;>simp [breedL,camelL,marchL,ZA,U8,Za])
 refine Zo (by simp;omega) ?_;dsimp only [go_sem];have hje:j=l.length:=by omega
 subst hje;rw [List.drop_length,Zfp] at hi;simp only [nbr];rw [<- hi];simp [ZlB,vwN]
end Go.Proofs.YtongccnhomncnaaGreat.Cm
namespace Go.Sx
open Go
end Go.Sx
namespace Go.Proofs.YtongccnhomncnaaGreat.Cm
open Go Go.Sx Go.Azalai
def U64 (n:Int):SV:=.v (.int .u64 n)
theorem uw {n:Int} (h0:0<=n) (h1:n < 18446744073709551616):IntKind.u64.wrap n=n:=by
 have e:n % 2 ^ IntKind.u64.bits=n:=Int.emod_eq_of_lt h0 (by show n < 2 ^ 64;omega);simp only [IntKind.wrap,e,show IntKind.u64.signed=false from rfl,Bool.false_and];rfl
theorem ZcX (n:Int) (h0:0<=n) (h1:n<=1000000):Ct Tryz.prog 173 [U64 1,U64 n] (.tup [U64 0,U64 n]):=by
 refine t173.1 (by simp [U64]) (by simp [U64]) ?_;dsimp only [c173,r173,U64,go_sem];have sh:∀ (m:Int),0<=m->m < 4294967296->∀ w:World,(binOp .shr 257 (.int .u64 m) (.int .u64 32)).run Tryz.prog w = .ok (.int .u64 0) w:=λm q0 q1 w=>by
  simp only [binOp,Op.shift];rw [if_neg (by decide)];have:m.fdiv (2 ^ 32)=0:=by rw [Int.fdiv_eq_ediv_of_nonneg _ (by decide)];omega
  show Result.ok (Value.int .u64 (m.fdiv (2 ^ (min (32:Int).toNat IntKind.u64.bits)))) w=_;rw [show min (32:Int).toNat IntKind.u64.bits=32 from by decide,this]
 have an:∀ (m:Int),0<=m->m < 4294967296->∀ w:World,(binOp .and 257 (.int .u64 m) (.int .u64 4294967295)).run Tryz.prog w = .ok (.int .u64 m) w:=λm q0 q1 w=>by
  obtain ⟨k,rfl⟩:=Int.eq_ofNat_of_zero_le q0;have hk:k < 4294967296:=by omega
  have e:(BitVec.ofInt 64 (k:Int) &&& BitVec.ofInt 64 4294967295).toNat=k:=by
   rw [BitVec.toNat_and,show (BitVec.ofInt 64 4294967295).toNat=2 ^ 32 - 1 from by decide,Nat.and_two_pow_sub_one_eq_mod,BitVec.ofInt_natCast,BitVec.toNat_ofNat];omega
  show Result.ok (Value.int .u64 (IntKind.u64.wrap (((BitVec.ofInt 64 (k:Int) &&& BitVec.ofInt 64 4294967295).toNat:Nat):Int))) w=_;rw [e,uw (by omega) (by omega)]
 refine YO rfl (.inl rfl) (an 1 (by omega) (by omega)) rfl ?_;dsimp only [go_sem];refine YO rfl (.inr rfl) (sh 1 (by omega) (by omega)) rfl ?_;dsimp only [go_sem];refine YO rfl (.inl rfl) (an n (by omega) (by omega)) rfl ?_;dsimp only [go_sem];refine YO rfl (.inr rfl) (sh n (by omega) (by omega)) rfl ?_;dsimp only [go_sem];simp (disch:=omega) only [uw,Int.one_mul,Int.zero_mul,Int.mul_zero,Int.add_zero,Int.zero_add]
 refine YO rfl (.inr rfl) (sh n (by omega) (by omega)) rfl ?_;dsimp only [go_sem];simp (disch:=omega) only [uw,Int.one_mul,Int.zero_mul,Int.mul_zero,Int.add_zero,Int.zero_add];refine YO rfl (.inl rfl) (an 0 (by omega) (by omega)) rfl ?_;dsimp only [go_sem];refine YO rfl (.inr rfl) (sh 0 (by omega) (by omega)) rfl ?_;dsimp only [go_sem];simp (disch:=omega) only [uw,Int.one_mul,Int.zero_mul,Int.mul_zero,Int.add_zero,Int.zero_add]
 refine YO rfl (.inr rfl) (sh 0 (by omega) (by omega)) rfl ?_;dsimp only [go_sem];simp (disch:=omega) only [uw,Int.one_mul,Int.zero_mul,Int.mul_zero,Int.add_zero,Int.zero_add]
theorem Zj3 (n:Int) (h0:0<=n) (h1:n<=1000000):Ct Tryz.prog 155 [U64 1,U64 n] (.tup [U64 0,U64 n]):=by
 refine t155.1 (by simp [U64]) (by simp [U64]) ?_;dsimp only [c155,r155,U64,go_sem];refine Zo (by decide) ?_;dsimp only [go_sem];refine call (ZcX n h0 h1) ?_;dsimp only [U64,go_sem]
theorem XI {r:List SV} (h:KFL r):∀ n,KFR (List.replicate n r)
 | 0=>trivial
 | n+1=>⟨h,XI h n⟩
theorem ZBp (m:March) (n:Nat) (h0:1<=n) (h1:n<=1000) (k:Bool):Ct Tryz.prog 120 [.sl k 8 [marchL m],I n] (.sl false 8 (List.replicate n (marchL m))):=by
 have hm:KFL (marchL m):=by simp [marchL]
 have hone:Yt (marchL m)=true:=rfl;refine t120.1 (by simp [marchL,KFR]) (by simp only [KF];exact XI hm n) ?_;generalize marchL m=row at hm hone;dsimp only [c120,r120,go_sem];refine Zo (by simp) ?_;dsimp only [go_sem];rw [show ((1:Nat):Int)=1 from rfl];simp (disch:=omega) only [uw];refine call (Zj3 n (by omega) (by omega)) ?_;dsimp only [U64,go_sem];refine gb ?_;dsimp only [go_sem];refine gb ?_;dsimp only [go_sem]
 refine Zo (by simp;omega) ?_;dsimp only [go_sem];refine ⟨n,Zg (by omega) (by omega),by omega,?_⟩;have hz:KFL [SV.v (Value.int IntKind.i64 0),SV.v (Value.int IntKind.i64 0),SV.v (Value.int IntKind.i64 0),SV.v (Value.int IntKind.i64 0),SV.v (Value.int IntKind.i64 0),SV.v (Value.int IntKind.i64 0),SV.v (Value.int IntKind.i64 0),SV.v (Value.int IntKind.i64 0)]:=by simp
 generalize [SV.v (Value.int IntKind.i64 0),SV.v (Value.int IntKind.i64 0),SV.v (Value.int IntKind.i64 0),SV.v (Value.int IntKind.i64 0),SV.v (Value.int IntKind.i64 0),SV.v (Value.int IntKind.i64 0),SV.v (Value.int IntKind.i64 0),SV.v (Value.int IntKind.i64 0)]=z at hz;dsimp only [go_sem];refine ⟨(by intro c hc;simp only [List.mem_singleton] at hc;subst hc;exact hone),by simp,?_⟩;have hmin:min n 1=1:=by omega
 simp only [List.length_replicate,List.length_singleton,hmin,List.drop_replicate];dsimp only [go_sem];refine YF (λj:Nat=>[(8,I j)]) (λj=>[(0,.row 0 8 (List.replicate j row ++ List.replicate (n - j) z) 168)]) (λj=>1<=j/\j<=n) (λj=>n - j) 1 ⟨Nat.le_refl _,h0⟩ ?_ ?_
 . refine Zj ?_ ?_ ?_ rfl rfl<;>dsimp only [id,go_sem]<;>simp [Zd,XI,hz,hm,Zc,mtO,nbr,KFR,KFL,KF]
 rintro j ⟨hj0,hj⟩;dsimp only [go_sem];simp only [List.length_append,List.length_replicate,show j+(n - j)=n from by omega];by_cases hlt:j < n
 . refine Zr (by simpa using hlt) ?_;dsimp only [go_sem];refine ⟨j,n,⟨rfl,by simp;omega,by omega,by simp;omega⟩,?_⟩;dsimp only [go_sem];refine ⟨0,j,⟨rfl,rfl,by omega,by simp⟩,?_⟩;dsimp only [go_sem];have hx:List.take (j - 0) (List.replicate j row ++ List.replicate (n - j) z)=List.replicate j row:=by rw [Nat.sub_zero];exact List.take_left' (by simp)
   have hx':List.take j (List.replicate j row ++ List.replicate (n - j) z)=List.replicate j row:=List.take_left' (by simp);rw [hx];refine ⟨by simp,(by intro c hc;rw [List.eq_of_mem_replicate hc];exact hone),by simp,?_⟩;simp only [List.length_replicate];generalize hN:min (n - j) j=N;have e:List.take j (List.replicate j row ++ List.replicate (n - j) z) ++ (List.take N (List.replicate j row) ++ List.drop (j+N) (List.replicate j row ++ List.replicate (n - j) z))=List.replicate (j+N) row ++ List.replicate (n - (j+N)) z:=by
    rw [hx',List.take_replicate,List.drop_append,List.drop_of_length_le (l:=List.replicate j row) (by simp),List.length_replicate,List.nil_append,List.drop_replicate,<- List.append_assoc,List.replicate_append_replicate,show min N j=N from by omega];congr 2;omega
   rw [e];dsimp only [go_sem];rw [show (j:Int)+(N:Int)=((j+N:Nat):Int) from by omega,Zg (n:=((j+N:Nat):Int)) (by omega) (by omega)];refine ⟨j+N,⟨by omega,by omega⟩,by omega,?_⟩;refine Zj ?_ ?_ ?_ rfl rfl<;>dsimp only [id,go_sem]<;>simp [Zd,XI,hz,hm,Zc,mtO,nbr,KFR,KFL,KF]
 refine Zo (by simp;omega) ?_;dsimp only [go_sem];have hje:j=n:=by omega
 subst hje;simp
end Go.Proofs.YtongccnhomncnaaGreat.Cm
namespace Go.Azalai
def ZbI (b:Breed) (m:March):Nat->Camel->Int->Int->Bool->Span
 | 0,_,lo,hi,_=>⟨lo,hi⟩
 | k+1,c,lo,hi,s =>
  if (ZQ b c m).2=2 then ⟨lo,hi⟩
  else ZbI b m k (ZQ b c m).1 (if (s && decide ((ZQ b c m).2=0))=true then lo+1 else lo) (hi+1) (s && decide ((ZQ b c m).2=0))
def Zeh (b:Breed) (c:Camel) (m:March):Span × Int:=if ZiF b c [m]≠0 then (⟨0,0⟩,ZiF b c [m]) else (ZbI b m 60 c 0 0 true,0)
end Go.Azalai
namespace Go.Proofs.YtongccnhomncnaaGreat.Cm
open Go Go.Sx Go.Azalai
theorem lasts_ok (b:Breed) (c:Camel) (m:March):Ct Tryz.prog 74 [.agg (breedL b),.agg (camelL c),.agg (marchL m)] (tres (Zeh b c m)):=by
 refine t74.1 (by simp [breedL,camelL,marchL]) (by simp [tres,Ze]) ?_;dsimp only [c74,r74,breedL,camelL,marchL,tres,Ze,go_sem];refine call (Zd1 b c [m] (by simp) true) ?_;dsimp only [go_sem];by_cases h0:ZiF b c [m]=0
 case neg =>
  refine Zr (by simpa using h0) ?_;dsimp only [go_sem];simp [Zeh,h0]
 refine Zo (by simpa using h0) ?_;dsimp only [go_sem];obtain ⟨hb,hc,_,hl⟩:=Zth h0;have hm:Z3 m=true:=by simpa using hl
 have hF:Zeh b c m=(ZbI b m 60 c 0 0 true,0):=by simp [Zeh,h0]
 rw [hF];refine call (ZBp m 60 (by decide) (by decide) true) ?_;rw [<- List.map_replicate];obtain ⟨l,hl⟩:∃ l,l=List.replicate 60 m:=⟨_,rfl⟩
 rw [<- hl];have hl60:l.length=60:=by rw [hl];simp
 have hlm:∀ (j:Nat) (h:j < l.length),l[j]=m:=λj h=>by subst hl;exact List.getElem_replicate _
 clear hl;dsimp only [go_sem];refine Zan [] (Zll b c l false) rfl rfl rfl ?_ ?_ ?_
 . exact Zc (by simp [breedL,camelL,ZA,marchL,Za])
 . trivial
 dsimp only [Zjo,ZA,go_sem];refine gh Xu ?_;dsimp only [go_sem];refine ⟨b153,λrec=>?_⟩;refine y153 ?_;dsimp only [ZBT,ZBQ,go_sem];refine YF (λs:Nat × Camel × Int × Bool=>[(10,I s.1)]) (λs=>[(6,.cells (ZA b s.2.1) 215),(4,.cells [I s.2.2.1,I s.1] 27),(5,.cells [B s.2.2.2] 4)])
  (λs=>s.1<=60/\Zz b s.2.1=true/\(0<=s.2.2.1/\s.2.2.1<=s.1)/\ZbI b m (60 - s.1) s.2.1 s.2.2.1 s.1 s.2.2.2=ZbI b m 60 c 0 0 true) (λs=>60 - s.1) (0,c,0,true) ⟨by simp,hc,by simp,rfl⟩ ?_ ?_
 . (refine Zj ?_ ?_ ?_ rfl rfl<;>dsimp only [breedL,camelL,marchL,ZA,id,go_sem]<;>simp [breedL,camelL,marchL,ZA,Za])
 rintro ⟨j,c1,lo,s⟩ ⟨hj,hc1,hs,hi⟩;simp only at hj hc1 hs hi;dsimp only [ZA,go_sem];simp only [List.length_map,hl60];by_cases hlt:j < 60
 . refine Zr (by simp;omega) ?_;dsimp only [go_sem];rw [show 60 - j=(60 - (j+1))+1 from by omega,ZbI] at hi;refine Zp j (by omega) rfl ?_;rw [hlm];dsimp only [marchL,go_sem];by_cases hf2:(ZQ b c1 m).2=2
   . refine call (Zc7 b c1 m hb hc1 hm hf2) ?_;dsimp only [ZA,Xa,go_sem];refine ⟨rfl,rfl,?_⟩;refine Zr (by decide) ?_;dsimp only [go_sem];refine ⟨rfl,?_⟩;refine gb ?_;dsimp only [go_sem];refine gb ?_;dsimp only [go_sem];refine Zr (by decide) ?_;dsimp only [go_sem];rw [if_pos hf2] at hi;rw [<- hi]
   refine call (Zky b c1 m hb hc1 hm hf2) ?_;dsimp only [ZA,go_sem];refine ⟨rfl,rfl,?_⟩;refine Zo (by simpa using hf2) ?_;dsimp only [go_sem];rw [if_neg hf2] at hi;rw [Zg (n:=(j:Int)+1) (by omega) (by omega)];cases s
   . refine gb ?_;dsimp only [go_sem];refine gb ?_;dsimp only [go_sem];have hf0:True:=trivial;simp only [Bool.false_and];refine Zo rfl ?_;dsimp only [go_sem];refine ⟨rfl,?_⟩;refine gb ?_;dsimp only [go_sem];refine gb ?_;dsimp only [go_sem];refine Zo (by simpa using hf2) ?_;dsimp only [go_sem];rw [Zg (n:=(j:Int)+1) (by omega) (by omega)];refine ⟨(j+1,(ZQ b c1 m).1,lo,false),⟨by simp only;omega,after_ok hb hc1 hm hf2,by simp only;omega,by simpa [hf0] using hi⟩,by simp only;omega,?_⟩
     (refine Zj ?_ ?_ ?_ rfl rfl<;>dsimp only [breedL,camelL,marchL,ZA,id,go_sem]<;>simp [breedL,camelL,marchL,ZA,Za])
   . refine gb ?_;dsimp only [go_sem];refine gb ?_;dsimp only [go_sem];by_cases hf0:(ZQ b c1 m).2=0
     . rw [show (true && (ZQ b c1 m).2 == 0)=true from by simp [hf0]];refine Zr rfl ?_;dsimp only [go_sem];rw [Zg (n:=lo+1) (by omega) (by omega)];refine ⟨rfl,?_⟩;refine gb ?_;dsimp only [go_sem];refine gb ?_;dsimp only [go_sem];refine Zo (by simpa using hf2) ?_;dsimp only [go_sem];rw [Zg (n:=(j:Int)+1) (by omega) (by omega)];refine ⟨(j+1,(ZQ b c1 m).1,lo+1,true),⟨by simp only;omega,after_ok hb hc1 hm hf2,by simp only;omega,by simpa [hf0] using hi⟩,by simp only;omega,?_⟩
       (refine Zj ?_ ?_ ?_ rfl rfl<;>dsimp only [breedL,camelL,marchL,ZA,id,go_sem]<;>simp [breedL,camelL,marchL,ZA,Za])
     . rw [show (true && (ZQ b c1 m).2 == 0)=false from by simp [hf0]];refine Zo rfl ?_;dsimp only [go_sem];refine ⟨rfl,?_⟩;refine gb ?_;dsimp only [go_sem];refine gb ?_;dsimp only [go_sem];refine Zo (by simpa using hf2) ?_;dsimp only [go_sem];rw [Zg (n:=(j:Int)+1) (by omega) (by omega)];refine ⟨(j+1,(ZQ b c1 m).1,lo,false),⟨by simp only;omega,after_ok hb hc1 hm hf2,by simp only;omega,by simpa [hf0] using hi⟩,by simp only;omega,?_⟩
       (refine Zj ?_ ?_ ?_ rfl rfl<;>dsimp only [breedL,camelL,marchL,ZA,id,go_sem]<;>simp [breedL,camelL,marchL,ZA,Za])
 refine Zo (by simp;omega) ?_;dsimp only [go_sem];have hje:j=60:=by omega
 subst hje;rw [show 60 - 60=0 from rfl,ZbI] at hi;rw [<- hi]
end Go.Proofs.YtongccnhomncnaaGreat.Cm
namespace Go.Sx
open Go Go.RowKit
def RLW (l l':List SV):Prop:=∀ (w:World) (E:Env) (n ok:Nat->Prop) (ys:List Value),RL w E n ok l ys->RL w E n ok l' ys
theorem Zdy {l:List SV}:RLW l l:=λ_ _ _ _ _ h=>h
theorem Y9 {s s':SV} {l l':List SV} (h1:Zcy s s') (h2:RLW l l'):RLW (s :: l) (s' :: l'):=ZN h1 h2
def RRW:List (List SV)->List (List SV)->Prop
 | [],[]=>True
 | r :: xs,r' :: xs'=>RLW r r'/\r'.length=r.length/\RRW xs xs'
 | _,_=>False
theorem ZdH:∀ {xs xs':List (List SV)},RRW xs xs'->xs'.length=xs.length
 | [],[],_=>rfl
 | _ :: xs,_ :: xs',h=>by simp [ZdH h.2.2]
 | [],_ :: _,h=>h.elim
 | _ :: _,[],h=>h.elim
theorem Ztm {w:World} {E:Env} {n ok:Nat->Prop} {b m:Nat}:∀ {xs xs':List (List SV)} {off:Nat},RRW xs xs'->RR w E n ok b m xs off->RR w E n ok b m xs' off
 | [],[],_,_,h=>h
 | r :: xs,r' :: xs',off,hw,h=>by
  simp only [RR] at h ⊢;obtain ⟨h0,⟨cs,h1,h2⟩,h3⟩:=h;exact ⟨by rw [hw.2.1];exact h0,⟨cs,hw.1 _ _ _ _ _ h1,h2⟩,Ztm hw.2.2 h3⟩
 | [],_ :: _,_,h,_=>h.elim
 | _ :: _,[],_,h,_=>h.elim
theorem ZjV {c:Bool} {m:Nat} {xs xs':List (List SV)} (h:RRW xs xs'):Zcy (.sl c m xs) (.sl false m xs'):=λw E n ok y hy=>by
 simp only [R] at hy ⊢;obtain ⟨a,len,cap,h1,h2,h3,h4,h5⟩:=hy;refine ⟨a,len,cap,h1,by rw [ZdH h];exact h2,⟨h3.1,λh=>by cases h⟩,by rw [ZdH h];exact h4,?_⟩;rcases h5 with h5 | ⟨b,off,h5,h6⟩
 . left;have:=ZdH h;rw [h5] at this;exact List.eq_nil_of_length_eq_zero this
 . exact .inr ⟨b,off,h5,Ztm h h6⟩
end Go.Sx
namespace Go.Proofs.YtongccnhomncnaaGreat
open Go Go.Sx
def c37:SC:=(sr1 [Jw 0 Jf] (sr1 [o1 12 (.call 32 []),m1 11 12,o1 13 (Je 11 0),o1 14 (Je 11 1),o1 1 (.alloc zv7 29),o1 2 (.alloc zv6 31),Js 1 13 17,Js 2 14 7] (sr1 [o1 16 (.call 33 []),o1 17 (.call 7 [cn 10,cn 10]),o1 18 (.call 73 [.t 16,cn 0,.t
 17]),m1 15 18,o1 19 (Je 15 0),o1 20 (Je 15 1),o1 3 (.alloc zv0 27),Js 3 19 2,m1 4 20] (sr1 [o1 22 (lt 1 17),o1 23 (lt 2 7),o1 24 (.build zv8 [(0,1,.c (.int .i64 1))]),o1 25 (J3 74 22 23 24),m1 21 25,o1 26 (Je 21 0),o1 27 (Je 21 1),o1 5 (.alloc zv0
 27),Js 5 26 2,m1 6 27] (.seq (.regd (Jr 13) [Jo 29 (lt 1 17),Jo 30 (lt 2 7),Jo 31 (.rv (Go.Op.makeSlice 172 (Go.Operand.const (Go.Value.int Go.IntKind.i64 3)) (Go.Operand.const (Go.Value.int Go.IntKind.i64 3))) []),Jp 32 (J3 75 29 30 31) [0,1,2],Jp
 28 (.mv (.t 32)) [3],Jp 33 (Je 28 0) [4],Jp 34 (Je 28 1) [4],Jp 35 (Je 28 2) [4],Jp 36 (Je 28 3) [4],Jp 7 (.mv (.t 33)) (Jr 6),Jp 8 (.mv (.t 34)) [0,1,2,3,4,5,6,9],Jp 9 (.mv (.t 35)) [0,1,2,3,4,5,6,7,9,10],Jp 10 (.mv (.t 36)) (Jr 12)] 0 0 []) (.seq
 (.regd (Jr 38) [Jm 37 4,Jp 38 (Jc .eql 37 0) [0],Jp 39 (.mv (.t 38)) [1],Jq 40 39 true (lt 3 2) [2],Jq 41 39 true (.call 7 [cn 2,cn 3]) [2],Jq 42 39 true (.eqs false true [1,1] (.t 40) (.t 41)) [2,3,4],Jp 43 (.pick (.t 39) (.t 42) Jf) [2,5],Jp 44
 (.mv (.t 43)) [4,6],Jq 45 44 true (.mv (.t 6)) [7],Jq 46 44 true (Jc .eql 45 0) [7,8],Jp 47 (.pick (.t 44) (.t 46) Jf) [7,9],Jp 48 (.mv (.t 47)) [7,10],Jq 49 48 true (lt 5 2) [11],Jq 50 48 true (.call 7 [cn 10,cn 10]) [11],Jq 51 48 true (.eqs false
 true [1,1] (.t 49) (.t 50)) [11,12,13],Jp 52 (.pick (.t 48) (.t 51) Jf) [11,14],Jp 53 (.mv (.t 52)) [13,15],Jq 54 53 true (.mv (.t 10)) [16],Jq 55 53 true (Jc .eql 54 0) [16,17],Jp 56 (.pick (.t 53) (.t 55) Jf) [16,18],Jp 57 (.mv (.t 56)) [16,19],Jq
 58 57 true (.mv (.t 8)) [20],Jq 59 57 true (.bin .eql (.t 58) (.c (.int .u8 0))) [20,21],Jp 60 (.pick (.t 57) (.t 59) Jf) [20,22],Jp 61 (.mv (.t 60)) [20,23],Jq 62 61 true (.mv (.t 7)) [24],Jq 63 61 true (Jl 62) [24,25],Jq 64 61 true (Jc .eql 63 3)
 [24,26],Jp 65 (.pick (.t 61) (.t 64) Jf) [24,27],Jp 66 (.mv (.t 65)) [24,28],Jq 67 66 true (.mv (.t 7)) [29],Jq 68 66 true (.ixs (.t 67) (cn 2) 7) [29,30],Jq 69 66 true (ao 68 0) [29,31],Jq 70 66 true (lt 69 2) [29,32],Jq 71 66 true (.call 7 [cn
 70,cn 70]) [29],Jq 72 66 true (.eqs false true [1,1] (.t 70) (.t 71)) [29,33,34],Jp 73 (.pick (.t 66) (.t 72) Jf) [29,35],Jp 0 (.mv (.t 73)) (Jr 37)] 0 0 []) .ret))))))
def r37:List RV:=[.tmp 0]
theorem t37:Qt1 Tryz.prog 37 c37 r37 74:=ZH Tryz.func37
def c10:SC:=(sr1 [o1 0 (.alloc zv3 34)] (sr1 [o1 4 (.call 32 []),m1 3 4,o1 5 (Je 3 0),o1 6 (Je 3 1),o1 1 (.alloc zv7 29),o1 2 (.alloc zv6 31),Js 1 5 17,Js 2 6 7] (.seq (.regd (Jr 10) [Jo 7 (.call 33 []),Jp 8 (.call 7 [cn 10,cn 10]) [0],Jo 9 (lt 1
 17),Jo 10 (lt 2 7),Jo 11 (.rv (Go.Op.makeSlice 46 (Go.Operand.const (Go.Value.int Go.IntKind.i64 2)) (Go.Operand.const (Go.Value.int Go.IntKind.i64 2))) []),Jo 12 (.bsl 1 3 [cn 0,cn 9]),Jp 13 (.build ZyB [(4,1,.t 11),(5,1,.t 12)]) [4,5],Jp 14 (.bsl 6
 89 [.t 13]) [6],Jp 15 (.build zv3 [(0,2,.t 7),(2,2,.t 8),(4,17,.t 9),(21,7,.t 10),(28,1,.c (.int .i64 2)),(29,1,.c (.int .i64 1)),(30,1,.c (.int .i64 50)),(31,1,.c (.int .i64 2)),(32,1,.c (.int .i64 3)),(35,1,.c (.int .i64 9)),(36,1,.t 14)])
 [0,1,2,3,7]] 0 1 [Ju 0 15 37 (Jr 9)]) .ret)))
def r10:List RV:=[.cell 0 37 true]
theorem t10:Qt1 Tryz.prog 10 c10 r10 16:=ZH Tryz.func10
end Go.Proofs.YtongccnhomncnaaGreat
namespace Go.Sx
open Go Go.RowKit
theorem Zs8 {P:Program} {σ : St} {m b:Nat} {z:List Value} {T:TypeId} {kd:IntKind} {n k:Nat} {op:Op} (hc:ZM P (.mks m b z T (.c (.int kd (k:Int)))) op=true) (hlim:k * b<=140737488355328) (hxs:1<=k) :
 RBE P op [] σ (.sl false m (List.replicate k (lit z))):=by
 intro o ho C E hpX nX a w next Q hx hS hR hn;subst ho;obtain ⟨v,w',e1,e2,e3⟩:=ZfA (a:=a) (C:=C) (E:=E) (hp:=hpX) (n:=nX) (w:=w) (kd:=kd) (k:=k) hc rfl hlim;refine Zy e1 (by simp) (hn w' v (Xl hS e2) (Z5 e2) ?_);rcases e3 with ⟨h,_⟩ | ⟨cap,cs,h1,h2,h3,⟨h4,h4'⟩,h5,h6,h7⟩
 . have:=congrArg List.length h;simp at this;omega
 . simp only [R];refine ⟨_,_,_,h1,rfl,⟨h4,λh=>by cases h⟩,h5,.inr ⟨_,0,rfl,?_⟩⟩;refine XS (cs:=cs) (ok:=okS C E hpX) (WG hS (Nat.le_refl _)) (λj c hj=>by rw [cell_of_row _ _ _ _ _ _ h2];simpa using hj) (λb hb _=>⟨hb,rfl⟩) _ 0 h6 ?_;have h8:=ZE (Z5 (ok:=okS C E hpX) e2).c (λ_ _=>Ele.rfl) (λ_ h=>h) _ _ h7;simpa using h8
theorem Zrx {P:Program} {C:Cx} {E:Env} {hp:List (Nat × HB)} {n:Nat->Prop} {a:Act} {w:World} {o:Oper} {m b:Nat} {T:TypeId} {x y:X} {sx sy:SV} {xs ys:List (List SV)} (hc:ZM P (.cln m b T x y) o.op=true) (hRx:R w E n (okS C E hp) sx (evX a x)) (hRy:R w E n (okS C E hp) sy (evX a y))
 (hx:Zh4 m sx=some xs) (hy:ZdX m sy=some ys) (hys:ys≠[]) (hlim:(xs.length+ys.length) * b<=140737488355328) :
 ∃ v w',(execOp a.eval o).run P w = .ok (.value v) w'/\Below w.heap.size w w'/\ZzM C E hp n w w' m (xs ++ ys) T v:=by
 obtain ⟨dst,op,ty,pos,after,guard⟩:=o;cases op<;>simp [ZM] at hc
 rename_i c;obtain ⟨callee,az,ts⟩:=c;cases callee<;>try (simp at hc;done)
 rename_i bi;cases bi<;>try (simp at hc;done)
 simp only [Bool.and_eq_true,beq_iff_eq,Nat.blt_eq] at hc;obtain ⟨⟨⟨⟨⟨hc,hsz⟩,hby⟩,hb0⟩,hz⟩,hm0⟩:=hc;split at hz
 case h_2=>cases hz
 rename_i z hz';simp only [beq_iff_eq] at hz;split at hc
 . rename_i x' y' t t' e1 e2;simp only [Bool.and_eq_true,beq_iff_eq] at hc;obtain ⟨⟨⟨rfl,c1⟩,c2⟩,c3⟩:=hc;have c3':P.underlying t=some (.slice T):=by split at c3<;>simp_all
   have has:az.map a.eval = #[evX a x,evX a y]:=by apply Array.toList_inj.1;simp [e1,Zf c1 a,Zf c2 a]
   have hts:ts = #[t,t]:=by apply Array.toList_inj.1;simpa using e2
   obtain ⟨cx,x1,x2,x3,a0,x4⟩:=Zaf hRx hx;obtain ⟨cy,y1,y2,y3⟩:=WF hRy hy;have hlim2:xs.length+ys.length<=140737488355328:=Nat.le_trans (Nat.le_mul_of_pos_right _ hb0) hlim;obtain ⟨v,w',q1,q2,q3⟩:=Wm (P:=P) (ty:=ty) c3' hsz hby hz' x1 ⟨a0,x4⟩ y1 hlim hlim2;refine ⟨v,w',by simp [execOp,resolve,has,hts,invoke,builtin,q1],q2,?_⟩;rcases q3 with ⟨g0,rfl,rfl⟩ | ⟨g0,cap,g1,rfl,rfl⟩
   . exact absurd (List.eq_nil_of_length_eq_zero g0) hys
   . have hcy:cy.length=ys.length * m:=by rw [ZC y2];exact Xe y3
     have hcx:cx.length=xs.length * m:=by rw [ZC x2];exact Xe x3
     refine .inr ⟨cap,_,by simp,heap_alloc_new _ _,?_,⟨by simpa using g1,by omega⟩,by simp;omega,λr hr=>?_,?_⟩
     . simp only [Array.size_append,List.size_toArray,Builtin.zeroCells,Array.size_map,Array.size_range,hz,hcy,hcx];rw [<- Nat.add_mul,<- Nat.add_mul];congr 1;omega
     . rcases List.mem_append.1 hr with hr | hr
       . exact x3 r hr
       . exact y3 r hr
     . have e:∀ Z:Array Value,List.take ((xs ++ ys).length * m) (cx.toArray ++ cy.toArray ++ Z).toList=cx ++ cy:=λZ=>by
        rw [List.length_append,Nat.add_mul,<- hcx,<- hcy,<- List.length_append,Array.toList_append,Array.toList_append];exact List.take_left' (by simp)
       rw [e,List.flatten_append];exact Z7 x2 y2
 . cases hc
theorem Zpx {P:Program} {σ : St} {r:KT} {K:RK} {op:Op} {ty:TypeId} {m b:Nat} {T:TypeId} {x y:X} {d:Option Nat} {xs ys:List (List SV)} (hc:ZM P (.cln m b T x y) op=true) (hx:Zh4 m (rdG none σ.fr x)=some xs) (hy:ZdX m (rdG none σ.fr y)=some ys) (hys:ys≠[])
 (hlim:(xs.length+ys.length) * b<=140737488355328) (h:Znd d m (xs ++ ys) T σ r K):RAW P d op ty σ r K:=by
 intro o C E a w next Q e1 e2 e3 hS hn hq;have hRx:=Yw (Zu hS.hs) hS.fr (g:=none) trivial x;have hRy:=Yw (Zu hS.hs) hS.fr (g:=none) trivial y;obtain ⟨v,w',k1,k2,k3⟩:=Zrx (o:=o) (hp:=σ.hp) (by rw [e2];exact hc) hRx hRy hx hy hys hlim;obtain ⟨E',σ',h1,h2⟩:=ZdB h hS k2 k3;refine Zy k1 (by simp) ?_;show next (a.put o.dst _) _;rw [e1];exact hn σ' E' _ _ h1 h2
end Go.Sx
namespace Go.Azalai
def Zak:Breed:=⟨100,10,⟨10,10⟩,⟨0,0⟩,⟨0,0⟩,⟨0,0⟩,⟨0,0⟩,⟨0,0⟩,0,⟨50,50⟩⟩
def Zat:Camel:=⟨⟨100,100⟩,⟨10,10⟩,⟨0,0⟩,false⟩
def ZeT:Land:=⟨[⟨0,0,0,⟨0,0⟩,0,⟨0,0⟩,0⟩,⟨30,0,0,⟨5,5⟩,100,⟨0,0⟩,0⟩],[⟨0,1,⟨20,30⟩,[⟨⟨0,0⟩,⟨99,99⟩⟩]⟩]⟩
def Ztw:March:=⟨1,0,⟨0,0⟩,⟨0,0⟩,⟨0,0⟩⟩
def Ve:March:=⟨0,0,⟨0,0⟩,⟨0,0⟩,⟨0,0⟩⟩
theorem ZBi:Zeh Zak Zat Ztw=(⟨10,10⟩,0):=by decide +kernel
theorem days0:Uo Zak Zat [Ve,Ve,Ve]=([⟨⟨90,90⟩,⟨10,10⟩,⟨0,0⟩,false⟩,⟨⟨80,80⟩,⟨10,10⟩,⟨0,0⟩,false⟩,⟨⟨70,70⟩,⟨10,10⟩,⟨0,0⟩,false⟩],0,0,0):=by decide +kernel
theorem way0:X7 ZeT 0 ⟨10,10⟩=(⟨2,3⟩,0):=by decide +kernel
end Go.Azalai
namespace Go.Proofs.YtongccnhomncnaaGreat
open Go Go.Sx Go.Azalai
theorem rrw1 {r r':List SV} (h:RLW r r') (hl:r'.length=r.length):RRW [r] [r']:=⟨h,hl,trivial⟩
theorem ZmK:Ct Tryz.prog 36 [AL true A0,.agg (Y7 T0)] (.tup [AL false (AX 20 (-10) 0 0),I 0]):=by
 refine t36.1 (by simp [AL,A0,Zm,KFR,Y7,T0]) (by simp [AL,AX,Zm,KFR]) ?_;dsimp only [c36,r36,AL,go_sem];refine call Zes ?_;dsimp only [go_sem];refine Zo rfl ?_;dsimp only [Y7,go_sem];refine call (Zlx T0) ?_;dsimp only [go_sem];refine Zo rfl ?_;dsimp only [go_sem];refine call (mov0 true) ?_;dsimp only [go_sem];refine Zo rfl ?_;dsimp only [go_sem];refine call (Zfr A0 true [[.sl true 3 (A0.map Zm)]] (Zcx A0 (by decide) true true) (by simp [KFR,KFL,KF,Za,Zm,A0]) (by decide)) ?_
 dsimp only [go_sem];refine Zo rfl ?_;dsimp only [go_sem]
theorem ZrX:Ct Tryz.prog 38 [AL false (AX 20 (-10) 0 0),.agg [.sl true 3 [[I 1,I 0,I 20],[I (-1),I 0,I (-10)],[I 0,I 1,I 0],[I 0,I (-1),I 0]]]] (B true):=by
 refine t38.1 (by simp [AL,AX,Zm,KFR]) (by simp) ?_;dsimp only [c38,r38,AL,AX,Zm,go_sem];refine Zo rfl ?_;dsimp only [go_sem];refine ZY 5 ?_;dsimp only [Zb,go_sem];repeat (first | (refine Zo rfl ?_;dsimp only [go_sem]) | (refine Zr rfl ?_;dsimp only [go_sem]) | (refine ixs 0 _ rfl rfl ?_;dsimp only [go_sem]) | (refine ixs 1 _ rfl rfl ?_;dsimp only [go_sem]) | (refine ixs 2 _ rfl rfl ?_;dsimp only [go_sem]) | (refine ixs 3 _ rfl rfl ?_;dsimp only [go_sem]))
theorem Zej:Ct Tryz.prog 32 [] (.tup [.agg (Cm.breedL Zak),.agg (Cm.camelL Zat)]):=by
 refine t32.1 (by simp) (by simp [Cm.breedL,Cm.camelL,KFL,KF]) ?_;dsimp only [c32,r32,go_sem];iterate 4 (refine call (WN _ _) ?_;dsimp only [go_sem])
 rfl
theorem Zf1:Ct Tryz.prog 33 [] (.agg (Ye ZeT)):=by
 have h:Ct Tryz.prog 33 [] (.agg [.sl true 9 (ZeT.wells.map Zh),.sl true 5 [[I 0,I 1,I 20,I 30,.sl true 4 [[I 0,I 0,I 99,I 99]]]]]):=by
  refine t33.1 (by simp) (by simp [Za,KFR,Zh]) ?_;dsimp only [c33,r33,go_sem];iterate 3 (refine call (WN _ _) ?_;dsimp only [go_sem])
  rfl
 exact Ct.res h (by simp [Ye,Za,Zh,Zn,Zi]) (λw E n ok y hy=>by
  simp only [R] at hy ⊢;obtain ⟨cs,h1,h2⟩:=hy
  exact ⟨cs,h1,ZN ZgL (ZN (ZjV (xs':=[[I 0,I 1,I 20,I 30,.sl false 4 [[I 0,I 0,I 99,I 99]]]]) (rrw1 (r:=[I 0,I 1,I 20,I 30,.sl true 4 [[I 0,I 0,I 99,I 99]]]) (Y9 (λ_ _ _ _ _ h=>h) (Y9 (λ_ _ _ _ _ h=>h) (Y9 (λ_ _ _ _ _ h=>h) (Y9 (λ_ _ _ _ _ h=>h) (Y9 ZgL Zdy))))) rfl)) Zdy) _ _ _ _ _ h2⟩)
theorem Zm3:WT ZeT:=⟨by decide,by decide,by decide⟩
def ZAc:SV:=.tup [.sl false 7 [[I 90,I 90,I 10,I 10,I 0,I 0,B false],[I 80,I 80,I 10,I 10,I 0,I 0,B false],[I 70,I 70,I 10,I 10,I 0,I 0,B false]],.v (.int .u8 0),I 0,I 0]
theorem Zn7:Ct Tryz.prog 75 [.agg (Cm.breedL Zak),.agg (Cm.camelL Zat),.sl false 8 ([Ve,Ve,Ve].map Cm.marchL)] ZAc:=by
 have h:=Cm.days_ok Zak Zat [Ve,Ve,Ve] false (by decide);rw [days0] at h;exact h
theorem Ziy:Ct Tryz.prog 37 [] (B true):=by
 refine t37.1 (by simp) (by simp) ?_;dsimp only [c37,r37,go_sem];refine call Zej ?_;dsimp only [Cm.breedL,Cm.camelL,go_sem];refine call Zf1 ?_;dsimp only [go_sem];refine call (WN _ _) ?_;dsimp only [go_sem];refine call (Zgg ZeT Zm3 0 ⟨10,10⟩) ?_;rw [way0];dsimp only [sres,Ze,go_sem];refine call (Cm.lasts_ok Zak Zat Ztw) ?_;rw [ZBi];dsimp only [Cm.tres,Ze,go_sem];refine ⟨.sl false 8 ([Ve,Ve,Ve].map Cm.marchL),?_,?_⟩
 . exact Zs8 (m:=8) (b:=64) (T:=168) (kd:=.i64) (n:=0) (k:=3) (z:=zv8) (by rfl) (by decide) (by decide)
 dsimp only [go_sem];refine call Zn7 ?_;dsimp only [ZAc,go_sem];repeat (first | (refine ZR rfl ?_;dsimp only [go_sem]) | (refine call (WN _ _) ?_;dsimp only [go_sem]) | (refine ixs 2 _ rfl rfl ?_;dsimp only [go_sem]))
 rfl
theorem ZhB:Ct Tryz.prog 11 [] (B true):=by
 refine t11.1 (by simp) (by simp) ?_;dsimp only [c11,r11,go_sem];iterate 2 (refine call (WN _ _) ?_;dsimp only [go_sem])
 refine call Zlp ?_;dsimp only [go_sem];refine call Znw ?_;dsimp only [go_sem];refine call Zlp ?_;dsimp only [go_sem];refine call ZmK ?_;dsimp only [AL,go_sem];refine call Ziy ?_;dsimp only [go_sem];repeat (first | (refine ZR rfl ?_;dsimp only [go_sem]) | (refine call ZrX ?_;dsimp only [go_sem]))
 rfl
def Zdh (l:Land) (p:Span) (s to day till:Int):SV:=.tup [XX (Zdw l p s to day till) 1 ((U6 l p s to day till).map XE),I (Zdw l p s to day till)]
theorem ZqN (l:Land) (p:Span) (s to day till:Int):KF (Zdh l p s to day till):=by
 unfold Zdh XX;split<;>simp [KFL,KF,Za,XE,YC,YR]
theorem Znh (l:Land) (hs:WT l) (s to day till:Int) (p:Span):Ct Tryz.prog 29 [.agg (Ye l),I s,I to,I day,I till,.agg (Ze p)] (Zdh l p s to day till):=by
 have hw:=hs.1;have hleg:=hs.2.1;refine t29.1 (by simp [Ye,Zh,Zn,Zi,Ze,Za]) (ZqN _ _ _ _ _ _) ?_;dsimp only [c29,r29,Ye,Ze,go_sem];by_cases ha:ZaN l p=0
 case neg =>
  refine call (ZaH l hs p ha) ?_;dsimp only [go_sem];refine Zr (by simpa using ha) ?_;dsimp only [go_sem];simp [Zdh,Zdw,ha,XX]
 have hok:=Zlq ha;refine call (ZcU l hs p ha) ?_;dsimp only [Yc,go_sem];refine Zo (by decide) ?_;dsimp only [go_sem];simp only [List.length_map];have h1:=U1 hok.land;rw [Zg (n:=(l.wells.length:Int) - 1) (by omega) (by omega)];refine call (ZdY 0 (l.wells.length - 1) s to true) ?_;dsimp only [go_sem];repeat (first | (refine gb ?_;dsimp only [go_sem]) | (refine call (ZdY 0 100000 day till true) ?_;dsimp only [go_sem]))
 by_cases hr:(inR 0 (l.wells.length - 1) s && inR 0 (l.wells.length - 1) to && inR 0 100000 day && inR 0 100000 till)=true
 case neg =>
  have hb:∀ a b c d:Bool,¬ (a && b && c && d)=true->(!(a && b) || !(c && d))=true:=by decide
  refine Zr (hb _ _ _ _ hr) ?_;dsimp only [go_sem];simp [Zdh,Zdw,ha,XX,hr]
 have hb:∀ a b c d:Bool,(a && b && c && d)=true->(!(a && b) || !(c && d))=false:=by decide
 refine Zo (hb _ _ _ _ hr) ?_;dsimp only [go_sem];have he:Zdw l p s to day till=if (U6 l p s to day till).length > 200 then 9 else 0:=by simp only [Zdw,U6,ha,hr];simp
 simp only [Bool.and_eq_true,inR,decide_eq_true_eq] at hr;obtain ⟨⟨⟨hr1,hr3⟩,hd⟩,hu⟩:=hr;refine Za8 rfl rfl rfl ?_;dsimp only [go_sem];refine gh (W9 5 0 1 35 rfl rfl) ?_;dsimp only [go_sem];have hlk:=ZtM l p hs hok till to (l.wells.length+1) [] s day [] [] 0 0 [] (.v (.slice none 0 0)) Znb.start (by simp) (by omega) (by omega) (by simp;omega) (by simp) MW.nil (λu=>by simp [XH]) (.inr ⟨rfl,rfl⟩)
 have hW:(Vy l p to till (l.wells.length+1) [] s day).map (([]:List Nat) ++ ·)=U6 l p s to day till:=by simp [U6]
 rw [hW] at hlk;refine Yd [2,1,5,7,4,8,9,6] hlk rfl rfl ?_ ?_ ?_ ?_
 . rfl
 . dsimp only [rho,go_sem];simp [Za]
 . dsimp only [rho,Wq,Yc,go_sem];simp [Za,Zd,KFR,KFL,KF,Zc,mtO,nbr,Yh,Yc,Zh,Zn,Zi,XE,YC,YR]
 rintro o ⟨ver',clk',hM',rfl⟩;dsimp only [Wq,Yc,go_sem];try simp only [List.nil_append]
 by_cases hl:(U6 l p s to day till).length<=200
 . refine Zo (by simp only [hl,decide_true];rfl) ?_;dsimp only [go_sem];simp only [nbr];dsimp only [go_sem];rw [Zdh,he,if_neg (by omega),ZcN (by omega)];simp [XX,vwN]
 . refine Zr (by simp only [hl,decide_false];rfl) ?_;dsimp only [go_sem];rw [Zdh,he,if_pos (by omega)];simp [XX]
end Go.Proofs.YtongccnhomncnaaGreat
namespace Go.Azalai
open Go.Sx Go.Proofs.YtongccnhomncnaaGreat
structure Bst where
 legs:List Nat
 an:Int
 sl:Int
 w:Int
deriving DecidableEq
def Xc (a:List Nat):List Int:=a.map λn:Nat=>(n:Int)
def Bst.plan (q:Bst):Plan:=⟨Xc q.legs,q.an,q.sl⟩
def Yo (q p:Bst):Bool :=
 if q.w≠p.w then decide (q.w > p.w) else if q.an≠p.an then decide (q.an < p.an) else if q.sl≠p.sl then decide (q.sl < p.sl)
 else if q.legs.length≠p.legs.length then decide (q.legs.length < p.legs.length) else Vj q.legs p.legs
def ZlG (p q:Bst):Bst:=if Yo q p then q else p
def XP (s:Season) (to:Int) (a:List Nat) (k n:Int):Bst:=⟨a,n,k,ZcK s ⟨Xc a,n,k⟩ to⟩
def ZiD (s:Season) (x:Scene):List Draw->Int->Int
 | [],n=>n
 | d :: r,n=>ZiD s x r (if d.water > 0 then min n ((ZcE s x ⟨0,d.well,⟨0,0⟩,⟨d.day,0⟩⟩).tdiv d.water) else n)
def Ztj (s:Season) (a:List Int) (k:Int):List Scene->Int->Int
 | [],n=>n
 | x :: r,n=>if (WU s ⟨a,1,k⟩ x).1≠0 then 0 else Ztj s a k r (ZiD s x (Vo s ⟨a,1,k⟩ x) n)
def ZfR (s:Season) (a:List Int) (k:Int):Int:=Ztj s a k s.scenes s.herd
def Zfx (s:Season) (to:Int) (a:List Nat) (k:Int):Nat->Bst->Bst
 | 0,b=>b
 | n+1,b=>Zfx s to a k n (ZlG b (XP s to a k (n+1:Nat)))
def Zr8 (s:Season) (to:Int) (a:List Nat) (b:Bst) (k:Nat):Bst:=Zfx s to a k (ZfR s (Xc a) k).toNat b
def ZBI (s:Season) (to:Int) (b:Bst) (a:List Nat):Bst:=(List.range 13).foldl (Zr8 s to a) b
def ZdV (s:Season):List Nat->Bst->Option Bst
 | [],b=>some b
 | g :: r,b=>if Zdw s.land s.pace s.start g s.day s.till≠0 then none else ZdV s r ((U6 s.land s.pace s.start g s.day s.till).foldl (ZBI s g) b)
def ZxI (s:Season):Option Bst:=ZdV s (List.range s.land.wells.length) ⟨[],0,0,s.herd * s.sale⟩
def Zg4 (s:Season):Plan × Int × Int :=
 if ZB s=false then (⟨[],0,0⟩,0,90) else match ZxI s with
  | none=>(⟨[],0,0⟩,0,9)
  | some b=>(b.plan,b.w,0)
theorem Zgd {s:Season} {x:Scene}:∀ {D:List Draw} {n m:Int},(m<=ZiD s x D n↔m<=n/\∀ d ∈ D,d.water > 0->m<=(ZcE s x ⟨0,d.well,⟨0,0⟩,⟨d.day,0⟩⟩).tdiv d.water)
 | [],n,m=>by simp [ZiD]
 | d :: r,n,m=>by
  rw [ZiD,Zgd];simp only [List.mem_cons,forall_eq_or_imp];split
  . rename_i h;constructor
    . rintro ⟨h1,h2⟩;exact ⟨by omega,λ_=>by omega,h2⟩
    . rintro ⟨h1,h2,h3⟩;exact ⟨by have:=h2 h;omega,h3⟩
  . rename_i h;constructor
    . rintro ⟨h1,h2⟩;exact ⟨h1,λq=>absurd q h,h2⟩
    . rintro ⟨h1,_,h3⟩;exact ⟨h1,h3⟩
theorem ZkK {s:Season} {x:Scene} (h:∀ st:Stop,0<=ZcE s x st):∀ {D:List Draw} {n:Int},0<=n->0<=ZiD s x D n
 | [],n,hn=>hn
 | d :: r,n,hn=>by
  rw [ZiD];refine ZkK h ?_;split
  . have:=Int.tdiv_nonneg (h ⟨0,d.well,⟨0,0⟩,⟨d.day,0⟩⟩) (show (0:Int)<=d.water by omega);omega
  . exact hn
theorem ZiX {s:Season} {a:List Int} {k:Int}:∀ {l:List Scene} {n:Int},0<=n->(∀ x ∈ l,∀ st:Stop,0<=ZcE s x st)->0<=Ztj s a k l n/\Ztj s a k l n<=n
 | [],n,hn,_=>⟨hn,Int.le_refl _⟩
 | x :: r,n,hn,hh=>by
  rw [Ztj];split
  . omega
  . have h1:=ZkK (hh x (List.mem_cons_self ..)) (D:=Vo s ⟨a,1,k⟩ x) hn;have h2:ZiD s x (Vo s ⟨a,1,k⟩ x) n<=n:=(Zgd.1 (Int.le_refl _)).1;have:=ZiX (s:=s) (a:=a) (k:=k) h1 (λy hy=>hh y (List.mem_cons_of_mem _ hy));omega
theorem ZcJ (b:Bst):Yo b b=false:=by simp [Yo,Vc]
theorem ZeG {a b c:Bst} (h:Yo a b=true) (h':Yo b c=true):Yo a c=true:=by
 obtain ⟨al,aa,ak,aw⟩:=a;obtain ⟨bl,ba,bk,bw⟩:=b;obtain ⟨cl,ca,ck,cw⟩:=c;simp only [Yo] at h h' ⊢;by_cases e1:aw=bw
 . subst e1;rw [if_neg (by simp)] at h;by_cases e2:aw=cw
   . subst e2;rw [if_neg (by simp)] at h' ⊢;by_cases e3:aa=ba
     . subst e3;rw [if_neg (by simp)] at h;by_cases e4:aa=ca
       . subst e4;rw [if_neg (by simp)] at h' ⊢;by_cases e5:ak=bk
         . subst e5;rw [if_neg (by simp)] at h;by_cases e6:ak=ck
           . subst e6;rw [if_neg (by simp)] at h' ⊢;by_cases e7:al.length=bl.length
             . rw [if_neg (by simp [e7])] at h;by_cases e8:al.length=cl.length
               . rw [if_neg (by omega)] at h' ⊢;exact WH h h'
               . rw [if_pos (by omega)] at h' ⊢;rw [decide_eq_true_eq] at h' ⊢;omega
             . rw [if_pos (by omega),decide_eq_true_eq] at h;by_cases e8:bl.length=cl.length
               . rw [if_pos (by omega),decide_eq_true_eq];omega
               . rw [if_pos (by omega),decide_eq_true_eq] at h';rw [if_pos (by omega),decide_eq_true_eq];omega
           . rw [if_pos e6] at h' ⊢;exact h'
         . rw [if_pos e5,decide_eq_true_eq] at h;by_cases e6:bk=ck
           . subst e6;rw [if_pos e5,decide_eq_true_eq];exact h
           . rw [if_pos e6,decide_eq_true_eq] at h';rw [if_pos (by omega),decide_eq_true_eq];omega
       . rw [if_pos e4] at h' ⊢;exact h'
     . rw [if_pos e3,decide_eq_true_eq] at h;by_cases e4:ba=ca
       . subst e4;rw [if_pos e3,decide_eq_true_eq];exact h
       . rw [if_pos e4,decide_eq_true_eq] at h';rw [if_pos (by omega),decide_eq_true_eq];omega
   . rw [if_pos e2] at h' ⊢;exact h'
 . rw [if_pos e1,decide_eq_true_eq] at h;by_cases e2:bw=cw
   . subst e2;rw [if_pos e1,decide_eq_true_eq];exact h
   . rw [if_pos e2,decide_eq_true_eq] at h';rw [if_pos (by omega),decide_eq_true_eq];omega
structure Top (b0:Bst) (C:Bst->Prop) (b:Bst):Prop where
 is:b=b0\/C b
 init:Yo b0 b=false
 all:∀ q,C q->Yo q b=false
theorem Top.zero {b0:Bst}:Top b0 (λ_=>False) b0:=⟨.inl rfl,ZcJ _,λ_ h=>h.elim⟩
theorem Top.congr {b0:Bst} {C C':Bst->Prop} {b:Bst} (h:Top b0 C b) (hc:∀ q,C' q↔C q):Top b0 C' b:=⟨h.is.imp id (hc b).2,h.init,λq hq=>h.all q ((hc q).1 hq)⟩
theorem Top.take {b0:Bst} {C:Bst->Prop} {b:Bst} (h:Top b0 C b) (q:Bst):Top b0 (λr=>C r\/r=q) (ZlG b q):=by
 unfold ZlG;have up:∀ r,Yo r b=false->Yo q b=true->Yo r q=false:=λr h1 h2=>by
  cases h3:Yo r q with
  | false=>rfl
  | true=>have:=ZeG h3 h2;rw [h1] at this;cases this
 cases hq:Yo q b with
 | false =>
  simp only [Bool.false_eq_true,if_false];exact ⟨h.is.imp id .inl,h.init,λr hr=>hr.elim (h.all r) (λe=>e ▸ hq)⟩
 | true =>
  simp only [if_true];exact ⟨.inr (.inr rfl),up _ h.init hq,λr hr=>hr.elim (λq=>up r (h.all r q) hq) (λe=>e ▸ ZcJ _)⟩
theorem Top.fold {α : Type} {b0:Bst} {f:Bst->α->Bst} {P:α->Bst->Prop} (hf:∀ {C:Bst->Prop} {b:Bst} (x:α),Top b0 C b->Top b0 (λr=>C r\/P x r) (f b x)) :
 ∀ {l:List α} {C:Bst->Prop} {b:Bst},Top b0 C b->Top b0 (λr=>C r\/∃ x ∈ l,P x r) (l.foldl f b)
 | [],C,b,h=>h.congr λq=>by simp
 | x :: r,C,b,h=>(Top.fold hf (l:=r) (hf x h)).congr λq=>by
  simp only [List.mem_cons,exists_eq_or_imp,or_assoc]
structure Ready (l:Land) (p:Span):Prop where
 small:WT l
 ok:OkLP l p
theorem Ztk {n day:Int} {o s:Gate->Int} {t:Int} (ht:t<=100000):∀ {l:List Gate} {a:Int},ZdI n day o s a l<=t↔a<=t\/∃ g ∈ l,max day (o g)+n - 1<=s g/\max day (o g)<=t
 | [],a=>by simp [ZdI]
 | g :: l,a=>by
  simp only [ZdI];rw [Ztk ht (l:=l)];simp only [List.mem_cons,exists_eq_or_imp];by_cases h:max day (o g)+n - 1<=s g
  . rw [if_pos h];constructor
    . rintro (q | q)
      . by_cases ha:a<=t
        . exact .inl ha
        . exact .inr (.inl ⟨h,by omega⟩)
      . exact .inr (.inr q)
    . rintro (q | q | q)
      . exact .inl (by omega)
      . exact .inl (by have:=q.2;omega)
      . exact .inr q
  . rw [if_neg h];constructor
    . rintro (q | q)
      . exact .inl q
      . exact .inr (.inr q)
    . rintro (q | q | q)
      . exact .inl q
      . exact absurd q.1 h
      . exact .inr q
def oK (k:Bool) (g:Gate):Int:=bif k then g.opens.hi else g.opens.lo
def sK (k:Bool) (g:Gate):Int:=bif k then g.shuts.lo else g.shuts.hi
theorem Zmr {k:Bool} {x:Leg} {p:Span} {t u:Int} (h:GoodLeg x) (hp:Z6 p=true) (hu:u<=100000) :
 leK k x p t<=u↔∃ g ∈ x.gates,max t (oK k g)+nK k x p - 1<=sK k g/\max t (oK k g)<=u:=by
 rw [(ZbG (k:=k) (t:=t) h hp).1,Ztk hu];constructor
 . rintro (q | q)
   . omega
   . exact q
 . exact λq=>.inr q
theorem Ztn {k:Bool} {x:Leg} {p:Span} {t:Int} (h:GoodLeg x) (hp:Z6 p=true) (ht:t<=100001):t<=leK k x p t/\leK k x p t<=100001:=by
 have hn:=Zq8 (k:=k) h hp;obtain ⟨_,a2,a3⟩:=ZbG (k:=k) (t:=t) h hp;have:=ZeV (day:=t) (o:=λg=>bif k then g.opens.hi else g.opens.lo) hn.1 a3;refine ⟨?_,by omega⟩;apply Classical.byContradiction;intro q;obtain ⟨g,hg,h1,h2⟩:=(Zmr (k:=k) (t:=t) (u:=leK k x p t) h hp (by omega)).1 (Int.le_refl _);omega
theorem ZeH {a b:Int} (ha:1<=a) (hb:1<=b):a<=(a+b - 1).tdiv b * b/\((a+b - 1).tdiv b - 1) * b < a:=by
 rw [Int.tdiv_eq_ediv_of_nonneg (by omega)];have h1:=Int.emod_add_mul_ediv (a+b - 1) b;have h2:=Int.emod_nonneg (a+b - 1) (show b≠0 by omega);have h3:=Int.emod_lt_of_pos (a+b - 1) (show 0 < b by omega);rw [Int.sub_mul,Int.mul_comm ((a+b - 1) / b) b];omega
theorem ZkY {x:Leg} {p:Span} (h:GoodLeg x) (hp:Z6 p=true):nK false x p<=nK true x p:=by
 simp only [Z6,ZX,decide_eq_true_eq] at hp;obtain ⟨h1,h2,h3,_,_⟩:=h;simp only [nK,cond_true,cond_false,Zcw];have u:=ZeH (a:=x.long.lo) (b:=p.hi) h1 (by omega);have v:=ZeH (a:=x.long.hi) (b:=p.lo) (by omega) (by omega);have w:0<=(x.long.hi+p.lo - 1).tdiv p.lo:=Int.tdiv_nonneg (by omega) (by omega);generalize (x.long.lo+p.hi - 1).tdiv p.hi=A at *;generalize (x.long.hi+p.lo - 1).tdiv p.lo=B at *;have q:=Int.mul_le_mul_of_nonneg_left hp.2.1 w
 apply Classical.byContradiction;intro hc;have q2:B * p.hi<=(A - 1) * p.hi:=Int.mul_le_mul_of_nonneg_right (by omega) (by omega);omega
theorem ZrD {x:Leg} {p:Span} {t:Int} (h:GoodLeg x) (hp:Z6 p=true) (ht:t<=100001):leK false x p t<=leK true x p t:=by
 have b0:=Ztn (k:=false) h hp ht;have b1:=Ztn (k:=true) h hp ht;have hn:=ZkY h hp;apply Classical.byContradiction;intro q;obtain ⟨g,hg,h1,h2⟩:=(Zmr (k:=true) (t:=t) (u:=leK true x p t) h hp (by omega)).1 (Int.le_refl _);have hm:=Xr h.g2 (Int.le_refl _) g hg;simp only [oK,sK,cond_true] at h1 h2;exact q ((Zmr (k:=false) h hp (by omega)).2 ⟨g,hg,by simp only [oK,sK,cond_false];omega,by simp only [oK,cond_false];omega⟩)
end Go.Azalai
namespace Go.Proofs.YtongccnhomncnaaGreat
open Go Go.Sx Go.Azalai
end Go.Proofs.YtongccnhomncnaaGreat
namespace Go.Azalai
theorem Zmx {x:Leg} {p:Span} {t t':Int} (h:GoodLeg x) (hp:Z6 p=true) (ht:t<=t') (ht':t'<=100001):Z0 false x p t<=Z0 true x p t':=by
 have h1:=Za2 (k:=false) h hp ht;have h2:=ZrD (t:=t') h hp ht';have h3:=ZkY h hp;simp only [Z0] at *;omega
def Trk (l:Land) (p:Span):Int->Int->Int->List Int->List Stop->Prop
 | _,_,_,[],[]=>True
 | v,a,b,i :: r,s :: ss=>∃ (k:Nat) (x:Leg),i=k/\l.legs[k]? = some x/\0<=Zk x v/\Z0 true x p b<=100000 /\
  s=⟨k,Zk x v,⟨leK false x p a,leK true x p b⟩,⟨Z0 false x p a,Z0 true x p b⟩⟩/\Trk l p (Zk x v) (Z0 false x p a) (Z0 true x p b) r ss
 | _,_,_,_,_=>False
theorem Trk.len {l:Land} {p:Span}:∀ {legs:List Int} {ss:List Stop} {v a b:Int},Trk l p v a b legs ss->ss.length=legs.length
 | [],[],_,_,_,_=>rfl
 | i :: r,s :: ss,_,_,_,h=>by obtain ⟨_,_,_,_,_,_,_,h⟩:=h;simp [h.len]
 | [],_ :: _,_,_,_,h=>h.elim
 | _ :: _,[],_,_,_,h=>h.elim
theorem Trk.at {l:Land} {p:Span} (h:OkLP l p):∀ {legs:List Int} {ss:List Stop} {v a b:Int},Trk l p v a b legs ss->a<=b->b<=100000->∀ (i:Nat) (s:Stop),ss[i]? = some s ->
 ∃ c:List Nat,c.length=i+1/\legs.take (i+1)=c.map (λn:Nat=>(n:Int))/\goW true l p v b c=some (s.well,s.arrives.hi)/\goW false l p v a c=some (s.well,s.arrives.lo)
 | [],[],_,_,_,_,_,_,i,s,hs=>by simp at hs
 | j :: r,s0 :: ss,v,a,b,q,hab,hb,i,s,hs=>by
  obtain ⟨k,x,rfl,hx,ho,hr,rfl,q⟩:=q;have hm:=Zmx (h.leg hx) h.pace hab (by omega);cases i with
  | zero =>
   simp only [List.getElem?_cons_zero,Option.some.injEq] at hs;subst hs;refine ⟨[k],rfl,by simp,?_,?_⟩
   . simp only [goW,hx];rw [if_neg (by omega),if_neg (by omega)]
   . simp only [goW,hx];rw [if_neg (by omega),if_neg (by omega)]
  | succ i =>
   simp only [List.getElem?_cons_succ] at hs;obtain ⟨c,h1,h2,h3,h4⟩:=Trk.at h q hm hr i s hs;refine ⟨k :: c,by simp [h1],by simp [h2],?_,?_⟩
   . simp only [goW,hx];rw [if_neg (by omega),if_neg (by omega)];exact h3
   . simp only [goW,hx];rw [if_neg (by omega),if_neg (by omega)];exact h4
 | [],_ :: _,_,_,_,q,_,_,_,_,_=>q.elim
 | _ :: _,[],_,_,_,q,_,_,_,_,_=>q.elim
theorem ZlW {l:Land} {p:Span}:∀ {legs:List Int} {v a b:Int} {k:Nat} {acc ss:List Stop} {at':Int},Wz l v legs k=none->goS l p v a b legs k acc=(ss,at',0)->∃ tt,ss=acc ++ tt/\at'=0/\Trk l p v a b legs tt
 | [],v,a,b,k,acc,ss,at',_,h=>by
  simp only [goS,Prod.mk.injEq] at h;exact ⟨[],by simp [h.1],h.2.1.symm,trivial⟩
 | i :: r,v,a,b,k,acc,ss,at',hb,h=>by
  simp only [Wz] at hb;by_cases he:Vh l i v < 0
  . rw [if_pos he] at hb;cases hb
  rw [if_neg he] at hb;obtain ⟨n,x,rfl,hn,hx,_,e⟩:=ZbY he;simp only [goS,Int.toNat_natCast,hx] at h;by_cases hr:Z0 true x p b > 100000
  . rw [if_pos hr] at h;simp at h
  rw [if_neg hr] at h;rw [e] at hb he;obtain ⟨tt,e1,e2,e3⟩:=ZlW hb h;exact ⟨_ :: tt,by rw [e1,List.append_assoc];rfl,e2,n,x,rfl,hx,by omega,by omega,rfl,e3⟩
theorem Zrs {l:Land} {p:Span} {s day:Int} {legs:List Int} {ss:List Stop} {at':Int} (h:Xp l p s day legs=(ss,at',0)):at'=0/\Trk l p s day day legs ss:=by
 unfold Xp at h;split at h
 . rename_i q;simp at h;exact absurd h.2.2 q
 split at h
 . simp at h
 split at h
 . simp at h
 split at h
 . simp at h
 . rename_i q;obtain ⟨tt,rfl,e2,e3⟩:=ZlW q h;exact ⟨e2,by simpa using e3⟩
theorem Zjf {l:Land} {p:Span}:∀ {c:List Nat} {v a b w u:Int} {k:Nat} {acc:List Stop},goW true l p v b c=some (w,u) ->
 Wz l v (c.map λn:Nat=>(n:Int)) k=none/\∃ ss,goS l p v a b (c.map λn:Nat=>(n:Int)) k acc=(ss,0,0)
 | [],v,a,b,w,u,k,acc,_=>⟨rfl,acc,rfl⟩
 | i :: c,v,a,b,w,u,k,acc,h=>by
  simp only [goW] at h;cases hx:l.legs[i]? with
  | none=>rw [hx] at h;cases h
  | some x =>
   rw [hx] at h;simp only at h;by_cases ho:Zk x v < 0
   . rw [if_pos ho] at h;cases h
   rw [if_neg ho] at h;by_cases hr:Z0 true x p b > 100000
   . rw [if_pos hr] at h;cases h
   rw [if_neg hr] at h;have hi:i < l.legs.length:=(List.getElem?_eq_some_iff.1 hx).1;have he:Vh l (i:Int) v=Zk x v:=by rw [ZbV hi,(List.getElem?_eq_some_iff.1 hx).2]
   obtain ⟨h1,_⟩:=Zjf (a:=Z0 false x p a) (k:=k+1) (acc:=[]) h;refine ⟨?_,?_⟩
   . simp only [List.map_cons,Wz,he];rw [if_neg ho];exact h1
   . obtain ⟨_,ss,h2⟩:=Zjf (a:=Z0 false x p a) (k:=k+1) (acc:=acc ++ [⟨i,Zk x v,⟨leK false x p a,leK true x p b⟩,⟨Z0 false x p a,Z0 true x p b⟩⟩]) h;refine ⟨ss,?_⟩;simp only [List.map_cons,goS,Int.toNat_natCast,hx];rw [if_neg hr];exact h2
theorem Zym {l:Land} {p:Span} (h:OkLP l p) {s day:Int} (hd:0<=day) (hd':day<=100000) (h0:0<=s) (h1:s < l.wells.length) {c:List Nat} {w u:Int} (hc:c.length<=24) (hw:goW true l p s day c=some (w,u)) :
 ∃ ss,Xp l p s day (c.map λn:Nat=>(n:Int))=(ss,0,0):=by
 obtain ⟨e1,ss,e2⟩:=Zjf (a:=day) (k:=0) (acc:=[]) hw;refine ⟨ss,?_⟩;unfold Xp;rw [if_neg (by simp [ZaN,h.land,h.pace]),if_neg (by simp [inR];omega),if_neg (by simp;omega),e1];exact e2
theorem Gr.ends {l:Land} {p:Span} {s day to best:Int} {n0:Nat} (hg:OkLP l p) (hd:0<=day) (hd':day<=100000) (h0:0<=s) (h1:s < l.wells.length) (hb:best=Y3 true l p s day to) (hb':best<=100000) :
 ∀ {n:Nat} {v t:Int} {out:List Nat},Gr l p s day to best n0 n v t out->∃ v' t' out',Gr l p s day to best n0 0 v' t' out'
 | 0,v,t,out,h=>⟨v,t,out,h⟩
 | n+1,v,t,out,h=>by
  obtain ⟨i,_,hf⟩:=h.ex hg hd hd' h0 h1 hb hb';obtain ⟨m,⟨x,g1,g2,g3,g4⟩,hm⟩:=Go.Sx.least_ex (λi=>Fit l p to best n v t i) ⟨i,hf⟩;exact Gr.ends hg hd hd' h0 h1 hb hb' (h.step hg hd hd' h0 h1 hb g1 g2 g3 g4 λj hj hq=>by have:=hm j hq;omega)
open Go.Sx
def UG (l:Land) (p:Span) (to till:Int):List Int->Int->Int->List Nat->Prop
 | _,v,t,[]=>v=to/\t<=till
 | been,v,t,i :: r=>∃ x,l.legs[i]? = some x/\0<=Zk x v/\Z0 true x p t<=100000/\Zk x v ∉ v :: been/\UG l p to till (v :: been) (Zk x v) (Z0 true x p t) r
theorem UG.le {l:Land} {p:Span} (h:OkLP l p) {to till:Int}:∀ {a:List Nat} {been:List Int} {v t:Int},UG l p to till been v t a->t<=100001->t<=till
 | [],_,_,_,q,_=>q.2
 | i :: r,been,v,t,q,ht=>by
  obtain ⟨x,hx,ho,hr,hn,q⟩:=q;have:=Zbm (k:=true) (h.leg hx) h.pace ht;have:=UG.le h q (by omega);omega
theorem UG.nin {l:Land} {p:Span} {to till:Int}:∀ {a:List Nat} {been:List Int} {v t:Int},UG l p to till been v t a->v ∉ been->to ∉ been
 | [],_,_,_,q,hv=>by rw [<- q.1];exact hv
 | i :: r,been,v,t,q,hv=>by
  obtain ⟨x,hx,ho,hr,hn,q⟩:=q;have:=UG.nin q hn;exact λh=>this (List.mem_cons_of_mem _ h)
theorem Zlk {l:Land} {p:Span} (h:OkLP l p) {to till:Int} (htill:till<=100000):∀ {f:Nat} {been:List Int} {v t:Int} {a:List Nat},Znb l f been->v ∉ been->(0<=v/\v < l.wells.length)->t<=100001 ->
 (a ∈ Vy l p to till f been v t↔UG l p to till been v t a):=by
 intro f
 induction f with
 | zero =>
  intro been v t a hR hv hvi;obtain ⟨g,q,_⟩:=hR.pos hv hvi;omega
 | succ f ih =>
  intro been v t a hR hv hvi ht;obtain ⟨g,hg,hR'⟩:=hR.pos hv hvi;have hgf:g=f:=by omega
  subst hgf;rw [XU];by_cases h1:t > till
  . rw [if_pos h1];constructor
    . intro q;cases q
    . intro q;have:=q.le h ht;omega
  rw [if_neg h1];by_cases h2:v=to
  . rw [if_pos h2,List.mem_singleton];constructor
    . rintro rfl;exact ⟨h2,by omega⟩
    . intro q;cases a with
      | nil=>rfl
      | cons i r =>
       obtain ⟨x,hx,ho,hr,hn,q⟩:=q;have:=q.nin hn;exact absurd (by simp [h2]) this
  rw [if_neg h2];simp only [YP,List.mem_flatMap,List.mem_range];constructor
  . rintro ⟨i,hi,q⟩;simp only [Wl] at q;cases hx:l.legs[i]? with
    | none=>rw [hx] at q;cases q
    | some x =>
     rw [hx] at q;simp only at q;by_cases hc:Zk x v < 0\/Zk x v ∈ v :: been
     . rw [if_pos hc] at q;cases q
     rw [if_neg hc] at q;obtain ⟨r,hr,rfl⟩:=List.mem_map.1 q;have ho:¬ Zk x v < 0:=λz=>hc (.inl z);have hn:Zk x v ∉ v :: been:=λz=>hc (.inr z);have ha:=X1 (k:=true) (h.leg hx) h.pace ht;have hr':=(ih hR' hn (Yb h hx ho).1 (by omega)).1 hr;refine ⟨x,hx,by omega,?_,hn,hr'⟩;have:=hr'.le h (by omega);omega
  . intro q;cases a with
    | nil=>exact absurd q.1 h2
    | cons i r =>
     obtain ⟨x,hx,ho,hr,hn,q⟩:=q;refine ⟨i,(List.getElem?_eq_some_iff.1 hx).1,?_⟩;rw [U3 hx (by omega) hn];exact List.mem_map.2 ⟨r,(ih hR' hn (Yb h hx (by omega)).1 (by omega)).2 q,rfl⟩
theorem UG.len {l:Land} {p:Span} (h:OkLP l p) {to till:Int}:∀ {a:List Nat} {f:Nat} {been:List Int} {v t:Int},UG l p to till been v t a->Znb l f been->v ∉ been->(0<=v/\v < l.wells.length)->a.length+1<=f
 | [],f,been,v,t,q,hR,hv,hi=>by obtain ⟨g,hg,_⟩:=hR.pos hv hi;simp;omega
 | i :: r,f,been,v,t,q,hR,hv,hi=>by
  obtain ⟨g,hg,hR'⟩:=hR.pos hv hi;obtain ⟨x,hx,ho,hr,hn,q⟩:=q;have:=UG.len h q hR' hn (Yb h hx (by omega)).1;simp;omega
theorem Zga {l:Land} {i:Nat} {v:Int}:Vh l i v=match l.legs[i]? with | some x=>Zk x v | none=>-1:=by
 cases h:l.legs[i]? with
 | none=>rw [List.getElem?_eq_none_iff] at h;exact Zfd (.inr (by omega))
 | some x =>
  obtain ⟨hi,hx⟩:=List.getElem?_eq_some_iff.1 h;rw [ZbV hi,hx]
theorem U7 {l:Land} {p:Span} {to till:Int}:∀ {c:List Nat} {been:List Int} {v t:Int},
 UG l p to till been v t c↔YN l v (v :: been) (Xc c)=some to/\∃ u,goW true l p v t c=some (to,u)/\u<=till
 | [],been,v,t=>by
  simp only [UG,Xc,List.map_nil,YN,Option.some.injEq,goW,Prod.mk.injEq];constructor
  . rintro ⟨h1,h2⟩;exact ⟨h1,t,⟨h1,rfl⟩,h2⟩
  . rintro ⟨h1,u,⟨_,rfl⟩,h2⟩;exact ⟨h1,h2⟩
 | i :: c,been,v,t=>by
  simp only [UG,Xc,List.map_cons,YN,goW];rw [Zga];cases hx:l.legs[i]? with
  | none =>
   constructor
   . rintro ⟨x,hx',_⟩;cases hx'
   . rintro ⟨h1,_⟩;simp at h1
  | some x =>
   simp only;constructor
   . rintro ⟨y,hy,ho,hr,hn,q⟩;cases hy
     obtain ⟨q1,q2⟩:=(U7 (c:=c)).1 q;rw [if_neg (by omega),if_neg hn,if_neg (by omega),if_neg (by omega)];exact ⟨q1,q2⟩
   . rintro ⟨h1,h2⟩;split at h1
     . cases h1
     rename_i h3;split at h1
     . cases h1
     rename_i h4;rw [if_neg h3] at h2;split at h2
     . obtain ⟨u,hu,_⟩:=h2;cases hu
     rename_i h5;exact ⟨x,rfl,by omega,by omega,h4,(U7 (c:=c)).2 ⟨h1,h2⟩⟩
theorem Zep {l:Land} {p:Span} (hg:OkLP l p):∀ {legs:List Int} {v u:Int} {been:List Int},been.Nodup->(∀ b ∈ been,0<=b/\b < l.wells.length)->YN l v been legs=some u->legs.length+been.length<=l.wells.length
 | [],v,u,been,h1,h2,_=>by have:=ZeI h1 h2;simpa using this
 | i :: r,v,u,been,h1,h2,h=>by
  simp only [YN] at h;split at h
  . cases h
  rename_i he;split at h
  . cases h
  rename_i hn;obtain ⟨k,x,_,_,hx,_,e⟩:=ZbY he;have hin:=(Yb hg hx (by rw [<- e];exact he)).1;have:=Zep hg (List.nodup_cons.2 ⟨hn,h1⟩) (λb hb=>(List.mem_cons.1 hb).elim (λq=>by rw [q,e];exact hin) (h2 b)) h;simp only [List.length_cons] at this ⊢;omega
open Go.Proofs.YtongccnhomncnaaGreat
theorem ZfZ:∀ {a b:List Nat},Xc a=Xc b->a=b
 | [],[],_=>rfl
 | x :: a,y :: b,h=>by
  simp only [Xc,List.map_cons,List.cons.injEq] at h;rw [ZfZ (a:=a) (b:=b) h.2,show x=y by omega]
 | [],_ :: _,h=>by simp [Xc] at h
 | _ :: _,[],h=>by simp [Xc] at h
theorem lenS {s:Season} (h:OkS s) {legs:List Int} {u:Int} (hg:YN s.land s.start [s.start] legs=some u):legs.length < s.land.wells.length/\legs.length<=24:=by
 have:=Zep h.lp (legs:=legs) (v:=s.start) (u:=u) (been:=[s.start]) (by simp) (λb hb=>by simp only [List.mem_singleton] at hb;subst hb;exact h.start) hg;have hw:=h.land;simp only [Z1,inR,Bool.and_eq_true,decide_eq_true_eq] at hw;simp only [List.length_cons,List.length_nil] at this;omega
theorem Zf6 {s:Season} (h:OkS s) {c:List Nat} (hc:c.length<=24):US s (Xc c)=true↔∃ v u,goW true s.land s.pace s.start s.day c=some (v,u)/\u<=s.till:=by
 have hn:=h.num;have hst:=h.start;have key:∀ {ss:List Stop} {at':Int},Xp s.land s.pace s.start s.day (Xc c)=(ss,at',0)->(US s (Xc c)=true↔∃ v u,goW true s.land s.pace s.start s.day c=some (v,u)/\u<=s.till):=λ{ss at'} hw=>by
  obtain ⟨_,ht⟩:=Zrs hw;have hss:Yp s (Xc c)=ss:=by unfold Yp;rw [hw]
  have hlen:=ht.len;simp only [Xc,List.length_map] at hlen;unfold US;rw [hss,hw];simp only [decide_true,Bool.true_and,Bool.or_eq_true,decide_eq_true_eq];by_cases h0:ss.length=0
  . have:c=[]:=List.eq_nil_of_length_eq_zero (by omega);subst this;exact ⟨λ_=>⟨s.start,s.day,rfl,by omega⟩,λ_=>.inl h0⟩
  . obtain ⟨c',h1,h2,h3,_⟩:=ht.at h.lp (Int.le_refl _) (by omega) (ss.length - 1) (ZhI ss) (Zd5 h0);have hcc:c'=c:=by
     have e:(Xc c).take (ss.length - 1+1)=Xc c:=List.take_of_length_le (by simp [Xc];omega);rw [e] at h2;exact ZfZ h2.symm
    subst hcc;constructor
    . rintro (q | q)
      . exact absurd q h0
      . exact ⟨_,_,h3,q⟩
    . rintro ⟨v,u,e,q⟩;rw [h3] at e;simp only [Option.some.injEq,Prod.mk.injEq] at e;exact .inr (by omega)
 constructor
 . intro q;have q':=q;simp only [US,Bool.and_eq_true,decide_eq_true_eq] at q';have:Xp s.land s.pace s.start s.day (Xc c)=((Xp s.land s.pace s.start s.day (Xc c)).1,(Xp s.land s.pace s.start s.day (Xc c)).2.1,0):=by
    rw [<- q'.1]
   exact (key this).1 q
 . rintro ⟨v,u,e,q⟩;obtain ⟨ss,hw⟩:=Zym h.lp (by omega) (by omega) hst.1 hst.2 hc e;exact (key hw).2 ⟨v,u,e,q⟩
theorem ZgE {k:Bool} {l:Land} {p:Span} {w u to:Int}:∀ {c:List Nat} {v t:Int} {been:List Int},goW k l p v t c=some (w,u)->YN l v been (Xc c)=some to->w=to
 | [],v,t,been,h,h'=>by
  simp only [goW,Option.some.injEq,Prod.mk.injEq,Xc,List.map_nil,YN] at h h';omega
 | i :: c,v,t,been,h,h'=>by
  simp only [goW,Xc,List.map_cons,YN] at h h';rw [Zga] at h';cases hx:l.legs[i]? with
  | none=>rw [hx] at h;cases h
  | some x =>
   rw [hx] at h h';simp only at h h';split at h
   . cases h
   rename_i h1;split at h
   . cases h
   rw [if_neg h1] at h';split at h'
   . cases h'
   exact ZgE h h'
theorem Zpd {s:Season} (h:OkS s) {to:Int} {c:List Nat}:c ∈ U6 s.land s.pace s.start to s.day s.till↔YN s.land s.start [s.start] (Xc c)=some to/\US s (Xc c)=true:=by
 have hn:=h.num;unfold U6;rw [Zlk h.lp (by omega) Znb.start (by simp) h.start (by omega),U7];constructor
 . rintro ⟨h1,u,h2,h3⟩;have hl:=(lenS h h1).2;exact ⟨h1,(Zf6 h (by simpa [Xc] using hl)).2 ⟨_,_,h2,h3⟩⟩
 . rintro ⟨h1,h2⟩;have hl:=(lenS h h1).2;obtain ⟨v,u,h3,h4⟩:=(Zf6 h (by simpa [Xc] using hl)).1 h2;refine ⟨h1,u,?_,h4⟩;rw [ZgE h3 h1] at h3;exact h3
theorem Zne {l:Land} {well day:Int}:0<=(WJ l well [] day).1.lo:=by
 unfold WJ;split
 . exact Int.le_refl _
 rename_i h1;split
 . exact Int.le_refl _
 rename_i h2;split
 . exact Int.le_refl _
 split
 . exact Int.le_refl _
 split
 . rename_i w hw;simp only [Bool.not_eq_false,Z1,Bool.and_eq_true,List.all_eq_true,inR,decide_eq_true_eq] at h1 h2;have hwell:=h1.1.2 w (List.mem_of_getElem? hw);simp only [YL,ZX,inR,Bool.and_eq_true,decide_eq_true_eq] at hwell;have:0<=(day - 1 - -1) * w.yld.lo:=Int.mul_nonneg (by omega) (by omega);simp only [V2,Wf];omega
 . exact Int.le_refl _
theorem Ztf {s:Season} {x:Scene} (st:Stop):0<=ZcE s x st:=Zne
theorem Zo4 {s:Season} {p:Plan} {to:Int} (hto:YN s.land s.start [s.start] p.legs=some to) (ha:0<=p.animals/\p.animals<=s.herd) (hs:0<=p.slabs/\p.slabs<=12):XB s p=true:=by
 simp only [XB,hto,Option.isSome_some,inR,Bool.true_and,Bool.and_eq_true,decide_eq_true_eq];omega
theorem ZwX {s:Season} (h:OkS s) {a:List Int} {k:Int}:0<=ZfR s a k/\ZfR s a k<=s.herd:=ZiX (by have:=h.num;omega) (λ_ _=>Ztf)
end Go.Azalai
namespace Go.Proofs.YtongccnhomncnaaGreat
open Go Go.Sx
def c28:SC:=(sr1 [o1 2 (Jz 0 0 37),o1 4 (.alloc zv9 78)] (sr1 [m1 5 1,o1 6 (ao 2 1),o1 7 (lf 6 1),o1 8 (.un .neg (.t 7)),o1 9 (ao 2 2),o1 10 (lf 9 1),o1 11 (.un .neg (.t 10)),o1 12 (ao 2 0),o1 13 (lf 12 1),o1 14 (Jl 13),o1 15 (.un .neg (.t 14)),o1 16
 (.build zv9 [(0,1,.t 5),(1,1,.t 8),(2,1,.t 11),(3,1,.t 15)]),Js 4 16 4] .ret))
def r28:List RV:=[.cell 4 4 true]
theorem t28:Qt1 Tryz.prog 28 c28 r28 17:=ZH Tryz.func28
def c31:SC:=(sr1 [o1 4 (Jz 0 0 37),o1 5 (Jz 1 0 78),o1 6 (Jz 2 0 37),o1 7 (Jz 3 0 78),Jw 8 Jf] (.seq (sr1 [o1 10 (lt 5 4),o1 11 (lt 7 4),o1 12 (.eqs false true [1,1,1,1] (.t 10) (.t 11))] (Ji 12 (sr1 [o1 13 (ao 4 0),o1 14 (lf 13 1),o1 15 (ao 6 0),o1
 16 (lf 15 1),o1 17 (J2 64 14 16),o1 18 (Jc .lss 17 0),m1 8 18] .ret) .skip)) (.seq (sr1 [Jk 19 0] (.block 0 (.loop (sr1 [o1 20 (Jc .lss 19 4)] (.seq (Ji 20 .skip (.exit 0)) (.seq (.block 1 (sr1 [m1 21 19,m1 9 21] (.seq (.regd (Jr 7) [Jm 22 9,Jp 23
 (.ixa (.t 5) (.t 22) 4 1) [0],Jp 24 (lf 23 1) [1],Jm 25 9,Jp 26 (.ixa (.t 7) (.t 25) 4 1) [3],Jp 27 (lf 26 1) [4],Jp 28 (Jb .neq 24 27) [2,5]] 0 0 []) (Ji 28 (.seq (.regd (Jr 8) [Jm 29 9,Jp 30 (.ixa (.t 5) (.t 29) 4 1) [0],Jp 31 (lf 30 1) [1],Jm 32
 9,Jp 33 (.ixa (.t 7) (.t 32) 4 1) [3],Jp 34 (lf 33 1) [4],Jp 35 (Jb .gtr 31 34) [2,5],Jp 8 (.mv (.t 35)) (Jr 7)] 0 0 []) .ret) .skip)))) (.reg [o1 36 (Jc .add 19 1),m1 19 36]))))))) (sr1 [Jw 8 Jf] .ret))))
def r31:List RV:=[.tmp 8]
theorem t31:Qt1 Tryz.prog 31 c31 r31 37:=ZH Tryz.func31
def c9:SC:=(sr1 [o1 1 (Jz 0 0 34),o1 2 (.alloc ZqB 37),Jk 3 0,Jk 4 0] (.seq (sr1 [o1 17 (lt 1 37),o1 18 (J1 27 17),m1 5 18] (sr1 [m1 19 5,o1 20 (Jc .neq 19 0)] (Ji 20 (sr1 [o1 21 (.build ZqB []),m1 22 5,Js 2 21 3,Jk 3 0,m1 4 22] .ret) .skip))) (sr1
 [o1 23 (ao 1 28),o1 24 (lf 23 1),o1 25 (ao 1 32),o1 26 (lf 25 1),o1 27 (Jb .mul 24 26),m1 3 27] (sr1 [o1 28 (lt 2 3),m1 29 3,o1 30 (J2 28 28 29),o1 6 (.alloc zv9 78),Js 6 30 4] (.seq (sr1 [o1 31 (ao 1 0),o1 32 (ao 31 0),o1 33 (lf 32 1),o1 34 (Jl
 33),Jk 35 0] (.block 0 (.loop (sr1 [o1 36 (Jb .lss 35 34)] (.seq (Ji 36 .skip (.exit 0)) (.seq (.block 1 (sr1 [m1 37 35,m1 7 37] (sr1 [o1 39 (ao 1 0),o1 40 (lt 39 2),o1 41 (ao 1 33),o1 42 (lf 41 1),m1 43 7,o1 44 (ao 1 34),o1 45 (lf 44 1),o1 46 (ao 1
 35),o1 47 (lf 46 1),o1 48 (ao 1 2),o1 49 (lt 48 2),o1 50 (J6 29 40 42 43 45 47 49),m1 38 50,o1 51 (Je 38 0),o1 52 (Je 38 1),m1 8 51,m1 9 52] (.seq (sr1 [m1 53 9,o1 54 (Jc .neq 53 0)] (Ji 54 (sr1 [o1 55 (.build ZqB []),Js 2 55 3,Jk 3 0,Jk 4 9] .ret)
 .skip)) (sr1 [m1 56 8,o1 57 (Jl 56),Jk 58 0] (.block 2 (.loop (sr1 [o1 59 (Jb .lss 58 57)] (.seq (Ji 59 .skip (.exit 2)) (.seq (.block 3 (sr1 [o1 60 (Jx 56 58 1),o1 61 (lf 60 1),m1 11 61] (.scope (.seq (.label 0) (sr1 [Jk 62 0] (.block 4 (.loop (sr1
 [o1 63 (Jc .lss 62 13)] (.seq (Ji 63 .skip (.exit 4)) (.seq (.block 5 (sr1 [m1 64 62,m1 12 64] (sr1 [o1 65 (lt 1 37),m1 66 11,m1 67 12,o1 68 (J3 30 65 66 67),m1 13 68] (.block 6 (.loop (.seq (.block 7 (.seq (sr1 [m1 71 13,o1 72 (Jc .eql 71 0)] (Ji 72
 (.exit 5) .skip)) (sr1 [m1 73 11,m1 74 13,m1 75 12,o1 76 (.build ZqB [(0,1,.t 73),(1,1,.t 74),(2,1,.t 75)]),o1 14 (.alloc ZqB 37),Js 14 76 3] (sr1 [o1 77 (lt 1 37),o1 78 (lt 14 3),m1 79 7,o1 80 (J3 18 77 78 79),m1 15 80] (sr1 [o1 81 (lt 14 3),m1 82
 15,o1 83 (J2 28 81 82),o1 16 (.alloc zv9 78),Js 16 83 4] (sr1 [o1 84 (lt 14 3),o1 85 (lt 16 4),o1 86 (lt 2 3),o1 87 (lt 6 4),o1 88 (J4 31 84 85 86 87)] (Ji 88 (.regd (Jr 6) [Jo 89 (lt 14 3),.hide (.t 2),Jm 90 15,Jo 91 (lt 16 4)] 0 3 [Ju 2 89 3
 [0],⟨some 3,.mv (.t 90),none,[0,1,3]⟩,Ju 6 91 4 (Jr 5)]) .skip))))))) (.reg [m1 69 13,o1 70 (Jc .sub 69 1),m1 13 70]))))))) (.reg [o1 92 (Jc .add 62 1),m1 62 92]))))))))))) (.reg [o1 93 (Jc .add 58 1),m1 58 93]))))))))))) (.reg [o1 94 (Jc .add 35
 1),m1 35 94]))))))) (sr1 [o1 95 (lt 2 3),m1 96 3,Js 2 95 3,m1 3 96,Jk 4 0] .ret))))))
def r9:List RV:=[.cell 2 3 true,.tmp 3,.tmp 4]
theorem n9:Tryz.f9.ntmps=97:=by kernel_rfl
theorem b9:Yn Tryz.prog 9=true:=by kernel_rfl
theorem c9_ok:Xi Tryz.prog c9 ((Tryz.f9.body).getD .skip)=true:=by kernel_rfl
theorem r9_ok:XV Tryz.prog r9 Tryz.f9.results.toList=true:=by kernel_rfl
end Go.Proofs.YtongccnhomncnaaGreat
namespace Go.Azalai
open Go.Sx Go.Proofs.YtongccnhomncnaaGreat
theorem ZqI {l:Land} {well day:Int}:(WJ l well [] day).1.lo<=1000000000:=by
 unfold WJ;split
 . simp
 rename_i h1;split
 . simp
 split
 . simp
 split
 . simp
 split
 . rename_i w hw;simp only [Bool.not_eq_false,Z1,Bool.and_eq_true,List.all_eq_true,inR,decide_eq_true_eq] at h1;have hwell:=h1.1.2 w (List.mem_of_getElem? hw);simp only [YL,ZX,inR,Bool.and_eq_true,decide_eq_true_eq] at hwell;simp only [V2,Wf];omega
 . simp
theorem ZAx {s:Season} {x:Scene} (st:Stop):ZcE s x st<=1000000000:=ZqI
theorem ZfK {s:Season} {p:Plan} {x:Scene} (h:OkS s) (hp:XB s p=true):∀ d ∈ Vo s p x,0<=d.water/\d.water<=30000000:=by
 have hn:=h.num;obtain ⟨_,hpl⟩:=Ul hp;intro d hd;unfold Vo at hd;split at hd
 . unfold VA at hd;split at hd
   . cases hd
   split at hd
   . obtain ⟨st,_,rfl⟩:=List.mem_map.1 hd;simp
   . unfold Vq at hd;obtain ⟨i,hi,rfl⟩:=List.getElem_of_mem hd;simp only [List.length_zipWith] at hi;rw [List.getElem_zipWith];have hb:=(ZAN (x:=x) (slabs:=p.slabs) (l:=Yp s p.legs) h.beast.1 h.beast.2).1 _ (List.getElem_mem (show i < _ by omega));simp only [Zbv];have h1:0<=p.animals * ((goF s x p.slabs (Yp s p.legs)).2.2[i]'(by omega)).1:=Int.mul_nonneg hpl.1 hb.1;have h2:p.animals * ((goF s x p.slabs (Yp s p.legs)).2.2[i]'(by omega)).1<=30 * 1000000:=Int.mul_le_mul (by omega) hb.2 hb.1 (by decide)
     omega
 . cases hd
theorem Zmt {s:Season} {p:Plan} {x:Scene} (hg:p.legs.length<=1000):(Vo s p x).length<=1000:=by
 have h1:(Yp s p.legs).length<=1000:=Nat.le_trans Zbu hg;unfold Vo VA;split
 . split
   . simp
   split
   . simp;omega
   . simp only [Vq,List.length_zipWith];omega
 . simp
end Go.Azalai
namespace Go.Proofs.YtongccnhomncnaaGreat
open Go Go.Sx Go.Azalai
theorem Zyg (s:Season) (h:OkS s) (a:List Int) (ha:(YN s.land s.start [s.start] a).isSome=true) (hg:a.length<=1000) (k:Int) (hk:0<=k/\k<=12) :
 Ct Tryz.prog 30 [.agg (Zt s),.sl false 1 (a.map Zq),I k] (I (ZfR s a k)):=by
 have hnum:=h.num;have hsc:=h.scs;have hp:XB s ⟨a,1,k⟩=true:=by
  simp only [XB,ha,inR,Bool.true_and,Bool.and_eq_true,decide_eq_true_eq];omega
 refine tw30.1 (by simp [Zt,Zl,Zh,Zn,Zi,Ze,Zq,Za]) (by simp) ?_;dsimp only [cw30,rw30,Zt,go_sem];simp only [List.length_map];refine UD [1,2,3,7,18,19] rfl (λq:Nat × Int=>[(19,I q.1),(7,I q.2)]) (λ_=>[])
  (λq=>q.1<=s.scenes.length/\Ztj s a k (s.scenes.drop q.1) q.2=ZfR s a k/\0<=q.2/\q.2<=30) (λq=>s.scenes.length - q.1) (0,s.herd) ⟨Nat.zero_le _,rfl,by simp only;omega,by simp only;omega⟩ ?_ ?_
 . (refine Zj ?_ ?_ ?_ rfl rfl<;>dsimp only [Zh,Zn,Zi,Zl,Ze,Zq,id,go_sem]<;>simp [Zh,Zn,Zi,Zl,Ze,Zq,Za])
 rintro ⟨j,n⟩ ⟨hj,hi,hn0,hn1⟩;simp only at hj hi hn0 hn1;dsimp only [go_sem];by_cases hlt:j < s.scenes.length
 case neg =>
  refine Zo (by simp;omega) ?_;dsimp only [go_sem];rw [List.drop_eq_nil_of_le (by omega),Ztj] at hi;rw [hi]
 refine Zr (by simpa using hlt) ?_;dsimp only [go_sem];have ht:=ZtA s h j hlt ⟨a,1,k⟩ hp hg;have hx:=h.scene _ (List.getElem_mem hlt);have hy:s.scenes[j].yields.length=s.land.wells.length:=by simp only [Yz,Bool.and_eq_true,decide_eq_true_eq] at hx;omega
 have hwat:=ZfK (x:=s.scenes[j]) h hp;have hlen:=Zmt (s:=s) (p:=⟨a,1,k⟩) (x:=s.scenes[j]) hg;rw [List.drop_eq_getElem_cons hlt,Ztj] at hi;generalize Vo s ⟨a,1,k⟩ s.scenes[j]=D at ht hi hwat hlen;generalize WU s ⟨a,1,k⟩ s.scenes[j]=w at ht hi;refine Yd [] ht rfl rfl rfl ?_ ?_ ?_
 . exact Zc (by simp [Yv,ZL,Zh,Zn,Zi,Zl,Ze,Zq,ZZ,Za])
 . trivial
 rintro _ rfl
 (repeat first | dsimp only [ZvZ,go_sem] | simp only [nbr])
 by_cases hw0:w.1=0
 case neg =>
  refine Zr (by simpa using hw0) ?_;dsimp only [go_sem];rw [if_pos hw0] at hi;rw [<- hi]
 refine Zo (by simpa using hw0) ?_;dsimp only [go_sem];rw [if_neg (by simpa using hw0)] at hi;simp only [List.length_map];refine UD [1,2,3,7,9,18,19,36,37,38] rfl (λq:Nat × Int=>[(38,I q.1),(7,I q.2)]) (λ_=>[])
  (λq=>q.1<=D.length/\ZiD s s.scenes[j] (D.drop q.1) q.2=ZiD s s.scenes[j] D n/\0<=q.2/\q.2<=30) (λq=>D.length - q.1) (0,n) ⟨Nat.zero_le _,rfl,hn0,hn1⟩ ?_ ?_
 . (refine Zj ?_ ?_ ?_ rfl rfl<;>dsimp only [Yv,Zh,Zn,Zi,Zl,Ze,Zq,ZZ,Ym,id,go_sem]<;>simp [Yv,Zh,Zn,Zi,Zl,Ze,Zq,ZZ,Ym,Za])
 rintro ⟨i,m⟩ ⟨hi0,hi1,hm0,hm1⟩;simp only at hi0 hi1 hm0 hm1;dsimp only [go_sem];by_cases hilt:i < D.length
 case neg =>
  refine Zo (by simp;omega) ?_;dsimp only [go_sem];rw [List.drop_eq_nil_of_le (by omega),ZiD] at hi1;rw [Zg (n:=(j:Int)+1) (by omega) (by omega)];refine ⟨(j+1,m),⟨hlt,by simp only;rw [hi1];exact hi,hm0,hm1⟩,by simp only;omega,?_⟩;(refine Zj ?_ ?_ ?_ rfl rfl<;>dsimp only [Yv,Zh,Zn,Zi,Zl,Ze,Zq,ZZ,Ym,id,go_sem]<;>simp [Yv,Zh,Zn,Zi,Zl,Ze,Zq,ZZ,Ym,Za])
 refine Zr (by simpa using hilt) ?_;dsimp only [go_sem];refine Zp i hilt rfl ?_;dsimp only [Ym,go_sem];rw [List.drop_eq_getElem_cons hilt,ZiD] at hi1;have hw:=hwat _ (List.getElem_mem hilt);have hnext:IntKind.i64.wrap ((i:Int)+1)=((i+1:Nat):Int):=by rw [Zg (by omega) (by omega)];omega
 by_cases hpos:D[i].water > 0
 . refine Zr (by simpa using hpos) ?_;dsimp only [go_sem];refine call (Ztb s h.small j hlt hy ⟨0,D[i].well,⟨0,0⟩,⟨D[i].day,0⟩⟩) ?_;dsimp only [go_sem];refine ZvB (by omega) ?_;have h1:=Ztf (s:=s) (x:=s.scenes[j]) ⟨0,D[i].well,⟨0,0⟩,⟨D[i].day,0⟩⟩;have h2:=ZAx (s:=s) (x:=s.scenes[j]) ⟨0,D[i].well,⟨0,0⟩,⟨D[i].day,0⟩⟩;have h3:=WR (d:=D[i].water) h1 h2 (by omega);dsimp only [go_sem];rw [Zg (n:=(ZcE s s.scenes[j] ⟨0,D[i].well,⟨0,0⟩,⟨D[i].day,0⟩⟩).tdiv D[i].water) (by omega) (by omega),hnext]
   rw [if_pos hpos] at hi1;refine ⟨(i+1,min m ((ZcE s s.scenes[j] ⟨0,D[i].well,⟨0,0⟩,⟨D[i].day,0⟩⟩).tdiv D[i].water)),⟨hilt,hi1,by simp only;omega,by simp only;omega⟩,by simp only;omega,?_⟩;(refine Zj ?_ ?_ ?_ rfl rfl<;>dsimp only [Yv,Zh,Zn,Zi,Zl,Ze,Zq,ZZ,Ym,id,go_sem]<;>simp [Yv,Zh,Zn,Zi,Zl,Ze,Zq,ZZ,Ym,Za])
 . refine Zo (by simpa using hpos) ?_;dsimp only [go_sem];rw [hnext];rw [if_neg hpos] at hi1;refine ⟨(i+1,m),⟨hilt,hi1,hm0,hm1⟩,by simp only;omega,?_⟩;(refine Zj ?_ ?_ ?_ rfl rfl<;>dsimp only [Yv,Zh,Zn,Zi,Zl,Ze,Zq,ZZ,Ym,id,go_sem]<;>simp [Yv,Zh,Zn,Zi,Zl,Ze,Zq,ZZ,Ym,Za])
def Vv (b:Bst):List SV:=[I b.w,I (-b.an),I (-b.sl),I (-(b.legs.length:Int))]
theorem mapW (a:List Nat):(Xc a).map Zq=a.map YR:=by simp [Xc,YR,Zq]
theorem Zgx (a:List Nat):(Xc a).length=a.length:=by simp [Xc]
structure SmB (b:Bst):Prop where
 len:b.legs.length<=1000
 an:0<=b.an/\b.an<=30
 sl:0<=b.sl/\b.sl<=12
theorem Zeb (b:Bst) (hb:SmB b):Ct Tryz.prog 28 [.agg (ZL b.plan),I b.w] (.agg (Vv b)):=by
 obtain ⟨h1,h2,h3⟩:=hb;refine t28.1 (by simp [ZL,Bst.plan,Zq,Za,KFL,KF]) (by simp [Vv]) ?_;dsimp only [c28,r28,ZL,Bst.plan,Vv,go_sem];simp only [List.length_map,Zgx];rw [Int.zero_sub,Int.zero_sub,Int.zero_sub,Zg (n:=-b.an) (by omega) (by omega),Zg (n:=-b.sl) (by omega) (by omega),Zg (n:=-(b.legs.length:Int)) (by omega) (by omega)]
theorem ZkW (q p:Bst) (hq:SmB q) (hp:SmB p):Ct Tryz.prog 31 [.agg (ZL q.plan),.agg (Vv q),.agg (ZL p.plan),.agg (Vv p)] (B (Yo q p)):=by
 have hq1:=hq.len;have hp1:=hp.len;refine t31.1 (by simp [ZL,Bst.plan,Zq,Za,Vv,KFL,KF]) (by simp) ?_;dsimp only [c31,r31,ZL,Bst.plan,Vv,go_sem];by_cases e:q.w=p.w/\q.an=p.an/\q.sl=p.sl/\q.legs.length=p.legs.length
 . obtain ⟨e1,e2,e3,e4⟩:=e;refine Zr (by simp [e1,e2,e3,e4]) ?_;dsimp only [go_sem];have hc:=Zif q.legs p.legs (by omega) (by omega);simp only [YC,<- mapW] at hc;refine call hc ?_;dsimp only [go_sem];rw [ZgK];simp [Yo,e1,e2,e3,e4]
 refine Zo (by simp;omega) ?_;dsimp only [go_sem];refine ZY 5 ?_;dsimp only [Zb,go_sem];refine Zr (by decide) ?_;dsimp only [Zb,go_sem];repeat (refine ixa 0 rfl (by decide) ?_;dsimp only [Zb,go_sem])
 by_cases e1:q.w=p.w
 case neg =>
  refine Zr (by simpa using e1) ?_;dsimp only [Zb,go_sem];repeat (refine ixa 0 rfl (by decide) ?_;dsimp only [Zb,go_sem])
  simp [Yo,e1]
 refine Zo (by simpa using e1) ?_;dsimp only [Zb,go_sem];refine Zr (by decide) ?_;dsimp only [Zb,go_sem];repeat (refine ixa 1 rfl (by decide) ?_;dsimp only [Zb,go_sem])
 by_cases e2:q.an=p.an
 case neg =>
  refine Zr (by simp;omega) ?_;dsimp only [Zb,go_sem];repeat (refine ixa 1 rfl (by decide) ?_;dsimp only [Zb,go_sem])
  have:decide (-q.an > -p.an)=decide (q.an < p.an):=by rw [decide_eq_decide];omega
  simp [Yo,e1,e2]
 refine Zo (by simp;omega) ?_;dsimp only [Zb,go_sem];refine Zr (by decide) ?_;dsimp only [Zb,go_sem];repeat (refine ixa 2 rfl (by decide) ?_;dsimp only [Zb,go_sem])
 by_cases e3:q.sl=p.sl
 case neg =>
  refine Zr (by simp;omega) ?_;dsimp only [Zb,go_sem];repeat (refine ixa 2 rfl (by decide) ?_;dsimp only [Zb,go_sem])
  simp [Yo,e1,e2,e3]
 refine Zo (by simp;omega) ?_;dsimp only [Zb,go_sem];refine Zr (by decide) ?_;dsimp only [Zb,go_sem];repeat (refine ixa 3 rfl (by decide) ?_;dsimp only [Zb,go_sem])
 have e4:¬ q.legs.length=p.legs.length:=λe4=>e ⟨e1,e2,e3,e4⟩;refine Zr (by simp;omega) ?_;dsimp only [Zb,go_sem];repeat (refine ixa 3 rfl (by decide) ?_;dsimp only [Zb,go_sem])
 simp [Yo,e1,e2,e3,e4]
end Go.Proofs.YtongccnhomncnaaGreat
namespace Go.Sx
open Go Go.RowKit
theorem Zj4 {m:Nat} {σ : St} (k:Nat) {l l':List SV} {T':TypeId} (hk:lkh k σ.hp = .cells l T') (hw:∀ (w:World) (E:Env) (n ok:Nat->Prop) (ys:List Value),RL w E n ok l ys->RL w E n ok l' ys) :
 Ent m σ ⟨σ.fr,(k,.cells l' T') :: σ.hp,σ.n,σ.N,σ.gs⟩:=λC E a w _ h=>by
 have hocc:∀ b,occ E k (.cells l' T') b↔occ E k (lkh k σ.hp) b:=λb=>by rw [hk];rfl
 obtain ⟨h6,h7⟩:=W8 (hb:=.cells l' T') (B:=E.β k) h.hs hocc (by rw [hk];rfl) ⟨rfl,rfl,rfl,rfl,λ_ _=>rfl⟩ (λhst=>by
  have hb:=h.hs.bk k;rw [hk] at hb;simp only [Ya] at hb ⊢;obtain ⟨cs,e1,e2⟩:=hb
  exact ⟨cs,e1,hw _ _ _ _ _ (ZE hst (λ_ _=>Ele.rfl) (λ_ h=>h) _ _ e2)⟩)
 exact ⟨E,λu=>Xs h7 (λ_ _=>Ele.rfl) (λ_ h=>h) (λ_ _ _ _=>Iff.rfl) (h.fr u),h.sz,XZ h7 h.df,h.gs,h6⟩
end Go.Sx
namespace Go.Proofs.YtongccnhomncnaaGreat
open Go Go.Sx Go.Azalai
def Zxv (r:Plan × Int × Int):SV:=.tup [.agg (ZL r.1),I r.2.1,I r.2.2]
theorem ZtQ (w:Int):Ct Tryz.prog 28 [.agg [.v (.slice none 0 0),I 0,I 0],I w] (.agg [I w,I 0,I 0,I 0]) :=
 (Zeb ⟨[],0,0,w⟩ ⟨by simp,by simp,by simp⟩).args (by simp) (ZN (VH (ZN Xd Wd)) Wd)
theorem ZwY {s:Season} {to:Int} {a:List Nat} {k n:Int} (ha:a.length<=1000) (hn:0<=n/\n<=30) (hk:0<=k/\k<=12):SmB (XP s to a k n):=⟨ha,hn,hk⟩
theorem u25 {args:List SV} {res:SV} (ka:KFL args) (kr:KF res) (h:sx Tryz.prog Y0 0 c9 (st0 args 97) (Zz0 r9 res)) (hA:Nat.ble args.length 97=true:=by rfl):Ct Tryz.prog 9 args res:=Zd4 Tryz.func9 rfl b9 c9_ok r9_ok n9 (Nat.le_of_ble_eq_true hA) ka kr h
theorem Zxb (s:Season) (hs:SmallS s):Ct Tryz.prog 9 [.agg (Zt s)] (Zxv (Zg4 s)):=by
 refine u25 (by simp [Zt,Zl,Zh,Zn,Zi,Ze,Zq,Za]) (by simp [Zxv,ZL,Zq,Za]) ?_;dsimp only [c9,r9,Zt,go_sem];refine call (Zeo s hs) ?_;dsimp only [go_sem];by_cases ho:ZB s=true
 case neg =>
  refine Zr (by simp [ho]) ?_;dsimp only [go_sem];refine ⟨_,rfl,?_⟩;rw [show Zg4 s=(⟨[],0,0⟩,0,90) from by unfold Zg4;exact if_pos (by simpa using ho),if_neg ho];exact VG (ZN (VH (ZN Xd Wd)) Wd)
 refine Zo (by simp [ho]) ?_;dsimp only [go_sem];have h:OkS s:=⟨hs,ho⟩
 have hn:=h.num;have hw0:0<=s.herd * s.sale/\s.herd * s.sale<=30 * 1000000:=⟨Int.mul_nonneg (by omega) (by omega),Int.mul_le_mul (by omega) (by omega) (by omega) (by decide)⟩
 rw [Zg (n:=s.herd * s.sale) (by omega) (by omega)];refine call (ZtQ (s.herd * s.sale)) ?_;dsimp only [go_sem];simp only [List.length_map];have hR:Zg4 s=match ZxI s with | none=>(⟨[],0,0⟩,0,9) | some b=>(b.plan,b.w,0):=by unfold Zg4;exact if_neg (by simp [ho])
 have hwl:=h.land;simp only [Z1,inR,Bool.and_eq_true,decide_eq_true_eq] at hwl;refine Zfa (YI (ZaW [1,2,3,6,34,35] rfl) (Zj4 1 (l':=ZL ⟨[],0,0⟩) rfl (ZN Xd Wd)))
  (λq:Nat × Bst=>[(35,I q.1),(3,I q.2.w)]) (λq=>[(1,.cells (ZL q.2.plan) 37),(2,.cells (Vv q.2) 78)])
  (λq=>q.1<=s.land.wells.length/\ZdV s ((List.range s.land.wells.length).drop q.1) q.2=ZxI s/\SmB q.2) (λq=>s.land.wells.length - q.1) (0,⟨[],0,0,s.herd * s.sale⟩)
  ⟨Nat.zero_le _,rfl,⟨by simp,by simp,by simp⟩⟩ ?_ ?_
 . (refine Zj ?_ ?_ ?_ rfl rfl<;>dsimp only [ZL,Vv,Bst.plan,Xc,Zh,Zn,Zi,Zl,Ze,Zq,id,go_sem]<;>simp [ZL,Vv,Bst.plan,Xc,Zh,Zn,Zi,Zl,Ze,Zq,Za])
 rintro ⟨g,b⟩ ⟨hg,hi,hb⟩;simp only at hg hi hb;dsimp only [ZL,Vv,go_sem];by_cases hlt:g < s.land.wells.length
 case neg =>
  refine Zo (by simp;omega) ?_;dsimp only [go_sem];rw [List.drop_eq_nil_of_le (by simp;omega),ZdV] at hi;rw [hR,<- hi];exact ⟨_,rfl,λ_ _ _ _ _ h=>h⟩
 refine Zr (by simpa using hlt) ?_;dsimp only [go_sem];have hwy:=Znh s.land hs.land s.start g s.day s.till s.pace;rw [List.drop_eq_getElem_cons (by simpa using hlt),List.getElem_range,ZdV] at hi;by_cases hE:Zdw s.land s.pace s.start g s.day s.till=0
 case neg =>
  simp only [Zdh,XX,if_neg hE] at hwy;refine call hwy ?_;dsimp only [go_sem];refine Zr (by simpa using hE) ?_;dsimp only [go_sem];rw [if_pos hE] at hi;rw [hR,<- hi];refine ⟨_,rfl,?_⟩;exact VG (ZN (VH (ZN Xd Wd)) Wd)
 simp only [Zdh,XX,if_pos hE] at hwy;refine call hwy ?_;dsimp only [go_sem];refine Zo (by simpa using hE) ?_;dsimp only [go_sem];rw [if_neg (by simpa using hE)] at hi;simp only [List.length_map];have hmem:∀ a ∈ U6 s.land s.pace s.start g s.day s.till,YN s.land s.start [s.start] (Xc a)=some (g:Int)/\a.length<=24:=λa ha=>by
  have h1:=((Zpd h).1 ha).1;exact ⟨h1,by simpa [Xc] using (lenS h h1).2⟩
 have hwlen:(U6 s.land s.pace s.start g s.day s.till).length<=1000:=by
  unfold Zdw at hE;split at hE
  . rename_i q;exact absurd hE q
  split at hE
  . simp at hE
  split at hE
  . simp at hE
  . rename_i q;unfold U6;omega
 generalize U6 s.land s.pace s.start g s.day s.till=W at hi hmem hwlen ⊢;refine UD [1,2,3,6,7,34,35,56,57,58] rfl (λq:Nat × Bst=>[(58,I q.1),(3,I q.2.w)]) (λq=>[(1,.cells (ZL q.2.plan) 37),(2,.cells (Vv q.2) 78)])
  (λq=>q.1<=W.length/\(W.drop q.1).foldl (ZBI s g) q.2=W.foldl (ZBI s g) b/\SmB q.2) (λq=>W.length - q.1) (0,b) ⟨Nat.zero_le _,rfl,hb⟩ ?_ ?_
 . (refine Zj ?_ ?_ ?_ rfl rfl<;>dsimp only [ZL,Bst.plan,Vv,XP,XE,YC,YR,Xc,Zh,Zn,Zi,Zl,Ze,Zq,id,go_sem]<;>simp [ZL,Bst.plan,Vv,XP,XE,YC,YR,Xc,Zh,Zn,Zi,Zl,Ze,Zq,Za])
 rintro ⟨i,b1⟩ ⟨hi1,hf1,hb1⟩;simp only at hi1 hf1 hb1;dsimp only [ZL,Bst.plan,Vv,go_sem];by_cases hilt:i < W.length
 case neg =>
  refine Zo (by simp;omega) ?_;dsimp only [go_sem];rw [List.drop_eq_nil_of_le (by omega),List.foldl_nil] at hf1;rw [Zg (n:=(g:Int)+1) (by omega) (by omega)];refine ⟨(g+1,b1),⟨hlt,by simp only;rw [hf1];exact hi,hb1⟩,by simp only;omega,?_⟩;(refine Zj ?_ ?_ ?_ rfl rfl<;>dsimp only [ZL,Bst.plan,Vv,XP,XE,YC,YR,Xc,Zh,Zn,Zi,Zl,Ze,Zq,id,go_sem]<;>simp [ZL,Bst.plan,Vv,XP,XE,YC,YR,Xc,Zh,Zn,Zi,Zl,Ze,Zq,Za])
 refine Zr (by simpa using hilt) ?_;dsimp only [go_sem];refine Zp i hilt rfl ?_;rw [List.drop_eq_getElem_cons hilt,List.foldl_cons] at hf1;obtain ⟨hto,hal⟩:=hmem _ (List.getElem_mem hilt);generalize W[i]=a at hf1 hto hal ⊢;simp only [XE,YC,<- mapW];dsimp only [go_sem];refine UD [1,2,3,6,7,11,34,35,56,57,58,62] rfl (λq:Nat × Bst=>[(62,I q.1),(3,I q.2.w)]) (λq=>[(1,.cells (ZL q.2.plan) 37),(2,.cells (Vv q.2) 78)])
  (λq=>q.1<=13/\((List.range 13).drop q.1).foldl (Zr8 s g a) q.2=ZBI s g b1 a/\SmB q.2) (λq=>13 - q.1) (0,b1) ⟨Nat.zero_le _,rfl,hb1⟩ ?_ ?_
 . (refine Zj ?_ ?_ ?_ rfl rfl<;>dsimp only [ZL,Bst.plan,Vv,XP,XE,YC,YR,Xc,Zh,Zn,Zi,Zl,Ze,Zq,id,go_sem]<;>simp [ZL,Bst.plan,Vv,XP,XE,YC,YR,Xc,Zh,Zn,Zi,Zl,Ze,Zq,Za])
 rintro ⟨k,b2⟩ ⟨hk1,hf2,hb2⟩;simp only at hk1 hf2 hb2;dsimp only [ZL,Bst.plan,Vv,go_sem];by_cases hk:k < 13
 case neg =>
  refine Zo (by simp;omega) ?_;dsimp only [go_sem];rw [List.drop_eq_nil_of_le (by simp;omega),List.foldl_nil] at hf2;rw [Zg (n:=(i:Int)+1) (by omega) (by omega)];refine ⟨(i+1,b2),⟨hilt,by simp only;rw [hf2];exact hf1,hb2⟩,by simp only;omega,?_⟩;(refine Zj ?_ ?_ ?_ rfl rfl<;>dsimp only [ZL,Bst.plan,Vv,XP,XE,YC,YR,Xc,Zh,Zn,Zi,Zl,Ze,Zq,id,go_sem]<;>simp [ZL,Bst.plan,Vv,XP,XE,YC,YR,Xc,Zh,Zn,Zi,Zl,Ze,Zq,Za])
 refine Zr (by simp;omega) ?_;dsimp only [go_sem];refine call (Zyg s h (Xc a) (by rw [hto];rfl) (by rw [Zgx];omega) k ⟨by omega,by omega⟩) ?_;have hfb:=ZwX h (a:=Xc a) (k:=(k:Int));rw [List.drop_eq_getElem_cons (by simpa using hk),List.getElem_range,List.foldl_cons] at hf2;obtain ⟨F,hF⟩:∃ F:Nat,ZfR s (Xc a) k=F:=⟨(ZfR s (Xc a) k).toNat,by omega⟩
 have hsl:Zr8 s g a b2 k=Zfx s g a k F b2:=by simp only [Zr8,hF,Int.toNat_natCast]
 rw [hsl] at hf2;rw [hF] at hfb ⊢;dsimp only [go_sem];refine UD [1,2,3,6,7,11,12,13,34,35,56,57,58,62] rfl (λq:Nat × Bst=>[(13,I q.1),(3,I q.2.w)]) (λq=>[(1,.cells (ZL q.2.plan) 37),(2,.cells (Vv q.2) 78)])
  (λq=>q.1<=F/\Zfx s g a k q.1 q.2=Zfx s g a k F b2/\SmB q.2) (λq=>q.1) (F,b2) ⟨Nat.le_refl _,rfl,hb2⟩ ?_ ?_
 . (refine Zj ?_ ?_ ?_ rfl rfl<;>dsimp only [ZL,Bst.plan,Vv,XP,XE,YC,YR,Xc,Zh,Zn,Zi,Zl,Ze,Zq,id,go_sem]<;>simp [ZL,Bst.plan,Vv,XP,XE,YC,YR,Xc,Zh,Zn,Zi,Zl,Ze,Zq,Za])
 rintro ⟨n,b3⟩ ⟨hn1,hf3,hb3⟩;simp only at hn1 hf3 hb3;dsimp only [ZL,Bst.plan,Vv,go_sem];by_cases h0:n=0
 . subst h0;refine Zr (by simp) ?_;dsimp only [go_sem];rw [Zfx] at hf3;rw [Zg (n:=(k:Int)+1) (by omega) (by omega)];refine ⟨(k+1,b3),⟨by simp only;omega,by simp only;rw [hf3];exact hf2,hb3⟩,by simp only;omega,?_⟩;(refine Zj ?_ ?_ ?_ rfl rfl<;>dsimp only [ZL,Bst.plan,Vv,XP,XE,YC,YR,Xc,Zh,Zn,Zi,Zl,Ze,Zq,id,go_sem]<;>simp [ZL,Bst.plan,Vv,XP,XE,YC,YR,Xc,Zh,Zn,Zi,Zl,Ze,Zq,Za])
 obtain ⟨m,rfl⟩:∃ m,n=m+1:=⟨n - 1,by omega⟩
 refine Zo (by simp;omega) ?_;dsimp only [go_sem];have hp:XB s ⟨Xc a,((m+1:Nat):Int),k⟩=true:=Zo4 hto ⟨by simp only;omega,by simp only;omega⟩ ⟨by simp only;omega,by simp only;omega⟩;have hcs:SmB (XP s g a k ((m+1:Nat):Int)):=ZwY (by omega) ⟨by omega,by omega⟩ ⟨by omega,by omega⟩;have hwo:=Zf4 s h ⟨Xc a,((m+1:Nat):Int),k⟩ hp g hlt;simp only [ZL] at hwo;refine call hwo ?_;dsimp only [go_sem];have hso:=Zeb (XP s g a k ((m+1:Nat):Int)) hcs
 simp only [ZL,Bst.plan,XP,Vv] at hso;refine call hso ?_;dsimp only [go_sem];have hbo:=ZkW (XP s g a k ((m+1:Nat):Int)) b3 hcs hb3;simp only [ZL,Bst.plan,Vv] at hbo;refine call hbo ?_;dsimp only [go_sem];rw [Zfx] at hf3;by_cases hbb:Yo (XP s g a k ((m+1:Nat):Int)) b3=true
 . refine Zr (by simpa using hbb) ?_;dsimp only [go_sem];rw [ZlG,if_pos hbb] at hf3;rw [Zg (n:=(((m+1:Nat):Int)) - 1) (by omega) (by omega),show (((m+1:Nat):Int)) - 1=(m:Int) from by omega];refine ⟨(m,XP s g a k ((m+1:Nat):Int)),⟨by simp only;omega,hf3,hcs⟩,by simp only;omega,?_⟩;(refine Zj ?_ ?_ ?_ rfl rfl<;>dsimp only [ZL,Bst.plan,Vv,XP,XE,YC,YR,Xc,Zh,Zn,Zi,Zl,Ze,Zq,id,go_sem]<;>simp [ZL,Bst.plan,Vv,XP,XE,YC,YR,Xc,Zh,Zn,Zi,Zl,Ze,Zq,Za])
 . refine Zo (by simpa using hbb) ?_;dsimp only [go_sem];rw [ZlG,if_neg hbb] at hf3;rw [Zg (n:=(((m+1:Nat):Int)) - 1) (by omega) (by omega),show (((m+1:Nat):Int)) - 1=(m:Int) from by omega];refine ⟨(m,b3),⟨by simp only;omega,hf3,hb3⟩,by simp only;omega,?_⟩;(refine Zj ?_ ?_ ?_ rfl rfl<;>dsimp only [ZL,Bst.plan,Vv,XP,XE,YC,YR,Xc,Zh,Zn,Zi,Zl,Ze,Zq,id,go_sem]<;>simp [ZL,Bst.plan,Vv,XP,XE,YC,YR,Xc,Zh,Zn,Zi,Zl,Ze,Zq,Za])
end Go.Proofs.YtongccnhomncnaaGreat
namespace Go.Azalai
def Zba:Season:=⟨ZeT,⟨10,10⟩,Zak,Zat,2,1,50,2,3,0,0,9,[⟨⟨0,0⟩,⟨0,0⟩,[⟨0,0⟩,⟨0,0⟩],[0,9]⟩]⟩
theorem ZgU:Zg4 Zba=(⟨[0],2,1⟩,14,0):=by decide +kernel
theorem Zfn:SmallS Zba:=⟨⟨by decide,by decide,by decide⟩,by decide,by decide⟩
end Go.Azalai
namespace Go.Proofs.YtongccnhomncnaaGreat
open Go Go.Sx Go.Azalai
theorem VH {l l':List SV} (h:∀ (w:World) (E:Env) (n ok:Nat->Prop) (ys:List Value),RL w E n ok l ys->RL w E n ok l' ys):Zcy (.agg l) (.agg l'):=λw E n ok y hy=>by
 simp only [R] at hy ⊢;obtain ⟨cs,h1,h2⟩:=hy;exact ⟨cs,h1,h _ _ _ _ _ h2⟩
theorem ZvU {s:SV}:Zcy s s:=λ_ _ _ _ _ h=>h
def ZgP:List SV:=(Zt Zba).take 36 ++ [.sl true 6 [[I 0,I 0,I 0,I 0,.sl false 2 [[I 0,I 0],[I 0,I 0]],.sl true 1 [[I 0],[I 9]]]]]
theorem ZuS:Zcy (.agg ZgP) (.agg (Zt Zba)):=by
 refine VH ?_;unfold ZgP Zt;simp only [List.take_succ_cons,List.take_zero,List.cons_append,List.nil_append]
 iterate 36 refine ZN ZvU ?_
 exact ZN (ZjV (rrw1 (r:=[I 0,I 0,I 0,I 0,.sl false 2 [[I 0,I 0],[I 0,I 0]],.sl true 1 [[I 0],[I 9]]]) (Y9 ZvU (Y9 ZvU (Y9 ZvU (Y9 ZvU (Y9 ZvU (Y9 ZgL Zdy)))))) rfl)) Zdy
theorem ZpU:Ct Tryz.prog 10 [] (.agg (Zt Zba)):=by
 have h:Ct Tryz.prog 10 [] (.agg ZgP):=by
  refine t10.1 (by simp) (by simp [Za,KFR,ZgP,Zt,Zh,Zn,Zi,Zba,ZeT,Zak,Zat,Ze]) ?_;dsimp only [c10,r10,go_sem];refine call Zej ?_;dsimp only [Cm.breedL,Cm.camelL,go_sem];refine call Zf1 ?_;dsimp only [Ye,go_sem];refine call (WN _ _) ?_;dsimp only [go_sem];refine ⟨.sl false 2 [[I 0,I 0],[I 0,I 0]],?_,?_⟩
  . exact Zs8 (m:=2) (b:=16) (T:=27) (kd:=.i64) (n:=0) (k:=2) (z:=zv0) (by rfl) (by decide) (by decide)
  dsimp only [go_sem];rfl
 exact Ct.res h (by simp [Zt,Za,Zh,Zn,Zi,Zl,Ze,Zq]) ZuS
theorem Zh9:Ct Tryz.prog 4 [] (B true):=by
 refine t4.1 (by simp) (by simp) ?_;dsimp only [c4,r4,go_sem];refine call ZpU ?_;dsimp only [go_sem];have hb:=Zxb Zba Zfn;rw [ZgU] at hb;refine call hb ?_;dsimp only [Zxv,ZL,go_sem];refine call ZhB ?_;dsimp only [go_sem];have hs:Ct Tryz.prog 12 [.agg [.sl false 1 [[I 0]],I 2,I 1],.agg [.sl true 1 [[I 0]],I 2,I 1]] (B true) :=
  Ct.args (ZfN ⟨[0],2,1⟩ ⟨[0],2,1⟩ (by decide) (by decide)) (by simp [KFR]) (ZN ZvU (ZN (VH (ZN ZgL Wd)) Wd))
 repeat (first | (refine ZR rfl ?_;dsimp only [go_sem]) | (refine call hs ?_;dsimp only [go_sem]))
 rfl
end Go.Proofs.YtongccnhomncnaaGreat
namespace Go.Azalai
open Go.Sx
def YJ (s:Season) (p:Plan):Bool:=!Up s && decide (p.legs.length<=40) && decide (s.till<=2000) && ZB s && XB s p
end Go.Azalai
namespace Go.Proofs.YtongccnhomncnaaGreat
open Go Go.Sx Go.Azalai
theorem Zit (s:Season) (hs:SmallS s):Ct Tryz.prog 14 [.agg (Zt s)] (I (if ZB s=true then 0 else 90)):=by
 refine t14.1 (by simp [Zt,Zl,Zh,Zn,Zi,Ze,Zq,Za]) (by simp) ?_;dsimp only [c14,r14,Zt,go_sem];refine call (ZkG s hs) ?_;dsimp only [go_sem];refine br ?_ ?_
 . intro h;dsimp only [go_sem];simp at h;simp [h]
 . intro h;dsimp only [go_sem];simp at h;simp [h]
structure PlannedS (s:Season) (p:Plan):Prop where
 great:Up s=false
 ok:OkS s
 legs:p.legs.length<=40
 plan:XB s p=true
 till:s.till<=2000
theorem ZeN {s:Season} {p:Plan} (h:YJ s p=true):PlannedS s p:=by
 simp only [YJ,Bool.and_eq_true,Bool.not_eq_true',decide_eq_true_eq] at h;obtain ⟨⟨⟨⟨h1,h3⟩,h5⟩,h2⟩,h4⟩:=h;exact ⟨h1,⟨ZdJ h1,h2⟩,h3,h4,h5⟩
theorem Zhq (s:Season) (p:Plan):Ct Tryz.prog 5 [.agg (Zt s),.agg (ZL p)] (B (YJ s p)):=by
 refine t5.1 (by simp [Zt,ZL,Zl,Zh,Zn,Zi,Ze,Zq,Za]) (by simp) ?_;dsimp only [c5,r5,Zt,ZL,go_sem];refine call (Zjv s) ?_;dsimp only [go_sem];cases h:Up s
 case true =>
  rw [show YJ s p=false from by simp [YJ,h]];repeat (refine YW (by decide) ?_;dsimp only [go_sem])
 have hs:=ZdJ h;iterate 4 (refine ZR rfl ?_;dsimp only [go_sem])
 simp only [List.length_map];by_cases h3:p.legs.length<=40
 case neg =>
  rw [show YJ s p=false from by simp [YJ,h,h3]];have:decide ((p.legs.length:Int)<=40)=false:=by simp;omega
  simp only [this,Bool.and_false];repeat (refine YW (by decide) ?_;dsimp only [go_sem])
 have e3:decide ((p.legs.length:Int)<=40)=true:=by simp;omega
 simp only [e3,Bool.and_true];iterate 3 (refine ZR rfl ?_;dsimp only [go_sem])
 by_cases h5:s.till<=2000
 case neg =>
  rw [show YJ s p=false from by simp [YJ,h5]];simp only [h5,decide_false,Bool.and_false];repeat (refine YW (by decide) ?_;dsimp only [go_sem])
 simp only [h5,decide_true,Bool.and_true];refine ZR rfl ?_;dsimp only [go_sem];refine ZR rfl ?_;dsimp only [go_sem];refine call (Zit s hs) ?_;dsimp only [go_sem];refine ZR rfl ?_;dsimp only [go_sem];cases h2:ZB s
 case false =>
  rw [show YJ s p=false from by simp [YJ,h,h2]];simp only [Bool.false_eq_true,if_false,Bool.not_false,Bool.true_and,show ((90:Int) == 0)=false from rfl];repeat (refine YW (by decide) ?_;dsimp only [go_sem])
 simp only [if_true,Bool.not_false,Bool.true_and,show ((0:Int) == 0)=true from rfl];iterate 2 (refine ZR rfl ?_;dsimp only [go_sem])
 refine ZR rfl ?_;dsimp only [go_sem];refine call (Zx3 s ⟨hs,h2⟩ p (by omega)) ?_;dsimp only [go_sem];simp [YJ,h,h2,h3,h5]
end Go.Proofs.YtongccnhomncnaaGreat
