/- Walks and plain laws that lead to the given statement, part 8 of 10. -/
import Derived.Test.YtkpkgafhfakpdaaGreatDoorQG
import Derived.Laws.BytesString
import Derived.Test.YtkpkgafhfakpdaaGreatDoorProg
set_option maxRecDepth 100000
set_option maxHeartbeats 4000000
set_option linter.all false
open Nat renaming beq_refl->nbr
namespace Go.Proofs.YtkpkgafhfakpdaaGreatDoor.Cm
open Go Go.Sx Go.Azalai
theorem uwn {n:Int} (h0:0<=n) (h1:n < 18446744073709551616):IntKind.u64.wrap n=n:=by
 have e:n % 2 ^ IntKind.u64.bits=n:=Int.emod_eq_of_lt h0 (by show n < 2 ^ 64;omega);simp only [IntKind.wrap,e,show IntKind.u64.signed=false from rfl,Bool.false_and];rfl
theorem VM (m:Int) (q0:0<=m) (w:World):(binOp .shr 153 (.int .u64 m) (.int .u64 1)).run Tryz.prog w = .ok (.int .u64 (m / 2)) w:=by
 simp only [binOp,Op.shift];rw [if_neg (by decide)];have:m.fdiv (2 ^ 1)=m / 2:=by rw [Int.fdiv_eq_ediv_of_nonneg _ (by decide)];rfl
 show Result.ok (Value.int .u64 (m.fdiv (2 ^ (min (1:Int).toNat IntKind.u64.bits)))) w=_;rw [show min (1:Int).toNat IntKind.u64.bits=1 from by decide,this]
theorem Zrq (v N:Nat):∀ (a m b:Nat) (l:List Meet),b - a<=N->a < m->m < b->b<=l.length->l.length < 4611686018427387904->Srt Meet.day a m l->Srt Meet.day m b l ->
 CtM Tryz.prog 268 [(0,.row v 4 (l.map Zg) 274)] 1 [.mr 0 v,I a,I m,I b,.cl 210 []] (λo=>∃ l',PIn a b l l'/\Srt Meet.day a b l'/\o=YW v l'):=by
 induction N with
 | zero=>intro a m b l h1 h2 h3;omega
 | succ N ih =>
 intro a m b l hN ham hmb hb hL hs1 hs2;refine m268 (by simp [hpb]) (λo ho=>by obtain ⟨l',_,_,rfl⟩:=ho;simp [YW,KX,KXL,KXP,KXH,Za,KFL,KF,Zg]) ?_;dsimp only [c268,r268,go_sem];rw [Zf (n:=(m:Int) - (a:Int)) (by omega) (by omega)];by_cases hm1:m=a+1
 . refine Zt (by simp;omega) ?_;dsimp only [go_sem];refine Yb (λs:Nat × Nat=>[(10,I (s.1:Nat)),(11,I (s.2:Nat))]) (λ_=>[]) (λs=>m<=s.1/\s.1<=s.2/\s.2<=b/\(∀ c,m<=c->c < s.1->ky Meet.day l c < ky Meet.day l a)/\∀ c,s.2<=c->c < b->ky Meet.day l a<=ky Meet.day l c) (λs=>s.2 - s.1) (m,b) ⟨Nat.le_refl _,by simp only;omega,Nat.le_refl _,λc h1 h2=>by simp only at h2;omega,λc h1 h2=>by simp only at h1;omega⟩ ?_ ?_
   . (refine Zi ?_ ?_ ?_ rfl rfl<;>dsimp only [Zg,id,go_sem]<;>simp [Zg,Za])
   rintro ⟨i,j⟩ ⟨hi,hij,hj,hlo,hhi⟩;simp only at hi hij hj hlo hhi;dsimp only [go_sem];by_cases hlt:i < j
   . refine Zt (by simpa using hlt) ?_;dsimp only [go_sem];simp (disch:=omega) only [Zf];rw [uwn (by omega) (by omega)];refine YZ rfl (.inr rfl) (VM _ (by omega)) rfl ?_;dsimp only [go_sem];obtain ⟨h,hh⟩:∃ h:Nat,((i:Int)+(j:Int)) / 2=(h:Int):=⟨(i+j) / 2,by omega⟩
     rw [hh,Zf (n:=(h:Int)) (by omega) (by omega)];have hih:i<=h/\h < j:=by omega
     (repeat first | dsimp only [go_sem] | simp only [nbr])
     refine XC h rfl (by simp;omega) ?_
     (repeat first | dsimp only [go_sem] | simp only [nbr])
     refine VX (by omega) ?_
     (repeat first | dsimp only [Zg,go_sem] | simp only [nbr])
     refine XC a rfl (by simp;omega) ?_
     (repeat first | dsimp only [go_sem] | simp only [nbr])
     refine VX (by omega) ?_
     (repeat first | dsimp only [Zg,go_sem] | simp only [nbr])
     refine call (Ud l[h] l[a]) ?_
     (repeat first | dsimp only [go_sem] | simp only [nbr])
     by_cases hk:l[h].day < l[a].day
     . refine Zt (by simp [Zds,hk]) ?_;dsimp only [go_sem];rw [Zf (n:=(h:Int)+1) (by omega) (by omega)];have hkk:ky Meet.day l h < ky Meet.day l a:=by rw [XF Meet.day (l:=l) (i:=h) (by omega),XF Meet.day (l:=l) (i:=a) (by omega)];exact hk
       refine ⟨(h+1,j),⟨by simp only;omega,by simp only;omega,hj,λc g1 g2=>?_,hhi⟩,by simp only;omega,?_⟩
       . have:=hs2.le Meet.day g1 (show c<=h by simp only at g2;omega) (by omega);omega
       (refine Zi ?_ ?_ ?_ rfl rfl<;>dsimp only [Zg,id,go_sem]<;>simp [Zg,Za])
     . refine Zn (by simp [Zds,hk];split<;>decide) ?_;dsimp only [go_sem];have hkk:ky Meet.day l a<=ky Meet.day l h:=by rw [XF Meet.day (l:=l) (i:=h) (by omega),XF Meet.day (l:=l) (i:=a) (by omega)];exact Int.not_lt.1 hk
       refine ⟨(i,h),⟨hi,by simp only;omega,by simp only;omega,hlo,λc g1 g2=>?_⟩,by simp only;omega,?_⟩
       . have:=hs2.le Meet.day (show m<=h by omega) g1 g2;omega
       (refine Zi ?_ ?_ ?_ rfl rfl<;>dsimp only [Zg,id,go_sem]<;>simp [Zg,Za])
   refine Zn (by simp;omega) ?_;dsimp only [go_sem];have hij':i=j:=by omega
   subst hij'
   refine Yb (λs:Nat × List Meet=>[(13,I (s.1:Nat))]) (λs=>[(0,.row v 4 (s.2.map Zg) 274)]) (λs=>(a<=s.1/\s.1<=i - 1)/\PIn a b l s.2/\∀ p,ky Meet.day s.2 p=if a<=p/\p < s.1 then ky Meet.day l (p+1) else if p=s.1 then ky Meet.day l a else ky Meet.day l p) (λs=>i - s.1) (a,l) ⟨by simp only;omega,.refl _ _ _,λp=>by
    simp only;rw [if_neg (by omega)];split
    . rename_i h;rw [h]
    . rfl⟩ ?_ ?_
   . (refine Zi ?_ ?_ ?_ rfl rfl<;>dsimp only [Zg,id,go_sem]<;>simp [Zg,Za])
   rintro ⟨k,l1⟩ ⟨⟨hk0,hk⟩,hp,hky⟩;simp only at hk0 hk hp hky;have hl1:=hp.len;dsimp only [go_sem];rw [Zf (n:=(i:Int) - 1) (by omega) (by omega)];by_cases hlt:k < i - 1
   . refine Zt (by simp;omega) ?_
     (repeat first | dsimp only [go_sem] | simp only [nbr])
     rw [Zf (n:=(k:Int)+1) (by omega) (by omega)];refine XC (k+1) (by omega) (by simp;omega) ?_
     (repeat first | dsimp only [go_sem] | simp only [nbr])
     refine VX (by omega) ?_
     (repeat first | dsimp only [Zg,go_sem] | simp only [nbr])
     refine XC k rfl (by simp;omega) ?_
     (repeat first | dsimp only [go_sem] | simp only [nbr])
     refine VX (by omega) ?_
     (repeat first | dsimp only [Zg,go_sem] | simp only [nbr])
     refine XC k rfl (by simp;omega) ?_
     (repeat first | dsimp only [go_sem] | simp only [nbr])
     refine Zc2 l1[k+1] (by omega) (by simp [Zg]) (by simp [Zg,Zq]) ?_
     (repeat first | dsimp only [go_sem] | simp only [nbr])
     refine XC (k+1) (by first | omega | (rw [Zf (by omega) (by omega)];omega)) (by simp;omega) ?_
     (repeat first | dsimp only [go_sem] | simp only [nbr])
     refine Zc2 l1[k] (by simp;omega) (by simp [Zg]) (by simp [Zg,Zq]) ?_;rw [<- Zbi (l:=l1) (i:=k) (j:=k+1) (by omega) (by omega)]
     (repeat first | dsimp only [go_sem] | simp only [nbr])
     try rw [Zf (n:=(k:Int)+1) (by omega) (by omega)]
     rw [show (k:Int)+1=((k+1:Nat):Int) from by omega];refine ⟨(k+1,swp l1 k (k+1)),⟨by simp only;omega,hp.trans (.swap (by omega) (by omega) (by omega) (by omega) (by omega)),λp=>?_⟩,by simp only;omega,?_⟩
     . simp only;rw [ZeY Meet.day (by omega) (by omega),hky,hky,hky];by_cases h1:p=k
       . subst h1;rw [if_pos rfl,if_neg (by omega),if_neg (by omega),if_pos (by omega)]
       . rw [if_neg h1];by_cases h2:p=k+1
         . subst h2;rw [if_pos rfl,if_neg (by omega),if_pos rfl,if_neg (by omega),if_pos rfl]
         . rw [if_neg h2,if_neg h2];by_cases h3:a<=p/\p < k
           . rw [if_pos h3,if_pos (by omega)]
           . rw [if_neg h3,if_neg h1,if_neg (by omega)]
     (refine Zi ?_ ?_ ?_ rfl rfl<;>dsimp only [Zg,id,go_sem]<;>simp [Zg,Za])
   refine Zn (by simp;omega) ?_;dsimp only [go_sem];have hki:k=i - 1:=by omega
   refine ⟨_,⟨l1,hp,λp q g1 g2 g3=>?_,rfl⟩,?_⟩
   . rw [hky,hky];by_cases h1:p < k
     . rw [if_pos (by omega)];by_cases h2:q < k
       . rw [if_pos (by omega)];exact hs2 _ _ (by omega) (by omega) (by omega)
       . rw [if_neg (by omega)];by_cases h3:q=k
         . rw [if_pos h3];exact Int.le_of_lt (hlo _ (by omega) (by omega))
         . rw [if_neg h3];exact hs2 _ _ (by omega) (by omega) (by omega)
     . rw [if_neg (by omega),if_neg (c:=a<=q/\q < k) (by omega),if_neg (c:=q=k) (by omega)];by_cases h3:p=k
       . rw [if_pos h3];exact hhi _ (by omega) (by omega)
       . rw [if_neg h3];exact hs2 _ _ (by omega) (by omega) (by omega)
   . simp only [YW];(refine Zp ?_ ?_ ?_ rfl<;>dsimp only [Zg,id,go_sem]<;>simp [Zg,Za])
 refine Zn (by simp;omega) ?_;dsimp only [go_sem];rw [Zf (n:=(b:Int) - (m:Int)) (by omega) (by omega)];by_cases hb1:b=m+1
 . refine Zt (by simp;omega) ?_;dsimp only [go_sem];refine Yb (λs:Nat × Nat=>[(14,I (s.1:Nat)),(15,I (s.2:Nat))]) (λ_=>[]) (λs=>a<=s.1/\s.1<=s.2/\s.2<=m/\(∀ c,a<=c->c < s.1->ky Meet.day l c<=ky Meet.day l m)/\∀ c,s.2<=c->c < m->ky Meet.day l m < ky Meet.day l c) (λs=>s.2 - s.1) (a,m) ⟨Nat.le_refl _,by simp only;omega,Nat.le_refl _,λc h1 h2=>by simp only at h2;omega,λc h1 h2=>by simp only at h1;omega⟩ ?_ ?_
   . (refine Zi ?_ ?_ ?_ rfl rfl<;>dsimp only [Zg,id,go_sem]<;>simp [Zg,Za])
   rintro ⟨i,j⟩ ⟨hi,hij,hj,hlo,hhi⟩;simp only at hi hij hj hlo hhi;dsimp only [go_sem];by_cases hlt:i < j
   . refine Zt (by simpa using hlt) ?_;dsimp only [go_sem];simp (disch:=omega) only [Zf];rw [uwn (by omega) (by omega)];refine YZ rfl (.inr rfl) (VM _ (by omega)) rfl ?_;dsimp only [go_sem];obtain ⟨h,hh⟩:∃ h:Nat,((i:Int)+(j:Int)) / 2=(h:Int):=⟨(i+j) / 2,by omega⟩
     rw [hh,Zf (n:=(h:Int)) (by omega) (by omega)];have hih:i<=h/\h < j:=by omega
     (repeat first | dsimp only [go_sem] | simp only [nbr])
     refine XC m rfl (by simp;omega) ?_
     (repeat first | dsimp only [go_sem] | simp only [nbr])
     refine VX (by omega) ?_
     (repeat first | dsimp only [Zg,go_sem] | simp only [nbr])
     refine XC h rfl (by simp;omega) ?_
     (repeat first | dsimp only [go_sem] | simp only [nbr])
     refine VX (by omega) ?_
     (repeat first | dsimp only [Zg,go_sem] | simp only [nbr])
     refine call (Ud l[m] l[h]) ?_
     (repeat first | dsimp only [go_sem] | simp only [nbr])
     by_cases hk:l[m].day < l[h].day
     . refine Zn (by simp [Zds,hk]) ?_;dsimp only [go_sem];have hkk:ky Meet.day l m < ky Meet.day l h:=by rw [XF Meet.day (l:=l) (i:=h) (by omega),XF Meet.day (l:=l) (i:=m) (by omega)];exact hk
       refine ⟨(i,h),⟨hi,by simp only;omega,by simp only;omega,hlo,λc g1 g2=>?_⟩,by simp only;omega,?_⟩
       . have:=hs1.le Meet.day (show a<=h by omega) g1 g2;omega
       (refine Zi ?_ ?_ ?_ rfl rfl<;>dsimp only [Zg,id,go_sem]<;>simp [Zg,Za])
     . refine Zt (by simp [Zds,hk];split<;>decide) ?_;dsimp only [go_sem];rw [Zf (n:=(h:Int)+1) (by omega) (by omega)];have hkk:ky Meet.day l h<=ky Meet.day l m:=by rw [XF Meet.day (l:=l) (i:=h) (by omega),XF Meet.day (l:=l) (i:=m) (by omega)];exact Int.not_lt.1 hk
       refine ⟨(h+1,j),⟨by simp only;omega,by simp only;omega,hj,λc g1 g2=>?_,hhi⟩,by simp only;omega,?_⟩
       . have:=hs1.le Meet.day g1 (show c<=h by simp only at g2;omega) (by omega);omega
       (refine Zi ?_ ?_ ?_ rfl rfl<;>dsimp only [Zg,id,go_sem]<;>simp [Zg,Za])
   refine Zn (by simp;omega) ?_;dsimp only [go_sem];have hij':i=j:=by omega
   subst hij'
   refine Yb (λs:Nat × List Meet=>[(17,I (s.1:Nat))]) (λs=>[(0,.row v 4 (s.2.map Zg) 274)]) (λs=>(i<=s.1/\s.1<=m)/\PIn a b l s.2/\∀ p,ky Meet.day s.2 p=if s.1 < p/\p<=m then ky Meet.day l (p - 1) else if p=s.1 then ky Meet.day l m else ky Meet.day l p) (λs=>s.1) (m,l) ⟨by simp only;omega,.refl _ _ _,λp=>by
    simp only;rw [if_neg (by omega)];split
    . rename_i h;rw [h]
    . rfl⟩ ?_ ?_
   . (refine Zi ?_ ?_ ?_ rfl rfl<;>dsimp only [Zg,id,go_sem]<;>simp [Zg,Za])
   rintro ⟨k,l1⟩ ⟨⟨hk0,hk⟩,hp,hky⟩;simp only at hk0 hk hp hky;have hl1:=hp.len;dsimp only [go_sem];by_cases hlt:i < k
   . refine Zt (by simp;omega) ?_
     (repeat first | dsimp only [go_sem] | simp only [nbr])
     rw [Zf (n:=(k:Int) - 1) (by omega) (by omega)];refine XC (k - 1) (by omega) (by simp;omega) ?_
     (repeat first | dsimp only [go_sem] | simp only [nbr])
     refine VX (by omega) ?_
     (repeat first | dsimp only [Zg,go_sem] | simp only [nbr])
     refine XC k rfl (by simp;omega) ?_
     (repeat first | dsimp only [go_sem] | simp only [nbr])
     refine VX (by omega) ?_
     (repeat first | dsimp only [Zg,go_sem] | simp only [nbr])
     refine XC k rfl (by simp;omega) ?_
     (repeat first | dsimp only [go_sem] | simp only [nbr])
     refine Zc2 l1[k - 1] (by omega) (by simp [Zg]) (by simp [Zg,Zq]) ?_
     (repeat first | dsimp only [go_sem] | simp only [nbr])
     refine XC (k - 1) (by first | omega | (rw [Zf (by omega) (by omega)];omega)) (by simp;omega) ?_
     (repeat first | dsimp only [go_sem] | simp only [nbr])
     refine Zc2 l1[k] (by simp;omega) (by simp [Zg]) (by simp [Zg,Zq]) ?_;rw [<- Zbi (l:=l1) (i:=k) (j:=k - 1) (by omega) (by omega)]
     (repeat first | dsimp only [go_sem] | simp only [nbr])
     try rw [Zf (n:=(k:Int) - 1) (by omega) (by omega)]
     rw [show (k:Int) - 1=((k - 1:Nat):Int) from by omega];refine ⟨(k - 1,swp l1 k (k - 1)),⟨by simp only;omega,hp.trans (.swap (by omega) (by omega) (by omega) (by omega) (by omega)),λp=>?_⟩,by simp only;omega,?_⟩
     . simp only;rw [ZeY Meet.day (by omega) (by omega),hky,hky,hky];by_cases h1:p=k
       . subst h1;rw [if_pos rfl,if_neg (by omega),if_neg (by omega),if_pos (by omega)]
       . rw [if_neg h1];by_cases h2:p=k - 1
         . subst h2;rw [if_pos rfl,if_neg (by omega),if_pos rfl,if_neg (by omega),if_pos rfl]
         . rw [if_neg h2,if_neg h2];by_cases h3:k < p/\p<=m
           . rw [if_pos h3,if_pos (by omega)]
           . rw [if_neg h3,if_neg h1,if_neg (by omega)]
     (refine Zi ?_ ?_ ?_ rfl rfl<;>dsimp only [Zg,id,go_sem]<;>simp [Zg,Za])
   refine Zn (by simp;omega) ?_;dsimp only [go_sem];have hki:k=i:=by omega
   refine ⟨_,⟨l1,hp,λp q g1 g2 g3=>?_,rfl⟩,?_⟩
   . rw [hky,hky];by_cases h1:p < k
     . rw [if_neg (by omega),if_neg (c:=p=k) (by omega)];by_cases h2:q < k
       . rw [if_neg (by omega),if_neg (c:=q=k) (by omega)];exact hs1 _ _ (by omega) (by omega) (by omega)
       . by_cases h3:q=k
         . rw [if_neg (by omega),if_pos h3];exact hlo _ (by omega) (by omega)
         . rw [if_pos (by omega)];exact hs1.le Meet.day (by omega) (by omega) (by omega)
     . rw [if_pos (c:=k < q/\q<=m) (by omega)];by_cases h3:p=k
       . rw [if_neg (by omega),if_pos h3];exact Int.le_of_lt (hhi _ (by omega) (by omega))
       . rw [if_pos (by omega)];exact hs1 _ _ (by omega) (by omega) (by omega)
   . simp only [YW];(refine Zp ?_ ?_ ?_ rfl<;>dsimp only [Zg,id,go_sem]<;>simp [Zg,Za])
 refine Zn (by simp;omega) ?_;dsimp only [go_sem];simp (disch:=omega) only [Zf];rw [uwn (by omega) (by omega)];refine YZ rfl (.inr rfl) (VM _ (by omega)) rfl ?_;dsimp only [go_sem];obtain ⟨mid,hmid⟩:∃ h:Nat,((a:Int)+(b:Int)) / 2=(h:Int):=⟨(a+b) / 2,by omega⟩
 rw [hmid,Zf (n:=(mid:Int)) (by omega) (by omega)];have hm1':2 * mid<=a+b/\a+b<=2 * mid+1:=by omega
 rw [Zf (n:=(mid:Int)+(m:Int)) (by omega) (by omega)];have tail0:∀ s0 r0:Nat,s0=(if m > mid then mid+m - b else a)->r0=(if m > mid then mid else m)->a<=s0/\s0<=r0/\r0<=m/\(∀ c,s0<=c->c < r0->m<=mid+m - 1 - c/\mid+m - 1 - c < b):=λs0 r0 h1 h2=>by
  by_cases hgt:m > mid
  . rw [if_pos hgt] at h1 h2;subst h1;subst h2;refine ⟨by omega,by omega,by omega,λc _ _=>by omega⟩
  . rw [if_neg hgt] at h1 h2;subst h1;subst h2;refine ⟨by omega,by omega,by omega,λc _ _=>by omega⟩
 obtain ⟨s0,hs0⟩:∃ s0:Nat,s0=(if m > mid then mid+m - b else a):=⟨_,rfl⟩
 obtain ⟨r0,hr0⟩:∃ r0:Nat,r0=(if m > mid then mid else m):=⟨_,rfl⟩
 obtain ⟨t1,t2,t3,t4⟩:=tail0 s0 r0 hs0 hr0;by_cases hgt:m > mid
 . refine Zt (by simp;omega) ?_;dsimp only [go_sem];rw [Zf (n:=(mid:Int)+(m:Int) - (b:Int)) (by omega) (by omega),Zf (n:=(mid:Int)+(m:Int) - 1) (by omega) (by omega)];have e1:(mid:Int)+(m:Int) - (b:Int)=(s0:Int):=by rw [if_pos hgt] at hs0;omega
   have e2:mid=r0:=by rw [if_pos hgt] at hr0;omega
   rw [e1];have hM:((mid:Int))=(r0:Int):=by omega
   refine Yb (λs:Nat × Nat=>[(20,I (s.1:Nat)),(21,I (s.2:Nat))]) (λ_=>[]) (λs=>s0<=s.1/\s.1<=s.2/\s.2<=r0/\Srch (mid+m - 1) s0 r0 s.1 s.2 (ky Meet.day l)) (λs=>s.2 - s.1) (s0,r0) ⟨Nat.le_refl _,t2,Nat.le_refl _,Zbf _ _ _ _⟩ ?_ ?_
   . rw [hM];(refine Zi ?_ ?_ ?_ rfl rfl<;>dsimp only [Zg,id,go_sem]<;>simp [Zg,Za])
   rintro ⟨i,j⟩ ⟨hi,hij,hj,hsr⟩;simp only at hi hij hj hsr;dsimp only [go_sem];by_cases hlt:i < j
   . refine Zt (by simpa using hlt) ?_;dsimp only [go_sem];simp (disch:=omega) only [Zf];rw [uwn (by omega) (by omega)];refine YZ rfl (.inr rfl) (VM _ (by omega)) rfl ?_;dsimp only [go_sem];obtain ⟨h,hh⟩:∃ h:Nat,((i:Int)+(j:Int)) / 2=(h:Int):=⟨(i+j) / 2,by omega⟩
     rw [hh,Zf (n:=(h:Int)) (by omega) (by omega)];have hih:i<=h/\h < j:=by omega
     have hph:=t4 h (by omega) (by omega);rw [Zf (n:=(mid:Int)+(m:Int) - 1 - (h:Int)) (by omega) (by omega)]
     (repeat first | dsimp only [go_sem] | simp only [nbr])
     refine XC (mid+m - 1 - h) (by omega) (by simp;omega) ?_
     (repeat first | dsimp only [go_sem] | simp only [nbr])
     refine VX (by omega) ?_
     (repeat first | dsimp only [Zg,go_sem] | simp only [nbr])
     refine XC h rfl (by simp;omega) ?_
     (repeat first | dsimp only [go_sem] | simp only [nbr])
     refine VX (by omega) ?_
     (repeat first | dsimp only [Zg,go_sem] | simp only [nbr])
     refine call (Ud l[mid+m - 1 - h] l[h]) ?_
     (repeat first | dsimp only [go_sem] | simp only [nbr])
     by_cases hk:l[mid+m - 1 - h].day < l[h].day
     . refine Zn (by simp [Zds,hk]) ?_;dsimp only [go_sem];have hkk:ky Meet.day l (mid+m - 1 - h) < ky Meet.day l h:=by rw [XF Meet.day (l:=l) (i:=h) (by omega),XF Meet.day (l:=l) (i:=mid+m - 1 - h) (by omega)];exact hk
       refine ⟨(i,h),⟨hi,by simp only;omega,by simp only;omega,ZcI hsr hs1 hs2 t1 t3 t4 hih.1 hih.2 hj hkk hi⟩,by simp only;omega,?_⟩;(refine Zi ?_ ?_ ?_ rfl rfl<;>dsimp only [Zg,id,go_sem]<;>simp [Zg,Za])
     . refine Zt (by simp [Zds,hk];split<;>decide) ?_;dsimp only [go_sem];rw [Zf (n:=(h:Int)+1) (by omega) (by omega)];have hkk:ky Meet.day l h<=ky Meet.day l (mid+m - 1 - h):=by rw [XF Meet.day (l:=l) (i:=h) (by omega),XF Meet.day (l:=l) (i:=mid+m - 1 - h) (by omega)];exact Int.not_lt.1 hk
       refine ⟨(h+1,j),⟨by simp only;omega,by simp only;omega,hj,ZkB hsr hs1 hs2 t1 t3 t4 hih.1 hih.2 hj hkk hi⟩,by simp only;omega,?_⟩;(refine Zi ?_ ?_ ?_ rfl rfl<;>dsimp only [Zg,id,go_sem]<;>simp [Zg,Za])
   refine Zn (by simp;omega) ?_;dsimp only [go_sem];have cut:=Zrp (s:=i) ham hmb hm1'.1 hm1'.2 s0 r0 hs0 hr0 hi (by omega) (by rwa [show j=i from by omega] at hsr);rw [Zf (n:=(mid:Int)+(m:Int) - (i:Int)) (by omega) (by omega),show (mid:Int)+(m:Int) - (i:Int)=((mid+m - i:Nat):Int) from by omega];by_cases hr:i < m/\m < mid+m - i
   . rw [show decide ((i:Int) < (m:Int))=true from by simp;omega];repeat (refine .inl ⟨rfl,?_⟩;(repeat first | dsimp only [go_sem] | simp only [nbr]))
     refine Zt (by simp;omega) ?_;dsimp only [go_sem];refine Zl [0] (Zrw v i m (mid+m - i) l hr.1 hr.2 (by omega) hL) rfl rfl rfl ?_ ?_ ?_
     . (repeat first | dsimp only [go_sem] | simp only [nbr])
       simp [mtL,mtB,mtS]
     . (repeat first | dsimp only [go_sem] | simp only [nbr])
       simp [Za,Zg,KFL,KF]
     rintro _ ⟨l1,hp1,hk1,rfl⟩
     (repeat first | dsimp only [YW,go_sem] | simp only [nbr])
     have cd:=ZbZ Meet.day cut hs1 hs2 hk1;have pp:PIn a b l l1:=hp1.mono (by omega) (by have:=cut.e1;omega);have hl1:=pp.len;by_cases hf:a < i/\i < mid
     . rw [show decide ((a:Int) < (i:Int))=true from by simp;omega];repeat (refine .inl ⟨rfl,?_⟩;(repeat first | dsimp only [go_sem] | simp only [nbr]))
       refine Zt (by simp;omega) ?_;dsimp only [go_sem];refine Zl [0] (ih a i mid l1 (by omega) hf.1 hf.2 (by omega) (by omega) cd.s1 cd.s2) rfl rfl rfl ?_ ?_ ?_
       . (repeat first | dsimp only [go_sem] | simp only [nbr])
         simp [mtL,mtB,mtS]
       . (repeat first | dsimp only [go_sem] | simp only [nbr])
         simp [Za,Zg,KFL,KF]
       rintro _ ⟨l2,hp2,hs3,rfl⟩
       (repeat first | dsimp only [YW,go_sem] | simp only [nbr])
       have ce:=UJ Meet.day cd hp2 hs3 (by omega);have pq:PIn a b l l2:=pp.trans (hp2.mono (by omega) (by omega));have hl2:=pq.len;by_cases hg:mid < mid+m - i/\mid+m - i < b
       . rw [show decide ((mid:Int) < ((mid+m - i:Nat):Int))=true from by simp;omega];repeat (refine .inl ⟨rfl,?_⟩;(repeat first | dsimp only [go_sem] | simp only [nbr]))
         refine Zt (by simp;omega) ?_;dsimp only [go_sem];refine Zl [0] (ih mid (mid+m - i) b l2 (by omega) hg.1 hg.2 (by omega) (by omega) ce.s3 ce.s4) rfl rfl rfl ?_ ?_ ?_
         . (repeat first | dsimp only [go_sem] | simp only [nbr])
           simp [mtL,mtB,mtS]
         . (repeat first | dsimp only [go_sem] | simp only [nbr])
           simp [Za,Zg,KFL,KF]
         rintro _ ⟨l3,hp3,hs4,rfl⟩
         (repeat first | dsimp only [YW,go_sem] | simp only [nbr])
         refine ⟨_,⟨l3,pq.trans (hp3.mono (by omega) (by omega)),WR Meet.day ce hp3 hs4 (by omega),rfl⟩,?_⟩;try simp only [YW]
         (refine Zp ?_ ?_ ?_ rfl<;>dsimp only [Zg,id,go_sem]<;>simp [Zg,Za])
       . skip
         repeat (refine gb ?_;(repeat first | dsimp only [go_sem] | simp only [nbr]))
         refine Zn (by simp;omega) ?_;dsimp only [go_sem];refine ⟨_,⟨l2,pq,Um Meet.day ce hg,rfl⟩,?_⟩;try simp only [YW]
         (refine Zp ?_ ?_ ?_ rfl<;>dsimp only [Zg,id,go_sem]<;>simp [Zg,Za])
     . skip
       repeat (refine gb ?_;(repeat first | dsimp only [go_sem] | simp only [nbr]))
       refine Zn (by simp;omega) ?_;dsimp only [go_sem];have ce:=Zch Meet.day cd hf;have pq:=pp;have hl2:=pq.len;by_cases hg:mid < mid+m - i/\mid+m - i < b
       . rw [show decide ((mid:Int) < ((mid+m - i:Nat):Int))=true from by simp;omega];repeat (refine .inl ⟨rfl,?_⟩;(repeat first | dsimp only [go_sem] | simp only [nbr]))
         refine Zt (by simp;omega) ?_;dsimp only [go_sem];refine Zl [0] (ih mid (mid+m - i) b l1 (by omega) hg.1 hg.2 (by omega) (by omega) ce.s3 ce.s4) rfl rfl rfl ?_ ?_ ?_
         . (repeat first | dsimp only [go_sem] | simp only [nbr])
           simp [mtL,mtB,mtS]
         . (repeat first | dsimp only [go_sem] | simp only [nbr])
           simp [Za,Zg,KFL,KF]
         rintro _ ⟨l3,hp3,hs4,rfl⟩
         (repeat first | dsimp only [YW,go_sem] | simp only [nbr])
         refine ⟨_,⟨l3,pq.trans (hp3.mono (by omega) (by omega)),WR Meet.day ce hp3 hs4 (by omega),rfl⟩,?_⟩;try simp only [YW]
         (refine Zp ?_ ?_ ?_ rfl<;>dsimp only [Zg,id,go_sem]<;>simp [Zg,Za])
       . skip
         repeat (refine gb ?_;(repeat first | dsimp only [go_sem] | simp only [nbr]))
         refine Zn (by simp;omega) ?_;dsimp only [go_sem];refine ⟨_,⟨l1,pq,Um Meet.day ce hg,rfl⟩,?_⟩;try simp only [YW]
         (refine Zp ?_ ?_ ?_ rfl<;>dsimp only [Zg,id,go_sem]<;>simp [Zg,Za])
   . skip
     repeat (refine gb ?_;(repeat first | dsimp only [go_sem] | simp only [nbr]))
     refine Zn (by simp;omega) ?_;dsimp only [go_sem];have cd:=Zhb Meet.day cut hs1 hs2 hr;have pp:PIn a b l l:=.refl _ _ _;have hl1:=pp.len;by_cases hf:a < i/\i < mid
     . rw [show decide ((a:Int) < (i:Int))=true from by simp;omega];repeat (refine .inl ⟨rfl,?_⟩;(repeat first | dsimp only [go_sem] | simp only [nbr]))
       refine Zt (by simp;omega) ?_;dsimp only [go_sem];refine Zl [0] (ih a i mid l (by omega) hf.1 hf.2 (by omega) (by omega) cd.s1 cd.s2) rfl rfl rfl ?_ ?_ ?_
       . (repeat first | dsimp only [go_sem] | simp only [nbr])
         simp [mtL,mtB,mtS]
       . (repeat first | dsimp only [go_sem] | simp only [nbr])
         simp [Za,Zg,KFL,KF]
       rintro _ ⟨l2,hp2,hs3,rfl⟩
       (repeat first | dsimp only [YW,go_sem] | simp only [nbr])
       have ce:=UJ Meet.day cd hp2 hs3 (by omega);have pq:PIn a b l l2:=pp.trans (hp2.mono (by omega) (by omega));have hl2:=pq.len;by_cases hg:mid < mid+m - i/\mid+m - i < b
       . rw [show decide ((mid:Int) < ((mid+m - i:Nat):Int))=true from by simp;omega];repeat (refine .inl ⟨rfl,?_⟩;(repeat first | dsimp only [go_sem] | simp only [nbr]))
         refine Zt (by simp;omega) ?_;dsimp only [go_sem];refine Zl [0] (ih mid (mid+m - i) b l2 (by omega) hg.1 hg.2 (by omega) (by omega) ce.s3 ce.s4) rfl rfl rfl ?_ ?_ ?_
         . (repeat first | dsimp only [go_sem] | simp only [nbr])
           simp [mtL,mtB,mtS]
         . (repeat first | dsimp only [go_sem] | simp only [nbr])
           simp [Za,Zg,KFL,KF]
         rintro _ ⟨l3,hp3,hs4,rfl⟩
         (repeat first | dsimp only [YW,go_sem] | simp only [nbr])
         refine ⟨_,⟨l3,pq.trans (hp3.mono (by omega) (by omega)),WR Meet.day ce hp3 hs4 (by omega),rfl⟩,?_⟩;try simp only [YW]
         (refine Zp ?_ ?_ ?_ rfl<;>dsimp only [Zg,id,go_sem]<;>simp [Zg,Za])
       . skip
         repeat (refine gb ?_;(repeat first | dsimp only [go_sem] | simp only [nbr]))
         refine Zn (by simp;omega) ?_;dsimp only [go_sem];refine ⟨_,⟨l2,pq,Um Meet.day ce hg,rfl⟩,?_⟩;try simp only [YW]
         (refine Zp ?_ ?_ ?_ rfl<;>dsimp only [Zg,id,go_sem]<;>simp [Zg,Za])
     . skip
       repeat (refine gb ?_;(repeat first | dsimp only [go_sem] | simp only [nbr]))
       refine Zn (by simp;omega) ?_;dsimp only [go_sem];have ce:=Zch Meet.day cd hf;have pq:=pp;have hl2:=pq.len;by_cases hg:mid < mid+m - i/\mid+m - i < b
       . rw [show decide ((mid:Int) < ((mid+m - i:Nat):Int))=true from by simp;omega];repeat (refine .inl ⟨rfl,?_⟩;(repeat first | dsimp only [go_sem] | simp only [nbr]))
         refine Zt (by simp;omega) ?_;dsimp only [go_sem];refine Zl [0] (ih mid (mid+m - i) b l (by omega) hg.1 hg.2 (by omega) (by omega) ce.s3 ce.s4) rfl rfl rfl ?_ ?_ ?_
         . (repeat first | dsimp only [go_sem] | simp only [nbr])
           simp [mtL,mtB,mtS]
         . (repeat first | dsimp only [go_sem] | simp only [nbr])
           simp [Za,Zg,KFL,KF]
         rintro _ ⟨l3,hp3,hs4,rfl⟩
         (repeat first | dsimp only [YW,go_sem] | simp only [nbr])
         refine ⟨_,⟨l3,pq.trans (hp3.mono (by omega) (by omega)),WR Meet.day ce hp3 hs4 (by omega),rfl⟩,?_⟩;try simp only [YW]
         (refine Zp ?_ ?_ ?_ rfl<;>dsimp only [Zg,id,go_sem]<;>simp [Zg,Za])
       . skip
         repeat (refine gb ?_;(repeat first | dsimp only [go_sem] | simp only [nbr]))
         refine Zn (by simp;omega) ?_;dsimp only [go_sem];refine ⟨_,⟨l,pq,Um Meet.day ce hg,rfl⟩,?_⟩;try simp only [YW]
         (refine Zp ?_ ?_ ?_ rfl<;>dsimp only [Zg,id,go_sem]<;>simp [Zg,Za])
 . refine Zn (by simp;omega) ?_;dsimp only [go_sem];rw [Zf (n:=(mid:Int)+(m:Int) - 1) (by omega) (by omega)];have hA:(a:Int)=(s0:Int):=by rw [if_neg hgt] at hs0;omega
   have hM:(m:Int)=(r0:Int):=by rw [if_neg hgt] at hr0;omega
   refine Yb (λs:Nat × Nat=>[(20,I (s.1:Nat)),(21,I (s.2:Nat))]) (λ_=>[]) (λs=>s0<=s.1/\s.1<=s.2/\s.2<=r0/\Srch (mid+m - 1) s0 r0 s.1 s.2 (ky Meet.day l)) (λs=>s.2 - s.1) (s0,r0) ⟨Nat.le_refl _,t2,Nat.le_refl _,Zbf _ _ _ _⟩ ?_ ?_
   . have e3:s0=a:=by omega
     have e4:r0=m:=by omega
     subst e3;subst e4;(refine Zi ?_ ?_ ?_ rfl rfl<;>dsimp only [Zg,id,go_sem]<;>simp [Zg,Za])
   rintro ⟨i,j⟩ ⟨hi,hij,hj,hsr⟩;simp only at hi hij hj hsr;dsimp only [go_sem];by_cases hlt:i < j
   . refine Zt (by simpa using hlt) ?_;dsimp only [go_sem];simp (disch:=omega) only [Zf];rw [uwn (by omega) (by omega)];refine YZ rfl (.inr rfl) (VM _ (by omega)) rfl ?_;dsimp only [go_sem];obtain ⟨h,hh⟩:∃ h:Nat,((i:Int)+(j:Int)) / 2=(h:Int):=⟨(i+j) / 2,by omega⟩
     rw [hh,Zf (n:=(h:Int)) (by omega) (by omega)];have hih:i<=h/\h < j:=by omega
     have hph:=t4 h (by omega) (by omega);rw [Zf (n:=(mid:Int)+(m:Int) - 1 - (h:Int)) (by omega) (by omega)]
     (repeat first | dsimp only [go_sem] | simp only [nbr])
     refine XC (mid+m - 1 - h) (by omega) (by simp;omega) ?_
     (repeat first | dsimp only [go_sem] | simp only [nbr])
     refine VX (by omega) ?_
     (repeat first | dsimp only [Zg,go_sem] | simp only [nbr])
     refine XC h rfl (by simp;omega) ?_
     (repeat first | dsimp only [go_sem] | simp only [nbr])
     refine VX (by omega) ?_
     (repeat first | dsimp only [Zg,go_sem] | simp only [nbr])
     refine call (Ud l[mid+m - 1 - h] l[h]) ?_
     (repeat first | dsimp only [go_sem] | simp only [nbr])
     by_cases hk:l[mid+m - 1 - h].day < l[h].day
     . refine Zn (by simp [Zds,hk]) ?_;dsimp only [go_sem];have hkk:ky Meet.day l (mid+m - 1 - h) < ky Meet.day l h:=by rw [XF Meet.day (l:=l) (i:=h) (by omega),XF Meet.day (l:=l) (i:=mid+m - 1 - h) (by omega)];exact hk
       refine ⟨(i,h),⟨hi,by simp only;omega,by simp only;omega,ZcI hsr hs1 hs2 t1 t3 t4 hih.1 hih.2 hj hkk hi⟩,by simp only;omega,?_⟩;(refine Zi ?_ ?_ ?_ rfl rfl<;>dsimp only [Zg,id,go_sem]<;>simp [Zg,Za])
     . refine Zt (by simp [Zds,hk];split<;>decide) ?_;dsimp only [go_sem];rw [Zf (n:=(h:Int)+1) (by omega) (by omega)];have hkk:ky Meet.day l h<=ky Meet.day l (mid+m - 1 - h):=by rw [XF Meet.day (l:=l) (i:=h) (by omega),XF Meet.day (l:=l) (i:=mid+m - 1 - h) (by omega)];exact Int.not_lt.1 hk
       refine ⟨(h+1,j),⟨by simp only;omega,by simp only;omega,hj,ZkB hsr hs1 hs2 t1 t3 t4 hih.1 hih.2 hj hkk hi⟩,by simp only;omega,?_⟩;(refine Zi ?_ ?_ ?_ rfl rfl<;>dsimp only [Zg,id,go_sem]<;>simp [Zg,Za])
   refine Zn (by simp;omega) ?_;dsimp only [go_sem];have cut:=Zrp (s:=i) ham hmb hm1'.1 hm1'.2 s0 r0 hs0 hr0 hi (by omega) (by rwa [show j=i from by omega] at hsr);rw [Zf (n:=(mid:Int)+(m:Int) - (i:Int)) (by omega) (by omega),show (mid:Int)+(m:Int) - (i:Int)=((mid+m - i:Nat):Int) from by omega];by_cases hr:i < m/\m < mid+m - i
   . rw [show decide ((i:Int) < (m:Int))=true from by simp;omega];repeat (refine .inl ⟨rfl,?_⟩;(repeat first | dsimp only [go_sem] | simp only [nbr]))
     refine Zt (by simp;omega) ?_;dsimp only [go_sem];refine Zl [0] (Zrw v i m (mid+m - i) l hr.1 hr.2 (by omega) hL) rfl rfl rfl ?_ ?_ ?_
     . (repeat first | dsimp only [go_sem] | simp only [nbr])
       simp [mtL,mtB,mtS]
     . (repeat first | dsimp only [go_sem] | simp only [nbr])
       simp [Za,Zg,KFL,KF]
     rintro _ ⟨l1,hp1,hk1,rfl⟩
     (repeat first | dsimp only [YW,go_sem] | simp only [nbr])
     have cd:=ZbZ Meet.day cut hs1 hs2 hk1;have pp:PIn a b l l1:=hp1.mono (by omega) (by have:=cut.e1;omega);have hl1:=pp.len;by_cases hf:a < i/\i < mid
     . rw [show decide ((a:Int) < (i:Int))=true from by simp;omega];repeat (refine .inl ⟨rfl,?_⟩;(repeat first | dsimp only [go_sem] | simp only [nbr]))
       refine Zt (by simp;omega) ?_;dsimp only [go_sem];refine Zl [0] (ih a i mid l1 (by omega) hf.1 hf.2 (by omega) (by omega) cd.s1 cd.s2) rfl rfl rfl ?_ ?_ ?_
       . (repeat first | dsimp only [go_sem] | simp only [nbr])
         simp [mtL,mtB,mtS]
       . (repeat first | dsimp only [go_sem] | simp only [nbr])
         simp [Za,Zg,KFL,KF]
       rintro _ ⟨l2,hp2,hs3,rfl⟩
       (repeat first | dsimp only [YW,go_sem] | simp only [nbr])
       have ce:=UJ Meet.day cd hp2 hs3 (by omega);have pq:PIn a b l l2:=pp.trans (hp2.mono (by omega) (by omega));have hl2:=pq.len;by_cases hg:mid < mid+m - i/\mid+m - i < b
       . rw [show decide ((mid:Int) < ((mid+m - i:Nat):Int))=true from by simp;omega];repeat (refine .inl ⟨rfl,?_⟩;(repeat first | dsimp only [go_sem] | simp only [nbr]))
         refine Zt (by simp;omega) ?_;dsimp only [go_sem];refine Zl [0] (ih mid (mid+m - i) b l2 (by omega) hg.1 hg.2 (by omega) (by omega) ce.s3 ce.s4) rfl rfl rfl ?_ ?_ ?_
         . (repeat first | dsimp only [go_sem] | simp only [nbr])
           simp [mtL,mtB,mtS]
         . (repeat first | dsimp only [go_sem] | simp only [nbr])
           simp [Za,Zg,KFL,KF]
         rintro _ ⟨l3,hp3,hs4,rfl⟩
         (repeat first | dsimp only [YW,go_sem] | simp only [nbr])
         refine ⟨_,⟨l3,pq.trans (hp3.mono (by omega) (by omega)),WR Meet.day ce hp3 hs4 (by omega),rfl⟩,?_⟩;try simp only [YW]
         (refine Zp ?_ ?_ ?_ rfl<;>dsimp only [Zg,id,go_sem]<;>simp [Zg,Za])
       . skip
         repeat (refine gb ?_;(repeat first | dsimp only [go_sem] | simp only [nbr]))
         refine Zn (by simp;omega) ?_;dsimp only [go_sem];refine ⟨_,⟨l2,pq,Um Meet.day ce hg,rfl⟩,?_⟩;try simp only [YW]
         (refine Zp ?_ ?_ ?_ rfl<;>dsimp only [Zg,id,go_sem]<;>simp [Zg,Za])
     . skip
       repeat (refine gb ?_;(repeat first | dsimp only [go_sem] | simp only [nbr]))
       refine Zn (by simp;omega) ?_;dsimp only [go_sem];have ce:=Zch Meet.day cd hf;have pq:=pp;have hl2:=pq.len;by_cases hg:mid < mid+m - i/\mid+m - i < b
       . rw [show decide ((mid:Int) < ((mid+m - i:Nat):Int))=true from by simp;omega];repeat (refine .inl ⟨rfl,?_⟩;(repeat first | dsimp only [go_sem] | simp only [nbr]))
         refine Zt (by simp;omega) ?_;dsimp only [go_sem];refine Zl [0] (ih mid (mid+m - i) b l1 (by omega) hg.1 hg.2 (by omega) (by omega) ce.s3 ce.s4) rfl rfl rfl ?_ ?_ ?_
         . (repeat first | dsimp only [go_sem] | simp only [nbr])
           simp [mtL,mtB,mtS]
         . (repeat first | dsimp only [go_sem] | simp only [nbr])
           simp [Za,Zg,KFL,KF]
         rintro _ ⟨l3,hp3,hs4,rfl⟩
         (repeat first | dsimp only [YW,go_sem] | simp only [nbr])
         refine ⟨_,⟨l3,pq.trans (hp3.mono (by omega) (by omega)),WR Meet.day ce hp3 hs4 (by omega),rfl⟩,?_⟩;try simp only [YW]
         (refine Zp ?_ ?_ ?_ rfl<;>dsimp only [Zg,id,go_sem]<;>simp [Zg,Za])
       . skip
         repeat (refine gb ?_;(repeat first | dsimp only [go_sem] | simp only [nbr]))
         refine Zn (by simp;omega) ?_;dsimp only [go_sem];refine ⟨_,⟨l1,pq,Um Meet.day ce hg,rfl⟩,?_⟩;try simp only [YW]
         (refine Zp ?_ ?_ ?_ rfl<;>dsimp only [Zg,id,go_sem]<;>simp [Zg,Za])
   . skip
     repeat (refine gb ?_;(repeat first | dsimp only [go_sem] | simp only [nbr]))
     refine Zn (by simp;omega) ?_;dsimp only [go_sem];have cd:=Zhb Meet.day cut hs1 hs2 hr;have pp:PIn a b l l:=.refl _ _ _;have hl1:=pp.len;by_cases hf:a < i/\i < mid
     . rw [show decide ((a:Int) < (i:Int))=true from by simp;omega];repeat (refine .inl ⟨rfl,?_⟩;(repeat first | dsimp only [go_sem] | simp only [nbr]))
       refine Zt (by simp;omega) ?_;dsimp only [go_sem];refine Zl [0] (ih a i mid l (by omega) hf.1 hf.2 (by omega) (by omega) cd.s1 cd.s2) rfl rfl rfl ?_ ?_ ?_
       . (repeat first | dsimp only [go_sem] | simp only [nbr])
         simp [mtL,mtB,mtS]
       . (repeat first | dsimp only [go_sem] | simp only [nbr])
         simp [Za,Zg,KFL,KF]
       rintro _ ⟨l2,hp2,hs3,rfl⟩
       (repeat first | dsimp only [YW,go_sem] | simp only [nbr])
       have ce:=UJ Meet.day cd hp2 hs3 (by omega);have pq:PIn a b l l2:=pp.trans (hp2.mono (by omega) (by omega));have hl2:=pq.len;by_cases hg:mid < mid+m - i/\mid+m - i < b
       . rw [show decide ((mid:Int) < ((mid+m - i:Nat):Int))=true from by simp;omega];repeat (refine .inl ⟨rfl,?_⟩;(repeat first | dsimp only [go_sem] | simp only [nbr]))
         refine Zt (by simp;omega) ?_;dsimp only [go_sem];refine Zl [0] (ih mid (mid+m - i) b l2 (by omega) hg.1 hg.2 (by omega) (by omega) ce.s3 ce.s4) rfl rfl rfl ?_ ?_ ?_
         . (repeat first | dsimp only [go_sem] | simp only [nbr])
           simp [mtL,mtB,mtS]
         . (repeat first | dsimp only [go_sem] | simp only [nbr])
           simp [Za,Zg,KFL,KF]
         rintro _ ⟨l3,hp3,hs4,rfl⟩
         (repeat first | dsimp only [YW,go_sem] | simp only [nbr])
         refine ⟨_,⟨l3,pq.trans (hp3.mono (by omega) (by omega)),WR Meet.day ce hp3 hs4 (by omega),rfl⟩,?_⟩;try simp only [YW]
         (refine Zp ?_ ?_ ?_ rfl<;>dsimp only [Zg,id,go_sem]<;>simp [Zg,Za])
       . skip
         repeat (refine gb ?_;(repeat first | dsimp only [go_sem] | simp only [nbr]))
         refine Zn (by simp;omega) ?_;dsimp only [go_sem];refine ⟨_,⟨l2,pq,Um Meet.day ce hg,rfl⟩,?_⟩;try simp only [YW]
         (refine Zp ?_ ?_ ?_ rfl<;>dsimp only [Zg,id,go_sem]<;>simp [Zg,Za])
     . skip
       repeat (refine gb ?_;(repeat first | dsimp only [go_sem] | simp only [nbr]))
       refine Zn (by simp;omega) ?_;dsimp only [go_sem];have ce:=Zch Meet.day cd hf;have pq:=pp;have hl2:=pq.len;by_cases hg:mid < mid+m - i/\mid+m - i < b
       . rw [show decide ((mid:Int) < ((mid+m - i:Nat):Int))=true from by simp;omega];repeat (refine .inl ⟨rfl,?_⟩;(repeat first | dsimp only [go_sem] | simp only [nbr]))
         refine Zt (by simp;omega) ?_;dsimp only [go_sem];refine Zl [0] (ih mid (mid+m - i) b l (by omega) hg.1 hg.2 (by omega) (by omega) ce.s3 ce.s4) rfl rfl rfl ?_ ?_ ?_
         . (repeat first | dsimp only [go_sem] | simp only [nbr])
           simp [mtL,mtB,mtS]
         . (repeat first | dsimp only [go_sem] | simp only [nbr])
           simp [Za,Zg,KFL,KF]
         rintro _ ⟨l3,hp3,hs4,rfl⟩
         (repeat first | dsimp only [YW,go_sem] | simp only [nbr])
         refine ⟨_,⟨l3,pq.trans (hp3.mono (by omega) (by omega)),WR Meet.day ce hp3 hs4 (by omega),rfl⟩,?_⟩;try simp only [YW]
         (refine Zp ?_ ?_ ?_ rfl<;>dsimp only [Zg,id,go_sem]<;>simp [Zg,Za])
       . skip
         repeat (refine gb ?_;(repeat first | dsimp only [go_sem] | simp only [nbr]))
         refine Zn (by simp;omega) ?_;dsimp only [go_sem];refine ⟨_,⟨l,pq,Um Meet.day ce hg,rfl⟩,?_⟩;try simp only [YW]
         (refine Zp ?_ ?_ ?_ rfl<;>dsimp only [Zg,id,go_sem]<;>simp [Zg,Za])
end Go.Proofs.YtkpkgafhfakpdaaGreatDoor.Cm
namespace Go.Azalai
section
variable {α : Type} (key:α->Int)
def Blk (s a b:Nat) (l:List α):Prop:=∀ p q,a<=p->p < q->q < b->p / s=q / s->ky key l p<=ky key l q
theorem Zeh {s:Nat} {l:List α}:Blk key s 0 0 l:=λp q h1 h2 h3=>by omega
theorem Zzi {s c p q:Nat} (h:p / s=q / s) (h1:s * c<=q) (hs:0 < s):s * c<=p:=by
 have e1:c<=q / s:=(Nat.le_div_iff_mul_le hs).2 (by rw [Nat.mul_comm];exact h1);rw [<- h] at e1;have:=(Nat.le_div_iff_mul_le hs).1 e1
 rwa [Nat.mul_comm] at this
theorem Zcb {s c b:Nat} {l l':List α} (hs:0 < s) (h:Blk key s 0 (s * c) l) (hp:PIn (s * c) b l l') (h':Srt key (s * c) b l'):Blk key s 0 b l':=λp q g1 g2 g3 e=>by
 by_cases hq:q < s * c
 . rw [hp.ky key (.inl (by omega)),hp.ky key (.inl hq)];exact h p q g1 g2 hq e
 . exact h' p q (Zzi e (by omega) hs) g2 g3
theorem ZpY {s a b n:Nat} {l l':List α} (h:Blk key s a n l) (hp:PIn a b l l') (hab:a<=b):Blk key s b n l':=λp q g1 g2 g3 e=>by
 rw [hp.ky key (.inr g1),hp.ky key (.inr (by omega))];exact h p q (by omega) g2 g3 e
theorem Ze5 {s c p:Nat} (h1:s * c<=p) (h2:p < s * c+s):p / s=c:=by
 have hs:0 < s:=by omega
 apply Nat.le_antisymm
 . have:p / s < c+1:=(Nat.div_lt_iff_lt_mul hs).2 (by rw [Nat.add_mul,Nat.one_mul,Nat.mul_comm];exact h2);omega
 . exact (Nat.le_div_iff_mul_le hs).2 (by rw [Nat.mul_comm];exact h1)
theorem Zb1 {s c a b n:Nat} {l:List α} (h:Blk key s a n l) (ha:a<=s * c) (hb:b<=s * c+s) (hn:b<=n):Srt key (s * c) b l:=λp q g1 g2 g3=>by
 refine h p q (by omega) g2 (by omega) ?_;rw [Ze5 g1 (by omega),Ze5 (c:=c) (p:=q) (by omega) (by omega)]
end
end Go.Azalai
namespace Go.Proofs.YtkpkgafhfakpdaaGreatDoor.Cm
open Go Go.Sx Go.Azalai
theorem ZyA (v n:Nat) (l:List Meet) (hn:n=l.length) (hL:l.length < 1152921504606846976) :
 CtM Tryz.prog 248 [(0,.row v 4 (l.map Zg) 274)] 1 [.mr 0 v,I n,.cl 210 []] (λo=>∃ l',PIn 0 n l l'/\Srt Meet.day 0 n l'/\o=YW v l'):=by
 refine m248 (by simp [hpb]) (λo ho=>by obtain ⟨l',_,_,rfl⟩:=ho;simp [YW,KX,KXL,KXP,KXH,Za,KFL,KF,Zg]) ?_;dsimp only [c248,r248,go_sem];refine Yb (λs:Nat × List Meet=>[(7,I (20 * s.1:Nat)),(8,I (20 * s.1+20:Nat))]) (λs=>[(0,.row v 4 (s.2.map Zg) 274)]) (λs=>20 * s.1<=n/\PIn 0 n l s.2/\Blk Meet.day 20 0 (20 * s.1) s.2) (λs=>n - 20 * s.1) (0,l) ⟨by simp only;omega,.refl _ _ _,Zeh Meet.day⟩ ?_ ?_
 . (refine Zi ?_ ?_ ?_ rfl rfl<;>dsimp only [Zg,id,go_sem]<;>simp [Zg,Za])
 rintro ⟨c,l1⟩ ⟨hc,hp,hb⟩;simp only at hc hp hb;have hl1:=hp.len;dsimp only [go_sem];by_cases hlt:20 * c+20<=n
 . refine Zt (by simp;omega) ?_;dsimp only [go_sem];refine Zl [0] (Zj0 v (20 * c) (20 * c+20) l1 (by omega) (by omega) (by omega)) rfl rfl rfl ?_ ?_ ?_
   . (repeat first | dsimp only [go_sem] | simp only [nbr])
     simp [mtL,mtB,mtS]
   . (repeat first | dsimp only [go_sem] | simp only [nbr])
     simp [Za,Zg,KFL,KF]
   rintro _ ⟨l2,hp2,hs2,rfl⟩
   (repeat first | dsimp only [YW,go_sem] | simp only [nbr])
   rw [Zf (n:=((20 * c+20:Nat):Int)+20) (by omega) (by omega)];refine ⟨(c+1,l2),⟨by simp only;omega,hp.trans (hp2.mono (by omega) (by omega)),?_⟩,by simp only;omega,?_⟩
   . exact Zcb Meet.day (by omega) hb hp2 hs2
   rw [show ((20 * c+20:Nat):Int)+20=((20 * (c+1)+20:Nat):Int) from by omega,show 20 * c+20=20 * (c+1) from by omega];(refine Zi ?_ ?_ ?_ rfl rfl<;>dsimp only [Zg,id,go_sem]<;>simp [Zg,Za])
 refine Zn (by simp;omega) ?_;dsimp only [go_sem];refine Zl [0] (Zj0 v (20 * c) n l1 (by omega) (by omega) (by omega)) rfl rfl rfl ?_ ?_ ?_
 . (repeat first | dsimp only [go_sem] | simp only [nbr])
   simp [mtL,mtB,mtS]
 . (repeat first | dsimp only [go_sem] | simp only [nbr])
   simp [Za,Zg,KFL,KF]
 rintro _ ⟨l2,hp2,hs2,rfl⟩
 (repeat first | dsimp only [YW,go_sem] | simp only [nbr])
 have hb2:=Zcb Meet.day (by omega) hb hp2 hs2;refine Yb (λs:Nat × List Meet × Int × Int=>[(6,I (s.1:Nat)),(7,I s.2.2.1),(8,I s.2.2.2)]) (λs=>[(0,.row v 4 (s.2.1.map Zg) 274)]) (λs=>(0 < s.1/\s.1<=2 * n+20)/\PIn 0 n l s.2.1/\Blk Meet.day s.1 0 n s.2.1) (λs=>n - s.1) (20,l2,((20 * c:Nat):Int),((20 * c+20:Nat):Int)) ⟨by simp only;omega,hp.trans (hp2.mono (by omega) (by omega)),hb2⟩ ?_ ?_
 . (refine Zi ?_ ?_ ?_ rfl rfl<;>dsimp only [Zg,id,go_sem]<;>simp [Zg,Za])
 rintro ⟨s,l3,z1,z2⟩ ⟨⟨hs0,hs1⟩,hp3,hb3⟩;simp only at hs0 hs1 hp3 hb3;have hl3:=hp3.len;dsimp only [go_sem];by_cases hlt:s < n
 case neg =>
  refine Zn (by simp;omega) ?_;dsimp only [go_sem];refine ⟨_,⟨l3,hp3,?_,rfl⟩,?_⟩
  . have:=Zb1 Meet.day (c:=0) hb3 (Nat.zero_le _) (show n<=s * 0+s by omega) (Nat.le_refl _)
    rwa [Nat.mul_zero] at this
  . try simp only [YW]
    (refine Zp ?_ ?_ ?_ rfl<;>dsimp only [Zg,id,go_sem]<;>simp [Zg,Za])
 refine Zt (by simp;omega) ?_;dsimp only [go_sem];rw [Zf (n:=2 * (s:Int)) (by omega) (by omega)];refine Yb (λz:Nat × List Meet=>[(7,I (2 * s * z.1:Nat)),(8,I (2 * s * z.1+2 * s:Nat))]) (λz=>[(0,.row v 4 (z.2.map Zg) 274)]) (λz=>2 * s * z.1<=n/\PIn 0 n l z.2/\Blk Meet.day (2 * s) 0 (2 * s * z.1) z.2/\Blk Meet.day s (2 * s * z.1) n z.2) (λz=>n - 2 * s * z.1) (0,l3) ⟨by simp only;omega,hp3,Zeh Meet.day,hb3⟩ ?_ ?_
 . rw [show 2 * (s:Int)=((2 * s * 0+2 * s:Nat):Int) from by omega];(refine Zi ?_ ?_ ?_ rfl rfl<;>dsimp only [Zg,id,go_sem]<;>simp [Zg,Za])
 rintro ⟨c',l4⟩ ⟨hc4,hp4,hb4,hb5⟩;simp only at hc4 hp4 hb4 hb5;have hl4:=hp4.len;have e5:s * (2 * c')=2 * s * c':=by rw [<- Nat.mul_assoc,Nat.mul_comm s 2]
 have e6:s * (2 * c'+1)=2 * s * c'+s:=by rw [Nat.mul_add,e5,Nat.mul_one]
 have e7:2 * s * (c'+1)=2 * s * c'+2 * s:=by rw [Nat.mul_add,Nat.mul_one]
 dsimp only [go_sem];have hq1:2 * s * c'+s<=n->Srt Meet.day (2 * s * c') (2 * s * c'+s) l4:=λh=>by
  have:=Zb1 Meet.day (c:=2 * c') (b:=2 * s * c'+s) hb5 (by omega) (by omega) (by omega)
  rwa [e5] at this
 have hq2:∀ b,b<=2 * s * c'+2 * s->b<=n->Srt Meet.day (2 * s * c'+s) b l4:=λb h1 h2=>by
  have:=Zb1 Meet.day (c:=2 * c'+1) (b:=b) hb5 (by omega) (by omega) (by omega)
  rwa [e6] at this
 have hstep:∀ b l',PIn (2 * s * c') b l4 l'->Srt Meet.day (2 * s * c') b l'->Blk Meet.day (2 * s) 0 b l':=λb l' h1 h2=>Zcb Meet.day (by omega) hb4 h1 h2;have hlast:n<=2 * s * c'+s->Blk Meet.day (2 * s) 0 n l4:=λh=>by
  have:=Zb1 Meet.day (c:=2 * c') (b:=n) hb5 (by omega) (by omega) (by omega);rw [e5] at this;exact hstep n l4 (.refl _ _ _) this
 clear hb4;clear e5 e6;generalize ha:2 * s * c'=a at *;by_cases hlt2:a+2 * s<=n
 . refine Zt (by simp;omega) ?_;dsimp only [go_sem];rw [Zf (n:=(a:Int)+(s:Int)) (by omega) (by omega),show (a:Int)+(s:Int)=((a+s:Nat):Int) from by omega];refine Zl [0] (Zrq v _ a (a+s) (a+2 * s) l4 (Nat.le_refl _) (by omega) (by omega) (by omega) (by omega) (hq1 (by omega)) (hq2 _ (by omega) (by omega))) rfl rfl rfl ?_ ?_ ?_
   . (repeat first | dsimp only [go_sem] | simp only [nbr])
     simp [mtL,mtB,mtS]
   . (repeat first | dsimp only [go_sem] | simp only [nbr])
     simp [Za,Zg,KFL,KF]
   rintro _ ⟨l5,hp5,hs5,rfl⟩
   (repeat first | dsimp only [YW,go_sem] | simp only [nbr])
   rw [Zf (n:=2 * (s:Int)) (by omega) (by omega),Zf (n:=((a+2 * s:Nat):Int)+2 * (s:Int)) (by omega) (by omega)];refine ⟨(c'+1,l5),⟨by simp only;omega,hp4.trans (hp5.mono (by omega) (by omega)),?_,?_⟩,by simp only [e7,ha];omega,?_⟩
   . simp only;rw [e7];exact hstep _ _ hp5 hs5
   . simp only;rw [e7];exact ZpY Meet.day hb5 hp5 (by omega)
   . simp only [e7];rw [show ((a+2 * s:Nat):Int)+2 * (s:Int)=((a+2 * s+2 * s:Nat):Int) from by omega];(refine Zi ?_ ?_ ?_ rfl rfl<;>dsimp only [Zg,id,go_sem]<;>simp [Zg,Za])
 refine Zn (by simp;omega) ?_;dsimp only [go_sem];rw [Zf (n:=(a:Int)+(s:Int)) (by omega) (by omega),show (a:Int)+(s:Int)=((a+s:Nat):Int) from by omega];by_cases hm:a+s < n
 . refine Zt (by simp;omega) ?_;dsimp only [go_sem];refine Zl [0] (Zrq v _ a (a+s) n l4 (Nat.le_refl _) (by omega) (by omega) (by omega) (by omega) (hq1 (by omega)) (hq2 _ (by omega) (by omega))) rfl rfl rfl ?_ ?_ ?_
   . (repeat first | dsimp only [go_sem] | simp only [nbr])
     simp [mtL,mtB,mtS]
   . (repeat first | dsimp only [go_sem] | simp only [nbr])
     simp [Za,Zg,KFL,KF]
   rintro _ ⟨l5,hp5,hs5,rfl⟩
   (repeat first | dsimp only [YW,go_sem] | simp only [nbr])
   rw [Zf (n:=(s:Int) * 2) (by omega) (by omega),show (s:Int) * 2=((2 * s:Nat):Int) from by omega];refine ⟨(2 * s,l5,(a:Int),((a+2 * s:Nat):Int)),⟨by simp only;omega,hp4.trans (hp5.mono (by omega) (by omega)),hstep _ _ hp5 hs5⟩,by simp only;omega,?_⟩;(refine Zi ?_ ?_ ?_ rfl rfl<;>dsimp only [Zg,id,go_sem]<;>simp [Zg,Za])
 refine Zn (by simp;omega) ?_;dsimp only [go_sem];rw [Zf (n:=(s:Int) * 2) (by omega) (by omega),show (s:Int) * 2=((2 * s:Nat):Int) from by omega];refine ⟨(2 * s,l4,(a:Int),((a+2 * s:Nat):Int)),⟨by simp only;omega,hp4,hlast (by omega)⟩,by simp only;omega,?_⟩;(refine Zi ?_ ?_ ?_ rfl rfl<;>dsimp only [Zg,id,go_sem]<;>simp [Zg,Za])
theorem Zb4 (v:Nat) (l:List Meet) (hL:l.length < 1152921504606846976) :
 CtM Tryz.prog 209 [(0,.row v 4 (l.map Zg) 274)] 1 [.mr 0 v,.cl 210 []] (λo=>∃ l',PIn 0 l.length l l'/\Srt Meet.day 0 l.length l'/\o=YW v l'):=by
 refine m209 (by simp [hpb]) (λo ho=>by obtain ⟨l',_,_,rfl⟩:=ho;simp [YW,KX,KXL,KXP,KXH,Za,KFL,KF,Zg]) ?_;dsimp only [c209,r209,go_sem]
 (repeat first | dsimp only [go_sem] | simp only [nbr])
 simp only [List.length_map];refine Zl [0] (ZyA v l.length l rfl hL) rfl rfl rfl ?_ ?_ ?_
 . (repeat first | dsimp only [go_sem] | simp only [nbr])
   simp [mtL,mtB,mtS]
 . (repeat first | dsimp only [go_sem] | simp only [nbr])
   simp [Za,Zg,KFL,KF]
 rintro _ ⟨l5,hp5,hs5,rfl⟩
 (repeat first | dsimp only [YW,go_sem] | simp only [nbr])
 refine ⟨_,⟨l5,hp5,hs5,rfl⟩,?_⟩;try simp only [YW]
 (refine Zp ?_ ?_ ?_ rfl<;>dsimp only [Zg,id,go_sem]<;>simp [Zg,Za])
end Go.Proofs.YtkpkgafhfakpdaaGreatDoor.Cm
namespace Go.Sx
open Go
end Go.Sx
namespace Go.Proofs.YtkpkgafhfakpdaaGreatDoor.Cm
open Go Go.Sx Go.Azalai
def U64 (n:Int):SV:=.v (.int .u64 n)
theorem uw {n:Int} (h0:0<=n) (h1:n < 18446744073709551616):IntKind.u64.wrap n=n:=by
 have e:n % 2 ^ IntKind.u64.bits=n:=Int.emod_eq_of_lt h0 (by show n < 2 ^ 64;omega);simp only [IntKind.wrap,e,show IntKind.u64.signed=false from rfl,Bool.false_and];rfl
theorem ZlI (n:Int) (h0:0<=n) (h1:n<=1000000):Ct Tryz.prog 282 [U64 1,U64 n] (.tup [U64 0,U64 n]):=by
 refine t282.1 (by simp [U64]) (by simp [U64]) ?_;dsimp only [c282,r282,U64,go_sem];have sh:∀ (m:Int),0<=m->m < 4294967296->∀ w:World,(binOp .shr 164 (.int .u64 m) (.int .u64 32)).run Tryz.prog w = .ok (.int .u64 0) w:=λm q0 q1 w=>by
  simp only [binOp,Op.shift];rw [if_neg (by decide)];have:m.fdiv (2 ^ 32)=0:=by rw [Int.fdiv_eq_ediv_of_nonneg _ (by decide)];omega
  show Result.ok (Value.int .u64 (m.fdiv (2 ^ (min (32:Int).toNat IntKind.u64.bits)))) w=_;rw [show min (32:Int).toNat IntKind.u64.bits=32 from by decide,this]
 have an:∀ (m:Int),0<=m->m < 4294967296->∀ w:World,(binOp .and 164 (.int .u64 m) (.int .u64 4294967295)).run Tryz.prog w = .ok (.int .u64 m) w:=λm q0 q1 w=>by
  obtain ⟨k,rfl⟩:=Int.eq_ofNat_of_zero_le q0;have hk:k < 4294967296:=by omega
  have e:(BitVec.ofInt 64 (k:Int) &&& BitVec.ofInt 64 4294967295).toNat=k:=by
   rw [BitVec.toNat_and,show (BitVec.ofInt 64 4294967295).toNat=2 ^ 32 - 1 from by decide,Nat.and_two_pow_sub_one_eq_mod,BitVec.ofInt_natCast,BitVec.toNat_ofNat];omega
  show Result.ok (Value.int .u64 (IntKind.u64.wrap (((BitVec.ofInt 64 (k:Int) &&& BitVec.ofInt 64 4294967295).toNat:Nat):Int))) w=_;rw [e,uw (by omega) (by omega)]
 refine YZ rfl (.inl rfl) (an 1 (by omega) (by omega)) rfl ?_;dsimp only [go_sem];refine YZ rfl (.inr rfl) (sh 1 (by omega) (by omega)) rfl ?_;dsimp only [go_sem];refine YZ rfl (.inl rfl) (an n (by omega) (by omega)) rfl ?_;dsimp only [go_sem];refine YZ rfl (.inr rfl) (sh n (by omega) (by omega)) rfl ?_;dsimp only [go_sem];simp (disch:=omega) only [uw,Int.one_mul,Int.zero_mul,Int.mul_zero,Int.add_zero,Int.zero_add]
 refine YZ rfl (.inr rfl) (sh n (by omega) (by omega)) rfl ?_;dsimp only [go_sem];simp (disch:=omega) only [uw,Int.one_mul,Int.zero_mul,Int.mul_zero,Int.add_zero,Int.zero_add];refine YZ rfl (.inl rfl) (an 0 (by omega) (by omega)) rfl ?_;dsimp only [go_sem];refine YZ rfl (.inr rfl) (sh 0 (by omega) (by omega)) rfl ?_;dsimp only [go_sem];simp (disch:=omega) only [uw,Int.one_mul,Int.zero_mul,Int.mul_zero,Int.add_zero,Int.zero_add]
 refine YZ rfl (.inr rfl) (sh 0 (by omega) (by omega)) rfl ?_;dsimp only [go_sem];simp (disch:=omega) only [uw,Int.one_mul,Int.zero_mul,Int.mul_zero,Int.add_zero,Int.zero_add]
theorem Zx7 (n:Int) (h0:0<=n) (h1:n<=1000000):Ct Tryz.prog 269 [U64 1,U64 n] (.tup [U64 0,U64 n]):=by
 refine t269.1 (by simp [U64]) (by simp [U64]) ?_;dsimp only [c269,r269,U64,go_sem];refine Zn (by decide) ?_;dsimp only [go_sem];refine call (ZlI n h0 h1) ?_;dsimp only [U64,go_sem]
theorem WN {r:List SV} (h:KFL r):∀ n,KFR (List.replicate n r)
 | 0=>trivial
 | n+1=>⟨h,WN h n⟩
end Go.Proofs.YtkpkgafhfakpdaaGreatDoor.Cm
namespace Go.Azalai
def ZkW (n:Int) (m:Meet):Bool:=!(inR 0 (n - 1) m.a && inR 0 (n - 1) m.b) || decide (m.a=m.b) || !inR 0 100000 m.day
end Go.Azalai
namespace Go.Proofs.YtkpkgafhfakpdaaGreatDoor.Cm
open Go Go.Sx Go.Azalai
theorem ZyM (h:Nat) (caps:List SV) (hk:KFL caps) (g:Meet->Bool) (l:List Meet) (hg:∀ x ∈ l,Ct Tryz.prog h (.agg (Zg x) :: caps) (B (g x))) (hl:l.length < 4611686018427387904) {c:Bool} :
 Ct Tryz.prog 247 [.sl c 4 (l.map Zg),.cl h caps] (I (Yv g l 0)):=by
 refine t247.1 ⟨by simp [KF,Za,KFL,Zg],hk,trivial⟩ (by simp [KF]) ?_;dsimp only [c247,r247,go_sem];refine Yb (λk:Nat=>[(8,I k)]) (λ_=>[]) (λk=>k<=l.length/\Yv g (l.drop k) k=Yv g l 0) (λk=>l.length - k) 0 ⟨Nat.zero_le _,rfl⟩ ?_ ?_
 . (refine Zi ?_ ?_ ?_ rfl rfl<;>dsimp only [Zg,hk,id,go_sem]<;>simp [Zg,hk,Za])
 . intro k ⟨hk',hi⟩;dsimp only [go_sem];refine br ?_ ?_
   . intro hlt;have hlt:k < l.length:=by simpa using hlt
     dsimp only [go_sem];refine Zx k hlt rfl ?_;dsimp only [Zg,go_sem];refine call (hg l[k] (List.getElem_mem _)) ?_;dsimp only [go_sem];refine br ?_ ?_
     . intro hgx;dsimp only [go_sem];rw [<- hi,List.drop_eq_getElem_cons hlt];simp [Yv,hgx]
     . intro hgx;dsimp only [go_sem];refine ⟨k+1,⟨by omega,?_⟩,by omega,?_⟩
       . rw [<- hi,List.drop_eq_getElem_cons hlt];simp [Yv,hgx]
       . rw [Zf (by omega) (by omega)];(refine Zi ?_ ?_ ?_ rfl rfl<;>dsimp only [Zg,hk,id,go_sem]<;>simp [Zg,hk,Za])
   . intro hlt;have hlt:k=l.length:=by simp at hlt;omega
     dsimp only [go_sem];rw [<- hi,hlt];simp [Yv]
theorem con78 (h:Nat) (caps:List SV) (hk:KFL caps) (g:Meet->Bool) (l:List Meet) (hg:∀ x ∈ l,Ct Tryz.prog h (.agg (Zg x) :: caps) (B (g x))) (hl:l.length < 4611686018427387904) {c:Bool} :
 Ct Tryz.prog 207 [.sl c 4 (l.map Zg),.cl h caps] (B (l.any g)):=by
 refine t207.1 ⟨by simp [KF,Za,KFL,Zg],hk,trivial⟩ (by simp [KF]) ?_;dsimp only [c207,r207,go_sem];refine call (ZyM h caps hk g l hg hl) ?_;dsimp only [go_sem];rw [YR]
theorem ZqY (m:Meet):Ct Tryz.prog 214 [.agg (Zg m)] (B (!m.close)):=by
 refine t214.1 (by simp [Zg]) (by simp) ?_;dsimp only [c214,r214,Zg,go_sem]
theorem ZyS (n:Int) (hn:1<=n) (hn':n<=30) (m:Meet):Ct Tryz.prog 206 [.agg (Zg m),.ps [I n] 0] (B (ZkW n m)):=by
 refine t206.1 (by simp [Zg]) (by simp) ?_;dsimp only [c206,r206,Zg,go_sem];rw [Zf (n:=n - 1) (by omega) (by omega)];refine call (Zdy 0 (n - 1) m.a m.b true) ?_;dsimp only [go_sem];repeat (refine gb ?_;dsimp only [go_sem])
 refine call (Zaq 0 100000 m.day true) ?_;dsimp only [go_sem];repeat (refine gb ?_;dsimp only [go_sem])
 simp only [Option.some.injEq,SV.v.injEq,Value.bool.injEq,ZkW];rfl
theorem ZsP (x:Int) (n:Nat) (h0:1<=n) (h1:n<=1000) (k:Bool):CtM Tryz.prog 250 [] 0 [.sl k 1 [[I x]],I n] (λo=>o=⟨false,.mr 0 0,[(0,.row 0 1 (List.replicate n [I x]) 3)],1⟩):=by
 have hm:KFL [I x]:=by simp
 have hone:Yr [I x]=true:=rfl;have hkr:=WN hm n;refine m250 (by simp [hpb]) (λo ho=>by subst ho;simp only [KX,KXL,KXP,KXH];exact ⟨trivial,hkr,trivial⟩) ?_;generalize [I x]=row at hm hone hkr;dsimp only [c250,r250,go_sem];refine Zn (by simp) ?_;dsimp only [go_sem];rw [show ((1:Nat):Int)=1 from rfl];simp (disch:=omega) only [uw];refine call (Zx7 n (by omega) (by omega)) ?_;dsimp only [U64,go_sem]
 refine gb ?_;dsimp only [go_sem];refine gb ?_;dsimp only [go_sem];refine Zn (by simp;omega) ?_;dsimp only [go_sem];refine ⟨n,Zf (by omega) (by omega),by omega,?_⟩;have hz:KFL [SV.v (Value.int IntKind.i64 0)]:=by simp
 generalize [SV.v (Value.int IntKind.i64 0)]=z at hz;dsimp only [go_sem];refine ⟨(by intro c hc;simp only [List.mem_singleton] at hc;subst hc;exact hone),by simp,?_⟩;have hmin:min n 1=1:=by omega
 simp only [List.length_replicate,List.length_singleton,hmin,List.drop_replicate];dsimp only [go_sem];refine Yb (λj:Nat=>[(8,I j)]) (λj=>[(0,.row 0 1 (List.replicate j row ++ List.replicate (n - j) z) 3)]) (λj=>1<=j/\j<=n) (λj=>n - j) 1 ⟨Nat.le_refl _,h0⟩ ?_ ?_
 . refine Zi ?_ ?_ ?_ rfl rfl<;>dsimp only [id,go_sem]<;>simp [Zd,WN,hz,hm,Zb,mtO,nbr,KFR,KFL,KF]
 rintro j ⟨hj0,hj⟩;dsimp only [go_sem];simp only [List.length_append,List.length_replicate,show j+(n - j)=n from by omega];by_cases hlt:j < n
 . refine Zt (by simpa using hlt) ?_;dsimp only [go_sem];refine ⟨j,n,⟨rfl,by simp;omega,by omega,by simp;omega⟩,?_⟩;dsimp only [go_sem];refine ⟨0,j,⟨rfl,rfl,by omega,by simp⟩,?_⟩;dsimp only [go_sem];have hx:List.take (j - 0) (List.replicate j row ++ List.replicate (n - j) z)=List.replicate j row:=by rw [Nat.sub_zero];exact List.take_left' (by simp)
   have hx':List.take j (List.replicate j row ++ List.replicate (n - j) z)=List.replicate j row:=List.take_left' (by simp);rw [hx];refine ⟨by simp,(by intro c hc;rw [List.eq_of_mem_replicate hc];exact hone),by simp,?_⟩;simp only [List.length_replicate];generalize hN:min (n - j) j=N;have e:List.take j (List.replicate j row ++ List.replicate (n - j) z) ++ (List.take N (List.replicate j row) ++ List.drop (j+N) (List.replicate j row ++ List.replicate (n - j) z))=List.replicate (j+N) row ++ List.replicate (n - (j+N)) z:=by
    rw [hx',List.take_replicate,List.drop_append,List.drop_of_length_le (l:=List.replicate j row) (by simp),List.length_replicate,List.nil_append,List.drop_replicate,<- List.append_assoc,List.replicate_append_replicate,show min N j=N from by omega];congr 2;omega
   rw [e];dsimp only [go_sem];rw [show (j:Int)+(N:Int)=((j+N:Nat):Int) from by omega,Zf (n:=((j+N:Nat):Int)) (by omega) (by omega)];refine ⟨j+N,⟨by omega,by omega⟩,by omega,?_⟩;refine Zi ?_ ?_ ?_ rfl rfl<;>dsimp only [id,go_sem]<;>simp [Zd,WN,hz,hm,Zb,mtO,nbr,KFR,KFL,KF]
 refine Zn (by simp;omega) ?_;dsimp only [go_sem];have hje:j=n:=by omega
 subst hje;simp only [Nat.sub_self,List.replicate_zero,List.append_nil];refine ⟨_,rfl,?_⟩;refine Zp ?_ ?_ ?_ rfl<;>dsimp only [id,go_sem]<;>simp [Zd,WN,hm,Zb,mtO,nbr,KFR,KFL,KF]
theorem Ze4 (l:List Meet) (hL:l.length<=1000) (k:Bool):CtM Tryz.prog 208 [] 0 [.sl k 4 (l.map Zg)] (λo=>o=⟨false,.mr 0 0,[(0,.row 0 4 (l.map Zg) 274)],1⟩):=by
 refine m208 (by simp [hpb]) (λo ho=>by subst ho;simp [KX,KXL,KXP,KXH,Za,KFL,KF,Zg]) ?_;dsimp only [c208,r208,go_sem];intro b hb;dsimp only [go_sem];cases b with
 | true =>
  have hl:l=[]:=by simpa using hb rfl
  subst hl;refine Zt rfl ?_;dsimp only [go_sem];refine ⟨_,rfl,?_⟩;refine ZdF (WD (Xt 0 4 274 rfl rfl) ?_) (λ_ _ _ e=>by cases e);(refine Zi ?_ ?_ ?_ rfl rfl<;>dsimp only [Zg,id,go_sem]<;>simp [Zg,Za])
 | false =>
  refine Zn rfl ?_;dsimp only [go_sem];refine ⟨by simp;omega,?_⟩;dsimp only [go_sem];refine ⟨_,rfl,?_⟩;(refine Zp ?_ ?_ ?_ rfl<;>dsimp only [Zg,id,go_sem]<;>simp [Zg,Za])
end Go.Proofs.YtkpkgafhfakpdaaGreatDoor.Cm
namespace Go.Azalai
theorem ZcU {α : Type} (g:α->Bool):∀ (l:List α) (k:Nat),Yv g l k = -1->l.filter (λx=>!g x)=l
 | [],k,_=>rfl
 | x :: l,k,h=>by
  unfold Yv at h;split at h
  . omega
  . rename_i hx;rw [List.filter_cons_of_pos (by simp [hx]),ZcU g l (k+1) h]
theorem ZcW {α : Type} (g:α->Bool):∀ (l:List α) (k:Nat),Yv g l k≠-1->∃ i,i < l.length/\Yv g l k=((k+i:Nat):Int)/\(l.take (i+1)).filter (λx=>!g x)=l.take i
 | [],k,h=>by simp [Yv] at h
 | x :: l,k,h=>by
  unfold Yv at h ⊢;by_cases hx:g x=true
  . rw [if_pos hx];exact ⟨0,by simp,by simp,by simp [hx]⟩
  . rw [if_neg hx] at h ⊢;obtain ⟨i,h1,h2,h3⟩:=ZcW g l (k+1) h;refine ⟨i+1,by simp;omega,by rw [h2];congr 1;omega,?_⟩;rw [List.take_succ_cons,List.filter_cons_of_pos (by simp [hx]),h3,List.take_succ_cons]
end Go.Azalai
namespace Go.Proofs.YtkpkgafhfakpdaaGreatDoor.Cm
open Go Go.Sx Go.Azalai
def Zu6 (v:Nat) (l:List Meet) (o:Ot):Prop :=
 (l.filter (·.close)=l/\o=⟨false,.mr 0 v,[(0,.row v 4 (l.map Zg) 274)],1⟩) \/
  ∃ l':List Meet,l'.length=l.length/\(l.filter (·.close)).length<=l'.length/\l'.take (l.filter (·.close)).length=l.filter (·.close)/\o=⟨false,.ms 0 v 4 0 (l.filter (·.close)).length,[(0,.row v 4 (l'.map Zg) 274)],1⟩
theorem ZhD (v:Nat) (l:List Meet) (hL:l.length<=1000) :
 CtM Tryz.prog 213 [(0,.row v 4 (l.map Zg) 274)] 1 [.mr 0 v,.cl 214 []] (Zu6 v l):=by
 refine m213 (by simp [hpb]) (λo ho=>by rcases ho with ⟨_,rfl⟩ | ⟨l',_,_,_,rfl⟩<;>simp [KX,KXL,KXP,KXH,Za,KFL,KF,Zg]) ?_;dsimp only [c213,r213,go_sem];refine Xi (by simp [FLT]) (res:=I (Yv (λm:Meet=>!m.close) l 0)) ?_ ?_
 . (repeat first | dsimp only [go_sem] | simp only [nbr])
   exact ZyM 214 [] trivial (λm:Meet=>!m.close) l (λm _=>ZqY m) (by omega)
 dsimp only [go_sem];by_cases hn:Yv (λm:Meet=>!m.close) l 0 = -1
 . refine Zt (by simpa using hn) ?_;dsimp only [go_sem];refine ⟨_,.inl ⟨by simpa using ZcU _ l 0 hn,rfl⟩,?_⟩;(refine Zp ?_ ?_ ?_ rfl<;>dsimp only [Zg,id,go_sem]<;>simp [Zg,Za])
 refine Zn (by simpa using hn) ?_;dsimp only [go_sem];obtain ⟨i0,h1,h2,h3⟩:=ZcW _ l 0 hn;rw [Nat.zero_add] at h2;rw [h2];rw [Zf (n:=(i0:Int)+1) (by omega) (by omega)];simp only [Bool.not_not] at h3;refine Yb (λs:Nat × Nat × List Meet=>[(5,I s.1),(6,I s.2.1)]) (λs=>[(0,.row v 4 (s.2.2.map Zg) 274)]) (λs=>(s.1 < s.2.1/\s.2.1<=l.length)/\s.2.2.length=l.length/\s.1=((l.take s.2.1).filter (·.close)).length/\s.2.2.take s.1=(l.take s.2.1).filter (·.close)/\∀ p,s.2.1<=p->s.2.2[p]? = l[p]?) (λs=>l.length - s.2.1) (i0,i0+1,l) ⟨by simp only;omega,rfl,by simp only [h3];simp;omega,h3.symm,λ_ _=>rfl⟩ ?_ ?_
 . rw [show (i0:Int)+1=((i0+1:Nat):Int) from by omega];(refine Zi ?_ ?_ ?_ rfl rfl<;>dsimp only [Zg,id,go_sem]<;>simp [Zg,Za])
 rintro ⟨i,j,l1⟩ ⟨⟨hij,hj⟩,hl1,hi,ht,hd⟩;simp only at hij hj hl1 hi ht hd
 (repeat first | dsimp only [go_sem] | simp only [nbr])
 simp only [List.length_map];by_cases hlt:j < l.length
 . refine Zt (by simp;omega) ?_
   (repeat first | dsimp only [go_sem] | simp only [nbr])
   refine XC j rfl (by simp;omega) ?_
   (repeat first | dsimp only [go_sem] | simp only [nbr])
   refine VX (by omega) ?_
   (repeat first | dsimp only [Zg,go_sem] | simp only [nbr])
   have hlj:l1[j]=l[j]:=by
    have:=hd j (Nat.le_refl _);rw [List.getElem?_eq_getElem (by omega),List.getElem?_eq_getElem hlt] at this;exact Option.some.inj this
   have htake:l.take (j+1)=l.take j ++ [l[j]]:=(List.take_append_getElem hlt).symm;refine call (ZqY l1[j]) ?_
   (repeat first | dsimp only [go_sem] | simp only [nbr])
   by_cases hc:l1[j].close=true
   . refine Zt (by simp [hc]) ?_
     (repeat first | dsimp only [go_sem] | simp only [nbr])
     refine XC i rfl (by simp;omega) ?_
     (repeat first | dsimp only [go_sem] | simp only [nbr])
     refine Zc2 l1[j] (by omega) (by simp [Zg]) (by simp [Zg,Zq]) ?_
     (repeat first | dsimp only [go_sem] | simp only [nbr])
     simp (disch:=omega) only [Zf];refine ⟨(i+1,j+1,l1.set i l1[j]),⟨by simp only;omega,by simp [hl1],?_,?_,λp hp=>?_⟩,by simp only;omega,?_⟩
     . simp only;rw [htake,List.filter_append,List.length_append,<- hi];rw [hlj] at hc;simp [hc]
     . simp only;rw [htake,List.filter_append,<- ht,hlj];rw [hlj] at hc;rw [List.take_succ_eq_append_getElem (by simp;omega)];simp [hc,List.take_set_of_le]
     . simp only at hp ⊢;rw [List.getElem?_set_ne (by omega)];exact hd p (by omega)
     . rw [show (i:Int)+1=((i+1:Nat):Int) from by omega,show (j:Int)+1=((j+1:Nat):Int) from by omega];generalize l1.set i l1[j]=l2;(refine Zi ?_ ?_ ?_ rfl rfl<;>dsimp only [Zg,id,go_sem]<;>simp [Zg,Za])
   . refine Zn (by simp [hc]) ?_
     (repeat first | dsimp only [go_sem] | simp only [nbr])
     simp (disch:=omega) only [Zf];refine ⟨(i,j+1,l1),⟨by simp only;omega,hl1,?_,?_,λp hp=>hd p (by simp only at hp;omega)⟩,by simp only;omega,?_⟩
     . simp only;rw [htake,List.filter_append,List.length_append,<- hi];rw [hlj] at hc;simp [hc]
     . simp only;rw [htake,List.filter_append,ht];rw [hlj] at hc;simp [hc]
     . rw [show (j:Int)+1=((j+1:Nat):Int) from by omega];(refine Zi ?_ ?_ ?_ rfl rfl<;>dsimp only [Zg,id,go_sem]<;>simp [Zg,Za])
 refine Zn (by simp;omega) ?_
 (repeat first | dsimp only [go_sem] | simp only [nbr])
 have hje:j=l.length:=by omega
 subst hje;rw [List.take_length] at hi ht;refine ⟨i,l.length,⟨rfl,by simp;omega,by omega,by simp;omega⟩,?_⟩
 (repeat first | dsimp only [go_sem] | simp only [nbr])
 refine ZiJ (z:=.agg #[.int .i64 0,.int .i64 0,.int .i64 0,.bool false]) (zl:=[.int .i64 0,.int .i64 0,.int .i64 0,.bool false]) rfl rfl (by simp;omega) (by kernel_rfl) (by kernel_rfl) rfl rfl (by intro v hv;simp at hv;rcases hv with rfl | rfl<;>rfl) ?_;have hrow:List.take i (List.map Zg l1) ++ (List.replicate (l.length - i) (List.map SV.v [Value.int IntKind.i64 0,Value.int IntKind.i64 0,Value.int IntKind.i64 0,Value.bool false]) ++ List.drop (i+(l.length - i)) (List.map Zg l1))=(l1.take i ++ List.replicate (l.length - i) (⟨0,0,0,false⟩:Meet)).map Zg:=by
  rw [List.drop_of_length_le (by simp;omega),List.append_nil,List.map_append,List.map_take,List.map_replicate];rfl
 rw [hrow];obtain ⟨l2,hl2⟩:∃ l2,l2=l1.take i ++ List.replicate (l.length - i) (⟨0,0,0,false⟩:Meet):=⟨_,rfl⟩
 rw [<- hl2];have hlen:l2.length=l.length:=by rw [hl2];simp;omega
 have ht2:l2.take i=l.filter (·.close):=by rw [hl2,List.take_left' (by simp;omega),ht]
 (repeat first | dsimp only [go_sem] | simp only [nbr])
 refine ⟨0,i,⟨rfl,rfl,by omega,by simp;omega⟩,?_⟩;rw [Nat.sub_zero]
 (repeat first | dsimp only [go_sem] | simp only [nbr])
 subst hi;refine ⟨_,.inr ⟨l2,hlen,by omega,ht2,rfl⟩,?_⟩;(refine Zp ?_ ?_ ?_ rfl<;>dsimp only [Zg,id,go_sem]<;>simp [Zg,Za])
end Go.Proofs.YtkpkgafhfakpdaaGreatDoor.Cm
namespace Go.Azalai
def gI (s:List Int) (i:Int):Int:=s.getD i.toNat 0
def XT (w d a b:Int) (s:List Int):List Int:=if gI s a<=d then s.set b.toNat (min (gI s b) (d+w)) else s
def ZbA (w:Int) (m:Meet) (s:List Int):List Int:=XT w m.day m.b m.a (XT w m.day m.a m.b s)
def ZQ (w last:Int):List Meet->List Int->List Int
 | [],s=>s
 | m :: l,s=>if m.day > last then s else ZQ w last l (ZbA w m s)
def YJ:List Int->List Int->List Int
 | [],s=>s
 | i :: l,s=>YJ l (s.set i.toNat 0)
theorem W1 (w d a b:Int) (s:List Int):(XT w d a b s).length=s.length:=by unfold XT;split<;>simp
def okM (n:Int) (m:Meet):Prop:=(0<=m.a/\m.a < n)/\(0<=m.b/\m.b < n)/\m.a≠m.b/\0<=m.day/\m.day<=100000
theorem ZaO {s:List Int} {i:Int} {k:Nat} (h:i=k) (hk:k < s.length):gI s i=s[k]:=by
 unfold gI;rw [h,Int.toNat_natCast,List.getD_eq_getElem?_getD,List.getElem?_eq_getElem hk];rfl
end Go.Azalai
namespace Go.Proofs.YtkpkgafhfakpdaaGreatDoor.Cm
open Go Go.Sx Go.Azalai
theorem U3 (n:Nat) (first:List Int) (meets:List Meet) (w last:Int) (c1 c2:Bool) (hn:1<=n) (hn':n<=30) (hf:∀ i ∈ first,0<=i/\i < n) (hm:∀ m ∈ meets,okM n m) (hw:0<=w/\w<=60) (hl1:first.length<=1000) (hl2:meets.length<=1000) :
 Ct Tryz.prog 212 [I n,.sl c1 1 (first.map Zk),.sl c2 4 (meets.map Zg),I w,I last] (.sl false 1 ((ZQ w last meets (YJ first (List.replicate n 100061))).map Zk)):=by
 refine t212.1 (by simp [Zg,Za,Zk]) (by simp [Za,Zk]) ?_;dsimp only [c212,r212,go_sem];refine Zl [] (ZsP 100061 n hn (by omega) true) rfl rfl rfl ?_ ?_ ?_
 . (repeat first | dsimp only [go_sem] | simp only [nbr])
   simp [mtL,mtB,mtS,KFR,KFL,KF]
 . (repeat first | dsimp only [go_sem] | simp only [nbr])
 rintro _ rfl
 (repeat first | dsimp only [go_sem] | simp only [nbr])
 simp only [List.length_map];rw [show List.replicate n [I 100061]=(List.replicate n (100061:Int)).map Zk from by simp [Zk]];have hbl:∀ (l s:List Int),(YJ l s).length=s.length:=λl=>by
  induction l with
  | nil=>intro s;rfl
  | cons i l ih=>intro s;rw [YJ,ih];simp
 have hsI:(List.replicate n (100061:Int)).length=n:=by simp
 generalize List.replicate n (100061:Int)=sI at hsI;refine Yb (λz:Nat × List Int=>[(22,I z.1)]) (λz=>[(0,.row 0 1 (z.2.map Zk) 3)]) (λz=>z.1<=first.length/\z.2.length=n/\YJ (first.drop z.1) z.2=YJ first sI) (λz=>first.length - z.1) (0,sI) ⟨Nat.zero_le _,hsI,by simp⟩ ?_ ?_
 . (refine Zi ?_ ?_ ?_ rfl rfl<;>dsimp only [Zg,Zk,id,go_sem]<;>simp [Zg,Zk,Za])
 rintro ⟨k,s⟩ ⟨hk,hs,hb⟩;simp only at hk hs hb;dsimp only [go_sem];by_cases hlt:k < first.length
 . refine Zt (by simpa using hlt) ?_;dsimp only [go_sem];refine Zx k hlt rfl ?_;dsimp only [Zk,go_sem];have hfk:=hf first[k] (List.getElem_mem _);obtain ⟨p,hp⟩:∃ p:Nat,first[k]=(p:Int):=⟨first[k].toNat,by omega⟩
   rw [List.drop_eq_getElem_cons hlt,hp] at hb;rw [hp] at hfk;rw [hp];refine XC p rfl (by first | omega | (simp;omega)) ?_
   (repeat first | dsimp only [go_sem] | simp only [nbr])
   refine Zc2 (0:Int) (by first | omega | (simp;omega)) (by simp [Zk]) (by simp [Zk,Zq]) ?_
   (repeat first | dsimp only [go_sem] | simp only [nbr])
   rw [Zf (n:=(k:Int)+1) (by omega) (by omega)];refine ⟨(k+1,s.set p 0),⟨hlt,by simp [hs],by simpa [YJ] using hb⟩,by simp only;omega,?_⟩;generalize s.set p 0=s2;(refine Zi ?_ ?_ ?_ rfl rfl<;>dsimp only [Zg,Zk,id,go_sem]<;>simp [Zg,Zk,Za])
 refine Zn (by simp;omega) ?_;dsimp only [go_sem];rw [show k=first.length from by omega,List.drop_length] at hb;simp only [YJ] at hb;subst hb;generalize YJ first sI=s0 at hs;refine Yb (λz:Nat × List Int=>[(32,I z.1)]) (λz=>[(0,.row 0 1 (z.2.map Zk) 3)]) (λz=>z.1<=meets.length/\z.2.length=n/\ZQ w last (meets.drop z.1) z.2=ZQ w last meets s0) (λz=>meets.length - z.1) (0,s0) ⟨Nat.zero_le _,hs,by simp⟩ ?_ ?_
 . (refine Zi ?_ ?_ ?_ rfl rfl<;>dsimp only [Zg,Zk,id,go_sem]<;>simp [Zg,Zk,Za])
 rintro ⟨j,s⟩ ⟨hj,hs',hr⟩;simp only at hj hs' hr;dsimp only [go_sem];by_cases hlt:j < meets.length
 case neg =>
  refine Zn (by simp;omega) ?_;dsimp only [go_sem];rw [show j=meets.length from by omega,List.drop_length] at hr;simp only [ZQ] at hr;rw [<- hr]
 refine Zt (by simpa using hlt) ?_;dsimp only [go_sem];refine Zx j hlt rfl ?_;dsimp only [Zg,go_sem];refine Zx j hlt rfl ?_;dsimp only [Zg,go_sem];refine Zx j hlt rfl ?_;dsimp only [Zg,go_sem];refine Zx j hlt rfl ?_;dsimp only [Zg,go_sem];have hmj:=hm meets[j] (List.getElem_mem _);rw [List.drop_eq_getElem_cons hlt] at hr;generalize hmm:meets[j]=m at hmj hr;obtain ⟨ma,mb,md,mc⟩:=m;obtain ⟨⟨ha0,ha1⟩,⟨hb0,hb1⟩,hab,hd0,hd1⟩:=hmj
 simp only at ha0 ha1 hb0 hb1 hab hd0 hd1;obtain ⟨pa,rfl⟩:∃ p:Nat,ma=p:=⟨ma.toNat,by omega⟩
 obtain ⟨pb,rfl⟩:∃ p:Nat,mb=p:=⟨mb.toNat,by omega⟩
 simp only;refine Yb (λz:Nat × List Int=>[(58,I z.1)]) (λz=>[(0,.row 0 1 (z.2.map Zk) 3)]) (λz=>(z.1=0/\z.2=s)\/(z.1=1/\¬ md > last/\z.2=XT w md pa pb s)\/(z.1=2/\¬ md > last/\z.2=XT w md pb pa (XT w md pa pb s))) (λz=>2 - z.1) (0,s) (.inl ⟨rfl,rfl⟩) ?_ ?_
 . (refine Zi ?_ ?_ ?_ rfl rfl<;>dsimp only [Zg,Zk,id,go_sem]<;>simp [Zg,Zk,Za])
 rintro ⟨q,s1⟩ hq;simp only at hq;have hs1:s1.length=n:=by
  rcases hq with ⟨_,h⟩ | ⟨_,_,h⟩ | ⟨_,_,h⟩<;>rw [h]<;>simp [W1,hs']
 dsimp only [go_sem];rcases hq with ⟨rfl,hss⟩ | ⟨rfl,hday,hss⟩ | ⟨rfl,hday,hss⟩
 . skip
   refine Zt (by decide) ?_;dsimp only [go_sem];refine ixa 0 rfl (by decide) ?_
   (repeat first | dsimp only [go_sem] | simp only [nbr])
   refine Zx j hlt rfl ?_;rw [hmm];dsimp only [Zg,go_sem];by_cases hday:md > last
   . refine Zt (by simpa using hday) ?_;dsimp only [go_sem];simp only [ZQ] at hr;rw [if_pos hday] at hr;rw [<- hr,hss]
   refine Zn (by simpa using hday) ?_
   (repeat first | dsimp only [go_sem] | simp only [nbr])
   refine ixa 0 rfl (by decide) ?_
   (repeat first | dsimp only [go_sem] | simp only [nbr])
   refine XC pa rfl (by first | omega | (simp;omega)) ?_
   (repeat first | dsimp only [go_sem] | simp only [nbr])
   refine VX (by first | omega | (simp;omega)) ?_
   (repeat first | dsimp only [Zk,go_sem] | simp only [nbr])
   refine Zx j hlt rfl ?_;rw [hmm];dsimp only [Zg,go_sem];have hgpa:gI s1 (pa:Int)=s1[pa]:=ZaO rfl (by omega);have hgpb:gI s1 (pb:Int)=s1[pb]:=ZaO rfl (by omega);by_cases hle:s1[pa]<=md
   . refine Zt (by simpa using hle) ?_
     (repeat first | dsimp only [go_sem] | simp only [nbr])
     refine ixa 1 rfl (by decide) ?_
     (repeat first | dsimp only [go_sem] | simp only [nbr])
     refine ixa 1 rfl (by decide) ?_
     (repeat first | dsimp only [go_sem] | simp only [nbr])
     refine XC pb rfl (by first | omega | (simp;omega)) ?_
     (repeat first | dsimp only [go_sem] | simp only [nbr])
     refine VX (by first | omega | (simp;omega)) ?_
     (repeat first | dsimp only [Zk,go_sem] | simp only [nbr])
     refine Zx j hlt rfl ?_;rw [hmm];dsimp only [Zg,go_sem];rw [Zf (n:=md+w) (by omega) (by omega)];refine XC pb rfl (by first | omega | (simp;omega)) ?_
     (repeat first | dsimp only [go_sem] | simp only [nbr])
     refine Zc2 (min s1[pb] (md+w)) (by first | omega | (simp;omega)) (by simp [Zk]) (by simp [Zk,Zq]) ?_
     (repeat first | dsimp only [go_sem] | simp only [nbr])
     refine ⟨(1,s1.set pb (min s1[pb] (md+w))),.inr (.inl ⟨rfl,hday,?_⟩),by simp only;omega,?_⟩
     . simp only;rw [show XT w md pa pb s=XT w md pa pb s1 from by rw [hss]];unfold XT;rw [if_pos (by rw [hgpa];exact hle),hgpb,Int.toNat_natCast]
     generalize s1.set pb (min s1[pb] (md+w))=s2;(refine Zi ?_ ?_ ?_ rfl rfl<;>dsimp only [Zg,Zk,Zb0,ZbC,id,go_sem]<;>simp [Zg,Zk,Zb0,ZbC,Za])
   refine Zn (by simpa using hle) ?_
   (repeat first | dsimp only [go_sem] | simp only [nbr])
   refine ⟨(1,s1),.inr (.inl ⟨rfl,hday,?_⟩),by simp only;omega,?_⟩
   . simp only;rw [show XT w md pa pb s=XT w md pa pb s1 from by rw [hss]];unfold XT;rw [if_neg (by rw [hgpa];exact hle)]
   (refine Zi ?_ ?_ ?_ rfl rfl<;>dsimp only [Zg,Zk,Zb0,ZbC,id,go_sem]<;>simp [Zg,Zk,Zb0,ZbC,Za])
 . skip
   refine Zt (by decide) ?_;dsimp only [go_sem];refine ixa 1 rfl (by decide) ?_
   (repeat first | dsimp only [go_sem] | simp only [nbr])
   refine Zx j hlt rfl ?_;rw [hmm];dsimp only [Zg,go_sem];refine Zn (by simpa using hday) ?_
   (repeat first | dsimp only [go_sem] | simp only [nbr])
   refine ixa 0 rfl (by decide) ?_
   (repeat first | dsimp only [go_sem] | simp only [nbr])
   refine XC pb rfl (by first | omega | (simp;omega)) ?_
   (repeat first | dsimp only [go_sem] | simp only [nbr])
   refine VX (by first | omega | (simp;omega)) ?_
   (repeat first | dsimp only [Zk,go_sem] | simp only [nbr])
   refine Zx j hlt rfl ?_;rw [hmm];dsimp only [Zg,go_sem];have hgpb:gI s1 (pb:Int)=s1[pb]:=ZaO rfl (by omega);have hgpa:gI s1 (pa:Int)=s1[pa]:=ZaO rfl (by omega);by_cases hle:s1[pb]<=md
   . refine Zt (by simpa using hle) ?_
     (repeat first | dsimp only [go_sem] | simp only [nbr])
     refine ixa 1 rfl (by decide) ?_
     (repeat first | dsimp only [go_sem] | simp only [nbr])
     refine ixa 1 rfl (by decide) ?_
     (repeat first | dsimp only [go_sem] | simp only [nbr])
     refine XC pa rfl (by first | omega | (simp;omega)) ?_
     (repeat first | dsimp only [go_sem] | simp only [nbr])
     refine VX (by first | omega | (simp;omega)) ?_
     (repeat first | dsimp only [Zk,go_sem] | simp only [nbr])
     refine Zx j hlt rfl ?_;rw [hmm];dsimp only [Zg,go_sem];rw [Zf (n:=md+w) (by omega) (by omega)];refine XC pa rfl (by first | omega | (simp;omega)) ?_
     (repeat first | dsimp only [go_sem] | simp only [nbr])
     refine Zc2 (min s1[pa] (md+w)) (by first | omega | (simp;omega)) (by simp [Zk]) (by simp [Zk,Zq]) ?_
     (repeat first | dsimp only [go_sem] | simp only [nbr])
     refine ⟨(2,s1.set pa (min s1[pa] (md+w))),.inr (.inr ⟨rfl,hday,?_⟩),by simp only;omega,?_⟩
     . simp only;rw [show XT w md pb pa (XT w md pa pb s)=XT w md pb pa s1 from by rw [hss]];unfold XT;rw [if_pos (by rw [hgpb];exact hle),hgpa,Int.toNat_natCast]
     generalize s1.set pa (min s1[pa] (md+w))=s2;(refine Zi ?_ ?_ ?_ rfl rfl<;>dsimp only [Zg,Zk,Zb0,ZbC,id,go_sem]<;>simp [Zg,Zk,Zb0,ZbC,Za])
   refine Zn (by simpa using hle) ?_
   (repeat first | dsimp only [go_sem] | simp only [nbr])
   refine ⟨(2,s1),.inr (.inr ⟨rfl,hday,?_⟩),by simp only;omega,?_⟩
   . simp only;rw [show XT w md pb pa (XT w md pa pb s)=XT w md pb pa s1 from by rw [hss]];unfold XT;rw [if_neg (by rw [hgpb];exact hle)]
   (refine Zi ?_ ?_ ?_ rfl rfl<;>dsimp only [Zg,Zk,Zb0,ZbC,id,go_sem]<;>simp [Zg,Zk,Zb0,ZbC,Za])
 . refine Zn (by decide) ?_;dsimp only [go_sem];rw [Zf (n:=(j:Int)+1) (by omega) (by omega)];refine ⟨(j+1,s1),⟨hlt,hs1,?_⟩,by simp only;omega,?_⟩
   . simp only [ZQ,ZbA] at hr;rw [if_neg hday] at hr;show ZQ w last (List.drop (j+1) meets) s1=_;rw [hss];exact hr
   (refine Zi ?_ ?_ ?_ rfl rfl<;>dsimp only [Zg,Zk,id,go_sem]<;>simp [Zg,Zk,Za])
end Go.Proofs.YtkpkgafhfakpdaaGreatDoor.Cm
namespace Go.Azalai
inductive Inf (first:List Int) (M:Meet->Prop) (w:Int):Int->Int->Prop
 | base {i:Int}:i ∈ first->Inf first M w i 0
 | l {m:Meet} {t:Int}:M m->Inf first M w m.a t->t<=m.day->Inf first M w m.b (m.day+w)
 | r {m:Meet} {t:Int}:M m->Inf first M w m.b t->t<=m.day->Inf first M w m.a (m.day+w)
def Zrv (first:List Int) (M:Meet->Prop) (w i day:Int):Prop:=∃ t,t<=day/\Inf first M w i t
theorem Inf.mono {first:List Int} {M M':Meet->Prop} {w i t:Int} (h:∀ m,M m->M' m) (hi:Inf first M w i t):Inf first M' w i t:=by
 induction hi with
 | base hb=>exact .base hb
 | l hm _ ht ih=>exact .l (h _ hm) ih ht
 | r hm _ ht ih=>exact .r (h _ hm) ih ht
theorem Inf.rng {n:Int} {first:List Int} {M:Meet->Prop} {w i t:Int} (hf:∀ i ∈ first,0<=i/\i < n) (hm:∀ m,M m->okM n m) (hi:Inf first M w i t):0<=i/\i < n:=by
 cases hi with
 | base hb=>exact hf _ hb
 | l h _ _=>exact (hm _ h).2.1
 | r h _ _=>exact (hm _ h).1
theorem Inf.earlier {first:List Int} {M M':Meet->Prop} {w w' i t:Int} (h:∀ m,M m->M' m) (hw:w'<=w) (hi:Inf first M w i t):∃ t',t'<=t/\Inf first M' w' i t':=by
 induction hi with
 | base hb=>exact ⟨0,Int.le_refl _,.base hb⟩
 | l hm _ ht ih=>obtain ⟨t',h1,h2⟩:=ih;exact ⟨_,by omega,.l (h _ hm) h2 (by omega)⟩
 | r hm _ ht ih=>obtain ⟨t',h1,h2⟩:=ih;exact ⟨_,by omega,.r (h _ hm) h2 (by omega)⟩
theorem Zep {s:List Int} {b i x:Int} (hb:0<=b) (hbl:b < s.length) (hi:0<=i):gI (s.set b.toNat x) i=if i=b then x else gI s i:=by
 unfold gI;rw [List.getD_eq_getElem?_getD,List.getD_eq_getElem?_getD];by_cases h:i=b
 . subst h;rw [if_pos rfl,List.getElem?_set_self (by omega)];rfl
 . rw [if_neg h,List.getElem?_set_ne (by omega)]
theorem ZaL {w d a b i:Int} {s:List Int} (hb:0<=b) (hbl:b < s.length) (hi:0<=i):gI (XT w d a b s) i<=gI s i:=by
 unfold XT;split
 . rw [Zep hb hbl hi];split
   . rename_i h;subst h;omega
   . exact Int.le_refl _
 . exact Int.le_refl _
theorem UE {w d a b:Int} {s:List Int} (hb:0<=b) (hbl:b < s.length) (ha:gI s a<=d):gI (XT w d a b s) b<=d+w:=by
 unfold XT;rw [if_pos ha,Zep hb hbl hb,if_pos rfl];omega
theorem UY (w:Int) (m:Meet) (s:List Int):(ZbA w m s).length=s.length:=by unfold ZbA;rw [W1,W1]
theorem Zvo {first:List Int} {P:Meet->Prop} {w:Int} {m:Meet} (hw:1<=w) (hd:∀ p,P p->p.day<=m.day) {i t:Int} (hi:Inf first (λx=>P x\/x=m) w i t) :
 Inf first P w i t\/(i=m.b/\t=m.day+w/\∃ t',Inf first P w m.a t'/\t'<=m.day)\/(i=m.a/\t=m.day+w/\∃ t',Inf first P w m.b t'/\t'<=m.day):=by
 induction hi with
 | base hb=>exact .inl (.base hb)
 | l hm hp ht ih =>
  rename_i m' t';have hle:m'.day<=m.day:=by
   rcases hm with h | h
   . exact hd _ h
   . rw [h];exact Int.le_refl _
  rcases ih with h | ⟨_,h,_⟩ | ⟨_,h,_⟩
  . rcases hm with hm | hm
    . exact .inl (.l hm h ht)
    . subst hm;exact .inr (.inl ⟨rfl,rfl,t',h,ht⟩)
  . omega
  . omega
 | r hm hp ht ih =>
  rename_i m' t';have hle:m'.day<=m.day:=by
   rcases hm with h | h
   . exact hd _ h
   . rw [h];exact Int.le_refl _
  rcases ih with h | ⟨_,h,_⟩ | ⟨_,h,_⟩
  . rcases hm with hm | hm
    . exact .inl (.r hm h ht)
    . subst hm;exact .inr (.inr ⟨rfl,rfl,t',h,ht⟩)
  . omega
  . omega
theorem Zua {first:List Int} {Q P:Meet->Prop} {w last:Int} (hw:1<=w) (h:∀ m,Q m->m.day<=last->P m) {i t:Int} (hi:Inf first Q w i t) (ht:t<=last):Inf first P w i t:=by
 induction hi with
 | base hb=>exact .base hb
 | l hm hp htt ih=>exact .l (h _ hm (by omega)) (ih (by omega)) htt
 | r hm hp htt ih=>exact .r (h _ hm (by omega)) (ih (by omega)) htt
theorem ZcJ {n:Int} {first:List Int} {w last:Int} (hw:1<=w) (hf:∀ i ∈ first,0<=i/\i < n):∀ (l:List Meet) (P:Meet->Prop) (s:List Int),s.length=n->(∀ m ∈ l,okM n m)->(∀ m,P m->okM n m)->l.Pairwise (λx y=>x.day<=y.day)->(∀ p,P p->∀ m ∈ l,p.day<=m.day) ->
 (∀ i t,Inf first P w i t->gI s i<=t)->∀ i t,Inf first (λm=>P m\/m ∈ l) w i t->t<=last->gI (ZQ w last l s) i<=t
 | [],P,s,hs,hm,hP,hso,hd,hA,i,t,hi,ht=>hA i t (hi.mono λm h=>by simpa using h)
 | m :: l,P,s,hs,hm,hP,hso,hd,hA,i,t,hi,ht=>by
  have hso':=List.pairwise_cons.1 hso;unfold ZQ;by_cases hlast:m.day > last
  . rw [if_pos hlast];refine hA i t (Zua hw (λq hq hql=>?_) hi ht);rcases hq with hq | hq
    . exact hq
    . rcases List.mem_cons.1 hq with rfl | hq
      . omega
      . have:=hso'.1 q hq;omega
  . rw [if_neg hlast];have hmo:=hm m (by simp);refine ZcJ hw hf l (λx=>P x\/x=m) (ZbA w m s) (by rw [UY];exact hs) (λx hx=>hm x (by simp [hx])) (λx hx=>by rcases hx with h | h;exact hP x h;rw [h];exact hmo) hso'.2 (λp hp x hx=>?_) (λj t' hj=>?_) i t (hi.mono λx hx=>?_) ht
    . rcases hp with hp | rfl
      . exact hd p hp x (by simp [hx])
      . exact hso'.1 x hx
    . have hr:=hj.rng hf (λx hx=>by rcases hx with h | h;exact hP x h;rw [h];exact hmo);obtain ⟨⟨a0,a1⟩,⟨b0,b1⟩,_,_,_⟩:=hmo;have l1:(XT w m.day m.a m.b s).length=n:=by rw [W1];exact hs
      have q1:=ZaL (w:=w) (d:=m.day) (a:=m.b) (b:=m.a) (i:=j) (s:=XT w m.day m.a m.b s) a0 (by omega) hr.1;have q2:=ZaL (w:=w) (d:=m.day) (a:=m.a) (b:=m.b) (i:=j) (s:=s) b0 (by omega) hr.1;rcases Zvo hw (λp hp=>hd p hp m (by simp)) hj with h | ⟨rfl,rfl,t1,h1,h2⟩ | ⟨rfl,rfl,t1,h1,h2⟩
      . have:=hA j t' h;unfold ZbA;omega
      . have h3:=hA _ _ h1;have:=UE (w:=w) (d:=m.day) (a:=m.a) (b:=m.b) (s:=s) b0 (by omega) (by omega);unfold ZbA;omega
      . have h3:=hA _ _ h1;have q3:=ZaL (w:=w) (d:=m.day) (a:=m.a) (b:=m.b) (i:=m.b) (s:=s) b0 (by omega) b0;exact UE (w:=w) (d:=m.day) (a:=m.b) (b:=m.a) (s:=XT w m.day m.a m.b s) a0 (by omega) (by omega)
    . rcases hx with hx | hx
      . exact .inl (.inl hx)
      . rcases List.mem_cons.1 hx with h | h
        . exact .inl (.inr h)
        . exact .inr h
theorem ZdR {n:Int} {first:List Int} {Q:Meet->Prop} {w W:Int} {s:List Int} {a b d:Int} (hs:s.length=n) (hb0:0<=b) (hb1:b < n) (ha0:0<=a) (ha1:a < n) (hd:d < W) (hB:∀ i,0<=i->i < n->gI s i=W\/Inf first Q w i (gI s i)) (hQ:∀ t,Inf first Q w a t->t<=d->Inf first Q w b (d+w)) :
 ∀ i,0<=i->i < n->gI (XT w d a b s) i=W\/Inf first Q w i (gI (XT w d a b s) i):=λi h0 h1=>by
 unfold XT;by_cases ha:gI s a<=d
 . rw [if_pos ha,Zep hb0 (by omega) h0];by_cases hib:i=b
   . subst hib;rw [if_pos rfl];rcases Int.le_total (gI s i) (d+w) with h | h
     . rw [Int.min_eq_left h];exact hB i h0 h1
     . rw [Int.min_eq_right h];rcases hB a ha0 ha1 with h2 | h2
       . omega
       . exact .inr (hQ _ h2 ha)
   . rw [if_neg hib];exact hB i h0 h1
 . rw [if_neg ha];exact hB i h0 h1
theorem Zbb {n:Int} {first:List Int} {Q:Meet->Prop} {w last W:Int} (hW:100000 < W):∀ (l:List Meet) (s:List Int),s.length=n->(∀ m ∈ l,okM n m/\Q m)->(∀ i,0<=i->i < n->gI s i=W\/Inf first Q w i (gI s i)) ->
 ∀ i,0<=i->i < n->gI (ZQ w last l s) i=W\/Inf first Q w i (gI (ZQ w last l s) i)
 | [],s,hs,hm,hB=>hB
 | m :: l,s,hs,hm,hB=>by
  unfold ZQ;split
  . exact hB
  . obtain ⟨⟨⟨a0,a1⟩,⟨b0,b1⟩,_,d0,d1⟩,hQ⟩:=hm m (by simp);refine Zbb hW l (ZbA w m s) (by rw [UY];exact hs) (λx hx=>hm x (by simp [hx])) ?_;unfold ZbA;refine ZdR (by rw [W1];exact hs) a0 a1 b0 b1 (by omega) (ZdR hs b0 b1 a0 a1 (by omega) hB (λt h1 h2=>.l hQ h1 h2)) (λt h1 h2=>.r hQ h1 h2)
theorem Xq:∀ (l s:List Int),(YJ l s).length=s.length
 | [],s=>rfl
 | i :: l,s=>by rw [YJ,Xq l];simp
theorem XA (w last:Int):∀ (l:List Meet) (s:List Int),(ZQ w last l s).length=s.length
 | [],s=>rfl
 | m :: l,s=>by unfold ZQ;split;rfl;rw [XA w last l,UY]
theorem ZbQ {n:Int}:∀ (l s:List Int),s.length=n->(∀ i ∈ l,0<=i/\i < n)->∀ i,0<=i->gI (YJ l s) i=if i ∈ l then 0 else gI s i
 | [],s,hs,hl,i,hi=>by simp [YJ]
 | j :: l,s,hs,hl,i,hi=>by
  have hj:=hl j (by simp);rw [YJ,ZbQ l _ (by simpa using hs) (λi h=>hl i (by simp [h])) i hi,Zep hj.1 (by omega) hi];by_cases h1:i ∈ l
  . simp [h1]
  . by_cases h2:i=j
    . simp [h2]
    . simp [h1,h2]
theorem ZiA {n:Nat} {x i:Int} (h0:0<=i) (h1:i < n):gI (List.replicate n x) i=x:=by
 unfold gI;rw [List.getD_eq_getElem?_getD,List.getElem?_replicate,if_pos (by omega)];rfl
theorem Zar {n:Nat} {first:List Int} {l:List Meet} {w day:Int} (hw:1<=w) (hday:day<=100000) (hf:∀ i ∈ first,0<=i/\i < (n:Int)) (hm:∀ m ∈ l,okM n m) (hso:l.Pairwise (λx y=>x.day<=y.day)) {i:Int} (h0:0<=i) (h1:i < n) :
 gI (ZQ w day l (YJ first (List.replicate n 100061))) i<=day↔Zrv first (· ∈ l) w i day:=by
 have hlen:((YJ first (List.replicate n (100061:Int))).length:Int)=n:=by rw [Xq];simp
 have hb:=ZbQ (n:=n) first (List.replicate n 100061) (by simp) hf;constructor
 . intro h
   have:=Zbb (n:=n) (first:=first) (Q:=(· ∈ l)) (w:=w) (last:=day) (W:=100061) (by omega) l _ hlen (λm h=>⟨hm m h,h⟩) (λj g0 g1=>by
    rw [hb j g0];split
    . rename_i h;exact .inr (.base h)
    . exact .inl (ZiA g0 g1)) i h0 h1
   rcases this with h2 | h2
   . omega
   . exact ⟨_,h,h2⟩
 . rintro ⟨t,ht,hi⟩;refine Int.le_trans (ZcJ (n:=n) hw hf l (λ_=>False) _ hlen hm (λ_ h=>h.elim) hso (λ_ h=>h.elim) (λj t' hj=>?_) i t (hi.mono λm h=>.inr h) ht) ht;cases hj with
   | base hj=>rw [hb j (hf j hj).1,if_pos hj];exact Int.le_refl _
   | l h _ _=>exact h.elim
   | r h _ _=>exact h.elim
def ZqU:List Int->Nat
 | []=>0
 | x :: l=>x.toNat+ZqU l
theorem ZeG:∀ (s:List Int) (k:Nat) (x:Int) (h:k < s.length),ZqU (s.set k x)+s[k].toNat=ZqU s+x.toNat
 | y :: l,0,x,h=>by simp [ZqU];omega
 | y :: l,k+1,x,h=>by
  have:=ZeG l k x (by simpa using h);simp only [List.set_cons_succ,ZqU,List.getElem_cons_succ];omega
def ZcM:Int:=1099511627776
theorem UP {w d a b:Int} {s:List Int} (h0:0<=d+w) (hb0:0<=b) (hb1:b < s.length):XT w d a b s=s\/ZqU (XT w d a b s) < ZqU s:=by
 unfold XT;split
 . obtain ⟨k,rfl⟩:∃ k:Nat,b=k:=⟨b.toNat,by omega⟩
   have hk:k < s.length:=by omega
   rw [ZaO rfl hk,Int.toNat_natCast];rcases Int.lt_or_le (d+w) s[k] with h | h
   . right;have:=ZeG s k (min s[k] (d+w)) hk;rw [Int.min_eq_right (by omega)] at this ⊢;omega
   . left;rw [Int.min_eq_left h];exact List.set_getElem_self hk
 . exact .inl rfl
def act (close:Bool) (meets:List Meet) (m:Meet):Prop:=m ∈ meets/\(close=true->m.close=true)
structure Sk (n:Nat) (first:List Int) (M:Meet->Prop) (w:Int) (s:List Int):Prop where
 len:s.length=n
 inf:∀ i:Int,0<=i->i < n->gI s i=ZcM\/Inf first M w i (gI s i)
 fst:∀ i ∈ first,gI s i<=0
 up:∀ i:Int,0<=i->i < n->gI s i<=ZcM
theorem Sk.step {n:Nat} {first:List Int} {M:Meet->Prop} {w:Int} {s:List Int} (h:Sk n first M w s) (hf:∀ i ∈ first,0<=i/\i < (n:Int)) {a b d:Int} (ha:0<=a/\a < n) (hb:0<=b/\b < n) (hd:d<=100000) (hM:∀ t,Inf first M w a t->t<=d->Inf first M w b (d+w)):Sk n first M w (XT w d a b s):=by
 have hl:=h.len;refine ⟨by rw [W1];exact hl,ZdR (W:=ZcM) (n:=n) (by rw [hl]) hb.1 hb.2 ha.1 ha.2 (by unfold ZcM;omega) h.inf hM,λi hi=>?_,λi h0 h1=>?_⟩
 . exact Int.le_trans (ZaL hb.1 (by omega) (hf i hi).1) (h.fst i hi)
 . exact Int.le_trans (ZaL hb.1 (by omega) h0) (h.up i h0 h1)
structure Least (n:Nat) (first:List Int) (M:Meet->Prop) (w:Int) (s:List Int):Prop extends Sk n first M w s where
 le:∀ i t,Inf first M w i t->gI s i<=t
theorem Sk.least {n:Nat} {first:List Int} {M:Meet->Prop} {w:Int} {s:List Int} (h:Sk n first M w s) (hm:∀ m,M m->okM n m) (hs:∀ m,M m->XT w m.day m.a m.b s=s/\XT w m.day m.b m.a s=s):Least n first M w s:=by
 refine ⟨h,λi t hi=>?_⟩;have hl:=h.len
 induction hi with
 | base hb=>exact h.fst _ hb
 | l hM _ ht ih =>
  have:=UE (w:=w) (hm _ hM).2.1.1 (by have:=(hm _ hM).2.1.2;omega) (Int.le_trans ih ht)
  rwa [(hs _ hM).1] at this
 | r hM _ ht ih =>
  have:=UE (w:=w) (hm _ hM).1.1 (by have:=(hm _ hM).1.2;omega) (Int.le_trans ih ht)
  rwa [(hs _ hM).2] at this
theorem Least.unique {n:Nat} {first:List Int} {M:Meet->Prop} {w:Int} {s s':List Int} (h:Least n first M w s) (h':Least n first M w s'):s=s':=by
 have e:∀ i:Int,0<=i->i < n->gI s i=gI s' i:=λi h0 h1=>by
  have q1:=h.up i h0 h1;have q2:=h'.up i h0 h1;rcases h.inf i h0 h1 with g | g<;>rcases h'.inf i h0 h1 with g' | g'
  . rw [g,g']
  . have:=h.le _ _ g';omega
  . have:=h'.le _ _ g;omega
  . have:=h.le _ _ g';have:=h'.le _ _ g;omega
 apply List.ext_getElem (by rw [h.len,h'.len]);intro k k1 k2;have:=e k (by omega) (by rw [<- h.len];omega)
 rwa [ZaO rfl k1,ZaO rfl k2] at this
open Classical in
noncomputable def sickF (n:Nat) (first:List Int) (M:Meet->Prop) (w:Int):List Int:=if h:∃ s,Least n first M w s then Classical.choose h else []
theorem Least.sickF {n:Nat} {first:List Int} {M:Meet->Prop} {w:Int} {s:List Int} (h:Least n first M w s):sickF n first M w=s:=by
 have:∃ s,Least n first M w s:=⟨s,h⟩
 unfold Go.Azalai.sickF;rw [dif_pos this];exact (Classical.choose_spec this).unique h
theorem Least.sick {n:Nat} {first:List Int} {M:Meet->Prop} {w:Int} {s:List Int} (h:Least n first M w s) {i day:Int} (hd:day<=100000) (h0:0<=i) (h1:i < n):gI s i<=day↔Zrv first M w i day:=by
 constructor
 . intro hs;rcases h.inf i h0 h1 with g | g
   . unfold ZcM at g;omega
   . exact ⟨_,hs,g⟩
 . rintro ⟨t,ht,hi⟩;exact Int.le_trans (h.le i t hi) ht
end Go.Azalai
namespace Go.Proofs.YtkpkgafhfakpdaaGreatDoor.Cm
open Go Go.Sx Go.Azalai
end Go.Proofs.YtkpkgafhfakpdaaGreatDoor.Cm
namespace Go.Azalai
def Wo (n:Int) (first:List Int) (meets:List Meet) (wait:Span) (day:Int):Int :=
 if !(inR 1 30 n && Z8 1 60 wait && inR 0 100000 day) then 2 else if first.length > 30\/meets.length > 200 then 4 else if !(first.all (inR 0 (n - 1))) || meets.any (ZkW n) then 14 else 0
end Go.Azalai
namespace Go.Proofs.YtkpkgafhfakpdaaGreatDoor.Cm
open Go Go.Sx Go.Azalai
end Go.Proofs.YtkpkgafhfakpdaaGreatDoor.Cm
namespace Go.Azalai
def knF (day x y:Int):Int:=if day < x then 0 else if y<=day then 2 else 1
noncomputable def Uj (n:Int) (first:List Int) (meets:List Meet) (wait:Span) (day:Int):List Int :=
 (List.range n.toNat).map λi:Nat=>knF day (gI (sickF n.toNat first (act false meets) wait.lo) (i:Nat)) (gI (sickF n.toNat first (act true meets) wait.hi) (i:Nat))
theorem Zlp {n:Nat} {first:List Int} {M:Meet->Prop} {w:Int} (hf:∀ i ∈ first,0<=i/\i < (n:Int)) (hm:∀ m,M m->okM n m) (hw:0<=w):∀ (N:Nat) (s:List Int),ZqU s<=N->Sk n first M w s->∃ s,Least n first M w s:=λN=>by
 induction N with
 | zero =>
  intro s hN hs;refine ⟨s,hs.least hm λm hM=>?_⟩;obtain ⟨⟨a0,a1⟩,⟨b0,b1⟩,_,d0,d1⟩:=hm m hM;have hl:=hs.len;refine ⟨?_,?_⟩
  . rcases UP (w:=w) (d:=m.day) (a:=m.a) (b:=m.b) (s:=s) (by omega) b0 (by omega) with h | h
    . exact h
    . omega
  . rcases UP (w:=w) (d:=m.day) (a:=m.b) (b:=m.a) (s:=s) (by omega) a0 (by omega) with h | h
    . exact h
    . omega
 | succ N ih =>
  intro s hN hs;by_cases hall:∀ m,M m->XT w m.day m.a m.b s=s/\XT w m.day m.b m.a s=s
  . exact ⟨s,hs.least hm hall⟩
  . have ⟨m,hq⟩:=Classical.not_forall.1 hall;have ⟨hM,hne⟩:=Classical.not_imp.1 hq;obtain ⟨⟨a0,a1⟩,⟨b0,b1⟩,_,d0,d1⟩:=hm m hM;have hl:=hs.len;by_cases e1:XT w m.day m.a m.b s=s
    . have e2:XT w m.day m.b m.a s≠s:=λe2=>hne ⟨e1,e2⟩;rcases UP (w:=w) (d:=m.day) (a:=m.b) (b:=m.a) (s:=s) (by omega) a0 (by omega) with h | h
      . exact absurd h e2
      . exact ih _ (by omega) (hs.step hf ⟨b0,b1⟩ ⟨a0,a1⟩ d1 (λt g1 g2=>.r hM g1 g2))
    . rcases UP (w:=w) (d:=m.day) (a:=m.a) (b:=m.b) (s:=s) (by omega) b0 (by omega) with h | h
      . exact absurd h e1
      . exact ih _ (by omega) (hs.step hf ⟨a0,a1⟩ ⟨b0,b1⟩ d1 (λt g1 g2=>.l hM g1 g2))
theorem Wh {n:Nat} {first:List Int} {M:Meet->Prop} {w:Int} (hf:∀ i ∈ first,0<=i/\i < (n:Int)) (hm:∀ m,M m->okM n m) (hw:0<=w):∃ s,Least n first M w s:=by
 refine Zlp hf hm hw _ (YJ first (List.replicate n ZcM)) (Nat.le_refl _) ?_;have hb:=ZbQ (n:=n) first (List.replicate n ZcM) (by simp) hf;refine ⟨by rw [Xq];simp,λi h0 h1=>?_,λi hi=>?_,λi h0 h1=>?_⟩
 . rw [hb i h0];split
   . rename_i h;exact .inr (.base h)
   . exact .inl (ZiA h0 h1)
 . rw [hb i (hf i hi).1,if_pos hi];exact Int.le_refl _
 . rw [hb i h0];split
   . unfold ZcM;omega
   . rw [ZiA h0 h1];exact Int.le_refl _
theorem Zn8 {n:Int} {first:List Int} {meets:List Meet} {wait:Span} {day:Int} (h:Wo n first meets wait day=0):(1<=n/\n<=30)/\(1<=wait.lo/\wait.lo<=wait.hi/\wait.hi<=60)/\(0<=day/\day<=100000)/\first.length<=30/\meets.length<=200/\(∀ i ∈ first,0<=i/\i < n)/\∀ m ∈ meets,okM n m:=by
 unfold Wo at h;split at h
 . cases h
 rename_i h1;split at h
 . cases h
 rename_i h2;split at h
 . cases h
 rename_i h3;simp only [Bool.not_eq_true',Bool.not_eq_false,Bool.and_eq_true,inR,Z8,decide_eq_true_eq,Bool.or_eq_true,not_or,Bool.not_eq_true] at h1 h3;refine ⟨h1.1.1,h1.1.2,h1.2,by omega,by omega,λi hi=>?_,λm hm=>?_⟩
 . have:=List.all_eq_true.1 h3.1 i hi;simp only [inR,decide_eq_true_eq] at this;omega
 . have:=List.any_eq_false.1 h3.2 m hm;unfold ZkW inR at this;simp only [Bool.or_eq_true,Bool.not_eq_true',Bool.and_eq_false_iff,decide_eq_false_iff_not,decide_eq_true_eq,not_or] at this;unfold okM;omega
end Go.Azalai
namespace Go.Proofs.YtkpkgafhfakpdaaGreatDoor.Cm
open Go Go.Sx Go.Azalai
def u8L (n:Int):List SV:=[U8 n]
def rowsK (e:Int) (l:List Int):SV:=if e=0 then .sl false 1 (l.map u8L) else .v (.slice none 0 0)
end Go.Proofs.YtkpkgafhfakpdaaGreatDoor.Cm
namespace Go.Azalai
theorem UR {l:List Meet} (h:Srt Meet.day 0 l.length l):l.Pairwise (λx y=>x.day<=y.day):=by
 rw [List.pairwise_iff_getElem];intro i j hi hj hij;have:=h i j (Nat.zero_le _) hij hj
 rwa [XF Meet.day hi,XF Meet.day hj] at this
theorem Zev {n:Nat} {first:List Int} {meets l:List Meet} {wait:Span} {day:Int} (hw:1<=wait.lo/\wait.lo<=wait.hi) (hd:0<=day/\day<=100000) (hf:∀ i ∈ first,0<=i/\i < (n:Int)) (hm:∀ m ∈ meets,okM n m)
 (hp:l.Perm meets) (hs:l.Pairwise (λx y=>x.day<=y.day)) (hl:∃ s,Least n first (act false meets) wait.lo s) (hl2:∃ s,Least n first (act true meets) wait.hi s) {i:Nat} (hi:i < n) :
 (if gI (ZQ wait.hi day (l.filter (·.close)) (YJ first (List.replicate n 100061))) i<=day then 2 else if gI (ZQ wait.lo day l (YJ first (List.replicate n 100061))) i<=day then 1 else 0)=knF day (gI (sickF n first (act false meets) wait.lo) i) (gI (sickF n first (act true meets) wait.hi) i):=by
 obtain ⟨s1,h1⟩:=hl;obtain ⟨s2,h2⟩:=hl2;rw [h1.sickF,h2.sickF];have hml:∀ m ∈ l,okM n m:=λm h=>hm m (hp.mem_iff.1 h);have e1:=Zar (n:=n) (first:=first) (l:=l) (w:=wait.lo) (day:=day) hw.1 hd.2 hf hml hs (i:=(i:Int)) (by omega) (by omega);have e2:=Zar (n:=n) (first:=first) (l:=l.filter (·.close)) (w:=wait.hi) (day:=day) (by omega) hd.2 hf (λm h=>hml m (List.mem_filter.1 h).1) (hs.filter _) (i:=(i:Int)) (by omega) (by omega)
 have g1:=h1.sick (day:=day) hd.2 (i:=(i:Int)) (by omega) (by omega);have g2:=h2.sick (day:=day) hd.2 (i:=(i:Int)) (by omega) (by omega);have c1:Zrv first (· ∈ l) wait.lo i day↔Zrv first (act false meets) wait.lo i day :=
  ⟨λ⟨t,ht,h⟩=>⟨t,ht,h.mono λm hm=>⟨hp.mem_iff.1 hm,λh=>by cases h⟩⟩,λ⟨t,ht,h⟩=>⟨t,ht,h.mono λm hm=>hp.mem_iff.2 hm.1⟩⟩
 have c2:Zrv first (· ∈ l.filter (·.close)) wait.hi i day↔Zrv first (act true meets) wait.hi i day :=
  ⟨λ⟨t,ht,h⟩=>⟨t,ht,h.mono λm hm=>⟨hp.mem_iff.1 (List.mem_filter.1 hm).1,λ_=>(List.mem_filter.1 hm).2⟩⟩,λ⟨t,ht,h⟩=>⟨t,ht,h.mono λm hm=>List.mem_filter.2 ⟨hp.mem_iff.2 hm.1,hm.2 rfl⟩⟩⟩
 have c3:Zrv first (act true meets) wait.hi i day->Zrv first (act false meets) wait.lo i day:=λ⟨t,ht,h⟩=>by
  obtain ⟨t',q1,q2⟩:=h.earlier (M':=act false meets) (w':=wait.lo) (λm hm=>⟨hm.1,λh=>by cases h⟩) hw.2;exact ⟨t',by omega,q2⟩
 rw [c1,<- g1] at e1;rw [c2,<- g2] at e2;rw [<- g1,<- g2] at c3;unfold knF;by_cases q2:gI s2 (i:Int)<=day
 . have:=c3 q2;rw [if_pos (e2.2 q2),if_neg (by omega),if_pos q2]
 . rw [if_neg (λh=>q2 (e2.1 h))];by_cases q1:gI s1 (i:Int)<=day
   . rw [if_pos (e1.2 q1),if_neg (by omega),if_neg q2]
   . rw [if_neg (λh=>q1 (e1.1 h)),if_pos (by omega)]
end Go.Azalai
namespace Go.Proofs.YtkpkgafhfakpdaaGreatDoor.Cm
open Go Go.Sx Go.Azalai
theorem mange_ok (n:Int) (first:List Int) (meets:List Meet) (wait:Span) (day:Int) (c1 c2:Bool) (hl1:first.length<=1000) (hl2:meets.length<=1000) :
 Ct Tryz.prog 165 [I n,.sl c1 1 (first.map Zk),.sl c2 4 (meets.map Zg),.agg (Zh wait),I day] (.tup [rowsK (Wo n first meets wait day) (Uj n first meets wait day),I (Wo n first meets wait day)]):=by
 have hkr:KF (rowsK (Wo n first meets wait day) (Uj n first meets wait day)):=by
  unfold rowsK;split<;>simp [KF,Za,KFL,u8L,U8]
 refine t165.1 (by simp [Zg,Za,Zk,Zh]) (by simp [KF,KFL,hkr]) ?_;dsimp only [c165,r165,Zh,go_sem];refine call (Zaq 1 30 n true) ?_;dsimp only [go_sem];repeat (first | (refine gb ?_;dsimp only [go_sem]) | (refine call (Y5 1 60 wait true) ?_;dsimp only [go_sem]) | (refine call (Zaq 0 100000 day true) ?_;dsimp only [go_sem]))
 by_cases h1:(inR 1 30 n && Z8 1 60 wait && inR 0 100000 day)=true
 case neg =>
  refine Zt (by revert h1;cases inR 1 30 n<;>cases Z8 1 60 wait<;>cases inR 0 100000 day<;>simp) ?_;dsimp only [go_sem];have hE:Wo n first meets wait day=2:=by
   unfold Wo;rw [if_pos (by revert h1;cases inR 1 30 n<;>cases Z8 1 60 wait<;>cases inR 0 100000 day<;>simp)]
  simp [rowsK,hE]
 refine Zn (by revert h1;cases inR 1 30 n<;>cases Z8 1 60 wait<;>cases inR 0 100000 day<;>simp) ?_;dsimp only [go_sem];repeat (refine gb ?_;dsimp only [go_sem])
 simp only [List.length_map];by_cases h2:first.length > 30\/meets.length > 200
 . refine Zt (by simp;omega) ?_;dsimp only [go_sem];have hE:Wo n first meets wait day=4:=by
    unfold Wo;rw [if_neg (by simp [h1]),if_pos h2]
   simp [rowsK,hE]
 refine Zn (by simp;omega) ?_;dsimp only [go_sem];have hn:1<=n/\n<=30:=by simp only [Bool.and_eq_true,inR,decide_eq_true_eq] at h1;exact h1.1.1
 have hE0:Wo n first meets wait day=if !(first.all (inR 0 (n - 1))) || meets.any (ZkW n) then 14 else 0:=by
  unfold Wo;rw [if_neg (by simp [h1]),if_neg h2]
 rw [Zf (n:=n - 1) (by omega) (by omega)];refine call (W2 0 (n - 1) first (by omega) c1) ?_;dsimp only [go_sem];repeat (refine gb ?_;dsimp only [go_sem])
 refine Xi (by simp [FLT]) (res:=B (meets.any (ZkW n))) ?_ ?_
 . dsimp only [go_sem];exact con78 206 [.ps [I n] 0] (by simp) (ZkW n) meets (λx _=>ZyS n hn.1 hn.2 x) (by omega)
 dsimp only [go_sem];repeat (refine gb ?_;dsimp only [go_sem])
 by_cases h3:(!(first.all (inR 0 (n - 1))) || meets.any (ZkW n))=true
 . refine Zt (by revert h3;cases first.all (inR 0 (n - 1))<;>cases meets.any (ZkW n)<;>simp) ?_;dsimp only [go_sem];rw [if_pos h3] at hE0;simp [rowsK,hE0]
 refine Zn (by revert h3;cases first.all (inR 0 (n - 1))<;>cases meets.any (ZkW n)<;>simp) ?_;dsimp only [go_sem];rw [if_neg h3] at hE0;obtain ⟨_,hw,hd,hf1,hm1,hf,hm⟩:=Zn8 hE0;clear h1 h2 h3;refine Zl [] (Ze4 meets (by omega) c2) rfl rfl rfl ?_ ?_ ?_
 . (repeat first | dsimp only [go_sem] | simp only [nbr])
   simp [mtL,mtB,mtS,Za,KFR,KFL,KF,Zg]
 . (repeat first | dsimp only [go_sem] | simp only [nbr])
 rintro _ rfl
 (repeat first | dsimp only [go_sem] | simp only [nbr])
 refine gh Zr ?_
 (repeat first | dsimp only [go_sem] | simp only [nbr])
 refine Zl [2] (Zb4 0 meets (by omega)) rfl rfl rfl ?_ ?_ ?_
 . (repeat first | dsimp only [go_sem] | simp only [nbr])
   simp [mtL,mtB,mtS]
 . (repeat first | dsimp only [go_sem] | simp only [nbr])
   simp [Za,Zg,KFL,KF]
 rintro _ ⟨l,hpl,hsl,rfl⟩
 (repeat first | dsimp only [YW,go_sem] | simp only [nbr])
 refine gh (Zjw 13 2 0 rfl rfl rfl rfl) ?_;obtain ⟨k,rfl⟩:∃ k:Nat,n=k:=⟨n.toNat,by omega⟩
 have hll:=hpl.len;have hso:=UR (by rw [hll];exact hsl);have hml:∀ m ∈ l,okM k m:=λm h=>hm m (hpl.perm.mem_iff.1 h)
 (repeat first | dsimp only [go_sem] | simp only [nbr])
 refine call (U3 k first l wait.lo day c1 false (by omega) (by omega) hf hml (by omega) hl1 (by omega)) ?_
 (repeat first | dsimp only [go_sem] | simp only [nbr])
 refine Zl [] (Ze4 l (by omega) false) rfl rfl rfl ?_ ?_ ?_
 . (repeat first | dsimp only [go_sem] | simp only [nbr])
   simp [mtL,mtB,mtS,Za,KFR,KFL,KF,Zg]
 . (repeat first | dsimp only [go_sem] | simp only [nbr])
 rintro _ rfl
 (repeat first | dsimp only [go_sem] | simp only [nbr])
 refine Zl [3] (ZhD 0 l (by omega)) rfl rfl rfl ?_ ?_ ?_
 . (repeat first | dsimp only [go_sem] | simp only [nbr])
   simp [mtL,mtB,mtS]
 . (repeat first | dsimp only [go_sem] | simp only [nbr])
   simp [Za,Zg,KFL,KF]
 rintro _ (⟨hfl,rfl⟩ | ⟨l',hl',hle,htk,rfl⟩)
 . (repeat first | dsimp only [go_sem] | simp only [nbr])
   refine gh (Zjw 15 3 0 rfl rfl rfl rfl) ?_;rw [show l.map Zg=(l.filter (·.close)).map Zg from by rw [hfl]];clear hfl;generalize hfl0:l.filter (·.close)=fl at *
   (repeat first | dsimp only [go_sem] | simp only [nbr])
   refine call (U3 k first fl wait.hi day c1 false (by omega) (by omega) hf (λm h=>hml m (by rw [<- hfl0] at h;exact (List.mem_filter.1 h).1)) (by omega) hl1 (by rw [<- hfl0];exact Nat.le_trans (List.length_filter_le _ _) (by omega))) ?_
   (repeat first | dsimp only [go_sem] | simp only [nbr])
   have hlenE:(ZQ wait.lo day l (YJ first (List.replicate k 100061))).length=k:=by rw [XA,Xq];simp
   have hlenL:(ZQ wait.hi day fl (YJ first (List.replicate k 100061))).length=k:=by rw [XA,Xq];simp
   have heq:∀ i:Nat,i < k->(if gI (ZQ wait.hi day fl (YJ first (List.replicate k 100061))) (i:Int)<=day then 2 else if gI (ZQ wait.lo day l (YJ first (List.replicate k 100061))) (i:Int)<=day then 1 else 0)=knF day (gI (sickF k first (act false meets) wait.lo) i) (gI (sickF k first (act true meets) wait.hi) i):=λi hi=>by
    have:=Zev (meets:=meets) (l:=l) ⟨hw.1,hw.2.1⟩ hd hf hm hpl.perm hso (Wh hf (λm h=>hm m h.1) (by omega)) (Wh hf (λm h=>hm m h.1) (by omega)) hi;rw [hfl0] at this;exact this
   generalize ZQ wait.lo day l (YJ first (List.replicate k 100061))=E at hlenE heq;generalize ZQ wait.hi day fl (YJ first (List.replicate k 100061))=L at hlenL heq;refine ⟨k,rfl,by omega,?_⟩
   (repeat first | dsimp only [go_sem] | simp only [nbr])
   rw [show List.replicate k [SV.v (Value.int IntKind.u8 0)]=(List.replicate k (0:Int)).map u8L from by simp [u8L,U8]];simp only [List.length_map,List.length_replicate];have hs0:(List.replicate k (0:Int)).length=k/\∀ i,i < k->(List.replicate k (0:Int))[i]? = some 0:=⟨by simp,λi hi=>by rw [List.getElem?_replicate,if_pos hi]⟩
   generalize List.replicate k (0:Int)=ks0 at hs0;refine Yb (λz:Nat × List Int=>[(79,I z.1)]) (λz=>[(4,.row 0 1 (z.2.map u8L) 5)]) (λz=>z.1<=k/\z.2.length=k/\∀ i,i < k->z.2[i]? = some (if i < z.1 then (if gI L (i:Int)<=day then 2 else if gI E (i:Int)<=day then 1 else 0) else 0)) (λz=>k - z.1) (0,ks0) ⟨Nat.zero_le _,hs0.1,λi hi=>by rw [hs0.2 i hi,if_neg (Nat.not_lt_zero _)]⟩ ?_ ?_
   . (refine Zi ?_ ?_ ?_ rfl rfl<;>dsimp only [Zg,Zk,u8L,U8,id,go_sem]<;>simp [Zg,Zk,u8L,U8,Za])
   rintro ⟨j,ks⟩ ⟨hj,hkl,hki⟩;simp only at hj hkl hki
   (repeat first | dsimp only [go_sem] | simp only [nbr])
   by_cases hlt:j < k
   . refine Zt (by simpa using hlt) ?_
     (repeat first | dsimp only [go_sem] | simp only [nbr])
     have gL:gI L (j:Int)=L[j]:=ZaO rfl (by omega);have gE:gI E (j:Int)=E[j]:=ZaO rfl (by omega);refine Zx j (by omega) rfl ?_
     (repeat first | dsimp only [Zk,go_sem] | simp only [nbr])
     by_cases q2:L[j]<=day
     . refine Zt (by simpa using q2) ?_;have hx:(if gI L (j:Int)<=day then (2:Int) else if gI E (j:Int)<=day then 1 else 0)=2:=by rw [gL,if_pos q2]
       (repeat first | dsimp only [go_sem] | simp only [nbr])
       refine XC j rfl (by first | omega | (simp;omega)) ?_
       (repeat first | dsimp only [go_sem] | simp only [nbr])
       refine Zc2 (2:Int) (by first | omega | (simp;omega)) (by simp [u8L,U8]) (by simp [u8L,U8,Zq]) ?_
       (repeat first | dsimp only [go_sem] | simp only [nbr])
       rw [Zf (n:=(j:Int)+1) (by omega) (by omega)];refine ⟨(j+1,ks.set j 2),⟨hlt,by simp [hkl],λi hi=>?_⟩,by simp only;omega,?_⟩
       . dsimp only;have:=hki i hi;by_cases hij:i=j
         . subst hij;rw [List.getElem?_set_self (by omega),if_pos (Nat.lt_succ_self i),hx]
         . rw [List.getElem?_set_ne (by omega),this];by_cases hij2:i < j
           . rw [if_pos hij2,if_pos (c:=i < j+1) (by omega)]
           . rw [if_neg hij2,if_neg (c:=i < j+1) (by omega)]
       generalize ks.set j 2=ks2;(refine Zi ?_ ?_ ?_ rfl rfl<;>dsimp only [Zg,Zk,u8L,U8,id,go_sem]<;>simp [Zg,Zk,u8L,U8,Za])
     refine Zn (by simpa using q2) ?_
     (repeat first | dsimp only [go_sem] | simp only [nbr])
     refine Zx j (by omega) rfl ?_
     (repeat first | dsimp only [Zk,go_sem] | simp only [nbr])
     by_cases q1:E[j]<=day
     . refine Zt (by simpa using q1) ?_;have hx:(if gI L (j:Int)<=day then (2:Int) else if gI E (j:Int)<=day then 1 else 0)=1:=by rw [gL,gE,if_neg q2,if_pos q1]
       (repeat first | dsimp only [go_sem] | simp only [nbr])
       refine XC j rfl (by first | omega | (simp;omega)) ?_
       (repeat first | dsimp only [go_sem] | simp only [nbr])
       refine Zc2 (1:Int) (by first | omega | (simp;omega)) (by simp [u8L,U8]) (by simp [u8L,U8,Zq]) ?_
       (repeat first | dsimp only [go_sem] | simp only [nbr])
       rw [Zf (n:=(j:Int)+1) (by omega) (by omega)];refine ⟨(j+1,ks.set j 1),⟨hlt,by simp [hkl],λi hi=>?_⟩,by simp only;omega,?_⟩
       . dsimp only;have:=hki i hi;by_cases hij:i=j
         . subst hij;rw [List.getElem?_set_self (by omega),if_pos (Nat.lt_succ_self i),hx]
         . rw [List.getElem?_set_ne (by omega),this];by_cases hij2:i < j
           . rw [if_pos hij2,if_pos (c:=i < j+1) (by omega)]
           . rw [if_neg hij2,if_neg (c:=i < j+1) (by omega)]
       generalize ks.set j 1=ks2;(refine Zi ?_ ?_ ?_ rfl rfl<;>dsimp only [Zg,Zk,u8L,U8,id,go_sem]<;>simp [Zg,Zk,u8L,U8,Za])
     refine Zn (by simpa using q1) ?_;have hx:(if gI L (j:Int)<=day then (2:Int) else if gI E (j:Int)<=day then 1 else 0)=0:=by rw [gL,gE,if_neg q2,if_neg q1]
     (repeat first | dsimp only [go_sem] | simp only [nbr])
     rw [Zf (n:=(j:Int)+1) (by omega) (by omega)];refine ⟨(j+1,ks),⟨hlt,hkl,λi hi=>?_⟩,by simp only;omega,?_⟩
     . dsimp only;have:=hki i hi;by_cases hij:i=j
       . subst hij;rw [this,if_neg (Nat.lt_irrefl i),if_pos (Nat.lt_succ_self i),hx]
       . rw [this];by_cases hij2:i < j
         . rw [if_pos hij2,if_pos (c:=i < j+1) (by omega)]
         . rw [if_neg hij2,if_neg (c:=i < j+1) (by omega)]
     (refine Zi ?_ ?_ ?_ rfl rfl<;>dsimp only [Zg,Zk,u8L,U8,id,go_sem]<;>simp [Zg,Zk,u8L,U8,Za])
   refine Zn (by simp;omega) ?_
   (repeat first | dsimp only [go_sem] | simp only [nbr])
   have hjk:j=k:=by omega
   subst hjk;have hks:ks=Uj j first meets wait day:=by
    apply List.ext_getElem?;intro i;unfold Uj;rw [Int.toNat_natCast,List.getElem?_map];by_cases hi:i < j
    . rw [hki i hi,if_pos hi,heq i hi,List.getElem?_range hi];rfl
    . rw [List.getElem?_eq_none (by omega),List.getElem?_eq_none (by simp;omega)];rfl
   rw [hks];simp [rowsK,hE0]
 . (repeat first | dsimp only [go_sem] | simp only [nbr])
   refine gh (ZnA 15 3 0 _ rfl rfl rfl rfl (by simpa using hle)) ?_;rw [<- List.map_take,htk];clear htk hle;generalize hfl0:l.filter (·.close)=fl at *
   (repeat first | dsimp only [go_sem] | simp only [nbr])
   refine call (U3 k first fl wait.hi day c1 false (by omega) (by omega) hf (λm h=>hml m (by rw [<- hfl0] at h;exact (List.mem_filter.1 h).1)) (by omega) hl1 (by rw [<- hfl0];exact Nat.le_trans (List.length_filter_le _ _) (by omega))) ?_
   (repeat first | dsimp only [go_sem] | simp only [nbr])
   have hlenE:(ZQ wait.lo day l (YJ first (List.replicate k 100061))).length=k:=by rw [XA,Xq];simp
   have hlenL:(ZQ wait.hi day fl (YJ first (List.replicate k 100061))).length=k:=by rw [XA,Xq];simp
   have heq:∀ i:Nat,i < k->(if gI (ZQ wait.hi day fl (YJ first (List.replicate k 100061))) (i:Int)<=day then 2 else if gI (ZQ wait.lo day l (YJ first (List.replicate k 100061))) (i:Int)<=day then 1 else 0)=knF day (gI (sickF k first (act false meets) wait.lo) i) (gI (sickF k first (act true meets) wait.hi) i):=λi hi=>by
    have:=Zev (meets:=meets) (l:=l) ⟨hw.1,hw.2.1⟩ hd hf hm hpl.perm hso (Wh hf (λm h=>hm m h.1) (by omega)) (Wh hf (λm h=>hm m h.1) (by omega)) hi;rw [hfl0] at this;exact this
   generalize ZQ wait.lo day l (YJ first (List.replicate k 100061))=E at hlenE heq;generalize ZQ wait.hi day fl (YJ first (List.replicate k 100061))=L at hlenL heq;refine ⟨k,rfl,by omega,?_⟩
   (repeat first | dsimp only [go_sem] | simp only [nbr])
   rw [show List.replicate k [SV.v (Value.int IntKind.u8 0)]=(List.replicate k (0:Int)).map u8L from by simp [u8L,U8]];simp only [List.length_map,List.length_replicate];have hs0:(List.replicate k (0:Int)).length=k/\∀ i,i < k->(List.replicate k (0:Int))[i]? = some 0:=⟨by simp,λi hi=>by rw [List.getElem?_replicate,if_pos hi]⟩
   generalize List.replicate k (0:Int)=ks0 at hs0;refine Yb (λz:Nat × List Int=>[(79,I z.1)]) (λz=>[(4,.row 0 1 (z.2.map u8L) 5)]) (λz=>z.1<=k/\z.2.length=k/\∀ i,i < k->z.2[i]? = some (if i < z.1 then (if gI L (i:Int)<=day then 2 else if gI E (i:Int)<=day then 1 else 0) else 0)) (λz=>k - z.1) (0,ks0) ⟨Nat.zero_le _,hs0.1,λi hi=>by rw [hs0.2 i hi,if_neg (Nat.not_lt_zero _)]⟩ ?_ ?_
   . (refine Zi ?_ ?_ ?_ rfl rfl<;>dsimp only [Zg,Zk,u8L,U8,id,go_sem]<;>simp [Zg,Zk,u8L,U8,Za])
   rintro ⟨j,ks⟩ ⟨hj,hkl,hki⟩;simp only at hj hkl hki
   (repeat first | dsimp only [go_sem] | simp only [nbr])
   by_cases hlt:j < k
   . refine Zt (by simpa using hlt) ?_
     (repeat first | dsimp only [go_sem] | simp only [nbr])
     have gL:gI L (j:Int)=L[j]:=ZaO rfl (by omega);have gE:gI E (j:Int)=E[j]:=ZaO rfl (by omega);refine Zx j (by omega) rfl ?_
     (repeat first | dsimp only [Zk,go_sem] | simp only [nbr])
     by_cases q2:L[j]<=day
     . refine Zt (by simpa using q2) ?_;have hx:(if gI L (j:Int)<=day then (2:Int) else if gI E (j:Int)<=day then 1 else 0)=2:=by rw [gL,if_pos q2]
       (repeat first | dsimp only [go_sem] | simp only [nbr])
       refine XC j rfl (by first | omega | (simp;omega)) ?_
       (repeat first | dsimp only [go_sem] | simp only [nbr])
       refine Zc2 (2:Int) (by first | omega | (simp;omega)) (by simp [u8L,U8]) (by simp [u8L,U8,Zq]) ?_
       (repeat first | dsimp only [go_sem] | simp only [nbr])
       rw [Zf (n:=(j:Int)+1) (by omega) (by omega)];refine ⟨(j+1,ks.set j 2),⟨hlt,by simp [hkl],λi hi=>?_⟩,by simp only;omega,?_⟩
       . dsimp only;have:=hki i hi;by_cases hij:i=j
         . subst hij;rw [List.getElem?_set_self (by omega),if_pos (Nat.lt_succ_self i),hx]
         . rw [List.getElem?_set_ne (by omega),this];by_cases hij2:i < j
           . rw [if_pos hij2,if_pos (c:=i < j+1) (by omega)]
           . rw [if_neg hij2,if_neg (c:=i < j+1) (by omega)]
       generalize ks.set j 2=ks2;(refine Zi ?_ ?_ ?_ rfl rfl<;>dsimp only [Zg,Zk,u8L,U8,id,go_sem]<;>simp [Zg,Zk,u8L,U8,Za])
     refine Zn (by simpa using q2) ?_
     (repeat first | dsimp only [go_sem] | simp only [nbr])
     refine Zx j (by omega) rfl ?_
     (repeat first | dsimp only [Zk,go_sem] | simp only [nbr])
     by_cases q1:E[j]<=day
     . refine Zt (by simpa using q1) ?_;have hx:(if gI L (j:Int)<=day then (2:Int) else if gI E (j:Int)<=day then 1 else 0)=1:=by rw [gL,gE,if_neg q2,if_pos q1]
       (repeat first | dsimp only [go_sem] | simp only [nbr])
       refine XC j rfl (by first | omega | (simp;omega)) ?_
       (repeat first | dsimp only [go_sem] | simp only [nbr])
       refine Zc2 (1:Int) (by first | omega | (simp;omega)) (by simp [u8L,U8]) (by simp [u8L,U8,Zq]) ?_
       (repeat first | dsimp only [go_sem] | simp only [nbr])
       rw [Zf (n:=(j:Int)+1) (by omega) (by omega)];refine ⟨(j+1,ks.set j 1),⟨hlt,by simp [hkl],λi hi=>?_⟩,by simp only;omega,?_⟩
       . dsimp only;have:=hki i hi;by_cases hij:i=j
         . subst hij;rw [List.getElem?_set_self (by omega),if_pos (Nat.lt_succ_self i),hx]
         . rw [List.getElem?_set_ne (by omega),this];by_cases hij2:i < j
           . rw [if_pos hij2,if_pos (c:=i < j+1) (by omega)]
           . rw [if_neg hij2,if_neg (c:=i < j+1) (by omega)]
       generalize ks.set j 1=ks2;(refine Zi ?_ ?_ ?_ rfl rfl<;>dsimp only [Zg,Zk,u8L,U8,id,go_sem]<;>simp [Zg,Zk,u8L,U8,Za])
     refine Zn (by simpa using q1) ?_;have hx:(if gI L (j:Int)<=day then (2:Int) else if gI E (j:Int)<=day then 1 else 0)=0:=by rw [gL,gE,if_neg q2,if_neg q1]
     (repeat first | dsimp only [go_sem] | simp only [nbr])
     rw [Zf (n:=(j:Int)+1) (by omega) (by omega)];refine ⟨(j+1,ks),⟨hlt,hkl,λi hi=>?_⟩,by simp only;omega,?_⟩
     . dsimp only;have:=hki i hi;by_cases hij:i=j
       . subst hij;rw [this,if_neg (Nat.lt_irrefl i),if_pos (Nat.lt_succ_self i),hx]
       . rw [this];by_cases hij2:i < j
         . rw [if_pos hij2,if_pos (c:=i < j+1) (by omega)]
         . rw [if_neg hij2,if_neg (c:=i < j+1) (by omega)]
     (refine Zi ?_ ?_ ?_ rfl rfl<;>dsimp only [Zg,Zk,u8L,U8,id,go_sem]<;>simp [Zg,Zk,u8L,U8,Za])
   refine Zn (by simp;omega) ?_
   (repeat first | dsimp only [go_sem] | simp only [nbr])
   have hjk:j=k:=by omega
   subst hjk;have hks:ks=Uj j first meets wait day:=by
    apply List.ext_getElem?;intro i;unfold Uj;rw [Int.toNat_natCast,List.getElem?_map];by_cases hi:i < j
    . rw [hki i hi,if_pos hi,heq i hi,List.getElem?_range hi];rfl
    . rw [List.getElem?_eq_none (by omega),List.getElem?_eq_none (by simp;omega)];rfl
   rw [hks];simp [rowsK,hE0]
end Go.Proofs.YtkpkgafhfakpdaaGreatDoor.Cm
namespace Go.Sx
open Go
def byS (ns:List Int):ByteArray:=ns.foldl (λr n=>r.push (UInt8.ofNat n.toNat)) ByteArray.empty
theorem Zhx {w:World} {E:Env} {n ok:Nat->Prop}:∀ {l ys:List Value},RL w E n ok (l.map SV.v) ys->ys=l
 | [],ys,h=>by simpa [RL] using h
 | x :: l,ys,h=>by
  simp only [List.map_cons,RL] at h;obtain ⟨y,r,rfl,h1,h2⟩:=h;simp only [R] at h1;rw [h1,Zhx h2]
theorem ZzY {α β : Type} (f:α->β):∀ l:List α,(l.map λn=>[f n]).flatten=l.map f
 | []=>rfl
 | x :: l=>by simp only [List.map_cons,List.flatten_cons,ZzY f l];rfl
theorem ZwA {P:Program} {d:Option Nat} {u src dst ty e:Nat} {ns:List Int} {s:SV} {σ : St} {r:KT} {K:RK} (hl:lk u σ.fr=s) (hng:∀ j b u,s≠.gd j b u) (hs:Zde 1 s=some (ns.map λn=>[SV.v (.int .u8 n)]))
 (hsrc:P.underlying src=some (.slice e)) (hdst:P.underlying dst=some .string) (he:P.underlying e=some (.int .u8)) (hk:Yo d (.v (.string (byS ns))) none σ r K):RAW P d (.convert src dst (.tmp u)) ty σ r K:=by
 intro o C E a w next Q h1 h2 h3 hS hn hq;have hR:=ZqQ (hS.fr u) (λj b u' e=>hng j b u' (hl ▸ e));rw [hl] at hR;obtain ⟨cs,⟨ad,cap,y0,y1,y2,y3⟩,hcs,_⟩:=X1 hR hs;have hflat:(ns.map λn=>[SV.v (.int .u8 n)]).flatten=(ns.map (Value.int .u8)).map SV.v:=by rw [ZzY (λn=>SV.v (.int .u8 n)),List.map_map];rfl
 rw [hflat] at hcs;have hcs:=Zhx hcs;subst hcs;have hrun:(convert src dst (a.tmps.getD u undef)).run P w = .ok (.string (byS ns)) w:=by
  rw [y0,run_convert_bytes_string w src dst e ad _ cap hsrc he hdst];cases ad with
  | none =>
   have:ns=[]:=by
    rcases y3 with h | ⟨b,off,h,_⟩
    . simpa using h
    . cases h
   subst this;simp [Conv.bytesToString,Sem.run_pure,byS]
  | some ad =>
   refine run_bytesToString w ad _ cap ns ?_;rcases y3 with h | ⟨b,off,h,hc⟩
   . have:ns=[]:=by simpa using h
     subst this;simp [loadCells,loadCellsFrom,Sem.run_pure]
   . cases h
     have hlen:(ns.map λn=>[SV.v (.int .u8 n)]).length=(ns.map (Value.int .u8)).length:=by simp
     rw [hlen];exact run_loadCells_list w _ _ (λj v hv=>by rw [Yz];exact hc j v hv)
 have hx:(execOp a.eval o).run P w = .ok (.value (.string (byS ns))) w:=by
  obtain ⟨dst',op',ty',pos,after,guard⟩:=o;simp only at h2;subst h2;simp only [Array.getD_eq_getD_getElem?] at hrun;simp only [execOp,Act.eval];simp [Sem.run_bind,hrun]
 refine Zz hx (by simp) ?_;show next (a.put o.dst _) w;rcases Wx hk with ⟨g1,g2⟩ | ⟨t,g1,g2,g3,g4,g5⟩
 . rw [h1,g1];exact hn _ E _ _ g2 hS
 . rw [h1,g1];exact hn _ E _ _ g5 (YT hS (λb hb _=>⟨hb,rfl⟩) (λ_ _=>Ele.rfl) (Nat.le_refl _) hS.hs g2 g3 (λj b u e=>by rw [e] at g4;cases g4) (by simp only [R]))
theorem ZnJ {P:Program} {d:Option Nat} {u t t' ty:Nat} {op:BinOp} {q:Bool} {x y:ByteArray} {σ : St} {r:KT} {K:RK} (hu:lk u σ.fr = .v (.string x)) (hq0:(op = .eql/\q=(x.toList == y.toList))\/(op = .neq/\q = !(x.toList == y.toList)))
 (hk:Yo d (.v (.bool q)) none σ r K):RAW P d (.binOp op t (.tmp u) (.const (.string y)) t') ty σ r K:=by
 intro o C E a w next Q h1 h2 h3 hS hn hq;have hx:a.eval (.tmp u) = .string x:=by
  have:=hS.fr u;rw [hu] at this;simp only [FR,R] at this;exact this
 have hrun:(execOp a.eval o).run P w =   .ok (.value (.bool q)) w:=by
  obtain ⟨dst',op',ty',pos,after,guard⟩:=o;simp only at h2;subst h2;have hc:a.eval (.const (.string y)) = .string y:=rfl;simp only [execOp,hx,hc];rcases hq0 with ⟨rfl,rfl⟩ | ⟨rfl,rfl⟩<;>simp [Sem.run_bind,eqGuard,binOp,Op.stringOp,Sem.run_pure]
 refine Zz hrun (by simp) ?_;show next (a.put o.dst _) w;rcases Wx hk with ⟨g1,g2⟩ | ⟨t,g1,g2,g3,g4,g5⟩
 . rw [h1,g1];exact hn _ E _ _ g2 hS
 . rw [h1,g1];exact hn _ E _ _ g5 (YT hS (λb hb _=>⟨hb,rfl⟩) (λ_ _=>Ele.rfl) (Nat.le_refl _) hS.hs g2 g3 (λj b u e=>by rw [e] at g4;cases g4) (by simp only [R]))
end Go.Sx
namespace Go.Azalai
def Vi:List Meet:=[⟨0,1,5,true⟩]
theorem Zdn:Least 2 [0] (act false Vi) 3 [0,8]:=by
 refine Sk.least ⟨rfl,λi h0 h1=>?_,λi hi=>?_,λi h0 h1=>?_⟩ (λm hm=>?_) (λm hm=>?_)
 . have e1:Inf [0] (act false Vi) 3 0 0:=.base (by simp);have e2:Inf [0] (act false Vi) 3 1 (5+3):=.l (m:=⟨0,1,5,true⟩) ⟨by simp [Vi],λh=>by cases h⟩ e1 (by decide);have:i=0\/i=1:=by omega
   rcases this with rfl | rfl
   . exact .inr e1
   . exact .inr e2
 . simp at hi;subst hi;decide
 . have:i=0\/i=1:=by omega
   rcases this with rfl | rfl<;>decide
 . have:=hm.1;simp [Vi] at this;subst this;unfold okM;simp
 . have:=hm.1;simp [Vi] at this;subst this;decide
theorem Zgb:Least 2 [0] (act true Vi) 4 [0,9]:=by
 refine Sk.least ⟨rfl,λi h0 h1=>?_,λi hi=>?_,λi h0 h1=>?_⟩ (λm hm=>?_) (λm hm=>?_)
 . have e1:Inf [0] (act true Vi) 4 0 0:=.base (by simp);have e2:Inf [0] (act true Vi) 4 1 (5+4):=.l (m:=⟨0,1,5,true⟩) ⟨by simp [Vi],λh=>rfl⟩ e1 (by decide);have:i=0\/i=1:=by omega
   rcases this with rfl | rfl
   . exact .inr e1
   . exact .inr e2
 . simp at hi;subst hi;decide
 . have:i=0\/i=1:=by omega
   rcases this with rfl | rfl<;>decide
 . have:=hm.1;simp [Vi] at this;subst this;unfold okM;simp
 . have:=hm.1;simp [Vi] at this;subst this;decide
theorem ZxL:Uj 2 [0] Vi ⟨3,4⟩ 9=[2,2]:=by
 unfold Uj;rw [show (2:Int).toNat=2 from rfl,Zdn.sickF,Zgb.sickF];rfl
end Go.Azalai
namespace Go.Proofs.YtkpkgafhfakpdaaGreatDoor
open Go Go.Sx Go.Azalai
theorem ZkQ {w:World} {E:Env} {n ok:Nat->Prop} {b m:Nat}:∀ {xs ys:List (List SV)} (_:F2 (λr r'=>r'.length=r.length/\∀ (w:World) (E:Env) (n ok:Nat->Prop) (cs:List Value),RL w E n ok r cs->RL w E n ok r' cs) xs ys) (off:Nat),RR w E n ok b m xs off->RR w E n ok b m ys off
 | _,_,.nil,_,h=>h
 | _,_,.cons h1 h2,off,h=>by
  simp only [RR] at h ⊢;obtain ⟨g1,⟨cs,g2,g3⟩,g4⟩:=h;exact ⟨h1.1.trans g1,⟨cs,h1.2 _ _ _ _ _ g2,g3⟩,ZkQ h2 _ g4⟩
theorem Zru {α : Type} {p:α->α->Prop}:∀ {xs ys:List α},F2 p xs ys->xs.length=ys.length
 | _,_,.nil=>rfl
 | _,_,.cons _ h=>by simp [Zru h]
theorem Zcr {c:Bool} {m:Nat} {xs ys:List (List SV)} (h:F2 (λr r'=>r'.length=r.length/\∀ (w:World) (E:Env) (n ok:Nat->Prop) (cs:List Value),RL w E n ok r cs->RL w E n ok r' cs) xs ys):ZfS (.sl c m xs) (.sl c m ys):=by
 intro w E n ok y hy;simp only [R] at hy ⊢;obtain ⟨a,len,cap,h1,h2,h3,h4,h5⟩:=hy;have hl:=Zru h;refine ⟨a,len,cap,h1,h2.trans hl,h3,hl ▸ h4,?_⟩;rcases h5 with h5 | ⟨b,off,h5,h6⟩
 . subst h5;cases h
   exact .inl rfl
 . exact .inr ⟨b,off,h5,ZkQ h _ h6⟩
theorem Zjh:Ct Tryz.prog 164 [] (.sl true 5 (Wq.map anL)):=by
 have h:Ct Tryz.prog 164 [] (.sl true 5 [[I 1,I (-1),I 0,I 0,.v (.slice none 0 0)],[I 2,I 1,I 1400,I 2000,.v (.slice none 0 0)],[I 3,I 2,I 3000,I 4000,.v (.slice none 0 0)],[I 9,I (-1),I 0,I 0,.v (.slice none 0 0)]]):=by
  refine t164.1 (by simp) (by simp [KFR]) ?_;dsimp only [c164,r164,go_sem];refine call (Yu _ _) ?_;dsimp only [go_sem];refine call (Yu _ _) ?_;dsimp only [go_sem]
 refine Ct.res h (by simp [Za,anL,KFR]) (Zcr ?_);exact .cons ⟨rfl,Zci ⟨1,-1,⟨0,0⟩⟩⟩ (.cons ⟨rfl,Zci ⟨2,1,⟨1400,2000⟩⟩⟩ (.cons ⟨rfl,Zci ⟨3,2,⟨3000,4000⟩⟩⟩ (.cons ⟨rfl,Zci ⟨9,-1,⟨0,0⟩⟩⟩ .nil)))
theorem ZyR:Wo 2 [0] Vi ⟨3,4⟩ 9=0:=by kernel_rfl
theorem eRowT:Cm.rowsK 0 [2,2] = .sl false 1 ([2,2].map Cm.u8L):=rfl
theorem Zdu:Ct Tryz.prog 104 [] (B true):=by
 refine t104.1 (by simp) (by simp) ?_;dsimp only [c104,r104,go_sem];refine call Zjh ?_;dsimp only [go_sem];refine call Zzd ?_;dsimp only [go_sem];refine call (Yu _ _) ?_;dsimp only [go_sem];refine call (Cm.mange_ok 2 [0] Vi ⟨3,4⟩ 9 true true (by decide) (by decide)) ?_;rw [ZxL,ZyR,eRowT];dsimp only [go_sem];iterate 7 (refine ZO rfl ?_;dsimp only [go_sem])
 refine ZO rfl ?_;dsimp only [go_sem];refine ZwA (e:=5) (ns:=[2,2]) rfl (λ_ _ _ e=>by cases e) rfl (by kernel_rfl) (by kernel_rfl) (by kernel_rfl) ?_;dsimp only [go_sem];refine ZO rfl ?_;dsimp only [go_sem];refine ZnJ (q:=true) rfl (.inl ⟨rfl,by decide +kernel⟩) ?_;dsimp only [go_sem];rfl
end Go.Proofs.YtkpkgafhfakpdaaGreatDoor
namespace Go.Azalai
def XS (s:Span):Breed:=⟨1000,1000,Zy,Zy,Zy,Zy,Zy,Zy,0,s⟩
def XY (w f:Span):Camel:=⟨w,f,Zy,false⟩
def ZaP:Land:=⟨[⟨0,0,0,⟨10,20⟩,1000,⟨500,900⟩,0⟩],[]⟩
def Vy:List Pack:=[⟨2,⟨30,30⟩,Zy,Zy,Zy,0,0⟩,⟨3,⟨30,30⟩,Zy,Zy,⟨1,2⟩,0,0⟩]
def Zcg:Tied:=⟨[0],[1],[]⟩
end Go.Azalai
namespace Go.Proofs.YtkpkgafhfakpdaaGreatDoor
open Go Go.Sx Go.Azalai
theorem YE {s:SV}:ZfS s s:=λ_ _ _ _ _ h=>h
theorem Zer {l l':List SV} (h:∀ (w:World) (E:Env) (n ok:Nat->Prop) (ys:List Value),RL w E n ok l ys->RL w E n ok l' ys):ZfS (.agg l) (.agg l'):=λw E n ok y hy=>by
 simp only [R] at hy ⊢;obtain ⟨cs,h1,h2⟩:=hy;exact ⟨cs,h1,h _ _ _ _ _ h2⟩
theorem Zik:Ct Tryz.prog 103 [] (.agg (VV ZaP)):=by
 have h:Ct Tryz.prog 103 [] (.agg [.sl true 9 (ZaP.wells.map Yp),.v (.slice none 0 0)]):=by
  refine t103.1 (by simp) (by simp [Za,Yp]) ?_;dsimp only [c103,r103,go_sem];refine call (Yu _ _) ?_;dsimp only [go_sem];refine call (Yu _ _) ?_;dsimp only [go_sem];rfl
 exact Ct.res h (by simp [VV,Za,Yp,W4,YU]) (Zer (ZD ZeV (ZD Wc UV)))
theorem Zu0:VY (XS Zy) [XY ⟨600,700⟩ ⟨5,5⟩]=(⟨300,400⟩,0):=by decide +kernel
theorem Zxr:((Vf (XS Zy) (XY ⟨600,700⟩ ⟨5,5⟩) ⟨0,0,Zy,Zy,⟨400,400⟩⟩).1.water,(Vf (XS Zy) (XY ⟨600,700⟩ ⟨5,5⟩) ⟨0,0,Zy,Zy,⟨400,400⟩⟩).2.2)=(⟨1000,1000⟩,0):=by decide +kernel
theorem Zt9:Uv ZaP 0 [⟨0,0,400⟩] 1=(⟨110,520⟩,0,0):=by decide +kernel
theorem Zdv:Zmv ZaP:=⟨by decide,by decide,by decide⟩
theorem ZdZ:Ct Tryz.prog 41 [] (B true):=by
 refine t41.1 (by simp) (by simp) ?_;dsimp only [c41,r41,go_sem];refine call (Yu _ _) ?_;dsimp only [go_sem];refine call (Yu _ _) ?_;dsimp only [go_sem];refine call (Cm.thirst_ok (XS Zy) [XY ⟨600,700⟩ ⟨5,5⟩] (by decide) true) ?_;rw [Zu0];dsimp only [Cm.tres,Zh,go_sem];refine call (Yu _ _) ?_;dsimp only [go_sem];refine call (Cm.after1_ok (XS Zy) (XY ⟨600,700⟩ ⟨5,5⟩) ⟨0,0,Zy,Zy,⟨400,400⟩⟩) ?_;have e:=Zxr
 generalize Vf (XS Zy) (XY ⟨600,700⟩ ⟨5,5⟩) ⟨0,0,Zy,Zy,⟨400,400⟩⟩=r at e ⊢;injection e with e1 e2
 dsimp only [Cm.camelL,Cm.U8,go_sem];rw [e1,e2];refine call Zik ?_;dsimp only [go_sem];refine call (Ct.args (ZlH ZaP Zdv 0 1 [⟨0,0,400⟩] (by decide)) (by simp [VV,Za,KFR,Yp,W4,YU]) (ZD YE (ZD YE (ZD ZeV (ZD YE UV))))) ?_;rw [Zt9];dsimp only [Ztt,Zh,go_sem];refine call Zdu ?_;dsimp only [go_sem];repeat (first | (refine ZO rfl ?_;dsimp only [go_sem]) | (refine call (Yu _ _) ?_;dsimp only [go_sem]))
 rfl
theorem carT:CarB Vy Zcg:=⟨by decide,by decide,by decide⟩
theorem carT2:CarB (Vy.map (Zf8 2)) Zcg:=⟨by decide,by decide,by decide⟩
theorem ZtM:ZaQ (Zel (XS ⟨100,120⟩) (XY ⟨1000,1000⟩ ⟨1000,1000⟩)) Vy Zcg 4=2:=by decide +kernel
theorem ZvF:ZaQ (Zel (XS ⟨100,120⟩) (XY ⟨1000,1000⟩ ⟨1000,1000⟩)) (Vy.map (Zf8 2)) Zcg 4=2:=by decide +kernel
theorem ZyH:ZaF (XS ⟨100,120⟩) (XY ⟨1000,1000⟩ ⟨1000,1000⟩) [⟨1,0,Zy,Zy,Zy⟩]=(100,0):=by decide +kernel
theorem errT:Zau (XS ⟨100,120⟩) (XY ⟨1000,1000⟩ ⟨1000,1000⟩)=0:=by decide
theorem Zc7 {w:World} {E:Env} {n ok:Nat->Prop} {ys:List Value} (h:RL w E n ok [.sl true 1 [[I 0]],.sl true 1 [[I 1]],.v (.slice none 0 0)] ys):RL w E n ok (ZY Zcg) ys :=
 ZD ZeV (ZD ZeV (ZD Wc UV)) _ _ _ _ _ h
theorem ZdB:Ct Tryz.prog 7 [] (B true):=by
 refine t7.1 (by simp) (by simp) ?_;dsimp only [c7,r7,go_sem];iterate 6 (refine call (Yu _ _) ?_;dsimp only [go_sem])
 have hrea:∀ (l:List Pack) (c:Bool),CarB l Zcg->Ct Tryz.prog 12 [.agg (Cm.breedL (XS ⟨100,120⟩)),.agg (Cm.camelL (XY ⟨1000,1000⟩ ⟨1000,1000⟩)),.sl c 11 (l.map Zo),.agg [.sl true 1 [[I 0]],.sl true 1 [[I 1]],.v (.slice none 0 0)],I 4] (.tup [U8 (ZaQ (Zel (XS ⟨100,120⟩) (XY ⟨1000,1000⟩ ⟨1000,1000⟩)) l Zcg 4),I 0]):=λl c h =>
  Ct.args (ZhA _ _ l Zcg 4 c h errT (by decide)) (by simp [Za,KFR,Zo,Cm.breedL,Cm.camelL,KFL,KF]) (ZD YE (ZD YE (ZD YE (ZD (Zer λ_ _ _ _ _=>Zc7) (ZD YE UV)))))
 refine call (hrea Vy true carT) ?_;rw [ZtM];dsimp only [go_sem];have hjol:Ct Tryz.prog 40 [.sl true 11 (Vy.map Zo),.sl true 3 [[.sl true 1 [[I 0]],.sl true 1 [[I 1]],.v (.slice none 0 0)]],.v (.slice none 0 0),I 2] (.tup [.sl false 11 ((Vy.map (Zf8 2)).map Zo),I 0]) :=
  Ct.args (Zfl Vy Zcg 2 true carT (by decide) (by decide)) (by simp [Za,KFR,Zo]) (ZD YE (ZD (Zcr (.cons ⟨rfl,λ_ _ _ _ _=>Zc7⟩ .nil)) (ZD Wc (ZD YE UV))))
 refine call hjol ?_;dsimp only [go_sem];refine call (hrea (Vy.map (Zf8 2)) false carT2) ?_;rw [ZvF];dsimp only [go_sem];refine call (Cm.heavy_ok (XS ⟨100,120⟩) (XY ⟨1000,1000⟩ ⟨1000,1000⟩) [⟨1,0,Zy,Zy,Zy⟩] true (by decide)) ?_;rw [ZyH];dsimp only [go_sem];refine call ZdZ ?_;dsimp only [go_sem];repeat (refine ZO rfl ?_;dsimp only [go_sem])
 rfl
theorem ZdO (x:Offer) (f g:Fare) (c d e:Bool) (hx:Wk x=true) (hf:Xd f=true) (hg:Xd g=true) (h:f.day<=g.day) :
 CtM Tryz.prog 69 [] 0 [.sl c 8 [Zm x],.sl d 3 [Zu e f,Zu e g]] (λo=>o=⟨false,.tup [.agg [.p 2 0,.sl d 3 [Zu e f,Zu e g]],I 0],Z7 1 c [x] (Yg x) 1,3⟩):=by
 have hff:=hf;have hgg:=hg;simp only [Xd,inR,Bool.and_eq_true,decide_eq_true_eq] at hff hgg;have kf:KFL (Zu e f):=by simp [Zu,KFL,KF,Za,Zh]
 have kg:KFL (Zu e g):=by simp [Zu,KFL,KF,Za,Zh]
 refine m69 (by simp [hpb]) (λo ho=>by subst ho;simp [Z7,mpS,Yg,Zm,Zk,KX,KXL,KXP,KXH,KFL,KF,KFR,kf,kg]) ?_;dsimp only [c69,r69,go_sem];refine Zl [] (Zir x c hx) rfl rfl rfl ?_ ?_ ?_
 . (repeat first | dsimp only [go_sem] | simp only [nbr])
   try simp [mtL,mtB,mtS,KFR,Zm,KFL,KF]
 . trivial
 rintro _ rfl
 (repeat first | dsimp only [Z7,Yg,go_sem] | simp only [nbr])
 refine Zn rfl ?_;dsimp only [go_sem];refine call (Ur _ _ _) ?_;dsimp only [go_sem];rw [show inR 1 5 ((2:Nat):Int)=true from by decide];refine ZO rfl ?_;dsimp only [go_sem];refine ZO rfl ?_;dsimp only [go_sem];refine call (Zbr [f,g] (by simp) d e (by simp;omega)) ?_;rw [show [f,g].all Xd=true from by simp [hf,hg]];dsimp only [go_sem];repeat (refine ZO rfl ?_;dsimp only [go_sem])
 refine call (Zbo f g d e (by omega) (by omega) h) ?_;dsimp only [go_sem];repeat (refine ZO rfl ?_;dsimp only [go_sem])
 refine Zn rfl ?_;dsimp only [go_sem];refine ⟨_,rfl,?_⟩;(refine Zp ?_ ?_ ?_ rfl<;>dsimp only [Z7,mpS,Yg,Zm,Zk,kf,kg,id,go_sem]<;>simp [Z7,mpS,Yg,Zm,Zk,kf,kg,Za])
theorem Xw (x:Offer) (f g:Fare) (c d e:Bool) (i:Nat) (hf:f.place=x.place) (hg:g.place=x.place) (h0:inR x.since x.until_ f.day=true) (h1:inR x.since x.until_ g.day=true) (hi:i=0\/i=1) :
 CtM Tryz.prog 73 (Z7 0 c [x] (Yg x) 1) 2 [.agg [.p 1 0,.sl d 3 [Zu e f,Zu e g]],I i] (λo=>o=⟨false,.sl false 1 [[I 0]],Z7 0 c [x] (Yg x) 1,2⟩):=by
 have kf:KFL (Zu e f):=by simp [Zu,KFL,KF,Za,Zh]
 have kg:KFL (Zu e g):=by simp [Zu,KFL,KF,Za,Zh]
 refine m73 (by simp [hpb,Z7]) (λo ho=>by subst ho;simp [Z7,Yg,Zm,mpS,Zk,KX,KXL,KXP,KXH,KFL,KF,KFR]) ?_;dsimp only [c73,r73,Z7,go_sem];rcases hi with rfl | rfl
 . refine ixs 0 _ rfl rfl ?_;dsimp only [Zu,go_sem];refine ixs 0 _ rfl rfl ?_;dsimp only [Zu,go_sem];rw [hf];refine Zl [0,1] (ZiB x f.day c h0) rfl rfl rfl ?_ ?_ ?_
   . (repeat first | dsimp only [Z7,go_sem] | simp only [nbr])
     try simp [mtL,mtB,mtS]
   . (repeat first | dsimp only [Z7,Yg,go_sem] | simp only [nbr])
     try simp [mtL,mtB,mtS,mpS,Zk,Zm,KFL,KF,KFR]
   rintro _ rfl
   (repeat first | dsimp only [Z7,Yg,go_sem] | simp only [nbr])
   refine ⟨_,rfl,?_⟩;(refine Zp ?_ ?_ ?_ rfl<;>dsimp only [Z7,Yg,mpS,Zm,Zk,kf,kg,id,go_sem]<;>simp [Z7,Yg,mpS,Zm,Zk,kf,kg,Za])
 . refine ixs 1 _ rfl rfl ?_;dsimp only [Zu,go_sem];refine ixs 1 _ rfl rfl ?_;dsimp only [Zu,go_sem];rw [hg];refine Zl [0,1] (ZiB x g.day c h1) rfl rfl rfl ?_ ?_ ?_
   . (repeat first | dsimp only [Z7,go_sem] | simp only [nbr])
     try simp [mtL,mtB,mtS]
   . (repeat first | dsimp only [Z7,Yg,go_sem] | simp only [nbr])
     try simp [mtL,mtB,mtS,mpS,Zk,Zm,KFL,KF,KFR]
   rintro _ rfl
   (repeat first | dsimp only [Z7,Yg,go_sem] | simp only [nbr])
   refine ⟨_,rfl,?_⟩;(refine Zp ?_ ?_ ?_ rfl<;>dsimp only [Z7,Yg,mpS,Zm,Zk,kf,kg,id,go_sem]<;>simp [Z7,Yg,mpS,Zm,Zk,kf,kg,Za])
theorem ZcR:Ct Tryz.prog 64 [] (.sl true 3 [Zu true ⟨1,3,Azalai.keepF ⟨900,950⟩⟩,Zu true ⟨1,5,Azalai.keepF ⟨900,950⟩⟩]):=by
 refine t64.1 (by simp) (by simp [Zu,Azalai.keepF,Zy,Zh,KFR,KFL,KF]) ?_;dsimp only [c64,r64,go_sem];refine call (Yu _ _) ?_;dsimp only [go_sem];rfl
def c86:SC:=(sr1 [o1 2 (.mv (.c (.slice none 0 0)))] (.seq (sr1 [m1 3 0,o1 4 (.raw (Go.Op.binOp Go.BinOp.eql 29 (Go.Operand.tmp 3) (Go.Operand.const (Go.Value.slice Option.none 0 0)) 29) 4)] (Ji 4 (sr1 [o1 2 (.mv (.c (.slice none 0 0)))] .ret) .skip))
 (sr1 [o1 5 (.bsl 1 3 []),m1 6 0,o1 7 (.raw (Go.Op.call { callee:=(Go.Callee.builtin Go.Builtin.append),args:=#[(Go.Operand.tmp 5),(Go.Operand.tmp 6)],argTypes:=#[29,29] }) 29),m1 2 7] .ret)))
def r86:List RV:=[.tmp 2]
theorem n86:Tryz.f86.ntmps=8:=by kernel_rfl
theorem b86:ZV Tryz.prog 86=true:=by kernel_rfl
theorem Zyl:YA Tryz.prog c86 ((Tryz.f86.body).getD .skip)=true:=by kernel_rfl
theorem Zy3:YQ Tryz.prog r86 Tryz.f86.results.toList=true:=by kernel_rfl
theorem m86 {n0:Nat} {hp0:List (Nat × HB)} {args:List SV} {Zw:Ot->Prop} (hh:hpb n0 hp0) (hx:∀ o,Zw o->KX o.res/\KXP o.hp) (h:sx Tryz.prog Y0 n0 c86 ⟨YD 0 args,hp0,n0,8,[]⟩ (Xs r86 λo=>∃ o',Zw o'/\XV n0 o o')) (hA:Nat.ble args.length 8=true:=by rfl):CtM Tryz.prog 86 hp0 n0 args Zw:=Zv Tryz.func86 rfl b86 Zyl Zy3 n86 (Nat.le_of_ble_eq_true hA) hh hx h
def cv86:SC:=(sr1 [o1 2 (.mv (.c (.slice none 0 0)))] (.seq (sr1 [m1 3 0,o1 4 (.isn (.t 3))] (Ji 4 (sr1 [o1 2 (.mv (.c (.slice none 0 0)))] .ret) .skip)) (sr1 [o1 5 (.bsl 1 3 []),m1 6 0,o1 7 (.cln 1 8 3 (.t 5) (.t 6)),m1 2 7] .ret)))
def rv86:List RV:=[.tmp 2]
theorem nv86:Tryz.f86.ntmps=8:=by kernel_rfl
theorem bv86:ZV Tryz.prog 86=true:=by kernel_rfl
theorem ZsM:YA Tryz.prog cv86 ((Tryz.f86.body).getD .skip)=true:=by kernel_rfl
theorem ZrD:YQ Tryz.prog rv86 Tryz.f86.results.toList=true:=by kernel_rfl
theorem mv86 {n0:Nat} {hp0:List (Nat × HB)} {args:List SV} {Zw:Ot->Prop} (hh:hpb n0 hp0) (hx:∀ o,Zw o->KX o.res/\KXP o.hp) (h:sx Tryz.prog Y0 n0 cv86 ⟨YD 0 args,hp0,n0,8,[]⟩ (Xs rv86 λo=>∃ o',Zw o'/\XV n0 o o')) (hA:Nat.ble args.length 8=true:=by rfl):CtM Tryz.prog 86 hp0 n0 args Zw:=Zv Tryz.func86 rfl bv86 ZsM ZrD nv86 (Nat.le_of_ble_eq_true hA) hh hx h
end Go.Proofs.YtkpkgafhfakpdaaGreatDoor
namespace Go.Sx
open Go Go.RowKit
section
variable {P:Program} {σ : St} {r:KT} {K:RK} {op:Op} {ty:TypeId}
theorem Zcy {C:Cx} {E:Env} {hp:List (Nat × HB)} {n:Nat->Prop} {w:World} {kc:Nat} {l l':List SV} {Tc:TypeId} (h:HSim C E hp n w) (hk:lkh kc hp = .cells l Tc)
 (hl:∀ cs,RL w E n (okS C E hp) l cs->RL w E n (okS C E hp) l' cs):HSim C E ((kc,.cells l' Tc) :: hp) n w/\ZF w w (okS C E hp) (okS C E ((kc,.cells l' Tc) :: hp)) :=
 Xy (B:=E.β kc) h (λb=>by rw [hk];rfl) (by rw [hk];rfl) ⟨rfl,rfl,rfl,rfl,λ_ _=>rfl⟩ (λhst=>by
  have hb:=h.bk kc;rw [hk] at hb;simp only [Z1] at hb ⊢;obtain ⟨cs,g1,g2⟩:=hb
  exact ⟨cs,g1,ZC hst.c (λ_ _=>Ele.rfl) (λ_ h=>h) _ _ (hl _ g2)⟩)
theorem ZbG {m:Nat} (k kc v:Nat) {s:SV} {T Tc:TypeId} (hm:Nat.ble m k=true) (hne:Nat.beq kc k=false) (hk:lkh k σ.hp = .row v 1 [[s]] T) (hc:lkh kc σ.hp = .cells [.mr k v] Tc) :
 EntD m σ ⟨σ.fr,(kc,.cells [.sl true 1 [[s]]] Tc) :: (k,.gone) :: σ.hp,σ.n,σ.N,σ.gs⟩ ⟨σ.fr,(kc,.cells [.ms k (v+1) 1 0 1] Tc) :: (k,.row (v+1) 1 [[s],[.any]] T) :: σ.hp,σ.n,σ.N,σ.gs⟩:=by
 intro C E a w hmc h;have hne':¬ kc=k:=λe=>by subst e;simp at hne
 rcases ZjW hmc (Nat.le_of_ble_eq_true hm) h.hs hk with ⟨h1,_⟩ | ⟨b,cap,h1,h4,h4',h5,h7⟩
 . cases h1
 have hb:=h.hs.bk k;rw [hk] at hb;simp only [Z1] at hb;obtain ⟨his,hb⟩:=hb;rcases hb with ⟨g0,_⟩ | ⟨b',cap',cs,g1,g2,g3,g4,g5,g6,g7⟩
 . cases g0
 rw [h1] at g1;injection g1 with q1 q2 q3
 injection q1 with q1
 injection q1 with q1
 subst q1 q3;simp only [List.length_singleton,Nat.mul_one] at g3 g4 g7 h1 h4;by_cases hcap:cap=1
 . left;subst hcap;obtain ⟨z1,z2⟩:=XP h.hs k
   obtain ⟨y1,y2⟩:=Zcy (kc:=kc) (l:=[.mr k v]) (l':=[.sl true 1 [[s]]]) (Tc:=Tc) z1 (by rw [Zj,if_neg hne'];exact hc) (λcs hcs=>by
    simp only [RL,R] at hcs ⊢;obtain ⟨y,q,rfl,⟨_,_,rfl,_⟩,rfl⟩:=hcs
    exact ⟨_,_,rfl,⟨some ⟨b,0,none⟩,1,1,h1,rfl,⟨Nat.le_refl _,λ_=>rfl⟩,by simp,.inr ⟨b,0,rfl,h7⟩⟩,rfl⟩)
   exact ⟨E,Z3 h (λx hx hs=>by obtain ⟨p1,p2⟩:=z2 x hx hs;obtain ⟨p3,p4⟩:=y2 x p1 hs;exact ⟨p3,rfl⟩) (λ_ _=>Ele.rfl) (Nat.le_refl _) y1⟩
 . right;have hcsl:cs.toList.length=cap:=by rw [Array.length_toList];exact g3
   obtain ⟨c0,c1,cr,hcs⟩:∃ c0 c1 cr,cs.toList=c0 :: c1 :: cr:=by
    match hl:cs.toList with
    | []=>rw [hl] at hcsl;simp at hcsl;omega
    | [c0]=>rw [hl] at hcsl;simp at hcsl;omega
    | c0 :: c1 :: cr=>exact ⟨_,_,_,rfl⟩
   obtain ⟨E',g1',g2',g3',g4',g5',g6'⟩:=Zcd (w':=w) (xs':=[[s],[.any]]) (y:=.slice (some ⟨b,0,none⟩) 2 cap) h.hs hk rfl rfl rfl (Nat.le_refl _) (λ_ _ _=>rfl)
    (.inr ⟨b,cap,cs,rfl,.inl (by rw [hk];exact ⟨_,_,h1,h4'⟩),g2,by omega,⟨by simp;omega,h4'⟩,by simp,λq hq=>by simp at hq;rcases hq with rfl | rfl<;>rfl,by
     rw [hcs] at g7 ⊢;simp only [List.flatten_cons,List.flatten_nil,List.append_nil,List.take_succ_cons,List.take_zero,List.length_cons,List.length_nil,Nat.mul_one,Nat.zero_add,Nat.reduceAdd,List.cons_append,List.nil_append] at g7 ⊢;simp only [RL] at g7 ⊢;obtain ⟨y0,r0,q1,q2,q3⟩:=g7;subst q3;cases q1
     exact ⟨_,_,rfl,q2,_,_,rfl,by simp only [R],rfl⟩⟩)
   obtain ⟨y1,y2⟩:=Zcy (kc:=kc) (l:=[.mr k v]) (l':=[.ms k (v+1) 1 0 1]) (Tc:=Tc) g5' (by rw [Zj,if_neg hne'];exact hc) (λcs hcs=>by
    simp only [RL,R] at hcs ⊢;obtain ⟨y,q,rfl,⟨_,hv,rfl,_⟩,rfl⟩:=hcs;refine ⟨_,_,rfl,⟨g4',by omega,_,_,_,g2',by omega,?_⟩,rfl⟩;rw [(g1' k g4').2.2 v (by omega),h1,if_neg (by omega)]
    simp [Addr.add])
   exact ⟨E',Z3 h (λx hx hs=>by obtain ⟨p1,p2⟩:=g6' x hx hs;obtain ⟨p3,p4⟩:=y2 x p1 hs;exact ⟨p3,rfl⟩) g1' (Nat.le_refl _) y1⟩
theorem Vr {x:X} {d:Option Nat} {k v m:Nat} {xs:List (List SV)} {T:TypeId} (hc:ZJ P (.isn x) op=true) (hx:rdG none σ.fr x = .mr k v) (hk:lkh k σ.hp = .row v m xs T) (hne:xs≠[]) (h:Yo d (.v (.bool false)) none σ r K):RAW P d op ty σ r K:=by
 intro o C E a w next Q e1 e2 e3 hS hn hq;have hRx:=Ym (Zs hS.hs) hS.fr (g:=none) trivial x;rw [hx] at hRx;simp only [R] at hRx;have hb:=hS.hs.bk k;rw [hk] at hb;simp only [Z1] at hb;obtain ⟨his,hb⟩:=hb;rcases hb with ⟨g0,_⟩ | ⟨b,cap,cs,g1,g2,g3,g4,g5,g6,g7⟩
 . exact absurd g0 hne
 have hR2:R w E (ltn σ.n) (λ_=>True) (.sl false m xs) (evX a x):=by
  simp only [R];exact ⟨some ⟨b,0,none⟩,xs.length,cap,by rw [hRx.2.2.1,g1],rfl,⟨g4.1,λh=>by cases h⟩,g5,.inr ⟨b,0,rfl,Xm (cs:=cs) (ok:=okS C E σ.hp) (ok':=λ_=>True) trivial (λj c hj=>by rw [cell_of_row _ _ _ _ _ _ g2];simpa using hj) (λx _ _=>⟨trivial,rfl⟩) xs 0 g6 (by simpa using g7)⟩⟩
 obtain ⟨bb,k1,k2⟩:=ZhG (o:=o) (by rw [e2];exact hc) hR2;have hbb:bb=false:=by cases bb with | false=>rfl | true=>exact absurd (k1 rfl) hne
 subst hbb;refine Zz k2 (by simp) ?_;show next (a.put o.dst _) _;rw [e1];exact X5 h hS (by simp only [R]) hn
theorem Zp9 {C:Cx} {E:Env} {hp:List (Nat × HB)} {n:Nat->Prop} {a:Act} {w:World} {o:Oper} {m b:Nat} {T:TypeId} {x y:X} {sx:SV} {ys:List (List SV)} (hc:ZJ P (.cln m b T x y) o.op=true) (hRx:R w E n (okS C E hp) sx (evX a x))
 (hy:∃ cs,Vk w (evX a y) m ys.length cs/\RL w E n (okS C E hp) ys.flatten cs/\∀ r ∈ ys,r.length=m) (hx:Zgo m sx=some []) (hlim:ys.length * b<=140737488355328) :
 ∃ v w',(execOp a.eval o).run P w = .ok (.value v) w'/\Below w.heap.size w w'/\Zx9 C E hp n w w' m ys T v:=by
 obtain ⟨dst,op,ty,pos,after,guard⟩:=o;cases op<;>simp [ZJ] at hc
 rename_i c;obtain ⟨callee,az,ts⟩:=c;cases callee<;>try (simp at hc;done)
 rename_i bi;cases bi<;>try (simp at hc;done)
 simp only [Bool.and_eq_true,beq_iff_eq,Nat.blt_eq] at hc;obtain ⟨⟨⟨⟨⟨hc,hsz⟩,hby⟩,hb0⟩,hz⟩,hm0⟩:=hc;split at hz
 case h_2=>cases hz
 rename_i z hz';simp only [beq_iff_eq] at hz;split at hc
 . rename_i x' y' t t' e1 e2;simp only [Bool.and_eq_true,beq_iff_eq] at hc;obtain ⟨⟨⟨rfl,c1⟩,c2⟩,c3⟩:=hc;have c3':P.underlying t=some (.slice T):=by split at c3<;>simp_all
   have has:az.map a.eval = #[evX a x,evX a y]:=by apply Array.toList_inj.1;simp [e1,Ze c1 a,Ze c2 a]
   have hts:ts = #[t,t]:=by apply Array.toList_inj.1;simpa using e2
   obtain ⟨cx,x1,x2,x3,a0,x4⟩:=Uf hRx hx;obtain ⟨cy,y1,y2,y3⟩:=hy;have hlim2:0+ys.length<=140737488355328:=by rw [Nat.zero_add];exact Nat.le_trans (Nat.le_mul_of_pos_right _ hb0) hlim
   obtain ⟨v,w',q1,q2,q3⟩:=XK (P:=P) (ty:=ty) (lx:=0) c3' hsz hby hz' x1 ⟨a0,x4⟩ y1 (by rw [Nat.zero_add];exact hlim) hlim2;have hcx:cx=[]:=by simp only [List.flatten_nil,RL] at x2;exact x2
   subst hcx;refine ⟨v,w',by simp [execOp,resolve,has,hts,invoke,builtin,q1],q2,?_⟩;rcases q3 with ⟨g0,rfl,rfl⟩ | ⟨g0,cap,g1,rfl,rfl⟩
   . exact .inl ⟨List.eq_nil_of_length_eq_zero g0,a0,x4⟩
   . have hcy:cy.length=ys.length * m:=by rw [ZE y2];exact Y9 y3
     refine .inr ⟨cap,_,by simp,heap_alloc_new _ _,?_,⟨by omega,by omega⟩,by omega,y3,?_⟩
     . simp only [Array.size_append,List.size_toArray,List.length_nil,Builtin.zeroCells,Array.size_map,Array.size_range,hz,hcy,Nat.zero_add];rw [<- Nat.add_mul];congr 1;omega
     . have e:∀ Z:Array Value,List.take (ys.length * m) (([]:List Value).toArray ++ cy.toArray ++ Z).toList=cy:=λZ=>by rw [<- hcy];simp
       rw [e];exact y2
 . cases hc
theorem Zoq {m b k v:Nat} {T T2:TypeId} {x y:X} {d:Option Nat} {sx:SV} {ys:List (List SV)} (hc:ZJ P (.cln m b T x y) op=true) (hx:rdG none σ.fr x=sx) (hx0:Zgo m sx=some []) (hy:rdG none σ.fr y = .mr k v) (hk:lkh k σ.hp = .row v m ys T2)
 (hlim:ys.length * b<=140737488355328) (h:Zk1 d m ys T σ r K):RAW P d op ty σ r K:=by
 intro o C E a w next Q e1 e2 e3 hS hn hq;have hRx:=Ym (Zs hS.hs) hS.fr (g:=none) trivial x;have hRy:=Ym (Zs hS.hs) hS.fr (g:=none) trivial y;rw [hx] at hRx;rw [hy] at hRy;simp only [R] at hRy;have hb:=hS.hs.bk k;rw [hk] at hb;obtain ⟨cs,g1,g2,g3⟩:=W0 hb;obtain ⟨y',w',q1,q2,q3⟩:=Zp9 (o:=o) (hp:=σ.hp) (by rw [e2];exact hc) hRx ⟨cs,by rw [hRy.2.2.1];exact g1,g2,g3⟩ hx0 hlim;obtain ⟨E',σ',h1,h2⟩:=Zck h hS q2 q3
 refine Zz q1 (by simp) ?_;show next (a.put o.dst _) _;rw [e1];exact hn σ' E' _ _ h1 h2
end
end Go.Sx
namespace Go.Proofs.YtkpkgafhfakpdaaGreatDoor
open Go Go.Sx Go.Azalai
theorem Zjz (v:Nat) (a b:Int) (T:TypeId):CtM Tryz.prog 86 [(0,.row v 1 [[I a],[I b]] T)] 1 [.mr 0 v] (λo=>o=⟨false,.mr 1 0,[(0,.row v 1 [[I a],[I b]] T),(1,.row 0 1 [[I a],[I b]] 3)],2⟩):=by
 refine m86 (by simp [hpb]) (λo ho=>by subst ho;simp [KX,KXL,KXP,KXH,KFL,KF,KFR]) ?_;dsimp only [c86,r86,go_sem];refine Vr (x:=.t 3) (by kernel_rfl) rfl rfl (by simp) ?_;dsimp only [go_sem];refine Zn rfl ?_;dsimp only [go_sem];refine Zoq (m:=1) (b:=8) (T:=3) (x:=.t 5) (y:=.t 6) (by kernel_rfl) rfl rfl rfl rfl (by simp) ?_;dsimp only [go_sem];refine ⟨_,rfl,?_⟩;(refine Zp ?_ ?_ ?_ rfl<;>dsimp only [id,go_sem]<;>simp [Za])
theorem Zjm (c:Bool) (a b:Int):CtM Tryz.prog 86 [] 0 [.sl c 1 [[I a],[I b]]] (λo=>o=⟨false,.mr 0 0,[(0,.row 0 1 [[I a],[I b]] 3)],1⟩):=by
 refine mv86 (by simp [hpb]) (λo ho=>by subst ho;simp [KX,KXL,KXP,KXH,KFL,KF,KFR]) ?_;dsimp only [cv86,rv86,go_sem];intro b hb;dsimp only [go_sem];cases b with
 | true=>exact absurd (hb rfl) (by simp)
 | false =>
  refine Zn rfl ?_;dsimp only [go_sem];refine ⟨by simp,?_⟩;dsimp only [go_sem];refine ⟨_,rfl,?_⟩;(refine Zp ?_ ?_ ?_ rfl<;>dsimp only [id,go_sem]<;>simp [Za])
def U4:SC:=(sr1 [o1 5 (Jz 0 0 242)] (.seq (sr1 [o1 12 (lf 1 1),o1 13 (ao 2 1),o1 14 (lf 13 1),o1 15 (Jl 14),o1 16 (Jb .eql 12 15)] (Ji 16 (sr1 [o1 17 (lf 5 1),o1 18 (lf 3 1),o1 19 (lt 4 2),o1 20 (.calvm (.t 17) [.t 18,.t 19])] .ret) .skip)) (sr1 [o1
 21 (.bsl 1 3 [.c (.int .i64 (-1))]),o1 22 (lt 2 2),o1 23 (lf 1 1),o1 24 (.callm 73 [.t 22,.t 23]),o1 25 (.app 1 8 3 (.t 21) (.t 24)),o1 26 (Jl 25),Jk 27 0] (.block 0 (.loop (sr1 [o1 28 (Jb .lss 27 26)] (.seq (Ji 28 .skip (.exit 0)) (.seq (.block 1
 (sr1 [o1 29 (Jx 25 27 1),o1 30 (lf 29 1),m1 7 30] (sr1 [o1 31 (lt 4 2),o1 8 (.alloc zv0 176),Js 8 31 2] (.seq (sr1 [m1 32 7,o1 33 (Jc .geq 32 0)] (Ji 33 (sr1 [o1 34 (ao 2 0),o1 35 (lf 34 1),o1 36 (.nilc (.t 35)),o1 37 (ao 36 0),o1 38 (lf 37 1),m1 39
 7,o1 40 (Jx 38 39 8),o1 41 (lt 40 8),o1 9 (.alloc zv2 84),Js 9 41 8] (.seq (sr1 [o1 42 (ao 9 1),o1 43 (lf 42 1),o1 44 (ao 4 0),o1 45 (lf 44 1),o1 46 (Jb .neq 43 45)] (Ji 46 (.exit 1) .skip)) (.regd (Jr 13) [Jo 47 (ao 9 2),Jp 48 (lf 47 1) [0],Jo 49
 (ao 4 1),Jp 50 (lf 49 1) [2],Jo 51 (ao 9 3),Jp 52 (lf 51 1) [4],Jp 53 (.div .quo (.t 50) (.t 52)) [3,5],Jo 54 (ao 9 4),Jp 55 (ao 54 0) [7],Jp 56 (lf 55 1) [8],Jp 57 (Jb .mul 53 56) [6,9],Jp 58 (.build zv0 [(0,1,.t 48),(1,1,.t 57)]) [1,10]] 0 1 [Ju 8
 58 2 (Jr 12)]))) .skip)) (.seq (sr1 [o1 59 (lf 1 1),o1 60 (ao 2 1),o1 61 (lf 60 1),o1 62 (Jl 61),o1 63 (Jc .sub 62 1),o1 64 (Jb .lss 59 63)] (Ji 64 (.regd (Jr 16) [Jo 65 (ao 8 1),Jp 66 (lf 65 1) [0],Jo 67 (ao 2 1),Jp 68 (lf 67 1) [2],Jo 69 (lf 1
 1),Jp 70 (Jx 68 69 3) [3,4],Jp 71 (ao 70 2) [5],Jp 72 (lf 71 1) [6],Jo 73 (ao 8 0),Jp 74 (lf 73 1) [8],Jp 75 (Jx 72 74 2) [7,9],Jp 76 (ao 75 0) [10],Jp 77 (lf 76 1) [11],Jp 78 (J2 137 66 77) [1,12],Jp 79 (ao 8 1) (Jr 14)] 0 1 [Ju 79 78 1 (Jr 15)])
 .skip)) (.seq (.regd (Jr 9) [Jo 80 (lt 2 2),Jo 81 (lf 1 1),Jp 82 (Jc .add 81 1) [1],Jo 83 (lt 8 2),Jo 84 (lf 3 1),Jm 85 7,Jp 86 (.bsl 1 3 [.t 85]) [5]] 1 0 [⟨some 87,.cln 1 8 3 (.t 84) (.t 86),none,[4,6]⟩,⟨some 88,.callm 85 [.t 80,.t 82,.t 83,.t
 87],none,[0,2,3,7]⟩]) (.block 2 (.gh (.rfun (.t 88) [89,90] (sr1 [m1 10 89] (.reg [o1 11 (.alloc zv0 176),Js 11 90 2])) (.block 3 (sr1 [o1 91 (lf 5 1),m1 92 10,o1 93 (lt 11 2),o1 94 (.calvm (.t 91) [.t 92,.t 93]),o1 95 (Jh 94)] (Ji 95 .ret
 .skip)))))))))))) (.reg [o1 96 (Jc .add 27 1),m1 27 96])))))))))
def Zaf:List RV:=[]
theorem np145:Tryz.f145.ntmps=97:=by kernel_rfl
theorem Zcn:ZV Tryz.prog 145=true:=by kernel_rfl
theorem ZmY:YA Tryz.prog U4 ((Tryz.f145.body).getD .skip)=true:=by kernel_rfl
theorem ZmI:YQ Tryz.prog Zaf Tryz.f145.results.toList=true:=by kernel_rfl
theorem ZbM {Y:Hd} {n0:Nat} {hp0:List (Nat × HB)} {args:List SV} {Zw:Ot->Prop} (h:sx Tryz.prog Y n0 U4 ⟨YD 0 args,hp0,n0,97,[]⟩ (Xs Zaf Zw)) (hA:Nat.ble args.length 97=true:=by rfl):CtY Tryz.prog Y 145 hp0 n0 args Zw:=WG Tryz.func145 rfl ZmY ZmI np145 (Nat.le_of_ble_eq_true hA) h
def ZiL:SC:=(sr1 [o1 5 (Jz 0 0 242)] (.seq (sr1 [o1 12 (lf 1 1),o1 13 (ao 2 1),o1 14 (lf 13 1),o1 15 (Jl 14),o1 16 (Jb .eql 12 15)] (Ji 16 (sr1 [o1 17 (lf 5 1),o1 18 (lf 3 1),o1 19 (lt 4 2),o1 20 (.calvm (.t 17) [.t 18,.t 19])] .ret) .skip)) (sr1 [o1
 21 (.bsl 1 3 [.c (.int .i64 (-1))]),o1 22 (lt 2 2),o1 23 (lf 1 1),o1 24 (.callm 73 [.t 22,.t 23]),o1 25 (.app 1 8 3 (.t 21) (.t 24)),o1 26 (Jl 25),Jk 27 0] (.block 0 (.loop (sr1 [o1 28 (Jb .lss 27 26)] (.seq (Ji 28 .skip (.exit 0)) (.seq (.block 1
 (sr1 [o1 29 (Jx 25 27 1),o1 30 (lf 29 1),m1 7 30] (sr1 [o1 31 (lt 4 2),o1 8 (.alloc zv0 176),Js 8 31 2] (.seq (sr1 [m1 32 7,o1 33 (Jc .geq 32 0)] (Ji 33 (sr1 [o1 34 (ao 2 0),o1 35 (lf 34 1),o1 36 (.nilc (.t 35)),o1 37 (ao 36 0),o1 38 (lf 37 1),m1 39
 7,o1 40 (Jx 38 39 8),o1 41 (lt 40 8),o1 9 (.alloc zv2 84),Js 9 41 8] (.seq (sr1 [o1 42 (ao 9 1),o1 43 (lf 42 1),o1 44 (ao 4 0),o1 45 (lf 44 1),o1 46 (Jb .neq 43 45)] (Ji 46 (.exit 1) .skip)) (.regd (Jr 13) [Jo 47 (ao 9 2),Jp 48 (lf 47 1) [0],Jo 49
 (ao 4 1),Jp 50 (lf 49 1) [2],Jo 51 (ao 9 3),Jp 52 (lf 51 1) [4],Jp 53 (.div .quo (.t 50) (.t 52)) [3,5],Jo 54 (ao 9 4),Jp 55 (ao 54 0) [7],Jp 56 (lf 55 1) [8],Jp 57 (Jb .mul 53 56) [6,9],Jp 58 (.build zv0 [(0,1,.t 48),(1,1,.t 57)]) [1,10]] 0 1 [Ju 8
 58 2 (Jr 12)]))) .skip)) (.seq (sr1 [o1 59 (lf 1 1),o1 60 (ao 2 1),o1 61 (lf 60 1),o1 62 (Jl 61),o1 63 (Jc .sub 62 1),o1 64 (Jb .lss 59 63)] (Ji 64 (.regd (Jr 16) [Jo 65 (ao 8 1),Jp 66 (lf 65 1) [0],Jo 67 (ao 2 1),Jp 68 (lf 67 1) [2],Jo 69 (lf 1
 1),Jp 70 (Jx 68 69 3) [3,4],Jp 71 (ao 70 2) [5],Jp 72 (lf 71 1) [6],Jo 73 (ao 8 0),Jp 74 (lf 73 1) [8],Jp 75 (Jx 72 74 2) [7,9],Jp 76 (ao 75 0) [10],Jp 77 (lf 76 1) [11],Jp 78 (J2 137 66 77) [1,12],Jp 79 (ao 8 1) (Jr 14)] 0 1 [Ju 79 78 1 (Jr 15)])
 .skip)) (.seq (.regd (Jr 9) [Jo 80 (lt 2 2),Jo 81 (lf 1 1),Jp 82 (Jc .add 81 1) [1],Jo 83 (lt 8 2),Jo 84 (lf 3 1),Jm 85 7,Jp 86 (.bsl 1 3 [.t 85]) [5],Jp 87 (.app 1 8 3 (.t 84) (.t 86)) [4,6]] 0 0 [⟨some 88,.callm 85 [.t 80,.t 82,.t 83,.t
 87],none,[0,2,3,7]⟩]) (.block 2 (.gh (.rfun (.t 88) [89,90] (sr1 [m1 10 89] (.reg [o1 11 (.alloc zv0 176),Js 11 90 2])) (.block 3 (sr1 [o1 91 (lf 5 1),m1 92 10,o1 93 (lt 11 2),o1 94 (.calvm (.t 91) [.t 92,.t 93]),o1 95 (Jh 94)] (Ji 95 .ret
 .skip)))))))))))) (.reg [o1 96 (Jc .add 27 1),m1 27 96])))))))))
def Zko:List RV:=[]
theorem nf145:Tryz.f145.ntmps=97:=by kernel_rfl
theorem ZrI:ZV Tryz.prog 145=true:=by kernel_rfl
theorem Zoy:YA Tryz.prog ZiL ((Tryz.f145.body).getD .skip)=true:=by kernel_rfl
theorem Zlb:YQ Tryz.prog Zko Tryz.f145.results.toList=true:=by kernel_rfl
theorem ZsT {Y:Hd} {n0:Nat} {hp0:List (Nat × HB)} {args:List SV} {Zw:Ot->Prop} (h:sx Tryz.prog Y n0 ZiL ⟨YD 0 args,hp0,n0,97,[]⟩ (Xs Zko Zw)) (hA:Nat.ble args.length 97=true:=by rfl):CtY Tryz.prog Y 145 hp0 n0 args Zw:=WG Tryz.func145 rfl Zoy Zlb nf145 (Nat.le_of_ble_eq_true hA) h
def Zj1:SC:=(sr1 [o1 5 (Jz 0 0 242)] (.seq (sr1 [o1 12 (lf 1 1),o1 13 (ao 2 1),o1 14 (lf 13 1),o1 15 (Jl 14),o1 16 (Jb .eql 12 15)] (Ji 16 (sr1 [o1 17 (lf 5 1),o1 18 (lf 3 1),o1 19 (lt 4 2),o1 20 (.calvm (.t 17) [.t 18,.t 19])] .ret) .skip)) (sr1 [o1
 21 (.bsl 1 3 [.c (.int .i64 (-1))]),o1 22 (lt 2 2),o1 23 (lf 1 1),o1 24 (.callm 73 [.t 22,.t 23]),o1 25 (.app 1 8 3 (.t 21) (.t 24)),o1 26 (Jl 25),Jk 27 0] (.block 0 (.loop (sr1 [o1 28 (Jb .lss 27 26)] (.seq (Ji 28 .skip (.exit 0)) (.seq (.block 1
 (sr1 [o1 29 (Jx 25 27 1),o1 30 (lf 29 1),m1 7 30] (sr1 [o1 31 (lt 4 2),o1 8 (.alloc zv0 176),Js 8 31 2] (.seq (sr1 [m1 32 7,o1 33 (Jc .geq 32 0)] (Ji 33 (sr1 [o1 34 (ao 2 0),o1 35 (lf 34 1),o1 36 (.nilc (.t 35)),o1 37 (ao 36 0),o1 38 (lf 37 1),m1 39
 7,o1 40 (Jx 38 39 8),o1 41 (lt 40 8),o1 9 (.alloc zv2 84),Js 9 41 8] (.seq (sr1 [o1 42 (ao 9 1),o1 43 (lf 42 1),o1 44 (ao 4 0),o1 45 (lf 44 1),o1 46 (Jb .neq 43 45)] (Ji 46 (.exit 1) .skip)) (.regd (Jr 13) [Jo 47 (ao 9 2),Jp 48 (lf 47 1) [0],Jo 49
 (ao 4 1),Jp 50 (lf 49 1) [2],Jo 51 (ao 9 3),Jp 52 (lf 51 1) [4],Jp 53 (.div .quo (.t 50) (.t 52)) [3,5],Jo 54 (ao 9 4),Jp 55 (ao 54 0) [7],Jp 56 (lf 55 1) [8],Jp 57 (Jb .mul 53 56) [6,9],Jp 58 (.build zv0 [(0,1,.t 48),(1,1,.t 57)]) [1,10]] 0 1 [Ju 8
 58 2 (Jr 12)]))) .skip)) (.seq (sr1 [o1 59 (lf 1 1),o1 60 (ao 2 1),o1 61 (lf 60 1),o1 62 (Jl 61),o1 63 (Jc .sub 62 1),o1 64 (Jb .lss 59 63)] (Ji 64 (.regd (Jr 16) [Jo 65 (ao 8 1),Jp 66 (lf 65 1) [0],Jo 67 (ao 2 1),Jp 68 (lf 67 1) [2],Jo 69 (lf 1
 1),Jp 70 (Jx 68 69 3) [3,4],Jp 71 (ao 70 2) [5],Jp 72 (lf 71 1) [6],Jo 73 (ao 8 0),Jp 74 (lf 73 1) [8],Jp 75 (Jx 72 74 2) [7,9],Jp 76 (ao 75 0) [10],Jp 77 (lf 76 1) [11],Jp 78 (J2 137 66 77) [1,12],Jp 79 (ao 8 1) (Jr 14)] 0 1 [Ju 79 78 1 (Jr 15)])
 .skip)) (.seq (.regd [4,5,6,0,1,2,3,7,8] [Jo 84 (lf 3 1),Jm 85 7,Jp 86 (.bsl 1 3 [.t 85]) [5],.hide (.t 84),Jo 80 (lt 2 2),Jo 81 (lf 1 1),Jp 82 (Jc .add 81 1) [1],Jo 83 (lt 8 2)] 0 1 [⟨some 87,.appm 1 8 3 (.t 84) (.t 86),none,[4,6]⟩,⟨some 88,.callm
 85 [.t 80,.t 82,.t 83,.t 87],none,[0,2,3,7]⟩]) (.block 2 (.gh (.rfun (.t 88) [89,90] (sr1 [m1 10 89] (.reg [o1 11 (.alloc zv0 176),Js 11 90 2])) (.block 3 (sr1 [o1 91 (lf 5 1),m1 92 10,o1 93 (lt 11 2),o1 94 (.calvm (.t 91) [.t 92,.t 93]),o1 95 (Jh
 94)] (Ji 95 .ret .skip)))))))))))) (.reg [o1 96 (Jc .add 27 1),m1 27 96])))))))))
def ZhN:List RV:=[]
theorem no145:Tryz.f145.ntmps=97:=by kernel_rfl
theorem ZuH:ZV Tryz.prog 145=true:=by kernel_rfl
theorem Znj:YA Tryz.prog Zj1 ((Tryz.f145.body).getD .skip)=true:=by kernel_rfl
theorem ZpD:YQ Tryz.prog ZhN Tryz.f145.results.toList=true:=by kernel_rfl
theorem ZsN {Y:Hd} {n0:Nat} {hp0:List (Nat × HB)} {args:List SV} {Zw:Ot->Prop} (h:sx Tryz.prog Y n0 Zj1 ⟨YD 0 args,hp0,n0,97,[]⟩ (Xs ZhN Zw)) (hA:Nat.ble args.length 97=true:=by rfl):CtY Tryz.prog Y 145 hp0 n0 args Zw:=WG Tryz.func145 rfl Znj ZpD no145 (Nat.le_of_ble_eq_true hA) h
def F0:Fare:=⟨1,3,Azalai.keepF ⟨900,950⟩⟩
def G0:Fare:=⟨1,5,Azalai.keepF ⟨900,950⟩⟩
def X0:Offer:=⟨1,0,1,2,⟨3,3⟩,0,9⟩
def fgL:SV:=.sl true 3 [Zu true F0,Zu true G0]
def mkH:List (Nat × HB):=Z7 0 true [X0] (Yg X0) 1
def chH (n i:Nat) (gi ui:Int) (s:SV):List (Nat × HB):=[(n,.cells [.p 1 0,fgL] 150),(n+1,.cells [I i] 3),(n+2,.cells [I gi,I ui] 176),(n+3,.cells [s] 29)]
theorem kfF:KFL (Zu true F0):=by simp [F0,Zu,KFL,KF,Za,Zh]
theorem kfG:KFL (Zu true G0):=by simp [G0,Zu,KFL,KF,Za,Zh]
theorem Zy4 (i:Nat) (gi ui:Int):CtM Tryz.prog 85 (mkH) 2 [.agg [.p 1 0,fgL],I i,.agg [I gi,I ui],.v (.slice none 0 0)] (λo=>o=⟨false,.cl 145 [.p 3 0,.p 2 0,.p 5 0,.p 4 0],mkH ++ chH 2 i gi ui (.v (.slice none 0 0)),6⟩):=by
 refine m85 (by simp [hpb,mkH,Z7]) (λo ho=>by subst ho;simp [mkH,Z7,Yg,mpS,Zm,Zk,chH,fgL,kfF,kfG,KX,KXL,KXP,KXH,KFL,KF,KFR,Za]) ?_;dsimp only [c85,r85,fgL,mkH,Z7,Yg,go_sem];refine ⟨_,rfl,?_⟩;(refine Zp ?_ ?_ ?_ rfl<;>dsimp only [chH,fgL,mkH,Z7,Yg,mpS,Zm,Zk,kfF,kfG,id,go_sem]<;>simp [chH,fgL,mkH,Z7,Yg,mpS,Zm,Zk,kfF,kfG,Za])
theorem Zg7 (v:Nat) (a:Int) (i:Nat) (gi ui:Int):CtM Tryz.prog 85 (mkH ++ [(2,.row v 1 [[I a]] 3)]) 3 [.agg [.p 1 0,fgL],I i,.agg [I gi,I ui],.mr 2 v] (λo=>o=⟨false,.cl 145 [.p 4 0,.p 3 0,.p 6 0,.p 5 0],mkH ++ [(2,.row v 1 [[I a]] 3)] ++ chH 3 i gi ui (.mr 2 v),7⟩):=by
 refine m85 (by simp [hpb,mkH,Z7]) (λo ho=>by subst ho;simp [mkH,Z7,Yg,mpS,Zm,Zk,chH,fgL,kfF,kfG,KX,KXL,KXP,KXH,KFL,KF,KFR,Za]) ?_;dsimp only [c85,r85,fgL,mkH,Z7,Yg,go_sem];refine ⟨_,rfl,?_⟩;(refine Zp ?_ ?_ ?_ rfl<;>dsimp only [chH,fgL,mkH,Z7,Yg,mpS,Zm,Zk,kfF,kfG,id,go_sem]<;>simp [chH,fgL,mkH,Z7,Yg,mpS,Zm,Zk,kfF,kfG,Za])
theorem Zbz (v:Nat) (a b:Int) (i:Nat) (gi ui:Int):CtM Tryz.prog 85 (mkH ++ [(2,.row v 1 [[I a],[I b]] 3)]) 3 [.agg [.p 1 0,fgL],I i,.agg [I gi,I ui],.mr 2 v] (λo=>o=⟨false,.cl 145 [.p 4 0,.p 3 0,.p 6 0,.p 5 0],mkH ++ [(2,.row v 1 [[I a],[I b]] 3)] ++ chH 3 i gi ui (.mr 2 v),7⟩):=by
 refine m85 (by simp [hpb,mkH,Z7]) (λo ho=>by subst ho;simp [mkH,Z7,Yg,mpS,Zm,Zk,chH,fgL,kfF,kfG,KX,KXL,KXP,KXH,KFL,KF,KFR,Za]) ?_;dsimp only [c85,r85,fgL,mkH,Z7,Yg,go_sem];refine ⟨_,rfl,?_⟩;(refine Zp ?_ ?_ ?_ rfl<;>dsimp only [chH,fgL,mkH,Z7,Yg,mpS,Zm,Zk,kfF,kfG,id,go_sem]<;>simp [chH,fgL,mkH,Z7,Yg,mpS,Zm,Zk,kfF,kfG,Za])
theorem Zef (a b:Int) (i:Nat) (gi ui:Int):CtM Tryz.prog 85 (mkH) 2 [.agg [.p 1 0,fgL],I i,.agg [I gi,I ui],.sl false 1 [[I a],[I b]]] (λo=>o=⟨false,.cl 145 [.p 3 0,.p 2 0,.p 5 0,.p 4 0],mkH ++ chH 2 i gi ui (.sl false 1 [[I a],[I b]]),6⟩):=by
 refine m85 (by simp [hpb,mkH,Z7]) (λo ho=>by subst ho;simp [mkH,Z7,Yg,mpS,Zm,Zk,chH,fgL,kfF,kfG,KX,KXL,KXP,KXH,KFL,KF,KFR,Za]) ?_;dsimp only [c85,r85,fgL,mkH,Z7,Yg,go_sem];refine ⟨_,rfl,?_⟩;(refine Zp ?_ ?_ ?_ rfl<;>dsimp only [chH,fgL,mkH,Z7,Yg,mpS,Zm,Zk,kfF,kfG,id,go_sem]<;>simp [chH,fgL,mkH,Z7,Yg,mpS,Zm,Zk,kfF,kfG,Za])
end Go.Proofs.YtkpkgafhfakpdaaGreatDoor
namespace Go.Sx
open Go
def ZwZ:Nat->List Ins->Nat->List (Nat × Ins)
 | _,[],_=>[]
 | i,x :: l,D=>bif !Nat.testBit D i && x.af.all (Nat.testBit D) then (i,x) :: ZwZ (i+1) l D else ZwZ (i+1) l D
theorem ZeX:∀ {l:List Ins} {i0 D i:Nat} {x:Ins},l[i]? = some x->Nat.testBit D (i0+i)=false->x.af.all (Nat.testBit D)=true->(i0+i,x) ∈ ZwZ i0 l D
 | [],_,_,_,_,h,_,_=>by simp at h
 | y :: l,i0,D,0,x,h,hb,ha=>by
  simp only [List.getElem?_cons_zero,Option.some.injEq] at h;subst h;have hc:(!Nat.testBit D i0 && y.af.all (Nat.testBit D))=true:=by rw [ha,show Nat.testBit D i0=false from hb];rfl
  simp only [ZwZ,hc,cond_true];exact List.mem_cons_self ..
 | y :: l,i0,D,i+1,x,h,hb,ha=>by
  have ih:=ZeX (l:=l) (i0:=i0+1) (D:=D) (i:=i) (x:=x) (by simpa using h) (by rw [show i0+1+i=i0+(i+1) from by omega];exact hb) ha;rw [show i0+1+i=i0+(i+1) from by omega] at ih;simp only [ZwZ];cases (!Nat.testBit D i0 && y.af.all (Nat.testBit D))
  . exact ih
  . exact List.mem_cons_of_mem _ ih
def ZwE (f:Nat->Ins->Prop):List (Nat × Ins)->Prop
 | []=>True
 | (i,x) :: r=>f i x/\ZwE f r
theorem ZnE {f:Nat->Ins->Prop} {rs:List (Nat × Ins)}:∀ {i:Nat} {x:Ins},ZwE f rs->(i,x) ∈ rs->f i x:=by
 induction rs with
 | nil=>intro i x _ hm;cases hm
 | cons y r ih =>
  intro i x h hm;obtain ⟨j,z⟩:=y;have h':f j z/\ZwE f r:=h;rcases List.mem_cons.1 hm with e | e
  . injection e with e1 e2;subst e1 e2;exact h'.1
  . exact ih h'.2 e
theorem WL {f:Nat->Ins->Prop} {i:Nat} {x:Ins} {r:List (Nat × Ins)} (h:f i x) (h':ZwE f r):ZwE f ((i,x) :: r):=⟨h,h'⟩
theorem Us {f:Nat->Ins->Prop}:ZwE f []:=trivial
theorem XH {P:Program} {Y:Hd} {m:Nat} {l:List Ins} {n D:Nat} {σ : St} {K:Ex->St->Prop} (rs:List (Nat × Ins)) (h:ZwZ 0 l D=rs) (ha:ZwE (λi x=>st1 P Y x σ (λσ' K'=>∃ σc,Ent m σ' σc/\LAT P Y m l n (D ||| 2 ^ i) σc K') K) rs):LAT P Y m l (n+1) D σ K:=by
 intro i x hx hb haf;have hm:=ZeX (i0:=0) hx (by rw [Nat.zero_add];exact hb) haf;rw [Nat.zero_add,h] at hm;exact ZnE ha hm
theorem ZuO {P:Program} {Y:Hd} {r:KT} {σ : St} {K:RK}:rxT P Y [] r σ K=r σ K:=rfl
theorem ZmV {P:Program} {Y:Hd} {x:Ins} {l:List Ins} {r:KT} {σ : St} {K:RK}:rxT P Y (x :: l) r σ K=st1 P Y x σ (rxT P Y l r) K:=rfl
attribute [go_sem] ZuO ZmV
open Go.RowKit
theorem Zg4 {m:Nat} {σ σ':St} (hf:∀ t,lk t σ'.fr=lk t σ.fr) (hh:∀ k,lkh k σ'.hp=lkh k σ.hp) (hn:σ'.n = σ.n) (hN:σ'.N = σ.N) (hg:σ.gs=[]):Ent m σ σ':=by
 intro C E a w _ h;have hok:okS C E σ'.hp=okS C E σ.hp:=by funext b;simp only [okS,hh]
 have hl:ltn σ'.n=ltn σ.n:=by rw [hn]
 have hno:∀ t j b s,lk t σ.fr≠.gd j b s:=λt j b s e=>by have:=h.gs t j b s e;rw [hg] at this;simp at this
 refine ⟨E,λt=>?_,by rw [hN];exact h.sz,Xp (λb hb _=>⟨by rw [hok];exact hb,rfl⟩) h.df,λt j b s ht=>absurd (by rw [<- hf];exact ht) (hno t j b s),⟨λk hk'=>by rw [hh];exact h.hs.kn k (by rw [<- hl];exact hk'),λk=>?_,λk k' b=>?_,λk b=>?_,h.hs.kp,by rw [hl];exact h.hs.pin⟩⟩
 . have hfr:=h.fr t;rw [hf,hok,hl];have:=hno t;cases hq:lk t σ.fr<;>rw [hq] at hfr this<;>first | exact hfr | exact absurd rfl (this _ _ _)
 . rw [hh,hok,hl];exact h.hs.bk k
 . rw [hh,hh];exact h.hs.dj k k' b
 . rw [hh];exact h.hs.lo k b
end Go.Sx
namespace Go.Proofs.YtkpkgafhfakpdaaGreatDoor
open Go Go.Sx Go.Azalai
def lB:List Ins:=[m1 64 15,⟨some 65,.callm 86 [.t 64],none,[0]⟩,o1 66 (.ld (.t 16) 2 true),⟨none,.st (.t 10) (.t 65) 1,none,[0,1]⟩,⟨none,.st (.t 14) (.t 66) 2,none,[0,1,2,3]⟩]
theorem Zh9 {Y:Hd} {m n:Nat} {fr:List (Nat × SV)} {hp:List (Nat × HB)} {K:Ex->St->Prop} (c x1 x2 x3:SV) (row:List (List SV)) (g u:Int) (k10 k14 k16:Nat) (hs:∀ fr,YG none fr c=c) (hgd:gdS c=false) (h15:lk 15 fr=c) (h16:lk 16 fr = .p k16 0) (h10:lk 10 fr = .p k10 0) (h14:lk 14 fr = .p k14 0)
 (b16:lkh k16 hp = .cells [I g,I u] 176) (b10:lkh k10 hp = .cells [x1] 29) (b14:lkh k14 hp = .cells [x2,x3] 176) (e1:Nat.beq k14 k10=false) (e2:Nat.beq k10 n=false) (e3:Nat.beq k14 n=false) (e4:Nat.beq k16 k10=false) (e5:Nat.beq k16 n=false)
 (hcl:∀ (fr':List (Nat × SV)) (r:KT) (K:RK),(∀ hp',(∀ k,lkh k hp'=lkh k ((n,.row 0 1 row 3) :: hp))->r ⟨(65,.mr n 0) :: fr',hp',n+1,72,[]⟩ K)->Zaw Tryz.prog 86 [c] (some 65) ⟨fr',hp,n,72,[]⟩ r K)
 (h:K .n ⟨(66,.agg [I g,I u]) :: (65,.mr n 0) :: (64,c) :: fr,(k14,.cells [I g,I u] 176) :: (k10,.cells [.mr n 0] 29) :: (n,.row 0 1 row 3) :: hp,n+1,72,[]⟩):LAT Tryz.prog Y m lB 5 0 ⟨fr,hp,n,72,[]⟩ K:=by
 have hfin:∀ fr',(∀ t,lk t fr'=lk t ((66,.agg [I g,I u]) :: (65,.mr n 0) :: (64,c) :: fr))->LAT Tryz.prog Y m lB 1 15 ⟨fr',(k10,.cells [.mr n 0] 29) :: (n,.row 0 1 row 3) :: hp,n+1,72,[]⟩ K:=by
  intro fr' hf;refine XH [(4,⟨none,.st (.t 14) (.t 66) 2,none,[0,1,2,3]⟩)] rfl (WL ?_ Us);have f14:lk 14 fr' = .p k14 0:=(hf 14).trans h14;have f66:lk 66 fr' = .agg [I g,I u]:=hf 66;dsimp only [go_sem];simp only [f14,f66];dsimp only [go_sem];simp only [e1];dsimp only [go_sem];simp only [e3];dsimp only [go_sem];simp only [b14];dsimp only [go_sem];refine ⟨⟨(66,.agg [I g,I u]) :: (65,.mr n 0) :: (64,c) :: fr,(k14,.cells [I g,I u] 176) :: (k10,.cells [.mr n 0] 29) :: (n,.row 0 1 row 3) :: hp,n+1,72,[]⟩,Zg4 (λt=>(hf t).symm) (λ_=>rfl) rfl rfl rfl,?_⟩
  exact h
 have h3:∀ fr',(∀ t,lk t fr'=lk t ((66,.agg [I g,I u]) :: (65,.mr n 0) :: (64,c) :: fr))->LAT Tryz.prog Y m lB 2 7 ⟨fr',(n,.row 0 1 row 3) :: hp,n+1,72,[]⟩ K:=by
  intro fr' hf;refine XH [(3,⟨none,.st (.t 10) (.t 65) 1,none,[0,1]⟩)] rfl (WL ?_ Us);have f10:lk 10 fr' = .p k10 0:=(hf 10).trans h10;have f65:lk 65 fr' = .mr n 0:=hf 65;dsimp only [go_sem];simp only [f10,f65];dsimp only [go_sem];simp only [e2];dsimp only [go_sem];simp only [b10];dsimp only [go_sem];refine ⟨_,Zr,?_⟩;exact hfin fr' hf
 have h13:∀ fr',(∀ t,lk t fr'=lk t ((65,.mr n 0) :: (64,c) :: fr))->LAT Tryz.prog Y m lB 2 11 ⟨fr',(k10,.cells [.mr n 0] 29) :: (n,.row 0 1 row 3) :: hp,n+1,72,[]⟩ K:=by
  intro fr' hf;refine XH [(2,o1 66 (.ld (.t 16) 2 true))] rfl (WL ?_ Us);have f16:lk 16 fr' = .p k16 0:=(hf 16).trans h16;dsimp only [go_sem];simp only [f16];dsimp only [go_sem];simp only [e4];dsimp only [go_sem];simp only [e5];dsimp only [go_sem];simp only [b16];dsimp only [go_sem];refine ⟨_,Zr,?_⟩;refine hfin _ (λt=>?_);simp only [ZB,hf]
 have h01:∀ fr',(∀ t,lk t fr'=lk t ((65,.mr n 0) :: (64,c) :: fr))->LAT Tryz.prog Y m lB 3 3 ⟨fr',(n,.row 0 1 row 3) :: hp,n+1,72,[]⟩ K:=by
  intro fr' hf;refine XH [(2,o1 66 (.ld (.t 16) 2 true)),(3,⟨none,.st (.t 10) (.t 65) 1,none,[0,1]⟩)] rfl (WL ?_ (WL ?_ Us))
  . have f16:lk 16 fr' = .p k16 0:=(hf 16).trans h16;dsimp only [go_sem];simp only [f16];dsimp only [go_sem];simp only [e5];dsimp only [go_sem];simp only [b16];dsimp only [go_sem];refine ⟨_,Zr,?_⟩;refine h3 _ (λt=>?_);simp only [ZB,hf]
  . have f10:lk 10 fr' = .p k10 0:=(hf 10).trans h10;have f65:lk 65 fr' = .mr n 0:=hf 65;dsimp only [go_sem];simp only [f10,f65];dsimp only [go_sem];simp only [e2];dsimp only [go_sem];simp only [b10];dsimp only [go_sem];refine ⟨_,Zr,?_⟩;exact h13 fr' hf
 have h02:∀ fr',(∀ t,lk t fr'=lk t ((66,.agg [I g,I u]) :: (64,c) :: fr))->LAT Tryz.prog Y m lB 3 5 ⟨fr',hp,n,72,[]⟩ K:=by
  intro fr' hf;refine XH [(1,⟨some 65,.callm 86 [.t 64],none,[0]⟩)] rfl (WL ?_ Us);have f64:lk 64 fr'=c:=hf 64;dsimp only [go_sem];simp only [f64,hs];refine hcl _ _ _ (λhp' hh=>?_);refine ⟨⟨(66,.agg [I g,I u]) :: (65,.mr n 0) :: (64,c) :: fr,(n,.row 0 1 row 3) :: hp,n+1,72,[]⟩,Zg4 (λt=>?_) (λk=>(hh k).symm) rfl rfl rfl,?_⟩
  . simp only [ZB,hf];split<;>split<;>simp_all
  . exact h3 _ (λ_=>rfl)
 have h0:∀ fr',(∀ t,lk t fr'=lk t ((64,c) :: fr))->LAT Tryz.prog Y m lB 4 1 ⟨fr',hp,n,72,[]⟩ K:=by
  intro fr' hf;refine XH [(1,⟨some 65,.callm 86 [.t 64],none,[0]⟩),(2,o1 66 (.ld (.t 16) 2 true))] rfl (WL ?_ (WL ?_ Us))
  . have f64:lk 64 fr'=c:=hf 64;dsimp only [go_sem];simp only [f64,hs];refine hcl _ _ _ (λhp' hh=>?_);refine ⟨⟨(65,.mr n 0) :: (64,c) :: fr,(n,.row 0 1 row 3) :: hp,n+1,72,[]⟩,Zg4 (λt=>?_) (λk=>(hh k).symm) rfl rfl rfl,?_⟩
    . simp only [ZB,hf]
    . exact h01 _ (λ_=>rfl)
  . have f16:lk 16 fr' = .p k16 0:=(hf 16).trans h16;dsimp only [go_sem];simp only [f16];dsimp only [go_sem];simp only [b16];dsimp only [go_sem];refine ⟨_,Zr,?_⟩;refine h02 _ (λt=>?_);simp only [ZB,hf]
 have h2:∀ fr',(∀ t,lk t fr'=lk t ((66,.agg [I g,I u]) :: fr))->LAT Tryz.prog Y m lB 4 4 ⟨fr',hp,n,72,[]⟩ K:=by
  intro fr' hf;refine XH [(0,m1 64 15)] rfl (WL ?_ Us);have f15:lk 15 fr'=c:=(hf 15).trans h15;dsimp only [go_sem];simp only [f15,hs,hgd];dsimp only [go_sem];refine ⟨_,Zr,?_⟩;refine h02 _ (λt=>?_);simp only [ZB,hf];split<;>split<;>simp_all
 refine XH [(0,m1 64 15),(2,o1 66 (.ld (.t 16) 2 true))] rfl (WL ?_ (WL ?_ Us))
 . dsimp only [go_sem];simp only [h15,hs,hgd];dsimp only [go_sem];refine ⟨_,Zr,?_⟩;exact h0 _ (λ_=>rfl)
 . dsimp only [go_sem];simp only [h16];dsimp only [go_sem];simp only [b16];dsimp only [go_sem];refine ⟨_,Zr,?_⟩;exact h2 _ (λ_=>rfl)
theorem hclS (c:Bool) (a b:Int) (n:Nat) (hp:List (Nat × HB)) (fr':List (Nat × SV)) (r:KT) (K:RK) (hk:∀ hp',(∀ k,lkh k hp'=lkh k ((n,.row 0 1 [[I a],[I b]] 3) :: hp))->r ⟨(65,.mr n 0) :: fr',hp',n+1,72,[]⟩ K):Zaw Tryz.prog 86 [.sl c 1 [[I a],[I b]]] (some 65) ⟨fr',hp,n,72,[]⟩ r K:=by
 refine Zl [] (Zjm c a b) rfl rfl rfl ?_ ?_ ?_
 . (repeat first | dsimp only [go_sem] | simp only [nbr])
   try simp [mtL,mtB,mtS,KFR,KFL,KF]
 . trivial
 rintro _ rfl
 (repeat first | dsimp only [go_sem] | simp only [nbr])
 exact hk _ (λk=>rfl)
theorem hclM (kr v:Nat) (a b:Int) (T:TypeId) (n:Nat) (hp:List (Nat × HB)) (h1:lkh kr hp = .row v 1 [[I a],[I b]] T) (h2:kr < n) (fr':List (Nat × SV)) (r:KT) (K:RK) (hk:∀ hp',(∀ k,lkh k hp'=lkh k ((n,.row 0 1 [[I a],[I b]] 3) :: hp))->r ⟨(65,.mr n 0) :: fr',hp',n+1,72,[]⟩ K):Zaw Tryz.prog 86 [.mr kr v] (some 65) ⟨fr',hp,n,72,[]⟩ r K:=by
 refine Zl [kr] (Zjz v a b T) rfl rfl ?_ ?_ ?_ ?_
 . simp [Ug,h2]
 . (repeat first | dsimp only [go_sem] | simp only [nbr])
   try simp [mtL,mtB,mtS,KFR,KFL,KF]
 . (repeat first | dsimp only [go_sem] | simp only [nbr])
   simp [h1,mtL,mtB,mtS,mtH,mtM,KFR,KFL,KF]
 rintro _ rfl
 (repeat first | dsimp only [go_sem] | simp only [nbr])
 refine hk _ (λk=>?_);simp only [Zj];split<;>split<;>simp_all
theorem Zo4:Ct Tryz.prog 31 [.sl true 8 [Zm X0],fgL,I 0,I 10,I 1] (.tup [.sl false 1 [[I (-1)],[I 0]],I 12,I 0]):=by
 refine t31.1 (by simp [fgL,Zm,X0,kfF,kfG,KFL,KF,KFR]) (by simp [KFL,KF,KFR]) ?_;dsimp only [c31,r31,fgL,go_sem];refine Zl [] (ZdO X0 F0 G0 true true true (by decide) (by decide) (by decide) (by decide)) rfl rfl rfl ?_ ?_ ?_
 . (repeat first | dsimp only [go_sem] | simp only [nbr])
   try simp [mtL,mtB,mtS,Zm,kfF,kfG,KFL,KF,KFR]
 . trivial
 rintro _ rfl
 (repeat first | dsimp only [Z7,Yg,go_sem] | simp only [nbr])
 refine Zn rfl ?_;dsimp only [go_sem];refine call (ZbK _) ?_;dsimp only [go_sem];rw [show inR 0 4 0=true from rfl];repeat (refine ZO rfl ?_;dsimp only [go_sem])
 refine call (ZbK _) ?_;dsimp only [go_sem];rw [show inR 0 4 1=true from rfl];repeat (refine ZO rfl ?_;dsimp only [go_sem])
 refine call (Ur _ _ _) ?_;dsimp only [go_sem];rw [show inR 0 1000000 10=true from rfl];repeat (refine ZO rfl ?_;dsimp only [go_sem])
 refine Zn rfl ?_;dsimp only [go_sem];refine Zl [3,4] (Zy4 0 0 10) rfl rfl rfl ?_ ?_ ?_
 . (repeat first | dsimp only [fgL,go_sem] | simp only [nbr])
   try simp [mtL,mtB,mtS,kfF,kfG,KFL,KF,KFR]
 . (repeat first | dsimp only [mkH,Z7,Yg,go_sem] | simp only [nbr])
   try simp [mtL,mtB,mtS,mpS,Zk,Zm,KFL,KF,KFR]
 rintro _ rfl
 (repeat first | dsimp only [chH,fgL,mkH,Z7,Yg,go_sem] | simp only [nbr])
 refine gh Zr ?_;dsimp only [go_sem];refine ⟨Zcn,λrec=>?_⟩;refine ZbM ?_;dsimp only [U4,Zaf,go_sem];refine Zn rfl ?_;dsimp only [go_sem];refine Zl [3,4] (Xw X0 F0 G0 true true true 0 rfl rfl (by decide) (by decide) (.inl rfl)) rfl rfl rfl ?_ ?_ ?_
 . (repeat first | dsimp only [fgL,go_sem] | simp only [nbr])
   try simp [mtL,mtB,mtS,kfF,kfG,KFL,KF,KFR]
 . (repeat first | dsimp only [Z7,Yg,go_sem] | simp only [nbr])
   try simp [mtL,mtB,mtS,mpS,Zk,Zm,KFL,KF,KFR]
 rintro _ rfl
 (repeat first | dsimp only [Z7,Yg,go_sem] | simp only [nbr])
 refine UB (by simp) ?_;dsimp only [go_sem];refine ZU 3 ?_;dsimp only [Zc,go_sem];refine Zt rfl ?_;dsimp only [go_sem];refine ixs 0 _ rfl rfl ?_;dsimp only [go_sem];refine Zn rfl ?_;dsimp only [go_sem];refine Zt rfl ?_;dsimp only [go_sem];refine ixs 0 _ rfl rfl ?_;dsimp only [Zu,F0,Azalai.keepF,go_sem];refine ixs 0 _ rfl rfl ?_;dsimp only [Zh,go_sem];refine call (Xj 10 900 (by decide) (by decide)) ?_
 dsimp only [go_sem];rw [show ((10:Int) * 900).tdiv 1000=9 from rfl];refine ⟨by simp,?_⟩;dsimp only [go_sem];rw [show IntKind.i64.wrap (((0:Nat):Int)+1)=((1:Nat):Int) from rfl];refine Zl [3,4,14] (Zg7 0 (-1) 1 0 9) rfl rfl rfl ?_ ?_ ?_
 . (repeat first | dsimp only [fgL,Zu,F0,G0,go_sem] | simp only [nbr])
   try simp [mtL,mtB,mtS,KFL,KF,KFR,fgL,Zu,F0,G0,Azalai.keepF,Zh,Zy]
 . (repeat first | dsimp only [mkH,Z7,Yg,go_sem] | simp only [nbr])
   try simp [mtL,mtB,mtS,mpS,Zk,Zm,KFL,KF,KFR]
 rintro _ rfl
 (repeat first | dsimp only [chH,fgL,mkH,Z7,Yg,go_sem] | simp only [nbr])
 refine gh2 (ZbG 14 18 0 rfl rfl rfl rfl) ?_ ?_
 . skip
   dsimp only [go_sem];refine ⟨ZrI,λrec1=>?_⟩;refine ZsT ?_;dsimp only [ZiL,Zko,go_sem];refine Zn rfl ?_;dsimp only [go_sem];refine Zl [3,4] (Xw X0 F0 G0 true true true 1 rfl rfl (by decide) (by decide) (.inr rfl)) rfl rfl rfl ?_ ?_ ?_
   . (repeat first | dsimp only [fgL,go_sem] | simp only [nbr])
     try simp [mtL,mtB,mtS,kfF,kfG,KFL,KF,KFR]
   . (repeat first | dsimp only [Z7,Yg,go_sem] | simp only [nbr])
     try simp [mtL,mtB,mtS,mpS,Zk,Zm,KFL,KF,KFR]
   rintro _ rfl
   (repeat first | dsimp only [Z7,Yg,go_sem] | simp only [nbr])
   refine UB (by simp) ?_;dsimp only [go_sem];refine ZU 3 ?_;dsimp only [Zc,go_sem];refine Zt rfl ?_;dsimp only [go_sem];refine ixs 0 _ rfl rfl ?_;dsimp only [go_sem];refine Zn rfl ?_;dsimp only [go_sem];refine Zn rfl ?_;dsimp only [go_sem];refine UB (by simp) ?_;dsimp only [go_sem];rw [show IntKind.i64.wrap (((1:Nat):Int)+1)=((2:Nat):Int) from rfl];refine Zl [3,4] (Zef (-1) (-1) 2 0 9) rfl rfl rfl ?_ ?_ ?_
   . (repeat first | dsimp only [fgL,Zu,F0,G0,go_sem] | simp only [nbr])
     try simp [mtL,mtB,mtS,KFL,KF,KFR,fgL,Zu,F0,G0,Azalai.keepF,Zh,Zy,kfF,kfG]
   . (repeat first | dsimp only [mkH,Z7,Yg,go_sem] | simp only [nbr])
     try simp [mtL,mtB,mtS,mpS,Zk,Zm,X0,KFL,KF,KFR]
   rintro _ rfl
   (repeat first | dsimp only [chH,fgL,mkH,Z7,Yg,go_sem] | simp only [nbr])
   refine gh Zr ?_;dsimp only [go_sem];refine ⟨Zcn,λrec2=>?_⟩;refine ZbM ?_;dsimp only [U4,Zaf,go_sem];repeat (first | (refine ⟨rfl,?_⟩) | (refine Zn rfl ?_;dsimp only [go_sem]) | (refine Zt rfl ?_;dsimp only [go_sem]) | (refine ZO rfl ?_;dsimp only [go_sem]) | (refine XB (by decide) ?_;dsimp only [go_sem]) | (refine ixs 0 _ rfl rfl ?_;dsimp only [Zm,X0,go_sem]) | (refine ixs 1 _ rfl rfl ?_;dsimp only [go_sem]) | (refine Zcq (by decide) ?_;dsimp only [go_sem]) | (refine UB (by simp) ?_;dsimp only [go_sem]))
   simp only [show IntKind.i64.wrap (IntKind.i64.wrap (Int.tdiv 9 2) * 3)=12 from rfl,show IntKind.i64.wrap (((1:Nat):Int)+1)=((2:Nat):Int) from rfl];refine Zl [3,4] (Zef (-1) (0) 2 1 12) rfl rfl rfl ?_ ?_ ?_
   . (repeat first | dsimp only [fgL,Zu,F0,G0,go_sem] | simp only [nbr])
     try simp [mtL,mtB,mtS,KFL,KF,KFR,fgL,Zu,F0,G0,Azalai.keepF,Zh,Zy,kfF,kfG]
   . (repeat first | dsimp only [mkH,Z7,Yg,go_sem] | simp only [nbr])
     try simp [mtL,mtB,mtS,mpS,Zk,Zm,X0,KFL,KF,KFR]
   rintro _ rfl
   (repeat first | dsimp only [chH,fgL,mkH,Z7,Yg,go_sem] | simp only [nbr])
   refine gh Zr ?_;dsimp only [go_sem];refine ⟨Zcn,λrec3=>?_⟩;refine ZbM ?_;dsimp only [U4,Zaf,go_sem];repeat (first | (refine ⟨rfl,?_⟩) | (refine Zn rfl ?_;dsimp only [go_sem]) | (refine Zt rfl ?_;dsimp only [go_sem]) | (refine ZO rfl ?_;dsimp only [go_sem]) | (refine XB (by decide) ?_;dsimp only [go_sem]) | (refine ixs 0 _ rfl rfl ?_;dsimp only [Zm,X0,go_sem]) | (refine ixs 1 _ rfl rfl ?_;dsimp only [go_sem]) | (refine Zcq (by decide) ?_;dsimp only [go_sem]) | (refine UB (by simp) ?_;dsimp only [go_sem]))
   refine gh Zr ?_;refine Zh9 (.sl false 1 [[I (-1)],[I 0]]) _ _ _ [[I (-1)],[I 0]] 1 12 1 6 41 (λ_=>rfl) rfl rfl rfl rfl rfl rfl rfl rfl rfl rfl rfl rfl rfl (hclS false (-1) 0 _ _) ?_;dsimp only [go_sem];repeat (first | (refine ⟨rfl,?_⟩) | (refine Zn rfl ?_;dsimp only [go_sem]) | (refine Zt rfl ?_;dsimp only [go_sem]) | (refine ZO rfl ?_;dsimp only [go_sem]) | (refine XB (by decide) ?_;dsimp only [go_sem]) | (refine ixs 0 _ rfl rfl ?_;dsimp only [Zm,X0,go_sem]) | (refine ixs 1 _ rfl rfl ?_;dsimp only [go_sem]) | (refine Zcq (by decide) ?_;dsimp only [go_sem]) | (refine UB (by simp) ?_;dsimp only [go_sem]))
   simp only [show IntKind.i64.wrap (IntKind.i64.wrap (Int.tdiv 10 2) * 3)=15 from rfl];dsimp only [Zh,Zy,go_sem];refine call (Xj 15 0 (by decide) (by decide)) ?_;dsimp only [go_sem];rw [show ((15:Int) * 0).tdiv 1000=0 from rfl];refine ⟨by simp,?_⟩;dsimp only [go_sem];rw [show IntKind.i64.wrap (((0:Nat):Int)+1)=((1:Nat):Int) from rfl];refine Zl [3,4,45] (Zg7 0 0 1 1 0) rfl rfl rfl ?_ ?_ ?_
   . (repeat first | dsimp only [fgL,Zu,F0,G0,go_sem] | simp only [nbr])
     try simp [mtL,mtB,mtS,KFL,KF,KFR,fgL,Zu,F0,G0,Azalai.keepF,Zh,Zy,kfF,kfG]
   . (repeat first | dsimp only [mkH,Z7,Yg,go_sem] | simp only [nbr])
     try simp [mtL,mtB,mtS,mpS,Zk,Zm,X0,KFL,KF,KFR]
   rintro _ rfl
   (repeat first | dsimp only [chH,fgL,mkH,Z7,Yg,go_sem] | simp only [nbr])
   refine gh2 (ZbG 45 49 0 rfl rfl rfl rfl) ?_ ?_
   . skip
     dsimp only [go_sem];refine ⟨ZrI,λrec4=>?_⟩;refine ZsT ?_;dsimp only [ZiL,Zko,go_sem];refine Zn rfl ?_;dsimp only [go_sem];refine Zl [3,4] (Xw X0 F0 G0 true true true 1 rfl rfl (by decide) (by decide) (.inr rfl)) rfl rfl rfl ?_ ?_ ?_
     . (repeat first | dsimp only [fgL,go_sem] | simp only [nbr])
       try simp [mtL,mtB,mtS,kfF,kfG,KFL,KF,KFR]
     . (repeat first | dsimp only [Z7,Yg,go_sem] | simp only [nbr])
       try simp [mtL,mtB,mtS,mpS,Zk,Zm,KFL,KF,KFR]
     rintro _ rfl
     (repeat first | dsimp only [Z7,Yg,go_sem] | simp only [nbr])
     refine UB (by simp) ?_;dsimp only [go_sem];refine ZU 3 ?_;dsimp only [Zc,go_sem];refine Zt rfl ?_;dsimp only [go_sem];refine ixs 0 _ rfl rfl ?_;dsimp only [go_sem];refine Zn rfl ?_;dsimp only [go_sem];refine Zn rfl ?_;dsimp only [go_sem];refine UB (by simp) ?_;dsimp only [go_sem];rw [show IntKind.i64.wrap (((1:Nat):Int)+1)=((2:Nat):Int) from rfl];refine Zl [3,4] (Zef (0) (-1) 2 1 0) rfl rfl rfl ?_ ?_ ?_
     . (repeat first | dsimp only [fgL,Zu,F0,G0,go_sem] | simp only [nbr])
       try simp [mtL,mtB,mtS,KFL,KF,KFR,fgL,Zu,F0,G0,Azalai.keepF,Zh,Zy,kfF,kfG]
     . (repeat first | dsimp only [mkH,Z7,Yg,go_sem] | simp only [nbr])
       try simp [mtL,mtB,mtS,mpS,Zk,Zm,X0,KFL,KF,KFR]
     rintro _ rfl
     (repeat first | dsimp only [chH,fgL,mkH,Z7,Yg,go_sem] | simp only [nbr])
     refine gh Zr ?_;dsimp only [go_sem];refine ⟨Zcn,λrec5=>?_⟩;refine ZbM ?_;dsimp only [U4,Zaf,go_sem];repeat (first | (refine ⟨rfl,?_⟩) | (refine Zn rfl ?_;dsimp only [go_sem]) | (refine Zt rfl ?_;dsimp only [go_sem]) | (refine ZO rfl ?_;dsimp only [go_sem]) | (refine XB (by decide) ?_;dsimp only [go_sem]) | (refine ixs 0 _ rfl rfl ?_;dsimp only [Zm,X0,go_sem]) | (refine ixs 1 _ rfl rfl ?_;dsimp only [go_sem]) | (refine Zcq (by decide) ?_;dsimp only [go_sem]) | (refine UB (by simp) ?_;dsimp only [go_sem]))
     refine Vr (x:=.t 67) (by kernel_rfl) rfl rfl (by simp) ?_;dsimp only [go_sem];refine Zn rfl ?_;dsimp only [go_sem]
   . skip
     dsimp only [go_sem];refine ⟨ZuH,λrec6=>?_⟩;refine ZsN ?_;dsimp only [Zj1,ZhN,go_sem];refine Zn rfl ?_;dsimp only [go_sem];refine Zl [3,4] (Xw X0 F0 G0 true true true 1 rfl rfl (by decide) (by decide) (.inr rfl)) rfl rfl rfl ?_ ?_ ?_
     . (repeat first | dsimp only [fgL,go_sem] | simp only [nbr])
       try simp [mtL,mtB,mtS,kfF,kfG,KFL,KF,KFR]
     . (repeat first | dsimp only [Z7,Yg,go_sem] | simp only [nbr])
       try simp [mtL,mtB,mtS,mpS,Zk,Zm,KFL,KF,KFR]
     rintro _ rfl
     (repeat first | dsimp only [Z7,Yg,go_sem] | simp only [nbr])
     refine UB (by simp) ?_;dsimp only [go_sem];refine ZU 3 ?_;dsimp only [Zc,go_sem];refine Zt rfl ?_;dsimp only [go_sem];refine ixs 0 _ rfl rfl ?_;dsimp only [go_sem];refine Zn rfl ?_;dsimp only [go_sem];refine Zn rfl ?_;dsimp only [go_sem];refine ⟨by decide,by simp,by simp,?_⟩;dsimp only [go_sem];rw [show IntKind.i64.wrap (((1:Nat):Int)+1)=((2:Nat):Int) from rfl];refine Zl [3,4,45] (Zbz 1 (0) (-1) 2 1 0) rfl rfl rfl ?_ ?_ ?_
     . (repeat first | dsimp only [fgL,Zu,F0,G0,go_sem] | simp only [nbr])
       try simp [mtL,mtB,mtS,KFL,KF,KFR,fgL,Zu,F0,G0,Azalai.keepF,Zh,Zy,kfF,kfG]
     . (repeat first | dsimp only [mkH,Z7,Yg,go_sem] | simp only [nbr])
       try simp [mtL,mtB,mtS,mpS,Zk,Zm,X0,KFL,KF,KFR]
     rintro _ rfl
     (repeat first | dsimp only [chH,fgL,mkH,Z7,Yg,go_sem] | simp only [nbr])
     refine gh Zr ?_;dsimp only [go_sem];refine ⟨Zcn,λrec7=>?_⟩;refine ZbM ?_;dsimp only [U4,Zaf,go_sem];repeat (first | (refine ⟨rfl,?_⟩) | (refine Zn rfl ?_;dsimp only [go_sem]) | (refine Zt rfl ?_;dsimp only [go_sem]) | (refine ZO rfl ?_;dsimp only [go_sem]) | (refine XB (by decide) ?_;dsimp only [go_sem]) | (refine ixs 0 _ rfl rfl ?_;dsimp only [Zm,X0,go_sem]) | (refine ixs 1 _ rfl rfl ?_;dsimp only [go_sem]) | (refine Zcq (by decide) ?_;dsimp only [go_sem]) | (refine UB (by simp) ?_;dsimp only [go_sem]))
     refine Vr (x:=.t 67) (by kernel_rfl) rfl rfl (by simp) ?_;dsimp only [go_sem];refine Zn rfl ?_;dsimp only [go_sem]
 . skip
   dsimp only [go_sem];refine ⟨ZuH,λrec8=>?_⟩;refine ZsN ?_;dsimp only [Zj1,ZhN,go_sem];refine Zn rfl ?_;dsimp only [go_sem];refine Zl [3,4] (Xw X0 F0 G0 true true true 1 rfl rfl (by decide) (by decide) (.inr rfl)) rfl rfl rfl ?_ ?_ ?_
   . (repeat first | dsimp only [fgL,go_sem] | simp only [nbr])
     try simp [mtL,mtB,mtS,kfF,kfG,KFL,KF,KFR]
   . (repeat first | dsimp only [Z7,Yg,go_sem] | simp only [nbr])
     try simp [mtL,mtB,mtS,mpS,Zk,Zm,KFL,KF,KFR]
   rintro _ rfl
   (repeat first | dsimp only [Z7,Yg,go_sem] | simp only [nbr])
   refine UB (by simp) ?_;dsimp only [go_sem];refine ZU 3 ?_;dsimp only [Zc,go_sem];refine Zt rfl ?_;dsimp only [go_sem];refine ixs 0 _ rfl rfl ?_;dsimp only [go_sem];refine Zn rfl ?_;dsimp only [go_sem];refine Zn rfl ?_;dsimp only [go_sem];refine ⟨by decide,by simp,by simp,?_⟩;dsimp only [go_sem];rw [show IntKind.i64.wrap (((1:Nat):Int)+1)=((2:Nat):Int) from rfl];refine Zl [3,4,14] (Zbz 1 (-1) (-1) 2 0 9) rfl rfl rfl ?_ ?_ ?_
   . (repeat first | dsimp only [fgL,Zu,F0,G0,go_sem] | simp only [nbr])
     try simp [mtL,mtB,mtS,KFL,KF,KFR,fgL,Zu,F0,G0,Azalai.keepF,Zh,Zy,kfF,kfG]
   . (repeat first | dsimp only [mkH,Z7,Yg,go_sem] | simp only [nbr])
     try simp [mtL,mtB,mtS,mpS,Zk,Zm,X0,KFL,KF,KFR]
   rintro _ rfl
   (repeat first | dsimp only [chH,fgL,mkH,Z7,Yg,go_sem] | simp only [nbr])
   refine gh Zr ?_;dsimp only [go_sem];refine ⟨Zcn,λrec9=>?_⟩;refine ZbM ?_;dsimp only [U4,Zaf,go_sem];repeat (first | (refine ⟨rfl,?_⟩) | (refine Zn rfl ?_;dsimp only [go_sem]) | (refine Zt rfl ?_;dsimp only [go_sem]) | (refine ZO rfl ?_;dsimp only [go_sem]) | (refine XB (by decide) ?_;dsimp only [go_sem]) | (refine ixs 0 _ rfl rfl ?_;dsimp only [Zm,X0,go_sem]) | (refine ixs 1 _ rfl rfl ?_;dsimp only [go_sem]) | (refine Zcq (by decide) ?_;dsimp only [go_sem]) | (refine UB (by simp) ?_;dsimp only [go_sem]))
   simp only [show IntKind.i64.wrap (IntKind.i64.wrap (Int.tdiv 9 2) * 3)=12 from rfl,show IntKind.i64.wrap (((1:Nat):Int)+1)=((2:Nat):Int) from rfl];refine ⟨by decide,by simp,by simp,?_⟩;dsimp only [go_sem];refine Zl [3,4,14] (Zbz 1 (-1) (0) 2 1 12) rfl rfl rfl ?_ ?_ ?_
   . (repeat first | dsimp only [fgL,Zu,F0,G0,go_sem] | simp only [nbr])
     try simp [mtL,mtB,mtS,KFL,KF,KFR,fgL,Zu,F0,G0,Azalai.keepF,Zh,Zy,kfF,kfG]
   . (repeat first | dsimp only [mkH,Z7,Yg,go_sem] | simp only [nbr])
     try simp [mtL,mtB,mtS,mpS,Zk,Zm,X0,KFL,KF,KFR]
   rintro _ rfl
   (repeat first | dsimp only [chH,fgL,mkH,Z7,Yg,go_sem] | simp only [nbr])
   refine gh Zr ?_;dsimp only [go_sem];refine ⟨Zcn,λrec10=>?_⟩;refine ZbM ?_;dsimp only [U4,Zaf,go_sem];repeat (first | (refine ⟨rfl,?_⟩) | (refine Zn rfl ?_;dsimp only [go_sem]) | (refine Zt rfl ?_;dsimp only [go_sem]) | (refine ZO rfl ?_;dsimp only [go_sem]) | (refine XB (by decide) ?_;dsimp only [go_sem]) | (refine ixs 0 _ rfl rfl ?_;dsimp only [Zm,X0,go_sem]) | (refine ixs 1 _ rfl rfl ?_;dsimp only [go_sem]) | (refine Zcq (by decide) ?_;dsimp only [go_sem]) | (refine UB (by simp) ?_;dsimp only [go_sem]))
   refine gh Zr ?_;refine Zh9 (.mr 14 1) _ _ _ [[I (-1)],[I 0]] 1 12 1 6 41 (λ_=>rfl) rfl rfl rfl rfl rfl rfl rfl rfl rfl rfl rfl rfl rfl (hclM 14 1 (-1) 0 3 _ _ rfl (by decide)) ?_;dsimp only [go_sem];repeat (first | (refine ⟨rfl,?_⟩) | (refine Zn rfl ?_;dsimp only [go_sem]) | (refine Zt rfl ?_;dsimp only [go_sem]) | (refine ZO rfl ?_;dsimp only [go_sem]) | (refine XB (by decide) ?_;dsimp only [go_sem]) | (refine ixs 0 _ rfl rfl ?_;dsimp only [Zm,X0,go_sem]) | (refine ixs 1 _ rfl rfl ?_;dsimp only [go_sem]) | (refine Zcq (by decide) ?_;dsimp only [go_sem]) | (refine UB (by simp) ?_;dsimp only [go_sem]))
   simp only [show IntKind.i64.wrap (IntKind.i64.wrap (Int.tdiv 10 2) * 3)=15 from rfl];dsimp only [Zh,Zy,go_sem];refine call (Xj 15 0 (by decide) (by decide)) ?_;dsimp only [go_sem];rw [show ((15:Int) * 0).tdiv 1000=0 from rfl];refine ⟨by simp,?_⟩;dsimp only [go_sem];rw [show IntKind.i64.wrap (((0:Nat):Int)+1)=((1:Nat):Int) from rfl];refine Zl [3,4,45] (Zg7 0 0 1 1 0) rfl rfl rfl ?_ ?_ ?_
   . (repeat first | dsimp only [fgL,Zu,F0,G0,go_sem] | simp only [nbr])
     try simp [mtL,mtB,mtS,KFL,KF,KFR,fgL,Zu,F0,G0,Azalai.keepF,Zh,Zy,kfF,kfG]
   . (repeat first | dsimp only [mkH,Z7,Yg,go_sem] | simp only [nbr])
     try simp [mtL,mtB,mtS,mpS,Zk,Zm,X0,KFL,KF,KFR]
   rintro _ rfl
   (repeat first | dsimp only [chH,fgL,mkH,Z7,Yg,go_sem] | simp only [nbr])
   refine gh2 (ZbG 45 49 0 rfl rfl rfl rfl) ?_ ?_
   . skip
     dsimp only [go_sem];refine ⟨ZrI,λrec11=>?_⟩;refine ZsT ?_;dsimp only [ZiL,Zko,go_sem];refine Zn rfl ?_;dsimp only [go_sem];refine Zl [3,4] (Xw X0 F0 G0 true true true 1 rfl rfl (by decide) (by decide) (.inr rfl)) rfl rfl rfl ?_ ?_ ?_
     . (repeat first | dsimp only [fgL,go_sem] | simp only [nbr])
       try simp [mtL,mtB,mtS,kfF,kfG,KFL,KF,KFR]
     . (repeat first | dsimp only [Z7,Yg,go_sem] | simp only [nbr])
       try simp [mtL,mtB,mtS,mpS,Zk,Zm,KFL,KF,KFR]
     rintro _ rfl
     (repeat first | dsimp only [Z7,Yg,go_sem] | simp only [nbr])
     refine UB (by simp) ?_;dsimp only [go_sem];refine ZU 3 ?_;dsimp only [Zc,go_sem];refine Zt rfl ?_;dsimp only [go_sem];refine ixs 0 _ rfl rfl ?_;dsimp only [go_sem];refine Zn rfl ?_;dsimp only [go_sem];refine Zn rfl ?_;dsimp only [go_sem];refine UB (by simp) ?_;dsimp only [go_sem];rw [show IntKind.i64.wrap (((1:Nat):Int)+1)=((2:Nat):Int) from rfl];refine Zl [3,4] (Zef (0) (-1) 2 1 0) rfl rfl rfl ?_ ?_ ?_
     . (repeat first | dsimp only [fgL,Zu,F0,G0,go_sem] | simp only [nbr])
       try simp [mtL,mtB,mtS,KFL,KF,KFR,fgL,Zu,F0,G0,Azalai.keepF,Zh,Zy,kfF,kfG]
     . (repeat first | dsimp only [mkH,Z7,Yg,go_sem] | simp only [nbr])
       try simp [mtL,mtB,mtS,mpS,Zk,Zm,X0,KFL,KF,KFR]
     rintro _ rfl
     (repeat first | dsimp only [chH,fgL,mkH,Z7,Yg,go_sem] | simp only [nbr])
     refine gh Zr ?_;dsimp only [go_sem];refine ⟨Zcn,λrec12=>?_⟩;refine ZbM ?_;dsimp only [U4,Zaf,go_sem];repeat (first | (refine ⟨rfl,?_⟩) | (refine Zn rfl ?_;dsimp only [go_sem]) | (refine Zt rfl ?_;dsimp only [go_sem]) | (refine ZO rfl ?_;dsimp only [go_sem]) | (refine XB (by decide) ?_;dsimp only [go_sem]) | (refine ixs 0 _ rfl rfl ?_;dsimp only [Zm,X0,go_sem]) | (refine ixs 1 _ rfl rfl ?_;dsimp only [go_sem]) | (refine Zcq (by decide) ?_;dsimp only [go_sem]) | (refine UB (by simp) ?_;dsimp only [go_sem]))
     refine Vr (x:=.t 67) (by kernel_rfl) rfl rfl (by simp) ?_;dsimp only [go_sem];refine Zn rfl ?_;dsimp only [go_sem]
   . skip
     dsimp only [go_sem];refine ⟨ZuH,λrec13=>?_⟩;refine ZsN ?_;dsimp only [Zj1,ZhN,go_sem];refine Zn rfl ?_;dsimp only [go_sem];refine Zl [3,4] (Xw X0 F0 G0 true true true 1 rfl rfl (by decide) (by decide) (.inr rfl)) rfl rfl rfl ?_ ?_ ?_
     . (repeat first | dsimp only [fgL,go_sem] | simp only [nbr])
       try simp [mtL,mtB,mtS,kfF,kfG,KFL,KF,KFR]
     . (repeat first | dsimp only [Z7,Yg,go_sem] | simp only [nbr])
       try simp [mtL,mtB,mtS,mpS,Zk,Zm,KFL,KF,KFR]
     rintro _ rfl
     (repeat first | dsimp only [Z7,Yg,go_sem] | simp only [nbr])
     refine UB (by simp) ?_;dsimp only [go_sem];refine ZU 3 ?_;dsimp only [Zc,go_sem];refine Zt rfl ?_;dsimp only [go_sem];refine ixs 0 _ rfl rfl ?_;dsimp only [go_sem];refine Zn rfl ?_;dsimp only [go_sem];refine Zn rfl ?_;dsimp only [go_sem];refine ⟨by decide,by simp,by simp,?_⟩;dsimp only [go_sem];rw [show IntKind.i64.wrap (((1:Nat):Int)+1)=((2:Nat):Int) from rfl];refine Zl [3,4,45] (Zbz 1 (0) (-1) 2 1 0) rfl rfl rfl ?_ ?_ ?_
     . (repeat first | dsimp only [fgL,Zu,F0,G0,go_sem] | simp only [nbr])
       try simp [mtL,mtB,mtS,KFL,KF,KFR,fgL,Zu,F0,G0,Azalai.keepF,Zh,Zy,kfF,kfG]
     . (repeat first | dsimp only [mkH,Z7,Yg,go_sem] | simp only [nbr])
       try simp [mtL,mtB,mtS,mpS,Zk,Zm,X0,KFL,KF,KFR]
     rintro _ rfl
     (repeat first | dsimp only [chH,fgL,mkH,Z7,Yg,go_sem] | simp only [nbr])
     refine gh Zr ?_;dsimp only [go_sem];refine ⟨Zcn,λrec14=>?_⟩;refine ZbM ?_;dsimp only [U4,Zaf,go_sem];repeat (first | (refine ⟨rfl,?_⟩) | (refine Zn rfl ?_;dsimp only [go_sem]) | (refine Zt rfl ?_;dsimp only [go_sem]) | (refine ZO rfl ?_;dsimp only [go_sem]) | (refine XB (by decide) ?_;dsimp only [go_sem]) | (refine ixs 0 _ rfl rfl ?_;dsimp only [Zm,X0,go_sem]) | (refine ixs 1 _ rfl rfl ?_;dsimp only [go_sem]) | (refine Zcq (by decide) ?_;dsimp only [go_sem]) | (refine UB (by simp) ?_;dsimp only [go_sem]))
     refine Vr (x:=.t 67) (by kernel_rfl) rfl rfl (by simp) ?_;dsimp only [go_sem];refine Zn rfl ?_;dsimp only [go_sem]
end Go.Proofs.YtkpkgafhfakpdaaGreatDoor
