/- Walks and plain laws that lead to the given statement, part 8 of 9. -/
import Derived.Test.YtkpkgafhfakpdaaGreatDoorQG
import Derived.Laws.BytesString
set_option maxRecDepth 100000
set_option maxHeartbeats 4000000
set_option linter.all false
open Nat renaming beq_refl->nbr
namespace Go.Proofs.YtkpkgafhfakpdaaGreatDoor.Cm
open Go Go.Sx Go.Azalai
theorem uwn {n:Int} (h0:0<=n) (h1:n < 18446744073709551616):IntKind.u64.wrap n=n:=by
 have e:n % 2 ^ IntKind.u64.bits=n:=Int.emod_eq_of_lt h0 (by show n < 2 ^ 64;omega);simp only [IntKind.wrap,e,show IntKind.u64.signed=false from rfl,Bool.false_and];rfl
theorem VB (m:Int) (q0:0<=m) (w:World):(binOp .shr 153 (.int .u64 m) (.int .u64 1)).run Tryz.prog w = .ok (.int .u64 (m / 2)) w:=by
 simp only [binOp,Op.shift];rw [if_neg (by decide)];have:m.fdiv (2 ^ 1)=m / 2:=by rw [Int.fdiv_eq_ediv_of_nonneg _ (by decide)];rfl
 show Result.ok (Value.int .u64 (m.fdiv (2 ^ (min (1:Int).toNat IntKind.u64.bits)))) w=_;rw [show min (1:Int).toNat IntKind.u64.bits=1 from by decide,this]
theorem Zqs (v N:Nat):∀ (a m b:Nat) (l:List Meet),b - a<=N->a < m->m < b->b<=l.length->l.length < 4611686018427387904->Srt Meet.day a m l->Srt Meet.day m b l ->
 CtM Tryz.prog 268 [(0,.row v 4 (l.map Zg) 274)] 1 [.mr 0 v,I a,I m,I b,.cl 210 []] (λo=>∃ l',PIn a b l l'/\Srt Meet.day a b l'/\o=YM v l'):=by
 induction N with
 | zero=>intro a m b l h1 h2 h3;omega
 | succ N ih =>
 intro a m b l hN ham hmb hb hL hs1 hs2;refine m268 (by simp [hpb]) (λo ho=>by obtain ⟨l',_,_,rfl⟩:=ho;simp [YM,KX,KXL,KXP,KXH,Za,KFL,KF,Zg]) ?_;dsimp only [c268,r268,go_sem];rw [Zf (n:=(m:Int) - (a:Int)) (by omega) (by omega)];by_cases hm1:m=a+1
 . refine Zs (by simp;omega) ?_;dsimp only [go_sem];refine Z1 (λs:Nat × Nat=>[(10,I (s.1:Nat)),(11,I (s.2:Nat))]) (λ_=>[]) (λs=>m<=s.1/\s.1<=s.2/\s.2<=b/\(∀ c,m<=c->c < s.1->ky Meet.day l c < ky Meet.day l a)/\∀ c,s.2<=c->c < b->ky Meet.day l a<=ky Meet.day l c) (λs=>s.2 - s.1) (m,b) ⟨Nat.le_refl _,by simp only;omega,Nat.le_refl _,λc h1 h2=>by simp only at h2;omega,λc h1 h2=>by simp only at h1;omega⟩ ?_ ?_
   . (refine Zi ?_ ?_ ?_ rfl rfl<;>dsimp only [Zg,id,go_sem]<;>simp [Zg,Za])
   rintro ⟨i,j⟩ ⟨hi,hij,hj,hlo,hhi⟩;simp only at hi hij hj hlo hhi;dsimp only [go_sem];by_cases hlt:i < j
   . refine Zs (by simpa using hlt) ?_;dsimp only [go_sem];simp (disch:=omega) only [Zf];rw [uwn (by omega) (by omega)];refine YQ rfl (.inr rfl) (VB _ (by omega)) rfl ?_;dsimp only [go_sem];obtain ⟨h,hh⟩:∃ h:Nat,((i:Int)+(j:Int)) / 2=(h:Int):=⟨(i+j) / 2,by omega⟩
     rw [hh,Zf (n:=(h:Int)) (by omega) (by omega)];have hih:i<=h/\h < j:=by omega
     (repeat first | dsimp only [go_sem] | simp only [nbr])
     refine Xl h rfl (by simp;omega) ?_
     (repeat first | dsimp only [go_sem] | simp only [nbr])
     refine Vf (by omega) ?_
     (repeat first | dsimp only [Zg,go_sem] | simp only [nbr])
     refine Xl a rfl (by simp;omega) ?_
     (repeat first | dsimp only [go_sem] | simp only [nbr])
     refine Vf (by omega) ?_
     (repeat first | dsimp only [Zg,go_sem] | simp only [nbr])
     refine call (V6 l[h] l[a]) ?_
     (repeat first | dsimp only [go_sem] | simp only [nbr])
     by_cases hk:l[h].day < l[a].day
     . refine Zs (by simp [Zdh,hk]) ?_;dsimp only [go_sem];rw [Zf (n:=(h:Int)+1) (by omega) (by omega)];have hkk:ky Meet.day l h < ky Meet.day l a:=by rw [Xt Meet.day (l:=l) (i:=h) (by omega),Xt Meet.day (l:=l) (i:=a) (by omega)];exact hk
       refine ⟨(h+1,j),⟨by simp only;omega,by simp only;omega,hj,λc g1 g2=>?_,hhi⟩,by simp only;omega,?_⟩
       . have:=hs2.le Meet.day g1 (show c<=h by simp only at g2;omega) (by omega);omega
       (refine Zi ?_ ?_ ?_ rfl rfl<;>dsimp only [Zg,id,go_sem]<;>simp [Zg,Za])
     . refine Zp (by simp [Zdh,hk];split<;>decide) ?_;dsimp only [go_sem];have hkk:ky Meet.day l a<=ky Meet.day l h:=by rw [Xt Meet.day (l:=l) (i:=h) (by omega),Xt Meet.day (l:=l) (i:=a) (by omega)];exact Int.not_lt.1 hk
       refine ⟨(i,h),⟨hi,by simp only;omega,by simp only;omega,hlo,λc g1 g2=>?_⟩,by simp only;omega,?_⟩
       . have:=hs2.le Meet.day (show m<=h by omega) g1 g2;omega
       (refine Zi ?_ ?_ ?_ rfl rfl<;>dsimp only [Zg,id,go_sem]<;>simp [Zg,Za])
   refine Zp (by simp;omega) ?_;dsimp only [go_sem];have hij':i=j:=by omega
   subst hij'
   refine Z1 (λs:Nat × List Meet=>[(13,I (s.1:Nat))]) (λs=>[(0,.row v 4 (s.2.map Zg) 274)]) (λs=>(a<=s.1/\s.1<=i - 1)/\PIn a b l s.2/\∀ p,ky Meet.day s.2 p=if a<=p/\p < s.1 then ky Meet.day l (p+1) else if p=s.1 then ky Meet.day l a else ky Meet.day l p) (λs=>i - s.1) (a,l) ⟨by simp only;omega,.refl _ _ _,λp=>by
    simp only;rw [if_neg (by omega)];split
    . rename_i h;rw [h]
    . rfl⟩ ?_ ?_
   . (refine Zi ?_ ?_ ?_ rfl rfl<;>dsimp only [Zg,id,go_sem]<;>simp [Zg,Za])
   rintro ⟨k,l1⟩ ⟨⟨hk0,hk⟩,hp,hky⟩;simp only at hk0 hk hp hky;have hl1:=hp.len;dsimp only [go_sem];rw [Zf (n:=(i:Int) - 1) (by omega) (by omega)];by_cases hlt:k < i - 1
   . refine Zs (by simp;omega) ?_
     (repeat first | dsimp only [go_sem] | simp only [nbr])
     rw [Zf (n:=(k:Int)+1) (by omega) (by omega)];refine Xl (k+1) (by omega) (by simp;omega) ?_
     (repeat first | dsimp only [go_sem] | simp only [nbr])
     refine Vf (by omega) ?_
     (repeat first | dsimp only [Zg,go_sem] | simp only [nbr])
     refine Xl k rfl (by simp;omega) ?_
     (repeat first | dsimp only [go_sem] | simp only [nbr])
     refine Vf (by omega) ?_
     (repeat first | dsimp only [Zg,go_sem] | simp only [nbr])
     refine Xl k rfl (by simp;omega) ?_
     (repeat first | dsimp only [go_sem] | simp only [nbr])
     refine Zcf l1[k+1] (by omega) (by simp [Zg]) (by simp [Zg,Zm]) ?_
     (repeat first | dsimp only [go_sem] | simp only [nbr])
     refine Xl (k+1) (by first | omega | (rw [Zf (by omega) (by omega)];omega)) (by simp;omega) ?_
     (repeat first | dsimp only [go_sem] | simp only [nbr])
     refine Zcf l1[k] (by simp;omega) (by simp [Zg]) (by simp [Zg,Zm]) ?_;rw [<- Zbb (l:=l1) (i:=k) (j:=k+1) (by omega) (by omega)]
     (repeat first | dsimp only [go_sem] | simp only [nbr])
     try rw [Zf (n:=(k:Int)+1) (by omega) (by omega)]
     rw [show (k:Int)+1=((k+1:Nat):Int) from by omega];refine ⟨(k+1,swp l1 k (k+1)),⟨by simp only;omega,hp.trans (.swap (by omega) (by omega) (by omega) (by omega) (by omega)),λp=>?_⟩,by simp only;omega,?_⟩
     . simp only;rw [Zez Meet.day (by omega) (by omega),hky,hky,hky];by_cases h1:p=k
       . subst h1;rw [if_pos rfl,if_neg (by omega),if_neg (by omega),if_pos (by omega)]
       . rw [if_neg h1];by_cases h2:p=k+1
         . subst h2;rw [if_pos rfl,if_neg (by omega),if_pos rfl,if_neg (by omega),if_pos rfl]
         . rw [if_neg h2,if_neg h2];by_cases h3:a<=p/\p < k
           . rw [if_pos h3,if_pos (by omega)]
           . rw [if_neg h3,if_neg h1,if_neg (by omega)]
     (refine Zi ?_ ?_ ?_ rfl rfl<;>dsimp only [Zg,id,go_sem]<;>simp [Zg,Za])
   refine Zp (by simp;omega) ?_;dsimp only [go_sem];have hki:k=i - 1:=by omega
   refine ⟨_,⟨l1,hp,λp q g1 g2 g3=>?_,rfl⟩,?_⟩
   . rw [hky,hky];by_cases h1:p < k
     . rw [if_pos (by omega)];by_cases h2:q < k
       . rw [if_pos (by omega)];exact hs2 _ _ (by omega) (by omega) (by omega)
       . rw [if_neg (by omega)];by_cases h3:q=k
         . rw [if_pos h3];exact Int.le_of_lt (hlo _ (by omega) (by omega))
         . rw [if_neg h3];exact hs2 _ _ (by omega) (by omega) (by omega)
     . rw [if_neg (by omega),if_neg (c:=a<=q/\q < k) (by omega),if_neg (c:=q=k) (by omega)];by_cases h3:p=k
       . rw [if_pos h3];exact hhi _ (by omega) (by omega)
       . rw [if_neg h3];exact hs2 _ _ (by omega) (by omega) (by omega)
   . simp only [YM];(refine Zq ?_ ?_ ?_ rfl<;>dsimp only [Zg,id,go_sem]<;>simp [Zg,Za])
 refine Zp (by simp;omega) ?_;dsimp only [go_sem];rw [Zf (n:=(b:Int) - (m:Int)) (by omega) (by omega)];by_cases hb1:b=m+1
 . refine Zs (by simp;omega) ?_;dsimp only [go_sem];refine Z1 (λs:Nat × Nat=>[(14,I (s.1:Nat)),(15,I (s.2:Nat))]) (λ_=>[]) (λs=>a<=s.1/\s.1<=s.2/\s.2<=m/\(∀ c,a<=c->c < s.1->ky Meet.day l c<=ky Meet.day l m)/\∀ c,s.2<=c->c < m->ky Meet.day l m < ky Meet.day l c) (λs=>s.2 - s.1) (a,m) ⟨Nat.le_refl _,by simp only;omega,Nat.le_refl _,λc h1 h2=>by simp only at h2;omega,λc h1 h2=>by simp only at h1;omega⟩ ?_ ?_
   . (refine Zi ?_ ?_ ?_ rfl rfl<;>dsimp only [Zg,id,go_sem]<;>simp [Zg,Za])
   rintro ⟨i,j⟩ ⟨hi,hij,hj,hlo,hhi⟩;simp only at hi hij hj hlo hhi;dsimp only [go_sem];by_cases hlt:i < j
   . refine Zs (by simpa using hlt) ?_;dsimp only [go_sem];simp (disch:=omega) only [Zf];rw [uwn (by omega) (by omega)];refine YQ rfl (.inr rfl) (VB _ (by omega)) rfl ?_;dsimp only [go_sem];obtain ⟨h,hh⟩:∃ h:Nat,((i:Int)+(j:Int)) / 2=(h:Int):=⟨(i+j) / 2,by omega⟩
     rw [hh,Zf (n:=(h:Int)) (by omega) (by omega)];have hih:i<=h/\h < j:=by omega
     (repeat first | dsimp only [go_sem] | simp only [nbr])
     refine Xl m rfl (by simp;omega) ?_
     (repeat first | dsimp only [go_sem] | simp only [nbr])
     refine Vf (by omega) ?_
     (repeat first | dsimp only [Zg,go_sem] | simp only [nbr])
     refine Xl h rfl (by simp;omega) ?_
     (repeat first | dsimp only [go_sem] | simp only [nbr])
     refine Vf (by omega) ?_
     (repeat first | dsimp only [Zg,go_sem] | simp only [nbr])
     refine call (V6 l[m] l[h]) ?_
     (repeat first | dsimp only [go_sem] | simp only [nbr])
     by_cases hk:l[m].day < l[h].day
     . refine Zp (by simp [Zdh,hk]) ?_;dsimp only [go_sem];have hkk:ky Meet.day l m < ky Meet.day l h:=by rw [Xt Meet.day (l:=l) (i:=h) (by omega),Xt Meet.day (l:=l) (i:=m) (by omega)];exact hk
       refine ⟨(i,h),⟨hi,by simp only;omega,by simp only;omega,hlo,λc g1 g2=>?_⟩,by simp only;omega,?_⟩
       . have:=hs1.le Meet.day (show a<=h by omega) g1 g2;omega
       (refine Zi ?_ ?_ ?_ rfl rfl<;>dsimp only [Zg,id,go_sem]<;>simp [Zg,Za])
     . refine Zs (by simp [Zdh,hk];split<;>decide) ?_;dsimp only [go_sem];rw [Zf (n:=(h:Int)+1) (by omega) (by omega)];have hkk:ky Meet.day l h<=ky Meet.day l m:=by rw [Xt Meet.day (l:=l) (i:=h) (by omega),Xt Meet.day (l:=l) (i:=m) (by omega)];exact Int.not_lt.1 hk
       refine ⟨(h+1,j),⟨by simp only;omega,by simp only;omega,hj,λc g1 g2=>?_,hhi⟩,by simp only;omega,?_⟩
       . have:=hs1.le Meet.day g1 (show c<=h by simp only at g2;omega) (by omega);omega
       (refine Zi ?_ ?_ ?_ rfl rfl<;>dsimp only [Zg,id,go_sem]<;>simp [Zg,Za])
   refine Zp (by simp;omega) ?_;dsimp only [go_sem];have hij':i=j:=by omega
   subst hij'
   refine Z1 (λs:Nat × List Meet=>[(17,I (s.1:Nat))]) (λs=>[(0,.row v 4 (s.2.map Zg) 274)]) (λs=>(i<=s.1/\s.1<=m)/\PIn a b l s.2/\∀ p,ky Meet.day s.2 p=if s.1 < p/\p<=m then ky Meet.day l (p - 1) else if p=s.1 then ky Meet.day l m else ky Meet.day l p) (λs=>s.1) (m,l) ⟨by simp only;omega,.refl _ _ _,λp=>by
    simp only;rw [if_neg (by omega)];split
    . rename_i h;rw [h]
    . rfl⟩ ?_ ?_
   . (refine Zi ?_ ?_ ?_ rfl rfl<;>dsimp only [Zg,id,go_sem]<;>simp [Zg,Za])
   rintro ⟨k,l1⟩ ⟨⟨hk0,hk⟩,hp,hky⟩;simp only at hk0 hk hp hky;have hl1:=hp.len;dsimp only [go_sem];by_cases hlt:i < k
   . refine Zs (by simp;omega) ?_
     (repeat first | dsimp only [go_sem] | simp only [nbr])
     rw [Zf (n:=(k:Int) - 1) (by omega) (by omega)];refine Xl (k - 1) (by omega) (by simp;omega) ?_
     (repeat first | dsimp only [go_sem] | simp only [nbr])
     refine Vf (by omega) ?_
     (repeat first | dsimp only [Zg,go_sem] | simp only [nbr])
     refine Xl k rfl (by simp;omega) ?_
     (repeat first | dsimp only [go_sem] | simp only [nbr])
     refine Vf (by omega) ?_
     (repeat first | dsimp only [Zg,go_sem] | simp only [nbr])
     refine Xl k rfl (by simp;omega) ?_
     (repeat first | dsimp only [go_sem] | simp only [nbr])
     refine Zcf l1[k - 1] (by omega) (by simp [Zg]) (by simp [Zg,Zm]) ?_
     (repeat first | dsimp only [go_sem] | simp only [nbr])
     refine Xl (k - 1) (by first | omega | (rw [Zf (by omega) (by omega)];omega)) (by simp;omega) ?_
     (repeat first | dsimp only [go_sem] | simp only [nbr])
     refine Zcf l1[k] (by simp;omega) (by simp [Zg]) (by simp [Zg,Zm]) ?_;rw [<- Zbb (l:=l1) (i:=k) (j:=k - 1) (by omega) (by omega)]
     (repeat first | dsimp only [go_sem] | simp only [nbr])
     try rw [Zf (n:=(k:Int) - 1) (by omega) (by omega)]
     rw [show (k:Int) - 1=((k - 1:Nat):Int) from by omega];refine ⟨(k - 1,swp l1 k (k - 1)),⟨by simp only;omega,hp.trans (.swap (by omega) (by omega) (by omega) (by omega) (by omega)),λp=>?_⟩,by simp only;omega,?_⟩
     . simp only;rw [Zez Meet.day (by omega) (by omega),hky,hky,hky];by_cases h1:p=k
       . subst h1;rw [if_pos rfl,if_neg (by omega),if_neg (by omega),if_pos (by omega)]
       . rw [if_neg h1];by_cases h2:p=k - 1
         . subst h2;rw [if_pos rfl,if_neg (by omega),if_pos rfl,if_neg (by omega),if_pos rfl]
         . rw [if_neg h2,if_neg h2];by_cases h3:k < p/\p<=m
           . rw [if_pos h3,if_pos (by omega)]
           . rw [if_neg h3,if_neg h1,if_neg (by omega)]
     (refine Zi ?_ ?_ ?_ rfl rfl<;>dsimp only [Zg,id,go_sem]<;>simp [Zg,Za])
   refine Zp (by simp;omega) ?_;dsimp only [go_sem];have hki:k=i:=by omega
   refine ⟨_,⟨l1,hp,λp q g1 g2 g3=>?_,rfl⟩,?_⟩
   . rw [hky,hky];by_cases h1:p < k
     . rw [if_neg (by omega),if_neg (c:=p=k) (by omega)];by_cases h2:q < k
       . rw [if_neg (by omega),if_neg (c:=q=k) (by omega)];exact hs1 _ _ (by omega) (by omega) (by omega)
       . by_cases h3:q=k
         . rw [if_neg (by omega),if_pos h3];exact hlo _ (by omega) (by omega)
         . rw [if_pos (by omega)];exact hs1.le Meet.day (by omega) (by omega) (by omega)
     . rw [if_pos (c:=k < q/\q<=m) (by omega)];by_cases h3:p=k
       . rw [if_neg (by omega),if_pos h3];exact Int.le_of_lt (hhi _ (by omega) (by omega))
       . rw [if_pos (by omega)];exact hs1 _ _ (by omega) (by omega) (by omega)
   . simp only [YM];(refine Zq ?_ ?_ ?_ rfl<;>dsimp only [Zg,id,go_sem]<;>simp [Zg,Za])
 refine Zp (by simp;omega) ?_;dsimp only [go_sem];simp (disch:=omega) only [Zf];rw [uwn (by omega) (by omega)];refine YQ rfl (.inr rfl) (VB _ (by omega)) rfl ?_;dsimp only [go_sem];obtain ⟨mid,hmid⟩:∃ h:Nat,((a:Int)+(b:Int)) / 2=(h:Int):=⟨(a+b) / 2,by omega⟩
 rw [hmid,Zf (n:=(mid:Int)) (by omega) (by omega)];have hm1':2 * mid<=a+b/\a+b<=2 * mid+1:=by omega
 rw [Zf (n:=(mid:Int)+(m:Int)) (by omega) (by omega)];have tail0:∀ s0 r0:Nat,s0=(if m > mid then mid+m - b else a)->r0=(if m > mid then mid else m)->a<=s0/\s0<=r0/\r0<=m/\(∀ c,s0<=c->c < r0->m<=mid+m - 1 - c/\mid+m - 1 - c < b):=λs0 r0 h1 h2=>by
  by_cases hgt:m > mid
  . rw [if_pos hgt] at h1 h2;subst h1;subst h2;refine ⟨by omega,by omega,by omega,λc _ _=>by omega⟩
  . rw [if_neg hgt] at h1 h2;subst h1;subst h2;refine ⟨by omega,by omega,by omega,λc _ _=>by omega⟩
 obtain ⟨s0,hs0⟩:∃ s0:Nat,s0=(if m > mid then mid+m - b else a):=⟨_,rfl⟩
 obtain ⟨r0,hr0⟩:∃ r0:Nat,r0=(if m > mid then mid else m):=⟨_,rfl⟩
 obtain ⟨t1,t2,t3,t4⟩:=tail0 s0 r0 hs0 hr0;by_cases hgt:m > mid
 . refine Zs (by simp;omega) ?_;dsimp only [go_sem];rw [Zf (n:=(mid:Int)+(m:Int) - (b:Int)) (by omega) (by omega),Zf (n:=(mid:Int)+(m:Int) - 1) (by omega) (by omega)];have e1:(mid:Int)+(m:Int) - (b:Int)=(s0:Int):=by rw [if_pos hgt] at hs0;omega
   have e2:mid=r0:=by rw [if_pos hgt] at hr0;omega
   rw [e1];have hM:((mid:Int))=(r0:Int):=by omega
   refine Z1 (λs:Nat × Nat=>[(20,I (s.1:Nat)),(21,I (s.2:Nat))]) (λ_=>[]) (λs=>s0<=s.1/\s.1<=s.2/\s.2<=r0/\Srch (mid+m - 1) s0 r0 s.1 s.2 (ky Meet.day l)) (λs=>s.2 - s.1) (s0,r0) ⟨Nat.le_refl _,t2,Nat.le_refl _,Za7 _ _ _ _⟩ ?_ ?_
   . rw [hM];(refine Zi ?_ ?_ ?_ rfl rfl<;>dsimp only [Zg,id,go_sem]<;>simp [Zg,Za])
   rintro ⟨i,j⟩ ⟨hi,hij,hj,hsr⟩;simp only at hi hij hj hsr;dsimp only [go_sem];by_cases hlt:i < j
   . refine Zs (by simpa using hlt) ?_;dsimp only [go_sem];simp (disch:=omega) only [Zf];rw [uwn (by omega) (by omega)];refine YQ rfl (.inr rfl) (VB _ (by omega)) rfl ?_;dsimp only [go_sem];obtain ⟨h,hh⟩:∃ h:Nat,((i:Int)+(j:Int)) / 2=(h:Int):=⟨(i+j) / 2,by omega⟩
     rw [hh,Zf (n:=(h:Int)) (by omega) (by omega)];have hih:i<=h/\h < j:=by omega
     have hph:=t4 h (by omega) (by omega);rw [Zf (n:=(mid:Int)+(m:Int) - 1 - (h:Int)) (by omega) (by omega)]
     (repeat first | dsimp only [go_sem] | simp only [nbr])
     refine Xl (mid+m - 1 - h) (by omega) (by simp;omega) ?_
     (repeat first | dsimp only [go_sem] | simp only [nbr])
     refine Vf (by omega) ?_
     (repeat first | dsimp only [Zg,go_sem] | simp only [nbr])
     refine Xl h rfl (by simp;omega) ?_
     (repeat first | dsimp only [go_sem] | simp only [nbr])
     refine Vf (by omega) ?_
     (repeat first | dsimp only [Zg,go_sem] | simp only [nbr])
     refine call (V6 l[mid+m - 1 - h] l[h]) ?_
     (repeat first | dsimp only [go_sem] | simp only [nbr])
     by_cases hk:l[mid+m - 1 - h].day < l[h].day
     . refine Zp (by simp [Zdh,hk]) ?_;dsimp only [go_sem];have hkk:ky Meet.day l (mid+m - 1 - h) < ky Meet.day l h:=by rw [Xt Meet.day (l:=l) (i:=h) (by omega),Xt Meet.day (l:=l) (i:=mid+m - 1 - h) (by omega)];exact hk
       refine ⟨(i,h),⟨hi,by simp only;omega,by simp only;omega,Zcz hsr hs1 hs2 t1 t3 t4 hih.1 hih.2 hj hkk hi⟩,by simp only;omega,?_⟩;(refine Zi ?_ ?_ ?_ rfl rfl<;>dsimp only [Zg,id,go_sem]<;>simp [Zg,Za])
     . refine Zs (by simp [Zdh,hk];split<;>decide) ?_;dsimp only [go_sem];rw [Zf (n:=(h:Int)+1) (by omega) (by omega)];have hkk:ky Meet.day l h<=ky Meet.day l (mid+m - 1 - h):=by rw [Xt Meet.day (l:=l) (i:=h) (by omega),Xt Meet.day (l:=l) (i:=mid+m - 1 - h) (by omega)];exact Int.not_lt.1 hk
       refine ⟨(h+1,j),⟨by simp only;omega,by simp only;omega,hj,ZjY hsr hs1 hs2 t1 t3 t4 hih.1 hih.2 hj hkk hi⟩,by simp only;omega,?_⟩;(refine Zi ?_ ?_ ?_ rfl rfl<;>dsimp only [Zg,id,go_sem]<;>simp [Zg,Za])
   refine Zp (by simp;omega) ?_;dsimp only [go_sem];have cut:=Zqr (s:=i) ham hmb hm1'.1 hm1'.2 s0 r0 hs0 hr0 hi (by omega) (by rwa [show j=i from by omega] at hsr);rw [Zf (n:=(mid:Int)+(m:Int) - (i:Int)) (by omega) (by omega),show (mid:Int)+(m:Int) - (i:Int)=((mid+m - i:Nat):Int) from by omega];by_cases hr:i < m/\m < mid+m - i
   . rw [show decide ((i:Int) < (m:Int))=true from by simp;omega];repeat (refine .inl ⟨rfl,?_⟩;(repeat first | dsimp only [go_sem] | simp only [nbr]))
     refine Zs (by simp;omega) ?_;dsimp only [go_sem];refine Zr [0] (Zqy v i m (mid+m - i) l hr.1 hr.2 (by omega) hL) rfl rfl rfl ?_ ?_ ?_
     . (repeat first | dsimp only [go_sem] | simp only [nbr])
       simp [mtL,mtB,mtS]
     . (repeat first | dsimp only [go_sem] | simp only [nbr])
       simp [Za,Zg,KFL,KF]
     rintro _ ⟨l1,hp1,hk1,rfl⟩
     (repeat first | dsimp only [YM,go_sem] | simp only [nbr])
     have cd:=ZbP Meet.day cut hs1 hs2 hk1;have pp:PIn a b l l1:=hp1.mono (by omega) (by have:=cut.e1;omega);have hl1:=pp.len;by_cases hf:a < i/\i < mid
     . rw [show decide ((a:Int) < (i:Int))=true from by simp;omega];repeat (refine .inl ⟨rfl,?_⟩;(repeat first | dsimp only [go_sem] | simp only [nbr]))
       refine Zs (by simp;omega) ?_;dsimp only [go_sem];refine Zr [0] (ih a i mid l1 (by omega) hf.1 hf.2 (by omega) (by omega) cd.s1 cd.s2) rfl rfl rfl ?_ ?_ ?_
       . (repeat first | dsimp only [go_sem] | simp only [nbr])
         simp [mtL,mtB,mtS]
       . (repeat first | dsimp only [go_sem] | simp only [nbr])
         simp [Za,Zg,KFL,KF]
       rintro _ ⟨l2,hp2,hs3,rfl⟩
       (repeat first | dsimp only [YM,go_sem] | simp only [nbr])
       have ce:=UB Meet.day cd hp2 hs3 (by omega);have pq:PIn a b l l2:=pp.trans (hp2.mono (by omega) (by omega));have hl2:=pq.len;by_cases hg:mid < mid+m - i/\mid+m - i < b
       . rw [show decide ((mid:Int) < ((mid+m - i:Nat):Int))=true from by simp;omega];repeat (refine .inl ⟨rfl,?_⟩;(repeat first | dsimp only [go_sem] | simp only [nbr]))
         refine Zs (by simp;omega) ?_;dsimp only [go_sem];refine Zr [0] (ih mid (mid+m - i) b l2 (by omega) hg.1 hg.2 (by omega) (by omega) ce.s3 ce.s4) rfl rfl rfl ?_ ?_ ?_
         . (repeat first | dsimp only [go_sem] | simp only [nbr])
           simp [mtL,mtB,mtS]
         . (repeat first | dsimp only [go_sem] | simp only [nbr])
           simp [Za,Zg,KFL,KF]
         rintro _ ⟨l3,hp3,hs4,rfl⟩
         (repeat first | dsimp only [YM,go_sem] | simp only [nbr])
         refine ⟨_,⟨l3,pq.trans (hp3.mono (by omega) (by omega)),Wx Meet.day ce hp3 hs4 (by omega),rfl⟩,?_⟩;try simp only [YM]
         (refine Zq ?_ ?_ ?_ rfl<;>dsimp only [Zg,id,go_sem]<;>simp [Zg,Za])
       . skip
         repeat (refine gb ?_;(repeat first | dsimp only [go_sem] | simp only [nbr]))
         refine Zp (by simp;omega) ?_;dsimp only [go_sem];refine ⟨_,⟨l2,pq,Ud Meet.day ce hg,rfl⟩,?_⟩;try simp only [YM]
         (refine Zq ?_ ?_ ?_ rfl<;>dsimp only [Zg,id,go_sem]<;>simp [Zg,Za])
     . skip
       repeat (refine gb ?_;(repeat first | dsimp only [go_sem] | simp only [nbr]))
       refine Zp (by simp;omega) ?_;dsimp only [go_sem];have ce:=Zb6 Meet.day cd hf;have pq:=pp;have hl2:=pq.len;by_cases hg:mid < mid+m - i/\mid+m - i < b
       . rw [show decide ((mid:Int) < ((mid+m - i:Nat):Int))=true from by simp;omega];repeat (refine .inl ⟨rfl,?_⟩;(repeat first | dsimp only [go_sem] | simp only [nbr]))
         refine Zs (by simp;omega) ?_;dsimp only [go_sem];refine Zr [0] (ih mid (mid+m - i) b l1 (by omega) hg.1 hg.2 (by omega) (by omega) ce.s3 ce.s4) rfl rfl rfl ?_ ?_ ?_
         . (repeat first | dsimp only [go_sem] | simp only [nbr])
           simp [mtL,mtB,mtS]
         . (repeat first | dsimp only [go_sem] | simp only [nbr])
           simp [Za,Zg,KFL,KF]
         rintro _ ⟨l3,hp3,hs4,rfl⟩
         (repeat first | dsimp only [YM,go_sem] | simp only [nbr])
         refine ⟨_,⟨l3,pq.trans (hp3.mono (by omega) (by omega)),Wx Meet.day ce hp3 hs4 (by omega),rfl⟩,?_⟩;try simp only [YM]
         (refine Zq ?_ ?_ ?_ rfl<;>dsimp only [Zg,id,go_sem]<;>simp [Zg,Za])
       . skip
         repeat (refine gb ?_;(repeat first | dsimp only [go_sem] | simp only [nbr]))
         refine Zp (by simp;omega) ?_;dsimp only [go_sem];refine ⟨_,⟨l1,pq,Ud Meet.day ce hg,rfl⟩,?_⟩;try simp only [YM]
         (refine Zq ?_ ?_ ?_ rfl<;>dsimp only [Zg,id,go_sem]<;>simp [Zg,Za])
   . skip
     repeat (refine gb ?_;(repeat first | dsimp only [go_sem] | simp only [nbr]))
     refine Zp (by simp;omega) ?_;dsimp only [go_sem];have cd:=ZgH Meet.day cut hs1 hs2 hr;have pp:PIn a b l l:=.refl _ _ _;have hl1:=pp.len;by_cases hf:a < i/\i < mid
     . rw [show decide ((a:Int) < (i:Int))=true from by simp;omega];repeat (refine .inl ⟨rfl,?_⟩;(repeat first | dsimp only [go_sem] | simp only [nbr]))
       refine Zs (by simp;omega) ?_;dsimp only [go_sem];refine Zr [0] (ih a i mid l (by omega) hf.1 hf.2 (by omega) (by omega) cd.s1 cd.s2) rfl rfl rfl ?_ ?_ ?_
       . (repeat first | dsimp only [go_sem] | simp only [nbr])
         simp [mtL,mtB,mtS]
       . (repeat first | dsimp only [go_sem] | simp only [nbr])
         simp [Za,Zg,KFL,KF]
       rintro _ ⟨l2,hp2,hs3,rfl⟩
       (repeat first | dsimp only [YM,go_sem] | simp only [nbr])
       have ce:=UB Meet.day cd hp2 hs3 (by omega);have pq:PIn a b l l2:=pp.trans (hp2.mono (by omega) (by omega));have hl2:=pq.len;by_cases hg:mid < mid+m - i/\mid+m - i < b
       . rw [show decide ((mid:Int) < ((mid+m - i:Nat):Int))=true from by simp;omega];repeat (refine .inl ⟨rfl,?_⟩;(repeat first | dsimp only [go_sem] | simp only [nbr]))
         refine Zs (by simp;omega) ?_;dsimp only [go_sem];refine Zr [0] (ih mid (mid+m - i) b l2 (by omega) hg.1 hg.2 (by omega) (by omega) ce.s3 ce.s4) rfl rfl rfl ?_ ?_ ?_
         . (repeat first | dsimp only [go_sem] | simp only [nbr])
           simp [mtL,mtB,mtS]
         . (repeat first | dsimp only [go_sem] | simp only [nbr])
           simp [Za,Zg,KFL,KF]
         rintro _ ⟨l3,hp3,hs4,rfl⟩
         (repeat first | dsimp only [YM,go_sem] | simp only [nbr])
         refine ⟨_,⟨l3,pq.trans (hp3.mono (by omega) (by omega)),Wx Meet.day ce hp3 hs4 (by omega),rfl⟩,?_⟩;try simp only [YM]
         (refine Zq ?_ ?_ ?_ rfl<;>dsimp only [Zg,id,go_sem]<;>simp [Zg,Za])
       . skip
         repeat (refine gb ?_;(repeat first | dsimp only [go_sem] | simp only [nbr]))
         refine Zp (by simp;omega) ?_;dsimp only [go_sem];refine ⟨_,⟨l2,pq,Ud Meet.day ce hg,rfl⟩,?_⟩;try simp only [YM]
         (refine Zq ?_ ?_ ?_ rfl<;>dsimp only [Zg,id,go_sem]<;>simp [Zg,Za])
     . skip
       repeat (refine gb ?_;(repeat first | dsimp only [go_sem] | simp only [nbr]))
       refine Zp (by simp;omega) ?_;dsimp only [go_sem];have ce:=Zb6 Meet.day cd hf;have pq:=pp;have hl2:=pq.len;by_cases hg:mid < mid+m - i/\mid+m - i < b
       . rw [show decide ((mid:Int) < ((mid+m - i:Nat):Int))=true from by simp;omega];repeat (refine .inl ⟨rfl,?_⟩;(repeat first | dsimp only [go_sem] | simp only [nbr]))
         refine Zs (by simp;omega) ?_;dsimp only [go_sem];refine Zr [0] (ih mid (mid+m - i) b l (by omega) hg.1 hg.2 (by omega) (by omega) ce.s3 ce.s4) rfl rfl rfl ?_ ?_ ?_
         . (repeat first | dsimp only [go_sem] | simp only [nbr])
           simp [mtL,mtB,mtS]
         . (repeat first | dsimp only [go_sem] | simp only [nbr])
           simp [Za,Zg,KFL,KF]
         rintro _ ⟨l3,hp3,hs4,rfl⟩
         (repeat first | dsimp only [YM,go_sem] | simp only [nbr])
         refine ⟨_,⟨l3,pq.trans (hp3.mono (by omega) (by omega)),Wx Meet.day ce hp3 hs4 (by omega),rfl⟩,?_⟩;try simp only [YM]
         (refine Zq ?_ ?_ ?_ rfl<;>dsimp only [Zg,id,go_sem]<;>simp [Zg,Za])
       . skip
         repeat (refine gb ?_;(repeat first | dsimp only [go_sem] | simp only [nbr]))
         refine Zp (by simp;omega) ?_;dsimp only [go_sem];refine ⟨_,⟨l,pq,Ud Meet.day ce hg,rfl⟩,?_⟩;try simp only [YM]
         (refine Zq ?_ ?_ ?_ rfl<;>dsimp only [Zg,id,go_sem]<;>simp [Zg,Za])
 . refine Zp (by simp;omega) ?_;dsimp only [go_sem];rw [Zf (n:=(mid:Int)+(m:Int) - 1) (by omega) (by omega)];have hA:(a:Int)=(s0:Int):=by rw [if_neg hgt] at hs0;omega
   have hM:(m:Int)=(r0:Int):=by rw [if_neg hgt] at hr0;omega
   refine Z1 (λs:Nat × Nat=>[(20,I (s.1:Nat)),(21,I (s.2:Nat))]) (λ_=>[]) (λs=>s0<=s.1/\s.1<=s.2/\s.2<=r0/\Srch (mid+m - 1) s0 r0 s.1 s.2 (ky Meet.day l)) (λs=>s.2 - s.1) (s0,r0) ⟨Nat.le_refl _,t2,Nat.le_refl _,Za7 _ _ _ _⟩ ?_ ?_
   . have e3:s0=a:=by omega
     have e4:r0=m:=by omega
     subst e3;subst e4;(refine Zi ?_ ?_ ?_ rfl rfl<;>dsimp only [Zg,id,go_sem]<;>simp [Zg,Za])
   rintro ⟨i,j⟩ ⟨hi,hij,hj,hsr⟩;simp only at hi hij hj hsr;dsimp only [go_sem];by_cases hlt:i < j
   . refine Zs (by simpa using hlt) ?_;dsimp only [go_sem];simp (disch:=omega) only [Zf];rw [uwn (by omega) (by omega)];refine YQ rfl (.inr rfl) (VB _ (by omega)) rfl ?_;dsimp only [go_sem];obtain ⟨h,hh⟩:∃ h:Nat,((i:Int)+(j:Int)) / 2=(h:Int):=⟨(i+j) / 2,by omega⟩
     rw [hh,Zf (n:=(h:Int)) (by omega) (by omega)];have hih:i<=h/\h < j:=by omega
     have hph:=t4 h (by omega) (by omega);rw [Zf (n:=(mid:Int)+(m:Int) - 1 - (h:Int)) (by omega) (by omega)]
     (repeat first | dsimp only [go_sem] | simp only [nbr])
     refine Xl (mid+m - 1 - h) (by omega) (by simp;omega) ?_
     (repeat first | dsimp only [go_sem] | simp only [nbr])
     refine Vf (by omega) ?_
     (repeat first | dsimp only [Zg,go_sem] | simp only [nbr])
     refine Xl h rfl (by simp;omega) ?_
     (repeat first | dsimp only [go_sem] | simp only [nbr])
     refine Vf (by omega) ?_
     (repeat first | dsimp only [Zg,go_sem] | simp only [nbr])
     refine call (V6 l[mid+m - 1 - h] l[h]) ?_
     (repeat first | dsimp only [go_sem] | simp only [nbr])
     by_cases hk:l[mid+m - 1 - h].day < l[h].day
     . refine Zp (by simp [Zdh,hk]) ?_;dsimp only [go_sem];have hkk:ky Meet.day l (mid+m - 1 - h) < ky Meet.day l h:=by rw [Xt Meet.day (l:=l) (i:=h) (by omega),Xt Meet.day (l:=l) (i:=mid+m - 1 - h) (by omega)];exact hk
       refine ⟨(i,h),⟨hi,by simp only;omega,by simp only;omega,Zcz hsr hs1 hs2 t1 t3 t4 hih.1 hih.2 hj hkk hi⟩,by simp only;omega,?_⟩;(refine Zi ?_ ?_ ?_ rfl rfl<;>dsimp only [Zg,id,go_sem]<;>simp [Zg,Za])
     . refine Zs (by simp [Zdh,hk];split<;>decide) ?_;dsimp only [go_sem];rw [Zf (n:=(h:Int)+1) (by omega) (by omega)];have hkk:ky Meet.day l h<=ky Meet.day l (mid+m - 1 - h):=by rw [Xt Meet.day (l:=l) (i:=h) (by omega),Xt Meet.day (l:=l) (i:=mid+m - 1 - h) (by omega)];exact Int.not_lt.1 hk
       refine ⟨(h+1,j),⟨by simp only;omega,by simp only;omega,hj,ZjY hsr hs1 hs2 t1 t3 t4 hih.1 hih.2 hj hkk hi⟩,by simp only;omega,?_⟩;(refine Zi ?_ ?_ ?_ rfl rfl<;>dsimp only [Zg,id,go_sem]<;>simp [Zg,Za])
   refine Zp (by simp;omega) ?_;dsimp only [go_sem];have cut:=Zqr (s:=i) ham hmb hm1'.1 hm1'.2 s0 r0 hs0 hr0 hi (by omega) (by rwa [show j=i from by omega] at hsr);rw [Zf (n:=(mid:Int)+(m:Int) - (i:Int)) (by omega) (by omega),show (mid:Int)+(m:Int) - (i:Int)=((mid+m - i:Nat):Int) from by omega];by_cases hr:i < m/\m < mid+m - i
   . rw [show decide ((i:Int) < (m:Int))=true from by simp;omega];repeat (refine .inl ⟨rfl,?_⟩;(repeat first | dsimp only [go_sem] | simp only [nbr]))
     refine Zs (by simp;omega) ?_;dsimp only [go_sem];refine Zr [0] (Zqy v i m (mid+m - i) l hr.1 hr.2 (by omega) hL) rfl rfl rfl ?_ ?_ ?_
     . (repeat first | dsimp only [go_sem] | simp only [nbr])
       simp [mtL,mtB,mtS]
     . (repeat first | dsimp only [go_sem] | simp only [nbr])
       simp [Za,Zg,KFL,KF]
     rintro _ ⟨l1,hp1,hk1,rfl⟩
     (repeat first | dsimp only [YM,go_sem] | simp only [nbr])
     have cd:=ZbP Meet.day cut hs1 hs2 hk1;have pp:PIn a b l l1:=hp1.mono (by omega) (by have:=cut.e1;omega);have hl1:=pp.len;by_cases hf:a < i/\i < mid
     . rw [show decide ((a:Int) < (i:Int))=true from by simp;omega];repeat (refine .inl ⟨rfl,?_⟩;(repeat first | dsimp only [go_sem] | simp only [nbr]))
       refine Zs (by simp;omega) ?_;dsimp only [go_sem];refine Zr [0] (ih a i mid l1 (by omega) hf.1 hf.2 (by omega) (by omega) cd.s1 cd.s2) rfl rfl rfl ?_ ?_ ?_
       . (repeat first | dsimp only [go_sem] | simp only [nbr])
         simp [mtL,mtB,mtS]
       . (repeat first | dsimp only [go_sem] | simp only [nbr])
         simp [Za,Zg,KFL,KF]
       rintro _ ⟨l2,hp2,hs3,rfl⟩
       (repeat first | dsimp only [YM,go_sem] | simp only [nbr])
       have ce:=UB Meet.day cd hp2 hs3 (by omega);have pq:PIn a b l l2:=pp.trans (hp2.mono (by omega) (by omega));have hl2:=pq.len;by_cases hg:mid < mid+m - i/\mid+m - i < b
       . rw [show decide ((mid:Int) < ((mid+m - i:Nat):Int))=true from by simp;omega];repeat (refine .inl ⟨rfl,?_⟩;(repeat first | dsimp only [go_sem] | simp only [nbr]))
         refine Zs (by simp;omega) ?_;dsimp only [go_sem];refine Zr [0] (ih mid (mid+m - i) b l2 (by omega) hg.1 hg.2 (by omega) (by omega) ce.s3 ce.s4) rfl rfl rfl ?_ ?_ ?_
         . (repeat first | dsimp only [go_sem] | simp only [nbr])
           simp [mtL,mtB,mtS]
         . (repeat first | dsimp only [go_sem] | simp only [nbr])
           simp [Za,Zg,KFL,KF]
         rintro _ ⟨l3,hp3,hs4,rfl⟩
         (repeat first | dsimp only [YM,go_sem] | simp only [nbr])
         refine ⟨_,⟨l3,pq.trans (hp3.mono (by omega) (by omega)),Wx Meet.day ce hp3 hs4 (by omega),rfl⟩,?_⟩;try simp only [YM]
         (refine Zq ?_ ?_ ?_ rfl<;>dsimp only [Zg,id,go_sem]<;>simp [Zg,Za])
       . skip
         repeat (refine gb ?_;(repeat first | dsimp only [go_sem] | simp only [nbr]))
         refine Zp (by simp;omega) ?_;dsimp only [go_sem];refine ⟨_,⟨l2,pq,Ud Meet.day ce hg,rfl⟩,?_⟩;try simp only [YM]
         (refine Zq ?_ ?_ ?_ rfl<;>dsimp only [Zg,id,go_sem]<;>simp [Zg,Za])
     . skip
       repeat (refine gb ?_;(repeat first | dsimp only [go_sem] | simp only [nbr]))
       refine Zp (by simp;omega) ?_;dsimp only [go_sem];have ce:=Zb6 Meet.day cd hf;have pq:=pp;have hl2:=pq.len;by_cases hg:mid < mid+m - i/\mid+m - i < b
       . rw [show decide ((mid:Int) < ((mid+m - i:Nat):Int))=true from by simp;omega];repeat (refine .inl ⟨rfl,?_⟩;(repeat first | dsimp only [go_sem] | simp only [nbr]))
         refine Zs (by simp;omega) ?_;dsimp only [go_sem];refine Zr [0] (ih mid (mid+m - i) b l1 (by omega) hg.1 hg.2 (by omega) (by omega) ce.s3 ce.s4) rfl rfl rfl ?_ ?_ ?_
         . (repeat first | dsimp only [go_sem] | simp only [nbr])
           simp [mtL,mtB,mtS]
         . (repeat first | dsimp only [go_sem] | simp only [nbr])
           simp [Za,Zg,KFL,KF]
         rintro _ ⟨l3,hp3,hs4,rfl⟩
         (repeat first | dsimp only [YM,go_sem] | simp only [nbr])
         refine ⟨_,⟨l3,pq.trans (hp3.mono (by omega) (by omega)),Wx Meet.day ce hp3 hs4 (by omega),rfl⟩,?_⟩;try simp only [YM]
         (refine Zq ?_ ?_ ?_ rfl<;>dsimp only [Zg,id,go_sem]<;>simp [Zg,Za])
       . skip
         repeat (refine gb ?_;(repeat first | dsimp only [go_sem] | simp only [nbr]))
         refine Zp (by simp;omega) ?_;dsimp only [go_sem];refine ⟨_,⟨l1,pq,Ud Meet.day ce hg,rfl⟩,?_⟩;try simp only [YM]
         (refine Zq ?_ ?_ ?_ rfl<;>dsimp only [Zg,id,go_sem]<;>simp [Zg,Za])
   . skip
     repeat (refine gb ?_;(repeat first | dsimp only [go_sem] | simp only [nbr]))
     refine Zp (by simp;omega) ?_;dsimp only [go_sem];have cd:=ZgH Meet.day cut hs1 hs2 hr;have pp:PIn a b l l:=.refl _ _ _;have hl1:=pp.len;by_cases hf:a < i/\i < mid
     . rw [show decide ((a:Int) < (i:Int))=true from by simp;omega];repeat (refine .inl ⟨rfl,?_⟩;(repeat first | dsimp only [go_sem] | simp only [nbr]))
       refine Zs (by simp;omega) ?_;dsimp only [go_sem];refine Zr [0] (ih a i mid l (by omega) hf.1 hf.2 (by omega) (by omega) cd.s1 cd.s2) rfl rfl rfl ?_ ?_ ?_
       . (repeat first | dsimp only [go_sem] | simp only [nbr])
         simp [mtL,mtB,mtS]
       . (repeat first | dsimp only [go_sem] | simp only [nbr])
         simp [Za,Zg,KFL,KF]
       rintro _ ⟨l2,hp2,hs3,rfl⟩
       (repeat first | dsimp only [YM,go_sem] | simp only [nbr])
       have ce:=UB Meet.day cd hp2 hs3 (by omega);have pq:PIn a b l l2:=pp.trans (hp2.mono (by omega) (by omega));have hl2:=pq.len;by_cases hg:mid < mid+m - i/\mid+m - i < b
       . rw [show decide ((mid:Int) < ((mid+m - i:Nat):Int))=true from by simp;omega];repeat (refine .inl ⟨rfl,?_⟩;(repeat first | dsimp only [go_sem] | simp only [nbr]))
         refine Zs (by simp;omega) ?_;dsimp only [go_sem];refine Zr [0] (ih mid (mid+m - i) b l2 (by omega) hg.1 hg.2 (by omega) (by omega) ce.s3 ce.s4) rfl rfl rfl ?_ ?_ ?_
         . (repeat first | dsimp only [go_sem] | simp only [nbr])
           simp [mtL,mtB,mtS]
         . (repeat first | dsimp only [go_sem] | simp only [nbr])
           simp [Za,Zg,KFL,KF]
         rintro _ ⟨l3,hp3,hs4,rfl⟩
         (repeat first | dsimp only [YM,go_sem] | simp only [nbr])
         refine ⟨_,⟨l3,pq.trans (hp3.mono (by omega) (by omega)),Wx Meet.day ce hp3 hs4 (by omega),rfl⟩,?_⟩;try simp only [YM]
         (refine Zq ?_ ?_ ?_ rfl<;>dsimp only [Zg,id,go_sem]<;>simp [Zg,Za])
       . skip
         repeat (refine gb ?_;(repeat first | dsimp only [go_sem] | simp only [nbr]))
         refine Zp (by simp;omega) ?_;dsimp only [go_sem];refine ⟨_,⟨l2,pq,Ud Meet.day ce hg,rfl⟩,?_⟩;try simp only [YM]
         (refine Zq ?_ ?_ ?_ rfl<;>dsimp only [Zg,id,go_sem]<;>simp [Zg,Za])
     . skip
       repeat (refine gb ?_;(repeat first | dsimp only [go_sem] | simp only [nbr]))
       refine Zp (by simp;omega) ?_;dsimp only [go_sem];have ce:=Zb6 Meet.day cd hf;have pq:=pp;have hl2:=pq.len;by_cases hg:mid < mid+m - i/\mid+m - i < b
       . rw [show decide ((mid:Int) < ((mid+m - i:Nat):Int))=true from by simp;omega];repeat (refine .inl ⟨rfl,?_⟩;(repeat first | dsimp only [go_sem] | simp only [nbr]))
         refine Zs (by simp;omega) ?_;dsimp only [go_sem];refine Zr [0] (ih mid (mid+m - i) b l (by omega) hg.1 hg.2 (by omega) (by omega) ce.s3 ce.s4) rfl rfl rfl ?_ ?_ ?_
         . (repeat first | dsimp only [go_sem] | simp only [nbr])
           simp [mtL,mtB,mtS]
         . (repeat first | dsimp only [go_sem] | simp only [nbr])
           simp [Za,Zg,KFL,KF]
         rintro _ ⟨l3,hp3,hs4,rfl⟩
         (repeat first | dsimp only [YM,go_sem] | simp only [nbr])
         refine ⟨_,⟨l3,pq.trans (hp3.mono (by omega) (by omega)),Wx Meet.day ce hp3 hs4 (by omega),rfl⟩,?_⟩;try simp only [YM]
         (refine Zq ?_ ?_ ?_ rfl<;>dsimp only [Zg,id,go_sem]<;>simp [Zg,Za])
       . skip
         repeat (refine gb ?_;(repeat first | dsimp only [go_sem] | simp only [nbr]))
         refine Zp (by simp;omega) ?_;dsimp only [go_sem];refine ⟨_,⟨l,pq,Ud Meet.day ce hg,rfl⟩,?_⟩;try simp only [YM]
         (refine Zq ?_ ?_ ?_ rfl<;>dsimp only [Zg,id,go_sem]<;>simp [Zg,Za])
end Go.Proofs.YtkpkgafhfakpdaaGreatDoor.Cm
namespace Go.Azalai
section
variable {α : Type} (key:α->Int)
def Blk (s a b:Nat) (l:List α):Prop:=∀ p q,a<=p->p < q->q < b->p / s=q / s->ky key l p<=ky key l q
theorem Zd0 {s:Nat} {l:List α}:Blk key s 0 0 l:=λp q h1 h2 h3=>by omega
theorem Zx3 {s c p q:Nat} (h:p / s=q / s) (h1:s * c<=q) (hs:0 < s):s * c<=p:=by
 have e1:c<=q / s:=(Nat.le_div_iff_mul_le hs).2 (by rw [Nat.mul_comm];exact h1);rw [<- h] at e1;have:=(Nat.le_div_iff_mul_le hs).1 e1
 rwa [Nat.mul_comm] at this
theorem Zb1 {s c b:Nat} {l l':List α} (hs:0 < s) (h:Blk key s 0 (s * c) l) (hp:PIn (s * c) b l l') (h':Srt key (s * c) b l'):Blk key s 0 b l':=λp q g1 g2 g3 e=>by
 by_cases hq:q < s * c
 . rw [hp.ky key (.inl (by omega)),hp.ky key (.inl hq)];exact h p q g1 g2 hq e
 . exact h' p q (Zx3 e (by omega) hs) g2 g3
theorem Zo5 {s a b n:Nat} {l l':List α} (h:Blk key s a n l) (hp:PIn a b l l') (hab:a<=b):Blk key s b n l':=λp q g1 g2 g3 e=>by
 rw [hp.ky key (.inr g1),hp.ky key (.inr (by omega))];exact h p q (by omega) g2 g3 e
theorem ZeG {s c p:Nat} (h1:s * c<=p) (h2:p < s * c+s):p / s=c:=by
 have hs:0 < s:=by omega
 apply Nat.le_antisymm
 . have:p / s < c+1:=(Nat.div_lt_iff_lt_mul hs).2 (by rw [Nat.add_mul,Nat.one_mul,Nat.mul_comm];exact h2);omega
 . exact (Nat.le_div_iff_mul_le hs).2 (by rw [Nat.mul_comm];exact h1)
theorem ZbR {s c a b n:Nat} {l:List α} (h:Blk key s a n l) (ha:a<=s * c) (hb:b<=s * c+s) (hn:b<=n):Srt key (s * c) b l:=λp q g1 g2 g3=>by
 refine h p q (by omega) g2 (by omega) ?_;rw [ZeG g1 (by omega),ZeG (c:=c) (p:=q) (by omega) (by omega)]
end
end Go.Azalai
namespace Go.Proofs.YtkpkgafhfakpdaaGreatDoor.Cm
open Go Go.Sx Go.Azalai
theorem Zxp (v n:Nat) (l:List Meet) (hn:n=l.length) (hL:l.length < 1152921504606846976) :
 CtM Tryz.prog 248 [(0,.row v 4 (l.map Zg) 274)] 1 [.mr 0 v,I n,.cl 210 []] (λo=>∃ l',PIn 0 n l l'/\Srt Meet.day 0 n l'/\o=YM v l'):=by
 refine m248 (by simp [hpb]) (λo ho=>by obtain ⟨l',_,_,rfl⟩:=ho;simp [YM,KX,KXL,KXP,KXH,Za,KFL,KF,Zg]) ?_;dsimp only [c248,r248,go_sem];refine Z1 (λs:Nat × List Meet=>[(7,I (20 * s.1:Nat)),(8,I (20 * s.1+20:Nat))]) (λs=>[(0,.row v 4 (s.2.map Zg) 274)]) (λs=>20 * s.1<=n/\PIn 0 n l s.2/\Blk Meet.day 20 0 (20 * s.1) s.2) (λs=>n - 20 * s.1) (0,l) ⟨by simp only;omega,.refl _ _ _,Zd0 Meet.day⟩ ?_ ?_
 . (refine Zi ?_ ?_ ?_ rfl rfl<;>dsimp only [Zg,id,go_sem]<;>simp [Zg,Za])
 rintro ⟨c,l1⟩ ⟨hc,hp,hb⟩;simp only at hc hp hb;have hl1:=hp.len;dsimp only [go_sem];by_cases hlt:20 * c+20<=n
 . refine Zs (by simp;omega) ?_;dsimp only [go_sem];refine Zr [0] (Zjn v (20 * c) (20 * c+20) l1 (by omega) (by omega) (by omega)) rfl rfl rfl ?_ ?_ ?_
   . (repeat first | dsimp only [go_sem] | simp only [nbr])
     simp [mtL,mtB,mtS]
   . (repeat first | dsimp only [go_sem] | simp only [nbr])
     simp [Za,Zg,KFL,KF]
   rintro _ ⟨l2,hp2,hs2,rfl⟩
   (repeat first | dsimp only [YM,go_sem] | simp only [nbr])
   rw [Zf (n:=((20 * c+20:Nat):Int)+20) (by omega) (by omega)];refine ⟨(c+1,l2),⟨by simp only;omega,hp.trans (hp2.mono (by omega) (by omega)),?_⟩,by simp only;omega,?_⟩
   . exact Zb1 Meet.day (by omega) hb hp2 hs2
   rw [show ((20 * c+20:Nat):Int)+20=((20 * (c+1)+20:Nat):Int) from by omega,show 20 * c+20=20 * (c+1) from by omega];(refine Zi ?_ ?_ ?_ rfl rfl<;>dsimp only [Zg,id,go_sem]<;>simp [Zg,Za])
 refine Zp (by simp;omega) ?_;dsimp only [go_sem];refine Zr [0] (Zjn v (20 * c) n l1 (by omega) (by omega) (by omega)) rfl rfl rfl ?_ ?_ ?_
 . (repeat first | dsimp only [go_sem] | simp only [nbr])
   simp [mtL,mtB,mtS]
 . (repeat first | dsimp only [go_sem] | simp only [nbr])
   simp [Za,Zg,KFL,KF]
 rintro _ ⟨l2,hp2,hs2,rfl⟩
 (repeat first | dsimp only [YM,go_sem] | simp only [nbr])
 have hb2:=Zb1 Meet.day (by omega) hb hp2 hs2;refine Z1 (λs:Nat × List Meet × Int × Int=>[(6,I (s.1:Nat)),(7,I s.2.2.1),(8,I s.2.2.2)]) (λs=>[(0,.row v 4 (s.2.1.map Zg) 274)]) (λs=>(0 < s.1/\s.1<=2 * n+20)/\PIn 0 n l s.2.1/\Blk Meet.day s.1 0 n s.2.1) (λs=>n - s.1) (20,l2,((20 * c:Nat):Int),((20 * c+20:Nat):Int)) ⟨by simp only;omega,hp.trans (hp2.mono (by omega) (by omega)),hb2⟩ ?_ ?_
 . (refine Zi ?_ ?_ ?_ rfl rfl<;>dsimp only [Zg,id,go_sem]<;>simp [Zg,Za])
 rintro ⟨s,l3,z1,z2⟩ ⟨⟨hs0,hs1⟩,hp3,hb3⟩;simp only at hs0 hs1 hp3 hb3;have hl3:=hp3.len;dsimp only [go_sem];by_cases hlt:s < n
 case neg =>
  refine Zp (by simp;omega) ?_;dsimp only [go_sem];refine ⟨_,⟨l3,hp3,?_,rfl⟩,?_⟩
  . have:=ZbR Meet.day (c:=0) hb3 (Nat.zero_le _) (show n<=s * 0+s by omega) (Nat.le_refl _)
    rwa [Nat.mul_zero] at this
  . try simp only [YM]
    (refine Zq ?_ ?_ ?_ rfl<;>dsimp only [Zg,id,go_sem]<;>simp [Zg,Za])
 refine Zs (by simp;omega) ?_;dsimp only [go_sem];rw [Zf (n:=2 * (s:Int)) (by omega) (by omega)];refine Z1 (λz:Nat × List Meet=>[(7,I (2 * s * z.1:Nat)),(8,I (2 * s * z.1+2 * s:Nat))]) (λz=>[(0,.row v 4 (z.2.map Zg) 274)]) (λz=>2 * s * z.1<=n/\PIn 0 n l z.2/\Blk Meet.day (2 * s) 0 (2 * s * z.1) z.2/\Blk Meet.day s (2 * s * z.1) n z.2) (λz=>n - 2 * s * z.1) (0,l3) ⟨by simp only;omega,hp3,Zd0 Meet.day,hb3⟩ ?_ ?_
 . rw [show 2 * (s:Int)=((2 * s * 0+2 * s:Nat):Int) from by omega];(refine Zi ?_ ?_ ?_ rfl rfl<;>dsimp only [Zg,id,go_sem]<;>simp [Zg,Za])
 rintro ⟨c',l4⟩ ⟨hc4,hp4,hb4,hb5⟩;simp only at hc4 hp4 hb4 hb5;have hl4:=hp4.len;have e5:s * (2 * c')=2 * s * c':=by rw [<- Nat.mul_assoc,Nat.mul_comm s 2]
 have e6:s * (2 * c'+1)=2 * s * c'+s:=by rw [Nat.mul_add,e5,Nat.mul_one]
 have e7:2 * s * (c'+1)=2 * s * c'+2 * s:=by rw [Nat.mul_add,Nat.mul_one]
 dsimp only [go_sem];have hq1:2 * s * c'+s<=n->Srt Meet.day (2 * s * c') (2 * s * c'+s) l4:=λh=>by
  have:=ZbR Meet.day (c:=2 * c') (b:=2 * s * c'+s) hb5 (by omega) (by omega) (by omega)
  rwa [e5] at this
 have hq2:∀ b,b<=2 * s * c'+2 * s->b<=n->Srt Meet.day (2 * s * c'+s) b l4:=λb h1 h2=>by
  have:=ZbR Meet.day (c:=2 * c'+1) (b:=b) hb5 (by omega) (by omega) (by omega)
  rwa [e6] at this
 have hstep:∀ b l',PIn (2 * s * c') b l4 l'->Srt Meet.day (2 * s * c') b l'->Blk Meet.day (2 * s) 0 b l':=λb l' h1 h2=>Zb1 Meet.day (by omega) hb4 h1 h2;have hlast:n<=2 * s * c'+s->Blk Meet.day (2 * s) 0 n l4:=λh=>by
  have:=ZbR Meet.day (c:=2 * c') (b:=n) hb5 (by omega) (by omega) (by omega);rw [e5] at this;exact hstep n l4 (.refl _ _ _) this
 clear hb4;clear e5 e6;generalize ha:2 * s * c'=a at *;by_cases hlt2:a+2 * s<=n
 . refine Zs (by simp;omega) ?_;dsimp only [go_sem];rw [Zf (n:=(a:Int)+(s:Int)) (by omega) (by omega),show (a:Int)+(s:Int)=((a+s:Nat):Int) from by omega];refine Zr [0] (Zqs v _ a (a+s) (a+2 * s) l4 (Nat.le_refl _) (by omega) (by omega) (by omega) (by omega) (hq1 (by omega)) (hq2 _ (by omega) (by omega))) rfl rfl rfl ?_ ?_ ?_
   . (repeat first | dsimp only [go_sem] | simp only [nbr])
     simp [mtL,mtB,mtS]
   . (repeat first | dsimp only [go_sem] | simp only [nbr])
     simp [Za,Zg,KFL,KF]
   rintro _ ⟨l5,hp5,hs5,rfl⟩
   (repeat first | dsimp only [YM,go_sem] | simp only [nbr])
   rw [Zf (n:=2 * (s:Int)) (by omega) (by omega),Zf (n:=((a+2 * s:Nat):Int)+2 * (s:Int)) (by omega) (by omega)];refine ⟨(c'+1,l5),⟨by simp only;omega,hp4.trans (hp5.mono (by omega) (by omega)),?_,?_⟩,by simp only [e7,ha];omega,?_⟩
   . simp only;rw [e7];exact hstep _ _ hp5 hs5
   . simp only;rw [e7];exact Zo5 Meet.day hb5 hp5 (by omega)
   . simp only [e7];rw [show ((a+2 * s:Nat):Int)+2 * (s:Int)=((a+2 * s+2 * s:Nat):Int) from by omega];(refine Zi ?_ ?_ ?_ rfl rfl<;>dsimp only [Zg,id,go_sem]<;>simp [Zg,Za])
 refine Zp (by simp;omega) ?_;dsimp only [go_sem];rw [Zf (n:=(a:Int)+(s:Int)) (by omega) (by omega),show (a:Int)+(s:Int)=((a+s:Nat):Int) from by omega];by_cases hm:a+s < n
 . refine Zs (by simp;omega) ?_;dsimp only [go_sem];refine Zr [0] (Zqs v _ a (a+s) n l4 (Nat.le_refl _) (by omega) (by omega) (by omega) (by omega) (hq1 (by omega)) (hq2 _ (by omega) (by omega))) rfl rfl rfl ?_ ?_ ?_
   . (repeat first | dsimp only [go_sem] | simp only [nbr])
     simp [mtL,mtB,mtS]
   . (repeat first | dsimp only [go_sem] | simp only [nbr])
     simp [Za,Zg,KFL,KF]
   rintro _ ⟨l5,hp5,hs5,rfl⟩
   (repeat first | dsimp only [YM,go_sem] | simp only [nbr])
   rw [Zf (n:=(s:Int) * 2) (by omega) (by omega),show (s:Int) * 2=((2 * s:Nat):Int) from by omega];refine ⟨(2 * s,l5,(a:Int),((a+2 * s:Nat):Int)),⟨by simp only;omega,hp4.trans (hp5.mono (by omega) (by omega)),hstep _ _ hp5 hs5⟩,by simp only;omega,?_⟩;(refine Zi ?_ ?_ ?_ rfl rfl<;>dsimp only [Zg,id,go_sem]<;>simp [Zg,Za])
 refine Zp (by simp;omega) ?_;dsimp only [go_sem];rw [Zf (n:=(s:Int) * 2) (by omega) (by omega),show (s:Int) * 2=((2 * s:Nat):Int) from by omega];refine ⟨(2 * s,l4,(a:Int),((a+2 * s:Nat):Int)),⟨by simp only;omega,hp4,hlast (by omega)⟩,by simp only;omega,?_⟩;(refine Zi ?_ ?_ ?_ rfl rfl<;>dsimp only [Zg,id,go_sem]<;>simp [Zg,Za])
theorem ZbU (v:Nat) (l:List Meet) (hL:l.length < 1152921504606846976) :
 CtM Tryz.prog 209 [(0,.row v 4 (l.map Zg) 274)] 1 [.mr 0 v,.cl 210 []] (λo=>∃ l',PIn 0 l.length l l'/\Srt Meet.day 0 l.length l'/\o=YM v l'):=by
 refine m209 (by simp [hpb]) (λo ho=>by obtain ⟨l',_,_,rfl⟩:=ho;simp [YM,KX,KXL,KXP,KXH,Za,KFL,KF,Zg]) ?_;dsimp only [c209,r209,go_sem]
 (repeat first | dsimp only [go_sem] | simp only [nbr])
 simp only [List.length_map];refine Zr [0] (Zxp v l.length l rfl hL) rfl rfl rfl ?_ ?_ ?_
 . (repeat first | dsimp only [go_sem] | simp only [nbr])
   simp [mtL,mtB,mtS]
 . (repeat first | dsimp only [go_sem] | simp only [nbr])
   simp [Za,Zg,KFL,KF]
 rintro _ ⟨l5,hp5,hs5,rfl⟩
 (repeat first | dsimp only [YM,go_sem] | simp only [nbr])
 refine ⟨_,⟨l5,hp5,hs5,rfl⟩,?_⟩;try simp only [YM]
 (refine Zq ?_ ?_ ?_ rfl<;>dsimp only [Zg,id,go_sem]<;>simp [Zg,Za])
end Go.Proofs.YtkpkgafhfakpdaaGreatDoor.Cm
namespace Go.Sx
open Go
end Go.Sx
namespace Go.Proofs.YtkpkgafhfakpdaaGreatDoor.Cm
open Go Go.Sx Go.Azalai
def U64 (n:Int):SV:=.v (.int .u64 n)
theorem uw {n:Int} (h0:0<=n) (h1:n < 18446744073709551616):IntKind.u64.wrap n=n:=by
 have e:n % 2 ^ IntKind.u64.bits=n:=Int.emod_eq_of_lt h0 (by show n < 2 ^ 64;omega);simp only [IntKind.wrap,e,show IntKind.u64.signed=false from rfl,Bool.false_and];rfl
theorem Zk1 (n:Int) (h0:0<=n) (h1:n<=1000000):Ct Tryz.prog 282 [U64 1,U64 n] (.tup [U64 0,U64 n]):=by
 refine t282.1 (by simp [U64]) (by simp [U64]) ?_;dsimp only [c282,r282,U64,go_sem];have sh:∀ (m:Int),0<=m->m < 4294967296->∀ w:World,(binOp .shr 164 (.int .u64 m) (.int .u64 32)).run Tryz.prog w = .ok (.int .u64 0) w:=λm q0 q1 w=>by
  simp only [binOp,Op.shift];rw [if_neg (by decide)];have:m.fdiv (2 ^ 32)=0:=by rw [Int.fdiv_eq_ediv_of_nonneg _ (by decide)];omega
  show Result.ok (Value.int .u64 (m.fdiv (2 ^ (min (32:Int).toNat IntKind.u64.bits)))) w=_;rw [show min (32:Int).toNat IntKind.u64.bits=32 from by decide,this]
 have an:∀ (m:Int),0<=m->m < 4294967296->∀ w:World,(binOp .and 164 (.int .u64 m) (.int .u64 4294967295)).run Tryz.prog w = .ok (.int .u64 m) w:=λm q0 q1 w=>by
  obtain ⟨k,rfl⟩:=Int.eq_ofNat_of_zero_le q0;have hk:k < 4294967296:=by omega
  have e:(BitVec.ofInt 64 (k:Int) &&& BitVec.ofInt 64 4294967295).toNat=k:=by
   rw [BitVec.toNat_and,show (BitVec.ofInt 64 4294967295).toNat=2 ^ 32 - 1 from by decide,Nat.and_two_pow_sub_one_eq_mod,BitVec.ofInt_natCast,BitVec.toNat_ofNat];omega
  show Result.ok (Value.int .u64 (IntKind.u64.wrap (((BitVec.ofInt 64 (k:Int) &&& BitVec.ofInt 64 4294967295).toNat:Nat):Int))) w=_;rw [e,uw (by omega) (by omega)]
 refine YQ rfl (.inl rfl) (an 1 (by omega) (by omega)) rfl ?_;dsimp only [go_sem];refine YQ rfl (.inr rfl) (sh 1 (by omega) (by omega)) rfl ?_;dsimp only [go_sem];refine YQ rfl (.inl rfl) (an n (by omega) (by omega)) rfl ?_;dsimp only [go_sem];refine YQ rfl (.inr rfl) (sh n (by omega) (by omega)) rfl ?_;dsimp only [go_sem];simp (disch:=omega) only [uw,Int.one_mul,Int.zero_mul,Int.mul_zero,Int.add_zero,Int.zero_add]
 refine YQ rfl (.inr rfl) (sh n (by omega) (by omega)) rfl ?_;dsimp only [go_sem];simp (disch:=omega) only [uw,Int.one_mul,Int.zero_mul,Int.mul_zero,Int.add_zero,Int.zero_add];refine YQ rfl (.inl rfl) (an 0 (by omega) (by omega)) rfl ?_;dsimp only [go_sem];refine YQ rfl (.inr rfl) (sh 0 (by omega) (by omega)) rfl ?_;dsimp only [go_sem];simp (disch:=omega) only [uw,Int.one_mul,Int.zero_mul,Int.mul_zero,Int.add_zero,Int.zero_add]
 refine YQ rfl (.inr rfl) (sh 0 (by omega) (by omega)) rfl ?_;dsimp only [go_sem];simp (disch:=omega) only [uw,Int.one_mul,Int.zero_mul,Int.mul_zero,Int.add_zero,Int.zero_add]
theorem ZwZ (n:Int) (h0:0<=n) (h1:n<=1000000):Ct Tryz.prog 269 [U64 1,U64 n] (.tup [U64 0,U64 n]):=by
 refine t269.1 (by simp [U64]) (by simp [U64]) ?_;dsimp only [c269,r269,U64,go_sem];refine Zp (by decide) ?_;dsimp only [go_sem];refine call (Zk1 n h0 h1) ?_;dsimp only [U64,go_sem]
theorem Wr {r:List SV} (h:KFL r):∀ n,KFR (List.replicate n r)
 | 0=>trivial
 | n+1=>⟨h,Wr h n⟩
end Go.Proofs.YtkpkgafhfakpdaaGreatDoor.Cm
namespace Go.Azalai
def Zki (n:Int) (m:Meet):Bool:=!(inR 0 (n - 1) m.a && inR 0 (n - 1) m.b) || decide (m.a=m.b) || !inR 0 100000 m.day
end Go.Azalai
namespace Go.Proofs.YtkpkgafhfakpdaaGreatDoor.Cm
open Go Go.Sx Go.Azalai
theorem ZxE (h:Nat) (caps:List SV) (hk:KFL caps) (g:Meet->Bool) (l:List Meet) (hg:∀ x ∈ l,Ct Tryz.prog h (.agg (Zg x) :: caps) (B (g x))) (hl:l.length < 4611686018427387904) {c:Bool} :
 Ct Tryz.prog 247 [.sl c 4 (l.map Zg),.cl h caps] (I (Yw g l 0)):=by
 refine t247.1 ⟨by simp [KF,Za,KFL,Zg],hk,trivial⟩ (by simp [KF]) ?_;dsimp only [c247,r247,go_sem];refine Z1 (λk:Nat=>[(8,I k)]) (λ_=>[]) (λk=>k<=l.length/\Yw g (l.drop k) k=Yw g l 0) (λk=>l.length - k) 0 ⟨Nat.zero_le _,rfl⟩ ?_ ?_
 . (refine Zi ?_ ?_ ?_ rfl rfl<;>dsimp only [Zg,hk,id,go_sem]<;>simp [Zg,hk,Za])
 . intro k ⟨hk',hi⟩;dsimp only [go_sem];refine br ?_ ?_
   . intro hlt;have hlt:k < l.length:=by simpa using hlt
     dsimp only [go_sem];refine Zu k hlt rfl ?_;dsimp only [Zg,go_sem];refine call (hg l[k] (List.getElem_mem _)) ?_;dsimp only [go_sem];refine br ?_ ?_
     . intro hgx;dsimp only [go_sem];rw [<- hi,List.drop_eq_getElem_cons hlt];simp [Yw,hgx]
     . intro hgx;dsimp only [go_sem];refine ⟨k+1,⟨by omega,?_⟩,by omega,?_⟩
       . rw [<- hi,List.drop_eq_getElem_cons hlt];simp [Yw,hgx]
       . rw [Zf (by omega) (by omega)];(refine Zi ?_ ?_ ?_ rfl rfl<;>dsimp only [Zg,hk,id,go_sem]<;>simp [Zg,hk,Za])
   . intro hlt;have hlt:k=l.length:=by simp at hlt;omega
     dsimp only [go_sem];rw [<- hi,hlt];simp [Yw]
theorem con78 (h:Nat) (caps:List SV) (hk:KFL caps) (g:Meet->Bool) (l:List Meet) (hg:∀ x ∈ l,Ct Tryz.prog h (.agg (Zg x) :: caps) (B (g x))) (hl:l.length < 4611686018427387904) {c:Bool} :
 Ct Tryz.prog 207 [.sl c 4 (l.map Zg),.cl h caps] (B (l.any g)):=by
 refine t207.1 ⟨by simp [KF,Za,KFL,Zg],hk,trivial⟩ (by simp [KF]) ?_;dsimp only [c207,r207,go_sem];refine call (ZxE h caps hk g l hg hl) ?_;dsimp only [go_sem];rw [Y9]
theorem Zp2 (m:Meet):Ct Tryz.prog 214 [.agg (Zg m)] (B (!m.close)):=by
 refine t214.1 (by simp [Zg]) (by simp) ?_;dsimp only [c214,r214,Zg,go_sem]
theorem ZxK (n:Int) (hn:1<=n) (hn':n<=30) (m:Meet):Ct Tryz.prog 206 [.agg (Zg m),.ps [I n] 0] (B (Zki n m)):=by
 refine t206.1 (by simp [Zg]) (by simp) ?_;dsimp only [c206,r206,Zg,go_sem];rw [Zf (n:=n - 1) (by omega) (by omega)];refine call (Zdm 0 (n - 1) m.a m.b true) ?_;dsimp only [go_sem];repeat (refine gb ?_;dsimp only [go_sem])
 refine call (Zal 0 100000 m.day true) ?_;dsimp only [go_sem];repeat (refine gb ?_;dsimp only [go_sem])
 simp only [Option.some.injEq,SV.v.injEq,Value.bool.injEq,Zki];rfl
theorem ZrN (x:Int) (n:Nat) (h0:1<=n) (h1:n<=1000) (k:Bool):CtM Tryz.prog 250 [] 0 [.sl k 1 [[I x]],I n] (λo=>o=⟨false,.mr 0 0,[(0,.row 0 1 (List.replicate n [I x]) 3)],1⟩):=by
 have hm:KFL [I x]:=by simp
 have hone:Ys [I x]=true:=rfl;have hkr:=Wr hm n;refine m250 (by simp [hpb]) (λo ho=>by subst ho;simp only [KX,KXL,KXP,KXH];exact ⟨trivial,hkr,trivial⟩) ?_;generalize [I x]=row at hm hone hkr;dsimp only [c250,r250,go_sem];refine Zp (by simp) ?_;dsimp only [go_sem];rw [show ((1:Nat):Int)=1 from rfl];simp (disch:=omega) only [uw];refine call (ZwZ n (by omega) (by omega)) ?_;dsimp only [U64,go_sem]
 refine gb ?_;dsimp only [go_sem];refine gb ?_;dsimp only [go_sem];refine Zp (by simp;omega) ?_;dsimp only [go_sem];refine ⟨n,Zf (by omega) (by omega),by omega,?_⟩;have hz:KFL [SV.v (Value.int IntKind.i64 0)]:=by simp
 generalize [SV.v (Value.int IntKind.i64 0)]=z at hz;dsimp only [go_sem];refine ⟨(by intro c hc;simp only [List.mem_singleton] at hc;subst hc;exact hone),by simp,?_⟩;have hmin:min n 1=1:=by omega
 simp only [List.length_replicate,List.length_singleton,hmin,List.drop_replicate];dsimp only [go_sem];refine Z1 (λj:Nat=>[(8,I j)]) (λj=>[(0,.row 0 1 (List.replicate j row ++ List.replicate (n - j) z) 3)]) (λj=>1<=j/\j<=n) (λj=>n - j) 1 ⟨Nat.le_refl _,h0⟩ ?_ ?_
 . refine Zi ?_ ?_ ?_ rfl rfl<;>dsimp only [id,go_sem]<;>simp [Zd,Wr,hz,hm,Zb,mtO,nbr,KFR,KFL,KF]
 rintro j ⟨hj0,hj⟩;dsimp only [go_sem];simp only [List.length_append,List.length_replicate,show j+(n - j)=n from by omega];by_cases hlt:j < n
 . refine Zs (by simpa using hlt) ?_;dsimp only [go_sem];refine ⟨j,n,⟨rfl,by simp;omega,by omega,by simp;omega⟩,?_⟩;dsimp only [go_sem];refine ⟨0,j,⟨rfl,rfl,by omega,by simp⟩,?_⟩;dsimp only [go_sem];have hx:List.take (j - 0) (List.replicate j row ++ List.replicate (n - j) z)=List.replicate j row:=by rw [Nat.sub_zero];exact List.take_left' (by simp)
   have hx':List.take j (List.replicate j row ++ List.replicate (n - j) z)=List.replicate j row:=List.take_left' (by simp);rw [hx];refine ⟨by simp,(by intro c hc;rw [List.eq_of_mem_replicate hc];exact hone),by simp,?_⟩;simp only [List.length_replicate];generalize hN:min (n - j) j=N;have e:List.take j (List.replicate j row ++ List.replicate (n - j) z) ++ (List.take N (List.replicate j row) ++ List.drop (j+N) (List.replicate j row ++ List.replicate (n - j) z))=List.replicate (j+N) row ++ List.replicate (n - (j+N)) z:=by
    rw [hx',List.take_replicate,List.drop_append,List.drop_of_length_le (l:=List.replicate j row) (by simp),List.length_replicate,List.nil_append,List.drop_replicate,<- List.append_assoc,List.replicate_append_replicate,show min N j=N from by omega];congr 2;omega
   rw [e];dsimp only [go_sem];rw [show (j:Int)+(N:Int)=((j+N:Nat):Int) from by omega,Zf (n:=((j+N:Nat):Int)) (by omega) (by omega)];refine ⟨j+N,⟨by omega,by omega⟩,by omega,?_⟩;refine Zi ?_ ?_ ?_ rfl rfl<;>dsimp only [id,go_sem]<;>simp [Zd,Wr,hz,hm,Zb,mtO,nbr,KFR,KFL,KF]
 refine Zp (by simp;omega) ?_;dsimp only [go_sem];have hje:j=n:=by omega
 subst hje;simp only [Nat.sub_self,List.replicate_zero,List.append_nil];refine ⟨_,rfl,?_⟩;refine Zq ?_ ?_ ?_ rfl<;>dsimp only [id,go_sem]<;>simp [Zd,Wr,hm,Zb,mtO,nbr,KFR,KFL,KF]
theorem ZeF (l:List Meet) (hL:l.length<=1000) (k:Bool):CtM Tryz.prog 208 [] 0 [.sl k 4 (l.map Zg)] (λo=>o=⟨false,.mr 0 0,[(0,.row 0 4 (l.map Zg) 274)],1⟩):=by
 refine m208 (by simp [hpb]) (λo ho=>by subst ho;simp [KX,KXL,KXP,KXH,Za,KFL,KF,Zg]) ?_;dsimp only [c208,r208,go_sem];intro b hb;dsimp only [go_sem];cases b with
 | true =>
  have hl:l=[]:=by simpa using hb rfl
  subst hl;refine Zs rfl ?_;dsimp only [go_sem];refine ⟨_,rfl,?_⟩;refine Zdt (Vs (Xn 0 4 274 rfl rfl) ?_) (λ_ _ _ e=>by cases e);(refine Zi ?_ ?_ ?_ rfl rfl<;>dsimp only [Zg,id,go_sem]<;>simp [Zg,Za])
 | false =>
  refine Zp rfl ?_;dsimp only [go_sem];refine ⟨by simp;omega,?_⟩;dsimp only [go_sem];refine ⟨_,rfl,?_⟩;(refine Zq ?_ ?_ ?_ rfl<;>dsimp only [Zg,id,go_sem]<;>simp [Zg,Za])
end Go.Proofs.YtkpkgafhfakpdaaGreatDoor.Cm
namespace Go.Azalai
theorem ZcJ {α : Type} (g:α->Bool):∀ (l:List α) (k:Nat),Yw g l k = -1->l.filter (λx=>!g x)=l
 | [],k,_=>rfl
 | x :: l,k,h=>by
  unfold Yw at h;split at h
  . omega
  . rename_i hx;rw [List.filter_cons_of_pos (by simp [hx]),ZcJ g l (k+1) h]
theorem ZcN {α : Type} (g:α->Bool):∀ (l:List α) (k:Nat),Yw g l k≠-1->∃ i,i < l.length/\Yw g l k=((k+i:Nat):Int)/\(l.take (i+1)).filter (λx=>!g x)=l.take i
 | [],k,h=>by simp [Yw] at h
 | x :: l,k,h=>by
  unfold Yw at h ⊢;by_cases hx:g x=true
  . rw [if_pos hx];exact ⟨0,by simp,by simp,by simp [hx]⟩
  . rw [if_neg hx] at h ⊢;obtain ⟨i,h1,h2,h3⟩:=ZcN g l (k+1) h;refine ⟨i+1,by simp;omega,by rw [h2];congr 1;omega,?_⟩;rw [List.take_succ_cons,List.filter_cons_of_pos (by simp [hx]),h3,List.take_succ_cons]
end Go.Azalai
namespace Go.Proofs.YtkpkgafhfakpdaaGreatDoor.Cm
open Go Go.Sx Go.Azalai
def Zt2 (v:Nat) (l:List Meet) (o:Ot):Prop :=
 (l.filter (·.close)=l/\o=⟨false,.mr 0 v,[(0,.row v 4 (l.map Zg) 274)],1⟩) \/
  ∃ l':List Meet,l'.length=l.length/\(l.filter (·.close)).length<=l'.length/\l'.take (l.filter (·.close)).length=l.filter (·.close)/\o=⟨false,.ms 0 v 4 0 (l.filter (·.close)).length,[(0,.row v 4 (l'.map Zg) 274)],1⟩
theorem Zg9 (v:Nat) (l:List Meet) (hL:l.length<=1000) :
 CtM Tryz.prog 213 [(0,.row v 4 (l.map Zg) 274)] 1 [.mr 0 v,.cl 214 []] (Zt2 v l):=by
 refine m213 (by simp [hpb]) (λo ho=>by rcases ho with ⟨_,rfl⟩ | ⟨l',_,_,_,rfl⟩<;>simp [KX,KXL,KXP,KXH,Za,KFL,KF,Zg]) ?_;dsimp only [c213,r213,go_sem];refine XK (by simp [FLT]) (res:=I (Yw (λm:Meet=>!m.close) l 0)) ?_ ?_
 . (repeat first | dsimp only [go_sem] | simp only [nbr])
   exact ZxE 214 [] trivial (λm:Meet=>!m.close) l (λm _=>Zp2 m) (by omega)
 dsimp only [go_sem];by_cases hn:Yw (λm:Meet=>!m.close) l 0 = -1
 . refine Zs (by simpa using hn) ?_;dsimp only [go_sem];refine ⟨_,.inl ⟨by simpa using ZcJ _ l 0 hn,rfl⟩,?_⟩;(refine Zq ?_ ?_ ?_ rfl<;>dsimp only [Zg,id,go_sem]<;>simp [Zg,Za])
 refine Zp (by simpa using hn) ?_;dsimp only [go_sem];obtain ⟨i0,h1,h2,h3⟩:=ZcN _ l 0 hn;rw [Nat.zero_add] at h2;rw [h2];rw [Zf (n:=(i0:Int)+1) (by omega) (by omega)];simp only [Bool.not_not] at h3;refine Z1 (λs:Nat × Nat × List Meet=>[(5,I s.1),(6,I s.2.1)]) (λs=>[(0,.row v 4 (s.2.2.map Zg) 274)]) (λs=>(s.1 < s.2.1/\s.2.1<=l.length)/\s.2.2.length=l.length/\s.1=((l.take s.2.1).filter (·.close)).length/\s.2.2.take s.1=(l.take s.2.1).filter (·.close)/\∀ p,s.2.1<=p->s.2.2[p]? = l[p]?) (λs=>l.length - s.2.1) (i0,i0+1,l) ⟨by simp only;omega,rfl,by simp only [h3];simp;omega,h3.symm,λ_ _=>rfl⟩ ?_ ?_
 . rw [show (i0:Int)+1=((i0+1:Nat):Int) from by omega];(refine Zi ?_ ?_ ?_ rfl rfl<;>dsimp only [Zg,id,go_sem]<;>simp [Zg,Za])
 rintro ⟨i,j,l1⟩ ⟨⟨hij,hj⟩,hl1,hi,ht,hd⟩;simp only at hij hj hl1 hi ht hd
 (repeat first | dsimp only [go_sem] | simp only [nbr])
 simp only [List.length_map];by_cases hlt:j < l.length
 . refine Zs (by simp;omega) ?_
   (repeat first | dsimp only [go_sem] | simp only [nbr])
   refine Xl j rfl (by simp;omega) ?_
   (repeat first | dsimp only [go_sem] | simp only [nbr])
   refine Vf (by omega) ?_
   (repeat first | dsimp only [Zg,go_sem] | simp only [nbr])
   have hlj:l1[j]=l[j]:=by
    have:=hd j (Nat.le_refl _);rw [List.getElem?_eq_getElem (by omega),List.getElem?_eq_getElem hlt] at this;exact Option.some.inj this
   have htake:l.take (j+1)=l.take j ++ [l[j]]:=(List.take_append_getElem hlt).symm;refine call (Zp2 l1[j]) ?_
   (repeat first | dsimp only [go_sem] | simp only [nbr])
   by_cases hc:l1[j].close=true
   . refine Zs (by simp [hc]) ?_
     (repeat first | dsimp only [go_sem] | simp only [nbr])
     refine Xl i rfl (by simp;omega) ?_
     (repeat first | dsimp only [go_sem] | simp only [nbr])
     refine Zcf l1[j] (by omega) (by simp [Zg]) (by simp [Zg,Zm]) ?_
     (repeat first | dsimp only [go_sem] | simp only [nbr])
     simp (disch:=omega) only [Zf];refine ⟨(i+1,j+1,l1.set i l1[j]),⟨by simp only;omega,by simp [hl1],?_,?_,λp hp=>?_⟩,by simp only;omega,?_⟩
     . simp only;rw [htake,List.filter_append,List.length_append,<- hi];rw [hlj] at hc;simp [hc]
     . simp only;rw [htake,List.filter_append,<- ht,hlj];rw [hlj] at hc;rw [List.take_succ_eq_append_getElem (by simp;omega)];simp [hc,List.take_set_of_le]
     . simp only at hp ⊢;rw [List.getElem?_set_ne (by omega)];exact hd p (by omega)
     . rw [show (i:Int)+1=((i+1:Nat):Int) from by omega,show (j:Int)+1=((j+1:Nat):Int) from by omega];generalize l1.set i l1[j]=l2;(refine Zi ?_ ?_ ?_ rfl rfl<;>dsimp only [Zg,id,go_sem]<;>simp [Zg,Za])
   . refine Zp (by simp [hc]) ?_
     (repeat first | dsimp only [go_sem] | simp only [nbr])
     simp (disch:=omega) only [Zf];refine ⟨(i,j+1,l1),⟨by simp only;omega,hl1,?_,?_,λp hp=>hd p (by simp only at hp;omega)⟩,by simp only;omega,?_⟩
     . simp only;rw [htake,List.filter_append,List.length_append,<- hi];rw [hlj] at hc;simp [hc]
     . simp only;rw [htake,List.filter_append,ht];rw [hlj] at hc;simp [hc]
     . rw [show (j:Int)+1=((j+1:Nat):Int) from by omega];(refine Zi ?_ ?_ ?_ rfl rfl<;>dsimp only [Zg,id,go_sem]<;>simp [Zg,Za])
 refine Zp (by simp;omega) ?_
 (repeat first | dsimp only [go_sem] | simp only [nbr])
 have hje:j=l.length:=by omega
 subst hje;rw [List.take_length] at hi ht;refine ⟨i,l.length,⟨rfl,by simp;omega,by omega,by simp;omega⟩,?_⟩
 (repeat first | dsimp only [go_sem] | simp only [nbr])
 refine Zib (z:=.agg #[.int .i64 0,.int .i64 0,.int .i64 0,.bool false]) (zl:=[.int .i64 0,.int .i64 0,.int .i64 0,.bool false]) rfl rfl (by simp;omega) (by kernel_rfl) (by kernel_rfl) rfl rfl (by intro v hv;simp at hv;rcases hv with rfl | rfl<;>rfl) ?_;have hrow:List.take i (List.map Zg l1) ++ (List.replicate (l.length - i) (List.map SV.v [Value.int IntKind.i64 0,Value.int IntKind.i64 0,Value.int IntKind.i64 0,Value.bool false]) ++ List.drop (i+(l.length - i)) (List.map Zg l1))=(l1.take i ++ List.replicate (l.length - i) (⟨0,0,0,false⟩:Meet)).map Zg:=by
  rw [List.drop_of_length_le (by simp;omega),List.append_nil,List.map_append,List.map_take,List.map_replicate];rfl
 rw [hrow];obtain ⟨l2,hl2⟩:∃ l2,l2=l1.take i ++ List.replicate (l.length - i) (⟨0,0,0,false⟩:Meet):=⟨_,rfl⟩
 rw [<- hl2];have hlen:l2.length=l.length:=by rw [hl2];simp;omega
 have ht2:l2.take i=l.filter (·.close):=by rw [hl2,List.take_left' (by simp;omega),ht]
 (repeat first | dsimp only [go_sem] | simp only [nbr])
 refine ⟨0,i,⟨rfl,rfl,by omega,by simp;omega⟩,?_⟩;rw [Nat.sub_zero]
 (repeat first | dsimp only [go_sem] | simp only [nbr])
 subst hi;refine ⟨_,.inr ⟨l2,hlen,by omega,ht2,rfl⟩,?_⟩;(refine Zq ?_ ?_ ?_ rfl<;>dsimp only [Zg,id,go_sem]<;>simp [Zg,Za])
end Go.Proofs.YtkpkgafhfakpdaaGreatDoor.Cm
namespace Go.Azalai
def gI (s:List Int) (i:Int):Int:=s.getD i.toNat 0
def XG (w d a b:Int) (s:List Int):List Int:=if gI s a<=d then s.set b.toNat (min (gI s b) (d+w)) else s
def Zbu (w:Int) (m:Meet) (s:List Int):List Int:=XG w m.day m.b m.a (XG w m.day m.a m.b s)
def ZN (w last:Int):List Meet->List Int->List Int
 | [],s=>s
 | m :: l,s=>if m.day > last then s else ZN w last l (Zbu w m s)
def Yz:List Int->List Int->List Int
 | [],s=>s
 | i :: l,s=>Yz l (s.set i.toNat 0)
theorem WM (w d a b:Int) (s:List Int):(XG w d a b s).length=s.length:=by unfold XG;split<;>simp
def okM (n:Int) (m:Meet):Prop:=(0<=m.a/\m.a < n)/\(0<=m.b/\m.b < n)/\m.a≠m.b/\0<=m.day/\m.day<=100000
theorem ZaG {s:List Int} {i:Int} {k:Nat} (h:i=k) (hk:k < s.length):gI s i=s[k]:=by
 unfold gI;rw [h,Int.toNat_natCast,List.getD_eq_getElem?_getD,List.getElem?_eq_getElem hk];rfl
end Go.Azalai
namespace Go.Proofs.YtkpkgafhfakpdaaGreatDoor.Cm
open Go Go.Sx Go.Azalai
theorem UX (n:Nat) (first:List Int) (meets:List Meet) (w last:Int) (c1 c2:Bool) (hn:1<=n) (hn':n<=30) (hf:∀ i ∈ first,0<=i/\i < n) (hm:∀ m ∈ meets,okM n m) (hw:0<=w/\w<=60) (hl1:first.length<=1000) (hl2:meets.length<=1000) :
 Ct Tryz.prog 212 [I n,.sl c1 1 (first.map Zk),.sl c2 4 (meets.map Zg),I w,I last] (.sl false 1 ((ZN w last meets (Yz first (List.replicate n 100061))).map Zk)):=by
 refine t212.1 (by simp [Zg,Za,Zk]) (by simp [Za,Zk]) ?_;dsimp only [c212,r212,go_sem];refine Zr [] (ZrN 100061 n hn (by omega) true) rfl rfl rfl ?_ ?_ ?_
 . (repeat first | dsimp only [go_sem] | simp only [nbr])
   simp [mtL,mtB,mtS,KFR,KFL,KF]
 . (repeat first | dsimp only [go_sem] | simp only [nbr])
 rintro _ rfl
 (repeat first | dsimp only [go_sem] | simp only [nbr])
 simp only [List.length_map];rw [show List.replicate n [I 100061]=(List.replicate n (100061:Int)).map Zk from by simp [Zk]];have hbl:∀ (l s:List Int),(Yz l s).length=s.length:=λl=>by
  induction l with
  | nil=>intro s;rfl
  | cons i l ih=>intro s;rw [Yz,ih];simp
 have hsI:(List.replicate n (100061:Int)).length=n:=by simp
 generalize List.replicate n (100061:Int)=sI at hsI;refine Z1 (λz:Nat × List Int=>[(22,I z.1)]) (λz=>[(0,.row 0 1 (z.2.map Zk) 3)]) (λz=>z.1<=first.length/\z.2.length=n/\Yz (first.drop z.1) z.2=Yz first sI) (λz=>first.length - z.1) (0,sI) ⟨Nat.zero_le _,hsI,by simp⟩ ?_ ?_
 . (refine Zi ?_ ?_ ?_ rfl rfl<;>dsimp only [Zg,Zk,id,go_sem]<;>simp [Zg,Zk,Za])
 rintro ⟨k,s⟩ ⟨hk,hs,hb⟩;simp only at hk hs hb;dsimp only [go_sem];by_cases hlt:k < first.length
 . refine Zs (by simpa using hlt) ?_;dsimp only [go_sem];refine Zu k hlt rfl ?_;dsimp only [Zk,go_sem];have hfk:=hf first[k] (List.getElem_mem _);obtain ⟨p,hp⟩:∃ p:Nat,first[k]=(p:Int):=⟨first[k].toNat,by omega⟩
   rw [List.drop_eq_getElem_cons hlt,hp] at hb;rw [hp] at hfk;rw [hp];refine Xl p rfl (by first | omega | (simp;omega)) ?_
   (repeat first | dsimp only [go_sem] | simp only [nbr])
   refine Zcf (0:Int) (by first | omega | (simp;omega)) (by simp [Zk]) (by simp [Zk,Zm]) ?_
   (repeat first | dsimp only [go_sem] | simp only [nbr])
   rw [Zf (n:=(k:Int)+1) (by omega) (by omega)];refine ⟨(k+1,s.set p 0),⟨hlt,by simp [hs],by simpa [Yz] using hb⟩,by simp only;omega,?_⟩;generalize s.set p 0=s2;(refine Zi ?_ ?_ ?_ rfl rfl<;>dsimp only [Zg,Zk,id,go_sem]<;>simp [Zg,Zk,Za])
 refine Zp (by simp;omega) ?_;dsimp only [go_sem];rw [show k=first.length from by omega,List.drop_length] at hb;simp only [Yz] at hb;subst hb;generalize Yz first sI=s0 at hs;refine Z1 (λz:Nat × List Int=>[(32,I z.1)]) (λz=>[(0,.row 0 1 (z.2.map Zk) 3)]) (λz=>z.1<=meets.length/\z.2.length=n/\ZN w last (meets.drop z.1) z.2=ZN w last meets s0) (λz=>meets.length - z.1) (0,s0) ⟨Nat.zero_le _,hs,by simp⟩ ?_ ?_
 . (refine Zi ?_ ?_ ?_ rfl rfl<;>dsimp only [Zg,Zk,id,go_sem]<;>simp [Zg,Zk,Za])
 rintro ⟨j,s⟩ ⟨hj,hs',hr⟩;simp only at hj hs' hr;dsimp only [go_sem];by_cases hlt:j < meets.length
 case neg =>
  refine Zp (by simp;omega) ?_;dsimp only [go_sem];rw [show j=meets.length from by omega,List.drop_length] at hr;simp only [ZN] at hr;rw [<- hr]
 refine Zs (by simpa using hlt) ?_;dsimp only [go_sem];refine Zu j hlt rfl ?_;dsimp only [Zg,go_sem];refine Zu j hlt rfl ?_;dsimp only [Zg,go_sem];refine Zu j hlt rfl ?_;dsimp only [Zg,go_sem];refine Zu j hlt rfl ?_;dsimp only [Zg,go_sem];have hmj:=hm meets[j] (List.getElem_mem _);rw [List.drop_eq_getElem_cons hlt] at hr;generalize hmm:meets[j]=m at hmj hr;obtain ⟨ma,mb,md,mc⟩:=m;obtain ⟨⟨ha0,ha1⟩,⟨hb0,hb1⟩,hab,hd0,hd1⟩:=hmj
 simp only at ha0 ha1 hb0 hb1 hab hd0 hd1;obtain ⟨pa,rfl⟩:∃ p:Nat,ma=p:=⟨ma.toNat,by omega⟩
 obtain ⟨pb,rfl⟩:∃ p:Nat,mb=p:=⟨mb.toNat,by omega⟩
 simp only;refine Z1 (λz:Nat × List Int=>[(58,I z.1)]) (λz=>[(0,.row 0 1 (z.2.map Zk) 3)]) (λz=>(z.1=0/\z.2=s)\/(z.1=1/\¬ md > last/\z.2=XG w md pa pb s)\/(z.1=2/\¬ md > last/\z.2=XG w md pb pa (XG w md pa pb s))) (λz=>2 - z.1) (0,s) (.inl ⟨rfl,rfl⟩) ?_ ?_
 . (refine Zi ?_ ?_ ?_ rfl rfl<;>dsimp only [Zg,Zk,id,go_sem]<;>simp [Zg,Zk,Za])
 rintro ⟨q,s1⟩ hq;simp only at hq;have hs1:s1.length=n:=by
  rcases hq with ⟨_,h⟩ | ⟨_,_,h⟩ | ⟨_,_,h⟩<;>rw [h]<;>simp [WM,hs']
 dsimp only [go_sem];rcases hq with ⟨rfl,hss⟩ | ⟨rfl,hday,hss⟩ | ⟨rfl,hday,hss⟩
 . skip
   refine Zs (by decide) ?_;dsimp only [go_sem];refine ixa 0 rfl (by decide) ?_
   (repeat first | dsimp only [go_sem] | simp only [nbr])
   refine Zu j hlt rfl ?_;rw [hmm];dsimp only [Zg,go_sem];by_cases hday:md > last
   . refine Zs (by simpa using hday) ?_;dsimp only [go_sem];simp only [ZN] at hr;rw [if_pos hday] at hr;rw [<- hr,hss]
   refine Zp (by simpa using hday) ?_
   (repeat first | dsimp only [go_sem] | simp only [nbr])
   refine ixa 0 rfl (by decide) ?_
   (repeat first | dsimp only [go_sem] | simp only [nbr])
   refine Xl pa rfl (by first | omega | (simp;omega)) ?_
   (repeat first | dsimp only [go_sem] | simp only [nbr])
   refine Vf (by first | omega | (simp;omega)) ?_
   (repeat first | dsimp only [Zk,go_sem] | simp only [nbr])
   refine Zu j hlt rfl ?_;rw [hmm];dsimp only [Zg,go_sem];have hgpa:gI s1 (pa:Int)=s1[pa]:=ZaG rfl (by omega);have hgpb:gI s1 (pb:Int)=s1[pb]:=ZaG rfl (by omega);by_cases hle:s1[pa]<=md
   . refine Zs (by simpa using hle) ?_
     (repeat first | dsimp only [go_sem] | simp only [nbr])
     refine ixa 1 rfl (by decide) ?_
     (repeat first | dsimp only [go_sem] | simp only [nbr])
     refine ixa 1 rfl (by decide) ?_
     (repeat first | dsimp only [go_sem] | simp only [nbr])
     refine Xl pb rfl (by first | omega | (simp;omega)) ?_
     (repeat first | dsimp only [go_sem] | simp only [nbr])
     refine Vf (by first | omega | (simp;omega)) ?_
     (repeat first | dsimp only [Zk,go_sem] | simp only [nbr])
     refine Zu j hlt rfl ?_;rw [hmm];dsimp only [Zg,go_sem];rw [Zf (n:=md+w) (by omega) (by omega)];refine Xl pb rfl (by first | omega | (simp;omega)) ?_
     (repeat first | dsimp only [go_sem] | simp only [nbr])
     refine Zcf (min s1[pb] (md+w)) (by first | omega | (simp;omega)) (by simp [Zk]) (by simp [Zk,Zm]) ?_
     (repeat first | dsimp only [go_sem] | simp only [nbr])
     refine ⟨(1,s1.set pb (min s1[pb] (md+w))),.inr (.inl ⟨rfl,hday,?_⟩),by simp only;omega,?_⟩
     . simp only;rw [show XG w md pa pb s=XG w md pa pb s1 from by rw [hss]];unfold XG;rw [if_pos (by rw [hgpa];exact hle),hgpb,Int.toNat_natCast]
     generalize s1.set pb (min s1[pb] (md+w))=s2;(refine Zi ?_ ?_ ?_ rfl rfl<;>dsimp only [Zg,Zk,ZbQ,Zbv,id,go_sem]<;>simp [Zg,Zk,ZbQ,Zbv,Za])
   refine Zp (by simpa using hle) ?_
   (repeat first | dsimp only [go_sem] | simp only [nbr])
   refine ⟨(1,s1),.inr (.inl ⟨rfl,hday,?_⟩),by simp only;omega,?_⟩
   . simp only;rw [show XG w md pa pb s=XG w md pa pb s1 from by rw [hss]];unfold XG;rw [if_neg (by rw [hgpa];exact hle)]
   (refine Zi ?_ ?_ ?_ rfl rfl<;>dsimp only [Zg,Zk,ZbQ,Zbv,id,go_sem]<;>simp [Zg,Zk,ZbQ,Zbv,Za])
 . skip
   refine Zs (by decide) ?_;dsimp only [go_sem];refine ixa 1 rfl (by decide) ?_
   (repeat first | dsimp only [go_sem] | simp only [nbr])
   refine Zu j hlt rfl ?_;rw [hmm];dsimp only [Zg,go_sem];refine Zp (by simpa using hday) ?_
   (repeat first | dsimp only [go_sem] | simp only [nbr])
   refine ixa 0 rfl (by decide) ?_
   (repeat first | dsimp only [go_sem] | simp only [nbr])
   refine Xl pb rfl (by first | omega | (simp;omega)) ?_
   (repeat first | dsimp only [go_sem] | simp only [nbr])
   refine Vf (by first | omega | (simp;omega)) ?_
   (repeat first | dsimp only [Zk,go_sem] | simp only [nbr])
   refine Zu j hlt rfl ?_;rw [hmm];dsimp only [Zg,go_sem];have hgpb:gI s1 (pb:Int)=s1[pb]:=ZaG rfl (by omega);have hgpa:gI s1 (pa:Int)=s1[pa]:=ZaG rfl (by omega);by_cases hle:s1[pb]<=md
   . refine Zs (by simpa using hle) ?_
     (repeat first | dsimp only [go_sem] | simp only [nbr])
     refine ixa 1 rfl (by decide) ?_
     (repeat first | dsimp only [go_sem] | simp only [nbr])
     refine ixa 1 rfl (by decide) ?_
     (repeat first | dsimp only [go_sem] | simp only [nbr])
     refine Xl pa rfl (by first | omega | (simp;omega)) ?_
     (repeat first | dsimp only [go_sem] | simp only [nbr])
     refine Vf (by first | omega | (simp;omega)) ?_
     (repeat first | dsimp only [Zk,go_sem] | simp only [nbr])
     refine Zu j hlt rfl ?_;rw [hmm];dsimp only [Zg,go_sem];rw [Zf (n:=md+w) (by omega) (by omega)];refine Xl pa rfl (by first | omega | (simp;omega)) ?_
     (repeat first | dsimp only [go_sem] | simp only [nbr])
     refine Zcf (min s1[pa] (md+w)) (by first | omega | (simp;omega)) (by simp [Zk]) (by simp [Zk,Zm]) ?_
     (repeat first | dsimp only [go_sem] | simp only [nbr])
     refine ⟨(2,s1.set pa (min s1[pa] (md+w))),.inr (.inr ⟨rfl,hday,?_⟩),by simp only;omega,?_⟩
     . simp only;rw [show XG w md pb pa (XG w md pa pb s)=XG w md pb pa s1 from by rw [hss]];unfold XG;rw [if_pos (by rw [hgpb];exact hle),hgpa,Int.toNat_natCast]
     generalize s1.set pa (min s1[pa] (md+w))=s2;(refine Zi ?_ ?_ ?_ rfl rfl<;>dsimp only [Zg,Zk,ZbQ,Zbv,id,go_sem]<;>simp [Zg,Zk,ZbQ,Zbv,Za])
   refine Zp (by simpa using hle) ?_
   (repeat first | dsimp only [go_sem] | simp only [nbr])
   refine ⟨(2,s1),.inr (.inr ⟨rfl,hday,?_⟩),by simp only;omega,?_⟩
   . simp only;rw [show XG w md pb pa (XG w md pa pb s)=XG w md pb pa s1 from by rw [hss]];unfold XG;rw [if_neg (by rw [hgpb];exact hle)]
   (refine Zi ?_ ?_ ?_ rfl rfl<;>dsimp only [Zg,Zk,ZbQ,Zbv,id,go_sem]<;>simp [Zg,Zk,ZbQ,Zbv,Za])
 . refine Zp (by decide) ?_;dsimp only [go_sem];rw [Zf (n:=(j:Int)+1) (by omega) (by omega)];refine ⟨(j+1,s1),⟨hlt,hs1,?_⟩,by simp only;omega,?_⟩
   . simp only [ZN,Zbu] at hr;rw [if_neg hday] at hr;show ZN w last (List.drop (j+1) meets) s1=_;rw [hss];exact hr
   (refine Zi ?_ ?_ ?_ rfl rfl<;>dsimp only [Zg,Zk,id,go_sem]<;>simp [Zg,Zk,Za])
end Go.Proofs.YtkpkgafhfakpdaaGreatDoor.Cm
namespace Go.Azalai
inductive Inf (first:List Int) (M:Meet->Prop) (w:Int):Int->Int->Prop
 | base {i:Int}:i ∈ first->Inf first M w i 0
 | l {m:Meet} {t:Int}:M m->Inf first M w m.a t->t<=m.day->Inf first M w m.b (m.day+w)
 | r {m:Meet} {t:Int}:M m->Inf first M w m.b t->t<=m.day->Inf first M w m.a (m.day+w)
def Zqx (first:List Int) (M:Meet->Prop) (w i day:Int):Prop:=∃ t,t<=day/\Inf first M w i t
theorem Inf.mono {first:List Int} {M M':Meet->Prop} {w i t:Int} (h:∀ m,M m->M' m) (hi:Inf first M w i t):Inf first M' w i t:=by
 induction hi with
 | base hb=>exact .base hb
 | l hm _ ht ih=>exact .l (h _ hm) ih ht
 | r hm _ ht ih=>exact .r (h _ hm) ih ht
theorem Inf.rng {n:Int} {first:List Int} {M:Meet->Prop} {w i t:Int} (hf:∀ i ∈ first,0<=i/\i < n) (hm:∀ m,M m->okM n m) (hi:Inf first M w i t):0<=i/\i < n:=by
 cases hi with
 | base hb=>exact hf _ hb
 | l h _ _=>exact (hm _ h).2.1
 | r h _ _=>exact (hm _ h).1
theorem Inf.earlier {first:List Int} {M M':Meet->Prop} {w w' i t:Int} (h:∀ m,M m->M' m) (hw:w'<=w) (hi:Inf first M w i t):∃ t',t'<=t/\Inf first M' w' i t':=by
 induction hi with
 | base hb=>exact ⟨0,Int.le_refl _,.base hb⟩
 | l hm _ ht ih=>obtain ⟨t',h1,h2⟩:=ih;exact ⟨_,by omega,.l (h _ hm) h2 (by omega)⟩
 | r hm _ ht ih=>obtain ⟨t',h1,h2⟩:=ih;exact ⟨_,by omega,.r (h _ hm) h2 (by omega)⟩
theorem Zd5 {s:List Int} {b i x:Int} (hb:0<=b) (hbl:b < s.length) (hi:0<=i):gI (s.set b.toNat x) i=if i=b then x else gI s i:=by
 unfold gI;rw [List.getD_eq_getElem?_getD,List.getD_eq_getElem?_getD];by_cases h:i=b
 . subst h;rw [if_pos rfl,List.getElem?_set_self (by omega)];rfl
 . rw [if_neg h,List.getElem?_set_ne (by omega)]
theorem ZaC {w d a b i:Int} {s:List Int} (hb:0<=b) (hbl:b < s.length) (hi:0<=i):gI (XG w d a b s) i<=gI s i:=by
 unfold XG;split
 . rw [Zd5 hb hbl hi];split
   . rename_i h;subst h;omega
   . exact Int.le_refl _
 . exact Int.le_refl _
theorem Uu {w d a b:Int} {s:List Int} (hb:0<=b) (hbl:b < s.length) (ha:gI s a<=d):gI (XG w d a b s) b<=d+w:=by
 unfold XG;rw [if_pos ha,Zd5 hb hbl hb,if_pos rfl];omega
theorem UQ (w:Int) (m:Meet) (s:List Int):(Zbu w m s).length=s.length:=by unfold Zbu;rw [WM,WM]
theorem Zuk {first:List Int} {P:Meet->Prop} {w:Int} {m:Meet} (hw:1<=w) (hd:∀ p,P p->p.day<=m.day) {i t:Int} (hi:Inf first (λx=>P x\/x=m) w i t) :
 Inf first P w i t\/(i=m.b/\t=m.day+w/\∃ t',Inf first P w m.a t'/\t'<=m.day)\/(i=m.a/\t=m.day+w/\∃ t',Inf first P w m.b t'/\t'<=m.day):=by
 induction hi with
 | base hb=>exact .inl (.base hb)
 | l hm hp ht ih =>
  rename_i m' t';have hle:m'.day<=m.day:=by
   rcases hm with h | h
   . exact hd _ h
   . rw [h];exact Int.le_refl _
  rcases ih with h | ⟨_,h,_⟩ | ⟨_,h,_⟩
  . rcases hm with hm | hm
    . exact .inl (.l hm h ht)
    . subst hm;exact .inr (.inl ⟨rfl,rfl,t',h,ht⟩)
  . omega
  . omega
 | r hm hp ht ih =>
  rename_i m' t';have hle:m'.day<=m.day:=by
   rcases hm with h | h
   . exact hd _ h
   . rw [h];exact Int.le_refl _
  rcases ih with h | ⟨_,h,_⟩ | ⟨_,h,_⟩
  . rcases hm with hm | hm
    . exact .inl (.r hm h ht)
    . subst hm;exact .inr (.inr ⟨rfl,rfl,t',h,ht⟩)
  . omega
  . omega
theorem Zs7 {first:List Int} {Q P:Meet->Prop} {w last:Int} (hw:1<=w) (h:∀ m,Q m->m.day<=last->P m) {i t:Int} (hi:Inf first Q w i t) (ht:t<=last):Inf first P w i t:=by
 induction hi with
 | base hb=>exact .base hb
 | l hm hp htt ih=>exact .l (h _ hm (by omega)) (ih (by omega)) htt
 | r hm hp htt ih=>exact .r (h _ hm (by omega)) (ih (by omega)) htt
theorem ZcA {n:Int} {first:List Int} {w last:Int} (hw:1<=w) (hf:∀ i ∈ first,0<=i/\i < n):∀ (l:List Meet) (P:Meet->Prop) (s:List Int),s.length=n->(∀ m ∈ l,okM n m)->(∀ m,P m->okM n m)->l.Pairwise (λx y=>x.day<=y.day)->(∀ p,P p->∀ m ∈ l,p.day<=m.day) ->
 (∀ i t,Inf first P w i t->gI s i<=t)->∀ i t,Inf first (λm=>P m\/m ∈ l) w i t->t<=last->gI (ZN w last l s) i<=t
 | [],P,s,hs,hm,hP,hso,hd,hA,i,t,hi,ht=>hA i t (hi.mono λm h=>by simpa using h)
 | m :: l,P,s,hs,hm,hP,hso,hd,hA,i,t,hi,ht=>by
  have hso':=List.pairwise_cons.1 hso;unfold ZN;by_cases hlast:m.day > last
  . rw [if_pos hlast];refine hA i t (Zs7 hw (λq hq hql=>?_) hi ht);rcases hq with hq | hq
    . exact hq
    . rcases List.mem_cons.1 hq with rfl | hq
      . omega
      . have:=hso'.1 q hq;omega
  . rw [if_neg hlast];have hmo:=hm m (by simp);refine ZcA hw hf l (λx=>P x\/x=m) (Zbu w m s) (by rw [UQ];exact hs) (λx hx=>hm x (by simp [hx])) (λx hx=>by rcases hx with h | h;exact hP x h;rw [h];exact hmo) hso'.2 (λp hp x hx=>?_) (λj t' hj=>?_) i t (hi.mono λx hx=>?_) ht
    . rcases hp with hp | rfl
      . exact hd p hp x (by simp [hx])
      . exact hso'.1 x hx
    . have hr:=hj.rng hf (λx hx=>by rcases hx with h | h;exact hP x h;rw [h];exact hmo);obtain ⟨⟨a0,a1⟩,⟨b0,b1⟩,_,_,_⟩:=hmo;have l1:(XG w m.day m.a m.b s).length=n:=by rw [WM];exact hs
      have q1:=ZaC (w:=w) (d:=m.day) (a:=m.b) (b:=m.a) (i:=j) (s:=XG w m.day m.a m.b s) a0 (by omega) hr.1;have q2:=ZaC (w:=w) (d:=m.day) (a:=m.a) (b:=m.b) (i:=j) (s:=s) b0 (by omega) hr.1;rcases Zuk hw (λp hp=>hd p hp m (by simp)) hj with h | ⟨rfl,rfl,t1,h1,h2⟩ | ⟨rfl,rfl,t1,h1,h2⟩
      . have:=hA j t' h;unfold Zbu;omega
      . have h3:=hA _ _ h1;have:=Uu (w:=w) (d:=m.day) (a:=m.a) (b:=m.b) (s:=s) b0 (by omega) (by omega);unfold Zbu;omega
      . have h3:=hA _ _ h1;have q3:=ZaC (w:=w) (d:=m.day) (a:=m.a) (b:=m.b) (i:=m.b) (s:=s) b0 (by omega) b0;exact Uu (w:=w) (d:=m.day) (a:=m.b) (b:=m.a) (s:=XG w m.day m.a m.b s) a0 (by omega) (by omega)
    . rcases hx with hx | hx
      . exact .inl (.inl hx)
      . rcases List.mem_cons.1 hx with h | h
        . exact .inl (.inr h)
        . exact .inr h
theorem ZdE {n:Int} {first:List Int} {Q:Meet->Prop} {w W:Int} {s:List Int} {a b d:Int} (hs:s.length=n) (hb0:0<=b) (hb1:b < n) (ha0:0<=a) (ha1:a < n) (hd:d < W) (hB:∀ i,0<=i->i < n->gI s i=W\/Inf first Q w i (gI s i)) (hQ:∀ t,Inf first Q w a t->t<=d->Inf first Q w b (d+w)) :
 ∀ i,0<=i->i < n->gI (XG w d a b s) i=W\/Inf first Q w i (gI (XG w d a b s) i):=λi h0 h1=>by
 unfold XG;by_cases ha:gI s a<=d
 . rw [if_pos ha,Zd5 hb0 (by omega) h0];by_cases hib:i=b
   . subst hib;rw [if_pos rfl];rcases Int.le_total (gI s i) (d+w) with h | h
     . rw [Int.min_eq_left h];exact hB i h0 h1
     . rw [Int.min_eq_right h];rcases hB a ha0 ha1 with h2 | h2
       . omega
       . exact .inr (hQ _ h2 ha)
   . rw [if_neg hib];exact hB i h0 h1
 . rw [if_neg ha];exact hB i h0 h1
theorem Za4 {n:Int} {first:List Int} {Q:Meet->Prop} {w last W:Int} (hW:100000 < W):∀ (l:List Meet) (s:List Int),s.length=n->(∀ m ∈ l,okM n m/\Q m)->(∀ i,0<=i->i < n->gI s i=W\/Inf first Q w i (gI s i)) ->
 ∀ i,0<=i->i < n->gI (ZN w last l s) i=W\/Inf first Q w i (gI (ZN w last l s) i)
 | [],s,hs,hm,hB=>hB
 | m :: l,s,hs,hm,hB=>by
  unfold ZN;split
  . exact hB
  . obtain ⟨⟨⟨a0,a1⟩,⟨b0,b1⟩,_,d0,d1⟩,hQ⟩:=hm m (by simp);refine Za4 hW l (Zbu w m s) (by rw [UQ];exact hs) (λx hx=>hm x (by simp [hx])) ?_;unfold Zbu;refine ZdE (by rw [WM];exact hs) a0 a1 b0 b1 (by omega) (ZdE hs b0 b1 a0 a1 (by omega) hB (λt h1 h2=>.l hQ h1 h2)) (λt h1 h2=>.r hQ h1 h2)
theorem Xj:∀ (l s:List Int),(Yz l s).length=s.length
 | [],s=>rfl
 | i :: l,s=>by rw [Yz,Xj l];simp
theorem Xr (w last:Int):∀ (l:List Meet) (s:List Int),(ZN w last l s).length=s.length
 | [],s=>rfl
 | m :: l,s=>by unfold ZN;split;rfl;rw [Xr w last l,UQ]
theorem ZbH {n:Int}:∀ (l s:List Int),s.length=n->(∀ i ∈ l,0<=i/\i < n)->∀ i,0<=i->gI (Yz l s) i=if i ∈ l then 0 else gI s i
 | [],s,hs,hl,i,hi=>by simp [Yz]
 | j :: l,s,hs,hl,i,hi=>by
  have hj:=hl j (by simp);rw [Yz,ZbH l _ (by simpa using hs) (λi h=>hl i (by simp [h])) i hi,Zd5 hj.1 (by omega) hi];by_cases h1:i ∈ l
  . simp [h1]
  . by_cases h2:i=j
    . simp [h2]
    . simp [h1,h2]
theorem Zh3 {n:Nat} {x i:Int} (h0:0<=i) (h1:i < n):gI (List.replicate n x) i=x:=by
 unfold gI;rw [List.getD_eq_getElem?_getD,List.getElem?_replicate,if_pos (by omega)];rfl
theorem Zam {n:Nat} {first:List Int} {l:List Meet} {w day:Int} (hw:1<=w) (hday:day<=100000) (hf:∀ i ∈ first,0<=i/\i < (n:Int)) (hm:∀ m ∈ l,okM n m) (hso:l.Pairwise (λx y=>x.day<=y.day)) {i:Int} (h0:0<=i) (h1:i < n) :
 gI (ZN w day l (Yz first (List.replicate n 100061))) i<=day↔Zqx first (· ∈ l) w i day:=by
 have hlen:((Yz first (List.replicate n (100061:Int))).length:Int)=n:=by rw [Xj];simp
 have hb:=ZbH (n:=n) first (List.replicate n 100061) (by simp) hf;constructor
 . intro h
   have:=Za4 (n:=n) (first:=first) (Q:=(· ∈ l)) (w:=w) (last:=day) (W:=100061) (by omega) l _ hlen (λm h=>⟨hm m h,h⟩) (λj g0 g1=>by
    rw [hb j g0];split
    . rename_i h;exact .inr (.base h)
    . exact .inl (Zh3 g0 g1)) i h0 h1
   rcases this with h2 | h2
   . omega
   . exact ⟨_,h,h2⟩
 . rintro ⟨t,ht,hi⟩;refine Int.le_trans (ZcA (n:=n) hw hf l (λ_=>False) _ hlen hm (λ_ h=>h.elim) hso (λ_ h=>h.elim) (λj t' hj=>?_) i t (hi.mono λm h=>.inr h) ht) ht;cases hj with
   | base hj=>rw [hb j (hf j hj).1,if_pos hj];exact Int.le_refl _
   | l h _ _=>exact h.elim
   | r h _ _=>exact h.elim
def ZpY:List Int->Nat
 | []=>0
 | x :: l=>x.toNat+ZpY l
theorem Zek:∀ (s:List Int) (k:Nat) (x:Int) (h:k < s.length),ZpY (s.set k x)+s[k].toNat=ZpY s+x.toNat
 | y :: l,0,x,h=>by simp [ZpY];omega
 | y :: l,k+1,x,h=>by
  have:=Zek l k x (by simpa using h);simp only [List.set_cons_succ,ZpY,List.getElem_cons_succ];omega
def ZcC:Int:=1099511627776
theorem UI {w d a b:Int} {s:List Int} (h0:0<=d+w) (hb0:0<=b) (hb1:b < s.length):XG w d a b s=s\/ZpY (XG w d a b s) < ZpY s:=by
 unfold XG;split
 . obtain ⟨k,rfl⟩:∃ k:Nat,b=k:=⟨b.toNat,by omega⟩
   have hk:k < s.length:=by omega
   rw [ZaG rfl hk,Int.toNat_natCast];rcases Int.lt_or_le (d+w) s[k] with h | h
   . right;have:=Zek s k (min s[k] (d+w)) hk;rw [Int.min_eq_right (by omega)] at this ⊢;omega
   . left;rw [Int.min_eq_left h];exact List.set_getElem_self hk
 . exact .inl rfl
def act (close:Bool) (meets:List Meet) (m:Meet):Prop:=m ∈ meets/\(close=true->m.close=true)
structure Sk (n:Nat) (first:List Int) (M:Meet->Prop) (w:Int) (s:List Int):Prop where
 len:s.length=n
 inf:∀ i:Int,0<=i->i < n->gI s i=ZcC\/Inf first M w i (gI s i)
 fst:∀ i ∈ first,gI s i<=0
 up:∀ i:Int,0<=i->i < n->gI s i<=ZcC
theorem Sk.step {n:Nat} {first:List Int} {M:Meet->Prop} {w:Int} {s:List Int} (h:Sk n first M w s) (hf:∀ i ∈ first,0<=i/\i < (n:Int)) {a b d:Int} (ha:0<=a/\a < n) (hb:0<=b/\b < n) (hd:d<=100000) (hM:∀ t,Inf first M w a t->t<=d->Inf first M w b (d+w)):Sk n first M w (XG w d a b s):=by
 have hl:=h.len;refine ⟨by rw [WM];exact hl,ZdE (W:=ZcC) (n:=n) (by rw [hl]) hb.1 hb.2 ha.1 ha.2 (by unfold ZcC;omega) h.inf hM,λi hi=>?_,λi h0 h1=>?_⟩
 . exact Int.le_trans (ZaC hb.1 (by omega) (hf i hi).1) (h.fst i hi)
 . exact Int.le_trans (ZaC hb.1 (by omega) h0) (h.up i h0 h1)
structure Least (n:Nat) (first:List Int) (M:Meet->Prop) (w:Int) (s:List Int):Prop extends Sk n first M w s where
 le:∀ i t,Inf first M w i t->gI s i<=t
theorem Sk.least {n:Nat} {first:List Int} {M:Meet->Prop} {w:Int} {s:List Int} (h:Sk n first M w s) (hm:∀ m,M m->okM n m) (hs:∀ m,M m->XG w m.day m.a m.b s=s/\XG w m.day m.b m.a s=s):Least n first M w s:=by
 refine ⟨h,λi t hi=>?_⟩;have hl:=h.len
 induction hi with
 | base hb=>exact h.fst _ hb
 | l hM _ ht ih =>
  have:=Uu (w:=w) (hm _ hM).2.1.1 (by have:=(hm _ hM).2.1.2;omega) (Int.le_trans ih ht)
  rwa [(hs _ hM).1] at this
 | r hM _ ht ih =>
  have:=Uu (w:=w) (hm _ hM).1.1 (by have:=(hm _ hM).1.2;omega) (Int.le_trans ih ht)
  rwa [(hs _ hM).2] at this
theorem Least.unique {n:Nat} {first:List Int} {M:Meet->Prop} {w:Int} {s s':List Int} (h:Least n first M w s) (h':Least n first M w s'):s=s':=by
 have e:∀ i:Int,0<=i->i < n->gI s i=gI s' i:=λi h0 h1=>by
  have q1:=h.up i h0 h1;have q2:=h'.up i h0 h1;rcases h.inf i h0 h1 with g | g<;>rcases h'.inf i h0 h1 with g' | g'
  . rw [g,g']
  . have:=h.le _ _ g';omega
  . have:=h'.le _ _ g;omega
  . have:=h.le _ _ g';have:=h'.le _ _ g;omega
 apply List.ext_getElem (by rw [h.len,h'.len]);intro k k1 k2;have:=e k (by omega) (by rw [<- h.len];omega)
 rwa [ZaG rfl k1,ZaG rfl k2] at this
open Classical in
noncomputable def sickF (n:Nat) (first:List Int) (M:Meet->Prop) (w:Int):List Int:=if h:∃ s,Least n first M w s then Classical.choose h else []
theorem Least.sickF {n:Nat} {first:List Int} {M:Meet->Prop} {w:Int} {s:List Int} (h:Least n first M w s):sickF n first M w=s:=by
 have:∃ s,Least n first M w s:=⟨s,h⟩
 unfold Go.Azalai.sickF;rw [dif_pos this];exact (Classical.choose_spec this).unique h
theorem Least.sick {n:Nat} {first:List Int} {M:Meet->Prop} {w:Int} {s:List Int} (h:Least n first M w s) {i day:Int} (hd:day<=100000) (h0:0<=i) (h1:i < n):gI s i<=day↔Zqx first M w i day:=by
 constructor
 . intro hs;rcases h.inf i h0 h1 with g | g
   . unfold ZcC at g;omega
   . exact ⟨_,hs,g⟩
 . rintro ⟨t,ht,hi⟩;exact Int.le_trans (h.le i t hi) ht
end Go.Azalai
namespace Go.Proofs.YtkpkgafhfakpdaaGreatDoor.Cm
open Go Go.Sx Go.Azalai
end Go.Proofs.YtkpkgafhfakpdaaGreatDoor.Cm
namespace Go.Azalai
def X7 (n:Int) (first:List Int) (meets:List Meet) (wait:Span) (day:Int):Int :=
 if !(inR 1 30 n && Z4 1 60 wait && inR 0 100000 day) then 2 else if first.length > 30\/meets.length > 200 then 4 else if !(first.all (inR 0 (n - 1))) || meets.any (Zki n) then 14 else 0
end Go.Azalai
namespace Go.Proofs.YtkpkgafhfakpdaaGreatDoor.Cm
open Go Go.Sx Go.Azalai
end Go.Proofs.YtkpkgafhfakpdaaGreatDoor.Cm
namespace Go.Azalai
def knF (day x y:Int):Int:=if day < x then 0 else if y<=day then 2 else 1
noncomputable def Ua (n:Int) (first:List Int) (meets:List Meet) (wait:Span) (day:Int):List Int :=
 (List.range n.toNat).map λi:Nat=>knF day (gI (sickF n.toNat first (act false meets) wait.lo) (i:Nat)) (gI (sickF n.toNat first (act true meets) wait.hi) (i:Nat))
theorem ZkI {n:Nat} {first:List Int} {M:Meet->Prop} {w:Int} (hf:∀ i ∈ first,0<=i/\i < (n:Int)) (hm:∀ m,M m->okM n m) (hw:0<=w):∀ (N:Nat) (s:List Int),ZpY s<=N->Sk n first M w s->∃ s,Least n first M w s:=λN=>by
 induction N with
 | zero =>
  intro s hN hs;refine ⟨s,hs.least hm λm hM=>?_⟩;obtain ⟨⟨a0,a1⟩,⟨b0,b1⟩,_,d0,d1⟩:=hm m hM;have hl:=hs.len;refine ⟨?_,?_⟩
  . rcases UI (w:=w) (d:=m.day) (a:=m.a) (b:=m.b) (s:=s) (by omega) b0 (by omega) with h | h
    . exact h
    . omega
  . rcases UI (w:=w) (d:=m.day) (a:=m.b) (b:=m.a) (s:=s) (by omega) a0 (by omega) with h | h
    . exact h
    . omega
 | succ N ih =>
  intro s hN hs;by_cases hall:∀ m,M m->XG w m.day m.a m.b s=s/\XG w m.day m.b m.a s=s
  . exact ⟨s,hs.least hm hall⟩
  . have ⟨m,hq⟩:=Classical.not_forall.1 hall;have ⟨hM,hne⟩:=Classical.not_imp.1 hq;obtain ⟨⟨a0,a1⟩,⟨b0,b1⟩,_,d0,d1⟩:=hm m hM;have hl:=hs.len;by_cases e1:XG w m.day m.a m.b s=s
    . have e2:XG w m.day m.b m.a s≠s:=λe2=>hne ⟨e1,e2⟩;rcases UI (w:=w) (d:=m.day) (a:=m.b) (b:=m.a) (s:=s) (by omega) a0 (by omega) with h | h
      . exact absurd h e2
      . exact ih _ (by omega) (hs.step hf ⟨b0,b1⟩ ⟨a0,a1⟩ d1 (λt g1 g2=>.r hM g1 g2))
    . rcases UI (w:=w) (d:=m.day) (a:=m.a) (b:=m.b) (s:=s) (by omega) b0 (by omega) with h | h
      . exact absurd h e1
      . exact ih _ (by omega) (hs.step hf ⟨a0,a1⟩ ⟨b0,b1⟩ d1 (λt g1 g2=>.l hM g1 g2))
theorem WE {n:Nat} {first:List Int} {M:Meet->Prop} {w:Int} (hf:∀ i ∈ first,0<=i/\i < (n:Int)) (hm:∀ m,M m->okM n m) (hw:0<=w):∃ s,Least n first M w s:=by
 refine ZkI hf hm hw _ (Yz first (List.replicate n ZcC)) (Nat.le_refl _) ?_;have hb:=ZbH (n:=n) first (List.replicate n ZcC) (by simp) hf;refine ⟨by rw [Xj];simp,λi h0 h1=>?_,λi hi=>?_,λi h0 h1=>?_⟩
 . rw [hb i h0];split
   . rename_i h;exact .inr (.base h)
   . exact .inl (Zh3 h0 h1)
 . rw [hb i (hf i hi).1,if_pos hi];exact Int.le_refl _
 . rw [hb i h0];split
   . unfold ZcC;omega
   . rw [Zh3 h0 h1];exact Int.le_refl _
theorem Znk {n:Int} {first:List Int} {meets:List Meet} {wait:Span} {day:Int} (h:X7 n first meets wait day=0):(1<=n/\n<=30)/\(1<=wait.lo/\wait.lo<=wait.hi/\wait.hi<=60)/\(0<=day/\day<=100000)/\first.length<=30/\meets.length<=200/\(∀ i ∈ first,0<=i/\i < n)/\∀ m ∈ meets,okM n m:=by
 unfold X7 at h;split at h
 . cases h
 rename_i h1;split at h
 . cases h
 rename_i h2;split at h
 . cases h
 rename_i h3;simp only [Bool.not_eq_true',Bool.not_eq_false,Bool.and_eq_true,inR,Z4,decide_eq_true_eq,Bool.or_eq_true,not_or,Bool.not_eq_true] at h1 h3;refine ⟨h1.1.1,h1.1.2,h1.2,by omega,by omega,λi hi=>?_,λm hm=>?_⟩
 . have:=List.all_eq_true.1 h3.1 i hi;simp only [inR,decide_eq_true_eq] at this;omega
 . have:=List.any_eq_false.1 h3.2 m hm;unfold Zki inR at this;simp only [Bool.or_eq_true,Bool.not_eq_true',Bool.and_eq_false_iff,decide_eq_false_iff_not,decide_eq_true_eq,not_or] at this;unfold okM;omega
end Go.Azalai
namespace Go.Proofs.YtkpkgafhfakpdaaGreatDoor.Cm
open Go Go.Sx Go.Azalai
def u8L (n:Int):List SV:=[U8 n]
def rowsK (e:Int) (l:List Int):SV:=if e=0 then .sl false 1 (l.map u8L) else .v (.slice none 0 0)
end Go.Proofs.YtkpkgafhfakpdaaGreatDoor.Cm
namespace Go.Azalai
theorem UK {l:List Meet} (h:Srt Meet.day 0 l.length l):l.Pairwise (λx y=>x.day<=y.day):=by
 rw [List.pairwise_iff_getElem];intro i j hi hj hij;have:=h i j (Nat.zero_le _) hij hj
 rwa [Xt Meet.day hi,Xt Meet.day hj] at this
theorem Zeb {n:Nat} {first:List Int} {meets l:List Meet} {wait:Span} {day:Int} (hw:1<=wait.lo/\wait.lo<=wait.hi) (hd:0<=day/\day<=100000) (hf:∀ i ∈ first,0<=i/\i < (n:Int)) (hm:∀ m ∈ meets,okM n m)
 (hp:l.Perm meets) (hs:l.Pairwise (λx y=>x.day<=y.day)) (hl:∃ s,Least n first (act false meets) wait.lo s) (hl2:∃ s,Least n first (act true meets) wait.hi s) {i:Nat} (hi:i < n) :
 (if gI (ZN wait.hi day (l.filter (·.close)) (Yz first (List.replicate n 100061))) i<=day then 2 else if gI (ZN wait.lo day l (Yz first (List.replicate n 100061))) i<=day then 1 else 0)=knF day (gI (sickF n first (act false meets) wait.lo) i) (gI (sickF n first (act true meets) wait.hi) i):=by
 obtain ⟨s1,h1⟩:=hl;obtain ⟨s2,h2⟩:=hl2;rw [h1.sickF,h2.sickF];have hml:∀ m ∈ l,okM n m:=λm h=>hm m (hp.mem_iff.1 h);have e1:=Zam (n:=n) (first:=first) (l:=l) (w:=wait.lo) (day:=day) hw.1 hd.2 hf hml hs (i:=(i:Int)) (by omega) (by omega);have e2:=Zam (n:=n) (first:=first) (l:=l.filter (·.close)) (w:=wait.hi) (day:=day) (by omega) hd.2 hf (λm h=>hml m (List.mem_filter.1 h).1) (hs.filter _) (i:=(i:Int)) (by omega) (by omega)
 have g1:=h1.sick (day:=day) hd.2 (i:=(i:Int)) (by omega) (by omega);have g2:=h2.sick (day:=day) hd.2 (i:=(i:Int)) (by omega) (by omega);have c1:Zqx first (· ∈ l) wait.lo i day↔Zqx first (act false meets) wait.lo i day :=
  ⟨λ⟨t,ht,h⟩=>⟨t,ht,h.mono λm hm=>⟨hp.mem_iff.1 hm,λh=>by cases h⟩⟩,λ⟨t,ht,h⟩=>⟨t,ht,h.mono λm hm=>hp.mem_iff.2 hm.1⟩⟩
 have c2:Zqx first (· ∈ l.filter (·.close)) wait.hi i day↔Zqx first (act true meets) wait.hi i day :=
  ⟨λ⟨t,ht,h⟩=>⟨t,ht,h.mono λm hm=>⟨hp.mem_iff.1 (List.mem_filter.1 hm).1,λ_=>(List.mem_filter.1 hm).2⟩⟩,λ⟨t,ht,h⟩=>⟨t,ht,h.mono λm hm=>List.mem_filter.2 ⟨hp.mem_iff.2 hm.1,hm.2 rfl⟩⟩⟩
 have c3:Zqx first (act true meets) wait.hi i day->Zqx first (act false meets) wait.lo i day:=λ⟨t,ht,h⟩=>by
  obtain ⟨t',q1,q2⟩:=h.earlier (M':=act false meets) (w':=wait.lo) (λm hm=>⟨hm.1,λh=>by cases h⟩) hw.2;exact ⟨t',by omega,q2⟩
 rw [c1,<- g1] at e1;rw [c2,<- g2] at e2;rw [<- g1,<- g2] at c3;unfold knF;by_cases q2:gI s2 (i:Int)<=day
 . have:=c3 q2;rw [if_pos (e2.2 q2),if_neg (by omega),if_pos q2]
 . rw [if_neg (λh=>q2 (e2.1 h))];by_cases q1:gI s1 (i:Int)<=day
   . rw [if_pos (e1.2 q1),if_neg (by omega),if_neg q2]
   . rw [if_neg (λh=>q1 (e1.1 h)),if_pos (by omega)]
end Go.Azalai
namespace Go.Proofs.YtkpkgafhfakpdaaGreatDoor.Cm
open Go Go.Sx Go.Azalai
theorem mange_ok (n:Int) (first:List Int) (meets:List Meet) (wait:Span) (day:Int) (c1 c2:Bool) (hl1:first.length<=1000) (hl2:meets.length<=1000) :
 Ct Tryz.prog 165 [I n,.sl c1 1 (first.map Zk),.sl c2 4 (meets.map Zg),.agg (Zh wait),I day] (.tup [rowsK (X7 n first meets wait day) (Ua n first meets wait day),I (X7 n first meets wait day)]):=by
 have hkr:KF (rowsK (X7 n first meets wait day) (Ua n first meets wait day)):=by
  unfold rowsK;split<;>simp [KF,Za,KFL,u8L,U8]
 refine t165.1 (by simp [Zg,Za,Zk,Zh]) (by simp [KF,KFL,hkr]) ?_;dsimp only [c165,r165,Zh,go_sem];refine call (Zal 1 30 n true) ?_;dsimp only [go_sem];repeat (first | (refine gb ?_;dsimp only [go_sem]) | (refine call (YV 1 60 wait true) ?_;dsimp only [go_sem]) | (refine call (Zal 0 100000 day true) ?_;dsimp only [go_sem]))
 by_cases h1:(inR 1 30 n && Z4 1 60 wait && inR 0 100000 day)=true
 case neg =>
  refine Zs (by revert h1;cases inR 1 30 n<;>cases Z4 1 60 wait<;>cases inR 0 100000 day<;>simp) ?_;dsimp only [go_sem];have hE:X7 n first meets wait day=2:=by
   unfold X7;rw [if_pos (by revert h1;cases inR 1 30 n<;>cases Z4 1 60 wait<;>cases inR 0 100000 day<;>simp)]
  simp [rowsK,hE]
 refine Zp (by revert h1;cases inR 1 30 n<;>cases Z4 1 60 wait<;>cases inR 0 100000 day<;>simp) ?_;dsimp only [go_sem];repeat (refine gb ?_;dsimp only [go_sem])
 simp only [List.length_map];by_cases h2:first.length > 30\/meets.length > 200
 . refine Zs (by simp;omega) ?_;dsimp only [go_sem];have hE:X7 n first meets wait day=4:=by
    unfold X7;rw [if_neg (by simp [h1]),if_pos h2]
   simp [rowsK,hE]
 refine Zp (by simp;omega) ?_;dsimp only [go_sem];have hn:1<=n/\n<=30:=by simp only [Bool.and_eq_true,inR,decide_eq_true_eq] at h1;exact h1.1.1
 have hE0:X7 n first meets wait day=if !(first.all (inR 0 (n - 1))) || meets.any (Zki n) then 14 else 0:=by
  unfold X7;rw [if_neg (by simp [h1]),if_neg h2]
 rw [Zf (n:=n - 1) (by omega) (by omega)];refine call (WN 0 (n - 1) first (by omega) c1) ?_;dsimp only [go_sem];repeat (refine gb ?_;dsimp only [go_sem])
 refine XK (by simp [FLT]) (res:=B (meets.any (Zki n))) ?_ ?_
 . dsimp only [go_sem];exact con78 206 [.ps [I n] 0] (by simp) (Zki n) meets (λx _=>ZxK n hn.1 hn.2 x) (by omega)
 dsimp only [go_sem];repeat (refine gb ?_;dsimp only [go_sem])
 by_cases h3:(!(first.all (inR 0 (n - 1))) || meets.any (Zki n))=true
 . refine Zs (by revert h3;cases first.all (inR 0 (n - 1))<;>cases meets.any (Zki n)<;>simp) ?_;dsimp only [go_sem];rw [if_pos h3] at hE0;simp [rowsK,hE0]
 refine Zp (by revert h3;cases first.all (inR 0 (n - 1))<;>cases meets.any (Zki n)<;>simp) ?_;dsimp only [go_sem];rw [if_neg h3] at hE0;obtain ⟨_,hw,hd,hf1,hm1,hf,hm⟩:=Znk hE0;clear h1 h2 h3;refine Zr [] (ZeF meets (by omega) c2) rfl rfl rfl ?_ ?_ ?_
 . (repeat first | dsimp only [go_sem] | simp only [nbr])
   simp [mtL,mtB,mtS,Za,KFR,KFL,KF,Zg]
 . (repeat first | dsimp only [go_sem] | simp only [nbr])
 rintro _ rfl
 (repeat first | dsimp only [go_sem] | simp only [nbr])
 refine gh XU ?_
 (repeat first | dsimp only [go_sem] | simp only [nbr])
 refine Zr [2] (ZbU 0 meets (by omega)) rfl rfl rfl ?_ ?_ ?_
 . (repeat first | dsimp only [go_sem] | simp only [nbr])
   simp [mtL,mtB,mtS]
 . (repeat first | dsimp only [go_sem] | simp only [nbr])
   simp [Za,Zg,KFL,KF]
 rintro _ ⟨l,hpl,hsl,rfl⟩
 (repeat first | dsimp only [YM,go_sem] | simp only [nbr])
 refine gh (ZdH 13 2 0 rfl rfl rfl rfl) ?_;obtain ⟨k,rfl⟩:∃ k:Nat,n=k:=⟨n.toNat,by omega⟩
 have hll:=hpl.len;have hso:=UK (by rw [hll];exact hsl);have hml:∀ m ∈ l,okM k m:=λm h=>hm m (hpl.perm.mem_iff.1 h)
 (repeat first | dsimp only [go_sem] | simp only [nbr])
 refine call (UX k first l wait.lo day c1 false (by omega) (by omega) hf hml (by omega) hl1 (by omega)) ?_
 (repeat first | dsimp only [go_sem] | simp only [nbr])
 refine Zr [] (ZeF l (by omega) false) rfl rfl rfl ?_ ?_ ?_
 . (repeat first | dsimp only [go_sem] | simp only [nbr])
   simp [mtL,mtB,mtS,Za,KFR,KFL,KF,Zg]
 . (repeat first | dsimp only [go_sem] | simp only [nbr])
 rintro _ rfl
 (repeat first | dsimp only [go_sem] | simp only [nbr])
 refine Zr [3] (Zg9 0 l (by omega)) rfl rfl rfl ?_ ?_ ?_
 . (repeat first | dsimp only [go_sem] | simp only [nbr])
   simp [mtL,mtB,mtS]
 . (repeat first | dsimp only [go_sem] | simp only [nbr])
   simp [Za,Zg,KFL,KF]
 rintro _ (⟨hfl,rfl⟩ | ⟨l',hl',hle,htk,rfl⟩)
 . (repeat first | dsimp only [go_sem] | simp only [nbr])
   refine gh (ZdH 15 3 0 rfl rfl rfl rfl) ?_;rw [show l.map Zg=(l.filter (·.close)).map Zg from by rw [hfl]];clear hfl;generalize hfl0:l.filter (·.close)=fl at *
   (repeat first | dsimp only [go_sem] | simp only [nbr])
   refine call (UX k first fl wait.hi day c1 false (by omega) (by omega) hf (λm h=>hml m (by rw [<- hfl0] at h;exact (List.mem_filter.1 h).1)) (by omega) hl1 (by rw [<- hfl0];exact Nat.le_trans (List.length_filter_le _ _) (by omega))) ?_
   (repeat first | dsimp only [go_sem] | simp only [nbr])
   have hlenE:(ZN wait.lo day l (Yz first (List.replicate k 100061))).length=k:=by rw [Xr,Xj];simp
   have hlenL:(ZN wait.hi day fl (Yz first (List.replicate k 100061))).length=k:=by rw [Xr,Xj];simp
   have heq:∀ i:Nat,i < k->(if gI (ZN wait.hi day fl (Yz first (List.replicate k 100061))) (i:Int)<=day then 2 else if gI (ZN wait.lo day l (Yz first (List.replicate k 100061))) (i:Int)<=day then 1 else 0)=knF day (gI (sickF k first (act false meets) wait.lo) i) (gI (sickF k first (act true meets) wait.hi) i):=λi hi=>by
    have:=Zeb (meets:=meets) (l:=l) ⟨hw.1,hw.2.1⟩ hd hf hm hpl.perm hso (WE hf (λm h=>hm m h.1) (by omega)) (WE hf (λm h=>hm m h.1) (by omega)) hi;rw [hfl0] at this;exact this
   generalize ZN wait.lo day l (Yz first (List.replicate k 100061))=E at hlenE heq;generalize ZN wait.hi day fl (Yz first (List.replicate k 100061))=L at hlenL heq;refine ⟨k,rfl,by omega,?_⟩
   (repeat first | dsimp only [go_sem] | simp only [nbr])
   rw [show List.replicate k [SV.v (Value.int IntKind.u8 0)]=(List.replicate k (0:Int)).map u8L from by simp [u8L,U8]];simp only [List.length_map,List.length_replicate];have hs0:(List.replicate k (0:Int)).length=k/\∀ i,i < k->(List.replicate k (0:Int))[i]? = some 0:=⟨by simp,λi hi=>by rw [List.getElem?_replicate,if_pos hi]⟩
   generalize List.replicate k (0:Int)=ks0 at hs0;refine Z1 (λz:Nat × List Int=>[(79,I z.1)]) (λz=>[(4,.row 0 1 (z.2.map u8L) 5)]) (λz=>z.1<=k/\z.2.length=k/\∀ i,i < k->z.2[i]? = some (if i < z.1 then (if gI L (i:Int)<=day then 2 else if gI E (i:Int)<=day then 1 else 0) else 0)) (λz=>k - z.1) (0,ks0) ⟨Nat.zero_le _,hs0.1,λi hi=>by rw [hs0.2 i hi,if_neg (Nat.not_lt_zero _)]⟩ ?_ ?_
   . (refine Zi ?_ ?_ ?_ rfl rfl<;>dsimp only [Zg,Zk,u8L,U8,id,go_sem]<;>simp [Zg,Zk,u8L,U8,Za])
   rintro ⟨j,ks⟩ ⟨hj,hkl,hki⟩;simp only at hj hkl hki
   (repeat first | dsimp only [go_sem] | simp only [nbr])
   by_cases hlt:j < k
   . refine Zs (by simpa using hlt) ?_
     (repeat first | dsimp only [go_sem] | simp only [nbr])
     have gL:gI L (j:Int)=L[j]:=ZaG rfl (by omega);have gE:gI E (j:Int)=E[j]:=ZaG rfl (by omega);refine Zu j (by omega) rfl ?_
     (repeat first | dsimp only [Zk,go_sem] | simp only [nbr])
     by_cases q2:L[j]<=day
     . refine Zs (by simpa using q2) ?_;have hx:(if gI L (j:Int)<=day then (2:Int) else if gI E (j:Int)<=day then 1 else 0)=2:=by rw [gL,if_pos q2]
       (repeat first | dsimp only [go_sem] | simp only [nbr])
       refine Xl j rfl (by first | omega | (simp;omega)) ?_
       (repeat first | dsimp only [go_sem] | simp only [nbr])
       refine Zcf (2:Int) (by first | omega | (simp;omega)) (by simp [u8L,U8]) (by simp [u8L,U8,Zm]) ?_
       (repeat first | dsimp only [go_sem] | simp only [nbr])
       rw [Zf (n:=(j:Int)+1) (by omega) (by omega)];refine ⟨(j+1,ks.set j 2),⟨hlt,by simp [hkl],λi hi=>?_⟩,by simp only;omega,?_⟩
       . dsimp only;have:=hki i hi;by_cases hij:i=j
         . subst hij;rw [List.getElem?_set_self (by omega),if_pos (Nat.lt_succ_self i),hx]
         . rw [List.getElem?_set_ne (by omega),this];by_cases hij2:i < j
           . rw [if_pos hij2,if_pos (c:=i < j+1) (by omega)]
           . rw [if_neg hij2,if_neg (c:=i < j+1) (by omega)]
       generalize ks.set j 2=ks2;(refine Zi ?_ ?_ ?_ rfl rfl<;>dsimp only [Zg,Zk,u8L,U8,id,go_sem]<;>simp [Zg,Zk,u8L,U8,Za])
     refine Zp (by simpa using q2) ?_
     (repeat first | dsimp only [go_sem] | simp only [nbr])
     refine Zu j (by omega) rfl ?_
     (repeat first | dsimp only [Zk,go_sem] | simp only [nbr])
     by_cases q1:E[j]<=day
     . refine Zs (by simpa using q1) ?_;have hx:(if gI L (j:Int)<=day then (2:Int) else if gI E (j:Int)<=day then 1 else 0)=1:=by rw [gL,gE,if_neg q2,if_pos q1]
       (repeat first | dsimp only [go_sem] | simp only [nbr])
       refine Xl j rfl (by first | omega | (simp;omega)) ?_
       (repeat first | dsimp only [go_sem] | simp only [nbr])
       refine Zcf (1:Int) (by first | omega | (simp;omega)) (by simp [u8L,U8]) (by simp [u8L,U8,Zm]) ?_
       (repeat first | dsimp only [go_sem] | simp only [nbr])
       rw [Zf (n:=(j:Int)+1) (by omega) (by omega)];refine ⟨(j+1,ks.set j 1),⟨hlt,by simp [hkl],λi hi=>?_⟩,by simp only;omega,?_⟩
       . dsimp only;have:=hki i hi;by_cases hij:i=j
         . subst hij;rw [List.getElem?_set_self (by omega),if_pos (Nat.lt_succ_self i),hx]
         . rw [List.getElem?_set_ne (by omega),this];by_cases hij2:i < j
           . rw [if_pos hij2,if_pos (c:=i < j+1) (by omega)]
           . rw [if_neg hij2,if_neg (c:=i < j+1) (by omega)]
       generalize ks.set j 1=ks2;(refine Zi ?_ ?_ ?_ rfl rfl<;>dsimp only [Zg,Zk,u8L,U8,id,go_sem]<;>simp [Zg,Zk,u8L,U8,Za])
     refine Zp (by simpa using q1) ?_;have hx:(if gI L (j:Int)<=day then (2:Int) else if gI E (j:Int)<=day then 1 else 0)=0:=by rw [gL,gE,if_neg q2,if_neg q1]
     (repeat first | dsimp only [go_sem] | simp only [nbr])
     rw [Zf (n:=(j:Int)+1) (by omega) (by omega)];refine ⟨(j+1,ks),⟨hlt,hkl,λi hi=>?_⟩,by simp only;omega,?_⟩
     . dsimp only;have:=hki i hi;by_cases hij:i=j
       . subst hij;rw [this,if_neg (Nat.lt_irrefl i),if_pos (Nat.lt_succ_self i),hx]
       . rw [this];by_cases hij2:i < j
         . rw [if_pos hij2,if_pos (c:=i < j+1) (by omega)]
         . rw [if_neg hij2,if_neg (c:=i < j+1) (by omega)]
     (refine Zi ?_ ?_ ?_ rfl rfl<;>dsimp only [Zg,Zk,u8L,U8,id,go_sem]<;>simp [Zg,Zk,u8L,U8,Za])
   refine Zp (by simp;omega) ?_
   (repeat first | dsimp only [go_sem] | simp only [nbr])
   have hjk:j=k:=by omega
   subst hjk;have hks:ks=Ua j first meets wait day:=by
    apply List.ext_getElem?;intro i;unfold Ua;rw [Int.toNat_natCast,List.getElem?_map];by_cases hi:i < j
    . rw [hki i hi,if_pos hi,heq i hi,List.getElem?_range hi];rfl
    . rw [List.getElem?_eq_none (by omega),List.getElem?_eq_none (by simp;omega)];rfl
   rw [hks];simp [rowsK,hE0]
 . (repeat first | dsimp only [go_sem] | simp only [nbr])
   refine gh (ZmO 15 3 0 _ rfl rfl rfl rfl (by simpa using hle)) ?_;rw [<- List.map_take,htk];clear htk hle;generalize hfl0:l.filter (·.close)=fl at *
   (repeat first | dsimp only [go_sem] | simp only [nbr])
   refine call (UX k first fl wait.hi day c1 false (by omega) (by omega) hf (λm h=>hml m (by rw [<- hfl0] at h;exact (List.mem_filter.1 h).1)) (by omega) hl1 (by rw [<- hfl0];exact Nat.le_trans (List.length_filter_le _ _) (by omega))) ?_
   (repeat first | dsimp only [go_sem] | simp only [nbr])
   have hlenE:(ZN wait.lo day l (Yz first (List.replicate k 100061))).length=k:=by rw [Xr,Xj];simp
   have hlenL:(ZN wait.hi day fl (Yz first (List.replicate k 100061))).length=k:=by rw [Xr,Xj];simp
   have heq:∀ i:Nat,i < k->(if gI (ZN wait.hi day fl (Yz first (List.replicate k 100061))) (i:Int)<=day then 2 else if gI (ZN wait.lo day l (Yz first (List.replicate k 100061))) (i:Int)<=day then 1 else 0)=knF day (gI (sickF k first (act false meets) wait.lo) i) (gI (sickF k first (act true meets) wait.hi) i):=λi hi=>by
    have:=Zeb (meets:=meets) (l:=l) ⟨hw.1,hw.2.1⟩ hd hf hm hpl.perm hso (WE hf (λm h=>hm m h.1) (by omega)) (WE hf (λm h=>hm m h.1) (by omega)) hi;rw [hfl0] at this;exact this
   generalize ZN wait.lo day l (Yz first (List.replicate k 100061))=E at hlenE heq;generalize ZN wait.hi day fl (Yz first (List.replicate k 100061))=L at hlenL heq;refine ⟨k,rfl,by omega,?_⟩
   (repeat first | dsimp only [go_sem] | simp only [nbr])
   rw [show List.replicate k [SV.v (Value.int IntKind.u8 0)]=(List.replicate k (0:Int)).map u8L from by simp [u8L,U8]];simp only [List.length_map,List.length_replicate];have hs0:(List.replicate k (0:Int)).length=k/\∀ i,i < k->(List.replicate k (0:Int))[i]? = some 0:=⟨by simp,λi hi=>by rw [List.getElem?_replicate,if_pos hi]⟩
   generalize List.replicate k (0:Int)=ks0 at hs0;refine Z1 (λz:Nat × List Int=>[(79,I z.1)]) (λz=>[(4,.row 0 1 (z.2.map u8L) 5)]) (λz=>z.1<=k/\z.2.length=k/\∀ i,i < k->z.2[i]? = some (if i < z.1 then (if gI L (i:Int)<=day then 2 else if gI E (i:Int)<=day then 1 else 0) else 0)) (λz=>k - z.1) (0,ks0) ⟨Nat.zero_le _,hs0.1,λi hi=>by rw [hs0.2 i hi,if_neg (Nat.not_lt_zero _)]⟩ ?_ ?_
   . (refine Zi ?_ ?_ ?_ rfl rfl<;>dsimp only [Zg,Zk,u8L,U8,id,go_sem]<;>simp [Zg,Zk,u8L,U8,Za])
   rintro ⟨j,ks⟩ ⟨hj,hkl,hki⟩;simp only at hj hkl hki
   (repeat first | dsimp only [go_sem] | simp only [nbr])
   by_cases hlt:j < k
   . refine Zs (by simpa using hlt) ?_
     (repeat first | dsimp only [go_sem] | simp only [nbr])
     have gL:gI L (j:Int)=L[j]:=ZaG rfl (by omega);have gE:gI E (j:Int)=E[j]:=ZaG rfl (by omega);refine Zu j (by omega) rfl ?_
     (repeat first | dsimp only [Zk,go_sem] | simp only [nbr])
     by_cases q2:L[j]<=day
     . refine Zs (by simpa using q2) ?_;have hx:(if gI L (j:Int)<=day then (2:Int) else if gI E (j:Int)<=day then 1 else 0)=2:=by rw [gL,if_pos q2]
       (repeat first | dsimp only [go_sem] | simp only [nbr])
       refine Xl j rfl (by first | omega | (simp;omega)) ?_
       (repeat first | dsimp only [go_sem] | simp only [nbr])
       refine Zcf (2:Int) (by first | omega | (simp;omega)) (by simp [u8L,U8]) (by simp [u8L,U8,Zm]) ?_
       (repeat first | dsimp only [go_sem] | simp only [nbr])
       rw [Zf (n:=(j:Int)+1) (by omega) (by omega)];refine ⟨(j+1,ks.set j 2),⟨hlt,by simp [hkl],λi hi=>?_⟩,by simp only;omega,?_⟩
       . dsimp only;have:=hki i hi;by_cases hij:i=j
         . subst hij;rw [List.getElem?_set_self (by omega),if_pos (Nat.lt_succ_self i),hx]
         . rw [List.getElem?_set_ne (by omega),this];by_cases hij2:i < j
           . rw [if_pos hij2,if_pos (c:=i < j+1) (by omega)]
           . rw [if_neg hij2,if_neg (c:=i < j+1) (by omega)]
       generalize ks.set j 2=ks2;(refine Zi ?_ ?_ ?_ rfl rfl<;>dsimp only [Zg,Zk,u8L,U8,id,go_sem]<;>simp [Zg,Zk,u8L,U8,Za])
     refine Zp (by simpa using q2) ?_
     (repeat first | dsimp only [go_sem] | simp only [nbr])
     refine Zu j (by omega) rfl ?_
     (repeat first | dsimp only [Zk,go_sem] | simp only [nbr])
     by_cases q1:E[j]<=day
     . refine Zs (by simpa using q1) ?_;have hx:(if gI L (j:Int)<=day then (2:Int) else if gI E (j:Int)<=day then 1 else 0)=1:=by rw [gL,gE,if_neg q2,if_pos q1]
       (repeat first | dsimp only [go_sem] | simp only [nbr])
       refine Xl j rfl (by first | omega | (simp;omega)) ?_
       (repeat first | dsimp only [go_sem] | simp only [nbr])
       refine Zcf (1:Int) (by first | omega | (simp;omega)) (by simp [u8L,U8]) (by simp [u8L,U8,Zm]) ?_
       (repeat first | dsimp only [go_sem] | simp only [nbr])
       rw [Zf (n:=(j:Int)+1) (by omega) (by omega)];refine ⟨(j+1,ks.set j 1),⟨hlt,by simp [hkl],λi hi=>?_⟩,by simp only;omega,?_⟩
       . dsimp only;have:=hki i hi;by_cases hij:i=j
         . subst hij;rw [List.getElem?_set_self (by omega),if_pos (Nat.lt_succ_self i),hx]
         . rw [List.getElem?_set_ne (by omega),this];by_cases hij2:i < j
           . rw [if_pos hij2,if_pos (c:=i < j+1) (by omega)]
           . rw [if_neg hij2,if_neg (c:=i < j+1) (by omega)]
       generalize ks.set j 1=ks2;(refine Zi ?_ ?_ ?_ rfl rfl<;>dsimp only [Zg,Zk,u8L,U8,id,go_sem]<;>simp [Zg,Zk,u8L,U8,Za])
     refine Zp (by simpa using q1) ?_;have hx:(if gI L (j:Int)<=day then (2:Int) else if gI E (j:Int)<=day then 1 else 0)=0:=by rw [gL,gE,if_neg q2,if_neg q1]
     (repeat first | dsimp only [go_sem] | simp only [nbr])
     rw [Zf (n:=(j:Int)+1) (by omega) (by omega)];refine ⟨(j+1,ks),⟨hlt,hkl,λi hi=>?_⟩,by simp only;omega,?_⟩
     . dsimp only;have:=hki i hi;by_cases hij:i=j
       . subst hij;rw [this,if_neg (Nat.lt_irrefl i),if_pos (Nat.lt_succ_self i),hx]
       . rw [this];by_cases hij2:i < j
         . rw [if_pos hij2,if_pos (c:=i < j+1) (by omega)]
         . rw [if_neg hij2,if_neg (c:=i < j+1) (by omega)]
     (refine Zi ?_ ?_ ?_ rfl rfl<;>dsimp only [Zg,Zk,u8L,U8,id,go_sem]<;>simp [Zg,Zk,u8L,U8,Za])
   refine Zp (by simp;omega) ?_
   (repeat first | dsimp only [go_sem] | simp only [nbr])
   have hjk:j=k:=by omega
   subst hjk;have hks:ks=Ua j first meets wait day:=by
    apply List.ext_getElem?;intro i;unfold Ua;rw [Int.toNat_natCast,List.getElem?_map];by_cases hi:i < j
    . rw [hki i hi,if_pos hi,heq i hi,List.getElem?_range hi];rfl
    . rw [List.getElem?_eq_none (by omega),List.getElem?_eq_none (by simp;omega)];rfl
   rw [hks];simp [rowsK,hE0]
end Go.Proofs.YtkpkgafhfakpdaaGreatDoor.Cm
namespace Go.Sx
open Go
def byS (ns:List Int):ByteArray:=ns.foldl (λr n=>r.push (UInt8.ofNat n.toNat)) ByteArray.empty
theorem Zg4 {w:World} {E:Env} {n ok:Nat->Prop}:∀ {l ys:List Value},RL w E n ok (l.map SV.v) ys->ys=l
 | [],ys,h=>by simpa [RL] using h
 | x :: l,ys,h=>by
  simp only [List.map_cons,RL] at h;obtain ⟨y,r,rfl,h1,h2⟩:=h;simp only [R] at h1;rw [h1,Zg4 h2]
theorem ZyI {α β : Type} (f:α->β):∀ l:List α,(l.map λn=>[f n]).flatten=l.map f
 | []=>rfl
 | x :: l=>by simp only [List.map_cons,List.flatten_cons,ZyI f l];rfl
theorem Zvx {P:Program} {d:Option Nat} {u src dst ty e:Nat} {ns:List Int} {s:SV} {σ : St} {r:KT} {K:RK} (hl:lk u σ.fr=s) (hng:∀ j b u,s≠.gd j b u) (hs:Zea 1 s=some (ns.map λn=>[SV.v (.int .u8 n)]))
 (hsrc:P.underlying src=some (.slice e)) (hdst:P.underlying dst=some .string) (he:P.underlying e=some (.int .u8)) (hk:Yh d (.v (.string (byS ns))) none σ r K):RAW P d (.convert src dst (.tmp u)) ty σ r K:=by
 intro o C E a w next Q h1 h2 h3 hS hn hq;have hR:=ZpU (hS.fr u) (λj b u' e=>hng j b u' (hl ▸ e));rw [hl] at hR;obtain ⟨cs,⟨ad,cap,y0,y1,y2,y3⟩,hcs,_⟩:=WI hR hs;have hflat:(ns.map λn=>[SV.v (.int .u8 n)]).flatten=(ns.map (Value.int .u8)).map SV.v:=by rw [ZyI (λn=>SV.v (.int .u8 n)),List.map_map];rfl
 rw [hflat] at hcs;have hcs:=Zg4 hcs;subst hcs;have hrun:(convert src dst (a.tmps.getD u undef)).run P w = .ok (.string (byS ns)) w:=by
  rw [y0,run_convert_bytes_string w src dst e ad _ cap hsrc he hdst];cases ad with
  | none =>
   have:ns=[]:=by
    rcases y3 with h | ⟨b,off,h,_⟩
    . simpa using h
    . cases h
   subst this;simp [Conv.bytesToString,Sem.run_pure,byS]
  | some ad =>
   refine run_bytesToString w ad _ cap ns ?_;rcases y3 with h | ⟨b,off,h,hc⟩
   . have:ns=[]:=by simpa using h
     subst this;simp [loadCells,loadCellsFrom,Sem.run_pure]
   . cases h
     have hlen:(ns.map λn=>[SV.v (.int .u8 n)]).length=(ns.map (Value.int .u8)).length:=by simp
     rw [hlen];exact run_loadCells_list w _ _ (λj v hv=>by rw [Yu];exact hc j v hv)
 have hx:(execOp a.eval o).run P w = .ok (.value (.string (byS ns))) w:=by
  obtain ⟨dst',op',ty',pos,after,guard⟩:=o;simp only at h2;subst h2;simp only [Array.getD_eq_getD_getElem?] at hrun;simp only [execOp,Act.eval];simp [Sem.run_bind,hrun]
 refine ZA hx (by simp) ?_;show next (a.put o.dst _) w;rcases Wf hk with ⟨g1,g2⟩ | ⟨t,g1,g2,g3,g4,g5⟩
 . rw [h1,g1];exact hn _ E _ _ g2 hS
 . rw [h1,g1];exact hn _ E _ _ g5 (YJ hS (λb hb _=>⟨hb,rfl⟩) (λ_ _=>Ele.rfl) (Nat.le_refl _) hS.hs g2 g3 (λj b u e=>by rw [e] at g4;cases g4) (by simp only [R]))
theorem ZmW {P:Program} {d:Option Nat} {u t t' ty:Nat} {op:BinOp} {q:Bool} {x y:ByteArray} {σ : St} {r:KT} {K:RK} (hu:lk u σ.fr = .v (.string x)) (hq0:(op = .eql/\q=(x.toList == y.toList))\/(op = .neq/\q = !(x.toList == y.toList)))
 (hk:Yh d (.v (.bool q)) none σ r K):RAW P d (.binOp op t (.tmp u) (.const (.string y)) t') ty σ r K:=by
 intro o C E a w next Q h1 h2 h3 hS hn hq;have hx:a.eval (.tmp u) = .string x:=by
  have:=hS.fr u;rw [hu] at this;simp only [FR,R] at this;exact this
 have hrun:(execOp a.eval o).run P w =   .ok (.value (.bool q)) w:=by
  obtain ⟨dst',op',ty',pos,after,guard⟩:=o;simp only at h2;subst h2;have hc:a.eval (.const (.string y)) = .string y:=rfl;simp only [execOp,hx,hc];rcases hq0 with ⟨rfl,rfl⟩ | ⟨rfl,rfl⟩<;>simp [Sem.run_bind,eqGuard,binOp,Op.stringOp,Sem.run_pure]
 refine ZA hrun (by simp) ?_;show next (a.put o.dst _) w;rcases Wf hk with ⟨g1,g2⟩ | ⟨t,g1,g2,g3,g4,g5⟩
 . rw [h1,g1];exact hn _ E _ _ g2 hS
 . rw [h1,g1];exact hn _ E _ _ g5 (YJ hS (λb hb _=>⟨hb,rfl⟩) (λ_ _=>Ele.rfl) (Nat.le_refl _) hS.hs g2 g3 (λj b u e=>by rw [e] at g4;cases g4) (by simp only [R]))
end Go.Sx
namespace Go.Azalai
def W2:List Meet:=[⟨0,1,5,true⟩]
theorem Zdc:Least 2 [0] (act false W2) 3 [0,8]:=by
 refine Sk.least ⟨rfl,λi h0 h1=>?_,λi hi=>?_,λi h0 h1=>?_⟩ (λm hm=>?_) (λm hm=>?_)
 . have e1:Inf [0] (act false W2) 3 0 0:=.base (by simp);have e2:Inf [0] (act false W2) 3 1 (5+3):=.l (m:=⟨0,1,5,true⟩) ⟨by simp [W2],λh=>by cases h⟩ e1 (by decide);have:i=0\/i=1:=by omega
   rcases this with rfl | rfl
   . exact .inr e1
   . exact .inr e2
 . simp at hi;subst hi;decide
 . have:i=0\/i=1:=by omega
   rcases this with rfl | rfl<;>decide
 . have:=hm.1;simp [W2] at this;subst this;unfold okM;simp
 . have:=hm.1;simp [W2] at this;subst this;decide
theorem ZfM:Least 2 [0] (act true W2) 4 [0,9]:=by
 refine Sk.least ⟨rfl,λi h0 h1=>?_,λi hi=>?_,λi h0 h1=>?_⟩ (λm hm=>?_) (λm hm=>?_)
 . have e1:Inf [0] (act true W2) 4 0 0:=.base (by simp);have e2:Inf [0] (act true W2) 4 1 (5+4):=.l (m:=⟨0,1,5,true⟩) ⟨by simp [W2],λh=>rfl⟩ e1 (by decide);have:i=0\/i=1:=by omega
   rcases this with rfl | rfl
   . exact .inr e1
   . exact .inr e2
 . simp at hi;subst hi;decide
 . have:i=0\/i=1:=by omega
   rcases this with rfl | rfl<;>decide
 . have:=hm.1;simp [W2] at this;subst this;unfold okM;simp
 . have:=hm.1;simp [W2] at this;subst this;decide
theorem ZwC:Ua 2 [0] W2 ⟨3,4⟩ 9=[2,2]:=by
 unfold Ua;rw [show (2:Int).toNat=2 from rfl,Zdc.sickF,ZfM.sickF];rfl
end Go.Azalai
namespace Go.Proofs.YtkpkgafhfakpdaaGreatDoor
open Go Go.Sx Go.Azalai
theorem Zkd {w:World} {E:Env} {n ok:Nat->Prop} {b m:Nat}:∀ {xs ys:List (List SV)} (_:F2 (λr r'=>r'.length=r.length/\∀ (w:World) (E:Env) (n ok:Nat->Prop) (cs:List Value),RL w E n ok r cs->RL w E n ok r' cs) xs ys) (off:Nat),RR w E n ok b m xs off->RR w E n ok b m ys off
 | _,_,.nil,_,h=>h
 | _,_,.cons h1 h2,off,h=>by
  simp only [RR] at h ⊢;obtain ⟨g1,⟨cs,g2,g3⟩,g4⟩:=h;exact ⟨h1.1.trans g1,⟨cs,h1.2 _ _ _ _ _ g2,g3⟩,Zkd h2 _ g4⟩
theorem Zqw {α : Type} {p:α->α->Prop}:∀ {xs ys:List α},F2 p xs ys->xs.length=ys.length
 | _,_,.nil=>rfl
 | _,_,.cons _ h=>by simp [Zqw h]
theorem Zcg {c:Bool} {m:Nat} {xs ys:List (List SV)} (h:F2 (λr r'=>r'.length=r.length/\∀ (w:World) (E:Env) (n ok:Nat->Prop) (cs:List Value),RL w E n ok r cs->RL w E n ok r' cs) xs ys):Zfv (.sl c m xs) (.sl c m ys):=by
 intro w E n ok y hy;simp only [R] at hy ⊢;obtain ⟨a,len,cap,h1,h2,h3,h4,h5⟩:=hy;have hl:=Zqw h;refine ⟨a,len,cap,h1,h2.trans hl,h3,hl ▸ h4,?_⟩;rcases h5 with h5 | ⟨b,off,h5,h6⟩
 . subst h5;cases h
   exact .inl rfl
 . exact .inr ⟨b,off,h5,Zkd h _ h6⟩
theorem ZiG:Ct Tryz.prog 164 [] (.sl true 5 (Wb.map anL)):=by
 have h:Ct Tryz.prog 164 [] (.sl true 5 [[I 1,I (-1),I 0,I 0,.v (.slice none 0 0)],[I 2,I 1,I 1400,I 2000,.v (.slice none 0 0)],[I 3,I 2,I 3000,I 4000,.v (.slice none 0 0)],[I 9,I (-1),I 0,I 0,.v (.slice none 0 0)]]):=by
  refine t164.1 (by simp) (by simp [KFR]) ?_;dsimp only [c164,r164,go_sem];refine call (YX _ _) ?_;dsimp only [go_sem];refine call (YX _ _) ?_;dsimp only [go_sem]
 refine Ct.res h (by simp [Za,anL,KFR]) (Zcg ?_);exact .cons ⟨rfl,Zb7 ⟨1,-1,⟨0,0⟩⟩⟩ (.cons ⟨rfl,Zb7 ⟨2,1,⟨1400,2000⟩⟩⟩ (.cons ⟨rfl,Zb7 ⟨3,2,⟨3000,4000⟩⟩⟩ (.cons ⟨rfl,Zb7 ⟨9,-1,⟨0,0⟩⟩⟩ .nil)))
theorem ZxJ:X7 2 [0] W2 ⟨3,4⟩ 9=0:=by kernel_rfl
theorem eRowT:Cm.rowsK 0 [2,2] = .sl false 1 ([2,2].map Cm.u8L):=rfl
theorem Zdj:Ct Tryz.prog 104 [] (B true):=by
 refine t104.1 (by simp) (by simp) ?_;dsimp only [c104,r104,go_sem];refine call ZiG ?_;dsimp only [go_sem];refine call ZxY ?_;dsimp only [go_sem];refine call (YX _ _) ?_;dsimp only [go_sem];refine call (Cm.mange_ok 2 [0] W2 ⟨3,4⟩ 9 true true (by decide) (by decide)) ?_;rw [ZwC,ZxJ,eRowT];dsimp only [go_sem];iterate 7 (refine YI rfl ?_;dsimp only [go_sem])
 refine YI rfl ?_;dsimp only [go_sem];refine Zvx (e:=5) (ns:=[2,2]) rfl (λ_ _ _ e=>by cases e) rfl (by kernel_rfl) (by kernel_rfl) (by kernel_rfl) ?_;dsimp only [go_sem];refine YI rfl ?_;dsimp only [go_sem];refine ZmW (q:=true) rfl (.inl ⟨rfl,by decide +kernel⟩) ?_;dsimp only [go_sem];rfl
end Go.Proofs.YtkpkgafhfakpdaaGreatDoor
namespace Go.Azalai
def XF (s:Span):Breed:=⟨1000,1000,ZB,ZB,ZB,ZB,ZB,ZB,0,s⟩
def XL (w f:Span):Camel:=⟨w,f,ZB,false⟩
def ZaH:Land:=⟨[⟨0,0,0,⟨10,20⟩,1000,⟨500,900⟩,0⟩],[]⟩
def Vm:List Pack:=[⟨2,⟨30,30⟩,ZB,ZB,ZB,0,0⟩,⟨3,⟨30,30⟩,ZB,ZB,⟨1,2⟩,0,0⟩]
def Zb5:Tied:=⟨[0],[1],[]⟩
end Go.Azalai
namespace Go.Proofs.YtkpkgafhfakpdaaGreatDoor
open Go Go.Sx Go.Azalai
theorem Y5 {s:SV}:Zfv s s:=λ_ _ _ _ _ h=>h
theorem Zd7 {l l':List SV} (h:∀ (w:World) (E:Env) (n ok:Nat->Prop) (ys:List Value),RL w E n ok l ys->RL w E n ok l' ys):Zfv (.agg l) (.agg l'):=λw E n ok y hy=>by
 simp only [R] at hy ⊢;obtain ⟨cs,h1,h2⟩:=hy;exact ⟨cs,h1,h _ _ _ _ _ h2⟩
theorem ZhP:Ct Tryz.prog 103 [] (.agg (VL ZaH)):=by
 have h:Ct Tryz.prog 103 [] (.agg [.sl true 9 (ZaH.wells.map Yg),.v (.slice none 0 0)]):=by
  refine t103.1 (by simp) (by simp [Za,Yg]) ?_;dsimp only [c103,r103,go_sem];refine call (YX _ _) ?_;dsimp only [go_sem];refine call (YX _ _) ?_;dsimp only [go_sem];rfl
 exact Ct.res h (by simp [VL,Za,Yg,WP,YK]) (Zd7 (ZT Zey (ZT ZbM Zcl)))
theorem ZtW:VM (XF ZB) [XL ⟨600,700⟩ ⟨5,5⟩]=(⟨300,400⟩,0):=by decide +kernel
theorem Zwj:((Wd (XF ZB) (XL ⟨600,700⟩ ⟨5,5⟩) ⟨0,0,ZB,ZB,⟨400,400⟩⟩).1.water,(Wd (XF ZB) (XL ⟨600,700⟩ ⟨5,5⟩) ⟨0,0,ZB,ZB,⟨400,400⟩⟩).2.2)=(⟨1000,1000⟩,0):=by decide +kernel
theorem Zs6:Ui ZaH 0 [⟨0,0,400⟩] 1=(⟨110,520⟩,0,0):=by decide +kernel
theorem Zdk:ZlP ZaH:=⟨by decide,by decide,by decide⟩
theorem ZdL:Ct Tryz.prog 41 [] (B true):=by
 refine t41.1 (by simp) (by simp) ?_;dsimp only [c41,r41,go_sem];refine call (YX _ _) ?_;dsimp only [go_sem];refine call (YX _ _) ?_;dsimp only [go_sem];refine call (Cm.thirst_ok (XF ZB) [XL ⟨600,700⟩ ⟨5,5⟩] (by decide) true) ?_;rw [ZtW];dsimp only [Cm.tres,Zh,go_sem];refine call (YX _ _) ?_;dsimp only [go_sem];refine call (Cm.after1_ok (XF ZB) (XL ⟨600,700⟩ ⟨5,5⟩) ⟨0,0,ZB,ZB,⟨400,400⟩⟩) ?_;have e:=Zwj
 generalize Wd (XF ZB) (XL ⟨600,700⟩ ⟨5,5⟩) ⟨0,0,ZB,ZB,⟨400,400⟩⟩=r at e ⊢;injection e with e1 e2
 dsimp only [Cm.camelL,Cm.U8,go_sem];rw [e1,e2];refine call ZhP ?_;dsimp only [go_sem];refine call (Ct.args (Zk0 ZaH Zdk 0 1 [⟨0,0,400⟩] (by decide)) (by simp [VL,Za,KFR,Yg,WP,YK]) (ZT Y5 (ZT Y5 (ZT Zey (ZT Y5 Zcl))))) ?_;rw [Zs6];dsimp only [Zsp,Zh,go_sem];refine call Zdj ?_;dsimp only [go_sem];repeat (first | (refine YI rfl ?_;dsimp only [go_sem]) | (refine call (YX _ _) ?_;dsimp only [go_sem]))
 rfl
theorem carT:CarB Vm Zb5:=⟨by decide,by decide,by decide⟩
theorem carT2:CarB (Vm.map (ZfK 2)) Zb5:=⟨by decide,by decide,by decide⟩
theorem ZsJ:VJ (Ul (XF ⟨100,120⟩) (XL ⟨1000,1000⟩ ⟨1000,1000⟩)) Vm Zb5 4=2:=by decide +kernel
theorem ZuA:VJ (Ul (XF ⟨100,120⟩) (XL ⟨1000,1000⟩ ⟨1000,1000⟩)) (Vm.map (ZfK 2)) Zb5 4=2:=by decide +kernel
theorem Zxy:Xx (XF ⟨100,120⟩) (XL ⟨1000,1000⟩ ⟨1000,1000⟩) [⟨1,0,ZB,ZB,ZB⟩]=(100,0):=by decide +kernel
theorem errT:Ve (XF ⟨100,120⟩) (XL ⟨1000,1000⟩ ⟨1000,1000⟩)=0:=by decide
theorem ZcZ {w:World} {E:Env} {n ok:Nat->Prop} {ys:List Value} (h:RL w E n ok [.sl true 1 [[I 0]],.sl true 1 [[I 1]],.v (.slice none 0 0)] ys):RL w E n ok (Zn Zb5) ys :=
 ZT Zey (ZT Zey (ZT ZbM Zcl)) _ _ _ _ _ h
theorem Zdp:Ct Tryz.prog 7 [] (B true):=by
 refine t7.1 (by simp) (by simp) ?_;dsimp only [c7,r7,go_sem];iterate 6 (refine call (YX _ _) ?_;dsimp only [go_sem])
 have hrea:∀ (l:List Pack) (c:Bool),CarB l Zb5->Ct Tryz.prog 12 [.agg (Cm.breedL (XF ⟨100,120⟩)),.agg (Cm.camelL (XL ⟨1000,1000⟩ ⟨1000,1000⟩)),.sl c 11 (l.map Zj),.agg [.sl true 1 [[I 0]],.sl true 1 [[I 1]],.v (.slice none 0 0)],I 4] (.tup [U8 (VJ (Ul (XF ⟨100,120⟩) (XL ⟨1000,1000⟩ ⟨1000,1000⟩)) l Zb5 4),I 0]):=λl c h =>
  Ct.args (Zcp _ _ l Zb5 4 c h errT (by decide)) (by simp [Za,KFR,Zj,Cm.breedL,Cm.camelL,KFL,KF]) (ZT Y5 (ZT Y5 (ZT Y5 (ZT (Zd7 λ_ _ _ _ _=>ZcZ) (ZT Y5 Zcl)))))
 refine call (hrea Vm true carT) ?_;rw [ZsJ];dsimp only [go_sem];have hjol:Ct Tryz.prog 40 [.sl true 11 (Vm.map Zj),.sl true 3 [[.sl true 1 [[I 0]],.sl true 1 [[I 1]],.v (.slice none 0 0)]],.v (.slice none 0 0),I 2] (.tup [.sl false 11 ((Vm.map (ZfK 2)).map Zj),I 0]) :=
  Ct.args (ZeU Vm Zb5 2 true carT (by decide) (by decide)) (by simp [Za,KFR,Zj]) (ZT Y5 (ZT (Zcg (.cons ⟨rfl,λ_ _ _ _ _=>ZcZ⟩ .nil)) (ZT ZbM (ZT Y5 Zcl))))
 refine call hjol ?_;dsimp only [go_sem];refine call (hrea (Vm.map (ZfK 2)) false carT2) ?_;rw [ZuA];dsimp only [go_sem];refine call (Cm.heavy_ok (XF ⟨100,120⟩) (XL ⟨1000,1000⟩ ⟨1000,1000⟩) [⟨1,0,ZB,ZB,ZB⟩] true (by decide)) ?_;rw [Zxy];dsimp only [go_sem];refine call ZdL ?_;dsimp only [go_sem];repeat (refine YI rfl ?_;dsimp only [go_sem])
 rfl
end Go.Proofs.YtkpkgafhfakpdaaGreatDoor
namespace Go.Azalai
theorem ZrW {b:Breed} {c:Camel} (hb:Zw b=true) (hc:Zz b c=true):(Ul b c).lo<=(Ul b c).hi:=by
 obtain ⟨b1,b2,b3,b4,_,_,⟨g1,g2,g3⟩,_⟩:=Go.Proofs.YtkpkgafhfakpdaaGreatDoor.Cm.breed_bd hb;obtain ⟨⟨w1,w2,w3⟩,⟨f1,f2,f3⟩,⟨s1,s2,s3⟩⟩:=Go.Proofs.YtkpkgafhfakpdaaGreatDoor.Cm.camel_bd hb hc;obtain ⟨q1,q2,q3,q4⟩:=Go.Proofs.YtkpkgafhfakpdaaGreatDoor.Cm.fit_bd hb hc;have d1:=VU (x:=2000 * c.water.lo) (y:=2000 * c.water.hi) b1 (by omega) (by omega);have d2:=VU (x:=2000 * c.fat.lo) (y:=2000 * c.fat.hi) b3 (by omega) (by omega)
 have q:(ZaP b c).lo<=(ZaP b c).hi:=by simp only [ZaP];omega
 simp only [Ul];exact VU (by decide) (Int.mul_nonneg g1 q1) (Int.mul_le_mul g2 q q1 (by omega))
theorem Zi5 {b:Breed} {c:Camel} {l:List March} (h:(Xx b c l).2=0):Zgj b c l=0/\Z9 b 0 c l=true:=by
 unfold Xx at h;by_cases h1:Zgj b c l=0
 . by_cases h2:Z9 b 0 c l=true
   . exact ⟨h1,h2⟩
   . simp [h1,h2] at h
 . simp [h1] at h
theorem Zfs {b:Breed} {c:Camel} {l:List March} {w:Int} (h:(Xx b c l).2=0) (hw0:0<=w) (hw:w<=(Xx b c l).1):Z9 b w c l=true/\w<=1000000:=by
 obtain ⟨he,h0⟩:=Zi5 h;obtain ⟨hb,hc,hl,ha⟩:=Go.Proofs.YtkpkgafhfakpdaaGreatDoor.Cm.errL_0 he;rw [Xx,if_neg (by simp [he]),if_neg (by simp [h0])] at hw;simp only at hw;have hm:∀ x y:Int,0<=y->y<=x->x<=1000000->Z9 b x c l=true->Z9 b y c l=true:=λx y h1 h2 h3 hx=>Zbq hb h1 h2 h3 l c c ha hc hc (Zds c) hx;have:=Zbz (g:=λn=>Z9 b n c l) (L:=0) (H:=1000000) h0 2000000 0 1000000 (by decide) (by decide) (by decide) (by decide) (by decide) h0 (.inl rfl) hm
 exact ⟨hm _ w hw0 hw this.1.2 this.2.1,by have:=this.1.2;omega⟩
theorem Zfr {b:Breed} {w:Int} {c:Camel} {m:March} {l:List March} (h:Z9 b w c (m :: l)=true) :
 (m.hours > 0->w<=(Ul b c).lo)/\(ZR b c { m with load:=w }).2=0/\Z9 b w (ZR b c { m with load:=w }).1 l=true:=by
 rw [Z9] at h;by_cases h1:m.hours > 0/\w > (Ul b c).lo
 . rw [if_pos h1] at h;cases h
 rw [if_neg h1] at h;by_cases h2:(ZR b c { m with load:=w }).2=0
 . rw [if_neg (by simpa using h2)] at h;exact ⟨λh0=>by omega,h2,h⟩
 . rw [if_pos h2] at h;cases h
theorem Zjp {b:Breed} {c:Camel} {l:List Pack} {t:Tied} {bound:Int} (hb:Zw b=true) (hc:Zz b c=true) (hp:l.all ZJ=true) (h2:Zgn l t bound=2) (hw:(Z7 l (WC t)).hi<=(Ul b c).lo):VJ (Ul b c) l t bound=2:=by
 have h1:=ZrW hb hc;have h3:=Ux hp (WC t);rw [VJ,if_neg (by omega),if_neg (by omega),h2]
end Go.Azalai
namespace Go.Proofs.YtkpkgafhfakpdaaGreatDoor
open Go Go.Sx Go.Azalai
theorem ZbB (b:Breed) (c:Camel) (l:List Pack) (t:Tied) (bound:Int) (days:List March) (k1 k2:Bool) :
 Ct Tryz.prog 3 [.agg (Cm.breedL b),.agg (Cm.camelL c),.sl k1 11 (l.map Zj),.agg (Zn t),I bound,.sl k2 8 (days.map Cm.marchL)] (B true):=by
 refine t3.1 (by simp [Cm.breedL,Cm.camelL,Cm.marchL,Zn,Za,Zk,Zj,KFR,KFL,KF]) (by simp) ?_;dsimp only [c3,r3,Cm.breedL,Cm.camelL,Zn,go_sem];refine call Zdp ?_;dsimp only [go_sem];refine call (Zft b c l t bound k1) ?_;dsimp only [go_sem];repeat (refine gb ?_;dsimp only [go_sem])
 simp only [List.length_map];by_cases h:WG b c l t bound=true/\days.length<=60
 case neg =>
  refine Zs (by simp only [Bool.or_eq_true,Bool.not_eq_true',decide_eq_true_eq];cases hc:WG b c l t bound with | false=>simp | true=>simp [hc] at h;simp;omega) ?_;dsimp only [go_sem]
 obtain ⟨h1,hdl⟩:=h;refine Zp (by simp [h1];omega) ?_;dsimp only [go_sem];simp only [WG,Bool.and_eq_true,decide_eq_true_eq,Bool.not_eq_true'] at h1;obtain ⟨⟨⟨⟨hg,hk⟩,he⟩,hb0⟩,hb1⟩:=h1;obtain ⟨hb,hc⟩:=Cm.errC_0.1 he;have hcar:CarB l t:=by
  unfold ZxC at hk;by_cases g1:(decide (l.length<=30) && l.all ZJ)=false
  . rw [if_pos g1] at hk;cases hk
  . rw [if_neg g1] at hk;simp only [Bool.not_eq_false,Bool.and_eq_true,decide_eq_true_eq] at g1;by_cases g2:X8 l.length t=false
    . rw [if_pos g2] at hk;cases hk
    . exact ⟨g1.1,g1.2,by simpa using g2⟩
 refine call (ZdB l t bound k1 hcar ⟨hb0,hb1⟩) ?_;dsimp only [go_sem];refine call (ZjL l t k1 hcar) ?_;dsimp only [Zh,go_sem];have hw:=Ux hcar.hp (WC t);generalize hwe:Z7 l (WC t)=w at *;repeat (refine gb ?_;dsimp only [go_sem])
 refine Zp (by simp;omega) ?_;dsimp only [go_sem];refine call (Cm.heavy_ok b c days k2 (by omega)) ?_;dsimp only [go_sem];repeat (refine gb ?_;dsimp only [go_sem])
 by_cases h:(Xx b c days).2=0/\Zgn l t bound=2/\w.hi<=(Xx b c days).1
 case neg =>
  refine Zs (by simp;omega) ?_;dsimp only [go_sem]
 obtain ⟨hh,hbal,hwm⟩:=h;refine Zp (by simp;omega) ?_;dsimp only [go_sem];obtain ⟨hbe,hw6⟩:=Zfs hh (by omega) hwm;have hday:=(Cm.errL_0 (Zi5 hh).1).2.2.2;simp only [List.length_map];refine Z1 (λq:Nat × Camel=>[(95,I q.1)]) (λq=>[(1,.cells (Cm.camelL q.2) 27)]) (λq=>q.1<=days.length/\Zz b q.2=true/\Z9 b w.hi q.2 (days.drop q.1)=true) (λq=>days.length - q.1) (0,c) ⟨Nat.zero_le _,hc,hbe⟩ ?_ ?_
 . (refine Zi ?_ ?_ ?_ rfl rfl<;>dsimp only [Cm.marchL,Cm.camelL,Cm.breedL,Zj,Zn,Zk,KFR,id,go_sem]<;>simp [Cm.marchL,Cm.camelL,Cm.breedL,Zj,Zn,Zk,KFR,Za])
 rintro ⟨k,cur⟩ ⟨hkl,hcu,hi⟩;simp only at hkl hcu hi;dsimp only [go_sem];by_cases hlt:k < days.length
 case neg =>
  refine Zp (by simp;omega) ?_;dsimp only [go_sem]
 refine Zs (by simpa using hlt) ?_;dsimp only [go_sem];refine Zu k hlt rfl ?_;dsimp only [Cm.marchL,Cm.camelL,go_sem];have hcur:Ve b cur=0:=Cm.errC_0.2 ⟨hb,hcu⟩;rw [List.drop_eq_getElem_cons hlt] at hi;obtain ⟨s1,s2,s3⟩:=Zfr hi;have hm:=List.all_eq_true.1 hday _ (List.getElem_mem hlt);generalize days[k]=m at *;have hm2:Zt { m with load:=w.hi }=true:=by simp only [Zt,inR,Z4,Bool.and_eq_true,decide_eq_true_eq] at hm ⊢;omega
 have hE:Wd b cur { m with load:=w.hi }=((ZR b cur { m with load:=w.hi }).1,0,0):=by simp [Wd,hcur,hm2,s2]
 by_cases hh0:m.hours > 0
 case' pos =>
  refine Zs (by simpa using hh0) ?_;dsimp only [go_sem];refine call (Zcp b cur l t bound k1 hcar hcur ⟨hb0,hb1⟩) ?_;rw [Zjp hb hcu hcar.hp hbal (by rw [hwe];exact s1 hh0)];dsimp only [go_sem];repeat (refine YI rfl ?_;dsimp only [go_sem])
  refine Zp rfl ?_;dsimp only [go_sem]
 case' neg =>
  refine Zp (by simpa using hh0) ?_;dsimp only [go_sem]
 all_goals
  refine call (Cm.after1_ok b cur { m with load:=w.hi }) ?_;rw [hE];dsimp only [Cm.camelL,Cm.U8,go_sem];repeat (refine YI rfl ?_;dsimp only [go_sem])
  refine Zp rfl ?_;dsimp only [go_sem];rw [Zf (n:=(k:Int)+1) (by omega) (by omega)];refine ⟨(k+1,(ZR b cur { m with load:=w.hi }).1),⟨hlt,UA hb hcu hm2 (by rw [s2];decide),s3⟩,by simp only;omega,?_⟩;(refine Zi ?_ ?_ ?_ rfl rfl<;>dsimp only [Cm.marchL,Cm.camelL,Cm.breedL,Zj,Zn,Zk,KFR,id,go_sem]<;>simp [Cm.marchL,Cm.camelL,Cm.breedL,Zj,Zn,Zk,KFR,Za])
end Go.Proofs.YtkpkgafhfakpdaaGreatDoor
