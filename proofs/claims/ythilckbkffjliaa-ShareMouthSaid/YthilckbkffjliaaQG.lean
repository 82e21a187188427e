/- Walks and plain laws that lead to the given statement, part 7 of 9. -/
import Derived.Test.YthilckbkffjliaaQF
import Derived.Recover
import Derived.Test.YthilckbkffjliaaProg
set_option maxRecDepth 100000
set_option maxHeartbeats 4000000
set_option linter.all false
open Nat renaming reduceAdd->rA,reduceMul->rM,reduceSub->rS,beq_refl->nbr
namespace Go.Proofs.Ythilckbkffjliaa
open Go Go.Sx Go.Azalai
theorem Zyw (v n:Nat) (l:List LO) (hn:n=l.length) (hL:l.length < 1152921504606846976) :
 CtM Try.prog 109 [(0,.row v 8 (l.map loL) 50),(1,byH)] 2 [.mr 0 v,I n,.cl 88 [.p 1 0]] (fun o=>∃ l',PIn 0 n l l'/\Srt loK 0 n l'/\o=Xk v l'):=by
 refine m109 (by simp [hpb]) (fun o ho=>by obtain ⟨l',_,_,rfl⟩:=ho;simp [Xk,byH,KX,KXL,KXP,KXH,Zc,KFR,KFL,KF,loL]) ?_
 dsimp only [c109,r109,go_sem,rA,rM,rS]
 refine YM (fun s:Nat × List LO=>[(7,I (20 * s.1:Nat)),(8,I (20 * s.1+20:Nat))]) (fun s=>[(0,.row v 8 (s.2.map loL) 50)]) (fun s=>20 * s.1<=n/\PIn 0 n l s.2/\Blk loK 20 0 (20 * s.1) s.2) (fun s=>n - 20 * s.1) (0,l) ⟨by simp only;omega,.refl _ _ _,ZeZ loK⟩ ?_ ?_
 . (refine Zh ?_ ?_ ?_ rfl rfl<;>dsimp only [loL,id,go_sem,rA,rM,rS]<;>simp [loL,Zc,Zf,KFR,KFL,KF,Zd,mtO,nbr])
 rintro ⟨c,l1⟩ ⟨hc,hp,hb⟩
 simp only at hc hp hb
 have hl1:=hp.len
 dsimp only [go_sem,rA,rM,rS]
 by_cases hlt:20 * c+20<=n
 . refine ZU (by simp;omega) ?_
   dsimp only [go_sem,rA,rM,rS]
   refine Zv [0,1] (ZiA v (20 * c) (20 * c+20) l1 (by omega) (by omega) (by omega)) rfl rfl rfl ?_ ?_ ?_
   . (repeat first | dsimp only [go_sem,rA,rM,rS] | simp only [nbr])
     simp [mtL,mtB,mtS]
   . (repeat first | dsimp only [go_sem,rA,rM,rS] | simp only [nbr])
     simp [Zc,KFR,loL,KFL,KF]
   rintro _ ⟨l2,hp2,hs2,rfl⟩
   (repeat first | dsimp only [Xk,go_sem,rA,rM,rS] | simp only [nbr])
   rw [Zk (n:=((20 * c+20:Nat):Int)+20) (by omega) (by omega)]
   refine ⟨(c+1,l2),⟨by simp only;omega,hp.trans (hp2.mono (by omega) (by omega)),?_⟩,by simp only;omega,?_⟩
   . exact Zcs loK (by omega) hb hp2 hs2
   rw [show ((20 * c+20:Nat):Int)+20=((20 * (c+1)+20:Nat):Int) from by omega,show 20 * c+20=20 * (c+1) from by omega]
   (refine Zh ?_ ?_ ?_ rfl rfl<;>dsimp only [loL,id,go_sem,rA,rM,rS]<;>simp [loL,Zc,Zf,KFR,KFL,KF,Zd,mtO,nbr])
 refine ZH (by simp;omega) ?_
 dsimp only [go_sem,rA,rM,rS]
 refine Zv [0,1] (ZiA v (20 * c) n l1 (by omega) (by omega) (by omega)) rfl rfl rfl ?_ ?_ ?_
 . (repeat first | dsimp only [go_sem,rA,rM,rS] | simp only [nbr])
   simp [mtL,mtB,mtS]
 . (repeat first | dsimp only [go_sem,rA,rM,rS] | simp only [nbr])
   simp [Zc,KFR,loL,KFL,KF]
 rintro _ ⟨l2,hp2,hs2,rfl⟩
 (repeat first | dsimp only [Xk,go_sem,rA,rM,rS] | simp only [nbr])
 have hb2:=Zcs loK (by omega) hb hp2 hs2
 refine YM (fun s:Nat × List LO × Int × Int=>[(6,I (s.1:Nat)),(7,I s.2.2.1),(8,I s.2.2.2)]) (fun s=>[(0,.row v 8 (s.2.1.map loL) 50)]) (fun s=>(0 < s.1/\s.1<=2 * n+20)/\PIn 0 n l s.2.1/\Blk loK s.1 0 n s.2.1) (fun s=>n - s.1) (20,l2,((20 * c:Nat):Int),((20 * c+20:Nat):Int)) ⟨by simp only;omega,hp.trans (hp2.mono (by omega) (by omega)),hb2⟩ ?_ ?_
 . (refine Zh ?_ ?_ ?_ rfl rfl<;>dsimp only [loL,id,go_sem,rA,rM,rS]<;>simp [loL,Zc,Zf,KFR,KFL,KF,Zd,mtO,nbr])
 rintro ⟨s,l3,z1,z2⟩ ⟨⟨hs0,hs1⟩,hp3,hb3⟩
 simp only at hs0 hs1 hp3 hb3
 have hl3:=hp3.len
 dsimp only [go_sem,rA,rM,rS]
 by_cases hlt:s < n
 case neg =>
  refine ZH (by simp;omega) ?_
  dsimp only [go_sem,rA,rM,rS]
  refine ⟨_,⟨l3,hp3,?_,rfl⟩,?_⟩
  . have:=Zct loK (c:=0) hb3 (Nat.zero_le _) (show n<=s * 0+s by omega) (Nat.le_refl _)
    rwa [Nat.mul_zero] at this
  . try simp only [Xk]
    (refine Zr ?_ ?_ ?_ rfl<;>dsimp only [loL,id,go_sem,rA,rM,rS]<;>simp [loL,Zc,Zf,KFR,KFL,KF,Zd,mtO,nbr])
 refine ZU (by simp;omega) ?_
 dsimp only [go_sem,rA,rM,rS]
 rw [Zk (n:=2 * (s:Int)) (by omega) (by omega)]
 refine YM (fun z:Nat × List LO=>[(7,I (2 * s * z.1:Nat)),(8,I (2 * s * z.1+2 * s:Nat))]) (fun z=>[(0,.row v 8 (z.2.map loL) 50)]) (fun z=>2 * s * z.1<=n/\PIn 0 n l z.2/\Blk loK (2 * s) 0 (2 * s * z.1) z.2/\Blk loK s (2 * s * z.1) n z.2) (fun z=>n - 2 * s * z.1) (0,l3) ⟨by simp only;omega,hp3,ZeZ loK,hb3⟩ ?_ ?_
 . rw [show 2 * (s:Int)=((2 * s * 0+2 * s:Nat):Int) from by omega]
   (refine Zh ?_ ?_ ?_ rfl rfl<;>dsimp only [loL,id,go_sem,rA,rM,rS]<;>simp [loL,Zc,Zf,KFR,KFL,KF,Zd,mtO,nbr])
 rintro ⟨c',l4⟩ ⟨hc4,hp4,hb4,hb5⟩
 simp only at hc4 hp4 hb4 hb5
 have hl4:=hp4.len
 have e5:s * (2 * c')=2 * s * c':=by rw [<- Nat.mul_assoc,Nat.mul_comm s 2]
 have e6:s * (2 * c'+1)=2 * s * c'+s:=by rw [Nat.mul_add,e5,Nat.mul_one]
 have e7:2 * s * (c'+1)=2 * s * c'+2 * s:=by rw [Nat.mul_add,Nat.mul_one]
 dsimp only [go_sem,rA,rM,rS]
 have hq1:2 * s * c'+s<=n->Srt loK (2 * s * c') (2 * s * c'+s) l4:=fun h=>by
  have:=Zct loK (c:=2 * c') (b:=2 * s * c'+s) hb5 (by omega) (by omega) (by omega)
  rwa [e5] at this
 have hq2:∀ b,b<=2 * s * c'+2 * s->b<=n->Srt loK (2 * s * c'+s) b l4:=fun b h1 h2=>by
  have:=Zct loK (c:=2 * c'+1) (b:=b) hb5 (by omega) (by omega) (by omega)
  rwa [e6] at this
 have hstep:∀ b l',PIn (2 * s * c') b l4 l'->Srt loK (2 * s * c') b l'->Blk loK (2 * s) 0 b l':=fun b l' h1 h2=>Zcs loK (by omega) hb4 h1 h2
 have hlast:n<=2 * s * c'+s->Blk loK (2 * s) 0 n l4:=fun h=>by
  have:=Zct loK (c:=2 * c') (b:=n) hb5 (by omega) (by omega) (by omega)
  rw [e5] at this
  exact hstep n l4 (.refl _ _ _) this
 clear hb4
 clear e5 e6
 generalize ha:2 * s * c'=a at *
 by_cases hlt2:a+2 * s<=n
 . refine ZU (by simp;omega) ?_
   dsimp only [go_sem,rA,rM,rS]
   rw [Zk (n:=(a:Int)+(s:Int)) (by omega) (by omega),show (a:Int)+(s:Int)=((a+s:Nat):Int) from by omega]
   refine Zv [0,1] (Zrm v _ a (a+s) (a+2 * s) l4 (Nat.le_refl _) (by omega) (by omega) (by omega) (by omega) (hq1 (by omega)) (hq2 _ (by omega) (by omega))) rfl rfl rfl ?_ ?_ ?_
   . (repeat first | dsimp only [go_sem,rA,rM,rS] | simp only [nbr])
     simp [mtL,mtB,mtS]
   . (repeat first | dsimp only [go_sem,rA,rM,rS] | simp only [nbr])
     simp [Zc,KFR,loL,KFL,KF]
   rintro _ ⟨l5,hp5,hs5,rfl⟩
   (repeat first | dsimp only [Xk,go_sem,rA,rM,rS] | simp only [nbr])
   rw [Zk (n:=2 * (s:Int)) (by omega) (by omega),Zk (n:=((a+2 * s:Nat):Int)+2 * (s:Int)) (by omega) (by omega)]
   refine ⟨(c'+1,l5),⟨by simp only;omega,hp4.trans (hp5.mono (by omega) (by omega)),?_,?_⟩,by simp only [e7,ha];omega,?_⟩
   . simp only;rw [e7];exact hstep _ _ hp5 hs5
   . simp only;rw [e7];exact ZpM loK hb5 hp5 (by omega)
   . simp only [e7]
     rw [show ((a+2 * s:Nat):Int)+2 * (s:Int)=((a+2 * s+2 * s:Nat):Int) from by omega]
     (refine Zh ?_ ?_ ?_ rfl rfl<;>dsimp only [loL,id,go_sem,rA,rM,rS]<;>simp [loL,Zc,Zf,KFR,KFL,KF,Zd,mtO,nbr])
 refine ZH (by simp;omega) ?_
 dsimp only [go_sem,rA,rM,rS]
 rw [Zk (n:=(a:Int)+(s:Int)) (by omega) (by omega),show (a:Int)+(s:Int)=((a+s:Nat):Int) from by omega]
 by_cases hm:a+s < n
 . refine ZU (by simp;omega) ?_
   dsimp only [go_sem,rA,rM,rS]
   refine Zv [0,1] (Zrm v _ a (a+s) n l4 (Nat.le_refl _) (by omega) (by omega) (by omega) (by omega) (hq1 (by omega)) (hq2 _ (by omega) (by omega))) rfl rfl rfl ?_ ?_ ?_
   . (repeat first | dsimp only [go_sem,rA,rM,rS] | simp only [nbr])
     simp [mtL,mtB,mtS]
   . (repeat first | dsimp only [go_sem,rA,rM,rS] | simp only [nbr])
     simp [Zc,KFR,loL,KFL,KF]
   rintro _ ⟨l5,hp5,hs5,rfl⟩
   (repeat first | dsimp only [Xk,go_sem,rA,rM,rS] | simp only [nbr])
   rw [Zk (n:=(s:Int) * 2) (by omega) (by omega),show (s:Int) * 2=((2 * s:Nat):Int) from by omega]
   refine ⟨(2 * s,l5,(a:Int),((a+2 * s:Nat):Int)),⟨by simp only;omega,hp4.trans (hp5.mono (by omega) (by omega)),hstep _ _ hp5 hs5⟩,by simp only;omega,?_⟩
   (refine Zh ?_ ?_ ?_ rfl rfl<;>dsimp only [loL,id,go_sem,rA,rM,rS]<;>simp [loL,Zc,Zf,KFR,KFL,KF,Zd,mtO,nbr])
 refine ZH (by simp;omega) ?_
 dsimp only [go_sem,rA,rM,rS]
 rw [Zk (n:=(s:Int) * 2) (by omega) (by omega),show (s:Int) * 2=((2 * s:Nat):Int) from by omega]
 refine ⟨(2 * s,l4,(a:Int),((a+2 * s:Nat):Int)),⟨by simp only;omega,hp4,hlast (by omega)⟩,by simp only;omega,?_⟩
 (refine Zh ?_ ?_ ?_ rfl rfl<;>dsimp only [loL,id,go_sem,rA,rM,rS]<;>simp [loL,Zc,Zf,KFR,KFL,KF,Zd,mtO,nbr])
theorem ZwP (v:Nat) (l:List LO) (hL:l.length < 1152921504606846976) :
 CtM Try.prog 87 [(0,.row v 8 (l.map loL) 50),(1,byH)] 2 [.mr 0 v,.cl 88 [.p 1 0]] (fun o=>∃ l',PIn 0 l.length l l'/\Srt loK 0 l.length l'/\o=Xk v l'):=by
 refine m87 (by simp [hpb]) (fun o ho=>by obtain ⟨l',_,_,rfl⟩:=ho;simp [Xk,byH,KX,KXL,KXP,KXH,Zc,KFR,KFL,KF,loL]) ?_
 dsimp only [c87,r87,go_sem,rA,rM,rS]
 (repeat first | dsimp only [go_sem,rA,rM,rS] | simp only [nbr])
 simp only [List.length_map]
 refine Zv [0,1] (Zyw v l.length l rfl hL) rfl rfl rfl ?_ ?_ ?_
 . (repeat first | dsimp only [go_sem,rA,rM,rS] | simp only [nbr])
   simp [mtL,mtB,mtS]
 . (repeat first | dsimp only [go_sem,rA,rM,rS] | simp only [nbr])
   simp [Zc,KFR,loL,KFL,KF]
 rintro _ ⟨l5,hp5,hs5,rfl⟩
 (repeat first | dsimp only [Xk,go_sem,rA,rM,rS] | simp only [nbr])
 refine ⟨_,⟨l5,hp5,hs5,rfl⟩,?_⟩
 try simp only [Xk]
 (refine Zr ?_ ?_ ?_ rfl<;>dsimp only [loL,id,go_sem,rA,rM,rS]<;>simp [loL,Zc,Zf,KFR,KFL,KF,Zd,mtO,nbr])
end Go.Proofs.Ythilckbkffjliaa
namespace Go.Azalai
def loV (x:LO):Letter:=x.1
def Zkf (l:List Letter):Prop:=∀ x ∈ l,0<=x.id/\x.id<=9999
theorem Zyh:∀ {l:List Letter},Zkf l->∃ L:List LO,L.map loV=l
 | [],_=>⟨[],rfl⟩
 | x :: l,h=>by
  obtain ⟨L,hL⟩:=Zyh (l:=l) fun y hy=>h y (by simp [hy])
  let x':LO:=⟨x,h x (by simp)⟩
  have e:loV x'=x:=rfl
  exact ⟨x' :: L,by rw [List.map_cons,hL,e]⟩
theorem ZxV {L L':List LO} (hp:L'.Perm L) (hs:Srt loK 0 L.length L') (hn:((L.map loV).map (·.id)).Nodup):L'.map loV=Zxl (L.map loV):=by
 have hlen:=hp.length_eq
 have hn':((L'.map loV).map (·.id)).Nodup:=(((hp.map _).map _).nodup_iff).2 hn
 refine Zb4 ?_ (ZcB hn) fun x=>by rw [W3.mem_iff,(hp.map _).mem_iff]
 rw [List.pairwise_map,List.pairwise_iff_getElem]
 intro i j hi hj hij
 have h:=hs i j (Nat.zero_le _) hij (by omega)
 rw [Xx loK (by omega),Xx loK (by omega)] at h
 rw [List.map_map,List.nodup_iff_pairwise_ne,List.pairwise_map,List.pairwise_iff_getElem] at hn'
 have hne:=hn' i j hi hj hij
 have h1:0<=(loV L'[i]).id/\(loV L'[i]).id<=9999:=L'[i].2
 have h2:0<=(loV L'[j]).id/\(loV L'[j]).id<=9999:=L'[j].2
 have h:(loV L'[i]).day * 10000+(loV L'[i]).id<=(loV L'[j]).day * 10000+(loV L'[j]).id:=h
 have hne:(loV L'[i]).id≠(loV L'[j]).id:=hne
 generalize loV L'[i]=a at *
 generalize loV L'[j]=b at *
 simp only [lt2,Bool.or_eq_true,Bool.and_eq_true,decide_eq_true_eq]
 omega
end Go.Azalai
namespace Go.Proofs.Ythilckbkffjliaa
open Go Go.Sx Go.Azalai
theorem Zjy (L:List LO):(L.map loV).map Zb=L.map loL:=by rw [List.map_map];rfl
theorem ZmM (l:List LO) (hL:l.length<=1000) (k:Bool):CtM Try.prog 86 [] 0 [.sl k 8 (l.map loL)] (fun o=>o=⟨false,.mr 0 0,[(0,.row 0 8 (l.map loL) 50)],1⟩):=by
 refine m86 (by simp [hpb]) (fun o ho=>by subst ho;simp [KX,KXL,KXP,KXH,Zc,KFL,KF,loL]) ?_
 dsimp only [c86,r86,go_sem,rA,rM,rS]
 intro b hb
 dsimp only [go_sem,rA,rM,rS]
 cases b with
 | true =>
  have hl:l=[]:=by simpa using hb rfl
  subst hl
  refine ZU rfl ?_
  dsimp only [go_sem,rA,rM,rS]
  refine ⟨_,rfl,?_⟩
  refine Zij (WZ (Yh 0 8 50 rfl rfl) ?_) (fun _ _ _ e=>by cases e)
  (refine Zh ?_ ?_ ?_ rfl rfl<;>dsimp only [loL,id,go_sem,rA,rM,rS]<;>simp [loL,Zc,Zf,KFR,KFL,KF,Zd,mtO,nbr])
 | false =>
  refine ZH rfl ?_
  dsimp only [go_sem,rA,rM,rS]
  refine ⟨by simp;omega,?_⟩
  dsimp only [go_sem,rA,rM,rS]
  refine ⟨_,rfl,?_⟩
  (refine Zr ?_ ?_ ?_ rfl<;>dsimp only [loL,id,go_sem,rA,rM,rS]<;>simp [loL,Zc,Zf,KFR,KFL,KF,Zd,mtO,nbr])
theorem ZzC (l:List Letter) (hl:Zkf l) (hn:(l.map (·.id)).Nodup) (hL:l.length<=1000) (k:Bool):Ct Try.prog 67 [.sl k 8 (l.map Zb),.sl true 1 [[.cl 68 []],[.cl 69 []]]] (.sl false 8 ((Zxl l).map Zb)):=by
 obtain ⟨L,rfl⟩:=Zyh hl
 rw [Zjy]
 have hL:L.length<=1000:=by simpa using hL
 refine t67.1 (by simp [Zc,KFR,loL,KFL,KF]) (by simp [Zc,Zb,KFL,KF]) ?_
 dsimp only [c67,r67,go_sem,rA,rM,rS]
 refine Zv [] (ZmM L hL k) rfl rfl rfl ?_ ?_ ?_
 . (repeat first | dsimp only [go_sem,rA,rM,rS] | simp only [nbr])
   try simp [mtL,mtB,mtS,Zc,KFL,KF,loL]
 . trivial
 rintro _ rfl
 (repeat first | dsimp only [go_sem,rA,rM,rS] | simp only [nbr])
 refine gh Yk ?_
 (repeat first | dsimp only [go_sem,rA,rM,rS] | simp only [nbr])
 refine Zv [1,0] (ZwP 0 L (by omega)) rfl rfl rfl ?_ ?_ ?_
 . (repeat first | dsimp only [go_sem,rA,rM,rS] | simp only [nbr])
   try simp [mtL,mtB,mtS]
 . (repeat first | dsimp only [go_sem,rA,rM,rS] | simp only [nbr])
   simp [Zc,KFR,loL,KFL,KF]
 rintro _ ⟨L',hp,hs,rfl⟩
 (repeat first | dsimp only [Xk,go_sem,rA,rM,rS] | simp only [nbr])
 refine gh (X7 0 1 0 rfl rfl rfl rfl) ?_
 (repeat first | dsimp only [go_sem,rA,rM,rS] | simp only [nbr])
 rw [<- ZxV hp.perm hs hn,Zjy]
end Go.Proofs.Ythilckbkffjliaa
namespace Go.Azalai
theorem Zbs {ends:Int} {x:Letter}:∀ {a:List Letter} {seen:List Int},Wq ends seen (a ++ [x])=Wq ends seen a ++ (if (x.id ∈ seen\/x.id ∈ a.map (·.id))\/x.day > ends then [] else [x])
 | [],seen=>by
  simp only [List.nil_append,Wq,List.map_nil,List.not_mem_nil,or_false]
 | y :: a,seen=>by
  have ih:=Zbs (ends:=ends) (x:=x) (a:=a) (seen:=y.id :: seen)
  have e:((x.id ∈ y.id :: seen\/x.id ∈ a.map (·.id))\/x.day > ends)↔((x.id ∈ seen\/x.id ∈ (y :: a).map (·.id))\/x.day > ends):=by
   simp only [List.mem_cons,List.map_cons];grind
  rw [List.cons_append]
  simp only [Wq]
  rw [ih]
  by_cases h:y.id ∈ seen\/y.day > ends
  . rw [if_pos h,if_pos h];simp only [e]
  . rw [if_neg h,if_neg h,List.cons_append];simp only [e]
structure PreR (p:Pact) (l:List Letter) (k:Nat) (L:List (Nat × Int × Letter)) (c:Nat) (R:List Letter):Prop where
 le:k<=l.length
 one:∀ x ∈ l.take k,∀ y ∈ l.take k,x.id=y.id->x=y
 map:∀ id x,Go.Sx.mget id L=some x↔x ∈ l.take k/\x.id=id
 rows:R=Wq p.ends [] (l.take k)
theorem PreR.start (p:Pact) (l:List Letter):PreR p l 0 [] 0 []:=⟨Nat.zero_le _,fun x h=>by simp at h,fun id x=>by simp [Go.Sx.mget],rfl⟩
theorem PreR.step {p:Pact} {l:List Letter} {k c:Nat} {L:List (Nat × Int × Letter)} {R:List Letter} (h:PreR p l k L c R) (hk:k < l.length) (ho:Go.Sx.mget l[k].id L=none\/Go.Sx.mget l[k].id L=some l[k]) :
 PreR p l (k+1) (Go.Sx.mset c l[k].id l[k] L) (Go.Sx.mclk c l[k].id L) (if Go.Sx.mget l[k].id L=none/\l[k].day<=p.ends then R ++ [l[k]] else R):=by
 have ht:l.take (k+1)=l.take k ++ [l[k]]:=List.take_succ_eq_append_getElem hk
 have hnew:∀ x ∈ l.take k,x.id=l[k].id->x=l[k]:=fun x hx he=>by
  have:=(h.map l[k].id x).2 ⟨hx,he⟩
  rcases ho with q | q
  . rw [q] at this;cases this
  . rw [q] at this;cases this;rfl
 refine ⟨hk,fun x hx y hy he=>?_,fun id x=>?_,?_⟩
 . rw [ht,List.mem_append,List.mem_singleton] at hx hy
   rcases hx with hx | rfl<;>rcases hy with hy | rfl
   . exact h.one x hx y hy he
   . exact hnew x hx he
   . exact (hnew y hy he.symm).symm
   . rfl
 . rw [Go.Sx.mget_set,ht,List.mem_append,List.mem_singleton]
   by_cases hid:id=l[k].id
   . rw [if_pos hid]
     constructor
     . intro e;cases e;exact ⟨.inr rfl,hid.symm⟩
     . rintro ⟨hx | rfl,he⟩
       . rw [hnew x hx (by omega)]
       . rfl
   . rw [if_neg hid,h.map]
     constructor
     . rintro ⟨a,b⟩;exact ⟨.inl a,b⟩
     . rintro ⟨a | rfl,b⟩
       . exact ⟨a,b⟩
       . exact absurd b.symm hid
 . rw [ht,Zbs,<- h.rows]
   have hm:Go.Sx.mget l[k].id L=none↔l[k].id ∉ (l.take k).map (·.id):=by
    constructor
    . intro e hx
      obtain ⟨x,hx,he⟩:=List.mem_map.1 hx
      have:=(h.map l[k].id x).2 ⟨hx,he⟩
      rw [e] at this;cases this
    . intro hx
      rcases hq:Go.Sx.mget l[k].id L with _ | x
      . rfl
      . have:=(h.map _ _).1 hq
        exact absurd (List.mem_map.2 ⟨x,this.1,this.2⟩) hx
   by_cases hc:Go.Sx.mget l[k].id L=none/\l[k].day<=p.ends
   . rw [if_pos hc,if_neg]
     rintro ((q | q) | q)
     . cases q
     . exact hm.1 hc.1 q
     . omega
   . rw [if_neg hc,if_pos,List.append_nil]
     rcases Classical.em (Go.Sx.mget l[k].id L=none) with q | q
     . right
       rcases Classical.em (l[k].day > p.ends) with g | g
       . exact g
       . exact absurd ⟨q,by omega⟩ hc
     . left;right;exact Classical.byContradiction fun h2=>q (hm.2 h2)
theorem PreR.two {p:Pact} {l:List Letter} {k c:Nat} {L:List (Nat × Int × Letter)} {R:List Letter} (h:PreR p l k L c R) (hk:k < l.length) {y:Letter} (hg:Go.Sx.mget l[k].id L=some y) (hne:y≠l[k]):ZbY l=true:=by
 rw [<- Bool.not_eq_false]
 intro hf
 obtain ⟨h1,h2⟩:=(h.map _ _).1 hg
 exact hne (We hf y (List.mem_of_mem_take h1) l[k] (List.getElem_mem hk) h2)
theorem PreR.len {p:Pact} {l:List Letter} {k c:Nat} {L:List (Nat × Int × Letter)} {R:List Letter} (h:PreR p l k L c R):R.length<=l.length:=by
 have:∀ {a:List Letter} {seen:List Int},(Wq p.ends seen a).length<=a.length:=by
  intro a
  induction a with
  | nil=>intro _;simp [Wq]
  | cons x a ih =>
   intro seen
   simp only [Wq]
   split
   . have:=@ih (x.id :: seen);simp;omega
   . have:=@ih (x.id :: seen);simp;omega
 rw [h.rows]
 exact Nat.le_trans this (by simp;omega)
theorem eqLt (y x:Letter):(y.id == x.id && (y.day == x.day && (y.kind == x.kind && (y.who == x.who && (y.other == x.other && (y.animal == x.animal && (y.rials == x.rials && (y.mouth == x.mouth && true))))))))=decide (y=x):=by
 rw [Bool.eq_iff_iff]
 obtain ⟨a1,a2,a3,a4,a5,a6,a7,a8⟩:=x
 obtain ⟨b1,b2,b3,b4,b5,b6,b7,b8⟩:=y
 simp
def VR (p:Pact) (l:List Letter):List Letter:=if YB p l=0 then YD p l else []
end Go.Azalai
namespace Go.Proofs.Ythilckbkffjliaa
open Go Go.Sx Go.Azalai
theorem u114:Try.prog.underlying 114=some (.map 3 50):=by kernel_rfl
theorem u3:Try.prog.underlying 3=some (.int .i64):=by kernel_rfl
theorem WS:KeyT Try.prog 3 (fun n:Int=>.int .i64 n) (fun n=>.v (.int .i64 n)):=Zrs u3
abbrev kI:Int->Value:=fun n=>.int .i64 n
abbrev sI:Int->SV:=fun n=>.v (.int .i64 n)
def ltV (x:Letter):SV:=.agg (Zb x)
theorem u47 {args:List SV} {res:SV} (ka:KFL args) (kr:KF res) (h:sx Try.prog Y0 0 c47 (st0 args 65) (ZvA r47 res)) (hA:Nat.ble args.length 65=true:=by rfl):Ct Try.prog 47 args res:=Uc Try.func47 rfl b47 Zyf ZzQ n47 (Nat.le_of_ble_eq_true hA) ka kr h
theorem ZzF:Z8 Try.prog 50=some (.agg #[.int .i64 0,.int .i64 0,.int .u8 0,.int .i64 0,.int .i64 0,.int .i64 0,.int .i64 0,.bool false]):=by kernel_rfl
theorem zl_R:∀ w E n ok,R w E n ok (ltV ⟨0,0,0,0,0,0,0,false⟩) (.agg #[.int .i64 0,.int .i64 0,.int .u8 0,.int .i64 0,.int .i64 0,.int .i64 0,.int .i64 0,.bool false]):=fun w E n ok=>by
 simp only [ltV,Zb,R,RL]
 exact ⟨_,rfl,_,_,rfl,rfl,_,_,rfl,rfl,_,_,rfl,rfl,_,_,rfl,rfl,_,_,rfl,rfl,_,_,rfl,rfl,_,_,rfl,rfl,_,_,rfl,rfl,rfl⟩
theorem Zl1 (p:Pact) (x:Letter) (hs:YY p) (hp:ZK p=true):Ct Try.prog 65 [.agg (Zb x),.ps (Zg p) 0] (B (!Zn p x)):=by
 refine t65.1 (by simp [Zg,Za,Zb,Zc,KFL,KF]) (by simp [KFL,KF]) ?_
 dsimp only [c65,r65,Zg,Zb,go_sem,rA,rM,rS]
 refine call (Zmx p x hs hp) ?_
 dsimp only [go_sem,rA,rM,rS]
theorem ZdV (p:Pact) (l:List Letter) (hs:YY p) (hl:l.length<=1000) (c:Bool):Ct Try.prog 47 [.agg (Zg p),.sl c 8 (l.map Zb)] (.tup [.sl false 8 ((VR p l).map Zb),I (YB p l)]):=by
 refine u47 (by simp [Zg,Za,Zb,Zc,KFL,KF]) (by simp [Zb,Zc,KFL,KF]) ?_
 have hs':p.partners.length<=1000:=hs
 have herr:∀ e,YB p l=e->e≠0->ZbX (.tup [.v (.slice none 0 0),I e]) (.tup [.sl false 8 ((VR p l).map Zb),I (YB p l)]):=fun e h1 h2=>by
  rw [VR,h1,if_neg h2]
  exact Zac (Wk Ue fun _ _ _ _ _ h=>h)
 dsimp only [c47,r47,Zg,go_sem,rA,rM,rS]
 refine call (Ze0 p hs) ?_
 dsimp only [go_sem,rA,rM,rS]
 by_cases hp:ZK p=true
 case neg =>
  refine ZU (by simp [Zc6,hp]) ?_
  dsimp only [go_sem,rA,rM,rS]
  refine ⟨_,rfl,?_⟩
  rw [show Zc6 p=80 from by simp [Zc6,hp]]
  exact herr 80 (by simp [YB,hp]) (by omega)
 refine ZH (by simp [Zc6,hp]) ?_
 dsimp only [go_sem,rA,rM,rS]
 simp only [List.length_map]
 by_cases h100:l.length > 100
 . refine ZU (by simp;omega) ?_
   dsimp only [go_sem,rA,rM,rS]
   refine ⟨_,rfl,?_⟩
   exact herr 4 (by simp [YB,hp,h100]) (by omega)
 refine ZH (by simp;omega) ?_
 dsimp only [go_sem,rA,rM,rS]
 refine Zbd (by simp [FLT]) (res:=B (l.any fun x=>!Zn p x)) ?_ ?_
 . dsimp only [go_sem,rA,rM,rS]
   exact con64 65 [.ps (Zg p) 0] (by simp [KFL,KF,Zc,Zg,Za]) (fun x=>!Zn p x) l (fun x _=>Zl1 p x hs hp) (by omega)
 dsimp only [go_sem,rA,rM,rS]
 have hany:(l.any fun x=>!Zn p x) = !l.all (Zn p):=by simp [List.all_eq_not_any_not]
 by_cases hall:l.all (Zn p)=true
 case neg =>
  refine ZU (by rw [hany];simpa using hall) ?_
  dsimp only [go_sem,rA,rM,rS]
  refine ⟨_,rfl,?_⟩
  rw [Bool.not_eq_true] at hall
  exact herr 81 (by simp only [YB,hp,hall];simp [h100]) (by omega)
 refine ZH (by rw [hany,hall];rfl) ?_
 dsimp only [go_sem,rA,rM,rS]
 refine Xh rfl rfl rfl ?_
 dsimp only [go_sem,rA,rM,rS]
 simp only [List.length_map]
 refine Zb1 (Yh 8 8 50 rfl rfl) (fun s:Nat × List (Nat × Int × Letter) × Nat × Nat × List Letter=>[(27,I s.1),(8,.mr 2 s.2.2.2.1)]) (fun s=>[(1,.map (mpS kI ltV s.2.1) s.2.2.1),(2,.row s.2.2.2.1 8 (s.2.2.2.2.map Zb) 50)]) (fun s=>PreR p l s.1 s.2.1 s.2.2.1 s.2.2.2.2) (fun s=>l.length - s.1) (0,[],0,0,[]) (.start p l) ?_ ?_
 . (refine Zh ?_ ?_ ?_ rfl rfl<;>dsimp only [Zb,ltV,Zg,Za,mpS,id,go_sem,rA,rM,rS]<;>simp [Zb,ltV,Zg,Za,mpS,Zc,Zf,KFR,KFL,KF,Zd,mtO,nbr])
 rintro ⟨k,L,cl,v,R⟩ hI
 simp only at hI
 have hle:=hI.le
 dsimp only [go_sem,rA,rM,rS]
 by_cases hlt:k < l.length
 . refine ZU (by simpa using hlt) ?_
   dsimp only [go_sem,rA,rM,rS]
   refine ZQ k hlt rfl ?_
   dsimp only [Zb,go_sem,rA,rM,rS]
   refine YW (key:=kI) (val:=ltV) (sv:=sI) (L:=L) (k:=l[k].id) (zs:=ltV ⟨0,0,0,0,0,0,0,false⟩) rfl rfl u114 WS rfl ZzF zl_R ?_ ?_
   . intro y hg
     dsimp only [ltV,Zb,go_sem,rA,rM,rS]
     repeat (refine gb ?_;dsimp only [go_sem,rA,rM,rS])
     by_cases hy:y=l[k]
     case neg =>
      refine ZU ?_ ?_
      . rw [eqLt];simp [hy]
      dsimp only [go_sem,rA,rM,rS]
      refine ⟨_,rfl,?_⟩
      have h2:=hI.two hlt hg hy
      exact herr 82 (by simp only [YB,hp,hall,h2];simp [h100]) (by omega)
     subst hy
     refine ZH (by simp) ?_
     dsimp only [go_sem,rA,rM,rS]
     refine Yz (key:=kI) (val:=ltV) (sv:=sI) (L:=L) (k:=l[k].id) (v:=l[k]) (ins:=false) rfl rfl u114 WS rfl rfl (fun _ _ _ e=>by cases e) ?_
     dsimp only [go_sem,rA,rM,rS]
     repeat (refine gb ?_;dsimp only [go_sem,rA,rM,rS])
     refine ZH (by simp) ?_
     dsimp only [go_sem,rA,rM,rS]
     rw [Zk (n:=(k:Int)+1) (by omega) (by omega)]
     have hst:=hI.step hlt (.inr hg)
     rw [if_neg (by rw [hg];simp)] at hst
     refine ⟨(k+1,mset cl l[k].id l[k] L,mclk cl l[k].id L,v,R),hst,by simp only;omega,?_⟩
     (refine Zh ?_ ?_ ?_ rfl rfl<;>dsimp only [Zb,ltV,Zg,Za,Ze,id,go_sem,rA,rM,rS]<;>simp [Zb,ltV,Zg,Za,Ze,Zc,Zf,KFR,KFL,KF,Zd,mtO,nbr])
   . intro hg
     dsimp only [ltV,Zb,go_sem,rA,rM,rS]
     repeat (refine gb ?_;dsimp only [go_sem,rA,rM,rS])
     refine ZH (by simp) ?_
     dsimp only [go_sem,rA,rM,rS]
     refine Yz (key:=kI) (val:=ltV) (sv:=sI) (L:=L) (k:=l[k].id) (v:=l[k]) (ins:=false) rfl rfl u114 WS rfl rfl (fun _ _ _ e=>by cases e) ?_
     dsimp only [go_sem,rA,rM,rS]
     repeat (refine gb ?_;dsimp only [go_sem,rA,rM,rS])
     have hst:=hI.step hlt (.inl hg)
     by_cases hd:l[k].day<=p.ends
     . refine ZU (by simpa using hd) ?_
       dsimp only [go_sem,rA,rM,rS]
       have hRl:=hI.len
       (repeat first | dsimp only [go_sem,rA,rM,rS] | simp only [nbr])
       refine ⟨by simp [Z9,WQ,U9],by simp;omega,?_⟩
       (repeat first | dsimp only [go_sem,rA,rM,rS] | simp only [nbr])
       rw [Zk (n:=(k:Int)+1) (by omega) (by omega)]
       rw [if_pos ⟨hg,hd⟩] at hst
       refine ⟨(k+1,mset cl l[k].id l[k] L,mclk cl l[k].id L,v+1,R ++ [l[k]]),hst,by simp only;omega,?_⟩
       (refine Zh ?_ ?_ ?_ rfl rfl<;>dsimp only [Zb,ltV,Zg,Za,Ze,id,go_sem,rA,rM,rS]<;>simp [Zb,ltV,Zg,Za,Ze,Zc,Zf,KFR,KFL,KF,Zd,mtO,nbr])
     . refine ZH (by simpa using hd) ?_
       dsimp only [go_sem,rA,rM,rS]
       rw [Zk (n:=(k:Int)+1) (by omega) (by omega)]
       rw [if_neg (by intro q;exact hd q.2)] at hst
       refine ⟨(k+1,mset cl l[k].id l[k] L,mclk cl l[k].id L,v,R),hst,by simp only;omega,?_⟩
       (refine Zh ?_ ?_ ?_ rfl rfl<;>dsimp only [Zb,ltV,Zg,Za,Ze,id,go_sem,rA,rM,rS]<;>simp [Zb,ltV,Zg,Za,Ze,Zc,Zf,KFR,KFL,KF,Zd,mtO,nbr])
 refine ZH (by simpa using hlt) ?_
 dsimp only [go_sem,rA,rM,rS]
 refine gh (X7 8 2 v rfl rfl rfl rfl) ?_
 dsimp only [go_sem,rA,rM,rS]
 have hkl:k=l.length:=by omega
 have hone:=hI.one
 have hrows:=hI.rows
 rw [hkl,List.take_length] at hone hrows
 have h2:ZbY l=false:=ZbU hone
 have he:YB p l=0:=by simp only [YB,hp,hall,h2];simp [h100]
 have hRl:=hI.len
 have hsm:Zkf R:=fun x hx=>by
  rw [hrows] at hx
  have:=List.all_eq_true.1 hall x (WV hx).1
  simp only [Zn,Bool.and_eq_true,inR,decide_eq_true_eq] at this
  exact this.1.1
 refine call (ZzC R hsm (by rw [hrows];exact WL) (by omega) false) ?_
 dsimp only [go_sem,rA,rM,rS]
 refine ⟨_,rfl,?_⟩
 rw [VR,he,if_pos rfl,YD,<- hrows]
 exact ZbX.rfl
end Go.Proofs.Ythilckbkffjliaa
namespace Go.Azalai
open Go.Sx
structure Bks where
 loans:List (Nat × Int × (Int × Int))
 cl:Nat
 dead:List (Nat × Int × Bool)
 cd:Nat
 known:List (Nat × Int × Bool)
 ck:Nat
 debts:List (Nat × (Int × Int) × Int)
 cb:Nat
 extra:List (Nat × Int × Int)
 ce:Nat
 result:Int
def ZdD:Bks:=⟨[],0,[],0,[],0,[],0,[],0,0⟩
structure BkR (n:Nat) (c:Co) (b:Bks):Prop where
 lo:∀ a,mget a b.loans=c.loans a
 de:∀ a,(mget a b.dead).getD false=c.dead a
 kn:∀ a,(mget a b.known).getD false=c.known a
 db:∀ x y,(mget (x,y) b.debts).getD 0=c.debts x y
 ex:∀ i,(mget i b.extra).getD 0=c.extra i
 re:b.result=c.result
 w1:MW b.loans b.cl
 w2:MW b.dead b.cd
 w3:MW b.known b.ck
 w4:MW b.debts b.cb
 w5:MW b.extra b.ce
 sb:∀ a l,c.loans a=some l->0<=l.2/\l.2<=100000
 rb:-(n * 100000000:Int)<=c.result/\c.result<=n * 100000000
 eb:∀ i,-(n * 100000000:Int)<=c.extra i/\c.extra i<=n * 100000000
 bb:∀ x y,-(n * 100000000:Int)<=c.debts x y/\c.debts x y<=n * 100000000
 ln:b.loans.length<=n
 dn:b.debts.length<=n
theorem BkR.start:BkR 0 co0 ZdD:=by
 constructor
 case w1=>exact MW.nil
 case w2=>exact MW.nil
 case w3=>exact MW.nil
 case w4=>exact MW.nil
 case w5=>exact MW.nil
 all_goals (try intros);simp_all [co0,ZdD,mget]
theorem BkR.next {n:Nat} {c:Co} {b:Bks} (h:BkR n c b):BkR (n+1) c b :=
 ⟨h.lo,h.de,h.kn,h.db,h.ex,h.re,h.w1,h.w2,h.w3,h.w4,h.w5,h.sb,by have:=h.rb;omega,fun i=>by have:=h.eb i;omega,fun x y=>by have:=h.bb x y;omega,by have:=h.ln;omega,by have:=h.dn;omega⟩
theorem BkR.res {n:Nat} {c:Co} {b:Bks} (h:BkR n c b) {v:Int} (hv:-100000000<=v - c.result/\v - c.result<=100000000):BkR (n+1) { c with result:=v } { b with result:=v } :=
 ⟨h.lo,h.de,h.kn,h.db,h.ex,rfl,h.w1,h.w2,h.w3,h.w4,h.w5,h.sb,by have:=h.rb;simp only;omega,fun i=>by have:=h.eb i;simp only;omega,fun x y=>by have:=h.bb x y;simp only;omega,by have:=h.ln;simp only;omega,by have:=h.dn;simp only;omega⟩
theorem ZbZ {V:Type} {L:List (Nat × Int × V)} {f:Int->V} {d v:V} {k:Int} {c:Nat} (h:∀ i,(mget i L).getD d=f i) (i:Int):(mget i (mset c k v L)).getD d=upd f k v i:=by
 rw [mget_set,upd]
 by_cases q:i=k
 . rw [if_pos q,if_pos q];rfl
 . rw [if_neg q,if_neg q,h]
theorem Zd0 {h t:Int} (h0:0<=h) (h1:h<=1000) (t0:-100000<=t) (t1:t<=100000):-100000000<=h * t/\h * t<=100000000:=by
 have q1:h * t<=h * 100000:=Int.mul_le_mul_of_nonneg_left t1 h0
 have q2:h * -100000<=h * t:=Int.mul_le_mul_of_nonneg_left t0 h0
 omega
def Xf (p:Pact) (c:Co) (b:Bks) (a d:Int) (l:Int × Int):Bks :=
 { b with loans:=Uq a b.loans,extra:=mset b.ce l.1 (c.extra l.1+p.hire * (d - l.2)) b.extra,ce:=mclk b.ce l.1 b.extra,result:=c.result - p.hire * (d - l.2) }
theorem BkR.home {p:Pact} {n:Nat} {c:Co} {b:Bks} (h:BkR n c b) (hp:0<=p.hire/\p.hire<=1000) {a d:Int} {l:Int × Int} (hl:c.loans a=some l) (hd:0<=d/\d<=100000):BkR (n+1) (Yb p c a d l) (Xf p c b a d l):=by
 have hs:=h.sb a l hl
 have hb:=Zd0 (h:=p.hire) (t:=d - l.2) hp.1 hp.2 (by omega) (by omega)
 refine ⟨fun i=>?_,h.de,h.kn,h.db,fun i=>ZbZ h.ex i,rfl,h.w1.del,h.w2,h.w3,h.w4,h.w5.set _,fun i m hi=>?_,?_,fun i=>?_,fun x y=>?_,?_,by have:=h.dn;simp only [Xf];omega⟩
 . simp only [Xf,Yb,upd]
   rw [Zfb h.w1.kn,h.lo]
 . simp only [Yb,upd] at hi
   split at hi
   . cases hi
   . exact h.sb i m hi
 . have:=h.rb
   simp only [Yb];omega
 . have h1:=h.eb i
   have h2:=h.eb l.1
   simp only [Yb,upd]
   split<;>omega
 . have:=h.bb x y
   simp only [Yb];omega
 . have:=h.ln
   have h2:(Uq a b.loans).length<=b.loans.length:=(VS).length_le
   simp only [Xf];omega
theorem BkR.lent {n:Nat} {c:Co} {b:Bks} (h:BkR n c b) {a who d:Int} (hd:0<=d/\d<=100000):BkR (n+1) { c with loans:=upd c.loans a (some (who,d)) } { b with loans:=mset b.cl a (who,d) b.loans,cl:=mclk b.cl a b.loans }:=by
 refine ⟨fun i=>?_,h.de,h.kn,h.db,h.ex,h.re,h.w1.set _,h.w2,h.w3,h.w4,h.w5,fun i m hi=>?_,by have:=h.rb;simp only;omega,fun i=>by have:=h.eb i;simp only;omega,fun x y=>by have:=h.bb x y;simp only;omega,?_,by have:=h.dn;simp only;omega⟩
 . simp only [upd]
   rw [mget_set,h.lo]
 . simp only [upd] at hi
   split at hi
   . cases hi;exact hd
   . exact h.sb i m hi
 . have h1:=h.ln
   have h2:∀ {L:List (Nat × Int × (Int × Int))} {c:Nat} {k:Int} {v:Int × Int},(mset c k v L).length<=L.length+1:=by
    intro L
    induction L with
    | nil=>intro c k v;simp [mset]
    | cons e l ih =>
     intro c k v
     simp only [mset]
     split
     . simp
     . have:=@ih c k v;simp;omega
   have:=@h2 b.loans b.cl a (who,d)
   simp only;omega
theorem BkR.kill {n:Nat} {c:Co} {b:Bks} (h:BkR n c b) {a:Int}:BkR n { c with dead:=upd c.dead a true } { b with dead:=mset b.cd a true b.dead,cd:=mclk b.cd a b.dead } :=
 ⟨h.lo,fun i=>ZbZ h.de i,h.kn,h.db,h.ex,h.re,h.w1,h.w2.set _,h.w3,h.w4,h.w5,h.sb,h.rb,h.eb,h.bb,h.ln,h.dn⟩
theorem BkR.calf {n:Nat} {c:Co} {b:Bks} (h:BkR n c b) {who other v r:Int} (hv:-100000000<=v - c.extra who/\v - c.extra who<=100000000) (hr:-100000000<=r - c.result/\r - c.result<=100000000) :
 BkR (n+1) { c with extra:=upd c.extra who v,result:=r,known:=upd c.known other true } { b with extra:=mset b.ce who v b.extra,ce:=mclk b.ce who b.extra,result:=r,known:=mset b.ck other true b.known,ck:=mclk b.ck other b.known }:=by
 refine ⟨h.lo,h.de,fun i=>ZbZ h.kn i,h.db,fun i=>ZbZ h.ex i,rfl,h.w1,h.w2,h.w3.set _,h.w4,h.w5.set _,h.sb,by have:=h.rb;simp only;omega,fun i=>?_,fun x y=>by have:=h.bb x y;simp only;omega,by have:=h.ln;simp only;omega,by have:=h.dn;simp only;omega⟩
 have h1:=h.eb i
 have h2:=h.eb who
 simp only [upd]
 split<;>omega
theorem ZeE {K V:Type} [DecidableEq K] {k:K} {v:V} {c:Nat}:∀ {L:List (Nat × K × V)},(mset c k v L).length<=L.length+1
 | []=>by simp [mset]
 | e :: l=>by
  simp only [mset]
  split
  . simp
  . have:=ZeE (k:=k) (v:=v) (c:=c) (L:=l);simp;omega
theorem BkR.debt {n:Nat} {c:Co} {b:Bks} (h:BkR n c b) {who other v:Int} (hv:-100000000<=v - c.debts who other/\v - c.debts who other<=100000000) :
 BkR (n+1) { c with debts:=upd c.debts who (upd (c.debts who) other v) } { b with debts:=mset b.cb (who,other) v b.debts,cb:=mclk b.cb (who,other) b.debts }:=by
 refine ⟨h.lo,h.de,h.kn,fun x y=>?_,h.ex,h.re,h.w1,h.w2,h.w3,h.w4.set _,h.w5,h.sb,by have:=h.rb;simp only;omega,fun i=>by have:=h.eb i;simp only;omega,fun x y=>?_,by have:=h.ln;simp only;omega,by have:=h.dn;have q:=ZeE (L:=b.debts) (c:=b.cb) (k:=(who,other)) (v:=v);simp only;omega⟩
 . simp only
   rw [mget_set]
   by_cases hx:x=who
   . subst hx
     by_cases hy:y=other
     . subst hy;simp [upd]
     . rw [if_neg (by simp [hy]),h.db];simp [upd,hy]
   . rw [if_neg (by simp [hx]),h.db];simp [upd,hx]
 . have h1:=h.bb x y
   have h2:=h.bb who other
   simp only [upd]
   by_cases hx:x=who
   . subst hx
     rw [if_pos rfl]
     simp only [upd]
     split
     . rename_i q;subst q;omega
     . omega
   . rw [if_neg hx];omega
end Go.Azalai
namespace Go.Proofs.Ythilckbkffjliaa
open Go Go.Sx Go.Azalai
theorem u99:Try.prog.underlying 99=some (.map 3 150):=by kernel_rfl
theorem u71:Try.prog.underlying 71=some (.map 3 4):=by kernel_rfl
theorem ZvT:Try.prog.underlying 101=some (.map 3 3):=by kernel_rfl
theorem Ztu:Try.prog.underlying 100=some (.map 105 3):=by kernel_rfl
theorem UG:KeyT Try.prog 105 (fun n:Int × Int=>.agg #[.int .i64 n.1,.int .i64 n.2]) (fun n=>.agg [.v (.int .i64 n.1),.v (.int .i64 n.2)]):=key64 (by kernel_rfl) u3 (by kernel_rfl) (by kernel_rfl) (by kernel_rfl) (by kernel_rfl)
abbrev kP:Int × Int->Value:=fun n=>.agg #[.int .i64 n.1,.int .i64 n.2]
abbrev sP:Int × Int->SV:=fun n=>.agg [.v (.int .i64 n.1),.v (.int .i64 n.2)]
def Zp (l:Int × Int):SV:=.agg [I l.1,I l.2]
def ZC (n:Int):SV:=I n
def Zl (b:Bool):SV:=B b
def bH (p:Pact) (b:Bks):List (Nat × HB):=[(0,.map (mpS kI Zp b.loans) b.cl),(1,.map (mpS kI Zl b.dead) b.cd),(2,.map (mpS kI Zl b.known) b.ck),(3,.map (mpS kP ZC b.debts) b.cb),(4,.map (mpS kI ZC b.extra) b.ce),
 (5,.cells [.sl false 3 (p.partners.map Za),I p.calf,I p.hire,I p.ends,.mp 0,.mp 1,.mp 2,.mp 3,.mp 4,I b.result] 103)]
def Ym (p:Pact) (b:Bks):Ot:=⟨false,.tup [],bH p b,6⟩
def Yg (w:Int) (p:Pact) (b:Bks):Ot:=⟨true,.ifc 145 (U8 w),bH p b,6⟩
theorem XT (p:Pact) (b:Bks):KXP (bH p b):=by
 simp [bH,KXP,KXH,KXL,KX,Ze,Zc,Zp,ZC,Zl,KF,KFL,Za]
theorem ZaI:Z8 Try.prog 150=some (.agg #[.int .i64 0,.int .i64 0]):=by kernel_rfl
theorem Zyj:∀ w E n ok,R w E n ok (Zp (0,0)) (.agg #[.int .i64 0,.int .i64 0]):=fun w E n ok=>by
 simp only [Zp,R,RL];exact ⟨_,rfl,_,_,rfl,rfl,_,_,rfl,rfl,rfl⟩
theorem Zbh:Z8 Try.prog 3=some (.int .i64 0):=by kernel_rfl
theorem Zlr:∀ w E n ok,R w E n ok (ZC 0) (.int .i64 0):=fun w E n ok=>by simp only [ZC,R]
theorem UW:Z8 Try.prog 4=some (.bool false):=by kernel_rfl
theorem Zhc:∀ w E n ok,R w E n ok (Zl false) (.bool false):=fun w E n ok=>by simp only [Zl,R]
theorem Zfa:ZcJ Try.prog 145=true:=by kernel_rfl
theorem Yp (w:Int):CtM Try.prog 111 [] 0 [B false,U8 w] (fun o=>o=⟨false,.tup [],[],0⟩):=by
 refine m111 (by simp [hpb]) (fun o ho=>by subst ho;simp [KX,KXL,KXP]) ?_
 dsimp only [ZAy,ZAJ,go_sem,rA,rM,rS]
 refine ZH rfl ?_
 dsimp only [go_sem,rA,rM,rS]
 refine ⟨_,rfl,?_⟩
 (refine Zr ?_ ?_ ?_ rfl<;>dsimp only [id,go_sem,rA,rM,rS]<;>simp [Zc,Zf,KFR,KFL,KF,Zd,mtO,nbr])
theorem XI (w:Int):CtM Try.prog 111 [] 0 [B true,U8 w] (fun o=>o=⟨true,.ifc 145 (U8 w),[],0⟩):=by
 refine m111 (by simp [hpb]) (fun o ho=>by subst ho;simp [KX,KXL,KXP]) ?_
 dsimp only [ZAy,ZAJ,go_sem,rA,rM,rS]
 refine ZU rfl ?_
 dsimp only [go_sem,rA,rM,rS]
 refine ZkA (s:=U8 w) Zfa rfl (fun _ _ _ e=>by cases e) ?_
 dsimp only [go_sem,rA,rM,rS]
 refine ZiS rfl ?_
 dsimp only [go_sem,rA,rM,rS]
 refine ⟨_,rfl,?_⟩
 (refine Zr ?_ ?_ ?_ rfl<;>dsimp only [id,go_sem,rA,rM,rS]<;>simp [Zc,Zf,KFR,KFL,KF,Zd,mtO,nbr])
theorem ZuC {p:Pact} {n:Nat} {c:Co} {b:Bks} (h:BkR n c b) (hn:n<=1000) (x:Letter) (hx:inR 0 10000000 x.rials=true) :
 CtM Try.prog 95 (bH p b) 6 [.p 5 0,.agg (Zb x)] (fun o=>∃ b',BkR (n+1) { c with result:=c.result+x.rials } b'/\o=Ym p b'):=by
 refine m95 (by simp [hpb,bH]) (fun o ho=>by obtain ⟨b',-,rfl⟩:=ho;exact ⟨by simp [Ym,KX,KXL],XT p b'⟩) ?_
 simp only [inR,decide_eq_true_eq] at hx
 have hr:=h.rb
 have hre:=h.re
 dsimp only [c95,r95,bH,Zb,go_sem,rA,rM,rS]
 rw [hre,Zk (n:=c.result+x.rials) (by omega) (by omega)]
 refine ⟨_,⟨_,h.res (v:=c.result+x.rials) (by omega),rfl⟩,?_⟩
 try simp only [Ym,bH]
 (refine Zr ?_ ?_ ?_ rfl<;>dsimp only [Ze,Zp,ZC,Zl,Za,id,go_sem,rA,rM,rS]<;>simp [Ze,Zp,ZC,Zl,Za,Zc,Zf,KFR,KFL,KF,Zd,mtO,nbr])
theorem Znr {p:Pact} {n:Nat} {c:Co} {b:Bks} (h:BkR n c b) (hn:n<=1000) (x:Letter) (hx:inR 0 10000000 x.rials=true) :
 CtM Try.prog 96 (bH p b) 6 [.p 5 0,.agg (Zb x)] (fun o=>∃ b',BkR (n+1) { c with result:=c.result - x.rials } b'/\o=Ym p b'):=by
 refine m96 (by simp [hpb,bH]) (fun o ho=>by obtain ⟨b',-,rfl⟩:=ho;exact ⟨by simp [Ym,KX,KXL],XT p b'⟩) ?_
 simp only [inR,decide_eq_true_eq] at hx
 have hr:=h.rb
 have hre:=h.re
 dsimp only [c96,r96,bH,Zb,go_sem,rA,rM,rS]
 rw [hre,Zk (n:=c.result - x.rials) (by omega) (by omega)]
 refine ⟨_,⟨_,h.res (v:=c.result - x.rials) (by omega),rfl⟩,?_⟩
 try simp only [Ym,bH]
 (refine Zr ?_ ?_ ?_ rfl<;>dsimp only [Ze,Zp,ZC,Zl,Za,id,go_sem,rA,rM,rS]<;>simp [Ze,Zp,ZC,Zl,Za,Zc,Zf,KFR,KFL,KF,Zd,mtO,nbr])
theorem ZsN {p:Pact} {n:Nat} {c:Co} {b:Bks} (h:BkR n c b) (a:Int) (hl:c.loans a=none):CtM Try.prog 112 (bH p b) 6 [.p 5 0,I a] (fun o=>o=Yg 3 p b):=by
 refine m112 (by simp [hpb,bH]) (fun o ho=>by subst ho;exact ⟨by simp [Yg,KX],XT p b⟩) ?_
 dsimp only [ZAp,ZAH,bH,go_sem,rA,rM,rS]
 refine YW (key:=kI) (val:=Zp) (sv:=sI) (L:=b.loans) (k:=a) (zs:=Zp (0,0)) rfl rfl u99 WS rfl ZaI Zyj (fun v hg=>?_) (fun hg=>?_)
 . rw [h.lo,hl] at hg;cases hg
 dsimp only [Zp,go_sem,rA,rM,rS]
 refine Zv [] (XI 3) rfl rfl rfl ?_ ?_ ?_
 . (repeat first | dsimp only [go_sem,rA,rM,rS] | simp only [nbr])
   try simp [mtL,mtB,mtS]
 . trivial
 rintro _ rfl
 (repeat first | dsimp only [go_sem,rA,rM,rS] | simp only [nbr])
 refine ⟨_,rfl,?_⟩
 try simp only [Yg,bH]
 (refine Zr ?_ ?_ ?_ rfl<;>dsimp only [Ze,Zp,ZC,Zl,Za,id,go_sem,rA,rM,rS]<;>simp [Ze,Zp,ZC,Zl,Za,Zc,Zf,KFR,KFL,KF,Zd,mtO,nbr])
theorem ZkF {p:Pact} {n:Nat} {c:Co} {b:Bks} (h:BkR n c b) (a:Int) {l:Int × Int} (hl:c.loans a=some l):CtM Try.prog 112 (bH p b) 6 [.p 5 0,I a] (fun o=>o=⟨false,Zp l,bH p b,6⟩):=by
 refine m112 (by simp [hpb,bH]) (fun o ho=>by subst ho;exact ⟨by simp [Zp,KX,KXL],XT p b⟩) ?_
 dsimp only [ZAp,ZAH,bH,go_sem,rA,rM,rS]
 refine YW (key:=kI) (val:=Zp) (sv:=sI) (L:=b.loans) (k:=a) (zs:=Zp (0,0)) rfl rfl u99 WS rfl ZaI Zyj (fun v hg=>?_) (fun hg=>?_)
 . rw [h.lo,hl] at hg;cases hg
   dsimp only [Zp,go_sem,rA,rM,rS]
   refine Zv [] (Yp 3) rfl rfl rfl ?_ ?_ ?_
   . (repeat first | dsimp only [go_sem,rA,rM,rS] | simp only [nbr])
     try simp [mtL,mtB,mtS]
   . trivial
   rintro _ rfl
   (repeat first | dsimp only [go_sem,rA,rM,rS] | simp only [nbr])
   refine ⟨_,rfl,?_⟩
   try simp only [bH]
   (refine Zr ?_ ?_ ?_ rfl<;>dsimp only [Ze,Zp,ZC,Zl,Za,id,go_sem,rA,rM,rS]<;>simp [Ze,Zp,ZC,Zl,Za,Zc,Zf,KFR,KFL,KF,Zd,mtO,nbr])
 . rw [h.lo,hl] at hg;cases hg
theorem Zeg {p:Pact} {n:Nat} {c:Co} {b:Bks} (h:BkR n c b) (a d:Int) (hl:c.loans a=none):CtM Try.prog 107 (bH p b) 6 [.p 5 0,I a,I d] (fun o=>o=Yg 3 p b):=by
 refine m107 (by simp [hpb,bH]) (fun o ho=>by subst ho;exact ⟨by simp [Yg,KX],XT p b⟩) ?_
 dsimp only [ZAo,ZAf,bH,go_sem,rA,rM,rS]
 refine Zv [0,1,2,3,4,5] (ZsN (p:=p) h a hl) rfl rfl rfl ?_ ?_ ?_
 . (repeat first | dsimp only [bH,go_sem,rA,rM,rS] | simp only [nbr])
   try simp [mtL,mtB,mtS]
 . (repeat first | dsimp only [bH,go_sem,rA,rM,rS] | simp only [nbr])
   try simp [Ze,Zp,ZC,Zl,Za,Zc,KFL,KF]
 rintro _ rfl
 (repeat first | dsimp only [Yg,bH,go_sem,rA,rM,rS] | simp only [nbr])
 refine ⟨_,rfl,?_⟩
 try simp only [Yg,bH]
 (refine Zr ?_ ?_ ?_ rfl<;>dsimp only [Ze,Zp,ZC,Zl,Za,id,go_sem,rA,rM,rS]<;>simp [Ze,Zp,ZC,Zl,Za,Zc,Zf,KFR,KFL,KF,Zd,mtO,nbr])
theorem Zan {p:Pact} {n:Nat} {c:Co} {b:Bks} (h:BkR n c b) (hn:n<=1000) (hp:0<=p.hire/\p.hire<=1000) (a d:Int) (hd:0<=d/\d<=100000) {l:Int × Int} (hl:c.loans a=some l) :
 CtM Try.prog 107 (bH p b) 6 [.p 5 0,I a,I d] (fun o=>o=Ym p (Xf p c b a d l)):=by
 refine m107 (by simp [hpb,bH]) (fun o ho=>by subst ho;exact ⟨by simp [Ym,KX,KXL],XT p _⟩) ?_
 have hs:=h.sb a l hl
 have hb:=Zd0 (h:=p.hire) (t:=d - l.2) hp.1 hp.2 (by omega) (by omega)
 have hr:=h.rb
 have he:=h.eb l.1
 have hre:=h.re
 dsimp only [ZAo,ZAf,bH,go_sem,rA,rM,rS]
 refine Zv [0,1,2,3,4,5] (ZkF (p:=p) h a hl) rfl rfl rfl ?_ ?_ ?_
 . (repeat first | dsimp only [bH,go_sem,rA,rM,rS] | simp only [nbr])
   try simp [mtL,mtB,mtS]
 . (repeat first | dsimp only [bH,go_sem,rA,rM,rS] | simp only [nbr])
   try simp [Ze,Zp,ZC,Zl,Za,Zc,KFL,KF]
 rintro _ rfl
 (repeat first | dsimp only [Zp,bH,go_sem,rA,rM,rS] | simp only [nbr])
 rw [Zk (n:=d - l.2) (by omega) (by omega),Zk (n:=p.hire * (d - l.2)) (by omega) (by omega),hre,Zk (n:=c.result - p.hire * (d - l.2)) (by omega) (by omega)]
 have hrv:=fun σ h1 h2 h3=>Ua (P:=Try.prog) (t:=101) (σ:=σ) (i:=32) (j:=34) (ok:=false) (km:=4) (c:=b.ce) (key:=kI) (val:=ZC) (sv:=sI) (L:=b.extra) (k:=l.1) (zs:=ZC 0) h1 h2 h3 ZvT WS Zbh Zlr
 refine ⟨_,hrv _ rfl rfl rfl,?_⟩
 rw [show lkS false ZC (ZC 0) (mget l.1 b.extra)=ZC (c.extra l.1) from by rw [<- h.ex];cases mget l.1 b.extra<;>rfl]
 dsimp only [ZC,go_sem,rA,rM,rS]
 rw [Zk (n:=c.extra l.1+p.hire * (d - l.2)) (by omega) (by omega)]
 refine Yz (key:=kI) (val:=ZC) (sv:=sI) (L:=b.extra) (k:=l.1) (v:=c.extra l.1+p.hire * (d - l.2)) (ins:=false) rfl rfl ZvT WS rfl rfl (fun _ _ _ e=>by cases e) ?_
 dsimp only [go_sem,rA,rM,rS]
 refine Ztk (key:=kI) (val:=Zp) (sv:=sI) (L:=b.loans) (k:=a) rfl rfl u99 WS rfl rfl ?_
 dsimp only [go_sem,rA,rM,rS]
 refine ⟨_,rfl,?_⟩
 try simp only [Ym,bH,Xf]
 (refine Zr ?_ ?_ ?_ rfl<;>dsimp only [Ze,Zp,ZC,Zl,Za,id,go_sem,rA,rM,rS]<;>simp [Ze,Zp,ZC,Zl,Za,Zc,Zf,KFR,KFL,KF,Zd,mtO,nbr])
theorem ZtU {p:Pact} {n:Nat} {c:Co} {b:Bks} (h:BkR n c b) (x:Letter) (hl:c.loans x.animal=none) :
 CtM Try.prog 100 (bH p b) 6 [.p 5 0,.agg (Zb x)] (fun o=>o=Yg 3 p b):=by
 refine m100 (by simp [hpb,bH]) (fun o ho=>by subst ho;exact ⟨by simp [Yg,KX],XT p b⟩) ?_
 dsimp only [ZAd,ZAg,bH,Zb,go_sem,rA,rM,rS]
 refine Zv [0,1,2,3,4,5] (Zeg (p:=p) h x.animal x.day hl) rfl rfl rfl ?_ ?_ ?_
 . (repeat first | dsimp only [bH,go_sem,rA,rM,rS] | simp only [nbr])
   try simp [mtL,mtB,mtS]
 . (repeat first | dsimp only [bH,go_sem,rA,rM,rS] | simp only [nbr])
   try simp [Ze,Zp,ZC,Zl,Za,Zc,KFL,KF]
 rintro _ rfl
 (repeat first | dsimp only [Yg,bH,go_sem,rA,rM,rS] | simp only [nbr])
 refine ⟨_,rfl,?_⟩
 try simp only [Ym,Yg,bH,Xf]
 (refine Zr ?_ ?_ ?_ rfl<;>dsimp only [Ze,Zp,ZC,Zl,Za,id,go_sem,rA,rM,rS]<;>simp [Ze,Zp,ZC,Zl,Za,Zc,Zf,KFR,KFL,KF,Zd,mtO,nbr])
theorem ZoC {p:Pact} {n:Nat} {c:Co} {b:Bks} (h:BkR n c b) (hn:n<=1000) (hp:0<=p.hire/\p.hire<=1000) (x:Letter) (hd:0<=x.day/\x.day<=100000) {l:Int × Int} (hl:c.loans x.animal=some l) :
 CtM Try.prog 100 (bH p b) 6 [.p 5 0,.agg (Zb x)] (fun o=>∃ b',BkR (n+1) (Yb p c x.animal x.day l) b'/\o=Ym p b'):=by
 refine m100 (by simp [hpb,bH]) (fun o ho=>by obtain ⟨b',-,rfl⟩:=ho;exact ⟨by simp [Ym,KX,KXL],XT p b'⟩) ?_
 dsimp only [ZAd,ZAg,bH,Zb,go_sem,rA,rM,rS]
 refine Zv [0,1,2,3,4,5] (Zan (p:=p) h hn hp x.animal x.day hd hl) rfl rfl rfl ?_ ?_ ?_
 . (repeat first | dsimp only [bH,go_sem,rA,rM,rS] | simp only [nbr])
   try simp [mtL,mtB,mtS]
 . (repeat first | dsimp only [bH,go_sem,rA,rM,rS] | simp only [nbr])
   try simp [Ze,Zp,ZC,Zl,Za,Zc,KFL,KF]
 rintro _ rfl
 (repeat first | dsimp only [Ym,bH,go_sem,rA,rM,rS] | simp only [nbr])
 refine ⟨_,⟨_,h.home hp hl hd,rfl⟩,?_⟩
 try simp only [Ym,Yg,bH,Xf]
 (refine Zr ?_ ?_ ?_ rfl<;>dsimp only [Ze,Zp,ZC,Zl,Za,id,go_sem,rA,rM,rS]<;>simp [Ze,Zp,ZC,Zl,Za,Zc,Zf,KFR,KFL,KF,Zd,mtO,nbr])
theorem Zk2 {p:Pact} {n:Nat} {c:Co} {b:Bks} (h:BkR n c b) (x:Letter) (hx:c.dead x.animal=true) :
 CtM Try.prog 101 (bH p b) 6 [.p 5 0,.agg (Zb x)] (fun o=>o=Yg 2 p b):=by
 refine m101 (by simp [hpb,bH]) (fun o ho=>by subst ho;exact ⟨by simp [Yg,KX],XT p b⟩) ?_
 dsimp only [ZzU,ZyK,bH,Zb,go_sem,rA,rM,rS]
 have hq:=h.de x.animal
 rw [hx] at hq
 refine YW (key:=kI) (val:=Zl) (sv:=sI) (L:=b.dead) (k:=x.animal) (zs:=Zl false) rfl rfl u71 WS rfl UW Zhc (fun v hg=>?_) (fun hg=>?_)
 case refine_2=>rw [hg] at hq;cases hq
 rw [hg] at hq
 have hq:v=true:=hq
 subst hq
 dsimp only [Zl,go_sem,rA,rM,rS]
 refine Zv [] (XI 2) rfl rfl rfl ?_ ?_ ?_
 . (repeat first | dsimp only [go_sem,rA,rM,rS] | simp only [nbr])
   try simp [mtL,mtB,mtS]
 . trivial
 rintro _ rfl
 (repeat first | dsimp only [go_sem,rA,rM,rS] | simp only [nbr])
 refine ⟨_,rfl,?_⟩
 try simp only [Ym,Yg,bH,Xf]
 (refine Zr ?_ ?_ ?_ rfl<;>dsimp only [Ze,Zp,ZC,Zl,Za,id,go_sem,rA,rM,rS]<;>simp [Ze,Zp,ZC,Zl,Za,Zc,Zf,KFR,KFL,KF,Zd,mtO,nbr])
theorem Zvn {p:Pact} {n:Nat} {c:Co} {b:Bks} (h:BkR n c b) (x:Letter) (hx:c.dead x.animal=false) (hl:c.loans x.animal=none) :
 CtM Try.prog 101 (bH p b) 6 [.p 5 0,.agg (Zb x)] (fun o=>o=Yg 3 p b):=by
 refine m101 (by simp [hpb,bH]) (fun o ho=>by subst ho;exact ⟨by simp [Yg,KX],XT p b⟩) ?_
 dsimp only [ZzU,ZyK,bH,Zb,go_sem,rA,rM,rS]
 have hq:=h.de x.animal
 rw [hx] at hq
 have hrw:∀ v,mget x.animal b.dead=some v->v=false:=fun v hg=>by rw [hg] at hq;exact hq
 refine YW (key:=kI) (val:=Zl) (sv:=sI) (L:=b.dead) (k:=x.animal) (zs:=Zl false) rfl rfl u71 WS rfl UW Zhc (fun v hg=>?_) (fun hg=>?_)
 . have:=hrw v hg;subst this
   dsimp only [Zl,go_sem,rA,rM,rS]
   refine Zv [] (Yp 2) rfl rfl rfl ?_ ?_ ?_
   . (repeat first | dsimp only [go_sem,rA,rM,rS] | simp only [nbr])
     try simp [mtL,mtB,mtS]
   . trivial
   rintro _ rfl
   (repeat first | dsimp only [go_sem,rA,rM,rS] | simp only [nbr])
   refine Zv [0,1,2,3,4,5] (Zeg (p:=p) h x.animal x.day hl) rfl rfl rfl ?_ ?_ ?_
   . (repeat first | dsimp only [bH,go_sem,rA,rM,rS] | simp only [nbr])
     try simp [mtL,mtB,mtS]
   . (repeat first | dsimp only [bH,go_sem,rA,rM,rS] | simp only [nbr])
     try simp [Ze,Zp,ZC,Zl,Za,Zc,KFL,KF]
   rintro _ rfl
   (repeat first | dsimp only [Yg,bH,go_sem,rA,rM,rS] | simp only [nbr])
   refine ⟨_,rfl,?_⟩
   try simp only [Ym,Yg,bH,Xf]
   (refine Zr ?_ ?_ ?_ rfl<;>dsimp only [Ze,Zp,ZC,Zl,Za,id,go_sem,rA,rM,rS]<;>simp [Ze,Zp,ZC,Zl,Za,Zc,Zf,KFR,KFL,KF,Zd,mtO,nbr])
 . skip
   dsimp only [Zl,go_sem,rA,rM,rS]
   refine Zv [] (Yp 2) rfl rfl rfl ?_ ?_ ?_
   . (repeat first | dsimp only [go_sem,rA,rM,rS] | simp only [nbr])
     try simp [mtL,mtB,mtS]
   . trivial
   rintro _ rfl
   (repeat first | dsimp only [go_sem,rA,rM,rS] | simp only [nbr])
   refine Zv [0,1,2,3,4,5] (Zeg (p:=p) h x.animal x.day hl) rfl rfl rfl ?_ ?_ ?_
   . (repeat first | dsimp only [bH,go_sem,rA,rM,rS] | simp only [nbr])
     try simp [mtL,mtB,mtS]
   . (repeat first | dsimp only [bH,go_sem,rA,rM,rS] | simp only [nbr])
     try simp [Ze,Zp,ZC,Zl,Za,Zc,KFL,KF]
   rintro _ rfl
   (repeat first | dsimp only [Yg,bH,go_sem,rA,rM,rS] | simp only [nbr])
   refine ⟨_,rfl,?_⟩
   try simp only [Ym,Yg,bH,Xf]
   (refine Zr ?_ ?_ ?_ rfl<;>dsimp only [Ze,Zp,ZC,Zl,Za,id,go_sem,rA,rM,rS]<;>simp [Ze,Zp,ZC,Zl,Za,Zc,Zf,KFR,KFL,KF,Zd,mtO,nbr])
theorem ZnY {p:Pact} {n:Nat} {c:Co} {b:Bks} (h:BkR n c b) (hn:n<=1000) (hp:0<=p.hire/\p.hire<=1000) (x:Letter) (hd:0<=x.day/\x.day<=100000) (hx:c.dead x.animal=false) {l:Int × Int} (hl:c.loans x.animal=some l) :
 CtM Try.prog 101 (bH p b) 6 [.p 5 0,.agg (Zb x)] (fun o=>∃ b',BkR (n+1) { Yb p c x.animal x.day l with dead:=upd c.dead x.animal true } b'/\o=Ym p b'):=by
 refine m101 (by simp [hpb,bH]) (fun o ho=>by obtain ⟨b',-,rfl⟩:=ho;exact ⟨by simp [Ym,KX,KXL],XT p b'⟩) ?_
 dsimp only [ZzU,ZyK,bH,Zb,go_sem,rA,rM,rS]
 have hq:=h.de x.animal
 rw [hx] at hq
 have hrw:∀ v,mget x.animal b.dead=some v->v=false:=fun v hg=>by rw [hg] at hq;exact hq
 refine YW (key:=kI) (val:=Zl) (sv:=sI) (L:=b.dead) (k:=x.animal) (zs:=Zl false) rfl rfl u71 WS rfl UW Zhc (fun v hg=>?_) (fun hg=>?_)
 . have:=hrw v hg;subst this
   dsimp only [Zl,go_sem,rA,rM,rS]
   refine Zv [] (Yp 2) rfl rfl rfl ?_ ?_ ?_
   . (repeat first | dsimp only [go_sem,rA,rM,rS] | simp only [nbr])
     try simp [mtL,mtB,mtS]
   . trivial
   rintro _ rfl
   (repeat first | dsimp only [go_sem,rA,rM,rS] | simp only [nbr])
   refine Zv [0,1,2,3,4,5] (Zan (p:=p) h hn hp x.animal x.day hd hl) rfl rfl rfl ?_ ?_ ?_
   . (repeat first | dsimp only [bH,go_sem,rA,rM,rS] | simp only [nbr])
     try simp [mtL,mtB,mtS]
   . (repeat first | dsimp only [bH,go_sem,rA,rM,rS] | simp only [nbr])
     try simp [Ze,Zp,ZC,Zl,Za,Zc,KFL,KF]
   rintro _ rfl
   (repeat first | dsimp only [Ym,bH,Xf,go_sem,rA,rM,rS] | simp only [nbr])
   refine Yz (key:=kI) (val:=Zl) (sv:=sI) (L:=b.dead) (k:=x.animal) (v:=true) (ins:=false) rfl rfl u71 WS rfl rfl (fun _ _ _ e=>by cases e) ?_
   dsimp only [go_sem,rA,rM,rS]
   refine ⟨_,⟨_,(h.home hp hl hd).kill (a:=x.animal),rfl⟩,?_⟩
   try simp only [Ym,Yg,bH,Xf]
   (refine Zr ?_ ?_ ?_ rfl<;>dsimp only [Ze,Zp,ZC,Zl,Za,id,go_sem,rA,rM,rS]<;>simp [Ze,Zp,ZC,Zl,Za,Zc,Zf,KFR,KFL,KF,Zd,mtO,nbr])
 . skip
   dsimp only [Zl,go_sem,rA,rM,rS]
   refine Zv [] (Yp 2) rfl rfl rfl ?_ ?_ ?_
   . (repeat first | dsimp only [go_sem,rA,rM,rS] | simp only [nbr])
     try simp [mtL,mtB,mtS]
   . trivial
   rintro _ rfl
   (repeat first | dsimp only [go_sem,rA,rM,rS] | simp only [nbr])
   refine Zv [0,1,2,3,4,5] (Zan (p:=p) h hn hp x.animal x.day hd hl) rfl rfl rfl ?_ ?_ ?_
   . (repeat first | dsimp only [bH,go_sem,rA,rM,rS] | simp only [nbr])
     try simp [mtL,mtB,mtS]
   . (repeat first | dsimp only [bH,go_sem,rA,rM,rS] | simp only [nbr])
     try simp [Ze,Zp,ZC,Zl,Za,Zc,KFL,KF]
   rintro _ rfl
   (repeat first | dsimp only [Ym,bH,Xf,go_sem,rA,rM,rS] | simp only [nbr])
   refine Yz (key:=kI) (val:=Zl) (sv:=sI) (L:=b.dead) (k:=x.animal) (v:=true) (ins:=false) rfl rfl u71 WS rfl rfl (fun _ _ _ e=>by cases e) ?_
   dsimp only [go_sem,rA,rM,rS]
   refine ⟨_,⟨_,(h.home hp hl hd).kill (a:=x.animal),rfl⟩,?_⟩
   try simp only [Ym,Yg,bH,Xf]
   (refine Zr ?_ ?_ ?_ rfl<;>dsimp only [Ze,Zp,ZC,Zl,Za,id,go_sem,rA,rM,rS]<;>simp [Ze,Zp,ZC,Zl,Za,Zc,Zf,KFR,KFL,KF,Zd,mtO,nbr])
theorem ZjL {p:Pact} {n:Nat} {c:Co} {b:Bks} (h:BkR n c b) (x:Letter) {l:Int × Int} (hl:c.loans x.animal=some l) :
 CtM Try.prog 99 (bH p b) 6 [.p 5 0,.agg (Zb x)] (fun o=>o=Yg 1 p b):=by
 refine m99 (by simp [hpb,bH]) (fun o ho=>by subst ho;exact ⟨by simp [Yg,KX],XT p b⟩) ?_
 dsimp only [c99,r99,bH,Zb,go_sem,rA,rM,rS]
 have hrv:=fun σ h1 h2 h3=>Ua (P:=Try.prog) (t:=99) (σ:=σ) (i:=10) (j:=12) (ok:=true) (km:=0) (c:=b.cl) (key:=kI) (val:=Zp) (sv:=sI) (L:=b.loans) (k:=x.animal) (zs:=Zp (0,0)) h1 h2 h3 u99 WS ZaI Zyj
 refine ⟨_,hrv _ rfl rfl rfl,?_⟩
 rw [h.lo,hl]
 dsimp only [lkS,Zp,go_sem,rA,rM,rS]
 refine Zv [] (XI 1) rfl rfl rfl ?_ ?_ ?_
 . (repeat first | dsimp only [go_sem,rA,rM,rS] | simp only [nbr])
   try simp [mtL,mtB,mtS]
 . trivial
 rintro _ rfl
 (repeat first | dsimp only [go_sem,rA,rM,rS] | simp only [nbr])
 refine ⟨_,rfl,?_⟩
 try simp only [Ym,Yg,bH,Xf]
 (refine Zr ?_ ?_ ?_ rfl<;>dsimp only [Ze,Zp,ZC,Zl,Za,id,go_sem,rA,rM,rS]<;>simp [Ze,Zp,ZC,Zl,Za,Zc,Zf,KFR,KFL,KF,Zd,mtO,nbr])
theorem ZiU {p:Pact} {n:Nat} {c:Co} {b:Bks} (h:BkR n c b) (x:Letter) (hl:c.loans x.animal=none) (hx:c.dead x.animal=true) :
 CtM Try.prog 99 (bH p b) 6 [.p 5 0,.agg (Zb x)] (fun o=>o=Yg 2 p b):=by
 refine m99 (by simp [hpb,bH]) (fun o ho=>by subst ho;exact ⟨by simp [Yg,KX],XT p b⟩) ?_
 dsimp only [c99,r99,bH,Zb,go_sem,rA,rM,rS]
 have hrv:=fun σ h1 h2 h3=>Ua (P:=Try.prog) (t:=99) (σ:=σ) (i:=10) (j:=12) (ok:=true) (km:=0) (c:=b.cl) (key:=kI) (val:=Zp) (sv:=sI) (L:=b.loans) (k:=x.animal) (zs:=Zp (0,0)) h1 h2 h3 u99 WS ZaI Zyj
 refine ⟨_,hrv _ rfl rfl rfl,?_⟩
 rw [h.lo,hl]
 dsimp only [lkS,Zp,go_sem,rA,rM,rS]
 refine Zv [] (Yp 1) rfl rfl rfl ?_ ?_ ?_
 . (repeat first | dsimp only [go_sem,rA,rM,rS] | simp only [nbr])
   try simp [mtL,mtB,mtS]
 . trivial
 rintro _ rfl
 (repeat first | dsimp only [go_sem,rA,rM,rS] | simp only [nbr])
 have hq:=h.de x.animal
 rw [hx] at hq
 refine YW (key:=kI) (val:=Zl) (sv:=sI) (L:=b.dead) (k:=x.animal) (zs:=Zl false) rfl rfl u71 WS rfl UW Zhc (fun v hg=>?_) (fun hg=>?_)
 case refine_2=>rw [hg] at hq;cases hq
 rw [hg] at hq
 have hq:v=true:=hq
 subst hq
 dsimp only [Zl,go_sem,rA,rM,rS]
 refine Zv [] (XI 2) rfl rfl rfl ?_ ?_ ?_
 . (repeat first | dsimp only [go_sem,rA,rM,rS] | simp only [nbr])
   try simp [mtL,mtB,mtS]
 . trivial
 rintro _ rfl
 (repeat first | dsimp only [go_sem,rA,rM,rS] | simp only [nbr])
 refine ⟨_,rfl,?_⟩
 try simp only [Ym,Yg,bH,Xf]
 (refine Zr ?_ ?_ ?_ rfl<;>dsimp only [Ze,Zp,ZC,Zl,Za,id,go_sem,rA,rM,rS]<;>simp [Ze,Zp,ZC,Zl,Za,Zc,Zf,KFR,KFL,KF,Zd,mtO,nbr])
theorem Znu {p:Pact} {n:Nat} {c:Co} {b:Bks} (h:BkR n c b) (x:Letter) (hd:0<=x.day/\x.day<=100000) (hl:c.loans x.animal=none) (hx:c.dead x.animal=false) :
 CtM Try.prog 99 (bH p b) 6 [.p 5 0,.agg (Zb x)] (fun o=>∃ b',BkR (n+1) { c with loans:=upd c.loans x.animal (some (x.who,x.day)) } b'/\o=Ym p b'):=by
 refine m99 (by simp [hpb,bH]) (fun o ho=>by obtain ⟨b',-,rfl⟩:=ho;exact ⟨by simp [Ym,KX,KXL],XT p b'⟩) ?_
 dsimp only [c99,r99,bH,Zb,go_sem,rA,rM,rS]
 have hq:=h.de x.animal
 rw [hx] at hq
 have hrw:∀ v,mget x.animal b.dead=some v->v=false:=fun v hg=>by rw [hg] at hq;exact hq
 have hrv:=fun σ h1 h2 h3=>Ua (P:=Try.prog) (t:=99) (σ:=σ) (i:=10) (j:=12) (ok:=true) (km:=0) (c:=b.cl) (key:=kI) (val:=Zp) (sv:=sI) (L:=b.loans) (k:=x.animal) (zs:=Zp (0,0)) h1 h2 h3 u99 WS ZaI Zyj
 refine ⟨_,hrv _ rfl rfl rfl,?_⟩
 rw [h.lo,hl]
 dsimp only [lkS,Zp,go_sem,rA,rM,rS]
 refine Zv [] (Yp 1) rfl rfl rfl ?_ ?_ ?_
 . (repeat first | dsimp only [go_sem,rA,rM,rS] | simp only [nbr])
   try simp [mtL,mtB,mtS]
 . trivial
 rintro _ rfl
 (repeat first | dsimp only [go_sem,rA,rM,rS] | simp only [nbr])
 refine YW (key:=kI) (val:=Zl) (sv:=sI) (L:=b.dead) (k:=x.animal) (zs:=Zl false) rfl rfl u71 WS rfl UW Zhc (fun v hg=>?_) (fun hg=>?_)
 . have:=hrw v hg;subst this
   dsimp only [Zl,go_sem,rA,rM,rS]
   refine Zv [] (Yp 2) rfl rfl rfl ?_ ?_ ?_
   . (repeat first | dsimp only [go_sem,rA,rM,rS] | simp only [nbr])
     try simp [mtL,mtB,mtS]
   . trivial
   rintro _ rfl
   (repeat first | dsimp only [go_sem,rA,rM,rS] | simp only [nbr])
   refine Yz (key:=kI) (val:=Zp) (sv:=sI) (L:=b.loans) (k:=x.animal) (v:=(x.who,x.day)) (ins:=false) rfl rfl u99 WS rfl rfl (fun _ _ _ e=>by cases e) ?_
   dsimp only [go_sem,rA,rM,rS]
   refine ⟨_,⟨_,h.lent (a:=x.animal) (who:=x.who) (d:=x.day) hd,rfl⟩,?_⟩
   try simp only [Ym,Yg,bH,Xf]
   (refine Zr ?_ ?_ ?_ rfl<;>dsimp only [Ze,Zp,ZC,Zl,Za,id,go_sem,rA,rM,rS]<;>simp [Ze,Zp,ZC,Zl,Za,Zc,Zf,KFR,KFL,KF,Zd,mtO,nbr])
 . skip
   dsimp only [Zl,go_sem,rA,rM,rS]
   refine Zv [] (Yp 2) rfl rfl rfl ?_ ?_ ?_
   . (repeat first | dsimp only [go_sem,rA,rM,rS] | simp only [nbr])
     try simp [mtL,mtB,mtS]
   . trivial
   rintro _ rfl
   (repeat first | dsimp only [go_sem,rA,rM,rS] | simp only [nbr])
   refine Yz (key:=kI) (val:=Zp) (sv:=sI) (L:=b.loans) (k:=x.animal) (v:=(x.who,x.day)) (ins:=false) rfl rfl u99 WS rfl rfl (fun _ _ _ e=>by cases e) ?_
   dsimp only [go_sem,rA,rM,rS]
   refine ⟨_,⟨_,h.lent (a:=x.animal) (who:=x.who) (d:=x.day) hd,rfl⟩,?_⟩
   try simp only [Ym,Yg,bH,Xf]
   (refine Zr ?_ ?_ ?_ rfl<;>dsimp only [Ze,Zp,ZC,Zl,Za,id,go_sem,rA,rM,rS]<;>simp [Ze,Zp,ZC,Zl,Za,Zc,Zf,KFR,KFL,KF,Zd,mtO,nbr])
theorem ZfP {p:Pact} {n:Nat} {c:Co} {b:Bks} (h:BkR n c b) (x:Letter) (hx:c.known x.other=true) :
 CtM Try.prog 103 (bH p b) 6 [.p 5 0,.agg (Zb x)] (fun o=>o=Yg 4 p b):=by
 refine m103 (by simp [hpb,bH]) (fun o ho=>by subst ho;exact ⟨by simp [Yg,KX],XT p b⟩) ?_
 dsimp only [Zyn,Zym,bH,Zb,go_sem,rA,rM,rS]
 have hq:=h.kn x.other
 rw [hx] at hq
 refine YW (key:=kI) (val:=Zl) (sv:=sI) (L:=b.known) (k:=x.other) (zs:=Zl false) rfl rfl u71 WS rfl UW Zhc (fun v hg=>?_) (fun hg=>?_)
 case refine_2=>rw [hg] at hq;cases hq
 rw [hg] at hq
 have hq:v=true:=hq
 subst hq
 dsimp only [Zl,go_sem,rA,rM,rS]
 refine Zv [] (XI 4) rfl rfl rfl ?_ ?_ ?_
 . (repeat first | dsimp only [go_sem,rA,rM,rS] | simp only [nbr])
   try simp [mtL,mtB,mtS]
 . trivial
 rintro _ rfl
 (repeat first | dsimp only [go_sem,rA,rM,rS] | simp only [nbr])
 refine ⟨_,rfl,?_⟩
 try simp only [Ym,Yg,bH,Xf]
 (refine Zr ?_ ?_ ?_ rfl<;>dsimp only [Ze,Zp,ZC,Zl,Za,id,go_sem,rA,rM,rS]<;>simp [Ze,Zp,ZC,Zl,Za,Zc,Zf,KFR,KFL,KF,Zd,mtO,nbr])
theorem ZuS {p:Pact} {n:Nat} {c:Co} {b:Bks} (h:BkR n c b) (x:Letter) (hx:c.known x.other=false) (hl:c.loans x.animal=none) :
 CtM Try.prog 103 (bH p b) 6 [.p 5 0,.agg (Zb x)] (fun o=>o=Yg 3 p b):=by
 refine m103 (by simp [hpb,bH]) (fun o ho=>by subst ho;exact ⟨by simp [Yg,KX],XT p b⟩) ?_
 dsimp only [Zyn,Zym,bH,Zb,go_sem,rA,rM,rS]
 have hq:=h.kn x.other
 rw [hx] at hq
 have hrw:∀ v,mget x.other b.known=some v->v=false:=fun v hg=>by rw [hg] at hq;exact hq
 refine YW (key:=kI) (val:=Zl) (sv:=sI) (L:=b.known) (k:=x.other) (zs:=Zl false) rfl rfl u71 WS rfl UW Zhc (fun v hg=>?_) (fun hg=>?_)
 . have:=hrw v hg;subst this
   dsimp only [Zl,go_sem,rA,rM,rS]
   refine Zv [] (Yp 4) rfl rfl rfl ?_ ?_ ?_
   . (repeat first | dsimp only [go_sem,rA,rM,rS] | simp only [nbr])
     try simp [mtL,mtB,mtS]
   . trivial
   rintro _ rfl
   (repeat first | dsimp only [go_sem,rA,rM,rS] | simp only [nbr])
   refine Zv [0,1,2,3,4,5] (ZsN (p:=p) h x.animal hl) rfl rfl rfl ?_ ?_ ?_
   . (repeat first | dsimp only [bH,go_sem,rA,rM,rS] | simp only [nbr])
     try simp [mtL,mtB,mtS]
   . (repeat first | dsimp only [bH,go_sem,rA,rM,rS] | simp only [nbr])
     try simp [Ze,Zp,ZC,Zl,Za,Zc,KFL,KF]
   rintro _ rfl
   (repeat first | dsimp only [Yg,bH,go_sem,rA,rM,rS] | simp only [nbr])
   refine ⟨_,rfl,?_⟩
   try simp only [Ym,Yg,bH,Xf]
   (refine Zr ?_ ?_ ?_ rfl<;>dsimp only [Ze,Zp,ZC,Zl,Za,id,go_sem,rA,rM,rS]<;>simp [Ze,Zp,ZC,Zl,Za,Zc,Zf,KFR,KFL,KF,Zd,mtO,nbr])
 . skip
   dsimp only [Zl,go_sem,rA,rM,rS]
   refine Zv [] (Yp 4) rfl rfl rfl ?_ ?_ ?_
   . (repeat first | dsimp only [go_sem,rA,rM,rS] | simp only [nbr])
     try simp [mtL,mtB,mtS]
   . trivial
   rintro _ rfl
   (repeat first | dsimp only [go_sem,rA,rM,rS] | simp only [nbr])
   refine Zv [0,1,2,3,4,5] (ZsN (p:=p) h x.animal hl) rfl rfl rfl ?_ ?_ ?_
   . (repeat first | dsimp only [bH,go_sem,rA,rM,rS] | simp only [nbr])
     try simp [mtL,mtB,mtS]
   . (repeat first | dsimp only [bH,go_sem,rA,rM,rS] | simp only [nbr])
     try simp [Ze,Zp,ZC,Zl,Za,Zc,KFL,KF]
   rintro _ rfl
   (repeat first | dsimp only [Yg,bH,go_sem,rA,rM,rS] | simp only [nbr])
   refine ⟨_,rfl,?_⟩
   try simp only [Ym,Yg,bH,Xf]
   (refine Zr ?_ ?_ ?_ rfl<;>dsimp only [Ze,Zp,ZC,Zl,Za,id,go_sem,rA,rM,rS]<;>simp [Ze,Zp,ZC,Zl,Za,Zc,Zf,KFR,KFL,KF,Zd,mtO,nbr])
theorem part_bd {r c:Int} (r0:0<=r) (r1:r<=10000000) (c0:0<=c) (c1:c<=1000):(0<=r * c/\r * c<=10000000000)/\0<=(r * c).tdiv 1000/\(r * c).tdiv 1000<=r:=by
 have q0:0<=r * c:=Int.mul_nonneg r0 c0
 have q1:r * c<=r * 1000:=Int.mul_le_mul_of_nonneg_left c1 r0
 refine ⟨⟨q0,by omega⟩,Int.tdiv_nonneg q0 (by omega),?_⟩
 rw [Int.tdiv_eq_ediv_of_nonneg q0]
 omega
theorem Znf {p:Pact} {n:Nat} {c:Co} {b:Bks} (h:BkR n c b) (hn:n<=1000) (hp:0<=p.calf/\p.calf<=1000) (x:Letter) (hr:0<=x.rials/\x.rials<=10000000) (hx:c.known x.other=false) {l:Int × Int} (hl:c.loans x.animal=some l) :
 CtM Try.prog 103 (bH p b) 6 [.p 5 0,.agg (Zb x)] (fun o=>∃ b',BkR (n+1) { c with extra:=upd c.extra l.1 (c.extra l.1+(x.rials * p.calf).tdiv 1000),result:=c.result+(x.rials - (x.rials * p.calf).tdiv 1000),known:=upd c.known x.other true } b'/\o=Ym p b'):=by
 refine m103 (by simp [hpb,bH]) (fun o ho=>by obtain ⟨b',-,rfl⟩:=ho;exact ⟨by simp [Ym,KX,KXL],XT p b'⟩) ?_
 dsimp only [Zyn,Zym,bH,Zb,go_sem,rA,rM,rS]
 have hq:=h.kn x.other
 rw [hx] at hq
 have hrw:∀ v,mget x.other b.known=some v->v=false:=fun v hg=>by rw [hg] at hq;exact hq
 obtain ⟨⟨m0,m1⟩,d0,d1⟩:=part_bd hr.1 hr.2 hp.1 hp.2
 have hrb:=h.rb
 have heb:=h.eb l.1
 have hre:=h.re
 refine YW (key:=kI) (val:=Zl) (sv:=sI) (L:=b.known) (k:=x.other) (zs:=Zl false) rfl rfl u71 WS rfl UW Zhc (fun v hg=>?_) (fun hg=>?_)
 . have:=hrw v hg;subst this
   dsimp only [Zl,go_sem,rA,rM,rS]
   refine Zv [] (Yp 4) rfl rfl rfl ?_ ?_ ?_
   . (repeat first | dsimp only [go_sem,rA,rM,rS] | simp only [nbr])
     try simp [mtL,mtB,mtS]
   . trivial
   rintro _ rfl
   (repeat first | dsimp only [go_sem,rA,rM,rS] | simp only [nbr])
   refine Zv [0,1,2,3,4,5] (ZkF (p:=p) h x.animal hl) rfl rfl rfl ?_ ?_ ?_
   . (repeat first | dsimp only [bH,go_sem,rA,rM,rS] | simp only [nbr])
     try simp [mtL,mtB,mtS]
   . (repeat first | dsimp only [bH,go_sem,rA,rM,rS] | simp only [nbr])
     try simp [Ze,Zp,ZC,Zl,Za,Zc,KFL,KF]
   rintro _ rfl
   (repeat first | dsimp only [Zp,bH,go_sem,rA,rM,rS] | simp only [nbr])
   rw [Zk (n:=x.rials * p.calf) (by omega) (by omega)]
   refine ZAl (by decide) ?_
   dsimp only [go_sem,rA,rM,rS]
   rw [Zk (n:=(x.rials * p.calf).tdiv 1000) (by omega) (by omega)]
   have hrv:=fun σ h1 h2 h3=>Ua (P:=Try.prog) (t:=101) (σ:=σ) (i:=30) (j:=32) (ok:=false) (km:=4) (c:=b.ce) (key:=kI) (val:=ZC) (sv:=sI) (L:=b.extra) (k:=l.1) (zs:=ZC 0) h1 h2 h3 ZvT WS Zbh Zlr
   refine ⟨_,hrv _ rfl rfl rfl,?_⟩
   rw [show lkS false ZC (ZC 0) (mget l.1 b.extra)=ZC (c.extra l.1) from by rw [<- h.ex];cases mget l.1 b.extra<;>rfl]
   dsimp only [ZC,go_sem,rA,rM,rS]
   rw [Zk (n:=c.extra l.1+(x.rials * p.calf).tdiv 1000) (by omega) (by omega)]
   refine Yz (key:=kI) (val:=ZC) (sv:=sI) (L:=b.extra) (k:=l.1) (v:=c.extra l.1+(x.rials * p.calf).tdiv 1000) (ins:=false) rfl rfl ZvT WS rfl rfl (fun _ _ _ e=>by cases e) ?_
   dsimp only [go_sem,rA,rM,rS]
   rw [Zk (n:=x.rials - (x.rials * p.calf).tdiv 1000) (by omega) (by omega),hre,Zk (n:=c.result+(x.rials - (x.rials * p.calf).tdiv 1000)) (by omega) (by omega)]
   refine Yz (key:=kI) (val:=Zl) (sv:=sI) (L:=b.known) (k:=x.other) (v:=true) (ins:=false) rfl rfl u71 WS rfl rfl (fun _ _ _ e=>by cases e) ?_
   dsimp only [go_sem,rA,rM,rS]
   refine ⟨_,⟨_,h.calf (who:=l.1) (other:=x.other) (v:=c.extra l.1+(x.rials * p.calf).tdiv 1000) (r:=c.result+(x.rials - (x.rials * p.calf).tdiv 1000)) (by omega) (by omega),rfl⟩,?_⟩
   try simp only [Ym,Yg,bH,Xf]
   (refine Zr ?_ ?_ ?_ rfl<;>dsimp only [Ze,Zp,ZC,Zl,Za,id,go_sem,rA,rM,rS]<;>simp [Ze,Zp,ZC,Zl,Za,Zc,Zf,KFR,KFL,KF,Zd,mtO,nbr])
 . skip
   dsimp only [Zl,go_sem,rA,rM,rS]
   refine Zv [] (Yp 4) rfl rfl rfl ?_ ?_ ?_
   . (repeat first | dsimp only [go_sem,rA,rM,rS] | simp only [nbr])
     try simp [mtL,mtB,mtS]
   . trivial
   rintro _ rfl
   (repeat first | dsimp only [go_sem,rA,rM,rS] | simp only [nbr])
   refine Zv [0,1,2,3,4,5] (ZkF (p:=p) h x.animal hl) rfl rfl rfl ?_ ?_ ?_
   . (repeat first | dsimp only [bH,go_sem,rA,rM,rS] | simp only [nbr])
     try simp [mtL,mtB,mtS]
   . (repeat first | dsimp only [bH,go_sem,rA,rM,rS] | simp only [nbr])
     try simp [Ze,Zp,ZC,Zl,Za,Zc,KFL,KF]
   rintro _ rfl
   (repeat first | dsimp only [Zp,bH,go_sem,rA,rM,rS] | simp only [nbr])
   rw [Zk (n:=x.rials * p.calf) (by omega) (by omega)]
   refine ZAl (by decide) ?_
   dsimp only [go_sem,rA,rM,rS]
   rw [Zk (n:=(x.rials * p.calf).tdiv 1000) (by omega) (by omega)]
   have hrv:=fun σ h1 h2 h3=>Ua (P:=Try.prog) (t:=101) (σ:=σ) (i:=30) (j:=32) (ok:=false) (km:=4) (c:=b.ce) (key:=kI) (val:=ZC) (sv:=sI) (L:=b.extra) (k:=l.1) (zs:=ZC 0) h1 h2 h3 ZvT WS Zbh Zlr
   refine ⟨_,hrv _ rfl rfl rfl,?_⟩
   rw [show lkS false ZC (ZC 0) (mget l.1 b.extra)=ZC (c.extra l.1) from by rw [<- h.ex];cases mget l.1 b.extra<;>rfl]
   dsimp only [ZC,go_sem,rA,rM,rS]
   rw [Zk (n:=c.extra l.1+(x.rials * p.calf).tdiv 1000) (by omega) (by omega)]
   refine Yz (key:=kI) (val:=ZC) (sv:=sI) (L:=b.extra) (k:=l.1) (v:=c.extra l.1+(x.rials * p.calf).tdiv 1000) (ins:=false) rfl rfl ZvT WS rfl rfl (fun _ _ _ e=>by cases e) ?_
   dsimp only [go_sem,rA,rM,rS]
   rw [Zk (n:=x.rials - (x.rials * p.calf).tdiv 1000) (by omega) (by omega),hre,Zk (n:=c.result+(x.rials - (x.rials * p.calf).tdiv 1000)) (by omega) (by omega)]
   refine Yz (key:=kI) (val:=Zl) (sv:=sI) (L:=b.known) (k:=x.other) (v:=true) (ins:=false) rfl rfl u71 WS rfl rfl (fun _ _ _ e=>by cases e) ?_
   dsimp only [go_sem,rA,rM,rS]
   refine ⟨_,⟨_,h.calf (who:=l.1) (other:=x.other) (v:=c.extra l.1+(x.rials * p.calf).tdiv 1000) (r:=c.result+(x.rials - (x.rials * p.calf).tdiv 1000)) (by omega) (by omega),rfl⟩,?_⟩
   try simp only [Ym,Yg,bH,Xf]
   (refine Zr ?_ ?_ ?_ rfl<;>dsimp only [Ze,Zp,ZC,Zl,Za,id,go_sem,rA,rM,rS]<;>simp [Ze,Zp,ZC,Zl,Za,Zc,Zf,KFR,KFL,KF,Zd,mtO,nbr])
theorem X4 (L:List (Nat × (Int × Int) × Int)):∀ e ∈ mpS kP ZC L,KF e.2.2:=by
 intro e he
 obtain ⟨x,_,rfl⟩:=List.mem_map.1 he
 simp [ZC,KF]
theorem ZsC {p:Pact} {n:Nat} {c:Co} {b:Bks} (h:BkR n c b) (hn:n<=1000) (x:Letter) (hx:0<=x.rials/\x.rials<=10000000) :
 CtM Try.prog 104 (bH p b) 6 [.p 5 0,.agg (Zb x)] (fun o=>∃ b',BkR (n+1) { c with debts:=upd c.debts x.who (upd (c.debts x.who) x.other (c.debts x.who x.other+x.rials)) } b'/\o=Ym p b'):=by
 refine m104 (by simp [hpb,bH]) (fun o ho=>by obtain ⟨b',-,rfl⟩:=ho;exact ⟨by simp [Ym,KX,KXL],XT p b'⟩) ?_
 have hb:=h.bb x.who x.other
 have hv0:c.debts x.who x.other=(mget (x.who,x.other) b.debts).getD 0:=(h.db _ _).symm
 dsimp only [c104,r104,bH,Zb,go_sem,rA,rM,rS]
 refine gh (Ze4 (km:=3) (key:=kP) (val:=ZC) (L:=b.debts) (c:=b.cb) (k:=(x.who,x.other)) (v0:=c.debts x.who x.other) rfl (X4 _)) ?_
 dsimp only [go_sem,rA,rM,rS]
 refine ⟨_,ZkQ (P:=Try.prog) (t:=100) (i:=7) (j:=12) (sv:=sP) (v:=0) hv0 rfl rfl (X4 _) trivial rfl Ztu UG Zbh Zlr,?_⟩
 dsimp only [ZC,go_sem,rA,rM,rS]
 rw [Zk (n:=c.debts x.who x.other+x.rials) (by omega) (by omega)]
 refine ⟨3,_,_,rfl,ZkX rfl (X4 _) trivial,Zex (P:=Try.prog) (t:=100) (i:=7) (j:=12) (sv:=sP) (v:=0) hv0 rfl rfl (X4 _) trivial rfl Ztu UG Zbh Zlr,?_⟩
 dsimp only [ZC,go_sem,rA,rM,rS]
 refine Wm (key:=kP) (val:=ZC) (L:=b.debts) (k:=(x.who,x.other)) (c:=b.cb) (v0:=c.debts x.who x.other) (v:=c.debts x.who x.other+x.rials) rfl rfl rfl h.w4 rfl (fun _ _ _ e=>by cases e) ?_
 dsimp only [go_sem,rA,rM,rS]
 refine ⟨_,⟨_,h.debt (who:=x.who) (other:=x.other) (v:=c.debts x.who x.other+x.rials) (by omega),rfl⟩,?_⟩
 try simp only [Ym,bH]
 (refine Zr ?_ ?_ ?_ rfl<;>dsimp only [Ze,Zp,ZC,Zl,Za,id,go_sem,rA,rM,rS]<;>simp [Ze,Zp,ZC,Zl,Za,Zc,Zf,KFR,KFL,KF,Zd,mtO,nbr])
theorem ZjC {p:Pact} {n:Nat} {c:Co} {b:Bks} (h:BkR n c b) (x:Letter) (hx:c.debts x.who x.other < x.rials) :
 CtM Try.prog 105 (bH p b) 6 [.p 5 0,.agg (Zb x)] (fun o=>o=Yg 5 p b):=by
 refine m105 (by simp [hpb,bH]) (fun o ho=>by subst ho;exact ⟨by simp [Yg,KX],XT p b⟩) ?_
 dsimp only [ZAF,ZAe,bH,Zb,go_sem,rA,rM,rS]
 have hrv:=fun σ h1 h2 h3=>Ua (P:=Try.prog) (t:=100) (σ:=σ) (i:=13) (j:=14) (ok:=false) (km:=3) (c:=b.cb) (key:=kP) (val:=ZC) (sv:=sP) (L:=b.debts) (k:=(x.who,x.other)) (zs:=ZC 0) h1 h2 h3 Ztu UG Zbh Zlr
 refine ⟨_,hrv _ rfl rfl rfl,?_⟩
 rw [show lkS false ZC (ZC 0) (mget (x.who,x.other) b.debts)=ZC (c.debts x.who x.other) from by rw [<- h.db];cases mget (x.who,x.other) b.debts<;>rfl]
 dsimp only [ZC,go_sem,rA,rM,rS]
 rw [show decide (c.debts x.who x.other < x.rials)=true from by simpa using hx]
 refine Zv [] (XI 5) rfl rfl rfl ?_ ?_ ?_
 . (repeat first | dsimp only [go_sem,rA,rM,rS] | simp only [nbr])
   try simp [mtL,mtB,mtS]
 . trivial
 rintro _ rfl
 (repeat first | dsimp only [go_sem,rA,rM,rS] | simp only [nbr])
 refine ⟨_,rfl,?_⟩
 try simp only [Yg,bH]
 (refine Zr ?_ ?_ ?_ rfl<;>dsimp only [Ze,Zp,ZC,Zl,Za,id,go_sem,rA,rM,rS]<;>simp [Ze,Zp,ZC,Zl,Za,Zc,Zf,KFR,KFL,KF,Zd,mtO,nbr])
theorem ZuB {p:Pact} {n:Nat} {c:Co} {b:Bks} (h:BkR n c b) (hn:n<=1000) (x:Letter) (hx:0<=x.rials/\x.rials<=10000000) (hd:¬ c.debts x.who x.other < x.rials) :
 CtM Try.prog 105 (bH p b) 6 [.p 5 0,.agg (Zb x)] (fun o=>∃ b',BkR (n+1) { c with debts:=upd c.debts x.who (upd (c.debts x.who) x.other (c.debts x.who x.other - x.rials)) } b'/\o=Ym p b'):=by
 refine m105 (by simp [hpb,bH]) (fun o ho=>by obtain ⟨b',-,rfl⟩:=ho;exact ⟨by simp [Ym,KX,KXL],XT p b'⟩) ?_
 have hb:=h.bb x.who x.other
 have hv0:c.debts x.who x.other=(mget (x.who,x.other) b.debts).getD 0:=(h.db _ _).symm
 dsimp only [ZAF,ZAe,bH,Zb,go_sem,rA,rM,rS]
 have hrv:=fun σ h1 h2 h3=>Ua (P:=Try.prog) (t:=100) (σ:=σ) (i:=13) (j:=14) (ok:=false) (km:=3) (c:=b.cb) (key:=kP) (val:=ZC) (sv:=sP) (L:=b.debts) (k:=(x.who,x.other)) (zs:=ZC 0) h1 h2 h3 Ztu UG Zbh Zlr
 refine ⟨_,hrv _ rfl rfl rfl,?_⟩
 rw [show lkS false ZC (ZC 0) (mget (x.who,x.other) b.debts)=ZC (c.debts x.who x.other) from by rw [<- h.db];cases mget (x.who,x.other) b.debts<;>rfl]
 dsimp only [ZC,go_sem,rA,rM,rS]
 rw [show decide (c.debts x.who x.other < x.rials)=false from by simpa using hd]
 refine Zv [] (Yp 5) rfl rfl rfl ?_ ?_ ?_
 . (repeat first | dsimp only [go_sem,rA,rM,rS] | simp only [nbr])
   try simp [mtL,mtB,mtS]
 . trivial
 rintro _ rfl
 (repeat first | dsimp only [go_sem,rA,rM,rS] | simp only [nbr])
 refine gh (Ze4 (km:=3) (key:=kP) (val:=ZC) (L:=b.debts) (c:=b.cb) (k:=(x.who,x.other)) (v0:=c.debts x.who x.other) rfl (X4 _)) ?_
 dsimp only [go_sem,rA,rM,rS]
 refine ⟨_,ZkQ (P:=Try.prog) (t:=100) (i:=23) (j:=24) (sv:=sP) (v:=0) hv0 rfl rfl (X4 _) trivial rfl Ztu UG Zbh Zlr,?_⟩
 dsimp only [ZC,go_sem,rA,rM,rS]
 rw [Zk (n:=c.debts x.who x.other - x.rials) (by omega) (by omega)]
 refine ⟨3,_,_,rfl,ZkX rfl (X4 _) trivial,Zex (P:=Try.prog) (t:=100) (i:=23) (j:=24) (sv:=sP) (v:=0) hv0 rfl rfl (X4 _) trivial rfl Ztu UG Zbh Zlr,?_⟩
 dsimp only [ZC,go_sem,rA,rM,rS]
 refine Wm (key:=kP) (val:=ZC) (L:=b.debts) (k:=(x.who,x.other)) (c:=b.cb) (v0:=c.debts x.who x.other) (v:=c.debts x.who x.other - x.rials) rfl rfl rfl h.w4 rfl (fun _ _ _ e=>by cases e) ?_
 dsimp only [go_sem,rA,rM,rS]
 refine ⟨_,⟨_,h.debt (who:=x.who) (other:=x.other) (v:=c.debts x.who x.other - x.rials) (by omega),rfl⟩,?_⟩
 try simp only [Ym,bH]
 (refine Zr ?_ ?_ ?_ rfl<;>dsimp only [Ze,Zp,ZC,Zl,Za,id,go_sem,rA,rM,rS]<;>simp [Ze,Zp,ZC,Zl,Za,Zc,Zf,KFR,KFL,KF,Zd,mtO,nbr])
end Go.Proofs.Ythilckbkffjliaa
namespace Go.Sx
open Go Go.RowKit
inductive FB where
 | tail (c:SC)
 | seq (a:SC) (b:FB)
 | dfr (ops:List Ins) (mx kx:X) (t:TypeId) (b:FB)
 | rcv (ops:List Ins) (cx:X) (b:FB)
def ZyY (mx kx:X) (t:TypeId) (o:Oper):Bool :=
 match o.op,o.dst,o.guard with
 | .defer c,none,none=>(match c.callee with | .builtin .delete=>true | _=>false) && (match c.args.toList with | [m,k]=>Y4 mx m && Y4 kx k | _=>false) && (match c.argTypes[0]? with | some u=>u == t | none=>false)
 | _,_,_=>false
def Zrk (cx:X) (o:Oper):Bool :=
 match o.op,o.dst,o.guard with
 | .defer c,none,none=>(match c.callee with | .value y=>Y4 cx y | _=>false) && c.args.isEmpty
 | _,_,_=>false
def ZaH (P:Program):FB->Code->Bool
 | .tail c,code=>YQ P c code
 | .seq a b,code=>(match code with | .seq x y=>YQ P a x && ZaH P b y | _=>false)
 | .dfr ops mx kx t b,code=>(match code with
  | .seq (.region _ os false) y=>ZfB P os ops (os.toList.take ops.length) && (match os.toList.drop ops.length with | [o]=>ZyY mx kx t o | _=>false) && ZaH P b y
  | _=>false)
 | .rcv ops cx b,code=>(match code with
  | .seq (.region _ os false) y=>ZfB P os ops (os.toList.take ops.length) && (match os.toList.drop ops.length with | [o]=>Zrk cx o | _=>false) && ZaH P b y
  | _=>false)
def Zxh (P:Program) (t:TypeId) (kv:Value) (hb hb':HB):Prop :=
 ∃ (K V:Type) (_:DecidableEq K) (key:K->Value) (val:V->SV) (sv:K->SV) (L:List (Nat × K × V)) (k:K) (kt et:TypeId) (c:Nat),
  hb = .map (mpS key val L) c/\hb' = .map (mpS key val (Uq k L)) c/\kv=key k/\P.underlying t=some (.map kt et)/\KeyT P kt key sv
def dK (P:Program) (t:TypeId) (km:Nat) (kv:Value) (K:Ex->St->Prop):Ex->St->Prop
 | .n,σ=>∃ hb',Zxh P t kv (lkh km σ.hp) hb'/\K .n ⟨σ.fr,(km,hb') :: σ.hp,σ.n,σ.N,σ.gs⟩
 | .ret,σ=>∃ hb',Zxh P t kv (lkh km σ.hp) hb'/\K .ret ⟨σ.fr,(km,hb') :: σ.hp,σ.n,σ.N,σ.gs⟩
 | _,_=>False
def fxS (f:St->(Ex->St->Prop)->Prop) (K:Ex->St->Prop):Ex->St->Prop
 | .n,σ=>f σ K
 | .ex _,_=>False
 | .ret,σ=>K .ret σ
 | .pan s,σ=>K (.pan s) σ
def mpO:SV->Option Nat
 | .mp k=>some k
 | _=>none
def vO:SV->Option Value
 | .v x=>some x
 | _=>none
def Zx1 (P:Program) (t:TypeId) (f:Nat->St->(Ex->St->Prop)->Prop) (km:Option Nat) (kv:Option Value) (σ : St) (K:Ex->St->Prop):Prop :=
 match km,kv with
 | some km,some kv=>Nat.blt km σ.n=true/\f σ.n σ (dK P t km kv K)
 | _,_=>False
def Zmp (t:Nat) (o:Oper):Bool :=
 match o.op,o.dst,o.guard with
 | .call c,some u,none=>u == t && (match c.callee with | .builtin .recover=>true | _=>false) && c.args.isEmpty
 | _,_,_=>false
structure RcF (P:Program) (g:FuncId) (t:Nat) (l:List Ins) (c:SC) (N:Nat):Prop where
 ex:∃ fn id os y0 o1,P.funcs[g]? = some fn/\fn.body=some (.seq (.region id os false) y0)/\os[0]? = some o1/\Zmp t o1=true/\ZfB P os l (os.toList.drop 1)=true/\YQ P c y0=true/\fn.ntmps=N/\t < N/\fn.results = #[]
 bd:Yc P g=true
def rcK (σ : St) (k:St->Prop):Ex->St->Prop
 | .n,σ'=>k ⟨σ.fr,σ'.hp,σ'.n,σ.N,σ.gs⟩
 | .ret,σ'=>k ⟨σ.fr,σ'.hp,σ'.n,σ.N,σ.gs⟩
 | _,_=>False
def rcR (P:Program) (t:Nat) (l:List Ins) (c:SC) (N:Nat) (caps:List SV) (s:SV) (σ : St) (k:St->Prop):Prop :=
 Nat.ble caps.length N=true/\rx P Y0 l ⟨(t,s) :: Y3 0 caps,σ.hp,σ.n,N,[]⟩ (ZbI (fxS (fun σ' K=>sx P Y0 σ.n c σ' K) (rcK σ k)))
def ZyQ (P:Program) (f:Nat->St->(Ex->St->Prop)->Prop) (rk:FuncId->List SV->Ex->St->Prop) (s:SV) (σ : St):Prop :=
 match s with
 | .cl g caps=>f σ.n σ (rk g caps)
 | _=>False
def rK (P:Program) (K:Ex->St->Prop) (g:FuncId) (caps:List SV):Ex->St->Prop
 | .n,σ=>∃ t l c N,RcF P g t l c N/\rcR P t l c N caps (.v .nilIface) σ (K .n)
 | .ret,σ=>∃ t l c N,RcF P g t l c N/\rcR P t l c N caps (.v .nilIface) σ (K .ret)
 | .pan s,σ=>∃ t l c N,RcF P g t l c N/\rcR P t l c N caps s σ (K .ret)
 | .ex _,_=>False
def fx (P:Program):Nat->FB->St->(Ex->St->Prop)->Prop
 | m,.tail c,σ,K=>sx P Y0 m c σ K
 | m,.seq a b,σ,K=>sx P Y0 m a σ (fxS (fx P m b) K)
 | _,.dfr ops mx kx t b,σ,K=>rx P Y0 ops σ (ZbI (fxS (fun σ K=>Zx1 P t (fun n=>fx P n b) (mpO (rdG none σ.fr mx)) (vO (rdG none σ.fr kx)) σ K) K))
 | _,.rcv ops cx b,σ,K=>rx P Y0 ops σ (ZbI (fxS (fun σ K=>ZyQ P (fun n=>fx P n b) (rK P K) (rdG none σ.fr cx) σ) K))
theorem Zwb (P:Program) (m:Nat) (c:SC) (σ : St) (K:Ex->St->Prop):fx P m (.tail c) σ K=sx P Y0 m c σ K:=rfl
theorem Zy4 (P:Program) (m:Nat) (a:SC) (b:FB) (σ : St) (K:Ex->St->Prop):fx P m (.seq a b) σ K=sx P Y0 m a σ (fxS (fx P m b) K):=rfl
theorem ZzL (P:Program) (m:Nat) (ops:List Ins) (mx kx:X) (t:TypeId) (b:FB) (σ : St) (K:Ex->St->Prop):fx P m (.dfr ops mx kx t b) σ K=rx P Y0 ops σ (ZbI (fxS (fun σ K=>Zx1 P t (fun n=>fx P n b) (mpO (rdG none σ.fr mx)) (vO (rdG none σ.fr kx)) σ K) K)):=rfl
theorem ZxD (P:Program) (m:Nat) (ops:List Ins) (cx:X) (b:FB) (σ : St) (K:Ex->St->Prop):fx P m (.rcv ops cx b) σ K=rx P Y0 ops σ (ZbI (fxS (fun σ K=>ZyQ P (fun n=>fx P n b) (rK P K) (rdG none σ.fr cx) σ) K)):=rfl
theorem ZuZ (P:Program) (f:Nat->St->(Ex->St->Prop)->Prop) (rk:FuncId->List SV->Ex->St->Prop) (g:FuncId) (caps:List SV) (σ : St):ZyQ P f rk (.cl g caps) σ = f σ.n σ (rk g caps):=rfl
theorem rK_n (P:Program) (K:Ex->St->Prop) (g:FuncId) (caps:List SV) (σ : St):rK P K g caps .n σ = ∃ t l c N,RcF P g t l c N/\rcR P t l c N caps (.v .nilIface) σ (K .n):=rfl
theorem Zyy (P:Program) (K:Ex->St->Prop) (g:FuncId) (caps:List SV) (σ : St):rK P K g caps .ret σ = ∃ t l c N,RcF P g t l c N/\rcR P t l c N caps (.v .nilIface) σ (K .ret):=rfl
theorem Zzx (P:Program) (K:Ex->St->Prop) (g:FuncId) (caps:List SV) (s:SV) (σ : St):rK P K g caps (.pan s) σ = ∃ t l c N,RcF P g t l c N/\rcR P t l c N caps s σ (K .ret):=rfl
theorem e_rcR (P:Program) (t:Nat) (l:List Ins) (c:SC) (N:Nat) (caps:List SV) (s:SV) (σ : St) (k:St->Prop):rcR P t l c N caps s σ k=(Nat.ble caps.length N=true/\rx P Y0 l ⟨(t,s) :: Y3 0 caps,σ.hp,σ.n,N,[]⟩ (ZbI (fxS (fun σ' K=>sx P Y0 σ.n c σ' K) (rcK σ k)))):=rfl
theorem rcK_n (σ : St) (k:St->Prop) (σ':St):rcK σ k .n σ'=k ⟨σ.fr,σ'.hp,σ'.n,σ.N,σ.gs⟩:=rfl
theorem Zwn (σ : St) (k:St->Prop) (σ':St):rcK σ k .ret σ'=k ⟨σ.fr,σ'.hp,σ'.n,σ.N,σ.gs⟩:=rfl
attribute [go_sem] ZxD ZuZ rK_n Zyy Zzx e_rcR rcK_n Zwn
theorem fxS_n (f:St->(Ex->St->Prop)->Prop) (K:Ex->St->Prop) (σ : St):fxS f K .n σ = f σ K:=rfl
theorem ZtG (f:St->(Ex->St->Prop)->Prop) (K:Ex->St->Prop) (σ : St):fxS f K .ret σ = K .ret σ:=rfl
theorem ZyD (P:Program) (t:TypeId) (f:Nat->St->(Ex->St->Prop)->Prop) (km:Nat) (kv:Value) (σ : St) (K:Ex->St->Prop):Zx1 P t f (some km) (some kv) σ K=(Nat.blt km σ.n=true/\f σ.n σ (dK P t km kv K)):=rfl
theorem ZyI (k:Nat):mpO (.mp k)=some k:=rfl
theorem vO_v (x:Value):vO (.v x)=some x:=rfl
theorem dK_n (P:Program) (t:TypeId) (km:Nat) (kv:Value) (K:Ex->St->Prop) (σ : St):dK P t km kv K .n σ = ∃ hb',Zxh P t kv (lkh km σ.hp) hb'/\K .n ⟨σ.fr,(km,hb') :: σ.hp,σ.n,σ.N,σ.gs⟩:=rfl
theorem ZzH (P:Program) (t:TypeId) (km:Nat) (kv:Value) (K:Ex->St->Prop) (σ : St):dK P t km kv K .ret σ = ∃ hb',Zxh P t kv (lkh km σ.hp) hb'/\K .ret ⟨σ.fr,(km,hb') :: σ.hp,σ.n,σ.N,σ.gs⟩:=rfl
attribute [go_sem] Zwb Zy4 ZzL fxS_n ZtG ZyD ZyI vO_v dK_n ZzH
section
variable {P:Program}
theorem Zhj {C:Cx} {Y:Hd} (hY:ZcC P C Y) {ops:Array Oper} {Q:Exit->Act->World->Prop} {K:RK} {os2:List Oper} (hn:∀ σ E a w,K .n σ->Sim C E σ a w->V0 C.rd P ops Q os2 a w)
 (hp:∀ s σ' E a w y,K (.pan s) σ'->Sim C E σ' a w->R w E (ltn σ'.n) (okS C E σ'.hp) s y->Q (.panic [{ v:=y,recovered:=false }]) a w):∀ (l:List Ins) (os:List Oper),ZfB P ops l os=true ->
 ∀ (σ : St) E a w,rx P Y l σ K->Sim C E σ a w->V0 C.rd P ops Q (os ++ os2) a w
 | [],[],_,σ,E,a,w,hr,h=>hn σ E a w hr h
 | io :: l,o :: os,hc,σ,E,a,w,hr,h=>by
  simp only [ZfB,Bool.and_eq_true] at hc
  have ih:=Zhj hY hn hp l os hc.2
  exact Wr (next:=V0 C.rd P ops Q (os ++ os2)) hc.1 hr h (fun σ' E' a' w' h1 h2=>ih σ' E' a' w' h1 h2) (fun s σ' E' w' y h1 h2 h3=>hp s σ' E' a w' y h1 h2 h3) hY
 | [],_ :: _,h,_,_,_,_,_,_=>by simp [ZfB] at h
 | _ :: _,[],h,_,_,_,_,_,_=>by simp [ZfB] at h
theorem Zun {C:Cx} {E:Env} {σ : St} {a:Act} {w:World} (h:Sim C E σ a w) {t:TypeId} {km:Nat} {kv:Value} {hb':HB} {ats:Array TypeId} {ty:TypeId} {cc:Array Bool} (ha:ats[0]? = some t) (hd:Zxh P t kv (lkh km σ.hp) hb') :
 ∃ x w',(invoke (.builtin .delete ats ty cc) #[.map (some (E.β km)),kv]).run P w = .ok (.value x) w'/\Sim C E ⟨σ.fr,(km,hb') :: σ.hp,σ.n,σ.N,σ.gs⟩ a w'/\ZF w w' (okS C E σ.hp) (okS C E ((km,hb') :: σ.hp)):=by
 obtain ⟨K,V,_,key,val,sv,L,k,kt,et,c,hh,rfl,rfl,ht,hK⟩:=hd
 obtain ⟨g0,ys,g1,g2⟩:=VU h hh
 have hfn:=fun w=>hK.fnd k _ _ w (W5 g2)
 have hex:∀ w',(Builtin.delete_ ats ty #[.map (some (E.β km)),key k]).run P w = .ok (.tuple #[]) w'->(invoke (.builtin .delete ats ty cc) #[.map (some (E.β km)),key k]).run P w = .ok (.value (.tuple #[])) w':=fun w' hy=>by
  simp [invoke,builtin,hy]
 have hfin:∀ ys':Array MapEntry,(∀ {w':World} {ok':Nat->Prop},RM w' E (ltn σ.n) ok' (mpS key val L) ys.toList->RM w' E (ltn σ.n) ok' (mpS key val (Uq k L)) ys'.toList) ->
  Sim C E ⟨σ.fr,(km,.map (mpS key val (Uq k L)) c) :: σ.hp,σ.n,σ.N,σ.gs⟩ a (WH w (E.β km) (.map ys' c))/\ZF w (WH w (E.β km) (.map ys' c)) (okS C E σ.hp) (okS C E ((km,.map (mpS key val (Uq k L)) c) :: σ.hp)):=fun ys' hRM=>by
  obtain ⟨q1,q2⟩:=Xu (k:=km) (hb:=.map (mpS key val (Uq k L)) c) (o:=.map ys' c) h.hs (fun b=>by rw [hh];simp only [occ]) (fun b=>by simp only [occ]) (fun hlt hst=>by
   simp only [Z6]
   exact ⟨ys',YZ hlt,hRM (Xq hst.c (fun _ _=>Ele.rfl) (fun _ h=>h) _ _ g2)⟩)
  exact ⟨Ys h q2 (fun _ _=>Ele.rfl) (Nat.le_refl _) q1,q2⟩
 rcases WW (w:=w) (E:=E) (n:=ltn σ.n) (ok:=okS C E σ.hp) k L ys.toList 0 g2 with ⟨a1,a2,a3,-⟩ | ⟨j,v0,e,b1,b2,b3,b4,b5,b6⟩
 . have hrun:(Builtin.delete_ ats ty #[.map (some (E.β km)),key k]).run P w = .ok (.tuple #[]) (WH w (E.β km) (.map ys c)):=by
    simp [Builtin.delete_,Sem.run_bind,ha,run_underlying ht,Result.andThen_ok,ZZ g1 rfl,Sem.run_pure,hK.chk,hfn,a2,Yo _ g1 rfl]
   exact ⟨_,_,hex _ hrun,hfin _ fun h1=>by rw [a3];exact h1⟩
 . rw [Nat.zero_add] at b2
   have hlt:j < ys.size:=by
    have:ys[j]? = some e:=by simpa using b3
    exact (Array.getElem?_eq_some_iff.1 this).1
   have hrun:(Builtin.delete_ ats ty #[.map (some (E.β km)),key k]).run P w = .ok (.tuple #[]) (WH w (E.β km) (.map (ys.eraseIdxIfInBounds j) c)):=by
    simp [Builtin.delete_,Sem.run_bind,ha,run_underlying ht,Result.andThen_ok,ZZ g1 rfl,Sem.run_pure,hK.chk,hfn,b2,Yo _ g1 rfl]
   exact ⟨_,_,hex _ hrun,hfin _ fun {w' ok'} h1=>by
    have:(ys.eraseIdxIfInBounds j).toList=ys.toList.eraseIdx j:=by simp [Array.eraseIdxIfInBounds,hlt]
    rw [this];exact (b6 h1).1⟩
theorem ZdK {C C':Cx} {E E':Env} {σ σ':St} {a a':Act} {w w':World} (h:Sim C E σ a w) (h':Sim C' E' σ' a' w') (c1:C'.w0=w) (c2:C'.okp=okS C E σ.hp) (c3:C'.pass=fun k b=>occ E k (lkh k σ.hp) b) (c4:C'.e0=E) (c5:C'.m0 = σ.n) (hm:C.m0<=σ.n) :
 Sim { C with ds:=a'.defers } E' σ' a' w':=by
 have hok:∀ b,okS C' E' σ'.hp b->okS C E' σ'.hp b:=fun b hb=>by
  obtain ⟨g1,g2⟩:=hb
  refine ⟨?_,g2⟩
  rw [c1,c2] at g1
  rcases g1 with g1 | g1
  . exact g1.1
  . exact .inr (Nat.le_trans h.hs.kp.size g1)
 have hst:YS w' w' (okS C' E' σ'.hp) (okS C E' σ'.hp):=fun b hb _=>⟨hok b hb,rfl⟩
 refine ⟨fun t=>?_,h'.sz,UK,h'.gs,⟨h'.hs.kn,fun k=>?_,h'.hs.dj,fun k b ho=>?_,⟨?_,?_,?_,?_,fun b h1 h2=>?_⟩,fun k hk=>?_⟩⟩
 . have:=h'.fr t
   cases hq:lk t σ'.fr<;>rw [hq] at this<;>try exact ZI hst (fun _ _=>Ele.rfl) (fun _ h=>h) _ _ this
   exact ⟨fun hg=>ZI hst (fun _ _=>Ele.rfl) (fun _ h=>h) _ _ (this.1 hg),this.2⟩
 . refine XJ hst (fun _ _=>Ele.rfl) (fun _ h=>h) ?_ (fun b ho=>rfl) rfl (h'.hs.bk k)
   rcases Classical.em (ltn σ'.n k) with hk | hk
   . exact .inr hk
   . exact .inl (h'.hs.kn k hk)
 . rcases h'.hs.lo k b ho with g | g
   . rw [c1] at g;exact .inl (Nat.le_trans h.hs.kp.size g)
   . rw [c3] at g;exact h.hs.lo k b g
 . have:=h'.hs.kp.os;rw [c1] at this;exact this.trans h.hs.kp.os
 . have:=h'.hs.kp.tape;rw [c1] at this;exact this.trans h.hs.kp.tape
 . have:=h'.hs.kp.output;rw [c1] at this;exact this.trans h.hs.kp.output
 . have:=h'.hs.kp.size;rw [c1] at this;exact Nat.le_trans h.hs.kp.size this
 . have h1':b < C.w0.heap.size:=h1
   have h2':∀ k,¬ C.pass k b:=h2
   have hb:=h'.hs.kp.block b (by rw [c1];exact Nat.lt_of_lt_of_le h1' h.hs.kp.size) (fun k hk=>by
    rw [c3] at hk
    rcases h.hs.lo k b hk with g | g
    . exact absurd h1' (Nat.not_lt.2 g)
    . exact h2' k g)
   rw [c1] at hb
   exact hb.trans (h.hs.kp.block b h1' h2')
 . have hk':k < C.m0:=hk
   have p1:=h.hs.pin k hk'
   have p2:=h'.hs.pin k (by rw [c5];exact Nat.lt_of_lt_of_le hk' hm)
   rw [c4] at p2
   exact ⟨p2.1,p1.2.trans p2.2⟩
theorem Ud {fn:Func} {R':Ending->World->Prop} {C:Cx} {K:Ex->St->Prop}
 (hK:∀ e σ',K e σ'->∀ (C':Cx) E' a' w',C'.w0=C.w0->C'.okp=C.okp->C'.pass=C.pass->C'.e0=C.e0->C'.m0=C.m0->Sim C' E' σ' a' w'->match e with
  | .n | .ret=>Lv P fn a'.tmps R' C.ds .returning w'
  | .ex _=>False
  | .pan s=>∀ y,R w' E' (ltn σ'.n) (okS C' E' σ'.hp) s y->Lv P fn a'.tmps R' C.ds (.panicking [{ v:=y,recovered:=false }]) w')
 (e:Ex) (σ':St) (hk:K e σ') (E':Env) (a':Act) (w':World) (hs:Sim C E' σ' a' w'):ExQ C (Yy P fn R') e σ' E' a' w':=by
 obtain ⟨ms,d1,d2,d3⟩:=hs.df
 have key:=hK e σ' hk
 cases e with
 | ex i=>exact (key C E' a' w' rfl rfl rfl rfl rfl hs).elim
 | n =>
  show Lv P fn a'.tmps R' a'.defers .returning w'
  rw [d1]
  refine XE ms _ _ (by simp) d2.1 (fun m hm=>(d3 m hm).2.2) fun w'' hu=>?_
  exact key { C with ds:=a'.defers } E' a' w'' rfl rfl rfl rfl rfl (X6 hs d3 hu)
 | ret =>
  show Lv P fn a'.tmps R' a'.defers .returning w'
  rw [d1]
  refine XE ms _ _ (by simp) d2.1 (fun m hm=>(d3 m hm).2.2) fun w'' hu=>?_
  exact key { C with ds:=a'.defers } E' a' w'' rfl rfl rfl rfl rfl (X6 hs d3 hu)
 | pan s =>
  intro y hy
  show Lv P fn a'.tmps R' a'.defers (.panicking _) w'
  rw [d1]
  refine XE ms _ _ (by simp) d2.1 (fun m hm=>(d3 m hm).2.2) fun w'' hu=>?_
  have hst:YS w' w'' (okS C E' σ'.hp) (okS C E' σ'.hp):=fun b hb q=>⟨hb,hu.other b fun hm'=>by rcases q with ⟨cs,T,fz,e⟩ | ⟨es,c,e⟩<;>(rw [(d3 b hm').2.2] at e;cases e)⟩
  exact key { C with ds:=a'.defers } E' a' w'' rfl rfl rfl rfl rfl (X6 hs d3 hu) y (ZI hst (fun _ _=>Ele.rfl) (fun _ h=>h) _ _ hy)
theorem ZjJ {C:Cx} {E:Env} {σ : St} {a:Act} {w:World} (h:Sim C E σ a w) (ds:List Deferred):Sim ⟨w,okS C E σ.hp,fun k b=>occ E k (lkh k σ.hp) b,ds,none,E,σ.n⟩ E σ { a with defers:=ds } w:=by
 have hst:YS w w (okS C E σ.hp) (okS ⟨w,okS C E σ.hp,fun k b=>occ E k (lkh k σ.hp) b,ds,none,E,σ.n⟩ E σ.hp):=fun b hb _=>⟨⟨.inl hb,hb.2⟩,rfl⟩
 refine ⟨fun t=>?_,h.sz,UK,h.gs,⟨h.hs.kn,fun k=>?_,h.hs.dj,fun k b ho=>.inr ho,⟨rfl,rfl,rfl,Nat.le_refl _,fun _ _ _=>rfl⟩,fun k hk=>⟨hk,Ele.rfl⟩⟩⟩
 . have:=h.fr t
   show FR w E (ltn σ.n) _ σ.fr (lk t σ.fr) (a.tmps.getD t undef)
   cases hq:lk t σ.fr<;>rw [hq] at this<;>try exact ZI hst (fun _ _=>Ele.rfl) (fun _ h=>h) _ _ this
   exact ⟨fun hg=>ZI hst (fun _ _=>Ele.rfl) (fun _ h=>h) _ _ (this.1 hg),this.2⟩
 . refine XJ hst (fun _ _=>Ele.rfl) (fun _ h=>h) ?_ (fun b ho=>rfl) rfl (h.hs.bk k)
   rcases Classical.em (ltn σ.n k) with hk | hk
   . exact .inr hk
   . exact .inl (h.hs.kn k hk)
def ZAk (v:Value) (u u':FrameMode):Prop:=(u = .returning/\v = .nilIface/\u' = .returning)\/(u = .panicking [{ v:=v,recovered:=false }]/\u' = .panicking [{ v:=v,recovered:=true }])
theorem Zno {b c₀:Frame} {a:Act} {k:List Item} {cs:List Frame} {w:World} {os:Array Oper} {o:Oper} {rest:List Nat} {t:Nat} {v:Value} {u u':FrameMode} (hb:b.kind = .deferred) (h0:os[0]? = some o) (hr:Zmp t o=true)
 (hc:c₀.mode=u) (hu:ZAk v u u'):step P (lone (b.at a (.inRegion os (0 :: rest) :: k)) (c₀ :: cs) w) = .next (lone (b.at (a.put (some t) v) (.inRegion os rest :: k)) ({ c₀ with mode:=u' } :: cs) w):=by
 obtain ⟨dst,op,ty,pos,after,guard⟩:=o
 unfold Zmp at hr
 split at hr
 case h_2=>cases hr
 rename_i c x e1 e2 e3
 simp only at e1 e2 e3
 subst e1;subst e2;subst e3
 simp only [Bool.and_eq_true,beq_iff_eq] at hr
 obtain ⟨⟨rfl,hr1⟩,hr2⟩:=hr
 split at hr1
 case h_2=>cases hr1
 rename_i hcal
 have hw:Region.wanted (⟨some x,.call c,ty,pos,after,none⟩:Oper) (yielded os a.tmps)=true:=rfl
 have hg:=stepG_op (P:=P) (b:=b) (k:=k) (cs:=c₀ :: cs) (w:=w) (rest:=rest) h0 hw
 have hfin:∀ v,(b.at a (.inRegion os (0 :: rest) :: k)).finish v=b.at (a.put (some x) v) (.inRegion os rest :: k):=by
  intro v;rw [Frame.finish_at,h0];rfl
 have hrun:(execOp a.eval (⟨some x,.call c,ty,pos,after,none⟩:Oper)).run P w = .ok .recover w:=by
  simp [execOp,resolve,hcal,invoke,builtin,Sem.run_bind,Sem.run_pure]
 have hk:(b.at a (.inRegion os (0 :: rest) :: k)).kind = .deferred:=hb
 have htr:=tryRecover_deferred hk (c₀ :: cs)
 refine step_lone_go ?_
 rw [hg,<- hfin]
 rcases hu with ⟨rfl,rfl,rfl⟩ | ⟨rfl,rfl⟩
 . have hrd:recoverD (c₀ :: cs)=none:=by simp [recoverD,hc]
   have hcc:({ c₀ with mode:=.returning }:Frame)=c₀:=by rw [<- hc]
   simp only [Frame.at] at htr ⊢
   simp [stepG.apply,hrun,htr,hrd,hcc]
 . have hrd:recoverD (c₀ :: cs)=some (v,{ c₀ with mode:=.panicking [{ v:=v,recovered:=true }] } :: cs):=by simp [recoverD,hc]
   simp only [Frame.at] at htr ⊢
   simp [stepG.apply,hrun,htr,hrd]
theorem ZrQ {fr:Frame} {cs:List Frame}:∀ (ms:List Nat) (w:World),fr.mode≠.run->fr.defers=ms.map Zb5->ms.Nodup->(∀ m ∈ ms,w.heap[m]? = some (.deferred (some []))) ->
 ∃ w',Unm ms w w'/\Steps P (lone fr cs w) (lone { fr with defers:=[] } cs w')
 | [],w,_,hd,_,_=>⟨w,Unm.refl w,by rw [show ({ fr with defers:=[] }:Frame)=fr by rw [<- show fr.defers=[] from hd]];exact Steps.refl P _⟩
 | m :: ms,w,hm,hd,hnd,hh=>by
  rw [List.nodup_cons] at hnd
  have hm0:=hh m (by simp)
  have hlt:=(Array.getElem?_eq_some_iff.1 hm0).1
  have h1:step P (lone fr cs w) = .next (lone { fr with defers:=ms.map Zb5 } cs (WH w m (.deferred none))) :=
   Vs hm hd rfl (by simp only [Instr.takeDeferred,Sem.run_bind,ZZ hm0 rfl,Result.andThen_ok,Yo _ hm0 rfl,Sem.run_pure])
  obtain ⟨w',g1,g2⟩:=ZrQ (fr:={ fr with defers:=ms.map Zb5 }) (cs:=cs) ms (WH w m (.deferred none)) hm rfl hnd.2 (fun k hk=>by
   rw [Wl (by rintro rfl;exact hnd.1 hk)];exact hh k (by simp [hk]))
  refine ⟨w',⟨g1.os,g1.tape,g1.output,by rw [g1.size,Za6],fun b hb=>?_⟩,.head h1 g2⟩
  rw [List.mem_cons,not_or] at hb
  rw [g1.other b hb.2];exact Wl hb.1
theorem Zi3 {g:FuncId} {fn:Func} {id:Nat} {os:Array Oper} {y0:Code} {o1:Oper} {t:Nat} {args:Array Value} {w:World} {u u':FrameMode} {v:Value} {R:Ending->FrameMode->World->Prop} {Q:Exit->Act->World->Prop}
 (hf:P.funcs[g]? = some fn) (hb:fn.body=some (.seq (.region id os false) y0)) (h0:os[0]? = some o1) (hrec:Zmp t o1=true) (hu:ZAk v u u')
 (h:V0 none P os (Exit.then (wpX none P y0 Q) Q) (os.toList.drop 1) (({ tmps:=args ++ Array.replicate (fn.ntmps - args.size) undef,defers:=[] }:Act).put (some t) v) w)
 (hQ:∀ e a w,Q e a w->(e = .normal\/e = .ret)/\∃ ms:List Nat,a.defers=ms.map Zb5/\ms.Nodup/\(∀ m ∈ ms,w.heap[m]? = some (.deferred (some [])))/\∀ w',Unm ms w w'->∃ val,(results fn a.tmps).run P w' = .ok val w'/\R (.returned val) u' w') :
 CallsD P g args u w R:=by
 intro c₀ cs hc
 let b:Frame:={ (default:Frame) with fn:=g,kind:=.deferred }
 let a0:Act:={ tmps:=args ++ Array.replicate (fn.ntmps - args.size) undef,defers:=[] }
 have henter:Frame.enter P g args .deferred=b.at a0 [.code (.seq (.region id os false) y0)]:=by
  simp [Frame.enter,Frame.at,hf,hb,b,a0]
 have hsz:0 < os.size:=(Array.getElem?_eq_some_iff.1 h0).1
 have hrange:List.range os.size=0 :: List.range' 1 (os.size - 1):=by
  rw [List.range_eq_range',show os.size=(os.size - 1)+1 from by omega,List.range'_succ];simp
 have h1:=Zaq (r:=none) (P:=P) (ops:=os) (os.toList.drop 1) 1 (fun j hj=>by simp [List.getElem?_drop,Nat.add_comm]) _ w h
 rw [List.length_drop,Array.length_toList] at h1
 obtain ⟨e,a1,w1,q,s⟩:=Zaa _ _ w h1 b [.code y0] ({ c₀ with mode:=u' } :: cs) rfl (by simp [b,hf])
 have s:=(arrivesIn_iff (b:=b) (fun _ _=>steps_iff.symm) rfl).1 s
 rw [Frame.atR_of_none (b:=b) rfl] at s
 have hpre:Steps P (lone (Frame.enter P g args .deferred) (c₀ :: cs) w) (lone (b.at (a0.put (some t) v) (.inRegion os (List.range' 1 (os.size - 1)) :: [.code y0])) ({ c₀ with mode:=u' } :: cs) w):=by
  rw [henter]
  refine .head step_seq (.head step_region ?_)
  rw [hrange]
  exact .one (Zno rfl h0 hrec hc hu)
 have fin:∀ (e:Exit) (a:Act) (w2:World) (todo:List Item),Q e a w2->Steps P (lone (Frame.enter P g args .deferred) (c₀ :: cs) w) (lone ({ b.at a todo with mode:=.returning }:Frame) ({ c₀ with mode:=u' } :: cs) w2) ->
  ∃ e u'' w' fr,R e u'' w'/\Comes P (lone (Frame.enter P g args .deferred) (c₀ :: cs) w) (lone fr ({ c₀ with mode:=u'' } :: cs) w') e/\fr.kind = .deferred/\fr.going P w' e:=fun e a w2 todo hq hs=>by
  obtain ⟨_,ms,d1,d2,d3,d4⟩:=hQ e a w2 hq
  obtain ⟨w3,g1,g2⟩:=ZrQ (P:=P) (fr:={ b.at a todo with mode:=.returning }) (cs:={ c₀ with mode:=u' } :: cs) ms w2 (by simp) d1 d2 d3
  obtain ⟨val,hr,hR⟩:=d4 w3 g1
  exact ⟨.returned val,u',w3,_,hR,Steps.trans hs g2,rfl,rfl,rfl,fn,hf,hr⟩
 have tl:∀ (a:Act) (w2:World),wpX none P y0 Q a w2->Steps P (lone (Frame.enter P g args .deferred) (c₀ :: cs) w) (lone (b.at a [.code y0]) ({ c₀ with mode:=u' } :: cs) w2) ->
  ∃ e u'' w' fr,R e u'' w'/\Comes P (lone (Frame.enter P g args .deferred) (c₀ :: cs) w) (lone fr ({ c₀ with mode:=u'' } :: cs) w') e/\fr.kind = .deferred/\fr.going P w' e:=fun a w2 hy hs=>by
  obtain ⟨e2,a2,w3,q2,s2⟩:=hy b [] ({ c₀ with mode:=u' } :: cs) rfl (by simp [b,hf])
  have s2:=(arrivesIn_iff (b:=b) (fun _ _=>steps_iff.symm) rfl).1 s2
  rw [Frame.atR_of_none (b:=b) rfl] at s2
  rcases (hQ e2 a2 w3 q2).1 with rfl | rfl
  . exact fin _ a2 w3 [] q2 (Steps.trans hs (Steps.trans s2 (.one step_end)))
  . obtain ⟨todo,s3⟩:=s2
    exact fin _ a2 w3 todo q2 (Steps.trans hs s3)
 cases e with
 | normal=>exact tl a1 w1 q (Steps.trans hpre s)
 | ret =>
  obtain ⟨todo,s3⟩:=s
  exact fin _ a1 w1 todo q (Steps.trans hpre s3)
 | panic chain=>rcases (hQ _ a1 w1 q).1 with h | h<;>cases h
 | exit id=>rcases (hQ _ a1 w1 q).1 with h | h<;>cases h
 | goto l=>rcases (hQ _ a1 w1 q).1 with h | h<;>cases h
 | outgrown=>rcases (hQ _ a1 w1 q).1 with h | h<;>cases h
theorem Zhp {C:Cx} {E:Env} {hp0:List (Nat × HB)} {n0 N:Nat} {args:List SV} {vs:List Value} {w:World} (hN:args.length<=N) (hds:C.ds=[]) (hH:HSim C E hp0 (ltn n0) w) (hR:RL w E (ltn n0) (okS C E hp0) args vs) :
 Sim C E ⟨Y3 0 args,hp0,n0,N,[]⟩ { tmps:=vs.toArray ++ Array.replicate (N - vs.toArray.size) undef,defers:=[] } w:=by
 have hlen:=ZD hR
 have hng:∀ t j b s,lk t (Y3 0 args)≠.gd j b s:=by
  intro t j b s ht
  simp only [VC,Nat.zero_le,if_true,Nat.sub_zero] at ht
  by_cases htl:t < args.length
  . have e1:args.getD t .any=args[t]:=by simp [htl]
    obtain ⟨y,h1,h2⟩:=W4 hR (List.getElem?_eq_getElem htl)
    rw [e1] at ht;rw [ht] at h2;simp only [R] at h2
  . have e1:args.getD t .any = .any:=by simp [List.getElem?_eq_none (Nat.le_of_not_lt htl)]
    rw [e1] at ht;cases ht
 refine ⟨fun t=>?_,by simp;omega,by rw [<- hds];exact UK,fun t j b s ht=>absurd ht (hng t j b s),hH⟩
 have hng:=hng t
 have hFR:R w E (ltn n0) (okS C E hp0) (lk t (Y3 0 args)) ((vs.toArray ++ Array.replicate (N - vs.toArray.size) undef).getD t undef):=by
  simp only [VC,Nat.zero_le,if_true,Nat.sub_zero]
  by_cases ht:t < args.length
  . have e1:args.getD t .any=args[t]:=by simp [ht]
    obtain ⟨y,h1,h2⟩:=W4 hR (List.getElem?_eq_getElem ht)
    have e2:(vs.toArray ++ Array.replicate (N - vs.toArray.size) undef).getD t undef=y:=by
     have:t < vs.length:=by omega
     have h1':=(List.getElem?_eq_some_iff.1 h1).2
     simp [Array.getElem?_append,this,h1']
    rw [e1,e2];exact h2
  . have e1:args.getD t .any = .any:=by simp [List.getElem?_eq_none (Nat.le_of_not_lt ht)]
    rw [e1];simp only [R]
 simp only
 cases hq:lk t (Y3 0 args)<;>rw [hq] at hFR hng<;>first | exact hFR | exact absurd rfl (hng _ _ _)
theorem ZzX {g:FuncId} {t N:Nat} {l:List Ins} {c:SC} (hF:RcF P g t l c N) {C:Cx} {E:Env} {σ : St} {a:Act} {w:World} (hS:Sim C E σ a w) (hm:C.m0<=σ.n) {caps:List SV} {vs:List Value} (hR:RL w E (ltn σ.n) (okS C E σ.hp) caps vs)
 {s:SV} {v:Value} (hv:R w E (ltn σ.n) (okS C E σ.hp) s v) {k:St->Prop} (hrun:rcR P t l c N caps s σ k) {u u':FrameMode} (hu:ZAk v u u') {R':Ending->FrameMode->World->Prop}
 (hk:∀ hp' n' E' w',k ⟨σ.fr,hp',n',σ.N,σ.gs⟩->Sim C E' ⟨σ.fr,hp',n',σ.N,σ.gs⟩ a w'->R' (.returned (.tuple #[])) u' w'):CallsD P g vs.toArray u w R':=by
 obtain ⟨fn,id,os,y0,o1,f1,f2,f3,f4,f5,f6,f7,f8,f9⟩:=hF.ex
 obtain ⟨hcl,hrun⟩:=hrun
 have hcl:=Nat.le_of_ble_eq_true hcl
 let C2:Cx:=⟨w,okS C E σ.hp,fun k b=>occ E k (lkh k σ.hp) b,[],none,E,σ.n⟩
 have hst:YS w w (okS C E σ.hp) (okS C2 E σ.hp):=fun b hb _=>⟨⟨.inl hb,hb.2⟩,rfl⟩
 have hin:=ZjJ hS []
 have hR2:RL w E (ltn σ.n) (okS C2 E σ.hp) caps vs:=ZE hst (fun _ _=>Ele.rfl) (fun _ h=>h) _ _ hR
 have hv2:R w E (ltn σ.n) (okS C2 E σ.hp) s v:=ZI hst (fun _ _=>Ele.rfl) (fun _ h=>h) _ _ hv
 have h0:Sim C2 E ⟨Y3 0 caps,σ.hp,σ.n,N,[]⟩ { tmps:=vs.toArray ++ Array.replicate (N - vs.toArray.size) undef,defers:=[] } w:=Zhp hcl rfl hin.hs hR2
 have h1:Sim C2 E ⟨(t,s) :: Y3 0 caps,σ.hp,σ.n,N,[]⟩ (Act.put { tmps:=vs.toArray ++ Array.replicate (N - vs.toArray.size) undef,defers:=[] } (some t) v) w :=
  Xd h0 (fun b hb _=>⟨hb,rfl⟩) (fun _ _=>Ele.rfl) (Nat.le_refl _) hin.hs (by simp) f8 (V4 hv) hv2
 let Q:Exit->Act->World->Prop:=fun e a2 w2=>(e = .normal\/e = .ret)/\∃ σ' E',k ⟨σ.fr,σ'.hp,σ'.n,σ.N,σ.gs⟩/\Sim C2 E' σ' a2 w2
 have hKQ:LkQ C2 (rcK σ k) Q:=fun e σ' hk' E' a' w' hs=>by
  cases e with
  | n=>exact ⟨.inl rfl,σ',E',hk',hs⟩
  | ret=>exact ⟨.inr rfl,σ',E',hk',hs⟩
  | ex i=>exact hk'.elim
  | pan s=>exact hk'.elim
 have hmc:MC C2 σ.n:=⟨Nat.le_refl _,fun j b ho=>by
  rcases Classical.em (ltn σ.n j) with hj | hj
  . exact hj
  . have ho':occ E j (lkh j σ.hp) b:=ho
    rw [hS.hs.kn j hj] at ho';exact ho'.elim⟩
 have hlist:=Zcm (P:=P) (C:=C2) (Y:=Y0) UU (ops:=os) (Q:=Exit.then (wpX none P y0 Q) Q) (K:=ZbI (fxS (fun σ' K=>sx P Y0 σ.n c σ' K) (rcK σ k))) (fun e σ' hk' E' a' w' hs0=>by
  have hs:=Xg hs0
  cases e with
  | n =>
   have hwp:=YG c C2 Y0 σ.n y0 (Vp σ') (rcK σ k) Q E' a' w' hmc UU (.inl rfl) f6 hk' hKQ hs
   exact hwp
  | ret=>exact hKQ .ret _ hk' E' a' w' hs
  | ex i=>exact hk'.elim
  | pan s=>exact hk'.elim) l _ f5 _ E _ w hrun h1
 refine Zi3 (u':=u') (v:=v) f1 f2 f3 f4 hu (Q:=Q) (by rw [f7];exact hlist) (fun e a2 w2 hq=>⟨hq.1,?_⟩)
 obtain ⟨_,σ',E',hk',hs'⟩:=hq
 obtain ⟨ms,d1,d2,d3⟩:=hs'.df
 refine ⟨ms,by rw [d1];simp [C2],d2.1,fun m hm'=>(d3 m hm').2.2,fun w3 hu3=>?_⟩
 refine ⟨.tuple #[],by simp [results,f9],?_⟩
 have hs3:=X6 hs' d3 hu3
 have hout:=ZdK hS hs3 rfl rfl rfl rfl rfl hm
 obtain ⟨g1,g2⟩:=Zec (C:=C) hout.hs rfl rfl rfl rfl rfl
 have hpin:∀ j,j < σ.n->j < σ'.n/\Ele E E' j j:=fun j hj=>hs3.hs.pin j hj
 refine hk σ'.hp σ'.n E' w3 hk' (Ys hS (fun b hb hsome=>?_) (fun j hj=>(hpin j hj).2) ?_ g1)
 . obtain ⟨b1,b2⟩:=hb
   have hlt:b < w.heap.size:=by
    rcases Nat.lt_or_ge b w.heap.size with q | q
    . exact q
    . rw [Array.getElem?_eq_none q] at hsome;cases hsome
   refine ⟨⟨b1,fun j ho=>?_⟩,?_⟩
   . rcases hs3.hs.lo j b ho with q | q
     . exact absurd hlt (Nat.not_lt.2 q)
     . exact b2 j q
   . exact hs3.hs.kp.block b hlt (fun j q=>b2 j q)
 . rcases Nat.lt_or_ge σ'.n σ.n with q | q
   . exact absurd (hpin σ'.n q).1 (Nat.lt_irrefl _)
   . exact q
theorem Zam {fn:Func} {R':Ending->World->Prop}:∀ (b:FB) (C:Cx) (m:Nat) (code:Code) (σ : St) (K:Ex->St->Prop) (E:Env) (a:Act) (w:World),MC C m->C.rd=none->ZaH P b code=true->fx P m b σ K->Sim C E σ a w ->
 (∀ e σ',K e σ'->∀ (C':Cx) E' a' w',C'.w0=C.w0->C'.okp=C.okp->C'.pass=C.pass->C'.e0=C.e0->C'.m0=C.m0->Sim C' E' σ' a' w'->match e with
  | .n | .ret=>Lv P fn a'.tmps R' C.ds .returning w'
  | .ex _=>False
  | .pan s=>∀ y,R w' E' (ltn σ'.n) (okS C' E' σ'.hp) s y->Lv P fn a'.tmps R' C.ds (.panicking [{ v:=y,recovered:=false }]) w') ->
 wpX none P code (Yy P fn R') a w
 | .tail c,C,m,code,σ,K,E,a,w,hm,hrd,hc,h,hS,hK=>by
  have hwp:=YG c C Y0 m code σ K (Yy P fn R') E a w hm UU (.inl hrd) hc h (fun e σ' hk E' a' w' hs=>Ud hK e σ' hk E' a' w' hs) hS
  rw [hrd] at hwp;exact hwp
 | .seq x b,C,m,code,σ,K,E,a,w,hm,hrd,hc,h,hS,hK=>by
  cases code<;>simp [ZaH] at hc
  rename_i cx cy
  refine Zci ?_
  have hwp:=YG x C Y0 m cx σ (fxS (fx P m b) K) (Exit.then (wpX none P cy (Yy P fn R')) (Yy P fn R')) E a w hm UU (.inl hrd) hc.1 h (fun e σ' hk E' a' w' hs=>?_) hS
  . rw [hrd] at hwp;exact hwp
  cases e with
  | n=>exact Zam b C m cy σ' K E' a' w' hm hrd hc.2 hk hs hK
  | ex i=>exact hk.elim
  | ret=>exact Ud hK .ret σ' hk E' a' w' hs
  | pan s=>exact Ud hK (.pan s) σ' hk E' a' w' hs
 | .dfr ops mx kx t b,C,m,code,σ,K,E,a,w,hm,hrd,hc,h,hS,hK=>by
  unfold ZaH at hc
  split at hc
  case h_2=>cases hc
  rename_i id os cy
  simp only [Bool.and_eq_true] at hc
  obtain ⟨⟨hc1,hc2⟩,hc3⟩:=hc
  split at hc2
  case h_2=>cases hc2
  rename_i o ho
  have hos:os.toList=os.toList.take ops.length ++ [o]:=by rw [<- ho,List.take_append_drop]
  refine Zci (XR ?_)
  rw [hos,<- hrd]
  refine Zhj (C:=C) (Q:=Exit.then (wpX C.rd P cy (Yy P fn R')) (Yy P fn R')) (os2:=[o]) UU (K:=ZbI (fxS (fun σ K=>Zx1 P t (fun n=>fx P n b) (mpO (rdG none σ.fr mx)) (vO (rdG none σ.fr kx)) σ K) K)) (fun σ0 E1 a1 w1 hk0 hs0=>?_)
   (fun s σ' E' a' w' y hk hs hy=>Ud hK (.pan s) (Vp σ') hk E' a' w' (Xg hs) y (by rw [ZdL,Zcn];exact hy)) ops _ hc1 σ E a w h hS
  have hs:=Xg hs0
  simp only [ZbI,fxS] at hk0
  generalize Vp σ0 = σ1 at hs hk0
  obtain ⟨ms,d1,d2,d3⟩:=hs.df
  unfold Zx1 at hk0
  split at hk0
  case h_2=>exact hk0.elim
  rename_i km kv hkm hkv
  obtain ⟨hlt,hfx⟩:=hk0
  have hlt:=Nat.le_of_ble_eq_true hlt
  have hmv:a1.tmps=a1.tmps/\evX a1 mx = .map (some (E1.β km)):=by
   have hR:=YJ hs.fr (g:=none) trivial mx
   cases hq:rdG none σ1.fr mx<;>rw [hq] at hkm<;>simp only [mpO,Option.some.injEq,reduceCtorEq] at hkm
   subst hkm
   rw [hq] at hR;simp only [R] at hR
   exact ⟨rfl,hR.2⟩
  have hkv':evX a1 kx=kv:=by
   have hR:=YJ hs.fr (g:=none) trivial kx
   cases hq:rdG none σ1.fr kx<;>rw [hq] at hkv<;>simp only [vO,Option.some.injEq,reduceCtorEq] at hkv
   subst hkv
   rw [hq] at hR;simp only [R] at hR
   exact hR
  have hmn:C.m0<=σ1.n:=by
   rcases Nat.lt_or_ge σ1.n C.m0 with q | q
   . exact absurd (hs.hs.pin σ1.n q).1 (Nat.lt_irrefl _)
   . exact q
  unfold ZyY at hc2
  split at hc2
  case h_2=>cases hc2
  rename_i c hop hdst hgd
  simp only [Bool.and_eq_true] at hc2
  obtain ⟨⟨e1,e2⟩,e3⟩:=hc2
  split at e1
  case h_2=>cases e1
  rename_i hcal
  split at e2
  case h_2=>cases e2
  rename_i om ok hargs
  simp only [Bool.and_eq_true] at e2
  split at e3
  case h_2=>cases e3
  rename_i u hu
  have hut:u=t:=by simpa using e3
  subst hut
  have hca:c.args = #[om,ok]:=by apply Array.toList_inj.1;rw [hargs]
  rw [hrd]
  simp only [V0,Region.wanted,hgd]
  simp only [if_true]
  have hrun:(o.semAt none a1.eval).run P w1 = .ok (.defer { target:=.builtin .delete c.argTypes o.type (c.args.map fun | .const _=>true | _=>false),args:=#[.map (some (E1.β km)),kv] }) w1:=by
   rw [Oper.semAt_none]
   obtain ⟨dst',op',ty',pos,after,guard⟩:=o
   simp only at hop;subst hop
   simp only [execOp,Sem.run_bind,resolve,hcal,Sem.run_pure,Result.andThen_ok,hca]
   simp only [List.map_toArray,List.map_cons,List.map_nil,Zi e2.1 a1,Zi e2.2 a1,hmv.2,hkv']
   cases om<;>cases ok<;>rfl
  show o.wpq none P a1 w1 _ _
  unfold Oper.wpq
  rw [hrun]
  simp only [Oper.uponX,hdst]
  show Exit.then _ _ .normal _ w1
  simp only [Exit.then]
  show wpX none P cy (Yy P fn R') { a1 with defers:=_ :: a1.defers } w1
  refine Zam b _ σ1.n cy σ1 (dK P u km kv K) E1 _ w1 ⟨Nat.le_refl _,fun k b ho=>?_⟩ rfl hc3 hfx (ZjJ hs _) (fun e σ' hk C2 E' a' w' c1 c2 c3 c4 c5 hs'=>?_)
  . rcases Classical.em (ltn σ1.n k) with hk | hk
    . exact hk
    . have ho':occ E1 k (lkh k σ1.hp) b:=ho
      rw [hs.hs.kn k hk] at ho';exact ho'.elim
  have main:∀ (hb':HB),Zxh P u kv (lkh km σ'.hp) hb'->(∀ (C':Cx) E' a' w',C'.w0=C.w0->C'.okp=C.okp->C'.pass=C.pass->C'.e0=C.e0->C'.m0=C.m0->Sim C' E' ⟨σ'.fr,(km,hb') :: σ'.hp,σ'.n,σ'.N,σ'.gs⟩ a' w'->Lv P fn a'.tmps R' C.ds .returning w') ->
   Lv P fn a'.tmps R' ({ target:=.builtin .delete c.argTypes o.type (c.args.map fun | .const _=>true | _=>false),args:=#[.map (some (E1.β km)),kv] } :: a1.defers) .returning w':=fun hb' hdel hKK=>by
   obtain ⟨x,w2,hrun2,hs2,_⟩:=Zun hs' (ty:=o.type) (cc:=c.args.map fun | .const _=>true | _=>false) hu hdel
   have hβ : E'.β km=E1.β km:=by
    have:=(hs'.hs.pin km (by rw [c5];exact hlt)).2.1
    rw [c4] at this;exact this
   rw [hβ] at hrun2
   refine ⟨by simp,.inr (.inl ⟨.delete,c.argTypes,o.type,_,w2,x,rfl,hrun2,?_⟩)⟩
   rw [d1]
   have hsim:=ZdK hs hs2 c1 c2 c3 c4 c5 hmn
   have hmark:∀ m ∈ ms,C.w0.heap.size<=m/\okS C E' ((km,hb') :: σ'.hp) m/\w2.heap[m]? = some (.deferred (some [])):=fun m hm=>by
    obtain ⟨p1,p2,p3⟩:=d3 m hm
    have hlt':m < w1.heap.size:=(Array.getElem?_eq_some_iff.1 p3).1
    have hnp:∀ k,¬ C2.pass k m:=fun k hk=>by rw [c3] at hk;exact p2.2 k hk
    refine ⟨p1,⟨p2.1,fun k ho=>?_⟩,?_⟩
    . rcases hs2.hs.lo k m ho with g | g
      . rw [c1] at g;exact absurd hlt' (Nat.not_lt.2 g)
      . exact hnp k g
    . have:=hs2.hs.kp.block m (by rw [c1];exact hlt') hnp
      rw [c1] at this;rw [this];exact p3
   refine XE ms _ _ (by simp) d2.1 (fun m hm=>(hmark m hm).2.2) fun w3 hu3=>?_
   exact hKK { C with ds:=a'.defers } E' a' w3 rfl rfl rfl rfl rfl (X6 (C:={ C with ds:=a'.defers }) hsim hmark hu3)
  cases e with
  | ex i=>exact hk.elim
  | pan s=>exact hk.elim
  | n =>
   obtain ⟨hb',h1,h2⟩:=hk
   exact main hb' h1 (fun C' E' a' w' q1 q2 q3 q4 q5 q6=>hK .n _ h2 C' E' a' w' q1 q2 q3 q4 q5 q6)
  | ret =>
   obtain ⟨hb',h1,h2⟩:=hk
   exact main hb' h1 (fun C' E' a' w' q1 q2 q3 q4 q5 q6=>hK .ret _ h2 C' E' a' w' q1 q2 q3 q4 q5 q6)
 | .rcv ops cx b,C,m,code,σ,K,E,a,w,hm,hrd,hc,h,hS,hK=>by
  unfold ZaH at hc
  split at hc
  case h_2=>cases hc
  rename_i id os cy
  simp only [Bool.and_eq_true] at hc
  obtain ⟨⟨hc1,hc2⟩,hc3⟩:=hc
  split at hc2
  case h_2=>cases hc2
  rename_i o ho
  have hos:os.toList=os.toList.take ops.length ++ [o]:=by rw [<- ho,List.take_append_drop]
  refine Zci (XR ?_)
  rw [hos,<- hrd]
  refine Zhj (C:=C) (Q:=Exit.then (wpX C.rd P cy (Yy P fn R')) (Yy P fn R')) (os2:=[o]) UU (K:=ZbI (fxS (fun σ K=>ZyQ P (fun n=>fx P n b) (rK P K) (rdG none σ.fr cx) σ) K)) (fun σ0 E1 a1 w1 hk0 hs0=>?_)
   (fun s σ' E' a' w' y hk hs hy=>Ud hK (.pan s) (Vp σ') hk E' a' w' (Xg hs) y (by rw [ZdL,Zcn];exact hy)) ops _ hc1 σ E a w h hS
  have hs:=Xg hs0
  simp only [ZbI,fxS] at hk0
  generalize Vp σ0 = σ1 at hs hk0
  obtain ⟨ms,d1,d2,d3⟩:=hs.df
  unfold ZyQ at hk0
  split at hk0
  case h_2=>exact hk0.elim
  rename_i g caps hcl
  have hRx:=YJ hs.fr (g:=none) trivial cx
  rw [hcl] at hRx
  simp only [R] at hRx
  obtain ⟨cs,k1,k2⟩:=hRx
  have hmn:C.m0<=σ1.n:=by
   rcases Nat.lt_or_ge σ1.n C.m0 with q | q
   . exact absurd (hs.hs.pin σ1.n q).1 (Nat.lt_irrefl _)
   . exact q
  unfold Zrk at hc2
  split at hc2
  case h_2=>cases hc2
  rename_i cc hop hdst hgd
  simp only [Bool.and_eq_true] at hc2
  obtain ⟨e1,e2⟩:=hc2
  split at e1
  case h_2=>cases e1
  rename_i y hcal
  have hca:cc.args = #[]:=by simpa using e2
  rw [hrd]
  simp only [V0,Region.wanted,hgd]
  simp only [if_true]
  have hrun:(o.semAt none a1.eval).run P w1 = .ok (.defer { target:=.fn (.func g) cs,args:=#[] }) w1:=by
   rw [Oper.semAt_none]
   obtain ⟨dst',op',ty',pos,after,guard⟩:=o
   simp only at hop;subst hop
   simp [execOp,resolve,hcal,hca,Zi e1 a1,k1,Deferred.ofValue,Sem.run_bind,Sem.run_pure]
  show o.wpq none P a1 w1 _ _
  unfold Oper.wpq
  rw [hrun]
  simp only [Oper.uponX,hdst]
  show Exit.then _ _ .normal _ w1
  simp only [Exit.then]
  show wpX none P cy (Yy P fn R') { a1 with defers:=_ :: a1.defers } w1
  refine Zam b _ σ1.n cy σ1 (rK P K g caps) E1 _ w1 ⟨Nat.le_refl _,fun k b ho=>?_⟩ rfl hc3 hk0 (ZjJ hs _) (fun e σ' hk C2 E' a' w' c1 c2 c3 c4 c5 hs'=>?_)
  . rcases Classical.em (ltn σ1.n k) with hk | hk
    . exact hk
    . have ho':occ E1 k (lkh k σ1.hp) b:=ho
      rw [hs.hs.kn k hk] at ho';exact ho'.elim
  have hpin:∀ j,j < σ1.n->j < σ'.n/\Ele E1 E' j j:=fun j hj=>by
   have:=hs'.hs.pin j (by rw [c5];exact hj)
   rw [c4] at this;exact this
  have hstC:YS w1 w' (okS C E1 σ1.hp) (okS C2 E' σ'.hp):=fun b hb q=>by
   have hlt:b < w1.heap.size:=by rcases q with ⟨cells,T,fz,hcell⟩ | ⟨es,c,hcell⟩<;>exact (Array.getElem?_eq_some_iff.1 hcell).1
   refine ⟨⟨.inl (by rw [c2];exact hb),fun j ho=>?_⟩,?_⟩
   . rcases hs'.hs.lo j b ho with q | q
     . rw [c1] at q;exact absurd hlt (Nat.not_lt.2 q)
     . rw [c3] at q;exact hb.2 j q
   . have:=hs'.hs.kp.block b (by rw [c1];exact hlt) (fun j q=>by rw [c3] at q;exact hb.2 j q)
     rw [c1] at this;exact this
  have hcaps:RL w' E' (ltn σ'.n) (okS C2 E' σ'.hp) caps cs.toList:=ZE hstC (fun j hj=>(hpin j hj).2) (fun j hj=>(hpin j hj).1) _ _ k2
  have fin:∀ (kk:St->Prop) (eK:Ex) (heK:eK = .n\/eK = .ret),(∀ σ,kk σ->K eK σ)->∀ hp' n' E3 w3,kk ⟨σ'.fr,hp',n',σ'.N,σ'.gs⟩->Sim C2 E3 ⟨σ'.fr,hp',n',σ'.N,σ'.gs⟩ a' w3->Lv P fn a'.tmps R' a1.defers .returning w3:=fun kk eK heK hkk hp' n' E3 w3 hq hs2=>by
   rw [d1]
   have hsim:=ZdK hs hs2 c1 c2 c3 c4 c5 hmn
   have hmark:∀ m ∈ ms,C.w0.heap.size<=m/\okS C E3 hp' m/\w3.heap[m]? = some (.deferred (some [])):=fun m hm=>by
    obtain ⟨p1,p2,p3⟩:=d3 m hm
    have hlt':m < w1.heap.size:=(Array.getElem?_eq_some_iff.1 p3).1
    have hnp:∀ k,¬ C2.pass k m:=fun k hk=>by rw [c3] at hk;exact p2.2 k hk
    refine ⟨p1,⟨p2.1,fun k ho=>?_⟩,?_⟩
    . rcases hs2.hs.lo k m ho with g | g
      . rw [c1] at g;exact absurd hlt' (Nat.not_lt.2 g)
      . exact hnp k g
    . have:=hs2.hs.kp.block m (by rw [c1];exact hlt') hnp
      rw [c1] at this;rw [this];exact p3
   refine XE ms _ _ (by simp) d2.1 (fun m hm=>(hmark m hm).2.2) fun w4 hu4=>?_
   rcases heK with rfl | rfl
   . exact hK .n _ (hkk _ hq) { C with ds:=a'.defers } E3 a' w4 rfl rfl rfl rfl rfl (X6 (C:={ C with ds:=a'.defers }) hsim hmark hu4)
   . exact hK .ret _ (hkk _ hq) { C with ds:=a'.defers } E3 a' w4 rfl rfl rfl rfl rfl (X6 (C:={ C with ds:=a'.defers }) hsim hmark hu4)
  have hm2:C2.m0<=σ'.n:=by
   rw [c5]
   rcases Nat.lt_or_ge σ'.n σ1.n with q | q
   . exact absurd (hpin σ'.n q).1 (Nat.lt_irrefl _)
   . exact q
  have main:∀ (s:SV) (v:Value) (u u':FrameMode) (eK:Ex),(eK = .n\/eK = .ret)->R w' E' (ltn σ'.n) (okS C2 E' σ'.hp) s v->ZAk v u u'->(∃ t l c N,RcF P g t l c N/\rcR P t l c N caps s σ' (K eK)) ->
   Lv P fn a'.tmps R' ({ target:=.fn (.func g) cs,args:=#[] } :: a1.defers) u w':=fun s v u u' eK heK hv hu hex=>by
   obtain ⟨t,l,c,N,hF,hrun⟩:=hex
   have hset:u≠.run/\settle u' = .returning:=by
    rcases hu with ⟨rfl,rfl,rfl⟩ | ⟨rfl,rfl⟩
    . exact ⟨by simp,rfl⟩
    . exact ⟨by simp,rfl⟩
   refine ⟨hset.1,.inr (.inr ⟨.func g,cs,g,cs,rfl,by simp [invoke,Y5 hF.bd],?_⟩)⟩
   have hcalls:=ZzX hF hs' hm2 hcaps hv hrun hu (R':=fun e u'' w''=>match e with
    | .returned _=>Lv P fn a'.tmps R' a1.defers (settle u'') w''
    | .panicked chain=>Lv P fn a'.tmps R' a1.defers (raised u'' chain) w''
    | .outgrown=>R' .outgrown w'') (fun hp' n' E3 w3 hq hs3=>by
    show Lv P fn a'.tmps R' a1.defers (settle u') w3
    rw [hset.2]
    exact fin (K eK) eK heK (fun _ h=>h) hp' n' E3 w3 hq hs3)
   rw [show cs.toList.toArray=cs from rfl] at hcalls
   intro c₀ cs0 hc0
   obtain ⟨e2,u2,w2,fr2,q1,q2,q3,q4⟩:=hcalls c₀ cs0 hc0
   refine ⟨e2,u2,w2,fr2,?_,q2,q3,q4⟩
   cases e2<;>exact q1
  cases e with
  | ex i=>exact hk.elim
  | n=>exact main _ _ _ _ .n (.inl rfl) (by simp only [R]) (.inl ⟨rfl,rfl,rfl⟩) hk
  | ret=>exact main _ _ _ _ .ret (.inr rfl) (by simp only [R]) (.inl ⟨rfl,rfl,rfl⟩) hk
  | pan s=>intro y hy;exact main s y _ _ .ret (.inr rfl) hy (.inr ⟨rfl,rfl⟩) hk
theorem ZdZ {f:FuncId} {fn:Func} {code:Code} {fb:FB} {args:List SV} {N n0 m:Nat} {hp0:List (Nat × HB)} {C:Cx} {E:Env} {w:World} {vs:List Value} {K:Ex->St->Prop} {R':Ending->World->Prop}
 (hf:P.funcs[f]? = some fn) (hb:fn.body=some code) (hc:ZaH P fb code=true) (hN:fn.ntmps=N) (hA:args.length<=N) (hds:C.ds=[]) (hrd:C.rd=none) (hm:MC C m)
 (hH:HSim C E hp0 (ltn n0) w) (hR:RL w E (ltn n0) (okS C E hp0) args vs) (h:fx P m fb ⟨Y3 0 args,hp0,n0,N,[]⟩ K)
 (hK:∀ e σ,K e σ->∀ C' E a w',C'.w0=C.w0->C'.okp=C.okp->C'.pass=C.pass->C'.e0=C.e0->C'.m0=C.m0->Sim C' E σ a w'->match e with
  | .n | .ret=>∃ v,(results fn a.tmps).run P w' = .ok v w'/\R' (.returned v) w'
  | .ex _=>False
  | .pan s=>∀ y,R w' E (ltn σ.n) (okS C' E σ.hp) s y->R' (.panicked [{ v:=y,recovered:=false }]) w'):Calls P f vs.toArray w R':=by
 have hlen:=ZD hR
 have hng:∀ t j b s,lk t (Y3 0 args)≠.gd j b s:=by
  intro t j b s ht
  simp only [VC,Nat.zero_le,if_true,Nat.sub_zero] at ht
  by_cases htl:t < args.length
  . have e1:args.getD t .any=args[t]:=by simp [htl]
    obtain ⟨y,h1,h2⟩:=W4 hR (List.getElem?_eq_getElem htl)
    rw [e1] at ht;rw [ht] at h2;simp only [R] at h2
  . have e1:args.getD t .any = .any:=by simp [List.getElem?_eq_none (Nat.le_of_not_lt htl)]
    rw [e1] at ht;cases ht
 have hS:Sim C E ⟨Y3 0 args,hp0,n0,N,[]⟩ { tmps:=vs.toArray ++ Array.replicate (fn.ntmps - vs.toArray.size) undef,defers:=[] } w:=by
  refine ⟨fun t=>?_,by simp [hN];omega,by rw [<- hds];exact UK,fun t j b s ht=>absurd ht (hng t j b s),hH⟩
  have hng:=hng t
  have hFR:R w E (ltn n0) (okS C E hp0) (lk t (Y3 0 args)) ((vs.toArray ++ Array.replicate (fn.ntmps - vs.toArray.size) undef).getD t undef):=by
   simp only [VC,Nat.zero_le,if_true,Nat.sub_zero]
   by_cases ht:t < args.length
   . have e1:args.getD t .any=args[t]:=by simp [ht]
     obtain ⟨y,h1,h2⟩:=W4 hR (List.getElem?_eq_getElem ht)
     have e2:(vs.toArray ++ Array.replicate (fn.ntmps - vs.toArray.size) undef).getD t undef=y:=by
      have:t < vs.length:=by omega
      have h1':=(List.getElem?_eq_some_iff.1 h1).2
      simp [Array.getElem?_append,this,h1']
     rw [e1,e2];exact h2
   . have e1:args.getD t .any = .any:=by simp [List.getElem?_eq_none (Nat.le_of_not_lt ht)]
     rw [e1];simp only [R]
  simp only
  cases hq:lk t (Y3 0 args)<;>rw [hq] at hFR hng<;>first | exact hFR | exact absurd rfl (hng _ _ _)
 refine Vu hf hb ?_
 refine Zam fb C m code _ K E _ w hm hrd hc h hS (fun e σ hk C' E a w' c1 c2 c3 c4 c5 hs=>?_)
 have key:=hK e σ hk C' E a w' c1 c2 c3 c4 c5 hs
 rw [hds]
 cases e with
 | ex i=>exact key
 | n=>exact key
 | ret=>exact key
 | pan s=>exact key
theorem ZfZ {f:FuncId} {fn:Func} {code:Code} {fb:FB} {args:List SV} {rs:List RV} {N n0:Nat} {hp0:List (Nat × HB)} {ZA:Ot->Prop} (hf:P.funcs[f]? = some fn) (hb:fn.body=some code) (hc:ZaH P fb code=true)
 (hr:Xb P rs fn.results.toList=true) (hN:fn.ntmps=N) (hA:args.length<=N) (h:fx P n0 fb ⟨Y3 0 args,hp0,n0,N,[]⟩ (Wt rs ZA)):CtY P Y0 f hp0 n0 args ZA:=by
 intro C E w vs d1 d2 d3 d4 d5 d6 hY hH hR
 refine ZdZ hf hb hc hN hA d3 d2 ⟨Nat.le_of_eq d5,d6⟩ hH hR h fun e σ hk C' E' a w' c1 c2 c3 c4 c5 hs=>?_
 obtain ⟨g1,g2⟩:=Zec hs.hs c1 c2 c3 c4 c5
 have hend:ZrK ZA σ.hp σ.n (rvE (ZdJ σ rs))->∃ v,(results fn a.tmps).run P w' = .ok v w'/\∃ o E' y,ZA o/\HSim C E' o.hp (ltn o.n) w'/\R w' E' (ltn o.n) (okS C E' o.hp) o.res y/\Ending.returned v=Zuz o.pn y:=fun hrr=>by
  cases hq:rvE (ZdJ σ rs) with
  | none=>rw [hq] at hrr;exact hrr.elim
  | some s =>
   rw [hq] at hrr
   obtain ⟨v,h1,h2⟩:=V3 (P:=P) (fn:=fn) (a:=a) (w:=w') (E:=E') (n:=ltn σ.n) (ok:=okS C' E' σ.hp) hq fun l hl=>ZdM hs rs _ l hr hl
   rw [g2] at h2
   exact ⟨v,h1,_,E',v,hrr,g1,h2,rfl⟩
 cases e with
 | ex i=>exact hk.elim
 | n=>exact hend hk
 | ret=>exact hend hk
 | pan s=>intro y hy;rw [g2] at hy;exact ⟨_,E',y,hk,g1,hy,rfl⟩
theorem ZgG {f:FuncId} {fn:Func} {code:Code} {fb:FB} {args:List SV} {rs:List RV} {N n0:Nat} {hp0:List (Nat × HB)} {ZA:Ot->Prop} (hf:P.funcs[f]? = some fn) (hb:fn.body=some code) (hnm:Yc P f=true) (hc:ZaH P fb code=true)
 (hr:Xb P rs fn.results.toList=true) (hN:fn.ntmps=N) (hA:args.length<=N) (hh:hpb n0 hp0) (hx:∀ o,ZA o->KX o.res/\KXP o.hp) (h:fx P n0 fb ⟨Y3 0 args,hp0,n0,N,[]⟩ (Wt rs fun o=>∃ o',ZA o'/\WR n0 o o')):CtM P f hp0 n0 args ZA :=
 ⟨hnm,hh,hx,(ZfZ hf hb hc hr hN hA h).mono fun _ h=>h⟩
end
end Go.Sx
namespace Go.Proofs.Ythilckbkffjliaa
open Go Go.Sx
def c73:FB:=(.seq (.reg [
 o1 4 (.box (.t 1) 0 50),
 o1 6 (.alloc [.int .u8 0] 5)])
 (.rcv [
 o1 7 (.mkf 106 [.t 6])] (.t 7)
 (.tail (.seq (.reg [
 m1 8 2,
 m1 9 0,
 o1 10 (.ld (.t 4) 8 true),
 o1 11 (.calvm (.t 8) [.t 9,.t 10])])
 (.seq (.reg [
 ⟨none,.st (.t 6) (.c (.int .u8 0)) 1,none,[]⟩])
 .ret)))))
def r73:List RV:=[.cell 6 1 false]
theorem n73:Try.f73.ntmps=12:=by kernel_rfl
theorem b73:Yc Try.prog 73=true:=by kernel_rfl
theorem Zzg:ZaH Try.prog c73 ((Try.f73.body).getD .skip)=true:=by kernel_rfl
theorem Zz8:Xb Try.prog r73 Try.f73.results.toList=true:=by kernel_rfl
theorem m73 {n0:Nat} {hp0:List (Nat × HB)} {args:List SV} {ZA:Ot->Prop} (hh:hpb n0 hp0) (hx:∀ o,ZA o->KX o.res/\KXP o.hp) (h:fx Try.prog n0 c73 ⟨Y3 0 args,hp0,n0,12,[]⟩ (Wt r73 fun o=>∃ o',ZA o'/\WR n0 o o')) (hA:Nat.ble args.length 12=true:=by rfl):CtM Try.prog 73 hp0 n0 args ZA:=ZgG Try.func73 rfl b73 Zzg Zz8 n73 (Nat.le_of_ble_eq_true hA) hh hx h
def l106:List Ins:=[
]
def k106:SC:=(.block 0 (sr1 [
 o1 6 (.raw (Go.Op.binOp Go.BinOp.eql 20 (Go.Operand.tmp 4) (Go.Operand.const Go.Value.nilIface) 20) 4)]
 (.cond (.t 6)
 (.reg [
  m1 1 4])
 (sr1 [
  o1 7 (.raw (Go.Op.typeAssert (Go.Operand.tmp 4) 20 145 Bool.true) 0),
  o1 8 (.ext (.t 7) 1),
  o1 9 (.ext (.t 7) 0)]
  (.cond (.t 8)
  (sr1 [
   m1 2 9]
   (.reg [
   m1 10 2,
   ⟨none,.st (.t 0) (.t 10) 1,none,[]⟩]))
  (sr1 [
   m1 3 4]
   (.reg [
   m1 5 3,
   ⟨none,.raw (Go.Op.panic (Go.Operand.tmp 5)) 0,none,[]⟩])))))))
theorem q106:RcF Try.prog 106 4 l106 k106 11:=⟨⟨Try.f106,_,_,_,_,Try.func106,rfl,rfl,by kernel_rfl,by kernel_rfl,by kernel_rfl,by kernel_rfl,by decide,rfl⟩,by kernel_rfl⟩
open Go.Azalai
theorem u20:Try.prog.underlying 20=some (.interface (Try.prog.methodsAt 20)):=by kernel_rfl
def Zg9 (w:Int) (p:Pact) (b:Bks):Ot:=⟨false,U8 w,bH p b,6⟩
theorem XY {p:Pact} {b:Bks} {x:Letter} {f:FuncId} {Rl:Bks->Prop} (hf:CtM Try.prog f (bH p b) 6 [.p 5 0,.agg (Zb x)] (fun o=>∃ b',Rl b'/\o=Ym p b')) :
 CtM Try.prog 73 (bH p b) 6 [.p 5 0,.agg (Zb x),.cl f []] (fun o=>∃ b',Rl b'/\o=Zg9 0 p b'):=by
 refine m73 (by simp [hpb,bH]) (fun o ho=>by obtain ⟨b',-,rfl⟩:=ho;exact ⟨by simp [Zg9,KX],XT p b'⟩) ?_
 dsimp only [c73,r73,bH,Zb,go_sem,rA,rM,rS]
 refine Zv [0,1,2,3,4,5] hf rfl rfl rfl ?_ ?_ ?_
 . (repeat first | dsimp only [bH,go_sem,rA,rM,rS] | simp only [nbr])
   try simp [mtL,mtB,mtS,Zb]
 . (repeat first | dsimp only [bH,go_sem,rA,rM,rS] | simp only [nbr])
   try simp [Ze,Zp,ZC,Zl,Za,Zb,Zc,KFL,KF]
 rintro _ ⟨b',hb',rfl⟩
 (repeat first | dsimp only [Ym,bH,go_sem,rA,rM,rS] | simp only [nbr])
 refine ⟨_,_,_,_,q106,?_⟩
 dsimp only [l106,k106,go_sem,rA,rM,rS]
 refine ⟨rfl,?_⟩
 refine Zlf u20 rfl ?_
 dsimp only [go_sem,rA,rM,rS]
 refine ZU rfl ?_
 dsimp only [go_sem,rA,rM,rS]
 refine ⟨_,⟨b',hb',rfl⟩,?_⟩
 try simp only [Zg9,bH]
 (refine Zr ?_ ?_ ?_ rfl<;>dsimp only [Ze,Zp,ZC,Zl,Za,id,go_sem,rA,rM,rS]<;>simp [Ze,Zp,ZC,Zl,Za,Zc,Zf,KFR,KFL,KF,Zd,mtO,nbr])
theorem X0 {p:Pact} {b:Bks} {x:Letter} {f:FuncId} {w:Int} (hf:CtM Try.prog f (bH p b) 6 [.p 5 0,.agg (Zb x)] (fun o=>o=Yg w p b)) :
 CtM Try.prog 73 (bH p b) 6 [.p 5 0,.agg (Zb x),.cl f []] (fun o=>o=Zg9 w p b):=by
 refine m73 (by simp [hpb,bH]) (fun o ho=>by subst ho;exact ⟨by simp [Zg9,KX],XT p b⟩) ?_
 dsimp only [c73,r73,bH,Zb,go_sem,rA,rM,rS]
 refine Zv [0,1,2,3,4,5] hf rfl rfl rfl ?_ ?_ ?_
 . (repeat first | dsimp only [bH,go_sem,rA,rM,rS] | simp only [nbr])
   try simp [mtL,mtB,mtS,Zb]
 . (repeat first | dsimp only [bH,go_sem,rA,rM,rS] | simp only [nbr])
   try simp [Ze,Zp,ZC,Zl,Za,Zb,Zc,KFL,KF]
 rintro _ rfl
 (repeat first | dsimp only [Yg,bH,go_sem,rA,rM,rS] | simp only [nbr])
 refine ⟨_,_,_,_,q106,?_⟩
 dsimp only [l106,k106,go_sem,rA,rM,rS]
 refine ⟨rfl,?_⟩
 refine Zmt u20 rfl ?_
 dsimp only [go_sem,rA,rM,rS]
 refine ZH rfl ?_
 dsimp only [go_sem,rA,rM,rS]
 refine Zeb Zfa rfl ?_
 dsimp only [go_sem,rA,rM,rS]
 refine ZU rfl ?_
 dsimp only [go_sem,rA,rM,rS]
 refine ⟨_,rfl,?_⟩
 try simp only [Zg9,bH]
 (refine Zr ?_ ?_ ?_ rfl<;>dsimp only [Ze,Zp,ZC,Zl,Za,id,go_sem,rA,rM,rS]<;>simp [Ze,Zp,ZC,Zl,Za,Zc,Zf,KFR,KFL,KF,Zd,mtO,nbr])
def Wf (k:Int):FuncId:=if k=1 then 95 else if k=2 then 96 else if k=3 then 99 else if k=4 then 100 else if k=5 then 101 else if k=6 then 103 else if k=7 then 104 else 105
theorem Zrf {p:Pact} {n:Nat} {c:Co} {b:Bks} (h:BkR n c b) (hn:n<=1000) (hp:ZK p=true) (x:Letter) (hx:Zn p x=true) :
 CtM Try.prog 73 (bH p b) 6 [.p 5 0,.agg (Zb x),.cl (Wf x.kind) []] (fun o=>∃ b',BkR (n+1) (ZG p c x).1 b'/\o=Zg9 (ZG p c x).2 p b'):=by
 have hpp:(0<=p.hire/\p.hire<=1000)/\(0<=p.calf/\p.calf<=1000):=by
  simp only [ZK,Bool.and_eq_true,inR,decide_eq_true_eq] at hp
  omega
 have hv:∀ w,CtM Try.prog 73 (bH p b) 6 [.p 5 0,.agg (Zb x),.cl (Wf x.kind) []] (fun o=>o=Zg9 w p b)->ZG p c x=(c,w)->CtM Try.prog 73 (bH p b) 6 [.p 5 0,.agg (Zb x),.cl (Wf x.kind) []] (fun o=>∃ b',BkR (n+1) (ZG p c x).1 b'/\o=Zg9 (ZG p c x).2 p b'):=fun w hc he=>by
  rw [he]
  exact ⟨hc.bd,hc.hb,fun o ⟨b',_,ho⟩=>by subst ho;exact ⟨by simp [Zg9,KX],XT p b'⟩,fun C E w vs a1 a2 a3 a4 a5 a6 a7 a8 a9=>(hc.run C E w vs a1 a2 a3 a4 a5 a6 a7 a8 a9).mono fun e w' ⟨o,E',y,q1,q2⟩=>⟨o,E',y,⟨b,h.next,q1⟩,q2⟩⟩
 have hday:0<=x.day/\x.day<=100000:=by
  simp only [Zn,Bool.and_eq_true,inR,decide_eq_true_eq] at hx
  exact hx.1.2
 have hk:x.kind=1\/x.kind=2\/x.kind=3\/x.kind=4\/x.kind=5\/x.kind=6\/x.kind=7\/x.kind=8:=by
  apply Classical.byContradiction
  intro q
  simp only [not_or] at q
  simp [Zn,q] at hx
 rcases hk with hk | hk | hk | hk | hk | hk | hk | hk
 . have he:ZG p c x=({ c with result:=c.result+x.rials },0):=by simp [ZG,hk]
   have hr:inR 0 10000000 x.rials=true:=by
    simp only [Zn,hk,Bool.and_eq_true] at hx;simp at hx;exact hx.2.1
   rw [he,show Wf x.kind=95 from by simp [Wf,hk]]
   exact XY (Rl:=BkR (n+1) { c with result:=c.result+x.rials }) (ZuC h hn x hr)
 . have he:ZG p c x=({ c with result:=c.result - x.rials },0):=by simp [ZG,hk]
   have hr:inR 0 10000000 x.rials=true:=by
    simp only [Zn,hk,Bool.and_eq_true] at hx;simp at hx;exact hx.2.1
   rw [he,show Wf x.kind=96 from by simp [Wf,hk]]
   exact XY (Rl:=BkR (n+1) { c with result:=c.result - x.rials }) (Znr h hn x hr)
 . have hw:Wf x.kind=99:=by simp [Wf,hk]
   cases hl:c.loans x.animal with
   | some l =>
    refine hv 1 ?_ (by simp [ZG,hk,hl])
    rw [hw];exact X0 (ZjL h x hl)
   | none =>
    cases hd:c.dead x.animal with
    | true =>
     refine hv 2 ?_ (by simp [ZG,hk,hl,hd])
     rw [hw];exact X0 (ZiU h x hl hd)
    | false =>
     rw [show ZG p c x=({ c with loans:=upd c.loans x.animal (some (x.who,x.day)) },0) from by simp [ZG,hk,hl,hd],hw]
     exact XY (Rl:=BkR (n+1) { c with loans:=upd c.loans x.animal (some (x.who,x.day)) }) (Znu h x hday hl hd)
 . have hw:Wf x.kind=100:=by simp [Wf,hk]
   cases hl:c.loans x.animal with
   | none =>
    refine hv 3 ?_ (by simp [ZG,hk,hl])
    rw [hw];exact X0 (ZtU h x hl)
   | some l =>
    rw [show ZG p c x=(Yb p c x.animal x.day l,0) from by simp [ZG,hk,hl],hw]
    exact XY (Rl:=BkR (n+1) (Yb p c x.animal x.day l)) (ZoC h hn hpp.1 x hday hl)
 . have hw:Wf x.kind=101:=by simp [Wf,hk]
   cases hd:c.dead x.animal with
   | true =>
    refine hv 2 ?_ (by simp [ZG,hk,hd])
    rw [hw];exact X0 (Zk2 h x hd)
   | false =>
    cases hl:c.loans x.animal with
    | none =>
     refine hv 3 ?_ (by simp [ZG,hk,hl,hd])
     rw [hw];exact X0 (Zvn h x hd hl)
    | some l =>
     rw [show ZG p c x=({ Yb p c x.animal x.day l with dead:=upd c.dead x.animal true },0) from by simp [ZG,hk,hl,hd],hw]
     exact XY (Rl:=BkR (n+1) { Yb p c x.animal x.day l with dead:=upd c.dead x.animal true }) (ZnY h hn hpp.1 x hday hd hl)
 . have hw:Wf x.kind=103:=by simp [Wf,hk]
   have hr:0<=x.rials/\x.rials<=10000000:=by
    simp only [Zn,hk,Bool.and_eq_true] at hx;simp [inR] at hx;omega
   cases hd:c.known x.other with
   | true =>
    refine hv 4 ?_ (by simp [ZG,hk,hd])
    rw [hw];exact X0 (ZfP h x hd)
   | false =>
    cases hl:c.loans x.animal with
    | none =>
     refine hv 3 ?_ (by simp [ZG,hk,hl,hd])
     rw [hw];exact X0 (ZuS h x hd hl)
    | some l =>
     rw [show ZG p c x=({ c with extra:=upd c.extra l.1 (c.extra l.1+(x.rials * p.calf).tdiv 1000),result:=c.result+(x.rials - (x.rials * p.calf).tdiv 1000),known:=upd c.known x.other true },0) from by simp [ZG,hk,hl,hd],hw]
     exact XY (Rl:=BkR (n+1) { c with extra:=upd c.extra l.1 (c.extra l.1+(x.rials * p.calf).tdiv 1000),result:=c.result+(x.rials - (x.rials * p.calf).tdiv 1000),known:=upd c.known x.other true }) (Znf h hn hpp.2 x hr hd hl)
 . have hw:Wf x.kind=104:=by simp [Wf,hk]
   have hr:0<=x.rials/\x.rials<=10000000:=by
    simp only [Zn,hk,Bool.and_eq_true] at hx;simp [inR] at hx;omega
   rw [show ZG p c x=({ c with debts:=upd c.debts x.who (upd (c.debts x.who) x.other (c.debts x.who x.other+x.rials)) },0) from by simp [ZG,hk],hw]
   exact XY (Rl:=BkR (n+1) { c with debts:=upd c.debts x.who (upd (c.debts x.who) x.other (c.debts x.who x.other+x.rials)) }) (ZsC h hn x hr)
 . have hw:Wf x.kind=105:=by simp [Wf,hk]
   have hr:0<=x.rials/\x.rials<=10000000:=by
    simp only [Zn,hk,Bool.and_eq_true] at hx;simp [inR] at hx;omega
   by_cases hd:c.debts x.who x.other < x.rials
   . refine hv 5 ?_ (by simp [ZG,hk,hd])
     rw [hw];exact X0 (ZjC h x hd)
   . rw [show ZG p c x=({ c with debts:=upd c.debts x.who (upd (c.debts x.who) x.other (c.debts x.who x.other - x.rials)) },0) from by simp [ZG,hk,hd],hw]
     exact XY (Rl:=BkR (n+1) { c with debts:=upd c.debts x.who (upd (c.debts x.who) x.other (c.debts x.who x.other - x.rials)) }) (ZuB h hn x hr hd)
end Go.Proofs.Ythilckbkffjliaa
namespace Go.Azalai
theorem Zed {f:Nat->Int} {n:Nat}:ZB ((List.range (n+1)).map f)=ZB ((List.range n).map f)+f n:=by
 rw [List.range_succ,List.map_append,U3];simp [ZB]
theorem Xo {α : Type} {f g:α->Int} {l:List α} (h:∀ x ∈ l,f x=g x):ZB (l.map f)=ZB (l.map g):=by rw [List.map_congr_left h]
theorem ZdS {f g:Nat->Int} {a:Nat} (h:∀ i,i≠a->f i=g i):∀ {n:Nat},a < n->ZB ((List.range n).map f)=ZB ((List.range n).map g)+(f a - g a)
 | 0,q=>by omega
 | n+1,q=>by
  rw [Zed,Zed]
  by_cases e:a=n
  . subst e
    rw [Xo (g:=g) fun i hi=>h i (by have:=List.mem_range.1 hi;omega)];omega
  . rw [ZdS h (n:=n) (by omega),h n (fun q=>e q.symm)];omega
theorem V1 {p:Pact} {c:Co} {a d:Int} {l:Int × Int} (i:Nat):YC p (Yb p c a d l) i=if (i:Int)=a then 0 else YC p c i:=by
 simp only [YC,Yb,upd]
 by_cases h:(i:Int)=a
 . simp [h]
 . simp [h]
theorem UR {p:Pact} {c:Co} {a d who:Int} {l:Int × Int} (i:Nat):Xe p (Yb p c a d l) who i=if (i:Int)=a then 0 else Xe p c who i:=by
 simp only [Xe,Yb,upd]
 by_cases h:(i:Int)=a
 . simp [h]
 . simp [h]
theorem ZcH {p:Pact} {c:Co} {a:Int} {l:Int × Int} (hl:c.loans a=some l) (h0:0<=a) (h1:a<=9999):U0 p (Yb p c a p.ends l)=U0 p c:=by
 have e:((a.toNat:Nat):Int)=a:=by omega
 have h2:=ZdS (f:=YC p c) (g:=YC p (Yb p c a p.ends l)) (a:=a.toNat) (fun i hi=>by rw [V1,if_neg (by omega)]) (n:=10000) (by omega)
 rw [V1,if_pos e] at h2
 have h3:YC p c a.toNat=p.hire * (p.ends - l.2):=by simp only [YC,e,hl]
 rw [h3] at h2
 simp only [U0]
 rw [h2]
 simp only [Yb];omega
theorem ZcM {p:Pact} {c:Co} {a:Int} {l:Int × Int} (hl:c.loans a=some l) (h0:0<=a) (h1:a<=9999) (who:Int):Zbg p (Yb p c a p.ends l) who=Zbg p c who:=by
 have e:((a.toNat:Nat):Int)=a:=by omega
 have h2:=ZdS (f:=Xe p c who) (g:=Xe p (Yb p c a p.ends l) who) (a:=a.toNat) (fun i hi=>by rw [UR,if_neg (by omega)]) (n:=10000) (by omega)
 rw [UR,if_pos e] at h2
 have h3:Xe p c who a.toNat=if l.1=who then p.hire * (p.ends - l.2) else 0:=by simp only [Xe,e,hl]
 rw [h3] at h2
 simp only [Zbg]
 rw [h2]
 simp only [Yb,upd]
 by_cases q:who=l.1
 . rw [if_pos q,if_pos q.symm,q];omega
 . rw [if_neg q,if_neg fun h=>q h.symm];omega
structure EndI (p:Pact) (c0 c:Co):Prop where
 ok:CoOk p c
 er:U0 p c=U0 p c0
 ex:∀ w,Zbg p c w=Zbg p c0 w
 db:c.debts=c0.debts
theorem EndI.start {p:Pact} {c:Co} (h:CoOk p c):EndI p c c:=⟨h,rfl,fun _=>rfl,rfl⟩
theorem EndI.home {p:Pact} {c0 c:Co} (h:EndI p c0 c) {a:Int} {l:Int × Int} (hl:c.loans a=some l):EndI p c0 (Yb p c a p.ends l):=by
 have hb:=h.ok.inb a l hl
 exact ⟨h.ok.home,by rw [ZcH hl hb.1 hb.2,h.er],fun w=>by rw [ZcM hl hb.1 hb.2,h.ex],by simp only [Yb];exact h.db⟩
theorem Zdj {p:Pact} {c:Co} (h:∀ a,c.loans a=none):U0 p c=c.result:=by
 rw [U0,YO fun i _=>by simp only [YC,h]];omega
theorem ZdB {p:Pact} {c:Co} (h:∀ a,c.loans a=none) (w:Int):Zbg p c w=c.extra w:=by
 rw [Zbg,YO fun i _=>by simp only [Xe,h]];omega
theorem EndI.done {p:Pact} {c0 c:Co} (h:EndI p c0 c) (hn:∀ a,c.loans a=none):c.result=U0 p c0/\∀ w,c.extra w=Zbg p c0 w :=
 ⟨by rw [<- h.er,Zdj hn],fun w=>by rw [<- h.ex,ZdB hn]⟩
def Ze5 (p:Pact) (c:Co):Prop:=∀ w o,c.debts w o≠0->w ∈ ids p/\o ∈ ids p
theorem Ze5.co0 {p:Pact}:Ze5 p co0:=fun w o h=>absurd rfl h
theorem Ze5.step {p:Pact} {c:Co} (h:Ze5 p c) {x:Letter} (hx:Zn p x=true):Ze5 p (ZG p c x).1:=by
 intro w o hwo
 rw [ZhG.1,ZlV] at hwo
 have hk:x.kind=7\/x.kind=8->x.who ∈ ids p/\x.other ∈ ids p:=fun hk=>by
  simp only [Zn] at hx
  rcases hk with hk | hk<;>simp only [hk] at hx<;>simp [ZjV] at hx<;>exact ⟨hx.2.1.1.1.1,hx.2.1.1.1.2⟩
 have hu:∀ (v:Int),(x.kind=7\/x.kind=8)->upd c.debts x.who (upd (c.debts x.who) x.other v) w o≠0->w ∈ ids p/\o ∈ ids p:=fun v k hv=>by
  simp only [upd] at hv
  split at hv
  . rename_i e1
    simp only [upd] at hv
    split at hv
    . rename_i e2
      rw [e1,e2];exact hk k
    . rw [<- e1] at hv;exact h _ _ hv
  . exact h _ _ hv
 split at hwo
 . rename_i k;exact hu _ (.inl k) hwo
 split at hwo
 . rename_i k;exact hu _ (.inr k.1) hwo
 . exact h _ _ hwo
theorem Ze5.run {p:Pact}:∀ {l:List Letter} {c:Co},Ze5 p c->(∀ x ∈ l,Zn p x=true)->Ze5 p (WT p c l)
 | [],_,h,_=>h
 | x :: l,c,h,hl=>by
  show Ze5 p (WT p (ZG p c x).1 l)
  exact Ze5.run (h.step (hl x (by simp))) fun y hy=>hl y (by simp [hy])
theorem Zcu {α : Type} (f g:α->Int):∀ l:List α,ZB (l.map fun x=>f x - g x)=ZB (l.map f) - ZB (l.map g)
 | []=>rfl
 | x :: l=>by simp only [List.map_cons,ZB];rw [Zcu f g l];omega
def Xp (id:Int) (e:Nat × (Int × Int) × Int):Int:=(if e.2.1.2=id then e.2.2 else 0) - (if e.2.1.1=id then e.2.2 else 0)
theorem ZvK {L:List (Nat × (Int × Int) × Int)} {f:Int->Int->Int} (hn:(L.map (·.2.1)).Nodup) (h1:∀ e ∈ L,f e.2.1.1 e.2.1.2=e.2.2) (h2:∀ x y,(∀ e ∈ L,e.2.1≠(x,y))->f x y=0) (x y:Int) :
 f x y=ZB (L.map fun e=>if e.2.1=(x,y) then e.2.2 else 0):=by
 by_cases hx:∃ e ∈ L,e.2.1=(x,y)
 . obtain ⟨e,he,hk⟩:=hx
   have hf:f x y=e.2.2:=by rw [<- h1 e he,hk]
   rw [hf]
   clear h1 h2 hf
   induction L with
   | nil=>cases he
   | cons z l ih =>
    simp only [List.map_cons,List.nodup_cons] at hn
    simp only [List.map_cons,ZB]
    rcases List.mem_cons.1 he with rfl | he
    . rw [if_pos hk,YO fun e' he'=>if_neg fun q=>hn.1 (List.mem_map.2 ⟨e',he',by rw [q,hk]⟩)];omega
    . rw [if_neg fun q=>hn.1 (List.mem_map.2 ⟨e,he,by rw [q,hk]⟩),<- ih hn.2 he];omega
 . rw [h2 x y fun e he q=>hx ⟨e,he,q⟩,YO fun e he=>if_neg fun q=>hx ⟨e,he,q⟩]
theorem ZoG {p:Pact} {c:Co} {L:List (Nat × (Int × Int) × Int)} (hn:(L.map (·.2.1)).Nodup) (h1:∀ e ∈ L,c.debts e.2.1.1 e.2.1.2=e.2.2) (h2:∀ x y,(∀ e ∈ L,e.2.1≠(x,y))->c.debts x y=0)
 (hd:Ze5 p c) (hi:(ids p).Nodup) (id:Int):ZB (L.map (Xp id))=Wi p c id:=by
 have hks:=ZvK hn h1 h2
 have hsw:∀ (g:(Int × Int)->Int) (t:Int->Int × Int),(∀ e ∈ L,e.2.2≠0->g e.2.1 ∈ ids p)->(∀ y (k:Int × Int),k=t y->g k=y) ->
  ZB ((ids p).map fun y=>ZB (L.map fun e=>if e.2.1=t y then e.2.2 else 0))=ZB (L.map fun e=>if e.2.1=t (g e.2.1) then e.2.2 else 0):=fun g t hg ht=>by
  rw [VY]
  refine Xo fun e he=>?_
  by_cases h0:e.2.2=0
  . rw [h0];simp only [ite_self];exact YO fun _ _=>rfl
  by_cases hk:e.2.1=t (g e.2.1)
  . rw [if_pos hk]
    refine Eq.trans (Xo fun y hy=>?_) (ZeA (v:=e.2.2) hi (hg e he h0))
    by_cases q:g e.2.1=y
    . rw [if_pos q,if_pos (by rw [<- q];exact hk)]
    . rw [if_neg q,if_neg fun h=>q (ht y _ h)]
  . rw [if_neg hk,YO fun y _=>if_neg fun h=>hk (by rw [ht y _ h];exact h)]
 have hm:∀ e ∈ L,e.2.2≠0->e.2.1.1 ∈ ids p/\e.2.1.2 ∈ ids p:=fun e he h0=>hd _ _ (by rw [h1 e he];exact h0)
 have a1:ZB ((ids p).map fun y=>c.debts y id)=ZB (L.map fun e=>if e.2.1.2=id then e.2.2 else 0):=by
  rw [Xo (g:=fun y=>ZB (L.map fun e=>if e.2.1=(y,id) then e.2.2 else 0)) fun y _=>hks y id,hsw (fun k=>k.1) (fun y=>(y,id)) (fun e he h0=>(hm e he h0).1) (fun y k h=>by rw [h])]
  refine Xo fun e _=>?_
  by_cases q:e.2.1.2=id
  . rw [if_pos q,if_pos (by rw [<- q])]
  . rw [if_neg q,if_neg fun h=>q (by rw [h])]
 have a2:ZB ((ids p).map fun y=>c.debts id y)=ZB (L.map fun e=>if e.2.1.1=id then e.2.2 else 0):=by
  rw [Xo (g:=fun y=>ZB (L.map fun e=>if e.2.1=(id,y) then e.2.2 else 0)) fun y _=>hks id y,hsw (fun k=>k.2) (fun y=>(id,y)) (fun e he h0=>(hm e he h0).2) (fun y k h=>by rw [h])]
  refine Xo fun e _=>?_
  by_cases q:e.2.1.1=id
  . rw [if_pos q,if_pos (by rw [<- q])]
  . rw [if_neg q,if_neg fun h=>q (by rw [h])]
 rw [Wi,Zcu (fun y:Partner=>c.debts y.id id) (fun y=>c.debts id y.id)]
 rw [show p.partners.map (fun y=>c.debts y.id id)=(ids p).map fun y=>c.debts y id from by simp [ids],show p.partners.map (fun y=>c.debts id y.id)=(ids p).map fun y=>c.debts id y from by simp [ids],a1,a2,<- Zcu]
 rfl
def ZeW (c:Nat->Int) (i:Nat):Int:=i - 16 * c i
structure Stb (n i j:Nat) (l:List Nat):Prop where
 len:l.length=n
 at':l[j]? = some i
 lt:∀ p x,l[p]? = some x->p≠j->p<=i->x < i
 gt:∀ p,i < p->p < n->l[p]? = some p
structure Otb (n i:Nat) (l:List Nat):Prop where
 len:l.length=n
 lt:∀ p x,l[p]? = some x->p < i->x < i
 gt:∀ p,i<=p->p < n->l[p]? = some p
theorem Otb.start (n:Nat):Otb n 1 (List.range n):=by
 refine ⟨List.length_range,fun p x h hp=>?_,fun p h1 h2=>by simp [h2]⟩
 rw [List.getElem?_range (by have:=(List.getElem?_eq_some_iff.1 h).1;simpa using this)] at h
 cases h;exact hp
theorem Otb.into {n i:Nat} {l:List Nat} (h:Otb n i l) (hi:i < n):Stb n i i l:=⟨h.len,h.gt i (Nat.le_refl _) hi,fun p x hp h1 h2=>h.lt p x hp (by omega),fun p h1 h2=>h.gt p (by omega) h2⟩
theorem Stb.out {n i j:Nat} {l:List Nat} (h:Stb n i j l):Otb n (i+1) l:=by
 refine ⟨h.len,fun p x hp h1=>?_,fun p h1 h2=>h.gt p (by omega) h2⟩
 by_cases e:p=j
 . subst e;rw [h.at'] at hp;cases hp;omega
 . have:=h.lt p x hp e (by omega);omega
theorem Stb.step {n i j:Nat} {l:List Nat} (h:Stb n i j l) (hj:0 < j) (hji:j<=i) (hi:i < n):Stb n i (j - 1) (swp l j (j - 1)):=by
 have hl:=h.len
 have hg:=Zcb (l:=l) (i:=j) (j:=j - 1) (by omega) (by omega)
 refine ⟨by rw [Zjb,hl],?_,fun p x hp h1 h2=>?_,fun p h1 h2=>?_⟩
 . rw [hg,if_neg (by omega),if_pos rfl,h.at']
 . rw [hg] at hp
   by_cases e:p=j
   . rw [if_pos e] at hp;exact h.lt _ _ hp (by omega) (by omega)
   . rw [if_neg e,if_neg h1] at hp;exact h.lt _ _ hp e h2
 . rw [hg,if_neg (by omega),if_neg (by omega),h.gt p h1 h2]
theorem ZyR {c:Nat->Int} {i y:Nat} (hy:y < i) (hi:i < 16):ZeW c i < ZeW c y↔c y < c i:=by
 unfold ZeW;omega
theorem ZvD {c:Nat->Int} {n:Nat} {l:List Nat} (hn:n<=16) (hp:l.Perm (List.range n)) (hs:Srt (ZeW c) 0 n l):l.Pairwise fun a b=>Zaj c a b=true:=by
 have hl:l.length=n:=by rw [hp.length_eq,List.length_range]
 have hnd:l.Nodup:=hp.nodup_iff.2 List.nodup_range
 rw [List.pairwise_iff_getElem]
 intro i j hi hj hij
 have h1:=hs i j (Nat.zero_le _) hij (by omega)
 rw [Xx _ hi,Xx _ hj] at h1
 have h2:=List.pairwise_iff_getElem.1 (List.nodup_iff_pairwise_ne.1 hnd) i j hi hj hij
 have h3:=List.mem_range.1 (hp.mem_iff.1 (List.getElem_mem hi))
 have h4:=List.mem_range.1 (hp.mem_iff.1 (List.getElem_mem hj))
 generalize l[i]=a at *
 generalize l[j]=b at *
 simp only [Zaj,Bool.or_eq_true,Bool.and_eq_true,decide_eq_true_eq]
 simp only [ZeW] at h1
 omega
structure Dvd (amount:Int) (by':List Int):Prop where
 a0:0<=amount
 a1:amount<=90000000000
 n1:by'.length<=16
 b0:∀ x ∈ by',0<=x/\x<=100000000
 s0:0 < ZB by'
theorem Dvd.s1 {amount:Int} {by':List Int} (h:Dvd amount by'):ZB by'<=1600000000:=by
 have h1:=ZkT (l:=by') (b:=100000000) fun x hx=>(h.b0 x hx).2
 have h2:=h.n1
 omega
theorem Dvd.mul {amount x:Int} {by':List Int} (h:Dvd amount by') (hx:0<=x/\x<=100000000):0<=amount * x/\amount * x<=9000000000000000000:=by
 have h1:amount * x<=90000000000 * x:=Int.mul_le_mul_of_nonneg_right h.a1 hx.1
 have h2:=Int.mul_nonneg h.a0 hx.1
 omega
theorem ZdN {by':List Int} {i:Nat} (hi:i < by'.length):byF by' i=by'[i]:=by
 unfold byF;rw [List.getD_eq_getElem?_getD,List.getElem?_eq_getElem hi];rfl
theorem Dvd.part {amount:Int} {by':List Int} (h:Dvd amount by') {i:Nat} (hi:i < by'.length):0<=YV amount by' i/\YV amount by' i<=9000000000000000000:=by
 have hm:=h.mul (h.b0 _ (List.getElem_mem hi))
 have h0:=h.s0
 unfold YV
 rw [ZdN hi]
 refine ⟨Int.tdiv_nonneg hm.1 (by omega),?_⟩
 rw [Int.tdiv_eq_ediv_of_nonneg hm.1]
 have:=Int.ediv_le_self (ZB by') hm.1
 omega
end Go.Azalai
namespace Go.Proofs.Ythilckbkffjliaa
open Go Go.Sx Go.Azalai
def Z5 (i:Nat):List SV:=[I (i:Int)]
theorem Zfi {amount:Int} {by':List Int} (h:Dvd amount by') {i:Nat} (hi:i < by'.length) (k:Bool):Ct Try.prog 82 [I (i:Int),.ps [I amount] 0,.ps [.sl k 1 (by'.map Zm)] 0,.ps [I (ZB by')] 0] (I (WP amount by' i)):=by
 refine t82.1 (by simp [Zc,Zm,KFL,KF]) (by simp [KFL,KF]) ?_
 have hb:=h.mul (h.b0 _ (List.getElem_mem hi))
 have hs:=h.s0
 dsimp only [c82,r82,go_sem,rA,rM,rS]
 refine ZQ i hi rfl ?_
 dsimp only [Zm,go_sem,rA,rM,rS]
 rw [Zk (n:=amount * by'[i]) (by omega) (by omega)]
 refine ZAl (by omega) ?_
 dsimp only [go_sem,rA,rM,rS]
 simp [Zt8,WP,ZdN hi]
abbrev cutS (amount:Int) (by':List Int) (k:Bool):SV:=.cl 82 [.ps [I amount] 0,.ps [.sl k 1 (by'.map Zm)] 0,.ps [I (ZB by')] 0]
theorem Zk3 {amount:Int} {by':List Int} (h:Dvd amount by') {a b:Nat} (ha:a < by'.length) (hb:b < by'.length) (k:Bool) :
 Ct Try.prog 84 [I (a:Int),I (b:Int),.ps [cutS amount by' k] 0] (I (WP amount by' b - WP amount by' a)):=by
 refine t84.1 (by simp [Zc,Zm,KFL,KF]) (by simp [KFL,KF]) ?_
 have hs:=h.s0
 have hs1:=h.s1
 have h1:=ZbF h.a0 (fun x hx=>(h.b0 x hx).1) hs a
 have h2:=ZbF h.a0 (fun x hx=>(h.b0 x hx).1) hs b
 dsimp only [c84,r84,go_sem,rA,rM,rS]
 refine call (Zfi h hb k) ?_
 dsimp only [go_sem,rA,rM,rS]
 refine call (Zfi h ha k) ?_
 dsimp only [go_sem,rA,rM,rS]
 rw [Zk (n:=WP amount by' b - WP amount by' a) (by omega) (by omega)]
def dvH (amount:Int) (by':List Int) (k:Bool):List (Nat × HB):=[(1,.cells [.cl 82 [.p 2 0,.p 3 0,.p 4 0]] 135),(2,.cells [I amount] 3),(3,.cells [.sl k 1 (by'.map Zm)] 27),(4,.cells [I (ZB by')] 3)]
def Zhb (v:Nat) (l:List Nat) (amount:Int) (by':List Int) (k:Bool):Ot:=⟨false,.tup [],(0,.row v 1 (l.map Z5) 3) :: dvH amount by' k,5⟩
theorem Zsg {amount:Int} {by':List Int} (h:Dvd amount by') (v:Nat) (k:Bool) :
 CtM Try.prog 113 ((0,.row v 1 ((List.range by'.length).map Z5) 3) :: dvH amount by' k) 5 [.mr 0 v,I (0:Nat),I (by'.length:Nat),.cl 84 [.p 1 0]] (fun o=>∃ l',l'.Perm (List.range by'.length)/\Srt (ZeW (WP amount by')) 0 by'.length l'/\o=Zhb v l' amount by' k):=by
 refine m113 (by simp [hpb,dvH]) (fun o ho=>by obtain ⟨l',_,_,rfl⟩:=ho;simp [Zhb,dvH,KX,KXL,KXP,KXH,Zc,KFR,KFL,KF,Z5,Zm]) ?_
 have hn1:=h.n1
 have hs:=h.s0
 have hs1:=h.s1
 dsimp only [c113,r113,dvH,go_sem,rA,rM,rS]
 rw [Zk (n:=((0:Nat):Int)+1) (by omega) (by omega)]
 refine YM (fun s:Nat × List Nat=>[(8,I (s.1:Nat))]) (fun s=>[(0,.row v 1 (s.2.map Z5) 3)]) (fun s=>(1<=s.1/\s.1<=max by'.length 1)/\s.2.Perm (List.range by'.length)/\Srt (ZeW (WP amount by')) 0 s.1 s.2/\Otb by'.length s.1 s.2) (fun s=>by'.length - s.1) (1,List.range by'.length) ⟨by simp only;omega,.refl _,fun i j h1 h2 h3=>by simp only at h3;omega,.start _⟩ ?_ ?_
 . (refine Zh ?_ ?_ ?_ rfl rfl<;>dsimp only [Z5,Zm,id,go_sem,rA,rM,rS]<;>simp [Z5,Zm,Zc,Zf,KFR,KFL,KF,Zd,mtO,nbr])
 rintro ⟨i,l1⟩ ⟨⟨hi0,hi⟩,hp,hss,hot⟩
 simp only at hi0 hi hp hss hot
 have hl1:=hot.len
 dsimp only [go_sem,rA,rM,rS]
 by_cases hib:i < by'.length
 case neg =>
  refine ZH (by simp;omega) ?_
  dsimp only [go_sem,rA,rM,rS]
  refine ⟨_,⟨l1,hp,fun p q g1 g2 g3=>hss p q g1 g2 (by omega),rfl⟩,?_⟩
  simp only [Zhb,dvH]
  (refine Zr ?_ ?_ ?_ rfl<;>dsimp only [Z5,Zm,id,go_sem,rA,rM,rS]<;>simp [Z5,Zm,Zc,Zf,KFR,KFL,KF,Zd,mtO,nbr])
 refine ZU (by simpa using hib) ?_
 dsimp only [go_sem,rA,rM,rS]
 refine YM (fun s:Nat × List Nat=>[(9,I (s.1:Nat))]) (fun s=>[(0,.row v 1 (s.2.map Z5) 3)]) (fun s=>s.1<=i/\s.2.Perm (List.range by'.length)/\Ins1 (ZeW (WP amount by')) 0 i s.1 s.2/\Stb by'.length i s.1 s.2) (fun s=>s.1) (i,l1) ⟨Nat.le_refl _,hp,Zdi _ hss,hot.into hib⟩ ?_ ?_
 . (refine Zh ?_ ?_ ?_ rfl rfl<;>dsimp only [Z5,Zm,id,go_sem,rA,rM,rS]<;>simp [Z5,Zm,Zc,Zf,KFR,KFL,KF,Zd,mtO,nbr])
 rintro ⟨j,l2⟩ ⟨hj,hp2,hs2,hst⟩
 simp only at hj hp2 hs2 hst
 have hl2:=hst.len
 dsimp only [go_sem,rA,rM,rS]
 by_cases hja:0 < j
 case neg =>
  have g:decide ((j:Int) > ((0:Nat):Int))=false:=by simp;omega
  simp only [g]
  repeat (refine gb ?_;(repeat first | dsimp only [go_sem,rA,rM,rS] | simp only [nbr]))
  refine ZeO 0 rfl (fun h=>by cases h) ?_
  (repeat first | dsimp only [go_sem,rA,rM,rS] | simp only [nbr])
  refine gb ?_
  (repeat first | dsimp only [go_sem,rA,rM,rS] | simp only [nbr])
  refine ⟨Z5 0,Zkc rfl (fun h=>by cases h),?_⟩
  (repeat first | dsimp only [Z5,go_sem,rA,rM,rS] | simp only [nbr])
  repeat (refine gb ?_;(repeat first | dsimp only [go_sem,rA,rM,rS] | simp only [nbr]))
  refine ZeO 0 rfl (fun h=>by cases h) ?_
  (repeat first | dsimp only [go_sem,rA,rM,rS] | simp only [nbr])
  refine gb ?_
  (repeat first | dsimp only [go_sem,rA,rM,rS] | simp only [nbr])
  refine ⟨Z5 0,Zkc rfl (fun h=>by cases h),?_⟩
  (repeat first | dsimp only [Z5,go_sem,rA,rM,rS] | simp only [nbr])
  refine gb ?_
  (repeat first | dsimp only [go_sem,rA,rM,rS] | simp only [nbr])
  have h0:0 < by'.length:=by omega
  refine Zbd (by simp [FLT]) (res:=I (WP amount by' 0 - WP amount by' 0)) (by (repeat first | dsimp only [go_sem,rA,rM,rS] | simp only [nbr]);exact Zk3 h h0 h0 k) ?_
  (repeat first | dsimp only [go_sem,rA,rM,rS] | simp only [nbr])
  refine gb ?_
  (repeat first | dsimp only [go_sem,rA,rM,rS] | simp only [nbr])
  refine ZH rfl ?_
  (repeat first | dsimp only [go_sem,rA,rM,rS] | simp only [nbr])
  rw [Zk (n:=(i:Int)+1) (by omega) (by omega)]
  refine ⟨(i+1,l2),⟨by simp only;omega,hp2,Zch _ hs2 hj (.inl (by omega)),hst.out⟩,by simp only;omega,?_⟩
  (refine Zh ?_ ?_ ?_ rfl rfl<;>dsimp only [Z5,Zm,id,go_sem,rA,rM,rS]<;>simp [Z5,Zm,Zc,Zf,KFR,KFL,KF,Zd,mtO,nbr])
 have g:decide ((j:Int) > ((0:Nat):Int))=true:=by simp;omega
 simp only [g]
 have hgj:l2[j]'(by omega)=i:=by have:=hst.at';rw [List.getElem?_eq_getElem (by omega)] at this;exact Option.some.inj this
 have hgy:l2[j - 1]'(by omega) < i:=hst.lt (j - 1) _ (List.getElem?_eq_getElem (by omega)) (by omega) (by omega)
 repeat (refine .inl ⟨rfl,?_⟩;(repeat first | dsimp only [go_sem,rA,rM,rS] | simp only [nbr]))
 refine XU j rfl (by simp;omega) ?_
 (repeat first | dsimp only [go_sem,rA,rM,rS] | simp only [nbr])
 refine .inl ⟨rfl,?_⟩
 (repeat first | dsimp only [go_sem,rA,rM,rS] | simp only [nbr])
 refine V8 (by omega) ?_
 (repeat first | dsimp only [Z5,go_sem,rA,rM,rS] | simp only [nbr])
 repeat (refine .inl ⟨rfl,?_⟩;(repeat first | dsimp only [go_sem,rA,rM,rS] | simp only [nbr]))
 rw [Zk (n:=(j:Int) - 1) (by omega) (by omega)]
 refine XU (j - 1) (by omega) (by simp;omega) ?_
 (repeat first | dsimp only [go_sem,rA,rM,rS] | simp only [nbr])
 refine .inl ⟨rfl,?_⟩
 (repeat first | dsimp only [go_sem,rA,rM,rS] | simp only [nbr])
 refine V8 (by omega) ?_
 (repeat first | dsimp only [Z5,go_sem,rA,rM,rS] | simp only [nbr])
 rw [hgj]
 generalize hy:l2[j - 1]'(by omega)=y at *
 have c1:=ZbF h.a0 (fun x hx=>(h.b0 x hx).1) hs i
 have c2:=ZbF h.a0 (fun x hx=>(h.b0 x hx).1) hs y
 repeat (refine .inl ⟨rfl,?_⟩;(repeat first | dsimp only [go_sem,rA,rM,rS] | simp only [nbr]))
 refine Zbd (by simp [FLT]) (res:=I (WP amount by' y - WP amount by' i)) (by (repeat first | dsimp only [go_sem,rA,rM,rS] | simp only [nbr]);exact Zk3 h (by omega) (by omega) k) ?_
 (repeat first | dsimp only [go_sem,rA,rM,rS] | simp only [nbr])
 repeat (refine .inl ⟨rfl,?_⟩;(repeat first | dsimp only [go_sem,rA,rM,rS] | simp only [nbr]))
 have hkj:ky (ZeW (WP amount by')) l2 j=ZeW (WP amount by') i:=by rw [Xx _ (l:=l2) (i:=j) (by omega),hgj]
 have hky:ky (ZeW (WP amount by')) l2 (j - 1)=ZeW (WP amount by') y:=by rw [Xx _ (l:=l2) (i:=j - 1) (by omega),hy]
 have hor:=ZyR (c:=WP amount by') hgy (by omega:i < 16)
 by_cases hlt:WP amount by' y < WP amount by' i
 case neg =>
  refine ZH (by simp;omega) ?_
  (repeat first | dsimp only [go_sem,rA,rM,rS] | simp only [nbr])
  rw [Zk (n:=(i:Int)+1) (by omega) (by omega)]
  refine ⟨(i+1,l2),⟨by simp only;omega,hp2,Zch _ hs2 hj (.inr (by rw [hkj,hky];omega)),hst.out⟩,by simp only;omega,?_⟩
  (refine Zh ?_ ?_ ?_ rfl rfl<;>dsimp only [Z5,Zm,id,go_sem,rA,rM,rS]<;>simp [Z5,Zm,Zc,Zf,KFR,KFL,KF,Zd,mtO,nbr])
 refine ZU (by simp;omega) ?_
 (repeat first | dsimp only [go_sem,rA,rM,rS] | simp only [nbr])
 rw [Zk (n:=(j:Int) - 1) (by omega) (by omega)]
 refine XU (j - 1) (by omega) (by simp;omega) ?_
 (repeat first | dsimp only [go_sem,rA,rM,rS] | simp only [nbr])
 refine V8 (by omega) ?_
 (repeat first | dsimp only [Z5,go_sem,rA,rM,rS] | simp only [nbr])
 refine XU j rfl (by simp;omega) ?_
 (repeat first | dsimp only [go_sem,rA,rM,rS] | simp only [nbr])
 refine V8 (by omega) ?_
 (repeat first | dsimp only [Z5,go_sem,rA,rM,rS] | simp only [nbr])
 refine XU j rfl (by simp;omega) ?_
 (repeat first | dsimp only [go_sem,rA,rM,rS] | simp only [nbr])
 refine ZdG (l2[j - 1]'(by omega)) (by omega) (by simp [Z5]) (by simp [Z5,Zw]) ?_
 (repeat first | dsimp only [go_sem,rA,rM,rS] | simp only [nbr])
 refine XU (j - 1) (by first | omega | (rw [Zk (by omega) (by omega)];omega)) (by simp;omega) ?_
 (repeat first | dsimp only [go_sem,rA,rM,rS] | simp only [nbr])
 refine ZdG (l2[j]'(by omega)) (by simp;omega) (by simp [Z5]) (by simp [Z5,Zw]) ?_
 rw [<- ZaG (l:=l2) (i:=j) (j:=j - 1) (by omega) (by omega)]
 (repeat first | dsimp only [go_sem,rA,rM,rS] | simp only [nbr])
 try rw [Zk (n:=(j:Int) - 1) (by omega) (by omega)]
 rw [show (j:Int) - 1=((j - 1:Nat):Int) from by omega]
 refine ⟨(j - 1,swp l2 j (j - 1)),⟨by simp only;omega,(ZeP (by omega) (by omega)).trans hp2,ZeD _ hs2 hja hj (by omega) (by rw [hkj,hky];exact hor.2 hlt),hst.step hja hj hib⟩,by simp only;omega,?_⟩
 (refine Zh ?_ ?_ ?_ rfl rfl<;>dsimp only [Z5,Zm,id,go_sem,rA,rM,rS]<;>simp [Z5,Zm,Zc,Zf,KFR,KFL,KF,Zd,mtO,nbr])
theorem ZwB {amount:Int} {by':List Int} (h:Dvd amount by') (v:Nat) (k:Bool) :
 CtM Try.prog 108 ((0,.row v 1 ((List.range by'.length).map Z5) 3) :: dvH amount by' k) 5 [.mr 0 v,I (by'.length:Nat),.cl 84 [.p 1 0]] (fun o=>∃ l',l'.Perm (List.range by'.length)/\Srt (ZeW (WP amount by')) 0 by'.length l'/\o=Zhb v l' amount by' k):=by
 refine m108 (by simp [hpb,dvH]) (fun o ho=>by obtain ⟨l',_,_,rfl⟩:=ho;simp [Zhb,dvH,KX,KXL,KXP,KXH,Zc,KFR,KFL,KF,Z5,Zm]) ?_
 have hn1:=h.n1
 dsimp only [c108,r108,dvH,go_sem,rA,rM,rS]
 refine Zim 1 ?_
 dsimp only [ZV,go_sem,rA,rM,rS]
 refine ZH (by simp;omega) ?_
 dsimp only [ZV,go_sem,rA,rM,rS]
 refine Zv [0,1,2,3,4] (Zsg h v k) rfl rfl rfl ?_ ?_ ?_
 . (repeat first | dsimp only [dvH,go_sem,rA,rM,rS] | simp only [nbr])
   simp [mtL,mtB,mtS]
 . (repeat first | dsimp only [dvH,go_sem,rA,rM,rS] | simp only [nbr])
   simp [Zc,KFR,Z5,Zm,KFL,KF]
 rintro _ ⟨l',hp,hs,rfl⟩
 (repeat first | dsimp only [Zhb,dvH,go_sem,rA,rM,rS] | simp only [nbr])
 refine Zim 1 ?_
 dsimp only [ZV,go_sem,rA,rM,rS]
 refine ZH (by simp;omega) ?_
 dsimp only [ZV,go_sem,rA,rM,rS]
 refine ⟨_,⟨l',hp,hs,rfl⟩,?_⟩
 try simp only [Zhb,dvH]
 (refine Zr ?_ ?_ ?_ rfl<;>dsimp only [Z5,Zm,id,go_sem,rA,rM,rS]<;>simp [Z5,Zm,Zc,Zf,KFR,KFL,KF,Zd,mtO,nbr])
theorem Zp8 {amount:Int} {by':List Int} (h:Dvd amount by') (v:Nat) (k:Bool) :
 CtM Try.prog 83 ((0,.row v 1 ((List.range by'.length).map Z5) 3) :: dvH amount by' k) 5 [.mr 0 v,.cl 84 [.p 1 0]] (fun o=>∃ l',l'.Perm (List.range by'.length)/\Srt (ZeW (WP amount by')) 0 by'.length l'/\o=Zhb v l' amount by' k):=by
 refine m83 (by simp [hpb,dvH]) (fun o ho=>by obtain ⟨l',_,_,rfl⟩:=ho;simp [Zhb,dvH,KX,KXL,KXP,KXH,Zc,KFR,KFL,KF,Z5,Zm]) ?_
 dsimp only [c83,r83,dvH,go_sem,rA,rM,rS]
 (repeat first | dsimp only [go_sem,rA,rM,rS] | simp only [nbr])
 simp only [List.length_map,List.length_range]
 refine Zv [0,1,2,3,4] (ZwB h v k) rfl rfl rfl ?_ ?_ ?_
 . (repeat first | dsimp only [dvH,go_sem,rA,rM,rS] | simp only [nbr])
   simp [mtL,mtB,mtS]
 . (repeat first | dsimp only [dvH,go_sem,rA,rM,rS] | simp only [nbr])
   simp [Zc,KFR,Z5,Zm,KFL,KF]
 rintro _ ⟨l',hp,hs,rfl⟩
 (repeat first | dsimp only [Zhb,dvH,go_sem,rA,rM,rS] | simp only [nbr])
 refine ⟨_,⟨l',hp,hs,rfl⟩,?_⟩
 try simp only [Zhb,dvH]
 (refine Zr ?_ ?_ ?_ rfl<;>dsimp only [Z5,Zm,id,go_sem,rA,rM,rS]<;>simp [Z5,Zm,Zc,Zf,KFR,KFL,KF,Zd,mtO,nbr])
end Go.Proofs.Ythilckbkffjliaa
namespace Go.Azalai
theorem ZgY {l:List Int} {k:Nat} (h:k < l.length):ZB (l.take (k+1))=ZB (l.take k)+l[k]:=by
 have:=ZaW (f:=fun x:Int=>x) h
 simpa using this
theorem ZaN:∀ {l:List Int},(∀ x ∈ l,0<=x)->∀ k,0<=ZB (l.take k)/\ZB (l.take k)<=ZB l
 | [],_,k=>by simp [ZB]
 | x :: l,h,0=>by simp only [List.take_zero,ZB];exact ⟨Int.le_refl _,WA h⟩
 | x :: l,h,k+1=>by
  have h1:=ZaN (l:=l) (fun y hy=>h y (by simp [hy])) k
  have h2:=h x (by simp)
  simp only [List.take_succ_cons,ZB];omega
def ZfY (amount:Int) (by':List Int) (O:List Nat):List Int:=(List.range by'.length).map fun i=>YV amount by' i+if i ∈ O then 1 else 0
theorem ZnH {amount:Int} {by':List Int}:ZfY amount by' []=(List.range by'.length).map (YV amount by'):=by
 unfold ZfY;apply List.map_congr_left;intro i _;simp
theorem Zaf {amount:Int} {by':List Int} {O:List Nat}:(ZfY amount by' O).length=by'.length:=by simp [ZfY]
theorem Zcf {amount:Int} {by':List Int} {O:List Nat} {i:Nat} (hi:i < (ZfY amount by' O).length):(ZfY amount by' O)[i]=YV amount by' i+if i ∈ O then 1 else 0:=by simp [ZfY]
theorem Zni {amount:Int} {by':List Int} {O:List Nat} {t:Nat} (ht:t < O.length) (hn:O.Nodup) (hi:O[t] < by'.length) :
 (ZfY amount by' (O.take t)).set O[t] (YV amount by' O[t]+1)=ZfY amount by' (O.take (t+1)):=by
 apply List.ext_getElem
 . simp [ZfY]
 intro i h1 h2
 rw [List.getElem_set,Zcf,Zcf]
 have hm:∀ x,x ∈ O.take (t+1)↔x ∈ O.take t\/x=O[t]:=fun x=>by rw [List.take_succ_eq_append_getElem ht,List.mem_append,List.mem_singleton]
 by_cases e:O[t]=i
 . rw [if_pos e,<- e,if_pos ((hm _).2 (.inr rfl))]
 . rw [if_neg e]
   by_cases q:i ∈ O.take t
   . rw [if_pos q,if_pos ((hm i).2 (.inl q))]
   . rw [if_neg q,if_neg fun z=>((hm i).1 z).elim q fun z=>e z.symm]
theorem ZvW {O:List Nat} {t:Nat} (ht:t < O.length) (hn:O.Nodup):O[t] ∉ O.take t:=by
 intro h
 obtain ⟨j,hj,e⟩:=List.mem_take_iff_getElem.1 h
 have:=List.pairwise_iff_getElem.1 (List.nodup_iff_pairwise_ne.1 hn) j t (by omega) ht (by omega)
 exact this e
theorem Zjt {amount:Int} {by':List Int} {O:List Nat} (h:Dvd amount by') (hp:O.Perm (List.range by'.length)) (ho:O.Pairwise fun a b=>Zaj (WP amount by') a b=true):ZfY amount by' (O.take (Y9 amount by').toNat)=Z2 amount by':=by
 have hl:=Zb9 h.a0 (fun x hx=>(h.b0 x hx).1) h.s0
 unfold ZfY Z2
 apply List.map_congr_left
 intro i hi
 have hi:=List.mem_range.1 hi
 have:=ZaR hp ho (t:=(Y9 amount by').toNat) hi
 by_cases q:i ∈ O.take (Y9 amount by').toNat
 . have:=this.1 q
   rw [if_pos q,if_pos (by omega)]
 . have h2:=mt this.2 q
   rw [if_neg q,if_neg (by omega)]
theorem Zft {amount:Int} {by':List Int} (h:Dvd amount by'):∀ {k:Nat},k<=by'.length->0<=ZB ((List.range k).map (YV amount by'))/\ZB ((List.range k).map (YV amount by'))<=amount:=by
 have hl:=Zb9 h.a0 (fun x hx=>(h.b0 x hx).1) h.s0
 have hall:∀ x ∈ (List.range by'.length).map (YV amount by'),0<=x:=fun x hx=>by
  obtain ⟨i,hi,rfl⟩:=List.mem_map.1 hx
  exact (h.part (List.mem_range.1 hi)).1
 intro k hk
 have h1:=ZaN hall k
 rw [<- List.map_take,List.take_range,Nat.min_eq_left hk] at h1
 have h2:Y9 amount by'=amount - ZB ((List.range by'.length).map (YV amount by')):=rfl
 omega
end Go.Azalai
namespace Go.Proofs.Ythilckbkffjliaa
open Go Go.Sx Go.Azalai
def ZhH (n:Nat) (l:List Int):Ot:=⟨false,.mr 3 n,[(3,.row n 1 (l.map Zm) 3)],4⟩
theorem ZbA {amount:Int} {by':List Int} (h:Dvd amount by') (kb:Bool):CtM Try.prog 63 [] 0 [I amount,.sl kb 1 (by'.map Zm)] (fun o=>o=ZhH by'.length (Z2 amount by')):=by
 refine m63 (by simp [hpb]) (fun o ho=>by subst ho;simp [ZhH,KX,KXL,KXP,KXH,Zc,KFL,KF,Zm]) ?_
 have hn1:=h.n1
 have hs:=h.s0
 have hs1:=h.s1
 have ha:=h.a0
 have ha1:=h.a1
 have hpos:∀ x ∈ by',0<=x:=fun x hx=>(h.b0 x hx).1
 have hlf:=Zb9 h.a0 hpos h.s0
 dsimp only [c63,r63,go_sem,rA,rM,rS]
 simp only [List.length_map]
 refine YM (fun s:Nat × Int=>[(19,I (s.1:Nat))]) (fun s=>[(2,.cells [I s.2] 3)]) (fun s=>s.1<=by'.length/\s.2=ZB (by'.take s.1)) (fun s=>by'.length - s.1) (0,0) ⟨Nat.zero_le _,rfl⟩ ?_ ?_
 . (refine Zh ?_ ?_ ?_ rfl rfl<;>dsimp only [Zm,id,go_sem,rA,rM,rS]<;>simp [Zm,Zc,Zf,KFR,KFL,KF,Zd,mtO,nbr])
 rintro ⟨j,t⟩ ⟨hj,ht⟩
 simp only at hj ht
 dsimp only [go_sem,rA,rM,rS]
 by_cases hlt:j < by'.length
 . refine ZU (by simpa using hlt) ?_
   dsimp only [go_sem,rA,rM,rS]
   refine ZQ j hlt rfl ?_
   dsimp only [Zm,go_sem,rA,rM,rS]
   have h1:=ZgY hlt
   have h2:=ZaN hpos (j+1)
   rw [Zk (n:=t+by'[j]) (by omega) (by omega),Zk (n:=(j:Int)+1) (by omega) (by omega)]
   refine ⟨(j+1,t+by'[j]),⟨hlt,by simp only;omega⟩,by simp only;omega,?_⟩
   (refine Zh ?_ ?_ ?_ rfl rfl<;>dsimp only [Zm,id,go_sem,rA,rM,rS]<;>simp [Zm,Zc,Zf,KFR,KFL,KF,Zd,mtO,nbr])
 refine ZH (by simpa using hlt) ?_
 dsimp only [go_sem,rA,rM,rS]
 have hjl:j=by'.length:=by omega
 rw [hjl,List.take_length] at ht
 subst ht
 refine gh Yk ?_
 dsimp only [go_sem,rA,rM,rS]
 simp only [List.length_map]
 refine Zb1 (WZ (Yh 9 1 3 rfl rfl) (Yh 10 1 3 rfl rfl)) (fun s:Nat=>[(29,I (s:Nat)),(6,I (amount - ZB ((List.range s).map (YV amount by')))),(9,.mr 3 s),(10,.mr 4 s)]) (fun s=>[(3,.row s 1 (((List.range s).map (YV amount by')).map Zm) 3),(4,.row s 1 ((List.range s).map Z5) 3)]) (fun s=>s<=by'.length) (fun s=>by'.length - s) 0 (Nat.zero_le _) ?_ ?_
 . (refine Zh ?_ ?_ ?_ rfl rfl<;>dsimp only [Zm,Z5,ZB,id,go_sem,rA,rM,rS]<;>simp [Zm,Z5,ZB,Zc,Zf,KFR,KFL,KF,Zd,mtO,nbr])
 intro k hk
 dsimp only [go_sem,rA,rM,rS]
 by_cases hlt:k < by'.length
 . refine ZU (by simpa using hlt) ?_
   dsimp only [go_sem,rA,rM,rS]
   refine ZQ k hlt rfl ?_
   dsimp only [Zm,go_sem,rA,rM,rS]
   have hm:=h.mul (h.b0 _ (List.getElem_mem hlt))
   have hp:=h.part hlt
   have e1:(amount * by'[k]).tdiv (ZB by')=YV amount by' k:=by simp [YV,ZdN hlt]
   rw [Zk (n:=amount * by'[k]) (by omega) (by omega)]
   refine ZAl (by omega) ?_
   dsimp only [Zt8,go_sem,rA,rM,rS]
   rw [e1,Zk (n:=YV amount by' k) (by omega) (by omega)]
   (repeat first | dsimp only [go_sem,rA,rM,rS] | simp only [nbr])
   refine ⟨by simp [Z9,WQ,U9],by simp;omega,?_⟩
   (repeat first | dsimp only [go_sem,rA,rM,rS] | simp only [nbr])
   refine ⟨by simp [Z9,WQ,U9],by simp;omega,?_⟩
   (repeat first | dsimp only [go_sem,rA,rM,rS] | simp only [nbr])
   have e2:((List.range k).map (YV amount by')).map Zm ++ [[I (YV amount by' k)]]=((List.range (k+1)).map (YV amount by')).map Zm:=by simp [List.range_succ,Zm]
   have e3:(List.range k).map Z5 ++ [[I (k:Int)]]=(List.range (k+1)).map Z5:=by simp [List.range_succ,Z5]
   rw [e2,e3]
   refine XU k rfl (by simp) ?_
   (repeat first | dsimp only [go_sem,rA,rM,rS] | simp only [nbr])
   refine V8 (by simp) ?_
   (repeat first | dsimp only [Zm,go_sem,rA,rM,rS] | simp only [nbr])
   simp only [List.getElem_map,List.getElem_range]
   have h3:=Zed (f:=YV amount by') (n:=k)
   have h4:=Zft h (k:=k+1) (by omega)
   have h5:=Zft h (k:=k) (by omega)
   rw [Zk (n:=amount - ZB ((List.range k).map (YV amount by')) - YV amount by' k) (by omega) (by omega),Zk (n:=(k:Int)+1) (by omega) (by omega)]
   rw [show amount - ZB ((List.range k).map (YV amount by')) - YV amount by' k=amount - ZB ((List.range (k+1)).map (YV amount by')) from by omega]
   refine ⟨k+1,hlt,by omega,?_⟩
   (refine Zh ?_ ?_ ?_ rfl rfl<;>dsimp only [Zm,Z5,id,go_sem,rA,rM,rS]<;>simp [Zm,Z5,Zc,Zf,KFR,KFL,KF,Zd,mtO,nbr])
 refine ZH (by simpa using hlt) ?_
 dsimp only [go_sem,rA,rM,rS]
 have hkl:k=by'.length:=by omega
 subst hkl
 refine gh Yk ?_
 dsimp only [go_sem,rA,rM,rS]
 refine Zv [4,5,0,1,2] (Zp8 h by'.length kb) rfl rfl rfl ?_ ?_ ?_
 . (repeat first | dsimp only [dvH,go_sem,rA,rM,rS] | simp only [nbr])
   simp [mtL,mtB,mtS]
 . (repeat first | dsimp only [dvH,go_sem,rA,rM,rS] | simp only [nbr])
   simp [Zc,KFR,Z5,Zm,KFL,KF]
 rintro _ ⟨O,hO,hsr,rfl⟩
 have hof:=ZvD hn1 hO hsr
 have hOn:O.Nodup:=hO.nodup_iff.2 List.nodup_range
 have hOl:O.length=by'.length:=by rw [hO.length_eq,List.length_range]
 (repeat first | dsimp only [Zhb,dvH,go_sem,rA,rM,rS] | simp only [nbr])
 refine gh (X7 10 4 by'.length rfl rfl rfl rfl) ?_
 (repeat first | dsimp only [go_sem,rA,rM,rS] | simp only [nbr])
 have hL:amount - ZB ((List.range by'.length).map (YV amount by'))=Y9 amount by':=rfl
 rw [hL]
 have hlN:(((Y9 amount by').toNat:Nat):Int)=Y9 amount by':=by omega
 refine ⟨0,(Y9 amount by').toNat,⟨rfl,hlN.symm,Nat.zero_le _,by simp;omega⟩,?_⟩
 (repeat first | dsimp only [go_sem,rA,rM,rS] | simp only [nbr])
 try rw [List.drop_zero]
 try dsimp only [List.drop]
 rw [<- List.map_take]
 simp only [List.length_map,List.length_take]
 rw [Nat.min_eq_left (by omega:(Y9 amount by').toNat<=O.length)]
 rw [<- ZnH]
 have hkf:KFR (List.take (Y9 amount by').toNat (List.map Z5 O)):=by rw [<- List.map_take];exact Zc.2 fun x _=>by simp [Z5,KFL,KF]
 refine YM (fun s:Nat=>[(61,I (s:Nat))]) (fun s=>[(3,.row by'.length 1 ((ZfY amount by' (O.take s)).map Zm) 3)]) (fun s=>s<=(Y9 amount by').toNat) (fun s=>(Y9 amount by').toNat - s) 0 (Nat.zero_le _) ?_ ?_
 . (refine Zh ?_ ?_ ?_ rfl rfl<;>dsimp only [Zm,Z5,hkf,List.take_zero,id,go_sem,rA,rM,rS]<;>simp [Zm,Z5,hkf,List.take_zero,Zc,Zf,KFR,KFL,KF,Zd,mtO,nbr])
 intro t ht
 dsimp only [go_sem,rA,rM,rS]
 by_cases hlt:t < (Y9 amount by').toNat
 . refine ZU (by simp;omega) ?_
   dsimp only [go_sem,rA,rM,rS]
   refine ZQ t (by simp;omega) rfl ?_
   dsimp only [Z5,go_sem,rA,rM,rS]
   have htO:t < O.length:=by omega
   have hOt:O[t] < by'.length:=List.mem_range.1 (hO.mem_iff.1 (List.getElem_mem htO))
   simp only [List.getElem_take]
   (repeat first | dsimp only [go_sem,rA,rM,rS] | simp only [nbr])
   refine XU O[t] rfl (by simp [Zaf];omega) ?_
   (repeat first | dsimp only [go_sem,rA,rM,rS] | simp only [nbr])
   refine V8 (by rw [Zaf];omega) ?_
   (repeat first | dsimp only [Zm,go_sem,rA,rM,rS] | simp only [nbr])
   rw [Zcf,if_neg (ZvW htO hOn),Int.add_zero]
   have hp:=h.part hOt
   rw [Zk (n:=YV amount by' O[t]+1) (by omega) (by omega)]
   refine XU O[t] rfl (by simp [Zaf];omega) ?_
   (repeat first | dsimp only [go_sem,rA,rM,rS] | simp only [nbr])
   refine ZdG (YV amount by' O[t]+1) (by rw [Zaf];omega) (by simp [Zm]) (by simp [Zm,Zw]) ?_
   (repeat first | dsimp only [go_sem,rA,rM,rS] | simp only [nbr])
   rw [Zni htO hOn hOt,Zk (n:=(t:Int)+1) (by omega) (by omega)]
   refine ⟨t+1,hlt,by omega,?_⟩
   (refine Zh ?_ ?_ ?_ rfl rfl<;>dsimp only [Zm,Z5,hkf,id,go_sem,rA,rM,rS]<;>simp [Zm,Z5,hkf,Zc,Zf,KFR,KFL,KF,Zd,mtO,nbr])
 refine ZH (by simp;omega) ?_
 dsimp only [go_sem,rA,rM,rS]
 have htl:t=(Y9 amount by').toNat:=by omega
 rw [htl,Zjt h hO hof]
 refine gh Yk ?_
 (repeat first | dsimp only [go_sem,rA,rM,rS] | simp only [nbr])
 refine ⟨_,rfl,?_⟩
 simp only [ZhH]
 (refine Zr ?_ ?_ ?_ rfl<;>dsimp only [Zm,hkf,id,go_sem,rA,rM,rS]<;>simp [Zm,hkf,Zc,Zf,KFR,KFL,KF,Zd,mtO,nbr])
theorem getF_bd {amount:Int} {by':List Int} (h:Dvd amount by') {i:Nat} (hi:i < (Z2 amount by').length):0<=(Z2 amount by')[i]/\(Z2 amount by')[i]<=9000000000000000001:=by
 have hi':i < by'.length:=by simpa [Z2] using hi
 have:=h.part hi'
 simp only [Z2,List.getElem_map,List.getElem_range]
 split<;>omega
theorem Dvd.of {p:Pact} (hp:ZK p=true) {r:Int} (h0:0<=r) (h1:r<=90000000000):Dvd r (p.partners.map (·.share))/\Dvd r (p.partners.map (·.put)):=by
 have hA:=Y7 hp
 have hP:Yx (-1) p.partners=true:=by
  simp only [ZK,Bool.and_eq_true] at hp;exact hp.1.1.2
 have hB:=(YX hP).2.2
 refine ⟨⟨h0,h1,by simp;omega,fun x hx=>?_,by omega⟩,⟨h0,h1,by simp;omega,fun x hx=>?_,by omega⟩⟩
 . obtain ⟨y,hy,rfl⟩:=List.mem_map.1 hx
   have:=hB y hy;omega
 . obtain ⟨y,hy,rfl⟩:=List.mem_map.1 hx
   have:=hB y hy;omega
theorem Zdy (p:Pact) (hp:ZK p=true) {r:Int} (h0:-90000000000<=r) (h1:r<=90000000000):Ct Try.prog 43 [.agg (Zg p),I r] (.sl false 1 ((Z1 p r).map Zm)):=by
 refine t43.1 (by simp [Zg,Za,Zc,KFL,KF]) (by simp [Zc,Zm,KFL,KF]) ?_
 have h8:=(Y7 hp).2.2.2.2.2.2
 dsimp only [c43,r43,Zg,go_sem,rA,rM,rS]
 simp only [List.length_map]
 refine Zb1 (WZ (Yh 5 1 3 rfl rfl) (Yh 6 1 3 rfl rfl)) (fun s:Nat=>[(14,I (s:Nat)),(5,.mr 1 s),(6,.mr 2 s)]) (fun s=>[(1,.row s 1 ((p.partners.take s).map fun x=>[I x.share]) 3),(2,.row s 1 ((p.partners.take s).map fun x=>[I x.put]) 3)]) (fun s=>s<=p.partners.length) (fun s=>p.partners.length - s) 0 (Nat.zero_le _) ?_ ?_
 . (refine Zh ?_ ?_ ?_ rfl rfl<;>dsimp only [Zg,Za,id,go_sem,rA,rM,rS]<;>simp [Zg,Za,Zc,Zf,KFR,KFL,KF,Zd,mtO,nbr])
 intro k hk
 dsimp only [go_sem,rA,rM,rS]
 by_cases hlt:k < p.partners.length
 . refine ZU (by simpa using hlt) ?_
   dsimp only [go_sem,rA,rM,rS]
   refine ZQ k hlt rfl ?_
   (repeat first | dsimp only [Za,go_sem,rA,rM,rS] | simp only [nbr])
   refine ⟨by simp [Z9,WQ,U9],by simp;omega,?_⟩
   (repeat first | dsimp only [go_sem,rA,rM,rS] | simp only [nbr])
   refine ⟨by simp [Z9,WQ,U9],by simp;omega,?_⟩
   (repeat first | dsimp only [go_sem,rA,rM,rS] | simp only [nbr])
   have e2:(p.partners.take k).map (fun x=>[I x.share]) ++ [[I p.partners[k].share]]=(p.partners.take (k+1)).map fun x=>[I x.share]:=by rw [List.take_succ_eq_append_getElem hlt,List.map_append];rfl
   have e3:(p.partners.take k).map (fun x=>[I x.put]) ++ [[I p.partners[k].put]]=(p.partners.take (k+1)).map fun x=>[I x.put]:=by rw [List.take_succ_eq_append_getElem hlt,List.map_append];rfl
   rw [e2,e3,Zk (n:=(k:Int)+1) (by omega) (by omega)]
   have hk1:KFR (List.take (k+1) (List.map (fun x=>[I x.share]) p.partners)):=by rw [<- List.map_take];exact Zc.2 fun x _=>by simp [KFL,KF]
   have hk2:KFR (List.take (k+1) (List.map (fun x=>[I x.put]) p.partners)):=by rw [<- List.map_take];exact Zc.2 fun x _=>by simp [KFL,KF]
   refine ⟨k+1,hlt,by omega,?_⟩
   (refine Zh ?_ ?_ ?_ rfl rfl<;>dsimp only [Zg,Za,hk1,hk2,id,go_sem,rA,rM,rS]<;>simp [Zg,Za,hk1,hk2,Zc,Zf,KFR,KFL,KF,Zd,mtO,nbr])
 refine ZH (by simpa using hlt) ?_
 dsimp only [go_sem,rA,rM,rS]
 have hkl:k=p.partners.length:=by omega
 subst hkl
 refine gh (WZ (X7 5 1 p.partners.length rfl rfl rfl rfl) (X7 6 2 p.partners.length rfl rfl rfl rfl)) ?_
 (repeat first | dsimp only [go_sem,rA,rM,rS] | simp only [nbr])
 rw [List.take_length]
 have e2:p.partners.map (fun x=>[I x.share])=(p.partners.map (·.share)).map Zm:=by simp [Zm,Function.comp_def]
 have e3:p.partners.map (fun x=>[I x.put])=(p.partners.map (·.put)).map Zm:=by simp [Zm,Function.comp_def]
 rw [e2,e3]
 by_cases hr:0<=r
 . refine ZU (by simpa using hr) ?_
   dsimp only [go_sem,rA,rM,rS]
   refine Zv [] (ZbA (Dvd.of hp hr h1).1 false) rfl rfl rfl ?_ ?_ ?_
   . (repeat first | dsimp only [go_sem,rA,rM,rS] | simp only [nbr])
     simp [mtL,mtB,mtS,Zc,KFL,KF,Zm]
   . trivial
   rintro _ rfl
   (repeat first | dsimp only [ZhH,go_sem,rA,rM,rS] | simp only [nbr])
   rw [Z1,if_pos hr]
   refine gh Yk ?_
   (repeat first | dsimp only [go_sem,rA,rM,rS] | simp only [nbr])
 refine ZH (by simpa using hr) ?_
 dsimp only [go_sem,rA,rM,rS]
 rw [Zk (n:=0 - r) (by omega) (by omega),show (0:Int) - r = -r from by omega]
 have hD:=(Dvd.of hp (r:=-r) (by omega) (by omega)).2
 refine Zv [] (ZbA hD false) rfl rfl rfl ?_ ?_ ?_
 . (repeat first | dsimp only [go_sem,rA,rM,rS] | simp only [nbr])
   simp [mtL,mtB,mtS,Zc,KFL,KF,Zm]
 . trivial
 rintro _ rfl
 (repeat first | dsimp only [ZhH,go_sem,rA,rM,rS] | simp only [nbr])
 have hF:Z1 p r=(Z2 (-r) (p.partners.map (·.put))).map fun n=>-n:=by rw [Z1,if_neg hr]
 rw [hF]
 have hlen:(Z2 (-r) (p.partners.map (·.put))).length=p.partners.length:=by simp [Z2]
 generalize hQ:Z2 (-r) (p.partners.map (·.put))=Q at *
 refine gh Yk ?_
 (repeat first | dsimp only [go_sem,rA,rM,rS] | simp only [nbr])
 simp only [List.length_map]
 have hb:∀ i (hi:i < Q.length),0<=Q[i]/\Q[i]<=9000000000000000001:=by
  subst hQ;intro i hi;exact getF_bd hD hi
 refine YM (fun s:Nat=>[(40,I (s:Nat))]) (fun s=>[(6,.row p.partners.length 1 (((Q.take s).map (fun n=>-n) ++ Q.drop s).map Zm) 3)]) (fun s=>s<=Q.length) (fun s=>Q.length - s) 0 (Nat.zero_le _) ?_ ?_
 . (refine Zh ?_ ?_ ?_ rfl rfl<;>dsimp only [Zg,Za,Zm,id,go_sem,rA,rM,rS]<;>simp [Zg,Za,Zm,Zc,Zf,KFR,KFL,KF,Zd,mtO,nbr])
 intro k hk
 dsimp only [go_sem,rA,rM,rS]
 by_cases hlt:k < Q.length
 . refine ZU (by simpa using hlt) ?_
   (repeat first | dsimp only [go_sem,rA,rM,rS] | simp only [nbr])
   have hgl:((Q.take k).map (fun n=>-n) ++ Q.drop k).length=Q.length:=by simp;omega
   have hg:((Q.take k).map (fun n=>-n) ++ Q.drop k)[k]'(by omega)=Q[k]:=by
    rw [List.getElem_append_right (by simp;omega)]
    simp [Nat.min_eq_left (Nat.le_of_lt hlt)]
   refine XU k rfl (by rw [List.length_map,hgl];exact hlt) ?_
   (repeat first | dsimp only [go_sem,rA,rM,rS] | simp only [nbr])
   refine V8 (by rw [hgl];exact hlt) ?_
   (repeat first | dsimp only [Zm,go_sem,rA,rM,rS] | simp only [nbr])
   rw [hg]
   have:=hb k hlt
   rw [Zk (n:=0 - Q[k]) (by omega) (by omega),show (0:Int) - Q[k] = -Q[k] from by omega]
   refine XU k rfl (by rw [List.length_map,hgl];exact hlt) ?_
   (repeat first | dsimp only [go_sem,rA,rM,rS] | simp only [nbr])
   refine ZdG (-Q[k]) (by rw [hgl];exact hlt) (by simp [Zm]) (by simp [Zm,Zw]) ?_
   (repeat first | dsimp only [go_sem,rA,rM,rS] | simp only [nbr])
   have hset:((Q.take k).map (fun n=>-n) ++ Q.drop k).set k (-Q[k])=(Q.take (k+1)).map (fun n=>-n) ++ Q.drop (k+1):=by
    rw [List.set_append_right (h:=by simp;omega)]
    simp only [List.length_map,List.length_take,Nat.min_eq_left (Nat.le_of_lt hlt),Nat.sub_self]
    rw [List.drop_eq_getElem_cons hlt,List.set_cons_zero,List.take_succ_eq_append_getElem hlt,List.map_append,List.append_assoc]
    rfl
   rw [hset,Zk (n:=(k:Int)+1) (by omega) (by omega)]
   have hk1:KFR (List.take (k+1) (List.map (Zm ∘ fun n=>-n) Q)):=by rw [<- List.map_take];exact Zc.2 fun x _=>by simp [KFL,KF,Zm]
   have hk2:KFR (List.drop (k+1) (List.map Zm Q)):=by rw [<- List.map_drop];exact Zc.2 fun x _=>by simp [KFL,KF,Zm]
   refine ⟨k+1,hlt,by omega,?_⟩
   (refine Zh ?_ ?_ ?_ rfl rfl<;>dsimp only [Zg,Za,Zm,hk1,hk2,id,go_sem,rA,rM,rS]<;>simp [Zg,Za,Zm,hk1,hk2,Zc,Zf,KFR,KFL,KF,Zd,mtO,nbr])
 refine ZH (by simpa using hlt) ?_
 dsimp only [go_sem,rA,rM,rS]
 have hkl:k=Q.length:=by omega
 rw [hkl,List.take_length,List.drop_length,List.append_nil]
 refine gh Yk ?_
 (repeat first | dsimp only [go_sem,rA,rM,rS] | simp only [nbr])
end Go.Proofs.Ythilckbkffjliaa
namespace Go.Azalai
open Go.Sx
theorem ZeN {p:Pact} {l:List Letter} {c:Co} {j:Nat} (h:j < l.length):WT p c (l.take (j+1))=(ZG p (WT p c (l.take j)) l[j]).1:=by
 rw [List.take_succ_eq_append_getElem h,U6];rfl
theorem Zqf {p:Pact} {l:List Letter} {c:Co} {j:Nat} (h:j < l.length):ZcD p c (l.take (j+1))=ZcD p c (l.take j) ++ [(ZG p (WT p c (l.take j)) l[j]).2]:=by
 rw [List.take_succ_eq_append_getElem h,ZeQ];rfl
theorem Zfx {α : Type} (g:Nat × α->Int) {seen:List Nat} {e:Nat × α} (hs:e.1 ∉ seen):∀ {L:List (Nat × α)},(L.map (·.1)).Nodup->e ∈ L ->
 ZB ((L.filter fun x=>(seen ++ [e.1]).contains x.1).map g)=ZB ((L.filter fun x=>seen.contains x.1).map g)+g e
 | z :: l,hn,he=>by
  simp only [List.map_cons,List.nodup_cons] at hn
  rcases List.mem_cons.1 he with rfl | he
  . have h1:(l.filter fun x=>(seen ++ [e.1]).contains x.1)=l.filter fun x=>seen.contains x.1:=by
     apply List.filter_congr
     intro x hx
     have:x.1≠e.1:=fun q=>hn.1 (q ▸ List.mem_map.2 ⟨x,hx,rfl⟩)
     simp [this]
    have h2:(seen ++ [e.1]).contains e.1=true:=by simp
    have h3:seen.contains e.1=false:=by simpa using hs
    rw [List.filter_cons,if_pos h2,List.filter_cons,if_neg (by rw [h3];simp),h1,List.map_cons,ZB];omega
  . have ih:=Zfx g hs hn.2 he
    have hz:z.1≠e.1:=fun q=>hn.1 (q ▸ List.mem_map.2 ⟨e,he,rfl⟩)
    have h2:(seen ++ [e.1]).contains z.1=seen.contains z.1:=by simp [hz]
    rw [List.filter_cons,h2,List.filter_cons]
    split
    . simp only [List.map_cons,ZB];omega
    . exact ih
def Wb {α : Type} (g:Nat × α->Int) (L:List (Nat × α)) (q:List Nat):Int:=ZB ((L.filter fun x=>q.contains x.1).map g)
theorem Zdh {α : Type} {g:Nat × α->Int} {L:List (Nat × α)}:Wb g L []=0:=by
 unfold Wb;rw [List.filter_eq_nil_iff.2 (by simp)];rfl
theorem Zjh {α : Type} {g:Nat × α->Int} {L:List (Nat × α)} {q:List Nat} (h:∀ e ∈ L,e.1 ∈ q):Wb g L q=ZB (L.map g):=by
 unfold Wb;rw [List.filter_eq_self.2 fun e he=>by simpa using h e he]
theorem Zfu {b:Int}:∀ {l:List Int},(∀ x ∈ l,-b<=x/\x<=b)->-(l.length * b)<=ZB l/\ZB l<=l.length * b
 | [],_=>by simp [ZB]
 | x :: l,h=>by
  have h1:=h x (by simp)
  have h2:=Zfu (l:=l) fun y hy=>h y (by simp [hy])
  simp only [ZB,List.length_cons]
  rw [show ((l.length+1:Nat):Int)=(l.length:Int)+1 from by omega,Int.add_mul];omega
end Go.Azalai
namespace Go.Proofs.Ythilckbkffjliaa
open Go Go.Sx Go.Azalai
def Zdm (p:Pact):Ot:=⟨false,.p 6 0,[(1,.map [] 0),(2,.map [] 0),(3,.map [] 0),(4,.map [] 0),(5,.map [] 0),(6,.cells [.sl false 3 (p.partners.map Za),I p.calf,I p.hire,I p.ends,.mp 1,.mp 2,.mp 3,.mp 4,.mp 5,I 0] 103)],7⟩
theorem Zfk (p:Pact):CtM Try.prog 49 [] 0 [.agg (Zg p)] (fun o=>o=Zdm p):=by
 refine m49 (by simp [hpb]) (fun o ho=>by subst ho;simp [Zdm,KX,KXL,KXP,KXH,Zc,KFL,KF,Za]) ?_
 dsimp only [c49,r49,Zg,go_sem,rA,rM,rS]
 refine Xh rfl rfl rfl ?_
 dsimp only [go_sem,rA,rM,rS]
 refine Xh rfl rfl rfl ?_
 dsimp only [go_sem,rA,rM,rS]
 refine Xh rfl rfl rfl ?_
 dsimp only [go_sem,rA,rM,rS]
 refine Xh rfl rfl rfl ?_
 dsimp only [go_sem,rA,rM,rS]
 refine Xh rfl rfl rfl ?_
 dsimp only [go_sem,rA,rM,rS]
 refine ⟨_,rfl,?_⟩
 simp only [Zdm]
 (refine Zr ?_ ?_ ?_ rfl<;>dsimp only [Za,id,go_sem,rA,rM,rS]<;>simp [Za,Zc,Zf,KFR,KFL,KF,Zd,mtO,nbr])
def rsH (p:Pact) (b:Bks) (l:List Letter) (k:Bool):List (Nat × HB):=bH p b ++ [(6,.cells [.p 5 0] 87),(7,.cells [.sl k 8 (l.map Zb)] 38)]
theorem ZkC (p:Pact) (b:Bks) (l:List Letter) (k:Bool):CtM Try.prog 50 (bH p b) 6 [.p 5 0,.sl k 8 (l.map Zb)] (fun o=>o=⟨false,.cl 71 [.p 7 0,.p 6 0],rsH p b l k,8⟩):=by
 refine m50 (by simp [hpb,bH]) (fun o ho=>by subst ho;simp [rsH,bH,KX,KXL,KXP,KXH,Zc,KFL,KF,Za,Zb,Zp,ZC,Zl,Ze]) ?_
 dsimp only [c50,r50,bH,go_sem,rA,rM,rS]
 refine ⟨_,rfl,?_⟩
 simp only [rsH,bH]
 (refine Zr ?_ ?_ ?_ rfl<;>dsimp only [Ze,Zp,ZC,Zl,Za,Zb,id,go_sem,rA,rM,rS]<;>simp [Ze,Zp,ZC,Zl,Za,Zb,Zc,Zf,KFR,KFL,KF,Zd,mtO,nbr])
theorem Zfw {k:Int} (hk:k=1\/k=2\/k=3\/k=4\/k=5\/k=6\/k=7\/k=8):∃ a b,Go.Sx.mget k ZM=some (a,b,Wf k):=by
 rcases hk with h | h | h | h | h | h | h | h<;>subst h<;>exact ⟨_,_,rfl⟩
theorem Zfc {p:Pact} {x:Letter} (hx:Zn p x=true):x.kind=1\/x.kind=2\/x.kind=3\/x.kind=4\/x.kind=5\/x.kind=6\/x.kind=7\/x.kind=8:=by
 apply Classical.byContradiction
 intro q
 simp only [not_or] at q
 simp [Zn,q] at hx
def u8L (w:Int):List SV:=[U8 w]
def ZdE (p:Pact) (l:List Letter):List (List SV):=(ZcD p co0 l).map u8L
def Zrq (p:Pact) (b:Bks) (l:List Letter) (k:Bool):Ot:=⟨false,.mr 9 l.length,rsH p b l k ++ [(9,.row l.length 1 (ZdE p l) 5)],10⟩
theorem Zjf (p:Pact) (hp:ZK p=true) (l:List Letter) (hl:∀ x ∈ l,Zn p x=true) (h100:l.length<=1000) (k:Bool) :
 CtM Try.prog 70 (rsH p ZdD l k) 8 [.v (.slice none 0 0),.cl 71 [.p 7 0,.p 6 0]] (fun o=>∃ b,BkR l.length (WT p co0 l) b/\o=Zrq p b l k):=by
 refine m70 (by simp [hpb,rsH,bH]) (fun o ho=>by obtain ⟨b,-,rfl⟩:=ho;simp [Zrq,ZdE,u8L,rsH,bH,KX,KXL,KXP,KXH,Zc,KFL,KF,Za,Zb,Zp,ZC,Zl,Ze]) ?_
 dsimp only [c70,r70,rsH,bH,go_sem,rA,rM,rS]
 refine gh (Zd8 8 0 1 5 rfl rfl) ?_
 dsimp only [go_sem,rA,rM,rS]
 refine ⟨b71,fun rec=>?_⟩
 refine y71 ?_
 dsimp only [c71,r71,go_sem,rA,rM,rS]
 refine Zv [] Za1 rfl rfl rfl ?_ ?_ ?_
 . (repeat first | dsimp only [go_sem,rA,rM,rS] | simp only [nbr])
   try simp [mtL,mtB,mtS]
 . trivial
 rintro _ rfl
 (repeat first | dsimp only [go_sem,rA,rM,rS] | simp only [nbr])
 simp only [List.length_map]
 refine YM (fun s:Nat × Bks=>[(10,I (s.1:Nat))]) (fun s=>bH p s.2 ++ [(8,.cells [.mr 9 s.1] 39),(9,.row s.1 1 (ZdE p (l.take s.1)) 5)]) (fun s=>s.1<=l.length/\BkR s.1 (WT p co0 (l.take s.1)) s.2) (fun s=>l.length - s.1) (0,ZdD) ⟨Nat.zero_le _,BkR.start⟩ ?_ ?_
 . dsimp only [bH,go_sem,rA,rM,rS]
   (refine Zh ?_ ?_ ?_ rfl rfl<;>dsimp only [ZdD,ZdE,ZcD,Ze,Za,Zb,Xa,id,go_sem,rA,rM,rS]<;>simp [ZdD,ZdE,ZcD,Ze,Za,Zb,Xa,Zc,Zf,KFR,KFL,KF,Zd,mtO,nbr])
 rintro ⟨j,b⟩ ⟨hj,hb⟩
 simp only at hj hb
 dsimp only [bH,go_sem,rA,rM,rS]
 by_cases hlt:j < l.length
 . refine ZU (by simpa using hlt) ?_
   dsimp only [go_sem,rA,rM,rS]
   refine ZQ j hlt rfl ?_
   dsimp only [Zb,go_sem,rA,rM,rS]
   have hx:=hl l[j] (List.getElem_mem _)
   obtain ⟨ka,kb',hkg⟩:=Zfw (Zfc hx)
   refine YW (key:=kB) (val:=Xa) (sv:=fun n=>.v (kB n)) (L:=ZM) (k:=l[j].kind) (zs:=zk) rfl rfl Zhg ZkK rfl ZdU zk_R (fun v hg=>?_) (fun hg=>?_)
   case refine_2=>rw [hkg] at hg;cases hg
   rw [hkg] at hg
   cases hg
   dsimp only [Xa,go_sem,rA,rM,rS]
   refine Zv [0,1,2,3,4,5] (Zrf hb (by omega) hp l[j] hx) rfl rfl rfl ?_ ?_ ?_
   . (repeat first | dsimp only [bH,go_sem,rA,rM,rS] | simp only [nbr])
     try simp [mtL,mtB,mtS,Zb]
   . (repeat first | dsimp only [bH,go_sem,rA,rM,rS] | simp only [nbr])
     try simp [Ze,Zp,ZC,Zl,Za,Zb,Zc,KFL,KF]
   rintro _ ⟨b2,hb2,rfl⟩
   (repeat first | dsimp only [Zg9,bH,go_sem,rA,rM,rS] | simp only [nbr])
   refine ⟨trivial,trivial,?_⟩
   (repeat first | dsimp only [go_sem,rA,rM,rS] | simp only [nbr])
   refine ⟨by simp [Z9,WQ,U9],by simp [ZdE,ZeV];omega,?_⟩
   (repeat first | dsimp only [go_sem,rA,rM,rS] | simp only [nbr])
   refine ⟨trivial,?_⟩
   refine ZH rfl ?_
   (repeat first | dsimp only [go_sem,rA,rM,rS] | simp only [nbr])
   have e1:ZdE p (l.take j) ++ [[SV.v (Value.int IntKind.u8 (ZG p (WT p co0 (l.take j)) l[j]).2)]]=ZdE p (l.take (j+1)):=by
    simp only [ZdE,Zqf hlt,List.map_append];rfl
   rw [e1,Zk (n:=(j:Int)+1) (by omega) (by omega)]
   refine ⟨(j+1,b2),⟨hlt,by rw [ZeN hlt];exact hb2⟩,by simp only;omega,?_⟩
   dsimp only [bH,go_sem,rA,rM,rS]
   (refine Zh ?_ ?_ ?_ rfl rfl<;>dsimp only [Ze,Za,Zb,Xa,Zp,ZC,Zl,ZdE,u8L,id,go_sem,rA,rM,rS]<;>simp [Ze,Za,Zb,Xa,Zp,ZC,Zl,ZdE,u8L,Zc,Zf,KFR,KFL,KF,Zd,mtO,nbr])
 refine ZH (by simpa using hlt) ?_
 dsimp only [go_sem,rA,rM,rS]
 have hjl:j=l.length:=by omega
 subst hjl
 rw [List.take_length] at hb ⊢
 refine ⟨_,⟨b,hb,rfl⟩,?_⟩
 try simp only [Zrq,rsH,bH,List.cons_append,List.nil_append]
 (refine Zr ?_ ?_ ?_ rfl<;>dsimp only [Ze,Za,Zb,Xa,Zp,ZC,Zl,ZdE,u8L,id,go_sem,rA,rM,rS]<;>simp [Ze,Za,Zb,Xa,Zp,ZC,Zl,ZdE,u8L,Zc,Zf,KFR,KFL,KF,Zd,mtO,nbr])
theorem ZsJ (p:Pact) (hp:ZK p=true) (l:List Letter) (hl:∀ x ∈ l,Zn p x=true) (h100:l.length<=1000) (k:Bool) :
 CtM Try.prog 48 (rsH p ZdD l k) 8 [.cl 71 [.p 7 0,.p 6 0]] (fun o=>∃ b,BkR l.length (WT p co0 l) b/\o=Zrq p b l k):=by
 refine m48 (by simp [hpb,rsH,bH]) (fun o ho=>by obtain ⟨b,-,rfl⟩:=ho;simp [Zrq,ZdE,u8L,rsH,bH,KX,KXL,KXP,KXH,Zc,KFL,KF,Za,Zb,Zp,ZC,Zl,Ze]) ?_
 dsimp only [c48,r48,rsH,bH,go_sem,rA,rM,rS]
 refine Zv [0,1,2,3,4,5,6,7] (Zjf p hp l hl h100 k) rfl rfl rfl ?_ ?_ ?_
 . (repeat first | dsimp only [go_sem,rA,rM,rS] | simp only [nbr])
   try simp [mtL,mtB,mtS]
 . (repeat first | dsimp only [rsH,bH,go_sem,rA,rM,rS] | simp only [nbr])
   try simp [Ze,Zp,ZC,Zl,Za,Zb,Zc,KFL,KF]
 rintro _ ⟨b,hb,rfl⟩
 (repeat first | dsimp only [Zrq,rsH,bH,go_sem,rA,rM,rS] | simp only [nbr])
 refine ⟨_,⟨b,hb,rfl⟩,?_⟩
 try simp only [Zrq,rsH,bH,List.cons_append,List.nil_append]
 (refine Zr ?_ ?_ ?_ rfl<;>dsimp only [Ze,Za,Zb,Xa,Zp,ZC,Zl,ZdE,u8L,id,go_sem,rA,rM,rS]<;>simp [Ze,Za,Zb,Xa,Zp,ZC,Zl,ZdE,u8L,Zc,Zf,KFR,KFL,KF,Zd,mtO,nbr])
end Go.Proofs.Ythilckbkffjliaa
namespace Go.Azalai
open Go.Sx
theorem Zgd {p:Pact} (hp:ZK p=true) {r:Int} (h0:-90000000000<=r) (h1:r<=90000000000) {i:Nat} (hi:i < (Z1 p r).length):-9000000000000000001<=(Z1 p r)[i]/\(Z1 p r)[i]<=9000000000000000001:=by
 by_cases hr:r ≥ 0
 . have hD:=(Go.Proofs.Ythilckbkffjliaa.Dvd.of hp hr h1).1
   have e:Z1 p r=Z2 r (p.partners.map (·.share)):=by rw [Z1,if_pos hr]
   have hi':i < (Z2 r (p.partners.map (·.share))).length:=by rw [<- e];exact hi
   have:=Go.Proofs.Ythilckbkffjliaa.getF_bd hD hi'
   simp only [e];omega
 . have hD:=(Go.Proofs.Ythilckbkffjliaa.Dvd.of hp (r:=-r) (by omega) (by omega)).2
   have e:Z1 p r=(Z2 (-r) (p.partners.map (·.put))).map fun n=>-n:=by rw [Z1,if_neg hr]
   have hi':i < (Z2 (-r) (p.partners.map (·.put))).length:=by rw [e] at hi;simpa using hi
   have:=Go.Proofs.Ythilckbkffjliaa.getF_bd hD hi'
   simp only [e,List.getElem_map];omega
structure EndB (p:Pact) (c0:Co) (b0:Bks) (M m:Nat) (c:Co) (b:Bks) (seen:List Nat):Prop where
 ei:EndI p c0 c
 bk:BkR m c b
 mm:m+b.loans.length<=M
 sn:∀ e ∈ b.loans,e.1 ∉ seen
 ck:b.cl=b0.cl
theorem EndB.step {p:Pact} {c0 c:Co} {b0 b:Bks} {M m:Nat} {seen:List Nat} (h:EndB p c0 b0 M m c b seen) (hp:0<=p.hire/\p.hire<=1000) (he:0<=p.ends/\p.ends<=100000) {e:Nat × Int × (Int × Int)} (hm:e ∈ b.loans) :
 c.loans e.2.1=some e.2.2/\EndB p c0 b0 M (m+1) (Yb p c e.2.1 p.ends e.2.2) (Xf p c b e.2.1 p.ends e.2.2) (seen ++ [e.1]):=by
 have hg:mget e.2.1 b.loans=some e.2.2:=ZcA h.bk.w1.kn hm
 have hl:c.loans e.2.1=some e.2.2:=by rw [<- h.bk.lo,hg]
 have hlen:=Zcc (L:=b.loans) (k:=e.2.1) (by rw [hg];rfl)
 have h1:=h.mm
 refine ⟨hl,h.ei.home hl,h.bk.home hp hl he,by simp only [Xf];omega,fun x hx=>?_,h.ck⟩
 have hx':=(Zvm h.bk.w1.kn).1 hx
 simp only [List.mem_append,List.mem_singleton,not_or]
 refine ⟨h.sn x hx'.1,fun q=>hx'.2 ?_⟩
 have hn:=h.bk.w1.bn
 have:∀ {L:List (Nat × Int × (Int × Int))},(L.map (·.1)).Nodup->x ∈ L->e ∈ L->x.1=e.1->x=e:=by
  intro L
  induction L with
  | nil=>intro _ h;cases h
  | cons z l ih =>
   intro hn h1 h2 h3
   simp only [List.map_cons,List.nodup_cons] at hn
   rcases List.mem_cons.1 h1 with q1 | q1
   . rcases List.mem_cons.1 h2 with q2 | q2
     . rw [q1,q2]
     . exact absurd (List.mem_map.2 ⟨e,q2,by rw [<- h3,q1]⟩) hn.1
   . rcases List.mem_cons.1 h2 with q2 | q2
     . exact absurd (List.mem_map.2 ⟨x,q1,by rw [h3,q2]⟩) hn.1
     . exact ih hn.2 q1 q2 h3
 rw [this hn hx'.1 hm q]
theorem EndB.none {p:Pact} {c0 c:Co} {b0 b:Bks} {M m:Nat} {seen:List Nat} (h:EndB p c0 b0 M m c b seen) (hs:∀ e ∈ b.loans,e.1 ∈ seen):∀ a,c.loans a=none:=by
 have:b.loans=[]:=by
  cases hb:b.loans with
  | nil=>rfl
  | cons e l=>exact absurd (hs e (by simp [hb])) (h.sn e (by simp [hb]))
 intro a
 rw [<- h.bk.lo,this];rfl
theorem Zmu {p:Pact} {c:Co} {k:Nat} (hk:k < p.partners.length) (hk':k < (UX p c).length) (hd:k < (Z1 p (U0 p c)).length) :
 (UX p c)[k]=p.partners[k].put+(Z1 p (U0 p c))[k]+Zbg p c p.partners[k].id+Wi p c p.partners[k].id:=by
 simp only [UX,List.getElem_map,List.getElem_range]
 rw [List.getElem?_eq_getElem hk]
 simp only [ZrG]
 rw [List.getD_eq_getElem?_getD,List.getElem?_eq_getElem hd];rfl
end Go.Azalai
namespace Go.Proofs.Ythilckbkffjliaa
open Go Go.Sx Go.Azalai
def ZAq (p:Pact) (c:Co):Ot:=⟨false,.mr 7 p.partners.length,[(7,.row p.partners.length 1 ((UX p c).map Zm) 3)],8⟩
theorem ZxB {p:Pact} (hp:ZK p=true) {n:Nat} {c:Co} {b:Bks} (h:BkR n c b) (hn:n<=400) (hc:CoOk p c) (hdb:Ze5 p c) :
 CtM Try.prog 80 (bH p b) 6 [.p 5 0] (fun o=>o=ZAq p c):=by
 refine m80 (by simp [hpb,bH]) (fun o ho=>by subst ho;simp [ZAq,KX,KXL,KXP,KXH,Zc,KFL,KF,Zm]) ?_
 have hP:=hp
 simp only [ZK,Bool.and_eq_true,inR,decide_eq_true_eq] at hP
 have hh:0<=p.hire/\p.hire<=1000:=by omega
 have he:0<=p.ends/\p.ends<=100000:=by omega
 have h8:=(Y7 hp).2.2.2.2.2.2
 have hln:=h.ln
 have hdn:=h.dn
 dsimp only [c80,r80,bH,go_sem,rA,rM,rS]
 refine ZcS rfl rfl u99 rfl rfl ?_
 dsimp only [go_sem,rA,rM,rS]
 refine YM (fun _:Nat × Co × Bks × List Nat=>[]) (fun s=>bH p s.2.2.1 ++ [(6,.it 0 b.cl s.2.2.2 b.cl)]) (fun s=>EndB p c b (n+b.loans.length) s.1 s.2.1 s.2.2.1 s.2.2.2) (fun s=>s.2.2.1.loans.length) (n,c,b,[]) ⟨.start hc,h,Nat.le_refl _,fun e _=>by simp,rfl⟩ ?_ ?_
 . dsimp only [bH,go_sem,rA,rM,rS]
   (refine Zh ?_ ?_ ?_ rfl rfl<;>dsimp only [Ze,Zp,ZC,Zl,Za,id,go_sem,rA,rM,rS]<;>simp [Ze,Zp,ZC,Zl,Za,Zc,Zf,KFR,KFL,KF,Zd,mtO,nbr])
 rintro ⟨m,c1,b1,seen⟩ hE
 simp only at hE
 have hmm:=hE.mm
 dsimp only [bH,go_sem,rA,rM,rS]
 have hck:=hE.ck
 refine ZeY (key:=kI) (val:=Zp) (sv:=sI) (L:=b1.loans) (c:=b1.cl) rfl (by rw [hck];rfl) rfl (fun e he=>by rw [<- hck];exact hE.bk.w1.bl e he) (Nat.le_refl _) WS (fun hs=>?_) (fun e hm hs=>?_)
 . dsimp only [go_sem,rA,rM,rS]
   refine ZH rfl ?_
   dsimp only [go_sem,rA,rM,rS]
   have hno:=hE.none hs
   obtain ⟨hR,hX⟩:=hE.ei.done hno
   have hre:=hE.bk.re
   have hrb:=hE.bk.rb
   refine gh Yk ?_
   dsimp only [go_sem,rA,rM,rS]
   rw [hre,hR]
   rw [hR] at hrb
   refine call (Zdy p hp (by omega) (by omega)) ?_
   dsimp only [go_sem,rA,rM,rS]
   simp only [List.length_map]
   have hdl:=Za7 (p:=p) (r:=U0 p c)
   refine Zb1 (Yh 5 1 3 rfl rfl) (fun s:Nat=>[(43,I (s:Nat)),(5,.mr 7 s)]) (fun s=>[(7,.row s 1 (((UX p c).take s).map Zm) 3)]) (fun s=>s<=p.partners.length) (fun s=>p.partners.length - s) 0 (Nat.zero_le _) ?_ ?_
   . (refine Zh ?_ ?_ ?_ rfl rfl<;>dsimp only [Ze,Zp,ZC,Zl,Za,Zm,id,go_sem,rA,rM,rS]<;>simp [Ze,Zp,ZC,Zl,Za,Zm,Zc,Zf,KFR,KFL,KF,Zd,mtO,nbr])
   intro k hk
   have hk0:KFR (List.take k (List.map Zm (UX p c))):=by rw [<- List.map_take];exact Zc.2 fun x _=>by simp [KFL,KF,Zm]
   dsimp only [go_sem,rA,rM,rS]
   by_cases hlt:k < p.partners.length
   . refine ZU (by simpa using hlt) ?_
     dsimp only [go_sem,rA,rM,rS]
     refine ZQ k hlt rfl ?_
     dsimp only [Za,go_sem,rA,rM,rS]
     refine ZQ k (by rw [hdl];exact hlt) rfl ?_
     dsimp only [Zm,go_sem,rA,rM,rS]
     have hrv:=fun (w:Int) σ h1 h2 h3=>Ua (P:=Try.prog) (t:=101) (σ:=σ) (i:=58) (j:=60) (ok:=false) (km:=4) (c:=b1.ce) (key:=kI) (val:=ZC) (sv:=sI) (L:=b1.extra) (k:=w) (zs:=ZC 0) h1 h2 h3 ZvT WS Zbh Zlr
     refine ⟨_,hrv p.partners[k].id _ rfl rfl rfl,?_⟩
     rw [show lkS false ZC (ZC 0) (Go.Sx.mget p.partners[k].id b1.extra)=ZC (c1.extra p.partners[k].id) from by rw [<- hE.bk.ex];cases Go.Sx.mget p.partners[k].id b1.extra<;>rfl]
     rw [hX]
     have hexb:=hE.bk.eb p.partners[k].id
     rw [hX] at hexb
     have hpb:=Zgd hp (r:=U0 p c) (by omega) (by omega) (i:=k) (by rw [hdl];exact hlt)
     have hpu:=((YX hP.1.1.2).2.2 _ (List.getElem_mem hlt))
     dsimp only [ZC,go_sem,rA,rM,rS]
     rw [Zk (n:=p.partners[k].put+_) (by omega) (by omega),Zk (n:=p.partners[k].put+(Z1 p (U0 p c))[k]+_) (by omega) (by omega)]
     refine ZcS rfl rfl Ztu rfl rfl ?_
     dsimp only [go_sem,rA,rM,rS]
     have hget:=Zmu (p:=p) (c:=c) hlt (by rw [X1];exact hlt) (by rw [hdl];exact hlt)
     generalize hbs:p.partners[k].put+(Z1 p (U0 p c))[k]+Zbg p c p.partners[k].id=bs at *
     have hds:=ZoG (p:=p) (c:=c1) hE.bk.w4.kn (fun e he=>by rw [<- hE.bk.db,ZcA hE.bk.w4.kn he];rfl) (fun x y hno=>by rw [<- hE.bk.db,WY.2 hno];rfl) (by intro w o;rw [hE.ei.db];exact hdb w o) (Y7 hp).1 p.partners[k].id
     have hod:Wi p c1 p.partners[k].id=Wi p c p.partners[k].id:=by simp only [Wi,hE.ei.db]
     rw [hod] at hds
     have hdl1:=hE.bk.dn
     have htb:∀ e ∈ b1.debts,-90000000000<=e.2.2/\e.2.2<=90000000000:=fun e he=>by
      have h1:=hE.bk.bb e.2.1.1 e.2.1.2
      rw [<- hE.bk.db,ZcA hE.bk.w4.kn he] at h1
      simp only [Option.getD_some] at h1
      omega
     have hdt:∀ e ∈ b1.debts,-180000000000<=Xp p.partners[k].id e/\Xp p.partners[k].id e<=180000000000:=fun e he=>by
      have:=htb e he
      simp only [Xp]
      split<;>split<;>omega
     have hsb:∀ q:List Nat,-200000000000000<=Wb (Xp p.partners[k].id) b1.debts q/\Wb (Xp p.partners[k].id) b1.debts q<=200000000000000:=fun q=>by
      have h1:=Zfu (b:=180000000000) (l:=(b1.debts.filter fun x=>q.contains x.1).map (Xp p.partners[k].id)) (fun x hx=>by
       obtain ⟨e,he,rfl⟩:=List.mem_map.1 hx
       exact hdt e (List.mem_filter.1 he).1)
      have h2:=List.length_filter_le (fun x=>q.contains x.1) b1.debts
      rw [List.length_map] at h1
      simp only [Wb]
      omega
     have hseen:=fun (q:List Nat) (e:Nat × (Int × Int) × Int) (hs:e.1 ∉ q) (he:e ∈ b1.debts)=>Zfx (Xp p.partners[k].id) hs hE.bk.w4.bn he
     generalize hid:p.partners[k].id=pid at *
     refine YM (fun s:List Nat=>[(8,I (bs+Wb (Xp pid) b1.debts s))]) (fun s=>[(9,.it 3 b1.cb s b1.cb)]) (fun _=>True) (fun s=>ZlW b1.debts s) [] trivial ?_ ?_
     . (refine Zh ?_ ?_ ?_ rfl rfl<;>dsimp only [Ze,Zp,ZC,Zl,Za,Zm,Zdh,Int.add_zero,hk0,id,go_sem,rA,rM,rS]<;>simp [Ze,Zp,ZC,Zl,Za,Zm,Zdh,Int.add_zero,hk0,Zc,Zf,KFR,KFL,KF,Zd,mtO,nbr])
     intro q _
     dsimp only [go_sem,rA,rM,rS]
     have hq0:=hsb q
     refine ZeY (key:=kP) (val:=ZC) (sv:=sP) (L:=b1.debts) (c:=b1.cb) rfl rfl rfl (fun e he=>hE.bk.w4.bl e he) (Nat.le_refl _) UG (fun hs=>?_) (fun e hm hs=>?_)
     . dsimp only [go_sem,rA,rM,rS]
       refine ZH rfl ?_
       dsimp only [go_sem,rA,rM,rS]
       rw [Zjh hs,hds,<- hget]
       refine gh Yk ?_
       (repeat first | dsimp only [go_sem,rA,rM,rS] | simp only [nbr])
       refine ⟨by simp [Z9,WQ,U9],by simp [X1];omega,?_⟩
       (repeat first | dsimp only [go_sem,rA,rM,rS] | simp only [nbr])
       refine gh Yk ?_
       (repeat first | dsimp only [go_sem,rA,rM,rS] | simp only [nbr])
       have e1:((UX p c).take k).map Zm ++ [[I ((UX p c)[k]'(by rw [X1];exact hlt))]]=((UX p c).take (k+1)).map Zm:=by
        rw [List.take_succ_eq_append_getElem (by rw [X1];exact hlt),List.map_append];rfl
       rw [e1,Zk (n:=(k:Int)+1) (by omega) (by omega)]
       have hk1:KFR (List.take (k+1) (List.map Zm (UX p c))):=by rw [<- List.map_take];exact Zc.2 fun x _=>by simp [KFL,KF,Zm]
       refine ⟨k+1,hlt,by omega,?_⟩
       (refine Zh ?_ ?_ ?_ rfl rfl<;>dsimp only [Ze,Zp,ZC,Zl,Za,Zm,hk1,id,go_sem,rA,rM,rS]<;>simp [Ze,Zp,ZC,Zl,Za,Zm,hk1,Zc,Zf,KFR,KFL,KF,Zd,mtO,nbr])
     . dsimp only [go_sem,rA,rM,rS]
       refine ZU rfl ?_
       dsimp only [go_sem,rA,rM,rS]
       refine Zdc (key:=kP) (val:=ZC) (sv:=sP) (L:=b1.debts) (e:=e) (since:=b1.cb) (seen:=q) (c:=b1.cb) rfl rfl rfl hm hE.bk.w4.bn UG ?_
       dsimp only [ZC,go_sem,rA,rM,rS]
       have hv:=htb e hm
       have hnew:Wb (Xp pid) b1.debts (q ++ [e.1])=Wb (Xp pid) b1.debts q+Xp pid e:=hseen q e hs hm
       have hlN:=Zmn hm hs
       by_cases q1:e.2.1.2=pid
       . refine ZU (by simpa using q1) ?_
         dsimp only [go_sem,rA,rM,rS]
         rw [Zk (n:=bs+Wb (Xp pid) b1.debts q+e.2.2) (by omega) (by omega)]
         by_cases q2:e.2.1.1=pid
         . refine ZU (by simpa using q2) ?_
           dsimp only [go_sem,rA,rM,rS]
           rw [Zk (n:=bs+Wb (Xp pid) b1.debts q+e.2.2 - e.2.2) (by omega) (by omega)]
           rw [show bs+Wb (Xp pid) b1.debts q+e.2.2 - e.2.2=bs+Wb (Xp pid) b1.debts (q ++ [e.1]) from by rw [hnew];simp only [Xp,q1,q2,if_true];omega]
           refine ⟨q ++ [e.1],trivial,hlN,?_⟩
           (refine Zh ?_ ?_ ?_ rfl rfl<;>dsimp only [Ze,Zp,ZC,Zl,Za,Zm,hk0,id,go_sem,rA,rM,rS]<;>simp [Ze,Zp,ZC,Zl,Za,Zm,hk0,Zc,Zf,KFR,KFL,KF,Zd,mtO,nbr])
         . refine ZH (by simpa using q2) ?_
           dsimp only [go_sem,rA,rM,rS]
           rw [show bs+Wb (Xp pid) b1.debts q+e.2.2=bs+Wb (Xp pid) b1.debts (q ++ [e.1]) from by rw [hnew];simp only [Xp,q1,q2,if_true,if_false];omega]
           refine ⟨q ++ [e.1],trivial,hlN,?_⟩
           (refine Zh ?_ ?_ ?_ rfl rfl<;>dsimp only [Ze,Zp,ZC,Zl,Za,Zm,hk0,id,go_sem,rA,rM,rS]<;>simp [Ze,Zp,ZC,Zl,Za,Zm,hk0,Zc,Zf,KFR,KFL,KF,Zd,mtO,nbr])
       . refine ZH (by simpa using q1) ?_
         dsimp only [go_sem,rA,rM,rS]
         by_cases q2:e.2.1.1=pid
         . refine ZU (by simpa using q2) ?_
           dsimp only [go_sem,rA,rM,rS]
           rw [Zk (n:=bs+Wb (Xp pid) b1.debts q - e.2.2) (by omega) (by omega)]
           rw [show bs+Wb (Xp pid) b1.debts q - e.2.2=bs+Wb (Xp pid) b1.debts (q ++ [e.1]) from by rw [hnew];simp only [Xp,q1,q2,if_true,if_false];omega]
           refine ⟨q ++ [e.1],trivial,hlN,?_⟩
           (refine Zh ?_ ?_ ?_ rfl rfl<;>dsimp only [Ze,Zp,ZC,Zl,Za,Zm,hk0,id,go_sem,rA,rM,rS]<;>simp [Ze,Zp,ZC,Zl,Za,Zm,hk0,Zc,Zf,KFR,KFL,KF,Zd,mtO,nbr])
         . refine ZH (by simpa using q2) ?_
           dsimp only [go_sem,rA,rM,rS]
           rw [show bs+Wb (Xp pid) b1.debts q=bs+Wb (Xp pid) b1.debts (q ++ [e.1]) from by rw [hnew];simp only [Xp,q1,q2,if_false];omega]
           refine ⟨q ++ [e.1],trivial,hlN,?_⟩
           (refine Zh ?_ ?_ ?_ rfl rfl<;>dsimp only [Ze,Zp,ZC,Zl,Za,Zm,hk0,id,go_sem,rA,rM,rS]<;>simp [Ze,Zp,ZC,Zl,Za,Zm,hk0,Zc,Zf,KFR,KFL,KF,Zd,mtO,nbr])
   refine ZH (by simpa using hlt) ?_
   dsimp only [go_sem,rA,rM,rS]
   have hkl:k=p.partners.length:=by omega
   subst hkl
   refine gh Yk ?_
   dsimp only [go_sem,rA,rM,rS]
   refine ⟨_,rfl,?_⟩
   rw [List.take_of_length_le (by rw [X1];exact Nat.le_refl _)]
   try simp only [ZAq]
   (refine Zr ?_ ?_ ?_ rfl<;>dsimp only [Ze,Zp,ZC,Zl,Za,Zm,id,go_sem,rA,rM,rS]<;>simp [Ze,Zp,ZC,Zl,Za,Zm,Zc,Zf,KFR,KFL,KF,Zd,mtO,nbr])
 . dsimp only [go_sem,rA,rM,rS]
   refine ZU rfl ?_
   dsimp only [go_sem,rA,rM,rS]
   obtain ⟨hl,hE'⟩:=hE.step hh he hm
   rw [hck]
   refine Zdc (key:=kI) (val:=Zp) (sv:=sI) (L:=b1.loans) (e:=e) (since:=b.cl) (seen:=seen) (c:=b.cl) rfl rfl rfl hm hE.bk.w1.bn WS ?_
   dsimp only [go_sem,rA,rM,rS]
   refine Zv [0,1,2,3,4,5] (Zan hE.bk (by omega) hh e.2.1 p.ends he hl) rfl rfl rfl ?_ ?_ ?_
   . (repeat first | dsimp only [bH,go_sem,rA,rM,rS] | simp only [nbr])
     try simp [mtL,mtB,mtS]
   . (repeat first | dsimp only [bH,go_sem,rA,rM,rS] | simp only [nbr])
     try simp [Ze,Zp,ZC,Zl,Za,Zb,Zc,KFL,KF,hck]
   rintro _ rfl
   (repeat first | dsimp only [Ym,bH,go_sem,rA,rM,rS] | simp only [nbr])
   refine ⟨(m+1,Yb p c1 e.2.1 p.ends e.2.2,Xf p c1 b1 e.2.1 p.ends e.2.2,seen ++ [e.1]),hE',?_,?_⟩
   . have:=Zcc (L:=b1.loans) (k:=e.2.1) (by rw [hE.bk.lo,hl];rfl)
     simp only [Xf];omega
   dsimp only [bH,Xf,go_sem,rA,rM,rS]
   (refine Zh ?_ ?_ ?_ rfl rfl<;>dsimp only [Ze,Zp,ZC,Zl,Za,id,go_sem,rA,rM,rS]<;>simp [Ze,Zp,ZC,Zl,Za,Zc,Zf,KFR,KFL,KF,Zd,mtO,nbr])
end Go.Proofs.Ythilckbkffjliaa
namespace Go.Azalai
open Go.Sx
theorem Zc1 {ends:Int}:∀ {l:List Letter} {seen:List Int},(Wq ends seen l).length<=l.length
 | [],_=>by simp [Wq]
 | x :: l,seen=>by
  have h:=Zc1 (ends:=ends) (l:=l) (seen:=x.id :: seen)
  simp only [Wq]
  split
  . simp;omega
  . simp;omega
theorem W1 {p:Pact} {l:List Letter}:(YD p l).length<=l.length:=by
 rw [YD,W3.length_eq];exact Zc1
theorem VD {p:Pact} {l:List Letter} (h:YB p l=0):ZK p=true/\l.length<=100/\(∀ x ∈ l,Zn p x=true)/\ZbY l=false:=by
 unfold YB at h
 split at h
 . cases h
 rename_i h1
 split at h
 . cases h
 rename_i h2
 split at h
 . cases h
 rename_i h3
 split at h
 . cases h
 rename_i h4
 refine ⟨by simpa using h1,by omega,?_,by simpa using h4⟩
 rw [Bool.not_eq_false] at h3
 exact List.all_eq_true.1 h3
theorem U4 {p:Pact} {l:List Letter} (h:YB p l=0):∀ x ∈ YD p l,Zn p x=true:=fun x hx=>by
 obtain ⟨_,_,h3,h4⟩:=VD h
 exact h3 x ((VW h4).1 hx).1
def Wv (p:Pact) (l:List Letter):List Int:=if YB p l=0 then Yl p (YD p l) else []
def ZfX (p:Pact) (l:List Letter):List Int:=if YB p l=0 then ZcD p co0 (YD p l) else []
end Go.Azalai
namespace Go.Proofs.Ythilckbkffjliaa
open Go Go.Sx Go.Azalai
def bHo (o:Nat) (p:Pact) (b:Bks):List (Nat × HB):=[(o,.map (mpS kI Zp b.loans) b.cl),(o+1,.map (mpS kI Zl b.dead) b.cd),(o+2,.map (mpS kI Zl b.known) b.ck),(o+3,.map (mpS kP ZC b.debts) b.cb),(o+4,.map (mpS kI ZC b.extra) b.ce),
 (o+5,.cells [.sl false 3 (p.partners.map Za),I p.calf,I p.hire,I p.ends,.mp o,.mp (o+1),.mp (o+2),.mp (o+3),.mp (o+4),I b.result] 103)]
theorem ZjB {K V:Type} {key:K->Value} {val:V->SV}:mpS key val ([]:List (Nat × K × V))=[]:=rfl
theorem Zbw (p:Pact) (hp:ZK p=true) (l:List Letter) (hl:∀ x ∈ l,Zn p x=true) (h100:l.length<=400) (k:Bool) :
 Ct Try.prog 56 [.agg (Zg p),.sl k 8 (l.map Zb)] (.sl false 1 ((Yl p l).map Zm)):=by
 refine t56.1 (by simp [Zg,Za,Zb,Zc,KFL,KF]) (by simp [Zc,Zm,KFL,KF]) ?_
 dsimp only [c56,r56,Zg,go_sem,rA,rM,rS]
 refine Zv [] (Zfk p) rfl rfl rfl ?_ ?_ ?_
 . (repeat first | dsimp only [Zg,go_sem,rA,rM,rS] | simp only [nbr])
   try simp [mtL,mtB,mtS,Zc,KFL,KF,Za]
 . trivial
 rintro _ rfl
 (repeat first | dsimp only [Zdm,go_sem,rA,rM,rS] | simp only [nbr])
 refine Zv [2,3,4,5,6,7] (ZkC p ZdD l k) rfl rfl rfl ?_ ?_ ?_
 . (repeat first | dsimp only [bH,go_sem,rA,rM,rS] | simp only [nbr])
   try simp [mtL,mtB,mtS,Zc,KFL,KF,Zb]
 . (repeat first | dsimp only [bH,ZdD,go_sem,rA,rM,rS] | simp only [nbr])
   try simp [mpS,Za,Zc,KFL,KF]
 rintro _ rfl
 (repeat first | dsimp only [rsH,bH,ZdD,go_sem,rA,rM,rS] | simp only [nbr])
 refine gh Yk ?_
 (repeat first | dsimp only [go_sem,rA,rM,rS] | simp only [nbr])
 refine ⟨b71,fun rec=>?_⟩
 refine y71 ?_
 (repeat first | dsimp only [c71,r71,go_sem,rA,rM,rS] | simp only [nbr])
 refine Zv [] Za1 rfl rfl rfl ?_ ?_ ?_
 . (repeat first | dsimp only [go_sem,rA,rM,rS] | simp only [nbr])
   try simp [mtL,mtB,mtS]
 . trivial
 rintro _ rfl
 (repeat first | dsimp only [go_sem,rA,rM,rS] | simp only [nbr])
 simp only [List.length_map]
 refine YM (fun s:Nat × Bks=>[(10,I (s.1:Nat))]) (fun s=>bHo 2 p s.2) (fun s=>s.1<=l.length/\BkR s.1 (WT p co0 (l.take s.1)) s.2) (fun s=>l.length - s.1) (0,ZdD) ⟨Nat.zero_le _,BkR.start⟩ ?_ ?_
 . dsimp only [bHo,ZdD,go_sem,rA,rM,rS]
   (refine Zh ?_ ?_ ?_ rfl rfl<;>dsimp only [ZjB,Ze,Za,Zb,Xa,id,go_sem,rA,rM,rS]<;>simp [ZjB,Ze,Za,Zb,Xa,Zc,Zf,KFR,KFL,KF,Zd,mtO,nbr])
 rintro ⟨j,b⟩ ⟨hj,hb⟩
 simp only at hj hb
 dsimp only [bHo,go_sem,rA,rM,rS]
 by_cases hlt:j < l.length
 . refine ZU (by simpa using hlt) ?_
   dsimp only [go_sem,rA,rM,rS]
   refine ZQ j hlt rfl ?_
   dsimp only [Zb,go_sem,rA,rM,rS]
   have hx:=hl l[j] (List.getElem_mem _)
   obtain ⟨ka,kb',hkg⟩:=Zfw (Zfc hx)
   refine YW (key:=kB) (val:=Xa) (sv:=fun n=>.v (kB n)) (L:=ZM) (k:=l[j].kind) (zs:=zk) rfl rfl Zhg ZkK rfl ZdU zk_R (fun v hg=>?_) (fun hg=>?_)
   case refine_2=>rw [hkg] at hg;cases hg
   rw [hkg] at hg
   cases hg
   dsimp only [Xa,go_sem,rA,rM,rS]
   refine Zv [2,3,4,5,6,7] (Zrf hb (by omega) hp l[j] hx) rfl rfl rfl ?_ ?_ ?_
   . (repeat first | dsimp only [bH,go_sem,rA,rM,rS] | simp only [nbr])
     try simp [mtL,mtB,mtS,Zb]
   . (repeat first | dsimp only [bH,go_sem,rA,rM,rS] | simp only [nbr])
     try simp [Ze,Zp,ZC,Zl,Za,Zb,Zc,KFL,KF]
   rintro _ ⟨b2,hb2,rfl⟩
   (repeat first | dsimp only [Zg9,bH,go_sem,rA,rM,rS] | simp only [nbr])
   refine ⟨trivial,trivial,?_⟩
   (repeat first | dsimp only [go_sem,rA,rM,rS] | simp only [nbr])
   refine ⟨trivial,?_⟩
   refine ZH rfl ?_
   (repeat first | dsimp only [go_sem,rA,rM,rS] | simp only [nbr])
   rw [Zk (n:=(j:Int)+1) (by omega) (by omega)]
   refine ⟨(j+1,b2),⟨hlt,by rw [ZeN hlt];exact hb2⟩,by simp only;omega,?_⟩
   dsimp only [bHo,go_sem,rA,rM,rS]
   (refine Zh ?_ ?_ ?_ rfl rfl<;>dsimp only [Ze,Za,Zb,Xa,Zp,ZC,Zl,id,go_sem,rA,rM,rS]<;>simp [Ze,Za,Zb,Xa,Zp,ZC,Zl,Zc,Zf,KFR,KFL,KF,Zd,mtO,nbr])
 refine ZH (by simpa using hlt) ?_
 dsimp only [go_sem,rA,rM,rS]
 have hjl:j=l.length:=by omega
 subst hjl
 rw [List.take_length] at hb
 have hc:=CoOk.run (p:=p) CoOk.co0 hl
 have hd:=Ze5.run (p:=p) Ze5.co0 hl
 (repeat first | dsimp only [go_sem,rA,rM,rS] | simp only [nbr])
 refine Zv [2,3,4,5,6,7] (ZxB hp hb h100 hc hd) rfl rfl rfl ?_ ?_ ?_
 . (repeat first | dsimp only [bH,go_sem,rA,rM,rS] | simp only [nbr])
   try simp [mtL,mtB,mtS,Zb]
 . (repeat first | dsimp only [bH,go_sem,rA,rM,rS] | simp only [nbr])
   try simp [Ze,Zp,ZC,Zl,Za,Zb,Zc,KFL,KF]
 rintro _ rfl
 (repeat first | dsimp only [ZAq,go_sem,rA,rM,rS] | simp only [nbr])
 rfl
theorem u29 {args:List SV} {res:SV} (ka:KFL args) (kr:KF res) (h:sx Try.prog Y0 0 c29 (st0 args 20) (ZvA r29 res)) (hA:Nat.ble args.length 20=true:=by rfl):Ct Try.prog 29 args res:=Uc Try.func29 rfl b29 Zxo Zxy n29 (Nat.le_of_ble_eq_true hA) ka kr h
theorem ZaS (p:Pact) (l:List Letter) (hs:YY p) (hl:l.length<=1000) (c:Bool):Ct Try.prog 29 [.agg (Zg p),.sl c 8 (l.map Zb)] (.tup [.sl false 1 ((Wv p l).map Zm),I (YB p l)]):=by
 refine u29 (by simp [Zg,Za,Zb,Zc,KFL,KF]) (by simp [Zc,Zm,KFL,KF]) ?_
 dsimp only [c29,r29,Zg,go_sem,rA,rM,rS]
 refine call (ZdV p l hs hl c) ?_
 dsimp only [go_sem,rA,rM,rS]
 by_cases h0:YB p l=0
 case neg =>
  refine ZU (by simpa using h0) ?_
  dsimp only [go_sem,rA,rM,rS]
  refine ⟨_,rfl,?_⟩
  rw [Wv,if_neg h0]
  exact Zac (Wk Ue fun _ _ _ _ _ h=>h)
 refine ZH (by simpa using h0) ?_
 dsimp only [go_sem,rA,rM,rS]
 obtain ⟨hp,h100,-,-⟩:=VD h0
 have hr:VR p l=YD p l:=by rw [VR,if_pos h0]
 have hlen:=W1 (p:=p) (l:=l)
 rw [hr]
 refine call (Zbw p hp (YD p l) (U4 h0) (by omega) false) ?_
 dsimp only [go_sem,rA,rM,rS]
 refine ⟨_,rfl,?_⟩
 rw [Wv,if_pos h0,h0]
 exact ZbX.rfl
theorem u24 {args:List SV} {res:SV} (ka:KFL args) (kr:KF res) (h:sx Try.prog Y0 0 c24 (st0 args 22) (ZvA r24 res)) (hA:Nat.ble args.length 22=true:=by rfl):Ct Try.prog 24 args res:=Uc Try.func24 rfl b24 Zz9 Zz1 n24 (Nat.le_of_ble_eq_true hA) ka kr h
theorem Zhx (p:Pact) (l:List Letter) (hs:YY p) (hl:l.length<=1000) (c:Bool):Ct Try.prog 24 [.agg (Zg p),.sl c 8 (l.map Zb)] (.tup [.sl false 8 ((VR p l).map Zb),.sl false 1 ((ZfX p l).map u8L),I (YB p l)]):=by
 refine u24 (by simp [Zg,Za,Zb,Zc,KFL,KF]) (by simp [Zc,Zb,u8L,KFL,KF]) ?_
 dsimp only [c24,r24,Zg,go_sem,rA,rM,rS]
 refine call (ZdV p l hs hl c) ?_
 dsimp only [go_sem,rA,rM,rS]
 by_cases h0:YB p l=0
 case neg =>
  refine ZU (by simpa using h0) ?_
  dsimp only [go_sem,rA,rM,rS]
  refine ⟨_,rfl,?_⟩
  rw [VR,ZfX,if_neg h0,if_neg h0]
  exact Zac (Wk Ue (Wk Ue fun _ _ _ _ _ h=>h))
 refine ZH (by simpa using h0) ?_
 dsimp only [go_sem,rA,rM,rS]
 obtain ⟨hp,h100,-,-⟩:=VD h0
 have hr:VR p l=YD p l:=by rw [VR,if_pos h0]
 have hlen:=W1 (p:=p) (l:=l)
 have hw:ZfX p l=ZcD p co0 (YD p l):=by rw [ZfX,if_pos h0]
 rw [hr,hw,h0]
 have hX:=U4 h0
 generalize YD p l=X at *
 refine Zv [] (Zfk p) rfl rfl rfl ?_ ?_ ?_
 . (repeat first | dsimp only [Zg,go_sem,rA,rM,rS] | simp only [nbr])
   try simp [mtL,mtB,mtS,Zc,KFL,KF,Za]
 . trivial
 rintro _ rfl
 (repeat first | dsimp only [Zdm,go_sem,rA,rM,rS] | simp only [nbr])
 refine Zv [2,3,4,5,6,7] (ZkC p ZdD X false) rfl rfl rfl ?_ ?_ ?_
 . (repeat first | dsimp only [bH,go_sem,rA,rM,rS] | simp only [nbr])
   try simp [mtL,mtB,mtS,Zc,KFL,KF,Zb]
 . (repeat first | dsimp only [bH,ZdD,go_sem,rA,rM,rS] | simp only [nbr])
   try simp [mpS,Za,Zc,KFL,KF]
 rintro _ rfl
 (repeat first | dsimp only [rsH,bH,ZdD,go_sem,rA,rM,rS] | simp only [nbr])
 refine Zv [2,3,4,5,6,7,8,9] (ZsJ p hp X hX (by omega) false) rfl rfl rfl ?_ ?_ ?_
 . (repeat first | dsimp only [go_sem,rA,rM,rS] | simp only [nbr])
   try simp [mtL,mtB,mtS]
 . (repeat first | dsimp only [rsH,bH,ZdD,go_sem,rA,rM,rS] | simp only [nbr])
   try simp [mpS,Za,Zc,KFL,KF,Zb]
 rintro _ ⟨b,hb,rfl⟩
 (repeat first | dsimp only [Zrq,rsH,bH,go_sem,rA,rM,rS] | simp only [nbr])
 refine ⟨_,rfl,?_⟩
 exact ZbX.rfl
end Go.Proofs.Ythilckbkffjliaa
namespace Go.Sx
open Go Go.RowKit
theorem Vg {P:Program} {d:Option Nat} {op:BinOp} {t t' ty:TypeId} {ax bx:Operand} {x y v:Value} {σ : St} {r:KT} {K:RK} (ha:Vq σ ax = .v x) (hb:Vq σ bx = .v y) (hop:op = .and\/op = .shr\/op = .shl) (hr:∀ w:World,(binOp op t x y).run P w = .ok v w) (hk:Yr d (.v v) none σ r K) :
 RAW P d (.binOp op t ax bx t') ty σ r K:=by
 intro o C E a w next Q e1 e2 e3 hS hn hq
 have hx:=XW hS ha (fun _ _ _=>by simp)
 have hy:=XW hS hb (fun _ _ _=>by simp)
 simp only [R] at hx hy
 have hrun:(execOp a.eval o).run P w = .ok (.value v) w:=by
  obtain ⟨dst',op',ty',pos,after,guard⟩:=o
  simp only at e2;subst e2
  simp only [execOp,hx,hy]
  rcases hop with rfl | rfl | rfl<;>simp [Sem.run_bind,eqGuard,hr]
 refine Zz hrun (by simp) ?_
 show next (a.put o.dst v) w
 rw [e1]
 exact WJ hk hS (by simp only [R]) hn
end Go.Sx
