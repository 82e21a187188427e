/- Walks and plain laws that lead to the given statement, part 7 of 9. -/
import Derived.Test.YthilckbkffjliaaCF
import Derived.Recover
import Derived.Test.YthilckbkffjliaaProg
set_option linter.all false
open Nat renaming reduceAdd→rA,reduceMul→rM,reduceSub→rS,beq_refl→nbr
set_option maxRecDepth 100000
set_option maxHeartbeats 4000000
namespace Go.Proofs.Ythilckbkffjliaa
open Go Go.Sx Go.Azalai
theorem stb_ok (v n:Nat) (l:List LO) (hn:n=l.length) (hL:l.length < 1152921504606846976) :
 CtM Try.prog 109 [(0,.row v 8 (l.map loL) 50),(1,byH)] 2 [.mr 0 v,I n,.cl 88 [.p 1 0]] (fun o=>∃ l',PIn 0 n l l'∧Srt loK 0 n l'∧o=rowO v l'):=by
 refine m109 (by simp [hpb]) (fun o ho=>by obtain ⟨l',_,_,rfl⟩:=ho;simp [rowO,byH,KX,KXL,KXP,KXH,KFR_iff,KFR,KFL,KF,loL]) ?_
 dsimp only [c109,r109,go_sem,rA,rM,rS]
 refine loopO (fun s:Nat × List LO=>[(7,I (20 * s.1:Nat)),(8,I (20 * s.1+20:Nat))]) (fun s=>[(0,.row v 8 (s.2.map loL) 50)]) (fun s=>20 * s.1≤n∧PIn 0 n l s.2∧Blk loK 20 0 (20 * s.1) s.2) (fun s=>n - 20 * s.1) (0,l) ⟨by simp only;omega,.refl _ _ _,blk_none loK⟩ ?_ ?_
 · (refine ent_id ?_ ?_ ?_ rfl rfl<;>dsimp only [loL,id,go_sem,rA,rM,rS]<;>simp [loL,KFR_iff,KFR_app,KFR,KFL,KF,mtL_same,mtO,nbr])
 rintro ⟨c,l1⟩ ⟨hc,hp,hb⟩
 simp only at hc hp hb
 have hl1:=hp.len
 dsimp only [go_sem,rA,rM,rS]
 by_cases hlt:20 * c+20≤n
 · refine br_t (by simp;omega) ?_
   dsimp only [go_sem,rA,rM,rS]
   refine callmP [0,1] (inss_ok v (20 * c) (20 * c+20) l1 (by omega) (by omega) (by omega)) rfl rfl rfl ?_ ?_ ?_
   · (repeat first | dsimp only [go_sem,rA,rM,rS] | simp only [nbr])
     simp [mtL,mtB,mtS]
   · (repeat first | dsimp only [go_sem,rA,rM,rS] | simp only [nbr])
     simp [KFR_iff,KFR,loL,KFL,KF]
   rintro _ ⟨l2,hp2,hs2,rfl⟩
   (repeat first | dsimp only [rowO,go_sem,rA,rM,rS] | simp only [nbr])
   rw [w64_in (n:=((20 * c+20:Nat):Int)+20) (by omega) (by omega)]
   refine ⟨(c+1,l2),⟨by simp only;omega,hp.trans (hp2.mono (by omega) (by omega)),?_⟩,by simp only;omega,?_⟩
   · exact blk_step loK (by omega) hb hp2 hs2
   rw [show ((20 * c+20:Nat):Int)+20=((20 * (c+1)+20:Nat):Int) from by omega,show 20 * c+20=20 * (c+1) from by omega]
   (refine ent_id ?_ ?_ ?_ rfl rfl<;>dsimp only [loL,id,go_sem,rA,rM,rS]<;>simp [loL,KFR_iff,KFR_app,KFR,KFL,KF,mtL_same,mtO,nbr])
 refine br_f (by simp;omega) ?_
 dsimp only [go_sem,rA,rM,rS]
 refine callmP [0,1] (inss_ok v (20 * c) n l1 (by omega) (by omega) (by omega)) rfl rfl rfl ?_ ?_ ?_
 · (repeat first | dsimp only [go_sem,rA,rM,rS] | simp only [nbr])
   simp [mtL,mtB,mtS]
 · (repeat first | dsimp only [go_sem,rA,rM,rS] | simp only [nbr])
   simp [KFR_iff,KFR,loL,KFL,KF]
 rintro _ ⟨l2,hp2,hs2,rfl⟩
 (repeat first | dsimp only [rowO,go_sem,rA,rM,rS] | simp only [nbr])
 have hb2:=blk_step loK (by omega) hb hp2 hs2
 refine loopO (fun s:Nat × List LO × Int × Int=>[(6,I (s.1:Nat)),(7,I s.2.2.1),(8,I s.2.2.2)]) (fun s=>[(0,.row v 8 (s.2.1.map loL) 50)]) (fun s=>(0 < s.1∧s.1≤2 * n+20)∧PIn 0 n l s.2.1∧Blk loK s.1 0 n s.2.1) (fun s=>n - s.1) (20,l2,((20 * c:Nat):Int),((20 * c+20:Nat):Int)) ⟨by simp only;omega,hp.trans (hp2.mono (by omega) (by omega)),hb2⟩ ?_ ?_
 · (refine ent_id ?_ ?_ ?_ rfl rfl<;>dsimp only [loL,id,go_sem,rA,rM,rS]<;>simp [loL,KFR_iff,KFR_app,KFR,KFL,KF,mtL_same,mtO,nbr])
 rintro ⟨s,l3,z1,z2⟩ ⟨⟨hs0,hs1⟩,hp3,hb3⟩
 simp only at hs0 hs1 hp3 hb3
 have hl3:=hp3.len
 dsimp only [go_sem,rA,rM,rS]
 by_cases hlt:s < n
 case neg =>
  refine br_f (by simp;omega) ?_
  dsimp only [go_sem,rA,rM,rS]
  refine ⟨_,⟨l3,hp3,?_,rfl⟩,?_⟩
  · have:=blk_srt loK (c:=0) hb3 (Nat.zero_le _) (show n≤s * 0+s by omega) (Nat.le_refl _)
    rwa [Nat.mul_zero] at this
  · try simp only [rowO]
    (refine entO_id ?_ ?_ ?_ rfl<;>dsimp only [loL,id,go_sem,rA,rM,rS]<;>simp [loL,KFR_iff,KFR_app,KFR,KFL,KF,mtL_same,mtO,nbr])
 refine br_t (by simp;omega) ?_
 dsimp only [go_sem,rA,rM,rS]
 rw [w64_in (n:=2 * (s:Int)) (by omega) (by omega)]
 refine loopO (fun z:Nat × List LO=>[(7,I (2 * s * z.1:Nat)),(8,I (2 * s * z.1+2 * s:Nat))]) (fun z=>[(0,.row v 8 (z.2.map loL) 50)]) (fun z=>2 * s * z.1≤n∧PIn 0 n l z.2∧Blk loK (2 * s) 0 (2 * s * z.1) z.2∧Blk loK s (2 * s * z.1) n z.2) (fun z=>n - 2 * s * z.1) (0,l3) ⟨by simp only;omega,hp3,blk_none loK,hb3⟩ ?_ ?_
 · rw [show 2 * (s:Int)=((2 * s * 0+2 * s:Nat):Int) from by omega]
   (refine ent_id ?_ ?_ ?_ rfl rfl<;>dsimp only [loL,id,go_sem,rA,rM,rS]<;>simp [loL,KFR_iff,KFR_app,KFR,KFL,KF,mtL_same,mtO,nbr])
 rintro ⟨c',l4⟩ ⟨hc4,hp4,hb4,hb5⟩
 simp only at hc4 hp4 hb4 hb5
 have hl4:=hp4.len
 have e5:s * (2 * c')=2 * s * c':=by rw [← Nat.mul_assoc,Nat.mul_comm s 2]
 have e6:s * (2 * c'+1)=2 * s * c'+s:=by rw [Nat.mul_add,e5,Nat.mul_one]
 have e7:2 * s * (c'+1)=2 * s * c'+2 * s:=by rw [Nat.mul_add,Nat.mul_one]
 dsimp only [go_sem,rA,rM,rS]
 have hq1:2 * s * c'+s≤n→Srt loK (2 * s * c') (2 * s * c'+s) l4:=fun h=>by
  have:=blk_srt loK (c:=2 * c') (b:=2 * s * c'+s) hb5 (by omega) (by omega) (by omega)
  rwa [e5] at this
 have hq2:∀ b,b≤2 * s * c'+2 * s→b≤n→Srt loK (2 * s * c'+s) b l4:=fun b h1 h2=>by
  have:=blk_srt loK (c:=2 * c'+1) (b:=b) hb5 (by omega) (by omega) (by omega)
  rwa [e6] at this
 have hstep:∀ b l',PIn (2 * s * c') b l4 l'→Srt loK (2 * s * c') b l'→Blk loK (2 * s) 0 b l':=fun b l' h1 h2=>blk_step loK (by omega) hb4 h1 h2
 have hlast:n≤2 * s * c'+s→Blk loK (2 * s) 0 n l4:=fun h=>by
  have:=blk_srt loK (c:=2 * c') (b:=n) hb5 (by omega) (by omega) (by omega)
  rw [e5] at this
  exact hstep n l4 (.refl _ _ _) this
 clear hb4
 clear e5 e6
 generalize ha:2 * s * c'=a at *
 by_cases hlt2:a+2 * s≤n
 · refine br_t (by simp;omega) ?_
   dsimp only [go_sem,rA,rM,rS]
   rw [w64_in (n:=(a:Int)+(s:Int)) (by omega) (by omega),show (a:Int)+(s:Int)=((a+s:Nat):Int) from by omega]
   refine callmP [0,1] (sym_ok v _ a (a+s) (a+2 * s) l4 (Nat.le_refl _) (by omega) (by omega) (by omega) (by omega) (hq1 (by omega)) (hq2 _ (by omega) (by omega))) rfl rfl rfl ?_ ?_ ?_
   · (repeat first | dsimp only [go_sem,rA,rM,rS] | simp only [nbr])
     simp [mtL,mtB,mtS]
   · (repeat first | dsimp only [go_sem,rA,rM,rS] | simp only [nbr])
     simp [KFR_iff,KFR,loL,KFL,KF]
   rintro _ ⟨l5,hp5,hs5,rfl⟩
   (repeat first | dsimp only [rowO,go_sem,rA,rM,rS] | simp only [nbr])
   rw [w64_in (n:=2 * (s:Int)) (by omega) (by omega),w64_in (n:=((a+2 * s:Nat):Int)+2 * (s:Int)) (by omega) (by omega)]
   refine ⟨(c'+1,l5),⟨by simp only;omega,hp4.trans (hp5.mono (by omega) (by omega)),?_,?_⟩,by simp only [e7,ha];omega,?_⟩
   · simp only;rw [e7];exact hstep _ _ hp5 hs5
   · simp only;rw [e7];exact blk_rest loK hb5 hp5 (by omega)
   · simp only [e7]
     rw [show ((a+2 * s:Nat):Int)+2 * (s:Int)=((a+2 * s+2 * s:Nat):Int) from by omega]
     (refine ent_id ?_ ?_ ?_ rfl rfl<;>dsimp only [loL,id,go_sem,rA,rM,rS]<;>simp [loL,KFR_iff,KFR_app,KFR,KFL,KF,mtL_same,mtO,nbr])
 refine br_f (by simp;omega) ?_
 dsimp only [go_sem,rA,rM,rS]
 rw [w64_in (n:=(a:Int)+(s:Int)) (by omega) (by omega),show (a:Int)+(s:Int)=((a+s:Nat):Int) from by omega]
 by_cases hm:a+s < n
 · refine br_t (by simp;omega) ?_
   dsimp only [go_sem,rA,rM,rS]
   refine callmP [0,1] (sym_ok v _ a (a+s) n l4 (Nat.le_refl _) (by omega) (by omega) (by omega) (by omega) (hq1 (by omega)) (hq2 _ (by omega) (by omega))) rfl rfl rfl ?_ ?_ ?_
   · (repeat first | dsimp only [go_sem,rA,rM,rS] | simp only [nbr])
     simp [mtL,mtB,mtS]
   · (repeat first | dsimp only [go_sem,rA,rM,rS] | simp only [nbr])
     simp [KFR_iff,KFR,loL,KFL,KF]
   rintro _ ⟨l5,hp5,hs5,rfl⟩
   (repeat first | dsimp only [rowO,go_sem,rA,rM,rS] | simp only [nbr])
   rw [w64_in (n:=(s:Int) * 2) (by omega) (by omega),show (s:Int) * 2=((2 * s:Nat):Int) from by omega]
   refine ⟨(2 * s,l5,(a:Int),((a+2 * s:Nat):Int)),⟨by simp only;omega,hp4.trans (hp5.mono (by omega) (by omega)),hstep _ _ hp5 hs5⟩,by simp only;omega,?_⟩
   (refine ent_id ?_ ?_ ?_ rfl rfl<;>dsimp only [loL,id,go_sem,rA,rM,rS]<;>simp [loL,KFR_iff,KFR_app,KFR,KFL,KF,mtL_same,mtO,nbr])
 refine br_f (by simp;omega) ?_
 dsimp only [go_sem,rA,rM,rS]
 rw [w64_in (n:=(s:Int) * 2) (by omega) (by omega),show (s:Int) * 2=((2 * s:Nat):Int) from by omega]
 refine ⟨(2 * s,l4,(a:Int),((a+2 * s:Nat):Int)),⟨by simp only;omega,hp4,hlast (by omega)⟩,by simp only;omega,?_⟩
 (refine ent_id ?_ ?_ ?_ rfl rfl<;>dsimp only [loL,id,go_sem,rA,rM,rS]<;>simp [loL,KFR_iff,KFR_app,KFR,KFL,KF,mtL_same,mtO,nbr])
theorem sort_ok (v:Nat) (l:List LO) (hL:l.length < 1152921504606846976) :
 CtM Try.prog 87 [(0,.row v 8 (l.map loL) 50),(1,byH)] 2 [.mr 0 v,.cl 88 [.p 1 0]] (fun o=>∃ l',PIn 0 l.length l l'∧Srt loK 0 l.length l'∧o=rowO v l'):=by
 refine m87 (by simp [hpb]) (fun o ho=>by obtain ⟨l',_,_,rfl⟩:=ho;simp [rowO,byH,KX,KXL,KXP,KXH,KFR_iff,KFR,KFL,KF,loL]) ?_
 dsimp only [c87,r87,go_sem,rA,rM,rS]
 (repeat first | dsimp only [go_sem,rA,rM,rS] | simp only [nbr])
 simp only [List.length_map]
 refine callmP [0,1] (stb_ok v l.length l rfl hL) rfl rfl rfl ?_ ?_ ?_
 · (repeat first | dsimp only [go_sem,rA,rM,rS] | simp only [nbr])
   simp [mtL,mtB,mtS]
 · (repeat first | dsimp only [go_sem,rA,rM,rS] | simp only [nbr])
   simp [KFR_iff,KFR,loL,KFL,KF]
 rintro _ ⟨l5,hp5,hs5,rfl⟩
 (repeat first | dsimp only [rowO,go_sem,rA,rM,rS] | simp only [nbr])
 refine ⟨_,⟨l5,hp5,hs5,rfl⟩,?_⟩
 try simp only [rowO]
 (refine entO_id ?_ ?_ ?_ rfl<;>dsimp only [loL,id,go_sem,rA,rM,rS]<;>simp [loL,KFR_iff,KFR_app,KFR,KFL,KF,mtL_same,mtO,nbr])
end Go.Proofs.Ythilckbkffjliaa
set_option maxRecDepth 100000
set_option maxHeartbeats 4000000
namespace Go.Azalai
def loV (x:LO):Letter:=x.1
def smallL (l:List Letter):Prop:=∀ x ∈ l,0≤x.id∧x.id≤9999
theorem lo_ex:∀ {l:List Letter},smallL l→∃ L:List LO,L.map loV=l
 | [],_=>⟨[],rfl⟩
 | x :: l,h=>by
  obtain ⟨L,hL⟩:=lo_ex (l:=l) fun y hy=>h y (by simp [hy])
  let x':LO:=⟨x,h x (by simp)⟩
  have e:loV x'=x:=rfl
  exact ⟨x' :: L,by rw [List.map_cons,hL,e]⟩
theorem srt_lo {L L':List LO} (hp:L'.Perm L) (hs:Srt loK 0 L.length L') (hn:((L.map loV).map (·.id)).Nodup):L'.map loV=srtL (L.map loV):=by
 have hlen:=hp.length_eq
 have hn':((L'.map loV).map (·.id)).Nodup:=(((hp.map _).map _).nodup_iff).2 hn
 refine ord_uniq ?_ (srtL_ord hn) fun x=>by rw [srtL_perm.mem_iff,(hp.map _).mem_iff]
 rw [List.pairwise_map,List.pairwise_iff_getElem]
 intro i j hi hj hij
 have h:=hs i j (Nat.zero_le _) hij (by omega)
 rw [ky_eq loK (by omega),ky_eq loK (by omega)] at h
 rw [List.map_map,List.nodup_iff_pairwise_ne,List.pairwise_map,List.pairwise_iff_getElem] at hn'
 have hne:=hn' i j hi hj hij
 have h1:0≤(loV L'[i]).id∧(loV L'[i]).id≤9999:=L'[i].2
 have h2:0≤(loV L'[j]).id∧(loV L'[j]).id≤9999:=L'[j].2
 have h:(loV L'[i]).day * 10000+(loV L'[i]).id≤(loV L'[j]).day * 10000+(loV L'[j]).id:=h
 have hne:(loV L'[i]).id≠(loV L'[j]).id:=hne
 generalize loV L'[i]=a at *
 generalize loV L'[j]=b at *
 simp only [lt2,Bool.or_eq_true,Bool.and_eq_true,decide_eq_true_eq]
 omega
end Go.Azalai
namespace Go.Proofs.Ythilckbkffjliaa
open Go Go.Sx Go.Azalai
theorem lo_rows (L:List LO):(L.map loV).map letterL=L.map loL:=by rw [List.map_map];rfl
theorem clone_ok (l:List LO) (hL:l.length≤1000) (k:Bool):CtM Try.prog 86 [] 0 [.sl k 8 (l.map loL)] (fun o=>o=⟨false,.mr 0 0,[(0,.row 0 8 (l.map loL) 50)],1⟩):=by
 refine m86 (by simp [hpb]) (fun o ho=>by subst ho;simp [KX,KXL,KXP,KXH,KFR_iff,KFL,KF,loL]) ?_
 dsimp only [c86,r86,go_sem,rA,rM,rS]
 intro b hb
 dsimp only [go_sem,rA,rM,rS]
 cases b with
 | true =>
  have hl:l=[]:=by simpa using hb rfl
  subst hl
  refine br_t rfl ?_
  dsimp only [go_sem,rA,rM,rS]
  refine ⟨_,rfl,?_⟩
  refine entO_of (ent_trans (ent_nilslot 0 8 50 rfl rfl) ?_) (fun _ _ _ e=>by cases e)
  (refine ent_id ?_ ?_ ?_ rfl rfl<;>dsimp only [loL,id,go_sem,rA,rM,rS]<;>simp [loL,KFR_iff,KFR_app,KFR,KFL,KF,mtL_same,mtO,nbr])
 | false =>
  refine br_f rfl ?_
  dsimp only [go_sem,rA,rM,rS]
  refine ⟨by simp;omega,?_⟩
  dsimp only [go_sem,rA,rM,rS]
  refine ⟨_,rfl,?_⟩
  (refine entO_id ?_ ?_ ?_ rfl<;>dsimp only [loL,id,go_sem,rA,rM,rS]<;>simp [loL,KFR_iff,KFR_app,KFR,KFL,KF,mtL_same,mtO,nbr])
theorem arr_ok (l:List Letter) (hl:smallL l) (hn:(l.map (·.id)).Nodup) (hL:l.length≤1000) (k:Bool):Ct Try.prog 67 [.sl k 8 (l.map letterL),.sl true 1 [[.cl 68 []],[.cl 69 []]]] (.sl false 8 ((srtL l).map letterL)):=by
 obtain ⟨L,rfl⟩:=lo_ex hl
 rw [lo_rows]
 have hL:L.length≤1000:=by simpa using hL
 refine t67 (by simp [KFR_iff,KFR,loL,KFL,KF]) (by simp [KFR_iff,letterL,KFL,KF]) ?_
 dsimp only [c67,r67,go_sem,rA,rM,rS]
 refine callmP [] (clone_ok L hL k) rfl rfl rfl ?_ ?_ ?_
 · (repeat first | dsimp only [go_sem,rA,rM,rS] | simp only [nbr])
   try simp [mtL,mtB,mtS,KFR_iff,KFL,KF,loL]
 · trivial
 rintro _ rfl
 (repeat first | dsimp only [go_sem,rA,rM,rS] | simp only [nbr])
 refine gh ent_refl ?_
 (repeat first | dsimp only [go_sem,rA,rM,rS] | simp only [nbr])
 refine callmP [1,0] (sort_ok 0 L (by omega)) rfl rfl rfl ?_ ?_ ?_
 · (repeat first | dsimp only [go_sem,rA,rM,rS] | simp only [nbr])
   try simp [mtL,mtB,mtS]
 · (repeat first | dsimp only [go_sem,rA,rM,rS] | simp only [nbr])
   simp [KFR_iff,KFR,loL,KFL,KF]
 rintro _ ⟨L',hp,hs,rfl⟩
 (repeat first | dsimp only [rowO,go_sem,rA,rM,rS] | simp only [nbr])
 refine gh (ent_frz 0 1 0 rfl rfl rfl rfl) ?_
 (repeat first | dsimp only [go_sem,rA,rM,rS] | simp only [nbr])
 rw [← srt_lo hp.perm hs hn,lo_rows]
end Go.Proofs.Ythilckbkffjliaa
set_option maxRecDepth 100000
set_option maxHeartbeats 4000000
namespace Go.Azalai
theorem onceL_snoc {ends:Int} {x:Letter}:∀ {a:List Letter} {seen:List Int},onceL ends seen (a ++ [x])=onceL ends seen a ++ (if (x.id ∈ seen∨x.id ∈ a.map (·.id))∨x.day > ends then [] else [x])
 | [],seen=>by
  simp only [List.nil_append,onceL,List.map_nil,List.not_mem_nil,or_false]
 | y :: a,seen=>by
  have ih:=onceL_snoc (ends:=ends) (x:=x) (a:=a) (seen:=y.id :: seen)
  have e:((x.id ∈ y.id :: seen∨x.id ∈ a.map (·.id))∨x.day > ends)↔((x.id ∈ seen∨x.id ∈ (y :: a).map (·.id))∨x.day > ends):=by
   simp only [List.mem_cons,List.map_cons];grind
  rw [List.cons_append]
  simp only [onceL]
  rw [ih]
  by_cases h:y.id ∈ seen∨y.day > ends
  · rw [if_pos h,if_pos h];simp only [e]
  · rw [if_neg h,if_neg h,List.cons_append];simp only [e]
structure PreR (p:Pact) (l:List Letter) (k:Nat) (L:List (Nat × Int × Letter)) (c:Nat) (R:List Letter):Prop where
 le:k≤l.length
 one:∀ x ∈ l.take k,∀ y ∈ l.take k,x.id=y.id→x=y
 map:∀ id x,Go.Sx.mget id L=some x↔x ∈ l.take k∧x.id=id
 rows:R=onceL p.ends [] (l.take k)
theorem PreR.start (p:Pact) (l:List Letter):PreR p l 0 [] 0 []:=⟨Nat.zero_le _,fun x h=>by simp at h,fun id x=>by simp [Go.Sx.mget],rfl⟩
theorem PreR.step {p:Pact} {l:List Letter} {k c:Nat} {L:List (Nat × Int × Letter)} {R:List Letter} (h:PreR p l k L c R) (hk:k < l.length) (ho:Go.Sx.mget l[k].id L=none∨Go.Sx.mget l[k].id L=some l[k]) :
 PreR p l (k+1) (Go.Sx.mset c l[k].id l[k] L) (Go.Sx.mclk c l[k].id L) (if Go.Sx.mget l[k].id L=none∧l[k].day≤p.ends then R ++ [l[k]] else R):=by
 have ht:l.take (k+1)=l.take k ++ [l[k]]:=List.take_succ_eq_append_getElem hk
 have hnew:∀ x ∈ l.take k,x.id=l[k].id→x=l[k]:=fun x hx he=>by
  have:=(h.map l[k].id x).2 ⟨hx,he⟩
  rcases ho with q | q
  · rw [q] at this;cases this
  · rw [q] at this;cases this;rfl
 refine ⟨hk,fun x hx y hy he=>?_,fun id x=>?_,?_⟩
 · rw [ht,List.mem_append,List.mem_singleton] at hx hy
   rcases hx with hx | rfl<;>rcases hy with hy | rfl
   · exact h.one x hx y hy he
   · exact hnew x hx he
   · exact (hnew y hy he.symm).symm
   · rfl
 · rw [Go.Sx.mget_set,ht,List.mem_append,List.mem_singleton]
   by_cases hid:id=l[k].id
   · rw [if_pos hid]
     constructor
     · intro e;cases e;exact ⟨.inr rfl,hid.symm⟩
     · rintro ⟨hx | rfl,he⟩
       · rw [hnew x hx (by omega)]
       · rfl
   · rw [if_neg hid,h.map]
     constructor
     · rintro ⟨a,b⟩;exact ⟨.inl a,b⟩
     · rintro ⟨a | rfl,b⟩
       · exact ⟨a,b⟩
       · exact absurd b.symm hid
 · rw [ht,onceL_snoc,← h.rows]
   have hm:Go.Sx.mget l[k].id L=none↔l[k].id ∉ (l.take k).map (·.id):=by
    constructor
    · intro e hx
      obtain ⟨x,hx,he⟩:=List.mem_map.1 hx
      have:=(h.map l[k].id x).2 ⟨hx,he⟩
      rw [e] at this;cases this
    · intro hx
      rcases hq:Go.Sx.mget l[k].id L with _ | x
      · rfl
      · have:=(h.map _ _).1 hq
        exact absurd (List.mem_map.2 ⟨x,this.1,this.2⟩) hx
   by_cases hc:Go.Sx.mget l[k].id L=none∧l[k].day≤p.ends
   · rw [if_pos hc,if_neg]
     rintro ((q | q) | q)
     · cases q
     · exact hm.1 hc.1 q
     · omega
   · rw [if_neg hc,if_pos,List.append_nil]
     rcases Classical.em (Go.Sx.mget l[k].id L=none) with q | q
     · right
       rcases Classical.em (l[k].day > p.ends) with g | g
       · exact g
       · exact absurd ⟨q,by omega⟩ hc
     · left;right;exact Classical.byContradiction fun h2=>q (hm.2 h2)
theorem PreR.two {p:Pact} {l:List Letter} {k c:Nat} {L:List (Nat × Int × Letter)} {R:List Letter} (h:PreR p l k L c R) (hk:k < l.length) {y:Letter} (hg:Go.Sx.mget l[k].id L=some y) (hne:y≠l[k]):twoB l=true:=by
 rw [← Bool.not_eq_false]
 intro hf
 obtain ⟨h1,h2⟩:=(h.map _ _).1 hg
 exact hne (twoB_false hf y (List.mem_of_mem_take h1) l[k] (List.getElem_mem hk) h2)
theorem PreR.len {p:Pact} {l:List Letter} {k c:Nat} {L:List (Nat × Int × Letter)} {R:List Letter} (h:PreR p l k L c R):R.length≤l.length:=by
 have:∀ {a:List Letter} {seen:List Int},(onceL p.ends seen a).length≤a.length:=by
  intro a
  induction a with
  | nil=>intro _;simp [onceL]
  | cons x a ih =>
   intro seen
   simp only [onceL]
   split
   · have:=@ih (x.id :: seen);simp;omega
   · have:=@ih (x.id :: seen);simp;omega
 rw [h.rows]
 exact Nat.le_trans this (by simp;omega)
theorem eqLt (y x:Letter):(y.id == x.id && (y.day == x.day && (y.kind == x.kind && (y.who == x.who && (y.other == x.other && (y.animal == x.animal && (y.rials == x.rials && (y.mouth == x.mouth && true))))))))=decide (y=x):=by
 rw [Bool.eq_iff_iff]
 obtain ⟨a1,a2,a3,a4,a5,a6,a7,a8⟩:=x
 obtain ⟨b1,b2,b3,b4,b5,b6,b7,b8⟩:=y
 simp
def readR (p:Pact) (l:List Letter):List Letter:=if readE p l=0 then readL p l else []
end Go.Azalai
namespace Go.Proofs.Ythilckbkffjliaa
open Go Go.Sx Go.Azalai
theorem u114:Try.prog.underlying 114=some (.map 3 50):=by kernel_rfl
theorem u3:Try.prog.underlying 3=some (.int .i64):=by kernel_rfl
theorem key3:KeyT Try.prog 3 (fun n:Int=>.int .i64 n) (fun n=>.v (.int .i64 n)):=keyInt u3
abbrev kI:Int→Value:=fun n=>.int .i64 n
abbrev sI:Int→SV:=fun n=>.v (.int .i64 n)
def ltV (x:Letter):SV:=.agg (letterL x)
theorem u47 {args:List SV} {res:SV} (ka:KFL args) (kr:KF res) (h:sx Try.prog Y0 0 c47 (st0 args 65) (retW r47 res)) (hA:Nat.ble args.length 65=true:=by rfl):Ct Try.prog 47 args res:=ct_introW Try.func47 rfl b47 c47_ok r47_ok n47 (Nat.le_of_ble_eq_true hA) ka kr h
theorem zero50:zeroOf Try.prog 50=some (.agg #[.int .i64 0,.int .i64 0,.int .u8 0,.int .i64 0,.int .i64 0,.int .i64 0,.int .i64 0,.bool false]):=by kernel_rfl
theorem zl_R:∀ w E n ok,R w E n ok (ltV ⟨0,0,0,0,0,0,0,false⟩) (.agg #[.int .i64 0,.int .i64 0,.int .u8 0,.int .i64 0,.int .i64 0,.int .i64 0,.int .i64 0,.bool false]):=fun w E n ok=>by
 simp only [ltV,letterL,R,RL]
 exact ⟨_,rfl,_,_,rfl,rfl,_,_,rfl,rfl,_,_,rfl,rfl,_,_,rfl,rfl,_,_,rfl,rfl,_,_,rfl,rfl,_,_,rfl,rfl,_,_,rfl,rfl,rfl⟩
theorem read1_ok (p:Pact) (x:Letter) (hs:smallP p) (hp:okPact p=true):Ct Try.prog 65 [.agg (letterL x),.ps (pactL p) 0] (B (!okLetter p x)):=by
 refine t65 (by simp [pactL,partnerL,letterL,KFR_iff,KFL,KF]) (by simp [KFL,KF]) ?_
 dsimp only [c65,r65,pactL,letterL,go_sem,rA,rM,rS]
 refine call (valid_ok p x hs hp) ?_
 dsimp only [go_sem,rA,rM,rS]
theorem read_ok (p:Pact) (l:List Letter) (hs:smallP p) (hl:l.length≤1000) (c:Bool):Ct Try.prog 47 [.agg (pactL p),.sl c 8 (l.map letterL)] (.tup [.sl false 8 ((readR p l).map letterL),I (readE p l)]):=by
 refine u47 (by simp [pactL,partnerL,letterL,KFR_iff,KFL,KF]) (by simp [letterL,KFR_iff,KFL,KF]) ?_
 have hs':p.partners.length≤1000:=hs
 have herr:∀ e,readE p l=e→e≠0→Weak (.tup [.v (.slice none 0 0),I e]) (.tup [.sl false 8 ((readR p l).map letterL),I (readE p l)]):=fun e h1 h2=>by
  rw [readR,h1,if_neg h2]
  exact weak_tup (weak_cons weak_nil fun _ _ _ _ _ h=>h)
 dsimp only [c47,r47,pactL,go_sem,rA,rM,rS]
 refine call (check_ok p hs) ?_
 dsimp only [go_sem,rA,rM,rS]
 by_cases hp:okPact p=true
 case neg =>
  refine br_t (by simp [errP,hp]) ?_
  dsimp only [go_sem,rA,rM,rS]
  refine ⟨_,rfl,?_⟩
  rw [show errP p=80 from by simp [errP,hp]]
  exact herr 80 (by simp [readE,hp]) (by omega)
 refine br_f (by simp [errP,hp]) ?_
 dsimp only [go_sem,rA,rM,rS]
 simp only [List.length_map]
 by_cases h100:l.length > 100
 · refine br_t (by simp;omega) ?_
   dsimp only [go_sem,rA,rM,rS]
   refine ⟨_,rfl,?_⟩
   exact herr 4 (by simp [readE,hp,h100]) (by omega)
 refine br_f (by simp;omega) ?_
 dsimp only [go_sem,rA,rM,rS]
 refine callv (by simp [FLT]) (res:=B (l.any fun x=>!okLetter p x)) ?_ ?_
 · dsimp only [go_sem,rA,rM,rS]
   exact con64 65 [.ps (pactL p) 0] (by simp [KFL,KF,KFR_iff,pactL,partnerL]) (fun x=>!okLetter p x) l (fun x _=>read1_ok p x hs hp) (by omega)
 dsimp only [go_sem,rA,rM,rS]
 have hany:(l.any fun x=>!okLetter p x) = !l.all (okLetter p):=by simp [List.all_eq_not_any_not]
 by_cases hall:l.all (okLetter p)=true
 case neg =>
  refine br_t (by rw [hany];simpa using hall) ?_
  dsimp only [go_sem,rA,rM,rS]
  refine ⟨_,rfl,?_⟩
  rw [Bool.not_eq_true] at hall
  exact herr 81 (by simp only [readE,hp,hall];simp [h100]) (by omega)
 refine br_f (by rw [hany,hall];rfl) ?_
 dsimp only [go_sem,rA,rM,rS]
 refine raw_mkmap rfl rfl rfl ?_
 dsimp only [go_sem,rA,rM,rS]
 simp only [List.length_map]
 refine loopG (ent_nilslot 8 8 50 rfl rfl) (fun s:Nat × List (Nat × Int × Letter) × Nat × Nat × List Letter=>[(27,I s.1),(8,.mr 2 s.2.2.2.1)]) (fun s=>[(1,.map (mpS kI ltV s.2.1) s.2.2.1),(2,.row s.2.2.2.1 8 (s.2.2.2.2.map letterL) 50)]) (fun s=>PreR p l s.1 s.2.1 s.2.2.1 s.2.2.2.2) (fun s=>l.length - s.1) (0,[],0,0,[]) (.start p l) ?_ ?_
 · (refine ent_id ?_ ?_ ?_ rfl rfl<;>dsimp only [letterL,ltV,pactL,partnerL,mpS,id,go_sem,rA,rM,rS]<;>simp [letterL,ltV,pactL,partnerL,mpS,KFR_iff,KFR_app,KFR,KFL,KF,mtL_same,mtO,nbr])
 rintro ⟨k,L,cl,v,R⟩ hI
 simp only at hI
 have hle:=hI.le
 dsimp only [go_sem,rA,rM,rS]
 by_cases hlt:k < l.length
 · refine br_t (by simpa using hlt) ?_
   dsimp only [go_sem,rA,rM,rS]
   refine ixs_map k hlt rfl ?_
   dsimp only [letterL,go_sem,rA,rM,rS]
   refine raw_get (key:=kI) (val:=ltV) (sv:=sI) (L:=L) (k:=l[k].id) (zs:=ltV ⟨0,0,0,0,0,0,0,false⟩) rfl rfl u114 key3 rfl zero50 zl_R ?_ ?_
   · intro y hg
     dsimp only [ltV,letterL,go_sem,rA,rM,rS]
     repeat (refine gb ?_;dsimp only [go_sem,rA,rM,rS])
     by_cases hy:y=l[k]
     case neg =>
      refine br_t ?_ ?_
      · rw [eqLt];simp [hy]
      dsimp only [go_sem,rA,rM,rS]
      refine ⟨_,rfl,?_⟩
      have h2:=hI.two hlt hg hy
      exact herr 82 (by simp only [readE,hp,hall,h2];simp [h100]) (by omega)
     subst hy
     refine br_f (by simp) ?_
     dsimp only [go_sem,rA,rM,rS]
     refine raw_set (key:=kI) (val:=ltV) (sv:=sI) (L:=L) (k:=l[k].id) (v:=l[k]) (ins:=false) rfl rfl u114 key3 rfl rfl (fun _ _ _ e=>by cases e) ?_
     dsimp only [go_sem,rA,rM,rS]
     repeat (refine gb ?_;dsimp only [go_sem,rA,rM,rS])
     refine br_f (by simp) ?_
     dsimp only [go_sem,rA,rM,rS]
     rw [w64_in (n:=(k:Int)+1) (by omega) (by omega)]
     have hst:=hI.step hlt (.inr hg)
     rw [if_neg (by rw [hg];simp)] at hst
     refine ⟨(k+1,mset cl l[k].id l[k] L,mclk cl l[k].id L,v,R),hst,by simp only;omega,?_⟩
     (refine ent_id ?_ ?_ ?_ rfl rfl<;>dsimp only [letterL,ltV,pactL,partnerL,mpS_kf3,id,go_sem,rA,rM,rS]<;>simp [letterL,ltV,pactL,partnerL,mpS_kf3,KFR_iff,KFR_app,KFR,KFL,KF,mtL_same,mtO,nbr])
   · intro hg
     dsimp only [ltV,letterL,go_sem,rA,rM,rS]
     repeat (refine gb ?_;dsimp only [go_sem,rA,rM,rS])
     refine br_f (by simp) ?_
     dsimp only [go_sem,rA,rM,rS]
     refine raw_set (key:=kI) (val:=ltV) (sv:=sI) (L:=L) (k:=l[k].id) (v:=l[k]) (ins:=false) rfl rfl u114 key3 rfl rfl (fun _ _ _ e=>by cases e) ?_
     dsimp only [go_sem,rA,rM,rS]
     repeat (refine gb ?_;dsimp only [go_sem,rA,rM,rS])
     have hst:=hI.step hlt (.inl hg)
     by_cases hd:l[k].day≤p.ends
     · refine br_t (by simpa using hd) ?_
       dsimp only [go_sem,rA,rM,rS]
       have hRl:=hI.len
       (repeat first | dsimp only [go_sem,rA,rM,rS] | simp only [nbr])
       refine ⟨by simp [allOne,oneS,oneV],by simp;omega,?_⟩
       (repeat first | dsimp only [go_sem,rA,rM,rS] | simp only [nbr])
       rw [w64_in (n:=(k:Int)+1) (by omega) (by omega)]
       rw [if_pos ⟨hg,hd⟩] at hst
       refine ⟨(k+1,mset cl l[k].id l[k] L,mclk cl l[k].id L,v+1,R ++ [l[k]]),hst,by simp only;omega,?_⟩
       (refine ent_id ?_ ?_ ?_ rfl rfl<;>dsimp only [letterL,ltV,pactL,partnerL,mpS_kf3,id,go_sem,rA,rM,rS]<;>simp [letterL,ltV,pactL,partnerL,mpS_kf3,KFR_iff,KFR_app,KFR,KFL,KF,mtL_same,mtO,nbr])
     · refine br_f (by simpa using hd) ?_
       dsimp only [go_sem,rA,rM,rS]
       rw [w64_in (n:=(k:Int)+1) (by omega) (by omega)]
       rw [if_neg (by intro q;exact hd q.2)] at hst
       refine ⟨(k+1,mset cl l[k].id l[k] L,mclk cl l[k].id L,v,R),hst,by simp only;omega,?_⟩
       (refine ent_id ?_ ?_ ?_ rfl rfl<;>dsimp only [letterL,ltV,pactL,partnerL,mpS_kf3,id,go_sem,rA,rM,rS]<;>simp [letterL,ltV,pactL,partnerL,mpS_kf3,KFR_iff,KFR_app,KFR,KFL,KF,mtL_same,mtO,nbr])
 refine br_f (by simpa using hlt) ?_
 dsimp only [go_sem,rA,rM,rS]
 refine gh (ent_frz 8 2 v rfl rfl rfl rfl) ?_
 dsimp only [go_sem,rA,rM,rS]
 have hkl:k=l.length:=by omega
 have hone:=hI.one
 have hrows:=hI.rows
 rw [hkl,List.take_length] at hone hrows
 have h2:twoB l=false:=twoB_of hone
 have he:readE p l=0:=by simp only [readE,hp,hall,h2];simp [h100]
 have hRl:=hI.len
 have hsm:smallL R:=fun x hx=>by
  rw [hrows] at hx
  have:=List.all_eq_true.1 hall x (onceL_mem hx).1
  simp only [okLetter,Bool.and_eq_true,inR,decide_eq_true_eq] at this
  exact this.1.1
 refine call (arr_ok R hsm (by rw [hrows];exact onceL_nodup) (by omega) false) ?_
 dsimp only [go_sem,rA,rM,rS]
 refine ⟨_,rfl,?_⟩
 rw [readR,he,if_pos rfl,readL,← hrows]
 exact Weak.rfl
end Go.Proofs.Ythilckbkffjliaa
set_option maxRecDepth 100000
set_option maxHeartbeats 4000000
namespace Go.Azalai
open Go.Sx
structure Bks where
 loans:List (Nat × Int × (Int × Int))
 cl:Nat
 dead:List (Nat × Int × Bool)
 cd:Nat
 known:List (Nat × Int × Bool)
 ck:Nat
 debts:List (Nat × (Int × Int) × Int)
 cb:Nat
 extra:List (Nat × Int × Int)
 ce:Nat
 result:Int
def bks0:Bks:=⟨[],0,[],0,[],0,[],0,[],0,0⟩
structure BkR (n:Nat) (c:Co) (b:Bks):Prop where
 lo:∀ a,mget a b.loans=c.loans a
 de:∀ a,(mget a b.dead).getD false=c.dead a
 kn:∀ a,(mget a b.known).getD false=c.known a
 db:∀ x y,(mget (x,y) b.debts).getD 0=c.debts x y
 ex:∀ i,(mget i b.extra).getD 0=c.extra i
 re:b.result=c.result
 w1:MW b.loans b.cl
 w2:MW b.dead b.cd
 w3:MW b.known b.ck
 w4:MW b.debts b.cb
 w5:MW b.extra b.ce
 sb:∀ a l,c.loans a=some l→0≤l.2∧l.2≤100000
 rb:-(n * 100000000:Int)≤c.result∧c.result≤n * 100000000
 eb:∀ i,-(n * 100000000:Int)≤c.extra i∧c.extra i≤n * 100000000
 bb:∀ x y,-(n * 100000000:Int)≤c.debts x y∧c.debts x y≤n * 100000000
 ln:b.loans.length≤n
 dn:b.debts.length≤n
theorem BkR.start:BkR 0 co0 bks0:=by
 constructor
 case w1=>exact MW.nil
 case w2=>exact MW.nil
 case w3=>exact MW.nil
 case w4=>exact MW.nil
 case w5=>exact MW.nil
 all_goals (try intros);simp_all [co0,bks0,mget]
theorem BkR.next {n:Nat} {c:Co} {b:Bks} (h:BkR n c b):BkR (n+1) c b :=
 ⟨h.lo,h.de,h.kn,h.db,h.ex,h.re,h.w1,h.w2,h.w3,h.w4,h.w5,h.sb,by have:=h.rb;omega,fun i=>by have:=h.eb i;omega,fun x y=>by have:=h.bb x y;omega,by have:=h.ln;omega,by have:=h.dn;omega⟩
theorem BkR.res {n:Nat} {c:Co} {b:Bks} (h:BkR n c b) {v:Int} (hv:-100000000≤v - c.result∧v - c.result≤100000000):BkR (n+1) { c with result:=v } { b with result:=v } :=
 ⟨h.lo,h.de,h.kn,h.db,h.ex,rfl,h.w1,h.w2,h.w3,h.w4,h.w5,h.sb,by have:=h.rb;simp only;omega,fun i=>by have:=h.eb i;simp only;omega,fun x y=>by have:=h.bb x y;simp only;omega,by have:=h.ln;simp only;omega,by have:=h.dn;simp only;omega⟩
theorem get_upd {V:Type} {L:List (Nat × Int × V)} {f:Int→V} {d v:V} {k:Int} {c:Nat} (h:∀ i,(mget i L).getD d=f i) (i:Int):(mget i (mset c k v L)).getD d=upd f k v i:=by
 rw [mget_set,upd]
 by_cases q:i=k
 · rw [if_pos q,if_pos q];rfl
 · rw [if_neg q,if_neg q,h]
theorem hire_bd {h t:Int} (h0:0≤h) (h1:h≤1000) (t0:-100000≤t) (t1:t≤100000):-100000000≤h * t∧h * t≤100000000:=by
 have q1:h * t≤h * 100000:=Int.mul_le_mul_of_nonneg_left t1 h0
 have q2:h * -100000≤h * t:=Int.mul_le_mul_of_nonneg_left t0 h0
 omega
def homeB (p:Pact) (c:Co) (b:Bks) (a d:Int) (l:Int × Int):Bks :=
 { b with loans:=mdel a b.loans,extra:=mset b.ce l.1 (c.extra l.1+p.hire * (d - l.2)) b.extra,ce:=mclk b.ce l.1 b.extra,result:=c.result - p.hire * (d - l.2) }
theorem BkR.home {p:Pact} {n:Nat} {c:Co} {b:Bks} (h:BkR n c b) (hp:0≤p.hire∧p.hire≤1000) {a d:Int} {l:Int × Int} (hl:c.loans a=some l) (hd:0≤d∧d≤100000):BkR (n+1) (homeF p c a d l) (homeB p c b a d l):=by
 have hs:=h.sb a l hl
 have hb:=hire_bd (h:=p.hire) (t:=d - l.2) hp.1 hp.2 (by omega) (by omega)
 refine ⟨fun i=>?_,h.de,h.kn,h.db,fun i=>get_upd h.ex i,rfl,h.w1.del,h.w2,h.w3,h.w4,h.w5.set _,fun i m hi=>?_,?_,fun i=>?_,fun x y=>?_,?_,by have:=h.dn;simp only [homeB];omega⟩
 · simp only [homeB,homeF,upd]
   rw [mget_del h.w1.kn,h.lo]
 · simp only [homeF,upd] at hi
   split at hi
   · cases hi
   · exact h.sb i m hi
 · have:=h.rb
   simp only [homeF];omega
 · have h1:=h.eb i
   have h2:=h.eb l.1
   simp only [homeF,upd]
   split<;>omega
 · have:=h.bb x y
   simp only [homeF];omega
 · have:=h.ln
   have h2:(mdel a b.loans).length≤b.loans.length:=(mdel_sub).length_le
   simp only [homeB];omega
theorem BkR.lent {n:Nat} {c:Co} {b:Bks} (h:BkR n c b) {a who d:Int} (hd:0≤d∧d≤100000):BkR (n+1) { c with loans:=upd c.loans a (some (who,d)) } { b with loans:=mset b.cl a (who,d) b.loans,cl:=mclk b.cl a b.loans }:=by
 refine ⟨fun i=>?_,h.de,h.kn,h.db,h.ex,h.re,h.w1.set _,h.w2,h.w3,h.w4,h.w5,fun i m hi=>?_,by have:=h.rb;simp only;omega,fun i=>by have:=h.eb i;simp only;omega,fun x y=>by have:=h.bb x y;simp only;omega,?_,by have:=h.dn;simp only;omega⟩
 · simp only [upd]
   rw [mget_set,h.lo]
 · simp only [upd] at hi
   split at hi
   · cases hi;exact hd
   · exact h.sb i m hi
 · have h1:=h.ln
   have h2:∀ {L:List (Nat × Int × (Int × Int))} {c:Nat} {k:Int} {v:Int × Int},(mset c k v L).length≤L.length+1:=by
    intro L
    induction L with
    | nil=>intro c k v;simp [mset]
    | cons e l ih =>
     intro c k v
     simp only [mset]
     split
     · simp
     · have:=@ih c k v;simp;omega
   have:=@h2 b.loans b.cl a (who,d)
   simp only;omega
theorem BkR.kill {n:Nat} {c:Co} {b:Bks} (h:BkR n c b) {a:Int}:BkR n { c with dead:=upd c.dead a true } { b with dead:=mset b.cd a true b.dead,cd:=mclk b.cd a b.dead } :=
 ⟨h.lo,fun i=>get_upd h.de i,h.kn,h.db,h.ex,h.re,h.w1,h.w2.set _,h.w3,h.w4,h.w5,h.sb,h.rb,h.eb,h.bb,h.ln,h.dn⟩
theorem BkR.calf {n:Nat} {c:Co} {b:Bks} (h:BkR n c b) {who other v r:Int} (hv:-100000000≤v - c.extra who∧v - c.extra who≤100000000) (hr:-100000000≤r - c.result∧r - c.result≤100000000) :
 BkR (n+1) { c with extra:=upd c.extra who v,result:=r,known:=upd c.known other true } { b with extra:=mset b.ce who v b.extra,ce:=mclk b.ce who b.extra,result:=r,known:=mset b.ck other true b.known,ck:=mclk b.ck other b.known }:=by
 refine ⟨h.lo,h.de,fun i=>get_upd h.kn i,h.db,fun i=>get_upd h.ex i,rfl,h.w1,h.w2,h.w3.set _,h.w4,h.w5.set _,h.sb,by have:=h.rb;simp only;omega,fun i=>?_,fun x y=>by have:=h.bb x y;simp only;omega,by have:=h.ln;simp only;omega,by have:=h.dn;simp only;omega⟩
 have h1:=h.eb i
 have h2:=h.eb who
 simp only [upd]
 split<;>omega
theorem mset_len {K V:Type} [DecidableEq K] {k:K} {v:V} {c:Nat}:∀ {L:List (Nat × K × V)},(mset c k v L).length≤L.length+1
 | []=>by simp [mset]
 | e :: l=>by
  simp only [mset]
  split
  · simp
  · have:=mset_len (k:=k) (v:=v) (c:=c) (L:=l);simp;omega
theorem BkR.debt {n:Nat} {c:Co} {b:Bks} (h:BkR n c b) {who other v:Int} (hv:-100000000≤v - c.debts who other∧v - c.debts who other≤100000000) :
 BkR (n+1) { c with debts:=upd c.debts who (upd (c.debts who) other v) } { b with debts:=mset b.cb (who,other) v b.debts,cb:=mclk b.cb (who,other) b.debts }:=by
 refine ⟨h.lo,h.de,h.kn,fun x y=>?_,h.ex,h.re,h.w1,h.w2,h.w3,h.w4.set _,h.w5,h.sb,by have:=h.rb;simp only;omega,fun i=>by have:=h.eb i;simp only;omega,fun x y=>?_,by have:=h.ln;simp only;omega,by have:=h.dn;have q:=mset_len (L:=b.debts) (c:=b.cb) (k:=(who,other)) (v:=v);simp only;omega⟩
 · simp only
   rw [mget_set]
   by_cases hx:x=who
   · subst hx
     by_cases hy:y=other
     · subst hy;simp [upd]
     · rw [if_neg (by simp [hy]),h.db];simp [upd,hy]
   · rw [if_neg (by simp [hx]),h.db];simp [upd,hx]
 · have h1:=h.bb x y
   have h2:=h.bb who other
   simp only [upd]
   by_cases hx:x=who
   · subst hx
     rw [if_pos rfl]
     simp only [upd]
     split
     · rename_i q;subst q;omega
     · omega
   · rw [if_neg hx];omega
end Go.Azalai
namespace Go.Proofs.Ythilckbkffjliaa
open Go Go.Sx Go.Azalai
theorem u99:Try.prog.underlying 99=some (.map 3 150):=by kernel_rfl
theorem u71:Try.prog.underlying 71=some (.map 3 4):=by kernel_rfl
theorem u101:Try.prog.underlying 101=some (.map 3 3):=by kernel_rfl
theorem u100:Try.prog.underlying 100=some (.map 105 3):=by kernel_rfl
end Go.Proofs.Ythilckbkffjliaa
set_option maxRecDepth 100000
set_option maxHeartbeats 4000000
namespace Go.Proofs.Ythilckbkffjliaa
open Go Go.Sx Go.Azalai
theorem key105:KeyT Try.prog 105 (fun n:Int × Int=>.agg #[.int .i64 n.1,.int .i64 n.2]) (fun n=>.agg [.v (.int .i64 n.1),.v (.int .i64 n.2)]):=key64 (by kernel_rfl) u3 (by kernel_rfl) (by kernel_rfl) (by kernel_rfl) (by kernel_rfl)
abbrev kP:Int × Int→Value:=fun n=>.agg #[.int .i64 n.1,.int .i64 n.2]
abbrev sP:Int × Int→SV:=fun n=>.agg [.v (.int .i64 n.1),.v (.int .i64 n.2)]
def loanV (l:Int × Int):SV:=.agg [I l.1,I l.2]
def intV (n:Int):SV:=I n
def bolV (b:Bool):SV:=B b
def bH (p:Pact) (b:Bks):List (Nat × HB):=[(0,.map (mpS kI loanV b.loans) b.cl),(1,.map (mpS kI bolV b.dead) b.cd),(2,.map (mpS kI bolV b.known) b.ck),(3,.map (mpS kP intV b.debts) b.cb),(4,.map (mpS kI intV b.extra) b.ce),
 (5,.cells [.sl false 3 (p.partners.map partnerL),I p.calf,I p.hire,I p.ends,.mp 0,.mp 1,.mp 2,.mp 3,.mp 4,I b.result] 103)]
def doneO (p:Pact) (b:Bks):Ot:=⟨false,.tup [],bH p b,6⟩
def voidO (w:Int) (p:Pact) (b:Bks):Ot:=⟨true,.ifc 145 (U8 w),bH p b,6⟩
theorem bH_kx (p:Pact) (b:Bks):KXP (bH p b):=by
 simp [bH,KXP,KXH,KXL,KX,mpS_kf3,KFR_iff,loanV,intV,bolV,KF,KFL,partnerL]
theorem zero150:zeroOf Try.prog 150=some (.agg #[.int .i64 0,.int .i64 0]):=by kernel_rfl
theorem lz_R:∀ w E n ok,R w E n ok (loanV (0,0)) (.agg #[.int .i64 0,.int .i64 0]):=fun w E n ok=>by
 simp only [loanV,R,RL];exact ⟨_,rfl,_,_,rfl,rfl,_,_,rfl,rfl,rfl⟩
theorem zero3:zeroOf Try.prog 3=some (.int .i64 0):=by kernel_rfl
theorem iz_R:∀ w E n ok,R w E n ok (intV 0) (.int .i64 0):=fun w E n ok=>by simp only [intV,R]
theorem zero4:zeroOf Try.prog 4=some (.bool false):=by kernel_rfl
theorem bz_R:∀ w E n ok,R w E n ok (bolV false) (.bool false):=fun w E n ok=>by simp only [bolV,R]
theorem plain145:plainT Try.prog 145=true:=by kernel_rfl
theorem refuse_no (w:Int):CtM Try.prog 111 [] 0 [B false,U8 w] (fun o=>o=⟨false,.tup [],[],0⟩):=by
 refine m111 (by simp [hpb]) (fun o ho=>by subst ho;simp [KX,KXL,KXP]) ?_
 dsimp only [c111,r111,go_sem,rA,rM,rS]
 refine br_f rfl ?_
 dsimp only [go_sem,rA,rM,rS]
 refine ⟨_,rfl,?_⟩
 (refine entO_id ?_ ?_ ?_ rfl<;>dsimp only [id,go_sem,rA,rM,rS]<;>simp [KFR_iff,KFR_app,KFR,KFL,KF,mtL_same,mtO,nbr])
theorem refuse_yes (w:Int):CtM Try.prog 111 [] 0 [B true,U8 w] (fun o=>o=⟨true,.ifc 145 (U8 w),[],0⟩):=by
 refine m111 (by simp [hpb]) (fun o ho=>by subst ho;simp [KX,KXL,KXP]) ?_
 dsimp only [c111,r111,go_sem,rA,rM,rS]
 refine br_t rfl ?_
 dsimp only [go_sem,rA,rM,rS]
 refine raw_mkifc (s:=U8 w) plain145 rfl (fun _ _ _ e=>by cases e) ?_
 dsimp only [go_sem,rA,rM,rS]
 refine raw_panic rfl ?_
 dsimp only [go_sem,rA,rM,rS]
 refine ⟨_,rfl,?_⟩
 (refine entO_id ?_ ?_ ?_ rfl<;>dsimp only [id,go_sem,rA,rM,rS]<;>simp [KFR_iff,KFR_app,KFR,KFL,KF,mtL_same,mtO,nbr])
theorem sold_ok {p:Pact} {n:Nat} {c:Co} {b:Bks} (h:BkR n c b) (hn:n≤1000) (x:Letter) (hx:inR 0 10000000 x.rials=true) :
 CtM Try.prog 95 (bH p b) 6 [.p 5 0,.agg (letterL x)] (fun o=>∃ b',BkR (n+1) { c with result:=c.result+x.rials } b'∧o=doneO p b'):=by
 refine m95 (by simp [hpb,bH]) (fun o ho=>by obtain ⟨b',-,rfl⟩:=ho;exact ⟨by simp [doneO,KX,KXL],bH_kx p b'⟩) ?_
 simp only [inR,decide_eq_true_eq] at hx
 have hr:=h.rb
 have hre:=h.re
 dsimp only [c95,r95,bH,letterL,go_sem,rA,rM,rS]
 rw [hre,w64_in (n:=c.result+x.rials) (by omega) (by omega)]
 refine ⟨_,⟨_,h.res (v:=c.result+x.rials) (by omega),rfl⟩,?_⟩
 try simp only [doneO,bH]
 (refine entO_id ?_ ?_ ?_ rfl<;>dsimp only [mpS_kf3,loanV,intV,bolV,partnerL,id,go_sem,rA,rM,rS]<;>simp [mpS_kf3,loanV,intV,bolV,partnerL,KFR_iff,KFR_app,KFR,KFL,KF,mtL_same,mtO,nbr])
theorem spent_ok {p:Pact} {n:Nat} {c:Co} {b:Bks} (h:BkR n c b) (hn:n≤1000) (x:Letter) (hx:inR 0 10000000 x.rials=true) :
 CtM Try.prog 96 (bH p b) 6 [.p 5 0,.agg (letterL x)] (fun o=>∃ b',BkR (n+1) { c with result:=c.result - x.rials } b'∧o=doneO p b'):=by
 refine m96 (by simp [hpb,bH]) (fun o ho=>by obtain ⟨b',-,rfl⟩:=ho;exact ⟨by simp [doneO,KX,KXL],bH_kx p b'⟩) ?_
 simp only [inR,decide_eq_true_eq] at hx
 have hr:=h.rb
 have hre:=h.re
 dsimp only [c96,r96,bH,letterL,go_sem,rA,rM,rS]
 rw [hre,w64_in (n:=c.result - x.rials) (by omega) (by omega)]
 refine ⟨_,⟨_,h.res (v:=c.result - x.rials) (by omega),rfl⟩,?_⟩
 try simp only [doneO,bH]
 (refine entO_id ?_ ?_ ?_ rfl<;>dsimp only [mpS_kf3,loanV,intV,bolV,partnerL,id,go_sem,rA,rM,rS]<;>simp [mpS_kf3,loanV,intV,bolV,partnerL,KFR_iff,KFR_app,KFR,KFL,KF,mtL_same,mtO,nbr])
theorem on_no {p:Pact} {n:Nat} {c:Co} {b:Bks} (h:BkR n c b) (a:Int) (hl:c.loans a=none):CtM Try.prog 112 (bH p b) 6 [.p 5 0,I a] (fun o=>o=voidO 3 p b):=by
 refine m112 (by simp [hpb,bH]) (fun o ho=>by subst ho;exact ⟨by simp [voidO,KX],bH_kx p b⟩) ?_
 dsimp only [c112,r112,bH,go_sem,rA,rM,rS]
 refine raw_get (key:=kI) (val:=loanV) (sv:=sI) (L:=b.loans) (k:=a) (zs:=loanV (0,0)) rfl rfl u99 key3 rfl zero150 lz_R (fun v hg=>?_) (fun hg=>?_)
 · rw [h.lo,hl] at hg;cases hg
 dsimp only [loanV,go_sem,rA,rM,rS]
 refine callmP [] (refuse_yes 3) rfl rfl rfl ?_ ?_ ?_
 · (repeat first | dsimp only [go_sem,rA,rM,rS] | simp only [nbr])
   try simp [mtL,mtB,mtS]
 · trivial
 rintro _ rfl
 (repeat first | dsimp only [go_sem,rA,rM,rS] | simp only [nbr])
 refine ⟨_,rfl,?_⟩
 try simp only [voidO,bH]
 (refine entO_id ?_ ?_ ?_ rfl<;>dsimp only [mpS_kf3,loanV,intV,bolV,partnerL,id,go_sem,rA,rM,rS]<;>simp [mpS_kf3,loanV,intV,bolV,partnerL,KFR_iff,KFR_app,KFR,KFL,KF,mtL_same,mtO,nbr])
theorem on_yes {p:Pact} {n:Nat} {c:Co} {b:Bks} (h:BkR n c b) (a:Int) {l:Int × Int} (hl:c.loans a=some l):CtM Try.prog 112 (bH p b) 6 [.p 5 0,I a] (fun o=>o=⟨false,loanV l,bH p b,6⟩):=by
 refine m112 (by simp [hpb,bH]) (fun o ho=>by subst ho;exact ⟨by simp [loanV,KX,KXL],bH_kx p b⟩) ?_
 dsimp only [c112,r112,bH,go_sem,rA,rM,rS]
 refine raw_get (key:=kI) (val:=loanV) (sv:=sI) (L:=b.loans) (k:=a) (zs:=loanV (0,0)) rfl rfl u99 key3 rfl zero150 lz_R (fun v hg=>?_) (fun hg=>?_)
 · rw [h.lo,hl] at hg;cases hg
   dsimp only [loanV,go_sem,rA,rM,rS]
   refine callmP [] (refuse_no 3) rfl rfl rfl ?_ ?_ ?_
   · (repeat first | dsimp only [go_sem,rA,rM,rS] | simp only [nbr])
     try simp [mtL,mtB,mtS]
   · trivial
   rintro _ rfl
   (repeat first | dsimp only [go_sem,rA,rM,rS] | simp only [nbr])
   refine ⟨_,rfl,?_⟩
   try simp only [bH]
   (refine entO_id ?_ ?_ ?_ rfl<;>dsimp only [mpS_kf3,loanV,intV,bolV,partnerL,id,go_sem,rA,rM,rS]<;>simp [mpS_kf3,loanV,intV,bolV,partnerL,KFR_iff,KFR_app,KFR,KFL,KF,mtL_same,mtO,nbr])
 · rw [h.lo,hl] at hg;cases hg
theorem home_no {p:Pact} {n:Nat} {c:Co} {b:Bks} (h:BkR n c b) (a d:Int) (hl:c.loans a=none):CtM Try.prog 107 (bH p b) 6 [.p 5 0,I a,I d] (fun o=>o=voidO 3 p b):=by
 refine m107 (by simp [hpb,bH]) (fun o ho=>by subst ho;exact ⟨by simp [voidO,KX],bH_kx p b⟩) ?_
 dsimp only [c107,r107,bH,go_sem,rA,rM,rS]
 refine callmP [0,1,2,3,4,5] (on_no (p:=p) h a hl) rfl rfl rfl ?_ ?_ ?_
 · (repeat first | dsimp only [bH,go_sem,rA,rM,rS] | simp only [nbr])
   try simp [mtL,mtB,mtS]
 · (repeat first | dsimp only [bH,go_sem,rA,rM,rS] | simp only [nbr])
   try simp [mpS_kf3,loanV,intV,bolV,partnerL,KFR_iff,KFL,KF]
 rintro _ rfl
 (repeat first | dsimp only [voidO,bH,go_sem,rA,rM,rS] | simp only [nbr])
 refine ⟨_,rfl,?_⟩
 try simp only [voidO,bH]
 (refine entO_id ?_ ?_ ?_ rfl<;>dsimp only [mpS_kf3,loanV,intV,bolV,partnerL,id,go_sem,rA,rM,rS]<;>simp [mpS_kf3,loanV,intV,bolV,partnerL,KFR_iff,KFR_app,KFR,KFL,KF,mtL_same,mtO,nbr])
theorem home_yes {p:Pact} {n:Nat} {c:Co} {b:Bks} (h:BkR n c b) (hn:n≤1000) (hp:0≤p.hire∧p.hire≤1000) (a d:Int) (hd:0≤d∧d≤100000) {l:Int × Int} (hl:c.loans a=some l) :
 CtM Try.prog 107 (bH p b) 6 [.p 5 0,I a,I d] (fun o=>o=doneO p (homeB p c b a d l)):=by
 refine m107 (by simp [hpb,bH]) (fun o ho=>by subst ho;exact ⟨by simp [doneO,KX,KXL],bH_kx p _⟩) ?_
 have hs:=h.sb a l hl
 have hb:=hire_bd (h:=p.hire) (t:=d - l.2) hp.1 hp.2 (by omega) (by omega)
 have hr:=h.rb
 have he:=h.eb l.1
 have hre:=h.re
 dsimp only [c107,r107,bH,go_sem,rA,rM,rS]
 refine callmP [0,1,2,3,4,5] (on_yes (p:=p) h a hl) rfl rfl rfl ?_ ?_ ?_
 · (repeat first | dsimp only [bH,go_sem,rA,rM,rS] | simp only [nbr])
   try simp [mtL,mtB,mtS]
 · (repeat first | dsimp only [bH,go_sem,rA,rM,rS] | simp only [nbr])
   try simp [mpS_kf3,loanV,intV,bolV,partnerL,KFR_iff,KFL,KF]
 rintro _ rfl
 (repeat first | dsimp only [loanV,bH,go_sem,rA,rM,rS] | simp only [nbr])
 rw [w64_in (n:=d - l.2) (by omega) (by omega),w64_in (n:=p.hire * (d - l.2)) (by omega) (by omega),hre,w64_in (n:=c.result - p.hire * (d - l.2)) (by omega) (by omega)]
 have hrv:=fun σ h1 h2 h3=>rv_get (P:=Try.prog) (t:=101) (σ:=σ) (i:=32) (j:=34) (ok:=false) (km:=4) (c:=b.ce) (key:=kI) (val:=intV) (sv:=sI) (L:=b.extra) (k:=l.1) (zs:=intV 0) h1 h2 h3 u101 key3 zero3 iz_R
 refine ⟨_,hrv _ rfl rfl rfl,?_⟩
 rw [show lkS false intV (intV 0) (mget l.1 b.extra)=intV (c.extra l.1) from by rw [← h.ex];cases mget l.1 b.extra<;>rfl]
 dsimp only [intV,go_sem,rA,rM,rS]
 rw [w64_in (n:=c.extra l.1+p.hire * (d - l.2)) (by omega) (by omega)]
 refine raw_set (key:=kI) (val:=intV) (sv:=sI) (L:=b.extra) (k:=l.1) (v:=c.extra l.1+p.hire * (d - l.2)) (ins:=false) rfl rfl u101 key3 rfl rfl (fun _ _ _ e=>by cases e) ?_
 dsimp only [go_sem,rA,rM,rS]
 refine raw_del (key:=kI) (val:=loanV) (sv:=sI) (L:=b.loans) (k:=a) rfl rfl u99 key3 rfl rfl ?_
 dsimp only [go_sem,rA,rM,rS]
 refine ⟨_,rfl,?_⟩
 try simp only [doneO,bH,homeB]
 (refine entO_id ?_ ?_ ?_ rfl<;>dsimp only [mpS_kf3,loanV,intV,bolV,partnerL,id,go_sem,rA,rM,rS]<;>simp [mpS_kf3,loanV,intV,bolV,partnerL,KFR_iff,KFR_app,KFR,KFL,KF,mtL_same,mtO,nbr])
end Go.Proofs.Ythilckbkffjliaa
set_option maxRecDepth 100000
set_option maxHeartbeats 4000000
namespace Go.Proofs.Ythilckbkffjliaa
open Go Go.Sx Go.Azalai
theorem back_no {p:Pact} {n:Nat} {c:Co} {b:Bks} (h:BkR n c b) (x:Letter) (hl:c.loans x.animal=none) :
 CtM Try.prog 100 (bH p b) 6 [.p 5 0,.agg (letterL x)] (fun o=>o=voidO 3 p b):=by
 refine m100 (by simp [hpb,bH]) (fun o ho=>by subst ho;exact ⟨by simp [voidO,KX],bH_kx p b⟩) ?_
 dsimp only [c100,r100,bH,letterL,go_sem,rA,rM,rS]
 refine callmP [0,1,2,3,4,5] (home_no (p:=p) h x.animal x.day hl) rfl rfl rfl ?_ ?_ ?_
 · (repeat first | dsimp only [bH,go_sem,rA,rM,rS] | simp only [nbr])
   try simp [mtL,mtB,mtS]
 · (repeat first | dsimp only [bH,go_sem,rA,rM,rS] | simp only [nbr])
   try simp [mpS_kf3,loanV,intV,bolV,partnerL,KFR_iff,KFL,KF]
 rintro _ rfl
 (repeat first | dsimp only [voidO,bH,go_sem,rA,rM,rS] | simp only [nbr])
 refine ⟨_,rfl,?_⟩
 try simp only [doneO,voidO,bH,homeB]
 (refine entO_id ?_ ?_ ?_ rfl<;>dsimp only [mpS_kf3,loanV,intV,bolV,partnerL,id,go_sem,rA,rM,rS]<;>simp [mpS_kf3,loanV,intV,bolV,partnerL,KFR_iff,KFR_app,KFR,KFL,KF,mtL_same,mtO,nbr])
theorem back_yes {p:Pact} {n:Nat} {c:Co} {b:Bks} (h:BkR n c b) (hn:n≤1000) (hp:0≤p.hire∧p.hire≤1000) (x:Letter) (hd:0≤x.day∧x.day≤100000) {l:Int × Int} (hl:c.loans x.animal=some l) :
 CtM Try.prog 100 (bH p b) 6 [.p 5 0,.agg (letterL x)] (fun o=>∃ b',BkR (n+1) (homeF p c x.animal x.day l) b'∧o=doneO p b'):=by
 refine m100 (by simp [hpb,bH]) (fun o ho=>by obtain ⟨b',-,rfl⟩:=ho;exact ⟨by simp [doneO,KX,KXL],bH_kx p b'⟩) ?_
 dsimp only [c100,r100,bH,letterL,go_sem,rA,rM,rS]
 refine callmP [0,1,2,3,4,5] (home_yes (p:=p) h hn hp x.animal x.day hd hl) rfl rfl rfl ?_ ?_ ?_
 · (repeat first | dsimp only [bH,go_sem,rA,rM,rS] | simp only [nbr])
   try simp [mtL,mtB,mtS]
 · (repeat first | dsimp only [bH,go_sem,rA,rM,rS] | simp only [nbr])
   try simp [mpS_kf3,loanV,intV,bolV,partnerL,KFR_iff,KFL,KF]
 rintro _ rfl
 (repeat first | dsimp only [doneO,bH,go_sem,rA,rM,rS] | simp only [nbr])
 refine ⟨_,⟨_,h.home hp hl hd,rfl⟩,?_⟩
 try simp only [doneO,voidO,bH,homeB]
 (refine entO_id ?_ ?_ ?_ rfl<;>dsimp only [mpS_kf3,loanV,intV,bolV,partnerL,id,go_sem,rA,rM,rS]<;>simp [mpS_kf3,loanV,intV,bolV,partnerL,KFR_iff,KFR_app,KFR,KFL,KF,mtL_same,mtO,nbr])
theorem dies_dead {p:Pact} {n:Nat} {c:Co} {b:Bks} (h:BkR n c b) (x:Letter) (hx:c.dead x.animal=true) :
 CtM Try.prog 101 (bH p b) 6 [.p 5 0,.agg (letterL x)] (fun o=>o=voidO 2 p b):=by
 refine m101 (by simp [hpb,bH]) (fun o ho=>by subst ho;exact ⟨by simp [voidO,KX],bH_kx p b⟩) ?_
 dsimp only [c101,r101,bH,letterL,go_sem,rA,rM,rS]
 have hq:=h.de x.animal
 rw [hx] at hq
 refine raw_get (key:=kI) (val:=bolV) (sv:=sI) (L:=b.dead) (k:=x.animal) (zs:=bolV false) rfl rfl u71 key3 rfl zero4 bz_R (fun v hg=>?_) (fun hg=>?_)
 case refine_2=>rw [hg] at hq;cases hq
 rw [hg] at hq
 have hq:v=true:=hq
 subst hq
 dsimp only [bolV,go_sem,rA,rM,rS]
 refine callmP [] (refuse_yes 2) rfl rfl rfl ?_ ?_ ?_
 · (repeat first | dsimp only [go_sem,rA,rM,rS] | simp only [nbr])
   try simp [mtL,mtB,mtS]
 · trivial
 rintro _ rfl
 (repeat first | dsimp only [go_sem,rA,rM,rS] | simp only [nbr])
 refine ⟨_,rfl,?_⟩
 try simp only [doneO,voidO,bH,homeB]
 (refine entO_id ?_ ?_ ?_ rfl<;>dsimp only [mpS_kf3,loanV,intV,bolV,partnerL,id,go_sem,rA,rM,rS]<;>simp [mpS_kf3,loanV,intV,bolV,partnerL,KFR_iff,KFR_app,KFR,KFL,KF,mtL_same,mtO,nbr])
theorem dies_no {p:Pact} {n:Nat} {c:Co} {b:Bks} (h:BkR n c b) (x:Letter) (hx:c.dead x.animal=false) (hl:c.loans x.animal=none) :
 CtM Try.prog 101 (bH p b) 6 [.p 5 0,.agg (letterL x)] (fun o=>o=voidO 3 p b):=by
 refine m101 (by simp [hpb,bH]) (fun o ho=>by subst ho;exact ⟨by simp [voidO,KX],bH_kx p b⟩) ?_
 dsimp only [c101,r101,bH,letterL,go_sem,rA,rM,rS]
 have hq:=h.de x.animal
 rw [hx] at hq
 have hrw:∀ v,mget x.animal b.dead=some v→v=false:=fun v hg=>by rw [hg] at hq;exact hq
 refine raw_get (key:=kI) (val:=bolV) (sv:=sI) (L:=b.dead) (k:=x.animal) (zs:=bolV false) rfl rfl u71 key3 rfl zero4 bz_R (fun v hg=>?_) (fun hg=>?_)
 · have:=hrw v hg;subst this
   dsimp only [bolV,go_sem,rA,rM,rS]
   refine callmP [] (refuse_no 2) rfl rfl rfl ?_ ?_ ?_
   · (repeat first | dsimp only [go_sem,rA,rM,rS] | simp only [nbr])
     try simp [mtL,mtB,mtS]
   · trivial
   rintro _ rfl
   (repeat first | dsimp only [go_sem,rA,rM,rS] | simp only [nbr])
   refine callmP [0,1,2,3,4,5] (home_no (p:=p) h x.animal x.day hl) rfl rfl rfl ?_ ?_ ?_
   · (repeat first | dsimp only [bH,go_sem,rA,rM,rS] | simp only [nbr])
     try simp [mtL,mtB,mtS]
   · (repeat first | dsimp only [bH,go_sem,rA,rM,rS] | simp only [nbr])
     try simp [mpS_kf3,loanV,intV,bolV,partnerL,KFR_iff,KFL,KF]
   rintro _ rfl
   (repeat first | dsimp only [voidO,bH,go_sem,rA,rM,rS] | simp only [nbr])
   refine ⟨_,rfl,?_⟩
   try simp only [doneO,voidO,bH,homeB]
   (refine entO_id ?_ ?_ ?_ rfl<;>dsimp only [mpS_kf3,loanV,intV,bolV,partnerL,id,go_sem,rA,rM,rS]<;>simp [mpS_kf3,loanV,intV,bolV,partnerL,KFR_iff,KFR_app,KFR,KFL,KF,mtL_same,mtO,nbr])
 · skip
   dsimp only [bolV,go_sem,rA,rM,rS]
   refine callmP [] (refuse_no 2) rfl rfl rfl ?_ ?_ ?_
   · (repeat first | dsimp only [go_sem,rA,rM,rS] | simp only [nbr])
     try simp [mtL,mtB,mtS]
   · trivial
   rintro _ rfl
   (repeat first | dsimp only [go_sem,rA,rM,rS] | simp only [nbr])
   refine callmP [0,1,2,3,4,5] (home_no (p:=p) h x.animal x.day hl) rfl rfl rfl ?_ ?_ ?_
   · (repeat first | dsimp only [bH,go_sem,rA,rM,rS] | simp only [nbr])
     try simp [mtL,mtB,mtS]
   · (repeat first | dsimp only [bH,go_sem,rA,rM,rS] | simp only [nbr])
     try simp [mpS_kf3,loanV,intV,bolV,partnerL,KFR_iff,KFL,KF]
   rintro _ rfl
   (repeat first | dsimp only [voidO,bH,go_sem,rA,rM,rS] | simp only [nbr])
   refine ⟨_,rfl,?_⟩
   try simp only [doneO,voidO,bH,homeB]
   (refine entO_id ?_ ?_ ?_ rfl<;>dsimp only [mpS_kf3,loanV,intV,bolV,partnerL,id,go_sem,rA,rM,rS]<;>simp [mpS_kf3,loanV,intV,bolV,partnerL,KFR_iff,KFR_app,KFR,KFL,KF,mtL_same,mtO,nbr])
theorem dies_yes {p:Pact} {n:Nat} {c:Co} {b:Bks} (h:BkR n c b) (hn:n≤1000) (hp:0≤p.hire∧p.hire≤1000) (x:Letter) (hd:0≤x.day∧x.day≤100000) (hx:c.dead x.animal=false) {l:Int × Int} (hl:c.loans x.animal=some l) :
 CtM Try.prog 101 (bH p b) 6 [.p 5 0,.agg (letterL x)] (fun o=>∃ b',BkR (n+1) { homeF p c x.animal x.day l with dead:=upd c.dead x.animal true } b'∧o=doneO p b'):=by
 refine m101 (by simp [hpb,bH]) (fun o ho=>by obtain ⟨b',-,rfl⟩:=ho;exact ⟨by simp [doneO,KX,KXL],bH_kx p b'⟩) ?_
 dsimp only [c101,r101,bH,letterL,go_sem,rA,rM,rS]
 have hq:=h.de x.animal
 rw [hx] at hq
 have hrw:∀ v,mget x.animal b.dead=some v→v=false:=fun v hg=>by rw [hg] at hq;exact hq
 refine raw_get (key:=kI) (val:=bolV) (sv:=sI) (L:=b.dead) (k:=x.animal) (zs:=bolV false) rfl rfl u71 key3 rfl zero4 bz_R (fun v hg=>?_) (fun hg=>?_)
 · have:=hrw v hg;subst this
   dsimp only [bolV,go_sem,rA,rM,rS]
   refine callmP [] (refuse_no 2) rfl rfl rfl ?_ ?_ ?_
   · (repeat first | dsimp only [go_sem,rA,rM,rS] | simp only [nbr])
     try simp [mtL,mtB,mtS]
   · trivial
   rintro _ rfl
   (repeat first | dsimp only [go_sem,rA,rM,rS] | simp only [nbr])
   refine callmP [0,1,2,3,4,5] (home_yes (p:=p) h hn hp x.animal x.day hd hl) rfl rfl rfl ?_ ?_ ?_
   · (repeat first | dsimp only [bH,go_sem,rA,rM,rS] | simp only [nbr])
     try simp [mtL,mtB,mtS]
   · (repeat first | dsimp only [bH,go_sem,rA,rM,rS] | simp only [nbr])
     try simp [mpS_kf3,loanV,intV,bolV,partnerL,KFR_iff,KFL,KF]
   rintro _ rfl
   (repeat first | dsimp only [doneO,bH,homeB,go_sem,rA,rM,rS] | simp only [nbr])
   refine raw_set (key:=kI) (val:=bolV) (sv:=sI) (L:=b.dead) (k:=x.animal) (v:=true) (ins:=false) rfl rfl u71 key3 rfl rfl (fun _ _ _ e=>by cases e) ?_
   dsimp only [go_sem,rA,rM,rS]
   refine ⟨_,⟨_,(h.home hp hl hd).kill (a:=x.animal),rfl⟩,?_⟩
   try simp only [doneO,voidO,bH,homeB]
   (refine entO_id ?_ ?_ ?_ rfl<;>dsimp only [mpS_kf3,loanV,intV,bolV,partnerL,id,go_sem,rA,rM,rS]<;>simp [mpS_kf3,loanV,intV,bolV,partnerL,KFR_iff,KFR_app,KFR,KFL,KF,mtL_same,mtO,nbr])
 · skip
   dsimp only [bolV,go_sem,rA,rM,rS]
   refine callmP [] (refuse_no 2) rfl rfl rfl ?_ ?_ ?_
   · (repeat first | dsimp only [go_sem,rA,rM,rS] | simp only [nbr])
     try simp [mtL,mtB,mtS]
   · trivial
   rintro _ rfl
   (repeat first | dsimp only [go_sem,rA,rM,rS] | simp only [nbr])
   refine callmP [0,1,2,3,4,5] (home_yes (p:=p) h hn hp x.animal x.day hd hl) rfl rfl rfl ?_ ?_ ?_
   · (repeat first | dsimp only [bH,go_sem,rA,rM,rS] | simp only [nbr])
     try simp [mtL,mtB,mtS]
   · (repeat first | dsimp only [bH,go_sem,rA,rM,rS] | simp only [nbr])
     try simp [mpS_kf3,loanV,intV,bolV,partnerL,KFR_iff,KFL,KF]
   rintro _ rfl
   (repeat first | dsimp only [doneO,bH,homeB,go_sem,rA,rM,rS] | simp only [nbr])
   refine raw_set (key:=kI) (val:=bolV) (sv:=sI) (L:=b.dead) (k:=x.animal) (v:=true) (ins:=false) rfl rfl u71 key3 rfl rfl (fun _ _ _ e=>by cases e) ?_
   dsimp only [go_sem,rA,rM,rS]
   refine ⟨_,⟨_,(h.home hp hl hd).kill (a:=x.animal),rfl⟩,?_⟩
   try simp only [doneO,voidO,bH,homeB]
   (refine entO_id ?_ ?_ ?_ rfl<;>dsimp only [mpS_kf3,loanV,intV,bolV,partnerL,id,go_sem,rA,rM,rS]<;>simp [mpS_kf3,loanV,intV,bolV,partnerL,KFR_iff,KFR_app,KFR,KFL,KF,mtL_same,mtO,nbr])
theorem lent_lent {p:Pact} {n:Nat} {c:Co} {b:Bks} (h:BkR n c b) (x:Letter) {l:Int × Int} (hl:c.loans x.animal=some l) :
 CtM Try.prog 99 (bH p b) 6 [.p 5 0,.agg (letterL x)] (fun o=>o=voidO 1 p b):=by
 refine m99 (by simp [hpb,bH]) (fun o ho=>by subst ho;exact ⟨by simp [voidO,KX],bH_kx p b⟩) ?_
 dsimp only [c99,r99,bH,letterL,go_sem,rA,rM,rS]
 have hrv:=fun σ h1 h2 h3=>rv_get (P:=Try.prog) (t:=99) (σ:=σ) (i:=10) (j:=12) (ok:=true) (km:=0) (c:=b.cl) (key:=kI) (val:=loanV) (sv:=sI) (L:=b.loans) (k:=x.animal) (zs:=loanV (0,0)) h1 h2 h3 u99 key3 zero150 lz_R
 refine ⟨_,hrv _ rfl rfl rfl,?_⟩
 rw [h.lo,hl]
 dsimp only [lkS,loanV,go_sem,rA,rM,rS]
 refine callmP [] (refuse_yes 1) rfl rfl rfl ?_ ?_ ?_
 · (repeat first | dsimp only [go_sem,rA,rM,rS] | simp only [nbr])
   try simp [mtL,mtB,mtS]
 · trivial
 rintro _ rfl
 (repeat first | dsimp only [go_sem,rA,rM,rS] | simp only [nbr])
 refine ⟨_,rfl,?_⟩
 try simp only [doneO,voidO,bH,homeB]
 (refine entO_id ?_ ?_ ?_ rfl<;>dsimp only [mpS_kf3,loanV,intV,bolV,partnerL,id,go_sem,rA,rM,rS]<;>simp [mpS_kf3,loanV,intV,bolV,partnerL,KFR_iff,KFR_app,KFR,KFL,KF,mtL_same,mtO,nbr])
theorem lent_dead {p:Pact} {n:Nat} {c:Co} {b:Bks} (h:BkR n c b) (x:Letter) (hl:c.loans x.animal=none) (hx:c.dead x.animal=true) :
 CtM Try.prog 99 (bH p b) 6 [.p 5 0,.agg (letterL x)] (fun o=>o=voidO 2 p b):=by
 refine m99 (by simp [hpb,bH]) (fun o ho=>by subst ho;exact ⟨by simp [voidO,KX],bH_kx p b⟩) ?_
 dsimp only [c99,r99,bH,letterL,go_sem,rA,rM,rS]
 have hrv:=fun σ h1 h2 h3=>rv_get (P:=Try.prog) (t:=99) (σ:=σ) (i:=10) (j:=12) (ok:=true) (km:=0) (c:=b.cl) (key:=kI) (val:=loanV) (sv:=sI) (L:=b.loans) (k:=x.animal) (zs:=loanV (0,0)) h1 h2 h3 u99 key3 zero150 lz_R
 refine ⟨_,hrv _ rfl rfl rfl,?_⟩
 rw [h.lo,hl]
 dsimp only [lkS,loanV,go_sem,rA,rM,rS]
 refine callmP [] (refuse_no 1) rfl rfl rfl ?_ ?_ ?_
 · (repeat first | dsimp only [go_sem,rA,rM,rS] | simp only [nbr])
   try simp [mtL,mtB,mtS]
 · trivial
 rintro _ rfl
 (repeat first | dsimp only [go_sem,rA,rM,rS] | simp only [nbr])
 have hq:=h.de x.animal
 rw [hx] at hq
 refine raw_get (key:=kI) (val:=bolV) (sv:=sI) (L:=b.dead) (k:=x.animal) (zs:=bolV false) rfl rfl u71 key3 rfl zero4 bz_R (fun v hg=>?_) (fun hg=>?_)
 case refine_2=>rw [hg] at hq;cases hq
 rw [hg] at hq
 have hq:v=true:=hq
 subst hq
 dsimp only [bolV,go_sem,rA,rM,rS]
 refine callmP [] (refuse_yes 2) rfl rfl rfl ?_ ?_ ?_
 · (repeat first | dsimp only [go_sem,rA,rM,rS] | simp only [nbr])
   try simp [mtL,mtB,mtS]
 · trivial
 rintro _ rfl
 (repeat first | dsimp only [go_sem,rA,rM,rS] | simp only [nbr])
 refine ⟨_,rfl,?_⟩
 try simp only [doneO,voidO,bH,homeB]
 (refine entO_id ?_ ?_ ?_ rfl<;>dsimp only [mpS_kf3,loanV,intV,bolV,partnerL,id,go_sem,rA,rM,rS]<;>simp [mpS_kf3,loanV,intV,bolV,partnerL,KFR_iff,KFR_app,KFR,KFL,KF,mtL_same,mtO,nbr])
theorem lent_yes {p:Pact} {n:Nat} {c:Co} {b:Bks} (h:BkR n c b) (x:Letter) (hd:0≤x.day∧x.day≤100000) (hl:c.loans x.animal=none) (hx:c.dead x.animal=false) :
 CtM Try.prog 99 (bH p b) 6 [.p 5 0,.agg (letterL x)] (fun o=>∃ b',BkR (n+1) { c with loans:=upd c.loans x.animal (some (x.who,x.day)) } b'∧o=doneO p b'):=by
 refine m99 (by simp [hpb,bH]) (fun o ho=>by obtain ⟨b',-,rfl⟩:=ho;exact ⟨by simp [doneO,KX,KXL],bH_kx p b'⟩) ?_
 dsimp only [c99,r99,bH,letterL,go_sem,rA,rM,rS]
 have hq:=h.de x.animal
 rw [hx] at hq
 have hrw:∀ v,mget x.animal b.dead=some v→v=false:=fun v hg=>by rw [hg] at hq;exact hq
 have hrv:=fun σ h1 h2 h3=>rv_get (P:=Try.prog) (t:=99) (σ:=σ) (i:=10) (j:=12) (ok:=true) (km:=0) (c:=b.cl) (key:=kI) (val:=loanV) (sv:=sI) (L:=b.loans) (k:=x.animal) (zs:=loanV (0,0)) h1 h2 h3 u99 key3 zero150 lz_R
 refine ⟨_,hrv _ rfl rfl rfl,?_⟩
 rw [h.lo,hl]
 dsimp only [lkS,loanV,go_sem,rA,rM,rS]
 refine callmP [] (refuse_no 1) rfl rfl rfl ?_ ?_ ?_
 · (repeat first | dsimp only [go_sem,rA,rM,rS] | simp only [nbr])
   try simp [mtL,mtB,mtS]
 · trivial
 rintro _ rfl
 (repeat first | dsimp only [go_sem,rA,rM,rS] | simp only [nbr])
 refine raw_get (key:=kI) (val:=bolV) (sv:=sI) (L:=b.dead) (k:=x.animal) (zs:=bolV false) rfl rfl u71 key3 rfl zero4 bz_R (fun v hg=>?_) (fun hg=>?_)
 · have:=hrw v hg;subst this
   dsimp only [bolV,go_sem,rA,rM,rS]
   refine callmP [] (refuse_no 2) rfl rfl rfl ?_ ?_ ?_
   · (repeat first | dsimp only [go_sem,rA,rM,rS] | simp only [nbr])
     try simp [mtL,mtB,mtS]
   · trivial
   rintro _ rfl
   (repeat first | dsimp only [go_sem,rA,rM,rS] | simp only [nbr])
   refine raw_set (key:=kI) (val:=loanV) (sv:=sI) (L:=b.loans) (k:=x.animal) (v:=(x.who,x.day)) (ins:=false) rfl rfl u99 key3 rfl rfl (fun _ _ _ e=>by cases e) ?_
   dsimp only [go_sem,rA,rM,rS]
   refine ⟨_,⟨_,h.lent (a:=x.animal) (who:=x.who) (d:=x.day) hd,rfl⟩,?_⟩
   try simp only [doneO,voidO,bH,homeB]
   (refine entO_id ?_ ?_ ?_ rfl<;>dsimp only [mpS_kf3,loanV,intV,bolV,partnerL,id,go_sem,rA,rM,rS]<;>simp [mpS_kf3,loanV,intV,bolV,partnerL,KFR_iff,KFR_app,KFR,KFL,KF,mtL_same,mtO,nbr])
 · skip
   dsimp only [bolV,go_sem,rA,rM,rS]
   refine callmP [] (refuse_no 2) rfl rfl rfl ?_ ?_ ?_
   · (repeat first | dsimp only [go_sem,rA,rM,rS] | simp only [nbr])
     try simp [mtL,mtB,mtS]
   · trivial
   rintro _ rfl
   (repeat first | dsimp only [go_sem,rA,rM,rS] | simp only [nbr])
   refine raw_set (key:=kI) (val:=loanV) (sv:=sI) (L:=b.loans) (k:=x.animal) (v:=(x.who,x.day)) (ins:=false) rfl rfl u99 key3 rfl rfl (fun _ _ _ e=>by cases e) ?_
   dsimp only [go_sem,rA,rM,rS]
   refine ⟨_,⟨_,h.lent (a:=x.animal) (who:=x.who) (d:=x.day) hd,rfl⟩,?_⟩
   try simp only [doneO,voidO,bH,homeB]
   (refine entO_id ?_ ?_ ?_ rfl<;>dsimp only [mpS_kf3,loanV,intV,bolV,partnerL,id,go_sem,rA,rM,rS]<;>simp [mpS_kf3,loanV,intV,bolV,partnerL,KFR_iff,KFR_app,KFR,KFL,KF,mtL_same,mtO,nbr])
theorem calf_twice {p:Pact} {n:Nat} {c:Co} {b:Bks} (h:BkR n c b) (x:Letter) (hx:c.known x.other=true) :
 CtM Try.prog 103 (bH p b) 6 [.p 5 0,.agg (letterL x)] (fun o=>o=voidO 4 p b):=by
 refine m103 (by simp [hpb,bH]) (fun o ho=>by subst ho;exact ⟨by simp [voidO,KX],bH_kx p b⟩) ?_
 dsimp only [c103,r103,bH,letterL,go_sem,rA,rM,rS]
 have hq:=h.kn x.other
 rw [hx] at hq
 refine raw_get (key:=kI) (val:=bolV) (sv:=sI) (L:=b.known) (k:=x.other) (zs:=bolV false) rfl rfl u71 key3 rfl zero4 bz_R (fun v hg=>?_) (fun hg=>?_)
 case refine_2=>rw [hg] at hq;cases hq
 rw [hg] at hq
 have hq:v=true:=hq
 subst hq
 dsimp only [bolV,go_sem,rA,rM,rS]
 refine callmP [] (refuse_yes 4) rfl rfl rfl ?_ ?_ ?_
 · (repeat first | dsimp only [go_sem,rA,rM,rS] | simp only [nbr])
   try simp [mtL,mtB,mtS]
 · trivial
 rintro _ rfl
 (repeat first | dsimp only [go_sem,rA,rM,rS] | simp only [nbr])
 refine ⟨_,rfl,?_⟩
 try simp only [doneO,voidO,bH,homeB]
 (refine entO_id ?_ ?_ ?_ rfl<;>dsimp only [mpS_kf3,loanV,intV,bolV,partnerL,id,go_sem,rA,rM,rS]<;>simp [mpS_kf3,loanV,intV,bolV,partnerL,KFR_iff,KFR_app,KFR,KFL,KF,mtL_same,mtO,nbr])
theorem calf_no {p:Pact} {n:Nat} {c:Co} {b:Bks} (h:BkR n c b) (x:Letter) (hx:c.known x.other=false) (hl:c.loans x.animal=none) :
 CtM Try.prog 103 (bH p b) 6 [.p 5 0,.agg (letterL x)] (fun o=>o=voidO 3 p b):=by
 refine m103 (by simp [hpb,bH]) (fun o ho=>by subst ho;exact ⟨by simp [voidO,KX],bH_kx p b⟩) ?_
 dsimp only [c103,r103,bH,letterL,go_sem,rA,rM,rS]
 have hq:=h.kn x.other
 rw [hx] at hq
 have hrw:∀ v,mget x.other b.known=some v→v=false:=fun v hg=>by rw [hg] at hq;exact hq
 refine raw_get (key:=kI) (val:=bolV) (sv:=sI) (L:=b.known) (k:=x.other) (zs:=bolV false) rfl rfl u71 key3 rfl zero4 bz_R (fun v hg=>?_) (fun hg=>?_)
 · have:=hrw v hg;subst this
   dsimp only [bolV,go_sem,rA,rM,rS]
   refine callmP [] (refuse_no 4) rfl rfl rfl ?_ ?_ ?_
   · (repeat first | dsimp only [go_sem,rA,rM,rS] | simp only [nbr])
     try simp [mtL,mtB,mtS]
   · trivial
   rintro _ rfl
   (repeat first | dsimp only [go_sem,rA,rM,rS] | simp only [nbr])
   refine callmP [0,1,2,3,4,5] (on_no (p:=p) h x.animal hl) rfl rfl rfl ?_ ?_ ?_
   · (repeat first | dsimp only [bH,go_sem,rA,rM,rS] | simp only [nbr])
     try simp [mtL,mtB,mtS]
   · (repeat first | dsimp only [bH,go_sem,rA,rM,rS] | simp only [nbr])
     try simp [mpS_kf3,loanV,intV,bolV,partnerL,KFR_iff,KFL,KF]
   rintro _ rfl
   (repeat first | dsimp only [voidO,bH,go_sem,rA,rM,rS] | simp only [nbr])
   refine ⟨_,rfl,?_⟩
   try simp only [doneO,voidO,bH,homeB]
   (refine entO_id ?_ ?_ ?_ rfl<;>dsimp only [mpS_kf3,loanV,intV,bolV,partnerL,id,go_sem,rA,rM,rS]<;>simp [mpS_kf3,loanV,intV,bolV,partnerL,KFR_iff,KFR_app,KFR,KFL,KF,mtL_same,mtO,nbr])
 · skip
   dsimp only [bolV,go_sem,rA,rM,rS]
   refine callmP [] (refuse_no 4) rfl rfl rfl ?_ ?_ ?_
   · (repeat first | dsimp only [go_sem,rA,rM,rS] | simp only [nbr])
     try simp [mtL,mtB,mtS]
   · trivial
   rintro _ rfl
   (repeat first | dsimp only [go_sem,rA,rM,rS] | simp only [nbr])
   refine callmP [0,1,2,3,4,5] (on_no (p:=p) h x.animal hl) rfl rfl rfl ?_ ?_ ?_
   · (repeat first | dsimp only [bH,go_sem,rA,rM,rS] | simp only [nbr])
     try simp [mtL,mtB,mtS]
   · (repeat first | dsimp only [bH,go_sem,rA,rM,rS] | simp only [nbr])
     try simp [mpS_kf3,loanV,intV,bolV,partnerL,KFR_iff,KFL,KF]
   rintro _ rfl
   (repeat first | dsimp only [voidO,bH,go_sem,rA,rM,rS] | simp only [nbr])
   refine ⟨_,rfl,?_⟩
   try simp only [doneO,voidO,bH,homeB]
   (refine entO_id ?_ ?_ ?_ rfl<;>dsimp only [mpS_kf3,loanV,intV,bolV,partnerL,id,go_sem,rA,rM,rS]<;>simp [mpS_kf3,loanV,intV,bolV,partnerL,KFR_iff,KFR_app,KFR,KFL,KF,mtL_same,mtO,nbr])
theorem part_bd {r c:Int} (r0:0≤r) (r1:r≤10000000) (c0:0≤c) (c1:c≤1000):(0≤r * c∧r * c≤10000000000)∧0≤(r * c).tdiv 1000∧(r * c).tdiv 1000≤r:=by
 have q0:0≤r * c:=Int.mul_nonneg r0 c0
 have q1:r * c≤r * 1000:=Int.mul_le_mul_of_nonneg_left c1 r0
 refine ⟨⟨q0,by omega⟩,Int.tdiv_nonneg q0 (by omega),?_⟩
 rw [Int.tdiv_eq_ediv_of_nonneg q0]
 omega
theorem calf_yes {p:Pact} {n:Nat} {c:Co} {b:Bks} (h:BkR n c b) (hn:n≤1000) (hp:0≤p.calf∧p.calf≤1000) (x:Letter) (hr:0≤x.rials∧x.rials≤10000000) (hx:c.known x.other=false) {l:Int × Int} (hl:c.loans x.animal=some l) :
 CtM Try.prog 103 (bH p b) 6 [.p 5 0,.agg (letterL x)] (fun o=>∃ b',BkR (n+1) { c with extra:=upd c.extra l.1 (c.extra l.1+(x.rials * p.calf).tdiv 1000),result:=c.result+(x.rials - (x.rials * p.calf).tdiv 1000),known:=upd c.known x.other true } b'∧o=doneO p b'):=by
 refine m103 (by simp [hpb,bH]) (fun o ho=>by obtain ⟨b',-,rfl⟩:=ho;exact ⟨by simp [doneO,KX,KXL],bH_kx p b'⟩) ?_
 dsimp only [c103,r103,bH,letterL,go_sem,rA,rM,rS]
 have hq:=h.kn x.other
 rw [hx] at hq
 have hrw:∀ v,mget x.other b.known=some v→v=false:=fun v hg=>by rw [hg] at hq;exact hq
 obtain ⟨⟨m0,m1⟩,d0,d1⟩:=part_bd hr.1 hr.2 hp.1 hp.2
 have hrb:=h.rb
 have heb:=h.eb l.1
 have hre:=h.re
 refine raw_get (key:=kI) (val:=bolV) (sv:=sI) (L:=b.known) (k:=x.other) (zs:=bolV false) rfl rfl u71 key3 rfl zero4 bz_R (fun v hg=>?_) (fun hg=>?_)
 · have:=hrw v hg;subst this
   dsimp only [bolV,go_sem,rA,rM,rS]
   refine callmP [] (refuse_no 4) rfl rfl rfl ?_ ?_ ?_
   · (repeat first | dsimp only [go_sem,rA,rM,rS] | simp only [nbr])
     try simp [mtL,mtB,mtS]
   · trivial
   rintro _ rfl
   (repeat first | dsimp only [go_sem,rA,rM,rS] | simp only [nbr])
   refine callmP [0,1,2,3,4,5] (on_yes (p:=p) h x.animal hl) rfl rfl rfl ?_ ?_ ?_
   · (repeat first | dsimp only [bH,go_sem,rA,rM,rS] | simp only [nbr])
     try simp [mtL,mtB,mtS]
   · (repeat first | dsimp only [bH,go_sem,rA,rM,rS] | simp only [nbr])
     try simp [mpS_kf3,loanV,intV,bolV,partnerL,KFR_iff,KFL,KF]
   rintro _ rfl
   (repeat first | dsimp only [loanV,bH,go_sem,rA,rM,rS] | simp only [nbr])
   rw [w64_in (n:=x.rials * p.calf) (by omega) (by omega)]
   refine div0 (by decide) ?_
   dsimp only [go_sem,rA,rM,rS]
   rw [w64_in (n:=(x.rials * p.calf).tdiv 1000) (by omega) (by omega)]
   have hrv:=fun σ h1 h2 h3=>rv_get (P:=Try.prog) (t:=101) (σ:=σ) (i:=30) (j:=32) (ok:=false) (km:=4) (c:=b.ce) (key:=kI) (val:=intV) (sv:=sI) (L:=b.extra) (k:=l.1) (zs:=intV 0) h1 h2 h3 u101 key3 zero3 iz_R
   refine ⟨_,hrv _ rfl rfl rfl,?_⟩
   rw [show lkS false intV (intV 0) (mget l.1 b.extra)=intV (c.extra l.1) from by rw [← h.ex];cases mget l.1 b.extra<;>rfl]
   dsimp only [intV,go_sem,rA,rM,rS]
   rw [w64_in (n:=c.extra l.1+(x.rials * p.calf).tdiv 1000) (by omega) (by omega)]
   refine raw_set (key:=kI) (val:=intV) (sv:=sI) (L:=b.extra) (k:=l.1) (v:=c.extra l.1+(x.rials * p.calf).tdiv 1000) (ins:=false) rfl rfl u101 key3 rfl rfl (fun _ _ _ e=>by cases e) ?_
   dsimp only [go_sem,rA,rM,rS]
   rw [w64_in (n:=x.rials - (x.rials * p.calf).tdiv 1000) (by omega) (by omega),hre,w64_in (n:=c.result+(x.rials - (x.rials * p.calf).tdiv 1000)) (by omega) (by omega)]
   refine raw_set (key:=kI) (val:=bolV) (sv:=sI) (L:=b.known) (k:=x.other) (v:=true) (ins:=false) rfl rfl u71 key3 rfl rfl (fun _ _ _ e=>by cases e) ?_
   dsimp only [go_sem,rA,rM,rS]
   refine ⟨_,⟨_,h.calf (who:=l.1) (other:=x.other) (v:=c.extra l.1+(x.rials * p.calf).tdiv 1000) (r:=c.result+(x.rials - (x.rials * p.calf).tdiv 1000)) (by omega) (by omega),rfl⟩,?_⟩
   try simp only [doneO,voidO,bH,homeB]
   (refine entO_id ?_ ?_ ?_ rfl<;>dsimp only [mpS_kf3,loanV,intV,bolV,partnerL,id,go_sem,rA,rM,rS]<;>simp [mpS_kf3,loanV,intV,bolV,partnerL,KFR_iff,KFR_app,KFR,KFL,KF,mtL_same,mtO,nbr])
 · skip
   dsimp only [bolV,go_sem,rA,rM,rS]
   refine callmP [] (refuse_no 4) rfl rfl rfl ?_ ?_ ?_
   · (repeat first | dsimp only [go_sem,rA,rM,rS] | simp only [nbr])
     try simp [mtL,mtB,mtS]
   · trivial
   rintro _ rfl
   (repeat first | dsimp only [go_sem,rA,rM,rS] | simp only [nbr])
   refine callmP [0,1,2,3,4,5] (on_yes (p:=p) h x.animal hl) rfl rfl rfl ?_ ?_ ?_
   · (repeat first | dsimp only [bH,go_sem,rA,rM,rS] | simp only [nbr])
     try simp [mtL,mtB,mtS]
   · (repeat first | dsimp only [bH,go_sem,rA,rM,rS] | simp only [nbr])
     try simp [mpS_kf3,loanV,intV,bolV,partnerL,KFR_iff,KFL,KF]
   rintro _ rfl
   (repeat first | dsimp only [loanV,bH,go_sem,rA,rM,rS] | simp only [nbr])
   rw [w64_in (n:=x.rials * p.calf) (by omega) (by omega)]
   refine div0 (by decide) ?_
   dsimp only [go_sem,rA,rM,rS]
   rw [w64_in (n:=(x.rials * p.calf).tdiv 1000) (by omega) (by omega)]
   have hrv:=fun σ h1 h2 h3=>rv_get (P:=Try.prog) (t:=101) (σ:=σ) (i:=30) (j:=32) (ok:=false) (km:=4) (c:=b.ce) (key:=kI) (val:=intV) (sv:=sI) (L:=b.extra) (k:=l.1) (zs:=intV 0) h1 h2 h3 u101 key3 zero3 iz_R
   refine ⟨_,hrv _ rfl rfl rfl,?_⟩
   rw [show lkS false intV (intV 0) (mget l.1 b.extra)=intV (c.extra l.1) from by rw [← h.ex];cases mget l.1 b.extra<;>rfl]
   dsimp only [intV,go_sem,rA,rM,rS]
   rw [w64_in (n:=c.extra l.1+(x.rials * p.calf).tdiv 1000) (by omega) (by omega)]
   refine raw_set (key:=kI) (val:=intV) (sv:=sI) (L:=b.extra) (k:=l.1) (v:=c.extra l.1+(x.rials * p.calf).tdiv 1000) (ins:=false) rfl rfl u101 key3 rfl rfl (fun _ _ _ e=>by cases e) ?_
   dsimp only [go_sem,rA,rM,rS]
   rw [w64_in (n:=x.rials - (x.rials * p.calf).tdiv 1000) (by omega) (by omega),hre,w64_in (n:=c.result+(x.rials - (x.rials * p.calf).tdiv 1000)) (by omega) (by omega)]
   refine raw_set (key:=kI) (val:=bolV) (sv:=sI) (L:=b.known) (k:=x.other) (v:=true) (ins:=false) rfl rfl u71 key3 rfl rfl (fun _ _ _ e=>by cases e) ?_
   dsimp only [go_sem,rA,rM,rS]
   refine ⟨_,⟨_,h.calf (who:=l.1) (other:=x.other) (v:=c.extra l.1+(x.rials * p.calf).tdiv 1000) (r:=c.result+(x.rials - (x.rials * p.calf).tdiv 1000)) (by omega) (by omega),rfl⟩,?_⟩
   try simp only [doneO,voidO,bH,homeB]
   (refine entO_id ?_ ?_ ?_ rfl<;>dsimp only [mpS_kf3,loanV,intV,bolV,partnerL,id,go_sem,rA,rM,rS]<;>simp [mpS_kf3,loanV,intV,bolV,partnerL,KFR_iff,KFR_app,KFR,KFL,KF,mtL_same,mtO,nbr])
end Go.Proofs.Ythilckbkffjliaa
set_option maxRecDepth 100000
set_option maxHeartbeats 4000000
namespace Go.Proofs.Ythilckbkffjliaa
open Go Go.Sx Go.Azalai
theorem debts_kf (L:List (Nat × (Int × Int) × Int)):∀ e ∈ mpS kP intV L,KF e.2.2:=by
 intro e he
 obtain ⟨x,_,rfl⟩:=List.mem_map.1 he
 simp [intV,KF]
theorem owes_ok {p:Pact} {n:Nat} {c:Co} {b:Bks} (h:BkR n c b) (hn:n≤1000) (x:Letter) (hx:0≤x.rials∧x.rials≤10000000) :
 CtM Try.prog 104 (bH p b) 6 [.p 5 0,.agg (letterL x)] (fun o=>∃ b',BkR (n+1) { c with debts:=upd c.debts x.who (upd (c.debts x.who) x.other (c.debts x.who x.other+x.rials)) } b'∧o=doneO p b'):=by
 refine m104 (by simp [hpb,bH]) (fun o ho=>by obtain ⟨b',-,rfl⟩:=ho;exact ⟨by simp [doneO,KX,KXL],bH_kx p b'⟩) ?_
 have hb:=h.bb x.who x.other
 have hv0:c.debts x.who x.other=(mget (x.who,x.other) b.debts).getD 0:=(h.db _ _).symm
 dsimp only [c104,r104,bH,letterL,go_sem,rA,rM,rS]
 refine gh (ent_pend (km:=3) (key:=kP) (val:=intV) (L:=b.debts) (c:=b.cb) (k:=(x.who,x.other)) (v0:=c.debts x.who x.other) rfl (debts_kf _)) ?_
 dsimp only [go_sem,rA,rM,rS]
 refine ⟨_,rv_getp (P:=Try.prog) (t:=100) (i:=7) (j:=12) (sv:=sP) (v:=0) hv0 rfl rfl (debts_kf _) trivial rfl u100 key105 zero3 iz_R,?_⟩
 dsimp only [intV,go_sem,rA,rM,rS]
 rw [w64_in (n:=c.debts x.who x.other+x.rials) (by omega) (by omega)]
 refine ⟨3,_,_,rfl,wk_pend rfl (debts_kf _) trivial,rb_entry (P:=Try.prog) (t:=100) (i:=7) (j:=12) (sv:=sP) (v:=0) hv0 rfl rfl (debts_kf _) trivial rfl u100 key105 zero3 iz_R,?_⟩
 dsimp only [intV,go_sem,rA,rM,rS]
 refine raw_estore (key:=kP) (val:=intV) (L:=b.debts) (k:=(x.who,x.other)) (c:=b.cb) (v0:=c.debts x.who x.other) (v:=c.debts x.who x.other+x.rials) rfl rfl rfl h.w4 rfl (fun _ _ _ e=>by cases e) ?_
 dsimp only [go_sem,rA,rM,rS]
 refine ⟨_,⟨_,h.debt (who:=x.who) (other:=x.other) (v:=c.debts x.who x.other+x.rials) (by omega),rfl⟩,?_⟩
 try simp only [doneO,bH]
 (refine entO_id ?_ ?_ ?_ rfl<;>dsimp only [mpS_kf3,loanV,intV,bolV,partnerL,id,go_sem,rA,rM,rS]<;>simp [mpS_kf3,loanV,intV,bolV,partnerL,KFR_iff,KFR_app,KFR,KFL,KF,mtL_same,mtO,nbr])
theorem pays_paid {p:Pact} {n:Nat} {c:Co} {b:Bks} (h:BkR n c b) (x:Letter) (hx:c.debts x.who x.other < x.rials) :
 CtM Try.prog 105 (bH p b) 6 [.p 5 0,.agg (letterL x)] (fun o=>o=voidO 5 p b):=by
 refine m105 (by simp [hpb,bH]) (fun o ho=>by subst ho;exact ⟨by simp [voidO,KX],bH_kx p b⟩) ?_
 dsimp only [c105,r105,bH,letterL,go_sem,rA,rM,rS]
 have hrv:=fun σ h1 h2 h3=>rv_get (P:=Try.prog) (t:=100) (σ:=σ) (i:=13) (j:=14) (ok:=false) (km:=3) (c:=b.cb) (key:=kP) (val:=intV) (sv:=sP) (L:=b.debts) (k:=(x.who,x.other)) (zs:=intV 0) h1 h2 h3 u100 key105 zero3 iz_R
 refine ⟨_,hrv _ rfl rfl rfl,?_⟩
 rw [show lkS false intV (intV 0) (mget (x.who,x.other) b.debts)=intV (c.debts x.who x.other) from by rw [← h.db];cases mget (x.who,x.other) b.debts<;>rfl]
 dsimp only [intV,go_sem,rA,rM,rS]
 rw [show decide (c.debts x.who x.other < x.rials)=true from by simpa using hx]
 refine callmP [] (refuse_yes 5) rfl rfl rfl ?_ ?_ ?_
 · (repeat first | dsimp only [go_sem,rA,rM,rS] | simp only [nbr])
   try simp [mtL,mtB,mtS]
 · trivial
 rintro _ rfl
 (repeat first | dsimp only [go_sem,rA,rM,rS] | simp only [nbr])
 refine ⟨_,rfl,?_⟩
 try simp only [voidO,bH]
 (refine entO_id ?_ ?_ ?_ rfl<;>dsimp only [mpS_kf3,loanV,intV,bolV,partnerL,id,go_sem,rA,rM,rS]<;>simp [mpS_kf3,loanV,intV,bolV,partnerL,KFR_iff,KFR_app,KFR,KFL,KF,mtL_same,mtO,nbr])
theorem pays_ok {p:Pact} {n:Nat} {c:Co} {b:Bks} (h:BkR n c b) (hn:n≤1000) (x:Letter) (hx:0≤x.rials∧x.rials≤10000000) (hd:¬ c.debts x.who x.other < x.rials) :
 CtM Try.prog 105 (bH p b) 6 [.p 5 0,.agg (letterL x)] (fun o=>∃ b',BkR (n+1) { c with debts:=upd c.debts x.who (upd (c.debts x.who) x.other (c.debts x.who x.other - x.rials)) } b'∧o=doneO p b'):=by
 refine m105 (by simp [hpb,bH]) (fun o ho=>by obtain ⟨b',-,rfl⟩:=ho;exact ⟨by simp [doneO,KX,KXL],bH_kx p b'⟩) ?_
 have hb:=h.bb x.who x.other
 have hv0:c.debts x.who x.other=(mget (x.who,x.other) b.debts).getD 0:=(h.db _ _).symm
 dsimp only [c105,r105,bH,letterL,go_sem,rA,rM,rS]
 have hrv:=fun σ h1 h2 h3=>rv_get (P:=Try.prog) (t:=100) (σ:=σ) (i:=13) (j:=14) (ok:=false) (km:=3) (c:=b.cb) (key:=kP) (val:=intV) (sv:=sP) (L:=b.debts) (k:=(x.who,x.other)) (zs:=intV 0) h1 h2 h3 u100 key105 zero3 iz_R
 refine ⟨_,hrv _ rfl rfl rfl,?_⟩
 rw [show lkS false intV (intV 0) (mget (x.who,x.other) b.debts)=intV (c.debts x.who x.other) from by rw [← h.db];cases mget (x.who,x.other) b.debts<;>rfl]
 dsimp only [intV,go_sem,rA,rM,rS]
 rw [show decide (c.debts x.who x.other < x.rials)=false from by simpa using hd]
 refine callmP [] (refuse_no 5) rfl rfl rfl ?_ ?_ ?_
 · (repeat first | dsimp only [go_sem,rA,rM,rS] | simp only [nbr])
   try simp [mtL,mtB,mtS]
 · trivial
 rintro _ rfl
 (repeat first | dsimp only [go_sem,rA,rM,rS] | simp only [nbr])
 refine gh (ent_pend (km:=3) (key:=kP) (val:=intV) (L:=b.debts) (c:=b.cb) (k:=(x.who,x.other)) (v0:=c.debts x.who x.other) rfl (debts_kf _)) ?_
 dsimp only [go_sem,rA,rM,rS]
 refine ⟨_,rv_getp (P:=Try.prog) (t:=100) (i:=23) (j:=24) (sv:=sP) (v:=0) hv0 rfl rfl (debts_kf _) trivial rfl u100 key105 zero3 iz_R,?_⟩
 dsimp only [intV,go_sem,rA,rM,rS]
 rw [w64_in (n:=c.debts x.who x.other - x.rials) (by omega) (by omega)]
 refine ⟨3,_,_,rfl,wk_pend rfl (debts_kf _) trivial,rb_entry (P:=Try.prog) (t:=100) (i:=23) (j:=24) (sv:=sP) (v:=0) hv0 rfl rfl (debts_kf _) trivial rfl u100 key105 zero3 iz_R,?_⟩
 dsimp only [intV,go_sem,rA,rM,rS]
 refine raw_estore (key:=kP) (val:=intV) (L:=b.debts) (k:=(x.who,x.other)) (c:=b.cb) (v0:=c.debts x.who x.other) (v:=c.debts x.who x.other - x.rials) rfl rfl rfl h.w4 rfl (fun _ _ _ e=>by cases e) ?_
 dsimp only [go_sem,rA,rM,rS]
 refine ⟨_,⟨_,h.debt (who:=x.who) (other:=x.other) (v:=c.debts x.who x.other - x.rials) (by omega),rfl⟩,?_⟩
 try simp only [doneO,bH]
 (refine entO_id ?_ ?_ ?_ rfl<;>dsimp only [mpS_kf3,loanV,intV,bolV,partnerL,id,go_sem,rA,rM,rS]<;>simp [mpS_kf3,loanV,intV,bolV,partnerL,KFR_iff,KFR_app,KFR,KFL,KF,mtL_same,mtO,nbr])
end Go.Proofs.Ythilckbkffjliaa
namespace Go.Sx
open Go Go.RowKit
inductive FB where
 | tail (c:SC)
 | seq (a:SC) (b:FB)
 | dfr (ops:List Ins) (mx kx:X) (t:TypeId) (b:FB)
 | rcv (ops:List Ins) (cx:X) (b:FB)
def isDel (mx kx:X) (t:TypeId) (o:Oper):Bool :=
 match o.op,o.dst,o.guard with
 | .defer c,none,none=>(match c.callee with | .builtin .delete=>true | _=>false) && (match c.args.toList with | [m,k]=>cmpX mx m && cmpX kx k | _=>false) && (match c.argTypes[0]? with | some u=>u == t | none=>false)
 | _,_,_=>false
def isDefC (cx:X) (o:Oper):Bool :=
 match o.op,o.dst,o.guard with
 | .defer c,none,none=>(match c.callee with | .value y=>cmpX cx y | _=>false) && c.args.isEmpty
 | _,_,_=>false
def cmpFB (P:Program):FB→Code→Bool
 | .tail c,code=>cmpC P c code
 | .seq a b,code=>(match code with | .seq x y=>cmpC P a x && cmpFB P b y | _=>false)
 | .dfr ops mx kx t b,code=>(match code with
  | .seq (.region _ os false) y=>cmpL P os ops (os.toList.take ops.length) && (match os.toList.drop ops.length with | [o]=>isDel mx kx t o | _=>false) && cmpFB P b y
  | _=>false)
 | .rcv ops cx b,code=>(match code with
  | .seq (.region _ os false) y=>cmpL P os ops (os.toList.take ops.length) && (match os.toList.drop ops.length with | [o]=>isDefC cx o | _=>false) && cmpFB P b y
  | _=>false)
def DelR (P:Program) (t:TypeId) (kv:Value) (hb hb':HB):Prop :=
 ∃ (K V:Type) (_:DecidableEq K) (key:K→Value) (val:V→SV) (sv:K→SV) (L:List (Nat × K × V)) (k:K) (kt et:TypeId) (c:Nat),
  hb = .map (mpS key val L) c∧hb' = .map (mpS key val (mdel k L)) c∧kv=key k∧P.underlying t=some (.map kt et)∧KeyT P kt key sv
def dK (P:Program) (t:TypeId) (km:Nat) (kv:Value) (K:Ex→St→Prop):Ex→St→Prop
 | .n,σ=>∃ hb',DelR P t kv (lkh km σ.hp) hb'∧K .n ⟨σ.fr,(km,hb') :: σ.hp,σ.n,σ.N,σ.gs⟩
 | .ret,σ=>∃ hb',DelR P t kv (lkh km σ.hp) hb'∧K .ret ⟨σ.fr,(km,hb') :: σ.hp,σ.n,σ.N,σ.gs⟩
 | _,_=>False
def fxS (f:St→(Ex→St→Prop)→Prop) (K:Ex→St→Prop):Ex→St→Prop
 | .n,σ=>f σ K
 | .ex _,_=>False
 | .ret,σ=>K .ret σ
 | .pan s,σ=>K (.pan s) σ
def mpO:SV→Option Nat
 | .mp k=>some k
 | _=>none
def vO:SV→Option Value
 | .v x=>some x
 | _=>none
def dfrK (P:Program) (t:TypeId) (f:Nat→St→(Ex→St→Prop)→Prop) (km:Option Nat) (kv:Option Value) (σ : St) (K:Ex→St→Prop):Prop :=
 match km,kv with
 | some km,some kv=>Nat.blt km σ.n=true∧f σ.n σ (dK P t km kv K)
 | _,_=>False
def isRec (t:Nat) (o:Oper):Bool :=
 match o.op,o.dst,o.guard with
 | .call c,some u,none=>u == t && (match c.callee with | .builtin .recover=>true | _=>false) && c.args.isEmpty
 | _,_,_=>false
structure RcF (P:Program) (g:FuncId) (t:Nat) (l:List Ins) (c:SC) (N:Nat):Prop where
 ex:∃ fn id os y0 o1,P.funcs[g]? = some fn∧fn.body=some (.seq (.region id os false) y0)∧os[0]? = some o1∧isRec t o1=true∧cmpL P os l (os.toList.drop 1)=true∧cmpC P c y0=true∧fn.ntmps=N∧t < N∧fn.results = #[]
 bd:bodyB P g=true
def rcK (σ : St) (k:St→Prop):Ex→St→Prop
 | .n,σ'=>k ⟨σ.fr,σ'.hp,σ'.n,σ.N,σ.gs⟩
 | .ret,σ'=>k ⟨σ.fr,σ'.hp,σ'.n,σ.N,σ.gs⟩
 | _,_=>False
def rcR (P:Program) (t:Nat) (l:List Ins) (c:SC) (N:Nat) (caps:List SV) (s:SV) (σ : St) (k:St→Prop):Prop :=
 Nat.ble caps.length N=true∧rx P Y0 l ⟨(t,s) :: enum 0 caps,σ.hp,σ.n,N,[]⟩ (endK (fxS (fun σ' K=>sx P Y0 σ.n c σ' K) (rcK σ k)))
def rcvK (P:Program) (f:Nat→St→(Ex→St→Prop)→Prop) (rk:FuncId→List SV→Ex→St→Prop) (s:SV) (σ : St):Prop :=
 match s with
 | .cl g caps=>f σ.n σ (rk g caps)
 | _=>False
def rK (P:Program) (K:Ex→St→Prop) (g:FuncId) (caps:List SV):Ex→St→Prop
 | .n,σ=>∃ t l c N,RcF P g t l c N∧rcR P t l c N caps (.v .nilIface) σ (K .n)
 | .ret,σ=>∃ t l c N,RcF P g t l c N∧rcR P t l c N caps (.v .nilIface) σ (K .ret)
 | .pan s,σ=>∃ t l c N,RcF P g t l c N∧rcR P t l c N caps s σ (K .ret)
 | .ex _,_=>False
def fx (P:Program):Nat→FB→St→(Ex→St→Prop)→Prop
 | m,.tail c,σ,K=>sx P Y0 m c σ K
 | m,.seq a b,σ,K=>sx P Y0 m a σ (fxS (fx P m b) K)
 | _,.dfr ops mx kx t b,σ,K=>rx P Y0 ops σ (endK (fxS (fun σ K=>dfrK P t (fun n=>fx P n b) (mpO (rdG none σ.fr mx)) (vO (rdG none σ.fr kx)) σ K) K))
 | _,.rcv ops cx b,σ,K=>rx P Y0 ops σ (endK (fxS (fun σ K=>rcvK P (fun n=>fx P n b) (rK P K) (rdG none σ.fr cx) σ) K))
theorem fx_tail (P:Program) (m:Nat) (c:SC) (σ : St) (K:Ex→St→Prop):fx P m (.tail c) σ K=sx P Y0 m c σ K:=rfl
theorem fx_seq (P:Program) (m:Nat) (a:SC) (b:FB) (σ : St) (K:Ex→St→Prop):fx P m (.seq a b) σ K=sx P Y0 m a σ (fxS (fx P m b) K):=rfl
theorem fx_dfr (P:Program) (m:Nat) (ops:List Ins) (mx kx:X) (t:TypeId) (b:FB) (σ : St) (K:Ex→St→Prop):fx P m (.dfr ops mx kx t b) σ K=rx P Y0 ops σ (endK (fxS (fun σ K=>dfrK P t (fun n=>fx P n b) (mpO (rdG none σ.fr mx)) (vO (rdG none σ.fr kx)) σ K) K)):=rfl
theorem fx_rcv (P:Program) (m:Nat) (ops:List Ins) (cx:X) (b:FB) (σ : St) (K:Ex→St→Prop):fx P m (.rcv ops cx b) σ K=rx P Y0 ops σ (endK (fxS (fun σ K=>rcvK P (fun n=>fx P n b) (rK P K) (rdG none σ.fr cx) σ) K)):=rfl
theorem rcvK_cl (P:Program) (f:Nat→St→(Ex→St→Prop)→Prop) (rk:FuncId→List SV→Ex→St→Prop) (g:FuncId) (caps:List SV) (σ : St):rcvK P f rk (.cl g caps) σ = f σ.n σ (rk g caps):=rfl
theorem rK_n (P:Program) (K:Ex→St→Prop) (g:FuncId) (caps:List SV) (σ : St):rK P K g caps .n σ = ∃ t l c N,RcF P g t l c N∧rcR P t l c N caps (.v .nilIface) σ (K .n):=rfl
theorem rK_ret (P:Program) (K:Ex→St→Prop) (g:FuncId) (caps:List SV) (σ : St):rK P K g caps .ret σ = ∃ t l c N,RcF P g t l c N∧rcR P t l c N caps (.v .nilIface) σ (K .ret):=rfl
theorem rK_pan (P:Program) (K:Ex→St→Prop) (g:FuncId) (caps:List SV) (s:SV) (σ : St):rK P K g caps (.pan s) σ = ∃ t l c N,RcF P g t l c N∧rcR P t l c N caps s σ (K .ret):=rfl
theorem e_rcR (P:Program) (t:Nat) (l:List Ins) (c:SC) (N:Nat) (caps:List SV) (s:SV) (σ : St) (k:St→Prop):rcR P t l c N caps s σ k=(Nat.ble caps.length N=true∧rx P Y0 l ⟨(t,s) :: enum 0 caps,σ.hp,σ.n,N,[]⟩ (endK (fxS (fun σ' K=>sx P Y0 σ.n c σ' K) (rcK σ k)))):=rfl
theorem rcK_n (σ : St) (k:St→Prop) (σ':St):rcK σ k .n σ'=k ⟨σ.fr,σ'.hp,σ'.n,σ.N,σ.gs⟩:=rfl
theorem rcK_ret (σ : St) (k:St→Prop) (σ':St):rcK σ k .ret σ'=k ⟨σ.fr,σ'.hp,σ'.n,σ.N,σ.gs⟩:=rfl
attribute [go_sem] fx_rcv rcvK_cl rK_n rK_ret rK_pan e_rcR rcK_n rcK_ret
theorem fxS_n (f:St→(Ex→St→Prop)→Prop) (K:Ex→St→Prop) (σ : St):fxS f K .n σ = f σ K:=rfl
theorem fxS_ret (f:St→(Ex→St→Prop)→Prop) (K:Ex→St→Prop) (σ : St):fxS f K .ret σ = K .ret σ:=rfl
theorem dfrK_s (P:Program) (t:TypeId) (f:Nat→St→(Ex→St→Prop)→Prop) (km:Nat) (kv:Value) (σ : St) (K:Ex→St→Prop):dfrK P t f (some km) (some kv) σ K=(Nat.blt km σ.n=true∧f σ.n σ (dK P t km kv K)):=rfl
theorem mpO_mp (k:Nat):mpO (.mp k)=some k:=rfl
theorem vO_v (x:Value):vO (.v x)=some x:=rfl
theorem dK_n (P:Program) (t:TypeId) (km:Nat) (kv:Value) (K:Ex→St→Prop) (σ : St):dK P t km kv K .n σ = ∃ hb',DelR P t kv (lkh km σ.hp) hb'∧K .n ⟨σ.fr,(km,hb') :: σ.hp,σ.n,σ.N,σ.gs⟩:=rfl
theorem dK_ret (P:Program) (t:TypeId) (km:Nat) (kv:Value) (K:Ex→St→Prop) (σ : St):dK P t km kv K .ret σ = ∃ hb',DelR P t kv (lkh km σ.hp) hb'∧K .ret ⟨σ.fr,(km,hb') :: σ.hp,σ.n,σ.N,σ.gs⟩:=rfl
attribute [go_sem] fx_tail fx_seq fx_dfr fxS_n fxS_ret dfrK_s mpO_mp vO_v dK_n dK_ret
section
variable {P:Program}
theorem rx_pre {C:Cx} {Y:Hd} (hY:HdOK P C Y) {ops:Array Oper} {Q:Exit→Act→World→Prop} {K:RK} {os2:List Oper} (hn:∀ σ E a w,K .n σ→Sim C E σ a w→listX C.rd P ops Q os2 a w)
 (hp:∀ s σ' E a w y,K (.pan s) σ'→Sim C E σ' a w→R w E (ltn σ'.n) (okS C E σ'.hp) s y→Q (.panic [{ v:=y,recovered:=false }]) a w):∀ (l:List Ins) (os:List Oper),cmpL P ops l os=true →
 ∀ (σ : St) E a w,rx P Y l σ K→Sim C E σ a w→listX C.rd P ops Q (os ++ os2) a w
 | [],[],_,σ,E,a,w,hr,h=>hn σ E a w hr h
 | io :: l,o :: os,hc,σ,E,a,w,hr,h=>by
  simp only [cmpL,Bool.and_eq_true] at hc
  have ih:=rx_pre hY hn hp l os hc.2
  exact st1_sound (next:=listX C.rd P ops Q (os ++ os2)) hc.1 hr h (fun σ' E' a' w' h1 h2=>ih σ' E' a' w' h1 h2) (fun s σ' E' w' y h1 h2 h3=>hp s σ' E' a w' y h1 h2 h3) hY
 | [],_ :: _,h,_,_,_,_,_,_=>by simp [cmpL] at h
 | _ :: _,[],h,_,_,_,_,_,_=>by simp [cmpL] at h
theorem del_run {C:Cx} {E:Env} {σ : St} {a:Act} {w:World} (h:Sim C E σ a w) {t:TypeId} {km:Nat} {kv:Value} {hb':HB} {ats:Array TypeId} {ty:TypeId} {cc:Array Bool} (ha:ats[0]? = some t) (hd:DelR P t kv (lkh km σ.hp) hb') :
 ∃ x w',(invoke (.builtin .delete ats ty cc) #[.map (some (E.β km)),kv]).run P w = .ok (.value x) w'∧Sim C E ⟨σ.fr,(km,hb') :: σ.hp,σ.n,σ.N,σ.gs⟩ a w'∧Stays w w' (okS C E σ.hp) (okS C E ((km,hb') :: σ.hp)):=by
 obtain ⟨K,V,_,key,val,sv,L,k,kt,et,c,hh,rfl,rfl,ht,hK⟩:=hd
 obtain ⟨g0,ys,g1,g2⟩:=map_of h hh
 have hfn:=fun w=>hK.fnd k _ _ w (RM_keys g2)
 have hex:∀ w',(Builtin.delete_ ats ty #[.map (some (E.β km)),key k]).run P w = .ok (.tuple #[]) w'→(invoke (.builtin .delete ats ty cc) #[.map (some (E.β km)),key k]).run P w = .ok (.value (.tuple #[])) w':=fun w' hy=>by
  simp [invoke,builtin,hy]
 have hfin:∀ ys':Array MapEntry,(∀ {w':World} {ok':Nat→Prop},RM w' E (ltn σ.n) ok' (mpS key val L) ys.toList→RM w' E (ltn σ.n) ok' (mpS key val (mdel k L)) ys'.toList) →
  Sim C E ⟨σ.fr,(km,.map (mpS key val (mdel k L)) c) :: σ.hp,σ.n,σ.N,σ.gs⟩ a (wset w (E.β km) (.map ys' c))∧Stays w (wset w (E.β km) (.map ys' c)) (okS C E σ.hp) (okS C E ((km,.map (mpS key val (mdel k L)) c) :: σ.hp)):=fun ys' hRM=>by
  obtain ⟨q1,q2⟩:=HSim_obj (k:=km) (hb:=.map (mpS key val (mdel k L)) c) (o:=.map ys' c) h.hs (fun b=>by rw [hh];simp only [occ]) (fun b=>by simp only [occ]) (fun hlt hst=>by
   simp only [HBok]
   exact ⟨ys',wset_same hlt,hRM (RM_mono hst.c (fun _ _=>Ele.rfl) (fun _ h=>h) _ _ g2)⟩)
  exact ⟨Sim_same h q2 (fun _ _=>Ele.rfl) (Nat.le_refl _) q1,q2⟩
 rcases fI_spec (w:=w) (E:=E) (n:=ltn σ.n) (ok:=okS C E σ.hp) k L ys.toList 0 g2 with ⟨a1,a2,a3,-⟩ | ⟨j,v0,e,b1,b2,b3,b4,b5,b6⟩
 · have hrun:(Builtin.delete_ ats ty #[.map (some (E.β km)),key k]).run P w = .ok (.tuple #[]) (wset w (E.β km) (.map ys c)):=by
    simp [Builtin.delete_,Sem.run_bind,ha,run_underlying ht,Result.andThen_ok,run_getO g1 rfl,Sem.run_pure,hK.chk,hfn,a2,run_setO _ g1 rfl]
   exact ⟨_,_,hex _ hrun,hfin _ fun h1=>by rw [a3];exact h1⟩
 · rw [Nat.zero_add] at b2
   have hlt:j < ys.size:=by
    have:ys[j]? = some e:=by simpa using b3
    exact (Array.getElem?_eq_some_iff.1 this).1
   have hrun:(Builtin.delete_ ats ty #[.map (some (E.β km)),key k]).run P w = .ok (.tuple #[]) (wset w (E.β km) (.map (ys.eraseIdxIfInBounds j) c)):=by
    simp [Builtin.delete_,Sem.run_bind,ha,run_underlying ht,Result.andThen_ok,run_getO g1 rfl,Sem.run_pure,hK.chk,hfn,b2,run_setO _ g1 rfl]
   exact ⟨_,_,hex _ hrun,hfin _ fun {w' ok'} h1=>by
    have:(ys.eraseIdxIfInBounds j).toList=ys.toList.eraseIdx j:=by simp [Array.eraseIdxIfInBounds,hlt]
    rw [this];exact (b6 h1).1⟩
theorem sim_out {C C':Cx} {E E':Env} {σ σ':St} {a a':Act} {w w':World} (h:Sim C E σ a w) (h':Sim C' E' σ' a' w') (c1:C'.w0=w) (c2:C'.okp=okS C E σ.hp) (c3:C'.pass=fun k b=>occ E k (lkh k σ.hp) b) (c4:C'.e0=E) (c5:C'.m0 = σ.n) (hm:C.m0≤σ.n) :
 Sim { C with ds:=a'.defers } E' σ' a' w':=by
 have hok:∀ b,okS C' E' σ'.hp b→okS C E' σ'.hp b:=fun b hb=>by
  obtain ⟨g1,g2⟩:=hb
  refine ⟨?_,g2⟩
  rw [c1,c2] at g1
  rcases g1 with g1 | g1
  · exact g1.1
  · exact .inr (Nat.le_trans h.hs.kp.size g1)
 have hst:StaysC w' w' (okS C' E' σ'.hp) (okS C E' σ'.hp):=fun b hb _=>⟨hok b hb,rfl⟩
 refine ⟨fun t=>?_,h'.sz,DF_nil,h'.gs,⟨h'.hs.kn,fun k=>?_,h'.hs.dj,fun k b ho=>?_,⟨?_,?_,?_,?_,fun b h1 h2=>?_⟩,fun k hk=>?_⟩⟩
 · have:=h'.fr t
   cases hq:lk t σ'.fr<;>rw [hq] at this<;>try exact R_mono hst (fun _ _=>Ele.rfl) (fun _ h=>h) _ _ this
   exact ⟨fun hg=>R_mono hst (fun _ _=>Ele.rfl) (fun _ h=>h) _ _ (this.1 hg),this.2⟩
 · refine HBok_monoC hst (fun _ _=>Ele.rfl) (fun _ h=>h) ?_ (fun b ho=>rfl) rfl (h'.hs.bk k)
   rcases Classical.em (ltn σ'.n k) with hk | hk
   · exact .inr hk
   · exact .inl (h'.hs.kn k hk)
 · rcases h'.hs.lo k b ho with g | g
   · rw [c1] at g;exact .inl (Nat.le_trans h.hs.kp.size g)
   · rw [c3] at g;exact h.hs.lo k b g
 · have:=h'.hs.kp.os;rw [c1] at this;exact this.trans h.hs.kp.os
 · have:=h'.hs.kp.tape;rw [c1] at this;exact this.trans h.hs.kp.tape
 · have:=h'.hs.kp.output;rw [c1] at this;exact this.trans h.hs.kp.output
 · have:=h'.hs.kp.size;rw [c1] at this;exact Nat.le_trans h.hs.kp.size this
 · have h1':b < C.w0.heap.size:=h1
   have h2':∀ k,¬ C.pass k b:=h2
   have hb:=h'.hs.kp.block b (by rw [c1];exact Nat.lt_of_lt_of_le h1' h.hs.kp.size) (fun k hk=>by
    rw [c3] at hk
    rcases h.hs.lo k b hk with g | g
    · exact absurd h1' (Nat.not_lt.2 g)
    · exact h2' k g)
   rw [c1] at hb
   exact hb.trans (h.hs.kp.block b h1' h2')
 · have hk':k < C.m0:=hk
   have p1:=h.hs.pin k hk'
   have p2:=h'.hs.pin k (by rw [c5];exact Nat.lt_of_lt_of_le hk' hm)
   rw [c4] at p2
   exact ⟨p2.1,p1.2.trans p2.2⟩
theorem leave_ok {fn:Func} {R':Ending→World→Prop} {C:Cx} {K:Ex→St→Prop}
 (hK:∀ e σ',K e σ'→∀ (C':Cx) E' a' w',C'.w0=C.w0→C'.okp=C.okp→C'.pass=C.pass→C'.e0=C.e0→C'.m0=C.m0→Sim C' E' σ' a' w'→match e with
  | .n | .ret=>Lv P fn a'.tmps R' C.ds .returning w'
  | .ex _=>False
  | .pan s=>∀ y,R w' E' (ltn σ'.n) (okS C' E' σ'.hp) s y→Lv P fn a'.tmps R' C.ds (.panicking [{ v:=y,recovered:=false }]) w')
 (e:Ex) (σ':St) (hk:K e σ') (E':Env) (a':Act) (w':World) (hs:Sim C E' σ' a' w'):ExQ C (bodyPostL P fn R') e σ' E' a' w':=by
 obtain ⟨ms,d1,d2,d3⟩:=hs.df
 have key:=hK e σ' hk
 cases e with
 | ex i=>exact (key C E' a' w' rfl rfl rfl rfl rfl hs).elim
 | n =>
  show Lv P fn a'.tmps R' a'.defers .returning w'
  rw [d1]
  refine lv_marks ms _ _ (by simp) d2.1 (fun m hm=>(d3 m hm).2.2) fun w'' hu=>?_
  exact key { C with ds:=a'.defers } E' a' w'' rfl rfl rfl rfl rfl (sim_unm hs d3 hu)
 | ret =>
  show Lv P fn a'.tmps R' a'.defers .returning w'
  rw [d1]
  refine lv_marks ms _ _ (by simp) d2.1 (fun m hm=>(d3 m hm).2.2) fun w'' hu=>?_
  exact key { C with ds:=a'.defers } E' a' w'' rfl rfl rfl rfl rfl (sim_unm hs d3 hu)
 | pan s =>
  intro y hy
  show Lv P fn a'.tmps R' a'.defers (.panicking _) w'
  rw [d1]
  refine lv_marks ms _ _ (by simp) d2.1 (fun m hm=>(d3 m hm).2.2) fun w'' hu=>?_
  have hst:StaysC w' w'' (okS C E' σ'.hp) (okS C E' σ'.hp):=fun b hb q=>⟨hb,hu.other b fun hm'=>by rcases q with ⟨cs,T,fz,e⟩ | ⟨es,c,e⟩<;>(rw [(d3 b hm').2.2] at e;cases e)⟩
  exact key { C with ds:=a'.defers } E' a' w'' rfl rfl rfl rfl rfl (sim_unm hs d3 hu) y (R_mono hst (fun _ _=>Ele.rfl) (fun _ h=>h) _ _ hy)
theorem sim_in {C:Cx} {E:Env} {σ : St} {a:Act} {w:World} (h:Sim C E σ a w) (ds:List Deferred):Sim ⟨w,okS C E σ.hp,fun k b=>occ E k (lkh k σ.hp) b,ds,none,E,σ.n⟩ E σ { a with defers:=ds } w:=by
 have hst:StaysC w w (okS C E σ.hp) (okS ⟨w,okS C E σ.hp,fun k b=>occ E k (lkh k σ.hp) b,ds,none,E,σ.n⟩ E σ.hp):=fun b hb _=>⟨⟨.inl hb,hb.2⟩,rfl⟩
 refine ⟨fun t=>?_,h.sz,DF_nil,h.gs,⟨h.hs.kn,fun k=>?_,h.hs.dj,fun k b ho=>.inr ho,⟨rfl,rfl,rfl,Nat.le_refl _,fun _ _ _=>rfl⟩,fun k hk=>⟨hk,Ele.rfl⟩⟩⟩
 · have:=h.fr t
   show FR w E (ltn σ.n) _ σ.fr (lk t σ.fr) (a.tmps.getD t undef)
   cases hq:lk t σ.fr<;>rw [hq] at this<;>try exact R_mono hst (fun _ _=>Ele.rfl) (fun _ h=>h) _ _ this
   exact ⟨fun hg=>R_mono hst (fun _ _=>Ele.rfl) (fun _ h=>h) _ _ (this.1 hg),this.2⟩
 · refine HBok_monoC hst (fun _ _=>Ele.rfl) (fun _ h=>h) ?_ (fun b ho=>rfl) rfl (h.hs.bk k)
   rcases Classical.em (ltn σ.n k) with hk | hk
   · exact .inr hk
   · exact .inl (h.hs.kn k hk)
def recd (v:Value) (u u':FrameMode):Prop:=(u = .returning∧v = .nilIface∧u' = .returning)∨(u = .panicking [{ v:=v,recovered:=false }]∧u' = .panicking [{ v:=v,recovered:=true }])
theorem rec_step {b c₀:Frame} {a:Act} {k:List Item} {cs:List Frame} {w:World} {os:Array Oper} {o:Oper} {rest:List Nat} {t:Nat} {v:Value} {u u':FrameMode} (hb:b.kind = .deferred) (h0:os[0]? = some o) (hr:isRec t o=true)
 (hc:c₀.mode=u) (hu:recd v u u'):step P (lone (b.at a (.inRegion os (0 :: rest) :: k)) (c₀ :: cs) w) = .next (lone (b.at (a.put (some t) v) (.inRegion os rest :: k)) ({ c₀ with mode:=u' } :: cs) w):=by
 obtain ⟨dst,op,ty,pos,after,guard⟩:=o
 unfold isRec at hr
 split at hr
 case h_2=>cases hr
 rename_i c x e1 e2 e3
 simp only at e1 e2 e3
 subst e1;subst e2;subst e3
 simp only [Bool.and_eq_true,beq_iff_eq] at hr
 obtain ⟨⟨rfl,hr1⟩,hr2⟩:=hr
 split at hr1
 case h_2=>cases hr1
 rename_i hcal
 have hw:Region.wanted (⟨some x,.call c,ty,pos,after,none⟩:Oper) (yielded os a.tmps)=true:=rfl
 have hg:=stepG_op (P:=P) (b:=b) (k:=k) (cs:=c₀ :: cs) (w:=w) (rest:=rest) h0 hw
 have hfin:∀ v,(b.at a (.inRegion os (0 :: rest) :: k)).finish v=b.at (a.put (some x) v) (.inRegion os rest :: k):=by
  intro v;rw [Frame.finish_at,h0];rfl
 have hrun:(execOp a.eval (⟨some x,.call c,ty,pos,after,none⟩:Oper)).run P w = .ok .recover w:=by
  simp [execOp,resolve,hcal,invoke,builtin,Sem.run_bind,Sem.run_pure]
 have hk:(b.at a (.inRegion os (0 :: rest) :: k)).kind = .deferred:=hb
 have htr:=tryRecover_deferred hk (c₀ :: cs)
 refine step_lone_go ?_
 rw [hg,← hfin]
 rcases hu with ⟨rfl,rfl,rfl⟩ | ⟨rfl,rfl⟩
 · have hrd:recoverD (c₀ :: cs)=none:=by simp [recoverD,hc]
   have hcc:({ c₀ with mode:=.returning }:Frame)=c₀:=by rw [← hc]
   simp only [Frame.at] at htr ⊢
   simp [stepG.apply,hrun,htr,hrd,hcc]
 · have hrd:recoverD (c₀ :: cs)=some (v,{ c₀ with mode:=.panicking [{ v:=v,recovered:=true }] } :: cs):=by simp [recoverD,hc]
   simp only [Frame.at] at htr ⊢
   simp [stepG.apply,hrun,htr,hrd]
theorem unmark {fr:Frame} {cs:List Frame}:∀ (ms:List Nat) (w:World),fr.mode≠.run→fr.defers=ms.map markD→ms.Nodup→(∀ m ∈ ms,w.heap[m]? = some (.deferred (some []))) →
 ∃ w',Unm ms w w'∧Steps P (lone fr cs w) (lone { fr with defers:=[] } cs w')
 | [],w,_,hd,_,_=>⟨w,Unm.refl w,by rw [show ({ fr with defers:=[] }:Frame)=fr by rw [← show fr.defers=[] from hd]];exact Steps.refl P _⟩
 | m :: ms,w,hm,hd,hnd,hh=>by
  rw [List.nodup_cons] at hnd
  have hm0:=hh m (by simp)
  have hlt:=(Array.getElem?_eq_some_iff.1 hm0).1
  have h1:step P (lone fr cs w) = .next (lone { fr with defers:=ms.map markD } cs (wset w m (.deferred none))) :=
   step_collected hm hd rfl (by simp only [Instr.takeDeferred,Sem.run_bind,run_getO hm0 rfl,Result.andThen_ok,run_setO _ hm0 rfl,Sem.run_pure])
  obtain ⟨w',g1,g2⟩:=unmark (fr:={ fr with defers:=ms.map markD }) (cs:=cs) ms (wset w m (.deferred none)) hm rfl hnd.2 (fun k hk=>by
   rw [wset_other (by rintro rfl;exact hnd.1 hk)];exact hh k (by simp [hk]))
  refine ⟨w',⟨g1.os,g1.tape,g1.output,by rw [g1.size,wset_size],fun b hb=>?_⟩,.head h1 g2⟩
  rw [List.mem_cons,not_or] at hb
  rw [g1.other b hb.2];exact wset_other hb.1
theorem rc_callsD {g:FuncId} {fn:Func} {id:Nat} {os:Array Oper} {y0:Code} {o1:Oper} {t:Nat} {args:Array Value} {w:World} {u u':FrameMode} {v:Value} {R:Ending→FrameMode→World→Prop} {Q:Exit→Act→World→Prop}
 (hf:P.funcs[g]? = some fn) (hb:fn.body=some (.seq (.region id os false) y0)) (h0:os[0]? = some o1) (hrec:isRec t o1=true) (hu:recd v u u')
 (h:listX none P os (Exit.then (wpX none P y0 Q) Q) (os.toList.drop 1) (({ tmps:=args ++ Array.replicate (fn.ntmps - args.size) undef,defers:=[] }:Act).put (some t) v) w)
 (hQ:∀ e a w,Q e a w→(e = .normal∨e = .ret)∧∃ ms:List Nat,a.defers=ms.map markD∧ms.Nodup∧(∀ m ∈ ms,w.heap[m]? = some (.deferred (some [])))∧∀ w',Unm ms w w'→∃ val,(results fn a.tmps).run P w' = .ok val w'∧R (.returned val) u' w') :
 CallsD P g args u w R:=by
 intro c₀ cs hc
 let b:Frame:={ (default:Frame) with fn:=g,kind:=.deferred }
 let a0:Act:={ tmps:=args ++ Array.replicate (fn.ntmps - args.size) undef,defers:=[] }
 have henter:Frame.enter P g args .deferred=b.at a0 [.code (.seq (.region id os false) y0)]:=by
  simp [Frame.enter,Frame.at,hf,hb,b,a0]
 have hsz:0 < os.size:=(Array.getElem?_eq_some_iff.1 h0).1
 have hrange:List.range os.size=0 :: List.range' 1 (os.size - 1):=by
  rw [List.range_eq_range',show os.size=(os.size - 1)+1 from by omega,List.range'_succ];simp
 have h1:=listX_ops (r:=none) (P:=P) (ops:=os) (os.toList.drop 1) 1 (fun j hj=>by simp [List.getElem?_drop,Nat.add_comm]) _ w h
 rw [List.length_drop,Array.length_toList] at h1
 obtain ⟨e,a1,w1,q,s⟩:=opsX_arr _ _ w h1 b [.code y0] ({ c₀ with mode:=u' } :: cs) rfl (by simp [b,hf])
 have s:=(arrivesIn_iff (b:=b) (fun _ _=>steps_iff.symm) rfl).1 s
 rw [Frame.atR_of_none (b:=b) rfl] at s
 have hpre:Steps P (lone (Frame.enter P g args .deferred) (c₀ :: cs) w) (lone (b.at (a0.put (some t) v) (.inRegion os (List.range' 1 (os.size - 1)) :: [.code y0])) ({ c₀ with mode:=u' } :: cs) w):=by
  rw [henter]
  refine .head step_seq (.head step_region ?_)
  rw [hrange]
  exact .one (rec_step rfl h0 hrec hc hu)
 have fin:∀ (e:Exit) (a:Act) (w2:World) (todo:List Item),Q e a w2→Steps P (lone (Frame.enter P g args .deferred) (c₀ :: cs) w) (lone ({ b.at a todo with mode:=.returning }:Frame) ({ c₀ with mode:=u' } :: cs) w2) →
  ∃ e u'' w' fr,R e u'' w'∧Comes P (lone (Frame.enter P g args .deferred) (c₀ :: cs) w) (lone fr ({ c₀ with mode:=u'' } :: cs) w') e∧fr.kind = .deferred∧fr.going P w' e:=fun e a w2 todo hq hs=>by
  obtain ⟨_,ms,d1,d2,d3,d4⟩:=hQ e a w2 hq
  obtain ⟨w3,g1,g2⟩:=unmark (P:=P) (fr:={ b.at a todo with mode:=.returning }) (cs:={ c₀ with mode:=u' } :: cs) ms w2 (by simp) d1 d2 d3
  obtain ⟨val,hr,hR⟩:=d4 w3 g1
  exact ⟨.returned val,u',w3,_,hR,Steps.trans hs g2,rfl,rfl,rfl,fn,hf,hr⟩
 have tl:∀ (a:Act) (w2:World),wpX none P y0 Q a w2→Steps P (lone (Frame.enter P g args .deferred) (c₀ :: cs) w) (lone (b.at a [.code y0]) ({ c₀ with mode:=u' } :: cs) w2) →
  ∃ e u'' w' fr,R e u'' w'∧Comes P (lone (Frame.enter P g args .deferred) (c₀ :: cs) w) (lone fr ({ c₀ with mode:=u'' } :: cs) w') e∧fr.kind = .deferred∧fr.going P w' e:=fun a w2 hy hs=>by
  obtain ⟨e2,a2,w3,q2,s2⟩:=hy b [] ({ c₀ with mode:=u' } :: cs) rfl (by simp [b,hf])
  have s2:=(arrivesIn_iff (b:=b) (fun _ _=>steps_iff.symm) rfl).1 s2
  rw [Frame.atR_of_none (b:=b) rfl] at s2
  rcases (hQ e2 a2 w3 q2).1 with rfl | rfl
  · exact fin _ a2 w3 [] q2 (Steps.trans hs (Steps.trans s2 (.one step_end)))
  · obtain ⟨todo,s3⟩:=s2
    exact fin _ a2 w3 todo q2 (Steps.trans hs s3)
 cases e with
 | normal=>exact tl a1 w1 q (Steps.trans hpre s)
 | ret =>
  obtain ⟨todo,s3⟩:=s
  exact fin _ a1 w1 todo q (Steps.trans hpre s3)
 | panic chain=>rcases (hQ _ a1 w1 q).1 with h | h<;>cases h
 | exit id=>rcases (hQ _ a1 w1 q).1 with h | h<;>cases h
 | goto l=>rcases (hQ _ a1 w1 q).1 with h | h<;>cases h
 | outgrown=>rcases (hQ _ a1 w1 q).1 with h | h<;>cases h
theorem start_sim {C:Cx} {E:Env} {hp0:List (Nat × HB)} {n0 N:Nat} {args:List SV} {vs:List Value} {w:World} (hN:args.length≤N) (hds:C.ds=[]) (hH:HSim C E hp0 (ltn n0) w) (hR:RL w E (ltn n0) (okS C E hp0) args vs) :
 Sim C E ⟨enum 0 args,hp0,n0,N,[]⟩ { tmps:=vs.toArray ++ Array.replicate (N - vs.toArray.size) undef,defers:=[] } w:=by
 have hlen:=RL_length hR
 have hng:∀ t j b s,lk t (enum 0 args)≠.gd j b s:=by
  intro t j b s ht
  simp only [lk_enum,Nat.zero_le,if_true,Nat.sub_zero] at ht
  by_cases htl:t < args.length
  · have e1:args.getD t .any=args[t]:=by simp [htl]
    obtain ⟨y,h1,h2⟩:=RL_get hR (List.getElem?_eq_getElem htl)
    rw [e1] at ht;rw [ht] at h2;simp only [R] at h2
  · have e1:args.getD t .any = .any:=by simp [List.getElem?_eq_none (Nat.le_of_not_lt htl)]
    rw [e1] at ht;cases ht
 refine ⟨fun t=>?_,by simp;omega,by rw [← hds];exact DF_nil,fun t j b s ht=>absurd ht (hng t j b s),hH⟩
 have hng:=hng t
 have hFR:R w E (ltn n0) (okS C E hp0) (lk t (enum 0 args)) ((vs.toArray ++ Array.replicate (N - vs.toArray.size) undef).getD t undef):=by
  simp only [lk_enum,Nat.zero_le,if_true,Nat.sub_zero]
  by_cases ht:t < args.length
  · have e1:args.getD t .any=args[t]:=by simp [ht]
    obtain ⟨y,h1,h2⟩:=RL_get hR (List.getElem?_eq_getElem ht)
    have e2:(vs.toArray ++ Array.replicate (N - vs.toArray.size) undef).getD t undef=y:=by
     have:t < vs.length:=by omega
     have h1':=(List.getElem?_eq_some_iff.1 h1).2
     simp [Array.getElem?_append,this,h1']
    rw [e1,e2];exact h2
  · have e1:args.getD t .any = .any:=by simp [List.getElem?_eq_none (Nat.le_of_not_lt ht)]
    rw [e1];simp only [R]
 simp only
 cases hq:lk t (enum 0 args)<;>rw [hq] at hFR hng<;>first | exact hFR | exact absurd rfl (hng _ _ _)
theorem rc_sim {g:FuncId} {t N:Nat} {l:List Ins} {c:SC} (hF:RcF P g t l c N) {C:Cx} {E:Env} {σ : St} {a:Act} {w:World} (hS:Sim C E σ a w) (hm:C.m0≤σ.n) {caps:List SV} {vs:List Value} (hR:RL w E (ltn σ.n) (okS C E σ.hp) caps vs)
 {s:SV} {v:Value} (hv:R w E (ltn σ.n) (okS C E σ.hp) s v) {k:St→Prop} (hrun:rcR P t l c N caps s σ k) {u u':FrameMode} (hu:recd v u u') {R':Ending→FrameMode→World→Prop}
 (hk:∀ hp' n' E' w',k ⟨σ.fr,hp',n',σ.N,σ.gs⟩→Sim C E' ⟨σ.fr,hp',n',σ.N,σ.gs⟩ a w'→R' (.returned (.tuple #[])) u' w'):CallsD P g vs.toArray u w R':=by
 obtain ⟨fn,id,os,y0,o1,f1,f2,f3,f4,f5,f6,f7,f8,f9⟩:=hF.ex
 obtain ⟨hcl,hrun⟩:=hrun
 have hcl:=Nat.le_of_ble_eq_true hcl
 let C2:Cx:=⟨w,okS C E σ.hp,fun k b=>occ E k (lkh k σ.hp) b,[],none,E,σ.n⟩
 have hst:StaysC w w (okS C E σ.hp) (okS C2 E σ.hp):=fun b hb _=>⟨⟨.inl hb,hb.2⟩,rfl⟩
 have hin:=sim_in hS []
 have hR2:RL w E (ltn σ.n) (okS C2 E σ.hp) caps vs:=RL_mono hst (fun _ _=>Ele.rfl) (fun _ h=>h) _ _ hR
 have hv2:R w E (ltn σ.n) (okS C2 E σ.hp) s v:=R_mono hst (fun _ _=>Ele.rfl) (fun _ h=>h) _ _ hv
 have h0:Sim C2 E ⟨enum 0 caps,σ.hp,σ.n,N,[]⟩ { tmps:=vs.toArray ++ Array.replicate (N - vs.toArray.size) undef,defers:=[] } w:=start_sim hcl rfl hin.hs hR2
 have h1:Sim C2 E ⟨(t,s) :: enum 0 caps,σ.hp,σ.n,N,[]⟩ (Act.put { tmps:=vs.toArray ++ Array.replicate (N - vs.toArray.size) undef,defers:=[] } (some t) v) w :=
  Sim_put h0 (fun b hb _=>⟨hb,rfl⟩) (fun _ _=>Ele.rfl) (Nat.le_refl _) hin.hs (by simp) f8 (R_nogd hv) hv2
 let Q:Exit→Act→World→Prop:=fun e a2 w2=>(e = .normal∨e = .ret)∧∃ σ' E',k ⟨σ.fr,σ'.hp,σ'.n,σ.N,σ.gs⟩∧Sim C2 E' σ' a2 w2
 have hKQ:LkQ C2 (rcK σ k) Q:=fun e σ' hk' E' a' w' hs=>by
  cases e with
  | n=>exact ⟨.inl rfl,σ',E',hk',hs⟩
  | ret=>exact ⟨.inr rfl,σ',E',hk',hs⟩
  | ex i=>exact hk'.elim
  | pan s=>exact hk'.elim
 have hmc:MC C2 σ.n:=⟨Nat.le_refl _,fun j b ho=>by
  rcases Classical.em (ltn σ.n j) with hj | hj
  · exact hj
  · have ho':occ E j (lkh j σ.hp) b:=ho
    rw [hS.hs.kn j hj] at ho';exact ho'.elim⟩
 have hlist:=rx_sound (P:=P) (C:=C2) (Y:=Y0) hdOK0 (ops:=os) (Q:=Exit.then (wpX none P y0 Q) Q) (K:=endK (fxS (fun σ' K=>sx P Y0 σ.n c σ' K) (rcK σ k))) (fun e σ' hk' E' a' w' hs0=>by
  have hs:=Sim_purge hs0
  cases e with
  | n =>
   have hwp:=sx_sound c C2 Y0 σ.n y0 (purge σ') (rcK σ k) Q E' a' w' hmc hdOK0 (.inl rfl) f6 hk' hKQ hs
   exact hwp
  | ret=>exact hKQ .ret _ hk' E' a' w' hs
  | ex i=>exact hk'.elim
  | pan s=>exact hk'.elim) l _ f5 _ E _ w hrun h1
 refine rc_callsD (u':=u') (v:=v) f1 f2 f3 f4 hu (Q:=Q) (by rw [f7];exact hlist) (fun e a2 w2 hq=>⟨hq.1,?_⟩)
 obtain ⟨_,σ',E',hk',hs'⟩:=hq
 obtain ⟨ms,d1,d2,d3⟩:=hs'.df
 refine ⟨ms,by rw [d1];simp [C2],d2.1,fun m hm'=>(d3 m hm').2.2,fun w3 hu3=>?_⟩
 refine ⟨.tuple #[],by simp [results,f9],?_⟩
 have hs3:=sim_unm hs' d3 hu3
 have hout:=sim_out hS hs3 rfl rfl rfl rfl rfl hm
 obtain ⟨g1,g2⟩:=HSim_cx (C:=C) hout.hs rfl rfl rfl rfl rfl
 have hpin:∀ j,j < σ.n→j < σ'.n∧Ele E E' j j:=fun j hj=>hs3.hs.pin j hj
 refine hk σ'.hp σ'.n E' w3 hk' (Sim_same hS (fun b hb hsome=>?_) (fun j hj=>(hpin j hj).2) ?_ g1)
 · obtain ⟨b1,b2⟩:=hb
   have hlt:b < w.heap.size:=by
    rcases Nat.lt_or_ge b w.heap.size with q | q
    · exact q
    · rw [Array.getElem?_eq_none q] at hsome;cases hsome
   refine ⟨⟨b1,fun j ho=>?_⟩,?_⟩
   · rcases hs3.hs.lo j b ho with q | q
     · exact absurd hlt (Nat.not_lt.2 q)
     · exact b2 j q
   · exact hs3.hs.kp.block b hlt (fun j q=>b2 j q)
 · rcases Nat.lt_or_ge σ'.n σ.n with q | q
   · exact absurd (hpin σ'.n q).1 (Nat.lt_irrefl _)
   · exact q
theorem fb_sound {fn:Func} {R':Ending→World→Prop}:∀ (b:FB) (C:Cx) (m:Nat) (code:Code) (σ : St) (K:Ex→St→Prop) (E:Env) (a:Act) (w:World),MC C m→C.rd=none→cmpFB P b code=true→fx P m b σ K→Sim C E σ a w →
 (∀ e σ',K e σ'→∀ (C':Cx) E' a' w',C'.w0=C.w0→C'.okp=C.okp→C'.pass=C.pass→C'.e0=C.e0→C'.m0=C.m0→Sim C' E' σ' a' w'→match e with
  | .n | .ret=>Lv P fn a'.tmps R' C.ds .returning w'
  | .ex _=>False
  | .pan s=>∀ y,R w' E' (ltn σ'.n) (okS C' E' σ'.hp) s y→Lv P fn a'.tmps R' C.ds (.panicking [{ v:=y,recovered:=false }]) w') →
 wpX none P code (bodyPostL P fn R') a w
 | .tail c,C,m,code,σ,K,E,a,w,hm,hrd,hc,h,hS,hK=>by
  have hwp:=sx_sound c C Y0 m code σ K (bodyPostL P fn R') E a w hm hdOK0 (.inl hrd) hc h (fun e σ' hk E' a' w' hs=>leave_ok hK e σ' hk E' a' w' hs) hS
  rw [hrd] at hwp;exact hwp
 | .seq x b,C,m,code,σ,K,E,a,w,hm,hrd,hc,h,hS,hK=>by
  cases code<;>simp [cmpFB] at hc
  rename_i cx cy
  refine wpX_seq ?_
  have hwp:=sx_sound x C Y0 m cx σ (fxS (fx P m b) K) (Exit.then (wpX none P cy (bodyPostL P fn R')) (bodyPostL P fn R')) E a w hm hdOK0 (.inl hrd) hc.1 h (fun e σ' hk E' a' w' hs=>?_) hS
  · rw [hrd] at hwp;exact hwp
  cases e with
  | n=>exact fb_sound b C m cy σ' K E' a' w' hm hrd hc.2 hk hs hK
  | ex i=>exact hk.elim
  | ret=>exact leave_ok hK .ret σ' hk E' a' w' hs
  | pan s=>exact leave_ok hK (.pan s) σ' hk E' a' w' hs
 | .dfr ops mx kx t b,C,m,code,σ,K,E,a,w,hm,hrd,hc,h,hS,hK=>by
  unfold cmpFB at hc
  split at hc
  case h_2=>cases hc
  rename_i id os cy
  simp only [Bool.and_eq_true] at hc
  obtain ⟨⟨hc1,hc2⟩,hc3⟩:=hc
  split at hc2
  case h_2=>cases hc2
  rename_i o ho
  have hos:os.toList=os.toList.take ops.length ++ [o]:=by rw [← ho,List.take_append_drop]
  refine wpX_seq (wpX_region_list ?_)
  rw [hos,← hrd]
  refine rx_pre (C:=C) (Q:=Exit.then (wpX C.rd P cy (bodyPostL P fn R')) (bodyPostL P fn R')) (os2:=[o]) hdOK0 (K:=endK (fxS (fun σ K=>dfrK P t (fun n=>fx P n b) (mpO (rdG none σ.fr mx)) (vO (rdG none σ.fr kx)) σ K) K)) (fun σ0 E1 a1 w1 hk0 hs0=>?_)
   (fun s σ' E' a' w' y hk hs hy=>leave_ok hK (.pan s) (purge σ') hk E' a' w' (Sim_purge hs) y (by rw [purge_n,purge_hp];exact hy)) ops _ hc1 σ E a w h hS
  have hs:=Sim_purge hs0
  simp only [endK,fxS] at hk0
  generalize purge σ0 = σ1 at hs hk0
  obtain ⟨ms,d1,d2,d3⟩:=hs.df
  unfold dfrK at hk0
  split at hk0
  case h_2=>exact hk0.elim
  rename_i km kv hkm hkv
  obtain ⟨hlt,hfx⟩:=hk0
  have hlt:=Nat.le_of_ble_eq_true hlt
  have hmv:a1.tmps=a1.tmps∧evX a1 mx = .map (some (E1.β km)):=by
   have hR:=rdG_ok hs.fr (g:=none) trivial mx
   cases hq:rdG none σ1.fr mx<;>rw [hq] at hkm<;>simp only [mpO,Option.some.injEq,reduceCtorEq] at hkm
   subst hkm
   rw [hq] at hR;simp only [R] at hR
   exact ⟨rfl,hR.2⟩
  have hkv':evX a1 kx=kv:=by
   have hR:=rdG_ok hs.fr (g:=none) trivial kx
   cases hq:rdG none σ1.fr kx<;>rw [hq] at hkv<;>simp only [vO,Option.some.injEq,reduceCtorEq] at hkv
   subst hkv
   rw [hq] at hR;simp only [R] at hR
   exact hR
  have hmn:C.m0≤σ1.n:=by
   rcases Nat.lt_or_ge σ1.n C.m0 with q | q
   · exact absurd (hs.hs.pin σ1.n q).1 (Nat.lt_irrefl _)
   · exact q
  unfold isDel at hc2
  split at hc2
  case h_2=>cases hc2
  rename_i c hop hdst hgd
  simp only [Bool.and_eq_true] at hc2
  obtain ⟨⟨e1,e2⟩,e3⟩:=hc2
  split at e1
  case h_2=>cases e1
  rename_i hcal
  split at e2
  case h_2=>cases e2
  rename_i om ok hargs
  simp only [Bool.and_eq_true] at e2
  split at e3
  case h_2=>cases e3
  rename_i u hu
  have hut:u=t:=by simpa using e3
  subst hut
  have hca:c.args = #[om,ok]:=by apply Array.toList_inj.1;rw [hargs]
  rw [hrd]
  simp only [listX,Region.wanted,hgd]
  simp only [if_true]
  have hrun:(o.semAt none a1.eval).run P w1 = .ok (.defer { target:=.builtin .delete c.argTypes o.type (c.args.map fun | .const _=>true | _=>false),args:=#[.map (some (E1.β km)),kv] }) w1:=by
   rw [Oper.semAt_none]
   obtain ⟨dst',op',ty',pos,after,guard⟩:=o
   simp only at hop;subst hop
   simp only [execOp,Sem.run_bind,resolve,hcal,Sem.run_pure,Result.andThen_ok,hca]
   simp only [List.map_toArray,List.map_cons,List.map_nil,cmpX_sound e2.1 a1,cmpX_sound e2.2 a1,hmv.2,hkv']
   cases om<;>cases ok<;>rfl
  show o.wpq none P a1 w1 _ _
  unfold Oper.wpq
  rw [hrun]
  simp only [Oper.uponX,hdst]
  show Exit.then _ _ .normal _ w1
  simp only [Exit.then]
  show wpX none P cy (bodyPostL P fn R') { a1 with defers:=_ :: a1.defers } w1
  refine fb_sound b _ σ1.n cy σ1 (dK P u km kv K) E1 _ w1 ⟨Nat.le_refl _,fun k b ho=>?_⟩ rfl hc3 hfx (sim_in hs _) (fun e σ' hk C2 E' a' w' c1 c2 c3 c4 c5 hs'=>?_)
  · rcases Classical.em (ltn σ1.n k) with hk | hk
    · exact hk
    · have ho':occ E1 k (lkh k σ1.hp) b:=ho
      rw [hs.hs.kn k hk] at ho';exact ho'.elim
  have main:∀ (hb':HB),DelR P u kv (lkh km σ'.hp) hb'→(∀ (C':Cx) E' a' w',C'.w0=C.w0→C'.okp=C.okp→C'.pass=C.pass→C'.e0=C.e0→C'.m0=C.m0→Sim C' E' ⟨σ'.fr,(km,hb') :: σ'.hp,σ'.n,σ'.N,σ'.gs⟩ a' w'→Lv P fn a'.tmps R' C.ds .returning w') →
   Lv P fn a'.tmps R' ({ target:=.builtin .delete c.argTypes o.type (c.args.map fun | .const _=>true | _=>false),args:=#[.map (some (E1.β km)),kv] } :: a1.defers) .returning w':=fun hb' hdel hKK=>by
   obtain ⟨x,w2,hrun2,hs2,_⟩:=del_run hs' (ty:=o.type) (cc:=c.args.map fun | .const _=>true | _=>false) hu hdel
   have hβ : E'.β km=E1.β km:=by
    have:=(hs'.hs.pin km (by rw [c5];exact hlt)).2.1
    rw [c4] at this;exact this
   rw [hβ] at hrun2
   refine ⟨by simp,.inr (.inl ⟨.delete,c.argTypes,o.type,_,w2,x,rfl,hrun2,?_⟩)⟩
   rw [d1]
   have hsim:=sim_out hs hs2 c1 c2 c3 c4 c5 hmn
   have hmark:∀ m ∈ ms,C.w0.heap.size≤m∧okS C E' ((km,hb') :: σ'.hp) m∧w2.heap[m]? = some (.deferred (some [])):=fun m hm=>by
    obtain ⟨p1,p2,p3⟩:=d3 m hm
    have hlt':m < w1.heap.size:=(Array.getElem?_eq_some_iff.1 p3).1
    have hnp:∀ k,¬ C2.pass k m:=fun k hk=>by rw [c3] at hk;exact p2.2 k hk
    refine ⟨p1,⟨p2.1,fun k ho=>?_⟩,?_⟩
    · rcases hs2.hs.lo k m ho with g | g
      · rw [c1] at g;exact absurd hlt' (Nat.not_lt.2 g)
      · exact hnp k g
    · have:=hs2.hs.kp.block m (by rw [c1];exact hlt') hnp
      rw [c1] at this;rw [this];exact p3
   refine lv_marks ms _ _ (by simp) d2.1 (fun m hm=>(hmark m hm).2.2) fun w3 hu3=>?_
   exact hKK { C with ds:=a'.defers } E' a' w3 rfl rfl rfl rfl rfl (sim_unm (C:={ C with ds:=a'.defers }) hsim hmark hu3)
  cases e with
  | ex i=>exact hk.elim
  | pan s=>exact hk.elim
  | n =>
   obtain ⟨hb',h1,h2⟩:=hk
   exact main hb' h1 (fun C' E' a' w' q1 q2 q3 q4 q5 q6=>hK .n _ h2 C' E' a' w' q1 q2 q3 q4 q5 q6)
  | ret =>
   obtain ⟨hb',h1,h2⟩:=hk
   exact main hb' h1 (fun C' E' a' w' q1 q2 q3 q4 q5 q6=>hK .ret _ h2 C' E' a' w' q1 q2 q3 q4 q5 q6)
 | .rcv ops cx b,C,m,code,σ,K,E,a,w,hm,hrd,hc,h,hS,hK=>by
  unfold cmpFB at hc
  split at hc
  case h_2=>cases hc
  rename_i id os cy
  simp only [Bool.and_eq_true] at hc
  obtain ⟨⟨hc1,hc2⟩,hc3⟩:=hc
  split at hc2
  case h_2=>cases hc2
  rename_i o ho
  have hos:os.toList=os.toList.take ops.length ++ [o]:=by rw [← ho,List.take_append_drop]
  refine wpX_seq (wpX_region_list ?_)
  rw [hos,← hrd]
  refine rx_pre (C:=C) (Q:=Exit.then (wpX C.rd P cy (bodyPostL P fn R')) (bodyPostL P fn R')) (os2:=[o]) hdOK0 (K:=endK (fxS (fun σ K=>rcvK P (fun n=>fx P n b) (rK P K) (rdG none σ.fr cx) σ) K)) (fun σ0 E1 a1 w1 hk0 hs0=>?_)
   (fun s σ' E' a' w' y hk hs hy=>leave_ok hK (.pan s) (purge σ') hk E' a' w' (Sim_purge hs) y (by rw [purge_n,purge_hp];exact hy)) ops _ hc1 σ E a w h hS
  have hs:=Sim_purge hs0
  simp only [endK,fxS] at hk0
  generalize purge σ0 = σ1 at hs hk0
  obtain ⟨ms,d1,d2,d3⟩:=hs.df
  unfold rcvK at hk0
  split at hk0
  case h_2=>exact hk0.elim
  rename_i g caps hcl
  have hRx:=rdG_ok hs.fr (g:=none) trivial cx
  rw [hcl] at hRx
  simp only [R] at hRx
  obtain ⟨cs,k1,k2⟩:=hRx
  have hmn:C.m0≤σ1.n:=by
   rcases Nat.lt_or_ge σ1.n C.m0 with q | q
   · exact absurd (hs.hs.pin σ1.n q).1 (Nat.lt_irrefl _)
   · exact q
  unfold isDefC at hc2
  split at hc2
  case h_2=>cases hc2
  rename_i cc hop hdst hgd
  simp only [Bool.and_eq_true] at hc2
  obtain ⟨e1,e2⟩:=hc2
  split at e1
  case h_2=>cases e1
  rename_i y hcal
  have hca:cc.args = #[]:=by simpa using e2
  rw [hrd]
  simp only [listX,Region.wanted,hgd]
  simp only [if_true]
  have hrun:(o.semAt none a1.eval).run P w1 = .ok (.defer { target:=.fn (.func g) cs,args:=#[] }) w1:=by
   rw [Oper.semAt_none]
   obtain ⟨dst',op',ty',pos,after,guard⟩:=o
   simp only at hop;subst hop
   simp [execOp,resolve,hcal,hca,cmpX_sound e1 a1,k1,Deferred.ofValue,Sem.run_bind,Sem.run_pure]
  show o.wpq none P a1 w1 _ _
  unfold Oper.wpq
  rw [hrun]
  simp only [Oper.uponX,hdst]
  show Exit.then _ _ .normal _ w1
  simp only [Exit.then]
  show wpX none P cy (bodyPostL P fn R') { a1 with defers:=_ :: a1.defers } w1
  refine fb_sound b _ σ1.n cy σ1 (rK P K g caps) E1 _ w1 ⟨Nat.le_refl _,fun k b ho=>?_⟩ rfl hc3 hk0 (sim_in hs _) (fun e σ' hk C2 E' a' w' c1 c2 c3 c4 c5 hs'=>?_)
  · rcases Classical.em (ltn σ1.n k) with hk | hk
    · exact hk
    · have ho':occ E1 k (lkh k σ1.hp) b:=ho
      rw [hs.hs.kn k hk] at ho';exact ho'.elim
  have hpin:∀ j,j < σ1.n→j < σ'.n∧Ele E1 E' j j:=fun j hj=>by
   have:=hs'.hs.pin j (by rw [c5];exact hj)
   rw [c4] at this;exact this
  have hstC:StaysC w1 w' (okS C E1 σ1.hp) (okS C2 E' σ'.hp):=fun b hb q=>by
   have hlt:b < w1.heap.size:=by rcases q with ⟨cells,T,fz,hcell⟩ | ⟨es,c,hcell⟩<;>exact (Array.getElem?_eq_some_iff.1 hcell).1
   refine ⟨⟨.inl (by rw [c2];exact hb),fun j ho=>?_⟩,?_⟩
   · rcases hs'.hs.lo j b ho with q | q
     · rw [c1] at q;exact absurd hlt (Nat.not_lt.2 q)
     · rw [c3] at q;exact hb.2 j q
   · have:=hs'.hs.kp.block b (by rw [c1];exact hlt) (fun j q=>by rw [c3] at q;exact hb.2 j q)
     rw [c1] at this;exact this
  have hcaps:RL w' E' (ltn σ'.n) (okS C2 E' σ'.hp) caps cs.toList:=RL_mono hstC (fun j hj=>(hpin j hj).2) (fun j hj=>(hpin j hj).1) _ _ k2
  have fin:∀ (kk:St→Prop) (eK:Ex) (heK:eK = .n∨eK = .ret),(∀ σ,kk σ→K eK σ)→∀ hp' n' E3 w3,kk ⟨σ'.fr,hp',n',σ'.N,σ'.gs⟩→Sim C2 E3 ⟨σ'.fr,hp',n',σ'.N,σ'.gs⟩ a' w3→Lv P fn a'.tmps R' a1.defers .returning w3:=fun kk eK heK hkk hp' n' E3 w3 hq hs2=>by
   rw [d1]
   have hsim:=sim_out hs hs2 c1 c2 c3 c4 c5 hmn
   have hmark:∀ m ∈ ms,C.w0.heap.size≤m∧okS C E3 hp' m∧w3.heap[m]? = some (.deferred (some [])):=fun m hm=>by
    obtain ⟨p1,p2,p3⟩:=d3 m hm
    have hlt':m < w1.heap.size:=(Array.getElem?_eq_some_iff.1 p3).1
    have hnp:∀ k,¬ C2.pass k m:=fun k hk=>by rw [c3] at hk;exact p2.2 k hk
    refine ⟨p1,⟨p2.1,fun k ho=>?_⟩,?_⟩
    · rcases hs2.hs.lo k m ho with g | g
      · rw [c1] at g;exact absurd hlt' (Nat.not_lt.2 g)
      · exact hnp k g
    · have:=hs2.hs.kp.block m (by rw [c1];exact hlt') hnp
      rw [c1] at this;rw [this];exact p3
   refine lv_marks ms _ _ (by simp) d2.1 (fun m hm=>(hmark m hm).2.2) fun w4 hu4=>?_
   rcases heK with rfl | rfl
   · exact hK .n _ (hkk _ hq) { C with ds:=a'.defers } E3 a' w4 rfl rfl rfl rfl rfl (sim_unm (C:={ C with ds:=a'.defers }) hsim hmark hu4)
   · exact hK .ret _ (hkk _ hq) { C with ds:=a'.defers } E3 a' w4 rfl rfl rfl rfl rfl (sim_unm (C:={ C with ds:=a'.defers }) hsim hmark hu4)
  have hm2:C2.m0≤σ'.n:=by
   rw [c5]
   rcases Nat.lt_or_ge σ'.n σ1.n with q | q
   · exact absurd (hpin σ'.n q).1 (Nat.lt_irrefl _)
   · exact q
  have main:∀ (s:SV) (v:Value) (u u':FrameMode) (eK:Ex),(eK = .n∨eK = .ret)→R w' E' (ltn σ'.n) (okS C2 E' σ'.hp) s v→recd v u u'→(∃ t l c N,RcF P g t l c N∧rcR P t l c N caps s σ' (K eK)) →
   Lv P fn a'.tmps R' ({ target:=.fn (.func g) cs,args:=#[] } :: a1.defers) u w':=fun s v u u' eK heK hv hu hex=>by
   obtain ⟨t,l,c,N,hF,hrun⟩:=hex
   have hset:u≠.run∧settle u' = .returning:=by
    rcases hu with ⟨rfl,rfl,rfl⟩ | ⟨rfl,rfl⟩
    · exact ⟨by simp,rfl⟩
    · exact ⟨by simp,rfl⟩
   refine ⟨hset.1,.inr (.inr ⟨.func g,cs,g,cs,rfl,by simp [invoke,callFunc_run hF.bd],?_⟩)⟩
   have hcalls:=rc_sim hF hs' hm2 hcaps hv hrun hu (R':=fun e u'' w''=>match e with
    | .returned _=>Lv P fn a'.tmps R' a1.defers (settle u'') w''
    | .panicked chain=>Lv P fn a'.tmps R' a1.defers (raised u'' chain) w''
    | .outgrown=>R' .outgrown w'') (fun hp' n' E3 w3 hq hs3=>by
    show Lv P fn a'.tmps R' a1.defers (settle u') w3
    rw [hset.2]
    exact fin (K eK) eK heK (fun _ h=>h) hp' n' E3 w3 hq hs3)
   rw [show cs.toList.toArray=cs from rfl] at hcalls
   intro c₀ cs0 hc0
   obtain ⟨e2,u2,w2,fr2,q1,q2,q3,q4⟩:=hcalls c₀ cs0 hc0
   refine ⟨e2,u2,w2,fr2,?_,q2,q3,q4⟩
   cases e2<;>exact q1
  cases e with
  | ex i=>exact hk.elim
  | n=>exact main _ _ _ _ .n (.inl rfl) (by simp only [R]) (.inl ⟨rfl,rfl,rfl⟩) hk
  | ret=>exact main _ _ _ _ .ret (.inr rfl) (by simp only [R]) (.inl ⟨rfl,rfl,rfl⟩) hk
  | pan s=>intro y hy;exact main s y _ _ .ret (.inr rfl) hy (.inr ⟨rfl,rfl⟩) hk
theorem body_callsF {f:FuncId} {fn:Func} {code:Code} {fb:FB} {args:List SV} {N n0 m:Nat} {hp0:List (Nat × HB)} {C:Cx} {E:Env} {w:World} {vs:List Value} {K:Ex→St→Prop} {R':Ending→World→Prop}
 (hf:P.funcs[f]? = some fn) (hb:fn.body=some code) (hc:cmpFB P fb code=true) (hN:fn.ntmps=N) (hA:args.length≤N) (hds:C.ds=[]) (hrd:C.rd=none) (hm:MC C m)
 (hH:HSim C E hp0 (ltn n0) w) (hR:RL w E (ltn n0) (okS C E hp0) args vs) (h:fx P m fb ⟨enum 0 args,hp0,n0,N,[]⟩ K)
 (hK:∀ e σ,K e σ→∀ C' E a w',C'.w0=C.w0→C'.okp=C.okp→C'.pass=C.pass→C'.e0=C.e0→C'.m0=C.m0→Sim C' E σ a w'→match e with
  | .n | .ret=>∃ v,(results fn a.tmps).run P w' = .ok v w'∧R' (.returned v) w'
  | .ex _=>False
  | .pan s=>∀ y,R w' E (ltn σ.n) (okS C' E σ.hp) s y→R' (.panicked [{ v:=y,recovered:=false }]) w'):Calls P f vs.toArray w R':=by
 have hlen:=RL_length hR
 have hng:∀ t j b s,lk t (enum 0 args)≠.gd j b s:=by
  intro t j b s ht
  simp only [lk_enum,Nat.zero_le,if_true,Nat.sub_zero] at ht
  by_cases htl:t < args.length
  · have e1:args.getD t .any=args[t]:=by simp [htl]
    obtain ⟨y,h1,h2⟩:=RL_get hR (List.getElem?_eq_getElem htl)
    rw [e1] at ht;rw [ht] at h2;simp only [R] at h2
  · have e1:args.getD t .any = .any:=by simp [List.getElem?_eq_none (Nat.le_of_not_lt htl)]
    rw [e1] at ht;cases ht
 have hS:Sim C E ⟨enum 0 args,hp0,n0,N,[]⟩ { tmps:=vs.toArray ++ Array.replicate (fn.ntmps - vs.toArray.size) undef,defers:=[] } w:=by
  refine ⟨fun t=>?_,by simp [hN];omega,by rw [← hds];exact DF_nil,fun t j b s ht=>absurd ht (hng t j b s),hH⟩
  have hng:=hng t
  have hFR:R w E (ltn n0) (okS C E hp0) (lk t (enum 0 args)) ((vs.toArray ++ Array.replicate (fn.ntmps - vs.toArray.size) undef).getD t undef):=by
   simp only [lk_enum,Nat.zero_le,if_true,Nat.sub_zero]
   by_cases ht:t < args.length
   · have e1:args.getD t .any=args[t]:=by simp [ht]
     obtain ⟨y,h1,h2⟩:=RL_get hR (List.getElem?_eq_getElem ht)
     have e2:(vs.toArray ++ Array.replicate (fn.ntmps - vs.toArray.size) undef).getD t undef=y:=by
      have:t < vs.length:=by omega
      have h1':=(List.getElem?_eq_some_iff.1 h1).2
      simp [Array.getElem?_append,this,h1']
     rw [e1,e2];exact h2
   · have e1:args.getD t .any = .any:=by simp [List.getElem?_eq_none (Nat.le_of_not_lt ht)]
     rw [e1];simp only [R]
  simp only
  cases hq:lk t (enum 0 args)<;>rw [hq] at hFR hng<;>first | exact hFR | exact absurd rfl (hng _ _ _)
 refine calls_of_wp_lv hf hb ?_
 refine fb_sound fb C m code _ K E _ w hm hrd hc h hS (fun e σ hk C' E a w' c1 c2 c3 c4 c5 hs=>?_)
 have key:=hK e σ hk C' E a w' c1 c2 c3 c4 c5 hs
 rw [hds]
 cases e with
 | ex i=>exact key
 | n=>exact key
 | ret=>exact key
 | pan s=>exact key
theorem cty_introF {f:FuncId} {fn:Func} {code:Code} {fb:FB} {args:List SV} {rs:List RV} {N n0:Nat} {hp0:List (Nat × HB)} {Post:Ot→Prop} (hf:P.funcs[f]? = some fn) (hb:fn.body=some code) (hc:cmpFB P fb code=true)
 (hr:cmpR P rs fn.results.toList=true) (hN:fn.ntmps=N) (hA:args.length≤N) (h:fx P n0 fb ⟨enum 0 args,hp0,n0,N,[]⟩ (retM rs Post)):CtY P Y0 f hp0 n0 args Post:=by
 intro C E w vs d1 d2 d3 d4 d5 d6 hY hH hR
 refine body_callsF hf hb hc hN hA d3 d2 ⟨Nat.le_of_eq d5,d6⟩ hH hR h fun e σ hk C' E' a w' c1 c2 c3 c4 c5 hs=>?_
 obtain ⟨g1,g2⟩:=HSim_cx hs.hs c1 c2 c3 c4 c5
 have hend:retF Post σ.hp σ.n (rvE (rvsK σ rs))→∃ v,(results fn a.tmps).run P w' = .ok v w'∧∃ o E' y,Post o∧HSim C E' o.hp (ltn o.n) w'∧R w' E' (ltn o.n) (okS C E' o.hp) o.res y∧Ending.returned v=endE o.pn y:=fun hrr=>by
  cases hq:rvE (rvsK σ rs) with
  | none=>rw [hq] at hrr;exact hrr.elim
  | some s =>
   rw [hq] at hrr
   obtain ⟨v,h1,h2⟩:=results_R (P:=P) (fn:=fn) (a:=a) (w:=w') (E:=E') (n:=ltn σ.n) (ok:=okS C' E' σ.hp) hq fun l hl=>rvsK_ok hs rs _ l hr hl
   rw [g2] at h2
   exact ⟨v,h1,_,E',v,hrr,g1,h2,rfl⟩
 cases e with
 | ex i=>exact hk.elim
 | n=>exact hend hk
 | ret=>exact hend hk
 | pan s=>intro y hy;rw [g2] at hy;exact ⟨_,E',y,hk,g1,hy,rfl⟩
theorem ctm_introF {f:FuncId} {fn:Func} {code:Code} {fb:FB} {args:List SV} {rs:List RV} {N n0:Nat} {hp0:List (Nat × HB)} {Post:Ot→Prop} (hf:P.funcs[f]? = some fn) (hb:fn.body=some code) (hnm:bodyB P f=true) (hc:cmpFB P fb code=true)
 (hr:cmpR P rs fn.results.toList=true) (hN:fn.ntmps=N) (hA:args.length≤N) (hh:hpb n0 hp0) (hx:∀ o,Post o→KX o.res∧KXP o.hp) (h:fx P n0 fb ⟨enum 0 args,hp0,n0,N,[]⟩ (retM rs fun o=>∃ o',Post o'∧EntO n0 o o')):CtM P f hp0 n0 args Post :=
 ⟨hnm,hh,hx,(cty_introF hf hb hc hr hN hA h).mono fun _ h=>h⟩
end
end Go.Sx
set_option maxRecDepth 100000
namespace Go.Proofs.Ythilckbkffjliaa
open Go Go.Sx
def c73:FB:=(.seq (.reg [
 o1 4 (.box (.t 1) 0 50),
 o1 6 (.alloc [.int .u8 0] 5)])
 (.rcv [
 o1 7 (.mkf 106 [.t 6])] (.t 7)
 (.tail (.seq (.reg [
 m1 8 2,
 m1 9 0,
 o1 10 (.ld (.t 4) 8 true),
 o1 11 (.calvm (.t 8) [.t 9,.t 10])])
 (.seq (.reg [
 ⟨none,.st (.t 6) (.c (.int .u8 0)) 1,none,[]⟩])
 .ret)))))
def r73:List RV:=[.cell 6 1 false]
theorem n73:Try.f73.ntmps=12:=by kernel_rfl
theorem b73:bodyB Try.prog 73=true:=by kernel_rfl
theorem c73_ok:cmpFB Try.prog c73 ((Try.f73.body).getD .skip)=true:=by kernel_rfl
theorem r73_ok:cmpR Try.prog r73 Try.f73.results.toList=true:=by kernel_rfl
theorem m73 {n0:Nat} {hp0:List (Nat × HB)} {args:List SV} {Post:Ot→Prop} (hh:hpb n0 hp0) (hx:∀ o,Post o→KX o.res∧KXP o.hp) (h:fx Try.prog n0 c73 ⟨enum 0 args,hp0,n0,12,[]⟩ (retM r73 fun o=>∃ o',Post o'∧EntO n0 o o')) (hA:Nat.ble args.length 12=true:=by rfl):CtM Try.prog 73 hp0 n0 args Post:=ctm_introF Try.func73 rfl b73 c73_ok r73_ok n73 (Nat.le_of_ble_eq_true hA) hh hx h
def l106:List Ins:=[
]
def k106:SC:=(.block 0 (.seq (.reg [
 o1 6 (.raw (Go.Op.binOp Go.BinOp.eql 20 (Go.Operand.tmp 4) (Go.Operand.const Go.Value.nilIface) 20) 4)])
 (.cond (.t 6)
 (.reg [
  m1 1 4])
 (.seq (.reg [
  o1 7 (.raw (Go.Op.typeAssert (Go.Operand.tmp 4) 20 145 Bool.true) 0),
  o1 8 (.ext (.t 7) 1),
  o1 9 (.ext (.t 7) 0)])
  (.cond (.t 8)
  (.seq (.reg [
   m1 2 9])
   (.reg [
   m1 10 2,
   ⟨none,.st (.t 0) (.t 10) 1,none,[]⟩]))
  (.seq (.reg [
   m1 3 4])
   (.reg [
   m1 5 3,
   ⟨none,.raw (Go.Op.panic (Go.Operand.tmp 5)) 0,none,[]⟩])))))))
theorem q106:RcF Try.prog 106 4 l106 k106 11:=⟨⟨Try.f106,_,_,_,_,Try.func106,rfl,rfl,by kernel_rfl,by kernel_rfl,by kernel_rfl,by kernel_rfl,by decide,rfl⟩,by kernel_rfl⟩
end Go.Proofs.Ythilckbkffjliaa
set_option maxRecDepth 100000
set_option maxHeartbeats 4000000
namespace Go.Proofs.Ythilckbkffjliaa
open Go Go.Sx Go.Azalai
theorem u20:Try.prog.underlying 20=some (.interface (Try.prog.methodsAt 20)):=by kernel_rfl
def whyO (w:Int) (p:Pact) (b:Bks):Ot:=⟨false,U8 w,bH p b,6⟩
theorem try_done {p:Pact} {b:Bks} {x:Letter} {f:FuncId} {Rl:Bks→Prop} (hf:CtM Try.prog f (bH p b) 6 [.p 5 0,.agg (letterL x)] (fun o=>∃ b',Rl b'∧o=doneO p b')) :
 CtM Try.prog 73 (bH p b) 6 [.p 5 0,.agg (letterL x),.cl f []] (fun o=>∃ b',Rl b'∧o=whyO 0 p b'):=by
 refine m73 (by simp [hpb,bH]) (fun o ho=>by obtain ⟨b',-,rfl⟩:=ho;exact ⟨by simp [whyO,KX],bH_kx p b'⟩) ?_
 dsimp only [c73,r73,bH,letterL,go_sem,rA,rM,rS]
 refine callmP [0,1,2,3,4,5] hf rfl rfl rfl ?_ ?_ ?_
 · (repeat first | dsimp only [bH,go_sem,rA,rM,rS] | simp only [nbr])
   try simp [mtL,mtB,mtS,letterL]
 · (repeat first | dsimp only [bH,go_sem,rA,rM,rS] | simp only [nbr])
   try simp [mpS_kf3,loanV,intV,bolV,partnerL,letterL,KFR_iff,KFL,KF]
 rintro _ ⟨b',hb',rfl⟩
 (repeat first | dsimp only [doneO,bH,go_sem,rA,rM,rS] | simp only [nbr])
 refine ⟨_,_,_,_,q106,?_⟩
 dsimp only [l106,k106,go_sem,rA,rM,rS]
 refine ⟨rfl,?_⟩
 refine raw_nileq u20 rfl ?_
 dsimp only [go_sem,rA,rM,rS]
 refine br_t rfl ?_
 dsimp only [go_sem,rA,rM,rS]
 refine ⟨_,⟨b',hb',rfl⟩,?_⟩
 try simp only [whyO,bH]
 (refine entO_id ?_ ?_ ?_ rfl<;>dsimp only [mpS_kf3,loanV,intV,bolV,partnerL,id,go_sem,rA,rM,rS]<;>simp [mpS_kf3,loanV,intV,bolV,partnerL,KFR_iff,KFR_app,KFR,KFL,KF,mtL_same,mtO,nbr])
theorem try_void {p:Pact} {b:Bks} {x:Letter} {f:FuncId} {w:Int} (hf:CtM Try.prog f (bH p b) 6 [.p 5 0,.agg (letterL x)] (fun o=>o=voidO w p b)) :
 CtM Try.prog 73 (bH p b) 6 [.p 5 0,.agg (letterL x),.cl f []] (fun o=>o=whyO w p b):=by
 refine m73 (by simp [hpb,bH]) (fun o ho=>by subst ho;exact ⟨by simp [whyO,KX],bH_kx p b⟩) ?_
 dsimp only [c73,r73,bH,letterL,go_sem,rA,rM,rS]
 refine callmP [0,1,2,3,4,5] hf rfl rfl rfl ?_ ?_ ?_
 · (repeat first | dsimp only [bH,go_sem,rA,rM,rS] | simp only [nbr])
   try simp [mtL,mtB,mtS,letterL]
 · (repeat first | dsimp only [bH,go_sem,rA,rM,rS] | simp only [nbr])
   try simp [mpS_kf3,loanV,intV,bolV,partnerL,letterL,KFR_iff,KFL,KF]
 rintro _ rfl
 (repeat first | dsimp only [voidO,bH,go_sem,rA,rM,rS] | simp only [nbr])
 refine ⟨_,_,_,_,q106,?_⟩
 dsimp only [l106,k106,go_sem,rA,rM,rS]
 refine ⟨rfl,?_⟩
 refine raw_ifeq u20 rfl ?_
 dsimp only [go_sem,rA,rM,rS]
 refine br_f rfl ?_
 dsimp only [go_sem,rA,rM,rS]
 refine raw_tassert plain145 rfl ?_
 dsimp only [go_sem,rA,rM,rS]
 refine br_t rfl ?_
 dsimp only [go_sem,rA,rM,rS]
 refine ⟨_,rfl,?_⟩
 try simp only [whyO,bH]
 (refine entO_id ?_ ?_ ?_ rfl<;>dsimp only [mpS_kf3,loanV,intV,bolV,partnerL,id,go_sem,rA,rM,rS]<;>simp [mpS_kf3,loanV,intV,bolV,partnerL,KFR_iff,KFR_app,KFR,KFL,KF,mtL_same,mtO,nbr])
def workF (k:Int):FuncId:=if k=1 then 95 else if k=2 then 96 else if k=3 then 99 else if k=4 then 100 else if k=5 then 101 else if k=6 then 103 else if k=7 then 104 else 105
theorem try_ok {p:Pact} {n:Nat} {c:Co} {b:Bks} (h:BkR n c b) (hn:n≤1000) (hp:okPact p=true) (x:Letter) (hx:okLetter p x=true) :
 CtM Try.prog 73 (bH p b) 6 [.p 5 0,.agg (letterL x),.cl (workF x.kind) []] (fun o=>∃ b',BkR (n+1) (stepF p c x).1 b'∧o=whyO (stepF p c x).2 p b'):=by
 have hpp:(0≤p.hire∧p.hire≤1000)∧(0≤p.calf∧p.calf≤1000):=by
  simp only [okPact,Bool.and_eq_true,inR,decide_eq_true_eq] at hp
  omega
 have hv:∀ w,CtM Try.prog 73 (bH p b) 6 [.p 5 0,.agg (letterL x),.cl (workF x.kind) []] (fun o=>o=whyO w p b)→stepF p c x=(c,w)→CtM Try.prog 73 (bH p b) 6 [.p 5 0,.agg (letterL x),.cl (workF x.kind) []] (fun o=>∃ b',BkR (n+1) (stepF p c x).1 b'∧o=whyO (stepF p c x).2 p b'):=fun w hc he=>by
  rw [he]
  exact ⟨hc.bd,hc.hb,fun o ⟨b',_,ho⟩=>by subst ho;exact ⟨by simp [whyO,KX],bH_kx p b'⟩,fun C E w vs a1 a2 a3 a4 a5 a6 a7 a8 a9=>(hc.run C E w vs a1 a2 a3 a4 a5 a6 a7 a8 a9).mono fun e w' ⟨o,E',y,q1,q2⟩=>⟨o,E',y,⟨b,h.next,q1⟩,q2⟩⟩
 have hday:0≤x.day∧x.day≤100000:=by
  simp only [okLetter,Bool.and_eq_true,inR,decide_eq_true_eq] at hx
  exact hx.1.2
 have hk:x.kind=1∨x.kind=2∨x.kind=3∨x.kind=4∨x.kind=5∨x.kind=6∨x.kind=7∨x.kind=8:=by
  apply Classical.byContradiction
  intro q
  simp only [not_or] at q
  simp [okLetter,q] at hx
 rcases hk with hk | hk | hk | hk | hk | hk | hk | hk
 · have he:stepF p c x=({ c with result:=c.result+x.rials },0):=by simp [stepF,hk]
   have hr:inR 0 10000000 x.rials=true:=by
    simp only [okLetter,hk,Bool.and_eq_true] at hx;simp at hx;exact hx.2.1
   rw [he,show workF x.kind=95 from by simp [workF,hk]]
   exact try_done (Rl:=BkR (n+1) { c with result:=c.result+x.rials }) (sold_ok h hn x hr)
 · have he:stepF p c x=({ c with result:=c.result - x.rials },0):=by simp [stepF,hk]
   have hr:inR 0 10000000 x.rials=true:=by
    simp only [okLetter,hk,Bool.and_eq_true] at hx;simp at hx;exact hx.2.1
   rw [he,show workF x.kind=96 from by simp [workF,hk]]
   exact try_done (Rl:=BkR (n+1) { c with result:=c.result - x.rials }) (spent_ok h hn x hr)
 · have hw:workF x.kind=99:=by simp [workF,hk]
   cases hl:c.loans x.animal with
   | some l =>
    refine hv 1 ?_ (by simp [stepF,hk,hl])
    rw [hw];exact try_void (lent_lent h x hl)
   | none =>
    cases hd:c.dead x.animal with
    | true =>
     refine hv 2 ?_ (by simp [stepF,hk,hl,hd])
     rw [hw];exact try_void (lent_dead h x hl hd)
    | false =>
     rw [show stepF p c x=({ c with loans:=upd c.loans x.animal (some (x.who,x.day)) },0) from by simp [stepF,hk,hl,hd],hw]
     exact try_done (Rl:=BkR (n+1) { c with loans:=upd c.loans x.animal (some (x.who,x.day)) }) (lent_yes h x hday hl hd)
 · have hw:workF x.kind=100:=by simp [workF,hk]
   cases hl:c.loans x.animal with
   | none =>
    refine hv 3 ?_ (by simp [stepF,hk,hl])
    rw [hw];exact try_void (back_no h x hl)
   | some l =>
    rw [show stepF p c x=(homeF p c x.animal x.day l,0) from by simp [stepF,hk,hl],hw]
    exact try_done (Rl:=BkR (n+1) (homeF p c x.animal x.day l)) (back_yes h hn hpp.1 x hday hl)
 · have hw:workF x.kind=101:=by simp [workF,hk]
   cases hd:c.dead x.animal with
   | true =>
    refine hv 2 ?_ (by simp [stepF,hk,hd])
    rw [hw];exact try_void (dies_dead h x hd)
   | false =>
    cases hl:c.loans x.animal with
    | none =>
     refine hv 3 ?_ (by simp [stepF,hk,hl,hd])
     rw [hw];exact try_void (dies_no h x hd hl)
    | some l =>
     rw [show stepF p c x=({ homeF p c x.animal x.day l with dead:=upd c.dead x.animal true },0) from by simp [stepF,hk,hl,hd],hw]
     exact try_done (Rl:=BkR (n+1) { homeF p c x.animal x.day l with dead:=upd c.dead x.animal true }) (dies_yes h hn hpp.1 x hday hd hl)
 · have hw:workF x.kind=103:=by simp [workF,hk]
   have hr:0≤x.rials∧x.rials≤10000000:=by
    simp only [okLetter,hk,Bool.and_eq_true] at hx;simp [inR] at hx;omega
   cases hd:c.known x.other with
   | true =>
    refine hv 4 ?_ (by simp [stepF,hk,hd])
    rw [hw];exact try_void (calf_twice h x hd)
   | false =>
    cases hl:c.loans x.animal with
    | none =>
     refine hv 3 ?_ (by simp [stepF,hk,hl,hd])
     rw [hw];exact try_void (calf_no h x hd hl)
    | some l =>
     rw [show stepF p c x=({ c with extra:=upd c.extra l.1 (c.extra l.1+(x.rials * p.calf).tdiv 1000),result:=c.result+(x.rials - (x.rials * p.calf).tdiv 1000),known:=upd c.known x.other true },0) from by simp [stepF,hk,hl,hd],hw]
     exact try_done (Rl:=BkR (n+1) { c with extra:=upd c.extra l.1 (c.extra l.1+(x.rials * p.calf).tdiv 1000),result:=c.result+(x.rials - (x.rials * p.calf).tdiv 1000),known:=upd c.known x.other true }) (calf_yes h hn hpp.2 x hr hd hl)
 · have hw:workF x.kind=104:=by simp [workF,hk]
   have hr:0≤x.rials∧x.rials≤10000000:=by
    simp only [okLetter,hk,Bool.and_eq_true] at hx;simp [inR] at hx;omega
   rw [show stepF p c x=({ c with debts:=upd c.debts x.who (upd (c.debts x.who) x.other (c.debts x.who x.other+x.rials)) },0) from by simp [stepF,hk],hw]
   exact try_done (Rl:=BkR (n+1) { c with debts:=upd c.debts x.who (upd (c.debts x.who) x.other (c.debts x.who x.other+x.rials)) }) (owes_ok h hn x hr)
 · have hw:workF x.kind=105:=by simp [workF,hk]
   have hr:0≤x.rials∧x.rials≤10000000:=by
    simp only [okLetter,hk,Bool.and_eq_true] at hx;simp [inR] at hx;omega
   by_cases hd:c.debts x.who x.other < x.rials
   · refine hv 5 ?_ (by simp [stepF,hk,hd])
     rw [hw];exact try_void (pays_paid h x hd)
   · rw [show stepF p c x=({ c with debts:=upd c.debts x.who (upd (c.debts x.who) x.other (c.debts x.who x.other - x.rials)) },0) from by simp [stepF,hk,hd],hw]
     exact try_done (Rl:=BkR (n+1) { c with debts:=upd c.debts x.who (upd (c.debts x.who) x.other (c.debts x.who x.other - x.rials)) }) (pays_ok h hn x hr hd)
end Go.Proofs.Ythilckbkffjliaa
namespace Go.Azalai
theorem sumL_rs {f:Nat→Int} {n:Nat}:sumL ((List.range (n+1)).map f)=sumL ((List.range n).map f)+f n:=by
 rw [List.range_succ,List.map_append,sumL_app];simp [sumL]
theorem sumL_congr {α : Type} {f g:α→Int} {l:List α} (h:∀ x ∈ l,f x=g x):sumL (l.map f)=sumL (l.map g):=by rw [List.map_congr_left h]
theorem sumL_at {f g:Nat→Int} {a:Nat} (h:∀ i,i≠a→f i=g i):∀ {n:Nat},a < n→sumL ((List.range n).map f)=sumL ((List.range n).map g)+(f a - g a)
 | 0,q=>by omega
 | n+1,q=>by
  rw [sumL_rs,sumL_rs]
  by_cases e:a=n
  · subst e
    rw [sumL_congr (g:=g) fun i hi=>h i (by have:=List.mem_range.1 hi;omega)];omega
  · rw [sumL_at h (n:=n) (by omega),h n (fun q=>e q.symm)];omega
theorem lastHire_home {p:Pact} {c:Co} {a d:Int} {l:Int × Int} (i:Nat):lastHire p (homeF p c a d l) i=if (i:Int)=a then 0 else lastHire p c i:=by
 simp only [lastHire,homeF,upd]
 by_cases h:(i:Int)=a
 · simp [h]
 · simp [h]
theorem lastFor_home {p:Pact} {c:Co} {a d who:Int} {l:Int × Int} (i:Nat):lastFor p (homeF p c a d l) who i=if (i:Int)=a then 0 else lastFor p c who i:=by
 simp only [lastFor,homeF,upd]
 by_cases h:(i:Int)=a
 · simp [h]
 · simp [h]
theorem endR_home {p:Pact} {c:Co} {a:Int} {l:Int × Int} (hl:c.loans a=some l) (h0:0≤a) (h1:a≤9999):endR p (homeF p c a p.ends l)=endR p c:=by
 have e:((a.toNat:Nat):Int)=a:=by omega
 have h2:=sumL_at (f:=lastHire p c) (g:=lastHire p (homeF p c a p.ends l)) (a:=a.toNat) (fun i hi=>by rw [lastHire_home,if_neg (by omega)]) (n:=10000) (by omega)
 rw [lastHire_home,if_pos e] at h2
 have h3:lastHire p c a.toNat=p.hire * (p.ends - l.2):=by simp only [lastHire,e,hl]
 rw [h3] at h2
 simp only [endR]
 rw [h2]
 simp only [homeF];omega
theorem endX_home {p:Pact} {c:Co} {a:Int} {l:Int × Int} (hl:c.loans a=some l) (h0:0≤a) (h1:a≤9999) (who:Int):endX p (homeF p c a p.ends l) who=endX p c who:=by
 have e:((a.toNat:Nat):Int)=a:=by omega
 have h2:=sumL_at (f:=lastFor p c who) (g:=lastFor p (homeF p c a p.ends l) who) (a:=a.toNat) (fun i hi=>by rw [lastFor_home,if_neg (by omega)]) (n:=10000) (by omega)
 rw [lastFor_home,if_pos e] at h2
 have h3:lastFor p c who a.toNat=if l.1=who then p.hire * (p.ends - l.2) else 0:=by simp only [lastFor,e,hl]
 rw [h3] at h2
 simp only [endX]
 rw [h2]
 simp only [homeF,upd]
 by_cases q:who=l.1
 · rw [if_pos q,if_pos q.symm,q];omega
 · rw [if_neg q,if_neg fun h=>q h.symm];omega
structure EndI (p:Pact) (c0 c:Co):Prop where
 ok:CoOk p c
 er:endR p c=endR p c0
 ex:∀ w,endX p c w=endX p c0 w
 db:c.debts=c0.debts
theorem EndI.start {p:Pact} {c:Co} (h:CoOk p c):EndI p c c:=⟨h,rfl,fun _=>rfl,rfl⟩
theorem EndI.home {p:Pact} {c0 c:Co} (h:EndI p c0 c) {a:Int} {l:Int × Int} (hl:c.loans a=some l):EndI p c0 (homeF p c a p.ends l):=by
 have hb:=h.ok.inb a l hl
 exact ⟨h.ok.home,by rw [endR_home hl hb.1 hb.2,h.er],fun w=>by rw [endX_home hl hb.1 hb.2,h.ex],by simp only [homeF];exact h.db⟩
theorem endR_none {p:Pact} {c:Co} (h:∀ a,c.loans a=none):endR p c=c.result:=by
 rw [endR,sumL_zero fun i _=>by simp only [lastHire,h]];omega
theorem endX_none {p:Pact} {c:Co} (h:∀ a,c.loans a=none) (w:Int):endX p c w=c.extra w:=by
 rw [endX,sumL_zero fun i _=>by simp only [lastFor,h]];omega
theorem EndI.done {p:Pact} {c0 c:Co} (h:EndI p c0 c) (hn:∀ a,c.loans a=none):c.result=endR p c0∧∀ w,c.extra w=endX p c0 w :=
 ⟨by rw [← h.er,endR_none hn],fun w=>by rw [← h.ex,endX_none hn]⟩
def DbOk (p:Pact) (c:Co):Prop:=∀ w o,c.debts w o≠0→w ∈ ids p∧o ∈ ids p
theorem DbOk.co0 {p:Pact}:DbOk p co0:=fun w o h=>absurd rfl h
theorem DbOk.step {p:Pact} {c:Co} (h:DbOk p c) {x:Letter} (hx:okLetter p x=true):DbOk p (stepF p c x).1:=by
 intro w o hwo
 rw [owes_step.1,owesD] at hwo
 have hk:x.kind=7∨x.kind=8→x.who ∈ ids p∧x.other ∈ ids p:=fun hk=>by
  simp only [okLetter] at hx
  rcases hk with hk | hk<;>simp only [hk] at hx<;>simp [atP_mem] at hx<;>exact ⟨hx.2.1.1.1.1,hx.2.1.1.1.2⟩
 have hu:∀ (v:Int),(x.kind=7∨x.kind=8)→upd c.debts x.who (upd (c.debts x.who) x.other v) w o≠0→w ∈ ids p∧o ∈ ids p:=fun v k hv=>by
  simp only [upd] at hv
  split at hv
  · rename_i e1
    simp only [upd] at hv
    split at hv
    · rename_i e2
      rw [e1,e2];exact hk k
    · rw [← e1] at hv;exact h _ _ hv
  · exact h _ _ hv
 split at hwo
 · rename_i k;exact hu _ (.inl k) hwo
 split at hwo
 · rename_i k;exact hu _ (.inr k.1) hwo
 · exact h _ _ hwo
theorem DbOk.run {p:Pact}:∀ {l:List Letter} {c:Co},DbOk p c→(∀ x ∈ l,okLetter p x=true)→DbOk p (runF p c l)
 | [],_,h,_=>h
 | x :: l,c,h,hl=>by
  show DbOk p (runF p (stepF p c x).1 l)
  exact DbOk.run (h.step (hl x (by simp))) fun y hy=>hl y (by simp [hy])
theorem sumL_sub {α : Type} (f g:α→Int):∀ l:List α,sumL (l.map fun x=>f x - g x)=sumL (l.map f) - sumL (l.map g)
 | []=>rfl
 | x :: l=>by simp only [List.map_cons,sumL];rw [sumL_sub f g l];omega
def dTerm (id:Int) (e:Nat × (Int × Int) × Int):Int:=(if e.2.1.2=id then e.2.2 else 0) - (if e.2.1.1=id then e.2.2 else 0)
theorem key_sum {L:List (Nat × (Int × Int) × Int)} {f:Int→Int→Int} (hn:(L.map (·.2.1)).Nodup) (h1:∀ e ∈ L,f e.2.1.1 e.2.1.2=e.2.2) (h2:∀ x y,(∀ e ∈ L,e.2.1≠(x,y))→f x y=0) (x y:Int) :
 f x y=sumL (L.map fun e=>if e.2.1=(x,y) then e.2.2 else 0):=by
 by_cases hx:∃ e ∈ L,e.2.1=(x,y)
 · obtain ⟨e,he,hk⟩:=hx
   have hf:f x y=e.2.2:=by rw [← h1 e he,hk]
   rw [hf]
   clear h1 h2 hf
   induction L with
   | nil=>cases he
   | cons z l ih =>
    simp only [List.map_cons,List.nodup_cons] at hn
    simp only [List.map_cons,sumL]
    rcases List.mem_cons.1 he with rfl | he
    · rw [if_pos hk,sumL_zero fun e' he'=>if_neg fun q=>hn.1 (List.mem_map.2 ⟨e',he',by rw [q,hk]⟩)];omega
    · rw [if_neg fun q=>hn.1 (List.mem_map.2 ⟨e,he,by rw [q,hk]⟩),← ih hn.2 he];omega
 · rw [h2 x y fun e he q=>hx ⟨e,he,q⟩,sumL_zero fun e he=>if_neg fun q=>hx ⟨e,he,q⟩]
theorem debt_sum {p:Pact} {c:Co} {L:List (Nat × (Int × Int) × Int)} (hn:(L.map (·.2.1)).Nodup) (h1:∀ e ∈ L,c.debts e.2.1.1 e.2.1.2=e.2.2) (h2:∀ x y,(∀ e ∈ L,e.2.1≠(x,y))→c.debts x y=0)
 (hd:DbOk p c) (hi:(ids p).Nodup) (id:Int):sumL (L.map (dTerm id))=owedF p c id:=by
 have hks:=key_sum hn h1 h2
 have hsw:∀ (g:(Int × Int)→Int) (t:Int→Int × Int),(∀ e ∈ L,e.2.2≠0→g e.2.1 ∈ ids p)→(∀ y (k:Int × Int),k=t y→g k=y) →
  sumL ((ids p).map fun y=>sumL (L.map fun e=>if e.2.1=t y then e.2.2 else 0))=sumL (L.map fun e=>if e.2.1=t (g e.2.1) then e.2.2 else 0):=fun g t hg ht=>by
  rw [sumL_swap]
  refine sumL_congr fun e he=>?_
  by_cases h0:e.2.2=0
  · rw [h0];simp only [ite_self];exact sumL_zero fun _ _=>rfl
  by_cases hk:e.2.1=t (g e.2.1)
  · rw [if_pos hk]
    refine Eq.trans (sumL_congr fun y hy=>?_) (sumL_one (v:=e.2.2) hi (hg e he h0))
    by_cases q:g e.2.1=y
    · rw [if_pos q,if_pos (by rw [← q];exact hk)]
    · rw [if_neg q,if_neg fun h=>q (ht y _ h)]
  · rw [if_neg hk,sumL_zero fun y _=>if_neg fun h=>hk (by rw [ht y _ h];exact h)]
 have hm:∀ e ∈ L,e.2.2≠0→e.2.1.1 ∈ ids p∧e.2.1.2 ∈ ids p:=fun e he h0=>hd _ _ (by rw [h1 e he];exact h0)
 have a1:sumL ((ids p).map fun y=>c.debts y id)=sumL (L.map fun e=>if e.2.1.2=id then e.2.2 else 0):=by
  rw [sumL_congr (g:=fun y=>sumL (L.map fun e=>if e.2.1=(y,id) then e.2.2 else 0)) fun y _=>hks y id,hsw (fun k=>k.1) (fun y=>(y,id)) (fun e he h0=>(hm e he h0).1) (fun y k h=>by rw [h])]
  refine sumL_congr fun e _=>?_
  by_cases q:e.2.1.2=id
  · rw [if_pos q,if_pos (by rw [← q])]
  · rw [if_neg q,if_neg fun h=>q (by rw [h])]
 have a2:sumL ((ids p).map fun y=>c.debts id y)=sumL (L.map fun e=>if e.2.1.1=id then e.2.2 else 0):=by
  rw [sumL_congr (g:=fun y=>sumL (L.map fun e=>if e.2.1=(id,y) then e.2.2 else 0)) fun y _=>hks id y,hsw (fun k=>k.2) (fun y=>(id,y)) (fun e he h0=>(hm e he h0).2) (fun y k h=>by rw [h])]
  refine sumL_congr fun e _=>?_
  by_cases q:e.2.1.1=id
  · rw [if_pos q,if_pos (by rw [← q])]
  · rw [if_neg q,if_neg fun h=>q (by rw [h])]
 rw [owedF,sumL_sub (fun y:Partner=>c.debts y.id id) (fun y=>c.debts id y.id)]
 rw [show p.partners.map (fun y=>c.debts y.id id)=(ids p).map fun y=>c.debts y id from by simp [ids],show p.partners.map (fun y=>c.debts id y.id)=(ids p).map fun y=>c.debts id y from by simp [ids],a1,a2,← sumL_sub]
 rfl
end Go.Azalai
set_option maxRecDepth 100000
set_option maxHeartbeats 4000000
namespace Go.Azalai
def ordK (c:Nat→Int) (i:Nat):Int:=i - 16 * c i
structure Stb (n i j:Nat) (l:List Nat):Prop where
 len:l.length=n
 at':l[j]? = some i
 lt:∀ p x,l[p]? = some x→p≠j→p≤i→x < i
 gt:∀ p,i < p→p < n→l[p]? = some p
structure Otb (n i:Nat) (l:List Nat):Prop where
 len:l.length=n
 lt:∀ p x,l[p]? = some x→p < i→x < i
 gt:∀ p,i≤p→p < n→l[p]? = some p
theorem Otb.start (n:Nat):Otb n 1 (List.range n):=by
 refine ⟨List.length_range,fun p x h hp=>?_,fun p h1 h2=>by simp [h2]⟩
 rw [List.getElem?_range (by have:=(List.getElem?_eq_some_iff.1 h).1;simpa using this)] at h
 cases h;exact hp
theorem Otb.into {n i:Nat} {l:List Nat} (h:Otb n i l) (hi:i < n):Stb n i i l:=⟨h.len,h.gt i (Nat.le_refl _) hi,fun p x hp h1 h2=>h.lt p x hp (by omega),fun p h1 h2=>h.gt p (by omega) h2⟩
theorem Stb.out {n i j:Nat} {l:List Nat} (h:Stb n i j l):Otb n (i+1) l:=by
 refine ⟨h.len,fun p x hp h1=>?_,fun p h1 h2=>h.gt p (by omega) h2⟩
 by_cases e:p=j
 · subst e;rw [h.at'] at hp;cases hp;omega
 · have:=h.lt p x hp e (by omega);omega
theorem Stb.step {n i j:Nat} {l:List Nat} (h:Stb n i j l) (hj:0 < j) (hji:j≤i) (hi:i < n):Stb n i (j - 1) (swp l j (j - 1)):=by
 have hl:=h.len
 have hg:=swp_get (l:=l) (i:=j) (j:=j - 1) (by omega) (by omega)
 refine ⟨by rw [swp_len,hl],?_,fun p x hp h1 h2=>?_,fun p h1 h2=>?_⟩
 · rw [hg,if_neg (by omega),if_pos rfl,h.at']
 · rw [hg] at hp
   by_cases e:p=j
   · rw [if_pos e] at hp;exact h.lt _ _ hp (by omega) (by omega)
   · rw [if_neg e,if_neg h1] at hp;exact h.lt _ _ hp e h2
 · rw [hg,if_neg (by omega),if_neg (by omega),h.gt p h1 h2]
theorem ord_lt {c:Nat→Int} {i y:Nat} (hy:y < i) (hi:i < 16):ordK c i < ordK c y↔c y < c i:=by
 unfold ordK;omega
theorem ord_fst {c:Nat→Int} {n:Nat} {l:List Nat} (hn:n≤16) (hp:l.Perm (List.range n)) (hs:Srt (ordK c) 0 n l):l.Pairwise fun a b=>fst' c a b=true:=by
 have hl:l.length=n:=by rw [hp.length_eq,List.length_range]
 have hnd:l.Nodup:=hp.nodup_iff.2 List.nodup_range
 rw [List.pairwise_iff_getElem]
 intro i j hi hj hij
 have h1:=hs i j (Nat.zero_le _) hij (by omega)
 rw [ky_eq _ hi,ky_eq _ hj] at h1
 have h2:=List.pairwise_iff_getElem.1 (List.nodup_iff_pairwise_ne.1 hnd) i j hi hj hij
 have h3:=List.mem_range.1 (hp.mem_iff.1 (List.getElem_mem hi))
 have h4:=List.mem_range.1 (hp.mem_iff.1 (List.getElem_mem hj))
 generalize l[i]=a at *
 generalize l[j]=b at *
 simp only [fst',Bool.or_eq_true,Bool.and_eq_true,decide_eq_true_eq]
 simp only [ordK] at h1
 omega
structure Dvd (amount:Int) (by':List Int):Prop where
 a0:0≤amount
 a1:amount≤90000000000
 n1:by'.length≤16
 b0:∀ x ∈ by',0≤x∧x≤100000000
 s0:0 < sumL by'
theorem Dvd.s1 {amount:Int} {by':List Int} (h:Dvd amount by'):sumL by'≤1600000000:=by
 have h1:=sumL_le (l:=by') (b:=100000000) fun x hx=>(h.b0 x hx).2
 have h2:=h.n1
 omega
theorem Dvd.mul {amount x:Int} {by':List Int} (h:Dvd amount by') (hx:0≤x∧x≤100000000):0≤amount * x∧amount * x≤9000000000000000000:=by
 have h1:amount * x≤90000000000 * x:=Int.mul_le_mul_of_nonneg_right h.a1 hx.1
 have h2:=Int.mul_nonneg h.a0 hx.1
 omega
theorem byF_get {by':List Int} {i:Nat} (hi:i < by'.length):byF by' i=by'[i]:=by
 unfold byF;rw [List.getD_eq_getElem?_getD,List.getElem?_eq_getElem hi];rfl
theorem Dvd.part {amount:Int} {by':List Int} (h:Dvd amount by') {i:Nat} (hi:i < by'.length):0≤partF amount by' i∧partF amount by' i≤9000000000000000000:=by
 have hm:=h.mul (h.b0 _ (List.getElem_mem hi))
 have h0:=h.s0
 unfold partF
 rw [byF_get hi]
 refine ⟨Int.tdiv_nonneg hm.1 (by omega),?_⟩
 rw [Int.tdiv_eq_ediv_of_nonneg hm.1]
 have:=Int.ediv_le_self (sumL by') hm.1
 omega
end Go.Azalai
namespace Go.Proofs.Ythilckbkffjliaa
open Go Go.Sx Go.Azalai
def natL (i:Nat):List SV:=[I (i:Int)]
theorem cut_ok {amount:Int} {by':List Int} (h:Dvd amount by') {i:Nat} (hi:i < by'.length) (k:Bool):Ct Try.prog 82 [I (i:Int),.ps [I amount] 0,.ps [.sl k 1 (by'.map intL)] 0,.ps [I (sumL by')] 0] (I (cutF amount by' i)):=by
 refine t82 (by simp [KFR_iff,intL,KFL,KF]) (by simp [KFL,KF]) ?_
 have hb:=h.mul (h.b0 _ (List.getElem_mem hi))
 have hs:=h.s0
 dsimp only [c82,r82,go_sem,rA,rM,rS]
 refine ixs_map i hi rfl ?_
 dsimp only [intL,go_sem,rA,rM,rS]
 rw [w64_in (n:=amount * by'[i]) (by omega) (by omega)]
 refine div0 (by omega) ?_
 dsimp only [go_sem,rA,rM,rS]
 simp [divr,cutF,byF_get hi]
abbrev cutS (amount:Int) (by':List Int) (k:Bool):SV:=.cl 82 [.ps [I amount] 0,.ps [.sl k 1 (by'.map intL)] 0,.ps [I (sumL by')] 0]
theorem cutc_ok {amount:Int} {by':List Int} (h:Dvd amount by') {a b:Nat} (ha:a < by'.length) (hb:b < by'.length) (k:Bool) :
 Ct Try.prog 84 [I (a:Int),I (b:Int),.ps [cutS amount by' k] 0] (I (cutF amount by' b - cutF amount by' a)):=by
 refine t84 (by simp [KFR_iff,intL,KFL,KF]) (by simp [KFL,KF]) ?_
 have hs:=h.s0
 have hs1:=h.s1
 have h1:=cut_bd h.a0 (fun x hx=>(h.b0 x hx).1) hs a
 have h2:=cut_bd h.a0 (fun x hx=>(h.b0 x hx).1) hs b
 dsimp only [c84,r84,go_sem,rA,rM,rS]
 refine call (cut_ok h hb k) ?_
 dsimp only [go_sem,rA,rM,rS]
 refine call (cut_ok h ha k) ?_
 dsimp only [go_sem,rA,rM,rS]
 rw [w64_in (n:=cutF amount by' b - cutF amount by' a) (by omega) (by omega)]
def dvH (amount:Int) (by':List Int) (k:Bool):List (Nat × HB):=[(1,.cells [.cl 82 [.p 2 0,.p 3 0,.p 4 0]] 135),(2,.cells [I amount] 3),(3,.cells [.sl k 1 (by'.map intL)] 27),(4,.cells [I (sumL by')] 3)]
def rowN (v:Nat) (l:List Nat) (amount:Int) (by':List Int) (k:Bool):Ot:=⟨false,.tup [],(0,.row v 1 (l.map natL) 3) :: dvH amount by' k,5⟩
theorem insn_ok {amount:Int} {by':List Int} (h:Dvd amount by') (v:Nat) (k:Bool) :
 CtM Try.prog 113 ((0,.row v 1 ((List.range by'.length).map natL) 3) :: dvH amount by' k) 5 [.mr 0 v,I (0:Nat),I (by'.length:Nat),.cl 84 [.p 1 0]] (fun o=>∃ l',l'.Perm (List.range by'.length)∧Srt (ordK (cutF amount by')) 0 by'.length l'∧o=rowN v l' amount by' k):=by
 refine m113 (by simp [hpb,dvH]) (fun o ho=>by obtain ⟨l',_,_,rfl⟩:=ho;simp [rowN,dvH,KX,KXL,KXP,KXH,KFR_iff,KFR,KFL,KF,natL,intL]) ?_
 have hn1:=h.n1
 have hs:=h.s0
 have hs1:=h.s1
 dsimp only [c113,r113,dvH,go_sem,rA,rM,rS]
 rw [w64_in (n:=((0:Nat):Int)+1) (by omega) (by omega)]
 refine loopO (fun s:Nat × List Nat=>[(8,I (s.1:Nat))]) (fun s=>[(0,.row v 1 (s.2.map natL) 3)]) (fun s=>(1≤s.1∧s.1≤max by'.length 1)∧s.2.Perm (List.range by'.length)∧Srt (ordK (cutF amount by')) 0 s.1 s.2∧Otb by'.length s.1 s.2) (fun s=>by'.length - s.1) (1,List.range by'.length) ⟨by simp only;omega,.refl _,fun i j h1 h2 h3=>by simp only at h3;omega,.start _⟩ ?_ ?_
 · (refine ent_id ?_ ?_ ?_ rfl rfl<;>dsimp only [natL,intL,id,go_sem,rA,rM,rS]<;>simp [natL,intL,KFR_iff,KFR_app,KFR,KFL,KF,mtL_same,mtO,nbr])
 rintro ⟨i,l1⟩ ⟨⟨hi0,hi⟩,hp,hss,hot⟩
 simp only at hi0 hi hp hss hot
 have hl1:=hot.len
 dsimp only [go_sem,rA,rM,rS]
 by_cases hib:i < by'.length
 case neg =>
  refine br_f (by simp;omega) ?_
  dsimp only [go_sem,rA,rM,rS]
  refine ⟨_,⟨l1,hp,fun p q g1 g2 g3=>hss p q g1 g2 (by omega),rfl⟩,?_⟩
  simp only [rowN,dvH]
  (refine entO_id ?_ ?_ ?_ rfl<;>dsimp only [natL,intL,id,go_sem,rA,rM,rS]<;>simp [natL,intL,KFR_iff,KFR_app,KFR,KFL,KF,mtL_same,mtO,nbr])
 refine br_t (by simpa using hib) ?_
 dsimp only [go_sem,rA,rM,rS]
 refine loopO (fun s:Nat × List Nat=>[(9,I (s.1:Nat))]) (fun s=>[(0,.row v 1 (s.2.map natL) 3)]) (fun s=>s.1≤i∧s.2.Perm (List.range by'.length)∧Ins1 (ordK (cutF amount by')) 0 i s.1 s.2∧Stb by'.length i s.1 s.2) (fun s=>s.1) (i,l1) ⟨Nat.le_refl _,hp,ins_start _ hss,hot.into hib⟩ ?_ ?_
 · (refine ent_id ?_ ?_ ?_ rfl rfl<;>dsimp only [natL,intL,id,go_sem,rA,rM,rS]<;>simp [natL,intL,KFR_iff,KFR_app,KFR,KFL,KF,mtL_same,mtO,nbr])
 rintro ⟨j,l2⟩ ⟨hj,hp2,hs2,hst⟩
 simp only at hj hp2 hs2 hst
 have hl2:=hst.len
 dsimp only [go_sem,rA,rM,rS]
 by_cases hja:0 < j
 case neg =>
  have g:decide ((j:Int) > ((0:Nat):Int))=false:=by simp;omega
  simp only [g]
  repeat (refine gb ?_;(repeat first | dsimp only [go_sem,rA,rM,rS] | simp only [nbr]))
  refine ixrm_v 0 rfl (fun h=>by cases h) ?_
  (repeat first | dsimp only [go_sem,rA,rM,rS] | simp only [nbr])
  refine gb ?_
  (repeat first | dsimp only [go_sem,rA,rM,rS] | simp only [nbr])
  refine ⟨natL 0,imp_v rfl (fun h=>by cases h),?_⟩
  (repeat first | dsimp only [natL,go_sem,rA,rM,rS] | simp only [nbr])
  repeat (refine gb ?_;(repeat first | dsimp only [go_sem,rA,rM,rS] | simp only [nbr]))
  refine ixrm_v 0 rfl (fun h=>by cases h) ?_
  (repeat first | dsimp only [go_sem,rA,rM,rS] | simp only [nbr])
  refine gb ?_
  (repeat first | dsimp only [go_sem,rA,rM,rS] | simp only [nbr])
  refine ⟨natL 0,imp_v rfl (fun h=>by cases h),?_⟩
  (repeat first | dsimp only [natL,go_sem,rA,rM,rS] | simp only [nbr])
  refine gb ?_
  (repeat first | dsimp only [go_sem,rA,rM,rS] | simp only [nbr])
  have h0:0 < by'.length:=by omega
  refine callv (by simp [FLT]) (res:=I (cutF amount by' 0 - cutF amount by' 0)) (by (repeat first | dsimp only [go_sem,rA,rM,rS] | simp only [nbr]);exact cutc_ok h h0 h0 k) ?_
  (repeat first | dsimp only [go_sem,rA,rM,rS] | simp only [nbr])
  refine gb ?_
  (repeat first | dsimp only [go_sem,rA,rM,rS] | simp only [nbr])
  refine br_f rfl ?_
  (repeat first | dsimp only [go_sem,rA,rM,rS] | simp only [nbr])
  rw [w64_in (n:=(i:Int)+1) (by omega) (by omega)]
  refine ⟨(i+1,l2),⟨by simp only;omega,hp2,ins_end _ hs2 hj (.inl (by omega)),hst.out⟩,by simp only;omega,?_⟩
  (refine ent_id ?_ ?_ ?_ rfl rfl<;>dsimp only [natL,intL,id,go_sem,rA,rM,rS]<;>simp [natL,intL,KFR_iff,KFR_app,KFR,KFL,KF,mtL_same,mtO,nbr])
 have g:decide ((j:Int) > ((0:Nat):Int))=true:=by simp;omega
 simp only [g]
 have hgj:l2[j]'(by omega)=i:=by have:=hst.at';rw [List.getElem?_eq_getElem (by omega)] at this;exact Option.some.inj this
 have hgy:l2[j - 1]'(by omega) < i:=hst.lt (j - 1) _ (List.getElem?_eq_getElem (by omega)) (by omega) (by omega)
 repeat (refine .inl ⟨rfl,?_⟩;(repeat first | dsimp only [go_sem,rA,rM,rS] | simp only [nbr]))
 refine ixrm j rfl (by simp;omega) ?_
 (repeat first | dsimp only [go_sem,rA,rM,rS] | simp only [nbr])
 refine .inl ⟨rfl,?_⟩
 (repeat first | dsimp only [go_sem,rA,rM,rS] | simp only [nbr])
 refine ldrm (by omega) ?_
 (repeat first | dsimp only [natL,go_sem,rA,rM,rS] | simp only [nbr])
 repeat (refine .inl ⟨rfl,?_⟩;(repeat first | dsimp only [go_sem,rA,rM,rS] | simp only [nbr]))
 rw [w64_in (n:=(j:Int) - 1) (by omega) (by omega)]
 refine ixrm (j - 1) (by omega) (by simp;omega) ?_
 (repeat first | dsimp only [go_sem,rA,rM,rS] | simp only [nbr])
 refine .inl ⟨rfl,?_⟩
 (repeat first | dsimp only [go_sem,rA,rM,rS] | simp only [nbr])
 refine ldrm (by omega) ?_
 (repeat first | dsimp only [natL,go_sem,rA,rM,rS] | simp only [nbr])
 rw [hgj]
 generalize hy:l2[j - 1]'(by omega)=y at *
 have c1:=cut_bd h.a0 (fun x hx=>(h.b0 x hx).1) hs i
 have c2:=cut_bd h.a0 (fun x hx=>(h.b0 x hx).1) hs y
 repeat (refine .inl ⟨rfl,?_⟩;(repeat first | dsimp only [go_sem,rA,rM,rS] | simp only [nbr]))
 refine callv (by simp [FLT]) (res:=I (cutF amount by' y - cutF amount by' i)) (by (repeat first | dsimp only [go_sem,rA,rM,rS] | simp only [nbr]);exact cutc_ok h (by omega) (by omega) k) ?_
 (repeat first | dsimp only [go_sem,rA,rM,rS] | simp only [nbr])
 repeat (refine .inl ⟨rfl,?_⟩;(repeat first | dsimp only [go_sem,rA,rM,rS] | simp only [nbr]))
 have hkj:ky (ordK (cutF amount by')) l2 j=ordK (cutF amount by') i:=by rw [ky_eq _ (l:=l2) (i:=j) (by omega),hgj]
 have hky:ky (ordK (cutF amount by')) l2 (j - 1)=ordK (cutF amount by') y:=by rw [ky_eq _ (l:=l2) (i:=j - 1) (by omega),hy]
 have hor:=ord_lt (c:=cutF amount by') hgy (by omega:i < 16)
 by_cases hlt:cutF amount by' y < cutF amount by' i
 case neg =>
  refine br_f (by simp;omega) ?_
  (repeat first | dsimp only [go_sem,rA,rM,rS] | simp only [nbr])
  rw [w64_in (n:=(i:Int)+1) (by omega) (by omega)]
  refine ⟨(i+1,l2),⟨by simp only;omega,hp2,ins_end _ hs2 hj (.inr (by rw [hkj,hky];omega)),hst.out⟩,by simp only;omega,?_⟩
  (refine ent_id ?_ ?_ ?_ rfl rfl<;>dsimp only [natL,intL,id,go_sem,rA,rM,rS]<;>simp [natL,intL,KFR_iff,KFR_app,KFR,KFL,KF,mtL_same,mtO,nbr])
 refine br_t (by simp;omega) ?_
 (repeat first | dsimp only [go_sem,rA,rM,rS] | simp only [nbr])
 rw [w64_in (n:=(j:Int) - 1) (by omega) (by omega)]
 refine ixrm (j - 1) (by omega) (by simp;omega) ?_
 (repeat first | dsimp only [go_sem,rA,rM,rS] | simp only [nbr])
 refine ldrm (by omega) ?_
 (repeat first | dsimp only [natL,go_sem,rA,rM,rS] | simp only [nbr])
 refine ixrm j rfl (by simp;omega) ?_
 (repeat first | dsimp only [go_sem,rA,rM,rS] | simp only [nbr])
 refine ldrm (by omega) ?_
 (repeat first | dsimp only [natL,go_sem,rA,rM,rS] | simp only [nbr])
 refine ixrm j rfl (by simp;omega) ?_
 (repeat first | dsimp only [go_sem,rA,rM,rS] | simp only [nbr])
 refine strm (l2[j - 1]'(by omega)) (by omega) (by simp [natL]) (by simp [natL,splice]) ?_
 (repeat first | dsimp only [go_sem,rA,rM,rS] | simp only [nbr])
 refine ixrm (j - 1) (by first | omega | (rw [w64_in (by omega) (by omega)];omega)) (by simp;omega) ?_
 (repeat first | dsimp only [go_sem,rA,rM,rS] | simp only [nbr])
 refine strm (l2[j]'(by omega)) (by simp;omega) (by simp [natL]) (by simp [natL,splice]) ?_
 rw [← swp_eq (l:=l2) (i:=j) (j:=j - 1) (by omega) (by omega)]
 (repeat first | dsimp only [go_sem,rA,rM,rS] | simp only [nbr])
 try rw [w64_in (n:=(j:Int) - 1) (by omega) (by omega)]
 rw [show (j:Int) - 1=((j - 1:Nat):Int) from by omega]
 refine ⟨(j - 1,swp l2 j (j - 1)),⟨by simp only;omega,(swp_perm (by omega) (by omega)).trans hp2,ins_step _ hs2 hja hj (by omega) (by rw [hkj,hky];exact hor.2 hlt),hst.step hja hj hib⟩,by simp only;omega,?_⟩
 (refine ent_id ?_ ?_ ?_ rfl rfl<;>dsimp only [natL,intL,id,go_sem,rA,rM,rS]<;>simp [natL,intL,KFR_iff,KFR_app,KFR,KFL,KF,mtL_same,mtO,nbr])
theorem stbn_ok {amount:Int} {by':List Int} (h:Dvd amount by') (v:Nat) (k:Bool) :
 CtM Try.prog 108 ((0,.row v 1 ((List.range by'.length).map natL) 3) :: dvH amount by' k) 5 [.mr 0 v,I (by'.length:Nat),.cl 84 [.p 1 0]] (fun o=>∃ l',l'.Perm (List.range by'.length)∧Srt (ordK (cutF amount by')) 0 by'.length l'∧o=rowN v l' amount by' k):=by
 refine m108 (by simp [hpb,dvH]) (fun o ho=>by obtain ⟨l',_,_,rfl⟩:=ho;simp [rowN,dvH,KX,KXL,KXP,KXH,KFR_iff,KFR,KFL,KF,natL,intL]) ?_
 have hn1:=h.n1
 dsimp only [c108,r108,dvH,go_sem,rA,rM,rS]
 refine unroll 1 ?_
 dsimp only [rnds_succ,go_sem,rA,rM,rS]
 refine br_f (by simp;omega) ?_
 dsimp only [rnds_succ,go_sem,rA,rM,rS]
 refine callmP [0,1,2,3,4] (insn_ok h v k) rfl rfl rfl ?_ ?_ ?_
 · (repeat first | dsimp only [dvH,go_sem,rA,rM,rS] | simp only [nbr])
   simp [mtL,mtB,mtS]
 · (repeat first | dsimp only [dvH,go_sem,rA,rM,rS] | simp only [nbr])
   simp [KFR_iff,KFR,natL,intL,KFL,KF]
 rintro _ ⟨l',hp,hs,rfl⟩
 (repeat first | dsimp only [rowN,dvH,go_sem,rA,rM,rS] | simp only [nbr])
 refine unroll 1 ?_
 dsimp only [rnds_succ,go_sem,rA,rM,rS]
 refine br_f (by simp;omega) ?_
 dsimp only [rnds_succ,go_sem,rA,rM,rS]
 refine ⟨_,⟨l',hp,hs,rfl⟩,?_⟩
 try simp only [rowN,dvH]
 (refine entO_id ?_ ?_ ?_ rfl<;>dsimp only [natL,intL,id,go_sem,rA,rM,rS]<;>simp [natL,intL,KFR_iff,KFR_app,KFR,KFL,KF,mtL_same,mtO,nbr])
theorem sortn_ok {amount:Int} {by':List Int} (h:Dvd amount by') (v:Nat) (k:Bool) :
 CtM Try.prog 83 ((0,.row v 1 ((List.range by'.length).map natL) 3) :: dvH amount by' k) 5 [.mr 0 v,.cl 84 [.p 1 0]] (fun o=>∃ l',l'.Perm (List.range by'.length)∧Srt (ordK (cutF amount by')) 0 by'.length l'∧o=rowN v l' amount by' k):=by
 refine m83 (by simp [hpb,dvH]) (fun o ho=>by obtain ⟨l',_,_,rfl⟩:=ho;simp [rowN,dvH,KX,KXL,KXP,KXH,KFR_iff,KFR,KFL,KF,natL,intL]) ?_
 dsimp only [c83,r83,dvH,go_sem,rA,rM,rS]
 (repeat first | dsimp only [go_sem,rA,rM,rS] | simp only [nbr])
 simp only [List.length_map,List.length_range]
 refine callmP [0,1,2,3,4] (stbn_ok h v k) rfl rfl rfl ?_ ?_ ?_
 · (repeat first | dsimp only [dvH,go_sem,rA,rM,rS] | simp only [nbr])
   simp [mtL,mtB,mtS]
 · (repeat first | dsimp only [dvH,go_sem,rA,rM,rS] | simp only [nbr])
   simp [KFR_iff,KFR,natL,intL,KFL,KF]
 rintro _ ⟨l',hp,hs,rfl⟩
 (repeat first | dsimp only [rowN,dvH,go_sem,rA,rM,rS] | simp only [nbr])
 refine ⟨_,⟨l',hp,hs,rfl⟩,?_⟩
 try simp only [rowN,dvH]
 (refine entO_id ?_ ?_ ?_ rfl<;>dsimp only [natL,intL,id,go_sem,rA,rM,rS]<;>simp [natL,intL,KFR_iff,KFR_app,KFR,KFL,KF,mtL_same,mtO,nbr])
end Go.Proofs.Ythilckbkffjliaa
set_option maxRecDepth 100000
set_option maxHeartbeats 4000000
namespace Go.Azalai
theorem sumL_taken {l:List Int} {k:Nat} (h:k < l.length):sumL (l.take (k+1))=sumL (l.take k)+l[k]:=by
 have:=sumL_take (f:=fun x:Int=>x) h
 simpa using this
theorem sumL_sub0:∀ {l:List Int},(∀ x ∈ l,0≤x)→∀ k,0≤sumL (l.take k)∧sumL (l.take k)≤sumL l
 | [],_,k=>by simp [sumL]
 | x :: l,h,0=>by simp only [List.take_zero,sumL];exact ⟨Int.le_refl _,sumL_nonneg h⟩
 | x :: l,h,k+1=>by
  have h1:=sumL_sub0 (l:=l) (fun y hy=>h y (by simp [hy])) k
  have h2:=h x (by simp)
  simp only [List.take_succ_cons,sumL];omega
def prtL (amount:Int) (by':List Int) (O:List Nat):List Int:=(List.range by'.length).map fun i=>partF amount by' i+if i ∈ O then 1 else 0
theorem prtL_nil {amount:Int} {by':List Int}:prtL amount by' []=(List.range by'.length).map (partF amount by'):=by
 unfold prtL;apply List.map_congr_left;intro i _;simp
theorem prtL_len {amount:Int} {by':List Int} {O:List Nat}:(prtL amount by' O).length=by'.length:=by simp [prtL]
theorem prtL_get {amount:Int} {by':List Int} {O:List Nat} {i:Nat} (hi:i < (prtL amount by' O).length):(prtL amount by' O)[i]=partF amount by' i+if i ∈ O then 1 else 0:=by simp [prtL]
theorem prtL_set {amount:Int} {by':List Int} {O:List Nat} {t:Nat} (ht:t < O.length) (hn:O.Nodup) (hi:O[t] < by'.length) :
 (prtL amount by' (O.take t)).set O[t] (partF amount by' O[t]+1)=prtL amount by' (O.take (t+1)):=by
 apply List.ext_getElem
 · simp [prtL]
 intro i h1 h2
 rw [List.getElem_set,prtL_get,prtL_get]
 have hm:∀ x,x ∈ O.take (t+1)↔x ∈ O.take t∨x=O[t]:=fun x=>by rw [List.take_succ_eq_append_getElem ht,List.mem_append,List.mem_singleton]
 by_cases e:O[t]=i
 · rw [if_pos e,← e,if_pos ((hm _).2 (.inr rfl))]
 · rw [if_neg e]
   by_cases q:i ∈ O.take t
   · rw [if_pos q,if_pos ((hm i).2 (.inl q))]
   · rw [if_neg q,if_neg fun z=>((hm i).1 z).elim q fun z=>e z.symm]
theorem take_no {O:List Nat} {t:Nat} (ht:t < O.length) (hn:O.Nodup):O[t] ∉ O.take t:=by
 intro h
 obtain ⟨j,hj,e⟩:=List.mem_take_iff_getElem.1 h
 have:=List.pairwise_iff_getElem.1 (List.nodup_iff_pairwise_ne.1 hn) j t (by omega) ht (by omega)
 exact this e
theorem prtL_done {amount:Int} {by':List Int} {O:List Nat} (h:Dvd amount by') (hp:O.Perm (List.range by'.length)) (ho:O.Pairwise fun a b=>fst' (cutF amount by') a b=true):prtL amount by' (O.take (leftF amount by').toNat)=dividedF amount by':=by
 have hl:=left_bd h.a0 (fun x hx=>(h.b0 x hx).1) h.s0
 unfold prtL dividedF
 apply List.map_congr_left
 intro i hi
 have hi:=List.mem_range.1 hi
 have:=take_rank hp ho (t:=(leftF amount by').toNat) hi
 by_cases q:i ∈ O.take (leftF amount by').toNat
 · have:=this.1 q
   rw [if_pos q,if_pos (by omega)]
 · have h2:=mt this.2 q
   rw [if_neg q,if_neg (by omega)]
theorem part_sum {amount:Int} {by':List Int} (h:Dvd amount by'):∀ {k:Nat},k≤by'.length→0≤sumL ((List.range k).map (partF amount by'))∧sumL ((List.range k).map (partF amount by'))≤amount:=by
 have hl:=left_bd h.a0 (fun x hx=>(h.b0 x hx).1) h.s0
 have hall:∀ x ∈ (List.range by'.length).map (partF amount by'),0≤x:=fun x hx=>by
  obtain ⟨i,hi,rfl⟩:=List.mem_map.1 hx
  exact (h.part (List.mem_range.1 hi)).1
 intro k hk
 have h1:=sumL_sub0 hall k
 rw [← List.map_take,List.take_range,Nat.min_eq_left hk] at h1
 have h2:leftF amount by'=amount - sumL ((List.range by'.length).map (partF amount by')):=rfl
 omega
end Go.Azalai
namespace Go.Proofs.Ythilckbkffjliaa
open Go Go.Sx Go.Azalai
def partO (n:Nat) (l:List Int):Ot:=⟨false,.mr 3 n,[(3,.row n 1 (l.map intL) 3)],4⟩
theorem divided_ok {amount:Int} {by':List Int} (h:Dvd amount by') (kb:Bool):CtM Try.prog 63 [] 0 [I amount,.sl kb 1 (by'.map intL)] (fun o=>o=partO by'.length (dividedF amount by')):=by
 refine m63 (by simp [hpb]) (fun o ho=>by subst ho;simp [partO,KX,KXL,KXP,KXH,KFR_iff,KFL,KF,intL]) ?_
 have hn1:=h.n1
 have hs:=h.s0
 have hs1:=h.s1
 have ha:=h.a0
 have ha1:=h.a1
 have hpos:∀ x ∈ by',0≤x:=fun x hx=>(h.b0 x hx).1
 have hlf:=left_bd h.a0 hpos h.s0
 dsimp only [c63,r63,go_sem,rA,rM,rS]
 simp only [List.length_map]
 refine loopO (fun s:Nat × Int=>[(19,I (s.1:Nat))]) (fun s=>[(2,.cells [I s.2] 3)]) (fun s=>s.1≤by'.length∧s.2=sumL (by'.take s.1)) (fun s=>by'.length - s.1) (0,0) ⟨Nat.zero_le _,rfl⟩ ?_ ?_
 · (refine ent_id ?_ ?_ ?_ rfl rfl<;>dsimp only [intL,id,go_sem,rA,rM,rS]<;>simp [intL,KFR_iff,KFR_app,KFR,KFL,KF,mtL_same,mtO,nbr])
 rintro ⟨j,t⟩ ⟨hj,ht⟩
 simp only at hj ht
 dsimp only [go_sem,rA,rM,rS]
 by_cases hlt:j < by'.length
 · refine br_t (by simpa using hlt) ?_
   dsimp only [go_sem,rA,rM,rS]
   refine ixs_map j hlt rfl ?_
   dsimp only [intL,go_sem,rA,rM,rS]
   have h1:=sumL_taken hlt
   have h2:=sumL_sub0 hpos (j+1)
   rw [w64_in (n:=t+by'[j]) (by omega) (by omega),w64_in (n:=(j:Int)+1) (by omega) (by omega)]
   refine ⟨(j+1,t+by'[j]),⟨hlt,by simp only;omega⟩,by simp only;omega,?_⟩
   (refine ent_id ?_ ?_ ?_ rfl rfl<;>dsimp only [intL,id,go_sem,rA,rM,rS]<;>simp [intL,KFR_iff,KFR_app,KFR,KFL,KF,mtL_same,mtO,nbr])
 refine br_f (by simpa using hlt) ?_
 dsimp only [go_sem,rA,rM,rS]
 have hjl:j=by'.length:=by omega
 rw [hjl,List.take_length] at ht
 subst ht
 refine gh ent_refl ?_
 dsimp only [go_sem,rA,rM,rS]
 simp only [List.length_map]
 refine loopG (ent_trans (ent_nilslot 9 1 3 rfl rfl) (ent_nilslot 10 1 3 rfl rfl)) (fun s:Nat=>[(29,I (s:Nat)),(6,I (amount - sumL ((List.range s).map (partF amount by')))),(9,.mr 3 s),(10,.mr 4 s)]) (fun s=>[(3,.row s 1 (((List.range s).map (partF amount by')).map intL) 3),(4,.row s 1 ((List.range s).map natL) 3)]) (fun s=>s≤by'.length) (fun s=>by'.length - s) 0 (Nat.zero_le _) ?_ ?_
 · (refine ent_id ?_ ?_ ?_ rfl rfl<;>dsimp only [intL,natL,sumL,id,go_sem,rA,rM,rS]<;>simp [intL,natL,sumL,KFR_iff,KFR_app,KFR,KFL,KF,mtL_same,mtO,nbr])
 intro k hk
 dsimp only [go_sem,rA,rM,rS]
 by_cases hlt:k < by'.length
 · refine br_t (by simpa using hlt) ?_
   dsimp only [go_sem,rA,rM,rS]
   refine ixs_map k hlt rfl ?_
   dsimp only [intL,go_sem,rA,rM,rS]
   have hm:=h.mul (h.b0 _ (List.getElem_mem hlt))
   have hp:=h.part hlt
   have e1:(amount * by'[k]).tdiv (sumL by')=partF amount by' k:=by simp [partF,byF_get hlt]
   rw [w64_in (n:=amount * by'[k]) (by omega) (by omega)]
   refine div0 (by omega) ?_
   dsimp only [divr,go_sem,rA,rM,rS]
   rw [e1,w64_in (n:=partF amount by' k) (by omega) (by omega)]
   (repeat first | dsimp only [go_sem,rA,rM,rS] | simp only [nbr])
   refine ⟨by simp [allOne,oneS,oneV],by simp;omega,?_⟩
   (repeat first | dsimp only [go_sem,rA,rM,rS] | simp only [nbr])
   refine ⟨by simp [allOne,oneS,oneV],by simp;omega,?_⟩
   (repeat first | dsimp only [go_sem,rA,rM,rS] | simp only [nbr])
   have e2:((List.range k).map (partF amount by')).map intL ++ [[I (partF amount by' k)]]=((List.range (k+1)).map (partF amount by')).map intL:=by simp [List.range_succ,intL]
   have e3:(List.range k).map natL ++ [[I (k:Int)]]=(List.range (k+1)).map natL:=by simp [List.range_succ,natL]
   rw [e2,e3]
   refine ixrm k rfl (by simp) ?_
   (repeat first | dsimp only [go_sem,rA,rM,rS] | simp only [nbr])
   refine ldrm (by simp) ?_
   (repeat first | dsimp only [intL,go_sem,rA,rM,rS] | simp only [nbr])
   simp only [List.getElem_map,List.getElem_range]
   have h3:=sumL_rs (f:=partF amount by') (n:=k)
   have h4:=part_sum h (k:=k+1) (by omega)
   have h5:=part_sum h (k:=k) (by omega)
   rw [w64_in (n:=amount - sumL ((List.range k).map (partF amount by')) - partF amount by' k) (by omega) (by omega),w64_in (n:=(k:Int)+1) (by omega) (by omega)]
   rw [show amount - sumL ((List.range k).map (partF amount by')) - partF amount by' k=amount - sumL ((List.range (k+1)).map (partF amount by')) from by omega]
   refine ⟨k+1,hlt,by omega,?_⟩
   (refine ent_id ?_ ?_ ?_ rfl rfl<;>dsimp only [intL,natL,id,go_sem,rA,rM,rS]<;>simp [intL,natL,KFR_iff,KFR_app,KFR,KFL,KF,mtL_same,mtO,nbr])
 refine br_f (by simpa using hlt) ?_
 dsimp only [go_sem,rA,rM,rS]
 have hkl:k=by'.length:=by omega
 subst hkl
 refine gh ent_refl ?_
 dsimp only [go_sem,rA,rM,rS]
 refine callmP [4,5,0,1,2] (sortn_ok h by'.length kb) rfl rfl rfl ?_ ?_ ?_
 · (repeat first | dsimp only [dvH,go_sem,rA,rM,rS] | simp only [nbr])
   simp [mtL,mtB,mtS]
 · (repeat first | dsimp only [dvH,go_sem,rA,rM,rS] | simp only [nbr])
   simp [KFR_iff,KFR,natL,intL,KFL,KF]
 rintro _ ⟨O,hO,hsr,rfl⟩
 have hof:=ord_fst hn1 hO hsr
 have hOn:O.Nodup:=hO.nodup_iff.2 List.nodup_range
 have hOl:O.length=by'.length:=by rw [hO.length_eq,List.length_range]
 (repeat first | dsimp only [rowN,dvH,go_sem,rA,rM,rS] | simp only [nbr])
 refine gh (ent_frz 10 4 by'.length rfl rfl rfl rfl) ?_
 (repeat first | dsimp only [go_sem,rA,rM,rS] | simp only [nbr])
 have hL:amount - sumL ((List.range by'.length).map (partF amount by'))=leftF amount by':=rfl
 rw [hL]
 have hlN:(((leftF amount by').toNat:Nat):Int)=leftF amount by':=by omega
 refine ⟨0,(leftF amount by').toNat,⟨rfl,hlN.symm,Nat.zero_le _,by simp;omega⟩,?_⟩
 (repeat first | dsimp only [go_sem,rA,rM,rS] | simp only [nbr])
 try rw [List.drop_zero]
 try dsimp only [List.drop]
 rw [← List.map_take]
 simp only [List.length_map,List.length_take]
 rw [Nat.min_eq_left (by omega:(leftF amount by').toNat≤O.length)]
 rw [← prtL_nil]
 have hkf:KFR (List.take (leftF amount by').toNat (List.map natL O)):=by rw [← List.map_take];exact KFR_iff.2 fun x _=>by simp [natL,KFL,KF]
 refine loopO (fun s:Nat=>[(61,I (s:Nat))]) (fun s=>[(3,.row by'.length 1 ((prtL amount by' (O.take s)).map intL) 3)]) (fun s=>s≤(leftF amount by').toNat) (fun s=>(leftF amount by').toNat - s) 0 (Nat.zero_le _) ?_ ?_
 · (refine ent_id ?_ ?_ ?_ rfl rfl<;>dsimp only [intL,natL,hkf,List.take_zero,id,go_sem,rA,rM,rS]<;>simp [intL,natL,hkf,List.take_zero,KFR_iff,KFR_app,KFR,KFL,KF,mtL_same,mtO,nbr])
 intro t ht
 dsimp only [go_sem,rA,rM,rS]
 by_cases hlt:t < (leftF amount by').toNat
 · refine br_t (by simp;omega) ?_
   dsimp only [go_sem,rA,rM,rS]
   refine ixs_map t (by simp;omega) rfl ?_
   dsimp only [natL,go_sem,rA,rM,rS]
   have htO:t < O.length:=by omega
   have hOt:O[t] < by'.length:=List.mem_range.1 (hO.mem_iff.1 (List.getElem_mem htO))
   simp only [List.getElem_take]
   (repeat first | dsimp only [go_sem,rA,rM,rS] | simp only [nbr])
   refine ixrm O[t] rfl (by simp [prtL_len];omega) ?_
   (repeat first | dsimp only [go_sem,rA,rM,rS] | simp only [nbr])
   refine ldrm (by rw [prtL_len];omega) ?_
   (repeat first | dsimp only [intL,go_sem,rA,rM,rS] | simp only [nbr])
   rw [prtL_get,if_neg (take_no htO hOn),Int.add_zero]
   have hp:=h.part hOt
   rw [w64_in (n:=partF amount by' O[t]+1) (by omega) (by omega)]
   refine ixrm O[t] rfl (by simp [prtL_len];omega) ?_
   (repeat first | dsimp only [go_sem,rA,rM,rS] | simp only [nbr])
   refine strm (partF amount by' O[t]+1) (by rw [prtL_len];omega) (by simp [intL]) (by simp [intL,splice]) ?_
   (repeat first | dsimp only [go_sem,rA,rM,rS] | simp only [nbr])
   rw [prtL_set htO hOn hOt,w64_in (n:=(t:Int)+1) (by omega) (by omega)]
   refine ⟨t+1,hlt,by omega,?_⟩
   (refine ent_id ?_ ?_ ?_ rfl rfl<;>dsimp only [intL,natL,hkf,id,go_sem,rA,rM,rS]<;>simp [intL,natL,hkf,KFR_iff,KFR_app,KFR,KFL,KF,mtL_same,mtO,nbr])
 refine br_f (by simp;omega) ?_
 dsimp only [go_sem,rA,rM,rS]
 have htl:t=(leftF amount by').toNat:=by omega
 rw [htl,prtL_done h hO hof]
 refine gh ent_refl ?_
 (repeat first | dsimp only [go_sem,rA,rM,rS] | simp only [nbr])
 refine ⟨_,rfl,?_⟩
 simp only [partO]
 (refine entO_id ?_ ?_ ?_ rfl<;>dsimp only [intL,hkf,id,go_sem,rA,rM,rS]<;>simp [intL,hkf,KFR_iff,KFR_app,KFR,KFL,KF,mtL_same,mtO,nbr])
theorem getF_bd {amount:Int} {by':List Int} (h:Dvd amount by') {i:Nat} (hi:i < (dividedF amount by').length):0≤(dividedF amount by')[i]∧(dividedF amount by')[i]≤9000000000000000001:=by
 have hi':i < by'.length:=by simpa [dividedF] using hi
 have:=h.part hi'
 simp only [dividedF,List.getElem_map,List.getElem_range]
 split<;>omega
theorem Dvd.of {p:Pact} (hp:okPact p=true) {r:Int} (h0:0≤r) (h1:r≤90000000000):Dvd r (p.partners.map (·.share))∧Dvd r (p.partners.map (·.put)):=by
 have hA:=okPact_all hp
 have hP:okPartners (-1) p.partners=true:=by
  simp only [okPact,Bool.and_eq_true] at hp;exact hp.1.1.2
 have hB:=(okPartners_ids hP).2.2
 refine ⟨⟨h0,h1,by simp;omega,fun x hx=>?_,by omega⟩,⟨h0,h1,by simp;omega,fun x hx=>?_,by omega⟩⟩
 · obtain ⟨y,hy,rfl⟩:=List.mem_map.1 hx
   have:=hB y hy;omega
 · obtain ⟨y,hy,rfl⟩:=List.mem_map.1 hx
   have:=hB y hy;omega
theorem divide_ok (p:Pact) (hp:okPact p=true) {r:Int} (h0:-90000000000≤r) (h1:r≤90000000000):Ct Try.prog 43 [.agg (pactL p),I r] (.sl false 1 ((divideF p r).map intL)):=by
 refine t43 (by simp [pactL,partnerL,KFR_iff,KFL,KF]) (by simp [KFR_iff,intL,KFL,KF]) ?_
 have h8:=(okPact_all hp).2.2.2.2.2.2
 dsimp only [c43,r43,pactL,go_sem,rA,rM,rS]
 simp only [List.length_map]
 refine loopG (ent_trans (ent_nilslot 5 1 3 rfl rfl) (ent_nilslot 6 1 3 rfl rfl)) (fun s:Nat=>[(14,I (s:Nat)),(5,.mr 1 s),(6,.mr 2 s)]) (fun s=>[(1,.row s 1 ((p.partners.take s).map fun x=>[I x.share]) 3),(2,.row s 1 ((p.partners.take s).map fun x=>[I x.put]) 3)]) (fun s=>s≤p.partners.length) (fun s=>p.partners.length - s) 0 (Nat.zero_le _) ?_ ?_
 · (refine ent_id ?_ ?_ ?_ rfl rfl<;>dsimp only [pactL,partnerL,id,go_sem,rA,rM,rS]<;>simp [pactL,partnerL,KFR_iff,KFR_app,KFR,KFL,KF,mtL_same,mtO,nbr])
 intro k hk
 dsimp only [go_sem,rA,rM,rS]
 by_cases hlt:k < p.partners.length
 · refine br_t (by simpa using hlt) ?_
   dsimp only [go_sem,rA,rM,rS]
   refine ixs_map k hlt rfl ?_
   (repeat first | dsimp only [partnerL,go_sem,rA,rM,rS] | simp only [nbr])
   refine ⟨by simp [allOne,oneS,oneV],by simp;omega,?_⟩
   (repeat first | dsimp only [go_sem,rA,rM,rS] | simp only [nbr])
   refine ⟨by simp [allOne,oneS,oneV],by simp;omega,?_⟩
   (repeat first | dsimp only [go_sem,rA,rM,rS] | simp only [nbr])
   have e2:(p.partners.take k).map (fun x=>[I x.share]) ++ [[I p.partners[k].share]]=(p.partners.take (k+1)).map fun x=>[I x.share]:=by rw [List.take_succ_eq_append_getElem hlt,List.map_append];rfl
   have e3:(p.partners.take k).map (fun x=>[I x.put]) ++ [[I p.partners[k].put]]=(p.partners.take (k+1)).map fun x=>[I x.put]:=by rw [List.take_succ_eq_append_getElem hlt,List.map_append];rfl
   rw [e2,e3,w64_in (n:=(k:Int)+1) (by omega) (by omega)]
   have hk1:KFR (List.take (k+1) (List.map (fun x=>[I x.share]) p.partners)):=by rw [← List.map_take];exact KFR_iff.2 fun x _=>by simp [KFL,KF]
   have hk2:KFR (List.take (k+1) (List.map (fun x=>[I x.put]) p.partners)):=by rw [← List.map_take];exact KFR_iff.2 fun x _=>by simp [KFL,KF]
   refine ⟨k+1,hlt,by omega,?_⟩
   (refine ent_id ?_ ?_ ?_ rfl rfl<;>dsimp only [pactL,partnerL,hk1,hk2,id,go_sem,rA,rM,rS]<;>simp [pactL,partnerL,hk1,hk2,KFR_iff,KFR_app,KFR,KFL,KF,mtL_same,mtO,nbr])
 refine br_f (by simpa using hlt) ?_
 dsimp only [go_sem,rA,rM,rS]
 have hkl:k=p.partners.length:=by omega
 subst hkl
 refine gh (ent_trans (ent_frz 5 1 p.partners.length rfl rfl rfl rfl) (ent_frz 6 2 p.partners.length rfl rfl rfl rfl)) ?_
 (repeat first | dsimp only [go_sem,rA,rM,rS] | simp only [nbr])
 rw [List.take_length]
 have e2:p.partners.map (fun x=>[I x.share])=(p.partners.map (·.share)).map intL:=by simp [intL,Function.comp_def]
 have e3:p.partners.map (fun x=>[I x.put])=(p.partners.map (·.put)).map intL:=by simp [intL,Function.comp_def]
 rw [e2,e3]
 by_cases hr:0≤r
 · refine br_t (by simpa using hr) ?_
   dsimp only [go_sem,rA,rM,rS]
   refine callmP [] (divided_ok (Dvd.of hp hr h1).1 false) rfl rfl rfl ?_ ?_ ?_
   · (repeat first | dsimp only [go_sem,rA,rM,rS] | simp only [nbr])
     simp [mtL,mtB,mtS,KFR_iff,KFL,KF,intL]
   · trivial
   rintro _ rfl
   (repeat first | dsimp only [partO,go_sem,rA,rM,rS] | simp only [nbr])
   rw [divideF,if_pos hr]
   refine gh ent_refl ?_
   (repeat first | dsimp only [go_sem,rA,rM,rS] | simp only [nbr])
 refine br_f (by simpa using hr) ?_
 dsimp only [go_sem,rA,rM,rS]
 rw [w64_in (n:=0 - r) (by omega) (by omega),show (0:Int) - r = -r from by omega]
 have hD:=(Dvd.of hp (r:=-r) (by omega) (by omega)).2
 refine callmP [] (divided_ok hD false) rfl rfl rfl ?_ ?_ ?_
 · (repeat first | dsimp only [go_sem,rA,rM,rS] | simp only [nbr])
   simp [mtL,mtB,mtS,KFR_iff,KFL,KF,intL]
 · trivial
 rintro _ rfl
 (repeat first | dsimp only [partO,go_sem,rA,rM,rS] | simp only [nbr])
 have hF:divideF p r=(dividedF (-r) (p.partners.map (·.put))).map fun n=>-n:=by rw [divideF,if_neg hr]
 rw [hF]
 have hlen:(dividedF (-r) (p.partners.map (·.put))).length=p.partners.length:=by simp [dividedF]
 generalize hQ:dividedF (-r) (p.partners.map (·.put))=Q at *
 refine gh ent_refl ?_
 (repeat first | dsimp only [go_sem,rA,rM,rS] | simp only [nbr])
 simp only [List.length_map]
 have hb:∀ i (hi:i < Q.length),0≤Q[i]∧Q[i]≤9000000000000000001:=by
  subst hQ;intro i hi;exact getF_bd hD hi
 refine loopO (fun s:Nat=>[(40,I (s:Nat))]) (fun s=>[(6,.row p.partners.length 1 (((Q.take s).map (fun n=>-n) ++ Q.drop s).map intL) 3)]) (fun s=>s≤Q.length) (fun s=>Q.length - s) 0 (Nat.zero_le _) ?_ ?_
 · (refine ent_id ?_ ?_ ?_ rfl rfl<;>dsimp only [pactL,partnerL,intL,id,go_sem,rA,rM,rS]<;>simp [pactL,partnerL,intL,KFR_iff,KFR_app,KFR,KFL,KF,mtL_same,mtO,nbr])
 intro k hk
 dsimp only [go_sem,rA,rM,rS]
 by_cases hlt:k < Q.length
 · refine br_t (by simpa using hlt) ?_
   (repeat first | dsimp only [go_sem,rA,rM,rS] | simp only [nbr])
   have hgl:((Q.take k).map (fun n=>-n) ++ Q.drop k).length=Q.length:=by simp;omega
   have hg:((Q.take k).map (fun n=>-n) ++ Q.drop k)[k]'(by omega)=Q[k]:=by
    rw [List.getElem_append_right (by simp;omega)]
    simp [Nat.min_eq_left (Nat.le_of_lt hlt)]
   refine ixrm k rfl (by rw [List.length_map,hgl];exact hlt) ?_
   (repeat first | dsimp only [go_sem,rA,rM,rS] | simp only [nbr])
   refine ldrm (by rw [hgl];exact hlt) ?_
   (repeat first | dsimp only [intL,go_sem,rA,rM,rS] | simp only [nbr])
   rw [hg]
   have:=hb k hlt
   rw [w64_in (n:=0 - Q[k]) (by omega) (by omega),show (0:Int) - Q[k] = -Q[k] from by omega]
   refine ixrm k rfl (by rw [List.length_map,hgl];exact hlt) ?_
   (repeat first | dsimp only [go_sem,rA,rM,rS] | simp only [nbr])
   refine strm (-Q[k]) (by rw [hgl];exact hlt) (by simp [intL]) (by simp [intL,splice]) ?_
   (repeat first | dsimp only [go_sem,rA,rM,rS] | simp only [nbr])
   have hset:((Q.take k).map (fun n=>-n) ++ Q.drop k).set k (-Q[k])=(Q.take (k+1)).map (fun n=>-n) ++ Q.drop (k+1):=by
    rw [List.set_append_right (h:=by simp;omega)]
    simp only [List.length_map,List.length_take,Nat.min_eq_left (Nat.le_of_lt hlt),Nat.sub_self]
    rw [List.drop_eq_getElem_cons hlt,List.set_cons_zero,List.take_succ_eq_append_getElem hlt,List.map_append,List.append_assoc]
    rfl
   rw [hset,w64_in (n:=(k:Int)+1) (by omega) (by omega)]
   have hk1:KFR (List.take (k+1) (List.map (intL ∘ fun n=>-n) Q)):=by rw [← List.map_take];exact KFR_iff.2 fun x _=>by simp [KFL,KF,intL]
   have hk2:KFR (List.drop (k+1) (List.map intL Q)):=by rw [← List.map_drop];exact KFR_iff.2 fun x _=>by simp [KFL,KF,intL]
   refine ⟨k+1,hlt,by omega,?_⟩
   (refine ent_id ?_ ?_ ?_ rfl rfl<;>dsimp only [pactL,partnerL,intL,hk1,hk2,id,go_sem,rA,rM,rS]<;>simp [pactL,partnerL,intL,hk1,hk2,KFR_iff,KFR_app,KFR,KFL,KF,mtL_same,mtO,nbr])
 refine br_f (by simpa using hlt) ?_
 dsimp only [go_sem,rA,rM,rS]
 have hkl:k=Q.length:=by omega
 rw [hkl,List.take_length,List.drop_length,List.append_nil]
 refine gh ent_refl ?_
 (repeat first | dsimp only [go_sem,rA,rM,rS] | simp only [nbr])
end Go.Proofs.Ythilckbkffjliaa
set_option maxRecDepth 100000
set_option maxHeartbeats 4000000
namespace Go.Azalai
open Go.Sx
theorem run_take {p:Pact} {l:List Letter} {c:Co} {j:Nat} (h:j < l.length):runF p c (l.take (j+1))=(stepF p (runF p c (l.take j)) l[j]).1:=by
 rw [List.take_succ_eq_append_getElem h,runF_app];rfl
theorem why_take {p:Pact} {l:List Letter} {c:Co} {j:Nat} (h:j < l.length):whyL p c (l.take (j+1))=whyL p c (l.take j) ++ [(stepF p (runF p c (l.take j)) l[j]).2]:=by
 rw [List.take_succ_eq_append_getElem h,whyL_app];rfl
theorem seen_sum {α : Type} (g:Nat × α→Int) {seen:List Nat} {e:Nat × α} (hs:e.1 ∉ seen):∀ {L:List (Nat × α)},(L.map (·.1)).Nodup→e ∈ L →
 sumL ((L.filter fun x=>(seen ++ [e.1]).contains x.1).map g)=sumL ((L.filter fun x=>seen.contains x.1).map g)+g e
 | z :: l,hn,he=>by
  simp only [List.map_cons,List.nodup_cons] at hn
  rcases List.mem_cons.1 he with rfl | he
  · have h1:(l.filter fun x=>(seen ++ [e.1]).contains x.1)=l.filter fun x=>seen.contains x.1:=by
     apply List.filter_congr
     intro x hx
     have:x.1≠e.1:=fun q=>hn.1 (q ▸ List.mem_map.2 ⟨x,hx,rfl⟩)
     simp [this]
    have h2:(seen ++ [e.1]).contains e.1=true:=by simp
    have h3:seen.contains e.1=false:=by simpa using hs
    rw [List.filter_cons,if_pos h2,List.filter_cons,if_neg (by rw [h3];simp),h1,List.map_cons,sumL];omega
  · have ih:=seen_sum g hs hn.2 he
    have hz:z.1≠e.1:=fun q=>hn.1 (q ▸ List.mem_map.2 ⟨e,he,rfl⟩)
    have h2:(seen ++ [e.1]).contains z.1=seen.contains z.1:=by simp [hz]
    rw [List.filter_cons,h2,List.filter_cons]
    split
    · simp only [List.map_cons,sumL];omega
    · exact ih
def seenS {α : Type} (g:Nat × α→Int) (L:List (Nat × α)) (q:List Nat):Int:=sumL ((L.filter fun x=>q.contains x.1).map g)
theorem seenS_nil {α : Type} {g:Nat × α→Int} {L:List (Nat × α)}:seenS g L []=0:=by
 unfold seenS;rw [List.filter_eq_nil_iff.2 (by simp)];rfl
theorem seenS_all {α : Type} {g:Nat × α→Int} {L:List (Nat × α)} {q:List Nat} (h:∀ e ∈ L,e.1 ∈ q):seenS g L q=sumL (L.map g):=by
 unfold seenS;rw [List.filter_eq_self.2 fun e he=>by simpa using h e he]
theorem sumL_abs {b:Int}:∀ {l:List Int},(∀ x ∈ l,-b≤x∧x≤b)→-(l.length * b)≤sumL l∧sumL l≤l.length * b
 | [],_=>by simp [sumL]
 | x :: l,h=>by
  have h1:=h x (by simp)
  have h2:=sumL_abs (l:=l) fun y hy=>h y (by simp [hy])
  simp only [sumL,List.length_cons]
  rw [show ((l.length+1:Nat):Int)=(l.length:Int)+1 from by omega,Int.add_mul];omega
end Go.Azalai
namespace Go.Proofs.Ythilckbkffjliaa
open Go Go.Sx Go.Azalai
def foundO (p:Pact):Ot:=⟨false,.p 6 0,[(1,.map [] 0),(2,.map [] 0),(3,.map [] 0),(4,.map [] 0),(5,.map [] 0),(6,.cells [.sl false 3 (p.partners.map partnerL),I p.calf,I p.hire,I p.ends,.mp 1,.mp 2,.mp 3,.mp 4,.mp 5,I 0] 103)],7⟩
theorem found_ok (p:Pact):CtM Try.prog 49 [] 0 [.agg (pactL p)] (fun o=>o=foundO p):=by
 refine m49 (by simp [hpb]) (fun o ho=>by subst ho;simp [foundO,KX,KXL,KXP,KXH,KFR_iff,KFL,KF,partnerL]) ?_
 dsimp only [c49,r49,pactL,go_sem,rA,rM,rS]
 refine raw_mkmap rfl rfl rfl ?_
 dsimp only [go_sem,rA,rM,rS]
 refine raw_mkmap rfl rfl rfl ?_
 dsimp only [go_sem,rA,rM,rS]
 refine raw_mkmap rfl rfl rfl ?_
 dsimp only [go_sem,rA,rM,rS]
 refine raw_mkmap rfl rfl rfl ?_
 dsimp only [go_sem,rA,rM,rS]
 refine raw_mkmap rfl rfl rfl ?_
 dsimp only [go_sem,rA,rM,rS]
 refine ⟨_,rfl,?_⟩
 simp only [foundO]
 (refine entO_id ?_ ?_ ?_ rfl<;>dsimp only [partnerL,id,go_sem,rA,rM,rS]<;>simp [partnerL,KFR_iff,KFR_app,KFR,KFL,KF,mtL_same,mtO,nbr])
def rsH (p:Pact) (b:Bks) (l:List Letter) (k:Bool):List (Nat × HB):=bH p b ++ [(6,.cells [.p 5 0] 87),(7,.cells [.sl k 8 (l.map letterL)] 38)]
theorem reas_ok (p:Pact) (b:Bks) (l:List Letter) (k:Bool):CtM Try.prog 50 (bH p b) 6 [.p 5 0,.sl k 8 (l.map letterL)] (fun o=>o=⟨false,.cl 71 [.p 7 0,.p 6 0],rsH p b l k,8⟩):=by
 refine m50 (by simp [hpb,bH]) (fun o ho=>by subst ho;simp [rsH,bH,KX,KXL,KXP,KXH,KFR_iff,KFL,KF,partnerL,letterL,loanV,intV,bolV,mpS_kf3]) ?_
 dsimp only [c50,r50,bH,go_sem,rA,rM,rS]
 refine ⟨_,rfl,?_⟩
 simp only [rsH,bH]
 (refine entO_id ?_ ?_ ?_ rfl<;>dsimp only [mpS_kf3,loanV,intV,bolV,partnerL,letterL,id,go_sem,rA,rM,rS]<;>simp [mpS_kf3,loanV,intV,bolV,partnerL,letterL,KFR_iff,KFR_app,KFR,KFL,KF,mtL_same,mtO,nbr])
theorem kind_get {k:Int} (hk:k=1∨k=2∨k=3∨k=4∨k=5∨k=6∨k=7∨k=8):∃ a b,Go.Sx.mget k kindsL=some (a,b,workF k):=by
 rcases hk with h | h | h | h | h | h | h | h<;>subst h<;>exact ⟨_,_,rfl⟩
theorem okL_kind {p:Pact} {x:Letter} (hx:okLetter p x=true):x.kind=1∨x.kind=2∨x.kind=3∨x.kind=4∨x.kind=5∨x.kind=6∨x.kind=7∨x.kind=8:=by
 apply Classical.byContradiction
 intro q
 simp only [not_or] at q
 simp [okLetter,q] at hx
def u8L (w:Int):List SV:=[U8 w]
def whyR (p:Pact) (l:List Letter):List (List SV):=(whyL p co0 l).map u8L
def colO (p:Pact) (b:Bks) (l:List Letter) (k:Bool):Ot:=⟨false,.mr 9 l.length,rsH p b l k ++ [(9,.row l.length 1 (whyR p l) 5)],10⟩
theorem appseq_ok (p:Pact) (hp:okPact p=true) (l:List Letter) (hl:∀ x ∈ l,okLetter p x=true) (h100:l.length≤1000) (k:Bool) :
 CtM Try.prog 70 (rsH p bks0 l k) 8 [.v (.slice none 0 0),.cl 71 [.p 7 0,.p 6 0]] (fun o=>∃ b,BkR l.length (runF p co0 l) b∧o=colO p b l k):=by
 refine m70 (by simp [hpb,rsH,bH]) (fun o ho=>by obtain ⟨b,-,rfl⟩:=ho;simp [colO,whyR,u8L,rsH,bH,KX,KXL,KXP,KXH,KFR_iff,KFL,KF,partnerL,letterL,loanV,intV,bolV,mpS_kf3]) ?_
 dsimp only [c70,r70,rsH,bH,go_sem,rA,rM,rS]
 refine gh (ent_nilcell 8 0 1 5 rfl rfl) ?_
 dsimp only [go_sem,rA,rM,rS]
 refine ⟨b71,fun rec=>?_⟩
 refine y71 ?_
 dsimp only [c71,r71,go_sem,rA,rM,rS]
 refine callmP [] kindsM_ok rfl rfl rfl ?_ ?_ ?_
 · (repeat first | dsimp only [go_sem,rA,rM,rS] | simp only [nbr])
   try simp [mtL,mtB,mtS]
 · trivial
 rintro _ rfl
 (repeat first | dsimp only [go_sem,rA,rM,rS] | simp only [nbr])
 simp only [List.length_map]
 refine loopO (fun s:Nat × Bks=>[(10,I (s.1:Nat))]) (fun s=>bH p s.2 ++ [(8,.cells [.mr 9 s.1] 39),(9,.row s.1 1 (whyR p (l.take s.1)) 5)]) (fun s=>s.1≤l.length∧BkR s.1 (runF p co0 (l.take s.1)) s.2) (fun s=>l.length - s.1) (0,bks0) ⟨Nat.zero_le _,BkR.start⟩ ?_ ?_
 · dsimp only [bH,go_sem,rA,rM,rS]
   (refine ent_id ?_ ?_ ?_ rfl rfl<;>dsimp only [bks0,whyR,whyL,mpS_kf3,partnerL,letterL,kindV,id,go_sem,rA,rM,rS]<;>simp [bks0,whyR,whyL,mpS_kf3,partnerL,letterL,kindV,KFR_iff,KFR_app,KFR,KFL,KF,mtL_same,mtO,nbr])
 rintro ⟨j,b⟩ ⟨hj,hb⟩
 simp only at hj hb
 dsimp only [bH,go_sem,rA,rM,rS]
 by_cases hlt:j < l.length
 · refine br_t (by simpa using hlt) ?_
   dsimp only [go_sem,rA,rM,rS]
   refine ixs_map j hlt rfl ?_
   dsimp only [letterL,go_sem,rA,rM,rS]
   have hx:=hl l[j] (List.getElem_mem _)
   obtain ⟨ka,kb',hkg⟩:=kind_get (okL_kind hx)
   refine raw_get (key:=kB) (val:=kindV) (sv:=fun n=>.v (kB n)) (L:=kindsL) (k:=l[j].kind) (zs:=zk) rfl rfl u120 key5 rfl zero126 zk_R (fun v hg=>?_) (fun hg=>?_)
   case refine_2=>rw [hkg] at hg;cases hg
   rw [hkg] at hg
   cases hg
   dsimp only [kindV,go_sem,rA,rM,rS]
   refine callmP [0,1,2,3,4,5] (try_ok hb (by omega) hp l[j] hx) rfl rfl rfl ?_ ?_ ?_
   · (repeat first | dsimp only [bH,go_sem,rA,rM,rS] | simp only [nbr])
     try simp [mtL,mtB,mtS,letterL]
   · (repeat first | dsimp only [bH,go_sem,rA,rM,rS] | simp only [nbr])
     try simp [mpS_kf3,loanV,intV,bolV,partnerL,letterL,KFR_iff,KFL,KF]
   rintro _ ⟨b2,hb2,rfl⟩
   (repeat first | dsimp only [whyO,bH,go_sem,rA,rM,rS] | simp only [nbr])
   refine ⟨trivial,trivial,?_⟩
   (repeat first | dsimp only [go_sem,rA,rM,rS] | simp only [nbr])
   refine ⟨by simp [allOne,oneS,oneV],by simp [whyR,whyL_len];omega,?_⟩
   (repeat first | dsimp only [go_sem,rA,rM,rS] | simp only [nbr])
   refine ⟨trivial,?_⟩
   refine br_f rfl ?_
   (repeat first | dsimp only [go_sem,rA,rM,rS] | simp only [nbr])
   have e1:whyR p (l.take j) ++ [[SV.v (Value.int IntKind.u8 (stepF p (runF p co0 (l.take j)) l[j]).2)]]=whyR p (l.take (j+1)):=by
    simp only [whyR,why_take hlt,List.map_append];rfl
   rw [e1,w64_in (n:=(j:Int)+1) (by omega) (by omega)]
   refine ⟨(j+1,b2),⟨hlt,by rw [run_take hlt];exact hb2⟩,by simp only;omega,?_⟩
   dsimp only [bH,go_sem,rA,rM,rS]
   (refine ent_id ?_ ?_ ?_ rfl rfl<;>dsimp only [mpS_kf3,partnerL,letterL,kindV,loanV,intV,bolV,whyR,u8L,id,go_sem,rA,rM,rS]<;>simp [mpS_kf3,partnerL,letterL,kindV,loanV,intV,bolV,whyR,u8L,KFR_iff,KFR_app,KFR,KFL,KF,mtL_same,mtO,nbr])
 refine br_f (by simpa using hlt) ?_
 dsimp only [go_sem,rA,rM,rS]
 have hjl:j=l.length:=by omega
 subst hjl
 rw [List.take_length] at hb ⊢
 refine ⟨_,⟨b,hb,rfl⟩,?_⟩
 try simp only [colO,rsH,bH,List.cons_append,List.nil_append]
 (refine entO_id ?_ ?_ ?_ rfl<;>dsimp only [mpS_kf3,partnerL,letterL,kindV,loanV,intV,bolV,whyR,u8L,id,go_sem,rA,rM,rS]<;>simp [mpS_kf3,partnerL,letterL,kindV,loanV,intV,bolV,whyR,u8L,KFR_iff,KFR_app,KFR,KFL,KF,mtL_same,mtO,nbr])
theorem coll_ok (p:Pact) (hp:okPact p=true) (l:List Letter) (hl:∀ x ∈ l,okLetter p x=true) (h100:l.length≤1000) (k:Bool) :
 CtM Try.prog 48 (rsH p bks0 l k) 8 [.cl 71 [.p 7 0,.p 6 0]] (fun o=>∃ b,BkR l.length (runF p co0 l) b∧o=colO p b l k):=by
 refine m48 (by simp [hpb,rsH,bH]) (fun o ho=>by obtain ⟨b,-,rfl⟩:=ho;simp [colO,whyR,u8L,rsH,bH,KX,KXL,KXP,KXH,KFR_iff,KFL,KF,partnerL,letterL,loanV,intV,bolV,mpS_kf3]) ?_
 dsimp only [c48,r48,rsH,bH,go_sem,rA,rM,rS]
 refine callmP [0,1,2,3,4,5,6,7] (appseq_ok p hp l hl h100 k) rfl rfl rfl ?_ ?_ ?_
 · (repeat first | dsimp only [go_sem,rA,rM,rS] | simp only [nbr])
   try simp [mtL,mtB,mtS]
 · (repeat first | dsimp only [rsH,bH,go_sem,rA,rM,rS] | simp only [nbr])
   try simp [mpS_kf3,loanV,intV,bolV,partnerL,letterL,KFR_iff,KFL,KF]
 rintro _ ⟨b,hb,rfl⟩
 (repeat first | dsimp only [colO,rsH,bH,go_sem,rA,rM,rS] | simp only [nbr])
 refine ⟨_,⟨b,hb,rfl⟩,?_⟩
 try simp only [colO,rsH,bH,List.cons_append,List.nil_append]
 (refine entO_id ?_ ?_ ?_ rfl<;>dsimp only [mpS_kf3,partnerL,letterL,kindV,loanV,intV,bolV,whyR,u8L,id,go_sem,rA,rM,rS]<;>simp [mpS_kf3,partnerL,letterL,kindV,loanV,intV,bolV,whyR,u8L,KFR_iff,KFR_app,KFR,KFL,KF,mtL_same,mtO,nbr])
end Go.Proofs.Ythilckbkffjliaa
set_option maxRecDepth 100000
set_option maxHeartbeats 4000000
namespace Go.Azalai
open Go.Sx
theorem divideF_bd {p:Pact} (hp:okPact p=true) {r:Int} (h0:-90000000000≤r) (h1:r≤90000000000) {i:Nat} (hi:i < (divideF p r).length):-9000000000000000001≤(divideF p r)[i]∧(divideF p r)[i]≤9000000000000000001:=by
 by_cases hr:r ≥ 0
 · have hD:=(Go.Proofs.Ythilckbkffjliaa.Dvd.of hp hr h1).1
   have e:divideF p r=dividedF r (p.partners.map (·.share)):=by rw [divideF,if_pos hr]
   have hi':i < (dividedF r (p.partners.map (·.share))).length:=by rw [← e];exact hi
   have:=Go.Proofs.Ythilckbkffjliaa.getF_bd hD hi'
   simp only [e];omega
 · have hD:=(Go.Proofs.Ythilckbkffjliaa.Dvd.of hp (r:=-r) (by omega) (by omega)).2
   have e:divideF p r=(dividedF (-r) (p.partners.map (·.put))).map fun n=>-n:=by rw [divideF,if_neg hr]
   have hi':i < (dividedF (-r) (p.partners.map (·.put))).length:=by rw [e] at hi;simpa using hi
   have:=Go.Proofs.Ythilckbkffjliaa.getF_bd hD hi'
   simp only [e,List.getElem_map];omega
structure EndB (p:Pact) (c0:Co) (b0:Bks) (M m:Nat) (c:Co) (b:Bks) (seen:List Nat):Prop where
 ei:EndI p c0 c
 bk:BkR m c b
 mm:m+b.loans.length≤M
 sn:∀ e ∈ b.loans,e.1 ∉ seen
 ck:b.cl=b0.cl
theorem EndB.step {p:Pact} {c0 c:Co} {b0 b:Bks} {M m:Nat} {seen:List Nat} (h:EndB p c0 b0 M m c b seen) (hp:0≤p.hire∧p.hire≤1000) (he:0≤p.ends∧p.ends≤100000) {e:Nat × Int × (Int × Int)} (hm:e ∈ b.loans) :
 c.loans e.2.1=some e.2.2∧EndB p c0 b0 M (m+1) (homeF p c e.2.1 p.ends e.2.2) (homeB p c b e.2.1 p.ends e.2.2) (seen ++ [e.1]):=by
 have hg:mget e.2.1 b.loans=some e.2.2:=mget_of h.bk.w1.kn hm
 have hl:c.loans e.2.1=some e.2.2:=by rw [← h.bk.lo,hg]
 have hlen:=mdel_len (L:=b.loans) (k:=e.2.1) (by rw [hg];rfl)
 have h1:=h.mm
 refine ⟨hl,h.ei.home hl,h.bk.home hp hl he,by simp only [homeB];omega,fun x hx=>?_,h.ck⟩
 have hx':=(mem_del h.bk.w1.kn).1 hx
 simp only [List.mem_append,List.mem_singleton,not_or]
 refine ⟨h.sn x hx'.1,fun q=>hx'.2 ?_⟩
 have hn:=h.bk.w1.bn
 have:∀ {L:List (Nat × Int × (Int × Int))},(L.map (·.1)).Nodup→x ∈ L→e ∈ L→x.1=e.1→x=e:=by
  intro L
  induction L with
  | nil=>intro _ h;cases h
  | cons z l ih =>
   intro hn h1 h2 h3
   simp only [List.map_cons,List.nodup_cons] at hn
   rcases List.mem_cons.1 h1 with q1 | q1
   · rcases List.mem_cons.1 h2 with q2 | q2
     · rw [q1,q2]
     · exact absurd (List.mem_map.2 ⟨e,q2,by rw [← h3,q1]⟩) hn.1
   · rcases List.mem_cons.1 h2 with q2 | q2
     · exact absurd (List.mem_map.2 ⟨x,q1,by rw [h3,q2]⟩) hn.1
     · exact ih hn.2 q1 q2 h3
 rw [this hn hx'.1 hm q]
theorem EndB.none {p:Pact} {c0 c:Co} {b0 b:Bks} {M m:Nat} {seen:List Nat} (h:EndB p c0 b0 M m c b seen) (hs:∀ e ∈ b.loans,e.1 ∈ seen):∀ a,c.loans a=none:=by
 have:b.loans=[]:=by
  cases hb:b.loans with
  | nil=>rfl
  | cons e l=>exact absurd (hs e (by simp [hb])) (h.sn e (by simp [hb]))
 intro a
 rw [← h.bk.lo,this];rfl
theorem hasF_get {p:Pact} {c:Co} {k:Nat} (hk:k < p.partners.length) (hk':k < (hasF p c).length) (hd:k < (divideF p (endR p c)).length) :
 (hasF p c)[k]=p.partners[k].put+(divideF p (endR p c))[k]+endX p c p.partners[k].id+owedF p c p.partners[k].id:=by
 simp only [hasF,List.getElem_map,List.getElem_range]
 rw [List.getElem?_eq_getElem hk]
 simp only [optF]
 rw [List.getD_eq_getElem?_getD,List.getElem?_eq_getElem hd];rfl
end Go.Azalai
namespace Go.Proofs.Ythilckbkffjliaa
open Go Go.Sx Go.Azalai
def endO (p:Pact) (c:Co):Ot:=⟨false,.mr 7 p.partners.length,[(7,.row p.partners.length 1 ((hasF p c).map intL) 3)],8⟩
theorem end_ok {p:Pact} (hp:okPact p=true) {n:Nat} {c:Co} {b:Bks} (h:BkR n c b) (hn:n≤400) (hc:CoOk p c) (hdb:DbOk p c) :
 CtM Try.prog 80 (bH p b) 6 [.p 5 0] (fun o=>o=endO p c):=by
 refine m80 (by simp [hpb,bH]) (fun o ho=>by subst ho;simp [endO,KX,KXL,KXP,KXH,KFR_iff,KFL,KF,intL]) ?_
 have hP:=hp
 simp only [okPact,Bool.and_eq_true,inR,decide_eq_true_eq] at hP
 have hh:0≤p.hire∧p.hire≤1000:=by omega
 have he:0≤p.ends∧p.ends≤100000:=by omega
 have h8:=(okPact_all hp).2.2.2.2.2.2
 have hln:=h.ln
 have hdn:=h.dn
 dsimp only [c80,r80,bH,go_sem,rA,rM,rS]
 refine raw_range rfl rfl u99 rfl rfl ?_
 dsimp only [go_sem,rA,rM,rS]
 refine loopO (fun _:Nat × Co × Bks × List Nat=>[]) (fun s=>bH p s.2.2.1 ++ [(6,.it 0 b.cl s.2.2.2 b.cl)]) (fun s=>EndB p c b (n+b.loans.length) s.1 s.2.1 s.2.2.1 s.2.2.2) (fun s=>s.2.2.1.loans.length) (n,c,b,[]) ⟨.start hc,h,Nat.le_refl _,fun e _=>by simp,rfl⟩ ?_ ?_
 · dsimp only [bH,go_sem,rA,rM,rS]
   (refine ent_id ?_ ?_ ?_ rfl rfl<;>dsimp only [mpS_kf3,loanV,intV,bolV,partnerL,id,go_sem,rA,rM,rS]<;>simp [mpS_kf3,loanV,intV,bolV,partnerL,KFR_iff,KFR_app,KFR,KFL,KF,mtL_same,mtO,nbr])
 rintro ⟨m,c1,b1,seen⟩ hE
 simp only at hE
 have hmm:=hE.mm
 dsimp only [bH,go_sem,rA,rM,rS]
 have hck:=hE.ck
 refine raw_next (key:=kI) (val:=loanV) (sv:=sI) (L:=b1.loans) (c:=b1.cl) rfl (by rw [hck];rfl) rfl (fun e he=>by rw [← hck];exact hE.bk.w1.bl e he) (Nat.le_refl _) key3 (fun hs=>?_) (fun e hm hs=>?_)
 · dsimp only [go_sem,rA,rM,rS]
   refine br_f rfl ?_
   dsimp only [go_sem,rA,rM,rS]
   have hno:=hE.none hs
   obtain ⟨hR,hX⟩:=hE.ei.done hno
   have hre:=hE.bk.re
   have hrb:=hE.bk.rb
   refine gh ent_refl ?_
   dsimp only [go_sem,rA,rM,rS]
   rw [hre,hR]
   rw [hR] at hrb
   refine call (divide_ok p hp (by omega) (by omega)) ?_
   dsimp only [go_sem,rA,rM,rS]
   simp only [List.length_map]
   have hdl:=divideF_len (p:=p) (r:=endR p c)
   refine loopG (ent_nilslot 5 1 3 rfl rfl) (fun s:Nat=>[(43,I (s:Nat)),(5,.mr 7 s)]) (fun s=>[(7,.row s 1 (((hasF p c).take s).map intL) 3)]) (fun s=>s≤p.partners.length) (fun s=>p.partners.length - s) 0 (Nat.zero_le _) ?_ ?_
   · (refine ent_id ?_ ?_ ?_ rfl rfl<;>dsimp only [mpS_kf3,loanV,intV,bolV,partnerL,intL,id,go_sem,rA,rM,rS]<;>simp [mpS_kf3,loanV,intV,bolV,partnerL,intL,KFR_iff,KFR_app,KFR,KFL,KF,mtL_same,mtO,nbr])
   intro k hk
   have hk0:KFR (List.take k (List.map intL (hasF p c))):=by rw [← List.map_take];exact KFR_iff.2 fun x _=>by simp [KFL,KF,intL]
   dsimp only [go_sem,rA,rM,rS]
   by_cases hlt:k < p.partners.length
   · refine br_t (by simpa using hlt) ?_
     dsimp only [go_sem,rA,rM,rS]
     refine ixs_map k hlt rfl ?_
     dsimp only [partnerL,go_sem,rA,rM,rS]
     refine ixs_map k (by rw [hdl];exact hlt) rfl ?_
     dsimp only [intL,go_sem,rA,rM,rS]
     have hrv:=fun (w:Int) σ h1 h2 h3=>rv_get (P:=Try.prog) (t:=101) (σ:=σ) (i:=58) (j:=60) (ok:=false) (km:=4) (c:=b1.ce) (key:=kI) (val:=intV) (sv:=sI) (L:=b1.extra) (k:=w) (zs:=intV 0) h1 h2 h3 u101 key3 zero3 iz_R
     refine ⟨_,hrv p.partners[k].id _ rfl rfl rfl,?_⟩
     rw [show lkS false intV (intV 0) (Go.Sx.mget p.partners[k].id b1.extra)=intV (c1.extra p.partners[k].id) from by rw [← hE.bk.ex];cases Go.Sx.mget p.partners[k].id b1.extra<;>rfl]
     rw [hX]
     have hexb:=hE.bk.eb p.partners[k].id
     rw [hX] at hexb
     have hpb:=divideF_bd hp (r:=endR p c) (by omega) (by omega) (i:=k) (by rw [hdl];exact hlt)
     have hpu:=((okPartners_ids hP.1.1.2).2.2 _ (List.getElem_mem hlt))
     dsimp only [intV,go_sem,rA,rM,rS]
     rw [w64_in (n:=p.partners[k].put+_) (by omega) (by omega),w64_in (n:=p.partners[k].put+(divideF p (endR p c))[k]+_) (by omega) (by omega)]
     refine raw_range rfl rfl u100 rfl rfl ?_
     dsimp only [go_sem,rA,rM,rS]
     have hget:=hasF_get (p:=p) (c:=c) hlt (by rw [hasF_len];exact hlt) (by rw [hdl];exact hlt)
     generalize hbs:p.partners[k].put+(divideF p (endR p c))[k]+endX p c p.partners[k].id=bs at *
     have hds:=debt_sum (p:=p) (c:=c1) hE.bk.w4.kn (fun e he=>by rw [← hE.bk.db,mget_of hE.bk.w4.kn he];rfl) (fun x y hno=>by rw [← hE.bk.db,mget_none.2 hno];rfl) (by intro w o;rw [hE.ei.db];exact hdb w o) (okPact_all hp).1 p.partners[k].id
     have hod:owedF p c1 p.partners[k].id=owedF p c p.partners[k].id:=by simp only [owedF,hE.ei.db]
     rw [hod] at hds
     have hdl1:=hE.bk.dn
     have htb:∀ e ∈ b1.debts,-90000000000≤e.2.2∧e.2.2≤90000000000:=fun e he=>by
      have h1:=hE.bk.bb e.2.1.1 e.2.1.2
      rw [← hE.bk.db,mget_of hE.bk.w4.kn he] at h1
      simp only [Option.getD_some] at h1
      omega
     have hdt:∀ e ∈ b1.debts,-180000000000≤dTerm p.partners[k].id e∧dTerm p.partners[k].id e≤180000000000:=fun e he=>by
      have:=htb e he
      simp only [dTerm]
      split<;>split<;>omega
     have hsb:∀ q:List Nat,-200000000000000≤seenS (dTerm p.partners[k].id) b1.debts q∧seenS (dTerm p.partners[k].id) b1.debts q≤200000000000000:=fun q=>by
      have h1:=sumL_abs (b:=180000000000) (l:=(b1.debts.filter fun x=>q.contains x.1).map (dTerm p.partners[k].id)) (fun x hx=>by
       obtain ⟨e,he,rfl⟩:=List.mem_map.1 hx
       exact hdt e (List.mem_filter.1 he).1)
      have h2:=List.length_filter_le (fun x=>q.contains x.1) b1.debts
      rw [List.length_map] at h1
      simp only [seenS]
      omega
     have hseen:=fun (q:List Nat) (e:Nat × (Int × Int) × Int) (hs:e.1 ∉ q) (he:e ∈ b1.debts)=>seen_sum (dTerm p.partners[k].id) hs hE.bk.w4.bn he
     generalize hid:p.partners[k].id=pid at *
     refine loopO (fun s:List Nat=>[(8,I (bs+seenS (dTerm pid) b1.debts s))]) (fun s=>[(9,.it 3 b1.cb s b1.cb)]) (fun _=>True) (fun s=>leftN b1.debts s) [] trivial ?_ ?_
     · (refine ent_id ?_ ?_ ?_ rfl rfl<;>dsimp only [mpS_kf3,loanV,intV,bolV,partnerL,intL,seenS_nil,Int.add_zero,hk0,id,go_sem,rA,rM,rS]<;>simp [mpS_kf3,loanV,intV,bolV,partnerL,intL,seenS_nil,Int.add_zero,hk0,KFR_iff,KFR_app,KFR,KFL,KF,mtL_same,mtO,nbr])
     intro q _
     dsimp only [go_sem,rA,rM,rS]
     have hq0:=hsb q
     refine raw_next (key:=kP) (val:=intV) (sv:=sP) (L:=b1.debts) (c:=b1.cb) rfl rfl rfl (fun e he=>hE.bk.w4.bl e he) (Nat.le_refl _) key105 (fun hs=>?_) (fun e hm hs=>?_)
     · dsimp only [go_sem,rA,rM,rS]
       refine br_f rfl ?_
       dsimp only [go_sem,rA,rM,rS]
       rw [seenS_all hs,hds,← hget]
       refine gh ent_refl ?_
       (repeat first | dsimp only [go_sem,rA,rM,rS] | simp only [nbr])
       refine ⟨by simp [allOne,oneS,oneV],by simp [hasF_len];omega,?_⟩
       (repeat first | dsimp only [go_sem,rA,rM,rS] | simp only [nbr])
       refine gh ent_refl ?_
       (repeat first | dsimp only [go_sem,rA,rM,rS] | simp only [nbr])
       have e1:((hasF p c).take k).map intL ++ [[I ((hasF p c)[k]'(by rw [hasF_len];exact hlt))]]=((hasF p c).take (k+1)).map intL:=by
        rw [List.take_succ_eq_append_getElem (by rw [hasF_len];exact hlt),List.map_append];rfl
       rw [e1,w64_in (n:=(k:Int)+1) (by omega) (by omega)]
       have hk1:KFR (List.take (k+1) (List.map intL (hasF p c))):=by rw [← List.map_take];exact KFR_iff.2 fun x _=>by simp [KFL,KF,intL]
       refine ⟨k+1,hlt,by omega,?_⟩
       (refine ent_id ?_ ?_ ?_ rfl rfl<;>dsimp only [mpS_kf3,loanV,intV,bolV,partnerL,intL,hk1,id,go_sem,rA,rM,rS]<;>simp [mpS_kf3,loanV,intV,bolV,partnerL,intL,hk1,KFR_iff,KFR_app,KFR,KFL,KF,mtL_same,mtO,nbr])
     · dsimp only [go_sem,rA,rM,rS]
       refine br_t rfl ?_
       dsimp only [go_sem,rA,rM,rS]
       refine raw_entry (key:=kP) (val:=intV) (sv:=sP) (L:=b1.debts) (e:=e) (since:=b1.cb) (seen:=q) (c:=b1.cb) rfl rfl rfl hm hE.bk.w4.bn key105 ?_
       dsimp only [intV,go_sem,rA,rM,rS]
       have hv:=htb e hm
       have hnew:seenS (dTerm pid) b1.debts (q ++ [e.1])=seenS (dTerm pid) b1.debts q+dTerm pid e:=hseen q e hs hm
       have hlN:=leftN_lt hm hs
       by_cases q1:e.2.1.2=pid
       · refine br_t (by simpa using q1) ?_
         dsimp only [go_sem,rA,rM,rS]
         rw [w64_in (n:=bs+seenS (dTerm pid) b1.debts q+e.2.2) (by omega) (by omega)]
         by_cases q2:e.2.1.1=pid
         · refine br_t (by simpa using q2) ?_
           dsimp only [go_sem,rA,rM,rS]
           rw [w64_in (n:=bs+seenS (dTerm pid) b1.debts q+e.2.2 - e.2.2) (by omega) (by omega)]
           rw [show bs+seenS (dTerm pid) b1.debts q+e.2.2 - e.2.2=bs+seenS (dTerm pid) b1.debts (q ++ [e.1]) from by rw [hnew];simp only [dTerm,q1,q2,if_true];omega]
           refine ⟨q ++ [e.1],trivial,hlN,?_⟩
           (refine ent_id ?_ ?_ ?_ rfl rfl<;>dsimp only [mpS_kf3,loanV,intV,bolV,partnerL,intL,hk0,id,go_sem,rA,rM,rS]<;>simp [mpS_kf3,loanV,intV,bolV,partnerL,intL,hk0,KFR_iff,KFR_app,KFR,KFL,KF,mtL_same,mtO,nbr])
         · refine br_f (by simpa using q2) ?_
           dsimp only [go_sem,rA,rM,rS]
           rw [show bs+seenS (dTerm pid) b1.debts q+e.2.2=bs+seenS (dTerm pid) b1.debts (q ++ [e.1]) from by rw [hnew];simp only [dTerm,q1,q2,if_true,if_false];omega]
           refine ⟨q ++ [e.1],trivial,hlN,?_⟩
           (refine ent_id ?_ ?_ ?_ rfl rfl<;>dsimp only [mpS_kf3,loanV,intV,bolV,partnerL,intL,hk0,id,go_sem,rA,rM,rS]<;>simp [mpS_kf3,loanV,intV,bolV,partnerL,intL,hk0,KFR_iff,KFR_app,KFR,KFL,KF,mtL_same,mtO,nbr])
       · refine br_f (by simpa using q1) ?_
         dsimp only [go_sem,rA,rM,rS]
         by_cases q2:e.2.1.1=pid
         · refine br_t (by simpa using q2) ?_
           dsimp only [go_sem,rA,rM,rS]
           rw [w64_in (n:=bs+seenS (dTerm pid) b1.debts q - e.2.2) (by omega) (by omega)]
           rw [show bs+seenS (dTerm pid) b1.debts q - e.2.2=bs+seenS (dTerm pid) b1.debts (q ++ [e.1]) from by rw [hnew];simp only [dTerm,q1,q2,if_true,if_false];omega]
           refine ⟨q ++ [e.1],trivial,hlN,?_⟩
           (refine ent_id ?_ ?_ ?_ rfl rfl<;>dsimp only [mpS_kf3,loanV,intV,bolV,partnerL,intL,hk0,id,go_sem,rA,rM,rS]<;>simp [mpS_kf3,loanV,intV,bolV,partnerL,intL,hk0,KFR_iff,KFR_app,KFR,KFL,KF,mtL_same,mtO,nbr])
         · refine br_f (by simpa using q2) ?_
           dsimp only [go_sem,rA,rM,rS]
           rw [show bs+seenS (dTerm pid) b1.debts q=bs+seenS (dTerm pid) b1.debts (q ++ [e.1]) from by rw [hnew];simp only [dTerm,q1,q2,if_false];omega]
           refine ⟨q ++ [e.1],trivial,hlN,?_⟩
           (refine ent_id ?_ ?_ ?_ rfl rfl<;>dsimp only [mpS_kf3,loanV,intV,bolV,partnerL,intL,hk0,id,go_sem,rA,rM,rS]<;>simp [mpS_kf3,loanV,intV,bolV,partnerL,intL,hk0,KFR_iff,KFR_app,KFR,KFL,KF,mtL_same,mtO,nbr])
   refine br_f (by simpa using hlt) ?_
   dsimp only [go_sem,rA,rM,rS]
   have hkl:k=p.partners.length:=by omega
   subst hkl
   refine gh ent_refl ?_
   dsimp only [go_sem,rA,rM,rS]
   refine ⟨_,rfl,?_⟩
   rw [List.take_of_length_le (by rw [hasF_len];exact Nat.le_refl _)]
   try simp only [endO]
   (refine entO_id ?_ ?_ ?_ rfl<;>dsimp only [mpS_kf3,loanV,intV,bolV,partnerL,intL,id,go_sem,rA,rM,rS]<;>simp [mpS_kf3,loanV,intV,bolV,partnerL,intL,KFR_iff,KFR_app,KFR,KFL,KF,mtL_same,mtO,nbr])
 · dsimp only [go_sem,rA,rM,rS]
   refine br_t rfl ?_
   dsimp only [go_sem,rA,rM,rS]
   obtain ⟨hl,hE'⟩:=hE.step hh he hm
   rw [hck]
   refine raw_entry (key:=kI) (val:=loanV) (sv:=sI) (L:=b1.loans) (e:=e) (since:=b.cl) (seen:=seen) (c:=b.cl) rfl rfl rfl hm hE.bk.w1.bn key3 ?_
   dsimp only [go_sem,rA,rM,rS]
   refine callmP [0,1,2,3,4,5] (home_yes hE.bk (by omega) hh e.2.1 p.ends he hl) rfl rfl rfl ?_ ?_ ?_
   · (repeat first | dsimp only [bH,go_sem,rA,rM,rS] | simp only [nbr])
     try simp [mtL,mtB,mtS]
   · (repeat first | dsimp only [bH,go_sem,rA,rM,rS] | simp only [nbr])
     try simp [mpS_kf3,loanV,intV,bolV,partnerL,letterL,KFR_iff,KFL,KF,hck]
   rintro _ rfl
   (repeat first | dsimp only [doneO,bH,go_sem,rA,rM,rS] | simp only [nbr])
   refine ⟨(m+1,homeF p c1 e.2.1 p.ends e.2.2,homeB p c1 b1 e.2.1 p.ends e.2.2,seen ++ [e.1]),hE',?_,?_⟩
   · have:=mdel_len (L:=b1.loans) (k:=e.2.1) (by rw [hE.bk.lo,hl];rfl)
     simp only [homeB];omega
   dsimp only [bH,homeB,go_sem,rA,rM,rS]
   (refine ent_id ?_ ?_ ?_ rfl rfl<;>dsimp only [mpS_kf3,loanV,intV,bolV,partnerL,id,go_sem,rA,rM,rS]<;>simp [mpS_kf3,loanV,intV,bolV,partnerL,KFR_iff,KFR_app,KFR,KFL,KF,mtL_same,mtO,nbr])
end Go.Proofs.Ythilckbkffjliaa
set_option maxRecDepth 100000
set_option maxHeartbeats 4000000
namespace Go.Azalai
open Go.Sx
theorem onceL_len {ends:Int}:∀ {l:List Letter} {seen:List Int},(onceL ends seen l).length≤l.length
 | [],_=>by simp [onceL]
 | x :: l,seen=>by
  have h:=onceL_len (ends:=ends) (l:=l) (seen:=x.id :: seen)
  simp only [onceL]
  split
  · simp;omega
  · simp;omega
theorem readL_len {p:Pact} {l:List Letter}:(readL p l).length≤l.length:=by
 rw [readL,srtL_perm.length_eq];exact onceL_len
theorem readE_0 {p:Pact} {l:List Letter} (h:readE p l=0):okPact p=true∧l.length≤100∧(∀ x ∈ l,okLetter p x=true)∧twoB l=false:=by
 unfold readE at h
 split at h
 · cases h
 rename_i h1
 split at h
 · cases h
 rename_i h2
 split at h
 · cases h
 rename_i h3
 split at h
 · cases h
 rename_i h4
 refine ⟨by simpa using h1,by omega,?_,by simpa using h4⟩
 rw [Bool.not_eq_false] at h3
 exact List.all_eq_true.1 h3
theorem readL_ok {p:Pact} {l:List Letter} (h:readE p l=0):∀ x ∈ readL p l,okLetter p x=true:=fun x hx=>by
 obtain ⟨_,_,h3,h4⟩:=readE_0 h
 exact h3 x ((readL_mem h4).1 hx).1
def settleR (p:Pact) (l:List Letter):List Int:=if readE p l=0 then settleF p (readL p l) else []
def whyRR (p:Pact) (l:List Letter):List Int:=if readE p l=0 then whyL p co0 (readL p l) else []
def badWho (p:Pact) (who other:Int):Bool:=!atP p who || !atP p other || decide (who=other)
def owedR (p:Pact) (l:List Letter) (who other:Int):Int:=if readE p l=0∧badWho p who other=false then (runF p co0 (readL p l)).debts who other else 0
def owedE (p:Pact) (l:List Letter) (who other:Int):Int:=if readE p l=0 then (if badWho p who other=true then 2 else 0) else readE p l
end Go.Azalai
namespace Go.Proofs.Ythilckbkffjliaa
open Go Go.Sx Go.Azalai
def bHo (o:Nat) (p:Pact) (b:Bks):List (Nat × HB):=[(o,.map (mpS kI loanV b.loans) b.cl),(o+1,.map (mpS kI bolV b.dead) b.cd),(o+2,.map (mpS kI bolV b.known) b.ck),(o+3,.map (mpS kP intV b.debts) b.cb),(o+4,.map (mpS kI intV b.extra) b.ce),
 (o+5,.cells [.sl false 3 (p.partners.map partnerL),I p.calf,I p.hire,I p.ends,.mp o,.mp (o+1),.mp (o+2),.mp (o+3),.mp (o+4),I b.result] 103)]
theorem mpS_nil {K V:Type} {key:K→Value} {val:V→SV}:mpS key val ([]:List (Nat × K × V))=[]:=rfl
theorem settled_ok (p:Pact) (hp:okPact p=true) (l:List Letter) (hl:∀ x ∈ l,okLetter p x=true) (h100:l.length≤400) (k:Bool) :
 Ct Try.prog 56 [.agg (pactL p),.sl k 8 (l.map letterL)] (.sl false 1 ((settleF p l).map intL)):=by
 refine t56 (by simp [pactL,partnerL,letterL,KFR_iff,KFL,KF]) (by simp [KFR_iff,intL,KFL,KF]) ?_
 dsimp only [c56,r56,pactL,go_sem,rA,rM,rS]
 refine callmP [] (found_ok p) rfl rfl rfl ?_ ?_ ?_
 · (repeat first | dsimp only [pactL,go_sem,rA,rM,rS] | simp only [nbr])
   try simp [mtL,mtB,mtS,KFR_iff,KFL,KF,partnerL]
 · trivial
 rintro _ rfl
 (repeat first | dsimp only [foundO,go_sem,rA,rM,rS] | simp only [nbr])
 refine callmP [2,3,4,5,6,7] (reas_ok p bks0 l k) rfl rfl rfl ?_ ?_ ?_
 · (repeat first | dsimp only [bH,go_sem,rA,rM,rS] | simp only [nbr])
   try simp [mtL,mtB,mtS,KFR_iff,KFL,KF,letterL]
 · (repeat first | dsimp only [bH,bks0,go_sem,rA,rM,rS] | simp only [nbr])
   try simp [mpS,partnerL,KFR_iff,KFL,KF]
 rintro _ rfl
 (repeat first | dsimp only [rsH,bH,bks0,go_sem,rA,rM,rS] | simp only [nbr])
 refine gh ent_refl ?_
 (repeat first | dsimp only [go_sem,rA,rM,rS] | simp only [nbr])
 refine ⟨b71,fun rec=>?_⟩
 refine y71 ?_
 (repeat first | dsimp only [c71,r71,go_sem,rA,rM,rS] | simp only [nbr])
 refine callmP [] kindsM_ok rfl rfl rfl ?_ ?_ ?_
 · (repeat first | dsimp only [go_sem,rA,rM,rS] | simp only [nbr])
   try simp [mtL,mtB,mtS]
 · trivial
 rintro _ rfl
 (repeat first | dsimp only [go_sem,rA,rM,rS] | simp only [nbr])
 simp only [List.length_map]
 refine loopO (fun s:Nat × Bks=>[(10,I (s.1:Nat))]) (fun s=>bHo 2 p s.2) (fun s=>s.1≤l.length∧BkR s.1 (runF p co0 (l.take s.1)) s.2) (fun s=>l.length - s.1) (0,bks0) ⟨Nat.zero_le _,BkR.start⟩ ?_ ?_
 · dsimp only [bHo,bks0,go_sem,rA,rM,rS]
   (refine ent_id ?_ ?_ ?_ rfl rfl<;>dsimp only [mpS_nil,mpS_kf3,partnerL,letterL,kindV,id,go_sem,rA,rM,rS]<;>simp [mpS_nil,mpS_kf3,partnerL,letterL,kindV,KFR_iff,KFR_app,KFR,KFL,KF,mtL_same,mtO,nbr])
 rintro ⟨j,b⟩ ⟨hj,hb⟩
 simp only at hj hb
 dsimp only [bHo,go_sem,rA,rM,rS]
 by_cases hlt:j < l.length
 · refine br_t (by simpa using hlt) ?_
   dsimp only [go_sem,rA,rM,rS]
   refine ixs_map j hlt rfl ?_
   dsimp only [letterL,go_sem,rA,rM,rS]
   have hx:=hl l[j] (List.getElem_mem _)
   obtain ⟨ka,kb',hkg⟩:=kind_get (okL_kind hx)
   refine raw_get (key:=kB) (val:=kindV) (sv:=fun n=>.v (kB n)) (L:=kindsL) (k:=l[j].kind) (zs:=zk) rfl rfl u120 key5 rfl zero126 zk_R (fun v hg=>?_) (fun hg=>?_)
   case refine_2=>rw [hkg] at hg;cases hg
   rw [hkg] at hg
   cases hg
   dsimp only [kindV,go_sem,rA,rM,rS]
   refine callmP [2,3,4,5,6,7] (try_ok hb (by omega) hp l[j] hx) rfl rfl rfl ?_ ?_ ?_
   · (repeat first | dsimp only [bH,go_sem,rA,rM,rS] | simp only [nbr])
     try simp [mtL,mtB,mtS,letterL]
   · (repeat first | dsimp only [bH,go_sem,rA,rM,rS] | simp only [nbr])
     try simp [mpS_kf3,loanV,intV,bolV,partnerL,letterL,KFR_iff,KFL,KF]
   rintro _ ⟨b2,hb2,rfl⟩
   (repeat first | dsimp only [whyO,bH,go_sem,rA,rM,rS] | simp only [nbr])
   refine ⟨trivial,trivial,?_⟩
   (repeat first | dsimp only [go_sem,rA,rM,rS] | simp only [nbr])
   refine ⟨trivial,?_⟩
   refine br_f rfl ?_
   (repeat first | dsimp only [go_sem,rA,rM,rS] | simp only [nbr])
   rw [w64_in (n:=(j:Int)+1) (by omega) (by omega)]
   refine ⟨(j+1,b2),⟨hlt,by rw [run_take hlt];exact hb2⟩,by simp only;omega,?_⟩
   dsimp only [bHo,go_sem,rA,rM,rS]
   (refine ent_id ?_ ?_ ?_ rfl rfl<;>dsimp only [mpS_kf3,partnerL,letterL,kindV,loanV,intV,bolV,id,go_sem,rA,rM,rS]<;>simp [mpS_kf3,partnerL,letterL,kindV,loanV,intV,bolV,KFR_iff,KFR_app,KFR,KFL,KF,mtL_same,mtO,nbr])
 refine br_f (by simpa using hlt) ?_
 dsimp only [go_sem,rA,rM,rS]
 have hjl:j=l.length:=by omega
 subst hjl
 rw [List.take_length] at hb
 have hc:=CoOk.run (p:=p) CoOk.co0 hl
 have hd:=DbOk.run (p:=p) DbOk.co0 hl
 (repeat first | dsimp only [go_sem,rA,rM,rS] | simp only [nbr])
 refine callmP [2,3,4,5,6,7] (end_ok hp hb h100 hc hd) rfl rfl rfl ?_ ?_ ?_
 · (repeat first | dsimp only [bH,go_sem,rA,rM,rS] | simp only [nbr])
   try simp [mtL,mtB,mtS,letterL]
 · (repeat first | dsimp only [bH,go_sem,rA,rM,rS] | simp only [nbr])
   try simp [mpS_kf3,loanV,intV,bolV,partnerL,letterL,KFR_iff,KFL,KF]
 rintro _ rfl
 (repeat first | dsimp only [endO,go_sem,rA,rM,rS] | simp only [nbr])
 rfl
theorem u29 {args:List SV} {res:SV} (ka:KFL args) (kr:KF res) (h:sx Try.prog Y0 0 c29 (st0 args 20) (retW r29 res)) (hA:Nat.ble args.length 20=true:=by rfl):Ct Try.prog 29 args res:=ct_introW Try.func29 rfl b29 c29_ok r29_ok n29 (Nat.le_of_ble_eq_true hA) ka kr h
theorem settle_ok (p:Pact) (l:List Letter) (hs:smallP p) (hl:l.length≤1000) (c:Bool):Ct Try.prog 29 [.agg (pactL p),.sl c 8 (l.map letterL)] (.tup [.sl false 1 ((settleR p l).map intL),I (readE p l)]):=by
 refine u29 (by simp [pactL,partnerL,letterL,KFR_iff,KFL,KF]) (by simp [KFR_iff,intL,KFL,KF]) ?_
 dsimp only [c29,r29,pactL,go_sem,rA,rM,rS]
 refine call (read_ok p l hs hl c) ?_
 dsimp only [go_sem,rA,rM,rS]
 by_cases h0:readE p l=0
 case neg =>
  refine br_t (by simpa using h0) ?_
  dsimp only [go_sem,rA,rM,rS]
  refine ⟨_,rfl,?_⟩
  rw [settleR,if_neg h0]
  exact weak_tup (weak_cons weak_nil fun _ _ _ _ _ h=>h)
 refine br_f (by simpa using h0) ?_
 dsimp only [go_sem,rA,rM,rS]
 obtain ⟨hp,h100,-,-⟩:=readE_0 h0
 have hr:readR p l=readL p l:=by rw [readR,if_pos h0]
 have hlen:=readL_len (p:=p) (l:=l)
 rw [hr]
 refine call (settled_ok p hp (readL p l) (readL_ok h0) (by omega) false) ?_
 dsimp only [go_sem,rA,rM,rS]
 refine ⟨_,rfl,?_⟩
 rw [settleR,if_pos h0,h0]
 exact Weak.rfl
theorem u24 {args:List SV} {res:SV} (ka:KFL args) (kr:KF res) (h:sx Try.prog Y0 0 c24 (st0 args 22) (retW r24 res)) (hA:Nat.ble args.length 22=true:=by rfl):Ct Try.prog 24 args res:=ct_introW Try.func24 rfl b24 c24_ok r24_ok n24 (Nat.le_of_ble_eq_true hA) ka kr h
theorem Read_ok (p:Pact) (l:List Letter) (hs:smallP p) (hl:l.length≤1000) (c:Bool):Ct Try.prog 24 [.agg (pactL p),.sl c 8 (l.map letterL)] (.tup [.sl false 8 ((readR p l).map letterL),.sl false 1 ((whyRR p l).map u8L),I (readE p l)]):=by
 refine u24 (by simp [pactL,partnerL,letterL,KFR_iff,KFL,KF]) (by simp [KFR_iff,letterL,u8L,KFL,KF]) ?_
 dsimp only [c24,r24,pactL,go_sem,rA,rM,rS]
 refine call (read_ok p l hs hl c) ?_
 dsimp only [go_sem,rA,rM,rS]
 by_cases h0:readE p l=0
 case neg =>
  refine br_t (by simpa using h0) ?_
  dsimp only [go_sem,rA,rM,rS]
  refine ⟨_,rfl,?_⟩
  rw [readR,whyRR,if_neg h0,if_neg h0]
  exact weak_tup (weak_cons weak_nil (weak_cons weak_nil fun _ _ _ _ _ h=>h))
 refine br_f (by simpa using h0) ?_
 dsimp only [go_sem,rA,rM,rS]
 obtain ⟨hp,h100,-,-⟩:=readE_0 h0
 have hr:readR p l=readL p l:=by rw [readR,if_pos h0]
 have hlen:=readL_len (p:=p) (l:=l)
 have hw:whyRR p l=whyL p co0 (readL p l):=by rw [whyRR,if_pos h0]
 rw [hr,hw,h0]
 have hX:=readL_ok h0
 generalize readL p l=X at *
 refine callmP [] (found_ok p) rfl rfl rfl ?_ ?_ ?_
 · (repeat first | dsimp only [pactL,go_sem,rA,rM,rS] | simp only [nbr])
   try simp [mtL,mtB,mtS,KFR_iff,KFL,KF,partnerL]
 · trivial
 rintro _ rfl
 (repeat first | dsimp only [foundO,go_sem,rA,rM,rS] | simp only [nbr])
 refine callmP [2,3,4,5,6,7] (reas_ok p bks0 X false) rfl rfl rfl ?_ ?_ ?_
 · (repeat first | dsimp only [bH,go_sem,rA,rM,rS] | simp only [nbr])
   try simp [mtL,mtB,mtS,KFR_iff,KFL,KF,letterL]
 · (repeat first | dsimp only [bH,bks0,go_sem,rA,rM,rS] | simp only [nbr])
   try simp [mpS,partnerL,KFR_iff,KFL,KF]
 rintro _ rfl
 (repeat first | dsimp only [rsH,bH,bks0,go_sem,rA,rM,rS] | simp only [nbr])
 refine callmP [2,3,4,5,6,7,8,9] (coll_ok p hp X hX (by omega) false) rfl rfl rfl ?_ ?_ ?_
 · (repeat first | dsimp only [go_sem,rA,rM,rS] | simp only [nbr])
   try simp [mtL,mtB,mtS]
 · (repeat first | dsimp only [rsH,bH,bks0,go_sem,rA,rM,rS] | simp only [nbr])
   try simp [mpS,partnerL,KFR_iff,KFL,KF,letterL]
 rintro _ ⟨b,hb,rfl⟩
 (repeat first | dsimp only [colO,rsH,bH,go_sem,rA,rM,rS] | simp only [nbr])
 refine ⟨_,rfl,?_⟩
 exact Weak.rfl
end Go.Proofs.Ythilckbkffjliaa
set_option maxRecDepth 100000
set_option maxHeartbeats 4000000
namespace Go.Proofs.Ythilckbkffjliaa
open Go Go.Sx Go.Azalai
theorem owed_ok (p:Pact) (l:List Letter) (who other:Int) (hs:smallP p) (hl:l.length≤1000) (c:Bool):Ct Try.prog 26 [.agg (pactL p),.sl c 8 (l.map letterL),I who,I other] (.tup [I (owedR p l who other),I (owedE p l who other)]):=by
 refine t26 (by simp [pactL,partnerL,letterL,KFR_iff,KFL,KF]) (by simp [KFL,KF]) ?_
 dsimp only [c26,r26,pactL,go_sem,rA,rM,rS]
 refine call (read_ok p l hs hl c) ?_
 dsimp only [go_sem,rA,rM,rS]
 by_cases h0:readE p l=0
 case neg =>
  refine br_t (by simpa using h0) ?_
  dsimp only [go_sem,rA,rM,rS]
  simp [owedR,owedE,h0]
 refine br_f (by simpa using h0) ?_
 dsimp only [go_sem,rA,rM,rS]
 obtain ⟨hp,h100,-,-⟩:=readE_0 h0
 have hlen:=readL_len (p:=p) (l:=l)
 refine call (at_ok p who hs) ?_
 dsimp only [go_sem,rA,rM,rS]
 repeat (first | (refine gb ?_;dsimp only [go_sem,rA,rM,rS]) | (refine call (at_ok p other hs) ?_;dsimp only [go_sem,rA,rM,rS]))
 have g1:=atF_ge p who
 have g2:=atF_ge p other
 have e1:decide (atF p who < 0) = !atP p who:=by rw [← g1];by_cases q:atF p who < 0<;>simp [q]<;>omega
 have e2:decide (atF p other < 0) = !atP p other:=by rw [← g2];by_cases q:atF p other < 0<;>simp [q]<;>omega
 by_cases hb:badWho p who other=true
 · refine br_t ?_ ?_
   · simp only [badWho] at hb;rw [e1,e2];revert hb;cases atP p who<;>cases atP p other<;>simp
   dsimp only [go_sem,rA,rM,rS]
   simp [owedR,owedE,h0,hb]
 refine br_f ?_ ?_
 · rw [Bool.not_eq_true] at hb
   simp only [badWho] at hb;rw [e1,e2];revert hb;cases atP p who<;>cases atP p other<;>simp
 dsimp only [go_sem,rA,rM,rS]
 have hr:readR p l=readL p l:=by rw [readR,if_pos h0]
 rw [Bool.not_eq_true] at hb
 have hw:owedR p l who other=(runF p co0 (readL p l)).debts who other:=by rw [owedR,if_pos ⟨h0,hb⟩]
 have he:owedE p l who other=0:=by simp [owedE,h0,hb]
 rw [hr,hw,he]
 have hX:=readL_ok h0
 generalize readL p l=X at *
 refine callmP [] (found_ok p) rfl rfl rfl ?_ ?_ ?_
 · (repeat first | dsimp only [pactL,go_sem,rA,rM,rS] | simp only [nbr])
   try simp [mtL,mtB,mtS,KFR_iff,KFL,KF,partnerL]
 · trivial
 rintro _ rfl
 (repeat first | dsimp only [foundO,go_sem,rA,rM,rS] | simp only [nbr])
 refine callmP [2,3,4,5,6,7] (reas_ok p bks0 X false) rfl rfl rfl ?_ ?_ ?_
 · (repeat first | dsimp only [bH,go_sem,rA,rM,rS] | simp only [nbr])
   try simp [mtL,mtB,mtS,KFR_iff,KFL,KF,letterL]
 · (repeat first | dsimp only [bH,bks0,go_sem,rA,rM,rS] | simp only [nbr])
   try simp [mpS,partnerL,KFR_iff,KFL,KF]
 rintro _ rfl
 (repeat first | dsimp only [rsH,bH,bks0,go_sem,rA,rM,rS] | simp only [nbr])
 refine gh ent_refl ?_
 (repeat first | dsimp only [go_sem,rA,rM,rS] | simp only [nbr])
 refine ⟨b71,fun rec=>?_⟩
 refine y71 ?_
 (repeat first | dsimp only [c71,r71,go_sem,rA,rM,rS] | simp only [nbr])
 refine callmP [] kindsM_ok rfl rfl rfl ?_ ?_ ?_
 · (repeat first | dsimp only [go_sem,rA,rM,rS] | simp only [nbr])
   try simp [mtL,mtB,mtS]
 · trivial
 rintro _ rfl
 (repeat first | dsimp only [go_sem,rA,rM,rS] | simp only [nbr])
 simp only [List.length_map]
 refine loopO (fun s:Nat × Bks=>[(10,I (s.1:Nat))]) (fun s=>bHo 2 p s.2) (fun s=>s.1≤X.length∧BkR s.1 (runF p co0 (X.take s.1)) s.2) (fun s=>X.length - s.1) (0,bks0) ⟨Nat.zero_le _,BkR.start⟩ ?_ ?_
 · dsimp only [bHo,bks0,go_sem,rA,rM,rS]
   (refine ent_id ?_ ?_ ?_ rfl rfl<;>dsimp only [mpS_nil,mpS_kf3,partnerL,letterL,kindV,id,go_sem,rA,rM,rS]<;>simp [mpS_nil,mpS_kf3,partnerL,letterL,kindV,KFR_iff,KFR_app,KFR,KFL,KF,mtL_same,mtO,nbr])
 rintro ⟨j,b⟩ ⟨hj,hb⟩
 simp only at hj hb
 dsimp only [bHo,go_sem,rA,rM,rS]
 by_cases hlt:j < X.length
 · refine br_t (by simpa using hlt) ?_
   dsimp only [go_sem,rA,rM,rS]
   refine ixs_map j hlt rfl ?_
   dsimp only [letterL,go_sem,rA,rM,rS]
   have hx:=hX X[j] (List.getElem_mem _)
   obtain ⟨ka,kb',hkg⟩:=kind_get (okL_kind hx)
   refine raw_get (key:=kB) (val:=kindV) (sv:=fun n=>.v (kB n)) (L:=kindsL) (k:=X[j].kind) (zs:=zk) rfl rfl u120 key5 rfl zero126 zk_R (fun v hg=>?_) (fun hg=>?_)
   case refine_2=>rw [hkg] at hg;cases hg
   rw [hkg] at hg
   cases hg
   dsimp only [kindV,go_sem,rA,rM,rS]
   refine callmP [2,3,4,5,6,7] (try_ok hb (by omega) hp X[j] hx) rfl rfl rfl ?_ ?_ ?_
   · (repeat first | dsimp only [bH,go_sem,rA,rM,rS] | simp only [nbr])
     try simp [mtL,mtB,mtS,letterL]
   · (repeat first | dsimp only [bH,go_sem,rA,rM,rS] | simp only [nbr])
     try simp [mpS_kf3,loanV,intV,bolV,partnerL,letterL,KFR_iff,KFL,KF]
   rintro _ ⟨b2,hb2,rfl⟩
   (repeat first | dsimp only [whyO,bH,go_sem,rA,rM,rS] | simp only [nbr])
   refine ⟨trivial,trivial,?_⟩
   (repeat first | dsimp only [go_sem,rA,rM,rS] | simp only [nbr])
   refine ⟨trivial,?_⟩
   refine br_f rfl ?_
   (repeat first | dsimp only [go_sem,rA,rM,rS] | simp only [nbr])
   rw [w64_in (n:=(j:Int)+1) (by omega) (by omega)]
   refine ⟨(j+1,b2),⟨hlt,by rw [run_take hlt];exact hb2⟩,by simp only;omega,?_⟩
   dsimp only [bHo,go_sem,rA,rM,rS]
   (refine ent_id ?_ ?_ ?_ rfl rfl<;>dsimp only [mpS_kf3,partnerL,letterL,kindV,loanV,intV,bolV,id,go_sem,rA,rM,rS]<;>simp [mpS_kf3,partnerL,letterL,kindV,loanV,intV,bolV,KFR_iff,KFR_app,KFR,KFL,KF,mtL_same,mtO,nbr])
 refine br_f (by simpa using hlt) ?_
 dsimp only [go_sem,rA,rM,rS]
 have hjl:j=X.length:=by omega
 subst hjl
 rw [List.take_length] at hb
 have hdb:=hb.db who other
 refine raw_get (key:=kP) (val:=intV) (sv:=sP) (L:=b.debts) (k:=(who,other)) (zs:=intV 0) rfl rfl u100 key105 rfl zero3 iz_R (fun v hg=>?_) (fun hg=>?_)
 · rw [hg] at hdb
   dsimp only [intV,go_sem,rA,rM,rS]
   rw [← hdb];rfl
 · rw [hg] at hdb
   dsimp only [intV,go_sem,rA,rM,rS]
   rw [← hdb];rfl
end Go.Proofs.Ythilckbkffjliaa
namespace Go.Sx
open Go Go.RowKit
theorem raw_bin2 {P:Program} {d:Option Nat} {op:BinOp} {t t' ty:TypeId} {ax bx:Operand} {x y v:Value} {σ : St} {r:KT} {K:RK} (ha:oprS σ ax = .v x) (hb:oprS σ bx = .v y) (hop:op = .and∨op = .shr∨op = .shl) (hr:∀ w:World,(binOp op t x y).run P w = .ok v w) (hk:putK d (.v v) none σ r K) :
 RAW P d (.binOp op t ax bx t') ty σ r K:=by
 intro o C E a w next Q e1 e2 e3 hS hn hq
 have hx:=opr_R hS ha (fun _ _ _=>by simp)
 have hy:=opr_R hS hb (fun _ _ _=>by simp)
 simp only [R] at hx hy
 have hrun:(execOp a.eval o).run P w = .ok (.value v) w:=by
  obtain ⟨dst',op',ty',pos,after,guard⟩:=o
  simp only at e2;subst e2
  simp only [execOp,hx,hy]
  rcases hop with rfl | rfl | rfl<;>simp [Sem.run_bind,eqGuard,hr]
 refine wpq_res hrun (by simp) ?_
 show next (a.put o.dst v) w
 rw [e1]
 exact put_go0 hk hS (by simp only [R]) hn
end Go.Sx
