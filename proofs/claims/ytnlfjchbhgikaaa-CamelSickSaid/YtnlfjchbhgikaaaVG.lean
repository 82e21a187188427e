/- Walks and plain laws that lead to the given statement, part 7 of 8. -/
import Derived.Test.YtnlfjchbhgikaaaVF
open Nat renaming reduceAdd→rA,reduceMul→rM,reduceSub→rS,beq_refl→nbr
set_option maxRecDepth 100000
set_option maxHeartbeats 4000000
namespace Go.Proofs.Ytnlfjchbhgikaaa
open Go Go.Sx Go.Azalai
def cbL (x:Int):List SV:=[B (cB x)]
theorem pickS_ok (s:Span) (n:Int) (h1:0 ≤ s.lo) (h2:s.lo ≤ s.hi) (h3:s.hi ≤ 1000000000) (hn:0 ≤ n ∧ n < 4294967296):Ct Try.prog 44 [.agg [I s.lo,I s.hi],U32 n] (I (pickF s n)):=by
 refine t44 (by simp [U32,KFL,KF]) (by simp [KFL,KF]) ?_
 dsimp only [c44,r44,U32,go_sem,rA,rM,rS]
 rw [w64_in (n:=n) (by omega) (by omega),w64_in (n:=s.hi - s.lo) (by omega) (by omega),w64_in (n:=s.hi - s.lo + 1) (by omega) (by omega)]
 refine div0 (by omega) ?_
 dsimp only [go_sem,rA,rM,rS]
 simp only [divr]
 have hr:0 ≤ n.tmod (s.hi - s.lo + 1) ∧ n.tmod (s.hi - s.lo + 1) < s.hi - s.lo + 1:=⟨Int.tmod_nonneg _ (by omega),Int.tmod_lt_of_pos _ (by omega)⟩
 unfold pickF
 generalize n.tmod (s.hi - s.lo + 1) = r at *
 rw [w64_in (n:=s.lo + r) (by omega) (by omega)]
theorem atS_ok (l:List W32) (i:Int) (k:Nat) (h:i = k) (hl:l.length ≤ 9223372036854775807) (hi:k ≤ 1000000) (c:Bool):Ct Try.prog 45 [.sl c 1 (l.map w32L),I i] (U32 (atF l k)):=by
 rw [h];exact at_ok l k hl hi c
theorem sick_final {x y g day:Int} (h1:g ≤ day → x ≤ day) (h2:y ≤ day → g ≤ day):(0 ≤ knF day x y ∧ knF day x y ≤ 2) ∧ (knF day x y = 2 → g ≤ day) ∧ (knF day x y = 0 → ¬ g ≤ day):=by
 unfold knF
 split
 · refine ⟨by omega,by omega,fun _ h=>?_⟩;have:=h1 h;omega
 · split
   · exact ⟨by omega,fun _=>h2 (by assumption),by omega⟩
   · exact ⟨by omega,by omega,by omega⟩
theorem sickLaw_ok (n:Int) (first:List Int) (meets:List Meet) (wait:Span) (day:Int) (ns:List W32) (hl1:first.length ≤ 9223372036854775807) (hl2:meets.length ≤ 9223372036854775807) (hl3:ns.length ≤ 9223372036854775807):Ct Try.prog 10 [I n,.sl false 1 (first.map intL),.sl false 4 (meets.map meetL),.agg (spanL wait),I day,.sl false 1 (ns.map w32L)] (B true):=by
 refine t10 (by simp [meetL,KFR_iff,intL,spanL,w32L,U32,KFL,KF]) (by simp [KFL,KF]) ?_
 dsimp only [c10,r10,spanL,go_sem,rA,rM,rS]
 refine call alive_ok ?_
 dsimp only [go_sem,rA,rM,rS]
 refine br_f rfl ?_
 dsimp only [go_sem,rA,rM,rS]
 refine call (meetsR_ok n first meets wait day false false) ?_
 dsimp only [go_sem,rA,rM,rS]
 by_cases hE:meetsE n first meets wait day = 0
 case neg =>
  refine br_t (by simpa using hE) ?_
  dsimp only [go_sem,rA,rM,rS]
 refine br_f (by simpa using hE) ?_
 dsimp only [go_sem,rA,rM,rS]
 obtain ⟨hn,hw,hd,hf1,hm1,hf,hm⟩:=meetsE_0 hE
 obtain ⟨k,rfl⟩:∃ k:Nat,n = k:=⟨n.toNat,by omega⟩
 refine call (mange_ok k first meets wait day false false (by omega) (by omega)) ?_
 rw [show rowsK (meetsE k first meets wait day) (mangeK k first meets wait day) = .sl false 1 ((mangeK k first meets wait day).map u8L) from by simp [rowsK,hE],hE]
 dsimp only [go_sem,rA,rM,rS]
 repeat (refine gb ?_;dsimp only [go_sem,rA,rM,rS])
 have A:=fun (i:Nat) (hi:i < k)=>kn_sick hE hi
 have l0:=mangeK_len k first meets wait day
 generalize mangeK k first meets wait day = L0 at A l0
 simp only [List.length_map,l0]
 refine br_f (by simp) ?_
 dsimp only [go_sem,rA,rM,rS]
 refine ⟨k,rfl,by omega,?_⟩
 dsimp only [go_sem,rA,rM,rS]
 refine ⟨k,rfl,by omega,?_⟩
 dsimp only [lit,go_sem,rA,rM,rS]
 rw [show List.replicate k [SV.v (Value.int IntKind.i64 0)] = (List.replicate k (0:Int)).map intL from by simp [intL],show List.replicate k [SV.v (Value.bool false)] = (List.replicate k wellD).map cbL from by simp [cbL,cB]]
 have hz0:(List.replicate k (0:Int)).length = k:=by simp
 generalize List.replicate k (0:Int) = z0 at hz0
 obtain ⟨zc,hzc⟩:∃ zc,zc = List.replicate k wellD:=⟨_,rfl⟩
 rw [← hzc]
 simp only [List.length_map,hz0]
 refine loopO (fun z:Nat × List Int=>[(69,I z.1)]) (fun z=>[(1,.row 0 1 (z.2.map intL) 3)]) (fun z=>z.1 ≤ k ∧ z.2.length = k ∧ ∀ p:Nat,p < z.1 → z.2[p]? = some wellD) (fun z=>k - z.1) (0,z0) ⟨Nat.zero_le _,hz0,fun p hp=>by simp at hp⟩ ?_ ?_
 · (refine ent_id ?_ ?_ ?_ rfl rfl <;> dsimp only [meetL,intL,u8L,U8,w32L,U32,cbL,id,go_sem,rA,rM,rS] <;> simp [meetL,intL,u8L,U8,w32L,U32,cbL,KFR_iff,KFR_app,KFR,KFL,KF,mtL_same,mtO,nbr])
 rintro ⟨j,z⟩ ⟨hj,hz,hp⟩
 simp only at hj hz hp
 dsimp only [go_sem,rA,rM,rS]
 by_cases hlt:j < k
 · refine br_t (by simpa using hlt) ?_
   dsimp only [go_sem,rA,rM,rS]
   refine ixrm j rfl (by simp;omega) ?_
   dsimp only [go_sem,rA,rM,rS]
   refine strm wellD (by omega) (by simp [intL]) (by simp [intL,splice,wellD]) ?_
   dsimp only [go_sem,rA,rM,rS]
   rw [w64_in (n:=(j:Int) + 1) (by omega) (by omega)]
   refine ⟨(j + 1,z.set j wellD),⟨hlt,by simp [hz],fun p hpj=>?_⟩,by simp only;omega,?_⟩
   · by_cases he:p = j
     · subst he;rw [List.getElem?_set_self (by omega)]
     · rw [List.getElem?_set_ne (Ne.symm he)];exact hp p (by omega)
   generalize z.set j wellD = z2
   (refine ent_id ?_ ?_ ?_ rfl rfl <;> dsimp only [meetL,intL,u8L,U8,w32L,U32,cbL,id,go_sem,rA,rM,rS] <;> simp [meetL,intL,u8L,U8,w32L,U32,cbL,KFR_iff,KFR_app,KFR,KFL,KF,mtL_same,mtO,nbr])
 refine br_f (by simp;omega) ?_
 dsimp only [go_sem,rA,rM,rS]
 have hzw:z = List.replicate k wellD:=all_well hz (fun p h=>hp p (by omega))
 rw [← hzc] at hzw
 have hbs:zc.length = k:=by rw [← hzw];exact hz
 rw [hzw]
 clear hp hz hz0 hzw
 refine gh ent_refl ?_
 dsimp only [go_sem,rA,rM,rS]
 refine loopO (fun z:Nat × List Int=>[(78,I z.1)]) (fun z=>[(1,.row 0 1 (z.2.map intL) 3),(2,.row 0 1 (z.2.map cbL) 4)]) (fun z=>z.1 ≤ first.length ∧ z.2.length = k ∧ baseF (first.drop z.1) z.2 = baseF first zc) (fun z=>first.length - z.1) (0,zc) ⟨Nat.zero_le _,hbs,by simp⟩ ?_ ?_
 · (refine ent_id ?_ ?_ ?_ rfl rfl <;> dsimp only [meetL,intL,u8L,U8,w32L,U32,cbL,id,go_sem,rA,rM,rS] <;> simp [meetL,intL,u8L,U8,w32L,U32,cbL,KFR_iff,KFR_app,KFR,KFL,KF,mtL_same,mtO,nbr])
 rintro ⟨j,s⟩ ⟨hj,hs,hb⟩
 simp only at hj hs hb
 dsimp only [go_sem,rA,rM,rS]
 simp only [List.length_map]
 by_cases hlt2:j < first.length
 · refine br_t (by simpa using hlt2) ?_
   (repeat first | dsimp only [go_sem,rA,rM,rS] | simp only [nbr])
   refine ixs_map j hlt2 rfl ?_
   (repeat first | dsimp only [intL,go_sem,rA,rM,rS] | simp only [nbr])
   have hfk:=hf first[j] (List.getElem_mem _)
   obtain ⟨p,hp⟩:∃ p:Nat,first[j] = (p:Int):=⟨first[j].toNat,by omega⟩
   rw [List.drop_eq_getElem_cons hlt2,hp] at hb
   rw [hp] at hfk
   rw [hp]
   refine ixrm p rfl (by simp;omega) ?_
   (repeat first | dsimp only [go_sem,rA,rM,rS] | simp only [nbr])
   refine strm (0:Int) (by omega) (by simp [intL]) (by simp [intL,splice]) ?_
   (repeat first | dsimp only [go_sem,rA,rM,rS] | simp only [nbr])
   refine ixrm p rfl (by simp;omega) ?_
   (repeat first | dsimp only [go_sem,rA,rM,rS] | simp only [nbr])
   refine strm (0:Int) (by omega) (by simp [cbL]) (by simp [cbL,splice,cB,wellD]) ?_
   (repeat first | dsimp only [go_sem,rA,rM,rS] | simp only [nbr])
   rw [w64_in (n:=(j:Int) + 1) (by omega) (by omega)]
   refine ⟨(j + 1,s.set p 0),⟨hlt2,by simp [hs],by simpa [baseF] using hb⟩,by simp only;omega,?_⟩
   generalize s.set p 0 = s2
   (refine ent_id ?_ ?_ ?_ rfl rfl <;> dsimp only [meetL,intL,u8L,U8,w32L,U32,cbL,id,go_sem,rA,rM,rS] <;> simp [meetL,intL,u8L,U8,w32L,U32,cbL,KFR_iff,KFR_app,KFR,KFL,KF,mtL_same,mtO,nbr])
 refine br_f (by simp;omega) ?_
 dsimp only [go_sem,rA,rM,rS]
 rw [show j = first.length from by omega,List.drop_length] at hb
 simp only [baseF] at hb
 have hS:=SickI.start (meets:=meets) (lo:=wait.lo) (hi:=wait.hi) hf (by omega)
 rw [← hzc,← hb] at hS
 clear hb hzc
 refine gh ent_refl ?_
 dsimp only [go_sem,rA,rM,rS]
 refine loopG (ent_nilslot 21 1 3 rfl rfl) (fun z:Nat × Nat=>[(91,I z.1),(21,.mr 3 z.2)]) (fun z=>[(3,.row z.2 1 ((((meets.take z.1).filter fun m=>decide (m.day ≤ day)).map (·.day)).map intL) 3)]) (fun z=>z.1 ≤ meets.length) (fun z=>meets.length - z.1) (0,0) (Nat.zero_le _) ?_ ?_
 · (refine ent_id ?_ ?_ ?_ rfl rfl <;> dsimp only [meetL,intL,u8L,U8,w32L,U32,cbL,id,go_sem,rA,rM,rS] <;> simp [meetL,intL,u8L,U8,w32L,U32,cbL,KFR_iff,KFR_app,KFR,KFL,KF,mtL_same,mtO,nbr])
 rintro ⟨q,v⟩ hq
 simp only at hq
 dsimp only [go_sem,rA,rM,rS]
 simp only [List.length_map]
 by_cases hlt3:q < meets.length
 · refine br_t (by simpa using hlt3) ?_
   (repeat first | dsimp only [go_sem,rA,rM,rS] | simp only [nbr])
   refine ixs_map q hlt3 rfl ?_
   (repeat first | dsimp only [meetL,go_sem,rA,rM,rS] | simp only [nbr])
   have htk:meets.take (q + 1) = meets.take q ++ [meets[q]]:=(List.take_append_getElem hlt3).symm
   have hfl:(((meets.take q).filter fun m=>decide (m.day ≤ day)).map (·.day)).length ≤ q:=by
    rw [List.length_map];exact Nat.le_trans (List.length_filter_le _ _) (by simp;omega)
   have hnx:((meets.take (q + 1)).filter fun m=>decide (m.day ≤ day)).map (·.day) = ((meets.take q).filter fun m=>decide (m.day ≤ day)).map (·.day) ++ if meets[q].day ≤ day then [meets[q].day] else []:=by
    rw [htk,List.filter_append,List.map_append]
    split <;> rename_i h <;> simp [h]
   generalize meets[q] = m at htk hnx
   by_cases hd:m.day ≤ day
   · rw [if_pos hd] at hnx
     refine br_t (by simpa using hd) ?_
     (repeat first | dsimp only [go_sem,rA,rM,rS] | simp only [nbr])
     refine ⟨(by intro c hc;simp only [List.mem_singleton] at hc;subst hc;rfl),by simp only [List.length_map] at hfl ⊢;simp only [List.length_cons,List.length_nil];omega,?_⟩
     (repeat first | dsimp only [go_sem,rA,rM,rS] | simp only [nbr])
     rw [w64_in (n:=(q:Int) + 1) (by omega) (by omega)]
     refine ⟨(q + 1,v + 1),hlt3,by simp only;omega,?_⟩
     simp only [hnx]
     rw [List.map_append]
     generalize ((meets.take q).filter fun m=>decide (m.day ≤ day)).map (·.day) = z3
     (refine ent_id ?_ ?_ ?_ rfl rfl <;> dsimp only [meetL,intL,u8L,U8,w32L,U32,cbL,id,go_sem,rA,rM,rS] <;> simp [meetL,intL,u8L,U8,w32L,U32,cbL,KFR_iff,KFR_app,KFR,KFL,KF,mtL_same,mtO,nbr])
   · rw [if_neg hd] at hnx
     refine br_f (by simpa using hd) ?_
     (repeat first | dsimp only [go_sem,rA,rM,rS] | simp only [nbr])
     rw [w64_in (n:=(q:Int) + 1) (by omega) (by omega)]
     refine ⟨(q + 1,v),hlt3,by simp only;omega,?_⟩
     simp only [hnx,List.append_nil]
     generalize ((meets.take q).filter fun m=>decide (m.day ≤ day)).map (·.day) = z3
     (refine ent_id ?_ ?_ ?_ rfl rfl <;> dsimp only [meetL,intL,u8L,U8,w32L,U32,cbL,id,go_sem,rA,rM,rS] <;> simp [meetL,intL,u8L,U8,w32L,U32,cbL,KFR_iff,KFR_app,KFR,KFL,KF,mtL_same,mtO,nbr])
 refine br_f (by simp;omega) ?_
 dsimp only [go_sem,rA,rM,rS]
 rw [show q = meets.length from by omega,List.take_length]
 have hlen0:((meets.filter fun m=>decide (m.day ≤ day)).map (·.day)).length ≤ 200:=by
  rw [List.length_map];exact Nat.le_trans (List.length_filter_le _ _) hm1
 have hdz:∀ x ∈ ((meets.filter fun m=>decide (m.day ≤ day)).map (·.day)),0 ≤ x ∧ x ≤ 100000:=fun x hx=>by
  obtain ⟨m,hm',rfl⟩:=List.mem_map.1 hx
  have:=hm m (List.mem_filter.1 hm').1
  unfold okM at this;omega
 obtain ⟨zd,hzd⟩:∃ z,z = (meets.filter fun m=>decide (m.day ≤ day)).map (·.day):=⟨_,rfl⟩
 rw [← hzd]
 rw [← hzd] at hlen0 hdz
 refine gh ent_refl ?_
 (repeat first | dsimp only [go_sem,rA,rM,rS] | simp only [nbr])
 simp only [List.length_map]
 refine loopO (fun z:Nat × List Int=>[(107,I z.1)]) (fun z=>[(3,.row v 1 (z.2.map intL) 3)]) (fun z=>z.1 ≤ zd.length ∧ PIn 0 zd.length zd z.2 ∧ Srt (fun x:Int=>x) 0 z.1 z.2) (fun z=>zd.length - z.1) (0,zd) ⟨Nat.zero_le _,.refl _ _ _,fun i j h1 h2 h3=>by omega⟩ ?_ ?_
 · (refine ent_id ?_ ?_ ?_ rfl rfl <;> dsimp only [meetL,intL,u8L,U8,w32L,U32,cbL,id,go_sem,rA,rM,rS] <;> simp [meetL,intL,u8L,U8,w32L,U32,cbL,KFR_iff,KFR_app,KFR,KFL,KF,mtL_same,mtO,nbr])
 rintro ⟨i,z⟩ ⟨hi,hpz,hsz⟩
 simp only at hi hpz hsz
 have hzl:=hpz.len
 dsimp only [go_sem,rA,rM,rS]
 by_cases hib:i < zd.length
 · refine br_t (by simpa using hib) ?_
   (repeat first | dsimp only [go_sem,rA,rM,rS] | simp only [nbr])
   refine loopO (fun s:Nat × List Int=>[(25,I (s.1:Nat))]) (fun s=>[(3,.row v 1 (s.2.map intL) 3)]) (fun s=>s.1 ≤ i ∧ PIn 0 zd.length zd s.2 ∧ Ins1 (fun x:Int=>x) 0 i s.1 s.2) (fun s=>s.1) (i,z) ⟨by simp only;omega,hpz,ins_start (fun x:Int=>x) hsz⟩ ?_ ?_
   · (refine ent_id ?_ ?_ ?_ rfl rfl <;> dsimp only [meetL,intL,u8L,U8,w32L,U32,cbL,id,go_sem,rA,rM,rS] <;> simp [meetL,intL,u8L,U8,w32L,U32,cbL,KFR_iff,KFR_app,KFR,KFL,KF,mtL_same,mtO,nbr])
   rintro ⟨j,l2⟩ ⟨hj,hp2,hs2⟩
   simp only at hj hp2 hs2
   have hl2:=hp2.len
   (repeat first | dsimp only [go_sem,rA,rM,rS] | simp only [nbr])
   by_cases hja:0 < j
   case neg =>
    rw [show decide ((j:Int) > 0) = false from by simp;omega]
    repeat (refine gb ?_;(repeat first | dsimp only [go_sem,rA,rM,rS] | simp only [nbr]))
    refine ixrm_v 0 rfl (fun h=>by cases h) ?_
    (repeat first | dsimp only [go_sem,rA,rM,rS] | simp only [nbr])
    refine gb ?_
    (repeat first | dsimp only [go_sem,rA,rM,rS] | simp only [nbr])
    refine ⟨intL 0,imp_v rfl (fun h=>by cases h),?_⟩
    (repeat first | dsimp only [intL,go_sem,rA,rM,rS] | simp only [nbr])
    repeat (refine gb ?_;(repeat first | dsimp only [go_sem,rA,rM,rS] | simp only [nbr]))
    refine ixrm_v 0 rfl (fun h=>by cases h) ?_
    (repeat first | dsimp only [go_sem,rA,rM,rS] | simp only [nbr])
    refine gb ?_
    (repeat first | dsimp only [go_sem,rA,rM,rS] | simp only [nbr])
    refine ⟨intL 0,imp_v rfl (fun h=>by cases h),?_⟩
    (repeat first | dsimp only [intL,go_sem,rA,rM,rS] | simp only [nbr])
    repeat (refine gb ?_;(repeat first | dsimp only [go_sem,rA,rM,rS] | simp only [nbr]))
    refine br_f rfl ?_
    (repeat first | dsimp only [go_sem,rA,rM,rS] | simp only [nbr])
    refine gh ent_refl ?_
    (repeat first | dsimp only [go_sem,rA,rM,rS] | simp only [nbr])
    rw [w64_in (n:=(i:Int) + 1) (by omega) (by omega)]
    refine ⟨(i + 1,l2),⟨hib,hp2,ins_end (fun x:Int=>x) hs2 hj (.inl (by omega))⟩,by simp only;omega,?_⟩
    (refine ent_id ?_ ?_ ?_ rfl rfl <;> dsimp only [meetL,intL,u8L,U8,w32L,U32,cbL,id,go_sem,rA,rM,rS] <;> simp [meetL,intL,u8L,U8,w32L,U32,cbL,KFR_iff,KFR_app,KFR,KFL,KF,mtL_same,mtO,nbr])
   rw [show decide ((j:Int) > 0) = true from by simp;omega]
   repeat (refine .inl ⟨rfl,?_⟩;(repeat first | dsimp only [go_sem,rA,rM,rS] | simp only [nbr]))
   refine ixrm j rfl (by simp;omega) ?_
   (repeat first | dsimp only [go_sem,rA,rM,rS] | simp only [nbr])
   refine .inl ⟨rfl,?_⟩
   (repeat first | dsimp only [go_sem,rA,rM,rS] | simp only [nbr])
   refine ldrm (by omega) ?_
   (repeat first | dsimp only [intL,go_sem,rA,rM,rS] | simp only [nbr])
   repeat (refine .inl ⟨rfl,?_⟩;(repeat first | dsimp only [go_sem,rA,rM,rS] | simp only [nbr]))
   rw [w64_in (n:=(j:Int) - 1) (by omega) (by omega)]
   refine ixrm (j - 1) (by omega) (by simp;omega) ?_
   (repeat first | dsimp only [go_sem,rA,rM,rS] | simp only [nbr])
   refine .inl ⟨rfl,?_⟩
   (repeat first | dsimp only [go_sem,rA,rM,rS] | simp only [nbr])
   refine ldrm (by omega) ?_
   (repeat first | dsimp only [intL,go_sem,rA,rM,rS] | simp only [nbr])
   repeat (refine .inl ⟨rfl,?_⟩;(repeat first | dsimp only [go_sem,rA,rM,rS] | simp only [nbr]))
   by_cases hlt5:l2[j] < l2[j - 1]
   case neg =>
    refine br_f (by simpa using hlt5) ?_
    (repeat first | dsimp only [go_sem,rA,rM,rS] | simp only [nbr])
    have hkk:ky (fun x:Int=>x) l2 (j - 1) ≤ ky (fun x:Int=>x) l2 j:=by rw [ky_eq (fun x:Int=>x) (l:=l2) (i:=j - 1) (by omega),ky_eq (fun x:Int=>x) (l:=l2) (i:=j) (by omega)];exact Int.not_lt.1 hlt5
    refine gh ent_refl ?_
    (repeat first | dsimp only [go_sem,rA,rM,rS] | simp only [nbr])
    rw [w64_in (n:=(i:Int) + 1) (by omega) (by omega)]
    refine ⟨(i + 1,l2),⟨hib,hp2,ins_end (fun x:Int=>x) hs2 hj (.inr hkk)⟩,by simp only;omega,?_⟩
    (refine ent_id ?_ ?_ ?_ rfl rfl <;> dsimp only [meetL,intL,u8L,U8,w32L,U32,cbL,id,go_sem,rA,rM,rS] <;> simp [meetL,intL,u8L,U8,w32L,U32,cbL,KFR_iff,KFR_app,KFR,KFL,KF,mtL_same,mtO,nbr])
   refine br_t (by simpa using hlt5) ?_
   (repeat first | dsimp only [go_sem,rA,rM,rS] | simp only [nbr])
   have hkk:ky (fun x:Int=>x) l2 j < ky (fun x:Int=>x) l2 (j - 1):=by rw [ky_eq (fun x:Int=>x) (l:=l2) (i:=j - 1) (by omega),ky_eq (fun x:Int=>x) (l:=l2) (i:=j) (by omega)];exact hlt5
   rw [w64_in (n:=(j:Int) - 1) (by omega) (by omega)]
   refine ixrm (j - 1) (by omega) (by simp;omega) ?_
   (repeat first | dsimp only [go_sem,rA,rM,rS] | simp only [nbr])
   refine ldrm (by omega) ?_
   (repeat first | dsimp only [intL,go_sem,rA,rM,rS] | simp only [nbr])
   refine ixrm j rfl (by simp;omega) ?_
   (repeat first | dsimp only [go_sem,rA,rM,rS] | simp only [nbr])
   refine ldrm (by omega) ?_
   (repeat first | dsimp only [intL,go_sem,rA,rM,rS] | simp only [nbr])
   refine ixrm j rfl (by simp;omega) ?_
   (repeat first | dsimp only [go_sem,rA,rM,rS] | simp only [nbr])
   refine strm l2[j - 1] (by omega) (by simp [intL]) (by simp [intL,splice]) ?_
   (repeat first | dsimp only [go_sem,rA,rM,rS] | simp only [nbr])
   refine ixrm (j - 1) (by first | omega | (rw [w64_in (by omega) (by omega)];omega)) (by simp;omega) ?_
   (repeat first | dsimp only [go_sem,rA,rM,rS] | simp only [nbr])
   refine strm l2[j] (by simp;omega) (by simp [intL]) (by simp [intL,splice]) ?_
   rw [← swp_eq (l:=l2) (i:=j) (j:=j - 1) (by omega) (by omega)]
   (repeat first | dsimp only [go_sem,rA,rM,rS] | simp only [nbr])
   try rw [w64_in (n:=(j:Int) - 1) (by omega) (by omega)]
   rw [show (j:Int) - 1 = ((j - 1:Nat):Int) from by omega]
   refine ⟨(j - 1,swp l2 j (j - 1)),⟨by simp only;omega,hp2.trans (.swap (by omega) (by omega) (by omega) (by omega) (by omega)),ins_step (fun x:Int=>x) hs2 hja hj (by omega) hkk⟩,by simp only;omega,?_⟩
   generalize swp l2 j (j - 1) = l3
   (refine ent_id ?_ ?_ ?_ rfl rfl <;> dsimp only [meetL,intL,u8L,U8,w32L,U32,cbL,id,go_sem,rA,rM,rS] <;> simp [meetL,intL,u8L,U8,w32L,U32,cbL,KFR_iff,KFR_app,KFR,KFL,KF,mtL_same,mtO,nbr])
 refine br_f (by simp;omega) ?_
 dsimp only [go_sem,rA,rM,rS]
 rw [show i = zd.length from by omega] at hsz
 have hzm:∀ x ∈ z,0 ≤ x ∧ x ≤ 100000:=fun x hx=>hdz x (hpz.perm.mem_iff.1 hx)
 have hzp:z.Perm ((meets.filter fun m=>decide (m.day ≤ day)).map (·.day)):=by rw [← hzd];exact hpz.perm
 rw [← hzl] at hsz hlen0
 clear hpz hzd hi hdz hib hzl
 refine gh ent_refl ?_
 (repeat first | dsimp only [go_sem,rA,rM,rS] | simp only [nbr])
 simp only [List.length_map]
 refine loopO (fun y:Nat × List Int=>[(146,I y.1)]) (fun y=>[(1,.row 0 1 (y.2.map intL) 3),(2,.row 0 1 (y.2.map cbL) 4)]) (fun y=>y.1 ≤ z.length ∧ ∃ D,SickI k first meets wait.lo wait.hi (· ∈ z.take y.1) (fun _=>False) y.2 D ∧ ∀ j (hj:j < z.length),y.1 ≤ j → D ≤ z[j]) (fun y=>z.length - y.1) (0,s) ⟨Nat.zero_le _,0,hS z,fun j hj _=>(hzm _ (List.getElem_mem _)).1⟩ ?_ ?_
 · (refine ent_id ?_ ?_ ?_ rfl rfl <;> dsimp only [meetL,intL,u8L,U8,w32L,U32,cbL,id,go_sem,rA,rM,rS] <;> simp [meetL,intL,u8L,U8,w32L,U32,cbL,KFR_iff,KFR_app,KFR,KFL,KF,mtL_same,mtO,nbr])
 rintro ⟨i,s1⟩ ⟨hi,D,hS1,hD⟩
 simp only at hi hS1 hD
 (repeat first | dsimp only [go_sem,rA,rM,rS] | simp only [nbr])
 by_cases hib:i < z.length
 case neg =>
  refine br_f (by simp;omega) ?_
  (repeat first | dsimp only [go_sem,rA,rM,rS] | simp only [nbr])
  rw [show i = z.length from by omega] at hS1
  have hln:=hS1.len
  have law:=fun (p:Nat) (hp:p < k)=>hS1.law (by omega) hd.2 hzp (i:=(p:Int)) (by omega) (by omega)
  refine gh ent_refl ?_
  (repeat first | dsimp only [go_sem,rA,rM,rS] | simp only [nbr])
  simp only [List.length_map,l0]
  refine loopO (fun y:Nat=>[(239,I y)]) (fun _=>[]) (fun y=>y ≤ k) (fun y=>k - y) 0 (Nat.zero_le _) ?_ ?_
  · (refine ent_id ?_ ?_ ?_ rfl rfl <;> dsimp only [meetL,intL,u8L,U8,w32L,U32,cbL,id,go_sem,rA,rM,rS] <;> simp [meetL,intL,u8L,U8,w32L,U32,cbL,KFR_iff,KFR_app,KFR,KFL,KF,mtL_same,mtO,nbr])
  intro y hy
  (repeat first | dsimp only [go_sem,rA,rM,rS] | simp only [nbr])
  by_cases hlt6:y < k
  case neg =>
   refine br_f (by simp;omega) ?_
   (repeat first | dsimp only [go_sem,rA,rM,rS] | simp only [nbr])
   refine gh ent_refl ?_
   (repeat first | dsimp only [go_sem,rA,rM,rS] | simp only [nbr])
  refine br_t (by simpa using hlt6) ?_
  (repeat first | dsimp only [go_sem,rA,rM,rS] | simp only [nbr])
  obtain ⟨a1,a2,a3⟩:=A y hlt6
  rw [List.getElem?_eq_getElem (by omega)] at a1
  have a1:=Option.some.inj a1
  have hy1:=law y hlt6
  rw [← a2,← a3] at hy1
  refine ixs_map y (by omega) rfl ?_
  (repeat first | dsimp only [u8L,U8,go_sem,rA,rM,rS] | simp only [nbr])
  refine ixrm y rfl (by simp;omega) ?_
  (repeat first | dsimp only [go_sem,rA,rM,rS] | simp only [nbr])
  refine ldrm (by omega) ?_
  (repeat first | dsimp only [intL,go_sem,rA,rM,rS] | simp only [nbr])
  rw [a1]
  have hg6:gI s1 (y:Int) = s1[y]:=gI_eq rfl (by omega)
  rw [hg6] at hy1
  have hkn:=sick_final (day:=day) hy1.1 hy1.2
  obtain ⟨hk1,hk2,hk3⟩:=hkn
  repeat (refine gb ?_;(repeat first | dsimp only [go_sem,rA,rM,rS] | simp only [nbr]))
  refine br_f (by simp;omega) ?_
  (repeat first | dsimp only [go_sem,rA,rM,rS] | simp only [nbr])
  rw [w64_in (n:=(y:Int) + 1) (by omega) (by omega)]
  refine ⟨y + 1,hlt6,by omega,?_⟩
  (refine ent_id ?_ ?_ ?_ rfl rfl <;> dsimp only [meetL,intL,u8L,U8,w32L,U32,cbL,id,go_sem,rA,rM,rS] <;> simp [meetL,intL,u8L,U8,w32L,U32,cbL,KFR_iff,KFR_app,KFR,KFL,KF,mtL_same,mtO,nbr])
 refine br_t (by simpa using hib) ?_
 (repeat first | dsimp only [go_sem,rA,rM,rS] | simp only [nbr])
 refine ixrm i rfl (by simp;omega) ?_
 (repeat first | dsimp only [go_sem,rA,rM,rS] | simp only [nbr])
 refine ldrm (by omega) ?_
 (repeat first | dsimp only [intL,go_sem,rA,rM,rS] | simp only [nbr])
 have hdi:=hD i hib (Nat.le_refl _)
 have hdn:=fun (D':Int) (h:D' ≤ z[i]) (j:Nat) (hj:j < z.length) (hij:i + 1 ≤ j)=>srt_drop hsz hib h j hj (by omega)
 have hd0:=hzm z[i] (List.getElem_mem _)
 by_cases hag:0 < i ∧ z[i] = z[i - 1]
 · obtain ⟨h0,he⟩:=hag
   rw [show decide ((i:Int) > 0) = true from by simp;omega]
   repeat (refine .inl ⟨rfl,?_⟩;(repeat first | dsimp only [go_sem,rA,rM,rS] | simp only [nbr]))
   rw [w64_in (n:=(i:Int) - 1) (by omega) (by omega)]
   refine ixrm (i - 1) (by omega) (by simp;omega) ?_
   (repeat first | dsimp only [go_sem,rA,rM,rS] | simp only [nbr])
   refine .inl ⟨rfl,?_⟩
   (repeat first | dsimp only [go_sem,rA,rM,rS] | simp only [nbr])
   refine ldrm (by omega) ?_
   (repeat first | dsimp only [intL,go_sem,rA,rM,rS] | simp only [nbr])
   repeat (refine .inl ⟨rfl,?_⟩;(repeat first | dsimp only [go_sem,rA,rM,rS] | simp only [nbr]))
   refine br_t (by simp [he]) ?_
   (repeat first | dsimp only [go_sem,rA,rM,rS] | simp only [nbr])
   refine gh ent_refl ?_
   (repeat first | dsimp only [go_sem,rA,rM,rS] | simp only [nbr])
   rw [w64_in (n:=(i:Int) + 1) (by omega) (by omega)]
   refine ⟨(i + 1,s1),⟨hib,D,hS1.again hib h0 he,fun j hj hij=>hdn D hdi j hj hij⟩,by simp only;omega,?_⟩
   (refine ent_id ?_ ?_ ?_ rfl rfl <;> dsimp only [meetL,intL,u8L,U8,w32L,U32,cbL,id,go_sem,rA,rM,rS] <;> simp [meetL,intL,u8L,U8,w32L,U32,cbL,KFR_iff,KFR_app,KFR,KFL,KF,mtL_same,mtO,nbr])
 have hne:¬ (0 < i ∧ z[i] = z[i - 1]):=hag
 repeat (refine gb ?_;(repeat first | dsimp only [go_sem,rA,rM,rS] | simp only [nbr]))
 refine ixrm_v (i - 1) rfl (fun h=>⟨by have h':=of_decide_eq_true h;rw [w64_in (by omega) (by omega)];omega,by simp;omega⟩) ?_
 (repeat first | dsimp only [go_sem,rA,rM,rS] | simp only [nbr])
 refine gb ?_
 (repeat first | dsimp only [go_sem,rA,rM,rS] | simp only [nbr])
 refine ⟨intL z[i - 1],imp_v rfl (fun h=>by rw [List.getElem?_map,List.getElem?_eq_getElem (by omega)];rfl),?_⟩
 (repeat first | dsimp only [intL,go_sem,rA,rM,rS] | simp only [nbr])
 repeat (refine gb ?_;(repeat first | dsimp only [go_sem,rA,rM,rS] | simp only [nbr]))
 refine br_f (by by_cases h0:0 < i <;> simp [h0] <;> exact fun h=>hne ⟨h0,h⟩) ?_
 (repeat first | dsimp only [go_sem,rA,rM,rS] | simp only [nbr])
 simp only [List.length_map]
 refine loopO (fun y:Nat × List Int=>[(164,I y.1)]) (fun y=>[(1,.row 0 1 (y.2.map intL) 3),(2,.row 0 1 (y.2.map cbL) 4)]) (fun y=>y.1 ≤ meets.length ∧ ∃ D,D ≤ z[i] ∧ SickI k first meets wait.lo wait.hi (· ∈ z.take i) (fun m=>m ∈ meets.take y.1 ∧ m.day = z[i]) y.2 D) (fun y=>meets.length - y.1) (0,s1) ⟨Nat.zero_le _,D,hdi,hS1.open⟩ ?_ ?_
 · (refine ent_id ?_ ?_ ?_ rfl rfl <;> dsimp only [meetL,intL,u8L,U8,w32L,U32,cbL,id,go_sem,rA,rM,rS] <;> simp [meetL,intL,u8L,U8,w32L,U32,cbL,KFR_iff,KFR_app,KFR,KFL,KF,mtL_same,mtO,nbr])
 rintro ⟨q2,s2⟩ ⟨hq2,D2,hD2,hS2⟩
 simp only at hq2 hS2
 (repeat first | dsimp only [go_sem,rA,rM,rS] | simp only [nbr])
 by_cases hlt7:q2 < meets.length
 case neg =>
  refine br_f (by simp;omega) ?_
  (repeat first | dsimp only [go_sem,rA,rM,rS] | simp only [nbr])
  rw [show q2 = meets.length from by omega] at hS2
  refine gh ent_refl ?_
  (repeat first | dsimp only [go_sem,rA,rM,rS] | simp only [nbr])
  rw [w64_in (n:=(i:Int) + 1) (by omega) (by omega)]
  refine ⟨(i + 1,s2),⟨hib,D2,hS2.shut hib,fun j hj hij=>hdn D2 hD2 j hj hij⟩,by simp only;omega,?_⟩
  (refine ent_id ?_ ?_ ?_ rfl rfl <;> dsimp only [meetL,intL,u8L,U8,w32L,U32,cbL,id,go_sem,rA,rM,rS] <;> simp [meetL,intL,u8L,U8,w32L,U32,cbL,KFR_iff,KFR_app,KFR,KFL,KF,mtL_same,mtO,nbr])
 refine br_t (by simp;omega) ?_
 (repeat first | dsimp only [go_sem,rA,rM,rS] | simp only [nbr])
 refine ixs_map q2 hlt7 rfl ?_
 (repeat first | dsimp only [meetL,go_sem,rA,rM,rS] | simp only [nbr])
 have hmj:=hm meets[q2] (List.getElem_mem _)
 obtain ⟨⟨ha0,ha1⟩,⟨hb0,hb1⟩,hab,hd0',hd1⟩:=hmj
 obtain ⟨pa,hpa⟩:∃ p:Nat,meets[q2].a = p:=⟨meets[q2].a.toNat,by omega⟩
 obtain ⟨pb,hpb⟩:∃ p:Nat,meets[q2].b = p:=⟨meets[q2].b.toNat,by omega⟩
 repeat (refine gb ?_;(repeat first | dsimp only [go_sem,rA,rM,rS] | simp only [nbr]))
 refine call (atS_ok ns q2 q2 rfl hl3 (by omega) false) ?_
 (repeat first | dsimp only [U32,go_sem,rA,rM,rS] | simp only [nbr])
 repeat (refine gb ?_;(repeat first | dsimp only [go_sem,rA,rM,rS] | simp only [nbr]))
 refine div0 (by decide) ?_
 (repeat first | dsimp only [divr,go_sem,rA,rM,rS] | simp only [nbr])
 repeat (refine gb ?_;(repeat first | dsimp only [go_sem,rA,rM,rS] | simp only [nbr]))
 have hln2:=hS2.len
 by_cases hsk:meets[q2].day = z[i] ∧ (meets[q2].close = true ∨ ¬ (atF ns q2).tmod 2 = 0)
 case neg =>
  refine br_t (by by_cases h1:meets[q2].day = z[i] <;> by_cases h2:meets[q2].close = true <;> by_cases h3:(atF ns q2).tmod 2 = 0 <;> simp_all) ?_
  (repeat first | dsimp only [go_sem,rA,rM,rS] | simp only [nbr])
  refine gh ent_refl ?_
  (repeat first | dsimp only [go_sem,rA,rM,rS] | simp only [nbr])
  rw [w64_in (n:=(q2:Int) + 1) (by omega) (by omega)]
  refine ⟨(q2 + 1,s2),⟨hlt7,D2,hD2,hS2.skip hlt7 (by by_cases h1:meets[q2].day = z[i] <;> by_cases h2:meets[q2].close = true <;> simp_all)⟩,by simp only;omega,?_⟩
  (refine ent_id ?_ ?_ ?_ rfl rfl <;> dsimp only [meetL,intL,u8L,U8,w32L,U32,cbL,id,go_sem,rA,rM,rS] <;> simp [meetL,intL,u8L,U8,w32L,U32,cbL,KFR_iff,KFR_app,KFR,KFL,KF,mtL_same,mtO,nbr])
 refine br_f (by obtain ⟨h1,h2⟩:=hsk;rcases h2 with h2 | h2 <;> simp [h1,h2]) ?_
 (repeat first | dsimp only [go_sem,rA,rM,rS] | simp only [nbr])
 rw [hpa,hpb]
 have hV:=fun p:Nat=>pick_bd (s:=wait) (n:=atF ns (q2 + p)) hw.2.1 (atF_bd ns (q2 + p)).1
 refine loopO (fun y:Nat=>[(197,I y)]) (fun y=>[(1,.row 0 1 ((cat2 z[i] (fun p:Nat=>pickF wait (atF ns (q2 + p))) pa pb y s2).map intL) 3),(2,.row 0 1 ((cat2 z[i] (fun p:Nat=>pickF wait (atF ns (q2 + p))) pa pb y s2).map cbL) 4)]) (fun y=>y ≤ 2) (fun y=>2 - y) 0 (by omega) ?_ ?_
 · (refine ent_id ?_ ?_ ?_ rfl rfl <;> dsimp only [meetL,intL,u8L,U8,w32L,U32,cbL,cat2,id,go_sem,rA,rM,rS] <;> simp [meetL,intL,u8L,U8,w32L,U32,cbL,cat2,KFR_iff,KFR_app,KFR,KFL,KF,mtL_same,mtO,nbr])
 intro y hy
 (repeat first | dsimp only [go_sem,rA,rM,rS] | simp only [nbr])
 by_cases hlt8:y < 2
 case neg =>
  refine br_f (by simp;omega) ?_
  (repeat first | dsimp only [go_sem,rA,rM,rS] | simp only [nbr])
  refine gh ent_refl ?_
  (repeat first | dsimp only [go_sem,rA,rM,rS] | simp only [nbr])
  rw [w64_in (n:=(q2:Int) + 1) (by omega) (by omega),show y = 2 from by omega]
  refine ⟨(q2 + 1,cat2 z[i] (fun p:Nat=>pickF wait (atF ns (q2 + p))) pa pb 2 s2),⟨hlt7,z[i],Int.le_refl _,?_⟩,by simp only;omega,?_⟩
  · simp only
    have h:=hS2.pass (v1:=pickF wait (atF ns (q2 + pb))) (v2:=pickF wait (atF ns (q2 + pa))) hf (hV pb) (hV pa) hw.2.2 hw.1 hlt7 (hm _ (List.getElem_mem _)) hsk.1 hD2
    rw [← cat2_2 (v:=fun p:Nat=>pickF wait (atF ns (q2 + p))) hpa hpb,hsk.1] at h
    exact h
  generalize cat2 z[i] (fun p:Nat=>pickF wait (atF ns (q2 + p))) pa pb 2 s2 = s5
  (refine ent_id ?_ ?_ ?_ rfl rfl <;> dsimp only [meetL,intL,u8L,U8,w32L,U32,cbL,id,go_sem,rA,rM,rS] <;> simp [meetL,intL,u8L,U8,w32L,U32,cbL,KFR_iff,KFR_app,KFR,KFL,KF,mtL_same,mtO,nbr])
 refine br_t (by simp;omega) ?_
 (repeat first | dsimp only [go_sem,rA,rM,rS] | simp only [nbr])
 obtain ⟨p0,p1,hrow,hp01⟩:∃ p0 p1:Nat,[[I pa,I pb],[I pb,I pa]][y]? = some [I p0,I p1] ∧ ((y = 0 ∧ p0 = pa ∧ p1 = pb) ∨ (y = 1 ∧ p0 = pb ∧ p1 = pa)):=by
  have:y = 0 ∨ y = 1:=by omega
  rcases this with rfl | rfl
  · exact ⟨pa,pb,rfl,.inl ⟨rfl,rfl,rfl⟩⟩
  · exact ⟨pb,pa,rfl,.inr ⟨rfl,rfl,rfl⟩⟩
 have hp0:p0 < k:=by omega
 have hp1:p1 < k:=by omega
 refine ixs y [I p0,I p1] rfl hrow ?_
 (repeat first | dsimp only [go_sem,rA,rM,rS] | simp only [nbr])
 have hcs:=cat2_succ (d:=z[i]) (v:=fun p:Nat=>pickF wait (atF ns (q2 + p))) (s:=s2) hp01
 have hs3l:=cat2_len z[i] (fun p:Nat=>pickF wait (atF ns (q2 + p))) pa pb y s2
 generalize cat2 z[i] (fun p:Nat=>pickF wait (atF ns (q2 + p))) pa pb y s2 = s3 at hcs hs3l
 refine ixa 0 rfl (by decide) ?_
 (repeat first | dsimp only [go_sem,rA,rM,rS] | simp only [nbr])
 refine ixrm p0 rfl (by simp;omega) ?_
 (repeat first | dsimp only [go_sem,rA,rM,rS] | simp only [nbr])
 refine ldrm (by omega) ?_
 (repeat first | dsimp only [intL,go_sem,rA,rM,rS] | simp only [nbr])
 repeat (refine gb ?_;(repeat first | dsimp only [go_sem,rA,rM,rS] | simp only [nbr]))
 refine ixa 1 rfl (by decide) ?_
 (repeat first | dsimp only [go_sem,rA,rM,rS] | simp only [nbr])
 repeat (refine gb ?_;(repeat first | dsimp only [go_sem,rA,rM,rS] | simp only [nbr]))
 refine ixrm_v p1 rfl (fun _=>⟨rfl,by simp;omega⟩) ?_
 (repeat first | dsimp only [go_sem,rA,rM,rS] | simp only [nbr])
 refine gb ?_
 (repeat first | dsimp only [go_sem,rA,rM,rS] | simp only [nbr])
 refine ⟨cbL s3[p1],imp_v rfl (fun h=>by rw [List.getElem?_map,List.getElem?_eq_getElem (by omega)];rfl),?_⟩
 (repeat first | dsimp only [cbL,go_sem,rA,rM,rS] | simp only [nbr])
 repeat (refine gb ?_;(repeat first | dsimp only [go_sem,rA,rM,rS] | simp only [nbr]))
 have hg0:gI s3 (p0:Int) = s3[p0]:=gI_eq rfl (by omega)
 have hg1:gI s3 (p1:Int) = s3[p1]:=gI_eq rfl (by omega)
 unfold catch1 at hcs
 rw [hg0,hg1] at hcs
 by_cases hca:s3[p0] ≤ z[i] ∧ s3[p1] = wellD
 case neg =>
  rw [if_neg hca] at hcs
  refine br_f (by by_cases h1:s3[p0] ≤ z[i] <;> by_cases h2:s3[p1] = wellD <;> simp_all [cB]) ?_
  (repeat first | dsimp only [go_sem,rA,rM,rS] | simp only [nbr])
  rw [w64_in (n:=(y:Int) + 1) (by omega) (by omega)]
  refine ⟨y + 1,hlt8,by omega,?_⟩
  simp only [hcs]
  (refine ent_id ?_ ?_ ?_ rfl rfl <;> dsimp only [meetL,intL,u8L,U8,w32L,U32,cbL,id,go_sem,rA,rM,rS] <;> simp [meetL,intL,u8L,U8,w32L,U32,cbL,KFR_iff,KFR_app,KFR,KFL,KF,mtL_same,mtO,nbr])
 rw [if_pos hca] at hcs
 refine br_t (by simp [hca.1,hca.2,cB]) ?_
 (repeat first | dsimp only [go_sem,rA,rM,rS] | simp only [nbr])
 refine ixa 1 rfl (by decide) ?_
 (repeat first | dsimp only [go_sem,rA,rM,rS] | simp only [nbr])
 refine ixa 1 rfl (by decide) ?_
 (repeat first | dsimp only [go_sem,rA,rM,rS] | simp only [nbr])
 rw [w64_in (n:=(q2:Int) + (p1:Int)) (by omega) (by omega)]
 refine call (atS_ok ns _ (q2 + p1) (by omega) hl3 (by omega) false) ?_
 (repeat first | dsimp only [go_sem,rA,rM,rS] | simp only [nbr])
 refine call (pickS_ok wait (atF ns (q2 + p1)) (by omega) hw.2.1 (by omega) (atF_bd ns (q2 + p1))) ?_
 (repeat first | dsimp only [go_sem,rA,rM,rS] | simp only [nbr])
 have hVp:=hV p1
 try simp only at hVp hcs
 generalize pickF wait (atF ns (q2 + p1)) = vv at hVp hcs
 refine ixrm p1 rfl (by simp;omega) ?_
 (repeat first | dsimp only [go_sem,rA,rM,rS] | simp only [nbr])
 refine ixa 1 rfl (by decide) ?_
 (repeat first | dsimp only [go_sem,rA,rM,rS] | simp only [nbr])
 rw [w64_in (n:=z[i] + vv) (by omega) (by omega)]
 rw [Int.toNat_natCast] at hcs
 have hcb:cB (z[i] + vv) = true:=by unfold cB wellD;exact decide_eq_true (by omega)
 refine strm (z[i] + vv) (by omega) (by simp [cbL]) (by simp [cbL,splice,hcb]) ?_
 (repeat first | dsimp only [go_sem,rA,rM,rS] | simp only [nbr])
 refine ixrm p1 rfl (by simp;omega) ?_
 (repeat first | dsimp only [go_sem,rA,rM,rS] | simp only [nbr])
 refine strm (z[i] + vv) (by omega) (by simp [intL]) (by simp [intL,splice]) ?_
 (repeat first | dsimp only [go_sem,rA,rM,rS] | simp only [nbr])
 rw [w64_in (n:=(y:Int) + 1) (by omega) (by omega)]
 refine ⟨y + 1,hlt8,by omega,?_⟩
 simp only [hcs]
 generalize s3.set p1 (z[i] + vv) = s6
 (refine ent_id ?_ ?_ ?_ rfl rfl <;> dsimp only [meetL,intL,u8L,U8,w32L,U32,cbL,id,go_sem,rA,rM,rS] <;> simp [meetL,intL,u8L,U8,w32L,U32,cbL,KFR_iff,KFR_app,KFR,KFL,KF,mtL_same,mtO,nbr])
end Go.Proofs.Ytnlfjchbhgikaaa
