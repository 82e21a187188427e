/- Walks and plain laws that lead to the given statement, part 7 of 8. -/
import Derived.Test.YtkjldleglbbkeaaEF
import Derived.Test.YtkjldleglbbkeaaProg
open Nat renaming reduceAdd→rA,reduceMul→rM,reduceSub→rS,beq_refl→nbr
set_option maxRecDepth 100000
set_option maxHeartbeats 8000000
namespace Go.Azalai
open Go.Sx
theorem wayLegs_split {l:Land} {p:Span} {to till:Int} {f:Nat} {been:List Int} {v t:Int} {j:Nat}:∀ (k:Nat),∃ R,wayLegs l p to till f been v t (j + k) = wayLegs l p to till f been v t j ++ R
 | 0=>⟨[],by simp⟩
 | k + 1=>by
  obtain ⟨R,h⟩:=wayLegs_split k
  exact ⟨R ++ wayLeg l p to till f been v t (j + k),by rw [← Nat.add_assoc,wayLegs_succ,h,List.append_assoc]⟩
theorem wayLeg_no {l:Land} {p:Span} {to till:Int} {f:Nat} {been:List Int} {v t:Int} {j:Nat} {x:Leg} (hx:l.legs[j]? = some x) (h:otherF x v < 0 ∨ otherF x v ∈ v :: been):wayLeg l p to till f been v t j = []:=by
 simp only [wayLeg,hx];rw [if_pos h]
theorem wayLeg_yes {l:Land} {p:Span} {to till:Int} {f:Nat} {been:List Int} {v t:Int} {j:Nat} {x:Leg} (hx:l.legs[j]? = some x) (h0:¬ otherF x v < 0) (h:otherF x v ∉ v :: been) :
 wayLeg l p to till f been v t j = (waysL l p to till f (v :: been) (otherF x v) (arrK true x p t)).map (j :: ·):=by
 simp only [wayLeg,hx];rw [if_neg (fun q=>q.elim h0 h)]
end Go.Azalai
namespace Go.Proofs.Ytkjldleglbbkeaa
open Go Go.Sx Go.Azalai
def rowW (w:List Nat):List SV:=[wayS w]
def lookH (l:Land) (p:Span) (till to:Int) (all:List (List Nat)) (ver:Nat) (L:List (Nat × Int × Bool)) (clk:Nat):List (Nat × HB) :=
 [(0,.cells [I till] 3),(1,.cells [I to] 3),(2,.cells [.mr 6 ver] 53),(3,.cells [.mp 7] 99),(4,.cells (carL l p) 119),(5,.cells [.cl 77 [.p 0 0,.p 1 0,.p 2 0,.p 3 0,.p 4 0,.p 5 0]] 134),(6,.row ver 1 (all.map rowW) 59),(7,.map (mpS kI B L) clk)]
def lookP (l:Land) (p:Span) (till to:Int) (all:List (List Nat)) (L:List (Nat × Int × Bool)) (W:List (List Nat)):Ot → Prop:=fun o =>
 ∃ ver clk,MW L clk ∧ o = ⟨false,B (decide ((all ++ W).length ≤ 200)),lookH l p till to (cap (all ++ W)) ver L clk,8⟩
def beenL (been:List Int) (L:List (Nat × Int × Bool)):Prop:=∀ u:Int,mget u L = if u ∈ been then some true else none
theorem mdel_set {L:List (Nat × Int × Bool)} {c:Nat} {v:Int} {b:Bool} (h:mget v L = none):mdel v (mset c v b L) = L:=by
 rw [mset_new h]
 have key:∀ (L:List (Nat × Int × Bool)),mget v L = none → mdel v (L ++ [(c,v,b)]) = L:=by
  intro L
  induction L with
  | nil=>intro _;simp [mdel]
  | cons e L ih =>
   intro h
   have hne:e.2.1 ≠ v:=mget_none.1 h e (by simp)
   have hL:mget v L = none:=mget_none.2 fun x hx=>mget_none.1 h x (by simp [hx])
   have:=ih hL
   obtain ⟨e1,e2,e3⟩:=e
   simp only at hne
   simp only [List.cons_append,mdel]
   rw [this]
   simp [hne,Ne.symm hne]
 exact key L h
theorem look_ok (l:Land) (p:Span) (hs:Small l) (hok:OkLP l p) (till to:Int):∀ (f:Nat) (been:List Int) (v t:Int) (way:List Nat) (all:List (List Nat)) (ver clk:Nat) (L:List (Nat × Int × Bool)) (s1:SV),Room l f been → v ∉ been → (0 ≤ v ∧ v < l.wells.length) → (0 ≤ t ∧ t ≤ 100001) →
 way.length + f ≤ 1000 → all.length ≤ 200 → MW L clk → beenL been L → (s1 = wayS way ∨ s1 = .v (.slice none 0 0) ∧ way = []) →
 CtM Try.prog 77 (lookH l p till to all ver L clk) 8 [.agg [I v,I t],s1,.p 0 0,.p 1 0,.p 2 0,.p 3 0,.p 4 0,.p 5 0] (lookP l p till to all L ((waysL l p to till f been v t).map (way ++ ·))):=by
 intro f
 induction f with
 | zero =>
  intro been v t way all ver clk L s1 hR hv hvi
  obtain ⟨g,h,_⟩:=hR.pos hv hvi
  omega
 | succ f ih =>
 intro been v t way all ver clk L s1 hR hv hvi ht hlen hall hM hbL hs1
 obtain ⟨g,hg,hR'⟩:=hR.pos hv hvi
 have hgf:g = f:=by omega
 subst hgf
 have hleg:=hs.2.1
 refine m77 (by simp [hpb,lookH]) (fun o ho=>?_) ?_
 · obtain ⟨ver',clk',_,rfl⟩:=ho
   simp [lookH,KX,KXL,KXP,KXH,KFR_iff,KFL,KF,carL,wellL,legL,gateL,rowW,wayS,natL,mpS_kf,mpS_kf3]
 dsimp only [c77,r77,lookH,go_sem,rA,rM,rS]
 rcases hs1 with rfl | ⟨rfl,hw0⟩
 · refine gh ent_refl ?_
   dsimp only [wayS,go_sem,rA,rM,rS]
   refine br ?_ ?_
   · intro hlate
     have hlate:t > till:=of_decide_eq_true hlate
     dsimp only [go_sem,rA,rM,rS]
     refine ⟨_,⟨ver,clk,hM,rfl⟩,?_⟩
     rw [waysL_late hlate,List.map_nil,List.append_nil,cap_id (by omega),decide_eq_true hall]
     (refine entO_id ?_ ?_ ?_ rfl <;> dsimp only [carL,wellL,legL,gateL,rowW,wayS,natL,mpS_nil,mpS_kf,mpS_kf3,KFR_iff,lookH,id,go_sem,rA,rM,rS] <;> simp [carL,wellL,legL,gateL,rowW,wayS,natL,mpS_nil,mpS_kf,mpS_kf3,KFR_iff,lookH,KFR_iff,KFR_app,KFR,KFL,KF,mtL_same,mtO,nbr])
   intro hlate
   have hlate:¬ t > till:=of_decide_eq_false hlate
   dsimp only [go_sem,rA,rM,rS]
   refine br ?_ ?_
   · intro hto
     have hto:v = to:=by simpa using hto
     dsimp only [go_sem,rA,rM,rS]
     refine call (clonev_ok way (by omega)) ?_
     dsimp only [wayS,go_sem,rA,rM,rS]
     simp only [nbr]
     dsimp only [go_sem,rA,rM,rS]
     refine ⟨(by intro c hc;simp only [List.mem_singleton] at hc;subst hc;rfl),by simp;omega,?_⟩
     dsimp only [go_sem,rA,rM,rS]
     simp only [nbr]
     dsimp only [go_sem,rA,rM,rS]
     have e:all.map rowW ++ [[SV.sl false 1 (way.map natL)]] = (all ++ [way]).map rowW:=by simp [rowW,wayS]
     rw [e]
     refine ⟨_,⟨ver + 1,clk,hM,rfl⟩,?_⟩
     rw [waysL_succ,if_neg hlate,if_pos hto]
     simp only [List.map_cons,List.map_nil,List.append_nil,List.length_map]
     rw [cap_id (by simp;omega)]
     have hd:decide (((all ++ [way]).length:Int) ≤ 200) = decide ((all ++ [way]).length ≤ 200):=by simp;omega
     rw [hd]
     (refine entO_id ?_ ?_ ?_ rfl <;> dsimp only [carL,wellL,legL,gateL,rowW,wayS,natL,mpS_nil,mpS_kf,mpS_kf3,KFR_iff,lookH,id,go_sem,rA,rM,rS] <;> simp [carL,wellL,legL,gateL,rowW,wayS,natL,mpS_nil,mpS_kf,mpS_kf3,KFR_iff,lookH,KFR_iff,KFR_app,KFR,KFL,KF,mtL_same,mtO,nbr])
   intro hto
   have hto:¬ v = to:=by simpa using hto
   dsimp only [go_sem,rA,rM,rS]
   refine raw_set (ins:=false) (key:=kI) (val:=B) (L:=L) (k:=v) (v:=true) rfl rfl u99 key3 rfl rfl (by simp) ?_
   dsimp only [go_sem,rA,rM,rS]
   refine ⟨rfl,?_⟩
   have hvL:mget v L = none:=by rw [hbL,if_neg hv]
   have hM1:=hM.set (k:=v) true
   have hL1:beenL (v :: been) (mset clk v true L):=fun u=>by
    rw [mget_set]
    by_cases hu:u = v
    · simp [hu]
    · rw [if_neg hu,hbL]
      simp [hu]
   have hdel:=mdel_set (L:=L) (c:=clk) (b:=true) hvL
   generalize mset clk v true L = L1 at hM1 hL1 hdel ⊢
   generalize mclk clk v L = clk1 at hM1 ⊢
   refine callmL [] (leads_ok l p v) rfl rfl rfl ?_ ?_ ?_
   · exact mtL_same (by simp [carL,wellL,legL,gateL,KFR_iff,KFL,KF])
   · trivial
   dsimp only [leadsO,carL,go_sem,rA,rM,rS]
   refine gh ent_refl ?_
   dsimp only [go_sem,rA,rM,rS]
   refine ⟨b97,fun rec=>?_⟩
   refine y97 ?_
   dsimp only [c97,r97,go_sem,rA,rM,rS]
   refine loopO (fun q:Nat × List (List Nat) × Nat × Nat=>[(10,I q.1)]) (fun q=>[(2,.cells [.mr 6 q.2.2.1] 53),(6,.row q.2.2.1 1 (q.2.1.map rowW) 59),(7,.map (mpS kI B L1) q.2.2.2)])
    (fun q=>q.1 ≤ l.legs.length ∧ MW L1 q.2.2.2 ∧ q.2.1 = all ++ (wayLegs l p to till g been v t q.1).map (way ++ ·) ∧ q.2.1.length ≤ 200) (fun q=>l.legs.length - q.1) (0,all,ver,clk1) ⟨Nat.zero_le _,hM1,by simp [wayLegs_0],hall⟩ ?_ ?_
   · (refine ent_id ?_ ?_ ?_ rfl rfl <;> dsimp only [carL,wellL,legL,gateL,rowW,wayS,natL,mpS_nil,mpS_kf,mpS_kf3,KFR_iff,id,go_sem,rA,rM,rS] <;> simp [carL,wellL,legL,gateL,rowW,wayS,natL,mpS_nil,mpS_kf,mpS_kf3,KFR_iff,KFR_iff,KFR_app,KFR,KFL,KF,mtL_same,mtO,nbr])
   rintro ⟨j,allj,ver,clk⟩ ⟨hj,hMj,hallj,hlenj⟩
   simp only at hj hMj hallj hlenj
   dsimp only [go_sem,rA,rM,rS]
   simp only [List.length_map]
   by_cases hlt:j < l.legs.length
   · refine br_t (by simpa using hlt) ?_
     dsimp only [go_sem,rA,rM,rS]
     refine ixs_map j hlt rfl ?_
     dsimp only [legL,go_sem,rA,rM,rS]
     have hgl:GoodLeg l.legs[j]:=okLand_leg hok.land _ (List.getElem_mem _)
     have hends:=hok.ends (List.getElem_mem hlt)
     have hxj:l.legs[j]? = some l.legs[j]:=List.getElem?_eq_getElem hlt
     have hin:inR 0 100001 t = true:=by simp only [inR,decide_eq_true_eq];omega
     have hab:=arrK_bd (k:=true) (t:=t) hgl hok.pace (by omega)
     by_cases hca:v = l.legs[j].a
     · refine br_t (by simpa using hca) ?_
       have hoth:otherF l.legs[j] v = l.legs[j].b:=by rw [otherF,if_pos hca.symm]
       dsimp only [go_sem,rA,rM,rS]
       refine ⟨rfl,rfl,?_⟩
       refine raw_get (key:=kI) (sv:=sI) (val:=B) (L:=L1) (k:=l.legs[j].b) (z:=.bool false) (zs:=B false) rfl rfl u99 key3 rfl (by kernel_rfl) (fun w E n ok=>by simp only [R]) ?_ ?_
       · intro b hget
         have hb:b = true ∧ otherF l.legs[j] v ∈ v :: been:=by
          have h:=hL1 l.legs[j].b
          rw [hget] at h
          rw [hoth]
          split at h
          · rename_i hm;exact ⟨Option.some.inj h,hm⟩
          · cases h
         obtain ⟨rfl,hmem⟩:=hb
         dsimp only [Bool.not_true,go_sem,rA,rM,rS]
         repeat (refine gb_skip (by decide) ?_;dsimp only [go_sem,rA,rM,rS])
         refine br_f (by decide) ?_
         dsimp only [go_sem,rA,rM,rS]
         refine ⟨rfl,?_⟩
         refine br_f (by decide) ?_
         dsimp only [go_sem,rA,rM,rS]
         rw [w64_in (n:=(j:Int) + 1) (by omega) (by omega)]
         refine ⟨(j + 1,allj,ver,clk),⟨hlt,hMj,by rw [wayLegs_succ,wayLeg_no hxj (.inr hmem),List.append_nil];exact hallj,hlenj⟩,by simp only;omega,?_⟩
         (refine ent_id ?_ ?_ ?_ rfl rfl <;> dsimp only [carL,wellL,legL,gateL,rowW,wayS,natL,mpS_nil,mpS_kf,mpS_kf3,KFR_iff,id,go_sem,rA,rM,rS] <;> simp [carL,wellL,legL,gateL,rowW,wayS,natL,mpS_nil,mpS_kf,mpS_kf3,KFR_iff,KFR_iff,KFR_app,KFR,KFL,KF,mtL_same,mtO,nbr])
       intro hget
       have hnb:otherF l.legs[j] v ∉ v :: been:=fun hm=>by
        have h:=hL1 l.legs[j].b
        rw [hoth] at hm
        rw [hget,if_pos hm] at h;cases h
       have hn0:¬ otherF l.legs[j] v < 0:=by rw [hoth];omega
       dsimp only [Bool.not_false,go_sem,rA,rM,rS]
       iterate 10 (refine gb_run rfl ?_;dsimp only [go_sem,rA,rM,rS])
       refine call (arrive_ok l p j hlt t t hgl hok.pace hin hin) ?_
       dsimp only [go_sem,rA,rM,rS]
       refine gb_run rfl ?_
       dsimp only [go_sem,rA,rM,rS]
       refine ixa 1 rfl (by decide) ?_
       dsimp only [go_sem,rA,rM,rS]
       iterate 4 (refine gb_run rfl ?_;dsimp only [go_sem,rA,rM,rS])
       refine call (more_ok way j (by omega)) ?_
       dsimp only [wayS,go_sem,rA,rM,rS]
       refine gb_run rfl ?_
       dsimp only [go_sem,rA,rM,rS]
       have hot:=otherF_in hok hxj hn0
       have hih:=ih (v :: been) (otherF l.legs[j] v) (arrK true l.legs[j] p t) (way ++ [j]) allj ver clk L1 (wayS (way ++ [j])) hR' hnb hot.1 (by omega) (by simp;omega) hlenj hMj hL1 (.inl rfl)
       have hWj:(waysL l p to till g (v :: been) (otherF l.legs[j] v) (arrK true l.legs[j] p t)).map (way ++ [j] ++ ·) = (wayLeg l p to till g been v t j).map (way ++ ·):=by
        rw [wayLeg_yes hxj hn0 hnb,List.map_map]
        simp [Function.comp_def]
       rw [hWj,hoth] at hih
       refine callmP [0,1,2,3,4,5,6,7] hih rfl rfl ?_ ?_ ?_ ?_
       · rfl
       · dsimp only [rho,wayS,go_sem,rA,rM,rS]
         simp [KFR_iff,KFR_app,KFR,KFL,KF,mtL_same,mtO,nbr,carL,wellL,legL,gateL,rowW,wayS,natL,mpS_kf,mpS_kf3]
       · dsimp only [rho,lookH,carL,go_sem,rA,rM,rS]
         simp [KFR_iff,KFR_app,KFR,KFL,KF,mtL_same,mtO,nbr,carL,wellL,legL,gateL,rowW,wayS,natL,mpS_kf,mpS_kf3]
       rintro o ⟨ver',clk',hM',rfl⟩
       dsimp only [lookH,carL,go_sem,rA,rM,rS]
       refine gb_run rfl ?_
       dsimp only [Bool.not_false,go_sem,rA,rM,rS]
       have hnext:all ++ (wayLegs l p to till g been v t (j + 1)).map (way ++ ·) = allj ++ (wayLeg l p to till g been v t j).map (way ++ ·):=by
        rw [wayLegs_succ,List.map_append,← List.append_assoc,← hallj]
       generalize hWW:(wayLeg l p to till g been v t j).map (way ++ ·) = Wj at hnext ⊢
       by_cases hsm:(allj ++ Wj).length ≤ 200
       · refine br_f (by simp only [hsm,decide_true];rfl) ?_
         dsimp only [go_sem,rA,rM,rS]
         refine ⟨rfl,?_⟩
         refine br_f (by decide) ?_
         dsimp only [go_sem,rA,rM,rS]
         rw [w64_in (n:=(j:Int) + 1) (by omega) (by omega),cap_id (by omega)]
         rw [← hnext] at hsm ⊢
         refine ⟨(j + 1,_,ver',clk'),⟨hlt,hM',rfl,hsm⟩,by simp only;omega,?_⟩
         generalize all ++ (wayLegs l p to till g been v t (j + 1)).map (way ++ ·) = alln
         (refine ent_id ?_ ?_ ?_ rfl rfl <;> dsimp only [carL,wellL,legL,gateL,rowW,wayS,natL,mpS_nil,mpS_kf,mpS_kf3,KFR_iff,id,go_sem,rA,rM,rS] <;> simp [carL,wellL,legL,gateL,rowW,wayS,natL,mpS_nil,mpS_kf,mpS_kf3,KFR_iff,KFR_iff,KFR_app,KFR,KFL,KF,mtL_same,mtO,nbr])
       · refine br_t (by simp only [hsm,decide_false];rfl) ?_
         dsimp only [go_sem,rA,rM,rS]
         refine ⟨rfl,?_⟩
         refine br_t rfl ?_
         dsimp only [go_sem,rA,rM,rS]
         have hWs:waysL l p to till (g + 1) been v t = wayLegs l p to till g been v t l.legs.length:=by rw [waysL_succ,if_neg hlate,if_neg hto]
         obtain ⟨R,hRs⟩:=wayLegs_split (l:=l) (p:=p) (to:=to) (till:=till) (f:=g) (been:=been) (v:=v) (t:=t) (j:=j + 1) (l.legs.length - (j + 1))
         rw [show j + 1 + (l.legs.length - (j + 1)) = l.legs.length by omega] at hRs
         have hall2:all ++ (waysL l p to till (g + 1) been v t).map (way ++ ·) = allj ++ Wj ++ R.map (way ++ ·):=by
          rw [hWs,hRs,List.map_append,← List.append_assoc,hnext]
         have hlong:¬ (allj ++ Wj ++ R.map (way ++ ·)).length ≤ 200:=by rw [List.length_append];omega
         refine ⟨_,delR (key:=kI) (val:=B) (sv:=sI) (L:=L1) (k:=v) u99 key3,?_⟩
         rw [hdel]
         have hMf:MW L clk':=by have:=hM'.del (k:=v);rw [hdel] at this;exact this
         refine ⟨_,⟨ver',clk',hMf,rfl⟩,?_⟩
         have hc2:cap (allj ++ Wj ++ R.map (way ++ ·)) = cap (allj ++ Wj):=cap_app (by omega)
         rw [hall2,hc2,decide_eq_false hlong]
         generalize cap (allj ++ Wj) = alln
         (refine entO_id ?_ ?_ ?_ rfl <;> dsimp only [carL,wellL,legL,gateL,rowW,wayS,natL,mpS_nil,mpS_kf,mpS_kf3,KFR_iff,lookH,id,go_sem,rA,rM,rS] <;> simp [carL,wellL,legL,gateL,rowW,wayS,natL,mpS_nil,mpS_kf,mpS_kf3,KFR_iff,lookH,KFR_iff,KFR_app,KFR,KFL,KF,mtL_same,mtO,nbr])
     refine br_f (by simpa using hca) ?_
     dsimp only [go_sem,rA,rM,rS]
     by_cases hcb:v = l.legs[j].b
     · refine br_t (by simpa using hcb) ?_
       have hoth:otherF l.legs[j] v = l.legs[j].a:=by rw [otherF,if_neg (fun h=>hca h.symm),if_pos hcb.symm]
       dsimp only [go_sem,rA,rM,rS]
       refine ⟨rfl,rfl,?_⟩
       refine raw_get (key:=kI) (sv:=sI) (val:=B) (L:=L1) (k:=l.legs[j].a) (z:=.bool false) (zs:=B false) rfl rfl u99 key3 rfl (by kernel_rfl) (fun w E n ok=>by simp only [R]) ?_ ?_
       · intro b hget
         have hb:b = true ∧ otherF l.legs[j] v ∈ v :: been:=by
          have h:=hL1 l.legs[j].a
          rw [hget] at h
          rw [hoth]
          split at h
          · rename_i hm;exact ⟨Option.some.inj h,hm⟩
          · cases h
         obtain ⟨rfl,hmem⟩:=hb
         dsimp only [Bool.not_true,go_sem,rA,rM,rS]
         repeat (refine gb_skip (by decide) ?_;dsimp only [go_sem,rA,rM,rS])
         refine br_f (by decide) ?_
         dsimp only [go_sem,rA,rM,rS]
         refine ⟨rfl,?_⟩
         refine br_f (by decide) ?_
         dsimp only [go_sem,rA,rM,rS]
         rw [w64_in (n:=(j:Int) + 1) (by omega) (by omega)]
         refine ⟨(j + 1,allj,ver,clk),⟨hlt,hMj,by rw [wayLegs_succ,wayLeg_no hxj (.inr hmem),List.append_nil];exact hallj,hlenj⟩,by simp only;omega,?_⟩
         (refine ent_id ?_ ?_ ?_ rfl rfl <;> dsimp only [carL,wellL,legL,gateL,rowW,wayS,natL,mpS_nil,mpS_kf,mpS_kf3,KFR_iff,id,go_sem,rA,rM,rS] <;> simp [carL,wellL,legL,gateL,rowW,wayS,natL,mpS_nil,mpS_kf,mpS_kf3,KFR_iff,KFR_iff,KFR_app,KFR,KFL,KF,mtL_same,mtO,nbr])
       intro hget
       have hnb:otherF l.legs[j] v ∉ v :: been:=fun hm=>by
        have h:=hL1 l.legs[j].a
        rw [hoth] at hm
        rw [hget,if_pos hm] at h;cases h
       have hn0:¬ otherF l.legs[j] v < 0:=by rw [hoth];omega
       dsimp only [Bool.not_false,go_sem,rA,rM,rS]
       iterate 10 (refine gb_run rfl ?_;dsimp only [go_sem,rA,rM,rS])
       refine call (arrive_ok l p j hlt t t hgl hok.pace hin hin) ?_
       dsimp only [go_sem,rA,rM,rS]
       refine gb_run rfl ?_
       dsimp only [go_sem,rA,rM,rS]
       refine ixa 1 rfl (by decide) ?_
       dsimp only [go_sem,rA,rM,rS]
       iterate 4 (refine gb_run rfl ?_;dsimp only [go_sem,rA,rM,rS])
       refine call (more_ok way j (by omega)) ?_
       dsimp only [wayS,go_sem,rA,rM,rS]
       refine gb_run rfl ?_
       dsimp only [go_sem,rA,rM,rS]
       have hot:=otherF_in hok hxj hn0
       have hih:=ih (v :: been) (otherF l.legs[j] v) (arrK true l.legs[j] p t) (way ++ [j]) allj ver clk L1 (wayS (way ++ [j])) hR' hnb hot.1 (by omega) (by simp;omega) hlenj hMj hL1 (.inl rfl)
       have hWj:(waysL l p to till g (v :: been) (otherF l.legs[j] v) (arrK true l.legs[j] p t)).map (way ++ [j] ++ ·) = (wayLeg l p to till g been v t j).map (way ++ ·):=by
        rw [wayLeg_yes hxj hn0 hnb,List.map_map]
        simp [Function.comp_def]
       rw [hWj,hoth] at hih
       refine callmP [0,1,2,3,4,5,6,7] hih rfl rfl ?_ ?_ ?_ ?_
       · rfl
       · dsimp only [rho,wayS,go_sem,rA,rM,rS]
         simp [KFR_iff,KFR_app,KFR,KFL,KF,mtL_same,mtO,nbr,carL,wellL,legL,gateL,rowW,wayS,natL,mpS_kf,mpS_kf3]
       · dsimp only [rho,lookH,carL,go_sem,rA,rM,rS]
         simp [KFR_iff,KFR_app,KFR,KFL,KF,mtL_same,mtO,nbr,carL,wellL,legL,gateL,rowW,wayS,natL,mpS_kf,mpS_kf3]
       rintro o ⟨ver',clk',hM',rfl⟩
       dsimp only [lookH,carL,go_sem,rA,rM,rS]
       refine gb_run rfl ?_
       dsimp only [Bool.not_false,go_sem,rA,rM,rS]
       have hnext:all ++ (wayLegs l p to till g been v t (j + 1)).map (way ++ ·) = allj ++ (wayLeg l p to till g been v t j).map (way ++ ·):=by
        rw [wayLegs_succ,List.map_append,← List.append_assoc,← hallj]
       generalize hWW:(wayLeg l p to till g been v t j).map (way ++ ·) = Wj at hnext ⊢
       by_cases hsm:(allj ++ Wj).length ≤ 200
       · refine br_f (by simp only [hsm,decide_true];rfl) ?_
         dsimp only [go_sem,rA,rM,rS]
         refine ⟨rfl,?_⟩
         refine br_f (by decide) ?_
         dsimp only [go_sem,rA,rM,rS]
         rw [w64_in (n:=(j:Int) + 1) (by omega) (by omega),cap_id (by omega)]
         rw [← hnext] at hsm ⊢
         refine ⟨(j + 1,_,ver',clk'),⟨hlt,hM',rfl,hsm⟩,by simp only;omega,?_⟩
         generalize all ++ (wayLegs l p to till g been v t (j + 1)).map (way ++ ·) = alln
         (refine ent_id ?_ ?_ ?_ rfl rfl <;> dsimp only [carL,wellL,legL,gateL,rowW,wayS,natL,mpS_nil,mpS_kf,mpS_kf3,KFR_iff,id,go_sem,rA,rM,rS] <;> simp [carL,wellL,legL,gateL,rowW,wayS,natL,mpS_nil,mpS_kf,mpS_kf3,KFR_iff,KFR_iff,KFR_app,KFR,KFL,KF,mtL_same,mtO,nbr])
       · refine br_t (by simp only [hsm,decide_false];rfl) ?_
         dsimp only [go_sem,rA,rM,rS]
         refine ⟨rfl,?_⟩
         refine br_t rfl ?_
         dsimp only [go_sem,rA,rM,rS]
         have hWs:waysL l p to till (g + 1) been v t = wayLegs l p to till g been v t l.legs.length:=by rw [waysL_succ,if_neg hlate,if_neg hto]
         obtain ⟨R,hRs⟩:=wayLegs_split (l:=l) (p:=p) (to:=to) (till:=till) (f:=g) (been:=been) (v:=v) (t:=t) (j:=j + 1) (l.legs.length - (j + 1))
         rw [show j + 1 + (l.legs.length - (j + 1)) = l.legs.length by omega] at hRs
         have hall2:all ++ (waysL l p to till (g + 1) been v t).map (way ++ ·) = allj ++ Wj ++ R.map (way ++ ·):=by
          rw [hWs,hRs,List.map_append,← List.append_assoc,hnext]
         have hlong:¬ (allj ++ Wj ++ R.map (way ++ ·)).length ≤ 200:=by rw [List.length_append];omega
         refine ⟨_,delR (key:=kI) (val:=B) (sv:=sI) (L:=L1) (k:=v) u99 key3,?_⟩
         rw [hdel]
         have hMf:MW L clk':=by have:=hM'.del (k:=v);rw [hdel] at this;exact this
         refine ⟨_,⟨ver',clk',hMf,rfl⟩,?_⟩
         have hc2:cap (allj ++ Wj ++ R.map (way ++ ·)) = cap (allj ++ Wj):=cap_app (by omega)
         rw [hall2,hc2,decide_eq_false hlong]
         generalize cap (allj ++ Wj) = alln
         (refine entO_id ?_ ?_ ?_ rfl <;> dsimp only [carL,wellL,legL,gateL,rowW,wayS,natL,mpS_nil,mpS_kf,mpS_kf3,KFR_iff,lookH,id,go_sem,rA,rM,rS] <;> simp [carL,wellL,legL,gateL,rowW,wayS,natL,mpS_nil,mpS_kf,mpS_kf3,KFR_iff,lookH,KFR_iff,KFR_app,KFR,KFL,KF,mtL_same,mtO,nbr])
     refine br_f (by simpa using hcb) ?_
     dsimp only [go_sem,rA,rM,rS]
     rw [w64_in (n:=(j:Int) + 1) (by omega) (by omega)]
     have hoth:otherF l.legs[j] v = -1:=by rw [otherF,if_neg (fun h=>hca h.symm),if_neg (fun h=>hcb h.symm)]
     refine ⟨(j + 1,allj,ver,clk),⟨hlt,hMj,by rw [wayLegs_succ,wayLeg_no hxj (.inl (by omega)),List.append_nil];exact hallj,hlenj⟩,by simp only;omega,?_⟩
     (refine ent_id ?_ ?_ ?_ rfl rfl <;> dsimp only [carL,wellL,legL,gateL,rowW,wayS,natL,mpS_nil,mpS_kf,mpS_kf3,KFR_iff,id,go_sem,rA,rM,rS] <;> simp [carL,wellL,legL,gateL,rowW,wayS,natL,mpS_nil,mpS_kf,mpS_kf3,KFR_iff,KFR_iff,KFR_app,KFR,KFL,KF,mtL_same,mtO,nbr])
   refine br_f (by simp;omega) ?_
   dsimp only [go_sem,rA,rM,rS]
   have hje:j = l.legs.length:=by omega
   subst hje
   have hWs:waysL l p to till (g + 1) been v t = wayLegs l p to till g been v t l.legs.length:=by rw [waysL_succ,if_neg hlate,if_neg hto]
   refine ⟨_,delR (key:=kI) (val:=B) (sv:=sI) (L:=L1) (k:=v) u99 key3,?_⟩
   rw [hdel]
   have hMf:MW L clk:=by have:=hMj.del (k:=v);rw [hdel] at this;exact this
   refine ⟨_,⟨ver,clk,hMf,rfl⟩,?_⟩
   rw [hWs,← hallj,cap_id (by omega),decide_eq_true hlenj]
   (refine entO_id ?_ ?_ ?_ rfl <;> dsimp only [carL,wellL,legL,gateL,rowW,wayS,natL,mpS_nil,mpS_kf,mpS_kf3,KFR_iff,lookH,id,go_sem,rA,rM,rS] <;> simp [carL,wellL,legL,gateL,rowW,wayS,natL,mpS_nil,mpS_kf,mpS_kf3,KFR_iff,lookH,KFR_iff,KFR_app,KFR,KFL,KF,mtL_same,mtO,nbr])
 · refine gh (ent_slotW (s':=.sl false 1 (way.map natL)) 1 rfl (by subst hw0;exact weak_nil) (fun _ _ _ h=>by cases h)) ?_
   dsimp only [wayS,go_sem,rA,rM,rS]
   refine br ?_ ?_
   · intro hlate
     have hlate:t > till:=of_decide_eq_true hlate
     dsimp only [go_sem,rA,rM,rS]
     refine ⟨_,⟨ver,clk,hM,rfl⟩,?_⟩
     rw [waysL_late hlate,List.map_nil,List.append_nil,cap_id (by omega),decide_eq_true hall]
     (refine entO_id ?_ ?_ ?_ rfl <;> dsimp only [carL,wellL,legL,gateL,rowW,wayS,natL,mpS_nil,mpS_kf,mpS_kf3,KFR_iff,lookH,id,go_sem,rA,rM,rS] <;> simp [carL,wellL,legL,gateL,rowW,wayS,natL,mpS_nil,mpS_kf,mpS_kf3,KFR_iff,lookH,KFR_iff,KFR_app,KFR,KFL,KF,mtL_same,mtO,nbr])
   intro hlate
   have hlate:¬ t > till:=of_decide_eq_false hlate
   dsimp only [go_sem,rA,rM,rS]
   refine br ?_ ?_
   · intro hto
     have hto:v = to:=by simpa using hto
     dsimp only [go_sem,rA,rM,rS]
     refine call (clonev_ok way (by omega)) ?_
     dsimp only [wayS,go_sem,rA,rM,rS]
     simp only [nbr]
     dsimp only [go_sem,rA,rM,rS]
     refine ⟨(by intro c hc;simp only [List.mem_singleton] at hc;subst hc;rfl),by simp;omega,?_⟩
     dsimp only [go_sem,rA,rM,rS]
     simp only [nbr]
     dsimp only [go_sem,rA,rM,rS]
     have e:all.map rowW ++ [[SV.sl false 1 (way.map natL)]] = (all ++ [way]).map rowW:=by simp [rowW,wayS]
     rw [e]
     refine ⟨_,⟨ver + 1,clk,hM,rfl⟩,?_⟩
     rw [waysL_succ,if_neg hlate,if_pos hto]
     simp only [List.map_cons,List.map_nil,List.append_nil,List.length_map]
     rw [cap_id (by simp;omega)]
     have hd:decide (((all ++ [way]).length:Int) ≤ 200) = decide ((all ++ [way]).length ≤ 200):=by simp;omega
     rw [hd]
     (refine entO_id ?_ ?_ ?_ rfl <;> dsimp only [carL,wellL,legL,gateL,rowW,wayS,natL,mpS_nil,mpS_kf,mpS_kf3,KFR_iff,lookH,id,go_sem,rA,rM,rS] <;> simp [carL,wellL,legL,gateL,rowW,wayS,natL,mpS_nil,mpS_kf,mpS_kf3,KFR_iff,lookH,KFR_iff,KFR_app,KFR,KFL,KF,mtL_same,mtO,nbr])
   intro hto
   have hto:¬ v = to:=by simpa using hto
   dsimp only [go_sem,rA,rM,rS]
   refine raw_set (ins:=false) (key:=kI) (val:=B) (L:=L) (k:=v) (v:=true) rfl rfl u99 key3 rfl rfl (by simp) ?_
   dsimp only [go_sem,rA,rM,rS]
   refine ⟨rfl,?_⟩
   have hvL:mget v L = none:=by rw [hbL,if_neg hv]
   have hM1:=hM.set (k:=v) true
   have hL1:beenL (v :: been) (mset clk v true L):=fun u=>by
    rw [mget_set]
    by_cases hu:u = v
    · simp [hu]
    · rw [if_neg hu,hbL]
      simp [hu]
   have hdel:=mdel_set (L:=L) (c:=clk) (b:=true) hvL
   generalize mset clk v true L = L1 at hM1 hL1 hdel ⊢
   generalize mclk clk v L = clk1 at hM1 ⊢
   refine callmL [] (leads_ok l p v) rfl rfl rfl ?_ ?_ ?_
   · exact mtL_same (by simp [carL,wellL,legL,gateL,KFR_iff,KFL,KF])
   · trivial
   dsimp only [leadsO,carL,go_sem,rA,rM,rS]
   refine gh ent_refl ?_
   dsimp only [go_sem,rA,rM,rS]
   refine ⟨b97,fun rec=>?_⟩
   refine y97 ?_
   dsimp only [c97,r97,go_sem,rA,rM,rS]
   refine loopO (fun q:Nat × List (List Nat) × Nat × Nat=>[(10,I q.1)]) (fun q=>[(2,.cells [.mr 6 q.2.2.1] 53),(6,.row q.2.2.1 1 (q.2.1.map rowW) 59),(7,.map (mpS kI B L1) q.2.2.2)])
    (fun q=>q.1 ≤ l.legs.length ∧ MW L1 q.2.2.2 ∧ q.2.1 = all ++ (wayLegs l p to till g been v t q.1).map (way ++ ·) ∧ q.2.1.length ≤ 200) (fun q=>l.legs.length - q.1) (0,all,ver,clk1) ⟨Nat.zero_le _,hM1,by simp [wayLegs_0],hall⟩ ?_ ?_
   · (refine ent_id ?_ ?_ ?_ rfl rfl <;> dsimp only [carL,wellL,legL,gateL,rowW,wayS,natL,mpS_nil,mpS_kf,mpS_kf3,KFR_iff,id,go_sem,rA,rM,rS] <;> simp [carL,wellL,legL,gateL,rowW,wayS,natL,mpS_nil,mpS_kf,mpS_kf3,KFR_iff,KFR_iff,KFR_app,KFR,KFL,KF,mtL_same,mtO,nbr])
   rintro ⟨j,allj,ver,clk⟩ ⟨hj,hMj,hallj,hlenj⟩
   simp only at hj hMj hallj hlenj
   dsimp only [go_sem,rA,rM,rS]
   simp only [List.length_map]
   by_cases hlt:j < l.legs.length
   · refine br_t (by simpa using hlt) ?_
     dsimp only [go_sem,rA,rM,rS]
     refine ixs_map j hlt rfl ?_
     dsimp only [legL,go_sem,rA,rM,rS]
     have hgl:GoodLeg l.legs[j]:=okLand_leg hok.land _ (List.getElem_mem _)
     have hends:=hok.ends (List.getElem_mem hlt)
     have hxj:l.legs[j]? = some l.legs[j]:=List.getElem?_eq_getElem hlt
     have hin:inR 0 100001 t = true:=by simp only [inR,decide_eq_true_eq];omega
     have hab:=arrK_bd (k:=true) (t:=t) hgl hok.pace (by omega)
     by_cases hca:v = l.legs[j].a
     · refine br_t (by simpa using hca) ?_
       have hoth:otherF l.legs[j] v = l.legs[j].b:=by rw [otherF,if_pos hca.symm]
       dsimp only [go_sem,rA,rM,rS]
       refine ⟨rfl,rfl,?_⟩
       refine raw_get (key:=kI) (sv:=sI) (val:=B) (L:=L1) (k:=l.legs[j].b) (z:=.bool false) (zs:=B false) rfl rfl u99 key3 rfl (by kernel_rfl) (fun w E n ok=>by simp only [R]) ?_ ?_
       · intro b hget
         have hb:b = true ∧ otherF l.legs[j] v ∈ v :: been:=by
          have h:=hL1 l.legs[j].b
          rw [hget] at h
          rw [hoth]
          split at h
          · rename_i hm;exact ⟨Option.some.inj h,hm⟩
          · cases h
         obtain ⟨rfl,hmem⟩:=hb
         dsimp only [Bool.not_true,go_sem,rA,rM,rS]
         repeat (refine gb_skip (by decide) ?_;dsimp only [go_sem,rA,rM,rS])
         refine br_f (by decide) ?_
         dsimp only [go_sem,rA,rM,rS]
         refine ⟨rfl,?_⟩
         refine br_f (by decide) ?_
         dsimp only [go_sem,rA,rM,rS]
         rw [w64_in (n:=(j:Int) + 1) (by omega) (by omega)]
         refine ⟨(j + 1,allj,ver,clk),⟨hlt,hMj,by rw [wayLegs_succ,wayLeg_no hxj (.inr hmem),List.append_nil];exact hallj,hlenj⟩,by simp only;omega,?_⟩
         (refine ent_id ?_ ?_ ?_ rfl rfl <;> dsimp only [carL,wellL,legL,gateL,rowW,wayS,natL,mpS_nil,mpS_kf,mpS_kf3,KFR_iff,id,go_sem,rA,rM,rS] <;> simp [carL,wellL,legL,gateL,rowW,wayS,natL,mpS_nil,mpS_kf,mpS_kf3,KFR_iff,KFR_iff,KFR_app,KFR,KFL,KF,mtL_same,mtO,nbr])
       intro hget
       have hnb:otherF l.legs[j] v ∉ v :: been:=fun hm=>by
        have h:=hL1 l.legs[j].b
        rw [hoth] at hm
        rw [hget,if_pos hm] at h;cases h
       have hn0:¬ otherF l.legs[j] v < 0:=by rw [hoth];omega
       dsimp only [Bool.not_false,go_sem,rA,rM,rS]
       iterate 10 (refine gb_run rfl ?_;dsimp only [go_sem,rA,rM,rS])
       refine call (arrive_ok l p j hlt t t hgl hok.pace hin hin) ?_
       dsimp only [go_sem,rA,rM,rS]
       refine gb_run rfl ?_
       dsimp only [go_sem,rA,rM,rS]
       refine ixa 1 rfl (by decide) ?_
       dsimp only [go_sem,rA,rM,rS]
       iterate 4 (refine gb_run rfl ?_;dsimp only [go_sem,rA,rM,rS])
       refine call (more_ok way j (by omega)) ?_
       dsimp only [wayS,go_sem,rA,rM,rS]
       refine gb_run rfl ?_
       dsimp only [go_sem,rA,rM,rS]
       have hot:=otherF_in hok hxj hn0
       have hih:=ih (v :: been) (otherF l.legs[j] v) (arrK true l.legs[j] p t) (way ++ [j]) allj ver clk L1 (wayS (way ++ [j])) hR' hnb hot.1 (by omega) (by simp;omega) hlenj hMj hL1 (.inl rfl)
       have hWj:(waysL l p to till g (v :: been) (otherF l.legs[j] v) (arrK true l.legs[j] p t)).map (way ++ [j] ++ ·) = (wayLeg l p to till g been v t j).map (way ++ ·):=by
        rw [wayLeg_yes hxj hn0 hnb,List.map_map]
        simp [Function.comp_def]
       rw [hWj,hoth] at hih
       refine callmP [0,1,2,3,4,5,6,7] hih rfl rfl ?_ ?_ ?_ ?_
       · rfl
       · dsimp only [rho,wayS,go_sem,rA,rM,rS]
         simp [KFR_iff,KFR_app,KFR,KFL,KF,mtL_same,mtO,nbr,carL,wellL,legL,gateL,rowW,wayS,natL,mpS_kf,mpS_kf3]
       · dsimp only [rho,lookH,carL,go_sem,rA,rM,rS]
         simp [KFR_iff,KFR_app,KFR,KFL,KF,mtL_same,mtO,nbr,carL,wellL,legL,gateL,rowW,wayS,natL,mpS_kf,mpS_kf3]
       rintro o ⟨ver',clk',hM',rfl⟩
       dsimp only [lookH,carL,go_sem,rA,rM,rS]
       refine gb_run rfl ?_
       dsimp only [Bool.not_false,go_sem,rA,rM,rS]
       have hnext:all ++ (wayLegs l p to till g been v t (j + 1)).map (way ++ ·) = allj ++ (wayLeg l p to till g been v t j).map (way ++ ·):=by
        rw [wayLegs_succ,List.map_append,← List.append_assoc,← hallj]
       generalize hWW:(wayLeg l p to till g been v t j).map (way ++ ·) = Wj at hnext ⊢
       by_cases hsm:(allj ++ Wj).length ≤ 200
       · refine br_f (by simp only [hsm,decide_true];rfl) ?_
         dsimp only [go_sem,rA,rM,rS]
         refine ⟨rfl,?_⟩
         refine br_f (by decide) ?_
         dsimp only [go_sem,rA,rM,rS]
         rw [w64_in (n:=(j:Int) + 1) (by omega) (by omega),cap_id (by omega)]
         rw [← hnext] at hsm ⊢
         refine ⟨(j + 1,_,ver',clk'),⟨hlt,hM',rfl,hsm⟩,by simp only;omega,?_⟩
         generalize all ++ (wayLegs l p to till g been v t (j + 1)).map (way ++ ·) = alln
         (refine ent_id ?_ ?_ ?_ rfl rfl <;> dsimp only [carL,wellL,legL,gateL,rowW,wayS,natL,mpS_nil,mpS_kf,mpS_kf3,KFR_iff,id,go_sem,rA,rM,rS] <;> simp [carL,wellL,legL,gateL,rowW,wayS,natL,mpS_nil,mpS_kf,mpS_kf3,KFR_iff,KFR_iff,KFR_app,KFR,KFL,KF,mtL_same,mtO,nbr])
       · refine br_t (by simp only [hsm,decide_false];rfl) ?_
         dsimp only [go_sem,rA,rM,rS]
         refine ⟨rfl,?_⟩
         refine br_t rfl ?_
         dsimp only [go_sem,rA,rM,rS]
         have hWs:waysL l p to till (g + 1) been v t = wayLegs l p to till g been v t l.legs.length:=by rw [waysL_succ,if_neg hlate,if_neg hto]
         obtain ⟨R,hRs⟩:=wayLegs_split (l:=l) (p:=p) (to:=to) (till:=till) (f:=g) (been:=been) (v:=v) (t:=t) (j:=j + 1) (l.legs.length - (j + 1))
         rw [show j + 1 + (l.legs.length - (j + 1)) = l.legs.length by omega] at hRs
         have hall2:all ++ (waysL l p to till (g + 1) been v t).map (way ++ ·) = allj ++ Wj ++ R.map (way ++ ·):=by
          rw [hWs,hRs,List.map_append,← List.append_assoc,hnext]
         have hlong:¬ (allj ++ Wj ++ R.map (way ++ ·)).length ≤ 200:=by rw [List.length_append];omega
         refine ⟨_,delR (key:=kI) (val:=B) (sv:=sI) (L:=L1) (k:=v) u99 key3,?_⟩
         rw [hdel]
         have hMf:MW L clk':=by have:=hM'.del (k:=v);rw [hdel] at this;exact this
         refine ⟨_,⟨ver',clk',hMf,rfl⟩,?_⟩
         have hc2:cap (allj ++ Wj ++ R.map (way ++ ·)) = cap (allj ++ Wj):=cap_app (by omega)
         rw [hall2,hc2,decide_eq_false hlong]
         generalize cap (allj ++ Wj) = alln
         (refine entO_id ?_ ?_ ?_ rfl <;> dsimp only [carL,wellL,legL,gateL,rowW,wayS,natL,mpS_nil,mpS_kf,mpS_kf3,KFR_iff,lookH,id,go_sem,rA,rM,rS] <;> simp [carL,wellL,legL,gateL,rowW,wayS,natL,mpS_nil,mpS_kf,mpS_kf3,KFR_iff,lookH,KFR_iff,KFR_app,KFR,KFL,KF,mtL_same,mtO,nbr])
     refine br_f (by simpa using hca) ?_
     dsimp only [go_sem,rA,rM,rS]
     by_cases hcb:v = l.legs[j].b
     · refine br_t (by simpa using hcb) ?_
       have hoth:otherF l.legs[j] v = l.legs[j].a:=by rw [otherF,if_neg (fun h=>hca h.symm),if_pos hcb.symm]
       dsimp only [go_sem,rA,rM,rS]
       refine ⟨rfl,rfl,?_⟩
       refine raw_get (key:=kI) (sv:=sI) (val:=B) (L:=L1) (k:=l.legs[j].a) (z:=.bool false) (zs:=B false) rfl rfl u99 key3 rfl (by kernel_rfl) (fun w E n ok=>by simp only [R]) ?_ ?_
       · intro b hget
         have hb:b = true ∧ otherF l.legs[j] v ∈ v :: been:=by
          have h:=hL1 l.legs[j].a
          rw [hget] at h
          rw [hoth]
          split at h
          · rename_i hm;exact ⟨Option.some.inj h,hm⟩
          · cases h
         obtain ⟨rfl,hmem⟩:=hb
         dsimp only [Bool.not_true,go_sem,rA,rM,rS]
         repeat (refine gb_skip (by decide) ?_;dsimp only [go_sem,rA,rM,rS])
         refine br_f (by decide) ?_
         dsimp only [go_sem,rA,rM,rS]
         refine ⟨rfl,?_⟩
         refine br_f (by decide) ?_
         dsimp only [go_sem,rA,rM,rS]
         rw [w64_in (n:=(j:Int) + 1) (by omega) (by omega)]
         refine ⟨(j + 1,allj,ver,clk),⟨hlt,hMj,by rw [wayLegs_succ,wayLeg_no hxj (.inr hmem),List.append_nil];exact hallj,hlenj⟩,by simp only;omega,?_⟩
         (refine ent_id ?_ ?_ ?_ rfl rfl <;> dsimp only [carL,wellL,legL,gateL,rowW,wayS,natL,mpS_nil,mpS_kf,mpS_kf3,KFR_iff,id,go_sem,rA,rM,rS] <;> simp [carL,wellL,legL,gateL,rowW,wayS,natL,mpS_nil,mpS_kf,mpS_kf3,KFR_iff,KFR_iff,KFR_app,KFR,KFL,KF,mtL_same,mtO,nbr])
       intro hget
       have hnb:otherF l.legs[j] v ∉ v :: been:=fun hm=>by
        have h:=hL1 l.legs[j].a
        rw [hoth] at hm
        rw [hget,if_pos hm] at h;cases h
       have hn0:¬ otherF l.legs[j] v < 0:=by rw [hoth];omega
       dsimp only [Bool.not_false,go_sem,rA,rM,rS]
       iterate 10 (refine gb_run rfl ?_;dsimp only [go_sem,rA,rM,rS])
       refine call (arrive_ok l p j hlt t t hgl hok.pace hin hin) ?_
       dsimp only [go_sem,rA,rM,rS]
       refine gb_run rfl ?_
       dsimp only [go_sem,rA,rM,rS]
       refine ixa 1 rfl (by decide) ?_
       dsimp only [go_sem,rA,rM,rS]
       iterate 4 (refine gb_run rfl ?_;dsimp only [go_sem,rA,rM,rS])
       refine call (more_ok way j (by omega)) ?_
       dsimp only [wayS,go_sem,rA,rM,rS]
       refine gb_run rfl ?_
       dsimp only [go_sem,rA,rM,rS]
       have hot:=otherF_in hok hxj hn0
       have hih:=ih (v :: been) (otherF l.legs[j] v) (arrK true l.legs[j] p t) (way ++ [j]) allj ver clk L1 (wayS (way ++ [j])) hR' hnb hot.1 (by omega) (by simp;omega) hlenj hMj hL1 (.inl rfl)
       have hWj:(waysL l p to till g (v :: been) (otherF l.legs[j] v) (arrK true l.legs[j] p t)).map (way ++ [j] ++ ·) = (wayLeg l p to till g been v t j).map (way ++ ·):=by
        rw [wayLeg_yes hxj hn0 hnb,List.map_map]
        simp [Function.comp_def]
       rw [hWj,hoth] at hih
       refine callmP [0,1,2,3,4,5,6,7] hih rfl rfl ?_ ?_ ?_ ?_
       · rfl
       · dsimp only [rho,wayS,go_sem,rA,rM,rS]
         simp [KFR_iff,KFR_app,KFR,KFL,KF,mtL_same,mtO,nbr,carL,wellL,legL,gateL,rowW,wayS,natL,mpS_kf,mpS_kf3]
       · dsimp only [rho,lookH,carL,go_sem,rA,rM,rS]
         simp [KFR_iff,KFR_app,KFR,KFL,KF,mtL_same,mtO,nbr,carL,wellL,legL,gateL,rowW,wayS,natL,mpS_kf,mpS_kf3]
       rintro o ⟨ver',clk',hM',rfl⟩
       dsimp only [lookH,carL,go_sem,rA,rM,rS]
       refine gb_run rfl ?_
       dsimp only [Bool.not_false,go_sem,rA,rM,rS]
       have hnext:all ++ (wayLegs l p to till g been v t (j + 1)).map (way ++ ·) = allj ++ (wayLeg l p to till g been v t j).map (way ++ ·):=by
        rw [wayLegs_succ,List.map_append,← List.append_assoc,← hallj]
       generalize hWW:(wayLeg l p to till g been v t j).map (way ++ ·) = Wj at hnext ⊢
       by_cases hsm:(allj ++ Wj).length ≤ 200
       · refine br_f (by simp only [hsm,decide_true];rfl) ?_
         dsimp only [go_sem,rA,rM,rS]
         refine ⟨rfl,?_⟩
         refine br_f (by decide) ?_
         dsimp only [go_sem,rA,rM,rS]
         rw [w64_in (n:=(j:Int) + 1) (by omega) (by omega),cap_id (by omega)]
         rw [← hnext] at hsm ⊢
         refine ⟨(j + 1,_,ver',clk'),⟨hlt,hM',rfl,hsm⟩,by simp only;omega,?_⟩
         generalize all ++ (wayLegs l p to till g been v t (j + 1)).map (way ++ ·) = alln
         (refine ent_id ?_ ?_ ?_ rfl rfl <;> dsimp only [carL,wellL,legL,gateL,rowW,wayS,natL,mpS_nil,mpS_kf,mpS_kf3,KFR_iff,id,go_sem,rA,rM,rS] <;> simp [carL,wellL,legL,gateL,rowW,wayS,natL,mpS_nil,mpS_kf,mpS_kf3,KFR_iff,KFR_iff,KFR_app,KFR,KFL,KF,mtL_same,mtO,nbr])
       · refine br_t (by simp only [hsm,decide_false];rfl) ?_
         dsimp only [go_sem,rA,rM,rS]
         refine ⟨rfl,?_⟩
         refine br_t rfl ?_
         dsimp only [go_sem,rA,rM,rS]
         have hWs:waysL l p to till (g + 1) been v t = wayLegs l p to till g been v t l.legs.length:=by rw [waysL_succ,if_neg hlate,if_neg hto]
         obtain ⟨R,hRs⟩:=wayLegs_split (l:=l) (p:=p) (to:=to) (till:=till) (f:=g) (been:=been) (v:=v) (t:=t) (j:=j + 1) (l.legs.length - (j + 1))
         rw [show j + 1 + (l.legs.length - (j + 1)) = l.legs.length by omega] at hRs
         have hall2:all ++ (waysL l p to till (g + 1) been v t).map (way ++ ·) = allj ++ Wj ++ R.map (way ++ ·):=by
          rw [hWs,hRs,List.map_append,← List.append_assoc,hnext]
         have hlong:¬ (allj ++ Wj ++ R.map (way ++ ·)).length ≤ 200:=by rw [List.length_append];omega
         refine ⟨_,delR (key:=kI) (val:=B) (sv:=sI) (L:=L1) (k:=v) u99 key3,?_⟩
         rw [hdel]
         have hMf:MW L clk':=by have:=hM'.del (k:=v);rw [hdel] at this;exact this
         refine ⟨_,⟨ver',clk',hMf,rfl⟩,?_⟩
         have hc2:cap (allj ++ Wj ++ R.map (way ++ ·)) = cap (allj ++ Wj):=cap_app (by omega)
         rw [hall2,hc2,decide_eq_false hlong]
         generalize cap (allj ++ Wj) = alln
         (refine entO_id ?_ ?_ ?_ rfl <;> dsimp only [carL,wellL,legL,gateL,rowW,wayS,natL,mpS_nil,mpS_kf,mpS_kf3,KFR_iff,lookH,id,go_sem,rA,rM,rS] <;> simp [carL,wellL,legL,gateL,rowW,wayS,natL,mpS_nil,mpS_kf,mpS_kf3,KFR_iff,lookH,KFR_iff,KFR_app,KFR,KFL,KF,mtL_same,mtO,nbr])
     refine br_f (by simpa using hcb) ?_
     dsimp only [go_sem,rA,rM,rS]
     rw [w64_in (n:=(j:Int) + 1) (by omega) (by omega)]
     have hoth:otherF l.legs[j] v = -1:=by rw [otherF,if_neg (fun h=>hca h.symm),if_neg (fun h=>hcb h.symm)]
     refine ⟨(j + 1,allj,ver,clk),⟨hlt,hMj,by rw [wayLegs_succ,wayLeg_no hxj (.inl (by omega)),List.append_nil];exact hallj,hlenj⟩,by simp only;omega,?_⟩
     (refine ent_id ?_ ?_ ?_ rfl rfl <;> dsimp only [carL,wellL,legL,gateL,rowW,wayS,natL,mpS_nil,mpS_kf,mpS_kf3,KFR_iff,id,go_sem,rA,rM,rS] <;> simp [carL,wellL,legL,gateL,rowW,wayS,natL,mpS_nil,mpS_kf,mpS_kf3,KFR_iff,KFR_iff,KFR_app,KFR,KFL,KF,mtL_same,mtO,nbr])
   refine br_f (by simp;omega) ?_
   dsimp only [go_sem,rA,rM,rS]
   have hje:j = l.legs.length:=by omega
   subst hje
   have hWs:waysL l p to till (g + 1) been v t = wayLegs l p to till g been v t l.legs.length:=by rw [waysL_succ,if_neg hlate,if_neg hto]
   refine ⟨_,delR (key:=kI) (val:=B) (sv:=sI) (L:=L1) (k:=v) u99 key3,?_⟩
   rw [hdel]
   have hMf:MW L clk:=by have:=hMj.del (k:=v);rw [hdel] at this;exact this
   refine ⟨_,⟨ver,clk,hMf,rfl⟩,?_⟩
   rw [hWs,← hallj,cap_id (by omega),decide_eq_true hlenj]
   (refine entO_id ?_ ?_ ?_ rfl <;> dsimp only [carL,wellL,legL,gateL,rowW,wayS,natL,mpS_nil,mpS_kf,mpS_kf3,KFR_iff,lookH,id,go_sem,rA,rM,rS] <;> simp [carL,wellL,legL,gateL,rowW,wayS,natL,mpS_nil,mpS_kf,mpS_kf3,KFR_iff,lookH,KFR_iff,KFR_app,KFR,KFL,KF,mtL_same,mtO,nbr])
end Go.Proofs.Ytkjldleglbbkeaa
set_option maxRecDepth 100000
set_option maxHeartbeats 4000000
namespace Go.Proofs.Ytkjldleglbbkeaa
open Go Go.Sx Go.Azalai
def waysR (l:Land) (p:Span) (s to day till:Int):SV:=.tup [rowsZ (waysE l p s to day till) 1 ((waysF l p s to day till).map rowW),I (waysE l p s to day till)]
theorem waysR_kf (l:Land) (p:Span) (s to day till:Int):KF (waysR l p s to day till):=by
 unfold waysR rowsZ;split <;> simp [KFL,KF,KFR_iff,rowW,wayS,natL]
theorem wways_ok (l:Land) (hs:Small l) (s to day till:Int) (p:Span):Ct Try.prog 29 [.agg (landL l),I s,I to,I day,I till,.agg (spanL p)] (waysR l p s to day till):=by
 have hw:=hs.1
 have hleg:=hs.2.1
 refine t29 (by simp [landL,wellL,legL,gateL,spanL,KFR_iff,KFL,KF]) (waysR_kf _ _ _ _ _ _) ?_
 dsimp only [c29,r29,landL,spanL,go_sem,rA,rM,rS]
 by_cases ha:askF l p = 0
 case neg =>
  refine call (open_err l hs p ha) ?_
  dsimp only [go_sem,rA,rM,rS]
  refine br_t (by simpa using ha) ?_
  dsimp only [go_sem,rA,rM,rS]
  simp [waysR,waysE,ha,rowsZ]
 have hok:=ask_ok ha
 refine call (open_ok l hs p ha) ?_
 dsimp only [carL,go_sem,rA,rM,rS]
 refine br_f (by decide) ?_
 dsimp only [go_sem,rA,rM,rS]
 simp only [List.length_map]
 have h1:=okLand_len hok.land
 rw [w64_in (n:=(l.wells.length:Int) - 1) (by omega) (by omega)]
 refine call (from2 0 (l.wells.length - 1) s to true) ?_
 dsimp only [go_sem,rA,rM,rS]
 repeat (first | (refine gb ?_;dsimp only [go_sem,rA,rM,rS]) | (refine call (from2 0 100000 day till true) ?_;dsimp only [go_sem,rA,rM,rS]))
 by_cases hr:(inR 0 (l.wells.length - 1) s && inR 0 (l.wells.length - 1) to && inR 0 100000 day && inR 0 100000 till) = true
 case neg =>
  have hb:∀ a b c d:Bool,¬ (a && b && c && d) = true → (!(a && b) || !(c && d)) = true:=by decide
  refine br_t (hb _ _ _ _ hr) ?_
  dsimp only [go_sem,rA,rM,rS]
  simp [waysR,waysE,ha,rowsZ,hr]
 have hb:∀ a b c d:Bool,(a && b && c && d) = true → (!(a && b) || !(c && d)) = false:=by decide
 refine br_f (hb _ _ _ _ hr) ?_
 dsimp only [go_sem,rA,rM,rS]
 have he:waysE l p s to day till = if (waysF l p s to day till).length > 200 then 9 else 0:=by simp only [waysE,waysF,ha,hr];simp
 simp only [Bool.and_eq_true,inR,decide_eq_true_eq] at hr
 obtain ⟨⟨⟨hr1,hr3⟩,hd⟩,hu⟩:=hr
 refine raw_mkmap rfl rfl rfl ?_
 dsimp only [go_sem,rA,rM,rS]
 refine gh (ent_nilcell 5 0 1 59 rfl rfl) ?_
 dsimp only [go_sem,rA,rM,rS]
 have hlk:=look_ok l p hs hok till to (l.wells.length + 1) [] s day [] [] 0 0 [] (.v (.slice none 0 0)) Room.start (by simp) (by omega) (by omega) (by simp;omega) (by simp) MW.nil (fun u=>by simp [mget]) (.inr ⟨rfl,rfl⟩)
 have hW:(waysL l p to till (l.wells.length + 1) [] s day).map (([]:List Nat) ++ ·) = waysF l p s to day till:=by simp [waysF]
 rw [hW] at hlk
 refine callmP [2,1,5,7,4,8,9,6] hlk rfl rfl ?_ ?_ ?_ ?_
 · rfl
 · dsimp only [rho,go_sem,rA,rM,rS]
   simp [KFR_iff,KFR_app,KFR,KFL,KF,mtL_same,mtO,nbr]
 · dsimp only [rho,lookH,carL,go_sem,rA,rM,rS]
   simp [KFR_iff,KFR_app,KFR,KFL,KF,mtL_same,mtO,nbr,mpS_nil,carL,wellL,legL,gateL,rowW,wayS,natL]
 rintro o ⟨ver',clk',hM',rfl⟩
 dsimp only [lookH,carL,go_sem,rA,rM,rS]
 try simp only [List.nil_append]
 by_cases hl:(waysF l p s to day till).length ≤ 200
 · refine br_f (by simp only [hl,decide_true];rfl) ?_
   dsimp only [go_sem,rA,rM,rS]
   simp only [nbr]
   dsimp only [go_sem,rA,rM,rS]
   rw [waysR,he,if_neg (by omega),cap_id (by omega)]
   simp [rowsZ,vwN]
 · refine br_t (by simp only [hl,decide_false];rfl) ?_
   dsimp only [go_sem,rA,rM,rS]
   rw [waysR,he,if_pos (by omega)]
   simp [rowsZ]
end Go.Proofs.Ytkjldleglbbkeaa
set_option maxRecDepth 100000
namespace Go.Proofs.Ytkjldleglbbkeaa
open Go Go.Sx
def c6:SC:=(.seq (.reg [
 ⟨some 6,.box (.t 0) 0 25,none,[]⟩,
 ⟨some 10,.box (.t 4) 0 29,none,[]⟩,
 ⟨some 12,.mv (.c (.bool false)),none,[]⟩])
 (.seq (.seq (.reg [
 ⟨some 29,.ld (.t 6) 2 true,none,[]⟩,
 ⟨some 30,.call 16 [.t 29],none,[]⟩,
 ⟨some 31,.mv (.t 30),none,[]⟩,
 ⟨some 32,.mv (.t 5),some (31,false),[]⟩,
 ⟨some 33,.len (.t 32),some (31,false),[]⟩,
 ⟨some 34,.bin .gtr (.t 33) (.c (.int .i64 40)),some (31,false),[]⟩,
 ⟨some 35,.pick (.t 31) (.c (.bool true)) (.t 34),none,[]⟩])
 (.cond (.t 35)
 (.seq (.reg [
  ⟨some 12,.mv (.c (.bool true)),none,[]⟩])
  .ret)
 .skip))
 (.seq (.reg [
 ⟨some 36,.ld (.t 6) 2 true,none,[]⟩,
 ⟨some 37,.call 21 [.t 36],none,[]⟩,
 ⟨some 38,.bsl 1 3 [],none,[]⟩,
 ⟨some 39,.mv (.t 5),none,[]⟩,
 ⟨some 40,.app 1 8 3 (.t 38) (.t 39),none,[]⟩,
 ⟨some 13,.alloc [.slice none 0 0,.slice none 0 0] 25,none,[]⟩,
 ⟨none,.st (.t 13) (.t 37) 2,none,[]⟩,
 ⟨some 14,.mv (.t 40),none,[]⟩])
 (.seq (.reg [
 ⟨some 42,.ld (.t 13) 2 true,none,[]⟩,
 ⟨some 43,.mv (.t 1),none,[]⟩,
 ⟨some 44,.mv (.t 3),none,[]⟩,
 ⟨some 45,.ld (.t 10) 2 true,none,[]⟩,
 ⟨some 46,.call 32 [.t 42,.t 43,.t 44,.t 45],none,[]⟩,
 ⟨some 41,.mv (.t 46),none,[]⟩,
 ⟨some 47,.ext (.t 41) 0,none,[]⟩,
 ⟨some 48,.ext (.t 41) 1,none,[]⟩,
 ⟨some 15,.mv (.t 47),none,[]⟩,
 ⟨some 16,.mv (.t 48),none,[]⟩])
 (.seq (.reg [
 ⟨some 50,.ld (.t 6) 2 true,none,[]⟩,
 ⟨some 51,.mv (.t 1),none,[]⟩,
 ⟨some 52,.mv (.t 3),none,[]⟩,
 ⟨some 53,.ld (.t 10) 2 true,none,[]⟩,
 ⟨some 54,.call 33 [.t 50,.t 51,.t 52,.t 53],none,[]⟩,
 ⟨some 49,.mv (.t 54),none,[]⟩,
 ⟨some 55,.ext (.t 49) 0,none,[]⟩,
 ⟨some 56,.ext (.t 49) 1,none,[]⟩,
 ⟨some 17,.mv (.t 55),none,[]⟩,
 ⟨some 18,.mv (.t 56),none,[]⟩])
 (.seq (.reg [
 ⟨some 58,.ld (.t 13) 2 true,none,[]⟩,
 ⟨some 59,.mv (.t 1),none,[]⟩,
 ⟨some 60,.mv (.t 3),none,[]⟩,
 ⟨some 61,.ld (.t 10) 2 true,none,[]⟩,
 ⟨some 62,.mv (.t 14),none,[]⟩,
 ⟨some 63,.call 34 [.t 58,.t 59,.t 60,.t 61,.t 62],none,[]⟩,
 ⟨some 57,.mv (.t 63),none,[]⟩,
 ⟨some 64,.ext (.t 57) 0,none,[]⟩,
 ⟨some 65,.ext (.t 57) 1,none,[]⟩,
 ⟨some 66,.ext (.t 57) 2,none,[]⟩,
 ⟨some 19,.mv (.t 64),none,[]⟩,
 ⟨some 20,.mv (.t 65),none,[]⟩,
 ⟨some 21,.mv (.t 66),none,[]⟩])
 (.seq (.reg [
 ⟨some 68,.ld (.t 6) 2 true,none,[]⟩,
 ⟨some 69,.mv (.t 1),none,[]⟩,
 ⟨some 70,.mv (.t 3),none,[]⟩,
 ⟨some 71,.ld (.t 10) 2 true,none,[]⟩,
 ⟨some 72,.mv (.t 5),none,[]⟩,
 ⟨some 73,.call 35 [.t 68,.t 69,.t 70,.t 71,.t 72],none,[]⟩,
 ⟨some 67,.mv (.t 73),none,[]⟩,
 ⟨some 74,.ext (.t 67) 0,none,[]⟩,
 ⟨some 75,.ext (.t 67) 1,none,[]⟩,
 ⟨some 76,.ext (.t 67) 2,none,[]⟩,
 ⟨some 22,.mv (.t 74),none,[]⟩,
 ⟨some 23,.mv (.t 75),none,[]⟩,
 ⟨some 24,.mv (.t 76),none,[]⟩])
 (.seq (.reg [
 ⟨some 78,.ld (.t 13) 2 true,none,[]⟩,
 ⟨some 79,.mv (.t 1),none,[]⟩,
 ⟨some 80,.mv (.t 2),none,[]⟩,
 ⟨some 81,.mv (.t 3),none,[]⟩,
 ⟨some 82,.ld (.t 10) 2 true,none,[]⟩,
 ⟨some 83,.call 36 [.t 78,.t 79,.t 80,.t 81,.t 82],none,[]⟩,
 ⟨some 77,.mv (.t 83),none,[]⟩,
 ⟨some 84,.ext (.t 77) 0,none,[]⟩,
 ⟨some 85,.ext (.t 77) 1,none,[]⟩,
 ⟨some 25,.mv (.t 84),none,[]⟩,
 ⟨some 26,.mv (.t 85),none,[]⟩])
 (.seq (.reg [
 ⟨some 87,.ld (.t 6) 2 true,none,[]⟩,
 ⟨some 88,.mv (.t 1),none,[]⟩,
 ⟨some 89,.mv (.t 2),none,[]⟩,
 ⟨some 90,.mv (.t 3),none,[]⟩,
 ⟨some 91,.ld (.t 10) 2 true,none,[]⟩,
 ⟨some 92,.call 37 [.t 87,.t 88,.t 89,.t 90,.t 91],none,[]⟩,
 ⟨some 86,.mv (.t 92),none,[]⟩,
 ⟨some 93,.ext (.t 86) 0,none,[]⟩,
 ⟨some 94,.ext (.t 86) 1,none,[]⟩,
 ⟨some 27,.mv (.t 93),none,[]⟩,
 ⟨some 28,.mv (.t 94),none,[]⟩])
 (.seq (.reg [
 ⟨some 95,.mv (.t 15),none,[]⟩,
 ⟨some 96,.mv (.t 17),none,[]⟩,
 ⟨some 97,.call 38 [.t 95,.t 96],none,[]⟩,
 ⟨some 98,.mv (.t 97),none,[]⟩,
 ⟨some 99,.mv (.t 16),some (98,true),[]⟩,
 ⟨some 100,.mv (.t 18),some (98,true),[]⟩,
 ⟨some 101,.bin .eql (.t 99) (.t 100),some (98,true),[]⟩,
 ⟨some 102,.pick (.t 98) (.t 101) (.c (.bool false)),none,[]⟩,
 ⟨some 103,.mv (.t 102),none,[]⟩,
 ⟨some 104,.mv (.t 19),some (103,true),[]⟩,
 ⟨some 105,.mv (.t 22),some (103,true),[]⟩,
 ⟨some 106,.call 39 [.t 104,.t 105],some (103,true),[]⟩,
 ⟨some 107,.pick (.t 103) (.t 106) (.c (.bool false)),none,[]⟩,
 ⟨some 108,.mv (.t 107),none,[]⟩,
 ⟨some 109,.mv (.t 20),some (108,true),[]⟩,
 ⟨some 110,.mv (.t 23),some (108,true),[]⟩,
 ⟨some 111,.bin .eql (.t 109) (.t 110),some (108,true),[]⟩,
 ⟨some 112,.pick (.t 108) (.t 111) (.c (.bool false)),none,[]⟩,
 ⟨some 113,.mv (.t 112),none,[]⟩,
 ⟨some 114,.mv (.t 21),some (113,true),[]⟩,
 ⟨some 115,.mv (.t 24),some (113,true),[]⟩,
 ⟨some 116,.bin .eql (.t 114) (.t 115),some (113,true),[]⟩,
 ⟨some 117,.pick (.t 113) (.t 116) (.c (.bool false)),none,[]⟩,
 ⟨some 118,.mv (.t 117),none,[]⟩,
 ⟨some 119,.mv (.t 25),some (118,true),[]⟩,
 ⟨some 120,.mv (.t 27),some (118,true),[]⟩,
 ⟨some 121,.call 40 [.t 119,.t 120],some (118,true),[]⟩,
 ⟨some 122,.pick (.t 118) (.t 121) (.c (.bool false)),none,[]⟩,
 ⟨some 123,.mv (.t 122),none,[]⟩,
 ⟨some 124,.mv (.t 26),some (123,true),[]⟩,
 ⟨some 125,.mv (.t 28),some (123,true),[]⟩,
 ⟨some 126,.bin .eql (.t 124) (.t 125),some (123,true),[]⟩,
 ⟨some 127,.pick (.t 123) (.t 126) (.c (.bool false)),none,[]⟩,
 ⟨some 128,.mv (.t 127),none,[]⟩,
 ⟨some 129,.ld (.t 13) 2 true,some (128,true),[]⟩,
 ⟨some 130,.ld (.t 6) 2 true,some (128,true),[]⟩,
 ⟨some 131,.call 28 [.t 129,.t 130],some (128,true),[]⟩,
 ⟨some 132,.pick (.t 128) (.t 131) (.c (.bool false)),none,[]⟩,
 ⟨some 133,.mv (.t 132),none,[]⟩,
 ⟨some 134,.mv (.t 14),some (133,true),[]⟩,
 ⟨some 135,.mv (.t 5),some (133,true),[]⟩,
 ⟨some 136,.call 40 [.t 134,.t 135],some (133,true),[]⟩,
 ⟨some 137,.pick (.t 133) (.t 136) (.c (.bool false)),none,[]⟩,
 ⟨some 12,.mv (.t 137),none,[]⟩])
 .ret))))))))))
end Go.Proofs.Ytkjldleglbbkeaa
set_option maxRecDepth 100000
set_option maxHeartbeats 4000000
namespace Go.Proofs.Ytkjldleglbbkeaa
open Go Go.Sx Go.Azalai
theorem span_ext {a b:Span} (h1:a.lo = b.lo) (h2:a.hi = b.hi):a = b:=by
 obtain ⟨_,_⟩:=a
 obtain ⟨_,_⟩:=b
 simp_all
theorem stop_ext {a b:Stop} (h1:a.leg = b.leg) (h2:a.well = b.well) (h3:a.leaves.lo = b.leaves.lo) (h4:a.leaves.hi = b.leaves.hi) (h5:a.arrives.lo = b.arrives.lo) (h6:a.arrives.hi = b.arrives.hi):a = b:=by
 obtain ⟨_,_,⟨_,_⟩,⟨_,_⟩⟩:=a
 obtain ⟨_,_,⟨_,_⟩,⟨_,_⟩⟩:=b
 simp_all
theorem same38_ok (a b:List Span) (ha:a.length ≤ 1000000) (hb:b.length ≤ 1000000) (c c':Bool):Ct Try.prog 38 [.sl c 2 (a.map spanL),.sl c' 2 (b.map spanL)] (B (decide (a = b))):=by
 refine t38 (by simp [KFR_iff,spanL,KFL,KF]) (by simp [KFL,KF]) ?_
 dsimp only [c38,r38,go_sem,rA,rM,rS]
 simp only [List.length_map]
 by_cases hl:a.length = b.length
 case neg =>
  refine br_t (by simp;omega) ?_
  dsimp only [go_sem,rA,rM,rS]
  have:a ≠ b:=fun e=>hl (by rw [e])
  simp [this]
 refine br_f (by simp;omega) ?_
 dsimp only [go_sem,rA,rM,rS]
 refine loopO (fun j:Nat=>[(5,I j)]) (fun _=>[]) (fun j=>j ≤ a.length ∧ a.take j = b.take j) (fun j=>a.length - j) 0 ⟨Nat.zero_le _,rfl⟩ ?_ ?_
 · (refine ent_id ?_ ?_ ?_ rfl rfl <;> dsimp only [spanL,id,go_sem,rA,rM,rS] <;> simp [spanL,KFR_iff,KFR_app,KFR,KFL,KF,mtL_same,mtO,nbr])
 rintro j ⟨hj,ht⟩
 dsimp only [go_sem,rA,rM,rS]
 simp only [List.length_map]
 by_cases hlt:j < a.length
 · refine br_t (by simpa using hlt) ?_
   dsimp only [go_sem,rA,rM,rS]
   have hltb:j < b.length:=by omega
   refine ixs_map j hlt rfl ?_
   dsimp only [go_sem,rA,rM,rS]
   refine ixs_map j hltb rfl ?_
   dsimp only [spanL,go_sem,rA,rM,rS]
   by_cases he:a[j] = b[j]
   · refine br_f (by rw [he];simp [ngB]) ?_
     dsimp only [go_sem,rA,rM,rS]
     rw [w64_in (n:=(j:Int) + 1) (by omega) (by omega)]
     refine ⟨j + 1,⟨hlt,?_⟩,by omega,?_⟩
     · rw [List.take_succ_eq_append_getElem hlt,List.take_succ_eq_append_getElem hltb,ht,he]
     (refine ent_id ?_ ?_ ?_ rfl rfl <;> dsimp only [spanL,id,go_sem,rA,rM,rS] <;> simp [spanL,KFR_iff,KFR_app,KFR,KFL,KF,mtL_same,mtO,nbr])
   · refine br_t ?_ ?_
     · apply Decidable.byContradiction;intro hq;simp at hq;exact he (span_ext hq.1 hq.2)
     dsimp only [go_sem,rA,rM,rS]
     have:a ≠ b:=fun e=>he (by subst e;rfl)
     simp [this]
 refine br_f (by simp;omega) ?_
 dsimp only [go_sem,rA,rM,rS]
 have:a = b:=by
  rw [List.take_of_length_le (by omega),List.take_of_length_le (by omega)] at ht
  exact ht
 simp [this]
theorem same39_ok (a b:List Stop) (ha:a.length ≤ 1000000) (hb:b.length ≤ 1000000) (c c':Bool):Ct Try.prog 39 [.sl c 6 (a.map stopL),.sl c' 6 (b.map stopL)] (B (decide (a = b))):=by
 refine t39 (by simp [KFR_iff,stopL,KFL,KF]) (by simp [KFL,KF]) ?_
 dsimp only [c39,r39,go_sem,rA,rM,rS]
 simp only [List.length_map]
 by_cases hl:a.length = b.length
 case neg =>
  refine br_t (by simp;omega) ?_
  dsimp only [go_sem,rA,rM,rS]
  have:a ≠ b:=fun e=>hl (by rw [e])
  simp [this]
 refine br_f (by simp;omega) ?_
 dsimp only [go_sem,rA,rM,rS]
 refine loopO (fun j:Nat=>[(5,I j)]) (fun _=>[]) (fun j=>j ≤ a.length ∧ a.take j = b.take j) (fun j=>a.length - j) 0 ⟨Nat.zero_le _,rfl⟩ ?_ ?_
 · (refine ent_id ?_ ?_ ?_ rfl rfl <;> dsimp only [stopL,id,go_sem,rA,rM,rS] <;> simp [stopL,KFR_iff,KFR_app,KFR,KFL,KF,mtL_same,mtO,nbr])
 rintro j ⟨hj,ht⟩
 dsimp only [go_sem,rA,rM,rS]
 simp only [List.length_map]
 by_cases hlt:j < a.length
 · refine br_t (by simpa using hlt) ?_
   dsimp only [go_sem,rA,rM,rS]
   have hltb:j < b.length:=by omega
   refine ixs_map j hlt rfl ?_
   dsimp only [go_sem,rA,rM,rS]
   refine ixs_map j hltb rfl ?_
   dsimp only [stopL,go_sem,rA,rM,rS]
   by_cases he:a[j] = b[j]
   · refine br_f (by rw [he];simp [ngB]) ?_
     dsimp only [go_sem,rA,rM,rS]
     rw [w64_in (n:=(j:Int) + 1) (by omega) (by omega)]
     refine ⟨j + 1,⟨hlt,?_⟩,by omega,?_⟩
     · rw [List.take_succ_eq_append_getElem hlt,List.take_succ_eq_append_getElem hltb,ht,he]
     (refine ent_id ?_ ?_ ?_ rfl rfl <;> dsimp only [stopL,id,go_sem,rA,rM,rS] <;> simp [stopL,KFR_iff,KFR_app,KFR,KFL,KF,mtL_same,mtO,nbr])
   · refine br_t ?_ ?_
     · apply Decidable.byContradiction;intro hq;simp at hq;exact he (stop_ext hq.1 hq.2.1 hq.2.2.1 hq.2.2.2.1 hq.2.2.2.2.1 hq.2.2.2.2.2)
     dsimp only [go_sem,rA,rM,rS]
     have:a ≠ b:=fun e=>he (by subst e;rfl)
     simp [this]
 refine br_f (by simp;omega) ?_
 dsimp only [go_sem,rA,rM,rS]
 have:a = b:=by
  rw [List.take_of_length_le (by omega),List.take_of_length_le (by omega)] at ht
  exact ht
 simp [this]
theorem same40_ok (a b:List Int) (ha:a.length ≤ 1000000) (hb:b.length ≤ 1000000) (c c':Bool):Ct Try.prog 40 [.sl c 1 (a.map intL),.sl c' 1 (b.map intL)] (B (decide (a = b))):=by
 refine t40 (by simp [KFR_iff,intL,KFL,KF]) (by simp [KFL,KF]) ?_
 dsimp only [c40,r40,go_sem,rA,rM,rS]
 simp only [List.length_map]
 by_cases hl:a.length = b.length
 case neg =>
  refine br_t (by simp;omega) ?_
  dsimp only [go_sem,rA,rM,rS]
  have:a ≠ b:=fun e=>hl (by rw [e])
  simp [this]
 refine br_f (by simp;omega) ?_
 dsimp only [go_sem,rA,rM,rS]
 refine loopO (fun j:Nat=>[(5,I j)]) (fun _=>[]) (fun j=>j ≤ a.length ∧ a.take j = b.take j) (fun j=>a.length - j) 0 ⟨Nat.zero_le _,rfl⟩ ?_ ?_
 · (refine ent_id ?_ ?_ ?_ rfl rfl <;> dsimp only [intL,id,go_sem,rA,rM,rS] <;> simp [intL,KFR_iff,KFR_app,KFR,KFL,KF,mtL_same,mtO,nbr])
 rintro j ⟨hj,ht⟩
 dsimp only [go_sem,rA,rM,rS]
 simp only [List.length_map]
 by_cases hlt:j < a.length
 · refine br_t (by simpa using hlt) ?_
   dsimp only [go_sem,rA,rM,rS]
   have hltb:j < b.length:=by omega
   refine ixs_map j hlt rfl ?_
   dsimp only [go_sem,rA,rM,rS]
   refine ixs_map j hltb rfl ?_
   dsimp only [intL,go_sem,rA,rM,rS]
   by_cases he:a[j] = b[j]
   · refine br_f (by rw [he];simp [ngB]) ?_
     dsimp only [go_sem,rA,rM,rS]
     rw [w64_in (n:=(j:Int) + 1) (by omega) (by omega)]
     refine ⟨j + 1,⟨hlt,?_⟩,by omega,?_⟩
     · rw [List.take_succ_eq_append_getElem hlt,List.take_succ_eq_append_getElem hltb,ht,he]
     (refine ent_id ?_ ?_ ?_ rfl rfl <;> dsimp only [intL,id,go_sem,rA,rM,rS] <;> simp [intL,KFR_iff,KFR_app,KFR,KFL,KF,mtL_same,mtO,nbr])
   · refine br_t ?_ ?_
     · simpa using he
     dsimp only [go_sem,rA,rM,rS]
     have:a ≠ b:=fun e=>he (by subst e;rfl)
     simp [this]
 refine br_f (by simp;omega) ?_
 dsimp only [go_sem,rA,rM,rS]
 have:a = b:=by
  rw [List.take_of_length_le (by omega),List.take_of_length_le (by omega)] at ht
  exact ht
 simp [this]
end Go.Proofs.Ytkjldleglbbkeaa
set_option maxRecDepth 100000
namespace Go.Proofs.Ytkjldleglbbkeaa
open Go Go.Sx
def c41:SC:=(.seq (.reg [
 ⟨some 0,.mv (.c (.bool false)),none,[]⟩])
 (.seq (.reg [
 ⟨some 18,.call 56 [],none,[]⟩,
 ⟨some 19,.call 57 [],none,[]⟩,
 ⟨some 20,.call 22 [.t 18,.c (.int .i64 2),.t 19],none,[]⟩,
 ⟨some 17,.mv (.t 20),none,[]⟩,
 ⟨some 21,.ext (.t 17) 0,none,[]⟩,
 ⟨some 22,.ext (.t 17) 1,none,[]⟩,
 ⟨some 1,.alloc [.int .i64 0,.int .i64 0] 29,none,[]⟩,
 ⟨none,.st (.t 1) (.t 21) 2,none,[]⟩,
 ⟨some 2,.mv (.t 22),none,[]⟩])
 (.seq (.reg [
 ⟨some 24,.call 56 [],none,[]⟩,
 ⟨some 25,.call 57 [],none,[]⟩,
 ⟨some 26,.call 24 [.t 24,.c (.int .i64 0),.c (.int .i64 6),.t 25],none,[]⟩,
 ⟨some 23,.mv (.t 26),none,[]⟩,
 ⟨some 27,.ext (.t 23) 0,none,[]⟩,
 ⟨some 28,.ext (.t 23) 1,none,[]⟩,
 ⟨some 3,.alloc [.int .i64 0,.int .i64 0] 29,none,[]⟩,
 ⟨none,.st (.t 3) (.t 27) 2,none,[]⟩,
 ⟨some 4,.mv (.t 28),none,[]⟩])
 (.seq (.reg [
 ⟨some 30,.call 56 [],none,[]⟩,
 ⟨some 31,.call 57 [],none,[]⟩,
 ⟨some 32,.bsl 1 3 [.c (.int .i64 0),.c (.int .i64 1)],none,[]⟩,
 ⟨some 33,.call 34 [.t 30,.c (.int .i64 0),.c (.int .i64 6),.t 31,.t 32],none,[]⟩,
 ⟨some 29,.mv (.t 33),none,[]⟩,
 ⟨some 34,.ext (.t 29) 0,none,[]⟩,
 ⟨some 35,.ext (.t 29) 1,none,[]⟩,
 ⟨some 36,.ext (.t 29) 2,none,[]⟩,
 ⟨some 5,.mv (.t 34),none,[]⟩,
 ⟨some 6,.mv (.t 35),none,[]⟩,
 ⟨some 7,.mv (.t 36),none,[]⟩])
 (.seq (.reg [
 ⟨some 38,.call 56 [],none,[]⟩,
 ⟨some 39,.call 57 [],none,[]⟩,
 ⟨some 40,.call 32 [.t 38,.c (.int .i64 0),.c (.int .i64 6),.t 39],none,[]⟩,
 ⟨some 37,.mv (.t 40),none,[]⟩,
 ⟨some 41,.ext (.t 37) 0,none,[]⟩,
 ⟨some 42,.ext (.t 37) 1,none,[]⟩,
 ⟨some 8,.mv (.t 41),none,[]⟩,
 ⟨some 9,.mv (.t 42),none,[]⟩])
 (.seq (.reg [
 ⟨some 44,.call 56 [],none,[]⟩,
 ⟨some 45,.call 57 [],none,[]⟩,
 ⟨some 46,.call 36 [.t 44,.c (.int .i64 0),.c (.int .i64 2),.c (.int .i64 6),.t 45],none,[]⟩,
 ⟨some 43,.mv (.t 46),none,[]⟩,
 ⟨some 47,.ext (.t 43) 0,none,[]⟩,
 ⟨some 48,.ext (.t 43) 1,none,[]⟩,
 ⟨some 10,.mv (.t 47),none,[]⟩,
 ⟨some 11,.mv (.t 48),none,[]⟩])
 (.seq (.reg [
 ⟨some 50,.call 56 [],none,[]⟩,
 ⟨some 51,.call 57 [],none,[]⟩,
 ⟨some 52,.call 29 [.t 50,.c (.int .i64 0),.c (.int .i64 2),.c (.int .i64 6),.c (.int .i64 21),.t 51],none,[]⟩,
 ⟨some 49,.mv (.t 52),none,[]⟩,
 ⟨some 53,.ext (.t 49) 0,none,[]⟩,
 ⟨some 54,.ext (.t 49) 1,none,[]⟩,
 ⟨some 12,.mv (.t 53),none,[]⟩,
 ⟨some 13,.mv (.t 54),none,[]⟩])
 (.seq (.reg [
 ⟨some 56,.call 56 [],none,[]⟩,
 ⟨some 57,.build [.int .i64 0,.int .i64 0,.int .i64 0] [(0,1,.c (.int .i64 1)),(2,1,.c (.int .i64 4000))],none,[]⟩,
 ⟨some 58,.bsl 3 40 [.t 57],none,[]⟩,
 ⟨some 59,.call 17 [.t 56,.c (.int .i64 1),.t 58,.c (.int .i64 2)],none,[]⟩,
 ⟨some 55,.mv (.t 59),none,[]⟩,
 ⟨some 60,.ext (.t 55) 0,none,[]⟩,
 ⟨some 61,.ext (.t 55) 1,none,[]⟩,
 ⟨some 62,.ext (.t 55) 2,none,[]⟩,
 ⟨some 14,.alloc [.int .i64 0,.int .i64 0] 29,none,[]⟩,
 ⟨none,.st (.t 14) (.t 60) 2,none,[]⟩,
 ⟨some 15,.mv (.t 61),none,[]⟩,
 ⟨some 16,.mv (.t 62),none,[]⟩])
 (.seq (.regd [0,1,2,3,4,5,6,7,8,9,10,11,12,13,14,15,16,17,18,19,20,21,22,23,24,25,26,27,28,29,30,31,32,33,34,35,36,37,38,39,40,41,42,43,44,45,46,47,48,49,50,51,52,53,54,55,56,57,58,59,60,61,62,63,64,65,66,67,68,69,70,71,72] [
 .op ⟨some 63,.mv (.t 2),none,[]⟩,
 .op ⟨some 64,.bin .eql (.t 63) (.c (.int .i64 0)),none,[0]⟩,
 .op ⟨some 65,.mv (.t 64),none,[1]⟩,
 .op ⟨some 66,.ld (.t 1) 2 true,some (65,true),[2]⟩,
 .op ⟨some 67,.call 50 [.c (.int .i64 7),.c (.int .i64 12)],some (65,true),[2]⟩,
 .op ⟨some 68,.eqs false true [1,1] (.t 66) (.t 67),some (65,true),[2,3,4]⟩,
 .op ⟨some 69,.pick (.t 65) (.t 68) (.c (.bool false)),none,[2,5]⟩,
 .op ⟨some 70,.mv (.t 69),none,[4,6]⟩,
 .op ⟨some 71,.mv (.t 4),some (70,true),[7]⟩,
 .op ⟨some 72,.bin .eql (.t 71) (.c (.int .i64 0)),some (70,true),[7,8]⟩,
 .op ⟨some 73,.pick (.t 70) (.t 72) (.c (.bool false)),none,[7,9]⟩,
 .op ⟨some 74,.mv (.t 73),none,[7,10]⟩,
 .op ⟨some 75,.ld (.t 3) 2 true,some (74,true),[11]⟩,
 .op ⟨some 76,.call 50 [.c (.int .i64 6),.c (.int .i64 7)],some (74,true),[11]⟩,
 .op ⟨some 77,.eqs false true [1,1] (.t 75) (.t 76),some (74,true),[11,12,13]⟩,
 .op ⟨some 78,.pick (.t 74) (.t 77) (.c (.bool false)),none,[11,14]⟩,
 .op ⟨some 79,.mv (.t 78),none,[13,15]⟩,
 .op ⟨some 80,.mv (.t 7),some (79,true),[16]⟩,
 .op ⟨some 81,.bin .eql (.t 80) (.c (.int .i64 0)),some (79,true),[16,17]⟩,
 .op ⟨some 82,.pick (.t 79) (.t 81) (.c (.bool false)),none,[16,18]⟩,
 .op ⟨some 83,.mv (.t 82),none,[16,19]⟩,
 .op ⟨some 84,.mv (.t 5),some (83,true),[20]⟩,
 .op ⟨some 85,.call 50 [.c (.int .i64 6),.c (.int .i64 7)],some (83,true),[20]⟩,
 .op ⟨some 86,.call 50 [.c (.int .i64 9),.c (.int .i64 12)],some (83,true),[20,22]⟩,
 .op ⟨some 87,.build [.int .i64 0,.int .i64 0,.int .i64 0,.int .i64 0,.int .i64 0,.int .i64 0] [(0,1,.c (.int .i64 0)),(1,1,.c (.int .i64 1)),(2,2,.t 85),(4,2,.t 86)],some (83,true),[20,22,23]⟩,
 .op ⟨some 88,.call 50 [.c (.int .i64 9),.c (.int .i64 18)],some (83,true),[20,23]⟩,
 .op ⟨some 89,.call 50 [.c (.int .i64 11),.c (.int .i64 21)],some (83,true),[20,25]⟩,
 .op ⟨some 90,.build [.int .i64 0,.int .i64 0,.int .i64 0,.int .i64 0,.int .i64 0,.int .i64 0] [(0,1,.c (.int .i64 1)),(1,1,.c (.int .i64 2)),(2,2,.t 88),(4,2,.t 89)],some (83,true),[20,25,26]⟩,
 .op ⟨some 91,.bsl 6 92 [.t 87,.t 90],some (83,true),[20,24,27]⟩,
 .op ⟨some 92,.call 39 [.t 84,.t 91],some (83,true),[20,21,26,28]⟩,
 .op ⟨some 93,.pick (.t 83) (.t 92) (.c (.bool false)),none,[20,29]⟩,
 .op ⟨some 94,.mv (.t 93),none,[29,30]⟩,
 .op ⟨some 95,.mv (.t 9),some (94,true),[31]⟩,
 .op ⟨some 96,.bin .eql (.t 95) (.c (.int .i64 0)),some (94,true),[31,32]⟩,
 .op ⟨some 97,.pick (.t 94) (.t 96) (.c (.bool false)),none,[31,33]⟩,
 .op ⟨some 98,.mv (.t 97),none,[31,34]⟩,
 .op ⟨some 99,.mv (.t 8),some (98,true),[35]⟩,
 .op ⟨some 100,.call 50 [.c (.int .i64 6),.c (.int .i64 6)],some (98,true),[35]⟩,
 .op ⟨some 101,.call 50 [.c (.int .i64 9),.c (.int .i64 12)],some (98,true),[35,37]⟩,
 .op ⟨some 102,.call 50 [.c (.int .i64 11),.c (.int .i64 18)],some (98,true),[35,38]⟩,
 .op ⟨some 103,.bsl 2 29 [.t 100,.t 101,.t 102],some (98,true),[35,37,38,39]⟩,
 .op ⟨some 104,.call 38 [.t 99,.t 103],some (98,true),[35,36,39,40]⟩,
 .op ⟨some 105,.pick (.t 98) (.t 104) (.c (.bool false)),none,[35,41]⟩,
 .op ⟨some 106,.mv (.t 105),none,[41,42]⟩,
 .op ⟨some 107,.mv (.t 11),some (106,true),[43]⟩,
 .op ⟨some 108,.bin .eql (.t 107) (.c (.int .i64 0)),some (106,true),[43,44]⟩,
 .op ⟨some 109,.pick (.t 106) (.t 108) (.c (.bool false)),none,[43,45]⟩,
 .op ⟨some 110,.mv (.t 109),none,[43,46]⟩,
 .op ⟨some 111,.mv (.t 10),some (110,true),[47]⟩,
 .op ⟨some 112,.bsl 1 3 [.c (.int .i64 2)],some (110,true),[47]⟩,
 .op ⟨some 113,.call 40 [.t 111,.t 112],some (110,true),[47,48,49]⟩,
 .op ⟨some 114,.pick (.t 110) (.t 113) (.c (.bool false)),none,[47,50]⟩,
 .op ⟨some 115,.mv (.t 114),none,[50,51]⟩,
 .op ⟨some 116,.mv (.t 13),some (115,true),[52]⟩,
 .op ⟨some 117,.bin .eql (.t 116) (.c (.int .i64 0)),some (115,true),[52,53]⟩,
 .op ⟨some 118,.pick (.t 115) (.t 117) (.c (.bool false)),none,[52,54]⟩,
 .op ⟨some 119,.mv (.t 118),none,[52,55]⟩,
 .op ⟨some 120,.mv (.t 12),some (119,true),[56]⟩,
 .op ⟨some 121,.bsl 1 3 [.c (.int .i64 0),.c (.int .i64 1)],some (119,true),[56]⟩,
 .op ⟨some 122,.bsl 1 3 [.c (.int .i64 2)],some (119,true),[56]⟩,
 .op ⟨some 123,.bsl 1 59 [.t 121,.t 122],some (119,true),[56,58,59]⟩,
 .op ⟨some 124,.call 31 [.t 120,.t 123],some (119,true),[56,57,60]⟩,
 .op ⟨some 125,.pick (.t 119) (.t 124) (.c (.bool false)),none,[56,61]⟩,
 .op ⟨some 126,.mv (.t 125),none,[61,62]⟩,
 .op ⟨some 127,.mv (.t 16),some (126,true),[63]⟩,
 .op ⟨some 128,.bin .eql (.t 127) (.c (.int .i64 0)),some (126,true),[63,64]⟩,
 .op ⟨some 129,.pick (.t 126) (.t 128) (.c (.bool false)),none,[63,65]⟩,
 .op ⟨some 130,.mv (.t 129),none,[63,66]⟩,
 .op ⟨some 131,.ld (.t 14) 2 true,some (130,true),[67]⟩,
 .op ⟨some 132,.call 50 [.c (.int .i64 1000),.c (.int .i64 5000)],some (130,true),[67]⟩,
 .op ⟨some 133,.eqs false true [1,1] (.t 131) (.t 132),some (130,true),[67,68,69]⟩,
 .op ⟨some 134,.pick (.t 130) (.t 133) (.c (.bool false)),none,[67,70]⟩,
 .op ⟨some 0,.mv (.t 134),none,[0,1,2,3,4,5,6,7,8,9,10,11,12,13,14,15,16,17,18,19,20,21,22,23,24,25,26,27,28,29,30,31,32,33,34,35,36,37,38,39,40,41,42,43,44,45,46,47,48,49,50,51,52,53,54,55,56,57,58,59,60,61,62,63,64,65,66,67,68,69,70,71]⟩] 0 0 [
])
 .ret)))))))))
def r41:List RV:=[.tmp 0]
theorem n41:Try.f41.ntmps = 135:=by kernel_rfl
theorem b41:bodyB Try.prog 41 = true:=by kernel_rfl
theorem c41_ok:cmpC Try.prog c41 ((Try.f41.body).getD .skip) = true:=by kernel_rfl
theorem r41_ok:cmpR Try.prog r41 Try.f41.results.toList = true:=by kernel_rfl
theorem t41 {args:List SV} {res:SV} (ka:KFL args) (kr:KF res) (h:sx Try.prog Y0 0 c41 (st0 args 135) (retK r41 res)) (hA:Nat.ble args.length 135 = true:=by rfl):Ct Try.prog 41 args res:=ct_intro Try.func41 rfl b41 c41_ok r41_ok n41 (Nat.le_of_ble_eq_true hA) ka kr h
def c50:SC:=(.seq (.reg [
 ⟨some 4,.alloc [.int .i64 0,.int .i64 0] 29,none,[]⟩])
 (.seq (.reg [
 ⟨some 5,.mv (.t 0),none,[]⟩,
 ⟨some 6,.mv (.t 1),none,[]⟩,
 ⟨some 7,.build [.int .i64 0,.int .i64 0] [(0,1,.t 5),(1,1,.t 6)],none,[]⟩,
 ⟨none,.st (.t 4) (.t 7) 2,none,[]⟩])
 .ret))
def r50:List RV:=[.cell 4 2 true]
theorem n50:Try.f50.ntmps = 8:=by kernel_rfl
theorem b50:bodyB Try.prog 50 = true:=by kernel_rfl
theorem c50_ok:cmpC Try.prog c50 ((Try.f50.body).getD .skip) = true:=by kernel_rfl
theorem r50_ok:cmpR Try.prog r50 Try.f50.results.toList = true:=by kernel_rfl
theorem t50 {args:List SV} {res:SV} (ka:KFL args) (kr:KF res) (h:sx Try.prog Y0 0 c50 (st0 args 8) (retK r50 res)) (hA:Nat.ble args.length 8 = true:=by rfl):Ct Try.prog 50 args res:=ct_intro Try.func50 rfl b50 c50_ok r50_ok n50 (Nat.le_of_ble_eq_true hA) ka kr h
def c56:SC:=(.seq (.reg [
 ⟨some 0,.alloc [.slice none 0 0,.slice none 0 0] 25,none,[]⟩])
 (.seq (.reg [
 ⟨some 1,.build [.int .i64 0,.int .i64 0,.int .i64 0,.int .i64 0,.int .i64 0,.int .i64 0,.int .i64 0,.int .i64 0,.int .i64 0] [],none,[]⟩,
 ⟨some 2,.call 50 [.c (.int .i64 1000),.c (.int .i64 2000)],none,[]⟩,
 ⟨some 3,.call 50 [.c (.int .i64 3000),.c (.int .i64 5000)],none,[]⟩,
 ⟨some 4,.build [.int .i64 0,.int .i64 0,.int .i64 0,.int .i64 0,.int .i64 0,.int .i64 0,.int .i64 0,.int .i64 0,.int .i64 0] [(0,1,.c (.int .i64 90000)),(2,1,.c (.int .i64 20)),(3,2,.t 2),(5,1,.c (.int .i64 10000)),(6,2,.t 3)],none,[]⟩,
 ⟨some 5,.build [.int .i64 0,.int .i64 0,.int .i64 0,.int .i64 0,.int .i64 0,.int .i64 0,.int .i64 0,.int .i64 0,.int .i64 0] [(0,1,.c (.int .i64 140000))],none,[]⟩,
 ⟨some 6,.bsl 9 109 [.t 1,.t 4,.t 5],none,[]⟩,
 ⟨some 7,.call 50 [.c (.int .i64 90000),.c (.int .i64 100000)],none,[]⟩,
 ⟨some 8,.call 50 [.c (.int .i64 5),.c (.int .i64 7)],none,[]⟩,
 ⟨some 9,.call 50 [.c (.int .i64 20),.c (.int .i64 30)],none,[]⟩,
 ⟨some 10,.build [.int .i64 0,.int .i64 0,.int .i64 0,.int .i64 0] [(0,2,.t 8),(2,2,.t 9)],none,[]⟩,
 ⟨some 11,.bsl 4 95 [.t 10],none,[]⟩,
 ⟨some 12,.build [.int .i64 0,.int .i64 0,.int .i64 0,.int .i64 0,.slice none 0 0] [(0,1,.c (.int .i64 0)),(1,1,.c (.int .i64 1)),(2,2,.t 7),(4,1,.t 11)],none,[]⟩,
 ⟨some 13,.call 50 [.c (.int .i64 50000),.c (.int .i64 50000)],none,[]⟩,
 ⟨some 14,.call 50 [.c (.int .i64 12),.c (.int .i64 13)],none,[]⟩,
 ⟨some 15,.build [.int .i64 0,.int .i64 0,.int .i64 0,.int .i64 0] [(2,2,.t 14)],none,[]⟩,
 ⟨some 16,.call 50 [.c (.int .i64 18),.c (.int .i64 18)],none,[]⟩,
 ⟨some 17,.call 50 [.c (.int .i64 40),.c (.int .i64 50)],none,[]⟩,
 ⟨some 18,.build [.int .i64 0,.int .i64 0,.int .i64 0,.int .i64 0] [(0,2,.t 16),(2,2,.t 17)],none,[]⟩,
 ⟨some 19,.bsl 4 95 [.t 15,.t 18],none,[]⟩,
 ⟨some 20,.build [.int .i64 0,.int .i64 0,.int .i64 0,.int .i64 0,.slice none 0 0] [(0,1,.c (.int .i64 1)),(1,1,.c (.int .i64 2)),(2,2,.t 13),(4,1,.t 19)],none,[]⟩,
 ⟨some 21,.call 50 [.c (.int .i64 200000),.c (.int .i64 240000)],none,[]⟩,
 ⟨some 22,.call 50 [.c (.int .i64 99),.c (.int .i64 99)],none,[]⟩,
 ⟨some 23,.build [.int .i64 0,.int .i64 0,.int .i64 0,.int .i64 0] [(2,2,.t 22)],none,[]⟩,
 ⟨some 24,.bsl 4 95 [.t 23],none,[]⟩,
 ⟨some 25,.build [.int .i64 0,.int .i64 0,.int .i64 0,.int .i64 0,.slice none 0 0] [(0,1,.c (.int .i64 0)),(1,1,.c (.int .i64 2)),(2,2,.t 21),(4,1,.t 24)],none,[]⟩,
 ⟨some 26,.bsl 5 86 [.t 12,.t 20,.t 25],none,[]⟩,
 ⟨some 27,.build [.slice none 0 0,.slice none 0 0] [(0,1,.t 6),(1,1,.t 26)],none,[]⟩,
 ⟨none,.st (.t 0) (.t 27) 2,none,[]⟩])
 .ret))
def r56:List RV:=[.cell 0 2 true]
theorem n56:Try.f56.ntmps = 28:=by kernel_rfl
theorem b56:bodyB Try.prog 56 = true:=by kernel_rfl
theorem c56_ok:cmpC Try.prog c56 ((Try.f56.body).getD .skip) = true:=by kernel_rfl
theorem r56_ok:cmpR Try.prog r56 Try.f56.results.toList = true:=by kernel_rfl
def c57:SC:=(.seq (.reg [
 ⟨some 0,.alloc [.int .i64 0,.int .i64 0] 29,none,[]⟩])
 (.seq (.reg [
 ⟨some 1,.call 50 [.c (.int .i64 20000),.c (.int .i64 30000)],none,[]⟩,
 ⟨none,.st (.t 0) (.t 1) 2,none,[]⟩])
 .ret))
def r57:List RV:=[.cell 0 2 true]
theorem n57:Try.f57.ntmps = 2:=by kernel_rfl
theorem b57:bodyB Try.prog 57 = true:=by kernel_rfl
theorem c57_ok:cmpC Try.prog c57 ((Try.f57.body).getD .skip) = true:=by kernel_rfl
theorem r57_ok:cmpR Try.prog r57 Try.f57.results.toList = true:=by kernel_rfl
theorem t57 {args:List SV} {res:SV} (ka:KFL args) (kr:KF res) (h:sx Try.prog Y0 0 c57 (st0 args 2) (retK r57 res)) (hA:Nat.ble args.length 2 = true:=by rfl):Ct Try.prog 57 args res:=ct_intro Try.func57 rfl b57 c57_ok r57_ok n57 (Nat.le_of_ble_eq_true hA) ka kr h
def c8:SC:=(.seq (.reg [
 ⟨some 5,.box (.t 0) 0 25,none,[]⟩,
 ⟨some 6,.box (.t 1) 0 3,none,[]⟩,
 ⟨some 8,.box (.t 3) 0 29,none,[]⟩,
 ⟨some 10,.mv (.c (.bool false)),none,[]⟩])
 (.seq (.reg [
 ⟨some 20,.call 41 [],none,[]⟩,
 ⟨some 11,.mv (.t 20),none,[]⟩])
 (.seq (.seq (.reg [
 ⟨some 21,.mv (.t 11),none,[]⟩,
 ⟨some 22,.un .not (.t 21),none,[]⟩])
 (.cond (.t 22)
 (.seq (.reg [
  ⟨some 10,.mv (.c (.bool false)),none,[]⟩])
  .ret)
 .skip))
 (.seq (.seq (.reg [
 ⟨some 23,.ld (.t 5) 2 true,none,[]⟩,
 ⟨some 24,.ld (.t 8) 2 true,none,[]⟩,
 ⟨some 25,.call 42 [.t 23,.t 24],none,[]⟩,
 ⟨some 26,.un .not (.t 25),none,[]⟩,
 ⟨some 27,.mv (.t 26),none,[]⟩,
 ⟨some 28,.ld (.t 6) 1 false,some (27,false),[]⟩,
 ⟨some 29,.bin .lss (.t 28) (.c (.int .i64 0)),some (27,false),[]⟩,
 ⟨some 30,.pick (.t 27) (.c (.bool true)) (.t 29),none,[]⟩,
 ⟨some 31,.mv (.t 30),none,[]⟩,
 ⟨some 32,.ld (.t 6) 1 false,some (31,false),[]⟩,
 ⟨some 33,.addo (.t 5) 1,some (31,false),[]⟩,
 ⟨some 34,.ld (.t 33) 1 false,some (31,false),[]⟩,
 ⟨some 35,.len (.t 34),some (31,false),[]⟩,
 ⟨some 36,.bin .geq (.t 32) (.t 35),some (31,false),[]⟩,
 ⟨some 37,.pick (.t 31) (.c (.bool true)) (.t 36),none,[]⟩,
 ⟨some 38,.mv (.t 37),none,[]⟩,
 ⟨some 39,.mv (.t 2),some (38,false),[]⟩,
 ⟨some 40,.bin .lss (.t 39) (.c (.int .i64 0)),some (38,false),[]⟩,
 ⟨some 41,.pick (.t 38) (.c (.bool true)) (.t 40),none,[]⟩,
 ⟨some 42,.mv (.t 41),none,[]⟩,
 ⟨some 43,.mv (.t 2),some (42,false),[]⟩,
 ⟨some 44,.bin .gtr (.t 43) (.c (.int .i64 100000)),some (42,false),[]⟩,
 ⟨some 45,.pick (.t 42) (.c (.bool true)) (.t 44),none,[]⟩])
 (.cond (.t 45)
 (.seq (.reg [
  ⟨some 46,.mv (.t 11),none,[]⟩,
  ⟨some 10,.mv (.t 46),none,[]⟩])
  .ret)
 .skip))
 (.seq (.reg [
 ⟨some 48,.ld (.t 5) 2 true,none,[]⟩,
 ⟨some 49,.ld (.t 6) 1 false,none,[]⟩,
 ⟨some 50,.mv (.t 2),none,[]⟩,
 ⟨some 51,.ld (.t 8) 2 true,none,[]⟩,
 ⟨some 52,.call 24 [.t 48,.t 49,.t 50,.t 51],none,[]⟩,
 ⟨some 47,.mv (.t 52),none,[]⟩,
 ⟨some 53,.ext (.t 47) 0,none,[]⟩,
 ⟨some 54,.ext (.t 47) 1,none,[]⟩,
 ⟨some 12,.alloc [.int .i64 0,.int .i64 0] 29,none,[]⟩,
 ⟨none,.st (.t 12) (.t 53) 2,none,[]⟩,
 ⟨some 13,.mv (.t 54),none,[]⟩])
 (.seq (.reg [
 ⟨some 56,.ld (.t 5) 2 true,none,[]⟩,
 ⟨some 57,.ld (.t 6) 1 false,none,[]⟩,
 ⟨some 58,.ld (.t 8) 2 true,none,[]⟩,
 ⟨some 59,.call 22 [.t 56,.t 57,.t 58],none,[]⟩,
 ⟨some 55,.mv (.t 59),none,[]⟩,
 ⟨some 60,.ext (.t 55) 0,none,[]⟩,
 ⟨some 61,.ext (.t 55) 1,none,[]⟩,
 ⟨some 14,.alloc [.int .i64 0,.int .i64 0] 29,none,[]⟩,
 ⟨none,.st (.t 14) (.t 60) 2,none,[]⟩,
 ⟨some 15,.mv (.t 61),none,[]⟩])
 (.seq (.seq (.reg [
 ⟨some 62,.mv (.t 13),none,[]⟩,
 ⟨some 63,.bin .neq (.t 62) (.c (.int .i64 0)),none,[]⟩,
 ⟨some 64,.mv (.t 63),none,[]⟩,
 ⟨some 65,.mv (.t 15),some (64,false),[]⟩,
 ⟨some 66,.bin .neq (.t 65) (.c (.int .i64 0)),some (64,false),[]⟩,
 ⟨some 67,.pick (.t 64) (.c (.bool true)) (.t 66),none,[]⟩,
 ⟨some 68,.mv (.t 67),none,[]⟩,
 ⟨some 69,.addo (.t 14) 0,some (68,false),[]⟩,
 ⟨some 70,.ld (.t 69) 1 false,some (68,false),[]⟩,
 ⟨some 71,.bin .lss (.t 70) (.c (.int .i64 1)),some (68,false),[]⟩,
 ⟨some 72,.pick (.t 68) (.c (.bool true)) (.t 71),none,[]⟩,
 ⟨some 73,.mv (.t 72),none,[]⟩,
 ⟨some 74,.addo (.t 14) 0,some (73,false),[]⟩,
 ⟨some 75,.ld (.t 74) 1 false,some (73,false),[]⟩,
 ⟨some 76,.addo (.t 14) 1,some (73,false),[]⟩,
 ⟨some 77,.ld (.t 76) 1 false,some (73,false),[]⟩,
 ⟨some 78,.bin .gtr (.t 75) (.t 77),some (73,false),[]⟩,
 ⟨some 79,.pick (.t 73) (.c (.bool true)) (.t 78),none,[]⟩,
 ⟨some 80,.mv (.t 79),none,[]⟩,
 ⟨some 81,.addo (.t 12) 0,some (80,false),[]⟩,
 ⟨some 82,.ld (.t 81) 1 false,some (80,false),[]⟩,
 ⟨some 83,.mv (.t 2),some (80,false),[]⟩,
 ⟨some 84,.bin .lss (.t 82) (.t 83),some (80,false),[]⟩,
 ⟨some 85,.pick (.t 80) (.c (.bool true)) (.t 84),none,[]⟩,
 ⟨some 86,.mv (.t 85),none,[]⟩,
 ⟨some 87,.addo (.t 12) 0,some (86,false),[]⟩,
 ⟨some 88,.ld (.t 87) 1 false,some (86,false),[]⟩,
 ⟨some 89,.addo (.t 12) 1,some (86,false),[]⟩,
 ⟨some 90,.ld (.t 89) 1 false,some (86,false),[]⟩,
 ⟨some 91,.bin .gtr (.t 88) (.t 90),some (86,false),[]⟩,
 ⟨some 92,.pick (.t 86) (.c (.bool true)) (.t 91),none,[]⟩,
 ⟨some 93,.mv (.t 92),none,[]⟩,
 ⟨some 94,.addo (.t 12) 1,some (93,false),[]⟩,
 ⟨some 95,.ld (.t 94) 1 false,some (93,false),[]⟩,
 ⟨some 96,.bin .gtr (.t 95) (.c (.int .i64 100001)),some (93,false),[]⟩,
 ⟨some 97,.pick (.t 93) (.c (.bool true)) (.t 96),none,[]⟩])
 (.cond (.t 97)
 (.seq (.reg [
  ⟨some 10,.mv (.c (.bool false)),none,[]⟩])
  .ret)
 .skip))
 (.seq (.reg [
 ⟨some 98,.addo (.t 5) 1,none,[]⟩,
 ⟨some 99,.ld (.t 98) 1 false,none,[]⟩,
 ⟨some 100,.ld (.t 6) 1 false,none,[]⟩,
 ⟨some 101,.ixs (.t 99) (.t 100) 5,none,[]⟩,
 ⟨some 102,.addo (.t 101) 2,none,[]⟩,
 ⟨some 103,.ld (.t 102) 2 true,none,[]⟩,
 ⟨some 16,.alloc [.int .i64 0,.int .i64 0] 29,none,[]⟩,
 ⟨none,.st (.t 16) (.t 103) 2,none,[]⟩])
 (.seq (.seq (.reg [
 ⟨some 104,.addo (.t 14) 0,none,[]⟩,
 ⟨some 105,.ld (.t 104) 1 false,none,[]⟩,
 ⟨some 106,.addo (.t 8) 1,none,[]⟩,
 ⟨some 107,.ld (.t 106) 1 false,none,[]⟩,
 ⟨some 108,.bin .mul (.t 105) (.t 107),none,[]⟩,
 ⟨some 109,.addo (.t 16) 0,none,[]⟩,
 ⟨some 110,.ld (.t 109) 1 false,none,[]⟩,
 ⟨some 111,.bin .lss (.t 108) (.t 110),none,[]⟩,
 ⟨some 112,.mv (.t 111),none,[]⟩,
 ⟨some 113,.addo (.t 14) 0,some (112,false),[]⟩,
 ⟨some 114,.ld (.t 113) 1 false,some (112,false),[]⟩,
 ⟨some 115,.bin .sub (.t 114) (.c (.int .i64 1)),some (112,false),[]⟩,
 ⟨some 116,.addo (.t 8) 1,some (112,false),[]⟩,
 ⟨some 117,.ld (.t 116) 1 false,some (112,false),[]⟩,
 ⟨some 118,.bin .mul (.t 115) (.t 117),some (112,false),[]⟩,
 ⟨some 119,.addo (.t 16) 0,some (112,false),[]⟩,
 ⟨some 120,.ld (.t 119) 1 false,some (112,false),[]⟩,
 ⟨some 121,.bin .geq (.t 118) (.t 120),some (112,false),[]⟩,
 ⟨some 122,.pick (.t 112) (.c (.bool true)) (.t 121),none,[]⟩,
 ⟨some 123,.mv (.t 122),none,[]⟩,
 ⟨some 124,.addo (.t 14) 1,some (123,false),[]⟩,
 ⟨some 125,.ld (.t 124) 1 false,some (123,false),[]⟩,
 ⟨some 126,.addo (.t 8) 0,some (123,false),[]⟩,
 ⟨some 127,.ld (.t 126) 1 false,some (123,false),[]⟩,
 ⟨some 128,.bin .mul (.t 125) (.t 127),some (123,false),[]⟩,
 ⟨some 129,.addo (.t 16) 1,some (123,false),[]⟩,
 ⟨some 130,.ld (.t 129) 1 false,some (123,false),[]⟩,
 ⟨some 131,.bin .lss (.t 128) (.t 130),some (123,false),[]⟩,
 ⟨some 132,.pick (.t 123) (.c (.bool true)) (.t 131),none,[]⟩,
 ⟨some 133,.mv (.t 132),none,[]⟩,
 ⟨some 134,.addo (.t 14) 1,some (133,false),[]⟩,
 ⟨some 135,.ld (.t 134) 1 false,some (133,false),[]⟩,
 ⟨some 136,.bin .sub (.t 135) (.c (.int .i64 1)),some (133,false),[]⟩,
 ⟨some 137,.addo (.t 8) 0,some (133,false),[]⟩,
 ⟨some 138,.ld (.t 137) 1 false,some (133,false),[]⟩,
 ⟨some 139,.bin .mul (.t 136) (.t 138),some (133,false),[]⟩,
 ⟨some 140,.addo (.t 16) 1,some (133,false),[]⟩,
 ⟨some 141,.ld (.t 140) 1 false,some (133,false),[]⟩,
 ⟨some 142,.bin .geq (.t 139) (.t 141),some (133,false),[]⟩,
 ⟨some 143,.pick (.t 133) (.c (.bool true)) (.t 142),none,[]⟩])
 (.cond (.t 143)
 (.seq (.reg [
  ⟨some 10,.mv (.c (.bool false)),none,[]⟩])
  .ret)
 .skip))
 (.seq (.reg [
 ⟨some 144,.mkf 48 [.t 5,.t 6,.t 14],none,[]⟩,
 ⟨some 145,.mkf 49 [.t 5,.t 6,.t 14],none,[]⟩,
 ⟨some 17,.mv (.t 144),none,[]⟩,
 ⟨some 18,.mv (.t 145),none,[]⟩])
 (.seq (.seq (.regd [0,1,2,3,4,5,6,7,8,9,10,11,12,13,14,15,16,17] [
 .op ⟨some 146,.addo (.t 12) 0,none,[]⟩,
 .op ⟨some 147,.ld (.t 146) 1 false,none,[0]⟩,
 .op ⟨some 148,.bin .lss (.t 147) (.c (.int .i64 100001)),none,[1]⟩,
 .op ⟨some 149,.mv (.t 17),none,[]⟩,
 .op ⟨some 150,.addo (.t 12) 0,none,[]⟩,
 .op ⟨some 151,.ld (.t 150) 1 false,none,[4]⟩,
 .op ⟨some 152,.calv (.t 149) [.t 151],none,[3,5]⟩,
 .op ⟨some 153,.eqs true false [0] (.t 148) (.t 152),none,[2,6]⟩,
 .op ⟨some 154,.mv (.t 153),none,[6,7]⟩,
 .op ⟨some 155,.addo (.t 12) 1,some (154,false),[8]⟩,
 .op ⟨some 156,.ld (.t 155) 1 false,some (154,false),[8,9]⟩,
 .op ⟨some 157,.bin .lss (.t 156) (.c (.int .i64 100001)),some (154,false),[8,10]⟩,
 .op ⟨some 158,.mv (.t 18),some (154,false),[8]⟩,
 .op ⟨some 159,.addo (.t 12) 1,some (154,false),[8]⟩,
 .op ⟨some 160,.ld (.t 159) 1 false,some (154,false),[8,13]⟩,
 .op ⟨some 161,.calv (.t 158) [.t 160],some (154,false),[8,12,14]⟩,
 .op ⟨some 162,.eqs true false [0] (.t 157) (.t 161),some (154,false),[8,11,15]⟩,
 .op ⟨some 163,.pick (.t 154) (.c (.bool true)) (.t 162),none,[8,16]⟩] 0 0 [
])
 (.cond (.t 163)
 (.seq (.reg [
  ⟨some 10,.mv (.c (.bool false)),none,[]⟩])
  .ret)
 .skip))
 (.seq (.reg [
 ⟨some 164,.mv (.t 2),none,[]⟩,
 ⟨some 165,.mv (.t 4),none,[]⟩,
 ⟨some 166,.conv .i64 (.t 165),none,[]⟩,
 ⟨some 167,.mv (.t 2),none,[]⟩,
 ⟨some 168,.bin .sub (.c (.int .i64 100000)) (.t 167),none,[]⟩,
 ⟨some 169,.bin .add (.t 168) (.c (.int .i64 1)),none,[]⟩,
 ⟨some 170,.div .rem (.t 166) (.t 169),none,[]⟩,
 ⟨some 171,.bin .add (.t 164) (.t 170),none,[]⟩,
 ⟨some 19,.mv (.t 171),none,[]⟩])
 (.seq (.reg [
 ⟨some 172,.mv (.t 11),none,[]⟩,
 ⟨some 173,.mv (.t 172),none,[]⟩,
 ⟨some 174,.mv (.t 19),some (173,true),[]⟩,
 ⟨some 175,.addo (.t 12) 0,some (173,true),[]⟩,
 ⟨some 176,.ld (.t 175) 1 false,some (173,true),[]⟩,
 ⟨some 177,.bin .geq (.t 174) (.t 176),some (173,true),[]⟩,
 ⟨some 178,.mv (.t 177),some (173,true),[]⟩,
 ⟨some 179,.mv (.t 17),some (178,false),[]⟩,
 ⟨some 180,.mv (.t 19),some (178,false),[]⟩,
 ⟨some 181,.calv (.t 179) [.t 180],some (178,false),[]⟩,
 ⟨some 182,.un .not (.t 181),some (178,false),[]⟩,
 ⟨some 183,.pick (.t 178) (.c (.bool true)) (.t 182),some (173,true),[]⟩,
 ⟨some 184,.pick (.t 173) (.t 183) (.c (.bool false)),none,[]⟩,
 ⟨some 185,.mv (.t 184),none,[]⟩,
 ⟨some 186,.mv (.t 19),some (185,true),[]⟩,
 ⟨some 187,.addo (.t 12) 1,some (185,true),[]⟩,
 ⟨some 188,.ld (.t 187) 1 false,some (185,true),[]⟩,
 ⟨some 189,.bin .geq (.t 186) (.t 188),some (185,true),[]⟩,
 ⟨some 190,.mv (.t 189),some (185,true),[]⟩,
 ⟨some 191,.mv (.t 18),some (190,false),[]⟩,
 ⟨some 192,.mv (.t 19),some (190,false),[]⟩,
 ⟨some 193,.calv (.t 191) [.t 192],some (190,false),[]⟩,
 ⟨some 194,.un .not (.t 193),some (190,false),[]⟩,
 ⟨some 195,.pick (.t 190) (.c (.bool true)) (.t 194),some (185,true),[]⟩,
 ⟨some 196,.pick (.t 185) (.t 195) (.c (.bool false)),none,[]⟩,
 ⟨some 10,.mv (.t 196),none,[]⟩])
 .ret)))))))))))))
end Go.Proofs.Ytkjldleglbbkeaa
set_option maxRecDepth 100000
set_option maxHeartbeats 4000000
namespace Go.Azalai
open Go.Sx
end Go.Azalai
namespace Go.Proofs.Ytkjldleglbbkeaa
open Go Go.Sx Go.Azalai
theorem natL_int (a:List Nat):a.map natL = (a.map fun n:Nat=>(n:Int)).map intL:=by simp [natL,intL,Function.comp_def]
end Go.Proofs.Ytkjldleglbbkeaa
set_option maxRecDepth 100000
set_option maxHeartbeats 4000000
namespace Go.Sx
open Go Go.RowKit
def RLW (l l':List SV):Prop:=∀ (w:World) (E:Env) (n ok:Nat → Prop) (ys:List Value),RL w E n ok l ys → RL w E n ok l' ys
theorem rlw_rfl {l:List SV}:RLW l l:=fun _ _ _ _ _ h=>h
theorem rlw_cons {s s':SV} {l l':List SV} (h1:Weak s s') (h2:RLW l l'):RLW (s :: l) (s' :: l'):=weak_cons h1 h2
theorem weak_agg {l l':List SV} (h:RLW l l'):Weak (.agg l) (.agg l'):=fun w E n ok y hy=>by
 simp only [R] at hy ⊢
 obtain ⟨cs,h1,h2⟩:=hy
 exact ⟨cs,h1,h _ _ _ _ _ h2⟩
def RRW:List (List SV) → List (List SV) → Prop
 | [],[]=>True
 | r :: xs,r' :: xs'=>RLW r r' ∧ r'.length = r.length ∧ RRW xs xs'
 | _,_=>False
theorem rrw_len:∀ {xs xs':List (List SV)},RRW xs xs' → xs'.length = xs.length
 | [],[],_=>rfl
 | _ :: xs,_ :: xs',h=>by simp [rrw_len h.2.2]
 | [],_ :: _,h=>h.elim
 | _ :: _,[],h=>h.elim
theorem rrw_RR {w:World} {E:Env} {n ok:Nat → Prop} {b m:Nat}:∀ {xs xs':List (List SV)} {off:Nat},RRW xs xs' → RR w E n ok b m xs off → RR w E n ok b m xs' off
 | [],[],_,_,h=>h
 | r :: xs,r' :: xs',off,hw,h=>by
  simp only [RR] at h ⊢
  obtain ⟨h0,⟨cs,h1,h2⟩,h3⟩:=h
  exact ⟨by rw [hw.2.1];exact h0,⟨cs,hw.1 _ _ _ _ _ h1,h2⟩,rrw_RR hw.2.2 h3⟩
 | [],_ :: _,_,h,_=>h.elim
 | _ :: _,[],_,h,_=>h.elim
theorem weak_slc {c:Bool} {m:Nat} {xs xs':List (List SV)} (h:RRW xs xs'):Weak (.sl c m xs) (.sl c m xs'):=fun w E n ok y hy=>by
 simp only [R] at hy ⊢
 obtain ⟨a,len,cap,h1,h2,h3,h4,h5⟩:=hy
 refine ⟨a,len,cap,h1,by rw [rrw_len h];exact h2,h3,by rw [rrw_len h];exact h4,?_⟩
 rcases h5 with h5 | ⟨b,off,h5,h6⟩
 · left
   have:=rrw_len h
   rw [h5] at this
   exact List.eq_nil_of_length_eq_zero this
 · exact .inr ⟨b,off,h5,rrw_RR h h6⟩
theorem weak_sl {c:Bool} {m:Nat} {xs xs':List (List SV)} (h:RRW xs xs'):Weak (.sl c m xs) (.sl false m xs'):=fun w E n ok y hy=>by
 simp only [R] at hy ⊢
 obtain ⟨a,len,cap,h1,h2,h3,h4,h5⟩:=hy
 refine ⟨a,len,cap,h1,by rw [rrw_len h];exact h2,⟨h3.1,fun h=>by cases h⟩,by rw [rrw_len h];exact h4,?_⟩
 rcases h5 with h5 | ⟨b,off,h5,h6⟩
 · left
   have:=rrw_len h
   rw [h5] at this
   exact List.eq_nil_of_length_eq_zero this
 · exact .inr ⟨b,off,h5,rrw_RR h h6⟩
end Go.Sx
namespace Go.Azalai
def exLand:Land:=⟨[⟨0,0,0,⟨0,0⟩,0,⟨0,0⟩,0⟩,⟨90000,0,20,⟨1000,2000⟩,10000,⟨3000,5000⟩,0⟩,⟨140000,0,0,⟨0,0⟩,0,⟨0,0⟩,0⟩],
 [⟨0,1,⟨90000,100000⟩,[⟨⟨5,7⟩,⟨20,30⟩⟩]⟩,⟨1,2,⟨50000,50000⟩,[⟨⟨0,0⟩,⟨12,13⟩⟩,⟨⟨18,18⟩,⟨40,50⟩⟩]⟩,⟨0,2,⟨200000,240000⟩,[⟨⟨0,0⟩,⟨99,99⟩⟩]⟩]⟩
def exPace:Span:=⟨20000,30000⟩
theorem ex_small:Small exLand:=⟨by decide,by decide,by decide⟩
theorem ex_ok:OkLP exLand exPace:=⟨by decide,by decide⟩
theorem ex_days:daysF exLand 2 exPace = (⟨7,12⟩,0):=by decide
theorem ex_leave:leaveF exLand 0 6 exPace = (⟨6,7⟩,0):=by decide
theorem ex_walk:walkF exLand exPace 0 6 [0,1] = ([⟨0,1,⟨6,7⟩,⟨9,12⟩⟩,⟨1,2,⟨9,18⟩,⟨11,21⟩⟩],0,0):=by decide
theorem ex_ways:waysF exLand exPace 0 2 6 21 = [[0,1],[2]]:=by decide
theorem ex_water:waterF exLand 1 [⟨1,0,4000⟩] 2 = (⟨1000,5000⟩,0,0):=by decide
def exD (k:Bool) (v:Int):Int:=if v = 0 then 6 else if v = 1 then (if k then 12 else 9) else if v = 2 then (if k then 18 else 11) else 100001
theorem ex_reachV (k:Bool) (v:Int):reachV k exLand exPace 0 6 v = exD k v:=by
 refine (reach_eq (k:=k) (s:=0) (day:=6) ex_ok (by decide) (by decide) (by decide) (by decide) (d:=exD k) (by cases k <;> decide) ?_ ?_ ?_ v).symm
 · cases k <;> (intro x hx;simp only [exLand,List.mem_cons,List.not_mem_nil,or_false] at hx;rcases hx with rfl | rfl | rfl <;> decide)
 · intro v;unfold exD;repeat' split
   all_goals decide
 · intro v
   unfold exD
   split
   · rename_i h;subst h;exact .inr ⟨[],by cases k <;> decide⟩
   · split
     · rename_i h;subst h;exact .inr ⟨[0],by cases k <;> decide⟩
     · split
       · rename_i h;subst h
         cases k
         · exact .inr ⟨[0,1],by decide⟩
         · exact .inr ⟨[2],by decide⟩
       · exact .inl rfl
theorem ex_reach:reachL exLand exPace 0 6 = [⟨6,6⟩,⟨9,12⟩,⟨11,18⟩]:=by
 have h:exLand.wells.length = 3:=rfl
 simp only [reachL,reachF,h,ex_reachV]
 decide
theorem ex_reachE:reachE exLand exPace 0 6 = 0:=by decide
theorem ex_sure:sureL exLand exPace 0 2 6 = [2]:=by
 have hr:reachV true exLand exPace 0 6 2 = 18:=by rw [ex_reachV];decide
 refine sureL_eq ⟨by rw [hr];decide,fun b hb=>?_⟩
 rw [hr] at hb
 match b,hb with
 | [],hb=>exact absurd hb (by decide)
 | [i],hb =>
  refine .inr ⟨rfl,?_⟩
  match i,hb with
  | 0,hb=>exact absurd hb (by decide)
  | 1,hb=>exact absurd hb (by decide)
  | i + 2,_=>simp [lexB]
 | _ :: _ :: _,_=>exact .inl (by simp)
theorem ex_waysE:waysE exLand exPace 0 2 6 21 = 0:=by decide
end Go.Azalai
namespace Go.Proofs.Ytkjldleglbbkeaa
open Go Go.Sx Go.Azalai
theorem ex_sureE:sureE exLand exPace 0 2 6 = 0:=by
 have h1:askF exLand exPace = 0:=by decide
 have hr:reachV true exLand exPace 0 6 2 = 18:=by rw [ex_reachV];decide
 unfold sureE
 rw [hr,if_neg (by rw [h1];decide),if_neg (by decide),if_neg (by decide)]
theorem span_ok (a b:Int):Ct Try.prog 50 [I a,I b] (.agg (spanL ⟨a,b⟩)):=by
 refine t50 (by simp [KFR,KFL,KF]) (by simp [spanL,KFL,KF]) ?_
 dsimp only [c50,r50,go_sem,rA,rM,rS]
 rfl
theorem pace_ok:Ct Try.prog 57 [] (.agg (spanL exPace)):=by
 refine t57 (by simp [KFR,KFL,KF]) (by simp [spanL,exPace,KFL,KF]) ?_
 dsimp only [c57,r57,go_sem,rA,rM,rS]
 refine call (span_ok _ _) ?_
 dsimp only [spanL,go_sem,rA,rM,rS]
 rfl
theorem u56 {args:List SV} {res:SV} (ka:KFL args) (kr:KF res) (h:sx Try.prog Y0 0 c56 (st0 args 28) (retW r56 res)) (hA:Nat.ble args.length 28 = true:=by rfl):Ct Try.prog 56 args res:=ct_introW Try.func56 rfl b56 c56_ok r56_ok n56 (Nat.le_of_ble_eq_true hA) ka kr h
theorem exland_ok:Ct Try.prog 56 [] (.agg (landL exLand)):=by
 refine u56 (by simp [KFR,KFL,KF]) (by simp [landL,wellL,legL,gateL,exLand,KFR,KFL,KF]) ?_
 dsimp only [c56,r56,go_sem,rA,rM,rS]
 repeat (refine call (span_ok _ _) ?_;dsimp only [spanL,go_sem,rA,rM,rS])
 refine ⟨_,rfl,weak_agg (rlw_cons weak_c (rlw_cons (weak_sl ?_) rlw_rfl))⟩
 refine ⟨?_,rfl,?_,rfl,?_,rfl,trivial⟩ <;>
  exact rlw_cons Weak.rfl (rlw_cons Weak.rfl (rlw_cons Weak.rfl (rlw_cons Weak.rfl (rlw_cons weak_c rlw_rfl))))
theorem lists_ok (a b:List (List Nat)) (ha:a.length ≤ 1000000) (hb:b.length ≤ 1000000) (h1:∀ x ∈ a,x.length ≤ 1000000) (h2:∀ x ∈ b,x.length ≤ 1000000) (c c':Bool):Ct Try.prog 31 [.sl c 1 (a.map rowW),.sl c' 1 (b.map rowW)] (B (decide (a = b))):=by
 refine t31 (by simp [KFR_iff,rowW,wayS,natL,KFL,KF]) (by simp [KFL,KF]) ?_
 dsimp only [c31,r31,go_sem,rA,rM,rS]
 simp only [List.length_map]
 by_cases hl:a.length = b.length
 case neg =>
  refine br_t (by simp;omega) ?_
  dsimp only [go_sem,rA,rM,rS]
  have:a ≠ b:=fun e=>hl (by rw [e])
  simp [this]
 refine br_f (by simp;omega) ?_
 dsimp only [go_sem,rA,rM,rS]
 refine loopO (fun j:Nat=>[(5,I j)]) (fun _=>[]) (fun j=>j ≤ a.length ∧ a.take j = b.take j) (fun j=>a.length - j) 0 ⟨Nat.zero_le _,rfl⟩ ?_ ?_
 · (refine ent_id ?_ ?_ ?_ rfl rfl <;> dsimp only [rowW,wayS,natL,KFR_iff,id,go_sem,rA,rM,rS] <;> simp [rowW,wayS,natL,KFR_iff,KFR_iff,KFR_app,KFR,KFL,KF,mtL_same,mtO,nbr])
 rintro j ⟨hj,ht⟩
 dsimp only [go_sem,rA,rM,rS]
 simp only [List.length_map]
 by_cases hlt:j < a.length
 · refine br_t (by simpa using hlt) ?_
   dsimp only [go_sem,rA,rM,rS]
   have hltb:j < b.length:=by omega
   refine ixs_map j hlt rfl ?_
   dsimp only [rowW,go_sem,rA,rM,rS]
   refine ixs_map j hltb rfl ?_
   dsimp only [rowW,go_sem,rA,rM,rS]
   have hc:=same40_ok (a[j].map fun n:Nat=>(n:Int)) (b[j].map fun n:Nat=>(n:Int)) (by rw [List.length_map];exact h1 _ (List.getElem_mem _)) (by rw [List.length_map];exact h2 _ (List.getElem_mem _)) false false
   rw [← natL_int,← natL_int] at hc
   refine call hc ?_
   dsimp only [go_sem,rA,rM,rS]
   have hinj:(a[j].map (fun n:Nat=>(n:Int)) = b[j].map fun n:Nat=>(n:Int)) ↔ a[j] = b[j]:=⟨fun h=>List.map_inj_right (fun x y h=>Int.ofNat_inj.1 h) |>.1 h,fun h=>by rw [h]⟩
   by_cases he:a[j] = b[j]
   · refine br_f (by simp [he]) ?_
     dsimp only [go_sem,rA,rM,rS]
     rw [w64_in (n:=(j:Int) + 1) (by omega) (by omega)]
     refine ⟨j + 1,⟨hlt,?_⟩,by omega,?_⟩
     · rw [List.take_succ_eq_append_getElem hlt,List.take_succ_eq_append_getElem hltb,ht,he]
     (refine ent_id ?_ ?_ ?_ rfl rfl <;> dsimp only [rowW,wayS,natL,KFR_iff,id,go_sem,rA,rM,rS] <;> simp [rowW,wayS,natL,KFR_iff,KFR_iff,KFR_app,KFR,KFL,KF,mtL_same,mtO,nbr])
   · have hne:¬ (a[j].map (fun n:Nat=>(n:Int)) = b[j].map fun n:Nat=>(n:Int)):=fun h=>he (hinj.1 h)
     refine br_t (by rw [decide_eq_false hne];rfl) ?_
     dsimp only [go_sem,rA,rM,rS]
     have:a ≠ b:=fun e=>he (by subst e;rfl)
     simp [this]
 refine br_f (by simp;omega) ?_
 dsimp only [go_sem,rA,rM,rS]
 have:a = b:=by
  rw [List.take_of_length_le (by omega),List.take_of_length_le (by omega)] at ht
  exact ht
 simp [this]
end Go.Proofs.Ytkjldleglbbkeaa
set_option maxRecDepth 100000
set_option maxHeartbeats 8000000
namespace Go.Proofs.Ytkjldleglbbkeaa
open Go Go.Sx Go.Azalai
theorem alive_ok:Ct Try.prog 41 [] (B true):=by
 refine t41 (by simp [KFR,KFL,KF]) (by simp [KFL,KF]) ?_
 dsimp only [c41,r41,go_sem,rA,rM,rS]
 have k1:=wdays_ok exLand ex_small 2 exPace
 have k2:=wleave_ok exLand ex_small 0 6 exPace
 have k3:=wwalk_ok exLand ex_small 0 6 exPace [0,1] (by decide) true
 have k4:=wreach_ok exLand ex_small 0 6 exPace
 have k5:=wsurest_ok exLand ex_small 0 2 6 exPace
 have k6:=wways_ok exLand ex_small 0 2 6 21 exPace
 have k7:=(water_ok exLand ex_small 1 2 [⟨1,0,4000⟩] (by decide)).args (args0:=[.agg (landL exLand),I 1,.sl true 3 [[I 1,I 0,I 4000]],I 2]) (by simp [landL,wellL,legL,gateL,exLand,KFR,KFL,KF]) (rlw_cons Weak.rfl (rlw_cons Weak.rfl (rlw_cons weak_c rlw_rfl)))
 rw [ex_days] at k1
 rw [ex_leave] at k2
 rw [ex_walk] at k3
 rw [ex_reachE,ex_reach] at k4
 simp only [sureR,ex_sureE,ex_sure,rowsZ,if_true] at k5
 simp only [waysR,ex_waysE,ex_ways,rowsZ,if_true] at k6
 rw [ex_water] at k7
 simp only [rowsZ,if_true,walkR] at k3 k4
 refine call exland_ok ?_
 dsimp only [go_sem,rA,rM,rS]
 refine call pace_ok ?_
 dsimp only [go_sem,rA,rM,rS]
 refine call k1 ?_
 dsimp only [sres,spanL,go_sem,rA,rM,rS]
 refine call exland_ok ?_
 dsimp only [go_sem,rA,rM,rS]
 refine call pace_ok ?_
 dsimp only [go_sem,rA,rM,rS]
 refine call k2 ?_
 dsimp only [sres,spanL,go_sem,rA,rM,rS]
 refine call exland_ok ?_
 dsimp only [go_sem,rA,rM,rS]
 refine call pace_ok ?_
 dsimp only [go_sem,rA,rM,rS]
 refine call k3 ?_
 dsimp only [go_sem,rA,rM,rS]
 refine call exland_ok ?_
 dsimp only [go_sem,rA,rM,rS]
 refine call pace_ok ?_
 dsimp only [go_sem,rA,rM,rS]
 refine call k4 ?_
 dsimp only [go_sem,rA,rM,rS]
 refine call exland_ok ?_
 dsimp only [go_sem,rA,rM,rS]
 refine call pace_ok ?_
 dsimp only [go_sem,rA,rM,rS]
 refine call k5 ?_
 dsimp only [go_sem,rA,rM,rS]
 refine call exland_ok ?_
 dsimp only [go_sem,rA,rM,rS]
 refine call pace_ok ?_
 dsimp only [go_sem,rA,rM,rS]
 refine call k6 ?_
 dsimp only [go_sem,rA,rM,rS]
 refine call exland_ok ?_
 dsimp only [go_sem,rA,rM,rS]
 refine call k7 ?_
 dsimp only [wres,spanL,go_sem,rA,rM,rS]
 have q1:=same39_ok [⟨0,1,⟨6,7⟩,⟨9,12⟩⟩,⟨1,2,⟨9,18⟩,⟨11,21⟩⟩] [⟨0,1,⟨6,7⟩,⟨9,12⟩⟩,⟨1,2,⟨9,18⟩,⟨11,21⟩⟩] (by decide) (by decide) false true
 have q2:=same38_ok [⟨6,6⟩,⟨9,12⟩,⟨11,18⟩] [⟨6,6⟩,⟨9,12⟩,⟨11,18⟩] (by decide) (by decide) false true
 have q3:=same40_ok [2] [2] (by decide) (by decide) false true
 have q4:=(lists_ok [[0,1],[2]] [[0,1],[2]] (by decide) (by decide) (by decide) (by decide) false true).args (args0:=[.sl false 1 ([[0,1],[2]].map rowW),.sl true 1 [[.sl true 1 [[I 0],[I 1]]],[.sl true 1 [[I 2]]]]]) (by simp [KFR_iff,rowW,wayS,natL,KFR,KFL,KF]) (rlw_cons Weak.rfl (rlw_cons (weak_slc ⟨rlw_cons weak_c rlw_rfl,rfl,rlw_cons weak_c rlw_rfl,rfl,trivial⟩) rlw_rfl))
 simp only [decide_true] at q1 q2 q3 q4
 repeat (first | (refine gb ?_;dsimp only [go_sem,rA,rM,rS]) | (refine call (span_ok _ _) ?_;dsimp only [spanL,go_sem,rA,rM,rS]) | (refine call q1 ?_;dsimp only [go_sem,rA,rM,rS]) | (refine call q2 ?_;dsimp only [go_sem,rA,rM,rS]) | (refine call q3 ?_;dsimp only [go_sem,rA,rM,rS]) | (refine call q4 ?_;dsimp only [go_sem,rA,rM,rS]))
 simp
end Go.Proofs.Ytkjldleglbbkeaa
set_option maxRecDepth 100000
set_option maxHeartbeats 8000000
namespace Go.Azalai
def W32:={n:Int // 0 ≤ n ∧ n < 4294967296}
def atF (l:List W32) (i:Nat):Int:=match l[i % l.length]? with | some x=>x.val | none=>0
def pickF (s:Span) (n:Int):Int:=s.lo + n.tmod (s.hi - s.lo + 1)
def readyF (l:Land) (p:Span):Bool:=!greatF l && okLand l && okPace p
structure Ready (l:Land) (p:Span):Prop where
 small:Small l
 ok:OkLP l p
def mayG (o s:Gate → Int) (n m:Int) (l:List Gate):Bool:=l.any fun g=>decide (m ≥ o g) && decide (m + n - 1 ≤ s g)
def oK (k:Bool) (g:Gate):Int:=bif k then g.opens.hi else g.opens.lo
def sK (k:Bool) (g:Gate):Int:=bif k then g.shuts.lo else g.shuts.hi
end Go.Azalai
namespace Go.Proofs.Ytkjldleglbbkeaa
open Go Go.Sx Go.Azalai
def U32 (n:Int):SV:=.v (.int .u32 n)
def w32L (x:W32):List SV:=[U32 x.val]
end Go.Proofs.Ytkjldleglbbkeaa
namespace Go.Sx
open Go Go.RowKit
theorem Ct.res {P:Program} {f:FuncId} {args:List SV} {res res0:SV} (h:Ct P f args res) (kr:KF res0) (hw:Weak res res0):Ct P f args res0 :=
 ⟨h.1,h.2,kr,fun w ok vs hR=>Calls.mono (h.4 w ok vs hR) fun e w' q=>by
  obtain ⟨y,h1,h2,h3⟩:=q
  exact ⟨y,h1,hw _ _ _ _ _ h2,h3⟩⟩
def keepF (fr:List (Nat × SV)):List Nat → List (Nat × SV)
 | []=>[]
 | t :: ts=>(t,lk t fr) :: keepF fr ts
theorem keepF_nil (fr:List (Nat × SV)):keepF fr [] = []:=rfl
theorem keepF_cons (fr:List (Nat × SV)) (t:Nat) (ts:List Nat):keepF fr (t :: ts) = (t,lk t fr) :: keepF fr ts:=rfl
attribute [go_sem] keepF_nil keepF_cons
end Go.Sx
namespace Go.Sx
open Go Go.RowKit
section
variable {P:Program} {C:Cx} {E:Env} {σ : St} {a:Act} {w:World} {n:Nat → Prop} {hp:List (Nat × HB)} {r:KT} {K:RK}
theorem bsl_run2 {t T m len:Nat} {parts:Array (Nat × Operand)} {ps:List X} {rows:List (List SV)} {ρ : X → SV} (hρ : ∀ x ∈ ps,R w E n (okS C E hp) (ρ x) (evX a x))
 (hu:P.underlying t = some (.slice T)) (hm:szOf P T = some m) (hl:len * m ≤ 2 ^ 24) (hpl:ps.length = len) (hm0:m ≠ 0) (hz:∃ z,zeroOf P T = some z ∧ z.cells.size = m)
 (hx:cmpXs ps (parts.toList.map (·.2)) = true) (hi:parts.toList.map (·.1) = List.range len) (hrows:bslR ρ m ps = some rows) :
 ∃ cs:List Value,(Instr.buildSlice t len (parts.map fun (i,x)=>(i,a.eval x))).run P w = .ok (.slice (some ⟨w.heap.size,0,none⟩) len len) (w.alloc (.cells cs.toArray T)) ∧ cs.length = len * m ∧ rows.length = len ∧
  (∀ r ∈ rows,r.length = m) ∧ RL w E n (okS C E hp) rows.flatten cs:=by
 obtain ⟨z,hz1,hz2⟩:=hz
 obtain ⟨hr1,hr2⟩:=bslR_run (a:=a) hρ hrows
 let vs:=ps.map (evX a)
 have hvs:∀ v ∈ vs,v.cells.size = m:=by
  intro v hv
  obtain ⟨i,hi',rfl⟩:=List.getElem_of_mem hv
  simp only [vs,List.length_map] at hi'
  obtain ⟨row,k1,k2,k3⟩:=hr2 i hi'
  have:=RL_length k3
  simp only [vs,List.getElem_map]
  rw [← Array.length_toList,this,k2]
 have hparts:(parts.map fun (i,x)=>(i,a.eval x)).toList = (List.range len).zip vs:=by
  rw [← hi]
  have h2:=cmpXs_sound hx a
  apply List.ext_getElem?
  intro j
  simp only [vs,← h2,Array.toList_map,List.zip,List.getElem?_zipWith,List.getElem?_map]
  cases parts.toList[j]? <;> simp
 let Z:=(Array.range (len * m)).map (fun i=>z.cells[i % z.cells.size]!)
 have hZ:Z.toList.length = (0 + vs.length) * m:=by simp [Z,vs,hpl]
 have hf:=fill_eq (fun i=>some (i * m,m)) ((List.range len).zip vs) (rowsF m 0 vs) Z (by simp [rowsF_length,vs,hpl]) (fun i h h'=>by
  have hlt:i < vs.length:=by rw [rowsF_length] at h';exact h'
  refine ⟨m,?_,?_,?_,?_⟩
  · have:=rowsF_get m vs 0 i
    rw [List.getElem?_eq_getElem hlt,List.getElem?_eq_getElem h'] at this
    simp at this
    simp [this]
  · have:=rowsF_get m vs 0 i
    rw [List.getElem?_eq_getElem hlt,List.getElem?_eq_getElem h'] at this
    simp at this
    simp [this]
  · simp;exact hvs _ (List.getElem_mem _)
  · have:=rowsF_get m vs 0 i
    rw [List.getElem?_eq_getElem hlt,List.getElem?_eq_getElem h'] at this
    simp at this
    rw [this];simp only [Z,Array.size_map,Array.size_range]
    have:i + 1 ≤ len:=by simp [vs,hpl] at hlt;omega
    calc i * m + m = (i + 1) * m:=by rw [Nat.add_mul];omega
     _ ≤ len * m:=Nat.mul_le_mul_right m this)
 rw [fillV_rows m vs 0 _ hZ hvs] at hf
 simp only [Nat.zero_mul,List.take_zero,List.nil_append] at hf
 let cs:=vs.flatMap (·.cells.toList)
 have hflat:∀ (qs:List X) (rs:List (List SV)),rs.length = qs.length → (∀ i (h:i < qs.length),∃ row,rs[i]? = some row ∧ row.length = m ∧ RL w E n (okS C E hp) row (evX a qs[i]).cells.toList) →
  RL w E n (okS C E hp) rs.flatten ((qs.map (evX a)).flatMap (·.cells.toList)) ∧ ((qs.map (evX a)).flatMap (·.cells.toList)).length = qs.length * m ∧ ∀ r ∈ rs,r.length = m:=by
  intro qs
  induction qs with
  | nil=>intro rs h _;have:=List.eq_nil_of_length_eq_zero h;subst this;exact ⟨by simp [RL],by simp,by simp⟩
  | cons x qs ih =>
   intro rs h hq
   cases rs with
   | nil=>simp at h
   | cons y rs =>
    obtain ⟨q1,q2,q3⟩:=ih rs (by simpa using h) (fun i hi'=>by have:=hq (i + 1) (by simp;omega);simpa using this)
    obtain ⟨row,k1,k2,k3⟩:=hq 0 (by simp)
    simp only [List.getElem?_cons_zero,Option.some.injEq] at k1
    subst k1
    simp only [List.getElem_cons_zero] at k3
    refine ⟨?_,?_,fun r hr=>?_⟩
    · simp only [List.flatten_cons,List.map_cons,List.flatMap_cons]
      exact RL_append k3 q1
    · simp only [List.map_cons,List.flatMap_cons,List.length_append,q2,List.length_cons]
      have:=RL_length k3
      rw [this,k2,Nat.add_mul];omega
    · rcases List.mem_cons.1 hr with rfl | hr
      · exact k2
      · exact q3 r hr
 obtain ⟨f1,f2,f3⟩:=hflat ps rows hr1 hr2
 refine ⟨cs,?_,by rw [show cs = (ps.map (evX a)).flatMap (·.cells.toList) from rfl,f2,hpl],by rw [hr1,hpl],f3,f1⟩
 have hlm:¬ len * m > 2 ^ 24:=by omega
 simp only [Instr.buildSlice,Sem.run_bind,run_underlying hu,Result.andThen_ok,run_sizeOf hm,if_neg hlm]
 by_cases h0:len * m = 0
 · have hlen0:len = 0:=by rcases Nat.mul_eq_zero.1 h0 with h | h <;> first | exact h | exact absurd h hm0
   have hps:ps = []:=by cases ps <;> simp_all
   subst hps;subst hlen0
   have hpn:parts = #[]:=by
    apply Array.toList_inj.1;cases hq:parts.toList <;> simp_all
   subst hpn
   have e0:(Array.map (fun _=>(default:Value)) (Array.range 0)) = #[]:=by apply Array.toList_inj.1;simp
   simp [Instr.fill,newRow,cs,vs,e0]
 · simp only [if_neg h0,Sem.run_bind,run_zeroOf hz1,Result.andThen_ok,Sem.run_pure]
   rw [show ((Array.range (len * m)).map fun i=>z.cells[i % z.cells.size]!) = Z from rfl,hparts,hf]
   simp [newRow];rfl
theorem raw_bslO {u t T m len ty:Nat} {parts:Array (Nat × Operand)} {rows:List (List SV)} (ps:List X) (h1:memb u σ.gs = false) (h2:Nat.blt u σ.N = true)
 (hu:P.underlying t = some (.slice T)) (hm:szOf P T = some m) (hl:len * m ≤ 2 ^ 24) (hpl:ps.length = len) (hm0:m ≠ 0) (hl0:len ≠ 0) (hz:∃ z,zeroOf P T = some z ∧ z.cells.size = m)
 (hx:cmpXs ps (parts.toList.map (·.2)) = true) (hi:parts.toList.map (·.1) = List.range len) (hrows:bslR (rdG none σ.fr) m ps = some rows)
 (h:r ⟨(u,.mr σ.n 0) :: σ.fr,(σ.n,.row 0 m rows T) :: σ.hp,σ.n + 1,σ.N,σ.gs⟩ K):RAW P (some u) (.buildSlice t len parts) ty σ r K:=by
 intro o C E a w next Q e1 e2 e3 hS hn hq
 obtain ⟨cs,g1,g2,g3,g4,g5⟩:=bsl_run2 (P:=P) (a:=a) (w:=w) (E:=E) (n:=ltn σ.n) (C:=C) (hp:=σ.hp) (fun x _=>rdG_ok hS.fr (g:=none) trivial x) hu hm hl hpl hm0 hz hx hi hrows
 have hbel:Below w.heap.size w (w.alloc (.cells cs.toArray T)):=(Below.refl _ _).alloc (Nat.le_refl _) _
 have hle:len ≤ len * m:=Nat.le_mul_of_pos_right _ (by omega)
 obtain ⟨E',k1,k2,k3,k4,k5⟩:=HSim_newrow (q:=σ.n) (m:=m) (xs:=rows) (T:=T) (v:=.slice (some ⟨w.heap.size,0,none⟩) len len) hS.hs (by simp [ltn]) hbel
  (.inr ⟨len,cs.toArray,by rw [g3],heap_alloc_new _ _,by simp [g2],⟨by omega,hl0⟩,by omega,g4,by rw [g3,← g2];simpa using g5⟩)
 have hV:(fun k=>ltn σ.n k ∨ k = σ.n) = ltn (σ.n + 1):=by funext k;simp only [ltn,eq_iff_iff];omega
 rw [hV] at k4
 have hrun:(execOp a.eval o).run P w = .ok (.value (.slice (some ⟨w.heap.size,0,none⟩) len len)) (w.alloc (.cells cs.toArray T)):=by
  obtain ⟨dst',op',ty',pos,after,guard⟩:=o
  simp only at e2;subst e2
  simp [execOp,Sem.run_bind,g1,Sem.run_pure]
 refine wpq_res hrun (by simp) ?_
 show next (a.put o.dst _) _
 rw [e1]
 refine hn _ E' _ _ h (Sim_put hS k5 k1 (by omega) k4 (fun hh=>?_) (by simpa [Nat.blt_eq] using h2) (fun _ _ _ e=>by cases e) ?_)
 · rw [memb_iff.2 hh] at h1;cases h1
 · simp only [R];exact ⟨by simp [ltn],by omega,by rw [k2];exact ⟨rfl,rfl⟩⟩
end
end Go.Sx
set_option maxRecDepth 100000
namespace Go.Proofs.Ytkjldleglbbkeaa
open Go Go.Sx
def cx14:SC:=(.seq (.reg [
 ⟨some 0,.mv (.c (.bool false)),none,[]⟩])
 (.seq (.seq (.reg [
 ⟨some 27,.mv (.c (.bool false)),none,[]⟩,
 ⟨some 28,.call 41 [],some (27,false),[]⟩,
 ⟨some 29,.un .not (.t 28),some (27,false),[]⟩,
 ⟨some 30,.pick (.t 27) (.c (.bool true)) (.t 29),none,[]⟩])
 (.cond (.t 30)
 (.seq (.reg [
  ⟨some 0,.mv (.c (.bool false)),none,[]⟩])
  .ret)
 .skip))
 (.seq (.reg [
 ⟨some 32,.call 56 [],none,[]⟩,
 ⟨some 33,.call 57 [],none,[]⟩,
 ⟨some 34,.call 22 [.t 32,.c (.int .i64 0),.t 33],none,[]⟩,
 ⟨some 31,.mv (.t 34),none,[]⟩,
 ⟨some 35,.ext (.t 31) 0,none,[]⟩,
 ⟨some 36,.ext (.t 31) 1,none,[]⟩,
 ⟨some 1,.alloc [.int .i64 0,.int .i64 0] 29,none,[]⟩,
 ⟨none,.st (.t 1) (.t 35) 2,none,[]⟩,
 ⟨some 2,.mv (.t 36),none,[]⟩])
 (.seq (.reg [
 ⟨some 38,.call 56 [],none,[]⟩,
 ⟨some 39,.call 57 [],none,[]⟩,
 ⟨some 40,.call 22 [.t 38,.c (.int .i64 1),.t 39],none,[]⟩,
 ⟨some 37,.mv (.t 40),none,[]⟩,
 ⟨some 41,.ext (.t 37) 0,none,[]⟩,
 ⟨some 42,.ext (.t 37) 1,none,[]⟩,
 ⟨some 3,.alloc [.int .i64 0,.int .i64 0] 29,none,[]⟩,
 ⟨none,.st (.t 3) (.t 41) 2,none,[]⟩,
 ⟨some 4,.mv (.t 42),none,[]⟩])
 (.seq (.reg [
 ⟨some 44,.call 56 [],none,[]⟩,
 ⟨some 45,.call 57 [],none,[]⟩,
 ⟨some 46,.call 24 [.t 44,.c (.int .i64 0),.c (.int .i64 17),.t 45],none,[]⟩,
 ⟨some 43,.mv (.t 46),none,[]⟩,
 ⟨some 47,.ext (.t 43) 0,none,[]⟩,
 ⟨some 48,.ext (.t 43) 1,none,[]⟩,
 ⟨some 5,.alloc [.int .i64 0,.int .i64 0] 29,none,[]⟩,
 ⟨none,.st (.t 5) (.t 47) 2,none,[]⟩,
 ⟨some 6,.mv (.t 48),none,[]⟩])
 (.seq (.reg [
 ⟨some 50,.call 56 [],none,[]⟩,
 ⟨some 51,.call 57 [],none,[]⟩,
 ⟨some 52,.call 24 [.t 50,.c (.int .i64 0),.c (.int .i64 29),.t 51],none,[]⟩,
 ⟨some 49,.mv (.t 52),none,[]⟩,
 ⟨some 53,.ext (.t 49) 0,none,[]⟩,
 ⟨some 54,.ext (.t 49) 1,none,[]⟩,
 ⟨some 7,.alloc [.int .i64 0,.int .i64 0] 29,none,[]⟩,
 ⟨none,.st (.t 7) (.t 53) 2,none,[]⟩,
 ⟨some 8,.mv (.t 54),none,[]⟩])
 (.seq (.reg [
 ⟨some 56,.call 56 [],none,[]⟩,
 ⟨some 57,.call 57 [],none,[]⟩,
 ⟨some 58,.call 29 [.t 56,.c (.int .i64 0),.c (.int .i64 2),.c (.int .i64 6),.c (.int .i64 20),.t 57],none,[]⟩,
 ⟨some 55,.mv (.t 58),none,[]⟩,
 ⟨some 59,.ext (.t 55) 0,none,[]⟩,
 ⟨some 60,.ext (.t 55) 1,none,[]⟩,
 ⟨some 9,.mv (.t 59),none,[]⟩,
 ⟨some 10,.mv (.t 60),none,[]⟩])
 (.seq (.reg [
 ⟨some 62,.call 56 [],none,[]⟩,
 ⟨some 63,.call 19 [.t 62,.c (.int .i64 1),.c (.int .i64 500000),.c (.int .i64 2)],none,[]⟩,
 ⟨some 61,.mv (.t 63),none,[]⟩,
 ⟨some 64,.ext (.t 61) 0,none,[]⟩,
 ⟨some 65,.ext (.t 61) 1,none,[]⟩,
 ⟨some 11,.mv (.t 64),none,[]⟩,
 ⟨some 12,.mv (.t 65),none,[]⟩])
 (.seq (.seq (.regd [0,1,2,3,4,5,6,7,8,9,10,11,12,13,14,15,16,17,18,19,20,21,22,23,24,25,26,27,28,29,30,31,32,33,34,35,36,37,38,39,40,41,42,43,44,45,46,47,48,49,50,51,52] [
 .op ⟨some 66,.mv (.t 2),none,[]⟩,
 .op ⟨some 67,.bin .neq (.t 66) (.c (.int .i64 0)),none,[0]⟩,
 .op ⟨some 68,.mv (.t 67),none,[1]⟩,
 .op ⟨some 69,.ld (.t 1) 2 true,some (68,false),[2]⟩,
 .op ⟨some 70,.call 50 [.c (.int .i64 3),.c (.int .i64 5)],some (68,false),[2]⟩,
 .op ⟨some 71,.eqs true true [1,1] (.t 69) (.t 70),some (68,false),[2,3,4]⟩,
 .op ⟨some 72,.pick (.t 68) (.c (.bool true)) (.t 71),none,[2,5]⟩,
 .op ⟨some 73,.mv (.t 72),none,[4,6]⟩,
 .op ⟨some 74,.mv (.t 4),some (73,false),[7]⟩,
 .op ⟨some 75,.bin .neq (.t 74) (.c (.int .i64 0)),some (73,false),[7,8]⟩,
 .op ⟨some 76,.pick (.t 73) (.c (.bool true)) (.t 75),none,[7,9]⟩,
 .op ⟨some 77,.mv (.t 76),none,[7,10]⟩,
 .op ⟨some 78,.ld (.t 3) 2 true,some (77,false),[11]⟩,
 .op ⟨some 79,.call 50 [.c (.int .i64 2),.c (.int .i64 3)],some (77,false),[11]⟩,
 .op ⟨some 80,.eqs true true [1,1] (.t 78) (.t 79),some (77,false),[11,12,13]⟩,
 .op ⟨some 81,.pick (.t 77) (.c (.bool true)) (.t 80),none,[11,14]⟩,
 .op ⟨some 82,.mv (.t 81),none,[13,15]⟩,
 .op ⟨some 83,.mv (.t 6),some (82,false),[16]⟩,
 .op ⟨some 84,.bin .neq (.t 83) (.c (.int .i64 0)),some (82,false),[16,17]⟩,
 .op ⟨some 85,.pick (.t 82) (.c (.bool true)) (.t 84),none,[16,18]⟩,
 .op ⟨some 86,.mv (.t 85),none,[16,19]⟩,
 .op ⟨some 87,.ld (.t 5) 2 true,some (86,false),[20]⟩,
 .op ⟨some 88,.call 50 [.c (.int .i64 17),.c (.int .i64 100001)],some (86,false),[20]⟩,
 .op ⟨some 89,.eqs true true [1,1] (.t 87) (.t 88),some (86,false),[20,21,22]⟩,
 .op ⟨some 90,.pick (.t 86) (.c (.bool true)) (.t 89),none,[20,23]⟩,
 .op ⟨some 91,.mv (.t 90),none,[22,24]⟩,
 .op ⟨some 92,.mv (.t 8),some (91,false),[25]⟩,
 .op ⟨some 93,.bin .neq (.t 92) (.c (.int .i64 0)),some (91,false),[25,26]⟩,
 .op ⟨some 94,.pick (.t 91) (.c (.bool true)) (.t 93),none,[25,27]⟩,
 .op ⟨some 95,.mv (.t 94),none,[25,28]⟩,
 .op ⟨some 96,.ld (.t 7) 2 true,some (95,false),[29]⟩,
 .op ⟨some 97,.call 50 [.c (.int .i64 100001),.c (.int .i64 100001)],some (95,false),[29]⟩,
 .op ⟨some 98,.eqs true true [1,1] (.t 96) (.t 97),some (95,false),[29,30,31]⟩,
 .op ⟨some 99,.pick (.t 95) (.c (.bool true)) (.t 98),none,[29,32]⟩,
 .op ⟨some 100,.mv (.t 99),none,[31,33]⟩,
 .op ⟨some 101,.mv (.t 10),some (100,false),[34]⟩,
 .op ⟨some 102,.bin .neq (.t 101) (.c (.int .i64 0)),some (100,false),[34,35]⟩,
 .op ⟨some 103,.pick (.t 100) (.c (.bool true)) (.t 102),none,[34,36]⟩,
 .op ⟨some 104,.mv (.t 103),none,[34,37]⟩,
 .op ⟨some 105,.mv (.t 9),some (104,false),[38]⟩,
 .op ⟨some 106,.bsl 1 3 [.c (.int .i64 2)],some (104,false),[38]⟩,
 .op ⟨some 107,.bsl 1 59 [.t 106],some (104,false),[38,40]⟩,
 .op ⟨some 108,.call 31 [.t 105,.t 107],some (104,false),[38,39,41]⟩,
 .op ⟨some 109,.un .not (.t 108),some (104,false),[38,42]⟩,
 .op ⟨some 110,.pick (.t 104) (.c (.bool true)) (.t 109),none,[38,43]⟩,
 .op ⟨some 111,.mv (.t 110),none,[42,44]⟩,
 .op ⟨some 112,.mv (.t 12),some (111,false),[45]⟩,
 .op ⟨some 113,.bin .neq (.t 112) (.c (.int .i64 0)),some (111,false),[45,46]⟩,
 .op ⟨some 114,.pick (.t 111) (.c (.bool true)) (.t 113),none,[45,47]⟩,
 .op ⟨some 115,.mv (.t 114),none,[45,48]⟩,
 .op ⟨some 116,.mv (.t 11),some (115,false),[49]⟩,
 .op ⟨some 117,.bin .neq (.t 116) (.c (.int .i64 5)),some (115,false),[49,50]⟩,
 .op ⟨some 118,.pick (.t 115) (.c (.bool true)) (.t 117),none,[49,51]⟩] 0 0 [
])
 (.cond (.t 118)
 (.seq (.reg [
  ⟨some 0,.mv (.c (.bool false)),none,[]⟩])
  .ret)
 .skip))
 (.seq (.reg [
 ⟨some 119,.call 56 [],none,[]⟩,
 ⟨some 13,.alloc [.slice none 0 0,.slice none 0 0] 25,none,[]⟩,
 ⟨none,.st (.t 13) (.t 119) 2,none,[]⟩])
 (.seq (.reg [
 ⟨some 120,.addo (.t 13) 1,none,[]⟩,
 ⟨some 121,.ld (.t 120) 1 false,none,[]⟩,
 ⟨some 122,.sub 5 (.t 121) none (some (.c (.int .i64 2))),none,[]⟩,
 ⟨some 123,.addo (.t 13) 1,none,[]⟩,
 ⟨none,.st (.t 123) (.t 122) 1,none,[]⟩])
 (.seq (.reg [
 ⟨some 124,.callm 56 [],none,[]⟩,
 ⟨some 14,.alloc [.slice none 0 0,.slice none 0 0] 25,none,[]⟩,
 ⟨none,.st (.t 14) (.t 124) 2,none,[]⟩])
 (.seq (.reg [
 ⟨some 125,.addo (.t 14) 1,none,[]⟩,
 ⟨some 126,.ld (.t 125) 1 false,none,[]⟩,
 ⟨some 127,.ixs (.t 126) (.c (.int .i64 0)) 5,none,[]⟩,
 ⟨some 128,.addo (.t 127) 1,none,[]⟩,
 ⟨none,.st (.t 128) (.c (.int .i64 0)) 1,none,[]⟩])
 (.seq (.reg [
 ⟨some 130,.call 56 [],none,[]⟩,
 ⟨some 131,.call 57 [],none,[]⟩,
 ⟨some 132,.call 22 [.t 130,.c (.int .i64 3),.t 131],none,[]⟩,
 ⟨some 129,.mv (.t 132),none,[]⟩,
 ⟨some 133,.ext (.t 129) 0,none,[]⟩,
 ⟨some 134,.ext (.t 129) 1,none,[]⟩,
 ⟨some 2,.mv (.t 134),none,[]⟩])
 (.seq (.reg [
 ⟨some 136,.call 56 [],none,[]⟩,
 ⟨some 137,.call 50 [.c (.int .i64 0),.c (.int .i64 1)],none,[]⟩,
 ⟨some 138,.call 22 [.t 136,.c (.int .i64 3),.t 137],none,[]⟩,
 ⟨some 135,.mv (.t 138),none,[]⟩,
 ⟨some 139,.ext (.t 135) 0,none,[]⟩,
 ⟨some 140,.ext (.t 135) 1,none,[]⟩,
 ⟨some 4,.mv (.t 140),none,[]⟩])
 (.seq (.reg [
 ⟨some 142,.call 56 [],none,[]⟩,
 ⟨some 143,.call 57 [],none,[]⟩,
 ⟨some 144,.bsl 1 3 [.c (.int .i64 2),.c (.int .i64 0),.c (.int .i64 0)],none,[]⟩,
 ⟨some 145,.call 34 [.t 142,.c (.int .i64 0),.c (.int .i64 6),.t 143,.t 144],none,[]⟩,
 ⟨some 141,.mv (.t 145),none,[]⟩,
 ⟨some 146,.ext (.t 141) 0,none,[]⟩,
 ⟨some 147,.ext (.t 141) 1,none,[]⟩,
 ⟨some 148,.ext (.t 141) 2,none,[]⟩,
 ⟨some 15,.mv (.t 146),none,[]⟩,
 ⟨some 16,.mv (.t 147),none,[]⟩,
 ⟨some 6,.mv (.t 148),none,[]⟩])
 (.seq (.reg [
 ⟨some 150,.call 56 [],none,[]⟩,
 ⟨some 151,.call 57 [],none,[]⟩,
 ⟨some 152,.bsl 1 3 [.c (.int .i64 2),.c (.int .i64 2),.c (.int .i64 0)],none,[]⟩,
 ⟨some 153,.call 34 [.t 150,.c (.int .i64 0),.c (.int .i64 17),.t 151,.t 152],none,[]⟩,
 ⟨some 149,.mv (.t 153),none,[]⟩,
 ⟨some 154,.ext (.t 149) 0,none,[]⟩,
 ⟨some 155,.ext (.t 149) 1,none,[]⟩,
 ⟨some 156,.ext (.t 149) 2,none,[]⟩,
 ⟨some 17,.mv (.t 154),none,[]⟩,
 ⟨some 18,.mv (.t 155),none,[]⟩,
 ⟨some 8,.mv (.t 156),none,[]⟩])
 (.seq (.regd [0,1,2,3,4,5,6] [
 .op ⟨some 158,.ld (.t 13) 2 true,none,[]⟩,
 .op ⟨some 159,.call 57 [],none,[]⟩,
 .op ⟨some 160,.call 36 [.t 158,.c (.int .i64 0),.c (.int .i64 2),.c (.int .i64 17),.t 159],none,[0,1]⟩,
 .op ⟨some 157,.mv (.t 160),none,[2]⟩,
 .op ⟨some 161,.ext (.t 157) 0,none,[3]⟩,
 .op ⟨some 162,.ext (.t 157) 1,none,[3]⟩,
 .op ⟨some 10,.mv (.t 162),none,[0,1,2,3,4,5]⟩] 0 0 [
])
 (.seq (.reg [
 ⟨some 164,.call 56 [],none,[]⟩,
 ⟨some 165,.build [.int .i64 0,.int .i64 0,.int .i64 0] [],none,[]⟩,
 ⟨some 166,.build [.int .i64 0,.int .i64 0,.int .i64 0] [(0,1,.c (.int .i64 1)),(2,1,.c (.int .i64 7001))],none,[]⟩,
 ⟨some 167,.bsl 3 40 [.t 165,.t 166],none,[]⟩,
 ⟨some 168,.call 17 [.t 164,.c (.int .i64 1),.t 167,.c (.int .i64 1)],none,[]⟩,
 ⟨some 163,.mv (.t 168),none,[]⟩,
 ⟨some 169,.ext (.t 163) 0,none,[]⟩,
 ⟨some 170,.ext (.t 163) 1,none,[]⟩,
 ⟨some 171,.ext (.t 163) 2,none,[]⟩,
 ⟨some 19,.alloc [.int .i64 0,.int .i64 0] 29,none,[]⟩,
 ⟨none,.st (.t 19) (.t 169) 2,none,[]⟩,
 ⟨some 20,.mv (.t 170),none,[]⟩,
 ⟨some 21,.mv (.t 171),none,[]⟩])
 (.seq (.reg [
 ⟨some 173,.call 56 [],none,[]⟩,
 ⟨some 174,.build [.int .i64 0,.int .i64 0,.int .i64 0] [(1,1,.c (.int .i64 1))],none,[]⟩,
 ⟨some 175,.build [.int .i64 0,.int .i64 0,.int .i64 0] [],none,[]⟩,
 ⟨some 176,.bsl 3 40 [.t 174,.t 175],none,[]⟩,
 ⟨some 177,.call 17 [.t 173,.c (.int .i64 1),.t 176,.c (.int .i64 1)],none,[]⟩,
 ⟨some 172,.mv (.t 177),none,[]⟩,
 ⟨some 178,.ext (.t 172) 0,none,[]⟩,
 ⟨some 179,.ext (.t 172) 1,none,[]⟩,
 ⟨some 180,.ext (.t 172) 2,none,[]⟩,
 ⟨some 22,.alloc [.int .i64 0,.int .i64 0] 29,none,[]⟩,
 ⟨none,.st (.t 22) (.t 178) 2,none,[]⟩,
 ⟨some 23,.mv (.t 179),none,[]⟩,
 ⟨some 24,.mv (.t 180),none,[]⟩])
 (.seq (.reg [
 ⟨some 182,.call 56 [],none,[]⟩,
 ⟨some 183,.call 19 [.t 182,.c (.int .i64 1),.c (.int .i64 1),.c (.int .i64 0)],none,[]⟩,
 ⟨some 181,.mv (.t 183),none,[]⟩,
 ⟨some 184,.ext (.t 181) 0,none,[]⟩,
 ⟨some 185,.ext (.t 181) 1,none,[]⟩,
 ⟨some 25,.mv (.t 184),none,[]⟩,
 ⟨some 26,.mv (.t 185),none,[]⟩])
 (.seq (.reg [
 ⟨some 186,.ld (.t 14) 2 true,none,[]⟩,
 ⟨some 187,.call 26 [.t 186],none,[]⟩,
 ⟨some 188,.bin .eql (.t 187) (.c (.int .i64 30)),none,[]⟩,
 ⟨some 189,.mv (.t 188),none,[]⟩,
 ⟨some 190,.mv (.t 2),some (189,true),[]⟩,
 ⟨some 191,.bin .eql (.t 190) (.c (.int .i64 2)),some (189,true),[]⟩,
 ⟨some 192,.pick (.t 189) (.t 191) (.c (.bool false)),none,[]⟩,
 ⟨some 193,.mv (.t 192),none,[]⟩,
 ⟨some 194,.mv (.t 4),some (193,true),[]⟩,
 ⟨some 195,.bin .eql (.t 194) (.c (.int .i64 31)),some (193,true),[]⟩,
 ⟨some 196,.pick (.t 193) (.t 195) (.c (.bool false)),none,[]⟩,
 ⟨some 197,.mv (.t 196),none,[]⟩,
 ⟨some 198,.mv (.t 16),some (197,true),[]⟩,
 ⟨some 199,.bin .eql (.t 198) (.c (.int .i64 1)),some (197,true),[]⟩,
 ⟨some 200,.pick (.t 197) (.t 199) (.c (.bool false)),none,[]⟩,
 ⟨some 201,.mv (.t 200),none,[]⟩,
 ⟨some 202,.mv (.t 6),some (201,true),[]⟩,
 ⟨some 203,.bin .eql (.t 202) (.c (.int .i64 8)),some (201,true),[]⟩,
 ⟨some 204,.pick (.t 201) (.t 203) (.c (.bool false)),none,[]⟩,
 ⟨some 205,.mv (.t 204),none,[]⟩,
 ⟨some 206,.mv (.t 18),some (205,true),[]⟩,
 ⟨some 207,.bin .eql (.t 206) (.c (.int .i64 2)),some (205,true),[]⟩,
 ⟨some 208,.pick (.t 205) (.t 207) (.c (.bool false)),none,[]⟩,
 ⟨some 209,.mv (.t 208),none,[]⟩,
 ⟨some 210,.mv (.t 8),some (209,true),[]⟩,
 ⟨some 211,.bin .eql (.t 210) (.c (.int .i64 34)),some (209,true),[]⟩,
 ⟨some 212,.pick (.t 209) (.t 211) (.c (.bool false)),none,[]⟩,
 ⟨some 213,.mv (.t 212),none,[]⟩,
 ⟨some 214,.mv (.t 10),some (213,true),[]⟩,
 ⟨some 215,.bin .eql (.t 214) (.c (.int .i64 6)),some (213,true),[]⟩,
 ⟨some 216,.pick (.t 213) (.t 215) (.c (.bool false)),none,[]⟩,
 ⟨some 217,.mv (.t 216),none,[]⟩,
 ⟨some 218,.mv (.t 20),some (217,true),[]⟩,
 ⟨some 219,.bin .eql (.t 218) (.c (.int .i64 1)),some (217,true),[]⟩,
 ⟨some 220,.pick (.t 217) (.t 219) (.c (.bool false)),none,[]⟩,
 ⟨some 221,.mv (.t 220),none,[]⟩,
 ⟨some 222,.mv (.t 21),some (221,true),[]⟩,
 ⟨some 223,.bin .eql (.t 222) (.c (.int .i64 33)),some (221,true),[]⟩,
 ⟨some 224,.pick (.t 221) (.t 223) (.c (.bool false)),none,[]⟩,
 ⟨some 225,.mv (.t 224),none,[]⟩,
 ⟨some 226,.mv (.t 24),some (225,true),[]⟩,
 ⟨some 227,.bin .eql (.t 226) (.c (.int .i64 32)),some (225,true),[]⟩,
 ⟨some 228,.pick (.t 225) (.t 227) (.c (.bool false)),none,[]⟩,
 ⟨some 229,.mv (.t 228),none,[]⟩,
 ⟨some 230,.mv (.t 26),some (229,true),[]⟩,
 ⟨some 231,.bin .eql (.t 230) (.c (.int .i64 2)),some (229,true),[]⟩,
 ⟨some 232,.pick (.t 229) (.t 231) (.c (.bool false)),none,[]⟩,
 ⟨some 0,.mv (.t 232),none,[]⟩])
 .ret))))))))))))))))))))))
def rx14:List RV:=[.tmp 0]
theorem nx14:Try.f14.ntmps = 233:=by kernel_rfl
theorem bx14:bodyB Try.prog 14 = true:=by kernel_rfl
theorem cx14_ok:cmpC Try.prog cx14 ((Try.f14.body).getD .skip) = true:=by kernel_rfl
theorem rx14_ok:cmpR Try.prog rx14 Try.f14.results.toList = true:=by kernel_rfl
theorem tx14 {args:List SV} {res:SV} (ka:KFL args) (kr:KF res) (h:sx Try.prog Y0 0 cx14 (st0 args 233) (retK rx14 res)) (hA:Nat.ble args.length 233 = true:=by rfl):Ct Try.prog 14 args res:=ct_intro Try.func14 rfl bx14 cx14_ok rx14_ok nx14 (Nat.le_of_ble_eq_true hA) ka kr h
def cx56:SC:=(.seq (.reg [
 ⟨some 0,.alloc [.slice none 0 0,.slice none 0 0] 25,none,[]⟩])
 (.seq (.reg [
 ⟨some 1,.build [.int .i64 0,.int .i64 0,.int .i64 0,.int .i64 0,.int .i64 0,.int .i64 0,.int .i64 0,.int .i64 0,.int .i64 0] [],none,[]⟩,
 ⟨some 2,.call 50 [.c (.int .i64 1000),.c (.int .i64 2000)],none,[]⟩,
 ⟨some 3,.call 50 [.c (.int .i64 3000),.c (.int .i64 5000)],none,[]⟩,
 ⟨some 4,.build [.int .i64 0,.int .i64 0,.int .i64 0,.int .i64 0,.int .i64 0,.int .i64 0,.int .i64 0,.int .i64 0,.int .i64 0] [(0,1,.c (.int .i64 90000)),(2,1,.c (.int .i64 20)),(3,2,.t 2),(5,1,.c (.int .i64 10000)),(6,2,.t 3)],none,[]⟩,
 ⟨some 5,.build [.int .i64 0,.int .i64 0,.int .i64 0,.int .i64 0,.int .i64 0,.int .i64 0,.int .i64 0,.int .i64 0,.int .i64 0] [(0,1,.c (.int .i64 140000))],none,[]⟩,
 ⟨some 6,.bsl 9 109 [.t 1,.t 4,.t 5],none,[]⟩,
 ⟨some 7,.call 50 [.c (.int .i64 90000),.c (.int .i64 100000)],none,[]⟩,
 ⟨some 8,.call 50 [.c (.int .i64 5),.c (.int .i64 7)],none,[]⟩,
 ⟨some 9,.call 50 [.c (.int .i64 20),.c (.int .i64 30)],none,[]⟩,
 ⟨some 10,.build [.int .i64 0,.int .i64 0,.int .i64 0,.int .i64 0] [(0,2,.t 8),(2,2,.t 9)],none,[]⟩,
 ⟨some 11,.bsl 4 95 [.t 10],none,[]⟩,
 ⟨some 12,.build [.int .i64 0,.int .i64 0,.int .i64 0,.int .i64 0,.slice none 0 0] [(0,1,.c (.int .i64 0)),(1,1,.c (.int .i64 1)),(2,2,.t 7),(4,1,.t 11)],none,[]⟩,
 ⟨some 13,.call 50 [.c (.int .i64 50000),.c (.int .i64 50000)],none,[]⟩,
 ⟨some 14,.call 50 [.c (.int .i64 12),.c (.int .i64 13)],none,[]⟩,
 ⟨some 15,.build [.int .i64 0,.int .i64 0,.int .i64 0,.int .i64 0] [(2,2,.t 14)],none,[]⟩,
 ⟨some 16,.call 50 [.c (.int .i64 18),.c (.int .i64 18)],none,[]⟩,
 ⟨some 17,.call 50 [.c (.int .i64 40),.c (.int .i64 50)],none,[]⟩,
 ⟨some 18,.build [.int .i64 0,.int .i64 0,.int .i64 0,.int .i64 0] [(0,2,.t 16),(2,2,.t 17)],none,[]⟩,
 ⟨some 19,.bsl 4 95 [.t 15,.t 18],none,[]⟩,
 ⟨some 20,.build [.int .i64 0,.int .i64 0,.int .i64 0,.int .i64 0,.slice none 0 0] [(0,1,.c (.int .i64 1)),(1,1,.c (.int .i64 2)),(2,2,.t 13),(4,1,.t 19)],none,[]⟩,
 ⟨some 21,.call 50 [.c (.int .i64 200000),.c (.int .i64 240000)],none,[]⟩,
 ⟨some 22,.call 50 [.c (.int .i64 99),.c (.int .i64 99)],none,[]⟩,
 ⟨some 23,.build [.int .i64 0,.int .i64 0,.int .i64 0,.int .i64 0] [(2,2,.t 22)],none,[]⟩,
 ⟨some 24,.bsl 4 95 [.t 23],none,[]⟩,
 ⟨some 25,.build [.int .i64 0,.int .i64 0,.int .i64 0,.int .i64 0,.slice none 0 0] [(0,1,.c (.int .i64 0)),(1,1,.c (.int .i64 2)),(2,2,.t 21),(4,1,.t 24)],none,[]⟩,
 ⟨some 26,.raw (Go.Op.buildSlice 23 3 #[(0,(Go.Operand.tmp 12)),(1,(Go.Operand.tmp 20)),(2,(Go.Operand.tmp 25))]) 23,none,[]⟩,
 ⟨some 27,.build [.slice none 0 0,.slice none 0 0] [(0,1,.t 6),(1,1,.t 26)],none,[]⟩,
 ⟨none,.st (.t 0) (.t 27) 2,none,[]⟩])
 .ret))
def rx56:List RV:=[.cell 0 2 true]
theorem nx56:Try.f56.ntmps = 28:=by kernel_rfl
theorem bx56:bodyB Try.prog 56 = true:=by kernel_rfl
theorem cx56_ok:cmpC Try.prog cx56 ((Try.f56.body).getD .skip) = true:=by kernel_rfl
theorem rx56_ok:cmpR Try.prog rx56 Try.f56.results.toList = true:=by kernel_rfl
theorem mx56 {n0:Nat} {hp0:List (Nat × HB)} {args:List SV} {Post:Ot → Prop} (hh:hpb n0 hp0) (hx:∀ o,Post o → KX o.res ∧ KXP o.hp) (h:sx Try.prog Y0 n0 cx56 ⟨enum 0 args,hp0,n0,28,[]⟩ (retM rx56 fun o=>∃ o',Post o' ∧ EntO n0 o o')) (hA:Nat.ble args.length 28 = true:=by rfl):CtM Try.prog 56 hp0 n0 args Post:=ctm_intro Try.func56 rfl bx56 cx56_ok rx56_ok nx56 (Nat.le_of_ble_eq_true hA) hh hx h
end Go.Proofs.Ytkjldleglbbkeaa
set_option maxRecDepth 100000
set_option maxHeartbeats 8000000
namespace Go.Azalai
def exLone:Land:=⟨exLand.wells,exLand.legs.take 2⟩
def exBad:Land:=⟨exLand.wells,exLand.legs.set 0 ⟨0,0,⟨90000,100000⟩,[⟨⟨5,7⟩,⟨20,30⟩⟩]⟩⟩
theorem lone_small:Small exLone:=⟨by decide,by decide,by decide⟩
theorem bad_small:Small exBad:=⟨by decide,by decide,by decide⟩
theorem lone_ok:OkLP exLone exPace:=⟨by decide,by decide⟩
theorem ey_days0:daysF exLand 0 exPace = (⟨3,5⟩,0):=by decide
theorem ey_days1:daysF exLand 1 exPace = (⟨2,3⟩,0):=by decide
theorem ey_days3:daysF exLand 3 exPace = (⟨0,0⟩,2):=by decide
theorem ey_daysp:daysF exLand 3 ⟨0,1⟩ = (⟨0,0⟩,31):=by decide
theorem ey_leave17:leaveF exLand 0 17 exPace = (⟨17,100001⟩,0):=by decide
theorem ey_leave29:leaveF exLand 0 29 exPace = (⟨100001,100001⟩,0):=by decide
theorem ey_ways:waysF exLand exPace 0 2 6 20 = [[2]]:=by decide
theorem ey_waysE:waysE exLand exPace 0 2 6 20 = 0:=by decide
theorem ey_work:workF exLand 1 500000 2 = (5,0):=by decide
theorem ey_work0:workF exLand 1 1 0 = (0,2):=by decide
theorem ey_walk1:walkF exLand exPace 0 6 [2,0,0] = ([],1,8):=by decide
theorem ey_walk2:walkF exLand exPace 0 17 [2,2,0] = ([],2,34):=by decide
theorem ey_dry:waterF exLand 1 [⟨0,0,0⟩,⟨1,0,7001⟩] 1 = (⟨0,0⟩,1,33):=by decide
theorem ey_draw:waterF exLand 1 [⟨0,1,0⟩,⟨0,0,0⟩] 1 = (⟨0,0⟩,0,32):=by decide
theorem ey_bad:okLand exBad = false:=by decide
def eyD (v:Int):Int:=if v = 0 then 17 else 100001
theorem ey_reachV (v:Int):reachV true exLone exPace 0 17 v = eyD v:=by
 refine (reach_eq (k:=true) (s:=0) (day:=17) lone_ok (by decide) (by decide) (by decide) (by decide) (d:=eyD) (by decide) ?_ ?_ ?_ v).symm
 · intro x hx;simp only [exLone,exLand,List.take_succ_cons,List.take_zero,List.mem_cons,List.not_mem_nil,or_false] at hx;rcases hx with rfl | rfl <;> decide
 · intro v;unfold eyD;repeat' split
   all_goals decide
 · intro v
   unfold eyD
   split
   · rename_i h;subst h;exact .inr ⟨[],by decide⟩
   · exact .inl rfl
end Go.Azalai
namespace Go.Proofs.Ytkjldleglbbkeaa
open Go Go.Sx Go.Azalai
theorem ey_sureE:sureE exLone exPace 0 2 17 = 6:=by
 have h1:askF exLone exPace = 0:=by decide
 have hr:reachV true exLone exPace 0 17 2 = 100001:=by rw [ey_reachV];decide
 unfold sureE
 rw [hr,if_neg (by rw [h1];decide),if_neg (by decide),if_pos (by decide)]
def legT (x:Leg):List SV:=[I x.a,I x.b,I x.long.lo,I x.long.hi,.sl true 4 (x.gates.map gateL)]
theorem u23:Try.prog.underlying 23 = some (.slice 86):=by kernel_rfl
theorem s86:szOf Try.prog 86 = some 5:=by kernel_rfl
theorem landM_ok:CtM Try.prog 56 [] 0 [] (fun o=>o = ⟨false,.agg [.sl true 9 (exLand.wells.map wellL),.mr 0 0],[(0,.row 0 5 (exLand.legs.map legT) 86)],1⟩):=by
 refine mx56 (by simp [hpb]) (fun o ho=>by subst ho;simp [KX,KXL,KXP,KXH,KFR,KFL,KF,exLand,wellL,legT,gateL]) ?_
 dsimp only [cx56,rx56,go_sem,rA,rM,rS]
 repeat (refine call (span_ok _ _) ?_;dsimp only [spanL,go_sem,rA,rM,rS])
 refine raw_bslO [.t 12,.t 20,.t 25] rfl rfl u23 s86 (by decide) rfl (by decide) (by decide) ⟨_,rfl,by kernel_rfl⟩ rfl rfl rfl ?_
 dsimp only [go_sem,rA,rM,rS]
 refine ⟨_,rfl,?_⟩
 refine entO (fun _=>1) ?_ ?_ ?_ (fun i hi j hj _=>by omega) rfl (fun i hi=>absurd hi (Nat.not_lt_zero i)) <;> dsimp only [go_sem,rA,rM,rS] <;> simp [KFR_iff,KFR_app,KFR,KFL,KF,mtL_same,mtO,nbr,wellL,legT,gateL,exLand]
theorem rrw_legT:∀ l:List Leg,RRW (l.map legT) (l.map legL)
 | []=>trivial
 | _ :: l=>⟨rlw_cons Weak.rfl (rlw_cons Weak.rfl (rlw_cons Weak.rfl (rlw_cons Weak.rfl (rlw_cons weak_c rlw_rfl)))),rfl,rrw_legT l⟩
theorem bad_check:Ct Try.prog 26 [.agg [.sl true 9 (exLand.wells.map wellL),.sl false 5 ((exLand.legs.set 0 ⟨0,0,⟨90000,100000⟩,[⟨⟨5,7⟩,⟨20,30⟩⟩]⟩).map legT)]] (I 30):=by
 have h:=check_ok exBad bad_small
 rw [ey_bad,if_neg (by decide)] at h
 exact h.args (by simp [KFL,KF,KFR,exLand,wellL,legT,gateL]) (rlw_cons (weak_agg (rlw_cons weak_c (rlw_cons (weak_slc (rrw_legT _)) rlw_rfl))) rlw_rfl)
theorem examples_ok:Ct Try.prog 14 [] (B true):=by
 refine tx14 (by simp [KFR,KFL,KF]) (by simp [KFL,KF]) ?_
 dsimp only [cx14,rx14,go_sem,rA,rM,rS]
 have k1:=wdays_ok exLand ex_small 0 exPace
 have k2:=wdays_ok exLand ex_small 1 exPace
 have k3:=wleave_ok exLand ex_small 0 17 exPace
 have k4:=wleave_ok exLand ex_small 0 29 exPace
 have k5:=wways_ok exLand ex_small 0 2 6 20 exPace
 have k6:=work_ok exLand ex_small 1 500000 2
 have k7:=wdays_ok exLand ex_small 3 exPace
 have k8:=wdays_ok exLand ex_small 3 ⟨0,1⟩
 have k9:=wwalk_ok exLand ex_small 0 6 exPace [2,0,0] (by decide) true
 have k10:=wwalk_ok exLand ex_small 0 17 exPace [2,2,0] (by decide) true
 have k11:=wsurest_ok exLone lone_small 0 2 17 exPace
 have k12:=(water_ok exLand ex_small 1 1 [⟨0,0,0⟩,⟨1,0,7001⟩] (by decide)).args (args0:=[.agg (landL exLand),I 1,.sl true 3 [[I 0,I 0,I 0],[I 1,I 0,I 7001]],I 1]) (by simp [landL,wellL,legL,gateL,exLand,KFR,KFL,KF]) (rlw_cons Weak.rfl (rlw_cons Weak.rfl (rlw_cons weak_c rlw_rfl)))
 have k13:=(water_ok exLand ex_small 1 1 [⟨0,1,0⟩,⟨0,0,0⟩] (by decide)).args (args0:=[.agg (landL exLand),I 1,.sl true 3 [[I 0,I 1,I 0],[I 0,I 0,I 0]],I 1]) (by simp [landL,wellL,legL,gateL,exLand,KFR,KFL,KF]) (rlw_cons Weak.rfl (rlw_cons Weak.rfl (rlw_cons weak_c rlw_rfl)))
 have k14:=work_ok exLand ex_small 1 1 0
 rw [ey_days0] at k1
 rw [ey_days1] at k2
 rw [ey_leave17] at k3
 rw [ey_leave29] at k4
 simp only [waysR,ey_waysE,ey_ways,rowsZ,if_true] at k5
 rw [ey_work] at k6
 rw [ey_days3] at k7
 rw [ey_daysp] at k8
 rw [ey_walk1] at k9
 rw [ey_walk2] at k10
 simp only [sureR,ey_sureE,rowsZ] at k11
 rw [if_neg (by decide)] at k11
 rw [ey_dry] at k12
 rw [ey_draw] at k13
 rw [ey_work0] at k14
 simp only [rowsZ,walkR] at k9 k10
 rw [if_neg (by decide)] at k9 k10
 repeat (first | (refine gb_run rfl ?_;dsimp only [go_sem,rA,rM,rS]) | (refine call alive_ok ?_;dsimp only [go_sem,rA,rM,rS]))
 refine br_f rfl ?_
 dsimp only [go_sem,rA,rM,rS]
 repeat (first | (refine call exland_ok ?_;dsimp only [go_sem,rA,rM,rS]) | (refine call pace_ok ?_;dsimp only [go_sem,rA,rM,rS]))
 refine call k1 ?_
 dsimp only [sres,spanL,go_sem,rA,rM,rS]
 repeat (first | (refine call exland_ok ?_;dsimp only [go_sem,rA,rM,rS]) | (refine call pace_ok ?_;dsimp only [go_sem,rA,rM,rS]))
 refine call k2 ?_
 dsimp only [sres,spanL,go_sem,rA,rM,rS]
 repeat (first | (refine call exland_ok ?_;dsimp only [go_sem,rA,rM,rS]) | (refine call pace_ok ?_;dsimp only [go_sem,rA,rM,rS]))
 refine call k3 ?_
 dsimp only [sres,spanL,go_sem,rA,rM,rS]
 repeat (first | (refine call exland_ok ?_;dsimp only [go_sem,rA,rM,rS]) | (refine call pace_ok ?_;dsimp only [go_sem,rA,rM,rS]))
 refine call k4 ?_
 dsimp only [sres,spanL,go_sem,rA,rM,rS]
 repeat (first | (refine call exland_ok ?_;dsimp only [go_sem,rA,rM,rS]) | (refine call pace_ok ?_;dsimp only [go_sem,rA,rM,rS]))
 refine call k5 ?_
 dsimp only [go_sem,rA,rM,rS]
 repeat (first | (refine call exland_ok ?_;dsimp only [go_sem,rA,rM,rS]) | (refine call pace_ok ?_;dsimp only [go_sem,rA,rM,rS]))
 refine call k6 ?_
 dsimp only [wkres,go_sem,rA,rM,rS]
 have q4:=(lists_ok [[2]] [[2]] (by decide) (by decide) (by decide) (by decide) false true).args (args0:=[.sl false 1 ([[2]].map rowW),.sl true 1 [[.sl true 1 [[I 2]]]]]) (by simp [KFR_iff,rowW,wayS,natL,KFR,KFL,KF]) (rlw_cons Weak.rfl (rlw_cons (weak_slc ⟨rlw_cons weak_c rlw_rfl,rfl,trivial⟩) rlw_rfl))
 simp only [decide_true] at q4
 repeat (first | (refine gb_run rfl ?_;dsimp only [go_sem,rA,rM,rS]) | (refine call (span_ok _ _) ?_;dsimp only [spanL,go_sem,rA,rM,rS]) | (refine call q4 ?_;dsimp only [go_sem,rA,rM,rS]))
 refine br_f rfl ?_
 dsimp only [go_sem,rA,rM,rS]
 refine call exland_ok ?_
 dsimp only [landL,go_sem,rA,rM,rS]
 refine ⟨0,2,impP_iff.2 fun _=>⟨rfl,rfl,by decide,by decide⟩,?_⟩
 rw [List.drop_zero,← List.map_take]
 dsimp only [go_sem,rA,rM,rS]
 refine callmL [] landM_ok rfl rfl rfl ?_ ?_ ?_
 · dsimp only [go_sem,rA,rM,rS]
 · dsimp only [go_sem,rA,rM,rS]
 dsimp only [go_sem,rA,rM,rS]
 refine ixrm 0 rfl (by decide) ?_
 dsimp only [go_sem,rA,rM,rS]
 refine strm (⟨0,0,⟨90000,100000⟩,[⟨⟨5,7⟩,⟨20,30⟩⟩]⟩:Leg) (by decide) (by decide) rfl ?_
 dsimp only [go_sem,rA,rM,rS]
 repeat (first | (refine call exland_ok ?_;dsimp only [go_sem,rA,rM,rS]) | (refine call pace_ok ?_;dsimp only [go_sem,rA,rM,rS]))
 refine call k7 ?_
 dsimp only [sres,spanL,go_sem,rA,rM,rS]
 repeat (first | (refine call exland_ok ?_;dsimp only [go_sem,rA,rM,rS]) | (refine call (span_ok _ _) ?_;dsimp only [spanL,go_sem,rA,rM,rS]))
 refine call k8 ?_
 dsimp only [sres,spanL,go_sem,rA,rM,rS]
 repeat (first | (refine call exland_ok ?_;dsimp only [go_sem,rA,rM,rS]) | (refine call pace_ok ?_;dsimp only [go_sem,rA,rM,rS]))
 refine call k9 ?_
 dsimp only [go_sem,rA,rM,rS]
 repeat (first | (refine call exland_ok ?_;dsimp only [go_sem,rA,rM,rS]) | (refine call pace_ok ?_;dsimp only [go_sem,rA,rM,rS]))
 refine call k10 ?_
 dsimp only [go_sem,rA,rM,rS]
 repeat (first | (refine call exland_ok ?_;dsimp only [go_sem,rA,rM,rS]) | (refine call pace_ok ?_;dsimp only [go_sem,rA,rM,rS]))
 refine call k11 ?_
 dsimp only [go_sem,rA,rM,rS]
 repeat (first | (refine call exland_ok ?_;dsimp only [go_sem,rA,rM,rS]) | (refine call pace_ok ?_;dsimp only [go_sem,rA,rM,rS]))
 refine call k12 ?_
 dsimp only [wres,spanL,go_sem,rA,rM,rS]
 repeat (first | (refine call exland_ok ?_;dsimp only [go_sem,rA,rM,rS]) | (refine call pace_ok ?_;dsimp only [go_sem,rA,rM,rS]))
 refine call k13 ?_
 dsimp only [wres,spanL,go_sem,rA,rM,rS]
 refine call exland_ok ?_
 dsimp only [go_sem,rA,rM,rS]
 refine call k14 ?_
 dsimp only [wkres,go_sem,rA,rM,rS]
 refine callv (by simp [FLT]) (res:=I 30) ?_ ?_
 · dsimp only [go_sem,rA,rM,rS]
   exact bad_check
 dsimp only [go_sem,rA,rM,rS]
 repeat (refine gb_run rfl ?_;dsimp only [go_sem,rA,rM,rS])
 rfl
end Go.Proofs.Ytkjldleglbbkeaa
