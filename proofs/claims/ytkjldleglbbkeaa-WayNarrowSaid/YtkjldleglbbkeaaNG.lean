/- Walks and plain laws that lead to the given statement, part 7 of 8. -/
import Derived.Test.YtkjldleglbbkeaaNF
import Derived.Test.YtkjldleglbbkeaaProg
open Nat renaming reduceAdd→rA,reduceMul→rM,reduceSub→rS,beq_refl→nbr
set_option maxRecDepth 100000
set_option maxHeartbeats 8000000
namespace Go.Azalai
open Go.Sx
theorem wayLegs_split {l:Land} {p:Span} {to till:Int} {f:Nat} {been:List Int} {v t:Int} {j:Nat}:∀ (k:Nat),∃ R,wayLegs l p to till f been v t (j + k) = wayLegs l p to till f been v t j ++ R
 | 0=>⟨[],by simp⟩
 | k + 1=>by
  obtain ⟨R,h⟩:=wayLegs_split k
  exact ⟨R ++ wayLeg l p to till f been v t (j + k),by rw [← Nat.add_assoc,wayLegs_succ,h,List.append_assoc]⟩
theorem wayLeg_no {l:Land} {p:Span} {to till:Int} {f:Nat} {been:List Int} {v t:Int} {j:Nat} {x:Leg} (hx:l.legs[j]? = some x) (h:otherF x v < 0 ∨ otherF x v ∈ v :: been):wayLeg l p to till f been v t j = []:=by
 simp only [wayLeg,hx];rw [if_pos h]
theorem wayLeg_yes {l:Land} {p:Span} {to till:Int} {f:Nat} {been:List Int} {v t:Int} {j:Nat} {x:Leg} (hx:l.legs[j]? = some x) (h0:¬ otherF x v < 0) (h:otherF x v ∉ v :: been) :
 wayLeg l p to till f been v t j = (waysL l p to till f (v :: been) (otherF x v) (arrK true x p t)).map (j :: ·):=by
 simp only [wayLeg,hx];rw [if_neg (fun q=>q.elim h0 h)]
end Go.Azalai
namespace Go.Proofs.Ytkjldleglbbkeaa
open Go Go.Sx Go.Azalai
def rowW (w:List Nat):List SV:=[wayS w]
def lookH (l:Land) (p:Span) (till to:Int) (all:List (List Nat)) (ver:Nat) (L:List (Nat × Int × Bool)) (clk:Nat):List (Nat × HB) :=
 [(0,.cells [I till] 3),(1,.cells [I to] 3),(2,.cells [.mr 6 ver] 53),(3,.cells [.mp 7] 99),(4,.cells (carL l p) 119),(5,.cells [.cl 77 [.p 0 0,.p 1 0,.p 2 0,.p 3 0,.p 4 0,.p 5 0]] 134),(6,.row ver 1 (all.map rowW) 59),(7,.map (mpS kI B L) clk)]
def lookP (l:Land) (p:Span) (till to:Int) (all:List (List Nat)) (L:List (Nat × Int × Bool)) (W:List (List Nat)):Ot → Prop:=fun o =>
 ∃ ver clk,MW L clk ∧ o = ⟨false,B (decide ((all ++ W).length ≤ 200)),lookH l p till to (cap (all ++ W)) ver L clk,8⟩
def beenL (been:List Int) (L:List (Nat × Int × Bool)):Prop:=∀ u:Int,mget u L = if u ∈ been then some true else none
theorem mdel_set {L:List (Nat × Int × Bool)} {c:Nat} {v:Int} {b:Bool} (h:mget v L = none):mdel v (mset c v b L) = L:=by
 rw [mset_new h]
 have key:∀ (L:List (Nat × Int × Bool)),mget v L = none → mdel v (L ++ [(c,v,b)]) = L:=by
  intro L
  induction L with
  | nil=>intro _;simp [mdel]
  | cons e L ih =>
   intro h
   have hne:e.2.1 ≠ v:=mget_none.1 h e (by simp)
   have hL:mget v L = none:=mget_none.2 fun x hx=>mget_none.1 h x (by simp [hx])
   have:=ih hL
   obtain ⟨e1,e2,e3⟩:=e
   simp only at hne
   simp only [List.cons_append,mdel]
   rw [this]
   simp [hne,Ne.symm hne]
 exact key L h
theorem look_ok (l:Land) (p:Span) (hs:Small l) (hok:OkLP l p) (till to:Int):∀ (f:Nat) (been:List Int) (v t:Int) (way:List Nat) (all:List (List Nat)) (ver clk:Nat) (L:List (Nat × Int × Bool)) (s1:SV),Room l f been → v ∉ been → (0 ≤ v ∧ v < l.wells.length) → (0 ≤ t ∧ t ≤ 100001) →
 way.length + f ≤ 1000 → all.length ≤ 200 → MW L clk → beenL been L → (s1 = wayS way ∨ s1 = .v (.slice none 0 0) ∧ way = []) →
 CtM Try.prog 77 (lookH l p till to all ver L clk) 8 [.agg [I v,I t],s1,.p 0 0,.p 1 0,.p 2 0,.p 3 0,.p 4 0,.p 5 0] (lookP l p till to all L ((waysL l p to till f been v t).map (way ++ ·))):=by
 intro f
 induction f with
 | zero =>
  intro been v t way all ver clk L s1 hR hv hvi
  obtain ⟨g,h,_⟩:=hR.pos hv hvi
  omega
 | succ f ih =>
 intro been v t way all ver clk L s1 hR hv hvi ht hlen hall hM hbL hs1
 obtain ⟨g,hg,hR'⟩:=hR.pos hv hvi
 have hgf:g = f:=by omega
 subst hgf
 have hleg:=hs.2.1
 refine m77 (by simp [hpb,lookH]) (fun o ho=>?_) ?_
 · obtain ⟨ver',clk',_,rfl⟩:=ho
   simp [lookH,KX,KXL,KXP,KXH,KFR_iff,KFL,KF,carL,wellL,legL,gateL,rowW,wayS,natL,mpS_kf,mpS_kf3]
 dsimp only [c77,r77,lookH,go_sem,rA,rM,rS]
 rcases hs1 with rfl | ⟨rfl,hw0⟩
 · refine gh ent_refl ?_
   dsimp only [wayS,go_sem,rA,rM,rS]
   refine br ?_ ?_
   · intro hlate
     have hlate:t > till:=of_decide_eq_true hlate
     dsimp only [go_sem,rA,rM,rS]
     refine ⟨_,⟨ver,clk,hM,rfl⟩,?_⟩
     rw [waysL_late hlate,List.map_nil,List.append_nil,cap_id (by omega),decide_eq_true hall]
     (refine entO_id ?_ ?_ ?_ rfl <;> dsimp only [carL,wellL,legL,gateL,rowW,wayS,natL,mpS_nil,mpS_kf,mpS_kf3,KFR_iff,lookH,id,go_sem,rA,rM,rS] <;> simp [carL,wellL,legL,gateL,rowW,wayS,natL,mpS_nil,mpS_kf,mpS_kf3,KFR_iff,lookH,KFR_iff,KFR_app,KFR,KFL,KF,mtL_same,mtO,nbr])
   intro hlate
   have hlate:¬ t > till:=of_decide_eq_false hlate
   dsimp only [go_sem,rA,rM,rS]
   refine br ?_ ?_
   · intro hto
     have hto:v = to:=by simpa using hto
     dsimp only [go_sem,rA,rM,rS]
     refine call (clonev_ok way (by omega)) ?_
     dsimp only [wayS,go_sem,rA,rM,rS]
     simp only [nbr]
     dsimp only [go_sem,rA,rM,rS]
     refine ⟨(by intro c hc;simp only [List.mem_singleton] at hc;subst hc;rfl),by simp;omega,?_⟩
     dsimp only [go_sem,rA,rM,rS]
     simp only [nbr]
     dsimp only [go_sem,rA,rM,rS]
     have e:all.map rowW ++ [[SV.sl false 1 (way.map natL)]] = (all ++ [way]).map rowW:=by simp [rowW,wayS]
     rw [e]
     refine ⟨_,⟨ver + 1,clk,hM,rfl⟩,?_⟩
     rw [waysL_succ,if_neg hlate,if_pos hto]
     simp only [List.map_cons,List.map_nil,List.append_nil,List.length_map]
     rw [cap_id (by simp;omega)]
     have hd:decide (((all ++ [way]).length:Int) ≤ 200) = decide ((all ++ [way]).length ≤ 200):=by simp;omega
     rw [hd]
     (refine entO_id ?_ ?_ ?_ rfl <;> dsimp only [carL,wellL,legL,gateL,rowW,wayS,natL,mpS_nil,mpS_kf,mpS_kf3,KFR_iff,lookH,id,go_sem,rA,rM,rS] <;> simp [carL,wellL,legL,gateL,rowW,wayS,natL,mpS_nil,mpS_kf,mpS_kf3,KFR_iff,lookH,KFR_iff,KFR_app,KFR,KFL,KF,mtL_same,mtO,nbr])
   intro hto
   have hto:¬ v = to:=by simpa using hto
   dsimp only [go_sem,rA,rM,rS]
   refine raw_set (ins:=false) (key:=kI) (val:=B) (L:=L) (k:=v) (v:=true) rfl rfl u99 key3 rfl rfl (by simp) ?_
   dsimp only [go_sem,rA,rM,rS]
   refine ⟨rfl,?_⟩
   have hvL:mget v L = none:=by rw [hbL,if_neg hv]
   have hM1:=hM.set (k:=v) true
   have hL1:beenL (v :: been) (mset clk v true L):=fun u=>by
    rw [mget_set]
    by_cases hu:u = v
    · simp [hu]
    · rw [if_neg hu,hbL]
      simp [hu]
   have hdel:=mdel_set (L:=L) (c:=clk) (b:=true) hvL
   generalize mset clk v true L = L1 at hM1 hL1 hdel ⊢
   generalize mclk clk v L = clk1 at hM1 ⊢
   refine callmL [] (leads_ok l p v) rfl rfl rfl ?_ ?_ ?_
   · exact mtL_same (by simp [carL,wellL,legL,gateL,KFR_iff,KFL,KF])
   · trivial
   dsimp only [leadsO,carL,go_sem,rA,rM,rS]
   refine gh ent_refl ?_
   dsimp only [go_sem,rA,rM,rS]
   refine ⟨b97,fun rec=>?_⟩
   refine y97 ?_
   dsimp only [c97,r97,go_sem,rA,rM,rS]
   refine loopO (fun q:Nat × List (List Nat) × Nat × Nat=>[(10,I q.1)]) (fun q=>[(2,.cells [.mr 6 q.2.2.1] 53),(6,.row q.2.2.1 1 (q.2.1.map rowW) 59),(7,.map (mpS kI B L1) q.2.2.2)])
    (fun q=>q.1 ≤ l.legs.length ∧ MW L1 q.2.2.2 ∧ q.2.1 = all ++ (wayLegs l p to till g been v t q.1).map (way ++ ·) ∧ q.2.1.length ≤ 200) (fun q=>l.legs.length - q.1) (0,all,ver,clk1) ⟨Nat.zero_le _,hM1,by simp [wayLegs_0],hall⟩ ?_ ?_
   · (refine ent_id ?_ ?_ ?_ rfl rfl <;> dsimp only [carL,wellL,legL,gateL,rowW,wayS,natL,mpS_nil,mpS_kf,mpS_kf3,KFR_iff,id,go_sem,rA,rM,rS] <;> simp [carL,wellL,legL,gateL,rowW,wayS,natL,mpS_nil,mpS_kf,mpS_kf3,KFR_iff,KFR_iff,KFR_app,KFR,KFL,KF,mtL_same,mtO,nbr])
   rintro ⟨j,allj,ver,clk⟩ ⟨hj,hMj,hallj,hlenj⟩
   simp only at hj hMj hallj hlenj
   dsimp only [go_sem,rA,rM,rS]
   simp only [List.length_map]
   by_cases hlt:j < l.legs.length
   · refine br_t (by simpa using hlt) ?_
     dsimp only [go_sem,rA,rM,rS]
     refine ixs_map j hlt rfl ?_
     dsimp only [legL,go_sem,rA,rM,rS]
     have hgl:GoodLeg l.legs[j]:=okLand_leg hok.land _ (List.getElem_mem _)
     have hends:=hok.ends (List.getElem_mem hlt)
     have hxj:l.legs[j]? = some l.legs[j]:=List.getElem?_eq_getElem hlt
     have hin:inR 0 100001 t = true:=by simp only [inR,decide_eq_true_eq];omega
     have hab:=arrK_bd (k:=true) (t:=t) hgl hok.pace (by omega)
     by_cases hca:v = l.legs[j].a
     · refine br_t (by simpa using hca) ?_
       have hoth:otherF l.legs[j] v = l.legs[j].b:=by rw [otherF,if_pos hca.symm]
       dsimp only [go_sem,rA,rM,rS]
       refine ⟨rfl,rfl,?_⟩
       refine raw_get (key:=kI) (sv:=sI) (val:=B) (L:=L1) (k:=l.legs[j].b) (z:=.bool false) (zs:=B false) rfl rfl u99 key3 rfl (by kernel_rfl) (fun w E n ok=>by simp only [R]) ?_ ?_
       · intro b hget
         have hb:b = true ∧ otherF l.legs[j] v ∈ v :: been:=by
          have h:=hL1 l.legs[j].b
          rw [hget] at h
          rw [hoth]
          split at h
          · rename_i hm;exact ⟨Option.some.inj h,hm⟩
          · cases h
         obtain ⟨rfl,hmem⟩:=hb
         dsimp only [Bool.not_true,go_sem,rA,rM,rS]
         repeat (refine gb_skip (by decide) ?_;dsimp only [go_sem,rA,rM,rS])
         refine br_f (by decide) ?_
         dsimp only [go_sem,rA,rM,rS]
         refine ⟨rfl,?_⟩
         refine br_f (by decide) ?_
         dsimp only [go_sem,rA,rM,rS]
         rw [w64_in (n:=(j:Int) + 1) (by omega) (by omega)]
         refine ⟨(j + 1,allj,ver,clk),⟨hlt,hMj,by rw [wayLegs_succ,wayLeg_no hxj (.inr hmem),List.append_nil];exact hallj,hlenj⟩,by simp only;omega,?_⟩
         (refine ent_id ?_ ?_ ?_ rfl rfl <;> dsimp only [carL,wellL,legL,gateL,rowW,wayS,natL,mpS_nil,mpS_kf,mpS_kf3,KFR_iff,id,go_sem,rA,rM,rS] <;> simp [carL,wellL,legL,gateL,rowW,wayS,natL,mpS_nil,mpS_kf,mpS_kf3,KFR_iff,KFR_iff,KFR_app,KFR,KFL,KF,mtL_same,mtO,nbr])
       intro hget
       have hnb:otherF l.legs[j] v ∉ v :: been:=fun hm=>by
        have h:=hL1 l.legs[j].b
        rw [hoth] at hm
        rw [hget,if_pos hm] at h;cases h
       have hn0:¬ otherF l.legs[j] v < 0:=by rw [hoth];omega
       dsimp only [Bool.not_false,go_sem,rA,rM,rS]
       iterate 10 (refine gb_run rfl ?_;dsimp only [go_sem,rA,rM,rS])
       refine call (arrive_ok l p j hlt t t hgl hok.pace hin hin) ?_
       dsimp only [go_sem,rA,rM,rS]
       refine gb_run rfl ?_
       dsimp only [go_sem,rA,rM,rS]
       refine ixa 1 rfl (by decide) ?_
       dsimp only [go_sem,rA,rM,rS]
       iterate 4 (refine gb_run rfl ?_;dsimp only [go_sem,rA,rM,rS])
       refine call (more_ok way j (by omega)) ?_
       dsimp only [wayS,go_sem,rA,rM,rS]
       refine gb_run rfl ?_
       dsimp only [go_sem,rA,rM,rS]
       have hot:=otherF_in hok hxj hn0
       have hih:=ih (v :: been) (otherF l.legs[j] v) (arrK true l.legs[j] p t) (way ++ [j]) allj ver clk L1 (wayS (way ++ [j])) hR' hnb hot.1 (by omega) (by simp;omega) hlenj hMj hL1 (.inl rfl)
       have hWj:(waysL l p to till g (v :: been) (otherF l.legs[j] v) (arrK true l.legs[j] p t)).map (way ++ [j] ++ ·) = (wayLeg l p to till g been v t j).map (way ++ ·):=by
        rw [wayLeg_yes hxj hn0 hnb,List.map_map]
        simp [Function.comp_def]
       rw [hWj,hoth] at hih
       refine callmP [0,1,2,3,4,5,6,7] hih rfl rfl ?_ ?_ ?_ ?_
       · rfl
       · dsimp only [rho,wayS,go_sem,rA,rM,rS]
         simp [KFR_iff,KFR_app,KFR,KFL,KF,mtL_same,mtO,nbr,carL,wellL,legL,gateL,rowW,wayS,natL,mpS_kf,mpS_kf3]
       · dsimp only [rho,lookH,carL,go_sem,rA,rM,rS]
         simp [KFR_iff,KFR_app,KFR,KFL,KF,mtL_same,mtO,nbr,carL,wellL,legL,gateL,rowW,wayS,natL,mpS_kf,mpS_kf3]
       rintro o ⟨ver',clk',hM',rfl⟩
       dsimp only [lookH,carL,go_sem,rA,rM,rS]
       refine gb_run rfl ?_
       dsimp only [Bool.not_false,go_sem,rA,rM,rS]
       have hnext:all ++ (wayLegs l p to till g been v t (j + 1)).map (way ++ ·) = allj ++ (wayLeg l p to till g been v t j).map (way ++ ·):=by
        rw [wayLegs_succ,List.map_append,← List.append_assoc,← hallj]
       generalize hWW:(wayLeg l p to till g been v t j).map (way ++ ·) = Wj at hnext ⊢
       by_cases hsm:(allj ++ Wj).length ≤ 200
       · refine br_f (by simp only [hsm,decide_true];rfl) ?_
         dsimp only [go_sem,rA,rM,rS]
         refine ⟨rfl,?_⟩
         refine br_f (by decide) ?_
         dsimp only [go_sem,rA,rM,rS]
         rw [w64_in (n:=(j:Int) + 1) (by omega) (by omega),cap_id (by omega)]
         rw [← hnext] at hsm ⊢
         refine ⟨(j + 1,_,ver',clk'),⟨hlt,hM',rfl,hsm⟩,by simp only;omega,?_⟩
         generalize all ++ (wayLegs l p to till g been v t (j + 1)).map (way ++ ·) = alln
         (refine ent_id ?_ ?_ ?_ rfl rfl <;> dsimp only [carL,wellL,legL,gateL,rowW,wayS,natL,mpS_nil,mpS_kf,mpS_kf3,KFR_iff,id,go_sem,rA,rM,rS] <;> simp [carL,wellL,legL,gateL,rowW,wayS,natL,mpS_nil,mpS_kf,mpS_kf3,KFR_iff,KFR_iff,KFR_app,KFR,KFL,KF,mtL_same,mtO,nbr])
       · refine br_t (by simp only [hsm,decide_false];rfl) ?_
         dsimp only [go_sem,rA,rM,rS]
         refine ⟨rfl,?_⟩
         refine br_t rfl ?_
         dsimp only [go_sem,rA,rM,rS]
         have hWs:waysL l p to till (g + 1) been v t = wayLegs l p to till g been v t l.legs.length:=by rw [waysL_succ,if_neg hlate,if_neg hto]
         obtain ⟨R,hRs⟩:=wayLegs_split (l:=l) (p:=p) (to:=to) (till:=till) (f:=g) (been:=been) (v:=v) (t:=t) (j:=j + 1) (l.legs.length - (j + 1))
         rw [show j + 1 + (l.legs.length - (j + 1)) = l.legs.length by omega] at hRs
         have hall2:all ++ (waysL l p to till (g + 1) been v t).map (way ++ ·) = allj ++ Wj ++ R.map (way ++ ·):=by
          rw [hWs,hRs,List.map_append,← List.append_assoc,hnext]
         have hlong:¬ (allj ++ Wj ++ R.map (way ++ ·)).length ≤ 200:=by rw [List.length_append];omega
         refine ⟨_,delR (key:=kI) (val:=B) (sv:=sI) (L:=L1) (k:=v) u99 key3,?_⟩
         rw [hdel]
         have hMf:MW L clk':=by have:=hM'.del (k:=v);rw [hdel] at this;exact this
         refine ⟨_,⟨ver',clk',hMf,rfl⟩,?_⟩
         have hc2:cap (allj ++ Wj ++ R.map (way ++ ·)) = cap (allj ++ Wj):=cap_app (by omega)
         rw [hall2,hc2,decide_eq_false hlong]
         generalize cap (allj ++ Wj) = alln
         (refine entO_id ?_ ?_ ?_ rfl <;> dsimp only [carL,wellL,legL,gateL,rowW,wayS,natL,mpS_nil,mpS_kf,mpS_kf3,KFR_iff,lookH,id,go_sem,rA,rM,rS] <;> simp [carL,wellL,legL,gateL,rowW,wayS,natL,mpS_nil,mpS_kf,mpS_kf3,KFR_iff,lookH,KFR_iff,KFR_app,KFR,KFL,KF,mtL_same,mtO,nbr])
     refine br_f (by simpa using hca) ?_
     dsimp only [go_sem,rA,rM,rS]
     by_cases hcb:v = l.legs[j].b
     · refine br_t (by simpa using hcb) ?_
       have hoth:otherF l.legs[j] v = l.legs[j].a:=by rw [otherF,if_neg (fun h=>hca h.symm),if_pos hcb.symm]
       dsimp only [go_sem,rA,rM,rS]
       refine ⟨rfl,rfl,?_⟩
       refine raw_get (key:=kI) (sv:=sI) (val:=B) (L:=L1) (k:=l.legs[j].a) (z:=.bool false) (zs:=B false) rfl rfl u99 key3 rfl (by kernel_rfl) (fun w E n ok=>by simp only [R]) ?_ ?_
       · intro b hget
         have hb:b = true ∧ otherF l.legs[j] v ∈ v :: been:=by
          have h:=hL1 l.legs[j].a
          rw [hget] at h
          rw [hoth]
          split at h
          · rename_i hm;exact ⟨Option.some.inj h,hm⟩
          · cases h
         obtain ⟨rfl,hmem⟩:=hb
         dsimp only [Bool.not_true,go_sem,rA,rM,rS]
         repeat (refine gb_skip (by decide) ?_;dsimp only [go_sem,rA,rM,rS])
         refine br_f (by decide) ?_
         dsimp only [go_sem,rA,rM,rS]
         refine ⟨rfl,?_⟩
         refine br_f (by decide) ?_
         dsimp only [go_sem,rA,rM,rS]
         rw [w64_in (n:=(j:Int) + 1) (by omega) (by omega)]
         refine ⟨(j + 1,allj,ver,clk),⟨hlt,hMj,by rw [wayLegs_succ,wayLeg_no hxj (.inr hmem),List.append_nil];exact hallj,hlenj⟩,by simp only;omega,?_⟩
         (refine ent_id ?_ ?_ ?_ rfl rfl <;> dsimp only [carL,wellL,legL,gateL,rowW,wayS,natL,mpS_nil,mpS_kf,mpS_kf3,KFR_iff,id,go_sem,rA,rM,rS] <;> simp [carL,wellL,legL,gateL,rowW,wayS,natL,mpS_nil,mpS_kf,mpS_kf3,KFR_iff,KFR_iff,KFR_app,KFR,KFL,KF,mtL_same,mtO,nbr])
       intro hget
       have hnb:otherF l.legs[j] v ∉ v :: been:=fun hm=>by
        have h:=hL1 l.legs[j].a
        rw [hoth] at hm
        rw [hget,if_pos hm] at h;cases h
       have hn0:¬ otherF l.legs[j] v < 0:=by rw [hoth];omega
       dsimp only [Bool.not_false,go_sem,rA,rM,rS]
       iterate 10 (refine gb_run rfl ?_;dsimp only [go_sem,rA,rM,rS])
       refine call (arrive_ok l p j hlt t t hgl hok.pace hin hin) ?_
       dsimp only [go_sem,rA,rM,rS]
       refine gb_run rfl ?_
       dsimp only [go_sem,rA,rM,rS]
       refine ixa 1 rfl (by decide) ?_
       dsimp only [go_sem,rA,rM,rS]
       iterate 4 (refine gb_run rfl ?_;dsimp only [go_sem,rA,rM,rS])
       refine call (more_ok way j (by omega)) ?_
       dsimp only [wayS,go_sem,rA,rM,rS]
       refine gb_run rfl ?_
       dsimp only [go_sem,rA,rM,rS]
       have hot:=otherF_in hok hxj hn0
       have hih:=ih (v :: been) (otherF l.legs[j] v) (arrK true l.legs[j] p t) (way ++ [j]) allj ver clk L1 (wayS (way ++ [j])) hR' hnb hot.1 (by omega) (by simp;omega) hlenj hMj hL1 (.inl rfl)
       have hWj:(waysL l p to till g (v :: been) (otherF l.legs[j] v) (arrK true l.legs[j] p t)).map (way ++ [j] ++ ·) = (wayLeg l p to till g been v t j).map (way ++ ·):=by
        rw [wayLeg_yes hxj hn0 hnb,List.map_map]
        simp [Function.comp_def]
       rw [hWj,hoth] at hih
       refine callmP [0,1,2,3,4,5,6,7] hih rfl rfl ?_ ?_ ?_ ?_
       · rfl
       · dsimp only [rho,wayS,go_sem,rA,rM,rS]
         simp [KFR_iff,KFR_app,KFR,KFL,KF,mtL_same,mtO,nbr,carL,wellL,legL,gateL,rowW,wayS,natL,mpS_kf,mpS_kf3]
       · dsimp only [rho,lookH,carL,go_sem,rA,rM,rS]
         simp [KFR_iff,KFR_app,KFR,KFL,KF,mtL_same,mtO,nbr,carL,wellL,legL,gateL,rowW,wayS,natL,mpS_kf,mpS_kf3]
       rintro o ⟨ver',clk',hM',rfl⟩
       dsimp only [lookH,carL,go_sem,rA,rM,rS]
       refine gb_run rfl ?_
       dsimp only [Bool.not_false,go_sem,rA,rM,rS]
       have hnext:all ++ (wayLegs l p to till g been v t (j + 1)).map (way ++ ·) = allj ++ (wayLeg l p to till g been v t j).map (way ++ ·):=by
        rw [wayLegs_succ,List.map_append,← List.append_assoc,← hallj]
       generalize hWW:(wayLeg l p to till g been v t j).map (way ++ ·) = Wj at hnext ⊢
       by_cases hsm:(allj ++ Wj).length ≤ 200
       · refine br_f (by simp only [hsm,decide_true];rfl) ?_
         dsimp only [go_sem,rA,rM,rS]
         refine ⟨rfl,?_⟩
         refine br_f (by decide) ?_
         dsimp only [go_sem,rA,rM,rS]
         rw [w64_in (n:=(j:Int) + 1) (by omega) (by omega),cap_id (by omega)]
         rw [← hnext] at hsm ⊢
         refine ⟨(j + 1,_,ver',clk'),⟨hlt,hM',rfl,hsm⟩,by simp only;omega,?_⟩
         generalize all ++ (wayLegs l p to till g been v t (j + 1)).map (way ++ ·) = alln
         (refine ent_id ?_ ?_ ?_ rfl rfl <;> dsimp only [carL,wellL,legL,gateL,rowW,wayS,natL,mpS_nil,mpS_kf,mpS_kf3,KFR_iff,id,go_sem,rA,rM,rS] <;> simp [carL,wellL,legL,gateL,rowW,wayS,natL,mpS_nil,mpS_kf,mpS_kf3,KFR_iff,KFR_iff,KFR_app,KFR,KFL,KF,mtL_same,mtO,nbr])
       · refine br_t (by simp only [hsm,decide_false];rfl) ?_
         dsimp only [go_sem,rA,rM,rS]
         refine ⟨rfl,?_⟩
         refine br_t rfl ?_
         dsimp only [go_sem,rA,rM,rS]
         have hWs:waysL l p to till (g + 1) been v t = wayLegs l p to till g been v t l.legs.length:=by rw [waysL_succ,if_neg hlate,if_neg hto]
         obtain ⟨R,hRs⟩:=wayLegs_split (l:=l) (p:=p) (to:=to) (till:=till) (f:=g) (been:=been) (v:=v) (t:=t) (j:=j + 1) (l.legs.length - (j + 1))
         rw [show j + 1 + (l.legs.length - (j + 1)) = l.legs.length by omega] at hRs
         have hall2:all ++ (waysL l p to till (g + 1) been v t).map (way ++ ·) = allj ++ Wj ++ R.map (way ++ ·):=by
          rw [hWs,hRs,List.map_append,← List.append_assoc,hnext]
         have hlong:¬ (allj ++ Wj ++ R.map (way ++ ·)).length ≤ 200:=by rw [List.length_append];omega
         refine ⟨_,delR (key:=kI) (val:=B) (sv:=sI) (L:=L1) (k:=v) u99 key3,?_⟩
         rw [hdel]
         have hMf:MW L clk':=by have:=hM'.del (k:=v);rw [hdel] at this;exact this
         refine ⟨_,⟨ver',clk',hMf,rfl⟩,?_⟩
         have hc2:cap (allj ++ Wj ++ R.map (way ++ ·)) = cap (allj ++ Wj):=cap_app (by omega)
         rw [hall2,hc2,decide_eq_false hlong]
         generalize cap (allj ++ Wj) = alln
         (refine entO_id ?_ ?_ ?_ rfl <;> dsimp only [carL,wellL,legL,gateL,rowW,wayS,natL,mpS_nil,mpS_kf,mpS_kf3,KFR_iff,lookH,id,go_sem,rA,rM,rS] <;> simp [carL,wellL,legL,gateL,rowW,wayS,natL,mpS_nil,mpS_kf,mpS_kf3,KFR_iff,lookH,KFR_iff,KFR_app,KFR,KFL,KF,mtL_same,mtO,nbr])
     refine br_f (by simpa using hcb) ?_
     dsimp only [go_sem,rA,rM,rS]
     rw [w64_in (n:=(j:Int) + 1) (by omega) (by omega)]
     have hoth:otherF l.legs[j] v = -1:=by rw [otherF,if_neg (fun h=>hca h.symm),if_neg (fun h=>hcb h.symm)]
     refine ⟨(j + 1,allj,ver,clk),⟨hlt,hMj,by rw [wayLegs_succ,wayLeg_no hxj (.inl (by omega)),List.append_nil];exact hallj,hlenj⟩,by simp only;omega,?_⟩
     (refine ent_id ?_ ?_ ?_ rfl rfl <;> dsimp only [carL,wellL,legL,gateL,rowW,wayS,natL,mpS_nil,mpS_kf,mpS_kf3,KFR_iff,id,go_sem,rA,rM,rS] <;> simp [carL,wellL,legL,gateL,rowW,wayS,natL,mpS_nil,mpS_kf,mpS_kf3,KFR_iff,KFR_iff,KFR_app,KFR,KFL,KF,mtL_same,mtO,nbr])
   refine br_f (by simp;omega) ?_
   dsimp only [go_sem,rA,rM,rS]
   have hje:j = l.legs.length:=by omega
   subst hje
   have hWs:waysL l p to till (g + 1) been v t = wayLegs l p to till g been v t l.legs.length:=by rw [waysL_succ,if_neg hlate,if_neg hto]
   refine ⟨_,delR (key:=kI) (val:=B) (sv:=sI) (L:=L1) (k:=v) u99 key3,?_⟩
   rw [hdel]
   have hMf:MW L clk:=by have:=hMj.del (k:=v);rw [hdel] at this;exact this
   refine ⟨_,⟨ver,clk,hMf,rfl⟩,?_⟩
   rw [hWs,← hallj,cap_id (by omega),decide_eq_true hlenj]
   (refine entO_id ?_ ?_ ?_ rfl <;> dsimp only [carL,wellL,legL,gateL,rowW,wayS,natL,mpS_nil,mpS_kf,mpS_kf3,KFR_iff,lookH,id,go_sem,rA,rM,rS] <;> simp [carL,wellL,legL,gateL,rowW,wayS,natL,mpS_nil,mpS_kf,mpS_kf3,KFR_iff,lookH,KFR_iff,KFR_app,KFR,KFL,KF,mtL_same,mtO,nbr])
 · refine gh (ent_slotW (s':=.sl false 1 (way.map natL)) 1 rfl (by subst hw0;exact weak_nil) (fun _ _ _ h=>by cases h)) ?_
   dsimp only [wayS,go_sem,rA,rM,rS]
   refine br ?_ ?_
   · intro hlate
     have hlate:t > till:=of_decide_eq_true hlate
     dsimp only [go_sem,rA,rM,rS]
     refine ⟨_,⟨ver,clk,hM,rfl⟩,?_⟩
     rw [waysL_late hlate,List.map_nil,List.append_nil,cap_id (by omega),decide_eq_true hall]
     (refine entO_id ?_ ?_ ?_ rfl <;> dsimp only [carL,wellL,legL,gateL,rowW,wayS,natL,mpS_nil,mpS_kf,mpS_kf3,KFR_iff,lookH,id,go_sem,rA,rM,rS] <;> simp [carL,wellL,legL,gateL,rowW,wayS,natL,mpS_nil,mpS_kf,mpS_kf3,KFR_iff,lookH,KFR_iff,KFR_app,KFR,KFL,KF,mtL_same,mtO,nbr])
   intro hlate
   have hlate:¬ t > till:=of_decide_eq_false hlate
   dsimp only [go_sem,rA,rM,rS]
   refine br ?_ ?_
   · intro hto
     have hto:v = to:=by simpa using hto
     dsimp only [go_sem,rA,rM,rS]
     refine call (clonev_ok way (by omega)) ?_
     dsimp only [wayS,go_sem,rA,rM,rS]
     simp only [nbr]
     dsimp only [go_sem,rA,rM,rS]
     refine ⟨(by intro c hc;simp only [List.mem_singleton] at hc;subst hc;rfl),by simp;omega,?_⟩
     dsimp only [go_sem,rA,rM,rS]
     simp only [nbr]
     dsimp only [go_sem,rA,rM,rS]
     have e:all.map rowW ++ [[SV.sl false 1 (way.map natL)]] = (all ++ [way]).map rowW:=by simp [rowW,wayS]
     rw [e]
     refine ⟨_,⟨ver + 1,clk,hM,rfl⟩,?_⟩
     rw [waysL_succ,if_neg hlate,if_pos hto]
     simp only [List.map_cons,List.map_nil,List.append_nil,List.length_map]
     rw [cap_id (by simp;omega)]
     have hd:decide (((all ++ [way]).length:Int) ≤ 200) = decide ((all ++ [way]).length ≤ 200):=by simp;omega
     rw [hd]
     (refine entO_id ?_ ?_ ?_ rfl <;> dsimp only [carL,wellL,legL,gateL,rowW,wayS,natL,mpS_nil,mpS_kf,mpS_kf3,KFR_iff,lookH,id,go_sem,rA,rM,rS] <;> simp [carL,wellL,legL,gateL,rowW,wayS,natL,mpS_nil,mpS_kf,mpS_kf3,KFR_iff,lookH,KFR_iff,KFR_app,KFR,KFL,KF,mtL_same,mtO,nbr])
   intro hto
   have hto:¬ v = to:=by simpa using hto
   dsimp only [go_sem,rA,rM,rS]
   refine raw_set (ins:=false) (key:=kI) (val:=B) (L:=L) (k:=v) (v:=true) rfl rfl u99 key3 rfl rfl (by simp) ?_
   dsimp only [go_sem,rA,rM,rS]
   refine ⟨rfl,?_⟩
   have hvL:mget v L = none:=by rw [hbL,if_neg hv]
   have hM1:=hM.set (k:=v) true
   have hL1:beenL (v :: been) (mset clk v true L):=fun u=>by
    rw [mget_set]
    by_cases hu:u = v
    · simp [hu]
    · rw [if_neg hu,hbL]
      simp [hu]
   have hdel:=mdel_set (L:=L) (c:=clk) (b:=true) hvL
   generalize mset clk v true L = L1 at hM1 hL1 hdel ⊢
   generalize mclk clk v L = clk1 at hM1 ⊢
   refine callmL [] (leads_ok l p v) rfl rfl rfl ?_ ?_ ?_
   · exact mtL_same (by simp [carL,wellL,legL,gateL,KFR_iff,KFL,KF])
   · trivial
   dsimp only [leadsO,carL,go_sem,rA,rM,rS]
   refine gh ent_refl ?_
   dsimp only [go_sem,rA,rM,rS]
   refine ⟨b97,fun rec=>?_⟩
   refine y97 ?_
   dsimp only [c97,r97,go_sem,rA,rM,rS]
   refine loopO (fun q:Nat × List (List Nat) × Nat × Nat=>[(10,I q.1)]) (fun q=>[(2,.cells [.mr 6 q.2.2.1] 53),(6,.row q.2.2.1 1 (q.2.1.map rowW) 59),(7,.map (mpS kI B L1) q.2.2.2)])
    (fun q=>q.1 ≤ l.legs.length ∧ MW L1 q.2.2.2 ∧ q.2.1 = all ++ (wayLegs l p to till g been v t q.1).map (way ++ ·) ∧ q.2.1.length ≤ 200) (fun q=>l.legs.length - q.1) (0,all,ver,clk1) ⟨Nat.zero_le _,hM1,by simp [wayLegs_0],hall⟩ ?_ ?_
   · (refine ent_id ?_ ?_ ?_ rfl rfl <;> dsimp only [carL,wellL,legL,gateL,rowW,wayS,natL,mpS_nil,mpS_kf,mpS_kf3,KFR_iff,id,go_sem,rA,rM,rS] <;> simp [carL,wellL,legL,gateL,rowW,wayS,natL,mpS_nil,mpS_kf,mpS_kf3,KFR_iff,KFR_iff,KFR_app,KFR,KFL,KF,mtL_same,mtO,nbr])
   rintro ⟨j,allj,ver,clk⟩ ⟨hj,hMj,hallj,hlenj⟩
   simp only at hj hMj hallj hlenj
   dsimp only [go_sem,rA,rM,rS]
   simp only [List.length_map]
   by_cases hlt:j < l.legs.length
   · refine br_t (by simpa using hlt) ?_
     dsimp only [go_sem,rA,rM,rS]
     refine ixs_map j hlt rfl ?_
     dsimp only [legL,go_sem,rA,rM,rS]
     have hgl:GoodLeg l.legs[j]:=okLand_leg hok.land _ (List.getElem_mem _)
     have hends:=hok.ends (List.getElem_mem hlt)
     have hxj:l.legs[j]? = some l.legs[j]:=List.getElem?_eq_getElem hlt
     have hin:inR 0 100001 t = true:=by simp only [inR,decide_eq_true_eq];omega
     have hab:=arrK_bd (k:=true) (t:=t) hgl hok.pace (by omega)
     by_cases hca:v = l.legs[j].a
     · refine br_t (by simpa using hca) ?_
       have hoth:otherF l.legs[j] v = l.legs[j].b:=by rw [otherF,if_pos hca.symm]
       dsimp only [go_sem,rA,rM,rS]
       refine ⟨rfl,rfl,?_⟩
       refine raw_get (key:=kI) (sv:=sI) (val:=B) (L:=L1) (k:=l.legs[j].b) (z:=.bool false) (zs:=B false) rfl rfl u99 key3 rfl (by kernel_rfl) (fun w E n ok=>by simp only [R]) ?_ ?_
       · intro b hget
         have hb:b = true ∧ otherF l.legs[j] v ∈ v :: been:=by
          have h:=hL1 l.legs[j].b
          rw [hget] at h
          rw [hoth]
          split at h
          · rename_i hm;exact ⟨Option.some.inj h,hm⟩
          · cases h
         obtain ⟨rfl,hmem⟩:=hb
         dsimp only [Bool.not_true,go_sem,rA,rM,rS]
         repeat (refine gb_skip (by decide) ?_;dsimp only [go_sem,rA,rM,rS])
         refine br_f (by decide) ?_
         dsimp only [go_sem,rA,rM,rS]
         refine ⟨rfl,?_⟩
         refine br_f (by decide) ?_
         dsimp only [go_sem,rA,rM,rS]
         rw [w64_in (n:=(j:Int) + 1) (by omega) (by omega)]
         refine ⟨(j + 1,allj,ver,clk),⟨hlt,hMj,by rw [wayLegs_succ,wayLeg_no hxj (.inr hmem),List.append_nil];exact hallj,hlenj⟩,by simp only;omega,?_⟩
         (refine ent_id ?_ ?_ ?_ rfl rfl <;> dsimp only [carL,wellL,legL,gateL,rowW,wayS,natL,mpS_nil,mpS_kf,mpS_kf3,KFR_iff,id,go_sem,rA,rM,rS] <;> simp [carL,wellL,legL,gateL,rowW,wayS,natL,mpS_nil,mpS_kf,mpS_kf3,KFR_iff,KFR_iff,KFR_app,KFR,KFL,KF,mtL_same,mtO,nbr])
       intro hget
       have hnb:otherF l.legs[j] v ∉ v :: been:=fun hm=>by
        have h:=hL1 l.legs[j].b
        rw [hoth] at hm
        rw [hget,if_pos hm] at h;cases h
       have hn0:¬ otherF l.legs[j] v < 0:=by rw [hoth];omega
       dsimp only [Bool.not_false,go_sem,rA,rM,rS]
       iterate 10 (refine gb_run rfl ?_;dsimp only [go_sem,rA,rM,rS])
       refine call (arrive_ok l p j hlt t t hgl hok.pace hin hin) ?_
       dsimp only [go_sem,rA,rM,rS]
       refine gb_run rfl ?_
       dsimp only [go_sem,rA,rM,rS]
       refine ixa 1 rfl (by decide) ?_
       dsimp only [go_sem,rA,rM,rS]
       iterate 4 (refine gb_run rfl ?_;dsimp only [go_sem,rA,rM,rS])
       refine call (more_ok way j (by omega)) ?_
       dsimp only [wayS,go_sem,rA,rM,rS]
       refine gb_run rfl ?_
       dsimp only [go_sem,rA,rM,rS]
       have hot:=otherF_in hok hxj hn0
       have hih:=ih (v :: been) (otherF l.legs[j] v) (arrK true l.legs[j] p t) (way ++ [j]) allj ver clk L1 (wayS (way ++ [j])) hR' hnb hot.1 (by omega) (by simp;omega) hlenj hMj hL1 (.inl rfl)
       have hWj:(waysL l p to till g (v :: been) (otherF l.legs[j] v) (arrK true l.legs[j] p t)).map (way ++ [j] ++ ·) = (wayLeg l p to till g been v t j).map (way ++ ·):=by
        rw [wayLeg_yes hxj hn0 hnb,List.map_map]
        simp [Function.comp_def]
       rw [hWj,hoth] at hih
       refine callmP [0,1,2,3,4,5,6,7] hih rfl rfl ?_ ?_ ?_ ?_
       · rfl
       · dsimp only [rho,wayS,go_sem,rA,rM,rS]
         simp [KFR_iff,KFR_app,KFR,KFL,KF,mtL_same,mtO,nbr,carL,wellL,legL,gateL,rowW,wayS,natL,mpS_kf,mpS_kf3]
       · dsimp only [rho,lookH,carL,go_sem,rA,rM,rS]
         simp [KFR_iff,KFR_app,KFR,KFL,KF,mtL_same,mtO,nbr,carL,wellL,legL,gateL,rowW,wayS,natL,mpS_kf,mpS_kf3]
       rintro o ⟨ver',clk',hM',rfl⟩
       dsimp only [lookH,carL,go_sem,rA,rM,rS]
       refine gb_run rfl ?_
       dsimp only [Bool.not_false,go_sem,rA,rM,rS]
       have hnext:all ++ (wayLegs l p to till g been v t (j + 1)).map (way ++ ·) = allj ++ (wayLeg l p to till g been v t j).map (way ++ ·):=by
        rw [wayLegs_succ,List.map_append,← List.append_assoc,← hallj]
       generalize hWW:(wayLeg l p to till g been v t j).map (way ++ ·) = Wj at hnext ⊢
       by_cases hsm:(allj ++ Wj).length ≤ 200
       · refine br_f (by simp only [hsm,decide_true];rfl) ?_
         dsimp only [go_sem,rA,rM,rS]
         refine ⟨rfl,?_⟩
         refine br_f (by decide) ?_
         dsimp only [go_sem,rA,rM,rS]
         rw [w64_in (n:=(j:Int) + 1) (by omega) (by omega),cap_id (by omega)]
         rw [← hnext] at hsm ⊢
         refine ⟨(j + 1,_,ver',clk'),⟨hlt,hM',rfl,hsm⟩,by simp only;omega,?_⟩
         generalize all ++ (wayLegs l p to till g been v t (j + 1)).map (way ++ ·) = alln
         (refine ent_id ?_ ?_ ?_ rfl rfl <;> dsimp only [carL,wellL,legL,gateL,rowW,wayS,natL,mpS_nil,mpS_kf,mpS_kf3,KFR_iff,id,go_sem,rA,rM,rS] <;> simp [carL,wellL,legL,gateL,rowW,wayS,natL,mpS_nil,mpS_kf,mpS_kf3,KFR_iff,KFR_iff,KFR_app,KFR,KFL,KF,mtL_same,mtO,nbr])
       · refine br_t (by simp only [hsm,decide_false];rfl) ?_
         dsimp only [go_sem,rA,rM,rS]
         refine ⟨rfl,?_⟩
         refine br_t rfl ?_
         dsimp only [go_sem,rA,rM,rS]
         have hWs:waysL l p to till (g + 1) been v t = wayLegs l p to till g been v t l.legs.length:=by rw [waysL_succ,if_neg hlate,if_neg hto]
         obtain ⟨R,hRs⟩:=wayLegs_split (l:=l) (p:=p) (to:=to) (till:=till) (f:=g) (been:=been) (v:=v) (t:=t) (j:=j + 1) (l.legs.length - (j + 1))
         rw [show j + 1 + (l.legs.length - (j + 1)) = l.legs.length by omega] at hRs
         have hall2:all ++ (waysL l p to till (g + 1) been v t).map (way ++ ·) = allj ++ Wj ++ R.map (way ++ ·):=by
          rw [hWs,hRs,List.map_append,← List.append_assoc,hnext]
         have hlong:¬ (allj ++ Wj ++ R.map (way ++ ·)).length ≤ 200:=by rw [List.length_append];omega
         refine ⟨_,delR (key:=kI) (val:=B) (sv:=sI) (L:=L1) (k:=v) u99 key3,?_⟩
         rw [hdel]
         have hMf:MW L clk':=by have:=hM'.del (k:=v);rw [hdel] at this;exact this
         refine ⟨_,⟨ver',clk',hMf,rfl⟩,?_⟩
         have hc2:cap (allj ++ Wj ++ R.map (way ++ ·)) = cap (allj ++ Wj):=cap_app (by omega)
         rw [hall2,hc2,decide_eq_false hlong]
         generalize cap (allj ++ Wj) = alln
         (refine entO_id ?_ ?_ ?_ rfl <;> dsimp only [carL,wellL,legL,gateL,rowW,wayS,natL,mpS_nil,mpS_kf,mpS_kf3,KFR_iff,lookH,id,go_sem,rA,rM,rS] <;> simp [carL,wellL,legL,gateL,rowW,wayS,natL,mpS_nil,mpS_kf,mpS_kf3,KFR_iff,lookH,KFR_iff,KFR_app,KFR,KFL,KF,mtL_same,mtO,nbr])
     refine br_f (by simpa using hca) ?_
     dsimp only [go_sem,rA,rM,rS]
     by_cases hcb:v = l.legs[j].b
     · refine br_t (by simpa using hcb) ?_
       have hoth:otherF l.legs[j] v = l.legs[j].a:=by rw [otherF,if_neg (fun h=>hca h.symm),if_pos hcb.symm]
       dsimp only [go_sem,rA,rM,rS]
       refine ⟨rfl,rfl,?_⟩
       refine raw_get (key:=kI) (sv:=sI) (val:=B) (L:=L1) (k:=l.legs[j].a) (z:=.bool false) (zs:=B false) rfl rfl u99 key3 rfl (by kernel_rfl) (fun w E n ok=>by simp only [R]) ?_ ?_
       · intro b hget
         have hb:b = true ∧ otherF l.legs[j] v ∈ v :: been:=by
          have h:=hL1 l.legs[j].a
          rw [hget] at h
          rw [hoth]
          split at h
          · rename_i hm;exact ⟨Option.some.inj h,hm⟩
          · cases h
         obtain ⟨rfl,hmem⟩:=hb
         dsimp only [Bool.not_true,go_sem,rA,rM,rS]
         repeat (refine gb_skip (by decide) ?_;dsimp only [go_sem,rA,rM,rS])
         refine br_f (by decide) ?_
         dsimp only [go_sem,rA,rM,rS]
         refine ⟨rfl,?_⟩
         refine br_f (by decide) ?_
         dsimp only [go_sem,rA,rM,rS]
         rw [w64_in (n:=(j:Int) + 1) (by omega) (by omega)]
         refine ⟨(j + 1,allj,ver,clk),⟨hlt,hMj,by rw [wayLegs_succ,wayLeg_no hxj (.inr hmem),List.append_nil];exact hallj,hlenj⟩,by simp only;omega,?_⟩
         (refine ent_id ?_ ?_ ?_ rfl rfl <;> dsimp only [carL,wellL,legL,gateL,rowW,wayS,natL,mpS_nil,mpS_kf,mpS_kf3,KFR_iff,id,go_sem,rA,rM,rS] <;> simp [carL,wellL,legL,gateL,rowW,wayS,natL,mpS_nil,mpS_kf,mpS_kf3,KFR_iff,KFR_iff,KFR_app,KFR,KFL,KF,mtL_same,mtO,nbr])
       intro hget
       have hnb:otherF l.legs[j] v ∉ v :: been:=fun hm=>by
        have h:=hL1 l.legs[j].a
        rw [hoth] at hm
        rw [hget,if_pos hm] at h;cases h
       have hn0:¬ otherF l.legs[j] v < 0:=by rw [hoth];omega
       dsimp only [Bool.not_false,go_sem,rA,rM,rS]
       iterate 10 (refine gb_run rfl ?_;dsimp only [go_sem,rA,rM,rS])
       refine call (arrive_ok l p j hlt t t hgl hok.pace hin hin) ?_
       dsimp only [go_sem,rA,rM,rS]
       refine gb_run rfl ?_
       dsimp only [go_sem,rA,rM,rS]
       refine ixa 1 rfl (by decide) ?_
       dsimp only [go_sem,rA,rM,rS]
       iterate 4 (refine gb_run rfl ?_;dsimp only [go_sem,rA,rM,rS])
       refine call (more_ok way j (by omega)) ?_
       dsimp only [wayS,go_sem,rA,rM,rS]
       refine gb_run rfl ?_
       dsimp only [go_sem,rA,rM,rS]
       have hot:=otherF_in hok hxj hn0
       have hih:=ih (v :: been) (otherF l.legs[j] v) (arrK true l.legs[j] p t) (way ++ [j]) allj ver clk L1 (wayS (way ++ [j])) hR' hnb hot.1 (by omega) (by simp;omega) hlenj hMj hL1 (.inl rfl)
       have hWj:(waysL l p to till g (v :: been) (otherF l.legs[j] v) (arrK true l.legs[j] p t)).map (way ++ [j] ++ ·) = (wayLeg l p to till g been v t j).map (way ++ ·):=by
        rw [wayLeg_yes hxj hn0 hnb,List.map_map]
        simp [Function.comp_def]
       rw [hWj,hoth] at hih
       refine callmP [0,1,2,3,4,5,6,7] hih rfl rfl ?_ ?_ ?_ ?_
       · rfl
       · dsimp only [rho,wayS,go_sem,rA,rM,rS]
         simp [KFR_iff,KFR_app,KFR,KFL,KF,mtL_same,mtO,nbr,carL,wellL,legL,gateL,rowW,wayS,natL,mpS_kf,mpS_kf3]
       · dsimp only [rho,lookH,carL,go_sem,rA,rM,rS]
         simp [KFR_iff,KFR_app,KFR,KFL,KF,mtL_same,mtO,nbr,carL,wellL,legL,gateL,rowW,wayS,natL,mpS_kf,mpS_kf3]
       rintro o ⟨ver',clk',hM',rfl⟩
       dsimp only [lookH,carL,go_sem,rA,rM,rS]
       refine gb_run rfl ?_
       dsimp only [Bool.not_false,go_sem,rA,rM,rS]
       have hnext:all ++ (wayLegs l p to till g been v t (j + 1)).map (way ++ ·) = allj ++ (wayLeg l p to till g been v t j).map (way ++ ·):=by
        rw [wayLegs_succ,List.map_append,← List.append_assoc,← hallj]
       generalize hWW:(wayLeg l p to till g been v t j).map (way ++ ·) = Wj at hnext ⊢
       by_cases hsm:(allj ++ Wj).length ≤ 200
       · refine br_f (by simp only [hsm,decide_true];rfl) ?_
         dsimp only [go_sem,rA,rM,rS]
         refine ⟨rfl,?_⟩
         refine br_f (by decide) ?_
         dsimp only [go_sem,rA,rM,rS]
         rw [w64_in (n:=(j:Int) + 1) (by omega) (by omega),cap_id (by omega)]
         rw [← hnext] at hsm ⊢
         refine ⟨(j + 1,_,ver',clk'),⟨hlt,hM',rfl,hsm⟩,by simp only;omega,?_⟩
         generalize all ++ (wayLegs l p to till g been v t (j + 1)).map (way ++ ·) = alln
         (refine ent_id ?_ ?_ ?_ rfl rfl <;> dsimp only [carL,wellL,legL,gateL,rowW,wayS,natL,mpS_nil,mpS_kf,mpS_kf3,KFR_iff,id,go_sem,rA,rM,rS] <;> simp [carL,wellL,legL,gateL,rowW,wayS,natL,mpS_nil,mpS_kf,mpS_kf3,KFR_iff,KFR_iff,KFR_app,KFR,KFL,KF,mtL_same,mtO,nbr])
       · refine br_t (by simp only [hsm,decide_false];rfl) ?_
         dsimp only [go_sem,rA,rM,rS]
         refine ⟨rfl,?_⟩
         refine br_t rfl ?_
         dsimp only [go_sem,rA,rM,rS]
         have hWs:waysL l p to till (g + 1) been v t = wayLegs l p to till g been v t l.legs.length:=by rw [waysL_succ,if_neg hlate,if_neg hto]
         obtain ⟨R,hRs⟩:=wayLegs_split (l:=l) (p:=p) (to:=to) (till:=till) (f:=g) (been:=been) (v:=v) (t:=t) (j:=j + 1) (l.legs.length - (j + 1))
         rw [show j + 1 + (l.legs.length - (j + 1)) = l.legs.length by omega] at hRs
         have hall2:all ++ (waysL l p to till (g + 1) been v t).map (way ++ ·) = allj ++ Wj ++ R.map (way ++ ·):=by
          rw [hWs,hRs,List.map_append,← List.append_assoc,hnext]
         have hlong:¬ (allj ++ Wj ++ R.map (way ++ ·)).length ≤ 200:=by rw [List.length_append];omega
         refine ⟨_,delR (key:=kI) (val:=B) (sv:=sI) (L:=L1) (k:=v) u99 key3,?_⟩
         rw [hdel]
         have hMf:MW L clk':=by have:=hM'.del (k:=v);rw [hdel] at this;exact this
         refine ⟨_,⟨ver',clk',hMf,rfl⟩,?_⟩
         have hc2:cap (allj ++ Wj ++ R.map (way ++ ·)) = cap (allj ++ Wj):=cap_app (by omega)
         rw [hall2,hc2,decide_eq_false hlong]
         generalize cap (allj ++ Wj) = alln
         (refine entO_id ?_ ?_ ?_ rfl <;> dsimp only [carL,wellL,legL,gateL,rowW,wayS,natL,mpS_nil,mpS_kf,mpS_kf3,KFR_iff,lookH,id,go_sem,rA,rM,rS] <;> simp [carL,wellL,legL,gateL,rowW,wayS,natL,mpS_nil,mpS_kf,mpS_kf3,KFR_iff,lookH,KFR_iff,KFR_app,KFR,KFL,KF,mtL_same,mtO,nbr])
     refine br_f (by simpa using hcb) ?_
     dsimp only [go_sem,rA,rM,rS]
     rw [w64_in (n:=(j:Int) + 1) (by omega) (by omega)]
     have hoth:otherF l.legs[j] v = -1:=by rw [otherF,if_neg (fun h=>hca h.symm),if_neg (fun h=>hcb h.symm)]
     refine ⟨(j + 1,allj,ver,clk),⟨hlt,hMj,by rw [wayLegs_succ,wayLeg_no hxj (.inl (by omega)),List.append_nil];exact hallj,hlenj⟩,by simp only;omega,?_⟩
     (refine ent_id ?_ ?_ ?_ rfl rfl <;> dsimp only [carL,wellL,legL,gateL,rowW,wayS,natL,mpS_nil,mpS_kf,mpS_kf3,KFR_iff,id,go_sem,rA,rM,rS] <;> simp [carL,wellL,legL,gateL,rowW,wayS,natL,mpS_nil,mpS_kf,mpS_kf3,KFR_iff,KFR_iff,KFR_app,KFR,KFL,KF,mtL_same,mtO,nbr])
   refine br_f (by simp;omega) ?_
   dsimp only [go_sem,rA,rM,rS]
   have hje:j = l.legs.length:=by omega
   subst hje
   have hWs:waysL l p to till (g + 1) been v t = wayLegs l p to till g been v t l.legs.length:=by rw [waysL_succ,if_neg hlate,if_neg hto]
   refine ⟨_,delR (key:=kI) (val:=B) (sv:=sI) (L:=L1) (k:=v) u99 key3,?_⟩
   rw [hdel]
   have hMf:MW L clk:=by have:=hMj.del (k:=v);rw [hdel] at this;exact this
   refine ⟨_,⟨ver,clk,hMf,rfl⟩,?_⟩
   rw [hWs,← hallj,cap_id (by omega),decide_eq_true hlenj]
   (refine entO_id ?_ ?_ ?_ rfl <;> dsimp only [carL,wellL,legL,gateL,rowW,wayS,natL,mpS_nil,mpS_kf,mpS_kf3,KFR_iff,lookH,id,go_sem,rA,rM,rS] <;> simp [carL,wellL,legL,gateL,rowW,wayS,natL,mpS_nil,mpS_kf,mpS_kf3,KFR_iff,lookH,KFR_iff,KFR_app,KFR,KFL,KF,mtL_same,mtO,nbr])
end Go.Proofs.Ytkjldleglbbkeaa
set_option maxRecDepth 100000
set_option maxHeartbeats 4000000
namespace Go.Proofs.Ytkjldleglbbkeaa
open Go Go.Sx Go.Azalai
def waysR (l:Land) (p:Span) (s to day till:Int):SV:=.tup [rowsZ (waysE l p s to day till) 1 ((waysF l p s to day till).map rowW),I (waysE l p s to day till)]
theorem waysR_kf (l:Land) (p:Span) (s to day till:Int):KF (waysR l p s to day till):=by
 unfold waysR rowsZ;split <;> simp [KFL,KF,KFR_iff,rowW,wayS,natL]
theorem wways_ok (l:Land) (hs:Small l) (s to day till:Int) (p:Span):Ct Try.prog 29 [.agg (landL l),I s,I to,I day,I till,.agg (spanL p)] (waysR l p s to day till):=by
 have hw:=hs.1
 have hleg:=hs.2.1
 refine t29 (by simp [landL,wellL,legL,gateL,spanL,KFR_iff,KFL,KF]) (waysR_kf _ _ _ _ _ _) ?_
 dsimp only [c29,r29,landL,spanL,go_sem,rA,rM,rS]
 by_cases ha:askF l p = 0
 case neg =>
  refine call (open_err l hs p ha) ?_
  dsimp only [go_sem,rA,rM,rS]
  refine br_t (by simpa using ha) ?_
  dsimp only [go_sem,rA,rM,rS]
  simp [waysR,waysE,ha,rowsZ]
 have hok:=ask_ok ha
 refine call (open_ok l hs p ha) ?_
 dsimp only [carL,go_sem,rA,rM,rS]
 refine br_f (by decide) ?_
 dsimp only [go_sem,rA,rM,rS]
 simp only [List.length_map]
 have h1:=okLand_len hok.land
 rw [w64_in (n:=(l.wells.length:Int) - 1) (by omega) (by omega)]
 refine call (from2 0 (l.wells.length - 1) s to true) ?_
 dsimp only [go_sem,rA,rM,rS]
 repeat (first | (refine gb ?_;dsimp only [go_sem,rA,rM,rS]) | (refine call (from2 0 100000 day till true) ?_;dsimp only [go_sem,rA,rM,rS]))
 by_cases hr:(inR 0 (l.wells.length - 1) s && inR 0 (l.wells.length - 1) to && inR 0 100000 day && inR 0 100000 till) = true
 case neg =>
  have hb:∀ a b c d:Bool,¬ (a && b && c && d) = true → (!(a && b) || !(c && d)) = true:=by decide
  refine br_t (hb _ _ _ _ hr) ?_
  dsimp only [go_sem,rA,rM,rS]
  simp [waysR,waysE,ha,rowsZ,hr]
 have hb:∀ a b c d:Bool,(a && b && c && d) = true → (!(a && b) || !(c && d)) = false:=by decide
 refine br_f (hb _ _ _ _ hr) ?_
 dsimp only [go_sem,rA,rM,rS]
 have he:waysE l p s to day till = if (waysF l p s to day till).length > 200 then 9 else 0:=by simp only [waysE,waysF,ha,hr];simp
 simp only [Bool.and_eq_true,inR,decide_eq_true_eq] at hr
 obtain ⟨⟨⟨hr1,hr3⟩,hd⟩,hu⟩:=hr
 refine raw_mkmap rfl rfl rfl ?_
 dsimp only [go_sem,rA,rM,rS]
 refine gh (ent_nilcell 5 0 1 59 rfl rfl) ?_
 dsimp only [go_sem,rA,rM,rS]
 have hlk:=look_ok l p hs hok till to (l.wells.length + 1) [] s day [] [] 0 0 [] (.v (.slice none 0 0)) Room.start (by simp) (by omega) (by omega) (by simp;omega) (by simp) MW.nil (fun u=>by simp [mget]) (.inr ⟨rfl,rfl⟩)
 have hW:(waysL l p to till (l.wells.length + 1) [] s day).map (([]:List Nat) ++ ·) = waysF l p s to day till:=by simp [waysF]
 rw [hW] at hlk
 refine callmP [2,1,5,7,4,8,9,6] hlk rfl rfl ?_ ?_ ?_ ?_
 · rfl
 · dsimp only [rho,go_sem,rA,rM,rS]
   simp [KFR_iff,KFR_app,KFR,KFL,KF,mtL_same,mtO,nbr]
 · dsimp only [rho,lookH,carL,go_sem,rA,rM,rS]
   simp [KFR_iff,KFR_app,KFR,KFL,KF,mtL_same,mtO,nbr,mpS_nil,carL,wellL,legL,gateL,rowW,wayS,natL]
 rintro o ⟨ver',clk',hM',rfl⟩
 dsimp only [lookH,carL,go_sem,rA,rM,rS]
 try simp only [List.nil_append]
 by_cases hl:(waysF l p s to day till).length ≤ 200
 · refine br_f (by simp only [hl,decide_true];rfl) ?_
   dsimp only [go_sem,rA,rM,rS]
   simp only [nbr]
   dsimp only [go_sem,rA,rM,rS]
   rw [waysR,he,if_neg (by omega),cap_id (by omega)]
   simp [rowsZ,vwN]
 · refine br_t (by simp only [hl,decide_false];rfl) ?_
   dsimp only [go_sem,rA,rM,rS]
   rw [waysR,he,if_pos (by omega)]
   simp [rowsZ]
end Go.Proofs.Ytkjldleglbbkeaa
set_option maxRecDepth 100000
namespace Go.Proofs.Ytkjldleglbbkeaa
open Go Go.Sx
def c6:SC:=(.seq (.reg [
 ⟨some 6,.box (.t 0) 0 25,none,[]⟩,
 ⟨some 10,.box (.t 4) 0 29,none,[]⟩,
 ⟨some 12,.mv (.c (.bool false)),none,[]⟩])
 (.seq (.seq (.reg [
 ⟨some 29,.ld (.t 6) 2 true,none,[]⟩,
 ⟨some 30,.call 16 [.t 29],none,[]⟩,
 ⟨some 31,.mv (.t 30),none,[]⟩,
 ⟨some 32,.mv (.t 5),some (31,false),[]⟩,
 ⟨some 33,.len (.t 32),some (31,false),[]⟩,
 ⟨some 34,.bin .gtr (.t 33) (.c (.int .i64 40)),some (31,false),[]⟩,
 ⟨some 35,.pick (.t 31) (.c (.bool true)) (.t 34),none,[]⟩])
 (.cond (.t 35)
 (.seq (.reg [
  ⟨some 12,.mv (.c (.bool true)),none,[]⟩])
  .ret)
 .skip))
 (.seq (.reg [
 ⟨some 36,.ld (.t 6) 2 true,none,[]⟩,
 ⟨some 37,.call 21 [.t 36],none,[]⟩,
 ⟨some 38,.bsl 1 3 [],none,[]⟩,
 ⟨some 39,.mv (.t 5),none,[]⟩,
 ⟨some 40,.app 1 8 3 (.t 38) (.t 39),none,[]⟩,
 ⟨some 13,.alloc [.slice none 0 0,.slice none 0 0] 25,none,[]⟩,
 ⟨none,.st (.t 13) (.t 37) 2,none,[]⟩,
 ⟨some 14,.mv (.t 40),none,[]⟩])
 (.seq (.reg [
 ⟨some 42,.ld (.t 13) 2 true,none,[]⟩,
 ⟨some 43,.mv (.t 1),none,[]⟩,
 ⟨some 44,.mv (.t 3),none,[]⟩,
 ⟨some 45,.ld (.t 10) 2 true,none,[]⟩,
 ⟨some 46,.call 32 [.t 42,.t 43,.t 44,.t 45],none,[]⟩,
 ⟨some 41,.mv (.t 46),none,[]⟩,
 ⟨some 47,.ext (.t 41) 0,none,[]⟩,
 ⟨some 48,.ext (.t 41) 1,none,[]⟩,
 ⟨some 15,.mv (.t 47),none,[]⟩,
 ⟨some 16,.mv (.t 48),none,[]⟩])
 (.seq (.reg [
 ⟨some 50,.ld (.t 6) 2 true,none,[]⟩,
 ⟨some 51,.mv (.t 1),none,[]⟩,
 ⟨some 52,.mv (.t 3),none,[]⟩,
 ⟨some 53,.ld (.t 10) 2 true,none,[]⟩,
 ⟨some 54,.call 33 [.t 50,.t 51,.t 52,.t 53],none,[]⟩,
 ⟨some 49,.mv (.t 54),none,[]⟩,
 ⟨some 55,.ext (.t 49) 0,none,[]⟩,
 ⟨some 56,.ext (.t 49) 1,none,[]⟩,
 ⟨some 17,.mv (.t 55),none,[]⟩,
 ⟨some 18,.mv (.t 56),none,[]⟩])
 (.seq (.reg [
 ⟨some 58,.ld (.t 13) 2 true,none,[]⟩,
 ⟨some 59,.mv (.t 1),none,[]⟩,
 ⟨some 60,.mv (.t 3),none,[]⟩,
 ⟨some 61,.ld (.t 10) 2 true,none,[]⟩,
 ⟨some 62,.mv (.t 14),none,[]⟩,
 ⟨some 63,.call 34 [.t 58,.t 59,.t 60,.t 61,.t 62],none,[]⟩,
 ⟨some 57,.mv (.t 63),none,[]⟩,
 ⟨some 64,.ext (.t 57) 0,none,[]⟩,
 ⟨some 65,.ext (.t 57) 1,none,[]⟩,
 ⟨some 66,.ext (.t 57) 2,none,[]⟩,
 ⟨some 19,.mv (.t 64),none,[]⟩,
 ⟨some 20,.mv (.t 65),none,[]⟩,
 ⟨some 21,.mv (.t 66),none,[]⟩])
 (.seq (.reg [
 ⟨some 68,.ld (.t 6) 2 true,none,[]⟩,
 ⟨some 69,.mv (.t 1),none,[]⟩,
 ⟨some 70,.mv (.t 3),none,[]⟩,
 ⟨some 71,.ld (.t 10) 2 true,none,[]⟩,
 ⟨some 72,.mv (.t 5),none,[]⟩,
 ⟨some 73,.call 35 [.t 68,.t 69,.t 70,.t 71,.t 72],none,[]⟩,
 ⟨some 67,.mv (.t 73),none,[]⟩,
 ⟨some 74,.ext (.t 67) 0,none,[]⟩,
 ⟨some 75,.ext (.t 67) 1,none,[]⟩,
 ⟨some 76,.ext (.t 67) 2,none,[]⟩,
 ⟨some 22,.mv (.t 74),none,[]⟩,
 ⟨some 23,.mv (.t 75),none,[]⟩,
 ⟨some 24,.mv (.t 76),none,[]⟩])
 (.seq (.reg [
 ⟨some 78,.ld (.t 13) 2 true,none,[]⟩,
 ⟨some 79,.mv (.t 1),none,[]⟩,
 ⟨some 80,.mv (.t 2),none,[]⟩,
 ⟨some 81,.mv (.t 3),none,[]⟩,
 ⟨some 82,.ld (.t 10) 2 true,none,[]⟩,
 ⟨some 83,.call 36 [.t 78,.t 79,.t 80,.t 81,.t 82],none,[]⟩,
 ⟨some 77,.mv (.t 83),none,[]⟩,
 ⟨some 84,.ext (.t 77) 0,none,[]⟩,
 ⟨some 85,.ext (.t 77) 1,none,[]⟩,
 ⟨some 25,.mv (.t 84),none,[]⟩,
 ⟨some 26,.mv (.t 85),none,[]⟩])
 (.seq (.reg [
 ⟨some 87,.ld (.t 6) 2 true,none,[]⟩,
 ⟨some 88,.mv (.t 1),none,[]⟩,
 ⟨some 89,.mv (.t 2),none,[]⟩,
 ⟨some 90,.mv (.t 3),none,[]⟩,
 ⟨some 91,.ld (.t 10) 2 true,none,[]⟩,
 ⟨some 92,.call 37 [.t 87,.t 88,.t 89,.t 90,.t 91],none,[]⟩,
 ⟨some 86,.mv (.t 92),none,[]⟩,
 ⟨some 93,.ext (.t 86) 0,none,[]⟩,
 ⟨some 94,.ext (.t 86) 1,none,[]⟩,
 ⟨some 27,.mv (.t 93),none,[]⟩,
 ⟨some 28,.mv (.t 94),none,[]⟩])
 (.seq (.reg [
 ⟨some 95,.mv (.t 15),none,[]⟩,
 ⟨some 96,.mv (.t 17),none,[]⟩,
 ⟨some 97,.call 38 [.t 95,.t 96],none,[]⟩,
 ⟨some 98,.mv (.t 97),none,[]⟩,
 ⟨some 99,.mv (.t 16),some (98,true),[]⟩,
 ⟨some 100,.mv (.t 18),some (98,true),[]⟩,
 ⟨some 101,.bin .eql (.t 99) (.t 100),some (98,true),[]⟩,
 ⟨some 102,.pick (.t 98) (.t 101) (.c (.bool false)),none,[]⟩,
 ⟨some 103,.mv (.t 102),none,[]⟩,
 ⟨some 104,.mv (.t 19),some (103,true),[]⟩,
 ⟨some 105,.mv (.t 22),some (103,true),[]⟩,
 ⟨some 106,.call 39 [.t 104,.t 105],some (103,true),[]⟩,
 ⟨some 107,.pick (.t 103) (.t 106) (.c (.bool false)),none,[]⟩,
 ⟨some 108,.mv (.t 107),none,[]⟩,
 ⟨some 109,.mv (.t 20),some (108,true),[]⟩,
 ⟨some 110,.mv (.t 23),some (108,true),[]⟩,
 ⟨some 111,.bin .eql (.t 109) (.t 110),some (108,true),[]⟩,
 ⟨some 112,.pick (.t 108) (.t 111) (.c (.bool false)),none,[]⟩,
 ⟨some 113,.mv (.t 112),none,[]⟩,
 ⟨some 114,.mv (.t 21),some (113,true),[]⟩,
 ⟨some 115,.mv (.t 24),some (113,true),[]⟩,
 ⟨some 116,.bin .eql (.t 114) (.t 115),some (113,true),[]⟩,
 ⟨some 117,.pick (.t 113) (.t 116) (.c (.bool false)),none,[]⟩,
 ⟨some 118,.mv (.t 117),none,[]⟩,
 ⟨some 119,.mv (.t 25),some (118,true),[]⟩,
 ⟨some 120,.mv (.t 27),some (118,true),[]⟩,
 ⟨some 121,.call 40 [.t 119,.t 120],some (118,true),[]⟩,
 ⟨some 122,.pick (.t 118) (.t 121) (.c (.bool false)),none,[]⟩,
 ⟨some 123,.mv (.t 122),none,[]⟩,
 ⟨some 124,.mv (.t 26),some (123,true),[]⟩,
 ⟨some 125,.mv (.t 28),some (123,true),[]⟩,
 ⟨some 126,.bin .eql (.t 124) (.t 125),some (123,true),[]⟩,
 ⟨some 127,.pick (.t 123) (.t 126) (.c (.bool false)),none,[]⟩,
 ⟨some 128,.mv (.t 127),none,[]⟩,
 ⟨some 129,.ld (.t 13) 2 true,some (128,true),[]⟩,
 ⟨some 130,.ld (.t 6) 2 true,some (128,true),[]⟩,
 ⟨some 131,.call 28 [.t 129,.t 130],some (128,true),[]⟩,
 ⟨some 132,.pick (.t 128) (.t 131) (.c (.bool false)),none,[]⟩,
 ⟨some 133,.mv (.t 132),none,[]⟩,
 ⟨some 134,.mv (.t 14),some (133,true),[]⟩,
 ⟨some 135,.mv (.t 5),some (133,true),[]⟩,
 ⟨some 136,.call 40 [.t 134,.t 135],some (133,true),[]⟩,
 ⟨some 137,.pick (.t 133) (.t 136) (.c (.bool false)),none,[]⟩,
 ⟨some 12,.mv (.t 137),none,[]⟩])
 .ret))))))))))
end Go.Proofs.Ytkjldleglbbkeaa
set_option maxRecDepth 100000
set_option maxHeartbeats 4000000
namespace Go.Proofs.Ytkjldleglbbkeaa
open Go Go.Sx Go.Azalai
theorem span_ext {a b:Span} (h1:a.lo = b.lo) (h2:a.hi = b.hi):a = b:=by
 obtain ⟨_,_⟩:=a
 obtain ⟨_,_⟩:=b
 simp_all
theorem stop_ext {a b:Stop} (h1:a.leg = b.leg) (h2:a.well = b.well) (h3:a.leaves.lo = b.leaves.lo) (h4:a.leaves.hi = b.leaves.hi) (h5:a.arrives.lo = b.arrives.lo) (h6:a.arrives.hi = b.arrives.hi):a = b:=by
 obtain ⟨_,_,⟨_,_⟩,⟨_,_⟩⟩:=a
 obtain ⟨_,_,⟨_,_⟩,⟨_,_⟩⟩:=b
 simp_all
theorem same38_ok (a b:List Span) (ha:a.length ≤ 1000000) (hb:b.length ≤ 1000000) (c c':Bool):Ct Try.prog 38 [.sl c 2 (a.map spanL),.sl c' 2 (b.map spanL)] (B (decide (a = b))):=by
 refine t38 (by simp [KFR_iff,spanL,KFL,KF]) (by simp [KFL,KF]) ?_
 dsimp only [c38,r38,go_sem,rA,rM,rS]
 simp only [List.length_map]
 by_cases hl:a.length = b.length
 case neg =>
  refine br_t (by simp;omega) ?_
  dsimp only [go_sem,rA,rM,rS]
  have:a ≠ b:=fun e=>hl (by rw [e])
  simp [this]
 refine br_f (by simp;omega) ?_
 dsimp only [go_sem,rA,rM,rS]
 refine loopO (fun j:Nat=>[(5,I j)]) (fun _=>[]) (fun j=>j ≤ a.length ∧ a.take j = b.take j) (fun j=>a.length - j) 0 ⟨Nat.zero_le _,rfl⟩ ?_ ?_
 · (refine ent_id ?_ ?_ ?_ rfl rfl <;> dsimp only [spanL,id,go_sem,rA,rM,rS] <;> simp [spanL,KFR_iff,KFR_app,KFR,KFL,KF,mtL_same,mtO,nbr])
 rintro j ⟨hj,ht⟩
 dsimp only [go_sem,rA,rM,rS]
 simp only [List.length_map]
 by_cases hlt:j < a.length
 · refine br_t (by simpa using hlt) ?_
   dsimp only [go_sem,rA,rM,rS]
   have hltb:j < b.length:=by omega
   refine ixs_map j hlt rfl ?_
   dsimp only [go_sem,rA,rM,rS]
   refine ixs_map j hltb rfl ?_
   dsimp only [spanL,go_sem,rA,rM,rS]
   by_cases he:a[j] = b[j]
   · refine br_f (by rw [he];simp [ngB]) ?_
     dsimp only [go_sem,rA,rM,rS]
     rw [w64_in (n:=(j:Int) + 1) (by omega) (by omega)]
     refine ⟨j + 1,⟨hlt,?_⟩,by omega,?_⟩
     · rw [List.take_succ_eq_append_getElem hlt,List.take_succ_eq_append_getElem hltb,ht,he]
     (refine ent_id ?_ ?_ ?_ rfl rfl <;> dsimp only [spanL,id,go_sem,rA,rM,rS] <;> simp [spanL,KFR_iff,KFR_app,KFR,KFL,KF,mtL_same,mtO,nbr])
   · refine br_t ?_ ?_
     · apply Decidable.byContradiction;intro hq;simp at hq;exact he (span_ext hq.1 hq.2)
     dsimp only [go_sem,rA,rM,rS]
     have:a ≠ b:=fun e=>he (by subst e;rfl)
     simp [this]
 refine br_f (by simp;omega) ?_
 dsimp only [go_sem,rA,rM,rS]
 have:a = b:=by
  rw [List.take_of_length_le (by omega),List.take_of_length_le (by omega)] at ht
  exact ht
 simp [this]
theorem same39_ok (a b:List Stop) (ha:a.length ≤ 1000000) (hb:b.length ≤ 1000000) (c c':Bool):Ct Try.prog 39 [.sl c 6 (a.map stopL),.sl c' 6 (b.map stopL)] (B (decide (a = b))):=by
 refine t39 (by simp [KFR_iff,stopL,KFL,KF]) (by simp [KFL,KF]) ?_
 dsimp only [c39,r39,go_sem,rA,rM,rS]
 simp only [List.length_map]
 by_cases hl:a.length = b.length
 case neg =>
  refine br_t (by simp;omega) ?_
  dsimp only [go_sem,rA,rM,rS]
  have:a ≠ b:=fun e=>hl (by rw [e])
  simp [this]
 refine br_f (by simp;omega) ?_
 dsimp only [go_sem,rA,rM,rS]
 refine loopO (fun j:Nat=>[(5,I j)]) (fun _=>[]) (fun j=>j ≤ a.length ∧ a.take j = b.take j) (fun j=>a.length - j) 0 ⟨Nat.zero_le _,rfl⟩ ?_ ?_
 · (refine ent_id ?_ ?_ ?_ rfl rfl <;> dsimp only [stopL,id,go_sem,rA,rM,rS] <;> simp [stopL,KFR_iff,KFR_app,KFR,KFL,KF,mtL_same,mtO,nbr])
 rintro j ⟨hj,ht⟩
 dsimp only [go_sem,rA,rM,rS]
 simp only [List.length_map]
 by_cases hlt:j < a.length
 · refine br_t (by simpa using hlt) ?_
   dsimp only [go_sem,rA,rM,rS]
   have hltb:j < b.length:=by omega
   refine ixs_map j hlt rfl ?_
   dsimp only [go_sem,rA,rM,rS]
   refine ixs_map j hltb rfl ?_
   dsimp only [stopL,go_sem,rA,rM,rS]
   by_cases he:a[j] = b[j]
   · refine br_f (by rw [he];simp [ngB]) ?_
     dsimp only [go_sem,rA,rM,rS]
     rw [w64_in (n:=(j:Int) + 1) (by omega) (by omega)]
     refine ⟨j + 1,⟨hlt,?_⟩,by omega,?_⟩
     · rw [List.take_succ_eq_append_getElem hlt,List.take_succ_eq_append_getElem hltb,ht,he]
     (refine ent_id ?_ ?_ ?_ rfl rfl <;> dsimp only [stopL,id,go_sem,rA,rM,rS] <;> simp [stopL,KFR_iff,KFR_app,KFR,KFL,KF,mtL_same,mtO,nbr])
   · refine br_t ?_ ?_
     · apply Decidable.byContradiction;intro hq;simp at hq;exact he (stop_ext hq.1 hq.2.1 hq.2.2.1 hq.2.2.2.1 hq.2.2.2.2.1 hq.2.2.2.2.2)
     dsimp only [go_sem,rA,rM,rS]
     have:a ≠ b:=fun e=>he (by subst e;rfl)
     simp [this]
 refine br_f (by simp;omega) ?_
 dsimp only [go_sem,rA,rM,rS]
 have:a = b:=by
  rw [List.take_of_length_le (by omega),List.take_of_length_le (by omega)] at ht
  exact ht
 simp [this]
theorem same40_ok (a b:List Int) (ha:a.length ≤ 1000000) (hb:b.length ≤ 1000000) (c c':Bool):Ct Try.prog 40 [.sl c 1 (a.map intL),.sl c' 1 (b.map intL)] (B (decide (a = b))):=by
 refine t40 (by simp [KFR_iff,intL,KFL,KF]) (by simp [KFL,KF]) ?_
 dsimp only [c40,r40,go_sem,rA,rM,rS]
 simp only [List.length_map]
 by_cases hl:a.length = b.length
 case neg =>
  refine br_t (by simp;omega) ?_
  dsimp only [go_sem,rA,rM,rS]
  have:a ≠ b:=fun e=>hl (by rw [e])
  simp [this]
 refine br_f (by simp;omega) ?_
 dsimp only [go_sem,rA,rM,rS]
 refine loopO (fun j:Nat=>[(5,I j)]) (fun _=>[]) (fun j=>j ≤ a.length ∧ a.take j = b.take j) (fun j=>a.length - j) 0 ⟨Nat.zero_le _,rfl⟩ ?_ ?_
 · (refine ent_id ?_ ?_ ?_ rfl rfl <;> dsimp only [intL,id,go_sem,rA,rM,rS] <;> simp [intL,KFR_iff,KFR_app,KFR,KFL,KF,mtL_same,mtO,nbr])
 rintro j ⟨hj,ht⟩
 dsimp only [go_sem,rA,rM,rS]
 simp only [List.length_map]
 by_cases hlt:j < a.length
 · refine br_t (by simpa using hlt) ?_
   dsimp only [go_sem,rA,rM,rS]
   have hltb:j < b.length:=by omega
   refine ixs_map j hlt rfl ?_
   dsimp only [go_sem,rA,rM,rS]
   refine ixs_map j hltb rfl ?_
   dsimp only [intL,go_sem,rA,rM,rS]
   by_cases he:a[j] = b[j]
   · refine br_f (by rw [he];simp [ngB]) ?_
     dsimp only [go_sem,rA,rM,rS]
     rw [w64_in (n:=(j:Int) + 1) (by omega) (by omega)]
     refine ⟨j + 1,⟨hlt,?_⟩,by omega,?_⟩
     · rw [List.take_succ_eq_append_getElem hlt,List.take_succ_eq_append_getElem hltb,ht,he]
     (refine ent_id ?_ ?_ ?_ rfl rfl <;> dsimp only [intL,id,go_sem,rA,rM,rS] <;> simp [intL,KFR_iff,KFR_app,KFR,KFL,KF,mtL_same,mtO,nbr])
   · refine br_t ?_ ?_
     · simpa using he
     dsimp only [go_sem,rA,rM,rS]
     have:a ≠ b:=fun e=>he (by subst e;rfl)
     simp [this]
 refine br_f (by simp;omega) ?_
 dsimp only [go_sem,rA,rM,rS]
 have:a = b:=by
  rw [List.take_of_length_le (by omega),List.take_of_length_le (by omega)] at ht
  exact ht
 simp [this]
end Go.Proofs.Ytkjldleglbbkeaa
set_option maxRecDepth 100000
namespace Go.Proofs.Ytkjldleglbbkeaa
open Go Go.Sx
def c41:SC:=(.seq (.reg [
 ⟨some 0,.mv (.c (.bool false)),none,[]⟩])
 (.seq (.reg [
 ⟨some 18,.call 56 [],none,[]⟩,
 ⟨some 19,.call 57 [],none,[]⟩,
 ⟨some 20,.call 22 [.t 18,.c (.int .i64 2),.t 19],none,[]⟩,
 ⟨some 17,.mv (.t 20),none,[]⟩,
 ⟨some 21,.ext (.t 17) 0,none,[]⟩,
 ⟨some 22,.ext (.t 17) 1,none,[]⟩,
 ⟨some 1,.alloc [.int .i64 0,.int .i64 0] 29,none,[]⟩,
 ⟨none,.st (.t 1) (.t 21) 2,none,[]⟩,
 ⟨some 2,.mv (.t 22),none,[]⟩])
 (.seq (.reg [
 ⟨some 24,.call 56 [],none,[]⟩,
 ⟨some 25,.call 57 [],none,[]⟩,
 ⟨some 26,.call 24 [.t 24,.c (.int .i64 0),.c (.int .i64 6),.t 25],none,[]⟩,
 ⟨some 23,.mv (.t 26),none,[]⟩,
 ⟨some 27,.ext (.t 23) 0,none,[]⟩,
 ⟨some 28,.ext (.t 23) 1,none,[]⟩,
 ⟨some 3,.alloc [.int .i64 0,.int .i64 0] 29,none,[]⟩,
 ⟨none,.st (.t 3) (.t 27) 2,none,[]⟩,
 ⟨some 4,.mv (.t 28),none,[]⟩])
 (.seq (.reg [
 ⟨some 30,.call 56 [],none,[]⟩,
 ⟨some 31,.call 57 [],none,[]⟩,
 ⟨some 32,.bsl 1 3 [.c (.int .i64 0),.c (.int .i64 1)],none,[]⟩,
 ⟨some 33,.call 34 [.t 30,.c (.int .i64 0),.c (.int .i64 6),.t 31,.t 32],none,[]⟩,
 ⟨some 29,.mv (.t 33),none,[]⟩,
 ⟨some 34,.ext (.t 29) 0,none,[]⟩,
 ⟨some 35,.ext (.t 29) 1,none,[]⟩,
 ⟨some 36,.ext (.t 29) 2,none,[]⟩,
 ⟨some 5,.mv (.t 34),none,[]⟩,
 ⟨some 6,.mv (.t 35),none,[]⟩,
 ⟨some 7,.mv (.t 36),none,[]⟩])
 (.seq (.reg [
 ⟨some 38,.call 56 [],none,[]⟩,
 ⟨some 39,.call 57 [],none,[]⟩,
 ⟨some 40,.call 32 [.t 38,.c (.int .i64 0),.c (.int .i64 6),.t 39],none,[]⟩,
 ⟨some 37,.mv (.t 40),none,[]⟩,
 ⟨some 41,.ext (.t 37) 0,none,[]⟩,
 ⟨some 42,.ext (.t 37) 1,none,[]⟩,
 ⟨some 8,.mv (.t 41),none,[]⟩,
 ⟨some 9,.mv (.t 42),none,[]⟩])
 (.seq (.reg [
 ⟨some 44,.call 56 [],none,[]⟩,
 ⟨some 45,.call 57 [],none,[]⟩,
 ⟨some 46,.call 36 [.t 44,.c (.int .i64 0),.c (.int .i64 2),.c (.int .i64 6),.t 45],none,[]⟩,
 ⟨some 43,.mv (.t 46),none,[]⟩,
 ⟨some 47,.ext (.t 43) 0,none,[]⟩,
 ⟨some 48,.ext (.t 43) 1,none,[]⟩,
 ⟨some 10,.mv (.t 47),none,[]⟩,
 ⟨some 11,.mv (.t 48),none,[]⟩])
 (.seq (.reg [
 ⟨some 50,.call 56 [],none,[]⟩,
 ⟨some 51,.call 57 [],none,[]⟩,
 ⟨some 52,.call 29 [.t 50,.c (.int .i64 0),.c (.int .i64 2),.c (.int .i64 6),.c (.int .i64 21),.t 51],none,[]⟩,
 ⟨some 49,.mv (.t 52),none,[]⟩,
 ⟨some 53,.ext (.t 49) 0,none,[]⟩,
 ⟨some 54,.ext (.t 49) 1,none,[]⟩,
 ⟨some 12,.mv (.t 53),none,[]⟩,
 ⟨some 13,.mv (.t 54),none,[]⟩])
 (.seq (.reg [
 ⟨some 56,.call 56 [],none,[]⟩,
 ⟨some 57,.build [.int .i64 0,.int .i64 0,.int .i64 0] [(0,1,.c (.int .i64 1)),(2,1,.c (.int .i64 4000))],none,[]⟩,
 ⟨some 58,.bsl 3 40 [.t 57],none,[]⟩,
 ⟨some 59,.call 17 [.t 56,.c (.int .i64 1),.t 58,.c (.int .i64 2)],none,[]⟩,
 ⟨some 55,.mv (.t 59),none,[]⟩,
 ⟨some 60,.ext (.t 55) 0,none,[]⟩,
 ⟨some 61,.ext (.t 55) 1,none,[]⟩,
 ⟨some 62,.ext (.t 55) 2,none,[]⟩,
 ⟨some 14,.alloc [.int .i64 0,.int .i64 0] 29,none,[]⟩,
 ⟨none,.st (.t 14) (.t 60) 2,none,[]⟩,
 ⟨some 15,.mv (.t 61),none,[]⟩,
 ⟨some 16,.mv (.t 62),none,[]⟩])
 (.seq (.regd [0,1,2,3,4,5,6,7,8,9,10,11,12,13,14,15,16,17,18,19,20,21,22,23,24,25,26,27,28,29,30,31,32,33,34,35,36,37,38,39,40,41,42,43,44,45,46,47,48,49,50,51,52,53,54,55,56,57,58,59,60,61,62,63,64,65,66,67,68,69,70,71,72] [
 .op ⟨some 63,.mv (.t 2),none,[]⟩,
 .op ⟨some 64,.bin .eql (.t 63) (.c (.int .i64 0)),none,[0]⟩,
 .op ⟨some 65,.mv (.t 64),none,[1]⟩,
 .op ⟨some 66,.ld (.t 1) 2 true,some (65,true),[2]⟩,
 .op ⟨some 67,.call 50 [.c (.int .i64 7),.c (.int .i64 12)],some (65,true),[2]⟩,
 .op ⟨some 68,.eqs false true [1,1] (.t 66) (.t 67),some (65,true),[2,3,4]⟩,
 .op ⟨some 69,.pick (.t 65) (.t 68) (.c (.bool false)),none,[2,5]⟩,
 .op ⟨some 70,.mv (.t 69),none,[4,6]⟩,
 .op ⟨some 71,.mv (.t 4),some (70,true),[7]⟩,
 .op ⟨some 72,.bin .eql (.t 71) (.c (.int .i64 0)),some (70,true),[7,8]⟩,
 .op ⟨some 73,.pick (.t 70) (.t 72) (.c (.bool false)),none,[7,9]⟩,
 .op ⟨some 74,.mv (.t 73),none,[7,10]⟩,
 .op ⟨some 75,.ld (.t 3) 2 true,some (74,true),[11]⟩,
 .op ⟨some 76,.call 50 [.c (.int .i64 6),.c (.int .i64 7)],some (74,true),[11]⟩,
 .op ⟨some 77,.eqs false true [1,1] (.t 75) (.t 76),some (74,true),[11,12,13]⟩,
 .op ⟨some 78,.pick (.t 74) (.t 77) (.c (.bool false)),none,[11,14]⟩,
 .op ⟨some 79,.mv (.t 78),none,[13,15]⟩,
 .op ⟨some 80,.mv (.t 7),some (79,true),[16]⟩,
 .op ⟨some 81,.bin .eql (.t 80) (.c (.int .i64 0)),some (79,true),[16,17]⟩,
 .op ⟨some 82,.pick (.t 79) (.t 81) (.c (.bool false)),none,[16,18]⟩,
 .op ⟨some 83,.mv (.t 82),none,[16,19]⟩,
 .op ⟨some 84,.mv (.t 5),some (83,true),[20]⟩,
 .op ⟨some 85,.call 50 [.c (.int .i64 6),.c (.int .i64 7)],some (83,true),[20]⟩,
 .op ⟨some 86,.call 50 [.c (.int .i64 9),.c (.int .i64 12)],some (83,true),[20,22]⟩,
 .op ⟨some 87,.build [.int .i64 0,.int .i64 0,.int .i64 0,.int .i64 0,.int .i64 0,.int .i64 0] [(0,1,.c (.int .i64 0)),(1,1,.c (.int .i64 1)),(2,2,.t 85),(4,2,.t 86)],some (83,true),[20,22,23]⟩,
 .op ⟨some 88,.call 50 [.c (.int .i64 9),.c (.int .i64 18)],some (83,true),[20,23]⟩,
 .op ⟨some 89,.call 50 [.c (.int .i64 11),.c (.int .i64 21)],some (83,true),[20,25]⟩,
 .op ⟨some 90,.build [.int .i64 0,.int .i64 0,.int .i64 0,.int .i64 0,.int .i64 0,.int .i64 0] [(0,1,.c (.int .i64 1)),(1,1,.c (.int .i64 2)),(2,2,.t 88),(4,2,.t 89)],some (83,true),[20,25,26]⟩,
 .op ⟨some 91,.bsl 6 92 [.t 87,.t 90],some (83,true),[20,24,27]⟩,
 .op ⟨some 92,.call 39 [.t 84,.t 91],some (83,true),[20,21,26,28]⟩,
 .op ⟨some 93,.pick (.t 83) (.t 92) (.c (.bool false)),none,[20,29]⟩,
 .op ⟨some 94,.mv (.t 93),none,[29,30]⟩,
 .op ⟨some 95,.mv (.t 9),some (94,true),[31]⟩,
 .op ⟨some 96,.bin .eql (.t 95) (.c (.int .i64 0)),some (94,true),[31,32]⟩,
 .op ⟨some 97,.pick (.t 94) (.t 96) (.c (.bool false)),none,[31,33]⟩,
 .op ⟨some 98,.mv (.t 97),none,[31,34]⟩,
 .op ⟨some 99,.mv (.t 8),some (98,true),[35]⟩,
 .op ⟨some 100,.call 50 [.c (.int .i64 6),.c (.int .i64 6)],some (98,true),[35]⟩,
 .op ⟨some 101,.call 50 [.c (.int .i64 9),.c (.int .i64 12)],some (98,true),[35,37]⟩,
 .op ⟨some 102,.call 50 [.c (.int .i64 11),.c (.int .i64 18)],some (98,true),[35,38]⟩,
 .op ⟨some 103,.bsl 2 29 [.t 100,.t 101,.t 102],some (98,true),[35,37,38,39]⟩,
 .op ⟨some 104,.call 38 [.t 99,.t 103],some (98,true),[35,36,39,40]⟩,
 .op ⟨some 105,.pick (.t 98) (.t 104) (.c (.bool false)),none,[35,41]⟩,
 .op ⟨some 106,.mv (.t 105),none,[41,42]⟩,
 .op ⟨some 107,.mv (.t 11),some (106,true),[43]⟩,
 .op ⟨some 108,.bin .eql (.t 107) (.c (.int .i64 0)),some (106,true),[43,44]⟩,
 .op ⟨some 109,.pick (.t 106) (.t 108) (.c (.bool false)),none,[43,45]⟩,
 .op ⟨some 110,.mv (.t 109),none,[43,46]⟩,
 .op ⟨some 111,.mv (.t 10),some (110,true),[47]⟩,
 .op ⟨some 112,.bsl 1 3 [.c (.int .i64 2)],some (110,true),[47]⟩,
 .op ⟨some 113,.call 40 [.t 111,.t 112],some (110,true),[47,48,49]⟩,
 .op ⟨some 114,.pick (.t 110) (.t 113) (.c (.bool false)),none,[47,50]⟩,
 .op ⟨some 115,.mv (.t 114),none,[50,51]⟩,
 .op ⟨some 116,.mv (.t 13),some (115,true),[52]⟩,
 .op ⟨some 117,.bin .eql (.t 116) (.c (.int .i64 0)),some (115,true),[52,53]⟩,
 .op ⟨some 118,.pick (.t 115) (.t 117) (.c (.bool false)),none,[52,54]⟩,
 .op ⟨some 119,.mv (.t 118),none,[52,55]⟩,
 .op ⟨some 120,.mv (.t 12),some (119,true),[56]⟩,
 .op ⟨some 121,.bsl 1 3 [.c (.int .i64 0),.c (.int .i64 1)],some (119,true),[56]⟩,
 .op ⟨some 122,.bsl 1 3 [.c (.int .i64 2)],some (119,true),[56]⟩,
 .op ⟨some 123,.bsl 1 59 [.t 121,.t 122],some (119,true),[56,58,59]⟩,
 .op ⟨some 124,.call 31 [.t 120,.t 123],some (119,true),[56,57,60]⟩,
 .op ⟨some 125,.pick (.t 119) (.t 124) (.c (.bool false)),none,[56,61]⟩,
 .op ⟨some 126,.mv (.t 125),none,[61,62]⟩,
 .op ⟨some 127,.mv (.t 16),some (126,true),[63]⟩,
 .op ⟨some 128,.bin .eql (.t 127) (.c (.int .i64 0)),some (126,true),[63,64]⟩,
 .op ⟨some 129,.pick (.t 126) (.t 128) (.c (.bool false)),none,[63,65]⟩,
 .op ⟨some 130,.mv (.t 129),none,[63,66]⟩,
 .op ⟨some 131,.ld (.t 14) 2 true,some (130,true),[67]⟩,
 .op ⟨some 132,.call 50 [.c (.int .i64 1000),.c (.int .i64 5000)],some (130,true),[67]⟩,
 .op ⟨some 133,.eqs false true [1,1] (.t 131) (.t 132),some (130,true),[67,68,69]⟩,
 .op ⟨some 134,.pick (.t 130) (.t 133) (.c (.bool false)),none,[67,70]⟩,
 .op ⟨some 0,.mv (.t 134),none,[0,1,2,3,4,5,6,7,8,9,10,11,12,13,14,15,16,17,18,19,20,21,22,23,24,25,26,27,28,29,30,31,32,33,34,35,36,37,38,39,40,41,42,43,44,45,46,47,48,49,50,51,52,53,54,55,56,57,58,59,60,61,62,63,64,65,66,67,68,69,70,71]⟩] 0 0 [
])
 .ret)))))))))
def r41:List RV:=[.tmp 0]
theorem n41:Try.f41.ntmps = 135:=by kernel_rfl
theorem b41:bodyB Try.prog 41 = true:=by kernel_rfl
theorem c41_ok:cmpC Try.prog c41 ((Try.f41.body).getD .skip) = true:=by kernel_rfl
theorem r41_ok:cmpR Try.prog r41 Try.f41.results.toList = true:=by kernel_rfl
theorem t41 {args:List SV} {res:SV} (ka:KFL args) (kr:KF res) (h:sx Try.prog Y0 0 c41 (st0 args 135) (retK r41 res)) (hA:Nat.ble args.length 135 = true:=by rfl):Ct Try.prog 41 args res:=ct_intro Try.func41 rfl b41 c41_ok r41_ok n41 (Nat.le_of_ble_eq_true hA) ka kr h
def c42:SC:=(.seq (.reg [
 ⟨some 2,.box (.t 0) 0 25,none,[]⟩,
 ⟨some 3,.box (.t 1) 0 29,none,[]⟩,
 ⟨some 4,.mv (.c (.bool false)),none,[]⟩])
 (.seq (.reg [
 ⟨some 5,.ld (.t 2) 2 true,none,[]⟩,
 ⟨some 6,.call 16 [.t 5],none,[]⟩,
 ⟨some 7,.un .not (.t 6),none,[]⟩,
 ⟨some 8,.mv (.t 7),none,[]⟩,
 ⟨some 9,.ld (.t 2) 2 true,some (8,true),[]⟩,
 ⟨some 10,.call 27 [.t 9],some (8,true),[]⟩,
 ⟨some 11,.bin .eql (.t 10) (.c (.int .i64 0)),some (8,true),[]⟩,
 ⟨some 12,.pick (.t 8) (.t 11) (.c (.bool false)),none,[]⟩,
 ⟨some 13,.mv (.t 12),none,[]⟩,
 ⟨some 14,.ld (.t 3) 2 true,some (13,true),[]⟩,
 ⟨some 15,.call 89 [.t 14],some (13,true),[]⟩,
 ⟨some 16,.pick (.t 13) (.t 15) (.c (.bool false)),none,[]⟩,
 ⟨some 4,.mv (.t 16),none,[]⟩])
 .ret))
def r42:List RV:=[.tmp 4]
theorem n42:Try.f42.ntmps = 17:=by kernel_rfl
theorem b42:bodyB Try.prog 42 = true:=by kernel_rfl
theorem c42_ok:cmpC Try.prog c42 ((Try.f42.body).getD .skip) = true:=by kernel_rfl
theorem r42_ok:cmpR Try.prog r42 Try.f42.results.toList = true:=by kernel_rfl
theorem t42 {args:List SV} {res:SV} (ka:KFL args) (kr:KF res) (h:sx Try.prog Y0 0 c42 (st0 args 17) (retK r42 res)) (hA:Nat.ble args.length 17 = true:=by rfl):Ct Try.prog 42 args res:=ct_intro Try.func42 rfl b42 c42_ok r42_ok n42 (Nat.le_of_ble_eq_true hA) ka kr h
def c45:SC:=(.seq (.reg [
 ⟨some 2,.box (.t 0) 0 29,none,[]⟩,
 ⟨some 4,.mv (.c (.int .i64 0)),none,[]⟩])
 (.seq (.regd [0,1,2,3,4,5,6,7,8,9,10,11,12] [
 .op ⟨some 5,.addo (.t 2) 0,none,[]⟩,
 .op ⟨some 6,.ld (.t 5) 1 false,none,[0]⟩,
 .op ⟨some 7,.mv (.t 1),none,[]⟩,
 .op ⟨some 8,.conv .i64 (.t 7),none,[2]⟩,
 .op ⟨some 9,.addo (.t 2) 1,none,[]⟩,
 .op ⟨some 10,.ld (.t 9) 1 false,none,[4]⟩,
 .op ⟨some 11,.addo (.t 2) 0,none,[]⟩,
 .op ⟨some 12,.ld (.t 11) 1 false,none,[6]⟩,
 .op ⟨some 13,.bin .sub (.t 10) (.t 12),none,[5,7]⟩,
 .op ⟨some 14,.bin .add (.t 13) (.c (.int .i64 1)),none,[8]⟩,
 .op ⟨some 15,.div .rem (.t 8) (.t 14),none,[3,9]⟩,
 .op ⟨some 16,.bin .add (.t 6) (.t 15),none,[1,10]⟩,
 .op ⟨some 4,.mv (.t 16),none,[0,1,2,3,4,5,6,7,8,9,10,11]⟩] 0 0 [
])
 .ret))
def r45:List RV:=[.tmp 4]
theorem n45:Try.f45.ntmps = 17:=by kernel_rfl
theorem b45:bodyB Try.prog 45 = true:=by kernel_rfl
theorem c45_ok:cmpC Try.prog c45 ((Try.f45.body).getD .skip) = true:=by kernel_rfl
theorem r45_ok:cmpR Try.prog r45 Try.f45.results.toList = true:=by kernel_rfl
theorem t45 {args:List SV} {res:SV} (ka:KFL args) (kr:KF res) (h:sx Try.prog Y0 0 c45 (st0 args 17) (retK r45 res)) (hA:Nat.ble args.length 17 = true:=by rfl):Ct Try.prog 45 args res:=ct_intro Try.func45 rfl b45 c45_ok r45_ok n45 (Nat.le_of_ble_eq_true hA) ka kr h
def c46:SC:=(.seq (.reg [
 ⟨some 4,.mv (.c (.int .u32 0)),none,[]⟩])
 (.seq (.seq (.reg [
 ⟨some 5,.mv (.t 0),none,[]⟩,
 ⟨some 6,.len (.t 5),none,[]⟩,
 ⟨some 7,.bin .eql (.t 6) (.c (.int .i64 0)),none,[]⟩])
 (.cond (.t 7)
 (.seq (.reg [
  ⟨some 4,.mv (.c (.int .u32 0)),none,[]⟩])
  .ret)
 .skip))
 (.seq (.reg [
 ⟨some 8,.mv (.t 0),none,[]⟩,
 ⟨some 9,.mv (.t 1),none,[]⟩,
 ⟨some 10,.mv (.t 0),none,[]⟩,
 ⟨some 11,.len (.t 10),none,[]⟩,
 ⟨some 12,.div .rem (.t 9) (.t 11),none,[]⟩,
 ⟨some 13,.ixs (.t 8) (.t 12) 1,none,[]⟩,
 ⟨some 14,.ld (.t 13) 1 false,none,[]⟩,
 ⟨some 4,.mv (.t 14),none,[]⟩])
 .ret)))
def r46:List RV:=[.tmp 4]
theorem n46:Try.f46.ntmps = 15:=by kernel_rfl
theorem b46:bodyB Try.prog 46 = true:=by kernel_rfl
theorem c46_ok:cmpC Try.prog c46 ((Try.f46.body).getD .skip) = true:=by kernel_rfl
theorem r46_ok:cmpR Try.prog r46 Try.f46.results.toList = true:=by kernel_rfl
theorem t46 {args:List SV} {res:SV} (ka:KFL args) (kr:KF res) (h:sx Try.prog Y0 0 c46 (st0 args 15) (retK r46 res)) (hA:Nat.ble args.length 15 = true:=by rfl):Ct Try.prog 46 args res:=ct_intro Try.func46 rfl b46 c46_ok r46_ok n46 (Nat.le_of_ble_eq_true hA) ka kr h
def c50:SC:=(.seq (.reg [
 ⟨some 4,.alloc [.int .i64 0,.int .i64 0] 29,none,[]⟩])
 (.seq (.reg [
 ⟨some 5,.mv (.t 0),none,[]⟩,
 ⟨some 6,.mv (.t 1),none,[]⟩,
 ⟨some 7,.build [.int .i64 0,.int .i64 0] [(0,1,.t 5),(1,1,.t 6)],none,[]⟩,
 ⟨none,.st (.t 4) (.t 7) 2,none,[]⟩])
 .ret))
def r50:List RV:=[.cell 4 2 true]
theorem n50:Try.f50.ntmps = 8:=by kernel_rfl
theorem b50:bodyB Try.prog 50 = true:=by kernel_rfl
theorem c50_ok:cmpC Try.prog c50 ((Try.f50.body).getD .skip) = true:=by kernel_rfl
theorem r50_ok:cmpR Try.prog r50 Try.f50.results.toList = true:=by kernel_rfl
theorem t50 {args:List SV} {res:SV} (ka:KFL args) (kr:KF res) (h:sx Try.prog Y0 0 c50 (st0 args 8) (retK r50 res)) (hA:Nat.ble args.length 8 = true:=by rfl):Ct Try.prog 50 args res:=ct_intro Try.func50 rfl b50 c50_ok r50_ok n50 (Nat.le_of_ble_eq_true hA) ka kr h
def c53:SC:=(.seq (.reg [
 ⟨some 3,.box (.t 0) 0 29,none,[]⟩,
 ⟨some 6,.alloc [.int .i64 0,.int .i64 0] 29,none,[]⟩])
 (.seq (.reg [
 ⟨some 8,.ld (.t 3) 2 true,none,[]⟩,
 ⟨some 9,.mv (.t 1),none,[]⟩,
 ⟨some 10,.call 45 [.t 8,.t 9],none,[]⟩,
 ⟨some 7,.mv (.t 10),none,[]⟩])
 (.seq (.reg [
 ⟨some 11,.mv (.t 7),none,[]⟩,
 ⟨some 12,.mv (.t 7),none,[]⟩,
 ⟨some 13,.addo (.t 3) 1,none,[]⟩,
 ⟨some 14,.ld (.t 13) 1 false,none,[]⟩,
 ⟨some 15,.call 50 [.t 12,.t 14],none,[]⟩,
 ⟨some 16,.mv (.t 2),none,[]⟩,
 ⟨some 17,.call 45 [.t 15,.t 16],none,[]⟩,
 ⟨some 18,.call 50 [.t 11,.t 17],none,[]⟩,
 ⟨none,.st (.t 6) (.t 18) 2,none,[]⟩])
 .ret)))
def r53:List RV:=[.cell 6 2 true]
theorem n53:Try.f53.ntmps = 19:=by kernel_rfl
theorem b53:bodyB Try.prog 53 = true:=by kernel_rfl
theorem c53_ok:cmpC Try.prog c53 ((Try.f53.body).getD .skip) = true:=by kernel_rfl
theorem r53_ok:cmpR Try.prog r53 Try.f53.results.toList = true:=by kernel_rfl
theorem t53 {args:List SV} {res:SV} (ka:KFL args) (kr:KF res) (h:sx Try.prog Y0 0 c53 (st0 args 19) (retK r53 res)) (hA:Nat.ble args.length 19 = true:=by rfl):Ct Try.prog 53 args res:=ct_intro Try.func53 rfl b53 c53_ok r53_ok n53 (Nat.le_of_ble_eq_true hA) ka kr h
def c54:SC:=(.seq (.reg [
 ⟨some 2,.box (.t 0) 0 29,none,[]⟩,
 ⟨some 3,.box (.t 1) 0 29,none,[]⟩,
 ⟨some 4,.mv (.c (.bool false)),none,[]⟩])
 (.seq (.reg [
 ⟨some 5,.addo (.t 2) 0,none,[]⟩,
 ⟨some 6,.ld (.t 5) 1 false,none,[]⟩,
 ⟨some 7,.addo (.t 3) 0,none,[]⟩,
 ⟨some 8,.ld (.t 7) 1 false,none,[]⟩,
 ⟨some 9,.bin .geq (.t 6) (.t 8),none,[]⟩,
 ⟨some 10,.mv (.t 9),none,[]⟩,
 ⟨some 11,.addo (.t 2) 1,some (10,true),[]⟩,
 ⟨some 12,.ld (.t 11) 1 false,some (10,true),[]⟩,
 ⟨some 13,.addo (.t 3) 1,some (10,true),[]⟩,
 ⟨some 14,.ld (.t 13) 1 false,some (10,true),[]⟩,
 ⟨some 15,.bin .leq (.t 12) (.t 14),some (10,true),[]⟩,
 ⟨some 16,.pick (.t 10) (.t 15) (.c (.bool false)),none,[]⟩,
 ⟨some 4,.mv (.t 16),none,[]⟩])
 .ret))
def r54:List RV:=[.tmp 4]
theorem n54:Try.f54.ntmps = 17:=by kernel_rfl
theorem b54:bodyB Try.prog 54 = true:=by kernel_rfl
theorem c54_ok:cmpC Try.prog c54 ((Try.f54.body).getD .skip) = true:=by kernel_rfl
theorem r54_ok:cmpR Try.prog r54 Try.f54.results.toList = true:=by kernel_rfl
theorem t54 {args:List SV} {res:SV} (ka:KFL args) (kr:KF res) (h:sx Try.prog Y0 0 c54 (st0 args 17) (retK r54 res)) (hA:Nat.ble args.length 17 = true:=by rfl):Ct Try.prog 54 args res:=ct_intro Try.func54 rfl b54 c54_ok r54_ok n54 (Nat.le_of_ble_eq_true hA) ka kr h
def c56:SC:=(.seq (.reg [
 ⟨some 0,.alloc [.slice none 0 0,.slice none 0 0] 25,none,[]⟩])
 (.seq (.reg [
 ⟨some 1,.build [.int .i64 0,.int .i64 0,.int .i64 0,.int .i64 0,.int .i64 0,.int .i64 0,.int .i64 0,.int .i64 0,.int .i64 0] [],none,[]⟩,
 ⟨some 2,.call 50 [.c (.int .i64 1000),.c (.int .i64 2000)],none,[]⟩,
 ⟨some 3,.call 50 [.c (.int .i64 3000),.c (.int .i64 5000)],none,[]⟩,
 ⟨some 4,.build [.int .i64 0,.int .i64 0,.int .i64 0,.int .i64 0,.int .i64 0,.int .i64 0,.int .i64 0,.int .i64 0,.int .i64 0] [(0,1,.c (.int .i64 90000)),(2,1,.c (.int .i64 20)),(3,2,.t 2),(5,1,.c (.int .i64 10000)),(6,2,.t 3)],none,[]⟩,
 ⟨some 5,.build [.int .i64 0,.int .i64 0,.int .i64 0,.int .i64 0,.int .i64 0,.int .i64 0,.int .i64 0,.int .i64 0,.int .i64 0] [(0,1,.c (.int .i64 140000))],none,[]⟩,
 ⟨some 6,.bsl 9 109 [.t 1,.t 4,.t 5],none,[]⟩,
 ⟨some 7,.call 50 [.c (.int .i64 90000),.c (.int .i64 100000)],none,[]⟩,
 ⟨some 8,.call 50 [.c (.int .i64 5),.c (.int .i64 7)],none,[]⟩,
 ⟨some 9,.call 50 [.c (.int .i64 20),.c (.int .i64 30)],none,[]⟩,
 ⟨some 10,.build [.int .i64 0,.int .i64 0,.int .i64 0,.int .i64 0] [(0,2,.t 8),(2,2,.t 9)],none,[]⟩,
 ⟨some 11,.bsl 4 95 [.t 10],none,[]⟩,
 ⟨some 12,.build [.int .i64 0,.int .i64 0,.int .i64 0,.int .i64 0,.slice none 0 0] [(0,1,.c (.int .i64 0)),(1,1,.c (.int .i64 1)),(2,2,.t 7),(4,1,.t 11)],none,[]⟩,
 ⟨some 13,.call 50 [.c (.int .i64 50000),.c (.int .i64 50000)],none,[]⟩,
 ⟨some 14,.call 50 [.c (.int .i64 12),.c (.int .i64 13)],none,[]⟩,
 ⟨some 15,.build [.int .i64 0,.int .i64 0,.int .i64 0,.int .i64 0] [(2,2,.t 14)],none,[]⟩,
 ⟨some 16,.call 50 [.c (.int .i64 18),.c (.int .i64 18)],none,[]⟩,
 ⟨some 17,.call 50 [.c (.int .i64 40),.c (.int .i64 50)],none,[]⟩,
 ⟨some 18,.build [.int .i64 0,.int .i64 0,.int .i64 0,.int .i64 0] [(0,2,.t 16),(2,2,.t 17)],none,[]⟩,
 ⟨some 19,.bsl 4 95 [.t 15,.t 18],none,[]⟩,
 ⟨some 20,.build [.int .i64 0,.int .i64 0,.int .i64 0,.int .i64 0,.slice none 0 0] [(0,1,.c (.int .i64 1)),(1,1,.c (.int .i64 2)),(2,2,.t 13),(4,1,.t 19)],none,[]⟩,
 ⟨some 21,.call 50 [.c (.int .i64 200000),.c (.int .i64 240000)],none,[]⟩,
 ⟨some 22,.call 50 [.c (.int .i64 99),.c (.int .i64 99)],none,[]⟩,
 ⟨some 23,.build [.int .i64 0,.int .i64 0,.int .i64 0,.int .i64 0] [(2,2,.t 22)],none,[]⟩,
 ⟨some 24,.bsl 4 95 [.t 23],none,[]⟩,
 ⟨some 25,.build [.int .i64 0,.int .i64 0,.int .i64 0,.int .i64 0,.slice none 0 0] [(0,1,.c (.int .i64 0)),(1,1,.c (.int .i64 2)),(2,2,.t 21),(4,1,.t 24)],none,[]⟩,
 ⟨some 26,.bsl 5 86 [.t 12,.t 20,.t 25],none,[]⟩,
 ⟨some 27,.build [.slice none 0 0,.slice none 0 0] [(0,1,.t 6),(1,1,.t 26)],none,[]⟩,
 ⟨none,.st (.t 0) (.t 27) 2,none,[]⟩])
 .ret))
def r56:List RV:=[.cell 0 2 true]
theorem n56:Try.f56.ntmps = 28:=by kernel_rfl
theorem b56:bodyB Try.prog 56 = true:=by kernel_rfl
theorem c56_ok:cmpC Try.prog c56 ((Try.f56.body).getD .skip) = true:=by kernel_rfl
theorem r56_ok:cmpR Try.prog r56 Try.f56.results.toList = true:=by kernel_rfl
def c57:SC:=(.seq (.reg [
 ⟨some 0,.alloc [.int .i64 0,.int .i64 0] 29,none,[]⟩])
 (.seq (.reg [
 ⟨some 1,.call 50 [.c (.int .i64 20000),.c (.int .i64 30000)],none,[]⟩,
 ⟨none,.st (.t 0) (.t 1) 2,none,[]⟩])
 .ret))
def r57:List RV:=[.cell 0 2 true]
theorem n57:Try.f57.ntmps = 2:=by kernel_rfl
theorem b57:bodyB Try.prog 57 = true:=by kernel_rfl
theorem c57_ok:cmpC Try.prog c57 ((Try.f57.body).getD .skip) = true:=by kernel_rfl
theorem r57_ok:cmpR Try.prog r57 Try.f57.results.toList = true:=by kernel_rfl
theorem t57 {args:List SV} {res:SV} (ka:KFL args) (kr:KF res) (h:sx Try.prog Y0 0 c57 (st0 args 2) (retK r57 res)) (hA:Nat.ble args.length 2 = true:=by rfl):Ct Try.prog 57 args res:=ct_intro Try.func57 rfl b57 c57_ok r57_ok n57 (Nat.le_of_ble_eq_true hA) ka kr h
def c8:SC:=(.seq (.reg [
 ⟨some 5,.box (.t 0) 0 25,none,[]⟩,
 ⟨some 6,.box (.t 1) 0 3,none,[]⟩,
 ⟨some 8,.box (.t 3) 0 29,none,[]⟩,
 ⟨some 10,.mv (.c (.bool false)),none,[]⟩])
 (.seq (.reg [
 ⟨some 20,.call 41 [],none,[]⟩,
 ⟨some 11,.mv (.t 20),none,[]⟩])
 (.seq (.seq (.reg [
 ⟨some 21,.mv (.t 11),none,[]⟩,
 ⟨some 22,.un .not (.t 21),none,[]⟩])
 (.cond (.t 22)
 (.seq (.reg [
  ⟨some 10,.mv (.c (.bool false)),none,[]⟩])
  .ret)
 .skip))
 (.seq (.seq (.reg [
 ⟨some 23,.ld (.t 5) 2 true,none,[]⟩,
 ⟨some 24,.ld (.t 8) 2 true,none,[]⟩,
 ⟨some 25,.call 42 [.t 23,.t 24],none,[]⟩,
 ⟨some 26,.un .not (.t 25),none,[]⟩,
 ⟨some 27,.mv (.t 26),none,[]⟩,
 ⟨some 28,.ld (.t 6) 1 false,some (27,false),[]⟩,
 ⟨some 29,.bin .lss (.t 28) (.c (.int .i64 0)),some (27,false),[]⟩,
 ⟨some 30,.pick (.t 27) (.c (.bool true)) (.t 29),none,[]⟩,
 ⟨some 31,.mv (.t 30),none,[]⟩,
 ⟨some 32,.ld (.t 6) 1 false,some (31,false),[]⟩,
 ⟨some 33,.addo (.t 5) 1,some (31,false),[]⟩,
 ⟨some 34,.ld (.t 33) 1 false,some (31,false),[]⟩,
 ⟨some 35,.len (.t 34),some (31,false),[]⟩,
 ⟨some 36,.bin .geq (.t 32) (.t 35),some (31,false),[]⟩,
 ⟨some 37,.pick (.t 31) (.c (.bool true)) (.t 36),none,[]⟩,
 ⟨some 38,.mv (.t 37),none,[]⟩,
 ⟨some 39,.mv (.t 2),some (38,false),[]⟩,
 ⟨some 40,.bin .lss (.t 39) (.c (.int .i64 0)),some (38,false),[]⟩,
 ⟨some 41,.pick (.t 38) (.c (.bool true)) (.t 40),none,[]⟩,
 ⟨some 42,.mv (.t 41),none,[]⟩,
 ⟨some 43,.mv (.t 2),some (42,false),[]⟩,
 ⟨some 44,.bin .gtr (.t 43) (.c (.int .i64 100000)),some (42,false),[]⟩,
 ⟨some 45,.pick (.t 42) (.c (.bool true)) (.t 44),none,[]⟩])
 (.cond (.t 45)
 (.seq (.reg [
  ⟨some 46,.mv (.t 11),none,[]⟩,
  ⟨some 10,.mv (.t 46),none,[]⟩])
  .ret)
 .skip))
 (.seq (.reg [
 ⟨some 48,.ld (.t 5) 2 true,none,[]⟩,
 ⟨some 49,.ld (.t 6) 1 false,none,[]⟩,
 ⟨some 50,.mv (.t 2),none,[]⟩,
 ⟨some 51,.ld (.t 8) 2 true,none,[]⟩,
 ⟨some 52,.call 24 [.t 48,.t 49,.t 50,.t 51],none,[]⟩,
 ⟨some 47,.mv (.t 52),none,[]⟩,
 ⟨some 53,.ext (.t 47) 0,none,[]⟩,
 ⟨some 54,.ext (.t 47) 1,none,[]⟩,
 ⟨some 12,.alloc [.int .i64 0,.int .i64 0] 29,none,[]⟩,
 ⟨none,.st (.t 12) (.t 53) 2,none,[]⟩,
 ⟨some 13,.mv (.t 54),none,[]⟩])
 (.seq (.reg [
 ⟨some 56,.ld (.t 5) 2 true,none,[]⟩,
 ⟨some 57,.ld (.t 6) 1 false,none,[]⟩,
 ⟨some 58,.ld (.t 8) 2 true,none,[]⟩,
 ⟨some 59,.call 22 [.t 56,.t 57,.t 58],none,[]⟩,
 ⟨some 55,.mv (.t 59),none,[]⟩,
 ⟨some 60,.ext (.t 55) 0,none,[]⟩,
 ⟨some 61,.ext (.t 55) 1,none,[]⟩,
 ⟨some 14,.alloc [.int .i64 0,.int .i64 0] 29,none,[]⟩,
 ⟨none,.st (.t 14) (.t 60) 2,none,[]⟩,
 ⟨some 15,.mv (.t 61),none,[]⟩])
 (.seq (.seq (.reg [
 ⟨some 62,.mv (.t 13),none,[]⟩,
 ⟨some 63,.bin .neq (.t 62) (.c (.int .i64 0)),none,[]⟩,
 ⟨some 64,.mv (.t 63),none,[]⟩,
 ⟨some 65,.mv (.t 15),some (64,false),[]⟩,
 ⟨some 66,.bin .neq (.t 65) (.c (.int .i64 0)),some (64,false),[]⟩,
 ⟨some 67,.pick (.t 64) (.c (.bool true)) (.t 66),none,[]⟩,
 ⟨some 68,.mv (.t 67),none,[]⟩,
 ⟨some 69,.addo (.t 14) 0,some (68,false),[]⟩,
 ⟨some 70,.ld (.t 69) 1 false,some (68,false),[]⟩,
 ⟨some 71,.bin .lss (.t 70) (.c (.int .i64 1)),some (68,false),[]⟩,
 ⟨some 72,.pick (.t 68) (.c (.bool true)) (.t 71),none,[]⟩,
 ⟨some 73,.mv (.t 72),none,[]⟩,
 ⟨some 74,.addo (.t 14) 0,some (73,false),[]⟩,
 ⟨some 75,.ld (.t 74) 1 false,some (73,false),[]⟩,
 ⟨some 76,.addo (.t 14) 1,some (73,false),[]⟩,
 ⟨some 77,.ld (.t 76) 1 false,some (73,false),[]⟩,
 ⟨some 78,.bin .gtr (.t 75) (.t 77),some (73,false),[]⟩,
 ⟨some 79,.pick (.t 73) (.c (.bool true)) (.t 78),none,[]⟩,
 ⟨some 80,.mv (.t 79),none,[]⟩,
 ⟨some 81,.addo (.t 12) 0,some (80,false),[]⟩,
 ⟨some 82,.ld (.t 81) 1 false,some (80,false),[]⟩,
 ⟨some 83,.mv (.t 2),some (80,false),[]⟩,
 ⟨some 84,.bin .lss (.t 82) (.t 83),some (80,false),[]⟩,
 ⟨some 85,.pick (.t 80) (.c (.bool true)) (.t 84),none,[]⟩,
 ⟨some 86,.mv (.t 85),none,[]⟩,
 ⟨some 87,.addo (.t 12) 0,some (86,false),[]⟩,
 ⟨some 88,.ld (.t 87) 1 false,some (86,false),[]⟩,
 ⟨some 89,.addo (.t 12) 1,some (86,false),[]⟩,
 ⟨some 90,.ld (.t 89) 1 false,some (86,false),[]⟩,
 ⟨some 91,.bin .gtr (.t 88) (.t 90),some (86,false),[]⟩,
 ⟨some 92,.pick (.t 86) (.c (.bool true)) (.t 91),none,[]⟩,
 ⟨some 93,.mv (.t 92),none,[]⟩,
 ⟨some 94,.addo (.t 12) 1,some (93,false),[]⟩,
 ⟨some 95,.ld (.t 94) 1 false,some (93,false),[]⟩,
 ⟨some 96,.bin .gtr (.t 95) (.c (.int .i64 100001)),some (93,false),[]⟩,
 ⟨some 97,.pick (.t 93) (.c (.bool true)) (.t 96),none,[]⟩])
 (.cond (.t 97)
 (.seq (.reg [
  ⟨some 10,.mv (.c (.bool false)),none,[]⟩])
  .ret)
 .skip))
 (.seq (.reg [
 ⟨some 98,.addo (.t 5) 1,none,[]⟩,
 ⟨some 99,.ld (.t 98) 1 false,none,[]⟩,
 ⟨some 100,.ld (.t 6) 1 false,none,[]⟩,
 ⟨some 101,.ixs (.t 99) (.t 100) 5,none,[]⟩,
 ⟨some 102,.addo (.t 101) 2,none,[]⟩,
 ⟨some 103,.ld (.t 102) 2 true,none,[]⟩,
 ⟨some 16,.alloc [.int .i64 0,.int .i64 0] 29,none,[]⟩,
 ⟨none,.st (.t 16) (.t 103) 2,none,[]⟩])
 (.seq (.seq (.reg [
 ⟨some 104,.addo (.t 14) 0,none,[]⟩,
 ⟨some 105,.ld (.t 104) 1 false,none,[]⟩,
 ⟨some 106,.addo (.t 8) 1,none,[]⟩,
 ⟨some 107,.ld (.t 106) 1 false,none,[]⟩,
 ⟨some 108,.bin .mul (.t 105) (.t 107),none,[]⟩,
 ⟨some 109,.addo (.t 16) 0,none,[]⟩,
 ⟨some 110,.ld (.t 109) 1 false,none,[]⟩,
 ⟨some 111,.bin .lss (.t 108) (.t 110),none,[]⟩,
 ⟨some 112,.mv (.t 111),none,[]⟩,
 ⟨some 113,.addo (.t 14) 0,some (112,false),[]⟩,
 ⟨some 114,.ld (.t 113) 1 false,some (112,false),[]⟩,
 ⟨some 115,.bin .sub (.t 114) (.c (.int .i64 1)),some (112,false),[]⟩,
 ⟨some 116,.addo (.t 8) 1,some (112,false),[]⟩,
 ⟨some 117,.ld (.t 116) 1 false,some (112,false),[]⟩,
 ⟨some 118,.bin .mul (.t 115) (.t 117),some (112,false),[]⟩,
 ⟨some 119,.addo (.t 16) 0,some (112,false),[]⟩,
 ⟨some 120,.ld (.t 119) 1 false,some (112,false),[]⟩,
 ⟨some 121,.bin .geq (.t 118) (.t 120),some (112,false),[]⟩,
 ⟨some 122,.pick (.t 112) (.c (.bool true)) (.t 121),none,[]⟩,
 ⟨some 123,.mv (.t 122),none,[]⟩,
 ⟨some 124,.addo (.t 14) 1,some (123,false),[]⟩,
 ⟨some 125,.ld (.t 124) 1 false,some (123,false),[]⟩,
 ⟨some 126,.addo (.t 8) 0,some (123,false),[]⟩,
 ⟨some 127,.ld (.t 126) 1 false,some (123,false),[]⟩,
 ⟨some 128,.bin .mul (.t 125) (.t 127),some (123,false),[]⟩,
 ⟨some 129,.addo (.t 16) 1,some (123,false),[]⟩,
 ⟨some 130,.ld (.t 129) 1 false,some (123,false),[]⟩,
 ⟨some 131,.bin .lss (.t 128) (.t 130),some (123,false),[]⟩,
 ⟨some 132,.pick (.t 123) (.c (.bool true)) (.t 131),none,[]⟩,
 ⟨some 133,.mv (.t 132),none,[]⟩,
 ⟨some 134,.addo (.t 14) 1,some (133,false),[]⟩,
 ⟨some 135,.ld (.t 134) 1 false,some (133,false),[]⟩,
 ⟨some 136,.bin .sub (.t 135) (.c (.int .i64 1)),some (133,false),[]⟩,
 ⟨some 137,.addo (.t 8) 0,some (133,false),[]⟩,
 ⟨some 138,.ld (.t 137) 1 false,some (133,false),[]⟩,
 ⟨some 139,.bin .mul (.t 136) (.t 138),some (133,false),[]⟩,
 ⟨some 140,.addo (.t 16) 1,some (133,false),[]⟩,
 ⟨some 141,.ld (.t 140) 1 false,some (133,false),[]⟩,
 ⟨some 142,.bin .geq (.t 139) (.t 141),some (133,false),[]⟩,
 ⟨some 143,.pick (.t 133) (.c (.bool true)) (.t 142),none,[]⟩])
 (.cond (.t 143)
 (.seq (.reg [
  ⟨some 10,.mv (.c (.bool false)),none,[]⟩])
  .ret)
 .skip))
 (.seq (.reg [
 ⟨some 144,.mkf 48 [.t 5,.t 6,.t 14],none,[]⟩,
 ⟨some 145,.mkf 49 [.t 5,.t 6,.t 14],none,[]⟩,
 ⟨some 17,.mv (.t 144),none,[]⟩,
 ⟨some 18,.mv (.t 145),none,[]⟩])
 (.seq (.seq (.regd [0,1,2,3,4,5,6,7,8,9,10,11,12,13,14,15,16,17] [
 .op ⟨some 146,.addo (.t 12) 0,none,[]⟩,
 .op ⟨some 147,.ld (.t 146) 1 false,none,[0]⟩,
 .op ⟨some 148,.bin .lss (.t 147) (.c (.int .i64 100001)),none,[1]⟩,
 .op ⟨some 149,.mv (.t 17),none,[]⟩,
 .op ⟨some 150,.addo (.t 12) 0,none,[]⟩,
 .op ⟨some 151,.ld (.t 150) 1 false,none,[4]⟩,
 .op ⟨some 152,.calv (.t 149) [.t 151],none,[3,5]⟩,
 .op ⟨some 153,.eqs true false [0] (.t 148) (.t 152),none,[2,6]⟩,
 .op ⟨some 154,.mv (.t 153),none,[6,7]⟩,
 .op ⟨some 155,.addo (.t 12) 1,some (154,false),[8]⟩,
 .op ⟨some 156,.ld (.t 155) 1 false,some (154,false),[8,9]⟩,
 .op ⟨some 157,.bin .lss (.t 156) (.c (.int .i64 100001)),some (154,false),[8,10]⟩,
 .op ⟨some 158,.mv (.t 18),some (154,false),[8]⟩,
 .op ⟨some 159,.addo (.t 12) 1,some (154,false),[8]⟩,
 .op ⟨some 160,.ld (.t 159) 1 false,some (154,false),[8,13]⟩,
 .op ⟨some 161,.calv (.t 158) [.t 160],some (154,false),[8,12,14]⟩,
 .op ⟨some 162,.eqs true false [0] (.t 157) (.t 161),some (154,false),[8,11,15]⟩,
 .op ⟨some 163,.pick (.t 154) (.c (.bool true)) (.t 162),none,[8,16]⟩] 0 0 [
])
 (.cond (.t 163)
 (.seq (.reg [
  ⟨some 10,.mv (.c (.bool false)),none,[]⟩])
  .ret)
 .skip))
 (.seq (.reg [
 ⟨some 164,.mv (.t 2),none,[]⟩,
 ⟨some 165,.mv (.t 4),none,[]⟩,
 ⟨some 166,.conv .i64 (.t 165),none,[]⟩,
 ⟨some 167,.mv (.t 2),none,[]⟩,
 ⟨some 168,.bin .sub (.c (.int .i64 100000)) (.t 167),none,[]⟩,
 ⟨some 169,.bin .add (.t 168) (.c (.int .i64 1)),none,[]⟩,
 ⟨some 170,.div .rem (.t 166) (.t 169),none,[]⟩,
 ⟨some 171,.bin .add (.t 164) (.t 170),none,[]⟩,
 ⟨some 19,.mv (.t 171),none,[]⟩])
 (.seq (.reg [
 ⟨some 172,.mv (.t 11),none,[]⟩,
 ⟨some 173,.mv (.t 172),none,[]⟩,
 ⟨some 174,.mv (.t 19),some (173,true),[]⟩,
 ⟨some 175,.addo (.t 12) 0,some (173,true),[]⟩,
 ⟨some 176,.ld (.t 175) 1 false,some (173,true),[]⟩,
 ⟨some 177,.bin .geq (.t 174) (.t 176),some (173,true),[]⟩,
 ⟨some 178,.mv (.t 177),some (173,true),[]⟩,
 ⟨some 179,.mv (.t 17),some (178,false),[]⟩,
 ⟨some 180,.mv (.t 19),some (178,false),[]⟩,
 ⟨some 181,.calv (.t 179) [.t 180],some (178,false),[]⟩,
 ⟨some 182,.un .not (.t 181),some (178,false),[]⟩,
 ⟨some 183,.pick (.t 178) (.c (.bool true)) (.t 182),some (173,true),[]⟩,
 ⟨some 184,.pick (.t 173) (.t 183) (.c (.bool false)),none,[]⟩,
 ⟨some 185,.mv (.t 184),none,[]⟩,
 ⟨some 186,.mv (.t 19),some (185,true),[]⟩,
 ⟨some 187,.addo (.t 12) 1,some (185,true),[]⟩,
 ⟨some 188,.ld (.t 187) 1 false,some (185,true),[]⟩,
 ⟨some 189,.bin .geq (.t 186) (.t 188),some (185,true),[]⟩,
 ⟨some 190,.mv (.t 189),some (185,true),[]⟩,
 ⟨some 191,.mv (.t 18),some (190,false),[]⟩,
 ⟨some 192,.mv (.t 19),some (190,false),[]⟩,
 ⟨some 193,.calv (.t 191) [.t 192],some (190,false),[]⟩,
 ⟨some 194,.un .not (.t 193),some (190,false),[]⟩,
 ⟨some 195,.pick (.t 190) (.c (.bool true)) (.t 194),some (185,true),[]⟩,
 ⟨some 196,.pick (.t 185) (.t 195) (.c (.bool false)),none,[]⟩,
 ⟨some 10,.mv (.t 196),none,[]⟩])
 .ret)))))))))))))
end Go.Proofs.Ytkjldleglbbkeaa
set_option maxRecDepth 100000
set_option maxHeartbeats 4000000
namespace Go.Azalai
open Go.Sx
end Go.Azalai
namespace Go.Proofs.Ytkjldleglbbkeaa
open Go Go.Sx Go.Azalai
theorem natL_int (a:List Nat):a.map natL = (a.map fun n:Nat=>(n:Int)).map intL:=by simp [natL,intL,Function.comp_def]
end Go.Proofs.Ytkjldleglbbkeaa
set_option maxRecDepth 100000
set_option maxHeartbeats 4000000
namespace Go.Sx
open Go Go.RowKit
def RLW (l l':List SV):Prop:=∀ (w:World) (E:Env) (n ok:Nat → Prop) (ys:List Value),RL w E n ok l ys → RL w E n ok l' ys
theorem rlw_rfl {l:List SV}:RLW l l:=fun _ _ _ _ _ h=>h
theorem rlw_cons {s s':SV} {l l':List SV} (h1:Weak s s') (h2:RLW l l'):RLW (s :: l) (s' :: l'):=weak_cons h1 h2
theorem weak_agg {l l':List SV} (h:RLW l l'):Weak (.agg l) (.agg l'):=fun w E n ok y hy=>by
 simp only [R] at hy ⊢
 obtain ⟨cs,h1,h2⟩:=hy
 exact ⟨cs,h1,h _ _ _ _ _ h2⟩
def RRW:List (List SV) → List (List SV) → Prop
 | [],[]=>True
 | r :: xs,r' :: xs'=>RLW r r' ∧ r'.length = r.length ∧ RRW xs xs'
 | _,_=>False
theorem rrw_len:∀ {xs xs':List (List SV)},RRW xs xs' → xs'.length = xs.length
 | [],[],_=>rfl
 | _ :: xs,_ :: xs',h=>by simp [rrw_len h.2.2]
 | [],_ :: _,h=>h.elim
 | _ :: _,[],h=>h.elim
theorem rrw_RR {w:World} {E:Env} {n ok:Nat → Prop} {b m:Nat}:∀ {xs xs':List (List SV)} {off:Nat},RRW xs xs' → RR w E n ok b m xs off → RR w E n ok b m xs' off
 | [],[],_,_,h=>h
 | r :: xs,r' :: xs',off,hw,h=>by
  simp only [RR] at h ⊢
  obtain ⟨h0,⟨cs,h1,h2⟩,h3⟩:=h
  exact ⟨by rw [hw.2.1];exact h0,⟨cs,hw.1 _ _ _ _ _ h1,h2⟩,rrw_RR hw.2.2 h3⟩
 | [],_ :: _,_,h,_=>h.elim
 | _ :: _,[],_,h,_=>h.elim
theorem weak_slc {c:Bool} {m:Nat} {xs xs':List (List SV)} (h:RRW xs xs'):Weak (.sl c m xs) (.sl c m xs'):=fun w E n ok y hy=>by
 simp only [R] at hy ⊢
 obtain ⟨a,len,cap,h1,h2,h3,h4,h5⟩:=hy
 refine ⟨a,len,cap,h1,by rw [rrw_len h];exact h2,h3,by rw [rrw_len h];exact h4,?_⟩
 rcases h5 with h5 | ⟨b,off,h5,h6⟩
 · left
   have:=rrw_len h
   rw [h5] at this
   exact List.eq_nil_of_length_eq_zero this
 · exact .inr ⟨b,off,h5,rrw_RR h h6⟩
theorem weak_sl {c:Bool} {m:Nat} {xs xs':List (List SV)} (h:RRW xs xs'):Weak (.sl c m xs) (.sl false m xs'):=fun w E n ok y hy=>by
 simp only [R] at hy ⊢
 obtain ⟨a,len,cap,h1,h2,h3,h4,h5⟩:=hy
 refine ⟨a,len,cap,h1,by rw [rrw_len h];exact h2,⟨h3.1,fun h=>by cases h⟩,by rw [rrw_len h];exact h4,?_⟩
 rcases h5 with h5 | ⟨b,off,h5,h6⟩
 · left
   have:=rrw_len h
   rw [h5] at this
   exact List.eq_nil_of_length_eq_zero this
 · exact .inr ⟨b,off,h5,rrw_RR h h6⟩
end Go.Sx
namespace Go.Azalai
def exLand:Land:=⟨[⟨0,0,0,⟨0,0⟩,0,⟨0,0⟩,0⟩,⟨90000,0,20,⟨1000,2000⟩,10000,⟨3000,5000⟩,0⟩,⟨140000,0,0,⟨0,0⟩,0,⟨0,0⟩,0⟩],
 [⟨0,1,⟨90000,100000⟩,[⟨⟨5,7⟩,⟨20,30⟩⟩]⟩,⟨1,2,⟨50000,50000⟩,[⟨⟨0,0⟩,⟨12,13⟩⟩,⟨⟨18,18⟩,⟨40,50⟩⟩]⟩,⟨0,2,⟨200000,240000⟩,[⟨⟨0,0⟩,⟨99,99⟩⟩]⟩]⟩
def exPace:Span:=⟨20000,30000⟩
theorem ex_small:Small exLand:=⟨by decide,by decide,by decide⟩
theorem ex_ok:OkLP exLand exPace:=⟨by decide,by decide⟩
theorem ex_days:daysF exLand 2 exPace = (⟨7,12⟩,0):=by decide
theorem ex_leave:leaveF exLand 0 6 exPace = (⟨6,7⟩,0):=by decide
theorem ex_walk:walkF exLand exPace 0 6 [0,1] = ([⟨0,1,⟨6,7⟩,⟨9,12⟩⟩,⟨1,2,⟨9,18⟩,⟨11,21⟩⟩],0,0):=by decide
theorem ex_ways:waysF exLand exPace 0 2 6 21 = [[0,1],[2]]:=by decide
theorem ex_water:waterF exLand 1 [⟨1,0,4000⟩] 2 = (⟨1000,5000⟩,0,0):=by decide
def exD (k:Bool) (v:Int):Int:=if v = 0 then 6 else if v = 1 then (if k then 12 else 9) else if v = 2 then (if k then 18 else 11) else 100001
theorem ex_reachV (k:Bool) (v:Int):reachV k exLand exPace 0 6 v = exD k v:=by
 refine (reach_eq (k:=k) (s:=0) (day:=6) ex_ok (by decide) (by decide) (by decide) (by decide) (d:=exD k) (by cases k <;> decide) ?_ ?_ ?_ v).symm
 · cases k <;> (intro x hx;simp only [exLand,List.mem_cons,List.not_mem_nil,or_false] at hx;rcases hx with rfl | rfl | rfl <;> decide)
 · intro v;unfold exD;repeat' split
   all_goals decide
 · intro v
   unfold exD
   split
   · rename_i h;subst h;exact .inr ⟨[],by cases k <;> decide⟩
   · split
     · rename_i h;subst h;exact .inr ⟨[0],by cases k <;> decide⟩
     · split
       · rename_i h;subst h
         cases k
         · exact .inr ⟨[0,1],by decide⟩
         · exact .inr ⟨[2],by decide⟩
       · exact .inl rfl
theorem ex_reach:reachL exLand exPace 0 6 = [⟨6,6⟩,⟨9,12⟩,⟨11,18⟩]:=by
 have h:exLand.wells.length = 3:=rfl
 simp only [reachL,reachF,h,ex_reachV]
 decide
theorem ex_reachE:reachE exLand exPace 0 6 = 0:=by decide
theorem ex_sure:sureL exLand exPace 0 2 6 = [2]:=by
 have hr:reachV true exLand exPace 0 6 2 = 18:=by rw [ex_reachV];decide
 refine sureL_eq ⟨by rw [hr];decide,fun b hb=>?_⟩
 rw [hr] at hb
 match b,hb with
 | [],hb=>exact absurd hb (by decide)
 | [i],hb =>
  refine .inr ⟨rfl,?_⟩
  match i,hb with
  | 0,hb=>exact absurd hb (by decide)
  | 1,hb=>exact absurd hb (by decide)
  | i + 2,_=>simp [lexB]
 | _ :: _ :: _,_=>exact .inl (by simp)
theorem ex_waysE:waysE exLand exPace 0 2 6 21 = 0:=by decide
end Go.Azalai
namespace Go.Proofs.Ytkjldleglbbkeaa
open Go Go.Sx Go.Azalai
theorem ex_sureE:sureE exLand exPace 0 2 6 = 0:=by
 have h1:askF exLand exPace = 0:=by decide
 have hr:reachV true exLand exPace 0 6 2 = 18:=by rw [ex_reachV];decide
 unfold sureE
 rw [hr,if_neg (by rw [h1];decide),if_neg (by decide),if_neg (by decide)]
theorem span_ok (a b:Int):Ct Try.prog 50 [I a,I b] (.agg (spanL ⟨a,b⟩)):=by
 refine t50 (by simp [KFR,KFL,KF]) (by simp [spanL,KFL,KF]) ?_
 dsimp only [c50,r50,go_sem,rA,rM,rS]
 rfl
theorem pace_ok:Ct Try.prog 57 [] (.agg (spanL exPace)):=by
 refine t57 (by simp [KFR,KFL,KF]) (by simp [spanL,exPace,KFL,KF]) ?_
 dsimp only [c57,r57,go_sem,rA,rM,rS]
 refine call (span_ok _ _) ?_
 dsimp only [spanL,go_sem,rA,rM,rS]
 rfl
theorem u56 {args:List SV} {res:SV} (ka:KFL args) (kr:KF res) (h:sx Try.prog Y0 0 c56 (st0 args 28) (retW r56 res)) (hA:Nat.ble args.length 28 = true:=by rfl):Ct Try.prog 56 args res:=ct_introW Try.func56 rfl b56 c56_ok r56_ok n56 (Nat.le_of_ble_eq_true hA) ka kr h
theorem exland_ok:Ct Try.prog 56 [] (.agg (landL exLand)):=by
 refine u56 (by simp [KFR,KFL,KF]) (by simp [landL,wellL,legL,gateL,exLand,KFR,KFL,KF]) ?_
 dsimp only [c56,r56,go_sem,rA,rM,rS]
 repeat (refine call (span_ok _ _) ?_;dsimp only [spanL,go_sem,rA,rM,rS])
 refine ⟨_,rfl,weak_agg (rlw_cons weak_c (rlw_cons (weak_sl ?_) rlw_rfl))⟩
 refine ⟨?_,rfl,?_,rfl,?_,rfl,trivial⟩ <;>
  exact rlw_cons Weak.rfl (rlw_cons Weak.rfl (rlw_cons Weak.rfl (rlw_cons Weak.rfl (rlw_cons weak_c rlw_rfl))))
theorem lists_ok (a b:List (List Nat)) (ha:a.length ≤ 1000000) (hb:b.length ≤ 1000000) (h1:∀ x ∈ a,x.length ≤ 1000000) (h2:∀ x ∈ b,x.length ≤ 1000000) (c c':Bool):Ct Try.prog 31 [.sl c 1 (a.map rowW),.sl c' 1 (b.map rowW)] (B (decide (a = b))):=by
 refine t31 (by simp [KFR_iff,rowW,wayS,natL,KFL,KF]) (by simp [KFL,KF]) ?_
 dsimp only [c31,r31,go_sem,rA,rM,rS]
 simp only [List.length_map]
 by_cases hl:a.length = b.length
 case neg =>
  refine br_t (by simp;omega) ?_
  dsimp only [go_sem,rA,rM,rS]
  have:a ≠ b:=fun e=>hl (by rw [e])
  simp [this]
 refine br_f (by simp;omega) ?_
 dsimp only [go_sem,rA,rM,rS]
 refine loopO (fun j:Nat=>[(5,I j)]) (fun _=>[]) (fun j=>j ≤ a.length ∧ a.take j = b.take j) (fun j=>a.length - j) 0 ⟨Nat.zero_le _,rfl⟩ ?_ ?_
 · (refine ent_id ?_ ?_ ?_ rfl rfl <;> dsimp only [rowW,wayS,natL,KFR_iff,id,go_sem,rA,rM,rS] <;> simp [rowW,wayS,natL,KFR_iff,KFR_iff,KFR_app,KFR,KFL,KF,mtL_same,mtO,nbr])
 rintro j ⟨hj,ht⟩
 dsimp only [go_sem,rA,rM,rS]
 simp only [List.length_map]
 by_cases hlt:j < a.length
 · refine br_t (by simpa using hlt) ?_
   dsimp only [go_sem,rA,rM,rS]
   have hltb:j < b.length:=by omega
   refine ixs_map j hlt rfl ?_
   dsimp only [rowW,go_sem,rA,rM,rS]
   refine ixs_map j hltb rfl ?_
   dsimp only [rowW,go_sem,rA,rM,rS]
   have hc:=same40_ok (a[j].map fun n:Nat=>(n:Int)) (b[j].map fun n:Nat=>(n:Int)) (by rw [List.length_map];exact h1 _ (List.getElem_mem _)) (by rw [List.length_map];exact h2 _ (List.getElem_mem _)) false false
   rw [← natL_int,← natL_int] at hc
   refine call hc ?_
   dsimp only [go_sem,rA,rM,rS]
   have hinj:(a[j].map (fun n:Nat=>(n:Int)) = b[j].map fun n:Nat=>(n:Int)) ↔ a[j] = b[j]:=⟨fun h=>List.map_inj_right (fun x y h=>Int.ofNat_inj.1 h) |>.1 h,fun h=>by rw [h]⟩
   by_cases he:a[j] = b[j]
   · refine br_f (by simp [he]) ?_
     dsimp only [go_sem,rA,rM,rS]
     rw [w64_in (n:=(j:Int) + 1) (by omega) (by omega)]
     refine ⟨j + 1,⟨hlt,?_⟩,by omega,?_⟩
     · rw [List.take_succ_eq_append_getElem hlt,List.take_succ_eq_append_getElem hltb,ht,he]
     (refine ent_id ?_ ?_ ?_ rfl rfl <;> dsimp only [rowW,wayS,natL,KFR_iff,id,go_sem,rA,rM,rS] <;> simp [rowW,wayS,natL,KFR_iff,KFR_iff,KFR_app,KFR,KFL,KF,mtL_same,mtO,nbr])
   · have hne:¬ (a[j].map (fun n:Nat=>(n:Int)) = b[j].map fun n:Nat=>(n:Int)):=fun h=>he (hinj.1 h)
     refine br_t (by rw [decide_eq_false hne];rfl) ?_
     dsimp only [go_sem,rA,rM,rS]
     have:a ≠ b:=fun e=>he (by subst e;rfl)
     simp [this]
 refine br_f (by simp;omega) ?_
 dsimp only [go_sem,rA,rM,rS]
 have:a = b:=by
  rw [List.take_of_length_le (by omega),List.take_of_length_le (by omega)] at ht
  exact ht
 simp [this]
end Go.Proofs.Ytkjldleglbbkeaa
set_option maxRecDepth 100000
set_option maxHeartbeats 8000000
namespace Go.Proofs.Ytkjldleglbbkeaa
open Go Go.Sx Go.Azalai
theorem alive_ok:Ct Try.prog 41 [] (B true):=by
 refine t41 (by simp [KFR,KFL,KF]) (by simp [KFL,KF]) ?_
 dsimp only [c41,r41,go_sem,rA,rM,rS]
 have k1:=wdays_ok exLand ex_small 2 exPace
 have k2:=wleave_ok exLand ex_small 0 6 exPace
 have k3:=wwalk_ok exLand ex_small 0 6 exPace [0,1] (by decide) true
 have k4:=wreach_ok exLand ex_small 0 6 exPace
 have k5:=wsurest_ok exLand ex_small 0 2 6 exPace
 have k6:=wways_ok exLand ex_small 0 2 6 21 exPace
 have k7:=(water_ok exLand ex_small 1 2 [⟨1,0,4000⟩] (by decide)).args (args0:=[.agg (landL exLand),I 1,.sl true 3 [[I 1,I 0,I 4000]],I 2]) (by simp [landL,wellL,legL,gateL,exLand,KFR,KFL,KF]) (rlw_cons Weak.rfl (rlw_cons Weak.rfl (rlw_cons weak_c rlw_rfl)))
 rw [ex_days] at k1
 rw [ex_leave] at k2
 rw [ex_walk] at k3
 rw [ex_reachE,ex_reach] at k4
 simp only [sureR,ex_sureE,ex_sure,rowsZ,if_true] at k5
 simp only [waysR,ex_waysE,ex_ways,rowsZ,if_true] at k6
 rw [ex_water] at k7
 simp only [rowsZ,if_true,walkR] at k3 k4
 refine call exland_ok ?_
 dsimp only [go_sem,rA,rM,rS]
 refine call pace_ok ?_
 dsimp only [go_sem,rA,rM,rS]
 refine call k1 ?_
 dsimp only [sres,spanL,go_sem,rA,rM,rS]
 refine call exland_ok ?_
 dsimp only [go_sem,rA,rM,rS]
 refine call pace_ok ?_
 dsimp only [go_sem,rA,rM,rS]
 refine call k2 ?_
 dsimp only [sres,spanL,go_sem,rA,rM,rS]
 refine call exland_ok ?_
 dsimp only [go_sem,rA,rM,rS]
 refine call pace_ok ?_
 dsimp only [go_sem,rA,rM,rS]
 refine call k3 ?_
 dsimp only [go_sem,rA,rM,rS]
 refine call exland_ok ?_
 dsimp only [go_sem,rA,rM,rS]
 refine call pace_ok ?_
 dsimp only [go_sem,rA,rM,rS]
 refine call k4 ?_
 dsimp only [go_sem,rA,rM,rS]
 refine call exland_ok ?_
 dsimp only [go_sem,rA,rM,rS]
 refine call pace_ok ?_
 dsimp only [go_sem,rA,rM,rS]
 refine call k5 ?_
 dsimp only [go_sem,rA,rM,rS]
 refine call exland_ok ?_
 dsimp only [go_sem,rA,rM,rS]
 refine call pace_ok ?_
 dsimp only [go_sem,rA,rM,rS]
 refine call k6 ?_
 dsimp only [go_sem,rA,rM,rS]
 refine call exland_ok ?_
 dsimp only [go_sem,rA,rM,rS]
 refine call k7 ?_
 dsimp only [wres,spanL,go_sem,rA,rM,rS]
 have q1:=same39_ok [⟨0,1,⟨6,7⟩,⟨9,12⟩⟩,⟨1,2,⟨9,18⟩,⟨11,21⟩⟩] [⟨0,1,⟨6,7⟩,⟨9,12⟩⟩,⟨1,2,⟨9,18⟩,⟨11,21⟩⟩] (by decide) (by decide) false true
 have q2:=same38_ok [⟨6,6⟩,⟨9,12⟩,⟨11,18⟩] [⟨6,6⟩,⟨9,12⟩,⟨11,18⟩] (by decide) (by decide) false true
 have q3:=same40_ok [2] [2] (by decide) (by decide) false true
 have q4:=(lists_ok [[0,1],[2]] [[0,1],[2]] (by decide) (by decide) (by decide) (by decide) false true).args (args0:=[.sl false 1 ([[0,1],[2]].map rowW),.sl true 1 [[.sl true 1 [[I 0],[I 1]]],[.sl true 1 [[I 2]]]]]) (by simp [KFR_iff,rowW,wayS,natL,KFR,KFL,KF]) (rlw_cons Weak.rfl (rlw_cons (weak_slc ⟨rlw_cons weak_c rlw_rfl,rfl,rlw_cons weak_c rlw_rfl,rfl,trivial⟩) rlw_rfl))
 simp only [decide_true] at q1 q2 q3 q4
 repeat (first | (refine gb ?_;dsimp only [go_sem,rA,rM,rS]) | (refine call (span_ok _ _) ?_;dsimp only [spanL,go_sem,rA,rM,rS]) | (refine call q1 ?_;dsimp only [go_sem,rA,rM,rS]) | (refine call q2 ?_;dsimp only [go_sem,rA,rM,rS]) | (refine call q3 ?_;dsimp only [go_sem,rA,rM,rS]) | (refine call q4 ?_;dsimp only [go_sem,rA,rM,rS]))
 simp
end Go.Proofs.Ytkjldleglbbkeaa
set_option maxRecDepth 100000
set_option maxHeartbeats 8000000
namespace Go.Azalai
def W32:={n:Int // 0 ≤ n ∧ n < 4294967296}
def atF (l:List W32) (i:Nat):Int:=match l[i % l.length]? with | some x=>x.val | none=>0
theorem atF_bd (l:List W32) (i:Nat):0 ≤ atF l i ∧ atF l i < 4294967296:=by
 unfold atF;split
 · rename_i x _;exact x.property
 · omega
def pickF (s:Span) (n:Int):Int:=s.lo + n.tmod (s.hi - s.lo + 1)
theorem pick_bd {s:Span} {n:Int} (h:s.lo ≤ s.hi) (hn:0 ≤ n):s.lo ≤ pickF s n ∧ pickF s n ≤ s.hi:=by
 have h1:=Int.tmod_nonneg (s.hi - s.lo + 1) hn
 have h2:=Int.tmod_lt_of_pos n (show 0 < s.hi - s.lo + 1 by omega)
 unfold pickF;omega
def readyF (l:Land) (p:Span):Bool:=!greatF l && okLand l && okPace p
theorem great_small {l:Land} (h:greatF l = false):Small l:=by
 simp only [greatF,Bool.or_eq_false_iff,decide_eq_false_iff_not,List.any_eq_false,decide_eq_true_eq] at h
 exact ⟨by omega,by omega,fun x hx=>by have:=h.2 x hx;omega⟩
structure Ready (l:Land) (p:Span):Prop where
 small:Small l
 ok:OkLP l p
theorem readyF_iff {l:Land} {p:Span} (h:readyF l p = true):Ready l p:=by
 simp only [readyF,Bool.and_eq_true,Bool.not_eq_true'] at h
 exact ⟨great_small h.1.1,⟨h.1.2,h.2⟩⟩
def mayG (o s:Gate → Int) (n m:Int) (l:List Gate):Bool:=l.any fun g=>decide (m ≥ o g) && decide (m + n - 1 ≤ s g)
theorem acc_le {n day:Int} {o s:Gate → Int} {t:Int} (ht:t ≤ 100000):∀ {l:List Gate} {a:Int},accL n day o s a l ≤ t ↔ a ≤ t ∨ ∃ g ∈ l,max day (o g) + n - 1 ≤ s g ∧ max day (o g) ≤ t
 | [],a=>by simp [accL]
 | g :: l,a=>by
  simp only [accL]
  rw [acc_le ht (l:=l)]
  simp only [List.mem_cons,exists_eq_or_imp]
  by_cases h:max day (o g) + n - 1 ≤ s g
  · rw [if_pos h]
    constructor
    · rintro (q | q)
      · by_cases ha:a ≤ t
        · exact .inl ha
        · exact .inr (.inl ⟨h,by omega⟩)
      · exact .inr (.inr q)
    · rintro (q | q | q)
      · exact .inl (by omega)
      · exact .inl (by have:=q.2;omega)
      · exact .inr q
  · rw [if_neg h]
    constructor
    · rintro (q | q)
      · exact .inl q
      · exact .inr (.inr q)
    · rintro (q | q | q)
      · exact .inl q
      · exact absurd q.1 h
      · exact .inr q
def oK (k:Bool) (g:Gate):Int:=bif k then g.opens.hi else g.opens.lo
def sK (k:Bool) (g:Gate):Int:=bif k then g.shuts.lo else g.shuts.hi
theorem leK_le {k:Bool} {x:Leg} {p:Span} {t u:Int} (h:GoodLeg x) (hp:okPace p = true) (hu:u ≤ 100000) :
 leK k x p t ≤ u ↔ ∃ g ∈ x.gates,max t (oK k g) + nK k x p - 1 ≤ sK k g ∧ max t (oK k g) ≤ u:=by
 rw [(leK_acc (k:=k) (t:=t) h hp).1,acc_le hu]
 constructor
 · rintro (q | q)
   · omega
   · exact q
 · exact fun q=>.inr q
theorem leK_bd {k:Bool} {x:Leg} {p:Span} {t:Int} (h:GoodLeg x) (hp:okPace p = true) (ht:t ≤ 100001):t ≤ leK k x p t ∧ leK k x p t ≤ 100001:=by
 have hn:=nK_bd (k:=k) h hp
 obtain ⟨_,a2,a3⟩:=leK_acc (k:=k) (t:=t) h hp
 have:=outL_ub (day:=t) (o:=fun g=>bif k then g.opens.hi else g.opens.lo) hn.1 a3
 refine ⟨?_,by omega⟩
 apply Classical.byContradiction
 intro q
 obtain ⟨g,hg,h1,h2⟩:=(leK_le (k:=k) (t:=t) (u:=leK k x p t) h hp (by omega)).1 (Int.le_refl _)
 omega
theorem up_enough {a b:Int} (ha:1 ≤ a) (hb:1 ≤ b):a ≤ (a + b - 1).tdiv b * b ∧ ((a + b - 1).tdiv b - 1) * b < a:=by
 rw [Int.tdiv_eq_ediv_of_nonneg (by omega)]
 have h1:=Int.emod_add_mul_ediv (a + b - 1) b
 have h2:=Int.emod_nonneg (a + b - 1) (show b ≠ 0 by omega)
 have h3:=Int.emod_lt_of_pos (a + b - 1) (show 0 < b by omega)
 rw [Int.sub_mul,Int.mul_comm ((a + b - 1) / b) b]
 omega
theorem nK_mono {x:Leg} {p:Span} (h:GoodLeg x) (hp:okPace p = true):nK false x p ≤ nK true x p:=by
 simp only [okPace,okSp,decide_eq_true_eq] at hp
 obtain ⟨h1,h2,h3,_,_⟩:=h
 simp only [nK,cond_true,cond_false,dayF]
 have u:=up_enough (a:=x.long.lo) (b:=p.hi) h1 (by omega)
 have v:=up_enough (a:=x.long.hi) (b:=p.lo) (by omega) (by omega)
 have w:0 ≤ (x.long.hi + p.lo - 1).tdiv p.lo:=Int.tdiv_nonneg (by omega) (by omega)
 generalize (x.long.lo + p.hi - 1).tdiv p.hi = A at *
 generalize (x.long.hi + p.lo - 1).tdiv p.lo = B at *
 have q:=Int.mul_le_mul_of_nonneg_left hp.2.1 w
 apply Classical.byContradiction
 intro hc
 have q2:B * p.hi ≤ (A - 1) * p.hi:=Int.mul_le_mul_of_nonneg_right (by omega) (by omega)
 omega
theorem leK_kind {x:Leg} {p:Span} {t:Int} (h:GoodLeg x) (hp:okPace p = true) (ht:t ≤ 100001):leK false x p t ≤ leK true x p t:=by
 have b0:=leK_bd (k:=false) h hp ht
 have b1:=leK_bd (k:=true) h hp ht
 have hn:=nK_mono h hp
 apply Classical.byContradiction
 intro q
 obtain ⟨g,hg,h1,h2⟩:=(leK_le (k:=true) (t:=t) (u:=leK true x p t) h hp (by omega)).1 (Int.le_refl _)
 have hm:=okGates_mem h.g2 (Int.le_refl _) g hg
 simp only [oK,sK,cond_true] at h1 h2
 exact q ((leK_le (k:=false) h hp (by omega)).2 ⟨g,hg,by simp only [oK,sK,cond_false];omega,by simp only [oK,cond_false];omega⟩)
end Go.Azalai
namespace Go.Proofs.Ytkjldleglbbkeaa
open Go Go.Sx Go.Azalai
def U32 (n:Int):SV:=.v (.int .u32 n)
def w32L (x:W32):List SV:=[U32 x.val]
theorem wf32 {n:Int} (h:(Lit.int .u32 n).wf = true):0 ≤ n ∧ n < 4294967296:=by
 simp only [Lit.wf,Bool.and_eq_true,decide_eq_true_eq] at h
 have e1:IntKind.u32.min = 0:=rfl
 have e2:IntKind.u32.max = 4294967295:=rfl
 omega
theorem at_ok (l:List W32) (i:Nat) (hl:l.length ≤ 9223372036854775807) (hi:i ≤ 1000000) (c:Bool):Ct Try.prog 46 [.sl c 1 (l.map w32L),I i] (U32 (atF l i)):=by
 refine t46 (by simp [KFR_iff,w32L,U32,KFL,KF]) (by simp [U32,KFL,KF]) ?_
 dsimp only [c46,r46,go_sem,rA,rM,rS]
 simp only [List.length_map]
 by_cases h0:l.length = 0
 · refine br_t (by simpa using h0) ?_
   dsimp only [go_sem,rA,rM,rS]
   have:l = []:=List.eq_nil_of_length_eq_zero h0
   subst this
   rfl
 refine br_f (by simpa using h0) ?_
 dsimp only [go_sem,rA,rM,rS]
 refine div0 (by simpa using h0) ?_
 dsimp only [go_sem,rA,rM,rS]
 have hlt:i % l.length < l.length:=Nat.mod_lt _ (by omega)
 simp only [List.length_map,divr]
 rw [show ((i:Int)).tmod (l.length:Int) = ((i % l.length:Nat):Int) from by rw [Int.tmod_eq_emod_of_nonneg (by omega)];rfl]
 refine ixs_map (i % l.length) hlt rfl ?_
 dsimp only [w32L,U32,go_sem,rA,rM,rS]
 unfold atF
 rw [List.getElem?_eq_getElem hlt]
theorem pick_ok (s:Span) (n:Int) (h1:0 ≤ s.lo) (h2:s.lo ≤ s.hi) (h3:s.hi ≤ 1000000000) (hn:0 ≤ n ∧ n < 4294967296):Ct Try.prog 45 [.agg (spanL s),U32 n] (I (s.lo + n.tmod (s.hi - s.lo + 1))):=by
 refine t45 (by simp [spanL,U32,KFL,KF]) (by simp [KFL,KF]) ?_
 dsimp only [c45,r45,spanL,U32,go_sem,rA,rM,rS]
 rw [w64_in (n:=n) (by omega) (by omega),w64_in (n:=s.hi - s.lo) (by omega) (by omega),w64_in (n:=s.hi - s.lo + 1) (by omega) (by omega)]
 refine div0 (by omega) ?_
 dsimp only [go_sem,rA,rM,rS]
 simp only [divr]
 have hr:0 ≤ n.tmod (s.hi - s.lo + 1) ∧ n.tmod (s.hi - s.lo + 1) < s.hi - s.lo + 1:=⟨Int.tmod_nonneg _ (by omega),Int.tmod_lt_of_pos _ (by omega)⟩
 generalize n.tmod (s.hi - s.lo + 1) = r at *
 rw [w64_in (n:=s.lo + r) (by omega) (by omega)]
theorem ready_ok (l:Land) (p:Span):Ct Try.prog 42 [.agg (landL l),.agg (spanL p)] (B (readyF l p)):=by
 refine t42 (by simp [landL,wellL,legL,gateL,spanL,KFR_iff,KFL,KF]) (by simp [KFL,KF]) ?_
 dsimp only [c42,r42,landL,spanL,go_sem,rA,rM,rS]
 refine call (great_ok l) ?_
 dsimp only [go_sem,rA,rM,rS]
 cases h:greatF l
 · have hs:=great_small h
   refine gb_run rfl ?_
   dsimp only [go_sem,rA,rM,rS]
   refine gb_run rfl ?_
   dsimp only [go_sem,rA,rM,rS]
   refine call (checkR_ok l hs) ?_
   dsimp only [go_sem,rA,rM,rS]
   refine gb_run rfl ?_
   dsimp only [go_sem,rA,rM,rS]
   cases h2:okLand l
   · rw [show readyF l p = false from by simp [readyF,h,h2]]
     simp only [Bool.false_eq_true,if_false,Bool.not_false,Bool.true_and,show ((30:Int) == 0) = false from rfl]
     repeat (refine gb_skip (by decide) ?_;dsimp only [go_sem,rA,rM,rS])
   · refine gb_run rfl ?_
     dsimp only [go_sem,rA,rM,rS]
     refine gb_run rfl ?_
     dsimp only [go_sem,rA,rM,rS]
     refine call (paceR_ok p) ?_
     dsimp only [go_sem,rA,rM,rS]
     simp [readyF,h,h2]
 · rw [show readyF l p = false from by simp [readyF,h]]
   repeat (refine gb_skip (by decide) ?_;dsimp only [go_sem,rA,rM,rS])
end Go.Proofs.Ytkjldleglbbkeaa
set_option maxRecDepth 100000
set_option maxHeartbeats 4000000
namespace Go.Azalai
theorem arrK_kind {x:Leg} {p:Span} {t t':Int} (h:GoodLeg x) (hp:okPace p = true) (ht:t ≤ t') (ht':t' ≤ 100001):arrK false x p t ≤ arrK true x p t':=by
 have h1:=arrK_mono (k:=false) h hp ht
 have h2:=leK_kind (t:=t') h hp ht'
 have h3:=nK_mono h hp
 simp only [arrK] at *;omega
def Trk (l:Land) (p:Span):Int → Int → Int → List Int → List Stop → Prop
 | _,_,_,[],[]=>True
 | v,a,b,i :: r,s :: ss=>∃ (k:Nat) (x:Leg),i = k ∧ l.legs[k]? = some x ∧ 0 ≤ otherF x v ∧ arrK true x p b ≤ 100000 ∧
  s = ⟨k,otherF x v,⟨leK false x p a,leK true x p b⟩,⟨arrK false x p a,arrK true x p b⟩⟩ ∧ Trk l p (otherF x v) (arrK false x p a) (arrK true x p b) r ss
 | _,_,_,_,_=>False
theorem Trk.len {l:Land} {p:Span}:∀ {legs:List Int} {ss:List Stop} {v a b:Int},Trk l p v a b legs ss → ss.length = legs.length
 | [],[],_,_,_,_=>rfl
 | i :: r,s :: ss,_,_,_,h=>by obtain ⟨_,_,_,_,_,_,_,h⟩:=h;simp [h.len]
 | [],_ :: _,_,_,_,h=>h.elim
 | _ :: _,[],_,_,_,h=>h.elim
theorem Trk.at {l:Land} {p:Span} (h:OkLP l p):∀ {legs:List Int} {ss:List Stop} {v a b:Int},Trk l p v a b legs ss → a ≤ b → b ≤ 100000 → ∀ (i:Nat) (s:Stop),ss[i]? = some s →
 ∃ c:List Nat,c.length = i + 1 ∧ legs.take (i + 1) = c.map (fun n:Nat=>(n:Int)) ∧ goW true l p v b c = some (s.well,s.arrives.hi) ∧ goW false l p v a c = some (s.well,s.arrives.lo)
 | [],[],_,_,_,_,_,_,i,s,hs=>by simp at hs
 | j :: r,s0 :: ss,v,a,b,q,hab,hb,i,s,hs=>by
  obtain ⟨k,x,rfl,hx,ho,hr,rfl,q⟩:=q
  have hm:=arrK_kind (h.leg hx) h.pace hab (by omega)
  cases i with
  | zero =>
   simp only [List.getElem?_cons_zero,Option.some.injEq] at hs
   subst hs
   refine ⟨[k],rfl,by simp,?_,?_⟩
   · simp only [goW,hx];rw [if_neg (by omega),if_neg (by omega)]
   · simp only [goW,hx];rw [if_neg (by omega),if_neg (by omega)]
  | succ i =>
   simp only [List.getElem?_cons_succ] at hs
   obtain ⟨c,h1,h2,h3,h4⟩:=Trk.at h q hm hr i s hs
   refine ⟨k :: c,by simp [h1],by simp [h2],?_,?_⟩
   · simp only [goW,hx];rw [if_neg (by omega),if_neg (by omega)];exact h3
   · simp only [goW,hx];rw [if_neg (by omega),if_neg (by omega)];exact h4
 | [],_ :: _,_,_,_,q,_,_,_,_,_=>q.elim
 | _ :: _,[],_,_,_,q,_,_,_,_,_=>q.elim
theorem Gr.ends {l:Land} {p:Span} {s day to best:Int} {n0:Nat} (hg:OkLP l p) (hd:0 ≤ day) (hd':day ≤ 100000) (h0:0 ≤ s) (h1:s < l.wells.length) (hb:best = reachV true l p s day to) (hb':best ≤ 100000) :
 ∀ {n:Nat} {v t:Int} {out:List Nat},Gr l p s day to best n0 n v t out → ∃ v' t' out',Gr l p s day to best n0 0 v' t' out'
 | 0,v,t,out,h=>⟨v,t,out,h⟩
 | n + 1,v,t,out,h=>by
  obtain ⟨i,_,hf⟩:=h.ex hg hd hd' h0 h1 hb hb'
  obtain ⟨m,⟨x,g1,g2,g3,g4⟩,hm⟩:=Go.Sx.least_ex (fun i=>Fit l p to best n v t i) ⟨i,hf⟩
  exact Gr.ends hg hd hd' h0 h1 hb hb' (h.step hg hd hd' h0 h1 hb g1 g2 g3 g4 fun j hj hq=>by have:=hm j hq;omega)
end Go.Azalai
set_option maxRecDepth 100000
set_option maxHeartbeats 4000000
namespace Go.Azalai
def gatedF (by':List W32) (i:Nat):Nat → List Gate → List Gate
 | _,[]=>[]
 | k,g :: r =>
  let a:=pickF g.opens (atF by' (2 * i + 3 * k))
  let b:=pickF g.shuts (atF by' (2 * i + 3 * k + 1))
  if a ≤ b then ⟨⟨a,a⟩,⟨b,b⟩⟩ :: gatedF by' i (k + 1) r else gatedF by' i (k + 1) r
def firstG (day n:Int) (l:List Gate):Int:=accL n day (fun g=>g.opens.lo) (fun g=>g.shuts.lo) 100001 l
def goneF (day n:Int) (l:List Gate):Int:=min 100001 (firstG day n l + n)
theorem up_mono {a a' b b':Int} (ha:1 ≤ a) (haa:a ≤ a') (hb:1 ≤ b) (hbb:b ≤ b'):(a + b' - 1).tdiv b' ≤ (a' + b - 1).tdiv b:=by
 have u:=up_enough (a:=a) (b:=b') ha (by omega)
 have v:=up_enough (a:=a') (b:=b) (by omega) hb
 have w:0 ≤ (a' + b - 1).tdiv b:=Int.tdiv_nonneg (by omega) (by omega)
 generalize (a + b' - 1).tdiv b' = A at *
 generalize (a' + b - 1).tdiv b = B at *
 have q:=Int.mul_le_mul_of_nonneg_left hbb w
 apply Classical.byContradiction
 intro hc
 have q2:B * b' ≤ (A - 1) * b':=Int.mul_le_mul_of_nonneg_right (by omega) (by omega)
 omega
theorem nK_in {x:Leg} {p:Span} (h:GoodLeg x) (hp:okPace p = true) {a q:Int} (h1:x.long.lo ≤ a) (h2:a ≤ x.long.hi) (h3:p.lo ≤ q) (h4:q ≤ p.hi) :
 nK false x p ≤ (a + q - 1).tdiv q ∧ (a + q - 1).tdiv q ≤ nK true x p:=by
 simp only [okPace,okSp,decide_eq_true_eq] at hp
 obtain ⟨l1,l2,l3,_,_⟩:=h
 simp only [nK,cond_true,cond_false,dayF]
 exact ⟨up_mono l1 h1 (by omega) h4,up_mono (by omega) h2 (by omega) h3⟩
end Go.Azalai
namespace Go.Azalai
theorem reach_le2 {k:Bool} {l l':Land} {p p':Span} (h:OkLP l p) (h':OkLP l' p') (hw:l'.wells.length = l.wells.length) {s day day' v:Int} (hd:0 ≤ day) (hdd:day ≤ day') (hd':day' ≤ 100000) (h0:0 ≤ s) (h1:s < l.wells.length)
 (hx:∀ x' ∈ l'.legs,∃ x ∈ l.legs,x.a = x'.a ∧ x.b = x'.b ∧ ∀ t,t ≤ 100001 → arrK k x p t ≤ arrK k x' p' t):reachV k l p s day v ≤ reachV k l' p' s day' v:=by
 have hb:=fun v=>reachV_bd (k:=k) (v:=v) h hd (by omega) h0 h1
 have hc:Closed k l' p' (reachV k l p s day):=fun x' hx'=>by
  obtain ⟨x,hm,e1,e2,e3⟩:=hx x' hx'
  have:=reachV_closed (k:=k) h hd (by omega) h0 h1 x hm
  rw [e1,e2] at this
  have q1:=e3 (reachV k l p s day x'.a) (hb _).2
  have q2:=e3 (reachV k l p s day x'.b) (hb _).2
  omega
 rcases reachV_real (k:=k) (l:=l') (p:=p') (s:=s) (day:=day') (v:=v) with e | ⟨a,e⟩
 · have:=hb v;omega
 · exact closed_go h' hc e (by rw [reachV_start h hd (by omega) h0 h1];exact hdd)
theorem arr_le2 {k:Bool} {x y:Leg} {p q:Span} (hx:GoodLeg x) (hy:GoodLeg y) (hp:okPace p = true) (hq:okPace q = true) (hn:nK k x p ≤ nK k y q) (hg:∀ g ∈ y.gates,∃ f ∈ x.gates,oK k f ≤ oK k g ∧ sK k g ≤ sK k f) {t:Int} (ht:t ≤ 100001):arrK k x p t ≤ arrK k y q t:=by
 have b1:=arrK_bd (k:=k) hx hp ht
 have b2:=arrK_bd (k:=k) hy hq ht
 have h1:=nK_bd (k:=k) hx hp
 have key:leK k x p t ≤ leK k y q t:=by
  by_cases hu:leK k y q t ≤ 100000
  · obtain ⟨g,hm,q1,q2⟩:=(leK_le (k:=k) (t:=t) (u:=leK k y q t) hy hq hu).1 (Int.le_refl _)
    obtain ⟨f,hf,q3,q4⟩:=hg g hm
    exact (leK_le hx hp hu).2 ⟨f,hf,by omega,by omega⟩
  · omega
 simp only [arrK];omega
def innG (g f:Gate):Prop:=f.opens.lo ≤ g.opens.lo ∧ g.opens.lo ≤ g.opens.hi ∧ g.opens.hi ≤ f.opens.hi ∧ f.shuts.lo ≤ g.shuts.lo ∧ g.shuts.lo ≤ g.shuts.hi ∧ g.shuts.hi ≤ f.shuts.hi ∧ g.opens.lo ≤ g.shuts.hi
theorem okGates_inn:∀ {l l':List Gate} {n n':Int},okGates n l = true → n' ≤ n → l'.length = l.length → (∀ (i:Nat) (g f:Gate),l'[i]? = some g → l[i]? = some f → innG g f) → okGates n' l' = true
 | [],[],_,_,_,_,_,_=>rfl
 | [],_ :: _,_,_,_,_,h,_=>by simp at h
 | _ :: _,[],_,_,_,_,h,_=>by simp at h
 | f :: l,g :: l',n,n',h,hn,hl,hi=>by
  have h0:=hi 0 g f rfl rfl
  unfold innG at h0
  simp only [okGates,Bool.and_eq_true,okSp,inR,decide_eq_true_eq] at h ⊢
  exact ⟨by omega,okGates_inn h.2 (by omega) (by simpa using hl) (fun i=>by have:=hi (i + 1);simpa using this)⟩
structure InnX (y x:Leg):Prop where
 a:y.a = x.a
 b:y.b = x.b
 lo:x.long.lo ≤ y.long.lo
 md:y.long.lo ≤ y.long.hi
 hi:y.long.hi ≤ x.long.hi
 len:y.gates.length = x.gates.length
 gts:∀ (i:Nat) (g f:Gate),y.gates[i]? = some g → x.gates[i]? = some f → innG g f
theorem InnX.ok {y x:Leg} {n:Int} (h:InnX y x) (hx:okLeg n x = true):okLeg n y = true:=by
 obtain ⟨a,b,lo,md,hi,len,gts⟩:=h
 simp only [okLeg,Bool.and_eq_true,okSp,decide_eq_true_eq,bne_iff_ne,ne_eq] at hx ⊢
 rw [a,b,len]
 exact ⟨⟨⟨hx.1.1.1,by omega⟩,hx.1.2⟩,okGates_inn hx.2 (Int.le_refl _) len gts⟩
theorem InnX.gate {y x:Leg} (h:InnX y x):(∀ g ∈ y.gates,∃ f ∈ x.gates,innG g f) ∧ ∀ f ∈ x.gates,∃ g ∈ y.gates,innG g f:=by
 constructor
 · intro g hg
   obtain ⟨i,hi⟩:=List.mem_iff_getElem?.1 hg
   have hl:i < x.gates.length:=by have:=(List.getElem?_eq_some_iff.1 hi).1;have:=h.len;omega
   exact ⟨x.gates[i],List.getElem_mem _,h.gts i g _ hi (List.getElem?_eq_getElem hl)⟩
 · intro f hf
   obtain ⟨i,hi⟩:=List.mem_iff_getElem?.1 hf
   have hl:i < y.gates.length:=by have:=(List.getElem?_eq_some_iff.1 hi).1;have:=h.len;omega
   exact ⟨y.gates[i],List.getElem_mem _,h.gts i _ f (List.getElem?_eq_getElem hl) hi⟩
structure InnL (m l:Land):Prop where
 wells:m.wells = l.wells
 len:m.legs.length = l.legs.length
 legs:∀ (i:Nat) (y x:Leg),m.legs[i]? = some y → l.legs[i]? = some x → InnX y x
theorem InnL.ok {m l:Land} (h:InnL m l) (hl:okLand l = true):okLand m = true:=by
 simp only [okLand,Bool.and_eq_true,List.all_eq_true,decide_eq_true_eq] at hl ⊢
 rw [h.wells,h.len]
 refine ⟨hl.1,fun y hy=>?_⟩
 obtain ⟨i,hi⟩:=List.mem_iff_getElem?.1 hy
 have hlt:i < l.legs.length:=by have:=(List.getElem?_eq_some_iff.1 hi).1;have:=h.len;omega
 exact (h.legs i y _ hi (List.getElem?_eq_getElem hlt)).ok (hl.2 _ (List.getElem_mem _))
theorem narrow_law {m l:Land} {p q:Span} (h:InnL m l) (hl:OkLP l p) (hq1:p.lo ≤ q.lo) (hq2:q.lo ≤ q.hi) (hq3:q.hi ≤ p.hi) {s day v:Int} (hd:0 ≤ day) (hd':day ≤ 100000) (h0:0 ≤ s) (h1:s < l.wells.length) :
 OkLP m q ∧ reachV false l p s day v ≤ reachV false m q s day v ∧ reachV true m q s day v ≤ reachV true l p s day v:=by
 have hm:OkLP m q:=⟨h.ok hl.land,by have:=hl.pace;simp only [okPace,okSp,decide_eq_true_eq] at this ⊢;omega⟩
 have hgl:∀ x ∈ l.legs,GoodLeg x:=fun x hx=>okLand_leg hl.land x hx
 have hgm:∀ x ∈ m.legs,GoodLeg x:=fun x hx=>okLand_leg hm.land x hx
 refine ⟨hm,reach_le2 hl hm (by rw [h.wells]) hd (Int.le_refl _) hd' h0 h1 fun y hy=>?_,reach_le2 hm hl (by rw [h.wells]) hd (Int.le_refl _) hd' h0 (by rw [h.wells];exact h1) fun x hx=>?_⟩
 · obtain ⟨i,hi⟩:=List.mem_iff_getElem?.1 hy
   have hlt:i < l.legs.length:=by have:=(List.getElem?_eq_some_iff.1 hi).1;have:=h.len;omega
   have hin:=h.legs i y _ hi (List.getElem?_eq_getElem hlt)
   refine ⟨l.legs[i],List.getElem_mem _,hin.a.symm,hin.b.symm,fun t ht=>arr_le2 (hgl _ (List.getElem_mem _)) (hgm y hy) hl.pace hm.pace ?_ (fun g hg=>?_) ht⟩
   · have:=(nK_in (hgl _ (List.getElem_mem hlt)) hl.pace (a:=y.long.lo) (q:=q.hi) hin.lo (by have:=hin.md;have:=hin.hi;omega) (by omega) hq3).1
     exact this
   · obtain ⟨f,hf,q⟩:=hin.gate.1 g hg
     unfold innG at q
     exact ⟨f,hf,by simp only [oK,cond_false];omega,by simp only [sK,cond_false];omega⟩
 · obtain ⟨i,hi⟩:=List.mem_iff_getElem?.1 hx
   have hlt:i < m.legs.length:=by have:=(List.getElem?_eq_some_iff.1 hi).1;have:=h.len;omega
   have hin:=h.legs i _ x (List.getElem?_eq_getElem hlt) hi
   refine ⟨m.legs[i],List.getElem_mem _,hin.a,hin.b,fun t ht=>arr_le2 (hgm _ (List.getElem_mem _)) (hgl x hx) hm.pace hl.pace ?_ (fun g hg=>?_) ht⟩
   · have:=(nK_in (hgl x hx) hl.pace (a:=m.legs[i].long.hi) (q:=q.lo) (by have:=hin.lo;have:=hin.md;omega) hin.hi hq1 (by omega)).2
     exact this
   · obtain ⟨f,hf,q⟩:=hin.gate.2 g hg
     unfold innG at q
     exact ⟨f,hf,by simp only [oK,cond_true];omega,by simp only [sK,cond_true];omega⟩
theorem sooner_law {l:Land} {p:Span} (hl:OkLP l p) {k:Bool} {s day day' v:Int} (hd:0 ≤ day') (hdd:day' ≤ day) (hd':day ≤ 100000) (h0:0 ≤ s) (h1:s < l.wells.length):reachV k l p s day' v ≤ reachV k l p s day v :=
 reach_le2 hl hl rfl hd hdd hd' h0 h1 fun x hx=>⟨x,hx,rfl,rfl,fun _ _=>Int.le_refl _⟩
theorem okGates_os:∀ {l:List Gate} {n:Int},okGates n l = true → ∀ g ∈ l,g.opens.lo ≤ g.shuts.hi
 | [],_,_,g,hg=>by simp at hg
 | f :: l,n,h,g,hg=>by
  simp only [okGates,Bool.and_eq_true,okSp,inR,decide_eq_true_eq] at h
  rcases List.mem_cons.1 hg with rfl | hg
  · omega
  · exact okGates_os h.2 g hg
def partF (s:Span) (a b:Int):Span:=⟨pickF s a,pickF ⟨pickF s a,s.hi⟩ b⟩
theorem part_in {s:Span} {a b:Int} (h:s.lo ≤ s.hi) (ha:0 ≤ a) (hb:0 ≤ b):s.lo ≤ (partF s a b).lo ∧ (partF s a b).lo ≤ (partF s a b).hi ∧ (partF s a b).hi ≤ s.hi:=by
 have h1:=pick_bd h ha
 have h2:=pick_bd (s:=⟨pickF s a,s.hi⟩) (n:=b) h1.2 hb
 exact ⟨h1.1,h2.1,h2.2⟩
def narG (ns:List W32) (i k:Nat) (g:Gate):Gate :=
 if (partF g.opens (atF ns (4 * i + k + 2)) (atF ns (4 * i + k + 3))).lo ≤ (partF g.shuts (atF ns (4 * i + k + 1)) (atF ns (4 * i + k + 2))).hi then ⟨partF g.opens (atF ns (4 * i + k + 2)) (atF ns (4 * i + k + 3)),partF g.shuts (atF ns (4 * i + k + 1)) (atF ns (4 * i + k + 2))⟩ else g
theorem narG_in {ns:List W32} {i k:Nat} {g:Gate} (h1:g.opens.lo ≤ g.opens.hi) (h2:g.shuts.lo ≤ g.shuts.hi) (h3:g.opens.lo ≤ g.shuts.hi):innG (narG ns i k g) g:=by
 unfold narG innG
 split
 · have q1:=part_in h1 (atF_bd ns (4 * i + k + 2)).1 (atF_bd ns (4 * i + k + 3)).1
   have q2:=part_in h2 (atF_bd ns (4 * i + k + 1)).1 (atF_bd ns (4 * i + k + 2)).1
   simp only;omega
 · omega
def narX (ns:List W32) (i j:Nat) (x:Leg):Leg:=⟨x.a,x.b,partF x.long (atF ns (4 * i)) (atF ns (4 * i + 1)),x.gates.mapIdx fun k g=>if k < j then narG ns i k g else g⟩
def narL (ns:List W32) (j:Nat) (l:List Leg):List Leg:=l.mapIdx fun i x=>if i < j then narX ns i x.gates.length x else x
theorem narX_in {ns:List W32} {i:Nat} {x:Leg} (h:GoodLeg x):InnX (narX ns i x.gates.length x) x:=by
 have hl:=part_in (a:=atF ns (4 * i)) (b:=atF ns (4 * i + 1)) h.l2 (atF_bd _ _).1 (atF_bd _ _).1
 have hg:=okGates_mem h.g2 (Int.le_refl _)
 refine ⟨rfl,rfl,hl.1,hl.2.1,hl.2.2,by simp [narX],fun k g f e1 e2=>?_⟩
 simp only [narX,List.getElem?_mapIdx,e2,Option.map_some,Option.some.injEq] at e1
 have hk:=(List.getElem?_eq_some_iff.1 e2).1
 rw [if_pos hk] at e1
 subst e1
 have:=hg f (List.mem_of_getElem? e2)
 have:=okGates_os h.g2 f (List.mem_of_getElem? e2)
 exact narG_in (by omega) (by omega) (by omega)
theorem narL_in {ns:List W32} {l:Land} (h:∀ x ∈ l.legs,GoodLeg x):InnL ⟨l.wells,narL ns l.legs.length l.legs⟩ l:=by
 refine ⟨rfl,by simp [narL],fun i y x e1 e2=>?_⟩
 simp only [narL,List.getElem?_mapIdx,e2,Option.map_some,Option.some.injEq] at e1
 have hi:=(List.getElem?_eq_some_iff.1 e2).1
 rw [if_pos hi] at e1
 subst e1
 exact narX_in (h x (List.mem_of_getElem? e2))
theorem narX_glen (ns:List W32) (i j:Nat) (x:Leg):(narX ns i j x).gates.length = x.gates.length:=by simp [narX]
theorem narX_get {ns:List W32} {i j:Nat} {x:Leg} (hj:j < x.gates.length):(narX ns i j x).gates[j]? = some x.gates[j]:=by
 simp [narX,List.getElem?_mapIdx,List.getElem?_eq_getElem hj]
theorem narX_succ {ns:List W32} {i j:Nat} {x:Leg} (hj:j < x.gates.length):narX ns i (j + 1) x = ⟨(narX ns i j x).a,(narX ns i j x).b,(narX ns i j x).long,(narX ns i j x).gates.set j (narG ns i j x.gates[j])⟩:=by
 simp only [narX,Leg.mk.injEq,true_and]
 refine List.ext_getElem? fun q=>?_
 by_cases hq:q = j
 · subst hq
   rw [List.getElem?_set_self (by simpa using hj),List.getElem?_mapIdx,List.getElem?_eq_getElem hj]
   simp
 · rw [List.getElem?_set_ne (Ne.symm hq),List.getElem?_mapIdx,List.getElem?_mapIdx]
   cases x.gates[q]? with
   | none=>rfl
   | some g =>
    simp only [Option.map_some]
    by_cases h1:q < j
    · rw [if_pos h1,if_pos (by omega)]
    · rw [if_neg h1,if_neg (by omega)]
theorem narX_same {ns:List W32} {i j:Nat} {x:Leg} (hj:j < x.gates.length) (hg:narG ns i j x.gates[j] = x.gates[j]):narX ns i (j + 1) x = narX ns i j x:=by
 rw [narX_succ hj,hg]
 have e:(narX ns i j x).gates.set j x.gates[j] = (narX ns i j x).gates:=by
  refine List.ext_getElem? fun q=>?_
  by_cases hq:q = j
  · subst hq;rw [List.getElem?_set_self (by rw [narX_glen];exact hj),narX_get hj]
  · rw [List.getElem?_set_ne (Ne.symm hq)]
 rw [e]
theorem narX_zero (ns:List W32) (i:Nat) (x:Leg):narX ns i 0 x = ⟨x.a,x.b,partF x.long (atF ns (4 * i)) (atF ns (4 * i + 1)),x.gates⟩:=by
 simp only [narX,Leg.mk.injEq,true_and]
 refine List.ext_getElem? fun q=>?_
 rw [List.getElem?_mapIdx]
 cases x.gates[q]? <;> simp
theorem narL_len (ns:List W32) (j:Nat) (l:List Leg):(narL ns j l).length = l.length:=by simp [narL]
theorem narL_zero (ns:List W32) (l:List Leg):narL ns 0 l = l:=by
 refine List.ext_getElem? fun q=>?_
 rw [narL,List.getElem?_mapIdx]
 cases l[q]? <;> simp
theorem narL_get {ns:List W32} {i:Nat} {l:List Leg} (hi:i < l.length):(narL ns i l)[i]? = some l[i]:=by
 simp [narL,List.getElem?_mapIdx,List.getElem?_eq_getElem hi]
theorem narL_succ {ns:List W32} {i:Nat} {l:List Leg} (hi:i < l.length):narL ns (i + 1) l = (narL ns i l).set i (narX ns i l[i].gates.length l[i]):=by
 refine List.ext_getElem? fun q=>?_
 by_cases hq:q = i
 · subst hq
   rw [List.getElem?_set_self (by rw [narL_len];exact hi),narL,List.getElem?_mapIdx,List.getElem?_eq_getElem hi]
   simp
 · rw [List.getElem?_set_ne (Ne.symm hq),narL,narL,List.getElem?_mapIdx,List.getElem?_mapIdx]
   cases l[q]? with
   | none=>rfl
   | some g =>
    simp only [Option.map_some]
    by_cases h1:q < i
    · rw [if_pos h1,if_pos (by omega)]
    · rw [if_neg h1,if_neg (by omega)]
end Go.Azalai
namespace Go.Sx
open Go Go.RowKit
section
variable {g:Option (Nat × Bool)} {k v' m0 T o m' T':Nat} {xs:List (List SV)} {inn:List (List (List SV))} {d:Option Nat} {σ : St} {r:KT} {K:RK}
theorem rw_ix0 {j:Int} (n:Nat) (hi:j = (n:Int)) (hn:n < xs.length) (hk:putK d (.pr k v' m0 n 0) g σ r K) :
 ∃ i rows TT,v' = v' + i ∧ rwsAt k v' m0 xs T o m' inn T' i = some (m0,rows,TT) ∧ IXR g k v' m0 rows.length j d σ r K :=
 ⟨0,_,_,rfl,rfl,ixrm n hi (by rw [rwsX_len];exact hn) hk⟩
theorem rw_ixi {j:Int} {v:Nat} {rows:List (List SV)} (i n:Nat) (hv:v = v' + (i + 1)) (hr:inn[i]? = some rows) (hi:j = (n:Int)) (hn:n < rows.length) (hk:putK d (.pr k v m' n 0) g σ r K) :
 ∃ i rows TT,v = v' + i ∧ rwsAt k v' m0 xs T o m' inn T' i = some (m',rows,TT) ∧ IXR g k v m' rows.length j d σ r K :=
 ⟨i + 1,rows,T',hv,by simp only [rwsAt,hr],ixrm n hi hn hk⟩
theorem rw_ld0 {i oo m:Nat} {ag:Bool} {row:List SV} (hx:xs[i]? = some row) (hi:i < inn.length) (hk:putO (partS (row.set o (.mr k (v' + 1 + i))) oo m ag) d g σ r K) :
 ∃ a rows TT,v' = v' + a ∧ rwsAt k v' m0 xs T o m' inn T' a = some (m0,rows,TT) ∧ LDR g rows i oo m ag d σ r K :=
 ⟨0,_,_,rfl,rfl,row.set o (.mr k (v' + 1 + i)),impP_iff.2 fun _=>by rw [rwsX_get,if_pos hi,hx];rfl,hk⟩
theorem rw_ldi {v j oo m:Nat} {ag:Bool} {rows:List (List SV)} {row:List SV} (a:Nat) (hv:v = v' + (a + 1)) (hr:inn[a]? = some rows) (hx:rows[j]? = some row) (hk:putO (partS row oo m ag) d g σ r K) :
 ∃ a rows TT,v = v' + a ∧ rwsAt k v' m0 xs T o m' inn T' a = some (m',rows,TT) ∧ LDR g rows j oo m ag d σ r K :=
 ⟨a + 1,rows,T',hv,by simp only [rwsAt,hr],row,impP_iff.2 fun _=>hx,hk⟩
theorem rw_st0 {α : Type} {l:List α} {f:α → List SV} {h:α → List (List SV)} {j oo:Nat} {c:List SV} (y:α) (hj:j < l.length) (hb:oo + c.length ≤ (f l[j]).length) (hc:oo + c.length ≤ o ∨ o < oo) (he:splice (f l[j]) oo c = f y) (hh:h y = h l[j])
 (hk:r ⟨σ.fr,(k,.rws v' m0 ((l.set j y).map f) T o m' ((l.set j y).map h) T') :: σ.hp,σ.n,σ.N,σ.gs⟩ K):STW v' m0 (l.map f) T o m' (l.map h) T' v' m0 j oo k c σ r K:=by
 refine .inl ⟨rfl,rfl,f l[j],by simp [hj],hb,.inr hc,?_⟩
 rw [he,← List.map_set]
 have e:(l.set j y).map h = l.map h:=by
  rw [List.map_set,hh]
  refine List.ext_getElem? fun i=>?_
  by_cases hi:i = j
  · subst hi;rw [List.getElem?_set_self (by simpa using hj),List.getElem?_map,List.getElem?_eq_getElem hj];rfl
  · rw [List.getElem?_set_ne (Ne.symm hi)]
 rw [e] at hk
 exact hk
theorem rw_sti {α : Type} {l:List α} {f:α → List SV} {h:α → List (List SV)} {v j oo:Nat} {c row:List SV} (i:Nat) (y:α) (hv:v = v' + (i + 1)) (hi:i < l.length) (hr:(h l[i])[j]? = some row) (hb:oo + c.length ≤ row.length) (he:h y = (h l[i]).set j (splice row oo c)) (hf:f y = f l[i])
 (hk:r ⟨σ.fr,(k,.rws v' m0 ((l.set i y).map f) T o m' ((l.set i y).map h) T') :: σ.hp,σ.n,σ.N,σ.gs⟩ K):STW v' m0 (l.map f) T o m' (l.map h) T' v m' j oo k c σ r K:=by
 refine .inr ⟨i,h l[i],row,hv,rfl,by simp [hi],hr,hb,?_⟩
 rw [← he,← List.map_set]
 have e:(l.set i y).map f = l.map f:=by
  rw [List.map_set,hf]
  refine List.ext_getElem? fun q=>?_
  by_cases hq:q = i
  · subst hq;rw [List.getElem?_set_self (by simpa using hi),List.getElem?_map,List.getElem?_eq_getElem hi];rfl
  · rw [List.getElem?_set_ne (Ne.symm hq)]
 rw [e] at hk
 exact hk
end
theorem frzX_map {α : Type} {f:α → List SV} {h:α → List (List SV)} (o m':Nat):∀ l:List α,frzX o m' (l.map h) (l.map f) = l.map fun x=>(f x).set o (.sl false m' (h x))
 | []=>rfl
 | x :: l=>by simp only [List.map_cons,frzX,frzX_map o m' l]
theorem ent_frzw {m:Nat} {σ : St} (kb i k:Nat) {v:Nat} {l:List SV} {T1 mm T o m' T':Nat} {xs:List (List SV)} {inn:List (List (List SV))} (hm:Nat.ble m k = true) (hkb:lkh kb σ.hp = .cells l T1) (hl:l[i]? = some (.mr k v)) (hk:lkh k σ.hp = .rws v mm xs T o m' inn T') :
 Ent m σ ⟨σ.fr,(kb,.cells (l.set i (.sl false mm (frzX o m' inn xs))) T1) :: (k,.gone) :: σ.hp,σ.n,σ.N,σ.gs⟩:=fun C E a w hmc h=>by
 obtain ⟨g1,g2⟩:=HSim_gone h.hs k
 have hne:kb ≠ k:=by rintro rfl;rw [hk] at hkb;cases hkb
 have hk2:lkh kb ((k,.gone) :: σ.hp) = .cells l T1:=by rw [lkh_cons,if_neg hne];exact hkb
 have hocc:∀ b,occ E kb (.cells (l.set i (.sl false mm (frzX o m' inn xs))) T1) b ↔ occ E kb (lkh kb ((k,.gone) :: σ.hp)) b:=fun b=>by rw [hk2];rfl
 have hbk:=h.hs.bk k
 rw [hk] at hbk
 have hok:∀ i b,i ≤ inn.length → hdAt (E.hv k (v + i)) b → okS C E ((k,.gone) :: σ.hp) b:=fun i b hi hb=>by
  have hoc:occ E k (lkh k σ.hp) b:=by rw [hk];exact ⟨i,hi,hb⟩
  refine ⟨?_,fun j ho=>?_⟩
  · rcases h.hs.lo k b hoc with q | q
    · exact .inr q
    · have h1:=hmc.2 k b q;have h2:=hmc.1;have h3:=Nat.le_of_ble_eq_true hm;omega
  · rw [lkh_cons] at ho
    split at ho
    · exact ho.elim
    · exact absurd (h.hs.dj j k b ho hoc).symm (by omega)
 have hval:=rws_sl g2 hok hbk
 obtain ⟨h6,h7⟩:=HSim_store0 (hb:=.cells (l.set i (.sl false mm (frzX o m' inn xs))) T1) (B:=E.β kb) g1 hocc (by rw [hk2];rfl) ⟨rfl,rfl,rfl,rfl,fun _ _=>rfl⟩ (fun hst=>by
  have hb:=h.hs.bk kb
  rw [hkb] at hb
  simp only [HBok] at hb ⊢
  obtain ⟨cs,e1,e2⟩:=hb
  refine ⟨cs,e1,RL_map2 (f2_set1 (p:=fun s s'=>∀ y,R w E (ltn σ.n) (okS C E σ.hp) s y → R w E (ltn σ.n) (okS C E ((kb,.cells (l.set i (.sl false mm (frzX o m' inn xs))) T1) :: (k,.gone) :: σ.hp)) s' y)
   (fun s y hy=>R_mono hst.c (fun _ _=>Ele.rfl) (fun _ h=>h) _ _ (R_mono g2.c (fun _ _=>Ele.rfl) (fun _ h=>h) _ _ hy)) (fun y hy=>?_) hl) e2⟩
  have hy2:y = E.hv k v:=by simp only [R] at hy;exact hy.2.2.1
  rw [hy2]
  exact R_mono hst.c (fun _ _=>Ele.rfl) (fun _ h=>h) _ _ hval)
 have hst:Stays w w (okS C E σ.hp) (okS C E ((kb,.cells (l.set i (.sl false mm (frzX o m' inn xs))) T1) :: (k,.gone) :: σ.hp)):=fun b hb hs=>by
  obtain ⟨q1,q2⟩:=g2 b hb hs
  exact h7 b q1 hs
 exact ⟨E,Sim_same h hst (fun _ _=>Ele.rfl) (Nat.le_refl _) h6⟩
end Go.Sx
set_option maxRecDepth 100000
namespace Go.Proofs.Ytkjldleglbbkeaa
open Go Go.Sx
def cz21:SC:=(.seq (.reg [
 ⟨some 1,.box (.t 0) 0 25,none,[]⟩,
 ⟨some 2,.alloc [.slice none 0 0,.slice none 0 0] 25,none,[]⟩])
 (.gh (.seq (.reg [
 ⟨some 4,.bsl 9 109 [],none,[]⟩,
 ⟨some 5,.addo (.t 1) 0,none,[]⟩,
 ⟨some 6,.ld (.t 5) 1 false,none,[]⟩,
 ⟨some 7,.app 9 72 109 (.t 4) (.t 6),none,[]⟩,
 ⟨some 8,.addo (.t 1) 0,none,[]⟩,
 ⟨none,.st (.t 8) (.t 7) 1,none,[]⟩])
 (.gh (.seq (.reg [
 ⟨some 9,.bsl 5 86 [],none,[]⟩,
 ⟨some 10,.addo (.t 1) 1,none,[]⟩,
 ⟨some 11,.ld (.t 10) 1 false,none,[]⟩,
 ⟨some 12,.cln 5 56 86 (.t 9) (.t 11),none,[]⟩,
 ⟨some 13,.addo (.t 1) 1,none,[]⟩,
 ⟨none,.st (.t 13) (.t 12) 1,none,[]⟩])
 (.gh (.seq (.seq (.reg [
 ⟨some 3,.mv (.c (.int .i64 0)),none,[]⟩])
 (.gh (.block 0 (.loop (.seq (.seq (.reg [
  ⟨some 14,.mv (.t 3),none,[]⟩,
  ⟨some 15,.addo (.t 1) 1,none,[]⟩,
  ⟨some 16,.ld (.t 15) 1 false,none,[]⟩,
  ⟨some 17,.len (.t 16),none,[]⟩,
  ⟨some 18,.bin .lss (.t 14) (.t 17),none,[]⟩])
  (.gh (.cond (.t 18)
  .skip
  (.exit 0))))
  (.seq (.block 1 (.regd [0,1,2,3,4,5,6,7,8,9,10,11,12,13] [
   .op ⟨some 21,.addo (.t 1) 1,none,[]⟩,
   .op ⟨some 22,.ld (.t 21) 1 false,none,[0]⟩,
   .op ⟨some 23,.mv (.t 3),none,[]⟩,
   .op ⟨some 24,.bsl 4 95 [],none,[]⟩,
   .op ⟨some 25,.addo (.t 1) 1,none,[]⟩,
   .op ⟨some 26,.ld (.t 25) 1 false,none,[4]⟩,
   .op ⟨some 27,.mv (.t 3),none,[]⟩,
   .op ⟨some 28,.ixs (.t 26) (.t 27) 5,none,[5,6]⟩,
   .op ⟨some 29,.addo (.t 28) 4,none,[7]⟩,
   .op ⟨some 30,.ld (.t 29) 1 false,none,[8]⟩] 1 0 [
   ⟨some 31,.cln 4 32 95 (.t 24) (.t 30),none,[3,9]⟩,
   ⟨some 32,.ixs (.t 22) (.t 23) 5,none,[0,1,2,3,4,5,6,7,8,9,10]⟩,
   ⟨some 33,.addo (.t 32) 4,none,[0,1,2,3,4,5,6,7,8,9,10,11]⟩,
   ⟨none,.st (.t 33) (.t 31) 1,none,[0,1,2,3,4,5,6,7,8,9,10,12]⟩]))
  (.reg [
  ⟨some 19,.mv (.t 3),none,[]⟩,
  ⟨some 20,.bin .add (.t 19) (.c (.int .i64 1)),none,[]⟩,
  ⟨some 3,.mv (.t 20),none,[]⟩])))))))
 (.seq (.reg [
 ⟨some 34,.ld (.t 1) 2 true,none,[]⟩,
 ⟨none,.st (.t 2) (.t 34) 2,none,[]⟩])
 (.gh .ret)))))))))
def rz21:List RV:=[.cell 2 2 true]
theorem nz21:Try.f21.ntmps = 35:=by kernel_rfl
theorem bz21:bodyB Try.prog 21 = true:=by kernel_rfl
theorem cz21_ok:cmpC Try.prog cz21 ((Try.f21.body).getD .skip) = true:=by kernel_rfl
theorem rz21_ok:cmpR Try.prog rz21 Try.f21.results.toList = true:=by kernel_rfl
theorem mz21 {n0:Nat} {hp0:List (Nat × HB)} {args:List SV} {Post:Ot → Prop} (hh:hpb n0 hp0) (hx:∀ o,Post o → KX o.res ∧ KXP o.hp) (h:sx Try.prog Y0 n0 cz21 ⟨enum 0 args,hp0,n0,35,[]⟩ (retM rz21 fun o=>∃ o',Post o' ∧ EntO n0 o o')) (hA:Nat.ble args.length 35 = true:=by rfl):CtM Try.prog 21 hp0 n0 args Post:=ctm_intro Try.func21 rfl bz21 cz21_ok rz21_ok nz21 (Nat.le_of_ble_eq_true hA) hh hx h
def cz12:SC:=(.seq (.reg [
 ⟨some 6,.box (.t 0) 0 25,none,[]⟩,
 ⟨some 9,.box (.t 3) 0 29,none,[]⟩,
 ⟨some 12,.mv (.c (.bool false)),none,[]⟩])
 (.seq (.reg [
 ⟨some 28,.call 41 [],none,[]⟩,
 ⟨some 13,.mv (.t 28),none,[]⟩])
 (.seq (.seq (.reg [
 ⟨some 29,.mv (.t 13),none,[]⟩,
 ⟨some 30,.un .not (.t 29),none,[]⟩])
 (.cond (.t 30)
 (.seq (.reg [
  ⟨some 12,.mv (.c (.bool false)),none,[]⟩])
  .ret)
 .skip))
 (.seq (.seq (.reg [
 ⟨some 31,.ld (.t 6) 2 true,none,[]⟩,
 ⟨some 32,.ld (.t 9) 2 true,none,[]⟩,
 ⟨some 33,.call 42 [.t 31,.t 32],none,[]⟩,
 ⟨some 34,.un .not (.t 33),none,[]⟩,
 ⟨some 35,.mv (.t 34),none,[]⟩,
 ⟨some 36,.mv (.t 1),some (35,false),[]⟩,
 ⟨some 37,.bin .lss (.t 36) (.c (.int .i64 0)),some (35,false),[]⟩,
 ⟨some 38,.pick (.t 35) (.c (.bool true)) (.t 37),none,[]⟩,
 ⟨some 39,.mv (.t 38),none,[]⟩,
 ⟨some 40,.mv (.t 1),some (39,false),[]⟩,
 ⟨some 41,.addo (.t 6) 0,some (39,false),[]⟩,
 ⟨some 42,.ld (.t 41) 1 false,some (39,false),[]⟩,
 ⟨some 43,.len (.t 42),some (39,false),[]⟩,
 ⟨some 44,.bin .geq (.t 40) (.t 43),some (39,false),[]⟩,
 ⟨some 45,.pick (.t 39) (.c (.bool true)) (.t 44),none,[]⟩,
 ⟨some 46,.mv (.t 45),none,[]⟩,
 ⟨some 47,.mv (.t 2),some (46,false),[]⟩,
 ⟨some 48,.bin .lss (.t 47) (.c (.int .i64 0)),some (46,false),[]⟩,
 ⟨some 49,.pick (.t 46) (.c (.bool true)) (.t 48),none,[]⟩,
 ⟨some 50,.mv (.t 49),none,[]⟩,
 ⟨some 51,.mv (.t 2),some (50,false),[]⟩,
 ⟨some 52,.bin .gtr (.t 51) (.c (.int .i64 100000)),some (50,false),[]⟩,
 ⟨some 53,.pick (.t 50) (.c (.bool true)) (.t 52),none,[]⟩])
 (.cond (.t 53)
 (.seq (.reg [
  ⟨some 54,.mv (.t 13),none,[]⟩,
  ⟨some 12,.mv (.t 54),none,[]⟩])
  .ret)
 .skip))
 (.seq (.reg [
 ⟨some 55,.ld (.t 6) 2 true,none,[]⟩,
 ⟨some 56,.callm 21 [.t 55],none,[]⟩,
 ⟨some 14,.alloc [.slice none 0 0,.slice none 0 0] 25,none,[]⟩,
 ⟨none,.st (.t 14) (.t 56) 2,none,[]⟩])
 (.gh (.seq (.seq (.reg [
 ⟨some 57,.addo (.t 14) 1,none,[]⟩,
 ⟨some 58,.ld (.t 57) 1 false,none,[]⟩,
 ⟨some 59,.len (.t 58),none,[]⟩,
 ⟨some 60,.mv (.c (.int .i64 0)),none,[]⟩])
 (.block 0 (.loop (.seq (.reg [
  ⟨some 61,.bin .lss (.t 60) (.t 59),none,[]⟩])
  (.seq (.cond (.t 61)
  .skip
  (.exit 0))
  (.seq (.block 1 (.seq (.reg [
   ⟨some 62,.mv (.t 60),none,[]⟩,
   ⟨some 15,.mv (.t 62),none,[]⟩])
   (.seq (.reg [
   ⟨some 63,.addo (.t 14) 1,none,[]⟩,
   ⟨some 64,.ld (.t 63) 1 false,none,[]⟩,
   ⟨some 65,.mv (.t 15),none,[]⟩,
   ⟨some 66,.ixs (.t 64) (.t 65) 5,none,[]⟩,
   ⟨some 16,.mv (.t 66),none,[]⟩])
   (.seq (.regd [0,1,2,3,4,5,6,7,8,9,10,11,12,13,14,15,16,17] [
   .op ⟨some 67,.mv (.t 16),none,[]⟩,
   .op ⟨some 68,.mv (.t 16),none,[]⟩,
   .op ⟨some 69,.nilc (.t 68),none,[1]⟩,
   .op ⟨some 70,.addo (.t 69) 2,none,[2]⟩,
   .op ⟨some 71,.ld (.t 70) 2 true,none,[3]⟩,
   .op ⟨some 72,.mv (.t 4),none,[]⟩,
   .op ⟨some 73,.mv (.t 15),none,[]⟩,
   .op ⟨some 74,.bin .mul (.c (.int .i64 4)) (.t 73),none,[6]⟩,
   .op ⟨some 75,.call 46 [.t 72,.t 74],none,[5,7]⟩,
   .op ⟨some 76,.mv (.t 4),none,[]⟩,
   .op ⟨some 77,.mv (.t 15),none,[]⟩,
   .op ⟨some 78,.bin .mul (.c (.int .i64 4)) (.t 77),none,[10]⟩,
   .op ⟨some 79,.bin .add (.t 78) (.c (.int .i64 1)),none,[11]⟩,
   .op ⟨some 80,.call 46 [.t 76,.t 79],none,[8,9,12]⟩,
   .op ⟨some 81,.call 53 [.t 71,.t 75,.t 80],none,[4,8,13]⟩,
   .op ⟨some 82,.nilc (.t 67),none,[0,1,2,3,4,5,6,7,8,9,10,11,12,13,14]⟩,
   .op ⟨some 83,.addo (.t 82) 2,none,[0,1,2,3,4,5,6,7,8,9,10,11,12,13,14,15]⟩] 0 1 [
   ⟨none,.st (.t 83) (.t 81) 2,none,[0,1,2,3,4,5,6,7,8,9,10,11,12,13,14,16]⟩])
   (.seq (.reg [
   ⟨some 84,.mv (.t 16),none,[]⟩,
   ⟨some 85,.nilc (.t 84),none,[]⟩,
   ⟨some 86,.addo (.t 85) 4,none,[]⟩,
   ⟨some 87,.ld (.t 86) 1 false,none,[]⟩,
   ⟨some 88,.len (.t 87),none,[]⟩,
   ⟨some 89,.mv (.c (.int .i64 0)),none,[]⟩])
   (.block 2 (.loop (.seq (.reg [
    ⟨some 90,.bin .lss (.t 89) (.t 88),none,[]⟩])
    (.seq (.cond (.t 90)
    .skip
    (.exit 2))
    (.seq (.block 3 (.seq (.reg [
     ⟨some 91,.mv (.t 89),none,[]⟩,
     ⟨some 17,.mv (.t 91),none,[]⟩])
     (.seq (.reg [
     ⟨some 92,.mv (.t 16),none,[]⟩,
     ⟨some 93,.nilc (.t 92),none,[]⟩,
     ⟨some 94,.addo (.t 93) 4,none,[]⟩,
     ⟨some 95,.ld (.t 94) 1 false,none,[]⟩,
     ⟨some 96,.mv (.t 17),none,[]⟩,
     ⟨some 97,.ixs (.t 95) (.t 96) 4,none,[]⟩,
     ⟨some 18,.mv (.t 97),none,[]⟩])
     (.seq (.regd [0,1,2,3,4,5,6,7,8,9,10,11,12,13,14,15,16,17,18,19,20,21,22,23,24,25,26,27,28,29,30,31,32,33,34,35,36,37,38,39,40,41] [
     .op ⟨some 98,.mv (.t 18),none,[]⟩,
     .op ⟨some 99,.nilc (.t 98),none,[0]⟩,
     .op ⟨some 100,.addo (.t 99) 0,none,[1]⟩,
     .op ⟨some 101,.ld (.t 100) 2 true,none,[2]⟩,
     .op ⟨some 102,.mv (.t 4),none,[]⟩,
     .op ⟨some 103,.mv (.t 15),none,[]⟩,
     .op ⟨some 104,.bin .mul (.c (.int .i64 4)) (.t 103),none,[5]⟩,
     .op ⟨some 105,.mv (.t 17),none,[]⟩,
     .op ⟨some 106,.bin .add (.t 104) (.t 105),none,[6,7]⟩,
     .op ⟨some 107,.bin .add (.t 106) (.c (.int .i64 2)),none,[8]⟩,
     .op ⟨some 108,.call 46 [.t 102,.t 107],none,[4,9]⟩,
     .op ⟨some 109,.mv (.t 4),none,[]⟩,
     .op ⟨some 110,.mv (.t 15),none,[]⟩,
     .op ⟨some 111,.bin .mul (.c (.int .i64 4)) (.t 110),none,[12]⟩,
     .op ⟨some 112,.mv (.t 17),none,[]⟩,
     .op ⟨some 113,.bin .add (.t 111) (.t 112),none,[13,14]⟩,
     .op ⟨some 114,.bin .add (.t 113) (.c (.int .i64 3)),none,[15]⟩,
     .op ⟨some 115,.call 46 [.t 109,.t 114],none,[10,11,16]⟩,
     .op ⟨some 116,.call 53 [.t 101,.t 108,.t 115],none,[3,10,17]⟩,
     .op ⟨some 117,.mv (.t 18),none,[]⟩,
     .op ⟨some 118,.nilc (.t 117),none,[19]⟩,
     .op ⟨some 119,.addo (.t 118) 2,none,[20]⟩,
     .op ⟨some 120,.ld (.t 119) 2 true,none,[21]⟩,
     .op ⟨some 121,.mv (.t 4),none,[]⟩,
     .op ⟨some 122,.mv (.t 15),none,[]⟩,
     .op ⟨some 123,.bin .mul (.c (.int .i64 4)) (.t 122),none,[24]⟩,
     .op ⟨some 124,.mv (.t 17),none,[]⟩,
     .op ⟨some 125,.bin .add (.t 123) (.t 124),none,[25,26]⟩,
     .op ⟨some 126,.bin .add (.t 125) (.c (.int .i64 1)),none,[27]⟩,
     .op ⟨some 127,.call 46 [.t 121,.t 126],none,[18,23,28]⟩,
     .op ⟨some 128,.mv (.t 4),none,[]⟩,
     .op ⟨some 129,.mv (.t 15),none,[]⟩,
     .op ⟨some 130,.bin .mul (.c (.int .i64 4)) (.t 129),none,[31]⟩,
     .op ⟨some 131,.mv (.t 17),none,[]⟩,
     .op ⟨some 132,.bin .add (.t 130) (.t 131),none,[32,33]⟩,
     .op ⟨some 133,.bin .add (.t 132) (.c (.int .i64 2)),none,[34]⟩,
     .op ⟨some 134,.call 46 [.t 128,.t 133],none,[29,30,35]⟩,
     .op ⟨some 135,.call 53 [.t 120,.t 127,.t 134],none,[22,29,36]⟩] 2 2 [
     ⟨some 19,.alloc [.int .i64 0,.int .i64 0] 29,none,[]⟩,
     ⟨some 20,.alloc [.int .i64 0,.int .i64 0] 29,none,[]⟩,
     ⟨none,.st (.t 19) (.t 116) 2,none,[0,1,2,3,4,5,6,7,8,9,10,11,12,13,14,15,16,17,18,37,38,39]⟩,
     ⟨none,.st (.t 20) (.t 135) 2,none,[0,1,2,3,4,5,6,7,8,9,10,11,12,13,14,15,16,17,18,19,20,21,22,23,24,25,26,27,28,29,30,31,32,33,34,35,36,37,38,39,40]⟩])
     (.seq (.reg [
     ⟨some 136,.addo (.t 19) 0,none,[]⟩,
     ⟨some 137,.ld (.t 136) 1 false,none,[]⟩,
     ⟨some 138,.addo (.t 20) 1,none,[]⟩,
     ⟨some 139,.ld (.t 138) 1 false,none,[]⟩,
     ⟨some 140,.bin .leq (.t 137) (.t 139),none,[]⟩])
     (.cond (.t 140)
     (.regd [0,2,4,5,1,3,6,7,8,9] [
      .op ⟨some 141,.mv (.t 18),none,[]⟩,
      .op ⟨some 143,.ld (.t 19) 2 true,none,[]⟩,
      .op ⟨some 145,.nilc (.t 141),none,[0,2]⟩,
      .op ⟨some 146,.addo (.t 145) 0,none,[0,2,4]⟩,
      .hide (.t 146),
      .op ⟨some 142,.mv (.t 18),none,[]⟩,
      .op ⟨some 144,.ld (.t 20) 2 true,none,[]⟩] 0 1 [
      ⟨none,.st (.t 146) (.t 143) 2,none,[0,2,5]⟩,
      ⟨some 147,.nilc (.t 142),none,[0,1,2,3,4,5,6]⟩,
      ⟨some 148,.addo (.t 147) 2,none,[0,1,2,3,4,5,6,7]⟩,
      ⟨none,.st (.t 148) (.t 144) 2,none,[0,1,2,3,4,5,6,8]⟩])
     .skip))))))
    (.reg [
    ⟨some 149,.bin .add (.t 89) (.c (.int .i64 1)),none,[]⟩,
    ⟨some 89,.mv (.t 149),none,[]⟩])))))))))))
  (.gh (.reg [
  ⟨some 150,.bin .add (.t 60) (.c (.int .i64 1)),none,[]⟩,
  ⟨some 60,.mv (.t 150),none,[]⟩]))))))))
 (.gh (.seq (.reg [
 ⟨some 152,.ld (.t 6) 2 true,none,[]⟩,
 ⟨some 153,.mv (.t 1),none,[]⟩,
 ⟨some 154,.mv (.t 2),none,[]⟩,
 ⟨some 155,.ld (.t 9) 2 true,none,[]⟩,
 ⟨some 156,.call 32 [.t 152,.t 153,.t 154,.t 155],none,[]⟩,
 ⟨some 151,.mv (.t 156),none,[]⟩,
 ⟨some 157,.ext (.t 151) 0,none,[]⟩,
 ⟨some 158,.ext (.t 151) 1,none,[]⟩,
 ⟨some 21,.mv (.t 157),none,[]⟩,
 ⟨some 22,.mv (.t 158),none,[]⟩])
 (.seq (.regd [0,1,2,3,4,5,6,7,8,9,10,11,12,13,14] [
 .op ⟨some 160,.ld (.t 14) 2 true,none,[]⟩,
 .op ⟨some 161,.mv (.t 1),none,[]⟩,
 .op ⟨some 162,.mv (.t 2),none,[]⟩,
 .op ⟨some 163,.ld (.t 9) 2 true,none,[]⟩,
 .op ⟨some 164,.mv (.t 4),none,[]⟩,
 .op ⟨some 165,.call 46 [.t 164,.c (.int .i64 0)],none,[4]⟩,
 .op ⟨some 166,.mv (.t 4),none,[]⟩,
 .op ⟨some 167,.call 46 [.t 166,.c (.int .i64 1)],none,[5,6]⟩,
 .op ⟨some 168,.call 53 [.t 163,.t 165,.t 167],none,[3,5,7]⟩,
 .op ⟨some 169,.call 32 [.t 160,.t 161,.t 162,.t 168],none,[0,1,2,8]⟩,
 .op ⟨some 159,.mv (.t 169),none,[9]⟩,
 .op ⟨some 170,.ext (.t 159) 0,none,[10]⟩,
 .op ⟨some 171,.ext (.t 159) 1,none,[10]⟩,
 .op ⟨some 23,.mv (.t 170),none,[0,1,2,3,4,5,6,7,8,9,10,11]⟩,
 .op ⟨some 24,.mv (.t 171),none,[0,1,2,3,4,5,6,7,8,9,10,11,12,13]⟩] 0 0 [
])
 (.seq (.regd [0,1,2,3,4,5,6,7,8,9,10,11,12,13,14,15] [
 .op ⟨some 173,.ld (.t 6) 2 true,none,[]⟩,
 .op ⟨some 174,.mv (.t 1),none,[]⟩,
 .op ⟨some 175,.mv (.t 2),none,[]⟩,
 .op ⟨some 176,.mv (.t 5),none,[]⟩,
 .op ⟨some 177,.conv .i64 (.t 176),none,[3]⟩,
 .op ⟨some 178,.mv (.t 2),none,[]⟩,
 .op ⟨some 179,.bin .add (.t 178) (.c (.int .i64 1)),none,[5]⟩,
 .op ⟨some 180,.div .rem (.t 177) (.t 179),none,[4,6]⟩,
 .op ⟨some 181,.bin .sub (.t 175) (.t 180),none,[2,7]⟩,
 .op ⟨some 182,.ld (.t 9) 2 true,none,[]⟩,
 .op ⟨some 183,.call 32 [.t 173,.t 174,.t 181,.t 182],none,[0,1,8,9]⟩,
 .op ⟨some 172,.mv (.t 183),none,[10]⟩,
 .op ⟨some 184,.ext (.t 172) 0,none,[11]⟩,
 .op ⟨some 185,.ext (.t 172) 1,none,[11]⟩,
 .op ⟨some 25,.mv (.t 184),none,[0,1,2,3,4,5,6,7,8,9,10,11,12]⟩,
 .op ⟨some 26,.mv (.t 185),none,[0,1,2,3,4,5,6,7,8,9,10,11,12,13,14]⟩] 0 0 [
])
 (.seq (.seq (.reg [
 ⟨some 186,.mv (.t 22),none,[]⟩,
 ⟨some 187,.bin .neq (.t 186) (.c (.int .i64 0)),none,[]⟩,
 ⟨some 188,.mv (.t 187),none,[]⟩,
 ⟨some 189,.mv (.t 24),some (188,false),[]⟩,
 ⟨some 190,.bin .neq (.t 189) (.c (.int .i64 0)),some (188,false),[]⟩,
 ⟨some 191,.pick (.t 188) (.c (.bool true)) (.t 190),none,[]⟩,
 ⟨some 192,.mv (.t 191),none,[]⟩,
 ⟨some 193,.mv (.t 26),some (192,false),[]⟩,
 ⟨some 194,.bin .neq (.t 193) (.c (.int .i64 0)),some (192,false),[]⟩,
 ⟨some 195,.pick (.t 192) (.c (.bool true)) (.t 194),none,[]⟩,
 ⟨some 196,.mv (.t 195),none,[]⟩,
 ⟨some 197,.mv (.t 21),some (196,false),[]⟩,
 ⟨some 198,.len (.t 197),some (196,false),[]⟩,
 ⟨some 199,.mv (.t 23),some (196,false),[]⟩,
 ⟨some 200,.len (.t 199),some (196,false),[]⟩,
 ⟨some 201,.bin .neq (.t 198) (.t 200),some (196,false),[]⟩,
 ⟨some 202,.pick (.t 196) (.c (.bool true)) (.t 201),none,[]⟩,
 ⟨some 203,.mv (.t 202),none,[]⟩,
 ⟨some 204,.mv (.t 21),some (203,false),[]⟩,
 ⟨some 205,.len (.t 204),some (203,false),[]⟩,
 ⟨some 206,.mv (.t 25),some (203,false),[]⟩,
 ⟨some 207,.len (.t 206),some (203,false),[]⟩,
 ⟨some 208,.bin .neq (.t 205) (.t 207),some (203,false),[]⟩,
 ⟨some 209,.pick (.t 203) (.c (.bool true)) (.t 208),none,[]⟩])
 (.cond (.t 209)
 (.seq (.reg [
  ⟨some 12,.mv (.c (.bool false)),none,[]⟩])
  .ret)
 .skip))
 (.seq (.seq (.reg [
 ⟨some 210,.mv (.t 21),none,[]⟩,
 ⟨some 211,.len (.t 210),none,[]⟩,
 ⟨some 212,.mv (.c (.int .i64 0)),none,[]⟩])
 (.block 4 (.loop (.seq (.reg [
  ⟨some 213,.bin .lss (.t 212) (.t 211),none,[]⟩])
  (.seq (.cond (.t 213)
  .skip
  (.exit 4))
  (.seq (.block 5 (.seq (.reg [
   ⟨some 214,.mv (.t 212),none,[]⟩,
   ⟨some 27,.mv (.t 214),none,[]⟩])
   (.seq (.regd [0,1,2,3,4,5,6,7,8,9,10,11,12,13,14,15,16,17,18,19,20,21,22,23,24,25,26,27,28,29,30,31,32,33,34,35] [
   .op ⟨some 215,.mv (.t 23),none,[]⟩,
   .op ⟨some 216,.mv (.t 27),none,[]⟩,
   .op ⟨some 217,.ixs (.t 215) (.t 216) 2,none,[0,1]⟩,
   .op ⟨some 218,.ld (.t 217) 2 true,none,[2]⟩,
   .op ⟨some 219,.mv (.t 21),none,[]⟩,
   .op ⟨some 220,.mv (.t 27),none,[]⟩,
   .op ⟨some 221,.ixs (.t 219) (.t 220) 2,none,[4,5]⟩,
   .op ⟨some 222,.ld (.t 221) 2 true,none,[6]⟩,
   .op ⟨some 223,.call 54 [.t 218,.t 222],none,[3,7]⟩,
   .op ⟨some 224,.un .not (.t 223),none,[8]⟩,
   .op ⟨some 225,.mv (.t 224),none,[8,9]⟩,
   .op ⟨some 226,.mv (.t 25),some (225,false),[10]⟩,
   .op ⟨some 227,.mv (.t 27),some (225,false),[10]⟩,
   .op ⟨some 228,.ixs (.t 226) (.t 227) 2,some (225,false),[10,11,12]⟩,
   .op ⟨some 229,.addo (.t 228) 0,some (225,false),[10,13]⟩,
   .op ⟨some 230,.ld (.t 229) 1 false,some (225,false),[10,14]⟩,
   .op ⟨some 231,.mv (.t 21),some (225,false),[10]⟩,
   .op ⟨some 232,.mv (.t 27),some (225,false),[10]⟩,
   .op ⟨some 233,.ixs (.t 231) (.t 232) 2,some (225,false),[10,16,17]⟩,
   .op ⟨some 234,.addo (.t 233) 0,some (225,false),[10,18]⟩,
   .op ⟨some 235,.ld (.t 234) 1 false,some (225,false),[10,19]⟩,
   .op ⟨some 236,.bin .gtr (.t 230) (.t 235),some (225,false),[10,15,20]⟩,
   .op ⟨some 237,.pick (.t 225) (.c (.bool true)) (.t 236),none,[10,21]⟩,
   .op ⟨some 238,.mv (.t 237),none,[10,22]⟩,
   .op ⟨some 239,.mv (.t 25),some (238,false),[23]⟩,
   .op ⟨some 240,.mv (.t 27),some (238,false),[23]⟩,
   .op ⟨some 241,.ixs (.t 239) (.t 240) 2,some (238,false),[23,24,25]⟩,
   .op ⟨some 242,.addo (.t 241) 1,some (238,false),[23,26]⟩,
   .op ⟨some 243,.ld (.t 242) 1 false,some (238,false),[23,27]⟩,
   .op ⟨some 244,.mv (.t 21),some (238,false),[23]⟩,
   .op ⟨some 245,.mv (.t 27),some (238,false),[23]⟩,
   .op ⟨some 246,.ixs (.t 244) (.t 245) 2,some (238,false),[23,29,30]⟩,
   .op ⟨some 247,.addo (.t 246) 1,some (238,false),[23,31]⟩,
   .op ⟨some 248,.ld (.t 247) 1 false,some (238,false),[23,32]⟩,
   .op ⟨some 249,.bin .gtr (.t 243) (.t 248),some (238,false),[23,28,33]⟩,
   .op ⟨some 250,.pick (.t 238) (.c (.bool true)) (.t 249),none,[23,34]⟩] 0 0 [
])
 (.cond (.t 250)
 (.seq (.reg [
  ⟨some 12,.mv (.c (.bool false)),none,[]⟩])
  .ret)
 .skip))))
 (.reg [
 ⟨some 251,.bin .add (.t 212) (.c (.int .i64 1)),none,[]⟩,
 ⟨some 212,.mv (.t 251),none,[]⟩])))))))
 (.gh (.seq (.reg [
 ⟨some 252,.mv (.t 13),none,[]⟩,
 ⟨some 12,.mv (.t 252),none,[]⟩])
 .ret)))))))))))))))
def rz12:List RV:=[.tmp 12]
theorem nz12:Try.f12.ntmps = 253:=by kernel_rfl
theorem bz12:bodyB Try.prog 12 = true:=by kernel_rfl
theorem cz12_ok:cmpC Try.prog cz12 ((Try.f12.body).getD .skip) = true:=by kernel_rfl
theorem rz12_ok:cmpR Try.prog rz12 Try.f12.results.toList = true:=by kernel_rfl
theorem tz12 {args:List SV} {res:SV} (ka:KFL args) (kr:KF res) (h:sx Try.prog Y0 0 cz12 (st0 args 253) (retK rz12 res)) (hA:Nat.ble args.length 253 = true:=by rfl):Ct Try.prog 12 args res:=ct_intro Try.func12 rfl bz12 cz12_ok rz12_ok nz12 (Nat.le_of_ble_eq_true hA) ka kr h
end Go.Proofs.Ytkjldleglbbkeaa
set_option maxRecDepth 100000
set_option maxHeartbeats 8000000
namespace Go.Proofs.Ytkjldleglbbkeaa
open Go Go.Sx Go.Azalai
def legA (x:Leg):List SV:=[I x.a,I x.b,I x.long.lo,I x.long.hi,.any]
def gatR (x:Leg):List (List SV):=x.gates.map gateL
theorem twinR_ok (l:Land) (hs:Small l):CtM Try.prog 21 [] 0 [.agg (landL l)] (fun o=>o = ⟨false,.agg [.sl false 9 (l.wells.map wellL),.mr 0 0],[(0,.rws 0 5 (l.legs.map legA) 86 4 4 (l.legs.map gatR) 95)],1⟩):=by
 refine mz21 (by simp [hpb]) (fun o ho=>by subst ho;simp [KX,KXL,KXP,KXH,KFR_iff,KFL,KF,landL,wellL,legA,gateL,gatR]) ?_
 dsimp only [cz21,rz21,landL,go_sem,rA,rM,rS]
 refine gh ent_refl ?_
 dsimp only [go_sem,rA,rM,rS]
 refine app0 (by simp;have:=hs.1;omega) ?_
 dsimp only [go_sem,rA,rM,rS]
 refine gh ent_refl ?_
 dsimp only [go_sem,rA,rM,rS]
 refine ⟨by simp;have:=hs.2.1;omega,?_⟩
 dsimp only [go_sem,rA,rM,rS]
 refine gh (ent_rws 2 0 4 4 95 rfl rfl) ?_
 dsimp only [go_sem,rA,rM,rS]
 refine gh ent_refl ?_
 dsimp only [go_sem,rA,rM,rS]
 refine loopO (fun k:Nat=>[(3,I k)]) (fun k=>[(2,.rws 0 5 ((l.legs.take k).map legA ++ (l.legs.drop k).map legL) 86 4 4 ((l.legs.take k).map gatR) 95)]) (fun k=>k ≤ l.legs.length) (fun k=>l.legs.length - k) 0 (Nat.zero_le _) ?_ ?_
 · (refine ent_id ?_ ?_ ?_ rfl rfl <;> dsimp only [gateL,wellL,legL,legA,gatR,id,go_sem,rA,rM,rS] <;> simp [gateL,wellL,legL,legA,gatR,KFR_iff,KFR_app,KFR,KFL,KF,mtL_same,mtO,nbr])
 intro k hk
 dsimp only [go_sem,rA,rM,rS]
 refine ⟨0,5,_,_,rfl,rfl,?_⟩
 simp only [rwsX_len,List.length_append,List.length_map,List.length_take,List.length_drop]
 refine gh ent_refl ?_
 dsimp only [go_sem,rA,rM,rS]
 by_cases hlt:k < l.legs.length
 · refine br_t (by simp;omega) ?_
   dsimp only [go_sem,rA,rM,rS]
   refine rw_ix0 k rfl (by simp;omega) ?_
   dsimp only [go_sem,rA,rM,rS]
   have hA:(l.legs.take k).map legA ++ (l.legs.drop k).map legL = (l.legs.take k).map legA ++ (legL l.legs[k] :: (l.legs.drop (k + 1)).map legL):=by rw [List.drop_eq_getElem_cons hlt];rfl
   have hlA:((l.legs.take k).map legA).length = k:=by simp;omega
   have hx:((l.legs.take k).map legA ++ (l.legs.drop k).map legL)[k]? = some (legL l.legs[k]):=by
    rw [hA,List.getElem?_append_right (by omega),hlA,Nat.sub_self];rfl
   refine ⟨0,_,_,rfl,rfl,legL l.legs[k],impP_iff.2 fun _=>?_,?_⟩
   · rw [rwsX_get,if_neg (by simp;omega),hx]
   dsimp only [legL,go_sem,rA,rM,rS]
   refine ⟨by simp;have:=hs.2.2 _ (List.getElem_mem hlt);omega,?_⟩
   dsimp only [go_sem,rA,rM,rS]
   refine rw_ix0 k rfl (by simp;omega) ?_
   dsimp only [go_sem,rA,rM,rS]
   refine .inl ⟨rfl,rfl,legL l.legs[k],hx,by simp [legL],.inl (by simp;omega),?_⟩
   dsimp only [go_sem,rA,rM,rS]
   rw [w64_in (n:=(k:Int) + 1) (by omega) (by have:=hs.2.1;omega)]
   refine ⟨k + 1,hlt,by omega,?_⟩
   have hlen:((l.legs.take k).map gatR).length = k:=by simp;omega
   have e0:((l.legs.take k).map legA ++ (l.legs.drop k).map legL).set k (splice (legL l.legs[k]) 4 [.mr 3 0]) = (l.legs.take k).map legA ++ ([I l.legs[k].a,I l.legs[k].b,I l.legs[k].long.lo,I l.legs[k].long.hi,.mr 3 0] :: (l.legs.drop (k + 1)).map legL):=by
    rw [hA,List.set_append_right _ _ (by omega),hlA,Nat.sub_self];rfl
   rw [e0]
   refine ent_trans (ent_adopt 2 3 [I l.legs[k].a,I l.legs[k].b,I l.legs[k].long.lo,I l.legs[k].long.hi,.mr 3 0] rfl rfl rfl (by rw [hlen,List.getElem?_append_right (by omega),hlA,Nat.sub_self];rfl) rfl) ?_
   have e1:((l.legs.take k).map legA ++ ([I l.legs[k].a,I l.legs[k].b,I l.legs[k].long.lo,I l.legs[k].long.hi,.mr 3 0] :: (l.legs.drop (k + 1)).map legL)).set ((l.legs.take k).map gatR).length ([I l.legs[k].a,I l.legs[k].b,I l.legs[k].long.lo,I l.legs[k].long.hi,.mr 3 0].set 4 .any) = (l.legs.take (k + 1)).map legA ++ (l.legs.drop (k + 1)).map legL:=by
    rw [hlen,List.set_append_right _ _ (by omega),hlA,Nat.sub_self,List.set_cons_zero,← List.take_append_getElem hlt,List.map_append,List.append_assoc];rfl
   have e2:(l.legs.take k).map gatR ++ [l.legs[k].gates.map gateL] = (l.legs.take (k + 1)).map gatR:=by
    rw [← List.take_append_getElem hlt,List.map_append];rfl
   rw [e1,e2]
   clear e0 e1 e2 hx hA hlA hlen
   generalize l.legs.take (k + 1) = LA
   generalize l.legs.drop (k + 1) = LB
   (refine ent_id ?_ ?_ ?_ rfl rfl <;> dsimp only [gateL,wellL,legL,legA,gatR,id,go_sem,rA,rM,rS] <;> simp [gateL,wellL,legL,legA,gatR,KFR_iff,KFR_app,KFR,KFL,KF,mtL_same,mtO,nbr])
 refine br_f (by simp;omega) ?_
 dsimp only [go_sem,rA,rM,rS]
 refine gh ent_refl ?_
 dsimp only [go_sem,rA,rM,rS]
 rw [show k = l.legs.length from by omega,List.take_length,List.drop_length,List.map_nil,List.append_nil]
 refine ⟨_,rfl,?_⟩
 refine entO (fun _=>2) ?_ ?_ ?_ (fun i hi j hj _=>by omega) rfl (fun i hi=>absurd hi (Nat.not_lt_zero i)) <;> dsimp only [go_sem,rA,rM,rS] <;> simp [KFR_iff,KFR_app,KFR,KFL,KF,mtL_same,mtO,nbr,wellL,legA,gateL,gatR]
end Go.Proofs.Ytkjldleglbbkeaa
set_option maxRecDepth 100000
set_option maxHeartbeats 8000000
namespace Go.Proofs.Ytkjldleglbbkeaa
open Go Go.Sx Go.Azalai
theorem part_ok (s:Span) (a b:Int) (h1:0 ≤ s.lo) (h2:s.lo ≤ s.hi) (h3:s.hi ≤ 1000000000) (ha:0 ≤ a ∧ a < 4294967296) (hb:0 ≤ b ∧ b < 4294967296):Ct Try.prog 53 [.agg [I s.lo,I s.hi],U32 a,U32 b] (.agg [I (partF s a b).lo,I (partF s a b).hi]):=by
 refine t53 (by simp [U32,KFL,KF]) (by simp [KFL,KF]) ?_
 dsimp only [c53,r53,U32,go_sem,rA,rM,rS]
 refine call (show Ct Try.prog 45 [.agg (spanL s),U32 a] (I (pickF s a)) from pick_ok s a h1 h2 h3 ha) ?_
 dsimp only [go_sem,rA,rM,rS]
 have q:=pick_bd (s:=s) (n:=a) h2 ha.1
 refine call (span_ok _ _) ?_
 dsimp only [spanL,go_sem,rA,rM,rS]
 refine call (show Ct Try.prog 45 [.agg (spanL ⟨pickF s a,s.hi⟩),U32 b] (I (pickF ⟨pickF s a,s.hi⟩ b)) from pick_ok ⟨pickF s a,s.hi⟩ b (by simp only;omega) q.2 h3 hb) ?_
 dsimp only [go_sem,rA,rM,rS]
 refine call (span_ok _ _) ?_
 dsimp only [spanL,go_sem,rA,rM,rS]
 rfl
theorem inner_ok (a b:Span):Ct Try.prog 54 [.agg [I a.lo,I a.hi],.agg [I b.lo,I b.hi]] (B (decide (b.lo ≤ a.lo) && decide (a.hi ≤ b.hi))):=by
 refine t54 (by simp [KFL,KF]) (by simp [KFL,KF]) ?_
 dsimp only [c54,r54,go_sem,rA,rM,rS]
 repeat (refine gb ?_;dsimp only [go_sem,rA,rM,rS])
theorem reachL_at {l:Land} {p:Span} {s day:Int} {v:Nat} (hv:v < l.wells.length):(reachL l p s day)[v]? = some ⟨reachV false l p s day v,reachV true l p s day v⟩:=by
 simp [reachL,reachF,List.getElem?_zipWith,hv]
theorem at_of {α : Type} {R:List α} {v:Nat} {x:α} (h:v < R.length) (e:R[v]? = some x):R[v] = x:=by
 rw [List.getElem?_eq_getElem h] at e;exact Option.some.inj e
theorem reachE_0 {l:Land} {p:Span} (h:OkLP l p) {s day:Int} (s0:0 ≤ s) (s1:s < l.wells.length) (h3:0 ≤ day) (h4:day ≤ 100000):reachE l p s day = 0:=by
 have ha:askF l p = 0:=by unfold askF;rw [h.land,h.pace];rfl
 unfold reachE
 rw [if_neg (by rw [ha];decide),if_neg (by simp [inR];omega)]
theorem small_ok {l:Land} (h:okLand l = true):Small l:=by
 have:=okLand_len h
 refine ⟨by omega,by omega,fun x hx=>?_⟩
 simp only [okLand,Bool.and_eq_true,List.all_eq_true] at h
 have:=h.2 x hx
 simp only [okLeg,Bool.and_eq_true,decide_eq_true_eq] at this
 omega
theorem atN_ok (l:List W32) (i:Int) (k:Nat) (h:i = k) (hl:l.length ≤ 9223372036854775807) (hi:k ≤ 1000000) (c:Bool):Ct Try.prog 46 [.sl c 1 (l.map w32L),I i] (U32 (atF l k)):=by
 rw [h];exact at_ok l k hl hi c
theorem narrow_ok (l:Land) (s day:Int) (p:Span) (ns:List W32) (soon:Int) (hns:ns.length ≤ 9223372036854775807) (hsn:0 ≤ soon ∧ soon < 4294967296) :
 Ct Try.prog 12 [.agg (landL l),I s,I day,.agg (spanL p),.sl false 1 (ns.map w32L),U32 soon] (B true):=by
 refine tz12 (by simp [landL,wellL,legL,gateL,spanL,KFR_iff,w32L,U32,KFL,KF]) (by simp [KFL,KF]) ?_
 dsimp only [cz12,rz12,landL,spanL,go_sem,rA,rM,rS]
 refine call alive_ok ?_
 dsimp only [go_sem,rA,rM,rS]
 refine br_f (by simp) ?_
 dsimp only [go_sem,rA,rM,rS]
 refine call (ready_ok l p) ?_
 dsimp only [go_sem,rA,rM,rS]
 repeat (refine gb ?_;dsimp only [go_sem,rA,rM,rS])
 simp only [List.length_map]
 by_cases hr:readyF l p = true
 rotate_left
 · refine br_t (by simp [hr]) ?_
   dsimp only [go_sem,rA,rM,rS]
 by_cases h:(0 ≤ s ∧ s < l.wells.length ∧ 0 ≤ day ∧ day ≤ 100000)
 rotate_left
 · refine br_t (by simp [hr];omega) ?_
   dsimp only [go_sem,rA,rM,rS]
 obtain ⟨s0,s1,h3,h4⟩:=h
 refine br_f (by simp [hr];omega) ?_
 dsimp only [go_sem,rA,rM,rS]
 obtain ⟨hs,hok⟩:=readyF_iff hr
 have hp:=hok.pace
 have hgood:∀ x ∈ l.legs,GoodLeg x:=fun x hx=>okLand_leg hok.land x hx
 have hl24:l.legs.length ≤ 24:=(okLand_len hok.land).2.2
 have hw12:=(okLand_len hok.land).2.1
 refine callmL [] (twinR_ok l hs) rfl rfl rfl ?_ ?_ ?_
 · dsimp only [landL,go_sem,rA,rM,rS]
   simp [KFR_iff,KFR,KFL,KF,wellL,legL,gateL]
 · dsimp only [go_sem,rA,rM,rS]
 dsimp only [go_sem,rA,rM,rS]
 refine gh ent_refl ?_
 dsimp only [go_sem,rA,rM,rS]
 refine ⟨0,5,_,_,rfl,rfl,?_⟩
 simp only [rwsX_len,List.length_map]
 refine loopO (fun i:Nat=>[(60,I i)]) (fun i=>[(2,.rws 0 5 ((narL ns i l.legs).map legA) 86 4 4 ((narL ns i l.legs).map gatR) 95)]) (fun i=>i ≤ l.legs.length) (fun i=>l.legs.length - i) 0 (Nat.zero_le _) ?_ ?_
 · (refine ent_id ?_ ?_ ?_ rfl rfl <;> dsimp only [narL_zero,wellL,legL,legA,gatR,gateL,w32L,U32,id,go_sem,rA,rM,rS] <;> simp [narL_zero,wellL,legL,legA,gatR,gateL,w32L,U32,KFR_iff,KFR_app,KFR,KFL,KF,mtL_same,mtO,nbr])
 intro i hi
 dsimp only [go_sem,rA,rM,rS]
 by_cases hlt:i < l.legs.length
 · refine br_t (by simp;omega) ?_
   dsimp only [go_sem,rA,rM,rS]
   have hll:=narL_len ns i l.legs
   have hgi:=narL_get (ns:=ns) hlt
   have hgx:=hgood _ (List.getElem_mem hlt)
   have hsucc:=narL_succ (ns:=ns) hlt
   generalize hx:l.legs[i] = x at hgi hgx hsucc
   obtain ⟨hl1,hl2,hl3,hg1,hg2⟩:=hgx
   have hgm:=okGates_mem hg2 (Int.le_refl _)
   generalize narL ns i l.legs = L at hll hgi hsucc
   have hiL:i < L.length:=by omega
   have hLi:L[i] = x:=by rw [List.getElem?_eq_getElem hiL] at hgi;exact Option.some.inj hgi
   refine rw_ix0 i rfl (by simp;omega) ?_
   dsimp only [go_sem,rA,rM,rS]
   refine rw_ld0 (row:=legA x) (by rw [List.getElem?_map,hgi];rfl) (by simp;omega) ?_
   dsimp only [legA,go_sem,rA,rM,rS]
   simp (disch:=omega) only [w64_in]
   refine call (atN_ok ns _ (4 * i) (by omega) hns (by omega) false) ?_
   dsimp only [U32,go_sem,rA,rM,rS]
   simp (disch:=omega) only [w64_in]
   refine call (atN_ok ns _ (4 * i + 1) (by omega) hns (by omega) false) ?_
   dsimp only [U32,go_sem,rA,rM,rS]
   refine call (part_ok x.long _ _ (by omega) hl2 (by omega) (atF_bd ns _) (atF_bd ns _)) ?_
   dsimp only [go_sem,rA,rM,rS]
   refine rw_st0 (narX ns i 0 x) hiL (by simp [hLi,legA]) (.inl (by simp)) (by rw [hLi,narX_zero];rfl) (by rw [hLi,narX_zero];rfl) ?_
   dsimp only [go_sem,rA,rM,rS]
   refine rw_ld0 (row:=legA (narX ns i 0 x)) (by rw [List.getElem?_map,List.getElem?_set_self hiL];rfl) (by simp;omega) ?_
   dsimp only [legA,go_sem,rA,rM,rS]
   have hat:∀ (Y:Leg) (xs:List (List SV)),rwsAt 2 0 5 xs 86 4 4 ((L.set i Y).map gatR) 95 (i + 1) = some (4,gatR Y,95):=fun Y xs=>by
    show (match ((L.set i Y).map gatR)[i]? with | some r=>some (4,r,95) | none=>none) = _
    rw [List.getElem?_map,List.getElem?_set_self hiL];rfl
   refine ⟨i + 1,4,gatR (narX ns i 0 x),95,by omega,hat _ _,?_⟩
   have hgl:∀ j,(gatR (narX ns i j x)).length = x.gates.length:=fun j=>by simp [gatR,narX_glen]
   simp only [hgl]
   obtain ⟨L9,h9⟩:∃ L9:Nat → List Leg,L9 = fun k=>L.set i (narX ns i k x):=⟨_,rfl⟩
   have e9:∀ k,L9 k = L.set i (narX ns i k x):=fun k=>by rw [h9]
   rw [← e9]
   refine loopO (fun k:Nat=>[(89,I k)]) (fun k=>[(2,.rws 0 5 ((L9 k).map legA) 86 4 4 ((L9 k).map gatR) 95)]) (fun k=>k ≤ x.gates.length) (fun k=>x.gates.length - k) 0 (Nat.zero_le _) ?_ ?_
   · (refine ent_id ?_ ?_ ?_ rfl rfl <;> dsimp only [wellL,legL,legA,gatR,gateL,w32L,U32,id,go_sem,rA,rM,rS] <;> simp [wellL,legL,legA,gatR,gateL,w32L,U32,KFR_iff,KFR_app,KFR,KFL,KF,mtL_same,mtO,nbr])
   intro k hk
   dsimp only [go_sem,rA,rM,rS]
   simp only [e9]
   by_cases hlk:k < x.gates.length
   · refine br_t (by simp;omega) ?_
     dsimp only [go_sem,rA,rM,rS]
     refine rw_ld0 (row:=legA (narX ns i k x)) (by rw [List.getElem?_map,List.getElem?_set_self hiL];rfl) (by simp;omega) ?_
     dsimp only [legA,go_sem,rA,rM,rS]
     refine rw_ixi (rows:=gatR (narX ns i k x)) i k (by omega) (by rw [List.getElem?_map,List.getElem?_set_self hiL];rfl) rfl (by rw [hgl];exact hlk) ?_
     dsimp only [go_sem,rA,rM,rS]
     have hgk:=hgm x.gates[k] (List.getElem_mem _)
     have hrow:(gatR (narX ns i k x))[k]? = some (gateL x.gates[k]):=by rw [gatR,List.getElem?_map,narX_get hlk];rfl
     have hsc:=narX_succ (ns:=ns) (i:=i) hlk
     have hsm:=narX_same (ns:=ns) (i:=i) hlk
     generalize x.gates[k] = gg at hgk hrow hsc hsm
     refine rw_ldi i (by omega) (by rw [List.getElem?_map,List.getElem?_set_self hiL];rfl) hrow ?_
     dsimp only [gateL,go_sem,rA,rM,rS]
     simp (disch:=omega) only [w64_in]
     refine call (atN_ok ns _ (4 * i + k + 2) (by omega) hns (by omega) false) ?_
     dsimp only [U32,go_sem,rA,rM,rS]
     simp (disch:=omega) only [w64_in]
     refine call (atN_ok ns _ (4 * i + k + 3) (by omega) hns (by omega) false) ?_
     dsimp only [U32,go_sem,rA,rM,rS]
     refine call (part_ok gg.opens _ _ (by omega) (by omega) (by omega) (atF_bd ns _) (atF_bd ns _)) ?_
     dsimp only [go_sem,rA,rM,rS]
     refine rw_ldi i (by omega) (by rw [List.getElem?_map,List.getElem?_set_self hiL];rfl) hrow ?_
     dsimp only [gateL,go_sem,rA,rM,rS]
     simp (disch:=omega) only [w64_in]
     refine call (atN_ok ns _ (4 * i + k + 1) (by omega) hns (by omega) false) ?_
     dsimp only [U32,go_sem,rA,rM,rS]
     simp (disch:=omega) only [w64_in]
     refine call (atN_ok ns _ (4 * i + k + 2) (by omega) hns (by omega) false) ?_
     dsimp only [U32,go_sem,rA,rM,rS]
     refine call (part_ok gg.shuts _ _ (by omega) (by omega) (by omega) (atF_bd ns _) (atF_bd ns _)) ?_
     dsimp only [go_sem,rA,rM,rS]
     have hn:narG ns i k gg = if (partF gg.opens (atF ns (4 * i + k + 2)) (atF ns (4 * i + k + 3))).lo ≤ (partF gg.shuts (atF ns (4 * i + k + 1)) (atF ns (4 * i + k + 2))).hi then ⟨partF gg.opens (atF ns (4 * i + k + 2)) (atF ns (4 * i + k + 3)),partF gg.shuts (atF ns (4 * i + k + 1)) (atF ns (4 * i + k + 2))⟩ else gg:=rfl
     generalize partF gg.opens (atF ns (4 * i + k + 2)) (atF ns (4 * i + k + 3)) = o1 at hn
     generalize partF gg.shuts (atF ns (4 * i + k + 1)) (atF ns (4 * i + k + 2)) = s1' at hn
     by_cases hc:o1.lo ≤ s1'.hi
     case neg =>
      refine br_f (by simpa using hc) ?_
      dsimp only [go_sem,rA,rM,rS]
      rw [if_neg hc] at hn
      simp (disch:=omega) only [w64_in]
      refine ⟨k + 1,hlk,by omega,?_⟩
      rw [← hsm hn,← e9]
      (refine ent_id ?_ ?_ ?_ rfl rfl <;> dsimp only [wellL,legL,legA,gatR,gateL,w32L,U32,id,go_sem,rA,rM,rS] <;> simp [wellL,legL,legA,gatR,gateL,w32L,U32,KFR_iff,KFR_app,KFR,KFL,KF,mtL_same,mtO,nbr])
     refine br_t (by simpa using hc) ?_
     dsimp only [go_sem,rA,rM,rS]
     rw [if_pos hc] at hn
     refine rw_sti (l:=L.set i (narX ns i k x)) i ⟨(narX ns i k x).a,(narX ns i k x).b,(narX ns i k x).long,(narX ns i k x).gates.set k ⟨o1,gg.shuts⟩⟩ (by omega) (by simpa using hiL) (by rw [List.getElem_set_self];exact hrow) (by simp [gateL]) (by rw [List.getElem_set_self];simp only [gatR,List.map_set];rfl) (by rw [List.getElem_set_self];rfl) ?_
     rw [List.set_set]
     dsimp only [go_sem,rA,rM,rS]
     refine rw_sti (l:=L.set i ⟨(narX ns i k x).a,(narX ns i k x).b,(narX ns i k x).long,(narX ns i k x).gates.set k ⟨o1,gg.shuts⟩⟩) (row:=gateL ⟨o1,gg.shuts⟩) i (narX ns i (k + 1) x) (by omega) (by simpa using hiL) (by rw [List.getElem_set_self];simp only [gatR,List.getElem?_map];rw [List.getElem?_set_self (by rw [narX_glen];exact hlk)];rfl) (by simp [gateL])
      (by rw [List.getElem_set_self,hsc,hn];simp only [gatR,List.map_set,List.set_set];rfl) (by rw [List.getElem_set_self,hsc];rfl) ?_
     rw [List.set_set]
     dsimp only [go_sem,rA,rM,rS]
     simp (disch:=omega) only [w64_in]
     refine ⟨k + 1,hlk,by omega,?_⟩
     rw [← e9]
     (refine ent_id ?_ ?_ ?_ rfl rfl <;> dsimp only [wellL,legL,legA,gatR,gateL,w32L,U32,id,go_sem,rA,rM,rS] <;> simp [wellL,legL,legA,gatR,gateL,w32L,U32,KFR_iff,KFR_app,KFR,KFL,KF,mtL_same,mtO,nbr])
   refine br_f (by simp;omega) ?_
   dsimp only [go_sem,rA,rM,rS]
   refine gh ent_refl ?_
   dsimp only [go_sem,rA,rM,rS]
   simp (disch:=omega) only [w64_in]
   refine ⟨i + 1,hlt,by omega,?_⟩
   rw [show k = x.gates.length from by omega,← hsucc]
   (refine ent_id ?_ ?_ ?_ rfl rfl <;> dsimp only [wellL,legL,legA,gatR,gateL,w32L,U32,id,go_sem,rA,rM,rS] <;> simp [wellL,legL,legA,gatR,gateL,w32L,U32,KFR_iff,KFR_app,KFR,KFL,KF,mtL_same,mtO,nbr])
 refine br_f (by simp;omega) ?_
 dsimp only [go_sem,rA,rM,rS]
 refine gh (ent_frzw 3 1 2 rfl rfl rfl rfl) ?_
 dsimp only [go_sem,rA,rM,rS]
 rw [frzX_map,show (fun x=>(legA x).set 4 (.sl false 4 (gatR x))) = legL from rfl,show i = l.legs.length from by omega]
 refine call (wreach_ok l hs s day p) ?_
 have hE1:reachE l p s day = 0:=reachE_0 hok s0 s1 h3 h4
 rw [hE1,show ∀ m xs,rowsZ 0 m xs = .sl false m xs from fun _ _=>rfl]
 dsimp only [go_sem,rA,rM,rS]
 refine call (atN_ok ns 0 0 rfl hns (by omega) false) ?_
 dsimp only [U32,go_sem,rA,rM,rS]
 refine call (atN_ok ns 1 1 rfl hns (by omega) false) ?_
 dsimp only [U32,go_sem,rA,rM,rS]
 have hpb:1 ≤ p.lo ∧ p.lo ≤ p.hi ∧ p.hi ≤ 100000:=by have:=hp;simp only [okPace,okSp,decide_eq_true_eq] at this;omega
 refine call (part_ok p _ _ (by omega) (by omega) (by omega) (atF_bd ns 0) (atF_bd ns 1)) ?_
 dsimp only [go_sem,rA,rM,rS]
 have hq:=part_in (s:=p) hpb.2.1 (atF_bd ns 0).1 (atF_bd ns 1).1
 generalize partF p (atF ns 0) (atF ns 1) = q at hq
 have hlaw:=fun v=>narrow_law (s:=s) (day:=day) (v:=v) (narL_in (ns:=ns) hgood) hok hq.1 hq.2.1 hq.2.2 h3 h4 s0 s1
 have hsooner:=fun k d' v (h0:0 ≤ d') (h1:d' ≤ day)=>sooner_law hok (k:=k) (s:=s) (day:=day) (day':=d') (v:=v) h0 h1 h4 s0 s1
 have hokm:=(hlaw 0).1
 have hsm:=small_ok hokm.land
 refine call (wreach_ok ⟨l.wells,narL ns l.legs.length l.legs⟩ hsm s day q) ?_
 have hE2:reachE ⟨l.wells,narL ns l.legs.length l.legs⟩ q s day = 0:=reachE_0 hokm s0 s1 h3 h4
 rw [hE2,show ∀ m xs,rowsZ 0 m xs = .sl false m xs from fun _ _=>rfl]
 dsimp only [go_sem,rA,rM,rS]
 simp (disch:=omega) only [w64_in]
 refine div0 (by omega) ?_
 dsimp only [divr,go_sem,rA,rM,rS]
 have hmod:0 ≤ soon.tmod (day + 1) ∧ soon.tmod (day + 1) < day + 1:=⟨Int.tmod_nonneg _ hsn.1,Int.tmod_lt_of_pos _ (by omega)⟩
 generalize soon.tmod (day + 1) = sm at hmod
 simp (disch:=omega) only [w64_in]
 refine call (wreach_ok l hs s (day - sm) p) ?_
 have hE3:reachE l p s (day - sm) = 0:=reachE_0 hok s0 s1 (by omega) (by omega)
 rw [hE3,show ∀ m xs,rowsZ 0 m xs = .sl false m xs from fun _ _=>rfl]
 dsimp only [go_sem,rA,rM,rS]
 have hln1:=reachL_len (l:=l) (p:=p) (s:=s) (day:=day)
 have hln2:=reachL_len (l:=⟨l.wells,narL ns l.legs.length l.legs⟩) (p:=q) (s:=s) (day:=day)
 have hln3:=reachL_len (l:=l) (p:=p) (s:=s) (day:=day - sm)
 simp only at hln2
 repeat (refine gb ?_;dsimp only [go_sem,rA,rM,rS])
 simp only [List.length_map,hln1,hln2,hln3]
 refine br_f (by simp) ?_
 dsimp only [go_sem,rA,rM,rS]
 simp only [List.length_map,hln1]
 have g1:∀ (v:Nat),v < l.wells.length → (reachL l p s day)[v]? = some ⟨reachV false l p s day v,reachV true l p s day v⟩:=fun v hv=>reachL_at hv
 have g2:∀ (v:Nat),v < l.wells.length → (reachL ⟨l.wells,narL ns l.legs.length l.legs⟩ q s day)[v]? = some ⟨reachV false ⟨l.wells,narL ns l.legs.length l.legs⟩ q s day v,reachV true ⟨l.wells,narL ns l.legs.length l.legs⟩ q s day v⟩:=fun v hv=>reachL_at (l:=⟨l.wells,narL ns l.legs.length l.legs⟩) hv
 have g3:∀ (v:Nat),v < l.wells.length → (reachL l p s (day - sm))[v]? = some ⟨reachV false l p s (day - sm) v,reachV true l p s (day - sm) v⟩:=fun v hv=>reachL_at hv
 generalize reachL l p s day = R1 at hln1 g1
 generalize reachL ⟨l.wells,narL ns l.legs.length l.legs⟩ q s day = R2 at hln2 g2
 generalize reachL l p s (day - sm) = R3 at hln3 g3
 refine loopO (fun v:Nat=>[(212,I v)]) (fun _=>[]) (fun v=>v ≤ l.wells.length) (fun v=>l.wells.length - v) 0 (Nat.zero_le _) ?_ ?_
 · (refine ent_id ?_ ?_ ?_ rfl rfl <;> dsimp only [wellL,legL,legA,gatR,gateL,w32L,U32,spanL,id,go_sem,rA,rM,rS] <;> simp [wellL,legL,legA,gatR,gateL,w32L,U32,spanL,KFR_iff,KFR_app,KFR,KFL,KF,mtL_same,mtO,nbr])
 intro v hv
 dsimp only [go_sem,rA,rM,rS]
 by_cases hlv:v < l.wells.length
 · refine br_t (by simp;omega) ?_
   dsimp only [go_sem,rA,rM,rS]
   obtain ⟨_,n1,n2⟩:=hlaw (v:Int)
   have n3:=hsooner false (day - sm) v (by omega) (by omega)
   have n4:=hsooner true (day - sm) v (by omega) (by omega)
   refine ixs_map v (by omega) rfl ?_
   dsimp only [spanL,go_sem,rA,rM,rS]
   refine ixs_map v (by omega) rfl ?_
   dsimp only [spanL,go_sem,rA,rM,rS]
   refine call (inner_ok R2[v] R1[v]) ?_
   dsimp only [go_sem,rA,rM,rS]
   have e1:=at_of (show v < R1.length by omega) (g1 v hlv)
   have e2:=at_of (show v < R2.length by omega) (g2 v hlv)
   have e3:=at_of (show v < R3.length by omega) (g3 v hlv)
   rw [e1,e2]
   rw [show (decide (reachV false l p s day v ≤ reachV false ⟨l.wells,narL ns l.legs.length l.legs⟩ q s day v) && decide (reachV true ⟨l.wells,narL ns l.legs.length l.legs⟩ q s day v ≤ reachV true l p s day v)) = true from by simp [n1,n2]]
   repeat (refine gb_run rfl ?_;dsimp only [go_sem,rA,rM,rS])
   refine ixs_map v (by omega) rfl ?_
   dsimp only [spanL,go_sem,rA,rM,rS]
   repeat (refine gb_run rfl ?_;dsimp only [go_sem,rA,rM,rS])
   refine ixs_map v (by omega) rfl ?_
   dsimp only [spanL,go_sem,rA,rM,rS]
   repeat (refine gb_run rfl ?_;dsimp only [go_sem,rA,rM,rS])
   rw [show (!true || decide (R3[v].lo > R1[v].lo)) = false from by rw [e3,e1];simp only [Bool.not_true,Bool.false_or,decide_eq_false_iff_not];omega]
   repeat (refine gb_run rfl ?_;dsimp only [go_sem,rA,rM,rS])
   refine ixs_map v (by omega) rfl ?_
   dsimp only [spanL,go_sem,rA,rM,rS]
   repeat (refine gb_run rfl ?_;dsimp only [go_sem,rA,rM,rS])
   refine ixs_map v (by omega) rfl ?_
   dsimp only [spanL,go_sem,rA,rM,rS]
   repeat (refine gb_run rfl ?_;dsimp only [go_sem,rA,rM,rS])
   refine br_f (by rw [e3,e1];simp only [Bool.false_or,decide_eq_false_iff_not];omega) ?_
   dsimp only [go_sem,rA,rM,rS]
   rw [w64_in (n:=(v:Int) + 1) (by omega) (by omega)]
   refine ⟨v + 1,hlv,by omega,?_⟩
   (refine ent_id ?_ ?_ ?_ rfl rfl <;> dsimp only [wellL,legL,legA,gatR,gateL,w32L,U32,spanL,id,go_sem,rA,rM,rS] <;> simp [wellL,legL,legA,gatR,gateL,w32L,U32,spanL,KFR_iff,KFR_app,KFR,KFL,KF,mtL_same,mtO,nbr])
 refine br_f (by simp;omega) ?_
 dsimp only [go_sem,rA,rM,rS]
 refine gh ent_refl ?_
 dsimp only [go_sem,rA,rM,rS]
end Go.Proofs.Ytkjldleglbbkeaa
