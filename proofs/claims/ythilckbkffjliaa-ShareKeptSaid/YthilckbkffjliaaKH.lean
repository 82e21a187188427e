/- Walks and plain laws that lead to the given statement, part 8 of 9. -/
import Derived.Test.YthilckbkffjliaaKG
import Derived.Laws.BytesString
import Derived.Test.YthilckbkffjliaaProg
open Nat renaming reduceAdd→rA,reduceMul→rM,reduceSub→rS,beq_refl→nbr
namespace Go.Sx
open Go
def byS (ns:List Int):ByteArray:=ns.foldl (fun r n=>r.push (UInt8.ofNat n.toNat)) ByteArray.empty
theorem RL_vals {w:World} {E:Env} {n ok:Nat → Prop}:∀ {l ys:List Value},RL w E n ok (l.map SV.v) ys → ys = l
 | [],ys,h=>by simpa [RL] using h
 | x :: l,ys,h=>by
  simp only [List.map_cons,RL] at h
  obtain ⟨y,r,rfl,h1,h2⟩:=h
  simp only [R] at h1
  rw [h1,RL_vals h2]
theorem flat1 {α β : Type} (f:α → β):∀ l:List α,(l.map fun n=>[f n]).flatten = l.map f
 | []=>rfl
 | x :: l=>by simp only [List.map_cons,List.flatten_cons,flat1 f l];rfl
theorem raw_str {P:Program} {d:Option Nat} {u src dst ty e:Nat} {ns:List Int} {s:SV} {σ : St} {r:KT} {K:RK} (hl:lk u σ.fr = s) (hng:∀ j b u,s ≠ .gd j b u) (hs:sprV 1 s = some (ns.map fun n=>[SV.v (.int .u8 n)]))
 (hsrc:P.underlying src = some (.slice e)) (hdst:P.underlying dst = some .string) (he:P.underlying e = some (.int .u8)) (hk:putK d (.v (.string (byS ns))) none σ r K):RAW P d (.convert src dst (.tmp u)) ty σ r K:=by
 intro o C E a w next Q h1 h2 h3 hS hn hq
 have hR:=FR_R (hS.fr u) (fun j b u' e=>hng j b u' (hl ▸ e))
 rw [hl] at hR
 obtain ⟨cs,⟨ad,cap,y0,y1,y2,y3⟩,hcs,_⟩:=sprV_shows hR hs
 have hflat:(ns.map fun n=>[SV.v (.int .u8 n)]).flatten = (ns.map (Value.int .u8)).map SV.v:=by rw [flat1 (fun n=>SV.v (.int .u8 n)),List.map_map];rfl
 rw [hflat] at hcs
 have hcs:=RL_vals hcs
 subst hcs
 have hrun:(convert src dst (a.tmps.getD u undef)).run P w = .ok (.string (byS ns)) w:=by
  rw [y0,run_convert_bytes_string w src dst e ad _ cap hsrc he hdst]
  cases ad with
  | none =>
   have:ns = []:=by
    rcases y3 with h | ⟨b,off,h,_⟩
    · simpa using h
    · cases h
   subst this
   simp [Conv.bytesToString,Sem.run_pure,byS]
  | some ad =>
   refine run_bytesToString w ad _ cap ns ?_
   rcases y3 with h | ⟨b,off,h,hc⟩
   · have:ns = []:=by simpa using h
     subst this
     simp [loadCells,loadCellsFrom,Sem.run_pure]
   · cases h
     have hlen:(ns.map fun n=>[SV.v (.int .u8 n)]).length = (ns.map (Value.int .u8)).length:=by simp
     rw [hlen]
     exact run_loadCells_list w _ _ (fun j v hv=>by rw [addr_add];exact hc j v hv)
 have hx:(execOp a.eval o).run P w = .ok (.value (.string (byS ns))) w:=by
  obtain ⟨dst',op',ty',pos,after,guard⟩:=o
  simp only at h2;subst h2
  simp only [Array.getD_eq_getD_getElem?] at hrun
  simp only [execOp,Act.eval]
  simp [Sem.run_bind,hrun]
 refine wpq_res hx (by simp) ?_
 show next (a.put o.dst _) w
 rcases putK_ex hk with ⟨g1,g2⟩ | ⟨t,g1,g2,g3,g4,g5⟩
 · rw [h1,g1];exact hn _ E _ _ g2 hS
 · rw [h1,g1]
   exact hn _ E _ _ g5 (Sim_put hS (fun b hb _=>⟨hb,rfl⟩) (fun _ _=>Ele.rfl) (Nat.le_refl _) hS.hs g2 g3 (fun j b u e=>by rw [e] at g4;cases g4) (by simp only [R]))
theorem raw_seqc {P:Program} {d:Option Nat} {u t t' ty:Nat} {op:BinOp} {q:Bool} {x y:ByteArray} {σ : St} {r:KT} {K:RK} (hu:lk u σ.fr = .v (.string x)) (hq0:(op = .eql ∧ q = (x.toList == y.toList)) ∨ (op = .neq ∧ q = !(x.toList == y.toList)))
 (hk:putK d (.v (.bool q)) none σ r K):RAW P d (.binOp op t (.tmp u) (.const (.string y)) t') ty σ r K:=by
 intro o C E a w next Q h1 h2 h3 hS hn hq
 have hx:a.eval (.tmp u) = .string x:=by
  have:=hS.fr u
  rw [hu] at this
  simp only [FR,R] at this
  exact this
 have hrun:(execOp a.eval o).run P w =   .ok (.value (.bool q)) w:=by
  obtain ⟨dst',op',ty',pos,after,guard⟩:=o
  simp only at h2;subst h2
  have hc:a.eval (.const (.string y)) = .string y:=rfl
  simp only [execOp,hx,hc]
  rcases hq0 with ⟨rfl,rfl⟩ | ⟨rfl,rfl⟩ <;> simp [Sem.run_bind,eqGuard,binOp,Op.stringOp,Sem.run_pure]
 refine wpq_res hrun (by simp) ?_
 show next (a.put o.dst _) w
 rcases putK_ex hk with ⟨g1,g2⟩ | ⟨t,g1,g2,g3,g4,g5⟩
 · rw [h1,g1];exact hn _ E _ _ g2 hS
 · rw [h1,g1]
   exact hn _ E _ _ g5 (Sim_put hS (fun b hb _=>⟨hb,rfl⟩) (fun _ _=>Ele.rfl) (Nat.le_refl _) hS.hs g2 g3 (fun j b u e=>by rw [e] at g4;cases g4) (by simp only [R]))
end Go.Sx
set_option maxRecDepth 100000
set_option maxHeartbeats 4000000
namespace Go.Proofs.Ythilckbkffjliaa
open Go Go.Sx Go.Azalai
theorem same22_ok (a b:List Int) (ha:a.length ≤ 1000000) (hb:b.length ≤ 1000000) (c c':Bool):Ct Try.prog 22 [.sl c 1 (a.map intL),.sl c' 1 (b.map intL)] (B (decide (a = b))):=by
 refine t22 (by simp [KFR_iff,intL,KFL,KF]) (by simp [KFL,KF]) ?_
 dsimp only [c22,r22,go_sem,rA,rM,rS]
 simp only [List.length_map]
 by_cases hl:a.length = b.length
 case neg =>
  refine br_t (by simp;omega) ?_
  dsimp only [go_sem,rA,rM,rS]
  have:a ≠ b:=fun e=>hl (by rw [e])
  simp [this]
 refine br_f (by simp;omega) ?_
 dsimp only [go_sem,rA,rM,rS]
 refine loopO (fun j:Nat=>[(5,I j)]) (fun _=>[]) (fun j=>j ≤ a.length ∧ a.take j = b.take j) (fun j=>a.length - j) 0 ⟨Nat.zero_le _,rfl⟩ ?_ ?_
 · (refine ent_id ?_ ?_ ?_ rfl rfl <;> dsimp only [intL,id,go_sem,rA,rM,rS] <;> simp [intL,KFR_iff,KFR_app,KFR,KFL,KF,mtL_same,mtO,nbr])
 rintro j ⟨hj,ht⟩
 dsimp only [go_sem,rA,rM,rS]
 simp only [List.length_map]
 by_cases hlt:j < a.length
 · refine br_t (by simpa using hlt) ?_
   dsimp only [go_sem,rA,rM,rS]
   have hltb:j < b.length:=by omega
   refine ixs_map j hlt rfl ?_
   dsimp only [go_sem,rA,rM,rS]
   refine ixs_map j hltb rfl ?_
   dsimp only [intL,go_sem,rA,rM,rS]
   by_cases he:a[j] = b[j]
   · refine br_f (by rw [he];simp [ngB]) ?_
     dsimp only [go_sem,rA,rM,rS]
     rw [w64_in (n:=(j:Int) + 1) (by omega) (by omega)]
     refine ⟨j + 1,⟨hlt,?_⟩,by omega,?_⟩
     · rw [List.take_succ_eq_append_getElem hlt,List.take_succ_eq_append_getElem hltb,ht,he]
     (refine ent_id ?_ ?_ ?_ rfl rfl <;> dsimp only [intL,id,go_sem,rA,rM,rS] <;> simp [intL,KFR_iff,KFR_app,KFR,KFL,KF,mtL_same,mtO,nbr])
   · refine br_t ?_ ?_
     · simpa using he
     dsimp only [go_sem,rA,rM,rS]
     have:a ≠ b:=fun e=>he (by subst e;rfl)
     simp [this]
 refine br_f (by simp;omega) ?_
 dsimp only [go_sem,rA,rM,rS]
 have:a = b:=by
  rw [List.take_of_length_le (by omega),List.take_of_length_le (by omega)] at ht
  exact ht
 simp [this]
theorem same33_ok (a b:List (Int × Int)) (ha:a.length ≤ 1000000) (hb:b.length ≤ 1000000) (c c':Bool):Ct Try.prog 33 [.sl c 2 (a.map pairL),.sl c' 2 (b.map pairL)] (B (decide (a = b))):=by
 refine t33 (by simp [KFR_iff,pairL,KFL,KF]) (by simp [KFL,KF]) ?_
 dsimp only [c33,r33,go_sem,rA,rM,rS]
 simp only [List.length_map]
 by_cases hl:a.length = b.length
 case neg =>
  refine br_t (by simp;omega) ?_
  dsimp only [go_sem,rA,rM,rS]
  have:a ≠ b:=fun e=>hl (by rw [e])
  simp [this]
 refine br_f (by simp;omega) ?_
 dsimp only [go_sem,rA,rM,rS]
 refine loopO (fun j:Nat=>[(5,I j)]) (fun _=>[]) (fun j=>j ≤ a.length ∧ a.take j = b.take j) (fun j=>a.length - j) 0 ⟨Nat.zero_le _,rfl⟩ ?_ ?_
 · (refine ent_id ?_ ?_ ?_ rfl rfl <;> dsimp only [pairL,id,go_sem,rA,rM,rS] <;> simp [pairL,KFR_iff,KFR_app,KFR,KFL,KF,mtL_same,mtO,nbr])
 rintro j ⟨hj,ht⟩
 dsimp only [go_sem,rA,rM,rS]
 simp only [List.length_map]
 by_cases hlt:j < a.length
 · refine br_t (by simpa using hlt) ?_
   dsimp only [go_sem,rA,rM,rS]
   have hltb:j < b.length:=by omega
   refine ixs_map j hlt rfl ?_
   dsimp only [go_sem,rA,rM,rS]
   refine ixs_map j hltb rfl ?_
   dsimp only [pairL,go_sem,rA,rM,rS]
   by_cases he:a[j] = b[j]
   · refine br_f (by rw [he];simp [ngB]) ?_
     dsimp only [go_sem,rA,rM,rS]
     rw [w64_in (n:=(j:Int) + 1) (by omega) (by omega)]
     refine ⟨j + 1,⟨hlt,?_⟩,by omega,?_⟩
     · rw [List.take_succ_eq_append_getElem hlt,List.take_succ_eq_append_getElem hltb,ht,he]
     (refine ent_id ?_ ?_ ?_ rfl rfl <;> dsimp only [pairL,id,go_sem,rA,rM,rS] <;> simp [pairL,KFR_iff,KFR_app,KFR,KFL,KF,mtL_same,mtO,nbr])
   · refine br_t ?_ ?_
     · apply Decidable.byContradiction;intro hq;simp at hq;exact he (Prod.ext hq.1 hq.2)
     dsimp only [go_sem,rA,rM,rS]
     have:a ≠ b:=fun e=>he (by subst e;rfl)
     simp [this]
 refine br_f (by simp;omega) ?_
 dsimp only [go_sem,rA,rM,rS]
 have:a = b:=by
  rw [List.take_of_length_le (by omega),List.take_of_length_le (by omega)] at ht
  exact ht
 simp [this]
def greatF (p:Pact) (l:List Letter):Bool:=decide (p.partners.length > 12) || decide (l.length > 150)
theorem great_ok (p:Pact) (l:List Letter) (c:Bool):Ct Try.prog 16 [.agg (pactL p),.sl c 8 (l.map letterL)] (B (greatF p l)):=by
 refine t16 (by simp [pactL,partnerL,letterL,KFR_iff,KFL,KF]) (by simp [KFL,KF]) ?_
 dsimp only [c16,r16,pactL,go_sem,rA,rM,rS]
 repeat (refine gb ?_;dsimp only [go_sem,rA,rM,rS])
 simp only [List.length_map]
 simp only [greatF,Option.some.injEq,SV.v.injEq,Value.bool.injEq]
 rw [Bool.eq_iff_iff]
 simp
 omega
theorem span60 (a b:Int):Ct Try.prog 60 [I a,I b] (.agg (pairL (a,b))):=by
 refine t60 (by simp [KFL,KF]) (by simp [pairL,KFL,KF]) ?_
 dsimp only [c60,r60,pairL,go_sem,rA,rM,rS]
theorem Divide_ok (p:Pact) (r:Int) (hs:smallP p):Ct Try.prog 18 [.agg (pactL p),I r] (.tup [if okPact p = true ∧ inR (-10000000000) 10000000000 r = true then .sl false 1 ((divideF p r).map intL) else .v (.slice none 0 0),I (if okPact p = true then (if inR (-10000000000) 10000000000 r = true then 0 else 2) else 80)]):=by
 refine t18 (by simp [pactL,partnerL,letterL,KFR_iff,KFL,KF]) ⟨by split <;> simp [KF,KFR_iff,intL,KFL],by simp [KF],trivial⟩ ?_
 dsimp only [c18,r18,pactL,go_sem,rA,rM,rS]
 refine call (check_ok p hs) ?_
 dsimp only [go_sem,rA,rM,rS]
 by_cases hp:okPact p = true
 case neg =>
  refine br_t (by simp [errP,hp]) ?_
  dsimp only [go_sem,rA,rM,rS]
  simp [errP,hp]
 refine br_f (by simp [errP,hp]) ?_
 dsimp only [go_sem,rA,rM,rS]
 refine call (in1 (-10000000000) 10000000000 _ _) ?_
 dsimp only [go_sem,rA,rM,rS]
 by_cases hr:inR (-10000000000) 10000000000 r = true
 case neg =>
  refine br_t (by simpa using hr) ?_
  dsimp only [go_sem,rA,rM,rS]
  simp [hp,hr]
 refine br_f (by simpa using hr) ?_
 dsimp only [go_sem,rA,rM,rS]
 have hb:=hr
 simp only [inR,decide_eq_true_eq] at hb
 refine call (divide_ok p hp (by omega) (by omega)) ?_
 dsimp only [go_sem,rA,rM,rS]
 simp [hp,hr]
theorem rletter_ok (p:Pact) (x:Letter) (hs:smallP p):Ct Try.prog 36 [.agg (pactL p),.agg (letterL x)] (B (okLetter p x)):=by
 refine t36 (by simp [pactL,partnerL,letterL,KFR_iff,KFL,KF]) (by simp [KFL,KF]) ?_
 dsimp only [c36,r36,pactL,letterL,go_sem,rA,rM,rS]
 refine call (within_ok _ _ _) ?_
 dsimp only [go_sem,rA,rM,rS]
 repeat (first | (refine gb ?_;dsimp only [go_sem,rA,rM,rS]) | (refine call (within_ok _ _ _) ?_;dsimp only [go_sem,rA,rM,rS]))
 by_cases h1:(inR 0 9999 x.id && inR 0 100000 x.day) = true
 case neg =>
  refine br_t (by grind) ?_
  dsimp only [go_sem,rA,rM,rS]
  rw [Bool.not_eq_true] at h1
  simp only [okLetter,h1,Bool.false_and]
 refine br_f (by grind) ?_
 dsimp only [go_sem,rA,rM,rS]
 refine call (rat_ok p x.who hs) ?_
 dsimp only [go_sem,rA,rM,rS]
 refine call (within_ok _ _ _) ?_
 dsimp only [go_sem,rA,rM,rS]
 refine call (within_ok _ _ _) ?_
 dsimp only [go_sem,rA,rM,rS]
 rw [atF_ge p x.who]
 by_cases k1:x.kind = 1
 · simp only [k1]
   repeat (first | (refine br_t rfl ?_;dsimp only [go_sem,rA,rM,rS]) | (refine br_f rfl ?_;dsimp only [go_sem,rA,rM,rS]))
   repeat (first | (refine gb ?_;dsimp only [go_sem,rA,rM,rS]) | (refine call (within_ok _ _ _) ?_;dsimp only [go_sem,rA,rM,rS]) | (refine call (rat_ok p x.other hs) ?_;dsimp only [go_sem,rA,rM,rS]))
   have g2:=atF_ge p x.other
   simp only [Option.some.injEq,SV.v.injEq,Value.bool.injEq]
   rw [Bool.eq_iff_iff]
   obtain ⟨id',day,kind,who,other,animal,rials,mouth⟩:=x
   simp only at k1
   subst k1
   simp only [okLetter] at h1 ⊢
   simp only [h1]
   try rw [g2]
   simp
   try grind
 by_cases k2:x.kind = 2
 · simp only [k2]
   repeat (first | (refine br_t rfl ?_;dsimp only [go_sem,rA,rM,rS]) | (refine br_f rfl ?_;dsimp only [go_sem,rA,rM,rS]))
   repeat (first | (refine gb ?_;dsimp only [go_sem,rA,rM,rS]) | (refine call (within_ok _ _ _) ?_;dsimp only [go_sem,rA,rM,rS]) | (refine call (rat_ok p x.other hs) ?_;dsimp only [go_sem,rA,rM,rS]))
   have g2:=atF_ge p x.other
   simp only [Option.some.injEq,SV.v.injEq,Value.bool.injEq]
   rw [Bool.eq_iff_iff]
   obtain ⟨id',day,kind,who,other,animal,rials,mouth⟩:=x
   simp only at k2
   subst k2
   simp only [okLetter] at h1 ⊢
   simp only [h1]
   try rw [g2]
   simp
   try grind
 by_cases k3:x.kind = 3
 · simp only [k3]
   repeat (first | (refine br_t rfl ?_;dsimp only [go_sem,rA,rM,rS]) | (refine br_f rfl ?_;dsimp only [go_sem,rA,rM,rS]))
   repeat (first | (refine gb ?_;dsimp only [go_sem,rA,rM,rS]) | (refine call (within_ok _ _ _) ?_;dsimp only [go_sem,rA,rM,rS]) | (refine call (rat_ok p x.other hs) ?_;dsimp only [go_sem,rA,rM,rS]))
   have g2:=atF_ge p x.other
   simp only [Option.some.injEq,SV.v.injEq,Value.bool.injEq]
   rw [Bool.eq_iff_iff]
   obtain ⟨id',day,kind,who,other,animal,rials,mouth⟩:=x
   simp only at k3
   subst k3
   simp only [okLetter] at h1 ⊢
   simp only [h1]
   try rw [g2]
   simp
   try grind
 by_cases k4:x.kind = 4
 · simp only [k4]
   repeat (first | (refine br_t rfl ?_;dsimp only [go_sem,rA,rM,rS]) | (refine br_f rfl ?_;dsimp only [go_sem,rA,rM,rS]))
   repeat (first | (refine gb ?_;dsimp only [go_sem,rA,rM,rS]) | (refine call (within_ok _ _ _) ?_;dsimp only [go_sem,rA,rM,rS]) | (refine call (rat_ok p x.other hs) ?_;dsimp only [go_sem,rA,rM,rS]))
   have g2:=atF_ge p x.other
   simp only [Option.some.injEq,SV.v.injEq,Value.bool.injEq]
   rw [Bool.eq_iff_iff]
   obtain ⟨id',day,kind,who,other,animal,rials,mouth⟩:=x
   simp only at k4
   subst k4
   simp only [okLetter] at h1 ⊢
   simp only [h1]
   try rw [g2]
   simp
   try grind
 by_cases k5:x.kind = 5
 · simp only [k5]
   repeat (first | (refine br_t rfl ?_;dsimp only [go_sem,rA,rM,rS]) | (refine br_f rfl ?_;dsimp only [go_sem,rA,rM,rS]))
   repeat (first | (refine gb ?_;dsimp only [go_sem,rA,rM,rS]) | (refine call (within_ok _ _ _) ?_;dsimp only [go_sem,rA,rM,rS]) | (refine call (rat_ok p x.other hs) ?_;dsimp only [go_sem,rA,rM,rS]))
   have g2:=atF_ge p x.other
   simp only [Option.some.injEq,SV.v.injEq,Value.bool.injEq]
   rw [Bool.eq_iff_iff]
   obtain ⟨id',day,kind,who,other,animal,rials,mouth⟩:=x
   simp only at k5
   subst k5
   simp only [okLetter] at h1 ⊢
   simp only [h1]
   try rw [g2]
   simp
   try grind
 by_cases k6:x.kind = 6
 · simp only [k6]
   repeat (first | (refine br_t rfl ?_;dsimp only [go_sem,rA,rM,rS]) | (refine br_f rfl ?_;dsimp only [go_sem,rA,rM,rS]))
   repeat (first | (refine gb ?_;dsimp only [go_sem,rA,rM,rS]) | (refine call (within_ok _ _ _) ?_;dsimp only [go_sem,rA,rM,rS]) | (refine call (rat_ok p x.other hs) ?_;dsimp only [go_sem,rA,rM,rS]))
   have g2:=atF_ge p x.other
   simp only [Option.some.injEq,SV.v.injEq,Value.bool.injEq]
   rw [Bool.eq_iff_iff]
   obtain ⟨id',day,kind,who,other,animal,rials,mouth⟩:=x
   simp only at k6
   subst k6
   simp only [okLetter] at h1 ⊢
   simp only [h1]
   try rw [g2]
   simp
   try grind
 by_cases k7:x.kind = 7
 · simp only [k7]
   repeat (first | (refine br_t rfl ?_;dsimp only [go_sem,rA,rM,rS]) | (refine br_f rfl ?_;dsimp only [go_sem,rA,rM,rS]))
   repeat (first | (refine gb ?_;dsimp only [go_sem,rA,rM,rS]) | (refine call (within_ok _ _ _) ?_;dsimp only [go_sem,rA,rM,rS]) | (refine call (rat_ok p x.other hs) ?_;dsimp only [go_sem,rA,rM,rS]))
   have g2:=atF_ge p x.other
   simp only [Option.some.injEq,SV.v.injEq,Value.bool.injEq]
   rw [Bool.eq_iff_iff]
   obtain ⟨id',day,kind,who,other,animal,rials,mouth⟩:=x
   simp only at k7
   subst k7
   simp only [okLetter] at h1 ⊢
   simp only [h1]
   try rw [g2]
   simp
   try grind
 by_cases k8:x.kind = 8
 · simp only [k8]
   repeat (first | (refine br_t rfl ?_;dsimp only [go_sem,rA,rM,rS]) | (refine br_f rfl ?_;dsimp only [go_sem,rA,rM,rS]))
   repeat (first | (refine gb ?_;dsimp only [go_sem,rA,rM,rS]) | (refine call (within_ok _ _ _) ?_;dsimp only [go_sem,rA,rM,rS]) | (refine call (rat_ok p x.other hs) ?_;dsimp only [go_sem,rA,rM,rS]))
   have g2:=atF_ge p x.other
   simp only [Option.some.injEq,SV.v.injEq,Value.bool.injEq]
   rw [Bool.eq_iff_iff]
   obtain ⟨id',day,kind,who,other,animal,rials,mouth⟩:=x
   simp only at k8
   subst k8
   simp only [okLetter] at h1 ⊢
   simp only [h1]
   try rw [g2]
   simp
   try grind
 repeat (refine br_f (by simp [k1,k2,k3,k4,k5,k6,k7,k8]) ?_;dsimp only [go_sem,rA,rM,rS])
 repeat (refine gb ?_;dsimp only [go_sem,rA,rM,rS])
 simp [okLetter,k1,k2,k3,k4,k5,k6,k7,k8]
end Go.Proofs.Ythilckbkffjliaa
set_option maxRecDepth 100000
namespace Go.Proofs.Ythilckbkffjliaa
open Go Go.Sx
def c34:SC:=(.seq (.reg [
 ⟨some 0,.mv (.c (.bool false)),none,[]⟩])
 (.seq (.reg [
 ⟨some 15,.call 38 [],none,[]⟩,
 ⟨some 16,.call 18 [.t 15,.c (.int .i64 1001)],none,[]⟩,
 ⟨some 14,.mv (.t 16),none,[]⟩,
 ⟨some 17,.ext (.t 14) 0,none,[]⟩,
 ⟨some 18,.ext (.t 14) 1,none,[]⟩,
 ⟨some 1,.mv (.t 17),none,[]⟩,
 ⟨some 2,.mv (.t 18),none,[]⟩])
 (.seq (.reg [
 ⟨some 20,.call 38 [],none,[]⟩,
 ⟨some 21,.call 18 [.t 20,.c (.int .i64 (-100))],none,[]⟩,
 ⟨some 19,.mv (.t 21),none,[]⟩,
 ⟨some 22,.ext (.t 19) 0,none,[]⟩,
 ⟨some 23,.ext (.t 19) 1,none,[]⟩,
 ⟨some 3,.mv (.t 22),none,[]⟩,
 ⟨some 4,.mv (.t 23),none,[]⟩])
 (.seq (.reg [
 ⟨some 25,.call 38 [],none,[]⟩,
 ⟨some 26,.call 39 [],none,[]⟩,
 ⟨some 27,.call 29 [.t 25,.t 26],none,[]⟩,
 ⟨some 24,.mv (.t 27),none,[]⟩,
 ⟨some 28,.ext (.t 24) 0,none,[]⟩,
 ⟨some 29,.ext (.t 24) 1,none,[]⟩,
 ⟨some 5,.mv (.t 28),none,[]⟩,
 ⟨some 6,.mv (.t 29),none,[]⟩])
 (.seq (.reg [
 ⟨some 31,.call 38 [],none,[]⟩,
 ⟨some 32,.call 39 [],none,[]⟩,
 ⟨some 33,.call 41 [],none,[]⟩,
 ⟨some 34,.app 8 64 50 (.t 32) (.t 33),none,[]⟩,
 ⟨some 35,.call 29 [.t 31,.t 34],none,[]⟩,
 ⟨some 30,.mv (.t 35),none,[]⟩,
 ⟨some 36,.ext (.t 30) 0,none,[]⟩,
 ⟨some 37,.ext (.t 30) 1,none,[]⟩,
 ⟨some 7,.mv (.t 36),none,[]⟩,
 ⟨some 8,.mv (.t 37),none,[]⟩])
 (.seq (.reg [
 ⟨some 39,.call 38 [],none,[]⟩,
 ⟨some 40,.call 39 [],none,[]⟩,
 ⟨some 41,.call 40 [],none,[]⟩,
 ⟨some 42,.bsl 8 50 [.t 41],none,[]⟩,
 ⟨some 43,.app 8 64 50 (.t 40) (.t 42),none,[]⟩,
 ⟨some 44,.call 24 [.t 39,.t 43],none,[]⟩,
 ⟨some 38,.mv (.t 44),none,[]⟩,
 ⟨some 45,.ext (.t 38) 0,none,[]⟩,
 ⟨some 46,.ext (.t 38) 1,none,[]⟩,
 ⟨some 47,.ext (.t 38) 2,none,[]⟩,
 ⟨some 9,.mv (.t 45),none,[]⟩,
 ⟨some 10,.mv (.t 46),none,[]⟩,
 ⟨some 11,.mv (.t 47),none,[]⟩])
 (.seq (.reg [
 ⟨some 49,.call 38 [],none,[]⟩,
 ⟨some 50,.call 59 [],none,[]⟩,
 ⟨some 51,.call 31 [.t 49,.t 50],none,[]⟩,
 ⟨some 48,.mv (.t 51),none,[]⟩,
 ⟨some 52,.ext (.t 48) 0,none,[]⟩,
 ⟨some 53,.ext (.t 48) 1,none,[]⟩,
 ⟨some 12,.mv (.t 52),none,[]⟩,
 ⟨some 13,.mv (.t 53),none,[]⟩])
 (.seq (.reg [
 ⟨some 54,.mv (.t 2),none,[]⟩,
 ⟨some 55,.bin .eql (.t 54) (.c (.int .i64 0)),none,[]⟩,
 ⟨some 56,.mv (.t 55),none,[]⟩,
 ⟨some 57,.mv (.t 1),some (56,true),[]⟩,
 ⟨some 58,.bsl 1 3 [.c (.int .i64 501),.c (.int .i64 200),.c (.int .i64 300)],some (56,true),[]⟩,
 ⟨some 59,.call 22 [.t 57,.t 58],some (56,true),[]⟩,
 ⟨some 60,.pick (.t 56) (.t 59) (.c (.bool false)),none,[]⟩,
 ⟨some 61,.mv (.t 60),none,[]⟩,
 ⟨some 62,.mv (.t 4),some (61,true),[]⟩,
 ⟨some 63,.bin .eql (.t 62) (.c (.int .i64 0)),some (61,true),[]⟩,
 ⟨some 64,.pick (.t 61) (.t 63) (.c (.bool false)),none,[]⟩,
 ⟨some 65,.mv (.t 64),none,[]⟩,
 ⟨some 66,.mv (.t 3),some (65,true),[]⟩,
 ⟨some 67,.bsl 1 3 [.c (.int .i64 (-67)),.c (.int .i64 (-33)),.c (.int .i64 0)],some (65,true),[]⟩,
 ⟨some 68,.call 22 [.t 66,.t 67],some (65,true),[]⟩,
 ⟨some 69,.pick (.t 65) (.t 68) (.c (.bool false)),none,[]⟩,
 ⟨some 70,.mv (.t 69),none,[]⟩,
 ⟨some 71,.mv (.t 6),some (70,true),[]⟩,
 ⟨some 72,.bin .eql (.t 71) (.c (.int .i64 0)),some (70,true),[]⟩,
 ⟨some 73,.pick (.t 70) (.t 72) (.c (.bool false)),none,[]⟩,
 ⟨some 74,.mv (.t 73),none,[]⟩,
 ⟨some 75,.mv (.t 5),some (74,true),[]⟩,
 ⟨some 76,.bsl 1 3 [.c (.int .i64 951),.c (.int .i64 440),.c (.int .i64 310)],some (74,true),[]⟩,
 ⟨some 77,.call 22 [.t 75,.t 76],some (74,true),[]⟩,
 ⟨some 78,.pick (.t 74) (.t 77) (.c (.bool false)),none,[]⟩,
 ⟨some 79,.mv (.t 78),none,[]⟩,
 ⟨some 80,.mv (.t 8),some (79,true),[]⟩,
 ⟨some 81,.bin .eql (.t 80) (.c (.int .i64 0)),some (79,true),[]⟩,
 ⟨some 82,.pick (.t 79) (.t 81) (.c (.bool false)),none,[]⟩,
 ⟨some 83,.mv (.t 82),none,[]⟩,
 ⟨some 84,.mv (.t 7),some (83,true),[]⟩,
 ⟨some 85,.bsl 1 3 [.c (.int .i64 941),.c (.int .i64 450),.c (.int .i64 310)],some (83,true),[]⟩,
 ⟨some 86,.call 22 [.t 84,.t 85],some (83,true),[]⟩,
 ⟨some 87,.pick (.t 83) (.t 86) (.c (.bool false)),none,[]⟩,
 ⟨some 88,.mv (.t 87),none,[]⟩,
 ⟨some 89,.mv (.t 11),some (88,true),[]⟩,
 ⟨some 90,.bin .eql (.t 89) (.c (.int .i64 0)),some (88,true),[]⟩,
 ⟨some 91,.pick (.t 88) (.t 90) (.c (.bool false)),none,[]⟩,
 ⟨some 92,.mv (.t 91),none,[]⟩,
 ⟨some 93,.mv (.t 10),some (92,true),[]⟩,
 ⟨some 94,.raw (Go.Op.convert 39 9 (Go.Operand.tmp 93)) 9,some (92,true),[]⟩,
 ⟨some 95,.raw (Go.Op.binOp Go.BinOp.eql 9 (Go.Operand.tmp 94) (Go.Operand.const (Go.Value.string { data:=#[0,0,4,0,0,0] })) 9) 4,some (92,true),[]⟩,
 ⟨some 96,.pick (.t 92) (.t 95) (.c (.bool false)),none,[]⟩,
 ⟨some 97,.mv (.t 96),none,[]⟩,
 ⟨some 98,.mv (.t 13),some (97,true),[]⟩,
 ⟨some 99,.bin .eql (.t 98) (.c (.int .i64 0)),some (97,true),[]⟩,
 ⟨some 100,.pick (.t 97) (.t 99) (.c (.bool false)),none,[]⟩,
 ⟨some 101,.mv (.t 100),none,[]⟩,
 ⟨some 102,.mv (.t 12),some (101,true),[]⟩,
 ⟨some 103,.call 60 [.c (.int .i64 881),.c (.int .i64 951)],some (101,true),[]⟩,
 ⟨some 104,.call 60 [.c (.int .i64 412),.c (.int .i64 440)],some (101,true),[]⟩,
 ⟨some 105,.call 60 [.c (.int .i64 310),.c (.int .i64 408)],some (101,true),[]⟩,
 ⟨some 106,.bsl 2 70 [.t 103,.t 104,.t 105],some (101,true),[]⟩,
 ⟨some 107,.call 33 [.t 102,.t 106],some (101,true),[]⟩,
 ⟨some 108,.pick (.t 101) (.t 107) (.c (.bool false)),none,[]⟩,
 ⟨some 0,.mv (.t 108),none,[]⟩])
 .ret))))))))
def r34:List RV:=[.tmp 0]
theorem n34:Try.f34.ntmps = 109:=by kernel_rfl
theorem b34:bodyB Try.prog 34 = true:=by kernel_rfl
theorem c34_ok:cmpC Try.prog c34 ((Try.f34.body).getD .skip) = true:=by kernel_rfl
theorem r34_ok:cmpR Try.prog r34 Try.f34.results.toList = true:=by kernel_rfl
theorem t34 {args:List SV} {res:SV} (ka:KFL args) (kr:KF res) (h:sx Try.prog Y0 0 c34 (st0 args 109) (retK r34 res)) (hA:Nat.ble args.length 109 = true:=by rfl):Ct Try.prog 34 args res:=ct_intro Try.func34 rfl b34 c34_ok r34_ok n34 (Nat.le_of_ble_eq_true hA) ka kr h
def c35:SC:=(.seq (.reg [
 ⟨some 2,.box (.t 0) 0 24,none,[]⟩,
 ⟨some 4,.mv (.c (.bool false)),none,[]⟩])
 (.seq (.reg [
 ⟨some 5,.ld (.t 2) 4 true,none,[]⟩,
 ⟨some 6,.mv (.t 1),none,[]⟩,
 ⟨some 7,.call 16 [.t 5,.t 6],none,[]⟩,
 ⟨some 8,.un .not (.t 7),none,[]⟩,
 ⟨some 9,.mv (.t 8),none,[]⟩,
 ⟨some 10,.ld (.t 2) 4 true,some (9,true),[]⟩,
 ⟨some 11,.call 21 [.t 10],some (9,true),[]⟩,
 ⟨some 12,.bin .eql (.t 11) (.c (.int .i64 0)),some (9,true),[]⟩,
 ⟨some 13,.pick (.t 9) (.t 12) (.c (.bool false)),none,[]⟩,
 ⟨some 14,.mv (.t 13),none,[]⟩,
 ⟨some 15,.ld (.t 2) 4 true,some (14,true),[]⟩,
 ⟨some 16,.mv (.t 1),some (14,true),[]⟩,
 ⟨some 17,.call 51 [.t 15,.t 16],some (14,true),[]⟩,
 ⟨some 18,.bin .eql (.t 17) (.c (.int .i64 0)),some (14,true),[]⟩,
 ⟨some 19,.pick (.t 14) (.t 18) (.c (.bool false)),none,[]⟩,
 ⟨some 4,.mv (.t 19),none,[]⟩])
 .ret))
def r35:List RV:=[.tmp 4]
theorem n35:Try.f35.ntmps = 20:=by kernel_rfl
theorem b35:bodyB Try.prog 35 = true:=by kernel_rfl
theorem c35_ok:cmpC Try.prog c35 ((Try.f35.body).getD .skip) = true:=by kernel_rfl
theorem r35_ok:cmpR Try.prog r35 Try.f35.results.toList = true:=by kernel_rfl
theorem t35 {args:List SV} {res:SV} (ka:KFL args) (kr:KF res) (h:sx Try.prog Y0 0 c35 (st0 args 20) (retK r35 res)) (hA:Nat.ble args.length 20 = true:=by rfl):Ct Try.prog 35 args res:=ct_intro Try.func35 rfl b35 c35_ok r35_ok n35 (Nat.le_of_ble_eq_true hA) ka kr h
def c6:SC:=(.seq (.reg [
 ⟨some 3,.box (.t 0) 0 24,none,[]⟩,
 ⟨some 6,.mv (.c (.bool false)),none,[]⟩])
 (.seq (.reg [
 ⟨some 27,.call 34 [],none,[]⟩,
 ⟨some 7,.mv (.t 27),none,[]⟩])
 (.seq (.seq (.reg [
 ⟨some 28,.ld (.t 3) 4 true,none,[]⟩,
 ⟨some 29,.mv (.t 1),none,[]⟩,
 ⟨some 30,.call 35 [.t 28,.t 29],none,[]⟩,
 ⟨some 31,.un .not (.t 30),none,[]⟩,
 ⟨some 32,.mv (.t 31),none,[]⟩,
 ⟨some 33,.mv (.t 7),some (32,false),[]⟩,
 ⟨some 34,.un .not (.t 33),some (32,false),[]⟩,
 ⟨some 35,.pick (.t 32) (.c (.bool true)) (.t 34),none,[]⟩])
 (.cond (.t 35)
 (.seq (.reg [
  ⟨some 36,.mv (.t 7),none,[]⟩,
  ⟨some 6,.mv (.t 36),none,[]⟩])
  .ret)
 .skip))
 (.seq (.reg [
 ⟨some 37,.bsl 8 50 [],none,[]⟩,
 ⟨some 38,.mv (.t 1),none,[]⟩,
 ⟨some 39,.cln 8 64 50 (.t 37) (.t 38),none,[]⟩,
 ⟨some 8,.mv (.t 39),none,[]⟩])
 (.seq (.seq (.reg [
 ⟨some 40,.mv (.t 2),none,[]⟩,
 ⟨some 41,.len (.t 40),none,[]⟩,
 ⟨some 42,.mv (.c (.int .i64 0)),none,[]⟩])
 (.block 0 (.loop (.seq (.reg [
  ⟨some 43,.bin .lss (.t 42) (.t 41),none,[]⟩])
  (.seq (.cond (.t 43)
  .skip
  (.exit 0))
  (.seq (.block 1 (.seq (.reg [
   ⟨some 44,.mv (.t 42),none,[]⟩,
   ⟨some 45,.ixs (.t 40) (.t 42) 1,none,[]⟩,
   ⟨some 46,.ld (.t 45) 1 false,none,[]⟩,
   ⟨some 9,.mv (.t 44),none,[]⟩,
   ⟨some 10,.mv (.t 46),none,[]⟩])
   (.seq (.seq (.reg [
   ⟨some 47,.mv (.t 8),none,[]⟩,
   ⟨some 48,.len (.t 47),none,[]⟩,
   ⟨some 49,.bin .eql (.t 48) (.c (.int .i64 0)),none,[]⟩])
   (.cond (.t 49)
   (.exit 0)
   .skip))
   (.seq (.regd [0,1,2,3,4,5,6,7,8,9,10] [
   .op ⟨some 50,.mv (.t 9),none,[]⟩,
   .op ⟨some 51,.mv (.t 8),none,[]⟩,
   .op ⟨some 52,.len (.t 51),none,[1]⟩,
   .op ⟨some 53,.div .rem (.t 50) (.t 52),none,[0,2]⟩,
   .op ⟨some 54,.mv (.t 10),none,[]⟩,
   .op ⟨some 55,.conv .i64 (.t 54),none,[4]⟩,
   .op ⟨some 56,.mv (.t 8),none,[]⟩,
   .op ⟨some 57,.len (.t 56),none,[6]⟩,
   .op ⟨some 58,.div .rem (.t 55) (.t 57),none,[5,7]⟩,
   .op ⟨some 11,.mv (.t 53),none,[0,1,2,3]⟩,
   .op ⟨some 12,.mv (.t 58),none,[0,1,2,3,4,5,6,7,8,9]⟩] 0 0 [
])
 (.seq (.regd [0,1,4,5,6,7,8,9,10,11,12,2,3,13,14,15] [
 .op ⟨some 59,.mv (.t 8),none,[]⟩,
 .op ⟨some 60,.mv (.t 11),none,[]⟩,
 .op ⟨some 63,.mv (.t 8),none,[]⟩,
 .op ⟨some 64,.mv (.t 12),none,[]⟩,
 .op ⟨some 65,.ixs (.t 63) (.t 64) 8,none,[4,5]⟩,
 .op ⟨some 66,.ld (.t 65) 8 true,none,[6]⟩,
 .op ⟨some 67,.mv (.t 8),none,[]⟩,
 .op ⟨some 68,.mv (.t 11),none,[]⟩,
 .op ⟨some 69,.ixs (.t 67) (.t 68) 8,none,[8,9]⟩,
 .op ⟨some 70,.ld (.t 69) 8 true,none,[10]⟩,
 .op ⟨some 71,.ixs (.t 59) (.t 60) 8,none,[0,1,4,5,6,7,11]⟩,
 .hide (.t 71),
 .op ⟨some 61,.mv (.t 8),none,[]⟩,
 .op ⟨some 62,.mv (.t 12),none,[]⟩] 0 1 [
 ⟨none,.st (.t 71) (.t 66) 8,none,[0,1,4,5,6,7,11,12]⟩,
 ⟨some 72,.ixs (.t 61) (.t 62) 8,none,[0,1,2,3,4,5,6,7,8,9,10,11,12,13]⟩,
 ⟨none,.st (.t 72) (.t 70) 8,none,[0,1,2,3,4,5,6,7,8,9,10,11,12,13,14]⟩])
 (.seq (.reg [
 ⟨some 73,.mv (.t 10),none,[]⟩,
 ⟨some 74,.div .rem (.t 73) (.c (.int .u8 5)),none,[]⟩,
 ⟨some 75,.bin .eql (.t 74) (.c (.int .u8 0)),none,[]⟩,
 ⟨some 76,.mv (.t 75),none,[]⟩,
 ⟨some 77,.mv (.t 8),some (76,true),[]⟩,
 ⟨some 78,.len (.t 77),some (76,true),[]⟩,
 ⟨some 79,.bin .lss (.t 78) (.c (.int .i64 100)),some (76,true),[]⟩,
 ⟨some 80,.pick (.t 76) (.t 79) (.c (.bool false)),none,[]⟩])
 (.cond (.t 80)
 (.reg [
  ⟨some 81,.mv (.t 8),none,[]⟩,
  ⟨some 82,.mv (.t 8),none,[]⟩,
  ⟨some 83,.mv (.t 12),none,[]⟩,
  ⟨some 84,.ixs (.t 82) (.t 83) 8,none,[]⟩,
  ⟨some 85,.ld (.t 84) 8 true,none,[]⟩,
  ⟨some 86,.bsl 8 50 [.t 85],none,[]⟩,
  ⟨some 87,.cln 8 64 50 (.t 81) (.t 86),none,[]⟩,
  ⟨some 8,.mv (.t 87),none,[]⟩])
 .skip)))))))
 (.reg [
 ⟨some 88,.bin .add (.t 42) (.c (.int .i64 1)),none,[]⟩,
 ⟨some 42,.mv (.t 88),none,[]⟩])))))))
 (.seq (.reg [
 ⟨some 90,.ld (.t 3) 4 true,none,[]⟩,
 ⟨some 91,.mv (.t 1),none,[]⟩,
 ⟨some 92,.call 29 [.t 90,.t 91],none,[]⟩,
 ⟨some 89,.mv (.t 92),none,[]⟩,
 ⟨some 93,.ext (.t 89) 0,none,[]⟩,
 ⟨some 94,.ext (.t 89) 1,none,[]⟩,
 ⟨some 13,.mv (.t 93),none,[]⟩,
 ⟨some 14,.mv (.t 94),none,[]⟩])
 (.seq (.reg [
 ⟨some 96,.ld (.t 3) 4 true,none,[]⟩,
 ⟨some 97,.mv (.t 8),none,[]⟩,
 ⟨some 98,.call 29 [.t 96,.t 97],none,[]⟩,
 ⟨some 95,.mv (.t 98),none,[]⟩,
 ⟨some 99,.ext (.t 95) 0,none,[]⟩,
 ⟨some 100,.ext (.t 95) 1,none,[]⟩,
 ⟨some 15,.mv (.t 99),none,[]⟩,
 ⟨some 16,.mv (.t 100),none,[]⟩])
 (.seq (.reg [
 ⟨some 102,.ld (.t 3) 4 true,none,[]⟩,
 ⟨some 103,.mv (.t 1),none,[]⟩,
 ⟨some 104,.call 24 [.t 102,.t 103],none,[]⟩,
 ⟨some 101,.mv (.t 104),none,[]⟩,
 ⟨some 105,.ext (.t 101) 0,none,[]⟩,
 ⟨some 106,.ext (.t 101) 1,none,[]⟩,
 ⟨some 107,.ext (.t 101) 2,none,[]⟩,
 ⟨some 17,.mv (.t 105),none,[]⟩,
 ⟨some 18,.mv (.t 106),none,[]⟩,
 ⟨some 19,.mv (.t 107),none,[]⟩])
 (.seq (.reg [
 ⟨some 109,.ld (.t 3) 4 true,none,[]⟩,
 ⟨some 110,.mv (.t 8),none,[]⟩,
 ⟨some 111,.call 24 [.t 109,.t 110],none,[]⟩,
 ⟨some 108,.mv (.t 111),none,[]⟩,
 ⟨some 112,.ext (.t 108) 0,none,[]⟩,
 ⟨some 113,.ext (.t 108) 1,none,[]⟩,
 ⟨some 114,.ext (.t 108) 2,none,[]⟩,
 ⟨some 20,.mv (.t 112),none,[]⟩,
 ⟨some 21,.mv (.t 113),none,[]⟩,
 ⟨some 22,.mv (.t 114),none,[]⟩])
 (.seq (.reg [
 ⟨some 116,.ld (.t 3) 4 true,none,[]⟩,
 ⟨some 117,.mv (.t 1),none,[]⟩,
 ⟨some 118,.call 31 [.t 116,.t 117],none,[]⟩,
 ⟨some 115,.mv (.t 118),none,[]⟩,
 ⟨some 119,.ext (.t 115) 0,none,[]⟩,
 ⟨some 120,.ext (.t 115) 1,none,[]⟩,
 ⟨some 23,.mv (.t 119),none,[]⟩,
 ⟨some 24,.mv (.t 120),none,[]⟩])
 (.seq (.reg [
 ⟨some 122,.ld (.t 3) 4 true,none,[]⟩,
 ⟨some 123,.mv (.t 8),none,[]⟩,
 ⟨some 124,.call 31 [.t 122,.t 123],none,[]⟩,
 ⟨some 121,.mv (.t 124),none,[]⟩,
 ⟨some 125,.ext (.t 121) 0,none,[]⟩,
 ⟨some 126,.ext (.t 121) 1,none,[]⟩,
 ⟨some 25,.mv (.t 125),none,[]⟩,
 ⟨some 26,.mv (.t 126),none,[]⟩])
 (.seq (.reg [
 ⟨some 127,.mv (.t 7),none,[]⟩,
 ⟨some 128,.mv (.t 127),none,[]⟩,
 ⟨some 129,.mv (.t 14),some (128,true),[]⟩,
 ⟨some 130,.bin .eql (.t 129) (.c (.int .i64 0)),some (128,true),[]⟩,
 ⟨some 131,.pick (.t 128) (.t 130) (.c (.bool false)),none,[]⟩,
 ⟨some 132,.mv (.t 131),none,[]⟩,
 ⟨some 133,.mv (.t 16),some (132,true),[]⟩,
 ⟨some 134,.bin .eql (.t 133) (.c (.int .i64 0)),some (132,true),[]⟩,
 ⟨some 135,.pick (.t 132) (.t 134) (.c (.bool false)),none,[]⟩,
 ⟨some 136,.mv (.t 135),none,[]⟩,
 ⟨some 137,.mv (.t 19),some (136,true),[]⟩,
 ⟨some 138,.bin .eql (.t 137) (.c (.int .i64 0)),some (136,true),[]⟩,
 ⟨some 139,.pick (.t 136) (.t 138) (.c (.bool false)),none,[]⟩,
 ⟨some 140,.mv (.t 139),none,[]⟩,
 ⟨some 141,.mv (.t 22),some (140,true),[]⟩,
 ⟨some 142,.bin .eql (.t 141) (.c (.int .i64 0)),some (140,true),[]⟩,
 ⟨some 143,.pick (.t 140) (.t 142) (.c (.bool false)),none,[]⟩,
 ⟨some 144,.mv (.t 143),none,[]⟩,
 ⟨some 145,.mv (.t 24),some (144,true),[]⟩,
 ⟨some 146,.mv (.t 26),some (144,true),[]⟩,
 ⟨some 147,.bin .eql (.t 145) (.t 146),some (144,true),[]⟩,
 ⟨some 148,.pick (.t 144) (.t 147) (.c (.bool false)),none,[]⟩,
 ⟨some 149,.mv (.t 148),none,[]⟩,
 ⟨some 150,.mv (.t 13),some (149,true),[]⟩,
 ⟨some 151,.mv (.t 15),some (149,true),[]⟩,
 ⟨some 152,.call 22 [.t 150,.t 151],some (149,true),[]⟩,
 ⟨some 153,.pick (.t 149) (.t 152) (.c (.bool false)),none,[]⟩,
 ⟨some 154,.mv (.t 153),none,[]⟩,
 ⟨some 155,.mv (.t 17),some (154,true),[]⟩,
 ⟨some 156,.mv (.t 20),some (154,true),[]⟩,
 ⟨some 157,.call 28 [.t 155,.t 156],some (154,true),[]⟩,
 ⟨some 158,.pick (.t 154) (.t 157) (.c (.bool false)),none,[]⟩,
 ⟨some 159,.mv (.t 158),none,[]⟩,
 ⟨some 160,.mv (.t 18),some (159,true),[]⟩,
 ⟨some 161,.raw (Go.Op.convert 39 9 (Go.Operand.tmp 160)) 9,some (159,true),[]⟩,
 ⟨some 162,.mv (.t 21),some (159,true),[]⟩,
 ⟨some 163,.raw (Go.Op.convert 39 9 (Go.Operand.tmp 162)) 9,some (159,true),[]⟩,
 ⟨some 164,.raw (Go.Op.binOp Go.BinOp.eql 9 (Go.Operand.tmp 161) (Go.Operand.tmp 163) 9) 4,some (159,true),[]⟩,
 ⟨some 165,.pick (.t 159) (.t 164) (.c (.bool false)),none,[]⟩,
 ⟨some 166,.mv (.t 165),none,[]⟩,
 ⟨some 167,.mv (.t 23),some (166,true),[]⟩,
 ⟨some 168,.mv (.t 25),some (166,true),[]⟩,
 ⟨some 169,.call 33 [.t 167,.t 168],some (166,true),[]⟩,
 ⟨some 170,.pick (.t 166) (.t 169) (.c (.bool false)),none,[]⟩,
 ⟨some 6,.mv (.t 170),none,[]⟩])
 .ret))))))))))))
def c8:SC:=(.seq (.reg [
 ⟨some 2,.box (.t 0) 0 24,none,[]⟩,
 ⟨some 4,.mv (.c (.bool false)),none,[]⟩])
 (.seq (.reg [
 ⟨some 18,.call 34 [],none,[]⟩,
 ⟨some 5,.mv (.t 18),none,[]⟩])
 (.seq (.seq (.reg [
 ⟨some 19,.ld (.t 2) 4 true,none,[]⟩,
 ⟨some 20,.mv (.t 1),none,[]⟩,
 ⟨some 21,.call 35 [.t 19,.t 20],none,[]⟩,
 ⟨some 22,.un .not (.t 21),none,[]⟩,
 ⟨some 23,.mv (.t 22),none,[]⟩,
 ⟨some 24,.mv (.t 5),some (23,false),[]⟩,
 ⟨some 25,.un .not (.t 24),some (23,false),[]⟩,
 ⟨some 26,.pick (.t 23) (.c (.bool true)) (.t 25),none,[]⟩])
 (.cond (.t 26)
 (.seq (.reg [
  ⟨some 27,.mv (.t 5),none,[]⟩,
  ⟨some 4,.mv (.t 27),none,[]⟩])
  .ret)
 .skip))
 (.seq (.reg [
 ⟨some 29,.ld (.t 2) 4 true,none,[]⟩,
 ⟨some 30,.mv (.t 1),none,[]⟩,
 ⟨some 31,.call 24 [.t 29,.t 30],none,[]⟩,
 ⟨some 28,.mv (.t 31),none,[]⟩,
 ⟨some 32,.ext (.t 28) 0,none,[]⟩,
 ⟨some 33,.ext (.t 28) 1,none,[]⟩,
 ⟨some 34,.ext (.t 28) 2,none,[]⟩,
 ⟨some 6,.mv (.t 32),none,[]⟩,
 ⟨some 7,.mv (.t 33),none,[]⟩,
 ⟨some 8,.mv (.t 34),none,[]⟩])
 (.seq (.reg [
 ⟨some 36,.ld (.t 2) 4 true,none,[]⟩,
 ⟨some 37,.mv (.t 1),none,[]⟩,
 ⟨some 38,.call 29 [.t 36,.t 37],none,[]⟩,
 ⟨some 35,.mv (.t 38),none,[]⟩,
 ⟨some 39,.ext (.t 35) 0,none,[]⟩,
 ⟨some 40,.ext (.t 35) 1,none,[]⟩,
 ⟨some 9,.mv (.t 39),none,[]⟩,
 ⟨some 10,.mv (.t 40),none,[]⟩])
 (.seq (.seq (.reg [
 ⟨some 41,.mv (.t 8),none,[]⟩,
 ⟨some 42,.bin .neq (.t 41) (.c (.int .i64 0)),none,[]⟩,
 ⟨some 43,.mv (.t 42),none,[]⟩,
 ⟨some 44,.mv (.t 10),some (43,false),[]⟩,
 ⟨some 45,.bin .neq (.t 44) (.c (.int .i64 0)),some (43,false),[]⟩,
 ⟨some 46,.pick (.t 43) (.c (.bool true)) (.t 45),none,[]⟩,
 ⟨some 47,.mv (.t 46),none,[]⟩,
 ⟨some 48,.mv (.t 7),some (47,false),[]⟩,
 ⟨some 49,.len (.t 48),some (47,false),[]⟩,
 ⟨some 50,.mv (.t 6),some (47,false),[]⟩,
 ⟨some 51,.len (.t 50),some (47,false),[]⟩,
 ⟨some 52,.bin .neq (.t 49) (.t 51),some (47,false),[]⟩,
 ⟨some 53,.pick (.t 47) (.c (.bool true)) (.t 52),none,[]⟩,
 ⟨some 54,.mv (.t 53),none,[]⟩,
 ⟨some 55,.mv (.t 9),some (54,false),[]⟩,
 ⟨some 56,.len (.t 55),some (54,false),[]⟩,
 ⟨some 57,.addo (.t 2) 0,some (54,false),[]⟩,
 ⟨some 58,.ld (.t 57) 1 false,some (54,false),[]⟩,
 ⟨some 59,.len (.t 58),some (54,false),[]⟩,
 ⟨some 60,.bin .neq (.t 56) (.t 59),some (54,false),[]⟩,
 ⟨some 61,.pick (.t 54) (.c (.bool true)) (.t 60),none,[]⟩])
 (.cond (.t 61)
 (.seq (.reg [
  ⟨some 4,.mv (.c (.bool false)),none,[]⟩])
  .ret)
 .skip))
 (.seq (.reg [
 ⟨some 11,.mv (.c (.int .i64 0)),none,[]⟩])
 (.seq (.seq (.reg [
 ⟨some 62,.addo (.t 2) 0,none,[]⟩,
 ⟨some 63,.ld (.t 62) 1 false,none,[]⟩,
 ⟨some 64,.len (.t 63),none,[]⟩,
 ⟨some 65,.mv (.c (.int .i64 0)),none,[]⟩])
 (.block 0 (.loop (.seq (.reg [
  ⟨some 66,.bin .lss (.t 65) (.t 64),none,[]⟩])
  (.seq (.cond (.t 66)
  .skip
  (.exit 0))
  (.seq (.block 1 (.seq (.reg [
   ⟨some 67,.ixs (.t 63) (.t 65) 3,none,[]⟩,
   ⟨some 68,.ld (.t 67) 3 true,none,[]⟩,
   ⟨some 13,.alloc [.int .i64 0,.int .i64 0,.int .i64 0] 64,none,[]⟩,
   ⟨none,.st (.t 13) (.t 68) 3,none,[]⟩])
   (.reg [
   ⟨some 69,.mv (.t 11),none,[]⟩,
   ⟨some 70,.addo (.t 13) 1,none,[]⟩,
   ⟨some 71,.ld (.t 70) 1 false,none,[]⟩,
   ⟨some 72,.bin .add (.t 69) (.t 71),none,[]⟩,
   ⟨some 11,.mv (.t 72),none,[]⟩])))
  (.reg [
  ⟨some 73,.bin .add (.t 65) (.c (.int .i64 1)),none,[]⟩,
  ⟨some 65,.mv (.t 73),none,[]⟩])))))))
 (.seq (.seq (.reg [
 ⟨some 74,.mv (.t 6),none,[]⟩,
 ⟨some 75,.len (.t 74),none,[]⟩,
 ⟨some 76,.mv (.c (.int .i64 0)),none,[]⟩])
 (.block 2 (.loop (.seq (.reg [
  ⟨some 77,.bin .lss (.t 76) (.t 75),none,[]⟩])
  (.seq (.cond (.t 77)
  .skip
  (.exit 2))
  (.seq (.block 3 (.seq (.reg [
   ⟨some 78,.mv (.t 76),none,[]⟩,
   ⟨some 79,.ixs (.t 74) (.t 76) 8,none,[]⟩,
   ⟨some 80,.ld (.t 79) 8 true,none,[]⟩,
   ⟨some 15,.alloc [.int .i64 0,.int .i64 0,.int .u8 0,.int .i64 0,.int .i64 0,.int .i64 0,.int .i64 0,.bool false] 50,none,[]⟩,
   ⟨some 14,.mv (.t 78),none,[]⟩,
   ⟨none,.st (.t 15) (.t 80) 8,none,[]⟩])
   (.seq (.seq (.reg [
   ⟨some 81,.mv (.t 7),none,[]⟩,
   ⟨some 82,.mv (.t 14),none,[]⟩,
   ⟨some 83,.ixs (.t 81) (.t 82) 1,none,[]⟩,
   ⟨some 84,.ld (.t 83) 1 false,none,[]⟩,
   ⟨some 85,.bin .neq (.t 84) (.c (.int .u8 0)),none,[]⟩])
   (.cond (.t 85)
   (.exit 3)
   .skip))
   (.seq (.reg [
   ⟨some 86,.addo (.t 15) 2,none,[]⟩,
   ⟨some 87,.ld (.t 86) 1 false,none,[]⟩])
   (.block 4 (.seq (.seq (.reg [
    ⟨some 89,.bin .eql (.t 87) (.c (.int .u8 1)),none,[]⟩,
    ⟨some 88,.mv (.t 89),none,[]⟩])
    (.cond (.t 88)
    .skip
    (.reg [
     ⟨some 90,.bin .eql (.t 87) (.c (.int .u8 6)),none,[]⟩,
     ⟨some 88,.mv (.t 90),none,[]⟩])))
    (.cond (.t 88)
    (.reg [
     ⟨some 91,.mv (.t 11),none,[]⟩,
     ⟨some 92,.addo (.t 15) 6,none,[]⟩,
     ⟨some 93,.ld (.t 92) 1 false,none,[]⟩,
     ⟨some 94,.bin .add (.t 91) (.t 93),none,[]⟩,
     ⟨some 11,.mv (.t 94),none,[]⟩])
    (.seq (.reg [
     ⟨some 96,.bin .eql (.t 87) (.c (.int .u8 2)),none,[]⟩,
     ⟨some 95,.mv (.t 96),none,[]⟩])
     (.cond (.t 95)
     (.reg [
      ⟨some 97,.mv (.t 11),none,[]⟩,
      ⟨some 98,.addo (.t 15) 6,none,[]⟩,
      ⟨some 99,.ld (.t 98) 1 false,none,[]⟩,
      ⟨some 100,.bin .sub (.t 97) (.t 99),none,[]⟩,
      ⟨some 11,.mv (.t 100),none,[]⟩])
     .skip)))))))))
  (.reg [
  ⟨some 101,.bin .add (.t 76) (.c (.int .i64 1)),none,[]⟩,
  ⟨some 76,.mv (.t 101),none,[]⟩])))))))
 (.seq (.seq (.reg [
 ⟨some 102,.mv (.t 9),none,[]⟩,
 ⟨some 103,.len (.t 102),none,[]⟩,
 ⟨some 104,.mv (.c (.int .i64 0)),none,[]⟩])
 (.block 5 (.loop (.seq (.reg [
  ⟨some 105,.bin .lss (.t 104) (.t 103),none,[]⟩])
  (.seq (.cond (.t 105)
  .skip
  (.exit 5))
  (.seq (.block 6 (.seq (.reg [
   ⟨some 106,.ixs (.t 102) (.t 104) 1,none,[]⟩,
   ⟨some 107,.ld (.t 106) 1 false,none,[]⟩,
   ⟨some 17,.mv (.t 107),none,[]⟩])
   (.reg [
   ⟨some 108,.mv (.t 11),none,[]⟩,
   ⟨some 109,.mv (.t 17),none,[]⟩,
   ⟨some 110,.bin .sub (.t 108) (.t 109),none,[]⟩,
   ⟨some 11,.mv (.t 110),none,[]⟩])))
  (.reg [
  ⟨some 111,.bin .add (.t 104) (.c (.int .i64 1)),none,[]⟩,
  ⟨some 104,.mv (.t 111),none,[]⟩])))))))
 (.seq (.reg [
 ⟨some 112,.mv (.t 5),none,[]⟩,
 ⟨some 113,.mv (.t 112),none,[]⟩,
 ⟨some 114,.mv (.t 11),some (113,true),[]⟩,
 ⟨some 115,.bin .eql (.t 114) (.c (.int .i64 0)),some (113,true),[]⟩,
 ⟨some 116,.pick (.t 113) (.t 115) (.c (.bool false)),none,[]⟩,
 ⟨some 4,.mv (.t 116),none,[]⟩])
 .ret)))))))))))
def r8:List RV:=[.tmp 4]
theorem n8:Try.f8.ntmps = 117:=by kernel_rfl
theorem b8:bodyB Try.prog 8 = true:=by kernel_rfl
theorem c8_ok:cmpC Try.prog c8 ((Try.f8.body).getD .skip) = true:=by kernel_rfl
theorem r8_ok:cmpR Try.prog r8 Try.f8.results.toList = true:=by kernel_rfl
theorem t8 {args:List SV} {res:SV} (ka:KFL args) (kr:KF res) (h:sx Try.prog Y0 0 c8 (st0 args 117) (retK r8 res)) (hA:Nat.ble args.length 117 = true:=by rfl):Ct Try.prog 8 args res:=ct_intro Try.func8 rfl b8 c8_ok r8_ok n8 (Nat.le_of_ble_eq_true hA) ka kr h
end Go.Proofs.Ythilckbkffjliaa
namespace Go.Sx
open Go Go.RowKit
theorem Ct.res {P:Program} {f:FuncId} {args:List SV} {res res0:SV} (h:Ct P f args res) (kr:KF res0) (hw:Weak res res0):Ct P f args res0 :=
 ⟨h.1,h.2,kr,fun w ok vs hR=>Calls.mono (h.4 w ok vs hR) fun e w' q=>by
  obtain ⟨y,h1,h2,h3⟩:=q
  exact ⟨y,h1,hw _ _ _ _ _ h2,h3⟩⟩
theorem rl_rfl {l:List SV}:∀ (w:World) (E:Env) (n ok:Nat → Prop) (ys:List Value),RL w E n ok l ys → RL w E n ok l ys:=fun _ _ _ _ _ h=>h
def keepF (fr:List (Nat × SV)):List Nat → List (Nat × SV)
 | []=>[]
 | t :: ts=>(t,lk t fr) :: keepF fr ts
theorem keepF_nil (fr:List (Nat × SV)):keepF fr [] = []:=rfl
theorem keepF_cons (fr:List (Nat × SV)) (t:Nat) (ts:List Nat):keepF fr (t :: ts) = (t,lk t fr) :: keepF fr ts:=rfl
attribute [go_sem] keepF_nil keepF_cons
end Go.Sx
set_option maxRecDepth 100000
set_option maxHeartbeats 4000000
namespace Go.Azalai
def lettersE (p:Pact) (l:List Letter):Int:=if l.length > 100 then 4 else if l.all (okLetter p) = false then 81 else if twoB l = true then 82 else 0
theorem readE_of {p:Pact} {l:List Letter} (h:okPact p = true):readE p l = lettersE p l:=by simp [readE,lettersE,h]
end Go.Azalai
namespace Go.Proofs.Ythilckbkffjliaa
open Go Go.Sx Go.Azalai
theorem letters_ok (p:Pact) (l:List Letter) (hs:smallP p) (hl:l.length ≤ 1000) (c:Bool):Ct Try.prog 51 [.agg (pactL p),.sl c 8 (l.map letterL)] (I (lettersE p l)):=by
 refine t51 (by simp [pactL,partnerL,letterL,KFR_iff,KFL,KF]) (by simp [KFL,KF]) ?_
 dsimp only [c51,r51,pactL,go_sem,rA,rM,rS]
 simp only [List.length_map]
 by_cases h100:l.length > 100
 · refine br_t (by simp;omega) ?_
   dsimp only [go_sem,rA,rM,rS]
   simp [lettersE,h100]
 refine br_f (by simp;omega) ?_
 dsimp only [go_sem,rA,rM,rS]
 refine loopO (fun s:Nat=>[(5,I (s:Nat))]) (fun _=>[]) (fun s=>s ≤ l.length ∧ ∀ i (hi:i < l.length),i < s → okLetter p l[i] = true) (fun s=>l.length - s) 0 ⟨Nat.zero_le _,fun i _ h=>by omega⟩ ?_ ?_
 · (refine ent_id ?_ ?_ ?_ rfl rfl <;> dsimp only [pactL,partnerL,letterL,id,go_sem,rA,rM,rS] <;> simp [pactL,partnerL,letterL,KFR_iff,KFR_app,KFR,KFL,KF,mtL_same,mtO,nbr])
 intro k ⟨hk,hok⟩
 dsimp only [go_sem,rA,rM,rS]
 simp only [List.length_map]
 by_cases hlt:k < l.length
 · refine br_t (by simpa using hlt) ?_
   dsimp only [go_sem,rA,rM,rS]
   refine ixs_map k hlt rfl ?_
   dsimp only [letterL,go_sem,rA,rM,rS]
   refine call (rletter_ok p l[k] hs) ?_
   dsimp only [go_sem,rA,rM,rS]
   by_cases hb:okLetter p l[k] = true
   case neg =>
    refine br_t (by simpa using hb) ?_
    dsimp only [go_sem,rA,rM,rS]
    have:l.all (okLetter p) = false:=by
     rw [← Bool.not_eq_true,List.all_eq_true]
     exact fun h=>hb (h _ (List.getElem_mem _))
    simp [lettersE,h100,this]
   refine br_f (by simpa using hb) ?_
   dsimp only [go_sem,rA,rM,rS]
   rw [w64_in (n:=(k:Int) + 1) (by omega) (by omega)]
   refine ⟨k + 1,⟨hlt,fun i hi h=>?_⟩,by omega,?_⟩
   · by_cases e:i = k
     · subst e;exact hb
     · exact hok i hi (by omega)
   (refine ent_id ?_ ?_ ?_ rfl rfl <;> dsimp only [pactL,partnerL,letterL,id,go_sem,rA,rM,rS] <;> simp [pactL,partnerL,letterL,KFR_iff,KFR_app,KFR,KFL,KF,mtL_same,mtO,nbr])
 refine br_f (by simpa using hlt) ?_
 dsimp only [go_sem,rA,rM,rS]
 have hall:l.all (okLetter p) = true:=by
  rw [List.all_eq_true]
  intro x hx
  obtain ⟨i,hi,rfl⟩:=List.getElem_of_mem hx
  exact hok i hi (by omega)
 refine loopO (fun s:Nat=>[(6,I (s:Nat))]) (fun _=>[]) (fun s=>s ≤ l.length ∧ ∀ i j (hi:i < l.length) (hj:j < l.length),i < s → j < i → l[i].id = l[j].id → l[i] = l[j]) (fun s=>l.length - s) 0 ⟨Nat.zero_le _,fun i j _ _ h=>by omega⟩ ?_ ?_
 · (refine ent_id ?_ ?_ ?_ rfl rfl <;> dsimp only [pactL,partnerL,letterL,id,go_sem,rA,rM,rS] <;> simp [pactL,partnerL,letterL,KFR_iff,KFR_app,KFR,KFL,KF,mtL_same,mtO,nbr])
 intro a ⟨ha,hI⟩
 dsimp only [go_sem,rA,rM,rS]
 simp only [List.length_map]
 by_cases hlta:a < l.length
 · refine br_t (by simpa using hlta) ?_
   dsimp only [go_sem,rA,rM,rS]
   refine loopO (fun s:Nat=>[(7,I (s:Nat))]) (fun _=>[]) (fun s=>s ≤ a ∧ ∀ j (hj:j < l.length),j < s → l[a].id = l[j].id → l[a] = l[j]) (fun s=>a - s) 0 ⟨Nat.zero_le _,fun j _ h=>by omega⟩ ?_ ?_
   · (refine ent_id ?_ ?_ ?_ rfl rfl <;> dsimp only [pactL,partnerL,letterL,id,go_sem,rA,rM,rS] <;> simp [pactL,partnerL,letterL,KFR_iff,KFR_app,KFR,KFL,KF,mtL_same,mtO,nbr])
   intro b ⟨hb,hJ⟩
   dsimp only [go_sem,rA,rM,rS]
   by_cases hltb:b < a
   · refine br_t (by simpa using hltb) ?_
     dsimp only [go_sem,rA,rM,rS]
     have hbl:b < l.length:=by omega
     refine ixs_map a hlta rfl ?_
     dsimp only [letterL,go_sem,rA,rM,rS]
     refine ixs_map b hbl rfl ?_
     dsimp only [letterL,go_sem,rA,rM,rS]
     by_cases hid:l[a].id = l[b].id
     · have g:(l[a].id == l[b].id) = true:=by simp [hid]
       simp only [g]
       repeat (first | (refine gb_run rfl ?_;dsimp only [go_sem,rA,rM,rS]) | (refine ixs_map a hlta rfl ?_;dsimp only [letterL,go_sem,rA,rM,rS]) | (refine ixs_map b hbl rfl ?_;dsimp only [letterL,go_sem,rA,rM,rS]))
       by_cases he:l[a] = l[b]
       · refine br_f ?_ ?_
         · rw [eqLt];simp [ngB,he]
         dsimp only [go_sem,rA,rM,rS]
         rw [w64_in (n:=(b:Int) + 1) (by omega) (by omega)]
         refine ⟨b + 1,⟨hltb,fun j hj h q=>?_⟩,by omega,?_⟩
         · by_cases e:j = b
           · subst e;exact he
           · exact hJ j hj (by omega) q
         (refine ent_id ?_ ?_ ?_ rfl rfl <;> dsimp only [pactL,partnerL,letterL,id,go_sem,rA,rM,rS] <;> simp [pactL,partnerL,letterL,KFR_iff,KFR_app,KFR,KFL,KF,mtL_same,mtO,nbr])
       · refine br_t ?_ ?_
         · rw [eqLt];simp [ngB,he]
         dsimp only [go_sem,rA,rM,rS]
         have:twoB l = true:=by
          rw [← Bool.not_eq_false]
          exact fun h=>he (twoB_false h _ (List.getElem_mem _) _ (List.getElem_mem _) hid)
         simp [lettersE,h100,hall,this]
     · have g:(l[a].id == l[b].id) = false:=by simp [hid]
       simp only [g]
       repeat (refine gb_skip (by decide) ?_;dsimp only [go_sem,rA,rM,rS])
       refine br_f rfl ?_
       dsimp only [go_sem,rA,rM,rS]
       rw [w64_in (n:=(b:Int) + 1) (by omega) (by omega)]
       refine ⟨b + 1,⟨hltb,fun j hj h q=>?_⟩,by omega,?_⟩
       · by_cases e:j = b
         · subst e;exact absurd q hid
         · exact hJ j hj (by omega) q
       (refine ent_id ?_ ?_ ?_ rfl rfl <;> dsimp only [pactL,partnerL,letterL,id,go_sem,rA,rM,rS] <;> simp [pactL,partnerL,letterL,KFR_iff,KFR_app,KFR,KFL,KF,mtL_same,mtO,nbr])
   refine br_f (by simpa using hltb) ?_
   dsimp only [go_sem,rA,rM,rS]
   rw [w64_in (n:=(a:Int) + 1) (by omega) (by omega)]
   refine ⟨a + 1,⟨hlta,fun i j hi hj h1 h2 q=>?_⟩,by omega,?_⟩
   · by_cases e:i = a
     · subst e;exact hJ j hj (by omega) q
     · exact hI i j hi hj (by omega) h2 q
   (refine ent_id ?_ ?_ ?_ rfl rfl <;> dsimp only [pactL,partnerL,letterL,id,go_sem,rA,rM,rS] <;> simp [pactL,partnerL,letterL,KFR_iff,KFR_app,KFR,KFL,KF,mtL_same,mtO,nbr])
 refine br_f (by simpa using hlta) ?_
 dsimp only [go_sem,rA,rM,rS]
 have h2:twoB l = false:=twoB_of fun x hx y hy q=>by
  obtain ⟨i,hi,rfl⟩:=List.getElem_of_mem hx
  obtain ⟨j,hj,rfl⟩:=List.getElem_of_mem hy
  rcases Nat.lt_trichotomy i j with h | h | h
  · exact (hI j i hj hi (by omega) h q.symm).symm
  · subst h;rfl
  · exact hI i j hi hj (by omega) h q
 simp [lettersE,h100,hall,h2]
theorem ready_ok (p:Pact) (l:List Letter) (hs:smallP p) (hl:l.length ≤ 1000) (c:Bool):Ct Try.prog 35 [.agg (pactL p),.sl c 8 (l.map letterL)] (B (decide (readE p l = 0))):=by
 refine t35 (by simp [pactL,partnerL,letterL,KFR_iff,KFL,KF]) (by simp [KFL,KF]) ?_
 dsimp only [c35,r35,pactL,go_sem,rA,rM,rS]
 refine call (great_ok p l c) ?_
 dsimp only [go_sem,rA,rM,rS]
 repeat (first | (refine gb ?_;dsimp only [go_sem,rA,rM,rS]) | (refine call (rcheck_ok p hs) ?_;dsimp only [go_sem,rA,rM,rS]) | (refine call (letters_ok p l hs hl c) ?_;dsimp only [go_sem,rA,rM,rS]))
 simp only [Option.some.injEq,SV.v.injEq,Value.bool.injEq]
 by_cases hp:okPact p = true
 · rw [readE_of hp]
   have h8:=(okPact_all hp).2.2.2.2.2.2
   simp only [errP,hp,if_true]
   by_cases h100:l.length > 100
   · simp [lettersE,h100]
   · have hg:greatF p l = false:=by simp [greatF];omega
     simp only [hg]
     rw [Bool.eq_iff_iff]
     simp
 · have:readE p l = 80:=by simp [readE,hp]
   simp [errP,hp,this]
def pactX:Pact:=⟨[⟨1,600,500⟩,⟨2,300,200⟩,⟨3,0,300⟩],500,2,100⟩
def lettersX:List Letter:=[⟨10,5,3,3,0,7,0,false⟩,⟨11,20,6,0,8,7,101,false⟩,⟨12,30,5,0,0,7,0,false⟩,⟨13,50,1,0,0,0,1000,false⟩,⟨14,60,2,0,0,0,300,false⟩]
def againX:Letter:=⟨15,25,6,0,8,7,90,false⟩
def debtsX:List Letter:=[⟨16,21,7,1,2,0,40,false⟩,⟨17,22,8,1,2,0,50,false⟩,⟨18,23,8,1,2,0,30,false⟩]
def mouthedX:List Letter:=[⟨10,5,3,3,0,7,0,false⟩,⟨11,20,6,0,8,7,101,false⟩,⟨12,30,5,0,0,7,0,true⟩,⟨13,50,1,0,0,0,1000,false⟩,⟨14,60,2,0,0,0,300,false⟩]
theorem weak_agg {l l':List SV} (h:∀ (w:World) (E:Env) (n ok:Nat → Prop) (ys:List Value),RL w E n ok l ys → RL w E n ok l' ys):Weak (.agg l) (.agg l'):=fun w E n ok y hy=>by
 simp only [R] at hy ⊢
 obtain ⟨cs,h1,h2⟩:=hy
 exact ⟨cs,h1,h _ _ _ _ _ h2⟩
theorem pactX_ok:Ct Try.prog 38 [] (.agg (pactL pactX)):=by
 refine Ct.res (res:=.agg [.sl true 3 (pactX.partners.map partnerL),I pactX.calf,I pactX.hire,I pactX.ends]) ?_ (by simp [pactL,pactX,partnerL,KFR,KFL,KF]) (weak_agg (weak_cons weak_c rl_rfl))
 refine t38 (by simp [KFL,KF]) (by simp [pactL,pactX,partnerL,KFR,KFL,KF]) ?_
 dsimp only [c38,r38,go_sem,rA,rM,rS]
 simp [pactX,partnerL]
theorem lettersX_ok:Ct Try.prog 39 [] (.sl true 8 (lettersX.map letterL)):=by
 refine t39 (by simp [KFL,KF]) (by simp [lettersX,letterL,KFR,KFL,KF]) ?_
 dsimp only [c39,r39,go_sem,rA,rM,rS]
 simp [lettersX,letterL]
theorem againX_ok:Ct Try.prog 40 [] (.agg (letterL againX)):=by
 refine t40 (by simp [KFL,KF]) (by simp [againX,letterL,KFR,KFL,KF]) ?_
 dsimp only [c40,r40,go_sem,rA,rM,rS]
 simp [againX,letterL]
theorem debtsX_ok:Ct Try.prog 41 [] (.sl true 8 (debtsX.map letterL)):=by
 refine t41 (by simp [KFL,KF]) (by simp [debtsX,letterL,KFR,KFL,KF]) ?_
 dsimp only [c41,r41,go_sem,rA,rM,rS]
 simp [debtsX,letterL]
end Go.Proofs.Ythilckbkffjliaa
namespace Go.Sx
open Go Go.RowKit
section
variable {P:Program} {C:Cx} {E:Env} {σ : St} {a:Act} {w:World} {n:Nat → Prop} {hp:List (Nat × HB)} {r:KT} {K:RK}
theorem bsl_run2 {t T m len:Nat} {parts:Array (Nat × Operand)} {ps:List X} {rows:List (List SV)} {ρ : X → SV} (hρ : ∀ x ∈ ps,R w E n (okS C E hp) (ρ x) (evX a x))
 (hu:P.underlying t = some (.slice T)) (hm:szOf P T = some m) (hl:len * m ≤ 2 ^ 24) (hpl:ps.length = len) (hm0:m ≠ 0) (hz:∃ z,zeroOf P T = some z ∧ z.cells.size = m)
 (hx:cmpXs ps (parts.toList.map (·.2)) = true) (hi:parts.toList.map (·.1) = List.range len) (hrows:bslR ρ m ps = some rows) :
 ∃ cs:List Value,(Instr.buildSlice t len (parts.map fun (i,x)=>(i,a.eval x))).run P w = .ok (.slice (some ⟨w.heap.size,0,none⟩) len len) (w.alloc (.cells cs.toArray T)) ∧ cs.length = len * m ∧ rows.length = len ∧
  (∀ r ∈ rows,r.length = m) ∧ RL w E n (okS C E hp) rows.flatten cs:=by
 obtain ⟨z,hz1,hz2⟩:=hz
 obtain ⟨hr1,hr2⟩:=bslR_run (a:=a) hρ hrows
 let vs:=ps.map (evX a)
 have hvs:∀ v ∈ vs,v.cells.size = m:=by
  intro v hv
  obtain ⟨i,hi',rfl⟩:=List.getElem_of_mem hv
  simp only [vs,List.length_map] at hi'
  obtain ⟨row,k1,k2,k3⟩:=hr2 i hi'
  have:=RL_length k3
  simp only [vs,List.getElem_map]
  rw [← Array.length_toList,this,k2]
 have hparts:(parts.map fun (i,x)=>(i,a.eval x)).toList = (List.range len).zip vs:=by
  rw [← hi]
  have h2:=cmpXs_sound hx a
  apply List.ext_getElem?
  intro j
  simp only [vs,← h2,Array.toList_map,List.zip,List.getElem?_zipWith,List.getElem?_map]
  cases parts.toList[j]? <;> simp
 let Z:=(Array.range (len * m)).map (fun i=>z.cells[i % z.cells.size]!)
 have hZ:Z.toList.length = (0 + vs.length) * m:=by simp [Z,vs,hpl]
 have hf:=fill_eq (fun i=>some (i * m,m)) ((List.range len).zip vs) (rowsF m 0 vs) Z (by simp [rowsF_length,vs,hpl]) (fun i h h'=>by
  have hlt:i < vs.length:=by rw [rowsF_length] at h';exact h'
  refine ⟨m,?_,?_,?_,?_⟩
  · have:=rowsF_get m vs 0 i
    rw [List.getElem?_eq_getElem hlt,List.getElem?_eq_getElem h'] at this
    simp at this
    simp [this]
  · have:=rowsF_get m vs 0 i
    rw [List.getElem?_eq_getElem hlt,List.getElem?_eq_getElem h'] at this
    simp at this
    simp [this]
  · simp;exact hvs _ (List.getElem_mem _)
  · have:=rowsF_get m vs 0 i
    rw [List.getElem?_eq_getElem hlt,List.getElem?_eq_getElem h'] at this
    simp at this
    rw [this];simp only [Z,Array.size_map,Array.size_range]
    have:i + 1 ≤ len:=by simp [vs,hpl] at hlt;omega
    calc i * m + m = (i + 1) * m:=by rw [Nat.add_mul];omega
     _ ≤ len * m:=Nat.mul_le_mul_right m this)
 rw [fillV_rows m vs 0 _ hZ hvs] at hf
 simp only [Nat.zero_mul,List.take_zero,List.nil_append] at hf
 let cs:=vs.flatMap (·.cells.toList)
 have hflat:∀ (qs:List X) (rs:List (List SV)),rs.length = qs.length → (∀ i (h:i < qs.length),∃ row,rs[i]? = some row ∧ row.length = m ∧ RL w E n (okS C E hp) row (evX a qs[i]).cells.toList) →
  RL w E n (okS C E hp) rs.flatten ((qs.map (evX a)).flatMap (·.cells.toList)) ∧ ((qs.map (evX a)).flatMap (·.cells.toList)).length = qs.length * m ∧ ∀ r ∈ rs,r.length = m:=by
  intro qs
  induction qs with
  | nil=>intro rs h _;have:=List.eq_nil_of_length_eq_zero h;subst this;exact ⟨by simp [RL],by simp,by simp⟩
  | cons x qs ih =>
   intro rs h hq
   cases rs with
   | nil=>simp at h
   | cons y rs =>
    obtain ⟨q1,q2,q3⟩:=ih rs (by simpa using h) (fun i hi'=>by have:=hq (i + 1) (by simp;omega);simpa using this)
    obtain ⟨row,k1,k2,k3⟩:=hq 0 (by simp)
    simp only [List.getElem?_cons_zero,Option.some.injEq] at k1
    subst k1
    simp only [List.getElem_cons_zero] at k3
    refine ⟨?_,?_,fun r hr=>?_⟩
    · simp only [List.flatten_cons,List.map_cons,List.flatMap_cons]
      exact RL_append k3 q1
    · simp only [List.map_cons,List.flatMap_cons,List.length_append,q2,List.length_cons]
      have:=RL_length k3
      rw [this,k2,Nat.add_mul];omega
    · rcases List.mem_cons.1 hr with rfl | hr
      · exact k2
      · exact q3 r hr
 obtain ⟨f1,f2,f3⟩:=hflat ps rows hr1 hr2
 refine ⟨cs,?_,by rw [show cs = (ps.map (evX a)).flatMap (·.cells.toList) from rfl,f2,hpl],by rw [hr1,hpl],f3,f1⟩
 have hlm:¬ len * m > 2 ^ 24:=by omega
 simp only [Instr.buildSlice,Sem.run_bind,run_underlying hu,Result.andThen_ok,run_sizeOf hm,if_neg hlm]
 by_cases h0:len * m = 0
 · have hlen0:len = 0:=by rcases Nat.mul_eq_zero.1 h0 with h | h <;> first | exact h | exact absurd h hm0
   have hps:ps = []:=by cases ps <;> simp_all
   subst hps;subst hlen0
   have hpn:parts = #[]:=by
    apply Array.toList_inj.1;cases hq:parts.toList <;> simp_all
   subst hpn
   have e0:(Array.map (fun _=>(default:Value)) (Array.range 0)) = #[]:=by apply Array.toList_inj.1;simp
   simp [Instr.fill,newRow,cs,vs,e0]
 · simp only [if_neg h0,Sem.run_bind,run_zeroOf hz1,Result.andThen_ok,Sem.run_pure]
   rw [show ((Array.range (len * m)).map fun i=>z.cells[i % z.cells.size]!) = Z from rfl,hparts,hf]
   simp [newRow];rfl
theorem raw_bslO {u t T m len ty:Nat} {parts:Array (Nat × Operand)} {rows:List (List SV)} (ps:List X) (h1:memb u σ.gs = false) (h2:Nat.blt u σ.N = true)
 (hu:P.underlying t = some (.slice T)) (hm:szOf P T = some m) (hl:len * m ≤ 2 ^ 24) (hpl:ps.length = len) (hm0:m ≠ 0) (hl0:len ≠ 0) (hz:∃ z,zeroOf P T = some z ∧ z.cells.size = m)
 (hx:cmpXs ps (parts.toList.map (·.2)) = true) (hi:parts.toList.map (·.1) = List.range len) (hrows:bslR (rdG none σ.fr) m ps = some rows)
 (h:r ⟨(u,.mr σ.n 0) :: σ.fr,(σ.n,.row 0 m rows T) :: σ.hp,σ.n + 1,σ.N,σ.gs⟩ K):RAW P (some u) (.buildSlice t len parts) ty σ r K:=by
 intro o C E a w next Q e1 e2 e3 hS hn hq
 obtain ⟨cs,g1,g2,g3,g4,g5⟩:=bsl_run2 (P:=P) (a:=a) (w:=w) (E:=E) (n:=ltn σ.n) (C:=C) (hp:=σ.hp) (fun x _=>rdG_ok hS.fr (g:=none) trivial x) hu hm hl hpl hm0 hz hx hi hrows
 have hbel:Below w.heap.size w (w.alloc (.cells cs.toArray T)):=(Below.refl _ _).alloc (Nat.le_refl _) _
 have hle:len ≤ len * m:=Nat.le_mul_of_pos_right _ (by omega)
 obtain ⟨E',k1,k2,k3,k4,k5⟩:=HSim_newrow (q:=σ.n) (m:=m) (xs:=rows) (T:=T) (v:=.slice (some ⟨w.heap.size,0,none⟩) len len) hS.hs (by simp [ltn]) hbel
  (.inr ⟨len,cs.toArray,by rw [g3],heap_alloc_new _ _,by simp [g2],⟨by omega,hl0⟩,by omega,g4,by rw [g3,← g2];simpa using g5⟩)
 have hV:(fun k=>ltn σ.n k ∨ k = σ.n) = ltn (σ.n + 1):=by funext k;simp only [ltn,eq_iff_iff];omega
 rw [hV] at k4
 have hrun:(execOp a.eval o).run P w = .ok (.value (.slice (some ⟨w.heap.size,0,none⟩) len len)) (w.alloc (.cells cs.toArray T)):=by
  obtain ⟨dst',op',ty',pos,after,guard⟩:=o
  simp only at e2;subst e2
  simp [execOp,Sem.run_bind,g1,Sem.run_pure]
 refine wpq_res hrun (by simp) ?_
 show next (a.put o.dst _) _
 rw [e1]
 refine hn _ E' _ _ h (Sim_put hS k5 k1 (by omega) k4 (fun hh=>?_) (by simpa [Nat.blt_eq] using h2) (fun _ _ _ e=>by cases e) ?_)
 · rw [memb_iff.2 hh] at h1;cases h1
 · simp only [R];exact ⟨by simp [ltn],by omega,by rw [k2];exact ⟨rfl,rfl⟩⟩
end
end Go.Sx
set_option maxRecDepth 100000
namespace Go.Proofs.Ythilckbkffjliaa
open Go Go.Sx
def cx39:SC:=(.seq (.reg [
 ⟨some 0,.mv (.c (.slice none 0 0)),none,[]⟩])
 (.seq (.reg [
 ⟨some 1,.build [.int .i64 0,.int .i64 0,.int .u8 0,.int .i64 0,.int .i64 0,.int .i64 0,.int .i64 0,.bool false] [(0,1,.c (.int .i64 10)),(1,1,.c (.int .i64 5)),(2,1,.c (.int .u8 3)),(3,1,.c (.int .i64 3)),(5,1,.c (.int .i64 7))],none,[]⟩,
 ⟨some 2,.build [.int .i64 0,.int .i64 0,.int .u8 0,.int .i64 0,.int .i64 0,.int .i64 0,.int .i64 0,.bool false] [(0,1,.c (.int .i64 11)),(1,1,.c (.int .i64 20)),(2,1,.c (.int .u8 6)),(5,1,.c (.int .i64 7)),(4,1,.c (.int .i64 8)),(6,1,.c (.int .i64 101))],none,[]⟩,
 ⟨some 3,.build [.int .i64 0,.int .i64 0,.int .u8 0,.int .i64 0,.int .i64 0,.int .i64 0,.int .i64 0,.bool false] [(0,1,.c (.int .i64 12)),(1,1,.c (.int .i64 30)),(2,1,.c (.int .u8 5)),(5,1,.c (.int .i64 7))],none,[]⟩,
 ⟨some 4,.build [.int .i64 0,.int .i64 0,.int .u8 0,.int .i64 0,.int .i64 0,.int .i64 0,.int .i64 0,.bool false] [(0,1,.c (.int .i64 13)),(1,1,.c (.int .i64 50)),(2,1,.c (.int .u8 1)),(6,1,.c (.int .i64 1000))],none,[]⟩,
 ⟨some 5,.build [.int .i64 0,.int .i64 0,.int .u8 0,.int .i64 0,.int .i64 0,.int .i64 0,.int .i64 0,.bool false] [(0,1,.c (.int .i64 14)),(1,1,.c (.int .i64 60)),(2,1,.c (.int .u8 2)),(6,1,.c (.int .i64 300))],none,[]⟩,
 ⟨some 6,.raw (Go.Op.buildSlice 38 5 #[(0,(Go.Operand.tmp 1)),(1,(Go.Operand.tmp 2)),(2,(Go.Operand.tmp 3)),(3,(Go.Operand.tmp 4)),(4,(Go.Operand.tmp 5))]) 38,none,[]⟩,
 ⟨some 0,.mv (.t 6),none,[]⟩])
 .ret))
def rx39:List RV:=[.tmp 0]
theorem nx39:Try.f39.ntmps = 7:=by kernel_rfl
theorem bx39:bodyB Try.prog 39 = true:=by kernel_rfl
theorem cx39_ok:cmpC Try.prog cx39 ((Try.f39.body).getD .skip) = true:=by kernel_rfl
theorem rx39_ok:cmpR Try.prog rx39 Try.f39.results.toList = true:=by kernel_rfl
theorem mx39 {n0:Nat} {hp0:List (Nat × HB)} {args:List SV} {Post:Ot → Prop} (hh:hpb n0 hp0) (hx:∀ o,Post o → KX o.res ∧ KXP o.hp) (h:sx Try.prog Y0 n0 cx39 ⟨enum 0 args,hp0,n0,7,[]⟩ (retM rx39 fun o=>∃ o',Post o' ∧ EntO n0 o o')) (hA:Nat.ble args.length 7 = true:=by rfl):CtM Try.prog 39 hp0 n0 args Post:=ctm_intro Try.func39 rfl bx39 cx39_ok rx39_ok nx39 (Nat.le_of_ble_eq_true hA) hh hx h
def cx59:SC:=(.seq (.reg [
 ⟨some 0,.mv (.c (.slice none 0 0)),none,[]⟩])
 (.seq (.reg [
 ⟨some 2,.callm 39 [],none,[]⟩,
 ⟨some 1,.mv (.t 2),none,[]⟩])
 (.seq (.reg [
 ⟨some 3,.mv (.t 1),none,[]⟩,
 ⟨some 4,.ixs (.t 3) (.c (.int .i64 2)) 8,none,[]⟩,
 ⟨some 5,.addo (.t 4) 7,none,[]⟩,
 ⟨none,.st (.t 5) (.c (.bool true)) 1,none,[]⟩])
 (.seq (.reg [
 ⟨some 6,.mv (.t 1),none,[]⟩,
 ⟨some 0,.mv (.t 6),none,[]⟩])
 .ret))))
def rx59:List RV:=[.tmp 0]
theorem nx59:Try.f59.ntmps = 7:=by kernel_rfl
theorem bx59:bodyB Try.prog 59 = true:=by kernel_rfl
theorem cx59_ok:cmpC Try.prog cx59 ((Try.f59.body).getD .skip) = true:=by kernel_rfl
theorem rx59_ok:cmpR Try.prog rx59 Try.f59.results.toList = true:=by kernel_rfl
theorem tx59 {args:List SV} {res:SV} (ka:KFL args) (kr:KF res) (h:sx Try.prog Y0 0 cx59 (st0 args 7) (retK rx59 res)) (hA:Nat.ble args.length 7 = true:=by rfl):Ct Try.prog 59 args res:=ct_intro Try.func59 rfl bx59 cx59_ok rx59_ok nx59 (Nat.le_of_ble_eq_true hA) ka kr h
end Go.Proofs.Ythilckbkffjliaa
set_option maxRecDepth 100000
set_option maxHeartbeats 4000000
namespace Go.Proofs.Ythilckbkffjliaa
open Go Go.Sx Go.Azalai
theorem u38:Try.prog.underlying 38 = some (.slice 50):=by kernel_rfl
theorem s50:szOf Try.prog 50 = some 8:=by kernel_rfl
def ltO:Ot:=⟨false,.mr 0 0,[(0,.row 0 8 (lettersX.map letterL) 50)],1⟩
theorem lettersM_ok:CtM Try.prog 39 [] 0 [] (fun o=>o = ltO):=by
 refine mx39 (by simp [hpb]) (fun o ho=>by subst ho;simp [ltO,KX,KXL,KXP,KXH,KFR_iff,KFL,KF,letterL]) ?_
 dsimp only [cx39,rx39,go_sem,rA,rM,rS]
 refine raw_bslO [.t 1,.t 2,.t 3,.t 4,.t 5] rfl rfl u38 s50 (by decide) rfl (by decide) (by decide) ⟨_,rfl,by kernel_rfl⟩ rfl rfl rfl ?_
 dsimp only [go_sem,rA,rM,rS]
 refine ⟨_,rfl,?_⟩
 simp only [ltO,lettersX,List.map]
 (refine entO_id ?_ ?_ ?_ rfl <;> dsimp only [letterL,id,go_sem,rA,rM,rS] <;> simp [letterL,KFR_iff,KFR_app,KFR,KFL,KF,mtL_same,mtO,nbr])
theorem mouthed_ok:Ct Try.prog 59 [] (.sl false 8 (mouthedX.map letterL)):=by
 refine tx59 (by simp [KFL,KF]) (by simp [mouthedX,letterL,KFR,KFL,KF]) ?_
 dsimp only [cx59,rx59,go_sem,rA,rM,rS]
 refine callmP [] lettersM_ok rfl rfl rfl ?_ ?_ ?_
 · (repeat first | dsimp only [go_sem,rA,rM,rS] | simp only [nbr])
   try simp [mtL,mtB,mtS]
 · trivial
 rintro _ rfl
 (repeat first | dsimp only [ltO,go_sem,rA,rM,rS] | simp only [nbr])
 refine ixrm 2 rfl (by decide) ?_
 (repeat first | dsimp only [go_sem,rA,rM,rS] | simp only [nbr])
 refine strm ⟨12,30,5,0,0,7,0,true⟩ (by decide) (by simp [letterL]) (by simp [letterL,splice,lettersX]) ?_
 (repeat first | dsimp only [go_sem,rA,rM,rS] | simp only [nbr])
 rfl
end Go.Proofs.Ythilckbkffjliaa
set_option maxRecDepth 100000
set_option maxHeartbeats 4000000
namespace Go.Azalai
theorem owedF_eq {p:Pact} {c d:Co} (h:c.debts = d.debts) (id:Int):owedF p c id = owedF p d id:=by simp only [owedF,h]
theorem hasF_eq {p:Pact} {c d:Co} (h1:endR p c = endR p d) (h2:∀ w,endX p c w = endX p d w) (h3:c.debts = d.debts):hasF p c = hasF p d:=by
 simp only [hasF,h1,h2,owedF_eq h3]
def end1 (p:Pact) (c:Co) (a:Int):Co:=match c.loans a with
 | none=>c
 | some l=>homeF p c a p.ends l
theorem hasF_end1 {p:Pact} {c:Co} {a:Int} (h0:0 ≤ a) (h1:a ≤ 9999):hasF p (end1 p c a) = hasF p c:=by
 unfold end1
 split
 · rfl
 · rename_i l hl
   exact hasF_eq (endR_home hl h0 h1) (endX_home hl h0 h1) rfl
def hasN (p:Pact) (c:Co):List Int :=
 (List.range p.partners.length).map fun i=>optF (fun x=>x.put + (divideF p c.result).getD i 0 + c.extra x.id + owedF p c x.id) p.partners[i]?
theorem hasF_none {p:Pact} {c:Co} (h:∀ a,c.loans a = none):hasF p c = hasN p c:=by
 simp only [hasF,hasN,endR_none h,endX_none h]
theorem loans_one {p:Pact} {a:Int}:∀ {l:List Letter} {c:Co},(∀ b,b ≠ a → c.loans b = none) → (∀ x ∈ l,x.kind = 3 → x.animal = a) → ∀ b,b ≠ a → (runF p c l).loans b = none
 | [],c,h,_,b,hb=>h b hb
 | x :: l,c,h,hl,b,hb=>by
  refine loans_one (l:=l) (c:=(stepF p c x).1) (fun b hb=>?_) (fun y hy=>hl y (by simp [hy])) b hb
  have h0:=h b hb
  have h3:=hl x (by simp)
  unfold stepF
  repeat' split
  all_goals first | exact h0 | (simp only [upd,homeF];split <;> first | rfl | exact h0 | (rename_i q;exact absurd (q.trans (h3 (by assumption))) hb))
theorem settle_one {p:Pact} {l:List Letter} {a:Int} (h0:0 ≤ a) (h1:a ≤ 9999) (hl:∀ x ∈ l,x.kind = 3 → x.animal = a):settleF p l = hasN p (end1 p (runF p co0 l) a):=by
 rw [settleF,← hasF_end1 h0 h1]
 refine hasF_none fun b=>?_
 have ho:=loans_one (p:=p) (c:=co0) (fun _ _=>rfl) hl
 by_cases e:b = a
 · subst e
   unfold end1
   split
   · assumption
   · simp [homeF,upd]
 · have:=ho b e
   unfold end1
   split
   · exact this
   · simp only [homeF,upd,if_neg e];exact this
end Go.Azalai
namespace Go.Proofs.Ythilckbkffjliaa
open Go Go.Sx Go.Azalai
theorem v1:divideF pactX 1001 = [501,200,300]:=by decide +kernel
theorem v2:divideF pactX (-100) = [-67,-33,0]:=by decide +kernel
theorem e3:readE pactX lettersX = 0:=by decide +kernel
theorem e4:readE pactX (lettersX ++ debtsX) = 0:=by decide +kernel
theorem e5:readE pactX (lettersX ++ [againX]) = 0:=by decide +kernel
theorem e6:readE pactX mouthedX = 0:=by decide +kernel
theorem v3:settleR pactX lettersX = [951,440,310]:=by
 rw [settleR,if_pos e3,settle_one (a:=7) (by decide) (by decide) (by decide +kernel)];decide +kernel
theorem v4:settleR pactX (lettersX ++ debtsX) = [941,450,310]:=by
 rw [settleR,if_pos e4,settle_one (a:=7) (by decide) (by decide) (by decide +kernel)];decide +kernel
theorem v5:whyRR pactX (lettersX ++ [againX]) = [0,0,4,0,0,0]:=by
 rw [whyRR,if_pos e5];decide +kernel
theorem v60:settleF pactX (someF 0 0 mouthedX) = [881,412,408]:=by
 rw [settle_one (a:=7) (by decide) (by decide) (by decide +kernel)];decide +kernel
theorem v61:settleF pactX (someF 1 0 mouthedX) = [951,440,310]:=by
 rw [settle_one (a:=7) (by decide) (by decide) (by decide +kernel)];decide +kernel
theorem rd6:readL pactX mouthedX = mouthedX:=by decide +kernel
theorem v6:surelyE pactX mouthedX = 0 ∧ surelyR pactX mouthedX = [(881,951),(412,440),(310,408)]:=by
 have h0:surelyE pactX mouthedX = 0:=by rw [surelyE,if_pos e6,rd6];decide +kernel
 refine ⟨h0,?_⟩
 rw [surelyR,if_pos h0,rd6]
 have hm:(mouthedX.filter (·.mouth)).length = 1:=by decide +kernel
 simp only [surelyF,hm]
 rw [show List.range pactX.partners.length = [0,1,2] from by decide]
 simp only [List.map_cons,List.map_nil,show 2 ^ 1 - 1 = 1 from rfl,minF,maxF,someHas,v60,v61]
 decide
theorem sm_pact:smallP pactX:=by show pactX.partners.length ≤ 1000;decide
theorem alive_ok:Ct Try.prog 34 [] (B true):=by
 refine t34 (by simp [KFL,KF]) (by simp [KFL,KF]) ?_
 dsimp only [c34,r34,go_sem,rA,rM,rS]
 refine call pactX_ok ?_
 dsimp only [go_sem,rA,rM,rS]
 have hd1:=Divide_ok pactX 1001 sm_pact
 have hd2:=Divide_ok pactX (-100) sm_pact
 have hp:okPact pactX = true:=by decide +kernel
 simp only [hp,show inR (-10000000000) 10000000000 1001 = true from by decide,show inR (-10000000000) 10000000000 (-100) = true from by decide,and_self,if_true,v1,v2] at hd1 hd2
 refine call hd1 ?_
 dsimp only [go_sem,rA,rM,rS]
 refine call pactX_ok ?_
 dsimp only [go_sem,rA,rM,rS]
 refine call hd2 ?_
 dsimp only [go_sem,rA,rM,rS]
 refine call pactX_ok ?_
 dsimp only [go_sem,rA,rM,rS]
 refine call lettersX_ok ?_
 dsimp only [go_sem,rA,rM,rS]
 refine call (settle_ok pactX lettersX sm_pact (by decide) true) ?_
 dsimp only [go_sem,rA,rM,rS]
 rw [v3,e3]
 refine call pactX_ok ?_
 dsimp only [go_sem,rA,rM,rS]
 refine call lettersX_ok ?_
 dsimp only [go_sem,rA,rM,rS]
 refine call debtsX_ok ?_
 dsimp only [go_sem,rA,rM,rS]
 refine app0 (by simp [lettersX,debtsX]) ?_
 dsimp only [go_sem,rA,rM,rS]
 rw [← List.map_append]
 refine call (settle_ok pactX (lettersX ++ debtsX) sm_pact (by decide) false) ?_
 dsimp only [go_sem,rA,rM,rS]
 rw [v4,e4]
 refine call pactX_ok ?_
 dsimp only [go_sem,rA,rM,rS]
 refine call lettersX_ok ?_
 dsimp only [go_sem,rA,rM,rS]
 refine call againX_ok ?_
 dsimp only [letterL,go_sem,rA,rM,rS]
 refine app0 (by simp [lettersX]) ?_
 dsimp only [go_sem,rA,rM,rS]
 have ea:lettersX.map letterL ++ [letterL againX] = (lettersX ++ [againX]).map letterL:=by rw [List.map_append];rfl
 simp only [letterL] at ea
 rw [ea]
 refine call (Read_ok pactX (lettersX ++ [againX]) sm_pact (by decide) false) ?_
 dsimp only [go_sem,rA,rM,rS]
 rw [v5,e5]
 refine call pactX_ok ?_
 dsimp only [go_sem,rA,rM,rS]
 refine call mouthed_ok ?_
 dsimp only [go_sem,rA,rM,rS]
 refine call (surely_ok pactX mouthedX sm_pact (by decide) false) ?_
 dsimp only [go_sem,rA,rM,rS]
 rw [v6.1,v6.2]
 have q1:=same22_ok [501,200,300] [501,200,300] (by decide) (by decide) false true
 have q2:=same22_ok [-67,-33,0] [-67,-33,0] (by decide) (by decide) false true
 have q3:=same22_ok [951,440,310] [951,440,310] (by decide) (by decide) false true
 have q4:=same22_ok [941,450,310] [941,450,310] (by decide) (by decide) false true
 have q5:=same33_ok [(881,951),(412,440),(310,408)] [(881,951),(412,440),(310,408)] (by decide) (by decide) false true
 simp only [decide_true] at q1 q2 q3 q4 q5
 repeat (first | (refine call q1 ?_;dsimp only [go_sem,rA,rM,rS]) | (refine call q2 ?_;dsimp only [go_sem,rA,rM,rS]) | (refine call q3 ?_;dsimp only [go_sem,rA,rM,rS]) | (refine call q4 ?_;dsimp only [go_sem,rA,rM,rS]) | (refine gb_run rfl ?_;dsimp only [go_sem,rA,rM,rS]))
 refine raw_str (e:=5) (ns:=[0,0,4,0,0,0]) rfl (fun _ _ _ e=>by cases e) rfl (by kernel_rfl) (by kernel_rfl) (by kernel_rfl) ?_
 dsimp only [go_sem,rA,rM,rS]
 refine gb_run rfl ?_
 dsimp only [go_sem,rA,rM,rS]
 refine raw_seqc (q:=true) rfl (.inl ⟨rfl,by decide +kernel⟩) ?_
 dsimp only [go_sem,rA,rM,rS]
 repeat (first | (refine call q5 ?_;dsimp only [go_sem,rA,rM,rS]) | (refine call (span60 _ _) ?_;dsimp only [pairL,go_sem,rA,rM,rS]) | (refine gb_run rfl ?_;dsimp only [go_sem,rA,rM,rS]))
 rfl
def readyF (p:Pact) (l:List Letter):Bool:=!greatF p l && decide (readE p l = 0)
theorem readyF_t {p:Pact} {l:List Letter} (h:readyF p l = true):smallP p ∧ l.length ≤ 100 ∧ readE p l = 0:=by
 simp only [readyF,greatF,Bool.and_eq_true,Bool.not_eq_true',Bool.or_eq_false_iff,decide_eq_false_iff_not,decide_eq_true_eq] at h
 have:=(readE_0 h.2).2.1
 exact ⟨by show p.partners.length ≤ 1000;omega,this,h.2⟩
theorem readyA_ok (p:Pact) (l:List Letter) (c:Bool):Ct Try.prog 35 [.agg (pactL p),.sl c 8 (l.map letterL)] (B (readyF p l)):=by
 by_cases hg:greatF p l = true
 · have hr:readyF p l = false:=by simp [readyF,hg]
   rw [hr]
   refine t35 (by simp [pactL,partnerL,letterL,KFR_iff,KFL,KF]) (by simp [KFL,KF]) ?_
   dsimp only [c35,r35,pactL,go_sem,rA,rM,rS]
   refine call (great_ok p l c) ?_
   rw [hg]
   dsimp only [go_sem,rA,rM,rS]
   repeat (refine gb_skip (by decide) ?_;dsimp only [go_sem,rA,rM,rS])
   try rfl
 · rw [Bool.not_eq_true] at hg
   have hr:readyF p l = decide (readE p l = 0):=by simp [readyF,hg]
   rw [hr]
   simp only [greatF,Bool.or_eq_false_iff,decide_eq_false_iff_not] at hg
   exact ready_ok p l (by show p.partners.length ≤ 1000;omega) (by omega) c
end Go.Proofs.Ythilckbkffjliaa
set_option maxRecDepth 100000
set_option maxHeartbeats 4000000
namespace Go.Azalai
structure Bd (n:Nat) (c:Co):Prop where
 rb:-(n * 100000000:Int) ≤ c.result ∧ c.result ≤ n * 100000000
 eb:∀ i,-(n * 100000000:Int) ≤ c.extra i ∧ c.extra i ≤ n * 100000000
 bb:∀ x y,-(n * 100000000:Int) ≤ c.debts x y ∧ c.debts x y ≤ n * 100000000
 sb:∀ a l,c.loans a = some l → 0 ≤ l.2 ∧ l.2 ≤ 100000
theorem Bd.co0:Bd 0 co0:=⟨by simp [Go.Azalai.co0],fun i=>by simp [Go.Azalai.co0],fun x y=>by simp [Go.Azalai.co0],fun a l h=>by simp [Go.Azalai.co0] at h⟩
theorem Bd.next {n:Nat} {c:Co} (h:Bd n c):Bd (n + 1) c:=⟨by have:=h.rb;omega,fun i=>by have:=h.eb i;omega,fun x y=>by have:=h.bb x y;omega,h.sb⟩
theorem Bd.home {p:Pact} {n:Nat} {c:Co} (h:Bd n c) (hp:0 ≤ p.hire ∧ p.hire ≤ 1000) {a d:Int} {l:Int × Int} (hl:c.loans a = some l) (hd:0 ≤ d ∧ d ≤ 100000):Bd (n + 1) (homeF p c a d l):=by
 have hs:=h.sb a l hl
 have hb:=hire_bd (h:=p.hire) (t:=d - l.2) hp.1 hp.2 (by omega) (by omega)
 refine ⟨?_,fun i=>?_,fun x y=>?_,fun i m hi=>?_⟩
 · have:=h.rb
   simp only [homeF];omega
 · have h1:=h.eb i
   have h2:=h.eb l.1
   simp only [homeF,upd]
   split <;> omega
 · have:=h.bb x y
   simp only [homeF];omega
 · simp only [homeF,upd] at hi
   split at hi
   · cases hi
   · exact h.sb i m hi
theorem Bd.deb {n:Nat} {c:Co} (h:Bd n c) {who other v:Int} (hv:-100000000 ≤ v - c.debts who other ∧ v - c.debts who other ≤ 100000000):Bd (n + 1) { c with debts:=upd c.debts who (upd (c.debts who) other v) }:=by
 refine ⟨by have:=h.rb;simp only;omega,fun i=>by have:=h.eb i;simp only;omega,fun x y=>?_,h.sb⟩
 have h1:=h.bb x y
 have h2:=h.bb who other
 simp only [upd]
 by_cases hx:x = who
 · subst hx
   rw [if_pos rfl]
   simp only [upd]
   split
   · rename_i q;subst q;omega
   · omega
 · rw [if_neg hx];omega
theorem Bd.step {p:Pact} {n:Nat} {c:Co} (h:Bd n c) (hp:okPact p = true) {x:Letter} (hx:okLetter p x = true):Bd (n + 1) (stepF p c x).1:=by
 have hpp:(0 ≤ p.hire ∧ p.hire ≤ 1000) ∧ (0 ≤ p.calf ∧ p.calf ≤ 1000):=by
  simp only [okPact,Bool.and_eq_true,inR,decide_eq_true_eq] at hp
  omega
 have hday:0 ≤ x.day ∧ x.day ≤ 100000:=by
  simp only [okLetter,Bool.and_eq_true,inR,decide_eq_true_eq] at hx
  exact hx.1.2
 have hrb:=h.rb
 unfold stepF
 split
 · rename_i k
   have hr:0 ≤ x.rials ∧ x.rials ≤ 10000000:=by simp only [okLetter,k,Bool.and_eq_true] at hx;simp [inR] at hx;omega
   exact ⟨by simp only;omega,h.next.eb,h.next.bb,h.sb⟩
 split
 · rename_i k
   have hr:0 ≤ x.rials ∧ x.rials ≤ 10000000:=by simp only [okLetter,k,Bool.and_eq_true] at hx;simp [inR] at hx;omega
   exact ⟨by simp only;omega,h.next.eb,h.next.bb,h.sb⟩
 split
 · split
   · exact h.next
   split
   · exact h.next
   · refine ⟨h.next.rb,h.next.eb,h.next.bb,fun a l hl=>?_⟩
     simp only [upd] at hl
     split at hl
     · cases hl;exact hday
     · exact h.sb a l hl
 split
 · split
   · exact h.next
   · rename_i l hl;exact h.home hpp.1 hl hday
 split
 · split
   · exact h.next
   split
   · exact h.next
   · rename_i l hl
     have:=h.home hpp.1 hl hday
     exact ⟨this.rb,this.eb,this.bb,this.sb⟩
 split
 · rename_i k
   have hr:0 ≤ x.rials ∧ x.rials ≤ 10000000:=by simp only [okLetter,k,Bool.and_eq_true] at hx;simp [inR] at hx;omega
   split
   · exact h.next
   split
   · exact h.next
   · rename_i l hl
     have hb:=Go.Proofs.Ythilckbkffjliaa.part_bd hr.1 hr.2 hpp.2.1 hpp.2.2
     refine ⟨by simp only;omega,fun i=>?_,h.next.bb,h.sb⟩
     have h1:=h.eb i
     have h2:=h.eb l.1
     simp only [upd]
     split <;> omega
 split
 · rename_i k
   have hr:0 ≤ x.rials ∧ x.rials ≤ 10000000:=by simp only [okLetter,k,Bool.and_eq_true] at hx;simp [inR] at hx;omega
   exact h.deb (by omega)
 split
 · rename_i k
   have hr:0 ≤ x.rials ∧ x.rials ≤ 10000000:=by simp only [okLetter,k,Bool.and_eq_true] at hx;simp [inR] at hx;omega
   split
   · exact h.next
   · exact h.deb (by omega)
 · exact h.next
theorem Bd.run {p:Pact} (hp:okPact p = true):∀ {l:List Letter} {n:Nat} {c:Co},Bd n c → (∀ x ∈ l,okLetter p x = true) → Bd (n + l.length) (runF p c l)
 | [],_,_,h,_=>h
 | x :: l,n,c,h,hl=>by
  have:=Bd.run (l:=l) hp (h.step hp (hl x (by simp))) fun y hy=>hl y (by simp [hy])
  rw [List.length_cons,show n + (l.length + 1) = n + 1 + l.length from by omega]
  exact this
theorem last_bd {p:Pact} {n:Nat} {c:Co} (h:Bd n c) (hp:okPact p = true) (a:Nat) (w:Int):(-100000000 ≤ lastHire p c a ∧ lastHire p c a ≤ 100000000) ∧ (-100000000 ≤ lastFor p c w a ∧ lastFor p c w a ≤ 100000000):=by
 have hpp:(0 ≤ p.hire ∧ p.hire ≤ 1000) ∧ (0 ≤ p.ends ∧ p.ends ≤ 100000):=by
  simp only [okPact,Bool.and_eq_true,inR,decide_eq_true_eq] at hp
  omega
 unfold lastHire lastFor
 split
 · simp
 · rename_i l hl
   have hs:=h.sb _ l hl
   have hb:=hire_bd (h:=p.hire) (t:=p.ends - l.2) hpp.1.1 hpp.1.2 (by omega) (by omega)
   refine ⟨hb,?_⟩
   split
   · exact hb
   · omega
theorem end_bd {p:Pact} {n:Nat} {c:Co} (h:Bd n c) (hn:n ≤ 400) (hp:okPact p = true) (w:Int):(-1040000000000 ≤ endR p c ∧ endR p c ≤ 1040000000000) ∧ (-1040000000000 ≤ endX p c w ∧ endX p c w ≤ 1040000000000):=by
 have h1:=sumL_abs (b:=100000000) (l:=(List.range 10000).map (lastHire p c)) fun x hx=>by
  obtain ⟨a,_,rfl⟩:=List.mem_map.1 hx;exact (last_bd h hp a w).1
 have h2:=sumL_abs (b:=100000000) (l:=(List.range 10000).map (lastFor p c w)) fun x hx=>by
  obtain ⟨a,_,rfl⟩:=List.mem_map.1 hx;exact (last_bd h hp a w).2
 rw [List.length_map,List.length_range] at h1 h2
 have h3:=h.rb
 have h4:=h.eb w
 simp only [endR,endX]
 omega
theorem owed_bd {p:Pact} {n:Nat} {c:Co} (h:Bd n c) (hn:n ≤ 400) (hp:okPact p = true) (id:Int):-640000000000 ≤ owedF p c id ∧ owedF p c id ≤ 640000000000:=by
 have h8:=(okPact_all hp).2.2.2.2.2.2
 have h1:=sumL_abs (b:=80000000000) (l:=p.partners.map fun y=>c.debts y.id id - c.debts id y.id) fun x hx=>by
  obtain ⟨y,_,rfl⟩:=List.mem_map.1 hx
  have:=h.bb y.id id
  have:=h.bb id y.id
  omega
 rw [List.length_map] at h1
 simp only [owedF]
 omega
theorem mem_le_sum:∀ {l:List Int} {x:Int},(∀ y ∈ l,0 ≤ y) → x ∈ l → x ≤ sumL l
 | y :: l,x,h,hx=>by
  have h1:=h y (by simp)
  have h2:=sumL_nonneg (l:=l) fun z hz=>h z (by simp [hz])
  simp only [sumL]
  rcases List.mem_cons.1 hx with rfl | hx
  · omega
  · have:=mem_le_sum (l:=l) (fun z hz=>h z (by simp [hz])) hx;omega
theorem divd_bd {amount:Int} {by':List Int} (ha:0 ≤ amount) (hb:∀ x ∈ by',0 ≤ x) (hs:0 < sumL by') {i:Nat} (hi:i < (dividedF amount by').length):0 ≤ (dividedF amount by')[i] ∧ (dividedF amount by')[i] ≤ amount + 1:=by
 have hi':i < by'.length:=by simpa [dividedF] using hi
 have h0:=hb _ (List.getElem_mem hi')
 have h1:=mem_le_sum hb (List.getElem_mem hi')
 have hp:0 ≤ partF amount by' i ∧ partF amount by' i ≤ amount:=by
  unfold partF
  rw [byF_get hi']
  have hm:0 ≤ amount * by'[i]:=Int.mul_nonneg ha h0
  refine ⟨Int.tdiv_nonneg hm (by omega),?_⟩
  rw [Int.tdiv_eq_ediv_of_nonneg hm]
  have h2:amount * by'[i] ≤ amount * sumL by':=Int.mul_le_mul_of_nonneg_left h1 ha
  exact Int.ediv_le_of_le_mul hs h2
 simp only [dividedF,List.getElem_map,List.getElem_range]
 split <;> omega
theorem divF_bd {p:Pact} (hp:okPact p = true) (r:Int) (i:Nat) (hi:i < (divideF p r).length):-((if 0 ≤ r then r else -r) + 1) ≤ (divideF p r)[i] ∧ (divideF p r)[i] ≤ (if 0 ≤ r then r else -r) + 1:=by
 have hA:=okPact_all hp
 by_cases hr:0 ≤ r
 · have e:divideF p r = dividedF r (p.partners.map (·.share)):=by rw [divideF,if_pos hr]
   have hi':i < (dividedF r (p.partners.map (·.share))).length:=by rw [← e];exact hi
   have:=divd_bd hr hA.2.1 (by omega) hi'
   simp only [e,if_pos hr];omega
 · have e:divideF p r = (dividedF (-r) (p.partners.map (·.put))).map fun n=>-n:=by rw [divideF,if_neg hr]
   have hi':i < (dividedF (-r) (p.partners.map (·.put))).length:=by rw [e] at hi;simpa using hi
   have:=divd_bd (amount:=-r) (by omega) hA.2.2.1 hA.2.2.2.1 hi'
   simp only [e,if_neg hr,List.getElem_map];omega
theorem has_bd {p:Pact} {n:Nat} {c:Co} (h:Bd n c) (hn:n ≤ 400) (hp:okPact p = true):∀ x ∈ hasF p c,-10000000000000 ≤ x ∧ x ≤ 10000000000000:=by
 intro x hx
 obtain ⟨k,hk,rfl⟩:=List.getElem_of_mem hx
 have hk':k < p.partners.length:=by rw [hasF_len] at hk;exact hk
 have hd:k < (divideF p (endR p c)).length:=by rw [divideF_len];exact hk'
 rw [hasF_get hk' hk hd]
 have h1:=end_bd h hn hp p.partners[k].id
 have h2:=owed_bd h hn hp p.partners[k].id
 have h3:=divF_bd hp (endR p c) k hd
 have h4:okPartners (-1) p.partners = true:=by
  simp only [okPact,Bool.and_eq_true] at hp;exact hp.1.1.2
 have h5:=(okPartners_ids h4).2.2 _ (List.getElem_mem hk')
 split at h3 <;> omega
theorem settle_bd {p:Pact} {l:List Letter} (hp:okPact p = true) (hl:∀ x ∈ l,okLetter p x = true) (hn:l.length ≤ 400):∀ x ∈ settleF p l,-10000000000000 ≤ x ∧ x ≤ 10000000000000:=by
 have h:=Bd.run hp Bd.co0 hl
 rw [Nat.zero_add] at h
 exact has_bd h hn hp
end Go.Azalai
set_option maxRecDepth 100000
set_option maxHeartbeats 4000000
namespace Go.Azalai
theorem gainF_bd {p:Pact} {x:Letter} (hx:okLetter p x = true) (w:Int):-10000000 ≤ gainF x w ∧ gainF x w ≤ 10000000:=by
 unfold gainF
 split
 · omega
 split
 · rename_i k
   rcases k with k | k <;> simp only [okLetter,k,Bool.and_eq_true] at hx <;> simp [inR] at hx <;> omega
 split
 · rename_i k
   simp only [okLetter,k,Bool.and_eq_true] at hx
   simp [inR] at hx
   omega
 · omega
theorem gainL_take {X:List Letter} {W:List Int} {j:Nat} (h:X.length = W.length) (hj:j < X.length):gainL (X.take (j + 1)) (W.take (j + 1)) = gainL (X.take j) (W.take j) + gainF X[j] (W[j]'(by omega)):=by
 rw [List.take_succ_eq_append_getElem hj,List.take_succ_eq_append_getElem (by omega),gainL_app (by simp;omega)]
 simp [gainL]
theorem gainL_bd {p:Pact}:∀ {X:List Letter} {W:List Int},(∀ x ∈ X,okLetter p x = true) → -(X.length * 10000000:Int) ≤ gainL X W ∧ gainL X W ≤ X.length * 10000000
 | [],_,_=>by simp [gainL]
 | x :: X,[],_=>by simp only [gainL,List.length_cons];omega
 | x :: X,w :: W,h=>by
  have h1:=gainF_bd (h x (by simp)) w
  have h2:=gainL_bd (X:=X) (W:=W) fun y hy=>h y (by simp [hy])
  simp only [gainL,List.length_cons];omega
theorem puts_bd {p:Pact} (hp:okPact p = true) (k:Nat):0 ≤ sumL ((p.partners.take k).map (·.put)) ∧ sumL ((p.partners.take k).map (·.put)) ≤ 800000000:=by
 have hA:=okPact_all hp
 have hB:okPartners (-1) p.partners = true:=by
  simp only [okPact,Bool.and_eq_true] at hp;exact hp.1.1.2
 have hC:=(okPartners_ids hB).2.2
 have h1:=sumL_sub0 hA.2.2.1 k
 have h2:=sumL_le (l:=p.partners.map (·.put)) (b:=100000000) fun x hx=>by
  obtain ⟨y,hy,rfl⟩:=List.mem_map.1 hx
  have:=hC y hy;omega
 rw [List.map_take]
 simp only [List.length_map] at h2
 omega
end Go.Azalai
namespace Go.Proofs.Ythilckbkffjliaa
open Go Go.Sx Go.Azalai
theorem kept_ok (p:Pact) (l:List Letter) (c:Bool):Ct Try.prog 8 [.agg (pactL p),.sl c 8 (l.map letterL)] (B true):=by
 refine t8 (by simp [pactL,partnerL,letterL,KFR_iff,KFL,KF]) (by simp [KFL,KF]) ?_
 dsimp only [c8,r8,pactL,go_sem,rA,rM,rS]
 refine call alive_ok ?_
 dsimp only [go_sem,rA,rM,rS]
 refine call (readyA_ok p l c) ?_
 dsimp only [go_sem,rA,rM,rS]
 by_cases hr:readyF p l = true
 case neg =>
  rw [Bool.not_eq_true] at hr
  rw [hr]
  repeat (refine gb_skip (by decide) ?_;dsimp only [go_sem,rA,rM,rS])
  refine br_t rfl ?_
  dsimp only [go_sem,rA,rM,rS]
 rw [hr]
 obtain ⟨hs,hl,h0⟩:=readyF_t hr
 obtain ⟨hp,-,hok,h2⟩:=readE_0 h0
 repeat (refine gb_run rfl ?_;dsimp only [go_sem,rA,rM,rS])
 refine br_f rfl ?_
 dsimp only [go_sem,rA,rM,rS]
 refine call (Read_ok p l hs (by omega) c) ?_
 dsimp only [go_sem,rA,rM,rS]
 refine call (settle_ok p l hs (by omega) c) ?_
 dsimp only [go_sem,rA,rM,rS]
 have hX:=readL_ok h0
 have hrl:=readL_len (p:=p) (l:=l)
 have e1:readR p l = readL p l:=by rw [readR,if_pos h0]
 have e2:whyRR p l = whyL p co0 (readL p l):=by rw [whyRR,if_pos h0]
 have e3:settleR p l = settleF p (readL p l):=by rw [settleR,if_pos h0]
 have hwl:=whyL_len (p:=p) (l:=readL p l) (c:=co0)
 have hsl:(settleF p (readL p l)).length = p.partners.length:=hasF_len
 have hsb:=settle_bd hp hX (by omega)
 have hk:=kept hp hX
 rw [e1,e2,e3,h0]
 generalize readL p l = X at *
 repeat (refine gb ?_;dsimp only [go_sem,rA,rM,rS])
 simp only [List.length_map]
 refine br_f (by simp [hwl,hsl]) ?_
 dsimp only [go_sem,rA,rM,rS]
 simp only [List.length_map]
 have h8:=(okPact_all hp).2.2.2.2.2.2
 refine loopO (fun s:Nat=>[(65,I (s:Nat)),(11,I (sumL ((p.partners.take s).map (·.put))))]) (fun _=>[]) (fun s=>s ≤ p.partners.length) (fun s=>p.partners.length - s) 0 (Nat.zero_le _) ?_ ?_
 · (refine ent_id ?_ ?_ ?_ rfl rfl <;> dsimp only [pactL,partnerL,letterL,u8L,intL,sumL,id,go_sem,rA,rM,rS] <;> simp [pactL,partnerL,letterL,u8L,intL,sumL,KFR_iff,KFR_app,KFR,KFL,KF,mtL_same,mtO,nbr])
 intro k hk'
 dsimp only [go_sem,rA,rM,rS]
 by_cases hlt:k < p.partners.length
 · refine br_t (by simpa using hlt) ?_
   dsimp only [go_sem,rA,rM,rS]
   refine ixs_map k hlt rfl ?_
   dsimp only [partnerL,go_sem,rA,rM,rS]
   have hs1:=sumL_take (f:=fun x:Partner=>x.put) hlt
   have hb1:=puts_bd hp (k + 1)
   rw [w64_in (n:=_ + p.partners[k].put) (by omega) (by omega),w64_in (n:=(k:Int) + 1) (by omega) (by omega),← hs1]
   refine ⟨k + 1,hlt,by omega,?_⟩
   (refine ent_id ?_ ?_ ?_ rfl rfl <;> dsimp only [pactL,partnerL,letterL,u8L,intL,id,go_sem,rA,rM,rS] <;> simp [pactL,partnerL,letterL,u8L,intL,KFR_iff,KFR_app,KFR,KFL,KF,mtL_same,mtO,nbr])
 refine br_f (by simpa using hlt) ?_
 dsimp only [go_sem,rA,rM,rS]
 have hke:k = p.partners.length:=by omega
 subst hke
 have hb0:=puts_bd hp p.partners.length
 rw [List.take_length] at hb0 ⊢
 generalize hPU:sumL (p.partners.map (·.put)) = PU at *
 simp only [List.length_map]
 generalize hW:whyL p co0 X = W at *
 refine loopO (fun s:Nat=>[(76,I (s:Nat)),(11,I (PU + gainL (X.take s) (W.take s)))]) (fun _=>[]) (fun s=>s ≤ X.length) (fun s=>X.length - s) 0 (Nat.zero_le _) ?_ ?_
 · (refine ent_id ?_ ?_ ?_ rfl rfl <;> dsimp only [pactL,partnerL,letterL,u8L,intL,gainL,id,go_sem,rA,rM,rS] <;> simp [pactL,partnerL,letterL,u8L,intL,gainL,KFR_iff,KFR_app,KFR,KFL,KF,mtL_same,mtO,nbr])
 intro j hj
 dsimp only [go_sem,rA,rM,rS]
 by_cases hlt:j < X.length
 · refine br_t (by simpa using hlt) ?_
   dsimp only [go_sem,rA,rM,rS]
   refine ixs_map j hlt rfl ?_
   dsimp only [letterL,go_sem,rA,rM,rS]
   refine ixs_map j (by omega) rfl ?_
   dsimp only [u8L,go_sem,rA,rM,rS]
   have hg:=gainL_take hwl.symm hlt
   have hgb:=gainF_bd (hX _ (List.getElem_mem hlt)) (W[j]'(by omega))
   have hgl:=gainL_bd (p:=p) (X:=X.take j) (W:=W.take j) fun x hx=>hX x (List.mem_of_mem_take hx)
   have hlj:(X.take j).length ≤ 100:=by simp;omega
   by_cases hw:W[j]'(by omega) = 0
   case neg =>
    refine br_t (by simpa using hw) ?_
    dsimp only [go_sem,rA,rM,rS]
    rw [show gainF X[j] W[j] = 0 from if_pos hw,Int.add_zero] at hg
    rw [← hg]
    rw [w64_in (n:=(j:Int) + 1) (by omega) (by omega)]
    refine ⟨j + 1,hlt,by omega,?_⟩
    (refine ent_id ?_ ?_ ?_ rfl rfl <;> dsimp only [pactL,partnerL,letterL,u8L,intL,id,go_sem,rA,rM,rS] <;> simp [pactL,partnerL,letterL,u8L,intL,KFR_iff,KFR_app,KFR,KFL,KF,mtL_same,mtO,nbr])
   refine br_f (by simpa using hw) ?_
   dsimp only [go_sem,rA,rM,rS]
   have hgf:gainF X[j] W[j] = if X[j].kind = 1 ∨ X[j].kind = 6 then X[j].rials else if X[j].kind = 2 then -X[j].rials else 0:=by
    rw [gainF,if_neg (by omega)]
   have hgf':=hgf
   rw [hgf'] at hg hgb
   by_cases k1:X[j].kind = 1
   · refine br_t (by simp [k1]) ?_
     dsimp only [go_sem,rA,rM,rS]
     refine br_t (by simp [k1]) ?_
     dsimp only [go_sem,rA,rM,rS]
     rw [if_pos (.inl k1)] at hg hgb
     rw [w64_in (n:=_ + X[j].rials) (by omega) (by omega),Int.add_assoc,← hg]
     rw [w64_in (n:=(j:Int) + 1) (by omega) (by omega)]
     refine ⟨j + 1,hlt,by omega,?_⟩
     (refine ent_id ?_ ?_ ?_ rfl rfl <;> dsimp only [pactL,partnerL,letterL,u8L,intL,id,go_sem,rA,rM,rS] <;> simp [pactL,partnerL,letterL,u8L,intL,KFR_iff,KFR_app,KFR,KFL,KF,mtL_same,mtO,nbr])
   refine br_f (by simp [k1]) ?_
   dsimp only [go_sem,rA,rM,rS]
   by_cases k6:X[j].kind = 6
   · refine br_t (by simp [k6]) ?_
     dsimp only [go_sem,rA,rM,rS]
     rw [if_pos (.inr k6)] at hg hgb
     rw [w64_in (n:=_ + X[j].rials) (by omega) (by omega),Int.add_assoc,← hg]
     rw [w64_in (n:=(j:Int) + 1) (by omega) (by omega)]
     refine ⟨j + 1,hlt,by omega,?_⟩
     (refine ent_id ?_ ?_ ?_ rfl rfl <;> dsimp only [pactL,partnerL,letterL,u8L,intL,id,go_sem,rA,rM,rS] <;> simp [pactL,partnerL,letterL,u8L,intL,KFR_iff,KFR_app,KFR,KFL,KF,mtL_same,mtO,nbr])
   refine br_f (by simp [k6]) ?_
   dsimp only [go_sem,rA,rM,rS]
   rw [if_neg (by simp [k1,k6])] at hg hgb
   by_cases k2:X[j].kind = 2
   · refine br_t (by simp [k2]) ?_
     dsimp only [go_sem,rA,rM,rS]
     rw [if_pos k2] at hg hgb
     rw [w64_in (n:=_ - X[j].rials) (by omega) (by omega),Int.sub_eq_add_neg,Int.add_assoc,← hg]
     rw [w64_in (n:=(j:Int) + 1) (by omega) (by omega)]
     refine ⟨j + 1,hlt,by omega,?_⟩
     (refine ent_id ?_ ?_ ?_ rfl rfl <;> dsimp only [pactL,partnerL,letterL,u8L,intL,id,go_sem,rA,rM,rS] <;> simp [pactL,partnerL,letterL,u8L,intL,KFR_iff,KFR_app,KFR,KFL,KF,mtL_same,mtO,nbr])
   refine br_f (by simp [k2]) ?_
   dsimp only [go_sem,rA,rM,rS]
   rw [if_neg k2,Int.add_zero] at hg
   rw [← hg]
   rw [w64_in (n:=(j:Int) + 1) (by omega) (by omega)]
   refine ⟨j + 1,hlt,by omega,?_⟩
   (refine ent_id ?_ ?_ ?_ rfl rfl <;> dsimp only [pactL,partnerL,letterL,u8L,intL,id,go_sem,rA,rM,rS] <;> simp [pactL,partnerL,letterL,u8L,intL,KFR_iff,KFR_app,KFR,KFL,KF,mtL_same,mtO,nbr])
 refine br_f (by simpa using hlt) ?_
 dsimp only [go_sem,rA,rM,rS]
 have hje:j = X.length:=by omega
 subst hje
 have hgl:=gainL_bd (p:=p) (X:=X) (W:=W) hX
 rw [List.take_length,show W.take X.length = W from by rw [← hwl,List.take_length],← hk]
 rw [← hk] at *
 simp only [List.length_map]
 generalize hSS:settleF p X = SS at *
 refine loopO (fun s:Nat=>[(104,I (s:Nat)),(11,I (sumL SS - sumL (SS.take s)))]) (fun _=>[]) (fun s=>s ≤ SS.length) (fun s=>SS.length - s) 0 (Nat.zero_le _) ?_ ?_
 · (refine ent_id ?_ ?_ ?_ rfl rfl <;> dsimp only [pactL,partnerL,letterL,u8L,intL,sumL,id,go_sem,rA,rM,rS] <;> simp [pactL,partnerL,letterL,u8L,intL,sumL,KFR_iff,KFR_app,KFR,KFL,KF,mtL_same,mtO,nbr])
 intro j hj
 dsimp only [go_sem,rA,rM,rS]
 by_cases hlt:j < SS.length
 · refine br_t (by simpa using hlt) ?_
   dsimp only [go_sem,rA,rM,rS]
   refine ixs_map j hlt rfl ?_
   dsimp only [intL,go_sem,rA,rM,rS]
   have hs1:=sumL_taken hlt
   have hb1:=sumL_abs (b:=10000000000000) (l:=SS) fun x hx=>by have:=hsb x hx;omega
   have hb2:=sumL_abs (b:=10000000000000) (l:=SS.take (j + 1)) fun x hx=>by have:=hsb x (List.mem_of_mem_take hx);omega
   have hll:(SS.take (j + 1)).length ≤ 8:=by simp;omega
   rw [w64_in (n:=sumL SS - sumL (SS.take j) - SS[j]) (by omega) (by omega),w64_in (n:=(j:Int) + 1) (by omega) (by omega)]
   rw [show sumL SS - sumL (SS.take j) - SS[j] = sumL SS - sumL (SS.take (j + 1)) from by omega]
   refine ⟨j + 1,hlt,by omega,?_⟩
   (refine ent_id ?_ ?_ ?_ rfl rfl <;> dsimp only [pactL,partnerL,letterL,u8L,intL,id,go_sem,rA,rM,rS] <;> simp [pactL,partnerL,letterL,u8L,intL,KFR_iff,KFR_app,KFR,KFL,KF,mtL_same,mtO,nbr])
 refine br_f (by simpa using hlt) ?_
 dsimp only [go_sem,rA,rM,rS]
 have hje:j = SS.length:=by omega
 subst hje
 rw [List.take_length,Int.sub_self]
 repeat (refine gb_run rfl ?_;dsimp only [go_sem,rA,rM,rS])
 try rfl
end Go.Proofs.Ythilckbkffjliaa
