import Derived.Test.YtkjldleglbbkeaaWD
set_option maxRecDepth 100000
set_option maxHeartbeats 4000000
namespace Go.Azalai
def okPace (p : Span) : Bool := okSp 1 100000 p
def askF (l : Land) (p : Span) : Int := if okLand l = false then 30 else if okPace p = false then 31 else 0
def dayF (x : Leg) (p : Span) : Span := ⟨(x.long.lo + p.hi - 1).tdiv p.hi, (x.long.hi + p.lo - 1).tdiv p.lo⟩
/-- the first day on which one leaves through gates that open and shut on days -/
def outL (n day : Int) (o s : Gate → Int) : List Gate → Int
  | [] => 100001
  | g :: r => if max day (o g) + n - 1 ≤ s g then max day (o g) else outL n day o s r
def accL (n day : Int) (o s : Gate → Int) (acc : Int) : List Gate → Int
  | [] => acc
  | g :: r => accL n day o s (if max day (o g) + n - 1 ≤ s g then min (min acc (max day (o g))) 100001 else acc) r
def mayF (x : Leg) (p : Span) (day : Int) : Int := outL (dayF x p).lo day (·.opens.lo) (·.shuts.hi) x.gates
def canF (x : Leg) (p : Span) (day : Int) : Int := outL (dayF x p).hi day (·.opens.hi) (·.shuts.lo) x.gates
def daysF (l : Land) (leg : Int) (p : Span) : Span × Int :=
  if askF l p ≠ 0 then (⟨0, 0⟩, askF l p)
  else if inR 0 (l.legs.length - 1) leg = false then (⟨0, 0⟩, 2)
  else match l.legs[leg.toNat]? with
    | some x => (dayF x p, 0)
    | none => (⟨0, 0⟩, 0)
def leaveF (l : Land) (leg day : Int) (p : Span) : Span × Int :=
  if askF l p ≠ 0 then (⟨0, 0⟩, askF l p)
  else if (inR 0 (l.legs.length - 1) leg && inR 0 100000 day) = false then (⟨0, 0⟩, 2)
  else match l.legs[leg.toNat]? with
    | some x => (⟨mayF x p day, canF x p day⟩, 0)
    | none => (⟨0, 0⟩, 0)
/-- what holds of the legs of a good land -/
structure GoodLeg (x : Leg) : Prop where
  l1 : 1 ≤ x.long.lo
  l2 : x.long.lo ≤ x.long.hi
  l3 : x.long.hi ≤ 1000000
  g1 : x.gates.length ≤ 6
  g2 : okGates 0 x.gates = true
theorem okLand_leg {l : Land} (h : okLand l = true) : ∀ x ∈ l.legs, GoodLeg x := by
  simp only [okLand, Bool.and_eq_true, List.all_eq_true] at h
  intro x hx
  have := h.2 x hx
  simp only [okLeg, okSp, Bool.and_eq_true, decide_eq_true_eq] at this
  exact ⟨by omega, by omega, by omega, by omega, this.2⟩
theorem okGates_mem : ∀ {l : List Gate} {next : Int}, okGates next l = true → 0 ≤ next → ∀ g ∈ l, 0 ≤ g.opens.lo ∧ g.opens.lo ≤ g.opens.hi ∧ g.opens.hi ≤ 100000 ∧ 0 ≤ g.shuts.lo ∧ g.shuts.lo ≤ g.shuts.hi ∧ g.shuts.hi ≤ 100000 ∧ next ≤ g.opens.lo
  | [], _, _, _, g, hg => by simp at hg
  | x :: l, next, h, h0, g, hg => by
    simp only [okGates, okSp, inR, Bool.and_eq_true, decide_eq_true_eq] at h
    rcases List.mem_cons.1 hg with rfl | hg
    · omega
    · have := okGates_mem h.2 (by omega) g hg; omega
theorem acc_out {n day : Int} {o s : Gate → Int} (hn : 1 ≤ n) (ho : ∀ g, (0 ≤ g.opens.lo ∧ g.opens.lo ≤ g.opens.hi ∧ g.opens.hi ≤ 100000 ∧ 0 ≤ g.shuts.lo ∧ g.shuts.lo ≤ g.shuts.hi ∧ g.shuts.hi ≤ 100000) → g.opens.lo ≤ o g ∧ s g ≤ g.shuts.hi) :
    ∀ {l : List Gate} {next acc : Int}, okGates next l = true → 0 ≤ next → acc ≤ 100001 → accL n day o s acc l = min acc (outL n day o s l)
  | [], next, acc, _, _, ha => by simp only [accL, outL]; omega
  | x :: l, next, acc, h, h0, ha => by
    have hm := okGates_mem h h0 x (by simp)
    simp only [okGates, okSp, inR, Bool.and_eq_true, decide_eq_true_eq] at h
    have h1 := ho x ⟨hm.1, hm.2.1, hm.2.2.1, hm.2.2.2.1, hm.2.2.2.2.1, hm.2.2.2.2.2.1⟩
    have hrest : ∀ (l : List Gate), (∀ g ∈ l, x.shuts.hi + 1 ≤ o g) → x.shuts.hi + 1 ≤ outL n day o s l := fun l => by
      induction l with
      | nil => intro _; simp only [outL]; omega
      | cons g l ih => intro hg; simp only [outL]; have := hg g (by simp); have := ih (fun g' h' => hg g' (by simp [h'])); split <;> omega
    have hr := hrest l (fun g hg => by
      have q := okGates_mem h.2 (by omega) g hg
      have := ho g ⟨q.1, q.2.1, q.2.2.1, q.2.2.2.1, q.2.2.2.2.1, q.2.2.2.2.2.1⟩
      omega)
    simp only [accL, outL]
    rw [acc_out hn ho h.2 (by omega) (by split <;> omega)]
    repeat' split
    all_goals first | rfl | omega
theorem day_bd {x : Leg} {p : Span} (h : GoodLeg x) (hp : okPace p = true) : 1 ≤ (dayF x p).lo ∧ (dayF x p).lo ≤ 1000000 ∧ 1 ≤ (dayF x p).hi ∧ (dayF x p).hi ≤ 1000000 := by
  simp only [okPace, okSp, decide_eq_true_eq] at hp
  obtain ⟨p1, p2, p3⟩ := hp
  obtain ⟨h1, h2, h3, _, _⟩ := h
  simp only [dayF]
  have key : ∀ a b : Int, 1 ≤ a → a ≤ 1000000 → 1 ≤ b → 1 ≤ (a + b - 1).tdiv b ∧ (a + b - 1).tdiv b ≤ 1000000 := fun a b ha ha2 hb => by
    rw [Int.tdiv_eq_ediv_of_nonneg (by omega)]
    constructor
    · exact Int.le_ediv_of_mul_le (by omega) (by omega)
    · refine Int.le_of_lt_add_one (Int.ediv_lt_of_lt_mul (by omega) ?_)
      have : 1 * a ≤ b * a := Int.mul_le_mul_of_nonneg_right hb (by omega)
      have e : (1000000 + 1) * b = b * 1000000 + b := by rw [Int.add_mul]; omega
      have : b * a ≤ b * 1000000 := Int.mul_le_mul_of_nonneg_left ha2 (by omega)
      rw [e]
      have := Int.mul_le_mul_of_nonneg_left ha2 (show (0 : Int) ≤ b - 1 by omega)
      have q : (b - 1) * a = b * a - a := by rw [Int.sub_mul]; omega
      have q2 : (b - 1) * 1000000 = b * 1000000 - 1000000 := by rw [Int.sub_mul]; omega
      omega
  exact ⟨(key _ _ h1 (by omega) (by omega)).1, (key _ _ h1 (by omega) (by omega)).2, (key _ _ (by omega) h3 p1).1, (key _ _ (by omega) h3 p1).2⟩
end Go.Azalai
namespace Go.Proofs.Ytkjldleglbbkeaa
open Go Go.Sx Go.Azalai
def sres (r : Span × Int) : SV := .tup [.agg (spanL r.1), I r.2]
theorem checkR_ok (l : Land) (hs : Small l) : Ct Try.prog 27 [.agg (landL l)] (I (if okLand l = true then 0 else 30)) := by
  refine t27 (by simp [landL, wellL, legL, gateL, KFR_iff, KFL, KF]) (by simp [KFL, KF]) ?_
  dsimp only [c27, r27, landL, go_sem, List.drop, List.take, List.length, List.cons_append, List.nil_append, Nat.beq, Nat.blt, Nat.ble, Nat.reduceAdd, Nat.zero_add, Nat.add_zero, Nat.mul_one, Nat.reduceMul, Nat.zero_mul, Nat.one_mul]
  refine call (landR_ok l hs) ?_
  dsimp only [go_sem, List.drop, List.take, List.length, List.cons_append, List.nil_append, Nat.beq, Nat.blt, Nat.ble, Nat.reduceAdd, Nat.zero_add, Nat.add_zero, Nat.mul_one, Nat.reduceMul, Nat.zero_mul, Nat.one_mul]
  refine br ?_ ?_
  · intro h
    dsimp only [go_sem, List.drop, List.take, List.length, List.cons_append, List.nil_append, Nat.beq, Nat.blt, Nat.ble, Nat.reduceAdd, Nat.zero_add, Nat.add_zero, Nat.mul_one, Nat.reduceMul, Nat.zero_mul, Nat.one_mul]
    have : okLand l = false := by simpa using h
    simp [this]
  · intro h
    dsimp only [go_sem, List.drop, List.take, List.length, List.cons_append, List.nil_append, Nat.beq, Nat.blt, Nat.ble, Nat.reduceAdd, Nat.zero_add, Nat.add_zero, Nat.mul_one, Nat.reduceMul, Nat.zero_mul, Nat.one_mul]
    have : okLand l = true := by simpa using h
    simp [this]
theorem paceR_ok (p : Span) : Ct Try.prog 89 [.agg (spanL p)] (B (okPace p)) := by
  refine t89 (by simp [spanL, KFL, KF]) (by simp [KFL, KF]) ?_
  dsimp only [c89, r89, spanL, go_sem, List.drop, List.take, List.length, List.cons_append, List.nil_append, Nat.beq, Nat.blt, Nat.ble, Nat.reduceAdd, Nat.zero_add, Nat.add_zero, Nat.mul_one, Nat.reduceMul, Nat.zero_mul, Nat.one_mul]
  refine call (spanned_ok p _ _) ?_
  dsimp only [go_sem, List.drop, List.take, List.length, List.cons_append, List.nil_append, Nat.beq, Nat.blt, Nat.ble, Nat.reduceAdd, Nat.zero_add, Nat.add_zero, Nat.mul_one, Nat.reduceMul, Nat.zero_mul, Nat.one_mul]
  simp [okPace]
theorem asked_ok (l : Land) (hs : Small l) (p : Span) : Ct Try.prog 66 [.agg (landL l), .agg (spanL p)] (I (askF l p)) := by
  refine t66 (by simp [landL, wellL, legL, gateL, spanL, KFR_iff, KFL, KF]) (by simp [KFL, KF]) ?_
  dsimp only [c66, r66, landL, spanL, go_sem, List.drop, List.take, List.length, List.cons_append, List.nil_append, Nat.beq, Nat.blt, Nat.ble, Nat.reduceAdd, Nat.zero_add, Nat.add_zero, Nat.mul_one, Nat.reduceMul, Nat.zero_mul, Nat.one_mul]
  refine call (landR_ok l hs) ?_
  dsimp only [go_sem, List.drop, List.take, List.length, List.cons_append, List.nil_append, Nat.beq, Nat.blt, Nat.ble, Nat.reduceAdd, Nat.zero_add, Nat.add_zero, Nat.mul_one, Nat.reduceMul, Nat.zero_mul, Nat.one_mul]
  refine br ?_ ?_
  · intro h
    dsimp only [go_sem, List.drop, List.take, List.length, List.cons_append, List.nil_append, Nat.beq, Nat.blt, Nat.ble, Nat.reduceAdd, Nat.zero_add, Nat.add_zero, Nat.mul_one, Nat.reduceMul, Nat.zero_mul, Nat.one_mul]
    have : okLand l = false := by simpa using h
    simp [askF, this]
  intro h
  dsimp only [go_sem, List.drop, List.take, List.length, List.cons_append, List.nil_append, Nat.beq, Nat.blt, Nat.ble, Nat.reduceAdd, Nat.zero_add, Nat.add_zero, Nat.mul_one, Nat.reduceMul, Nat.zero_mul, Nat.one_mul]
  refine call (paceR_ok p) ?_
  dsimp only [go_sem, List.drop, List.take, List.length, List.cons_append, List.nil_append, Nat.beq, Nat.blt, Nat.ble, Nat.reduceAdd, Nat.zero_add, Nat.add_zero, Nat.mul_one, Nat.reduceMul, Nat.zero_mul, Nat.one_mul]
  refine br ?_ ?_
  · intro h2
    dsimp only [go_sem, List.drop, List.take, List.length, List.cons_append, List.nil_append, Nat.beq, Nat.blt, Nat.ble, Nat.reduceAdd, Nat.zero_add, Nat.add_zero, Nat.mul_one, Nat.reduceMul, Nat.zero_mul, Nat.one_mul]
    have : okPace p = false := by simpa using h2
    simp_all [askF]
  · intro h2
    dsimp only [go_sem, List.drop, List.take, List.length, List.cons_append, List.nil_append, Nat.beq, Nat.blt, Nat.ble, Nat.reduceAdd, Nat.zero_add, Nat.add_zero, Nat.mul_one, Nat.reduceMul, Nat.zero_mul, Nat.one_mul]
    have : okPace p = true := by simpa using h2
    simp_all [askF]
theorem dayR_ok (x : Leg) (p : Span) (hx : GoodLeg x) (hp : okPace p = true) : Ct Try.prog 67 [.agg (legL x), .agg (spanL p)] (.agg (spanL (dayF x p))) := by
  have hb := day_bd hx hp
  have hp' := hp
  simp only [okPace, okSp, decide_eq_true_eq] at hp'
  obtain ⟨h1, h2, h3, h4, h5⟩ := hx
  refine t67 (by simp [legL, gateL, spanL, KFR_iff, KFL, KF]) (by simp [spanL, KFL, KF]) ?_
  dsimp only [c67, r67, legL, spanL, go_sem, List.drop, List.take, List.length, List.cons_append, List.nil_append, Nat.beq, Nat.blt, Nat.ble, Nat.reduceAdd, Nat.zero_add, Nat.add_zero, Nat.mul_one, Nat.reduceMul, Nat.zero_mul, Nat.one_mul]
  rw [w64_in (n := x.long.lo + p.hi) (by omega) (by omega), w64_in (n := x.long.lo + p.hi - 1) (by omega) (by omega)]
  refine div0 (by omega) ?_
  dsimp only [go_sem, List.drop, List.take, List.length, List.cons_append, List.nil_append, Nat.beq, Nat.blt, Nat.ble, Nat.reduceAdd, Nat.zero_add, Nat.add_zero, Nat.mul_one, Nat.reduceMul, Nat.zero_mul, Nat.one_mul]
  rw [w64_in (n := x.long.hi + p.lo) (by omega) (by omega), w64_in (n := x.long.hi + p.lo - 1) (by omega) (by omega)]
  refine div0 (by omega) ?_
  dsimp only [go_sem, List.drop, List.take, List.length, List.cons_append, List.nil_append, Nat.beq, Nat.blt, Nat.ble, Nat.reduceAdd, Nat.zero_add, Nat.add_zero, Nat.mul_one, Nat.reduceMul, Nat.zero_mul, Nat.one_mul]
  simp only [dayF] at hb ⊢
  rw [w64_in (n := (x.long.lo + p.hi - 1).tdiv p.hi) (by omega) (by omega), w64_in (n := (x.long.hi + p.lo - 1).tdiv p.lo) (by omega) (by omega)]
theorem may_ok (x : Leg) (day : Int) (p : Span) (hx : GoodLeg x) (hp : okPace p = true) (hd : inR 0 100001 day = true) : Ct Try.prog 69 [.agg (legL x), I day, .agg (spanL p)] (I (mayF x p day)) := by
  have hb := day_bd hx hp
  have hg := okGates_mem hx.g2 (Int.le_refl _)
  have hl := hx.g1
  simp only [inR, decide_eq_true_eq] at hd
  refine t69 (by simp [legL, gateL, spanL, KFR_iff, KFL, KF]) (by simp [KFL, KF]) ?_
  dsimp only [c69, r69, legL, spanL, go_sem, List.drop, List.take, List.length, List.cons_append, List.nil_append, Nat.beq, Nat.blt, Nat.ble, Nat.reduceAdd, Nat.zero_add, Nat.add_zero, Nat.mul_one, Nat.reduceMul, Nat.zero_mul, Nat.one_mul]
  refine loopO (fun k : Nat => [(7, I k)]) (fun _ => []) (fun k => k ≤ x.gates.length ∧ outL (dayF x p).lo day (·.opens.lo) (·.shuts.hi) (x.gates.drop k) = mayF x p day) (fun k => x.gates.length - k) 0 ⟨Nat.zero_le _, rfl⟩ ?_ ?_
  · (refine ent_id ?_ ?_ ?_ rfl <;> dsimp only [gateL, legL, spanL, id, go_sem, List.drop, List.take, List.length, List.cons_append, List.nil_append, Nat.beq, Nat.blt, Nat.ble, Nat.reduceAdd, Nat.zero_add, Nat.add_zero, Nat.mul_one, Nat.reduceMul, Nat.zero_mul, Nat.one_mul] <;> simp [gateL, legL, spanL, KFR_iff, KFR, KFL, KF, mtL_same, mtO, Nat.beq_refl])
  intro k ⟨hk, hi⟩
  dsimp only [go_sem, List.drop, List.take, List.length, List.cons_append, List.nil_append, Nat.beq, Nat.blt, Nat.ble, Nat.reduceAdd, Nat.zero_add, Nat.add_zero, Nat.mul_one, Nat.reduceMul, Nat.zero_mul, Nat.one_mul]
  by_cases hlt : k < x.gates.length
  · refine br_t (by simpa using hlt) ?_
    dsimp only [go_sem, List.drop, List.take, List.length, List.cons_append, List.nil_append, Nat.beq, Nat.blt, Nat.ble, Nat.reduceAdd, Nat.zero_add, Nat.add_zero, Nat.mul_one, Nat.reduceMul, Nat.zero_mul, Nat.one_mul]
    have hgk := hg x.gates[k] (List.getElem_mem _)
    rw [List.drop_eq_getElem_cons hlt, outL] at hi
    refine ixs_map k hlt rfl ?_
    dsimp only [gateL, go_sem, List.drop, List.take, List.length, List.cons_append, List.nil_append, Nat.beq, Nat.blt, Nat.ble, Nat.reduceAdd, Nat.zero_add, Nat.add_zero, Nat.mul_one, Nat.reduceMul, Nat.zero_mul, Nat.one_mul]
    repeat (first | (refine gb ?_; dsimp only [go_sem, List.drop, List.take, List.length, List.cons_append, List.nil_append, Nat.beq, Nat.blt, Nat.ble, Nat.reduceAdd, Nat.zero_add, Nat.add_zero, Nat.mul_one, Nat.reduceMul, Nat.zero_mul, Nat.one_mul]) | (refine call (dayR_ok x p hx hp) ?_; dsimp only [spanL, go_sem, List.drop, List.take, List.length, List.cons_append, List.nil_append, Nat.beq, Nat.blt, Nat.ble, Nat.reduceAdd, Nat.zero_add, Nat.add_zero, Nat.mul_one, Nat.reduceMul, Nat.zero_mul, Nat.one_mul]) | (refine ixs_map k hlt rfl ?_; dsimp only [gateL, go_sem, List.drop, List.take, List.length, List.cons_append, List.nil_append, Nat.beq, Nat.blt, Nat.ble, Nat.reduceAdd, Nat.zero_add, Nat.add_zero, Nat.mul_one, Nat.reduceMul, Nat.zero_mul, Nat.one_mul]))
    rw [w64_in (n := max day x.gates[k].opens.lo + (dayF x p).lo) (by omega) (by omega), w64_in (n := max day x.gates[k].opens.lo + (dayF x p).lo - 1) (by omega) (by omega)]
    refine br ?_ ?_
    · intro h
      dsimp only [go_sem, List.drop, List.take, List.length, List.cons_append, List.nil_append, Nat.beq, Nat.blt, Nat.ble, Nat.reduceAdd, Nat.zero_add, Nat.add_zero, Nat.mul_one, Nat.reduceMul, Nat.zero_mul, Nat.one_mul]
      rw [if_pos (by simpa using h)] at hi
      rw [← hi]
    · intro h
      dsimp only [go_sem, List.drop, List.take, List.length, List.cons_append, List.nil_append, Nat.beq, Nat.blt, Nat.ble, Nat.reduceAdd, Nat.zero_add, Nat.add_zero, Nat.mul_one, Nat.reduceMul, Nat.zero_mul, Nat.one_mul]
      rw [if_neg (by simpa using h)] at hi
      rw [w64_in (n := (k : Int) + 1) (by omega) (by omega)]
      refine ⟨k + 1, ⟨hlt, hi⟩, by omega, ?_⟩
      (refine ent_id ?_ ?_ ?_ rfl <;> dsimp only [gateL, legL, spanL, id, go_sem, List.drop, List.take, List.length, List.cons_append, List.nil_append, Nat.beq, Nat.blt, Nat.ble, Nat.reduceAdd, Nat.zero_add, Nat.add_zero, Nat.mul_one, Nat.reduceMul, Nat.zero_mul, Nat.one_mul] <;> simp [gateL, legL, spanL, KFR_iff, KFR, KFL, KF, mtL_same, mtO, Nat.beq_refl])
  refine br_f (by simp; omega) ?_
  dsimp only [go_sem, List.drop, List.take, List.length, List.cons_append, List.nil_append, Nat.beq, Nat.blt, Nat.ble, Nat.reduceAdd, Nat.zero_add, Nat.add_zero, Nat.mul_one, Nat.reduceMul, Nat.zero_mul, Nat.one_mul]
  have hke : k = x.gates.length := by omega
  subst hke
  rw [List.drop_length, outL] at hi
  rw [← hi]
theorem can_ok (x : Leg) (day : Int) (p : Span) (hx : GoodLeg x) (hp : okPace p = true) (hd : inR 0 100001 day = true) : Ct Try.prog 70 [.agg (legL x), I day, .agg (spanL p)] (I (canF x p day)) := by
  have hb := day_bd hx hp
  have hg := okGates_mem hx.g2 (Int.le_refl _)
  have hl := hx.g1
  simp only [inR, decide_eq_true_eq] at hd
  refine t70 (by simp [legL, gateL, spanL, KFR_iff, KFL, KF]) (by simp [KFL, KF]) ?_
  dsimp only [c70, r70, legL, spanL, go_sem, List.drop, List.take, List.length, List.cons_append, List.nil_append, Nat.beq, Nat.blt, Nat.ble, Nat.reduceAdd, Nat.zero_add, Nat.add_zero, Nat.mul_one, Nat.reduceMul, Nat.zero_mul, Nat.one_mul]
  refine loopO (fun k : Nat => [(7, I k)]) (fun _ => []) (fun k => k ≤ x.gates.length ∧ outL (dayF x p).hi day (·.opens.hi) (·.shuts.lo) (x.gates.drop k) = canF x p day) (fun k => x.gates.length - k) 0 ⟨Nat.zero_le _, rfl⟩ ?_ ?_
  · (refine ent_id ?_ ?_ ?_ rfl <;> dsimp only [gateL, legL, spanL, id, go_sem, List.drop, List.take, List.length, List.cons_append, List.nil_append, Nat.beq, Nat.blt, Nat.ble, Nat.reduceAdd, Nat.zero_add, Nat.add_zero, Nat.mul_one, Nat.reduceMul, Nat.zero_mul, Nat.one_mul] <;> simp [gateL, legL, spanL, KFR_iff, KFR, KFL, KF, mtL_same, mtO, Nat.beq_refl])
  intro k ⟨hk, hi⟩
  dsimp only [go_sem, List.drop, List.take, List.length, List.cons_append, List.nil_append, Nat.beq, Nat.blt, Nat.ble, Nat.reduceAdd, Nat.zero_add, Nat.add_zero, Nat.mul_one, Nat.reduceMul, Nat.zero_mul, Nat.one_mul]
  by_cases hlt : k < x.gates.length
  · refine br_t (by simpa using hlt) ?_
    dsimp only [go_sem, List.drop, List.take, List.length, List.cons_append, List.nil_append, Nat.beq, Nat.blt, Nat.ble, Nat.reduceAdd, Nat.zero_add, Nat.add_zero, Nat.mul_one, Nat.reduceMul, Nat.zero_mul, Nat.one_mul]
    have hgk := hg x.gates[k] (List.getElem_mem _)
    rw [List.drop_eq_getElem_cons hlt, outL] at hi
    refine ixs_map k hlt rfl ?_
    dsimp only [gateL, go_sem, List.drop, List.take, List.length, List.cons_append, List.nil_append, Nat.beq, Nat.blt, Nat.ble, Nat.reduceAdd, Nat.zero_add, Nat.add_zero, Nat.mul_one, Nat.reduceMul, Nat.zero_mul, Nat.one_mul]
    repeat (first | (refine gb ?_; dsimp only [go_sem, List.drop, List.take, List.length, List.cons_append, List.nil_append, Nat.beq, Nat.blt, Nat.ble, Nat.reduceAdd, Nat.zero_add, Nat.add_zero, Nat.mul_one, Nat.reduceMul, Nat.zero_mul, Nat.one_mul]) | (refine call (dayR_ok x p hx hp) ?_; dsimp only [spanL, go_sem, List.drop, List.take, List.length, List.cons_append, List.nil_append, Nat.beq, Nat.blt, Nat.ble, Nat.reduceAdd, Nat.zero_add, Nat.add_zero, Nat.mul_one, Nat.reduceMul, Nat.zero_mul, Nat.one_mul]) | (refine ixs_map k hlt rfl ?_; dsimp only [gateL, go_sem, List.drop, List.take, List.length, List.cons_append, List.nil_append, Nat.beq, Nat.blt, Nat.ble, Nat.reduceAdd, Nat.zero_add, Nat.add_zero, Nat.mul_one, Nat.reduceMul, Nat.zero_mul, Nat.one_mul]))
    rw [w64_in (n := max day x.gates[k].opens.hi + (dayF x p).hi) (by omega) (by omega), w64_in (n := max day x.gates[k].opens.hi + (dayF x p).hi - 1) (by omega) (by omega)]
    refine br ?_ ?_
    · intro h
      dsimp only [go_sem, List.drop, List.take, List.length, List.cons_append, List.nil_append, Nat.beq, Nat.blt, Nat.ble, Nat.reduceAdd, Nat.zero_add, Nat.add_zero, Nat.mul_one, Nat.reduceMul, Nat.zero_mul, Nat.one_mul]
      rw [if_pos (by simpa using h)] at hi
      rw [← hi]
    · intro h
      dsimp only [go_sem, List.drop, List.take, List.length, List.cons_append, List.nil_append, Nat.beq, Nat.blt, Nat.ble, Nat.reduceAdd, Nat.zero_add, Nat.add_zero, Nat.mul_one, Nat.reduceMul, Nat.zero_mul, Nat.one_mul]
      rw [if_neg (by simpa using h)] at hi
      rw [w64_in (n := (k : Int) + 1) (by omega) (by omega)]
      refine ⟨k + 1, ⟨hlt, hi⟩, by omega, ?_⟩
      (refine ent_id ?_ ?_ ?_ rfl <;> dsimp only [gateL, legL, spanL, id, go_sem, List.drop, List.take, List.length, List.cons_append, List.nil_append, Nat.beq, Nat.blt, Nat.ble, Nat.reduceAdd, Nat.zero_add, Nat.add_zero, Nat.mul_one, Nat.reduceMul, Nat.zero_mul, Nat.one_mul] <;> simp [gateL, legL, spanL, KFR_iff, KFR, KFL, KF, mtL_same, mtO, Nat.beq_refl])
  refine br_f (by simp; omega) ?_
  dsimp only [go_sem, List.drop, List.take, List.length, List.cons_append, List.nil_append, Nat.beq, Nat.blt, Nat.ble, Nat.reduceAdd, Nat.zero_add, Nat.add_zero, Nat.mul_one, Nat.reduceMul, Nat.zero_mul, Nat.one_mul]
  have hke : k = x.gates.length := by omega
  subst hke
  rw [List.drop_length, outL] at hi
  rw [← hi]
theorem get_leg {l : Land} {leg : Int} (h : inR 0 (l.legs.length - 1) leg = true) : ∃ (k : Nat) (hk : k < l.legs.length), leg = (k : Int) ∧ l.legs[leg.toNat]? = some l.legs[k] := by
  simp only [inR, decide_eq_true_eq] at h
  refine ⟨leg.toNat, by omega, by omega, ?_⟩
  rw [List.getElem?_eq_getElem (by omega)]
theorem ask0 {l : Land} {p : Span} (h : askF l p = 0) : okLand l = true ∧ okPace p = true := by
  unfold askF at h
  cases h1 : okLand l <;> cases h2 : okPace p <;> simp_all
theorem daysR_ok (l : Land) (hs : Small l) (leg : Int) (p : Span) : Ct Try.prog 23 [.agg (landL l), I leg, .agg (spanL p)] (sres (daysF l leg p)) := by
  have hw1 : IntKind.i64.wrap ((l.legs.length : Int) - 1) = (l.legs.length : Int) - 1 := w64_in (by omega) (by have := hs.2.1; omega)
  refine t23 (by simp [landL, wellL, legL, gateL, spanL, KFR_iff, KFL, KF]) (by simp [sres, spanL, KFL, KF]) ?_
  dsimp only [c23, r23, landL, spanL, go_sem, List.drop, List.take, List.length, List.cons_append, List.nil_append, Nat.beq, Nat.blt, Nat.ble, Nat.reduceAdd, Nat.zero_add, Nat.add_zero, Nat.mul_one, Nat.reduceMul, Nat.zero_mul, Nat.one_mul]
  refine call (asked_ok l hs p) ?_
  dsimp only [go_sem, List.drop, List.take, List.length, List.cons_append, List.nil_append, Nat.beq, Nat.blt, Nat.ble, Nat.reduceAdd, Nat.zero_add, Nat.add_zero, Nat.mul_one, Nat.reduceMul, Nat.zero_mul, Nat.one_mul]
  by_cases ha : askF l p = 0
  case neg =>
    refine br_t (by simpa using ha) ?_
    dsimp only [go_sem, List.drop, List.take, List.length, List.cons_append, List.nil_append, Nat.beq, Nat.blt, Nat.ble, Nat.reduceAdd, Nat.zero_add, Nat.add_zero, Nat.mul_one, Nat.reduceMul, Nat.zero_mul, Nat.one_mul]
    simp [daysF, ha, sres, spanL]
  refine br_f (by simpa using ha) ?_
  dsimp only [go_sem, List.drop, List.take, List.length, List.cons_append, List.nil_append, Nat.beq, Nat.blt, Nat.ble, Nat.reduceAdd, Nat.zero_add, Nat.add_zero, Nat.mul_one, Nat.reduceMul, Nat.zero_mul, Nat.one_mul]
  simp only [List.length_map, hw1]
  repeat (first | (refine gb ?_; dsimp only [go_sem, List.drop, List.take, List.length, List.cons_append, List.nil_append, Nat.beq, Nat.blt, Nat.ble, Nat.reduceAdd, Nat.zero_add, Nat.add_zero, Nat.mul_one, Nat.reduceMul, Nat.zero_mul, Nat.one_mul]) | (refine call (within_ok _ _ _) ?_; dsimp only [go_sem, List.drop, List.take, List.length, List.cons_append, List.nil_append, Nat.beq, Nat.blt, Nat.ble, Nat.reduceAdd, Nat.zero_add, Nat.add_zero, Nat.mul_one, Nat.reduceMul, Nat.zero_mul, Nat.one_mul]))
  by_cases hr : inR 0 (l.legs.length - 1) leg = true
  case neg =>
    refine br_t (by grind) ?_
    dsimp only [go_sem, List.drop, List.take, List.length, List.cons_append, List.nil_append, Nat.beq, Nat.blt, Nat.ble, Nat.reduceAdd, Nat.zero_add, Nat.add_zero, Nat.mul_one, Nat.reduceMul, Nat.zero_mul, Nat.one_mul]
    simp [daysF, ha, hr, sres, spanL]
  refine br_f (by grind) ?_
  dsimp only [go_sem, List.drop, List.take, List.length, List.cons_append, List.nil_append, Nat.beq, Nat.blt, Nat.ble, Nat.reduceAdd, Nat.zero_add, Nat.add_zero, Nat.mul_one, Nat.reduceMul, Nat.zero_mul, Nat.one_mul]
  obtain ⟨k, hk, rfl, hget⟩ := get_leg hr
  obtain ⟨hol, hop⟩ := ask0 ha
  have hx := okLand_leg hol l.legs[k] (List.getElem_mem _)
  refine ixs_map k hk rfl ?_
  dsimp only [legL, go_sem, List.drop, List.take, List.length, List.cons_append, List.nil_append, Nat.beq, Nat.blt, Nat.ble, Nat.reduceAdd, Nat.zero_add, Nat.add_zero, Nat.mul_one, Nat.reduceMul, Nat.zero_mul, Nat.one_mul]
  refine call (dayR_ok l.legs[k] p hx hop) ?_
  dsimp only [spanL, go_sem, List.drop, List.take, List.length, List.cons_append, List.nil_append, Nat.beq, Nat.blt, Nat.ble, Nat.reduceAdd, Nat.zero_add, Nat.add_zero, Nat.mul_one, Nat.reduceMul, Nat.zero_mul, Nat.one_mul]
  simp only [daysF, ha, hr, hget, sres, spanL]
  simp
theorem leaveR_ok (l : Land) (hs : Small l) (leg day : Int) (p : Span) : Ct Try.prog 25 [.agg (landL l), I leg, I day, .agg (spanL p)] (sres (leaveF l leg day p)) := by
  have hw1 : IntKind.i64.wrap ((l.legs.length : Int) - 1) = (l.legs.length : Int) - 1 := w64_in (by omega) (by have := hs.2.1; omega)
  refine t25 (by simp [landL, wellL, legL, gateL, spanL, KFR_iff, KFL, KF]) (by simp [sres, spanL, KFL, KF]) ?_
  dsimp only [c25, r25, landL, spanL, go_sem, List.drop, List.take, List.length, List.cons_append, List.nil_append, Nat.beq, Nat.blt, Nat.ble, Nat.reduceAdd, Nat.zero_add, Nat.add_zero, Nat.mul_one, Nat.reduceMul, Nat.zero_mul, Nat.one_mul]
  refine call (asked_ok l hs p) ?_
  dsimp only [go_sem, List.drop, List.take, List.length, List.cons_append, List.nil_append, Nat.beq, Nat.blt, Nat.ble, Nat.reduceAdd, Nat.zero_add, Nat.add_zero, Nat.mul_one, Nat.reduceMul, Nat.zero_mul, Nat.one_mul]
  by_cases ha : askF l p = 0
  case neg =>
    refine br_t (by simpa using ha) ?_
    dsimp only [go_sem, List.drop, List.take, List.length, List.cons_append, List.nil_append, Nat.beq, Nat.blt, Nat.ble, Nat.reduceAdd, Nat.zero_add, Nat.add_zero, Nat.mul_one, Nat.reduceMul, Nat.zero_mul, Nat.one_mul]
    simp [leaveF, ha, sres, spanL]
  refine br_f (by simpa using ha) ?_
  dsimp only [go_sem, List.drop, List.take, List.length, List.cons_append, List.nil_append, Nat.beq, Nat.blt, Nat.ble, Nat.reduceAdd, Nat.zero_add, Nat.add_zero, Nat.mul_one, Nat.reduceMul, Nat.zero_mul, Nat.one_mul]
  simp only [List.length_map, hw1]
  repeat (first | (refine gb ?_; dsimp only [go_sem, List.drop, List.take, List.length, List.cons_append, List.nil_append, Nat.beq, Nat.blt, Nat.ble, Nat.reduceAdd, Nat.zero_add, Nat.add_zero, Nat.mul_one, Nat.reduceMul, Nat.zero_mul, Nat.one_mul]) | (refine call (within_ok _ _ _) ?_; dsimp only [go_sem, List.drop, List.take, List.length, List.cons_append, List.nil_append, Nat.beq, Nat.blt, Nat.ble, Nat.reduceAdd, Nat.zero_add, Nat.add_zero, Nat.mul_one, Nat.reduceMul, Nat.zero_mul, Nat.one_mul]))
  by_cases hr : (inR 0 (l.legs.length - 1) leg && inR 0 100000 day) = true
  case neg =>
    refine br_t (by grind) ?_
    dsimp only [go_sem, List.drop, List.take, List.length, List.cons_append, List.nil_append, Nat.beq, Nat.blt, Nat.ble, Nat.reduceAdd, Nat.zero_add, Nat.add_zero, Nat.mul_one, Nat.reduceMul, Nat.zero_mul, Nat.one_mul]
    simp [leaveF, ha, hr, sres, spanL]
  refine br_f (by grind) ?_
  dsimp only [go_sem, List.drop, List.take, List.length, List.cons_append, List.nil_append, Nat.beq, Nat.blt, Nat.ble, Nat.reduceAdd, Nat.zero_add, Nat.add_zero, Nat.mul_one, Nat.reduceMul, Nat.zero_mul, Nat.one_mul]
  obtain ⟨k, hk, rfl, hget⟩ := get_leg (Bool.and_eq_true_iff.1 hr).1
  obtain ⟨hol, hop⟩ := ask0 ha
  have hday := (Bool.and_eq_true_iff.1 hr).2
  have hd : inR 0 100001 day = true := by simp only [inR, decide_eq_true_eq] at hday ⊢; omega
  have hx := okLand_leg hol l.legs[k] (List.getElem_mem _)
  repeat (first | (refine ixs_map k hk rfl ?_; dsimp only [legL, go_sem, List.drop, List.take, List.length, List.cons_append, List.nil_append, Nat.beq, Nat.blt, Nat.ble, Nat.reduceAdd, Nat.zero_add, Nat.add_zero, Nat.mul_one, Nat.reduceMul, Nat.zero_mul, Nat.one_mul]) | (refine call (may_ok l.legs[k] day p hx hop hd) ?_; dsimp only [spanL, go_sem, List.drop, List.take, List.length, List.cons_append, List.nil_append, Nat.beq, Nat.blt, Nat.ble, Nat.reduceAdd, Nat.zero_add, Nat.add_zero, Nat.mul_one, Nat.reduceMul, Nat.zero_mul, Nat.one_mul]) | (refine call (can_ok l.legs[k] day p hx hop hd) ?_; dsimp only [spanL, go_sem, List.drop, List.take, List.length, List.cons_append, List.nil_append, Nat.beq, Nat.blt, Nat.ble, Nat.reduceAdd, Nat.zero_add, Nat.add_zero, Nat.mul_one, Nat.reduceMul, Nat.zero_mul, Nat.one_mul]))
  simp only [leaveF, ha, hr, hget, sres, spanL]
  simp
end Go.Proofs.Ytkjldleglbbkeaa
