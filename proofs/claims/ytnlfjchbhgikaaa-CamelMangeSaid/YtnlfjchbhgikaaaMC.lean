import Derived.Test.YtnlfjchbhgikaaaMB
import Derived.Test.YtnlfjchbhgikaaaOrd4
set_option maxRecDepth 100000
set_option maxHeartbeats 4000000
namespace Go.Proofs.Ytnlfjchbhgikaaa
open Go Go.Sx Go.Azalai
theorem uwn {n : Int} (h0 : 0 ≤ n) (h1 : n < 18446744073709551616) : IntKind.u64.wrap n = n := by
  have e : n % 2 ^ IntKind.u64.bits = n := Int.emod_eq_of_lt h0 (by show n < 2 ^ 64; omega)
  simp only [IntKind.wrap, e, show IntKind.u64.signed = false from rfl, Bool.false_and]
  rfl
theorem half_run (m : Int) (q0 : 0 ≤ m) (w : World) : (binOp .shr 153 (.int .u64 m) (.int .u64 1)).run Try.prog w = .ok (.int .u64 (m / 2)) w := by
  simp only [binOp, Op.shift]
  rw [if_neg (by decide)]
  have : m.fdiv (2 ^ 1) = m / 2 := by rw [Int.fdiv_eq_ediv_of_nonneg _ (by decide)]; rfl
  show Result.ok (Value.int .u64 (m.fdiv (2 ^ (min (1 : Int).toNat IntKind.u64.bits)))) w = _
  rw [show min (1 : Int).toNat IntKind.u64.bits = 1 from by decide, this]
/-- the symmetric merge: parts of at most N members -/
theorem sym_ok (v N : Nat) : ∀ (a m b : Nat) (l : List Meet), b - a ≤ N → a < m → m < b → b ≤ l.length → l.length < 4611686018427387904 → Srt Meet.day a m l → Srt Meet.day m b l →
    CtM Try.prog 106 [(0, .row v 4 (l.map meetL) 73)] 1 [.mr 0 v, I a, I m, I b, .cl 81 []] (fun o => ∃ l', PIn a b l l' ∧ Srt Meet.day a b l' ∧ o = rowO v l') := by
  induction N with
  | zero => intro a m b l h1 h2 h3; omega
  | succ N ih =>
  intro a m b l hN ham hmb hb hL hs1 hs2
  refine m106 (by simp [hpb]) (fun o ho => by obtain ⟨l', _, _, rfl⟩ := ho; simp [rowO, KX, KXL, KXP, KXH, KFR_iff, KFL, KF, meetL]) ?_
  dsimp only [c106, r106, go_sem, Nat.reduceAdd, Nat.reduceMul, Nat.reduceSub]
  rw [w64_in (n := (m : Int) - (a : Int)) (by omega) (by omega)]
  by_cases hm1 : m = a + 1
  · refine br_t (by simp; omega) ?_
    dsimp only [go_sem, Nat.reduceAdd, Nat.reduceMul, Nat.reduceSub]
    refine loopO (fun s : Nat × Nat => [(10, I (s.1 : Nat)), (11, I (s.2 : Nat))]) (fun _ => []) (fun s => m ≤ s.1 ∧ s.1 ≤ s.2 ∧ s.2 ≤ b ∧ (∀ c, m ≤ c → c < s.1 → ky Meet.day l c < ky Meet.day l a) ∧ ∀ c, s.2 ≤ c → c < b → ky Meet.day l a ≤ ky Meet.day l c) (fun s => s.2 - s.1) (m, b) ⟨Nat.le_refl _, by simp only; omega, Nat.le_refl _, fun c h1 h2 => by simp only at h2; omega, fun c h1 h2 => by simp only at h1; omega⟩ ?_ ?_
    · (refine ent_id ?_ ?_ ?_ rfl rfl <;> dsimp only [meetL, id, go_sem, Nat.reduceAdd, Nat.reduceMul, Nat.reduceSub] <;> simp [meetL, KFR_iff, KFR_app, KFR, KFL, KF, mtL_same, mtO, Nat.beq_refl])
    rintro ⟨i, j⟩ ⟨hi, hij, hj, hlo, hhi⟩
    simp only at hi hij hj hlo hhi
    dsimp only [go_sem, Nat.reduceAdd, Nat.reduceMul, Nat.reduceSub]
    by_cases hlt : i < j
    · refine br_t (by simpa using hlt) ?_
      dsimp only [go_sem, Nat.reduceAdd, Nat.reduceMul, Nat.reduceSub]
      simp (disch := omega) only [w64_in]
      rw [uwn (by omega) (by omega)]
      refine raw_bin rfl (.inr rfl) (half_run _ (by omega)) rfl ?_
      dsimp only [go_sem, Nat.reduceAdd, Nat.reduceMul, Nat.reduceSub]
      obtain ⟨h, hh⟩ : ∃ h : Nat, ((i : Int) + (j : Int)) / 2 = (h : Int) := ⟨(i + j) / 2, by omega⟩
      rw [hh, w64_in (n := (h : Int)) (by omega) (by omega)]
      have hih : i ≤ h ∧ h < j := by omega
      ((try dsimp only [go_sem, Nat.reduceAdd, Nat.reduceMul, Nat.reduceSub]); repeat (simp only [Nat.beq_refl]; try dsimp only [go_sem, Nat.reduceAdd, Nat.reduceMul, Nat.reduceSub]))
      refine ixrm h rfl (by simp; omega) ?_
      ((try dsimp only [go_sem, Nat.reduceAdd, Nat.reduceMul, Nat.reduceSub]); repeat (simp only [Nat.beq_refl]; try dsimp only [go_sem, Nat.reduceAdd, Nat.reduceMul, Nat.reduceSub]))
      refine ldrm (by omega) ?_
      ((try dsimp only [meetL, go_sem, Nat.reduceAdd, Nat.reduceMul, Nat.reduceSub]); repeat (simp only [Nat.beq_refl]; try dsimp only [go_sem, Nat.reduceAdd, Nat.reduceMul, Nat.reduceSub]))
      refine ixrm a rfl (by simp; omega) ?_
      ((try dsimp only [go_sem, Nat.reduceAdd, Nat.reduceMul, Nat.reduceSub]); repeat (simp only [Nat.beq_refl]; try dsimp only [go_sem, Nat.reduceAdd, Nat.reduceMul, Nat.reduceSub]))
      refine ldrm (by omega) ?_
      ((try dsimp only [meetL, go_sem, Nat.reduceAdd, Nat.reduceMul, Nat.reduceSub]); repeat (simp only [Nat.beq_refl]; try dsimp only [go_sem, Nat.reduceAdd, Nat.reduceMul, Nat.reduceSub]))
      refine call (less_ok l[h] l[a]) ?_
      ((try dsimp only [go_sem, Nat.reduceAdd, Nat.reduceMul, Nat.reduceSub]); repeat (simp only [Nat.beq_refl]; try dsimp only [go_sem, Nat.reduceAdd, Nat.reduceMul, Nat.reduceSub]))
      by_cases hk : l[h].day < l[a].day
      · refine br_t (by simp [cmpZ, hk]) ?_
        dsimp only [go_sem, Nat.reduceAdd, Nat.reduceMul, Nat.reduceSub]
        rw [w64_in (n := (h : Int) + 1) (by omega) (by omega)]
        have hkk : ky Meet.day l h < ky Meet.day l a := by rw [ky_eq Meet.day (l := l) (i := h) (by omega), ky_eq Meet.day (l := l) (i := a) (by omega)]; exact hk
        refine ⟨(h + 1, j), ⟨by simp only; omega, by simp only; omega, hj, fun c g1 g2 => ?_, hhi⟩, by simp only; omega, ?_⟩
        · have := hs2.le Meet.day g1 (show c ≤ h by simp only at g2; omega) (by omega); omega
        (refine ent_id ?_ ?_ ?_ rfl rfl <;> dsimp only [meetL, id, go_sem, Nat.reduceAdd, Nat.reduceMul, Nat.reduceSub] <;> simp [meetL, KFR_iff, KFR_app, KFR, KFL, KF, mtL_same, mtO, Nat.beq_refl])
      · refine br_f (by simp [cmpZ, hk]; split <;> decide) ?_
        dsimp only [go_sem, Nat.reduceAdd, Nat.reduceMul, Nat.reduceSub]
        have hkk : ky Meet.day l a ≤ ky Meet.day l h := by rw [ky_eq Meet.day (l := l) (i := h) (by omega), ky_eq Meet.day (l := l) (i := a) (by omega)]; exact Int.not_lt.1 hk
        refine ⟨(i, h), ⟨hi, by simp only; omega, by simp only; omega, hlo, fun c g1 g2 => ?_⟩, by simp only; omega, ?_⟩
        · have := hs2.le Meet.day (show m ≤ h by omega) g1 g2; omega
        (refine ent_id ?_ ?_ ?_ rfl rfl <;> dsimp only [meetL, id, go_sem, Nat.reduceAdd, Nat.reduceMul, Nat.reduceSub] <;> simp [meetL, KFR_iff, KFR_app, KFR, KFL, KF, mtL_same, mtO, Nat.beq_refl])
    refine br_f (by simp; omega) ?_
    dsimp only [go_sem, Nat.reduceAdd, Nat.reduceMul, Nat.reduceSub]
    have hij' : i = j := by omega
    subst hij'
    refine loopO (fun s : Nat × List Meet => [(13, I (s.1 : Nat))]) (fun s => [(0, .row v 4 (s.2.map meetL) 73)]) (fun s => (a ≤ s.1 ∧ s.1 ≤ i - 1) ∧ PIn a b l s.2 ∧ ∀ p, ky Meet.day s.2 p = if a ≤ p ∧ p < s.1 then ky Meet.day l (p + 1) else if p = s.1 then ky Meet.day l a else ky Meet.day l p) (fun s => i - s.1) (a, l) ⟨by simp only; omega, .refl _ _ _, fun p => by
      simp only
      rw [if_neg (by omega)]
      split
      · rename_i h; rw [h]
      · rfl⟩ ?_ ?_
    · (refine ent_id ?_ ?_ ?_ rfl rfl <;> dsimp only [meetL, id, go_sem, Nat.reduceAdd, Nat.reduceMul, Nat.reduceSub] <;> simp [meetL, KFR_iff, KFR_app, KFR, KFL, KF, mtL_same, mtO, Nat.beq_refl])
    rintro ⟨k, l1⟩ ⟨⟨hk0, hk⟩, hp, hky⟩
    simp only at hk0 hk hp hky
    have hl1 := hp.len
    dsimp only [go_sem, Nat.reduceAdd, Nat.reduceMul, Nat.reduceSub]
    rw [w64_in (n := (i : Int) - 1) (by omega) (by omega)]
    by_cases hlt : k < i - 1
    · refine br_t (by simp; omega) ?_
      ((try dsimp only [go_sem, Nat.reduceAdd, Nat.reduceMul, Nat.reduceSub]); repeat (simp only [Nat.beq_refl]; try dsimp only [go_sem, Nat.reduceAdd, Nat.reduceMul, Nat.reduceSub]))
      rw [w64_in (n := (k : Int) + 1) (by omega) (by omega)]
      refine ixrm (k + 1) (by omega) (by simp; omega) ?_
      ((try dsimp only [go_sem, Nat.reduceAdd, Nat.reduceMul, Nat.reduceSub]); repeat (simp only [Nat.beq_refl]; try dsimp only [go_sem, Nat.reduceAdd, Nat.reduceMul, Nat.reduceSub]))
      refine ldrm (by omega) ?_
      ((try dsimp only [meetL, go_sem, Nat.reduceAdd, Nat.reduceMul, Nat.reduceSub]); repeat (simp only [Nat.beq_refl]; try dsimp only [go_sem, Nat.reduceAdd, Nat.reduceMul, Nat.reduceSub]))
      refine ixrm k rfl (by simp; omega) ?_
      ((try dsimp only [go_sem, Nat.reduceAdd, Nat.reduceMul, Nat.reduceSub]); repeat (simp only [Nat.beq_refl]; try dsimp only [go_sem, Nat.reduceAdd, Nat.reduceMul, Nat.reduceSub]))
      refine ldrm (by omega) ?_
      ((try dsimp only [meetL, go_sem, Nat.reduceAdd, Nat.reduceMul, Nat.reduceSub]); repeat (simp only [Nat.beq_refl]; try dsimp only [go_sem, Nat.reduceAdd, Nat.reduceMul, Nat.reduceSub]))
      refine ixrm k rfl (by simp; omega) ?_
      ((try dsimp only [go_sem, Nat.reduceAdd, Nat.reduceMul, Nat.reduceSub]); repeat (simp only [Nat.beq_refl]; try dsimp only [go_sem, Nat.reduceAdd, Nat.reduceMul, Nat.reduceSub]))
      refine strm l1[k + 1] (by omega) (by simp [meetL]) (by simp [meetL, splice]) ?_
      ((try dsimp only [go_sem, Nat.reduceAdd, Nat.reduceMul, Nat.reduceSub]); repeat (simp only [Nat.beq_refl]; try dsimp only [go_sem, Nat.reduceAdd, Nat.reduceMul, Nat.reduceSub]))
      refine ixrm (k + 1) (by first | omega | (rw [w64_in (by omega) (by omega)]; omega)) (by simp; omega) ?_
      ((try dsimp only [go_sem, Nat.reduceAdd, Nat.reduceMul, Nat.reduceSub]); repeat (simp only [Nat.beq_refl]; try dsimp only [go_sem, Nat.reduceAdd, Nat.reduceMul, Nat.reduceSub]))
      refine strm l1[k] (by simp; omega) (by simp [meetL]) (by simp [meetL, splice]) ?_
      rw [← swp_eq (l := l1) (i := k) (j := k + 1) (by omega) (by omega)]
      ((try dsimp only [go_sem, Nat.reduceAdd, Nat.reduceMul, Nat.reduceSub]); repeat (simp only [Nat.beq_refl]; try dsimp only [go_sem, Nat.reduceAdd, Nat.reduceMul, Nat.reduceSub]))
      try rw [w64_in (n := (k : Int) + 1) (by omega) (by omega)]
      rw [show (k : Int) + 1 = ((k + 1 : Nat) : Int) from by omega]
      refine ⟨(k + 1, swp l1 k (k + 1)), ⟨by simp only; omega, hp.trans (.swap (by omega) (by omega) (by omega) (by omega) (by omega)), fun p => ?_⟩, by simp only; omega, ?_⟩
      · simp only
        rw [swp_ky Meet.day (by omega) (by omega), hky, hky, hky]
        by_cases h1 : p = k
        · subst h1
          rw [if_pos rfl, if_neg (by omega), if_neg (by omega), if_pos (by omega)]
        · rw [if_neg h1]
          by_cases h2 : p = k + 1
          · subst h2
            rw [if_pos rfl, if_neg (by omega), if_pos rfl, if_neg (by omega), if_pos rfl]
          · rw [if_neg h2, if_neg h2]
            by_cases h3 : a ≤ p ∧ p < k
            · rw [if_pos h3, if_pos (by omega)]
            · rw [if_neg h3, if_neg h1, if_neg (by omega)]
      (refine ent_id ?_ ?_ ?_ rfl rfl <;> dsimp only [meetL, id, go_sem, Nat.reduceAdd, Nat.reduceMul, Nat.reduceSub] <;> simp [meetL, KFR_iff, KFR_app, KFR, KFL, KF, mtL_same, mtO, Nat.beq_refl])
    refine br_f (by simp; omega) ?_
    dsimp only [go_sem, Nat.reduceAdd, Nat.reduceMul, Nat.reduceSub]
    have hki : k = i - 1 := by omega
    refine ⟨_, ⟨l1, hp, fun p q g1 g2 g3 => ?_, rfl⟩, ?_⟩
    · rw [hky, hky]
      by_cases h1 : p < k
      · rw [if_pos (by omega)]
        by_cases h2 : q < k
        · rw [if_pos (by omega)]; exact hs2 _ _ (by omega) (by omega) (by omega)
        · rw [if_neg (by omega)]
          by_cases h3 : q = k
          · rw [if_pos h3]; exact Int.le_of_lt (hlo _ (by omega) (by omega))
          · rw [if_neg h3]; exact hs2 _ _ (by omega) (by omega) (by omega)
      · rw [if_neg (by omega), if_neg (c := a ≤ q ∧ q < k) (by omega), if_neg (c := q = k) (by omega)]
        by_cases h3 : p = k
        · rw [if_pos h3]; exact hhi _ (by omega) (by omega)
        · rw [if_neg h3]; exact hs2 _ _ (by omega) (by omega) (by omega)
    · simp only [rowO]
      (refine entO_id ?_ ?_ ?_ rfl <;> dsimp only [meetL, id, go_sem, Nat.reduceAdd, Nat.reduceMul, Nat.reduceSub] <;> simp [meetL, KFR_iff, KFR_app, KFR, KFL, KF, mtL_same, mtO, Nat.beq_refl])
  refine br_f (by simp; omega) ?_
  dsimp only [go_sem, Nat.reduceAdd, Nat.reduceMul, Nat.reduceSub]
  rw [w64_in (n := (b : Int) - (m : Int)) (by omega) (by omega)]
  by_cases hb1 : b = m + 1
  · refine br_t (by simp; omega) ?_
    dsimp only [go_sem, Nat.reduceAdd, Nat.reduceMul, Nat.reduceSub]
    refine loopO (fun s : Nat × Nat => [(14, I (s.1 : Nat)), (15, I (s.2 : Nat))]) (fun _ => []) (fun s => a ≤ s.1 ∧ s.1 ≤ s.2 ∧ s.2 ≤ m ∧ (∀ c, a ≤ c → c < s.1 → ky Meet.day l c ≤ ky Meet.day l m) ∧ ∀ c, s.2 ≤ c → c < m → ky Meet.day l m < ky Meet.day l c) (fun s => s.2 - s.1) (a, m) ⟨Nat.le_refl _, by simp only; omega, Nat.le_refl _, fun c h1 h2 => by simp only at h2; omega, fun c h1 h2 => by simp only at h1; omega⟩ ?_ ?_
    · (refine ent_id ?_ ?_ ?_ rfl rfl <;> dsimp only [meetL, id, go_sem, Nat.reduceAdd, Nat.reduceMul, Nat.reduceSub] <;> simp [meetL, KFR_iff, KFR_app, KFR, KFL, KF, mtL_same, mtO, Nat.beq_refl])
    rintro ⟨i, j⟩ ⟨hi, hij, hj, hlo, hhi⟩
    simp only at hi hij hj hlo hhi
    dsimp only [go_sem, Nat.reduceAdd, Nat.reduceMul, Nat.reduceSub]
    by_cases hlt : i < j
    · refine br_t (by simpa using hlt) ?_
      dsimp only [go_sem, Nat.reduceAdd, Nat.reduceMul, Nat.reduceSub]
      simp (disch := omega) only [w64_in]
      rw [uwn (by omega) (by omega)]
      refine raw_bin rfl (.inr rfl) (half_run _ (by omega)) rfl ?_
      dsimp only [go_sem, Nat.reduceAdd, Nat.reduceMul, Nat.reduceSub]
      obtain ⟨h, hh⟩ : ∃ h : Nat, ((i : Int) + (j : Int)) / 2 = (h : Int) := ⟨(i + j) / 2, by omega⟩
      rw [hh, w64_in (n := (h : Int)) (by omega) (by omega)]
      have hih : i ≤ h ∧ h < j := by omega
      ((try dsimp only [go_sem, Nat.reduceAdd, Nat.reduceMul, Nat.reduceSub]); repeat (simp only [Nat.beq_refl]; try dsimp only [go_sem, Nat.reduceAdd, Nat.reduceMul, Nat.reduceSub]))
      refine ixrm m rfl (by simp; omega) ?_
      ((try dsimp only [go_sem, Nat.reduceAdd, Nat.reduceMul, Nat.reduceSub]); repeat (simp only [Nat.beq_refl]; try dsimp only [go_sem, Nat.reduceAdd, Nat.reduceMul, Nat.reduceSub]))
      refine ldrm (by omega) ?_
      ((try dsimp only [meetL, go_sem, Nat.reduceAdd, Nat.reduceMul, Nat.reduceSub]); repeat (simp only [Nat.beq_refl]; try dsimp only [go_sem, Nat.reduceAdd, Nat.reduceMul, Nat.reduceSub]))
      refine ixrm h rfl (by simp; omega) ?_
      ((try dsimp only [go_sem, Nat.reduceAdd, Nat.reduceMul, Nat.reduceSub]); repeat (simp only [Nat.beq_refl]; try dsimp only [go_sem, Nat.reduceAdd, Nat.reduceMul, Nat.reduceSub]))
      refine ldrm (by omega) ?_
      ((try dsimp only [meetL, go_sem, Nat.reduceAdd, Nat.reduceMul, Nat.reduceSub]); repeat (simp only [Nat.beq_refl]; try dsimp only [go_sem, Nat.reduceAdd, Nat.reduceMul, Nat.reduceSub]))
      refine call (less_ok l[m] l[h]) ?_
      ((try dsimp only [go_sem, Nat.reduceAdd, Nat.reduceMul, Nat.reduceSub]); repeat (simp only [Nat.beq_refl]; try dsimp only [go_sem, Nat.reduceAdd, Nat.reduceMul, Nat.reduceSub]))
      by_cases hk : l[m].day < l[h].day
      · refine br_f (by simp [cmpZ, hk]) ?_
        dsimp only [go_sem, Nat.reduceAdd, Nat.reduceMul, Nat.reduceSub]
        have hkk : ky Meet.day l m < ky Meet.day l h := by rw [ky_eq Meet.day (l := l) (i := h) (by omega), ky_eq Meet.day (l := l) (i := m) (by omega)]; exact hk
        refine ⟨(i, h), ⟨hi, by simp only; omega, by simp only; omega, hlo, fun c g1 g2 => ?_⟩, by simp only; omega, ?_⟩
        · have := hs1.le Meet.day (show a ≤ h by omega) g1 g2; omega
        (refine ent_id ?_ ?_ ?_ rfl rfl <;> dsimp only [meetL, id, go_sem, Nat.reduceAdd, Nat.reduceMul, Nat.reduceSub] <;> simp [meetL, KFR_iff, KFR_app, KFR, KFL, KF, mtL_same, mtO, Nat.beq_refl])
      · refine br_t (by simp [cmpZ, hk]; split <;> decide) ?_
        dsimp only [go_sem, Nat.reduceAdd, Nat.reduceMul, Nat.reduceSub]
        rw [w64_in (n := (h : Int) + 1) (by omega) (by omega)]
        have hkk : ky Meet.day l h ≤ ky Meet.day l m := by rw [ky_eq Meet.day (l := l) (i := h) (by omega), ky_eq Meet.day (l := l) (i := m) (by omega)]; exact Int.not_lt.1 hk
        refine ⟨(h + 1, j), ⟨by simp only; omega, by simp only; omega, hj, fun c g1 g2 => ?_, hhi⟩, by simp only; omega, ?_⟩
        · have := hs1.le Meet.day g1 (show c ≤ h by simp only at g2; omega) (by omega); omega
        (refine ent_id ?_ ?_ ?_ rfl rfl <;> dsimp only [meetL, id, go_sem, Nat.reduceAdd, Nat.reduceMul, Nat.reduceSub] <;> simp [meetL, KFR_iff, KFR_app, KFR, KFL, KF, mtL_same, mtO, Nat.beq_refl])
    refine br_f (by simp; omega) ?_
    dsimp only [go_sem, Nat.reduceAdd, Nat.reduceMul, Nat.reduceSub]
    have hij' : i = j := by omega
    subst hij'
    refine loopO (fun s : Nat × List Meet => [(17, I (s.1 : Nat))]) (fun s => [(0, .row v 4 (s.2.map meetL) 73)]) (fun s => (i ≤ s.1 ∧ s.1 ≤ m) ∧ PIn a b l s.2 ∧ ∀ p, ky Meet.day s.2 p = if s.1 < p ∧ p ≤ m then ky Meet.day l (p - 1) else if p = s.1 then ky Meet.day l m else ky Meet.day l p) (fun s => s.1) (m, l) ⟨by simp only; omega, .refl _ _ _, fun p => by
      simp only
      rw [if_neg (by omega)]
      split
      · rename_i h; rw [h]
      · rfl⟩ ?_ ?_
    · (refine ent_id ?_ ?_ ?_ rfl rfl <;> dsimp only [meetL, id, go_sem, Nat.reduceAdd, Nat.reduceMul, Nat.reduceSub] <;> simp [meetL, KFR_iff, KFR_app, KFR, KFL, KF, mtL_same, mtO, Nat.beq_refl])
    rintro ⟨k, l1⟩ ⟨⟨hk0, hk⟩, hp, hky⟩
    simp only at hk0 hk hp hky
    have hl1 := hp.len
    dsimp only [go_sem, Nat.reduceAdd, Nat.reduceMul, Nat.reduceSub]
    by_cases hlt : i < k
    · refine br_t (by simp; omega) ?_
      ((try dsimp only [go_sem, Nat.reduceAdd, Nat.reduceMul, Nat.reduceSub]); repeat (simp only [Nat.beq_refl]; try dsimp only [go_sem, Nat.reduceAdd, Nat.reduceMul, Nat.reduceSub]))
      rw [w64_in (n := (k : Int) - 1) (by omega) (by omega)]
      refine ixrm (k - 1) (by omega) (by simp; omega) ?_
      ((try dsimp only [go_sem, Nat.reduceAdd, Nat.reduceMul, Nat.reduceSub]); repeat (simp only [Nat.beq_refl]; try dsimp only [go_sem, Nat.reduceAdd, Nat.reduceMul, Nat.reduceSub]))
      refine ldrm (by omega) ?_
      ((try dsimp only [meetL, go_sem, Nat.reduceAdd, Nat.reduceMul, Nat.reduceSub]); repeat (simp only [Nat.beq_refl]; try dsimp only [go_sem, Nat.reduceAdd, Nat.reduceMul, Nat.reduceSub]))
      refine ixrm k rfl (by simp; omega) ?_
      ((try dsimp only [go_sem, Nat.reduceAdd, Nat.reduceMul, Nat.reduceSub]); repeat (simp only [Nat.beq_refl]; try dsimp only [go_sem, Nat.reduceAdd, Nat.reduceMul, Nat.reduceSub]))
      refine ldrm (by omega) ?_
      ((try dsimp only [meetL, go_sem, Nat.reduceAdd, Nat.reduceMul, Nat.reduceSub]); repeat (simp only [Nat.beq_refl]; try dsimp only [go_sem, Nat.reduceAdd, Nat.reduceMul, Nat.reduceSub]))
      refine ixrm k rfl (by simp; omega) ?_
      ((try dsimp only [go_sem, Nat.reduceAdd, Nat.reduceMul, Nat.reduceSub]); repeat (simp only [Nat.beq_refl]; try dsimp only [go_sem, Nat.reduceAdd, Nat.reduceMul, Nat.reduceSub]))
      refine strm l1[k - 1] (by omega) (by simp [meetL]) (by simp [meetL, splice]) ?_
      ((try dsimp only [go_sem, Nat.reduceAdd, Nat.reduceMul, Nat.reduceSub]); repeat (simp only [Nat.beq_refl]; try dsimp only [go_sem, Nat.reduceAdd, Nat.reduceMul, Nat.reduceSub]))
      refine ixrm (k - 1) (by first | omega | (rw [w64_in (by omega) (by omega)]; omega)) (by simp; omega) ?_
      ((try dsimp only [go_sem, Nat.reduceAdd, Nat.reduceMul, Nat.reduceSub]); repeat (simp only [Nat.beq_refl]; try dsimp only [go_sem, Nat.reduceAdd, Nat.reduceMul, Nat.reduceSub]))
      refine strm l1[k] (by simp; omega) (by simp [meetL]) (by simp [meetL, splice]) ?_
      rw [← swp_eq (l := l1) (i := k) (j := k - 1) (by omega) (by omega)]
      ((try dsimp only [go_sem, Nat.reduceAdd, Nat.reduceMul, Nat.reduceSub]); repeat (simp only [Nat.beq_refl]; try dsimp only [go_sem, Nat.reduceAdd, Nat.reduceMul, Nat.reduceSub]))
      try rw [w64_in (n := (k : Int) - 1) (by omega) (by omega)]
      rw [show (k : Int) - 1 = ((k - 1 : Nat) : Int) from by omega]
      refine ⟨(k - 1, swp l1 k (k - 1)), ⟨by simp only; omega, hp.trans (.swap (by omega) (by omega) (by omega) (by omega) (by omega)), fun p => ?_⟩, by simp only; omega, ?_⟩
      · simp only
        rw [swp_ky Meet.day (by omega) (by omega), hky, hky, hky]
        by_cases h1 : p = k
        · subst h1
          rw [if_pos rfl, if_neg (by omega), if_neg (by omega), if_pos (by omega)]
        · rw [if_neg h1]
          by_cases h2 : p = k - 1
          · subst h2
            rw [if_pos rfl, if_neg (by omega), if_pos rfl, if_neg (by omega), if_pos rfl]
          · rw [if_neg h2, if_neg h2]
            by_cases h3 : k < p ∧ p ≤ m
            · rw [if_pos h3, if_pos (by omega)]
            · rw [if_neg h3, if_neg h1, if_neg (by omega)]
      (refine ent_id ?_ ?_ ?_ rfl rfl <;> dsimp only [meetL, id, go_sem, Nat.reduceAdd, Nat.reduceMul, Nat.reduceSub] <;> simp [meetL, KFR_iff, KFR_app, KFR, KFL, KF, mtL_same, mtO, Nat.beq_refl])
    refine br_f (by simp; omega) ?_
    dsimp only [go_sem, Nat.reduceAdd, Nat.reduceMul, Nat.reduceSub]
    have hki : k = i := by omega
    refine ⟨_, ⟨l1, hp, fun p q g1 g2 g3 => ?_, rfl⟩, ?_⟩
    · rw [hky, hky]
      by_cases h1 : p < k
      · rw [if_neg (by omega), if_neg (c := p = k) (by omega)]
        by_cases h2 : q < k
        · rw [if_neg (by omega), if_neg (c := q = k) (by omega)]; exact hs1 _ _ (by omega) (by omega) (by omega)
        · by_cases h3 : q = k
          · rw [if_neg (by omega), if_pos h3]; exact hlo _ (by omega) (by omega)
          · rw [if_pos (by omega)]; exact hs1.le Meet.day (by omega) (by omega) (by omega)
      · rw [if_pos (c := k < q ∧ q ≤ m) (by omega)]
        by_cases h3 : p = k
        · rw [if_neg (by omega), if_pos h3]; exact Int.le_of_lt (hhi _ (by omega) (by omega))
        · rw [if_pos (by omega)]; exact hs1 _ _ (by omega) (by omega) (by omega)
    · simp only [rowO]
      (refine entO_id ?_ ?_ ?_ rfl <;> dsimp only [meetL, id, go_sem, Nat.reduceAdd, Nat.reduceMul, Nat.reduceSub] <;> simp [meetL, KFR_iff, KFR_app, KFR, KFL, KF, mtL_same, mtO, Nat.beq_refl])
  refine br_f (by simp; omega) ?_
  dsimp only [go_sem, Nat.reduceAdd, Nat.reduceMul, Nat.reduceSub]
  simp (disch := omega) only [w64_in]
  rw [uwn (by omega) (by omega)]
  refine raw_bin rfl (.inr rfl) (half_run _ (by omega)) rfl ?_
  dsimp only [go_sem, Nat.reduceAdd, Nat.reduceMul, Nat.reduceSub]
  obtain ⟨mid, hmid⟩ : ∃ h : Nat, ((a : Int) + (b : Int)) / 2 = (h : Int) := ⟨(a + b) / 2, by omega⟩
  rw [hmid, w64_in (n := (mid : Int)) (by omega) (by omega)]
  have hm1' : 2 * mid ≤ a + b ∧ a + b ≤ 2 * mid + 1 := by omega
  rw [w64_in (n := (mid : Int) + (m : Int)) (by omega) (by omega)]
  have tail0 : ∀ s0 r0 : Nat, s0 = (if m > mid then mid + m - b else a) → r0 = (if m > mid then mid else m) → a ≤ s0 ∧ s0 ≤ r0 ∧ r0 ≤ m ∧ (∀ c, s0 ≤ c → c < r0 → m ≤ mid + m - 1 - c ∧ mid + m - 1 - c < b) := fun s0 r0 h1 h2 => by
    by_cases hgt : m > mid
    · rw [if_pos hgt] at h1 h2; subst h1; subst h2; refine ⟨by omega, by omega, by omega, fun c _ _ => by omega⟩
    · rw [if_neg hgt] at h1 h2; subst h1; subst h2; refine ⟨by omega, by omega, by omega, fun c _ _ => by omega⟩
  obtain ⟨s0, hs0⟩ : ∃ s0 : Nat, s0 = (if m > mid then mid + m - b else a) := ⟨_, rfl⟩
  obtain ⟨r0, hr0⟩ : ∃ r0 : Nat, r0 = (if m > mid then mid else m) := ⟨_, rfl⟩
  obtain ⟨t1, t2, t3, t4⟩ := tail0 s0 r0 hs0 hr0
  by_cases hgt : m > mid
  · refine br_t (by simp; omega) ?_
    dsimp only [go_sem, Nat.reduceAdd, Nat.reduceMul, Nat.reduceSub]
    rw [w64_in (n := (mid : Int) + (m : Int) - (b : Int)) (by omega) (by omega), w64_in (n := (mid : Int) + (m : Int) - 1) (by omega) (by omega)]
    have e1 : (mid : Int) + (m : Int) - (b : Int) = (s0 : Int) := by rw [if_pos hgt] at hs0; omega
    have e2 : mid = r0 := by rw [if_pos hgt] at hr0; omega
    rw [e1]
    have hM : ((mid : Int)) = (r0 : Int) := by omega
    refine loopO (fun s : Nat × Nat => [(20, I (s.1 : Nat)), (21, I (s.2 : Nat))]) (fun _ => []) (fun s => s0 ≤ s.1 ∧ s.1 ≤ s.2 ∧ s.2 ≤ r0 ∧ Srch (mid + m - 1) s0 r0 s.1 s.2 (ky Meet.day l)) (fun s => s.2 - s.1) (s0, r0) ⟨Nat.le_refl _, t2, Nat.le_refl _, srch_start _ _ _ _⟩ ?_ ?_
    · rw [hM]; (refine ent_id ?_ ?_ ?_ rfl rfl <;> dsimp only [meetL, id, go_sem, Nat.reduceAdd, Nat.reduceMul, Nat.reduceSub] <;> simp [meetL, KFR_iff, KFR_app, KFR, KFL, KF, mtL_same, mtO, Nat.beq_refl])
    rintro ⟨i, j⟩ ⟨hi, hij, hj, hsr⟩
    simp only at hi hij hj hsr
    dsimp only [go_sem, Nat.reduceAdd, Nat.reduceMul, Nat.reduceSub]
    by_cases hlt : i < j
    · refine br_t (by simpa using hlt) ?_
      dsimp only [go_sem, Nat.reduceAdd, Nat.reduceMul, Nat.reduceSub]
      simp (disch := omega) only [w64_in]
      rw [uwn (by omega) (by omega)]
      refine raw_bin rfl (.inr rfl) (half_run _ (by omega)) rfl ?_
      dsimp only [go_sem, Nat.reduceAdd, Nat.reduceMul, Nat.reduceSub]
      obtain ⟨h, hh⟩ : ∃ h : Nat, ((i : Int) + (j : Int)) / 2 = (h : Int) := ⟨(i + j) / 2, by omega⟩
      rw [hh, w64_in (n := (h : Int)) (by omega) (by omega)]
      have hih : i ≤ h ∧ h < j := by omega
      have hph := t4 h (by omega) (by omega)
      rw [w64_in (n := (mid : Int) + (m : Int) - 1 - (h : Int)) (by omega) (by omega)]
      ((try dsimp only [go_sem, Nat.reduceAdd, Nat.reduceMul, Nat.reduceSub]); repeat (simp only [Nat.beq_refl]; try dsimp only [go_sem, Nat.reduceAdd, Nat.reduceMul, Nat.reduceSub]))
      refine ixrm (mid + m - 1 - h) (by omega) (by simp; omega) ?_
      ((try dsimp only [go_sem, Nat.reduceAdd, Nat.reduceMul, Nat.reduceSub]); repeat (simp only [Nat.beq_refl]; try dsimp only [go_sem, Nat.reduceAdd, Nat.reduceMul, Nat.reduceSub]))
      refine ldrm (by omega) ?_
      ((try dsimp only [meetL, go_sem, Nat.reduceAdd, Nat.reduceMul, Nat.reduceSub]); repeat (simp only [Nat.beq_refl]; try dsimp only [go_sem, Nat.reduceAdd, Nat.reduceMul, Nat.reduceSub]))
      refine ixrm h rfl (by simp; omega) ?_
      ((try dsimp only [go_sem, Nat.reduceAdd, Nat.reduceMul, Nat.reduceSub]); repeat (simp only [Nat.beq_refl]; try dsimp only [go_sem, Nat.reduceAdd, Nat.reduceMul, Nat.reduceSub]))
      refine ldrm (by omega) ?_
      ((try dsimp only [meetL, go_sem, Nat.reduceAdd, Nat.reduceMul, Nat.reduceSub]); repeat (simp only [Nat.beq_refl]; try dsimp only [go_sem, Nat.reduceAdd, Nat.reduceMul, Nat.reduceSub]))
      refine call (less_ok l[mid + m - 1 - h] l[h]) ?_
      ((try dsimp only [go_sem, Nat.reduceAdd, Nat.reduceMul, Nat.reduceSub]); repeat (simp only [Nat.beq_refl]; try dsimp only [go_sem, Nat.reduceAdd, Nat.reduceMul, Nat.reduceSub]))
      by_cases hk : l[mid + m - 1 - h].day < l[h].day
      · refine br_f (by simp [cmpZ, hk]) ?_
        dsimp only [go_sem, Nat.reduceAdd, Nat.reduceMul, Nat.reduceSub]
        have hkk : ky Meet.day l (mid + m - 1 - h) < ky Meet.day l h := by rw [ky_eq Meet.day (l := l) (i := h) (by omega), ky_eq Meet.day (l := l) (i := mid + m - 1 - h) (by omega)]; exact hk
        refine ⟨(i, h), ⟨hi, by simp only; omega, by simp only; omega, srch_down hsr hs1 hs2 t1 t3 t4 hih.1 hih.2 hj hkk hi⟩, by simp only; omega, ?_⟩
        (refine ent_id ?_ ?_ ?_ rfl rfl <;> dsimp only [meetL, id, go_sem, Nat.reduceAdd, Nat.reduceMul, Nat.reduceSub] <;> simp [meetL, KFR_iff, KFR_app, KFR, KFL, KF, mtL_same, mtO, Nat.beq_refl])
      · refine br_t (by simp [cmpZ, hk]; split <;> decide) ?_
        dsimp only [go_sem, Nat.reduceAdd, Nat.reduceMul, Nat.reduceSub]
        rw [w64_in (n := (h : Int) + 1) (by omega) (by omega)]
        have hkk : ky Meet.day l h ≤ ky Meet.day l (mid + m - 1 - h) := by rw [ky_eq Meet.day (l := l) (i := h) (by omega), ky_eq Meet.day (l := l) (i := mid + m - 1 - h) (by omega)]; exact Int.not_lt.1 hk
        refine ⟨(h + 1, j), ⟨by simp only; omega, by simp only; omega, hj, srch_up hsr hs1 hs2 t1 t3 t4 hih.1 hih.2 hj hkk hi⟩, by simp only; omega, ?_⟩
        (refine ent_id ?_ ?_ ?_ rfl rfl <;> dsimp only [meetL, id, go_sem, Nat.reduceAdd, Nat.reduceMul, Nat.reduceSub] <;> simp [meetL, KFR_iff, KFR_app, KFR, KFL, KF, mtL_same, mtO, Nat.beq_refl])
    refine br_f (by simp; omega) ?_
    dsimp only [go_sem, Nat.reduceAdd, Nat.reduceMul, Nat.reduceSub]
    have cut := cut_of (s := i) ham hmb hm1'.1 hm1'.2 s0 r0 hs0 hr0 hi (by omega) (by rwa [show j = i from by omega] at hsr)
    rw [w64_in (n := (mid : Int) + (m : Int) - (i : Int)) (by omega) (by omega), show (mid : Int) + (m : Int) - (i : Int) = ((mid + m - i : Nat) : Int) from by omega]
    by_cases hr : i < m ∧ m < mid + m - i
    · rw [show decide ((i : Int) < (m : Int)) = true from by simp; omega]
      repeat (refine .inl ⟨rfl, ?_⟩; ((try dsimp only [go_sem, Nat.reduceAdd, Nat.reduceMul, Nat.reduceSub]); repeat (simp only [Nat.beq_refl]; try dsimp only [go_sem, Nat.reduceAdd, Nat.reduceMul, Nat.reduceSub])))
      refine br_t (by simp; omega) ?_
      dsimp only [go_sem, Nat.reduceAdd, Nat.reduceMul, Nat.reduceSub]
      refine callmP [0] (rot_ok v i m (mid + m - i) l hr.1 hr.2 (by omega) hL) rfl rfl rfl ?_ ?_ ?_
      · ((try dsimp only [go_sem, Nat.reduceAdd, Nat.reduceMul, Nat.reduceSub]); repeat (simp only [Nat.beq_refl]; try dsimp only [go_sem, Nat.reduceAdd, Nat.reduceMul, Nat.reduceSub]))
        simp [mtL, mtB, mtS]
      · ((try dsimp only [go_sem, Nat.reduceAdd, Nat.reduceMul, Nat.reduceSub]); repeat (simp only [Nat.beq_refl]; try dsimp only [go_sem, Nat.reduceAdd, Nat.reduceMul, Nat.reduceSub]))
        simp [KFR_iff, meetL, KFL, KF]
      rintro _ ⟨l1, hp1, hk1, rfl⟩
      ((try dsimp only [rowO, go_sem, Nat.reduceAdd, Nat.reduceMul, Nat.reduceSub]); repeat (simp only [Nat.beq_refl]; try dsimp only [go_sem, Nat.reduceAdd, Nat.reduceMul, Nat.reduceSub]))
      have cd := cutd_rot Meet.day cut hs1 hs2 hk1
      have pp : PIn a b l l1 := hp1.mono (by omega) (by have := cut.e1; omega)
      have hl1 := pp.len
      by_cases hf : a < i ∧ i < mid
      · rw [show decide ((a : Int) < (i : Int)) = true from by simp; omega]
        repeat (refine .inl ⟨rfl, ?_⟩; ((try dsimp only [go_sem, Nat.reduceAdd, Nat.reduceMul, Nat.reduceSub]); repeat (simp only [Nat.beq_refl]; try dsimp only [go_sem, Nat.reduceAdd, Nat.reduceMul, Nat.reduceSub])))
        refine br_t (by simp; omega) ?_
        dsimp only [go_sem, Nat.reduceAdd, Nat.reduceMul, Nat.reduceSub]
        refine callmP [0] (ih a i mid l1 (by omega) hf.1 hf.2 (by omega) (by omega) cd.s1 cd.s2) rfl rfl rfl ?_ ?_ ?_
        · ((try dsimp only [go_sem, Nat.reduceAdd, Nat.reduceMul, Nat.reduceSub]); repeat (simp only [Nat.beq_refl]; try dsimp only [go_sem, Nat.reduceAdd, Nat.reduceMul, Nat.reduceSub]))
          simp [mtL, mtB, mtS]
        · ((try dsimp only [go_sem, Nat.reduceAdd, Nat.reduceMul, Nat.reduceSub]); repeat (simp only [Nat.beq_refl]; try dsimp only [go_sem, Nat.reduceAdd, Nat.reduceMul, Nat.reduceSub]))
          simp [KFR_iff, meetL, KFL, KF]
        rintro _ ⟨l2, hp2, hs3, rfl⟩
        ((try dsimp only [rowO, go_sem, Nat.reduceAdd, Nat.reduceMul, Nat.reduceSub]); repeat (simp only [Nat.beq_refl]; try dsimp only [go_sem, Nat.reduceAdd, Nat.reduceMul, Nat.reduceSub]))
        have ce := cutl_rec Meet.day cd hp2 hs3 (by omega)
        have pq : PIn a b l l2 := pp.trans (hp2.mono (by omega) (by omega))
        have hl2 := pq.len
        by_cases hg : mid < mid + m - i ∧ mid + m - i < b
        · rw [show decide ((mid : Int) < ((mid + m - i : Nat) : Int)) = true from by simp; omega]
          repeat (refine .inl ⟨rfl, ?_⟩; ((try dsimp only [go_sem, Nat.reduceAdd, Nat.reduceMul, Nat.reduceSub]); repeat (simp only [Nat.beq_refl]; try dsimp only [go_sem, Nat.reduceAdd, Nat.reduceMul, Nat.reduceSub])))
          refine br_t (by simp; omega) ?_
          dsimp only [go_sem, Nat.reduceAdd, Nat.reduceMul, Nat.reduceSub]
          refine callmP [0] (ih mid (mid + m - i) b l2 (by omega) hg.1 hg.2 (by omega) (by omega) ce.s3 ce.s4) rfl rfl rfl ?_ ?_ ?_
          · ((try dsimp only [go_sem, Nat.reduceAdd, Nat.reduceMul, Nat.reduceSub]); repeat (simp only [Nat.beq_refl]; try dsimp only [go_sem, Nat.reduceAdd, Nat.reduceMul, Nat.reduceSub]))
            simp [mtL, mtB, mtS]
          · ((try dsimp only [go_sem, Nat.reduceAdd, Nat.reduceMul, Nat.reduceSub]); repeat (simp only [Nat.beq_refl]; try dsimp only [go_sem, Nat.reduceAdd, Nat.reduceMul, Nat.reduceSub]))
            simp [KFR_iff, meetL, KFL, KF]
          rintro _ ⟨l3, hp3, hs4, rfl⟩
          ((try dsimp only [rowO, go_sem, Nat.reduceAdd, Nat.reduceMul, Nat.reduceSub]); repeat (simp only [Nat.beq_refl]; try dsimp only [go_sem, Nat.reduceAdd, Nat.reduceMul, Nat.reduceSub]))
          refine ⟨_, ⟨l3, pq.trans (hp3.mono (by omega) (by omega)), cut_rec Meet.day ce hp3 hs4 (by omega), rfl⟩, ?_⟩
          try simp only [rowO]
          (refine entO_id ?_ ?_ ?_ rfl <;> dsimp only [meetL, id, go_sem, Nat.reduceAdd, Nat.reduceMul, Nat.reduceSub] <;> simp [meetL, KFR_iff, KFR_app, KFR, KFL, KF, mtL_same, mtO, Nat.beq_refl])
        · skip
          repeat (refine gb ?_; ((try dsimp only [go_sem, Nat.reduceAdd, Nat.reduceMul, Nat.reduceSub]); repeat (simp only [Nat.beq_refl]; try dsimp only [go_sem, Nat.reduceAdd, Nat.reduceMul, Nat.reduceSub])))
          refine br_f (by simp; omega) ?_
          dsimp only [go_sem, Nat.reduceAdd, Nat.reduceMul, Nat.reduceSub]
          refine ⟨_, ⟨l2, pq, cut_no Meet.day ce hg, rfl⟩, ?_⟩
          try simp only [rowO]
          (refine entO_id ?_ ?_ ?_ rfl <;> dsimp only [meetL, id, go_sem, Nat.reduceAdd, Nat.reduceMul, Nat.reduceSub] <;> simp [meetL, KFR_iff, KFR_app, KFR, KFL, KF, mtL_same, mtO, Nat.beq_refl])
      · skip
        repeat (refine gb ?_; ((try dsimp only [go_sem, Nat.reduceAdd, Nat.reduceMul, Nat.reduceSub]); repeat (simp only [Nat.beq_refl]; try dsimp only [go_sem, Nat.reduceAdd, Nat.reduceMul, Nat.reduceSub])))
        refine br_f (by simp; omega) ?_
        dsimp only [go_sem, Nat.reduceAdd, Nat.reduceMul, Nat.reduceSub]
        have ce := cutl_no Meet.day cd hf
        have pq := pp
        have hl2 := pq.len
        by_cases hg : mid < mid + m - i ∧ mid + m - i < b
        · rw [show decide ((mid : Int) < ((mid + m - i : Nat) : Int)) = true from by simp; omega]
          repeat (refine .inl ⟨rfl, ?_⟩; ((try dsimp only [go_sem, Nat.reduceAdd, Nat.reduceMul, Nat.reduceSub]); repeat (simp only [Nat.beq_refl]; try dsimp only [go_sem, Nat.reduceAdd, Nat.reduceMul, Nat.reduceSub])))
          refine br_t (by simp; omega) ?_
          dsimp only [go_sem, Nat.reduceAdd, Nat.reduceMul, Nat.reduceSub]
          refine callmP [0] (ih mid (mid + m - i) b l1 (by omega) hg.1 hg.2 (by omega) (by omega) ce.s3 ce.s4) rfl rfl rfl ?_ ?_ ?_
          · ((try dsimp only [go_sem, Nat.reduceAdd, Nat.reduceMul, Nat.reduceSub]); repeat (simp only [Nat.beq_refl]; try dsimp only [go_sem, Nat.reduceAdd, Nat.reduceMul, Nat.reduceSub]))
            simp [mtL, mtB, mtS]
          · ((try dsimp only [go_sem, Nat.reduceAdd, Nat.reduceMul, Nat.reduceSub]); repeat (simp only [Nat.beq_refl]; try dsimp only [go_sem, Nat.reduceAdd, Nat.reduceMul, Nat.reduceSub]))
            simp [KFR_iff, meetL, KFL, KF]
          rintro _ ⟨l3, hp3, hs4, rfl⟩
          ((try dsimp only [rowO, go_sem, Nat.reduceAdd, Nat.reduceMul, Nat.reduceSub]); repeat (simp only [Nat.beq_refl]; try dsimp only [go_sem, Nat.reduceAdd, Nat.reduceMul, Nat.reduceSub]))
          refine ⟨_, ⟨l3, pq.trans (hp3.mono (by omega) (by omega)), cut_rec Meet.day ce hp3 hs4 (by omega), rfl⟩, ?_⟩
          try simp only [rowO]
          (refine entO_id ?_ ?_ ?_ rfl <;> dsimp only [meetL, id, go_sem, Nat.reduceAdd, Nat.reduceMul, Nat.reduceSub] <;> simp [meetL, KFR_iff, KFR_app, KFR, KFL, KF, mtL_same, mtO, Nat.beq_refl])
        · skip
          repeat (refine gb ?_; ((try dsimp only [go_sem, Nat.reduceAdd, Nat.reduceMul, Nat.reduceSub]); repeat (simp only [Nat.beq_refl]; try dsimp only [go_sem, Nat.reduceAdd, Nat.reduceMul, Nat.reduceSub])))
          refine br_f (by simp; omega) ?_
          dsimp only [go_sem, Nat.reduceAdd, Nat.reduceMul, Nat.reduceSub]
          refine ⟨_, ⟨l1, pq, cut_no Meet.day ce hg, rfl⟩, ?_⟩
          try simp only [rowO]
          (refine entO_id ?_ ?_ ?_ rfl <;> dsimp only [meetL, id, go_sem, Nat.reduceAdd, Nat.reduceMul, Nat.reduceSub] <;> simp [meetL, KFR_iff, KFR_app, KFR, KFL, KF, mtL_same, mtO, Nat.beq_refl])
    · skip
      repeat (refine gb ?_; ((try dsimp only [go_sem, Nat.reduceAdd, Nat.reduceMul, Nat.reduceSub]); repeat (simp only [Nat.beq_refl]; try dsimp only [go_sem, Nat.reduceAdd, Nat.reduceMul, Nat.reduceSub])))
      refine br_f (by simp; omega) ?_
      dsimp only [go_sem, Nat.reduceAdd, Nat.reduceMul, Nat.reduceSub]
      have cd := cutd_no Meet.day cut hs1 hs2 hr
      have pp : PIn a b l l := .refl _ _ _
      have hl1 := pp.len
      by_cases hf : a < i ∧ i < mid
      · rw [show decide ((a : Int) < (i : Int)) = true from by simp; omega]
        repeat (refine .inl ⟨rfl, ?_⟩; ((try dsimp only [go_sem, Nat.reduceAdd, Nat.reduceMul, Nat.reduceSub]); repeat (simp only [Nat.beq_refl]; try dsimp only [go_sem, Nat.reduceAdd, Nat.reduceMul, Nat.reduceSub])))
        refine br_t (by simp; omega) ?_
        dsimp only [go_sem, Nat.reduceAdd, Nat.reduceMul, Nat.reduceSub]
        refine callmP [0] (ih a i mid l (by omega) hf.1 hf.2 (by omega) (by omega) cd.s1 cd.s2) rfl rfl rfl ?_ ?_ ?_
        · ((try dsimp only [go_sem, Nat.reduceAdd, Nat.reduceMul, Nat.reduceSub]); repeat (simp only [Nat.beq_refl]; try dsimp only [go_sem, Nat.reduceAdd, Nat.reduceMul, Nat.reduceSub]))
          simp [mtL, mtB, mtS]
        · ((try dsimp only [go_sem, Nat.reduceAdd, Nat.reduceMul, Nat.reduceSub]); repeat (simp only [Nat.beq_refl]; try dsimp only [go_sem, Nat.reduceAdd, Nat.reduceMul, Nat.reduceSub]))
          simp [KFR_iff, meetL, KFL, KF]
        rintro _ ⟨l2, hp2, hs3, rfl⟩
        ((try dsimp only [rowO, go_sem, Nat.reduceAdd, Nat.reduceMul, Nat.reduceSub]); repeat (simp only [Nat.beq_refl]; try dsimp only [go_sem, Nat.reduceAdd, Nat.reduceMul, Nat.reduceSub]))
        have ce := cutl_rec Meet.day cd hp2 hs3 (by omega)
        have pq : PIn a b l l2 := pp.trans (hp2.mono (by omega) (by omega))
        have hl2 := pq.len
        by_cases hg : mid < mid + m - i ∧ mid + m - i < b
        · rw [show decide ((mid : Int) < ((mid + m - i : Nat) : Int)) = true from by simp; omega]
          repeat (refine .inl ⟨rfl, ?_⟩; ((try dsimp only [go_sem, Nat.reduceAdd, Nat.reduceMul, Nat.reduceSub]); repeat (simp only [Nat.beq_refl]; try dsimp only [go_sem, Nat.reduceAdd, Nat.reduceMul, Nat.reduceSub])))
          refine br_t (by simp; omega) ?_
          dsimp only [go_sem, Nat.reduceAdd, Nat.reduceMul, Nat.reduceSub]
          refine callmP [0] (ih mid (mid + m - i) b l2 (by omega) hg.1 hg.2 (by omega) (by omega) ce.s3 ce.s4) rfl rfl rfl ?_ ?_ ?_
          · ((try dsimp only [go_sem, Nat.reduceAdd, Nat.reduceMul, Nat.reduceSub]); repeat (simp only [Nat.beq_refl]; try dsimp only [go_sem, Nat.reduceAdd, Nat.reduceMul, Nat.reduceSub]))
            simp [mtL, mtB, mtS]
          · ((try dsimp only [go_sem, Nat.reduceAdd, Nat.reduceMul, Nat.reduceSub]); repeat (simp only [Nat.beq_refl]; try dsimp only [go_sem, Nat.reduceAdd, Nat.reduceMul, Nat.reduceSub]))
            simp [KFR_iff, meetL, KFL, KF]
          rintro _ ⟨l3, hp3, hs4, rfl⟩
          ((try dsimp only [rowO, go_sem, Nat.reduceAdd, Nat.reduceMul, Nat.reduceSub]); repeat (simp only [Nat.beq_refl]; try dsimp only [go_sem, Nat.reduceAdd, Nat.reduceMul, Nat.reduceSub]))
          refine ⟨_, ⟨l3, pq.trans (hp3.mono (by omega) (by omega)), cut_rec Meet.day ce hp3 hs4 (by omega), rfl⟩, ?_⟩
          try simp only [rowO]
          (refine entO_id ?_ ?_ ?_ rfl <;> dsimp only [meetL, id, go_sem, Nat.reduceAdd, Nat.reduceMul, Nat.reduceSub] <;> simp [meetL, KFR_iff, KFR_app, KFR, KFL, KF, mtL_same, mtO, Nat.beq_refl])
        · skip
          repeat (refine gb ?_; ((try dsimp only [go_sem, Nat.reduceAdd, Nat.reduceMul, Nat.reduceSub]); repeat (simp only [Nat.beq_refl]; try dsimp only [go_sem, Nat.reduceAdd, Nat.reduceMul, Nat.reduceSub])))
          refine br_f (by simp; omega) ?_
          dsimp only [go_sem, Nat.reduceAdd, Nat.reduceMul, Nat.reduceSub]
          refine ⟨_, ⟨l2, pq, cut_no Meet.day ce hg, rfl⟩, ?_⟩
          try simp only [rowO]
          (refine entO_id ?_ ?_ ?_ rfl <;> dsimp only [meetL, id, go_sem, Nat.reduceAdd, Nat.reduceMul, Nat.reduceSub] <;> simp [meetL, KFR_iff, KFR_app, KFR, KFL, KF, mtL_same, mtO, Nat.beq_refl])
      · skip
        repeat (refine gb ?_; ((try dsimp only [go_sem, Nat.reduceAdd, Nat.reduceMul, Nat.reduceSub]); repeat (simp only [Nat.beq_refl]; try dsimp only [go_sem, Nat.reduceAdd, Nat.reduceMul, Nat.reduceSub])))
        refine br_f (by simp; omega) ?_
        dsimp only [go_sem, Nat.reduceAdd, Nat.reduceMul, Nat.reduceSub]
        have ce := cutl_no Meet.day cd hf
        have pq := pp
        have hl2 := pq.len
        by_cases hg : mid < mid + m - i ∧ mid + m - i < b
        · rw [show decide ((mid : Int) < ((mid + m - i : Nat) : Int)) = true from by simp; omega]
          repeat (refine .inl ⟨rfl, ?_⟩; ((try dsimp only [go_sem, Nat.reduceAdd, Nat.reduceMul, Nat.reduceSub]); repeat (simp only [Nat.beq_refl]; try dsimp only [go_sem, Nat.reduceAdd, Nat.reduceMul, Nat.reduceSub])))
          refine br_t (by simp; omega) ?_
          dsimp only [go_sem, Nat.reduceAdd, Nat.reduceMul, Nat.reduceSub]
          refine callmP [0] (ih mid (mid + m - i) b l (by omega) hg.1 hg.2 (by omega) (by omega) ce.s3 ce.s4) rfl rfl rfl ?_ ?_ ?_
          · ((try dsimp only [go_sem, Nat.reduceAdd, Nat.reduceMul, Nat.reduceSub]); repeat (simp only [Nat.beq_refl]; try dsimp only [go_sem, Nat.reduceAdd, Nat.reduceMul, Nat.reduceSub]))
            simp [mtL, mtB, mtS]
          · ((try dsimp only [go_sem, Nat.reduceAdd, Nat.reduceMul, Nat.reduceSub]); repeat (simp only [Nat.beq_refl]; try dsimp only [go_sem, Nat.reduceAdd, Nat.reduceMul, Nat.reduceSub]))
            simp [KFR_iff, meetL, KFL, KF]
          rintro _ ⟨l3, hp3, hs4, rfl⟩
          ((try dsimp only [rowO, go_sem, Nat.reduceAdd, Nat.reduceMul, Nat.reduceSub]); repeat (simp only [Nat.beq_refl]; try dsimp only [go_sem, Nat.reduceAdd, Nat.reduceMul, Nat.reduceSub]))
          refine ⟨_, ⟨l3, pq.trans (hp3.mono (by omega) (by omega)), cut_rec Meet.day ce hp3 hs4 (by omega), rfl⟩, ?_⟩
          try simp only [rowO]
          (refine entO_id ?_ ?_ ?_ rfl <;> dsimp only [meetL, id, go_sem, Nat.reduceAdd, Nat.reduceMul, Nat.reduceSub] <;> simp [meetL, KFR_iff, KFR_app, KFR, KFL, KF, mtL_same, mtO, Nat.beq_refl])
        · skip
          repeat (refine gb ?_; ((try dsimp only [go_sem, Nat.reduceAdd, Nat.reduceMul, Nat.reduceSub]); repeat (simp only [Nat.beq_refl]; try dsimp only [go_sem, Nat.reduceAdd, Nat.reduceMul, Nat.reduceSub])))
          refine br_f (by simp; omega) ?_
          dsimp only [go_sem, Nat.reduceAdd, Nat.reduceMul, Nat.reduceSub]
          refine ⟨_, ⟨l, pq, cut_no Meet.day ce hg, rfl⟩, ?_⟩
          try simp only [rowO]
          (refine entO_id ?_ ?_ ?_ rfl <;> dsimp only [meetL, id, go_sem, Nat.reduceAdd, Nat.reduceMul, Nat.reduceSub] <;> simp [meetL, KFR_iff, KFR_app, KFR, KFL, KF, mtL_same, mtO, Nat.beq_refl])
  · refine br_f (by simp; omega) ?_
    dsimp only [go_sem, Nat.reduceAdd, Nat.reduceMul, Nat.reduceSub]
    rw [w64_in (n := (mid : Int) + (m : Int) - 1) (by omega) (by omega)]
    have hA : (a : Int) = (s0 : Int) := by rw [if_neg hgt] at hs0; omega
    have hM : (m : Int) = (r0 : Int) := by rw [if_neg hgt] at hr0; omega
    refine loopO (fun s : Nat × Nat => [(20, I (s.1 : Nat)), (21, I (s.2 : Nat))]) (fun _ => []) (fun s => s0 ≤ s.1 ∧ s.1 ≤ s.2 ∧ s.2 ≤ r0 ∧ Srch (mid + m - 1) s0 r0 s.1 s.2 (ky Meet.day l)) (fun s => s.2 - s.1) (s0, r0) ⟨Nat.le_refl _, t2, Nat.le_refl _, srch_start _ _ _ _⟩ ?_ ?_
    · have e3 : s0 = a := by omega
      have e4 : r0 = m := by omega
      subst e3; subst e4; (refine ent_id ?_ ?_ ?_ rfl rfl <;> dsimp only [meetL, id, go_sem, Nat.reduceAdd, Nat.reduceMul, Nat.reduceSub] <;> simp [meetL, KFR_iff, KFR_app, KFR, KFL, KF, mtL_same, mtO, Nat.beq_refl])
    rintro ⟨i, j⟩ ⟨hi, hij, hj, hsr⟩
    simp only at hi hij hj hsr
    dsimp only [go_sem, Nat.reduceAdd, Nat.reduceMul, Nat.reduceSub]
    by_cases hlt : i < j
    · refine br_t (by simpa using hlt) ?_
      dsimp only [go_sem, Nat.reduceAdd, Nat.reduceMul, Nat.reduceSub]
      simp (disch := omega) only [w64_in]
      rw [uwn (by omega) (by omega)]
      refine raw_bin rfl (.inr rfl) (half_run _ (by omega)) rfl ?_
      dsimp only [go_sem, Nat.reduceAdd, Nat.reduceMul, Nat.reduceSub]
      obtain ⟨h, hh⟩ : ∃ h : Nat, ((i : Int) + (j : Int)) / 2 = (h : Int) := ⟨(i + j) / 2, by omega⟩
      rw [hh, w64_in (n := (h : Int)) (by omega) (by omega)]
      have hih : i ≤ h ∧ h < j := by omega
      have hph := t4 h (by omega) (by omega)
      rw [w64_in (n := (mid : Int) + (m : Int) - 1 - (h : Int)) (by omega) (by omega)]
      ((try dsimp only [go_sem, Nat.reduceAdd, Nat.reduceMul, Nat.reduceSub]); repeat (simp only [Nat.beq_refl]; try dsimp only [go_sem, Nat.reduceAdd, Nat.reduceMul, Nat.reduceSub]))
      refine ixrm (mid + m - 1 - h) (by omega) (by simp; omega) ?_
      ((try dsimp only [go_sem, Nat.reduceAdd, Nat.reduceMul, Nat.reduceSub]); repeat (simp only [Nat.beq_refl]; try dsimp only [go_sem, Nat.reduceAdd, Nat.reduceMul, Nat.reduceSub]))
      refine ldrm (by omega) ?_
      ((try dsimp only [meetL, go_sem, Nat.reduceAdd, Nat.reduceMul, Nat.reduceSub]); repeat (simp only [Nat.beq_refl]; try dsimp only [go_sem, Nat.reduceAdd, Nat.reduceMul, Nat.reduceSub]))
      refine ixrm h rfl (by simp; omega) ?_
      ((try dsimp only [go_sem, Nat.reduceAdd, Nat.reduceMul, Nat.reduceSub]); repeat (simp only [Nat.beq_refl]; try dsimp only [go_sem, Nat.reduceAdd, Nat.reduceMul, Nat.reduceSub]))
      refine ldrm (by omega) ?_
      ((try dsimp only [meetL, go_sem, Nat.reduceAdd, Nat.reduceMul, Nat.reduceSub]); repeat (simp only [Nat.beq_refl]; try dsimp only [go_sem, Nat.reduceAdd, Nat.reduceMul, Nat.reduceSub]))
      refine call (less_ok l[mid + m - 1 - h] l[h]) ?_
      ((try dsimp only [go_sem, Nat.reduceAdd, Nat.reduceMul, Nat.reduceSub]); repeat (simp only [Nat.beq_refl]; try dsimp only [go_sem, Nat.reduceAdd, Nat.reduceMul, Nat.reduceSub]))
      by_cases hk : l[mid + m - 1 - h].day < l[h].day
      · refine br_f (by simp [cmpZ, hk]) ?_
        dsimp only [go_sem, Nat.reduceAdd, Nat.reduceMul, Nat.reduceSub]
        have hkk : ky Meet.day l (mid + m - 1 - h) < ky Meet.day l h := by rw [ky_eq Meet.day (l := l) (i := h) (by omega), ky_eq Meet.day (l := l) (i := mid + m - 1 - h) (by omega)]; exact hk
        refine ⟨(i, h), ⟨hi, by simp only; omega, by simp only; omega, srch_down hsr hs1 hs2 t1 t3 t4 hih.1 hih.2 hj hkk hi⟩, by simp only; omega, ?_⟩
        (refine ent_id ?_ ?_ ?_ rfl rfl <;> dsimp only [meetL, id, go_sem, Nat.reduceAdd, Nat.reduceMul, Nat.reduceSub] <;> simp [meetL, KFR_iff, KFR_app, KFR, KFL, KF, mtL_same, mtO, Nat.beq_refl])
      · refine br_t (by simp [cmpZ, hk]; split <;> decide) ?_
        dsimp only [go_sem, Nat.reduceAdd, Nat.reduceMul, Nat.reduceSub]
        rw [w64_in (n := (h : Int) + 1) (by omega) (by omega)]
        have hkk : ky Meet.day l h ≤ ky Meet.day l (mid + m - 1 - h) := by rw [ky_eq Meet.day (l := l) (i := h) (by omega), ky_eq Meet.day (l := l) (i := mid + m - 1 - h) (by omega)]; exact Int.not_lt.1 hk
        refine ⟨(h + 1, j), ⟨by simp only; omega, by simp only; omega, hj, srch_up hsr hs1 hs2 t1 t3 t4 hih.1 hih.2 hj hkk hi⟩, by simp only; omega, ?_⟩
        (refine ent_id ?_ ?_ ?_ rfl rfl <;> dsimp only [meetL, id, go_sem, Nat.reduceAdd, Nat.reduceMul, Nat.reduceSub] <;> simp [meetL, KFR_iff, KFR_app, KFR, KFL, KF, mtL_same, mtO, Nat.beq_refl])
    refine br_f (by simp; omega) ?_
    dsimp only [go_sem, Nat.reduceAdd, Nat.reduceMul, Nat.reduceSub]
    have cut := cut_of (s := i) ham hmb hm1'.1 hm1'.2 s0 r0 hs0 hr0 hi (by omega) (by rwa [show j = i from by omega] at hsr)
    rw [w64_in (n := (mid : Int) + (m : Int) - (i : Int)) (by omega) (by omega), show (mid : Int) + (m : Int) - (i : Int) = ((mid + m - i : Nat) : Int) from by omega]
    by_cases hr : i < m ∧ m < mid + m - i
    · rw [show decide ((i : Int) < (m : Int)) = true from by simp; omega]
      repeat (refine .inl ⟨rfl, ?_⟩; ((try dsimp only [go_sem, Nat.reduceAdd, Nat.reduceMul, Nat.reduceSub]); repeat (simp only [Nat.beq_refl]; try dsimp only [go_sem, Nat.reduceAdd, Nat.reduceMul, Nat.reduceSub])))
      refine br_t (by simp; omega) ?_
      dsimp only [go_sem, Nat.reduceAdd, Nat.reduceMul, Nat.reduceSub]
      refine callmP [0] (rot_ok v i m (mid + m - i) l hr.1 hr.2 (by omega) hL) rfl rfl rfl ?_ ?_ ?_
      · ((try dsimp only [go_sem, Nat.reduceAdd, Nat.reduceMul, Nat.reduceSub]); repeat (simp only [Nat.beq_refl]; try dsimp only [go_sem, Nat.reduceAdd, Nat.reduceMul, Nat.reduceSub]))
        simp [mtL, mtB, mtS]
      · ((try dsimp only [go_sem, Nat.reduceAdd, Nat.reduceMul, Nat.reduceSub]); repeat (simp only [Nat.beq_refl]; try dsimp only [go_sem, Nat.reduceAdd, Nat.reduceMul, Nat.reduceSub]))
        simp [KFR_iff, meetL, KFL, KF]
      rintro _ ⟨l1, hp1, hk1, rfl⟩
      ((try dsimp only [rowO, go_sem, Nat.reduceAdd, Nat.reduceMul, Nat.reduceSub]); repeat (simp only [Nat.beq_refl]; try dsimp only [go_sem, Nat.reduceAdd, Nat.reduceMul, Nat.reduceSub]))
      have cd := cutd_rot Meet.day cut hs1 hs2 hk1
      have pp : PIn a b l l1 := hp1.mono (by omega) (by have := cut.e1; omega)
      have hl1 := pp.len
      by_cases hf : a < i ∧ i < mid
      · rw [show decide ((a : Int) < (i : Int)) = true from by simp; omega]
        repeat (refine .inl ⟨rfl, ?_⟩; ((try dsimp only [go_sem, Nat.reduceAdd, Nat.reduceMul, Nat.reduceSub]); repeat (simp only [Nat.beq_refl]; try dsimp only [go_sem, Nat.reduceAdd, Nat.reduceMul, Nat.reduceSub])))
        refine br_t (by simp; omega) ?_
        dsimp only [go_sem, Nat.reduceAdd, Nat.reduceMul, Nat.reduceSub]
        refine callmP [0] (ih a i mid l1 (by omega) hf.1 hf.2 (by omega) (by omega) cd.s1 cd.s2) rfl rfl rfl ?_ ?_ ?_
        · ((try dsimp only [go_sem, Nat.reduceAdd, Nat.reduceMul, Nat.reduceSub]); repeat (simp only [Nat.beq_refl]; try dsimp only [go_sem, Nat.reduceAdd, Nat.reduceMul, Nat.reduceSub]))
          simp [mtL, mtB, mtS]
        · ((try dsimp only [go_sem, Nat.reduceAdd, Nat.reduceMul, Nat.reduceSub]); repeat (simp only [Nat.beq_refl]; try dsimp only [go_sem, Nat.reduceAdd, Nat.reduceMul, Nat.reduceSub]))
          simp [KFR_iff, meetL, KFL, KF]
        rintro _ ⟨l2, hp2, hs3, rfl⟩
        ((try dsimp only [rowO, go_sem, Nat.reduceAdd, Nat.reduceMul, Nat.reduceSub]); repeat (simp only [Nat.beq_refl]; try dsimp only [go_sem, Nat.reduceAdd, Nat.reduceMul, Nat.reduceSub]))
        have ce := cutl_rec Meet.day cd hp2 hs3 (by omega)
        have pq : PIn a b l l2 := pp.trans (hp2.mono (by omega) (by omega))
        have hl2 := pq.len
        by_cases hg : mid < mid + m - i ∧ mid + m - i < b
        · rw [show decide ((mid : Int) < ((mid + m - i : Nat) : Int)) = true from by simp; omega]
          repeat (refine .inl ⟨rfl, ?_⟩; ((try dsimp only [go_sem, Nat.reduceAdd, Nat.reduceMul, Nat.reduceSub]); repeat (simp only [Nat.beq_refl]; try dsimp only [go_sem, Nat.reduceAdd, Nat.reduceMul, Nat.reduceSub])))
          refine br_t (by simp; omega) ?_
          dsimp only [go_sem, Nat.reduceAdd, Nat.reduceMul, Nat.reduceSub]
          refine callmP [0] (ih mid (mid + m - i) b l2 (by omega) hg.1 hg.2 (by omega) (by omega) ce.s3 ce.s4) rfl rfl rfl ?_ ?_ ?_
          · ((try dsimp only [go_sem, Nat.reduceAdd, Nat.reduceMul, Nat.reduceSub]); repeat (simp only [Nat.beq_refl]; try dsimp only [go_sem, Nat.reduceAdd, Nat.reduceMul, Nat.reduceSub]))
            simp [mtL, mtB, mtS]
          · ((try dsimp only [go_sem, Nat.reduceAdd, Nat.reduceMul, Nat.reduceSub]); repeat (simp only [Nat.beq_refl]; try dsimp only [go_sem, Nat.reduceAdd, Nat.reduceMul, Nat.reduceSub]))
            simp [KFR_iff, meetL, KFL, KF]
          rintro _ ⟨l3, hp3, hs4, rfl⟩
          ((try dsimp only [rowO, go_sem, Nat.reduceAdd, Nat.reduceMul, Nat.reduceSub]); repeat (simp only [Nat.beq_refl]; try dsimp only [go_sem, Nat.reduceAdd, Nat.reduceMul, Nat.reduceSub]))
          refine ⟨_, ⟨l3, pq.trans (hp3.mono (by omega) (by omega)), cut_rec Meet.day ce hp3 hs4 (by omega), rfl⟩, ?_⟩
          try simp only [rowO]
          (refine entO_id ?_ ?_ ?_ rfl <;> dsimp only [meetL, id, go_sem, Nat.reduceAdd, Nat.reduceMul, Nat.reduceSub] <;> simp [meetL, KFR_iff, KFR_app, KFR, KFL, KF, mtL_same, mtO, Nat.beq_refl])
        · skip
          repeat (refine gb ?_; ((try dsimp only [go_sem, Nat.reduceAdd, Nat.reduceMul, Nat.reduceSub]); repeat (simp only [Nat.beq_refl]; try dsimp only [go_sem, Nat.reduceAdd, Nat.reduceMul, Nat.reduceSub])))
          refine br_f (by simp; omega) ?_
          dsimp only [go_sem, Nat.reduceAdd, Nat.reduceMul, Nat.reduceSub]
          refine ⟨_, ⟨l2, pq, cut_no Meet.day ce hg, rfl⟩, ?_⟩
          try simp only [rowO]
          (refine entO_id ?_ ?_ ?_ rfl <;> dsimp only [meetL, id, go_sem, Nat.reduceAdd, Nat.reduceMul, Nat.reduceSub] <;> simp [meetL, KFR_iff, KFR_app, KFR, KFL, KF, mtL_same, mtO, Nat.beq_refl])
      · skip
        repeat (refine gb ?_; ((try dsimp only [go_sem, Nat.reduceAdd, Nat.reduceMul, Nat.reduceSub]); repeat (simp only [Nat.beq_refl]; try dsimp only [go_sem, Nat.reduceAdd, Nat.reduceMul, Nat.reduceSub])))
        refine br_f (by simp; omega) ?_
        dsimp only [go_sem, Nat.reduceAdd, Nat.reduceMul, Nat.reduceSub]
        have ce := cutl_no Meet.day cd hf
        have pq := pp
        have hl2 := pq.len
        by_cases hg : mid < mid + m - i ∧ mid + m - i < b
        · rw [show decide ((mid : Int) < ((mid + m - i : Nat) : Int)) = true from by simp; omega]
          repeat (refine .inl ⟨rfl, ?_⟩; ((try dsimp only [go_sem, Nat.reduceAdd, Nat.reduceMul, Nat.reduceSub]); repeat (simp only [Nat.beq_refl]; try dsimp only [go_sem, Nat.reduceAdd, Nat.reduceMul, Nat.reduceSub])))
          refine br_t (by simp; omega) ?_
          dsimp only [go_sem, Nat.reduceAdd, Nat.reduceMul, Nat.reduceSub]
          refine callmP [0] (ih mid (mid + m - i) b l1 (by omega) hg.1 hg.2 (by omega) (by omega) ce.s3 ce.s4) rfl rfl rfl ?_ ?_ ?_
          · ((try dsimp only [go_sem, Nat.reduceAdd, Nat.reduceMul, Nat.reduceSub]); repeat (simp only [Nat.beq_refl]; try dsimp only [go_sem, Nat.reduceAdd, Nat.reduceMul, Nat.reduceSub]))
            simp [mtL, mtB, mtS]
          · ((try dsimp only [go_sem, Nat.reduceAdd, Nat.reduceMul, Nat.reduceSub]); repeat (simp only [Nat.beq_refl]; try dsimp only [go_sem, Nat.reduceAdd, Nat.reduceMul, Nat.reduceSub]))
            simp [KFR_iff, meetL, KFL, KF]
          rintro _ ⟨l3, hp3, hs4, rfl⟩
          ((try dsimp only [rowO, go_sem, Nat.reduceAdd, Nat.reduceMul, Nat.reduceSub]); repeat (simp only [Nat.beq_refl]; try dsimp only [go_sem, Nat.reduceAdd, Nat.reduceMul, Nat.reduceSub]))
          refine ⟨_, ⟨l3, pq.trans (hp3.mono (by omega) (by omega)), cut_rec Meet.day ce hp3 hs4 (by omega), rfl⟩, ?_⟩
          try simp only [rowO]
          (refine entO_id ?_ ?_ ?_ rfl <;> dsimp only [meetL, id, go_sem, Nat.reduceAdd, Nat.reduceMul, Nat.reduceSub] <;> simp [meetL, KFR_iff, KFR_app, KFR, KFL, KF, mtL_same, mtO, Nat.beq_refl])
        · skip
          repeat (refine gb ?_; ((try dsimp only [go_sem, Nat.reduceAdd, Nat.reduceMul, Nat.reduceSub]); repeat (simp only [Nat.beq_refl]; try dsimp only [go_sem, Nat.reduceAdd, Nat.reduceMul, Nat.reduceSub])))
          refine br_f (by simp; omega) ?_
          dsimp only [go_sem, Nat.reduceAdd, Nat.reduceMul, Nat.reduceSub]
          refine ⟨_, ⟨l1, pq, cut_no Meet.day ce hg, rfl⟩, ?_⟩
          try simp only [rowO]
          (refine entO_id ?_ ?_ ?_ rfl <;> dsimp only [meetL, id, go_sem, Nat.reduceAdd, Nat.reduceMul, Nat.reduceSub] <;> simp [meetL, KFR_iff, KFR_app, KFR, KFL, KF, mtL_same, mtO, Nat.beq_refl])
    · skip
      repeat (refine gb ?_; ((try dsimp only [go_sem, Nat.reduceAdd, Nat.reduceMul, Nat.reduceSub]); repeat (simp only [Nat.beq_refl]; try dsimp only [go_sem, Nat.reduceAdd, Nat.reduceMul, Nat.reduceSub])))
      refine br_f (by simp; omega) ?_
      dsimp only [go_sem, Nat.reduceAdd, Nat.reduceMul, Nat.reduceSub]
      have cd := cutd_no Meet.day cut hs1 hs2 hr
      have pp : PIn a b l l := .refl _ _ _
      have hl1 := pp.len
      by_cases hf : a < i ∧ i < mid
      · rw [show decide ((a : Int) < (i : Int)) = true from by simp; omega]
        repeat (refine .inl ⟨rfl, ?_⟩; ((try dsimp only [go_sem, Nat.reduceAdd, Nat.reduceMul, Nat.reduceSub]); repeat (simp only [Nat.beq_refl]; try dsimp only [go_sem, Nat.reduceAdd, Nat.reduceMul, Nat.reduceSub])))
        refine br_t (by simp; omega) ?_
        dsimp only [go_sem, Nat.reduceAdd, Nat.reduceMul, Nat.reduceSub]
        refine callmP [0] (ih a i mid l (by omega) hf.1 hf.2 (by omega) (by omega) cd.s1 cd.s2) rfl rfl rfl ?_ ?_ ?_
        · ((try dsimp only [go_sem, Nat.reduceAdd, Nat.reduceMul, Nat.reduceSub]); repeat (simp only [Nat.beq_refl]; try dsimp only [go_sem, Nat.reduceAdd, Nat.reduceMul, Nat.reduceSub]))
          simp [mtL, mtB, mtS]
        · ((try dsimp only [go_sem, Nat.reduceAdd, Nat.reduceMul, Nat.reduceSub]); repeat (simp only [Nat.beq_refl]; try dsimp only [go_sem, Nat.reduceAdd, Nat.reduceMul, Nat.reduceSub]))
          simp [KFR_iff, meetL, KFL, KF]
        rintro _ ⟨l2, hp2, hs3, rfl⟩
        ((try dsimp only [rowO, go_sem, Nat.reduceAdd, Nat.reduceMul, Nat.reduceSub]); repeat (simp only [Nat.beq_refl]; try dsimp only [go_sem, Nat.reduceAdd, Nat.reduceMul, Nat.reduceSub]))
        have ce := cutl_rec Meet.day cd hp2 hs3 (by omega)
        have pq : PIn a b l l2 := pp.trans (hp2.mono (by omega) (by omega))
        have hl2 := pq.len
        by_cases hg : mid < mid + m - i ∧ mid + m - i < b
        · rw [show decide ((mid : Int) < ((mid + m - i : Nat) : Int)) = true from by simp; omega]
          repeat (refine .inl ⟨rfl, ?_⟩; ((try dsimp only [go_sem, Nat.reduceAdd, Nat.reduceMul, Nat.reduceSub]); repeat (simp only [Nat.beq_refl]; try dsimp only [go_sem, Nat.reduceAdd, Nat.reduceMul, Nat.reduceSub])))
          refine br_t (by simp; omega) ?_
          dsimp only [go_sem, Nat.reduceAdd, Nat.reduceMul, Nat.reduceSub]
          refine callmP [0] (ih mid (mid + m - i) b l2 (by omega) hg.1 hg.2 (by omega) (by omega) ce.s3 ce.s4) rfl rfl rfl ?_ ?_ ?_
          · ((try dsimp only [go_sem, Nat.reduceAdd, Nat.reduceMul, Nat.reduceSub]); repeat (simp only [Nat.beq_refl]; try dsimp only [go_sem, Nat.reduceAdd, Nat.reduceMul, Nat.reduceSub]))
            simp [mtL, mtB, mtS]
          · ((try dsimp only [go_sem, Nat.reduceAdd, Nat.reduceMul, Nat.reduceSub]); repeat (simp only [Nat.beq_refl]; try dsimp only [go_sem, Nat.reduceAdd, Nat.reduceMul, Nat.reduceSub]))
            simp [KFR_iff, meetL, KFL, KF]
          rintro _ ⟨l3, hp3, hs4, rfl⟩
          ((try dsimp only [rowO, go_sem, Nat.reduceAdd, Nat.reduceMul, Nat.reduceSub]); repeat (simp only [Nat.beq_refl]; try dsimp only [go_sem, Nat.reduceAdd, Nat.reduceMul, Nat.reduceSub]))
          refine ⟨_, ⟨l3, pq.trans (hp3.mono (by omega) (by omega)), cut_rec Meet.day ce hp3 hs4 (by omega), rfl⟩, ?_⟩
          try simp only [rowO]
          (refine entO_id ?_ ?_ ?_ rfl <;> dsimp only [meetL, id, go_sem, Nat.reduceAdd, Nat.reduceMul, Nat.reduceSub] <;> simp [meetL, KFR_iff, KFR_app, KFR, KFL, KF, mtL_same, mtO, Nat.beq_refl])
        · skip
          repeat (refine gb ?_; ((try dsimp only [go_sem, Nat.reduceAdd, Nat.reduceMul, Nat.reduceSub]); repeat (simp only [Nat.beq_refl]; try dsimp only [go_sem, Nat.reduceAdd, Nat.reduceMul, Nat.reduceSub])))
          refine br_f (by simp; omega) ?_
          dsimp only [go_sem, Nat.reduceAdd, Nat.reduceMul, Nat.reduceSub]
          refine ⟨_, ⟨l2, pq, cut_no Meet.day ce hg, rfl⟩, ?_⟩
          try simp only [rowO]
          (refine entO_id ?_ ?_ ?_ rfl <;> dsimp only [meetL, id, go_sem, Nat.reduceAdd, Nat.reduceMul, Nat.reduceSub] <;> simp [meetL, KFR_iff, KFR_app, KFR, KFL, KF, mtL_same, mtO, Nat.beq_refl])
      · skip
        repeat (refine gb ?_; ((try dsimp only [go_sem, Nat.reduceAdd, Nat.reduceMul, Nat.reduceSub]); repeat (simp only [Nat.beq_refl]; try dsimp only [go_sem, Nat.reduceAdd, Nat.reduceMul, Nat.reduceSub])))
        refine br_f (by simp; omega) ?_
        dsimp only [go_sem, Nat.reduceAdd, Nat.reduceMul, Nat.reduceSub]
        have ce := cutl_no Meet.day cd hf
        have pq := pp
        have hl2 := pq.len
        by_cases hg : mid < mid + m - i ∧ mid + m - i < b
        · rw [show decide ((mid : Int) < ((mid + m - i : Nat) : Int)) = true from by simp; omega]
          repeat (refine .inl ⟨rfl, ?_⟩; ((try dsimp only [go_sem, Nat.reduceAdd, Nat.reduceMul, Nat.reduceSub]); repeat (simp only [Nat.beq_refl]; try dsimp only [go_sem, Nat.reduceAdd, Nat.reduceMul, Nat.reduceSub])))
          refine br_t (by simp; omega) ?_
          dsimp only [go_sem, Nat.reduceAdd, Nat.reduceMul, Nat.reduceSub]
          refine callmP [0] (ih mid (mid + m - i) b l (by omega) hg.1 hg.2 (by omega) (by omega) ce.s3 ce.s4) rfl rfl rfl ?_ ?_ ?_
          · ((try dsimp only [go_sem, Nat.reduceAdd, Nat.reduceMul, Nat.reduceSub]); repeat (simp only [Nat.beq_refl]; try dsimp only [go_sem, Nat.reduceAdd, Nat.reduceMul, Nat.reduceSub]))
            simp [mtL, mtB, mtS]
          · ((try dsimp only [go_sem, Nat.reduceAdd, Nat.reduceMul, Nat.reduceSub]); repeat (simp only [Nat.beq_refl]; try dsimp only [go_sem, Nat.reduceAdd, Nat.reduceMul, Nat.reduceSub]))
            simp [KFR_iff, meetL, KFL, KF]
          rintro _ ⟨l3, hp3, hs4, rfl⟩
          ((try dsimp only [rowO, go_sem, Nat.reduceAdd, Nat.reduceMul, Nat.reduceSub]); repeat (simp only [Nat.beq_refl]; try dsimp only [go_sem, Nat.reduceAdd, Nat.reduceMul, Nat.reduceSub]))
          refine ⟨_, ⟨l3, pq.trans (hp3.mono (by omega) (by omega)), cut_rec Meet.day ce hp3 hs4 (by omega), rfl⟩, ?_⟩
          try simp only [rowO]
          (refine entO_id ?_ ?_ ?_ rfl <;> dsimp only [meetL, id, go_sem, Nat.reduceAdd, Nat.reduceMul, Nat.reduceSub] <;> simp [meetL, KFR_iff, KFR_app, KFR, KFL, KF, mtL_same, mtO, Nat.beq_refl])
        · skip
          repeat (refine gb ?_; ((try dsimp only [go_sem, Nat.reduceAdd, Nat.reduceMul, Nat.reduceSub]); repeat (simp only [Nat.beq_refl]; try dsimp only [go_sem, Nat.reduceAdd, Nat.reduceMul, Nat.reduceSub])))
          refine br_f (by simp; omega) ?_
          dsimp only [go_sem, Nat.reduceAdd, Nat.reduceMul, Nat.reduceSub]
          refine ⟨_, ⟨l, pq, cut_no Meet.day ce hg, rfl⟩, ?_⟩
          try simp only [rowO]
          (refine entO_id ?_ ?_ ?_ rfl <;> dsimp only [meetL, id, go_sem, Nat.reduceAdd, Nat.reduceMul, Nat.reduceSub] <;> simp [meetL, KFR_iff, KFR_app, KFR, KFL, KF, mtL_same, mtO, Nat.beq_refl])
end Go.Proofs.Ytnlfjchbhgikaaa
